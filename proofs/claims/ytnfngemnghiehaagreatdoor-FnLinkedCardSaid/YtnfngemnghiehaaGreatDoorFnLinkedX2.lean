/- Contracts of the functions that laws.FnLinked reaches are proved here (part 2). Condition: none. -/
import Derived.Test.YtnfngemnghiehaaGreatDoorFnLinkedX1
import Derived.Test.YtnfngemnghiehaaGreatDoorAwp3
import Derived.Test.YtnfngemnghiehaaGreatDoorRows
import Derived.Test.YtnfngemnghiehaaGreatDoorCards
import Derived.Test.YtnfngemnghiehaaGreatDoorTie
import Derived.Shelf.Lays
import Derived.Sort.Walk0
import Derived.Shelf.Strings.Search3
import Derived.Shelf.Strings.Count
import Derived.Shelf.Strings.OnBuilder
import Derived.Shelf.Sort.Plain
import Derived.Shelf.Slices.In.SortNone
import Derived.Shelf.Spec.SlicesInsert
import Derived.Shelf.Spec.SlicesInsertGrow
import Derived.Deep.MidRow
import Derived.ArgAppend
import Derived.OpenShut
import Derived.SevenTiedAt
import Derived.KernelRfl
set_option linter.unusedVariables false
set_option linter.unusedSimpArgs false
set_option maxRecDepth 100000
set_option maxHeartbeats 20000000
open Nat (reduceEqDiff reduceAdd reduceMul reduceSub)
open Int (reduceNeg reduceToNat reducePow)
namespace Go.Proofs.YtnfngemnghiehaaGreatDoor.Awp
theorem aqy (l:List aA) (n:aA):l.map dF++[[TV.str n]]=(l++[n]).map dF:=by simp [dF]
theorem am2 (c:UInt8):((c.toNat:Int)=47)↔c=47:=by
 rw [← UInt8.toNat_inj]
 show _↔c.toNat=47
 omega
theorem dU (s:aA) (hl:s.length<2^40):aY Tryz.prog 91 [.str s] (.tup [.own 1 ((aB s).1.map dF),.bool (aB s).2]) [.undef]:=by
 by_cases h0:s=[47]
 ·subst h0
  refine U sE [] 253 [] fun w hP hQ=>?_
  unfold nG
  refine N ?_
  rfl
 refine U sE [] 253 [] fun w hP hQ=>?_
 unfold nG
 refine N ?_
 have hz:=h0
 refine Nz ?_
 refine eU [2,3,7] ?_
 refine N ?_
 refine aR [2,3,7] (fun x:Nat × Nat × List aA=>[(4,.own 1 (x.2.2.map dF)),(5,.int .i64 (x.2.1:Nat)),(6,.int .i64 (x.1:Nat))]) (fun x=>Cut s x.1 x.2.1 x.2.2) (fun x=>s.length+1-x.1) ((0,0,[])) hP hQ (rfl) (Cut.zero s) ?_
 rintro ⟨i,j,out⟩ hC w1 hP1 hQ1
 refine N1 ?_
 simp only at hC
 have c1:=hC.le
 have c2:=hC.end'
 have c3:=hC.len
 (first | with_reducible refine cP _ ?_ ?_ | refine cQ _ ?_ ?_) <;> intro h1
 ·have next:(i=s.length∨∃ h:i<s.length,s[i]=47)→_:=fun hc=>hc
  by_cases hi:i<s.length∧∃ h:i<s.length,s[i]≠47
  ·obtain ⟨_,h2,h3⟩:=hi
   have e1:decide (((i:Nat):Int)<(s.length:Nat))=true:=lG (by omega)
   have e2:decide (((s[i].toNat:Nat):Int)=47)=false:=lB fun e=>h3 ((am2 _).1 e)
   have hz:=And.intro e1 (And.intro e2 (bF (show ((i:Nat):Int)<(s.length:Nat) by omega)))
   refine Nz1 ?_
   exact ⟨(i+1,j,out),rfl,hC.skip h2 h3,by simp only; omega⟩
  ·have hc:i=s.length∨∃ h:i<s.length,s[i]=47:=by
    by_cases e:i<s.length
    ·exact .inr ⟨e,Classical.byContradiction fun h=>hi ⟨e,e,h⟩⟩
    ·exact .inl (by omega)
   have hw:1≤s.length→i<s.length→∃ h:i<s.length,s[i]=47:=fun _ h=>hc.resolve_left (by omega)
   have e1:∃ b:Bool,decide (((i:Nat):Int)<(s.length:Nat))=b:=⟨_,rfl⟩
   rcases Nat.eq_zero_or_pos i with rfl | hp
   ·obtain rfl:=hC.z rfl
    have hF:Cut s 1 1 []:=Cut.first (hc.imp (fun h=>h.symm) id)
    rcases hc with hc | ⟨hc,hx⟩
    ·have e1:decide (((0:Nat):Int)<(s.length:Nat))=false:=lB (by omega)
     have e1':decide ((0:Int)<(s.length:Nat))=false:=lB (by omega)
     have hz:=And.intro e1 e1'
     refine Nz1 ?_
     exact ⟨(1,1,[]),rfl,hF,by simp only; omega⟩
    ·have e1:decide (((0:Nat):Int)<(s.length:Nat))=true:=lG (by omega)
     have e1':decide ((0:Int)<(s.length:Nat))=true:=lG (by omega)
     have e2:decide (((s[0].toNat:Nat):Int)=47)=true:=lG ((am2 _).2 hx)
     have hz:=And.intro e1 (And.intro e1' (And.intro e2 (bF (show ((0:Nat):Int)<(s.length:Nat) by omega))))
     refine Nz1 ?_
     exact ⟨(1,1,[]),rfl,hF,by simp only; omega⟩
   ·have hi2:i≤s.length:=by omega
    have e3:decide ((0:Int)<((i:Nat):Int))=true:=lG (by omega)
    have e4:(((i:Nat):Int)-(j:Nat)).toNat=i-j:=by omega
    have e5:(0:Int)≤(j:Nat)∧((j:Nat):Int)≤(i:Nat)∧((i:Nat):Int)≤(s.length:Nat):=by omega
    have hB:=hC.bad hp hi2 hc
    have hN:=hC.next hp hi2 hc
    have hO:=dN ((s.drop j).take (i-j)) (by simp; omega)
    obtain ⟨nm,hnm⟩:∃ nm,(s.drop j).take (i-j)=nm:=⟨_,rfl⟩
    rw [hnm] at hB hN hO
    rcases hc with hc | ⟨hc,hx⟩
    ·have e1:decide (((i:Nat):Int)<(s.length:Nat))=false:=lB (by omega)
     have hz:=And.intro e1 (And.intro e3 (And.intro e4 (And.intro e5 hnm)))
     refine Nz1 ?_
     cases hn:bB nm with
     | false=>
      rw [hn] at hO
      (first|refine cI hP1 (hO) rfl rfl ?_|refine cH hP1 (hO) rfl rfl ?_)
      simp +decide (maxSteps:=9^9) (disch:=omega) only[↓SB0,SX,seval,hQ,hQ1,hB (.inl hn) h0,lP1]
     | true=>
      rw [hn] at hO
      by_cases h30:out.length=30
      ·(first|refine cI hP1 (hO) rfl rfl ?_|refine cH hP1 (hO) rfl rfl ?_)
       simp +decide (maxSteps:=9^9) (disch:=omega) only[↓SB0,SX,seval,hQ,hQ1,h30,hB (.inr h30) h0,lP1]
      ·have e6:decide (((out.length:Nat):Int)=30)=false:=lB (by omega)
       have hC2:=hN hn (by omega)
       have hz:=And.intro e6 aqy
       refine Kz1 (hO) ?_
       exact ⟨(i+1,i+1,out++[nm]),rfl,hC2,by simp only; omega⟩
    ·have e1:decide (((i:Nat):Int)<(s.length:Nat))=true:=lG (by omega)
     have e2:decide (((s[i].toNat:Nat):Int)=47)=true:=lG ((am2 _).2 hx)
     have hz:=And.intro e1 (And.intro e2 (And.intro e3 (And.intro e4 (And.intro e5 (And.intro hnm (bF (show ((i:Nat):Int)<(s.length:Nat) by omega)))))))
     refine Nz1 ?_
     cases hn:bB nm with
     | false=>
      rw [hn] at hO
      (first|refine cI hP1 (hO) rfl rfl ?_|refine cH hP1 (hO) rfl rfl ?_)
      simp +decide (maxSteps:=9^9) (disch:=omega) only[↓SB0,SX,seval,hQ,hQ1,hB (.inl hn) h0,lP1]
     | true=>
      rw [hn] at hO
      by_cases h30:out.length=30
      ·(first|refine cI hP1 (hO) rfl rfl ?_|refine cH hP1 (hO) rfl rfl ?_)
       simp +decide (maxSteps:=9^9) (disch:=omega) only[↓SB0,SX,seval,hQ,hQ1,h30,hB (.inr h30) h0,lP1]
      ·have e6:decide (((out.length:Nat):Int)=30)=false:=lB (by omega)
       have hC2:=hN hn (by omega)
       have hz:=And.intro e6 aqy
       refine Kz1 (hO) ?_
       exact ⟨(i+1,i+1,out++[nm]),rfl,hC2,by simp only; omega⟩
 ·obtain rfl:i=s.length+1:=by omega
  cases s with
  | nil=>
   simp +decide (maxSteps:=9^9) (disch:=omega) only[↓SB0,SX,seval,hQ,hQ1,uB (s:=[]) (by simp),lP1]
  | cons c s=>
   have e7:decide ((((s.length+1:Nat)):Int)=0)=false:=lB (by omega)
   have e8:(0:Int)<((s.length+1:Nat):Int):=by omega
   by_cases hc:c=47
   ·subst hc
    simp +decide (maxSteps:=9^9) (disch:=omega) only[↓SB0,SX,seval,hQ,hQ1,e7,e8,lV3,hC.done rfl h0]
   ·have e9:decide (((c.toNat:Nat):Int)=47)=false:=lB fun e=>hc ((am2 _).1 e)
    simp +decide (maxSteps:=9^9) (disch:=omega) only[↓SB0,SX,seval,hQ,hQ1,e7,e8,lV3,e9,uB (s:=c::s) (by simpa using hc),lP1]
theorem afw (l:List aA) (hl:l.length<2^30) (hs:∀ n ∈ l,n.length≤14):aY Tryz.prog 139 [.ext 1 (l.map dF)] (.str (cF l)) [.undef]:=by
 by_cases h0:l=[]
 ·subst h0
  refine U uP [] 29 [] fun w hP hQ=>?_
  unfold oV
  refine N ?_
  rfl
 have hp:0<l.length:=lM3.2 h0
 have hd:decide (((l.length:Nat):Int)=0)=false:=lB (by omega)
 refine U uP [] 29 [] fun w hP hQ=>?_
 unfold oV
 refine N ?_
 have hz:=hd
 refine Nz ?_
 refine eU [2] ?_
 refine N ?_
 refine aR [2] (fun i:Nat=>[(3,.str (eN (l.take i))),(4,.int .i64 (i:Nat))]) (fun i=>i≤l.length∧(i=0∨l.length≤30)∧∀ k,k<i→(h:k<l.length)→bB l[k]=true) (fun i=>l.length-i) (0) hP hQ (rfl) (by simp) ?_
 rintro i ⟨hi,h30,hk⟩ w1 hP1 hQ1
 refine N1 ?_
 (first | with_reducible refine cP _ ?_ ?_ | refine cQ _ ?_ ?_) <;> intro h1
 ·have hlt:i<l.length:=by omega
  have hO:=dN (l[i]) (by have:=hs _ (lP hlt); omega)
  have hm:=lP hlt
  simp +decide (maxSteps:=9^9) (disch:=omega) only[↓SB0,SX,seval,hQ,hQ1,bF h1,dF]
  cases hn:bB (l[i]'(by omega)) with
  | false=>
   rw [hn] at hO
   have e:cF l=[]:=by rw [cF,lI (by simp [adb hm hn])]
   have hz:=e
   exact Kz1 (hO) trivial
  | true=>
   rw [hn] at hO
   by_cases hg:30<l.length
   ·have e:cF l=[]:=by rw [cF,lI (by simp [aay hg])]
    have hg':decide ((30:Int)<(l.length:Nat))=true:=lG (by omega)
    have hz:=And.intro e hg'
    exact Kz1 (hO) trivial
   ·have hg':decide ((30:Int)<(l.length:Nat))=false:=lB (by omega)
    have hb:(eN (l.take i)).length≤450:=x8 (pY (by rw [lN]; omega) fun n hn=>by
     obtain ⟨k,hk1,rfl⟩:=lV1 hn
     rw [List.getElem_take]
     exact hk k (by simp at hk1; omega) _)
    have hc:=hs _ hm
    have hb2:(eN (l.take i)++[47]).length+(l[i]).length≤4611686018427387904:=by simp only [lU,List.length_singleton]; omega
    have he:eN (l.take i)++[47]++l[i]=eN (l.take (i+1)):=by rw [lT hlt,aiz]; simp
    (first|refine cI hP1 (hO) rfl rfl ?_|refine cH hP1 (hO) rfl rfl ?_)
    simp +decide (maxSteps:=9^9) (disch:=omega) only[↓SB0,SX,seval,hQ,hQ1,hg',bF h1,dF,hb2,he]
    exact ⟨i+1,rfl,⟨by omega,.inr (by omega),fun k hk1 hk2=>by
     by_cases e:k=i
     ·subst e; exact hn
     ·exact hk k (by omega) hk2⟩,by omega⟩
 ·obtain rfl:i=l.length:=by omega
  have e:cF l=eN l:=by
   rw [cF,lF (pY (by omega) fun n hn=>by obtain ⟨k,h,rfl⟩:=lV1 hn; exact hk k h h),lI h0]
  simp +decide (maxSteps:=9^9) (disch:=omega) only[↓SB0,SX,seval,hQ,hQ1,e,lW1]
theorem f5 (s:aA) (hl:s.length<2^40):aY Tryz.prog 75 [.str s] (.tup [.str (aK s).1,.str (aK s).2.1,.bool (aK s).2.2]) [.undef]:=by
 have hS:=dU s hl
 have hp:=uC (s:=s)
 have hf:=mX s
 unfold aK
 generalize aB s=x at *
 obtain ⟨l,b⟩:=x
 cases b with
 | false=>
  rw [lI (by simp)]
  refine U oY [] 253 [] fun w hP hQ=>?_
  unfold kL
  refine N ?_
  exact K (hS) trivial
 | true=>
  cases hk:l.length with
  | zero=>
   obtain rfl:l=[]:=lT1.1 hk
   rw [lI (by simp)]
   refine U oY [] 253 [] fun w hP hQ=>?_
   unfold kL
   refine N ?_
   exact K (hS) trivial
  | succ k=>
   have hne:l≠[]:=fun e=>by rw [e] at hk; simp at hk
   rw [lF ⟨rfl,hne⟩]
   have hJ:=afw l.dropLast (by simp; simp only at hf; omega) fun n hn=>hp n (List.dropLast_subset _ hn)
   rw [List.dropLast_eq_take,hk] at hJ ⊢
   simp only [Nat.add_sub_cancel,lG4] at hJ ⊢
   have hg:=x9 hk
   have h0:(decide (((k+1:Nat):Int)=0))=false:=lB (by omega)
   have h1:(((k+1:Nat):Int)-1)=(k:Int):=by omega
   have h2:((k:Int)-0).toNat=k:=by omega
   have h3:0+k≤k+1:=by omega
   have h4:=aaA (n:=k) (by simp only [hk] at hf; omega)
   refine U oY [] 253 [] fun w hP hQ=>?_
   unfold kL
   refine N ?_
   have hz:=And.intro hk (And.intro h0 (And.intro h1 (And.intro h2 (And.intro h3 h4))))
   refine Kz (hS) ?_
   (first|refine cI hP (hJ) rfl rfl ?_|refine cH hP (hJ) rfl rfl ?_)
   simp +decide (maxSteps:=9^9) (disch:=omega) only[↓SB0,SX,seval,hQ,hk,h0,h1,h2,h3,h4,hg,dF]
theorem am3 (a b:aA) (ha:a.length<2^40) (hb:b.length<2^40):aY Tryz.prog 98 [.str a,.str b] (.bool (abw a b)) [.undef,.undef]:=by
 have hS:=dU a ha
 have hT:=dU b hb
 have hf:=mX a
 have hg:=mX b
 unfold abw
 generalize aB a=x at *
 generalize aB b=y at *
 obtain ⟨l,u⟩:=x
 obtain ⟨m,v⟩:=y
 simp only at *
 cases u with
 | false=>
  refine U sF [] 1011 [] fun w hP hQ=>?_
  unfold oT
  refine N ?_
  refine K (hS) ?_
  exact K (hT) trivial
 | true=>
  cases v with
  | false=>
   refine U sF [] 1011 [] fun w hP hQ=>?_
   unfold oT
   refine N ?_
   refine K (hS) ?_
   exact K (hT) trivial
  | true=>
   by_cases hn:l.length≤m.length
   ·rw [afu hn]
    have h0:decide (((m.length:Nat):Int)<(l.length:Nat))=false:=lB (by omega)
    refine U sF [] 1011 [] fun w hP hQ=>?_
    unfold oT
    refine N ?_
    refine K (hS) ?_
    have hz:=h0
    refine Kz (hT) ?_
    refine eU [4] ?_
    refine N ?_
    refine aR [4] (fun i:Nat=>[(9,.int .i64 i)]) (fun i=>i≤l.length∧l.take i=m.take i) (fun i=>l.length-i) (0) hP hQ (rfl) (by simp) ?_
    rintro i ⟨hi,hab⟩ w1 hP1 hQ1
    refine N1 ?_
    (first | with_reducible refine cP _ ?_ ?_ | refine cQ _ ?_ ?_) <;> intro h1
    ·have h5:((i:Nat):Int)<(m.length:Nat):=by omega
     simp +decide (maxSteps:=9^9) (disch:=omega) only[↓SB0,SX,seval,hQ,hQ1,bF h1,bF h5,dF]
     (first | with_reducible refine cP _ ?_ ?_ | refine cQ _ ?_ ?_) <;> intro h2
     ·refine N1 ?_
      exact ⟨i+1,rfl,⟨by omega,iT hab _ _ h2⟩,by omega⟩
     ·refine N1 ?_
      rw [lB (show ¬ l=m.take l.length from fun e=>h2 (by
       have:=congrArg (fun x=>x[i]?) e
       simp only [lZ] at this
       rw [lF (by omega),lK (by omega),lK (by omega)] at this
       exact Option.some.inj this))]
    ·obtain rfl:i=l.length:=by omega
     rw [lW1] at hab
     refine N1 ?_
     rw [lG hab]
   ·rw [afv (by omega)]
    have h0:decide (((m.length:Nat):Int)<(l.length:Nat))=true:=lG (by omega)
    refine U sF [] 1011 [] fun w hP hQ=>?_
    unfold oT
    refine N ?_
    refine K (hS) ?_
    have hz:=h0
    exact Kz (hT) trivial
section
section
variable {α:Type} {key:α→aA}
theorem uD {l:List α} {e:α} {k:Nat} (hk:k≤l.length) (h1:∀ j,j<k→(h:j<l.length)→¬ key e<key l[j]) (h2:∀ h:k<l.length,key e<key l[k]):tD key l e=l.take k++e::l.drop k:=by
 induction l generalizing k with
 | nil=>simp at hk; subst hk; rfl
 | cons f l ih=>
  rw [tD]
  cases k with
  | zero=>have h:=h2 (by simp); simp only [lA4] at h; rw [lF h]; rfl
  | succ k=>
   have h:=h1 0 (by omega) (by simp)
   simp only [lA4] at h
   rw [lI h,ih (k:=k) (by simpa using hk) (fun j hj h=>h1 (j+1) (by omega) (by simpa using h)) (fun h=>h2 (by simpa using h))]
   rfl
theorem sV {l:List α} (hu:UpK key l) {e:α} {k:Nat} (hk:k≤l.length) (h1:∀ j,k≤j→(h:j<l.length)→key e<key l[j]) (h2:k=0∨∃ h:k-1<l.length,¬ key e<key l[k-1]):tD key l e=l.take k++e::l.drop k:=by
 refine uD hk (fun j hj h hlt=>?_) (fun h=>h1 k (lJ1 _) h)
 rcases h2 with h2 | ⟨h2,h3⟩
 ·omega
 ·by_cases e1:j=k-1
  ·subst e1; exact h3 hlt
  ·exact h3 (List.lt_trans hlt (lN3.1 hu j (k-1) h h2 (by omega)))
theorem am4 {l:List α} {e:α} {k:Nat} (h:l.findIdx? (fun x=>decide (key e<key x))=some k):k<l.length∧tD key l e=l.take k++e::l.drop k:=by
 obtain ⟨h1,h2,h3⟩:=lZ1.1 h
 refine ⟨h1,uD (by omega) (fun j hj hl=>?_) (fun _=>by simpa using h2)⟩
 simpa using h3 j hj
theorem am5 {l:List α} {e:α} (h:l.findIdx? (fun x=>decide (key e<key x))=none):tD key l e=l.take l.length++e::l.drop l.length:=by
 rw [lW2] at h
 exact uD (lJ1 _) (fun j hj hl=>by simpa using h _ (lP hl)) (fun h=>absurd h (Nat.lt_irrefl _))
end
theorem aaC {l:List Inode} (h:UpI l) {x:Inode} {k:Nat} (hk:l.findIdx? (fun y=>decide (y.ino=x.ino))=some k):bW l x=l.set k x:=by
 induction l generalizing k with
 | nil=>simp at hk
 | cons y l ih=>
  obtain ⟨a1,a2⟩:=lC1.1 h
  rw [List.findIdx?_cons] at hk
  rw [bW]
  by_cases e:y.ino=x.ino
  ·rw [lF (by simpa using e)] at hk
   injection hk with hk
   subst hk
   rw [lF e]; rfl
  ·rw [lI (by simpa using e)] at hk
   cases hf:l.findIdx? (fun y=>decide (y.ino=x.ino)) with
   | none=>rw [hf] at hk; cases hk
   | some j=>
    rw [hf] at hk
    injection hk with hk
    subst hk
    obtain ⟨j1,j2,_⟩:=lZ1.1 hf
    have:=a1 _ (lP j1)
    simp only [decide_eq_true_eq] at j2
    rw [lI e,lI (by omega),ih a2 hf]; rfl
theorem adi {l:List Inode} {x:Inode} {k:Nat} (hk:k≤l.length) (h1:∀ j,j<k→(h:j<l.length)→l[j].ino<x.ino) (h2:∀ h:k<l.length,x.ino<l[k].ino):bW l x=l.take k++x::l.drop k:=by
 induction l generalizing k with
 | nil=>simp at hk; subst hk; rfl
 | cons y l ih=>
  rw [bW]
  cases k with
  | zero=>
   have:=h2 (by simp)
   simp only [lA4] at this
   rw [lI (by omega),lF this]; rfl
  | succ k=>
   have:=h1 0 (by omega) (by simp)
   simp only [lA4] at this
   rw [lI (by omega),lI (by omega),ih (k:=k) (by simpa using hk) (fun j hj h=>h1 (j+1) (by omega) (by simpa using h)) (fun h=>h2 (by simpa using h))]
   rfl
theorem set_comm {t:Tab} (h:UpI t.inodes) {x y:Inode} (hne:x.ino≠y.ino):aH (aH t x) y=aH (aH t y) x:=by
 refine akL (fR (fR h x) y) (fR (fR h y) x) rfl fun i=>?_
 rw [bY (fR h x),bY h,bY (fR h y),bY h]
 by_cases e1:y.ino=i <;> by_cases e2:x.ino=i <;> simp [e1,e2] <;> omega
theorem adj {α:Type} {l:List α} {k:Nat} {h:α} (hk:k≤l.length):(l.take k++h::l.drop k).length=l.length+1:=by simp; omega
theorem adk {α:Type} {l:List α} {k:Nat} {h:α} (hk:k<l.length):((l.take (k+1)++h::l.drop (k+1)))[k]?=some l[k]:=by
 rw [lO2 (by simp; omega),lZ,lF (by omega),lK hk]
theorem sW {α:Type} {l:List α} {k:Nat} (h x:α) (hk:k≤l.length):(l.take k++h::l.drop k).set k x=l.take k++x::l.drop k:=by
 have:(l.take k).length=k:=by simp; omega
 rw [List.set_append_right _ _ (by omega)]
 congr 1
 rw [this,Nat.sub_self]; rfl
theorem aaD {α:Type} {l:List α} {k:Nat} (hk:k<l.length):l.take (k+1)++l[k]::l.drop (k+1)=l.take k++l[k]::l.drop k:=by
 rw [lT hk,lJ2]
 congr 1
 rw [← lQ2 hk]; rfl
end
section
variable {t:Tab}
def aiB (t:Tab) (s:aA) (o n:Int):Rs aA:=if o<0∨n<0 then .error 1 else match cG t s with
 | .ok x=>if x.kind=1 then .ok ((x.data.drop o.toNat).take n.toNat) else .error 3
 | .error c=>.error c
def exB:Rs aA→aA
 | .ok b=>b
 | .error _=>[]
theorem ak8 {p q:aA} (h:(bK t p q).2≠0):(bK t p q).1=t:=by
 unfold bK at *
 split <;> rename_i e
 ·rw [lF e] at h
  split <;> rename_i e2
  ·rw [e2] at h
   simp only at h
   split <;> rename_i e3
   ·rw [e3] at h; exact absurd rfl h
   ·rfl
  ·rfl
 ·rfl
theorem yA {s:aA} (hs:(aB s).2=true) {i:Int} (h:aT (aD t) (aB s).1 1=some i):cG t s=match aD t i with
  | some x=>.ok x
  | none=>.error 2:=by
 rw [cG,(agS hs).2 h,lF rfl]
 all_goals (cases aD t i <;> rfl)
theorem iJ {s:aA} {c:Int} (h:cG t s=.error c):c≠0:=by
 unfold cG at h
 split at h
 ·split at h
  ·cases h
  ·cases h; decide
 ·rename_i e; cases h; exact e
theorem kQ {s:aA} {c:Int} (h:gD t s=.error c):c≠0:=by
 unfold gD at h
 split at h
 ·split at h
  ·cases h
  ·cases h; decide
 ·rename_i e; cases h; exact iJ e
end
theorem bC (m:Nat):((m+1:Nat):Int)-1=(m:Int):=by omega
theorem jA {α:Type} {p:Nat→α→Bool} {lt:α→α→Bool} {l:List α} {i:Nat} (hk:∀ k,k<i→dR p lt l k=true) (hi:dR p lt l i=true):∀ k,k<i+1→dR p lt l k=true:=by
 intro k hlt
 by_cases e:k=i
 ·subst e; exact hi
 ·exact hk k (by omega)
theorem fV {α:Type} {p:Nat→α→Bool} {lt:α→α→Bool} {l:List α} {i:Nat} (h:i<l.length) (hp:p i l[i]=false):dR p lt l i=false:=by
 rw [dR,lK h]; simp [hp]
theorem ak9 {l:List Attr} {n:Nat} (h:szM Attr.sz l<n):l.length<n∧∀ x ∈ l,x.name.length<n∧x.val.length<n:=by
 refine ⟨by simp only [szM] at h; omega,fun x hx=>?_⟩
 have:=abv (f:=Attr.sz) hx
 simp only [szM] at h
 simp only [Attr.sz] at this
 omega
theorem anY {l:List Ent} {n:Nat} (h:szM Ent.sz l<n):l.length<n∧∀ x ∈ l,x.name.length<n:=by
 refine ⟨by simp only [szM] at h; omega,fun x hx=>?_⟩
 have:=abv (f:=Ent.sz) hx
 simp only [szM] at h
 simp only [Ent.sz] at this
 omega
theorem ala {p q:Prop} [Decidable p] [Decidable q] (h:p↔q):decide p=decide q:=by simp [h]
theorem aaE (l:List Attr) (hs:szM Attr.sz l<2^48):aY Tryz.prog 202 [.ext 2 (l.map Attr.row)] (.bool (mU l)) [.undef]:=by
 obtain ⟨hl,hls⟩:=ak9 hs
 refine U ae9 [] 13 [] fun w hP hQ=>?_
 unfold xH
 refine N ?_
 refine eU [2] ?_
 refine N ?_
 refine aR [2] (fun i:Nat=>[(3,.int .i64 i)]) (fun i=>i≤l.length∧∀ k,k<i→dR (fun _=>sP) o9 l k=true) (fun i=>l.length-i) (0) hP hQ (rfl) (by simp) ?_
 rintro i ⟨hi,hk⟩ w1 hP1 hQ1
 refine N1 ?_
 (first | with_reducible refine cP _ ?_ ?_ | refine cQ _ ?_ ?_) <;> intro h1
 ·have hlt:i<l.length:=by omega
  have hno:dR (fun _=>sP) o9 l i=false→mU l=false:=fun e=>(fun e=>by rw [mU,t8,e]; rfl) (p8 hlt e)
  obtain hla:=hls _ (lP hlt)
  cases hN:bB (l[i]'hlt).name with
  | false=>
   have hz:=(bF h1)
   refine Nz1 ?_
   have hz:=hN
   refine Kz1 (dN (l[i]'hlt).name (by omega)) ?_
   rw [hno (fV hlt (by simp [sP,hN]))]
  | true=>
   cases hV:inR (((l[i]'hlt).val.length:Nat)) 1 16 with
   | false=>
    have hz:=(bF h1)
    refine Nz1 ?_
    have hz:=And.intro hN (bF h1)
    refine Kz1 (dN (l[i]'hlt).name (by omega)) ?_
    have hz:=hV
    refine Kz1 (fC (((l[i]'hlt).val.length:Nat)) 1 16) ?_
    rw [hno (fV hlt (by simp [sP,hV]))]
   | true=>
    cases i with
    | zero=>
     have hz:=(bF h1)
     refine Nz1 ?_
     have hz:=And.intro hN (bF h1)
     refine Kz1 (dN (l[0]'hlt).name (by omega)) ?_
     have hz:=And.intro hV (bF h1)
     refine Kz1 (fC (((l[0]'hlt).val.length:Nat)) 1 16) ?_
     exact ⟨1,rfl,⟨by omega,jA hk (by rw [f4 hlt]; simp [sP,hN,hV])⟩,by omega⟩
    | succ m=>
     have w4:decide ((0:Int)<((m+1:Nat):Int))=true:=lG (by omega)
     have hm:=bF (show ((m:Nat):Int)<(l.length:Nat) by omega)
     cases hD:strLt (l[m]'(by omega)).name (l[m+1]'hlt).name with
     | false=>
      have hz:=(bF h1)
      refine Nz1 ?_
      have hz:=And.intro hN (bF h1)
      refine Kz1 (dN (l[m+1]'hlt).name (by omega)) ?_
      have hz:=And.intro hV (And.intro w4 (And.intro bC (And.intro hm (And.intro (bF h1) hD))))
      refine Kz1 (fC (((l[m+1]'hlt).val.length:Nat)) 1 16) ?_
      rw [hno (by rw [bZ hlt,o9,← jI,hD]; simp)]
     | true=>
      have hz:=(bF h1)
      refine Nz1 ?_
      have hz:=And.intro hN (bF h1)
      refine Kz1 (dN (l[m+1]'hlt).name (by omega)) ?_
      have hz:=And.intro hV (And.intro w4 (And.intro bC (And.intro hm (And.intro (bF h1) hD))))
      refine Kz1 (fC (((l[m+1]'hlt).val.length:Nat)) 1 16) ?_
      exact ⟨m+1+1,rfl,⟨by omega,jA hk (by rw [bZ hlt,o9,← jI,hD]; simp [sP,hN,hV])⟩,by omega⟩
 ·obtain rfl:i=l.length:=by omega
  have e:t8 l=true:=j6 fun k h=>hk k h
  refine N1 ?_
  rw [mU,e,lE4]
  rw [ala (p:=(l.length:Int)≤4) (q:=l.length≤4) (by omega)]
theorem adl (l:List Ent) (hs:szM Ent.sz l<2^48):aY Tryz.prog 201 [.ext 2 (l.map Ent.row)] (.bool (xY l)) [.undef]:=by
 obtain ⟨hl,hls⟩:=anY hs
 refine U aij [] 13 [] fun w hP hQ=>?_
 unfold aai
 refine N ?_
 refine eU [2] ?_
 refine N ?_
 refine aR [2] (fun i:Nat=>[(3,.int .i64 i)]) (fun i=>i≤l.length∧∀ k,k<i→dR (fun _=>agQ) xX l k=true) (fun i=>l.length-i) (0) hP hQ (rfl) (by simp) ?_
 rintro i ⟨hi,hk⟩ w1 hP1 hQ1
 refine N1 ?_
 (first | with_reducible refine cP _ ?_ ?_ | refine cQ _ ?_ ?_) <;> intro h1
 ·have hlt:i<l.length:=by omega
  have hno:dR (fun _=>agQ) xX l i=false→xY l=false:=fun e=>(fun e=>by rw [xY,aas,e]; rfl) (p8 hlt e)
  obtain hla:=hls _ (lP hlt)
  cases hN:bB (l[i]'hlt).name with
  | false=>
   have hz:=(bF h1)
   refine Nz1 ?_
   have hz:=hN
   refine Kz1 (dN (l[i]'hlt).name (by omega)) ?_
   rw [hno (fV hlt (by simp [agQ,hN]))]
  | true=>
   cases hV:inR ((l[i]'hlt).ino) 2 1000 with
   | false=>
    have hz:=(bF h1)
    refine Nz1 ?_
    have hz:=And.intro hN (bF h1)
    refine Kz1 (dN (l[i]'hlt).name (by omega)) ?_
    have hz:=hV
    refine Kz1 (fC ((l[i]'hlt).ino) 2 1000) ?_
    rw [hno (fV hlt (by simp [agQ,hV]))]
   | true=>
    cases i with
    | zero=>
     have hz:=(bF h1)
     refine Nz1 ?_
     have hz:=And.intro hN (bF h1)
     refine Kz1 (dN (l[0]'hlt).name (by omega)) ?_
     have hz:=And.intro hV (bF h1)
     refine Kz1 (fC ((l[0]'hlt).ino) 2 1000) ?_
     exact ⟨1,rfl,⟨by omega,jA hk (by rw [f4 hlt]; simp [agQ,hN,hV])⟩,by omega⟩
    | succ m=>
     have w4:decide ((0:Int)<((m+1:Nat):Int))=true:=lG (by omega)
     have hm:=bF (show ((m:Nat):Int)<(l.length:Nat) by omega)
     cases hD:strLt (l[m]'(by omega)).name (l[m+1]'hlt).name with
     | false=>
      have hz:=(bF h1)
      refine Nz1 ?_
      have hz:=And.intro hN (bF h1)
      refine Kz1 (dN (l[m+1]'hlt).name (by omega)) ?_
      have hz:=And.intro hV (And.intro w4 (And.intro bC (And.intro hm (And.intro (bF h1) hD))))
      refine Kz1 (fC ((l[m+1]'hlt).ino) 2 1000) ?_
      rw [hno (by rw [bZ hlt,xX,← jI,hD]; simp)]
     | true=>
      have hz:=(bF h1)
      refine Nz1 ?_
      have hz:=And.intro hN (bF h1)
      refine Kz1 (dN (l[m+1]'hlt).name (by omega)) ?_
      have hz:=And.intro hV (And.intro w4 (And.intro bC (And.intro hm (And.intro (bF h1) hD))))
      refine Kz1 (fC ((l[m+1]'hlt).ino) 2 1000) ?_
      exact ⟨m+1+1,rfl,⟨by omega,jA hk (by rw [bZ hlt,xX,← jI,hD]; simp [agQ,hN,hV])⟩,by omega⟩
 ·obtain rfl:i=l.length:=by omega
  have e:aas l=true:=j6 fun k h=>hk k h
  refine N1 ?_
  rw [xY,e,lE4]
  rw [ala (p:=(l.length:Int)≤10) (q:=l.length≤10) (by omega)]
theorem aaF (l:List Attr) (hs:szM Attr.sz l<2^48):aY Tryz.prog 198 [.ext 2 (l.map Attr.row)] (.bool (mU l)) [.undef]:=by
 obtain ⟨hl,hls⟩:=ak9 hs
 refine U ae8 [] 253 [] fun w hP hQ=>?_
 unfold xG
 refine N ?_
 refine eU [2,3,4,5004] ?_
 refine N ?_
 refine aR [2,3,4,5004] (fun i:Nat=>[(7,.int .i64 i)]) (fun i=>i≤l.length∧∀ k,k<i→dR (fun _=>sP) o9 l k=true) (fun i=>l.length-i) (0) hP hQ (rfl) (by simp) ?_
 rintro i ⟨hi,hk⟩ w1 hP1 hQ1
 refine N1 ?_
 (first | with_reducible refine cP _ ?_ ?_ | refine cQ _ ?_ ?_) <;> intro h1
 ·have hlt:i<l.length:=by omega
  have hno:dR (fun _=>sP) o9 l i=false→mU l=false:=fun e=>(fun e=>by rw [mU,t8,e]; rfl) (p8 hlt e)
  obtain hla:=hls _ (lP hlt)
  cases hN:bB (l[i]'hlt).name with
  | false=>
   have hz:=(bF h1)
   refine Nz1 ?_
   have hz:=hN
   refine Kz1 (fD (l[i]'hlt).name (by omega)) ?_
   rw [hno (fV hlt (by simp [sP,hN]))]
  | true=>
   cases hV:inR (((l[i]'hlt).val.length:Nat)) 1 16 with
   | false=>
    have hz:=(bF h1)
    refine Nz1 ?_
    have hz:=And.intro hN (bF h1)
    refine Kz1 (fD (l[i]'hlt).name (by omega)) ?_
    have hz:=hV
    refine Kz1 (kE (((l[i]'hlt).val.length:Nat)) 1 16) ?_
    rw [hno (fV hlt (by simp [sP,hV]))]
   | true=>
    cases i with
    | zero=>
     have hz:=(bF h1)
     refine Nz1 ?_
     have hz:=And.intro hN (bF h1)
     refine Kz1 (fD (l[0]'hlt).name (by omega)) ?_
     have hz:=And.intro hV (bF h1)
     refine Kz1 (kE (((l[0]'hlt).val.length:Nat)) 1 16) ?_
     exact ⟨1,rfl,⟨by omega,jA hk (by rw [f4 hlt]; simp [sP,hN,hV])⟩,by omega⟩
    | succ m=>
     have w4:decide ((0:Int)<((m+1:Nat):Int))=true:=lG (by omega)
     have hm:=bF (show ((m:Nat):Int)<(l.length:Nat) by omega)
     cases hD:strLt (l[m]'(by omega)).name (l[m+1]'hlt).name with
     | false=>
      have hz:=(bF h1)
      refine Nz1 ?_
      have hz:=And.intro hN (bF h1)
      refine Kz1 (fD (l[m+1]'hlt).name (by omega)) ?_
      have hz:=And.intro hV (And.intro w4 (And.intro bC (And.intro hm (And.intro (bF h1) hD))))
      refine Kz1 (kE (((l[m+1]'hlt).val.length:Nat)) 1 16) ?_
      rw [hno (by rw [bZ hlt,o9,← jI,hD]; simp)]
     | true=>
      have hz:=(bF h1)
      refine Nz1 ?_
      have hz:=And.intro hN (bF h1)
      refine Kz1 (fD (l[m+1]'hlt).name (by omega)) ?_
      have hz:=And.intro hV (And.intro w4 (And.intro bC (And.intro hm (And.intro (bF h1) hD))))
      refine Kz1 (kE (((l[m+1]'hlt).val.length:Nat)) 1 16) ?_
      exact ⟨m+1+1,rfl,⟨by omega,jA hk (by rw [bZ hlt,o9,← jI,hD]; simp [sP,hN,hV])⟩,by omega⟩
 ·obtain rfl:i=l.length:=by omega
  have e:t8 l=true:=j6 fun k h=>hk k h
  refine N1 ?_
  rw [mU,e,lE4]
  rw [ala (p:=(l.length:Int)≤4) (q:=l.length≤4) (by omega)]
theorem yY (a b:aA) (ha:a.length<2^48) (hb:b.length<2^48):aY Tryz.prog 135 [.ext 1 (aI a),.ext 1 (aI b)] (.bool (decide (a=b))) [.undef,.undef]:=by
 refine U yS [] 12339 [] fun w hP hQ=>?_
 unfold qK
 refine N ?_
 (first | with_reducible refine cP _ ?_ ?_ | refine cQ _ ?_ ?_) <;> intro h
 ·refine N ?_
  refine eU [4,5] ?_
  refine N ?_
  refine aR [4,5] (fun i:Nat=>[(13,.int .i64 i)]) (fun i=>i≤a.length∧a.take i=b.take i) (fun i=>a.length-i) (0) hP hQ (rfl) (by simp) ?_
  rintro i ⟨hi,hab⟩ w1 hP1 hQ1
  refine N1 ?_
  (first | with_reducible refine cP _ ?_ ?_ | refine cQ _ ?_ ?_) <;> intro h1
  ·have hz:=And.intro (bF h1) (bF (h ▸ h1))
   refine Nz1 ?_
   (first | with_reducible refine cP _ ?_ ?_ | refine cQ _ ?_ ?_) <;> intro h2
   ·refine N1 ?_
    exact ⟨i+1,rfl,⟨by omega,iT hab _ _ (UInt8.toNat_inj.1 (by omega))⟩,by omega⟩
   ·refine N1 ?_
    rw [lB]
    rintro rfl; exact h2 rfl
  ·refine N1 ?_
   rw [lG (vS hab (by omega) (by omega))]
 ·have hz:=hQ
  refine Nz ?_
  rw [lB]
  rintro rfl; exact h rfl
theorem abF (a b:List Ent) (ha:a.length<2^48) (hb:b.length<2^48):aY Tryz.prog 136 [.ext 2 (a.map Ent.row),.ext 2 (b.map Ent.row)] (.bool (decide (a=b))) [.undef,.undef]:=by
 refine U abr [] 12339 [] fun w hP hQ=>?_
 unfold sA
 refine N ?_
 (first | with_reducible refine cP _ ?_ ?_ | refine cQ _ ?_ ?_) <;> intro h
 ·refine N ?_
  refine eU [4,5] ?_
  refine N ?_
  refine aR [4,5] (fun i:Nat=>[(13,.int .i64 i)]) (fun i=>i≤a.length∧a.take i=b.take i) (fun i=>a.length-i) (0) hP hQ (rfl) (by simp) ?_
  rintro i ⟨hi,hab⟩ w1 hP1 hQ1
  refine N1 ?_
  (first | with_reducible refine cP _ ?_ ?_ | refine cQ _ ?_ ?_) <;> intro h1
  ·have hz:=And.intro (bF h1) (bF (h ▸ h1))
   refine Nz1 ?_
   (first | with_reducible refine cP _ ?_ ?_ | refine cQ _ ?_ ?_) <;> intro h2
   ·refine N1 ?_
    exact ⟨i+1,rfl,⟨by omega,iT hab _ _ (Ent.eq' (by simp at h2; exact h2.1) (by simp at h2; exact h2.2))⟩,by omega⟩
   ·refine N1 ?_
    rw [lB]
    rintro rfl; simp at h2
  ·refine N1 ?_
   rw [lG (vS hab (by omega) (by omega))]
 ·have hz:=hQ
  refine Nz ?_
  rw [lB]
  rintro rfl; exact h rfl
theorem yZ (a b:List Attr) (ha:a.length<2^48) (hb:b.length<2^48):aY Tryz.prog 137 [.ext 2 (a.map Attr.row),.ext 2 (b.map Attr.row)] (.bool (decide (a=b))) [.undef,.undef]:=by
 refine U yT [] 12339 [] fun w hP hQ=>?_
 unfold qL
 refine N ?_
 (first | with_reducible refine cP _ ?_ ?_ | refine cQ _ ?_ ?_) <;> intro h
 ·refine N ?_
  refine eU [4,5] ?_
  refine N ?_
  refine aR [4,5] (fun i:Nat=>[(13,.int .i64 i)]) (fun i=>i≤a.length∧a.take i=b.take i) (fun i=>a.length-i) (0) hP hQ (rfl) (by simp) ?_
  rintro i ⟨hi,hab⟩ w1 hP1 hQ1
  refine N1 ?_
  (first | with_reducible refine cP _ ?_ ?_ | refine cQ _ ?_ ?_) <;> intro h1
  ·have hz:=And.intro (bF h1) (bF (h ▸ h1))
   refine Nz1 ?_
   (first | with_reducible refine cP _ ?_ ?_ | refine cQ _ ?_ ?_) <;> intro h2
   ·refine N1 ?_
    exact ⟨i+1,rfl,⟨by omega,iT hab _ _ (Attr.eq' (by simp at h2; exact h2.1) (by simp at h2; exact h2.2))⟩,by omega⟩
   ·refine N1 ?_
    rw [lB]
    rintro rfl; simp at h2
  ·refine N1 ?_
   rw [lG (vS hab (by omega) (by omega))]
 ·have hz:=hQ
  refine Nz ?_
  rw [lB]
  rintro rfl; exact h rfl
theorem cT {x:Inode} {n:Nat} (h:x.sz<n):x.data.length<n∧x.ents.length<n∧x.attrs.length<n:=by
 simp only [Inode.sz,szM] at h; omega
theorem agZ {p q:Prop} [Decidable p] [Decidable q] (h:p↔q):decide p=decide q:=by simp [h]
theorem adm (a b:Inode) (ha:a.sz<2^40) (hb:b.sz<2^40):aY Tryz.prog 73 [a.x,b.x] (.bool (decide (a=b))) [.undef,.undef]:=by
 obtain ⟨a1,a2,a3⟩:=cT ha
 obtain ⟨b1,b2,b3⟩:=cT hb
 refine U abn [] 31 [] fun w hP hQ=>?_
 unfold rY
 refine N ?_
 (first | with_reducible refine tO _ ?_ ?_ | refine tP _ ?_ ?_) <;> intro h0
 rotate_left
 ·have hz:=h0
  refine Nz ?_
  rw [lB (show ¬ a=b from fun h=>h0 (by rw [h]))]
 have hz:=h0
 refine Nz ?_
 (first | with_reducible refine tO _ ?_ ?_ | refine tP _ ?_ ?_) <;> intro h1
 rotate_left
 ·have hz:=h1
  refine Nz ?_
  rw [lB (show ¬ a=b from fun h=>h1 (by rw [h]))]
 have hz:=h1
 refine Nz ?_
 (first | with_reducible refine tO _ ?_ ?_ | refine tP _ ?_ ?_) <;> intro h2
 rotate_left
 ·have hz:=h2
  refine Nz ?_
  rw [lB (show ¬ a=b from fun h=>h2 (by rw [h]))]
 have hz:=h2
 refine Nz ?_
 refine K (yY a.data b.data (by omega) (by omega)) ?_
 (first | with_reducible refine tO _ ?_ ?_ | refine tP _ ?_ ?_) <;> intro h3
 rotate_left
 ·have hz:=h3
  refine Nz ?_
  rw [lB (show ¬ a=b from fun h=>h3 (by rw [h]))]
 have hz:=h3
 refine Nz ?_
 refine K (abF a.ents b.ents (by omega) (by omega)) ?_
 (first | with_reducible refine tO _ ?_ ?_ | refine tP _ ?_ ?_) <;> intro h4
 rotate_left
 ·have hz:=h4
  refine Nz ?_
  rw [lB (show ¬ a=b from fun h=>h4 (by rw [h]))]
 have hz:=h4
 refine Nz ?_
 refine K (yZ a.attrs b.attrs (by omega) (by omega)) ?_
 rw [agZ (p:=a=b) ⟨fun h=>by rw [h],fun h=>Inode.eq' h0 h1 h2 h3 h4 h⟩]
theorem vE (b:Bool):b=false∨b=true:=by cases b <;> simp
theorem adn {x:Inode} (h:x.sz<2^48):x.data.length<2^48∧szM Ent.sz x.ents<2^48∧szM Attr.sz x.attrs<2^48∧x.ents.length<2^48∧x.attrs.length<2^48:=by
 simp only [Inode.sz] at h
 refine ⟨by omega,by omega,by omega,?_,?_⟩
 ·have:szM Ent.sz x.ents=x.ents.length+(x.ents.map Ent.sz).sum:=rfl
  omega
 ·have:szM Attr.sz x.attrs=x.attrs.length+(x.attrs.map Attr.sz).sum:=rfl
  omega
theorem mY (x:Inode) (h:x.sz<2^48):aY Tryz.prog 159 [x.x] (.bool (dS x)) [.undef]:=by
 obtain ⟨h1,h2,h3,h4,h5⟩:=adn h
 refine U ae6 [] 2199023255559 [] fun w hP hQ=>?_
 unfold xD
 refine N ?_
 rcases vE (inR x.ino 1 1000) with hA | hA
 ·have hz:=hA
  refine Kz (fC x.ino 1 1000) ?_
  simp [dS,hA]
 have hz:=hA
 refine Kz (fC x.ino 1 1000) ?_
 rcases vE (inR x.links 0 1000) with hB | hB
 ·have hz:=hB
  refine Kz (fC x.links 0 1000) ?_
  simp [dS,hB]
 have hz:=hB
 refine Kz (fC x.links 0 1000) ?_
 (first | with_reducible refine tO _ ?_ ?_ | refine tP _ ?_ ?_) <;> intro hC
 rotate_left
 ·have hz:=hC
  refine Nz ?_
  simp [dS,hC]
 have hz:=hC
 refine Nz ?_
 (first | with_reducible refine tO _ ?_ ?_ | refine tP _ ?_ ?_) <;> intro hD
 ·have hz:=hD
  refine Nz ?_
  simp [dS]; omega
 have hz:=hD
 refine Nz ?_
 rcases vE (xY x.ents) with hE | hE
 ·have hz:=hE
  refine Kz (adl x.ents h2) ?_
  simp [dS,hE]
 have hz:=hE
 refine Kz (adl x.ents h2) ?_
 rcases vE (mU x.attrs) with hF | hF
 ·have hz:=hF
  refine Kz (aaE x.attrs h3) ?_
  simp [dS,hF]
 have hz:=hF
 refine Kz (aaE x.attrs h3) ?_
 have key:dS x=uA x:=by
  simp [dS,hA,hB,hC,hE,hF]; omega
 (first | with_reducible refine cP _ ?_ ?_ | refine cQ _ ?_ ?_) <;> intro k1
 ·refine N ?_
  rw [key,uA,lF k1,ala (p:=(x.ents.length:Int)=0) (q:=x.ents.length=0) (by omega)]
 refine N ?_
 (first | with_reducible refine cP _ ?_ ?_ | refine cQ _ ?_ ?_) <;> intro k2
 ·refine N ?_
  (first | with_reducible refine tO _ ?_ ?_ | refine tP _ ?_ ?_) <;> intro k3
  ·have hz:=k3
   refine Nz ?_
   rw [key,uA,lI k1,lF k2,lG (show x.data.length=0 by omega),lE4]
  ·have hz:=k3
   refine Nz ?_
   rw [key,uA,lI k1,lF k2,lB (show ¬ x.data.length=0 by omega),Bool.false_and]
 ·refine N ?_
  rw [key,uA,lI k1,lI k2]
theorem am6 {x:Inode} (e:aas x.ents=false):dS x=false:=by simp [dS,xY,e]
theorem mZ (x:Inode) (h:x.sz<2^48):aY Tryz.prog 146 [x.x] (.bool (dS x)) [.undef]:=by
 obtain ⟨h1,h2,h3,h4,h5⟩:=adn h
 obtain ⟨hl,hls⟩:=anY h2
 refine U ae5 [] 75557863725916202467359 [] fun w hP hQ=>?_
 unfold xC
 refine N ?_
 rcases vE (inR x.ino 1 1000) with hA | hA
 ·have hz:=hA
  refine Kz (kE x.ino 1 1000) ?_
  simp [dS,hA]
 have hz:=hA
 refine Kz (kE x.ino 1 1000) ?_
 (first | with_reducible refine tO _ ?_ ?_ | refine tP _ ?_ ?_) <;> intro hD
 ·have hz:=hD
  refine Nz ?_
  simp [dS]; omega
 have hz:=hD
 refine Nz ?_
 (first | with_reducible refine tO _ ?_ ?_ | refine tP _ ?_ ?_) <;> intro hG
 ·have hz:=hG
  refine Nz ?_
  simp [dS,xY]; omega
 have hz:=hG
 refine Nz ?_
 rcases vE (mU x.attrs) with hF | hF
 ·have hz:=hF
  refine Kz (aaF x.attrs h3) ?_
  simp [dS,hF]
 have hz:=hF
 refine Kz (aaF x.attrs h3) ?_
 refine eU [2,3,4,5004] ?_
 refine N ?_
 refine aR [2,3,4,5004] (fun i:Nat=>[(30,.int .i64 i)]) (fun i=>i≤x.ents.length∧∀ k,k<i→dR (fun _=>agQ) xX x.ents k=true) (fun i=>x.ents.length-i) (0) hP hQ (rfl) (by simp) ?_
 rintro i ⟨hi,hk⟩ w1 hP1 hQ1
 refine N1 ?_
 (first | with_reducible refine cP _ ?_ ?_ | refine cQ _ ?_ ?_) <;> intro h1
 ·have hlt:i<x.ents.length:=by omega
  have hno:dR (fun _=>agQ) xX x.ents i=false→dS x=false:=fun e=>am6 (p8 hlt e)
  obtain hla:=hls _ (lP hlt)
  cases hN:bB (x.ents[i]'hlt).name with
  | false=>
   have hz:=(bF h1)
   refine Nz1 ?_
   have hz:=hN
   refine Kz1 (fD (x.ents[i]'hlt).name (by omega)) ?_
   rw [hno (fV hlt (by simp [agQ,hN]))]
  | true=>
   cases hV:inR ((x.ents[i]'hlt).ino) 2 1000 with
   | false=>
    have hz:=(bF h1)
    refine Nz1 ?_
    have hz:=And.intro hN (bF h1)
    refine Kz1 (fD (x.ents[i]'hlt).name (by omega)) ?_
    have hz:=hV
    refine Kz1 (kE ((x.ents[i]'hlt).ino) 2 1000) ?_
    rw [hno (fV hlt (by simp [agQ,hV]))]
   | true=>
    cases i with
    | zero=>
     have hz:=(bF h1)
     refine Nz1 ?_
     have hz:=And.intro hN (bF h1)
     refine Kz1 (fD (x.ents[0]'hlt).name (by omega)) ?_
     have hz:=And.intro hV (bF h1)
     refine Kz1 (kE ((x.ents[0]'hlt).ino) 2 1000) ?_
     exact ⟨1,rfl,⟨by omega,jA hk (by rw [f4 hlt]; simp [agQ,hN,hV])⟩,by omega⟩
    | succ m=>
     have w4:decide ((0:Int)<((m+1:Nat):Int))=true:=lG (by omega)
     have hm:=bF (show ((m:Nat):Int)<(x.ents.length:Nat) by omega)
     cases hD:strLt (x.ents[m]'(by omega)).name (x.ents[m+1]'hlt).name with
     | false=>
      have hz:=(bF h1)
      refine Nz1 ?_
      have hz:=And.intro hN (bF h1)
      refine Kz1 (fD (x.ents[m+1]'hlt).name (by omega)) ?_
      have hz:=And.intro hV (And.intro w4 (And.intro bC (And.intro hm (And.intro (bF h1) hD))))
      refine Kz1 (kE ((x.ents[m+1]'hlt).ino) 2 1000) ?_
      rw [hno (by rw [bZ hlt,xX,← jI,hD]; simp)]
     | true=>
      have hz:=(bF h1)
      refine Nz1 ?_
      have hz:=And.intro hN (bF h1)
      refine Kz1 (fD (x.ents[m+1]'hlt).name (by omega)) ?_
      have hz:=And.intro hV (And.intro w4 (And.intro bC (And.intro hm (And.intro (bF h1) hD))))
      refine Kz1 (kE ((x.ents[m+1]'hlt).ino) 2 1000) ?_
      exact ⟨m+1+1,rfl,⟨by omega,jA hk (by rw [bZ hlt,xX,← jI,hD]; simp [agQ,hN,hV])⟩,by omega⟩
 ·obtain rfl:i=x.ents.length:=by omega
  have hE:aas x.ents=true:=j6 fun k h=>hk k h
  refine N1 ?_
  rcases vE (inR x.links 0 1000) with hB | hB
  ·have hz:=hB
   refine Kz (kE x.links 0 1000) ?_
   simp [dS,hB]
  have hz:=hB
  refine Kz (kE x.links 0 1000) ?_
  (first | with_reducible refine cP _ ?_ ?_ | refine cQ _ ?_ ?_) <;> intro hC
  rotate_left
  ·refine N ?_
   simp [dS,hC]
  refine N ?_
  have key:dS x=uA x:=by
   simp [dS,xY,hA,hB,hC,hE,hF,lG (show x.data.length≤100 by omega),lG (show x.ents.length≤10 by omega)]
  (first | with_reducible refine cP _ ?_ ?_ | refine cQ _ ?_ ?_) <;> intro k1
  ·refine N ?_
   rw [key,uA,lF k1,ala (p:=(x.ents.length:Int)=0) (q:=x.ents.length=0) (by omega)]
  refine N ?_
  (first | with_reducible refine cP _ ?_ ?_ | refine cQ _ ?_ ?_) <;> intro k2
  ·refine N ?_
   (first | with_reducible refine tO _ ?_ ?_ | refine tP _ ?_ ?_) <;> intro k3
   ·have hz:=k3
    refine Nz ?_
    rw [key,uA,lI k1,lF k2,lG (show x.data.length=0 by omega),lE4]
   ·have hz:=k3
    refine Nz ?_
    rw [key,uA,lI k1,lF k2,lB (show ¬ x.data.length=0 by omega),Bool.false_and]
  ·refine N ?_
   rw [key,uA,lI k1,lI k2]
def bS (t:Tab) (i:Int):Option Nat:=t.inodes.findIdx? fun x=>decide (x.ino=i)
def zI:Inode:={ ino:=0,kind:=0,links:=0,data:=[],ents:=[],attrs:=[] }
def afx (t:Tab) (i:Int):Inode:=(aD t i).getD zI
theorem ag0 {α:Type} (p:α→Bool) (l:List α):l.find? p=(l.findIdx? p).bind fun k=>l[k]?:=by
 induction l with
 | nil=>rfl
 | cons x l ih=>
  by_cases h:p x=true
  ·rw [lU1 h,List.findIdx?_cons,lF h]; rfl
  ·rw [lE1 h,List.findIdx?_cons,lI h,ih]
   cases List.findIdx? p l <;> simp
theorem ado (t:Tab) (i:Int):aD t i=(bS t i).bind fun k=>t.inodes[k]?:=ag0 _ _
theorem uT {t:Tab} {i:Int} {k:Nat} (h:bS t i=some k):k<t.inodes.length:=(lZ1.1 h).1
theorem sX {t:Tab} {i:Int} {k:Nat} (h:bS t i=some k):aD t i=some (t.inodes[k]'(uT h)):=by
 rw [ado,h]; simp [uT h]
theorem aaG {t:Tab} {i:Int} (h:bS t i=none):aD t i=none:=by rw [ado,h]; rfl
theorem rC (t:Tab) (n:Int) (hl:t.inodes.length<2^48):aY Tryz.prog 109 [t.x,.int .i64 n] (.int .i64 (yX (bS t n))) [.undef,.undef]:=by
 refine U amN [] 55 [] fun w hP hQ=>?_
 unfold agD
 refine N ?_
 refine eU [4] ?_
 refine N ?_
 refine aR [4] (fun i:Nat=>[(5,.int .i64 i)]) (fun i=>i≤t.inodes.length∧∀ k,k<i→(h:k<t.inodes.length)→decide (t.inodes[k].ino=n)=false) (fun i=>t.inodes.length-i) (0) hP hQ (rfl) (by simp) ?_
 rintro i ⟨hi,hk⟩ w1 hP1 hQ1
 refine N1 ?_
 (first | with_reducible refine cP _ ?_ ?_ | refine cQ _ ?_ ?_) <;> intro h1
 ·have hz:=(bF h1)
  refine Nz1 ?_
  (first | with_reducible refine cP _ ?_ ?_ | refine cQ _ ?_ ?_) <;> intro h2
  ·refine N1 ?_
   rw [bS,p9 (p:=fun x:Inode=>decide (x.ino=n)) hk (by omega) (lG h2)]; rfl
  ·refine N1 ?_
   exact ⟨i+1,rfl,⟨by omega,pH (p:=fun x:Inode=>decide (x.ino=n)) hk (by omega) (lB h2)⟩,by omega⟩
 ·obtain rfl:i=t.inodes.length:=by omega
  refine N1 ?_
  rw [bS,qA (p:=fun x:Inode=>decide (x.ino=n)) fun k h=>hk k h h]; rfl
theorem m0 {g:Nat} {cs:List TV} {p:Inode→Bool} (hc:∀ v:Inode,aY Tryz.prog g [v.x,.xbox cs] (.bool (p v)) [.undef,.undef]) (l:List Inode) (hl:l.length<2^48) :
  aY Tryz.prog 129 [.ext 6 (l.map Inode.row),.fn g [.xbox cs]] (.int .i64 (yX (l.findIdx? p))) [.undef,.undef]:=by
 refine U q9 [] 435 [] fun w hP hQ=>?_
 unfold jY
 refine N ?_
 refine eU [4,5] ?_
 refine N ?_
 refine aR [4,5] (fun i:Nat=>[(8,.int .i64 i)]) (fun i=>i≤l.length∧∀ k,k<i→(h:k<l.length)→p l[k]=false) (fun i=>l.length-i) (0) hP hQ (rfl) (by simp) ?_
 rintro i ⟨hi,hk⟩ w1 hP1 hQ1
 refine N1 ?_
 (first | with_reducible refine cP _ ?_ ?_ | refine cQ _ ?_ ?_) <;> intro h1
 ·have hz:=(bF h1)
  refine Nz1 ?_
  cases h2:p (l[i]'(by omega)) with
  | true=>
   have hz:=h2
   refine Kz1 (hc (l[i]'(by omega))) ?_
   rw [p9 hk (by omega) h2]; rfl
  | false=>
   have hz:=h2
   refine Kz1 (hc (l[i]'(by omega))) ?_
   exact ⟨i+1,rfl,⟨by omega,pH hk (by omega) h2⟩,by omega⟩
 ·obtain rfl:i=l.length:=by omega
  refine N1 ?_
  rw [qA fun k h=>hk k h h]; rfl
theorem adp (x:Inode) (n:Int):aY Tryz.prog 147 [x.x,.xbox [.int .i64 n]] (.bool (decide (x.ino=n))) [.undef,.undef]:=by
 refine U abs [] 15 [] fun w hP hQ=>?_
 unfold sB
 exact N trivial
theorem uE (t:Tab) (n:Int) (hl:t.inodes.length<2^48):aY Tryz.prog 87 [t.x,.int .i64 n] (.int .i64 (yX (bS t n))) [.undef,.undef]:=by
 refine U ae2 [] 31 [] fun w hP hQ=>?_
 unfold wZ
 refine N ?_
 refine K (m0 (fun v=>adp v n) t.inodes hl) ?_
 rfl
theorem yB {α:Type} (f:α→List TV) (h:∀ x,(f x).all n9=true) (l:List α):gU (l.map f)=true:=by
 rw [gU,lY]
 intro r hr
 obtain ⟨x,_,rfl⟩:=lF2.1 hr
 exact h x
theorem afy (l:List Ent):gU (l.map Ent.row)=true:=yB Ent.row (fun _=>rfl) l
theorem afz (l:List Attr):gU (l.map Attr.row)=true:=yB Attr.row (fun _=>rfl) l
theorem ag1 (b:aA) (hl:b.length<2^40):aY Tryz.prog 84 [.ext 1 (aI b)] (.own 1 (aI b)) [.undef]:=by
 refine rW fun a len cap ha=>?_
 cases a with
 | none=>
  obtain rfl:b=[]:=by simpa [aI] using ha rfl
  refine U qN [] 5 [] fun w hP hQ=>?_
  unfold l6
  refine N ?_
  rfl
 | some a=>
  refine U qN [] 5 [] fun w hP hQ=>?_
  unfold l6
  exact N trivial
theorem abG (l:List Ent) (hl:l.length<2^40):aY Tryz.prog 125 [.ext 2 (l.map Ent.row)] (.own 2 (l.map Ent.row)) [.undef]:=by
 refine rW fun a len cap ha=>?_
 cases a with
 | none=>
  obtain rfl:l=[]:=by simpa using ha rfl
  refine U sG [] 5 [] fun w hP hQ=>?_
  unfold nI
  exact N trivial
 | some a=>
  refine U sG [] 5 [] fun w hP hQ=>?_
  unfold nI
  refine N ?_
  have hz:=afy
  exact Nz trivial
theorem am7 (l:List Attr) (hl:l.length<2^40):aY Tryz.prog 178 [.ext 2 (l.map Attr.row)] (.own 2 (l.map Attr.row)) [.undef]:=by
 refine rW fun a len cap ha=>?_
 cases a with
 | none=>
  obtain rfl:l=[]:=by simpa using ha rfl
  refine U qO [] 5 [] fun w hP hQ=>?_
  unfold l7
  exact N trivial
 | some a=>
  refine U qO [] 5 [] fun w hP hQ=>?_
  unfold l7
  refine N ?_
  have hz:=afz
  exact Nz trivial
theorem pK (x:Inode) (h:x.sz<2^40):aY Tryz.prog 122 [x.x] x.o [.undef]:=by
 obtain ⟨h1,h2,h3⟩:=cT h
 refine U abq [] 7 [] fun w hP hQ=>?_
 unfold r9
 refine N ?_
 refine K (ag1 x.data (by omega)) ?_
 refine K (abG x.ents (by omega)) ?_
 exact K (am7 x.attrs (by omega)) trivial
theorem m6 (x:Inode) (h:x.sz<2^40):aY Tryz.prog 140 [x.x] x.o [.undef]:=by
 obtain ⟨h1,h2,h3⟩:=cT h
 refine U aie [] 15 [] fun w hP hQ=>?_
 unfold aad
 refine N ?_
 have hz:=And.intro xP (And.intro afy afz)
 exact Nz trivial
theorem cO {t:Tab} {n:Nat} (h:t.sz<n):t.inodes.length<n∧∀ x ∈ t.inodes,x.sz<n:=by
 have h':szM Inode.sz t.inodes<n:=h
 refine ⟨by simp only [szM] at h'; omega,fun x hx=>?_⟩
 have:=abv (f:=Inode.sz) hx
 simp only [szM] at h'; omega
theorem qB (t:Tab) (n:Int) (h:t.sz<2^40):aY Tryz.prog 70 [t.x,.int .i64 n] (.tup [(afx t n).o,.bool (aD t n).isSome]) [.undef,.undef]:=by
 obtain ⟨h1,h2⟩:=cO h
 have hPl:=uE t n (by omega)
 cases e:bS t n with
 | none=>
  rw [e] at hPl
  rw [afx,aaG e]
  refine U xK [] 119 [] fun w hP hQ=>?_
  unfold qY
  refine N ?_
  refine K (hPl) ?_
  rfl
 | some k=>
  have hk:=uT e
  rw [e,show yX (some k)=(k:Int) from rfl] at hPl
  rw [afx,sX e]
  refine U xK [] 119 [] fun w hP hQ=>?_
  unfold qY
  refine N ?_
  refine K (hPl) ?_
  (first | with_reducible refine cP _ ?_ ?_ | refine cQ _ ?_ ?_) <;> intro hx
  ·exfalso; omega
  have hz:=(bF (show ((k:Nat):Int)<(t.inodes.length:Nat) by omega))
  refine Nz ?_
  refine K (pK (t.inodes[k]'hk) (h2 _ (lP hk))) ?_
  rfl
theorem uF (t:Tab) (n:Int) (h:t.sz<2^40):aY Tryz.prog 148 [t.x,.int .i64 n] (.tup [(afx t n).o,.bool (aD t n).isSome]) [.undef,.undef]:=by
 obtain ⟨h1,h2⟩:=cO h
 have hPl:=rC t n (by omega)
 cases e:bS t n with
 | none=>
  rw [e] at hPl
  rw [afx,aaG e]
  refine U xO [] 119 [] fun w hP hQ=>?_
  unfold q0
  refine N ?_
  refine K (hPl) ?_
  rfl
 | some k=>
  have hk:=uT e
  rw [e,show yX (some k)=(k:Int) from rfl] at hPl
  rw [afx,sX e]
  refine U xO [] 119 [] fun w hP hQ=>?_
  unfold q0
  refine N ?_
  refine K (hPl) ?_
  (first | with_reducible refine cP _ ?_ ?_ | refine cQ _ ?_ ?_) <;> intro hx
  ·exfalso; omega
  have hz:=(bF (show ((k:Nat):Int)<(t.inodes.length:Nat) by omega))
  refine Nz ?_
  refine K (m6 (t.inodes[k]'hk) (h2 _ (lP hk))) ?_
  rfl
theorem aaH {t:Tab} (e:nT t=false):aat t=false:=by simp [aat,e]
theorem aiC {t:Tab} (h:nT t=true):sQ t=match t.inodes with
  | []=>false
  | x::_=>decide (x.ino=1) && decide (x.kind=2):=by
 rw [nT,sO (fun a b c h1 h2=>by simp only [iH,decide_eq_true_eq] at *; omega)] at h
 obtain ⟨h1,h2⟩:=h
 unfold sQ aD
 cases hl:t.inodes with
 | nil=>rfl
 | cons x l=>
  rw [hl] at h2
  obtain ⟨a1,a2⟩:=lC1.1 h2
  have hx:=h1 0 (by rw [hl]; simp)
  simp only [hl,lA4,j7,lQ] at hx
  have hx1:=((aav x).1 hx.1).ino.1
  by_cases e:x.ino=1
  ·rw [lU1 (by simp [e])]; simp [e]
  ·rw [lE1 (by simp [e])]
   have:l.find? (fun x=>decide (x.ino=1))=none:=by
    rw [List.find?_eq_none]
    intro y hy
    have:=a1 y hy
    simp only [iH,decide_eq_true_eq] at this
    simp; omega
   rw [this]; simp [e]
theorem ag2 (t:Tab) (h:t.sz<2^40):aY Tryz.prog 107 [t.x] (.bool (aat t)) [.undef]:=by
 obtain ⟨hl,hls⟩:=cO h
 refine U akw [] 31 [] fun w hP hQ=>?_
 unfold acF
 refine N ?_
 rcases vE (inR (t.inodes.length:Nat) 1 30) with hA | hA
 ·have hA':=agV hA
  have hz:=hA
  refine Kz (fC (t.inodes.length:Nat) 1 30) ?_
  by_cases h0:t.inodes.length≤30
  ·have:t.inodes=[]:=lT1.1 (by omega)
   have hr:sQ t=false:=by simp [sQ,aD,this]
   simp [aat,hr]
  ·simp [aat,h0]
 have hA':=(j8 _ _ _).1 hA
 have hz:=hA
 refine Kz (fC (t.inodes.length:Nat) 1 30) ?_
 rcases vE (inR t.next 2 1000) with hB | hB
 ·have hz:=hB
  refine Kz (fC t.next 2 1000) ?_
  simp [aat,hB]
 have hz:=hB
 refine Kz (fC t.next 2 1000) ?_
 refine eU [2,4,5004] ?_
 refine N ?_
 refine aR [2,4,5004] (fun i:Nat=>[(3,.int .i64 i)]) (fun i=>i≤t.inodes.length∧∀ k,k<i→dR (fun _=>j7 t) iH t.inodes k=true) (fun i=>t.inodes.length-i) (0) hP hQ (rfl) (by simp) ?_
 rintro i ⟨hi,hk⟩ w1 hP1 hQ1
 refine N1 ?_
 (first | with_reducible refine cP _ ?_ ?_ | refine cQ _ ?_ ?_) <;> intro h1
 ·have hlt:i<t.inodes.length:=by omega
  have hno:dR (fun _=>j7 t) iH t.inodes i=false→aat t=false:=fun e=>aaH (p8 hlt e)
  have hla:=hls _ (lP hlt)
  cases hN:dS (t.inodes[i]'hlt) with
  | false=>
   have hz:=(bF h1)
   refine Nz1 ?_
   have hz:=hN
   refine Kz1 (mY (t.inodes[i]'hlt) (by omega)) ?_
   rw [hno (fV hlt (by simp [j7,hN]))]
  | true=>
   cases hV:decide (t.next≤(t.inodes[i]'hlt).ino) with
   | true=>
    have hV':=of_decide_eq_true hV
    have hz:=(bF h1)
    refine Nz1 ?_
    have hz:=And.intro hN hV
    refine Kz1 (mY (t.inodes[i]'hlt) (by omega)) ?_
    rw [hno (fV hlt (by simp [j7]; omega))]
   | false=>
    have hV':=of_decide_eq_false hV
    cases i with
    | zero=>
     have hz:=(bF h1)
     refine Nz1 ?_
     have hz:=And.intro hN hV
     refine Kz1 (mY (t.inodes[0]'hlt) (by omega)) ?_
     exact ⟨1,rfl,⟨by omega,jA hk (by rw [f4 hlt]; simp [j7,hN]; omega)⟩,by omega⟩
    | succ m=>
     have w4:decide ((0:Int)<((m+1:Nat):Int))=true:=lG (by omega)
     have hm:=bF (show ((m:Nat):Int)<(t.inodes.length:Nat) by omega)
     cases hD:decide ((t.inodes[m+1]'hlt).ino≤(t.inodes[m]'(by omega)).ino) with
     | true=>
      have hD':=of_decide_eq_true hD
      have hz:=(bF h1)
      refine Nz1 ?_
      have hz:=And.intro hN (And.intro hV (And.intro w4 (And.intro bC (And.intro hm (And.intro (bF h1) hD)))))
      refine Kz1 (mY (t.inodes[m+1]'hlt) (by omega)) ?_
      rw [hno (by rw [bZ hlt,iH]; simp; omega)]
     | false=>
      have hD':=of_decide_eq_false hD
      have hz:=(bF h1)
      refine Nz1 ?_
      have hz:=And.intro hN (And.intro hV (And.intro w4 (And.intro bC (And.intro hm (And.intro (bF h1) hD)))))
      refine Kz1 (mY (t.inodes[m+1]'hlt) (by omega)) ?_
      exact ⟨m+1+1,rfl,⟨by omega,jA hk (by rw [bZ hlt,iH]; simp [j7,hN]; omega)⟩,by omega⟩
 ·obtain rfl:i=t.inodes.length:=by omega
  have hE:nT t=true:=j6 fun k h=>hk k h
  have hr:=aiC hE
  have key:aat t=sQ t:=by
   simp [aat,hB,hE,lG (show t.inodes.length≤30 by omega)]
  obtain ⟨x,l,hx⟩:∃ x l,t.inodes=x::l:=by
   cases hh:t.inodes with
   | nil=>rw [hh] at hA'; simp at hA'
   | cons x l=>exact ⟨x,l,rfl⟩
  rw [hx] at hr
  replace hr:sQ t=(decide (x.ino=1) && decide (x.kind=2)):=hr
  have g0:t.inodes[0]?=some x:=by rw [hx]; rfl
  have c0:decide ((0:Int)<(t.inodes.length:Nat))=true:=lG (by omega)
  have hz:=And.intro g0 Int.toNat_zero
  refine Nz1 ?_
  (first | with_reducible refine tO _ ?_ ?_ | refine tP _ ?_ ?_) <;> intro g1
  ·have hz:=And.intro g1 (And.intro g0 Int.toNat_zero)
   refine Nz ?_
   rw [key,hr,lG g1,lE4]
  ·have hz:=g1
   refine Nz ?_
   rw [key,hr,lB g1,Bool.false_and]
theorem ag3 (t:Tab) (h:t.sz<2^40):aY Tryz.prog 85 [t.x] (.bool (aat t)) [.undef]:=by
 obtain ⟨hl,hls⟩:=cO h
 refine U akt [] 1835135 [] fun w hP hQ=>?_
 unfold acC
 refine N ?_
 (first | with_reducible refine tO _ ?_ ?_ | refine tP _ ?_ ?_) <;> intro hA
 ·have hz:=hA
  refine Nz ?_
  simp [aat]; omega
 have hz:=hA
 refine Nz ?_
 rcases vE (inR t.next 2 1000) with hB | hB
 ·have hz:=hB
  refine Kz (kE t.next 2 1000) ?_
  simp [aat,hB]
 have hz:=hB
 refine Kz (kE t.next 2 1000) ?_
 refine eU [2,3,4,5004] ?_
 refine N ?_
 refine aR [2,3,4,5004] (fun i:Nat=>[(20,.int .i64 i)]) (fun i=>i≤t.inodes.length∧∀ k,k<i→dR (fun _=>j7 t) iH t.inodes k=true) (fun i=>t.inodes.length-i) (0) hP hQ (rfl) (by simp) ?_
 rintro i ⟨hi,hk⟩ w1 hP1 hQ1
 refine N1 ?_
 (first | with_reducible refine cP _ ?_ ?_ | refine cQ _ ?_ ?_) <;> intro h1
 ·have hlt:i<t.inodes.length:=by omega
  have hno:dR (fun _=>j7 t) iH t.inodes i=false→aat t=false:=fun e=>aaH (p8 hlt e)
  have hla:=hls _ (lP hlt)
  cases hN:dS (t.inodes[i]'hlt) with
  | false=>
   have hz:=(bF h1)
   refine Nz1 ?_
   have hz:=hN
   refine Kz1 (mZ (t.inodes[i]'hlt) (by omega)) ?_
   rw [hno (fV hlt (by simp [j7,hN]))]
  | true=>
   cases hV:decide (t.next≤(t.inodes[i]'hlt).ino) with
   | true=>
    have hV':=of_decide_eq_true hV
    have hz:=(bF h1)
    refine Nz1 ?_
    have hz:=And.intro hN hV
    refine Kz1 (mZ (t.inodes[i]'hlt) (by omega)) ?_
    rw [hno (fV hlt (by simp [j7]; omega))]
   | false=>
    have hV':=of_decide_eq_false hV
    cases i with
    | zero=>
     have hz:=(bF h1)
     refine Nz1 ?_
     have hz:=And.intro hN hV
     refine Kz1 (mZ (t.inodes[0]'hlt) (by omega)) ?_
     exact ⟨1,rfl,⟨by omega,jA hk (by rw [f4 hlt]; simp [j7,hN]; omega)⟩,by omega⟩
    | succ m=>
     have w4:decide ((0:Int)<((m+1:Nat):Int))=true:=lG (by omega)
     have hm:=bF (show ((m:Nat):Int)<(t.inodes.length:Nat) by omega)
     cases hD:decide ((t.inodes[m+1]'hlt).ino≤(t.inodes[m]'(by omega)).ino) with
     | true=>
      have hD':=of_decide_eq_true hD
      have hz:=(bF h1)
      refine Nz1 ?_
      have hz:=And.intro hN (And.intro hV (And.intro w4 (And.intro bC (And.intro hm (And.intro (bF h1) hD)))))
      refine Kz1 (mZ (t.inodes[m+1]'hlt) (by omega)) ?_
      rw [hno (by rw [bZ hlt,iH]; simp; omega)]
     | false=>
      have hD':=of_decide_eq_false hD
      have hz:=(bF h1)
      refine Nz1 ?_
      have hz:=And.intro hN (And.intro hV (And.intro w4 (And.intro bC (And.intro hm (And.intro (bF h1) hD)))))
      refine Kz1 (mZ (t.inodes[m+1]'hlt) (by omega)) ?_
      exact ⟨m+1+1,rfl,⟨by omega,jA hk (by rw [bZ hlt,iH]; simp [j7,hN]; omega)⟩,by omega⟩
 ·obtain rfl:i=t.inodes.length:=by omega
  have hE:nT t=true:=j6 fun k h=>hk k h
  have key:aat t=sQ t:=by
   simp [aat,hB,hE,lG (show t.inodes.length≤30 by omega)]
  have hI:=qB t 1 h
  refine N1 ?_
  cases e:aD t 1 with
  | none=>
   have hr:sQ t=false:=by rw [sQ,e]
   rw [e] at hI
   refine K (hI) ?_
   rw [key,hr]
  | some x=>
   have hr:sQ t=decide (x.kind=2):=by rw [sQ,e]
   rw [afx,e] at hI
   refine K (hI) ?_
   rw [key,hr]; rfl
theorem abH {α:Type} (f g:α→Nat) (l:List α) (h:∀ x ∈ l,f x≤g x):(l.map f).sum≤(l.map g).sum:=by
 induction l with
 | nil=>simp
 | cons x l ih=>
  have:=ih fun y hy=>h y (by simp [hy])
  have:=h x (by simp)
  simp only [lO,lG2]; omega
def lkF (n:Int) (x:Inode):Nat:=(fQ x).count n
theorem adq (t:Tab) (n:Int):bA t n=(t.inodes.map (lkF n)).sum:=rfl
theorem aqz (n:Int) (x:Inode):lkF n x≤x.sz:=by
 have h1:lkF n x≤(fQ x).length:=List.count_le_length
 have h2:(fQ x).length≤x.ents.length:=by
  unfold fQ; split <;> simp
 have h3:x.ents.length≤x.sz:=by simp only [Inode.sz,szM]; omega
 omega
theorem nV (t:Tab) (n:Int) (i:Nat):((t.inodes.take i).map (lkF n)).sum≤t.sz:=by
 have h1:=nJ (lkF n) t.inodes i
 have h2:=abH (lkF n) Inode.sz t.inodes fun x _=>aqz n x
 have h3:t.sz=t.inodes.length+(t.inodes.map Inode.sz).sum:=rfl
 omega
theorem alb {n:Int} {x:Inode} (h:x.kind=2):lkF n x=(x.ents.map Ent.ino).count n:=by rw [lkF,fQ,lF h]
theorem anZ {n:Int} {x:Inode} (h:¬ x.kind=2):lkF n x=0:=by rw [lkF,fQ,lI h]; rfl
theorem ag4 {l:List Ent} {k:Nat} (h:k<l.length) (n:Int):((l.take (k+1)).map Ent.ino).count n=((l.take k).map Ent.ino).count n+if l[k].ino=n then 1 else 0:=by
 rw [List.take_add_one,lK h,lM2,List.count_append]
 simp only [Option.toList_some,lO,lP1]
 rw [List.count_singleton]
 simp
theorem yC (l:List Ent) (k:Nat) (n:Int):((l.take k).map Ent.ino).count n≤l.length:=by
 have h1:((l.take k).map Ent.ino).count n≤((l.take k).map Ent.ino).length:=List.count_le_length
 simp only [lO1,lN] at h1
 omega
theorem aiD (t:Tab) (n:Int) (h:t.sz<2^40):aY Tryz.prog 108 [t.x,.int .i64 n] (.int .i64 (bA t n:Nat)) [.undef,.undef]:=by
 obtain ⟨hl,hls⟩:=cO h
 refine U ae3 [] 247 [] fun w hP hQ=>?_
 unfold xA
 refine N ?_
 refine eU [7] ?_
 refine N ?_
 refine aR [7] (fun s:Nat × Nat=>[(5,.int .i64 (s.1:Nat)),(6,.int .i64 (s.2:Nat))]) (fun s=>s.2≤t.inodes.length∧s.1=((t.inodes.take s.2).map (lkF n)).sum) (fun s=>t.inodes.length-s.2) ((0,0)) hP hQ (rfl) (by simp) ?_
 rintro ⟨c,i⟩ ⟨hi,hc⟩ w1 hP1 hQ1
 refine N1 ?_
 simp only at hi hc
 (first | with_reducible refine cP _ ?_ ?_ | refine cQ _ ?_ ?_) <;> intro h1
 ·have hlt:i<t.inodes.length:=by omega
  have hs:=vR (lkF n) t.inodes i hlt
  have hb:=nV t n i
  have hx:=hls _ (lP hlt)
  have hel:(t.inodes[i]'hlt).ents.length<2^40:=(cT hx).2.1
  refine N1 ?_
  by_cases hk2:(t.inodes[i]'hlt).kind=2
  ·have hf:=alb (n:=n) hk2
   refine eU [] ?_
   refine N1 ?_
   refine aR [] (fun s:Nat × Nat=>[(5,.int .i64 (s.1:Nat)),(7,.int .i64 (s.2:Nat))]) (fun s=>s.2≤(t.inodes[i]'hlt).ents.length∧s.1=c+(((t.inodes[i]'hlt).ents.take s.2).map Ent.ino).count n) (fun s=>(t.inodes[i]'hlt).ents.length-s.2) ((c,0)) hP1 hQ1 (rfl) (by simp) ?_
   rintro ⟨d,k⟩ ⟨hk,hd⟩ w2 hP2 hQ2
   refine N2 ?_
   simp only at hk hd
   have hcl:=yC (t.inodes[i]'hlt).ents k n
   have hz:=(bF h1)
   refine Nz2 ?_
   (first | with_reducible refine tO _ ?_ ?_ | refine tP _ ?_ ?_) <;> intro g1
   ·have hct:=ag4 (l:=(t.inodes[i]'hlt).ents) (k:=k) (by omega) n
    have hz:=And.intro g1 (And.intro (bF h1) hk2)
    refine Nz2 ?_
    have hz:=And.intro (bF h1) (bF g1)
    refine Nz2 ?_
    (first | with_reducible refine cP _ ?_ ?_ | refine cQ _ ?_ ?_) <;> intro g2
    ·rw [lF g2] at hct
     refine N2 ?_
     exact ⟨(d+1,k+1),rfl,⟨by simp only; omega,by simp only; omega⟩,by simp only; omega⟩
    ·rw [lI g2] at hct
     refine N2 ?_
     exact ⟨(d,k+1),rfl,⟨by simp only; omega,by simp only; omega⟩,by simp only; omega⟩
   ·obtain rfl:k=(t.inodes[i]'hlt).ents.length:=by omega
    rw [lW1] at hd
    have hz:=g1
    refine Nz2 ?_
    exact ⟨(d,i+1),rfl,⟨by simp only; omega,by simp only; omega⟩,by simp only; omega⟩
  ·have hf:=anZ (n:=n) hk2
   refine eU [] ?_
   refine N1 ?_
   refine aR [] (fun s:Nat × Nat=>[(5,.int .i64 (s.1:Nat)),(7,.int .i64 (s.2:Nat))]) (fun s=>s=(c,0)) (fun s=>0) ((c,0)) hP1 hQ1 (rfl) (rfl) ?_
   rintro ⟨d,k⟩ hk w2 hP2 hQ2
   refine N2 ?_
   obtain ⟨rfl,rfl⟩:=Prod.mk.inj hk
   have hz:=(bF h1)
   refine Nz2 ?_
   (first | with_reducible refine tO _ ?_ ?_ | refine tP _ ?_ ?_) <;> intro g1
   ·have hz:=And.intro g1 (And.intro (bF h1) hk2)
    refine Nz2 ?_
    exact ⟨(d,i+1),rfl,⟨by simp only; omega,by simp only; omega⟩,by simp only; omega⟩
   ·have hz:=g1
    refine Nz2 ?_
    exact ⟨(d,i+1),rfl,⟨by simp only; omega,by simp only; omega⟩,by simp only; omega⟩
 ·obtain rfl:i=t.inodes.length:=by omega
  rw [lW1,← adq] at hc
  subst hc
  exact N1 trivial
theorem aiE (t:Tab) (n:Int) (h:t.sz<2^40):aY Tryz.prog 86 [t.x,.int .i64 n] (.int .i64 (bA t n:Nat)) [.undef,.undef]:=by
 obtain ⟨hl,hls⟩:=cO h
 refine U ae1 [] 14695095 [] fun w hP hQ=>?_
 unfold wY
 refine N ?_
 refine eU [7,9,21,22,23,5007,5009] ?_
 refine N ?_
 refine aR [7,9,21,22,23,5007,5009] (fun s:Nat × Nat=>[(5,.int .i64 (s.1:Nat)),(13,.int .i64 (s.2:Nat))]) (fun s=>s.2≤t.inodes.length∧s.1=((t.inodes.take s.2).map (lkF n)).sum) (fun s=>t.inodes.length-s.2) ((0,0)) hP hQ (rfl) (by simp) ?_
 rintro ⟨c,i⟩ ⟨hi,hc⟩ w1 hP1 hQ1
 refine N1 ?_
 simp only at hi hc
 (first | with_reducible refine cP _ ?_ ?_ | refine cQ _ ?_ ?_) <;> intro h1
 ·have hlt:i<t.inodes.length:=by omega
  have hs:=vR (lkF n) t.inodes i hlt
  have hb:=nV t n i
  have hx:=hls _ (lP hlt)
  have hz:=(bF h1)
  refine Nz1 ?_
  generalize t.inodes[i]'hlt=x at *
  have hel:x.ents.length<2^40:=(cT hx).2.1
  (first | with_reducible refine cP _ ?_ ?_ | refine cQ _ ?_ ?_) <;> intro hk2
  ·have hf:=alb (n:=n) hk2
   refine N1 ?_
   refine eU [9,5009] ?_
   refine N1 ?_
   refine aR [9,5009] (fun s:Nat × Nat=>[(5,.int .i64 (s.1:Nat)),(23,.int .i64 (s.2:Nat))]) (fun s=>s.2≤x.ents.length∧s.1=c+((x.ents.take s.2).map Ent.ino).count n) (fun s=>x.ents.length-s.2) ((c,0)) hP1 hQ1 (rfl) (by simp) ?_
   rintro ⟨d,k⟩ ⟨hk,hd⟩ w2 hP2 hQ2
   refine N2 ?_
   simp only at hk hd
   have hcl:=yC x.ents k n
   (first | with_reducible refine cP _ ?_ ?_ | refine cQ _ ?_ ?_) <;> intro g1
   ·have hct:=ag4 (l:=x.ents) (k:=k) (by omega) n
    have hz:=(bF g1)
    refine Nz2 ?_
    (first | with_reducible refine cP _ ?_ ?_ | refine cQ _ ?_ ?_) <;> intro g2
    ·rw [lF g2] at hct
     refine N2 ?_
     exact ⟨(d+1,k+1),rfl,⟨by simp only; omega,by simp only; omega⟩,by simp only; omega⟩
    ·rw [lI g2] at hct
     refine N2 ?_
     exact ⟨(d,k+1),rfl,⟨by simp only; omega,by simp only; omega⟩,by simp only; omega⟩
   ·obtain rfl:k=x.ents.length:=by omega
    rw [lW1] at hd
    refine N2 ?_
    exact ⟨(d,i+1),rfl,⟨by simp only; omega,by simp only; omega⟩,by simp only; omega⟩
  ·have hf:=anZ (n:=n) hk2
   refine N1 ?_
   exact ⟨(c,i+1),rfl,⟨by simp only; omega,by simp only; omega⟩,by simp only; omega⟩
 ·obtain rfl:i=t.inodes.length:=by omega
  rw [lW1,← adq] at hc
  subst hc
  exact N1 trivial
def atF (a:Attr):Nat:=a.name.length+a.val.length
def usF (x:Inode):Nat:=32+x.data.length+(x.attrs.map atF).sum
theorem ald (t:Tab):iC t=(t.inodes.map usF).sum:=rfl
theorem an0 (x:Inode):(x.attrs.map atF).sum+x.data.length≤x.sz:=by
 have h2:x.sz=x.data.length+szM Ent.sz x.ents+szM Attr.sz x.attrs:=rfl
 have h3:szM Attr.sz x.attrs=x.attrs.length+(x.attrs.map Attr.sz).sum:=rfl
 have h4:(x.attrs.map atF).sum=(x.attrs.map Attr.sz).sum:=rfl
 omega
theorem afA (t:Tab) (i:Nat):((t.inodes.take i).map usF).sum≤33*t.sz:=by
 have h1:=nJ usF t.inodes i
 have h3:t.sz=t.inodes.length+(t.inodes.map Inode.sz).sum:=rfl
 have h4:(t.inodes.map usF).sum≤32*t.inodes.length+(t.inodes.map Inode.sz).sum:=by
  generalize t.inodes=l
  induction l with
  | nil=>simp
  | cons x l ih=>
   have:=an0 x
   simp only [lO,lG2,lW]
   have e:usF x=32+x.data.length+(x.attrs.map atF).sum:=rfl
   omega
 omega
theorem aaI (t:Tab) (h:t.sz<2^40):aY Tryz.prog 35 [t.x] (.int .i64 (iC t:Nat)) [.undef]:=by
 obtain ⟨hl,hls⟩:=cO h
 refine U aeX [] 29363887 [] fun w hP hQ=>?_
 unfold wU
 refine N ?_
 refine eU [5,7,22,23,24,5005,5007] ?_
 refine N ?_
 refine aR [5,7,22,23,24,5005,5007] (fun s:Nat × Nat=>[(3,.int .i64 (s.1:Nat)),(11,.int .i64 (s.2:Nat))]) (fun s=>s.2≤t.inodes.length∧s.1=((t.inodes.take s.2).map usF).sum) (fun s=>t.inodes.length-s.2) ((0,0)) hP hQ (rfl) (by simp) ?_
 rintro ⟨c,i⟩ ⟨hi,hc⟩ w1 hP1 hQ1
 refine N1 ?_
 simp only at hi hc
 (first | with_reducible refine cP _ ?_ ?_ | refine cQ _ ?_ ?_) <;> intro h1
 ·have hlt:i<t.inodes.length:=by omega
  have hs:=vR usF t.inodes i hlt
  have hb:=afA t i
  have hx:=hls _ (lP hlt)
  have hae:=an0 (t.inodes[i]'hlt)
  have hue:usF (t.inodes[i]'hlt)=32+(t.inodes[i]'hlt).data.length+((t.inodes[i]'hlt).attrs.map atF).sum:=rfl
  have hz:=(bF h1)
  refine Nz1 ?_
  generalize t.inodes[i]'hlt=x at *
  have hel:x.attrs.length<2^40:=(cT hx).2.2
  refine eU [7,5007] ?_
  refine N1 ?_
  refine aR [7,5007] (fun s:Nat × Nat=>[(3,.int .i64 (s.1:Nat)),(24,.int .i64 (s.2:Nat))]) (fun s=>s.2≤x.attrs.length∧s.1=c+(32+x.data.length)+((x.attrs.take s.2).map atF).sum) (fun s=>x.attrs.length-s.2) ((c+(32+x.data.length),0)) hP1 hQ1 (by simp only [Int.natCast_add]; rfl) (by simp) ?_
  rintro ⟨d,k⟩ ⟨hk,hd⟩ w2 hP2 hQ2
  refine N2 ?_
  simp only at hk hd
  have hal:=nJ atF x.attrs k
  (first | with_reducible refine cP _ ?_ ?_ | refine cQ _ ?_ ?_) <;> intro g1
  ·have hct:=vR atF x.attrs k (by omega)
   have hal':=nJ atF x.attrs (k+1)
   have hae':atF (x.attrs[k]'(by omega))=(x.attrs[k]'(by omega)).name.length+(x.attrs[k]'(by omega)).val.length:=rfl
   have hz:=(bF g1)
   refine Nz2 ?_
   exact ⟨(d+((x.attrs[k]'(by omega)).name.length+(x.attrs[k]'(by omega)).val.length),k+1),by simp,⟨by simp only; omega,by simp only; omega⟩,by simp only; omega⟩
  ·obtain rfl:k=x.attrs.length:=by omega
   rw [lW1] at hd
   refine N2 ?_
   exact ⟨(d,i+1),rfl,⟨by simp only; omega,by simp only; omega⟩,by simp only; omega⟩
 ·obtain rfl:i=t.inodes.length:=by omega
  rw [lW1,← ald] at hc
  subst hc
  exact N1 trivial
def eQ (n:Int):List TV:=[.int .i64 n]
theorem api (l:List Int):gU (l.map eQ)=true:=yB eQ (fun _=>rfl) l
theorem aqA {l:List Int} {n:Int} (hk:∀ k,(h:k<l.length)→decide (l[k]=n)=false):n ∉ l:=by
 intro h
 obtain ⟨k,hk',e⟩:=lV1 h
 have:=hk k hk'
 simp [e] at this
theorem ag5 (l:List Int) (n:Int) (hl:l.length<2^48):aY Tryz.prog 212 [.ext 1 (l.map eQ),.int .i64 n] (.bool (decide (n ∈ l))) [.undef,.undef]:=by
 refine U akC [] 51 [] fun w hP hQ=>?_
 unfold acL
 refine N ?_
 refine eU [4] ?_
 refine N ?_
 refine aR [4] (fun i:Nat=>[(5,.int .i64 i)]) (fun i=>i≤l.length∧∀ k,k<i→(h:k<l.length)→decide (l[k]=n)=false) (fun i=>l.length-i) (0) hP hQ (rfl) (by simp) ?_
 rintro i ⟨hi,hk⟩ w1 hP1 hQ1
 refine N1 ?_
 (first | with_reducible refine cP _ ?_ ?_ | refine cQ _ ?_ ?_) <;> intro h1
 ·simp +decide (maxSteps:=9^9) (disch:=omega) only[↓SB0,SX,seval,hQ,hQ1,bF h1,eQ]
  (first | with_reducible refine cP _ ?_ ?_ | refine cQ _ ?_ ?_) <;> intro h2
  ·refine N1 ?_
   rw [lG (by rw [← h2]; exact lP _)]
  ·refine N1 ?_
   exact ⟨i+1,rfl,⟨by omega,pH (p:=fun x:Int=>decide (x=n)) hk (by omega) (lB h2)⟩,by omega⟩
 ·obtain rfl:i=l.length:=by omega
  refine N1 ?_
  rw [lB (aqA fun k h=>hk k h h)]
theorem ale {l:List Int} (hu:Up l) {n:Int} {k:Nat} (hk:k≤l.length) (hn:n ∉ l) (h1:∀ j,k≤j→(h:j<l.length)→n<l[j]) (h2:k=0∨∃ h:k-1<l.length,l[k-1]≤n) :
  akF l n=l.take k++n::l.drop k:=by
 have hlow:∀ j,j<k→(h:j<l.length)→l[j]<n:=by
  intro j hj hjl
  rcases h2 with h2 | ⟨h2,h3⟩
  ·omega
  ·have hne:l[j]≠n:=fun e=>hn (by rw [← e]; exact lP _)
   by_cases e:j=k-1
   ·subst e; omega
   ·have:=lN3.1 hu j (k-1) hjl h2 (by omega)
    omega
 have e1:l.takeWhile (·<n)=l.take k:=by
  have:l=l.take k++l.drop k:=(lJ k l).symm
  rw [this,List.takeWhile_append_of_pos,lJ]
  ·have:(l.drop k).takeWhile (fun x=>decide (x<n))=[]:=by
    cases hd:l.drop k with
    | nil=>rfl
    | cons x r=>
     rw [List.takeWhile_cons_of_neg]
     have hkl:k<l.length:=by
      have:=congrArg List.length hd
      simp at this; omega
     have hx:x=l[k]:=by
      have:=congrArg (fun r=>r[0]?) hd
      simp [hkl] at this
      exact this.symm
     have:=h1 k (lJ1 _) hkl
     simp; omega
   rw [this]; simp
  ·intro x hx
   obtain ⟨j,hj,rfl⟩:=lV1 hx
   simp only [lN] at hj
   rw [List.getElem_take]
   have:=hlow j (by omega) (by omega)
   simpa using this
 have e2:l.dropWhile (·<n)=l.drop k:=by
  have h:=List.takeWhile_append_dropWhile (p:=fun x=>decide (x<n)) (l:=l)
  rw [e1] at h
  exact List.append_cancel_left (h.trans (lJ k l).symm)
 rw [akF,lI hn,e1,e2]
theorem ag6 {l:List Int} {k:Nat} {h:Int} (hk:k<l.length):((l.take (k+1)++h::l.drop (k+1)))[k]?=some l[k]:=by
 rw [lO2 (by simp; omega),lZ,lF (by omega),lK hk]
theorem am8 {l:List Int} {k:Nat} {h:Int} (hk:k≤l.length):(l.take k++h::l.drop k).length=l.length+1:=by simp; omega
theorem ag7 {l:List Int} {k:Nat} (h x:Int) (hk:k≤l.length):(l.take k++h::l.drop k).set k x=l.take k++x::l.drop k:=by
 have:(l.take k).length=k:=by simp; omega
 rw [List.set_append_right _ _ (by omega)]
 congr 1
 rw [this,Nat.sub_self]; rfl
theorem alf {l:List Int} {k:Nat} (hk:k<l.length):l.take (k+1)++l[k]::l.drop (k+1)=l.take k++l[k]::l.drop k:=by
 rw [lT hk,lJ2]
 congr 1
 rw [← lQ2 hk]; rfl
theorem alg (L:List Int) (k:Nat) (n:Int):(L.map eQ).modify k (fun r=>TV.int .i64 n::r.drop 1)=(L.set k n).map eQ:=by
 apply lI2
 intro j
 rw [lQ1,lS1,lS1,lJ4]
 by_cases e:k=j
 ·subst e
  by_cases hk:k<L.length
  ·simp [hk,eQ]
  ·simp [hk]
 ·simp [e]
theorem apj (l:List Int) (n:Int):l.map eQ++[[TV.int .i64 n]]=(l.take l.length++n::l.drop l.length).map eQ:=by simp [eQ]
theorem ag8 (l:List Int) (n:Int) (hu:Up l) (hl:l.length<2^40):aY Tryz.prog 162 [.ext 1 (l.map eQ),.int .i64 n] (.ext 1 ((akF l n).map eQ)) [.undef,.undef]:=by
 by_cases hn:n ∈ l
 ·have hH:=ag5 l n (by omega)
  rw [lG hn] at hH
  rw [akF,lF hn]
  refine U acP [] 115 [] fun w hP hQ=>?_
  unfold xE
  refine N ?_
  exact K (hH) trivial
 ·refine acy (ret:=.own 1 ((akF l n).map eQ)) ?_
  have hH:=ag5 l n (by omega)
  rw [lB hn] at hH
  refine U acP [] 115 [] fun w hP hQ=>?_
  unfold xE
  refine N ?_
  refine K (hH) ?_
  simp +decide (maxSteps:=9^9) (disch:=omega) only[↓SB0,SX,seval,hQ,api,lU,bC]
  rw [apj]
  refine eU [] ?_
  refine N ?_
  refine aR [] (fun s:Nat × Int=>[(5,.own 1 ((l.take s.1++s.2::l.drop s.1).map eQ)),(6,.int .i64 (s.1:Nat))]) (fun s=>s.1≤l.length∧∀ j,s.1≤j→(h:j<l.length)→n<l[j]) (fun s=>s.1) ((l.length,n)) hP hQ (rfl) (by simp; omega) ?_
  rintro ⟨k,x⟩ ⟨hk,hj⟩ w1 hP1 hQ1
  refine N1 ?_
  simp only at hk hj
  have hlen:=am8 (h:=x) hk
  cases k with
  | zero=>
   refine N1 ?_
   rw [ale hu hk hn hj (.inl rfl)]
   simp [eQ]
  | succ k=>
   have hkl:k<l.length:=by omega
   have w4:decide ((0:Int)<((k+1:Nat):Int))=true:=lG (by omega)
   simp +decide (maxSteps:=9^9) (disch:=omega) only[↓SB0,SX,seval,hQ,hQ1,w4,hlen,bC,ag6 (h:=x) hkl,eQ]
   (first | with_reducible refine cP _ ?_ ?_ | refine cQ _ ?_ ?_) <;> intro g
   ·simp +decide (maxSteps:=9^9) (disch:=omega) only[↓SB0,SX,seval,hQ,hQ1,hlen,bC,ag6 (h:=x) hkl,eQ]
    exact ⟨(k,l[k]),by simp only [alg,ag7 _ _ hk,alf hkl],⟨by simp only; omega,fun j hj1 hj2=>by
     by_cases e:j=k
     ·subst e; exact g
     ·exact hj j (by simp only at hj1; omega) hj2⟩,by simp only; omega⟩
   ·simp +decide (maxSteps:=9^9) (disch:=omega) only[↓SB0,SX,seval,hQ,hQ1,hlen,eQ]
    rw [ale hu hk hn hj (.inr ⟨by simpa using hkl,by simp only [Nat.add_sub_cancel]; omega⟩),alg,ag7 _ _ hk]
theorem aaJ {α β:Type} (f:β→α→β) (l:List α) (a:β) (i:Nat) (h:i<l.length):(l.take (i+1)).foldl f a=f ((l.take i).foldl f a) l[i]:=by
 rw [lT h,List.foldl_append]; rfl
theorem abI {t:Tab} {j:Int}:(nbT t j).isSome=(bS t j).isSome:=by
 rw [nbT]
 cases e:bS t j with
 | none=>rw [aaG e]; rfl
 | some k=>rw [sX e]; rfl
theorem am9 {t:Tab} {j:Int} {k:Nat} (out:List Int) (h:bS t j=some k):agI (nbT t) out j=akF out j:=by
 rw [agI,abI,h]; rfl
theorem apk {t:Tab} {j:Int} (out:List Int) (h:bS t j=none):agI (nbT t) out j=out:=by
 rw [agI,abI,h]; rfl
structure Nums (t:Tab) (l:List Int):Prop where
 up:Up l
 some':∀ x ∈ l,(nbT t x).isSome=true
theorem Nums.len {t:Tab} {l:List Int} (h:Nums t l):l.length≤t.inodes.length:=p5 t l (sI h.up) h.some'
theorem Nums.addJs {t:Tab} {l:List Int} (h:Nums t l) (js:List Int):Nums t (js.foldl (agI (nbT t)) l):=
 ⟨agK (nbT t) js l h.up,fun x hx=>by
  rcases (acX (nbT t) js l x).1 hx with h' | h'
  ·exact h.some' x h'
  ·exact h'.2⟩
theorem Nums.addIs {t:Tab} {l:List Int} (h:Nums t l) (is:List Int):Nums t (is.foldl (agJ (nbT t)) l):=
 ⟨agL (nbT t) is l h.up,fun x hx=>by
  rcases (acY (nbT t) is l x).1 hx with h' | h'
  ·exact h.some' x h'
  ·exact h'.2⟩
theorem alh {t:Tab} {i:Int} (out:List Int) (h:aD t i=none):agJ (nbT t) out i=out:=by rw [agJ,nbT,h]; rfl
theorem ali {t:Tab} {i:Int} {x:Inode} (out:List Int) (h:aD t i=some x) (hk:¬ x.kind=2):agJ (nbT t) out i=out:=by rw [agJ,nbT,h]; simp [fQ,hk]
theorem ana {t:Tab} {i:Int} {x:Inode} (out:List Int) (h:aD t i=some x) (hk:x.kind=2):agJ (nbT t) out i=(x.ents.map Ent.ino).foldl (agI (nbT t)) out:=by rw [agJ,nbT,h]; simp [fQ,hk]
theorem aiF (f:List Int→Int→List Int) (l:List Ent) (a:List Int) (k:Nat) (h:k<l.length):((l.take (k+1)).map Ent.ino).foldl f a=f (((l.take k).map Ent.ino).foldl f a) l[k].ino:=by
 have:=aaJ f (l.map Ent.ino) a k (by simpa using h)
 rw [← lG4,← lG4] at this
 rw [this]; simp
theorem adr (t:Tab) (l:List Int) (h:t.sz<2^40) (hn:Nums t l):aY Tryz.prog 112 [t.x,.ext 1 (l.map eQ)] (.ext 1 ((akG (nbT t) l).map eQ)) [.undef,.undef]:=by
 obtain ⟨hl,hls⟩:=cO h
 have hll:=hn.len
 refine U aia [] 1015 [] fun w hP hQ=>?_
 unfold zZ
 refine N ?_
 refine eU [7,8,9,5007] ?_
 refine N ?_
 refine aR [7,8,9,5007] (fun i:Nat=>[(5,.ext 1 (((l.take i).foldl (agJ (nbT t)) l).map eQ)),(6,.int .i64 i)]) (fun i=>i≤l.length) (fun i=>l.length-i) (0) hP hQ (rfl) (by simp) ?_
 rintro i hi w1 hP1 hQ1
 refine N1 ?_
 (first | with_reducible refine cP _ ?_ ?_ | refine cQ _ ?_ ?_) <;> intro h1
 ·have hlt:i<l.length:=by omega
  have hI:=uF t (l[i]'hlt) h
  have hfo:=aaJ (agJ (nbT t)) l l i hlt
  have hno:=hn.addIs (l.take i)
  generalize hO:(l.take i).foldl (agJ (nbT t)) l=out at *
  cases e:aD t (l[i]'hlt) with
  | none=>
   rw [afx,e] at hI
   rw [alh _ e] at hfo
   simp +decide (maxSteps:=9^9) (disch:=omega) only[↓SB0,SX,seval,hQ,hQ1,bF h1,eQ]
   refine K1 (hI) ?_
   refine eU [] ?_
   refine N1 ?_
   refine aR [] (fun k:Nat=>[(5,.ext 1 (out.map eQ)),(9,.int .i64 k)]) (fun k=>k=0) (fun k=>0) (0) hP1 hQ1 (rfl) (rfl) ?_
   rintro k hk w2 hP2 hQ2
   refine N2 ?_
   subst hk
   refine N2 ?_
   exact ⟨i+1,by simp only [hfo]; rfl,by omega,by omega⟩
  | some x=>
   have hx:=hls x (aO e).1
   have hel:x.ents.length<2^40:=(cT hx).2.1
   rw [afx,e] at hI
   simp only [lA1,lU2] at hI
   by_cases hk2:x.kind=2
   ·rw [ana _ e hk2] at hfo
    simp +decide (maxSteps:=9^9) (disch:=omega) only[↓SB0,SX,seval,hQ,hQ1,bF h1,eQ]
    refine K1 (hI) ?_
    refine eU [] ?_
    refine N1 ?_
    refine aR [] (fun k:Nat=>[(5,.ext 1 ((((x.ents.take k).map Ent.ino).foldl (agI (nbT t)) out).map eQ)),(9,.int .i64 k)]) (fun k=>k≤x.ents.length) (fun k=>x.ents.length-k) (0) hP1 hQ1 (rfl) (by simp) ?_
    rintro k hk w2 hP2 hQ2
    refine N2 ?_
    have hno2:=hno.addJs ((x.ents.take k).map Ent.ino)
    have hl2:=hno2.len
    (first | with_reducible refine tO _ ?_ ?_ | refine tP _ ?_ ?_) <;> intro g1
    ·have hkl:k<x.ents.length:=by omega
     have hf2:=aiF (agI (nbT t)) x.ents out k hkl
     generalize ((x.ents.take k).map Ent.ino).foldl (agI (nbT t)) out=o2 at *
     have hA:=rC t (x.ents[k]'hkl).ino (by omega)
     have hz:=And.intro g1 hk2
     refine Nz2 ?_
     cases e2:bS t (x.ents[k]'hkl).ino with
     | none=>
      rw [e2] at hA
      rw [apk _ e2] at hf2
      have hz:=(bF g1)
      refine Nz2 ?_
      refine K2 (hA) ?_
      exact ⟨k+1,by simp only [hf2,hk2]; rfl,by omega,by omega⟩
     | some m=>
      rw [e2,show yX (some m)=(m:Int) from rfl] at hA
      rw [am9 _ e2] at hf2
      have hz:=(bF g1)
      refine Nz2 ?_
      refine K2 (hA) ?_
      (first | with_reducible refine cP _ ?_ ?_ | refine cQ _ ?_ ?_) <;> intro g3
      ·have hz:=(bF g1)
       refine Nz2 ?_
       (first | refine aF hP2 (ag8 o2 (x.ents[k]'hkl).ino hno2.up (by omega)) (.inr rfl) ?_ | refine aC hP2 (ag8 o2 (x.ents[k]'hkl).ino hno2.up (by omega)) (.inr rfl) ?_)
       refine N2 ?_
       exact ⟨k+1,by simp only [hf2,hk2]; rfl,by omega,by omega⟩
      ·exfalso; omega
    ·obtain rfl:k=x.ents.length:=by omega
     rw [lW1] at *
     have hz:=g1
     refine Nz2 ?_
     exact ⟨i+1,by simp only [hfo]; rfl,by omega,by omega⟩
   ·rw [ali _ e hk2] at hfo
    simp +decide (maxSteps:=9^9) (disch:=omega) only[↓SB0,SX,seval,hQ,hQ1,bF h1,eQ]
    refine K1 (hI) ?_
    refine eU [] ?_
    refine N1 ?_
    refine aR [] (fun k:Nat=>[(5,.ext 1 (out.map eQ)),(9,.int .i64 k)]) (fun k=>k=0) (fun k=>0) (0) hP1 hQ1 (rfl) (rfl) ?_
    rintro k hk w2 hP2 hQ2
    refine N2 ?_
    subst hk
    refine N2 ?_
    (first | with_reducible refine tO _ ?_ ?_ | refine tP _ ?_ ?_) <;> intro g1
    ·have hz:=And.intro g1 hk2
     refine Nz2 ?_
     exact ⟨i+1,by simp only [hfo]; rfl,by omega,by omega⟩
    ·have hz:=g1
     refine Nz2 ?_
     exact ⟨i+1,by simp only [hfo]; rfl,by omega,by omega⟩
 ·obtain rfl:i=l.length:=by omega
  simp +decide (maxSteps:=9^9) (disch:=omega) only[↓SB0,SX,seval,hQ,hQ1,lW1]
  rfl
def rdV (t:Tab):Nat→AV
 | 0=>.own 1 [eQ 1]
 | i+1=>.ext 1 ((cY (nbT t) (i+1)).map eQ)
theorem aaK (t:Tab) (h:t.sz<2^40):aY Tryz.prog 50 [t.x] (.ext 1 ((fB t).map eQ)) [.undef]:=by
 obtain ⟨hl,hls⟩:=cO h
 have hA:=rC t 1 (by omega)
 cases e:bS t 1 with
 | none=>
  have hr:fB t=[]:=by rw [fB,sJ,lI]; rw [abI,e]; simp
  rw [e] at hA
  rw [hr]
  refine acy (ret:=.own 1 []) ?_
  refine U xJ [] 31 [] fun w hP hQ=>?_
  unfold qX
  refine N ?_
  exact K (hA) trivial
 | some m=>
  have hm:=uT e
  have h1s:(nbT t 1).isSome=true:=by rw [abI,e]; rfl
  have hr:fB t=cY (nbT t) t.inodes.length:=by rw [fB,sJ,lF h1s]
  rw [e,show yX (some m)=(m:Int) from rfl] at hA
  rw [hr]
  have hnum:∀ i,Nums t (cY (nbT t) i):=fun i=>⟨jO _ i,fun x hx=>mN _ (o4 _ h1s i x hx)⟩
  refine U xJ [(112,[.b,.m],[])] 31 [] fun w hP hQ=>?_
  unfold qX
  refine N ?_
  refine K (hA) ?_
  (first | with_reducible refine cP _ ?_ ?_ | refine cQ _ ?_ ?_) <;> intro g0
  ·exfalso; omega
  refine N ?_
  refine eU [] ?_
  refine N ?_
  refine aR [] (fun i:Nat=>[(3,rdV t i),(4,.int .i64 i)]) (fun i=>i≤t.inodes.length) (fun i=>t.inodes.length-i) (0) hP hQ (rfl) (by simp) ?_
  rintro i hi w1 hP1 hQ1
  refine N1 ?_
  cases i with
  | zero=>
   have hN:=ah1 (adr t [1] h (hnum 0))
   simp only [rdV]
   (first | with_reducible refine cP _ ?_ ?_ | refine cQ _ ?_ ?_) <;> intro h1
   ·refine N1 ?_
    (first | refine aF hP1 (hN) (.inr rfl) ?_ | refine aC hP1 (hN) (.inr rfl) ?_)
    refine N1 ?_
    exact ⟨1,rfl,by omega,by omega⟩
   ·exfalso; omega
  | succ i=>
   have hN:=adr t (cY (nbT t) (i+1)) h (hnum (i+1))
   simp only [rdV]
   (first | with_reducible refine cP _ ?_ ?_ | refine cQ _ ?_ ?_) <;> intro h1
   ·refine N1 ?_
    (first | refine aF hP1 (hN) (.inr rfl) ?_ | refine aC hP1 (hN) (.inr rfl) ?_)
    refine N1 ?_
    exact ⟨i+1+1,rfl,by omega,by omega⟩
   ·have he:i+1=t.inodes.length:=by omega
    refine N1 ?_
    rw [he]
section
open Go.Proofs Go.Shelf
def vF:Go.Shelf.Ren:=⟨fun | 189=>111 | 125=>145 | 257=>161 | 128=>196 | 129=>197 | 294=>203 | 295=>204 | 296=>205 | 297=>206 | 298=>207 | 299=>208 | 216=>209 | 300=>210 | 301=>211 | 328=>239 | 329=>233 | 330=>234 | 331=>240 | 332=>241 | 215=>242 | 343=>259 | n=>n,
 fun | 28=>53 | 3=>3 | 46=>141 | 0=>0 | 51=>178 | 53=>180 | 4=>4 | 183=>171 | 182=>170 | 131=>175 | 5=>5 | 9=>9 | 218=>200 | 222=>204 | 228=>233 | 229=>35 | n=>n,
 fun | n=>n⟩
theorem uU:Lays.n189 Tryz.prog vF where
 mixed:=by kernel_rfl
 f125:=Tryz.func145.trans (congrArg some (by kernel_rfl))
 f128:=Tryz.func196.trans (congrArg some (by kernel_rfl))
 f129:=Tryz.func197.trans (congrArg some (by kernel_rfl))
 f189:=Tryz.func111.trans (congrArg some (by kernel_rfl))
 f215:=Tryz.func242.trans (congrArg some (by kernel_rfl))
 f216:=Tryz.func209.trans (congrArg some (by kernel_rfl))
 f257:=Tryz.func161.trans (congrArg some (by kernel_rfl))
 f294:=Tryz.func203.trans (congrArg some (by kernel_rfl))
 f295:=Tryz.func204.trans (congrArg some (by kernel_rfl))
 f296:=Tryz.func205.trans (congrArg some (by kernel_rfl))
 f297:=Tryz.func206.trans (congrArg some (by kernel_rfl))
 f298:=Tryz.func207.trans (congrArg some (by kernel_rfl))
 f299:=Tryz.func208.trans (congrArg some (by kernel_rfl))
 f300:=Tryz.func210.trans (congrArg some (by kernel_rfl))
 f301:=Tryz.func211.trans (congrArg some (by kernel_rfl))
 f328:=Tryz.func239.trans (congrArg some (by kernel_rfl))
 f329:=Tryz.func233.trans (congrArg some (by kernel_rfl))
 f330:=Tryz.func234.trans (congrArg some (by kernel_rfl))
 f331:=Tryz.func240.trans (congrArg some (by kernel_rfl))
 f332:=Tryz.func241.trans (congrArg some (by kernel_rfl))
 f343:=Tryz.func259.trans (congrArg some (by kernel_rfl))
 t0:=Tryz.underlying0
 a0:=Tryz.isAgg0
 z0:=Tryz.sizeOf0
 v0:=Tryz.zeroValue0
 t3:=Tryz.underlying3
 a3:=Tryz.isAgg3
 z3:=Tryz.sizeOf3
 v3:=Tryz.zeroValue3
 t4:=Tryz.underlying4
 a4:=Tryz.isAgg4
 z4:=Tryz.sizeOf4
 v4:=Tryz.zeroValue4
 t5:=Tryz.underlying5
 a5:=Tryz.isAgg5
 z5:=Tryz.sizeOf5
 v5:=Tryz.zeroValue5
 t9:=Tryz.underlying9
 a9:=Tryz.isAgg9
 z9:=Tryz.sizeOf9
 v9:=Tryz.zeroValue9
 t28:=Tryz.underlying53
 a28:=Tryz.isAgg53
 z28:=Tryz.sizeOf53
 v28:=Tryz.zeroValue53
 t46:=Tryz.underlying141
 a46:=Tryz.isAgg141
 z46:=Tryz.sizeOf141
 v46:=Tryz.zeroValue141
 t51:=Tryz.underlying178
 a51:=Tryz.isAgg178
 z51:=Tryz.sizeOf178
 v51:=Tryz.zeroValue178
 t53:=Tryz.underlying180
 a53:=Tryz.isAgg180
 z53:=Tryz.sizeOf180
 v53:=Tryz.zeroValue180
 t131:=Tryz.underlying175
 a131:=Tryz.isAgg175
 z131:=Tryz.sizeOf175
 v131:=Tryz.zeroValue175
 t182:=Tryz.underlying170
 a182:=Tryz.isAgg170
 z182:=Tryz.sizeOf170
 v182:=Tryz.zeroValue170
 t183:=Tryz.underlying171
 a183:=Tryz.isAgg171
 z183:=Tryz.sizeOf171
 v183:=Tryz.zeroValue171
 t218:=Tryz.underlying200
 a218:=Tryz.isAgg200
 z218:=Tryz.sizeOf200
 v218:=Tryz.zeroValue200
 t222:=Tryz.underlying204
 a222:=Tryz.isAgg204
 z222:=Tryz.sizeOf204
 v222:=Tryz.zeroValue204
 t228:=Tryz.underlying233
 a228:=Tryz.isAgg233
 z228:=Tryz.sizeOf233
 v228:=Tryz.zeroValue233
 t229:=Tryz.underlying35
 a229:=Tryz.isAgg35
 z229:=Tryz.sizeOf35
 v229:=Tryz.zeroValue35
end
theorem anb {w:World} {o:Bool} {F:aL}:∀ (l:List Int) {cs:List Value},Row w o F cs (l.map eQ).flatten→cs=l.map (Value.int .i64)∧∀ b,F b=0:=by
 intro l
 induction l generalizing F with
 | nil=>
  intro cs h
  cases h with
  | nil _ _ hF=>exact ⟨rfl,hF⟩
 | cons n l ih=>
  intro cs h
  have e:((n::l).map eQ).flatten=.int .i64 n::(l.map eQ).flatten:=by simp [eQ]
  rw [e] at h
  cases h with
  | int _ _ _ _ vs _ h=>
   obtain ⟨e1,e2⟩:=ih h
   exact ⟨by rw [e1]; rfl,e2⟩
theorem anc {w:World} {o:Bool} (l:List Int):Row w o (fun _=>0) (l.map (Value.int .i64)) (l.map eQ).flatten:=by
 induction l with
 | nil=>exact .nil _ _ fun _=>rfl
 | cons n l ih=>
  have e:((n::l).map eQ).flatten=.int .i64 n::(l.map eQ).flatten:=by simp [eQ]
  rw [e]
  exact .int _ _ _ _ _ _ ih
abbrev vG (l:List Int):List Int:=l.mergeSort fun x y=>decide (x≤y)
theorem aqB (l:List Int) (hl:l.length<2^40):aY Tryz.prog 111 [.own 1 (l.map eQ)] (.tup []) [.own 1 ((vG l).map eQ)]:=by
 refine ⟨⟨_,Tryz.func111,by kernel_rfl,by kernel_rfl⟩,rfl,?_⟩
 intro w vs F X r h1 h2 h3
 have hlen:(vG l).length=l.length:=List.length_mergeSort l
 cases r with
 | own _ F1 F2 _ s es v vs ys hr hn hF=>
  cases hn with
  | nil _ _ hF2 hX=>
   rcases Row.sl_inv hr with ⟨rfl,he,h0⟩ | ⟨G1,b,off,cap,C,ty,fr,cs,rfl,hb,hfr,hcap,hle,hes,hcs,hc,hrow,hG⟩
   ·have hl0:l=[]:=by simpa using he
    subst hl0
    refine (Any.slices_Sort_int_none uU none 0 w).mono ?_
    rintro e w' ⟨rfl,rfl⟩
    refine ⟨.tuple #[],F,X,rfl,?_,h1,h2,⟨lJ1 _,.refl _⟩,fun b _ _=>rfl,fun b hb=>.inl hb,fun b hb=>⟨.inl hb,h3 b hb⟩⟩
    refine .tup F (fun _=>0) F X (fun _=>0) X [] [] _ _ RepA.znil ?_ (fun x=>by omega) (fun x=>by omega)
    exact .own F F1 F2 X 1 _ _ _ _ (by simpa [vG] using hr) (.nil _ _ hF2 hX) hF
   ·obtain ⟨hce,hG1⟩:=anb l hrow
    have hrl:(l.map eQ).length=l.length:=lO1 _
    have hcsl:cs.length=l.length:=by rw [hce,lO1]
    rw [hrl] at hle ⊢
    have hsz:off+l.length≤C.size:=by omega
    have hbl:b<w.heap.size:=(Array.getElem?_eq_some_iff.1 hb).1
    have hH:Go.Sort.Holds (Value.int .i64) w b off l.toArray:=by
     intro j hj
     have hj':j<l.length:=by simpa using hj
     have e1:=hc j (by omega)
     rw [hce,lS1,lK hj'] at e1
     refine ⟨?_,?_⟩
     ·simp only [World.cell?,hb,lE,e1,lC]
      simp [getElem!_pos,hj']
     ·have:=hfr.1 (off+j) (by omega)
      simp [World.frozen?,hb]
      simpa using this
    refine (Any.slices_Sort_int uU b off cap l w hH hbl (by omega)).mono ?_
    rintro e w' ⟨rfl,n,os,rfl⟩
    have hw:∀ x,x≠b→x<w.heap.size→(Go.Sort.grow (Go.Sort.putRow (Value.int .i64) (Go.Sort.ahead w n) b off (vG l).toArray) os).heap[x]?=w.heap[x]?:=by
     intro x hx hxl
     simp only [Go.Sort.grow,Go.Sort.putRow,Go.Sort.mapBlock,Go.Sort.ahead]
     rw [lK3 (by simpa using hxl),lO3,lI (Ne.symm hx)]
    have hwb:(Go.Sort.grow (Go.Sort.putRow (Value.int .i64) (Go.Sort.ahead w n) b off (vG l).toArray) os).heap[b]?=some (.cells (Go.Sort.putCells (Value.int .i64) off (vG l).toArray C) ty fr):=by
     simp only [Go.Sort.grow,Go.Sort.putRow,Go.Sort.mapBlock,Go.Sort.ahead]
     rw [lK3 (by simpa using hbl),lO3,lF rfl,hb]; rfl
    have hsz2:(Go.Sort.putCells (Value.int .i64) off (vG l).toArray C).size=C.size:=by simp [Go.Sort.putCells]
    have hrow2:Row (Go.Sort.grow (Go.Sort.putRow (Value.int .i64) (Go.Sort.ahead w n) b off (vG l).toArray) os) true F1 [.slice (some ⟨b,off,none⟩) l.length cap] [.sl 1 ((vG l).map eQ)]:=by
     refine Row.of_sl (F1:=fun _=>0) (cs:=(vG l).map (Value.int .i64)) (by rw [lO1,hlen]) hwb (by rw [hsz2]; exact hfr) (by rw [hsz2]; exact hcap) (by rw [lO1,hlen]; exact hle) ?_ ?_ ?_ (anc _) (fun x=>by have:=hG x; have:=hG1 x; omega)
     ·intro e he
      obtain ⟨x,_,rfl⟩:=lF2.1 he
      rfl
     ·simp
     ·intro k hk
      rw [lO1,hlen] at hk
      rw [lS1,lK (by rw [hlen]; exact hk)]
      have hin:off≤off+k∧off+k<off+(vG l).length:=by omega
      simp only [Go.Sort.putCells,Array.getElem?_mapIdx,lX4]
      rw [lF1 (by omega),lC,lF hin,lC]
      simp [Nat.add_sub_cancel_left,getElem!_pos,hlen,hk]
    refine ⟨.tuple #[],F,X,rfl,?_,h1,h2,⟨?_,⟨rfl,rfl⟩⟩,fun x hx h0=>hw x (fun e=>?_) hx,fun x hx=>.inl hx,fun x hx=>⟨.inl hx,?_⟩⟩
    ·refine .tup F (fun _=>0) F X (fun _=>0) X [] [] _ _ RepA.znil ?_ (fun x=>by omega) (fun x=>by omega)
     exact .own F F1 F2 X 1 _ _ _ _ hrow2 (.nil _ _ hF2 hX) hF
    ·simp only [Go.Sort.grow,Go.Sort.putRow,Go.Sort.mapBlock,Go.Sort.ahead,lY3,Array.size_modify]; omega
    ·subst e
     have:=hF x; have:=hG x
     simp at *; omega
    ·have:=h3 x hx
     simp only [Go.Sort.grow,Go.Sort.putRow,Go.Sort.mapBlock,Go.Sort.ahead,lY3,Array.size_modify]; omega
theorem afB (l:List Int) (n:Int) (hl:l.length<2^48):aY Tryz.prog 160 [.ext 1 (l.map eQ),.int .i64 n] (.int .i64 (yX (l.findIdx? fun x=>decide (x=n)))) [.undef,.undef]:=by
 refine U abt [] 435 [] fun w hP hQ=>?_
 unfold sC
 refine N ?_
 refine eU [4,5] ?_
 refine N ?_
 refine aR [4,5] (fun i:Nat=>[(8,.int .i64 i)]) (fun i=>i≤l.length∧∀ k,k<i→(h:k<l.length)→decide (l[k]=n)=false) (fun i=>l.length-i) (0) hP hQ (rfl) (by simp) ?_
 rintro i ⟨hi,hk⟩ w1 hP1 hQ1
 refine N1 ?_
 (first | with_reducible refine cP _ ?_ ?_ | refine cQ _ ?_ ?_) <;> intro h1
 ·simp +decide (maxSteps:=9^9) (disch:=omega) only[↓SB0,SX,seval,hQ,hQ1,bF h1,eQ]
  (first | with_reducible refine cP _ ?_ ?_ | refine cQ _ ?_ ?_) <;> intro h2
  ·refine N1 ?_
   rw [p9 (p:=fun x:Int=>decide (x=n)) hk (by omega) (lG h2.symm)]; rfl
  ·refine N1 ?_
   exact ⟨i+1,rfl,⟨by omega,pH (p:=fun x:Int=>decide (x=n)) hk (by omega) (lB fun e=>h2 e.symm)⟩,by omega⟩
 ·obtain rfl:i=l.length:=by omega
  refine N1 ?_
  rw [qA (p:=fun x:Int=>decide (x=n)) fun k h=>hk k h h]; rfl
theorem y0 (l:List Int) (n:Int) (hl:l.length<2^48):aY Tryz.prog 110 [.ext 1 (l.map eQ),.int .i64 n] (.bool (decide (n ∈ l))) [.undef,.undef]:=by
 have hI:=afB l n hl
 cases e:l.findIdx? (fun x=>decide (x=n)) with
 | none=>
  have hno:n ∉ l:=fun h=>by
   rw [lW2] at e
   have:=e n h
   simp at this
  rw [e] at hI
  refine U n6 [] 19 [] fun w hP hQ=>?_
  unfold i8
  refine N ?_
  refine K (hI) ?_
  rw [lB hno]
 | some k=>
  obtain ⟨hk,h1,_⟩:=lZ1.1 e
  have hyes:n ∈ l:=by
   have:l[k]=n:=by simpa using h1
   rw [← this]; exact lP hk
  rw [e,show yX (some k)=(k:Int) from rfl] at hI
  refine U n6 [] 19 [] fun w hP hQ=>?_
  unfold i8
  refine N ?_
  refine K (hI) ?_
  rw [lG hyes,lG (by omega)]
def sY (out:List Int) (x:Inode):Nat:=if x.ino ∈ out then 0 else x.ents.length
def afC (t:Tab) (out:List Int):Nat:=(t.inodes.map (sY out)).sum
theorem ane (t:Tab) (out:List Int):afC t out≤t.sz:=by
 have h2:=abH (sY out) Inode.sz t.inodes fun x _=>by
  have:sY out x≤x.ents.length:=by unfold sY; split <;> omega
  have h3:x.ents.length≤x.sz:=by simp only [Inode.sz,szM]; omega
  omega
 have h3:t.sz=t.inodes.length+(t.inodes.map Inode.sz).sum:=rfl
 have h4:afC t out=(t.inodes.map (sY out)).sum:=rfl
 omega
theorem alj {t:Tab} {out:List Int} {x:Inode} (hx:x ∈ t.inodes) (hn:x.ino ∉ out):afC t (out++[x.ino])+x.ents.length≤afC t out:=by
 unfold afC
 generalize t.inodes=l at hx
 have mono:∀ y:Inode,sY (out++[x.ino]) y≤sY out y:=by
  intro y
  unfold sY
  by_cases h:y.ino ∈ out
  ·rw [lF h,lF (by simp [h])]; omega
  ·rw [lI h]; split <;> omega
 induction l with
 | nil=>cases hx
 | cons y l ih=>
  simp only [lO,lG2]
  rcases lH.1 hx with rfl | hx
  ·have h1:sY (out++[x.ino]) x=0:=by unfold sY; rw [if_pos (by simp)]
   have h2:sY out x=x.ents.length:=by unfold sY; rw [if_neg hn]
   have h3:=abH (sY (out++[x.ino])) (sY out) l fun y _=>mono y
   omega
  ·have:=ih hx
   have:=mono y
   omega
theorem abJ (l:List Int) (n:Int):l.map eQ++[[TV.int .i64 n]]=(l++[n]).map eQ:=by simp [eQ]
theorem alk (l:List Int) (es:List Ent) (k:Nat) (h:k<es.length):(l++(es.take k).map Ent.ino)++[es[k].ino]=l++(es.take (k+1)).map Ent.ino:=by
 rw [lT h,lM2,lJ2]; rfl
theorem aiG (t:Tab) (h:t.sz<2^40):aY Tryz.prog 49 [t.x] (.own 1 ((fB t).map eQ)) [.undef]:=by
 obtain ⟨hl,hls⟩:=cO h
 refine U aeZ [(111,[.l],[])] 15393162789631 [] fun w hP hQ=>?_
 unfold wW
 refine N ?_
 refine eU [5,6,7,9,41,42,43,5006,5009] ?_
 refine N ?_
 refine aR [5,6,7,9,41,42,43,5006,5009] (fun s:List Int × List Int=>[(3,.own 1 (s.1.map eQ)),(4,.own 1 (s.2.map eQ))]) (fun s=>Que (nbT t) s.1 s.2∧s.2.length+afC t s.1≤1+t.sz) (fun s=>s.2.length+afC t s.1) (([],[1])) hP hQ (rfl) (⟨amT _,by have:=ane t []; simp only [lW,List.length_nil]; omega⟩) ?_
 rintro ⟨out,next⟩ ⟨hq,hb⟩ w1 hP1 hQ1
 refine N1 ?_
 simp only at hq hb
 have hol:=ao8 (nbT t) (p5 t) hq
 cases next with
 | nil=>
  have hs:=ain (nbT t) (p5 t) hq
  refine N1 ?_
  refine K (aqB out (by omega)) ?_
  rw [show vG out=fB t from hs]
 | cons i next=>
  have hnl:(next.length:Nat)<2^41:=by simp only [lW] at hb; omega
  have hI:=qB t i h
  have w0:decide ((0:Int)<((next.length+1:Nat):Int))=true:=lG (by omega)
  have tk:List.take next.length (next.map eQ)=next.map eQ:=by rw [lR1 (by simp)]
  cases e:aD t i with
  | none=>
   rw [afx,e] at hI
   simp +decide (maxSteps:=9^9) (disch:=omega) only[↓SB0,SX,seval,hQ,hQ1,w0,eQ,bC,tk]
   refine K1 (hI) ?_
   exact ⟨(out,next),rfl,⟨agM _ hq (.inl (by rw [nbT,e]; rfl)),by simp only [lW] at *; omega⟩,by simp only [lW]; omega⟩
  | some x=>
   obtain ⟨hxm,hxi⟩:=aO e
   have hel:x.ents.length<2^40:=(cT (hls x hxm)).2.1
   rw [afx,e] at hI
   simp only [lA1,lU2] at hI
   have hC:=y0 out i (by omega)
   by_cases hin:i ∈ out
   ·rw [lG hin] at hC
    simp +decide (maxSteps:=9^9) (disch:=omega) only[↓SB0,SX,seval,hQ,hQ1,w0,eQ,bC,tk]
    refine K1 (hI) ?_
    refine K1 (hC) ?_
    exact ⟨(out,next),rfl,⟨agM _ hq (.inr hin),by simp only [lW] at *; omega⟩,by simp only [lW]; omega⟩
   ·rw [lB hin] at hC
    have hrest:=alj (t:=t) (out:=out) hxm (by rw [hxi]; exact hin)
    rw [hxi] at hrest
    simp +decide (maxSteps:=9^9) (disch:=omega) only[↓SB0,SX,seval,hQ,hQ1,w0,eQ,bC,tk]
    refine K1 (hI) ?_
    refine K1 (hC) ?_
    (first | with_reducible refine cP _ ?_ ?_ | refine cQ _ ?_ ?_) <;> intro hk2
    ·have hq2:=agN (nbT t) hq (l:=x.ents.map Ent.ino) (by rw [nbT,e]; simp [fQ,hk2]) hin
     refine N1 ?_
     rw [abJ]
     refine eU [9,5009] ?_
     refine N1 ?_
     refine aR [9,5009] (fun k:Nat=>[(4,.own 1 ((next++(x.ents.take k).map Ent.ino).map eQ)),(43,.int .i64 k)]) (fun k=>k≤x.ents.length) (fun k=>x.ents.length-k) (0) hP1 hQ1 (by simp only [List.take_zero,lP1,lR2]; rfl) (by simp) ?_
     rintro k hk w2 hP2 hQ2
     refine N2 ?_
     have hlen:(next++(x.ents.take k).map Ent.ino).length<2^42:=by simp only [lU,lO1,lN]; omega
     (first | with_reducible refine cP _ ?_ ?_ | refine cQ _ ?_ ?_) <;> intro g1
     ·have hp:=alk next x.ents k (by omega)
      generalize next++(x.ents.take k).map Ent.ino=nx at *
      have hz:=(bF g1)
      refine Nz2 ?_
      exact ⟨k+1,by simp only [abJ,hp]; rfl,by omega,by omega⟩
     ·obtain rfl:k=x.ents.length:=by omega
      rw [lW1] at *
      refine N2 ?_
      exact ⟨(out++[i],next++x.ents.map Ent.ino),rfl,⟨hq2,by simp only [lW,lU,lO1] at *; omega⟩,by simp only [lW,lU,lO1] at *; omega⟩
    ·have hq2:=agN (nbT t) hq (l:=[]) (by rw [nbT,e]; simp [fQ,hk2]) hin
     rw [lR2] at hq2
     refine N1 ?_
     exact ⟨(out++[i],next),by simp only [abJ],⟨hq2,by simp only [lW] at *; omega⟩,by simp only [lW]; omega⟩
theorem vV {t:Tab} {x:Inode} (hx:x ∈ t.inodes) (h:mV t x=false):aZ t=false:=by
 have:t.inodes.all (mV t)=false:=by
  rw [lL4]
  exact ⟨x,hx,by simp [h]⟩
 simp [aZ,this]
theorem ads {t:Tab} {x:Inode} {e:Ent} (he:e ∈ x.ents) (h:bS t e.ino=none):mV t x=false:=by
 have:aau t x=false:=by
  rw [aau,lL4]
  exact ⟨e,he,by rw [aaG h]; simp⟩
 simp [mV,this]
theorem adt {t:Tab} {x:Inode} (h:∀ k,(hk:k<x.ents.length)→(bS t (x.ents[k]).ino).isSome=true):aau t x=true:=by
 rw [aau,lY]
 intro e he
 obtain ⟨k,hk,rfl⟩:=lV1 he
 obtain ⟨m,hm⟩:=lD1.1 (h k hk)
 rw [sX hm]; rfl
theorem vW {α:Type} {l:List α} {p:α→Prop} {i:Nat} (hk:∀ k,k<i→(h:k<l.length)→p l[k]) (hi:(h:i<l.length)→p l[i]):∀ k,k<i+1→(h:k<l.length)→p l[k]:=by
 intro k hlt hl
 by_cases e:k=i
 ·subst e; exact hi hl
 ·exact hk k (by omega) hl
theorem ag9 {α:Type} {l:List α} {p:α→Bool} (h:∀ k,(hk:k<l.length)→p l[k]=true):l.all p=true:=by
 rw [lY]
 intro x hx
 obtain ⟨k,hk,rfl⟩:=lV1 hx
 exact h k hk
theorem gQ (t:Tab) (h:t.sz<2^40):aY Tryz.prog 46 [t.x] (.bool (aZ t)) [.undef]:=by
 obtain ⟨hl,hls⟩:=cO h
 have hLk:=nV t
 refine U ah3 [] 63 [] fun w hP hQ=>?_
 unfold zR
 refine N ?_
 rcases vE (aat t) with hT | hT
 ·have hz:=hT
  refine Kz (ag2 t h) ?_
  simp [aZ,hT]
 have hz:=hT
 refine Kz (ag2 t h) ?_
 (first | refine aF hP (aaK t h) (.inr rfl) ?_ | refine aC hP (aaK t h) (.inr rfl) ?_)
 refine N ?_
 (first | with_reducible refine cP _ ?_ ?_ | refine cQ _ ?_ ?_) <;> intro hR
 rotate_left
 ·refine N ?_
  have:decide ((fB t).length=t.inodes.length)=false:=lB (by omega)
  simp [aZ,this]
 refine N ?_
 refine eU [2,4,5,5004] ?_
 refine N ?_
 refine aR [2,4,5,5004] (fun i:Nat=>[(3,.int .i64 i)]) (fun i=>i≤t.inodes.length∧∀ k,k<i→(h:k<t.inodes.length)→mV t t.inodes[k]=true) (fun i=>t.inodes.length-i) (0) hP hQ (rfl) (by simp) ?_
 rintro i ⟨hi,hk⟩ w1 hP1 hQ1
 refine N1 ?_
 (first | with_reducible refine cP _ ?_ ?_ | refine cQ _ ?_ ?_) <;> intro h1
 ·have hlt:i<t.inodes.length:=by omega
  have hx:=hls _ (lP hlt)
  have hm:=lP hlt
  have hnx:mV t (t.inodes[i]'hlt)=true→∀ k,k<i+1→(h:k<t.inodes.length)→mV t t.inodes[k]=true:=fun hp=>vW (p:=fun x=>mV t x=true) hk (fun _=>hp)
  have hz:=(bF h1)
  refine Nz1 ?_
  generalize t.inodes[i]'hlt=x at *
  have hel:x.ents.length<2^40:=(cT hx).2.1
  refine K1 (aiD t x.ino h) ?_
  (first | with_reducible refine cP _ ?_ ?_ | refine cQ _ ?_ ?_) <;> intro h2
  rotate_left
  ·refine N1 ?_
   rw [vV hm (by rw [mV,lB (by omega)]; rfl)]
  refine N1 ?_
  refine eU [2] ?_
  refine N1 ?_
  refine aR [2] (fun k:Nat=>[(5,.int .i64 k)]) (fun k=>k≤x.ents.length∧∀ j,j<k→(h:j<x.ents.length)→(bS t (x.ents[j]).ino).isSome=true) (fun k=>x.ents.length-k) (0) hP1 hQ1 (rfl) (by simp) ?_
  rintro k ⟨hk1,hk2⟩ w2 hP2 hQ2
  refine N2 ?_
  (first | with_reducible refine cP _ ?_ ?_ | refine cQ _ ?_ ?_) <;> intro h3
  ·have hkl:k<x.ents.length:=by omega
   have hA:=rC t (x.ents[k]'hkl).ino (by omega)
   cases e:bS t (x.ents[k]'hkl).ino with
   | none=>
    rw [e] at hA
    have hz:=(bF h3)
    refine Nz2 ?_
    refine K2 (hA) ?_
    rw [vV hm (ads (lP hkl) e)]
   | some m=>
    rw [e,show yX (some m)=(m:Int) from rfl] at hA
    have hz:=(bF h3)
    refine Nz2 ?_
    refine K2 (hA) ?_
    (first | with_reducible refine cP _ ?_ ?_ | refine cQ _ ?_ ?_) <;> intro h4
    ·exfalso; omega
    ·refine N2 ?_
     exact ⟨k+1,rfl,⟨by omega,vW (p:=fun y:Ent=>(bS t y.ino).isSome=true) hk2 (fun _=>by rw [e]; rfl)⟩,by omega⟩
  ·obtain rfl:k=x.ents.length:=by omega
   have hp:mV t x=true:=by
    rw [mV,adt fun k hk=>hk2 k hk hk,lG (by omega)]; rfl
   refine N2 ?_
   exact ⟨i+1,rfl,⟨by omega,hnx hp⟩,by omega⟩
 ·obtain rfl:i=t.inodes.length:=by omega
  have:decide ((fB t).length=t.inodes.length)=true:=lG (by omega)
  refine N1 ?_
  rw [aZ,hT,this,ag9 fun k hk'=>hk k hk' hk']; rfl
theorem adu (t:Tab) (h:t.sz<2^40):aY Tryz.prog 28 [t.x] (.bool (aZ t)) [.undef]:=by
 obtain ⟨hl,hls⟩:=cO h
 have hLk:=nV t
 refine U ah2 [] 120266424407 [] fun w hP hQ=>?_
 unfold zQ
 refine N ?_
 rcases vE (aat t) with hT | hT
 ·have hz:=hT
  refine Kz (ag3 t h) ?_
  simp [aZ,hT]
 have hz:=hT
 refine Kz (ag3 t h) ?_
 refine K (aiG t h) ?_
 (first | with_reducible refine cP _ ?_ ?_ | refine cQ _ ?_ ?_) <;> intro hR
 rotate_left
 ·refine N ?_
  have:decide ((fB t).length=t.inodes.length)=false:=lB (by omega)
  simp [aZ,this]
 refine N ?_
 refine eU [2,4,6,34,35,36,5004,5006] ?_
 refine N ?_
 refine aR [2,4,6,34,35,36,5004,5006] (fun i:Nat=>[(22,.int .i64 i)]) (fun i=>i≤t.inodes.length∧∀ k,k<i→(h:k<t.inodes.length)→mV t t.inodes[k]=true) (fun i=>t.inodes.length-i) (0) hP hQ (rfl) (by simp) ?_
 rintro i ⟨hi,hk⟩ w1 hP1 hQ1
 refine N1 ?_
 (first | with_reducible refine cP _ ?_ ?_ | refine cQ _ ?_ ?_) <;> intro h1
 ·have hlt:i<t.inodes.length:=by omega
  have hx:=hls _ (lP hlt)
  have hm:=lP hlt
  have hnx:mV t (t.inodes[i]'hlt)=true→∀ k,k<i+1→(h:k<t.inodes.length)→mV t t.inodes[k]=true:=fun hp=>vW (p:=fun x=>mV t x=true) hk (fun _=>hp)
  have hz:=(bF h1)
  refine Nz1 ?_
  generalize t.inodes[i]'hlt=x at *
  have hel:x.ents.length<2^40:=(cT hx).2.1
  refine K1 (aiE t x.ino h) ?_
  (first | with_reducible refine cP _ ?_ ?_ | refine cQ _ ?_ ?_) <;> intro h2
  rotate_left
  ·refine N1 ?_
   rw [vV hm (by rw [mV,lB (by omega)]; rfl)]
  refine N1 ?_
  refine eU [2,6,5006] ?_
  refine N1 ?_
  refine aR [2,6,5006] (fun k:Nat=>[(36,.int .i64 k)]) (fun k=>k≤x.ents.length∧∀ j,j<k→(h:j<x.ents.length)→(bS t (x.ents[j]).ino).isSome=true) (fun k=>x.ents.length-k) (0) hP1 hQ1 (rfl) (by simp) ?_
  rintro k ⟨hk1,hk2⟩ w2 hP2 hQ2
  refine N2 ?_
  (first | with_reducible refine cP _ ?_ ?_ | refine cQ _ ?_ ?_) <;> intro h3
  ·have hkl:k<x.ents.length:=by omega
   have hA:=uE t (x.ents[k]'hkl).ino (by omega)
   cases e:bS t (x.ents[k]'hkl).ino with
   | none=>
    rw [e] at hA
    have hz:=(bF h3)
    refine Nz2 ?_
    refine K2 (hA) ?_
    rw [vV hm (ads (lP hkl) e)]
   | some m=>
    rw [e,show yX (some m)=(m:Int) from rfl] at hA
    have hz:=(bF h3)
    refine Nz2 ?_
    refine K2 (hA) ?_
    (first | with_reducible refine cP _ ?_ ?_ | refine cQ _ ?_ ?_) <;> intro h4
    ·exfalso; omega
    ·refine N2 ?_
     exact ⟨k+1,rfl,⟨by omega,vW (p:=fun y:Ent=>(bS t y.ino).isSome=true) hk2 (fun _=>by rw [e]; rfl)⟩,by omega⟩
  ·obtain rfl:k=x.ents.length:=by omega
   have hp:mV t x=true:=by
    rw [mV,adt fun k hk=>hk2 k hk hk,lG (by omega)]; rfl
   refine N2 ?_
   exact ⟨i+1,rfl,⟨by omega,hnx hp⟩,by omega⟩
 ·obtain rfl:i=t.inodes.length:=by omega
  have:decide ((fB t).length=t.inodes.length)=true:=lG (by omega)
  refine N1 ?_
  rw [aZ,hT,this,ag9 fun k hk'=>hk k hk' hk']; rfl


theorem adv {l:List Inode} {n:Nat} (h:szM Inode.sz l<n):l.length<n∧∀ x ∈ l,x.sz<n:=by
 refine ⟨by simp only [szM] at h; omega,fun x hx=>?_⟩
 have:=abv (f:=Inode.sz) hx
 simp only [szM] at h; omega
theorem uG {g:Nat} (l m:List Inode) (hl:szM Inode.sz l<2^40) (hm:szM Inode.sz m<2^40)
  (hc:∀ a b:Inode,a.sz<2^40→b.sz<2^40→aY Tryz.prog g [a.x,b.x] (.bool (decide (a=b))) [.undef,.undef]) :
  aY Tryz.prog 72 [.ext 6 (l.map Inode.row),.ext 6 (m.map Inode.row),.fn g []] (.bool (decide (l=m))) [.undef,.undef,.undef]:=by
 obtain ⟨l1,l2⟩:=adv hl
 obtain ⟨m1,m2⟩:=adv hm
 refine U q7 [] 230343 [] fun w hP hQ=>?_
 unfold jX
 refine N ?_
 (first | with_reducible refine cP _ ?_ ?_ | refine cQ _ ?_ ?_) <;> intro h
 ·refine N ?_
  refine eU [6,7,8,9,5008,5009] ?_
  refine N ?_
  refine aR [6,7,8,9,5008,5009] (fun i:Nat=>[(17,.int .i64 i)]) (fun i=>i≤l.length∧l.take i=m.take i) (fun i=>l.length-i) (0) hP hQ (rfl) (by simp) ?_
  rintro i ⟨hi,hab⟩ w1 hP1 hQ1
  refine N1 ?_
  (first | with_reducible refine cP _ ?_ ?_ | refine cQ _ ?_ ?_) <;> intro h1
  ·have hz:=And.intro (bF h1) (bF (h ▸ h1))
   refine Nz1 ?_
   refine K1 (hc (l[i]'(by omega)) (m[i]'(by omega)) (l2 _ (lP _)) (m2 _ (lP _))) ?_
   (first | with_reducible refine cP _ ?_ ?_ | refine cQ _ ?_ ?_) <;> intro h2
   ·refine N1 ?_
    exact ⟨i+1,rfl,⟨by omega,iT hab _ _ h2⟩,by omega⟩
   ·refine N1 ?_
    rw [lB (show ¬ l=m from fun e=>by subst e; exact h2 rfl)]
  ·refine N1 ?_
   rw [lG (vS hab (by omega) (by omega))]
 ·refine N ?_
  rw [lB (show ¬ l=m from fun e=>h (by rw [e]))]
theorem aiH (a b:Tab) (ha:a.sz<2^40) (hb:b.sz<2^40):aY Tryz.prog 20 [a.x,b.x] (.bool (decide (a=b))) [.undef,.undef]:=by
 refine U aeW [] 31 [] fun w hP hQ=>?_
 unfold wT
 refine N ?_
 (first | with_reducible refine tO _ ?_ ?_ | refine tP _ ?_ ?_) <;> intro h0
 rotate_left
 ·have hz:=h0
  refine Nz ?_
  rw [lB (show ¬ a=b from fun h=>h0 (by rw [h]))]
 have hz:=h0
 refine Nz ?_
 refine K (uG a.inodes b.inodes ha hb fun x y hx hy=>adm x y hx hy) ?_
 rw [agZ (p:=a=b) ⟨fun h=>by rw [h],fun h=>Tab.eq' h h0⟩]

theorem adw (x:Inode) (n:aA):bD x n=match x.ents.findIdx? (fun e=>decide (e.name=n)) with
  | none=>0
  | some k=>((x.ents[k]?).map Ent.ino).getD 0:=by
 rw [bD,ag0]
 cases x.ents.findIdx? (fun e=>decide (e.name=n)) <;> rfl
theorem aha {x:Inode} {n:aA} {i:Nat} (hk:∀ k,k<i→(h:k<x.ents.length)→decide (x.ents[k].name=n)=false) (h:i<x.ents.length) (hi:x.ents[i].name=n):bD x n=x.ents[i].ino:=by
 rw [adw,p9 (p:=fun e:Ent=>decide (e.name=n)) hk h (lG hi)]
 simp only [lK h]; rfl
theorem ahb {x:Inode} {n:aA} (hk:∀ k,(h:k<x.ents.length)→decide (x.ents[k].name=n)=false):bD x n=0:=by
 rw [adw,qA (p:=fun e:Ent=>decide (e.name=n)) hk]
theorem ahc (x:Inode) (n:aA) (h:x.sz<2^40):aY Tryz.prog 69 [x.x,.str n] (.int .i64 (bD x n)) [.undef,.undef]:=by
 obtain ⟨h1,h2,h3⟩:=cT h
 refine U aks [] 1879 [] fun w hP hQ=>?_
 unfold acB
 refine N ?_
 refine eU [4,6,5006] ?_
 refine N ?_
 refine aR [4,6,5006] (fun i:Nat=>[(10,.int .i64 i)]) (fun i=>i≤x.ents.length∧∀ k,k<i→(h:k<x.ents.length)→decide (x.ents[k].name=n)=false) (fun i=>x.ents.length-i) (0) hP hQ (rfl) (by simp) ?_
 rintro i ⟨hi,hk⟩ w1 hP1 hQ1
 refine N1 ?_
 (first | with_reducible refine cP _ ?_ ?_ | refine cQ _ ?_ ?_) <;> intro g
 ·have hz:=(bF g)
  refine Nz1 ?_
  (first | with_reducible refine cP _ ?_ ?_ | refine cQ _ ?_ ?_) <;> intro e
  ·refine N1 ?_
   rw [aha hk (by omega) e]
  ·refine N1 ?_
   exact ⟨i+1,rfl,⟨by omega,pH (p:=fun e:Ent=>decide (e.name=n)) hk (by omega) (lB e)⟩,by omega⟩
 ·obtain rfl:i=x.ents.length:=by omega
  refine N1 ?_
  rw [ahb fun k h=>hk k h h]
theorem ahd (x:Inode) (n:aA) (h:x.sz<2^40):aY Tryz.prog 151 [x.x,.str n] (.int .i64 (bD x n)) [.undef,.undef]:=by
 obtain ⟨h1,h2,h3⟩:=cT h
 refine U akA [] 55 [] fun w hP hQ=>?_
 unfold acJ
 refine N ?_
 refine eU [4] ?_
 refine N ?_
 refine aR [4] (fun i:Nat=>[(5,.int .i64 i)]) (fun i=>i≤x.ents.length∧∀ k,k<i→(h:k<x.ents.length)→decide (x.ents[k].name=n)=false) (fun i=>x.ents.length-i) (0) hP hQ (rfl) (by simp) ?_
 rintro i ⟨hi,hk⟩ w1 hP1 hQ1
 refine N1 ?_
 (first | with_reducible refine cP _ ?_ ?_ | refine cQ _ ?_ ?_) <;> intro g
 ·have hz:=(bF g)
  refine Nz1 ?_
  (first | with_reducible refine cP _ ?_ ?_ | refine cQ _ ?_ ?_) <;> intro e
  ·have hz:=(bF g)
   refine Nz1 ?_
   rw [aha hk (by omega) e]
  ·refine N1 ?_
   exact ⟨i+1,rfl,⟨by omega,pH (p:=fun e:Ent=>decide (e.name=n)) hk (by omega) (lB e)⟩,by omega⟩
 ·obtain rfl:i=x.ents.length:=by omega
  refine N1 ?_
  rw [ahb fun k h=>hk k h h]
theorem aaL {t:Tab} {l:List aA} {i:Nat} (h:i<l.length) {a:Int} {x:Inode} (hx:aD t a=some x) (hk:x.kind=2) (he:bD x l[i]≠0):kG t (l.drop i) a=kG t (l.drop (i+1)) (bD x l[i]):=by
 rw [lQ2 h,kG,hx]
 simp only [lF hk,lI he]
theorem ahe {t:Tab} {l:List aA} {i:Nat} (h:i<l.length) {a:Int} (hx:aD t a=none):kG t (l.drop i) a=(0,2):=by
 rw [lQ2 h,kG,hx]
theorem aaM {t:Tab} {l:List aA} {i:Nat} (h:i<l.length) {a:Int} {x:Inode} (hx:aD t a=some x) (hk:¬ x.kind=2):kG t (l.drop i) a=(0,3):=by
 rw [lQ2 h,kG,hx]
 simp only [lI hk]
theorem aaN {t:Tab} {l:List aA} {i:Nat} (h:i<l.length) {a:Int} {x:Inode} (hx:aD t a=some x) (hk:x.kind=2) (he:bD x l[i]=0):kG t (l.drop i) a=(0,2):=by
 rw [lQ2 h,kG,hx]
 simp only [lF hk,lF he]
theorem sZ {t:Tab} (h:t.sz<2^40) {a:Int} {x:Inode} (hx:aD t a=some x):x.sz<2^40:=(cO h).2 x (aO hx).1
theorem apl (t:Tab) (s:aA) (h:t.sz<2^40) (hs:s.length<2^40):aY Tryz.prog 23 [t.x,.str s] (.tup [.int .i64 (p4 t s).1,.int .i64 (p4 t s).2]) [.undef,.undef]:=by
 have hS:=pJ s hs
 have hf:=mX s
 unfold p4
 generalize aB s=y at *
 obtain ⟨l,b⟩:=y
 simp only at *
 cases b with
 | false=>
  rw [lI (by simp)]
  refine U agE [] 7347703 [] fun w hP hQ=>?_
  unfold abi
  refine N ?_
  exact K (hS) trivial
 | true=>
  rw [lF rfl]
  refine U agE [] 7347703 [] fun w hP hQ=>?_
  unfold abi
  refine N ?_
  refine K (hS) ?_
  refine eU [4,5,10,11,12,5011] ?_
  refine N ?_
  refine aR [4,5,10,11,12,5011] (fun x:Nat × Int=>[(8,.int .i64 x.2),(22,.int .i64 (x.1:Nat))]) (fun x=>x.1≤l.length∧kG t (l.drop x.1) x.2=kG t l 1) (fun x=>l.length-x.1) ((0,1)) hP hQ (rfl) (⟨lD3 _,rfl⟩) ?_
  rintro ⟨i,a⟩ ⟨hi,hw⟩ w1 hP1 hQ1
  refine N1 ?_
  simp only at hi hw
  (first | with_reducible refine cP _ ?_ ?_ | refine cQ _ ?_ ?_) <;> intro g
  ·have hlt:i<l.length:=by omega
   have hA:=qB t a h
   cases hx:aD t a with
   | none=>
    rw [hx] at hA
    rw [ahe hlt hx] at hw
    simp +decide (maxSteps:=9^9) (disch:=omega) only[↓SB0,SX,seval,hQ,hQ1,bF g,dF]
    have hz:=hw.symm
    exact Kz1 (hA) trivial
   | some x=>
    rw [afx,hx] at hA
    have hE:=ahc x l[i] (sZ h hx)
    by_cases hk:x.kind=2
    ·have hk':decide (x.kind=2)=true:=lG hk
     by_cases he:bD x l[i]=0
     ·rw [aaN hlt hx hk he] at hw
      rw [he] at hE
      simp +decide (maxSteps:=9^9) (disch:=omega) only[↓SB0,SX,seval,hQ,hQ1,bF g,dF]
      (first|refine cI hP1 (hA) rfl rfl ?_|refine cH hP1 (hA) rfl rfl ?_)
      simp +decide (maxSteps:=9^9) (disch:=omega) only[↓SB0,SX,seval,hQ,hQ1,hk',lA1]
      have hz:=hw.symm
      exact Kz1 (hE) trivial
     ·rw [aaL hlt hx hk he] at hw
      have he':decide (bD x l[i]=0)=false:=lB he
      simp +decide (maxSteps:=9^9) (disch:=omega) only[↓SB0,SX,seval,hQ,hQ1,bF g,dF]
      (first|refine cI hP1 (hA) rfl rfl ?_|refine cH hP1 (hA) rfl rfl ?_)
      simp +decide (maxSteps:=9^9) (disch:=omega) only[↓SB0,SX,seval,hQ,hQ1,hk',lA1]
      have hz:=he'
      refine Kz1 (hE) ?_
      exact ⟨(i+1,bD x l[i]),rfl,⟨by simp only; omega,hw⟩,by simp only; omega⟩
    ·have hk':decide (x.kind=2)=false:=lB hk
     rw [aaM hlt hx hk] at hw
     simp +decide (maxSteps:=9^9) (disch:=omega) only[↓SB0,SX,seval,hQ,hQ1,bF g,dF]
     (first|refine cI hP1 (hA) rfl rfl ?_|refine cH hP1 (hA) rfl rfl ?_)
     simp +decide (maxSteps:=9^9) (disch:=omega) only[↓SB0,SX,seval,hQ,hQ1,hk',lA1,← hw]
  ·obtain rfl:i=l.length:=by omega
   rw [List.drop_length,kG] at hw
   have hz:=hw.symm
   exact Nz1 trivial
theorem alm (t:Tab) (l:List aA) (h:t.sz<2^40) (hl:l.length<2^40):aY Tryz.prog 152 [t.x,.ext 1 (l.map dF)] (.tup [.int .i64 (kG t l 1).1,.int .i64 (kG t l 1).2]) [.undef,.undef]:=by
 obtain ⟨t1,t2⟩:=cO h
 refine U aig [] 503 [] fun w hP hQ=>?_
 unfold aaf
 refine N ?_
 refine eU [4,5,8] ?_
 refine N ?_
 refine aR [4,5,8] (fun x:Nat × Int=>[(6,.int .i64 x.2),(7,.int .i64 (x.1:Nat))]) (fun x=>x.1≤l.length∧kG t (l.drop x.1) x.2=kG t l 1) (fun x=>l.length-x.1) ((0,1)) hP hQ (rfl) (⟨lD3 _,rfl⟩) ?_
 rintro ⟨i,a⟩ ⟨hi,hw⟩ w1 hP1 hQ1
 refine N1 ?_
 simp only at hi hw
 (first | with_reducible refine cP _ ?_ ?_ | refine cQ _ ?_ ?_) <;> intro g
 ·have hlt:i<l.length:=by omega
  have hA:=rC t a (by omega)
  cases hx:bS t a with
  | none=>
   rw [hx] at hA
   rw [ahe hlt (aaG hx)] at hw
   refine N1 ?_
   have hz:=hw.symm
   exact Kz1 (hA) trivial
  | some k=>
   have hk1:=uT hx
   have hx':=sX hx
   rw [hx,show yX (some k)=(k:Int) from rfl] at hA
   have hE:=ahd (t.inodes[k]) l[i] (t2 _ (lP hk1))
   have hz:decide (((k:Nat):Int)<0)=false:=lB (by omega)
   have hg:((k:Nat):Int)<(t.inodes.length:Nat):=by omega
   by_cases hk:(t.inodes[k]).kind=2
   ·have hk':decide ((t.inodes[k]).kind=2)=true:=lG hk
    by_cases he:bD (t.inodes[k]) l[i]=0
    ·rw [aaN hlt hx' hk he] at hw
     rw [he] at hE
     refine N1 ?_
     (first|refine cI hP1 (hA) rfl rfl ?_|refine cH hP1 (hA) rfl rfl ?_)
     simp +decide (maxSteps:=9^9) (disch:=omega) only[↓SB0,SX,seval,hQ,hQ1,hz,bF hg,hk',bF g,dF]
     have hz:=hw.symm
     exact Kz1 (hE) trivial
    ·rw [aaL hlt hx' hk he] at hw
     have he':decide (bD (t.inodes[k]) l[i]=0)=false:=lB he
     refine N1 ?_
     (first|refine cI hP1 (hA) rfl rfl ?_|refine cH hP1 (hA) rfl rfl ?_)
     simp +decide (maxSteps:=9^9) (disch:=omega) only[↓SB0,SX,seval,hQ,hQ1,hz,bF hg,hk',bF g,dF]
     have hz:=he'
     refine Kz1 (hE) ?_
     exact ⟨(i+1,_),rfl,⟨by simp only; omega,hw⟩,by simp only; omega⟩
   ·have hk':decide ((t.inodes[k]).kind=2)=false:=lB hk
    rw [aaM hlt hx' hk] at hw
    refine N1 ?_
    have hz:=And.intro hz (And.intro (bF hg) (And.intro hk' hw.symm))
    exact Kz1 (hA) trivial
 ·obtain rfl:i=l.length:=by omega
  rw [List.drop_length,kG] at hw
  have hz:=hw.symm
  exact Nz1 trivial
theorem afD (t:Tab) (s:aA) (h:t.sz<2^40) (hs:s.length<2^40):aY Tryz.prog 97 [t.x,.str s] (.tup [.int .i64 (p4 t s).1,.int .i64 (p4 t s).2]) [.undef,.undef]:=by
 have hS:=dU s hs
 have hf:=mX s
 unfold p4
 generalize aB s=y at *
 obtain ⟨l,b⟩:=y
 simp only at *
 cases b with
 | false=>
  rw [lI (by simp)]
  refine U agF [] 247 [] fun w hP hQ=>?_
  unfold abj
  refine N ?_
  exact K (hS) trivial
 | true=>
  rw [lF rfl]
  refine U agF [] 247 [] fun w hP hQ=>?_
  unfold abj
  refine N ?_
  refine K (hS) ?_
  exact K (alm t l h (by omega)) trivial
theorem adx {t:Tab} {s:aA} (hc:(p4 t s).2≠0):cG t s=.error (p4 t s).2:=by rw [cG,lI hc]
theorem ady {t:Tab} {s:aA} (hc:(p4 t s).2=0) (hx:aD t (p4 t s).1=none):cG t s=.error 2:=by rw [cG,lF hc,hx]
theorem adz {t:Tab} {s:aA} {x:Inode} (hc:(p4 t s).2=0) (hx:aD t (p4 t s).1=some x):cG t s=.ok x:=by rw [cG,lF hc,hx]
theorem afE (t:Tab) (s:aA) (h:t.sz<2^40) (hs:s.length<2^40):aY Tryz.prog 68 [t.x,.str s] (.tup [(exI (cG t s)).o,.int .i64 (exC (cG t s))]) [.undef,.undef]:=by
 have hW:=apl t s h hs
 have hA:=qB t (p4 t s).1 h
 by_cases hc:(p4 t s).2=0
 ·have hc':decide ((p4 t s).2=0)=true:=lG hc
  cases hx:aD t (p4 t s).1 with
  | none=>
   rw [hx] at hA
   rw [ady hc hx]
   refine U abm [] 1015 [] fun w hP hQ=>?_
   unfold vP
   refine N ?_
   have hz:=hc'
   refine Kz (hW) ?_
   refine K (hA) ?_
   rfl
  | some x=>
   rw [afx,hx] at hA
   rw [adz hc hx]
   refine U abm [] 1015 [] fun w hP hQ=>?_
   unfold vP
   refine N ?_
   have hz:=hc'
   refine Kz (hW) ?_
   (first|refine cI hP (hA) rfl rfl ?_|refine cH hP (hA) rfl rfl ?_)
   simp +decide (maxSteps:=9^9) (disch:=omega) only[↓SB0,SX,seval,hQ,lA1]
   rfl
 ·have hc':decide ((p4 t s).2=0)=false:=lB hc
  rw [adx hc]
  refine U abm [] 1015 [] fun w hP hQ=>?_
  unfold vP
  refine N ?_
  have hz:=hc'
  refine Kz (hW) ?_
  rfl
theorem uH (t:Tab) (s:aA) (h:t.sz<2^40) (hs:s.length<2^40):aY Tryz.prog 88 [t.x,.str s] (.tup [(exI (cG t s)).o,.int .i64 (exC (cG t s))]) [.undef,.undef]:=by
 have hW:=afD t s h hs
 have hA:=uF t (p4 t s).1 h
 by_cases hc:(p4 t s).2=0
 ·have hc':decide ((p4 t s).2=0)=true:=lG hc
  cases hx:aD t (p4 t s).1 with
  | none=>
   rw [hx] at hA
   rw [ady hc hx]
   refine U abp [] 1015 [] fun w hP hQ=>?_
   unfold vQ
   refine N ?_
   have hz:=hc'
   refine Kz (hW) ?_
   refine K (hA) ?_
   rfl
  | some x=>
   rw [afx,hx] at hA
   rw [adz hc hx]
   refine U abp [] 1015 [] fun w hP hQ=>?_
   unfold vQ
   refine N ?_
   have hz:=hc'
   refine Kz (hW) ?_
   (first|refine cI hP (hA) rfl rfl ?_|refine cH hP (hA) rfl rfl ?_)
   simp +decide (maxSteps:=9^9) (disch:=omega) only[↓SB0,SX,seval,hQ,lA1]
   rfl
 ·have hc':decide ((p4 t s).2=0)=false:=lB hc
  rw [adx hc]
  refine U abp [] 1015 [] fun w hP hQ=>?_
  unfold vQ
  refine N ?_
  have hz:=hc'
  refine Kz (hW) ?_
  rfl
theorem yD (t:Tab) (s:aA) (h:t.sz<2^40) (hs:s.length<2^40):aY Tryz.prog 63 [t.x,.str s] (.tup [(exI (cG t s)).o,.int .i64 (exC (gD t s))]) [.undef,.undef]:=by
 have hS:=afE t s h hs
 unfold gD
 cases e:cG t s with
 | error c=>
  have hc:decide (c=0)=false:=lB (iJ e)
  rw [e] at hS
  simp only [exI,exC] at hS ⊢
  refine U tU [] 247 [] fun w hP hQ=>?_
  unfold pT
  refine N ?_
  have hz:=hc
  exact Kz (hS) trivial
 | ok x=>
  rw [e] at hS
  simp only [exI,exC] at hS ⊢
  by_cases hk:x.kind=1
  ·have hk':decide (x.kind=1)=true:=lG hk
   simp only [lF hk]
   refine U tU [] 247 [] fun w hP hQ=>?_
   unfold pT
   refine N ?_
   have hz:=hk'
   exact Kz (hS) trivial
  ·have hk':decide (x.kind=1)=false:=lB hk
   simp only [lI hk]
   refine U tU [] 247 [] fun w hP hQ=>?_
   unfold pT
   refine N ?_
   have hz:=hk'
   exact Kz (hS) trivial
theorem s5 (t:Tab) (s:aA) (h:t.sz<2^40) (hs:s.length<2^40):aY Tryz.prog 77 [t.x,.str s] (.tup [(exI (gD t s)).o,.int .i64 (exC (gD t s))]) [.undef,.undef]:=by
 have hS:=uH t s h hs
 unfold gD
 cases e:cG t s with
 | error c=>
  have hc:decide (c=0)=false:=lB (iJ e)
  rw [e] at hS
  simp only [exI,exC] at hS ⊢
  refine U tW [] 247 [] fun w hP hQ=>?_
  unfold pV
  refine N ?_
  have hz:=hc
  exact Kz (hS) trivial
 | ok x=>
  rw [e] at hS
  simp only [exI,exC] at hS ⊢
  by_cases hk:x.kind=1
  ·have hk':decide (x.kind=1)=true:=lG hk
   simp only [lF hk]
   refine U tW [] 247 [] fun w hP hQ=>?_
   unfold pV
   refine N ?_
   have hz:=hk'
   exact Kz (hS) trivial
  ·have hk':decide (x.kind=1)=false:=lB hk
   simp only [lI hk]
   refine U tW [] 247 [] fun w hP hQ=>?_
   unfold pV
   refine N ?_
   have hz:=hk'
   refine Kz (hS) ?_
   rfl
def anf (D:Inode) (n:aA):AV:=.agg [.int .i64 D.ino,.int .i64 D.kind,.int .i64 D.links,.own 1 (aI D.data),.own 2 (D.ents.map Ent.row),.own 2 (D.attrs.map Attr.row),.str n]
def aiI (D:Inode) (n:aA):AV:=.agg [.int .i64 D.ino,.int .i64 D.kind,.int .i64 D.links,.ext 1 (aI D.data),.ext 2 (D.ents.map Ent.row),.ext 2 (D.attrs.map Attr.row),.str n]
def exN (e:Rs Inode) (n:aA):aA:=match e with
 | .ok _=>n
 | .error _=>[]
theorem fK (s:aA):(aK s).1.length≤450∧(aM s).length≤14:=by
 unfold aM aK
 split
 ·rename_i h
  refine ⟨?_,uC (s:=s) _ ?_⟩
  ·show (cF (aB s).1.dropLast).length≤450
   have:=n8 (pZ h.1).1
   rw [cF,lF this]
   split
   ·simp
   ·exact x8 this
  ·show (aB s).1.getLastD [] ∈ _
   rw [List.getLastD_eq_getLast?,List.getLast?_eq_some_getLast h.2]
   exact List.getLast_mem h.2
 ·simp
theorem adA (t:Tab) (s:aA) (h:t.sz<2^40) (hs:s.length<2^40):aY Tryz.prog 64 [t.x,.str s] (.tup [anf (exI (dH t s)) (exN (dH t s) (aM s)),.int .i64 (exC (dH t s))]) [.undef,.undef]:=by
 have hPa:=aft s hs
 have hS:=afE t (aK s).1 h (by have:=(fK s).1; omega)
 unfold dH
 cases e:cG t (aK s).1 with
 | error c=>
  have hc:decide (c=0)=false:=lB (iJ e)
  rw [e] at hS
  simp only [exI,exC,exN] at hS ⊢
  refine U tV [] 1783 [] fun w hP hQ=>?_
  unfold pU
  refine N ?_
  refine K (hPa) ?_
  have hz:=hc
  refine Kz (hS) ?_
  first | rfl | exact ⟨rfl,rfl⟩
 | ok x=>
  rw [e] at hS
  simp only [exI,exC] at hS ⊢
  by_cases hk:x.kind=2
  ·have hk':decide (x.kind=2)=true:=lG hk
   simp only [lF hk]
   refine U tV [] 1783 [] fun w hP hQ=>?_
   unfold pU
   refine N ?_
   refine K (hPa) ?_
   have hz:=hk'
   refine Kz (hS) ?_
   exact ⟨rfl,rfl⟩
  ·have hk':decide (x.kind=2)=false:=lB hk
   simp only [lI hk]
   refine U tV [] 1783 [] fun w hP hQ=>?_
   unfold pU
   refine N ?_
   refine K (hPa) ?_
   have hz:=hk'
   refine Kz (hS) ?_
   exact ⟨rfl,rfl⟩
theorem abK (t:Tab) (l:List aA) (h:t.sz<2^40) (hl:l.length<2^40) (hs:∀ s ∈ l,s.length<2^40):aY Tryz.prog 62 [t.x,.ext 1 (l.map dF)] (.bool (l.all dI && aZ t)) [.undef,.undef]:=by
 refine U akr [] 3927 [] fun w hP hQ=>?_
 unfold acA
 refine N ?_
 refine eU [4,6,8] ?_
 refine N ?_
 refine aR [4,6,8] (fun i:Nat=>[(11,.int .i64 i)]) (fun i=>i≤l.length∧∀ k,k<i→(h:k<l.length)→dI l[k]=true) (fun i=>l.length-i) (0) hP hQ (rfl) (by simp) ?_
 rintro i ⟨hi,hk⟩ w1 hP1 hQ1
 refine N1 ?_
 (first | with_reducible refine cP _ ?_ ?_ | refine cQ _ ?_ ?_) <;> intro g
 ·have hlt:i<l.length:=by omega
  have hS:=pJ l[i] (hs _ (lP hlt))
  cases hp:(aB l[i]).2 with
  | false=>
   have e:l.all dI=false:=by rw [lL4]; exact ⟨_,lP hlt,by simp [dI,hp]⟩
   simp +decide (maxSteps:=9^9) (disch:=omega) only[↓SB0,SX,seval,hQ,hQ1,bF g,dF]
   have hz:=And.intro hp (And.intro e Bool.false_and)
   exact Kz1 (hS) trivial
  | true=>
   simp +decide (maxSteps:=9^9) (disch:=omega) only[↓SB0,SX,seval,hQ,hQ1,bF g,dF]
   have hz:=hp
   refine Kz1 (hS) ?_
   exact ⟨i+1,rfl,⟨by omega,fun k h1 h2=>by
    by_cases e:k=i
    ·subst e; exact hp
    ·exact hk k (by omega) h2⟩,by omega⟩
 ·obtain rfl:i=l.length:=by omega
  have e:l.all dI=true:=by
   rw [lY]
   intro x hx
   obtain ⟨k,hk1,rfl⟩:=lV1 hx
   exact hk k hk1 hk1
  refine N1 ?_
  have hz:=And.intro e lE4
  exact Kz (adu t h) trivial
theorem ang {l:List Ent} {i:Nat} (h:i<l.length) (n:aA):cV (l.take (i+1)) n=cV (l.take i) n++(if l[i].name=n then [] else [l[i]]):=by
 unfold cV abT
 rw [lT h,lQ3]
 congr 1
 by_cases e:l[i].name=n <;> simp [e]
theorem anh (l:List Ent) (n:aA) (hl:l.length<2^40):aY Tryz.prog 141 [.ext 2 (l.map Ent.row),.str n] (.own 2 ((cV l n).map Ent.row)) [.undef,.undef]:=by
 refine U akx [] 115 [] fun w hP hQ=>?_
 unfold acG
 refine N ?_
 refine eU [] ?_
 refine N ?_
 refine aR [] (fun i:Nat=>[(5,.own 2 ((cV (l.take i) n).map Ent.row)),(6,.int .i64 i)]) (fun i=>i≤l.length) (fun i=>l.length-i) (0) hP hQ (rfl) (by simp) ?_
 rintro i hi w1 hP1 hQ1
 refine N1 ?_
 have hc:(cV (l.take i) n).length≤l.length:=lB4 (lS2 _ _) (by simp; omega)
 (first | with_reducible refine cP _ ?_ ?_ | refine cQ _ ?_ ?_) <;> intro g
 ·have ht:=ang (l:=l) (i:=i) (by omega) n
  have hz:=(bF g)
  refine Nz1 ?_
  (first | with_reducible refine cP _ ?_ ?_ | refine cQ _ ?_ ?_) <;> intro e
  ·rw [lF e,lR2] at ht
   refine N1 ?_
   exact ⟨i+1,by rw [ht]; rfl,by omega,by omega⟩
  ·rw [lI e] at ht
   have hb:((cV (l.take i) n).length+1)*24≤140737488355328:=by omega
   have hz:=And.intro (bF g) hb
   refine Nz1 ?_
   exact ⟨i+1,by rw [ht,lM2]; rfl,by omega,by omega⟩
 ·obtain rfl:i=l.length:=by omega
  simp +decide (maxSteps:=9^9) (disch:=omega) only[↓SB0,SX,seval,hQ,hQ1,lW1]
theorem ahf {α β:Type} (f:α→β) (l:List α) (i:Nat) (h:i<l.length):(l.take (i+1)).map f=(l.take i).map f++[f l[i]]:=by
 rw [lT h,lM2]; rfl
def tab1:Tab:={ inodes:=[{ ino:=1,kind:=2,links:=0,data:=[],ents:=[],attrs:=[] }],next:=2 }
theorem s6:aY Tryz.prog 118 [] tab1.o []:=by
 refine U aib [] 1 [] fun w hP hQ=>?_
 unfold aaa
 refine N ?_
 rfl
theorem m7 (t:Tab) (h:t.sz<2^40):aY Tryz.prog 61 [t.x] t.o [.undef]:=by
 obtain ⟨h1,h2⟩:=cO h
 refine U ae0 [] 7215 [] fun w hP hQ=>?_
 unfold wX
 refine N ?_
 refine eU [5,5005] ?_
 refine N ?_
 refine aR [5,5005] (fun i:Nat=>[(12,.int .i64 i),(5003,.box [.own 6 ((t.inodes.take i).map Inode.row),.int .i64 t.next])]) (fun i=>i≤t.inodes.length) (fun i=>t.inodes.length-i) (0) hP hQ (rfl) (by simp) ?_
 rintro i hi w1 hP1 hQ1
 refine N1 ?_
 (first | with_reducible refine cP _ ?_ ?_ | refine cQ _ ?_ ?_) <;> intro h3
 ·have ht:(t.inodes.take i).length=i:=by simp; omega
  have hz:=And.intro (bF h3) ht
  refine Nz1 ?_
  have hz:=ht
  refine Kz1 (pK (t.inodes[i]'(by omega)) (h2 _ (lP _))) ?_
  exact ⟨i+1,by simp only [ahf _ _ _ (show i<t.inodes.length by omega)]; rfl,by omega,by omega⟩
 ·obtain rfl:i=t.inodes.length:=by omega
  simp +decide (maxSteps:=9^9) (disch:=omega) only[↓SB0,SX,seval,hQ,hQ1,lW1]
theorem fS (t:Tab) (h:t.sz<2^40):aY Tryz.prog 76 [t.x] t.o [.undef]:=by
 obtain ⟨h1,h2⟩:=cO h
 refine U ah6 [] 31 [] fun w hP hQ=>?_
 unfold zU
 refine N ?_
 refine eU [] ?_
 refine N ?_
 refine aR [] (fun i:Nat=>[(4,.int .i64 i),(5003,.box [.own 6 ((t.inodes.take i).map Inode.row),.int .i64 t.next])]) (fun i=>i≤t.inodes.length) (fun i=>t.inodes.length-i) (0) hP hQ (rfl) (by simp) ?_
 rintro i hi w1 hP1 hQ1
 refine N1 ?_
 (first | with_reducible refine cP _ ?_ ?_ | refine cQ _ ?_ ?_) <;> intro h3
 ·have ht:(t.inodes.take i).length=i:=by simp; omega
  have hz:=And.intro (bF h3) ht
  refine Nz1 ?_
  have hz:=ht
  refine Kz1 (m6 (t.inodes[i]'(by omega)) (h2 _ (lP _))) ?_
  exact ⟨i+1,by simp only [ahf _ _ _ (show i<t.inodes.length by omega)]; rfl,by omega,by omega⟩
 ·obtain rfl:i=t.inodes.length:=by omega
  simp +decide (maxSteps:=9^9) (disch:=omega) only[↓SB0,SX,seval,hQ,hQ1,lW1]
section
theorem pL {g:Nat} {cs:List TV} {p:Ent→Bool} (hc:∀ v:Ent,aY Tryz.prog g [v.x,.xbox cs] (.bool (p v)) [.undef,.undef]) (l:List Ent) (hl:l.length<2^48) :
  aY Tryz.prog 132 [.ext 2 (l.map Ent.row),.fn g [.xbox cs]] (.int .i64 (yX (l.findIdx? p))) [.undef,.undef]:=by
 refine U tX [] 435 [] fun w hP hQ=>?_
 unfold mK
 refine N ?_
 refine eU [4,5] ?_
 refine N ?_
 refine aR [4,5] (fun i:Nat=>[(8,.int .i64 i)]) (fun i=>i≤l.length∧∀ k,k<i→(h:k<l.length)→p l[k]=false) (fun i=>l.length-i) (0) hP hQ (rfl) (by simp) ?_
 rintro i ⟨hi,hk⟩ w1 hP1 hQ1
 refine N1 ?_
 (first | with_reducible refine cP _ ?_ ?_ | refine cQ _ ?_ ?_) <;> intro h1
 ·have hz:=(bF h1)
  refine Nz1 ?_
  cases h2:p (l[i]'(by omega)) with
  | true=>
   have hz:=h2
   refine Kz1 (hc (l[i]'(by omega))) ?_
   rw [p9 hk (by omega) h2]; rfl
  | false=>
   have hz:=h2
   refine Kz1 (hc (l[i]'(by omega))) ?_
   exact ⟨i+1,rfl,⟨by omega,pH hk (by omega) h2⟩,by omega⟩
 ·obtain rfl:i=l.length:=by omega
  refine N1 ?_
  rw [qA fun k h=>hk k h h]; rfl
structure Kept' {α:Type} (s:Nat) (row:α→List TV) (p:α→Bool) (l:List α) (i j:Nat) (R:List (List TV)):Prop where
 lt:i<j
 le:j≤l.length
 len:R.length=l.length
 low:R.take i=((l.take j).filter fun x=>!p x).map row
 num:((l.take j).filter fun x=>!p x).length=i
 high:R.drop j=(l.drop j).map row
 wid:∀ x ∈ R,x.length=s
section
variable {α:Type} {s:Nat} {row:α→List TV} {p:α→Bool} {l:List α} {i j:Nat} {R:List (List TV)}
theorem uI {q:α→Bool} {l:List α} (h:∀ x ∈ l,q x=false):(l.filter fun x=>!q x)=l:=List.filter_eq_self.2 fun x hx=>by simp [h x hx]
theorem Kept'.start {k:Nat} (hr:∀ a,(row a).length=s) (h:l.findIdx? p=some k):Kept' s row p l k (k+1) (l.map row):=by
 obtain ⟨h1,h2,h3⟩:=lZ1.1 h
 have e:(l.take (k+1)).filter (fun x=>!p x)=l.take k:=by
  rw [lT h1,lQ3,uI fun x hx=>by
   obtain ⟨j,hj,rfl⟩:=lV1 hx
   rw [List.getElem_take]
   have:=h3 j (by simp at hj; omega)
   simpa using this]
  simp [h2]
 exact ⟨by omega,by omega,by simp,by rw [e,lG4],by rw [e]; simp; omega,by rw [List.map_drop],fun x hx=>by obtain ⟨a,_,rfl⟩:=lF2.1 hx; exact hr a⟩
theorem Kept'.at (h:Kept' s row p l i j R) (hj:j<l.length):R[j]?=some (row l[j]):=by
 have:=congrArg (fun x=>x[0]?) h.high
 simp only [lH1,lI3,lS1] at this
 rw [this,lK hj]; rfl
theorem Kept'.skip (h:Kept' s row p l i j R) (hj:j<l.length) (hp:p l[j]=true):Kept' s row p l i (j+1) R:=by
 obtain ⟨a1,a2,a3,a4,a5,a6,a7⟩:=h
 have e:(l.take (j+1)).filter (fun x=>!p x)=(l.take j).filter fun x=>!p x:=by
  rw [lT hj,lQ3]; simp [hp]
 refine ⟨by omega,by omega,a3,by rw [e,a4],by rw [e,a5],?_,a7⟩
 rw [← lH2,a6,← List.map_drop,lH2]
theorem Kept'.turn (h:Kept' s row p l i (j+1) R) {k:Nat} (h1:i≤k) (h2:k≤j) {f:List TV→List TV} (hf:∀ x,x.length=s→(f x).length=s):Kept' s row p l i (j+1) (R.modify k f):=by
 obtain ⟨a1,a2,a3,a4,a5,a6,a7⟩:=h
 refine ⟨a1,a2,by simp [a3],?_,a5,?_,fun x hx=>?_⟩
 ·rw [← a4]
  apply lI2
  intro m
  rw [lZ,lZ,lQ1]
  split
  ·have hm':k≠m:=by omega
   simp [hm']
  ·rfl
 ·rw [← a6]
  apply lI2
  intro m
  have hm':k≠j+1+m:=by omega
  rw [lH1,lH1,lQ1]
  simp [hm']
 ·obtain ⟨m,hm,rfl⟩:=lV1 hx
  rw [List.getElem_modify]
  split
  ·exact hf _ (a7 _ (lP _))
  ·exact a7 _ (lP _)
theorem Kept'.keep (h:Kept' s row p l i j R) (hj:j<l.length) (hp:p l[j]=false) {R':List (List TV)} (hl:R'.length=l.length) (hw:∀ x ∈ R',x.length=s) (h1:R'.take i=R.take i) (h2:R'.drop (j+1)=R.drop (j+1)) {f:List TV→List TV} (hf:∀ x,x.length=s→f x=row l[j]) (hr:(row l[j]).length=s) :
  Kept' s row p l (i+1) (j+1) (R'.modify i f):=by
 obtain ⟨a1,a2,a3,a4,a5,a6,a7⟩:=h
 have e:(l.take (j+1)).filter (fun x=>!p x)=(l.take j).filter (fun x=>!p x)++[l[j]]:=by
  rw [lT hj,lQ3]; simp [hp]
 have hi:i<R'.length:=by omega
 refine ⟨by omega,by omega,by simp [hl],?_,by rw [e]; simp; omega,?_,fun x hx=>?_⟩
 ·rw [e,lM2,← a4,← h1,lT (by simpa using hi),List.getElem_modify_eq,hf _ (hw _ (lP _))]
  congr 1
  apply lI2
  intro m
  rw [lZ,lZ,lQ1]
  split
  ·rename_i hm
   have hm':i≠m:=by omega
   simp [hm']
  ·rfl
 ·have e2:(R'.modify i f).drop (j+1)=R'.drop (j+1):=by
   apply lI2
   intro m
   have hm':i≠j+1+m:=by omega
   rw [lH1,lH1,lQ1]
   simp [hm']
  rw [e2,h2,← lH2,a6,← List.map_drop,lH2]
 ·obtain ⟨m,hm,rfl⟩:=lV1 hx
  rw [List.getElem_modify]
  split
  ·rw [hf _ (hw _ (lP _))]; exact hr
  ·exact hw _ (lP _)
theorem Kept'.done (h:Kept' s row p l i l.length R):R.take i=(l.filter fun x=>!p x).map row:=by
 have:=h.low
 rwa [lW1] at this
end
theorem vH {g:Nat} {cs:List TV} {p:Ent→Bool} (hc:∀ v:Ent,aY Tryz.prog g [v.x,.xbox cs] (.bool (p v)) [.undef,.undef]) (l:List Ent) (hl:l.length<2^40) :
  aY Tryz.prog 124 [.own 2 (l.map Ent.row),.fn g [.xbox cs]] (.own 2 ((l.filter fun x=>!p x).map Ent.row)) [.undef,.undef]:=by
 have hI:=pL hc l (by omega)
 cases e:l.findIdx? p with
 | none=>
  have ef:(l.filter fun x=>!p x)=l:=uI (by rw [lW2] at e; exact e)
  rw [e] at hI
  rw [ef]
  refine U kO [] 243 [] fun w hP hQ=>?_
  unfold gK
  refine N ?_
  exact K (hI) trivial
 | some k=>
  obtain ⟨k1,_⟩:=lZ1.1 e
  rw [e,show yX (some k)=(k:Int) from rfl] at hI
  have hz:decide (((k:Nat):Int)=-1)=false:=lB (by omega)
  refine U kO [] 243 [] fun w hP hQ=>?_
  unfold gK
  refine N ?_
  have hz:=hz
  refine Kz (hI) ?_
  refine eU [7,5007] ?_
  refine N ?_
  refine aR [7,5007] (fun x:Nat × Nat × List (List TV)=>[(0,.own 2 x.2.2),(5,.int .i64 (x.1:Nat)),(6,.int .i64 (x.2.1:Nat))]) (fun x=>Kept' 2 Ent.row p l x.1 x.2.1 x.2.2) (fun x=>l.length-x.2.1) ((k,k+1,l.map Ent.row)) hP hQ (rfl) (Kept'.start (fun _=>rfl) e) ?_
  rintro ⟨i,j,R⟩ hK w1 hP1 hQ1
  refine N1 ?_
  simp only at hK
  have hlen:=hK.len
  have hlt:=hK.lt
  have hle:=hK.le
  (first | with_reducible refine cP _ ?_ ?_ | refine cQ _ ?_ ?_) <;> intro h1
  ·have hj:j<l.length:=by omega
   have hat:=hK.at hj
   have hji:((j:Nat):Int)<(R.length:Nat):=by omega
   cases hp:p l[j] with
   | true=>
    have hz:=hat
    refine Nz1 ?_
    have hz:=hp
    refine Kz1 (hc l[j]) ?_
    exact ⟨(i,j+1,R),rfl,hK.skip hj hp,by simp only; omega⟩
   | false=>
    have hii:i<R.length:=by omega
    have hz:=hat
    refine Nz1 ?_
    have hz:=hp
    refine Kz1 (hc l[j]) ?_
    exact ⟨(i+1,j+1,_),rfl,hK.keep hj hp hlen hK.wid rfl rfl (fun x hx=>by rw [lL3 (Nat.le_of_eq hx)]; rfl) rfl,by simp only; omega⟩
  ·obtain rfl:j=l.length:=by omega
   have e1:(((l.length:Nat):Int)-(i:Nat)).toNat=l.length-i:=by omega
   have e2:R.drop (i+(l.length-i))=[]:=lX2 (by omega)
   have e3:(R.take i++List.replicate (l.length-i) [TV.str [],TV.int .i64 0]).length=l.length:=by simp; omega
   have e4:(((i:Nat):Int)-0).toNat=i:=by omega
   have e5:0+i≤l.length:=by omega
   have e6:(R.take i++List.replicate (l.length-i) [TV.str [],TV.int .i64 0]).take i=(l.filter fun x=>!p x).map Ent.row:=by
    rw [List.take_append_of_le_length (by simp; omega),List.take_take,Nat.min_self,hK.done]
   have hz:=And.intro hlen (And.intro e1 (And.intro e2 (And.intro e3 (And.intro e4 (And.intro e5 e6)))))
   exact Nz1 trivial
theorem ani {R:List (List TV)} {i k:Nat} (h:i≤k) (f:List TV→List TV):(R.modify k f).take i=R.take i:=by
 apply lI2
 intro m
 rw [lZ,lZ,lQ1]
 split
 ·have hm':k≠m:=by omega
  simp [hm']
 ·rfl
theorem anj {R:List (List TV)} {i k:Nat} (h:k<i) (f:List TV→List TV):(R.modify k f).drop i=R.drop i:=by
 apply lI2
 intro m
 have hm':k≠i+m:=by omega
 rw [lH1,lH1,lQ1]
 simp [hm']
theorem apm {R:List (List TV)} {s k:Nat} {f:List TV→List TV} (hf:∀ x,x.length=s→(f x).length=s) (h:∀ x ∈ R,x.length=s):∀ x ∈ R.modify k f,x.length=s:=by
 intro x hx
 obtain ⟨m,hm,rfl⟩:=lV1 hx
 rw [List.getElem_modify]
 split
 ·exact hf _ (h _ (lP _))
 ·exact h _ (lP _)
theorem aln (x:List TV) (h:x.length=6):(((x.modify 3 fun x=>TV.undef).modify 4 fun x=>TV.undef).modify 5 fun x=>TV.undef).length=6:=by simp [h]
theorem s7 {g:Nat} {cs:List TV} {p:Inode→Bool} (hc:∀ v:Inode,aY Tryz.prog g [v.x,.xbox cs] (.bool (p v)) [.undef,.undef]) (l:List Inode) (hl:l.length<2^40) :
  aY Tryz.prog 127 [.own 6 (l.map Inode.row),.fn g [.xbox cs]] (.own 6 ((l.filter fun x=>!p x).map Inode.row)) [.undef,.undef]:=by
 have hI:=m0 hc l (by omega)
 cases e:l.findIdx? p with
 | none=>
  have ef:(l.filter fun x=>!p x)=l:=uI (by rw [lW2] at e; exact e)
  rw [e] at hI
  rw [ef]
  refine U jF [] 243 [] fun w hP hQ=>?_
  unfold fM
  refine N ?_
  exact K (hI) trivial
 | some k=>
  obtain ⟨k1,_⟩:=lZ1.1 e
  rw [e,show yX (some k)=(k:Int) from rfl] at hI
  have hz:decide (((k:Nat):Int)=-1)=false:=lB (by omega)
  refine U jF [] 243 [] fun w hP hQ=>?_
  unfold fM
  refine N ?_
  have hz:=hz
  refine Kz (hI) ?_
  refine eU [7,5007] ?_
  refine N ?_
  refine aR [7,5007] (fun x:Nat × Nat × List (List TV)=>[(0,.own 6 x.2.2),(5,.int .i64 (x.1:Nat)),(6,.int .i64 (x.2.1:Nat))]) (fun x=>Kept' 6 Inode.row p l x.1 x.2.1 x.2.2) (fun x=>l.length-x.2.1) ((k,k+1,l.map Inode.row)) hP hQ (rfl) (Kept'.start (fun _=>rfl) e) ?_
  rintro ⟨i,j,R⟩ hK w1 hP1 hQ1
  refine N1 ?_
  simp only at hK
  have hlen:=hK.len
  have hlt:=hK.lt
  have hle:=hK.le
  (first | with_reducible refine cP _ ?_ ?_ | refine cQ _ ?_ ?_) <;> intro h1
  ·have hj:j<l.length:=by omega
   have hat:=hK.at hj
   have hji:((j:Nat):Int)<(R.length:Nat):=by omega
   cases hp:p l[j] with
   | true=>
    have hz:=hat
    refine Nz1 ?_
    have hz:=hp
    refine Kz1 (hc l[j]) ?_
    exact ⟨(i,j+1,_),rfl,(hK.skip hj hp).turn (k:=j) (by omega) (lJ1 _) aln,by simp only; omega⟩
   | false=>
    have hii:i<R.length:=by omega
    have hz:=hat
    refine Nz1 ?_
    have hz:=hp
    refine Kz1 (hc l[j]) ?_
    exact ⟨(i+1,j+1,_),rfl,hK.keep hj hp (by simp [hlen]) (apm aln hK.wid) (ani (by omega) _) (anj (by omega) _) (fun x hx=>by rw [lL3 (Nat.le_of_eq hx)]; rfl) rfl,by simp only; omega⟩
  ·obtain rfl:j=l.length:=by omega
   have e1:(((l.length:Nat):Int)-(i:Nat)).toNat=l.length-i:=by omega
   have e2:R.drop (i+(l.length-i))=[]:=lX2 (by omega)
   have e3:(R.take i++List.replicate (l.length-i) [TV.int .i64 0,TV.int .i64 0,TV.int .i64 0,TV.sl 1 [],TV.sl 2 [],TV.sl 2 []]).length=l.length:=by simp; omega
   have e4:(((i:Nat):Int)-0).toNat=i:=by omega
   have e5:0+i≤l.length:=by omega
   have e6:(R.take i++List.replicate (l.length-i) [TV.int .i64 0,TV.int .i64 0,TV.int .i64 0,TV.sl 1 [],TV.sl 2 [],TV.sl 2 []]).take i=(l.filter fun x=>!p x).map Inode.row:=by
    rw [List.take_append_of_le_length (by simp; omega),List.take_take,Nat.min_self,hK.done]
   have hz:=And.intro hlen (And.intro e1 (And.intro e2 (And.intro e3 (And.intro e4 (And.intro e5 e6)))))
   exact Nz1 trivial
theorem y5 (x:Inode) (n:Int):aY Tryz.prog 128 [x.x,.xbox [.int .i64 n]] (.bool (decide (x.ino=n))) [.undef,.undef]:=by
 refine U xN [] 15 [] fun w hP hQ=>?_
 unfold oU
 exact N trivial
theorem adB (t:Tab) (n:Int) (h:t.sz<2^40):aY Tryz.prog 66 [t.x,.int .i64 n] (iF t n).o [.undef,.undef]:=by
 obtain ⟨h1,h2⟩:=cO h
 have hD:=s7 (fun v=>y5 v n) t.inodes (by omega)
 have e:(t.inodes.filter fun x=>!decide (x.ino=n))=(iF t n).inodes:=by
  unfold iF
  congr 1
  funext x
  by_cases hx:x.ino=n <;> simp [hx]
 rw [e] at hD
 refine U abl [(127,[.m,.b],[])] 31 [] fun w hP hQ=>?_
 unfold rX
 refine N ?_
 refine K (m7 t h) ?_
 refine K (hD) ?_
 rfl
theorem afF {α:Type} (q:α→Bool) {l:List α} {i:Nat} (h:i<l.length):(l.take (i+1)).filter q=(l.take i).filter q++if q l[i]=true then [l[i]] else []:=by
 rw [lT h,lQ3]
 cases e:q l[i] <;> simp [e]
theorem uV (t:Tab) (n:Int) (h:t.sz<2^40):aY Tryz.prog 79 [t.x,.int .i64 n] (iF t n).o [.undef,.undef]:=by
 obtain ⟨h1,h2⟩:=cO h
 refine U abo [] 119 [] fun w hP hQ=>?_
 unfold r8
 refine N ?_
 refine eU [] ?_
 refine N ?_
 refine aR [] (fun i:Nat=>[(5005,.box [.own 6 (((t.inodes.take i).filter fun x=>decide (x.ino≠n)).map Inode.row),.int .i64 t.next]),(6,.int .i64 i)]) (fun i=>i≤t.inodes.length) (fun i=>t.inodes.length-i) (0) hP hQ (rfl) (by simp) ?_
 rintro i hi w1 hP1 hQ1
 refine N1 ?_
 have hc:((t.inodes.take i).filter fun x=>decide (x.ino≠n)).length≤t.inodes.length:=lB4 (lS2 _ _) (by simp; omega)
 (first | with_reducible refine cP _ ?_ ?_ | refine cQ _ ?_ ?_) <;> intro g
 ·have hlt:i<t.inodes.length:=by omega
  have ht:=afF (fun x:Inode=>decide (x.ino≠n)) hlt
  have hz:=(bF g)
  refine Nz1 ?_
  (first | with_reducible refine cP _ ?_ ?_ | refine cQ _ ?_ ?_) <;> intro e
  ·rw [lI (by simp [e]),lR2] at ht
   refine N1 ?_
   exact ⟨i+1,by rw [ht]; rfl,by omega,by omega⟩
  ·rw [lF (by simpa using e)] at ht
   have hb:(((t.inodes.take i).filter fun x=>decide (x.ino≠n)).length+1)*96≤140737488355328:=by omega
   have hz:=(bF g)
   refine Nz1 ?_
   have hz:=hb
   refine Kz1 (m6 (t.inodes[i]) (h2 _ (lP hlt))) ?_
   exact ⟨i+1,by rw [ht,lM2]; rfl,by omega,by omega⟩
 ·obtain rfl:i=t.inodes.length:=by omega
  simp +decide (maxSteps:=9^9) (disch:=omega) only[↓SB0,SX,seval,hQ,hQ1,lW1]
  try rfl
theorem rD {α β:Type} (f:α→β) (l:List α) (k:Nat) (x:α) (g:β→β) (hg:∀ y,l[k]?=some y→g (f y)=f x):(l.map f).modify k g=(l.set k x).map f:=by
 apply lI2
 intro j
 rw [lQ1,lS1,lS1,lJ4]
 by_cases e:k=j
 ·subst e
  by_cases hk:k<l.length
  ·simp [hk,hg _ (lK hk)]
  ·simp [hk]
 ·simp [e]
theorem fE (t:Tab) (x:Inode) {k:Nat} (h:t.sz<2^40) (hx:x.sz<2^40) (hu:UpI t.inodes) (hk:bS t x.ino=some k):aY Tryz.prog 67 [t.x,x.x] (aH t x).o [.undef,.undef]:=by
 obtain ⟨h1,h2⟩:=cO h
 have hlt:=uT hk
 have hPl:=uE t x.ino (by omega)
 rw [hk,show yX (some k)=(k:Int) from rfl] at hPl
 have e:aH t x={ inodes:=t.inodes.set k x,next:=t.next }:=by rw [aH,aaC hu hk]
 have hz:decide ((0:Int)≤(k:Nat))=true:=lG (by omega)
 have hg:((k:Nat):Int)<(t.inodes.length:Nat):=by omega
 rw [e]
 refine U acN [] 127 [] fun w hP hQ=>?_
 unfold uM
 refine N ?_
 refine K (m7 t h) ?_
 refine K (pK x hx) ?_
 have hz:=And.intro hz hg
 refine Kz (hPl) ?_
 rw [rD Inode.row t.inodes k x _ fun y _=>rfl]
theorem bP (t:Tab) (x:Inode) {k:Nat} (h:t.sz<2^40) (hx:x.sz<2^40) (hu:UpI t.inodes) (hk:bS t x.ino=some k):aY Tryz.prog 80 [t.x,x.x] (aH t x).o [.undef,.undef]:=by
 obtain ⟨h1,h2⟩:=cO h
 have hlt:=uT hk
 have hPl:=rC t x.ino (by omega)
 rw [hk,show yX (some k)=(k:Int) from rfl] at hPl
 have e:aH t x={ inodes:=t.inodes.set k x,next:=t.next }:=by rw [aH,aaC hu hk]
 have hz:decide ((0:Int)≤(k:Nat))=true:=lG (by omega)
 have hg:((k:Nat):Int)<(t.inodes.length:Nat):=by omega
 rw [e]
 refine U uO [] 255 [] fun w hP hQ=>?_
 unfold oS
 refine N ?_
 refine K (fS t h) ?_
 have hz:=And.intro hz hg
 refine Kz (hPl) ?_
 have hz:=And.intro hz hg
 refine Kz (m6 x hx) ?_
 rw [rD Inode.row t.inodes k x _ fun y _=>rfl]
 try rfl
end
def ank (D:Inode) (n:aA):List TV:=[.int .i64 D.ino,.int .i64 D.kind,.int .i64 D.links,.sl 1 (aI D.data),.sl 2 (D.ents.map Ent.row),.sl 2 (D.attrs.map Attr.row),.str n]
theorem aiJ (e:Ent) (D:Inode) (n:aA):aY Tryz.prog 126 [e.x,.xbox (ank D n)] (.bool (decide (e.name=n))) [.undef,.undef]:=by
 unfold ank
 refine U u7 [] 15 [] fun w hP hQ=>?_
 unfold n4
 exact N trivial
theorem anl (l:List Ent) (n:aA):(l.filter fun e=>!decide (e.name=n))=cV l n:=by
 unfold cV abT
 congr 1
 funext e
 by_cases h:e.name=n <;> simp [h]
theorem rE (D:Inode) (n:aA):(cL D n).sz≤D.sz:=by
 have h1:(cV D.ents n).length≤D.ents.length:=lS2 _ _
 have h2:=aaw Ent.sz (fun e:Ent=>decide (e.name≠n)) D.ents
 show D.data.length+((cV D.ents n).length+((cV D.ents n).map Ent.sz).sum)+szM Attr.sz D.attrs≤D.data.length+(D.ents.length+(D.ents.map Ent.sz).sum)+szM Attr.sz D.attrs
 have h3:((cV D.ents n).map Ent.sz).sum≤(D.ents.map Ent.sz).sum:=h2
 omega
theorem anm (t:Tab) (D:Inode) (n:aA) {k:Nat} (h:t.sz<2^40) (hD:D.sz<2^40) (hu:UpI t.inodes) (hk:bS t D.ino=some k) :
  aY Tryz.prog 65 [aiI D n,t.x] (aH t (cL D n)).o [.undef,.undef]:=by
 obtain ⟨h1,h2,h3⟩:=cT hD
 have hF:=vH (fun v=>aiJ v D n) D.ents (by omega)
 rw [anl] at hF
 have hS:=fE t (cL D n) h (lF4 (rE D n) hD) hu hk
 unfold aiI
 refine U yR [(124,[.m,.b],[])] 31 [] fun w hP hQ=>?_
 unfold qJ
 refine N ?_
 refine K (abG D.ents (by omega)) ?_
 refine K (hF) ?_
 exact K (hS) trivial
theorem alo (s:aA):iV s=(dI s && !decide (s=[47])):=by
 rw [lZ3,show iV s=true↔_ from ac0 s]
 unfold dI
 simp only [lQ,lK4,decide_eq_false_iff_not]
 constructor
 ·rintro ⟨h1,h2⟩; exact ⟨h1,fun e=>h2 ((aan h1).2 e)⟩
 ·rintro ⟨h1,h2⟩; exact ⟨h1,fun e=>h2 ((aan h1).1 e)⟩
theorem m8 {t:Tab} {i:Int} {x:Inode} (h:aD t i=some x):∃ k,bS t i=some k:=by
 cases e:bS t i with
 | none=>rw [aaG e] at h; cases h
 | some k=>exact ⟨k,rfl⟩
theorem yE (t:Tab) (s:aA) {D:Inode} (h:t.sz<2^40) (hs:s.length<2^40) (hu:UpI t.inodes) (hD:dH t s=.ok D):aY Tryz.prog 78 [t.x,.str s] (aH t (cL D (aM s))).o [.undef,.undef]:=by
 have hPa:=f5 s hs
 have hS:=uH t (aK s).1 h (by have:=(fK s).1; omega)
 have hst:=(eO hD).1
 have hat:=(aQ hst).2
 obtain ⟨k,hk⟩:=m8 hat
 have hz:=sZ h hat
 have hC:=anh D.ents (aM s) (cT hz).2.1
 have hI:=bP t (cL D (aM s)) h (lF4 (rE D _) hz) hu hk
 rw [hst] at hS
 simp only [exI,exC] at hS
 unfold aM at *
 refine U ah7 [] 375 [] fun w hP hQ=>?_
 unfold zV
 refine N ?_
 refine K (hPa) ?_
 refine K (hS) ?_
 refine K (hC) ?_
 exact K (hI) trivial
theorem fF {t:Tab} (h:aZ t=true):UpI t.inodes:=((aS t).1 h).tab.up
theorem adC {t:Tab} {s:aA} {X:Inode} (hB:aZ t=true) (hs:iV s=true) (hX:gD t s=.ok X):∃ D kD kX,dH t s=.ok D∧D.ino≠X.ino∧bS t D.ino=some kD∧bS (aH t (cL D (aM s))) X.ino=some kX∧1≤X.links∧X.links≤1000:=by
 have ht:=(aS t).1 hB
 obtain ⟨f1,f2⟩:=cK hX
 obtain ⟨D,d1,d2,_⟩:=x4 ht hs f1
 have a1:=(aQ f1).2
 have a2:=(aQ (eO d1).1).2
 have hne:D.ino≠X.ino:=by
  intro e
  rw [e,a1] at a2
  injection a2 with a2
  have:=(eO d1).2
  rw [← a2] at this; omega
 obtain ⟨kD,h1⟩:=m8 a2
 have a3:aD (aH t (cL D (aM s))) X.ino=some X:=by
  rw [bY (fF hB),lI (show ¬ (cL D (aM s)).ino=X.ino from hne)]; exact a1
 obtain ⟨kX,h2⟩:=m8 a3
 have ok:=(ht.tab.ok X (aQ f1).1).1
 have h0:X.links≠0:=fun e=>agT ht hs f1 (ok.root.1 e)
 have:=ok.links
 exact ⟨D,kD,kX,d1,hne,h1,h2,by omega,by omega⟩
theorem alp (t:Tab) (s:aA) (h:t.sz<2^30) (hs:s.length<2^40):aY Tryz.prog 16 [t.x,.str s] (.tup [(bT t s).1.o,.int .i64 (bT t s).2]) [.undef,.undef]:=by
 have h':t.sz<2^40:=by omega
 have hC:=m7 t h'
 have hR:=abK t [s] h' (by simp) (by simpa using hs)
 have hS:=alo s
 simp only [lU3,List.all_nil,Bool.and_true,lO,lP1,dF] at hR
 by_cases hc:aZ t=true∧iV s=true
 ·obtain ⟨hB,hsb⟩:=hc
  rw [hsb] at hS
  have hp:dI s=true:=by cases e:dI s <;> simp_all
  have hne:decide (s=[47])=false:=by cases e:decide (s=[47]) <;> simp_all
  rw [hp,hB] at hR
  have hF:=yD t s h' hs
  cases hX:gD t s with
  | error c=>
   have hc:decide (c=0)=false:=lB (kQ hX)
   have e:bT t s=(t,c):=by rw [bT,lF ⟨hB,hsb⟩,hX]
   rw [hX] at hF
   rw [e]
   simp only [exC] at hF
   refine U mL [] 503 [] fun w hP hQ=>?_
   unfold jL
   refine N ?_
   refine K (hC) ?_
   have hz:=hne
   refine Kz (hR) ?_
   (first|refine cI hP (hF) rfl rfl ?_|refine cH hP (hF) rfl rfl ?_)
   have hz:=hc
   refine Nz ?_
   first|exact trivial|rfl
  | ok X=>
   obtain ⟨D,kD,kX,d1,d2,d3,d4,d5,d6⟩:=adC hB hsb hX
   obtain ⟨f1,f2⟩:=cK hX
   have zX:=sZ h' (aQ f1).2
   have zD:=(aQ (eO d1).1).2
   have hSp:=adA t s h' hs
   have zt:(aH t (cL D (aM s))).sz<2^40:=by
    have:=kC t (cL D (aM s))
    have:=rE D (aM s)
    have:=(cO h).2 D (aO zD).1
    omega
   have hL:=anm t D (aM s) h' (sZ h' zD) (fF hB) d3
   have hD:=adB (aH t (cL D (aM s))) X.ino zt
   have hI:=fE (aH t (cL D (aM s))) (oF X) zt zX (fR (fF hB) _) d4
   rw [hX] at hF
   rw [d1] at hSp
   have e:bT t s=(bM t D (aM s) X,0):=by rw [bT,lF ⟨hB,hsb⟩,hX,d1]; rfl
   rw [f1] at hF
   simp only [exC,exI,exN] at hF hSp
   unfold anf at hSp
   unfold aiI at hL
   rw [e,bM]
   by_cases h1:X.links=1
   ·have h1':decide (X.links-1=0)=true:=lG (by omega)
    rw [lF h1]
    refine U mL [] 503 [] fun w hP hQ=>?_
    unfold jL
    refine N ?_
    refine K (hC) ?_
    have hz:=hne
    refine Kz (hR) ?_
    refine K (hF) ?_
    refine K (hSp) ?_
    have hz:=h1'
    refine Kz (hL) ?_
    exact K (hD) trivial
   ·have h1':decide (X.links-1=0)=false:=lB (by omega)
    rw [lI h1]
    refine U mL [] 503 [] fun w hP hQ=>?_
    unfold jL
    refine N ?_
    refine K (hC) ?_
    have hz:=hne
    refine Kz (hR) ?_
    refine K (hF) ?_
    refine K (hSp) ?_
    have hz:=h1'
    refine Kz (hL) ?_
    exact K (hI) trivial
 ·have e:bT t s=(t,1):=by rw [bT,lI hc]
  rw [e]
  cases hp:(dI s && aZ t) with
  | false=>
   rw [hp] at hR
   refine U mL [] 503 [] fun w hP hQ=>?_
   unfold jL
   refine N ?_
   refine K (hC) ?_
   (first|refine cI hP (hR) rfl rfl ?_|refine cH hP (hR) rfl rfl ?_)
   refine N ?_
   first|exact trivial|rfl
  | true=>
   have hne:decide (s=[47])=true:=by
    cases e:decide (s=[47]) with
    | true=>rfl
    | false=>
     simp only [lQ] at hp
     rw [hp.1,e] at hS
     exact absurd ⟨hp.2,hS⟩ hc
   rw [hp] at hR
   refine U mL [] 503 [] fun w hP hQ=>?_
   unfold jL
   refine N ?_
   refine K (hC) ?_
   (first|refine cI hP (hR) rfl rfl ?_|refine cH hP (hR) rfl rfl ?_)
   have hz:=hne
   refine Nz ?_
   first|exact trivial|rfl
theorem s8 (t:Tab) (s:aA) (h:t.sz<2^30) (hs:s.length<2^40):aY Tryz.prog 22 [t.x,.str s] (.tup [(bT t s).1.o,.int .i64 (bT t s).2]) [.undef,.undef]:=by
 have h':t.sz<2^40:=by omega
 have hC:=fS t h'
 have hT:=gQ t h'
 have hPa:=f5 s hs
 rw [show (aK s).2.2=iV s from rfl] at hPa
 by_cases hc:aZ t=true∧iV s=true
 ·obtain ⟨hB,hsb⟩:=hc
  rw [hB] at hT
  rw [hsb] at hPa
  have hF:=s5 t s h' hs
  cases hX:gD t s with
  | error c=>
   have hc:decide (c=0)=false:=lB (kQ hX)
   have e:bT t s=(t,c):=by rw [bT,lF ⟨hB,hsb⟩,hX]
   rw [hX] at hF
   rw [e]
   simp only [exC] at hF
   refine U mM [] 3895 [] fun w hP hQ=>?_
   unfold jM
   refine N ?_
   refine K (hPa) ?_
   refine K (hT) ?_
   have hz:=hc
   refine Kz (hF) ?_
   (first|refine cI hP (hC) rfl rfl ?_|refine cH hP (hC) rfl rfl ?_)
   refine N ?_
   first|exact trivial|rfl
  | ok X=>
   obtain ⟨D,kD,kX,d1,d2,d3,d4,d5,d6⟩:=adC hB hsb hX
   obtain ⟨f1,f2⟩:=cK hX
   have zX:=sZ h' (aQ f1).2
   have zD:=(aQ (eO d1).1).2
   have zt:(aH t (cL D (aM s))).sz<2^40:=by
    have:=kC t (cL D (aM s))
    have:=rE D (aM s)
    have:=(cO h).2 D (aO zD).1
    omega
   have hL:=yE t s h' hs (fF hB) d1
   have hD:=uV (aH t (cL D (aM s))) X.ino zt
   have hI:=bP (aH t (cL D (aM s))) (oF X) zt zX (fR (fF hB) _) d4
   rw [hX] at hF
   have e:bT t s=(bM t D (aM s) X,0):=by rw [bT,lF ⟨hB,hsb⟩,hX,d1]; rfl
   simp only [exC,exI] at hF
   rw [e,bM]
   by_cases h1:X.links=1
   ·have h1':decide (X.links=1)=true:=lG h1
    rw [lF h1]
    refine U mM [] 3895 [] fun w hP hQ=>?_
    unfold jM
    refine N ?_
    refine K (hPa) ?_
    refine K (hT) ?_
    refine K (hF) ?_
    have hz:=h1'
    refine Kz (hL) ?_
    exact K (hD) trivial
   ·have h1':decide (X.links=1)=false:=lB h1
    rw [lI h1]
    refine U mM [] 3895 [] fun w hP hQ=>?_
    unfold jM
    refine N ?_
    refine K (hPa) ?_
    refine K (hT) ?_
    refine K (hF) ?_
    have hz:=h1'
    refine Kz (hL) ?_
    exact K (hI) trivial
 ·have e:bT t s=(t,1):=by rw [bT,lI hc]
  rw [e]
  cases hB:aZ t with
  | false=>
   rw [hB] at hT
   refine U mM [] 3895 [] fun w hP hQ=>?_
   unfold jM
   refine N ?_
   refine K (hPa) ?_
   refine K (hT) ?_
   (first|refine cI hP (hC) rfl rfl ?_|refine cH hP (hC) rfl rfl ?_)
   refine N ?_
   first|exact trivial|rfl
  | true=>
   have hsb:iV s=false:=by cases e:iV s <;> simp_all
   rw [hB] at hT
   rw [hsb] at hPa
   refine U mM [] 3895 [] fun w hP hQ=>?_
   unfold jM
   refine N ?_
   refine K (hPa) ?_
   refine K (hT) ?_
   (first|refine cI hP (hC) rfl rfl ?_|refine cH hP (hC) rfl rfl ?_)
   refine N ?_
   first|exact trivial|rfl
theorem abL (a b:aA):strLt a b=decide (a<b):=jI a b
theorem ahg (a b:aA):(decide (a<b) || decide (a=b))=!decide (b<a):=by
 rw [lZ3]
 simp only [lU4,decide_eq_true_eq,lK4,decide_eq_false_iff_not]
 constructor
 ·rintro (h | rfl)
  ·exact List.lt_asymm h
  ·exact lH4 _
 ·intro h
  rcases List.le_iff_lt_or_eq.1 (List.not_lt.1 h) with h | h
  ·exact .inl h
  ·exact .inr h
theorem apn (l:List Ent) (e:Ent):l.map Ent.row++[[TV.str e.name,TV.int .i64 e.ino]]=(l.take l.length++e::l.drop l.length).map Ent.row:=by simp [Ent.row]
theorem alq (L:List Ent) (k:Nat) (x:Ent):(L.map Ent.row).modify k (fun r=>TV.str x.name::TV.int .i64 x.ino::r.drop 2)=(L.set k x).map Ent.row:=rD Ent.row L k x _ fun _ _=>rfl
theorem ahh {l:List Ent} {k:Nat} {h:Ent} (hk:k<l.length):(((l.take (k+1)++h::l.drop (k+1))).map Ent.row)[k]?=some (Ent.row l[k]):=by rw [lS1,adk hk]; rfl
theorem abM (l:List Ent) (e:Ent) (hu:UpK Ent.name l) (hl:l.length<2^30):aY Tryz.prog 93 [.ext 2 (l.map Ent.row),e.x] (.own 2 ((c9 l e).map Ent.row)) [.undef,.undef]:=by
 have hb1:l.length*24≤140737488355328:=by omega
 have hb2:(l.length+1)*24≤140737488355328:=by omega
 refine U aku [] 123 [] fun w hP hQ=>?_
 unfold acD
 refine N ?_
 simp +decide (maxSteps:=9^9) (disch:=omega) only[↓SB0,SX,seval,hQ,afy,hb1,hb2,lU,bC]
 rw [apn]
 refine eU [] ?_
 refine N ?_
 refine aR [] (fun s:Nat × Ent=>[(5,.own 2 ((l.take s.1++s.2::l.drop s.1).map Ent.row)),(6,.int .i64 (s.1:Nat))]) (fun s=>s.1≤l.length∧∀ j,s.1≤j→(h:j<l.length)→e.name<l[j].name) (fun s=>s.1) ((l.length,e)) hP hQ (rfl) (by simp; omega) ?_
 rintro ⟨k,x⟩ ⟨hk,hj⟩ w1 hP1 hQ1
 refine N1 ?_
 simp only at hk hj
 have hlen:=adj (h:=x) hk
 cases k with
 | zero=>
  have hz:=hlen
  refine Nz1 ?_
  rw [c9,sV hu hk hj (.inl rfl)]
  simp [Ent.row]
 | succ k=>
  have hkl:k<l.length:=by omega
  have w4:decide ((0:Int)<((k+1:Nat):Int))=true:=lG (by omega)
  simp +decide (maxSteps:=9^9) (disch:=omega) only[↓SB0,SX,seval,hQ,hQ1,w4,hlen,bC,ahh (h:=x) hkl,Ent.row,abL,ahg]
  (first | with_reducible refine cP _ ?_ ?_ | refine cQ _ ?_ ?_) <;> intro g
  ·simp +decide (maxSteps:=9^9) (disch:=omega) only[↓SB0,SX,seval,hQ,hQ1,hlen,bC,ahh (h:=x) hkl,Ent.row]
   exact ⟨(k,l[k]),by simp only [alq,sW _ _ hk,aaD hkl],⟨by simp only; omega,fun j hj1 hj2=>by
    by_cases e:j=k
    ·subst e; exact g
    ·exact hj j (by simp only at hj1; omega) hj2⟩,by simp only; omega⟩
  ·simp +decide (maxSteps:=9^9) (disch:=omega) only[↓SB0,SX,seval,hQ,hQ1,hlen]
   rw [c9,sV hu hk hj (.inr ⟨by simpa using hkl,by simpa using g⟩),alq,sW _ _ hk]
theorem aiK {t:Tab} {x:Inode} (h:∀ y ∈ t.inodes,y.ino<x.ino):aH t x={ inodes:=t.inodes++[x],next:=t.next }:=by
 have:=adi (l:=t.inodes) (x:=x) (k:=t.inodes.length) (lJ1 _) (fun j hj hl=>h _ (lP hl)) (fun h=>absurd h (Nat.lt_irrefl _))
 rw [aH,this]; simp
theorem apo {t:Tab} {x:Inode} (h:∀ y ∈ t.inodes,y.ino<x.ino):bS t x.ino=none:=by
 rw [bS,lW2]
 intro y hy
 have:=h y hy
 simp; omega
theorem ann (l:List Inode):kH (l.map Inode.row)=true:=by
 rw [kH,lY]
 intro r hr
 obtain ⟨x,_,rfl⟩:=lF2.1 hr
 rfl
theorem apq {l:List Inode} (h:l≠[]):gU (l.map Inode.row)=false:=by
 cases l with
 | nil=>exact absurd rfl h
 | cons x l=>rfl
theorem yF (t:Tab) (x:Inode) (h:t.sz<2^30) (hx:x.sz<2^30) (hne:t.inodes≠[]) (hn:∀ y ∈ t.inodes,y.ino<x.ino):aY Tryz.prog 80 [t.x,x.x] (aH t x).o [.undef,.undef]:=by
 obtain ⟨h1,h2⟩:=cO h
 have hPl:=rC t x.ino (by omega)
 rw [apo hn] at hPl
 rw [aiK hn]
 refine U uO [] 255 [] fun w hP hQ=>?_
 unfold oS
 refine N ?_
 refine K (fS t (by omega)) ?_
 refine K (hPl) ?_
 refine eU [] ?_
 refine N ?_
 refine aR [] (fun i:Nat=>[(6,.int .i64 i)]) (fun i=>i≤t.inodes.length) (fun i=>t.inodes.length-i) (0) hP hQ (rfl) (by simp) ?_
 rintro i hi w1 hP1 hQ1
 refine N1 ?_
 by_cases g:i<t.inodes.length
 ·have g1:decide (((i:Nat):Int)<(t.inodes.length:Nat))=true:=lG (by omega)
  have g2:decide ((t.inodes[i]).ino<x.ino)=true:=lG (hn _ (lP g))
  have hz:=And.intro g1 (And.intro g2 (bF (show ((i:Nat):Int)<(t.inodes.length:Nat) by omega)))
  refine Nz1 ?_
  exact ⟨i+1,rfl,by omega,by omega⟩
 ·obtain rfl:i=t.inodes.length:=by omega
  have g1:decide (((t.inodes.length:Nat):Int)<(t.inodes.length:Nat))=false:=lB (by omega)
  have e1:(((t.inodes.length:Nat):Int)-0).toNat=t.inodes.length:=by omega
  have e2:(t.inodes.map Inode.row).take t.inodes.length=t.inodes.map Inode.row:=lR1 (by simp)
  have e3:0+t.inodes.length≤t.inodes.length:=by omega
  have e4:(0+t.inodes.length)*96≤140737488355328:=by omega
  have e5:=ann t.inodes
  have e6:=apq hne
  have e7:(t.inodes.map Inode.row).drop (0+t.inodes.length)=[]:=lX2 (by simp)
  have e8:(yN (t.inodes.map Inode.row)).length=t.inodes.length:=by simp [yN]
  have e9:(((t.inodes.length:Nat):Int)-((t.inodes.length:Nat):Int)).toNat=0:=by omega
  have e10:(yN (t.inodes.map Inode.row)).drop t.inodes.length=[]:=lX2 (by simp [yN])
  have e11:(t.inodes.length+1)*96≤140737488355328:=by omega
  have e12:t.inodes.length+0≤t.inodes.length:=by omega
  have e13:(t.inodes.length+1+0)*96≤140737488355328:=by omega
  have e14:t.inodes.map Inode.row++[[TV.int .i64 x.ino,TV.int .i64 x.kind,TV.int .i64 x.links,TV.sl 1 (aI x.data),TV.sl 2 (x.ents.map Ent.row),TV.sl 2 (x.attrs.map Attr.row)]]=(t.inodes++[x]).map Inode.row:=by simp [Inode.row]
  have e15:((t.inodes++[x]).length+0)*96≤140737488355328:=by simp; omega
  have hz:=And.intro g1 (And.intro e1 (And.intro e2 (And.intro e3 (And.intro e4 (And.intro e5 (And.intro e6 e7))))))
  refine Nz1 ?_
  (first|refine cI hP (m6 x (by omega)) rfl rfl ?_|refine cH hP (m6 x (by omega)) rfl rfl ?_)
  simp +decide (maxSteps:=9^9) (disch:=omega) only[↓SB0,SX,seval,hQ,g1,e1,e2,e3,e4,e5,e6,e7,e8,e9,e10,e11,e12,e13,e14,e15,lR2,List.take_nil]
  try rfl
def apr (t:Tab) (s:aA) (f:Int):Rs Inode:=if iV s=true then tE t s f else .error 1
theorem aps {t:Tab} {s:aA}:(∃ c,cG t (aK s).1=.error c∧dH t s=.error c)∨(∃ D,cG t (aK s).1=.ok D∧¬ D.kind=2∧dH t s=.error 3)∨∃ D,cG t (aK s).1=.ok D∧D.kind=2∧dH t s=.ok D:=by
 unfold dH
 cases e:cG t (aK s).1 with
 | error c=>exact .inl ⟨c,rfl,rfl⟩
 | ok D=>
  by_cases hk:D.kind=2
  ·exact .inr (.inr ⟨D,rfl,hk,by simp only [lF hk]⟩)
  ·exact .inr (.inl ⟨D,rfl,hk,by simp only [lI hk]⟩)
theorem yG (t:Tab) (s:aA) (f:Int) (h:t.sz<2^40) (hs:s.length<2^40):aY Tryz.prog 92 [t.x,.str s,.int .i64 f] (.tup [(exI (apr t s f)).o,.str (exN (apr t s f) (aM s)),.int .i64 (exC (apr t s f))]) [.undef,.undef,.undef]:=by
 have hPa:=f5 s hs
 have hS:=uH t (aK s).1 h (by have:=(fK s).1; omega)
 rw [show (aK s).2.2=iV s from rfl,show (aK s).2.1=aM s from rfl] at hPa
 unfold apr
 cases hb:iV s with
 | false=>
  rw [hb] at hPa
  rw [lI (by simp)]
  refine U hU [] 16335 [] fun w hP hQ=>?_
  unfold f9
  refine N ?_
  refine K (hPa) ?_
  all_goals first | rfl | exact ⟨rfl,rfl⟩
 | true=>
  rw [hb] at hPa
  rw [lF rfl]
  unfold tE
  rcases aps (t:=t) (s:=s) with ⟨c,e1,e2⟩ | ⟨D,e1,e2,e3⟩ | ⟨D,e1,e2,e3⟩
  ·have hc:decide (c=0)=false:=lB (iJ e1)
   rw [e1] at hS
   rw [e2]
   simp only [exI,exC,exN] at hS ⊢
   refine U hU [] 16335 [] fun w hP hQ=>?_
   unfold f9
   refine N ?_
   refine K (hPa) ?_
   have hz:=hc
   refine Kz (hS) ?_
   all_goals first | rfl | exact ⟨rfl,rfl⟩
  ·have hk':decide (D.kind=2)=false:=lB e2
   rw [e1] at hS
   rw [e3]
   simp only [exI,exC,exN] at hS ⊢
   refine U hU [] 16335 [] fun w hP hQ=>?_
   unfold f9
   refine N ?_
   refine K (hPa) ?_
   have hz:=hk'
   refine Kz (hS) ?_
   all_goals first | rfl | exact ⟨rfl,rfl⟩
  ·have hk':decide (D.kind=2)=true:=lG e2
   have zD:=sZ h (aQ e1).2
   have hE:=ahd D (aM s) zD
   rw [e1] at hS
   rw [e3]
   simp only [exI,exC] at hS
   by_cases h1:bD D (aM s)=0
   ·rw [h1] at hE
    simp only [lF (show bD D (aK s).2.1=0 from h1)]
    by_cases h2:D.ents.length<10
    ·have h2':decide ((10:Int)≤(D.ents.length:Nat))=false:=lB (by omega)
     simp only [lF (Or.inl h2:D.ents.length<10∨D.ino=f),exI,exC,exN]
     refine U hU [] 16335 [] fun w hP hQ=>?_
     unfold f9
     refine N ?_
     refine K (hPa) ?_
     have hz:=hk'
     refine Kz (hS) ?_
     have hz:=h2'
     exact Kz (hE) trivial
    ·have h2':decide ((10:Int)≤(D.ents.length:Nat))=true:=lG (by omega)
     by_cases h3:D.ino=f
     ·have h3':decide (D.ino=f)=true:=lG h3
      simp only [lF (Or.inr h3:D.ents.length<10∨D.ino=f),exI,exC,exN]
      refine U hU [] 16335 [] fun w hP hQ=>?_
      unfold f9
      refine N ?_
      refine K (hPa) ?_
      have hz:=hk'
      refine Kz (hS) ?_
      have hz:=And.intro h2' h3'
      exact Kz (hE) trivial
     ·have h3':decide (D.ino=f)=false:=lB h3
      simp only [lI (show ¬ (D.ents.length<10∨D.ino=f) from fun h=>h.elim h2 h3),exI,exC,exN]
      refine U hU [] 16335 [] fun w hP hQ=>?_
      unfold f9
      refine N ?_
      refine K (hPa) ?_
      have hz:=hk'
      refine Kz (hS) ?_
      have hz:=And.intro h2' h3'
      refine Kz (hE) ?_
      all_goals first | rfl | exact ⟨rfl,rfl⟩
   ·have h1':decide (bD D (aM s)=0)=false:=lB h1
    simp only [lI (show ¬ bD D (aK s).2.1=0 from h1),exI,exC,exN]
    refine U hU [] 16335 [] fun w hP hQ=>?_
    unfold f9
    refine N ?_
    refine K (hPa) ?_
    have hz:=hk'
    refine Kz (hS) ?_
    have hz:=h1'
    refine Kz (hE) ?_
    all_goals first | rfl | exact ⟨rfl,rfl⟩
theorem aqC {t:Tab} {s:aA} {f:Int} {D:Inode} (hB:aZ t=true) (h:tE t s f=.ok D):∃ k,bS t D.ino=some k∧UpK Ent.name D.ents∧D.ents.length≤10∧D ∈ t.inodes∧2≤t.next∧t.next≤1000∧D.ino<t.next:=by
 have ht:=(aS t).1 hB
 have hm:=nU (gP h).1
 obtain ⟨k,hk⟩:=m8 (gN ht hm)
 have ok:=(bQ ht hm)
 exact ⟨k,hk,ok.up,ok.len,hm,ht.tab.next.1,ht.tab.next.2,(ht.tab.ok D hm).2⟩
theorem alr (l:List Ent) (e:Ent):szM Ent.sz (c9 l e)≤szM Ent.sz l+e.name.length+1:=by
 have h1:(c9 l e).length=l.length+1:=p6 l e
 have h2:((c9 l e).map Ent.sz).sum=(l.map Ent.sz).sum+e.name.length:=by
  unfold c9
  induction l with
  | nil=>simp [tD,Ent.sz]
  | cons f l ih=>
   rw [tD]
   split
   ·simp only [lO,lG2,Ent.sz]; omega
   ·simp only [lO,lG2,ih (by exact p6 l e)]; omega
 simp only [szM]; omega
theorem yH (D:Inode) (n:aA) (j:Int):(cS D n j).sz≤D.sz+n.length+1:=by
 have:=alr D.ents ⟨n,j⟩
 simp only at this
 show D.data.length+szM Ent.sz (c9 D.ents ⟨n,j⟩)+szM Attr.sz D.attrs≤D.data.length+szM Ent.sz D.ents+szM Attr.sz D.attrs+n.length+1
 omega
theorem apt {t:Tab} {D:Inode} {n:aA} (hB:aZ t=true) (hm:D ∈ t.inodes):∀ y ∈ (aH t (cS D n t.next)).inodes,y.ino<t.next:=by
 have ht:=(aS t).1 hB
 intro y hy
 rcases aaq hy with rfl | hy
 ·exact (ht.tab.ok D hm).2
 ·exact (ht.tab.ok y hy).2
theorem als (l:List Inode) (x:Inode):bW l x≠[]:=by
 cases l with
 | nil=>simp [bW]
 | cons y l=>rw [bW]; split; simp; split <;> simp
theorem adD (t:Tab) (s:aA) (k:Int) (h:t.sz<2^28) (hs:s.length<2^40):aY Tryz.prog 89 [t.x,.str s,.int .i64 k] (.tup [(fL t s k).1.o,.int .i64 (fL t s k).2]) [.undef,.undef,.undef]:=by
 have h':t.sz<2^40:=by omega
 have hC:=fS t h'
 have hT:=gQ t h'
 have hN:=yG t s 0 h' hs
 unfold apr at hN
 cases hB:aZ t with
 | false=>
  have e:fL t s k=(t,1):=by rw [fL,lI (by simp [hB])]
  rw [hB] at hT
  rw [e]
  refine U jN [] 4047 [] fun w hP hQ=>?_
  unfold g8
  refine N ?_
  refine K (hT) ?_
  (first|refine cI hP (hC) rfl rfl ?_|refine cH hP (hC) rfl rfl ?_)
  refine N ?_
  all_goals first|exact trivial|rfl|exact ⟨rfl,rfl⟩
 | true=>
  rw [hB] at hT
  cases hb:iV s with
  | false=>
   have e:fL t s k=(t,1):=by rw [fL,lI (by simp [hb])]
   rw [hb,lI (by simp)] at hN
   rw [e]
   simp only [exI,exC,exN] at hN
   refine U jN [] 4047 [] fun w hP hQ=>?_
   unfold g8
   refine N ?_
   refine K (hT) ?_
   refine K (hN) ?_
   (first|refine cI hP (hC) rfl rfl ?_|refine cH hP (hC) rfl rfl ?_)
   refine N ?_
   all_goals first|exact trivial|rfl|exact ⟨rfl,rfl⟩
  | true=>
   rw [hb,lF rfl] at hN
   cases hX:tE t s 0 with
   | error c=>
    have hc:decide (c=0)=false:=lB (by
     intro e; subst e; unfold tE at hX
     split at hX
     ·split at hX
      ·split at hX <;> cases hX
      ·cases hX
     ·rename_i e2
      cases hX
      unfold dH at e2
      split at e2
      ·split at e2 <;> cases e2
      ·rename_i e3; cases e2; exact iJ e3 rfl)
    have e:fL t s k=(t,c):=by rw [fL,lF ⟨hB,hb⟩,hX]
    rw [hX] at hN
    rw [e]
    simp only [exI,exC,exN] at hN
    refine U jN [] 4047 [] fun w hP hQ=>?_
    unfold g8
    refine N ?_
    refine K (hT) ?_
    have hz:=hc
    refine Kz (hN) ?_
    (first|refine cI hP (hC) rfl rfl ?_|refine cH hP (hC) rfl rfl ?_)
    refine N ?_
    all_goals first|exact trivial|rfl|exact ⟨rfl,rfl⟩
   | ok D=>
    obtain ⟨kD,k1,k2,k3,k4,k5,k6,k7⟩:=aqC hB hX
    have e0:fL t s k=if t.inodes.length<30∧t.next<1000 then (o8 t D (aM s) k,0) else (t,5):=by rw [fL,lF ⟨hB,hb⟩,hX]
    rw [hX] at hN
    simp only [exI,exC,exN] at hN
    rw [e0]
    by_cases g1:t.inodes.length<30
    ·have g1':decide ((30:Int)≤(t.inodes.length:Nat))=false:=lB (by omega)
     by_cases g2:t.next<1000
     ·have g2':decide ((1000:Int)≤t.next)=false:=lB (by omega)
      rw [lF ⟨g1,g2⟩]
      have zD:=(cO h).2 D k4
      have z1:=yH D (aM s) t.next
      have z2:=(fK s).2
      have z3:=kC t (cS D (aM s) t.next)
      have hP1:=abM D.ents ⟨aM s,t.next⟩ k2 (by omega)
      have hS1:=bP t (cS D (aM s) t.next) h' (by omega) (fF hB) k1
      have hS2:=yF (aH t (cS D (aM s) t.next)) (yW t.next k) (by omega) (by show 0+(0+0)+(0+0)<2^30; omega) (als _ _) (apt hB k4)
      refine U jN [] 4047 [] fun w hP hQ=>?_
      unfold g8
      refine N ?_
      refine K (hT) ?_
      have hz:=And.intro g1' g2'
      refine Kz (hN) ?_
      refine K (hC) ?_
      refine K (hP1) ?_
      refine K (hS1) ?_
      refine K (hS2) ?_
      rfl
     ·have g2':decide ((1000:Int)≤t.next)=true:=lG (by omega)
      rw [lI (by omega)]
      refine U jN [] 4047 [] fun w hP hQ=>?_
      unfold g8
      refine N ?_
      refine K (hT) ?_
      have hz:=And.intro g1' g2'
      refine Kz (hN) ?_
      (first|refine cI hP (hC) rfl rfl ?_|refine cH hP (hC) rfl rfl ?_)
      refine N ?_
      all_goals first|exact trivial|rfl|exact ⟨rfl,rfl⟩
    ·have g1':decide ((30:Int)≤(t.inodes.length:Nat))=true:=lG (by omega)
     rw [lI (by omega)]
     refine U jN [] 4047 [] fun w hP hQ=>?_
     unfold g8
     refine N ?_
     refine K (hT) ?_
     have hz:=g1'
     refine Kz (hN) ?_
     (first|refine cI hP (hC) rfl rfl ?_|refine cH hP (hC) rfl rfl ?_)
     refine N ?_
     all_goals first|exact trivial|rfl|exact ⟨rfl,rfl⟩
theorem jP (t:Tab) (s:aA) (h:t.sz<2^28) (hs:s.length<2^40):aY Tryz.prog 37 [t.x,.str s] (.tup [(fL t s 2).1.o,.int .i64 (fL t s 2).2]) [.undef,.undef]:=by
 refine U aeY [] 55 [] fun w hP hQ=>?_
 unfold wV
 refine N ?_
 exact K (adD t s 2 h hs) trivial
theorem iK (t:Tab) (s:aA) (h:t.sz<2^28) (hs:s.length<2^40):aY Tryz.prog 33 [t.x,.str s] (.tup [(fL t s 1).1.o,.int .i64 (fL t s 1).2]) [.undef,.undef]:=by
 refine U acM [] 55 [] fun w hP hQ=>?_
 unfold uL
 refine N ?_
 exact K (adD t s 1 h hs) trivial
theorem ahi {t:Tab} {s:aA} {X:Inode} (hB:aZ t=true) (hs:iV s=true) (hX:cG t s=.ok X):∃ D,dH t s=.ok D:=by
 have ht:=(aS t).1 hB
 obtain ⟨D,d1,d2,_⟩:=x4 ht hs hX
 exact ⟨D,d1⟩
theorem uW (t:Tab) (s:aA) (h:t.sz<2^30) (hs:s.length<2^40):aY Tryz.prog 30 [t.x,.str s] (.tup [(j9 t s).1.o,.int .i64 (j9 t s).2]) [.undef,.undef]:=by
 have h':t.sz<2^40:=by omega
 have hC:=fS t h'
 have hT:=gQ t h'
 have hPa:=f5 s hs
 rw [show (aK s).2.2=iV s from rfl] at hPa
 by_cases hc:aZ t=true∧iV s=true
 ·obtain ⟨hB,hsb⟩:=hc
  rw [hB] at hT
  rw [hsb] at hPa
  have hF:=uH t s h' hs
  cases hX:cG t s with
  | error c=>
   have hc:decide (c=0)=false:=lB (iJ hX)
   have e:j9 t s=(t,c):=by rw [j9,lF ⟨hB,hsb⟩,hX]
   rw [hX] at hF
   rw [e]
   simp only [exI,exC] at hF
   refine U fH [] 1847 [] fun w hP hQ=>?_
   unfold eG
   refine N ?_
   refine K (hPa) ?_
   refine K (hT) ?_
   have hz:=hc
   refine Kz (hF) ?_
   (first|refine cI hP (hC) rfl rfl ?_|refine cH hP (hC) rfl rfl ?_)
   refine N ?_
   all_goals first|exact trivial|rfl|exact ⟨rfl,rfl⟩
  | ok X=>
   have e0:j9 t s=if X.kind=2 then (if X.ents=[] then (iF (aH t (cL (exI (dH t s)) (aM s))) X.ino,0) else (t,6)) else (t,3):=by rw [j9,lF ⟨hB,hsb⟩,hX]
   rw [hX] at hF
   rw [e0]
   simp only [exI,exC] at hF
   have zX:=sZ h' (aQ hX).2
   by_cases g1:X.kind=2
   ·have g1':decide (X.kind=2)=true:=lG g1
    rw [lF g1]
    by_cases g2:X.ents=[]
    ·have g2':decide ((0:Int)<(X.ents.length:Nat))=false:=lB (by rw [g2]; simp)
     obtain ⟨D,d1⟩:=ahi hB hsb hX
     rw [lF g2,d1]
     simp only [exI]
     have zD:=(aQ (eO d1).1).2
     have zt:(aH t (cL D (aM s))).sz<2^40:=by
      have:=kC t (cL D (aM s))
      have:=rE D (aM s)
      have:=(cO h).2 D (aO zD).1
      omega
     have hL:=yE t s h' hs (fF hB) d1
     have hD:=uV (aH t (cL D (aM s))) X.ino zt
     refine U fH [] 1847 [] fun w hP hQ=>?_
     unfold eG
     refine N ?_
     refine K (hPa) ?_
     refine K (hT) ?_
     have hz:=And.intro g1' g2'
     refine Kz (hF) ?_
     refine K (hL) ?_
     (first|refine cI hP (hD) rfl rfl ?_|refine cH hP (hD) rfl rfl ?_)
     refine N ?_
     all_goals first|exact trivial|rfl|exact ⟨rfl,rfl⟩
    ·have g2':decide ((0:Int)<(X.ents.length:Nat))=true:=lG (by have:=lM3.2 g2; omega)
     rw [lI g2]
     refine U fH [] 1847 [] fun w hP hQ=>?_
     unfold eG
     refine N ?_
     refine K (hPa) ?_
     refine K (hT) ?_
     have hz:=And.intro g1' g2'
     refine Kz (hF) ?_
     (first|refine cI hP (hC) rfl rfl ?_|refine cH hP (hC) rfl rfl ?_)
     refine N ?_
     all_goals first|exact trivial|rfl|exact ⟨rfl,rfl⟩
   ·have g1':decide (X.kind=2)=false:=lB g1
    rw [lI g1]
    refine U fH [] 1847 [] fun w hP hQ=>?_
    unfold eG
    refine N ?_
    refine K (hPa) ?_
    refine K (hT) ?_
    have hz:=g1'
    refine Kz (hF) ?_
    (first|refine cI hP (hC) rfl rfl ?_|refine cH hP (hC) rfl rfl ?_)
    refine N ?_
    all_goals first|exact trivial|rfl|exact ⟨rfl,rfl⟩
 ·have e:j9 t s=(t,1):=by rw [j9,lI hc]
  rw [e]
  cases hB:aZ t with
  | false=>
   rw [hB] at hT
   refine U fH [] 1847 [] fun w hP hQ=>?_
   unfold eG
   refine N ?_
   refine K (hPa) ?_
   refine K (hT) ?_
   (first|refine cI hP (hC) rfl rfl ?_|refine cH hP (hC) rfl rfl ?_)
   refine N ?_
   all_goals first|exact trivial|rfl|exact ⟨rfl,rfl⟩
  | true=>
   have hsb:iV s=false:=by cases e:iV s <;> simp_all
   rw [hB] at hT
   rw [hsb] at hPa
   refine U fH [] 1847 [] fun w hP hQ=>?_
   unfold eG
   refine N ?_
   refine K (hPa) ?_
   refine K (hT) ?_
   (first|refine cI hP (hC) rfl rfl ?_|refine cH hP (hC) rfl rfl ?_)
   refine N ?_
   all_goals first|exact trivial|rfl|exact ⟨rfl,rfl⟩
theorem alt (X:Inode):(eI X).sz=X.sz:=rfl
theorem an1 {t:Tab} {s:aA} {f:Int} {c:Int} (h:tE t s f=.error c):c≠0:=by
 intro e
 subst e
 unfold tE at h
 split at h
 ·split at h
  ·split at h <;> cases h
  ·cases h
 ·rename_i e2
  cases h
  unfold dH at e2
  split at e2
  ·split at e2 <;> cases e2
  ·rename_i e3; cases e2; exact iJ e3 rfl
theorem apu {t:Tab} {p q:aA} {X D:Inode} (hB:aZ t=true) (hX:gD t p=.ok X) (hD:tE t q 0=.ok D):∃ kX kD,bS t X.ino=some kX∧bS (aH t (eI X)) D.ino=some kD∧UpI (aH t (eI X)).inodes∧i9 t D (aM q) X=aH (aH t (eI X)) (cS D (aM q) X.ino)∧UpK Ent.name D.ents∧D.ents.length≤10∧X.sz+0≤X.sz∧0≤X.links∧X.links≤1000:=by
 have ht:=(aS t).1 hB
 obtain ⟨f1,f2⟩:=cK hX
 have a1:=(aQ f1).2
 have hm:=nU (gP hD).1
 have a2:=gN ht hm
 have k2:=(eO (gP hD).1).2
 have hne:D.ino≠X.ino:=by
  intro e
  rw [e,a1] at a2
  cases a2
  omega
 obtain ⟨kX,hkX⟩:=m8 a1
 have hu:=fF hB
 have a3:aD (aH t (eI X)) D.ino=some D:=by
  rw [bY hu,lI (show ¬ (eI X).ino=D.ino from fun e=>hne e.symm)]
  exact a2
 obtain ⟨kD,hkD⟩:=m8 a3
 have ok:=bQ ht hm
 have l2:=(ht.tab.ok X (aQ f1).1).1.links
 exact ⟨kX,kD,hkX,hkD,fR hu _,set_comm hu (show (cS D (aM q) X.ino).ino≠(eI X).ino from hne),ok.up,ok.len,by omega,by omega,by omega⟩
theorem rF (t:Tab) (p q:aA) (h:t.sz<2^28) (hp:p.length<2^40) (hq:q.length<2^40):aY Tryz.prog 39 [t.x,.str p,.str q] (.tup [(bK t p q).1.o,.int .i64 (bK t p q).2]) [.undef,.undef,.undef]:=by
 have h':t.sz<2^40:=by omega
 have hC:=fS t h'
 have hT:=gQ t h'
 have hSp:=dU p hp
 have hPa:=f5 q hq
 rw [show (aB p).2=dI p from rfl] at hSp
 rw [show (aK q).2.2=iV q from rfl] at hPa
 by_cases hc:aZ t=true∧dI p=true∧iV q=true
 ·obtain ⟨hB,hpb,hqb⟩:=hc
  rw [hB] at hT
  rw [hpb] at hSp
  rw [hqb] at hPa
  have hF:=s5 t p h' hp
  cases hX:gD t p with
  | error c=>
   have hc:decide (c=0)=false:=lB (kQ hX)
   have e:bK t p q=(t,c):=by rw [bK,lF ⟨hB,hpb,hqb⟩,hX]
   rw [hX] at hF
   rw [e]
   simp only [exI,exC] at hF
   refine U gB [] 258767 [] fun w hP hQ=>?_
   unfold eV
   refine N ?_
   refine K (hSp) ?_
   refine K (hPa) ?_
   refine K (hT) ?_
   have hz:=hc
   refine Kz (hF) ?_
   (first|refine cI hP (hC) rfl rfl ?_|refine cH hP (hC) rfl rfl ?_)
   refine N ?_
   all_goals first|exact trivial|rfl|exact ⟨rfl,rfl⟩
  | ok X=>
   have hN:=yG t q 0 h' hq
   unfold apr at hN
   rw [hqb,lF rfl] at hN
   rw [hX] at hF
   simp only [exI,exC] at hF
   cases hD:tE t q 0 with
   | error c=>
    have hc:decide (c=0)=false:=lB (an1 hD)
    have e:bK t p q=(t,c):=by rw [bK,lF ⟨hB,hpb,hqb⟩,hX]; simp only [hD]
    rw [hD] at hN
    rw [e]
    simp only [exI,exC,exN] at hN
    refine U gB [] 258767 [] fun w hP hQ=>?_
    unfold eV
    refine N ?_
    refine K (hSp) ?_
    refine K (hPa) ?_
    refine K (hT) ?_
    refine K (hF) ?_
    have hz:=hc
    refine Kz (hN) ?_
    (first|refine cI hP (hC) rfl rfl ?_|refine cH hP (hC) rfl rfl ?_)
    refine N ?_
    all_goals first|exact trivial|rfl|exact ⟨rfl,rfl⟩
   | ok D=>
    obtain ⟨kX,kD,k1,k2,k3,k4,k5,k6,k7,k8,k9⟩:=apu hB hX hD
    have e:bK t p q=(i9 t D (aM q) X,0):=by rw [bK,lF ⟨hB,hpb,hqb⟩,hX]; simp only [hD]
    rw [hD] at hN
    rw [e,k4]
    simp only [exI,exC,exN] at hN
    have zX:=(cO h).2 X (aQ (cK hX).1).1
    have zD:=(cO h).2 D (nU (gP hD).1)
    have z1:=yH D (aM q) X.ino
    have z2:=(fK q).2
    have z3:=kC t (eI X)
    have z4:=alt X
    have hP1:=abM D.ents ⟨aM q,X.ino⟩ k5 (by omega)
    have hS1:=bP t (eI X) h' (by omega) (fF hB) k1
    have hS2:=bP (aH t (eI X)) (cS D (aM q) X.ino) (by omega) (by omega) k3 k2
    refine U gB [] 258767 [] fun w hP hQ=>?_
    unfold eV
    refine N ?_
    refine K (hSp) ?_
    refine K (hPa) ?_
    refine K (hT) ?_
    refine K (hF) ?_
    refine K (hN) ?_
    refine K (hP1) ?_
    refine K (hS1) ?_
    (first|refine cI hP (hS2) rfl rfl ?_|refine cH hP (hS2) rfl rfl ?_)
    refine N ?_
    all_goals first|exact trivial|rfl|exact ⟨rfl,rfl⟩
 ·have e:bK t p q=(t,1):=by rw [bK,lI hc]
  rw [e]
  cases hB:aZ t with
  | false=>
   rw [hB] at hT
   refine U gB [] 258767 [] fun w hP hQ=>?_
   unfold eV
   refine N ?_
   refine K (hSp) ?_
   refine K (hPa) ?_
   refine K (hT) ?_
   (first|refine cI hP (hC) rfl rfl ?_|refine cH hP (hC) rfl rfl ?_)
   refine N ?_
   all_goals first|exact trivial|rfl|exact ⟨rfl,rfl⟩
  | true=>
   rw [hB] at hT
   cases hpb:dI p with
   | false=>
    rw [hpb] at hSp
    refine U gB [] 258767 [] fun w hP hQ=>?_
    unfold eV
    refine N ?_
    refine K (hSp) ?_
    refine K (hPa) ?_
    refine K (hT) ?_
    (first|refine cI hP (hC) rfl rfl ?_|refine cH hP (hC) rfl rfl ?_)
    refine N ?_
    all_goals first|exact trivial|rfl|exact ⟨rfl,rfl⟩
   | true=>
    have hqb:iV q=false:=by cases e:iV q <;> simp_all
    rw [hpb] at hSp
    rw [hqb] at hPa
    refine U gB [] 258767 [] fun w hP hQ=>?_
    unfold eV
    refine N ?_
    refine K (hSp) ?_
    refine K (hPa) ?_
    refine K (hT) ?_
    (first|refine cI hP (hC) rfl rfl ?_|refine cH hP (hC) rfl rfl ?_)
    refine N ?_
    all_goals first|exact trivial|rfl|exact ⟨rfl,rfl⟩
theorem an2 {t:Tab} {x:Inode} (h:x ∈ t.inodes):x.sz≤t.sz:=by
 have:=(cO (t:=t) (n:=t.sz+1) (by omega)).2 x h
 omega
theorem ano {t:Tab} {s:aA} {c:Int} (hB:aZ t=true) (h:cG t s=.error c):(p4 t s).2=c:=by
 have ht:=(aS t).1 hB
 unfold cG at h
 split at h
 ·rename_i e
  have hw:=(agS (ac8 e) (i:=(p4 t s).1)).1 (by rw [← e])
  obtain ⟨x,hx,_⟩:=aap ht hw
  rw [hx] at h
  cases h
 ·cases h; rfl
theorem anp {t:Tab} (h:TreeOk t) {D1:Inode} {d1:List aA} (s1:Spot t D1 d1) {n:aA} {l:List aA} (hp:¬ (d1++[n]) <+: l):aT (aD (aH t (cL D1 n))) l 1=aT (aD t) l 1:=by
 have hD1:=gN h s1.mem
 have map1:∀ i,aD (aH t (cL D1 n)) i=if D1.ino=i then some (cL D1 n) else aD t i:=fun i=>bY h.tab.up _ i
 rw [c5,c5]
 refine f0 (fun i m him=>?_) (iG h s1) hp
 by_cases h2:i=D1.ino
 ·have hm:=him.resolve_left (by simp [h2])
  rw [a8 (x:=cL D1 n) (by rw [map1,lF h2.symm]) m,a8 (M:=aD t) (x:=D1) (by rw [h2]; exact hD1) m]
  have:bD (cL D1 n) m=bD D1 m:=by unfold cL; rw [o7,if_neg hm]
  rw [this]; rfl
 ·exact nS (by rw [map1,lI (Ne.symm h2)]) m
theorem apv {t:Tab} {p q:aA} {X D2:Inode} (hB:aZ t=true) (hp:iV p=true) (hq:iV q=true) (h1:cG t p=.ok X) (hb:abw p q=false) (h2:tE t q (exI (dH t p)).ino=.ok D2) :
  ∃ D1 k,dH t p=.ok D1∧p4 t (aK p).1=(D1.ino,0)∧cG (aH t (cL D1 (aM p))) (aK q).1=.ok (gE D1 D2 (aM p))∧bS (aH t (cL D1 (aM p))) (gE D1 D2 (aM p)).ino=some k ∧
   UpI (aH t (cL D1 (aM p))).inodes∧UpK Ent.name (gE D1 D2 (aM p)).ents∧(gE D1 D2 (aM p)).ents.length≤10∧(gE D1 D2 (aM p)).sz≤t.sz∧D1.sz≤t.sz:=by
 have ht:=(aS t).1 hB
 obtain ⟨D1,e,d1,s1,he,e1,e2,s2,hn,hf,hl,hb'⟩:=akZ ht hp hq h1 hb h2
 have hD1:=gN ht s1.mem
 have hD2:=gN ht s2.mem
 have okD1:=bQ ht s1.mem
 have okD2:=bQ ht s2.mem
 have npd2:¬ ((aB (aK p).1).1++[aM p]) <+: (aB (aK q).1).1:=fun hp=>hb' (by rw [e1]; exact hp.trans (List.prefix_append _ _))
 have w:=anp ht s1 npd2
 rw [s2.at'] at w
 have at2:aD (aH t (cL D1 (aM p))) D2.ino=some (gE D1 D2 (aM p)):=by
  rw [bY ht.tab.up]
  show (if D1.ino=D2.ino then _ else _)=_
  unfold gE
  split
  ·rfl
  ·exact hD2
 have mi:(gE D1 D2 (aM p)).ino=D2.ino:=by unfold gE; split; (rename_i hc; exact hc); rfl
 obtain ⟨k,hk⟩:=m8 at2
 have hs2:(aB (aK q).1).2=true:=(pD (eO (gP h2).1).1).1
 have z1:=an2 s1.mem
 have z2:=an2 s2.mem
 refine ⟨D1,k,d1,(rB (eO d1).1).1,?_,by rw [mi]; exact hk,fR ht.tab.up _,?_,?_,?_,z1⟩
 ·rw [yA hs2 w,at2]
 ·unfold gE; split
  ·exact t6 okD1.up _
  ·exact okD2.up
 ·unfold gE; split
  ·have:(cV D1.ents (aM p)).length≤D1.ents.length:=lS2 _ _
   have:=okD1.len
   show (cV D1.ents (aM p)).length≤10
   omega
  ·exact okD2.len
 ·unfold gE; split
  ·exact lB4 (rE D1 _) z1
  ·exact z2
theorem adE (t:Tab) (p q:aA) (h:t.sz<2^28) (hp:p.length<2^40) (hq:q.length<2^40):aY Tryz.prog 42 [t.x,.str p,.str q] (.tup [(pA t p q).1.o,.int .i64 (pA t p q).2]) [.undef,.undef,.undef]:=by
 have h':t.sz<2^40:=by omega
 have hC:=fS t h'
 have hT:=gQ t h'
 have hPp:=f5 p hp
 have hPa:=f5 q hq
 rw [show (aK p).2.2=iV p from rfl,show (aK p).2.1=aM p from rfl] at hPp
 rw [show (aK q).2.2=iV q from rfl,show (aK q).2.1=aM q from rfl] at hPa
 by_cases hc:aZ t=true∧iV p=true∧iV q=true
 ·obtain ⟨hB,hpb,hqb⟩:=hc
  rw [hB] at hT
  rw [hpb] at hPp
  rw [hqb] at hPa
  have hW:=afD t p h' hp
  cases hX:cG t p with
  | error c=>
   have hc:decide (c=0)=false:=lB (iJ hX)
   have e:pA t p q=(t,c):=by rw [pA,lF ⟨hB,hpb,hqb⟩,hX]
   rw [ano hB hX] at hW
   rw [e]
   refine U g9 [] 41543119 [] fun w hP hQ=>?_
   unfold f7
   refine N ?_
   refine K (hPp) ?_
   refine K (hPa) ?_
   refine K (hT) ?_
   have hz:=hc
   refine Kz (hW) ?_
   (first|refine cI hP (hC) rfl rfl ?_|refine cH hP (hC) rfl rfl ?_)
   refine N ?_
   all_goals first|exact trivial|rfl|exact ⟨rfl,rfl⟩
  | ok X=>
   have e0:pA t p q=if abw p q=true then (t,6) else (match tE t q (exI (dH t p)).ino with
    | .ok D=>(mT t (exI (dH t p)) D (aM p) (aM q) X.ino,0)
    | .error c=>(t,c)):=by rw [pA,lF ⟨hB,hpb,hqb⟩,hX]; rfl
   have hL:=am3 p q hp hq
   rw [(rB hX).1] at hW
   simp only at hW
   rw [e0]
   cases hb:abw p q with
   | true=>
    rw [hb] at hL
    rw [lF rfl]
    refine U g9 [] 41543119 [] fun w hP hQ=>?_
    unfold f7
    refine N ?_
    refine K (hPp) ?_
    refine K (hPa) ?_
    refine K (hT) ?_
    refine K (hW) ?_
    refine K (hL) ?_
    (first|refine cI hP (hC) rfl rfl ?_|refine cH hP (hC) rfl rfl ?_)
    refine N ?_
    all_goals first|exact trivial|rfl|exact ⟨rfl,rfl⟩
   | false=>
    rw [hb] at hL
    rw [lI (by simp)]
    obtain ⟨D1,d1⟩:=ahi hB hpb hX
    have hV:=afD t (aK p).1 h' (by have:=(fK p).1; omega)
    rw [(rB (eO d1).1).1] at hV
    simp only at hV
    have hN:=yG t q D1.ino h' hq
    unfold apr at hN
    rw [hqb,lF rfl] at hN
    have e1:(exI (dH t p)).ino=D1.ino:=by rw [d1]; rfl
    rw [e1]
    cases hD:tE t q D1.ino with
    | error c=>
     have hc:decide (c=0)=false:=lB (an1 hD)
     rw [hD] at hN
     simp only [exI,exC,exN] at hN ⊢
     refine U g9 [] 41543119 [] fun w hP hQ=>?_
     unfold f7
     refine N ?_
     refine K (hPp) ?_
     refine K (hPa) ?_
     refine K (hT) ?_
     refine K (hW) ?_
     refine K (hL) ?_
     refine K (hV) ?_
     have hz:=hc
     refine Kz (hN) ?_
     (first|refine cI hP (hC) rfl rfl ?_|refine cH hP (hC) rfl rfl ?_)
     refine N ?_
     all_goals first|exact trivial|rfl|exact ⟨rfl,rfl⟩
    | ok D2=>
     obtain ⟨D1',k,k1,k2,k3,k4,k5,k6,k7,k8,k9⟩:=apv hB hpb hqb hX hb (by rw [e1]; exact hD)
     rw [d1] at k1
     cases k1
     rw [hD] at hN
     simp only [exI,exC,exN,d1] at hN ⊢
     rw [mT]
     have z1:=rE D1 (aM p)
     have z2:=kC t (cL D1 (aM p))
     have z3:=yH (gE D1 D2 (aM p)) (aM q) X.ino
     have z4:=(fK q).2
     have z5:=(fK q).1
     have hL1:=yE t p h' hp (fF hB) d1
     have hS:=uH (aH t (cL D1 (aM p))) (aK q).1 (by omega) (by omega)
     rw [k3] at hS
     simp only [exI,exC] at hS
     have hP1:=abM (gE D1 D2 (aM p)).ents ⟨aM q,X.ino⟩ k6 (by omega)
     have hS2:=bP (aH t (cL D1 (aM p))) (cS (gE D1 D2 (aM p)) (aM q) X.ino) (by omega) (by omega) k5 k4
     refine U g9 [] 41543119 [] fun w hP hQ=>?_
     unfold f7
     refine N ?_
     refine K (hPp) ?_
     refine K (hPa) ?_
     refine K (hT) ?_
     refine K (hW) ?_
     refine K (hL) ?_
     refine K (hV) ?_
     refine K (hN) ?_
     refine K (hL1) ?_
     refine K (hPa) ?_
     refine K (hS) ?_
     refine K (hP1) ?_
     (first|refine cI hP (hS2) rfl rfl ?_|refine cH hP (hS2) rfl rfl ?_)
     refine N ?_
     all_goals first|exact trivial|rfl|exact ⟨rfl,rfl⟩
 ·have e:pA t p q=(t,1):=by rw [pA,lI hc]
  rw [e]
  cases hB:aZ t with
  | false=>
   rw [hB] at hT
   refine U g9 [] 41543119 [] fun w hP hQ=>?_
   unfold f7
   refine N ?_
   refine K (hPp) ?_
   refine K (hPa) ?_
   refine K (hT) ?_
   (first|refine cI hP (hC) rfl rfl ?_|refine cH hP (hC) rfl rfl ?_)
   refine N ?_
   all_goals first|exact trivial|rfl|exact ⟨rfl,rfl⟩
  | true=>
   rw [hB] at hT
   cases hpb:iV p with
   | false=>
    rw [hpb] at hPp
    refine U g9 [] 41543119 [] fun w hP hQ=>?_
    unfold f7
    refine N ?_
    refine K (hPp) ?_
    refine K (hPa) ?_
    refine K (hT) ?_
    (first|refine cI hP (hC) rfl rfl ?_|refine cH hP (hC) rfl rfl ?_)
    refine N ?_
    all_goals first|exact trivial|rfl|exact ⟨rfl,rfl⟩
   | true=>
    have hqb:iV q=false:=by cases e:iV q <;> simp_all
    rw [hpb] at hPp
    rw [hqb] at hPa
    refine U g9 [] 41543119 [] fun w hP hQ=>?_
    unfold f7
    refine N ?_
    refine K (hPp) ?_
    refine K (hPa) ?_
    refine K (hT) ?_
    (first|refine cI hP (hC) rfl rfl ?_|refine cH hP (hC) rfl rfl ?_)
    refine N ?_
    all_goals first|exact trivial|rfl|exact ⟨rfl,rfl⟩
theorem alu (x a b:Int):aY Tryz.prog 158 [.int .i64 x,.int .i64 a,.int .i64 b] (.bool (inR x a b)) [.undef,.undef,.undef]:=by
 refine U agG [] 71 [] fun w hP hQ=>?_
 unfold abk
 refine N ?_
 (first | with_reducible refine tO _ ?_ ?_ | refine tP _ ?_ ?_) <;> intro h1
 ·have hz:=h1
  refine Nz ?_
  simp [inR,h1]
 ·have hz:=h1
  refine Nz ?_
  simp [inR,h1]
theorem aaO (b:aA) (n:Nat):List.take n (aI b)=aI (b.take n):=by simp [aI,lG4]
theorem adF (b:aA) (i:Nat):aI (b++List.replicate i 0)++[[TV.int .u8 0]]=aI (b++List.replicate (i+1) 0):=by
 rw [List.replicate_succ',← lJ2]
 simp [aI]
theorem an3 {b:aA} {n i:Nat} (h1:i≤n-b.length) (h2:n≤b.length+i):b++List.replicate i 0=qF b n:=by
 rw [qF,show n-b.length=i by omega]
theorem apw {n:Int} {a b:Int} (h:inR n a b=true):a≤n∧n≤b:=by simpa [inR] using h
theorem yI (t:Tab) (s:aA) (n:Int) (h:t.sz<2^30) (hs:s.length<2^40):aY Tryz.prog 174 [t.x,.str s,.int .i64 n] (.tup [(xZ t s n).1.o,.int .i64 (xZ t s n).2]) [.undef,.undef,.undef]:=by
 have h':t.sz<2^40:=by omega
 have hC:=fS t h'
 have hT:=gQ t h'
 have hSp:=dU s hs
 have hI:=alu n 0 100
 rw [show (aB s).2=dI s from rfl] at hSp
 by_cases hc:aZ t=true∧dI s=true∧inR n 0 100=true
 ·obtain ⟨hB,hpb,hi⟩:=hc
  rw [hB] at hT
  rw [hpb] at hSp
  rw [hi] at hI
  obtain ⟨n1,n2⟩:=apw hi
  have hF:=s5 t s h' hs
  cases hX:gD t s with
  | error c=>
   have hc:decide (c=0)=false:=lB (kQ hX)
   have e:xZ t s n=(t,c):=by rw [xZ,lF ⟨hB,hpb,hi⟩,hX]
   rw [hX] at hF
   rw [e]
   simp only [exI,exC] at hF
   refine U iS [] 3791 [] fun w hP hQ=>?_
   unfold gA
   refine N ?_
   refine K (hSp) ?_
   refine K (hT) ?_
   refine K (hI) ?_
   have hz:=hc
   refine Kz (hF) ?_
   (first|refine cI hP (hC) rfl rfl ?_|refine cH hP (hC) rfl rfl ?_)
   refine N ?_
   all_goals first|exact trivial|rfl|exact ⟨rfl,rfl⟩
  | ok X=>
   have e:xZ t s n=(aH t (oG X ((qF X.data n.toNat).take n.toNat)),0):=by rw [xZ,lF ⟨hB,hpb,hi⟩,hX]
   obtain ⟨kX,hkX⟩:=m8 (aQ (cK hX).1).2
   have zX:=(cO h).2 X (aQ (cK hX).1).1
   have zd:X.data.length<2^30:=by rw [Inode.sz] at zX; omega
   have zD:(oG X ((qF X.data n.toNat).take n.toNat)).sz<2^40:=by
    show ((qF X.data n.toNat).take n.toNat).length+szM Ent.sz X.ents+szM Attr.sz X.attrs<_
    rw [Inode.sz] at zX
    rw [lN]
    omega
   have hS:=bP t (oG X ((qF X.data n.toNat).take n.toNat)) h' zD (fF hB) hkX
   rw [hX] at hF
   rw [e]
   simp only [exI,exC] at hF
   refine U iS [] 3791 [] fun w hP hQ=>?_
   unfold gA
   refine N ?_
   refine K (hSp) ?_
   refine K (hT) ?_
   refine K (hI) ?_
   refine K (hF) ?_
   refine eU [] ?_
   refine N ?_
   refine aR [] (fun i:Nat=>[(5010,.box [.int .i64 X.ino,.int .i64 X.kind,.int .i64 X.links,.own 1 (aI (X.data++List.replicate i 0)),.own 2 (X.ents.map Ent.row),.own 2 (X.attrs.map Attr.row)])]) (fun i=>i≤n.toNat-X.data.length) (fun i=>n.toNat-X.data.length-i) (0) hP hQ (by simp; rfl) (by simp) ?_
   rintro i hi2 w1 hP1 hQ1
   refine N1 ?_
   have hb:X.data.length+i+1≤140737488355328:=by omega
   (first | with_reducible refine cP _ ?_ ?_ | refine cQ _ ?_ ?_) <;> intro g
   ·rw [lU,lP2] at g
    simp +decide (maxSteps:=9^9) (disch:=omega) only[↓SB0,SX,seval,hQ,hQ1,hb,jW,lU,lP2]
    exact ⟨i+1,by rw [adF],by omega,by omega⟩
   ·rw [lU,lP2] at g
    have hle:n≤((X.data.length+i:Nat):Int):=by omega
    rw [an3 (i:=i) hi2 (by omega)]
    have hpl:n≤((qF X.data n.toNat).length:Nat):=by rw [qF]; simp; omega
    have hz:=And.intro hpl (And.intro n1 (And.intro jW (And.intro aaO Int.sub_zero)))
    refine Nz1 ?_
    (first|refine cI hP (hS) rfl rfl ?_|refine cH hP (hS) rfl rfl ?_)
    refine N ?_
    all_goals first|exact trivial|rfl|exact ⟨rfl,rfl⟩
 ·have e:xZ t s n=(t,1):=by rw [xZ,lI hc]
  rw [e]
  cases hB:aZ t with
  | false=>
   rw [hB] at hT
   refine U iS [] 3791 [] fun w hP hQ=>?_
   unfold gA
   refine N ?_
   refine K (hSp) ?_
   refine K (hT) ?_
   (first|refine cI hP (hC) rfl rfl ?_|refine cH hP (hC) rfl rfl ?_)
   refine N ?_
   all_goals first|exact trivial|rfl|exact ⟨rfl,rfl⟩
  | true=>
   rw [hB] at hT
   cases hpb:dI s with
   | false=>
    rw [hpb] at hSp
    refine U iS [] 3791 [] fun w hP hQ=>?_
    unfold gA
    refine N ?_
    refine K (hSp) ?_
    refine K (hT) ?_
    (first|refine cI hP (hC) rfl rfl ?_|refine cH hP (hC) rfl rfl ?_)
    refine N ?_
    all_goals first|exact trivial|rfl|exact ⟨rfl,rfl⟩
   | true=>
    have hi:inR n 0 100=false:=by cases e:inR n 0 100 <;> simp_all
    rw [hpb] at hSp
    rw [hi] at hI
    refine U iS [] 3791 [] fun w hP hQ=>?_
    unfold gA
    refine N ?_
    refine K (hSp) ?_
    refine K (hT) ?_
    refine K (hI) ?_
    (first|refine cI hP (hC) rfl rfl ?_|refine cH hP (hC) rfl rfl ?_)
    refine N ?_
    all_goals first|exact trivial|rfl|exact ⟨rfl,rfl⟩
theorem apx (l:List Attr) (e:Attr):l.map Attr.row++[[TV.str e.name,TV.str e.val]]=(l.take l.length++e::l.drop l.length).map Attr.row:=by simp [Attr.row]
theorem alv (L:List Attr) (k:Nat) (x:Attr):(L.map Attr.row).modify k (fun r=>TV.str x.name::TV.str x.val::r.drop 2)=(L.set k x).map Attr.row:=rD Attr.row L k x _ fun _ _=>rfl
theorem ahj {l:List Attr} {k:Nat} {h:Attr} (hk:k<l.length):(((l.take (k+1)++h::l.drop (k+1))).map Attr.row)[k]?=some (Attr.row l[k]):=by rw [lS1,adk hk]; rfl
theorem alw (l:List Attr) (e:Attr) (hu:UpK Attr.name l) (hl:l.length<2^30):aY Tryz.prog 224 [.ext 2 (l.map Attr.row),e.x] (.own 2 ((agR l e).map Attr.row)) [.undef,.undef]:=by
 have hb1:l.length*32≤140737488355328:=by omega
 have hb2:(l.length+1)*32≤140737488355328:=by omega
 refine U aik [] 123 [] fun w hP hQ=>?_
 unfold aaj
 refine N ?_
 simp +decide (maxSteps:=9^9) (disch:=omega) only[↓SB0,SX,seval,hQ,afz,hb1,hb2,lU,bC]
 rw [apx]
 refine eU [] ?_
 refine N ?_
 refine aR [] (fun s:Nat × Attr=>[(5,.own 2 ((l.take s.1++s.2::l.drop s.1).map Attr.row)),(6,.int .i64 (s.1:Nat))]) (fun s=>s.1≤l.length∧∀ j,s.1≤j→(h:j<l.length)→e.name<l[j].name) (fun s=>s.1) ((l.length,e)) hP hQ (rfl) (by simp; omega) ?_
 rintro ⟨k,x⟩ ⟨hk,hj⟩ w1 hP1 hQ1
 refine N1 ?_
 simp only at hk hj
 have hlen:=adj (h:=x) hk
 cases k with
 | zero=>
  have hz:=hlen
  refine Nz1 ?_
  rw [agR,sV hu hk hj (.inl rfl)]
  simp [Attr.row]
 | succ k=>
  have hkl:k<l.length:=by omega
  have w4:decide ((0:Int)<((k+1:Nat):Int))=true:=lG (by omega)
  simp +decide (maxSteps:=9^9) (disch:=omega) only[↓SB0,SX,seval,hQ,hQ1,w4,hlen,bC,ahj (h:=x) hkl,Attr.row,abL,ahg]
  (first | with_reducible refine cP _ ?_ ?_ | refine cQ _ ?_ ?_) <;> intro g
  ·simp +decide (maxSteps:=9^9) (disch:=omega) only[↓SB0,SX,seval,hQ,hQ1,hlen,bC,ahj (h:=x) hkl,Attr.row]
   exact ⟨(k,l[k]),by simp only [alv,sW _ _ hk,aaD hkl],⟨by simp only; omega,fun j hj1 hj2=>by
    by_cases e:j=k
    ·subst e; exact g
    ·exact hj j (by simp only at hj1; omega) hj2⟩,by simp only; omega⟩
  ·simp +decide (maxSteps:=9^9) (disch:=omega) only[↓SB0,SX,seval,hQ,hQ1,hlen]
   rw [agR,sV hu hk hj (.inr ⟨by simpa using hkl,by simpa using g⟩),alv,sW _ _ hk]
theorem alx {l:List Attr} {i:Nat} (h:i<l.length) (n:aA):sR (l.take (i+1)) n=sR (l.take i) n++(if l[i].name=n then [] else [l[i]]):=by
 unfold sR abT
 rw [lT h,lQ3]
 congr 1
 by_cases e:l[i].name=n <;> simp [e]
theorem apy (X:Inode) (n:aA):(vD X (sR X.attrs n)).sz≤X.sz:=by
 show X.data.length+szM Ent.sz X.ents+szM Attr.sz (sR X.attrs n)≤X.data.length+szM Ent.sz X.ents+szM Attr.sz X.attrs
 have h1:(sR X.attrs n).length≤X.attrs.length:=lS2 _ _
 have h2:=aaw Attr.sz (fun a:Attr=>decide (a.name≠n)) X.attrs
 have h3:((sR X.attrs n).map Attr.sz).sum≤(X.attrs.map Attr.sz).sum:=h2
 simp only [szM]; omega
theorem apz (l:List Attr) (e:Attr):szM Attr.sz (agR l e)≤szM Attr.sz l+(e.name.length+e.val.length)+1:=by
 have h1:(agR l e).length=l.length+1:=p6 l e
 have h2:((agR l e).map Attr.sz).sum=(l.map Attr.sz).sum+(e.name.length+e.val.length):=by
  unfold agR
  clear h1
  induction l with
  | nil=>simp [tD,Attr.sz]
  | cons f l ih=>
   rw [tD]
   split
   ·simp only [lO,lG2,Attr.sz]; omega
   ·simp only [lO,lG2,ih]; omega
 simp only [szM]; omega
theorem aaP (t:Tab) (s n v:aA) (h:t.sz<2^28) (hs:s.length<2^40) (hn:n.length<2^30) (hv:v.length<2^40):aY Tryz.prog 175 [t.x,.str s,.str n,.str v] (.tup [(pB t s n v).1.o,.int .i64 (pB t s n v).2]) [.undef,.undef,.undef,.undef]:=by
 have h':t.sz<2^40:=by omega
 have hC:=fS t h'
 have hT:=gQ t h'
 have hSp:=dU s hs
 have hI:=dN n (by omega)
 rw [show (aB s).2=dI s from rfl] at hSp
 by_cases hc:aZ t=true∧dI s=true∧bB n=true∧v.length≤16
 ·obtain ⟨hB,hpb,hi,hv2⟩:=hc
  have hv':decide ((16:Int)<(v.length:Nat))=false:=lB (by omega)
  rw [hB] at hT
  rw [hpb] at hSp
  rw [hi] at hI
  have hF:=uH t s h' hs
  cases hX:cG t s with
  | error c=>
   have hc:decide (c=0)=false:=lB (iJ hX)
   have e:pB t s n v=(t,c):=by rw [pB,lF ⟨hB,hpb,hi,hv2⟩,hX]
   rw [hX] at hF
   rw [e]
   simp only [exI,exC] at hF
   refine U iB [] 64287 [] fun w hP hQ=>?_
   unfold fZ
   refine N ?_
   refine K (hSp) ?_
   refine K (hT) ?_
   have hz:=hv'
   refine Kz (hI) ?_
   have hz:=hc
   refine Kz (hF) ?_
   (first|refine cI hP (hC) rfl rfl ?_|refine cH hP (hC) rfl rfl ?_)
   refine N ?_
   all_goals first|exact trivial|rfl|exact ⟨rfl,rfl⟩
  | ok X=>
   have e0:pB t s n v=if v=[] then (aH t (vD X (sR X.attrs n)),0) else if (sR X.attrs n).length<4 then (aH t (vD X (agR (sR X.attrs n) ⟨n,v⟩)),0) else (t,5):=by rw [pB,lF ⟨hB,hpb,hi,hv2⟩,hX]
   have ht:=(aS t).1 hB
   obtain ⟨kX,hkX⟩:=m8 (aQ hX).2
   have zX:=(cO h).2 X (aQ hX).1
   have za:X.attrs.length<2^28:=by rw [Inode.sz,szM,szM] at zX; omega
   have z1:=apy X n
   have zc:(sR X.attrs n).length≤X.attrs.length:=lS2 _ _
   have uX:=(ht.tab.ok X (aQ hX).1).1.attrs.up
   rw [hX] at hF
   rw [e0]
   simp only [exI,exC] at hF
   have z2:(vD X (agR (sR X.attrs n) ⟨n,v⟩)).sz<2^40:=by
    have:=apz (sR X.attrs n) ⟨n,v⟩
    simp only at this
    have e1:(vD X (sR X.attrs n)).sz=X.data.length+szM Ent.sz X.ents+szM Attr.sz (sR X.attrs n):=rfl
    show X.data.length+szM Ent.sz X.ents+szM Attr.sz (agR (sR X.attrs n) ⟨n,v⟩)<_
    omega
   have hS1:=bP t (vD X (sR X.attrs n)) h' (by omega) (fF hB) hkX
   have hS2:=bP t (vD X (agR (sR X.attrs n) ⟨n,v⟩)) h' z2 (fF hB) hkX
   have hA:=alw (sR X.attrs n) ⟨n,v⟩ (t6 uX n) (by omega)
   refine U iB [] 64287 [] fun w hP hQ=>?_
   unfold fZ
   refine N ?_
   refine K (hSp) ?_
   refine K (hT) ?_
   have hz:=hv'
   refine Kz (hI) ?_
   refine K (hF) ?_
   refine eU [] ?_
   refine N ?_
   refine aR [] (fun i:Nat=>[(14,.own 2 ((sR (X.attrs.take i) n).map Attr.row)),(15,.int .i64 i)]) (fun i=>i≤X.attrs.length) (fun i=>X.attrs.length-i) (0) hP hQ (rfl) (by simp) ?_
   rintro i hi2 w1 hP1 hQ1
   refine N1 ?_
   have hc:(sR (X.attrs.take i) n).length≤X.attrs.length:=lB4 (lS2 _ _) (by simp; omega)
   (first | with_reducible refine cP _ ?_ ?_ | refine cQ _ ?_ ?_) <;> intro g
   ·have ht:=alx (l:=X.attrs) (i:=i) (by omega) n
    have hz:=(bF g)
    refine Nz1 ?_
    (first | with_reducible refine cP _ ?_ ?_ | refine cQ _ ?_ ?_) <;> intro e
    ·rw [lF e,lR2] at ht
     refine N1 ?_
     exact ⟨i+1,by rw [ht]; rfl,by omega,by omega⟩
    ·rw [lI e] at ht
     have hb:((sR (X.attrs.take i) n).length+1)*32≤140737488355328:=by omega
     have hz:=And.intro (bF g) hb
     refine Nz1 ?_
     exact ⟨i+1,by rw [ht,lM2]; rfl,by omega,by omega⟩
   ·obtain rfl:i=X.attrs.length:=by omega
    rw [lW1]
    by_cases g1:v=[]
    ·rw [lF g1] at hQ
     subst g1
     refine N1 ?_
     (first|refine cI hP (hS1) rfl rfl ?_|refine cH hP (hS1) rfl rfl ?_)
     refine N ?_
     all_goals first|exact trivial|rfl|exact ⟨rfl,rfl⟩
    ·have g1':decide (v=[])=false:=lB g1
     rw [lI g1] at hQ
     by_cases g2:(sR X.attrs n).length<4
     ·have g2':decide ((4:Int)≤((sR X.attrs n).length:Nat))=false:=lB (by omega)
      rw [lF g2] at hQ
      have hz:=And.intro g1' g2'
      refine Nz1 ?_
      refine K (hA) ?_
      (first|refine cI hP (hS2) rfl rfl ?_|refine cH hP (hS2) rfl rfl ?_)
      refine N ?_
      all_goals first|exact trivial|rfl|exact ⟨rfl,rfl⟩
     ·have g2':decide ((4:Int)≤((sR X.attrs n).length:Nat))=true:=lG (by omega)
      rw [lI g2] at hQ
      have hz:=And.intro g1' g2'
      refine Nz1 ?_
      (first|refine cI hP (hC) rfl rfl ?_|refine cH hP (hC) rfl rfl ?_)
      refine N ?_
      all_goals first|exact trivial|rfl|exact ⟨rfl,rfl⟩
 ·have e:pB t s n v=(t,1):=by rw [pB,lI hc]
  rw [e]
  cases hB:aZ t with
  | false=>
   rw [hB] at hT
   refine U iB [] 64287 [] fun w hP hQ=>?_
   unfold fZ
   refine N ?_
   refine K (hSp) ?_
   refine K (hT) ?_
   (first|refine cI hP (hC) rfl rfl ?_|refine cH hP (hC) rfl rfl ?_)
   refine N ?_
   all_goals first|exact trivial|rfl|exact ⟨rfl,rfl⟩
  | true=>
   rw [hB] at hT
   cases hpb:dI s with
   | false=>
    rw [hpb] at hSp
    refine U iB [] 64287 [] fun w hP hQ=>?_
    unfold fZ
    refine N ?_
    refine K (hSp) ?_
    refine K (hT) ?_
    (first|refine cI hP (hC) rfl rfl ?_|refine cH hP (hC) rfl rfl ?_)
    refine N ?_
    all_goals first|exact trivial|rfl|exact ⟨rfl,rfl⟩
   | true=>
    rw [hpb] at hSp
    cases hi:bB n with
    | false=>
     rw [hi] at hI
     refine U iB [] 64287 [] fun w hP hQ=>?_
     unfold fZ
     refine N ?_
     refine K (hSp) ?_
     refine K (hT) ?_
     refine K (hI) ?_
     (first|refine cI hP (hC) rfl rfl ?_|refine cH hP (hC) rfl rfl ?_)
     refine N ?_
     all_goals first|exact trivial|rfl|exact ⟨rfl,rfl⟩
    | true=>
     have hv':decide ((16:Int)<(v.length:Nat))=true:=lG (by
      by_cases e:v.length≤16
      ·exact absurd ⟨hB,hpb,hi,e⟩ hc
      ·omega)
     rw [hi] at hI
     refine U iB [] 64287 [] fun w hP hQ=>?_
     unfold fZ
     refine N ?_
     refine K (hSp) ?_
     refine K (hT) ?_
     have hz:=hv'
     refine Kz (hI) ?_
     (first|refine cI hP (hC) rfl rfl ?_|refine cH hP (hC) rfl rfl ?_)
     refine N ?_
     all_goals first|exact trivial|rfl|exact ⟨rfl,rfl⟩
theorem aly (P:aA) (y:UInt8) (k:Nat):((aI P).modify k fun x=>TV.int .u8 ((y.toNat:Nat):Int)::List.drop 1 x)=aI (P.set k y):=by
 simp only [aI]
 rw [rD (fun b:UInt8=>[TV.int .u8 (b.toNat:Nat)]) P k y _ fun _ _=>rfl]
def wr (b:aA) (o:Nat) (d:aA) (i:Nat):aA:=b.take o++d.take i++b.drop (o+i)
theorem an4 {b d:aA} {o i:Nat} (h:o+d.length≤b.length) (hi:i≤d.length):(wr b o d i).length=b.length:=by
 unfold wr; simp; omega
theorem apA (b d:aA) (o:Nat):wr b o d 0=b:=by unfold wr; simp
theorem apB {b d:aA} {o i:Nat} (h:o+d.length≤b.length) (hi:i<d.length):(wr b o d i).set (o+i) d[i]=wr b o d (i+1):=by
 have hA:(b.take o++d.take i).length=o+i:=by simp; omega
 unfold wr
 rw [lQ2 (show o+i<b.length by omega),List.set_append_right _ _ (by omega),hA,Nat.sub_self,List.set_cons_zero,lT hi]
 simp only [lJ2,lA2,lM1,lC3]
theorem an5 (b d:aA) (o:Nat):wr (qF b (o+d.length)) o d d.length=vC b o d:=by
 unfold wr vC
 rw [lW1]
 congr 1
 unfold qF
 by_cases h:o+d.length≤b.length
 ·rw [show o+d.length-b.length=0 by omega]; simp
 ·rw [lX2 (by simp; omega),lX2 (by omega)]
theorem afG (b:aA) (n:Nat):(qF b n).length=b.length+(n-b.length):=by rw [qF]; simp
theorem anq (b d:aA) (o:Nat):(vC b o d).length≤b.length+o+d.length:=by
 rw [← an5,an4 (by rw [afG]; omega) (lJ1 _),afG]; omega
theorem jQ (t:Tab) (s:aA) (n:Int) (d:aA) (h:t.sz<2^30) (hs:s.length<2^40) (hd:d.length<2^40):aY Tryz.prog 172 [t.x,.str s,.int .i64 n,.ext 1 (aI d)] (.tup [(cB t s n d).1.o,.int .i64 (cB t s n d).2]) [.undef,.undef,.undef,.undef]:=by
 have h':t.sz<2^40:=by omega
 have hC:=fS t h'
 have hT:=gQ t h'
 have hSp:=dU s hs
 have hI:=alu n 0 100
 rw [show (aB s).2=dI s from rfl] at hSp
 by_cases hc:aZ t=true∧dI s=true∧inR n 0 100=true
 ·obtain ⟨hB,hpb,hi⟩:=hc
  rw [hB] at hT
  rw [hpb] at hSp
  rw [hi] at hI
  obtain ⟨n1,n2⟩:=apw hi
  obtain ⟨k,rfl⟩:=lO4 n1
  have hF:=s5 t s h' hs
  cases hX:gD t s with
  | error c=>
   have hc:decide (c=0)=false:=lB (kQ hX)
   have e:cB t s (k:Nat) d=(t,c):=by rw [cB,lF ⟨hB,hpb,hi⟩,hX]
   rw [hX] at hF
   rw [e]
   simp only [exI,exC] at hF
   refine U iA [] 31519 [] fun w hP hQ=>?_
   unfold fY
   refine N ?_
   refine K (hSp) ?_
   refine K (hT) ?_
   refine K (hI) ?_
   have hz:=hc
   refine Kz (hF) ?_
   (first|refine cI hP (hC) rfl rfl ?_|refine cH hP (hC) rfl rfl ?_)
   refine N ?_
   all_goals first|exact trivial|rfl|exact ⟨rfl,rfl⟩
  | ok X=>
   have e0:cB t s (k:Nat) d=if ((k:Nat):Int)+(d.length:Nat)≤100 then (aH t (oG X (vC X.data k d)),0) else (t,5):=by rw [cB,lF ⟨hB,hpb,hi⟩,hX]; rfl
   rw [hX] at hF
   rw [e0]
   simp only [exI,exC] at hF
   by_cases g0:((k:Nat):Int)+(d.length:Nat)≤100
   ·have g0':decide ((100:Int)-(k:Nat)<(d.length:Nat))=false:=lB (by omega)
    rw [lF g0]
    obtain ⟨kX,hkX⟩:=m8 (aQ (cK hX).1).2
    have zX:=(cO h).2 X (aQ (cK hX).1).1
    have zd:X.data.length<2^30:=by rw [Inode.sz] at zX; omega
    have zp:=anq X.data d k
    have zD:(oG X (vC X.data k d)).sz<2^40:=by
     show (vC X.data k d).length+szM Ent.sz X.ents+szM Attr.sz X.attrs<_
     rw [Inode.sz] at zX
     omega
    have hS:=bP t (oG X (vC X.data k d)) h' zD (fF hB) hkX
    refine U iA [] 31519 [] fun w hP hQ=>?_
    unfold fY
    refine N ?_
    refine K (hSp) ?_
    refine K (hT) ?_
    refine K (hI) ?_
    have hz:=g0'
    refine Kz (hF) ?_
    refine eU [] ?_
    refine N ?_
    refine aR [] (fun i:Nat=>[(5012,.box [.int .i64 X.ino,.int .i64 X.kind,.int .i64 X.links,.own 1 (aI (X.data++List.replicate i 0)),.own 2 (X.ents.map Ent.row),.own 2 (X.attrs.map Attr.row)])]) (fun i=>i≤k+d.length-X.data.length) (fun i=>k+d.length-X.data.length-i) (0) hP hQ (by simp; rfl) (by simp) ?_
    rintro i hi2 w1 hP1 hQ1
    refine N1 ?_
    have hb:X.data.length+i+1≤140737488355328:=by omega
    (first | with_reducible refine cP _ ?_ ?_ | refine cQ _ ?_ ?_) <;> intro g
    ·rw [lU,lP2] at g
     simp +decide (maxSteps:=9^9) (disch:=omega) only[↓SB0,SX,seval,hQ,hQ1,hb,jW,lU,lP2]
     exact ⟨i+1,by rw [adF],by omega,by omega⟩
    ·rw [lU,lP2] at g
     rw [an3 (n:=k+d.length) (i:=i) hi2 (by omega)]
     have hpl:=afG X.data (k+d.length)
     have hpk:k+d.length≤(qF X.data (k+d.length)).length:=by omega
     refine N1 ?_
     refine eU [] ?_
     refine N ?_
     refine aR [] (fun i:Nat=>[(5012,.box [.int .i64 X.ino,.int .i64 X.kind,.int .i64 X.links,.own 1 (aI (wr (qF X.data (k+d.length)) k d i)),.own 2 (X.ents.map Ent.row),.own 2 (X.attrs.map Attr.row)]),(14,.int .i64 i)]) (fun i=>i≤d.length) (fun i=>d.length-i) (0) hP hQ (by rw [apA]; rfl) (by simp) ?_
     rintro i hi3 w1 hP1 hQ1
     refine N1 ?_
     have hwl:=an4 hpk hi3
     (first | with_reducible refine cP _ ?_ ?_ | refine cQ _ ?_ ?_) <;> intro g
     ·have hlt:i<d.length:=by omega
      have hz:((k:Nat)+(i:Nat):Int).toNat=k+i:=by omega
      have hz:=And.intro (bF g) (And.intro jW (And.intro hwl (And.intro wQ (And.intro aly (And.intro hz (apB hpk hlt))))))
      refine Nz1 ?_
      exact ⟨i+1,rfl,by omega,by omega⟩
     ·obtain rfl:i=d.length:=by omega
      rw [an5]
      refine N1 ?_
      (first|refine cI hP (hS) rfl rfl ?_|refine cH hP (hS) rfl rfl ?_)
      refine N ?_
      all_goals first|exact trivial|rfl|exact ⟨rfl,rfl⟩
   ·have g0':decide ((100:Int)-(k:Nat)<(d.length:Nat))=true:=lG (by omega)
    rw [lI g0]
    refine U iA [] 31519 [] fun w hP hQ=>?_
    unfold fY
    refine N ?_
    refine K (hSp) ?_
    refine K (hT) ?_
    refine K (hI) ?_
    have hz:=g0'
    refine Kz (hF) ?_
    (first|refine cI hP (hC) rfl rfl ?_|refine cH hP (hC) rfl rfl ?_)
    refine N ?_
    all_goals first|exact trivial|rfl|exact ⟨rfl,rfl⟩
 ·have e:cB t s n d=(t,1):=by rw [cB,lI hc]
  rw [e]
  cases hB:aZ t with
  | false=>
   rw [hB] at hT
   refine U iA [] 31519 [] fun w hP hQ=>?_
   unfold fY
   refine N ?_
   refine K (hSp) ?_
   refine K (hT) ?_
   (first|refine cI hP (hC) rfl rfl ?_|refine cH hP (hC) rfl rfl ?_)
   refine N ?_
   all_goals first|exact trivial|rfl|exact ⟨rfl,rfl⟩
  | true=>
   rw [hB] at hT
   cases hpb:dI s with
   | false=>
    rw [hpb] at hSp
    refine U iA [] 31519 [] fun w hP hQ=>?_
    unfold fY
    refine N ?_
    refine K (hSp) ?_
    refine K (hT) ?_
    (first|refine cI hP (hC) rfl rfl ?_|refine cH hP (hC) rfl rfl ?_)
    refine N ?_
    all_goals first|exact trivial|rfl|exact ⟨rfl,rfl⟩
   | true=>
    have hi:inR n 0 100=false:=by cases e:inR n 0 100 <;> simp_all
    rw [hpb] at hSp
    rw [hi] at hI
    refine U iA [] 31519 [] fun w hP hQ=>?_
    unfold fY
    refine N ?_
    refine K (hSp) ?_
    refine K (hT) ?_
    refine K (hI) ?_
    (first|refine cI hP (hC) rfl rfl ?_|refine cH hP (hC) rfl rfl ?_)
    refine N ?_
    all_goals first|exact trivial|rfl|exact ⟨rfl,rfl⟩


theorem aiL (b:aA) (n:Nat):List.drop n (aI b)=aI (b.drop n):=by simp [aI,List.map_drop]
theorem afH (t:Tab) (s:aA) (o n:Int) (h:t.sz<2^40) (hs:s.length<2^40):aY Tryz.prog 25 [t.x,.str s,.int .i64 o,.int .i64 n] (.tup [.own 1 (aI (exB (aiB t s o n))),.int .i64 (exC (aiB t s o n))]) [.undef,.undef,.undef,.undef]:=by
 have hF:=afE t s h hs
 unfold aiB
 by_cases h1:o<0
 ·have h1':decide (o<0)=true:=lG h1
  simp only [lF (show o<0∨n<0 from .inl h1),exB,exC]
  refine U iR [] 7967 [] fun w hP hQ=>?_
  unfold f6
  refine N ?_
  have hz:=h1'
  refine Nz ?_
  all_goals first | rfl | exact ⟨rfl,rfl⟩
 have h1':decide (o<0)=false:=lB h1
 by_cases h2:n<0
 ·have h2':decide (n<0)=true:=lG h2
  simp only [lF (show o<0∨n<0 from .inr h2),exB,exC]
  refine U iR [] 7967 [] fun w hP hQ=>?_
  unfold f6
  refine N ?_
  have hz:=And.intro h1' h2'
  refine Nz ?_
  all_goals first | rfl | exact ⟨rfl,rfl⟩
 have h2':decide (n<0)=false:=lB h2
 simp only [lI (show ¬ (o<0∨n<0) by omega)]
 cases hX:cG t s with
 | error c=>
  have hc:decide (c=0)=false:=lB (iJ hX)
  rw [hX] at hF
  simp only [exI,exC,exB] at hF ⊢
  refine U iR [] 7967 [] fun w hP hQ=>?_
  unfold f6
  refine N ?_
  have hz:=And.intro h1' h2'
  refine Nz ?_
  have hz:=hc
  refine Kz (hF) ?_
  all_goals first | rfl | exact ⟨rfl,rfl⟩
 | ok X=>
  rw [hX] at hF
  simp only [exI,exC] at hF
  have zX:=sZ h (aQ hX).2
  have zd:=(cT zX).1
  by_cases g1:X.kind=1
  ·have g1':decide (X.kind=1)=true:=lG g1
   simp only [lF g1,exB,exC]
   obtain ⟨k,rfl⟩:=lO4 (show 0≤o by omega)
   obtain ⟨m,rfl⟩:=lO4 (show 0≤n by omega)
   simp only [Int.toNat_natCast]
   obtain ⟨a,ha,ha2,ha3⟩:∃ a:Nat,(if ((X.data.length:Nat):Int)<(k:Nat) then ((X.data.length:Nat):Int) else (k:Nat))=(a:Nat)∧a≤X.data.length∧X.data.drop a=X.data.drop k:=by
    by_cases g:((X.data.length:Nat):Int)<(k:Nat)
    ·exact ⟨X.data.length,by rw [lF g],lJ1 _,by rw [List.drop_length,lX2 (by omega)]⟩
    ·exact ⟨k,by rw [lI g],by omega,rfl⟩
   have z1:(((X.data.length:Nat):Int)-(a:Nat)).toNat=X.data.length-a:=by omega
   have z2:(X.data.drop a).take (X.data.length-a)=X.data.drop k:=by rw [ha3]; exact lR1 (by rw [← ha3]; simp)
   have z3:(X.data.drop k).length≤X.data.length:=by simp
   have z4:a+(X.data.length-a)≤X.data.length:=by omega
   have z5:(X.data.drop k).length=X.data.length-a:=by rw [← ha3]; simp
   generalize X.data.drop k=Y at *
   have z7:Y.take (X.data.length-a)=Y:=lR1 (by omega)
   obtain ⟨c,hc,hc2,hc3⟩:∃ c:Nat,(if ((Y.length:Nat):Int)<(m:Nat) then ((Y.length:Nat):Int) else (m:Nat))=(c:Nat)∧c≤Y.length∧Y.take c=Y.take m:=by
    by_cases g:((Y.length:Nat):Int)<(m:Nat)
    ·exact ⟨Y.length,by rw [lF g],lJ1 _,by rw [lW1,lR1 (by omega)]⟩
    ·exact ⟨m,by rw [lI g],by omega,rfl⟩
   have z8:a+c≤X.data.length:=by omega
   have z6:((c:Nat):Int)≤((X.data.length-a:Nat):Int):=by omega
   have hK:=ag1 (Y.take m) (by rw [lN]; omega)
   refine U iR [] 7967 [] fun w hP hQ=>?_
   unfold f6
   refine N ?_
   have hz:=And.intro h1' h2'
   refine Nz ?_
   have hz:=And.intro g1' (And.intro ha (And.intro z1 (And.intro z4 (And.intro ha3 (And.intro z7 (And.intro z6 (And.intro z8 (And.intro lI3 (And.intro aiL (And.intro aaO (And.intro jW (And.intro hc (And.intro hc2 (And.intro hc3 (And.intro Int.sub_zero Int.toNat_natCast)))))))))))))))
   refine Kz (hF) ?_
   (first|refine cI hP (hK) rfl rfl ?_|refine cH hP (hK) rfl rfl ?_)
   simp +decide (maxSteps:=9^9) (disch:=omega) only[↓SB0,SX,seval,hQ]
   all_goals first | rfl | exact ⟨rfl,rfl⟩
  ·have g1':decide (X.kind=1)=false:=lB g1
   simp only [lI g1,exB,exC]
   refine U iR [] 7967 [] fun w hP hQ=>?_
   unfold f6
   refine N ?_
   have hz:=And.intro h1' h2'
   refine Nz ?_
   have hz:=g1'
   refine Kz (hF) ?_
   all_goals first | rfl | exact ⟨rfl,rfl⟩
section
variable {t:Tab}
end
theorem an6 {α:Type} [DecidableEq α]:∀ (l m:List α),l.Nodup→(∀ x ∈ l,x ∈ m)→l.length≤m.length
 | [],m,_,_=>lD3 _
 | a::l,m,hn,hs=>by
  obtain ⟨h1,h2⟩:=lC5.1 hn
  have ha:=hs a List.mem_cons_self
  have:=an6 l (m.erase a) h2 fun x hx=>(List.mem_erase_of_ne (fun e:x=a=>h1 (by rw [← e]; exact hx))).2 (hs x (List.mem_cons_of_mem _ hx))
  rw [List.length_erase_of_mem ha] at this
  have:=List.length_pos_of_mem ha
  simp only [lW]
  omega
theorem adG {α β:Type} (f:α→List β) (l:List α) (c:Nat) (h:∀ x ∈ l,(f x).length≤c):(l.flatMap f).length≤l.length*c:=by
 induction l with
 | nil=>simp
 | cons a l ih=>
  rw [List.flatMap_cons,lU,lW,lW3]
  have:=h a List.mem_cons_self
  have:=ih fun x hx=>h x (List.mem_cons_of_mem _ hx)
  omega
def alz (t:Tab):List (Int × aA):=t.inodes.flatMap fun D=>D.ents.map fun e=>(D.ino,e.name)
theorem aiM {t:Tab} (h:TreeOk t):(alz t).length≤300:=by
 have:=adG (fun D:Inode=>D.ents.map fun e=>(D.ino,e.name)) t.inodes 10 fun D hD=>by
  rw [lO1]; exact (bQ h hD).len
 have:=h.tab.len
 unfold alz
 omega
theorem adH {t:Tab} (h:TreeOk t) {x:Inode} (hx:x ∈ t.inodes) (k:Nat):(j5 t k x).length≤300:=by
 let f:List aA→Int × aA:=fun l=>((aT (aD t) l.dropLast x.ino).getD 0,l.getLast?.getD [])
 obtain ⟨p,hp⟩:=iD h hx
 have key:∀ l ∈ j5 t k x,∃ d n y e,l=d++[n]∧aT (aD t) (p++d) 1=some y.ino∧y ∈ t.inodes∧y.kind=2∧e ∈ y.ents∧e.name=n∧f l=(y.ino,n):=by
  intro l hl
  obtain ⟨h1,_,h3⟩:=(p7 h k x hx l).1 hl
  obtain ⟨j,hj⟩:=lD1.1 h3
  rcases lE3 l with rfl | ⟨d,n,rfl⟩
  ·exact absurd rfl h1
  rw [lF3] at *
  obtain ⟨q,y,e,w1,w2,w3,w4,w5,w6,w7,w8⟩:=mR h hj
  refine ⟨d,n,y,e,rfl,?_,w3,w5,w6,w7,?_⟩
  ·rw [cU,hp,w4]; exact w1
  ·show ((aT (aD t) (d++[n]).dropLast x.ino).getD 0,(d++[n]).getLast?.getD [])=_
   rw [List.dropLast_concat,w1,List.getLast?_concat,w4]; rfl
 have hn:((j5 t k x).map f).Nodup:=by
  rw [List.Nodup,List.pairwise_map]
  refine List.Pairwise.imp_of_mem ?_ (ac7 h k x hx)
  intro a b ha hb hne he
  obtain ⟨d,n,y,e,rfl,a2,a3,a4,_,_,a7⟩:=key a ha
  obtain ⟨d',n',y',e',rfl,b2,b3,b4,_,_,b7⟩:=key b hb
  rw [a7,b7] at he
  injection he with e1 e2
  rw [← e1] at b2
  have:=rA h _ _ _ y (gN h a3) (o6 h a3 a4) a2 b2
  exact hne (by rw [List.append_cancel_left this,e2])
 have hs:∀ z ∈ (j5 t k x).map f,z ∈ alz t:=by
  intro z hz
  obtain ⟨l,hl,rfl⟩:=lF2.1 hz
  obtain ⟨d,n,y,e,rfl,_,a3,_,a5,a6,a7⟩:=key l hl
  rw [a7]
  exact lJ3.2 ⟨y,a3,lF2.2 ⟨e,a5,by rw [a6]⟩⟩
 have:=an6 _ _ hn hs
 rw [lO1] at this
 exact lB4 this (aiM h)
theorem afI {α β:Type} {f g:α→List β} {l:List α} (h:∀ x ∈ l,f x=g x):l.flatMap f=l.flatMap g:=by
 rw [List.flatMap_def,List.flatMap_def,List.map_congr_left h]
def pM (t:Tab):Nat→Inode→aA→List aA
 | 0,_,_=>[]
 | k+1,x,s=>x.ents.flatMap fun e=>(s++[47]++e.name)::pM t k ((aD t e.ino).getD zN) (s++[47]++e.name)
theorem yJ {t:Tab} (h:TreeOk t) (k:Nat):∀ (x:Inode),x ∈ t.inodes→∀ s,pM t k x s=(j5 t k x).map fun l=>s++eN l:=by
 induction k with
 | zero=>intro x _ s; rfl
 | succ k ih=>
  intro x hx s
  rw [pM,j5,List.map_flatMap]
  refine afI fun e he=>?_
  obtain ⟨y,hy⟩:=lD1.1 (h.there x hx e he)
  obtain ⟨y1,y2⟩:=aO hy
  rw [hy]
  simp only [lA1,lC,lO,lZ4]
  rw [ih y y1]
  congr 1
  ·simp [eN]
  ·refine List.map_congr_left fun l _=>?_
   simp [eN]
theorem ahk {t:Tab} (h:TreeOk t) {r:Inode} (hr:aD t 1=some r):pM t 30 r []=aar t:=by
 rw [yJ h 30 r (aO hr).1,aar,hr]
 simp
theorem s9 {α β:Type} (f:α→List β) (l:List α) (i:Nat):((l.take i).flatMap f).length≤(l.flatMap f).length:=by
 conv=>rhs; rw [← lJ i l,List.flatMap_append,lU]
 omega
theorem adI {α β:Type} (f:α→List β) {l:List α} {i:Nat} (h:i<l.length):(l.take (i+1)).flatMap f=(l.take i).flatMap f++f l[i]:=by
 rw [lT h,List.flatMap_append]; simp
section
open Go.Proofs Go.Shelf
end


def cur (v:Value) (b:aA) (i:Nat) (h:Int):AV:=.box [.extv v 1 (aI b),.int .i64 i,.int .i64 h]
theorem ahl (a:Int):∃ m:Nat,m<256∧IntKind.i64.wrap ((BitVec.ofInt IntKind.i64.bits a &&& BitVec.ofInt IntKind.i64.bits 255).toNat:Int)=(m:Int):=by
 refine ⟨(BitVec.ofInt IntKind.i64.bits a &&& BitVec.ofInt IntKind.i64.bits 255).toNat,?_,?_⟩
 ·rw [BitVec.toNat_and]
  have:(BitVec.ofInt IntKind.i64.bits 255).toNat=255:=by decide
  rw [this]
  exact lF4 Nat.and_le_right (by decide)
 ·rw [aaA]
  rw [BitVec.toNat_and]
  have:(BitVec.ofInt IntKind.i64.bits 255).toNat=255:=by decide
  rw [this]
  exact lF4 Nat.and_le_right (by decide)
theorem apC (v:Value) (b:aA) (hl:b.length<2^48):∃ h,aY Tryz.prog 56 [.extv v 1 (aI b)] (cur v b 0 h) [.undef]:=by
 have key:∃ ret outs,(∃ h,ret=cur v b 0 h∧outs=[.undef])∧aY Tryz.prog 56 [.extv v 1 (aI b)] ret outs:=by
  refine cE hmx akq [] 29 rfl [] ⟨lD rfl,lD rfl⟩ rfl ?_
  intro w hP hQ
  unfold acz
  refine N ?_
  refine eU [] ?_
  refine N ?_
  refine aR [] (fun s:Nat × Int=>[(4,.int .i64 (s.1:Nat)),(3,.int .i64 s.2)]) (fun s=>s.1≤b.length) (fun s=>b.length-s.1) ((0,351351+b.length)) hP hQ (rfl) (by simp) ?_
  rintro ⟨i,h⟩ hi w1 hP1 hQ1
  refine N1 ?_
  simp only at hi
  (first | with_reducible refine tO _ ?_ ?_ | refine tP _ ?_ ?_) <;> intro h1
  ·have hz:=h1
   refine Nz1 ?_
   (first | with_reducible refine cP _ ?_ ?_ | refine cQ _ ?_ ?_) <;> intro h2
   ·have hz:=(bF h1)
    refine Nz1 ?_
    exact ⟨(i+1,_),rfl,by simp only; omega,by simp only; omega⟩
   ·refine N1 ?_
    exact ⟨_,rfl⟩
  ·have hz:=h1
   refine Nz1 ?_
   exact ⟨_,rfl⟩
 obtain ⟨_,_,⟨h,rfl,rfl⟩,hS⟩:=key
 exact ⟨h,hS⟩
theorem vX (v:Value) (b:aA) (i:Nat) (h:Int) (hl:b.length<2^48) (hi:i≤b.length):∃ (x i':Nat) (h':Int),x<256∧i'≤b.length∧aY Tryz.prog 155 [cur v b i h] (.int .i64 x) [cur v b i' h']:=by
 have key:∃ ret outs,(∃ (x i':Nat) (h':Int),x<256∧i'≤b.length∧ret=.int .i64 x∧outs=[cur v b i' h'])∧aY Tryz.prog 155 [cur v b i h] ret outs:=by
  by_cases h1:(i:Int)<(b.length:Nat)
  ·have d1:decide ((i:Int)<(b.length:Nat))=true:=lG h1
   unfold cur
   refine cE hmx aak [] 13 rfl [true] ⟨lD rfl,lD rfl⟩ rfl ?_
   intro w hP hQ
   unfold tR
   refine N ?_
   have hz:=And.intro d1 (bF h1)
   refine Nz ?_
   exact ⟨_,i+1,_,(ahl _).choose_spec.1,by omega,congrArg (AV.int .i64) (ahl _).choose_spec.2,rfl⟩
  ·have d1:decide ((i:Int)<(b.length:Nat))=false:=lB h1
   unfold cur
   refine cE hmx aak [] 13 rfl [true] ⟨lD rfl,lD rfl⟩ rfl ?_
   intro w hP hQ
   unfold tR
   refine N ?_
   have hz:=d1
   refine Nz ?_
   exact ⟨_,i,_,(ahl _).choose_spec.1,hi,congrArg (AV.int .i64) (ahl _).choose_spec.2,rfl⟩
 obtain ⟨_,_,⟨x,i',h',hx,hi',rfl,rfl⟩,hS⟩:=key
 exact ⟨x,i',h',hx,hi',hS⟩
theorem an7 (a b:Nat):((a:Int)).tmod (b:Int)=((a%b:Nat):Int):=rfl
def nW (x:Nat) (n:Int):Prop:=if 0<n then (x:Int)<n else x=0
theorem cJ (v:Value) (b:aA) (i:Nat) (h:Int) (n:Int) (hl:b.length<2^48) (hi:i≤b.length) (hn:n<2^62):∃ (x i':Nat) (h':Int),nW x n∧i'≤b.length ∧
  aY Tryz.prog 101 [cur v b i h,.int .i64 n] (.int .i64 x) [cur v b i' h',.undef]:=by
 by_cases h0:n≤0
 ·have d0:decide (n≤0)=true:=lG h0
  refine ⟨0,i,h,by rw [nW,lI (by omega)],hi,?_⟩
  unfold cur
  refine U q8 [(155,[.l],[])] 243 [true,false] fun w hP hQ=>?_
  unfold nH
  refine N ?_
  have hz:=d0
  exact Nz trivial
 ·have d0:decide (n≤0)=false:=lB h0
  obtain ⟨m,rfl⟩:∃ m:Nat,n=m:=⟨n.toNat,by omega⟩
  have hm:((m:Nat):Int)≠0:=by omega
  obtain ⟨x,i1,h1,hx,hi1,k1⟩:=vX v b i h hl hi
  by_cases h2:(m:Int)≤256
  ·have d2:decide ((m:Int)≤256)=true:=lG h2
   refine ⟨x%m,i1,h1,?_,hi1,?_⟩
   ·rw [nW,lF (by omega)]
    have:=Nat.mod_lt x (show m>0 by omega)
    omega
   unfold cur at *
   refine U q8 [(155,[.l],[])] 243 [true,false] fun w hP hQ=>?_
   unfold nH
   refine N ?_
   have hz:=And.intro d0 d2
   refine Nz ?_
   (first | refine aF hP (k1) (.inl ⟨rfl,fun _ hx=>hx⟩) ?_ | refine aC hP (k1) (.inl ⟨rfl,fun _ hx=>hx⟩) ?_)
   have hz:=And.intro hm an7
   exact Nz trivial
  ·have d2:decide ((m:Int)≤256)=false:=lB h2
   obtain ⟨y,i2,h2,hy,hi2,k2⟩:=vX v b i1 h1 hl hi1
   obtain ⟨z,i3,h3,hz,hi3,k3⟩:=vX v b i2 h2 hl hi2
   refine ⟨(x*65536+y*256+z)%m,i3,h3,?_,hi3,?_⟩
   ·rw [nW,lF (by omega)]
    have:=Nat.mod_lt (x*65536+y*256+z) (show m>0 by omega)
    omega
   have e:((x:Int)*65536+(y:Int)*256+(z:Int))=((x*65536+y*256+z:Nat):Int):=by omega
   have w1:IntKind.i64.wrap ((x:Int)*65536)=(x:Int)*65536:=by have:=aaA (n:=x*65536) (by omega); simpa using this
   have w2:IntKind.i64.wrap ((y:Int)*256)=(y:Int)*256:=by have:=aaA (n:=y*256) (by omega); simpa using this
   unfold cur at *
   refine U q8 [(155,[.l],[])] 243 [true,false] fun w hP hQ=>?_
   unfold nH
   refine N ?_
   have hz:=And.intro d0 d2
   refine Nz ?_
   (first | refine aF hP (k1) (.inl ⟨rfl,fun _ hx=>hx⟩) ?_ | refine aC hP (k1) (.inl ⟨rfl,fun _ hx=>hx⟩) ?_)
   refine N ?_
   (first | refine aF hP (k2) (.inl ⟨rfl,fun _ hx=>hx⟩) ?_ | refine aC hP (k2) (.inl ⟨rfl,fun _ hx=>hx⟩) ?_)
   refine N ?_
   (first | refine aF hP (k3) (.inl ⟨rfl,fun _ hx=>hx⟩) ?_ | refine aC hP (k3) (.inl ⟨rfl,fun _ hx=>hx⟩) ?_)
   have hz:=And.intro hm (And.intro e (And.intro an7 (And.intro w1 w2)))
   exact Nz trivial
theorem kY (v:Value) (b:aA) (i:Nat) (h:Int) (n:Int) (hl:b.length<2^48) (hi:i≤b.length) (hn:n<2^62):∃ (t:Bool) (i':Nat) (h':Int),i'≤b.length ∧
  aY Tryz.prog 96 [cur v b i h,.int .i64 n] (.bool t) [cur v b i' h',.undef]:=by
 obtain ⟨x,i1,h1,hx,hi1,k1⟩:=cJ v b i h n hl hi hn
 refine ⟨decide ((x:Int)=0),i1,h1,hi1,?_⟩
 unfold cur at *
 refine U ah8 [(101,[.l,.b],[])] 19 [true,false] fun w hP hQ=>?_
 unfold zW
 refine N ?_
 (first | refine aF hP (k1) (.inl ⟨rfl,fun _ hx=>hx⟩) ?_ | refine aC hP (k1) (.inl ⟨rfl,fun _ hx=>hx⟩) ?_)
 exact N trivial
theorem anr (l:List Int):(l.map eQ).length=l.length:=lO1 _
theorem ans (l:List Int) (k:Nat):(l.map eQ)[k]?=(l[k]?).map fun v=>[TV.int .i64 v]:=by rw [lS1]; rfl
theorem l8 (v:Value) (b:aA) (i:Nat) (h:Int) (l:List Int) (hl:b.length<2^48) (hi:i≤b.length) (h0:l≠[]) (hn:l.length<2^40):∃ (r:Int) (i':Nat) (h':Int),r ∈ l∧i'≤b.length ∧
  aY Tryz.prog 153 [cur v b i h,.ext 1 (l.map eQ)] (.int .i64 r) [cur v b i' h',.undef]:=by
 obtain ⟨x,i1,h1,hx,hi1,k1⟩:=cJ v b i h l.length hl hi (by omega)
 have hp:0<l.length:=lM3.2 h0
 have hx':(x:Int)<(l.length:Nat):=by rw [nW,lF (by omega)] at hx; exact hx
 refine ⟨l[x]'(by omega),i1,h1,lP _,hi1,?_⟩
 unfold cur at *
 refine U akB [(101,[.l,.b],[])] 19 [true,false] fun w hP hQ=>?_
 unfold acK
 refine N ?_
 (first | refine aF hP (k1) (.inl ⟨rfl,fun _ hx=>hx⟩) ?_ | refine aC hP (k1) (.inl ⟨rfl,fun _ hx=>hx⟩) ?_)
 simp +decide (maxSteps:=9^9) (disch:=omega) only[↓SB0,SX,seval,hQ,anr,ans,bF hx',eQ]
theorem afJ (x:aA) (k:Int) (h:0≤k∧k<256):aI x++[[TV.int .u8 k]]=aI (x++[UInt8.ofNat k.toNat]):=by
 have:(UInt8.ofNat k.toNat).toNat=k.toNat:=by simp; omega
 simp [aI,this]
 omega
theorem adJ (v:Value) (b:aA) (i:Nat) (h:Int) (n:Int) (hl:b.length<2^48) (hi:i≤b.length) (hn:n<2^40):∃ (x:aA) (i':Nat) (h':Int),x.length=n.toNat∧i'≤b.length ∧
  aY Tryz.prog 223 [cur v b i h,.int .i64 n] (.own 1 (aI x)) [cur v b i' h',.undef]:=by
 have key:∃ ret outs,(∃ (x:aA) (i':Nat) (h':Int),x.length=n.toNat∧i'≤b.length∧ret=.own 1 (aI x)∧outs=[cur v b i' h',.undef])∧aY Tryz.prog 223 [cur v b i h,.int .i64 n] ret outs:=by
  unfold cur
  refine cE hmx afa [(155,[.l],[])] 115 rfl [true,false] ⟨lD rfl,lD rfl⟩ rfl ?_
  intro w hP hQ
  unfold xI
  refine N ?_
  refine eU [] ?_
  refine N ?_
  refine aR [] (fun s:aA × Nat × Int=>[(1000,.box [.extv v 1 (aI b),.int .i64 (s.2.1:Nat),.int .i64 s.2.2]),(5,.own 1 (aI s.1)),(6,.int .i64 (s.1.length:Nat))]) (fun s=>s.1.length≤n.toNat∧s.2.1≤b.length) (fun s=>n.toNat-s.1.length) (([],i,h)) hP hQ (by simp +decide (maxSteps:=9^9) (disch:=omega) only[↓SB0,SX,seval,hQ]; rfl) (⟨by simp,hi⟩) ?_
  rintro ⟨x,j,g⟩ ⟨hx,hj⟩ w1 hP1 hQ1
  refine N1 ?_
  simp only at hx hj
  (first | with_reducible refine cP _ ?_ ?_ | refine cQ _ ?_ ?_) <;> intro h1
  ·obtain ⟨y,j1,g1,hy,hj1,k1⟩:=vX v b j g hl hj
   unfold cur at k1
   refine N1 ?_
   (first | refine aF hP1 (k1) (.inl ⟨rfl,fun _ hx=>hx⟩) ?_ | refine aC hP1 (k1) (.inl ⟨rfl,fun _ hx=>hx⟩) ?_)
   refine N1 ?_
   rw [afJ _ _ (by omega)]
   exact ⟨(x++[UInt8.ofNat (y:Int).toNat],j1,g1),by simp,⟨by simp; omega,hj1⟩,by simp; omega⟩
  ·refine N1 ?_
   exact ⟨x,j,g,by omega,hj,rfl,rfl⟩
 obtain ⟨_,_,⟨x,i',h',hx,hi',rfl,rfl⟩,hS⟩:=key
 exact ⟨x,i',h',hx,hi',hS⟩
theorem abN (v:Value) (b:aA) (i:Nat) (h:Int) (hl:b.length<2^48) (hi:i≤b.length):∃ (x:aA) (i':Nat) (h':Int),x.length≤9∧i'≤b.length ∧
  aY Tryz.prog 173 [cur v b i h] (.own 1 (aI x)) [cur v b i' h']:=by
 obtain ⟨r,i1,h1,hv,hi1,k1⟩:=l8 v b i h [0,1,2,5,9] hl hi (by simp) (by simp)
 have hv':0≤r∧r≤9:=by simp at hv; omega
 obtain ⟨x,i2,h2,hx,hi2,k2⟩:=adJ v b i1 h1 r hl hi1 (by omega)
 refine ⟨x,i2,h2,by omega,hi2,?_⟩
 unfold cur at *
 simp only [eQ,lO,lP1] at k1
 refine U aih [(153,[.l,.b],[]),(223,[.l,.b],[])] 5 [true] fun w hP hQ=>?_
 unfold aag
 refine N ?_
 (first | refine aF hP (k1) (.inl ⟨rfl,fun _ hx=>hx⟩) ?_ | refine aC hP (k1) (.inl ⟨rfl,fun _ hx=>hx⟩) ?_)
 refine N ?_
 (first | refine aF hP (k2) (.inl ⟨rfl,fun _ hx=>hx⟩) ?_ | refine aC hP (k2) (.inl ⟨rfl,fun _ hx=>hx⟩) ?_)
 exact N trivial
theorem aqY (b:aA) (hl:b.length<2^48):aY Tryz.prog 12 [.ext 1 (aI b)] (.bool (decide ((1048576:Int)<(b.length:Nat)))) [.undef]:=by
 refine U ao1 [] 5 [] fun w hP hQ=>?_
 unfold akp
 exact N trivial
theorem vY (l:List aA) (k:Nat):(l.map dF)[k]?=(l[k]?).map fun v=>[TV.str v]:=by rw [lS1]; rfl
theorem rG (v:Value) (b:aA) (i:Nat) (h:Int) (l:List aA) (hl:b.length<2^48) (hi:i≤b.length) (h0:l≠[]) (hn:l.length<2^40):∃ (r:aA) (i':Nat) (h':Int),r ∈ l∧i'≤b.length ∧
  aY Tryz.prog 149 [cur v b i h,.ext 1 (l.map dF)] (.str r) [cur v b i' h',.undef]:=by
 obtain ⟨x,i1,h1,hx,hi1,k1⟩:=cJ v b i h l.length hl hi (by omega)
 have hp:0<l.length:=lM3.2 h0
 have hx':(x:Int)<(l.length:Nat):=by rw [nW,lF (by omega)] at hx; exact hx
 refine ⟨l[x]'(by omega),i1,h1,lP _,hi1,?_⟩
 unfold cur at *
 refine U akz [(101,[.l,.b],[])] 19 [true,false] fun w hP hQ=>?_
 unfold acI
 refine N ?_
 (first | refine aF hP (k1) (.inl ⟨rfl,fun _ hx=>hx⟩) ?_ | refine aC hP (k1) (.inl ⟨rfl,fun _ hx=>hx⟩) ?_)
 simp +decide (maxSteps:=9^9) (disch:=omega) only[↓SB0,SX,seval,hQ,vY,bF hx',dF]
theorem ahm (v:Value) (b:aA) (i:Nat) (h:Int) (hl:b.length<2^48) (hi:i≤b.length):∃ (r:aA) (i':Nat) (h':Int),r.length≤5∧i'≤b.length ∧
  aY Tryz.prog 121 [cur v b i h] (.str r) [cur v b i' h']:=by
 obtain ⟨r,i1,h1,hr,hi1,k1⟩:=rG v b i h [[97],[98],[99],[100,46,116,120,116]] hl hi (by simp) (by simp)
 have hv:r.length≤5:=by
  simp only [lH,lP4,or_false] at hr
  rcases hr with rfl | rfl | rfl | rfl <;> simp
 refine ⟨r,i1,h1,hv,hi1,?_⟩
 unfold cur at *
 simp only [dF,lO,lP1] at k1
 refine U aic [(149,[.l,.b],[])] 5 [true] fun w hP hQ=>?_
 unfold aab
 refine N ?_
 (first | refine aF hP (k1) (.inl ⟨rfl,fun _ hx=>hx⟩) ?_ | refine aC hP (k1) (.inl ⟨rfl,fun _ hx=>hx⟩) ?_)
 exact N trivial
theorem ahn (v:Value) (b:aA) (i:Nat) (h:Int) (hl:b.length<2^48) (hi:i≤b.length):∃ (r:aA) (i':Nat) (h':Int),r.length≤30∧i'≤b.length ∧
  aY Tryz.prog 59 [cur v b i h] (.str r) [cur v b i' h']:=by
 obtain ⟨x,i1,h1,hx,hi1,k1⟩:=cJ v b i h 3 hl hi (by omega)
 have hx':(x:Int)<3:=by rw [nW,lF (by omega)] at hx; exact hx
 have key:∃ ret outs,(∃ (r:aA) (i':Nat) (h':Int),r.length≤30∧i'≤b.length∧ret=.str r∧outs=[cur v b i' h'])∧aY Tryz.prog 59 [cur v b i h] ret outs:=by
  unfold cur at *
  refine cE hmx ah5 [(101,[.l,.b],[]),(121,[.l],[])] 29 rfl [true] ⟨lD rfl,lD rfl⟩ rfl ?_
  intro w hP hQ
  unfold zT
  refine N ?_
  (first | refine aF hP (k1) (.inl ⟨rfl,fun _ hx=>hx⟩) ?_ | refine aC hP (k1) (.inl ⟨rfl,fun _ hx=>hx⟩) ?_)
  refine N ?_
  refine eU [] ?_
  refine N ?_
  refine aR [] (fun s:Nat × aA × Nat × Int=>[(1000,.box [.extv v 1 (aI b),.int .i64 (s.2.2.1:Nat),.int .i64 s.2.2.2]),(3,.str s.2.1),(4,.int .i64 (s.1:Nat))]) (fun s=>s.1≤3∧s.2.1.length+s.1*6≤30∧s.2.2.1≤b.length) (fun s=>s.1) ((1+x,[],i1,h1)) hP hQ (by simp; rfl) (⟨by simp only; omega,by simp; omega,hi1⟩) ?_
  rintro ⟨n,r,j,g⟩ ⟨hn,hr,hj⟩ w1 hP1 hQ1
  refine N1 ?_
  simp only at hn hr hj
  (first | with_reducible refine cP _ ?_ ?_ | refine cQ _ ?_ ?_) <;> intro g1
  ·obtain ⟨y,j1,g2,hy,hj1,k2⟩:=ahm v b j g hl hj
   unfold cur at k2
   have e1:r.length+1≤4611686018427387904:=by omega
   have e2:(r++[47]).length+y.length≤4611686018427387904:=by simp; omega
   have e3:((n:Nat):Int)-1=((n-1:Nat):Int):=by omega
   have hz:=e1
   refine Nz1 ?_
   (first | refine aF hP1 (k2) (.inl ⟨rfl,fun _ hx=>hx⟩) ?_ | refine aC hP1 (k2) (.inl ⟨rfl,fun _ hx=>hx⟩) ?_)
   have hz:=And.intro e2 e3
   refine Nz1 ?_
   exact ⟨(n-1,r++[47]++y,j1,g2),rfl,⟨by simp only; omega,by simp; omega,hj1⟩,by simp only; omega⟩
  ·refine N1 ?_
   exact ⟨r,j,g,by omega,hj,rfl,rfl⟩
 obtain ⟨_,_,⟨r,i',h',hr,hi',rfl,rfl⟩,hS⟩:=key
 exact ⟨r,i',h',hr,hi',hS⟩
theorem afK (v:Value) (b:aA) (i:Nat) (h:Int) (hl:b.length<2^48) (hi:i≤b.length):∃ (r:aA) (i':Nat) (h':Int),r.length≤30∧i'≤b.length ∧
  aY Tryz.prog 90 [cur v b i h] (.str r) [cur v b i' h']:=by
 obtain ⟨c,i1,h1,hi1,k1⟩:=kY v b i h 6 hl hi (by omega)
 cases c with
 | true=>
  obtain ⟨r,i2,h2,hr,hi2,k2⟩:=rG v b i1 h1 [[],[47],[97],[47,47],[47,97,47],[47,65],[47,46,46],[47,46],[47,102,105,102,116,101,101,110,98,121,116,101,115,120,120,120],[47,97,47,47,98]] hl hi1 (by simp) (by simp)
  have hv:r.length≤30:=by
   simp only [lH,lP4,or_false] at hr
   rcases hr with rfl | rfl | rfl | rfl | rfl | rfl | rfl | rfl | rfl | rfl <;> simp
  refine ⟨r,i2,h2,hv,hi2,?_⟩
  unfold cur at *
  simp only [dF,lO,lP1] at k2
  refine U acO [(96,[.l,.b],[]),(149,[.l,.b],[]),(59,[.l],[])] 5 [true] fun w hP hQ=>?_
  unfold w9
  refine N ?_
  (first | refine aF hP (k1) (.inl ⟨rfl,fun _ hx=>hx⟩) ?_ | refine aC hP (k1) (.inl ⟨rfl,fun _ hx=>hx⟩) ?_)
  refine N ?_
  (first | refine aF hP (k2) (.inl ⟨rfl,fun _ hx=>hx⟩) ?_ | refine aC hP (k2) (.inl ⟨rfl,fun _ hx=>hx⟩) ?_)
  exact N trivial
 | false=>
  obtain ⟨r,i2,h2,hr,hi2,k2⟩:=ahn v b i1 h1 hl hi1
  refine ⟨r,i2,h2,hr,hi2,?_⟩
  unfold cur at *
  refine U acO [(96,[.l,.b],[]),(149,[.l,.b],[]),(59,[.l],[])] 5 [true] fun w hP hQ=>?_
  unfold w9
  refine N ?_
  (first | refine aF hP (k1) (.inl ⟨rfl,fun _ hx=>hx⟩) ?_ | refine aC hP (k1) (.inl ⟨rfl,fun _ hx=>hx⟩) ?_)
  refine N ?_
  (first | refine aF hP (k2) (.inl ⟨rfl,fun _ hx=>hx⟩) ?_ | refine aC hP (k2) (.inl ⟨rfl,fun _ hx=>hx⟩) ?_)
  exact N trivial
def Of (l a:List aA):Prop:=a.length=l.length∧∀ x ∈ a,x ∈ l
theorem Of.set {l a:List aA} (h:Of l a) {k:Nat} {x:aA} (hx:x ∈ l):Of l (a.set k x):=
 ⟨by rw [List.length_set]; exact h.1,fun y hy=>by
  rcases List.mem_or_eq_of_mem_set hy with h1 | rfl
  ·exact h.2 y h1
  ·exact hx⟩
theorem afL (L:List aA) (k:Nat) (x:aA):(L.map dF).modify k (fun r=>TV.str x::r.drop 1)=(L.set k x).map dF:=rD dF L k x _ fun _ _=>rfl
theorem aho (l:List aA) (hl:l.length<2^40):∃ m:List aA,Of l m∧aY Tryz.prog 177 [.ext 1 (l.map dF)] (.own 1 (m.map dF)) [.undef]:=by
 have hb:l.length*16≤140737488355328:=by omega
 have key:∃ ret outs,(∃ m:List aA,Of l m∧ret=.own 1 (m.map dF)∧outs=[.undef])∧aY Tryz.prog 177 [.ext 1 (l.map dF)] ret outs:=by
  refine cE hmx aii [] 125 rfl [] ⟨lD rfl,lD rfl⟩ rfl ?_
  intro w hP hQ
  unfold aah
  refine N ?_
  have hz:=And.intro apg hb
  refine Nz ?_
  refine eU [5,6] ?_
  refine N ?_
  refine aR [5,6] (fun s:Nat × List aA=>[(3,.own 1 (s.2.map dF)),(4,.int .i64 (s.1:Nat))]) (fun s=>1≤s.1∧Of l s.2) (fun s=>l.length-s.1) ((1,l)) hP hQ (rfl) (⟨lJ1 _,rfl,fun _ h=>h⟩) ?_
  rintro ⟨i,a⟩ ⟨hi,ha⟩ w1 hP1 hQ1
  refine N1 ?_
  simp only at hi ha
  have hal:=ha.1
  (first | with_reducible refine cP _ ?_ ?_ | refine cQ _ ?_ ?_) <;> intro g
  ·have hlt:i<a.length:=by omega
   have hx:a[i] ∈ l:=ha.2 _ (lP hlt)
   generalize hxx:a[i]=x at hx
   simp +decide (maxSteps:=9^9) (disch:=omega) only[↓SB0,SX,seval,hQ,hQ1,bF g,hxx,dF]
   refine eU [] ?_
   refine N1 ?_
   refine aR [] (fun s:Nat × List aA=>[(3,.own 1 (s.2.map dF)),(6,.int .i64 (s.1:Nat))]) (fun s=>s.1≤i∧Of l s.2) (fun s=>s.1) ((i,a)) hP1 hQ1 (rfl) (⟨lJ1 _,ha⟩) ?_
   rintro ⟨j,c⟩ ⟨hj,hc⟩ w2 hP2 hQ2
   refine N2 ?_
   simp only at hj hc
   have hcl:=hc.1
   cases j with
   | zero=>
    have hd:(0:Nat)<c.length:=by omega
    have hz:=And.intro hcl (And.intro afL hd)
    refine Nz2 ?_
    exact ⟨(i+1,c.set 0 x),rfl,⟨by simp only; omega,hc.set hx⟩,by simp only; omega⟩
   | succ j=>
    have hjl:j<c.length:=by omega
    have hjl2:j+1<c.length:=by omega
    have w4:decide ((0:Int)<((j+1:Nat):Int))=true:=lG (by omega)
    have hm:c[j] ∈ l:=hc.2 _ (lP hjl)
    simp +decide (maxSteps:=9^9) (disch:=omega) only[↓SB0,SX,seval,hQ,hQ1,hQ2,w4,hcl,bC,vY,lK hjl,dF,abL,ahg]
    (first | with_reducible refine cP _ ?_ ?_ | refine cQ _ ?_ ?_) <;> intro g2
    ·simp +decide (maxSteps:=9^9) (disch:=omega) only[↓SB0,SX,seval,hQ,hQ1,hQ2,hcl,bC,vY,lK hjl,afL,dF]
     exact ⟨(j,c.set (j+1) c[j]),rfl,⟨by simp only; omega,hc.set hm⟩,by simp only; omega⟩
    ·have hz:=And.intro hcl afL
     refine Nz2 ?_
     exact ⟨(i+1,c.set (j+1) x),rfl,⟨by simp only; omega,hc.set hx⟩,by simp only; omega⟩
  ·refine N1 ?_
   exact ⟨a,ha,rfl⟩
 obtain ⟨_,_,⟨m,hm,rfl,rfl⟩,hS⟩:=key
 exact ⟨m,hm,hS⟩
theorem aiN (t:Tab) (hB:aZ t=true) (h:t.sz<2^40) (k:Nat):∀ (x:Inode) (s:aA) (L:List aA),x ∈ t.inodes→(∃ l,aT (aD t) l 1=some x.ino∧t.inodes.length≤l.length+k)→s.length+k*15<2^30→L.length+(pM t k x s).length<2^40 →
  aY Tryz.prog 176 [t.x,.int .i64 x.ino,.str s,.box [.own 1 (L.map dF)]] (.tup []) [.undef,.undef,.undef,.box [.own 1 ((L++pM t k x s).map dF)]]:=by
 have ht:=(aS t).1 hB
 induction k with
 | zero=>
  rintro x s L hx ⟨l,hl,hle⟩
  have:=(tZ ht hl).1
  omega
 | succ k ih=>
  rintro x s L hx ⟨l,hl,hle⟩ hs hL
  have few:(pM t (k+1) x s).length≤300:=by rw [yJ ht _ x hx,lO1]; exact adH ht hx _
  rw [pM] at few hL ⊢
  generalize hf:(fun e:Ent=>(s++[47]++e.name)::pM t k ((aD t e.ino).getD zN) (s++[47]++e.name))=f at *
  have zx:=sZ h (gN ht hx)
  have ze:=(cT zx).2.1
  have hA:=uF t x.ino h
  rw [afx,gN ht hx] at hA
  simp only [lA1,lU2] at hA
  refine U ae7 [(176,[.b,.b,.b,.l],[])] 3359 [false,false,false,true] fun w hP hQ=>?_
  unfold xF
  refine N ?_
  refine K (hA) ?_
  refine eU [11] ?_
  refine N ?_
  refine aR [11] (fun i:Nat=>[(1003,.box [.own 1 ((L++(x.ents.take i).flatMap f).map dF)]),(10,.int .i64 i)]) (fun i=>i≤x.ents.length) (fun i=>x.ents.length-i) (0) hP hQ (by simp; rfl) (by simp) ?_
  rintro i hi w1 hP1 hQ1
  refine N1 ?_
  have fi:=s9 f x.ents i
  have fj:=s9 f x.ents (i+1)
  (first | with_reducible refine cP _ ?_ ?_ | refine cQ _ ?_ ?_) <;> intro g
  ·have hlt:i<x.ents.length:=by omega
   have hm:x.ents[i] ∈ x.ents:=lP hlt
   have ek:=(bQ ht hx).ok _ hm
   have nl:=nP ek.1
   obtain ⟨y,hy⟩:=lD1.1 (ht.there x hx _ hm)
   obtain ⟨y1,y2⟩:=aO hy
   have kx:x.kind=2:=by
    apply Classical.byContradiction
    intro hk
    have h0:=(mQ ht hx hk).1
    rw [h0] at hlt
    exact absurd hlt (by simp)
   have hw:aT (aD t) (l++[x.ents[i].name]) 1=some y.ino:=by
    rw [cU,hl]
    exact (iU _ _ _ _).2 ⟨x,gN ht hx,kx,by rw [fI (bQ ht hx).up hm,y2],by rw [y2]; omega⟩
   have ff:f x.ents[i]=(s++[47]++x.ents[i].name)::pM t k y (s++[47]++x.ents[i].name):=by rw [← hf]; simp only [hy]; rfl
   rw [adI f hlt,ff] at fj
   simp only [lU,lW] at fj
   have hI:=ih y (s++[47]++x.ents[i].name) (L++(x.ents.take i).flatMap f++[s++[47]++x.ents[i].name]) y1 ⟨_,hw,by simp; omega⟩ (by simp; omega) (by simp only [lU,List.length_singleton]; omega)
   rw [y2] at hI
   rw [lM2,List.map_singleton,show dF (s++[47]++x.ents[i].name)=[TV.str (s++[47]++x.ents[i].name)] from rfl] at hI
   have hb1:((L++(x.ents.take i).flatMap f).length+1)*16≤140737488355328:=by simp only [lU]; omega
   have hb3:(s++[47]).length+x.ents[i].name.length≤4611686018427387904:=by simp; omega
   have hb4:s.length+1≤4611686018427387904:=by omega
   generalize hM:L++(x.ents.take i).flatMap f=M at *
   have hz:=And.intro (bF g) (And.intro hb1 (And.intro hb3 hb4))
   refine Nz1 ?_
   refine K1 (hI) ?_
   exact ⟨i+1,by rw [adI f hlt,ff,← lJ2,hM]; simp [dF],by omega,by omega⟩
  ·obtain rfl:i=x.ents.length:=by omega
   simp +decide (maxSteps:=9^9) (disch:=omega) only[↓SB0,SX,seval,hQ,hQ1,lW1]
   all_goals first | rfl | exact ⟨rfl,rfl⟩
theorem ant {l:List aA} (h:∀ n ∈ l,n.length≤14):(eN l).length≤l.length*15:=
 adG (fun n:aA=>47::n) l 15 fun n hn=>by have:=h n hn; simp only [lW]; omega
theorem alA {t:Tab} (h:TreeOk t) {s:aA} (hs:s ∈ aar t):s.length≤450:=by
 obtain ⟨l,h1,rfl,h3⟩:=(ait h s).1 hs
 obtain ⟨i,hi⟩:=lD1.1 h3
 obtain ⟨a,b⟩:=tZ h hi
 have:=ant fun n hn=>(nP (b n hn)).2
 have:=h.tab.len
 omega
theorem aiO (t:Tab) (h:t.sz<2^40):∃ m:List aA,m.length≤300∧(∀ s ∈ m,s.length≤450)∧aY Tryz.prog 120 [t.x] (.own 1 (m.map dF)) [.undef]:=by
 have hT:=gQ t h
 cases hB:aZ t with
 | false=>
  rw [hB] at hT
  obtain ⟨m,hm,hS⟩:=aho [] (by simp)
  obtain rfl:m=[]:=lT1.1 hm.1
  refine ⟨[],by simp,by simp,?_⟩
  simp only [lP1] at hS ⊢
  refine U xM [(176,[.b,.b,.b,.l],[])] 15 [] fun w hP hQ=>?_
  unfold qZ
  refine N ?_
  refine K (hT) ?_
  (first|refine cI hP (hS) rfl rfl ?_|refine cH hP (hS) rfl rfl ?_)
  refine N ?_
  all_goals first|exact trivial|rfl|exact ⟨rfl,rfl⟩
 | true=>
  rw [hB] at hT
  have ht:=(aS t).1 hB
  obtain ⟨r,r1,r2,r3⟩:=dM ht
  have r4:=(aO r1).2
  have hl:t.inodes.length≤30:=ht.tab.len
  have few:(pM t 30 r []).length≤300:=by rw [yJ ht _ r r3,lO1]; exact adH ht r3 _
  have hPb:=aiN t hB h 30 r [] [] r3 ⟨[],by rw [r4]; rfl,by simpa using hl⟩ (by simp) (by simp; omega)
  rw [r4,lM1,lP1,ahk ht r1] at hPb
  rw [ahk ht r1] at few
  obtain ⟨m,hm,hS⟩:=aho (aar t) (by omega)
  refine ⟨m,by rw [hm.1]; exact few,fun s hs=>alA ht (hm.2 s hs),?_⟩
  refine U xM [(176,[.b,.b,.b,.l],[])] 15 [] fun w hP hQ=>?_
  unfold qZ
  refine N ?_
  refine K (hT) ?_
  refine K (hPb) ?_
  (first|refine cI hP (hS) rfl rfl ?_|refine cH hP (hS) rfl rfl ?_)
  refine N ?_
  all_goals first|exact trivial|rfl|exact ⟨rfl,rfl⟩
theorem ahp (v:Value) (b:aA) (i:Nat) (h:Int) (t:Tab) (hl:b.length<2^48) (hi:i≤b.length) (ht:t.sz<2^40):∃ (r:aA) (i':Nat) (h':Int),r.length≤450∧i'≤b.length ∧
  aY Tryz.prog 58 [cur v b i h,t.x] (.str r) [cur v b i' h',.undef]:=by
 obtain ⟨m,m1,m2,hm⟩:=aiO t ht
 by_cases h0:m=[]
 ·subst h0
  obtain ⟨r,i1,h1,hr,hi1,k1⟩:=afK v b i h hl hi
  refine ⟨r,i1,h1,by omega,hi1,?_⟩
  simp only [lP1] at hm
  unfold cur at *
  refine U tT [(96,[.l,.b],[]),(101,[.l,.b],[]),(90,[.l],[])] 59 [true,false] fun w hP hQ=>?_
  unfold pS
  refine N ?_
  refine K (hm) ?_
  (first | refine aF hP (k1) (.inl ⟨rfl,fun _ hx=>hx⟩) ?_ | refine aC hP (k1) (.inl ⟨rfl,fun _ hx=>hx⟩) ?_)
  refine N ?_
  all_goals first|exact trivial|rfl|exact ⟨rfl,rfl⟩
 ·have hp:0<m.length:=lM3.2 h0
  have d0:decide ((0:Int)<(m.length:Nat))=true:=lG (by omega)
  obtain ⟨c,i1,h1,hi1,k1⟩:=kY v b i h 4 hl hi (by omega)
  cases c with
  | true=>
   obtain ⟨r,i2,h2,hr,hi2,k2⟩:=afK v b i1 h1 hl hi1
   refine ⟨r,i2,h2,by omega,hi2,?_⟩
   unfold cur at *
   refine U tT [(96,[.l,.b],[]),(101,[.l,.b],[]),(90,[.l],[])] 59 [true,false] fun w hP hQ=>?_
   unfold pS
   refine N ?_
   have hz:=d0
   refine Kz (hm) ?_
   (first | refine aF hP (k1) (.inl ⟨rfl,fun _ hx=>hx⟩) ?_ | refine aC hP (k1) (.inl ⟨rfl,fun _ hx=>hx⟩) ?_)
   refine N ?_
   (first | refine aF hP (k2) (.inl ⟨rfl,fun _ hx=>hx⟩) ?_ | refine aC hP (k2) (.inl ⟨rfl,fun _ hx=>hx⟩) ?_)
   refine N ?_
   all_goals first|exact trivial|rfl|exact ⟨rfl,rfl⟩
  | false=>
   obtain ⟨x,i2,h2,hx,hi2,k2⟩:=cJ v b i1 h1 m.length hl hi1 (by omega)
   have hx':(x:Int)<(m.length:Nat):=by rw [nW,lF (by omega)] at hx; exact hx
   refine ⟨m[x]'(by omega),i2,h2,m2 _ (lP _),hi2,?_⟩
   unfold cur at *
   refine U tT [(96,[.l,.b],[]),(101,[.l,.b],[]),(90,[.l],[])] 59 [true,false] fun w hP hQ=>?_
   unfold pS
   refine N ?_
   have hz:=d0
   refine Kz (hm) ?_
   (first | refine aF hP (k1) (.inl ⟨rfl,fun _ hx=>hx⟩) ?_ | refine aC hP (k1) (.inl ⟨rfl,fun _ hx=>hx⟩) ?_)
   refine N ?_
   (first | refine aF hP (k2) (.inl ⟨rfl,fun _ hx=>hx⟩) ?_ | refine aC hP (k2) (.inl ⟨rfl,fun _ hx=>hx⟩) ?_)
   simp +decide (maxSteps:=9^9) (disch:=omega) only[↓SB0,SX,seval,hQ,vY,bF hx',dF]
   all_goals first|exact trivial|rfl|exact ⟨rfl,rfl⟩
theorem aiP (v:Value) (b:aA) (i:Nat) (h:Int) (t:Tab) (hl:b.length<2^48) (hi:i≤b.length) (hB:aZ t=true):∃ (t':Tab) (i':Nat) (h':Int),aZ t'=true∧i'≤b.length ∧
  aY Tryz.prog 119 [cur v b i h,t.x] t'.o [cur v b i' h',.undef]:=by
 have hz:=fJ hB
 obtain ⟨p,i1,h1,hp,hi1,k1⟩:=ahp v b i h t hl hi (by omega)
 obtain ⟨q,i2,h2,hq,hi2,k2⟩:=ahn v b i1 h1 hl hi1
 obtain ⟨x,i3,h3,hx,hi3,k3⟩:=cJ v b i2 h2 12 hl hi2 (by omega)
 have hx':(x:Int)<12:=by rw [nW,lF (by omega)] at hx; exact hx
 have hc:x=0∨x=1∨x=2∨x=3∨x=4∨x=5∨x=6∨x=7∨x=8∨x=9∨x=10∨x=11:=by omega
 rcases hc with hc | hc | hc | hc | hc | hc | hc | hc | hc | hc | hc | hc
 ·
  have d0:decide ((x:Int)=0)=true:=lG (by omega)
  refine ⟨(fL t q 2).1,i3,h3,iI hB q (.inr rfl),hi3,?_⟩
  unfold cur at *
  refine U bR [(58,[.l,.b],[]),(59,[.l],[]),(101,[.l,.b],[]),(153,[.l,.b],[]),(173,[.l],[]),(96,[.l,.b],[]),(121,[.l],[]),(149,[.l,.b],[])] 8315 [true,false] fun w hP hQ=>?_
  unfold bN
  refine N ?_
  (first | refine aF hP (k1) (.inl ⟨rfl,fun _ hx=>hx⟩) ?_ | refine aC hP (k1) (.inl ⟨rfl,fun _ hx=>hx⟩) ?_)
  refine N ?_
  (first | refine aF hP (k2) (.inl ⟨rfl,fun _ hx=>hx⟩) ?_ | refine aC hP (k2) (.inl ⟨rfl,fun _ hx=>hx⟩) ?_)
  refine N ?_
  (first | refine aF hP (k3) (.inl ⟨rfl,fun _ hx=>hx⟩) ?_ | refine aC hP (k3) (.inl ⟨rfl,fun _ hx=>hx⟩) ?_)
  have hz:=d0
  refine Nz ?_
  (first | refine aF hP (jP t q (by omega) (by omega)) (.inl ⟨rfl,fun _ hx=>hx⟩) ?_ | refine aC hP (jP t q (by omega) (by omega)) (.inl ⟨rfl,fun _ hx=>hx⟩) ?_)
  simp +decide (maxSteps:=9^9) (disch:=omega) only[↓SB0,SX,seval,hQ]
  all_goals first | rfl | exact ⟨rfl,rfl⟩
 ·
  have d0:decide ((x:Int)=0)=false:=lB (by omega)
  have d1:decide ((x:Int)=1)=true:=lG (by omega)
  refine ⟨(fL t q 2).1,i3,h3,iI hB q (.inr rfl),hi3,?_⟩
  unfold cur at *
  refine U bR [(58,[.l,.b],[]),(59,[.l],[]),(101,[.l,.b],[]),(153,[.l,.b],[]),(173,[.l],[]),(96,[.l,.b],[]),(121,[.l],[]),(149,[.l,.b],[])] 8315 [true,false] fun w hP hQ=>?_
  unfold bN
  refine N ?_
  (first | refine aF hP (k1) (.inl ⟨rfl,fun _ hx=>hx⟩) ?_ | refine aC hP (k1) (.inl ⟨rfl,fun _ hx=>hx⟩) ?_)
  refine N ?_
  (first | refine aF hP (k2) (.inl ⟨rfl,fun _ hx=>hx⟩) ?_ | refine aC hP (k2) (.inl ⟨rfl,fun _ hx=>hx⟩) ?_)
  refine N ?_
  (first | refine aF hP (k3) (.inl ⟨rfl,fun _ hx=>hx⟩) ?_ | refine aC hP (k3) (.inl ⟨rfl,fun _ hx=>hx⟩) ?_)
  have hz:=And.intro d0 d1
  refine Nz ?_
  (first | refine aF hP (jP t q (by omega) (by omega)) (.inl ⟨rfl,fun _ hx=>hx⟩) ?_ | refine aC hP (jP t q (by omega) (by omega)) (.inl ⟨rfl,fun _ hx=>hx⟩) ?_)
  simp +decide (maxSteps:=9^9) (disch:=omega) only[↓SB0,SX,seval,hQ]
  all_goals first | rfl | exact ⟨rfl,rfl⟩
 ·
  have d0:decide ((x:Int)=0)=false:=lB (by omega)
  have d1:decide ((x:Int)=1)=false:=lB (by omega)
  have d2:decide ((x:Int)=2)=true:=lG (by omega)
  refine ⟨(fL t q 1).1,i3,h3,iI hB q (.inl rfl),hi3,?_⟩
  unfold cur at *
  refine U bR [(58,[.l,.b],[]),(59,[.l],[]),(101,[.l,.b],[]),(153,[.l,.b],[]),(173,[.l],[]),(96,[.l,.b],[]),(121,[.l],[]),(149,[.l,.b],[])] 8315 [true,false] fun w hP hQ=>?_
  unfold bN
  refine N ?_
  (first | refine aF hP (k1) (.inl ⟨rfl,fun _ hx=>hx⟩) ?_ | refine aC hP (k1) (.inl ⟨rfl,fun _ hx=>hx⟩) ?_)
  refine N ?_
  (first | refine aF hP (k2) (.inl ⟨rfl,fun _ hx=>hx⟩) ?_ | refine aC hP (k2) (.inl ⟨rfl,fun _ hx=>hx⟩) ?_)
  refine N ?_
  (first | refine aF hP (k3) (.inl ⟨rfl,fun _ hx=>hx⟩) ?_ | refine aC hP (k3) (.inl ⟨rfl,fun _ hx=>hx⟩) ?_)
  have hz:=And.intro d0 (And.intro d1 d2)
  refine Nz ?_
  (first | refine aF hP (iK t q (by omega) (by omega)) (.inl ⟨rfl,fun _ hx=>hx⟩) ?_ | refine aC hP (iK t q (by omega) (by omega)) (.inl ⟨rfl,fun _ hx=>hx⟩) ?_)
  simp +decide (maxSteps:=9^9) (disch:=omega) only[↓SB0,SX,seval,hQ]
  all_goals first | rfl | exact ⟨rfl,rfl⟩
 ·
  have d0:decide ((x:Int)=0)=false:=lB (by omega)
  have d1:decide ((x:Int)=1)=false:=lB (by omega)
  have d2:decide ((x:Int)=2)=false:=lB (by omega)
  have d3:decide ((x:Int)=3)=true:=lG (by omega)
  refine ⟨(fL t q 1).1,i3,h3,iI hB q (.inl rfl),hi3,?_⟩
  unfold cur at *
  refine U bR [(58,[.l,.b],[]),(59,[.l],[]),(101,[.l,.b],[]),(153,[.l,.b],[]),(173,[.l],[]),(96,[.l,.b],[]),(121,[.l],[]),(149,[.l,.b],[])] 8315 [true,false] fun w hP hQ=>?_
  unfold bN
  refine N ?_
  (first | refine aF hP (k1) (.inl ⟨rfl,fun _ hx=>hx⟩) ?_ | refine aC hP (k1) (.inl ⟨rfl,fun _ hx=>hx⟩) ?_)
  refine N ?_
  (first | refine aF hP (k2) (.inl ⟨rfl,fun _ hx=>hx⟩) ?_ | refine aC hP (k2) (.inl ⟨rfl,fun _ hx=>hx⟩) ?_)
  refine N ?_
  (first | refine aF hP (k3) (.inl ⟨rfl,fun _ hx=>hx⟩) ?_ | refine aC hP (k3) (.inl ⟨rfl,fun _ hx=>hx⟩) ?_)
  have hz:=And.intro d0 (And.intro d1 (And.intro d2 d3))
  refine Nz ?_
  (first | refine aF hP (iK t q (by omega) (by omega)) (.inl ⟨rfl,fun _ hx=>hx⟩) ?_ | refine aC hP (iK t q (by omega) (by omega)) (.inl ⟨rfl,fun _ hx=>hx⟩) ?_)
  simp +decide (maxSteps:=9^9) (disch:=omega) only[↓SB0,SX,seval,hQ]
  all_goals first | rfl | exact ⟨rfl,rfl⟩
 ·
  have d0:decide ((x:Int)=0)=false:=lB (by omega)
  have d1:decide ((x:Int)=1)=false:=lB (by omega)
  have d2:decide ((x:Int)=2)=false:=lB (by omega)
  have d3:decide ((x:Int)=3)=false:=lB (by omega)
  have d4:decide ((x:Int)=4)=true:=lG (by omega)
  obtain ⟨n,i4,h4,hn,hi4,k4⟩:=l8 v b i3 h3 [0,1,20] hl hi3 (by simp) (by simp)
  obtain ⟨y,i5,h5,hy,hi5,k5⟩:=abN v b i4 h4 hl hi4
  simp only [eQ,lO,lP1] at k4
  refine ⟨(cB t p n y).1,i5,h5,pE hB p n y,hi5,?_⟩
  unfold cur at *
  refine U bR [(58,[.l,.b],[]),(59,[.l],[]),(101,[.l,.b],[]),(153,[.l,.b],[]),(173,[.l],[]),(96,[.l,.b],[]),(121,[.l],[]),(149,[.l,.b],[])] 8315 [true,false] fun w hP hQ=>?_
  unfold bN
  refine N ?_
  (first | refine aF hP (k1) (.inl ⟨rfl,fun _ hx=>hx⟩) ?_ | refine aC hP (k1) (.inl ⟨rfl,fun _ hx=>hx⟩) ?_)
  refine N ?_
  (first | refine aF hP (k2) (.inl ⟨rfl,fun _ hx=>hx⟩) ?_ | refine aC hP (k2) (.inl ⟨rfl,fun _ hx=>hx⟩) ?_)
  refine N ?_
  (first | refine aF hP (k3) (.inl ⟨rfl,fun _ hx=>hx⟩) ?_ | refine aC hP (k3) (.inl ⟨rfl,fun _ hx=>hx⟩) ?_)
  have hz:=And.intro d0 (And.intro d1 (And.intro d2 (And.intro d3 d4)))
  refine Nz ?_
  (first | refine aF hP (k4) (.inl ⟨rfl,fun _ hx=>hx⟩) ?_ | refine aC hP (k4) (.inl ⟨rfl,fun _ hx=>hx⟩) ?_)
  refine N ?_
  (first | refine aF hP (k5) (.inl ⟨rfl,fun _ hx=>hx⟩) ?_ | refine aC hP (k5) (.inl ⟨rfl,fun _ hx=>hx⟩) ?_)
  refine N ?_
  (first | refine aF hP (jQ t p n y (by omega) (by omega) (by omega)) (.inl ⟨rfl,fun _ hx=>hx⟩) ?_ | refine aC hP (jQ t p n y (by omega) (by omega) (by omega)) (.inl ⟨rfl,fun _ hx=>hx⟩) ?_)
  simp +decide (maxSteps:=9^9) (disch:=omega) only[↓SB0,SX,seval,hQ]
  all_goals first | rfl | exact ⟨rfl,rfl⟩
 ·
  have d0:decide ((x:Int)=0)=false:=lB (by omega)
  have d1:decide ((x:Int)=1)=false:=lB (by omega)
  have d2:decide ((x:Int)=2)=false:=lB (by omega)
  have d3:decide ((x:Int)=3)=false:=lB (by omega)
  have d4:decide ((x:Int)=4)=false:=lB (by omega)
  have d5:decide ((x:Int)=5)=true:=lG (by omega)
  obtain ⟨n,i4,h4,hn,hi4,k4⟩:=l8 v b i3 h3 [0,1,20] hl hi3 (by simp) (by simp)
  obtain ⟨y,i5,h5,hy,hi5,k5⟩:=abN v b i4 h4 hl hi4
  simp only [eQ,lO,lP1] at k4
  refine ⟨(cB t p n y).1,i5,h5,pE hB p n y,hi5,?_⟩
  unfold cur at *
  refine U bR [(58,[.l,.b],[]),(59,[.l],[]),(101,[.l,.b],[]),(153,[.l,.b],[]),(173,[.l],[]),(96,[.l,.b],[]),(121,[.l],[]),(149,[.l,.b],[])] 8315 [true,false] fun w hP hQ=>?_
  unfold bN
  refine N ?_
  (first | refine aF hP (k1) (.inl ⟨rfl,fun _ hx=>hx⟩) ?_ | refine aC hP (k1) (.inl ⟨rfl,fun _ hx=>hx⟩) ?_)
  refine N ?_
  (first | refine aF hP (k2) (.inl ⟨rfl,fun _ hx=>hx⟩) ?_ | refine aC hP (k2) (.inl ⟨rfl,fun _ hx=>hx⟩) ?_)
  refine N ?_
  (first | refine aF hP (k3) (.inl ⟨rfl,fun _ hx=>hx⟩) ?_ | refine aC hP (k3) (.inl ⟨rfl,fun _ hx=>hx⟩) ?_)
  have hz:=And.intro d0 (And.intro d1 (And.intro d2 (And.intro d3 (And.intro d4 d5))))
  refine Nz ?_
  (first | refine aF hP (k4) (.inl ⟨rfl,fun _ hx=>hx⟩) ?_ | refine aC hP (k4) (.inl ⟨rfl,fun _ hx=>hx⟩) ?_)
  refine N ?_
  (first | refine aF hP (k5) (.inl ⟨rfl,fun _ hx=>hx⟩) ?_ | refine aC hP (k5) (.inl ⟨rfl,fun _ hx=>hx⟩) ?_)
  refine N ?_
  (first | refine aF hP (jQ t p n y (by omega) (by omega) (by omega)) (.inl ⟨rfl,fun _ hx=>hx⟩) ?_ | refine aC hP (jQ t p n y (by omega) (by omega) (by omega)) (.inl ⟨rfl,fun _ hx=>hx⟩) ?_)
  simp +decide (maxSteps:=9^9) (disch:=omega) only[↓SB0,SX,seval,hQ]
  all_goals first | rfl | exact ⟨rfl,rfl⟩
 ·
  have d0:decide ((x:Int)=0)=false:=lB (by omega)
  have d1:decide ((x:Int)=1)=false:=lB (by omega)
  have d2:decide ((x:Int)=2)=false:=lB (by omega)
  have d3:decide ((x:Int)=3)=false:=lB (by omega)
  have d4:decide ((x:Int)=4)=false:=lB (by omega)
  have d5:decide ((x:Int)=5)=false:=lB (by omega)
  have d6:decide ((x:Int)=6)=true:=lG (by omega)
  obtain ⟨n,i4,h4,hn,hi4,k4⟩:=l8 v b i3 h3 [0,1,20] hl hi3 (by simp) (by simp)
  obtain ⟨y,i5,h5,hy,hi5,k5⟩:=abN v b i4 h4 hl hi4
  simp only [eQ,lO,lP1] at k4
  refine ⟨(cB t p n y).1,i5,h5,pE hB p n y,hi5,?_⟩
  unfold cur at *
  refine U bR [(58,[.l,.b],[]),(59,[.l],[]),(101,[.l,.b],[]),(153,[.l,.b],[]),(173,[.l],[]),(96,[.l,.b],[]),(121,[.l],[]),(149,[.l,.b],[])] 8315 [true,false] fun w hP hQ=>?_
  unfold bN
  refine N ?_
  (first | refine aF hP (k1) (.inl ⟨rfl,fun _ hx=>hx⟩) ?_ | refine aC hP (k1) (.inl ⟨rfl,fun _ hx=>hx⟩) ?_)
  refine N ?_
  (first | refine aF hP (k2) (.inl ⟨rfl,fun _ hx=>hx⟩) ?_ | refine aC hP (k2) (.inl ⟨rfl,fun _ hx=>hx⟩) ?_)
  refine N ?_
  (first | refine aF hP (k3) (.inl ⟨rfl,fun _ hx=>hx⟩) ?_ | refine aC hP (k3) (.inl ⟨rfl,fun _ hx=>hx⟩) ?_)
  have hz:=And.intro d0 (And.intro d1 (And.intro d2 (And.intro d3 (And.intro d4 (And.intro d5 d6)))))
  refine Nz ?_
  (first | refine aF hP (k4) (.inl ⟨rfl,fun _ hx=>hx⟩) ?_ | refine aC hP (k4) (.inl ⟨rfl,fun _ hx=>hx⟩) ?_)
  refine N ?_
  (first | refine aF hP (k5) (.inl ⟨rfl,fun _ hx=>hx⟩) ?_ | refine aC hP (k5) (.inl ⟨rfl,fun _ hx=>hx⟩) ?_)
  refine N ?_
  (first | refine aF hP (jQ t p n y (by omega) (by omega) (by omega)) (.inl ⟨rfl,fun _ hx=>hx⟩) ?_ | refine aC hP (jQ t p n y (by omega) (by omega) (by omega)) (.inl ⟨rfl,fun _ hx=>hx⟩) ?_)
  simp +decide (maxSteps:=9^9) (disch:=omega) only[↓SB0,SX,seval,hQ]
  all_goals first | rfl | exact ⟨rfl,rfl⟩
 ·
  have d0:decide ((x:Int)=0)=false:=lB (by omega)
  have d1:decide ((x:Int)=1)=false:=lB (by omega)
  have d2:decide ((x:Int)=2)=false:=lB (by omega)
  have d3:decide ((x:Int)=3)=false:=lB (by omega)
  have d4:decide ((x:Int)=4)=false:=lB (by omega)
  have d5:decide ((x:Int)=5)=false:=lB (by omega)
  have d6:decide ((x:Int)=6)=false:=lB (by omega)
  have d7:decide ((x:Int)=7)=true:=lG (by omega)
  obtain ⟨n,i4,h4,hn,hi4,k4⟩:=l8 v b i3 h3 [0,3,50] hl hi3 (by simp) (by simp)
  simp only [eQ,lO,lP1] at k4
  refine ⟨(xZ t p n).1,i4,h4,aix hB p n,hi4,?_⟩
  unfold cur at *
  refine U bR [(58,[.l,.b],[]),(59,[.l],[]),(101,[.l,.b],[]),(153,[.l,.b],[]),(173,[.l],[]),(96,[.l,.b],[]),(121,[.l],[]),(149,[.l,.b],[])] 8315 [true,false] fun w hP hQ=>?_
  unfold bN
  refine N ?_
  (first | refine aF hP (k1) (.inl ⟨rfl,fun _ hx=>hx⟩) ?_ | refine aC hP (k1) (.inl ⟨rfl,fun _ hx=>hx⟩) ?_)
  refine N ?_
  (first | refine aF hP (k2) (.inl ⟨rfl,fun _ hx=>hx⟩) ?_ | refine aC hP (k2) (.inl ⟨rfl,fun _ hx=>hx⟩) ?_)
  refine N ?_
  (first | refine aF hP (k3) (.inl ⟨rfl,fun _ hx=>hx⟩) ?_ | refine aC hP (k3) (.inl ⟨rfl,fun _ hx=>hx⟩) ?_)
  have hz:=And.intro d0 (And.intro d1 (And.intro d2 (And.intro d3 (And.intro d4 (And.intro d5 (And.intro d6 d7))))))
  refine Nz ?_
  (first | refine aF hP (k4) (.inl ⟨rfl,fun _ hx=>hx⟩) ?_ | refine aC hP (k4) (.inl ⟨rfl,fun _ hx=>hx⟩) ?_)
  refine N ?_
  (first | refine aF hP (yI t p n (by omega) (by omega)) (.inl ⟨rfl,fun _ hx=>hx⟩) ?_ | refine aC hP (yI t p n (by omega) (by omega)) (.inl ⟨rfl,fun _ hx=>hx⟩) ?_)
  simp +decide (maxSteps:=9^9) (disch:=omega) only[↓SB0,SX,seval,hQ]
  all_goals first | rfl | exact ⟨rfl,rfl⟩
 ·
  have d0:decide ((x:Int)=0)=false:=lB (by omega)
  have d1:decide ((x:Int)=1)=false:=lB (by omega)
  have d2:decide ((x:Int)=2)=false:=lB (by omega)
  have d3:decide ((x:Int)=3)=false:=lB (by omega)
  have d4:decide ((x:Int)=4)=false:=lB (by omega)
  have d5:decide ((x:Int)=5)=false:=lB (by omega)
  have d6:decide ((x:Int)=6)=false:=lB (by omega)
  have d7:decide ((x:Int)=7)=false:=lB (by omega)
  have d8:decide ((x:Int)=8)=true:=lG (by omega)
  refine ⟨(bT t p).1,i3,h3,sS hB p,hi3,?_⟩
  unfold cur at *
  refine U bR [(58,[.l,.b],[]),(59,[.l],[]),(101,[.l,.b],[]),(153,[.l,.b],[]),(173,[.l],[]),(96,[.l,.b],[]),(121,[.l],[]),(149,[.l,.b],[])] 8315 [true,false] fun w hP hQ=>?_
  unfold bN
  refine N ?_
  (first | refine aF hP (k1) (.inl ⟨rfl,fun _ hx=>hx⟩) ?_ | refine aC hP (k1) (.inl ⟨rfl,fun _ hx=>hx⟩) ?_)
  refine N ?_
  (first | refine aF hP (k2) (.inl ⟨rfl,fun _ hx=>hx⟩) ?_ | refine aC hP (k2) (.inl ⟨rfl,fun _ hx=>hx⟩) ?_)
  refine N ?_
  (first | refine aF hP (k3) (.inl ⟨rfl,fun _ hx=>hx⟩) ?_ | refine aC hP (k3) (.inl ⟨rfl,fun _ hx=>hx⟩) ?_)
  have hz:=And.intro d0 (And.intro d1 (And.intro d2 (And.intro d3 (And.intro d4 (And.intro d5 (And.intro d6 (And.intro d7 d8)))))))
  refine Nz ?_
  (first | refine aF hP (s8 t p (by omega) (by omega)) (.inl ⟨rfl,fun _ hx=>hx⟩) ?_ | refine aC hP (s8 t p (by omega) (by omega)) (.inl ⟨rfl,fun _ hx=>hx⟩) ?_)
  simp +decide (maxSteps:=9^9) (disch:=omega) only[↓SB0,SX,seval,hQ]
  all_goals first | rfl | exact ⟨rfl,rfl⟩
 ·
  have d0:decide ((x:Int)=0)=false:=lB (by omega)
  have d1:decide ((x:Int)=1)=false:=lB (by omega)
  have d2:decide ((x:Int)=2)=false:=lB (by omega)
  have d3:decide ((x:Int)=3)=false:=lB (by omega)
  have d4:decide ((x:Int)=4)=false:=lB (by omega)
  have d5:decide ((x:Int)=5)=false:=lB (by omega)
  have d6:decide ((x:Int)=6)=false:=lB (by omega)
  have d7:decide ((x:Int)=7)=false:=lB (by omega)
  have d8:decide ((x:Int)=8)=false:=lB (by omega)
  have d9:decide ((x:Int)=9)=true:=lG (by omega)
  refine ⟨(bK t p q).1,i3,h3,afn hB p q,hi3,?_⟩
  unfold cur at *
  refine U bR [(58,[.l,.b],[]),(59,[.l],[]),(101,[.l,.b],[]),(153,[.l,.b],[]),(173,[.l],[]),(96,[.l,.b],[]),(121,[.l],[]),(149,[.l,.b],[])] 8315 [true,false] fun w hP hQ=>?_
  unfold bN
  refine N ?_
  (first | refine aF hP (k1) (.inl ⟨rfl,fun _ hx=>hx⟩) ?_ | refine aC hP (k1) (.inl ⟨rfl,fun _ hx=>hx⟩) ?_)
  refine N ?_
  (first | refine aF hP (k2) (.inl ⟨rfl,fun _ hx=>hx⟩) ?_ | refine aC hP (k2) (.inl ⟨rfl,fun _ hx=>hx⟩) ?_)
  refine N ?_
  (first | refine aF hP (k3) (.inl ⟨rfl,fun _ hx=>hx⟩) ?_ | refine aC hP (k3) (.inl ⟨rfl,fun _ hx=>hx⟩) ?_)
  have hz:=And.intro d0 (And.intro d1 (And.intro d2 (And.intro d3 (And.intro d4 (And.intro d5 (And.intro d6 (And.intro d7 (And.intro d8 d9))))))))
  refine Nz ?_
  (first | refine aF hP (rF t p q (by omega) (by omega) (by omega)) (.inl ⟨rfl,fun _ hx=>hx⟩) ?_ | refine aC hP (rF t p q (by omega) (by omega) (by omega)) (.inl ⟨rfl,fun _ hx=>hx⟩) ?_)
  simp +decide (maxSteps:=9^9) (disch:=omega) only[↓SB0,SX,seval,hQ]
  all_goals first | rfl | exact ⟨rfl,rfl⟩
 ·
  have d0:decide ((x:Int)=0)=false:=lB (by omega)
  have d1:decide ((x:Int)=1)=false:=lB (by omega)
  have d2:decide ((x:Int)=2)=false:=lB (by omega)
  have d3:decide ((x:Int)=3)=false:=lB (by omega)
  have d4:decide ((x:Int)=4)=false:=lB (by omega)
  have d5:decide ((x:Int)=5)=false:=lB (by omega)
  have d6:decide ((x:Int)=6)=false:=lB (by omega)
  have d7:decide ((x:Int)=7)=false:=lB (by omega)
  have d8:decide ((x:Int)=8)=false:=lB (by omega)
  have d9:decide ((x:Int)=9)=false:=lB (by omega)
  have d10:decide ((x:Int)=10)=true:=lG (by omega)
  refine ⟨(pA t p q).1,i3,h3,afo hB p q,hi3,?_⟩
  unfold cur at *
  refine U bR [(58,[.l,.b],[]),(59,[.l],[]),(101,[.l,.b],[]),(153,[.l,.b],[]),(173,[.l],[]),(96,[.l,.b],[]),(121,[.l],[]),(149,[.l,.b],[])] 8315 [true,false] fun w hP hQ=>?_
  unfold bN
  refine N ?_
  (first | refine aF hP (k1) (.inl ⟨rfl,fun _ hx=>hx⟩) ?_ | refine aC hP (k1) (.inl ⟨rfl,fun _ hx=>hx⟩) ?_)
  refine N ?_
  (first | refine aF hP (k2) (.inl ⟨rfl,fun _ hx=>hx⟩) ?_ | refine aC hP (k2) (.inl ⟨rfl,fun _ hx=>hx⟩) ?_)
  refine N ?_
  (first | refine aF hP (k3) (.inl ⟨rfl,fun _ hx=>hx⟩) ?_ | refine aC hP (k3) (.inl ⟨rfl,fun _ hx=>hx⟩) ?_)
  have hz:=And.intro d0 (And.intro d1 (And.intro d2 (And.intro d3 (And.intro d4 (And.intro d5 (And.intro d6 (And.intro d7 (And.intro d8 (And.intro d9 d10)))))))))
  refine Nz ?_
  (first | refine aF hP (adE t p q (by omega) (by omega) (by omega)) (.inl ⟨rfl,fun _ hx=>hx⟩) ?_ | refine aC hP (adE t p q (by omega) (by omega) (by omega)) (.inl ⟨rfl,fun _ hx=>hx⟩) ?_)
  simp +decide (maxSteps:=9^9) (disch:=omega) only[↓SB0,SX,seval,hQ]
  all_goals first | rfl | exact ⟨rfl,rfl⟩
 ·
  have d0:decide ((x:Int)=0)=false:=lB (by omega)
  have d1:decide ((x:Int)=1)=false:=lB (by omega)
  have d2:decide ((x:Int)=2)=false:=lB (by omega)
  have d3:decide ((x:Int)=3)=false:=lB (by omega)
  have d4:decide ((x:Int)=4)=false:=lB (by omega)
  have d5:decide ((x:Int)=5)=false:=lB (by omega)
  have d6:decide ((x:Int)=6)=false:=lB (by omega)
  have d7:decide ((x:Int)=7)=false:=lB (by omega)
  have d8:decide ((x:Int)=8)=false:=lB (by omega)
  have d9:decide ((x:Int)=9)=false:=lB (by omega)
  have d10:decide ((x:Int)=10)=false:=lB (by omega)
  obtain ⟨c,i4,h4,hi4,k4⟩:=kY v b i3 h3 2 hl hi3 (by omega)
  cases c with
  | true=>
   refine ⟨(j9 t p).1,i4,h4,ac9 hB p,hi4,?_⟩
   unfold cur at *
   refine U bR [(58,[.l,.b],[]),(59,[.l],[]),(101,[.l,.b],[]),(153,[.l,.b],[]),(173,[.l],[]),(96,[.l,.b],[]),(121,[.l],[]),(149,[.l,.b],[])] 8315 [true,false] fun w hP hQ=>?_
   unfold bN
   refine N ?_
   (first | refine aF hP (k1) (.inl ⟨rfl,fun _ hx=>hx⟩) ?_ | refine aC hP (k1) (.inl ⟨rfl,fun _ hx=>hx⟩) ?_)
   refine N ?_
   (first | refine aF hP (k2) (.inl ⟨rfl,fun _ hx=>hx⟩) ?_ | refine aC hP (k2) (.inl ⟨rfl,fun _ hx=>hx⟩) ?_)
   refine N ?_
   (first | refine aF hP (k3) (.inl ⟨rfl,fun _ hx=>hx⟩) ?_ | refine aC hP (k3) (.inl ⟨rfl,fun _ hx=>hx⟩) ?_)
   have hz:=And.intro d0 (And.intro d1 (And.intro d2 (And.intro d3 (And.intro d4 (And.intro d5 (And.intro d6 (And.intro d7 (And.intro d8 (And.intro d9 d10)))))))))
   refine Nz ?_
   (first | refine aF hP (k4) (.inl ⟨rfl,fun _ hx=>hx⟩) ?_ | refine aC hP (k4) (.inl ⟨rfl,fun _ hx=>hx⟩) ?_)
   refine N ?_
   (first | refine aF hP (uW t p (by omega) (by omega)) (.inl ⟨rfl,fun _ hx=>hx⟩) ?_ | refine aC hP (uW t p (by omega) (by omega)) (.inl ⟨rfl,fun _ hx=>hx⟩) ?_)
   simp +decide (maxSteps:=9^9) (disch:=omega) only[↓SB0,SX,seval,hQ]
   all_goals first | rfl | exact ⟨rfl,rfl⟩
  | false=>
   obtain ⟨n,i5,h5,hn,hi5,k5⟩:=ahm v b i4 h4 hl hi4
   obtain ⟨y,i6,h6,hy,hi6,k6⟩:=rG v b i5 h5 [[120],[],[118,97,108,117,101]] hl hi5 (by simp) (by simp)
   have hy':y.length≤5:=by
    simp only [lH,lP4,or_false] at hy
    rcases hy with rfl | rfl | rfl <;> simp
   simp only [dF,lO,lP1] at k6
   refine ⟨(pB t p n y).1,i6,h6,afp hB p n y,hi6,?_⟩
   unfold cur at *
   refine U bR [(58,[.l,.b],[]),(59,[.l],[]),(101,[.l,.b],[]),(153,[.l,.b],[]),(173,[.l],[]),(96,[.l,.b],[]),(121,[.l],[]),(149,[.l,.b],[])] 8315 [true,false] fun w hP hQ=>?_
   unfold bN
   refine N ?_
   (first | refine aF hP (k1) (.inl ⟨rfl,fun _ hx=>hx⟩) ?_ | refine aC hP (k1) (.inl ⟨rfl,fun _ hx=>hx⟩) ?_)
   refine N ?_
   (first | refine aF hP (k2) (.inl ⟨rfl,fun _ hx=>hx⟩) ?_ | refine aC hP (k2) (.inl ⟨rfl,fun _ hx=>hx⟩) ?_)
   refine N ?_
   (first | refine aF hP (k3) (.inl ⟨rfl,fun _ hx=>hx⟩) ?_ | refine aC hP (k3) (.inl ⟨rfl,fun _ hx=>hx⟩) ?_)
   have hz:=And.intro d0 (And.intro d1 (And.intro d2 (And.intro d3 (And.intro d4 (And.intro d5 (And.intro d6 (And.intro d7 (And.intro d8 (And.intro d9 d10)))))))))
   refine Nz ?_
   (first | refine aF hP (k4) (.inl ⟨rfl,fun _ hx=>hx⟩) ?_ | refine aC hP (k4) (.inl ⟨rfl,fun _ hx=>hx⟩) ?_)
   refine N ?_
   (first | refine aF hP (k5) (.inl ⟨rfl,fun _ hx=>hx⟩) ?_ | refine aC hP (k5) (.inl ⟨rfl,fun _ hx=>hx⟩) ?_)
   refine N ?_
   (first | refine aF hP (k6) (.inl ⟨rfl,fun _ hx=>hx⟩) ?_ | refine aC hP (k6) (.inl ⟨rfl,fun _ hx=>hx⟩) ?_)
   refine N ?_
   (first | refine aF hP (aaP t p n y (by omega) (by omega) (by omega) (by omega)) (.inl ⟨rfl,fun _ hx=>hx⟩) ?_ | refine aC hP (aaP t p n y (by omega) (by omega) (by omega) (by omega)) (.inl ⟨rfl,fun _ hx=>hx⟩) ?_)
   simp +decide (maxSteps:=9^9) (disch:=omega) only[↓SB0,SX,seval,hQ]
   all_goals first | rfl | exact ⟨rfl,rfl⟩
theorem adK:aZ tab1=true:=by decide
theorem ahq (v:Value) (b:aA) (i:Nat) (h n:Int) (hl:b.length<2^48) (hi:i≤b.length) (hn:0≤n∧n<1000):∃ (t':Tab) (i':Nat) (h':Int),aZ t'=true∧i'≤b.length ∧
  aY Tryz.prog 57 [cur v b i h,.int .i64 n] t'.o [cur v b i' h',.undef]:=by
 obtain ⟨x,i1,h1,hx,hi1,k1⟩:=cJ v b i h (n+4) hl hi (by omega)
 have hx2:x≤2000:=by rw [nW,lF (by omega)] at hx; omega
 have key:∃ ret outs,(∃ (t':Tab) (i':Nat) (h':Int),aZ t'=true∧i'≤b.length∧ret=t'.o∧outs=[cur v b i' h',.undef])∧aY Tryz.prog 57 [cur v b i h,.int .i64 n] ret outs:=by
  unfold cur at *
  refine cE hmx ah4 [(101,[.l,.b],[]),(119,[.l,.b],[])] 115 rfl [true,false] ⟨lD rfl,lD rfl⟩ rfl ?_
  intro w hP hQ
  unfold zS
  refine N ?_
  (first | refine aF hP (s6) (.inl ⟨rfl,fun _ hx=>hx⟩) ?_ | refine aC hP (s6) (.inl ⟨rfl,fun _ hx=>hx⟩) ?_)
  refine N ?_
  (first | refine aF hP (k1) (.inl ⟨rfl,fun _ hx=>hx⟩) ?_ | refine aC hP (k1) (.inl ⟨rfl,fun _ hx=>hx⟩) ?_)
  refine N ?_
  refine eU [] ?_
  refine N ?_
  refine aR [] (fun s:Nat × Tab × Nat × Int=>[(1000,.box [.extv v 1 (aI b),.int .i64 (s.2.2.1:Nat),.int .i64 s.2.2.2]),(5005,.box [.own 6 (s.2.1.inodes.map Inode.row),.int .i64 s.2.1.next]),(6,.int .i64 (s.1:Nat))]) (fun s=>aZ s.2.1=true∧s.2.2.1≤b.length∧s.1≤2000) (fun s=>s.1) ((x,tab1,i1,h1)) hP hQ (rfl) (⟨adK,hi1,by simp only; omega⟩) ?_
  rintro ⟨m,t,j,g⟩ ⟨ht,hj,hm⟩ w1 hP1 hQ1
  refine N1 ?_
  simp only at ht hj hm
  (first | with_reducible refine cP _ ?_ ?_ | refine cQ _ ?_ ?_) <;> intro g1
  ·obtain ⟨t2,j1,g2,ht2,hj1,k2⟩:=aiP v b j g t hl hj ht
   unfold cur at k2
   have e3:((m:Nat):Int)-1=((m-1:Nat):Int):=by omega
   have e4:=aaA (n:=m-1) (by omega)
   refine N1 ?_
   (first | refine aF hP1 (k2) (.inl ⟨rfl,fun _ hx=>hx⟩) ?_ | refine aC hP1 (k2) (.inl ⟨rfl,fun _ hx=>hx⟩) ?_)
   have hz:=And.intro e3 e4
   refine Nz1 ?_
   exact ⟨(m-1,t2,j1,g2),rfl,⟨ht2,hj1,by simp only; omega⟩,by simp only; omega⟩
  ·refine N1 ?_
   exact ⟨t,j,g,ht,hj,rfl,rfl⟩
 obtain ⟨_,_,⟨t',i',h',ht',hi',rfl,rfl⟩,hS⟩:=key
 exact ⟨t',i',h',ht',hi',hS⟩
theorem ahr (m:Nat) (h:m<100):cX [[TV.int .u8 (97+(m:Int))]]=some [UInt8.ofNat (97+m)]:=by
 have e:[[TV.int .u8 (97+(m:Int))]]=aI [UInt8.ofNat (97+m)]:=by simp [aI]; omega
 rw [e,nK]
theorem anu (v:Value) (b:aA) (i:Nat) (h:Int) (hl:b.length<2^48) (hi:i≤b.length):∃ (t':Tab) (i':Nat) (h':Int),t'.sz<2^28∧i'≤b.length ∧
  aY Tryz.prog 138 [cur v b i h] t'.o [cur v b i' h']:=by
 obtain ⟨c,i1,h1,hi1,k1⟩:=kY v b i h 2 hl hi (by omega)
 obtain ⟨e,i2,h2,hi2,k2⟩:=kY v b i1 h1 4 hl hi1 (by omega)
 have key:∃ ret outs,(∃ (t':Tab) (i':Nat) (h':Int),t'.sz<2^28∧i'≤b.length∧ret=t'.o∧outs=[cur v b i' h'])∧aY Tryz.prog 138 [cur v b i h] ret outs:=by
  unfold cur at *
  refine cE hmx aid [(96,[.l,.b],[])] 125 rfl [true] ⟨lD rfl,lD rfl⟩ rfl ?_
  intro w hP hQ
  unfold aac
  refine N ?_
  (first | refine aF hP (s6) (.inl ⟨rfl,fun _ hx=>hx⟩) ?_ | refine aC hP (s6) (.inl ⟨rfl,fun _ hx=>hx⟩) ?_)
  refine N ?_
  refine eU [5,6] ?_
  refine N ?_
  refine aR [5,6] (fun s:Nat × Tab=>[(5003,.box [.own 6 (s.2.inodes.map Inode.row),.int .i64 s.2.next]),(4,.int .i64 (s.1:Nat))]) (fun s=>aZ s.2=true∧s.1≤4) (fun s=>4-s.1) ((0,tab1)) hP hQ (rfl) (⟨adK,by simp⟩) ?_
  rintro ⟨m,t⟩ ⟨ht,hm⟩ w1 hP1 hQ1
  refine N1 ?_
  simp only at ht hm
  have hz:=fJ ht
  (first | with_reducible refine cP _ ?_ ?_ | refine cQ _ ?_ ?_) <;> intro g1
  ·have e1:=ahr m (by omega)
   generalize UInt8.ofNat (97+m)=y at e1
   have hz:=e1
   refine Nz1 ?_
   (first | refine aF hP1 (jP t [47,y] (by omega) (by simp)) (.inl ⟨rfl,fun _ hx=>hx⟩) ?_ | refine aC hP1 (jP t [47,y] (by omega) (by simp)) (.inl ⟨rfl,fun _ hx=>hx⟩) ?_)
   refine N1 ?_
   generalize htt:(fL t [47,y] 2).1=t1
   have ht1:aZ t1=true:=by rw [← htt]; exact iI ht _ (.inr rfl)
   refine eU [] ?_
   refine N1 ?_
   refine aR [] (fun s:Nat × Tab=>[(5003,.box [.own 6 (s.2.inodes.map Inode.row),.int .i64 s.2.next]),(6,.int .i64 (s.1:Nat))]) (fun s=>aZ s.2=true∧s.1≤7) (fun s=>7-s.1) ((0,t1)) hP1 hQ1 (rfl) (⟨ht1,by simp⟩) ?_
   rintro ⟨k,t2⟩ ⟨ht2,hk⟩ w2 hP2 hQ2
   refine N2 ?_
   simp only at ht2 hk
   have hz2:=fJ ht2
   (first | with_reducible refine cP _ ?_ ?_ | refine cQ _ ?_ ?_) <;> intro g2
   ·have e2:=ahr k (by omega)
    generalize UInt8.ofNat (97+k)=z at e2
    have hz:=e2
    refine Nz2 ?_
    (first | refine aF hP2 (iK t2 [47,y,47,z] (by omega) (by simp)) (.inl ⟨rfl,fun _ hx=>hx⟩) ?_ | refine aC hP2 (iK t2 [47,y,47,z] (by omega) (by simp)) (.inl ⟨rfl,fun _ hx=>hx⟩) ?_)
    refine N2 ?_
    exact ⟨(k+1,(fL t2 [47,y,47,z] 1).1),rfl,⟨iI ht2 _ (.inl rfl),by simp only; omega⟩,by simp only; omega⟩
   ·refine N2 ?_
    exact ⟨(m+1,t2),rfl,⟨ht2,by simp only; omega⟩,by simp only; omega⟩
  ·refine N1 ?_
   (first | refine aF hP (k1) (.inl ⟨rfl,fun _ hx=>hx⟩) ?_ | refine aC hP (k1) (.inl ⟨rfl,fun _ hx=>hx⟩) ?_)
   refine N ?_
   have hu:=sS ht [47,97,47,97]
   have hz3:=fJ hu
   cases c with
   | true=>
    refine N ?_
    (first | refine aF hP (s8 t [47,97,47,97] (by omega) (by simp)) (.inl ⟨rfl,fun _ hx=>hx⟩) ?_ | refine aC hP (s8 t [47,97,47,97] (by omega) (by simp)) (.inl ⟨rfl,fun _ hx=>hx⟩) ?_)
    refine N ?_
    (first | refine aF hP (k2) (.inl ⟨rfl,fun _ hx=>hx⟩) ?_ | refine aC hP (k2) (.inl ⟨rfl,fun _ hx=>hx⟩) ?_)
    refine N ?_
    cases e with
    | true=>
     refine N ?_
     exact ⟨{ (bT t [47,97,47,97]).1 with next:=1000 },i2,h2,by show (bT t [47,97,47,97]).1.sz<_; omega,hi2,rfl,rfl⟩
    | false=>
     refine N ?_
     exact ⟨(bT t [47,97,47,97]).1,i2,h2,by omega,hi2,rfl,rfl⟩
   | false=>
    refine N ?_
    (first | refine aF hP (k2) (.inl ⟨rfl,fun _ hx=>hx⟩) ?_ | refine aC hP (k2) (.inl ⟨rfl,fun _ hx=>hx⟩) ?_)
    refine N ?_
    cases e with
    | true=>
     refine N ?_
     exact ⟨{ t with next:=1000 },i2,h2,by show t.sz<_; omega,hi2,rfl,rfl⟩
    | false=>
     refine N ?_
     exact ⟨t,i2,h2,by omega,hi2,rfl,rfl⟩
 obtain ⟨_,_,⟨t',i',h',ht',hi',rfl,rfl⟩,hS⟩:=key
 exact ⟨t',i',h',ht',hi',hS⟩
theorem afM (k:Nat) (h:k<4):∃ s:aA,s.length≤5∧([[TV.str [97]],[TV.str [98]],[TV.str [99]],[TV.str [100,46,116,120,116]]]:List (List TV))[k]?=some [TV.str s]:=by
 match k,h with
 | 0,_=>exact ⟨_,by decide,rfl⟩
 | 1,_=>exact ⟨_,by decide,rfl⟩
 | 2,_=>exact ⟨_,by decide,rfl⟩
 | 3,_=>exact ⟨_,by decide,rfl⟩
theorem anv (v:Value) (b:aA) (i:Nat) (h:Int) (hl:b.length<2^48) (hi:i≤b.length):∃ (x:Inode) (i':Nat) (h':Int),x.sz<1000∧i'≤b.length ∧
  aY Tryz.prog 199 [cur v b i h] x.o [cur v b i' h']:=by
 obtain ⟨n,i1,h1,hn,hi1,k1⟩:=cJ v b i h 6 hl hi (by omega)
 obtain ⟨m,i2,h2,hm,hi2,k2⟩:=cJ v b i1 h1 2 hl hi1 (by omega)
 have hn':(n:Int)<6:=by rw [nW,lF (by omega)] at hn; exact hn
 have hm':(m:Int)<2:=by rw [nW,lF (by omega)] at hm; exact hm
 have key:∃ ret outs,(∃ (x:Inode) (i':Nat) (h':Int),x.sz<1000∧i'≤b.length∧ret=x.o∧outs=[cur v b i' h'])∧aY Tryz.prog 199 [cur v b i h] ret outs:=by
  unfold cur at *
  by_cases g:m=0
  ·subst g
   obtain ⟨r,i3,h3,hr,hi3,k3⟩:=l8 v b i2 h2 [0,1,5,20,100] hl hi2 (by simp) (by simp)
   have hr':0≤r∧r≤100:=by simp at hr; omega
   obtain ⟨y,i4,h4,hy,hi4,k4⟩:=adJ v b i3 h3 r hl hi3 (by omega)
   unfold cur at *
   simp only [eQ,lO,lP1] at k3
   refine cE hmx aal [(101,[.l,.b],[]),(153,[.l,.b],[]),(223,[.l,.b],[]),(96,[.l,.b],[]),(149,[.l,.b],[])] 125 rfl [true] ⟨lD rfl,lD rfl⟩ rfl ?_
   intro w hP hQ
   unfold tS
   refine N ?_
   (first | refine aF hP (k1) (.inl ⟨rfl,fun _ hx=>hx⟩) ?_ | refine aC hP (k1) (.inl ⟨rfl,fun _ hx=>hx⟩) ?_)
   refine N ?_
   (first | refine aF hP (k2) (.inl ⟨rfl,fun _ hx=>hx⟩) ?_ | refine aC hP (k2) (.inl ⟨rfl,fun _ hx=>hx⟩) ?_)
   refine N ?_
   obtain ⟨q,i5,h5,hq,hi5,k5⟩:=cJ v b i4 h4 2 hl hi4 (by omega)
   have hq':(q:Int)<2:=by rw [nW,lF (by omega)] at hq; exact hq
   unfold cur at k5
   (first | refine aF hP (k3) (.inl ⟨rfl,fun _ hx=>hx⟩) ?_ | refine aC hP (k3) (.inl ⟨rfl,fun _ hx=>hx⟩) ?_)
   refine N ?_
   (first | refine aF hP (k4) (.inl ⟨rfl,fun _ hx=>hx⟩) ?_ | refine aC hP (k4) (.inl ⟨rfl,fun _ hx=>hx⟩) ?_)
   refine N ?_
   (first | refine aF hP (k5) (.inl ⟨rfl,fun _ hx=>hx⟩) ?_ | refine aC hP (k5) (.inl ⟨rfl,fun _ hx=>hx⟩) ?_)
   refine N ?_
   refine eU [] ?_
   refine N ?_
   refine aR [] (fun s:Nat × List Attr × Nat × Int=>[(1000,.box [.extv v 1 (aI b),.int .i64 (s.2.2.1:Nat),.int .i64 s.2.2.2]),(5003,.box [.int .i64 (2+(n:Int)),.int .i64 1,.int .i64 (1+(q:Int)),.own 1 (aI y),.own 2 [],.own 2 (s.2.1.map Attr.row)]),(6,.int .i64 (s.1:Nat))]) (fun s=>s.1≤2∧szM Attr.sz s.2.1≤s.1*40∧s.2.2.1≤b.length) (fun s=>2-s.1) ((0,[],i5,h5)) hP hQ (rfl) (⟨by simp,by simp [szM],hi5⟩) ?_
   rintro ⟨k,at',j,g⟩ ⟨hk,hz,hj⟩ w1 hP1 hQ1
   refine N1 ?_
   simp only at hk hz hj
   (first | with_reducible refine cP _ ?_ ?_ | refine cQ _ ?_ ?_) <;> intro g1
   ·obtain ⟨c,j1,g2,hj1,k6⟩:=kY v b j g 3 hl hj (by omega)
    cases c with
    | false=>
     unfold cur at k6
     refine N1 ?_
     (first | refine aF hP1 (k6) (.inl ⟨rfl,fun _ hx=>hx⟩) ?_ | refine aC hP1 (k6) (.inl ⟨rfl,fun _ hx=>hx⟩) ?_)
     refine N1 ?_
     exact ⟨(k+1,at',j1,g2),rfl,⟨by simp only; omega,by simp only; omega,hj1⟩,by simp only; omega⟩
    | true=>
     obtain ⟨nm,hnm,hget⟩:=afM k (by omega)
     have hg2:(k:Int)<4:=by omega
     obtain ⟨z,j2,g3,hz2,hj2,k7⟩:=rG v b j1 g2 [[120],[118,97,108,117,101],[115,105,120,116,101,101,110,98,121,116,101,115,120,120,120,120]] hl hj1 (by simp) (by simp)
     have hz3:z.length≤16:=by
      simp only [lH,lP4,or_false] at hz2
      rcases hz2 with rfl | rfl | rfl <;> simp
     have hal:at'.length≤k*40:=by simp only [szM] at hz; omega
     have hb:(at'.length+1)*32≤140737488355328:=by omega
     have ha:szM Attr.sz (at'++[⟨nm,z⟩])=szM Attr.sz at' + 1+(nm.length+z.length):=by simp [szM,Attr.sz]; omega
     unfold cur at k6 k7
     simp only [dF,lO,lP1] at k7
     refine N1 ?_
     (first | refine aF hP1 (k6) (.inl ⟨rfl,fun _ hx=>hx⟩) ?_ | refine aC hP1 (k6) (.inl ⟨rfl,fun _ hx=>hx⟩) ?_)
     have hz:=And.intro hget hg2
     refine Nz1 ?_
     (first | refine aF hP1 (k7) (.inl ⟨rfl,fun _ hx=>hx⟩) ?_ | refine aC hP1 (k7) (.inl ⟨rfl,fun _ hx=>hx⟩) ?_)
     have hz:=And.intro hget (And.intro hg2 hb)
     refine Nz1 ?_
     exact ⟨(k+1,at'++[⟨nm,z⟩],j2,g3),by simp [Attr.row],⟨by simp only; omega,by simp only; omega,hj2⟩,by simp only; omega⟩
   ·refine N1 ?_
    exact ⟨{ ino:=2+n,kind:=1,links:=1+q,data:=y,ents:=[],attrs:=at' },j,g,by show y.length+szM Ent.sz []+szM Attr.sz at'<1000; simp [szM] at *; omega,hj,rfl,rfl⟩
  ·obtain rfl:m=1:=by omega
   refine cE hmx aal [(101,[.l,.b],[]),(153,[.l,.b],[]),(223,[.l,.b],[]),(96,[.l,.b],[]),(149,[.l,.b],[])] 125 rfl [true] ⟨lD rfl,lD rfl⟩ rfl ?_
   intro w hP hQ
   unfold tS
   refine N ?_
   (first | refine aF hP (k1) (.inl ⟨rfl,fun _ hx=>hx⟩) ?_ | refine aC hP (k1) (.inl ⟨rfl,fun _ hx=>hx⟩) ?_)
   refine N ?_
   (first | refine aF hP (k2) (.inl ⟨rfl,fun _ hx=>hx⟩) ?_ | refine aC hP (k2) (.inl ⟨rfl,fun _ hx=>hx⟩) ?_)
   refine N ?_
   refine eU [] ?_
   refine N ?_
   refine aR [] (fun s:Nat × List Ent × Nat × Int=>[(1000,.box [.extv v 1 (aI b),.int .i64 (s.2.2.1:Nat),.int .i64 s.2.2.2]),(5003,.box [.int .i64 (2+(n:Int)),.int .i64 2,.int .i64 1,.own 1 [],.own 2 (s.2.1.map Ent.row),.own 2 []]),(5,.int .i64 (s.1:Nat))]) (fun s=>s.1≤4∧szM Ent.sz s.2.1≤s.1*40∧s.2.2.1≤b.length) (fun s=>4-s.1) ((0,[],i2,h2)) hP hQ (rfl) (⟨by simp,by simp [szM],hi2⟩) ?_
   rintro ⟨k,es,ie,he⟩ ⟨hk0,hze,hie⟩ w1 hP1 hQ1
   refine N1 ?_
   simp only at hk0 hze hie
   (first | with_reducible refine cP _ ?_ ?_ | refine cQ _ ?_ ?_) <;> intro g0
   ·obtain ⟨c,j1,g2,hj1,k6⟩:=kY v b ie he 2 hl hie (by omega)
    cases c with
    | false=>
     unfold cur at k6
     refine N1 ?_
     (first | refine aF hP1 (k6) (.inl ⟨rfl,fun _ hx=>hx⟩) ?_ | refine aC hP1 (k6) (.inl ⟨rfl,fun _ hx=>hx⟩) ?_)
     refine N1 ?_
     exact ⟨(k+1,es,j1,g2),rfl,⟨by simp only; omega,by simp only; omega,hj1⟩,by simp only; omega⟩
    | true=>
     obtain ⟨nm,hnm,hget⟩:=afM k (by omega)
     obtain ⟨z,j2,g3,hz2,hj2,k7⟩:=cJ v b j1 g2 8 hl hj1 (by omega)
     have hal:es.length≤k*40:=by simp only [szM] at hze; omega
     have hb:(es.length+1)*24≤140737488355328:=by omega
     have ha:szM Ent.sz (es++[⟨nm,2+(z:Int)⟩])=szM Ent.sz es+1+nm.length:=by simp [szM,Ent.sz]; omega
     have hzz:(z:Int)<8:=by rw [nW,lF (by omega)] at hz2; exact hz2
     unfold cur at k6 k7
     refine N1 ?_
     (first | refine aF hP1 (k6) (.inl ⟨rfl,fun _ hx=>hx⟩) ?_ | refine aC hP1 (k6) (.inl ⟨rfl,fun _ hx=>hx⟩) ?_)
     have hz:=And.intro hget g0
     refine Nz1 ?_
     (first | refine aF hP1 (k7) (.inl ⟨rfl,fun _ hx=>hx⟩) ?_ | refine aC hP1 (k7) (.inl ⟨rfl,fun _ hx=>hx⟩) ?_)
     have hz:=And.intro hget (And.intro g0 hb)
     refine Nz1 ?_
     exact ⟨(k+1,es++[⟨nm,2+(z:Int)⟩],j2,g3),by simp [Ent.row],⟨by simp only; omega,by simp only; omega,hj2⟩,by simp only; omega⟩
   ·refine N1 ?_
    refine eU [] ?_
    refine N ?_
    refine aR [] (fun s:Nat × List Attr × Nat × Int=>[(1000,.box [.extv v 1 (aI b),.int .i64 (s.2.2.1:Nat),.int .i64 s.2.2.2]),(5003,.box [.int .i64 (2+(n:Int)),.int .i64 2,.int .i64 1,.own 1 [],.own 2 (es.map Ent.row),.own 2 (s.2.1.map Attr.row)]),(6,.int .i64 (s.1:Nat))]) (fun s=>s.1≤2∧szM Attr.sz s.2.1≤s.1*40∧s.2.2.1≤b.length) (fun s=>2-s.1) ((0,[],ie,he)) hP hQ (rfl) (⟨by simp,by simp [szM],hie⟩) ?_
    rintro ⟨k,at',j,g⟩ ⟨hk,hz,hj⟩ w1 hP1 hQ1
    refine N1 ?_
    simp only at hk hz hj
    (first | with_reducible refine cP _ ?_ ?_ | refine cQ _ ?_ ?_) <;> intro g1
    ·obtain ⟨c,j1,g2,hj1,k6⟩:=kY v b j g 3 hl hj (by omega)
     cases c with
     | false=>
      unfold cur at k6
      refine N1 ?_
      (first | refine aF hP1 (k6) (.inl ⟨rfl,fun _ hx=>hx⟩) ?_ | refine aC hP1 (k6) (.inl ⟨rfl,fun _ hx=>hx⟩) ?_)
      refine N1 ?_
      exact ⟨(k+1,at',j1,g2),rfl,⟨by simp only; omega,by simp only; omega,hj1⟩,by simp only; omega⟩
     | true=>
      obtain ⟨nm,hnm,hget⟩:=afM k (by omega)
      have hg2:(k:Int)<4:=by omega
      obtain ⟨z,j2,g3,hz2,hj2,k7⟩:=rG v b j1 g2 [[120],[118,97,108,117,101],[115,105,120,116,101,101,110,98,121,116,101,115,120,120,120,120]] hl hj1 (by simp) (by simp)
      have hz3:z.length≤16:=by
       simp only [lH,lP4,or_false] at hz2
       rcases hz2 with rfl | rfl | rfl <;> simp
      have hal:at'.length≤k*40:=by simp only [szM] at hz; omega
      have hb:(at'.length+1)*32≤140737488355328:=by omega
      have ha:szM Attr.sz (at'++[⟨nm,z⟩])=szM Attr.sz at' + 1+(nm.length+z.length):=by simp [szM,Attr.sz]; omega
      unfold cur at k6 k7
      simp only [dF,lO,lP1] at k7
      refine N1 ?_
      (first | refine aF hP1 (k6) (.inl ⟨rfl,fun _ hx=>hx⟩) ?_ | refine aC hP1 (k6) (.inl ⟨rfl,fun _ hx=>hx⟩) ?_)
      have hz:=And.intro hget hg2
      refine Nz1 ?_
      (first | refine aF hP1 (k7) (.inl ⟨rfl,fun _ hx=>hx⟩) ?_ | refine aC hP1 (k7) (.inl ⟨rfl,fun _ hx=>hx⟩) ?_)
      have hz:=And.intro hget (And.intro hg2 hb)
      refine Nz1 ?_
      exact ⟨(k+1,at'++[⟨nm,z⟩],j2,g3),by simp [Attr.row],⟨by simp only; omega,by simp only; omega,hj2⟩,by simp only; omega⟩
    ·refine N1 ?_
     exact ⟨{ ino:=2+n,kind:=2,links:=1,data:=[],ents:=es,attrs:=at' },j,g,by show ([]:aA).length+szM Ent.sz es+szM Attr.sz at'<1000; simp only [List.length_nil]; omega,hj,rfl,rfl⟩
 obtain ⟨_,_,⟨t',i',h',ht',hi',rfl,rfl⟩,hS⟩:=key
 exact ⟨t',i',h',ht',hi',hS⟩

end Go.Proofs.YtnfngemnghiehaaGreatDoor.Awp
