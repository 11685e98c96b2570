/- Contracts of functions that the laws on trees reach are proved here (part 2). Condition: none. -/
import Derived.Test.YtnfngemnghiehaaGreatDoorBase1
import Derived.Test.YtnfngemnghiehaaGreatDoorAwp3
import Derived.Test.YtnfngemnghiehaaGreatDoorRows
import Derived.Test.YtnfngemnghiehaaGreatDoorCards
import Derived.Test.YtnfngemnghiehaaGreatDoorTie
import Derived.Shelf.Lays
import Derived.Sort.Walk0
import Derived.Shelf.Strings.Search3
import Derived.Shelf.Strings.Count
import Derived.Shelf.Strings.OnBuilder
import Derived.Shelf.Sort.Plain
import Derived.Shelf.Slices.In.SortNone
import Derived.Shelf.Spec.SlicesInsert
import Derived.Shelf.Spec.SlicesInsertGrow
import Derived.Deep.MidRow
import Derived.ArgAppend
import Derived.OpenShut
import Derived.SevenTiedAt
import Derived.KernelRfl
set_option linter.unusedVariables false
set_option linter.unusedSimpArgs false
set_option maxRecDepth 100000
set_option maxHeartbeats 20000000
open Nat (reduceEqDiff reduceAdd reduceMul reduceSub)
open Int (reduceNeg reduceToNat reducePow)
namespace Go.Proofs.YtnfngemnghiehaaGreatDoor.Awp
theorem dU {x:Inode} {n:Nat} (h:x.sz<n):x.data.length<n∧x.ents.length<n∧x.attrs.length<n:=by
 simp only [Inode.sz,szM] at h; omega
theorem ae8 {p q:Prop} [Decidable p] [Decidable q] (h:p↔q):decide p=decide q:=by simp [h]
theorem ab4 (a b:Inode) (ha:a.sz<2^40) (hb:b.sz<2^40):bC Tryz.prog 73 [a.x,b.x] (.bool (decide (a=b))) [.undef,.undef]:=by
 obtain ⟨a1,a2,a3⟩:=dU ha
 obtain ⟨b1,b2,b3⟩:=dU hb
 refine U aad [] 31 [] fun w hP hQ=>?_
 unfold qG
 refine N ?_
 (first | with_reducible refine rO _ ?_ ?_ | refine rP _ ?_ ?_) <;> intro h0
 rotate_left
 ·have hz:=h0
  refine Nz ?_
  rw [lB (show ¬ a=b from fun h=>h0 (by rw [h]))]
 have hz:=h0
 refine Nz ?_
 (first | with_reducible refine rO _ ?_ ?_ | refine rP _ ?_ ?_) <;> intro h1
 rotate_left
 ·have hz:=h1
  refine Nz ?_
  rw [lB (show ¬ a=b from fun h=>h1 (by rw [h]))]
 have hz:=h1
 refine Nz ?_
 (first | with_reducible refine rO _ ?_ ?_ | refine rP _ ?_ ?_) <;> intro h2
 rotate_left
 ·have hz:=h2
  refine Nz ?_
  rw [lB (show ¬ a=b from fun h=>h2 (by rw [h]))]
 have hz:=h2
 refine Nz ?_
 refine K (wP a.data b.data (by omega) (by omega)) ?_
 (first | with_reducible refine rO _ ?_ ?_ | refine rP _ ?_ ?_) <;> intro h3
 rotate_left
 ·have hz:=h3
  refine Nz ?_
  rw [lB (show ¬ a=b from fun h=>h3 (by rw [h]))]
 have hz:=h3
 refine Nz ?_
 refine K (aau a.ents b.ents (by omega) (by omega)) ?_
 (first | with_reducible refine rO _ ?_ ?_ | refine rP _ ?_ ?_) <;> intro h4
 rotate_left
 ·have hz:=h4
  refine Nz ?_
  rw [lB (show ¬ a=b from fun h=>h4 (by rw [h]))]
 have hz:=h4
 refine Nz ?_
 refine K (wQ a.attrs b.attrs (by omega) (by omega)) ?_
 rw [ae8 (p:=a=b) ⟨fun h=>by rw [h],fun h=>Inode.eq' h0 h1 h2 h3 h4 h⟩]
theorem s6 (b:Bool):b=false∨b=true:=by cases b <;> simp
theorem ab5 {x:Inode} (h:x.sz<2^48):x.data.length<2^48∧szM Ent.sz x.ents<2^48∧szM Attr.sz x.attrs<2^48∧x.ents.length<2^48∧x.attrs.length<2^48:=by
 simp only [Inode.sz] at h
 refine ⟨by omega,by omega,by omega,?_,?_⟩
 ·have:szM Ent.sz x.ents=x.ents.length+(x.ents.map Ent.sz).sum:=rfl
  omega
 ·have:szM Attr.sz x.attrs=x.attrs.length+(x.attrs.map Attr.sz).sum:=rfl
  omega
theorem kZ (x:Inode) (h:x.sz<2^48):bC Tryz.prog 159 [x.x] (.bool (dF x)) [.undef]:=by
 obtain ⟨h1,h2,h3,h4,h5⟩:=ab5 h
 refine U adr [] 2199023255559 [] fun w hP hQ=>?_
 unfold uY
 refine N ?_
 rcases s6 (inR x.ino 1 1000) with hA | hA
 ·have hz:=hA
  refine Kz (eH x.ino 1 1000) ?_
  simp [dF,hA]
 have hz:=hA
 refine Kz (eH x.ino 1 1000) ?_
 rcases s6 (inR x.links 0 1000) with hB | hB
 ·have hz:=hB
  refine Kz (eH x.links 0 1000) ?_
  simp [dF,hB]
 have hz:=hB
 refine Kz (eH x.links 0 1000) ?_
 (first | with_reducible refine rO _ ?_ ?_ | refine rP _ ?_ ?_) <;> intro hC
 rotate_left
 ·have hz:=hC
  refine Nz ?_
  simp [dF,hC]
 have hz:=hC
 refine Nz ?_
 (first | with_reducible refine rO _ ?_ ?_ | refine rP _ ?_ ?_) <;> intro hD
 ·have hz:=hD
  refine Nz ?_
  simp [dF]; omega
 have hz:=hD
 refine Nz ?_
 rcases s6 (vO x.ents) with hE | hE
 ·have hz:=hE
  refine Kz (ab3 x.ents h2) ?_
  simp [dF,hE]
 have hz:=hE
 refine Kz (ab3 x.ents h2) ?_
 rcases s6 (kJ x.attrs) with hF | hF
 ·have hz:=hF
  refine Kz (yO x.attrs h3) ?_
  simp [dF,hF]
 have hz:=hF
 refine Kz (yO x.attrs h3) ?_
 have key:dF x=r9 x:=by
  simp [dF,hA,hB,hC,hE,hF]; omega
 (first | with_reducible refine cQ _ ?_ ?_ | refine cR _ ?_ ?_) <;> intro k1
 ·refine N ?_
  rw [key,r9,lG k1,ai3 (p:=(x.ents.length:Int)=0) (q:=x.ents.length=0) (by omega)]
 refine N ?_
 (first | with_reducible refine cQ _ ?_ ?_ | refine cR _ ?_ ?_) <;> intro k2
 ·refine N ?_
  (first | with_reducible refine rO _ ?_ ?_ | refine rP _ ?_ ?_) <;> intro k3
  ·have hz:=k3
   refine Nz ?_
   rw [key,r9,lJ k1,lG k2,lE (show x.data.length=0 by omega),lS3]
  ·have hz:=k3
   refine Nz ?_
   rw [key,r9,lJ k1,lG k2,lB (show ¬ x.data.length=0 by omega),Bool.false_and]
 ·refine N ?_
  rw [key,r9,lJ k1,lJ k2]
theorem akX {x:Inode} (e:yC x.ents=false):dF x=false:=by simp [dF,vO,e]
theorem lA (x:Inode) (h:x.sz<2^48):bC Tryz.prog 146 [x.x] (.bool (dF x)) [.undef]:=by
 obtain ⟨h1,h2,h3,h4,h5⟩:=ab5 h
 obtain ⟨hl,hls⟩:=alC h2
 refine U adq [] 75557863725916202467359 [] fun w hP hQ=>?_
 unfold uW
 refine N ?_
 rcases s6 (inR x.ino 1 1000) with hA | hA
 ·have hz:=hA
  refine Kz (jI x.ino 1 1000) ?_
  simp [dF,hA]
 have hz:=hA
 refine Kz (jI x.ino 1 1000) ?_
 (first | with_reducible refine rO _ ?_ ?_ | refine rP _ ?_ ?_) <;> intro hD
 ·have hz:=hD
  refine Nz ?_
  simp [dF]; omega
 have hz:=hD
 refine Nz ?_
 (first | with_reducible refine rO _ ?_ ?_ | refine rP _ ?_ ?_) <;> intro hG
 ·have hz:=hG
  refine Nz ?_
  simp [dF,vO]; omega
 have hz:=hG
 refine Nz ?_
 rcases s6 (kJ x.attrs) with hF | hF
 ·have hz:=hF
  refine Kz (yP x.attrs h3) ?_
  simp [dF,hF]
 have hz:=hF
 refine Kz (yP x.attrs h3) ?_
 refine fH [2,3,4,5004] ?_
 refine N ?_
 refine aT [2,3,4,5004] (fun i:Nat=>[(30,.int .i64 i)]) (fun i=>i≤x.ents.length∧∀ k,k<i→dE (fun _=>aeY) vN x.ents k=true) (fun i=>x.ents.length-i) (0) hP hQ (rfl) (by simp) ?_
 rintro i ⟨hi,hk⟩ w1 hP1 hQ1
 refine N1 ?_
 (first | with_reducible refine cQ _ ?_ ?_ | refine cR _ ?_ ?_) <;> intro h1
 ·have hlt:i<x.ents.length:=by omega
  have hno:dE (fun _=>aeY) vN x.ents i=false→dF x=false:=fun e=>akX (oV hlt e)
  obtain hla:=hls _ (lO hlt)
  cases hN:aZ (x.ents[i]'hlt).name with
  | false=>
   have hz:=(bG h1)
   refine Nz1 ?_
   have hz:=hN
   refine Kz1 (eI (x.ents[i]'hlt).name (by omega)) ?_
   rw [hno (eV hlt (by simp [aeY,hN]))]
  | true=>
   cases hV:inR ((x.ents[i]'hlt).ino) 2 1000 with
   | false=>
    have hz:=(bG h1)
    refine Nz1 ?_
    have hz:=And.intro hN (bG h1)
    refine Kz1 (eI (x.ents[i]'hlt).name (by omega)) ?_
    have hz:=hV
    refine Kz1 (jI ((x.ents[i]'hlt).ino) 2 1000) ?_
    rw [hno (eV hlt (by simp [aeY,hV]))]
   | true=>
    cases i with
    | zero=>
     have hz:=(bG h1)
     refine Nz1 ?_
     have hz:=And.intro hN (bG h1)
     refine Kz1 (eI (x.ents[0]'hlt).name (by omega)) ?_
     have hz:=And.intro hV (bG h1)
     refine Kz1 (jI ((x.ents[0]'hlt).ino) 2 1000) ?_
     exact ⟨1,rfl,⟨by omega,g8 hk (by rw [fE hlt]; simp [aeY,hN,hV])⟩,by omega⟩
    | succ m=>
     have w4:decide ((0:Int)<((m+1:Nat):Int))=true:=lE (by omega)
     have hm:=bG (show ((m:Nat):Int)<(x.ents.length:Nat) by omega)
     cases hD:strLt (x.ents[m]'(by omega)).name (x.ents[m+1]'hlt).name with
     | false=>
      have hz:=(bG h1)
      refine Nz1 ?_
      have hz:=And.intro hN (bG h1)
      refine Kz1 (eI (x.ents[m+1]'hlt).name (by omega)) ?_
      have hz:=And.intro hV (And.intro w4 (And.intro a8 (And.intro hm (And.intro (bG h1) hD))))
      refine Kz1 (jI ((x.ents[m+1]'hlt).ino) 2 1000) ?_
      rw [hno (by rw [bU hlt,vN,← iF,hD]; simp)]
     | true=>
      have hz:=(bG h1)
      refine Nz1 ?_
      have hz:=And.intro hN (bG h1)
      refine Kz1 (eI (x.ents[m+1]'hlt).name (by omega)) ?_
      have hz:=And.intro hV (And.intro w4 (And.intro a8 (And.intro hm (And.intro (bG h1) hD))))
      refine Kz1 (jI ((x.ents[m+1]'hlt).ino) 2 1000) ?_
      exact ⟨m+1+1,rfl,⟨by omega,g8 hk (by rw [bU hlt,vN,← iF,hD]; simp [aeY,hN,hV])⟩,by omega⟩
 ·obtain rfl:i=x.ents.length:=by omega
  have hE:yC x.ents=true:=iW fun k h=>hk k h
  refine N1 ?_
  rcases s6 (inR x.links 0 1000) with hB | hB
  ·have hz:=hB
   refine Kz (jI x.links 0 1000) ?_
   simp [dF,hB]
  have hz:=hB
  refine Kz (jI x.links 0 1000) ?_
  (first | with_reducible refine cQ _ ?_ ?_ | refine cR _ ?_ ?_) <;> intro hC
  rotate_left
  ·refine N ?_
   simp [dF,hC]
  refine N ?_
  have key:dF x=r9 x:=by
   simp [dF,vO,hA,hB,hC,hE,hF,lE (show x.data.length≤100 by omega),lE (show x.ents.length≤10 by omega)]
  (first | with_reducible refine cQ _ ?_ ?_ | refine cR _ ?_ ?_) <;> intro k1
  ·refine N ?_
   rw [key,r9,lG k1,ai3 (p:=(x.ents.length:Int)=0) (q:=x.ents.length=0) (by omega)]
  refine N ?_
  (first | with_reducible refine cQ _ ?_ ?_ | refine cR _ ?_ ?_) <;> intro k2
  ·refine N ?_
   (first | with_reducible refine rO _ ?_ ?_ | refine rP _ ?_ ?_) <;> intro k3
   ·have hz:=k3
    refine Nz ?_
    rw [key,r9,lJ k1,lG k2,lE (show x.data.length=0 by omega),lS3]
   ·have hz:=k3
    refine Nz ?_
    rw [key,r9,lJ k1,lG k2,lB (show ¬ x.data.length=0 by omega),Bool.false_and]
  ·refine N ?_
   rw [key,r9,lJ k1,lJ k2]
def b9 (t:Tab) (i:Int):Option Nat:=t.inodes.findIdx? fun x=>decide (x.ino=i)
def zI:Inode:={ ino:=0,kind:=0,links:=0,data:=[],ents:=[],attrs:=[] }
def adU (t:Tab) (i:Int):Inode:=(aC t i).getD zI
theorem ae9 {α:Type} (p:α→Bool) (l:List α):l.find? p=(l.findIdx? p).bind fun k=>l[k]?:=by
 induction l with
 | nil=>rfl
 | cons x l ih=>
  by_cases h:p x=true
  ·rw [lK1 h,List.findIdx?_cons,lG h]; rfl
  ·rw [lC1 h,List.findIdx?_cons,lJ h,ih]
   cases List.findIdx? p l <;> simp
theorem ab6 (t:Tab) (i:Int):aC t i=(b9 t i).bind fun k=>t.inodes[k]?:=ae9 _ _
theorem sS {t:Tab} {i:Int} {k:Nat} (h:b9 t i=some k):k<t.inodes.length:=(lO2.1 h).1
theorem rB {t:Tab} {i:Int} {k:Nat} (h:b9 t i=some k):aC t i=some (t.inodes[k]'(sS h)):=by
 rw [ab6,h]; simp [sS h]
theorem yQ {t:Tab} {i:Int} (h:b9 t i=none):aC t i=none:=by rw [ab6,h]; rfl
theorem pY (t:Tab) (n:Int) (hl:t.inodes.length<2^48):bC Tryz.prog 109 [t.x,.int .i64 n] (.int .i64 (abP (b9 t n))) [.undef,.undef]:=by
 refine U akE [] 55 [] fun w hP hQ=>?_
 unfold aeK
 refine N ?_
 refine fH [4] ?_
 refine N ?_
 refine aT [4] (fun i:Nat=>[(5,.int .i64 i)]) (fun i=>i≤t.inodes.length∧∀ k,k<i→(h:k<t.inodes.length)→decide (t.inodes[k].ino=n)=false) (fun i=>t.inodes.length-i) (0) hP hQ (rfl) (by simp) ?_
 rintro i ⟨hi,hk⟩ w1 hP1 hQ1
 refine N1 ?_
 (first | with_reducible refine cQ _ ?_ ?_ | refine cR _ ?_ ?_) <;> intro h1
 ·have hz:=(bG h1)
  refine Nz1 ?_
  (first | with_reducible refine cQ _ ?_ ?_ | refine cR _ ?_ ?_) <;> intro h2
  ·refine N1 ?_
   rw [b9,oW (p:=fun x:Inode=>decide (x.ino=n)) hk (by omega) (lE h2)]; rfl
  ·refine N1 ?_
   exact ⟨i+1,rfl,⟨by omega,oB (p:=fun x:Inode=>decide (x.ino=n)) hk (by omega) (lB h2)⟩,by omega⟩
 ·obtain rfl:i=t.inodes.length:=by omega
  refine N1 ?_
  rw [b9,oX (p:=fun x:Inode=>decide (x.ino=n)) fun k h=>hk k h h]; rfl
theorem sC {g:Nat} {cs:List TV} {p:Inode→Bool} (hc:∀ v:Inode,bC Tryz.prog g [v.x,.xbox cs] (.bool (p v)) [.undef,.undef]) (l:List Inode) (hl:l.length<2^48) :
  bC Tryz.prog 129 [.ext 6 (l.map Inode.row),.fn g [.xbox cs]] (.int .i64 (abP (l.findIdx? p))) [.undef,.undef]:=by
 refine U pR [] 435 [] fun w hP hQ=>?_
 unfold iU
 refine N ?_
 refine fH [4,5] ?_
 refine N ?_
 refine aT [4,5] (fun i:Nat=>[(8,.int .i64 i)]) (fun i=>i≤l.length∧∀ k,k<i→(h:k<l.length)→p l[k]=false) (fun i=>l.length-i) (0) hP hQ (rfl) (by simp) ?_
 rintro i ⟨hi,hk⟩ w1 hP1 hQ1
 refine N1 ?_
 (first | with_reducible refine cQ _ ?_ ?_ | refine cR _ ?_ ?_) <;> intro h1
 ·have hz:=(bG h1)
  refine Nz1 ?_
  cases h2:p (l[i]'(by omega)) with
  | true=>
   have hz:=h2
   refine Kz1 (hc (l[i]'(by omega))) ?_
   rw [oW hk (by omega) h2]; rfl
  | false=>
   have hz:=h2
   refine Kz1 (hc (l[i]'(by omega))) ?_
   exact ⟨i+1,rfl,⟨by omega,oB hk (by omega) h2⟩,by omega⟩
 ·obtain rfl:i=l.length:=by omega
  refine N1 ?_
  rw [oX fun k h=>hk k h h]; rfl
theorem ab7 (x:Inode) (n:Int):bC Tryz.prog 147 [x.x,.xbox [.int .i64 n]] (.bool (decide (x.ino=n))) [.undef,.undef]:=by
 refine U aai [] 15 [] fun w hP hQ=>?_
 unfold qK
 exact N trivial
theorem sD (t:Tab) (n:Int) (hl:t.inodes.length<2^48):bC Tryz.prog 87 [t.x,.int .i64 n] (.int .i64 (abP (b9 t n))) [.undef,.undef]:=by
 refine U adn [] 31 [] fun w hP hQ=>?_
 unfold uS
 refine N ?_
 refine K (sC (fun v=>ab7 v n) t.inodes hl) ?_
 rfl
theorem vY {α:Type} (f:α→List TV) (h:∀ x,(f x).all mX=true) (l:List α):f5 (l.map f)=true:=by
 rw [f5,lW]
 intro r hr
 obtain ⟨x,_,rfl⟩:=lV1.1 hr
 exact h x
theorem adV (l:List Ent):f5 (l.map Ent.row)=true:=vY Ent.row (fun _=>rfl) l
theorem adW (l:List Attr):f5 (l.map Attr.row)=true:=vY Attr.row (fun _=>rfl) l
theorem akY (b:aA) (hl:b.length<2^40):bC Tryz.prog 84 [.ext 1 (aO b)] (.own 1 (aO b)) [.undef]:=by
 refine uM fun a len cap ha=>?_
 cases a with
 | none=>
  obtain rfl:b=[]:=by simpa [aO] using ha rfl
  refine U o9 [] 5 [] fun w hP hQ=>?_
  unfold jN
  refine N ?_
  rfl
 | some a=>
  refine U o9 [] 5 [] fun w hP hQ=>?_
  unfold jN
  exact N trivial
theorem akZ (l:List Ent) (hl:l.length<2^40):bC Tryz.prog 125 [.ext 2 (l.map Ent.row)] (.own 2 (l.map Ent.row)) [.undef]:=by
 refine uM fun a len cap ha=>?_
 cases a with
 | none=>
  obtain rfl:l=[]:=by simpa using ha rfl
  refine U qP [] 5 [] fun w hP hQ=>?_
  unfold mG
  exact N trivial
 | some a=>
  refine U qP [] 5 [] fun w hP hQ=>?_
  unfold mG
  refine N ?_
  have hz:=adV
  exact Nz trivial
theorem ak0 (l:List Attr) (hl:l.length<2^40):bC Tryz.prog 178 [.ext 2 (l.map Attr.row)] (.own 2 (l.map Attr.row)) [.undef]:=by
 refine uM fun a len cap ha=>?_
 cases a with
 | none=>
  obtain rfl:l=[]:=by simpa using ha rfl
  refine U pA [] 5 [] fun w hP hQ=>?_
  unfold jO
  exact N trivial
 | some a=>
  refine U pA [] 5 [] fun w hP hQ=>?_
  unfold jO
  refine N ?_
  have hz:=adW
  exact Nz trivial
theorem oE (x:Inode) (h:x.sz<2^40):bC Tryz.prog 122 [x.x] x.o [.undef]:=by
 obtain ⟨h1,h2,h3⟩:=dU h
 refine U aag [] 7 [] fun w hP hQ=>?_
 unfold qI
 refine N ?_
 refine K (akY x.data (by omega)) ?_
 refine K (akZ x.ents (by omega)) ?_
 exact K (ak0 x.attrs (by omega)) trivial
theorem l3 (x:Inode) (h:x.sz<2^40):bC Tryz.prog 140 [x.x] x.o [.undef]:=by
 obtain ⟨h1,h2,h3⟩:=dU h
 refine U age [] 15 [] fun w hP hQ=>?_
 unfold xS
 refine N ?_
 have hz:=And.intro vE (And.intro adV adW)
 exact Nz trivial
theorem cZ {t:Tab} {n:Nat} (h:t.sz<n):t.inodes.length<n∧∀ x ∈ t.inodes,x.sz<n:=by
 have h':szM Inode.sz t.inodes<n:=h
 refine ⟨by simp only [szM] at h'; omega,fun x hx=>?_⟩
 have:=aal (f:=Inode.sz) hx
 simp only [szM] at h'; omega
theorem oY (t:Tab) (n:Int) (h:t.sz<2^40):bC Tryz.prog 70 [t.x,.int .i64 n] (.tup [(adU t n).o,.bool (aC t n).isSome]) [.undef,.undef]:=by
 obtain ⟨h1,h2⟩:=cZ h
 have hPl:=sD t n (by omega)
 cases e:b9 t n with
 | none=>
  rw [e] at hPl
  rw [adU,yQ e]
  refine U vB [] 119 [] fun w hP hQ=>?_
  unfold pM
  refine N ?_
  refine K (hPl) ?_
  rfl
 | some k=>
  have hk:=sS e
  rw [e,show abP (some k)=(k:Int) from rfl] at hPl
  rw [adU,rB e]
  refine U vB [] 119 [] fun w hP hQ=>?_
  unfold pM
  refine N ?_
  refine K (hPl) ?_
  (first | with_reducible refine cQ _ ?_ ?_ | refine cR _ ?_ ?_) <;> intro hx
  ·exfalso; omega
  have hz:=(bG (show ((k:Nat):Int)<(t.inodes.length:Nat) by omega))
  refine Nz ?_
  refine K (oE (t.inodes[k]'hk) (h2 _ (lO hk))) ?_
  rfl
theorem sE (t:Tab) (n:Int) (h:t.sz<2^40):bC Tryz.prog 148 [t.x,.int .i64 n] (.tup [(adU t n).o,.bool (aC t n).isSome]) [.undef,.undef]:=by
 obtain ⟨h1,h2⟩:=cZ h
 have hPl:=pY t n (by omega)
 cases e:b9 t n with
 | none=>
  rw [e] at hPl
  rw [adU,yQ e]
  refine U vD [] 119 [] fun w hP hQ=>?_
  unfold pO
  refine N ?_
  refine K (hPl) ?_
  rfl
 | some k=>
  have hk:=sS e
  rw [e,show abP (some k)=(k:Int) from rfl] at hPl
  rw [adU,rB e]
  refine U vD [] 119 [] fun w hP hQ=>?_
  unfold pO
  refine N ?_
  refine K (hPl) ?_
  (first | with_reducible refine cQ _ ?_ ?_ | refine cR _ ?_ ?_) <;> intro hx
  ·exfalso; omega
  have hz:=(bG (show ((k:Nat):Int)<(t.inodes.length:Nat) by omega))
  refine Nz ?_
  refine K (l3 (t.inodes[k]'hk) (h2 _ (lO hk))) ?_
  rfl
theorem yR {t:Tab} (e:mM t=false):yD t=false:=by simp [yD,e]
theorem agF {t:Tab} (h:mM t=true):qZ t=match t.inodes with
  | []=>false
  | x::_=>decide (x.ino=1) && decide (x.kind=2):=by
 rw [mM,qX (fun a b c h1 h2=>by simp only [gI,decide_eq_true_eq] at *; omega)] at h
 obtain ⟨h1,h2⟩:=h
 unfold qZ aC
 cases hl:t.inodes with
 | nil=>rfl
 | cons x l=>
  rw [hl] at h2
  obtain ⟨a1,a2⟩:=lA1.1 h2
  have hx:=h1 0 (by rw [hl]; simp)
  simp only [hl,lP3,iX,lM] at hx
  have hx1:=((yF x).1 hx.1).ino.1
  by_cases e:x.ino=1
  ·rw [lK1 (by simp [e])]; simp [e]
  ·rw [lC1 (by simp [e])]
   have:l.find? (fun x=>decide (x.ino=1))=none:=by
    rw [List.find?_eq_none]
    intro y hy
    have:=a1 y hy
    simp only [gI,decide_eq_true_eq] at this
    simp; omega
   rw [this]; simp [e]
theorem afa (t:Tab) (h:t.sz<2^40):bC Tryz.prog 107 [t.x] (.bool (yD t)) [.undef]:=by
 obtain ⟨hl,hls⟩:=cZ h
 refine U ais [] 31 [] fun w hP hQ=>?_
 unfold abn
 refine N ?_
 rcases s6 (inR (t.inodes.length:Nat) 1 30) with hA | hA
 ·have hA':=ae4 hA
  have hz:=hA
  refine Kz (eH (t.inodes.length:Nat) 1 30) ?_
  by_cases h0:t.inodes.length≤30
  ·have:t.inodes=[]:=lM1.1 (by omega)
   have hr:qZ t=false:=by simp [qZ,aC,this]
   simp [yD,hr]
  ·simp [yD,h0]
 have hA':=(iY _ _ _).1 hA
 have hz:=hA
 refine Kz (eH (t.inodes.length:Nat) 1 30) ?_
 rcases s6 (inR t.next 2 1000) with hB | hB
 ·have hz:=hB
  refine Kz (eH t.next 2 1000) ?_
  simp [yD,hB]
 have hz:=hB
 refine Kz (eH t.next 2 1000) ?_
 refine fH [2,4,5004] ?_
 refine N ?_
 refine aT [2,4,5004] (fun i:Nat=>[(3,.int .i64 i)]) (fun i=>i≤t.inodes.length∧∀ k,k<i→dE (fun _=>iX t) gI t.inodes k=true) (fun i=>t.inodes.length-i) (0) hP hQ (rfl) (by simp) ?_
 rintro i ⟨hi,hk⟩ w1 hP1 hQ1
 refine N1 ?_
 (first | with_reducible refine cQ _ ?_ ?_ | refine cR _ ?_ ?_) <;> intro h1
 ·have hlt:i<t.inodes.length:=by omega
  have hno:dE (fun _=>iX t) gI t.inodes i=false→yD t=false:=fun e=>yR (oV hlt e)
  have hla:=hls _ (lO hlt)
  cases hN:dF (t.inodes[i]'hlt) with
  | false=>
   have hz:=(bG h1)
   refine Nz1 ?_
   have hz:=hN
   refine Kz1 (kZ (t.inodes[i]'hlt) (by omega)) ?_
   rw [hno (eV hlt (by simp [iX,hN]))]
  | true=>
   cases hV:decide (t.next≤(t.inodes[i]'hlt).ino) with
   | true=>
    have hV':=of_decide_eq_true hV
    have hz:=(bG h1)
    refine Nz1 ?_
    have hz:=And.intro hN hV
    refine Kz1 (kZ (t.inodes[i]'hlt) (by omega)) ?_
    rw [hno (eV hlt (by simp [iX]; omega))]
   | false=>
    have hV':=of_decide_eq_false hV
    cases i with
    | zero=>
     have hz:=(bG h1)
     refine Nz1 ?_
     have hz:=And.intro hN hV
     refine Kz1 (kZ (t.inodes[0]'hlt) (by omega)) ?_
     exact ⟨1,rfl,⟨by omega,g8 hk (by rw [fE hlt]; simp [iX,hN]; omega)⟩,by omega⟩
    | succ m=>
     have w4:decide ((0:Int)<((m+1:Nat):Int))=true:=lE (by omega)
     have hm:=bG (show ((m:Nat):Int)<(t.inodes.length:Nat) by omega)
     cases hD:decide ((t.inodes[m+1]'hlt).ino≤(t.inodes[m]'(by omega)).ino) with
     | true=>
      have hD':=of_decide_eq_true hD
      have hz:=(bG h1)
      refine Nz1 ?_
      have hz:=And.intro hN (And.intro hV (And.intro w4 (And.intro a8 (And.intro hm (And.intro (bG h1) hD)))))
      refine Kz1 (kZ (t.inodes[m+1]'hlt) (by omega)) ?_
      rw [hno (by rw [bU hlt,gI]; simp; omega)]
     | false=>
      have hD':=of_decide_eq_false hD
      have hz:=(bG h1)
      refine Nz1 ?_
      have hz:=And.intro hN (And.intro hV (And.intro w4 (And.intro a8 (And.intro hm (And.intro (bG h1) hD)))))
      refine Kz1 (kZ (t.inodes[m+1]'hlt) (by omega)) ?_
      exact ⟨m+1+1,rfl,⟨by omega,g8 hk (by rw [bU hlt,gI]; simp [iX,hN]; omega)⟩,by omega⟩
 ·obtain rfl:i=t.inodes.length:=by omega
  have hE:mM t=true:=iW fun k h=>hk k h
  have hr:=agF hE
  have key:yD t=qZ t:=by
   simp [yD,hB,hE,lE (show t.inodes.length≤30 by omega)]
  obtain ⟨x,l,hx⟩:∃ x l,t.inodes=x::l:=by
   cases hh:t.inodes with
   | nil=>rw [hh] at hA'; simp at hA'
   | cons x l=>exact ⟨x,l,rfl⟩
  rw [hx] at hr
  replace hr:qZ t=(decide (x.ino=1) && decide (x.kind=2)):=hr
  have g0:t.inodes[0]?=some x:=by rw [hx]; rfl
  have c0:decide ((0:Int)<(t.inodes.length:Nat))=true:=lE (by omega)
  have hz:=And.intro g0 Int.toNat_zero
  refine Nz1 ?_
  (first | with_reducible refine rO _ ?_ ?_ | refine rP _ ?_ ?_) <;> intro g1
  ·have hz:=And.intro g1 (And.intro g0 Int.toNat_zero)
   refine Nz ?_
   rw [key,hr,lE g1,lS3]
  ·have hz:=g1
   refine Nz ?_
   rw [key,hr,lB g1,Bool.false_and]
theorem afb (t:Tab) (h:t.sz<2^40):bC Tryz.prog 85 [t.x] (.bool (yD t)) [.undef]:=by
 obtain ⟨hl,hls⟩:=cZ h
 refine U aiq [] 1835135 [] fun w hP hQ=>?_
 unfold abl
 refine N ?_
 (first | with_reducible refine rO _ ?_ ?_ | refine rP _ ?_ ?_) <;> intro hA
 ·have hz:=hA
  refine Nz ?_
  simp [yD]; omega
 have hz:=hA
 refine Nz ?_
 rcases s6 (inR t.next 2 1000) with hB | hB
 ·have hz:=hB
  refine Kz (jI t.next 2 1000) ?_
  simp [yD,hB]
 have hz:=hB
 refine Kz (jI t.next 2 1000) ?_
 refine fH [2,3,4,5004] ?_
 refine N ?_
 refine aT [2,3,4,5004] (fun i:Nat=>[(20,.int .i64 i)]) (fun i=>i≤t.inodes.length∧∀ k,k<i→dE (fun _=>iX t) gI t.inodes k=true) (fun i=>t.inodes.length-i) (0) hP hQ (rfl) (by simp) ?_
 rintro i ⟨hi,hk⟩ w1 hP1 hQ1
 refine N1 ?_
 (first | with_reducible refine cQ _ ?_ ?_ | refine cR _ ?_ ?_) <;> intro h1
 ·have hlt:i<t.inodes.length:=by omega
  have hno:dE (fun _=>iX t) gI t.inodes i=false→yD t=false:=fun e=>yR (oV hlt e)
  have hla:=hls _ (lO hlt)
  cases hN:dF (t.inodes[i]'hlt) with
  | false=>
   have hz:=(bG h1)
   refine Nz1 ?_
   have hz:=hN
   refine Kz1 (lA (t.inodes[i]'hlt) (by omega)) ?_
   rw [hno (eV hlt (by simp [iX,hN]))]
  | true=>
   cases hV:decide (t.next≤(t.inodes[i]'hlt).ino) with
   | true=>
    have hV':=of_decide_eq_true hV
    have hz:=(bG h1)
    refine Nz1 ?_
    have hz:=And.intro hN hV
    refine Kz1 (lA (t.inodes[i]'hlt) (by omega)) ?_
    rw [hno (eV hlt (by simp [iX]; omega))]
   | false=>
    have hV':=of_decide_eq_false hV
    cases i with
    | zero=>
     have hz:=(bG h1)
     refine Nz1 ?_
     have hz:=And.intro hN hV
     refine Kz1 (lA (t.inodes[0]'hlt) (by omega)) ?_
     exact ⟨1,rfl,⟨by omega,g8 hk (by rw [fE hlt]; simp [iX,hN]; omega)⟩,by omega⟩
    | succ m=>
     have w4:decide ((0:Int)<((m+1:Nat):Int))=true:=lE (by omega)
     have hm:=bG (show ((m:Nat):Int)<(t.inodes.length:Nat) by omega)
     cases hD:decide ((t.inodes[m+1]'hlt).ino≤(t.inodes[m]'(by omega)).ino) with
     | true=>
      have hD':=of_decide_eq_true hD
      have hz:=(bG h1)
      refine Nz1 ?_
      have hz:=And.intro hN (And.intro hV (And.intro w4 (And.intro a8 (And.intro hm (And.intro (bG h1) hD)))))
      refine Kz1 (lA (t.inodes[m+1]'hlt) (by omega)) ?_
      rw [hno (by rw [bU hlt,gI]; simp; omega)]
     | false=>
      have hD':=of_decide_eq_false hD
      have hz:=(bG h1)
      refine Nz1 ?_
      have hz:=And.intro hN (And.intro hV (And.intro w4 (And.intro a8 (And.intro hm (And.intro (bG h1) hD)))))
      refine Kz1 (lA (t.inodes[m+1]'hlt) (by omega)) ?_
      exact ⟨m+1+1,rfl,⟨by omega,g8 hk (by rw [bU hlt,gI]; simp [iX,hN]; omega)⟩,by omega⟩
 ·obtain rfl:i=t.inodes.length:=by omega
  have hE:mM t=true:=iW fun k h=>hk k h
  have key:yD t=qZ t:=by
   simp [yD,hB,hE,lE (show t.inodes.length≤30 by omega)]
  have hI:=oY t 1 h
  refine N1 ?_
  cases e:aC t 1 with
  | none=>
   have hr:qZ t=false:=by rw [qZ,e]
   rw [e] at hI
   refine K (hI) ?_
   rw [key,hr]
  | some x=>
   have hr:qZ t=decide (x.kind=2):=by rw [qZ,e]
   rw [adU,e] at hI
   refine K (hI) ?_
   rw [key,hr]; rfl
theorem aav {α:Type} (f g:α→Nat) (l:List α) (h:∀ x ∈ l,f x≤g x):(l.map f).sum≤(l.map g).sum:=by
 induction l with
 | nil=>simp
 | cons x l ih=>
  have:=ih fun y hy=>h y (by simp [hy])
  have:=h x (by simp)
  simp only [lP,lB2]; omega
def lkF (n:Int) (x:Inode):Nat:=(eS x).count n
theorem ab8 (t:Tab) (n:Int):bA t n=(t.inodes.map (lkF n)).sum:=rfl
theorem an6 (n:Int) (x:Inode):lkF n x≤x.sz:=by
 have h1:lkF n x≤(eS x).length:=List.count_le_length
 have h2:(eS x).length≤x.ents.length:=by
  unfold eS; split <;> simp
 have h3:x.ents.length≤x.sz:=by simp only [Inode.sz,szM]; omega
 omega
theorem mQ (t:Tab) (n:Int) (i:Nat):((t.inodes.take i).map (lkF n)).sum≤t.sz:=by
 have h1:=adw (lkF n) t.inodes i
 have h2:=aav (lkF n) Inode.sz t.inodes fun x _=>an6 n x
 have h3:t.sz=t.inodes.length+(t.inodes.map Inode.sz).sum:=rfl
 omega
theorem ai4 {n:Int} {x:Inode} (h:x.kind=2):lkF n x=(x.ents.map Ent.ino).count n:=by rw [lkF,eS,lG h]
theorem alD {n:Int} {x:Inode} (h:¬ x.kind=2):lkF n x=0:=by rw [lkF,eS,lJ h]; rfl
theorem afc {l:List Ent} {k:Nat} (h:k<l.length) (n:Int):((l.take (k+1)).map Ent.ino).count n=((l.take k).map Ent.ino).count n+if l[k].ino=n then 1 else 0:=by
 rw [List.take_add_one,lK h,lM2,List.count_append]
 simp only [Option.toList_some,lP,lA2]
 rw [List.count_singleton]
 simp
theorem vZ (l:List Ent) (k:Nat) (n:Int):((l.take k).map Ent.ino).count n≤l.length:=by
 have h1:((l.take k).map Ent.ino).count n≤((l.take k).map Ent.ino).length:=List.count_le_length
 simp only [lJ1,lR] at h1
 omega
theorem agG (t:Tab) (n:Int) (h:t.sz<2^40):bC Tryz.prog 108 [t.x,.int .i64 n] (.int .i64 (bA t n:Nat)) [.undef,.undef]:=by
 obtain ⟨hl,hls⟩:=cZ h
 refine U ado [] 247 [] fun w hP hQ=>?_
 unfold uU
 refine N ?_
 refine fH [7] ?_
 refine N ?_
 refine aT [7] (fun s:Nat × Nat=>[(5,.int .i64 (s.1:Nat)),(6,.int .i64 (s.2:Nat))]) (fun s=>s.2≤t.inodes.length∧s.1=((t.inodes.take s.2).map (lkF n)).sum) (fun s=>t.inodes.length-s.2) ((0,0)) hP hQ (rfl) (by simp) ?_
 rintro ⟨c,i⟩ ⟨hi,hc⟩ w1 hP1 hQ1
 refine N1 ?_
 simp only at hi hc
 (first | with_reducible refine cQ _ ?_ ?_ | refine cR _ ?_ ?_) <;> intro h1
 ·have hlt:i<t.inodes.length:=by omega
  have hs:=aeO (lkF n) t.inodes i hlt
  have hb:=mQ t n i
  have hx:=hls _ (lO hlt)
  have hel:(t.inodes[i]'hlt).ents.length<2^40:=(dU hx).2.1
  refine N1 ?_
  by_cases hk2:(t.inodes[i]'hlt).kind=2
  ·have hf:=ai4 (n:=n) hk2
   refine fH [] ?_
   refine N1 ?_
   refine aT [] (fun s:Nat × Nat=>[(5,.int .i64 (s.1:Nat)),(7,.int .i64 (s.2:Nat))]) (fun s=>s.2≤(t.inodes[i]'hlt).ents.length∧s.1=c+(((t.inodes[i]'hlt).ents.take s.2).map Ent.ino).count n) (fun s=>(t.inodes[i]'hlt).ents.length-s.2) ((c,0)) hP1 hQ1 (rfl) (by simp) ?_
   rintro ⟨d,k⟩ ⟨hk,hd⟩ w2 hP2 hQ2
   refine N2 ?_
   simp only at hk hd
   have hcl:=vZ (t.inodes[i]'hlt).ents k n
   have hz:=(bG h1)
   refine Nz2 ?_
   (first | with_reducible refine rO _ ?_ ?_ | refine rP _ ?_ ?_) <;> intro g1
   ·have hct:=afc (l:=(t.inodes[i]'hlt).ents) (k:=k) (by omega) n
    have hz:=And.intro g1 (And.intro (bG h1) hk2)
    refine Nz2 ?_
    have hz:=And.intro (bG h1) (bG g1)
    refine Nz2 ?_
    (first | with_reducible refine cQ _ ?_ ?_ | refine cR _ ?_ ?_) <;> intro g2
    ·rw [lG g2] at hct
     refine N2 ?_
     exact ⟨(d+1,k+1),rfl,⟨by simp only; omega,by simp only; omega⟩,by simp only; omega⟩
    ·rw [lJ g2] at hct
     refine N2 ?_
     exact ⟨(d,k+1),rfl,⟨by simp only; omega,by simp only; omega⟩,by simp only; omega⟩
   ·obtain rfl:k=(t.inodes[i]'hlt).ents.length:=by omega
    rw [lZ1] at hd
    have hz:=g1
    refine Nz2 ?_
    exact ⟨(d,i+1),rfl,⟨by simp only; omega,by simp only; omega⟩,by simp only; omega⟩
  ·have hf:=alD (n:=n) hk2
   refine fH [] ?_
   refine N1 ?_
   refine aT [] (fun s:Nat × Nat=>[(5,.int .i64 (s.1:Nat)),(7,.int .i64 (s.2:Nat))]) (fun s=>s=(c,0)) (fun s=>0) ((c,0)) hP1 hQ1 (rfl) (rfl) ?_
   rintro ⟨d,k⟩ hk w2 hP2 hQ2
   refine N2 ?_
   obtain ⟨rfl,rfl⟩:=Prod.mk.inj hk
   have hz:=(bG h1)
   refine Nz2 ?_
   (first | with_reducible refine rO _ ?_ ?_ | refine rP _ ?_ ?_) <;> intro g1
   ·have hz:=And.intro g1 (And.intro (bG h1) hk2)
    refine Nz2 ?_
    exact ⟨(d,i+1),rfl,⟨by simp only; omega,by simp only; omega⟩,by simp only; omega⟩
   ·have hz:=g1
    refine Nz2 ?_
    exact ⟨(d,i+1),rfl,⟨by simp only; omega,by simp only; omega⟩,by simp only; omega⟩
 ·obtain rfl:i=t.inodes.length:=by omega
  rw [lZ1,← ab8] at hc
  subst hc
  exact N1 trivial
theorem agH (t:Tab) (n:Int) (h:t.sz<2^40):bC Tryz.prog 86 [t.x,.int .i64 n] (.int .i64 (bA t n:Nat)) [.undef,.undef]:=by
 obtain ⟨hl,hls⟩:=cZ h
 refine U adm [] 14695095 [] fun w hP hQ=>?_
 unfold uR
 refine N ?_
 refine fH [7,9,21,22,23,5007,5009] ?_
 refine N ?_
 refine aT [7,9,21,22,23,5007,5009] (fun s:Nat × Nat=>[(5,.int .i64 (s.1:Nat)),(13,.int .i64 (s.2:Nat))]) (fun s=>s.2≤t.inodes.length∧s.1=((t.inodes.take s.2).map (lkF n)).sum) (fun s=>t.inodes.length-s.2) ((0,0)) hP hQ (rfl) (by simp) ?_
 rintro ⟨c,i⟩ ⟨hi,hc⟩ w1 hP1 hQ1
 refine N1 ?_
 simp only at hi hc
 (first | with_reducible refine cQ _ ?_ ?_ | refine cR _ ?_ ?_) <;> intro h1
 ·have hlt:i<t.inodes.length:=by omega
  have hs:=aeO (lkF n) t.inodes i hlt
  have hb:=mQ t n i
  have hx:=hls _ (lO hlt)
  have hz:=(bG h1)
  refine Nz1 ?_
  generalize t.inodes[i]'hlt=x at *
  have hel:x.ents.length<2^40:=(dU hx).2.1
  (first | with_reducible refine cQ _ ?_ ?_ | refine cR _ ?_ ?_) <;> intro hk2
  ·have hf:=ai4 (n:=n) hk2
   refine N1 ?_
   refine fH [9,5009] ?_
   refine N1 ?_
   refine aT [9,5009] (fun s:Nat × Nat=>[(5,.int .i64 (s.1:Nat)),(23,.int .i64 (s.2:Nat))]) (fun s=>s.2≤x.ents.length∧s.1=c+((x.ents.take s.2).map Ent.ino).count n) (fun s=>x.ents.length-s.2) ((c,0)) hP1 hQ1 (rfl) (by simp) ?_
   rintro ⟨d,k⟩ ⟨hk,hd⟩ w2 hP2 hQ2
   refine N2 ?_
   simp only at hk hd
   have hcl:=vZ x.ents k n
   (first | with_reducible refine cQ _ ?_ ?_ | refine cR _ ?_ ?_) <;> intro g1
   ·have hct:=afc (l:=x.ents) (k:=k) (by omega) n
    have hz:=(bG g1)
    refine Nz2 ?_
    (first | with_reducible refine cQ _ ?_ ?_ | refine cR _ ?_ ?_) <;> intro g2
    ·rw [lG g2] at hct
     refine N2 ?_
     exact ⟨(d+1,k+1),rfl,⟨by simp only; omega,by simp only; omega⟩,by simp only; omega⟩
    ·rw [lJ g2] at hct
     refine N2 ?_
     exact ⟨(d,k+1),rfl,⟨by simp only; omega,by simp only; omega⟩,by simp only; omega⟩
   ·obtain rfl:k=x.ents.length:=by omega
    rw [lZ1] at hd
    refine N2 ?_
    exact ⟨(d,i+1),rfl,⟨by simp only; omega,by simp only; omega⟩,by simp only; omega⟩
  ·have hf:=alD (n:=n) hk2
   refine N1 ?_
   exact ⟨(c,i+1),rfl,⟨by simp only; omega,by simp only; omega⟩,by simp only; omega⟩
 ·obtain rfl:i=t.inodes.length:=by omega
  rw [lZ1,← ab8] at hc
  subst hc
  exact N1 trivial
def eO (n:Int):List TV:=[.int .i64 n]
theorem amY (l:List Int):f5 (l.map eO)=true:=vY eO (fun _=>rfl) l
theorem an7 {l:List Int} {n:Int} (hk:∀ k,(h:k<l.length)→decide (l[k]=n)=false):n ∉ l:=by
 intro h
 obtain ⟨k,hk',e⟩:=lU1 h
 have:=hk k hk'
 simp [e] at this
theorem afd (l:List Int) (n:Int) (hl:l.length<2^48):bC Tryz.prog 212 [.ext 1 (l.map eO),.int .i64 n] (.bool (decide (n ∈ l))) [.undef,.undef]:=by
 refine U aiy [] 51 [] fun w hP hQ=>?_
 unfold abt
 refine N ?_
 refine fH [4] ?_
 refine N ?_
 refine aT [4] (fun i:Nat=>[(5,.int .i64 i)]) (fun i=>i≤l.length∧∀ k,k<i→(h:k<l.length)→decide (l[k]=n)=false) (fun i=>l.length-i) (0) hP hQ (rfl) (by simp) ?_
 rintro i ⟨hi,hk⟩ w1 hP1 hQ1
 refine N1 ?_
 (first | with_reducible refine cQ _ ?_ ?_ | refine cR _ ?_ ?_) <;> intro h1
 ·simp +decide (maxSteps:=9^9) (disch:=omega) only[↓SB0,SX,seval,hQ,hQ1,bG h1,eO]
  (first | with_reducible refine cQ _ ?_ ?_ | refine cR _ ?_ ?_) <;> intro h2
  ·refine N1 ?_
   rw [lE (by rw [← h2]; exact lO _)]
  ·refine N1 ?_
   exact ⟨i+1,rfl,⟨by omega,oB (p:=fun x:Int=>decide (x=n)) hk (by omega) (lB h2)⟩,by omega⟩
 ·obtain rfl:i=l.length:=by omega
  refine N1 ?_
  rw [lB (an7 fun k h=>hk k h h)]
theorem ai5 {l:List Int} (hu:Up l) {n:Int} {k:Nat} (hk:k≤l.length) (hn:n ∉ l) (h1:∀ j,k≤j→(h:j<l.length)→n<l[j]) (h2:k=0∨∃ h:k-1<l.length,l[k-1]≤n) :
  aiB l n=l.take k++n::l.drop k:=by
 have hlow:∀ j,j<k→(h:j<l.length)→l[j]<n:=by
  intro j hj hjl
  rcases h2 with h2 | ⟨h2,h3⟩
  ·omega
  ·have hne:l[j]≠n:=fun e=>hn (by rw [← e]; exact lO _)
   by_cases e:j=k-1
   ·subst e; omega
   ·have:=lG3.1 hu j (k-1) hjl h2 (by omega)
    omega
 have e1:l.takeWhile (·<n)=l.take k:=by
  have:l=l.take k++l.drop k:=(lH k l).symm
  rw [this,List.takeWhile_append_of_pos,lH]
  ·have:(l.drop k).takeWhile (fun x=>decide (x<n))=[]:=by
    cases hd:l.drop k with
    | nil=>rfl
    | cons x r=>
     rw [List.takeWhile_cons_of_neg]
     have hkl:k<l.length:=by
      have:=congrArg List.length hd
      simp at this; omega
     have hx:x=l[k]:=by
      have:=congrArg (fun r=>r[0]?) hd
      simp [hkl] at this
      exact this.symm
     have:=h1 k (lR1 _) hkl
     simp; omega
   rw [this]; simp
  ·intro x hx
   obtain ⟨j,hj,rfl⟩:=lU1 hx
   simp only [lR] at hj
   rw [List.getElem_take]
   have:=hlow j (by omega) (by omega)
   simpa using this
 have e2:l.dropWhile (·<n)=l.drop k:=by
  have h:=List.takeWhile_append_dropWhile (p:=fun x=>decide (x<n)) (l:=l)
  rw [e1] at h
  exact List.append_cancel_left (h.trans (lH k l).symm)
 rw [aiB,lJ hn,e1,e2]
theorem afe {l:List Int} {k:Nat} {h:Int} (hk:k<l.length):((l.take (k+1)++h::l.drop (k+1)))[k]?=some l[k]:=by
 rw [lF3 (by simp; omega),lP1,lG (by omega),lK hk]
theorem ak1 {l:List Int} {k:Nat} {h:Int} (hk:k≤l.length):(l.take k++h::l.drop k).length=l.length+1:=by simp; omega
theorem aff {l:List Int} {k:Nat} (h x:Int) (hk:k≤l.length):(l.take k++h::l.drop k).set k x=l.take k++x::l.drop k:=by
 have:(l.take k).length=k:=by simp; omega
 rw [List.set_append_right _ _ (by omega)]
 congr 1
 rw [this,Nat.sub_self]; rfl
theorem ai6 {l:List Int} {k:Nat} (hk:k<l.length):l.take (k+1)++l[k]::l.drop (k+1)=l.take k++l[k]::l.drop k:=by
 rw [lU hk,lG2]
 congr 1
 rw [← lF2 hk]; rfl
theorem ai7 (L:List Int) (k:Nat) (n:Int):(L.map eO).modify k (fun r=>TV.int .i64 n::r.drop 1)=(L.set k n).map eO:=by
 apply lW2
 intro j
 rw [lX1,lI1,lI1,lW3]
 by_cases e:k=j
 ·subst e
  by_cases hk:k<L.length
  ·simp [hk,eO]
  ·simp [hk]
 ·simp [e]
theorem amZ (l:List Int) (n:Int):l.map eO++[[TV.int .i64 n]]=(l.take l.length++n::l.drop l.length).map eO:=by simp [eO]
theorem afg (l:List Int) (n:Int) (hu:Up l) (hl:l.length<2^40):bC Tryz.prog 162 [.ext 1 (l.map eO),.int .i64 n] (.ext 1 ((aiB l n).map eO)) [.undef,.undef]:=by
 by_cases hn:n ∈ l
 ·have hH:=afd l n (by omega)
  rw [lE hn] at hH
  rw [aiB,lG hn]
  refine U abx [] 115 [] fun w hP hQ=>?_
  unfold uZ
  refine N ?_
  exact K (hH) trivial
 ·refine abh (ret:=.own 1 ((aiB l n).map eO)) ?_
  have hH:=afd l n (by omega)
  rw [lB hn] at hH
  refine U abx [] 115 [] fun w hP hQ=>?_
  unfold uZ
  refine N ?_
  refine K (hH) ?_
  simp +decide (maxSteps:=9^9) (disch:=omega) only[↓SB0,SX,seval,hQ,amY,lT,a8]
  rw [amZ]
  refine fH [] ?_
  refine N ?_
  refine aT [] (fun s:Nat × Int=>[(5,.own 1 ((l.take s.1++s.2::l.drop s.1).map eO)),(6,.int .i64 (s.1:Nat))]) (fun s=>s.1≤l.length∧∀ j,s.1≤j→(h:j<l.length)→n<l[j]) (fun s=>s.1) ((l.length,n)) hP hQ (rfl) (by simp; omega) ?_
  rintro ⟨k,x⟩ ⟨hk,hj⟩ w1 hP1 hQ1
  refine N1 ?_
  simp only at hk hj
  have hlen:=ak1 (h:=x) hk
  cases k with
  | zero=>
   refine N1 ?_
   rw [ai5 hu hk hn hj (.inl rfl)]
   simp [eO]
  | succ k=>
   have hkl:k<l.length:=by omega
   have w4:decide ((0:Int)<((k+1:Nat):Int))=true:=lE (by omega)
   simp +decide (maxSteps:=9^9) (disch:=omega) only[↓SB0,SX,seval,hQ,hQ1,w4,hlen,a8,afe (h:=x) hkl,eO]
   (first | with_reducible refine cQ _ ?_ ?_ | refine cR _ ?_ ?_) <;> intro g
   ·simp +decide (maxSteps:=9^9) (disch:=omega) only[↓SB0,SX,seval,hQ,hQ1,hlen,a8,afe (h:=x) hkl,eO]
    exact ⟨(k,l[k]),by simp only [ai7,aff _ _ hk,ai6 hkl],⟨by simp only; omega,fun j hj1 hj2=>by
     by_cases e:j=k
     ·subst e; exact g
     ·exact hj j (by simp only at hj1; omega) hj2⟩,by simp only; omega⟩
   ·simp +decide (maxSteps:=9^9) (disch:=omega) only[↓SB0,SX,seval,hQ,hQ1,hlen,eO]
    rw [ai5 hu hk hn hj (.inr ⟨by simpa using hkl,by simp only [Nat.add_sub_cancel]; omega⟩),ai7,aff _ _ hk]
theorem yS {α β:Type} (f:β→α→β) (l:List α) (a:β) (i:Nat) (h:i<l.length):(l.take (i+1)).foldl f a=f ((l.take i).foldl f a) l[i]:=by
 rw [lU h,List.foldl_append]; rfl
theorem aaw {t:Tab} {j:Int}:(nbT t j).isSome=(b9 t j).isSome:=by
 rw [nbT]
 cases e:b9 t j with
 | none=>rw [yQ e]; rfl
 | some k=>rw [rB e]; rfl
theorem ak2 {t:Tab} {j:Int} {k:Nat} (out:List Int) (h:b9 t j=some k):aeQ (nbT t) out j=aiB out j:=by
 rw [aeQ,aaw,h]; rfl
theorem am0 {t:Tab} {j:Int} (out:List Int) (h:b9 t j=none):aeQ (nbT t) out j=out:=by
 rw [aeQ,aaw,h]; rfl
structure Nums (t:Tab) (l:List Int):Prop where
 up:Up l
 some':∀ x ∈ l,(nbT t x).isSome=true
theorem Nums.len {t:Tab} {l:List Int} (h:Nums t l):l.length≤t.inodes.length:=oS t l (qR h.up) h.some'
theorem Nums.addJs {t:Tab} {l:List Int} (h:Nums t l) (js:List Int):Nums t (js.foldl (aeQ (nbT t)) l):=
 ⟨aeS (nbT t) js l h.up,fun x hx=>by
  rcases (abF (nbT t) js l x).1 hx with h' | h'
  ·exact h.some' x h'
  ·exact h'.2⟩
theorem Nums.addIs {t:Tab} {l:List Int} (h:Nums t l) (is:List Int):Nums t (is.foldl (aeR (nbT t)) l):=
 ⟨aeT (nbT t) is l h.up,fun x hx=>by
  rcases (abG (nbT t) is l x).1 hx with h' | h'
  ·exact h.some' x h'
  ·exact h'.2⟩
theorem ai8 {t:Tab} {i:Int} (out:List Int) (h:aC t i=none):aeR (nbT t) out i=out:=by rw [aeR,nbT,h]; rfl
theorem ai9 {t:Tab} {i:Int} {x:Inode} (out:List Int) (h:aC t i=some x) (hk:¬ x.kind=2):aeR (nbT t) out i=out:=by rw [aeR,nbT,h]; simp [eS,hk]
theorem ak3 {t:Tab} {i:Int} {x:Inode} (out:List Int) (h:aC t i=some x) (hk:x.kind=2):aeR (nbT t) out i=(x.ents.map Ent.ino).foldl (aeQ (nbT t)) out:=by rw [aeR,nbT,h]; simp [eS,hk]
theorem agI (f:List Int→Int→List Int) (l:List Ent) (a:List Int) (k:Nat) (h:k<l.length):((l.take (k+1)).map Ent.ino).foldl f a=f (((l.take k).map Ent.ino).foldl f a) l[k].ino:=by
 have:=yS f (l.map Ent.ino) a k (by simpa using h)
 rw [← lP4,← lP4] at this
 rw [this]; simp
theorem ab9 (t:Tab) (l:List Int) (h:t.sz<2^40) (hn:Nums t l):bC Tryz.prog 112 [t.x,.ext 1 (l.map eO)] (.ext 1 ((aiC (nbT t) l).map eO)) [.undef,.undef]:=by
 obtain ⟨hl,hls⟩:=cZ h
 have hll:=hn.len
 refine U agb [] 1015 [] fun w hP hQ=>?_
 unfold xP
 refine N ?_
 refine fH [7,8,9,5007] ?_
 refine N ?_
 refine aT [7,8,9,5007] (fun i:Nat=>[(5,.ext 1 (((l.take i).foldl (aeR (nbT t)) l).map eO)),(6,.int .i64 i)]) (fun i=>i≤l.length) (fun i=>l.length-i) (0) hP hQ (rfl) (by simp) ?_
 rintro i hi w1 hP1 hQ1
 refine N1 ?_
 (first | with_reducible refine cQ _ ?_ ?_ | refine cR _ ?_ ?_) <;> intro h1
 ·have hlt:i<l.length:=by omega
  have hI:=sE t (l[i]'hlt) h
  have hfo:=yS (aeR (nbT t)) l l i hlt
  have hno:=hn.addIs (l.take i)
  generalize hO:(l.take i).foldl (aeR (nbT t)) l=out at *
  cases e:aC t (l[i]'hlt) with
  | none=>
   rw [adU,e] at hI
   rw [ai8 _ e] at hfo
   simp +decide (maxSteps:=9^9) (disch:=omega) only[↓SB0,SX,seval,hQ,hQ1,bG h1,eO]
   refine K1 (hI) ?_
   refine fH [] ?_
   refine N1 ?_
   refine aT [] (fun k:Nat=>[(5,.ext 1 (out.map eO)),(9,.int .i64 k)]) (fun k=>k=0) (fun k=>0) (0) hP1 hQ1 (rfl) (rfl) ?_
   rintro k hk w2 hP2 hQ2
   refine N2 ?_
   subst hk
   refine N2 ?_
   exact ⟨i+1,by simp only [hfo]; rfl,by omega,by omega⟩
  | some x=>
   have hx:=hls x (aM e).1
   have hel:x.ents.length<2^40:=(dU hx).2.1
   rw [adU,e] at hI
   simp only [lY,lQ2] at hI
   by_cases hk2:x.kind=2
   ·rw [ak3 _ e hk2] at hfo
    simp +decide (maxSteps:=9^9) (disch:=omega) only[↓SB0,SX,seval,hQ,hQ1,bG h1,eO]
    refine K1 (hI) ?_
    refine fH [] ?_
    refine N1 ?_
    refine aT [] (fun k:Nat=>[(5,.ext 1 ((((x.ents.take k).map Ent.ino).foldl (aeQ (nbT t)) out).map eO)),(9,.int .i64 k)]) (fun k=>k≤x.ents.length) (fun k=>x.ents.length-k) (0) hP1 hQ1 (rfl) (by simp) ?_
    rintro k hk w2 hP2 hQ2
    refine N2 ?_
    have hno2:=hno.addJs ((x.ents.take k).map Ent.ino)
    have hl2:=hno2.len
    (first | with_reducible refine rO _ ?_ ?_ | refine rP _ ?_ ?_) <;> intro g1
    ·have hkl:k<x.ents.length:=by omega
     have hf2:=agI (aeQ (nbT t)) x.ents out k hkl
     generalize ((x.ents.take k).map Ent.ino).foldl (aeQ (nbT t)) out=o2 at *
     have hA:=pY t (x.ents[k]'hkl).ino (by omega)
     have hz:=And.intro g1 hk2
     refine Nz2 ?_
     cases e2:b9 t (x.ents[k]'hkl).ino with
     | none=>
      rw [e2] at hA
      rw [am0 _ e2] at hf2
      have hz:=(bG g1)
      refine Nz2 ?_
      refine K2 (hA) ?_
      exact ⟨k+1,by simp only [hf2,hk2]; rfl,by omega,by omega⟩
     | some m=>
      rw [e2,show abP (some m)=(m:Int) from rfl] at hA
      rw [ak2 _ e2] at hf2
      have hz:=(bG g1)
      refine Nz2 ?_
      refine K2 (hA) ?_
      (first | with_reducible refine cQ _ ?_ ?_ | refine cR _ ?_ ?_) <;> intro g3
      ·have hz:=(bG g1)
       refine Nz2 ?_
       (first | refine aI hP2 (afg o2 (x.ents[k]'hkl).ino hno2.up (by omega)) (.inr rfl) ?_ | refine aF hP2 (afg o2 (x.ents[k]'hkl).ino hno2.up (by omega)) (.inr rfl) ?_)
       refine N2 ?_
       exact ⟨k+1,by simp only [hf2,hk2]; rfl,by omega,by omega⟩
      ·exfalso; omega
    ·obtain rfl:k=x.ents.length:=by omega
     rw [lZ1] at *
     have hz:=g1
     refine Nz2 ?_
     exact ⟨i+1,by simp only [hfo]; rfl,by omega,by omega⟩
   ·rw [ai9 _ e hk2] at hfo
    simp +decide (maxSteps:=9^9) (disch:=omega) only[↓SB0,SX,seval,hQ,hQ1,bG h1,eO]
    refine K1 (hI) ?_
    refine fH [] ?_
    refine N1 ?_
    refine aT [] (fun k:Nat=>[(5,.ext 1 (out.map eO)),(9,.int .i64 k)]) (fun k=>k=0) (fun k=>0) (0) hP1 hQ1 (rfl) (rfl) ?_
    rintro k hk w2 hP2 hQ2
    refine N2 ?_
    subst hk
    refine N2 ?_
    (first | with_reducible refine rO _ ?_ ?_ | refine rP _ ?_ ?_) <;> intro g1
    ·have hz:=And.intro g1 hk2
     refine Nz2 ?_
     exact ⟨i+1,by simp only [hfo]; rfl,by omega,by omega⟩
    ·have hz:=g1
     refine Nz2 ?_
     exact ⟨i+1,by simp only [hfo]; rfl,by omega,by omega⟩
 ·obtain rfl:i=l.length:=by omega
  simp +decide (maxSteps:=9^9) (disch:=omega) only[↓SB0,SX,seval,hQ,hQ1,lZ1]
  rfl
def rdV (t:Tab):Nat→AV
 | 0=>.own 1 [eO 1]
 | i+1=>.ext 1 ((cL (nbT t) (i+1)).map eO)
theorem yT (t:Tab) (h:t.sz<2^40):bC Tryz.prog 50 [t.x] (.ext 1 ((eG t).map eO)) [.undef]:=by
 obtain ⟨hl,hls⟩:=cZ h
 have hA:=pY t 1 (by omega)
 cases e:b9 t 1 with
 | none=>
  have hr:eG t=[]:=by rw [eG,qS,lJ]; rw [aaw,e]; simp
  rw [e] at hA
  rw [hr]
  refine abh (ret:=.own 1 []) ?_
  refine U vA [] 31 [] fun w hP hQ=>?_
  unfold pL
  refine N ?_
  exact K (hA) trivial
 | some m=>
  have hm:=sS e
  have h1s:(nbT t 1).isSome=true:=by rw [aaw,e]; rfl
  have hr:eG t=cL (nbT t) t.inodes.length:=by rw [eG,qS,lG h1s]
  rw [e,show abP (some m)=(m:Int) from rfl] at hA
  rw [hr]
  have hnum:∀ i,Nums t (cL (nbT t) i):=fun i=>⟨iM _ i,fun x hx=>j5 _ (nV _ h1s i x hx)⟩
  refine U vA [(112,[.b,.m],[])] 31 [] fun w hP hQ=>?_
  unfold pL
  refine N ?_
  refine K (hA) ?_
  (first | with_reducible refine cQ _ ?_ ?_ | refine cR _ ?_ ?_) <;> intro g0
  ·exfalso; omega
  refine N ?_
  refine fH [] ?_
  refine N ?_
  refine aT [] (fun i:Nat=>[(3,rdV t i),(4,.int .i64 i)]) (fun i=>i≤t.inodes.length) (fun i=>t.inodes.length-i) (0) hP hQ (rfl) (by simp) ?_
  rintro i hi w1 hP1 hQ1
  refine N1 ?_
  cases i with
  | zero=>
   have hN:=af2 (ab9 t [1] h (hnum 0))
   simp only [rdV]
   (first | with_reducible refine cQ _ ?_ ?_ | refine cR _ ?_ ?_) <;> intro h1
   ·refine N1 ?_
    (first | refine aI hP1 (hN) (.inr rfl) ?_ | refine aF hP1 (hN) (.inr rfl) ?_)
    refine N1 ?_
    exact ⟨1,rfl,by omega,by omega⟩
   ·exfalso; omega
  | succ i=>
   have hN:=ab9 t (cL (nbT t) (i+1)) h (hnum (i+1))
   simp only [rdV]
   (first | with_reducible refine cQ _ ?_ ?_ | refine cR _ ?_ ?_) <;> intro h1
   ·refine N1 ?_
    (first | refine aI hP1 (hN) (.inr rfl) ?_ | refine aF hP1 (hN) (.inr rfl) ?_)
    refine N1 ?_
    exact ⟨i+1+1,rfl,by omega,by omega⟩
   ·have he:i+1=t.inodes.length:=by omega
    refine N1 ?_
    rw [he]
section
open Go.Proofs Go.Shelf
def s7:Go.Shelf.Ren:=⟨fun | 189=>111 | 125=>145 | 257=>161 | 128=>196 | 129=>197 | 294=>203 | 295=>204 | 296=>205 | 297=>206 | 298=>207 | 299=>208 | 216=>209 | 300=>210 | 301=>211 | 328=>239 | 329=>233 | 330=>234 | 331=>240 | 332=>241 | 215=>242 | 343=>259 | n=>n,
 fun | 28=>53 | 3=>3 | 46=>141 | 0=>0 | 51=>178 | 53=>180 | 4=>4 | 183=>171 | 182=>170 | 131=>175 | 5=>5 | 9=>9 | 218=>200 | 222=>204 | 228=>233 | 229=>35 | n=>n,
 fun | n=>n⟩
theorem sU:Lays.n189 Tryz.prog s7 where
 mixed:=by kernel_rfl
 f125:=Tryz.func145.trans (congrArg some (by kernel_rfl))
 f128:=Tryz.func196.trans (congrArg some (by kernel_rfl))
 f129:=Tryz.func197.trans (congrArg some (by kernel_rfl))
 f189:=Tryz.func111.trans (congrArg some (by kernel_rfl))
 f215:=Tryz.func242.trans (congrArg some (by kernel_rfl))
 f216:=Tryz.func209.trans (congrArg some (by kernel_rfl))
 f257:=Tryz.func161.trans (congrArg some (by kernel_rfl))
 f294:=Tryz.func203.trans (congrArg some (by kernel_rfl))
 f295:=Tryz.func204.trans (congrArg some (by kernel_rfl))
 f296:=Tryz.func205.trans (congrArg some (by kernel_rfl))
 f297:=Tryz.func206.trans (congrArg some (by kernel_rfl))
 f298:=Tryz.func207.trans (congrArg some (by kernel_rfl))
 f299:=Tryz.func208.trans (congrArg some (by kernel_rfl))
 f300:=Tryz.func210.trans (congrArg some (by kernel_rfl))
 f301:=Tryz.func211.trans (congrArg some (by kernel_rfl))
 f328:=Tryz.func239.trans (congrArg some (by kernel_rfl))
 f329:=Tryz.func233.trans (congrArg some (by kernel_rfl))
 f330:=Tryz.func234.trans (congrArg some (by kernel_rfl))
 f331:=Tryz.func240.trans (congrArg some (by kernel_rfl))
 f332:=Tryz.func241.trans (congrArg some (by kernel_rfl))
 f343:=Tryz.func259.trans (congrArg some (by kernel_rfl))
 t0:=Tryz.underlying0
 a0:=Tryz.isAgg0
 z0:=Tryz.sizeOf0
 v0:=Tryz.zeroValue0
 t3:=Tryz.underlying3
 a3:=Tryz.isAgg3
 z3:=Tryz.sizeOf3
 v3:=Tryz.zeroValue3
 t4:=Tryz.underlying4
 a4:=Tryz.isAgg4
 z4:=Tryz.sizeOf4
 v4:=Tryz.zeroValue4
 t5:=Tryz.underlying5
 a5:=Tryz.isAgg5
 z5:=Tryz.sizeOf5
 v5:=Tryz.zeroValue5
 t9:=Tryz.underlying9
 a9:=Tryz.isAgg9
 z9:=Tryz.sizeOf9
 v9:=Tryz.zeroValue9
 t28:=Tryz.underlying53
 a28:=Tryz.isAgg53
 z28:=Tryz.sizeOf53
 v28:=Tryz.zeroValue53
 t46:=Tryz.underlying141
 a46:=Tryz.isAgg141
 z46:=Tryz.sizeOf141
 v46:=Tryz.zeroValue141
 t51:=Tryz.underlying178
 a51:=Tryz.isAgg178
 z51:=Tryz.sizeOf178
 v51:=Tryz.zeroValue178
 t53:=Tryz.underlying180
 a53:=Tryz.isAgg180
 z53:=Tryz.sizeOf180
 v53:=Tryz.zeroValue180
 t131:=Tryz.underlying175
 a131:=Tryz.isAgg175
 z131:=Tryz.sizeOf175
 v131:=Tryz.zeroValue175
 t182:=Tryz.underlying170
 a182:=Tryz.isAgg170
 z182:=Tryz.sizeOf170
 v182:=Tryz.zeroValue170
 t183:=Tryz.underlying171
 a183:=Tryz.isAgg171
 z183:=Tryz.sizeOf171
 v183:=Tryz.zeroValue171
 t218:=Tryz.underlying200
 a218:=Tryz.isAgg200
 z218:=Tryz.sizeOf200
 v218:=Tryz.zeroValue200
 t222:=Tryz.underlying204
 a222:=Tryz.isAgg204
 z222:=Tryz.sizeOf204
 v222:=Tryz.zeroValue204
 t228:=Tryz.underlying233
 a228:=Tryz.isAgg233
 z228:=Tryz.sizeOf233
 v228:=Tryz.zeroValue233
 t229:=Tryz.underlying35
 a229:=Tryz.isAgg35
 z229:=Tryz.sizeOf35
 v229:=Tryz.zeroValue35
end
theorem ak4 {w:World} {o:Bool} {F:aK}:∀ (l:List Int) {cs:List Value},Row w o F cs (l.map eO).flatten→cs=l.map (Value.int .i64)∧∀ b,F b=0:=by
 intro l
 induction l generalizing F with
 | nil=>
  intro cs h
  cases h with
  | nil _ _ hF=>exact ⟨rfl,hF⟩
 | cons n l ih=>
  intro cs h
  have e:((n::l).map eO).flatten=.int .i64 n::(l.map eO).flatten:=by simp [eO]
  rw [e] at h
  cases h with
  | int _ _ _ _ vs _ h=>
   obtain ⟨e1,e2⟩:=ih h
   exact ⟨by rw [e1]; rfl,e2⟩
theorem ak5 {w:World} {o:Bool} (l:List Int):Row w o (fun _=>0) (l.map (Value.int .i64)) (l.map eO).flatten:=by
 induction l with
 | nil=>exact .nil _ _ fun _=>rfl
 | cons n l ih=>
  have e:((n::l).map eO).flatten=.int .i64 n::(l.map eO).flatten:=by simp [eO]
  rw [e]
  exact .int _ _ _ _ _ _ ih
abbrev s8 (l:List Int):List Int:=l.mergeSort fun x y=>decide (x≤y)
theorem an8 (l:List Int) (hl:l.length<2^40):bC Tryz.prog 111 [.own 1 (l.map eO)] (.tup []) [.own 1 ((s8 l).map eO)]:=by
 refine ⟨⟨_,Tryz.func111,by kernel_rfl,by kernel_rfl⟩,rfl,?_⟩
 intro w vs F X r h1 h2 h3
 have hlen:(s8 l).length=l.length:=List.length_mergeSort l
 cases r with
 | own _ F1 F2 _ s es v vs ys hr hn hF=>
  cases hn with
  | nil _ _ hF2 hX=>
   rcases Row.sl_inv hr with ⟨rfl,he,h0⟩ | ⟨G1,b,off,cap,C,ty,fr,cs,rfl,hb,hfr,hcap,hle,hes,hcs,hc,hrow,hG⟩
   ·have hl0:l=[]:=by simpa using he
    subst hl0
    refine (Any.slices_Sort_int_none sU none 0 w).mono ?_
    rintro e w' ⟨rfl,rfl⟩
    refine ⟨.tuple #[],F,X,rfl,?_,h1,h2,⟨lR1 _,.refl _⟩,fun b _ _=>rfl,fun b hb=>.inl hb,fun b hb=>⟨.inl hb,h3 b hb⟩⟩
    refine .tup F (fun _=>0) F X (fun _=>0) X [] [] _ _ RepA.znil ?_ (fun x=>by omega) (fun x=>by omega)
    exact .own F F1 F2 X 1 _ _ _ _ (by simpa [s8] using hr) (.nil _ _ hF2 hX) hF
   ·obtain ⟨hce,hG1⟩:=ak4 l hrow
    have hrl:(l.map eO).length=l.length:=lJ1 _
    have hcsl:cs.length=l.length:=by rw [hce,lJ1]
    rw [hrl] at hle ⊢
    have hsz:off+l.length≤C.size:=by omega
    have hbl:b<w.heap.size:=(Array.getElem?_eq_some_iff.1 hb).1
    have hH:Go.Sort.Holds (Value.int .i64) w b off l.toArray:=by
     intro j hj
     have hj':j<l.length:=by simpa using hj
     have e1:=hc j (by omega)
     rw [hce,lI1,lK hj'] at e1
     refine ⟨?_,?_⟩
     ·simp only [World.cell?,hb,lD,e1,lC]
      simp [getElem!_pos,hj']
     ·have:=hfr (off+j) (by omega)
      simp [World.frozen?,hb]
      simpa using this
    refine (Any.slices_Sort_int sU b off cap l w hH hbl (by omega)).mono ?_
    rintro e w' ⟨rfl,n,os,rfl⟩
    have hw:∀ x,x≠b→x<w.heap.size→(Go.Sort.grow (Go.Sort.putRow (Value.int .i64) (Go.Sort.ahead w n) b off (s8 l).toArray) os).heap[x]?=w.heap[x]?:=by
     intro x hx hxl
     simp only [Go.Sort.grow,Go.Sort.putRow,Go.Sort.mapBlock,Go.Sort.ahead]
     rw [Array.getElem?_append_left (by simpa using hxl),lM4,lJ (Ne.symm hx)]
    have hwb:(Go.Sort.grow (Go.Sort.putRow (Value.int .i64) (Go.Sort.ahead w n) b off (s8 l).toArray) os).heap[b]?=some (.cells (Go.Sort.putCells (Value.int .i64) off (s8 l).toArray C) ty fr):=by
     simp only [Go.Sort.grow,Go.Sort.putRow,Go.Sort.mapBlock,Go.Sort.ahead]
     rw [Array.getElem?_append_left (by simpa using hbl),lM4,lG rfl,hb]; rfl
    have hsz2:(Go.Sort.putCells (Value.int .i64) off (s8 l).toArray C).size=C.size:=by simp [Go.Sort.putCells]
    have hrow2:Row (Go.Sort.grow (Go.Sort.putRow (Value.int .i64) (Go.Sort.ahead w n) b off (s8 l).toArray) os) true F1 [.slice (some ⟨b,off,none⟩) l.length cap] [.sl 1 ((s8 l).map eO)]:=by
     refine Row.of_sl (F1:=fun _=>0) (cs:=(s8 l).map (Value.int .i64)) (by rw [lJ1,hlen]) hwb (by rw [hsz2]; exact hfr) (by rw [hsz2]; exact hcap) (by rw [lJ1,hlen]; exact hle) ?_ ?_ ?_ (ak5 _) (fun x=>by have:=hG x; have:=hG1 x; omega)
     ·intro e he
      obtain ⟨x,_,rfl⟩:=lV1.1 he
      rfl
     ·simp
     ·intro k hk
      rw [lJ1,hlen] at hk
      rw [lI1,lK (by rw [hlen]; exact hk)]
      have hin:off≤off+k∧off+k<off+(s8 l).length:=by omega
      simp only [Go.Sort.putCells,Array.getElem?_mapIdx,List.size_toArray]
      rw [lE1 (by omega),lC,lG hin,lC]
      simp [Nat.add_sub_cancel_left,getElem!_pos,hlen,hk]
    refine ⟨.tuple #[],F,X,rfl,?_,h1,h2,⟨?_,⟨rfl,rfl⟩⟩,fun x hx h0=>hw x (fun e=>?_) hx,fun x hx=>.inl hx,fun x hx=>⟨.inl hx,?_⟩⟩
    ·refine .tup F (fun _=>0) F X (fun _=>0) X [] [] _ _ RepA.znil ?_ (fun x=>by omega) (fun x=>by omega)
     exact .own F F1 F2 X 1 _ _ _ _ hrow2 (.nil _ _ hF2 hX) hF
    ·simp only [Go.Sort.grow,Go.Sort.putRow,Go.Sort.mapBlock,Go.Sort.ahead,Array.size_append,Array.size_modify]; omega
    ·subst e
     have:=hF x; have:=hG x
     simp at *; omega
    ·have:=h3 x hx
     simp only [Go.Sort.grow,Go.Sort.putRow,Go.Sort.mapBlock,Go.Sort.ahead,Array.size_append,Array.size_modify]; omega
theorem adX (l:List Int) (n:Int) (hl:l.length<2^48):bC Tryz.prog 160 [.ext 1 (l.map eO),.int .i64 n] (.int .i64 (abP (l.findIdx? fun x=>decide (x=n)))) [.undef,.undef]:=by
 refine U aaj [] 435 [] fun w hP hQ=>?_
 unfold qL
 refine N ?_
 refine fH [4,5] ?_
 refine N ?_
 refine aT [4,5] (fun i:Nat=>[(8,.int .i64 i)]) (fun i=>i≤l.length∧∀ k,k<i→(h:k<l.length)→decide (l[k]=n)=false) (fun i=>l.length-i) (0) hP hQ (rfl) (by simp) ?_
 rintro i ⟨hi,hk⟩ w1 hP1 hQ1
 refine N1 ?_
 (first | with_reducible refine cQ _ ?_ ?_ | refine cR _ ?_ ?_) <;> intro h1
 ·simp +decide (maxSteps:=9^9) (disch:=omega) only[↓SB0,SX,seval,hQ,hQ1,bG h1,eO]
  (first | with_reducible refine cQ _ ?_ ?_ | refine cR _ ?_ ?_) <;> intro h2
  ·refine N1 ?_
   rw [oW (p:=fun x:Int=>decide (x=n)) hk (by omega) (lE h2.symm)]; rfl
  ·refine N1 ?_
   exact ⟨i+1,rfl,⟨by omega,oB (p:=fun x:Int=>decide (x=n)) hk (by omega) (lB fun e=>h2 e.symm)⟩,by omega⟩
 ·obtain rfl:i=l.length:=by omega
  refine N1 ?_
  rw [oX (p:=fun x:Int=>decide (x=n)) fun k h=>hk k h h]; rfl
theorem wR (l:List Int) (n:Int) (hl:l.length<2^48):bC Tryz.prog 110 [.ext 1 (l.map eO),.int .i64 n] (.bool (decide (n ∈ l))) [.undef,.undef]:=by
 have hI:=adX l n hl
 cases e:l.findIdx? (fun x=>decide (x=n)) with
 | none=>
  have hno:n ∉ l:=fun h=>by
   rw [lU3] at e
   have:=e n h
   simp at this
  rw [e] at hI
  refine U mT [] 19 [] fun w hP hQ=>?_
  unfold g7
  refine N ?_
  refine K (hI) ?_
  rw [lB hno]
 | some k=>
  obtain ⟨hk,h1,_⟩:=lO2.1 e
  have hyes:n ∈ l:=by
   have:l[k]=n:=by simpa using h1
   rw [← this]; exact lO hk
  rw [e,show abP (some k)=(k:Int) from rfl] at hI
  refine U mT [] 19 [] fun w hP hQ=>?_
  unfold g7
  refine N ?_
  refine K (hI) ?_
  rw [lE hyes,lE (by omega)]
def rC (out:List Int) (x:Inode):Nat:=if x.ino ∈ out then 0 else x.ents.length
def adY (t:Tab) (out:List Int):Nat:=(t.inodes.map (rC out)).sum
theorem ak6 (t:Tab) (out:List Int):adY t out≤t.sz:=by
 have h2:=aav (rC out) Inode.sz t.inodes fun x _=>by
  have:rC out x≤x.ents.length:=by unfold rC; split <;> omega
  have h3:x.ents.length≤x.sz:=by simp only [Inode.sz,szM]; omega
  omega
 have h3:t.sz=t.inodes.length+(t.inodes.map Inode.sz).sum:=rfl
 have h4:adY t out=(t.inodes.map (rC out)).sum:=rfl
 omega
theorem aja {t:Tab} {out:List Int} {x:Inode} (hx:x ∈ t.inodes) (hn:x.ino ∉ out):adY t (out++[x.ino])+x.ents.length≤adY t out:=by
 unfold adY
 generalize t.inodes=l at hx
 have mono:∀ y:Inode,rC (out++[x.ino]) y≤rC out y:=by
  intro y
  unfold rC
  by_cases h:y.ino ∈ out
  ·rw [lG h,lG (by simp [h])]; omega
  ·rw [lJ h]; split <;> omega
 induction l with
 | nil=>cases hx
 | cons y l ih=>
  simp only [lP,lB2]
  rcases lF.1 hx with rfl | hx
  ·have h1:rC (out++[x.ino]) x=0:=by unfold rC; rw [if_pos (by simp)]
   have h2:rC out x=x.ents.length:=by unfold rC; rw [if_neg hn]
   have h3:=aav (rC (out++[x.ino])) (rC out) l fun y _=>mono y
   omega
  ·have:=ih hx
   have:=mono y
   omega
theorem aax (l:List Int) (n:Int):l.map eO++[[TV.int .i64 n]]=(l++[n]).map eO:=by simp [eO]
theorem ajb (l:List Int) (es:List Ent) (k:Nat) (h:k<es.length):(l++(es.take k).map Ent.ino)++[es[k].ino]=l++(es.take (k+1)).map Ent.ino:=by
 rw [lU h,lM2,lG2]; rfl
theorem agJ (t:Tab) (h:t.sz<2^40):bC Tryz.prog 49 [t.x] (.own 1 ((eG t).map eO)) [.undef]:=by
 obtain ⟨hl,hls⟩:=cZ h
 refine U adk [(111,[.l],[])] 15393162789631 [] fun w hP hQ=>?_
 unfold uP
 refine N ?_
 refine fH [5,6,7,9,41,42,43,5006,5009] ?_
 refine N ?_
 refine aT [5,6,7,9,41,42,43,5006,5009] (fun s:List Int × List Int=>[(3,.own 1 (s.1.map eO)),(4,.own 1 (s.2.map eO))]) (fun s=>Que (nbT t) s.1 s.2∧s.2.length+adY t s.1≤1+t.sz) (fun s=>s.2.length+adY t s.1) (([],[1])) hP hQ (rfl) (⟨akK _,by have:=ak6 t []; simp only [lV,List.length_nil]; omega⟩) ?_
 rintro ⟨out,next⟩ ⟨hq,hb⟩ w1 hP1 hQ1
 refine N1 ?_
 simp only at hq hb
 have hol:=amL (nbT t) (oS t) hq
 cases next with
 | nil=>
  have hs:=agp (nbT t) (oS t) hq
  refine N1 ?_
  refine K (an8 out (by omega)) ?_
  rw [show s8 out=eG t from hs]
 | cons i next=>
  have hnl:(next.length:Nat)<2^41:=by simp only [lV] at hb; omega
  have hI:=oY t i h
  have w0:decide ((0:Int)<((next.length+1:Nat):Int))=true:=lE (by omega)
  have tk:List.take next.length (next.map eO)=next.map eO:=by rw [lD2 (by simp)]
  cases e:aC t i with
  | none=>
   rw [adU,e] at hI
   simp +decide (maxSteps:=9^9) (disch:=omega) only[↓SB0,SX,seval,hQ,hQ1,w0,eO,a8,tk]
   refine K1 (hI) ?_
   exact ⟨(out,next),rfl,⟨aeU _ hq (.inl (by rw [nbT,e]; rfl)),by simp only [lV] at *; omega⟩,by simp only [lV]; omega⟩
  | some x=>
   obtain ⟨hxm,hxi⟩:=aM e
   have hel:x.ents.length<2^40:=(dU (hls x hxm)).2.1
   rw [adU,e] at hI
   simp only [lY,lQ2] at hI
   have hC:=wR out i (by omega)
   by_cases hin:i ∈ out
   ·rw [lE hin] at hC
    simp +decide (maxSteps:=9^9) (disch:=omega) only[↓SB0,SX,seval,hQ,hQ1,w0,eO,a8,tk]
    refine K1 (hI) ?_
    refine K1 (hC) ?_
    exact ⟨(out,next),rfl,⟨aeU _ hq (.inr hin),by simp only [lV] at *; omega⟩,by simp only [lV]; omega⟩
   ·rw [lB hin] at hC
    have hrest:=aja (t:=t) (out:=out) hxm (by rw [hxi]; exact hin)
    rw [hxi] at hrest
    simp +decide (maxSteps:=9^9) (disch:=omega) only[↓SB0,SX,seval,hQ,hQ1,w0,eO,a8,tk]
    refine K1 (hI) ?_
    refine K1 (hC) ?_
    (first | with_reducible refine cQ _ ?_ ?_ | refine cR _ ?_ ?_) <;> intro hk2
    ·have hq2:=aeV (nbT t) hq (l:=x.ents.map Ent.ino) (by rw [nbT,e]; simp [eS,hk2]) hin
     refine N1 ?_
     rw [aax]
     refine fH [9,5009] ?_
     refine N1 ?_
     refine aT [9,5009] (fun k:Nat=>[(4,.own 1 ((next++(x.ents.take k).map Ent.ino).map eO)),(43,.int .i64 k)]) (fun k=>k≤x.ents.length) (fun k=>x.ents.length-k) (0) hP1 hQ1 (by simp only [List.take_zero,lA2,lP2]; rfl) (by simp) ?_
     rintro k hk w2 hP2 hQ2
     refine N2 ?_
     have hlen:(next++(x.ents.take k).map Ent.ino).length<2^42:=by simp only [lT,lJ1,lR]; omega
     (first | with_reducible refine cQ _ ?_ ?_ | refine cR _ ?_ ?_) <;> intro g1
     ·have hp:=ajb next x.ents k (by omega)
      generalize next++(x.ents.take k).map Ent.ino=nx at *
      have hz:=(bG g1)
      refine Nz2 ?_
      exact ⟨k+1,by simp only [aax,hp]; rfl,by omega,by omega⟩
     ·obtain rfl:k=x.ents.length:=by omega
      rw [lZ1] at *
      refine N2 ?_
      exact ⟨(out++[i],next++x.ents.map Ent.ino),rfl,⟨hq2,by simp only [lV,lT,lJ1] at *; omega⟩,by simp only [lV,lT,lJ1] at *; omega⟩
    ·have hq2:=aeV (nbT t) hq (l:=[]) (by rw [nbT,e]; simp [eS,hk2]) hin
     rw [lP2] at hq2
     refine N1 ?_
     exact ⟨(out++[i],next),by simp only [aax],⟨hq2,by simp only [lV] at *; omega⟩,by simp only [lV]; omega⟩
theorem tM {t:Tab} {x:Inode} (hx:x ∈ t.inodes) (h:kK t x=false):bJ t=false:=by
 have:t.inodes.all (kK t)=false:=by
  rw [lY3]
  exact ⟨x,hx,by simp [h]⟩
 simp [bJ,this]
theorem aca {t:Tab} {x:Inode} {e:Ent} (he:e ∈ x.ents) (h:b9 t e.ino=none):kK t x=false:=by
 have:yE t x=false:=by
  rw [yE,lY3]
  exact ⟨e,he,by rw [yQ h]; simp⟩
 simp [kK,this]
theorem acb {t:Tab} {x:Inode} (h:∀ k,(hk:k<x.ents.length)→(b9 t (x.ents[k]).ino).isSome=true):yE t x=true:=by
 rw [yE,lW]
 intro e he
 obtain ⟨k,hk,rfl⟩:=lU1 he
 obtain ⟨m,hm⟩:=lB1.1 (h k hk)
 rw [rB hm]; rfl
theorem tN {α:Type} {l:List α} {p:α→Prop} {i:Nat} (hk:∀ k,k<i→(h:k<l.length)→p l[k]) (hi:(h:i<l.length)→p l[i]):∀ k,k<i+1→(h:k<l.length)→p l[k]:=by
 intro k hlt hl
 by_cases e:k=i
 ·subst e; exact hi hl
 ·exact hk k (by omega) hl
theorem afh {α:Type} {l:List α} {p:α→Bool} (h:∀ k,(hk:k<l.length)→p l[k]=true):l.all p=true:=by
 rw [lW]
 intro x hx
 obtain ⟨k,hk,rfl⟩:=lU1 hx
 exact h k hk
theorem fW (t:Tab) (h:t.sz<2^40):bC Tryz.prog 46 [t.x] (.bool (bJ t)) [.undef]:=by
 obtain ⟨hl,hls⟩:=cZ h
 have hLk:=mQ t
 refine U af4 [] 63 [] fun w hP hQ=>?_
 unfold xI
 refine N ?_
 rcases s6 (yD t) with hT | hT
 ·have hz:=hT
  refine Kz (afa t h) ?_
  simp [bJ,hT]
 have hz:=hT
 refine Kz (afa t h) ?_
 (first | refine aI hP (yT t h) (.inr rfl) ?_ | refine aF hP (yT t h) (.inr rfl) ?_)
 refine N ?_
 (first | with_reducible refine cQ _ ?_ ?_ | refine cR _ ?_ ?_) <;> intro hR
 rotate_left
 ·refine N ?_
  have:decide ((eG t).length=t.inodes.length)=false:=lB (by omega)
  simp [bJ,this]
 refine N ?_
 refine fH [2,4,5,5004] ?_
 refine N ?_
 refine aT [2,4,5,5004] (fun i:Nat=>[(3,.int .i64 i)]) (fun i=>i≤t.inodes.length∧∀ k,k<i→(h:k<t.inodes.length)→kK t t.inodes[k]=true) (fun i=>t.inodes.length-i) (0) hP hQ (rfl) (by simp) ?_
 rintro i ⟨hi,hk⟩ w1 hP1 hQ1
 refine N1 ?_
 (first | with_reducible refine cQ _ ?_ ?_ | refine cR _ ?_ ?_) <;> intro h1
 ·have hlt:i<t.inodes.length:=by omega
  have hx:=hls _ (lO hlt)
  have hm:=lO hlt
  have hnx:kK t (t.inodes[i]'hlt)=true→∀ k,k<i+1→(h:k<t.inodes.length)→kK t t.inodes[k]=true:=fun hp=>tN (p:=fun x=>kK t x=true) hk (fun _=>hp)
  have hz:=(bG h1)
  refine Nz1 ?_
  generalize t.inodes[i]'hlt=x at *
  have hel:x.ents.length<2^40:=(dU hx).2.1
  refine K1 (agG t x.ino h) ?_
  (first | with_reducible refine cQ _ ?_ ?_ | refine cR _ ?_ ?_) <;> intro h2
  rotate_left
  ·refine N1 ?_
   rw [tM hm (by rw [kK,lB (by omega)]; rfl)]
  refine N1 ?_
  refine fH [2] ?_
  refine N1 ?_
  refine aT [2] (fun k:Nat=>[(5,.int .i64 k)]) (fun k=>k≤x.ents.length∧∀ j,j<k→(h:j<x.ents.length)→(b9 t (x.ents[j]).ino).isSome=true) (fun k=>x.ents.length-k) (0) hP1 hQ1 (rfl) (by simp) ?_
  rintro k ⟨hk1,hk2⟩ w2 hP2 hQ2
  refine N2 ?_
  (first | with_reducible refine cQ _ ?_ ?_ | refine cR _ ?_ ?_) <;> intro h3
  ·have hkl:k<x.ents.length:=by omega
   have hA:=pY t (x.ents[k]'hkl).ino (by omega)
   cases e:b9 t (x.ents[k]'hkl).ino with
   | none=>
    rw [e] at hA
    have hz:=(bG h3)
    refine Nz2 ?_
    refine K2 (hA) ?_
    rw [tM hm (aca (lO hkl) e)]
   | some m=>
    rw [e,show abP (some m)=(m:Int) from rfl] at hA
    have hz:=(bG h3)
    refine Nz2 ?_
    refine K2 (hA) ?_
    (first | with_reducible refine cQ _ ?_ ?_ | refine cR _ ?_ ?_) <;> intro h4
    ·exfalso; omega
    ·refine N2 ?_
     exact ⟨k+1,rfl,⟨by omega,tN (p:=fun y:Ent=>(b9 t y.ino).isSome=true) hk2 (fun _=>by rw [e]; rfl)⟩,by omega⟩
  ·obtain rfl:k=x.ents.length:=by omega
   have hp:kK t x=true:=by
    rw [kK,acb fun k hk=>hk2 k hk hk,lE (by omega)]; rfl
   refine N2 ?_
   exact ⟨i+1,rfl,⟨by omega,hnx hp⟩,by omega⟩
 ·obtain rfl:i=t.inodes.length:=by omega
  have:decide ((eG t).length=t.inodes.length)=true:=lE (by omega)
  refine N1 ?_
  rw [bJ,hT,this,afh fun k hk'=>hk k hk' hk']; rfl
theorem ajc (t:Tab) (h:t.sz<2^40):bC Tryz.prog 28 [t.x] (.bool (bJ t)) [.undef]:=by
 obtain ⟨hl,hls⟩:=cZ h
 have hLk:=mQ t
 refine U af3 [] 120266424407 [] fun w hP hQ=>?_
 unfold xH
 refine N ?_
 rcases s6 (yD t) with hT | hT
 ·have hz:=hT
  refine Kz (afb t h) ?_
  simp [bJ,hT]
 have hz:=hT
 refine Kz (afb t h) ?_
 refine K (agJ t h) ?_
 (first | with_reducible refine cQ _ ?_ ?_ | refine cR _ ?_ ?_) <;> intro hR
 rotate_left
 ·refine N ?_
  have:decide ((eG t).length=t.inodes.length)=false:=lB (by omega)
  simp [bJ,this]
 refine N ?_
 refine fH [2,4,6,34,35,36,5004,5006] ?_
 refine N ?_
 refine aT [2,4,6,34,35,36,5004,5006] (fun i:Nat=>[(22,.int .i64 i)]) (fun i=>i≤t.inodes.length∧∀ k,k<i→(h:k<t.inodes.length)→kK t t.inodes[k]=true) (fun i=>t.inodes.length-i) (0) hP hQ (rfl) (by simp) ?_
 rintro i ⟨hi,hk⟩ w1 hP1 hQ1
 refine N1 ?_
 (first | with_reducible refine cQ _ ?_ ?_ | refine cR _ ?_ ?_) <;> intro h1
 ·have hlt:i<t.inodes.length:=by omega
  have hx:=hls _ (lO hlt)
  have hm:=lO hlt
  have hnx:kK t (t.inodes[i]'hlt)=true→∀ k,k<i+1→(h:k<t.inodes.length)→kK t t.inodes[k]=true:=fun hp=>tN (p:=fun x=>kK t x=true) hk (fun _=>hp)
  have hz:=(bG h1)
  refine Nz1 ?_
  generalize t.inodes[i]'hlt=x at *
  have hel:x.ents.length<2^40:=(dU hx).2.1
  refine K1 (agH t x.ino h) ?_
  (first | with_reducible refine cQ _ ?_ ?_ | refine cR _ ?_ ?_) <;> intro h2
  rotate_left
  ·refine N1 ?_
   rw [tM hm (by rw [kK,lB (by omega)]; rfl)]
  refine N1 ?_
  refine fH [2,6,5006] ?_
  refine N1 ?_
  refine aT [2,6,5006] (fun k:Nat=>[(36,.int .i64 k)]) (fun k=>k≤x.ents.length∧∀ j,j<k→(h:j<x.ents.length)→(b9 t (x.ents[j]).ino).isSome=true) (fun k=>x.ents.length-k) (0) hP1 hQ1 (rfl) (by simp) ?_
  rintro k ⟨hk1,hk2⟩ w2 hP2 hQ2
  refine N2 ?_
  (first | with_reducible refine cQ _ ?_ ?_ | refine cR _ ?_ ?_) <;> intro h3
  ·have hkl:k<x.ents.length:=by omega
   have hA:=sD t (x.ents[k]'hkl).ino (by omega)
   cases e:b9 t (x.ents[k]'hkl).ino with
   | none=>
    rw [e] at hA
    have hz:=(bG h3)
    refine Nz2 ?_
    refine K2 (hA) ?_
    rw [tM hm (aca (lO hkl) e)]
   | some m=>
    rw [e,show abP (some m)=(m:Int) from rfl] at hA
    have hz:=(bG h3)
    refine Nz2 ?_
    refine K2 (hA) ?_
    (first | with_reducible refine cQ _ ?_ ?_ | refine cR _ ?_ ?_) <;> intro h4
    ·exfalso; omega
    ·refine N2 ?_
     exact ⟨k+1,rfl,⟨by omega,tN (p:=fun y:Ent=>(b9 t y.ino).isSome=true) hk2 (fun _=>by rw [e]; rfl)⟩,by omega⟩
  ·obtain rfl:k=x.ents.length:=by omega
   have hp:kK t x=true:=by
    rw [kK,acb fun k hk=>hk2 k hk hk,lE (by omega)]; rfl
   refine N2 ?_
   exact ⟨i+1,rfl,⟨by omega,hnx hp⟩,by omega⟩
 ·obtain rfl:i=t.inodes.length:=by omega
  have:decide ((eG t).length=t.inodes.length)=true:=lE (by omega)
  refine N1 ?_
  rw [bJ,hT,this,afh fun k hk'=>hk k hk' hk']; rfl
theorem acd {l:List Inode} {n:Nat} (h:szM Inode.sz l<n):l.length<n∧∀ x ∈ l,x.sz<n:=by
 refine ⟨by simp only [szM] at h; omega,fun x hx=>?_⟩
 have:=aal (f:=Inode.sz) hx
 simp only [szM] at h; omega
theorem sF {g:Nat} (l m:List Inode) (hl:szM Inode.sz l<2^40) (hm:szM Inode.sz m<2^40)
  (hc:∀ a b:Inode,a.sz<2^40→b.sz<2^40→bC Tryz.prog g [a.x,b.x] (.bool (decide (a=b))) [.undef,.undef]) :
  bC Tryz.prog 72 [.ext 6 (l.map Inode.row),.ext 6 (m.map Inode.row),.fn g []] (.bool (decide (l=m))) [.undef,.undef,.undef]:=by
 obtain ⟨l1,l2⟩:=acd hl
 obtain ⟨m1,m2⟩:=acd hm
 refine U pP [] 230343 [] fun w hP hQ=>?_
 unfold iT
 refine N ?_
 (first | with_reducible refine cQ _ ?_ ?_ | refine cR _ ?_ ?_) <;> intro h
 ·refine N ?_
  refine fH [6,7,8,9,5008,5009] ?_
  refine N ?_
  refine aT [6,7,8,9,5008,5009] (fun i:Nat=>[(17,.int .i64 i)]) (fun i=>i≤l.length∧l.take i=m.take i) (fun i=>l.length-i) (0) hP hQ (rfl) (by simp) ?_
  rintro i ⟨hi,hab⟩ w1 hP1 hQ1
  refine N1 ?_
  (first | with_reducible refine cQ _ ?_ ?_ | refine cR _ ?_ ?_) <;> intro h1
  ·have hz:=And.intro (bG h1) (bG (h ▸ h1))
   refine Nz1 ?_
   refine K1 (hc (l[i]'(by omega)) (m[i]'(by omega)) (l2 _ (lO _)) (m2 _ (lO _))) ?_
   (first | with_reducible refine cQ _ ?_ ?_ | refine cR _ ?_ ?_) <;> intro h2
   ·refine N1 ?_
    exact ⟨i+1,rfl,⟨by omega,gR hab _ _ h2⟩,by omega⟩
   ·refine N1 ?_
    rw [lB (show ¬ l=m from fun e=>by subst e; exact h2 rfl)]
  ·refine N1 ?_
   rw [lE (tJ hab (by omega) (by omega))]
 ·refine N ?_
  rw [lB (show ¬ l=m from fun e=>h (by rw [e]))]
theorem agK (a b:Tab) (ha:a.sz<2^40) (hb:b.sz<2^40):bC Tryz.prog 20 [a.x,b.x] (.bool (decide (a=b))) [.undef,.undef]:=by
 refine U adi [] 31 [] fun w hP hQ=>?_
 unfold uN
 refine N ?_
 (first | with_reducible refine rO _ ?_ ?_ | refine rP _ ?_ ?_) <;> intro h0
 rotate_left
 ·have hz:=h0
  refine Nz ?_
  rw [lB (show ¬ a=b from fun h=>h0 (by rw [h]))]
 have hz:=h0
 refine Nz ?_
 refine K (sF a.inodes b.inodes ha hb fun x y hx hy=>ab4 x y hx hy) ?_
 rw [ae8 (p:=a=b) ⟨fun h=>by rw [h],fun h=>Tab.eq' h h0⟩]
theorem ace (x:Inode) (n:aA):bB x n=match x.ents.findIdx? (fun e=>decide (e.name=n)) with
  | none=>0
  | some k=>((x.ents[k]?).map Ent.ino).getD 0:=by
 rw [bB,ae9]
 cases x.ents.findIdx? (fun e=>decide (e.name=n)) <;> rfl
theorem afi {x:Inode} {n:aA} {i:Nat} (hk:∀ k,k<i→(h:k<x.ents.length)→decide (x.ents[k].name=n)=false) (h:i<x.ents.length) (hi:x.ents[i].name=n):bB x n=x.ents[i].ino:=by
 rw [ace,oW (p:=fun e:Ent=>decide (e.name=n)) hk h (lE hi)]
 simp only [lK h]; rfl
theorem afj {x:Inode} {n:aA} (hk:∀ k,(h:k<x.ents.length)→decide (x.ents[k].name=n)=false):bB x n=0:=by
 rw [ace,oX (p:=fun e:Ent=>decide (e.name=n)) hk]
theorem ak7 (x:Inode) (n:aA) (h:x.sz<2^40):bC Tryz.prog 69 [x.x,.str n] (.int .i64 (bB x n)) [.undef,.undef]:=by
 obtain ⟨h1,h2,h3⟩:=dU h
 refine U aip [] 1879 [] fun w hP hQ=>?_
 unfold abk
 refine N ?_
 refine fH [4,6,5006] ?_
 refine N ?_
 refine aT [4,6,5006] (fun i:Nat=>[(10,.int .i64 i)]) (fun i=>i≤x.ents.length∧∀ k,k<i→(h:k<x.ents.length)→decide (x.ents[k].name=n)=false) (fun i=>x.ents.length-i) (0) hP hQ (rfl) (by simp) ?_
 rintro i ⟨hi,hk⟩ w1 hP1 hQ1
 refine N1 ?_
 (first | with_reducible refine cQ _ ?_ ?_ | refine cR _ ?_ ?_) <;> intro g
 ·have hz:=(bG g)
  refine Nz1 ?_
  (first | with_reducible refine cQ _ ?_ ?_ | refine cR _ ?_ ?_) <;> intro e
  ·refine N1 ?_
   rw [afi hk (by omega) e]
  ·refine N1 ?_
   exact ⟨i+1,rfl,⟨by omega,oB (p:=fun e:Ent=>decide (e.name=n)) hk (by omega) (lB e)⟩,by omega⟩
 ·obtain rfl:i=x.ents.length:=by omega
  refine N1 ?_
  rw [afj fun k h=>hk k h h]
theorem afk (x:Inode) (n:aA) (h:x.sz<2^40):bC Tryz.prog 151 [x.x,.str n] (.int .i64 (bB x n)) [.undef,.undef]:=by
 obtain ⟨h1,h2,h3⟩:=dU h
 refine U aiw [] 55 [] fun w hP hQ=>?_
 unfold abr
 refine N ?_
 refine fH [4] ?_
 refine N ?_
 refine aT [4] (fun i:Nat=>[(5,.int .i64 i)]) (fun i=>i≤x.ents.length∧∀ k,k<i→(h:k<x.ents.length)→decide (x.ents[k].name=n)=false) (fun i=>x.ents.length-i) (0) hP hQ (rfl) (by simp) ?_
 rintro i ⟨hi,hk⟩ w1 hP1 hQ1
 refine N1 ?_
 (first | with_reducible refine cQ _ ?_ ?_ | refine cR _ ?_ ?_) <;> intro g
 ·have hz:=(bG g)
  refine Nz1 ?_
  (first | with_reducible refine cQ _ ?_ ?_ | refine cR _ ?_ ?_) <;> intro e
  ·have hz:=(bG g)
   refine Nz1 ?_
   rw [afi hk (by omega) e]
  ·refine N1 ?_
   exact ⟨i+1,rfl,⟨by omega,oB (p:=fun e:Ent=>decide (e.name=n)) hk (by omega) (lB e)⟩,by omega⟩
 ·obtain rfl:i=x.ents.length:=by omega
  refine N1 ?_
  rw [afj fun k h=>hk k h h]
theorem yU {t:Tab} {l:List aA} {i:Nat} (h:i<l.length) {a:Int} {x:Inode} (hx:aC t a=some x) (hk:x.kind=2) (he:bB x l[i]≠0):jB t (l.drop i) a=jB t (l.drop (i+1)) (bB x l[i]):=by
 rw [lF2 h,jB,hx]
 simp only [lG hk,lJ he]
theorem afl {t:Tab} {l:List aA} {i:Nat} (h:i<l.length) {a:Int} (hx:aC t a=none):jB t (l.drop i) a=(0,2):=by
 rw [lF2 h,jB,hx]
theorem yV {t:Tab} {l:List aA} {i:Nat} (h:i<l.length) {a:Int} {x:Inode} (hx:aC t a=some x) (hk:¬ x.kind=2):jB t (l.drop i) a=(0,3):=by
 rw [lF2 h,jB,hx]
 simp only [lJ hk]
theorem yW {t:Tab} {l:List aA} {i:Nat} (h:i<l.length) {a:Int} {x:Inode} (hx:aC t a=some x) (hk:x.kind=2) (he:bB x l[i]=0):jB t (l.drop i) a=(0,2):=by
 rw [lF2 h,jB,hx]
 simp only [lG hk,lG he]
theorem yX {t:Tab} (h:t.sz<2^40) {a:Int} {x:Inode} (hx:aC t a=some x):x.sz<2^40:=(cZ h).2 x (aM hx).1
theorem am1 (t:Tab) (s:aA) (h:t.sz<2^40) (hs:s.length<2^40):bC Tryz.prog 23 [t.x,.str s] (.tup [.int .i64 (oR t s).1,.int .i64 (oR t s).2]) [.undef,.undef]:=by
 have hS:=oD s hs
 have hf:=kY s
 unfold oR
 generalize aB s=y at *
 obtain ⟨l,b⟩:=y
 simp only at *
 cases b with
 | false=>
  rw [lJ (by simp)]
  refine U aeL [] 7347703 [] fun w hP hQ=>?_
  unfold zZ
  refine N ?_
  exact K (hS) trivial
 | true=>
  rw [lG rfl]
  refine U aeL [] 7347703 [] fun w hP hQ=>?_
  unfold zZ
  refine N ?_
  refine K (hS) ?_
  refine fH [4,5,10,11,12,5011] ?_
  refine N ?_
  refine aT [4,5,10,11,12,5011] (fun x:Nat × Int=>[(8,.int .i64 x.2),(22,.int .i64 (x.1:Nat))]) (fun x=>x.1≤l.length∧jB t (l.drop x.1) x.2=jB t l 1) (fun x=>l.length-x.1) ((0,1)) hP hQ (rfl) (⟨lD3 _,rfl⟩) ?_
  rintro ⟨i,a⟩ ⟨hi,hw⟩ w1 hP1 hQ1
  refine N1 ?_
  simp only at hi hw
  (first | with_reducible refine cQ _ ?_ ?_ | refine cR _ ?_ ?_) <;> intro g
  ·have hlt:i<l.length:=by omega
   have hA:=oY t a h
   cases hx:aC t a with
   | none=>
    rw [hx] at hA
    rw [afl hlt hx] at hw
    simp +decide (maxSteps:=9^9) (disch:=omega) only[↓SB0,SX,seval,hQ,hQ1,bG g,dB]
    have hz:=hw.symm
    exact Kz1 (hA) trivial
   | some x=>
    rw [adU,hx] at hA
    have hE:=ak7 x l[i] (yX h hx)
    by_cases hk:x.kind=2
    ·have hk':decide (x.kind=2)=true:=lE hk
     by_cases he:bB x l[i]=0
     ·rw [yW hlt hx hk he] at hw
      rw [he] at hE
      simp +decide (maxSteps:=9^9) (disch:=omega) only[↓SB0,SX,seval,hQ,hQ1,bG g,dB]
      (first|refine cI hP1 (hA) rfl rfl ?_|refine cH hP1 (hA) rfl rfl ?_)
      simp +decide (maxSteps:=9^9) (disch:=omega) only[↓SB0,SX,seval,hQ,hQ1,hk',lY]
      have hz:=hw.symm
      exact Kz1 (hE) trivial
     ·rw [yU hlt hx hk he] at hw
      have he':decide (bB x l[i]=0)=false:=lB he
      simp +decide (maxSteps:=9^9) (disch:=omega) only[↓SB0,SX,seval,hQ,hQ1,bG g,dB]
      (first|refine cI hP1 (hA) rfl rfl ?_|refine cH hP1 (hA) rfl rfl ?_)
      simp +decide (maxSteps:=9^9) (disch:=omega) only[↓SB0,SX,seval,hQ,hQ1,hk',lY]
      have hz:=he'
      refine Kz1 (hE) ?_
      exact ⟨(i+1,bB x l[i]),rfl,⟨by simp only; omega,hw⟩,by simp only; omega⟩
    ·have hk':decide (x.kind=2)=false:=lB hk
     rw [yV hlt hx hk] at hw
     simp +decide (maxSteps:=9^9) (disch:=omega) only[↓SB0,SX,seval,hQ,hQ1,bG g,dB]
     (first|refine cI hP1 (hA) rfl rfl ?_|refine cH hP1 (hA) rfl rfl ?_)
     simp +decide (maxSteps:=9^9) (disch:=omega) only[↓SB0,SX,seval,hQ,hQ1,hk',lY,← hw]
  ·obtain rfl:i=l.length:=by omega
   rw [List.drop_length,jB] at hw
   have hz:=hw.symm
   exact Nz1 trivial
theorem ajd (t:Tab) (l:List aA) (h:t.sz<2^40) (hl:l.length<2^40):bC Tryz.prog 152 [t.x,.ext 1 (l.map dB)] (.tup [.int .i64 (jB t l 1).1,.int .i64 (jB t l 1).2]) [.undef,.undef]:=by
 obtain ⟨t1,t2⟩:=cZ h
 refine U agi [] 503 [] fun w hP hQ=>?_
 unfold xU
 refine N ?_
 refine fH [4,5,8] ?_
 refine N ?_
 refine aT [4,5,8] (fun x:Nat × Int=>[(6,.int .i64 x.2),(7,.int .i64 (x.1:Nat))]) (fun x=>x.1≤l.length∧jB t (l.drop x.1) x.2=jB t l 1) (fun x=>l.length-x.1) ((0,1)) hP hQ (rfl) (⟨lD3 _,rfl⟩) ?_
 rintro ⟨i,a⟩ ⟨hi,hw⟩ w1 hP1 hQ1
 refine N1 ?_
 simp only at hi hw
 (first | with_reducible refine cQ _ ?_ ?_ | refine cR _ ?_ ?_) <;> intro g
 ·have hlt:i<l.length:=by omega
  have hA:=pY t a (by omega)
  cases hx:b9 t a with
  | none=>
   rw [hx] at hA
   rw [afl hlt (yQ hx)] at hw
   refine N1 ?_
   have hz:=hw.symm
   exact Kz1 (hA) trivial
  | some k=>
   have hk1:=sS hx
   have hx':=rB hx
   rw [hx,show abP (some k)=(k:Int) from rfl] at hA
   have hE:=afk (t.inodes[k]) l[i] (t2 _ (lO hk1))
   have hz:decide (((k:Nat):Int)<0)=false:=lB (by omega)
   have hg:((k:Nat):Int)<(t.inodes.length:Nat):=by omega
   by_cases hk:(t.inodes[k]).kind=2
   ·have hk':decide ((t.inodes[k]).kind=2)=true:=lE hk
    by_cases he:bB (t.inodes[k]) l[i]=0
    ·rw [yW hlt hx' hk he] at hw
     rw [he] at hE
     refine N1 ?_
     (first|refine cI hP1 (hA) rfl rfl ?_|refine cH hP1 (hA) rfl rfl ?_)
     simp +decide (maxSteps:=9^9) (disch:=omega) only[↓SB0,SX,seval,hQ,hQ1,hz,bG hg,hk',bG g,dB]
     have hz:=hw.symm
     exact Kz1 (hE) trivial
    ·rw [yU hlt hx' hk he] at hw
     have he':decide (bB (t.inodes[k]) l[i]=0)=false:=lB he
     refine N1 ?_
     (first|refine cI hP1 (hA) rfl rfl ?_|refine cH hP1 (hA) rfl rfl ?_)
     simp +decide (maxSteps:=9^9) (disch:=omega) only[↓SB0,SX,seval,hQ,hQ1,hz,bG hg,hk',bG g,dB]
     have hz:=he'
     refine Kz1 (hE) ?_
     exact ⟨(i+1,_),rfl,⟨by simp only; omega,hw⟩,by simp only; omega⟩
   ·have hk':decide ((t.inodes[k]).kind=2)=false:=lB hk
    rw [yV hlt hx' hk] at hw
    refine N1 ?_
    have hz:=And.intro hz (And.intro (bG hg) (And.intro hk' hw.symm))
    exact Kz1 (hA) trivial
 ·obtain rfl:i=l.length:=by omega
  rw [List.drop_length,jB] at hw
  have hz:=hw.symm
  exact Nz1 trivial
theorem adZ (t:Tab) (s:aA) (h:t.sz<2^40) (hs:s.length<2^40):bC Tryz.prog 97 [t.x,.str s] (.tup [.int .i64 (oR t s).1,.int .i64 (oR t s).2]) [.undef,.undef]:=by
 have hS:=dG s hs
 have hf:=kY s
 unfold oR
 generalize aB s=y at *
 obtain ⟨l,b⟩:=y
 simp only at *
 cases b with
 | false=>
  rw [lJ (by simp)]
  refine U aeM [] 247 [] fun w hP hQ=>?_
  unfold aaa
  refine N ?_
  exact K (hS) trivial
 | true=>
  rw [lG rfl]
  refine U aeM [] 247 [] fun w hP hQ=>?_
  unfold aaa
  refine N ?_
  refine K (hS) ?_
  exact K (ajd t l h (by omega)) trivial
theorem acf {t:Tab} {s:aA} (hc:(oR t s).2≠0):cJ t s=.error (oR t s).2:=by rw [cJ,lJ hc]
theorem acg {t:Tab} {s:aA} (hc:(oR t s).2=0) (hx:aC t (oR t s).1=none):cJ t s=.error 2:=by rw [cJ,lG hc,hx]
theorem ach {t:Tab} {s:aA} {x:Inode} (hc:(oR t s).2=0) (hx:aC t (oR t s).1=some x):cJ t s=.ok x:=by rw [cJ,lG hc,hx]
theorem am2 (t:Tab) (s:aA) (h:t.sz<2^40) (hs:s.length<2^40):bC Tryz.prog 68 [t.x,.str s] (.tup [(exI (cJ t s)).o,.int .i64 (exC (cJ t s))]) [.undef,.undef]:=by
 have hW:=am1 t s h hs
 have hA:=oY t (oR t s).1 h
 by_cases hc:(oR t s).2=0
 ·have hc':decide ((oR t s).2=0)=true:=lE hc
  cases hx:aC t (oR t s).1 with
  | none=>
   rw [hx] at hA
   rw [acg hc hx]
   refine U aac [] 1015 [] fun w hP hQ=>?_
   unfold tH
   refine N ?_
   have hz:=hc'
   refine Kz (hW) ?_
   refine K (hA) ?_
   rfl
  | some x=>
   rw [adU,hx] at hA
   rw [ach hc hx]
   refine U aac [] 1015 [] fun w hP hQ=>?_
   unfold tH
   refine N ?_
   have hz:=hc'
   refine Kz (hW) ?_
   (first|refine cI hP (hA) rfl rfl ?_|refine cH hP (hA) rfl rfl ?_)
   simp +decide (maxSteps:=9^9) (disch:=omega) only[↓SB0,SX,seval,hQ,lY]
   rfl
 ·have hc':decide ((oR t s).2=0)=false:=lB hc
  rw [acf hc]
  refine U aac [] 1015 [] fun w hP hQ=>?_
  unfold tH
  refine N ?_
  have hz:=hc'
  refine Kz (hW) ?_
  rfl
theorem sG (t:Tab) (s:aA) (h:t.sz<2^40) (hs:s.length<2^40):bC Tryz.prog 88 [t.x,.str s] (.tup [(exI (cJ t s)).o,.int .i64 (exC (cJ t s))]) [.undef,.undef]:=by
 have hW:=adZ t s h hs
 have hA:=sE t (oR t s).1 h
 by_cases hc:(oR t s).2=0
 ·have hc':decide ((oR t s).2=0)=true:=lE hc
  cases hx:aC t (oR t s).1 with
  | none=>
   rw [hx] at hA
   rw [acg hc hx]
   refine U aaf [] 1015 [] fun w hP hQ=>?_
   unfold tI
   refine N ?_
   have hz:=hc'
   refine Kz (hW) ?_
   refine K (hA) ?_
   rfl
  | some x=>
   rw [adU,hx] at hA
   rw [ach hc hx]
   refine U aaf [] 1015 [] fun w hP hQ=>?_
   unfold tI
   refine N ?_
   have hz:=hc'
   refine Kz (hW) ?_
   (first|refine cI hP (hA) rfl rfl ?_|refine cH hP (hA) rfl rfl ?_)
   simp +decide (maxSteps:=9^9) (disch:=omega) only[↓SB0,SX,seval,hQ,lY]
   rfl
 ·have hc':decide ((oR t s).2=0)=false:=lB hc
  rw [acf hc]
  refine U aaf [] 1015 [] fun w hP hQ=>?_
  unfold tI
  refine N ?_
  have hz:=hc'
  refine Kz (hW) ?_
  rfl
theorem rD (t:Tab) (s:aA) (h:t.sz<2^40) (hs:s.length<2^40):bC Tryz.prog 77 [t.x,.str s] (.tup [(exI (mN t s)).o,.int .i64 (exC (mN t s))]) [.undef,.undef]:=by
 have hS:=sG t s h hs
 unfold mN
 cases e:cJ t s with
 | error c=>
  have hc:decide (c=0)=false:=lB (mP e)
  rw [e] at hS
  simp only [exI,exC] at hS ⊢
  refine U rT [] 247 [] fun w hP hQ=>?_
  unfold oO
  refine N ?_
  have hz:=hc
  exact Kz (hS) trivial
 | ok x=>
  rw [e] at hS
  simp only [exI,exC] at hS ⊢
  by_cases hk:x.kind=1
  ·have hk':decide (x.kind=1)=true:=lE hk
   simp only [lG hk]
   refine U rT [] 247 [] fun w hP hQ=>?_
   unfold oO
   refine N ?_
   have hz:=hk'
   exact Kz (hS) trivial
  ·have hk':decide (x.kind=1)=false:=lB hk
   simp only [lJ hk]
   refine U rT [] 247 [] fun w hP hQ=>?_
   unfold oO
   refine N ?_
   have hz:=hk'
   refine Kz (hS) ?_
   rfl
def aov (D:Inode) (n:aA):AV:=.agg [.int .i64 D.ino,.int .i64 D.kind,.int .i64 D.links,.own 1 (aO D.data),.own 2 (D.ents.map Ent.row),.own 2 (D.attrs.map Attr.row),.str n]
def aoS (D:Inode) (n:aA):AV:=.agg [.int .i64 D.ino,.int .i64 D.kind,.int .i64 D.links,.ext 1 (aO D.data),.ext 2 (D.ents.map Ent.row),.ext 2 (D.attrs.map Attr.row),.str n]
def exN (e:Rs Inode) (n:aA):aA:=match e with
 | .ok _=>n
 | .error _=>[]
theorem fN (s:aA):(aJ s).1.length≤450∧(aW s).length≤14:=by
 unfold aW aJ
 split
 ·rename_i h
  refine ⟨?_,sB (s:=s) _ ?_⟩
  ·show (b8 (aB s).1.dropLast).length≤450
   have:=mV (oQ h.1).1
   rw [b8,lG this]
   split
   ·simp
   ·exact vW this
  ·show (aB s).1.getLastD [] ∈ _
   rw [List.getLastD_eq_getLast?,List.getLast?_eq_some_getLast h.2]
   exact List.getLast_mem h.2
 ·simp
theorem an9 (t:Tab) (s:aA) (h:t.sz<2^40) (hs:s.length<2^40):bC Tryz.prog 64 [t.x,.str s] (.tup [aov (exI (eN t s)) (exN (eN t s) (aW s)),.int .i64 (exC (eN t s))]) [.undef,.undef]:=by
 have hPa:=adQ s hs
 have hS:=am2 t (aJ s).1 h (by have:=(fN s).1; omega)
 unfold eN
 cases e:cJ t (aJ s).1 with
 | error c=>
  have hc:decide (c=0)=false:=lB (mP e)
  rw [e] at hS
  simp only [exI,exC,exN] at hS ⊢
  refine U rS [] 1783 [] fun w hP hQ=>?_
  unfold oN
  refine N ?_
  refine K (hPa) ?_
  have hz:=hc
  refine Kz (hS) ?_
  first | rfl | exact ⟨rfl,rfl⟩
 | ok x=>
  rw [e] at hS
  simp only [exI,exC] at hS ⊢
  by_cases hk:x.kind=2
  ·have hk':decide (x.kind=2)=true:=lE hk
   simp only [lG hk]
   refine U rS [] 1783 [] fun w hP hQ=>?_
   unfold oN
   refine N ?_
   refine K (hPa) ?_
   have hz:=hk'
   refine Kz (hS) ?_
   exact ⟨rfl,rfl⟩
  ·have hk':decide (x.kind=2)=false:=lB hk
   simp only [lJ hk]
   refine U rS [] 1783 [] fun w hP hQ=>?_
   unfold oN
   refine N ?_
   refine K (hPa) ?_
   have hz:=hk'
   refine Kz (hS) ?_
   exact ⟨rfl,rfl⟩
theorem aoh (t:Tab) (l:List aA) (h:t.sz<2^40) (hl:l.length<2^40) (hs:∀ s ∈ l,s.length<2^40):bC Tryz.prog 62 [t.x,.ext 1 (l.map dB)] (.bool (l.all gT && bJ t)) [.undef,.undef]:=by
 refine U aio [] 3927 [] fun w hP hQ=>?_
 unfold abj
 refine N ?_
 refine fH [4,6,8] ?_
 refine N ?_
 refine aT [4,6,8] (fun i:Nat=>[(11,.int .i64 i)]) (fun i=>i≤l.length∧∀ k,k<i→(h:k<l.length)→gT l[k]=true) (fun i=>l.length-i) (0) hP hQ (rfl) (by simp) ?_
 rintro i ⟨hi,hk⟩ w1 hP1 hQ1
 refine N1 ?_
 (first | with_reducible refine cQ _ ?_ ?_ | refine cR _ ?_ ?_) <;> intro g
 ·have hlt:i<l.length:=by omega
  have hS:=oD l[i] (hs _ (lO hlt))
  cases hp:(aB l[i]).2 with
  | false=>
   have e:l.all gT=false:=by rw [lY3]; exact ⟨_,lO hlt,by simp [gT,hp]⟩
   simp +decide (maxSteps:=9^9) (disch:=omega) only[↓SB0,SX,seval,hQ,hQ1,bG g,dB]
   have hz:=And.intro hp (And.intro e Bool.false_and)
   exact Kz1 (hS) trivial
  | true=>
   simp +decide (maxSteps:=9^9) (disch:=omega) only[↓SB0,SX,seval,hQ,hQ1,bG g,dB]
   have hz:=hp
   refine Kz1 (hS) ?_
   exact ⟨i+1,rfl,⟨by omega,fun k h1 h2=>by
    by_cases e:k=i
    ·subst e; exact hp
    ·exact hk k (by omega) h2⟩,by omega⟩
 ·obtain rfl:i=l.length:=by omega
  have e:l.all gT=true:=by
   rw [lW]
   intro x hx
   obtain ⟨k,hk1,rfl⟩:=lU1 hx
   exact hk k hk1 hk1
  refine N1 ?_
  have hz:=And.intro e lS3
  exact Kz (ajc t h) trivial
theorem ak8 {l:List Ent} {i:Nat} (h:i<l.length) (n:aA):cY (l.take (i+1)) n=cY (l.take i) n++(if l[i].name=n then [] else [l[i]]):=by
 unfold cY aiI
 rw [lU h,lH4]
 congr 1
 by_cases e:l[i].name=n <;> simp [e]
theorem ak9 (l:List Ent) (n:aA) (hl:l.length<2^40):bC Tryz.prog 141 [.ext 2 (l.map Ent.row),.str n] (.own 2 ((cY l n).map Ent.row)) [.undef,.undef]:=by
 refine U ait [] 115 [] fun w hP hQ=>?_
 unfold abo
 refine N ?_
 refine fH [] ?_
 refine N ?_
 refine aT [] (fun i:Nat=>[(5,.own 2 ((cY (l.take i) n).map Ent.row)),(6,.int .i64 i)]) (fun i=>i≤l.length) (fun i=>l.length-i) (0) hP hQ (rfl) (by simp) ?_
 rintro i hi w1 hP1 hQ1
 refine N1 ?_
 have hc:(cY (l.take i) n).length≤l.length:=lA4 (lN2 _ _) (by simp; omega)
 (first | with_reducible refine cQ _ ?_ ?_ | refine cR _ ?_ ?_) <;> intro g
 ·have ht:=ak8 (l:=l) (i:=i) (by omega) n
  have hz:=(bG g)
  refine Nz1 ?_
  (first | with_reducible refine cQ _ ?_ ?_ | refine cR _ ?_ ?_) <;> intro e
  ·rw [lG e,lP2] at ht
   refine N1 ?_
   exact ⟨i+1,by rw [ht]; rfl,by omega,by omega⟩
  ·rw [lJ e] at ht
   have hb:((cY (l.take i) n).length+1)*24≤140737488355328:=by omega
   have hz:=And.intro (bG g) hb
   refine Nz1 ?_
   exact ⟨i+1,by rw [ht,lM2]; rfl,by omega,by omega⟩
 ·obtain rfl:i=l.length:=by omega
  simp +decide (maxSteps:=9^9) (disch:=omega) only[↓SB0,SX,seval,hQ,hQ1,lZ1]
theorem afm {α β:Type} (f:α→β) (l:List α) (i:Nat) (h:i<l.length):(l.take (i+1)).map f=(l.take i).map f++[f l[i]]:=by
 rw [lU h,lM2]; rfl
def tab1:Tab:={ inodes:=[{ ino:=1,kind:=2,links:=0,data:=[],ents:=[],attrs:=[] }],next:=2 }
theorem aci:bC Tryz.prog 118 [] tab1.o []:=by
 refine U agc [] 1 [] fun w hP hQ=>?_
 unfold xQ
 refine N ?_
 rfl
theorem agL (t:Tab) (h:t.sz<2^40):bC Tryz.prog 61 [t.x] t.o [.undef]:=by
 obtain ⟨h1,h2⟩:=cZ h
 refine U adl [] 7215 [] fun w hP hQ=>?_
 unfold uQ
 refine N ?_
 refine fH [5,5005] ?_
 refine N ?_
 refine aT [5,5005] (fun i:Nat=>[(12,.int .i64 i),(5003,.box [.own 6 ((t.inodes.take i).map Inode.row),.int .i64 t.next])]) (fun i=>i≤t.inodes.length) (fun i=>t.inodes.length-i) (0) hP hQ (rfl) (by simp) ?_
 rintro i hi w1 hP1 hQ1
 refine N1 ?_
 (first | with_reducible refine cQ _ ?_ ?_ | refine cR _ ?_ ?_) <;> intro h3
 ·have ht:(t.inodes.take i).length=i:=by simp; omega
  have hz:=And.intro (bG h3) ht
  refine Nz1 ?_
  have hz:=ht
  refine Kz1 (oE (t.inodes[i]'(by omega)) (h2 _ (lO _))) ?_
  exact ⟨i+1,by simp only [afm _ _ _ (show i<t.inodes.length by omega)]; rfl,by omega,by omega⟩
 ·obtain rfl:i=t.inodes.length:=by omega
  simp +decide (maxSteps:=9^9) (disch:=omega) only[↓SB0,SX,seval,hQ,hQ1,lZ1]
theorem eT (t:Tab) (h:t.sz<2^40):bC Tryz.prog 76 [t.x] t.o [.undef]:=by
 obtain ⟨h1,h2⟩:=cZ h
 refine U af7 [] 31 [] fun w hP hQ=>?_
 unfold xL
 refine N ?_
 refine fH [] ?_
 refine N ?_
 refine aT [] (fun i:Nat=>[(4,.int .i64 i),(5003,.box [.own 6 ((t.inodes.take i).map Inode.row),.int .i64 t.next])]) (fun i=>i≤t.inodes.length) (fun i=>t.inodes.length-i) (0) hP hQ (rfl) (by simp) ?_
 rintro i hi w1 hP1 hQ1
 refine N1 ?_
 (first | with_reducible refine cQ _ ?_ ?_ | refine cR _ ?_ ?_) <;> intro h3
 ·have ht:(t.inodes.take i).length=i:=by simp; omega
  have hz:=And.intro (bG h3) ht
  refine Nz1 ?_
  have hz:=ht
  refine Kz1 (l3 (t.inodes[i]'(by omega)) (h2 _ (lO _))) ?_
  exact ⟨i+1,by simp only [afm _ _ _ (show i<t.inodes.length by omega)]; rfl,by omega,by omega⟩
 ·obtain rfl:i=t.inodes.length:=by omega
  simp +decide (maxSteps:=9^9) (disch:=omega) only[↓SB0,SX,seval,hQ,hQ1,lZ1]
section
theorem aje {g:Nat} {cs:List TV} {p:Ent→Bool} (hc:∀ v:Ent,bC Tryz.prog g [v.x,.xbox cs] (.bool (p v)) [.undef,.undef]) (l:List Ent) (hl:l.length<2^48) :
  bC Tryz.prog 132 [.ext 2 (l.map Ent.row),.fn g [.xbox cs]] (.int .i64 (abP (l.findIdx? p))) [.undef,.undef]:=by
 refine U rU [] 435 [] fun w hP hQ=>?_
 unfold jZ
 refine N ?_
 refine fH [4,5] ?_
 refine N ?_
 refine aT [4,5] (fun i:Nat=>[(8,.int .i64 i)]) (fun i=>i≤l.length∧∀ k,k<i→(h:k<l.length)→p l[k]=false) (fun i=>l.length-i) (0) hP hQ (rfl) (by simp) ?_
 rintro i ⟨hi,hk⟩ w1 hP1 hQ1
 refine N1 ?_
 (first | with_reducible refine cQ _ ?_ ?_ | refine cR _ ?_ ?_) <;> intro h1
 ·have hz:=(bG h1)
  refine Nz1 ?_
  cases h2:p (l[i]'(by omega)) with
  | true=>
   have hz:=h2
   refine Kz1 (hc (l[i]'(by omega))) ?_
   rw [oW hk (by omega) h2]; rfl
  | false=>
   have hz:=h2
   refine Kz1 (hc (l[i]'(by omega))) ?_
   exact ⟨i+1,rfl,⟨by omega,oB hk (by omega) h2⟩,by omega⟩
 ·obtain rfl:i=l.length:=by omega
  refine N1 ?_
  rw [oX fun k h=>hk k h h]; rfl
structure Kept' {α:Type} (s:Nat) (row:α→List TV) (p:α→Bool) (l:List α) (i j:Nat) (R:List (List TV)):Prop where
 lt:i<j
 le:j≤l.length
 len:R.length=l.length
 low:R.take i=((l.take j).filter fun x=>!p x).map row
 num:((l.take j).filter fun x=>!p x).length=i
 high:R.drop j=(l.drop j).map row
 wid:∀ x ∈ R,x.length=s
section
variable {α:Type} {s:Nat} {row:α→List TV} {p:α→Bool} {l:List α} {i j:Nat} {R:List (List TV)}
theorem agM {q:α→Bool} {l:List α} (h:∀ x ∈ l,q x=false):(l.filter fun x=>!q x)=l:=List.filter_eq_self.2 fun x hx=>by simp [h x hx]
theorem Kept'.start {k:Nat} (hr:∀ a,(row a).length=s) (h:l.findIdx? p=some k):Kept' s row p l k (k+1) (l.map row):=by
 obtain ⟨h1,h2,h3⟩:=lO2.1 h
 have e:(l.take (k+1)).filter (fun x=>!p x)=l.take k:=by
  rw [lU h1,lH4,agM fun x hx=>by
   obtain ⟨j,hj,rfl⟩:=lU1 hx
   rw [List.getElem_take]
   have:=h3 j (by simp at hj; omega)
   simpa using this]
  simp [h2]
 exact ⟨by omega,by omega,by simp,by rw [e,lP4],by rw [e]; simp; omega,by rw [List.map_drop],fun x hx=>by obtain ⟨a,_,rfl⟩:=lV1.1 hx; exact hr a⟩
theorem Kept'.at (h:Kept' s row p l i j R) (hj:j<l.length):R[j]?=some (row l[j]):=by
 have:=congrArg (fun x=>x[0]?) h.high
 simp only [lH2,lM3,lI1] at this
 rw [this,lK hj]; rfl
end
theorem ad0 {α:Type} (q:α→Bool) {l:List α} {i:Nat} (h:i<l.length):(l.take (i+1)).filter q=(l.take i).filter q++if q l[i]=true then [l[i]] else []:=by
 rw [lU h,lH4]
 cases e:q l[i] <;> simp [e]
theorem sV (t:Tab) (n:Int) (h:t.sz<2^40):bC Tryz.prog 79 [t.x,.int .i64 n] (jP t n).o [.undef,.undef]:=by
 obtain ⟨h1,h2⟩:=cZ h
 refine U aae [] 119 [] fun w hP hQ=>?_
 unfold qH
 refine N ?_
 refine fH [] ?_
 refine N ?_
 refine aT [] (fun i:Nat=>[(5005,.box [.own 6 (((t.inodes.take i).filter fun x=>decide (x.ino≠n)).map Inode.row),.int .i64 t.next]),(6,.int .i64 i)]) (fun i=>i≤t.inodes.length) (fun i=>t.inodes.length-i) (0) hP hQ (rfl) (by simp) ?_
 rintro i hi w1 hP1 hQ1
 refine N1 ?_
 have hc:((t.inodes.take i).filter fun x=>decide (x.ino≠n)).length≤t.inodes.length:=lA4 (lN2 _ _) (by simp; omega)
 (first | with_reducible refine cQ _ ?_ ?_ | refine cR _ ?_ ?_) <;> intro g
 ·have hlt:i<t.inodes.length:=by omega
  have ht:=ad0 (fun x:Inode=>decide (x.ino≠n)) hlt
  have hz:=(bG g)
  refine Nz1 ?_
  (first | with_reducible refine cQ _ ?_ ?_ | refine cR _ ?_ ?_) <;> intro e
  ·rw [lJ (by simp [e]),lP2] at ht
   refine N1 ?_
   exact ⟨i+1,by rw [ht]; rfl,by omega,by omega⟩
  ·rw [lG (by simpa using e)] at ht
   have hb:(((t.inodes.take i).filter fun x=>decide (x.ino≠n)).length+1)*96≤140737488355328:=by omega
   have hz:=(bG g)
   refine Nz1 ?_
   have hz:=hb
   refine Kz1 (l3 (t.inodes[i]) (h2 _ (lO hlt))) ?_
   exact ⟨i+1,by rw [ht,lM2]; rfl,by omega,by omega⟩
 ·obtain rfl:i=t.inodes.length:=by omega
  simp +decide (maxSteps:=9^9) (disch:=omega) only[↓SB0,SX,seval,hQ,hQ1,lZ1]
  try rfl
theorem sH {α β:Type} (f:α→β) (l:List α) (k:Nat) (x:α) (g:β→β) (hg:∀ y,l[k]?=some y→g (f y)=f x):(l.map f).modify k g=(l.set k x).map f:=by
 apply lW2
 intro j
 rw [lX1,lI1,lI1,lW3]
 by_cases e:k=j
 ·subst e
  by_cases hk:k<l.length
  ·simp [hk,hg _ (lK hk)]
  ·simp [hk]
 ·simp [e]
theorem ajf (t:Tab) (x:Inode) {k:Nat} (h:t.sz<2^40) (hx:x.sz<2^40) (hu:UpI t.inodes) (hk:b9 t x.ino=some k):bC Tryz.prog 67 [t.x,x.x] (aG t x).o [.undef,.undef]:=by
 obtain ⟨h1,h2⟩:=cZ h
 have hlt:=sS hk
 have hPl:=sD t x.ino (by omega)
 rw [hk,show abP (some k)=(k:Int) from rfl] at hPl
 have e:aG t x={ inodes:=t.inodes.set k x,next:=t.next }:=by rw [aG,yM hu hk]
 have hz:decide ((0:Int)≤(k:Nat))=true:=lE (by omega)
 have hg:((k:Nat):Int)<(t.inodes.length:Nat):=by omega
 rw [e]
 refine U abv [] 127 [] fun w hP hQ=>?_
 unfold sL
 refine N ?_
 refine K (agL t h) ?_
 refine K (oE x hx) ?_
 have hz:=And.intro hz hg
 refine Kz (hPl) ?_
 rw [sH Inode.row t.inodes k x _ fun y _=>rfl]
theorem bN (t:Tab) (x:Inode) {k:Nat} (h:t.sz<2^40) (hx:x.sz<2^40) (hu:UpI t.inodes) (hk:b9 t x.ino=some k):bC Tryz.prog 80 [t.x,x.x] (aG t x).o [.undef,.undef]:=by
 obtain ⟨h1,h2⟩:=cZ h
 have hlt:=sS hk
 have hPl:=pY t x.ino (by omega)
 rw [hk,show abP (some k)=(k:Int) from rfl] at hPl
 have e:aG t x={ inodes:=t.inodes.set k x,next:=t.next }:=by rw [aG,yM hu hk]
 have hz:decide ((0:Int)≤(k:Nat))=true:=lE (by omega)
 have hg:((k:Nat):Int)<(t.inodes.length:Nat):=by omega
 rw [e]
 refine U sN [] 255 [] fun w hP hQ=>?_
 unfold nO
 refine N ?_
 refine K (eT t h) ?_
 have hz:=And.intro hz hg
 refine Kz (hPl) ?_
 have hz:=And.intro hz hg
 refine Kz (l3 x hx) ?_
 rw [sH Inode.row t.inodes k x _ fun y _=>rfl]
 try rfl
end
def aoT (D:Inode) (n:aA):List TV:=[.int .i64 D.ino,.int .i64 D.kind,.int .i64 D.links,.sl 1 (aO D.data),.sl 2 (D.ents.map Ent.row),.sl 2 (D.attrs.map Attr.row),.str n]
theorem v6 (D:Inode) (n:aA):(cF D n).sz≤D.sz:=by
 have h1:(cY D.ents n).length≤D.ents.length:=lN2 _ _
 have h2:=yG Ent.sz (fun e:Ent=>decide (e.name≠n)) D.ents
 show D.data.length+((cY D.ents n).length+((cY D.ents n).map Ent.sz).sum)+szM Attr.sz D.attrs≤D.data.length+(D.ents.length+(D.ents.map Ent.sz).sum)+szM Attr.sz D.attrs
 have h3:((cY D.ents n).map Ent.sz).sum≤(D.ents.map Ent.sz).sum:=h2
 omega
theorem aow (s:aA):jA s=(gT s && !decide (s=[47])):=by
 rw [lO3,show jA s=true↔_ from abI s]
 unfold gT
 simp only [lM,lX3,decide_eq_false_iff_not]
 constructor
 ·rintro ⟨h1,h2⟩; exact ⟨h1,fun e=>h2 ((x7 h1).2 e)⟩
 ·rintro ⟨h1,h2⟩; exact ⟨h1,fun e=>h2 ((x7 h1).1 e)⟩
theorem pB {t:Tab} {i:Int} {x:Inode} (h:aC t i=some x):∃ k,b9 t i=some k:=by
 cases e:b9 t i with
 | none=>rw [yQ e] at h; cases h
 | some k=>exact ⟨k,rfl⟩
theorem v7 (t:Tab) (s:aA) {D:Inode} (h:t.sz<2^40) (hs:s.length<2^40) (hu:UpI t.inodes) (hD:eN t s=.ok D):bC Tryz.prog 78 [t.x,.str s] (aG t (cF D (aW s))).o [.undef,.undef]:=by
 have hPa:=fF s hs
 have hS:=sG t (aJ s).1 h (by have:=(fN s).1; omega)
 have hst:=(i7 hD).1
 have hat:=(aR hst).2
 obtain ⟨k,hk⟩:=pB hat
 have hz:=yX h hat
 have hC:=ak9 D.ents (aW s) (dU hz).2.1
 have hI:=bN t (cF D (aW s)) h (lI4 (v6 D _) hz) hu hk
 rw [hst] at hS
 simp only [exI,exC] at hS
 unfold aW at *
 refine U af8 [] 375 [] fun w hP hQ=>?_
 unfold xM
 refine N ?_
 refine K (hPa) ?_
 refine K (hS) ?_
 refine K (hC) ?_
 exact K (hI) trivial
theorem g9 {t:Tab} (h:bJ t=true):UpI t.inodes:=((aV t).1 h).tab.up
theorem ajg {t:Tab} {s:aA} {X:Inode} (hB:bJ t=true) (hs:jA s=true) (hX:mN t s=.ok X):∃ D kD kX,eN t s=.ok D∧D.ino≠X.ino∧b9 t D.ino=some kD∧b9 (aG t (cF D (aW s))) X.ino=some kX∧1≤X.links∧X.links≤1000:=by
 have ht:=(aV t).1 hB
 obtain ⟨f1,f2⟩:=c9 hX
 obtain ⟨D,d1,d2,_⟩:=vT ht hs f1
 have a1:=(aR f1).2
 have a2:=(aR (i7 d1).1).2
 have hne:D.ino≠X.ino:=by
  intro e
  rw [e,a1] at a2
  injection a2 with a2
  have:=(i7 d1).2
  rw [← a2] at this; omega
 obtain ⟨kD,h1⟩:=pB a2
 have a3:aC (aG t (cF D (aW s))) X.ino=some X:=by
  rw [cC (g9 hB),lJ (show ¬ (cF D (aW s)).ino=X.ino from hne)]; exact a1
 obtain ⟨kX,h2⟩:=pB a3
 have ok:=(ht.tab.ok X (aR f1).1).1
 have h0:X.links≠0:=fun e=>ae1 ht hs f1 (ok.root.1 e)
 have:=ok.links
 exact ⟨D,kD,kX,d1,hne,h1,h2,by omega,by omega⟩
theorem acj (t:Tab) (s:aA) (h:t.sz<2^30) (hs:s.length<2^40):bC Tryz.prog 22 [t.x,.str s] (.tup [(fV t s).1.o,.int .i64 (fV t s).2]) [.undef,.undef]:=by
 have h':t.sz<2^40:=by omega
 have hC:=eT t h'
 have hT:=fW t h'
 have hPa:=fF s hs
 rw [show (aJ s).2.2=jA s from rfl] at hPa
 by_cases hc:bJ t=true∧jA s=true
 ·obtain ⟨hB,hsb⟩:=hc
  rw [hB] at hT
  rw [hsb] at hPa
  have hF:=rD t s h' hs
  cases hX:mN t s with
  | error c=>
   have hc:decide (c=0)=false:=lB (tL hX)
   have e:fV t s=(t,c):=by rw [fV,lG ⟨hB,hsb⟩,hX]
   rw [hX] at hF
   rw [e]
   simp only [exC] at hF
   refine U j4 [] 3895 [] fun w hP hQ=>?_
   unfold iK
   refine N ?_
   refine K (hPa) ?_
   refine K (hT) ?_
   have hz:=hc
   refine Kz (hF) ?_
   (first|refine cI hP (hC) rfl rfl ?_|refine cH hP (hC) rfl rfl ?_)
   refine N ?_
   first|exact trivial|rfl
  | ok X=>
   obtain ⟨D,kD,kX,d1,d2,d3,d4,d5,d6⟩:=ajg hB hsb hX
   obtain ⟨f1,f2⟩:=c9 hX
   have zX:=yX h' (aR f1).2
   have zD:=(aR (i7 d1).1).2
   have zt:(aG t (cF D (aW s))).sz<2^40:=by
    have:=n8 t (cF D (aW s))
    have:=v6 D (aW s)
    have:=(cZ h).2 D (aM zD).1
    omega
   have hL:=v7 t s h' hs (g9 hB) d1
   have hD:=sV (aG t (cF D (aW s))) X.ino zt
   have hI:=bN (aG t (cF D (aW s))) (pU X) zt zX (f4 (g9 hB) _) d4
   rw [hX] at hF
   have e:fV t s=(bZ t D (aW s) X,0):=by rw [fV,lG ⟨hB,hsb⟩,hX,d1]; rfl
   simp only [exC,exI] at hF
   rw [e,bZ]
   by_cases h1:X.links=1
   ·have h1':decide (X.links=1)=true:=lE h1
    rw [lG h1]
    refine U j4 [] 3895 [] fun w hP hQ=>?_
    unfold iK
    refine N ?_
    refine K (hPa) ?_
    refine K (hT) ?_
    refine K (hF) ?_
    have hz:=h1'
    refine Kz (hL) ?_
    exact K (hD) trivial
   ·have h1':decide (X.links=1)=false:=lB h1
    rw [lJ h1]
    refine U j4 [] 3895 [] fun w hP hQ=>?_
    unfold iK
    refine N ?_
    refine K (hPa) ?_
    refine K (hT) ?_
    refine K (hF) ?_
    have hz:=h1'
    refine Kz (hL) ?_
    exact K (hI) trivial
 ·have e:fV t s=(t,1):=by rw [fV,lJ hc]
  rw [e]
  cases hB:bJ t with
  | false=>
   rw [hB] at hT
   refine U j4 [] 3895 [] fun w hP hQ=>?_
   unfold iK
   refine N ?_
   refine K (hPa) ?_
   refine K (hT) ?_
   (first|refine cI hP (hC) rfl rfl ?_|refine cH hP (hC) rfl rfl ?_)
   refine N ?_
   first|exact trivial|rfl
  | true=>
   have hsb:jA s=false:=by cases e:jA s <;> simp_all
   rw [hB] at hT
   rw [hsb] at hPa
   refine U j4 [] 3895 [] fun w hP hQ=>?_
   unfold iK
   refine N ?_
   refine K (hPa) ?_
   refine K (hT) ?_
   (first|refine cI hP (hC) rfl rfl ?_|refine cH hP (hC) rfl rfl ?_)
   refine N ?_
   first|exact trivial|rfl
theorem ad1 (a b:aA):strLt a b=decide (a<b):=iF a b
theorem ajh (a b:aA):(decide (a<b) || decide (a=b))=!decide (b<a):=by
 rw [lO3]
 simp only [lL4,decide_eq_true_eq,lX3,decide_eq_false_iff_not]
 constructor
 ·rintro (h | rfl)
  ·exact List.lt_asymm h
  ·exact lT3 _
 ·intro h
  rcases List.le_iff_lt_or_eq.1 (List.not_lt.1 h) with h | h
  ·exact .inl h
  ·exact .inr h
theorem am3 (l:List Ent) (e:Ent):l.map Ent.row++[[TV.str e.name,TV.int .i64 e.ino]]=(l.take l.length++e::l.drop l.length).map Ent.row:=by simp [Ent.row]
theorem aji (L:List Ent) (k:Nat) (x:Ent):(L.map Ent.row).modify k (fun r=>TV.str x.name::TV.int .i64 x.ino::r.drop 2)=(L.set k x).map Ent.row:=sH Ent.row L k x _ fun _ _=>rfl
theorem afn {l:List Ent} {k:Nat} {h:Ent} (hk:k<l.length):(((l.take (k+1)++h::l.drop (k+1))).map Ent.row)[k]?=some (Ent.row l[k]):=by rw [lI1,ab2 hk]; rfl
theorem aay (l:List Ent) (e:Ent) (hu:UpK Ent.name l) (hl:l.length<2^30):bC Tryz.prog 93 [.ext 2 (l.map Ent.row),e.x] (.own 2 ((dD l e).map Ent.row)) [.undef,.undef]:=by
 have hb1:l.length*24≤140737488355328:=by omega
 have hb2:(l.length+1)*24≤140737488355328:=by omega
 refine U air [] 123 [] fun w hP hQ=>?_
 unfold abm
 refine N ?_
 simp +decide (maxSteps:=9^9) (disch:=omega) only[↓SB0,SX,seval,hQ,adV,hb1,hb2,lT,a8]
 rw [am3]
 refine fH [] ?_
 refine N ?_
 refine aT [] (fun s:Nat × Ent=>[(5,.own 2 ((l.take s.1++s.2::l.drop s.1).map Ent.row)),(6,.int .i64 (s.1:Nat))]) (fun s=>s.1≤l.length∧∀ j,s.1≤j→(h:j<l.length)→e.name<l[j].name) (fun s=>s.1) ((l.length,e)) hP hQ (rfl) (by simp; omega) ?_
 rintro ⟨k,x⟩ ⟨hk,hj⟩ w1 hP1 hQ1
 refine N1 ?_
 simp only at hk hj
 have hlen:=ab1 (h:=x) hk
 cases k with
 | zero=>
  have hz:=hlen
  refine Nz1 ?_
  rw [dD,q9 hu hk hj (.inl rfl)]
  simp [Ent.row]
 | succ k=>
  have hkl:k<l.length:=by omega
  have w4:decide ((0:Int)<((k+1:Nat):Int))=true:=lE (by omega)
  simp +decide (maxSteps:=9^9) (disch:=omega) only[↓SB0,SX,seval,hQ,hQ1,w4,hlen,a8,afn (h:=x) hkl,Ent.row,ad1,ajh]
  (first | with_reducible refine cQ _ ?_ ?_ | refine cR _ ?_ ?_) <;> intro g
  ·simp +decide (maxSteps:=9^9) (disch:=omega) only[↓SB0,SX,seval,hQ,hQ1,hlen,a8,afn (h:=x) hkl,Ent.row]
   exact ⟨(k,l[k]),by simp only [aji,rA _ _ hk,yN hkl],⟨by simp only; omega,fun j hj1 hj2=>by
    by_cases e:j=k
    ·subst e; exact g
    ·exact hj j (by simp only at hj1; omega) hj2⟩,by simp only; omega⟩
  ·simp +decide (maxSteps:=9^9) (disch:=omega) only[↓SB0,SX,seval,hQ,hQ1,hlen]
   rw [dD,q9 hu hk hj (.inr ⟨by simpa using hkl,by simpa using g⟩),aji,rA _ _ hk]
theorem agN {t:Tab} {x:Inode} (h:∀ y ∈ t.inodes,y.ino<x.ino):aG t x={ inodes:=t.inodes++[x],next:=t.next }:=by
 have:=ab0 (l:=t.inodes) (x:=x) (k:=t.inodes.length) (lR1 _) (fun j hj hl=>h _ (lO hl)) (fun h=>absurd h (Nat.lt_irrefl _))
 rw [aG,this]; simp
theorem am4 {t:Tab} {x:Inode} (h:∀ y ∈ t.inodes,y.ino<x.ino):b9 t x.ino=none:=by
 rw [b9,lU3]
 intro y hy
 have:=h y hy
 simp; omega
theorem ala (l:List Inode):jC (l.map Inode.row)=true:=by
 rw [jC,lW]
 intro r hr
 obtain ⟨x,_,rfl⟩:=lV1.1 hr
 rfl
theorem am5 {l:List Inode} (h:l≠[]):f5 (l.map Inode.row)=false:=by
 cases l with
 | nil=>exact absurd rfl h
 | cons x l=>rfl
theorem v8 (t:Tab) (x:Inode) (h:t.sz<2^30) (hx:x.sz<2^30) (hne:t.inodes≠[]) (hn:∀ y ∈ t.inodes,y.ino<x.ino):bC Tryz.prog 80 [t.x,x.x] (aG t x).o [.undef,.undef]:=by
 obtain ⟨h1,h2⟩:=cZ h
 have hPl:=pY t x.ino (by omega)
 rw [am4 hn] at hPl
 rw [agN hn]
 refine U sN [] 255 [] fun w hP hQ=>?_
 unfold nO
 refine N ?_
 refine K (eT t (by omega)) ?_
 refine K (hPl) ?_
 refine fH [] ?_
 refine N ?_
 refine aT [] (fun i:Nat=>[(6,.int .i64 i)]) (fun i=>i≤t.inodes.length) (fun i=>t.inodes.length-i) (0) hP hQ (rfl) (by simp) ?_
 rintro i hi w1 hP1 hQ1
 refine N1 ?_
 by_cases g:i<t.inodes.length
 ·have g1:decide (((i:Nat):Int)<(t.inodes.length:Nat))=true:=lE (by omega)
  have g2:decide ((t.inodes[i]).ino<x.ino)=true:=lE (hn _ (lO g))
  have hz:=And.intro g1 (And.intro g2 (bG (show ((i:Nat):Int)<(t.inodes.length:Nat) by omega)))
  refine Nz1 ?_
  exact ⟨i+1,rfl,by omega,by omega⟩
 ·obtain rfl:i=t.inodes.length:=by omega
  have g1:decide (((t.inodes.length:Nat):Int)<(t.inodes.length:Nat))=false:=lB (by omega)
  have e1:(((t.inodes.length:Nat):Int)-0).toNat=t.inodes.length:=by omega
  have e2:(t.inodes.map Inode.row).take t.inodes.length=t.inodes.map Inode.row:=lD2 (by simp)
  have e3:0+t.inodes.length≤t.inodes.length:=by omega
  have e4:(0+t.inodes.length)*96≤140737488355328:=by omega
  have e5:=ala t.inodes
  have e6:=am5 hne
  have e7:(t.inodes.map Inode.row).drop (0+t.inodes.length)=[]:=lG4 (by simp)
  have e8:(wG (t.inodes.map Inode.row)).length=t.inodes.length:=by simp [wG]
  have e9:(((t.inodes.length:Nat):Int)-((t.inodes.length:Nat):Int)).toNat=0:=by omega
  have e10:(wG (t.inodes.map Inode.row)).drop t.inodes.length=[]:=lG4 (by simp [wG])
  have e11:(t.inodes.length+1)*96≤140737488355328:=by omega
  have e12:t.inodes.length+0≤t.inodes.length:=by omega
  have e13:(t.inodes.length+1+0)*96≤140737488355328:=by omega
  have e14:t.inodes.map Inode.row++[[TV.int .i64 x.ino,TV.int .i64 x.kind,TV.int .i64 x.links,TV.sl 1 (aO x.data),TV.sl 2 (x.ents.map Ent.row),TV.sl 2 (x.attrs.map Attr.row)]]=(t.inodes++[x]).map Inode.row:=by simp [Inode.row]
  have e15:((t.inodes++[x]).length+0)*96≤140737488355328:=by simp; omega
  have hz:=And.intro g1 (And.intro e1 (And.intro e2 (And.intro e3 (And.intro e4 (And.intro e5 (And.intro e6 e7))))))
  refine Nz1 ?_
  (first|refine cI hP (l3 x (by omega)) rfl rfl ?_|refine cH hP (l3 x (by omega)) rfl rfl ?_)
  simp +decide (maxSteps:=9^9) (disch:=omega) only[↓SB0,SX,seval,hQ,g1,e1,e2,e3,e4,e5,e6,e7,e8,e9,e10,e11,e12,e13,e14,e15,lP2,List.take_nil]
  try rfl
def am6 (t:Tab) (s:aA) (f:Int):Rs Inode:=if jA s=true then wO t s f else .error 1
theorem am7 {t:Tab} {s:aA}:(∃ c,cJ t (aJ s).1=.error c∧eN t s=.error c)∨(∃ D,cJ t (aJ s).1=.ok D∧¬ D.kind=2∧eN t s=.error 3)∨∃ D,cJ t (aJ s).1=.ok D∧D.kind=2∧eN t s=.ok D:=by
 unfold eN
 cases e:cJ t (aJ s).1 with
 | error c=>exact .inl ⟨c,rfl,rfl⟩
 | ok D=>
  by_cases hk:D.kind=2
  ·exact .inr (.inr ⟨D,rfl,hk,by simp only [lG hk]⟩)
  ·exact .inr (.inl ⟨D,rfl,hk,by simp only [lJ hk]⟩)
theorem wA (t:Tab) (s:aA) (f:Int) (h:t.sz<2^40) (hs:s.length<2^40):bC Tryz.prog 92 [t.x,.str s,.int .i64 f] (.tup [(exI (am6 t s f)).o,.str (exN (am6 t s f) (aW s)),.int .i64 (exC (am6 t s f))]) [.undef,.undef,.undef]:=by
 have hPa:=fF s hs
 have hS:=sG t (aJ s).1 h (by have:=(fN s).1; omega)
 rw [show (aJ s).2.2=jA s from rfl,show (aJ s).2.1=aW s from rfl] at hPa
 unfold am6
 cases hb:jA s with
 | false=>
  rw [hb] at hPa
  rw [lJ (by simp)]
  refine U gB [] 16335 [] fun w hP hQ=>?_
  unfold fJ
  refine N ?_
  refine K (hPa) ?_
  all_goals first | rfl | exact ⟨rfl,rfl⟩
 | true=>
  rw [hb] at hPa
  rw [lG rfl]
  unfold wO
  rcases am7 (t:=t) (s:=s) with ⟨c,e1,e2⟩ | ⟨D,e1,e2,e3⟩ | ⟨D,e1,e2,e3⟩
  ·have hc:decide (c=0)=false:=lB (mP e1)
   rw [e1] at hS
   rw [e2]
   simp only [exI,exC,exN] at hS ⊢
   refine U gB [] 16335 [] fun w hP hQ=>?_
   unfold fJ
   refine N ?_
   refine K (hPa) ?_
   have hz:=hc
   refine Kz (hS) ?_
   all_goals first | rfl | exact ⟨rfl,rfl⟩
  ·have hk':decide (D.kind=2)=false:=lB e2
   rw [e1] at hS
   rw [e3]
   simp only [exI,exC,exN] at hS ⊢
   refine U gB [] 16335 [] fun w hP hQ=>?_
   unfold fJ
   refine N ?_
   refine K (hPa) ?_
   have hz:=hk'
   refine Kz (hS) ?_
   all_goals first | rfl | exact ⟨rfl,rfl⟩
  ·have hk':decide (D.kind=2)=true:=lE e2
   have zD:=yX h (aR e1).2
   have hE:=afk D (aW s) zD
   rw [e1] at hS
   rw [e3]
   simp only [exI,exC] at hS
   by_cases h1:bB D (aW s)=0
   ·rw [h1] at hE
    simp only [lG (show bB D (aJ s).2.1=0 from h1)]
    by_cases h2:D.ents.length<10
    ·have h2':decide ((10:Int)≤(D.ents.length:Nat))=false:=lB (by omega)
     simp only [lG (Or.inl h2:D.ents.length<10∨D.ino=f),exI,exC,exN]
     refine U gB [] 16335 [] fun w hP hQ=>?_
     unfold fJ
     refine N ?_
     refine K (hPa) ?_
     have hz:=hk'
     refine Kz (hS) ?_
     have hz:=h2'
     exact Kz (hE) trivial
    ·have h2':decide ((10:Int)≤(D.ents.length:Nat))=true:=lE (by omega)
     by_cases h3:D.ino=f
     ·have h3':decide (D.ino=f)=true:=lE h3
      simp only [lG (Or.inr h3:D.ents.length<10∨D.ino=f),exI,exC,exN]
      refine U gB [] 16335 [] fun w hP hQ=>?_
      unfold fJ
      refine N ?_
      refine K (hPa) ?_
      have hz:=hk'
      refine Kz (hS) ?_
      have hz:=And.intro h2' h3'
      exact Kz (hE) trivial
     ·have h3':decide (D.ino=f)=false:=lB h3
      simp only [lJ (show ¬ (D.ents.length<10∨D.ino=f) from fun h=>h.elim h2 h3),exI,exC,exN]
      refine U gB [] 16335 [] fun w hP hQ=>?_
      unfold fJ
      refine N ?_
      refine K (hPa) ?_
      have hz:=hk'
      refine Kz (hS) ?_
      have hz:=And.intro h2' h3'
      refine Kz (hE) ?_
      all_goals first | rfl | exact ⟨rfl,rfl⟩
   ·have h1':decide (bB D (aW s)=0)=false:=lB h1
    simp only [lJ (show ¬ bB D (aJ s).2.1=0 from h1),exI,exC,exN]
    refine U gB [] 16335 [] fun w hP hQ=>?_
    unfold fJ
    refine N ?_
    refine K (hPa) ?_
    have hz:=hk'
    refine Kz (hS) ?_
    have hz:=h1'
    refine Kz (hE) ?_
    all_goals first | rfl | exact ⟨rfl,rfl⟩
theorem aoa {t:Tab} {s:aA} {f:Int} {D:Inode} (hB:bJ t=true) (h:wO t s f=.ok D):∃ k,b9 t D.ino=some k∧UpK Ent.name D.ents∧D.ents.length≤10∧D ∈ t.inodes∧2≤t.next∧t.next≤1000∧D.ino<t.next:=by
 have ht:=(aV t).1 hB
 have hm:=q7 (i8 h).1
 obtain ⟨k,hk⟩:=pB (f0 ht hm)
 have ok:=(bQ ht hm)
 exact ⟨k,hk,ok.up,ok.len,hm,ht.tab.next.1,ht.tab.next.2,(ht.tab.ok D hm).2⟩
theorem ajj (l:List Ent) (e:Ent):szM Ent.sz (dD l e)≤szM Ent.sz l+e.name.length+1:=by
 have h1:(dD l e).length=l.length+1:=oT l e
 have h2:((dD l e).map Ent.sz).sum=(l.map Ent.sz).sum+e.name.length:=by
  unfold dD
  induction l with
  | nil=>simp [vJ,Ent.sz]
  | cons f l ih=>
   rw [vJ]
   split
   ·simp only [lP,lB2,Ent.sz]; omega
   ·simp only [lP,lB2,ih (by exact oT l e)]; omega
 simp only [szM]; omega
theorem ad3 (D:Inode) (n:aA) (j:Int):(c5 D n j).sz≤D.sz+n.length+1:=by
 have:=ajj D.ents ⟨n,j⟩
 simp only at this
 show D.data.length+szM Ent.sz (dD D.ents ⟨n,j⟩)+szM Attr.sz D.attrs≤D.data.length+szM Ent.sz D.ents+szM Attr.sz D.attrs+n.length+1
 omega
theorem am8 {t:Tab} {D:Inode} {n:aA} (hB:bJ t=true) (hm:D ∈ t.inodes):∀ y ∈ (aG t (c5 D n t.next)).inodes,y.ino<t.next:=by
 have ht:=(aV t).1 hB
 intro y hy
 rcases yA hy with rfl | hy
 ·exact (ht.tab.ok D hm).2
 ·exact (ht.tab.ok y hy).2
theorem ajk (l:List Inode) (x:Inode):bR l x≠[]:=by
 cases l with
 | nil=>simp [bR]
 | cons y l=>rw [bR]; split; simp; split <;> simp
theorem ack (t:Tab) (s:aA) (k:Int) (h:t.sz<2^28) (hs:s.length<2^40):bC Tryz.prog 89 [t.x,.str s,.int .i64 k] (.tup [(fM t s k).1.o,.int .i64 (fM t s k).2]) [.undef,.undef,.undef]:=by
 have h':t.sz<2^40:=by omega
 have hC:=eT t h'
 have hT:=fW t h'
 have hN:=wA t s 0 h' hs
 unfold am6 at hN
 cases hB:bJ t with
 | false=>
  have e:fM t s k=(t,1):=by rw [fM,lJ (by simp [hB])]
  rw [hB] at hT
  rw [e]
  refine U iL [] 4047 [] fun w hP hQ=>?_
  unfold f9
  refine N ?_
  refine K (hT) ?_
  (first|refine cI hP (hC) rfl rfl ?_|refine cH hP (hC) rfl rfl ?_)
  refine N ?_
  all_goals first|exact trivial|rfl|exact ⟨rfl,rfl⟩
 | true=>
  rw [hB] at hT
  cases hb:jA s with
  | false=>
   have e:fM t s k=(t,1):=by rw [fM,lJ (by simp [hb])]
   rw [hb,lJ (by simp)] at hN
   rw [e]
   simp only [exI,exC,exN] at hN
   refine U iL [] 4047 [] fun w hP hQ=>?_
   unfold f9
   refine N ?_
   refine K (hT) ?_
   refine K (hN) ?_
   (first|refine cI hP (hC) rfl rfl ?_|refine cH hP (hC) rfl rfl ?_)
   refine N ?_
   all_goals first|exact trivial|rfl|exact ⟨rfl,rfl⟩
  | true=>
   rw [hb,lG rfl] at hN
   cases hX:wO t s 0 with
   | error c=>
    have hc:decide (c=0)=false:=lB (by
     intro e; subst e; unfold wO at hX
     split at hX
     ·split at hX
      ·split at hX <;> cases hX
      ·cases hX
     ·rename_i e2
      cases hX
      unfold eN at e2
      split at e2
      ·split at e2 <;> cases e2
      ·rename_i e3; cases e2; exact mP e3 rfl)
    have e:fM t s k=(t,c):=by rw [fM,lG ⟨hB,hb⟩,hX]
    rw [hX] at hN
    rw [e]
    simp only [exI,exC,exN] at hN
    refine U iL [] 4047 [] fun w hP hQ=>?_
    unfold f9
    refine N ?_
    refine K (hT) ?_
    have hz:=hc
    refine Kz (hN) ?_
    (first|refine cI hP (hC) rfl rfl ?_|refine cH hP (hC) rfl rfl ?_)
    refine N ?_
    all_goals first|exact trivial|rfl|exact ⟨rfl,rfl⟩
   | ok D=>
    obtain ⟨kD,k1,k2,k3,k4,k5,k6,k7⟩:=aoa hB hX
    have e0:fM t s k=if t.inodes.length<30∧t.next<1000 then (n4 t D (aW s) k,0) else (t,5):=by rw [fM,lG ⟨hB,hb⟩,hX]
    rw [hX] at hN
    simp only [exI,exC,exN] at hN
    rw [e0]
    by_cases g1:t.inodes.length<30
    ·have g1':decide ((30:Int)≤(t.inodes.length:Nat))=false:=lB (by omega)
     by_cases g2:t.next<1000
     ·have g2':decide ((1000:Int)≤t.next)=false:=lB (by omega)
      rw [lG ⟨g1,g2⟩]
      have zD:=(cZ h).2 D k4
      have z1:=ad3 D (aW s) t.next
      have z2:=(fN s).2
      have z3:=n8 t (c5 D (aW s) t.next)
      have hP1:=aay D.ents ⟨aW s,t.next⟩ k2 (by omega)
      have hS1:=bN t (c5 D (aW s) t.next) h' (by omega) (g9 hB) k1
      have hS2:=v8 (aG t (c5 D (aW s) t.next)) (aap t.next k) (by omega) (by show 0+(0+0)+(0+0)<2^30; omega) (ajk _ _) (am8 hB k4)
      refine U iL [] 4047 [] fun w hP hQ=>?_
      unfold f9
      refine N ?_
      refine K (hT) ?_
      have hz:=And.intro g1' g2'
      refine Kz (hN) ?_
      refine K (hC) ?_
      refine K (hP1) ?_
      refine K (hS1) ?_
      refine K (hS2) ?_
      rfl
     ·have g2':decide ((1000:Int)≤t.next)=true:=lE (by omega)
      rw [lJ (by omega)]
      refine U iL [] 4047 [] fun w hP hQ=>?_
      unfold f9
      refine N ?_
      refine K (hT) ?_
      have hz:=And.intro g1' g2'
      refine Kz (hN) ?_
      (first|refine cI hP (hC) rfl rfl ?_|refine cH hP (hC) rfl rfl ?_)
      refine N ?_
      all_goals first|exact trivial|rfl|exact ⟨rfl,rfl⟩
    ·have g1':decide ((30:Int)≤(t.inodes.length:Nat))=true:=lE (by omega)
     rw [lJ (by omega)]
     refine U iL [] 4047 [] fun w hP hQ=>?_
     unfold f9
     refine N ?_
     refine K (hT) ?_
     have hz:=g1'
     refine Kz (hN) ?_
     (first|refine cI hP (hC) rfl rfl ?_|refine cH hP (hC) rfl rfl ?_)
     refine N ?_
     all_goals first|exact trivial|rfl|exact ⟨rfl,rfl⟩
theorem oZ (t:Tab) (s:aA) (h:t.sz<2^28) (hs:s.length<2^40):bC Tryz.prog 37 [t.x,.str s] (.tup [(fM t s 2).1.o,.int .i64 (fM t s 2).2]) [.undef,.undef]:=by
 refine U adj [] 55 [] fun w hP hQ=>?_
 unfold uO
 refine N ?_
 exact K (ack t s 2 h hs) trivial
theorem mR (t:Tab) (s:aA) (h:t.sz<2^28) (hs:s.length<2^40):bC Tryz.prog 33 [t.x,.str s] (.tup [(fM t s 1).1.o,.int .i64 (fM t s 1).2]) [.undef,.undef]:=by
 refine U abu [] 55 [] fun w hP hQ=>?_
 unfold sK
 refine N ?_
 exact K (ack t s 1 h hs) trivial
theorem afo {t:Tab} {s:aA} {X:Inode} (hB:bJ t=true) (hs:jA s=true) (hX:cJ t s=.ok X):∃ D,eN t s=.ok D:=by
 have ht:=(aV t).1 hB
 obtain ⟨D,d1,d2,_⟩:=vT ht hs hX
 exact ⟨D,d1⟩
theorem sW (t:Tab) (s:aA) (h:t.sz<2^30) (hs:s.length<2^40):bC Tryz.prog 30 [t.x,.str s] (.tup [(iZ t s).1.o,.int .i64 (iZ t s).2]) [.undef,.undef]:=by
 have h':t.sz<2^40:=by omega
 have hC:=eT t h'
 have hT:=fW t h'
 have hPa:=fF s hs
 rw [show (aJ s).2.2=jA s from rfl] at hPa
 by_cases hc:bJ t=true∧jA s=true
 ·obtain ⟨hB,hsb⟩:=hc
  rw [hB] at hT
  rw [hsb] at hPa
  have hF:=sG t s h' hs
  cases hX:cJ t s with
  | error c=>
   have hc:decide (c=0)=false:=lB (mP hX)
   have e:iZ t s=(t,c):=by rw [iZ,lG ⟨hB,hsb⟩,hX]
   rw [hX] at hF
   rw [e]
   simp only [exI,exC] at hF
   refine U eK [] 1847 [] fun w hP hQ=>?_
   unfold dL
   refine N ?_
   refine K (hPa) ?_
   refine K (hT) ?_
   have hz:=hc
   refine Kz (hF) ?_
   (first|refine cI hP (hC) rfl rfl ?_|refine cH hP (hC) rfl rfl ?_)
   refine N ?_
   all_goals first|exact trivial|rfl|exact ⟨rfl,rfl⟩
  | ok X=>
   have e0:iZ t s=if X.kind=2 then (if X.ents=[] then (jP (aG t (cF (exI (eN t s)) (aW s))) X.ino,0) else (t,6)) else (t,3):=by rw [iZ,lG ⟨hB,hsb⟩,hX]
   rw [hX] at hF
   rw [e0]
   simp only [exI,exC] at hF
   have zX:=yX h' (aR hX).2
   by_cases g1:X.kind=2
   ·have g1':decide (X.kind=2)=true:=lE g1
    rw [lG g1]
    by_cases g2:X.ents=[]
    ·have g2':decide ((0:Int)<(X.ents.length:Nat))=false:=lB (by rw [g2]; simp)
     obtain ⟨D,d1⟩:=afo hB hsb hX
     rw [lG g2,d1]
     simp only [exI]
     have zD:=(aR (i7 d1).1).2
     have zt:(aG t (cF D (aW s))).sz<2^40:=by
      have:=n8 t (cF D (aW s))
      have:=v6 D (aW s)
      have:=(cZ h).2 D (aM zD).1
      omega
     have hL:=v7 t s h' hs (g9 hB) d1
     have hD:=sV (aG t (cF D (aW s))) X.ino zt
     refine U eK [] 1847 [] fun w hP hQ=>?_
     unfold dL
     refine N ?_
     refine K (hPa) ?_
     refine K (hT) ?_
     have hz:=And.intro g1' g2'
     refine Kz (hF) ?_
     refine K (hL) ?_
     (first|refine cI hP (hD) rfl rfl ?_|refine cH hP (hD) rfl rfl ?_)
     refine N ?_
     all_goals first|exact trivial|rfl|exact ⟨rfl,rfl⟩
    ·have g2':decide ((0:Int)<(X.ents.length:Nat))=true:=lE (by have:=lE3.2 g2; omega)
     rw [lJ g2]
     refine U eK [] 1847 [] fun w hP hQ=>?_
     unfold dL
     refine N ?_
     refine K (hPa) ?_
     refine K (hT) ?_
     have hz:=And.intro g1' g2'
     refine Kz (hF) ?_
     (first|refine cI hP (hC) rfl rfl ?_|refine cH hP (hC) rfl rfl ?_)
     refine N ?_
     all_goals first|exact trivial|rfl|exact ⟨rfl,rfl⟩
   ·have g1':decide (X.kind=2)=false:=lB g1
    rw [lJ g1]
    refine U eK [] 1847 [] fun w hP hQ=>?_
    unfold dL
    refine N ?_
    refine K (hPa) ?_
    refine K (hT) ?_
    have hz:=g1'
    refine Kz (hF) ?_
    (first|refine cI hP (hC) rfl rfl ?_|refine cH hP (hC) rfl rfl ?_)
    refine N ?_
    all_goals first|exact trivial|rfl|exact ⟨rfl,rfl⟩
 ·have e:iZ t s=(t,1):=by rw [iZ,lJ hc]
  rw [e]
  cases hB:bJ t with
  | false=>
   rw [hB] at hT
   refine U eK [] 1847 [] fun w hP hQ=>?_
   unfold dL
   refine N ?_
   refine K (hPa) ?_
   refine K (hT) ?_
   (first|refine cI hP (hC) rfl rfl ?_|refine cH hP (hC) rfl rfl ?_)
   refine N ?_
   all_goals first|exact trivial|rfl|exact ⟨rfl,rfl⟩
  | true=>
   have hsb:jA s=false:=by cases e:jA s <;> simp_all
   rw [hB] at hT
   rw [hsb] at hPa
   refine U eK [] 1847 [] fun w hP hQ=>?_
   unfold dL
   refine N ?_
   refine K (hPa) ?_
   refine K (hT) ?_
   (first|refine cI hP (hC) rfl rfl ?_|refine cH hP (hC) rfl rfl ?_)
   refine N ?_
   all_goals first|exact trivial|rfl|exact ⟨rfl,rfl⟩
theorem am9 (X:Inode):(iD X).sz=X.sz:=rfl
theorem alE {t:Tab} {s:aA} {f:Int} {c:Int} (h:wO t s f=.error c):c≠0:=by
 intro e
 subst e
 unfold wO at h
 split at h
 ·split at h
  ·split at h <;> cases h
  ·cases h
 ·rename_i e2
  cases h
  unfold eN at e2
  split at e2
  ·split at e2 <;> cases e2
  ·rename_i e3; cases e2; exact mP e3 rfl
theorem ana {t:Tab} {p q:aA} {X D:Inode} (hB:bJ t=true) (hX:mN t p=.ok X) (hD:wO t q 0=.ok D):∃ kX kD,b9 t X.ino=some kX∧b9 (aG t (iD X)) D.ino=some kD∧UpI (aG t (iD X)).inodes∧m9 t D (aW q) X=aG (aG t (iD X)) (c5 D (aW q) X.ino)∧UpK Ent.name D.ents∧D.ents.length≤10∧X.sz+0≤X.sz∧0≤X.links∧X.links≤1000:=by
 have ht:=(aV t).1 hB
 obtain ⟨f1,f2⟩:=c9 hX
 have a1:=(aR f1).2
 have hm:=q7 (i8 hD).1
 have a2:=f0 ht hm
 have k2:=(i7 (i8 hD).1).2
 have hne:D.ino≠X.ino:=by
  intro e
  rw [e,a1] at a2
  cases a2
  omega
 obtain ⟨kX,hkX⟩:=pB a1
 have hu:=g9 hB
 have a3:aC (aG t (iD X)) D.ino=some D:=by
  rw [cC hu,lJ (show ¬ (iD X).ino=D.ino from fun e=>hne e.symm)]
  exact a2
 obtain ⟨kD,hkD⟩:=pB a3
 have ok:=bQ ht hm
 have l2:=(ht.tab.ok X (aR f1).1).1.links
 exact ⟨kX,kD,hkX,hkD,f4 hu _,set_comm hu (show (c5 D (aW q) X.ino).ino≠(iD X).ino from hne),ok.up,ok.len,by omega,by omega,by omega⟩
theorem wB (t:Tab) (p q:aA) (h:t.sz<2^28) (hp:p.length<2^40) (hq:q.length<2^40):bC Tryz.prog 39 [t.x,.str p,.str q] (.tup [(kO t p q).1.o,.int .i64 (kO t p q).2]) [.undef,.undef,.undef]:=by
 have h':t.sz<2^40:=by omega
 have hC:=eT t h'
 have hT:=fW t h'
 have hSp:=dG p hp
 have hPa:=fF q hq
 rw [show (aB p).2=gT p from rfl] at hSp
 rw [show (aJ q).2.2=jA q from rfl] at hPa
 by_cases hc:bJ t=true∧gT p=true∧jA q=true
 ·obtain ⟨hB,hpb,hqb⟩:=hc
  rw [hB] at hT
  rw [hpb] at hSp
  rw [hqb] at hPa
  have hF:=rD t p h' hp
  cases hX:mN t p with
  | error c=>
   have hc:decide (c=0)=false:=lB (tL hX)
   have e:kO t p q=(t,c):=by rw [kO,lG ⟨hB,hpb,hqb⟩,hX]
   rw [hX] at hF
   rw [e]
   simp only [exI,exC] at hF
   refine U fL [] 258767 [] fun w hP hQ=>?_
   unfold dZ
   refine N ?_
   refine K (hSp) ?_
   refine K (hPa) ?_
   refine K (hT) ?_
   have hz:=hc
   refine Kz (hF) ?_
   (first|refine cI hP (hC) rfl rfl ?_|refine cH hP (hC) rfl rfl ?_)
   refine N ?_
   all_goals first|exact trivial|rfl|exact ⟨rfl,rfl⟩
  | ok X=>
   have hN:=wA t q 0 h' hq
   unfold am6 at hN
   rw [hqb,lG rfl] at hN
   rw [hX] at hF
   simp only [exI,exC] at hF
   cases hD:wO t q 0 with
   | error c=>
    have hc:decide (c=0)=false:=lB (alE hD)
    have e:kO t p q=(t,c):=by rw [kO,lG ⟨hB,hpb,hqb⟩,hX]; simp only [hD]
    rw [hD] at hN
    rw [e]
    simp only [exI,exC,exN] at hN
    refine U fL [] 258767 [] fun w hP hQ=>?_
    unfold dZ
    refine N ?_
    refine K (hSp) ?_
    refine K (hPa) ?_
    refine K (hT) ?_
    refine K (hF) ?_
    have hz:=hc
    refine Kz (hN) ?_
    (first|refine cI hP (hC) rfl rfl ?_|refine cH hP (hC) rfl rfl ?_)
    refine N ?_
    all_goals first|exact trivial|rfl|exact ⟨rfl,rfl⟩
   | ok D=>
    obtain ⟨kX,kD,k1,k2,k3,k4,k5,k6,k7,k8,k9⟩:=ana hB hX hD
    have e:kO t p q=(m9 t D (aW q) X,0):=by rw [kO,lG ⟨hB,hpb,hqb⟩,hX]; simp only [hD]
    rw [hD] at hN
    rw [e,k4]
    simp only [exI,exC,exN] at hN
    have zX:=(cZ h).2 X (aR (c9 hX).1).1
    have zD:=(cZ h).2 D (q7 (i8 hD).1)
    have z1:=ad3 D (aW q) X.ino
    have z2:=(fN q).2
    have z3:=n8 t (iD X)
    have z4:=am9 X
    have hP1:=aay D.ents ⟨aW q,X.ino⟩ k5 (by omega)
    have hS1:=bN t (iD X) h' (by omega) (g9 hB) k1
    have hS2:=bN (aG t (iD X)) (c5 D (aW q) X.ino) (by omega) (by omega) k3 k2
    refine U fL [] 258767 [] fun w hP hQ=>?_
    unfold dZ
    refine N ?_
    refine K (hSp) ?_
    refine K (hPa) ?_
    refine K (hT) ?_
    refine K (hF) ?_
    refine K (hN) ?_
    refine K (hP1) ?_
    refine K (hS1) ?_
    (first|refine cI hP (hS2) rfl rfl ?_|refine cH hP (hS2) rfl rfl ?_)
    refine N ?_
    all_goals first|exact trivial|rfl|exact ⟨rfl,rfl⟩
 ·have e:kO t p q=(t,1):=by rw [kO,lJ hc]
  rw [e]
  cases hB:bJ t with
  | false=>
   rw [hB] at hT
   refine U fL [] 258767 [] fun w hP hQ=>?_
   unfold dZ
   refine N ?_
   refine K (hSp) ?_
   refine K (hPa) ?_
   refine K (hT) ?_
   (first|refine cI hP (hC) rfl rfl ?_|refine cH hP (hC) rfl rfl ?_)
   refine N ?_
   all_goals first|exact trivial|rfl|exact ⟨rfl,rfl⟩
  | true=>
   rw [hB] at hT
   cases hpb:gT p with
   | false=>
    rw [hpb] at hSp
    refine U fL [] 258767 [] fun w hP hQ=>?_
    unfold dZ
    refine N ?_
    refine K (hSp) ?_
    refine K (hPa) ?_
    refine K (hT) ?_
    (first|refine cI hP (hC) rfl rfl ?_|refine cH hP (hC) rfl rfl ?_)
    refine N ?_
    all_goals first|exact trivial|rfl|exact ⟨rfl,rfl⟩
   | true=>
    have hqb:jA q=false:=by cases e:jA q <;> simp_all
    rw [hpb] at hSp
    rw [hqb] at hPa
    refine U fL [] 258767 [] fun w hP hQ=>?_
    unfold dZ
    refine N ?_
    refine K (hSp) ?_
    refine K (hPa) ?_
    refine K (hT) ?_
    (first|refine cI hP (hC) rfl rfl ?_|refine cH hP (hC) rfl rfl ?_)
    refine N ?_
    all_goals first|exact trivial|rfl|exact ⟨rfl,rfl⟩
theorem alF {t:Tab} {x:Inode} (h:x ∈ t.inodes):x.sz≤t.sz:=by
 have:=(cZ (t:=t) (n:=t.sz+1) (by omega)).2 x h
 omega
theorem alb {t:Tab} {s:aA} {c:Int} (hB:bJ t=true) (h:cJ t s=.error c):(oR t s).2=c:=by
 have ht:=(aV t).1 hB
 unfold cJ at h
 split at h
 ·rename_i e
  have hw:=(ae0 (abQ e) (i:=(oR t s).1)).1 (by rw [← e])
  obtain ⟨x,hx,_⟩:=x9 ht hw
  rw [hx] at h
  cases h
 ·cases h; rfl
theorem ald {t:Tab} (h:TreeOk t) {D1:Inode} {d1:List aA} (s1:Spot t D1 d1) {n:aA} {l:List aA} (hp:¬ (d1++[n]) <+: l):aQ (aC (aG t (cF D1 n))) l 1=aQ (aC t) l 1:=by
 have hD1:=f0 h s1.mem
 have map1:∀ i,aC (aG t (cF D1 n)) i=if D1.ino=i then some (cF D1 n) else aC t i:=fun i=>cC h.tab.up _ i
 rw [cN,cN]
 refine fD (fun i m him=>?_) (gH h s1) hp
 by_cases h2:i=D1.ino
 ·have hm:=him.resolve_left (by simp [h2])
  rw [aY (x:=cF D1 n) (by rw [map1,lG h2.symm]) m,aY (M:=aC t) (x:=D1) (by rw [h2]; exact hD1) m]
  have:bB (cF D1 n) m=bB D1 m:=by unfold cF; rw [nZ,if_neg hm]
  rw [this]; rfl
 ·exact mL (by rw [map1,lJ (Ne.symm h2)]) m
theorem anb {t:Tab} {p q:aA} {X D2:Inode} (hB:bJ t=true) (hp:jA p=true) (hq:jA q=true) (h1:cJ t p=.ok X) (hb:aam p q=false) (h2:wO t q (exI (eN t p)).ino=.ok D2) :
  ∃ D1 k,eN t p=.ok D1∧oR t (aJ p).1=(D1.ino,0)∧cJ (aG t (cF D1 (aW p))) (aJ q).1=.ok (fZ D1 D2 (aW p))∧b9 (aG t (cF D1 (aW p))) (fZ D1 D2 (aW p)).ino=some k ∧
   UpI (aG t (cF D1 (aW p))).inodes∧UpK Ent.name (fZ D1 D2 (aW p)).ents∧(fZ D1 D2 (aW p)).ents.length≤10∧(fZ D1 D2 (aW p)).sz≤t.sz∧D1.sz≤t.sz:=by
 have ht:=(aV t).1 hB
 obtain ⟨D1,e,d1,s1,he,e1,e2,s2,hn,hf,hl,hb'⟩:=aiU ht hp hq h1 hb h2
 have hD1:=f0 ht s1.mem
 have hD2:=f0 ht s2.mem
 have okD1:=bQ ht s1.mem
 have okD2:=bQ ht s2.mem
 have npd2:¬ ((aB (aJ p).1).1++[aW p]) <+: (aB (aJ q).1).1:=fun hp=>hb' (by rw [e1]; exact hp.trans (List.prefix_append _ _))
 have w:=ald ht s1 npd2
 rw [s2.at'] at w
 have at2:aC (aG t (cF D1 (aW p))) D2.ino=some (fZ D1 D2 (aW p)):=by
  rw [cC ht.tab.up]
  show (if D1.ino=D2.ino then _ else _)=_
  unfold fZ
  split
  ·rfl
  ·exact hD2
 have mi:(fZ D1 D2 (aW p)).ino=D2.ino:=by unfold fZ; split; (rename_i hc; exact hc); rfl
 obtain ⟨k,hk⟩:=pB at2
 have hs2:(aB (aJ q).1).2=true:=(vS (i7 (i8 h2).1).1).1
 have z1:=alF s1.mem
 have z2:=alF s2.mem
 refine ⟨D1,k,d1,(pV (i7 d1).1).1,?_,by rw [mi]; exact hk,f4 ht.tab.up _,?_,?_,?_,z1⟩
 ·rw [amX hs2 w,at2]
 ·unfold fZ; split
  ·exact rX okD1.up _
  ·exact okD2.up
 ·unfold fZ; split
  ·have:(cY D1.ents (aW p)).length≤D1.ents.length:=lN2 _ _
   have:=okD1.len
   show (cY D1.ents (aW p)).length≤10
   omega
  ·exact okD2.len
 ·unfold fZ; split
  ·exact lA4 (v6 D1 _) z1
  ·exact z2
theorem acl (t:Tab) (p q:aA) (h:t.sz<2^28) (hp:p.length<2^40) (hq:q.length<2^40):bC Tryz.prog 42 [t.x,.str p,.str q] (.tup [(n6 t p q).1.o,.int .i64 (n6 t p q).2]) [.undef,.undef,.undef]:=by
 have h':t.sz<2^40:=by omega
 have hC:=eT t h'
 have hT:=fW t h'
 have hPp:=fF p hp
 have hPa:=fF q hq
 rw [show (aJ p).2.2=jA p from rfl,show (aJ p).2.1=aW p from rfl] at hPp
 rw [show (aJ q).2.2=jA q from rfl,show (aJ q).2.1=aW q from rfl] at hPa
 by_cases hc:bJ t=true∧jA p=true∧jA q=true
 ·obtain ⟨hB,hpb,hqb⟩:=hc
  rw [hB] at hT
  rw [hpb] at hPp
  rw [hqb] at hPa
  have hW:=adZ t p h' hp
  cases hX:cJ t p with
  | error c=>
   have hc:decide (c=0)=false:=lB (mP hX)
   have e:n6 t p q=(t,c):=by rw [n6,lG ⟨hB,hpb,hqb⟩,hX]
   rw [alb hB hX] at hW
   rw [e]
   refine U gA [] 41543119 [] fun w hP hQ=>?_
   unfold fI
   refine N ?_
   refine K (hPp) ?_
   refine K (hPa) ?_
   refine K (hT) ?_
   have hz:=hc
   refine Kz (hW) ?_
   (first|refine cI hP (hC) rfl rfl ?_|refine cH hP (hC) rfl rfl ?_)
   refine N ?_
   all_goals first|exact trivial|rfl|exact ⟨rfl,rfl⟩
  | ok X=>
   have e0:n6 t p q=if aam p q=true then (t,6) else (match wO t q (exI (eN t p)).ino with
    | .ok D=>(kI t (exI (eN t p)) D (aW p) (aW q) X.ino,0)
    | .error c=>(t,c)):=by rw [n6,lG ⟨hB,hpb,hqb⟩,hX]; rfl
   have hL:=akW p q hp hq
   rw [(pV hX).1] at hW
   simp only at hW
   rw [e0]
   cases hb:aam p q with
   | true=>
    rw [hb] at hL
    rw [lG rfl]
    refine U gA [] 41543119 [] fun w hP hQ=>?_
    unfold fI
    refine N ?_
    refine K (hPp) ?_
    refine K (hPa) ?_
    refine K (hT) ?_
    refine K (hW) ?_
    refine K (hL) ?_
    (first|refine cI hP (hC) rfl rfl ?_|refine cH hP (hC) rfl rfl ?_)
    refine N ?_
    all_goals first|exact trivial|rfl|exact ⟨rfl,rfl⟩
   | false=>
    rw [hb] at hL
    rw [lJ (by simp)]
    obtain ⟨D1,d1⟩:=afo hB hpb hX
    have hV:=adZ t (aJ p).1 h' (by have:=(fN p).1; omega)
    rw [(pV (i7 d1).1).1] at hV
    simp only at hV
    have hN:=wA t q D1.ino h' hq
    unfold am6 at hN
    rw [hqb,lG rfl] at hN
    have e1:(exI (eN t p)).ino=D1.ino:=by rw [d1]; rfl
    rw [e1]
    cases hD:wO t q D1.ino with
    | error c=>
     have hc:decide (c=0)=false:=lB (alE hD)
     rw [hD] at hN
     simp only [exI,exC,exN] at hN ⊢
     refine U gA [] 41543119 [] fun w hP hQ=>?_
     unfold fI
     refine N ?_
     refine K (hPp) ?_
     refine K (hPa) ?_
     refine K (hT) ?_
     refine K (hW) ?_
     refine K (hL) ?_
     refine K (hV) ?_
     have hz:=hc
     refine Kz (hN) ?_
     (first|refine cI hP (hC) rfl rfl ?_|refine cH hP (hC) rfl rfl ?_)
     refine N ?_
     all_goals first|exact trivial|rfl|exact ⟨rfl,rfl⟩
    | ok D2=>
     obtain ⟨D1',k,k1,k2,k3,k4,k5,k6,k7,k8,k9⟩:=anb hB hpb hqb hX hb (by rw [e1]; exact hD)
     rw [d1] at k1
     cases k1
     rw [hD] at hN
     simp only [exI,exC,exN,d1] at hN ⊢
     rw [kI]
     have z1:=v6 D1 (aW p)
     have z2:=n8 t (cF D1 (aW p))
     have z3:=ad3 (fZ D1 D2 (aW p)) (aW q) X.ino
     have z4:=(fN q).2
     have z5:=(fN q).1
     have hL1:=v7 t p h' hp (g9 hB) d1
     have hS:=sG (aG t (cF D1 (aW p))) (aJ q).1 (by omega) (by omega)
     rw [k3] at hS
     simp only [exI,exC] at hS
     have hP1:=aay (fZ D1 D2 (aW p)).ents ⟨aW q,X.ino⟩ k6 (by omega)
     have hS2:=bN (aG t (cF D1 (aW p))) (c5 (fZ D1 D2 (aW p)) (aW q) X.ino) (by omega) (by omega) k5 k4
     refine U gA [] 41543119 [] fun w hP hQ=>?_
     unfold fI
     refine N ?_
     refine K (hPp) ?_
     refine K (hPa) ?_
     refine K (hT) ?_
     refine K (hW) ?_
     refine K (hL) ?_
     refine K (hV) ?_
     refine K (hN) ?_
     refine K (hL1) ?_
     refine K (hPa) ?_
     refine K (hS) ?_
     refine K (hP1) ?_
     (first|refine cI hP (hS2) rfl rfl ?_|refine cH hP (hS2) rfl rfl ?_)
     refine N ?_
     all_goals first|exact trivial|rfl|exact ⟨rfl,rfl⟩
 ·have e:n6 t p q=(t,1):=by rw [n6,lJ hc]
  rw [e]
  cases hB:bJ t with
  | false=>
   rw [hB] at hT
   refine U gA [] 41543119 [] fun w hP hQ=>?_
   unfold fI
   refine N ?_
   refine K (hPp) ?_
   refine K (hPa) ?_
   refine K (hT) ?_
   (first|refine cI hP (hC) rfl rfl ?_|refine cH hP (hC) rfl rfl ?_)
   refine N ?_
   all_goals first|exact trivial|rfl|exact ⟨rfl,rfl⟩
  | true=>
   rw [hB] at hT
   cases hpb:jA p with
   | false=>
    rw [hpb] at hPp
    refine U gA [] 41543119 [] fun w hP hQ=>?_
    unfold fI
    refine N ?_
    refine K (hPp) ?_
    refine K (hPa) ?_
    refine K (hT) ?_
    (first|refine cI hP (hC) rfl rfl ?_|refine cH hP (hC) rfl rfl ?_)
    refine N ?_
    all_goals first|exact trivial|rfl|exact ⟨rfl,rfl⟩
   | true=>
    have hqb:jA q=false:=by cases e:jA q <;> simp_all
    rw [hpb] at hPp
    rw [hqb] at hPa
    refine U gA [] 41543119 [] fun w hP hQ=>?_
    unfold fI
    refine N ?_
    refine K (hPp) ?_
    refine K (hPa) ?_
    refine K (hT) ?_
    (first|refine cI hP (hC) rfl rfl ?_|refine cH hP (hC) rfl rfl ?_)
    refine N ?_
    all_goals first|exact trivial|rfl|exact ⟨rfl,rfl⟩
theorem ajl (x a b:Int):bC Tryz.prog 158 [.int .i64 x,.int .i64 a,.int .i64 b] (.bool (inR x a b)) [.undef,.undef,.undef]:=by
 refine U aeN [] 71 [] fun w hP hQ=>?_
 unfold aab
 refine N ?_
 (first | with_reducible refine rO _ ?_ ?_ | refine rP _ ?_ ?_) <;> intro h1
 ·have hz:=h1
  refine Nz ?_
  simp [inR,h1]
 ·have hz:=h1
  refine Nz ?_
  simp [inR,h1]
theorem agO (b:aA) (n:Nat):List.take n (aO b)=aO (b.take n):=by simp [aO,lP4]
theorem acm (b:aA) (i:Nat):aO (b++List.replicate i 0)++[[TV.int .u8 0]]=aO (b++List.replicate (i+1) 0):=by
 rw [List.replicate_succ',← lG2]
 simp [aO]
theorem alG {b:aA} {n i:Nat} (h1:i≤n-b.length) (h2:n≤b.length+i):b++List.replicate i 0=aaE b n:=by
 rw [aaE,show n-b.length=i by omega]
theorem aob {n:Int} {a b:Int} (h:inR n a b=true):a≤n∧n≤b:=by simpa [inR] using h
theorem wC (t:Tab) (s:aA) (n:Int) (h:t.sz<2^30) (hs:s.length<2^40):bC Tryz.prog 174 [t.x,.str s,.int .i64 n] (.tup [(vQ t s n).1.o,.int .i64 (vQ t s n).2]) [.undef,.undef,.undef]:=by
 have h':t.sz<2^40:=by omega
 have hC:=eT t h'
 have hT:=fW t h'
 have hSp:=dG s hs
 have hI:=ajl n 0 100
 rw [show (aB s).2=gT s from rfl] at hSp
 by_cases hc:bJ t=true∧gT s=true∧inR n 0 100=true
 ·obtain ⟨hB,hpb,hi⟩:=hc
  rw [hB] at hT
  rw [hpb] at hSp
  rw [hi] at hI
  obtain ⟨n1,n2⟩:=aob hi
  have hF:=rD t s h' hs
  cases hX:mN t s with
  | error c=>
   have hc:decide (c=0)=false:=lB (tL hX)
   have e:vQ t s n=(t,c):=by rw [vQ,lG ⟨hB,hpb,hi⟩,hX]
   rw [hX] at hF
   rw [e]
   simp only [exI,exC] at hF
   refine U gQ [] 3791 [] fun w hP hQ=>?_
   unfold fK
   refine N ?_
   refine K (hSp) ?_
   refine K (hT) ?_
   refine K (hI) ?_
   have hz:=hc
   refine Kz (hF) ?_
   (first|refine cI hP (hC) rfl rfl ?_|refine cH hP (hC) rfl rfl ?_)
   refine N ?_
   all_goals first|exact trivial|rfl|exact ⟨rfl,rfl⟩
  | ok X=>
   have e:vQ t s n=(aG t (vP X ((aaE X.data n.toNat).take n.toNat)),0):=by rw [vQ,lG ⟨hB,hpb,hi⟩,hX]
   obtain ⟨kX,hkX⟩:=pB (aR (c9 hX).1).2
   have zX:=(cZ h).2 X (aR (c9 hX).1).1
   have zd:X.data.length<2^30:=by rw [Inode.sz] at zX; omega
   have zD:(vP X ((aaE X.data n.toNat).take n.toNat)).sz<2^40:=by
    show ((aaE X.data n.toNat).take n.toNat).length+szM Ent.sz X.ents+szM Attr.sz X.attrs<_
    rw [Inode.sz] at zX
    rw [lR]
    omega
   have hS:=bN t (vP X ((aaE X.data n.toNat).take n.toNat)) h' zD (g9 hB) hkX
   rw [hX] at hF
   rw [e]
   simp only [exI,exC] at hF
   refine U gQ [] 3791 [] fun w hP hQ=>?_
   unfold fK
   refine N ?_
   refine K (hSp) ?_
   refine K (hT) ?_
   refine K (hI) ?_
   refine K (hF) ?_
   refine fH [] ?_
   refine N ?_
   refine aT [] (fun i:Nat=>[(5010,.box [.int .i64 X.ino,.int .i64 X.kind,.int .i64 X.links,.own 1 (aO (X.data++List.replicate i 0)),.own 2 (X.ents.map Ent.row),.own 2 (X.attrs.map Attr.row)])]) (fun i=>i≤n.toNat-X.data.length) (fun i=>n.toNat-X.data.length-i) (0) hP hQ (by simp; rfl) (by simp) ?_
   rintro i hi2 w1 hP1 hQ1
   refine N1 ?_
   have hb:X.data.length+i+1≤140737488355328:=by omega
   (first | with_reducible refine cQ _ ?_ ?_ | refine cR _ ?_ ?_) <;> intro g
   ·rw [lT,lL2] at g
    simp +decide (maxSteps:=9^9) (disch:=omega) only[↓SB0,SX,seval,hQ,hQ1,hb,jY,lT,lL2]
    exact ⟨i+1,by rw [acm],by omega,by omega⟩
   ·rw [lT,lL2] at g
    have hle:n≤((X.data.length+i:Nat):Int):=by omega
    rw [alG (i:=i) hi2 (by omega)]
    have hpl:n≤((aaE X.data n.toNat).length:Nat):=by rw [aaE]; simp; omega
    have hz:=And.intro hpl (And.intro n1 (And.intro jY (And.intro agO Int.sub_zero)))
    refine Nz1 ?_
    (first|refine cI hP (hS) rfl rfl ?_|refine cH hP (hS) rfl rfl ?_)
    refine N ?_
    all_goals first|exact trivial|rfl|exact ⟨rfl,rfl⟩
 ·have e:vQ t s n=(t,1):=by rw [vQ,lJ hc]
  rw [e]
  cases hB:bJ t with
  | false=>
   rw [hB] at hT
   refine U gQ [] 3791 [] fun w hP hQ=>?_
   unfold fK
   refine N ?_
   refine K (hSp) ?_
   refine K (hT) ?_
   (first|refine cI hP (hC) rfl rfl ?_|refine cH hP (hC) rfl rfl ?_)
   refine N ?_
   all_goals first|exact trivial|rfl|exact ⟨rfl,rfl⟩
  | true=>
   rw [hB] at hT
   cases hpb:gT s with
   | false=>
    rw [hpb] at hSp
    refine U gQ [] 3791 [] fun w hP hQ=>?_
    unfold fK
    refine N ?_
    refine K (hSp) ?_
    refine K (hT) ?_
    (first|refine cI hP (hC) rfl rfl ?_|refine cH hP (hC) rfl rfl ?_)
    refine N ?_
    all_goals first|exact trivial|rfl|exact ⟨rfl,rfl⟩
   | true=>
    have hi:inR n 0 100=false:=by cases e:inR n 0 100 <;> simp_all
    rw [hpb] at hSp
    rw [hi] at hI
    refine U gQ [] 3791 [] fun w hP hQ=>?_
    unfold fK
    refine N ?_
    refine K (hSp) ?_
    refine K (hT) ?_
    refine K (hI) ?_
    (first|refine cI hP (hC) rfl rfl ?_|refine cH hP (hC) rfl rfl ?_)
    refine N ?_
    all_goals first|exact trivial|rfl|exact ⟨rfl,rfl⟩
theorem anc (l:List Attr) (e:Attr):l.map Attr.row++[[TV.str e.name,TV.str e.val]]=(l.take l.length++e::l.drop l.length).map Attr.row:=by simp [Attr.row]
theorem ajm (L:List Attr) (k:Nat) (x:Attr):(L.map Attr.row).modify k (fun r=>TV.str x.name::TV.str x.val::r.drop 2)=(L.set k x).map Attr.row:=sH Attr.row L k x _ fun _ _=>rfl
theorem afp {l:List Attr} {k:Nat} {h:Attr} (hk:k<l.length):(((l.take (k+1)++h::l.drop (k+1))).map Attr.row)[k]?=some (Attr.row l[k]):=by rw [lI1,ab2 hk]; rfl
theorem ajn (l:List Attr) (e:Attr) (hu:UpK Attr.name l) (hl:l.length<2^30):bC Tryz.prog 224 [.ext 2 (l.map Attr.row),e.x] (.own 2 ((aeZ l e).map Attr.row)) [.undef,.undef]:=by
 have hb1:l.length*32≤140737488355328:=by omega
 have hb2:(l.length+1)*32≤140737488355328:=by omega
 refine U agm [] 123 [] fun w hP hQ=>?_
 unfold xY
 refine N ?_
 simp +decide (maxSteps:=9^9) (disch:=omega) only[↓SB0,SX,seval,hQ,adW,hb1,hb2,lT,a8]
 rw [anc]
 refine fH [] ?_
 refine N ?_
 refine aT [] (fun s:Nat × Attr=>[(5,.own 2 ((l.take s.1++s.2::l.drop s.1).map Attr.row)),(6,.int .i64 (s.1:Nat))]) (fun s=>s.1≤l.length∧∀ j,s.1≤j→(h:j<l.length)→e.name<l[j].name) (fun s=>s.1) ((l.length,e)) hP hQ (rfl) (by simp; omega) ?_
 rintro ⟨k,x⟩ ⟨hk,hj⟩ w1 hP1 hQ1
 refine N1 ?_
 simp only at hk hj
 have hlen:=ab1 (h:=x) hk
 cases k with
 | zero=>
  have hz:=hlen
  refine Nz1 ?_
  rw [aeZ,q9 hu hk hj (.inl rfl)]
  simp [Attr.row]
 | succ k=>
  have hkl:k<l.length:=by omega
  have w4:decide ((0:Int)<((k+1:Nat):Int))=true:=lE (by omega)
  simp +decide (maxSteps:=9^9) (disch:=omega) only[↓SB0,SX,seval,hQ,hQ1,w4,hlen,a8,afp (h:=x) hkl,Attr.row,ad1,ajh]
  (first | with_reducible refine cQ _ ?_ ?_ | refine cR _ ?_ ?_) <;> intro g
  ·simp +decide (maxSteps:=9^9) (disch:=omega) only[↓SB0,SX,seval,hQ,hQ1,hlen,a8,afp (h:=x) hkl,Attr.row]
   exact ⟨(k,l[k]),by simp only [ajm,rA _ _ hk,yN hkl],⟨by simp only; omega,fun j hj1 hj2=>by
    by_cases e:j=k
    ·subst e; exact g
    ·exact hj j (by simp only at hj1; omega) hj2⟩,by simp only; omega⟩
  ·simp +decide (maxSteps:=9^9) (disch:=omega) only[↓SB0,SX,seval,hQ,hQ1,hlen]
   rw [aeZ,q9 hu hk hj (.inr ⟨by simpa using hkl,by simpa using g⟩),ajm,rA _ _ hk]
theorem ajo {l:List Attr} {i:Nat} (h:i<l.length) (n:aA):q0 (l.take (i+1)) n=q0 (l.take i) n++(if l[i].name=n then [] else [l[i]]):=by
 unfold q0 aiI
 rw [lU h,lH4]
 congr 1
 by_cases e:l[i].name=n <;> simp [e]
theorem ane (X:Inode) (n:aA):(s5 X (q0 X.attrs n)).sz≤X.sz:=by
 show X.data.length+szM Ent.sz X.ents+szM Attr.sz (q0 X.attrs n)≤X.data.length+szM Ent.sz X.ents+szM Attr.sz X.attrs
 have h1:(q0 X.attrs n).length≤X.attrs.length:=lN2 _ _
 have h2:=yG Attr.sz (fun a:Attr=>decide (a.name≠n)) X.attrs
 have h3:((q0 X.attrs n).map Attr.sz).sum≤(X.attrs.map Attr.sz).sum:=h2
 simp only [szM]; omega
theorem anf (l:List Attr) (e:Attr):szM Attr.sz (aeZ l e)≤szM Attr.sz l+(e.name.length+e.val.length)+1:=by
 have h1:(aeZ l e).length=l.length+1:=oT l e
 have h2:((aeZ l e).map Attr.sz).sum=(l.map Attr.sz).sum+(e.name.length+e.val.length):=by
  unfold aeZ
  clear h1
  induction l with
  | nil=>simp [vJ,Attr.sz]
  | cons f l ih=>
   rw [vJ]
   split
   ·simp only [lP,lB2,Attr.sz]; omega
   ·simp only [lP,lB2,ih]; omega
 simp only [szM]; omega
theorem yY (t:Tab) (s n v:aA) (h:t.sz<2^28) (hs:s.length<2^40) (hn:n.length<2^30) (hv:v.length<2^40):bC Tryz.prog 175 [t.x,.str s,.str n,.str v] (.tup [(n7 t s n v).1.o,.int .i64 (n7 t s n v).2]) [.undef,.undef,.undef,.undef]:=by
 have h':t.sz<2^40:=by omega
 have hC:=eT t h'
 have hT:=fW t h'
 have hSp:=dG s hs
 have hI:=dA n (by omega)
 rw [show (aB s).2=gT s from rfl] at hSp
 by_cases hc:bJ t=true∧gT s=true∧aZ n=true∧v.length≤16
 ·obtain ⟨hB,hpb,hi,hv2⟩:=hc
  have hv':decide ((16:Int)<(v.length:Nat))=false:=lB (by omega)
  rw [hB] at hT
  rw [hpb] at hSp
  rw [hi] at hI
  have hF:=sG t s h' hs
  cases hX:cJ t s with
  | error c=>
   have hc:decide (c=0)=false:=lB (mP hX)
   have e:n7 t s n v=(t,c):=by rw [n7,lG ⟨hB,hpb,hi,hv2⟩,hX]
   rw [hX] at hF
   rw [e]
   simp only [exI,exC] at hF
   refine U gD [] 64287 [] fun w hP hQ=>?_
   unfold fC
   refine N ?_
   refine K (hSp) ?_
   refine K (hT) ?_
   have hz:=hv'
   refine Kz (hI) ?_
   have hz:=hc
   refine Kz (hF) ?_
   (first|refine cI hP (hC) rfl rfl ?_|refine cH hP (hC) rfl rfl ?_)
   refine N ?_
   all_goals first|exact trivial|rfl|exact ⟨rfl,rfl⟩
  | ok X=>
   have e0:n7 t s n v=if v=[] then (aG t (s5 X (q0 X.attrs n)),0) else if (q0 X.attrs n).length<4 then (aG t (s5 X (aeZ (q0 X.attrs n) ⟨n,v⟩)),0) else (t,5):=by rw [n7,lG ⟨hB,hpb,hi,hv2⟩,hX]
   have ht:=(aV t).1 hB
   obtain ⟨kX,hkX⟩:=pB (aR hX).2
   have zX:=(cZ h).2 X (aR hX).1
   have za:X.attrs.length<2^28:=by rw [Inode.sz,szM,szM] at zX; omega
   have z1:=ane X n
   have zc:(q0 X.attrs n).length≤X.attrs.length:=lN2 _ _
   have uX:=(ht.tab.ok X (aR hX).1).1.attrs.up
   rw [hX] at hF
   rw [e0]
   simp only [exI,exC] at hF
   have z2:(s5 X (aeZ (q0 X.attrs n) ⟨n,v⟩)).sz<2^40:=by
    have:=anf (q0 X.attrs n) ⟨n,v⟩
    simp only at this
    have e1:(s5 X (q0 X.attrs n)).sz=X.data.length+szM Ent.sz X.ents+szM Attr.sz (q0 X.attrs n):=rfl
    show X.data.length+szM Ent.sz X.ents+szM Attr.sz (aeZ (q0 X.attrs n) ⟨n,v⟩)<_
    omega
   have hS1:=bN t (s5 X (q0 X.attrs n)) h' (by omega) (g9 hB) hkX
   have hS2:=bN t (s5 X (aeZ (q0 X.attrs n) ⟨n,v⟩)) h' z2 (g9 hB) hkX
   have hA:=ajn (q0 X.attrs n) ⟨n,v⟩ (rX uX n) (by omega)
   refine U gD [] 64287 [] fun w hP hQ=>?_
   unfold fC
   refine N ?_
   refine K (hSp) ?_
   refine K (hT) ?_
   have hz:=hv'
   refine Kz (hI) ?_
   refine K (hF) ?_
   refine fH [] ?_
   refine N ?_
   refine aT [] (fun i:Nat=>[(14,.own 2 ((q0 (X.attrs.take i) n).map Attr.row)),(15,.int .i64 i)]) (fun i=>i≤X.attrs.length) (fun i=>X.attrs.length-i) (0) hP hQ (rfl) (by simp) ?_
   rintro i hi2 w1 hP1 hQ1
   refine N1 ?_
   have hc:(q0 (X.attrs.take i) n).length≤X.attrs.length:=lA4 (lN2 _ _) (by simp; omega)
   (first | with_reducible refine cQ _ ?_ ?_ | refine cR _ ?_ ?_) <;> intro g
   ·have ht:=ajo (l:=X.attrs) (i:=i) (by omega) n
    have hz:=(bG g)
    refine Nz1 ?_
    (first | with_reducible refine cQ _ ?_ ?_ | refine cR _ ?_ ?_) <;> intro e
    ·rw [lG e,lP2] at ht
     refine N1 ?_
     exact ⟨i+1,by rw [ht]; rfl,by omega,by omega⟩
    ·rw [lJ e] at ht
     have hb:((q0 (X.attrs.take i) n).length+1)*32≤140737488355328:=by omega
     have hz:=And.intro (bG g) hb
     refine Nz1 ?_
     exact ⟨i+1,by rw [ht,lM2]; rfl,by omega,by omega⟩
   ·obtain rfl:i=X.attrs.length:=by omega
    rw [lZ1]
    by_cases g1:v=[]
    ·rw [lG g1] at hQ
     subst g1
     refine N1 ?_
     (first|refine cI hP (hS1) rfl rfl ?_|refine cH hP (hS1) rfl rfl ?_)
     refine N ?_
     all_goals first|exact trivial|rfl|exact ⟨rfl,rfl⟩
    ·have g1':decide (v=[])=false:=lB g1
     rw [lJ g1] at hQ
     by_cases g2:(q0 X.attrs n).length<4
     ·have g2':decide ((4:Int)≤((q0 X.attrs n).length:Nat))=false:=lB (by omega)
      rw [lG g2] at hQ
      have hz:=And.intro g1' g2'
      refine Nz1 ?_
      refine K (hA) ?_
      (first|refine cI hP (hS2) rfl rfl ?_|refine cH hP (hS2) rfl rfl ?_)
      refine N ?_
      all_goals first|exact trivial|rfl|exact ⟨rfl,rfl⟩
     ·have g2':decide ((4:Int)≤((q0 X.attrs n).length:Nat))=true:=lE (by omega)
      rw [lJ g2] at hQ
      have hz:=And.intro g1' g2'
      refine Nz1 ?_
      (first|refine cI hP (hC) rfl rfl ?_|refine cH hP (hC) rfl rfl ?_)
      refine N ?_
      all_goals first|exact trivial|rfl|exact ⟨rfl,rfl⟩
 ·have e:n7 t s n v=(t,1):=by rw [n7,lJ hc]
  rw [e]
  cases hB:bJ t with
  | false=>
   rw [hB] at hT
   refine U gD [] 64287 [] fun w hP hQ=>?_
   unfold fC
   refine N ?_
   refine K (hSp) ?_
   refine K (hT) ?_
   (first|refine cI hP (hC) rfl rfl ?_|refine cH hP (hC) rfl rfl ?_)
   refine N ?_
   all_goals first|exact trivial|rfl|exact ⟨rfl,rfl⟩
  | true=>
   rw [hB] at hT
   cases hpb:gT s with
   | false=>
    rw [hpb] at hSp
    refine U gD [] 64287 [] fun w hP hQ=>?_
    unfold fC
    refine N ?_
    refine K (hSp) ?_
    refine K (hT) ?_
    (first|refine cI hP (hC) rfl rfl ?_|refine cH hP (hC) rfl rfl ?_)
    refine N ?_
    all_goals first|exact trivial|rfl|exact ⟨rfl,rfl⟩
   | true=>
    rw [hpb] at hSp
    cases hi:aZ n with
    | false=>
     rw [hi] at hI
     refine U gD [] 64287 [] fun w hP hQ=>?_
     unfold fC
     refine N ?_
     refine K (hSp) ?_
     refine K (hT) ?_
     refine K (hI) ?_
     (first|refine cI hP (hC) rfl rfl ?_|refine cH hP (hC) rfl rfl ?_)
     refine N ?_
     all_goals first|exact trivial|rfl|exact ⟨rfl,rfl⟩
    | true=>
     have hv':decide ((16:Int)<(v.length:Nat))=true:=lE (by
      by_cases e:v.length≤16
      ·exact absurd ⟨hB,hpb,hi,e⟩ hc
      ·omega)
     rw [hi] at hI
     refine U gD [] 64287 [] fun w hP hQ=>?_
     unfold fC
     refine N ?_
     refine K (hSp) ?_
     refine K (hT) ?_
     have hz:=hv'
     refine Kz (hI) ?_
     (first|refine cI hP (hC) rfl rfl ?_|refine cH hP (hC) rfl rfl ?_)
     refine N ?_
     all_goals first|exact trivial|rfl|exact ⟨rfl,rfl⟩
theorem ajp (P:aA) (y:UInt8) (k:Nat):((aO P).modify k fun x=>TV.int .u8 ((y.toNat:Nat):Int)::List.drop 1 x)=aO (P.set k y):=by
 simp only [aO]
 rw [sH (fun b:UInt8=>[TV.int .u8 (b.toNat:Nat)]) P k y _ fun _ _=>rfl]
def wr (b:aA) (o:Nat) (d:aA) (i:Nat):aA:=b.take o++d.take i++b.drop (o+i)
theorem alH {b d:aA} {o i:Nat} (h:o+d.length≤b.length) (hi:i≤d.length):(wr b o d i).length=b.length:=by
 unfold wr; simp; omega
theorem ang (b d:aA) (o:Nat):wr b o d 0=b:=by unfold wr; simp
theorem anh {b d:aA} {o i:Nat} (h:o+d.length≤b.length) (hi:i<d.length):(wr b o d i).set (o+i) d[i]=wr b o d (i+1):=by
 have hA:(b.take o++d.take i).length=o+i:=by simp; omega
 unfold wr
 rw [lF2 (show o+i<b.length by omega),List.set_append_right _ _ (by omega),hA,Nat.sub_self,List.set_cons_zero,lU hi]
 simp only [lG2,lS1,lF1,Nat.add_assoc]
theorem alI (b d:aA) (o:Nat):wr (aaE b (o+d.length)) o d d.length=ajx b o d:=by
 unfold wr ajx
 rw [lZ1]
 congr 1
 unfold aaE
 by_cases h:o+d.length≤b.length
 ·rw [show o+d.length-b.length=0 by omega]; simp
 ·rw [lG4 (by simp; omega),lG4 (by omega)]
theorem ad4 (b:aA) (n:Nat):(aaE b n).length=b.length+(n-b.length):=by rw [aaE]; simp
theorem ale (b d:aA) (o:Nat):(ajx b o d).length≤b.length+o+d.length:=by
 rw [← alI,alH (by rw [ad4]; omega) (lR1 _),ad4]; omega
theorem iN (t:Tab) (s:aA) (n:Int) (d:aA) (h:t.sz<2^30) (hs:s.length<2^40) (hd:d.length<2^40):bC Tryz.prog 172 [t.x,.str s,.int .i64 n,.ext 1 (aO d)] (.tup [(gJ t s n d).1.o,.int .i64 (gJ t s n d).2]) [.undef,.undef,.undef,.undef]:=by
 have h':t.sz<2^40:=by omega
 have hC:=eT t h'
 have hT:=fW t h'
 have hSp:=dG s hs
 have hI:=ajl n 0 100
 rw [show (aB s).2=gT s from rfl] at hSp
 by_cases hc:bJ t=true∧gT s=true∧inR n 0 100=true
 ·obtain ⟨hB,hpb,hi⟩:=hc
  rw [hB] at hT
  rw [hpb] at hSp
  rw [hi] at hI
  obtain ⟨n1,n2⟩:=aob hi
  obtain ⟨k,rfl⟩:=Int.eq_ofNat_of_zero_le n1
  have hF:=rD t s h' hs
  cases hX:mN t s with
  | error c=>
   have hc:decide (c=0)=false:=lB (tL hX)
   have e:gJ t s (k:Nat) d=(t,c):=by rw [gJ,lG ⟨hB,hpb,hi⟩,hX]
   rw [hX] at hF
   rw [e]
   simp only [exI,exC] at hF
   refine U gC [] 31519 [] fun w hP hQ=>?_
   unfold fB
   refine N ?_
   refine K (hSp) ?_
   refine K (hT) ?_
   refine K (hI) ?_
   have hz:=hc
   refine Kz (hF) ?_
   (first|refine cI hP (hC) rfl rfl ?_|refine cH hP (hC) rfl rfl ?_)
   refine N ?_
   all_goals first|exact trivial|rfl|exact ⟨rfl,rfl⟩
  | ok X=>
   have e0:gJ t s (k:Nat) d=if ((k:Nat):Int)+(d.length:Nat)≤100 then (aG t (vP X (ajx X.data k d)),0) else (t,5):=by rw [gJ,lG ⟨hB,hpb,hi⟩,hX]; rfl
   rw [hX] at hF
   rw [e0]
   simp only [exI,exC] at hF
   by_cases g0:((k:Nat):Int)+(d.length:Nat)≤100
   ·have g0':decide ((100:Int)-(k:Nat)<(d.length:Nat))=false:=lB (by omega)
    rw [lG g0]
    obtain ⟨kX,hkX⟩:=pB (aR (c9 hX).1).2
    have zX:=(cZ h).2 X (aR (c9 hX).1).1
    have zd:X.data.length<2^30:=by rw [Inode.sz] at zX; omega
    have zp:=ale X.data d k
    have zD:(vP X (ajx X.data k d)).sz<2^40:=by
     show (ajx X.data k d).length+szM Ent.sz X.ents+szM Attr.sz X.attrs<_
     rw [Inode.sz] at zX
     omega
    have hS:=bN t (vP X (ajx X.data k d)) h' zD (g9 hB) hkX
    refine U gC [] 31519 [] fun w hP hQ=>?_
    unfold fB
    refine N ?_
    refine K (hSp) ?_
    refine K (hT) ?_
    refine K (hI) ?_
    have hz:=g0'
    refine Kz (hF) ?_
    refine fH [] ?_
    refine N ?_
    refine aT [] (fun i:Nat=>[(5012,.box [.int .i64 X.ino,.int .i64 X.kind,.int .i64 X.links,.own 1 (aO (X.data++List.replicate i 0)),.own 2 (X.ents.map Ent.row),.own 2 (X.attrs.map Attr.row)])]) (fun i=>i≤k+d.length-X.data.length) (fun i=>k+d.length-X.data.length-i) (0) hP hQ (by simp; rfl) (by simp) ?_
    rintro i hi2 w1 hP1 hQ1
    refine N1 ?_
    have hb:X.data.length+i+1≤140737488355328:=by omega
    (first | with_reducible refine cQ _ ?_ ?_ | refine cR _ ?_ ?_) <;> intro g
    ·rw [lT,lL2] at g
     simp +decide (maxSteps:=9^9) (disch:=omega) only[↓SB0,SX,seval,hQ,hQ1,hb,jY,lT,lL2]
     exact ⟨i+1,by rw [acm],by omega,by omega⟩
    ·rw [lT,lL2] at g
     rw [alG (n:=k+d.length) (i:=i) hi2 (by omega)]
     have hpl:=ad4 X.data (k+d.length)
     have hpk:k+d.length≤(aaE X.data (k+d.length)).length:=by omega
     refine N1 ?_
     refine fH [] ?_
     refine N ?_
     refine aT [] (fun i:Nat=>[(5012,.box [.int .i64 X.ino,.int .i64 X.kind,.int .i64 X.links,.own 1 (aO (wr (aaE X.data (k+d.length)) k d i)),.own 2 (X.ents.map Ent.row),.own 2 (X.attrs.map Attr.row)]),(14,.int .i64 i)]) (fun i=>i≤d.length) (fun i=>d.length-i) (0) hP hQ (by rw [ang]; rfl) (by simp) ?_
     rintro i hi3 w1 hP1 hQ1
     refine N1 ?_
     have hwl:=alH hpk hi3
     (first | with_reducible refine cQ _ ?_ ?_ | refine cR _ ?_ ?_) <;> intro g
     ·have hlt:i<d.length:=by omega
      have hz:((k:Nat)+(i:Nat):Int).toNat=k+i:=by omega
      have hz:=And.intro (bG g) (And.intro jY (And.intro hwl (And.intro uJ (And.intro ajp (And.intro hz (anh hpk hlt))))))
      refine Nz1 ?_
      exact ⟨i+1,rfl,by omega,by omega⟩
     ·obtain rfl:i=d.length:=by omega
      rw [alI]
      refine N1 ?_
      (first|refine cI hP (hS) rfl rfl ?_|refine cH hP (hS) rfl rfl ?_)
      refine N ?_
      all_goals first|exact trivial|rfl|exact ⟨rfl,rfl⟩
   ·have g0':decide ((100:Int)-(k:Nat)<(d.length:Nat))=true:=lE (by omega)
    rw [lJ g0]
    refine U gC [] 31519 [] fun w hP hQ=>?_
    unfold fB
    refine N ?_
    refine K (hSp) ?_
    refine K (hT) ?_
    refine K (hI) ?_
    have hz:=g0'
    refine Kz (hF) ?_
    (first|refine cI hP (hC) rfl rfl ?_|refine cH hP (hC) rfl rfl ?_)
    refine N ?_
    all_goals first|exact trivial|rfl|exact ⟨rfl,rfl⟩
 ·have e:gJ t s n d=(t,1):=by rw [gJ,lJ hc]
  rw [e]
  cases hB:bJ t with
  | false=>
   rw [hB] at hT
   refine U gC [] 31519 [] fun w hP hQ=>?_
   unfold fB
   refine N ?_
   refine K (hSp) ?_
   refine K (hT) ?_
   (first|refine cI hP (hC) rfl rfl ?_|refine cH hP (hC) rfl rfl ?_)
   refine N ?_
   all_goals first|exact trivial|rfl|exact ⟨rfl,rfl⟩
  | true=>
   rw [hB] at hT
   cases hpb:gT s with
   | false=>
    rw [hpb] at hSp
    refine U gC [] 31519 [] fun w hP hQ=>?_
    unfold fB
    refine N ?_
    refine K (hSp) ?_
    refine K (hT) ?_
    (first|refine cI hP (hC) rfl rfl ?_|refine cH hP (hC) rfl rfl ?_)
    refine N ?_
    all_goals first|exact trivial|rfl|exact ⟨rfl,rfl⟩
   | true=>
    have hi:inR n 0 100=false:=by cases e:inR n 0 100 <;> simp_all
    rw [hpb] at hSp
    rw [hi] at hI
    refine U gC [] 31519 [] fun w hP hQ=>?_
    unfold fB
    refine N ?_
    refine K (hSp) ?_
    refine K (hT) ?_
    refine K (hI) ?_
    (first|refine cI hP (hC) rfl rfl ?_|refine cH hP (hC) rfl rfl ?_)
    refine N ?_
    all_goals first|exact trivial|rfl|exact ⟨rfl,rfl⟩
theorem alJ {α:Type} [DecidableEq α]:∀ (l m:List α),l.Nodup→(∀ x ∈ l,x ∈ m)→l.length≤m.length
 | [],m,_,_=>lD3 _
 | a::l,m,hn,hs=>by
  obtain ⟨h1,h2⟩:=lU4.1 hn
  have ha:=hs a List.mem_cons_self
  have:=alJ l (m.erase a) h2 fun x hx=>(List.mem_erase_of_ne (fun e:x=a=>h1 (by rw [← e]; exact hx))).2 (hs x (List.mem_cons_of_mem _ hx))
  rw [List.length_erase_of_mem ha] at this
  have:=List.length_pos_of_mem ha
  simp only [lV]
  omega
theorem acn {α β:Type} (f:α→List β) (l:List α) (c:Nat) (h:∀ x ∈ l,(f x).length≤c):(l.flatMap f).length≤l.length*c:=by
 induction l with
 | nil=>simp
 | cons a l ih=>
  rw [List.flatMap_cons,lT,lV,lL3]
  have:=h a List.mem_cons_self
  have:=ih fun x hx=>h x (List.mem_cons_of_mem _ hx)
  omega
def ajq (t:Tab):List (Int × aA):=t.inodes.flatMap fun D=>D.ents.map fun e=>(D.ino,e.name)
theorem agP {t:Tab} (h:TreeOk t):(ajq t).length≤300:=by
 have:=acn (fun D:Inode=>D.ents.map fun e=>(D.ino,e.name)) t.inodes 10 fun D hD=>by
  rw [lJ1]; exact (bQ h hD).len
 have:=h.tab.len
 unfold ajq
 omega
theorem aco {t:Tab} (h:TreeOk t) {x:Inode} (hx:x ∈ t.inodes) (k:Nat):(iV t k x).length≤300:=by
 let f:List aA→Int × aA:=fun l=>((aQ (aC t) l.dropLast x.ino).getD 0,l.getLast?.getD [])
 obtain ⟨p,hp⟩:=gG h hx
 have key:∀ l ∈ iV t k x,∃ d n y e,l=d++[n]∧aQ (aC t) (p++d) 1=some y.ino∧y ∈ t.inodes∧y.kind=2∧e ∈ y.ents∧e.name=n∧f l=(y.ino,n):=by
  intro l hl
  obtain ⟨h1,_,h3⟩:=(oU h k x hx l).1 hl
  obtain ⟨j,hj⟩:=lB1.1 h3
  rcases lX2 l with rfl | ⟨d,n,rfl⟩
  ·exact absurd rfl h1
  rw [lY2] at *
  obtain ⟨q,y,e,w1,w2,w3,w4,w5,w6,w7,w8⟩:=j8 h hj
  refine ⟨d,n,y,e,rfl,?_,w3,w5,w6,w7,?_⟩
  ·rw [cG,hp,w4]; exact w1
  ·show ((aQ (aC t) (d++[n]).dropLast x.ino).getD 0,(d++[n]).getLast?.getD [])=_
   rw [List.dropLast_concat,w1,List.getLast?_concat,w4]; rfl
 have hn:((iV t k x).map f).Nodup:=by
  rw [List.Nodup,List.pairwise_map]
  refine List.Pairwise.imp_of_mem ?_ (abO h k x hx)
  intro a b ha hb hne he
  obtain ⟨d,n,y,e,rfl,a2,a3,a4,_,_,a7⟩:=key a ha
  obtain ⟨d',n',y',e',rfl,b2,b3,b4,_,_,b7⟩:=key b hb
  rw [a7,b7] at he
  injection he with e1 e2
  rw [← e1] at b2
  have:=pT h _ _ _ y (f0 h a3) (nW h a3 a4) a2 b2
  exact hne (by rw [List.append_cancel_left this,e2])
 have hs:∀ z ∈ (iV t k x).map f,z ∈ ajq t:=by
  intro z hz
  obtain ⟨l,hl,rfl⟩:=lV1.1 hz
  obtain ⟨d,n,y,e,rfl,_,a3,_,a5,a6,a7⟩:=key l hl
  rw [a7]
  exact lC3.2 ⟨y,a3,lV1.2 ⟨e,a5,by rw [a6]⟩⟩
 have:=alJ _ _ hn hs
 rw [lJ1] at this
 exact lA4 this (agP h)
theorem ad5 {α β:Type} {f g:α→List β} {l:List α} (h:∀ x ∈ l,f x=g x):l.flatMap f=l.flatMap g:=by
 rw [List.flatMap_def,List.flatMap_def,List.map_congr_left h]
def oF (t:Tab):Nat→Inode→aA→List aA
 | 0,_,_=>[]
 | k+1,x,s=>x.ents.flatMap fun e=>(s++[47]++e.name)::oF t k ((aC t e.ino).getD zN) (s++[47]++e.name)
theorem wD {t:Tab} (h:TreeOk t) (k:Nat):∀ (x:Inode),x ∈ t.inodes→∀ s,oF t k x s=(iV t k x).map fun l=>s++dS l:=by
 induction k with
 | zero=>intro x _ s; rfl
 | succ k ih=>
  intro x hx s
  rw [oF,iV,List.map_flatMap]
  refine ad5 fun e he=>?_
  obtain ⟨y,hy⟩:=lB1.1 (h.there x hx e he)
  obtain ⟨y1,y2⟩:=aM hy
  rw [hy]
  simp only [lY,lC,lP,lR4]
  rw [ih y y1]
  congr 1
  ·simp [dS]
  ·refine List.map_congr_left fun l _=>?_
   simp [dS]
theorem afq {t:Tab} (h:TreeOk t) {r:Inode} (hr:aC t 1=some r):oF t 30 r []=yB t:=by
 rw [wD h 30 r (aM hr).1,yB,hr]
 simp
theorem rE {α β:Type} (f:α→List β) (l:List α) (i:Nat):((l.take i).flatMap f).length≤(l.flatMap f).length:=by
 conv=>rhs; rw [← lH i l,List.flatMap_append,lT]
 omega
theorem acp {α β:Type} (f:α→List β) {l:List α} {i:Nat} (h:i<l.length):(l.take (i+1)).flatMap f=(l.take i).flatMap f++f l[i]:=by
 rw [lU h,List.flatMap_append]; simp
def cur (v:Value) (b:aA) (i:Nat) (h:Int):AV:=.box [.extv v 1 (aO b),.int .i64 i,.int .i64 h]
theorem afr (a:Int):∃ m:Nat,m<256∧IntKind.i64.wrap ((BitVec.ofInt IntKind.i64.bits a &&& BitVec.ofInt IntKind.i64.bits 255).toNat:Int)=(m:Int):=by
 refine ⟨(BitVec.ofInt IntKind.i64.bits a &&& BitVec.ofInt IntKind.i64.bits 255).toNat,?_,?_⟩
 ·rw [BitVec.toNat_and]
  have:(BitVec.ofInt IntKind.i64.bits 255).toNat=255:=by decide
  rw [this]
  exact lI4 Nat.and_le_right (by decide)
 ·rw [yK]
  rw [BitVec.toNat_and]
  have:(BitVec.ofInt IntKind.i64.bits 255).toNat=255:=by decide
  rw [this]
  exact lI4 Nat.and_le_right (by decide)
theorem aox (v:Value) (b:aA) (hl:b.length<2^48):∃ h,bC Tryz.prog 56 [.extv v 1 (aO b)] (cur v b 0 h) [.undef]:=by
 have key:∃ ret outs,(∃ h,ret=cur v b 0 h∧outs=[.undef])∧bC Tryz.prog 56 [.extv v 1 (aO b)] ret outs:=by
  refine mD hmx ain [] 29 rfl [] ⟨lO1 rfl,lO1 rfl⟩ rfl ?_
  intro w hP hQ
  unfold abi
  refine N ?_
  refine fH [] ?_
  refine N ?_
  refine aT [] (fun s:Nat × Int=>[(4,.int .i64 (s.1:Nat)),(3,.int .i64 s.2)]) (fun s=>s.1≤b.length) (fun s=>b.length-s.1) ((0,351351+b.length)) hP hQ (rfl) (by simp) ?_
  rintro ⟨i,h⟩ hi w1 hP1 hQ1
  refine N1 ?_
  simp only at hi
  (first | with_reducible refine rO _ ?_ ?_ | refine rP _ ?_ ?_) <;> intro h1
  ·have hz:=h1
   refine Nz1 ?_
   (first | with_reducible refine cQ _ ?_ ?_ | refine cR _ ?_ ?_) <;> intro h2
   ·have hz:=(bG h1)
    refine Nz1 ?_
    exact ⟨(i+1,_),rfl,by simp only; omega,by simp only; omega⟩
   ·refine N1 ?_
    exact ⟨_,rfl⟩
  ·have hz:=h1
   refine Nz1 ?_
   exact ⟨_,rfl⟩
 obtain ⟨_,_,⟨h,rfl,rfl⟩,hS⟩:=key
 exact ⟨h,hS⟩
theorem tO (v:Value) (b:aA) (i:Nat) (h:Int) (hl:b.length<2^48) (hi:i≤b.length):∃ (x i':Nat) (h':Int),x<256∧i'≤b.length∧bC Tryz.prog 155 [cur v b i h] (.int .i64 x) [cur v b i' h']:=by
 have key:∃ ret outs,(∃ (x i':Nat) (h':Int),x<256∧i'≤b.length∧ret=.int .i64 x∧outs=[cur v b i' h'])∧bC Tryz.prog 155 [cur v b i h] ret outs:=by
  by_cases h1:(i:Int)<(b.length:Nat)
  ·have d1:decide ((i:Int)<(b.length:Nat))=true:=lE h1
   unfold cur
   refine mD hmx xZ [] 13 rfl [true] ⟨lO1 rfl,lO1 rfl⟩ rfl ?_
   intro w hP hQ
   unfold rQ
   refine N ?_
   have hz:=And.intro d1 (bG h1)
   refine Nz ?_
   exact ⟨_,i+1,_,(afr _).choose_spec.1,by omega,congrArg (AV.int .i64) (afr _).choose_spec.2,rfl⟩
  ·have d1:decide ((i:Int)<(b.length:Nat))=false:=lB h1
   unfold cur
   refine mD hmx xZ [] 13 rfl [true] ⟨lO1 rfl,lO1 rfl⟩ rfl ?_
   intro w hP hQ
   unfold rQ
   refine N ?_
   have hz:=d1
   refine Nz ?_
   exact ⟨_,i,_,(afr _).choose_spec.1,hi,congrArg (AV.int .i64) (afr _).choose_spec.2,rfl⟩
 obtain ⟨_,_,⟨x,i',h',hx,hi',rfl,rfl⟩,hS⟩:=key
 exact ⟨x,i',h',hx,hi',hS⟩
theorem alK (a b:Nat):((a:Int)).tmod (b:Int)=((a%b:Nat):Int):=rfl
def wS (x:Nat) (n:Int):Prop:=if 0<n then (x:Int)<n else x=0
theorem i9 (v:Value) (b:aA) (i:Nat) (h:Int) (n:Int) (hl:b.length<2^48) (hi:i≤b.length) (hn:n<2^62):∃ (x i':Nat) (h':Int),wS x n∧i'≤b.length ∧
  bC Tryz.prog 101 [cur v b i h,.int .i64 n] (.int .i64 x) [cur v b i' h',.undef]:=by
 by_cases h0:n≤0
 ·have d0:decide (n≤0)=true:=lE h0
  refine ⟨0,i,h,by rw [wS,lJ (by omega)],hi,?_⟩
  unfold cur
  refine U pQ [(155,[.l],[])] 243 [true,false] fun w hP hQ=>?_
  unfold mF
  refine N ?_
  have hz:=d0
  exact Nz trivial
 ·have d0:decide (n≤0)=false:=lB h0
  obtain ⟨m,rfl⟩:∃ m:Nat,n=m:=⟨n.toNat,by omega⟩
  have hm:((m:Nat):Int)≠0:=by omega
  obtain ⟨x,i1,h1,hx,hi1,k1⟩:=tO v b i h hl hi
  by_cases h2:(m:Int)≤256
  ·have d2:decide ((m:Int)≤256)=true:=lE h2
   refine ⟨x%m,i1,h1,?_,hi1,?_⟩
   ·rw [wS,lG (by omega)]
    have:=Nat.mod_lt x (show m>0 by omega)
    omega
   unfold cur at *
   refine U pQ [(155,[.l],[])] 243 [true,false] fun w hP hQ=>?_
   unfold mF
   refine N ?_
   have hz:=And.intro d0 d2
   refine Nz ?_
   (first | refine aI hP (k1) (.inl ⟨rfl,fun _ hx=>hx⟩) ?_ | refine aF hP (k1) (.inl ⟨rfl,fun _ hx=>hx⟩) ?_)
   have hz:=And.intro hm alK
   exact Nz trivial
  ·have d2:decide ((m:Int)≤256)=false:=lB h2
   obtain ⟨y,i2,h2,hy,hi2,k2⟩:=tO v b i1 h1 hl hi1
   obtain ⟨z,i3,h3,hz,hi3,k3⟩:=tO v b i2 h2 hl hi2
   refine ⟨(x*65536+y*256+z)%m,i3,h3,?_,hi3,?_⟩
   ·rw [wS,lG (by omega)]
    have:=Nat.mod_lt (x*65536+y*256+z) (show m>0 by omega)
    omega
   have e:((x:Int)*65536+(y:Int)*256+(z:Int))=((x*65536+y*256+z:Nat):Int):=by omega
   have w1:IntKind.i64.wrap ((x:Int)*65536)=(x:Int)*65536:=by have:=yK (n:=x*65536) (by omega); simpa using this
   have w2:IntKind.i64.wrap ((y:Int)*256)=(y:Int)*256:=by have:=yK (n:=y*256) (by omega); simpa using this
   unfold cur at *
   refine U pQ [(155,[.l],[])] 243 [true,false] fun w hP hQ=>?_
   unfold mF
   refine N ?_
   have hz:=And.intro d0 d2
   refine Nz ?_
   (first | refine aI hP (k1) (.inl ⟨rfl,fun _ hx=>hx⟩) ?_ | refine aF hP (k1) (.inl ⟨rfl,fun _ hx=>hx⟩) ?_)
   refine N ?_
   (first | refine aI hP (k2) (.inl ⟨rfl,fun _ hx=>hx⟩) ?_ | refine aF hP (k2) (.inl ⟨rfl,fun _ hx=>hx⟩) ?_)
   refine N ?_
   (first | refine aI hP (k3) (.inl ⟨rfl,fun _ hx=>hx⟩) ?_ | refine aF hP (k3) (.inl ⟨rfl,fun _ hx=>hx⟩) ?_)
   have hz:=And.intro hm (And.intro e (And.intro alK (And.intro w1 w2)))
   exact Nz trivial
theorem aaz (v:Value) (b:aA) (i:Nat) (h:Int) (n:Int) (hl:b.length<2^48) (hi:i≤b.length) (hn:n<2^62):∃ (t:Bool) (i':Nat) (h':Int),i'≤b.length ∧
  bC Tryz.prog 96 [cur v b i h,.int .i64 n] (.bool t) [cur v b i' h',.undef]:=by
 obtain ⟨x,i1,h1,hx,hi1,k1⟩:=i9 v b i h n hl hi hn
 refine ⟨decide ((x:Int)=0),i1,h1,hi1,?_⟩
 unfold cur at *
 refine U af9 [(101,[.l,.b],[])] 19 [true,false] fun w hP hQ=>?_
 unfold xN
 refine N ?_
 (first | refine aI hP (k1) (.inl ⟨rfl,fun _ hx=>hx⟩) ?_ | refine aF hP (k1) (.inl ⟨rfl,fun _ hx=>hx⟩) ?_)
 exact N trivial
theorem alf (l:List Int):(l.map eO).length=l.length:=lJ1 _
theorem alg (l:List Int) (k:Nat):(l.map eO)[k]?=(l[k]?).map fun v=>[TV.int .i64 v]:=by rw [lI1]; rfl
theorem wE (v:Value) (b:aA) (i:Nat) (h:Int) (l:List Int) (hl:b.length<2^48) (hi:i≤b.length) (h0:l≠[]) (hn:l.length<2^40):∃ (r:Int) (i':Nat) (h':Int),r ∈ l∧i'≤b.length ∧
  bC Tryz.prog 153 [cur v b i h,.ext 1 (l.map eO)] (.int .i64 r) [cur v b i' h',.undef]:=by
 obtain ⟨x,i1,h1,hx,hi1,k1⟩:=i9 v b i h l.length hl hi (by omega)
 have hp:0<l.length:=lE3.2 h0
 have hx':(x:Int)<(l.length:Nat):=by rw [wS,lG (by omega)] at hx; exact hx
 refine ⟨l[x]'(by omega),i1,h1,lO _,hi1,?_⟩
 unfold cur at *
 refine U aix [(101,[.l,.b],[])] 19 [true,false] fun w hP hQ=>?_
 unfold abs
 refine N ?_
 (first | refine aI hP (k1) (.inl ⟨rfl,fun _ hx=>hx⟩) ?_ | refine aF hP (k1) (.inl ⟨rfl,fun _ hx=>hx⟩) ?_)
 simp +decide (maxSteps:=9^9) (disch:=omega) only[↓SB0,SX,seval,hQ,alf,alg,bG hx',eO]
theorem ad6 (x:aA) (k:Int) (h:0≤k∧k<256):aO x++[[TV.int .u8 k]]=aO (x++[UInt8.ofNat k.toNat]):=by
 have:(UInt8.ofNat k.toNat).toNat=k.toNat:=by simp; omega
 simp [aO,this]
 omega
theorem ajr (v:Value) (b:aA) (i:Nat) (h:Int) (n:Int) (hl:b.length<2^48) (hi:i≤b.length) (hn:n<2^40):∃ (x:aA) (i':Nat) (h':Int),x.length=n.toNat∧i'≤b.length ∧
  bC Tryz.prog 223 [cur v b i h,.int .i64 n] (.own 1 (aO x)) [cur v b i' h',.undef]:=by
 have key:∃ ret outs,(∃ (x:aA) (i':Nat) (h':Int),x.length=n.toNat∧i'≤b.length∧ret=.own 1 (aO x)∧outs=[cur v b i' h',.undef])∧bC Tryz.prog 223 [cur v b i h,.int .i64 n] ret outs:=by
  unfold cur
  refine mD hmx adv [(155,[.l],[])] 115 rfl [true,false] ⟨lO1 rfl,lO1 rfl⟩ rfl ?_
  intro w hP hQ
  unfold u9
  refine N ?_
  refine fH [] ?_
  refine N ?_
  refine aT [] (fun s:aA × Nat × Int=>[(1000,.box [.extv v 1 (aO b),.int .i64 (s.2.1:Nat),.int .i64 s.2.2]),(5,.own 1 (aO s.1)),(6,.int .i64 (s.1.length:Nat))]) (fun s=>s.1.length≤n.toNat∧s.2.1≤b.length) (fun s=>n.toNat-s.1.length) (([],i,h)) hP hQ (by simp +decide (maxSteps:=9^9) (disch:=omega) only[↓SB0,SX,seval,hQ]; rfl) (⟨by simp,hi⟩) ?_
  rintro ⟨x,j,g⟩ ⟨hx,hj⟩ w1 hP1 hQ1
  refine N1 ?_
  simp only at hx hj
  (first | with_reducible refine cQ _ ?_ ?_ | refine cR _ ?_ ?_) <;> intro h1
  ·obtain ⟨y,j1,g1,hy,hj1,k1⟩:=tO v b j g hl hj
   unfold cur at k1
   refine N1 ?_
   (first | refine aI hP1 (k1) (.inl ⟨rfl,fun _ hx=>hx⟩) ?_ | refine aF hP1 (k1) (.inl ⟨rfl,fun _ hx=>hx⟩) ?_)
   refine N1 ?_
   rw [ad6 _ _ (by omega)]
   exact ⟨(x++[UInt8.ofNat (y:Int).toNat],j1,g1),by simp,⟨by simp; omega,hj1⟩,by simp; omega⟩
  ·refine N1 ?_
   exact ⟨x,j,g,by omega,hj,rfl,rfl⟩
 obtain ⟨_,_,⟨x,i',h',hx,hi',rfl,rfl⟩,hS⟩:=key
 exact ⟨x,i',h',hx,hi',hS⟩
theorem aaA (v:Value) (b:aA) (i:Nat) (h:Int) (hl:b.length<2^48) (hi:i≤b.length):∃ (x:aA) (i':Nat) (h':Int),x.length≤9∧i'≤b.length ∧
  bC Tryz.prog 173 [cur v b i h] (.own 1 (aO x)) [cur v b i' h']:=by
 obtain ⟨r,i1,h1,hv,hi1,k1⟩:=wE v b i h [0,1,2,5,9] hl hi (by simp) (by simp)
 have hv':0≤r∧r≤9:=by simp at hv; omega
 obtain ⟨x,i2,h2,hx,hi2,k2⟩:=ajr v b i1 h1 r hl hi1 (by omega)
 refine ⟨x,i2,h2,by omega,hi2,?_⟩
 unfold cur at *
 simp only [eO,lP,lA2] at k1
 refine U agj [(153,[.l,.b],[]),(223,[.l,.b],[])] 5 [true] fun w hP hQ=>?_
 unfold xV
 refine N ?_
 (first | refine aI hP (k1) (.inl ⟨rfl,fun _ hx=>hx⟩) ?_ | refine aF hP (k1) (.inl ⟨rfl,fun _ hx=>hx⟩) ?_)
 refine N ?_
 (first | refine aI hP (k2) (.inl ⟨rfl,fun _ hx=>hx⟩) ?_ | refine aF hP (k2) (.inl ⟨rfl,fun _ hx=>hx⟩) ?_)
 exact N trivial
theorem aoU (b:aA) (hl:b.length<2^48):bC Tryz.prog 12 [.ext 1 (aO b)] (.bool (decide ((1048576:Int)<(b.length:Nat)))) [.undef]:=by
 refine U amE [] 5 [] fun w hP hQ=>?_
 unfold aim
 exact N trivial
theorem tP (l:List aA) (k:Nat):(l.map dB)[k]?=(l[k]?).map fun v=>[TV.str v]:=by rw [lI1]; rfl
theorem ad7 (v:Value) (b:aA) (i:Nat) (h:Int) (l:List aA) (hl:b.length<2^48) (hi:i≤b.length) (h0:l≠[]) (hn:l.length<2^40):∃ (r:aA) (i':Nat) (h':Int),r ∈ l∧i'≤b.length ∧
  bC Tryz.prog 149 [cur v b i h,.ext 1 (l.map dB)] (.str r) [cur v b i' h',.undef]:=by
 obtain ⟨x,i1,h1,hx,hi1,k1⟩:=i9 v b i h l.length hl hi (by omega)
 have hp:0<l.length:=lE3.2 h0
 have hx':(x:Int)<(l.length:Nat):=by rw [wS,lG (by omega)] at hx; exact hx
 refine ⟨l[x]'(by omega),i1,h1,lO _,hi1,?_⟩
 unfold cur at *
 refine U aiv [(101,[.l,.b],[])] 19 [true,false] fun w hP hQ=>?_
 unfold abq
 refine N ?_
 (first | refine aI hP (k1) (.inl ⟨rfl,fun _ hx=>hx⟩) ?_ | refine aF hP (k1) (.inl ⟨rfl,fun _ hx=>hx⟩) ?_)
 simp +decide (maxSteps:=9^9) (disch:=omega) only[↓SB0,SX,seval,hQ,tP,bG hx',dB]
theorem afs (v:Value) (b:aA) (i:Nat) (h:Int) (hl:b.length<2^48) (hi:i≤b.length):∃ (r:aA) (i':Nat) (h':Int),r.length≤5∧i'≤b.length ∧
  bC Tryz.prog 121 [cur v b i h] (.str r) [cur v b i' h']:=by
 obtain ⟨r,i1,h1,hr,hi1,k1⟩:=ad7 v b i h [[97],[98],[99],[100,46,116,120,116]] hl hi (by simp) (by simp)
 have hv:r.length≤5:=by
  simp only [lF,List.not_mem_nil,or_false] at hr
  rcases hr with rfl | rfl | rfl | rfl <;> simp
 refine ⟨r,i1,h1,hv,hi1,?_⟩
 unfold cur at *
 simp only [dB,lP,lA2] at k1
 refine U agd [(149,[.l,.b],[])] 5 [true] fun w hP hQ=>?_
 unfold xR
 refine N ?_
 (first | refine aI hP (k1) (.inl ⟨rfl,fun _ hx=>hx⟩) ?_ | refine aF hP (k1) (.inl ⟨rfl,fun _ hx=>hx⟩) ?_)
 exact N trivial
theorem aft (v:Value) (b:aA) (i:Nat) (h:Int) (hl:b.length<2^48) (hi:i≤b.length):∃ (r:aA) (i':Nat) (h':Int),r.length≤30∧i'≤b.length ∧
  bC Tryz.prog 59 [cur v b i h] (.str r) [cur v b i' h']:=by
 obtain ⟨x,i1,h1,hx,hi1,k1⟩:=i9 v b i h 3 hl hi (by omega)
 have hx':(x:Int)<3:=by rw [wS,lG (by omega)] at hx; exact hx
 have key:∃ ret outs,(∃ (r:aA) (i':Nat) (h':Int),r.length≤30∧i'≤b.length∧ret=.str r∧outs=[cur v b i' h'])∧bC Tryz.prog 59 [cur v b i h] ret outs:=by
  unfold cur at *
  refine mD hmx af6 [(101,[.l,.b],[]),(121,[.l],[])] 29 rfl [true] ⟨lO1 rfl,lO1 rfl⟩ rfl ?_
  intro w hP hQ
  unfold xK
  refine N ?_
  (first | refine aI hP (k1) (.inl ⟨rfl,fun _ hx=>hx⟩) ?_ | refine aF hP (k1) (.inl ⟨rfl,fun _ hx=>hx⟩) ?_)
  refine N ?_
  refine fH [] ?_
  refine N ?_
  refine aT [] (fun s:Nat × aA × Nat × Int=>[(1000,.box [.extv v 1 (aO b),.int .i64 (s.2.2.1:Nat),.int .i64 s.2.2.2]),(3,.str s.2.1),(4,.int .i64 (s.1:Nat))]) (fun s=>s.1≤3∧s.2.1.length+s.1*6≤30∧s.2.2.1≤b.length) (fun s=>s.1) ((1+x,[],i1,h1)) hP hQ (by simp; rfl) (⟨by simp only; omega,by simp; omega,hi1⟩) ?_
  rintro ⟨n,r,j,g⟩ ⟨hn,hr,hj⟩ w1 hP1 hQ1
  refine N1 ?_
  simp only at hn hr hj
  (first | with_reducible refine cQ _ ?_ ?_ | refine cR _ ?_ ?_) <;> intro g1
  ·obtain ⟨y,j1,g2,hy,hj1,k2⟩:=afs v b j g hl hj
   unfold cur at k2
   have e1:r.length+1≤4611686018427387904:=by omega
   have e2:(r++[47]).length+y.length≤4611686018427387904:=by simp; omega
   have e3:((n:Nat):Int)-1=((n-1:Nat):Int):=by omega
   have hz:=e1
   refine Nz1 ?_
   (first | refine aI hP1 (k2) (.inl ⟨rfl,fun _ hx=>hx⟩) ?_ | refine aF hP1 (k2) (.inl ⟨rfl,fun _ hx=>hx⟩) ?_)
   have hz:=And.intro e2 e3
   refine Nz1 ?_
   exact ⟨(n-1,r++[47]++y,j1,g2),rfl,⟨by simp only; omega,by simp; omega,hj1⟩,by simp only; omega⟩
  ·refine N1 ?_
   exact ⟨r,j,g,by omega,hj,rfl,rfl⟩
 obtain ⟨_,_,⟨r,i',h',hr,hi',rfl,rfl⟩,hS⟩:=key
 exact ⟨r,i',h',hr,hi',hS⟩
theorem ajs (v:Value) (b:aA) (i:Nat) (h:Int) (hl:b.length<2^48) (hi:i≤b.length):∃ (r:aA) (i':Nat) (h':Int),r.length≤30∧i'≤b.length ∧
  bC Tryz.prog 90 [cur v b i h] (.str r) [cur v b i' h']:=by
 obtain ⟨c,i1,h1,hi1,k1⟩:=aaz v b i h 6 hl hi (by omega)
 cases c with
 | true=>
  obtain ⟨r,i2,h2,hr,hi2,k2⟩:=ad7 v b i1 h1 [[],[47],[97],[47,47],[47,97,47],[47,65],[47,46,46],[47,46],[47,102,105,102,116,101,101,110,98,121,116,101,115,120,120,120],[47,97,47,47,98]] hl hi1 (by simp) (by simp)
  have hv:r.length≤30:=by
   simp only [lF,List.not_mem_nil,or_false] at hr
   rcases hr with rfl | rfl | rfl | rfl | rfl | rfl | rfl | rfl | rfl | rfl <;> simp
  refine ⟨r,i2,h2,hv,hi2,?_⟩
  unfold cur at *
  simp only [dB,lP,lA2] at k2
  refine U abw [(96,[.l,.b],[]),(149,[.l,.b],[]),(59,[.l],[])] 5 [true] fun w hP hQ=>?_
  unfold uT
  refine N ?_
  (first | refine aI hP (k1) (.inl ⟨rfl,fun _ hx=>hx⟩) ?_ | refine aF hP (k1) (.inl ⟨rfl,fun _ hx=>hx⟩) ?_)
  refine N ?_
  (first | refine aI hP (k2) (.inl ⟨rfl,fun _ hx=>hx⟩) ?_ | refine aF hP (k2) (.inl ⟨rfl,fun _ hx=>hx⟩) ?_)
  exact N trivial
 | false=>
  obtain ⟨r,i2,h2,hr,hi2,k2⟩:=aft v b i1 h1 hl hi1
  refine ⟨r,i2,h2,hr,hi2,?_⟩
  unfold cur at *
  refine U abw [(96,[.l,.b],[]),(149,[.l,.b],[]),(59,[.l],[])] 5 [true] fun w hP hQ=>?_
  unfold uT
  refine N ?_
  (first | refine aI hP (k1) (.inl ⟨rfl,fun _ hx=>hx⟩) ?_ | refine aF hP (k1) (.inl ⟨rfl,fun _ hx=>hx⟩) ?_)
  refine N ?_
  (first | refine aI hP (k2) (.inl ⟨rfl,fun _ hx=>hx⟩) ?_ | refine aF hP (k2) (.inl ⟨rfl,fun _ hx=>hx⟩) ?_)
  exact N trivial
def Of (l a:List aA):Prop:=a.length=l.length∧∀ x ∈ a,x ∈ l
theorem Of.set {l a:List aA} (h:Of l a) {k:Nat} {x:aA} (hx:x ∈ l):Of l (a.set k x):=
 ⟨by rw [List.length_set]; exact h.1,fun y hy=>by
  rcases List.mem_or_eq_of_mem_set hy with h1 | rfl
  ·exact h.2 y h1
  ·exact hx⟩
theorem ad8 (L:List aA) (k:Nat) (x:aA):(L.map dB).modify k (fun r=>TV.str x::r.drop 1)=(L.set k x).map dB:=sH dB L k x _ fun _ _=>rfl
theorem afu (l:List aA) (hl:l.length<2^40):∃ m:List aA,Of l m∧bC Tryz.prog 177 [.ext 1 (l.map dB)] (.own 1 (m.map dB)) [.undef]:=by
 have hb:l.length*16≤140737488355328:=by omega
 have key:∃ ret outs,(∃ m:List aA,Of l m∧ret=.own 1 (m.map dB)∧outs=[.undef])∧bC Tryz.prog 177 [.ext 1 (l.map dB)] ret outs:=by
  refine mD hmx agk [] 125 rfl [] ⟨lO1 rfl,lO1 rfl⟩ rfl ?_
  intro w hP hQ
  unfold xW
  refine N ?_
  have hz:=And.intro amV hb
  refine Nz ?_
  refine fH [5,6] ?_
  refine N ?_
  refine aT [5,6] (fun s:Nat × List aA=>[(3,.own 1 (s.2.map dB)),(4,.int .i64 (s.1:Nat))]) (fun s=>1≤s.1∧Of l s.2) (fun s=>l.length-s.1) ((1,l)) hP hQ (rfl) (⟨lR1 _,rfl,fun _ h=>h⟩) ?_
  rintro ⟨i,a⟩ ⟨hi,ha⟩ w1 hP1 hQ1
  refine N1 ?_
  simp only at hi ha
  have hal:=ha.1
  (first | with_reducible refine cQ _ ?_ ?_ | refine cR _ ?_ ?_) <;> intro g
  ·have hlt:i<a.length:=by omega
   have hx:a[i] ∈ l:=ha.2 _ (lO hlt)
   generalize hxx:a[i]=x at hx
   simp +decide (maxSteps:=9^9) (disch:=omega) only[↓SB0,SX,seval,hQ,hQ1,bG g,hxx,dB]
   refine fH [] ?_
   refine N1 ?_
   refine aT [] (fun s:Nat × List aA=>[(3,.own 1 (s.2.map dB)),(6,.int .i64 (s.1:Nat))]) (fun s=>s.1≤i∧Of l s.2) (fun s=>s.1) ((i,a)) hP1 hQ1 (rfl) (⟨lR1 _,ha⟩) ?_
   rintro ⟨j,c⟩ ⟨hj,hc⟩ w2 hP2 hQ2
   refine N2 ?_
   simp only at hj hc
   have hcl:=hc.1
   cases j with
   | zero=>
    have hd:(0:Nat)<c.length:=by omega
    have hz:=And.intro hcl (And.intro ad8 hd)
    refine Nz2 ?_
    exact ⟨(i+1,c.set 0 x),rfl,⟨by simp only; omega,hc.set hx⟩,by simp only; omega⟩
   | succ j=>
    have hjl:j<c.length:=by omega
    have hjl2:j+1<c.length:=by omega
    have w4:decide ((0:Int)<((j+1:Nat):Int))=true:=lE (by omega)
    have hm:c[j] ∈ l:=hc.2 _ (lO hjl)
    simp +decide (maxSteps:=9^9) (disch:=omega) only[↓SB0,SX,seval,hQ,hQ1,hQ2,w4,hcl,a8,tP,lK hjl,dB,ad1,ajh]
    (first | with_reducible refine cQ _ ?_ ?_ | refine cR _ ?_ ?_) <;> intro g2
    ·simp +decide (maxSteps:=9^9) (disch:=omega) only[↓SB0,SX,seval,hQ,hQ1,hQ2,hcl,a8,tP,lK hjl,ad8,dB]
     exact ⟨(j,c.set (j+1) c[j]),rfl,⟨by simp only; omega,hc.set hm⟩,by simp only; omega⟩
    ·have hz:=And.intro hcl ad8
     refine Nz2 ?_
     exact ⟨(i+1,c.set (j+1) x),rfl,⟨by simp only; omega,hc.set hx⟩,by simp only; omega⟩
  ·refine N1 ?_
   exact ⟨a,ha,rfl⟩
 obtain ⟨_,_,⟨m,hm,rfl,rfl⟩,hS⟩:=key
 exact ⟨m,hm,hS⟩
theorem agQ (t:Tab) (hB:bJ t=true) (h:t.sz<2^40) (k:Nat):∀ (x:Inode) (s:aA) (L:List aA),x ∈ t.inodes→(∃ l,aQ (aC t) l 1=some x.ino∧t.inodes.length≤l.length+k)→s.length+k*15<2^30→L.length+(oF t k x s).length<2^40 →
  bC Tryz.prog 176 [t.x,.int .i64 x.ino,.str s,.box [.own 1 (L.map dB)]] (.tup []) [.undef,.undef,.undef,.box [.own 1 ((L++oF t k x s).map dB)]]:=by
 have ht:=(aV t).1 hB
 induction k with
 | zero=>
  rintro x s L hx ⟨l,hl,hle⟩
  have:=(rW ht hl).1
  omega
 | succ k ih=>
  rintro x s L hx ⟨l,hl,hle⟩ hs hL
  have few:(oF t (k+1) x s).length≤300:=by rw [wD ht _ x hx,lJ1]; exact aco ht hx _
  rw [oF] at few hL ⊢
  generalize hf:(fun e:Ent=>(s++[47]++e.name)::oF t k ((aC t e.ino).getD zN) (s++[47]++e.name))=f at *
  have zx:=yX h (f0 ht hx)
  have ze:=(dU zx).2.1
  have hA:=sE t x.ino h
  rw [adU,f0 ht hx] at hA
  simp only [lY,lQ2] at hA
  refine U ads [(176,[.b,.b,.b,.l],[])] 3359 [false,false,false,true] fun w hP hQ=>?_
  unfold u5
  refine N ?_
  refine K (hA) ?_
  refine fH [11] ?_
  refine N ?_
  refine aT [11] (fun i:Nat=>[(1003,.box [.own 1 ((L++(x.ents.take i).flatMap f).map dB)]),(10,.int .i64 i)]) (fun i=>i≤x.ents.length) (fun i=>x.ents.length-i) (0) hP hQ (by simp; rfl) (by simp) ?_
  rintro i hi w1 hP1 hQ1
  refine N1 ?_
  have fi:=rE f x.ents i
  have fj:=rE f x.ents (i+1)
  (first | with_reducible refine cQ _ ?_ ?_ | refine cR _ ?_ ?_) <;> intro g
  ·have hlt:i<x.ents.length:=by omega
   have hm:x.ents[i] ∈ x.ents:=lO hlt
   have ek:=(bQ ht hx).ok _ hm
   have nl:=mI ek.1
   obtain ⟨y,hy⟩:=lB1.1 (ht.there x hx _ hm)
   obtain ⟨y1,y2⟩:=aM hy
   have kx:x.kind=2:=by
    apply Classical.byContradiction
    intro hk
    have h0:=(nY ht hx hk).1
    rw [h0] at hlt
    exact absurd hlt (by simp)
   have hw:aQ (aC t) (l++[x.ents[i].name]) 1=some y.ino:=by
    rw [cG,hl]
    exact (gS _ _ _ _).2 ⟨x,f0 ht hx,kx,by rw [eL (bQ ht hx).up hm,y2],by rw [y2]; omega⟩
   have ff:f x.ents[i]=(s++[47]++x.ents[i].name)::oF t k y (s++[47]++x.ents[i].name):=by rw [← hf]; simp only [hy]; rfl
   rw [acp f hlt,ff] at fj
   simp only [lT,lV] at fj
   have hI:=ih y (s++[47]++x.ents[i].name) (L++(x.ents.take i).flatMap f++[s++[47]++x.ents[i].name]) y1 ⟨_,hw,by simp; omega⟩ (by simp; omega) (by simp only [lT,List.length_singleton]; omega)
   rw [y2] at hI
   rw [lM2,List.map_singleton,show dB (s++[47]++x.ents[i].name)=[TV.str (s++[47]++x.ents[i].name)] from rfl] at hI
   have hb1:((L++(x.ents.take i).flatMap f).length+1)*16≤140737488355328:=by simp only [lT]; omega
   have hb3:(s++[47]).length+x.ents[i].name.length≤4611686018427387904:=by simp; omega
   have hb4:s.length+1≤4611686018427387904:=by omega
   generalize hM:L++(x.ents.take i).flatMap f=M at *
   have hz:=And.intro (bG g) (And.intro hb1 (And.intro hb3 hb4))
   refine Nz1 ?_
   refine K1 (hI) ?_
   exact ⟨i+1,by rw [acp f hlt,ff,← lG2,hM]; simp [dB],by omega,by omega⟩
  ·obtain rfl:i=x.ents.length:=by omega
   simp +decide (maxSteps:=9^9) (disch:=omega) only[↓SB0,SX,seval,hQ,hQ1,lZ1]
   all_goals first | rfl | exact ⟨rfl,rfl⟩
theorem alh {l:List aA} (h:∀ n ∈ l,n.length≤14):(dS l).length≤l.length*15:=
 acn (fun n:aA=>47::n) l 15 fun n hn=>by have:=h n hn; simp only [lV]; omega
theorem ajt {t:Tab} (h:TreeOk t) {s:aA} (hs:s ∈ yB t):s.length≤450:=by
 obtain ⟨l,h1,rfl,h3⟩:=(agv h s).1 hs
 obtain ⟨i,hi⟩:=lB1.1 h3
 obtain ⟨a,b⟩:=rW h hi
 have:=alh fun n hn=>(mI (b n hn)).2
 have:=h.tab.len
 omega
theorem agR (t:Tab) (h:t.sz<2^40):∃ m:List aA,m.length≤300∧(∀ s ∈ m,s.length≤450)∧bC Tryz.prog 120 [t.x] (.own 1 (m.map dB)) [.undef]:=by
 have hT:=fW t h
 cases hB:bJ t with
 | false=>
  rw [hB] at hT
  obtain ⟨m,hm,hS⟩:=afu [] (by simp)
  obtain rfl:m=[]:=lM1.1 hm.1
  refine ⟨[],by simp,by simp,?_⟩
  simp only [lA2] at hS ⊢
  refine U vC [(176,[.b,.b,.b,.l],[])] 15 [] fun w hP hQ=>?_
  unfold pN
  refine N ?_
  refine K (hT) ?_
  (first|refine cI hP (hS) rfl rfl ?_|refine cH hP (hS) rfl rfl ?_)
  refine N ?_
  all_goals first|exact trivial|rfl|exact ⟨rfl,rfl⟩
 | true=>
  rw [hB] at hT
  have ht:=(aV t).1 hB
  obtain ⟨r,r1,r2,r3⟩:=eM ht
  have r4:=(aM r1).2
  have hl:t.inodes.length≤30:=ht.tab.len
  have few:(oF t 30 r []).length≤300:=by rw [wD ht _ r r3,lJ1]; exact aco ht r3 _
  have hPb:=agQ t hB h 30 r [] [] r3 ⟨[],by rw [r4]; rfl,by simpa using hl⟩ (by simp) (by simp; omega)
  rw [r4,lF1,lA2,afq ht r1] at hPb
  rw [afq ht r1] at few
  obtain ⟨m,hm,hS⟩:=afu (yB t) (by omega)
  refine ⟨m,by rw [hm.1]; exact few,fun s hs=>ajt ht (hm.2 s hs),?_⟩
  refine U vC [(176,[.b,.b,.b,.l],[])] 15 [] fun w hP hQ=>?_
  unfold pN
  refine N ?_
  refine K (hT) ?_
  refine K (hPb) ?_
  (first|refine cI hP (hS) rfl rfl ?_|refine cH hP (hS) rfl rfl ?_)
  refine N ?_
  all_goals first|exact trivial|rfl|exact ⟨rfl,rfl⟩
theorem ali (v:Value) (b:aA) (i:Nat) (h:Int) (t:Tab) (hl:b.length<2^48) (hi:i≤b.length) (ht:t.sz<2^40):∃ (r:aA) (i':Nat) (h':Int),r.length≤450∧i'≤b.length ∧
  bC Tryz.prog 58 [cur v b i h,t.x] (.str r) [cur v b i' h',.undef]:=by
 obtain ⟨m,m1,m2,hm⟩:=agR t ht
 by_cases h0:m=[]
 ·subst h0
  obtain ⟨r,i1,h1,hr,hi1,k1⟩:=ajs v b i h hl hi
  refine ⟨r,i1,h1,by omega,hi1,?_⟩
  simp only [lA2] at hm
  unfold cur at *
  refine U rR [(96,[.l,.b],[]),(101,[.l,.b],[]),(90,[.l],[])] 59 [true,false] fun w hP hQ=>?_
  unfold oM
  refine N ?_
  refine K (hm) ?_
  (first | refine aI hP (k1) (.inl ⟨rfl,fun _ hx=>hx⟩) ?_ | refine aF hP (k1) (.inl ⟨rfl,fun _ hx=>hx⟩) ?_)
  refine N ?_
  all_goals first|exact trivial|rfl|exact ⟨rfl,rfl⟩
 ·have hp:0<m.length:=lE3.2 h0
  have d0:decide ((0:Int)<(m.length:Nat))=true:=lE (by omega)
  obtain ⟨c,i1,h1,hi1,k1⟩:=aaz v b i h 4 hl hi (by omega)
  cases c with
  | true=>
   obtain ⟨r,i2,h2,hr,hi2,k2⟩:=ajs v b i1 h1 hl hi1
   refine ⟨r,i2,h2,by omega,hi2,?_⟩
   unfold cur at *
   refine U rR [(96,[.l,.b],[]),(101,[.l,.b],[]),(90,[.l],[])] 59 [true,false] fun w hP hQ=>?_
   unfold oM
   refine N ?_
   have hz:=d0
   refine Kz (hm) ?_
   (first | refine aI hP (k1) (.inl ⟨rfl,fun _ hx=>hx⟩) ?_ | refine aF hP (k1) (.inl ⟨rfl,fun _ hx=>hx⟩) ?_)
   refine N ?_
   (first | refine aI hP (k2) (.inl ⟨rfl,fun _ hx=>hx⟩) ?_ | refine aF hP (k2) (.inl ⟨rfl,fun _ hx=>hx⟩) ?_)
   refine N ?_
   all_goals first|exact trivial|rfl|exact ⟨rfl,rfl⟩
  | false=>
   obtain ⟨x,i2,h2,hx,hi2,k2⟩:=i9 v b i1 h1 m.length hl hi1 (by omega)
   have hx':(x:Int)<(m.length:Nat):=by rw [wS,lG (by omega)] at hx; exact hx
   refine ⟨m[x]'(by omega),i2,h2,m2 _ (lO _),hi2,?_⟩
   unfold cur at *
   refine U rR [(96,[.l,.b],[]),(101,[.l,.b],[]),(90,[.l],[])] 59 [true,false] fun w hP hQ=>?_
   unfold oM
   refine N ?_
   have hz:=d0
   refine Kz (hm) ?_
   (first | refine aI hP (k1) (.inl ⟨rfl,fun _ hx=>hx⟩) ?_ | refine aF hP (k1) (.inl ⟨rfl,fun _ hx=>hx⟩) ?_)
   refine N ?_
   (first | refine aI hP (k2) (.inl ⟨rfl,fun _ hx=>hx⟩) ?_ | refine aF hP (k2) (.inl ⟨rfl,fun _ hx=>hx⟩) ?_)
   simp +decide (maxSteps:=9^9) (disch:=omega) only[↓SB0,SX,seval,hQ,tP,bG hx',dB]
   all_goals first|exact trivial|rfl|exact ⟨rfl,rfl⟩
theorem agS (v:Value) (b:aA) (i:Nat) (h:Int) (t:Tab) (hl:b.length<2^48) (hi:i≤b.length) (hB:bJ t=true):∃ (t':Tab) (i':Nat) (h':Int),bJ t'=true∧i'≤b.length ∧
  bC Tryz.prog 119 [cur v b i h,t.x] t'.o [cur v b i' h',.undef]:=by
 have hz:=agz hB
 obtain ⟨p,i1,h1,hp,hi1,k1⟩:=ali v b i h t hl hi (by omega)
 obtain ⟨q,i2,h2,hq,hi2,k2⟩:=aft v b i1 h1 hl hi1
 obtain ⟨x,i3,h3,hx,hi3,k3⟩:=i9 v b i2 h2 12 hl hi2 (by omega)
 have hx':(x:Int)<12:=by rw [wS,lG (by omega)] at hx; exact hx
 have hc:x=0∨x=1∨x=2∨x=3∨x=4∨x=5∨x=6∨x=7∨x=8∨x=9∨x=10∨x=11:=by omega
 rcases hc with hc | hc | hc | hc | hc | hc | hc | hc | hc | hc | hc | hc
 ·
  have d0:decide ((x:Int)=0)=true:=lE (by omega)
  refine ⟨(fM t q 2).1,i3,h3,mO hB q (.inr rfl),hi3,?_⟩
  unfold cur at *
  refine U bO [(58,[.l,.b],[]),(59,[.l],[]),(101,[.l,.b],[]),(153,[.l,.b],[]),(173,[.l],[]),(96,[.l,.b],[]),(121,[.l],[]),(149,[.l,.b],[])] 8315 [true,false] fun w hP hQ=>?_
  unfold bL
  refine N ?_
  (first | refine aI hP (k1) (.inl ⟨rfl,fun _ hx=>hx⟩) ?_ | refine aF hP (k1) (.inl ⟨rfl,fun _ hx=>hx⟩) ?_)
  refine N ?_
  (first | refine aI hP (k2) (.inl ⟨rfl,fun _ hx=>hx⟩) ?_ | refine aF hP (k2) (.inl ⟨rfl,fun _ hx=>hx⟩) ?_)
  refine N ?_
  (first | refine aI hP (k3) (.inl ⟨rfl,fun _ hx=>hx⟩) ?_ | refine aF hP (k3) (.inl ⟨rfl,fun _ hx=>hx⟩) ?_)
  have hz:=d0
  refine Nz ?_
  (first | refine aI hP (oZ t q (by omega) (by omega)) (.inl ⟨rfl,fun _ hx=>hx⟩) ?_ | refine aF hP (oZ t q (by omega) (by omega)) (.inl ⟨rfl,fun _ hx=>hx⟩) ?_)
  simp +decide (maxSteps:=9^9) (disch:=omega) only[↓SB0,SX,seval,hQ]
  all_goals first | rfl | exact ⟨rfl,rfl⟩
 ·
  have d0:decide ((x:Int)=0)=false:=lB (by omega)
  have d1:decide ((x:Int)=1)=true:=lE (by omega)
  refine ⟨(fM t q 2).1,i3,h3,mO hB q (.inr rfl),hi3,?_⟩
  unfold cur at *
  refine U bO [(58,[.l,.b],[]),(59,[.l],[]),(101,[.l,.b],[]),(153,[.l,.b],[]),(173,[.l],[]),(96,[.l,.b],[]),(121,[.l],[]),(149,[.l,.b],[])] 8315 [true,false] fun w hP hQ=>?_
  unfold bL
  refine N ?_
  (first | refine aI hP (k1) (.inl ⟨rfl,fun _ hx=>hx⟩) ?_ | refine aF hP (k1) (.inl ⟨rfl,fun _ hx=>hx⟩) ?_)
  refine N ?_
  (first | refine aI hP (k2) (.inl ⟨rfl,fun _ hx=>hx⟩) ?_ | refine aF hP (k2) (.inl ⟨rfl,fun _ hx=>hx⟩) ?_)
  refine N ?_
  (first | refine aI hP (k3) (.inl ⟨rfl,fun _ hx=>hx⟩) ?_ | refine aF hP (k3) (.inl ⟨rfl,fun _ hx=>hx⟩) ?_)
  have hz:=And.intro d0 d1
  refine Nz ?_
  (first | refine aI hP (oZ t q (by omega) (by omega)) (.inl ⟨rfl,fun _ hx=>hx⟩) ?_ | refine aF hP (oZ t q (by omega) (by omega)) (.inl ⟨rfl,fun _ hx=>hx⟩) ?_)
  simp +decide (maxSteps:=9^9) (disch:=omega) only[↓SB0,SX,seval,hQ]
  all_goals first | rfl | exact ⟨rfl,rfl⟩
 ·
  have d0:decide ((x:Int)=0)=false:=lB (by omega)
  have d1:decide ((x:Int)=1)=false:=lB (by omega)
  have d2:decide ((x:Int)=2)=true:=lE (by omega)
  refine ⟨(fM t q 1).1,i3,h3,mO hB q (.inl rfl),hi3,?_⟩
  unfold cur at *
  refine U bO [(58,[.l,.b],[]),(59,[.l],[]),(101,[.l,.b],[]),(153,[.l,.b],[]),(173,[.l],[]),(96,[.l,.b],[]),(121,[.l],[]),(149,[.l,.b],[])] 8315 [true,false] fun w hP hQ=>?_
  unfold bL
  refine N ?_
  (first | refine aI hP (k1) (.inl ⟨rfl,fun _ hx=>hx⟩) ?_ | refine aF hP (k1) (.inl ⟨rfl,fun _ hx=>hx⟩) ?_)
  refine N ?_
  (first | refine aI hP (k2) (.inl ⟨rfl,fun _ hx=>hx⟩) ?_ | refine aF hP (k2) (.inl ⟨rfl,fun _ hx=>hx⟩) ?_)
  refine N ?_
  (first | refine aI hP (k3) (.inl ⟨rfl,fun _ hx=>hx⟩) ?_ | refine aF hP (k3) (.inl ⟨rfl,fun _ hx=>hx⟩) ?_)
  have hz:=And.intro d0 (And.intro d1 d2)
  refine Nz ?_
  (first | refine aI hP (mR t q (by omega) (by omega)) (.inl ⟨rfl,fun _ hx=>hx⟩) ?_ | refine aF hP (mR t q (by omega) (by omega)) (.inl ⟨rfl,fun _ hx=>hx⟩) ?_)
  simp +decide (maxSteps:=9^9) (disch:=omega) only[↓SB0,SX,seval,hQ]
  all_goals first | rfl | exact ⟨rfl,rfl⟩
 ·
  have d0:decide ((x:Int)=0)=false:=lB (by omega)
  have d1:decide ((x:Int)=1)=false:=lB (by omega)
  have d2:decide ((x:Int)=2)=false:=lB (by omega)
  have d3:decide ((x:Int)=3)=true:=lE (by omega)
  refine ⟨(fM t q 1).1,i3,h3,mO hB q (.inl rfl),hi3,?_⟩
  unfold cur at *
  refine U bO [(58,[.l,.b],[]),(59,[.l],[]),(101,[.l,.b],[]),(153,[.l,.b],[]),(173,[.l],[]),(96,[.l,.b],[]),(121,[.l],[]),(149,[.l,.b],[])] 8315 [true,false] fun w hP hQ=>?_
  unfold bL
  refine N ?_
  (first | refine aI hP (k1) (.inl ⟨rfl,fun _ hx=>hx⟩) ?_ | refine aF hP (k1) (.inl ⟨rfl,fun _ hx=>hx⟩) ?_)
  refine N ?_
  (first | refine aI hP (k2) (.inl ⟨rfl,fun _ hx=>hx⟩) ?_ | refine aF hP (k2) (.inl ⟨rfl,fun _ hx=>hx⟩) ?_)
  refine N ?_
  (first | refine aI hP (k3) (.inl ⟨rfl,fun _ hx=>hx⟩) ?_ | refine aF hP (k3) (.inl ⟨rfl,fun _ hx=>hx⟩) ?_)
  have hz:=And.intro d0 (And.intro d1 (And.intro d2 d3))
  refine Nz ?_
  (first | refine aI hP (mR t q (by omega) (by omega)) (.inl ⟨rfl,fun _ hx=>hx⟩) ?_ | refine aF hP (mR t q (by omega) (by omega)) (.inl ⟨rfl,fun _ hx=>hx⟩) ?_)
  simp +decide (maxSteps:=9^9) (disch:=omega) only[↓SB0,SX,seval,hQ]
  all_goals first | rfl | exact ⟨rfl,rfl⟩
 ·
  have d0:decide ((x:Int)=0)=false:=lB (by omega)
  have d1:decide ((x:Int)=1)=false:=lB (by omega)
  have d2:decide ((x:Int)=2)=false:=lB (by omega)
  have d3:decide ((x:Int)=3)=false:=lB (by omega)
  have d4:decide ((x:Int)=4)=true:=lE (by omega)
  obtain ⟨n,i4,h4,hn,hi4,k4⟩:=wE v b i3 h3 [0,1,20] hl hi3 (by simp) (by simp)
  obtain ⟨y,i5,h5,hy,hi5,k5⟩:=aaA v b i4 h4 hl hi4
  simp only [eO,lP,lA2] at k4
  refine ⟨(gJ t p n y).1,i5,h5,n9 hB p n y,hi5,?_⟩
  unfold cur at *
  refine U bO [(58,[.l,.b],[]),(59,[.l],[]),(101,[.l,.b],[]),(153,[.l,.b],[]),(173,[.l],[]),(96,[.l,.b],[]),(121,[.l],[]),(149,[.l,.b],[])] 8315 [true,false] fun w hP hQ=>?_
  unfold bL
  refine N ?_
  (first | refine aI hP (k1) (.inl ⟨rfl,fun _ hx=>hx⟩) ?_ | refine aF hP (k1) (.inl ⟨rfl,fun _ hx=>hx⟩) ?_)
  refine N ?_
  (first | refine aI hP (k2) (.inl ⟨rfl,fun _ hx=>hx⟩) ?_ | refine aF hP (k2) (.inl ⟨rfl,fun _ hx=>hx⟩) ?_)
  refine N ?_
  (first | refine aI hP (k3) (.inl ⟨rfl,fun _ hx=>hx⟩) ?_ | refine aF hP (k3) (.inl ⟨rfl,fun _ hx=>hx⟩) ?_)
  have hz:=And.intro d0 (And.intro d1 (And.intro d2 (And.intro d3 d4)))
  refine Nz ?_
  (first | refine aI hP (k4) (.inl ⟨rfl,fun _ hx=>hx⟩) ?_ | refine aF hP (k4) (.inl ⟨rfl,fun _ hx=>hx⟩) ?_)
  refine N ?_
  (first | refine aI hP (k5) (.inl ⟨rfl,fun _ hx=>hx⟩) ?_ | refine aF hP (k5) (.inl ⟨rfl,fun _ hx=>hx⟩) ?_)
  refine N ?_
  (first | refine aI hP (iN t p n y (by omega) (by omega) (by omega)) (.inl ⟨rfl,fun _ hx=>hx⟩) ?_ | refine aF hP (iN t p n y (by omega) (by omega) (by omega)) (.inl ⟨rfl,fun _ hx=>hx⟩) ?_)
  simp +decide (maxSteps:=9^9) (disch:=omega) only[↓SB0,SX,seval,hQ]
  all_goals first | rfl | exact ⟨rfl,rfl⟩
 ·
  have d0:decide ((x:Int)=0)=false:=lB (by omega)
  have d1:decide ((x:Int)=1)=false:=lB (by omega)
  have d2:decide ((x:Int)=2)=false:=lB (by omega)
  have d3:decide ((x:Int)=3)=false:=lB (by omega)
  have d4:decide ((x:Int)=4)=false:=lB (by omega)
  have d5:decide ((x:Int)=5)=true:=lE (by omega)
  obtain ⟨n,i4,h4,hn,hi4,k4⟩:=wE v b i3 h3 [0,1,20] hl hi3 (by simp) (by simp)
  obtain ⟨y,i5,h5,hy,hi5,k5⟩:=aaA v b i4 h4 hl hi4
  simp only [eO,lP,lA2] at k4
  refine ⟨(gJ t p n y).1,i5,h5,n9 hB p n y,hi5,?_⟩
  unfold cur at *
  refine U bO [(58,[.l,.b],[]),(59,[.l],[]),(101,[.l,.b],[]),(153,[.l,.b],[]),(173,[.l],[]),(96,[.l,.b],[]),(121,[.l],[]),(149,[.l,.b],[])] 8315 [true,false] fun w hP hQ=>?_
  unfold bL
  refine N ?_
  (first | refine aI hP (k1) (.inl ⟨rfl,fun _ hx=>hx⟩) ?_ | refine aF hP (k1) (.inl ⟨rfl,fun _ hx=>hx⟩) ?_)
  refine N ?_
  (first | refine aI hP (k2) (.inl ⟨rfl,fun _ hx=>hx⟩) ?_ | refine aF hP (k2) (.inl ⟨rfl,fun _ hx=>hx⟩) ?_)
  refine N ?_
  (first | refine aI hP (k3) (.inl ⟨rfl,fun _ hx=>hx⟩) ?_ | refine aF hP (k3) (.inl ⟨rfl,fun _ hx=>hx⟩) ?_)
  have hz:=And.intro d0 (And.intro d1 (And.intro d2 (And.intro d3 (And.intro d4 d5))))
  refine Nz ?_
  (first | refine aI hP (k4) (.inl ⟨rfl,fun _ hx=>hx⟩) ?_ | refine aF hP (k4) (.inl ⟨rfl,fun _ hx=>hx⟩) ?_)
  refine N ?_
  (first | refine aI hP (k5) (.inl ⟨rfl,fun _ hx=>hx⟩) ?_ | refine aF hP (k5) (.inl ⟨rfl,fun _ hx=>hx⟩) ?_)
  refine N ?_
  (first | refine aI hP (iN t p n y (by omega) (by omega) (by omega)) (.inl ⟨rfl,fun _ hx=>hx⟩) ?_ | refine aF hP (iN t p n y (by omega) (by omega) (by omega)) (.inl ⟨rfl,fun _ hx=>hx⟩) ?_)
  simp +decide (maxSteps:=9^9) (disch:=omega) only[↓SB0,SX,seval,hQ]
  all_goals first | rfl | exact ⟨rfl,rfl⟩
 ·
  have d0:decide ((x:Int)=0)=false:=lB (by omega)
  have d1:decide ((x:Int)=1)=false:=lB (by omega)
  have d2:decide ((x:Int)=2)=false:=lB (by omega)
  have d3:decide ((x:Int)=3)=false:=lB (by omega)
  have d4:decide ((x:Int)=4)=false:=lB (by omega)
  have d5:decide ((x:Int)=5)=false:=lB (by omega)
  have d6:decide ((x:Int)=6)=true:=lE (by omega)
  obtain ⟨n,i4,h4,hn,hi4,k4⟩:=wE v b i3 h3 [0,1,20] hl hi3 (by simp) (by simp)
  obtain ⟨y,i5,h5,hy,hi5,k5⟩:=aaA v b i4 h4 hl hi4
  simp only [eO,lP,lA2] at k4
  refine ⟨(gJ t p n y).1,i5,h5,n9 hB p n y,hi5,?_⟩
  unfold cur at *
  refine U bO [(58,[.l,.b],[]),(59,[.l],[]),(101,[.l,.b],[]),(153,[.l,.b],[]),(173,[.l],[]),(96,[.l,.b],[]),(121,[.l],[]),(149,[.l,.b],[])] 8315 [true,false] fun w hP hQ=>?_
  unfold bL
  refine N ?_
  (first | refine aI hP (k1) (.inl ⟨rfl,fun _ hx=>hx⟩) ?_ | refine aF hP (k1) (.inl ⟨rfl,fun _ hx=>hx⟩) ?_)
  refine N ?_
  (first | refine aI hP (k2) (.inl ⟨rfl,fun _ hx=>hx⟩) ?_ | refine aF hP (k2) (.inl ⟨rfl,fun _ hx=>hx⟩) ?_)
  refine N ?_
  (first | refine aI hP (k3) (.inl ⟨rfl,fun _ hx=>hx⟩) ?_ | refine aF hP (k3) (.inl ⟨rfl,fun _ hx=>hx⟩) ?_)
  have hz:=And.intro d0 (And.intro d1 (And.intro d2 (And.intro d3 (And.intro d4 (And.intro d5 d6)))))
  refine Nz ?_
  (first | refine aI hP (k4) (.inl ⟨rfl,fun _ hx=>hx⟩) ?_ | refine aF hP (k4) (.inl ⟨rfl,fun _ hx=>hx⟩) ?_)
  refine N ?_
  (first | refine aI hP (k5) (.inl ⟨rfl,fun _ hx=>hx⟩) ?_ | refine aF hP (k5) (.inl ⟨rfl,fun _ hx=>hx⟩) ?_)
  refine N ?_
  (first | refine aI hP (iN t p n y (by omega) (by omega) (by omega)) (.inl ⟨rfl,fun _ hx=>hx⟩) ?_ | refine aF hP (iN t p n y (by omega) (by omega) (by omega)) (.inl ⟨rfl,fun _ hx=>hx⟩) ?_)
  simp +decide (maxSteps:=9^9) (disch:=omega) only[↓SB0,SX,seval,hQ]
  all_goals first | rfl | exact ⟨rfl,rfl⟩
 ·
  have d0:decide ((x:Int)=0)=false:=lB (by omega)
  have d1:decide ((x:Int)=1)=false:=lB (by omega)
  have d2:decide ((x:Int)=2)=false:=lB (by omega)
  have d3:decide ((x:Int)=3)=false:=lB (by omega)
  have d4:decide ((x:Int)=4)=false:=lB (by omega)
  have d5:decide ((x:Int)=5)=false:=lB (by omega)
  have d6:decide ((x:Int)=6)=false:=lB (by omega)
  have d7:decide ((x:Int)=7)=true:=lE (by omega)
  obtain ⟨n,i4,h4,hn,hi4,k4⟩:=wE v b i3 h3 [0,3,50] hl hi3 (by simp) (by simp)
  simp only [eO,lP,lA2] at k4
  refine ⟨(vQ t p n).1,i4,h4,agA hB p n,hi4,?_⟩
  unfold cur at *
  refine U bO [(58,[.l,.b],[]),(59,[.l],[]),(101,[.l,.b],[]),(153,[.l,.b],[]),(173,[.l],[]),(96,[.l,.b],[]),(121,[.l],[]),(149,[.l,.b],[])] 8315 [true,false] fun w hP hQ=>?_
  unfold bL
  refine N ?_
  (first | refine aI hP (k1) (.inl ⟨rfl,fun _ hx=>hx⟩) ?_ | refine aF hP (k1) (.inl ⟨rfl,fun _ hx=>hx⟩) ?_)
  refine N ?_
  (first | refine aI hP (k2) (.inl ⟨rfl,fun _ hx=>hx⟩) ?_ | refine aF hP (k2) (.inl ⟨rfl,fun _ hx=>hx⟩) ?_)
  refine N ?_
  (first | refine aI hP (k3) (.inl ⟨rfl,fun _ hx=>hx⟩) ?_ | refine aF hP (k3) (.inl ⟨rfl,fun _ hx=>hx⟩) ?_)
  have hz:=And.intro d0 (And.intro d1 (And.intro d2 (And.intro d3 (And.intro d4 (And.intro d5 (And.intro d6 d7))))))
  refine Nz ?_
  (first | refine aI hP (k4) (.inl ⟨rfl,fun _ hx=>hx⟩) ?_ | refine aF hP (k4) (.inl ⟨rfl,fun _ hx=>hx⟩) ?_)
  refine N ?_
  (first | refine aI hP (wC t p n (by omega) (by omega)) (.inl ⟨rfl,fun _ hx=>hx⟩) ?_ | refine aF hP (wC t p n (by omega) (by omega)) (.inl ⟨rfl,fun _ hx=>hx⟩) ?_)
  simp +decide (maxSteps:=9^9) (disch:=omega) only[↓SB0,SX,seval,hQ]
  all_goals first | rfl | exact ⟨rfl,rfl⟩
 ·
  have d0:decide ((x:Int)=0)=false:=lB (by omega)
  have d1:decide ((x:Int)=1)=false:=lB (by omega)
  have d2:decide ((x:Int)=2)=false:=lB (by omega)
  have d3:decide ((x:Int)=3)=false:=lB (by omega)
  have d4:decide ((x:Int)=4)=false:=lB (by omega)
  have d5:decide ((x:Int)=5)=false:=lB (by omega)
  have d6:decide ((x:Int)=6)=false:=lB (by omega)
  have d7:decide ((x:Int)=7)=false:=lB (by omega)
  have d8:decide ((x:Int)=8)=true:=lE (by omega)
  refine ⟨(fV t p).1,i3,h3,aar hB p,hi3,?_⟩
  unfold cur at *
  refine U bO [(58,[.l,.b],[]),(59,[.l],[]),(101,[.l,.b],[]),(153,[.l,.b],[]),(173,[.l],[]),(96,[.l,.b],[]),(121,[.l],[]),(149,[.l,.b],[])] 8315 [true,false] fun w hP hQ=>?_
  unfold bL
  refine N ?_
  (first | refine aI hP (k1) (.inl ⟨rfl,fun _ hx=>hx⟩) ?_ | refine aF hP (k1) (.inl ⟨rfl,fun _ hx=>hx⟩) ?_)
  refine N ?_
  (first | refine aI hP (k2) (.inl ⟨rfl,fun _ hx=>hx⟩) ?_ | refine aF hP (k2) (.inl ⟨rfl,fun _ hx=>hx⟩) ?_)
  refine N ?_
  (first | refine aI hP (k3) (.inl ⟨rfl,fun _ hx=>hx⟩) ?_ | refine aF hP (k3) (.inl ⟨rfl,fun _ hx=>hx⟩) ?_)
  have hz:=And.intro d0 (And.intro d1 (And.intro d2 (And.intro d3 (And.intro d4 (And.intro d5 (And.intro d6 (And.intro d7 d8)))))))
  refine Nz ?_
  (first | refine aI hP (acj t p (by omega) (by omega)) (.inl ⟨rfl,fun _ hx=>hx⟩) ?_ | refine aF hP (acj t p (by omega) (by omega)) (.inl ⟨rfl,fun _ hx=>hx⟩) ?_)
  simp +decide (maxSteps:=9^9) (disch:=omega) only[↓SB0,SX,seval,hQ]
  all_goals first | rfl | exact ⟨rfl,rfl⟩
 ·
  have d0:decide ((x:Int)=0)=false:=lB (by omega)
  have d1:decide ((x:Int)=1)=false:=lB (by omega)
  have d2:decide ((x:Int)=2)=false:=lB (by omega)
  have d3:decide ((x:Int)=3)=false:=lB (by omega)
  have d4:decide ((x:Int)=4)=false:=lB (by omega)
  have d5:decide ((x:Int)=5)=false:=lB (by omega)
  have d6:decide ((x:Int)=6)=false:=lB (by omega)
  have d7:decide ((x:Int)=7)=false:=lB (by omega)
  have d8:decide ((x:Int)=8)=false:=lB (by omega)
  have d9:decide ((x:Int)=9)=true:=lE (by omega)
  refine ⟨(kO t p q).1,i3,h3,adK hB p q,hi3,?_⟩
  unfold cur at *
  refine U bO [(58,[.l,.b],[]),(59,[.l],[]),(101,[.l,.b],[]),(153,[.l,.b],[]),(173,[.l],[]),(96,[.l,.b],[]),(121,[.l],[]),(149,[.l,.b],[])] 8315 [true,false] fun w hP hQ=>?_
  unfold bL
  refine N ?_
  (first | refine aI hP (k1) (.inl ⟨rfl,fun _ hx=>hx⟩) ?_ | refine aF hP (k1) (.inl ⟨rfl,fun _ hx=>hx⟩) ?_)
  refine N ?_
  (first | refine aI hP (k2) (.inl ⟨rfl,fun _ hx=>hx⟩) ?_ | refine aF hP (k2) (.inl ⟨rfl,fun _ hx=>hx⟩) ?_)
  refine N ?_
  (first | refine aI hP (k3) (.inl ⟨rfl,fun _ hx=>hx⟩) ?_ | refine aF hP (k3) (.inl ⟨rfl,fun _ hx=>hx⟩) ?_)
  have hz:=And.intro d0 (And.intro d1 (And.intro d2 (And.intro d3 (And.intro d4 (And.intro d5 (And.intro d6 (And.intro d7 (And.intro d8 d9))))))))
  refine Nz ?_
  (first | refine aI hP (wB t p q (by omega) (by omega) (by omega)) (.inl ⟨rfl,fun _ hx=>hx⟩) ?_ | refine aF hP (wB t p q (by omega) (by omega) (by omega)) (.inl ⟨rfl,fun _ hx=>hx⟩) ?_)
  simp +decide (maxSteps:=9^9) (disch:=omega) only[↓SB0,SX,seval,hQ]
  all_goals first | rfl | exact ⟨rfl,rfl⟩
 ·
  have d0:decide ((x:Int)=0)=false:=lB (by omega)
  have d1:decide ((x:Int)=1)=false:=lB (by omega)
  have d2:decide ((x:Int)=2)=false:=lB (by omega)
  have d3:decide ((x:Int)=3)=false:=lB (by omega)
  have d4:decide ((x:Int)=4)=false:=lB (by omega)
  have d5:decide ((x:Int)=5)=false:=lB (by omega)
  have d6:decide ((x:Int)=6)=false:=lB (by omega)
  have d7:decide ((x:Int)=7)=false:=lB (by omega)
  have d8:decide ((x:Int)=8)=false:=lB (by omega)
  have d9:decide ((x:Int)=9)=false:=lB (by omega)
  have d10:decide ((x:Int)=10)=true:=lE (by omega)
  refine ⟨(n6 t p q).1,i3,h3,adL hB p q,hi3,?_⟩
  unfold cur at *
  refine U bO [(58,[.l,.b],[]),(59,[.l],[]),(101,[.l,.b],[]),(153,[.l,.b],[]),(173,[.l],[]),(96,[.l,.b],[]),(121,[.l],[]),(149,[.l,.b],[])] 8315 [true,false] fun w hP hQ=>?_
  unfold bL
  refine N ?_
  (first | refine aI hP (k1) (.inl ⟨rfl,fun _ hx=>hx⟩) ?_ | refine aF hP (k1) (.inl ⟨rfl,fun _ hx=>hx⟩) ?_)
  refine N ?_
  (first | refine aI hP (k2) (.inl ⟨rfl,fun _ hx=>hx⟩) ?_ | refine aF hP (k2) (.inl ⟨rfl,fun _ hx=>hx⟩) ?_)
  refine N ?_
  (first | refine aI hP (k3) (.inl ⟨rfl,fun _ hx=>hx⟩) ?_ | refine aF hP (k3) (.inl ⟨rfl,fun _ hx=>hx⟩) ?_)
  have hz:=And.intro d0 (And.intro d1 (And.intro d2 (And.intro d3 (And.intro d4 (And.intro d5 (And.intro d6 (And.intro d7 (And.intro d8 (And.intro d9 d10)))))))))
  refine Nz ?_
  (first | refine aI hP (acl t p q (by omega) (by omega) (by omega)) (.inl ⟨rfl,fun _ hx=>hx⟩) ?_ | refine aF hP (acl t p q (by omega) (by omega) (by omega)) (.inl ⟨rfl,fun _ hx=>hx⟩) ?_)
  simp +decide (maxSteps:=9^9) (disch:=omega) only[↓SB0,SX,seval,hQ]
  all_goals first | rfl | exact ⟨rfl,rfl⟩
 ·
  have d0:decide ((x:Int)=0)=false:=lB (by omega)
  have d1:decide ((x:Int)=1)=false:=lB (by omega)
  have d2:decide ((x:Int)=2)=false:=lB (by omega)
  have d3:decide ((x:Int)=3)=false:=lB (by omega)
  have d4:decide ((x:Int)=4)=false:=lB (by omega)
  have d5:decide ((x:Int)=5)=false:=lB (by omega)
  have d6:decide ((x:Int)=6)=false:=lB (by omega)
  have d7:decide ((x:Int)=7)=false:=lB (by omega)
  have d8:decide ((x:Int)=8)=false:=lB (by omega)
  have d9:decide ((x:Int)=9)=false:=lB (by omega)
  have d10:decide ((x:Int)=10)=false:=lB (by omega)
  obtain ⟨c,i4,h4,hi4,k4⟩:=aaz v b i3 h3 2 hl hi3 (by omega)
  cases c with
  | true=>
   refine ⟨(iZ t p).1,i4,h4,abS hB p,hi4,?_⟩
   unfold cur at *
   refine U bO [(58,[.l,.b],[]),(59,[.l],[]),(101,[.l,.b],[]),(153,[.l,.b],[]),(173,[.l],[]),(96,[.l,.b],[]),(121,[.l],[]),(149,[.l,.b],[])] 8315 [true,false] fun w hP hQ=>?_
   unfold bL
   refine N ?_
   (first | refine aI hP (k1) (.inl ⟨rfl,fun _ hx=>hx⟩) ?_ | refine aF hP (k1) (.inl ⟨rfl,fun _ hx=>hx⟩) ?_)
   refine N ?_
   (first | refine aI hP (k2) (.inl ⟨rfl,fun _ hx=>hx⟩) ?_ | refine aF hP (k2) (.inl ⟨rfl,fun _ hx=>hx⟩) ?_)
   refine N ?_
   (first | refine aI hP (k3) (.inl ⟨rfl,fun _ hx=>hx⟩) ?_ | refine aF hP (k3) (.inl ⟨rfl,fun _ hx=>hx⟩) ?_)
   have hz:=And.intro d0 (And.intro d1 (And.intro d2 (And.intro d3 (And.intro d4 (And.intro d5 (And.intro d6 (And.intro d7 (And.intro d8 (And.intro d9 d10)))))))))
   refine Nz ?_
   (first | refine aI hP (k4) (.inl ⟨rfl,fun _ hx=>hx⟩) ?_ | refine aF hP (k4) (.inl ⟨rfl,fun _ hx=>hx⟩) ?_)
   refine N ?_
   (first | refine aI hP (sW t p (by omega) (by omega)) (.inl ⟨rfl,fun _ hx=>hx⟩) ?_ | refine aF hP (sW t p (by omega) (by omega)) (.inl ⟨rfl,fun _ hx=>hx⟩) ?_)
   simp +decide (maxSteps:=9^9) (disch:=omega) only[↓SB0,SX,seval,hQ]
   all_goals first | rfl | exact ⟨rfl,rfl⟩
  | false=>
   obtain ⟨n,i5,h5,hn,hi5,k5⟩:=afs v b i4 h4 hl hi4
   obtain ⟨y,i6,h6,hy,hi6,k6⟩:=ad7 v b i5 h5 [[120],[],[118,97,108,117,101]] hl hi5 (by simp) (by simp)
   have hy':y.length≤5:=by
    simp only [lF,List.not_mem_nil,or_false] at hy
    rcases hy with rfl | rfl | rfl <;> simp
   simp only [dB,lP,lA2] at k6
   refine ⟨(n7 t p n y).1,i6,h6,adM hB p n y,hi6,?_⟩
   unfold cur at *
   refine U bO [(58,[.l,.b],[]),(59,[.l],[]),(101,[.l,.b],[]),(153,[.l,.b],[]),(173,[.l],[]),(96,[.l,.b],[]),(121,[.l],[]),(149,[.l,.b],[])] 8315 [true,false] fun w hP hQ=>?_
   unfold bL
   refine N ?_
   (first | refine aI hP (k1) (.inl ⟨rfl,fun _ hx=>hx⟩) ?_ | refine aF hP (k1) (.inl ⟨rfl,fun _ hx=>hx⟩) ?_)
   refine N ?_
   (first | refine aI hP (k2) (.inl ⟨rfl,fun _ hx=>hx⟩) ?_ | refine aF hP (k2) (.inl ⟨rfl,fun _ hx=>hx⟩) ?_)
   refine N ?_
   (first | refine aI hP (k3) (.inl ⟨rfl,fun _ hx=>hx⟩) ?_ | refine aF hP (k3) (.inl ⟨rfl,fun _ hx=>hx⟩) ?_)
   have hz:=And.intro d0 (And.intro d1 (And.intro d2 (And.intro d3 (And.intro d4 (And.intro d5 (And.intro d6 (And.intro d7 (And.intro d8 (And.intro d9 d10)))))))))
   refine Nz ?_
   (first | refine aI hP (k4) (.inl ⟨rfl,fun _ hx=>hx⟩) ?_ | refine aF hP (k4) (.inl ⟨rfl,fun _ hx=>hx⟩) ?_)
   refine N ?_
   (first | refine aI hP (k5) (.inl ⟨rfl,fun _ hx=>hx⟩) ?_ | refine aF hP (k5) (.inl ⟨rfl,fun _ hx=>hx⟩) ?_)
   refine N ?_
   (first | refine aI hP (k6) (.inl ⟨rfl,fun _ hx=>hx⟩) ?_ | refine aF hP (k6) (.inl ⟨rfl,fun _ hx=>hx⟩) ?_)
   refine N ?_
   (first | refine aI hP (yY t p n y (by omega) (by omega) (by omega) (by omega)) (.inl ⟨rfl,fun _ hx=>hx⟩) ?_ | refine aF hP (yY t p n y (by omega) (by omega) (by omega) (by omega)) (.inl ⟨rfl,fun _ hx=>hx⟩) ?_)
   simp +decide (maxSteps:=9^9) (disch:=omega) only[↓SB0,SX,seval,hQ]
   all_goals first | rfl | exact ⟨rfl,rfl⟩
theorem aju:bJ tab1=true:=by decide
theorem aoi (v:Value) (b:aA) (i:Nat) (h n:Int) (hl:b.length<2^48) (hi:i≤b.length) (hn:0≤n∧n<1000):∃ (t':Tab) (i':Nat) (h':Int),bJ t'=true∧i'≤b.length ∧
  bC Tryz.prog 57 [cur v b i h,.int .i64 n] t'.o [cur v b i' h',.undef]:=by
 obtain ⟨x,i1,h1,hx,hi1,k1⟩:=i9 v b i h (n+4) hl hi (by omega)
 have hx2:x≤2000:=by rw [wS,lG (by omega)] at hx; omega
 have key:∃ ret outs,(∃ (t':Tab) (i':Nat) (h':Int),bJ t'=true∧i'≤b.length∧ret=t'.o∧outs=[cur v b i' h',.undef])∧bC Tryz.prog 57 [cur v b i h,.int .i64 n] ret outs:=by
  unfold cur at *
  refine mD hmx af5 [(101,[.l,.b],[]),(119,[.l,.b],[])] 115 rfl [true,false] ⟨lO1 rfl,lO1 rfl⟩ rfl ?_
  intro w hP hQ
  unfold xJ
  refine N ?_
  (first | refine aI hP (aci) (.inl ⟨rfl,fun _ hx=>hx⟩) ?_ | refine aF hP (aci) (.inl ⟨rfl,fun _ hx=>hx⟩) ?_)
  refine N ?_
  (first | refine aI hP (k1) (.inl ⟨rfl,fun _ hx=>hx⟩) ?_ | refine aF hP (k1) (.inl ⟨rfl,fun _ hx=>hx⟩) ?_)
  refine N ?_
  refine fH [] ?_
  refine N ?_
  refine aT [] (fun s:Nat × Tab × Nat × Int=>[(1000,.box [.extv v 1 (aO b),.int .i64 (s.2.2.1:Nat),.int .i64 s.2.2.2]),(5005,.box [.own 6 (s.2.1.inodes.map Inode.row),.int .i64 s.2.1.next]),(6,.int .i64 (s.1:Nat))]) (fun s=>bJ s.2.1=true∧s.2.2.1≤b.length∧s.1≤2000) (fun s=>s.1) ((x,tab1,i1,h1)) hP hQ (rfl) (⟨aju,hi1,by simp only; omega⟩) ?_
  rintro ⟨m,t,j,g⟩ ⟨ht,hj,hm⟩ w1 hP1 hQ1
  refine N1 ?_
  simp only at ht hj hm
  (first | with_reducible refine cQ _ ?_ ?_ | refine cR _ ?_ ?_) <;> intro g1
  ·obtain ⟨t2,j1,g2,ht2,hj1,k2⟩:=agS v b j g t hl hj ht
   unfold cur at k2
   have e3:((m:Nat):Int)-1=((m-1:Nat):Int):=by omega
   have e4:=yK (n:=m-1) (by omega)
   refine N1 ?_
   (first | refine aI hP1 (k2) (.inl ⟨rfl,fun _ hx=>hx⟩) ?_ | refine aF hP1 (k2) (.inl ⟨rfl,fun _ hx=>hx⟩) ?_)
   have hz:=And.intro e3 e4
   refine Nz1 ?_
   exact ⟨(m-1,t2,j1,g2),rfl,⟨ht2,hj1,by simp only; omega⟩,by simp only; omega⟩
  ·refine N1 ?_
   exact ⟨t,j,g,ht,hj,rfl,rfl⟩
 obtain ⟨_,_,⟨t',i',h',ht',hi',rfl,rfl⟩,hS⟩:=key
 exact ⟨t',i',h',ht',hi',hS⟩
theorem aoj {P:Program} {f:FuncId} {s:Nat} {es:List (List TV)} {xs outs:List AV} {ret:AV} {v:Value} (h:bC P f (.ext s es::xs) ret outs):bC P f (.extv v s es::xs) ret outs:=by
 refine ⟨h.1,h.2.1,?_⟩
 intro w vs F X r
 cases r with
 | extv _ _ X1 X2 _ _ _ vs _ h1 hr hX=>exact h.2.2 w _ F X (.ext _ _ X1 X2 _ _ _ _ _ h1 hr hX)
theorem aok (t:Tab) (h:t.sz<2^40):bC Tryz.prog 20 [t.x,t.x] (.bool true) [.undef,.undef]:=by
 have:=agK t t h h
 rwa [lE rfl] at this
theorem Shp.nil_inv {ts:List TV} (h:Shp [] ts):ts=[]:=by cases h; rfl
theorem Shp.sl_inv {s:Nat} {e ys:List Ty} {ts:List TV} (h:Shp (.sl s e::ys) ts):∃ es us,ts=.sl s es::us∧es.length≤2^47∧(∀ r ∈ es,Shp e r)∧Shp ys us:=by
 cases h with | sl _ _ es _ us hl he h=>exact ⟨es,us,rfl,hl,he,h⟩
theorem agT {α:Type} {sh:List Ty} {row:α→List TV} {good:α→Prop} (H:∀ ts,Shp sh ts→∃ x,ts=row x∧good x):∀ {es:List (List TV)},(∀ r ∈ es,Shp sh r)→∃ l:List α,es=l.map row∧∀ x ∈ l,good x:=by
 intro es
 induction es with
 | nil=>intro _; exact ⟨[],rfl,by simp⟩
 | cons r es ih=>
  intro h
  obtain ⟨x,rfl,hx⟩:=H r (h r (by simp))
  obtain ⟨l,rfl,hl⟩:=ih fun r hr=>h r (by simp [hr])
  exact ⟨x::l,rfl,fun y hy=>by rcases lF.1 hy with rfl | hy; exact hx; exact hl y hy⟩
theorem agU (ts:List TV) (h:Shp [.int .u8] ts):∃ x:UInt8,ts=aiA x∧True:=by
 cases h with
 | int _ n _ us hn h=>
  cases h
  obtain ⟨h1,h2⟩:=bounds_u8 hn
  refine ⟨UInt8.ofNat n.toNat,?_,trivial⟩
  have:(UInt8.ofNat n.toNat).toNat=n.toNat:=by simp; omega
  simp only [aiA,this]
  congr 2
  omega
theorem ani {es:List (List TV)} (h:∀ r ∈ es,Shp [.int .u8] r):∃ b:aA,es=aO b:=by
 obtain ⟨l,rfl,_⟩:=agT agU h
 exact ⟨l,rfl⟩
theorem aoy {b:aA} (h:(aO b).length≤2^47):b.length<2^48:=lI4 (by simpa [aO] using h) (by decide)
section
open Go.Proofs Go.Proofs.YtnfngemnghiehaaGreatDoor
theorem own:ownKnob Tryz.prog.godebug=none:=by kernel_rfl
def alL:List Char:=['a','t',Char.ofNat 32,'l','o','o','p',Char.ofNat 46,'e','x','a','m','p','l','e',Char.ofNat 47,'g','0','0','2','8','5',Char.ofNat 47,'l','a','w','s',Char.ofNat 46,'F','n','R','o','o','t','S','t','a','y','s',Char.ofNat 32,'l','o','o','p',Char.ofNat 46,'e','x','a','m','p','l','e',Char.ofNat 47,'g','0','0','2','8','5',Char.ofNat 47]++['l','a','w','s',Char.ofNat 46,'F','n','U','n','l','i','n','k','e','d',Char.ofNat 32,'l','o','o','p',Char.ofNat 46,'e','x','a','m','p','l','e',Char.ofNat 47,'g','0','0','2','8','5',Char.ofNat 47,'l','a','w','s',Char.ofNat 46,'F','n','R','e','m','o','v','e','d',Char.ofNat 32,'l','o','o','p',Char.ofNat 46,'e','x','a','m']++['p','l','e',Char.ofNat 47,'g','0','0','2','8','5',Char.ofNat 47,'l','a','w','s',Char.ofNat 46,'F','n','M','a','d','e',Char.ofNat 32,'l','o','o','p',Char.ofNat 46,'e','x','a','m','p','l','e',Char.ofNat 47,'g','0','0','2','8','5',Char.ofNat 47,'l','a','w','s',Char.ofNat 46,'F','n','D','i','r','s',Char.ofNat 32,'l','o','o','p',Char.ofNat 46]++['e','x','a','m','p','l','e',Char.ofNat 47,'g','0','0','2','8','5',Char.ofNat 47,'l','a','w','s',Char.ofNat 46,'F','n','L','i','n','k','e','d',Char.ofNat 32,'l','o','o','p',Char.ofNat 46,'e','x','a','m','p','l','e',Char.ofNat 47,'g','0','0','2','8','5',Char.ofNat 47,'l','a','w','s',Char.ofNat 46,'F','n','M','o','v','e']++['d',Char.ofNat 32,'l','o','o','p',Char.ofNat 46,'e','x','a','m','p','l','e',Char.ofNat 47,'g','0','0','2','8','5',Char.ofNat 47,'l','a','w','s',Char.ofNat 46,'F','n','T','r','e','e','s','B','e','n','t',Char.ofNat 32,'l','o','o','p',Char.ofNat 46,'e','x','a','m','p','l','e',Char.ofNat 47,'g','0','0','2','8','5',Char.ofNat 47,'l']++['a','w','s',Char.ofNat 46,'F','n','E','x','a','c','t','R','e','n','a','m','e']
def aoz:List Char:=['a','4','7','1','4','6','3','1','9','8','d','f','c','c','e','f','d','4','5','4','9','d','2','c','a','3','d','e','a','3','3','c','e','4','0','2','4','f','0','c','a','8','3','1','b','6','3','c','a','5','0','6','e','7','3','6','f','4','7','1','d','e','2','5']
theorem alM:Tryz.prog.initOrder=String.ofList (['h','a','r','n','e','s','s']++(Char.ofNat 32::aoz)++[Char.ofNat 32,'c','u','t',Char.ofNat 32]++alL):=by kernel_rfl
theorem ad9:∃ r,behindMainWord (wordsSigns Tryz.prog.initOrder.toList)=['c','u','t']::r:=by
 rw [alM,String.toList_ofList]
 exact ⟨wordsSigns alL,by kernel_rfl⟩
theorem anj {P:Program} {l:List Char} (h:P.initOrder=String.ofList l):P.mainIs=(match wordsSigns l with
 | h::s::_=>if !isSumSigns s then none else if h == "harness".toList then some (true,s) else if h == "ownmain".toList then some (false,s) else none
 | _=>none):=by
 unfold Program.mainIs
 rw [h,String.toList_ofList]
 rfl
theorem aoK:Tryz.prog.mainIs=some (((true, "a471463198dfccefd4549d2ca3dea33ce4024f0ca831b63ca506e736f471de25"):Bool × String).1,((true, "a471463198dfccefd4549d2ca3dea33ce4024f0ca831b63ca506e736f471de25"):Bool × String).2.toList):=(anj alM).trans (by kernel_rfl)
theorem aoA:false=Tryz.prog.looks []:=by kernel_rfl
theorem aoL:(laidOutB Tryz.prog)=true:=by kernel_rfl
theorem aoM:(mapsRowed Tryz.prog)=true:=by kernel_rfl
theorem aoB:((Tryz.prog.stops == []))=true:=by kernel_rfl
theorem aoC:((Tryz.prog.stopKnobs == []))=true:=by kernel_rfl
theorem aoD:(Tryz.prog.stopsHeard)=true:=by kernel_rfl
theorem aoE:(Tryz.prog.mayEnter)=true:=by
 obtain ⟨r,hr⟩:=ad9
 exact akB hr (by kernel_rfl) (by kernel_rfl) (by kernel_rfl)
theorem aoF:(false == Tryz.prog.liftsFinal)=true:=by
 obtain ⟨r,hr⟩:=ad9
 rw [akC hr]
 rfl
theorem aoN:(Tryz.prog.make == some .cut)=true:=by
 obtain ⟨r,hr⟩:=ad9
 rw [amC hr]
 rfl
end
end Go.Proofs.YtnfngemnghiehaaGreatDoor.Awp
