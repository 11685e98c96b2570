/- Contracts of functions that the laws on trees reach are proved here (part 2). Condition: none. -/
import Derived.Test.YtnfeefcnblondaaGreatBase1
import Derived.Test.YtnfeefcnblondaaGreatAwp4
import Derived.Test.YtnfeefcnblondaaGreatRows
import Derived.Sort.Walk0
import Derived.Shelf.Strings.Search3
import Derived.Shelf.Strings.Count
import Derived.Shelf.Strings.OnBuilder
import Derived.Shelf.Lays
import Derived.Shelf.Sort.Plain
import Derived.Shelf.Slices.In.SortNone
import Derived.Shelf.RegionOpenPlain
import Derived.WalkKit
import Derived.Deep.MidRow
import Derived.Deep.LoopGhost
import Derived.Deep.RegionLaw
import Derived.Lib.Walk
import Derived.Sort.WalkB12
import Derived.OpenShut
import Derived.KernelRfl
set_option linter.unusedVariables false
set_option linter.unusedSimpArgs false
set_option maxRecDepth 100000
set_option maxHeartbeats 20000000
open Nat (reduceEqDiff reduceAdd reduceMul reduceSub)
open Int (reduceNeg reduceToNat reducePow)
namespace Go.Proofs.YtnfeefcnblondaaGreat.Awp
theorem aid (t:Tab) (l:List aA) (h:t.sz<2^40) (hl:l.length<2^40):bR Tryz.prog 193 [t.x,.ext 1 (l.map mM)] (.tup [.int .i64 (mF t l 1).1,.int .i64 (mF t l 1).2]) [.undef,.undef]:=by
 obtain ⟨t1,t2⟩:=eS h
 refine Vw aeY [] 503 [] fun w hP hQ=>?_
 refine iV [4,5,8] ?_
 refine N ?_
 refine bG [4,5,8] (fun x:Nat × Int=>[(6,.int .i64 x.2),(7,.int .i64 (x.1:Nat))]) (fun x=>x.1≤l.length∧mF t (l.drop x.1) x.2=mF t l 1) (fun x=>l.length-x.1) ((0,1)) hP hQ (rfl) (⟨lM3 _,rfl⟩) ?_
 rintro ⟨i,a⟩ ⟨hi,hw⟩ w1 hP1 hQ1
 refine N1 ?_
 simp only at hi hw
 refine Jf (fun g=>?_) fun g=>?_
 ·have hlt:i<l.length:=by omega
  have hA:=o7 t a (by omega)
  cases hx:cM t a with
  | none=>
   rw [hx] at hA
   rw [akq hlt (aay hx)] at hw
   refine N1 ?_
   have hz:=hw.symm
   exact Kz1 (hA) trivial
  | some k=>
   have hk1:=vX hx
   have hx':=sD hx
   rw [hx,show uL (some k)=(k:Int) from rfl] at hA
   have hE:=adE (t.inodes[k]) l[i] (t2 _ (lQ hk1))
   have hz:decide (((k:Nat):Int)<0)=false:=lC (by omega)
   have hg:((k:Nat):Int)<(t.inodes.length:Nat):=by omega
   by_cases hk:(t.inodes[k]).kind=2
   ·have hk':decide ((t.inodes[k]).kind=2)=true:=lM hk
    by_cases he:bC (t.inodes[k]) l[i]=0
    ·rw [afo hlt hx' hk he] at hw
     rw [he] at hE
     refine N1 ?_
     (first|refine cI hP1 (hA) rfl rfl ?_|refine cH hP1 (hA) rfl rfl ?_)
     simp +decide (maxSteps:=9^9) (disch:=omega) only[↓SB0,SX,seval,hQ,hQ1,hz,bW hg,hk',bW g,mM]
     have hz:=hw.symm
     exact Kz1 (hE) trivial
    ·rw [afm hlt hx' hk he] at hw
     have he':decide (bC (t.inodes[k]) l[i]=0)=false:=lC he
     refine N1 ?_
     (first|refine cI hP1 (hA) rfl rfl ?_|refine cH hP1 (hA) rfl rfl ?_)
     simp +decide (maxSteps:=9^9) (disch:=omega) only[↓SB0,SX,seval,hQ,hQ1,hz,bW hg,hk',bW g,mM]
     have hz:=he'
     refine Kz1 (hE) ?_
     exact ⟨(i+1,_),rfl,⟨by simp only; omega,hw⟩,by simp only; omega⟩
   ·have hk':decide ((t.inodes[k]).kind=2)=false:=lC hk
    rw [afn hlt hx' hk] at hw
    refine N1 ?_
    have hz:=And.intro hz (And.intro (bW hg) (And.intro hk' hw.symm))
    exact Kz1 (hA) trivial
 ·obtain rfl:i=l.length:=by omega
  rw [List.drop_length,mF] at hw
  have hz:=hw.symm
  exact Nz1 trivial
theorem acq (t:Tab) (s:aA) (h:t.sz<2^40) (hs:s.length<2^40):bR Tryz.prog 180 [t.x,.str s] (.tup [.int .i64 (rK t s).1,.int .i64 (rK t s).2]) [.undef,.undef]:=by
 have hS:=dK s hs
 have hf:=qA s
 unfold rK
 generalize aB s=y at *
 obtain ⟨l,b⟩:=y
 simp only at *
 cases b with
 | false=>
  rw [lK (by simp)]
  refine Vw adh [] 247 [] fun w hP hQ=>?_
  exact K (hS) trivial
 | true=>
  rw [lF rfl]
  refine Vw adh [] 247 [] fun w hP hQ=>?_
  refine K (hS) ?_
  exact K (aid t l h (by omega)) trivial
theorem aie {t:Tab} {s:aA} (hc:(rK t s).2≠0):cT t s=.error (rK t s).2:=by rw [cT,lK hc]
theorem aif {t:Tab} {s:aA} (hc:(rK t s).2=0) (hx:aC t (rK t s).1=none):cT t s=.error 2:=by rw [cT,lF hc,hx]
theorem aig {t:Tab} {s:aA} {x:Inode} (hc:(rK t s).2=0) (hx:aC t (rK t s).1=some x):cT t s=.ok x:=by rw [cT,lF hc,hx]
theorem rC (t:Tab) (s:aA) (h:t.sz<2^40) (hs:s.length<2^40):bR Tryz.prog 177 [t.x,.str s] (.tup [(exI (cT t s)).o,.int .i64 (exC (cT t s))]) [.undef,.undef]:=by
 have hW:=acq t s h hs
 have hA:=rB t (rK t s).1 h
 by_cases hc:(rK t s).2=0
 ·have hc':decide ((rK t s).2=0)=true:=lM hc
  cases hx:aC t (rK t s).1 with
  | none=>
   rw [hx] at hA
   rw [aif hc hx]
   refine Vw xE [] 1015 [] fun w hP hQ=>?_
   have hz:=hc'
   refine Kz (hW) ?_
   refine K (hA) ?_
   rfl
  | some x=>
   rw [amj,hx] at hA
   rw [aig hc hx]
   refine Vw xE [] 1015 [] fun w hP hQ=>?_
   have hz:=hc'
   refine Kz (hW) ?_
   (first|refine cI hP (hA) rfl rfl ?_|refine cH hP (hA) rfl rfl ?_)
   simp +decide (maxSteps:=9^9) (disch:=omega) only[↓SB0,SX,seval,hQ,lF1]
   rfl
 ·have hc':decide ((rK t s).2=0)=false:=lC hc
  rw [aie hc]
  refine Vw xE [] 1015 [] fun w hP hQ=>?_
  have hz:=hc'
  refine Kz (hW) ?_
  rfl
theorem qD (t:Tab) (s:aA) (h:t.sz<2^40) (hs:s.length<2^40):bR Tryz.prog 172 [t.x,.str s] (.tup [(exI (mK t s)).o,.int .i64 (exC (mK t s))]) [.undef,.undef]:=by
 have hS:=rC t s h hs
 unfold mK
 cases e:cT t s with
 | error c=>
  have hc:decide (c=0)=false:=lC (nR e)
  rw [e] at hS
  simp only [exI,exC] at hS ⊢
  refine Vw qU [] 247 [] fun w hP hQ=>?_
  have hz:=hc
  exact Kz (hS) trivial
 | ok x=>
  rw [e] at hS
  simp only [exI,exC] at hS ⊢
  by_cases hk:x.kind=1
  ·have hk':decide (x.kind=1)=true:=lM hk
   simp only [lF hk]
   refine Vw qU [] 247 [] fun w hP hQ=>?_
   have hz:=hk'
   exact Kz (hS) trivial
  ·have hk':decide (x.kind=1)=false:=lC hk
   simp only [lK hk]
   refine Vw qU [] 247 [] fun w hP hQ=>?_
   have hz:=hk'
   refine Kz (hS) ?_
   rfl
def exN (e:Rs Inode) (n:aA):aA:=match e with
 | .ok _=>n
 | .error _=>[]
theorem gD (s:aA):(aJ s).1.length≤450∧(aU s).length≤14:=by
 unfold aU aJ
 split
 ·rename_i h
  refine ⟨?_,vU (s:=s) _ ?_⟩
  ·show (cO (aB s).1.dropLast).length≤450
   have:=mR (pT h.1).1
   rw [cO,lF this]
   split
   ·simp
   ·exact aar this
  ·show (aB s).1.getLastD [] ∈ _
   rw [List.getLastD_eq_getLast?,List.getLast?_eq_some_getLast h.2]
   exact List.getLast_mem h.2
 ·simp
theorem akr {l:List Ent} {i:Nat} (h:i<l.length) (n:aA):c8 (l.take (i+1)) n=c8 (l.take i) n++(if l[i].name=n then [] else [l[i]]):=by
 unfold c8 ahH
 rw [lS h,lL3]
 congr 1
 by_cases e:l[i].name=n <;> simp [e]
theorem aks (l:List Ent) (n:aA) (hl:l.length<2^40):bR Tryz.prog 191 [.ext 2 (l.map Ent.row),.str n] (.own 2 ((c8 l n).map Ent.row)) [.undef,.undef]:=by
 refine Vw ahv [] 115 [] fun w hP hQ=>?_
 refine iV [] ?_
 refine N ?_
 refine bG [] (fun i:Nat=>[(5,.own 2 ((c8 (l.take i) n).map Ent.row)),(6,.int .i64 i)]) (fun i=>i≤l.length) (fun i=>l.length-i) (0) hP hQ (rfl) (by simp) ?_
 rintro i hi w1 hP1 hQ1
 refine N1 ?_
 have hc:(c8 (l.take i) n).length≤l.length:=lU3 (lL2 _ _) (by simp; omega)
 refine Jf (fun g=>?_) fun g=>?_
 ·have ht:=akr (l:=l) (i:=i) (by omega) n
  have hz:=(bW g)
  refine Nz1 ?_
  refine Jf (fun e=>?_) fun e=>?_
  ·rw [lF e,lU2] at ht
   refine N1 ?_
   exact ⟨i+1,by rw [ht]; rfl,by omega,by omega⟩
  ·rw [lK e] at ht
   have hb:((c8 (l.take i) n).length+1)*24≤140737488355328:=by omega
   have hz:=And.intro (bW g) hb
   refine Nz1 ?_
   exact ⟨i+1,by rw [ht,lO2]; rfl,by omega,by omega⟩
 ·obtain rfl:i=l.length:=by omega
  simp +decide (maxSteps:=9^9) (disch:=omega) only[↓SB0,SX,seval,hQ,hQ1,lE2]
theorem adF {α β:Type} (f:α→β) (l:List α) (i:Nat) (h:i<l.length):(l.take (i+1)).map f=(l.take i).map f++[f l[i]]:=by
 rw [lS h,lO2]; rfl
def tab1:Tab:={ inodes:=[{ ino:=1,kind:=2,links:=0,data:=[],ents:=[],attrs:=[] }],next:=2 }
theorem bJ:bR Tryz.prog 79 [] tab1.o []:=by
 refine Vw aeK [] 1 [] fun w hP hQ=>?_
 rfl
theorem dV (t:Tab) (h:t.sz<2^40):bR Tryz.prog 104 [t.x] t.o [.undef]:=by
 obtain ⟨h1,h2⟩:=eS h
 refine Vw aeR [] 31 [] fun w hP hQ=>?_
 refine iV [] ?_
 refine N ?_
 refine bG [] (fun i:Nat=>[(4,.int .i64 i),(5003,.box [.own 6 ((t.inodes.take i).map Inode.row),.int .i64 t.next])]) (fun i=>i≤t.inodes.length) (fun i=>t.inodes.length-i) (0) hP hQ (rfl) (by simp) ?_
 rintro i hi w1 hP1 hQ1
 refine N1 ?_
 refine Jf (fun h3=>?_) fun h3=>?_
 ·have ht:(t.inodes.take i).length=i:=by simp; omega
  have hz:=And.intro (bW h3) ht
  refine Nz1 ?_
  have hz:=ht
  refine Kz1 (j8 (t.inodes[i]'(by omega)) (h2 _ (lQ _))) ?_
  exact ⟨i+1,by simp only [adF _ _ _ (show i<t.inodes.length by omega)]; rfl,by omega,by omega⟩
 ·obtain rfl:i=t.inodes.length:=by omega
  simp +decide (maxSteps:=9^9) (disch:=omega) only[↓SB0,SX,seval,hQ,hQ1,lE2]
theorem afp {f:Fs} {n:Nat} (h:f.sz<n):f.vols.length<n∧∀ x ∈ f.vols,x.t.sz<n:=by
 have h':szM Vol.sz f.vols<n:=h
 refine ⟨by simp only [szM] at h'; omega,fun x hx=>?_⟩
 have:=qV (f:=Vol.sz) hx
 exact (aib (by simp only [szM] at h'; omega)).2
theorem aT (t:Fs) (h:t.sz<2^40):bR Tryz.prog 64 [t.x] t.o [.undef]:=by
 obtain ⟨h1,h2⟩:=afp h
 refine Vw aeI [] 63 [] fun w hP hQ=>?_
 refine iV [5,5005] ?_
 refine N ?_
 refine bG [5,5005] (fun i:Nat=>[(4,.int .i64 i),(5003,.box [.own 6 ((t.vols.take i).map Vol.row),.int .i64 t.next])]) (fun i=>i≤t.vols.length) (fun i=>t.vols.length-i) (0) hP hQ (rfl) (by simp) ?_
 rintro i hi w1 hP1 hQ1
 refine N1 ?_
 refine Jf (fun h3=>?_) fun h3=>?_
 ·have ht:(t.vols.take i).length=i:=by simp; omega
  have hz:=And.intro (bW h3) ht
  refine Nz1 ?_
  have hz:=ht
  refine Kz1 (dV (t.vols[i]'(by omega)).t (h2 _ (lQ _))) ?_
  exact ⟨i+1,by simp only [adF _ _ _ (show i<t.vols.length by omega)]; rfl,by omega,by omega⟩
 ·obtain rfl:i=t.vols.length:=by omega
  simp +decide (maxSteps:=9^9) (disch:=omega) only[↓SB0,SX,seval,hQ,hQ1,lE2]
section
structure Kept' {α:Type} (s:Nat) (row:α→List TV) (p:α→Bool) (l:List α) (i j:Nat) (R:List (List TV)):Prop where
 lt:i<j
 le:j≤l.length
 len:R.length=l.length
 low:R.take i=((l.take j).filter fun x=>!p x).map row
 num:((l.take j).filter fun x=>!p x).length=i
 high:R.drop j=(l.drop j).map row
 wid:∀ x ∈ R,x.length=s
section
variable {α:Type} {s:Nat} {row:α→List TV} {p:α→Bool} {l:List α} {i j:Nat} {R:List (List TV)}
theorem afq {q:α→Bool} {l:List α} (h:∀ x ∈ l,q x=false):(l.filter fun x=>!q x)=l:=List.filter_eq_self.2 fun x hx=>by simp [h x hx]
theorem Kept'.start {k:Nat} (hr:∀ a,(row a).length=s) (h:l.findIdx? p=some k):Kept' s row p l k (k+1) (l.map row):=by
 obtain ⟨h1,h2,h3⟩:=lM2.1 h
 have e:(l.take (k+1)).filter (fun x=>!p x)=l.take k:=by
  rw [lS h1,lL3,afq fun x hx=>by
   obtain ⟨j,hj,rfl⟩:=lU1 hx
   rw [List.getElem_take]
   have:=h3 j (by simp at hj; omega)
   simpa using this]
  simp [h2]
 exact ⟨by omega,by omega,by simp,by rw [e,lD4],by rw [e]; simp; omega,by rw [lQ4],fun x hx=>by obtain ⟨a,_,rfl⟩:=lX1.1 hx; exact hr a⟩
theorem Kept'.at (h:Kept' s row p l i j R) (hj:j<l.length):R[j]?=some (row l[j]):=by
 have:=congrArg (fun x=>x[0]?) h.high
 simp only [lY1,lQ3,lL1] at this
 rw [this,lH hj]; rfl
theorem Kept'.skip (h:Kept' s row p l i j R) (hj:j<l.length) (hp:p l[j]=true):Kept' s row p l i (j+1) R:=by
 obtain ⟨a1,a2,a3,a4,a5,a6,a7⟩:=h
 have e:(l.take (j+1)).filter (fun x=>!p x)=(l.take j).filter fun x=>!p x:=by
  rw [lS hj,lL3]; simp [hp]
 refine ⟨by omega,by omega,a3,by rw [e,a4],by rw [e,a5],?_,a7⟩
 rw [← lW1,a6,← lQ4,lW1]
theorem Kept'.keep (h:Kept' s row p l i j R) (hj:j<l.length) (hp:p l[j]=false) {R':List (List TV)} (hl:R'.length=l.length) (hw:∀ x ∈ R',x.length=s) (h1:R'.take i=R.take i) (h2:R'.drop (j+1)=R.drop (j+1)) {f:List TV→List TV} (hf:∀ x,x.length=s→f x=row l[j]) (hr:(row l[j]).length=s) :
  Kept' s row p l (i+1) (j+1) (R'.modify i f):=by
 obtain ⟨a1,a2,a3,a4,a5,a6,a7⟩:=h
 have e:(l.take (j+1)).filter (fun x=>!p x)=(l.take j).filter (fun x=>!p x)++[l[j]]:=by
  rw [lS hj,lL3]; simp [hp]
 have hi:i<R'.length:=by omega
 refine ⟨by omega,by omega,by simp [hl],?_,by rw [e]; simp; omega,?_,fun x hx=>?_⟩
 ·rw [e,lO2,← a4,← h1,lS (by simpa using hi),List.getElem_modify_eq,hf _ (hw _ (lQ _))]
  congr 1
  apply lI2
  intro m
  rw [lJ1,lJ1,lO1]
  split
  ·rename_i hm
   have hm':i≠m:=by omega
   simp [hm']
  ·rfl
 ·have e2:(R'.modify i f).drop (j+1)=R'.drop (j+1):=by
   apply lI2
   intro m
   have hm':i≠j+1+m:=by omega
   rw [lY1,lY1,lO1]
   simp [hm']
  rw [e2,h2,← lW1,a6,← lQ4,lW1]
 ·obtain ⟨m,hm,rfl⟩:=lU1 hx
  rw [lB4]
  split
  ·rw [hf _ (hw _ (lQ _))]; exact hr
  ·exact hw _ (lQ _)
end
theorem acr {α:Type} (q:α→Bool) {l:List α} {i:Nat} (h:i<l.length):(l.take (i+1)).filter q=(l.take i).filter q++if q l[i]=true then [l[i]] else []:=by
 rw [lS h,lL3]
 cases e:q l[i] <;> simp [e]
theorem rN (t:Tab) (n:Int) (h:t.sz<2^40):bR Tryz.prog 176 [t.x,.int .i64 n] (jJ t n).o [.undef,.undef]:=by
 obtain ⟨h1,h2⟩:=eS h
 refine Vw xD [] 119 [] fun w hP hQ=>?_
 refine iV [] ?_
 refine N ?_
 refine bG [] (fun i:Nat=>[(5005,.box [.own 6 (((t.inodes.take i).filter fun x=>decide (x.ino≠n)).map Inode.row),.int .i64 t.next]),(6,.int .i64 i)]) (fun i=>i≤t.inodes.length) (fun i=>t.inodes.length-i) (0) hP hQ (rfl) (by simp) ?_
 rintro i hi w1 hP1 hQ1
 refine N1 ?_
 have hc:((t.inodes.take i).filter fun x=>decide (x.ino≠n)).length≤t.inodes.length:=lU3 (lL2 _ _) (by simp; omega)
 refine Jf (fun g=>?_) fun g=>?_
 ·have hlt:i<t.inodes.length:=by omega
  have ht:=acr (fun x:Inode=>decide (x.ino≠n)) hlt
  have hz:=(bW g)
  refine Nz1 ?_
  refine Jf (fun e=>?_) fun e=>?_
  ·rw [lK (by simp [e]),lU2] at ht
   refine N1 ?_
   exact ⟨i+1,by rw [ht]; rfl,by omega,by omega⟩
  ·rw [lF (by simpa using e)] at ht
   have hb:(((t.inodes.take i).filter fun x=>decide (x.ino≠n)).length+1)*96≤140737488355328:=by omega
   have hz:=(bW g)
   refine Nz1 ?_
   have hz:=hb
   refine Kz1 (j8 (t.inodes[i]) (h2 _ (lQ hlt))) ?_
   exact ⟨i+1,by rw [ht,lO2]; rfl,by omega,by omega⟩
 ·obtain rfl:i=t.inodes.length:=by omega
  simp +decide (maxSteps:=9^9) (disch:=omega) only[↓SB0,SX,seval,hQ,hQ1,lE2]
  try rfl
theorem uC {α β:Type} (f:α→β) (l:List α) (k:Nat) (x:α) (g:β→β) (hg:∀ y,l[k]?=some y→g (f y)=f x):(l.map f).modify k g=(l.set k x).map f:=by
 apply lI2
 intro j
 rw [lO1,lL1,lL1,lR3]
 by_cases e:k=j
 ·subst e
  by_cases hk:k<l.length
  ·simp [hk,hg _ (lH hk)]
  ·simp [hk]
 ·simp [e]
theorem bK (t:Tab) (x:Inode) {k:Nat} (h:t.sz<2^40) (hx:x.sz<2^40) (hu:UpI t.inodes) (hk:cM t x.ino=some k):bR Tryz.prog 173 [t.x,x.x] (aF t x).o [.undef,.undef]:=by
 obtain ⟨h1,h2⟩:=eS h
 have hlt:=vX hk
 have hPl:=o7 t x.ino (by omega)
 rw [hk,show uL (some k)=(k:Int) from rfl] at hPl
 have e:aF t x={ inodes:=t.inodes.set k x,next:=t.next }:=by rw [aF,afg hu hk]
 have hz:decide ((0:Int)≤(k:Nat))=true:=lM (by omega)
 have hg:((k:Nat):Int)<(t.inodes.length:Nat):=by omega
 rw [e]
 refine Vw rH [] 255 [] fun w hP hQ=>?_
 refine K (dV t h) ?_
 have hz:=And.intro hz hg
 refine Kz (hPl) ?_
 have hz:=And.intro hz hg
 refine Kz (j8 x hx) ?_
 rw [uC Inode.row t.inodes k x _ fun y _=>rfl]
 try rfl
end
theorem uD (D:Inode) (n:aA):(cD D n).sz≤D.sz:=by
 have h1:(c8 D.ents n).length≤D.ents.length:=lL2 _ _
 have h2:=vR Ent.sz (fun e:Ent=>decide (e.name≠n)) D.ents
 show D.data.length+((c8 D.ents n).length+((c8 D.ents n).map Ent.sz).sum)+szM Attr.sz D.attrs≤D.data.length+(D.ents.length+(D.ents.map Ent.sz).sum)+szM Attr.sz D.attrs
 have h3:((c8 D.ents n).map Ent.sz).sum≤(D.ents.map Ent.sz).sum:=h2
 omega
theorem oN {t:Tab} {i:Int} {x:Inode} (h:aC t i=some x):∃ k,cM t i=some k:=by
 cases e:cM t i with
 | none=>rw [aay e] at h; cases h
 | some k=>exact ⟨k,rfl⟩
theorem uE (t:Tab) (s:aA) {D:Inode} (h:t.sz<2^40) (hs:s.length<2^40) (hu:UpI t.inodes) (hD:fL t s=.ok D):bR Tryz.prog 175 [t.x,.str s] (aF t (cD D (aU s))).o [.undef,.undef]:=by
 have hPa:=fH s hs
 have hS:=rC t (aJ s).1 h (by have:=(gD s).1; omega)
 have hst:=(iR hD).1
 have hat:=(aQ hst).2
 obtain ⟨k,hk⟩:=oN hat
 have hz:=aaB h hat
 have hC:=aks D.ents (aU s) (jC hz).2.1
 have hI:=bK t (cD D (aU s)) h (lI4 (uD D _) hz) hu hk
 rw [hst] at hS
 simp only [exI,exC] at hS
 unfold aU at *
 refine Vw aeW [] 375 [] fun w hP hQ=>?_
 refine K (hPa) ?_
 refine K (hS) ?_
 refine K (hC) ?_
 exact K (hI) trivial
theorem gY {t:Tab} (h:bF t=true):UpI t.inodes:=((aS t).1 h).tab.up
theorem aih {t:Tab} {s:aA} {X:Inode} (hB:bF t=true) (hs:jA s=true) (hX:mK t s=.ok X):∃ D kD kX,fL t s=.ok D∧D.ino≠X.ino∧cM t D.ino=some kD∧cM (aF t (cD D (aU s))) X.ino=some kX∧1≤X.links∧X.links≤1000:=by
 have ht:=(aS t).1 hB
 obtain ⟨f1,f2⟩:=dE hX
 obtain ⟨D,d1,d2,_⟩:=tZ ht hs f1
 have a1:=(aQ f1).2
 have a2:=(aQ (iR d1).1).2
 have hne:D.ino≠X.ino:=by
  intro e
  rw [e,a1] at a2
  injection a2 with a2
  have:=(iR d1).2
  rw [← a2] at this; omega
 obtain ⟨kD,h1⟩:=oN a2
 have a3:aC (aF t (cD D (aU s))) X.ino=some X:=by
  rw [b9 (gY hB),lK (show ¬ (cD D (aU s)).ino=X.ino from hne)]; exact a1
 obtain ⟨kX,h2⟩:=oN a3
 have ok:=(ht.tab.ok X (aQ f1).1).1
 have h0:X.links≠0:=fun e=>adt ht hs f1 (ok.root.1 e)
 have:=ok.links
 exact ⟨D,kD,kX,d1,hne,h1,h2,by omega,by omega⟩
theorem aii (t:Tab) (s:aA) (h:t.sz<2^30) (hs:s.length<2^40):bR Tryz.prog 150 [t.x,.str s] (.tup [(eQ t s).1.o,.int .i64 (eQ t s).2]) [.undef,.undef]:=by
 have h':t.sz<2^40:=by omega
 have hC:=dV t h'
 have hT:=dF t h'
 have hPa:=fH s hs
 rw [show (aJ s).2.2=jA s from rfl] at hPa
 by_cases hc:bF t=true∧jA s=true
 ·obtain ⟨hB,hsb⟩:=hc
  rw [hB] at hT
  rw [hsb] at hPa
  have hF:=qD t s h' hs
  cases hX:mK t s with
  | error c=>
   have hc:decide (c=0)=false:=lC (sC hX)
   have e:eQ t s=(t,c):=by rw [eQ,lF ⟨hB,hsb⟩,hX]
   rw [hX] at hF
   rw [e]
   simp only [exC] at hF
   refine Vw jU [] 3895 [] fun w hP hQ=>?_
   refine K (hPa) ?_
   refine K (hT) ?_
   have hz:=hc
   refine Kz (hF) ?_
   (first|refine cI hP (hC) rfl rfl ?_|refine cH hP (hC) rfl rfl ?_)
   refine N ?_
   first|exact trivial|rfl
  | ok X=>
   obtain ⟨D,kD,kX,d1,d2,d3,d4,d5,d6⟩:=aih hB hsb hX
   obtain ⟨f1,f2⟩:=dE hX
   have zX:=aaB h' (aQ f1).2
   have zD:=(aQ (iR d1).1).2
   have zt:(aF t (cD D (aU s))).sz<2^40:=by
    have:=nQ t (cD D (aU s))
    have:=uD D (aU s)
    have:=(eS h).2 D (aL zD).1
    omega
   have hL:=uE t s h' hs (gY hB) d1
   have hD:=rN (aF t (cD D (aU s))) X.ino zt
   have hI:=bK (aF t (cD D (aU s))) (o4 X) zt zX (fW (gY hB) _) d4
   rw [hX] at hF
   have e:eQ t s=(bU t D (aU s) X,0):=by rw [eQ,lF ⟨hB,hsb⟩,hX,d1]; rfl
   simp only [exC,exI] at hF
   rw [e,bU]
   by_cases h1:X.links=1
   ·have h1':decide (X.links=1)=true:=lM h1
    rw [lF h1]
    refine Vw jU [] 3895 [] fun w hP hQ=>?_
    refine K (hPa) ?_
    refine K (hT) ?_
    refine K (hF) ?_
    have hz:=h1'
    refine Kz (hL) ?_
    exact K (hD) trivial
   ·have h1':decide (X.links=1)=false:=lC h1
    rw [lK h1]
    refine Vw jU [] 3895 [] fun w hP hQ=>?_
    refine K (hPa) ?_
    refine K (hT) ?_
    refine K (hF) ?_
    have hz:=h1'
    refine Kz (hL) ?_
    exact K (hI) trivial
 ·have e:eQ t s=(t,1):=by rw [eQ,lK hc]
  rw [e]
  cases hB:bF t with
  | false=>
   rw [hB] at hT
   refine Vw jU [] 3895 [] fun w hP hQ=>?_
   refine K (hPa) ?_
   refine K (hT) ?_
   (first|refine cI hP (hC) rfl rfl ?_|refine cH hP (hC) rfl rfl ?_)
   refine N ?_
   first|exact trivial|rfl
  | true=>
   have hsb:jA s=false:=by cases e:jA s <;> simp_all
   rw [hB] at hT
   rw [hsb] at hPa
   refine Vw jU [] 3895 [] fun w hP hQ=>?_
   refine K (hPa) ?_
   refine K (hT) ?_
   (first|refine cI hP (hC) rfl rfl ?_|refine cH hP (hC) rfl rfl ?_)
   refine N ?_
   first|exact trivial|rfl
theorem acs (a b:aA):strLt a b=decide (a<b):=pZ a b
theorem aij (a b:aA):(decide (a<b) || decide (a=b))=!decide (b<a):=by
 rw [lZ3]
 simp only [lK4,decide_eq_true_eq,lO4,decide_eq_false_iff_not]
 constructor
 ·rintro (h | rfl)
  ·exact List.lt_asymm h
  ·exact lX3 _
 ·intro h
  rcases List.le_iff_lt_or_eq.1 (List.not_lt.1 h) with h | h
  ·exact .inl h
  ·exact .inr h
theorem amp (l:List Ent) (e:Ent):l.map Ent.row++[[TV.str e.name,TV.int .i64 e.ino]]=(l.take l.length++e::l.drop l.length).map Ent.row:=by simp [Ent.row]
theorem aik (L:List Ent) (k:Nat) (x:Ent):(L.map Ent.row).modify k (fun r=>TV.str x.name::TV.int .i64 x.ino::r.drop 2)=(L.set k x).map Ent.row:=uC Ent.row L k x _ fun _ _=>rfl
theorem adG {l:List Ent} {k:Nat} {h:Ent} (hk:k<l.length):(((l.take (k+1)++h::l.drop (k+1))).map Ent.row)[k]?=some (Ent.row l[k]):=by rw [lL1,aav hk]; rfl
theorem xO (l:List Ent) (e:Ent) (hu:UpK Ent.name l) (hl:l.length<2^30):bR Tryz.prog 179 [.ext 2 (l.map Ent.row),e.x] (.own 2 ((dJ l e).map Ent.row)) [.undef,.undef]:=by
 have hb1:l.length*24≤140737488355328:=by omega
 have hb2:(l.length+1)*24≤140737488355328:=by omega
 refine Vw aht [] 123 [] fun w hP hQ=>?_
 simp +decide (maxSteps:=9^9) (disch:=omega) only[↓SB0,SX,seval,hQ,ah0,hb1,hb2,lY,bX]
 rw [amp]
 refine iV [] ?_
 refine N ?_
 refine bG [] (fun s:Nat × Ent=>[(5,.own 2 ((l.take s.1++s.2::l.drop s.1).map Ent.row)),(6,.int .i64 (s.1:Nat))]) (fun s=>s.1≤l.length∧∀ j,s.1≤j→(h:j<l.length)→e.name<l[j].name) (fun s=>s.1) ((l.length,e)) hP hQ (rfl) (by simp; omega) ?_
 rintro ⟨k,x⟩ ⟨hk,hj⟩ w1 hP1 hQ1
 refine N1 ?_
 simp only at hk hj
 have hlen:=aau (h:=x) hk
 cases k with
 | zero=>
  have hz:=hlen
  refine Nz1 ?_
  rw [dJ,qB hu hk hj (.inl rfl)]
  simp [Ent.row]
 | succ k=>
  have hkl:k<l.length:=by omega
  have w4:decide ((0:Int)<((k+1:Nat):Int))=true:=lM (by omega)
  simp +decide (maxSteps:=9^9) (disch:=omega) only[↓SB0,SX,seval,hQ,hQ1,w4,hlen,bX,adG (h:=x) hkl,Ent.row,acs,aij]
  refine Jf (fun g=>?_) fun g=>?_
  ·simp +decide (maxSteps:=9^9) (disch:=omega) only[↓SB0,SX,seval,hQ,hQ1,hlen,bX,adG (h:=x) hkl,Ent.row]
   exact ⟨(k,l[k]),by simp only [aik,qC _ _ hk,vV hkl],⟨by simp only; omega,fun j hj1 hj2=>by
    by_cases e:j=k
    ·subst e; exact g
    ·exact hj j (by simp only at hj1; omega) hj2⟩,by simp only; omega⟩
  ·simp +decide (maxSteps:=9^9) (disch:=omega) only[↓SB0,SX,seval,hQ,hQ1,hlen]
   rw [dJ,qB hu hk hj (.inr ⟨by simpa using hkl,by simpa using g⟩),aik,qC _ _ hk]
theorem afr {t:Tab} {x:Inode} (h:∀ y ∈ t.inodes,y.ino<x.ino):aF t x={ inodes:=t.inodes++[x],next:=t.next }:=by
 have:=aat (l:=t.inodes) (x:=x) (k:=t.inodes.length) (lS1 _) (fun j hj hl=>h _ (lQ hl)) (fun h=>absurd h (Nat.lt_irrefl _))
 rw [aF,this]; simp
theorem amq {t:Tab} {x:Inode} (h:∀ y ∈ t.inodes,y.ino<x.ino):cM t x.ino=none:=by
 rw [cM,List.findIdx?_eq_none_iff]
 intro y hy
 have:=h y hy
 simp; omega
theorem akt (l:List Inode):fU (l.map Inode.row)=true:=by
 rw [fU,lV]
 intro r hr
 obtain ⟨x,_,rfl⟩:=lX1.1 hr
 rfl
theorem amr {l:List Inode} (h:l≠[]):eJ (l.map Inode.row)=false:=by
 cases l with
 | nil=>exact absurd rfl h
 | cons x l=>rfl
theorem uF (t:Tab) (x:Inode) (h:t.sz<2^30) (hx:x.sz<2^30) (hne:t.inodes≠[]) (hn:∀ y ∈ t.inodes,y.ino<x.ino):bR Tryz.prog 173 [t.x,x.x] (aF t x).o [.undef,.undef]:=by
 obtain ⟨h1,h2⟩:=eS h
 have hPl:=o7 t x.ino (by omega)
 rw [amq hn] at hPl
 rw [afr hn]
 refine Vw rH [] 255 [] fun w hP hQ=>?_
 refine K (dV t (by omega)) ?_
 refine K (hPl) ?_
 refine iV [] ?_
 refine N ?_
 refine bG [] (fun i:Nat=>[(6,.int .i64 i)]) (fun i=>i≤t.inodes.length) (fun i=>t.inodes.length-i) (0) hP hQ (rfl) (by simp) ?_
 rintro i hi w1 hP1 hQ1
 refine N1 ?_
 by_cases g:i<t.inodes.length
 ·have g1:decide (((i:Nat):Int)<(t.inodes.length:Nat))=true:=lM (by omega)
  have g2:decide ((t.inodes[i]).ino<x.ino)=true:=lM (hn _ (lQ g))
  have hz:=And.intro g1 (And.intro g2 (bW (show ((i:Nat):Int)<(t.inodes.length:Nat) by omega)))
  refine Nz1 ?_
  exact ⟨i+1,rfl,by omega,by omega⟩
 ·obtain rfl:i=t.inodes.length:=by omega
  have g1:decide (((t.inodes.length:Nat):Int)<(t.inodes.length:Nat))=false:=lC (by omega)
  have e1:(((t.inodes.length:Nat):Int)-0).toNat=t.inodes.length:=by omega
  have e2:(t.inodes.map Inode.row).take t.inodes.length=t.inodes.map Inode.row:=lN2 (by simp)
  have e3:0+t.inodes.length≤t.inodes.length:=by omega
  have e4:(0+t.inodes.length)*96≤140737488355328:=by omega
  have e5:=akt t.inodes
  have e6:=amr hne
  have e7:(t.inodes.map Inode.row).drop (0+t.inodes.length)=[]:=lH4 (by simp)
  have e8:(rD (t.inodes.map Inode.row)).length=t.inodes.length:=by simp [rD]
  have e9:(((t.inodes.length:Nat):Int)-((t.inodes.length:Nat):Int)).toNat=0:=by omega
  have e10:(rD (t.inodes.map Inode.row)).drop t.inodes.length=[]:=lH4 (by simp [rD])
  have e11:(t.inodes.length+1)*96≤140737488355328:=by omega
  have e12:t.inodes.length+0≤t.inodes.length:=by omega
  have e13:(t.inodes.length+1+0)*96≤140737488355328:=by omega
  have e14:t.inodes.map Inode.row++[[TV.int .i64 x.ino,TV.int .i64 x.kind,TV.int .i64 x.links,TV.sl 1 (aM x.data),TV.sl 2 (x.ents.map Ent.row),TV.sl 2 (x.attrs.map Attr.row)]]=(t.inodes++[x]).map Inode.row:=by simp [Inode.row]
  have e15:((t.inodes++[x]).length+0)*96≤140737488355328:=by simp; omega
  have hz:=And.intro g1 (And.intro e1 (And.intro e2 (And.intro e3 (And.intro e4 (And.intro e5 (And.intro e6 e7))))))
  refine Nz1 ?_
  (first|refine cI hP (j8 x (by omega)) rfl rfl ?_|refine cH hP (j8 x (by omega)) rfl rfl ?_)
  simp +decide (maxSteps:=9^9) (disch:=omega) only[↓SB0,SX,seval,hQ,g1,e1,e2,e3,e4,e5,e6,e7,e8,e9,e10,e11,e12,e13,e14,e15,lU2,List.take_nil]
  try rfl
def ams (t:Tab) (s:aA) (f:Int):Rs Inode:=if jA s=true then uS t s f else .error 1
theorem amt {t:Tab} {s:aA}:(∃ c,cT t (aJ s).1=.error c∧fL t s=.error c)∨(∃ D,cT t (aJ s).1=.ok D∧¬ D.kind=2∧fL t s=.error 3)∨∃ D,cT t (aJ s).1=.ok D∧D.kind=2∧fL t s=.ok D:=by
 unfold fL
 cases e:cT t (aJ s).1 with
 | error c=>exact .inl ⟨c,rfl,rfl⟩
 | ok D=>
  by_cases hk:D.kind=2
  ·exact .inr (.inr ⟨D,rfl,hk,by simp only [lF hk]⟩)
  ·exact .inr (.inl ⟨D,rfl,hk,by simp only [lK hk]⟩)
theorem uG (t:Tab) (s:aA) (f:Int) (h:t.sz<2^40) (hs:s.length<2^40):bR Tryz.prog 178 [t.x,.str s,.int .i64 f] (.tup [(exI (ams t s f)).o,.str (exN (ams t s f) (aU s)),.int .i64 (exC (ams t s f))]) [.undef,.undef,.undef]:=by
 have hPa:=fH s hs
 have hS:=rC t (aJ s).1 h (by have:=(gD s).1; omega)
 rw [show (aJ s).2.2=jA s from rfl,show (aJ s).2.1=aU s from rfl] at hPa
 unfold ams
 cases hb:jA s with
 | false=>
  rw [hb] at hPa
  rw [lK (by simp)]
  refine Vw f7 [] 16335 [] fun w hP hQ=>?_
  refine K (hPa) ?_
  all_goals exact T1
 | true=>
  rw [hb] at hPa
  rw [lF rfl]
  unfold uS
  rcases amt (t:=t) (s:=s) with ⟨c,e1,e2⟩ | ⟨D,e1,e2,e3⟩ | ⟨D,e1,e2,e3⟩
  ·have hc:decide (c=0)=false:=lC (nR e1)
   rw [e1] at hS
   rw [e2]
   simp only [exI,exC,exN] at hS ⊢
   refine Vw f7 [] 16335 [] fun w hP hQ=>?_
   refine K (hPa) ?_
   have hz:=hc
   refine Kz (hS) ?_
   all_goals exact T1
  ·have hk':decide (D.kind=2)=false:=lC e2
   rw [e1] at hS
   rw [e3]
   simp only [exI,exC,exN] at hS ⊢
   refine Vw f7 [] 16335 [] fun w hP hQ=>?_
   refine K (hPa) ?_
   have hz:=hk'
   refine Kz (hS) ?_
   all_goals exact T1
  ·have hk':decide (D.kind=2)=true:=lM e2
   have zD:=aaB h (aQ e1).2
   have hE:=adE D (aU s) zD
   rw [e1] at hS
   rw [e3]
   simp only [exI,exC] at hS
   by_cases h1:bC D (aU s)=0
   ·rw [h1] at hE
    simp only [lF (show bC D (aJ s).2.1=0 from h1)]
    by_cases h2:D.ents.length<10
    ·have h2':decide ((10:Int)≤(D.ents.length:Nat))=false:=lC (by omega)
     simp only [lF (Or.inl h2:D.ents.length<10∨D.ino=f),exI,exC,exN]
     refine Vw f7 [] 16335 [] fun w hP hQ=>?_
     refine K (hPa) ?_
     have hz:=hk'
     refine Kz (hS) ?_
     have hz:=h2'
     exact Kz (hE) trivial
    ·have h2':decide ((10:Int)≤(D.ents.length:Nat))=true:=lM (by omega)
     by_cases h3:D.ino=f
     ·have h3':decide (D.ino=f)=true:=lM h3
      simp only [lF (Or.inr h3:D.ents.length<10∨D.ino=f),exI,exC,exN]
      refine Vw f7 [] 16335 [] fun w hP hQ=>?_
      refine K (hPa) ?_
      have hz:=hk'
      refine Kz (hS) ?_
      have hz:=And.intro h2' h3'
      exact Kz (hE) trivial
     ·have h3':decide (D.ino=f)=false:=lC h3
      simp only [lK (show ¬ (D.ents.length<10∨D.ino=f) from fun h=>h.elim h2 h3),exI,exC,exN]
      refine Vw f7 [] 16335 [] fun w hP hQ=>?_
      refine K (hPa) ?_
      have hz:=hk'
      refine Kz (hS) ?_
      have hz:=And.intro h2' h3'
      refine Kz (hE) ?_
      all_goals exact T1
   ·have h1':decide (bC D (aU s)=0)=false:=lC h1
    simp only [lK (show ¬ bC D (aJ s).2.1=0 from h1),exI,exC,exN]
    refine Vw f7 [] 16335 [] fun w hP hQ=>?_
    refine K (hPa) ?_
    have hz:=hk'
    refine Kz (hS) ?_
    have hz:=h1'
    refine Kz (hE) ?_
    all_goals exact T1
theorem ant {t:Tab} {s:aA} {f:Int} {D:Inode} (hB:bF t=true) (h:uS t s f=.ok D):∃ k,cM t D.ino=some k∧UpK Ent.name D.ents∧D.ents.length≤10∧D ∈ t.inodes∧2≤t.next∧t.next≤1000∧D.ino<t.next:=by
 have ht:=(aS t).1 hB
 have hm:=p9 (iS h).1
 obtain ⟨k,hk⟩:=oN (fV ht hm)
 have ok:=(bM ht hm)
 exact ⟨k,hk,ok.up,ok.len,hm,ht.tab.next.1,ht.tab.next.2,(ht.tab.ok D hm).2⟩
theorem ail (l:List Ent) (e:Ent):szM Ent.sz (dJ l e)≤szM Ent.sz l+e.name.length+1:=by
 have h1:(dJ l e).length=l.length+1:=oB l e
 have h2:((dJ l e).map Ent.sz).sum=(l.map Ent.sz).sum+e.name.length:=by
  unfold dJ
  induction l with
  | nil=>simp [tP,Ent.sz]
  | cons f l ih=>
   rw [tP]
   split
   ·simp only [lO,lB2,Ent.sz]; omega
   ·simp only [lO,lB2,ih (by exact oB l e)]; omega
 simp only [szM]; omega
theorem act (D:Inode) (n:aA) (j:Int):(c9 D n j).sz≤D.sz+n.length+1:=by
 have:=ail D.ents ⟨n,j⟩
 simp only at this
 show D.data.length+szM Ent.sz (dJ D.ents ⟨n,j⟩)+szM Attr.sz D.attrs≤D.data.length+szM Ent.sz D.ents+szM Attr.sz D.attrs+n.length+1
 omega
theorem amu {t:Tab} {D:Inode} {n:aA} (hB:bF t=true) (hm:D ∈ t.inodes):∀ y ∈ (aF t (c9 D n t.next)).inodes,y.ino<t.next:=by
 have ht:=(aS t).1 hB
 intro y hy
 rcases vN hy with rfl | hy
 ·exact (ht.tab.ok D hm).2
 ·exact (ht.tab.ok y hy).2
theorem aim (l:List Inode) (x:Inode):bO l x≠[]:=by
 cases l with
 | nil=>simp [bO]
 | cons y l=>rw [bO]; split; simp; split <;> simp
theorem aaC (t:Tab) (s:aA) (k:Int) (h:t.sz<2^28) (hs:s.length<2^40):bR Tryz.prog 170 [t.x,.str s,.int .i64 k] (.tup [(eR t s k).1.o,.int .i64 (eR t s k).2]) [.undef,.undef,.undef]:=by
 have h':t.sz<2^40:=by omega
 have hC:=dV t h'
 have hT:=dF t h'
 have hN:=uG t s 0 h' hs
 unfold ams at hN
 cases hB:bF t with
 | false=>
  have e:eR t s k=(t,1):=by rw [eR,lK (by simp [hB])]
  rw [hB] at hT
  rw [e]
  refine Vw iF [] 4047 [] fun w hP hQ=>?_
  refine K (hT) ?_
  (first|refine cI hP (hC) rfl rfl ?_|refine cH hP (hC) rfl rfl ?_)
  refine N ?_
  all_goals exact T1
 | true=>
  rw [hB] at hT
  cases hb:jA s with
  | false=>
   have e:eR t s k=(t,1):=by rw [eR,lK (by simp [hb])]
   rw [hb,lK (by simp)] at hN
   rw [e]
   simp only [exI,exC,exN] at hN
   refine Vw iF [] 4047 [] fun w hP hQ=>?_
   refine K (hT) ?_
   refine K (hN) ?_
   (first|refine cI hP (hC) rfl rfl ?_|refine cH hP (hC) rfl rfl ?_)
   refine N ?_
   all_goals exact T1
  | true=>
   rw [hb,lF rfl] at hN
   cases hX:uS t s 0 with
   | error c=>
    have hc:decide (c=0)=false:=lC (by
     intro e; subst e; unfold uS at hX
     split at hX
     ·split at hX
      ·split at hX <;> cases hX
      ·cases hX
     ·rename_i e2
      cases hX
      unfold fL at e2
      split at e2
      ·split at e2 <;> cases e2
      ·rename_i e3; cases e2; exact nR e3 rfl)
    have e:eR t s k=(t,c):=by rw [eR,lF ⟨hB,hb⟩,hX]
    rw [hX] at hN
    rw [e]
    simp only [exI,exC,exN] at hN
    refine Vw iF [] 4047 [] fun w hP hQ=>?_
    refine K (hT) ?_
    have hz:=hc
    refine Kz (hN) ?_
    (first|refine cI hP (hC) rfl rfl ?_|refine cH hP (hC) rfl rfl ?_)
    refine N ?_
    all_goals exact T1
   | ok D=>
    obtain ⟨kD,k1,k2,k3,k4,k5,k6,k7⟩:=ant hB hX
    have e0:eR t s k=if t.inodes.length<30∧t.next<1000 then (nK t D (aU s) k,0) else (t,5):=by rw [eR,lF ⟨hB,hb⟩,hX]
    rw [hX] at hN
    simp only [exI,exC,exN] at hN
    rw [e0]
    by_cases g1:t.inodes.length<30
    ·have g1':decide ((30:Int)≤(t.inodes.length:Nat))=false:=lC (by omega)
     by_cases g2:t.next<1000
     ·have g2':decide ((1000:Int)≤t.next)=false:=lC (by omega)
      rw [lF ⟨g1,g2⟩]
      have zD:=(eS h).2 D k4
      have z1:=act D (aU s) t.next
      have z2:=(gD s).2
      have z3:=nQ t (c9 D (aU s) t.next)
      have hP1:=xO D.ents ⟨aU s,t.next⟩ k2 (by omega)
      have hS1:=bK t (c9 D (aU s) t.next) h' (by omega) (gY hB) k1
      have hS2:=uF (aF t (c9 D (aU s) t.next)) (xJ t.next k) (by omega) (by show 0+(0+0)+(0+0)<2^30; omega) (aim _ _) (amu hB k4)
      refine Vw iF [] 4047 [] fun w hP hQ=>?_
      refine K (hT) ?_
      have hz:=And.intro g1' g2'
      refine Kz (hN) ?_
      refine K (hC) ?_
      refine K (hP1) ?_
      refine K (hS1) ?_
      refine K (hS2) ?_
      rfl
     ·have g2':decide ((1000:Int)≤t.next)=true:=lM (by omega)
      rw [lK (by omega)]
      refine Vw iF [] 4047 [] fun w hP hQ=>?_
      refine K (hT) ?_
      have hz:=And.intro g1' g2'
      refine Kz (hN) ?_
      (first|refine cI hP (hC) rfl rfl ?_|refine cH hP (hC) rfl rfl ?_)
      refine N ?_
      all_goals exact T1
    ·have g1':decide ((30:Int)≤(t.inodes.length:Nat))=true:=lM (by omega)
     rw [lK (by omega)]
     refine Vw iF [] 4047 [] fun w hP hQ=>?_
     refine K (hT) ?_
     have hz:=g1'
     refine Kz (hN) ?_
     (first|refine cI hP (hC) rfl rfl ?_|refine cH hP (hC) rfl rfl ?_)
     refine N ?_
     all_goals exact T1
theorem afs (t:Tab) (s:aA) (h:t.sz<2^28) (hs:s.length<2^40):bR Tryz.prog 146 [t.x,.str s] (.tup [(eR t s 2).1.o,.int .i64 (eR t s 2).2]) [.undef,.undef]:=by
 refine Vw abY [] 55 [] fun w hP hQ=>?_
 exact K (aaC t s 2 h hs) trivial
theorem acu (t:Tab) (s:aA) (h:t.sz<2^28) (hs:s.length<2^40):bR Tryz.prog 147 [t.x,.str s] (.tup [(eR t s 1).1.o,.int .i64 (eR t s 1).2]) [.undef,.undef]:=by
 refine Vw zU [] 55 [] fun w hP hQ=>?_
 exact K (aaC t s 1 h hs) trivial
theorem adH {t:Tab} {s:aA} {X:Inode} (hB:bF t=true) (hs:jA s=true) (hX:cT t s=.ok X):∃ D,fL t s=.ok D:=by
 have ht:=(aS t).1 hB
 obtain ⟨D,d1,d2,_⟩:=tZ ht hs hX
 exact ⟨D,d1⟩
theorem aaD (t:Tab) (s:aA) (h:t.sz<2^30) (hs:s.length<2^40):bR Tryz.prog 151 [t.x,.str s] (.tup [(gB t s).1.o,.int .i64 (gB t s).2]) [.undef,.undef]:=by
 have h':t.sz<2^40:=by omega
 have hC:=dV t h'
 have hT:=dF t h'
 have hPa:=fH s hs
 rw [show (aJ s).2.2=jA s from rfl] at hPa
 by_cases hc:bF t=true∧jA s=true
 ·obtain ⟨hB,hsb⟩:=hc
  rw [hB] at hT
  rw [hsb] at hPa
  have hF:=rC t s h' hs
  cases hX:cT t s with
  | error c=>
   have hc:decide (c=0)=false:=lC (nR hX)
   have e:gB t s=(t,c):=by rw [gB,lF ⟨hB,hsb⟩,hX]
   rw [hX] at hF
   rw [e]
   simp only [exI,exC] at hF
   refine Vw eM [] 1847 [] fun w hP hQ=>?_
   refine K (hPa) ?_
   refine K (hT) ?_
   have hz:=hc
   refine Kz (hF) ?_
   (first|refine cI hP (hC) rfl rfl ?_|refine cH hP (hC) rfl rfl ?_)
   refine N ?_
   all_goals exact T1
  | ok X=>
   have e0:gB t s=if X.kind=2 then (if X.ents=[] then (jJ (aF t (cD (exI (fL t s)) (aU s))) X.ino,0) else (t,6)) else (t,3):=by rw [gB,lF ⟨hB,hsb⟩,hX]
   rw [hX] at hF
   rw [e0]
   simp only [exI,exC] at hF
   have zX:=aaB h' (aQ hX).2
   by_cases g1:X.kind=2
   ·have g1':decide (X.kind=2)=true:=lM g1
    rw [lF g1]
    by_cases g2:X.ents=[]
    ·have g2':decide ((0:Int)<(X.ents.length:Nat))=false:=lC (by rw [g2]; simp)
     obtain ⟨D,d1⟩:=adH hB hsb hX
     rw [lF g2,d1]
     simp only [exI]
     have zD:=(aQ (iR d1).1).2
     have zt:(aF t (cD D (aU s))).sz<2^40:=by
      have:=nQ t (cD D (aU s))
      have:=uD D (aU s)
      have:=(eS h).2 D (aL zD).1
      omega
     have hL:=uE t s h' hs (gY hB) d1
     have hD:=rN (aF t (cD D (aU s))) X.ino zt
     refine Vw eM [] 1847 [] fun w hP hQ=>?_
     refine K (hPa) ?_
     refine K (hT) ?_
     have hz:=And.intro g1' g2'
     refine Kz (hF) ?_
     refine K (hL) ?_
     (first|refine cI hP (hD) rfl rfl ?_|refine cH hP (hD) rfl rfl ?_)
     refine N ?_
     all_goals exact T1
    ·have g2':decide ((0:Int)<(X.ents.length:Nat))=true:=lM (by have:=lI3.2 g2; omega)
     rw [lK g2]
     refine Vw eM [] 1847 [] fun w hP hQ=>?_
     refine K (hPa) ?_
     refine K (hT) ?_
     have hz:=And.intro g1' g2'
     refine Kz (hF) ?_
     (first|refine cI hP (hC) rfl rfl ?_|refine cH hP (hC) rfl rfl ?_)
     refine N ?_
     all_goals exact T1
   ·have g1':decide (X.kind=2)=false:=lC g1
    rw [lK g1]
    refine Vw eM [] 1847 [] fun w hP hQ=>?_
    refine K (hPa) ?_
    refine K (hT) ?_
    have hz:=g1'
    refine Kz (hF) ?_
    (first|refine cI hP (hC) rfl rfl ?_|refine cH hP (hC) rfl rfl ?_)
    refine N ?_
    all_goals exact T1
 ·have e:gB t s=(t,1):=by rw [gB,lK hc]
  rw [e]
  cases hB:bF t with
  | false=>
   rw [hB] at hT
   refine Vw eM [] 1847 [] fun w hP hQ=>?_
   refine K (hPa) ?_
   refine K (hT) ?_
   (first|refine cI hP (hC) rfl rfl ?_|refine cH hP (hC) rfl rfl ?_)
   refine N ?_
   all_goals exact T1
  | true=>
   have hsb:jA s=false:=by cases e:jA s <;> simp_all
   rw [hB] at hT
   rw [hsb] at hPa
   refine Vw eM [] 1847 [] fun w hP hQ=>?_
   refine K (hPa) ?_
   refine K (hT) ?_
   (first|refine cI hP (hC) rfl rfl ?_|refine cH hP (hC) rfl rfl ?_)
   refine N ?_
   all_goals exact T1
theorem amv (X:Inode):(g9 X).sz=X.sz:=rfl
theorem akW {t:Tab} {s:aA} {f:Int} {c:Int} (h:uS t s f=.error c):c≠0:=by
 intro e
 subst e
 unfold uS at h
 split at h
 ·split at h
  ·split at h <;> cases h
  ·cases h
 ·rename_i e2
  cases h
  unfold fL at e2
  split at e2
  ·split at e2 <;> cases e2
  ·rename_i e3; cases e2; exact nR e3 rfl
theorem amw {t:Tab} {p q:aA} {X D:Inode} (hB:bF t=true) (hX:mK t p=.ok X) (hD:uS t q 0=.ok D):∃ kX kD,cM t X.ino=some kX∧cM (aF t (g9 X)) D.ino=some kD∧UpI (aF t (g9 X)).inodes∧mY t D (aU q) X=aF (aF t (g9 X)) (c9 D (aU q) X.ino)∧UpK Ent.name D.ents∧D.ents.length≤10∧X.sz+0≤X.sz∧0≤X.links∧X.links≤1000:=by
 have ht:=(aS t).1 hB
 obtain ⟨f1,f2⟩:=dE hX
 have a1:=(aQ f1).2
 have hm:=p9 (iS hD).1
 have a2:=fV ht hm
 have k2:=(iR (iS hD).1).2
 have hne:D.ino≠X.ino:=by
  intro e
  rw [e,a1] at a2
  cases a2
  omega
 obtain ⟨kX,hkX⟩:=oN a1
 have hu:=gY hB
 have a3:aC (aF t (g9 X)) D.ino=some D:=by
  rw [b9 hu,lK (show ¬ (g9 X).ino=D.ino from fun e=>hne e.symm)]
  exact a2
 obtain ⟨kD,hkD⟩:=oN a3
 have ok:=bM ht hm
 have l2:=(ht.tab.ok X (aQ f1).1).1.links
 exact ⟨kX,kD,hkX,hkD,fW hu _,set_comm hu (show (c9 D (aU q) X.ino).ino≠(g9 X).ino from hne),ok.up,ok.len,by omega,by omega,by omega⟩
theorem acv (t:Tab) (p q:aA) (h:t.sz<2^28) (hp:p.length<2^40) (hq:q.length<2^40):bR Tryz.prog 152 [t.x,.str p,.str q] (.tup [(iQ t p q).1.o,.int .i64 (iQ t p q).2]) [.undef,.undef,.undef]:=by
 have h':t.sz<2^40:=by omega
 have hC:=dV t h'
 have hT:=dF t h'
 have hSp:=dK p hp
 have hPa:=fH q hq
 rw [show (aB p).2=mL p from rfl] at hSp
 rw [show (aJ q).2.2=jA q from rfl] at hPa
 by_cases hc:bF t=true∧mL p=true∧jA q=true
 ·obtain ⟨hB,hpb,hqb⟩:=hc
  rw [hB] at hT
  rw [hpb] at hSp
  rw [hqb] at hPa
  have hF:=qD t p h' hp
  cases hX:mK t p with
  | error c=>
   have hc:decide (c=0)=false:=lC (sC hX)
   have e:iQ t p q=(t,c):=by rw [iQ,lF ⟨hB,hpb,hqb⟩,hX]
   rw [hX] at hF
   rw [e]
   simp only [exI,exC] at hF
   refine Vw fJ [] 258767 [] fun w hP hQ=>?_
   refine K (hSp) ?_
   refine K (hPa) ?_
   refine K (hT) ?_
   have hz:=hc
   refine Kz (hF) ?_
   (first|refine cI hP (hC) rfl rfl ?_|refine cH hP (hC) rfl rfl ?_)
   refine N ?_
   all_goals exact T1
  | ok X=>
   have hN:=uG t q 0 h' hq
   unfold ams at hN
   rw [hqb,lF rfl] at hN
   rw [hX] at hF
   simp only [exI,exC] at hF
   cases hD:uS t q 0 with
   | error c=>
    have hc:decide (c=0)=false:=lC (akW hD)
    have e:iQ t p q=(t,c):=by rw [iQ,lF ⟨hB,hpb,hqb⟩,hX]; simp only [hD]
    rw [hD] at hN
    rw [e]
    simp only [exI,exC,exN] at hN
    refine Vw fJ [] 258767 [] fun w hP hQ=>?_
    refine K (hSp) ?_
    refine K (hPa) ?_
    refine K (hT) ?_
    refine K (hF) ?_
    have hz:=hc
    refine Kz (hN) ?_
    (first|refine cI hP (hC) rfl rfl ?_|refine cH hP (hC) rfl rfl ?_)
    refine N ?_
    all_goals exact T1
   | ok D=>
    obtain ⟨kX,kD,k1,k2,k3,k4,k5,k6,k7,k8,k9⟩:=amw hB hX hD
    have e:iQ t p q=(mY t D (aU q) X,0):=by rw [iQ,lF ⟨hB,hpb,hqb⟩,hX]; simp only [hD]
    rw [hD] at hN
    rw [e,k4]
    simp only [exI,exC,exN] at hN
    have zX:=(eS h).2 X (aQ (dE hX).1).1
    have zD:=(eS h).2 D (p9 (iS hD).1)
    have z1:=act D (aU q) X.ino
    have z2:=(gD q).2
    have z3:=nQ t (g9 X)
    have z4:=amv X
    have hP1:=xO D.ents ⟨aU q,X.ino⟩ k5 (by omega)
    have hS1:=bK t (g9 X) h' (by omega) (gY hB) k1
    have hS2:=bK (aF t (g9 X)) (c9 D (aU q) X.ino) (by omega) (by omega) k3 k2
    refine Vw fJ [] 258767 [] fun w hP hQ=>?_
    refine K (hSp) ?_
    refine K (hPa) ?_
    refine K (hT) ?_
    refine K (hF) ?_
    refine K (hN) ?_
    refine K (hP1) ?_
    refine K (hS1) ?_
    (first|refine cI hP (hS2) rfl rfl ?_|refine cH hP (hS2) rfl rfl ?_)
    refine N ?_
    all_goals exact T1
 ·have e:iQ t p q=(t,1):=by rw [iQ,lK hc]
  rw [e]
  cases hB:bF t with
  | false=>
   rw [hB] at hT
   refine Vw fJ [] 258767 [] fun w hP hQ=>?_
   refine K (hSp) ?_
   refine K (hPa) ?_
   refine K (hT) ?_
   (first|refine cI hP (hC) rfl rfl ?_|refine cH hP (hC) rfl rfl ?_)
   refine N ?_
   all_goals exact T1
  | true=>
   rw [hB] at hT
   cases hpb:mL p with
   | false=>
    rw [hpb] at hSp
    refine Vw fJ [] 258767 [] fun w hP hQ=>?_
    refine K (hSp) ?_
    refine K (hPa) ?_
    refine K (hT) ?_
    (first|refine cI hP (hC) rfl rfl ?_|refine cH hP (hC) rfl rfl ?_)
    refine N ?_
    all_goals exact T1
   | true=>
    have hqb:jA q=false:=by cases e:jA q <;> simp_all
    rw [hpb] at hSp
    rw [hqb] at hPa
    refine Vw fJ [] 258767 [] fun w hP hQ=>?_
    refine K (hSp) ?_
    refine K (hPa) ?_
    refine K (hT) ?_
    (first|refine cI hP (hC) rfl rfl ?_|refine cH hP (hC) rfl rfl ?_)
    refine N ?_
    all_goals exact T1
theorem akX {t:Tab} {x:Inode} (h:x ∈ t.inodes):x.sz≤t.sz:=by
 have:=(eS (t:=t) (n:=t.sz+1) (by omega)).2 x h
 omega
theorem aku {t:Tab} {s:aA} {c:Int} (hB:bF t=true) (h:cT t s=.error c):(rK t s).2=c:=by
 have ht:=(aS t).1 hB
 unfold cT at h
 split at h
 ·rename_i e
  have hw:=(ads (aam e) (i:=(rK t s).1)).1 (by rw [← e])
  obtain ⟨x,hx,_⟩:=vM ht hw
  rw [hx] at h
  cases h
 ·cases h; rfl
theorem akv {t:Tab} (h:TreeOk t) {D1:Inode} {d1:List aA} (s1:Spot t D1 d1) {n:aA} {l:List aA} (hp:¬ (d1++[n]) <+: l):aP (aC (aF t (cD D1 n))) l 1=aP (aC t) l 1:=by
 have hD1:=fV h s1.mem
 have map1:∀ i,aC (aF t (cD D1 n)) i=if D1.ino=i then some (cD D1 n) else aC t i:=fun i=>b9 h.tab.up _ i
 rw [cL,cL]
 refine fG (fun i m him=>?_) (gA h s1) hp
 by_cases h2:i=D1.ino
 ·have hm:=him.resolve_left (by simp [h2])
  rw [aV (x:=cD D1 n) (by rw [map1,lF h2.symm]) m,aV (M:=aC t) (x:=D1) (by rw [h2]; exact hD1) m]
  have:bC (cD D1 n) m=bC D1 m:=by unfold cD; rw [nJ,if_neg hm]
  rw [this]; rfl
 ·exact mI (by rw [map1,lK (Ne.symm h2)]) m
theorem amx {t:Tab} {p q:aA} {X D2:Inode} (hB:bF t=true) (hp:jA p=true) (hq:jA q=true) (h1:cT t p=.ok X) (hb:xG p q=false) (h2:uS t q (exI (fL t p)).ino=.ok D2) :
  ∃ D1 k,fL t p=.ok D1∧rK t (aJ p).1=(D1.ino,0)∧cT (aF t (cD D1 (aU p))) (aJ q).1=.ok (fT D1 D2 (aU p))∧cM (aF t (cD D1 (aU p))) (fT D1 D2 (aU p)).ino=some k ∧
   UpI (aF t (cD D1 (aU p))).inodes∧UpK Ent.name (fT D1 D2 (aU p)).ents∧(fT D1 D2 (aU p)).ents.length≤10∧(fT D1 D2 (aU p)).sz≤t.sz∧D1.sz≤t.sz:=by
 have ht:=(aS t).1 hB
 obtain ⟨D1,e,d1,s1,he,e1,e2,s2,hn,hf,hl,hb'⟩:=ahS ht hp hq h1 hb h2
 have hD1:=fV ht s1.mem
 have hD2:=fV ht s2.mem
 have okD1:=bM ht s1.mem
 have okD2:=bM ht s2.mem
 have npd2:¬ ((aB (aJ p).1).1++[aU p]) <+: (aB (aJ q).1).1:=fun hp=>hb' (by rw [e1]; exact hp.trans (List.prefix_append _ _))
 have w:=akv ht s1 npd2
 rw [s2.at'] at w
 have at2:aC (aF t (cD D1 (aU p))) D2.ino=some (fT D1 D2 (aU p)):=by
  rw [b9 ht.tab.up]
  show (if D1.ino=D2.ino then _ else _)=_
  unfold fT
  split
  ·rfl
  ·exact hD2
 have mi:(fT D1 D2 (aU p)).ino=D2.ino:=by unfold fT; split; (rename_i hc; exact hc); rfl
 obtain ⟨k,hk⟩:=oN at2
 have hs2:(aB (aJ q).1).2=true:=(tY (iR (iS h2).1).1).1
 have z1:=akX s1.mem
 have z2:=akX s2.mem
 refine ⟨D1,k,d1,(o5 (iR d1).1).1,?_,by rw [mi]; exact hk,fW ht.tab.up _,?_,?_,?_,z1⟩
 ·rw [amg hs2 w,at2]
 ·unfold fT; split
  ·exact qY okD1.up _
  ·exact okD2.up
 ·unfold fT; split
  ·have:(c8 D1.ents (aU p)).length≤D1.ents.length:=lL2 _ _
   have:=okD1.len
   show (c8 D1.ents (aU p)).length≤10
   omega
  ·exact okD2.len
 ·unfold fT; split
  ·exact lU3 (uD D1 _) z1
  ·exact z2
theorem ain (t:Tab) (p q:aA) (h:t.sz<2^28) (hp:p.length<2^40) (hq:q.length<2^40):bR Tryz.prog 153 [t.x,.str p,.str q] (.tup [(j5 t p q).1.o,.int .i64 (j5 t p q).2]) [.undef,.undef,.undef]:=by
 have h':t.sz<2^40:=by omega
 have hC:=dV t h'
 have hT:=dF t h'
 have hPp:=fH p hp
 have hPa:=fH q hq
 rw [show (aJ p).2.2=jA p from rfl,show (aJ p).2.1=aU p from rfl] at hPp
 rw [show (aJ q).2.2=jA q from rfl,show (aJ q).2.1=aU q from rfl] at hPa
 by_cases hc:bF t=true∧jA p=true∧jA q=true
 ·obtain ⟨hB,hpb,hqb⟩:=hc
  rw [hB] at hT
  rw [hpb] at hPp
  rw [hqb] at hPa
  have hW:=acq t p h' hp
  cases hX:cT t p with
  | error c=>
   have hc:decide (c=0)=false:=lC (nR hX)
   have e:j5 t p q=(t,c):=by rw [j5,lF ⟨hB,hpb,hqb⟩,hX]
   rw [aku hB hX] at hW
   rw [e]
   refine Vw f5 [] 41543119 [] fun w hP hQ=>?_
   refine K (hPp) ?_
   refine K (hPa) ?_
   refine K (hT) ?_
   have hz:=hc
   refine Kz (hW) ?_
   (first|refine cI hP (hC) rfl rfl ?_|refine cH hP (hC) rfl rfl ?_)
   refine N ?_
   all_goals exact T1
  | ok X=>
   have e0:j5 t p q=if xG p q=true then (t,6) else (match uS t q (exI (fL t p)).ino with
    | .ok D=>(jZ t (exI (fL t p)) D (aU p) (aU q) X.ino,0)
    | .error c=>(t,c)):=by rw [j5,lF ⟨hB,hpb,hqb⟩,hX]; rfl
   have hL:=akg p q hp hq
   rw [(o5 hX).1] at hW
   simp only at hW
   rw [e0]
   cases hb:xG p q with
   | true=>
    rw [hb] at hL
    rw [lF rfl]
    refine Vw f5 [] 41543119 [] fun w hP hQ=>?_
    refine K (hPp) ?_
    refine K (hPa) ?_
    refine K (hT) ?_
    refine K (hW) ?_
    refine K (hL) ?_
    (first|refine cI hP (hC) rfl rfl ?_|refine cH hP (hC) rfl rfl ?_)
    refine N ?_
    all_goals exact T1
   | false=>
    rw [hb] at hL
    rw [lK (by simp)]
    obtain ⟨D1,d1⟩:=adH hB hpb hX
    have hV:=acq t (aJ p).1 h' (by have:=(gD p).1; omega)
    rw [(o5 (iR d1).1).1] at hV
    simp only at hV
    have hN:=uG t q D1.ino h' hq
    unfold ams at hN
    rw [hqb,lF rfl] at hN
    have e1:(exI (fL t p)).ino=D1.ino:=by rw [d1]; rfl
    rw [e1]
    cases hD:uS t q D1.ino with
    | error c=>
     have hc:decide (c=0)=false:=lC (akW hD)
     rw [hD] at hN
     simp only [exI,exC,exN] at hN ⊢
     refine Vw f5 [] 41543119 [] fun w hP hQ=>?_
     refine K (hPp) ?_
     refine K (hPa) ?_
     refine K (hT) ?_
     refine K (hW) ?_
     refine K (hL) ?_
     refine K (hV) ?_
     have hz:=hc
     refine Kz (hN) ?_
     (first|refine cI hP (hC) rfl rfl ?_|refine cH hP (hC) rfl rfl ?_)
     refine N ?_
     all_goals exact T1
    | ok D2=>
     obtain ⟨D1',k,k1,k2,k3,k4,k5,k6,k7,k8,k9⟩:=amx hB hpb hqb hX hb (by rw [e1]; exact hD)
     rw [d1] at k1
     cases k1
     rw [hD] at hN
     simp only [exI,exC,exN,d1] at hN ⊢
     rw [jZ]
     have z1:=uD D1 (aU p)
     have z2:=nQ t (cD D1 (aU p))
     have z3:=act (fT D1 D2 (aU p)) (aU q) X.ino
     have z4:=(gD q).2
     have z5:=(gD q).1
     have hL1:=uE t p h' hp (gY hB) d1
     have hS:=rC (aF t (cD D1 (aU p))) (aJ q).1 (by omega) (by omega)
     rw [k3] at hS
     simp only [exI,exC] at hS
     have hP1:=xO (fT D1 D2 (aU p)).ents ⟨aU q,X.ino⟩ k6 (by omega)
     have hS2:=bK (aF t (cD D1 (aU p))) (c9 (fT D1 D2 (aU p)) (aU q) X.ino) (by omega) (by omega) k5 k4
     refine Vw f5 [] 41543119 [] fun w hP hQ=>?_
     refine K (hPp) ?_
     refine K (hPa) ?_
     refine K (hT) ?_
     refine K (hW) ?_
     refine K (hL) ?_
     refine K (hV) ?_
     refine K (hN) ?_
     refine K (hL1) ?_
     refine K (hPa) ?_
     refine K (hS) ?_
     refine K (hP1) ?_
     (first|refine cI hP (hS2) rfl rfl ?_|refine cH hP (hS2) rfl rfl ?_)
     refine N ?_
     all_goals exact T1
 ·have e:j5 t p q=(t,1):=by rw [j5,lK hc]
  rw [e]
  cases hB:bF t with
  | false=>
   rw [hB] at hT
   refine Vw f5 [] 41543119 [] fun w hP hQ=>?_
   refine K (hPp) ?_
   refine K (hPa) ?_
   refine K (hT) ?_
   (first|refine cI hP (hC) rfl rfl ?_|refine cH hP (hC) rfl rfl ?_)
   refine N ?_
   all_goals exact T1
  | true=>
   rw [hB] at hT
   cases hpb:jA p with
   | false=>
    rw [hpb] at hPp
    refine Vw f5 [] 41543119 [] fun w hP hQ=>?_
    refine K (hPp) ?_
    refine K (hPa) ?_
    refine K (hT) ?_
    (first|refine cI hP (hC) rfl rfl ?_|refine cH hP (hC) rfl rfl ?_)
    refine N ?_
    all_goals exact T1
   | true=>
    have hqb:jA q=false:=by cases e:jA q <;> simp_all
    rw [hpb] at hPp
    rw [hqb] at hPa
    refine Vw f5 [] 41543119 [] fun w hP hQ=>?_
    refine K (hPp) ?_
    refine K (hPa) ?_
    refine K (hT) ?_
    (first|refine cI hP (hC) rfl rfl ?_|refine cH hP (hC) rfl rfl ?_)
    refine N ?_
    all_goals exact T1
theorem aio (x a b:Int):bR Tryz.prog 57 [.int .i64 x,.int .i64 a,.int .i64 b] (.bool (inR x a b)) [.undef,.undef,.undef]:=by
 refine Vw adg [] 71 [] fun w hP hQ=>?_
 refine Jg (fun h1=>?_) fun h1=>?_
 ·have hz:=h1
  refine Nz ?_
  simp [inR,h1]
 ·have hz:=h1
  refine Nz ?_
  simp [inR,h1]
theorem aft (b:aA) (n:Nat):List.take n (aM b)=aM (b.take n):=by simp [aM,lD4]
theorem aaE (b:aA) (i:Nat):aM (b++List.replicate i 0)++[[TV.int .u8 0]]=aM (b++List.replicate (i+1) 0):=by
 rw [List.replicate_succ',← lP2]
 simp [aM]
theorem akY {b:aA} {n i:Nat} (h1:i≤n-b.length) (h2:n≤b.length+i):b++List.replicate i 0=xT b n:=by
 rw [xT,show n-b.length=i by omega]
theorem anu {n:Int} {a b:Int} (h:inR n a b=true):a≤n∧n≤b:=by simpa [inR] using h
theorem acw (t:Tab) (s:aA) (n:Int) (h:t.sz<2^30) (hs:s.length<2^40):bR Tryz.prog 149 [t.x,.str s,.int .i64 n] (.tup [(q8 t s n).1.o,.int .i64 (q8 t s n).2]) [.undef,.undef,.undef]:=by
 have h':t.sz<2^40:=by omega
 have hC:=dV t h'
 have hT:=dF t h'
 have hSp:=dK s hs
 have hI:=aio n 0 100
 rw [show (aB s).2=mL s from rfl] at hSp
 by_cases hc:bF t=true∧mL s=true∧inR n 0 100=true
 ·obtain ⟨hB,hpb,hi⟩:=hc
  rw [hB] at hT
  rw [hpb] at hSp
  rw [hi] at hI
  obtain ⟨n1,n2⟩:=anu hi
  have hF:=qD t s h' hs
  cases hX:mK t s with
  | error c=>
   have hc:decide (c=0)=false:=lC (sC hX)
   have e:q8 t s n=(t,c):=by rw [q8,lF ⟨hB,hpb,hi⟩,hX]
   rw [hX] at hF
   rw [e]
   simp only [exI,exC] at hF
   refine Vw gN [] 3791 [] fun w hP hQ=>?_
   refine K (hSp) ?_
   refine K (hT) ?_
   refine K (hI) ?_
   have hz:=hc
   refine Kz (hF) ?_
   (first|refine cI hP (hC) rfl rfl ?_|refine cH hP (hC) rfl rfl ?_)
   refine N ?_
   all_goals exact T1
  | ok X=>
   have e:q8 t s n=(aF t (tW X ((xT X.data n.toNat).take n.toNat)),0):=by rw [q8,lF ⟨hB,hpb,hi⟩,hX]
   obtain ⟨kX,hkX⟩:=oN (aQ (dE hX).1).2
   have zX:=(eS h).2 X (aQ (dE hX).1).1
   have zd:X.data.length<2^30:=by rw [Inode.sz] at zX; omega
   have zD:(tW X ((xT X.data n.toNat).take n.toNat)).sz<2^40:=by
    show ((xT X.data n.toNat).take n.toNat).length+szM Ent.sz X.ents+szM Attr.sz X.attrs<_
    rw [Inode.sz] at zX
    rw [lT]
    omega
   have hS:=bK t (tW X ((xT X.data n.toNat).take n.toNat)) h' zD (gY hB) hkX
   rw [hX] at hF
   rw [e]
   simp only [exI,exC] at hF
   refine Vw gN [] 3791 [] fun w hP hQ=>?_
   refine K (hSp) ?_
   refine K (hT) ?_
   refine K (hI) ?_
   refine K (hF) ?_
   refine iV [] ?_
   refine N ?_
   refine bG [] (fun i:Nat=>[(5010,.box [.int .i64 X.ino,.int .i64 X.kind,.int .i64 X.links,.own 1 (aM (X.data++List.replicate i 0)),.own 2 (X.ents.map Ent.row),.own 2 (X.attrs.map Attr.row)])]) (fun i=>i≤n.toNat-X.data.length) (fun i=>n.toNat-X.data.length-i) (0) hP hQ (by simp; rfl) (by simp) ?_
   rintro i hi2 w1 hP1 hQ1
   refine N1 ?_
   have hb:X.data.length+i+1≤140737488355328:=by omega
   refine Jf (fun g=>?_) fun g=>?_
   ·rw [lY,lK2] at g
    simp +decide (maxSteps:=9^9) (disch:=omega) only[↓SB0,SX,seval,hQ,hQ1,hb,jT,lY,lK2]
    exact ⟨i+1,by rw [aaE],by omega,by omega⟩
   ·rw [lY,lK2] at g
    have hle:n≤((X.data.length+i:Nat):Int):=by omega
    rw [akY (i:=i) hi2 (by omega)]
    have hpl:n≤((xT X.data n.toNat).length:Nat):=by rw [xT]; simp; omega
    have hz:=And.intro hpl (And.intro n1 (And.intro jT (And.intro aft Int.sub_zero)))
    refine Nz1 ?_
    (first|refine cI hP (hS) rfl rfl ?_|refine cH hP (hS) rfl rfl ?_)
    refine N ?_
    all_goals exact T1
 ·have e:q8 t s n=(t,1):=by rw [q8,lK hc]
  rw [e]
  cases hB:bF t with
  | false=>
   rw [hB] at hT
   refine Vw gN [] 3791 [] fun w hP hQ=>?_
   refine K (hSp) ?_
   refine K (hT) ?_
   (first|refine cI hP (hC) rfl rfl ?_|refine cH hP (hC) rfl rfl ?_)
   refine N ?_
   all_goals exact T1
  | true=>
   rw [hB] at hT
   cases hpb:mL s with
   | false=>
    rw [hpb] at hSp
    refine Vw gN [] 3791 [] fun w hP hQ=>?_
    refine K (hSp) ?_
    refine K (hT) ?_
    (first|refine cI hP (hC) rfl rfl ?_|refine cH hP (hC) rfl rfl ?_)
    refine N ?_
    all_goals exact T1
   | true=>
    have hi:inR n 0 100=false:=by cases e:inR n 0 100 <;> simp_all
    rw [hpb] at hSp
    rw [hi] at hI
    refine Vw gN [] 3791 [] fun w hP hQ=>?_
    refine K (hSp) ?_
    refine K (hT) ?_
    refine K (hI) ?_
    (first|refine cI hP (hC) rfl rfl ?_|refine cH hP (hC) rfl rfl ?_)
    refine N ?_
    all_goals exact T1
theorem amy (l:List Attr) (e:Attr):l.map Attr.row++[[TV.str e.name,TV.str e.val]]=(l.take l.length++e::l.drop l.length).map Attr.row:=by simp [Attr.row]
theorem aip (L:List Attr) (k:Nat) (x:Attr):(L.map Attr.row).modify k (fun r=>TV.str x.name::TV.str x.val::r.drop 2)=(L.set k x).map Attr.row:=uC Attr.row L k x _ fun _ _=>rfl
theorem adI {l:List Attr} {k:Nat} {h:Attr} (hk:k<l.length):(((l.take (k+1)++h::l.drop (k+1))).map Attr.row)[k]?=some (Attr.row l[k]):=by rw [lL1,aav hk]; rfl
theorem aiq (l:List Attr) (e:Attr) (hu:UpK Attr.name l) (hl:l.length<2^30):bR Tryz.prog 182 [.ext 2 (l.map Attr.row),e.x] (.own 2 ((adq l e).map Attr.row)) [.undef,.undef]:=by
 have hb1:l.length*32≤140737488355328:=by omega
 have hb2:(l.length+1)*32≤140737488355328:=by omega
 refine Vw aeX [] 123 [] fun w hP hQ=>?_
 simp +decide (maxSteps:=9^9) (disch:=omega) only[↓SB0,SX,seval,hQ,ah1,hb1,hb2,lY,bX]
 rw [amy]
 refine iV [] ?_
 refine N ?_
 refine bG [] (fun s:Nat × Attr=>[(5,.own 2 ((l.take s.1++s.2::l.drop s.1).map Attr.row)),(6,.int .i64 (s.1:Nat))]) (fun s=>s.1≤l.length∧∀ j,s.1≤j→(h:j<l.length)→e.name<l[j].name) (fun s=>s.1) ((l.length,e)) hP hQ (rfl) (by simp; omega) ?_
 rintro ⟨k,x⟩ ⟨hk,hj⟩ w1 hP1 hQ1
 refine N1 ?_
 simp only at hk hj
 have hlen:=aau (h:=x) hk
 cases k with
 | zero=>
  have hz:=hlen
  refine Nz1 ?_
  rw [adq,qB hu hk hj (.inl rfl)]
  simp [Attr.row]
 | succ k=>
  have hkl:k<l.length:=by omega
  have w4:decide ((0:Int)<((k+1:Nat):Int))=true:=lM (by omega)
  simp +decide (maxSteps:=9^9) (disch:=omega) only[↓SB0,SX,seval,hQ,hQ1,w4,hlen,bX,adI (h:=x) hkl,Attr.row,acs,aij]
  refine Jf (fun g=>?_) fun g=>?_
  ·simp +decide (maxSteps:=9^9) (disch:=omega) only[↓SB0,SX,seval,hQ,hQ1,hlen,bX,adI (h:=x) hkl,Attr.row]
   exact ⟨(k,l[k]),by simp only [aip,qC _ _ hk,vV hkl],⟨by simp only; omega,fun j hj1 hj2=>by
    by_cases e:j=k
    ·subst e; exact g
    ·exact hj j (by simp only at hj1; omega) hj2⟩,by simp only; omega⟩
  ·simp +decide (maxSteps:=9^9) (disch:=omega) only[↓SB0,SX,seval,hQ,hQ1,hlen]
   rw [adq,qB hu hk hj (.inr ⟨by simpa using hkl,by simpa using g⟩),aip,qC _ _ hk]
theorem air {l:List Attr} {i:Nat} (h:i<l.length) (n:aA):p8 (l.take (i+1)) n=p8 (l.take i) n++(if l[i].name=n then [] else [l[i]]):=by
 unfold p8 ahH
 rw [lS h,lL3]
 congr 1
 by_cases e:l[i].name=n <;> simp [e]
theorem amz (X:Inode) (n:aA):(rR X (p8 X.attrs n)).sz≤X.sz:=by
 show X.data.length+szM Ent.sz X.ents+szM Attr.sz (p8 X.attrs n)≤X.data.length+szM Ent.sz X.ents+szM Attr.sz X.attrs
 have h1:(p8 X.attrs n).length≤X.attrs.length:=lL2 _ _
 have h2:=vR Attr.sz (fun a:Attr=>decide (a.name≠n)) X.attrs
 have h3:((p8 X.attrs n).map Attr.sz).sum≤(X.attrs.map Attr.sz).sum:=h2
 simp only [szM]; omega
theorem amA (l:List Attr) (e:Attr):szM Attr.sz (adq l e)≤szM Attr.sz l+(e.name.length+e.val.length)+1:=by
 have h1:(adq l e).length=l.length+1:=oB l e
 have h2:((adq l e).map Attr.sz).sum=(l.map Attr.sz).sum+(e.name.length+e.val.length):=by
  unfold adq
  clear h1
  induction l with
  | nil=>simp [tP,Attr.sz]
  | cons f l ih=>
   rw [tP]
   split
   ·simp only [lO,lB2,Attr.sz]; omega
   ·simp only [lO,lB2,ih]; omega
 simp only [szM]; omega
theorem afu (t:Tab) (s n v:aA) (h:t.sz<2^28) (hs:s.length<2^40) (hn:n.length<2^30) (hv:v.length<2^40):bR Tryz.prog 154 [t.x,.str s,.str n,.str v] (.tup [(j6 t s n v).1.o,.int .i64 (j6 t s n v).2]) [.undef,.undef,.undef,.undef]:=by
 have h':t.sz<2^40:=by omega
 have hC:=dV t h'
 have hT:=dF t h'
 have hSp:=dK s hs
 have hI:=bQ n (by omega)
 rw [show (aB s).2=mL s from rfl] at hSp
 by_cases hc:bF t=true∧mL s=true∧aW n=true∧v.length≤16
 ·obtain ⟨hB,hpb,hi,hv2⟩:=hc
  have hv':decide ((16:Int)<(v.length:Nat))=false:=lC (by omega)
  rw [hB] at hT
  rw [hpb] at hSp
  rw [hi] at hI
  have hF:=rC t s h' hs
  cases hX:cT t s with
  | error c=>
   have hc:decide (c=0)=false:=lC (nR hX)
   have e:j6 t s n v=(t,c):=by rw [j6,lF ⟨hB,hpb,hi,hv2⟩,hX]
   rw [hX] at hF
   rw [e]
   simp only [exI,exC] at hF
   refine Vw f6 [] 64287 [] fun w hP hQ=>?_
   refine K (hSp) ?_
   refine K (hT) ?_
   have hz:=hv'
   refine Kz (hI) ?_
   have hz:=hc
   refine Kz (hF) ?_
   (first|refine cI hP (hC) rfl rfl ?_|refine cH hP (hC) rfl rfl ?_)
   refine N ?_
   all_goals exact T1
  | ok X=>
   have e0:j6 t s n v=if v=[] then (aF t (rR X (p8 X.attrs n)),0) else if (p8 X.attrs n).length<4 then (aF t (rR X (adq (p8 X.attrs n) ⟨n,v⟩)),0) else (t,5):=by rw [j6,lF ⟨hB,hpb,hi,hv2⟩,hX]
   have ht:=(aS t).1 hB
   obtain ⟨kX,hkX⟩:=oN (aQ hX).2
   have zX:=(eS h).2 X (aQ hX).1
   have za:X.attrs.length<2^28:=by rw [Inode.sz,szM,szM] at zX; omega
   have z1:=amz X n
   have zc:(p8 X.attrs n).length≤X.attrs.length:=lL2 _ _
   have uX:=(ht.tab.ok X (aQ hX).1).1.attrs.up
   rw [hX] at hF
   rw [e0]
   simp only [exI,exC] at hF
   have z2:(rR X (adq (p8 X.attrs n) ⟨n,v⟩)).sz<2^40:=by
    have:=amA (p8 X.attrs n) ⟨n,v⟩
    simp only at this
    have e1:(rR X (p8 X.attrs n)).sz=X.data.length+szM Ent.sz X.ents+szM Attr.sz (p8 X.attrs n):=rfl
    show X.data.length+szM Ent.sz X.ents+szM Attr.sz (adq (p8 X.attrs n) ⟨n,v⟩)<_
    omega
   have hS1:=bK t (rR X (p8 X.attrs n)) h' (by omega) (gY hB) hkX
   have hS2:=bK t (rR X (adq (p8 X.attrs n) ⟨n,v⟩)) h' z2 (gY hB) hkX
   have hA:=aiq (p8 X.attrs n) ⟨n,v⟩ (qY uX n) (by omega)
   refine Vw f6 [] 64287 [] fun w hP hQ=>?_
   refine K (hSp) ?_
   refine K (hT) ?_
   have hz:=hv'
   refine Kz (hI) ?_
   refine K (hF) ?_
   refine iV [] ?_
   refine N ?_
   refine bG [] (fun i:Nat=>[(14,.own 2 ((p8 (X.attrs.take i) n).map Attr.row)),(15,.int .i64 i)]) (fun i=>i≤X.attrs.length) (fun i=>X.attrs.length-i) (0) hP hQ (rfl) (by simp) ?_
   rintro i hi2 w1 hP1 hQ1
   refine N1 ?_
   have hc:(p8 (X.attrs.take i) n).length≤X.attrs.length:=lU3 (lL2 _ _) (by simp; omega)
   refine Jf (fun g=>?_) fun g=>?_
   ·have ht:=air (l:=X.attrs) (i:=i) (by omega) n
    have hz:=(bW g)
    refine Nz1 ?_
    refine Jf (fun e=>?_) fun e=>?_
    ·rw [lF e,lU2] at ht
     refine N1 ?_
     exact ⟨i+1,by rw [ht]; rfl,by omega,by omega⟩
    ·rw [lK e] at ht
     have hb:((p8 (X.attrs.take i) n).length+1)*32≤140737488355328:=by omega
     have hz:=And.intro (bW g) hb
     refine Nz1 ?_
     exact ⟨i+1,by rw [ht,lO2]; rfl,by omega,by omega⟩
   ·obtain rfl:i=X.attrs.length:=by omega
    rw [lE2]
    by_cases g1:v=[]
    ·rw [lF g1] at hQ
     subst g1
     refine N1 ?_
     (first|refine cI hP (hS1) rfl rfl ?_|refine cH hP (hS1) rfl rfl ?_)
     refine N ?_
     all_goals exact T1
    ·have g1':decide (v=[])=false:=lC g1
     rw [lK g1] at hQ
     by_cases g2:(p8 X.attrs n).length<4
     ·have g2':decide ((4:Int)≤((p8 X.attrs n).length:Nat))=false:=lC (by omega)
      rw [lF g2] at hQ
      have hz:=And.intro g1' g2'
      refine Nz1 ?_
      refine K (hA) ?_
      (first|refine cI hP (hS2) rfl rfl ?_|refine cH hP (hS2) rfl rfl ?_)
      refine N ?_
      all_goals exact T1
     ·have g2':decide ((4:Int)≤((p8 X.attrs n).length:Nat))=true:=lM (by omega)
      rw [lK g2] at hQ
      have hz:=And.intro g1' g2'
      refine Nz1 ?_
      (first|refine cI hP (hC) rfl rfl ?_|refine cH hP (hC) rfl rfl ?_)
      refine N ?_
      all_goals exact T1
 ·have e:j6 t s n v=(t,1):=by rw [j6,lK hc]
  rw [e]
  cases hB:bF t with
  | false=>
   rw [hB] at hT
   refine Vw f6 [] 64287 [] fun w hP hQ=>?_
   refine K (hSp) ?_
   refine K (hT) ?_
   (first|refine cI hP (hC) rfl rfl ?_|refine cH hP (hC) rfl rfl ?_)
   refine N ?_
   all_goals exact T1
  | true=>
   rw [hB] at hT
   cases hpb:mL s with
   | false=>
    rw [hpb] at hSp
    refine Vw f6 [] 64287 [] fun w hP hQ=>?_
    refine K (hSp) ?_
    refine K (hT) ?_
    (first|refine cI hP (hC) rfl rfl ?_|refine cH hP (hC) rfl rfl ?_)
    refine N ?_
    all_goals exact T1
   | true=>
    rw [hpb] at hSp
    cases hi:aW n with
    | false=>
     rw [hi] at hI
     refine Vw f6 [] 64287 [] fun w hP hQ=>?_
     refine K (hSp) ?_
     refine K (hT) ?_
     refine K (hI) ?_
     (first|refine cI hP (hC) rfl rfl ?_|refine cH hP (hC) rfl rfl ?_)
     refine N ?_
     all_goals exact T1
    | true=>
     have hv':decide ((16:Int)<(v.length:Nat))=true:=lM (by
      by_cases e:v.length≤16
      ·exact absurd ⟨hB,hpb,hi,e⟩ hc
      ·omega)
     rw [hi] at hI
     refine Vw f6 [] 64287 [] fun w hP hQ=>?_
     refine K (hSp) ?_
     refine K (hT) ?_
     have hz:=hv'
     refine Kz (hI) ?_
     (first|refine cI hP (hC) rfl rfl ?_|refine cH hP (hC) rfl rfl ?_)
     refine N ?_
     all_goals exact T1
theorem ais (P:aA) (y:UInt8) (k:Nat):((aM P).modify k fun x=>TV.int .u8 ((y.toNat:Nat):Int)::List.drop 1 x)=aM (P.set k y):=by
 simp only [aM]
 rw [uC (fun b:UInt8=>[TV.int .u8 (b.toNat:Nat)]) P k y _ fun _ _=>rfl]
def wr (b:aA) (o:Nat) (d:aA) (i:Nat):aA:=b.take o++d.take i++b.drop (o+i)
theorem akZ {b d:aA} {o i:Nat} (h:o+d.length≤b.length) (hi:i≤d.length):(wr b o d i).length=b.length:=by
 unfold wr; simp; omega
theorem amB (b d:aA) (o:Nat):wr b o d 0=b:=by unfold wr; simp
theorem amC {b d:aA} {o i:Nat} (h:o+d.length≤b.length) (hi:i<d.length):(wr b o d i).set (o+i) d[i]=wr b o d (i+1):=by
 have hA:(b.take o++d.take i).length=o+i:=by simp; omega
 unfold wr
 rw [lG2 (show o+i<b.length by omega),List.set_append_right _ _ (by omega),hA,Nat.sub_self,List.set_cons_zero,lS hi]
 simp only [lP2,lT1,lD1,Nat.add_assoc]
theorem ak0 (b d:aA) (o:Nat):wr (xT b (o+d.length)) o d d.length=aiK b o d:=by
 unfold wr aiK
 rw [lE2]
 congr 1
 unfold xT
 by_cases h:o+d.length≤b.length
 ·rw [show o+d.length-b.length=0 by omega]; simp
 ·rw [lH4 (by simp; omega),lH4 (by omega)]
theorem acx (b:aA) (n:Nat):(xT b n).length=b.length+(n-b.length):=by rw [xT]; simp
theorem akw (b d:aA) (o:Nat):(aiK b o d).length≤b.length+o+d.length:=by
 rw [← ak0,akZ (by rw [acx]; omega) (lS1 _),acx]; omega
theorem afv (t:Tab) (s:aA) (n:Int) (d:aA) (h:t.sz<2^30) (hs:s.length<2^40) (hd:d.length<2^40):bR Tryz.prog 148 [t.x,.str s,.int .i64 n,.ext 1 (aM d)] (.tup [(gC t s n d).1.o,.int .i64 (gC t s n d).2]) [.undef,.undef,.undef,.undef]:=by
 have h':t.sz<2^40:=by omega
 have hC:=dV t h'
 have hT:=dF t h'
 have hSp:=dK s hs
 have hI:=aio n 0 100
 rw [show (aB s).2=mL s from rfl] at hSp
 by_cases hc:bF t=true∧mL s=true∧inR n 0 100=true
 ·obtain ⟨hB,hpb,hi⟩:=hc
  rw [hB] at hT
  rw [hpb] at hSp
  rw [hi] at hI
  obtain ⟨n1,n2⟩:=anu hi
  obtain ⟨k,rfl⟩:=Int.eq_ofNat_of_zero_le n1
  have hF:=qD t s h' hs
  cases hX:mK t s with
  | error c=>
   have hc:decide (c=0)=false:=lC (sC hX)
   have e:gC t s (k:Nat) d=(t,c):=by rw [gC,lF ⟨hB,hpb,hi⟩,hX]
   rw [hX] at hF
   rw [e]
   simp only [exI,exC] at hF
   refine Vw f4 [] 31519 [] fun w hP hQ=>?_
   refine K (hSp) ?_
   refine K (hT) ?_
   refine K (hI) ?_
   have hz:=hc
   refine Kz (hF) ?_
   (first|refine cI hP (hC) rfl rfl ?_|refine cH hP (hC) rfl rfl ?_)
   refine N ?_
   all_goals exact T1
  | ok X=>
   have e0:gC t s (k:Nat) d=if ((k:Nat):Int)+(d.length:Nat)≤100 then (aF t (tW X (aiK X.data k d)),0) else (t,5):=by rw [gC,lF ⟨hB,hpb,hi⟩,hX]; rfl
   rw [hX] at hF
   rw [e0]
   simp only [exI,exC] at hF
   by_cases g0:((k:Nat):Int)+(d.length:Nat)≤100
   ·have g0':decide ((100:Int)-(k:Nat)<(d.length:Nat))=false:=lC (by omega)
    rw [lF g0]
    obtain ⟨kX,hkX⟩:=oN (aQ (dE hX).1).2
    have zX:=(eS h).2 X (aQ (dE hX).1).1
    have zd:X.data.length<2^30:=by rw [Inode.sz] at zX; omega
    have zp:=akw X.data d k
    have zD:(tW X (aiK X.data k d)).sz<2^40:=by
     show (aiK X.data k d).length+szM Ent.sz X.ents+szM Attr.sz X.attrs<_
     rw [Inode.sz] at zX
     omega
    have hS:=bK t (tW X (aiK X.data k d)) h' zD (gY hB) hkX
    refine Vw f4 [] 31519 [] fun w hP hQ=>?_
    refine K (hSp) ?_
    refine K (hT) ?_
    refine K (hI) ?_
    have hz:=g0'
    refine Kz (hF) ?_
    refine iV [] ?_
    refine N ?_
    refine bG [] (fun i:Nat=>[(5012,.box [.int .i64 X.ino,.int .i64 X.kind,.int .i64 X.links,.own 1 (aM (X.data++List.replicate i 0)),.own 2 (X.ents.map Ent.row),.own 2 (X.attrs.map Attr.row)])]) (fun i=>i≤k+d.length-X.data.length) (fun i=>k+d.length-X.data.length-i) (0) hP hQ (by simp; rfl) (by simp) ?_
    rintro i hi2 w1 hP1 hQ1
    refine N1 ?_
    have hb:X.data.length+i+1≤140737488355328:=by omega
    refine Jf (fun g=>?_) fun g=>?_
    ·rw [lY,lK2] at g
     simp +decide (maxSteps:=9^9) (disch:=omega) only[↓SB0,SX,seval,hQ,hQ1,hb,jT,lY,lK2]
     exact ⟨i+1,by rw [aaE],by omega,by omega⟩
    ·rw [lY,lK2] at g
     rw [akY (n:=k+d.length) (i:=i) hi2 (by omega)]
     have hpl:=acx X.data (k+d.length)
     have hpk:k+d.length≤(xT X.data (k+d.length)).length:=by omega
     refine N1 ?_
     refine iV [] ?_
     refine N ?_
     refine bG [] (fun i:Nat=>[(5012,.box [.int .i64 X.ino,.int .i64 X.kind,.int .i64 X.links,.own 1 (aM (wr (xT X.data (k+d.length)) k d i)),.own 2 (X.ents.map Ent.row),.own 2 (X.attrs.map Attr.row)]),(14,.int .i64 i)]) (fun i=>i≤d.length) (fun i=>d.length-i) (0) hP hQ (by rw [amB]; rfl) (by simp) ?_
     rintro i hi3 w1 hP1 hQ1
     refine N1 ?_
     have hwl:=akZ hpk hi3
     refine Jf (fun g=>?_) fun g=>?_
     ·have hlt:i<d.length:=by omega
      have hz:((k:Nat)+(i:Nat):Int).toNat=k+i:=by omega
      have hz:=And.intro (bW g) (And.intro jT (And.intro hwl (And.intro tB (And.intro ais (And.intro hz (amC hpk hlt))))))
      refine Nz1 ?_
      exact ⟨i+1,rfl,by omega,by omega⟩
     ·obtain rfl:i=d.length:=by omega
      rw [ak0]
      refine N1 ?_
      (first|refine cI hP (hS) rfl rfl ?_|refine cH hP (hS) rfl rfl ?_)
      refine N ?_
      all_goals exact T1
   ·have g0':decide ((100:Int)-(k:Nat)<(d.length:Nat))=true:=lM (by omega)
    rw [lK g0]
    refine Vw f4 [] 31519 [] fun w hP hQ=>?_
    refine K (hSp) ?_
    refine K (hT) ?_
    refine K (hI) ?_
    have hz:=g0'
    refine Kz (hF) ?_
    (first|refine cI hP (hC) rfl rfl ?_|refine cH hP (hC) rfl rfl ?_)
    refine N ?_
    all_goals exact T1
 ·have e:gC t s n d=(t,1):=by rw [gC,lK hc]
  rw [e]
  cases hB:bF t with
  | false=>
   rw [hB] at hT
   refine Vw f4 [] 31519 [] fun w hP hQ=>?_
   refine K (hSp) ?_
   refine K (hT) ?_
   (first|refine cI hP (hC) rfl rfl ?_|refine cH hP (hC) rfl rfl ?_)
   refine N ?_
   all_goals exact T1
  | true=>
   rw [hB] at hT
   cases hpb:mL s with
   | false=>
    rw [hpb] at hSp
    refine Vw f4 [] 31519 [] fun w hP hQ=>?_
    refine K (hSp) ?_
    refine K (hT) ?_
    (first|refine cI hP (hC) rfl rfl ?_|refine cH hP (hC) rfl rfl ?_)
    refine N ?_
    all_goals exact T1
   | true=>
    have hi:inR n 0 100=false:=by cases e:inR n 0 100 <;> simp_all
    rw [hpb] at hSp
    rw [hi] at hI
    refine Vw f4 [] 31519 [] fun w hP hQ=>?_
    refine K (hSp) ?_
    refine K (hT) ?_
    refine K (hI) ?_
    (first|refine cI hP (hC) rfl rfl ?_|refine cH hP (hC) rfl rfl ?_)
    refine N ?_
    all_goals exact T1
theorem ak1 {α:Type} [DecidableEq α]:∀ (l m:List α),l.Nodup→(∀ x ∈ l,x ∈ m)→l.length≤m.length
 | [],m,_,_=>lM3 _
 | a::l,m,hn,hs=>by
  obtain ⟨h1,h2⟩:=lW4.1 hn
  have ha:=hs a List.mem_cons_self
  have:=ak1 l (m.erase a) h2 fun x hx=>(List.mem_erase_of_ne (fun e:x=a=>h1 (by rw [← e]; exact hx))).2 (hs x (List.mem_cons_of_mem _ hx))
  rw [List.length_erase_of_mem ha] at this
  have:=List.length_pos_of_mem ha
  simp only [lN1]
  omega
theorem aaF {α β:Type} (f:α→List β) (l:List α) (c:Nat) (h:∀ x ∈ l,(f x).length≤c):(l.flatMap f).length≤l.length*c:=by
 induction l with
 | nil=>simp
 | cons a l ih=>
  rw [List.flatMap_cons,lY,lN1,lP3]
  have:=h a List.mem_cons_self
  have:=ih fun x hx=>h x (List.mem_cons_of_mem _ hx)
  omega
def ait (t:Tab):List (Int × aA):=t.inodes.flatMap fun D=>D.ents.map fun e=>(D.ino,e.name)
theorem afw {t:Tab} (h:TreeOk t):(ait t).length≤300:=by
 have:=aaF (fun D:Inode=>D.ents.map fun e=>(D.ino,e.name)) t.inodes 10 fun D hD=>by
  rw [lW2]; exact (bM h hD).len
 have:=h.tab.len
 unfold ait
 omega
theorem aaG {t:Tab} (h:TreeOk t) {x:Inode} (hx:x ∈ t.inodes) (k:Nat):(iO t k x).length≤300:=by
 let f:List aA→Int × aA:=fun l=>((aP (aC t) l.dropLast x.ino).getD 0,l.getLast?.getD [])
 obtain ⟨p,hp⟩:=f9 h hx
 have key:∀ l ∈ iO t k x,∃ d n y e,l=d++[n]∧aP (aC t) (p++d) 1=some y.ino∧y ∈ t.inodes∧y.kind=2∧e ∈ y.ents∧e.name=n∧f l=(y.ino,n):=by
  intro l hl
  obtain ⟨h1,_,h3⟩:=(oC h k x hx l).1 hl
  obtain ⟨j,hj⟩:=lA1.1 h3
  rcases lC3 l with rfl | ⟨d,n,rfl⟩
  ·exact absurd rfl h1
  rw [lD3] at *
  obtain ⟨q,y,e,w1,w2,w3,w4,w5,w6,w7,w8⟩:=jX h hj
  refine ⟨d,n,y,e,rfl,?_,w3,w5,w6,w7,?_⟩
  ·rw [cE,hp,w4]; exact w1
  ·show ((aP (aC t) (d++[n]).dropLast x.ino).getD 0,(d++[n]).getLast?.getD [])=_
   rw [List.dropLast_concat,w1,List.getLast?_concat,w4]; rfl
 have hn:((iO t k x).map f).Nodup:=by
  rw [List.Nodup,List.pairwise_map]
  refine List.Pairwise.imp_of_mem ?_ (aai h k x hx)
  intro a b ha hb hne he
  obtain ⟨d,n,y,e,rfl,a2,a3,a4,_,_,a7⟩:=key a ha
  obtain ⟨d',n',y',e',rfl,b2,b3,b4,_,_,b7⟩:=key b hb
  rw [a7,b7] at he
  injection he with e1 e2
  rw [← e1] at b2
  have:=o0 h _ _ _ y (fV h a3) (nH h a3 a4) a2 b2
  exact hne (by rw [List.append_cancel_left this,e2])
 have hs:∀ z ∈ (iO t k x).map f,z ∈ ait t:=by
  intro z hz
  obtain ⟨l,hl,rfl⟩:=lX1.1 hz
  obtain ⟨d,n,y,e,rfl,_,a3,_,a5,a6,a7⟩:=key l hl
  rw [a7]
  exact lH3.2 ⟨y,a3,lX1.2 ⟨e,a5,by rw [a6]⟩⟩
 have:=ak1 _ _ hn hs
 rw [lW2] at this
 exact lU3 this (afw h)
theorem acy {α β:Type} {f g:α→List β} {l:List α} (h:∀ x ∈ l,f x=g x):l.flatMap f=l.flatMap g:=by
 rw [List.flatMap_def,List.flatMap_def,List.map_congr_left h]
def nT (t:Tab):Nat→Inode→aA→List aA
 | 0,_,_=>[]
 | k+1,x,s=>x.ents.flatMap fun e=>(s++[47]++e.name)::nT t k ((aC t e.ino).getD zN) (s++[47]++e.name)
theorem uH {t:Tab} (h:TreeOk t) (k:Nat):∀ (x:Inode),x ∈ t.inodes→∀ s,nT t k x s=(iO t k x).map fun l=>s++eT l:=by
 induction k with
 | zero=>intro x _ s; rfl
 | succ k ih=>
  intro x hx s
  rw [nT,iO,List.map_flatMap]
  refine acy fun e he=>?_
  obtain ⟨y,hy⟩:=lA1.1 (h.there x hx e he)
  obtain ⟨y1,y2⟩:=aL hy
  rw [hy]
  simp only [lF1,lB,lO,lX4]
  rw [ih y y1]
  congr 1
  ·simp [eT]
  ·refine List.map_congr_left fun l _=>?_
   simp [eT]
theorem adJ {t:Tab} (h:TreeOk t) {r:Inode} (hr:aC t 1=some r):nT t 30 r []=vO t:=by
 rw [uH h 30 r (aL hr).1,vO,hr]
 simp
theorem qE {α β:Type} (f:α→List β) (l:List α) (i:Nat):((l.take i).flatMap f).length≤(l.flatMap f).length:=by
 conv=>rhs; rw [← lJ i l,List.flatMap_append,lY]
 omega
theorem aaH {α β:Type} (f:α→List β) {l:List α} {i:Nat} (h:i<l.length):(l.take (i+1)).flatMap f=(l.take i).flatMap f++f l[i]:=by
 rw [lS h,List.flatMap_append]; simp
def cur (v:Value) (b:aA) (i:Nat) (h:Int):AV:=.box [.extv v 1 (aM b),.int .i64 i,.int .i64 h]
theorem adK (a:Int):∃ m:Nat,m<256∧IntKind.i64.wrap ((BitVec.ofInt IntKind.i64.bits a &&& BitVec.ofInt IntKind.i64.bits 255).toNat:Int)=(m:Int):=by
 refine ⟨(BitVec.ofInt IntKind.i64.bits a &&& BitVec.ofInt IntKind.i64.bits 255).toNat,?_,?_⟩
 ·rw [BitVec.toNat_and]
  have:(BitVec.ofInt IntKind.i64.bits 255).toNat=255:=by decide
  rw [this]
  exact lI4 Nat.and_le_right (by decide)
 ·rw [aas]
  rw [BitVec.toNat_and]
  have:(BitVec.ofInt IntKind.i64.bits 255).toNat=255:=by decide
  rw [this]
  exact lI4 Nat.and_le_right (by decide)
theorem anW (v:Value) (b:aA) (hl:b.length<2^48):∃ h,bR Tryz.prog 43 [.extv v 1 (aM b)] (cur v b 0 h) [.undef]:=by
 have key:∃ ret outs,(∃ h,ret=cur v b 0 h∧outs=[.undef])∧bR Tryz.prog 43 [.extv v 1 (aM b)] ret outs:=by
  refine bE hmx ahn [] 29 rfl [] ⟨lE rfl,lE rfl⟩ rfl ?_
  intro w hP hQ
  unfold zE
  refine N ?_
  refine iV [] ?_
  refine N ?_
  refine bG [] (fun s:Nat × Int=>[(4,.int .i64 (s.1:Nat)),(3,.int .i64 s.2)]) (fun s=>s.1≤b.length) (fun s=>b.length-s.1) ((0,351351+b.length)) hP hQ (rfl) (by simp) ?_
  rintro ⟨i,h⟩ hi w1 hP1 hQ1
  refine N1 ?_
  simp only at hi
  refine Jg (fun h1=>?_) fun h1=>?_
  ·have hz:=h1
   refine Nz1 ?_
   refine Jf (fun h2=>?_) fun h2=>?_
   ·have hz:=(bW h1)
    refine Nz1 ?_
    exact ⟨(i+1,_),rfl,by simp only; omega,by simp only; omega⟩
   ·refine N1 ?_
    exact ⟨_,rfl⟩
  ·have hz:=h1
   refine Nz1 ?_
   exact ⟨_,rfl⟩
 obtain ⟨_,_,⟨h,rfl,rfl⟩,hS⟩:=key
 exact ⟨h,hS⟩
theorem sE (v:Value) (b:aA) (i:Nat) (h:Int) (hl:b.length<2^48) (hi:i≤b.length):∃ (x i':Nat) (h':Int),x<256∧i'≤b.length∧bR Tryz.prog 97 [cur v b i h] (.int .i64 x) [cur v b i' h']:=by
 have key:∃ ret outs,(∃ (x i':Nat) (h':Int),x<256∧i'≤b.length∧ret=.int .i64 x∧outs=[cur v b i' h'])∧bR Tryz.prog 97 [cur v b i h] ret outs:=by
  by_cases h1:(i:Int)<(b.length:Nat)
  ·have d1:decide ((i:Int)<(b.length:Nat))=true:=lM h1
   unfold cur
   refine bE hmx vK [] 13 rfl [true] ⟨lE rfl,lE rfl⟩ rfl ?_
   intro w hP hQ
   unfold qS
   refine N ?_
   have hz:=And.intro d1 (bW h1)
   refine Nz ?_
   exact ⟨_,i+1,_,(adK _).choose_spec.1,by omega,congrArg (AV.int .i64) (adK _).choose_spec.2,rfl⟩
  ·have d1:decide ((i:Int)<(b.length:Nat))=false:=lC h1
   unfold cur
   refine bE hmx vK [] 13 rfl [true] ⟨lE rfl,lE rfl⟩ rfl ?_
   intro w hP hQ
   unfold qS
   refine N ?_
   have hz:=d1
   refine Nz ?_
   exact ⟨_,i,_,(adK _).choose_spec.1,hi,congrArg (AV.int .i64) (adK _).choose_spec.2,rfl⟩
 obtain ⟨_,_,⟨x,i',h',hx,hi',rfl,rfl⟩,hS⟩:=key
 exact ⟨x,i',h',hx,hi',hS⟩
theorem ak2 (a b:Nat):((a:Int)).tmod (b:Int)=((a%b:Nat):Int):=rfl
def uI (x:Nat) (n:Int):Prop:=if 0<n then (x:Int)<n else x=0
theorem gR (v:Value) (b:aA) (i:Nat) (h:Int) (n:Int) (hl:b.length<2^48) (hi:i≤b.length) (hn:n<2^62):∃ (x i':Nat) (h':Int),uI x n∧i'≤b.length ∧
  bR Tryz.prog 50 [cur v b i h,.int .i64 n] (.int .i64 x) [cur v b i' h',.undef]:=by
 by_cases h0:n≤0
 ·have d0:decide (n≤0)=true:=lM h0
  refine ⟨0,i,h,by rw [uI,lK (by omega)],hi,?_⟩
  unfold cur
  refine Vw oY [(97,[.l],[])] 243 [true,false] fun w hP hQ=>?_
  have hz:=d0
  exact Nz trivial
 ·have d0:decide (n≤0)=false:=lC h0
  obtain ⟨m,rfl⟩:∃ m:Nat,n=m:=⟨n.toNat,by omega⟩
  have hm:((m:Nat):Int)≠0:=by omega
  obtain ⟨x,i1,h1,hx,hi1,k1⟩:=sE v b i h hl hi
  by_cases h2:(m:Int)≤256
  ·have d2:decide ((m:Int)≤256)=true:=lM h2
   refine ⟨x%m,i1,h1,?_,hi1,?_⟩
   ·rw [uI,lF (by omega)]
    have:=Nat.mod_lt x (show m>0 by omega)
    omega
   unfold cur at *
   refine Vw oY [(97,[.l],[])] 243 [true,false] fun w hP hQ=>?_
   have hz:=And.intro d0 d2
   refine Nz ?_
   have hz:=And.intro hm ak2
   exact Kdz (k1) trivial
  ·have d2:decide ((m:Int)≤256)=false:=lC h2
   obtain ⟨y,i2,h2,hy,hi2,k2⟩:=sE v b i1 h1 hl hi1
   obtain ⟨z,i3,h3,hz,hi3,k3⟩:=sE v b i2 h2 hl hi2
   refine ⟨(x*65536+y*256+z)%m,i3,h3,?_,hi3,?_⟩
   ·rw [uI,lF (by omega)]
    have:=Nat.mod_lt (x*65536+y*256+z) (show m>0 by omega)
    omega
   have e:((x:Int)*65536+(y:Int)*256+(z:Int))=((x*65536+y*256+z:Nat):Int):=by omega
   have w1:IntKind.i64.wrap ((x:Int)*65536)=(x:Int)*65536:=by have:=aas (n:=x*65536) (by omega); simpa using this
   have w2:IntKind.i64.wrap ((y:Int)*256)=(y:Int)*256:=by have:=aas (n:=y*256) (by omega); simpa using this
   unfold cur at *
   refine Vw oY [(97,[.l],[])] 243 [true,false] fun w hP hQ=>?_
   have hz:=And.intro d0 d2
   refine Nz ?_
   refine Kd (k1) ?_
   refine Kd (k2) ?_
   have hz:=And.intro hm (And.intro e (And.intro ak2 (And.intro w1 w2)))
   exact Kdz (k3) trivial
theorem sF (v:Value) (b:aA) (i:Nat) (h:Int) (n:Int) (hl:b.length<2^48) (hi:i≤b.length) (hn:n<2^62):∃ (t:Bool) (i':Nat) (h':Int),i'≤b.length ∧
  bR Tryz.prog 84 [cur v b i h,.int .i64 n] (.bool t) [cur v b i' h',.undef]:=by
 obtain ⟨x,i1,h1,hx,hi1,k1⟩:=gR v b i h n hl hi hn
 refine ⟨decide ((x:Int)=0),i1,h1,hi1,?_⟩
 unfold cur at *
 refine Vw aeL [(50,[.l,.b],[])] 19 [true,false] fun w hP hQ=>?_
 exact Kd (k1) trivial
theorem akx (l:List Int):(l.map gQ).length=l.length:=lW2 _
theorem aky (l:List Int) (k:Nat):(l.map gQ)[k]?=(l[k]?).map fun v=>[TV.int .i64 v]:=by rw [lL1]; rfl
theorem dP (v:Value) (b:aA) (i:Nat) (h:Int) (l:List Int) (hl:b.length<2^48) (hi:i≤b.length) (h0:l≠[]) (hn:l.length<2^40):∃ (r:Int) (i':Nat) (h':Int),r ∈ l∧i'≤b.length ∧
  bR Tryz.prog 51 [cur v b i h,.ext 1 (l.map gQ)] (.int .i64 r) [cur v b i' h',.undef]:=by
 obtain ⟨x,i1,h1,hx,hi1,k1⟩:=gR v b i h l.length hl hi (by omega)
 have hp:0<l.length:=lI3.2 h0
 have hx':(x:Int)<(l.length:Nat):=by rw [uI,lF (by omega)] at hx; exact hx
 refine ⟨l[x]'(by omega),i1,h1,lQ _,hi1,?_⟩
 unfold cur at *
 refine Vw aho [(50,[.l,.b],[])] 19 [true,false] fun w hP hQ=>?_
 (first | refine iM hP (k1) (.inl ⟨rfl,fun _ hx=>hx⟩) ?_ | refine f0 hP (k1) (.inl ⟨rfl,fun _ hx=>hx⟩) ?_)
 simp +decide (maxSteps:=9^9) (disch:=omega) only[↓SB0,SX,seval,hQ,akx,aky,bW hx',gQ]
theorem acz (x:aA) (k:Int) (h:0≤k∧k<256):aM x++[[TV.int .u8 k]]=aM (x++[UInt8.ofNat k.toNat]):=by
 have:(UInt8.ofNat k.toNat).toNat=k.toNat:=by simp; omega
 simp [aM,this]
 omega
theorem aiu (v:Value) (b:aA) (i:Nat) (h:Int) (n:Int) (hl:b.length<2^48) (hi:i≤b.length) (hn:n<2^40):∃ (x:aA) (i':Nat) (h':Int),x.length=n.toNat∧i'≤b.length ∧
  bR Tryz.prog 121 [cur v b i h,.int .i64 n] (.own 1 (aM x)) [cur v b i' h',.undef]:=by
 have key:∃ ret outs,(∃ (x:aA) (i':Nat) (h':Int),x.length=n.toNat∧i'≤b.length∧ret=.own 1 (aM x)∧outs=[cur v b i' h',.undef])∧bR Tryz.prog 121 [cur v b i h,.int .i64 n] ret outs:=by
  unfold cur
  refine bE hmx abV [(97,[.l],[])] 115 rfl [true,false] ⟨lE rfl,lE rfl⟩ rfl ?_
  intro w hP hQ
  unfold tE
  refine N ?_
  refine iV [] ?_
  refine N ?_
  refine bG [] (fun s:aA × Nat × Int=>[(1000,.box [.extv v 1 (aM b),.int .i64 (s.2.1:Nat),.int .i64 s.2.2]),(5,.own 1 (aM s.1)),(6,.int .i64 (s.1.length:Nat))]) (fun s=>s.1.length≤n.toNat∧s.2.1≤b.length) (fun s=>n.toNat-s.1.length) (([],i,h)) hP hQ (by simp +decide (maxSteps:=9^9) (disch:=omega) only[↓SB0,SX,seval,hQ]; rfl) (⟨by simp,hi⟩) ?_
  rintro ⟨x,j,g⟩ ⟨hx,hj⟩ w1 hP1 hQ1
  refine N1 ?_
  simp only at hx hj
  refine Jf (fun h1=>?_) fun h1=>?_
  ·obtain ⟨y,j1,g1,hy,hj1,k1⟩:=sE v b j g hl hj
   unfold cur at k1
   refine N1 ?_
   refine Kd1 (k1) ?_
   rw [acz _ _ (by omega)]
   exact ⟨(x++[UInt8.ofNat (y:Int).toNat],j1,g1),by simp,⟨by simp; omega,hj1⟩,by simp; omega⟩
  ·refine N1 ?_
   exact ⟨x,j,g,by omega,hj,rfl,rfl⟩
 obtain ⟨_,_,⟨x,i',h',hx,hi',rfl,rfl⟩,hS⟩:=key
 exact ⟨x,i',h',hx,hi',hS⟩
theorem jD (v:Value) (b:aA) (i:Nat) (h:Int) (hl:b.length<2^48) (hi:i≤b.length):∃ (x:aA) (i':Nat) (h':Int),x.length≤9∧i'≤b.length ∧
  bR Tryz.prog 96 [cur v b i h] (.own 1 (aM x)) [cur v b i' h']:=by
 obtain ⟨r,i1,h1,hv,hi1,k1⟩:=dP v b i h [0,1,2,5,9] hl hi (by simp) (by simp)
 have hv':0≤r∧r≤9:=by simp at hv; omega
 obtain ⟨x,i2,h2,hx,hi2,k2⟩:=aiu v b i1 h1 r hl hi1 (by omega)
 refine ⟨x,i2,h2,by omega,hi2,?_⟩
 unfold cur at *
 simp only [gQ,lO,lH1] at k1
 refine Vw aeQ [(51,[.l,.b],[]),(121,[.l,.b],[])] 5 [true] fun w hP hQ=>?_
 refine Kd (k1) ?_
 exact Kd (k2) trivial
theorem aor (b:aA) (hl:b.length<2^48):bR Tryz.prog 9 [.ext 1 (aM b)] (.bool (decide ((1048576:Int)<(b.length:Nat)))) [.undef]:=by
 refine U alZ [] 5 [] fun w hP hQ=>?_
 unfold ag8
 exact N trivial
theorem sG (l:List aA) (k:Nat):(l.map mM)[k]?=(l[k]?).map fun v=>[TV.str v]:=by rw [lL1]; rfl
theorem acA (v:Value) (b:aA) (i:Nat) (h:Int) (l:List aA) (hl:b.length<2^48) (hi:i≤b.length) (h0:l≠[]) (hn:l.length<2^40):∃ (r:aA) (i':Nat) (h':Int),r ∈ l∧i'≤b.length ∧
  bR Tryz.prog 75 [cur v b i h,.ext 1 (l.map mM)] (.str r) [cur v b i' h',.undef]:=by
 obtain ⟨x,i1,h1,hx,hi1,k1⟩:=gR v b i h l.length hl hi (by omega)
 have hp:0<l.length:=lI3.2 h0
 have hx':(x:Int)<(l.length:Nat):=by rw [uI,lF (by omega)] at hx; exact hx
 refine ⟨l[x]'(by omega),i1,h1,lQ _,hi1,?_⟩
 unfold cur at *
 refine Vw ahq [(50,[.l,.b],[])] 19 [true,false] fun w hP hQ=>?_
 (first | refine iM hP (k1) (.inl ⟨rfl,fun _ hx=>hx⟩) ?_ | refine f0 hP (k1) (.inl ⟨rfl,fun _ hx=>hx⟩) ?_)
 simp +decide (maxSteps:=9^9) (disch:=omega) only[↓SB0,SX,seval,hQ,sG,bW hx',mM]
theorem xP (v:Value) (b:aA) (i:Nat) (h:Int) (hl:b.length<2^48) (hi:i≤b.length):∃ (r:aA) (i':Nat) (h':Int),r.length≤5∧i'≤b.length ∧
  bR Tryz.prog 95 [cur v b i h] (.str r) [cur v b i' h']:=by
 obtain ⟨r,i1,h1,hr,hi1,k1⟩:=acA v b i h [[97],[98],[99],[100,46,116,120,116]] hl hi (by simp) (by simp)
 have hv:r.length≤5:=by
  simp only [lG,lS4,or_false] at hr
  rcases hr with rfl | rfl | rfl | rfl <;> simp
 refine ⟨r,i1,h1,hv,hi1,?_⟩
 unfold cur at *
 simp only [mM,lO,lH1] at k1
 refine Vw aeP [(75,[.l,.b],[])] 5 [true] fun w hP hQ=>?_
 exact Kd (k1) trivial
theorem dQ (v:Value) (b:aA) (i:Nat) (h:Int) (hl:b.length<2^48) (hi:i≤b.length):∃ (r:aA) (i':Nat) (h':Int),r.length≤30∧i'≤b.length ∧
  bR Tryz.prog 93 [cur v b i h] (.str r) [cur v b i' h']:=by
 obtain ⟨x,i1,h1,hx,hi1,k1⟩:=gR v b i h 3 hl hi (by omega)
 have hx':(x:Int)<3:=by rw [uI,lF (by omega)] at hx; exact hx
 have key:∃ ret outs,(∃ (r:aA) (i':Nat) (h':Int),r.length≤30∧i'≤b.length∧ret=.str r∧outs=[cur v b i' h'])∧bR Tryz.prog 93 [cur v b i h] ret outs:=by
  unfold cur at *
  refine bE hmx aeO [(50,[.l,.b],[]),(95,[.l],[])] 29 rfl [true] ⟨lE rfl,lE rfl⟩ rfl ?_
  intro w hP hQ
  unfold vH
  refine N ?_
  refine Kd (k1) ?_
  refine iV [] ?_
  refine N ?_
  refine bG [] (fun s:Nat × aA × Nat × Int=>[(1000,.box [.extv v 1 (aM b),.int .i64 (s.2.2.1:Nat),.int .i64 s.2.2.2]),(3,.str s.2.1),(4,.int .i64 (s.1:Nat))]) (fun s=>s.1≤3∧s.2.1.length+s.1*6≤30∧s.2.2.1≤b.length) (fun s=>s.1) ((1+x,[],i1,h1)) hP hQ (by simp; rfl) (⟨by simp only; omega,by simp; omega,hi1⟩) ?_
  rintro ⟨n,r,j,g⟩ ⟨hn,hr,hj⟩ w1 hP1 hQ1
  refine N1 ?_
  simp only at hn hr hj
  refine Jf (fun g1=>?_) fun g1=>?_
  ·obtain ⟨y,j1,g2,hy,hj1,k2⟩:=xP v b j g hl hj
   unfold cur at k2
   have e1:r.length+1≤4611686018427387904:=by omega
   have e2:(r++[47]).length+y.length≤4611686018427387904:=by simp; omega
   have e3:((n:Nat):Int)-1=((n-1:Nat):Int):=by omega
   have hz:=e1
   refine Nz1 ?_
   have hz:=And.intro e2 e3
   refine anV (k2) ?_
   exact ⟨(n-1,r++[47]++y,j1,g2),rfl,⟨by simp only; omega,by simp; omega,hj1⟩,by simp only; omega⟩
  ·refine N1 ?_
   exact ⟨r,j,g,by omega,hj,rfl,rfl⟩
 obtain ⟨_,_,⟨r,i',h',hr,hi',rfl,rfl⟩,hS⟩:=key
 exact ⟨r,i',h',hr,hi',hS⟩
theorem aiv (v:Value) (b:aA) (i:Nat) (h:Int) (hl:b.length<2^48) (hi:i≤b.length):∃ (r:aA) (i':Nat) (h':Int),r.length≤30∧i'≤b.length ∧
  bR Tryz.prog 89 [cur v b i h] (.str r) [cur v b i' h']:=by
 obtain ⟨c,i1,h1,hi1,k1⟩:=sF v b i h 6 hl hi (by omega)
 cases c with
 | true=>
  obtain ⟨r,i2,h2,hr,hi2,k2⟩:=acA v b i1 h1 [[],[47],[97],[47,47],[47,97,47],[47,65],[47,46,46],[47,46],[47,102,105,102,116,101,101,110,98,121,116,101,115,120,120,120],[47,97,47,47,98]] hl hi1 (by simp) (by simp)
  have hv:r.length≤30:=by
   simp only [lG,lS4,or_false] at hr
   rcases hr with rfl | rfl | rfl | rfl | rfl | rfl | rfl | rfl | rfl | rfl <;> simp
  refine ⟨r,i2,h2,hv,hi2,?_⟩
  unfold cur at *
  simp only [mM,lO,lH1] at k2
  refine Vw zS [(84,[.l,.b],[]),(75,[.l,.b],[]),(93,[.l],[])] 5 [true] fun w hP hQ=>?_
  refine Kd (k1) ?_
  exact Kd (k2) trivial
 | false=>
  obtain ⟨r,i2,h2,hr,hi2,k2⟩:=dQ v b i1 h1 hl hi1
  refine ⟨r,i2,h2,hr,hi2,?_⟩
  unfold cur at *
  refine Vw zS [(84,[.l,.b],[]),(75,[.l,.b],[]),(93,[.l],[])] 5 [true] fun w hP hQ=>?_
  refine Kd (k1) ?_
  exact Kd (k2) trivial
def Of (l a:List aA):Prop:=a.length=l.length∧∀ x ∈ a,x ∈ l
theorem Of.set {l a:List aA} (h:Of l a) {k:Nat} {x:aA} (hx:x ∈ l):Of l (a.set k x):=
 ⟨by rw [List.length_set]; exact h.1,fun y hy=>by
  rcases List.mem_or_eq_of_mem_set hy with h1 | rfl
  ·exact h.2 y h1
  ·exact hx⟩
theorem acB (L:List aA) (k:Nat) (x:aA):(L.map mM).modify k (fun r=>TV.str x::r.drop 1)=(L.set k x).map mM:=uC mM L k x _ fun _ _=>rfl
theorem adL (l:List aA) (hl:l.length<2^40):∃ m:List aA,Of l m∧bR Tryz.prog 137 [.ext 1 (l.map mM)] (.own 1 (m.map mM)) [.undef]:=by
 have hb:l.length*16≤140737488355328:=by omega
 have key:∃ ret outs,(∃ m:List aA,Of l m∧ret=.own 1 (m.map mM)∧outs=[.undef])∧bR Tryz.prog 137 [.ext 1 (l.map mM)] ret outs:=by
  refine bE hmx aeU [] 125 rfl [] ⟨lE rfl,lE rfl⟩ rfl ?_
  intro w hP hQ
  unfold vJ
  refine N ?_
  have hz:=And.intro amf hb
  refine Nz ?_
  refine iV [5,6] ?_
  refine N ?_
  refine bG [5,6] (fun s:Nat × List aA=>[(3,.own 1 (s.2.map mM)),(4,.int .i64 (s.1:Nat))]) (fun s=>1≤s.1∧Of l s.2) (fun s=>l.length-s.1) ((1,l)) hP hQ (rfl) (⟨lS1 _,rfl,fun _ h=>h⟩) ?_
  rintro ⟨i,a⟩ ⟨hi,ha⟩ w1 hP1 hQ1
  refine N1 ?_
  simp only at hi ha
  have hal:=ha.1
  refine Jf (fun g=>?_) fun g=>?_
  ·have hlt:i<a.length:=by omega
   have hx:a[i] ∈ l:=ha.2 _ (lQ hlt)
   generalize hxx:a[i]=x at hx
   simp +decide (maxSteps:=9^9) (disch:=omega) only[↓SB0,SX,seval,hQ,hQ1,bW g,hxx,mM]
   refine iV [] ?_
   refine N1 ?_
   refine bG [] (fun s:Nat × List aA=>[(3,.own 1 (s.2.map mM)),(6,.int .i64 (s.1:Nat))]) (fun s=>s.1≤i∧Of l s.2) (fun s=>s.1) ((i,a)) hP1 hQ1 (rfl) (⟨lS1 _,ha⟩) ?_
   rintro ⟨j,c⟩ ⟨hj,hc⟩ w2 hP2 hQ2
   refine N2 ?_
   simp only at hj hc
   have hcl:=hc.1
   cases j with
   | zero=>
    have hd:(0:Nat)<c.length:=by omega
    have hz:=And.intro hcl (And.intro acB hd)
    refine Nz2 ?_
    exact ⟨(i+1,c.set 0 x),rfl,⟨by simp only; omega,hc.set hx⟩,by simp only; omega⟩
   | succ j=>
    have hjl:j<c.length:=by omega
    have hjl2:j+1<c.length:=by omega
    have w4:decide ((0:Int)<((j+1:Nat):Int))=true:=lM (by omega)
    have hm:c[j] ∈ l:=hc.2 _ (lQ hjl)
    simp +decide (maxSteps:=9^9) (disch:=omega) only[↓SB0,SX,seval,hQ,hQ1,hQ2,w4,hcl,bX,sG,lH hjl,mM,acs,aij]
    refine Jf (fun g2=>?_) fun g2=>?_
    ·simp +decide (maxSteps:=9^9) (disch:=omega) only[↓SB0,SX,seval,hQ,hQ1,hQ2,hcl,bX,sG,lH hjl,acB,mM]
     exact ⟨(j,c.set (j+1) c[j]),rfl,⟨by simp only; omega,hc.set hm⟩,by simp only; omega⟩
    ·have hz:=And.intro hcl acB
     refine Nz2 ?_
     exact ⟨(i+1,c.set (j+1) x),rfl,⟨by simp only; omega,hc.set hx⟩,by simp only; omega⟩
  ·refine N1 ?_
   exact ⟨a,ha,rfl⟩
 obtain ⟨_,_,⟨m,hm,rfl,rfl⟩,hS⟩:=key
 exact ⟨m,hm,hS⟩
theorem afx (t:Tab) (hB:bF t=true) (h:t.sz<2^40) (k:Nat):∀ (x:Inode) (s:aA) (L:List aA),x ∈ t.inodes→(∃ l,aP (aC t) l 1=some x.ino∧t.inodes.length≤l.length+k)→s.length+k*15<2^30→L.length+(nT t k x s).length<2^40 →
  bR Tryz.prog 136 [t.x,.int .i64 x.ino,.str s,.box [.own 1 (L.map mM)]] (.tup []) [.undef,.undef,.undef,.box [.own 1 ((L++nT t k x s).map mM)]]:=by
 have ht:=(aS t).1 hB
 induction k with
 | zero=>
  rintro x s L hx ⟨l,hl,hle⟩
  have:=(qX ht hl).1
  omega
 | succ k ih=>
  rintro x s L hx ⟨l,hl,hle⟩ hs hL
  have few:(nT t (k+1) x s).length≤300:=by rw [uH ht _ x hx,lW2]; exact aaG ht hx _
  rw [nT] at few hL ⊢
  generalize hf:(fun e:Ent=>(s++[47]++e.name)::nT t k ((aC t e.ino).getD zN) (s++[47]++e.name))=f at *
  have zx:=aaB h (fV ht hx)
  have ze:=(jC zx).2.1
  have hA:=rB t x.ino h
  rw [amj,fV ht hx] at hA
  simp only [lF1,lT2] at hA
  refine Vw abX [(136,[.b,.b,.b,.l],[])] 3359 [false,false,false,true] fun w hP hQ=>?_
  refine K (hA) ?_
  refine iV [11] ?_
  refine N ?_
  refine bG [11] (fun i:Nat=>[(1003,.box [.own 1 ((L++(x.ents.take i).flatMap f).map mM)]),(10,.int .i64 i)]) (fun i=>i≤x.ents.length) (fun i=>x.ents.length-i) (0) hP hQ (by simp; rfl) (by simp) ?_
  rintro i hi w1 hP1 hQ1
  refine N1 ?_
  have fi:=qE f x.ents i
  have fj:=qE f x.ents (i+1)
  refine Jf (fun g=>?_) fun g=>?_
  ·have hlt:i<x.ents.length:=by omega
   have hm:x.ents[i] ∈ x.ents:=lQ hlt
   have ek:=(bM ht hx).ok _ hm
   have nl:=mE ek.1
   obtain ⟨y,hy⟩:=lA1.1 (ht.there x hx _ hm)
   obtain ⟨y1,y2⟩:=aL hy
   have kx:x.kind=2:=by
    apply Classical.byContradiction
    intro hk
    have h0:=(nI ht hx hk).1
    rw [h0] at hlt
    exact absurd hlt (by simp)
   have hw:aP (aC t) (l++[x.ents[i].name]) 1=some y.ino:=by
    rw [cE,hl]
    exact (gO _ _ _ _).2 ⟨x,fV ht hx,kx,by rw [eN (bM ht hx).up hm,y2],by rw [y2]; omega⟩
   have ff:f x.ents[i]=(s++[47]++x.ents[i].name)::nT t k y (s++[47]++x.ents[i].name):=by rw [← hf]; simp only [hy]; rfl
   rw [aaH f hlt,ff] at fj
   simp only [lY,lN1] at fj
   have hI:=ih y (s++[47]++x.ents[i].name) (L++(x.ents.take i).flatMap f++[s++[47]++x.ents[i].name]) y1 ⟨_,hw,by simp; omega⟩ (by simp; omega) (by simp only [lY,List.length_singleton]; omega)
   rw [y2] at hI
   rw [lO2,List.map_singleton,show mM (s++[47]++x.ents[i].name)=[TV.str (s++[47]++x.ents[i].name)] from rfl] at hI
   have hb1:((L++(x.ents.take i).flatMap f).length+1)*16≤140737488355328:=by simp only [lY]; omega
   have hb3:(s++[47]).length+x.ents[i].name.length≤4611686018427387904:=by simp; omega
   have hb4:s.length+1≤4611686018427387904:=by omega
   generalize hM:L++(x.ents.take i).flatMap f=M at *
   have hz:=And.intro (bW g) (And.intro hb1 (And.intro hb3 hb4))
   refine Nz1 ?_
   refine K1 (hI) ?_
   exact ⟨i+1,by rw [aaH f hlt,ff,← lP2,hM]; simp [mM],by omega,by omega⟩
  ·obtain rfl:i=x.ents.length:=by omega
   simp +decide (maxSteps:=9^9) (disch:=omega) only[↓SB0,SX,seval,hQ,hQ1,lE2]
   all_goals exact T1
theorem akz {l:List aA} (h:∀ n ∈ l,n.length≤14):(eT l).length≤l.length*15:=
 aaF (fun n:aA=>47::n) l 15 fun n hn=>by have:=h n hn; simp only [lN1]; omega
theorem aiw {t:Tab} (h:TreeOk t) {s:aA} (hs:s ∈ vO t):s.length≤450:=by
 obtain ⟨l,h1,rfl,h3⟩:=(ae7 h s).1 hs
 obtain ⟨i,hi⟩:=lA1.1 h3
 obtain ⟨a,b⟩:=qX h hi
 have:=akz fun n hn=>(mE (b n hn)).2
 have:=h.tab.len
 omega
theorem afy (t:Tab) (h:t.sz<2^40):∃ m:List aA,m.length≤300∧(∀ s ∈ m,s.length≤450)∧bR Tryz.prog 120 [t.x] (.own 1 (m.map mM)) [.undef]:=by
 have hT:=dF t h
 cases hB:bF t with
 | false=>
  rw [hB] at hT
  obtain ⟨m,hm,hS⟩:=adL [] (by simp)
  obtain rfl:m=[]:=lQ1.1 hm.1
  refine ⟨[],by simp,by simp,?_⟩
  simp only [lH1] at hS ⊢
  refine Vw tG [(136,[.b,.b,.b,.l],[])] 15 [] fun w hP hQ=>?_
  refine K (hT) ?_
  (first|refine cI hP (hS) rfl rfl ?_|refine cH hP (hS) rfl rfl ?_)
  refine N ?_
  all_goals exact T1
 | true=>
  rw [hB] at hT
  have ht:=(aS t).1 hB
  obtain ⟨r,r1,r2,r3⟩:=eO ht
  have r4:=(aL r1).2
  have hl:t.inodes.length≤30:=ht.tab.len
  have few:(nT t 30 r []).length≤300:=by rw [uH ht _ r r3,lW2]; exact aaG ht r3 _
  have hPb:=afx t hB h 30 r [] [] r3 ⟨[],by rw [r4]; rfl,by simpa using hl⟩ (by simp) (by simp; omega)
  rw [r4,lD1,lH1,adJ ht r1] at hPb
  rw [adJ ht r1] at few
  obtain ⟨m,hm,hS⟩:=adL (vO t) (by omega)
  refine ⟨m,by rw [hm.1]; exact few,fun s hs=>aiw ht (hm.2 s hs),?_⟩
  refine Vw tG [(136,[.b,.b,.b,.l],[])] 15 [] fun w hP hQ=>?_
  refine K (hT) ?_
  refine K (hPb) ?_
  (first|refine cI hP (hS) rfl rfl ?_|refine cH hP (hS) rfl rfl ?_)
  refine N ?_
  all_goals exact T1
theorem jE (v:Value) (b:aA) (i:Nat) (h:Int) (t:Tab) (hl:b.length<2^48) (hi:i≤b.length) (ht:t.sz<2^40):∃ (r:aA) (i':Nat) (h':Int),r.length≤450∧i'≤b.length ∧
  bR Tryz.prog 94 [cur v b i h,t.x] (.str r) [cur v b i' h',.undef]:=by
 obtain ⟨m,m1,m2,hm⟩:=afy t ht
 by_cases h0:m=[]
 ·subst h0
  obtain ⟨r,i1,h1,hr,hi1,k1⟩:=aiv v b i h hl hi
  refine ⟨r,i1,h1,by omega,hi1,?_⟩
  simp only [lH1] at hm
  unfold cur at *
  refine Vw qT [(84,[.l,.b],[]),(50,[.l,.b],[]),(89,[.l],[])] 59 [true,false] fun w hP hQ=>?_
  refine K (hm) ?_
  (first | refine iM hP (k1) (.inl ⟨rfl,fun _ hx=>hx⟩) ?_ | refine f0 hP (k1) (.inl ⟨rfl,fun _ hx=>hx⟩) ?_)
  refine N ?_
  all_goals exact T1
 ·have hp:0<m.length:=lI3.2 h0
  have d0:decide ((0:Int)<(m.length:Nat))=true:=lM (by omega)
  obtain ⟨c,i1,h1,hi1,k1⟩:=sF v b i h 4 hl hi (by omega)
  cases c with
  | true=>
   obtain ⟨r,i2,h2,hr,hi2,k2⟩:=aiv v b i1 h1 hl hi1
   refine ⟨r,i2,h2,by omega,hi2,?_⟩
   unfold cur at *
   refine Vw qT [(84,[.l,.b],[]),(50,[.l,.b],[]),(89,[.l],[])] 59 [true,false] fun w hP hQ=>?_
   have hz:=d0
   refine Kz (hm) ?_
   refine Kd (k1) ?_
   (first | refine iM hP (k2) (.inl ⟨rfl,fun _ hx=>hx⟩) ?_ | refine f0 hP (k2) (.inl ⟨rfl,fun _ hx=>hx⟩) ?_)
   refine N ?_
   all_goals exact T1
  | false=>
   obtain ⟨x,i2,h2,hx,hi2,k2⟩:=gR v b i1 h1 m.length hl hi1 (by omega)
   have hx':(x:Int)<(m.length:Nat):=by rw [uI,lF (by omega)] at hx; exact hx
   refine ⟨m[x]'(by omega),i2,h2,m2 _ (lQ _),hi2,?_⟩
   unfold cur at *
   refine Vw qT [(84,[.l,.b],[]),(50,[.l,.b],[]),(89,[.l],[])] 59 [true,false] fun w hP hQ=>?_
   have hz:=d0
   refine Kz (hm) ?_
   refine Kd (k1) ?_
   (first | refine iM hP (k2) (.inl ⟨rfl,fun _ hx=>hx⟩) ?_ | refine f0 hP (k2) (.inl ⟨rfl,fun _ hx=>hx⟩) ?_)
   simp +decide (maxSteps:=9^9) (disch:=omega) only[↓SB0,SX,seval,hQ,sG,bW hx',mM]
   all_goals exact T1
theorem oF (v:Value) (b:aA) (i:Nat) (h:Int) (hl:b.length<2^48) (hi:i≤b.length):∃ (r:aA) (i':Nat) (h':Int),r.length≤5∧i'≤b.length ∧
  bR Tryz.prog 92 [cur v b i h] (.str r) [cur v b i' h']:=by
 obtain ⟨r,i1,h1,hr,hi1,k1⟩:=acA v b i h [[109,97,105,110],[115,110,97,112],[119,111,114,107],[118,52],[118,53]] hl hi (by simp) (by simp)
 have hv:r.length≤5:=by
  simp only [lG,lS4,or_false] at hr
  rcases hr with rfl | rfl | rfl | rfl | rfl <;> simp
 refine ⟨r,i1,h1,hv,hi1,?_⟩
 unfold cur at *
 simp only [mM,lO,lH1] at k1
 refine Vw aeN [(75,[.l,.b],[])] 5 [true] fun w hP hQ=>?_
 exact Kd (k1) trivial
def aix (o:Op):Prop:=o.path.length≤450∧o.to'.length≤30∧o.data.length≤9
theorem anv (v:Value) (b:aA) (i:Nat) (h:Int) (f:Fs) (hl:b.length<2^48) (hi:i≤b.length) (hf:f.sz<2^40):∃ (o:Op) (i':Nat) (h':Int),aix o∧i'≤b.length ∧
  bR Tryz.prog 49 [cur v b i h,f.x] o.o [cur v b i' h',.undef]:=by
 obtain ⟨z1,z2⟩:=afp hf
 obtain ⟨r,i1,h1,hr,hi1,k1⟩:=dP v b i h [1,2,2,3,3,3,4,5,6,7,8,9,10,11,12,13,14,1,2,3] hl hi (by simp) (by simp)
 obtain ⟨x,i2,h2,hx,hi2,k2⟩:=gR v b i1 h1 4 hl hi1 (by omega)
 have hx':(x:Int)<4:=by rw [uI,lF (by omega)] at hx; exact hx
 have hK:r=10∨r=11∨r=12∨r=13∨r=14∨r=1∨r=2∨r=9∨(3≤r∧r≤8):=by
  simp only [lG,lS4,or_false] at hr
  omega
 clear hr
 have key:∃ ret outs,(∃ (o:Op) (i':Nat) (h':Int),aix o∧i'≤b.length∧ret=o.o∧outs=[cur v b i' h',.undef])∧bR Tryz.prog 49 [cur v b i h,f.x] ret outs:=by
  unfold cur at *
  simp only [gQ,lO,lH1] at k1
  by_cases g0:f.vols=[]
  ·rcases hK with rfl | rfl | rfl | rfl | rfl | rfl | rfl | rfl | hK
   ·skip
    obtain ⟨p,i4,h4,hp,hi_i4,k4⟩:=oF v b i2 h2 hl hi2
    unfold cur at k4
    obtain ⟨n,i5,h5,_,hi_i5,k5⟩:=dP v b i4 h4 [500,1000,4000,100] hl hi_i4 (by simp) (by simp)
    unfold cur at k5
    simp only [gQ,lO,lH1] at k5
    refine bE hmx cB [(51,[.l,.b],[]),(50,[.l,.b],[]),(92,[.l],[]),(84,[.l,.b],[]),(93,[.l],[]),(94,[.l,.b],[]),(95,[.l],[]),(96,[.l],[])] 34359738619 rfl [true,false] ⟨lE rfl,lE rfl⟩ rfl ?_
    intro w hP hQ
    unfold bZ
    refine N ?_
    refine Kd (k1) ?_
    refine Kd (k2) ?_
    have hz:=g0
    refine Kdz (bJ) ?_
    refine Kd (k4) ?_
    refine Kd (k5) ?_
    exact ⟨⟨10,1+(x:Int),p,[],n,[]⟩,i5,h5,⟨by simp only; omega,by simp,by simp⟩,hi_i5,rfl,rfl⟩
   ·skip
    obtain ⟨p,i4,h4,hp,hi_i4,k4⟩:=oF v b i2 h2 hl hi2
    unfold cur at k4
    obtain ⟨n,i5,h5,_,hi_i5,k5⟩:=dP v b i4 h4 [500,1000,4000,100] hl hi_i4 (by simp) (by simp)
    unfold cur at k5
    simp only [gQ,lO,lH1] at k5
    refine bE hmx cB [(51,[.l,.b],[]),(50,[.l,.b],[]),(92,[.l],[]),(84,[.l,.b],[]),(93,[.l],[]),(94,[.l,.b],[]),(95,[.l],[]),(96,[.l],[])] 34359738619 rfl [true,false] ⟨lE rfl,lE rfl⟩ rfl ?_
    intro w hP hQ
    unfold bZ
    refine N ?_
    refine Kd (k1) ?_
    refine Kd (k2) ?_
    have hz:=g0
    refine Kdz (bJ) ?_
    refine Kd (k4) ?_
    refine Kd (k5) ?_
    exact ⟨⟨11,1+(x:Int),p,[],n,[]⟩,i5,h5,⟨by simp only; omega,by simp,by simp⟩,hi_i5,rfl,rfl⟩
   ·skip
    obtain ⟨p,i4,h4,hp,hi_i4,k4⟩:=oF v b i2 h2 hl hi2
    unfold cur at k4
    obtain ⟨n,i5,h5,_,hi_i5,k5⟩:=dP v b i4 h4 [500,1000,4000,100] hl hi_i4 (by simp) (by simp)
    unfold cur at k5
    simp only [gQ,lO,lH1] at k5
    refine bE hmx cB [(51,[.l,.b],[]),(50,[.l,.b],[]),(92,[.l],[]),(84,[.l,.b],[]),(93,[.l],[]),(94,[.l,.b],[]),(95,[.l],[]),(96,[.l],[])] 34359738619 rfl [true,false] ⟨lE rfl,lE rfl⟩ rfl ?_
    intro w hP hQ
    unfold bZ
    refine N ?_
    refine Kd (k1) ?_
    refine Kd (k2) ?_
    have hz:=g0
    refine Kdz (bJ) ?_
    refine Kd (k4) ?_
    refine Kd (k5) ?_
    exact ⟨⟨12,1+(x:Int),p,[],n,[]⟩,i5,h5,⟨by simp only; omega,by simp,by simp⟩,hi_i5,rfl,rfl⟩
   ·obtain ⟨c,i4,h4,hi_i4,k4⟩:=sF v b i2 h2 4 hl hi2 (by omega)
    unfold cur at k4
    cases c with
    | true=>
     refine bE hmx cB [(51,[.l,.b],[]),(50,[.l,.b],[]),(92,[.l],[]),(84,[.l,.b],[]),(93,[.l],[]),(94,[.l,.b],[]),(95,[.l],[]),(96,[.l],[])] 34359738619 rfl [true,false] ⟨lE rfl,lE rfl⟩ rfl ?_
     intro w hP hQ
     unfold bZ
     refine N ?_
     refine Kd (k1) ?_
     refine Kd (k2) ?_
     have hz:=g0
     refine Kdz (bJ) ?_
     refine Kd (k4) ?_
     exact ⟨⟨13,1+(x:Int),[],[],0,[]⟩,i4,h4,⟨by simp,by simp,by simp⟩,hi_i4,rfl,rfl⟩
    | false=>
     obtain ⟨p,i5,h5,hp,hi_i5,k5⟩:=dQ v b i4 h4 hl hi_i4
     unfold cur at k5
     refine bE hmx cB [(51,[.l,.b],[]),(50,[.l,.b],[]),(92,[.l],[]),(84,[.l,.b],[]),(93,[.l],[]),(94,[.l,.b],[]),(95,[.l],[]),(96,[.l],[])] 34359738619 rfl [true,false] ⟨lE rfl,lE rfl⟩ rfl ?_
     intro w hP hQ
     unfold bZ
     refine N ?_
     refine Kd (k1) ?_
     refine Kd (k2) ?_
     have hz:=g0
     refine Kdz (bJ) ?_
     refine Kd (k4) ?_
     refine Kd (k5) ?_
     exact ⟨⟨2,1+(x:Int),p,[],0,[]⟩,i5,h5,⟨by simp only; omega,by simp,by simp⟩,hi_i5,rfl,rfl⟩
   ·skip
    obtain ⟨n,i4,h4,_,hi_i4,k4⟩:=dP v b i2 h2 [100,500,4000] hl hi2 (by simp) (by simp)
    unfold cur at k4
    simp only [gQ,lO,lH1] at k4
    refine bE hmx cB [(51,[.l,.b],[]),(50,[.l,.b],[]),(92,[.l],[]),(84,[.l,.b],[]),(93,[.l],[]),(94,[.l,.b],[]),(95,[.l],[]),(96,[.l],[])] 34359738619 rfl [true,false] ⟨lE rfl,lE rfl⟩ rfl ?_
    intro w hP hQ
    unfold bZ
    refine N ?_
    refine Kd (k1) ?_
    refine Kd (k2) ?_
    have hz:=g0
    refine Kdz (bJ) ?_
    refine Kd (k4) ?_
    exact ⟨⟨14,1+(x:Int),[],[],n,[]⟩,i4,h4,⟨by simp,by simp,by simp⟩,hi_i4,rfl,rfl⟩
   ·skip
    obtain ⟨p,i4,h4,hp,hi_i4,k4⟩:=jE v b i2 h2 tab1 hl hi2 (by decide)
    unfold cur at k4
    obtain ⟨p2,i5,h5,hp2,hi_i5,k5⟩:=dQ v b i4 h4 hl hi_i4
    unfold cur at k5
    obtain ⟨q,i6,h6,hq,hi_i6,k6⟩:=dQ v b i5 h5 hl hi_i5
    unfold cur at k6
    obtain ⟨n,i8,h8,_,hi_i8,k8⟩:=dP v b i6 h6 [0,0,1,20] hl hi_i6 (by simp) (by simp)
    unfold cur at k8
    simp only [gQ,lO,lH1] at k8
    obtain ⟨d,i9,h9,hd,hi_i9,k9⟩:=jD v b i8 h8 hl hi_i8
    unfold cur at k9
    refine bE hmx cB [(51,[.l,.b],[]),(50,[.l,.b],[]),(92,[.l],[]),(84,[.l,.b],[]),(93,[.l],[]),(94,[.l,.b],[]),(95,[.l],[]),(96,[.l],[])] 34359738619 rfl [true,false] ⟨lE rfl,lE rfl⟩ rfl ?_
    intro w hP hQ
    unfold bZ
    refine N ?_
    refine Kd (k1) ?_
    refine Kd (k2) ?_
    have hz:=g0
    refine Kdz (bJ) ?_
    refine Kd (k4) ?_
    refine Kd (k5) ?_
    refine Kd (k6) ?_
    refine Kd (k8) ?_
    refine Kd (k9) ?_
    exact ⟨⟨1,1+(x:Int),p2,q,n,d⟩,i9,h9,⟨by simp only; omega,by simp only; omega,hd⟩,hi_i9,rfl,rfl⟩
   ·skip
    obtain ⟨p,i4,h4,hp,hi_i4,k4⟩:=jE v b i2 h2 tab1 hl hi2 (by decide)
    unfold cur at k4
    obtain ⟨p2,i5,h5,hp2,hi_i5,k5⟩:=dQ v b i4 h4 hl hi_i4
    unfold cur at k5
    obtain ⟨q,i6,h6,hq,hi_i6,k6⟩:=dQ v b i5 h5 hl hi_i5
    unfold cur at k6
    obtain ⟨n,i8,h8,_,hi_i8,k8⟩:=dP v b i6 h6 [0,0,1,20] hl hi_i6 (by simp) (by simp)
    unfold cur at k8
    simp only [gQ,lO,lH1] at k8
    obtain ⟨d,i9,h9,hd,hi_i9,k9⟩:=jD v b i8 h8 hl hi_i8
    unfold cur at k9
    refine bE hmx cB [(51,[.l,.b],[]),(50,[.l,.b],[]),(92,[.l],[]),(84,[.l,.b],[]),(93,[.l],[]),(94,[.l,.b],[]),(95,[.l],[]),(96,[.l],[])] 34359738619 rfl [true,false] ⟨lE rfl,lE rfl⟩ rfl ?_
    intro w hP hQ
    unfold bZ
    refine N ?_
    refine Kd (k1) ?_
    refine Kd (k2) ?_
    have hz:=g0
    refine Kdz (bJ) ?_
    refine Kd (k4) ?_
    refine Kd (k5) ?_
    refine Kd (k6) ?_
    refine Kd (k8) ?_
    refine Kd (k9) ?_
    exact ⟨⟨2,1+(x:Int),p2,q,n,d⟩,i9,h9,⟨by simp only; omega,by simp only; omega,hd⟩,hi_i9,rfl,rfl⟩
   ·skip
    obtain ⟨p,i4,h4,hp,hi_i4,k4⟩:=jE v b i2 h2 tab1 hl hi2 (by decide)
    unfold cur at k4
    obtain ⟨q,i6,h6,hq,hi_i6,k6⟩:=dQ v b i4 h4 hl hi_i4
    unfold cur at k6
    obtain ⟨q2,i7,h7,hq2,hi_i7,k7⟩:=xP v b i6 h6 hl hi_i6
    unfold cur at k7
    obtain ⟨n,i8,h8,_,hi_i8,k8⟩:=dP v b i7 h7 [0,0,1,20] hl hi_i7 (by simp) (by simp)
    unfold cur at k8
    simp only [gQ,lO,lH1] at k8
    obtain ⟨d,i9,h9,hd,hi_i9,k9⟩:=jD v b i8 h8 hl hi_i8
    unfold cur at k9
    refine bE hmx cB [(51,[.l,.b],[]),(50,[.l,.b],[]),(92,[.l],[]),(84,[.l,.b],[]),(93,[.l],[]),(94,[.l,.b],[]),(95,[.l],[]),(96,[.l],[])] 34359738619 rfl [true,false] ⟨lE rfl,lE rfl⟩ rfl ?_
    intro w hP hQ
    unfold bZ
    refine N ?_
    refine Kd (k1) ?_
    refine Kd (k2) ?_
    have hz:=g0
    refine Kdz (bJ) ?_
    refine Kd (k4) ?_
    refine Kd (k6) ?_
    refine Kd (k7) ?_
    refine Kd (k8) ?_
    refine Kd (k9) ?_
    exact ⟨⟨9,1+(x:Int),p,q2,n,d⟩,i9,h9,⟨by simp only; omega,by simp only; omega,hd⟩,hi_i9,rfl,rfl⟩
   ·skip
    have d10:decide (r=10)=false:=lC (by omega)
    have d11:decide (r=11)=false:=lC (by omega)
    have d12:decide (r=12)=false:=lC (by omega)
    have d13:decide (r=13)=false:=lC (by omega)
    have d14:decide (r=14)=false:=lC (by omega)
    have d1:decide (r=1)=false:=lC (by omega)
    have d2:decide (r=2)=false:=lC (by omega)
    have d9:decide (r=9)=false:=lC (by omega)
    obtain ⟨p,i4,h4,hp,hi_i4,k4⟩:=jE v b i2 h2 tab1 hl hi2 (by decide)
    unfold cur at k4
    obtain ⟨q,i6,h6,hq,hi_i6,k6⟩:=dQ v b i4 h4 hl hi_i4
    unfold cur at k6
    obtain ⟨n,i8,h8,_,hi_i8,k8⟩:=dP v b i6 h6 [0,0,1,20] hl hi_i6 (by simp) (by simp)
    unfold cur at k8
    simp only [gQ,lO,lH1] at k8
    obtain ⟨d,i9,h9,hd,hi_i9,k9⟩:=jD v b i8 h8 hl hi_i8
    unfold cur at k9
    refine bE hmx cB [(51,[.l,.b],[]),(50,[.l,.b],[]),(92,[.l],[]),(84,[.l,.b],[]),(93,[.l],[]),(94,[.l,.b],[]),(95,[.l],[]),(96,[.l],[])] 34359738619 rfl [true,false] ⟨lE rfl,lE rfl⟩ rfl ?_
    intro w hP hQ
    unfold bZ
    refine N ?_
    refine Kd (k1) ?_
    refine Kd (k2) ?_
    have hz:=And.intro g0 (And.intro d10 (And.intro d11 (And.intro d12 (And.intro d13 (And.intro d14 (And.intro d1 (And.intro d2 d9)))))))
    refine Kdz (bJ) ?_
    have hz:=And.intro d1 (And.intro d2 d9)
    refine Kdz (k4) ?_
    have hz:=And.intro d1 (And.intro d2 d9)
    refine Kdz (k6) ?_
    have hz:=And.intro d1 (And.intro d2 d9)
    refine Kdz (k8) ?_
    have hz:=And.intro d1 (And.intro d2 d9)
    refine Kdz (k9) ?_
    exact ⟨⟨r,1+(x:Int),p,q,n,d⟩,i9,h9,⟨by simp only; omega,by simp only; omega,hd⟩,hi_i9,rfl,rfl⟩
  ·have hp0:0<f.vols.length:=lI3.2 g0
   have g1:decide ((0:Int)<(f.vols.length:Nat))=true:=lM (by omega)
   obtain ⟨y,i3,h3,hy,hi3,k3⟩:=gR v b i2 h2 f.vols.length hl hi2 (by omega)
   have hy':(y:Int)<(f.vols.length:Nat):=by rw [uI,lF (by omega)] at hy; exact hy
   have hyl:y<f.vols.length:=by omega
   unfold cur at k3
   rcases hK with rfl | rfl | rfl | rfl | rfl | rfl | rfl | rfl | hK
   ·skip
    obtain ⟨p,i4,h4,hp,hi_i4,k4⟩:=oF v b i3 h3 hl hi3
    unfold cur at k4
    obtain ⟨n,i5,h5,_,hi_i5,k5⟩:=dP v b i4 h4 [500,1000,4000,100] hl hi_i4 (by simp) (by simp)
    unfold cur at k5
    simp only [gQ,lO,lH1] at k5
    refine bE hmx cB [(51,[.l,.b],[]),(50,[.l,.b],[]),(92,[.l],[]),(84,[.l,.b],[]),(93,[.l],[]),(94,[.l,.b],[]),(95,[.l],[]),(96,[.l],[])] 34359738619 rfl [true,false] ⟨lE rfl,lE rfl⟩ rfl ?_
    intro w hP hQ
    unfold bZ
    refine N ?_
    refine Kd (k1) ?_
    refine Kd (k2) ?_
    have hz:=g1
    refine Kdz (bJ) ?_
    have hz:=(bW hy')
    refine Kdz (k3) ?_
    refine Kd (k4) ?_
    refine Kd (k5) ?_
    exact ⟨⟨10,(f.vols[y]'hyl).id,p,[],n,[]⟩,i5,h5,⟨by simp only; omega,by simp,by simp⟩,hi_i5,rfl,rfl⟩
   ·skip
    obtain ⟨p,i4,h4,hp,hi_i4,k4⟩:=oF v b i3 h3 hl hi3
    unfold cur at k4
    obtain ⟨n,i5,h5,_,hi_i5,k5⟩:=dP v b i4 h4 [500,1000,4000,100] hl hi_i4 (by simp) (by simp)
    unfold cur at k5
    simp only [gQ,lO,lH1] at k5
    refine bE hmx cB [(51,[.l,.b],[]),(50,[.l,.b],[]),(92,[.l],[]),(84,[.l,.b],[]),(93,[.l],[]),(94,[.l,.b],[]),(95,[.l],[]),(96,[.l],[])] 34359738619 rfl [true,false] ⟨lE rfl,lE rfl⟩ rfl ?_
    intro w hP hQ
    unfold bZ
    refine N ?_
    refine Kd (k1) ?_
    refine Kd (k2) ?_
    have hz:=g1
    refine Kdz (bJ) ?_
    have hz:=(bW hy')
    refine Kdz (k3) ?_
    refine Kd (k4) ?_
    refine Kd (k5) ?_
    exact ⟨⟨11,(f.vols[y]'hyl).id,p,[],n,[]⟩,i5,h5,⟨by simp only; omega,by simp,by simp⟩,hi_i5,rfl,rfl⟩
   ·skip
    obtain ⟨p,i4,h4,hp,hi_i4,k4⟩:=oF v b i3 h3 hl hi3
    unfold cur at k4
    obtain ⟨n,i5,h5,_,hi_i5,k5⟩:=dP v b i4 h4 [500,1000,4000,100] hl hi_i4 (by simp) (by simp)
    unfold cur at k5
    simp only [gQ,lO,lH1] at k5
    refine bE hmx cB [(51,[.l,.b],[]),(50,[.l,.b],[]),(92,[.l],[]),(84,[.l,.b],[]),(93,[.l],[]),(94,[.l,.b],[]),(95,[.l],[]),(96,[.l],[])] 34359738619 rfl [true,false] ⟨lE rfl,lE rfl⟩ rfl ?_
    intro w hP hQ
    unfold bZ
    refine N ?_
    refine Kd (k1) ?_
    refine Kd (k2) ?_
    have hz:=g1
    refine Kdz (bJ) ?_
    have hz:=(bW hy')
    refine Kdz (k3) ?_
    refine Kd (k4) ?_
    refine Kd (k5) ?_
    exact ⟨⟨12,(f.vols[y]'hyl).id,p,[],n,[]⟩,i5,h5,⟨by simp only; omega,by simp,by simp⟩,hi_i5,rfl,rfl⟩
   ·obtain ⟨c,i4,h4,hi_i4,k4⟩:=sF v b i3 h3 4 hl hi3 (by omega)
    unfold cur at k4
    cases c with
    | true=>
     refine bE hmx cB [(51,[.l,.b],[]),(50,[.l,.b],[]),(92,[.l],[]),(84,[.l,.b],[]),(93,[.l],[]),(94,[.l,.b],[]),(95,[.l],[]),(96,[.l],[])] 34359738619 rfl [true,false] ⟨lE rfl,lE rfl⟩ rfl ?_
     intro w hP hQ
     unfold bZ
     refine N ?_
     refine Kd (k1) ?_
     refine Kd (k2) ?_
     have hz:=g1
     refine Kdz (bJ) ?_
     have hz:=(bW hy')
     refine Kdz (k3) ?_
     refine Kd (k4) ?_
     exact ⟨⟨13,(f.vols[y]'hyl).id,[],[],0,[]⟩,i4,h4,⟨by simp,by simp,by simp⟩,hi_i4,rfl,rfl⟩
    | false=>
     obtain ⟨p,i5,h5,hp,hi_i5,k5⟩:=dQ v b i4 h4 hl hi_i4
     unfold cur at k5
     refine bE hmx cB [(51,[.l,.b],[]),(50,[.l,.b],[]),(92,[.l],[]),(84,[.l,.b],[]),(93,[.l],[]),(94,[.l,.b],[]),(95,[.l],[]),(96,[.l],[])] 34359738619 rfl [true,false] ⟨lE rfl,lE rfl⟩ rfl ?_
     intro w hP hQ
     unfold bZ
     refine N ?_
     refine Kd (k1) ?_
     refine Kd (k2) ?_
     have hz:=g1
     refine Kdz (bJ) ?_
     have hz:=(bW hy')
     refine Kdz (k3) ?_
     refine Kd (k4) ?_
     refine Kd (k5) ?_
     exact ⟨⟨2,(f.vols[y]'hyl).id,p,[],0,[]⟩,i5,h5,⟨by simp only; omega,by simp,by simp⟩,hi_i5,rfl,rfl⟩
   ·skip
    obtain ⟨n,i4,h4,_,hi_i4,k4⟩:=dP v b i3 h3 [100,500,4000] hl hi3 (by simp) (by simp)
    unfold cur at k4
    simp only [gQ,lO,lH1] at k4
    refine bE hmx cB [(51,[.l,.b],[]),(50,[.l,.b],[]),(92,[.l],[]),(84,[.l,.b],[]),(93,[.l],[]),(94,[.l,.b],[]),(95,[.l],[]),(96,[.l],[])] 34359738619 rfl [true,false] ⟨lE rfl,lE rfl⟩ rfl ?_
    intro w hP hQ
    unfold bZ
    refine N ?_
    refine Kd (k1) ?_
    refine Kd (k2) ?_
    have hz:=g1
    refine Kdz (bJ) ?_
    have hz:=(bW hy')
    refine Kdz (k3) ?_
    refine Kd (k4) ?_
    exact ⟨⟨14,(f.vols[y]'hyl).id,[],[],n,[]⟩,i4,h4,⟨by simp,by simp,by simp⟩,hi_i4,rfl,rfl⟩
   ·skip
    obtain ⟨p,i4,h4,hp,hi_i4,k4⟩:=jE v b i3 h3 (f.vols[y]'hyl).t hl hi3 (z2 _ (lQ hyl))
    unfold cur at k4
    obtain ⟨p2,i5,h5,hp2,hi_i5,k5⟩:=dQ v b i4 h4 hl hi_i4
    unfold cur at k5
    obtain ⟨q,i6,h6,hq,hi_i6,k6⟩:=dQ v b i5 h5 hl hi_i5
    unfold cur at k6
    obtain ⟨n,i8,h8,_,hi_i8,k8⟩:=dP v b i6 h6 [0,0,1,20] hl hi_i6 (by simp) (by simp)
    unfold cur at k8
    simp only [gQ,lO,lH1] at k8
    obtain ⟨d,i9,h9,hd,hi_i9,k9⟩:=jD v b i8 h8 hl hi_i8
    unfold cur at k9
    refine bE hmx cB [(51,[.l,.b],[]),(50,[.l,.b],[]),(92,[.l],[]),(84,[.l,.b],[]),(93,[.l],[]),(94,[.l,.b],[]),(95,[.l],[]),(96,[.l],[])] 34359738619 rfl [true,false] ⟨lE rfl,lE rfl⟩ rfl ?_
    intro w hP hQ
    unfold bZ
    refine N ?_
    refine Kd (k1) ?_
    refine Kd (k2) ?_
    have hz:=g1
    refine Kdz (bJ) ?_
    have hz:=(bW hy')
    refine Kdz (k3) ?_
    refine Kd (k4) ?_
    refine Kd (k5) ?_
    refine Kd (k6) ?_
    refine Kd (k8) ?_
    refine Kd (k9) ?_
    exact ⟨⟨1,(f.vols[y]'hyl).id,p2,q,n,d⟩,i9,h9,⟨by simp only; omega,by simp only; omega,hd⟩,hi_i9,rfl,rfl⟩
   ·skip
    obtain ⟨p,i4,h4,hp,hi_i4,k4⟩:=jE v b i3 h3 (f.vols[y]'hyl).t hl hi3 (z2 _ (lQ hyl))
    unfold cur at k4
    obtain ⟨p2,i5,h5,hp2,hi_i5,k5⟩:=dQ v b i4 h4 hl hi_i4
    unfold cur at k5
    obtain ⟨q,i6,h6,hq,hi_i6,k6⟩:=dQ v b i5 h5 hl hi_i5
    unfold cur at k6
    obtain ⟨n,i8,h8,_,hi_i8,k8⟩:=dP v b i6 h6 [0,0,1,20] hl hi_i6 (by simp) (by simp)
    unfold cur at k8
    simp only [gQ,lO,lH1] at k8
    obtain ⟨d,i9,h9,hd,hi_i9,k9⟩:=jD v b i8 h8 hl hi_i8
    unfold cur at k9
    refine bE hmx cB [(51,[.l,.b],[]),(50,[.l,.b],[]),(92,[.l],[]),(84,[.l,.b],[]),(93,[.l],[]),(94,[.l,.b],[]),(95,[.l],[]),(96,[.l],[])] 34359738619 rfl [true,false] ⟨lE rfl,lE rfl⟩ rfl ?_
    intro w hP hQ
    unfold bZ
    refine N ?_
    refine Kd (k1) ?_
    refine Kd (k2) ?_
    have hz:=g1
    refine Kdz (bJ) ?_
    have hz:=(bW hy')
    refine Kdz (k3) ?_
    refine Kd (k4) ?_
    refine Kd (k5) ?_
    refine Kd (k6) ?_
    refine Kd (k8) ?_
    refine Kd (k9) ?_
    exact ⟨⟨2,(f.vols[y]'hyl).id,p2,q,n,d⟩,i9,h9,⟨by simp only; omega,by simp only; omega,hd⟩,hi_i9,rfl,rfl⟩
   ·skip
    obtain ⟨p,i4,h4,hp,hi_i4,k4⟩:=jE v b i3 h3 (f.vols[y]'hyl).t hl hi3 (z2 _ (lQ hyl))
    unfold cur at k4
    obtain ⟨q,i6,h6,hq,hi_i6,k6⟩:=dQ v b i4 h4 hl hi_i4
    unfold cur at k6
    obtain ⟨q2,i7,h7,hq2,hi_i7,k7⟩:=xP v b i6 h6 hl hi_i6
    unfold cur at k7
    obtain ⟨n,i8,h8,_,hi_i8,k8⟩:=dP v b i7 h7 [0,0,1,20] hl hi_i7 (by simp) (by simp)
    unfold cur at k8
    simp only [gQ,lO,lH1] at k8
    obtain ⟨d,i9,h9,hd,hi_i9,k9⟩:=jD v b i8 h8 hl hi_i8
    unfold cur at k9
    refine bE hmx cB [(51,[.l,.b],[]),(50,[.l,.b],[]),(92,[.l],[]),(84,[.l,.b],[]),(93,[.l],[]),(94,[.l,.b],[]),(95,[.l],[]),(96,[.l],[])] 34359738619 rfl [true,false] ⟨lE rfl,lE rfl⟩ rfl ?_
    intro w hP hQ
    unfold bZ
    refine N ?_
    refine Kd (k1) ?_
    refine Kd (k2) ?_
    have hz:=g1
    refine Kdz (bJ) ?_
    have hz:=(bW hy')
    refine Kdz (k3) ?_
    refine Kd (k4) ?_
    refine Kd (k6) ?_
    refine Kd (k7) ?_
    refine Kd (k8) ?_
    refine Kd (k9) ?_
    exact ⟨⟨9,(f.vols[y]'hyl).id,p,q2,n,d⟩,i9,h9,⟨by simp only; omega,by simp only; omega,hd⟩,hi_i9,rfl,rfl⟩
   ·skip
    have d10:decide (r=10)=false:=lC (by omega)
    have d11:decide (r=11)=false:=lC (by omega)
    have d12:decide (r=12)=false:=lC (by omega)
    have d13:decide (r=13)=false:=lC (by omega)
    have d14:decide (r=14)=false:=lC (by omega)
    have d1:decide (r=1)=false:=lC (by omega)
    have d2:decide (r=2)=false:=lC (by omega)
    have d9:decide (r=9)=false:=lC (by omega)
    obtain ⟨p,i4,h4,hp,hi_i4,k4⟩:=jE v b i3 h3 (f.vols[y]'hyl).t hl hi3 (z2 _ (lQ hyl))
    unfold cur at k4
    obtain ⟨q,i6,h6,hq,hi_i6,k6⟩:=dQ v b i4 h4 hl hi_i4
    unfold cur at k6
    obtain ⟨n,i8,h8,_,hi_i8,k8⟩:=dP v b i6 h6 [0,0,1,20] hl hi_i6 (by simp) (by simp)
    unfold cur at k8
    simp only [gQ,lO,lH1] at k8
    obtain ⟨d,i9,h9,hd,hi_i9,k9⟩:=jD v b i8 h8 hl hi_i8
    unfold cur at k9
    refine bE hmx cB [(51,[.l,.b],[]),(50,[.l,.b],[]),(92,[.l],[]),(84,[.l,.b],[]),(93,[.l],[]),(94,[.l,.b],[]),(95,[.l],[]),(96,[.l],[])] 34359738619 rfl [true,false] ⟨lE rfl,lE rfl⟩ rfl ?_
    intro w hP hQ
    unfold bZ
    refine N ?_
    refine Kd (k1) ?_
    refine Kd (k2) ?_
    have hz:=g1
    refine Kdz (bJ) ?_
    have hz:=And.intro (bW hy') (And.intro d10 (And.intro d11 (And.intro d12 (And.intro d13 (And.intro d14 (And.intro d1 (And.intro d2 d9)))))))
    refine Kdz (k3) ?_
    have hz:=And.intro d1 (And.intro d2 d9)
    refine Kdz (k4) ?_
    have hz:=And.intro d1 (And.intro d2 d9)
    refine Kdz (k6) ?_
    have hz:=And.intro d1 (And.intro d2 d9)
    refine Kdz (k8) ?_
    have hz:=And.intro d1 (And.intro d2 d9)
    refine Kdz (k9) ?_
    exact ⟨⟨r,(f.vols[y]'hyl).id,p,q,n,d⟩,i9,h9,⟨by simp only; omega,by simp only; omega,hd⟩,hi_i9,rfl,rfl⟩
 obtain ⟨_,_,⟨o,i',h',ho,hi',rfl,rfl⟩,hS⟩:=key
 exact ⟨o,i',h',ho,hi',hS⟩
structure VolR (f:Fs) (v:Vol):Prop where
 id1:1≤v.id
 id2:v.id<f.next
 name:aW v.name=true
 lim:32≤v.limit∧v.limit≤4000
 tree:bF v.t=true
 use:(dO v.t:Int)≤v.limit
structure FsR (f:Fs):Prop where
 len:f.vols.length≤6
 next:1≤f.next∧f.next≤99
 vol:∀ v ∈ f.vols,VolR f v
 up:f.vols.Pairwise fun a b=>a.id<b.id
 names:f.vols.Pairwise fun a b=>a.name≠b.name
theorem aaI {α:Type} {p:α→Bool} {l:List α} {i:Nat} (h:i<l.length):l.findIdx? p=some i↔p l[i]=true∧∀ j,(hj:j<i)→p (l[j]'(by omega))=false:=by
 rw [lM2]
 constructor
 ·rintro ⟨h1,h2,h3⟩; exact ⟨h2,fun j hj=>by simpa using h3 j hj⟩
 ·rintro ⟨h2,h3⟩; exact ⟨h,h2,fun j hj=>by simpa using h3 j hj⟩
theorem amD (o:Option Nat) (i:Nat):uL o=(i:Int)↔o=some i:=by
 cases o with
 | none=>simp [uL]
 | some k=>simp [uL]; omega
theorem aaJ (f:Fs):(∀ i,(h:i<f.vols.length)→eP f f.vols[i].name=some i)↔f.vols.Pairwise fun a b=>a.name≠b.name:=by
 unfold eP
 rw [lQ2]
 constructor
 ·intro h i j hi hj hij e
  have:=((aaI hj).1 (h j hj)).2 i hij
  rw [e] at this
  simp at this
 ·intro h i hi
  rw [aaI hi]
  refine ⟨by simp,fun j hj=>?_⟩
  have:=h j i (by omega) hi hj
  simpa using this
theorem gE (f:Fs):fsB f=true↔FsR f:=by
 unfold fsB
 simp only [lN,decide_eq_true_eq,eL]
 rw [nP (fun a b c h1 h2=>by simp only [tV,decide_eq_true_eq] at *; omega)]
 simp only [qH,tV,lN,decide_eq_true_eq,eL,amD]
 constructor
 ·rintro ⟨h1,h2,h3,h4⟩
  refine ⟨h1,h2,fun v hv=>?_,h4,(aaJ f).1 fun i hi=>(h3 i hi).2.2.2.1⟩
  obtain ⟨i,hi,rfl⟩:=lU1 hv
  obtain ⟨a1,a2,a3,a4,a5,a6,a7⟩:=h3 i hi
  exact ⟨a1,a2,a3,a5,a6,a7⟩
 ·rintro ⟨h1,h2,h3,h4,h5⟩
  refine ⟨h1,h2,fun i hi=>?_,h4⟩
  obtain ⟨a1,a2,a3,a5,a6,a7⟩:=h3 _ (lQ hi)
  exact ⟨a1,a2,a3,(aaJ f).2 h5 i hi,a5,a6,a7⟩
def cU (t:Tab) (o:Op):Tab × Int:=
 if o.kind=1 then eR t o.path 2 else if o.kind=2 then eR t o.path 1 else if o.kind=3 then gC t o.path o.off o.data else if o.kind=4 then q8 t o.path o.off else
 if o.kind=5 then eQ t o.path else if o.kind=6 then gB t o.path else if o.kind=7 then iQ t o.path o.to' else if o.kind=8 then j5 t o.path o.to' else j6 t o.path o.to' o.data
theorem rO {t:Tab} (h:bF t=true) (o:Op):bF (cU t o).1=true:=by
 unfold cU
 repeat' split
 ·exact t6 h _ (.inr rfl)
 ·exact t6 h _ (.inl rfl)
 ·exact aap h _ _ _
 ·exact afc h _ _
 ·exact xM h _
 ·exact aao h _
 ·exact acf h _ _
 ·exact acg h _ _
 ·exact ach h _ _ _
def anG (f:Fs) (k:Nat) (t:Tab):Fs:={ vols:=f.vols.modify k fun v=>{ v with t:=t },next:=f.next }
theorem vZ {α:Type} {l:List α} {k:Nat} {g:α→α} {x:α} (h:x ∈ l.modify k g):∃ i,∃ hi:i<l.length,x=(if k=i then g l[i] else l[i]):=by
 obtain ⟨i,hi,rfl⟩:=lU1 h
 rw [List.length_modify] at hi
 exact ⟨i,hi,lB4 _ _ _ _ _⟩
theorem mN {α:Type} {R:α→α→Prop} {l:List α} {k:Nat} {g:α→α} (h:l.Pairwise R) (hg:∀ a b,R a b→R (g a) b∧R a (g b)):(l.modify k g).Pairwise R:=by
 rw [lQ2] at *
 intro i j hi hj hij
 rw [List.length_modify] at hi hj
 have:=h i j hi hj hij
 rw [lB4,lB4]
 split <;> split
 ·omega
 ·exact (hg _ _ this).1
 ·exact (hg _ _ this).2
 ·exact this
theorem amE {f:Fs} (h:FsR f) {k:Nat} {t:Tab} (ht:bF t=true) (hu:∀ v,f.vols[k]?=some v→(dO t:Int)≤v.limit):FsR (anG f k t):=by
 refine ⟨by show (f.vols.modify k _).length≤6; rw [List.length_modify]; exact h.len,h.next,fun v hv=>?_,mN h.up fun a b r=>⟨r,r⟩,mN h.names fun a b r=>⟨r,r⟩⟩
 obtain ⟨i,hi,rfl⟩:=vZ hv
 have o:=h.vol _ (lQ hi)
 split
 ·rename_i e
  exact ⟨o.id1,o.id2,o.name,o.lim,ht,hu f.vols[i] (by rw [e]; exact lH hi)⟩
 ·exact ⟨o.id1,o.id2,o.name,o.lim,o.tree,o.use⟩
def aos (n:Int) (v:Vol):Vol:={ v with limit:=n }
def anw (f:Fs) (v:Vol):Fs:={ vols:=f.vols++[{ id:=f.next,name:=v.name,ro:=v.ro,limit:=v.limit,t:=v.t }],next:=f.next+1 }
def anX (f:Fs) (k:Nat):Fs:={ vols:=f.vols.eraseIdx k,next:=f.next }
def anY (f:Fs) (k:Nat) (n:Int):Fs:={ vols:=f.vols.modify k (aos n),next:=f.next }
theorem akA {f:Fs} (h:FsR f) {v:Vol} (hn:aW v.name=true) (hl:32≤v.limit∧v.limit≤4000) (ht:bF v.t=true) (hu:(dO v.t:Int)≤v.limit) (h1:eP f v.name=none) (h2:f.vols.length<6) (h3:f.next<99):FsR (anw f v):=by
 have hv:∀ x ∈ f.vols,VolR (anw f v) x:=fun x hx=>by
  have o:=h.vol x hx
  exact ⟨o.id1,by show x.id<f.next+1; have:=o.id2; omega,o.name,o.lim,o.tree,o.use⟩
 refine ⟨by show (f.vols++[_]).length≤6; simp; omega,⟨by show 1≤f.next+1; have:=h.next; omega,by show f.next+1≤99; omega⟩,fun x hx=>?_,?_,?_⟩
 ·rcases lL.1 hx with hx | hx
  ·exact hv x hx
  ·rw [lC1.1 hx]
   exact ⟨h.next.1,by show f.next<f.next+1; omega,hn,hl,ht,hu⟩
 ·refine List.pairwise_append.2 ⟨h.up,by simp,fun a ha b hb=>?_⟩
  rw [lC1.1 hb]
  exact (h.vol a ha).id2
 ·refine List.pairwise_append.2 ⟨h.names,by simp,fun a ha b hb=>?_⟩
  rw [lC1.1 hb]
  have:=List.findIdx?_eq_none_iff.1 h1 a ha
  simpa using this
theorem akB {f:Fs} (h:FsR f) (k:Nat):FsR (anX f k):=by
 have hs:List.Sublist (f.vols.eraseIdx k) f.vols:=List.eraseIdx_sublist _ _
 refine ⟨lU3 hs.length_le h.len,h.next,fun v hv=>?_,h.up.sublist hs,h.names.sublist hs⟩
 have o:=h.vol v (hs.subset hv)
 exact ⟨o.id1,o.id2,o.name,o.lim,o.tree,o.use⟩
theorem akC {f:Fs} (h:FsR f) {k:Nat} {n:Int} (hn:32≤n∧n≤4000) (hu:∀ v,f.vols[k]?=some v→(dO v.t:Int)≤n):FsR (anY f k n):=by
 refine ⟨by show (f.vols.modify k _).length≤6; rw [List.length_modify]; exact h.len,h.next,fun v hv=>?_,mN h.up fun a b r=>⟨r,r⟩,mN h.names fun a b r=>⟨r,r⟩⟩
 obtain ⟨i,hi,rfl⟩:=vZ hv
 have o:=h.vol _ (lQ hi)
 split
 ·rename_i e
  exact ⟨o.id1,o.id2,o.name,hn,o.tree,hu f.vols[i] (by rw [e]; exact lH hi)⟩
 ·exact ⟨o.id1,o.id2,o.name,o.lim,o.tree,o.use⟩
def qF (f:Fs) (o:Op):Fs × Int:=
 if fsB f=true then match q7 f o.vol with
  | none=>(f,2)
  | some k=>match f.vols[k]? with
   | none=>(f,2)
   | some v=>if v.ro=true then (f,7) else if (cU v.t o).2=0 then (if (dO (cU v.t o).1:Int)≤v.limit then (anG f k (cU v.t o).1,0) else (f,8)) else (f,(cU v.t o).2)
 else (f,1)
theorem aiy {f:Fs} (h:fsB f=true) (o:Op):fsB (qF f o).1=true:=by
 have hf:=(gE f).1 h
 unfold qF
 rw [lF h]
 split
 ·exact h
 ·split
  ·exact h
  ·rename_i k _ v hv
   split
   ·exact h
   ·split
    ·split
     ·rename_i hu
      refine (gE _).2 (amE hf (rO (hf.vol v (lS2 hv)).tree o) fun x hx=>?_)
      rw [hv] at hx; injection hx with hx
      rw [← hx]; exact hu
     ·exact h
    ·exact h
theorem acC (t:Tab) (o:Op) (hk:inR o.kind 1 9=true) (h:t.sz<2^28) (h1:o.path.length<2^29) (h2:o.to'.length<2^29) (h3:o.data.length<2^29) :
  bR Tryz.prog 132 [t.x,o.x] (.tup [(cU t o).1.o,.int .i64 (cU t o).2]) [.undef,.undef]:=by
 obtain ⟨c,v,p,q,n,d⟩:=o
 simp only at h1 h2 h3
 have hc:=(eL _ _ _).1 hk
 simp only at hc
 have hc:c=1∨c=2∨c=3∨c=4∨c=5∨c=6∨c=7∨c=8∨c=9:=by omega
 rcases hc with rfl | rfl | rfl | rfl | rfl | rfl | rfl | rfl | rfl
 ·rw [show cU t ⟨1,v,p,q,n,d⟩=eR t p 2 from rfl]
  have k:=afs t p (by omega) (by omega)
  generalize eR t p 2=r at *
  refine Vw cZ [] 191 [] fun w hP hQ=>?_
  exact K (k) trivial
 ·rw [show cU t ⟨2,v,p,q,n,d⟩=eR t p 1 from rfl]
  have k:=acu t p (by omega) (by omega)
  generalize eR t p 1=r at *
  refine Vw cZ [] 191 [] fun w hP hQ=>?_
  exact K (k) trivial
 ·rw [show cU t ⟨3,v,p,q,n,d⟩=gC t p n d from rfl]
  have k:=afv t p n d (by omega) (by omega) (by omega)
  generalize gC t p n d=r at *
  refine Vw cZ [] 191 [] fun w hP hQ=>?_
  exact K (k) trivial
 ·rw [show cU t ⟨4,v,p,q,n,d⟩=q8 t p n from rfl]
  have k:=acw t p n (by omega) (by omega)
  generalize q8 t p n=r at *
  refine Vw cZ [] 191 [] fun w hP hQ=>?_
  exact K (k) trivial
 ·rw [show cU t ⟨5,v,p,q,n,d⟩=eQ t p from rfl]
  have k:=aii t p (by omega) (by omega)
  generalize eQ t p=r at *
  refine Vw cZ [] 191 [] fun w hP hQ=>?_
  exact K (k) trivial
 ·rw [show cU t ⟨6,v,p,q,n,d⟩=gB t p from rfl]
  have k:=aaD t p (by omega) (by omega)
  generalize gB t p=r at *
  refine Vw cZ [] 191 [] fun w hP hQ=>?_
  exact K (k) trivial
 ·rw [show cU t ⟨7,v,p,q,n,d⟩=iQ t p q from rfl]
  have k:=acv t p q (by omega) (by omega) (by omega)
  generalize iQ t p q=r at *
  refine Vw cZ [] 191 [] fun w hP hQ=>?_
  exact K (k) trivial
 ·rw [show cU t ⟨8,v,p,q,n,d⟩=j5 t p q from rfl]
  have k:=ain t p q (by omega) (by omega) (by omega)
  generalize j5 t p q=r at *
  refine Vw cZ [] 191 [] fun w hP hQ=>?_
  exact K (k) trivial
 ·rw [show cU t ⟨9,v,p,q,n,d⟩=j6 t p q d from rfl]
  have k:=afu t p q d (by omega) (by omega) (by omega) (by omega)
  generalize j6 t p q d=r at *
  refine Vw cZ [] 191 [] fun w hP hQ=>?_
  exact K (k) trivial
theorem aiz {α β:Type} (f:α→β) (g:β→β) (h:α→α) (l:List α) (i:Nat) (hi:i<l.length) (e:g (f l[i])=f (h l[i])):(l.map f).modify i g=(l.modify i h).map f:=by
 apply lI2
 intro j
 simp only [lO1,lL1]
 by_cases hj:i=j
 ·subst hj
  simp [lH hi,e]
 ·simp [hj]
theorem sH {f:Fs} {n:Int} {k:Nat} (h:q7 f n=some k):k<f.vols.length:=by
 rw [q7,lM2] at h
 exact h.1
def aod (n:Int) (v:Vol):Vol:={ v with limit:=n }
def aot (f:Fs) (k:Nat) (n:Int):Fs:={ vols:=f.vols.modify k (aod n),next:=f.next }
def gI (f:Fs) (i n:Int):Fs × Int:=
 if fsB f=true∧inR n 32 4000=true then match q7 f i with
  | none=>(f,2)
  | some k=>match f.vols[k]? with
   | none=>(f,2)
   | some v=>if n<(dO v.t:Nat) then (f,8) else (aot f k n,0)
 else (f,1)
theorem acD (f:Fs) (i n:Int) (h:f.sz<2^40):bR Tryz.prog 19 [f.x,.int .i64 i,.int .i64 n] (.tup [(gI f i n).1.o,.int .i64 (gI f i n).2]) [.undef,.undef,.undef]:=by
 obtain ⟨h1,h2⟩:=afp h
 have hV:=sB f i (by omega)
 have hF:=uB f h
 have hL:=cF n 32 4000
 rcases iT (fsB f) with e1 | e1
 ·rw [e1] at hF
  rw [gI,lK (by simp [e1])]
  refine Vw iY [] 975 [] fun w hP hQ=>?_
  refine K (aT f h) ?_
  refine K (hV) ?_
  exact K (hF) trivial
 rw [e1] at hF
 rcases iT (inR n 32 4000) with e2 | e2
 ·rw [e2] at hL
  rw [gI,lK (by simp [e2])]
  refine Vw iY [] 975 [] fun w hP hQ=>?_
  refine K (aT f h) ?_
  refine K (hV) ?_
  refine K (hF) ?_
  exact K (hL) trivial
 rw [e2] at hL
 rw [gI,lF ⟨e1,e2⟩]
 cases e3:q7 f i with
 | none=>
  rw [e3] at hV
  refine Vw iY [] 975 [] fun w hP hQ=>?_
  refine K (aT f h) ?_
  refine K (hV) ?_
  refine K (hF) ?_
  exact K (hL) trivial
 | some k=>
  have hk:=sH e3
  rw [e3,show uL (some k)=(k:Int) from rfl] at hV
  simp only [lH hk]
  refine Vw iY [] 975 [] fun w hP hQ=>?_
  refine K (aT f h) ?_
  refine K (hV) ?_
  refine K (hF) ?_
  refine K (hL) ?_
  refine Jf (fun hx=>?_) fun hx=>?_
  ·exfalso; omega
  have hz:=(bW (show ((k:Nat):Int)<(f.vols.length:Nat) by omega))
  refine Nz ?_
  refine K (oE (f.vols[k]'hk).t (h2 _ (lQ hk))) ?_
  refine Jf (fun h5=>?_) fun h5=>?_
  ·refine N ?_
   rw [lF (by omega)]
  ·have hz:=(bW (show ((k:Nat):Int)<(f.vols.length:Nat) by omega))
   refine Nz ?_
   rw [lK (by omega),aiz Vol.row _ (aod n) f.vols k hk rfl]
   rfl
def aoe (f:Fs) (v:Vol):Fs:={ vols:=f.vols++[{ id:=f.next,name:=v.name,ro:=v.ro,limit:=v.limit,t:=v.t }],next:=f.next+1 }
def nU (f:Fs) (v:Vol):Fs × Int × Int:=
 match eP f v.name with
 | some _=>(f,0,4)
 | none=>if f.vols.length=6∨f.next=99 then (f,0,5) else (aoe f v,f.next,0)
def iU (f:Fs) (n:aA) (l:Int):Fs × Int × Int:=
 if fsB f=true∧aW n=true∧inR l 32 4000=true then nU f { id:=0,name:=n,ro:=false,limit:=l,t:=tab1 } else (f,0,1)
theorem aiA {f:Fs} (h:fsB f=true):f.vols.length≤6∧1≤f.next∧f.next≤99:=by
 simp only [fsB,lN,decide_eq_true_eq,inR] at h
 exact ⟨h.1,h.2.1.1,h.2.1.2⟩
theorem akD {α β:Type} (g:α→β) (l:List α) (x:α):(l++[x]).map g=l.map g++[g x]:=by simp
theorem adM (f:Fs) (v:Vol) (h:f.sz<2^40) (hv:v.t.sz<2^40) (hf:f.vols.length≤6∧1≤f.next∧f.next≤99) :
  bR Tryz.prog 78 [f.x,v.x] (.tup [(nU f v).1.o,.int .i64 (nU f v).2.1,.int .i64 (nU f v).2.2]) [.undef,.undef]:=by
 have hV:=o6 f v.name (by omega)
 cases e1:eP f v.name with
 | some k=>
  rw [e1,show uL (some k)=(k:Int) from rfl] at hV
  simp only [nU,e1]
  refine Vw pN [] 255 [] fun w hP hQ=>?_
  refine K (aT f h) ?_
  refine K (hV) ?_
  refine Jf (fun hx=>?_) fun hx=>?_
  ·exact N trivial
  ·exfalso; omega
 | none=>
  rw [e1] at hV
  simp only [nU,e1]
  by_cases h6:f.vols.length=6
  ·rw [lF (.inl h6)]
   refine Vw pN [] 255 [] fun w hP hQ=>?_
   refine K (aT f h) ?_
   have hz:=h6
   exact Kz (hV) trivial
  by_cases h9:f.next=99
  ·rw [lF (.inr h9)]
   refine Vw pN [] 255 [] fun w hP hQ=>?_
   refine K (aT f h) ?_
   refine K (hV) ?_
   refine Jg (fun hg=>?_) fun hg=>?_
   ·exfalso; omega
   have hz:=And.intro hg h9
   exact Nz trivial
  rw [lK (by omega)]
  refine Vw pN [] 255 [] fun w hP hQ=>?_
  refine K (aT f h) ?_
  refine K (hV) ?_
  refine Jg (fun hg=>?_) fun hg=>?_
  ·exfalso; omega
  have hz:=hg
  refine Nz ?_
  refine Jf (fun hg2=>?_) fun hg2=>?_
  ·exfalso; omega
  refine N ?_
  refine K (dV v.t hv) ?_
  simp only [aoe,Fs.o,akD]
  rfl
theorem aaK (f:Fs) (n:aA) (l:Int) (h:f.sz<2^40) (hn:n.length<2^30) :
  bR Tryz.prog 27 [f.x,.str n,.int .i64 l] (.tup [(iU f n l).1.o,.int .i64 (iU f n l).2.1,.int .i64 (iU f n l).2.2]) [.undef,.undef,.undef]:=by
 have hF:=uB f h
 have hN:=bQ n (by omega)
 have hL:=cF l 32 4000
 rcases iT (fsB f) with e1 | e1
 ·rw [e1] at hF
  rw [iU,lK (by simp [e1])]
  refine Vw n7 [] 463 [] fun w hP hQ=>?_
  refine K (hF) ?_
  exact K (aT f h) trivial
 rw [e1] at hF
 rcases iT (aW n) with e2 | e2
 ·rw [e2] at hN
  rw [iU,lK (by simp [e2])]
  refine Vw n7 [] 463 [] fun w hP hQ=>?_
  refine K (hF) ?_
  refine K (hN) ?_
  exact K (aT f h) trivial
 rw [e2] at hN
 rcases iT (inR l 32 4000) with e3 | e3
 ·rw [e3] at hL
  rw [iU,lK (by simp [e3])]
  refine Vw n7 [] 463 [] fun w hP hQ=>?_
  refine K (hF) ?_
  refine K (hN) ?_
  refine K (hL) ?_
  exact K (aT f h) trivial
 rw [e3] at hL
 rw [iU,lF ⟨e1,e2,e3⟩]
 have hA:=adM f { id:=0,name:=n,ro:=false,limit:=l,t:=tab1 } h (by show 1<_; omega) (aiA e1)
 generalize nU f { id:=0,name:=n,ro:=false,limit:=l,t:=tab1 }=r at *
 have hT:=bJ
 generalize tab1=T at *
 refine Vw n7 [] 463 [] fun w hP hQ=>?_
 refine K (hF) ?_
 refine K (hN) ?_
 refine K (hL) ?_
 refine Kd (hT) ?_
 exact Kd (hA) trivial
def rP (f:Fs) (i:Int) (n:aA) (ro:Bool):Fs × Int × Int:=
 if fsB f=true∧aW n=true then match q7 f i with
  | none=>(f,0,2)
  | some k=>match f.vols[k]? with
   | none=>(f,0,2)
   | some v=>nU f { id:=0,name:=n,ro:=ro,limit:=v.limit,t:=v.t }
 else (f,0,1)
theorem aaL (f:Fs) (i:Int) (n:aA) (ro:Bool) (h:f.sz<2^40) (hn:n.length<2^30) :
  bR Tryz.prog 83 [f.x,.int .i64 i,.str n,.bool ro] (.tup [(rP f i n ro).1.o,.int .i64 (rP f i n ro).2.1,.int .i64 (rP f i n ro).2.2]) [.undef,.undef,.undef,.undef]:=by
 obtain ⟨h1,h2⟩:=afp h
 have hV:=sB f i (by omega)
 have hF:=uB f h
 have hN:=bQ n (by omega)
 rcases iT (fsB f) with e1 | e1
 ·rw [e1] at hF
  rw [rP,lK (by simp [e1])]
  refine Vw n8 [] 3871 [] fun w hP hQ=>?_
  refine K (hV) ?_
  refine K (hF) ?_
  exact K (aT f h) trivial
 rw [e1] at hF
 rcases iT (aW n) with e2 | e2
 ·rw [e2] at hN
  rw [rP,lK (by simp [e2])]
  refine Vw n8 [] 3871 [] fun w hP hQ=>?_
  refine K (hV) ?_
  refine K (hF) ?_
  refine K (hN) ?_
  exact K (aT f h) trivial
 rw [e2] at hN
 rw [rP,lF ⟨e1,e2⟩]
 cases e3:q7 f i with
 | none=>
  rw [e3] at hV
  refine Vw n8 [] 3871 [] fun w hP hQ=>?_
  refine K (hV) ?_
  refine K (hF) ?_
  refine K (hN) ?_
  exact K (aT f h) trivial
 | some k=>
  have hk:=sH e3
  have hk':((k:Nat):Int)<(f.vols.length:Nat):=by omega
  have ht:=h2 _ (lQ hk)
  have hz:=al2 Vol.sz (l:=f.vols) (i:=k) hk
  rw [e3,show uL (some k)=(k:Int) from rfl] at hV
  simp only [lH hk]
  have hA:=adM f { id:=0,name:=n,ro:=ro,limit:=(f.vols[k]).limit,t:=(f.vols[k]).t } h ht (aiA e1)
  generalize nU f { id:=0,name:=n,ro:=ro,limit:=(f.vols[k]).limit,t:=(f.vols[k]).t }=r at *
  refine Vw n8 [] 3871 [] fun w hP hQ=>?_
  refine K (hV) ?_
  refine K (hF) ?_
  refine K (hN) ?_
  refine Jf (fun hx=>?_) fun hx=>?_
  ·exfalso; omega
  have hz:=(bW hk')
  refine Nz ?_
  exact K (hA) trivial
theorem afz (f:Fs) (i:Int) (n:aA) (h:f.sz<2^40) (hn:n.length<2^30) :
  bR Tryz.prog 36 [f.x,.int .i64 i,.str n] (.tup [(rP f i n true).1.o,.int .i64 (rP f i n true).2.1,.int .i64 (rP f i n true).2.2]) [.undef,.undef,.undef]:=by
 have hA:=aaL f i n true h hn
 generalize rP f i n true=r at *
 refine Vw abR [] 463 [] fun w hP hQ=>?_
 exact K (hA) trivial
theorem acE (f:Fs) (i:Int) (n:aA) (h:f.sz<2^40) (hn:n.length<2^30) :
  bR Tryz.prog 114 [f.x,.int .i64 i,.str n] (.tup [(rP f i n false).1.o,.int .i64 (rP f i n false).2.1,.int .i64 (rP f i n false).2.2]) [.undef,.undef,.undef]:=by
 have hA:=aaL f i n false h hn
 generalize rP f i n false=r at *
 refine Vw zT [] 463 [] fun w hP hQ=>?_
 exact K (hA) trivial
def aou (f:Fs) (k:Nat):Fs:={ vols:=f.vols.eraseIdx k,next:=f.next }
def mO (f:Fs) (i:Int):Fs × Int:=
 if fsB f=true then match q7 f i with
  | none=>(f,2)
  | some k=>(aou f k,0)
 else (f,1)
theorem aiB:bF tab1=true:=by decide
section
def fR (f:Fs) (o:Op):Fs × Int:=
 if o.kind=10 then ((iU f o.path o.off).1,(iU f o.path o.off).2.2) else if o.kind=11 then ((rP f o.vol o.path true).1,(rP f o.vol o.path true).2.2) else
 if o.kind=12 then ((rP f o.vol o.path false).1,(rP f o.vol o.path false).2.2) else if o.kind=13 then mO f o.vol else if o.kind=14 then gI f o.vol o.off else
 if inR o.kind 1 9=true then qF f o else (f,1)
variable {f:Fs}
theorem aaM (h:FsR f) {v:Vol} (hn:aW v.name=true) (hl:32≤v.limit∧v.limit≤4000) (ht:bF v.t=true) (hu:(dO v.t:Int)≤v.limit):FsR (nU f v).1:=by
 unfold nU
 split
 ·exact h
 ·rename_i e
  split
  ·exact h
  ·rename_i hc
   have:=h.len
   have:=h.next
   exact akA h hn hl ht hu e (by omega) (by omega)
theorem akE:dO tab1=32:=by decide
theorem aaN (h:fsB f=true) (n:aA) (l:Int):fsB (iU f n l).1=true:=by
 unfold iU
 split
 ·rename_i hc
  have hl:=(eL _ _ _).1 hc.2.2
  exact (gE _).2 (aaM ((gE f).1 h) hc.2.1 hl aiB (by show (dO tab1:Int)≤l; rw [akE]; omega))
 ·exact h
theorem aiC (h:fsB f=true) (i:Int) (n:aA) (ro:Bool):fsB (rP f i n ro).1=true:=by
 unfold rP
 split
 ·rename_i hc
  split
  ·exact h
  ·split
   ·exact h
   ·rename_i k _ v hv
    have o:=((gE f).1 h).vol v (lS2 hv)
    exact (gE _).2 (aaM ((gE f).1 h) hc.2 o.lim o.tree o.use)
 ·exact h
theorem afA (h:fsB f=true) (i:Int):fsB (mO f i).1=true:=by
 rw [mO,lF h]
 split
 ·exact h
 ·exact (gE _).2 (akB ((gE f).1 h) _)
theorem acF (h:fsB f=true) (i n:Int):fsB (gI f i n).1=true:=by
 unfold gI
 split
 ·rename_i hc
  have hl:=(eL _ _ _).1 hc.2
  split
  ·exact h
  ·split
   ·exact h
   ·rename_i k _ v hv
    split
    ·exact h
    ·rename_i hu
     refine (gE _).2 (akC ((gE f).1 h) hl fun x hx=>?_)
     rw [hv] at hx; injection hx with hx
     rw [← hx]; omega
 ·exact h
theorem aiD (h:fsB f=true) (o:Op):fsB (fR f o).1=true:=by
 unfold fR
 repeat' split
 ·exact aaN h _ _
 ·exact aiC h _ _ _
 ·exact aiC h _ _ _
 ·exact afA h _
 ·exact acF h _ _
 ·exact aiy h o
 ·exact h
end
theorem aiE (f:Fs) (k:Nat) (t:Tab) (hk:k<f.vols.length):(f.vols.map Vol.row).modify k (fun r=>r.take 4++[.sl 6 (t.inodes.map Inode.row),.int .i64 t.next]++r.drop 6)=(anG f k t).vols.map Vol.row:=
 aiz Vol.row _ (fun v=>{ v with t:=t }) f.vols k hk rfl
theorem aiF {f:Fs} (h:fsB f=true) {k:Nat} (hk:k<f.vols.length):f.vols[k].t.sz<2^28∧bF f.vols[k].t=true:=by
 have ht:=(((gE f).1 h).vol _ (lQ hk)).tree
 have:=q9 ht
 exact ⟨by omega,ht⟩
theorem akF {f:Fs} (h:fsB f=true):f.sz<2^20:=by
 have hf:=(gE f).1 h
 have e:f.sz=szM Vol.sz f.vols:=rfl
 have:=adr Vol.sz f.vols 12044 6 hf.len fun v hv=>by
  have o:=hf.vol v hv
  have h1:=q9 o.tree
  have h2:=o.name
  simp only [aW,lN,decide_eq_true_eq] at h2
  show v.name.length+v.t.sz≤_; omega
 omega
theorem v6 (l:List Vol):fU (l.map Vol.row)=true:=by
 rw [fU,lV]
 intro r hr
 obtain ⟨x,_,rfl⟩:=lX1.1 hr
 rfl
theorem uJ {l:List Vol} (h:l≠[]):eJ (l.map Vol.row)=false:=by
 cases l with
 | nil=>exact absurd rfl h
 | cons v l=>simp [eJ,Vol.row,lA]
theorem afB (f:Fs) (i:Int) (h:f.sz<2^40):bR Tryz.prog 32 [f.x,.int .i64 i] (.tup [(mO f i).1.o,.int .i64 (mO f i).2]) [.undef,.undef]:=by
 obtain ⟨h1,h2⟩:=afp h
 have hV:=sB f i (by omega)
 have hF:=uB f h
 rcases iT (fsB f) with e1 | e1
 ·rw [e1] at hF
  rw [mO,lK (by simp [e1])]
  refine Vw oX [(999998,[],[(0,0)])] 5357543035931336604742125245300009052807024058527668037218751941851755255624680612465991894078479290637973364587765734125935726428461570217992288787349287401967283887412115492710537302531185570938977091076523237491790970633699383779582771973038531457285598238843271083830214915826312193418602834034935 [] fun w hP hQ=>?_
  refine K (aT f h) ?_
  refine K (hV) ?_
  exact K (hF) trivial
 rw [e1] at hF
 rw [mO,lF e1]
 cases e3:q7 f i with
 | none=>
  rw [e3] at hV
  refine Vw oX [(999998,[],[(0,0)])] 5357543035931336604742125245300009052807024058527668037218751941851755255624680612465991894078479290637973364587765734125935726428461570217992288787349287401967283887412115492710537302531185570938977091076523237491790970633699383779582771973038531457285598238843271083830214915826312193418602834034935 [] fun w hP hQ=>?_
  refine K (aT f h) ?_
  refine K (hV) ?_
  exact K (hF) trivial
 | some q=>
  have hq:=sH e3
  rw [e3,show uL (some q)=(q:Int) from rfl] at hV
  refine Vw oX [(999998,[],[(0,0)])] 5357543035931336604742125245300009052807024058527668037218751941851755255624680612465991894078479290637973364587765734125935726428461570217992288787349287401967283887412115492710537302531185570938977091076523237491790970633699383779582771973038531457285598238843271083830214915826312193418602834034935 [] fun w hP hQ=>?_
  refine K (aT f h) ?_
  refine K (hV) ?_
  refine K (hF) ?_
  refine Jf (fun hx=>?_) fun hx=>?_
  ·exfalso; omega
  refine N ?_
  have n1:((q:Int)-0).toNat=q:=by omega
  have kn1:fU ((f.vols.map Vol.row).take q)=true:=by rw [← lD4]; exact v6 _
  have n2:((q:Int)+1).toNat=q+1:=by omega
  have n3:((f.vols.length:Int)-((q:Int)+1)).toNat=f.vols.length-(q+1):=by omega
  have tk:((f.vols.map Vol.row).drop (q+1)).take (f.vols.length-(q+1))=(f.vols.map Vol.row).drop (q+1):=by
   rw [lN2]; simp
  have kn2:fU ((f.vols.map Vol.row).drop (q+1))=true:=by rw [← lQ4]; exact v6 _
  have ret:(f.vols.map Vol.row).take q++(f.vols.map Vol.row).drop (q+1)=(f.vols.eraseIdx q).map Vol.row:=by
   rw [List.eraseIdx_eq_take_drop_succ,lO2,lD4,lQ4]
  by_cases hk0:q=0
  ·subst hk0
   have n4:((f.vols.length:Int)-1).toNat=f.vols.length-1:=by omega
   have fl1:eJ ((f.vols.map Vol.row).take 0)=true:=rfl
   rw [lF2] at tk kn2 ret
   rw [List.take_zero,lD1] at ret
   by_cases hl1:f.vols.length=1
   ·have fl2:eJ ((f.vols.map Vol.row).drop 1)=true:=by
     rw [lA3 (by simp [hl1])]; rfl
    refine anC (by rw [hQ.2.1]; rfl) rfl (.node 5 6 (.tr 5 6 7 (.tr 5 7 10 (.leaf [0,1,2,3,4,5,6,7,8,9,10,11,12,13]))) (.node 5 7 (.tr 5 7 10 (.leaf [0,1,2,3,4,6,5,7,8,9,10,11,12,13])) (.node 5 10 (.leaf [0,1,2,3,4,6,7,5,8,9,10,11,12,13]) (.leaf [0,1,2,3,4,6,7,8,9,10,5,11,12,13])))) ⟨by decide,⟨rfl,⟨rfl,dA (is':=[n 22 (.bsl 22 6 []),n 23 (.fld 23 (v 6) 0),n 24 (.ld 24 (v 23) 1 false),n 25 (.mov 25 (v 7)),n 26 (.slc 26 (v 24) none (some (v 25)) 6),n 27 (.app 27 (v 22) (v 26) 6 72),n 28 (.fld 28 (v 6) 0),n 29 (.ld 29 (v 28) 1 false),n 30 (.mov 30 (v 7)),n 31 (.bin 31 .add (v 30) (k 1)),n 32 (.slc 32 (v 29) (some (v 31)) none 6),n 33 (.app 33 (v 27) (v 32) 6 72),n 34 (.fld 34 (v 6) 0),m (.st (v 34) (v 33) 1)]) [0,0,2,0,14,31,32,96,0,256,992,2047,4095,8191] rfl rfl rfl ?_⟩⟩,⟨by decide,⟨rfl,dA (is':=[n 22 (.bsl 22 6 []),n 23 (.fld 23 (v 6) 0),n 24 (.ld 24 (v 23) 1 false),n 25 (.mov 25 (v 7)),n 26 (.slc 26 (v 24) none (some (v 25)) 6),n 28 (.fld 28 (v 6) 0),n 27 (.app 27 (v 22) (v 26) 6 72),n 29 (.ld 29 (v 28) 1 false),n 30 (.mov 30 (v 7)),n 31 (.bin 31 .add (v 30) (k 1)),n 32 (.slc 32 (v 29) (some (v 31)) none 6),n 33 (.app 33 (v 27) (v 32) 6 72),n 34 (.fld 34 (v 6) 0),m (.st (v 34) (v 33) 1)]) [0,0,2,0,14,0,63,96,0,256,992,2047,4095,8191] rfl rfl rfl ?_⟩,⟨by decide,dA (is':=[n 22 (.bsl 22 6 []),n 23 (.fld 23 (v 6) 0),n 24 (.ld 24 (v 23) 1 false),n 25 (.mov 25 (v 7)),n 26 (.slc 26 (v 24) none (some (v 25)) 6),n 28 (.fld 28 (v 6) 0),n 29 (.ld 29 (v 28) 1 false),n 27 (.app 27 (v 22) (v 26) 6 72),n 30 (.mov 30 (v 7)),n 31 (.bin 31 .add (v 30) (k 1)),n 32 (.slc 32 (v 29) (some (v 31)) none 6),n 33 (.app 33 (v 27) (v 32) 6 72),n 34 (.fld 34 (v 6) 0),m (.st (v 34) (v 33) 1)]) [0,0,2,0,14,0,32,127,0,256,992,2047,4095,8191] rfl rfl rfl ?_,dA (is':=[n 22 (.bsl 22 6 []),n 23 (.fld 23 (v 6) 0),n 24 (.ld 24 (v 23) 1 false),n 25 (.mov 25 (v 7)),n 26 (.slc 26 (v 24) none (some (v 25)) 6),n 28 (.fld 28 (v 6) 0),n 29 (.ld 29 (v 28) 1 false),n 30 (.mov 30 (v 7)),n 31 (.bin 31 .add (v 30) (k 1)),n 32 (.slc 32 (v 29) (some (v 31)) none 6),n 27 (.app 27 (v 22) (v 26) 6 72),n 33 (.app 33 (v 27) (v 32) 6 72),n 34 (.fld 34 (v 6) 0),m (.st (v 34) (v 33) 1)]) [0,0,2,0,14,0,32,0,128,480,639,2047,4095,8191] rfl rfl rfl ?_⟩⟩⟩
    all_goals (simp +decide (maxSteps:=9^9) (disch:=omega) only[↓SB0,SX,seval,hQ,n1,kn1,fl1,n4,tk,kn2,fl2])
    all_goals (rw [ret]; rfl)
   ·have fl2:eJ ((f.vols.map Vol.row).drop 1)=false:=by
     rw [← lQ4]; exact uJ (fun e=>by have:=congrArg List.length e; simp at this; omega)
    refine anC (by rw [hQ.2.1]; rfl) rfl (.node 5 6 (.tr 5 6 7 (.tr 5 7 10 (.leaf [0,1,2,3,4,5,6,7,8,9,10,11,12,13]))) (.node 5 7 (.tr 5 7 10 (.leaf [0,1,2,3,4,6,5,7,8,9,10,11,12,13])) (.node 5 10 (.leaf [0,1,2,3,4,6,7,5,8,9,10,11,12,13]) (.leaf [0,1,2,3,4,6,7,8,9,10,5,11,12,13])))) ⟨by decide,⟨rfl,⟨rfl,dA (is':=[n 22 (.bsl 22 6 []),n 23 (.fld 23 (v 6) 0),n 24 (.ld 24 (v 23) 1 false),n 25 (.mov 25 (v 7)),n 26 (.slc 26 (v 24) none (some (v 25)) 6),n 27 (.app 27 (v 22) (v 26) 6 72),n 28 (.fld 28 (v 6) 0),n 29 (.ld 29 (v 28) 1 false),n 30 (.mov 30 (v 7)),n 31 (.bin 31 .add (v 30) (k 1)),n 32 (.slc 32 (v 29) (some (v 31)) none 6),n 33 (.app 33 (v 27) (v 32) 6 72),n 34 (.fld 34 (v 6) 0),m (.st (v 34) (v 33) 1)]) [0,0,2,0,14,31,32,96,0,256,992,2047,4095,8191] rfl rfl rfl ?_⟩⟩,⟨by decide,⟨rfl,dA (is':=[n 22 (.bsl 22 6 []),n 23 (.fld 23 (v 6) 0),n 24 (.ld 24 (v 23) 1 false),n 25 (.mov 25 (v 7)),n 26 (.slc 26 (v 24) none (some (v 25)) 6),n 28 (.fld 28 (v 6) 0),n 27 (.app 27 (v 22) (v 26) 6 72),n 29 (.ld 29 (v 28) 1 false),n 30 (.mov 30 (v 7)),n 31 (.bin 31 .add (v 30) (k 1)),n 32 (.slc 32 (v 29) (some (v 31)) none 6),n 33 (.app 33 (v 27) (v 32) 6 72),n 34 (.fld 34 (v 6) 0),m (.st (v 34) (v 33) 1)]) [0,0,2,0,14,0,63,96,0,256,992,2047,4095,8191] rfl rfl rfl ?_⟩,⟨by decide,dA (is':=[n 22 (.bsl 22 6 []),n 23 (.fld 23 (v 6) 0),n 24 (.ld 24 (v 23) 1 false),n 25 (.mov 25 (v 7)),n 26 (.slc 26 (v 24) none (some (v 25)) 6),n 28 (.fld 28 (v 6) 0),n 29 (.ld 29 (v 28) 1 false),n 27 (.app 27 (v 22) (v 26) 6 72),n 30 (.mov 30 (v 7)),n 31 (.bin 31 .add (v 30) (k 1)),n 32 (.slc 32 (v 29) (some (v 31)) none 6),n 33 (.app 33 (v 27) (v 32) 6 72),n 34 (.fld 34 (v 6) 0),m (.st (v 34) (v 33) 1)]) [0,0,2,0,14,0,32,127,0,256,992,2047,4095,8191] rfl rfl rfl ?_,dA (is':=[n 22 (.bsl 22 6 []),n 23 (.fld 23 (v 6) 0),n 24 (.ld 24 (v 23) 1 false),n 25 (.mov 25 (v 7)),n 26 (.slc 26 (v 24) none (some (v 25)) 6),n 28 (.fld 28 (v 6) 0),n 29 (.ld 29 (v 28) 1 false),n 30 (.mov 30 (v 7)),n 31 (.bin 31 .add (v 30) (k 1)),n 32 (.slc 32 (v 29) (some (v 31)) none 6),n 27 (.app 27 (v 22) (v 26) 6 72),n 33 (.app 33 (v 27) (v 32) 6 72),n 34 (.fld 34 (v 6) 0),m (.st (v 34) (v 33) 1)]) [0,0,2,0,14,0,32,0,128,480,639,2047,4095,8191] rfl rfl rfl ?_⟩⟩⟩
    all_goals (simp +decide (maxSteps:=9^9) (disch:=omega) only[↓SB0,SX,seval,hQ,n1,kn1,fl1,n4,tk,kn2,fl2])
    all_goals (rw [ret]; rfl)
  ·have fl1:eJ ((f.vols.map Vol.row).take q)=false:=by
    rw [← lD4]
    exact uJ (fun e=>by
     have:=congrArg List.length e
     rw [lT,lK1 (by omega)] at this
     exact hk0 this)
   have lenT:((f.vols.map Vol.row).take q).length=q:=by simp; omega
   have lenU:(rD ((f.vols.map Vol.row).take q)++(f.vols.map Vol.row).drop (0+q)).length=f.vols.length:=by
    simp [rD]; omega
   have dropU:(rD ((f.vols.map Vol.row).take q)++(f.vols.map Vol.row).drop (0+q)).drop (q+1)=(f.vols.map Vol.row).drop (q+1):=by
    have hu:(rD ((f.vols.map Vol.row).take q)).length=q:=by simp [rD]; omega
    rw [List.drop_append,hu,lA3 (by rw [hu]; omega),lD1,lW1]
    congr 1; omega
   by_cases hl1:f.vols.length=q+1
   ·have fl2:eJ ((f.vols.map Vol.row).drop (q+1))=true:=by
     rw [lA3 (by simp [hl1])]; rfl
    refine anC (by rw [hQ.2.1]; rfl) rfl (.node 5 6 (.tr 5 6 7 (.tr 5 7 10 (.leaf [0,1,2,3,4,5,6,7,8,9,10,11,12,13]))) (.node 5 7 (.tr 5 7 10 (.leaf [0,1,2,3,4,6,5,7,8,9,10,11,12,13])) (.node 5 10 (.leaf [0,1,2,3,4,6,7,5,8,9,10,11,12,13]) (.leaf [0,1,2,3,4,6,7,8,9,10,5,11,12,13])))) ⟨by decide,⟨rfl,⟨rfl,dA (is':=[n 22 (.bsl 22 6 []),n 23 (.fld 23 (v 6) 0),n 24 (.ld 24 (v 23) 1 false),n 25 (.mov 25 (v 7)),n 26 (.slc 26 (v 24) none (some (v 25)) 6),n 27 (.app 27 (v 22) (v 26) 6 72),n 28 (.fld 28 (v 6) 0),n 29 (.ld 29 (v 28) 1 false),n 30 (.mov 30 (v 7)),n 31 (.bin 31 .add (v 30) (k 1)),n 32 (.slc 32 (v 29) (some (v 31)) none 6),n 33 (.app 33 (v 27) (v 32) 6 72),n 34 (.fld 34 (v 6) 0),m (.st (v 34) (v 33) 1)]) [0,0,2,0,14,31,32,96,0,256,992,2047,4095,8191] rfl rfl rfl ?_⟩⟩,⟨by decide,⟨rfl,dA (is':=[n 22 (.bsl 22 6 []),n 23 (.fld 23 (v 6) 0),n 24 (.ld 24 (v 23) 1 false),n 25 (.mov 25 (v 7)),n 26 (.slc 26 (v 24) none (some (v 25)) 6),n 28 (.fld 28 (v 6) 0),n 27 (.app 27 (v 22) (v 26) 6 72),n 29 (.ld 29 (v 28) 1 false),n 30 (.mov 30 (v 7)),n 31 (.bin 31 .add (v 30) (k 1)),n 32 (.slc 32 (v 29) (some (v 31)) none 6),n 33 (.app 33 (v 27) (v 32) 6 72),n 34 (.fld 34 (v 6) 0),m (.st (v 34) (v 33) 1)]) [0,0,2,0,14,0,63,96,0,256,992,2047,4095,8191] rfl rfl rfl ?_⟩,⟨by decide,dA (is':=[n 22 (.bsl 22 6 []),n 23 (.fld 23 (v 6) 0),n 24 (.ld 24 (v 23) 1 false),n 25 (.mov 25 (v 7)),n 26 (.slc 26 (v 24) none (some (v 25)) 6),n 28 (.fld 28 (v 6) 0),n 29 (.ld 29 (v 28) 1 false),n 27 (.app 27 (v 22) (v 26) 6 72),n 30 (.mov 30 (v 7)),n 31 (.bin 31 .add (v 30) (k 1)),n 32 (.slc 32 (v 29) (some (v 31)) none 6),n 33 (.app 33 (v 27) (v 32) 6 72),n 34 (.fld 34 (v 6) 0),m (.st (v 34) (v 33) 1)]) [0,0,2,0,14,0,32,127,0,256,992,2047,4095,8191] rfl rfl rfl ?_,dA (is':=[n 22 (.bsl 22 6 []),n 23 (.fld 23 (v 6) 0),n 24 (.ld 24 (v 23) 1 false),n 25 (.mov 25 (v 7)),n 26 (.slc 26 (v 24) none (some (v 25)) 6),n 28 (.fld 28 (v 6) 0),n 29 (.ld 29 (v 28) 1 false),n 30 (.mov 30 (v 7)),n 31 (.bin 31 .add (v 30) (k 1)),n 32 (.slc 32 (v 29) (some (v 31)) none 6),n 27 (.app 27 (v 22) (v 26) 6 72),n 33 (.app 33 (v 27) (v 32) 6 72),n 34 (.fld 34 (v 6) 0),m (.st (v 34) (v 33) 1)]) [0,0,2,0,14,0,32,0,128,480,639,2047,4095,8191] rfl rfl rfl ?_⟩⟩⟩
    all_goals (simp +decide (maxSteps:=9^9) (disch:=omega) only[↓SB0,SX,seval,hQ,n1,kn1,fl1,lenT,lenU,n2,n3,dropU,tk,kn2,fl2])
    all_goals (rw [ret]; rfl)
   ·have fl2:eJ ((f.vols.map Vol.row).drop (q+1))=false:=by
     rw [← lQ4]; exact uJ (fun e=>by have:=congrArg List.length e; simp at this; omega)
    refine anC (by rw [hQ.2.1]; rfl) rfl (.node 5 6 (.tr 5 6 7 (.tr 5 7 10 (.leaf [0,1,2,3,4,5,6,7,8,9,10,11,12,13]))) (.node 5 7 (.tr 5 7 10 (.leaf [0,1,2,3,4,6,5,7,8,9,10,11,12,13])) (.node 5 10 (.leaf [0,1,2,3,4,6,7,5,8,9,10,11,12,13]) (.leaf [0,1,2,3,4,6,7,8,9,10,5,11,12,13])))) ⟨by decide,⟨rfl,⟨rfl,dA (is':=[n 22 (.bsl 22 6 []),n 23 (.fld 23 (v 6) 0),n 24 (.ld 24 (v 23) 1 false),n 25 (.mov 25 (v 7)),n 26 (.slc 26 (v 24) none (some (v 25)) 6),n 27 (.app 27 (v 22) (v 26) 6 72),n 28 (.fld 28 (v 6) 0),n 29 (.ld 29 (v 28) 1 false),n 30 (.mov 30 (v 7)),n 31 (.bin 31 .add (v 30) (k 1)),n 32 (.slc 32 (v 29) (some (v 31)) none 6),n 33 (.app 33 (v 27) (v 32) 6 72),n 34 (.fld 34 (v 6) 0),m (.st (v 34) (v 33) 1)]) [0,0,2,0,14,31,32,96,0,256,992,2047,4095,8191] rfl rfl rfl ?_⟩⟩,⟨by decide,⟨rfl,dA (is':=[n 22 (.bsl 22 6 []),n 23 (.fld 23 (v 6) 0),n 24 (.ld 24 (v 23) 1 false),n 25 (.mov 25 (v 7)),n 26 (.slc 26 (v 24) none (some (v 25)) 6),n 28 (.fld 28 (v 6) 0),n 27 (.app 27 (v 22) (v 26) 6 72),n 29 (.ld 29 (v 28) 1 false),n 30 (.mov 30 (v 7)),n 31 (.bin 31 .add (v 30) (k 1)),n 32 (.slc 32 (v 29) (some (v 31)) none 6),n 33 (.app 33 (v 27) (v 32) 6 72),n 34 (.fld 34 (v 6) 0),m (.st (v 34) (v 33) 1)]) [0,0,2,0,14,0,63,96,0,256,992,2047,4095,8191] rfl rfl rfl ?_⟩,⟨by decide,dA (is':=[n 22 (.bsl 22 6 []),n 23 (.fld 23 (v 6) 0),n 24 (.ld 24 (v 23) 1 false),n 25 (.mov 25 (v 7)),n 26 (.slc 26 (v 24) none (some (v 25)) 6),n 28 (.fld 28 (v 6) 0),n 29 (.ld 29 (v 28) 1 false),n 27 (.app 27 (v 22) (v 26) 6 72),n 30 (.mov 30 (v 7)),n 31 (.bin 31 .add (v 30) (k 1)),n 32 (.slc 32 (v 29) (some (v 31)) none 6),n 33 (.app 33 (v 27) (v 32) 6 72),n 34 (.fld 34 (v 6) 0),m (.st (v 34) (v 33) 1)]) [0,0,2,0,14,0,32,127,0,256,992,2047,4095,8191] rfl rfl rfl ?_,dA (is':=[n 22 (.bsl 22 6 []),n 23 (.fld 23 (v 6) 0),n 24 (.ld 24 (v 23) 1 false),n 25 (.mov 25 (v 7)),n 26 (.slc 26 (v 24) none (some (v 25)) 6),n 28 (.fld 28 (v 6) 0),n 29 (.ld 29 (v 28) 1 false),n 30 (.mov 30 (v 7)),n 31 (.bin 31 .add (v 30) (k 1)),n 32 (.slc 32 (v 29) (some (v 31)) none 6),n 27 (.app 27 (v 22) (v 26) 6 72),n 33 (.app 33 (v 27) (v 32) 6 72),n 34 (.fld 34 (v 6) 0),m (.st (v 34) (v 33) 1)]) [0,0,2,0,14,0,32,0,128,480,639,2047,4095,8191] rfl rfl rfl ?_⟩⟩⟩
    all_goals (simp +decide (maxSteps:=9^9) (disch:=omega) only[↓SB0,SX,seval,hQ,n1,kn1,fl1,lenT,lenU,n2,n3,dropU,tk,kn2,fl2])
    all_goals (rw [ret]; rfl)
theorem gG (o:Op):bR Tryz.prog 112 [o.x] (.bool (inR o.kind 1 9)) [.undef]:=by
 refine Vw abT [] 7 [] fun w hP hQ=>?_
 exact K (cF o.kind 1 9) trivial
theorem aiG (f:Fs) (o:Op) (hk9:inR o.kind 1 9=true) (h:f.sz<2^40) (o1:o.path.length<2^29) (o2:o.to'.length<2^29) (o3:o.data.length<2^29) :
  bR Tryz.prog 113 [f.x,o.x] (.tup [(qF f o).1.o,.int .i64 (qF f o).2]) [.undef,.undef]:=by
 obtain ⟨h1,h2⟩:=afp h
 have hV:=sB f o.vol (by omega)
 have hF:=uB f h
 rcases iT (fsB f) with e1 | e1
 ·rw [e1] at hF
  rw [qF,lK (by simp [e1])]
  refine Vw iD [] 1023 [] fun w hP hQ=>?_
  refine K (aT f h) ?_
  refine K (hV) ?_
  exact K (hF) trivial
 rw [e1] at hF
 rw [qF,lF e1]
 cases e3:q7 f o.vol with
 | none=>
  rw [e3] at hV
  refine Vw iD [] 1023 [] fun w hP hQ=>?_
  refine K (aT f h) ?_
  refine K (hV) ?_
  exact K (hF) trivial
 | some k=>
  have hk:=sH e3
  have hk':((k:Nat):Int)<(f.vols.length:Nat):=by omega
  obtain ⟨zt,hT⟩:=aiF e1 hk
  rw [e3,show uL (some k)=(k:Int) from rfl] at hV
  simp only [lH hk]
  cases hr:f.vols[k].ro with
  | true=>
   rw [lF rfl]
   refine Vw iD [] 1023 [] fun w hP hQ=>?_
   refine K (aT f h) ?_
   refine K (hV) ?_
   refine K (hF) ?_
   refine Jf (fun hx=>?_) fun hx=>?_
   ·exfalso; omega
   have hz:=And.intro (bW hk') hr
   exact Nz trivial
  | false=>
   rw [lK (by simp)]
   have hC:=acC f.vols[k].t o hk9 zt o1 o2 o3
   have hCT:=q9 (rO hT o)
   have hU:=oE (cU f.vols[k].t o).1 (by omega)
   have hM:=aiE f k (cU f.vols[k].t o).1 hk
   have hN:(anG f k (cU f.vols[k].t o).1).next=f.next:=rfl
   generalize (cU f.vols[k].t o).1=T at *
   generalize (cU f.vols[k].t o).2=c at *
   by_cases hc:c=0
   ·subst hc
    rw [lF rfl]
    by_cases hu:(dO T:Int)≤f.vols[k].limit
    ·have hu':decide (f.vols[k].limit<(dO T:Nat))=false:=lC (by omega)
     rw [lF hu]
     refine Vw iD [] 1023 [] fun w hP hQ=>?_
     refine K (aT f h) ?_
     refine K (hV) ?_
     refine K (hF) ?_
     refine Jf (fun hx=>?_) fun hx=>?_
     ·exfalso; omega
     have hz:=And.intro (bW hk') hr
     refine Nz ?_
     have hz:=(bW hk')
     refine Kz (hC) ?_
     have hz:=And.intro (bW hk') hu'
     refine Kz (hU) ?_
     simp only [Fs.o,← hM,hN]
    ·have hu':decide (f.vols[k].limit<(dO T:Nat))=true:=lM (by omega)
     rw [lK hu]
     refine Vw iD [] 1023 [] fun w hP hQ=>?_
     refine K (aT f h) ?_
     refine K (hV) ?_
     refine K (hF) ?_
     refine Jf (fun hx=>?_) fun hx=>?_
     ·exfalso; omega
     have hz:=And.intro (bW hk') hr
     refine Nz ?_
     have hz:=(bW hk')
     refine Kz (hC) ?_
     have hz:=And.intro (bW hk') hu'
     exact Kz (hU) trivial
   ·have hc':decide (c=0)=false:=lC hc
    rw [lK hc]
    refine Vw iD [] 1023 [] fun w hP hQ=>?_
    refine K (aT f h) ?_
    refine K (hV) ?_
    refine K (hF) ?_
    refine Jf (fun hx=>?_) fun hx=>?_
    ·exfalso; omega
    have hz:=And.intro (bW hk') hr
    refine Nz ?_
    have hz:=And.intro (bW hk') hc'
    exact Kz (hC) trivial
theorem akG (f:Fs) (o:Op) (h:f.sz<2^40) (o1:o.path.length<2^29) (o2:o.to'.length<2^29) (o3:o.data.length<2^29) :
  bR Tryz.prog 85 [f.x,o.x] (.tup [(fR f o).1.o,.int .i64 (fR f o).2]) [.undef,.undef]:=by
 by_cases k9:inR o.kind 1 9=true
 ·have k9':=(eL _ _ _).1 k9
  have hc:=gG o
  rw [k9] at hc
  have hk:=aiG f o k9 h o1 o2 o3
  rw [show fR f o=qF f o by unfold fR; rw [if_neg (by omega),if_neg (by omega),if_neg (by omega),if_neg (by omega),if_neg (by omega),if_pos k9]]
  generalize qF f o=r at *
  refine Vw iN [] 262399 [] fun w hP hQ=>?_
  refine K (hc) ?_
  exact K (hk) trivial
 by_cases k10:o.kind=10
 ·have hk:=aaK f o.path o.off h (by omega)
  rw [show fR f o=((iU f o.path o.off).1,(iU f o.path o.off).2.2) by unfold fR;  rw [if_pos k10]]
  generalize iU f o.path o.off=r at *
  have hc:=gG o
  rw [show inR o.kind 1 9=false by rw [k10]; rfl] at hc
  refine Vw iN [] 262399 [] fun w hP hQ=>?_
  refine K (hc) ?_
  have hz:=k10
  refine Kz (aT f h) ?_
  exact K (hk) trivial
 by_cases k11:o.kind=11
 ·have hk:=afz f o.vol o.path h (by omega)
  rw [show fR f o=((rP f o.vol o.path true).1,(rP f o.vol o.path true).2.2) by unfold fR; rw [if_neg k10]; rw [if_pos k11]]
  generalize rP f o.vol o.path true=r at *
  have hc:=gG o
  rw [show inR o.kind 1 9=false by rw [k11]; rfl] at hc
  refine Vw iN [] 262399 [] fun w hP hQ=>?_
  refine K (hc) ?_
  have hz:=k11
  refine Kz (aT f h) ?_
  exact K (hk) trivial
 by_cases k12:o.kind=12
 ·have hk:=acE f o.vol o.path h (by omega)
  rw [show fR f o=((rP f o.vol o.path false).1,(rP f o.vol o.path false).2.2) by unfold fR; rw [if_neg k10]; rw [if_neg k11]; rw [if_pos k12]]
  generalize rP f o.vol o.path false=r at *
  have hc:=gG o
  rw [show inR o.kind 1 9=false by rw [k12]; rfl] at hc
  refine Vw iN [] 262399 [] fun w hP hQ=>?_
  refine K (hc) ?_
  have hz:=k12
  refine Kz (aT f h) ?_
  exact K (hk) trivial
 by_cases k13:o.kind=13
 ·have hk:=afB f o.vol h
  rw [show fR f o=mO f o.vol by unfold fR; rw [if_neg k10]; rw [if_neg k11]; rw [if_neg k12]; rw [if_pos k13]]
  generalize mO f o.vol=r at *
  have hc:=gG o
  rw [show inR o.kind 1 9=false by rw [k13]; rfl] at hc
  refine Vw iN [] 262399 [] fun w hP hQ=>?_
  refine K (hc) ?_
  have hz:=k13
  refine Kz (aT f h) ?_
  exact K (hk) trivial
 by_cases k14:o.kind=14
 ·have hk:=acD f o.vol o.off h
  rw [show fR f o=gI f o.vol o.off by unfold fR; rw [if_neg k10]; rw [if_neg k11]; rw [if_neg k12]; rw [if_neg k13]; rw [if_pos k14]]
  generalize gI f o.vol o.off=r at *
  have hc:=gG o
  rw [show inR o.kind 1 9=false by rw [k14]; rfl] at hc
  refine Vw iN [] 262399 [] fun w hP hQ=>?_
  refine K (hc) ?_
  have hz:=k14
  refine Kz (aT f h) ?_
  exact K (hk) trivial
 have hc:=gG o
 rw [show inR o.kind 1 9=false by simpa using k9] at hc
 have d10:decide (o.kind=10)=false:=lC k10
 have d11:decide (o.kind=11)=false:=lC k11
 have d12:decide (o.kind=12)=false:=lC k12
 have d13:decide (o.kind=13)=false:=lC k13
 have d14:decide (o.kind=14)=false:=lC k14
 rw [show fR f o=(f,1) by unfold fR; rw [if_neg k10,if_neg k11,if_neg k12,if_neg k13,if_neg k14,if_neg k9]]
 refine Vw iN [] 262399 [] fun w hP hQ=>?_
 refine K (hc) ?_
 have hz:=And.intro d10 (And.intro d11 (And.intro d12 (And.intro d13 d14)))
 exact Kz (aT f h) trivial
theorem anx:fsB zFs=true:=by decide
theorem anH (v:Value) (b:aA) (i:Nat) (h n:Int) (hl:b.length<2^48) (hi:i≤b.length) (hn:0≤n∧n<1000):∃ (f:Fs) (i':Nat) (h':Int),fsB f=true∧i'≤b.length ∧
  bR Tryz.prog 45 [cur v b i h,.int .i64 n] f.o [cur v b i' h',.undef]:=by
 obtain ⟨l,i1,h1,_,hi1,k1⟩:=dP v b i h [1000,4000,200] hl hi (by simp) (by simp)
 obtain ⟨x,i2,h2,hx,hi2,k2⟩:=gR v b i1 h1 (n+4) hl hi1 (by omega)
 have hx2:x≤2000:=by rw [uI,lF (by omega)] at hx; omega
 have kN:=aaK zFs [109,97,105,110] l (by decide) (by decide)
 have hN:=aaN anx [109,97,105,110] l
 generalize iU zFs [109,97,105,110] l=N at *
 have key:∃ ret outs,(∃ (f:Fs) (i':Nat) (h':Int),fsB f=true∧i'≤b.length∧ret=f.o∧outs=[cur v b i' h',.undef])∧bR Tryz.prog 45 [cur v b i h,.int .i64 n] ret outs:=by
  unfold cur at *
  simp only [gQ,lO,lH1] at k1
  have k0:=akc
  generalize zFs=Z at *
  refine bE hmx aeH [(51,[.l,.b],[]),(50,[.l,.b],[]),(49,[.l,.b],[])] 115 rfl [true,false] ⟨lE rfl,lE rfl⟩ rfl ?_
  intro w hP hQ
  unfold vG
  simp +decide (maxSteps:=9^9) (disch:=omega) only[↓SB0,SX,seval,hQ]
  refine Kd (k0) ?_
  refine Kd (k1) ?_
  refine Kd (kN) ?_
  refine Kd (k2) ?_
  refine iV [] ?_
  simp +decide (maxSteps:=9^9) (disch:=omega) only[↓SB0,SX,seval,hQ]
  refine bG [] (fun s:Nat × Fs × Nat × Int=>[(1000,.box [.extv v 1 (aM b),.int .i64 (s.2.2.1:Nat),.int .i64 s.2.2.2]),(5005,.box [.own 6 (s.2.1.vols.map Vol.row),.int .i64 s.2.1.next]),(6,.int .i64 (s.1:Nat))]) (fun s=>fsB s.2.1=true∧s.2.2.1≤b.length∧s.1≤2000) (fun s=>s.1) ((x,N.1,i2,h2)) hP hQ (rfl) (⟨hN,hi2,by simp only; omega⟩) ?_
  rintro ⟨m,f,j,g⟩ ⟨hf,hj,hm⟩ w1 hP1 hQ1
  refine N1 ?_
  simp only at hf hj hm
  have zf:=akF hf
  refine Jf (fun g1=>?_) fun g1=>?_
  ·obtain ⟨o,j1,g2,ho,hj1,k3⟩:=anv v b j g f hl hj (by omega)
   have kA:=akG f o (by omega) (by have:=ho.1; omega) (by have:=ho.2.1; omega) (by have:=ho.2.2; omega)
   have hA:=aiD hf o
   generalize fR f o=r at *
   unfold cur at k3
   have e3:((m:Nat):Int)-1=((m-1:Nat):Int):=by omega
   have e4:=aas (n:=m-1) (by omega)
   refine N1 ?_
   have hz:=And.intro e3 e4
   refine anV (k3) ?_
   have hz:=And.intro e3 e4
   refine anV (kA) ?_
   exact ⟨(m-1,r.1,j1,g2),rfl,⟨hA,hj1,by simp only; omega⟩,by simp only; omega⟩
  ·refine N1 ?_
   exact ⟨f,j,g,hf,hj,rfl,rfl⟩
 obtain ⟨_,_,⟨f,i',h',hf',hi',rfl,rfl⟩,hS⟩:=key
 exact ⟨f,i',h',hf',hi',hS⟩
theorem anZ {α β:Type} (row:α→β) {l:List α} {m:Nat} (h:m<l.length) {f:β→β} (y:α) (e:f (row l[m])=row y):(l.map row).modify m f=(l.set m y).map row:=by
 refine lI2 fun k=>?_
 rw [lO1,lL1,lL1,lR3]
 by_cases hk:m=k
 ·subst hk; simp [h,e]
 ·simp [hk]
theorem anI {P:Program} {f:FuncId} {s:Nat} {es:List (List TV)} {xs outs:List AV} {ret:AV} {v:Value} (h:bR P f (.ext s es::xs) ret outs):bR P f (.extv v s es::xs) ret outs:=by
 refine ⟨h.1,h.2.1,?_⟩
 intro w vs F X r
 cases r with
 | extv _ _ X1 X2 _ _ _ vs _ h1 hr hX=>exact h.2.2 w _ F X (.ext _ _ X1 X2 _ _ _ _ _ h1 hr hX)
theorem Shp.nil_inv {ts:List TV} (h:Shp [] ts):ts=[]:=by cases h; rfl
theorem Shp.sl_inv {s:Nat} {e ys:List Ty} {ts:List TV} (h:Shp (.sl s e::ys) ts):∃ es us,ts=.sl s es::us∧es.length≤2^47∧(∀ r ∈ es,Shp e r)∧Shp ys us:=by
 cases h with | sl _ _ es _ us hl he h=>exact ⟨es,us,rfl,hl,he,h⟩
theorem afC {α:Type} {sh:List Ty} {row:α→List TV} {good:α→Prop} (H:∀ ts,Shp sh ts→∃ x,ts=row x∧good x):∀ {es:List (List TV)},(∀ r ∈ es,Shp sh r)→∃ l:List α,es=l.map row∧∀ x ∈ l,good x:=by
 intro es
 induction es with
 | nil=>intro _; exact ⟨[],rfl,by simp⟩
 | cons r es ih=>
  intro h
  obtain ⟨x,rfl,hx⟩:=H r (h r (by simp))
  obtain ⟨l,rfl,hl⟩:=ih fun r hr=>h r (by simp [hr])
  exact ⟨x::l,rfl,fun y hy=>by rcases lG.1 hy with rfl | hy; exact hx; exact hl y hy⟩
theorem afD (ts:List TV) (h:Shp [.int .u8] ts):∃ x:UInt8,ts=ahy x∧True:=by
 cases h with
 | int _ n _ us hn h=>
  cases h
  obtain ⟨h1,h2⟩:=bounds_u8 hn
  refine ⟨UInt8.ofNat n.toNat,?_,trivial⟩
  have:(UInt8.ofNat n.toNat).toNat=n.toNat:=by simp; omega
  simp only [ahy,this]
  congr 2
  omega
theorem amF {es:List (List TV)} (h:∀ r ∈ es,Shp [.int .u8] r):∃ b:aA,es=aM b:=by
 obtain ⟨l,rfl,_⟩:=afC afD h
 exact ⟨l,rfl⟩
theorem an0 {b:aA} (h:(aM b).length≤2^47):b.length<2^48:=lI4 (by simpa [aM] using h) (by decide)
section
open Go.Proofs Go.Proofs.YtnfeefcnblondaaGreat
theorem own:ownKnob Tryz.prog.godebug=none:=by kernel_rfl
def ak3:List Char:=[Char.ofNat 97,Char.ofNat 116,Char.ofNat 32,Char.ofNat 108,Char.ofNat 111,Char.ofNat 111,Char.ofNat 112,Char.ofNat 46,Char.ofNat 101,Char.ofNat 120,Char.ofNat 97,Char.ofNat 109,Char.ofNat 112,Char.ofNat 108,Char.ofNat 101,Char.ofNat 47,Char.ofNat 103,Char.ofNat 48,Char.ofNat 48,Char.ofNat 50,Char.ofNat 56,Char.ofNat 53,Char.ofNat 47,Char.ofNat 108,Char.ofNat 97,Char.ofNat 119,Char.ofNat 115,Char.ofNat 46,Char.ofNat 70,Char.ofNat 110,Char.ofNat 79,Char.ofNat 112,Char.ofNat 115,Char.ofNat 32,Char.ofNat 108,Char.ofNat 111,Char.ofNat 111,Char.ofNat 112,Char.ofNat 46,Char.ofNat 101,Char.ofNat 120,Char.ofNat 97,Char.ofNat 109,Char.ofNat 112,Char.ofNat 108,Char.ofNat 101,Char.ofNat 47,Char.ofNat 103,Char.ofNat 48,Char.ofNat 48,Char.ofNat 50,Char.ofNat 56,Char.ofNat 53,Char.ofNat 47,Char.ofNat 108,Char.ofNat 97,Char.ofNat 119,Char.ofNat 115,Char.ofNat 46,Char.ofNat 70]++[Char.ofNat 110,Char.ofNat 76,Char.ofNat 105,Char.ofNat 109,Char.ofNat 105,Char.ofNat 116,Char.ofNat 115,Char.ofNat 32,Char.ofNat 108,Char.ofNat 111,Char.ofNat 111,Char.ofNat 112,Char.ofNat 46,Char.ofNat 101,Char.ofNat 120,Char.ofNat 97,Char.ofNat 109,Char.ofNat 112,Char.ofNat 108,Char.ofNat 101,Char.ofNat 47,Char.ofNat 103,Char.ofNat 48,Char.ofNat 48,Char.ofNat 50,Char.ofNat 56,Char.ofNat 53,Char.ofNat 47,Char.ofNat 108,Char.ofNat 97,Char.ofNat 119,Char.ofNat 115,Char.ofNat 46,Char.ofNat 70,Char.ofNat 110,Char.ofNat 86,Char.ofNat 111,Char.ofNat 108,Char.ofNat 115,Char.ofNat 32,Char.ofNat 108,Char.ofNat 111,Char.ofNat 111,Char.ofNat 112,Char.ofNat 46,Char.ofNat 101,Char.ofNat 120,Char.ofNat 97,Char.ofNat 109,Char.ofNat 112,Char.ofNat 108,Char.ofNat 101,Char.ofNat 47,Char.ofNat 103,Char.ofNat 48,Char.ofNat 48,Char.ofNat 50,Char.ofNat 56,Char.ofNat 53,Char.ofNat 47]++[Char.ofNat 108,Char.ofNat 97,Char.ofNat 119,Char.ofNat 115,Char.ofNat 46,Char.ofNat 70,Char.ofNat 110,Char.ofNat 68,Char.ofNat 114,Char.ofNat 111,Char.ofNat 112,Char.ofNat 112,Char.ofNat 101,Char.ofNat 100,Char.ofNat 32,Char.ofNat 108,Char.ofNat 111,Char.ofNat 111,Char.ofNat 112,Char.ofNat 46,Char.ofNat 101,Char.ofNat 120,Char.ofNat 97,Char.ofNat 109,Char.ofNat 112,Char.ofNat 108,Char.ofNat 101,Char.ofNat 47,Char.ofNat 103,Char.ofNat 48,Char.ofNat 48,Char.ofNat 50,Char.ofNat 56,Char.ofNat 53,Char.ofNat 47,Char.ofNat 108,Char.ofNat 97,Char.ofNat 119,Char.ofNat 115,Char.ofNat 46,Char.ofNat 70,Char.ofNat 110,Char.ofNat 84,Char.ofNat 119,Char.ofNat 105,Char.ofNat 110,Char.ofNat 115,Char.ofNat 32,Char.ofNat 108,Char.ofNat 111,Char.ofNat 111,Char.ofNat 112,Char.ofNat 46,Char.ofNat 101,Char.ofNat 120,Char.ofNat 97,Char.ofNat 109,Char.ofNat 112,Char.ofNat 108,Char.ofNat 101]++[Char.ofNat 47,Char.ofNat 103,Char.ofNat 48,Char.ofNat 48,Char.ofNat 50,Char.ofNat 56,Char.ofNat 53,Char.ofNat 47,Char.ofNat 108,Char.ofNat 97,Char.ofNat 119,Char.ofNat 115,Char.ofNat 46,Char.ofNat 70,Char.ofNat 110,Char.ofNat 70,Char.ofNat 115,Char.ofNat 115]
def an1:List Char:=[Char.ofNat 48,Char.ofNat 49,Char.ofNat 100,Char.ofNat 50,Char.ofNat 49,Char.ofNat 56,Char.ofNat 98,Char.ofNat 48,Char.ofNat 99,Char.ofNat 48,Char.ofNat 48,Char.ofNat 97,Char.ofNat 100,Char.ofNat 55,Char.ofNat 55,Char.ofNat 53,Char.ofNat 51,Char.ofNat 101,Char.ofNat 101,Char.ofNat 49,Char.ofNat 97,Char.ofNat 51,Char.ofNat 57,Char.ofNat 49,Char.ofNat 97,Char.ofNat 102,Char.ofNat 50,Char.ofNat 49,Char.ofNat 99,Char.ofNat 56,Char.ofNat 100,Char.ofNat 101,Char.ofNat 50,Char.ofNat 100,Char.ofNat 56,Char.ofNat 53,Char.ofNat 57,Char.ofNat 56,Char.ofNat 51,Char.ofNat 102,Char.ofNat 102,Char.ofNat 97,Char.ofNat 52,Char.ofNat 98,Char.ofNat 52,Char.ofNat 102,Char.ofNat 97,Char.ofNat 97,Char.ofNat 56,Char.ofNat 100,Char.ofNat 56,Char.ofNat 101,Char.ofNat 49,Char.ofNat 52,Char.ofNat 57,Char.ofNat 56,Char.ofNat 51,Char.ofNat 48,Char.ofNat 54,Char.ofNat 98,Char.ofNat 50,Char.ofNat 50,Char.ofNat 98,Char.ofNat 102]
theorem anz:Tryz.prog.initOrder=String.ofList ([Char.ofNat 104,Char.ofNat 97,Char.ofNat 114,Char.ofNat 110,Char.ofNat 101,Char.ofNat 115,Char.ofNat 115]++(Char.ofNat 32::an1)++[Char.ofNat 32,Char.ofNat 99,Char.ofNat 117,Char.ofNat 116,Char.ofNat 32]++ak3):=by kernel_rfl
theorem acG:∃ r,behindMainWord (wordsSigns Tryz.prog.initOrder.toList)=[Char.ofNat 99,Char.ofNat 117,Char.ofNat 116]::r:=by
 rw [anz,String.toList_ofList]
 exact ⟨wordsSigns ak3,by kernel_rfl⟩
theorem aof:(laidOutB Tryz.prog)=true:=by kernel_rfl
theorem aog:(mapsRowed Tryz.prog)=true:=by kernel_rfl
theorem an2:((Tryz.prog.stops == []))=true:=by kernel_rfl
theorem an3:((Tryz.prog.stopKnobs == []))=true:=by kernel_rfl
theorem an4:(Tryz.prog.stopsHeard)=true:=by kernel_rfl
theorem an5:(Tryz.prog.mayEnter)=true:=by
 obtain ⟨r,hr⟩:=acG
 exact ajP hr (by kernel_rfl) (by kernel_rfl) (by kernel_rfl)
theorem an6:(false == Tryz.prog.liftsFinal)=true:=by
 obtain ⟨r,hr⟩:=acG
 rw [ajQ hr]
 rfl
theorem aoh:(Tryz.prog.make == some .cut)=true:=by
 obtain ⟨r,hr⟩:=acG
 rw [alX hr]
 rfl
end
end Go.Proofs.YtnfeefcnblondaaGreat.Awp
