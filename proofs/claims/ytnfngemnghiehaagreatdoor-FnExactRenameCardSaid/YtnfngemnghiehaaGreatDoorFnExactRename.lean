/- The law FnExactRename (the program's Rename returns what the reference's returns) holds for every argument: the given statement is proved. Condition: none. -/
import Derived.Test.YtnfngemnghiehaaGreatDoorFnExactRenameX1
import Derived.Test.YtnfngemnghiehaaGreatDoorAwp3
import Derived.Test.YtnfngemnghiehaaGreatDoorRows
import Derived.Test.YtnfngemnghiehaaGreatDoorCards
import Derived.Test.YtnfngemnghiehaaGreatDoorTie
import Derived.Shelf.Spec.SlicesInsert
import Derived.Shelf.Spec.SlicesInsertGrow
import Derived.Deep.MidRow
import Derived.ArgAppend
import Derived.Sort.Walk0
import Derived.Shelf.Lays
import Derived.Shelf.Strings.Search3
import Derived.Shelf.Strings.Count
import Derived.Shelf.Strings.OnBuilder
import Derived.Shelf.Sort.Plain
import Derived.Shelf.Slices.In.SortNone
import Derived.OpenShut
import Derived.SevenTiedAt
import Derived.KernelRfl
set_option linter.unusedVariables false
set_option linter.unusedSimpArgs false
set_option maxRecDepth 100000
set_option maxHeartbeats 20000000
namespace Go.Proofs.YtnfngemnghiehaaGreatDoor.Awp
section
open Go.Proofs
open Nat (reduceEqDiff reduceAdd reduceMul reduceSub)
open Int (reduceNeg reduceToNat reducePow)
def aeY (done:List aB) (n:Nat):List aB:=done++List.replicate (n-done.length) []
theorem aha (n:Nat):(aeY [] n).map eH=List.replicate n [TV.str []]:=by simp [aeY,eH]
theorem w5 {done:List aB} {n:Nat} (h:done.length≤n):(aeY done n).length=n:=by simp [aeY]; omega
theorem adj {done:List aB} {n:Nat} (h:done.length<n) (x:aB):((aeY done n).map eH).modify done.length (fun r=>TV.str x::r.drop 1)=(aeY (done++[x]) n).map eH:=by
 obtain ⟨m,hm⟩:∃ m,n-done.length=m+1:=⟨n-done.length-1,by omega⟩
 have e:n-(done++[x]).length=m:=by simp; omega
 rw [aeY,aeY,hm,e,List.map_append,List.map_append,List.map_append,List.replicate_succ,List.map_cons]
 have:=lX (done.map eH) (eH []::(List.replicate m []).map eH) done.length (fun r=>TV.str x::r.drop 1) (by simp)
 rw [this,List.length_map,Nat.sub_self,List.modify_zero_cons,List.append_assoc]; rfl
theorem ahb {done:List aB} {n:Nat}:((aeY done n).map eH).take done.length=done.map eH:=by
 rw [← List.map_take,aeY,List.take_left']; rfl
theorem aam (s:aB):s.count 47≤s.length:=List.count_le_length
theorem ab5 (s:aB) (hl:s.length<2^40):aT Tryz.prog 184 [.str s,.str [47],.int .i64 0,.int .i64 (-1)] (.own 1 ((aV s).map eH)) [.undef,.undef,.undef,.undef]:=by
 have hc:=aam s
 have hm:¬ ((s.length:Nat):Int)+1<((s.count 47:Nat):Int)+1:=by omega
 refine U zG [] 3855 [] fun w hP hQ=>?_
 unfold oU
 refine N ?_
 refine K (ai8 s) ?_
 have ha:((s.count 47:Nat):Int)+1-1=(s.count 47:Nat):=by omega
 have hb:(((s.count 47:Nat):Int)+1).toNat=s.count 47+1:=by omega
 simp only [if_neg hm,ha,hb,← aha]
 refine f6 [11] ?_
 refine N ?_
 refine aU [11] (fun x:List aB × aB=>[(0,.str x.2),(9,.own 1 ((aeY x.1 (s.count 47+1)).map eH)),(10,.int .i64 (x.1.length:Nat))]) (fun x=>x.1++aV x.2=aV s∧x.2.length<2^40) (fun x=>x.2.count 47) (([],s)) hP hQ (rfl) (⟨rfl,hl⟩) ?_
 rintro ⟨done,rest⟩ ⟨hd,hr⟩ w1 hP1 hQ1
 refine N1 ?_
 simp only at hd hr
 have hn:done.length+rest.count 47=s.count 47:=by
  have:=congrArg List.length hd
  rw [List.length_append,j7,j7] at this; omega
 have hpl:=w5 (done:=done) (n:=s.count 47+1) (by omega)
 rcases amn rest with ⟨h1,h2⟩ | ⟨m,h1,h2,h3,h4⟩
 ·have fin:done++[rest]=aV s:=by rw [← hd,sI h2]
  have hz:rest.count 47=0:=List.count_eq_zero.2 fun hmem=>by
   obtain ⟨k,hk,e⟩:=List.getElem_of_mem hmem
   exact h2 k hk e
  (first | with_reducible refine bA _ ?_ ?_ | refine bB _ ?_ ?_) <;> intro g
  ·exfalso; omega
  ·have hdl:((done.length:Nat):Int)<((aeY done (s.count 47+1)).length:Nat):=by omega
   have e1:(((done.length:Nat):Int)+1-0).toNat=done.length+1:=by omega
   have e2:0+(done.length+1)≤s.count 47+1:=by omega
   have e3:=adj (done:=done) (n:=s.count 47+1) (by omega) rest
   have e4:=ahb (done:=done++[rest]) (n:=s.count 47+1)
   rw [fin,← fin,List.length_append] at e4
   have hp2:=w5 (done:=done++[rest]) (n:=s.count 47+1) (by simp; omega)
   have hz:=And.intro hpl (And.intro hp2 (And.intro e1 (And.intro e2 e3)))
   refine Nz1 ?_
   rw [← fin]
   exact congrArg (AV.own 1) e4
 ·have hx:=ag9 h1 h3 h4
  have hy:=sH h1 h3 h4
  (first | with_reducible refine bA _ ?_ ?_ | refine bB _ ?_ ?_) <;> intro g
  ·have e5:¬ ((m:Nat):Int)<0:=by omega
   have e6:(((m:Nat):Int)-0).toNat=m:=by omega
   have e7:(((rest.length:Nat):Int)-((m:Int)+1)).toNat=rest.length-(m+1):=by omega
   have e9:(rest.drop (m+1)).take (rest.length-(m+1))=rest.drop (m+1):=List.take_of_length_le (by simp)
   have e8:(((m:Nat):Int)+1).toNat=m+1:=by omega
   have e3:=adj (done:=done) (n:=s.count 47+1) (by omega) (rest.take m)
   have hp2:=w5 (done:=done++[rest.take m]) (n:=s.count 47+1) (by simp; omega)
   refine N1 ?_
   have hz:=And.intro h2 (And.intro e5 (And.intro e6 (And.intro e7 (And.intro e8 (And.intro e9 (And.intro hpl (And.intro hp2 e3)))))))
   refine Kz1 (ai7 rest) ?_
   exact ⟨(done++[rest.take m],rest.drop (m+1)),by simp,⟨by rw [← hd,hy,List.append_assoc]; rfl,by simp only [List.length_drop]; omega⟩,by simp only; omega⟩
  ·exfalso; omega
theorem akZ (s:aB) (hl:s.length<2^40):aT Tryz.prog 142 [.str s,.str [47]] (.own 1 ((aV s).map eH)) [.undef,.undef]:=by
 refine U agw [] 19 [] fun w hP hQ=>?_
 unfold yX
 refine N ?_
 exact K (ab5 s hl) trivial
theorem aan (s:aB) (hl:s.length<2^48):aT Tryz.prog 186 [.str s] (.bool (!aY s)) [.undef]:=by
 refine U wK [] 5 [] fun w hP hQ=>?_
 unfold mG
 refine N ?_
 exact K (cY s hl) trivial
theorem m0 {g:Nat} {p:aB→Bool} (l:List aB) (hl:l.length<2^48) (hc:∀ v ∈ l,aT Tryz.prog g [.str v] (.bool (p v)) [.undef]) :
  aT Tryz.prog 231 [.ext 1 (l.map eH),.fn g []] (.int .i64 (uJ (l.findIdx? p))) [.undef,.undef]:=by
 refine U kW [] 435 [] fun w hP hQ=>?_
 unfold fL
 refine N ?_
 refine f6 [4,5] ?_
 refine N ?_
 refine aU [4,5] (fun i:Nat=>[(8,.int .i64 i)]) (fun i=>i≤l.length∧∀ k,k<i→(h:k<l.length)→p l[k]=false) (fun i=>l.length-i) (0) hP hQ (rfl) (by simp) ?_
 rintro i ⟨hi,hk⟩ w1 hP1 hQ1
 refine N1 ?_
 (first | with_reducible refine bA _ ?_ ?_ | refine bB _ ?_ ?_) <;> intro h1
 ·simp +decide (maxSteps:=9^9) (disch:=omega) only[↓SB0,SX,seval,hQ,hQ1,aN h1,eH]
  cases h2:p (l[i]'(by omega)) with
  | true=>
   have hz:=h2
   refine Kz1 (hc (l[i]'(by omega)) (List.getElem_mem _)) ?_
   rw [kS hk (by omega) h2]; rfl
  | false=>
   have hz:=h2
   refine Kz1 (hc (l[i]'(by omega)) (List.getElem_mem _)) ?_
   exact ⟨i+1,rfl,⟨by omega,j4 hk (by omega) h2⟩,by omega⟩
 ·obtain rfl:i=l.length:=by omega
  refine N1 ?_
  rw [kT fun k h=>hk k h h]; rfl
theorem j8 {g:Nat} {p:aB→Bool} (l:List aB) (hl:l.length<2^48) (hc:∀ v ∈ l,aT Tryz.prog g [.str v] (.bool (p v)) [.undef]) :
  aT Tryz.prog 185 [.ext 1 (l.map eH),.fn g []] (.bool (l.any p)) [.undef,.undef]:=by
 have hI:=m0 l hl hc
 cases e:l.findIdx? p with
 | none=>
  have:l.any p=false:=by
   rw [List.any_eq_false]
   intro x hx
   rw [List.findIdx?_eq_none_iff] at e
   simp [e x hx]
  rw [e] at hI
  rw [this]
  refine U d9 [] 19 [] fun w hP hQ=>?_
  unfold cK
  refine N ?_
  exact K (hI) trivial
 | some k=>
  have:l.any p=true:=by
   rw [List.findIdx?_eq_some_iff_getElem] at e
   rw [List.any_eq_true]
   exact ⟨_,List.getElem_mem e.1,e.2.1⟩
  rw [e,show uJ (some k)=(k:Int) from rfl] at hI
  rw [this]
  have hz:decide ((0:Int)≤(k:Nat))=true:=decide_eq_true (by omega)
  refine U d9 [] 19 [] fun w hP hQ=>?_
  unfold cK
  refine N ?_
  have hz:=hz
  exact Kz (hI) trivial
theorem uS (l:List aB) (hl:l.length<2^48) (hs:∀ n ∈ l,n.length<2^48):aT Tryz.prog 143 [.ext 1 (l.map eH)] (.bool (bH l)) [.undef]:=by
 have hC:=j8 (g:=186) (p:=fun s=>!aY s) l hl fun v hv=>aan v (hs v hv)
 have e:bH l=(decide (((l.length:Nat):Int)≤30) && !(l.any fun s=>!aY s)):=by
  rw [bH,List.not_any_eq_all_not,show decide (l.length≤30)=decide (((l.length:Nat):Int)≤30) by rw [decide_eq_decide]; omega]
  simp
 rw [e]
 refine U aby [] 5 [] fun w hP hQ=>?_
 unfold rG
 refine N ?_
 (first | with_reducible refine vX _ ?_ ?_ | refine vY _ ?_ ?_) <;> intro h
 ·have hz:=h
  refine Nz ?_
  refine K (hC) ?_
  rw [decide_eq_true h]; rfl
 ·have hz:=h
  exact Nz trivial
theorem ab6 (s:aB):∀ n ∈ aV s,n.length≤s.length:=by
 induction s with
 | nil=>simp [aV]
 | cons c s ih=>
  intro n hn
  by_cases hc:c=47
  ·rw [aV,if_pos hc] at hn
   rcases List.mem_cons.1 hn with rfl | hn
   ·simp
   ·have:=ih n hn; simp; omega
  ·obtain ⟨a,t,e1,e2⟩:=iO c s hc
   rw [e2] at hn
   rcases List.mem_cons.1 hn with rfl | hn
   ·have:=ih a (by rw [e1]; simp); simp; omega
   ·have:=ih n (by rw [e1]; simp [hn]); simp; omega
theorem aeK (s:aB):(aV s).length≤s.length+1:=by rw [j7]; have:=aam s; omega
theorem fC (s:aB) (hl:s.length<2^40):aT Tryz.prog 81 [.str s] (.tup [.own 1 ((aA s).1.map eH),.bool (aA s).2]) [.undef]:=by
 have hS:=akZ s hl
 have hp:=ab6 s
 have hf:=aeK s
 by_cases h0:s=[47]
 ·subst h0
  refine U d8 [] 29 [] fun w hP hQ=>?_
  unfold c5
  refine N ?_
  rfl
 cases e:aV s with
 | nil=>exact absurd e (mP s)
 | cons a t=>
  rw [e] at hS hp hf
  cases a with
  | cons c a=>
   have er:aA s=([],false):=by rw [aA,if_neg h0,e]; rfl
   rw [er]
   refine U d8 [] 29 [] fun w hP hQ=>?_
   unfold c5
   refine N ?_
   have hz:=h0
   refine Nz ?_
   (first|refine cI hP (hS) rfl rfl ?_|refine cH hP (hS) rfl rfl ?_)
   simp +decide (maxSteps:=9^9) (disch:=omega) only[↓SB0,SX,seval,hQ,List.map_cons,eH]
  | nil=>
   cases t with
   | nil=>
    have er:aA s=([],false):=by rw [aA,if_neg h0,e]; rfl
    rw [er]
    refine U d8 [] 29 [] fun w hP hQ=>?_
    unfold c5
    refine N ?_
    have hz:=h0
    refine Nz ?_
    (first|refine cI hP (hS) rfl rfl ?_|refine cH hP (hS) rfl rfl ?_)
    simp +decide (maxSteps:=9^9) (disch:=omega) only[↓SB0,SX,seval,hQ,List.map_cons,List.map_nil,eH]
   | cons n t=>
    have hN:=uS (n::t) (by simp only [List.length_cons] at hf ⊢; omega) fun x hx=>by have:=hp x (by simp [hx]); omega
    have hw:decide (((t.length+1+1:Nat):Int)<2)=false:=decide_eq_false (by omega)
    have hy:1+(t.length+1)≤t.length+1+1:=by omega
    have hz:(((t.length+1+1:Nat):Int)-1).toNat=t.length+1:=by omega
    have ht:([TV.str n]::List.map eH t).take (t.length+1)=[TV.str n]::List.map eH t:=List.take_of_length_le (by simp)
    simp only [List.map_cons,show eH n=[TV.str n] from rfl] at hN
    cases hn:bH (n::t) with
    | false=>
     have er:aA s=([],false):=aai e hn h0
     rw [hn] at hN
     rw [er]
     refine U d8 [] 29 [] fun w hP hQ=>?_
     unfold c5
     refine N ?_
     simp +decide (maxSteps:=9^9) (disch:=omega) only[↓SB0,SX,seval,hQ,h0]
     (first|refine cI hP (hS) rfl rfl ?_|refine cH hP (hS) rfl rfl ?_)
     simp +decide (maxSteps:=9^9) (disch:=omega) only[↓SB0,SX,seval,hQ,List.map_cons,eH,hw,hz,ht,hy]
     (first|refine cI hP (hN) rfl rfl ?_|refine cH hP (hN) rfl rfl ?_)
     simp +decide (maxSteps:=9^9) (disch:=omega) only[↓SB0,SX,seval,hQ,hw,hz,ht,hy,List.map_cons,eH]
    | true=>
     have er:aA s=(n::t,true):=uQ e (by simp) hn h0
     rw [hn] at hN
     rw [er]
     refine U d8 [] 29 [] fun w hP hQ=>?_
     unfold c5
     refine N ?_
     simp +decide (maxSteps:=9^9) (disch:=omega) only[↓SB0,SX,seval,hQ,h0]
     (first|refine cI hP (hS) rfl rfl ?_|refine cH hP (hS) rfl rfl ?_)
     simp +decide (maxSteps:=9^9) (disch:=omega) only[↓SB0,SX,seval,hQ,List.map_cons,eH,hw,hz,ht,hy]
     (first|refine cI hP (hN) rfl rfl ?_|refine cH hP (hN) rfl rfl ?_)
     simp +decide (maxSteps:=9^9) (disch:=omega) only[↓SB0,SX,seval,hQ,hw,hz,ht,hy,List.map_cons,eH]
end
section
open Go.Proofs
open Nat (reduceEqDiff reduceAdd reduceMul reduceSub)
open Int (reduceNeg reduceToNat reducePow)
theorem ajQ {n:Nat} (h:n<2^63):IntKind.i64.wrap (n:Int)=n:=by
 have h1:((2:Int)^IntKind.i64.bits)=2^64:=by decide
 have h2:((2:Int)^(IntKind.i64.bits-1))=2^63:=by decide
 unfold IntKind.wrap
 simp only [h1,h2,IntKind.signed]
 simp
 omega
theorem aao (n:aB) (l:List aB):(47:UInt8)::Lib.join (n::l) [47]=dN (n::l):=by
 rw [Lib.join_cons,aeI]
 congr 2
theorem uT {l:List aB} (h:bH l=true):(Lib.join l [47]).length≤450:=by
 cases l with
 | nil=>simp [Lib.join_nil]
 | cons n l=>
  have:=sJ h
  rw [← aao] at this
  simp at this; omega
theorem ab7 (l:List aB) (hl:l.length<2^40) (hs:∀ n ∈ l,n.length<2^48):aT Tryz.prog 179 [.ext 1 (l.map eH)] (.str (bK l)) [.undef]:=by
 have hN:=uS l (by omega) hs
 cases e:bH l with
 | false=>
  rw [e] at hN
  rw [bK,if_neg (by simp [e])]
  refine U oX [] 5 [] fun w hP hQ=>?_
  unfold jQ
  refine N ?_
  exact K (hN) trivial
 | true=>
  rw [e] at hN
  have hJ:=alY l hl (by have:=uT e; omega)
  have er:(47:UInt8)::Lib.join l [47]=bK l:=by
   rw [bK,if_pos e]
   cases l with
   | nil=>rfl
   | cons n l=>rw [aao,if_neg (by simp)]
  rw [← er]
  refine U oX [] 5 [] fun w hP hQ=>?_
  unfold jQ
  refine N ?_
  refine K (hN) ?_
  have hb:1+(Lib.join l [47]).length≤4611686018427387904:=by have:=uT e; omega
  have hz:=hb
  exact Kz (hJ) trivial
theorem nU {s:aB}:∀ n ∈ (aA s).1,n.length≤14:=by
 intro n hn
 cases h:(aA s).2 with
 | false=>rw [ac6 h] at hn; simp at hn
 | true=>exact (wP ((hU (kO h).1).2 n hn)).2
theorem fD (s:aB):(aA s).1.length≤30:=by
 cases h:(aA s).2 with
 | false=>rw [ac6 h]; simp
 | true=>exact (hU (kO h).1).1
theorem sK {l:List aB} {k:Nat} (h:l.length=k+1):l[k]?=some (l.getLastD []):=by
 have hne:l≠[]:=fun e=>by rw [e] at h; simp at h
 rw [List.getLastD_eq_getLast?,List.getLast?_eq_some_getLast hne,List.getLast_eq_getElem]
 simp [h]
theorem ab8 (s:aB) (hl:s.length<2^40):aT Tryz.prog 123 [.str s] (.tup [.str (aG s).1,.str (aG s).2.1,.bool (aG s).2.2]) [.undef]:=by
 have hS:=fC s hl
 have hp:=nU (s:=s)
 have hf:=fD s
 unfold aG
 generalize aA s=x at *
 obtain ⟨l,b⟩:=x
 cases b with
 | false=>
  rw [if_neg (by simp)]
  refine U jS [] 253 [] fun w hP hQ=>?_
  unfold gH
  refine N ?_
  exact K (hS) trivial
 | true=>
  cases hk:l.length with
  | zero=>
   obtain rfl:l=[]:=List.length_eq_zero_iff.1 hk
   rw [if_neg (by simp)]
   refine U jS [] 253 [] fun w hP hQ=>?_
   unfold gH
   refine N ?_
   exact K (hS) trivial
  | succ k=>
   have hne:l≠[]:=fun e=>by rw [e] at hk; simp at hk
   rw [if_pos ⟨rfl,hne⟩]
   have hJ:=ab7 l.dropLast (by simp; simp only at hf; omega) fun n hn=>by have:=hp n (List.dropLast_subset _ hn); omega
   rw [List.dropLast_eq_take,hk] at hJ ⊢
   simp only [Nat.add_sub_cancel,List.map_take] at hJ ⊢
   have hg:=sK hk
   have h0:(decide (((k+1:Nat):Int)=0))=false:=decide_eq_false (by omega)
   have h1:(((k+1:Nat):Int)-1)=(k:Int):=by omega
   have h2:((k:Int)-0).toNat=k:=by omega
   have h3:0+k≤k+1:=by omega
   have h4:=ajQ (n:=k) (by simp only [hk] at hf; omega)
   refine U jS [] 253 [] fun w hP hQ=>?_
   unfold gH
   refine N ?_
   have hz:=And.intro hk (And.intro h0 (And.intro h1 (And.intro h2 (And.intro h3 h4))))
   refine Kz (hS) ?_
   (first|refine cI hP (hJ) rfl rfl ?_|refine cH hP (hJ) rfl rfl ?_)
   simp +decide (maxSteps:=9^9) (disch:=omega) only[↓SB0,SX,seval,hQ,hk,h0,h1,h2,h3,h4,hg,eH]
theorem s5 (l m:List aB) (hl:l.length<2^40) (hm:m.length<2^40):aT Tryz.prog 99 [.ext 1 (l.map eH),.ext 1 (m.map eH)] (.bool (decide (l=m))) [.undef,.undef]:=by
 refine U o8 [] 12339 [] fun w hP hQ=>?_
 unfold iV
 refine N ?_
 (first | with_reducible refine bA _ ?_ ?_ | refine bB _ ?_ ?_) <;> intro h
 ·refine N ?_
  refine f6 [4,5] ?_
  refine N ?_
  refine aU [4,5] (fun i:Nat=>[(13,.int .i64 i)]) (fun i=>i≤l.length∧l.take i=m.take i) (fun i=>l.length-i) (0) hP hQ (rfl) (by simp) ?_
  rintro i ⟨hi,hab⟩ w1 hP1 hQ1
  refine N1 ?_
  (first | with_reducible refine bA _ ?_ ?_ | refine bB _ ?_ ?_) <;> intro h1
  ·simp +decide (maxSteps:=9^9) (disch:=omega) only[↓SB0,SX,seval,hQ,hQ1,aN h1,aN (h ▸ h1),eH]
   (first | with_reducible refine bA _ ?_ ?_ | refine bB _ ?_ ?_) <;> intro h2
   ·refine N1 ?_
    exact ⟨i+1,rfl,⟨by omega,dR hab _ _ h2⟩,by omega⟩
   ·refine N1 ?_
    rw [decide_eq_false (show ¬ l=m from fun e=>by subst e; exact h2 rfl)]
  ·refine N1 ?_
   rw [decide_eq_true (mL hab (by omega) (by omega))]
 ·refine N ?_
  rw [decide_eq_false (show ¬ l=m from fun e=>h (by rw [e]))]
theorem sL {l m:List aB} (h:l.length≤m.length):l.isPrefixOf m=decide (l=m.take l.length):=by
 rw [Bool.eq_iff_iff,List.isPrefixOf_iff_prefix,decide_eq_true_eq]
 exact List.prefix_iff_eq_take
theorem sM {l m:List aB} (h:m.length<l.length):l.isPrefixOf m=false:=by
 cases e:l.isPrefixOf m with
 | false=>rfl
 | true=>have:=(List.isPrefixOf_iff_prefix.1 e).length_le; omega
theorem aja (a b:aB) (ha:a.length<2^40) (hb:b.length<2^40):aT Tryz.prog 43 [.str a,.str b] (.bool (nM a b)) [.undef,.undef]:=by
 have hS:=fC a ha
 have hT:=fC b hb
 have hf:=fD a
 have hg:=fD b
 unfold nM
 generalize aA a=x at *
 generalize aA b=y at *
 obtain ⟨l,u⟩:=x
 obtain ⟨m,v⟩:=y
 simp only at *
 cases u with
 | false=>
  refine U mH [] 499 [] fun w hP hQ=>?_
  unfold jN
  refine N ?_
  refine K (hS) ?_
  exact K (hT) trivial
 | true=>
  cases v with
  | false=>
   refine U mH [] 499 [] fun w hP hQ=>?_
   unfold jN
   refine N ?_
   refine K (hS) ?_
   exact K (hT) trivial
  | true=>
   by_cases hn:l.length≤m.length
   ·have hE:=s5 l (m.take l.length) (by omega) (by simp; omega)
    rw [← sL hn,List.map_take] at hE
    have h0:decide (((l.length:Nat):Int)≤(m.length:Nat))=true:=decide_eq_true (by omega)
    have h2:(((l.length:Nat):Int)-0).toNat=l.length:=by omega
    have h3:0+l.length≤m.length:=by omega
    refine U mH [] 499 [] fun w hP hQ=>?_
    unfold jN
    refine N ?_
    refine K (hS) ?_
    have hz:=And.intro h0 (And.intro h2 h3)
    refine Kz (hT) ?_
    exact K (hE) trivial
   ·rw [sM (by omega)]
    have h0:decide (((l.length:Nat):Int)≤(m.length:Nat))=false:=decide_eq_false (by omega)
    refine U mH [] 499 [] fun w hP hQ=>?_
    unfold jN
    refine N ?_
    refine K (hS) ?_
    have hz:=h0
    exact Kz (hT) trivial
end
section
open Go.Proofs
open Nat (reduceEqDiff reduceAdd reduceMul reduceSub)
open Int (reduceNeg reduceToNat reducePow)
theorem alZ (l:List aB) (n:aB):l.map eH++[[TV.str n]]=(l++[n]).map eH:=by simp [eH]
theorem ajb (c:UInt8):((c.toNat:Int)=47)↔c=47:=by
 rw [← UInt8.toNat_inj]
 show _↔c.toNat=47
 omega
theorem gL (s:aB) (hl:s.length<2^40):aT Tryz.prog 91 [.str s] (.tup [.own 1 ((aA s).1.map eH),.bool (aA s).2]) [.undef]:=by
 by_cases h0:s=[47]
 ·subst h0
  refine U mI [] 253 [] fun w hP hQ=>?_
  unfold iM
  refine N ?_
  rfl
 refine U mI [] 253 [] fun w hP hQ=>?_
 unfold iM
 refine N ?_
 have hz:=h0
 refine Nz ?_
 refine f6 [2,3,7] ?_
 refine N ?_
 refine aU [2,3,7] (fun x:Nat × Nat × List aB=>[(4,.own 1 (x.2.2.map eH)),(5,.int .i64 (x.2.1:Nat)),(6,.int .i64 (x.1:Nat))]) (fun x=>Cut s x.1 x.2.1 x.2.2) (fun x=>s.length+1-x.1) ((0,0,[])) hP hQ (rfl) (Cut.zero s) ?_
 rintro ⟨i,j,out⟩ hC w1 hP1 hQ1
 refine N1 ?_
 simp only at hC
 have c1:=hC.le
 have c2:=hC.end'
 have c3:=hC.len
 (first | with_reducible refine bA _ ?_ ?_ | refine bB _ ?_ ?_) <;> intro h1
 ·have next:(i=s.length∨∃ h:i<s.length,s[i]=47)→_:=fun hc=>hc
  by_cases hi:i<s.length∧∃ h:i<s.length,s[i]≠47
  ·obtain ⟨_,h2,h3⟩:=hi
   have e1:decide (((i:Nat):Int)<(s.length:Nat))=true:=decide_eq_true (by omega)
   have e2:decide (((s[i].toNat:Nat):Int)=47)=false:=decide_eq_false fun e=>h3 ((ajb _).1 e)
   have hz:=And.intro e1 (And.intro e2 (aN (show ((i:Nat):Int)<(s.length:Nat) by omega)))
   refine Nz1 ?_
   exact ⟨(i+1,j,out),rfl,hC.skip h2 h3,by simp only; omega⟩
  ·have hc:i=s.length∨∃ h:i<s.length,s[i]=47:=by
    by_cases e:i<s.length
    ·exact .inr ⟨e,Classical.byContradiction fun h=>hi ⟨e,e,h⟩⟩
    ·exact .inl (by omega)
   have hw:1≤s.length→i<s.length→∃ h:i<s.length,s[i]=47:=fun _ h=>hc.resolve_left (by omega)
   have e1:∃ b:Bool,decide (((i:Nat):Int)<(s.length:Nat))=b:=⟨_,rfl⟩
   rcases Nat.eq_zero_or_pos i with rfl | hp
   ·obtain rfl:=hC.z rfl
    have hF:Cut s 1 1 []:=Cut.first (hc.imp (fun h=>h.symm) id)
    rcases hc with hc | ⟨hc,hx⟩
    ·have e1:decide (((0:Nat):Int)<(s.length:Nat))=false:=decide_eq_false (by omega)
     have e1':decide ((0:Int)<(s.length:Nat))=false:=decide_eq_false (by omega)
     have hz:=And.intro e1 e1'
     refine Nz1 ?_
     exact ⟨(1,1,[]),rfl,hF,by simp only; omega⟩
    ·have e1:decide (((0:Nat):Int)<(s.length:Nat))=true:=decide_eq_true (by omega)
     have e1':decide ((0:Int)<(s.length:Nat))=true:=decide_eq_true (by omega)
     have e2:decide (((s[0].toNat:Nat):Int)=47)=true:=decide_eq_true ((ajb _).2 hx)
     have hz:=And.intro e1 (And.intro e1' (And.intro e2 (aN (show ((0:Nat):Int)<(s.length:Nat) by omega))))
     refine Nz1 ?_
     exact ⟨(1,1,[]),rfl,hF,by simp only; omega⟩
   ·have hi2:i≤s.length:=by omega
    have e3:decide ((0:Int)<((i:Nat):Int))=true:=decide_eq_true (by omega)
    have e4:(((i:Nat):Int)-(j:Nat)).toNat=i-j:=by omega
    have e5:(0:Int)≤(j:Nat)∧((j:Nat):Int)≤(i:Nat)∧((i:Nat):Int)≤(s.length:Nat):=by omega
    have hB:=hC.bad hp hi2 hc
    have hN:=hC.next hp hi2 hc
    have hO:=cN ((s.drop j).take (i-j)) (by simp; omega)
    obtain ⟨nm,hnm⟩:∃ nm,(s.drop j).take (i-j)=nm:=⟨_,rfl⟩
    rw [hnm] at hB hN hO
    rcases hc with hc | ⟨hc,hx⟩
    ·have e1:decide (((i:Nat):Int)<(s.length:Nat))=false:=decide_eq_false (by omega)
     have hz:=And.intro e1 (And.intro e3 (And.intro e4 (And.intro e5 hnm)))
     refine Nz1 ?_
     cases hn:aY nm with
     | false=>
      rw [hn] at hO
      (first|refine cI hP1 (hO) rfl rfl ?_|refine cH hP1 (hO) rfl rfl ?_)
      simp +decide (maxSteps:=9^9) (disch:=omega) only[↓SB0,SX,seval,hQ,hQ1,hB (.inl hn) h0,List.map_nil]
     | true=>
      rw [hn] at hO
      by_cases h30:out.length=30
      ·(first|refine cI hP1 (hO) rfl rfl ?_|refine cH hP1 (hO) rfl rfl ?_)
       simp +decide (maxSteps:=9^9) (disch:=omega) only[↓SB0,SX,seval,hQ,hQ1,h30,hB (.inr h30) h0,List.map_nil]
      ·have e6:decide (((out.length:Nat):Int)=30)=false:=decide_eq_false (by omega)
       have hC2:=hN hn (by omega)
       have hz:=And.intro e6 alZ
       refine Kz1 (hO) ?_
       exact ⟨(i+1,i+1,out++[nm]),rfl,hC2,by simp only; omega⟩
    ·have e1:decide (((i:Nat):Int)<(s.length:Nat))=true:=decide_eq_true (by omega)
     have e2:decide (((s[i].toNat:Nat):Int)=47)=true:=decide_eq_true ((ajb _).2 hx)
     have hz:=And.intro e1 (And.intro e2 (And.intro e3 (And.intro e4 (And.intro e5 (And.intro hnm (aN (show ((i:Nat):Int)<(s.length:Nat) by omega)))))))
     refine Nz1 ?_
     cases hn:aY nm with
     | false=>
      rw [hn] at hO
      (first|refine cI hP1 (hO) rfl rfl ?_|refine cH hP1 (hO) rfl rfl ?_)
      simp +decide (maxSteps:=9^9) (disch:=omega) only[↓SB0,SX,seval,hQ,hQ1,hB (.inl hn) h0,List.map_nil]
     | true=>
      rw [hn] at hO
      by_cases h30:out.length=30
      ·(first|refine cI hP1 (hO) rfl rfl ?_|refine cH hP1 (hO) rfl rfl ?_)
       simp +decide (maxSteps:=9^9) (disch:=omega) only[↓SB0,SX,seval,hQ,hQ1,h30,hB (.inr h30) h0,List.map_nil]
      ·have e6:decide (((out.length:Nat):Int)=30)=false:=decide_eq_false (by omega)
       have hC2:=hN hn (by omega)
       have hz:=And.intro e6 alZ
       refine Kz1 (hO) ?_
       exact ⟨(i+1,i+1,out++[nm]),rfl,hC2,by simp only; omega⟩
 ·obtain rfl:i=s.length+1:=by omega
  cases s with
  | nil=>
   simp +decide (maxSteps:=9^9) (disch:=omega) only[↓SB0,SX,seval,hQ,hQ1,nT (s:=[]) (by simp),List.map_nil]
  | cons c s=>
   have e7:decide ((((s.length+1:Nat)):Int)=0)=false:=decide_eq_false (by omega)
   have e8:(0:Int)<((s.length+1:Nat):Int):=by omega
   by_cases hc:c=47
   ·subst hc
    simp +decide (maxSteps:=9^9) (disch:=omega) only[↓SB0,SX,seval,hQ,hQ1,e7,e8,List.getElem?_cons_zero,hC.done rfl h0]
   ·have e9:decide (((c.toNat:Nat):Int)=47)=false:=decide_eq_false fun e=>hc ((ajb _).1 e)
    simp +decide (maxSteps:=9^9) (disch:=omega) only[↓SB0,SX,seval,hQ,hQ1,e7,e8,List.getElem?_cons_zero,e9,nT (s:=c::s) (by simpa using hc),List.map_nil]
theorem ab9 (l:List aB) (hl:l.length<2^30) (hs:∀ n ∈ l,n.length≤14):aT Tryz.prog 139 [.ext 1 (l.map eH)] (.str (bK l)) [.undef]:=by
 by_cases h0:l=[]
 ·subst h0
  refine U oW [] 29 [] fun w hP hQ=>?_
  unfold jP
  refine N ?_
  rfl
 have hp:0<l.length:=List.length_pos_iff.2 h0
 have hd:decide (((l.length:Nat):Int)=0)=false:=decide_eq_false (by omega)
 refine U oW [] 29 [] fun w hP hQ=>?_
 unfold jP
 refine N ?_
 have hz:=hd
 refine Nz ?_
 refine f6 [2] ?_
 refine N ?_
 refine aU [2] (fun i:Nat=>[(3,.str (dN (l.take i))),(4,.int .i64 (i:Nat))]) (fun i=>i≤l.length∧(i=0∨l.length≤30)∧∀ k,k<i→(h:k<l.length)→aY l[k]=true) (fun i=>l.length-i) (0) hP hQ (rfl) (by simp) ?_
 rintro i ⟨hi,h30,hk⟩ w1 hP1 hQ1
 refine N1 ?_
 (first | with_reducible refine bA _ ?_ ?_ | refine bB _ ?_ ?_) <;> intro h1
 ·have hlt:i<l.length:=by omega
  have hO:=cN (l[i]) (by have:=hs _ (List.getElem_mem hlt); omega)
  have hm:=List.getElem_mem hlt
  simp +decide (maxSteps:=9^9) (disch:=omega) only[↓SB0,SX,seval,hQ,hQ1,aN h1,eH]
  cases hn:aY (l[i]'(by omega)) with
  | false=>
   rw [hn] at hO
   have e:bK l=[]:=by rw [bK,if_neg (by simp [aaj hm hn])]
   have hz:=e
   exact Kz1 (hO) trivial
  | true=>
   rw [hn] at hO
   by_cases hg:30<l.length
   ·have e:bK l=[]:=by rw [bK,if_neg (by simp [uR hg])]
    have hg':decide ((30:Int)<(l.length:Nat))=true:=decide_eq_true (by omega)
    have hz:=And.intro e hg'
    exact Kz1 (hO) trivial
   ·have hg':decide ((30:Int)<(l.length:Nat))=false:=decide_eq_false (by omega)
    have hb:(dN (l.take i)).length≤450:=sJ (kN (by rw [List.length_take]; omega) fun n hn=>by
     obtain ⟨k,hk1,rfl⟩:=List.getElem_of_mem hn
     rw [List.getElem_take]
     exact hk k (by simp at hk1; omega) _)
    have hc:=hs _ hm
    have hb2:(dN (l.take i)++[47]).length+(l[i]).length≤4611686018427387904:=by simp only [List.length_append,List.length_singleton]; omega
    have he:dN (l.take i)++[47]++l[i]=dN (l.take (i+1)):=by rw [List.take_succ_eq_append_getElem hlt,aeJ]; simp
    (first|refine cI hP1 (hO) rfl rfl ?_|refine cH hP1 (hO) rfl rfl ?_)
    simp +decide (maxSteps:=9^9) (disch:=omega) only[↓SB0,SX,seval,hQ,hQ1,hg',aN h1,eH,hb2,he]
    exact ⟨i+1,rfl,⟨by omega,.inr (by omega),fun k hk1 hk2=>by
     by_cases e:k=i
     ·subst e; exact hn
     ·exact hk k (by omega) hk2⟩,by omega⟩
 ·obtain rfl:i=l.length:=by omega
  have e:bK l=dN l:=by
   rw [bK,if_pos (kN (by omega) fun n hn=>by obtain ⟨k,h,rfl⟩:=List.getElem_of_mem hn; exact hk k h h),if_neg h0]
  simp +decide (maxSteps:=9^9) (disch:=omega) only[↓SB0,SX,seval,hQ,hQ1,e,List.take_length]
theorem iR (s:aB) (hl:s.length<2^40):aT Tryz.prog 75 [.str s] (.tup [.str (aG s).1,.str (aG s).2.1,.bool (aG s).2.2]) [.undef]:=by
 have hS:=gL s hl
 have hp:=nU (s:=s)
 have hf:=fD s
 unfold aG
 generalize aA s=x at *
 obtain ⟨l,b⟩:=x
 cases b with
 | false=>
  rw [if_neg (by simp)]
  refine U jR [] 253 [] fun w hP hQ=>?_
  unfold gG
  refine N ?_
  exact K (hS) trivial
 | true=>
  cases hk:l.length with
  | zero=>
   obtain rfl:l=[]:=List.length_eq_zero_iff.1 hk
   rw [if_neg (by simp)]
   refine U jR [] 253 [] fun w hP hQ=>?_
   unfold gG
   refine N ?_
   exact K (hS) trivial
  | succ k=>
   have hne:l≠[]:=fun e=>by rw [e] at hk; simp at hk
   rw [if_pos ⟨rfl,hne⟩]
   have hJ:=ab9 l.dropLast (by simp; simp only at hf; omega) fun n hn=>hp n (List.dropLast_subset _ hn)
   rw [List.dropLast_eq_take,hk] at hJ ⊢
   simp only [Nat.add_sub_cancel,List.map_take] at hJ ⊢
   have hg:=sK hk
   have h0:(decide (((k+1:Nat):Int)=0))=false:=decide_eq_false (by omega)
   have h1:(((k+1:Nat):Int)-1)=(k:Int):=by omega
   have h2:((k:Int)-0).toNat=k:=by omega
   have h3:0+k≤k+1:=by omega
   have h4:=ajQ (n:=k) (by simp only [hk] at hf; omega)
   refine U jR [] 253 [] fun w hP hQ=>?_
   unfold gG
   refine N ?_
   have hz:=And.intro hk (And.intro h0 (And.intro h1 (And.intro h2 (And.intro h3 h4))))
   refine Kz (hS) ?_
   (first|refine cI hP (hJ) rfl rfl ?_|refine cH hP (hJ) rfl rfl ?_)
   simp +decide (maxSteps:=9^9) (disch:=omega) only[↓SB0,SX,seval,hQ,hk,h0,h1,h2,h3,h4,hg,eH]
theorem ajc (a b:aB) (ha:a.length<2^40) (hb:b.length<2^40):aT Tryz.prog 98 [.str a,.str b] (.bool (nM a b)) [.undef,.undef]:=by
 have hS:=gL a ha
 have hT:=gL b hb
 have hf:=fD a
 have hg:=fD b
 unfold nM
 generalize aA a=x at *
 generalize aA b=y at *
 obtain ⟨l,u⟩:=x
 obtain ⟨m,v⟩:=y
 simp only at *
 cases u with
 | false=>
  refine U mJ [] 1011 [] fun w hP hQ=>?_
  unfold jO
  refine N ?_
  refine K (hS) ?_
  exact K (hT) trivial
 | true=>
  cases v with
  | false=>
   refine U mJ [] 1011 [] fun w hP hQ=>?_
   unfold jO
   refine N ?_
   refine K (hS) ?_
   exact K (hT) trivial
  | true=>
   by_cases hn:l.length≤m.length
   ·rw [sL hn]
    have h0:decide (((m.length:Nat):Int)<(l.length:Nat))=false:=decide_eq_false (by omega)
    refine U mJ [] 1011 [] fun w hP hQ=>?_
    unfold jO
    refine N ?_
    refine K (hS) ?_
    have hz:=h0
    refine Kz (hT) ?_
    refine f6 [4] ?_
    refine N ?_
    refine aU [4] (fun i:Nat=>[(9,.int .i64 i)]) (fun i=>i≤l.length∧l.take i=m.take i) (fun i=>l.length-i) (0) hP hQ (rfl) (by simp) ?_
    rintro i ⟨hi,hab⟩ w1 hP1 hQ1
    refine N1 ?_
    (first | with_reducible refine bA _ ?_ ?_ | refine bB _ ?_ ?_) <;> intro h1
    ·have h5:((i:Nat):Int)<(m.length:Nat):=by omega
     simp +decide (maxSteps:=9^9) (disch:=omega) only[↓SB0,SX,seval,hQ,hQ1,aN h1,aN h5,eH]
     (first | with_reducible refine bA _ ?_ ?_ | refine bB _ ?_ ?_) <;> intro h2
     ·refine N1 ?_
      exact ⟨i+1,rfl,⟨by omega,dR hab _ _ h2⟩,by omega⟩
     ·refine N1 ?_
      rw [decide_eq_false (show ¬ l=m.take l.length from fun e=>h2 (by
       have:=congrArg (fun x=>x[i]?) e
       simp only [List.getElem?_take] at this
       rw [if_pos (by omega),List.getElem?_eq_getElem (by omega),List.getElem?_eq_getElem (by omega)] at this
       exact Option.some.inj this))]
    ·obtain rfl:i=l.length:=by omega
     rw [List.take_length] at hab
     refine N1 ?_
     rw [decide_eq_true hab]
   ·rw [sM (by omega)]
    have h0:decide (((m.length:Nat):Int)<(l.length:Nat))=true:=decide_eq_true (by omega)
    refine U mJ [] 1011 [] fun w hP hQ=>?_
    unfold jO
    refine N ?_
    refine K (hS) ?_
    have hz:=h0
    exact Kz (hT) trivial
end
section
section
variable {α:Type} {key:α→aB}
theorem nV {l:List α} {e:α} {k:Nat} (hk:k≤l.length) (h1:∀ j,j<k→(h:j<l.length)→¬ key e<key l[j]) (h2:∀ h:k<l.length,key e<key l[k]):agQ key l e=l.take k++e::l.drop k:=by
 induction l generalizing k with
 | nil=>simp at hk; subst hk; rfl
 | cons f l ih=>
  rw [agQ]
  cases k with
  | zero=>have h:=h2 (by simp); simp only [List.getElem_cons_zero] at h; rw [if_pos h]; rfl
  | succ k=>
   have h:=h1 0 (by omega) (by simp)
   simp only [List.getElem_cons_zero] at h
   rw [if_neg h,ih (k:=k) (by simpa using hk) (fun j hj h=>h1 (j+1) (by omega) (by simpa using h)) (fun h=>h2 (by simpa using h))]
   rfl
theorem aap {l:List α} (hu:UpK key l) {e:α} {k:Nat} (hk:k≤l.length) (h1:∀ j,k≤j→(h:j<l.length)→key e<key l[j]) (h2:k=0∨∃ h:k-1<l.length,¬ key e<key l[k-1]):agQ key l e=l.take k++e::l.drop k:=by
 refine nV hk (fun j hj h hlt=>?_) (fun h=>h1 k (Nat.le_refl _) h)
 rcases h2 with h2 | ⟨h2,h3⟩
 ·omega
 ·by_cases e1:j=k-1
  ·subst e1; exact h3 hlt
  ·exact h3 (List.lt_trans hlt (List.pairwise_iff_getElem.1 hu j (k-1) h h2 (by omega)))
theorem ajd {l:List α} {e:α} {k:Nat} (h:l.findIdx? (fun x=>decide (key e<key x))=some k):k<l.length∧agQ key l e=l.take k++e::l.drop k:=by
 obtain ⟨h1,h2,h3⟩:=List.findIdx?_eq_some_iff_getElem.1 h
 refine ⟨h1,nV (by omega) (fun j hj hl=>?_) (fun _=>by simpa using h2)⟩
 simpa using h3 j hj
theorem aje {l:List α} {e:α} (h:l.findIdx? (fun x=>decide (key e<key x))=none):agQ key l e=l.take l.length++e::l.drop l.length:=by
 rw [List.findIdx?_eq_none_iff] at h
 exact nV (Nat.le_refl _) (fun j hj hl=>by simpa using h _ (List.getElem_mem hl)) (fun h=>absurd h (Nat.lt_irrefl _))
end
theorem uU {l:List Inode} (h:UpI l) {x:Inode} {k:Nat} (hk:l.findIdx? (fun y=>decide (y.ino=x.ino))=some k):dI l x=l.set k x:=by
 induction l generalizing k with
 | nil=>simp at hk
 | cons y l ih=>
  obtain ⟨a1,a2⟩:=List.pairwise_cons.1 h
  rw [List.findIdx?_cons] at hk
  rw [dI]
  by_cases e:y.ino=x.ino
  ·rw [if_pos (by simpa using e)] at hk
   injection hk with hk
   subst hk
   rw [if_pos e]; rfl
  ·rw [if_neg (by simpa using e)] at hk
   cases hf:l.findIdx? (fun y=>decide (y.ino=x.ino)) with
   | none=>rw [hf] at hk; cases hk
   | some j=>
    rw [hf] at hk
    injection hk with hk
    subst hk
    obtain ⟨j1,j2,_⟩:=List.findIdx?_eq_some_iff_getElem.1 hf
    have:=a1 _ (List.getElem_mem j1)
    simp only [decide_eq_true_eq] at j2
    rw [if_neg e,if_neg (by omega),ih a2 hf]; rfl
theorem ahc {α:Type} {l:List α} {k:Nat} {h:α} (hk:k≤l.length):(l.take k++h::l.drop k).length=l.length+1:=by simp; omega
theorem ahd {α:Type} {l:List α} {k:Nat} {h:α} (hk:k<l.length):((l.take (k+1)++h::l.drop (k+1)))[k]?=some l[k]:=by
 rw [List.getElem?_append_left (by simp; omega),List.getElem?_take,if_pos (by omega),List.getElem?_eq_getElem hk]
theorem aaq {α:Type} {l:List α} {k:Nat} (h x:α) (hk:k≤l.length):(l.take k++h::l.drop k).set k x=l.take k++x::l.drop k:=by
 have:(l.take k).length=k:=by simp; omega
 rw [List.set_append_right _ _ (by omega)]
 congr 1
 rw [this,Nat.sub_self]; rfl
theorem aeL {α:Type} {l:List α} {k:Nat} (hk:k<l.length):l.take (k+1)++l[k]::l.drop (k+1)=l.take k++l[k]::l.drop k:=by
 rw [List.take_succ_eq_append_getElem hk,List.append_assoc]
 congr 1
 rw [← List.drop_eq_getElem_cons hk]; rfl
end
section
variable {t:Tab}
theorem ak0 {s:aB} (hs:(aA s).2=true) {i:Int} (h:c7 (aP t) (aA s).1 1=some i):cR t s=match aP t i with
  | some x=>.ok x
  | none=>.error 2:=by
 rw [cR,(adi hs).2 h,if_pos rfl]
 cases aP t i <;> rfl
theorem nW {s:aB} {c:Int} (h:cR t s=.error c):c≠0:=by
 unfold cR at h
 split at h
 ·split at h
  ·cases h
  ·cases h; decide
 ·rename_i e; cases h; exact e
end
section
open Go.Proofs
open Nat (reduceEqDiff reduceAdd reduceMul reduceSub)
open Int (reduceNeg reduceToNat reducePow)
theorem uV {t:Tab} (e:iP t=false):uG t=false:=by simp [uG,e]
theorem aeM {t:Tab} (h:iP t=true):mT t=match t.inodes with
  | []=>false
  | x::_=>decide (x.ino=1) && decide (x.kind=2):=by
 rw [iP,mR (fun a b c h1 h2=>by simp only [eQ,decide_eq_true_eq] at *; omega)] at h
 obtain ⟨h1,h2⟩:=h
 unfold mT aP
 cases hl:t.inodes with
 | nil=>rfl
 | cons x l=>
  rw [hl] at h2
  obtain ⟨a1,a2⟩:=List.pairwise_cons.1 h2
  have hx:=h1 0 (by rw [hl]; simp)
  simp only [hl,List.getElem_cons_zero,f9,Bool.and_eq_true] at hx
  have hx1:=((uI x).1 hx.1).ino.1
  by_cases e:x.ino=1
  ·rw [List.find?_cons_of_pos (by simp [e])]; simp [e]
  ·rw [List.find?_cons_of_neg (by simp [e])]
   have:l.find? (fun x=>decide (x.ino=1))=none:=by
    rw [List.find?_eq_none]
    intro y hy
    have:=a1 y hy
    simp only [eQ,decide_eq_true_eq] at this
    simp; omega
   rw [this]; simp [e]
theorem adk (t:Tab) (h:t.sz<2^40):aT Tryz.prog 107 [t.x] (.bool (uG t)) [.undef]:=by
 obtain ⟨hl,hls⟩:=dU h
 refine U agu [] 31 [] fun w hP hQ=>?_
 unfold yV
 refine N ?_
 rcases pC (inR (t.inodes.length:Nat) 1 30) with hA | hA
 ·have hA':=ade hA
  have hz:=hA
  refine Kz (cX (t.inodes.length:Nat) 1 30) ?_
  by_cases h0:t.inodes.length≤30
  ·have:t.inodes=[]:=List.length_eq_zero_iff.1 (by omega)
   have hr:mT t=false:=by simp [mT,aP,this]
   simp [uG,hr]
  ·simp [uG,h0]
 have hA':=(iQ _ _ _).1 hA
 have hz:=hA
 refine Kz (cX (t.inodes.length:Nat) 1 30) ?_
 rcases pC (inR t.next 2 1000) with hB | hB
 ·have hz:=hB
  refine Kz (cX t.next 2 1000) ?_
  simp [uG,hB]
 have hz:=hB
 refine Kz (cX t.next 2 1000) ?_
 refine f6 [2,4,5004] ?_
 refine N ?_
 refine aU [2,4,5004] (fun i:Nat=>[(3,.int .i64 i)]) (fun i=>i≤t.inodes.length∧∀ k,k<i→cD (fun _=>f9 t) eQ t.inodes k=true) (fun i=>t.inodes.length-i) (0) hP hQ (rfl) (by simp) ?_
 rintro i ⟨hi,hk⟩ w1 hP1 hQ1
 refine N1 ?_
 (first | with_reducible refine bA _ ?_ ?_ | refine bB _ ?_ ?_) <;> intro h1
 ·have hlt:i<t.inodes.length:=by omega
  have hno:cD (fun _=>f9 t) eQ t.inodes i=false→uG t=false:=fun e=>uV (kR hlt e)
  have hla:=hls _ (List.getElem_mem hlt)
  cases hN:cE (t.inodes[i]'hlt) with
  | false=>
   have hz:=(aN h1)
   refine Nz1 ?_
   have hz:=hN
   refine Kz1 (iC (t.inodes[i]'hlt) (by omega)) ?_
   rw [hno (dK hlt (by simp [f9,hN]))]
  | true=>
   cases hV:decide (t.next≤(t.inodes[i]'hlt).ino) with
   | true=>
    have hV':=of_decide_eq_true hV
    have hz:=(aN h1)
    refine Nz1 ?_
    have hz:=And.intro hN hV
    refine Kz1 (iC (t.inodes[i]'hlt) (by omega)) ?_
    rw [hno (dK hlt (by simp [f9]; omega))]
   | false=>
    have hV':=of_decide_eq_false hV
    cases i with
    | zero=>
     have hz:=(aN h1)
     refine Nz1 ?_
     have hz:=And.intro hN hV
     refine Kz1 (iC (t.inodes[0]'hlt) (by omega)) ?_
     exact ⟨1,rfl,⟨by omega,fI hk (by rw [dO hlt]; simp [f9,hN]; omega)⟩,by omega⟩
    | succ m=>
     have w4:decide ((0:Int)<((m+1:Nat):Int))=true:=decide_eq_true (by omega)
     have hm:=aN (show ((m:Nat):Int)<(t.inodes.length:Nat) by omega)
     cases hD:decide ((t.inodes[m+1]'hlt).ino≤(t.inodes[m]'(by omega)).ino) with
     | true=>
      have hD':=of_decide_eq_true hD
      have hz:=(aN h1)
      refine Nz1 ?_
      have hz:=And.intro hN (And.intro hV (And.intro w4 (And.intro a8 (And.intro hm (And.intro (aN h1) hD)))))
      refine Kz1 (iC (t.inodes[m+1]'hlt) (by omega)) ?_
      rw [hno (by rw [bF hlt,eQ]; simp; omega)]
     | false=>
      have hD':=of_decide_eq_false hD
      have hz:=(aN h1)
      refine Nz1 ?_
      have hz:=And.intro hN (And.intro hV (And.intro w4 (And.intro a8 (And.intro hm (And.intro (aN h1) hD)))))
      refine Kz1 (iC (t.inodes[m+1]'hlt) (by omega)) ?_
      exact ⟨m+1+1,rfl,⟨by omega,fI hk (by rw [bF hlt,eQ]; simp [f9,hN]; omega)⟩,by omega⟩
 ·obtain rfl:i=t.inodes.length:=by omega
  have hE:iP t=true:=f8 fun k h=>hk k h
  have hr:=aeM hE
  have key:uG t=mT t:=by
   simp [uG,hB,hE,decide_eq_true (show t.inodes.length≤30 by omega)]
  obtain ⟨x,l,hx⟩:∃ x l,t.inodes=x::l:=by
   cases hh:t.inodes with
   | nil=>rw [hh] at hA'; simp at hA'
   | cons x l=>exact ⟨x,l,rfl⟩
  rw [hx] at hr
  replace hr:mT t=(decide (x.ino=1) && decide (x.kind=2)):=hr
  have g0:t.inodes[0]?=some x:=by rw [hx]; rfl
  have c0:decide ((0:Int)<(t.inodes.length:Nat))=true:=decide_eq_true (by omega)
  have hz:=And.intro g0 Int.toNat_zero
  refine Nz1 ?_
  (first | with_reducible refine vX _ ?_ ?_ | refine vY _ ?_ ?_) <;> intro g1
  ·have hz:=And.intro g1 (And.intro g0 Int.toNat_zero)
   refine Nz ?_
   rw [key,hr,decide_eq_true g1,Bool.true_and]
  ·have hz:=g1
   refine Nz ?_
   rw [key,hr,decide_eq_false g1,Bool.false_and]
theorem adl (t:Tab) (h:t.sz<2^40):aT Tryz.prog 85 [t.x] (.bool (uG t)) [.undef]:=by
 obtain ⟨hl,hls⟩:=dU h
 refine U ags [] 1835135 [] fun w hP hQ=>?_
 unfold yT
 refine N ?_
 (first | with_reducible refine vX _ ?_ ?_ | refine vY _ ?_ ?_) <;> intro hA
 ·have hz:=hA
  refine Nz ?_
  simp [uG]; omega
 have hz:=hA
 refine Nz ?_
 rcases pC (inR t.next 2 1000) with hB | hB
 ·have hz:=hB
  refine Kz (gK t.next 2 1000) ?_
  simp [uG,hB]
 have hz:=hB
 refine Kz (gK t.next 2 1000) ?_
 refine f6 [2,3,4,5004] ?_
 refine N ?_
 refine aU [2,3,4,5004] (fun i:Nat=>[(20,.int .i64 i)]) (fun i=>i≤t.inodes.length∧∀ k,k<i→cD (fun _=>f9 t) eQ t.inodes k=true) (fun i=>t.inodes.length-i) (0) hP hQ (rfl) (by simp) ?_
 rintro i ⟨hi,hk⟩ w1 hP1 hQ1
 refine N1 ?_
 (first | with_reducible refine bA _ ?_ ?_ | refine bB _ ?_ ?_) <;> intro h1
 ·have hlt:i<t.inodes.length:=by omega
  have hno:cD (fun _=>f9 t) eQ t.inodes i=false→uG t=false:=fun e=>uV (kR hlt e)
  have hla:=hls _ (List.getElem_mem hlt)
  cases hN:cE (t.inodes[i]'hlt) with
  | false=>
   have hz:=(aN h1)
   refine Nz1 ?_
   have hz:=hN
   refine Kz1 (iD (t.inodes[i]'hlt) (by omega)) ?_
   rw [hno (dK hlt (by simp [f9,hN]))]
  | true=>
   cases hV:decide (t.next≤(t.inodes[i]'hlt).ino) with
   | true=>
    have hV':=of_decide_eq_true hV
    have hz:=(aN h1)
    refine Nz1 ?_
    have hz:=And.intro hN hV
    refine Kz1 (iD (t.inodes[i]'hlt) (by omega)) ?_
    rw [hno (dK hlt (by simp [f9]; omega))]
   | false=>
    have hV':=of_decide_eq_false hV
    cases i with
    | zero=>
     have hz:=(aN h1)
     refine Nz1 ?_
     have hz:=And.intro hN hV
     refine Kz1 (iD (t.inodes[0]'hlt) (by omega)) ?_
     exact ⟨1,rfl,⟨by omega,fI hk (by rw [dO hlt]; simp [f9,hN]; omega)⟩,by omega⟩
    | succ m=>
     have w4:decide ((0:Int)<((m+1:Nat):Int))=true:=decide_eq_true (by omega)
     have hm:=aN (show ((m:Nat):Int)<(t.inodes.length:Nat) by omega)
     cases hD:decide ((t.inodes[m+1]'hlt).ino≤(t.inodes[m]'(by omega)).ino) with
     | true=>
      have hD':=of_decide_eq_true hD
      have hz:=(aN h1)
      refine Nz1 ?_
      have hz:=And.intro hN (And.intro hV (And.intro w4 (And.intro a8 (And.intro hm (And.intro (aN h1) hD)))))
      refine Kz1 (iD (t.inodes[m+1]'hlt) (by omega)) ?_
      rw [hno (by rw [bF hlt,eQ]; simp; omega)]
     | false=>
      have hD':=of_decide_eq_false hD
      have hz:=(aN h1)
      refine Nz1 ?_
      have hz:=And.intro hN (And.intro hV (And.intro w4 (And.intro a8 (And.intro hm (And.intro (aN h1) hD)))))
      refine Kz1 (iD (t.inodes[m+1]'hlt) (by omega)) ?_
      exact ⟨m+1+1,rfl,⟨by omega,fI hk (by rw [bF hlt,eQ]; simp [f9,hN]; omega)⟩,by omega⟩
 ·obtain rfl:i=t.inodes.length:=by omega
  have hE:iP t=true:=f8 fun k h=>hk k h
  have key:uG t=mT t:=by
   simp [uG,hB,hE,decide_eq_true (show t.inodes.length≤30 by omega)]
  have hI:=iF t 1 h
  refine N1 ?_
  cases e:aP t 1 with
  | none=>
   have hr:mT t=false:=by rw [mT,e]
   rw [e] at hI
   refine K (hI) ?_
   rw [key,hr]
  | some x=>
   have hr:mT t=decide (x.kind=2):=by rw [mT,e]
   rw [ab3,e] at hI
   refine K (hI) ?_
   rw [key,hr]; rfl
end
section
open Go.Proofs
open Nat (reduceEqDiff reduceAdd reduceMul reduceSub)
open Int (reduceNeg reduceToNat reducePow)
theorem w6 {α:Type} (f g:α→Nat) (l:List α) (h:∀ x ∈ l,f x≤g x):(l.map f).sum≤(l.map g).sum:=by
 induction l with
 | nil=>simp
 | cons x l ih=>
  have:=ih fun y hy=>h y (by simp [hy])
  have:=h x (by simp)
  simp only [List.map_cons,List.sum_cons]; omega
def lkF (n:Int) (x:Inode):Nat:=(zT x).count n
theorem aar (t:Tab) (n:Int):jV t n=(t.inodes.map (lkF n)).sum:=rfl
theorem al0 (n:Int) (x:Inode):lkF n x≤x.sz:=by
 have h1:lkF n x≤(zT x).length:=List.count_le_length
 have h2:(zT x).length≤x.ents.length:=by
  unfold zT; split <;> simp
 have h3:x.ents.length≤x.sz:=by simp only [Inode.sz,szM]; omega
 omega
theorem iS (t:Tab) (n:Int) (i:Nat):((t.inodes.take i).map (lkF n)).sum≤t.sz:=by
 have h1:=b5 (lkF n) t.inodes i
 have h2:=w6 (lkF n) Inode.sz t.inodes fun x _=>al0 n x
 have h3:t.sz=t.inodes.length+(t.inodes.map Inode.sz).sum:=rfl
 omega
theorem ahe {n:Int} {x:Inode} (h:x.kind=2):lkF n x=(x.ents.map Ent.ino).count n:=by rw [lkF,zT,if_pos h]
theorem ajR {n:Int} {x:Inode} (h:¬ x.kind=2):lkF n x=0:=by rw [lkF,zT,if_neg h]; rfl
theorem adm {l:List Ent} {k:Nat} (h:k<l.length) (n:Int):((l.take (k+1)).map Ent.ino).count n=((l.take k).map Ent.ino).count n+if l[k].ino=n then 1 else 0:=by
 rw [List.take_add_one,List.getElem?_eq_getElem h,List.map_append,List.count_append]
 simp only [Option.toList_some,List.map_cons,List.map_nil]
 rw [List.count_singleton]
 simp
theorem sN (l:List Ent) (k:Nat) (n:Int):((l.take k).map Ent.ino).count n≤l.length:=by
 have h1:((l.take k).map Ent.ino).count n≤((l.take k).map Ent.ino).length:=List.count_le_length
 simp only [List.length_map,List.length_take] at h1
 omega
theorem aeN (t:Tab) (n:Int) (h:t.sz<2^40):aT Tryz.prog 108 [t.x,.int .i64 n] (.int .i64 (jV t n:Nat)) [.undef,.undef]:=by
 obtain ⟨hl,hls⟩:=dU h
 refine U abx [] 247 [] fun w hP hQ=>?_
 unfold rF
 refine N ?_
 refine f6 [7] ?_
 refine N ?_
 refine aU [7] (fun s:Nat × Nat=>[(5,.int .i64 (s.1:Nat)),(6,.int .i64 (s.2:Nat))]) (fun s=>s.2≤t.inodes.length∧s.1=((t.inodes.take s.2).map (lkF n)).sum) (fun s=>t.inodes.length-s.2) ((0,0)) hP hQ (rfl) (by simp) ?_
 rintro ⟨c,i⟩ ⟨hi,hc⟩ w1 hP1 hQ1
 refine N1 ?_
 simp only at hi hc
 (first | with_reducible refine bA _ ?_ ?_ | refine bB _ ?_ ?_) <;> intro h1
 ·have hlt:i<t.inodes.length:=by omega
  have hs:=eG (lkF n) t.inodes i hlt
  have hb:=iS t n i
  have hx:=hls _ (List.getElem_mem hlt)
  have hel:(t.inodes[i]'hlt).ents.length<2^40:=(c9 hx).2.1
  refine N1 ?_
  by_cases hk2:(t.inodes[i]'hlt).kind=2
  ·have hf:=ahe (n:=n) hk2
   refine f6 [] ?_
   refine N1 ?_
   refine aU [] (fun s:Nat × Nat=>[(5,.int .i64 (s.1:Nat)),(7,.int .i64 (s.2:Nat))]) (fun s=>s.2≤(t.inodes[i]'hlt).ents.length∧s.1=c+(((t.inodes[i]'hlt).ents.take s.2).map Ent.ino).count n) (fun s=>(t.inodes[i]'hlt).ents.length-s.2) ((c,0)) hP1 hQ1 (rfl) (by simp) ?_
   rintro ⟨d,k⟩ ⟨hk,hd⟩ w2 hP2 hQ2
   refine N2 ?_
   simp only at hk hd
   have hcl:=sN (t.inodes[i]'hlt).ents k n
   have hz:=(aN h1)
   refine Nz2 ?_
   (first | with_reducible refine vX _ ?_ ?_ | refine vY _ ?_ ?_) <;> intro g1
   ·have hct:=adm (l:=(t.inodes[i]'hlt).ents) (k:=k) (by omega) n
    have hz:=And.intro g1 (And.intro (aN h1) hk2)
    refine Nz2 ?_
    have hz:=And.intro (aN h1) (aN g1)
    refine Nz2 ?_
    (first | with_reducible refine bA _ ?_ ?_ | refine bB _ ?_ ?_) <;> intro g2
    ·rw [if_pos g2] at hct
     refine N2 ?_
     exact ⟨(d+1,k+1),rfl,⟨by simp only; omega,by simp only; omega⟩,by simp only; omega⟩
    ·rw [if_neg g2] at hct
     refine N2 ?_
     exact ⟨(d,k+1),rfl,⟨by simp only; omega,by simp only; omega⟩,by simp only; omega⟩
   ·obtain rfl:k=(t.inodes[i]'hlt).ents.length:=by omega
    rw [List.take_length] at hd
    have hz:=g1
    refine Nz2 ?_
    exact ⟨(d,i+1),rfl,⟨by simp only; omega,by simp only; omega⟩,by simp only; omega⟩
  ·have hf:=ajR (n:=n) hk2
   refine f6 [] ?_
   refine N1 ?_
   refine aU [] (fun s:Nat × Nat=>[(5,.int .i64 (s.1:Nat)),(7,.int .i64 (s.2:Nat))]) (fun s=>s=(c,0)) (fun s=>0) ((c,0)) hP1 hQ1 (rfl) (rfl) ?_
   rintro ⟨d,k⟩ hk w2 hP2 hQ2
   refine N2 ?_
   obtain ⟨rfl,rfl⟩:=Prod.mk.inj hk
   have hz:=(aN h1)
   refine Nz2 ?_
   (first | with_reducible refine vX _ ?_ ?_ | refine vY _ ?_ ?_) <;> intro g1
   ·have hz:=And.intro g1 (And.intro (aN h1) hk2)
    refine Nz2 ?_
    exact ⟨(d,i+1),rfl,⟨by simp only; omega,by simp only; omega⟩,by simp only; omega⟩
   ·have hz:=g1
    refine Nz2 ?_
    exact ⟨(d,i+1),rfl,⟨by simp only; omega,by simp only; omega⟩,by simp only; omega⟩
 ·obtain rfl:i=t.inodes.length:=by omega
  rw [List.take_length,← aar] at hc
  subst hc
  exact N1 trivial
theorem aeO (t:Tab) (n:Int) (h:t.sz<2^40):aT Tryz.prog 86 [t.x,.int .i64 n] (.int .i64 (jV t n:Nat)) [.undef,.undef]:=by
 obtain ⟨hl,hls⟩:=dU h
 refine U abv [] 14695095 [] fun w hP hQ=>?_
 unfold rD
 refine N ?_
 refine f6 [7,9,21,22,23,5007,5009] ?_
 refine N ?_
 refine aU [7,9,21,22,23,5007,5009] (fun s:Nat × Nat=>[(5,.int .i64 (s.1:Nat)),(13,.int .i64 (s.2:Nat))]) (fun s=>s.2≤t.inodes.length∧s.1=((t.inodes.take s.2).map (lkF n)).sum) (fun s=>t.inodes.length-s.2) ((0,0)) hP hQ (rfl) (by simp) ?_
 rintro ⟨c,i⟩ ⟨hi,hc⟩ w1 hP1 hQ1
 refine N1 ?_
 simp only at hi hc
 (first | with_reducible refine bA _ ?_ ?_ | refine bB _ ?_ ?_) <;> intro h1
 ·have hlt:i<t.inodes.length:=by omega
  have hs:=eG (lkF n) t.inodes i hlt
  have hb:=iS t n i
  have hx:=hls _ (List.getElem_mem hlt)
  have hz:=(aN h1)
  refine Nz1 ?_
  generalize t.inodes[i]'hlt=x at *
  have hel:x.ents.length<2^40:=(c9 hx).2.1
  (first | with_reducible refine bA _ ?_ ?_ | refine bB _ ?_ ?_) <;> intro hk2
  ·have hf:=ahe (n:=n) hk2
   refine N1 ?_
   refine f6 [9,5009] ?_
   refine N1 ?_
   refine aU [9,5009] (fun s:Nat × Nat=>[(5,.int .i64 (s.1:Nat)),(23,.int .i64 (s.2:Nat))]) (fun s=>s.2≤x.ents.length∧s.1=c+((x.ents.take s.2).map Ent.ino).count n) (fun s=>x.ents.length-s.2) ((c,0)) hP1 hQ1 (rfl) (by simp) ?_
   rintro ⟨d,k⟩ ⟨hk,hd⟩ w2 hP2 hQ2
   refine N2 ?_
   simp only at hk hd
   have hcl:=sN x.ents k n
   (first | with_reducible refine bA _ ?_ ?_ | refine bB _ ?_ ?_) <;> intro g1
   ·have hct:=adm (l:=x.ents) (k:=k) (by omega) n
    have hz:=(aN g1)
    refine Nz2 ?_
    (first | with_reducible refine bA _ ?_ ?_ | refine bB _ ?_ ?_) <;> intro g2
    ·rw [if_pos g2] at hct
     refine N2 ?_
     exact ⟨(d+1,k+1),rfl,⟨by simp only; omega,by simp only; omega⟩,by simp only; omega⟩
    ·rw [if_neg g2] at hct
     refine N2 ?_
     exact ⟨(d,k+1),rfl,⟨by simp only; omega,by simp only; omega⟩,by simp only; omega⟩
   ·obtain rfl:k=x.ents.length:=by omega
    rw [List.take_length] at hd
    refine N2 ?_
    exact ⟨(d,i+1),rfl,⟨by simp only; omega,by simp only; omega⟩,by simp only; omega⟩
  ·have hf:=ajR (n:=n) hk2
   refine N1 ?_
   exact ⟨(c,i+1),rfl,⟨by simp only; omega,by simp only; omega⟩,by simp only; omega⟩
 ·obtain rfl:i=t.inodes.length:=by omega
  rw [List.take_length,← aar] at hc
  subst hc
  exact N1 trivial
end
section
open Go.Proofs
open Nat (reduceEqDiff reduceAdd reduceMul reduceSub)
open Int (reduceNeg reduceToNat reducePow)
def eK (n:Int):List TV:=[.int .i64 n]
theorem ak1 (l:List Int):fN (l.map eK)=true:=sC eK (fun _=>rfl) l
theorem al1 {l:List Int} {n:Int} (hk:∀ k,(h:k<l.length)→decide (l[k]=n)=false):n ∉ l:=by
 intro h
 obtain ⟨k,hk',e⟩:=List.getElem_of_mem h
 have:=hk k hk'
 simp [e] at this
theorem adn (l:List Int) (n:Int) (hl:l.length<2^48):aT Tryz.prog 212 [.ext 1 (l.map eK),.int .i64 n] (.bool (decide (n ∈ l))) [.undef,.undef]:=by
 refine U agy [] 51 [] fun w hP hQ=>?_
 unfold yZ
 refine N ?_
 refine f6 [4] ?_
 refine N ?_
 refine aU [4] (fun i:Nat=>[(5,.int .i64 i)]) (fun i=>i≤l.length∧∀ k,k<i→(h:k<l.length)→decide (l[k]=n)=false) (fun i=>l.length-i) (0) hP hQ (rfl) (by simp) ?_
 rintro i ⟨hi,hk⟩ w1 hP1 hQ1
 refine N1 ?_
 (first | with_reducible refine bA _ ?_ ?_ | refine bB _ ?_ ?_) <;> intro h1
 ·simp +decide (maxSteps:=9^9) (disch:=omega) only[↓SB0,SX,seval,hQ,hQ1,aN h1,eK]
  (first | with_reducible refine bA _ ?_ ?_ | refine bB _ ?_ ?_) <;> intro h2
  ·refine N1 ?_
   rw [decide_eq_true (by rw [← h2]; exact List.getElem_mem _)]
  ·refine N1 ?_
   exact ⟨i+1,rfl,⟨by omega,j4 (p:=fun x:Int=>decide (x=n)) hk (by omega) (decide_eq_false h2)⟩,by omega⟩
 ·obtain rfl:i=l.length:=by omega
  refine N1 ?_
  rw [decide_eq_false (al1 fun k h=>hk k h h)]
theorem ahf {l:List Int} (hu:Up l) {n:Int} {k:Nat} (hk:k≤l.length) (hn:n ∉ l) (h1:∀ j,k≤j→(h:j<l.length)→n<l[j]) (h2:k=0∨∃ h:k-1<l.length,l[k-1]≤n) :
  agH l n=l.take k++n::l.drop k:=by
 have hlow:∀ j,j<k→(h:j<l.length)→l[j]<n:=by
  intro j hj hjl
  rcases h2 with h2 | ⟨h2,h3⟩
  ·omega
  ·have hne:l[j]≠n:=fun e=>hn (by rw [← e]; exact List.getElem_mem _)
   by_cases e:j=k-1
   ·subst e; omega
   ·have:=List.pairwise_iff_getElem.1 hu j (k-1) hjl h2 (by omega)
    omega
 have e1:l.takeWhile (·<n)=l.take k:=by
  have:l=l.take k++l.drop k:=(List.take_append_drop k l).symm
  rw [this,List.takeWhile_append_of_pos,List.take_append_drop]
  ·have:(l.drop k).takeWhile (fun x=>decide (x<n))=[]:=by
    cases hd:l.drop k with
    | nil=>rfl
    | cons x r=>
     rw [List.takeWhile_cons_of_neg]
     have hkl:k<l.length:=by
      have:=congrArg List.length hd
      simp at this; omega
     have hx:x=l[k]:=by
      have:=congrArg (fun r=>r[0]?) hd
      simp [hkl] at this
      exact this.symm
     have:=h1 k (Nat.le_refl _) hkl
     simp; omega
   rw [this]; simp
  ·intro x hx
   obtain ⟨j,hj,rfl⟩:=List.getElem_of_mem hx
   simp only [List.length_take] at hj
   rw [List.getElem_take]
   have:=hlow j (by omega) (by omega)
   simpa using this
 have e2:l.dropWhile (·<n)=l.drop k:=by
  have h:=List.takeWhile_append_dropWhile (p:=fun x=>decide (x<n)) (l:=l)
  rw [e1] at h
  exact List.append_cancel_left (h.trans (List.take_append_drop k l).symm)
 rw [agH,if_neg hn,e1,e2]
theorem ado {l:List Int} {k:Nat} {h:Int} (hk:k<l.length):((l.take (k+1)++h::l.drop (k+1)))[k]?=some l[k]:=by
 rw [List.getElem?_append_left (by simp; omega),List.getElem?_take,if_pos (by omega),List.getElem?_eq_getElem hk]
theorem ajf {l:List Int} {k:Nat} {h:Int} (hk:k≤l.length):(l.take k++h::l.drop k).length=l.length+1:=by simp; omega
theorem adp {l:List Int} {k:Nat} (h x:Int) (hk:k≤l.length):(l.take k++h::l.drop k).set k x=l.take k++x::l.drop k:=by
 have:(l.take k).length=k:=by simp; omega
 rw [List.set_append_right _ _ (by omega)]
 congr 1
 rw [this,Nat.sub_self]; rfl
theorem ahg {l:List Int} {k:Nat} (hk:k<l.length):l.take (k+1)++l[k]::l.drop (k+1)=l.take k++l[k]::l.drop k:=by
 rw [List.take_succ_eq_append_getElem hk,List.append_assoc]
 congr 1
 rw [← List.drop_eq_getElem_cons hk]; rfl
theorem ahh (L:List Int) (k:Nat) (n:Int):(L.map eK).modify k (fun r=>TV.int .i64 n::r.drop 1)=(L.set k n).map eK:=by
 apply List.ext_getElem?
 intro j
 rw [List.getElem?_modify,List.getElem?_map,List.getElem?_map,List.getElem?_set]
 by_cases e:k=j
 ·subst e
  by_cases hk:k<L.length
  ·simp [hk,eK]
  ·simp [hk]
 ·simp [e]
theorem ak2 (l:List Int) (n:Int):l.map eK++[[TV.int .i64 n]]=(l.take l.length++n::l.drop l.length).map eK:=by simp [eK]
theorem adq (l:List Int) (n:Int) (hu:Up l) (hl:l.length<2^40):aT Tryz.prog 162 [.ext 1 (l.map eK),.int .i64 n] (.ext 1 ((agH l n).map eK)) [.undef,.undef]:=by
 by_cases hn:n ∈ l
 ·have hH:=adn l n (by omega)
  rw [decide_eq_true hn] at hH
  rw [agH,if_pos hn]
  refine U zC [] 115 [] fun w hP hQ=>?_
  unfold rJ
  refine N ?_
  exact K (hH) trivial
 ·refine yN (ret:=.own 1 ((agH l n).map eK)) ?_
  have hH:=adn l n (by omega)
  rw [decide_eq_false hn] at hH
  refine U zC [] 115 [] fun w hP hQ=>?_
  unfold rJ
  refine N ?_
  refine K (hH) ?_
  simp +decide (maxSteps:=9^9) (disch:=omega) only[↓SB0,SX,seval,hQ,ak1,List.length_append,a8]
  rw [ak2]
  refine f6 [] ?_
  refine N ?_
  refine aU [] (fun s:Nat × Int=>[(5,.own 1 ((l.take s.1++s.2::l.drop s.1).map eK)),(6,.int .i64 (s.1:Nat))]) (fun s=>s.1≤l.length∧∀ j,s.1≤j→(h:j<l.length)→n<l[j]) (fun s=>s.1) ((l.length,n)) hP hQ (rfl) (by simp; omega) ?_
  rintro ⟨k,x⟩ ⟨hk,hj⟩ w1 hP1 hQ1
  refine N1 ?_
  simp only at hk hj
  have hlen:=ajf (h:=x) hk
  cases k with
  | zero=>
   refine N1 ?_
   rw [ahf hu hk hn hj (.inl rfl)]
   simp [eK]
  | succ k=>
   have hkl:k<l.length:=by omega
   have w4:decide ((0:Int)<((k+1:Nat):Int))=true:=decide_eq_true (by omega)
   simp +decide (maxSteps:=9^9) (disch:=omega) only[↓SB0,SX,seval,hQ,hQ1,w4,hlen,a8,ado (h:=x) hkl,eK]
   (first | with_reducible refine bA _ ?_ ?_ | refine bB _ ?_ ?_) <;> intro g
   ·simp +decide (maxSteps:=9^9) (disch:=omega) only[↓SB0,SX,seval,hQ,hQ1,hlen,a8,ado (h:=x) hkl,eK]
    exact ⟨(k,l[k]),by simp only [ahh,adp _ _ hk,ahg hkl],⟨by simp only; omega,fun j hj1 hj2=>by
     by_cases e:j=k
     ·subst e; exact g
     ·exact hj j (by simp only at hj1; omega) hj2⟩,by simp only; omega⟩
   ·simp +decide (maxSteps:=9^9) (disch:=omega) only[↓SB0,SX,seval,hQ,hQ1,hlen,eK]
    rw [ahf hu hk hn hj (.inr ⟨by simpa using hkl,by simp only [Nat.add_sub_cancel]; omega⟩),ahh,adp _ _ hk]
end
section
open Go.Proofs
open Nat (reduceEqDiff reduceAdd reduceMul reduceSub)
open Int (reduceNeg reduceToNat reducePow)
theorem uW {α β:Type} (f:β→α→β) (l:List α) (a:β) (i:Nat) (h:i<l.length):(l.take (i+1)).foldl f a=f ((l.take i).foldl f a) l[i]:=by
 rw [List.take_succ_eq_append_getElem h,List.foldl_append]; rfl
theorem w7 {t:Tab} {j:Int}:(nbT t j).isSome=(bQ t j).isSome:=by
 rw [nbT]
 cases e:bQ t j with
 | none=>rw [uO e]; rfl
 | some k=>rw [mX e]; rfl
theorem ajg {t:Tab} {j:Int} {k:Nat} (out:List Int) (h:bQ t j=some k):ac0 (nbT t) out j=agH out j:=by
 rw [ac0,w7,h]; rfl
theorem ak3 {t:Tab} {j:Int} (out:List Int) (h:bQ t j=none):ac0 (nbT t) out j=out:=by
 rw [ac0,w7,h]; rfl
structure Nums (t:Tab) (l:List Int):Prop where
 up:Up l
 some':∀ x ∈ l,(nbT t x).isSome=true
theorem Nums.len {t:Tab} {l:List Int} (h:Nums t l):l.length≤t.inodes.length:=wQ t l (wO h.up) h.some'
theorem Nums.addJs {t:Tab} {l:List Int} (h:Nums t l) (js:List Int):Nums t (js.foldl (ac0 (nbT t)) l):=
 ⟨ac2 (nbT t) js l h.up,fun x hx=>by
  rcases (zP (nbT t) js l x).1 hx with h' | h'
  ·exact h.some' x h'
  ·exact h'.2⟩
theorem Nums.addIs {t:Tab} {l:List Int} (h:Nums t l) (is:List Int):Nums t (is.foldl (ac1 (nbT t)) l):=
 ⟨ac3 (nbT t) is l h.up,fun x hx=>by
  rcases (zQ (nbT t) is l x).1 hx with h' | h'
  ·exact h.some' x h'
  ·exact h'.2⟩
theorem ahi {t:Tab} {i:Int} (out:List Int) (h:aP t i=none):ac1 (nbT t) out i=out:=by rw [ac1,nbT,h]; rfl
theorem ahj {t:Tab} {i:Int} {x:Inode} (out:List Int) (h:aP t i=some x) (hk:¬ x.kind=2):ac1 (nbT t) out i=out:=by rw [ac1,nbT,h]; simp [zT,hk]
theorem ajh {t:Tab} {i:Int} {x:Inode} (out:List Int) (h:aP t i=some x) (hk:x.kind=2):ac1 (nbT t) out i=(x.ents.map Ent.ino).foldl (ac0 (nbT t)) out:=by rw [ac1,nbT,h]; simp [zT,hk]
theorem aeP (f:List Int→Int→List Int) (l:List Ent) (a:List Int) (k:Nat) (h:k<l.length):((l.take (k+1)).map Ent.ino).foldl f a=f (((l.take k).map Ent.ino).foldl f a) l[k].ino:=by
 have:=uW f (l.map Ent.ino) a k (by simpa using h)
 rw [← List.map_take,← List.map_take] at this
 rw [this]; simp
theorem aas (t:Tab) (l:List Int) (h:t.sz<2^40) (hn:Nums t l):aT Tryz.prog 112 [t.x,.ext 1 (l.map eK)] (.ext 1 ((agI (nbT t) l).map eK)) [.undef,.undef]:=by
 obtain ⟨hl,hls⟩:=dU h
 have hll:=hn.len
 refine U aeg [] 1015 [] fun w hP hQ=>?_
 unfold tT
 refine N ?_
 refine f6 [7,8,9,5007] ?_
 refine N ?_
 refine aU [7,8,9,5007] (fun i:Nat=>[(5,.ext 1 (((l.take i).foldl (ac1 (nbT t)) l).map eK)),(6,.int .i64 i)]) (fun i=>i≤l.length) (fun i=>l.length-i) (0) hP hQ (rfl) (by simp) ?_
 rintro i hi w1 hP1 hQ1
 refine N1 ?_
 (first | with_reducible refine bA _ ?_ ?_ | refine bB _ ?_ ?_) <;> intro h1
 ·have hlt:i<l.length:=by omega
  have hI:=uP t (l[i]'hlt) h
  have hfo:=uW (ac1 (nbT t)) l l i hlt
  have hno:=hn.addIs (l.take i)
  generalize hO:(l.take i).foldl (ac1 (nbT t)) l=out at *
  cases e:aP t (l[i]'hlt) with
  | none=>
   rw [ab3,e] at hI
   rw [ahi _ e] at hfo
   simp +decide (maxSteps:=9^9) (disch:=omega) only[↓SB0,SX,seval,hQ,hQ1,aN h1,eK]
   refine K1 (hI) ?_
   refine f6 [] ?_
   refine N1 ?_
   refine aU [] (fun k:Nat=>[(5,.ext 1 (out.map eK)),(9,.int .i64 k)]) (fun k=>k=0) (fun k=>0) (0) hP1 hQ1 (rfl) (rfl) ?_
   rintro k hk w2 hP2 hQ2
   refine N2 ?_
   subst hk
   refine N2 ?_
   exact ⟨i+1,by simp only [hfo]; rfl,by omega,by omega⟩
  | some x=>
   have hx:=hls x (bN e).1
   have hel:x.ents.length<2^40:=(c9 hx).2.1
   rw [ab3,e] at hI
   simp only [Option.getD_some,Option.isSome_some] at hI
   by_cases hk2:x.kind=2
   ·rw [ajh _ e hk2] at hfo
    simp +decide (maxSteps:=9^9) (disch:=omega) only[↓SB0,SX,seval,hQ,hQ1,aN h1,eK]
    refine K1 (hI) ?_
    refine f6 [] ?_
    refine N1 ?_
    refine aU [] (fun k:Nat=>[(5,.ext 1 ((((x.ents.take k).map Ent.ino).foldl (ac0 (nbT t)) out).map eK)),(9,.int .i64 k)]) (fun k=>k≤x.ents.length) (fun k=>x.ents.length-k) (0) hP1 hQ1 (rfl) (by simp) ?_
    rintro k hk w2 hP2 hQ2
    refine N2 ?_
    have hno2:=hno.addJs ((x.ents.take k).map Ent.ino)
    have hl2:=hno2.len
    (first | with_reducible refine vX _ ?_ ?_ | refine vY _ ?_ ?_) <;> intro g1
    ·have hkl:k<x.ents.length:=by omega
     have hf2:=aeP (ac0 (nbT t)) x.ents out k hkl
     generalize ((x.ents.take k).map Ent.ino).foldl (ac0 (nbT t)) out=o2 at *
     have hA:=nP t (x.ents[k]'hkl).ino (by omega)
     have hz:=And.intro g1 hk2
     refine Nz2 ?_
     cases e2:bQ t (x.ents[k]'hkl).ino with
     | none=>
      rw [e2] at hA
      rw [ak3 _ e2] at hf2
      have hz:=(aN g1)
      refine Nz2 ?_
      refine K2 (hA) ?_
      exact ⟨k+1,by simp only [hf2,hk2]; rfl,by omega,by omega⟩
     | some m=>
      rw [e2,show uJ (some m)=(m:Int) from rfl] at hA
      rw [ajg _ e2] at hf2
      have hz:=(aN g1)
      refine Nz2 ?_
      refine K2 (hA) ?_
      (first | with_reducible refine bA _ ?_ ?_ | refine bB _ ?_ ?_) <;> intro g3
      ·have hz:=(aN g1)
       refine Nz2 ?_
       (first | refine qY hP2 (adq o2 (x.ents[k]'hkl).ino hno2.up (by omega)) (.inr rfl) ?_ | refine qZ hP2 (adq o2 (x.ents[k]'hkl).ino hno2.up (by omega)) (.inr rfl) ?_)
       refine N2 ?_
       exact ⟨k+1,by simp only [hf2,hk2]; rfl,by omega,by omega⟩
      ·exfalso; omega
    ·obtain rfl:k=x.ents.length:=by omega
     rw [List.take_length] at *
     have hz:=g1
     refine Nz2 ?_
     exact ⟨i+1,by simp only [hfo]; rfl,by omega,by omega⟩
   ·rw [ahj _ e hk2] at hfo
    simp +decide (maxSteps:=9^9) (disch:=omega) only[↓SB0,SX,seval,hQ,hQ1,aN h1,eK]
    refine K1 (hI) ?_
    refine f6 [] ?_
    refine N1 ?_
    refine aU [] (fun k:Nat=>[(5,.ext 1 (out.map eK)),(9,.int .i64 k)]) (fun k=>k=0) (fun k=>0) (0) hP1 hQ1 (rfl) (rfl) ?_
    rintro k hk w2 hP2 hQ2
    refine N2 ?_
    subst hk
    refine N2 ?_
    (first | with_reducible refine vX _ ?_ ?_ | refine vY _ ?_ ?_) <;> intro g1
    ·have hz:=And.intro g1 hk2
     refine Nz2 ?_
     exact ⟨i+1,by simp only [hfo]; rfl,by omega,by omega⟩
    ·have hz:=g1
     refine Nz2 ?_
     exact ⟨i+1,by simp only [hfo]; rfl,by omega,by omega⟩
 ·obtain rfl:i=l.length:=by omega
  simp +decide (maxSteps:=9^9) (disch:=omega) only[↓SB0,SX,seval,hQ,hQ1,List.take_length]
  rfl
end
section
open Go.Proofs
open Nat (reduceEqDiff reduceAdd reduceMul reduceSub)
open Int (reduceNeg reduceToNat reducePow)
def rdV (t:Tab):Nat→AV
 | 0=>.own 1 [eK 1]
 | i+1=>.ext 1 ((bS (nbT t) (i+1)).map eK)
theorem uX (t:Tab) (h:t.sz<2^40):aT Tryz.prog 50 [t.x] (.ext 1 ((eP t).map eK)) [.undef]:=by
 obtain ⟨hl,hls⟩:=dU h
 have hA:=nP t 1 (by omega)
 cases e:bQ t 1 with
 | none=>
  have hr:eP t=[]:=by rw [eP,mO,if_neg]; rw [w7,e]; simp
  rw [e] at hA
  rw [hr]
  refine yN (ret:=.own 1 []) ?_
  refine U rV [] 31 [] fun w hP hQ=>?_
  unfold lP
  refine N ?_
  exact K (hA) trivial
 | some m=>
  have hm:=o3 e
  have h1s:(nbT t 1).isSome=true:=by rw [w7,e]; rfl
  have hr:eP t=bS (nbT t) t.inodes.length:=by rw [eP,mO,if_pos h1s]
  rw [e,show uJ (some m)=(m:Int) from rfl] at hA
  rw [hr]
  have hnum:∀ i,Nums t (bS (nbT t) i):=fun i=>⟨fV _ i,fun x hx=>nL _ (jU _ h1s i x hx)⟩
  refine U rV [(112,[.b,.m],[])] 31 [] fun w hP hQ=>?_
  unfold lP
  refine N ?_
  refine K (hA) ?_
  (first | with_reducible refine bA _ ?_ ?_ | refine bB _ ?_ ?_) <;> intro g0
  ·exfalso; omega
  refine N ?_
  refine f6 [] ?_
  refine N ?_
  refine aU [] (fun i:Nat=>[(3,rdV t i),(4,.int .i64 i)]) (fun i=>i≤t.inodes.length) (fun i=>t.inodes.length-i) (0) hP hQ (rfl) (by simp) ?_
  rintro i hi w1 hP1 hQ1
  refine N1 ?_
  cases i with
  | zero=>
   have hN:=aea (aas t [1] h (hnum 0))
   simp only [rdV]
   (first | with_reducible refine bA _ ?_ ?_ | refine bB _ ?_ ?_) <;> intro h1
   ·refine N1 ?_
    (first | refine qY hP1 (hN) (.inr rfl) ?_ | refine qZ hP1 (hN) (.inr rfl) ?_)
    refine N1 ?_
    exact ⟨1,rfl,by omega,by omega⟩
   ·exfalso; omega
  | succ i=>
   have hN:=aas t (bS (nbT t) (i+1)) h (hnum (i+1))
   simp only [rdV]
   (first | with_reducible refine bA _ ?_ ?_ | refine bB _ ?_ ?_) <;> intro h1
   ·refine N1 ?_
    (first | refine qY hP1 (hN) (.inr rfl) ?_ | refine qZ hP1 (hN) (.inr rfl) ?_)
    refine N1 ?_
    exact ⟨i+1+1,rfl,by omega,by omega⟩
   ·have he:i+1=t.inodes.length:=by omega
    refine N1 ?_
    rw [he]
end
section
open Go.Proofs Go.Shelf
open Nat (reduceEqDiff reduceAdd reduceMul reduceSub)
open Int (reduceNeg reduceToNat reducePow)
def pI:Go.Shelf.Ren:=⟨fun | 189=>111 | 125=>145 | 257=>161 | 128=>196 | 129=>197 | 294=>203 | 295=>204 | 296=>205 | 297=>206 | 298=>207 | 299=>208 | 216=>209 | 300=>210 | 301=>211 | 328=>239 | 329=>233 | 330=>234 | 331=>240 | 332=>241 | 215=>242 | 343=>259 | n=>n,
 fun | 28=>53 | 3=>3 | 46=>141 | 0=>0 | 51=>178 | 53=>180 | 4=>4 | 183=>171 | 182=>170 | 131=>175 | 5=>5 | 9=>9 | 218=>200 | 222=>204 | 228=>233 | 229=>35 | n=>n,
 fun | n=>n⟩
theorem o6:Lays.n189 Tryz.prog pI where
 mixed:=by kernel_rfl
 f125:=Tryz.func145.trans (congrArg some (by kernel_rfl))
 f128:=Tryz.func196.trans (congrArg some (by kernel_rfl))
 f129:=Tryz.func197.trans (congrArg some (by kernel_rfl))
 f189:=Tryz.func111.trans (congrArg some (by kernel_rfl))
 f215:=Tryz.func242.trans (congrArg some (by kernel_rfl))
 f216:=Tryz.func209.trans (congrArg some (by kernel_rfl))
 f257:=Tryz.func161.trans (congrArg some (by kernel_rfl))
 f294:=Tryz.func203.trans (congrArg some (by kernel_rfl))
 f295:=Tryz.func204.trans (congrArg some (by kernel_rfl))
 f296:=Tryz.func205.trans (congrArg some (by kernel_rfl))
 f297:=Tryz.func206.trans (congrArg some (by kernel_rfl))
 f298:=Tryz.func207.trans (congrArg some (by kernel_rfl))
 f299:=Tryz.func208.trans (congrArg some (by kernel_rfl))
 f300:=Tryz.func210.trans (congrArg some (by kernel_rfl))
 f301:=Tryz.func211.trans (congrArg some (by kernel_rfl))
 f328:=Tryz.func239.trans (congrArg some (by kernel_rfl))
 f329:=Tryz.func233.trans (congrArg some (by kernel_rfl))
 f330:=Tryz.func234.trans (congrArg some (by kernel_rfl))
 f331:=Tryz.func240.trans (congrArg some (by kernel_rfl))
 f332:=Tryz.func241.trans (congrArg some (by kernel_rfl))
 f343:=Tryz.func259.trans (congrArg some (by kernel_rfl))
 t0:=Tryz.underlying0
 a0:=Tryz.isAgg0
 z0:=Tryz.sizeOf0
 v0:=Tryz.zeroValue0
 t3:=Tryz.underlying3
 a3:=Tryz.isAgg3
 z3:=Tryz.sizeOf3
 v3:=Tryz.zeroValue3
 t4:=Tryz.underlying4
 a4:=Tryz.isAgg4
 z4:=Tryz.sizeOf4
 v4:=Tryz.zeroValue4
 t5:=Tryz.underlying5
 a5:=Tryz.isAgg5
 z5:=Tryz.sizeOf5
 v5:=Tryz.zeroValue5
 t9:=Tryz.underlying9
 a9:=Tryz.isAgg9
 z9:=Tryz.sizeOf9
 v9:=Tryz.zeroValue9
 t28:=Tryz.underlying53
 a28:=Tryz.isAgg53
 z28:=Tryz.sizeOf53
 v28:=Tryz.zeroValue53
 t46:=Tryz.underlying141
 a46:=Tryz.isAgg141
 z46:=Tryz.sizeOf141
 v46:=Tryz.zeroValue141
 t51:=Tryz.underlying178
 a51:=Tryz.isAgg178
 z51:=Tryz.sizeOf178
 v51:=Tryz.zeroValue178
 t53:=Tryz.underlying180
 a53:=Tryz.isAgg180
 z53:=Tryz.sizeOf180
 v53:=Tryz.zeroValue180
 t131:=Tryz.underlying175
 a131:=Tryz.isAgg175
 z131:=Tryz.sizeOf175
 v131:=Tryz.zeroValue175
 t182:=Tryz.underlying170
 a182:=Tryz.isAgg170
 z182:=Tryz.sizeOf170
 v182:=Tryz.zeroValue170
 t183:=Tryz.underlying171
 a183:=Tryz.isAgg171
 z183:=Tryz.sizeOf171
 v183:=Tryz.zeroValue171
 t218:=Tryz.underlying200
 a218:=Tryz.isAgg200
 z218:=Tryz.sizeOf200
 v218:=Tryz.zeroValue200
 t222:=Tryz.underlying204
 a222:=Tryz.isAgg204
 z222:=Tryz.sizeOf204
 v222:=Tryz.zeroValue204
 t228:=Tryz.underlying233
 a228:=Tryz.isAgg233
 z228:=Tryz.sizeOf233
 v228:=Tryz.zeroValue233
 t229:=Tryz.underlying35
 a229:=Tryz.isAgg35
 z229:=Tryz.sizeOf35
 v229:=Tryz.zeroValue35
end
section
open Go.Proofs
open Nat (reduceEqDiff reduceAdd reduceMul reduceSub)
open Int (reduceNeg reduceToNat reducePow)
theorem aji {w:World} {o:Bool} {F:aF}:∀ (l:List Int) {cs:List Value},Row w o F cs (l.map eK).flatten→cs=l.map (Value.int .i64)∧∀ b,F b=0:=by
 intro l
 induction l generalizing F with
 | nil=>
  intro cs h
  cases h with
  | nil _ _ hF=>exact ⟨rfl,hF⟩
 | cons n l ih=>
  intro cs h
  have e:((n::l).map eK).flatten=.int .i64 n::(l.map eK).flatten:=by simp [eK]
  rw [e] at h
  cases h with
  | int _ _ _ _ vs _ h=>
   obtain ⟨e1,e2⟩:=ih h
   exact ⟨by rw [e1]; rfl,e2⟩
theorem ajj {w:World} {o:Bool} (l:List Int):Row w o (fun _=>0) (l.map (Value.int .i64)) (l.map eK).flatten:=by
 induction l with
 | nil=>exact .nil _ _ fun _=>rfl
 | cons n l ih=>
  have e:((n::l).map eK).flatten=.int .i64 n::(l.map eK).flatten:=by simp [eK]
  rw [e]
  exact .int _ _ _ _ _ _ ih
abbrev pJ (l:List Int):List Int:=l.mergeSort fun x y=>decide (x≤y)
theorem al2 (l:List Int) (hl:l.length<2^40):aT Tryz.prog 111 [.own 1 (l.map eK)] (.tup []) [.own 1 ((pJ l).map eK)]:=by
 refine ⟨⟨_,Tryz.func111,by kernel_rfl,by kernel_rfl⟩,rfl,?_⟩
 intro w vs F X r h1 h2 h3
 have hlen:(pJ l).length=l.length:=List.length_mergeSort l
 cases r with
 | own _ F1 F2 _ s es v vs ys hr hn hF=>
  cases hn with
  | nil _ _ hF2 hX=>
   rcases Row.sl_inv hr with ⟨rfl,he,h0⟩ | ⟨G1,b,off,cap,C,ty,fr,cs,rfl,hb,hfr,hcap,hle,hes,hcs,hc,hrow,hG⟩
   ·have hl0:l=[]:=by simpa using he
    subst hl0
    refine (Any.slices_Sort_int_none o6 none 0 w).mono ?_
    rintro e w' ⟨rfl,rfl⟩
    refine ⟨.tuple #[],F,X,rfl,?_,h1,h2,⟨Nat.le_refl _,.refl _⟩,fun b _ _=>rfl,fun b hb=>.inl hb,fun b hb=>⟨.inl hb,h3 b hb⟩⟩
    refine .tup F (fun _=>0) F X (fun _=>0) X [] [] _ _ RepA.znil ?_ (fun x=>by omega) (fun x=>by omega)
    exact .own F F1 F2 X 1 _ _ _ _ (by simpa [pJ] using hr) (.nil _ _ hF2 hX) hF
   ·obtain ⟨hce,hG1⟩:=aji l hrow
    have hrl:(l.map eK).length=l.length:=List.length_map _
    have hcsl:cs.length=l.length:=by rw [hce,List.length_map]
    rw [hrl] at hle ⊢
    have hsz:off+l.length≤C.size:=by omega
    have hbl:b<w.heap.size:=(Array.getElem?_eq_some_iff.1 hb).1
    have hH:Go.Sort.Holds (Value.int .i64) w b off l.toArray:=by
     intro j hj
     have hj':j<l.length:=by simpa using hj
     have e1:=hc j (by omega)
     rw [hce,List.getElem?_map,List.getElem?_eq_getElem hj'] at e1
     refine ⟨?_,?_⟩
     ·simp only [World.cell?,hb,Option.bind_some,e1,Option.map_some]
      simp [getElem!_pos,hj']
     ·have:=hfr (off+j) (by omega)
      simp [World.frozen?,hb]
      simpa using this
    refine (Any.slices_Sort_int o6 b off cap l w hH hbl (by omega)).mono ?_
    rintro e w' ⟨rfl,n,os,rfl⟩
    have hw:∀ x,x≠b→x<w.heap.size→(Go.Sort.grow (Go.Sort.putRow (Value.int .i64) (Go.Sort.ahead w n) b off (pJ l).toArray) os).heap[x]?=w.heap[x]?:=by
     intro x hx hxl
     simp only [Go.Sort.grow,Go.Sort.putRow,Go.Sort.mapBlock,Go.Sort.ahead]
     rw [Array.getElem?_append_left (by simpa using hxl),Array.getElem?_modify,if_neg (Ne.symm hx)]
    have hwb:(Go.Sort.grow (Go.Sort.putRow (Value.int .i64) (Go.Sort.ahead w n) b off (pJ l).toArray) os).heap[b]?=some (.cells (Go.Sort.putCells (Value.int .i64) off (pJ l).toArray C) ty fr):=by
     simp only [Go.Sort.grow,Go.Sort.putRow,Go.Sort.mapBlock,Go.Sort.ahead]
     rw [Array.getElem?_append_left (by simpa using hbl),Array.getElem?_modify,if_pos rfl,hb]; rfl
    have hsz2:(Go.Sort.putCells (Value.int .i64) off (pJ l).toArray C).size=C.size:=by simp [Go.Sort.putCells]
    have hrow2:Row (Go.Sort.grow (Go.Sort.putRow (Value.int .i64) (Go.Sort.ahead w n) b off (pJ l).toArray) os) true F1 [.slice (some ⟨b,off,none⟩) l.length cap] [.sl 1 ((pJ l).map eK)]:=by
     refine Row.of_sl (F1:=fun _=>0) (cs:=(pJ l).map (Value.int .i64)) (by rw [List.length_map,hlen]) hwb (by rw [hsz2]; exact hfr) (by rw [hsz2]; exact hcap) (by rw [List.length_map,hlen]; exact hle) ?_ ?_ ?_ (ajj _) (fun x=>by have:=hG x; have:=hG1 x; omega)
     ·intro e he
      obtain ⟨x,_,rfl⟩:=List.mem_map.1 he
      rfl
     ·simp
     ·intro k hk
      rw [List.length_map,hlen] at hk
      rw [List.getElem?_map,List.getElem?_eq_getElem (by rw [hlen]; exact hk)]
      have hin:off≤off+k∧off+k<off+(pJ l).length:=by omega
      simp only [Go.Sort.putCells,Array.getElem?_mapIdx,List.size_toArray]
      rw [Array.getElem?_eq_getElem (by omega),Option.map_some,if_pos hin,Option.map_some]
      simp [Nat.add_sub_cancel_left,getElem!_pos,hlen,hk]
    refine ⟨.tuple #[],F,X,rfl,?_,h1,h2,⟨?_,⟨rfl,rfl⟩⟩,fun x hx h0=>hw x (fun e=>?_) hx,fun x hx=>.inl hx,fun x hx=>⟨.inl hx,?_⟩⟩
    ·refine .tup F (fun _=>0) F X (fun _=>0) X [] [] _ _ RepA.znil ?_ (fun x=>by omega) (fun x=>by omega)
     exact .own F F1 F2 X 1 _ _ _ _ hrow2 (.nil _ _ hF2 hX) hF
    ·simp only [Go.Sort.grow,Go.Sort.putRow,Go.Sort.mapBlock,Go.Sort.ahead,Array.size_append,Array.size_modify]; omega
    ·subst e
     have:=hF x; have:=hG x
     simp at *; omega
    ·have:=h3 x hx
     simp only [Go.Sort.grow,Go.Sort.putRow,Go.Sort.mapBlock,Go.Sort.ahead,Array.size_append,Array.size_modify]; omega
end
section
open Go.Proofs
open Nat (reduceEqDiff reduceAdd reduceMul reduceSub)
open Int (reduceNeg reduceToNat reducePow)
theorem aca (l:List Int) (n:Int) (hl:l.length<2^48):aT Tryz.prog 160 [.ext 1 (l.map eK),.int .i64 n] (.int .i64 (uJ (l.findIdx? fun x=>decide (x=n)))) [.undef,.undef]:=by
 refine U wF [] 435 [] fun w hP hQ=>?_
 unfold mB
 refine N ?_
 refine f6 [4,5] ?_
 refine N ?_
 refine aU [4,5] (fun i:Nat=>[(8,.int .i64 i)]) (fun i=>i≤l.length∧∀ k,k<i→(h:k<l.length)→decide (l[k]=n)=false) (fun i=>l.length-i) (0) hP hQ (rfl) (by simp) ?_
 rintro i ⟨hi,hk⟩ w1 hP1 hQ1
 refine N1 ?_
 (first | with_reducible refine bA _ ?_ ?_ | refine bB _ ?_ ?_) <;> intro h1
 ·simp +decide (maxSteps:=9^9) (disch:=omega) only[↓SB0,SX,seval,hQ,hQ1,aN h1,eK]
  (first | with_reducible refine bA _ ?_ ?_ | refine bB _ ?_ ?_) <;> intro h2
  ·refine N1 ?_
   rw [kS (p:=fun x:Int=>decide (x=n)) hk (by omega) (decide_eq_true h2.symm)]; rfl
  ·refine N1 ?_
   exact ⟨i+1,rfl,⟨by omega,j4 (p:=fun x:Int=>decide (x=n)) hk (by omega) (decide_eq_false fun e=>h2 e.symm)⟩,by omega⟩
 ·obtain rfl:i=l.length:=by omega
  refine N1 ?_
  rw [kT (p:=fun x:Int=>decide (x=n)) fun k h=>hk k h h]; rfl
theorem s6 (l:List Int) (n:Int) (hl:l.length<2^48):aT Tryz.prog 110 [.ext 1 (l.map eK),.int .i64 n] (.bool (decide (n ∈ l))) [.undef,.undef]:=by
 have hI:=aca l n hl
 cases e:l.findIdx? (fun x=>decide (x=n)) with
 | none=>
  have hno:n ∉ l:=fun h=>by
   rw [List.findIdx?_eq_none_iff] at e
   have:=e n h
   simp at this
  rw [e] at hI
  refine U iY [] 19 [] fun w hP hQ=>?_
  unfold fH
  refine N ?_
  refine K (hI) ?_
  rw [decide_eq_false hno]
 | some k=>
  obtain ⟨hk,h1,_⟩:=List.findIdx?_eq_some_iff_getElem.1 e
  have hyes:n ∈ l:=by
   have:l[k]=n:=by simpa using h1
   rw [← this]; exact List.getElem_mem hk
  rw [e,show uJ (some k)=(k:Int) from rfl] at hI
  refine U iY [] 19 [] fun w hP hQ=>?_
  unfold fH
  refine N ?_
  refine K (hI) ?_
  rw [decide_eq_true hyes,decide_eq_true (by omega)]
def m3 (out:List Int) (x:Inode):Nat:=if x.ino ∈ out then 0 else x.ents.length
def acb (t:Tab) (out:List Int):Nat:=(t.inodes.map (m3 out)).sum
theorem ajk (t:Tab) (out:List Int):acb t out≤t.sz:=by
 have h2:=w6 (m3 out) Inode.sz t.inodes fun x _=>by
  have:m3 out x≤x.ents.length:=by unfold m3; split <;> omega
  have h3:x.ents.length≤x.sz:=by simp only [Inode.sz,szM]; omega
  omega
 have h3:t.sz=t.inodes.length+(t.inodes.map Inode.sz).sum:=rfl
 have h4:acb t out=(t.inodes.map (m3 out)).sum:=rfl
 omega
theorem ahk {t:Tab} {out:List Int} {x:Inode} (hx:x ∈ t.inodes) (hn:x.ino ∉ out):acb t (out++[x.ino])+x.ents.length≤acb t out:=by
 unfold acb
 generalize t.inodes=l at hx
 have mono:∀ y:Inode,m3 (out++[x.ino]) y≤m3 out y:=by
  intro y
  unfold m3
  by_cases h:y.ino ∈ out
  ·rw [if_pos h,if_pos (by simp [h])]; omega
  ·rw [if_neg h]; split <;> omega
 induction l with
 | nil=>cases hx
 | cons y l ih=>
  simp only [List.map_cons,List.sum_cons]
  rcases List.mem_cons.1 hx with rfl | hx
  ·have h1:m3 (out++[x.ino]) x=0:=by unfold m3; rw [if_pos (by simp)]
   have h2:m3 out x=x.ents.length:=by unfold m3; rw [if_neg hn]
   have h3:=w6 (m3 (out++[x.ino])) (m3 out) l fun y _=>mono y
   omega
  ·have:=ih hx
   have:=mono y
   omega
theorem w8 (l:List Int) (n:Int):l.map eK++[[TV.int .i64 n]]=(l++[n]).map eK:=by simp [eK]
theorem ahl (l:List Int) (es:List Ent) (k:Nat) (h:k<es.length):(l++(es.take k).map Ent.ino)++[es[k].ino]=l++(es.take (k+1)).map Ent.ino:=by
 rw [List.take_succ_eq_append_getElem h,List.map_append,List.append_assoc]; rfl
theorem aeQ (t:Tab) (h:t.sz<2^40):aT Tryz.prog 49 [t.x] (.own 1 ((eP t).map eK)) [.undef]:=by
 obtain ⟨hl,hls⟩:=dU h
 refine U abr [(111,[.l],[])] 15393162789631 [] fun w hP hQ=>?_
 unfold q9
 refine N ?_
 refine f6 [5,6,7,9,41,42,43,5006,5009] ?_
 refine N ?_
 refine aU [5,6,7,9,41,42,43,5006,5009] (fun s:List Int × List Int=>[(3,.own 1 (s.1.map eK)),(4,.own 1 (s.2.map eK))]) (fun s=>Que (nbT t) s.1 s.2∧s.2.length+acb t s.1≤1+t.sz) (fun s=>s.2.length+acb t s.1) (([],[1])) hP hQ (rfl) (⟨aiW _,by have:=ajk t []; simp only [List.length_cons,List.length_nil]; omega⟩) ?_
 rintro ⟨out,next⟩ ⟨hq,hb⟩ w1 hP1 hQ1
 refine N1 ?_
 simp only at hq hb
 have hol:=akR (nbT t) (wQ t) hq
 cases next with
 | nil=>
  have hs:=aev (nbT t) (wQ t) hq
  refine N1 ?_
  refine K (al2 out (by omega)) ?_
  rw [show pJ out=eP t from hs]
 | cons i next=>
  have hnl:(next.length:Nat)<2^41:=by simp only [List.length_cons] at hb; omega
  have hI:=iF t i h
  have w0:decide ((0:Int)<((next.length+1:Nat):Int))=true:=decide_eq_true (by omega)
  have tk:List.take next.length (next.map eK)=next.map eK:=by rw [List.take_of_length_le (by simp)]
  cases e:aP t i with
  | none=>
   rw [ab3,e] at hI
   simp +decide (maxSteps:=9^9) (disch:=omega) only[↓SB0,SX,seval,hQ,hQ1,w0,eK,a8,tk]
   refine K1 (hI) ?_
   exact ⟨(out,next),rfl,⟨ac4 _ hq (.inl (by rw [nbT,e]; rfl)),by simp only [List.length_cons] at *; omega⟩,by simp only [List.length_cons]; omega⟩
  | some x=>
   obtain ⟨hxm,hxi⟩:=bN e
   have hel:x.ents.length<2^40:=(c9 (hls x hxm)).2.1
   rw [ab3,e] at hI
   simp only [Option.getD_some,Option.isSome_some] at hI
   have hC:=s6 out i (by omega)
   by_cases hin:i ∈ out
   ·rw [decide_eq_true hin] at hC
    simp +decide (maxSteps:=9^9) (disch:=omega) only[↓SB0,SX,seval,hQ,hQ1,w0,eK,a8,tk]
    refine K1 (hI) ?_
    refine K1 (hC) ?_
    exact ⟨(out,next),rfl,⟨ac4 _ hq (.inr hin),by simp only [List.length_cons] at *; omega⟩,by simp only [List.length_cons]; omega⟩
   ·rw [decide_eq_false hin] at hC
    have hrest:=ahk (t:=t) (out:=out) hxm (by rw [hxi]; exact hin)
    rw [hxi] at hrest
    simp +decide (maxSteps:=9^9) (disch:=omega) only[↓SB0,SX,seval,hQ,hQ1,w0,eK,a8,tk]
    refine K1 (hI) ?_
    refine K1 (hC) ?_
    (first | with_reducible refine bA _ ?_ ?_ | refine bB _ ?_ ?_) <;> intro hk2
    ·have hq2:=ac5 (nbT t) hq (l:=x.ents.map Ent.ino) (by rw [nbT,e]; simp [zT,hk2]) hin
     refine N1 ?_
     rw [w8]
     refine f6 [9,5009] ?_
     refine N1 ?_
     refine aU [9,5009] (fun k:Nat=>[(4,.own 1 ((next++(x.ents.take k).map Ent.ino).map eK)),(43,.int .i64 k)]) (fun k=>k≤x.ents.length) (fun k=>x.ents.length-k) (0) hP1 hQ1 (by simp only [List.take_zero,List.map_nil,List.append_nil]; rfl) (by simp) ?_
     rintro k hk w2 hP2 hQ2
     refine N2 ?_
     have hlen:(next++(x.ents.take k).map Ent.ino).length<2^42:=by simp only [List.length_append,List.length_map,List.length_take]; omega
     (first | with_reducible refine bA _ ?_ ?_ | refine bB _ ?_ ?_) <;> intro g1
     ·have hp:=ahl next x.ents k (by omega)
      generalize next++(x.ents.take k).map Ent.ino=nx at *
      have hz:=(aN g1)
      refine Nz2 ?_
      exact ⟨k+1,by simp only [w8,hp]; rfl,by omega,by omega⟩
     ·obtain rfl:k=x.ents.length:=by omega
      rw [List.take_length] at *
      refine N2 ?_
      exact ⟨(out++[i],next++x.ents.map Ent.ino),rfl,⟨hq2,by simp only [List.length_cons,List.length_append,List.length_map] at *; omega⟩,by simp only [List.length_cons,List.length_append,List.length_map] at *; omega⟩
    ·have hq2:=ac5 (nbT t) hq (l:=[]) (by rw [nbT,e]; simp [zT,hk2]) hin
     rw [List.append_nil] at hq2
     refine N1 ?_
     exact ⟨(out++[i],next),by simp only [w8],⟨hq2,by simp only [List.length_cons] at *; omega⟩,by simp only [List.length_cons]; omega⟩
end
section
open Go.Proofs
open Nat (reduceEqDiff reduceAdd reduceMul reduceSub)
open Int (reduceNeg reduceToNat reducePow)
theorem qD {t:Tab} {x:Inode} (hx:x ∈ t.inodes) (h:iB t x=false):gC t=false:=by
 have:t.inodes.all (iB t)=false:=by
  rw [List.all_eq_false]
  exact ⟨x,hx,by simp [h]⟩
 simp [gC,this]
theorem aat {t:Tab} {x:Inode} {e:Ent} (he:e ∈ x.ents) (h:bQ t e.ino=none):iB t x=false:=by
 have:uH t x=false:=by
  rw [uH,List.all_eq_false]
  exact ⟨e,he,by rw [uO h]; simp⟩
 simp [iB,this]
theorem aau {t:Tab} {x:Inode} (h:∀ k,(hk:k<x.ents.length)→(bQ t (x.ents[k]).ino).isSome=true):uH t x=true:=by
 rw [uH,List.all_eq_true]
 intro e he
 obtain ⟨k,hk,rfl⟩:=List.getElem_of_mem he
 obtain ⟨m,hm⟩:=Option.isSome_iff_exists.1 (h k hk)
 rw [mX hm]; rfl
theorem qE {α:Type} {l:List α} {p:α→Prop} {i:Nat} (hk:∀ k,k<i→(h:k<l.length)→p l[k]) (hi:(h:i<l.length)→p l[i]):∀ k,k<i+1→(h:k<l.length)→p l[k]:=by
 intro k hlt hl
 by_cases e:k=i
 ·subst e; exact hi hl
 ·exact hk k (by omega) hl
theorem adr {α:Type} {l:List α} {p:α→Bool} (h:∀ k,(hk:k<l.length)→p l[k]=true):l.all p=true:=by
 rw [List.all_eq_true]
 intro x hx
 obtain ⟨k,hk,rfl⟩:=List.getElem_of_mem hx
 exact h k hk
theorem ahm (t:Tab) (h:t.sz<2^40):aT Tryz.prog 46 [t.x] (.bool (gC t)) [.undef]:=by
 obtain ⟨hl,hls⟩:=dU h
 have hLk:=iS t
 refine U aec [] 63 [] fun w hP hQ=>?_
 unfold tP
 refine N ?_
 rcases pC (uG t) with hT | hT
 ·have hz:=hT
  refine Kz (adk t h) ?_
  simp [gC,hT]
 have hz:=hT
 refine Kz (adk t h) ?_
 (first | refine qY hP (uX t h) (.inr rfl) ?_ | refine qZ hP (uX t h) (.inr rfl) ?_)
 refine N ?_
 (first | with_reducible refine bA _ ?_ ?_ | refine bB _ ?_ ?_) <;> intro hR
 rotate_left
 ·refine N ?_
  have:decide ((eP t).length=t.inodes.length)=false:=decide_eq_false (by omega)
  simp [gC,this]
 refine N ?_
 refine f6 [2,4,5,5004] ?_
 refine N ?_
 refine aU [2,4,5,5004] (fun i:Nat=>[(3,.int .i64 i)]) (fun i=>i≤t.inodes.length∧∀ k,k<i→(h:k<t.inodes.length)→iB t t.inodes[k]=true) (fun i=>t.inodes.length-i) (0) hP hQ (rfl) (by simp) ?_
 rintro i ⟨hi,hk⟩ w1 hP1 hQ1
 refine N1 ?_
 (first | with_reducible refine bA _ ?_ ?_ | refine bB _ ?_ ?_) <;> intro h1
 ·have hlt:i<t.inodes.length:=by omega
  have hx:=hls _ (List.getElem_mem hlt)
  have hm:=List.getElem_mem hlt
  have hnx:iB t (t.inodes[i]'hlt)=true→∀ k,k<i+1→(h:k<t.inodes.length)→iB t t.inodes[k]=true:=fun hp=>qE (p:=fun x=>iB t x=true) hk (fun _=>hp)
  have hz:=(aN h1)
  refine Nz1 ?_
  generalize t.inodes[i]'hlt=x at *
  have hel:x.ents.length<2^40:=(c9 hx).2.1
  refine K1 (aeN t x.ino h) ?_
  (first | with_reducible refine bA _ ?_ ?_ | refine bB _ ?_ ?_) <;> intro h2
  rotate_left
  ·refine N1 ?_
   rw [qD hm (by rw [iB,decide_eq_false (by omega)]; rfl)]
  refine N1 ?_
  refine f6 [2] ?_
  refine N1 ?_
  refine aU [2] (fun k:Nat=>[(5,.int .i64 k)]) (fun k=>k≤x.ents.length∧∀ j,j<k→(h:j<x.ents.length)→(bQ t (x.ents[j]).ino).isSome=true) (fun k=>x.ents.length-k) (0) hP1 hQ1 (rfl) (by simp) ?_
  rintro k ⟨hk1,hk2⟩ w2 hP2 hQ2
  refine N2 ?_
  (first | with_reducible refine bA _ ?_ ?_ | refine bB _ ?_ ?_) <;> intro h3
  ·have hkl:k<x.ents.length:=by omega
   have hA:=nP t (x.ents[k]'hkl).ino (by omega)
   cases e:bQ t (x.ents[k]'hkl).ino with
   | none=>
    rw [e] at hA
    have hz:=(aN h3)
    refine Nz2 ?_
    refine K2 (hA) ?_
    rw [qD hm (aat (List.getElem_mem hkl) e)]
   | some m=>
    rw [e,show uJ (some m)=(m:Int) from rfl] at hA
    have hz:=(aN h3)
    refine Nz2 ?_
    refine K2 (hA) ?_
    (first | with_reducible refine bA _ ?_ ?_ | refine bB _ ?_ ?_) <;> intro h4
    ·exfalso; omega
    ·refine N2 ?_
     exact ⟨k+1,rfl,⟨by omega,qE (p:=fun y:Ent=>(bQ t y.ino).isSome=true) hk2 (fun _=>by rw [e]; rfl)⟩,by omega⟩
  ·obtain rfl:k=x.ents.length:=by omega
   have hp:iB t x=true:=by
    rw [iB,aau fun k hk=>hk2 k hk hk,decide_eq_true (by omega)]; rfl
   refine N2 ?_
   exact ⟨i+1,rfl,⟨by omega,hnx hp⟩,by omega⟩
 ·obtain rfl:i=t.inodes.length:=by omega
  have:decide ((eP t).length=t.inodes.length)=true:=decide_eq_true (by omega)
  refine N1 ?_
  rw [gC,hT,this,adr fun k hk'=>hk k hk' hk']; rfl
theorem ahn (t:Tab) (h:t.sz<2^40):aT Tryz.prog 28 [t.x] (.bool (gC t)) [.undef]:=by
 obtain ⟨hl,hls⟩:=dU h
 have hLk:=iS t
 refine U aeb [] 120266424407 [] fun w hP hQ=>?_
 unfold tO
 refine N ?_
 rcases pC (uG t) with hT | hT
 ·have hz:=hT
  refine Kz (adl t h) ?_
  simp [gC,hT]
 have hz:=hT
 refine Kz (adl t h) ?_
 refine K (aeQ t h) ?_
 (first | with_reducible refine bA _ ?_ ?_ | refine bB _ ?_ ?_) <;> intro hR
 rotate_left
 ·refine N ?_
  have:decide ((eP t).length=t.inodes.length)=false:=decide_eq_false (by omega)
  simp [gC,this]
 refine N ?_
 refine f6 [2,4,6,34,35,36,5004,5006] ?_
 refine N ?_
 refine aU [2,4,6,34,35,36,5004,5006] (fun i:Nat=>[(22,.int .i64 i)]) (fun i=>i≤t.inodes.length∧∀ k,k<i→(h:k<t.inodes.length)→iB t t.inodes[k]=true) (fun i=>t.inodes.length-i) (0) hP hQ (rfl) (by simp) ?_
 rintro i ⟨hi,hk⟩ w1 hP1 hQ1
 refine N1 ?_
 (first | with_reducible refine bA _ ?_ ?_ | refine bB _ ?_ ?_) <;> intro h1
 ·have hlt:i<t.inodes.length:=by omega
  have hx:=hls _ (List.getElem_mem hlt)
  have hm:=List.getElem_mem hlt
  have hnx:iB t (t.inodes[i]'hlt)=true→∀ k,k<i+1→(h:k<t.inodes.length)→iB t t.inodes[k]=true:=fun hp=>qE (p:=fun x=>iB t x=true) hk (fun _=>hp)
  have hz:=(aN h1)
  refine Nz1 ?_
  generalize t.inodes[i]'hlt=x at *
  have hel:x.ents.length<2^40:=(c9 hx).2.1
  refine K1 (aeO t x.ino h) ?_
  (first | with_reducible refine bA _ ?_ ?_ | refine bB _ ?_ ?_) <;> intro h2
  rotate_left
  ·refine N1 ?_
   rw [qD hm (by rw [iB,decide_eq_false (by omega)]; rfl)]
  refine N1 ?_
  refine f6 [2,6,5006] ?_
  refine N1 ?_
  refine aU [2,6,5006] (fun k:Nat=>[(36,.int .i64 k)]) (fun k=>k≤x.ents.length∧∀ j,j<k→(h:j<x.ents.length)→(bQ t (x.ents[j]).ino).isSome=true) (fun k=>x.ents.length-k) (0) hP1 hQ1 (rfl) (by simp) ?_
  rintro k ⟨hk1,hk2⟩ w2 hP2 hQ2
  refine N2 ?_
  (first | with_reducible refine bA _ ?_ ?_ | refine bB _ ?_ ?_) <;> intro h3
  ·have hkl:k<x.ents.length:=by omega
   have hA:=nR t (x.ents[k]'hkl).ino (by omega)
   cases e:bQ t (x.ents[k]'hkl).ino with
   | none=>
    rw [e] at hA
    have hz:=(aN h3)
    refine Nz2 ?_
    refine K2 (hA) ?_
    rw [qD hm (aat (List.getElem_mem hkl) e)]
   | some m=>
    rw [e,show uJ (some m)=(m:Int) from rfl] at hA
    have hz:=(aN h3)
    refine Nz2 ?_
    refine K2 (hA) ?_
    (first | with_reducible refine bA _ ?_ ?_ | refine bB _ ?_ ?_) <;> intro h4
    ·exfalso; omega
    ·refine N2 ?_
     exact ⟨k+1,rfl,⟨by omega,qE (p:=fun y:Ent=>(bQ t y.ino).isSome=true) hk2 (fun _=>by rw [e]; rfl)⟩,by omega⟩
  ·obtain rfl:k=x.ents.length:=by omega
   have hp:iB t x=true:=by
    rw [iB,aau fun k hk=>hk2 k hk hk,decide_eq_true (by omega)]; rfl
   refine N2 ?_
   exact ⟨i+1,rfl,⟨by omega,hnx hp⟩,by omega⟩
 ·obtain rfl:i=t.inodes.length:=by omega
  have:decide ((eP t).length=t.inodes.length)=true:=decide_eq_true (by omega)
  refine N1 ?_
  rw [gC,hT,this,adr fun k hk'=>hk k hk' hk']; rfl
end
section
open Go.Proofs
open Nat (reduceEqDiff reduceAdd reduceMul reduceSub)
open Int (reduceNeg reduceToNat reducePow)
end
section
open Go.Proofs
open Nat (reduceEqDiff reduceAdd reduceMul reduceSub)
open Int (reduceNeg reduceToNat reducePow)
end
section
open Go.Proofs
open Nat (reduceEqDiff reduceAdd reduceMul reduceSub)
open Int (reduceNeg reduceToNat reducePow)
end
section
open Go.Proofs
open Nat (reduceEqDiff reduceAdd reduceMul reduceSub)
open Int (reduceNeg reduceToNat reducePow)
end
section
open Go.Proofs
open Nat (reduceEqDiff reduceAdd reduceMul reduceSub)
open Int (reduceNeg reduceToNat reducePow)
theorem aav (x:Inode) (n:aB):b3 x n=match x.ents.findIdx? (fun e=>decide (e.name=n)) with
  | none=>0
  | some k=>((x.ents[k]?).map Ent.ino).getD 0:=by
 rw [b3,adh]
 cases x.ents.findIdx? (fun e=>decide (e.name=n)) <;> rfl
theorem ads {x:Inode} {n:aB} {i:Nat} (hk:∀ k,k<i→(h:k<x.ents.length)→decide (x.ents[k].name=n)=false) (h:i<x.ents.length) (hi:x.ents[i].name=n):b3 x n=x.ents[i].ino:=by
 rw [aav,kS (p:=fun e:Ent=>decide (e.name=n)) hk h (decide_eq_true hi)]
 simp only [List.getElem?_eq_getElem h]; rfl
theorem adt {x:Inode} {n:aB} (hk:∀ k,(h:k<x.ents.length)→decide (x.ents[k].name=n)=false):b3 x n=0:=by
 rw [aav,kT (p:=fun e:Ent=>decide (e.name=n)) hk]
theorem adu (x:Inode) (n:aB) (h:x.sz<2^40):aT Tryz.prog 69 [x.x,.str n] (.int .i64 (b3 x n)) [.undef,.undef]:=by
 obtain ⟨h1,h2,h3⟩:=c9 h
 refine U agr [] 1879 [] fun w hP hQ=>?_
 unfold yS
 refine N ?_
 refine f6 [4,6,5006] ?_
 refine N ?_
 refine aU [4,6,5006] (fun i:Nat=>[(10,.int .i64 i)]) (fun i=>i≤x.ents.length∧∀ k,k<i→(h:k<x.ents.length)→decide (x.ents[k].name=n)=false) (fun i=>x.ents.length-i) (0) hP hQ (rfl) (by simp) ?_
 rintro i ⟨hi,hk⟩ w1 hP1 hQ1
 refine N1 ?_
 (first | with_reducible refine bA _ ?_ ?_ | refine bB _ ?_ ?_) <;> intro g
 ·have hz:=(aN g)
  refine Nz1 ?_
  (first | with_reducible refine bA _ ?_ ?_ | refine bB _ ?_ ?_) <;> intro e
  ·refine N1 ?_
   rw [ads hk (by omega) e]
  ·refine N1 ?_
   exact ⟨i+1,rfl,⟨by omega,j4 (p:=fun e:Ent=>decide (e.name=n)) hk (by omega) (decide_eq_false e)⟩,by omega⟩
 ·obtain rfl:i=x.ents.length:=by omega
  refine N1 ?_
  rw [adt fun k h=>hk k h h]
theorem adv (x:Inode) (n:aB) (h:x.sz<2^40):aT Tryz.prog 151 [x.x,.str n] (.int .i64 (b3 x n)) [.undef,.undef]:=by
 obtain ⟨h1,h2,h3⟩:=c9 h
 refine U agx [] 55 [] fun w hP hQ=>?_
 unfold yY
 refine N ?_
 refine f6 [4] ?_
 refine N ?_
 refine aU [4] (fun i:Nat=>[(5,.int .i64 i)]) (fun i=>i≤x.ents.length∧∀ k,k<i→(h:k<x.ents.length)→decide (x.ents[k].name=n)=false) (fun i=>x.ents.length-i) (0) hP hQ (rfl) (by simp) ?_
 rintro i ⟨hi,hk⟩ w1 hP1 hQ1
 refine N1 ?_
 (first | with_reducible refine bA _ ?_ ?_ | refine bB _ ?_ ?_) <;> intro g
 ·have hz:=(aN g)
  refine Nz1 ?_
  (first | with_reducible refine bA _ ?_ ?_ | refine bB _ ?_ ?_) <;> intro e
  ·have hz:=(aN g)
   refine Nz1 ?_
   rw [ads hk (by omega) e]
  ·refine N1 ?_
   exact ⟨i+1,rfl,⟨by omega,j4 (p:=fun e:Ent=>decide (e.name=n)) hk (by omega) (decide_eq_false e)⟩,by omega⟩
 ·obtain rfl:i=x.ents.length:=by omega
  refine N1 ?_
  rw [adt fun k h=>hk k h h]
theorem uY {t:Tab} {l:List aB} {i:Nat} (h:i<l.length) {a:Int} {x:Inode} (hx:aP t a=some x) (hk:x.kind=2) (he:b3 x l[i]≠0):gB t (l.drop i) a=gB t (l.drop (i+1)) (b3 x l[i]):=by
 rw [List.drop_eq_getElem_cons h,gB,hx]
 simp only [if_pos hk,if_neg he]
theorem adw {t:Tab} {l:List aB} {i:Nat} (h:i<l.length) {a:Int} (hx:aP t a=none):gB t (l.drop i) a=(0,2):=by
 rw [List.drop_eq_getElem_cons h,gB,hx]
theorem uZ {t:Tab} {l:List aB} {i:Nat} (h:i<l.length) {a:Int} {x:Inode} (hx:aP t a=some x) (hk:¬ x.kind=2):gB t (l.drop i) a=(0,3):=by
 rw [List.drop_eq_getElem_cons h,gB,hx]
 simp only [if_neg hk]
theorem u6 {t:Tab} {l:List aB} {i:Nat} (h:i<l.length) {a:Int} {x:Inode} (hx:aP t a=some x) (hk:x.kind=2) (he:b3 x l[i]=0):gB t (l.drop i) a=(0,2):=by
 rw [List.drop_eq_getElem_cons h,gB,hx]
 simp only [if_pos hk,if_pos he]
theorem aho {t:Tab} (h:t.sz<2^40) {a:Int} {x:Inode} (hx:aP t a=some x):x.sz<2^40:=(dU h).2 x (bN hx).1
theorem ak4 (t:Tab) (s:aB) (h:t.sz<2^40) (hs:s.length<2^40):aT Tryz.prog 23 [t.x,.str s] (.tup [.int .i64 (kP t s).1,.int .i64 (kP t s).2]) [.undef,.undef]:=by
 have hS:=fC s hs
 have hf:=fD s
 unfold kP
 generalize aA s=y at *
 obtain ⟨l,b⟩:=y
 simp only at *
 cases b with
 | false=>
  rw [if_neg (by simp)]
  refine U acT [] 7347703 [] fun w hP hQ=>?_
  unfold v8
  refine N ?_
  exact K (hS) trivial
 | true=>
  rw [if_pos rfl]
  refine U acT [] 7347703 [] fun w hP hQ=>?_
  unfold v8
  refine N ?_
  refine K (hS) ?_
  refine f6 [4,5,10,11,12,5011] ?_
  refine N ?_
  refine aU [4,5,10,11,12,5011] (fun x:Nat × Int=>[(8,.int .i64 x.2),(22,.int .i64 (x.1:Nat))]) (fun x=>x.1≤l.length∧gB t (l.drop x.1) x.2=gB t l 1) (fun x=>l.length-x.1) ((0,1)) hP hQ (rfl) (⟨Nat.zero_le _,rfl⟩) ?_
  rintro ⟨i,a⟩ ⟨hi,hw⟩ w1 hP1 hQ1
  refine N1 ?_
  simp only at hi hw
  (first | with_reducible refine bA _ ?_ ?_ | refine bB _ ?_ ?_) <;> intro g
  ·have hlt:i<l.length:=by omega
   have hA:=iF t a h
   cases hx:aP t a with
   | none=>
    rw [hx] at hA
    rw [adw hlt hx] at hw
    simp +decide (maxSteps:=9^9) (disch:=omega) only[↓SB0,SX,seval,hQ,hQ1,aN g,eH]
    have hz:=hw.symm
    exact Kz1 (hA) trivial
   | some x=>
    rw [ab3,hx] at hA
    have hE:=adu x l[i] (aho h hx)
    by_cases hk:x.kind=2
    ·have hk':decide (x.kind=2)=true:=decide_eq_true hk
     by_cases he:b3 x l[i]=0
     ·rw [u6 hlt hx hk he] at hw
      rw [he] at hE
      simp +decide (maxSteps:=9^9) (disch:=omega) only[↓SB0,SX,seval,hQ,hQ1,aN g,eH]
      (first|refine cI hP1 (hA) rfl rfl ?_|refine cH hP1 (hA) rfl rfl ?_)
      simp +decide (maxSteps:=9^9) (disch:=omega) only[↓SB0,SX,seval,hQ,hQ1,hk',Option.getD_some]
      have hz:=hw.symm
      exact Kz1 (hE) trivial
     ·rw [uY hlt hx hk he] at hw
      have he':decide (b3 x l[i]=0)=false:=decide_eq_false he
      simp +decide (maxSteps:=9^9) (disch:=omega) only[↓SB0,SX,seval,hQ,hQ1,aN g,eH]
      (first|refine cI hP1 (hA) rfl rfl ?_|refine cH hP1 (hA) rfl rfl ?_)
      simp +decide (maxSteps:=9^9) (disch:=omega) only[↓SB0,SX,seval,hQ,hQ1,hk',Option.getD_some]
      have hz:=he'
      refine Kz1 (hE) ?_
      exact ⟨(i+1,b3 x l[i]),rfl,⟨by simp only; omega,hw⟩,by simp only; omega⟩
    ·have hk':decide (x.kind=2)=false:=decide_eq_false hk
     rw [uZ hlt hx hk] at hw
     simp +decide (maxSteps:=9^9) (disch:=omega) only[↓SB0,SX,seval,hQ,hQ1,aN g,eH]
     (first|refine cI hP1 (hA) rfl rfl ?_|refine cH hP1 (hA) rfl rfl ?_)
     simp +decide (maxSteps:=9^9) (disch:=omega) only[↓SB0,SX,seval,hQ,hQ1,hk',Option.getD_some,← hw]
  ·obtain rfl:i=l.length:=by omega
   rw [List.drop_length,gB] at hw
   have hz:=hw.symm
   exact Nz1 trivial
end
section
open Go.Proofs
open Nat (reduceEqDiff reduceAdd reduceMul reduceSub)
open Int (reduceNeg reduceToNat reducePow)
theorem ahp (t:Tab) (l:List aB) (h:t.sz<2^40) (hl:l.length<2^40):aT Tryz.prog 152 [t.x,.ext 1 (l.map eH)] (.tup [.int .i64 (gB t l 1).1,.int .i64 (gB t l 1).2]) [.undef,.undef]:=by
 obtain ⟨t1,t2⟩:=dU h
 refine U aej [] 503 [] fun w hP hQ=>?_
 unfold tW
 refine N ?_
 refine f6 [4,5,8] ?_
 refine N ?_
 refine aU [4,5,8] (fun x:Nat × Int=>[(6,.int .i64 x.2),(7,.int .i64 (x.1:Nat))]) (fun x=>x.1≤l.length∧gB t (l.drop x.1) x.2=gB t l 1) (fun x=>l.length-x.1) ((0,1)) hP hQ (rfl) (⟨Nat.zero_le _,rfl⟩) ?_
 rintro ⟨i,a⟩ ⟨hi,hw⟩ w1 hP1 hQ1
 refine N1 ?_
 simp only at hi hw
 (first | with_reducible refine bA _ ?_ ?_ | refine bB _ ?_ ?_) <;> intro g
 ·have hlt:i<l.length:=by omega
  have hA:=nP t a (by omega)
  cases hx:bQ t a with
  | none=>
   rw [hx] at hA
   rw [adw hlt (uO hx)] at hw
   refine N1 ?_
   have hz:=hw.symm
   exact Kz1 (hA) trivial
  | some k=>
   have hk1:=o3 hx
   have hx':=mX hx
   rw [hx,show uJ (some k)=(k:Int) from rfl] at hA
   have hE:=adv (t.inodes[k]) l[i] (t2 _ (List.getElem_mem hk1))
   have hz:decide (((k:Nat):Int)<0)=false:=decide_eq_false (by omega)
   have hg:((k:Nat):Int)<(t.inodes.length:Nat):=by omega
   by_cases hk:(t.inodes[k]).kind=2
   ·have hk':decide ((t.inodes[k]).kind=2)=true:=decide_eq_true hk
    by_cases he:b3 (t.inodes[k]) l[i]=0
    ·rw [u6 hlt hx' hk he] at hw
     rw [he] at hE
     refine N1 ?_
     (first|refine cI hP1 (hA) rfl rfl ?_|refine cH hP1 (hA) rfl rfl ?_)
     simp +decide (maxSteps:=9^9) (disch:=omega) only[↓SB0,SX,seval,hQ,hQ1,hz,aN hg,hk',aN g,eH]
     have hz:=hw.symm
     exact Kz1 (hE) trivial
    ·rw [uY hlt hx' hk he] at hw
     have he':decide (b3 (t.inodes[k]) l[i]=0)=false:=decide_eq_false he
     refine N1 ?_
     (first|refine cI hP1 (hA) rfl rfl ?_|refine cH hP1 (hA) rfl rfl ?_)
     simp +decide (maxSteps:=9^9) (disch:=omega) only[↓SB0,SX,seval,hQ,hQ1,hz,aN hg,hk',aN g,eH]
     have hz:=he'
     refine Kz1 (hE) ?_
     exact ⟨(i+1,_),rfl,⟨by simp only; omega,hw⟩,by simp only; omega⟩
   ·have hk':decide ((t.inodes[k]).kind=2)=false:=decide_eq_false hk
    rw [uZ hlt hx' hk] at hw
    refine N1 ?_
    have hz:=And.intro hz (And.intro (aN hg) (And.intro hk' hw.symm))
    exact Kz1 (hA) trivial
 ·obtain rfl:i=l.length:=by omega
  rw [List.drop_length,gB] at hw
  have hz:=hw.symm
  exact Nz1 trivial
theorem acd (t:Tab) (s:aB) (h:t.sz<2^40) (hs:s.length<2^40):aT Tryz.prog 97 [t.x,.str s] (.tup [.int .i64 (kP t s).1,.int .i64 (kP t s).2]) [.undef,.undef]:=by
 have hS:=gL s hs
 have hf:=fD s
 unfold kP
 generalize aA s=y at *
 obtain ⟨l,b⟩:=y
 simp only at *
 cases b with
 | false=>
  rw [if_neg (by simp)]
  refine U acU [] 247 [] fun w hP hQ=>?_
  unfold wA
  refine N ?_
  exact K (hS) trivial
 | true=>
  rw [if_pos rfl]
  refine U acU [] 247 [] fun w hP hQ=>?_
  unfold wA
  refine N ?_
  refine K (hS) ?_
  exact K (ahp t l h (by omega)) trivial
theorem aaw {t:Tab} {s:aB} (hc:(kP t s).2≠0):cR t s=.error (kP t s).2:=by rw [cR,if_neg hc]
theorem aax {t:Tab} {s:aB} (hc:(kP t s).2=0) (hx:aP t (kP t s).1=none):cR t s=.error 2:=by rw [cR,if_pos hc,hx]
theorem aay {t:Tab} {s:aB} {x:Inode} (hc:(kP t s).2=0) (hx:aP t (kP t s).1=some x):cR t s=.ok x:=by rw [cR,if_pos hc,hx]
theorem ahq (t:Tab) (s:aB) (h:t.sz<2^40) (hs:s.length<2^40):aT Tryz.prog 68 [t.x,.str s] (.tup [(exI (cR t s)).o,.int .i64 (exC (cR t s))]) [.undef,.undef]:=by
 have hW:=ak4 t s h hs
 have hA:=iF t (kP t s).1 h
 by_cases hc:(kP t s).2=0
 ·have hc':decide ((kP t s).2=0)=true:=decide_eq_true hc
  cases hx:aP t (kP t s).1 with
  | none=>
   rw [hx] at hA
   rw [aax hc hx]
   refine U wB [] 1015 [] fun w hP hQ=>?_
   unfold p8
   refine N ?_
   have hz:=hc'
   refine Kz (hW) ?_
   refine K (hA) ?_
   rfl
  | some x=>
   rw [ab3,hx] at hA
   rw [aay hc hx]
   refine U wB [] 1015 [] fun w hP hQ=>?_
   unfold p8
   refine N ?_
   have hz:=hc'
   refine Kz (hW) ?_
   (first|refine cI hP (hA) rfl rfl ?_|refine cH hP (hA) rfl rfl ?_)
   simp +decide (maxSteps:=9^9) (disch:=omega) only[↓SB0,SX,seval,hQ,Option.getD_some]
   rfl
 ·have hc':decide ((kP t s).2=0)=false:=decide_eq_false hc
  rw [aaw hc]
  refine U wB [] 1015 [] fun w hP hQ=>?_
  unfold p8
  refine N ?_
  have hz:=hc'
  refine Kz (hW) ?_
  rfl
theorem ace (t:Tab) (s:aB) (h:t.sz<2^40) (hs:s.length<2^40):aT Tryz.prog 88 [t.x,.str s] (.tup [(exI (cR t s)).o,.int .i64 (exC (cR t s))]) [.undef,.undef]:=by
 have hW:=acd t s h hs
 have hA:=uP t (kP t s).1 h
 by_cases hc:(kP t s).2=0
 ·have hc':decide ((kP t s).2=0)=true:=decide_eq_true hc
  cases hx:aP t (kP t s).1 with
  | none=>
   rw [hx] at hA
   rw [aax hc hx]
   refine U wC [] 1015 [] fun w hP hQ=>?_
   unfold p9
   refine N ?_
   have hz:=hc'
   refine Kz (hW) ?_
   refine K (hA) ?_
   rfl
  | some x=>
   rw [ab3,hx] at hA
   rw [aay hc hx]
   refine U wC [] 1015 [] fun w hP hQ=>?_
   unfold p9
   refine N ?_
   have hz:=hc'
   refine Kz (hW) ?_
   (first|refine cI hP (hA) rfl rfl ?_|refine cH hP (hA) rfl rfl ?_)
   simp +decide (maxSteps:=9^9) (disch:=omega) only[↓SB0,SX,seval,hQ,Option.getD_some]
   rfl
 ·have hc':decide ((kP t s).2=0)=false:=decide_eq_false hc
  rw [aaw hc]
  refine U wC [] 1015 [] fun w hP hQ=>?_
  unfold p9
  refine N ?_
  have hz:=hc'
  refine Kz (hW) ?_
  rfl
end
section
open Go.Proofs
open Nat (reduceEqDiff reduceAdd reduceMul reduceSub)
open Int (reduceNeg reduceToNat reducePow)
def ajl (D:Inode) (n:aB):AV:=.agg [.int .i64 D.ino,.int .i64 D.kind,.int .i64 D.links,.own 1 (aL D.data),.own 2 (D.ents.map Ent.row),.own 2 (D.attrs.map Attr.row),.str n]
def ahr (D:Inode) (n:aB):AV:=.agg [.int .i64 D.ino,.int .i64 D.kind,.int .i64 D.links,.ext 1 (aL D.data),.ext 2 (D.ents.map Ent.row),.ext 2 (D.attrs.map Attr.row),.str n]
def exN (e:Rs Inode) (n:aB):aB:=match e with
 | .ok _=>n
 | .error _=>[]
theorem dA (s:aB):(aG s).1.length≤450∧(aO s).length≤14:=by
 unfold aO aG
 split
 ·rename_i h
  refine ⟨?_,nU (s:=s) _ ?_⟩
  ·show (bK (aA s).1.dropLast).length≤450
   have:=i3 (kO h.1).1
   rw [bK,if_pos this]
   split
   ·simp
   ·exact sJ this
  ·show (aA s).1.getLastD [] ∈ _
   rw [List.getLastD_eq_getLast?,List.getLast?_eq_some_getLast h.2]
   exact List.getLast_mem h.2
 ·simp
theorem aaz (t:Tab) (s:aB) (h:t.sz<2^40) (hs:s.length<2^40):aT Tryz.prog 64 [t.x,.str s] (.tup [ajl (exI (dD t s)) (exN (dD t s) (aO s)),.int .i64 (exC (dD t s))]) [.undef,.undef]:=by
 have hPa:=ab8 s hs
 have hS:=ahq t (aG s).1 h (by have:=(dA s).1; omega)
 unfold dD
 cases e:cR t (aG s).1 with
 | error c=>
  have hc:decide (c=0)=false:=decide_eq_false (nW e)
  rw [e] at hS
  simp only [exI,exC,exN] at hS ⊢
  refine U nG [] 1783 [] fun w hP hQ=>?_
  unfold kL
  refine N ?_
  refine K (hPa) ?_
  have hz:=hc
  refine Kz (hS) ?_
  first | rfl | exact ⟨rfl,rfl⟩
 | ok x=>
  rw [e] at hS
  simp only [exI,exC] at hS ⊢
  by_cases hk:x.kind=2
  ·have hk':decide (x.kind=2)=true:=decide_eq_true hk
   simp only [if_pos hk]
   refine U nG [] 1783 [] fun w hP hQ=>?_
   unfold kL
   refine N ?_
   refine K (hPa) ?_
   have hz:=hk'
   refine Kz (hS) ?_
   exact ⟨rfl,rfl⟩
  ·have hk':decide (x.kind=2)=false:=decide_eq_false hk
   simp only [if_neg hk]
   refine U nG [] 1783 [] fun w hP hQ=>?_
   unfold kL
   refine N ?_
   refine K (hPa) ?_
   have hz:=hk'
   refine Kz (hS) ?_
   exact ⟨rfl,rfl⟩
theorem ajm (t:Tab) (l:List aB) (h:t.sz<2^40) (hl:l.length<2^40) (hs:∀ s ∈ l,s.length<2^40):aT Tryz.prog 62 [t.x,.ext 1 (l.map eH)] (.bool (l.all mY && gC t)) [.undef,.undef]:=by
 refine U agq [] 3927 [] fun w hP hQ=>?_
 unfold yR
 refine N ?_
 refine f6 [4,6,8] ?_
 refine N ?_
 refine aU [4,6,8] (fun i:Nat=>[(11,.int .i64 i)]) (fun i=>i≤l.length∧∀ k,k<i→(h:k<l.length)→mY l[k]=true) (fun i=>l.length-i) (0) hP hQ (rfl) (by simp) ?_
 rintro i ⟨hi,hk⟩ w1 hP1 hQ1
 refine N1 ?_
 (first | with_reducible refine bA _ ?_ ?_ | refine bB _ ?_ ?_) <;> intro g
 ·have hlt:i<l.length:=by omega
  have hS:=fC l[i] (hs _ (List.getElem_mem hlt))
  cases hp:(aA l[i]).2 with
  | false=>
   have e:l.all mY=false:=by rw [List.all_eq_false]; exact ⟨_,List.getElem_mem hlt,by simp [mY,hp]⟩
   simp +decide (maxSteps:=9^9) (disch:=omega) only[↓SB0,SX,seval,hQ,hQ1,aN g,eH]
   have hz:=And.intro hp (And.intro e Bool.false_and)
   exact Kz1 (hS) trivial
  | true=>
   simp +decide (maxSteps:=9^9) (disch:=omega) only[↓SB0,SX,seval,hQ,hQ1,aN g,eH]
   have hz:=hp
   refine Kz1 (hS) ?_
   exact ⟨i+1,rfl,⟨by omega,fun k h1 h2=>by
    by_cases e:k=i
    ·subst e; exact hp
    ·exact hk k (by omega) h2⟩,by omega⟩
 ·obtain rfl:i=l.length:=by omega
  have e:l.all mY=true:=by
   rw [List.all_eq_true]
   intro x hx
   obtain ⟨k,hk1,rfl⟩:=List.getElem_of_mem hx
   exact hk k hk1 hk1
  refine N1 ?_
  have hz:=And.intro e Bool.true_and
  exact Kz (ahn t h) trivial
theorem ajn {l:List Ent} {i:Nat} (h:i<l.length) (n:aB):dS (l.take (i+1)) n=dS (l.take i) n++(if l[i].name=n then [] else [l[i]]):=by
 unfold dS alm
 rw [List.take_succ_eq_append_getElem h,List.filter_append]
 congr 1
 by_cases e:l[i].name=n <;> simp [e]
theorem ajo (l:List Ent) (n:aB) (hl:l.length<2^40):aT Tryz.prog 141 [.ext 2 (l.map Ent.row),.str n] (.own 2 ((dS l n).map Ent.row)) [.undef,.undef]:=by
 refine U agv [] 115 [] fun w hP hQ=>?_
 unfold yW
 refine N ?_
 refine f6 [] ?_
 refine N ?_
 refine aU [] (fun i:Nat=>[(5,.own 2 ((dS (l.take i) n).map Ent.row)),(6,.int .i64 i)]) (fun i=>i≤l.length) (fun i=>l.length-i) (0) hP hQ (rfl) (by simp) ?_
 rintro i hi w1 hP1 hQ1
 refine N1 ?_
 have hc:(dS (l.take i) n).length≤l.length:=Nat.le_trans (List.length_filter_le _ _) (by simp; omega)
 (first | with_reducible refine bA _ ?_ ?_ | refine bB _ ?_ ?_) <;> intro g
 ·have ht:=ajn (l:=l) (i:=i) (by omega) n
  have hz:=(aN g)
  refine Nz1 ?_
  (first | with_reducible refine bA _ ?_ ?_ | refine bB _ ?_ ?_) <;> intro e
  ·rw [if_pos e,List.append_nil] at ht
   refine N1 ?_
   exact ⟨i+1,by rw [ht]; rfl,by omega,by omega⟩
  ·rw [if_neg e] at ht
   have hb:((dS (l.take i) n).length+1)*24≤140737488355328:=by omega
   have hz:=And.intro (aN g) hb
   refine Nz1 ?_
   exact ⟨i+1,by rw [ht,List.map_append]; rfl,by omega,by omega⟩
 ·obtain rfl:i=l.length:=by omega
  simp +decide (maxSteps:=9^9) (disch:=omega) only[↓SB0,SX,seval,hQ,hQ1,List.take_length]
end
section
open Go.Proofs
open Nat (reduceEqDiff reduceAdd reduceMul reduceSub)
open Int (reduceNeg reduceToNat reducePow)
theorem adx {α β:Type} (f:α→β) (l:List α) (i:Nat) (h:i<l.length):(l.take (i+1)).map f=(l.take i).map f++[f l[i]]:=by
 rw [List.take_succ_eq_append_getElem h,List.map_append]; rfl
theorem u7 (t:Tab) (h:t.sz<2^40):aT Tryz.prog 61 [t.x] t.o [.undef]:=by
 obtain ⟨h1,h2⟩:=dU h
 refine U abu [] 7215 [] fun w hP hQ=>?_
 unfold rC
 refine N ?_
 refine f6 [5,5005] ?_
 refine N ?_
 refine aU [5,5005] (fun i:Nat=>[(12,.int .i64 i),(5003,.box [.own 6 ((t.inodes.take i).map Inode.row),.int .i64 t.next])]) (fun i=>i≤t.inodes.length) (fun i=>t.inodes.length-i) (0) hP hQ (rfl) (by simp) ?_
 rintro i hi w1 hP1 hQ1
 refine N1 ?_
 (first | with_reducible refine bA _ ?_ ?_ | refine bB _ ?_ ?_) <;> intro h3
 ·have ht:(t.inodes.take i).length=i:=by simp; omega
  have hz:=And.intro (aN h3) ht
  refine Nz1 ?_
  have hz:=ht
  refine Kz1 (j5 (t.inodes[i]'(by omega)) (h2 _ (List.getElem_mem _))) ?_
  exact ⟨i+1,by simp only [adx _ _ _ (show i<t.inodes.length by omega)]; rfl,by omega,by omega⟩
 ·obtain rfl:i=t.inodes.length:=by omega
  simp +decide (maxSteps:=9^9) (disch:=omega) only[↓SB0,SX,seval,hQ,hQ1,List.take_length]
theorem aaA (t:Tab) (h:t.sz<2^40):aT Tryz.prog 76 [t.x] t.o [.undef]:=by
 obtain ⟨h1,h2⟩:=dU h
 refine U aed [] 31 [] fun w hP hQ=>?_
 unfold tQ
 refine N ?_
 refine f6 [] ?_
 refine N ?_
 refine aU [] (fun i:Nat=>[(4,.int .i64 i),(5003,.box [.own 6 ((t.inodes.take i).map Inode.row),.int .i64 t.next])]) (fun i=>i≤t.inodes.length) (fun i=>t.inodes.length-i) (0) hP hQ (rfl) (by simp) ?_
 rintro i hi w1 hP1 hQ1
 refine N1 ?_
 (first | with_reducible refine bA _ ?_ ?_ | refine bB _ ?_ ?_) <;> intro h3
 ·have ht:(t.inodes.take i).length=i:=by simp; omega
  have hz:=And.intro (aN h3) ht
  refine Nz1 ?_
  have hz:=ht
  refine Kz1 (sD (t.inodes[i]'(by omega)) (h2 _ (List.getElem_mem _))) ?_
  exact ⟨i+1,by simp only [adx _ _ _ (show i<t.inodes.length by omega)]; rfl,by omega,by omega⟩
 ·obtain rfl:i=t.inodes.length:=by omega
  simp +decide (maxSteps:=9^9) (disch:=omega) only[↓SB0,SX,seval,hQ,hQ1,List.take_length]
end
section
open Go.Proofs
open Nat (reduceEqDiff reduceAdd reduceMul reduceSub)
open Int (reduceNeg reduceToNat reducePow)
theorem j9 {g:Nat} {cs:List TV} {p:Ent→Bool} (hc:∀ v:Ent,aT Tryz.prog g [v.x,.xbox cs] (.bool (p v)) [.undef,.undef]) (l:List Ent) (hl:l.length<2^48) :
  aT Tryz.prog 132 [.ext 2 (l.map Ent.row),.fn g [.xbox cs]] (.int .i64 (uJ (l.findIdx? p))) [.undef,.undef]:=by
 refine U nH [] 435 [] fun w hP hQ=>?_
 unfold hM
 refine N ?_
 refine f6 [4,5] ?_
 refine N ?_
 refine aU [4,5] (fun i:Nat=>[(8,.int .i64 i)]) (fun i=>i≤l.length∧∀ k,k<i→(h:k<l.length)→p l[k]=false) (fun i=>l.length-i) (0) hP hQ (rfl) (by simp) ?_
 rintro i ⟨hi,hk⟩ w1 hP1 hQ1
 refine N1 ?_
 (first | with_reducible refine bA _ ?_ ?_ | refine bB _ ?_ ?_) <;> intro h1
 ·have hz:=(aN h1)
  refine Nz1 ?_
  cases h2:p (l[i]'(by omega)) with
  | true=>
   have hz:=h2
   refine Kz1 (hc (l[i]'(by omega))) ?_
   rw [kS hk (by omega) h2]; rfl
  | false=>
   have hz:=h2
   refine Kz1 (hc (l[i]'(by omega))) ?_
   exact ⟨i+1,rfl,⟨by omega,j4 hk (by omega) h2⟩,by omega⟩
 ·obtain rfl:i=l.length:=by omega
  refine N1 ?_
  rw [kT fun k h=>hk k h h]; rfl
structure Kept' {α:Type} (s:Nat) (row:α→List TV) (p:α→Bool) (l:List α) (i j:Nat) (R:List (List TV)):Prop where
 lt:i<j
 le:j≤l.length
 len:R.length=l.length
 low:R.take i=((l.take j).filter fun x=>!p x).map row
 num:((l.take j).filter fun x=>!p x).length=i
 high:R.drop j=(l.drop j).map row
 wid:∀ x ∈ R,x.length=s
section
variable {α:Type} {s:Nat} {row:α→List TV} {p:α→Bool} {l:List α} {i j:Nat} {R:List (List TV)}
theorem u9 {q:α→Bool} {l:List α} (h:∀ x ∈ l,q x=false):(l.filter fun x=>!q x)=l:=List.filter_eq_self.2 fun x hx=>by simp [h x hx]
theorem Kept'.start {k:Nat} (hr:∀ a,(row a).length=s) (h:l.findIdx? p=some k):Kept' s row p l k (k+1) (l.map row):=by
 obtain ⟨h1,h2,h3⟩:=List.findIdx?_eq_some_iff_getElem.1 h
 have e:(l.take (k+1)).filter (fun x=>!p x)=l.take k:=by
  rw [List.take_succ_eq_append_getElem h1,List.filter_append,u9 fun x hx=>by
   obtain ⟨j,hj,rfl⟩:=List.getElem_of_mem hx
   rw [List.getElem_take]
   have:=h3 j (by simp at hj; omega)
   simpa using this]
  simp [h2]
 exact ⟨by omega,by omega,by simp,by rw [e,List.map_take],by rw [e]; simp; omega,by rw [List.map_drop],fun x hx=>by obtain ⟨a,_,rfl⟩:=List.mem_map.1 hx; exact hr a⟩
theorem Kept'.at (h:Kept' s row p l i j R) (hj:j<l.length):R[j]?=some (row l[j]):=by
 have:=congrArg (fun x=>x[0]?) h.high
 simp only [List.getElem?_drop,Nat.add_zero,List.getElem?_map] at this
 rw [this,List.getElem?_eq_getElem hj]; rfl
theorem Kept'.skip (h:Kept' s row p l i j R) (hj:j<l.length) (hp:p l[j]=true):Kept' s row p l i (j+1) R:=by
 obtain ⟨a1,a2,a3,a4,a5,a6,a7⟩:=h
 have e:(l.take (j+1)).filter (fun x=>!p x)=(l.take j).filter fun x=>!p x:=by
  rw [List.take_succ_eq_append_getElem hj,List.filter_append]; simp [hp]
 refine ⟨by omega,by omega,a3,by rw [e,a4],by rw [e,a5],?_,a7⟩
 rw [← List.drop_drop,a6,← List.map_drop,List.drop_drop]
theorem Kept'.keep (h:Kept' s row p l i j R) (hj:j<l.length) (hp:p l[j]=false) {R':List (List TV)} (hl:R'.length=l.length) (hw:∀ x ∈ R',x.length=s) (h1:R'.take i=R.take i) (h2:R'.drop (j+1)=R.drop (j+1)) {f:List TV→List TV} (hf:∀ x,x.length=s→f x=row l[j]) (hr:(row l[j]).length=s) :
  Kept' s row p l (i+1) (j+1) (R'.modify i f):=by
 obtain ⟨a1,a2,a3,a4,a5,a6,a7⟩:=h
 have e:(l.take (j+1)).filter (fun x=>!p x)=(l.take j).filter (fun x=>!p x)++[l[j]]:=by
  rw [List.take_succ_eq_append_getElem hj,List.filter_append]; simp [hp]
 have hi:i<R'.length:=by omega
 refine ⟨by omega,by omega,by simp [hl],?_,by rw [e]; simp; omega,?_,fun x hx=>?_⟩
 ·rw [e,List.map_append,← a4,← h1,List.take_succ_eq_append_getElem (by simpa using hi),List.getElem_modify_eq,hf _ (hw _ (List.getElem_mem _))]
  congr 1
  apply List.ext_getElem?
  intro m
  rw [List.getElem?_take,List.getElem?_take,List.getElem?_modify]
  split
  ·rename_i hm
   have hm':i≠m:=by omega
   simp [hm']
  ·rfl
 ·have e2:(R'.modify i f).drop (j+1)=R'.drop (j+1):=by
   apply List.ext_getElem?
   intro m
   have hm':i≠j+1+m:=by omega
   rw [List.getElem?_drop,List.getElem?_drop,List.getElem?_modify]
   simp [hm']
  rw [e2,h2,← List.drop_drop,a6,← List.map_drop,List.drop_drop]
 ·obtain ⟨m,hm,rfl⟩:=List.getElem_of_mem hx
  rw [List.getElem_modify]
  split
  ·rw [hf _ (hw _ (List.getElem_mem _))]; exact hr
  ·exact hw _ (List.getElem_mem _)
theorem Kept'.done (h:Kept' s row p l i l.length R):R.take i=(l.filter fun x=>!p x).map row:=by
 have:=h.low
 rwa [List.take_length] at this
end
theorem pK {g:Nat} {cs:List TV} {p:Ent→Bool} (hc:∀ v:Ent,aT Tryz.prog g [v.x,.xbox cs] (.bool (p v)) [.undef,.undef]) (l:List Ent) (hl:l.length<2^40) :
  aT Tryz.prog 124 [.own 2 (l.map Ent.row),.fn g [.xbox cs]] (.own 2 ((l.filter fun x=>!p x).map Ent.row)) [.undef,.undef]:=by
 have hI:=j9 hc l (by omega)
 cases e:l.findIdx? p with
 | none=>
  have ef:(l.filter fun x=>!p x)=l:=u9 (by rw [List.findIdx?_eq_none_iff] at e; exact e)
  rw [e] at hI
  rw [ef]
  refine U gI [] 243 [] fun w hP hQ=>?_
  unfold d7
  refine N ?_
  exact K (hI) trivial
 | some k=>
  obtain ⟨k1,_⟩:=List.findIdx?_eq_some_iff_getElem.1 e
  rw [e,show uJ (some k)=(k:Int) from rfl] at hI
  have hz:decide (((k:Nat):Int)=-1)=false:=decide_eq_false (by omega)
  refine U gI [] 243 [] fun w hP hQ=>?_
  unfold d7
  refine N ?_
  have hz:=hz
  refine Kz (hI) ?_
  refine f6 [7,5007] ?_
  refine N ?_
  refine aU [7,5007] (fun x:Nat × Nat × List (List TV)=>[(0,.own 2 x.2.2),(5,.int .i64 (x.1:Nat)),(6,.int .i64 (x.2.1:Nat))]) (fun x=>Kept' 2 Ent.row p l x.1 x.2.1 x.2.2) (fun x=>l.length-x.2.1) ((k,k+1,l.map Ent.row)) hP hQ (rfl) (Kept'.start (fun _=>rfl) e) ?_
  rintro ⟨i,j,R⟩ hK w1 hP1 hQ1
  refine N1 ?_
  simp only at hK
  have hlen:=hK.len
  have hlt:=hK.lt
  have hle:=hK.le
  (first | with_reducible refine bA _ ?_ ?_ | refine bB _ ?_ ?_) <;> intro h1
  ·have hj:j<l.length:=by omega
   have hat:=hK.at hj
   have hji:((j:Nat):Int)<(R.length:Nat):=by omega
   cases hp:p l[j] with
   | true=>
    have hz:=hat
    refine Nz1 ?_
    have hz:=hp
    refine Kz1 (hc l[j]) ?_
    exact ⟨(i,j+1,R),rfl,hK.skip hj hp,by simp only; omega⟩
   | false=>
    have hii:i<R.length:=by omega
    have hz:=hat
    refine Nz1 ?_
    have hz:=hp
    refine Kz1 (hc l[j]) ?_
    exact ⟨(i+1,j+1,_),rfl,hK.keep hj hp hlen hK.wid rfl rfl (fun x hx=>by rw [List.drop_of_length_le (Nat.le_of_eq hx)]; rfl) rfl,by simp only; omega⟩
  ·obtain rfl:j=l.length:=by omega
   have e1:(((l.length:Nat):Int)-(i:Nat)).toNat=l.length-i:=by omega
   have e2:R.drop (i+(l.length-i))=[]:=List.drop_eq_nil_of_le (by omega)
   have e3:(R.take i++List.replicate (l.length-i) [TV.str [],TV.int .i64 0]).length=l.length:=by simp; omega
   have e4:(((i:Nat):Int)-0).toNat=i:=by omega
   have e5:0+i≤l.length:=by omega
   have e6:(R.take i++List.replicate (l.length-i) [TV.str [],TV.int .i64 0]).take i=(l.filter fun x=>!p x).map Ent.row:=by
    rw [List.take_append_of_le_length (by simp; omega),List.take_take,Nat.min_self,hK.done]
   have hz:=And.intro hlen (And.intro e1 (And.intro e2 (And.intro e3 (And.intro e4 (And.intro e5 e6)))))
   exact Nz1 trivial
theorem acf {α β:Type} (f:α→β) (l:List α) (k:Nat) (x:α) (g:β→β) (hg:∀ y,l[k]?=some y→g (f y)=f x):(l.map f).modify k g=(l.set k x).map f:=by
 apply List.ext_getElem?
 intro j
 rw [List.getElem?_modify,List.getElem?_map,List.getElem?_map,List.getElem?_set]
 by_cases e:k=j
 ·subst e
  by_cases hk:k<l.length
  ·simp [hk,hg _ (List.getElem?_eq_getElem hk)]
  ·simp [hk]
 ·simp [e]
theorem kC (t:Tab) (x:Inode) {k:Nat} (h:t.sz<2^40) (hx:x.sz<2^40) (hu:UpI t.inodes) (hk:bQ t x.ino=some k):aT Tryz.prog 67 [t.x,x.x] (cC t x).o [.undef,.undef]:=by
 obtain ⟨h1,h2⟩:=dU h
 have hlt:=o3 hk
 have hPl:=nR t x.ino (by omega)
 rw [hk,show uJ (some k)=(k:Int) from rfl] at hPl
 have e:cC t x={ inodes:=t.inodes.set k x,next:=t.next }:=by rw [cC,uU hu hk]
 have hz:decide ((0:Int)≤(k:Nat))=true:=decide_eq_true (by omega)
 have hg:((k:Nat):Int)<(t.inodes.length:Nat):=by omega
 rw [e]
 refine U y7 [] 127 [] fun w hP hQ=>?_
 unfold oN
 refine N ?_
 refine K (u7 t h) ?_
 refine K (j5 x hx) ?_
 have hz:=And.intro hz hg
 refine Kz (hPl) ?_
 rw [acf Inode.row t.inodes k x _ fun y _=>rfl]
theorem kD (t:Tab) (x:Inode) {k:Nat} (h:t.sz<2^40) (hx:x.sz<2^40) (hu:UpI t.inodes) (hk:bQ t x.ino=some k):aT Tryz.prog 80 [t.x,x.x] (cC t x).o [.undef,.undef]:=by
 obtain ⟨h1,h2⟩:=dU h
 have hlt:=o3 hk
 have hPl:=nP t x.ino (by omega)
 rw [hk,show uJ (some k)=(k:Int) from rfl] at hPl
 have e:cC t x={ inodes:=t.inodes.set k x,next:=t.next }:=by rw [cC,uU hu hk]
 have hz:decide ((0:Int)≤(k:Nat))=true:=decide_eq_true (by omega)
 have hg:((k:Nat):Int)<(t.inodes.length:Nat):=by omega
 rw [e]
 refine U y8 [] 255 [] fun w hP hQ=>?_
 unfold oO
 refine N ?_
 refine K (aaA t h) ?_
 have hz:=And.intro hz hg
 refine Kz (hPl) ?_
 have hz:=And.intro hz hg
 refine Kz (sD x hx) ?_
 rw [acf Inode.row t.inodes k x _ fun y _=>rfl]
 try rfl
end
section
open Go.Proofs
open Nat (reduceEqDiff reduceAdd reduceMul reduceSub)
open Int (reduceNeg reduceToNat reducePow)
def ajp (D:Inode) (n:aB):List TV:=[.int .i64 D.ino,.int .i64 D.kind,.int .i64 D.links,.sl 1 (aL D.data),.sl 2 (D.ents.map Ent.row),.sl 2 (D.attrs.map Attr.row),.str n]
theorem aeR (e:Ent) (D:Inode) (n:aB):aT Tryz.prog 126 [e.x,.xbox (ajp D n)] (.bool (decide (e.name=n))) [.undef,.undef]:=by
 unfold ajp
 refine U o9 [] 15 [] fun w hP hQ=>?_
 unfold iW
 exact N trivial
theorem ajq (l:List Ent) (n:aB):(l.filter fun e=>!decide (e.name=n))=dS l n:=by
 unfold dS alm
 congr 1
 funext e
 by_cases h:e.name=n <;> simp [h]
theorem nY (D:Inode) (n:aB):(o0 D n).sz≤D.sz:=by
 have h1:(dS D.ents n).length≤D.ents.length:=List.length_filter_le _ _
 have h2:=aeH Ent.sz (fun e:Ent=>decide (e.name≠n)) D.ents
 show D.data.length+((dS D.ents n).length+((dS D.ents n).map Ent.sz).sum)+szM Attr.sz D.attrs≤D.data.length+(D.ents.length+(D.ents.map Ent.sz).sum)+szM Attr.sz D.attrs
 have h3:((dS D.ents n).map Ent.sz).sum≤(D.ents.map Ent.sz).sum:=h2
 omega
theorem ajr (t:Tab) (D:Inode) (n:aB) {k:Nat} (h:t.sz<2^40) (hD:D.sz<2^40) (hu:UpI t.inodes) (hk:bQ t D.ino=some k) :
  aT Tryz.prog 65 [ahr D n,t.x] (cC t (o0 D n)).o [.undef,.undef]:=by
 obtain ⟨h1,h2,h3⟩:=c9 hD
 have hF:=pK (fun v=>aeR v D n) D.ents (by omega)
 rw [ajq] at hF
 have hS:=kC t (o0 D n) h (Nat.lt_of_le_of_lt (nY D n) hD) hu hk
 unfold ahr
 refine U sW [(124,[.m,.b],[])] 31 [] fun w hP hQ=>?_
 unfold lB
 refine N ?_
 refine K (wW D.ents (by omega)) ?_
 refine K (hF) ?_
 exact K (hS) trivial
theorem acg (s:aB):pH s=(mY s && !decide (s=[47])):=by
 rw [Bool.eq_iff_iff,show pH s=true↔_ from zS s]
 unfold mY
 simp only [Bool.and_eq_true,Bool.not_eq_true',decide_eq_false_iff_not]
 constructor
 ·rintro ⟨h1,h2⟩; exact ⟨h1,fun e=>h2 ((uD h1).2 e)⟩
 ·rintro ⟨h1,h2⟩; exact ⟨h1,fun e=>h2 ((uD h1).1 e)⟩
theorem ahs {t:Tab} {i:Int} {x:Inode} (h:aP t i=some x):∃ k,bQ t i=some k:=by
 cases e:bQ t i with
 | none=>rw [uO e] at h; cases h
 | some k=>exact ⟨k,rfl⟩
theorem aht (t:Tab) (s:aB) {D:Inode} (h:t.sz<2^40) (hs:s.length<2^40) (hu:UpI t.inodes) (hD:dD t s=.ok D):aT Tryz.prog 78 [t.x,.str s] (cC t (o0 D (aO s))).o [.undef,.undef]:=by
 have hPa:=iR s hs
 have hS:=ace t (aG s).1 h (by have:=(dA s).1; omega)
 have hst:=(nS hD).1
 have hat:=(wY hst).2
 obtain ⟨k,hk⟩:=ahs hat
 have hz:=aho h hat
 have hC:=ajo D.ents (aO s) (c9 hz).2.1
 have hI:=kD t (o0 D (aO s)) h (Nat.lt_of_le_of_lt (nY D _) hz) hu hk
 rw [hst] at hS
 simp only [exI,exC] at hS
 unfold aO at *
 refine U aee [] 375 [] fun w hP hQ=>?_
 unfold tR
 refine N ?_
 refine K (hPa) ?_
 refine K (hS) ?_
 refine K (hC) ?_
 exact K (hI) trivial
theorem ahu {t:Tab} (h:gC t=true):UpI t.inodes:=((jY t).1 h).tab.up
end
section
open Go.Proofs
open Nat (reduceEqDiff reduceAdd reduceMul reduceSub)
open Int (reduceNeg reduceToNat reducePow)
theorem ahv (a b:aB):strLt a b=decide (a<b):=fR a b
theorem ajS (a b:aB):(decide (a<b) || decide (a=b))=!decide (b<a):=by
 rw [Bool.eq_iff_iff]
 simp only [Bool.or_eq_true,decide_eq_true_eq,Bool.not_eq_true',decide_eq_false_iff_not]
 constructor
 ·rintro (h | rfl)
  ·exact List.lt_asymm h
  ·exact List.lt_irrefl _
 ·intro h
  rcases List.le_iff_lt_or_eq.1 (List.not_lt.1 h) with h | h
  ·exact .inl h
  ·exact .inr h
theorem ak5 (l:List Ent) (e:Ent):l.map Ent.row++[[TV.str e.name,TV.int .i64 e.ino]]=(l.take l.length++e::l.drop l.length).map Ent.row:=by simp [Ent.row]
theorem ahw (L:List Ent) (k:Nat) (x:Ent):(L.map Ent.row).modify k (fun r=>TV.str x.name::TV.int .i64 x.ino::r.drop 2)=(L.set k x).map Ent.row:=acf Ent.row L k x _ fun _ _=>rfl
theorem ady {l:List Ent} {k:Nat} {h:Ent} (hk:k<l.length):(((l.take (k+1)++h::l.drop (k+1))).map Ent.row)[k]?=some (Ent.row l[k]):=by rw [List.getElem?_map,ahd hk]; rfl
theorem ajs (l:List Ent) (e:Ent) (hu:UpK Ent.name l) (hl:l.length<2^30):aT Tryz.prog 93 [.ext 2 (l.map Ent.row),e.x] (.own 2 ((jW l e).map Ent.row)) [.undef,.undef]:=by
 have hb1:l.length*24≤140737488355328:=by omega
 have hb2:(l.length+1)*24≤140737488355328:=by omega
 refine U agt [] 123 [] fun w hP hQ=>?_
 unfold yU
 refine N ?_
 simp +decide (maxSteps:=9^9) (disch:=omega) only[↓SB0,SX,seval,hQ,ab4,hb1,hb2,List.length_append,a8]
 rw [ak5]
 refine f6 [] ?_
 refine N ?_
 refine aU [] (fun s:Nat × Ent=>[(5,.own 2 ((l.take s.1++s.2::l.drop s.1).map Ent.row)),(6,.int .i64 (s.1:Nat))]) (fun s=>s.1≤l.length∧∀ j,s.1≤j→(h:j<l.length)→e.name<l[j].name) (fun s=>s.1) ((l.length,e)) hP hQ (rfl) (by simp; omega) ?_
 rintro ⟨k,x⟩ ⟨hk,hj⟩ w1 hP1 hQ1
 refine N1 ?_
 simp only at hk hj
 have hlen:=ahc (h:=x) hk
 cases k with
 | zero=>
  have hz:=hlen
  refine Nz1 ?_
  rw [jW,aap hu hk hj (.inl rfl)]
  simp [Ent.row]
 | succ k=>
  have hkl:k<l.length:=by omega
  have w4:decide ((0:Int)<((k+1:Nat):Int))=true:=decide_eq_true (by omega)
  simp +decide (maxSteps:=9^9) (disch:=omega) only[↓SB0,SX,seval,hQ,hQ1,w4,hlen,a8,ady (h:=x) hkl,Ent.row,ahv,ajS]
  (first | with_reducible refine bA _ ?_ ?_ | refine bB _ ?_ ?_) <;> intro g
  ·simp +decide (maxSteps:=9^9) (disch:=omega) only[↓SB0,SX,seval,hQ,hQ1,hlen,a8,ady (h:=x) hkl,Ent.row]
   exact ⟨(k,l[k]),by simp only [ahw,aaq _ _ hk,aeL hkl],⟨by simp only; omega,fun j hj1 hj2=>by
    by_cases e:j=k
    ·subst e; exact g
    ·exact hj j (by simp only at hj1; omega) hj2⟩,by simp only; omega⟩
  ·simp +decide (maxSteps:=9^9) (disch:=omega) only[↓SB0,SX,seval,hQ,hQ1,hlen]
   rw [jW,aap hu hk hj (.inr ⟨by simpa using hkl,by simpa using g⟩),ahw,aaq _ _ hk]
end
section
open Go.Proofs
open Nat (reduceEqDiff reduceAdd reduceMul reduceSub)
open Int (reduceNeg reduceToNat reducePow)
def al3 (t:Tab) (s:aB) (f:Int):Rs Inode:=if pH s=true then wX t s f else .error 1
theorem ak6 {t:Tab} {s:aB}:(∃ c,cR t (aG s).1=.error c∧dD t s=.error c)∨(∃ D,cR t (aG s).1=.ok D∧¬ D.kind=2∧dD t s=.error 3)∨∃ D,cR t (aG s).1=.ok D∧D.kind=2∧dD t s=.ok D:=by
 unfold dD
 cases e:cR t (aG s).1 with
 | error c=>exact .inl ⟨c,rfl,rfl⟩
 | ok D=>
  by_cases hk:D.kind=2
  ·exact .inr (.inr ⟨D,rfl,hk,by simp only [if_pos hk]⟩)
  ·exact .inr (.inl ⟨D,rfl,hk,by simp only [if_neg hk]⟩)
theorem ahx (t:Tab) (s:aB) (f:Int) (h:t.sz<2^40) (hs:s.length<2^40):aT Tryz.prog 92 [t.x,.str s,.int .i64 f] (.tup [(exI (al3 t s f)).o,.str (exN (al3 t s f) (aO s)),.int .i64 (exC (al3 t s f))]) [.undef,.undef,.undef]:=by
 have hPa:=iR s hs
 have hS:=ace t (aG s).1 h (by have:=(dA s).1; omega)
 rw [show (aG s).2.2=pH s from rfl,show (aG s).2.1=aO s from rfl] at hPa
 unfold al3
 cases hb:pH s with
 | false=>
  rw [hb] at hPa
  rw [if_neg (by simp)]
  refine U eO [] 16335 [] fun w hP hQ=>?_
  unfold dQ
  refine N ?_
  refine K (hPa) ?_
  all_goals first | rfl | exact ⟨rfl,rfl⟩
 | true=>
  rw [hb] at hPa
  rw [if_pos rfl]
  unfold wX
  rcases ak6 (t:=t) (s:=s) with ⟨c,e1,e2⟩ | ⟨D,e1,e2,e3⟩ | ⟨D,e1,e2,e3⟩
  ·have hc:decide (c=0)=false:=decide_eq_false (nW e1)
   rw [e1] at hS
   rw [e2]
   simp only [exI,exC,exN] at hS ⊢
   refine U eO [] 16335 [] fun w hP hQ=>?_
   unfold dQ
   refine N ?_
   refine K (hPa) ?_
   have hz:=hc
   refine Kz (hS) ?_
   all_goals first | rfl | exact ⟨rfl,rfl⟩
  ·have hk':decide (D.kind=2)=false:=decide_eq_false e2
   rw [e1] at hS
   rw [e3]
   simp only [exI,exC,exN] at hS ⊢
   refine U eO [] 16335 [] fun w hP hQ=>?_
   unfold dQ
   refine N ?_
   refine K (hPa) ?_
   have hz:=hk'
   refine Kz (hS) ?_
   all_goals first | rfl | exact ⟨rfl,rfl⟩
  ·have hk':decide (D.kind=2)=true:=decide_eq_true e2
   have zD:=aho h (wY e1).2
   have hE:=adv D (aO s) zD
   rw [e1] at hS
   rw [e3]
   simp only [exI,exC] at hS
   by_cases h1:b3 D (aO s)=0
   ·rw [h1] at hE
    simp only [if_pos (show b3 D (aG s).2.1=0 from h1)]
    by_cases h2:D.ents.length<10
    ·have h2':decide ((10:Int)≤(D.ents.length:Nat))=false:=decide_eq_false (by omega)
     simp only [if_pos (Or.inl h2:D.ents.length<10∨D.ino=f),exI,exC,exN]
     refine U eO [] 16335 [] fun w hP hQ=>?_
     unfold dQ
     refine N ?_
     refine K (hPa) ?_
     have hz:=hk'
     refine Kz (hS) ?_
     have hz:=h2'
     exact Kz (hE) trivial
    ·have h2':decide ((10:Int)≤(D.ents.length:Nat))=true:=decide_eq_true (by omega)
     by_cases h3:D.ino=f
     ·have h3':decide (D.ino=f)=true:=decide_eq_true h3
      simp only [if_pos (Or.inr h3:D.ents.length<10∨D.ino=f),exI,exC,exN]
      refine U eO [] 16335 [] fun w hP hQ=>?_
      unfold dQ
      refine N ?_
      refine K (hPa) ?_
      have hz:=hk'
      refine Kz (hS) ?_
      have hz:=And.intro h2' h3'
      exact Kz (hE) trivial
     ·have h3':decide (D.ino=f)=false:=decide_eq_false h3
      simp only [if_neg (show ¬ (D.ents.length<10∨D.ino=f) from fun h=>h.elim h2 h3),exI,exC,exN]
      refine U eO [] 16335 [] fun w hP hQ=>?_
      unfold dQ
      refine N ?_
      refine K (hPa) ?_
      have hz:=hk'
      refine Kz (hS) ?_
      have hz:=And.intro h2' h3'
      refine Kz (hE) ?_
      all_goals first | rfl | exact ⟨rfl,rfl⟩
   ·have h1':decide (b3 D (aO s)=0)=false:=decide_eq_false h1
    simp only [if_neg (show ¬ b3 D (aG s).2.1=0 from h1),exI,exC,exN]
    refine U eO [] 16335 [] fun w hP hQ=>?_
    unfold dQ
    refine N ?_
    refine K (hPa) ?_
    have hz:=hk'
    refine Kz (hS) ?_
    have hz:=h1'
    refine Kz (hE) ?_
    all_goals first | rfl | exact ⟨rfl,rfl⟩
end
section
open Go.Proofs
open Nat (reduceEqDiff reduceAdd reduceMul reduceSub)
open Int (reduceNeg reduceToNat reducePow)
theorem ahy (l:List Ent) (e:Ent):szM Ent.sz (jW l e)≤szM Ent.sz l+e.name.length+1:=by
 have h1:(jW l e).length=l.length+1:=ac7 l e
 have h2:((jW l e).map Ent.sz).sum=(l.map Ent.sz).sum+e.name.length:=by
  unfold jW
  induction l with
  | nil=>simp [agQ,Ent.sz]
  | cons f l ih=>
   rw [agQ]
   split
   ·simp only [List.map_cons,List.sum_cons,Ent.sz]; omega
   ·simp only [List.map_cons,List.sum_cons,ih (by exact ac7 l e)]; omega
 simp only [szM]; omega
theorem w9 (D:Inode) (n:aB) (j:Int):(aln D n j).sz≤D.sz+n.length+1:=by
 have:=ahy D.ents ⟨n,j⟩
 simp only at this
 show D.data.length+szM Ent.sz (jW D.ents ⟨n,j⟩)+szM Attr.sz D.attrs≤D.data.length+szM Ent.sz D.ents+szM Attr.sz D.attrs+n.length+1
 omega
end
section
open Go.Proofs
open Nat (reduceEqDiff reduceAdd reduceMul reduceSub)
open Int (reduceNeg reduceToNat reducePow)
theorem adz {t:Tab} {s:aB} {X:Inode} (hB:gC t=true) (hs:pH s=true) (hX:cR t s=.ok X):∃ D,dD t s=.ok D:=by
 have ht:=(jY t).1 hB
 obtain ⟨D,d1,d2,_⟩:=ag7 ht hs hX
 exact ⟨D,d1⟩
end
section
open Go.Proofs
open Nat (reduceEqDiff reduceAdd reduceMul reduceSub)
open Int (reduceNeg reduceToNat reducePow)
theorem al4 {t:Tab} {s:aB} {f:Int} {c:Int} (h:wX t s f=.error c):c≠0:=by
 intro e
 subst e
 unfold wX at h
 split at h
 ·split at h
  ·split at h <;> cases h
  ·cases h
 ·rename_i e2
  cases h
  unfold dD at e2
  split at e2
  ·split at e2 <;> cases e2
  ·rename_i e3; cases e2; exact nW e3 rfl
end
section
open Go.Proofs
open Nat (reduceEqDiff reduceAdd reduceMul reduceSub)
open Int (reduceNeg reduceToNat reducePow)
theorem ajT {t:Tab} {x:Inode} (h:x ∈ t.inodes):x.sz≤t.sz:=by
 have:=(dU (t:=t) (n:=t.sz+1) (by omega)).2 x h
 omega
theorem ajt {t:Tab} {s:aB} {c:Int} (hB:gC t=true) (h:cR t s=.error c):(kP t s).2=c:=by
 have ht:=(jY t).1 hB
 unfold cR at h
 split at h
 ·rename_i e
  have hw:=(adi (aag e) (i:=(kP t s).1)).1 (by rw [← e])
  obtain ⟨x,hx,_⟩:=aey ht hw
  rw [hx] at h
  cases h
 ·cases h; rfl
theorem aju {t:Tab} (h:TreeOk t) {D1:Inode} {d1:List aB} (s1:Spot t D1 d1) {n:aB} {l:List aB} (hp:¬ (d1++[n]) <+: l):c7 (aP (cC t (o0 D1 n))) l 1=c7 (aP t) l 1:=by
 have hD1:=zV h s1.mem
 have map1:∀ i,aP (cC t (o0 D1 n)) i=if D1.ino=i then some (o0 D1 n) else aP t i:=fun i=>zX h.tab.up _ i
 rw [abV,abV]
 refine abW (fun i m him=>?_) (abY h s1) hp
 by_cases h2:i=D1.ino
 ·have hm:=him.resolve_left (by simp [h2])
  rw [ac8 (x:=o0 D1 n) (by rw [map1,if_pos h2.symm]) m,ac8 (M:=aP t) (x:=D1) (by rw [h2]; exact hD1) m]
  have:b3 (o0 D1 n) m=b3 D1 m:=by unfold o0; rw [agR,if_neg hm]
  rw [this]; rfl
 ·exact aiX (by rw [map1,if_neg (Ne.symm h2)]) m
theorem ach {t:Tab} {p q:aB} {X D2:Inode} (hB:gC t=true) (hp:pH p=true) (hq:pH q=true) (h1:cR t p=.ok X) (hb:nM p q=false) (h2:wX t q (exI (dD t p)).ino=.ok D2) :
  ∃ D1 k,dD t p=.ok D1∧kP t (aG p).1=(D1.ino,0)∧cR (cC t (o0 D1 (aO p))) (aG q).1=.ok (r7 D1 D2 (aO p))∧bQ (cC t (o0 D1 (aO p))) (r7 D1 D2 (aO p)).ino=some k ∧
   UpI (cC t (o0 D1 (aO p))).inodes∧UpK Ent.name (r7 D1 D2 (aO p)).ents∧(r7 D1 D2 (aO p)).ents.length≤10∧(r7 D1 D2 (aO p)).sz≤t.sz∧D1.sz≤t.sz:=by
 have ht:=(jY t).1 hB
 obtain ⟨D1,e,d1,s1,he,e1,e2,s2,hn,hf,hl,hb'⟩:=akY ht hp hq h1 hb h2
 have hD1:=zV ht s1.mem
 have hD2:=zV ht s2.mem
 have okD1:=wR ht s1.mem
 have okD2:=wR ht s2.mem
 have npd2:¬ ((aA (aG p).1).1++[aO p]) <+: (aA (aG q).1).1:=fun hp=>hb' (by rw [e1]; exact hp.trans (List.prefix_append _ _))
 have w:=aju ht s1 npd2
 rw [s2.at'] at w
 have at2:aP (cC t (o0 D1 (aO p))) D2.ino=some (r7 D1 D2 (aO p)):=by
  rw [zX ht.tab.up]
  show (if D1.ino=D2.ino then _ else _)=_
  unfold r7
  split
  ·rfl
  ·exact hD2
 have mi:(r7 D1 D2 (aO p)).ino=D2.ino:=by unfold r7; split; (rename_i hc; exact hc); rfl
 obtain ⟨k,hk⟩:=ahs at2
 have hs2:(aA (aG q).1).2=true:=(sG (nS (ajP h2).1).1).1
 have z1:=ajT s1.mem
 have z2:=ajT s2.mem
 refine ⟨D1,k,d1,(j6 (nS d1).1).1,?_,by rw [mi]; exact hk,alU ht.tab.up _,?_,?_,?_,z1⟩
 ·rw [ak0 hs2 w,at2]
 ·unfold r7; split
  ·exact akT okD1.up _
  ·exact okD2.up
 ·unfold r7; split
  ·have:(dS D1.ents (aO p)).length≤D1.ents.length:=List.length_filter_le _ _
   have:=okD1.len
   show (dS D1.ents (aO p)).length≤10
   omega
  ·exact okD2.len
 ·unfold r7; split
  ·exact Nat.le_trans (nY D1 _) z1
  ·exact z2
theorem ahz (t:Tab) (p q:aB) (h:t.sz<2^28) (hp:p.length<2^40) (hq:q.length<2^40):aT Tryz.prog 42 [t.x,.str p,.str q] (.tup [(dC t p q).1.o,.int .i64 (dC t p q).2]) [.undef,.undef,.undef]:=by
 have h':t.sz<2^40:=by omega
 have hC:=aaA t h'
 have hT:=ahm t h'
 have hPp:=iR p hp
 have hPa:=iR q hq
 rw [show (aG p).2.2=pH p from rfl,show (aG p).2.1=aO p from rfl] at hPp
 rw [show (aG q).2.2=pH q from rfl,show (aG q).2.1=aO q from rfl] at hPa
 by_cases hc:gC t=true∧pH p=true∧pH q=true
 ·obtain ⟨hB,hpb,hqb⟩:=hc
  rw [hB] at hT
  rw [hpb] at hPp
  rw [hqb] at hPa
  have hW:=acd t p h' hp
  cases hX:cR t p with
  | error c=>
   have hc:decide (c=0)=false:=decide_eq_false (nW hX)
   have e:dC t p q=(t,c):=by rw [dC,if_pos ⟨hB,hpb,hqb⟩,hX]
   rw [ajt hB hX] at hW
   rw [e]
   refine cW hmx eN [] 41543119 [] ⟨Nat.le_of_ble_eq_true rfl,Nat.le_of_ble_eq_true rfl⟩ rfl rfl ?_
   intro w hP hQ
   unfold dP
   simp +decide (maxSteps:=9^9) (disch:=omega) only[↓SB0,SX,seval,hQ]
   (first|refine cI hP (hPp) rfl rfl ?_|refine cH hP (hPp) rfl rfl ?_)
   simp +decide (maxSteps:=9^9) (disch:=omega) only[↓SB0,SX,seval,hQ]
   (first|refine cI hP (hPa) rfl rfl ?_|refine cH hP (hPa) rfl rfl ?_)
   simp +decide (maxSteps:=9^9) (disch:=omega) only[↓SB0,SX,seval,hQ]
   (first|refine cI hP (hT) rfl rfl ?_|refine cH hP (hT) rfl rfl ?_)
   simp +decide (maxSteps:=9^9) (disch:=omega) only[↓SB0,SX,seval,hQ]
   (first|refine cI hP (hW) rfl rfl ?_|refine cH hP (hW) rfl rfl ?_)
   simp +decide (maxSteps:=9^9) (disch:=omega) only[↓SB0,SX,seval,hQ,hc]
   (first|refine cI hP (hC) rfl rfl ?_|refine cH hP (hC) rfl rfl ?_)
   simp +decide (maxSteps:=9^9) (disch:=omega) only[↓SB0,SX,seval,hQ]
   all_goals first | rfl | exact ⟨rfl,rfl⟩
  | ok X=>
   have e0:dC t p q=if nM p q=true then (t,6) else (match wX t q (exI (dD t p)).ino with
    | .ok D=>(abZ t (exI (dD t p)) D (aO p) (aO q) X.ino,0)
    | .error c=>(t,c)):=by rw [dC,if_pos ⟨hB,hpb,hqb⟩,hX]; rfl
   have hL:=ajc p q hp hq
   rw [(j6 hX).1] at hW
   simp only at hW
   rw [e0]
   cases hb:nM p q with
   | true=>
    rw [hb] at hL
    rw [if_pos rfl]
    refine cW hmx eN [] 41543119 [] ⟨Nat.le_of_ble_eq_true rfl,Nat.le_of_ble_eq_true rfl⟩ rfl rfl ?_
    intro w hP hQ
    unfold dP
    simp +decide (maxSteps:=9^9) (disch:=omega) only[↓SB0,SX,seval,hQ]
    (first|refine cI hP (hPp) rfl rfl ?_|refine cH hP (hPp) rfl rfl ?_)
    simp +decide (maxSteps:=9^9) (disch:=omega) only[↓SB0,SX,seval,hQ]
    (first|refine cI hP (hPa) rfl rfl ?_|refine cH hP (hPa) rfl rfl ?_)
    simp +decide (maxSteps:=9^9) (disch:=omega) only[↓SB0,SX,seval,hQ]
    (first|refine cI hP (hT) rfl rfl ?_|refine cH hP (hT) rfl rfl ?_)
    simp +decide (maxSteps:=9^9) (disch:=omega) only[↓SB0,SX,seval,hQ]
    (first|refine cI hP (hW) rfl rfl ?_|refine cH hP (hW) rfl rfl ?_)
    simp +decide (maxSteps:=9^9) (disch:=omega) only[↓SB0,SX,seval,hQ]
    (first|refine cI hP (hL) rfl rfl ?_|refine cH hP (hL) rfl rfl ?_)
    simp +decide (maxSteps:=9^9) (disch:=omega) only[↓SB0,SX,seval,hQ]
    (first|refine cI hP (hC) rfl rfl ?_|refine cH hP (hC) rfl rfl ?_)
    simp +decide (maxSteps:=9^9) (disch:=omega) only[↓SB0,SX,seval,hQ]
    all_goals first | rfl | exact ⟨rfl,rfl⟩
   | false=>
    rw [hb] at hL
    rw [if_neg (by simp)]
    obtain ⟨D1,d1⟩:=adz hB hpb hX
    have hV:=acd t (aG p).1 h' (by have:=(dA p).1; omega)
    rw [(j6 (nS d1).1).1] at hV
    simp only at hV
    have hN:=ahx t q D1.ino h' hq
    unfold al3 at hN
    rw [hqb,if_pos rfl] at hN
    have e1:(exI (dD t p)).ino=D1.ino:=by rw [d1]; rfl
    rw [e1]
    cases hD:wX t q D1.ino with
    | error c=>
     have hc:decide (c=0)=false:=decide_eq_false (al4 hD)
     rw [hD] at hN
     simp only [exI,exC,exN] at hN ⊢
     refine cW hmx eN [] 41543119 [] ⟨Nat.le_of_ble_eq_true rfl,Nat.le_of_ble_eq_true rfl⟩ rfl rfl ?_
     intro w hP hQ
     unfold dP
     simp +decide (maxSteps:=9^9) (disch:=omega) only[↓SB0,SX,seval,hQ]
     (first|refine cI hP (hPp) rfl rfl ?_|refine cH hP (hPp) rfl rfl ?_)
     simp +decide (maxSteps:=9^9) (disch:=omega) only[↓SB0,SX,seval,hQ]
     (first|refine cI hP (hPa) rfl rfl ?_|refine cH hP (hPa) rfl rfl ?_)
     simp +decide (maxSteps:=9^9) (disch:=omega) only[↓SB0,SX,seval,hQ]
     (first|refine cI hP (hT) rfl rfl ?_|refine cH hP (hT) rfl rfl ?_)
     simp +decide (maxSteps:=9^9) (disch:=omega) only[↓SB0,SX,seval,hQ]
     (first|refine cI hP (hW) rfl rfl ?_|refine cH hP (hW) rfl rfl ?_)
     simp +decide (maxSteps:=9^9) (disch:=omega) only[↓SB0,SX,seval,hQ]
     (first|refine cI hP (hL) rfl rfl ?_|refine cH hP (hL) rfl rfl ?_)
     simp +decide (maxSteps:=9^9) (disch:=omega) only[↓SB0,SX,seval,hQ]
     (first|refine cI hP (hV) rfl rfl ?_|refine cH hP (hV) rfl rfl ?_)
     simp +decide (maxSteps:=9^9) (disch:=omega) only[↓SB0,SX,seval,hQ]
     (first|refine cI hP (hN) rfl rfl ?_|refine cH hP (hN) rfl rfl ?_)
     simp +decide (maxSteps:=9^9) (disch:=omega) only[↓SB0,SX,seval,hQ,hc]
     (first|refine cI hP (hC) rfl rfl ?_|refine cH hP (hC) rfl rfl ?_)
     simp +decide (maxSteps:=9^9) (disch:=omega) only[↓SB0,SX,seval,hQ]
     all_goals first | rfl | exact ⟨rfl,rfl⟩
    | ok D2=>
     obtain ⟨D1',k,k1,k2,k3,k4,k5,k6,k7,k8,k9⟩:=ach hB hpb hqb hX hb (by rw [e1]; exact hD)
     rw [d1] at k1
     cases k1
     rw [hD] at hN
     simp only [exI,exC,exN,d1] at hN ⊢
     rw [abZ]
     have z1:=nY D1 (aO p)
     have z2:=mZ t (o0 D1 (aO p))
     have z3:=w9 (r7 D1 D2 (aO p)) (aO q) X.ino
     have z4:=(dA q).2
     have z5:=(dA q).1
     have hL1:=aht t p h' hp (ahu hB) d1
     have hS:=ace (cC t (o0 D1 (aO p))) (aG q).1 (by omega) (by omega)
     rw [k3] at hS
     simp only [exI,exC] at hS
     have hP1:=ajs (r7 D1 D2 (aO p)).ents ⟨aO q,X.ino⟩ k6 (by omega)
     have hS2:=kD (cC t (o0 D1 (aO p))) (aln (r7 D1 D2 (aO p)) (aO q) X.ino) (by omega) (by omega) k5 k4
     refine cW hmx eN [] 41543119 [] ⟨Nat.le_of_ble_eq_true rfl,Nat.le_of_ble_eq_true rfl⟩ rfl rfl ?_
     intro w hP hQ
     unfold dP
     simp +decide (maxSteps:=9^9) (disch:=omega) only[↓SB0,SX,seval,hQ]
     (first|refine cI hP (hPp) rfl rfl ?_|refine cH hP (hPp) rfl rfl ?_)
     simp +decide (maxSteps:=9^9) (disch:=omega) only[↓SB0,SX,seval,hQ]
     (first|refine cI hP (hPa) rfl rfl ?_|refine cH hP (hPa) rfl rfl ?_)
     simp +decide (maxSteps:=9^9) (disch:=omega) only[↓SB0,SX,seval,hQ]
     (first|refine cI hP (hT) rfl rfl ?_|refine cH hP (hT) rfl rfl ?_)
     simp +decide (maxSteps:=9^9) (disch:=omega) only[↓SB0,SX,seval,hQ]
     (first|refine cI hP (hW) rfl rfl ?_|refine cH hP (hW) rfl rfl ?_)
     simp +decide (maxSteps:=9^9) (disch:=omega) only[↓SB0,SX,seval,hQ]
     (first|refine cI hP (hL) rfl rfl ?_|refine cH hP (hL) rfl rfl ?_)
     simp +decide (maxSteps:=9^9) (disch:=omega) only[↓SB0,SX,seval,hQ]
     (first|refine cI hP (hV) rfl rfl ?_|refine cH hP (hV) rfl rfl ?_)
     simp +decide (maxSteps:=9^9) (disch:=omega) only[↓SB0,SX,seval,hQ]
     (first|refine cI hP (hN) rfl rfl ?_|refine cH hP (hN) rfl rfl ?_)
     simp +decide (maxSteps:=9^9) (disch:=omega) only[↓SB0,SX,seval,hQ]
     (first|refine cI hP (hL1) rfl rfl ?_|refine cH hP (hL1) rfl rfl ?_)
     simp +decide (maxSteps:=9^9) (disch:=omega) only[↓SB0,SX,seval,hQ]
     (first|refine cI hP (hPa) rfl rfl ?_|refine cH hP (hPa) rfl rfl ?_)
     simp +decide (maxSteps:=9^9) (disch:=omega) only[↓SB0,SX,seval,hQ]
     (first|refine cI hP (hS) rfl rfl ?_|refine cH hP (hS) rfl rfl ?_)
     simp +decide (maxSteps:=9^9) (disch:=omega) only[↓SB0,SX,seval,hQ]
     (first|refine cI hP (hP1) rfl rfl ?_|refine cH hP (hP1) rfl rfl ?_)
     simp +decide (maxSteps:=9^9) (disch:=omega) only[↓SB0,SX,seval,hQ]
     (first|refine cI hP (hS2) rfl rfl ?_|refine cH hP (hS2) rfl rfl ?_)
     simp +decide (maxSteps:=9^9) (disch:=omega) only[↓SB0,SX,seval,hQ]
     all_goals first | rfl | exact ⟨rfl,rfl⟩
 ·have e:dC t p q=(t,1):=by rw [dC,if_neg hc]
  rw [e]
  cases hB:gC t with
  | false=>
   rw [hB] at hT
   refine cW hmx eN [] 41543119 [] ⟨Nat.le_of_ble_eq_true rfl,Nat.le_of_ble_eq_true rfl⟩ rfl rfl ?_
   intro w hP hQ
   unfold dP
   simp +decide (maxSteps:=9^9) (disch:=omega) only[↓SB0,SX,seval,hQ]
   (first|refine cI hP (hPp) rfl rfl ?_|refine cH hP (hPp) rfl rfl ?_)
   simp +decide (maxSteps:=9^9) (disch:=omega) only[↓SB0,SX,seval,hQ]
   (first|refine cI hP (hPa) rfl rfl ?_|refine cH hP (hPa) rfl rfl ?_)
   simp +decide (maxSteps:=9^9) (disch:=omega) only[↓SB0,SX,seval,hQ]
   (first|refine cI hP (hT) rfl rfl ?_|refine cH hP (hT) rfl rfl ?_)
   simp +decide (maxSteps:=9^9) (disch:=omega) only[↓SB0,SX,seval,hQ]
   (first|refine cI hP (hC) rfl rfl ?_|refine cH hP (hC) rfl rfl ?_)
   simp +decide (maxSteps:=9^9) (disch:=omega) only[↓SB0,SX,seval,hQ]
   all_goals first | rfl | exact ⟨rfl,rfl⟩
  | true=>
   rw [hB] at hT
   cases hpb:pH p with
   | false=>
    rw [hpb] at hPp
    refine cW hmx eN [] 41543119 [] ⟨Nat.le_of_ble_eq_true rfl,Nat.le_of_ble_eq_true rfl⟩ rfl rfl ?_
    intro w hP hQ
    unfold dP
    simp +decide (maxSteps:=9^9) (disch:=omega) only[↓SB0,SX,seval,hQ]
    (first|refine cI hP (hPp) rfl rfl ?_|refine cH hP (hPp) rfl rfl ?_)
    simp +decide (maxSteps:=9^9) (disch:=omega) only[↓SB0,SX,seval,hQ]
    (first|refine cI hP (hPa) rfl rfl ?_|refine cH hP (hPa) rfl rfl ?_)
    simp +decide (maxSteps:=9^9) (disch:=omega) only[↓SB0,SX,seval,hQ]
    (first|refine cI hP (hT) rfl rfl ?_|refine cH hP (hT) rfl rfl ?_)
    simp +decide (maxSteps:=9^9) (disch:=omega) only[↓SB0,SX,seval,hQ]
    (first|refine cI hP (hC) rfl rfl ?_|refine cH hP (hC) rfl rfl ?_)
    simp +decide (maxSteps:=9^9) (disch:=omega) only[↓SB0,SX,seval,hQ]
    all_goals first | rfl | exact ⟨rfl,rfl⟩
   | true=>
    have hqb:pH q=false:=by cases e:pH q <;> simp_all
    rw [hpb] at hPp
    rw [hqb] at hPa
    refine cW hmx eN [] 41543119 [] ⟨Nat.le_of_ble_eq_true rfl,Nat.le_of_ble_eq_true rfl⟩ rfl rfl ?_
    intro w hP hQ
    unfold dP
    simp +decide (maxSteps:=9^9) (disch:=omega) only[↓SB0,SX,seval,hQ]
    (first|refine cI hP (hPp) rfl rfl ?_|refine cH hP (hPp) rfl rfl ?_)
    simp +decide (maxSteps:=9^9) (disch:=omega) only[↓SB0,SX,seval,hQ]
    (first|refine cI hP (hPa) rfl rfl ?_|refine cH hP (hPa) rfl rfl ?_)
    simp +decide (maxSteps:=9^9) (disch:=omega) only[↓SB0,SX,seval,hQ]
    (first|refine cI hP (hT) rfl rfl ?_|refine cH hP (hT) rfl rfl ?_)
    simp +decide (maxSteps:=9^9) (disch:=omega) only[↓SB0,SX,seval,hQ]
    (first|refine cI hP (hC) rfl rfl ?_|refine cH hP (hC) rfl rfl ?_)
    simp +decide (maxSteps:=9^9) (disch:=omega) only[↓SB0,SX,seval,hQ]
    all_goals first | rfl | exact ⟨rfl,rfl⟩
end
section
open Go.Proofs
open Nat (reduceEqDiff reduceAdd reduceMul reduceSub)
open Int (reduceNeg reduceToNat reducePow)
end
section
open Go.Proofs
open Nat (reduceEqDiff reduceAdd reduceMul reduceSub)
open Int (reduceNeg reduceToNat reducePow)
end
section
open Go.Proofs
open Nat (reduceEqDiff reduceAdd reduceMul reduceSub)
open Int (reduceNeg reduceToNat reducePow)
end
section
open Go.Proofs
open Nat (reduceEqDiff reduceAdd reduceMul reduceSub)
open Int (reduceNeg reduceToNat reducePow)
end
section
open Go.Proofs
open Nat (reduceEqDiff reduceAdd reduceMul reduceSub)
open Int (reduceNeg reduceToNat reducePow)
theorem aeS (e:Ent) (D:Inode) (n:aB):aT Tryz.prog 133 [e.x,.xbox (ajp D n)] (.bool (decide (n<e.name))) [.undef,.undef]:=by
 unfold ajp
 refine U pA [] 15 [] fun w hP hQ=>?_
 unfold iX
 refine N ?_
 have hz:=ahv
 refine Nz ?_
 rw [ajS,Bool.not_not]
theorem ajv (t:Tab) (D:Inode) (n:aB) (j:Int) {k:Nat} (h:t.sz<2^30) (hD:D.sz<2^30) (hn:n.length<2^30) (hu:UpI t.inodes) (hk:bQ t D.ino=some k) :
  aT Tryz.prog 71 [ahr D n,t.x,.int .i64 j] (cC t (aln D n j)).o [.undef,.undef,.undef]:=by
 obtain ⟨h1,h2,h3⟩:=c9 hD
 have hz:=w9 D n j
 have hS:=kC t (aln D n j) (by omega) (by omega) hu hk
 have hI:=j9 (fun v=>aeS v D n) D.ents (by omega)
 have hC:=wW D.ents (by omega)
 unfold ahr
 cases e:D.ents.findIdx? (fun e=>decide (n<e.name)) with
 | none=>
  have hPP:jW D.ents ⟨n,j⟩=D.ents.take D.ents.length++⟨n,j⟩::D.ents.drop D.ents.length:=aje (key:=Ent.name) (e:=⟨n,j⟩) e
  have hIn:=o4 D.ents ⟨n,j⟩ D.ents.length (Nat.le_refl _) (by omega)
  rw [← hPP] at hIn
  rw [e,show uJ none=(-1:Int) from rfl] at hI
  refine U lE [(134,[.m,.b,.m],[])] 223 [] fun w hP hQ=>?_
  unfold gP
  refine N ?_
  refine K (hI) ?_
  refine K (hC) ?_
  refine K (hIn) ?_
  exact K (hS) trivial
 | some i=>
  have hPP:i<D.ents.length∧jW D.ents ⟨n,j⟩=D.ents.take i++⟨n,j⟩::D.ents.drop i:=ajd (key:=Ent.name) (e:=⟨n,j⟩) e
  have hIn:=o4 D.ents ⟨n,j⟩ i (by omega) (by omega)
  rw [← hPP.2] at hIn
  rw [e,show uJ (some i)=(i:Int) from rfl] at hI
  have g:decide (((i:Nat):Int)<0)=false:=decide_eq_false (by omega)
  refine U lE [(134,[.m,.b,.m],[])] 223 [] fun w hP hQ=>?_
  unfold gP
  refine N ?_
  have hz:=g
  refine Kz (hI) ?_
  refine K (hC) ?_
  refine K (hIn) ?_
  exact K (hS) trivial
end
section
open Go.Proofs
open Nat (reduceEqDiff reduceAdd reduceMul reduceSub)
open Int (reduceNeg reduceToNat reducePow)
end
section
open Go.Proofs
open Nat (reduceEqDiff reduceAdd reduceMul reduceSub)
open Int (reduceNeg reduceToNat reducePow)
end
section
open Go.Proofs
open Nat (reduceEqDiff reduceAdd reduceMul reduceSub)
open Int (reduceNeg reduceToNat reducePow)
theorem ak7 {t:Tab} {s:aB} {c:Int} (h:dD t s=.error c):c≠0:=by
 unfold dD at h
 split at h
 ·split at h
  ·cases h
  ·cases h; decide
 ·rename_i e3; cases h; exact nW e3
end
section
open Go.Proofs
open Nat (reduceEqDiff reduceAdd reduceMul reduceSub)
open Int (reduceNeg reduceToNat reducePow)
theorem aaB {s:aB} (h:pH s=true):mY s=true∧decide (s=[47])=false:=by
 rw [acg] at h
 cases h1:mY s <;> cases h2:decide (s=[47]) <;> rw [h1,h2] at h <;> first | exact ⟨rfl,rfl⟩ | cases h
theorem ahA (t:Tab) (p q:aB) (h:t.sz<2^28) (hp:p.length<2^40) (hq:q.length<2^40):aT Tryz.prog 18 [t.x,.str p,.str q] (.tup [(dC t p q).1.o,.int .i64 (dC t p q).2]) [.undef,.undef,.undef]:=by
 have h':t.sz<2^40:=by omega
 have hC:=u7 t h'
 have hR:=ajm t [p,q] h' (by simp) (by simp; omega)
 have hSp:=acg p
 have hSq:=acg q
 simp only [List.all_cons,List.all_nil,Bool.and_true,List.map_cons,List.map_nil,eH] at hR
 by_cases hc:gC t=true∧pH p=true∧pH q=true
 ·obtain ⟨hB,hpb,hqb⟩:=hc
  obtain ⟨hpp,hnp⟩:=aaB hpb
  obtain ⟨hqp,hnq⟩:=aaB hqb
  rw [hpp,hqp,hB] at hR
  have hW:=ahq t p h' hp
  cases hX:cR t p with
  | error c=>
   have hc:decide (c=0)=false:=decide_eq_false (nW hX)
   have e:dC t p q=(t,c):=by rw [dC,if_pos ⟨hB,hpb,hqb⟩,hX]
   rw [hX] at hW
   rw [e]
   simp only [exI,exC] at hW
   refine cW hmx cO [] 6095 [] ⟨Nat.le_of_ble_eq_true rfl,Nat.le_of_ble_eq_true rfl⟩ rfl rfl ?_
   intro w hP hQ
   unfold b9
   simp +decide (maxSteps:=9^9) (disch:=omega) only[↓SB0,SX,seval,hQ]
   (first|refine cI hP (hC) rfl rfl ?_|refine cH hP (hC) rfl rfl ?_)
   simp +decide (maxSteps:=9^9) (disch:=omega) only[↓SB0,SX,seval,hQ]
   (first|refine cI hP (hR) rfl rfl ?_|refine cH hP (hR) rfl rfl ?_)
   simp +decide (maxSteps:=9^9) (disch:=omega) only[↓SB0,SX,seval,hQ,hnp,hnq]
   (first|refine cI hP (hW) rfl rfl ?_|refine cH hP (hW) rfl rfl ?_)
   simp +decide (maxSteps:=9^9) (disch:=omega) only[↓SB0,SX,seval,hQ,hc]
   all_goals first | rfl | exact ⟨rfl,rfl⟩
  | ok X=>
   have e0:dC t p q=if nM p q=true then (t,6) else (match wX t q (exI (dD t p)).ino with
    | .ok D=>(abZ t (exI (dD t p)) D (aO p) (aO q) X.ino,0)
    | .error c=>(t,c)):=by rw [dC,if_pos ⟨hB,hpb,hqb⟩,hX]; rfl
   have hL:=aja p q hp hq
   rw [hX] at hW
   simp only [exI,exC] at hW
   rw [e0]
   cases hb:nM p q with
   | true=>
    rw [hb] at hL
    rw [if_pos rfl]
    refine cW hmx cO [] 6095 [] ⟨Nat.le_of_ble_eq_true rfl,Nat.le_of_ble_eq_true rfl⟩ rfl rfl ?_
    intro w hP hQ
    unfold b9
    simp +decide (maxSteps:=9^9) (disch:=omega) only[↓SB0,SX,seval,hQ]
    (first|refine cI hP (hC) rfl rfl ?_|refine cH hP (hC) rfl rfl ?_)
    simp +decide (maxSteps:=9^9) (disch:=omega) only[↓SB0,SX,seval,hQ]
    (first|refine cI hP (hR) rfl rfl ?_|refine cH hP (hR) rfl rfl ?_)
    simp +decide (maxSteps:=9^9) (disch:=omega) only[↓SB0,SX,seval,hQ,hnp,hnq]
    (first|refine cI hP (hW) rfl rfl ?_|refine cH hP (hW) rfl rfl ?_)
    simp +decide (maxSteps:=9^9) (disch:=omega) only[↓SB0,SX,seval,hQ]
    (first|refine cI hP (hL) rfl rfl ?_|refine cH hP (hL) rfl rfl ?_)
    simp +decide (maxSteps:=9^9) (disch:=omega) only[↓SB0,SX,seval,hQ]
    all_goals first | rfl | exact ⟨rfl,rfl⟩
   | false=>
    rw [hb] at hL
    rw [if_neg (by simp)]
    obtain ⟨D1,d1⟩:=adz hB hpb hX
    have hO:=aaz t p h' hp
    rw [d1] at hO
    simp only [exI,exC,exN] at hO
    unfold ajl at hO
    have hN:=aaz t q h' hq
    have ht:=(jY t).1 hB
    have zD1:=(dU h).2 D1 (wZ d1)
    rw [d1]
    simp only [exI]
    cases hD:dD t q with
    | error c=>
     have hc:decide (c=0)=false:=decide_eq_false (ak7 hD)
     rw [hD] at hN
     simp only [exI,exC,exN] at hN
     unfold ajl at hN
     rw [wX,hD]
     refine cW hmx cO [] 6095 [] ⟨Nat.le_of_ble_eq_true rfl,Nat.le_of_ble_eq_true rfl⟩ rfl rfl ?_
     intro w hP hQ
     unfold b9
     simp +decide (maxSteps:=9^9) (disch:=omega) only[↓SB0,SX,seval,hQ]
     (first|refine cI hP (hC) rfl rfl ?_|refine cH hP (hC) rfl rfl ?_)
     simp +decide (maxSteps:=9^9) (disch:=omega) only[↓SB0,SX,seval,hQ]
     (first|refine cI hP (hR) rfl rfl ?_|refine cH hP (hR) rfl rfl ?_)
     simp +decide (maxSteps:=9^9) (disch:=omega) only[↓SB0,SX,seval,hQ,hnp,hnq]
     (first|refine cI hP (hW) rfl rfl ?_|refine cH hP (hW) rfl rfl ?_)
     simp +decide (maxSteps:=9^9) (disch:=omega) only[↓SB0,SX,seval,hQ]
     (first|refine cI hP (hL) rfl rfl ?_|refine cH hP (hL) rfl rfl ?_)
     simp +decide (maxSteps:=9^9) (disch:=omega) only[↓SB0,SX,seval,hQ]
     (first|refine cI hP (hO) rfl rfl ?_|refine cH hP (hO) rfl rfl ?_)
     simp +decide (maxSteps:=9^9) (disch:=omega) only[↓SB0,SX,seval,hQ]
     (first|refine cI hP (hN) rfl rfl ?_|refine cH hP (hN) rfl rfl ?_)
     simp +decide (maxSteps:=9^9) (disch:=omega) only[↓SB0,SX,seval,hQ,hc]
     all_goals first | rfl | exact ⟨rfl,rfl⟩
    | ok D2=>
     have hm:=wZ hD
     have zD:=(dU h).2 D2 hm
     have hE:=adu D2 (aO q) (by omega)
     have hel:=(wR ht hm).len
     rw [hD] at hN
     simp only [exI,exC,exN] at hN
     unfold ajl at hN
     by_cases g0:b3 D2 (aO q)=0
     ·have g0':b3 D2 (aG q).2.1=0:=g0
      rw [g0] at hE
      by_cases g1:D2.ents.length<10∨D2.ino=D1.ino
      ·have hNew:wX t q D1.ino=.ok D2:=by rw [wX,hD]; simp only; rw [if_pos g0',if_pos g1]
       obtain ⟨D1',k,k1,k2,k3,k4,k5,k6,k7,k8,k9⟩:=ach hB hpb hqb hX hb (by rw [d1]; exact hNew)
       rw [d1] at k1
       cases k1
       rw [hNew]
       simp only
       rw [abZ]
       have z1:=nY D1 (aO p)
       have z2:=mZ t (o0 D1 (aO p))
       have z3:=w9 (r7 D1 D2 (aO p)) (aO q) X.ino
       have z4:=(dA q).2
       have z5:=(dA q).1
       obtain ⟨kD1,hkD1⟩:=ahs (zV ht (wZ d1))
       have hL1:=ajr t D1 (aO p) h' (by omega) (ahu hB) hkD1
       have hI:=iF (cC t (o0 D1 (aO p))) D2.ino (by omega)
       have e2:aP (cC t (o0 D1 (aO p))) D2.ino=some (r7 D1 D2 (aO p)):=by
        have:=(j6 k3).2
        have e3:(r7 D1 D2 (aO p)).ino=D2.ino:=by
         unfold r7; split
         ·rename_i e; exact e
         ·rfl
        rw [e3] at this; exact this
       rw [ab3,e2] at hI
       simp only [Option.getD_some,Option.isSome_some] at hI
       have hL2:=ajv (cC t (o0 D1 (aO p))) (r7 D1 D2 (aO p)) (aO q) X.ino (by omega) (by omega) (by omega) k5 k4
       unfold ahr at hL1 hL2
       by_cases g2:D2.ents.length<10
       ·have g2':decide (((D2.ents.length:Nat):Int)=10)=false:=decide_eq_false (by omega)
        refine cW hmx cO [] 6095 [] ⟨Nat.le_of_ble_eq_true rfl,Nat.le_of_ble_eq_true rfl⟩ rfl rfl ?_
        intro w hP hQ
        unfold b9
        simp +decide (maxSteps:=9^9) (disch:=omega) only[↓SB0,SX,seval,hQ]
        (first|refine cI hP (hC) rfl rfl ?_|refine cH hP (hC) rfl rfl ?_)
        simp +decide (maxSteps:=9^9) (disch:=omega) only[↓SB0,SX,seval,hQ]
        (first|refine cI hP (hR) rfl rfl ?_|refine cH hP (hR) rfl rfl ?_)
        simp +decide (maxSteps:=9^9) (disch:=omega) only[↓SB0,SX,seval,hQ,hnp,hnq]
        (first|refine cI hP (hW) rfl rfl ?_|refine cH hP (hW) rfl rfl ?_)
        simp +decide (maxSteps:=9^9) (disch:=omega) only[↓SB0,SX,seval,hQ]
        (first|refine cI hP (hL) rfl rfl ?_|refine cH hP (hL) rfl rfl ?_)
        simp +decide (maxSteps:=9^9) (disch:=omega) only[↓SB0,SX,seval,hQ]
        (first|refine cI hP (hO) rfl rfl ?_|refine cH hP (hO) rfl rfl ?_)
        simp +decide (maxSteps:=9^9) (disch:=omega) only[↓SB0,SX,seval,hQ]
        (first|refine cI hP (hN) rfl rfl ?_|refine cH hP (hN) rfl rfl ?_)
        simp +decide (maxSteps:=9^9) (disch:=omega) only[↓SB0,SX,seval,hQ]
        (first|refine cI hP (hE) rfl rfl ?_|refine cH hP (hE) rfl rfl ?_)
        simp +decide (maxSteps:=9^9) (disch:=omega) only[↓SB0,SX,seval,hQ,g2']
        (first|refine cI hP (hL1) rfl rfl ?_|refine cH hP (hL1) rfl rfl ?_)
        simp +decide (maxSteps:=9^9) (disch:=omega) only[↓SB0,SX,seval,hQ]
        (first|refine cI hP (hI) rfl rfl ?_|refine cH hP (hI) rfl rfl ?_)
        simp +decide (maxSteps:=9^9) (disch:=omega) only[↓SB0,SX,seval,hQ]
        (first|refine cI hP (hL2) rfl rfl ?_|refine cH hP (hL2) rfl rfl ?_)
        simp +decide (maxSteps:=9^9) (disch:=omega) only[↓SB0,SX,seval,hQ]
        all_goals first | rfl | exact ⟨rfl,rfl⟩
       ·have g2':decide (((D2.ents.length:Nat):Int)=10)=true:=decide_eq_true (by omega)
        have g3':decide (D2.ino=D1.ino)=true:=decide_eq_true (g1.resolve_left g2)
        refine cW hmx cO [] 6095 [] ⟨Nat.le_of_ble_eq_true rfl,Nat.le_of_ble_eq_true rfl⟩ rfl rfl ?_
        intro w hP hQ
        unfold b9
        simp +decide (maxSteps:=9^9) (disch:=omega) only[↓SB0,SX,seval,hQ]
        (first|refine cI hP (hC) rfl rfl ?_|refine cH hP (hC) rfl rfl ?_)
        simp +decide (maxSteps:=9^9) (disch:=omega) only[↓SB0,SX,seval,hQ]
        (first|refine cI hP (hR) rfl rfl ?_|refine cH hP (hR) rfl rfl ?_)
        simp +decide (maxSteps:=9^9) (disch:=omega) only[↓SB0,SX,seval,hQ,hnp,hnq]
        (first|refine cI hP (hW) rfl rfl ?_|refine cH hP (hW) rfl rfl ?_)
        simp +decide (maxSteps:=9^9) (disch:=omega) only[↓SB0,SX,seval,hQ]
        (first|refine cI hP (hL) rfl rfl ?_|refine cH hP (hL) rfl rfl ?_)
        simp +decide (maxSteps:=9^9) (disch:=omega) only[↓SB0,SX,seval,hQ]
        (first|refine cI hP (hO) rfl rfl ?_|refine cH hP (hO) rfl rfl ?_)
        simp +decide (maxSteps:=9^9) (disch:=omega) only[↓SB0,SX,seval,hQ]
        (first|refine cI hP (hN) rfl rfl ?_|refine cH hP (hN) rfl rfl ?_)
        simp +decide (maxSteps:=9^9) (disch:=omega) only[↓SB0,SX,seval,hQ]
        (first|refine cI hP (hE) rfl rfl ?_|refine cH hP (hE) rfl rfl ?_)
        simp +decide (maxSteps:=9^9) (disch:=omega) only[↓SB0,SX,seval,hQ,g2',g3']
        (first|refine cI hP (hL1) rfl rfl ?_|refine cH hP (hL1) rfl rfl ?_)
        simp +decide (maxSteps:=9^9) (disch:=omega) only[↓SB0,SX,seval,hQ]
        (first|refine cI hP (hI) rfl rfl ?_|refine cH hP (hI) rfl rfl ?_)
        simp +decide (maxSteps:=9^9) (disch:=omega) only[↓SB0,SX,seval,hQ]
        (first|refine cI hP (hL2) rfl rfl ?_|refine cH hP (hL2) rfl rfl ?_)
        simp +decide (maxSteps:=9^9) (disch:=omega) only[↓SB0,SX,seval,hQ]
        all_goals first | rfl | exact ⟨rfl,rfl⟩
      ·have g2':decide (((D2.ents.length:Nat):Int)=10)=true:=decide_eq_true (by have:¬ D2.ents.length<10:=fun e=>g1 (.inl e); omega)
       have g3':decide (D2.ino=D1.ino)=false:=decide_eq_false fun e=>g1 (.inr e)
       have hNew:wX t q D1.ino=.error 5:=by rw [wX,hD]; simp only; rw [if_pos g0',if_neg g1]
       rw [hNew]
       simp only
       refine cW hmx cO [] 6095 [] ⟨Nat.le_of_ble_eq_true rfl,Nat.le_of_ble_eq_true rfl⟩ rfl rfl ?_
       intro w hP hQ
       unfold b9
       simp +decide (maxSteps:=9^9) (disch:=omega) only[↓SB0,SX,seval,hQ]
       (first|refine cI hP (hC) rfl rfl ?_|refine cH hP (hC) rfl rfl ?_)
       simp +decide (maxSteps:=9^9) (disch:=omega) only[↓SB0,SX,seval,hQ]
       (first|refine cI hP (hR) rfl rfl ?_|refine cH hP (hR) rfl rfl ?_)
       simp +decide (maxSteps:=9^9) (disch:=omega) only[↓SB0,SX,seval,hQ,hnp,hnq]
       (first|refine cI hP (hW) rfl rfl ?_|refine cH hP (hW) rfl rfl ?_)
       simp +decide (maxSteps:=9^9) (disch:=omega) only[↓SB0,SX,seval,hQ]
       (first|refine cI hP (hL) rfl rfl ?_|refine cH hP (hL) rfl rfl ?_)
       simp +decide (maxSteps:=9^9) (disch:=omega) only[↓SB0,SX,seval,hQ]
       (first|refine cI hP (hO) rfl rfl ?_|refine cH hP (hO) rfl rfl ?_)
       simp +decide (maxSteps:=9^9) (disch:=omega) only[↓SB0,SX,seval,hQ]
       (first|refine cI hP (hN) rfl rfl ?_|refine cH hP (hN) rfl rfl ?_)
       simp +decide (maxSteps:=9^9) (disch:=omega) only[↓SB0,SX,seval,hQ]
       (first|refine cI hP (hE) rfl rfl ?_|refine cH hP (hE) rfl rfl ?_)
       simp +decide (maxSteps:=9^9) (disch:=omega) only[↓SB0,SX,seval,hQ,g2',g3']
       all_goals first | rfl | exact ⟨rfl,rfl⟩
     ·have g0':decide (b3 D2 (aO q)=0)=false:=decide_eq_false g0
      have hNew:wX t q D1.ino=.error 4:=by rw [wX,hD]; simp only; rw [if_neg (show ¬ b3 D2 (aG q).2.1=0 from g0)]
      rw [hNew]
      simp only
      refine cW hmx cO [] 6095 [] ⟨Nat.le_of_ble_eq_true rfl,Nat.le_of_ble_eq_true rfl⟩ rfl rfl ?_
      intro w hP hQ
      unfold b9
      simp +decide (maxSteps:=9^9) (disch:=omega) only[↓SB0,SX,seval,hQ]
      (first|refine cI hP (hC) rfl rfl ?_|refine cH hP (hC) rfl rfl ?_)
      simp +decide (maxSteps:=9^9) (disch:=omega) only[↓SB0,SX,seval,hQ]
      (first|refine cI hP (hR) rfl rfl ?_|refine cH hP (hR) rfl rfl ?_)
      simp +decide (maxSteps:=9^9) (disch:=omega) only[↓SB0,SX,seval,hQ,hnp,hnq]
      (first|refine cI hP (hW) rfl rfl ?_|refine cH hP (hW) rfl rfl ?_)
      simp +decide (maxSteps:=9^9) (disch:=omega) only[↓SB0,SX,seval,hQ]
      (first|refine cI hP (hL) rfl rfl ?_|refine cH hP (hL) rfl rfl ?_)
      simp +decide (maxSteps:=9^9) (disch:=omega) only[↓SB0,SX,seval,hQ]
      (first|refine cI hP (hO) rfl rfl ?_|refine cH hP (hO) rfl rfl ?_)
      simp +decide (maxSteps:=9^9) (disch:=omega) only[↓SB0,SX,seval,hQ]
      (first|refine cI hP (hN) rfl rfl ?_|refine cH hP (hN) rfl rfl ?_)
      simp +decide (maxSteps:=9^9) (disch:=omega) only[↓SB0,SX,seval,hQ]
      (first|refine cI hP (hE) rfl rfl ?_|refine cH hP (hE) rfl rfl ?_)
      simp +decide (maxSteps:=9^9) (disch:=omega) only[↓SB0,SX,seval,hQ,g0']
      all_goals first | rfl | exact ⟨rfl,rfl⟩
 ·have e:dC t p q=(t,1):=by rw [dC,if_neg hc]
  rw [e]
  cases hpq:(mY p && mY q && gC t) with
  | false=>
   rw [hpq] at hR
   refine cW hmx cO [] 6095 [] ⟨Nat.le_of_ble_eq_true rfl,Nat.le_of_ble_eq_true rfl⟩ rfl rfl ?_
   intro w hP hQ
   unfold b9
   simp +decide (maxSteps:=9^9) (disch:=omega) only[↓SB0,SX,seval,hQ]
   (first|refine cI hP (hC) rfl rfl ?_|refine cH hP (hC) rfl rfl ?_)
   simp +decide (maxSteps:=9^9) (disch:=omega) only[↓SB0,SX,seval,hQ]
   (first|refine cI hP (hR) rfl rfl ?_|refine cH hP (hR) rfl rfl ?_)
   simp +decide (maxSteps:=9^9) (disch:=omega) only[↓SB0,SX,seval,hQ]
   all_goals first | rfl | exact ⟨rfl,rfl⟩
  | true=>
   rw [hpq] at hR
   simp only [Bool.and_eq_true] at hpq
   rw [hpq.1.1] at hSp
   rw [hpq.1.2] at hSq
   cases hnp:decide (p=[47]) with
   | true=>
    refine cW hmx cO [] 6095 [] ⟨Nat.le_of_ble_eq_true rfl,Nat.le_of_ble_eq_true rfl⟩ rfl rfl ?_
    intro w hP hQ
    unfold b9
    simp +decide (maxSteps:=9^9) (disch:=omega) only[↓SB0,SX,seval,hQ]
    (first|refine cI hP (hC) rfl rfl ?_|refine cH hP (hC) rfl rfl ?_)
    simp +decide (maxSteps:=9^9) (disch:=omega) only[↓SB0,SX,seval,hQ]
    (first|refine cI hP (hR) rfl rfl ?_|refine cH hP (hR) rfl rfl ?_)
    simp +decide (maxSteps:=9^9) (disch:=omega) only[↓SB0,SX,seval,hQ,hnp]
    all_goals first | rfl | exact ⟨rfl,rfl⟩
   | false=>
    have hnq:decide (q=[47])=true:=by
     cases e:decide (q=[47]) with
     | true=>rfl
     | false=>
      rw [e] at hSq
      rw [hnp] at hSp
      exact absurd ⟨hpq.2,hSp,hSq⟩ hc
    refine cW hmx cO [] 6095 [] ⟨Nat.le_of_ble_eq_true rfl,Nat.le_of_ble_eq_true rfl⟩ rfl rfl ?_
    intro w hP hQ
    unfold b9
    simp +decide (maxSteps:=9^9) (disch:=omega) only[↓SB0,SX,seval,hQ]
    (first|refine cI hP (hC) rfl rfl ?_|refine cH hP (hC) rfl rfl ?_)
    simp +decide (maxSteps:=9^9) (disch:=omega) only[↓SB0,SX,seval,hQ]
    (first|refine cI hP (hR) rfl rfl ?_|refine cH hP (hR) rfl rfl ?_)
    simp +decide (maxSteps:=9^9) (disch:=omega) only[↓SB0,SX,seval,hQ,hnp,hnq]
    all_goals first | rfl | exact ⟨rfl,rfl⟩
end
section
open Go.Proofs
open Nat (reduceEqDiff reduceAdd reduceMul reduceSub)
open Int (reduceNeg reduceToNat reducePow)
theorem ahB {α:Type} (c f:α→Nat) (K:Nat) (h:∀ x,c x≤K+K*f x) (l:List α):fB c l≤K*szM f l:=by
 simp only [fB,szM]
 induction l with
 | nil=>simp
 | cons x l ih=>
  have:=h x
  simp only [List.map_cons,List.sum_cons,List.length_cons,Nat.mul_add,Nat.mul_one] at ih ⊢
  omega
theorem ak8 (x:Inode):x.cnt≤3+3*x.sz:=by
 have h1:=ahB Ent.cnt Ent.sz 2 (fun x=>by show 1+1≤_; omega) x.ents
 have h2:=ahB Attr.cnt Attr.sz 2 (fun x=>by show 1+1≤_; omega) x.attrs
 have e1:x.cnt=1+1+1+x.data.length+fB Ent.cnt x.ents+fB Attr.cnt x.attrs:=rfl
 have e2:x.sz=x.data.length+szM Ent.sz x.ents+szM Attr.sz x.attrs:=rfl
 omega
theorem ahC (x:Tab):x.cntT≤3*x.sz:=ahB Inode.cnt Inode.sz 3 ak8 x.inodes
end
section
open Go.Proofs
open Nat (reduceEqDiff reduceAdd reduceMul reduceSub)
open Int (reduceNeg reduceToNat reducePow)
theorem dV (a:Tab) (hl:a.sz<2^40):aT Tryz.prog 53 [a.x,a.x] (.bool true) [.undef,.undef]:=by
 have:=akV a a hl
 rwa [decide_eq_true rfl] at this
end
section
open Go.Proofs
open Nat (reduceEqDiff reduceAdd reduceMul reduceSub)
open Int (reduceNeg reduceToNat reducePow)
theorem ahD (t:Tab) (p q:aB) (hq:q.length<2^40):(dC t p q).1.sz≤5*t.sz+30:=by
 unfold dC
 split
 ·rename_i hc
  split
  ·rename_i X hX
   split
   ·simp only; omega
   ·rename_i hb
    split
    ·rename_i D2 h2
     obtain ⟨D1,k,k1,k2,k3,k4,k5,k6,k7,k8,k9⟩:=ach hc.1 hc.2.1 hc.2.2 hX (by simpa using hb) h2
     rw [k1]
     have z1:=nY D1 (aO p)
     have z2:=mZ t (o0 D1 (aO p))
     have z3:=w9 (r7 D1 D2 (aO p)) (aO q) X.ino
     have z4:=(dA q).2
     have z5:=mZ (cC t (o0 D1 (aO p))) (aln (r7 D1 D2 (aO p)) (aO q) X.ino)
     show (abZ t D1 D2 (aO p) (aO q) X.ino).sz≤_
     unfold abZ
     omega
    ·simp only; omega
  ·simp only; omega
 ·simp only; omega
theorem sO (r:Tab) (p q:aB) (hf:r.fine) (hlp:p.length<2^48) (hlq:q.length<2^48):aT Tryz.prog 11 [r.x,.str p,.str q] (.bool true) [.undef,.undef,.undef]:=by
 by_cases hb:(1048576:Int)<(p.length:Nat)
 ·have hb':decide ((1048576:Int)<(p.length:Nat))=true:=decide_eq_true hb
  refine cW hmx c6 [] 262095 [] ⟨Nat.le_of_ble_eq_true rfl,Nat.le_of_ble_eq_true rfl⟩ rfl rfl ?_
  intro w hP hQ
  unfold b8
  simp +decide (maxSteps:=9^9) (disch:=omega) only[↓SB0,SX,seval,hQ]
  simp +decide (maxSteps:=9^9) (disch:=omega) only[↓SB0,SX,seval,hQ,hb']
 have hb':decide ((1048576:Int)<(p.length:Nat))=false:=decide_eq_false hb
 by_cases hc:(1048576:Int)<(q.length:Nat)
 ·have hc':decide ((1048576:Int)<(q.length:Nat))=true:=decide_eq_true hc
  refine cW hmx c6 [] 262095 [] ⟨Nat.le_of_ble_eq_true rfl,Nat.le_of_ble_eq_true rfl⟩ rfl rfl ?_
  intro w hP hQ
  unfold b8
  simp +decide (maxSteps:=9^9) (disch:=omega) only[↓SB0,SX,seval,hQ]
  simp +decide (maxSteps:=9^9) (disch:=omega) only[↓SB0,SX,seval,hQ,hb',hc']
 have hc':decide ((1048576:Int)<(q.length:Nat))=false:=decide_eq_false hc
 by_cases hz:(1048576:Int)<(r.sz:Nat)
 ·refine cW hmx c6 [] 262095 [] ⟨Nat.le_of_ble_eq_true rfl,Nat.le_of_ble_eq_true rfl⟩ rfl rfl ?_
  intro w hP hQ
  unfold b8
  simp +decide (maxSteps:=9^9) (disch:=omega) only[↓SB0,SX,seval,hQ]
  simp +decide (maxSteps:=9^9) (disch:=omega) only[↓SB0,SX,seval,hQ,hb',hc']
  (first|refine cI hP (wU r 1048576 hf (by omega) (by omega)) rfl rfl ?_|refine cH hP (wU r 1048576 hf (by omega) (by omega)) rfl rfl ?_)
  simp +decide (maxSteps:=9^9) (disch:=omega) only[↓SB0,SX,seval,hQ,dB hz]
 ·have hs:r.sz<2^40:=by omega
  have hS:=ahz r p q (by omega) (by omega) (by omega)
  have hI:=ahA r p q (by omega) (by omega) (by omega)
  have hs':=ahD r p q (by omega)
  have c1:=ahC r
  have c2:=ahC (dC r p q).1
  have g0:decide (1+((r.cntT:Nat):Int)<0)=false:=decide_eq_false (by omega)
  have g1:decide (1+(((dC r p q).1.cntT:Nat):Int)<0)=false:=decide_eq_false (by omega)
  generalize (dC r p q).1=D at *
  generalize (dC r p q).2=E at *
  have hs2:D.sz<2^40:=by omega
  refine cW hmx c6 [(54,[.p,.b],[])] 262095 [] ⟨Nat.le_of_ble_eq_true rfl,Nat.le_of_ble_eq_true rfl⟩ rfl rfl ?_
  intro w hP hQ
  unfold b8
  simp +decide (maxSteps:=9^9) (disch:=omega) only[↓SB0,SX,seval,hQ]
  simp +decide (maxSteps:=9^9) (disch:=omega) only[↓SB0,SX,seval,hQ,hb',hc']
  (first|refine cI hP (wU r 1048576 hf (by omega) (by omega)) rfl rfl ?_|refine cH hP (wU r 1048576 hf (by omega) (by omega)) rfl rfl ?_)
  simp +decide (maxSteps:=9^9) (disch:=omega) only[↓SB0,SX,seval,hQ,fM hz]
  (first | with_reducible refine bA _ ?_ ?_ | refine bB _ ?_ ?_) <;> intro h
  ·exfalso; omega
  simp +decide (maxSteps:=9^9) (disch:=omega) only[↓SB0,SX,seval,hQ]
  (first|refine cI hP (jZ r hs) rfl rfl ?_|refine cH hP (jZ r hs) rfl rfl ?_)
  simp +decide (maxSteps:=9^9) (disch:=omega) only[↓SB0,SX,seval,hQ]
  (first|refine cI hP (hS) rfl rfl ?_|refine cH hP (hS) rfl rfl ?_)
  simp +decide (maxSteps:=9^9) (disch:=omega) only[↓SB0,SX,seval,hQ]
  (first|refine cI hP (jZ r hs) rfl rfl ?_|refine cH hP (jZ r hs) rfl rfl ?_)
  simp +decide (maxSteps:=9^9) (disch:=omega) only[↓SB0,SX,seval,hQ]
  (first|refine cI hP (hI) rfl rfl ?_|refine cH hP (hI) rfl rfl ?_)
  simp +decide (maxSteps:=9^9) (disch:=omega) only[↓SB0,SX,seval,hQ]
  (first|refine cI hP (dV D hs2) rfl rfl ?_|refine cH hP (dV D hs2) rfl rfl ?_)
  simp +decide (maxSteps:=9^9) (disch:=omega) only[↓SB0,SX,seval,hQ]
  (first|refine cI hP (jZ r hs) rfl rfl ?_|refine cH hP (jZ r hs) rfl rfl ?_)
  simp +decide (maxSteps:=9^9) (disch:=omega) only[↓SB0,SX,seval,hQ]
  (first|refine cI hP (dV r hs) rfl rfl ?_|refine cH hP (dV r hs) rfl rfl ?_)
  simp +decide (maxSteps:=9^9) (disch:=omega) only[↓SB0,SX,seval,hQ]
  (first|refine cI hP (mU r 1 (by omega) (by omega)) rfl rfl ?_|refine cH hP (mU r 1 (by omega) (by omega)) rfl rfl ?_)
  simp +decide (maxSteps:=9^9) (disch:=omega) only[↓SB0,SX,seval,hQ,g0]
  (first|refine cI hP (dV D hs2) rfl rfl ?_|refine cH hP (dV D hs2) rfl rfl ?_)
  simp +decide (maxSteps:=9^9) (disch:=omega) only[↓SB0,SX,seval,hQ]
  (first|refine cI hP (mU D 1 (by omega) (by omega)) rfl rfl ?_|refine cH hP (mU D 1 (by omega) (by omega)) rfl rfl ?_)
  simp +decide (maxSteps:=9^9) (disch:=omega) only[↓SB0,SX,seval,hQ]
  (first|refine cI hP (mV D 1 (by omega) (by omega)) rfl rfl ?_|refine cH hP (mV D 1 (by omega) (by omega)) rfl rfl ?_)
  simp +decide (maxSteps:=9^9) (disch:=omega) only[↓SB0,SX,seval,hQ,g1]
  (first|refine cI hP (jZ r hs) rfl rfl ?_|refine cH hP (jZ r hs) rfl rfl ?_)
  simp +decide (maxSteps:=9^9) (disch:=omega) only[↓SB0,SX,seval,hQ]
  (first|refine cI hP (hI) rfl rfl ?_|refine cH hP (hI) rfl rfl ?_)
  simp +decide (maxSteps:=9^9) (disch:=omega) only[↓SB0,SX,seval,hQ]
  (first|refine cI hP (dV D hs2) rfl rfl ?_|refine cH hP (dV D hs2) rfl rfl ?_)
  simp +decide (maxSteps:=9^9) (disch:=omega) only[↓SB0,SX,seval,hQ]
  (first|refine cI hP (mV D 1 (by omega) (by omega)) rfl rfl ?_|refine cH hP (mV D 1 (by omega) (by omega)) rfl rfl ?_)
  simp +decide (maxSteps:=9^9) (disch:=omega) only[↓SB0,SX,seval,hQ,g1]
end
section
open Go.Proofs
theorem Shp.nil_inv {ts:List TV} (h:Shp [] ts):ts=[]:=by cases h; rfl
theorem Shp.bool_inv {ys:List Ty} {ts:List TV} (h:Shp (.bool::ys) ts):∃ b us,ts=.bool b::us∧Shp ys us:=by cases h with | bool b _ us h=>exact ⟨b,us,rfl,h⟩
theorem Shp.int_inv {k:IntKind} {ys:List Ty} {ts:List TV} (h:Shp (.int k::ys) ts):∃ n us,ts=.int k n::us∧Shp ys us:=by cases h with | int _ n _ us _ h=>exact ⟨n,us,rfl,h⟩
theorem Shp.str_inv {ys:List Ty} {ts:List TV} (h:Shp (.str::ys) ts):∃ s us,ts=.str s::us∧s.length≤2^47∧Shp ys us:=by cases h with | str s _ us hs h=>exact ⟨s,us,rfl,hs,h⟩
theorem Shp.sl_inv {s:Nat} {e ys:List Ty} {ts:List TV} (h:Shp (.sl s e::ys) ts):∃ es us,ts=.sl s es::us∧es.length≤2^47∧(∀ r ∈ es,Shp e r)∧Shp ys us:=by
 cases h with | sl _ _ es _ us hl he h=>exact ⟨es,us,rfl,hl,he,h⟩
theorem fW {α:Type} {sh:List Ty} {row:α→List TV} {good:α→Prop} (H:∀ ts,Shp sh ts→∃ x,ts=row x∧good x):∀ {es:List (List TV)},(∀ r ∈ es,Shp sh r)→∃ l:List α,es=l.map row∧∀ x ∈ l,good x:=by
 intro es
 induction es with
 | nil=>intro _; exact ⟨[],rfl,by simp⟩
 | cons r es ih=>
  intro h
  obtain ⟨x,rfl,hx⟩:=H r (h r (by simp))
  obtain ⟨l,rfl,hl⟩:=ih fun r hr=>h r (by simp [hr])
  exact ⟨x::l,rfl,fun y hy=>by rcases List.mem_cons.1 hy with rfl | hy; exact hx; exact hl y hy⟩
theorem aeT (ts:List TV) (h:Shp [.int .u8] ts):∃ x:UInt8,ts=nJ x∧True:=by
 cases h with
 | int _ n _ us hn h=>
  cases h
  obtain ⟨h1,h2⟩:=bounds_u8 hn
  refine ⟨UInt8.ofNat n.toNat,?_,trivial⟩
  have:(UInt8.ofNat n.toNat).toNat=n.toNat:=by simp; omega
  simp only [nJ,this]
  congr 2
  omega
theorem sP {es:List (List TV)} (h:∀ r ∈ es,Shp [.int .u8] r):∃ b:aB,es=aL b:=by
 obtain ⟨l,rfl,_⟩:=fW aeT h
 exact ⟨l,rfl⟩
theorem kE {s:aB} (h:s.length≤2^47):s.length<2^48:=Nat.lt_of_le_of_lt h (by decide)
theorem ahE {b:aB} (h:(aL b).length≤2^47):b.length<2^48:=Nat.lt_of_le_of_lt (by simpa [aL] using h) (by decide)
theorem sQ {α β:Type} {f:α→β} {l:List α} (h:(l.map f).length≤2^47):l.length<2^48:=Nat.lt_of_le_of_lt (by simpa using h) (by decide)
def Ent.shape:List Ty:=[.str,.int .i64]
theorem Ent.ofShp (ts:List TV) (h:Shp Ent.shape ts):∃ x:Ent,ts=x.row∧x.fine:=by
 obtain ⟨v_name,u0,rfl,lv_name,h1⟩:=Shp.str_inv h
 obtain ⟨v_ino,u1,rfl,h2⟩:=Shp.int_inv h1
 obtain rfl:=Shp.nil_inv h2
 exact ⟨{ name:=v_name,ino:=v_ino },rfl,kE lv_name⟩
def Attr.shape:List Ty:=[.str,.str]
theorem Attr.ofShp (ts:List TV) (h:Shp Attr.shape ts):∃ x:Attr,ts=x.row∧x.fine:=by
 obtain ⟨v_name,u0,rfl,lv_name,h1⟩:=Shp.str_inv h
 obtain ⟨v_val,u1,rfl,lv_val,h2⟩:=Shp.str_inv h1
 obtain rfl:=Shp.nil_inv h2
 exact ⟨{ name:=v_name,val:=v_val },rfl,⟨kE lv_name,kE lv_val⟩⟩
def Inode.shape:List Ty:=[.int .i64,.int .i64,.int .i64,.sl 1 [.int .u8],.sl 2 Ent.shape,.sl 2 Attr.shape]
theorem Inode.ofShp (ts:List TV) (h:Shp Inode.shape ts):∃ x:Inode,ts=x.row∧x.fine:=by
 obtain ⟨v_ino,u0,rfl,h1⟩:=Shp.int_inv h
 obtain ⟨v_kind,u1,rfl,h2⟩:=Shp.int_inv h1
 obtain ⟨v_links,u2,rfl,h3⟩:=Shp.int_inv h2
 obtain ⟨r3,u3,rfl,lv_data,e3,h4⟩:=Shp.sl_inv h3
 obtain ⟨v_data,rfl⟩:=sP e3
 obtain ⟨r4,u4,rfl,lv_ents,e4,h5⟩:=Shp.sl_inv h4
 obtain ⟨v_ents,rfl,gv_ents⟩:=fW Ent.ofShp e4
 obtain ⟨r5,u5,rfl,lv_attrs,e5,h6⟩:=Shp.sl_inv h5
 obtain ⟨v_attrs,rfl,gv_attrs⟩:=fW Attr.ofShp e5
 obtain rfl:=Shp.nil_inv h6
 exact ⟨{ ino:=v_ino,kind:=v_kind,links:=v_links,data:=v_data,ents:=v_ents,attrs:=v_attrs },rfl,⟨ahE lv_data,⟨sQ lv_ents,gv_ents⟩,⟨sQ lv_attrs,gv_attrs⟩⟩⟩
def Tab.shape:List Ty:=[.sl 6 Inode.shape,.int .i64]
theorem Tab.ofShp (ts:List TV) (h:Shp Tab.shape ts):∃ x:Tab,ts=x.row∧x.fine:=by
 obtain ⟨r0,u0,rfl,lv_inodes,e0,h1⟩:=Shp.sl_inv h
 obtain ⟨v_inodes,rfl,gv_inodes⟩:=fW Inode.ofShp e0
 obtain ⟨v_next,u1,rfl,h2⟩:=Shp.int_inv h1
 obtain rfl:=Shp.nil_inv h2
 exact ⟨{ inodes:=v_inodes,next:=v_next },rfl,⟨sQ lv_inodes,gv_inodes⟩⟩
def Vol.shape:List Ty:=[.int .i64,.str,.bool,.int .i64,.sl 6 Inode.shape,.int .i64]
theorem Vol.ofShp (ts:List TV) (h:Shp Vol.shape ts):∃ x:Vol,ts=x.row∧x.fine:=by
 obtain ⟨v_id,u0,rfl,h1⟩:=Shp.int_inv h
 obtain ⟨v_name,u1,rfl,lv_name,h2⟩:=Shp.str_inv h1
 obtain ⟨v_ro,u2,rfl,h3⟩:=Shp.bool_inv h2
 obtain ⟨v_limit,u3,rfl,h4⟩:=Shp.int_inv h3
 obtain ⟨r4,u4,rfl,lv_t_inodes,e4,h5⟩:=Shp.sl_inv h4
 obtain ⟨v_t_inodes,rfl,gv_t_inodes⟩:=fW Inode.ofShp e4
 obtain ⟨v_t_next,u5,rfl,h6⟩:=Shp.int_inv h5
 obtain rfl:=Shp.nil_inv h6
 exact ⟨{ id:=v_id,name:=v_name,ro:=v_ro,limit:=v_limit,t:={ inodes:=v_t_inodes,next:=v_t_next } },rfl,⟨kE lv_name,⟨sQ lv_t_inodes,gv_t_inodes⟩⟩⟩
def Fs.shape:List Ty:=[.sl 6 Vol.shape,.int .i64]
theorem Fs.ofShp (ts:List TV) (h:Shp Fs.shape ts):∃ x:Fs,ts=x.row∧x.fine:=by
 obtain ⟨r0,u0,rfl,lv_vols,e0,h1⟩:=Shp.sl_inv h
 obtain ⟨v_vols,rfl,gv_vols⟩:=fW Vol.ofShp e0
 obtain ⟨v_next,u1,rfl,h2⟩:=Shp.int_inv h1
 obtain rfl:=Shp.nil_inv h2
 exact ⟨{ vols:=v_vols,next:=v_next },rfl,⟨sQ lv_vols,gv_vols⟩⟩
def Op.shape:List Ty:=[.int .i64,.int .i64,.str,.str,.int .i64,.sl 1 [.int .u8]]
theorem Op.ofShp (ts:List TV) (h:Shp Op.shape ts):∃ x:Op,ts=x.row∧x.fine:=by
 obtain ⟨v_kind,u0,rfl,h1⟩:=Shp.int_inv h
 obtain ⟨v_vol,u1,rfl,h2⟩:=Shp.int_inv h1
 obtain ⟨v_path,u2,rfl,lv_path,h3⟩:=Shp.str_inv h2
 obtain ⟨v_to',u3,rfl,lv_to',h4⟩:=Shp.str_inv h3
 obtain ⟨v_off,u4,rfl,h5⟩:=Shp.int_inv h4
 obtain ⟨r5,u5,rfl,lv_data,e5,h6⟩:=Shp.sl_inv h5
 obtain ⟨v_data,rfl⟩:=sP e5
 obtain rfl:=Shp.nil_inv h6
 exact ⟨{ kind:=v_kind,vol:=v_vol,path:=v_path,to':=v_to',off:=v_off,data:=v_data },rfl,⟨kE lv_path,kE lv_to',ahE lv_data⟩⟩
end
section
open Go.Proofs Go.Proofs.YtnfngemnghiehaaGreatDoor
open Nat (reduceEqDiff reduceAdd reduceMul reduceSub)
open Int (reduceNeg reduceToNat reducePow)
theorem own:ownKnob Tryz.prog.godebug=none:=by kernel_rfl
def ajU:List Char:=[Char.ofNat 97,Char.ofNat 116,Char.ofNat 32,Char.ofNat 108,Char.ofNat 111,Char.ofNat 111,Char.ofNat 112,Char.ofNat 46,Char.ofNat 101,Char.ofNat 120,Char.ofNat 97,Char.ofNat 109,Char.ofNat 112,Char.ofNat 108,Char.ofNat 101,Char.ofNat 47,Char.ofNat 103,Char.ofNat 48,Char.ofNat 48,Char.ofNat 50,Char.ofNat 56,Char.ofNat 53,Char.ofNat 47,Char.ofNat 108,Char.ofNat 97,Char.ofNat 119,Char.ofNat 115,Char.ofNat 46,Char.ofNat 70,Char.ofNat 110,Char.ofNat 82,Char.ofNat 111,Char.ofNat 111,Char.ofNat 116,Char.ofNat 83,Char.ofNat 116,Char.ofNat 97,Char.ofNat 121,Char.ofNat 115,Char.ofNat 32,Char.ofNat 108,Char.ofNat 111,Char.ofNat 111,Char.ofNat 112,Char.ofNat 46,Char.ofNat 101,Char.ofNat 120,Char.ofNat 97,Char.ofNat 109,Char.ofNat 112,Char.ofNat 108,Char.ofNat 101,Char.ofNat 47,Char.ofNat 103,Char.ofNat 48,Char.ofNat 48,Char.ofNat 50,Char.ofNat 56,Char.ofNat 53,Char.ofNat 47]++[Char.ofNat 108,Char.ofNat 97,Char.ofNat 119,Char.ofNat 115,Char.ofNat 46,Char.ofNat 70,Char.ofNat 110,Char.ofNat 85,Char.ofNat 110,Char.ofNat 108,Char.ofNat 105,Char.ofNat 110,Char.ofNat 107,Char.ofNat 101,Char.ofNat 100,Char.ofNat 32,Char.ofNat 108,Char.ofNat 111,Char.ofNat 111,Char.ofNat 112,Char.ofNat 46,Char.ofNat 101,Char.ofNat 120,Char.ofNat 97,Char.ofNat 109,Char.ofNat 112,Char.ofNat 108,Char.ofNat 101,Char.ofNat 47,Char.ofNat 103,Char.ofNat 48,Char.ofNat 48,Char.ofNat 50,Char.ofNat 56,Char.ofNat 53,Char.ofNat 47,Char.ofNat 108,Char.ofNat 97,Char.ofNat 119,Char.ofNat 115,Char.ofNat 46,Char.ofNat 70,Char.ofNat 110,Char.ofNat 82,Char.ofNat 101,Char.ofNat 109,Char.ofNat 111,Char.ofNat 118,Char.ofNat 101,Char.ofNat 100,Char.ofNat 32,Char.ofNat 108,Char.ofNat 111,Char.ofNat 111,Char.ofNat 112,Char.ofNat 46,Char.ofNat 101,Char.ofNat 120,Char.ofNat 97,Char.ofNat 109]++[Char.ofNat 112,Char.ofNat 108,Char.ofNat 101,Char.ofNat 47,Char.ofNat 103,Char.ofNat 48,Char.ofNat 48,Char.ofNat 50,Char.ofNat 56,Char.ofNat 53,Char.ofNat 47,Char.ofNat 108,Char.ofNat 97,Char.ofNat 119,Char.ofNat 115,Char.ofNat 46,Char.ofNat 70,Char.ofNat 110,Char.ofNat 77,Char.ofNat 97,Char.ofNat 100,Char.ofNat 101,Char.ofNat 32,Char.ofNat 108,Char.ofNat 111,Char.ofNat 111,Char.ofNat 112,Char.ofNat 46,Char.ofNat 101,Char.ofNat 120,Char.ofNat 97,Char.ofNat 109,Char.ofNat 112,Char.ofNat 108,Char.ofNat 101,Char.ofNat 47,Char.ofNat 103,Char.ofNat 48,Char.ofNat 48,Char.ofNat 50,Char.ofNat 56,Char.ofNat 53,Char.ofNat 47,Char.ofNat 108,Char.ofNat 97,Char.ofNat 119,Char.ofNat 115,Char.ofNat 46,Char.ofNat 70,Char.ofNat 110,Char.ofNat 68,Char.ofNat 105,Char.ofNat 114,Char.ofNat 115,Char.ofNat 32,Char.ofNat 108,Char.ofNat 111,Char.ofNat 111,Char.ofNat 112,Char.ofNat 46]++[Char.ofNat 101,Char.ofNat 120,Char.ofNat 97,Char.ofNat 109,Char.ofNat 112,Char.ofNat 108,Char.ofNat 101,Char.ofNat 47,Char.ofNat 103,Char.ofNat 48,Char.ofNat 48,Char.ofNat 50,Char.ofNat 56,Char.ofNat 53,Char.ofNat 47,Char.ofNat 108,Char.ofNat 97,Char.ofNat 119,Char.ofNat 115,Char.ofNat 46,Char.ofNat 70,Char.ofNat 110,Char.ofNat 76,Char.ofNat 105,Char.ofNat 110,Char.ofNat 107,Char.ofNat 101,Char.ofNat 100,Char.ofNat 32,Char.ofNat 108,Char.ofNat 111,Char.ofNat 111,Char.ofNat 112,Char.ofNat 46,Char.ofNat 101,Char.ofNat 120,Char.ofNat 97,Char.ofNat 109,Char.ofNat 112,Char.ofNat 108,Char.ofNat 101,Char.ofNat 47,Char.ofNat 103,Char.ofNat 48,Char.ofNat 48,Char.ofNat 50,Char.ofNat 56,Char.ofNat 53,Char.ofNat 47,Char.ofNat 108,Char.ofNat 97,Char.ofNat 119,Char.ofNat 115,Char.ofNat 46,Char.ofNat 70,Char.ofNat 110,Char.ofNat 77,Char.ofNat 111,Char.ofNat 118,Char.ofNat 101]++[Char.ofNat 100,Char.ofNat 32,Char.ofNat 108,Char.ofNat 111,Char.ofNat 111,Char.ofNat 112,Char.ofNat 46,Char.ofNat 101,Char.ofNat 120,Char.ofNat 97,Char.ofNat 109,Char.ofNat 112,Char.ofNat 108,Char.ofNat 101,Char.ofNat 47,Char.ofNat 103,Char.ofNat 48,Char.ofNat 48,Char.ofNat 50,Char.ofNat 56,Char.ofNat 53,Char.ofNat 47,Char.ofNat 108,Char.ofNat 97,Char.ofNat 119,Char.ofNat 115,Char.ofNat 46,Char.ofNat 70,Char.ofNat 110,Char.ofNat 84,Char.ofNat 114,Char.ofNat 101,Char.ofNat 101,Char.ofNat 115,Char.ofNat 66,Char.ofNat 101,Char.ofNat 110,Char.ofNat 116,Char.ofNat 32,Char.ofNat 108,Char.ofNat 111,Char.ofNat 111,Char.ofNat 112,Char.ofNat 46,Char.ofNat 101,Char.ofNat 120,Char.ofNat 97,Char.ofNat 109,Char.ofNat 112,Char.ofNat 108,Char.ofNat 101,Char.ofNat 47,Char.ofNat 103,Char.ofNat 48,Char.ofNat 48,Char.ofNat 50,Char.ofNat 56,Char.ofNat 53,Char.ofNat 47,Char.ofNat 108]++[Char.ofNat 97,Char.ofNat 119,Char.ofNat 115,Char.ofNat 46,Char.ofNat 70,Char.ofNat 110,Char.ofNat 69,Char.ofNat 120,Char.ofNat 97,Char.ofNat 99,Char.ofNat 116,Char.ofNat 82,Char.ofNat 101,Char.ofNat 110,Char.ofNat 97,Char.ofNat 109,Char.ofNat 101]
def amo:List Char:=[Char.ofNat 97,Char.ofNat 52,Char.ofNat 55,Char.ofNat 49,Char.ofNat 52,Char.ofNat 54,Char.ofNat 51,Char.ofNat 49,Char.ofNat 57,Char.ofNat 56,Char.ofNat 100,Char.ofNat 102,Char.ofNat 99,Char.ofNat 99,Char.ofNat 101,Char.ofNat 102,Char.ofNat 100,Char.ofNat 52,Char.ofNat 53,Char.ofNat 52,Char.ofNat 57,Char.ofNat 100,Char.ofNat 50,Char.ofNat 99,Char.ofNat 97,Char.ofNat 51,Char.ofNat 100,Char.ofNat 101,Char.ofNat 97,Char.ofNat 51,Char.ofNat 51,Char.ofNat 99,Char.ofNat 101,Char.ofNat 52,Char.ofNat 48,Char.ofNat 50,Char.ofNat 52,Char.ofNat 102,Char.ofNat 48,Char.ofNat 99,Char.ofNat 97,Char.ofNat 56,Char.ofNat 51,Char.ofNat 49,Char.ofNat 98,Char.ofNat 54,Char.ofNat 51,Char.ofNat 99,Char.ofNat 97,Char.ofNat 53,Char.ofNat 48,Char.ofNat 54,Char.ofNat 101,Char.ofNat 55,Char.ofNat 51,Char.ofNat 54,Char.ofNat 102,Char.ofNat 52,Char.ofNat 55,Char.ofNat 49,Char.ofNat 100,Char.ofNat 101,Char.ofNat 50,Char.ofNat 53]
theorem ajV:Tryz.prog.initOrder=String.ofList ([Char.ofNat 104,Char.ofNat 97,Char.ofNat 114,Char.ofNat 110,Char.ofNat 101,Char.ofNat 115,Char.ofNat 115]++(Char.ofNat 32::amo)++[Char.ofNat 32,Char.ofNat 99,Char.ofNat 117,Char.ofNat 116,Char.ofNat 32]++ajU):=by kernel_rfl
theorem aci:∃ r,behindMainWord (wordsSigns Tryz.prog.initOrder.toList)=[Char.ofNat 99,Char.ofNat 117,Char.ofNat 116]::r:=by
 rw [ajV,String.toList_ofList]
 exact ⟨wordsSigns ajU,by kernel_rfl⟩
theorem ak9 {P:Program} {l:List Char} (h:P.initOrder=String.ofList l):P.mainIs=(match wordsSigns l with
 | h::s::_=>if !isSumSigns s then none else if h == "harness".toList then some (true,s) else if h == "ownmain".toList then some (false,s) else none
 | _=>none):=by
 unfold Program.mainIs
 rw [h,String.toList_ofList]
 rfl
theorem al5:Tryz.prog.mainIs=some (((true, "a471463198dfccefd4549d2ca3dea33ce4024f0ca831b63ca506e736f471de25"):Bool × String).1,((true, "a471463198dfccefd4549d2ca3dea33ce4024f0ca831b63ca506e736f471de25"):Bool × String).2.toList):=(ak9 ajV).trans (by kernel_rfl)
theorem ala:false=Tryz.prog.looks []:=by kernel_rfl
theorem al6:(laidOutB Tryz.prog)=true:=by kernel_rfl
theorem al7:(mapsRowed Tryz.prog)=true:=by kernel_rfl
theorem alb:((Tryz.prog.stops == []))=true:=by kernel_rfl
theorem ald:((Tryz.prog.stopKnobs == []))=true:=by kernel_rfl
theorem ale:(Tryz.prog.stopsHeard)=true:=by kernel_rfl
theorem alf:(Tryz.prog.mayEnter)=true:=by
 obtain ⟨r,hr⟩:=aci
 exact aiJ hr (by kernel_rfl) (by kernel_rfl) (by kernel_rfl)
theorem alg:(false == Tryz.prog.liftsFinal)=true:=by
 obtain ⟨r,hr⟩:=aci
 rw [aiK hr]
 rfl
theorem al8:(Tryz.prog.make == some .cut)=true:=by
 obtain ⟨r,hr⟩:=aci
 rw [akK hr]
 rfl
end
section
open Go.Proofs Go.Proofs.YtnfngemnghiehaaGreatDoor
open Nat (reduceEqDiff reduceAdd reduceMul reduceSub)
open Int (reduceNeg reduceToNat reducePow)
theorem pL:(Rows.fnExactRenameRow.wf (OpenSpec.ofChange Rows.fnExactRenameSpec))=true:=by kernel_rfl
theorem pM:(Tryz.f11.params.all (Tryz.prog.readableRec ·))=true:=by kernel_rfl
theorem pN:(namedTie Tryz.prog Rows.fnExactRenameRow.named Rows.fnExactRenameSpec.vars)=true:=by kernel_rfl
theorem pO:((Rows.fnExactRenameRow.stops == []))=true:=by kernel_rfl
theorem pP:((Rows.fnExactRenameRow.knobs == []))=true:=by kernel_rfl
theorem pQ:((Rows.fnExactRenameRow.inPlace == Tryz.prog.inPlace 11))=true:=by kernel_rfl
theorem nZ:((Rows.fnExactRenameRow.unfollowed == Tryz.prog.unfollowed 11))=true:=by kernel_rfl
theorem n4:((Rows.fnExactRenameRow.recurses == Tryz.prog.recurses 11))=true:=by kernel_rfl
theorem n5:((Rows.fnExactRenameRow.named == Tryz.prog.varsNamed 11))=true:=by kernel_rfl
theorem n6:((Rows.fnExactRenameRow.maps == (Tryz.f11.params.toList++Rows.fnExactRenameSpec.plain.varTypes Tryz.prog).any (Tryz.prog.mapsRec ·)))=true:=by kernel_rfl
theorem n7:((Rows.fnExactRenameRow.ifaces == (Tryz.f11.params.toList++Rows.fnExactRenameSpec.plain.varTypes Tryz.prog).any (Tryz.prog.ifacesRec ·)))=true:=by kernel_rfl
theorem n8:((Rows.fnExactRenameRow.mapsOut == Tryz.prog.mapsAmong Tryz.f11.resultTypes.toList))=true:=by kernel_rfl
theorem n9:((Rows.fnExactRenameRow.loops == (Tryz.f11.params.toList++Rows.fnExactRenameSpec.plain.varTypes Tryz.prog).any (Tryz.prog.loopsFrom ·)))=true:=by kernel_rfl
theorem oA:((Rows.fnExactRenameRow.wideKeys == (Tryz.f11.params.toList++Rows.fnExactRenameSpec.plain.varTypes Tryz.prog++Tryz.f11.resultTypes.toList).any (Tryz.prog.wideKeysFrom ·)))=true:=by kernel_rfl
theorem oB:(Rows.fnExactRenameSpec.vars.all (Tryz.prog.varReadable ·))=true:=by kernel_rfl
theorem oC:(Tryz.f11.resultTypes.all (fun t=>Tryz.prog.readableRec t && decide (t<Tryz.prog.types.size)))=true:=by kernel_rfl
theorem oD:((Rows.fnExactRenameRow.ifacesOut == Tryz.f11.resultTypes.toList.any (Tryz.prog.ifacesRec ·)))=true:=by kernel_rfl
theorem oE:((Rows.fnExactRenameRow.loopsOut == Tryz.f11.resultTypes.toList.any (Tryz.prog.loopsFrom ·)))=true:=by kernel_rfl
theorem oF:((Rows.fnExactRenameRow.plainKeys == Tryz.prog.plainKeys))=true:=by kernel_rfl
theorem oG:(Rows.fnExactRenameRow.shortTexts.isNone)=true:=by kernel_rfl
theorem oH:((Rows.fnExactRenameRow.kinds == (if Rows.fnExactRenameRow.domain.isEmpty then [] else Tryz.f11.params.toList.map fun t=>match Tryz.prog.underlying t with | some (.int k)=>some k | _=>none)))=true:=by kernel_rfl
theorem oI:((Rows.fnExactRenameRow.pinned == Rows.fnExactRenameRow.pinnedBy))=true:=by kernel_rfl
theorem oJ:((Rows.fnExactRenameRow.veiled == (Tryz.f11.params.toList++Rows.fnExactRenameSpec.plain.varTypes Tryz.prog++Tryz.f11.resultTypes.toList).any (Tryz.prog.veiledRec ·)))=true:=by kernel_rfl
theorem oK:(Rows.fnExactRenameRow.veiledFits Tryz.prog Tryz.f11.params.toList (Tryz.f11.params.toList++Rows.fnExactRenameSpec.plain.varTypes Tryz.prog++Tryz.f11.resultTypes.toList))=true:=by kernel_rfl
theorem pR:joinedFacts Tryz.prog 11 Tryz.f11 Rows.fnExactRenameSpec Rows.fnExactRenameRow=true:=
 agl pL al6 al7 pM pN pO alb pP ald pQ nZ n4 n5 n6 n7 n8 n9 oA oB oC oD oE oF oG ale alf alg al8 oH oI oJ oK
theorem m4 (os:Os) (started:os.Started) (H:Type) (enc:TypeId × Value→H) :
  ReturnsInHanded {} Tryz.checked os 11 .any (fun w args=>(Rows.fnExactRenameSpec.pre enc Tryz.prog Tryz.f11 [] false w args∧laidMetH Tryz.prog Rows.fnExactRenameRow.laid w)∧sizedMet enc Tryz.prog Tryz.f11 (OpenSpec.ofChange Rows.fnExactRenameSpec) false w args) (Rows.fnExactRenameSpec.post enc Tryz.prog Tryz.f11 false true false false):=by
 refine law_laid (X:=fun w _=>laidMetH Tryz.prog Rows.fnExactRenameRow.laid w) (fun _ _ _ hh h=>h.of_heap hh) (C:=Tryz.checked) (pars:=[(true,Tab.shape),(false,[.str]),(false,[.str])]) own started (by kernel_rfl) Tryz.func11
  (ChangeSpec.witness_shaped (enc:=enc) (C:=Tryz.checked) (os:=os) (X:=fun w _=>laidMetH Tryz.prog Rows.fnExactRenameRow.laid w) false (World.laidAll Tryz.prog os Rows.fnExactRenameRow.laid) #[.agg #[.slice none 0 0,.int .i64 0],.string ⟨#[]⟩,.string ⟨#[]⟩] 8 (World.laidAll_os _ _ _) (World.shaped_of_RefB (by kernel_rfl) (by kernel_rfl)) (by kernel_rfl) (by kernel_rfl) (by kernel_rfl) (aiL _ (by kernel_rfl) (by kernel_rfl) (by kernel_rfl)))
  rfl (by kernel_rfl) rfl (by kernel_rfl) ?_ ?_
 ·intro ds hd
  match ds,hd with
  | [d0,d1,d2],_=>rfl
 ·intro tss h
  match tss,h with
  | [t0,t1,t2],⟨h0,h1,h2,_⟩=>
   obtain ⟨x0,rfl,hf0⟩:=Tab.ofShp t0 h0
   obtain ⟨x1,u1,rfl,l1,e1⟩:=Shp.str_inv h1
   obtain rfl:=Shp.nil_inv e1
   obtain ⟨x2,u2,rfl,l2,e2⟩:=Shp.str_inv h2
   obtain rfl:=Shp.nil_inv e2
   exact ⟨_,sO x0 x1 x2 hf0 (kE l1) (kE l2)⟩
theorem pS:Tryz.f11.isWrapper Tryz.prog Rows.fnExactRenameRow.wrapper Rows.fnExactRenameRow.mainSum:=by
 unfold Func.isWrapper; first | (rw [if_pos (by decide +kernel)]; kernel_rfl) | (rw [if_neg (by decide +kernel)]; exact ⟨rfl,rfl⟩)
theorem law_FnExactRename:Rows.FnExactRenameSaid:=
 OpenClaim.holds_of_wide 11 Tryz.f11 rfl rfl rfl rfl rfl rfl rfl ⟨rfl,rfl,rfl,rfl,rfl⟩ rfl rfl rfl rfl rfl (by kernel_rfl) Tryz.func11 pR
  (of_decide_eq_true (by kernel_rfl)) pS
  (fun os started H enc _=>m4 os started H enc)
theorem pT:Rows.fnExactRenameRow.wfByText (OpenSpec.ofChange Rows.fnExactRenameSpec)=true:=by kernel_rfl
theorem k2_FnExactRename:Tryz.prog.funcNamed "loop.example/g00285/laws.FnExactRename"=some 11:=by kernel_rfl
theorem pU:(Tryz.f11.params.toList.all fun u=>!Tryz.prog.wantsStandIn u)=true:=by kernel_rfl
theorem pV:false=Rows.fnExactRenameRow.goesBy Tryz.prog:=by kernel_rfl
theorem card_FnExactRename:Rows.FnExactRenameCardSaid:=
 Claim7.holds_tied_plain_at .later [] [.data,.pinned] true (true, "a471463198dfccefd4549d2ca3dea33ce4024f0ca831b63ca506e736f471de25") false
  law_FnExactRename (fun _ h=>by cases h) pT (fun _ h=>by cases h) fnExactRename_row_tie rfl ⟨rfl,rfl⟩ al5 rfl
  (fun f fn hf hfn=>by
   obtain rfl:f=11:=Option.some.inj (k2_FnExactRename.symm.trans hf) |>.symm
   obtain rfl:fn=Tryz.f11:=(Option.some.inj (Tryz.func11.symm.trans hfn)).symm
   exact ⟨ala,fun j t ht=>by
    have:=List.all_eq_true.1 pU t (by simpa using Array.mem_of_getElem? ht)
    exact show Tryz.prog.wantsStandIn t=false by simpa using this⟩)
  pV
end
end Go.Proofs.YtnfngemnghiehaaGreatDoor.Awp

namespace Go.Proofs.YtnfngemnghiehaaGreatDoor
/-- the given statement -/
theorem provedFnExactRename : Rows.FnExactRenameCardSaid := Awp.card_FnExactRename
end Go.Proofs.YtnfngemnghiehaaGreatDoor
#print axioms Go.Proofs.YtnfngemnghiehaaGreatDoor.provedFnExactRename
