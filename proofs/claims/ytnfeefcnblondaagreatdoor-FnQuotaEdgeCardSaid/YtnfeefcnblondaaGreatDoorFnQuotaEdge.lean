/- The law FnQuotaEdge (a volume may use just what it may; one byte more is refused) holds for every argument: the given statement is proved. Condition: none. -/
import Derived.Test.YtnfeefcnblondaaGreatDoorBase2
import Derived.Test.YtnfeefcnblondaaGreatDoorAwp3
import Derived.Test.YtnfeefcnblondaaGreatDoorRows
import Derived.Test.YtnfeefcnblondaaGreatDoorCards
import Derived.Test.YtnfeefcnblondaaGreatDoorTie
import Derived.Sort.Walk0
import Derived.Shelf.Lays
import Derived.Shelf.Sort.Plain
import Derived.Shelf.Slices.In.SortNone
import Derived.Shelf.Spec.SlicesInsert
import Derived.Shelf.Spec.SlicesInsertGrow
import Derived.Deep.MidRow
import Derived.ArgAppend
import Derived.Shelf.Strings.Search3
import Derived.Shelf.Strings.Count
import Derived.Shelf.Strings.OnBuilder
import Derived.Shelf.RegionOpenPlain
import Derived.WalkKit
import Derived.Deep.LoopGhost
import Derived.Deep.RegionLaw
import Derived.Lib.Walk
import Derived.Sort.WalkB12
import Derived.OpenShut
import Derived.SevenTiedAt
import Derived.KernelRfl
set_option linter.unusedVariables false
set_option linter.unusedSimpArgs false
set_option maxRecDepth 100000
set_option maxHeartbeats 20000000
open Nat (reduceEqDiff reduceAdd reduceMul reduceSub)
open Int (reduceNeg reduceToNat reducePow)
namespace Go.Proofs.YtnfeefcnblondaaGreatDoor.Awp
section
namespace W
end W
open I W
def kE:Cmd:=Q (R [e' 2 k0]) (Q (Q (R [a 16 0,c 17 10 [v 16]]) (F (v 17) (Q (R [e' 2 k1]) .ret) .skip)) (Q (R [a 18 0,c 19 38 [v 18,k 2],g 20 .rem (v 19) (k 90),g 21 .add (k 1) (v 20),e 3 21]) (Q (R [c 23 40 [],a 24 3,g 25 .add (k 64) (v 24),c 26 39 [v 23,.c (.str [109,97,105,110]),v 25],a 22 26,x 27 22 0,x 28 22 1,x 29 22 2,z 4 [.sl 6 [],.int .i64 0],s 4 27 2,e 5 28,e 6 29]) (Q (R [b 31 4 2,n 32 (bld 32 [.int .i64 0,.int .i64 0,.str [],.str [],.int .i64 0,.sl 1 []] [(0,1,k 2),(1,1,k 1),(2,1,.c (.str [47,102]))]),c 33 28 [v 31,v 32],a 30 33,x 34 30 0,x 35 30 1,s 4 34 2,e 7 35]) (Q (D [0,0,2,6,15,31,63,127,0,383,1023] [b 37 4 2,a 38 3,n 39 (mks 39 (v 38) (v 38) 1 1 [.int .u8 0]),n 40 (bld 40 [.int .i64 0,.int .i64 0,.str [],.str [],.int .i64 0,.sl 1 []] [(0,1,k 3),(1,1,k 1),(2,1,.c (.str [47,102])),(5,1,v 39)]),c 41 28 [v 37,v 40],a 36 41,x 42 36 0,x 43 36 1,z 8 [.sl 6 [],.int .i64 0],s 8 42 2,e 9 43]) (Q (D [0,0,2,6,14,31,63,127,255,0,767,2047] [b 45 4 2,a 46 3,g 47 .add (v 46) (k 1),n 48 (mks 48 (v 47) (v 47) 1 1 [.int .u8 0]),n 49 (bld 49 [.int .i64 0,.int .i64 0,.str [],.str [],.int .i64 0,.sl 1 []] [(0,1,k 3),(1,1,k 1),(2,1,.c (.str [47,102])),(5,1,v 48)]),c 50 28 [v 45,v 49],a 44 50,x 51 44 0,x 52 44 1,z 10 [.sl 6 [],.int .i64 0],s 10 51 2,e 11 52]) (Q (R [b 54 8 2,n 55 (bld 55 [.int .i64 0,.int .i64 0,.str [],.str [],.int .i64 0,.sl 1 []] [(0,1,k 2),(1,1,k 1),(2,1,.c (.str [47,103]))]),c 56 28 [v 54,v 55],a 53 56,x 57 53 0,x 58 53 1,z 12 [.sl 6 [],.int .i64 0],s 12 57 2,e 13 58]) (Q (R [b 60 8 2,a 61 3,g 62 .add (k 63) (v 61),c 63 41 [v 60,k 1,v 62],a 59 63,x 64 59 0,x 65 59 1,z 14 [.sl 6 [],.int .i64 0],s 14 64 2,e 15 65]) (Q (R [a 66 6,g 67 .eql (v 66) (k 0),a 68 67,ha 68 true 69 7,h 68 true 70 (bin 70 .eql (v 69) (k 0)),p 71 68 (v 70) k0,a 72 71,ha 72 true 73 9,h 72 true 74 (bin 74 .eql (v 73) (k 0)),p 75 72 (v 74) k0,a 76 75,ha 76 true 77 11,h 76 true 78 (bin 78 .eql (v 77) (k 8)),p 79 76 (v 78) k0,a 80 79,ha 80 true 81 13,h 80 true 82 (bin 82 .eql (v 81) (k 8)),p 83 80 (v 82) k0,a 84 83,ha 84 true 85 15,h 84 true 86 (bin 86 .eql (v 85) (k 8)),p 87 84 (v 86) k0,a 88 87,hb 88 true 89 8 2,hc 88 true 90 42 [v 89,k 1,.c (.str [47,102])],h 88 true 91 (len 91 (v 90)),ha 88 true 92 3,h 88 true 93 (bin 93 .eql (v 91) (v 92)),p 94 88 (v 93) k0,e 2 94]) .ret)))))))))
def hO:Cmd:=Q (R [n 3 (box 3 (v 0)),z 6 [.sl 6 [],.int .i64 0],e' 7 (k 0)]) (Q (R [b 9 3 2,c 10 90 [v 9],s 3 10 2]) (Q (Q (R [b 11 3 2,c 12 37 [v 11],n 13 (un 13 .not (v 12)),a 14 13,ha 14 false 15 2,hc 14 false 16 101 [v 15],h 14 false 17 (un 17 .not (v 16)),p 18 14 k1 (v 17)]) (F (v 18) (Q (R [b 19 3 2,s 6 19 2,e' 7 (k 1)]) .ret) .skip)) (Q (R [b 20 3 2,a 21 1,c 22 46 [v 20,v 21],e 8 22]) (Q (.blk 0 (Q (R [a 24 8,g 25 .lss (v 24) (k 0),e 23 25]) (F (v 23) (Q (R [b 26 3 2,s 6 26 2,e' 7 (k 2)]) .ret) (Q (R [f 28 3 0,b' 29 28 1,a 30 8,i 31 29 30 6,f 32 31 4,b 33 32 2,c 34 16 [v 33],a 35 2,g 36 .gtr (v 34) (v 35),e 27 36]) (F (v 27) (Q (R [b 37 3 2,s 6 37 2,e' 7 (k 8)]) .ret) .skip))))) (Q (R [f 38 3 0,b' 39 38 1,a 40 8,a 41 2,i 42 39 40 6,f 43 42 3,s 43 41 1]) (Q (R [b 44 3 2,s 6 44 2,e' 7 (k 0)]) .ret))))))
def am7:Cmd:=Q (R [n 3 (box 3 (v 0)),e' 6 (.c (.own 1 []))]) (Q (R [b 10 3 2,a 11 1,c 12 46 [v 10,v 11],e 7 12]) (Q (Q (R [a 13 7,g 14 .lss (v 13) (k 0),a 15 14,ha 15 false 16 7,h 15 false 17 (fld 17 (v 3) 0),h 15 false 18 (ld 18 (v 17) 1 false),h 15 false 19 (len 19 (v 18)),h 15 false 20 (bin 20 .geq (v 16) (v 19)),p 21 15 k1 (v 20)]) (F (v 21) (Q (R [o 22 1 [],e 6 22]) .ret) .skip)) (Q (R [f 24 3 0,b' 25 24 1,a 26 7,i 27 25 26 6,f 28 27 4,b 29 28 2,a 30 2,c 31 104 [v 29,v 30,k 0,k 1000],a 23 31,x 32 23 0,x 33 23 1,e 8 32,e 9 33]) (Q (R [a 34 8,e 6 34]) .ret))))
def fS:Cmd:=Q (R [n 4 (box 4 (v 0)),e' 8 (.c (.own 1 [])),e' 9 (k 0)]) (Q (Q (R [a 13 2,g 14 .lss (v 13) (k 0),a 15 14,ha 15 false 16 3,h 15 false 17 (bin 17 .lss (v 16) (k 0)),p 18 15 k1 (v 17)]) (F (v 18) (Q (R [e' 8 (.c (.own 1 [])),e' 9 (k 1)]) .ret) .skip)) (Q (R [b 20 4 2,a 21 1,c 22 61 [v 20,v 21],a 19 22,x 23 19 0,x 24 19 1,z 10 [.int .i64 0,.int .i64 0,.int .i64 0,.sl 1 [],.sl 2 [],.sl 2 []],s 10 23 6,e 11 24]) (Q (Q (R [a 25 11,g 26 .neq (v 25) (k 0)]) (F (v 26) (Q (R [a 27 11,e' 8 (.c (.own 1 [])),e 9 27]) .ret) .skip)) (Q (Q (R [f 28 10 1,b' 29 28 1,g 30 .neq (v 29) (k 1)]) (F (v 30) (Q (R [e' 8 (.c (.own 1 [])),e' 9 (k 3)]) .ret) .skip)) (Q (R [f 31 10 3,b' 32 31 1,a 33 2,f 34 10 3,b' 35 34 1,l 36 35,n 37 (mn 37 (v 33) (v 36)),n 38 (slc 38 (v 32) (some (v 37)) none 1),e 12 38]) (Q (R [a 39 12,a 40 3,a 41 12,l 42 41,n 43 (mn 43 (v 40) (v 42)),n 44 (slc 44 (v 39) none (some (v 43)) 1),c 45 164 [v 44],e 8 45,e' 9 (k 0)]) .ret))))))
end
theorem kO:aG Tryz.prog 6=some (95,[.t 2],kE):=by kernel_rfl
theorem kN:aG Tryz.prog 41=some (45,[.c 6 2 true,.t 7],hO):=by kernel_rfl
theorem anb:aG Tryz.prog 42=some (35,[.t 6],am7):=by kernel_rfl
theorem kC:aG Tryz.prog 104=some (46,[.t 8,.t 9],fS):=by kernel_rfl
theorem am9 (f:Fs) (i n:Int) (h:f.sz<2^40):bZ Tryz.prog 41 [f.x,.int .i64 i,.int .i64 n] (.tup [(aip f i n).1.o,.int .i64 (aip f i n).2]) [.undef,.undef,.undef]:=by
 obtain ⟨h1,h2⟩:=aly h
 have hV:=aid f i (by omega)
 have hF:=af7 f h
 have hL:=k8 n
 rcases m0 (fsB f) with e1 | e1
 ·rw [e1] at hF
  rw [aip,lH (by simp [e1])]
  refine U kN [] 463 [] fun w hP hQ=>?_
  unfold hO
  refine N ?_
  refine K (d6 f h) ?_
  exact K (hF) trivial
 rw [e1] at hF
 rcases m0 (inR n 32 4000) with e2 | e2
 ·rw [e2] at hL
  rw [aip,lH (by simp [e2])]
  refine U kN [] 463 [] fun w hP hQ=>?_
  unfold hO
  refine N ?_
  refine K (d6 f h) ?_
  refine K (hF) ?_
  exact K (hL) trivial
 rw [e2] at hL
 rw [aip,lE ⟨e1,e2⟩]
 cases e3:mZ f i with
 | none=>
  rw [e3] at hV
  refine U kN [] 463 [] fun w hP hQ=>?_
  unfold hO
  refine N ?_
  refine K (d6 f h) ?_
  refine K (hF) ?_
  refine K (hL) ?_
  exact K (hV) trivial
 | some k=>
  have hk:=aio e3
  rw [e3,show p8 (some k)=(k:Int) from rfl] at hV
  simp only [lJ hk]
  refine U kN [] 463 [] fun w hP hQ=>?_
  unfold hO
  refine N ?_
  refine K (d6 f h) ?_
  refine K (hF) ?_
  refine K (hL) ?_
  refine K (hV) ?_
  (first | with_reducible refine gQ _ ?_ ?_ | refine gR _ ?_ ?_) <;> intro hx
  ·exfalso; omega
  have hz:=(dJ (show ((k:Nat):Int)<(f.vols.length:Nat) by omega))
  refine Nz ?_
  refine K (qA (f.vols[k]'hk).t (h2 _ (lD1 hk))) ?_
  (first | with_reducible refine gQ _ ?_ ?_ | refine gR _ ?_ ?_) <;> intro h5
  ·refine N ?_
   rw [lE (by omega)]
  ·have hz:=(dJ (show ((k:Nat):Int)<(f.vols.length:Nat) by omega))
   refine Nz ?_
   rw [lH (by omega),akn Vol.row _ (amI n) f.vols k hk rfl]
   rfl
section
variable {t:Tab}
def exB:Rs aA→aA
 | .ok b=>b
 | .error _=>[]
end
theorem anh (d:aA) (h:d.length≤100):alE (t2 d) [47,102] 0 1000=.ok d:=by
 have:dE (t2 d) [47,102]=.ok { ino:=2,kind:=1,links:=1,data:=d,ents:=[],attrs:=[] }:=(fH (aku d)).1
 rw [alE,lH (by omega),this]
 simp only
 rw [lE (by decide)]
 show Except.ok ((d.drop 0).take 1000)=_
 rw [List.drop_zero,lD2 (by omega)]
theorem ani (l:Int) (t:Tab) (n:Int):mZ (f1 l t n) 1=some 0:=by rfl
theorem ank (d:aA) (h:d.length≤100):(bT (t2 d) [47,103] 1).2=0:=by
 rw [bT,lE ⟨agz d h,by decide⟩]
 have e:xD (t2 d) [47,103] 0=.ok { ino:=1,kind:=2,links:=0,data:=[],ents:=[⟨[102],2⟩],attrs:=[] }:=by rfl
 rw [e]
 rfl
theorem anj {l:Int} {d:aA} (hl:32≤l∧l≤4000) (hd:d.length≤100) (hu:64+(d.length:Int)≤l) (h:l<96+(d.length:Int)):vB (f1 l (t2 d) 2) (opN 2 1 [47,103] [])=(f1 l (t2 d) 2,8):=by
 show pE (f1 l (t2 d) 2) (opN 2 1 [47,103] [])=_
 rw [pE,lE (amk hl hd hu (by omega))]
 show (if (bT (t2 d) [47,103] 1).2=0 then (if (bC (bT (t2 d) [47,103] 1).1:Int)≤l then (alF (f1 l (t2 d) 2) 0 (bT (t2 d) [47,103] 1).1,0) else (f1 l (t2 d) 2,8)) else (f1 l (t2 d) 2,(bT (t2 d) [47,103] 1).2))=_
 obtain ⟨_,_,_,_,_,_,_,r8⟩:=amL (ank d hd)
 rw [lE (ank d hd),r8,agA,lH (by omega)]
theorem anc {l n:Int} {d:aA} (hl:32≤l∧l≤4000) (hd:d.length≤100) (hu:64+(d.length:Int)≤l) (hn:32≤n∧n≤4000) (h:n<64+(d.length:Int)):aip (f1 l (t2 d) 2) 1 n=(f1 l (t2 d) 2,8):=by
 rw [aip,lE ⟨amk hl hd hu (by omega),(gN _ _ _).2 hn⟩,ani]
 show (if n<(bC (t2 d):Nat) then (f1 l (t2 d) 2,(8:Int)) else (amJ (f1 l (t2 d) 2) 0 n,0))=_
 rw [agA,lE (by omega)]
theorem ane (b:aA) (n:Nat):List.take n (aM b)=aM (b.take n):=by simp [aM,List.map_take]
theorem anf (b:aA) (n:Nat):List.drop n (aM b)=aM (b.drop n):=by simp [aM,List.map_drop]
theorem ana (t:Tab) (s:aA) (o n:Int) (h:t.sz<2^40) (hs:s.length<2^40):bZ Tryz.prog 104 [t.x,.str s,.int .i64 o,.int .i64 n] (.tup [.own 1 (aM (exB (alE t s o n))),.int .i64 (exC (alE t s o n))]) [.undef,.undef,.undef,.undef]:=by
 have hF:=agJ t s h hs
 unfold alE
 by_cases h1:o<0
 ·have h1':decide (o<0)=true:=lT h1
  simp only [lE (show o<0∨n<0 from .inl h1),exB,exC]
  refine U kC [] 7967 [] fun w hP hQ=>?_
  unfold fS
  refine N ?_
  have hz:=h1'
  refine Nz ?_
  all_goals first|exact trivial|rfl|exact ⟨rfl,rfl⟩
 have h1':decide (o<0)=false:=lO h1
 by_cases h2:n<0
 ·have h2':decide (n<0)=true:=lT h2
  simp only [lE (show o<0∨n<0 from .inr h2),exB,exC]
  refine U kC [] 7967 [] fun w hP hQ=>?_
  unfold fS
  refine N ?_
  have hz:=And.intro h1' h2'
  refine Nz ?_
  all_goals first|exact trivial|rfl|exact ⟨rfl,rfl⟩
 have h2':decide (n<0)=false:=lO h2
 simp only [lH (show ¬ (o<0∨n<0) by omega)]
 cases hX:dE t s with
 | error c=>
  have hc:decide (c=0)=false:=lO (tM hX)
  rw [hX] at hF
  simp only [exI,exC,exB] at hF ⊢
  refine U kC [] 7967 [] fun w hP hQ=>?_
  unfold fS
  refine N ?_
  have hz:=And.intro h1' h2'
  refine Nz ?_
  have hz:=hc
  refine Kz (hF) ?_
  all_goals first|exact trivial|rfl|exact ⟨rfl,rfl⟩
 | ok X=>
  rw [hX] at hF
  simp only [exI,exC] at hF
  have zX:=alM h (bJ hX).2
  have zd:=(jH zX).1
  by_cases g1:X.kind=1
  ·have g1':decide (X.kind=1)=true:=lT g1
   simp only [lE g1,exB,exC]
   obtain ⟨k,rfl⟩:=Int.eq_ofNat_of_zero_le (show 0≤o by omega)
   obtain ⟨m,rfl⟩:=Int.eq_ofNat_of_zero_le (show 0≤n by omega)
   simp only [Int.toNat_natCast]
   obtain ⟨a,ha,ha2,aa⟩:∃ a:Nat,(if ((X.data.length:Nat):Int)<(k:Nat) then ((X.data.length:Nat):Int) else (k:Nat))=(a:Nat)∧a≤X.data.length∧X.data.drop a=X.data.drop k:=by
    by_cases g:((X.data.length:Nat):Int)<(k:Nat)
    ·exact ⟨X.data.length,by rw [lE g],lL1 _,by rw [List.drop_length,List.drop_eq_nil_of_le (by omega)]⟩
    ·exact ⟨k,by rw [lH g],by omega,rfl⟩
   have z1:(((X.data.length:Nat):Int)-(a:Nat)).toNat=X.data.length-a:=by omega
   have z2:(X.data.drop a).take (X.data.length-a)=X.data.drop k:=by rw [aa]; exact lD2 (by rw [← aa]; simp)
   have z3:(X.data.drop k).length≤X.data.length:=by simp
   have z4:a+(X.data.length-a)≤X.data.length:=by omega
   have z5:(X.data.drop k).length=X.data.length-a:=by rw [← aa]; simp
   generalize X.data.drop k=Y at *
   have z7:Y.take (X.data.length-a)=Y:=lD2 (by omega)
   obtain ⟨c,hc,hc2,hc3⟩:∃ c:Nat,(if ((Y.length:Nat):Int)<(m:Nat) then ((Y.length:Nat):Int) else (m:Nat))=(c:Nat)∧c≤Y.length∧Y.take c=Y.take m:=by
    by_cases g:((Y.length:Nat):Int)<(m:Nat)
    ·exact ⟨Y.length,by rw [lE g],lL1 _,by rw [lD3,lD2 (by omega)]⟩
    ·exact ⟨m,by rw [lH g],by omega,rfl⟩
   have z8:a+c≤X.data.length:=by omega
   have z6:((c:Nat):Int)≤((X.data.length-a:Nat):Int):=by omega
   have hK:=aih (Y.take m) (by rw [lL]; omega)
   refine U kC [] 7967 [] fun w hP hQ=>?_
   unfold fS
   refine N ?_
   have hz:=And.intro h1' h2'
   refine Nz ?_
   have hz:=And.intro g1' (And.intro ha (And.intro z1 (And.intro z4 (And.intro aa (And.intro z7 (And.intro z6 (And.intro z8 (And.intro lF3 (And.intro anf (And.intro ane (And.intro yQ (And.intro hc (And.intro hc2 (And.intro hc3 (And.intro Int.sub_zero Int.toNat_natCast)))))))))))))))
   refine Kz (hF) ?_
   (first|refine cI hP (hK) rfl rfl ?_|refine cH hP (hK) rfl rfl ?_)
   refine N ?_
   all_goals first|exact trivial|rfl|exact ⟨rfl,rfl⟩
  ·have g1':decide (X.kind=1)=false:=lO g1
   simp only [lH g1,exB,exC]
   refine U kC [] 7967 [] fun w hP hQ=>?_
   unfold fS
   refine N ?_
   have hz:=And.intro h1' h2'
   refine Nz ?_
   have hz:=g1'
   refine Kz (hF) ?_
   all_goals first|exact trivial|rfl|exact ⟨rfl,rfl⟩
theorem ang (f:Fs) (i:Int) (p:aA) (h:f.sz<2^40) (hp:p.length<2^40) {k:Nat} {u:Vol} (e1:mZ f i=some k) (e2:f.vols[k]?=some u):bZ Tryz.prog 42 [f.x,.int .i64 i,.str p] (.own 1 (aM (exB (alE u.t p 0 1000)))) [.undef,.undef,.undef]:=by
 obtain ⟨h1,h2⟩:=aly h
 obtain ⟨hk,hu⟩:=lD.1 e2
 have hk':((k:Nat):Int)<(f.vols.length:Nat):=by omega
 have kV:=aid f i (by omega)
 rw [e1,show p8 (some k)=(k:Int) from rfl] at kV
 have kR:=ana f.vols[k].t p 0 1000 (h2 _ (lD1 hk)) hp
 rw [← hu]
 have g1:decide ((k:Int)<0)=false:=lO (by omega)
 have g2:decide ((f.vols.length:Int)≤(k:Nat))=false:=lO (by omega)
 refine U anb [] 463 [] fun w hP hQ=>?_
 unfold am7
 refine N ?_
 have hz:=And.intro g1 (And.intro g2 (dJ hk'))
 refine Kz (kV) ?_
 exact K (kR) trivial
theorem am8 (b:aA) (hf:b.length<2^48):bZ Tryz.prog 6 [.ext 1 (aM b)] (.bool true) [.undef]:=by
 have hB:=amK b hf
 cases hz:decide ((1048576:Int)<(b.length:Nat)) with
 | true=>
  rw [hz] at hB
  refine U kO [] 43997 [] fun w hP hQ=>?_
  unfold kE
  refine N ?_
  exact K (hB) trivial
 | false=>
  rw [hz] at hB
  obtain ⟨x,hx,ka⟩:=amM b 2 hf (by omega)
  have ka:bZ Tryz.prog 38 [.ext 1 (aM b),.int .i64 2] (.int .i64 x) [.undef,.undef]:=ka
  have et:((x:Int)).tmod 90=((x%90:Nat):Int):=alP x 90
  have hm:x%90<90:=Nat.mod_lt _ (by decide)
  generalize x%90=m at *
  have hD:(List.replicate (m+1) (0:UInt8)).length=m+1:=by simp
  have hE:(List.replicate (m+2) (0:UInt8)).length=m+2:=by simp
  have rD:List.replicate (1+(m:Int)).toNat [TV.int .u8 0]=aM (List.replicate (m+1) 0):=by rw [show (1+(m:Int)).toNat=m+1 by omega]; simp [aM]
  have rE:List.replicate (1+(m:Int)+1).toNat [TV.int .u8 0]=aM (List.replicate (m+2) 0):=by rw [show (1+(m:Int)+1).toNat=m+2 by omega]; simp [aM]
  generalize List.replicate (m+1) (0:UInt8)=D at *
  generalize List.replicate (m+2) (0:UInt8)=E at *
  have k0:bZ Tryz.prog 40 [] fsN.o []:=alX
  have k1:=alC fsN [109,97,105,110] (64+(1+(m:Int))) (by decide) (by decide)
  rw [alK (by omega)] at k1
  have o0:fsB (f1 (64+(1+(m:Int))) tab1 2)=true:=by have:=agv ai8 [109,97,105,110] (64+(1+(m:Int))); rw [alK (by omega)] at this; exact this
  have o1:fsB (f1 (64+(1+(m:Int))) (t2 []) 2)=true:=amk (by omega) (by simp) (by simp; omega) (by omega)
  have o2:fsB (f1 (64+(1+(m:Int))) (t2 D) 2)=true:=amk (by omega) (by omega) (by omega) (by omega)
  have z0:=al0 o0
  have z1:=al0 o1
  have z2:=al0 o2
  have k2:=alQ _ 1 [47,102] (lQ3 z0 (by decide)) (by decide)
  rw [amj (by omega)] at k2
  have k3:=alR _ 1 [47,102] D (lQ3 z1 (by decide)) (by decide) (by omega)
  rw [al1 (by omega) (by simp) (by simp; omega) (by omega) (by omega),aiA,lE (by omega)] at k3
  have k4:=alR _ 1 [47,102] E (lQ3 z1 (by decide)) (by decide) (by omega)
  rw [al1 (by omega) (by simp) (by simp; omega) (by omega) (by omega),aiA,lH (by omega)] at k4
  have k5:=alQ _ 1 [47,103] (lQ3 z2 (by decide)) (by decide)
  rw [anj (by omega) (by omega) (by omega) (by omega)] at k5
  have k6:=am9 _ 1 (63+(1+(m:Int))) (lQ3 z2 (by decide))
  rw [anc (by omega) (by omega) (by omega) (by omega) (by omega)] at k6
  have k7:=ang (f1 (64+(1+(m:Int))) (t2 D) 2) 1 [47,102] (lQ3 z2 (by decide)) (by decide) (ani _ _ _) rfl
  simp only at k7
  rw [anh D (by omega)] at k7
  simp only [exB] at k7
  simp only [opN,Op.x] at k2 k3 k4 k5
  generalize f1 (64+(1+(m:Int))) (t2 D) 2=F3 at *
  generalize f1 (64+(1+(m:Int))) (t2 []) 2=F2 at *
  generalize f1 (64+(1+(m:Int))) tab1 2=F1 at *
  generalize fsN=F0 at *
  have dl:decide ((D.length:Int)=1+(m:Int))=true:=lT (by omega)
  refine U kO [] 43997 [] fun w hP hQ=>?_
  unfold kE
  refine N ?_
  refine K (hB) ?_
  have hz:=et
  refine Kz (ka) ?_
  refine K (k0) ?_
  refine K (k1) ?_
  have hz:=rD
  refine Kz (k2) ?_
  have hz:=And.intro rD rE
  refine Kz (k3) ?_
  have hz:=rE
  refine Kz (k4) ?_
  refine K (k5) ?_
  refine K (k6) ?_
  have hz:=And.intro yQ dl
  exact Kz (k7) trivial
section
open Go.Proofs Go.Proofs.YtnfeefcnblondaaGreatDoor
theorem amW:(Rows.fnQuotaEdgeRow.wf (OpenSpec.ofChange Rows.fnQuotaEdgeSpec))=true:=by kernel_rfl
theorem amX:(Tryz.f6.params.all (Tryz.prog.readableRec ·))=true:=by kernel_rfl
theorem amY:(namedTie Tryz.prog Rows.fnQuotaEdgeRow.named Rows.fnQuotaEdgeSpec.vars)=true:=by kernel_rfl
theorem amZ:((Rows.fnQuotaEdgeRow.stops == []))=true:=by kernel_rfl
theorem am0:((Rows.fnQuotaEdgeRow.knobs == []))=true:=by kernel_rfl
theorem am1:((Rows.fnQuotaEdgeRow.inPlace == Tryz.prog.inPlace 6))=true:=by kernel_rfl
theorem kW:((Rows.fnQuotaEdgeRow.unfollowed == Tryz.prog.unfollowed 6))=true:=by kernel_rfl
theorem l3:((Rows.fnQuotaEdgeRow.recurses == Tryz.prog.recurses 6))=true:=by kernel_rfl
theorem oF:((Rows.fnQuotaEdgeRow.named == Tryz.prog.varsNamed 6))=true:=by kernel_rfl
theorem o3:((Rows.fnQuotaEdgeRow.maps == (Tryz.f6.params.toList++Rows.fnQuotaEdgeSpec.plain.varTypes Tryz.prog).any (Tryz.prog.mapsRec ·)))=true:=by kernel_rfl
theorem o4:((Rows.fnQuotaEdgeRow.ifaces == (Tryz.f6.params.toList++Rows.fnQuotaEdgeSpec.plain.varTypes Tryz.prog).any (Tryz.prog.ifacesRec ·)))=true:=by kernel_rfl
theorem o5:((Rows.fnQuotaEdgeRow.mapsOut == Tryz.prog.mapsAmong Tryz.f6.resultTypes.toList))=true:=by kernel_rfl
theorem vM:((Rows.fnQuotaEdgeRow.loops == (Tryz.f6.params.toList++Rows.fnQuotaEdgeSpec.plain.varTypes Tryz.prog).any (Tryz.prog.loopsFrom ·)))=true:=by kernel_rfl
theorem vS:((Rows.fnQuotaEdgeRow.wideKeys == (Tryz.f6.params.toList++Rows.fnQuotaEdgeSpec.plain.varTypes Tryz.prog++Tryz.f6.resultTypes.toList).any (Tryz.prog.wideKeysFrom ·)))=true:=by kernel_rfl
theorem vW:(Rows.fnQuotaEdgeSpec.vars.all (Tryz.prog.varReadable ·))=true:=by kernel_rfl
theorem amN:(Tryz.f6.resultTypes.all (fun t=>Tryz.prog.readableRec t && decide (t<Tryz.prog.types.size)))=true:=by kernel_rfl
theorem amO:((Rows.fnQuotaEdgeRow.ifacesOut == Tryz.f6.resultTypes.toList.any (Tryz.prog.ifacesRec ·)))=true:=by kernel_rfl
theorem amP:((Rows.fnQuotaEdgeRow.loopsOut == Tryz.f6.resultTypes.toList.any (Tryz.prog.loopsFrom ·)))=true:=by kernel_rfl
theorem amQ:((Rows.fnQuotaEdgeRow.plainKeys == Tryz.prog.plainKeys))=true:=by kernel_rfl
theorem amR:(Rows.fnQuotaEdgeRow.shortTexts.isNone)=true:=by kernel_rfl
theorem amS:((Rows.fnQuotaEdgeRow.kinds == (if Rows.fnQuotaEdgeRow.domain.isEmpty then [] else Tryz.f6.params.toList.map fun t=>match Tryz.prog.underlying t with | some (.int k)=>some k | _=>none)))=true:=by kernel_rfl
theorem amT:((Rows.fnQuotaEdgeRow.pinned == Rows.fnQuotaEdgeRow.pinnedBy))=true:=by kernel_rfl
theorem amU:((Rows.fnQuotaEdgeRow.veiled == (Tryz.f6.params.toList++Rows.fnQuotaEdgeSpec.plain.varTypes Tryz.prog++Tryz.f6.resultTypes.toList).any (Tryz.prog.veiledRec ·)))=true:=by kernel_rfl
theorem amV:(Rows.fnQuotaEdgeRow.veiledFits Tryz.prog Tryz.f6.params.toList (Tryz.f6.params.toList++Rows.fnQuotaEdgeSpec.plain.varTypes Tryz.prog++Tryz.f6.resultTypes.toList))=true:=by kernel_rfl
theorem am2:joinedFacts Tryz.prog 6 Tryz.f6 Rows.fnQuotaEdgeSpec Rows.fnQuotaEdgeRow=true:=
 alh amW amC amD amX amY amZ amq am0 amr am1 kW l3 oF o3 o4 o5 vM vS vW amN amO amP amQ amR ams amt amu amE amS amT amU amV
theorem kS (os:Os) (started:os.Started) (H:Type) (enc:TypeId × Value→H) :
  ReturnsInHanded {} Tryz.checked os 6 .any (fun w args=>(Rows.fnQuotaEdgeSpec.pre enc Tryz.prog Tryz.f6 [] false w args∧laidMetH Tryz.prog Rows.fnQuotaEdgeRow.laid w)∧sizedMet enc Tryz.prog Tryz.f6 (OpenSpec.ofChange Rows.fnQuotaEdgeSpec) false w args) (Rows.fnQuotaEdgeSpec.post enc Tryz.prog Tryz.f6 false true false false):=by
 refine law_laid (X:=fun w _=>laidMetH Tryz.prog Rows.fnQuotaEdgeRow.laid w) (fun _ _ _ hh h=>h.of_heap hh) (C:=Tryz.checked) (pars:=[(false,[.sl 1 [.int .u8]])]) own started (by kernel_rfl) Tryz.func6
  (ChangeSpec.witness_shaped (enc:=enc) (C:=Tryz.checked) (os:=os) (X:=fun w _=>laidMetH Tryz.prog Rows.fnQuotaEdgeRow.laid w) false (World.laidAll Tryz.prog os Rows.fnQuotaEdgeRow.laid) #[.slice none 0 0] 8 (World.laidAll_os _ _ _) (World.shaped_of_RefB (by kernel_rfl) (by kernel_rfl)) (by kernel_rfl) (by kernel_rfl) (by kernel_rfl) (alU _ (by kernel_rfl) (by kernel_rfl) (by kernel_rfl)))
  rfl (by kernel_rfl) rfl (by kernel_rfl) ?_ ?_
 ·intro ds hd
  match ds,hd with
  | [d0],_=>rfl
 ·intro tss h
  match tss,h with
  | [t0],⟨h0,_⟩=>
   obtain ⟨r0,u0,rfl,l0,e0,k0⟩:=Shp.sl_inv h0
   obtain rfl:=Shp.nil_inv k0
   obtain ⟨x0,rfl⟩:=akG e0
   exact ⟨_,am8 x0 (amn l0)⟩
theorem am3:Tryz.f6.isWrapper Tryz.prog Rows.fnQuotaEdgeRow.wrapper Rows.fnQuotaEdgeRow.mainSum:=by
 unfold Func.isWrapper; first | (rw [if_pos (by decide +kernel)]; kernel_rfl) | (rw [if_neg (by decide +kernel)]; exact ⟨rfl,rfl⟩)
theorem law_FnQuotaEdge:Rows.FnQuotaEdgeSaid:=
 OpenClaim.holds_of_wide 6 Tryz.f6 rfl rfl rfl rfl rfl rfl rfl ⟨rfl,rfl,rfl,rfl,rfl⟩ rfl rfl rfl rfl rfl (by kernel_rfl) Tryz.func6 am2
  (of_decide_eq_true (by kernel_rfl)) am3
  (fun os started H enc _=>kS os started H enc)
theorem am4:Rows.fnQuotaEdgeRow.wfByText (OpenSpec.ofChange Rows.fnQuotaEdgeSpec)=true:=by kernel_rfl
theorem k2_FnQuotaEdge:Tryz.prog.funcNamed "loop.example/g00285/laws.FnQuotaEdge"=some 6:=by kernel_rfl
theorem am5:(Tryz.f6.params.toList.all fun u=>!Tryz.prog.wantsStandIn u)=true:=by kernel_rfl
theorem am6:false=Rows.fnQuotaEdgeRow.goesBy Tryz.prog:=by kernel_rfl
theorem card_FnQuotaEdge:Rows.FnQuotaEdgeCardSaid:=
 Claim7.holds_tied_plain_at .later [] [.data,.pinned] true (true, "065b41267c4c5e9090da389464e58b88279cae34746055c8646bd41f1c814ac9") false
  law_FnQuotaEdge (fun _ h=>by cases h) am4 (fun _ h=>by cases h) fnQuotaEdge_row_tie rfl ⟨rfl,rfl⟩ amB rfl
  (fun f fn hf hfn=>by
   obtain rfl:f=6:=Option.some.inj (k2_FnQuotaEdge.symm.trans hf) |>.symm
   obtain rfl:fn=Tryz.f6:=(Option.some.inj (Tryz.func6.symm.trans hfn)).symm
   exact ⟨amp,fun j t ht=>by
    have:=lR.1 am5 t (by simpa using Array.mem_of_getElem? ht)
    exact show Tryz.prog.wantsStandIn t=false by simpa using this⟩)
  am6
end
end Go.Proofs.YtnfeefcnblondaaGreatDoor.Awp

namespace Go.Proofs.YtnfeefcnblondaaGreatDoor
/-- the given statement -/
theorem provedFnQuotaEdge : Rows.FnQuotaEdgeCardSaid := Awp.card_FnQuotaEdge
end Go.Proofs.YtnfeefcnblondaaGreatDoor
#print axioms Go.Proofs.YtnfeefcnblondaaGreatDoor.provedFnQuotaEdge
