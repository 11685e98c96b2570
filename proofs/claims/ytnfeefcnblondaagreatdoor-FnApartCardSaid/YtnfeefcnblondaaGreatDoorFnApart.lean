/- The law FnApart (what is written to a clone is not in what it is of, nor the other way) holds for every argument: the given statement is proved. Condition: none. -/
import Derived.Test.YtnfeefcnblondaaGreatDoorBase2
import Derived.Test.YtnfeefcnblondaaGreatDoorAwp3
import Derived.Test.YtnfeefcnblondaaGreatDoorRows
import Derived.Test.YtnfeefcnblondaaGreatDoorCards
import Derived.Test.YtnfeefcnblondaaGreatDoorTie
import Derived.Sort.Walk0
import Derived.Shelf.Lays
import Derived.Shelf.Sort.Plain
import Derived.Shelf.Slices.In.SortNone
import Derived.Shelf.Spec.SlicesInsert
import Derived.Shelf.Spec.SlicesInsertGrow
import Derived.Deep.MidRow
import Derived.ArgAppend
import Derived.Shelf.Strings.Search3
import Derived.Shelf.Strings.Count
import Derived.Shelf.Strings.OnBuilder
import Derived.Shelf.RegionOpenPlain
import Derived.WalkKit
import Derived.Deep.LoopGhost
import Derived.Deep.RegionLaw
import Derived.Lib.Walk
import Derived.Sort.WalkB12
import Derived.OpenShut
import Derived.SevenTiedAt
import Derived.KernelRfl
set_option linter.unusedVariables false
set_option linter.unusedSimpArgs false
set_option maxRecDepth 100000
set_option maxHeartbeats 20000000
open Nat (reduceEqDiff reduceAdd reduceMul reduceSub)
open Int (reduceNeg reduceToNat reducePow)
namespace Go.Proofs.YtnfeefcnblondaaGreatDoor.Awp
theorem uA1:type_of% @Nat.le_of_ble_eq_true:=@Nat.le_of_ble_eq_true
section
namespace W
end W
open I W
def oF:Cmd:=Q (R [e' 2 k0]) (Q (Q (R [a 13 0,c 14 10 [v 13]]) (F (v 14) (Q (R [e' 2 k1]) .ret) .skip)) (Q (R [a 16 0,c 17 34 [v 16],a 15 17,x 18 15 0,x 19 15 1,z 3 [.sl 6 [],.int .i64 0],s 3 18 2,e 4 19]) (Q (R [b 21 3 2,c 22 35 [v 21,k 1,.c (.str [115,110,97,112])],a 20 22,x 23 20 0,x 24 20 1,x 25 20 2,s 3 23 2,e 5 24,e 6 25]) (Q (R [b 27 3 2,a 28 5,c 29 43 [v 27,v 28,.c (.str [119,111,114,107])],a 26 29,x 30 26 0,x 31 26 1,x 32 26 2,s 3 30 2,e 7 31,e 8 32]) (Q (R [b 34 3 2,a 35 7,o 36 1 [.c (.int .u8 99),.c (.int .u8 108),.c (.int .u8 111),.c (.int .u8 110),.c (.int .u8 101)],n 37 (mrk 37 (v 36)),n 38 (bld 38 [.int .i64 0,.int .i64 0,.str [],.str [],.int .i64 0,.sl 1 []] [(0,1,k 3),(1,1,v 35),(2,1,.c (.str [47,102])),(5,1,v 37)]),c 39 28 [v 34,v 38],a 33 39,x 40 33 0,x 41 33 1,s 3 40 2,e 9 41]) (Q (R [b 43 3 2,o 44 1 [.c (.int .u8 109),.c (.int .u8 97),.c (.int .u8 105),.c (.int .u8 110),.c (.int .u8 33),.c (.int .u8 33)],n 45 (mrk 45 (v 44)),n 46 (bld 46 [.int .i64 0,.int .i64 0,.str [],.str [],.int .i64 0,.sl 1 []] [(0,1,k 3),(1,1,k 1),(2,1,.c (.str [47,102])),(5,1,v 45)]),c 47 28 [v 43,v 46],a 42 47,x 48 42 0,x 49 42 1,s 3 48 2,e 10 49]) (Q (R [b 51 3 2,a 52 5,o 53 1 [.c (.int .u8 110),.c (.int .u8 111)],n 54 (mrk 54 (v 53)),n 55 (bld 55 [.int .i64 0,.int .i64 0,.str [],.str [],.int .i64 0,.sl 1 []] [(0,1,k 3),(1,1,v 52),(2,1,.c (.str [47,102])),(5,1,v 54)]),c 56 28 [v 51,v 55],a 50 56,x 57 50 0,x 58 50 1,z 11 [.sl 6 [],.int .i64 0],s 11 57 2,e 12 58]) (Q (R [a 59 4,a 60 59,ha 60 true 61 6,h 60 true 62 (bin 62 .eql (v 61) (k 0)),p 63 60 (v 62) k0,a 64 63,ha 64 true 65 8,h 64 true 66 (bin 66 .eql (v 65) (k 0)),p 67 64 (v 66) k0,a 68 67,ha 68 true 69 9,h 68 true 70 (bin 70 .eql (v 69) (k 0)),p 71 68 (v 70) k0,a 72 71,ha 72 true 73 10,h 72 true 74 (bin 74 .eql (v 73) (k 0)),p 75 72 (v 74) k0,a 76 75,ha 76 true 77 12,h 76 true 78 (bin 78 .eql (v 77) (k 7)),p 79 76 (v 78) k0,a 80 79,hb 80 true 81 3 2,ha 80 true 82 7,hc 80 true 83 42 [v 81,v 82,.c (.str [47,102])],h 80 true 84 (b2s 84 (v 83)),h 80 true 85 (bin 85 .eql (v 84) (.c (.str [99,108,111,110,101]))),p 86 80 (v 85) k0,a 87 86,hb 87 true 88 3 2,hc 87 true 89 42 [v 88,k 1,.c (.str [47,102])],h 87 true 90 (b2s 90 (v 89)),h 87 true 91 (bin 91 .eql (v 90) (.c (.str [109,97,105,110,33,33]))),p 92 87 (v 91) k0,a 93 92,hb 93 true 94 3 2,ha 93 true 95 5,hc 93 true 96 42 [v 94,v 95,.c (.str [47,102])],ha 93 true 97 0,hc 93 true 98 38 [v 97,k 2],h 93 true 99 (conv 99 .u8 (v 98)),h 93 true 100 (bsl 100 1 [v 99,.c (.int .u8 1),.c (.int .u8 2)]),hc 93 true 101 44 [v 96,v 100],p 102 93 (v 101) k0,e 2 102]) .ret))))))))
def anE:Cmd:=Q (R [z 2 [.sl 6 [],.int .i64 0],e' 3 k0]) (Q (R [c 10 40 [],c 11 39 [v 10,.c (.str [109,97,105,110]),k 600],a 9 11,x 12 9 0,x 13 9 1,x 14 9 2,z 4 [.sl 6 [],.int .i64 0],s 4 12 2,e 5 13,e 6 14]) (Q (R [b 16 4 2,n 17 (bld 17 [.int .i64 0,.int .i64 0,.str [],.str [],.int .i64 0,.sl 1 []] [(0,1,k 2),(1,1,k 1),(2,1,.c (.str [47,102]))]),c 18 28 [v 16,v 17],a 15 18,x 19 15 0,x 20 15 1,s 4 19 2,e 7 20]) (Q (D [0,0,2,6,14,30,63,127,255,511,511,2047] [b 22 4 2,a 23 0,c 24 38 [v 23,k 2],n 25 (conv 25 .u8 (v 24)),o 26 1 [v 25,.c (.int .u8 1),.c (.int .u8 2)],n 27 (bld 27 [.int .i64 0,.int .i64 0,.str [],.str [],.int .i64 0,.sl 1 []] [(0,1,k 3),(1,1,k 1),(2,1,.c (.str [47,102])),(5,1,v 26)]),c 28 28 [v 22,v 27],a 21 28,x 29 21 0,x 30 21 1,s 4 29 2,e 8 30]) (Q (D [0,0,2,6,14,30,62,126,254,510,1022,2046,4094,8190,16382,32766,65534,4095,262143] [b 31 4 2,a 32 6,g 33 .eql (v 32) (k 0),a 34 33,ha 34 true 35 7,h 34 true 36 (bin 36 .eql (v 35) (k 0)),p 37 34 (v 36) k0,a 38 37,ha 38 true 39 8,h 38 true 40 (bin 40 .eql (v 39) (k 0)),p 41 38 (v 40) k0,a 42 41,h 42 true 43 (fld 43 (v 4) 0),h 42 true 44 (ld 44 (v 43) 1 false),h 42 true 45 (len 45 (v 44)),h 42 true 46 (bin 46 .eql (v 45) (k 1)),p 47 42 (v 46) k0,s 2 31 2,e 3 47]) .ret))))
def amN:Cmd:=Q (R [n 3 (box 3 (v 0)),z 6 [.sl 6 [],.int .i64 0],e' 7 (k 0),e' 8 (k 0)]) (Q (R [b 9 3 2,a 10 1,a 11 2,c 12 97 [v 9,v 10,v 11,k1],x 13 12 0,x 14 12 1,x 15 12 2,s 6 13 2,e 7 14,e 8 15]) .ret)
def amP:Cmd:=Q (R [n 3 (box 3 (v 0)),e' 6 (.c (.own 1 []))]) (Q (R [b 10 3 2,a 11 1,c 12 46 [v 10,v 11],e 7 12]) (Q (Q (R [a 13 7,g 14 .lss (v 13) (k 0),a 15 14,ha 15 false 16 7,h 15 false 17 (fld 17 (v 3) 0),h 15 false 18 (ld 18 (v 17) 1 false),h 15 false 19 (len 19 (v 18)),h 15 false 20 (bin 20 .geq (v 16) (v 19)),p 21 15 k1 (v 20)]) (F (v 21) (Q (R [o 22 1 [],e 6 22]) .ret) .skip)) (Q (R [f 24 3 0,b' 25 24 1,a 26 7,i 27 25 26 6,f 28 27 4,b 29 28 2,a 30 2,c 31 104 [v 29,v 30,k 0,k 1000],a 23 31,x 32 23 0,x 33 23 1,e 8 32,e 9 33]) (Q (R [a 34 8,e 6 34]) .ret))))
def r8:Cmd:=Q (R [n 3 (box 3 (v 0)),z 6 [.sl 6 [],.int .i64 0],e' 7 (k 0),e' 8 (k 0)]) (Q (R [b 9 3 2,a 10 1,a 11 2,c 12 97 [v 9,v 10,v 11,k0],x 13 12 0,x 14 12 1,x 15 12 2,s 6 13 2,e 7 14,e 8 15]) .ret)
def o0:Cmd:=Q (R [e' 4 k0]) (Q (Q (R [a 6 0,l 7 6,a 8 1,l 9 8,g 10 .neq (v 7) (v 9)]) (F (v 10) (Q (R [e' 4 k0]) .ret) .skip)) (Q (Q (R [e' 5 (k 0)]) (.blk 0 (.loop (Q (Q (R [a 11 5,a 12 0,l 13 12,g 14 .lss (v 11) (v 13)]) (F (v 14) .skip (.exit 0))) (Q (.blk 1 (Q (D [0,0,3,7,0,0,48,112,255] [a 17 0,a 18 5,i 19 17 18 1,b' 20 19 1,a 21 1,a 22 5,i 23 21 22 1,b' 24 23 1,g 25 .neq (v 20) (v 24)]) (F (v 25) (Q (R [e' 4 k0]) .ret) .skip))) (R [a 15 5,g 16 .add (v 15) (k 1),e 5 16])))))) (Q (R [e' 4 k1]) .ret)))
def k7:Cmd:=Q (R [n 4 (box 4 (v 0)),z 8 [.sl 6 [],.int .i64 0],e' 9 (k 0),e' 10 (k 0)]) (Q (R [b 12 4 2,c 13 90 [v 12],s 4 13 2]) (Q (Q (R [b 14 4 2,c 15 37 [v 14],n 16 (un 16 .not (v 15)),a 17 16,ha 17 false 18 2,hc 17 false 19 60 [v 18],h 17 false 20 (un 20 .not (v 19)),p 21 17 k1 (v 20)]) (F (v 21) (Q (R [b 22 4 2,s 8 22 2,e' 9 (k 0),e' 10 (k 1)]) .ret) .skip)) (Q (R [b 23 4 2,a 24 1,c 25 46 [v 23,v 24],e 11 25]) (Q (Q (R [a 26 11,g 27 .lss (v 26) (k 0)]) (F (v 27) (Q (R [b 28 4 2,s 8 28 2,e' 9 (k 0),e' 10 (k 2)]) .ret) .skip)) (Q (D [0,0,0,0,8,0,56,120,248,0,512,0,3584,7680,15872,32766,65535,131071,262143,524287,1048575,2097151,4194303] [b 29 4 2,a 30 2,a 31 3,f 32 4 0,b' 33 32 1,a 34 11,i 35 33 34 6,f 36 35 3,b' 37 36 1,f 38 4 0,b' 39 38 1,a 40 11,i 41 39 40 6,f 42 41 4,b 43 42 2,n 44 (bld 44 [.int .i64 0,.str [],.bool false,.int .i64 0,.sl 6 [],.int .i64 0] [(1,1,v 30),(2,1,v 31),(3,1,v 37),(4,2,v 43)]),c 45 102 [v 29,v 44],x 46 45 0,x 47 45 1,x 48 45 2,s 8 46 2,e 9 47,e 10 48]) .ret)))))
def hO:Cmd:=Q (R [n 4 (box 4 (v 0)),e' 8 (.c (.own 1 [])),e' 9 (k 0)]) (Q (Q (R [a 13 2,g 14 .lss (v 13) (k 0),a 15 14,ha 15 false 16 3,h 15 false 17 (bin 17 .lss (v 16) (k 0)),p 18 15 k1 (v 17)]) (F (v 18) (Q (R [e' 8 (.c (.own 1 [])),e' 9 (k 1)]) .ret) .skip)) (Q (R [b 20 4 2,a 21 1,c 22 61 [v 20,v 21],a 19 22,x 23 19 0,x 24 19 1,z 10 [.int .i64 0,.int .i64 0,.int .i64 0,.sl 1 [],.sl 2 [],.sl 2 []],s 10 23 6,e 11 24]) (Q (Q (R [a 25 11,g 26 .neq (v 25) (k 0)]) (F (v 26) (Q (R [a 27 11,e' 8 (.c (.own 1 [])),e 9 27]) .ret) .skip)) (Q (Q (R [f 28 10 1,b' 29 28 1,g 30 .neq (v 29) (k 1)]) (F (v 30) (Q (R [e' 8 (.c (.own 1 [])),e' 9 (k 3)]) .ret) .skip)) (Q (R [f 31 10 3,b' 32 31 1,a 33 2,f 34 10 3,b' 35 34 1,l 36 35,n 37 (mn 37 (v 33) (v 36)),n 38 (slc 38 (v 32) (some (v 37)) none 1),e 12 38]) (Q (R [a 39 12,a 40 3,a 41 12,l 42 41,n 43 (mn 43 (v 40) (v 42)),n 44 (slc 44 (v 39) none (some (v 43)) 1),c 45 164 [v 44],e 8 45,e' 9 (k 0)]) .ret))))))
end
theorem amO:aG Tryz.prog 7=some (103,[.t 2],oF):=by kernel_rfl
theorem anL:aG Tryz.prog 34=some (48,[.c 2 2 true,.t 3],anE):=by kernel_rfl
theorem amX:aG Tryz.prog 35=some (16,[.c 6 2 true,.t 7,.t 8],amN):=by kernel_rfl
theorem ann:aG Tryz.prog 42=some (35,[.t 6],amP):=by kernel_rfl
theorem amT:aG Tryz.prog 43=some (16,[.c 6 2 true,.t 7,.t 8],r8):=by kernel_rfl
theorem amR:aG Tryz.prog 44=some (26,[.t 4],o0):=by kernel_rfl
theorem rD:aG Tryz.prog 97=some (49,[.c 8 2 true,.t 9,.t 10],k7):=by kernel_rfl
theorem kO:aG Tryz.prog 104=some (46,[.t 8,.t 9],hO):=by kernel_rfl
section
theorem amU {α:Type} {a b:List α} {i:Nat} (h:a.take i=b.take i) (h1:i<a.length) (h2:i<b.length) (e:a[i]=b[i]):a.take (i+1)=b.take (i+1):=by
 rw [lO2 h1,lO2 h2,h,e]
theorem anK {α:Type} {a b:List α} {i:Nat} (h:a.take i=b.take i) (h1:a.length≤i) (h2:b.length≤i):a=b:=by
 rwa [lD2 h1,lD2 h2] at h
section
variable {α β γ:Type} (f:α→Int→β) (g:α→β) (c:α→Nat)
end
section
variable {α:Type} (r:α→List TV) (f:α→Int→α) (c:α→Nat)
end
theorem ano (k:Int):IntKind.u8.wrap k=((UInt8.ofInt k).toNat:Int):=by
 have e:IntKind.u8.wrap k=k%256:=by
  have h1:((2:Int)^IntKind.u8.bits)=256:=by decide
  unfold IntKind.wrap
  simp only [h1]
  simp [IntKind.signed]
 rw [e]
 simp [UInt8.ofInt]
 omega
end
theorem amY (a b:aA) (hl:a.length<2^40):bZ Tryz.prog 44 [.ext 1 (aM a),.ext 1 (aM b)] (.bool (decide (a=b))) [.undef,.undef]:=by
 refine U amR [] 51 [] fun w hP hQ=>?_
 unfold o0
 refine N ?_
 (first | with_reducible refine gQ _ ?_ ?_ | refine gR _ ?_ ?_) <;> intro h
 ·refine N ?_
  refine amy (fun i:Nat=>[(5,.int .i64 i)]) (fun i=>i≤a.length∧a.take i=b.take i) (fun i=>a.length-i) (0) hP hQ (rfl) (by simp) ?_
  rintro i ⟨hi,hab⟩ w1 hP1 hQ1
  refine N1 ?_
  (first | with_reducible refine gQ _ ?_ ?_ | refine gR _ ?_ ?_) <;> intro h1
  ·have hz:=And.intro (dJ h1) (dJ (h ▸ h1))
   refine Nz1 ?_
   (first | with_reducible refine gQ _ ?_ ?_ | refine gR _ ?_ ?_) <;> intro h2
   ·refine N1 ?_
    exact ⟨i+1,rfl,⟨by omega,amU hab _ _ (UInt8.toNat_inj.1 (by omega))⟩,by omega⟩
   ·refine N1 ?_
    rw [lO]
    rintro rfl; exact h2 rfl
  ·refine N1 ?_
   rw [lT (anK hab (by omega) (by omega))]
 ·have hz:=hQ
  refine Nz ?_
  rw [lO]
  rintro rfl; exact h rfl
theorem anF (f:Fs) (k:Nat) (n:aA) (ro:Bool) (l:Int) (hk:k<f.vols.length) (h:f.sz<2^40) (hn:n.length<2^30) (hf:f.vols.length≤6∧1≤f.next∧f.next≤99) :
  aed Tryz.prog 102 [.own 6 (f.vols.map Vol.row),.int .i64 f.next] [.int .i64 0,.str n,.bool ro,.int .i64 l,.lnk 1032 0 [⟨k,6,4⟩],.int .i64 (f.vols[k]).t.next]
   (.tup [(nG f { id:=0,name:=n,ro:=ro,limit:=l,t:=(f.vols[k]).t }).1.o,.int .i64 (nG f { id:=0,name:=n,ro:=ro,limit:=l,t:=(f.vols[k]).t }).2.1,.int .i64 (nG f { id:=0,name:=n,ro:=ro,limit:=l,t:=(f.vols[k]).t }).2.2]) [.agg [.undef,.int .i64 f.next],.undef]:=by
 have hV:=nZ f n (by omega)
 have hk':((k:Nat):Int)<(f.vols.length:Nat):=by omega
 have ht:=(aly h).2 _ (lD1 hk)
 cases e1:eS f n with
 | some j=>
  rw [e1,show p8 (some j)=(j:Int) from rfl] at hV
  simp only [nG,e1]
  refine ame hmx mK [] 127 (uA1 rfl) rfl (uA1 rfl) rfl ?_
  intro w hP hQ
  unfold iS
  refine N ?_
  have hz:=(dJ hk')
  refine Nz ?_
  have hz:=(dJ hk')
  refine Kz (hV) ?_
  (first | with_reducible refine gQ _ ?_ ?_ | refine gR _ ?_ ?_) <;> intro hx
  ·have hz:=(dJ hk')
   exact Nz trivial
  ·exfalso; omega
 | none=>
  rw [e1] at hV
  simp only [nG,e1]
  by_cases h6:f.vols.length=6
  ·rw [lE (.inl h6)]
   refine ame hmx mK [] 127 (uA1 rfl) rfl (uA1 rfl) rfl ?_
   intro w hP hQ
   unfold iS
   refine N ?_
   have hz:=(dJ hk')
   refine Nz ?_
   have hz:=And.intro h6 (dJ hk')
   exact Kz (hV) trivial
  by_cases h9:f.next=99
  ·rw [lE (.inr h9)]
   refine ame hmx mK [] 127 (uA1 rfl) rfl (uA1 rfl) rfl ?_
   intro w hP hQ
   unfold iS
   refine N ?_
   have hz:=(dJ hk')
   refine Nz ?_
   have hz:=And.intro h6 (And.intro h9 (dJ hk'))
   refine Kz (hV) ?_
   (first | with_reducible refine ad8 _ ?_ ?_ | refine ad9 _ ?_ ?_) <;> intro hg
   ·exfalso; omega
   have hz:=And.intro hg (And.intro h9 (dJ hk'))
   exact Nz trivial
  rw [lH (by omega)]
  refine ame hmx mK [] 127 (uA1 rfl) rfl (uA1 rfl) rfl ?_
  intro w hP hQ
  unfold iS
  refine N ?_
  have hz:=(dJ hk')
  refine Nz ?_
  have hz:=(dJ hk')
  refine Kz (hV) ?_
  (first | with_reducible refine ad8 _ ?_ ?_ | refine ad9 _ ?_ ?_) <;> intro hg
  ·exfalso; omega
  have hz:=And.intro hg (dJ hk')
  refine Nz ?_
  (first | with_reducible refine gQ _ ?_ ?_ | refine gR _ ?_ ?_) <;> intro hg2
  ·exfalso; omega
  have hz:=(dJ hk')
  refine Nz ?_
  have hz:=(dJ hk')
  refine Kz (f7 (f.vols[k]).t ht) ?_
  simp only [amA,Fs.o,aiq]
  rfl
theorem anm (f:Fs) (i:Int) (n:aA) (ro:Bool) (h:f.sz<2^40) (hn:n.length<2^30) :
  bZ Tryz.prog 97 [f.x,.int .i64 i,.str n,.bool ro] (.tup [(alY f i n ro).1.o,.int .i64 (alY f i n ro).2.1,.int .i64 (alY f i n ro).2.2]) [.undef,.undef,.undef,.undef]:=by
 obtain ⟨h1,h2⟩:=aly h
 have hV:=aid f i (by omega)
 have hF:=af7 f h
 have hN:=bY n (by omega)
 rcases m0 (fsB f) with e1 | e1
 ·rw [e1] at hF
  rw [alY,lH (by simp [e1])]
  refine U rD [(102,[.m],[])] 3871 [] fun w hP hQ=>?_
  unfold k7
  refine N ?_
  refine K (d6 f h) ?_
  exact K (hF) trivial
 rw [e1] at hF
 rcases m0 (aS n) with e2 | e2
 ·rw [e2] at hN
  rw [alY,lH (by simp [e2])]
  refine U rD [(102,[.m],[])] 3871 [] fun w hP hQ=>?_
  unfold k7
  refine N ?_
  refine K (d6 f h) ?_
  refine K (hF) ?_
  exact K (hN) trivial
 rw [e2] at hN
 rw [alY,lE ⟨e1,e2⟩]
 cases e3:mZ f i with
 | none=>
  rw [e3] at hV
  refine U rD [(102,[.m],[])] 3871 [] fun w hP hQ=>?_
  unfold k7
  refine N ?_
  refine K (d6 f h) ?_
  refine K (hF) ?_
  refine K (hN) ?_
  exact K (hV) trivial
 | some k=>
  have hk:=aio e3
  have hk':((k:Nat):Int)<(f.vols.length:Nat):=by omega
  rw [e3,show p8 (some k)=(k:Int) from rfl] at hV
  simp only [lJ hk]
  have hA:=anF f k n ro (f.vols[k]).limit hk h hn (ako e1)
  generalize nG f { id:=0,name:=n,ro:=ro,limit:=(f.vols[k]).limit,t:=(f.vols[k]).t }=r at *
  refine U rD [(102,[.m],[])] 3871 [] fun w hP hQ=>?_
  unfold k7
  refine N ?_
  refine K (d6 f h) ?_
  refine K (hF) ?_
  refine K (hN) ?_
  refine K (hV) ?_
  (first | with_reducible refine gQ _ ?_ ?_ | refine gR _ ?_ ?_) <;> intro hx
  ·exfalso; omega
  have hz:=(dJ hk')
  refine Nz ?_
  (first|refine cK hP (hA) rfl rfl ?_|refine cKH hP (hA) rfl rfl ?_)
  exact N trivial
theorem anp (f:Fs) (i:Int) (n:aA) (h:f.sz<2^40) (hn:n.length<2^30) :
  bZ Tryz.prog 35 [f.x,.int .i64 i,.str n] (.tup [(alY f i n true).1.o,.int .i64 (alY f i n true).2.1,.int .i64 (alY f i n true).2.2]) [.undef,.undef,.undef]:=by
 have hA:=anm f i n true h hn
 generalize alY f i n true=r at *
 refine U amX [] 463 [] fun w hP hQ=>?_
 unfold amN
 refine N ?_
 exact K (hA) trivial
theorem amZ (f:Fs) (i:Int) (n:aA) (h:f.sz<2^40) (hn:n.length<2^30) :
  bZ Tryz.prog 43 [f.x,.int .i64 i,.str n] (.tup [(alY f i n false).1.o,.int .i64 (alY f i n false).2.1,.int .i64 (alY f i n false).2.2]) [.undef,.undef,.undef]:=by
 have hA:=anm f i n false h hn
 generalize alY f i n false=r at *
 refine U amT [] 463 [] fun w hP hQ=>?_
 unfold r8
 refine N ?_
 exact K (hA) trivial
section
variable {t:Tab}
def exB:Rs aA→aA
 | .ok b=>b
 | .error _=>[]
end
section
variable {f:Fs}
theorem anG (h:fsB f=true) (i:Int) (n:aA) (ro:Bool):fsB (alY f i n ro).1=true:=by
 unfold alY
 split
 ·rename_i hc
  split
  ·exact h
  ·split
   ·exact h
   ·rename_i k _ v hv
    have o:=((jJ f).1 h).vol v (lW2 hv)
    exact (jJ _).2 (agu ((jJ f).1 h) hc.2 o.lim o.tree o.use)
 ·exact h
theorem anS {o:Op} (hB:fsB f=true) (hk:inR o.kind 1 9=true) {k:Nat} {v:Vol} (e:mZ f o.vol=some k) (hv:f.vols[k]?=some v) (hr:v.ro=true):vB f o=(f,7):=by
 have:=(gN _ _ _).1 hk
 unfold vB
 rw [lH (by omega),lH (by omega),lH (by omega),lH (by omega),lH (by omega),lE hk,pE,lE hB,e]
 simp only [hv,hr,lE]
end
theorem amV {d e:aA} (h:d.length≤e.length):zZ d 0 e=e:=by
 unfold zZ
 simp only [lB2,List.take_zero,lF1]
 rw [List.drop_eq_nil_of_le h,lP2]
theorem am0 (d:aA) (h:d.length≤100):alE (t2 d) [47,102] 0 1000=.ok d:=by
 have:dE (t2 d) [47,102]=.ok { ino:=2,kind:=1,links:=1,data:=d,ents:=[],attrs:=[] }:=(fH (aku d)).1
 rw [alE,lH (by omega),this]
 simp only
 rw [lE (by decide)]
 show Except.ok ((d.drop 0).take 1000)=_
 rw [List.drop_zero,lD2 (by omega)]
def vM (l:Int) (d:aA):Vol:={ id:=1,name:=[109,97,105,110],ro:=false,limit:=l,t:=t2 d }
def vS (l:Int) (d:aA):Vol:={ id:=2,name:=[115,110,97,112],ro:=true,limit:=l,t:=t2 d }
def vW (l:Int) (d:aA):Vol:={ id:=3,name:=[119,111,114,107],ro:=false,limit:=l,t:=t2 d }
def f3 (l:Int) (a b c:aA):Fs:={ vols:=[vM l a,vS l b,vW l c],next:=4 }
def fS (l:Int) (a b:aA):Fs:={ vols:=[vM l a,vS l b],next:=3 }
theorem rE {l:Int} {d:aA} (hl:32≤l∧l≤4000) (hd:d.length≤100) (hu:64+(d.length:Int)≤l):alY (f1 l (t2 d) 2) 1 [115,110,97,112] true=(fS l d d,2,0):=by
 rw [alY,lE ⟨amk hl hd hu (by omega),by decide⟩]
 rfl
theorem am1 {l:Int} {d:aA} (hl:32≤l∧l≤4000) (hd:d.length≤100) (hu:64+(d.length:Int)≤l):alY (fS l d d) 2 [119,111,114,107] false=(f3 l d d d,3,0):=by
 have hB:fsB (fS l d d)=true:=by
  have:=anG (amk (n:=2) hl hd hu (by omega)) 1 [115,110,97,112] true
  rw [rE hl hd hu] at this; exact this
 rw [alY,lE ⟨hB,by decide⟩]
 rfl
theorem anM {l:Int} {a b c:aA} (hl:32≤l∧l≤4000) (ha:a.length≤100∧64+(a.length:Int)≤l) (hb:b.length≤100∧64+(b.length:Int)≤l) (hc:c.length≤100∧64+(c.length:Int)≤l):fsB (f3 l a b c)=true:=by
 rw [jJ]
 refine ⟨by show (3:Nat)≤6; decide,⟨by show (1:Int)≤4; decide,by show (4:Int)≤99; decide⟩,fun v hv=>?_,by simp [f3,vM,vS,vW],by simp [f3,vM,vS,vW]⟩
 have hv:v=vM l a∨v=vS l b∨v=vW l c:=by simpa [f3] using hv
 rcases hv with rfl | rfl | rfl
 ·exact ⟨by show (1:Int)≤1; decide,by show (1:Int)<4; decide,by show aS [109,97,105,110]=true; decide,hl,agz a ha.1,by show ((bC (t2 a):Nat):Int)≤l; rw [agA]; omega⟩
 ·exact ⟨by show (1:Int)≤2; decide,by show (2:Int)<4; decide,by show aS [115,110,97,112]=true; decide,hl,agz b hb.1,by show ((bC (t2 b):Nat):Int)≤l; rw [agA]; omega⟩
 ·exact ⟨by show (1:Int)≤3; decide,by show (3:Int)<4; decide,by show aS [119,111,114,107]=true; decide,hl,agz c hc.1,by show ((bC (t2 c):Nat):Int)≤l; rw [agA]; omega⟩
theorem anN {l:Int} {a b c e:aA} (hB:fsB (f3 l a b c)=true) (hc:c.length≤100) (he:e.length≤100) (hu:64+((zZ c 0 e).length:Int)≤l):vB (f3 l a b c) (opN 3 3 [47,102] e)=(f3 l a b (zZ c 0 e),0):=by
 show pE (f3 l a b c) (opN 3 3 [47,102] e)=_
 rw [pE,lE hB]
 have e1:bK (t2 c) (opN 3 3 [47,102] e)=(t2 (zZ c 0 e),0):=aai (agz c hc) he
 show (if (bK (t2 c) (opN 3 3 [47,102] e)).2=0 then (if (bC (bK (t2 c) (opN 3 3 [47,102] e)).1:Int)≤l then (alF (f3 l a b c) 2 (bK (t2 c) (opN 3 3 [47,102] e)).1,0) else (f3 l a b c,8)) else (f3 l a b c,(bK (t2 c) (opN 3 3 [47,102] e)).2))=_
 rw [e1]
 simp only
 rw [lE trivial,agA,lE (by omega)]
 rfl
theorem anO {l:Int} {a b c e:aA} (hB:fsB (f3 l a b c)=true) (ha:a.length≤100) (he:e.length≤100) (hu:64+((zZ a 0 e).length:Int)≤l):vB (f3 l a b c) (opN 3 1 [47,102] e)=(f3 l (zZ a 0 e) b c,0):=by
 show pE (f3 l a b c) (opN 3 1 [47,102] e)=_
 rw [pE,lE hB]
 have e1:bK (t2 a) (opN 3 1 [47,102] e)=(t2 (zZ a 0 e),0):=aai (agz a ha) he
 show (if (bK (t2 a) (opN 3 1 [47,102] e)).2=0 then (if (bC (bK (t2 a) (opN 3 1 [47,102] e)).1:Int)≤l then (alF (f3 l a b c) 0 (bK (t2 a) (opN 3 1 [47,102] e)).1,0) else (f3 l a b c,8)) else (f3 l a b c,(bK (t2 a) (opN 3 1 [47,102] e)).2))=_
 rw [e1]
 simp only
 rw [lE trivial,agA,lE (by omega)]
 rfl
theorem anP {l:Int} {a b c e:aA} (hB:fsB (f3 l a b c)=true):vB (f3 l a b c) (opN 3 2 [47,102] e)=(f3 l a b c,7):=
 anS hB (by show inR 3 1 9=true; decide) (k:=1) (v:=vS l b) (by rfl) (by rfl) (by rfl)
theorem anq (b:aA) (n:Nat):List.take n (aM b)=aM (b.take n):=by simp [aM,List.map_take]
theorem anr (b:aA) (n:Nat):List.drop n (aM b)=aM (b.drop n):=by simp [aM,List.map_drop]
theorem am2 (t:Tab) (s:aA) (o n:Int) (h:t.sz<2^40) (hs:s.length<2^40):bZ Tryz.prog 104 [t.x,.str s,.int .i64 o,.int .i64 n] (.tup [.own 1 (aM (exB (alE t s o n))),.int .i64 (exC (alE t s o n))]) [.undef,.undef,.undef,.undef]:=by
 have hF:=agJ t s h hs
 unfold alE
 by_cases h1:o<0
 ·have h1':decide (o<0)=true:=lT h1
  simp only [lE (show o<0∨n<0 from .inl h1),exB,exC]
  refine U kO [] 7967 [] fun w hP hQ=>?_
  unfold hO
  refine N ?_
  have hz:=h1'
  refine Nz ?_
  all_goals first|exact trivial|rfl|exact ⟨rfl,rfl⟩
 have h1':decide (o<0)=false:=lO h1
 by_cases h2:n<0
 ·have h2':decide (n<0)=true:=lT h2
  simp only [lE (show o<0∨n<0 from .inr h2),exB,exC]
  refine U kO [] 7967 [] fun w hP hQ=>?_
  unfold hO
  refine N ?_
  have hz:=And.intro h1' h2'
  refine Nz ?_
  all_goals first|exact trivial|rfl|exact ⟨rfl,rfl⟩
 have h2':decide (n<0)=false:=lO h2
 simp only [lH (show ¬ (o<0∨n<0) by omega)]
 cases hX:dE t s with
 | error c=>
  have hc:decide (c=0)=false:=lO (tM hX)
  rw [hX] at hF
  simp only [exI,exC,exB] at hF ⊢
  refine U kO [] 7967 [] fun w hP hQ=>?_
  unfold hO
  refine N ?_
  have hz:=And.intro h1' h2'
  refine Nz ?_
  have hz:=hc
  refine Kz (hF) ?_
  all_goals first|exact trivial|rfl|exact ⟨rfl,rfl⟩
 | ok X=>
  rw [hX] at hF
  simp only [exI,exC] at hF
  have zX:=alM h (bJ hX).2
  have zd:=(jH zX).1
  by_cases g1:X.kind=1
  ·have g1':decide (X.kind=1)=true:=lT g1
   simp only [lE g1,exB,exC]
   obtain ⟨k,rfl⟩:=Int.eq_ofNat_of_zero_le (show 0≤o by omega)
   obtain ⟨m,rfl⟩:=Int.eq_ofNat_of_zero_le (show 0≤n by omega)
   simp only [Int.toNat_natCast]
   obtain ⟨a,ha,ha2,aa⟩:∃ a:Nat,(if ((X.data.length:Nat):Int)<(k:Nat) then ((X.data.length:Nat):Int) else (k:Nat))=(a:Nat)∧a≤X.data.length∧X.data.drop a=X.data.drop k:=by
    by_cases g:((X.data.length:Nat):Int)<(k:Nat)
    ·exact ⟨X.data.length,by rw [lE g],lL1 _,by rw [List.drop_length,List.drop_eq_nil_of_le (by omega)]⟩
    ·exact ⟨k,by rw [lH g],by omega,rfl⟩
   have z1:(((X.data.length:Nat):Int)-(a:Nat)).toNat=X.data.length-a:=by omega
   have z2:(X.data.drop a).take (X.data.length-a)=X.data.drop k:=by rw [aa]; exact lD2 (by rw [← aa]; simp)
   have z3:(X.data.drop k).length≤X.data.length:=by simp
   have z4:a+(X.data.length-a)≤X.data.length:=by omega
   have z5:(X.data.drop k).length=X.data.length-a:=by rw [← aa]; simp
   generalize X.data.drop k=Y at *
   have z7:Y.take (X.data.length-a)=Y:=lD2 (by omega)
   obtain ⟨c,hc,hc2,hc3⟩:∃ c:Nat,(if ((Y.length:Nat):Int)<(m:Nat) then ((Y.length:Nat):Int) else (m:Nat))=(c:Nat)∧c≤Y.length∧Y.take c=Y.take m:=by
    by_cases g:((Y.length:Nat):Int)<(m:Nat)
    ·exact ⟨Y.length,by rw [lE g],lL1 _,by rw [lD3,lD2 (by omega)]⟩
    ·exact ⟨m,by rw [lH g],by omega,rfl⟩
   have z8:a+c≤X.data.length:=by omega
   have z6:((c:Nat):Int)≤((X.data.length-a:Nat):Int):=by omega
   have hK:=aih (Y.take m) (by rw [lL]; omega)
   refine U kO [] 7967 [] fun w hP hQ=>?_
   unfold hO
   refine N ?_
   have hz:=And.intro h1' h2'
   refine Nz ?_
   have hz:=And.intro g1' (And.intro ha (And.intro z1 (And.intro z4 (And.intro aa (And.intro z7 (And.intro z6 (And.intro z8 (And.intro lF3 (And.intro anr (And.intro anq (And.intro yQ (And.intro hc (And.intro hc2 (And.intro hc3 (And.intro Int.sub_zero Int.toNat_natCast)))))))))))))))
   refine Kz (hF) ?_
   (first|refine cI hP (hK) rfl rfl ?_|refine cH hP (hK) rfl rfl ?_)
   refine N ?_
   all_goals first|exact trivial|rfl|exact ⟨rfl,rfl⟩
  ·have g1':decide (X.kind=1)=false:=lO g1
   simp only [lH g1,exB,exC]
   refine U kO [] 7967 [] fun w hP hQ=>?_
   unfold hO
   refine N ?_
   have hz:=And.intro h1' h2'
   refine Nz ?_
   have hz:=g1'
   refine Kz (hF) ?_
   all_goals first|exact trivial|rfl|exact ⟨rfl,rfl⟩
theorem anQ (n:Nat):IntKind.u8.wrap (n:Int)=((UInt8.ofNat n).toNat:Int):=by
 rw [ano]
 have:UInt8.ofInt (n:Int)=UInt8.ofNat n:=by simp [UInt8.ofInt]; apply UInt8.toNat_inj.1; simp; omega
 rw [this]
theorem anH (n:Nat) (h:n<256):IntKind.u8.wrap (n:Int)=(n:Int):=by
 rw [anQ]
 have:(UInt8.ofNat n).toNat=n:=by simp; omega
 rw [this]
theorem amQ (x:Nat) (hx:x<256):aM [UInt8.ofNat x,1,2]=[[TV.int .u8 (x:Int)],[TV.int .u8 1],[TV.int .u8 2]]:=by simp [aM]; omega
theorem anI {P:Program} {f:FuncId} {x:Fs} {a b n:Int} {p q:aA} {r:List (List TV)} {outs:List AV} {ret:AV} (h:bZ P f [x.x,.agg [.int .i64 a,.int .i64 b,.str p,.str q,.int .i64 n,.ext 1 r]] ret outs):bZ P f [x.x,.agg [.int .i64 a,.int .i64 b,.str p,.str q,.int .i64 n,.own 1 r]] (amd ret) outs:=
 alj (alk h rfl fun w F X vs r=>by simpa only [ali,amd,Fs.x] using RepA.frz r)
theorem anR (b:aA) (hl:b.length<2^48) {x:Nat} (hx:x<256) (ka:bZ Tryz.prog 38 [.ext 1 (aM b),.int .i64 2] (.int .i64 x) [.undef,.undef]) :
  bZ Tryz.prog 34 [.ext 1 (aM b)] (.tup [(f1 600 (t2 [UInt8.ofNat x,1,2]) 2).x,.bool true]) [.undef]:=by
 have k0:bZ Tryz.prog 40 [] fsN.o []:=alX
 have k1:=alC fsN [109,97,105,110] 600 (by decide) (by decide)
 rw [alK (by omega)] at k1
 have k2:=alQ (f1 600 tab1 2) 1 [47,102] (by decide) (by decide)
 rw [amj (by omega)] at k2
 have k3:=alR (f1 600 (t2 []) 2) 1 [47,102] [UInt8.ofNat x,1,2] (by decide) (by decide) (by simp)
 rw [al1 (by omega) (by simp) (by simp) (by omega) (by simp),aiA,lE (by simp)] at k3
 have hl1:(f1 600 (t2 [UInt8.ofNat x,1,2]) 2).vols.length=1:=rfl
 simp only [opN,Op.x,amQ x hx,show aM []=[] from rfl] at k2 k3
 generalize f1 600 (t2 [UInt8.ofNat x,1,2]) 2=F3 at *
 generalize f1 600 (t2 []) 2=F2 at *
 generalize f1 600 tab1 2=F1 at *
 generalize fsN=F0 at *
 have hw:=anH x hx
 have g0:bZ Tryz.prog 40 [] F0.x []:=alj k0
 have g1:bZ Tryz.prog 39 _ (.tup [F1.x,.int .i64 1,.int .i64 0]) _:=alj k1
 have g2:bZ Tryz.prog 28 _ (.tup [F2.x,.int .i64 0]) _:=anI k2
 have g3:bZ Tryz.prog 28 _ (.tup [F3.x,.int .i64 0]) _:=anI k3
 clear k0 k1 k2 k3
 refine U anL [(28,[.b,.m],[])] 477 [] fun w hP hQ=>?_
 unfold anE
 refine N ?_
 (first | refine ala hP (g0) (.inr rfl) ?_ | refine ajZ hP (g0) (.inr rfl) ?_)
 refine N ?_
 (first | refine ala hP (g1) (.inr rfl) ?_ | refine ajZ hP (g1) (.inr rfl) ?_)
 refine N ?_
 (first | refine ala hP (g2) (.inr rfl) ?_ | refine ajZ hP (g2) (.inr rfl) ?_)
 refine N ?_
 (first | refine ala hP (ka) (.inr rfl) ?_ | refine ajZ hP (ka) (.inr rfl) ?_)
 have hz:=hw
 refine Nz ?_
 (first | refine ala hP (g3) (.inr rfl) ?_ | refine ajZ hP (g3) (.inr rfl) ?_)
 have hz:=hl1
 exact Nz trivial
theorem amS (f:Fs) (i:Int) (p:aA) (h:f.sz<2^40) (hp:p.length<2^40) {k:Nat} {u:Vol} (e1:mZ f i=some k) (e2:f.vols[k]?=some u):bZ Tryz.prog 42 [f.x,.int .i64 i,.str p] (.own 1 (aM (exB (alE u.t p 0 1000)))) [.undef,.undef,.undef]:=by
 obtain ⟨h1,h2⟩:=aly h
 obtain ⟨hk,hu⟩:=lD.1 e2
 have hk':((k:Nat):Int)<(f.vols.length:Nat):=by omega
 have kV:=aid f i (by omega)
 rw [e1,show p8 (some k)=(k:Int) from rfl] at kV
 have kR:=am2 f.vols[k].t p 0 1000 (h2 _ (lD1 hk)) hp
 rw [← hu]
 have g1:decide ((k:Int)<0)=false:=lO (by omega)
 have g2:decide ((f.vols.length:Int)≤(k:Nat))=false:=lO (by omega)
 refine U ann [] 463 [] fun w hP hQ=>?_
 unfold amP
 refine N ?_
 have hz:=And.intro g1 (And.intro g2 (dJ hk'))
 refine Kz (kV) ?_
 exact K (kR) trivial
theorem anJ (b:aA) (hf:b.length<2^48):bZ Tryz.prog 7 [.ext 1 (aM b)] (.bool true) [.undef]:=by
 have hB:=amK b hf
 cases hz:decide ((1048576:Int)<(b.length:Nat)) with
 | true=>
  rw [hz] at hB
  refine U amO [] 6141 [] fun w hP hQ=>?_
  unfold oF
  refine N ?_
  exact K (hB) trivial
 | false=>
  rw [hz] at hB
  obtain ⟨x,hx,ka⟩:=amM b 2 hf (by omega)
  have ka:bZ Tryz.prog 38 [.ext 1 (aM b),.int .i64 2] (.int .i64 x) [.undef,.undef]:=ka
  have k1:=anR b hf hx ka
  have h3:=amQ x hx
  have kE:=amY [UInt8.ofNat x,1,2] [UInt8.ofNat x,1,2] (by simp)
  rw [lT rfl] at kE
  generalize hd:([UInt8.ofNat x,1,2]:aA)=d at *
  have hdl:d.length=3:=by rw [← hd]; rfl
  have p1:zZ d 0 [99,108,111,110,101]=[99,108,111,110,101]:=amV (by simp [hdl])
  have p2:zZ d 0 [109,97,105,110,33,33]=[109,97,105,110,33,33]:=amV (by simp [hdl])
  have o1:fsB (f1 600 (t2 d) 2)=true:=amk (by omega) (by omega) (by omega) (by omega)
  have kS:=anp _ 1 [115,110,97,112] (lQ3 (al0 o1) (by decide)) (by decide)
  rw [rE (by omega) (by omega) (by omega)] at kS
  have o2:fsB (fS 600 d d)=true:=by
   have:=anG o1 1 [115,110,97,112] true
   rw [rE (by omega) (by omega) (by omega)] at this; exact this
  have kC:=amZ _ 2 [119,111,114,107] (lQ3 (al0 o2) (by decide)) (by decide)
  rw [am1 (by omega) (by omega) (by omega)] at kC
  have o3:fsB (f3 600 d d d)=true:=anM (by omega) ⟨by omega,by omega⟩ ⟨by omega,by omega⟩ ⟨by omega,by omega⟩
  have o4:fsB (f3 600 d d [99,108,111,110,101])=true:=anM (by omega) ⟨by omega,by omega⟩ ⟨by omega,by omega⟩ ⟨by simp,by simp⟩
  have o5:fsB (f3 600 [109,97,105,110,33,33] d [99,108,111,110,101])=true:=anM (by omega) ⟨by simp,by simp⟩ ⟨by omega,by omega⟩ ⟨by simp,by simp⟩
  have kW:=alR _ 3 [47,102] [99,108,111,110,101] (lQ3 (al0 o3) (by decide)) (by decide) (by decide)
  rw [anN o3 (by omega) (by simp) (by rw [p1]; simp),p1] at kW
  have kM:=alR _ 1 [47,102] [109,97,105,110,33,33] (lQ3 (al0 o4) (by decide)) (by decide) (by decide)
  rw [anO o4 (by omega) (by simp) (by rw [p2]; simp),p2] at kM
  have kN:=alR _ 2 [47,102] [110,111] (lQ3 (al0 o5) (by decide)) (by decide) (by decide)
  rw [anP o5] at kN
  have z5:(f3 600 [109,97,105,110,33,33] d [99,108,111,110,101]).sz<2^40:=lQ3 (al0 o5) (by decide)
  have r1:=amS (f3 600 [109,97,105,110,33,33] d [99,108,111,110,101]) 3 [47,102] z5 (by decide) (k:=2) (u:=vW 600 [99,108,111,110,101]) rfl rfl
  have r2:=amS (f3 600 [109,97,105,110,33,33] d [99,108,111,110,101]) 1 [47,102] z5 (by decide) (k:=0) (u:=vM 600 [109,97,105,110,33,33]) rfl rfl
  have r3:=amS (f3 600 [109,97,105,110,33,33] d [99,108,111,110,101]) 2 [47,102] z5 (by decide) (k:=1) (u:=vS 600 d) rfl rfl
  rw [show (vW 600 [99,108,111,110,101]).t=t2 [99,108,111,110,101] from rfl,am0 _ (by simp)] at r1
  rw [show (vM 600 [109,97,105,110,33,33]).t=t2 [109,97,105,110,33,33] from rfl,am0 _ (by simp)] at r2
  rw [show (vS 600 d).t=t2 d from rfl,am0 _ (by omega)] at r3
  have b1:c5 [[TV.int .u8 99],[TV.int .u8 108],[TV.int .u8 111],[TV.int .u8 110],[TV.int .u8 101]]=some [99,108,111,110,101]:=abu [99,108,111,110,101]
  have b2:c5 [[TV.int .u8 109],[TV.int .u8 97],[TV.int .u8 105],[TV.int .u8 110],[TV.int .u8 33],[TV.int .u8 33]]=some [109,97,105,110,33,33]:=abu [109,97,105,110,33,33]
  have l1:aM [99,108,111,110,101]=[[TV.int .u8 99],[TV.int .u8 108],[TV.int .u8 111],[TV.int .u8 110],[TV.int .u8 101]]:=rfl
  have l2:aM [109,97,105,110,33,33]=[[TV.int .u8 109],[TV.int .u8 97],[TV.int .u8 105],[TV.int .u8 110],[TV.int .u8 33],[TV.int .u8 33]]:=rfl
  have l3:aM [110,111]=[[TV.int .u8 110],[TV.int .u8 111]]:=rfl
  simp only [exB,opN,Op.x,l1,l2,l3] at kW kM kN r1 r2 r3
  simp only [h3] at kE r3
  generalize f3 600 [109,97,105,110,33,33] d [99,108,111,110,101]=F5 at *
  generalize f3 600 d d [99,108,111,110,101]=F4 at *
  generalize f3 600 d d d=F3 at *
  generalize fS 600 d d=F2 at *
  generalize f1 600 (t2 d) 2=F1 at *
  have hw:=anH x hx
  refine U amO [] 6141 [] fun w hP hQ=>?_
  unfold oF
  refine N ?_
  refine K (hB) ?_
  (first | refine ala hP (k1) (.inr rfl) ?_ | refine ajZ hP (k1) (.inr rfl) ?_)
  refine N ?_
  refine K (kS) ?_
  refine K (kC) ?_
  refine K (kW) ?_
  refine K (kM) ?_
  refine K (kN) ?_
  have hz:=And.intro b1 b2
  refine Kz (r1) ?_
  have hz:=And.intro b1 b2
  refine Kz (r2) ?_
  have hz:=And.intro b1 b2
  refine Kz (r3) ?_
  have hz:=hw
  refine Kz (ka) ?_
  exact K (kE) trivial
section
open Go.Proofs Go.Proofs.YtnfeefcnblondaaGreatDoor
theorem ans:(Rows.fnApartRow.wf (OpenSpec.ofChange Rows.fnApartSpec))=true:=by kernel_rfl
theorem ant:(Tryz.f7.params.all (Tryz.prog.readableRec ·))=true:=by kernel_rfl
theorem anu:(namedTie Tryz.prog Rows.fnApartRow.named Rows.fnApartSpec.vars)=true:=by kernel_rfl
theorem anv:((Rows.fnApartRow.stops == []))=true:=by kernel_rfl
theorem anw:((Rows.fnApartRow.knobs == []))=true:=by kernel_rfl
theorem anx:((Rows.fnApartRow.inPlace == Tryz.prog.inPlace 7))=true:=by kernel_rfl
theorem am3:((Rows.fnApartRow.unfollowed == Tryz.prog.unfollowed 7))=true:=by kernel_rfl
theorem am4:((Rows.fnApartRow.recurses == Tryz.prog.recurses 7))=true:=by kernel_rfl
theorem am5:((Rows.fnApartRow.named == Tryz.prog.varsNamed 7))=true:=by kernel_rfl
theorem am6:((Rows.fnApartRow.maps == (Tryz.f7.params.toList++Rows.fnApartSpec.plain.varTypes Tryz.prog).any (Tryz.prog.mapsRec ·)))=true:=by kernel_rfl
theorem am7:((Rows.fnApartRow.ifaces == (Tryz.f7.params.toList++Rows.fnApartSpec.plain.varTypes Tryz.prog).any (Tryz.prog.ifacesRec ·)))=true:=by kernel_rfl
theorem am8:((Rows.fnApartRow.mapsOut == Tryz.prog.mapsAmong Tryz.f7.resultTypes.toList))=true:=by kernel_rfl
theorem am9:((Rows.fnApartRow.loops == (Tryz.f7.params.toList++Rows.fnApartSpec.plain.varTypes Tryz.prog).any (Tryz.prog.loopsFrom ·)))=true:=by kernel_rfl
theorem ana:((Rows.fnApartRow.wideKeys == (Tryz.f7.params.toList++Rows.fnApartSpec.plain.varTypes Tryz.prog++Tryz.f7.resultTypes.toList).any (Tryz.prog.wideKeysFrom ·)))=true:=by kernel_rfl
theorem anb:(Rows.fnApartSpec.vars.all (Tryz.prog.varReadable ·))=true:=by kernel_rfl
theorem anc:(Tryz.f7.resultTypes.all (fun t=>Tryz.prog.readableRec t && decide (t<Tryz.prog.types.size)))=true:=by kernel_rfl
theorem ane:((Rows.fnApartRow.ifacesOut == Tryz.f7.resultTypes.toList.any (Tryz.prog.ifacesRec ·)))=true:=by kernel_rfl
theorem anf:((Rows.fnApartRow.loopsOut == Tryz.f7.resultTypes.toList.any (Tryz.prog.loopsFrom ·)))=true:=by kernel_rfl
theorem ang:((Rows.fnApartRow.plainKeys == Tryz.prog.plainKeys))=true:=by kernel_rfl
theorem anh:(Rows.fnApartRow.shortTexts.isNone)=true:=by kernel_rfl
theorem ani:((Rows.fnApartRow.kinds == (if Rows.fnApartRow.domain.isEmpty then [] else Tryz.f7.params.toList.map fun t=>match Tryz.prog.underlying t with | some (.int k)=>some k | _=>none)))=true:=by kernel_rfl
theorem anj:((Rows.fnApartRow.pinned == Rows.fnApartRow.pinnedBy))=true:=by kernel_rfl
theorem ank:((Rows.fnApartRow.veiled == (Tryz.f7.params.toList++Rows.fnApartSpec.plain.varTypes Tryz.prog++Tryz.f7.resultTypes.toList).any (Tryz.prog.veiledRec ·)))=true:=by kernel_rfl
theorem anl:(Rows.fnApartRow.veiledFits Tryz.prog Tryz.f7.params.toList (Tryz.f7.params.toList++Rows.fnApartSpec.plain.varTypes Tryz.prog++Tryz.f7.resultTypes.toList))=true:=by kernel_rfl
theorem anz:joinedFacts Tryz.prog 7 Tryz.f7 Rows.fnApartSpec Rows.fnApartRow=true:=
 alh ans amC amD ant anu anv amq anw amr anx am3 am4 am5 am6 am7 am8 am9 ana anb anc ane anf ang anh ams amt amu amE ani anj ank anl
theorem amW (os:Os) (started:os.Started) (H:Type) (enc:TypeId × Value→H) :
  ReturnsInHanded {} Tryz.checked os 7 .any (fun w args=>(Rows.fnApartSpec.pre enc Tryz.prog Tryz.f7 [] false w args∧laidMetH Tryz.prog Rows.fnApartRow.laid w)∧sizedMet enc Tryz.prog Tryz.f7 (OpenSpec.ofChange Rows.fnApartSpec) false w args) (Rows.fnApartSpec.post enc Tryz.prog Tryz.f7 false true false false):=by
 refine law_laid (X:=fun w _=>laidMetH Tryz.prog Rows.fnApartRow.laid w) (fun _ _ _ hh h=>h.of_heap hh) (C:=Tryz.checked) (pars:=[(false,[.sl 1 [.int .u8]])]) own started (by kernel_rfl) Tryz.func7
  (ChangeSpec.witness_shaped (enc:=enc) (C:=Tryz.checked) (os:=os) (X:=fun w _=>laidMetH Tryz.prog Rows.fnApartRow.laid w) false (World.laidAll Tryz.prog os Rows.fnApartRow.laid) #[.slice none 0 0] 8 (World.laidAll_os _ _ _) (World.shaped_of_RefB (by kernel_rfl) (by kernel_rfl)) (by kernel_rfl) (by kernel_rfl) (by kernel_rfl) (alU _ (by kernel_rfl) (by kernel_rfl) (by kernel_rfl)))
  rfl (by kernel_rfl) rfl (by kernel_rfl) ?_ ?_
 ·intro ds hd
  match ds,hd with
  | [d0],_=>rfl
 ·intro tss h
  match tss,h with
  | [t0],⟨h0,_⟩=>
   obtain ⟨r0,u0,rfl,l0,e0,k0⟩:=Shp.sl_inv h0
   obtain rfl:=Shp.nil_inv k0
   obtain ⟨x0,rfl⟩:=akG e0
   exact ⟨_,anJ x0 (amn l0)⟩
theorem anA:Tryz.f7.isWrapper Tryz.prog Rows.fnApartRow.wrapper Rows.fnApartRow.mainSum:=by
 unfold Func.isWrapper; first | (rw [if_pos (by decide +kernel)]; kernel_rfl) | (rw [if_neg (by decide +kernel)]; exact ⟨rfl,rfl⟩)
theorem law_FnApart:Rows.FnApartSaid:=
 OpenClaim.holds_of_wide 7 Tryz.f7 rfl rfl rfl rfl rfl rfl rfl ⟨rfl,rfl,rfl,rfl,rfl⟩ rfl rfl rfl rfl rfl (by kernel_rfl) Tryz.func7 anz
  (of_decide_eq_true (by kernel_rfl)) anA
  (fun os started H enc _=>amW os started H enc)
theorem anB:Rows.fnApartRow.wfByText (OpenSpec.ofChange Rows.fnApartSpec)=true:=by kernel_rfl
theorem k2_FnApart:Tryz.prog.funcNamed "loop.example/g00285/laws.FnApart"=some 7:=by kernel_rfl
theorem anC:(Tryz.f7.params.toList.all fun u=>!Tryz.prog.wantsStandIn u)=true:=by kernel_rfl
theorem anD:false=Rows.fnApartRow.goesBy Tryz.prog:=by kernel_rfl
theorem card_FnApart:Rows.FnApartCardSaid:=
 Claim7.holds_tied_plain_at .later [] [.data,.pinned] true (true, "065b41267c4c5e9090da389464e58b88279cae34746055c8646bd41f1c814ac9") false
  law_FnApart (fun _ h=>by cases h) anB (fun _ h=>by cases h) fnApart_row_tie rfl ⟨rfl,rfl⟩ amB rfl
  (fun f fn hf hfn=>by
   obtain rfl:f=7:=Option.some.inj (k2_FnApart.symm.trans hf) |>.symm
   obtain rfl:fn=Tryz.f7:=(Option.some.inj (Tryz.func7.symm.trans hfn)).symm
   exact ⟨amp,fun j t ht=>by
    have:=lR.1 anC t (by simpa using Array.mem_of_getElem? ht)
    exact show Tryz.prog.wantsStandIn t=false by simpa using this⟩)
  anD
end
end Go.Proofs.YtnfeefcnblondaaGreatDoor.Awp

namespace Go.Proofs.YtnfeefcnblondaaGreatDoor
/-- the given statement -/
theorem provedFnApart : Rows.FnApartCardSaid := Awp.card_FnApart
end Go.Proofs.YtnfeefcnblondaaGreatDoor
#print axioms Go.Proofs.YtnfeefcnblondaaGreatDoor.provedFnApart
