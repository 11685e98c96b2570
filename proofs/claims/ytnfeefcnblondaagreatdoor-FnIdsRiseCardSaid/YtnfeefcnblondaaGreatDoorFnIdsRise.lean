/- The law FnIdsRise (no number is given twice; a name that was dropped may be) holds for every argument: the given statement is proved. Condition: none. -/
import Derived.Test.YtnfeefcnblondaaGreatDoorBase2
import Derived.Test.YtnfeefcnblondaaGreatDoorAwp3
import Derived.Test.YtnfeefcnblondaaGreatDoorRows
import Derived.Test.YtnfeefcnblondaaGreatDoorCards
import Derived.Test.YtnfeefcnblondaaGreatDoorTie
import Derived.Sort.Walk0
import Derived.Shelf.Lays
import Derived.Shelf.Sort.Plain
import Derived.Shelf.Slices.In.SortNone
import Derived.Shelf.Spec.SlicesInsert
import Derived.Shelf.Spec.SlicesInsertGrow
import Derived.Deep.MidRow
import Derived.ArgAppend
import Derived.Shelf.Strings.Search3
import Derived.Shelf.Strings.Count
import Derived.Shelf.Strings.OnBuilder
import Derived.Shelf.RegionOpenPlain
import Derived.WalkKit
import Derived.Deep.LoopGhost
import Derived.Deep.RegionLaw
import Derived.Lib.Walk
import Derived.Sort.WalkB12
import Derived.OpenShut
import Derived.SevenTiedAt
import Derived.KernelRfl
set_option linter.unusedVariables false
set_option linter.unusedSimpArgs false
set_option maxRecDepth 100000
set_option maxHeartbeats 20000000
open Nat (reduceEqDiff reduceAdd reduceMul reduceSub)
open Int (reduceNeg reduceToNat reducePow)
namespace Go.Proofs.YtnfeefcnblondaaGreatDoor.Awp
theorem uA1:type_of% @Nat.le_of_ble_eq_true:=@Nat.le_of_ble_eq_true
section
namespace W
end W
open I W
def fS:Cmd:=Q (R [e' 2 k0]) (Q (Q (R [a 12 0,c 13 10 [v 12]]) (F (v 13) (Q (R [e' 2 k1]) .ret) .skip)) (Q (R [a 15 0,c 16 34 [v 15],a 14 16,x 17 14 0,x 18 14 1,z 3 [.sl 6 [],.int .i64 0],s 3 17 2,e 4 18]) (Q (R [e' 5 (k 1)]) (Q (Q (R [e' 6 (k 0)]) (.blk 0 (.loop (Q (Q (R [a 19 6,g 20 .lss (v 19) (k 20)]) (F (v 20) .skip (.exit 0))) (Q (.blk 1 (Q (R [b 24 3 2,c 25 35 [v 24,k 1,.c (.str [97,103,97,105,110])],a 23 25,x 26 23 0,x 27 23 1,x 28 23 2,z 7 [.sl 6 [],.int .i64 0],s 7 26 2,e 8 27,e 9 28]) (Q (R [b 30 7 2,a 31 8,c 32 36 [v 30,v 31],a 29 32,x 33 29 0,x 34 29 1,z 10 [.sl 6 [],.int .i64 0],s 10 33 2,e 11 34]) (Q (Q (R [a 35 9,g 36 .neq (v 35) (k 0),a 37 36,ha 37 false 38 11,h 37 false 39 (bin 39 .neq (v 38) (k 0)),p 40 37 k1 (v 39),a 41 40,ha 41 false 42 8,ha 41 false 43 5,h 41 false 44 (bin 44 .add (v 43) (k 1)),h 41 false 45 (bin 45 .neq (v 42) (v 44)),p 46 41 k1 (v 45),a 47 46,hb 47 false 48 10 2,hc 47 false 49 37 [v 48],h 47 false 50 (un 50 .not (v 49)),p 51 47 k1 (v 50)]) (F (v 51) (Q (R [e' 2 k0]) .ret) .skip)) (Q (R [a 52 8,e 5 52]) (R [b 53 10 2,s 3 53 2])))))) (R [a 21 6,g 22 .add (v 21) (k 1),e 6 22])))))) (Q (R [a 54 4,a 55 54,h 55 true 56 (fld 56 (v 3) 1),h 55 true 57 (ld 57 (v 56) 1 false),h 55 true 58 (bin 58 .eql (v 57) (k 22)),p 59 55 (v 58) k0,e 2 59]) .ret)))))
def anf:Cmd:=Q (R [z 2 [.sl 6 [],.int .i64 0],e' 3 k0]) (Q (R [c 10 40 [],c 11 39 [v 10,.c (.str [109,97,105,110]),k 600],a 9 11,x 12 9 0,x 13 9 1,x 14 9 2,z 4 [.sl 6 [],.int .i64 0],s 4 12 2,e 5 13,e 6 14]) (Q (R [b 16 4 2,n 17 (bld 17 [.int .i64 0,.int .i64 0,.str [],.str [],.int .i64 0,.sl 1 []] [(0,1,k 2),(1,1,k 1),(2,1,.c (.str [47,102]))]),c 18 28 [v 16,v 17],a 15 18,x 19 15 0,x 20 15 1,s 4 19 2,e 7 20]) (Q (D [0,0,2,6,14,30,63,127,255,511,511,2047] [b 22 4 2,a 23 0,c 24 38 [v 23,k 2],n 25 (conv 25 .u8 (v 24)),o 26 1 [v 25,.c (.int .u8 1),.c (.int .u8 2)],n 27 (bld 27 [.int .i64 0,.int .i64 0,.str [],.str [],.int .i64 0,.sl 1 []] [(0,1,k 3),(1,1,k 1),(2,1,.c (.str [47,102])),(5,1,v 26)]),c 28 28 [v 22,v 27],a 21 28,x 29 21 0,x 30 21 1,s 4 29 2,e 8 30]) (Q (D [0,0,2,6,14,30,62,126,254,510,1022,2046,4094,8190,16382,32766,65534,4095,262143] [b 31 4 2,a 32 6,g 33 .eql (v 32) (k 0),a 34 33,ha 34 true 35 7,h 34 true 36 (bin 36 .eql (v 35) (k 0)),p 37 34 (v 36) k0,a 38 37,ha 38 true 39 8,h 38 true 40 (bin 40 .eql (v 39) (k 0)),p 41 38 (v 40) k0,a 42 41,h 42 true 43 (fld 43 (v 4) 0),h 42 true 44 (ld 44 (v 43) 1 false),h 42 true 45 (len 45 (v 44)),h 42 true 46 (bin 46 .eql (v 45) (k 1)),p 47 42 (v 46) k0,s 2 31 2,e 3 47]) .ret))))
def k7:Cmd:=Q (R [n 3 (box 3 (v 0)),z 6 [.sl 6 [],.int .i64 0],e' 7 (k 0),e' 8 (k 0)]) (Q (R [b 9 3 2,a 10 1,a 11 2,c 12 97 [v 9,v 10,v 11,k1],x 13 12 0,x 14 12 1,x 15 12 2,s 6 13 2,e 7 14,e 8 15]) .ret)
def kC:Cmd:=Q (R [n 2 (box 2 (v 0)),z 4 [.sl 6 [],.int .i64 0],e' 5 (k 0)]) (Q (R [b 7 2 2,c 8 90 [v 7],s 2 8 2]) (Q (Q (R [b 9 2 2,c 10 37 [v 9],n 11 (un 11 .not (v 10))]) (F (v 11) (Q (R [b 12 2 2,s 4 12 2,e' 5 (k 1)]) .ret) .skip)) (Q (R [b 13 2 2,a 14 1,c 15 46 [v 13,v 14],e 6 15]) (Q (Q (R [a 16 6,g 17 .lss (v 16) (k 0)]) (F (v 17) (Q (R [b 18 2 2,s 4 18 2,e' 5 (k 2)]) .ret) .skip)) (Q (R [f 19 2 0,b' 20 19 1,a 21 6,a 22 6,g 23 .add (v 22) (k 1),c 24 98 [v 20,v 21,v 23],f 25 2 0,s 25 24 1]) (Q (R [b 26 2 2,s 4 26 2,e' 5 (k 0)]) .ret))))))
def kE:Cmd:=Q (R [n 4 (box 4 (v 0)),z 8 [.sl 6 [],.int .i64 0],e' 9 (k 0),e' 10 (k 0)]) (Q (R [b 12 4 2,c 13 90 [v 12],s 4 13 2]) (Q (Q (R [b 14 4 2,c 15 37 [v 14],n 16 (un 16 .not (v 15)),a 17 16,ha 17 false 18 2,hc 17 false 19 60 [v 18],h 17 false 20 (un 20 .not (v 19)),p 21 17 k1 (v 20)]) (F (v 21) (Q (R [b 22 4 2,s 8 22 2,e' 9 (k 0),e' 10 (k 1)]) .ret) .skip)) (Q (R [b 23 4 2,a 24 1,c 25 46 [v 23,v 24],e 11 25]) (Q (Q (R [a 26 11,g 27 .lss (v 26) (k 0)]) (F (v 27) (Q (R [b 28 4 2,s 8 28 2,e' 9 (k 0),e' 10 (k 2)]) .ret) .skip)) (Q (D [0,0,0,0,8,0,56,120,248,0,512,0,3584,7680,15872,32766,65535,131071,262143,524287,1048575,2097151,4194303] [b 29 4 2,a 30 2,a 31 3,f 32 4 0,b' 33 32 1,a 34 11,i 35 33 34 6,f 36 35 3,b' 37 36 1,f 38 4 0,b' 39 38 1,a 40 11,i 41 39 40 6,f 42 41 4,b 43 42 2,n 44 (bld 44 [.int .i64 0,.str [],.bool false,.int .i64 0,.sl 6 [],.int .i64 0] [(1,1,v 30),(2,1,v 31),(3,1,v 37),(4,2,v 43)]),c 45 102 [v 29,v 44],x 46 45 0,x 47 45 1,x 48 45 2,s 8 46 2,e 9 47,e 10 48]) .ret)))))
end
theorem kR:aG Tryz.prog 5=some (60,[.t 2],fS):=by kernel_rfl
theorem anl:aG Tryz.prog 34=some (48,[.c 2 2 true,.t 3],anf):=by kernel_rfl
theorem am8:aG Tryz.prog 35=some (16,[.c 6 2 true,.t 7,.t 8],k7):=by kernel_rfl
theorem kN:aG Tryz.prog 36=some (27,[.c 4 2 true,.t 5],kC):=by kernel_rfl
theorem kV:aG Tryz.prog 97=some (49,[.c 8 2 true,.t 9,.t 10],kE):=by kernel_rfl
section
section
variable {α β γ:Type} (f:α→Int→β) (g:α→β) (c:α→Nat)
end
section
variable {α:Type} (r:α→List TV) (f:α→Int→α) (c:α→Nat)
end
theorem ana (k:Int):IntKind.u8.wrap k=((UInt8.ofInt k).toNat:Int):=by
 have e:IntKind.u8.wrap k=k%256:=by
  have h1:((2:Int)^IntKind.u8.bits)=256:=by decide
  unfold IntKind.wrap
  simp only [h1]
  simp [IntKind.signed]
 rw [e]
 simp [UInt8.ofInt]
 omega
end
theorem ang (f:Fs) (k:Nat) (n:aA) (ro:Bool) (l:Int) (hk:k<f.vols.length) (h:f.sz<2^40) (hn:n.length<2^30) (hf:f.vols.length≤6∧1≤f.next∧f.next≤99) :
  aed Tryz.prog 102 [.own 6 (f.vols.map Vol.row),.int .i64 f.next] [.int .i64 0,.str n,.bool ro,.int .i64 l,.lnk 1032 0 [⟨k,6,4⟩],.int .i64 (f.vols[k]).t.next]
   (.tup [(nG f { id:=0,name:=n,ro:=ro,limit:=l,t:=(f.vols[k]).t }).1.o,.int .i64 (nG f { id:=0,name:=n,ro:=ro,limit:=l,t:=(f.vols[k]).t }).2.1,.int .i64 (nG f { id:=0,name:=n,ro:=ro,limit:=l,t:=(f.vols[k]).t }).2.2]) [.agg [.undef,.int .i64 f.next],.undef]:=by
 have hV:=nZ f n (by omega)
 have hk':((k:Nat):Int)<(f.vols.length:Nat):=by omega
 have ht:=(aly h).2 _ (lD1 hk)
 cases e1:eS f n with
 | some j=>
  rw [e1,show p8 (some j)=(j:Int) from rfl] at hV
  simp only [nG,e1]
  refine ame hmx mK [] 127 (uA1 rfl) rfl (uA1 rfl) rfl ?_
  intro w hP hQ
  unfold iS
  refine N ?_
  have hz:=(dJ hk')
  refine Nz ?_
  have hz:=(dJ hk')
  refine Kz (hV) ?_
  (first | with_reducible refine gQ _ ?_ ?_ | refine gR _ ?_ ?_) <;> intro hx
  ·have hz:=(dJ hk')
   exact Nz trivial
  ·exfalso; omega
 | none=>
  rw [e1] at hV
  simp only [nG,e1]
  by_cases h6:f.vols.length=6
  ·rw [lE (.inl h6)]
   refine ame hmx mK [] 127 (uA1 rfl) rfl (uA1 rfl) rfl ?_
   intro w hP hQ
   unfold iS
   refine N ?_
   have hz:=(dJ hk')
   refine Nz ?_
   have hz:=And.intro h6 (dJ hk')
   exact Kz (hV) trivial
  by_cases h9:f.next=99
  ·rw [lE (.inr h9)]
   refine ame hmx mK [] 127 (uA1 rfl) rfl (uA1 rfl) rfl ?_
   intro w hP hQ
   unfold iS
   refine N ?_
   have hz:=(dJ hk')
   refine Nz ?_
   have hz:=And.intro h6 (And.intro h9 (dJ hk'))
   refine Kz (hV) ?_
   (first | with_reducible refine ad8 _ ?_ ?_ | refine ad9 _ ?_ ?_) <;> intro hg
   ·exfalso; omega
   have hz:=And.intro hg (And.intro h9 (dJ hk'))
   exact Nz trivial
  rw [lH (by omega)]
  refine ame hmx mK [] 127 (uA1 rfl) rfl (uA1 rfl) rfl ?_
  intro w hP hQ
  unfold iS
  refine N ?_
  have hz:=(dJ hk')
  refine Nz ?_
  have hz:=(dJ hk')
  refine Kz (hV) ?_
  (first | with_reducible refine ad8 _ ?_ ?_ | refine ad9 _ ?_ ?_) <;> intro hg
  ·exfalso; omega
  have hz:=And.intro hg (dJ hk')
  refine Nz ?_
  (first | with_reducible refine gQ _ ?_ ?_ | refine gR _ ?_ ?_) <;> intro hg2
  ·exfalso; omega
  have hz:=(dJ hk')
  refine Nz ?_
  have hz:=(dJ hk')
  refine Kz (f7 (f.vols[k]).t ht) ?_
  simp only [amA,Fs.o,aiq]
  rfl
theorem anj (f:Fs) (i:Int) (n:aA) (ro:Bool) (h:f.sz<2^40) (hn:n.length<2^30) :
  bZ Tryz.prog 97 [f.x,.int .i64 i,.str n,.bool ro] (.tup [(alY f i n ro).1.o,.int .i64 (alY f i n ro).2.1,.int .i64 (alY f i n ro).2.2]) [.undef,.undef,.undef,.undef]:=by
 obtain ⟨h1,h2⟩:=aly h
 have hV:=aid f i (by omega)
 have hF:=af7 f h
 have hN:=bY n (by omega)
 rcases m0 (fsB f) with e1 | e1
 ·rw [e1] at hF
  rw [alY,lH (by simp [e1])]
  refine U kV [(102,[.m],[])] 3871 [] fun w hP hQ=>?_
  unfold kE
  refine N ?_
  refine K (d6 f h) ?_
  exact K (hF) trivial
 rw [e1] at hF
 rcases m0 (aS n) with e2 | e2
 ·rw [e2] at hN
  rw [alY,lH (by simp [e2])]
  refine U kV [(102,[.m],[])] 3871 [] fun w hP hQ=>?_
  unfold kE
  refine N ?_
  refine K (d6 f h) ?_
  refine K (hF) ?_
  exact K (hN) trivial
 rw [e2] at hN
 rw [alY,lE ⟨e1,e2⟩]
 cases e3:mZ f i with
 | none=>
  rw [e3] at hV
  refine U kV [(102,[.m],[])] 3871 [] fun w hP hQ=>?_
  unfold kE
  refine N ?_
  refine K (d6 f h) ?_
  refine K (hF) ?_
  refine K (hN) ?_
  exact K (hV) trivial
 | some k=>
  have hk:=aio e3
  have hk':((k:Nat):Int)<(f.vols.length:Nat):=by omega
  rw [e3,show p8 (some k)=(k:Int) from rfl] at hV
  simp only [lJ hk]
  have hA:=ang f k n ro (f.vols[k]).limit hk h hn (ako e1)
  generalize nG f { id:=0,name:=n,ro:=ro,limit:=(f.vols[k]).limit,t:=(f.vols[k]).t }=r at *
  refine U kV [(102,[.m],[])] 3871 [] fun w hP hQ=>?_
  unfold kE
  refine N ?_
  refine K (d6 f h) ?_
  refine K (hF) ?_
  refine K (hN) ?_
  refine K (hV) ?_
  (first | with_reducible refine gQ _ ?_ ?_ | refine gR _ ?_ ?_) <;> intro hx
  ·exfalso; omega
  have hz:=(dJ hk')
  refine Nz ?_
  (first|refine cK hP (hA) rfl rfl ?_|refine cKH hP (hA) rfl rfl ?_)
  exact N trivial
theorem anb (f:Fs) (i:Int) (n:aA) (h:f.sz<2^40) (hn:n.length<2^30) :
  bZ Tryz.prog 35 [f.x,.int .i64 i,.str n] (.tup [(alY f i n true).1.o,.int .i64 (alY f i n true).2.1,.int .i64 (alY f i n true).2.2]) [.undef,.undef,.undef]:=by
 have hA:=anj f i n true h hn
 generalize alY f i n true=r at *
 refine U am8 [] 463 [] fun w hP hQ=>?_
 unfold k7
 refine N ?_
 exact K (hA) trivial
section
variable {f:Fs}
theorem anh (h:fsB f=true) (i:Int) (n:aA) (ro:Bool):fsB (alY f i n ro).1=true:=by
 unfold alY
 split
 ·rename_i hc
  split
  ·exact h
  ·split
   ·exact h
   ·rename_i k _ v hv
    have o:=((jJ f).1 h).vol v (lW2 hv)
    exact (jJ _).2 (agu ((jJ f).1 h) hc.2 o.lim o.tree o.use)
 ·exact h
end
def vM (l:Int) (d:aA):Vol:={ id:=1,name:=[109,97,105,110],ro:=false,limit:=l,t:=t2 d }
def kW (l:Int) (d:aA) (k:Int):Fs:={ vols:=[vM l d,{ id:=k,name:=[97,103,97,105,110],ro:=true,limit:=l,t:=t2 d }],next:=k+1 }
theorem anm {l:Int} {d:aA} {k:Int} (hl:32≤l∧l≤4000) (hd:d.length≤100) (hu:64+(d.length:Int)≤l) (hk:2≤k∧k≤98):alY (f1 l (t2 d) k) 1 [97,103,97,105,110] true=(kW l d k,k,0):=by
 rw [alY,lE ⟨amk hl hd hu (by omega),by decide⟩]
 show nG (f1 l (t2 d) k) { id:=0,name:=[97,103,97,105,110],ro:=true,limit:=l,t:=t2 d }=_
 rw [nG]
 have e:eS (f1 l (t2 d) k) [97,103,97,105,110]=none:=by rfl
 simp only [e]
 rw [lH (show ¬ ((f1 l (t2 d) k).vols.length=6∨(f1 l (t2 d) k).next=99) from fun h=>h.elim (fun h=>by simp [f1] at h) (fun h=>by have:k=99:=h; omega))]
 rfl
theorem ano {l:Int} {d:aA} {k:Int} (hl:32≤l∧l≤4000) (hd:d.length≤100) (hu:64+(d.length:Int)≤l) (hk:2≤k∧k≤98):fG (kW l d k) k=(f1 l (t2 d) (k+1),0):=by
 have hB:fsB (kW l d k)=true:=by
  have:=anh (amk (n:=k) hl hd hu (by omega)) 1 [97,103,97,105,110] true
  rw [anm hl hd hu hk] at this; exact this
 rw [fG,lE hB]
 have e:mZ (kW l d k) k=some 1:=by
  have h1:decide ((1:Int)=k)=false:=lO (by omega)
  simp [mZ,kW,vM,List.findIdx?_cons,h1]
 rw [e]
 rfl
section
open Go.Proofs Go.Shelf Go.RowKit Go.Lib Go.Sort
theorem o4 {P:Program} (w:World) (t e ty:TypeId) (z:Value) (ht:P.underlying t=some (.slice e)) (hv:∀ w,(zeroValue e).run P w=.ok z w) (b o c:Nat) (h0:0<z.cells.size)
  (hc:∀ j,j<z.cells.size→(w.cell? ⟨b,o+j,none⟩).isSome=true) (hf:∀ j,j<z.cells.size→w.frozen? ⟨b,o+j,none⟩=false) (h1:∀ v ∈ z.cells.toList,v.oneCell'=true) :
  (Builtin.clear_ #[t] ty #[.slice (some ⟨b,o,none⟩) 1 c]).run P w=.ok (.tuple #[]) (w.setCells b o z.cells.toList):=by
 have hzc:(Builtin.zeroCells z.cells 1).toList=z.cells.toList:=by rw [tT _ _ h0]; simp
 have hst:=run_storeCells_cells (P:=P) b o z.cells.toList 0 w (by simpa using hc) (by simpa using hf) h1
 simp only [lF3] at hst
 simp [Builtin.clear_,run_underlying ht,hv,hzc,hst]
theorem ank {P:Program} {f s:Nat} {es:List (List TV)} {i:Nat} (hE:j6 P f) (hs:∀ r ∈ es,r.length=s) (hk:es.flatten.all cP=true) (hi:i<es.length) (zs:List Value) (hz:zs.length=s)
  (run:∀ (w:World) (blk off cap:Nat) (cs:List Value),cs.length=es.length*s→(∀ t u,cs[t]?=some u→w.cell? ⟨blk,off+t,none⟩=some u)→(∀ t,t<es.length*s→w.frozen? ⟨blk,off+t,none⟩=false) →
   (∀ u ∈ cs,u.oneCell'=true)→es.length≤cap →
   Calls P f #[.slice (some ⟨blk,off,none⟩) es.length cap,.int .i64 i,.int .i64 ((i+1:Nat):Int)] w fun e w'=>e=.returned (.slice (some ⟨blk,off,none⟩) (i+(es.length-(i+1))) cap) ∧
    w'=(w.drew.setCells blk (off+i*s) (cs.drop ((i+1)*s))).setCells blk (off+(i+(es.length-(i+1)))*s) zs) :
  bZ P f [.own s es,.int .i64 i,.int .i64 ((i:Int)+1)] (.own s (es.eraseIdx i)) [.undef,.undef,.undef]:=by
 refine ⟨hE,rfl,?_⟩
 intro w vs F X r h1 h2 h3
 cases r with
 | own _ F1 F2 _ s es v vs ys hr hn hF=>
  cases hn with
  | int _ _ _ _ vs _ hn=>
  cases hn with
  | int _ _ _ _ vs _ hn=>
  cases hn with
  | nil _ _ hF2 hX=>
   rcases Row.sl_inv hr with ⟨rfl,he,h0⟩ | ⟨G1,b,off,cap,C,ty,fr,cs,rfl,hb,hfr,an,ai,hes,ac,hc,ag,hG⟩
   ·subst he; simp at hi
   ·have aa:∀ t u,cs[t]?=some u→w.cell? ⟨b,off+t,none⟩=some u:=by
     intro t u hu
     have ht:=(lD.1 hu).1
     simp [World.cell?,hb,hc t ht,hu]
    have ao:∀ t,t<es.length*s→w.frozen? ⟨b,off+t,none⟩=false:=by
     intro t ht
     have h5:es.length*s≤cap*s:=lA1 s ai
     have:=hfr.1 (off+t) (by omega)
     simp [World.frozen?,hb]
     simpa using this
    have hbl:b<w.heap.size:=(Array.getElem?_eq_some_iff.1 hb).1
    refine (run w b off cap cs ac aa ao (kG ag hk) ai).mono ?_
    rintro e w' ⟨rfl,hw⟩
    have hmul:es.length*s≤cap*s:=lA1 s ai
    obtain ⟨m,hm⟩:∃ m,es.length=i+(m+1):=⟨es.length-(i+1),by omega⟩
    have e0:es.length-(i+1)=m:=by omega
    rw [e0] at hw ⊢
    have hL:es.length*s=i*s+(m*s+s):=by rw [hm,lF2,lF2,lI4]
    have hJ:(i+1)*s=i*s+s:=by rw [lF2,lI4]
    have hO:(i+m)*s=i*s+m*s:=lF2 _ _ _
    have ae:(cs.drop ((i+1)*s)).length=m*s:=by rw [lN1,ac,hL,hJ]; omega
    obtain ⟨C1,hC1,hw1,ho1,ap⟩:=cW b (cs.drop ((i+1)*s)) (off+i*s) w.drew C ty fr hb (by rw [ae]; omega)
    have al:C1.size=C.size:=by
     have:C1.toList.length=C.toList.length:=by rw [hC1,eO _ _ _ (by rw [ae,lC1]; omega)]
     simpa using this
    obtain ⟨C2,hC2,hw2,ho2,am⟩:=cW b zs (off+(i+m)*s) _ C1 ty fr hw1 (by rw [al,hO,hz]; omega)
    have hs2:C2.size=C.size:=by
     have:C2.toList.length=C1.toList.length:=by rw [hC2,eO _ _ _ (by rw [hz,lC1,al,hO]; omega)]
     rw [← al]; simpa using this
    rw [← hw] at hw2 ho2 am
    have aq:∀ r ∈ es.eraseIdx i,r.length=s:=fun r hr=>hs r (List.mem_of_mem_eraseIdx hr)
    have ar:(es.eraseIdx i).length=i+m:=by rw [List.length_eraseIdx,lE hi]; omega
    have efl:es.flatten=(es.take i).flatten++((es[i]::es.drop (i+1)).flatten):=by
     rw [← lS1,← lY2 hi,lI]
    have efe:(es.eraseIdx i).flatten=(es.take i).flatten++(es.drop (i+1)).flatten:=by
     rw [List.eraseIdx_eq_take_drop_succ,lS1]
    have l1:(es.take i).flatten.length=i*s:=by rw [bP _ (fun e he=>hs e (lU1 he)),lL,lE1 (by omega)]
    have l2:(es[i]).length=s:=hs _ (lD1 hi)
    have ecs:cs=cs.take (i*s)++((cs.drop (i*s)).take s++cs.drop ((i+1)*s)):=by
     rw [hJ,← lJ2,lI,lI]
    rw [ecs,efl,lS2] at ag
    obtain ⟨A1,B1,r1,r2,eA⟩:=Row.split (cs.take (i*s)) _ (by rw [l1,lL,ac,hL]; omega) ag
    obtain ⟨A2,A3,r2,r3,eB⟩:=Row.split ((cs.drop (i*s)).take s) _ (by rw [l2,lL,lN1,ac,hL]; omega) r2
    have hF1:∀ x,F1 x≤1:=fun x=>by have:=h1 x; have:=hF x; omega
    have hA:∀ x,A1 x+A3 x≠0→x≠b:=fun x hx e=>by subst e; have:=hF1 x; have:=hG x; have:=eA x; have:=eB x; simp at *; omega
    have af:∀ x,x≠b→w'.heap[x]?=w.heap[x]?:=fun x hx=>(ho2 x hx).trans (ho1 x hx)
    have rnew:Row w' true (fun x=>A1 x+A3 x) (cs.take (i*s)++cs.drop ((i+1)*s)) (es.eraseIdx i).flatten:=by
     rw [efe]
     exact (Row.append r1 r3 (fun _=>rfl)).same (fun x hx=>af x (hA x hx))
    have au:(cs.take (i*s)++cs.drop ((i+1)*s)).length=(es.eraseIdx i).length*s:=by
     rw [lK1,ae,lL,ac,hL,ar,hO]; omega
    have av:Row w' true (fun x=>(if x=b then 1 else 0)+(A1 x+A3 x)) [.slice (some ⟨b,off,none⟩) (i+m) cap] [.sl s (es.eraseIdx i)]:=by
     refine Row.of_sl (F1:=fun x=>A1 x+A3 x) ar.symm hw2 (by rw [hs2]; exact hfr) (by rw [hs2]; exact an) (by omega) aq au ?_ rnew (fun _=>rfl)
     intro k hk
     rw [au,ar,hO] at hk
     have g2:C2[off+k]?=C1[off+k]?:=by
      rw [← lV1,← lV1,hC2,lay,lU2,lM2 (by rw [lL,lC1,al,hO]; omega),lI1,lE (by rw [hO]; omega)]
     rw [g2,← lV1,hC1,lay,lU2]
     have hct:(C.toList.take (off+i*s)).length=off+i*s:=by rw [lL,lC1]; omega
     by_cases hki:k<i*s
     ·rw [lM2 (by omega),lI1,lE (by omega),lV1,hc k (by rw [ac]; omega),lM2 (by rw [lL,ac,hL]; omega),lI1,lE hki]
     ·rw [lL2 (by omega),hct,lM2 (by rw [ae]; omega),lL2 (by rw [lL]; omega),lL,ac,lE1 (by omega)]
      congr 1
      omega
    have ah:∀ x,(if x=b then 1 else 0)+(A1 x+A3 x)≤F x:=fun x=>by have:=hF x; have:=hG x; have:=eA x; have:=eB x; omega
    have hbF:F b≠0:=by have:=hF b; have:=hG b; simp at this; omega
    have hsz:w'.heap.size=w.heap.size:=am.size.trans ap.size
    refine ⟨_,fun x=>(if x=b then 1 else 0)+(A1 x+A3 x),X,rfl,?_,fun x=>by have:=ah x; have:=h1 x; (try dsimp only); omega,fun x=>?_,⟨by rw [hsz]; exact Nat.le_refl _,⟨am.quiet.os.trans ap.quiet.os,am.quiet.out.trans ap.quiet.out⟩⟩,fun x _ h0=>af x (fun e=>hbF (e ▸ h0)),fun x hx=>.inl (by have:=ah x; (try dsimp only at hx); omega),fun x hx=>⟨.inl hx,by rw [hsz]; exact h3 x hx⟩⟩
    ·exact .own _ (fun x=>(if x=b then 1 else 0)+(A1 x+A3 x)) (fun _=>0) X s _ _ _ _ av (.undef _ _ _ _ _ (.undef _ _ _ _ _ (.undef _ _ _ _ _ (.nil _ _ (fun _=>rfl) hX)))) (fun x=>by simp)
    ·have:=ah x; have:=h2 x; (try dsimp only); omega
end
section
open Go.Proofs Go.Shelf Go.RowKit Go.Lib Go.Sort
set_option maxHeartbeats 4000000 in
set_option maxRecDepth 1000000 in
theorem l3 {blk off len cap i j:Nat} {cs:List Value} {w:World} (ac:cs.length=len*6) (hc:∀ t u,cs[t]?=some u→w.cell? ⟨blk,off+t,none⟩=some u)
  (aj:∀ t,t<len*6→w.frozen? ⟨blk,off+t,none⟩=false) (h1:∀ u ∈ cs,u.oneCell'=true) (hlen:len≤cap) (hi:i<len) (hji:j=i+1) :
  Calls Tryz.prog 98 #[.slice (some ⟨blk,off,none⟩) len cap,.int .i64 i,.int .i64 j] w fun e w'=>e=.returned (.slice (some ⟨blk,off,none⟩) (i+(len-j)) cap) ∧
   w'=(w.drew.setCells blk (off+i*6) (cs.drop (j*6))).setCells blk (off+(i+(len-j))*6) [.int .i64 0,.string { data:=#[] },.bool false,.int .i64 0,.slice none 0 0,.int .i64 0]:=by
 have mixed:Tryz.prog.follows .mixedOrders=true:=by kernel_rfl
 have t0:=Tryz.underlying0
 have a0:=Tryz.isAgg0
 have z0:=Tryz.sizeOf0
 have v0:=Tryz.zeroValue0
 have t3:=Tryz.underlying3
 have a3:=Tryz.isAgg3
 have z3:=Tryz.sizeOf3
 have v3:=Tryz.zeroValue3
 have t4:=Tryz.underlying4
 have a4:=Tryz.isAgg4
 have z4:=Tryz.sizeOf4
 have v4:=Tryz.zeroValue4
 have t46:=Tryz.underlying46
 have a46:=Tryz.isAgg46
 have z46:=Tryz.sizeOf46
 have v46:=Tryz.zeroValue46
 have v75:=Tryz.zeroValue75
 have iE:(Tryz.prog.info? 75).map (fun i=>(i.zero,i.size,i.bytes))=some (some (.agg #[.int .i64 0,.string { data:=#[] },.bool false,.int .i64 0,.slice none 0 0,.int .i64 0]),6,72):=by kernel_rfl
 obtain ⟨i0,hi0,hz0,hz1,hz2⟩:=info_parts iE
 obtain ⟨news,ab⟩:∃ news,news=cs.drop (j*6):=⟨_,rfl⟩
 have ae:news.length=(len-j)*6:=by rw [ab,lN1,ac]; omega
 have ak:∀ (t:Nat) (u:Value),news[t]?=some u→w.cell? ⟨blk,off+(j*6+t),none⟩=some u:=by
  intro t u h
  rw [ab,lJ1] at h
  exact hc _ u h
 obtain ⟨A,hA,aw⟩:∃ A:Addr,(if cap=j then some (⟨blk,off,none⟩:Addr) else some ⟨blk,off+j*6,none⟩)=some A∧Hid (∀ t u,news[t]?=some u→w.drew.cell? (A.add t)=some u):=by
  by_cases h:cap=j
  ·refine ⟨⟨blk,off,none⟩,by simp [h],fun t u hu=>?_⟩
   have h0:news.length=0:=by rw [ae]; omega
   rw [lP1.1 h0] at hu
   simp at hu
  ·refine ⟨⟨blk,off+j*6,none⟩,by simp [h],fun t u hu=>?_⟩
   rw [Addr.add_lit,lK2]
   exact ak t u hu
 have s1:Hid (news.length=(len-j)*6):=ae
 have s2:Hid (∀ u ∈ news,u.oneCell'=true):=fun u hu=>h1 u (by rw [ab] at hu; exact lE2 hu)
 have aa:∀ t,t<len*6→(w.cell? ⟨blk,off+t,none⟩).isSome=true:=by
  intro t ht
  rw [hc t _ (lJ (by omega))]; rfl
 have s3:Hid (∀ t,t<news.length→(w.drew.cell? ⟨blk,off+i*6+t,none⟩).isSome=true∧w.drew.frozen? ⟨blk,off+i*6+t,none⟩=false):=by
  intro t ht
  rw [ae] at ht
  rw [lK2]
  exact ⟨aa _ (by omega),aj _ (by omega)⟩
 obtain ⟨W1,ax⟩:∃ W1,W1=w.drew.setCells blk (off+i*6) news:=⟨_,rfl⟩
 have ad:∀ t,t<len*6→(W1.cell? ⟨blk,off+t,none⟩).isSome=true∧W1.frozen? ⟨blk,off+t,none⟩=false:=by
  intro t ht
  rw [ax]
  exact ⟨World.isSome_setCells _ _ _ _ _ (aa t ht),by rw [World.frozen?_setCells]; exact aj t ht⟩
 have au:∀ ty,(Builtin.clear_ #[46] ty #[.slice (some ⟨blk,off+(i+(len-j))*6,none⟩) (len-(i+(len-j))) (cap-(i+(len-j)))]).run Tryz.prog W1=.ok (.tuple #[]) (W1.setCells blk (off+(i+(len-j))*6) [.int .i64 0,.string { data:=#[] },.bool false,.int .i64 0,.slice none 0 0,.int .i64 0]):=by
  intro ty
  rw [show len-(i+(len-j))=1 by omega]
  exact o4 W1 46 75 ty _ t46 v75 blk _ _ (by decide) (fun k hk=>by
   have hk6:k<6:=hk
   rw [lK2]; exact (ad _ (by omega)).1) (fun k hk=>by
   have hk6:k<6:=hk
   rw [lK2]; exact (ad _ (by omega)).2) (by decide)
 have hW:Hid (W1=w.drew.setCells blk (off+i*6) news):=ax
 have hic:i≤cap:=by omega
 have hjc:j≤cap:=by omega
 have hij:i≤j:=by omega
 have hjl:j≤len:=by omega
 have hlt:i<j:=by omega
 rw [← ab]
 clear ac hc aj h1 ak aa ae ad ax ab hji
 go_enter Tryz.func98,Tryz.ntmps98
 go_wp2_with fail
 go_region_law_o (refine step_append_room rfl (.tmp 22) (.tmp 25) 46 rfl 75 i0 6 t46 hi0 hz1 blk off i cap (by simp [Act.eval,Act.put]) A (len-j) (cap-j) news (by simp [Act.eval,Act.put]) s1.out aw.out s2.out (by omega) s3.out ?_; rw [← hW.out])
 go_wp2
 go_ret
 exact ⟨rfl,by rw [hW.out]⟩
theorem amW (l:List Vol) (i:Nat) (hi:i<l.length):bZ Tryz.prog 98 [.own 6 (l.map Vol.row),.int .i64 i,.int .i64 ((i:Int)+1)] (.own 6 ((l.eraseIdx i).map Vol.row)) [.undef,.undef,.undef]:=by
 have hr6:∀ r ∈ l.map Vol.row,r.length=6:=fun r hr=>by obtain ⟨x,_,rfl⟩:=lZ1.1 hr; rfl
 have hkn:(l.map Vol.row).flatten.all cP=true:=by
  rw [lR]
  intro t ht
  obtain ⟨r,hr,ht⟩:=List.mem_flatten.1 ht
  obtain ⟨x,_,rfl⟩:=lZ1.1 hr
  exact lR.1 (show (Vol.row x).all cP=true from rfl) t ht
 have hl:(l.map Vol.row).length=l.length:=lR1 _
 rw [show (l.eraseIdx i).map Vol.row=(l.map Vol.row).eraseIdx i by simp [List.eraseIdx_eq_take_drop_succ]]
 generalize l.map Vol.row=es at *
 refine ank (s:=6) ⟨_,Tryz.func98,by kernel_rfl,by kernel_rfl⟩ hr6 hkn (by omega) [.int .i64 0,.string { data:=#[] },.bool false,.int .i64 0,.slice none 0 0,.int .i64 0] rfl fun w blk off cap cs ac hc aj h1 ai=>?_
 have:=l3 (j:=i+1) ac hc aj h1 ai (by omega) rfl
 exact this
end
theorem anc (f:Fs) (i:Int) (h:f.sz<2^40):bZ Tryz.prog 36 [f.x,.int .i64 i] (.tup [(fG f i).1.o,.int .i64 (fG f i).2]) [.undef,.undef]:=by
 obtain ⟨h1,h2⟩:=aly h
 have hV:=aid f i (by omega)
 have hF:=af7 f h
 rcases m0 (fsB f) with e1 | e1
 ·rw [e1] at hF
  rw [fG,lH (by simp [e1])]
  refine U kN [(98,[.m,.b,.b],[])] 119 [] fun w hP hQ=>?_
  unfold kC
  refine N ?_
  refine K (d6 f h) ?_
  exact K (hF) trivial
 rw [e1] at hF
 rw [fG,lE e1]
 cases e3:mZ f i with
 | none=>
  rw [e3] at hV
  refine U kN [(98,[.m,.b,.b],[])] 119 [] fun w hP hQ=>?_
  unfold kC
  refine N ?_
  refine K (d6 f h) ?_
  refine K (hF) ?_
  exact K (hV) trivial
 | some k=>
  have hk:=aio e3
  rw [e3,show p8 (some k)=(k:Int) from rfl] at hV
  refine U kN [(98,[.m,.b,.b],[])] 119 [] fun w hP hQ=>?_
  unfold kC
  refine N ?_
  refine K (d6 f h) ?_
  refine K (hF) ?_
  refine K (hV) ?_
  (first | with_reducible refine gQ _ ?_ ?_ | refine gR _ ?_ ?_) <;> intro hx
  ·exfalso; omega
  refine N ?_
  refine K (amW f.vols k hk) ?_
  rfl
theorem anp (n:Nat):IntKind.u8.wrap (n:Int)=((UInt8.ofNat n).toNat:Int):=by
 rw [ana]
 have:UInt8.ofInt (n:Int)=UInt8.ofNat n:=by simp [UInt8.ofInt]; apply UInt8.toNat_inj.1; simp; omega
 rw [this]
theorem ann (n:Nat) (h:n<256):IntKind.u8.wrap (n:Int)=(n:Int):=by
 rw [anp]
 have:(UInt8.ofNat n).toNat=n:=by simp; omega
 rw [this]
theorem ane (x:Nat) (hx:x<256):aM [UInt8.ofNat x,1,2]=[[TV.int .u8 (x:Int)],[TV.int .u8 1],[TV.int .u8 2]]:=by simp [aM]; omega
theorem ani {P:Program} {f:FuncId} {x:Fs} {a b n:Int} {p q:aA} {r:List (List TV)} {outs:List AV} {ret:AV} (h:bZ P f [x.x,.agg [.int .i64 a,.int .i64 b,.str p,.str q,.int .i64 n,.ext 1 r]] ret outs):bZ P f [x.x,.agg [.int .i64 a,.int .i64 b,.str p,.str q,.int .i64 n,.own 1 r]] (amd ret) outs:=
 alj (alk h rfl fun w F X vs r=>by simpa only [ali,amd,Fs.x] using RepA.frz r)
theorem anq (b:aA) (hl:b.length<2^48) {x:Nat} (hx:x<256) (ka:bZ Tryz.prog 38 [.ext 1 (aM b),.int .i64 2] (.int .i64 x) [.undef,.undef]) :
  bZ Tryz.prog 34 [.ext 1 (aM b)] (.tup [(f1 600 (t2 [UInt8.ofNat x,1,2]) 2).x,.bool true]) [.undef]:=by
 have k0:bZ Tryz.prog 40 [] fsN.o []:=alX
 have k1:=alC fsN [109,97,105,110] 600 (by decide) (by decide)
 rw [alK (by omega)] at k1
 have k2:=alQ (f1 600 tab1 2) 1 [47,102] (by decide) (by decide)
 rw [amj (by omega)] at k2
 have k3:=alR (f1 600 (t2 []) 2) 1 [47,102] [UInt8.ofNat x,1,2] (by decide) (by decide) (by simp)
 rw [al1 (by omega) (by simp) (by simp) (by omega) (by simp),aiA,lE (by simp)] at k3
 have hl1:(f1 600 (t2 [UInt8.ofNat x,1,2]) 2).vols.length=1:=rfl
 simp only [opN,Op.x,ane x hx,show aM []=[] from rfl] at k2 k3
 generalize f1 600 (t2 [UInt8.ofNat x,1,2]) 2=F3 at *
 generalize f1 600 (t2 []) 2=F2 at *
 generalize f1 600 tab1 2=F1 at *
 generalize fsN=F0 at *
 have hw:=ann x hx
 have g0:bZ Tryz.prog 40 [] F0.x []:=alj k0
 have g1:bZ Tryz.prog 39 _ (.tup [F1.x,.int .i64 1,.int .i64 0]) _:=alj k1
 have g2:bZ Tryz.prog 28 _ (.tup [F2.x,.int .i64 0]) _:=ani k2
 have g3:bZ Tryz.prog 28 _ (.tup [F3.x,.int .i64 0]) _:=ani k3
 clear k0 k1 k2 k3
 refine U anl [(28,[.b,.m],[])] 477 [] fun w hP hQ=>?_
 unfold anf
 refine N ?_
 (first | refine ala hP (g0) (.inr rfl) ?_ | refine ajZ hP (g0) (.inr rfl) ?_)
 refine N ?_
 (first | refine ala hP (g1) (.inr rfl) ?_ | refine ajZ hP (g1) (.inr rfl) ?_)
 refine N ?_
 (first | refine ala hP (g2) (.inr rfl) ?_ | refine ajZ hP (g2) (.inr rfl) ?_)
 refine N ?_
 (first | refine ala hP (ka) (.inr rfl) ?_ | refine ajZ hP (ka) (.inr rfl) ?_)
 have hz:=hw
 refine Nz ?_
 (first | refine ala hP (g3) (.inr rfl) ?_ | refine ajZ hP (g3) (.inr rfl) ?_)
 have hz:=hl1
 exact Nz trivial
theorem am9 (b:aA) (hf:b.length<2^48):bZ Tryz.prog 5 [.ext 1 (aM b)] (.bool true) [.undef]:=by
 have hB:=amK b hf
 cases hz:decide ((1048576:Int)<(b.length:Nat)) with
 | true=>
  rw [hz] at hB
  refine U kR [] 4093 [] fun w hP hQ=>?_
  unfold fS
  refine N ?_
  exact K (hB) trivial
 | false=>
  rw [hz] at hB
  obtain ⟨x,hx,ka⟩:=amM b 2 hf (by omega)
  have k1:=anq b hf hx ka
  generalize hd:([UInt8.ofNat x,1,2]:aA)=d at *
  have hdl:d.length=3:=by rw [← hd]; rfl
  have oF:∀ i:Nat,i≤20→fsB (f1 600 (t2 d) (2+(i:Int)))=true:=fun i hi=>amk (by omega) (by omega) (by omega) (by omega)
  refine U kR [] 4093 [] fun w hP hQ=>?_
  unfold fS
  refine N ?_
  refine K (hB) ?_
  (first | refine ala hP (k1) (.inr rfl) ?_ | refine ajZ hP (k1) (.inr rfl) ?_)
  refine N ?_
  refine rG [2,7,8,9,10,11,5007,5010] ?_
  refine N ?_
  refine dG [2,7,8,9,10,11,5007,5010] (fun i:Nat=>[(5003,.box [.ext 6 ((f1 600 (t2 d) (2+(i:Int))).vols.map Vol.row),.int .i64 (f1 600 (t2 d) (2+(i:Int))).next]),(5,.int .i64 (1+(i:Int))),(6,.int .i64 (i:Int))]) (fun i=>i≤20) (fun i=>20-i) (0) hP hQ (rfl) (by simp) ?_
  rintro i hi w1 hP1 hQ1
  refine N1 ?_
  have o1:=oF i hi
  (first | with_reducible refine gQ _ ?_ ?_ | refine gR _ ?_ ?_) <;> intro g
  ·have o3:=oF (i+1) (by omega)
   rw [show 2+((i+1:Nat):Int)=2+(i:Int)+1 by omega] at o3
   have o2:fsB (kW 600 d (2+(i:Int)))=true:=by
    have:=anh o1 1 [97,103,97,105,110] true
    rw [anm (by omega) (by omega) (by omega) (by omega)] at this; exact this
   have kS:=anb (f1 600 (t2 d) (2+(i:Int))) 1 [97,103,97,105,110] (lQ3 (al0 o1) (by decide)) (by decide)
   rw [anm (by omega) (by omega) (by omega) (by omega)] at kS
   have kD:=anc (kW 600 d (2+(i:Int))) (2+(i:Int)) (lQ3 (al0 o2) (by decide))
   rw [ano (by omega) (by omega) (by omega) (by omega)] at kD
   have kO:=af7 (f1 600 (t2 d) (2+(i:Int)+1)) (lQ3 (al0 o3) (by decide))
   rw [o3] at kO
   have hn1:(f1 600 (t2 d) (2+(i:Int))).next=2+(i:Int):=rfl
   have hn2:(f1 600 (t2 d) (2+(i:Int)+1)).next=2+(i:Int)+1:=rfl
   have e1:2+((i+1:Nat):Int)=2+(i:Int)+1:=by omega
   have e2:(1:Int)+(i:Int)+1=2+(i:Int):=by omega
   have e3:(1:Int)+((i+1:Nat):Int)=2+(i:Int):=by omega
   generalize hFF:f1 600 (t2 d) (2+(i:Int)+1)=FF at *
   generalize f1 600 (t2 d) (2+(i:Int))=F0 at *
   generalize kW 600 d (2+(i:Int))=FA at *
   have kS:bZ Tryz.prog 35 _ (.tup [FA.x,.int .i64 (2+(i:Int)),.int .i64 0]) _:=alj kS
   have kD:bZ Tryz.prog 36 _ (.tup [FF.x,.int .i64 0]) _:=alj kD
   refine N1 ?_
   (first | refine ala hP1 (kS) (.inr rfl) ?_ | refine ajZ hP1 (kS) (.inr rfl) ?_)
   refine N1 ?_
   (first | refine ala hP1 (kD) (.inr rfl) ?_ | refine ajZ hP1 (kD) (.inr rfl) ?_)
   have hz:=e2
   refine Nz1 ?_
   have hz:=e2
   refine Kz1 (kO) ?_
   exact ⟨i+1,by rw [e1,hFF,e3]; rfl,by omega,by omega⟩
  ·obtain rfl:i=20:=by omega
   refine N1 ?_
   rfl
section
open Go.Proofs Go.Proofs.YtnfeefcnblondaaGreatDoor
theorem amX:(Rows.fnIdsRiseRow.wf (OpenSpec.ofChange Rows.fnIdsRiseSpec))=true:=by kernel_rfl
theorem amY:(Tryz.f5.params.all (Tryz.prog.readableRec ·))=true:=by kernel_rfl
theorem amZ:(namedTie Tryz.prog Rows.fnIdsRiseRow.named Rows.fnIdsRiseSpec.vars)=true:=by kernel_rfl
theorem am0:((Rows.fnIdsRiseRow.stops == []))=true:=by kernel_rfl
theorem am1:((Rows.fnIdsRiseRow.knobs == []))=true:=by kernel_rfl
theorem am2:((Rows.fnIdsRiseRow.inPlace == Tryz.prog.inPlace 5))=true:=by kernel_rfl
theorem o5:((Rows.fnIdsRiseRow.unfollowed == Tryz.prog.unfollowed 5))=true:=by kernel_rfl
theorem rD:((Rows.fnIdsRiseRow.recurses == Tryz.prog.recurses 5))=true:=by kernel_rfl
theorem rE:((Rows.fnIdsRiseRow.named == Tryz.prog.varsNamed 5))=true:=by kernel_rfl
theorem r8:((Rows.fnIdsRiseRow.maps == (Tryz.f5.params.toList++Rows.fnIdsRiseSpec.plain.varTypes Tryz.prog).any (Tryz.prog.mapsRec ·)))=true:=by kernel_rfl
theorem vS:((Rows.fnIdsRiseRow.ifaces == (Tryz.f5.params.toList++Rows.fnIdsRiseSpec.plain.varTypes Tryz.prog).any (Tryz.prog.ifacesRec ·)))=true:=by kernel_rfl
theorem vW:((Rows.fnIdsRiseRow.mapsOut == Tryz.prog.mapsAmong Tryz.f5.resultTypes.toList))=true:=by kernel_rfl
theorem z6:((Rows.fnIdsRiseRow.loops == (Tryz.f5.params.toList++Rows.fnIdsRiseSpec.plain.varTypes Tryz.prog).any (Tryz.prog.loopsFrom ·)))=true:=by kernel_rfl
theorem z7:((Rows.fnIdsRiseRow.wideKeys == (Tryz.f5.params.toList++Rows.fnIdsRiseSpec.plain.varTypes Tryz.prog++Tryz.f5.resultTypes.toList).any (Tryz.prog.wideKeysFrom ·)))=true:=by kernel_rfl
theorem z8:(Rows.fnIdsRiseSpec.vars.all (Tryz.prog.varReadable ·))=true:=by kernel_rfl
theorem amN:(Tryz.f5.resultTypes.all (fun t=>Tryz.prog.readableRec t && decide (t<Tryz.prog.types.size)))=true:=by kernel_rfl
theorem amO:((Rows.fnIdsRiseRow.ifacesOut == Tryz.f5.resultTypes.toList.any (Tryz.prog.ifacesRec ·)))=true:=by kernel_rfl
theorem amP:((Rows.fnIdsRiseRow.loopsOut == Tryz.f5.resultTypes.toList.any (Tryz.prog.loopsFrom ·)))=true:=by kernel_rfl
theorem amQ:((Rows.fnIdsRiseRow.plainKeys == Tryz.prog.plainKeys))=true:=by kernel_rfl
theorem amR:(Rows.fnIdsRiseRow.shortTexts.isNone)=true:=by kernel_rfl
theorem amS:((Rows.fnIdsRiseRow.kinds == (if Rows.fnIdsRiseRow.domain.isEmpty then [] else Tryz.f5.params.toList.map fun t=>match Tryz.prog.underlying t with | some (.int k)=>some k | _=>none)))=true:=by kernel_rfl
theorem amT:((Rows.fnIdsRiseRow.pinned == Rows.fnIdsRiseRow.pinnedBy))=true:=by kernel_rfl
theorem amU:((Rows.fnIdsRiseRow.veiled == (Tryz.f5.params.toList++Rows.fnIdsRiseSpec.plain.varTypes Tryz.prog++Tryz.f5.resultTypes.toList).any (Tryz.prog.veiledRec ·)))=true:=by kernel_rfl
theorem amV:(Rows.fnIdsRiseRow.veiledFits Tryz.prog Tryz.f5.params.toList (Tryz.f5.params.toList++Rows.fnIdsRiseSpec.plain.varTypes Tryz.prog++Tryz.f5.resultTypes.toList))=true:=by kernel_rfl
theorem am3:joinedFacts Tryz.prog 5 Tryz.f5 Rows.fnIdsRiseSpec Rows.fnIdsRiseRow=true:=
 alh amX amC amD amY amZ am0 amq am1 amr am2 o5 rD rE r8 vS vW z6 z7 z8 amN amO amP amQ amR ams amt amu amE amS amT amU amV
theorem o0 (os:Os) (started:os.Started) (H:Type) (enc:TypeId × Value→H) :
  ReturnsInHanded {} Tryz.checked os 5 .any (fun w args=>(Rows.fnIdsRiseSpec.pre enc Tryz.prog Tryz.f5 [] false w args∧laidMetH Tryz.prog Rows.fnIdsRiseRow.laid w)∧sizedMet enc Tryz.prog Tryz.f5 (OpenSpec.ofChange Rows.fnIdsRiseSpec) false w args) (Rows.fnIdsRiseSpec.post enc Tryz.prog Tryz.f5 false true false false):=by
 refine law_laid (X:=fun w _=>laidMetH Tryz.prog Rows.fnIdsRiseRow.laid w) (fun _ _ _ hh h=>h.of_heap hh) (C:=Tryz.checked) (pars:=[(false,[.sl 1 [.int .u8]])]) own started (by kernel_rfl) Tryz.func5
  (ChangeSpec.witness_shaped (enc:=enc) (C:=Tryz.checked) (os:=os) (X:=fun w _=>laidMetH Tryz.prog Rows.fnIdsRiseRow.laid w) false (World.laidAll Tryz.prog os Rows.fnIdsRiseRow.laid) #[.slice none 0 0] 8 (World.laidAll_os _ _ _) (World.shaped_of_RefB (by kernel_rfl) (by kernel_rfl)) (by kernel_rfl) (by kernel_rfl) (by kernel_rfl) (alU _ (by kernel_rfl) (by kernel_rfl) (by kernel_rfl)))
  rfl (by kernel_rfl) rfl (by kernel_rfl) ?_ ?_
 ·intro ds hd
  match ds,hd with
  | [d0],_=>rfl
 ·intro tss h
  match tss,h with
  | [t0],⟨h0,_⟩=>
   obtain ⟨r0,u0,rfl,l0,e0,k0⟩:=Shp.sl_inv h0
   obtain rfl:=Shp.nil_inv k0
   obtain ⟨x0,rfl⟩:=akG e0
   exact ⟨_,am9 x0 (amn l0)⟩
theorem am4:Tryz.f5.isWrapper Tryz.prog Rows.fnIdsRiseRow.wrapper Rows.fnIdsRiseRow.mainSum:=by
 unfold Func.isWrapper; first | (rw [if_pos (by decide +kernel)]; kernel_rfl) | (rw [if_neg (by decide +kernel)]; exact ⟨rfl,rfl⟩)
theorem law_FnIdsRise:Rows.FnIdsRiseSaid:=
 OpenClaim.holds_of_wide 5 Tryz.f5 rfl rfl rfl rfl rfl rfl rfl ⟨rfl,rfl,rfl,rfl,rfl⟩ rfl rfl rfl rfl rfl (by kernel_rfl) Tryz.func5 am3
  (of_decide_eq_true (by kernel_rfl)) am4
  (fun os started H enc _=>o0 os started H enc)
theorem am5:Rows.fnIdsRiseRow.wfByText (OpenSpec.ofChange Rows.fnIdsRiseSpec)=true:=by kernel_rfl
theorem k2_FnIdsRise:Tryz.prog.funcNamed "loop.example/g00285/laws.FnIdsRise"=some 5:=by kernel_rfl
theorem am6:(Tryz.f5.params.toList.all fun u=>!Tryz.prog.wantsStandIn u)=true:=by kernel_rfl
theorem am7:false=Rows.fnIdsRiseRow.goesBy Tryz.prog:=by kernel_rfl
theorem card_FnIdsRise:Rows.FnIdsRiseCardSaid:=
 Claim7.holds_tied_plain_at .later [] [.data,.pinned] true (true, "065b41267c4c5e9090da389464e58b88279cae34746055c8646bd41f1c814ac9") false
  law_FnIdsRise (fun _ h=>by cases h) am5 (fun _ h=>by cases h) fnIdsRise_row_tie rfl ⟨rfl,rfl⟩ amB rfl
  (fun f fn hf hfn=>by
   obtain rfl:f=5:=Option.some.inj (k2_FnIdsRise.symm.trans hf) |>.symm
   obtain rfl:fn=Tryz.f5:=(Option.some.inj (Tryz.func5.symm.trans hfn)).symm
   exact ⟨amp,fun j t ht=>by
    have:=lR.1 am6 t (by simpa using Array.mem_of_getElem? ht)
    exact show Tryz.prog.wantsStandIn t=false by simpa using this⟩)
  am7
end
end Go.Proofs.YtnfeefcnblondaaGreatDoor.Awp

namespace Go.Proofs.YtnfeefcnblondaaGreatDoor
/-- the given statement -/
theorem provedFnIdsRise : Rows.FnIdsRiseCardSaid := Awp.card_FnIdsRise
end Go.Proofs.YtnfeefcnblondaaGreatDoor
#print axioms Go.Proofs.YtnfeefcnblondaaGreatDoor.provedFnIdsRise
