/- The law FnExactDropVol (the program and the reference drop a volume the same) holds for every argument: the given statement FnExactDropVolSaid is proved. Condition: none. -/
import Derived.Test.YtjmnolhflcjpgaaGreatFnExactDropVolX1
import Derived.Test.YtjmnolhflcjpgaaGreatAwp4
import Derived.Test.YtjmnolhflcjpgaaGreatRows
import Derived.Sort.Walk0
import Derived.Shelf.Lays
import Derived.Shelf.Sort.Plain
import Derived.Shelf.Slices.In.SortNone
import Derived.Shelf.RegionOpenPlain
import Derived.WalkKit
import Derived.Deep.MidRow
import Derived.Deep.LoopGhost
import Derived.Deep.RegionLaw
import Derived.Lib.Walk
import Derived.Sort.WalkB12
import Derived.OpenShut
import Derived.KernelRfl
namespace Go.Proofs.YtjmnolhflcjpgaaGreat.Awp
open Go.Proofs
set_option linter.unusedSimpArgs false
set_option linter.unusedVariables false
open Nat (reduceEqDiff reduceAdd reduceMul reduceSub)
open Int (reduceNeg reduceToNat reducePow)
set_option maxRecDepth 100000
set_option maxHeartbeats 20000000
def inoIdx (t:Tab) (i:Int):Option Nat:=t.inodes.findIdx? fun x=>decide (x.ino=i)
def zI:Inode:={ ino:=0,kind:=0,links:=0,data:=[],ents:=[],attrs:=[] }
def iget (t:Tab) (i:Int):Inode:=(inoAt t i).getD zI
theorem find_idx {α:Type} (p:α→Bool) (l:List α):l.find? p=(l.findIdx? p).bind fun k=>l[k]?:=by
 induction l with
 | nil=>rfl
 | cons x l ih=>
  by_cases h:p x=true
  ·rw [List.find?_cons_of_pos h,List.findIdx?_cons,if_pos h]; rfl
  ·rw [List.find?_cons_of_neg h,List.findIdx?_cons,if_neg h,ih]
   cases List.findIdx? p l <;> simp
theorem inoAt_idx (t:Tab) (i:Int):inoAt t i=(inoIdx t i).bind fun k=>t.inodes[k]?:=find_idx _ _
theorem idx_lt {t:Tab} {i:Int} {k:Nat} (h:inoIdx t i=some k):k<t.inodes.length:=(List.findIdx?_eq_some_iff_getElem.1 h).1
theorem idx_some {t:Tab} {i:Int} {k:Nat} (h:inoIdx t i=some k):inoAt t i=some (t.inodes[k]'(idx_lt h)):=by
 rw [inoAt_idx,h]; simp [idx_lt h]
theorem idx_no {t:Tab} {i:Int} (h:inoIdx t i=none):inoAt t i=none:=by rw [inoAt_idx,h]; rfl
theorem sS_l4At (t:Tab) (n:Int) (hl:t.inodes.length<2^48):Spec Tryz.prog 67 [t.x,.int .i64 n] (.int .i64 (idxI (inoIdx t n))) [.undef,.undef]:=by
 refine spec_c hmx p_S_l4At [] 55 [] ⟨Nat.le_of_ble_eq_true rfl,Nat.le_of_ble_eq_true rfl⟩ rfl rfl ?_
 intro w hP hQ
 unfold c_S_l4At
 simp +decide (maxSteps:=9^9) (disch:=omega) only[↓SB0,SX,seval,hQ]
 refine LH_D [4] ?_
 simp +decide (maxSteps:=9^9) (disch:=omega) only[↓SB0,SX,seval,hQ]
 refine loop_e [4] (fun i:Nat=>[(5,.int .i64 i)]) (fun i=>i≤t.inodes.length∧∀ k,k<i→(h:k<t.inodes.length)→decide (t.inodes[k].ino=n)=false) (fun i=>t.inodes.length-i) (0) hP hQ (rfl) (by simp) ?_
 rintro i ⟨hi,hk⟩ w1 hP1 hQ1
 simp +decide (maxSteps:=9^9) (disch:=omega) only[↓SB0,SX,seval,hQ,hQ1]
 (first | with_reducible refine if_d _ ?_ ?_ | refine if_i _ ?_ ?_) <;> intro h1
 ·simp +decide (maxSteps:=9^9) (disch:=omega) only[↓SB0,SX,seval,hQ,hQ1,getE h1]
  (first | with_reducible refine if_d _ ?_ ?_ | refine if_i _ ?_ ?_) <;> intro h2
  ·simp +decide (maxSteps:=9^9) (disch:=omega) only[↓SB0,SX,seval,hQ,hQ1]
   rw [inoIdx,idx_step (p:=fun x:Inode=>decide (x.ino=n)) hk (by omega) (decide_eq_true h2)]; rfl
  ·simp +decide (maxSteps:=9^9) (disch:=omega) only[↓SB0,SX,seval,hQ,hQ1]
   exact ⟨i+1,rfl,⟨by omega,no_step (p:=fun x:Inode=>decide (x.ino=n)) hk (by omega) (decide_eq_false h2)⟩,by omega⟩
 ·obtain rfl:i=t.inodes.length:=by omega
  simp +decide (maxSteps:=9^9) (disch:=omega) only[↓SB0,SX,seval,hQ,hQ1]
  rw [inoIdx,idx_none (p:=fun x:Inode=>decide (x.ino=n)) fun k h=>hk k h h]; rfl
theorem s_IndexFunc_Inode {g:Nat} {cs:List TV} {p:Inode→Bool} (hc:∀ v:Inode,Spec Tryz.prog g [v.x,.xbox cs] (.bool (p v)) [.undef,.undef]) (l:List Inode) (hl:l.length<2^48) :
  Spec Tryz.prog 93 [.ext 6 (l.map Inode.row),.fn g [.xbox cs]] (.int .i64 (idxI (l.findIdx? p))) [.undef,.undef]:=by
 refine spec_c hmx p_X_IndexFunc_Inode [] 435 [] ⟨Nat.le_of_ble_eq_true rfl,Nat.le_of_ble_eq_true rfl⟩ rfl rfl ?_
 intro w hP hQ
 unfold c_X_IndexFunc_Inode
 simp +decide (maxSteps:=9^9) (disch:=omega) only[↓SB0,SX,seval,hQ]
 refine LH_D [4,5] ?_
 simp +decide (maxSteps:=9^9) (disch:=omega) only[↓SB0,SX,seval,hQ]
 refine loop_e [4,5] (fun i:Nat=>[(8,.int .i64 i)]) (fun i=>i≤l.length∧∀ k,k<i→(h:k<l.length)→p l[k]=false) (fun i=>l.length-i) (0) hP hQ (rfl) (by simp) ?_
 rintro i ⟨hi,hk⟩ w1 hP1 hQ1
 simp +decide (maxSteps:=9^9) (disch:=omega) only[↓SB0,SX,seval,hQ,hQ1]
 (first | with_reducible refine if_d _ ?_ ?_ | refine if_i _ ?_ ?_) <;> intro h1
 ·simp +decide (maxSteps:=9^9) (disch:=omega) only[↓SB0,SX,seval,hQ,hQ1,getE h1]
  cases h2:p (l[i]'(by omega)) with
  | true=>
   (first|refine cI hP1 (hc (l[i]'(by omega))) rfl rfl ?_|refine cH hP1 (hc (l[i]'(by omega))) rfl rfl ?_)
   simp +decide (maxSteps:=9^9) (disch:=omega) only[↓SB0,SX,seval,hQ,hQ1,h2]
   rw [idx_step hk (by omega) h2]; rfl
  | false=>
   (first|refine cI hP1 (hc (l[i]'(by omega))) rfl rfl ?_|refine cH hP1 (hc (l[i]'(by omega))) rfl rfl ?_)
   simp +decide (maxSteps:=9^9) (disch:=omega) only[↓SB0,SX,seval,hQ,hQ1,h2]
   exact ⟨i+1,rfl,⟨by omega,no_step hk (by omega) h2⟩,by omega⟩
 ·obtain rfl:i=l.length:=by omega
  simp +decide (maxSteps:=9^9) (disch:=omega) only[↓SB0,SX,seval,hQ,hQ1]
  rw [idx_none fun k h=>hk k h h]; rfl
theorem sI_placeOf_1 (x:Inode) (n:Int):Spec Tryz.prog 94 [x.x,.xbox [.int .i64 n]] (.bool (decide (x.ino=n))) [.undef,.undef]:=by
 refine spec_c hmx p_I_placeOf_1 [] 15 [] ⟨Nat.le_of_ble_eq_true rfl,Nat.le_of_ble_eq_true rfl⟩ rfl rfl ?_
 intro w hP hQ
 unfold c_I_placeOf_1
 simp +decide (maxSteps:=9^9) (disch:=omega) only[↓SB0,SX,seval,hQ]
theorem sI_placeOf (t:Tab) (n:Int) (hl:t.inodes.length<2^48):Spec Tryz.prog 74 [t.x,.int .i64 n] (.int .i64 (idxI (inoIdx t n))) [.undef,.undef]:=by
 refine spec_c hmx p_I_placeOf [] 31 [] ⟨Nat.le_of_ble_eq_true rfl,Nat.le_of_ble_eq_true rfl⟩ rfl rfl ?_
 intro w hP hQ
 unfold c_I_placeOf
 simp +decide (maxSteps:=9^9) (disch:=omega) only[↓SB0,SX,seval,hQ]
 (first|refine cI hP (s_IndexFunc_Inode (fun v=>sI_placeOf_1 v n) t.inodes hl) rfl rfl ?_|refine cH hP (s_IndexFunc_Inode (fun v=>sI_placeOf_1 v n) t.inodes hl) rfl rfl ?_)
 simp +decide (maxSteps:=9^9) (disch:=omega) only[↓SB0,SX,seval,hQ]
 rfl
theorem flatR_map {α:Type} (f:α→List TV) (h:∀ x,(f x).all flatT=true) (l:List α):flatR (l.map f)=true:=by
 rw [flatR,List.all_eq_true]
 intro r hr
 obtain ⟨x,_,rfl⟩:=List.mem_map.1 hr
 exact h x
theorem flatR_E (l:List Ent):flatR (l.map Ent.row)=true:=flatR_map Ent.row (fun _=>rfl) l
theorem flatR_A (l:List Attr):flatR (l.map Attr.row)=true:=flatR_map Attr.row (fun _=>rfl) l
theorem s_Clone8 (b:Bytes) (hl:b.length<2^40):Spec Tryz.prog 86 [.ext 1 (bytesR b)] (.own 1 (bytesR b)) [.undef]:=by
 refine spec_extv fun a len cap ha=>?_
 cases a with
 | none=>
  obtain rfl:b=[]:=by simpa [bytesR] using ha rfl
  refine spec_c hmx p_X_Clone_byte [] 5 [] ⟨Nat.le_of_ble_eq_true rfl,Nat.le_of_ble_eq_true rfl⟩ rfl rfl ?_
  intro w hP hQ
  unfold c_X_Clone_byte
  simp +decide (maxSteps:=9^9) (disch:=omega) only[↓SB0,SX,seval,hQ]
  rfl
 | some a=>
  refine spec_c hmx p_X_Clone_byte [] 5 [] ⟨Nat.le_of_ble_eq_true rfl,Nat.le_of_ble_eq_true rfl⟩ rfl rfl ?_
  intro w hP hQ
  unfold c_X_Clone_byte
  simp +decide (maxSteps:=9^9) (disch:=omega) only[↓SB0,SX,seval,hQ]
theorem s_CloneE (l:List Ent) (hl:l.length<2^40):Spec Tryz.prog 87 [.ext 2 (l.map Ent.row)] (.own 2 (l.map Ent.row)) [.undef]:=by
 refine spec_extv fun a len cap ha=>?_
 cases a with
 | none=>
  obtain rfl:l=[]:=by simpa using ha rfl
  refine spec_c hmx p_X_Clone_Ent [] 5 [] ⟨Nat.le_of_ble_eq_true rfl,Nat.le_of_ble_eq_true rfl⟩ rfl rfl ?_
  intro w hP hQ
  unfold c_X_Clone_Ent
  simp +decide (maxSteps:=9^9) (disch:=omega) only[↓SB0,SX,seval,hQ]
 | some a=>
  refine spec_c hmx p_X_Clone_Ent [] 5 [] ⟨Nat.le_of_ble_eq_true rfl,Nat.le_of_ble_eq_true rfl⟩ rfl rfl ?_
  intro w hP hQ
  unfold c_X_Clone_Ent
  simp +decide (maxSteps:=9^9) (disch:=omega) only[↓SB0,SX,seval,hQ]
  simp +decide (maxSteps:=9^9) (disch:=omega) only[↓SB0,SX,seval,hQ,flatR_E]
theorem s_CloneA (l:List Attr) (hl:l.length<2^40):Spec Tryz.prog 88 [.ext 2 (l.map Attr.row)] (.own 2 (l.map Attr.row)) [.undef]:=by
 refine spec_extv fun a len cap ha=>?_
 cases a with
 | none=>
  obtain rfl:l=[]:=by simpa using ha rfl
  refine spec_c hmx p_X_Clone_Attr [] 5 [] ⟨Nat.le_of_ble_eq_true rfl,Nat.le_of_ble_eq_true rfl⟩ rfl rfl ?_
  intro w hP hQ
  unfold c_X_Clone_Attr
  simp +decide (maxSteps:=9^9) (disch:=omega) only[↓SB0,SX,seval,hQ]
 | some a=>
  refine spec_c hmx p_X_Clone_Attr [] 5 [] ⟨Nat.le_of_ble_eq_true rfl,Nat.le_of_ble_eq_true rfl⟩ rfl rfl ?_
  intro w hP hQ
  unfold c_X_Clone_Attr
  simp +decide (maxSteps:=9^9) (disch:=omega) only[↓SB0,SX,seval,hQ]
  simp +decide (maxSteps:=9^9) (disch:=omega) only[↓SB0,SX,seval,hQ,flatR_A]
theorem sI_copyInode (x:Inode) (h:x.sz<2^40):Spec Tryz.prog 69 [x.x] x.o [.undef]:=by
 obtain ⟨h1,h2,h3⟩:=inode_sz h
 refine spec_c hmx p_I_copyInode [] 7 [] ⟨Nat.le_of_ble_eq_true rfl,Nat.le_of_ble_eq_true rfl⟩ rfl rfl ?_
 intro w hP hQ
 unfold c_I_copyInode
 simp +decide (maxSteps:=9^9) (disch:=omega) only[↓SB0,SX,seval,hQ]
 (first|refine cI hP (s_Clone8 x.data (by omega)) rfl rfl ?_|refine cH hP (s_Clone8 x.data (by omega)) rfl rfl ?_)
 simp +decide (maxSteps:=9^9) (disch:=omega) only[↓SB0,SX,seval,hQ]
 (first|refine cI hP (s_CloneE x.ents (by omega)) rfl rfl ?_|refine cH hP (s_CloneE x.ents (by omega)) rfl rfl ?_)
 simp +decide (maxSteps:=9^9) (disch:=omega) only[↓SB0,SX,seval,hQ]
 (first|refine cI hP (s_CloneA x.attrs (by omega)) rfl rfl ?_|refine cH hP (s_CloneA x.attrs (by omega)) rfl rfl ?_)
 simp +decide (maxSteps:=9^9) (disch:=omega) only[↓SB0,SX,seval,hQ]
theorem sS_l3Copy (x:Inode) (h:x.sz<2^40):Spec Tryz.prog 63 [x.x] x.o [.undef]:=by
 obtain ⟨h1,h2,h3⟩:=inode_sz h
 refine spec_c hmx p_S_l3Copy [] 15 [] ⟨Nat.le_of_ble_eq_true rfl,Nat.le_of_ble_eq_true rfl⟩ rfl rfl ?_
 intro w hP hQ
 unfold c_S_l3Copy
 simp +decide (maxSteps:=9^9) (disch:=omega) only[↓SB0,SX,seval,hQ]
 simp +decide (maxSteps:=9^9) (disch:=omega) only[↓SB0,SX,seval,hQ,flatR_bytes,flatR_E,flatR_A]
theorem tab_sz {t:Tab} {n:Nat} (h:t.sz<n):t.inodes.length<n∧∀ x ∈ t.inodes,x.sz<n:=by
 have h':szM Inode.sz t.inodes<n:=h
 refine ⟨by simp only [szM] at h'; omega,fun x hx=>?_⟩
 have:=sum_mem (f:=Inode.sz) hx
 simp only [szM] at h'; omega
theorem sI_InodeAt (t:Tab) (n:Int) (h:t.sz<2^40):Spec Tryz.prog 90 [t.x,.int .i64 n] (.tup [(iget t n).o,.bool (inoAt t n).isSome]) [.undef,.undef]:=by
 obtain ⟨h1,h2⟩:=tab_sz h
 have hPl:=sI_placeOf t n (by omega)
 cases e:inoIdx t n with
 | none=>
  rw [e] at hPl
  rw [iget,idx_no e]
  refine spec_c hmx p_I_InodeAt [] 119 [] ⟨Nat.le_of_ble_eq_true rfl,Nat.le_of_ble_eq_true rfl⟩ rfl rfl ?_
  intro w hP hQ
  unfold c_I_InodeAt
  simp +decide (maxSteps:=9^9) (disch:=omega) only[↓SB0,SX,seval,hQ]
  (first|refine cI hP (hPl) rfl rfl ?_|refine cH hP (hPl) rfl rfl ?_)
  simp +decide (maxSteps:=9^9) (disch:=omega) only[↓SB0,SX,seval,hQ]
  rfl
 | some k=>
  have hk:=idx_lt e
  rw [e,show idxI (some k)=(k:Int) from rfl] at hPl
  rw [iget,idx_some e]
  refine spec_c hmx p_I_InodeAt [] 119 [] ⟨Nat.le_of_ble_eq_true rfl,Nat.le_of_ble_eq_true rfl⟩ rfl rfl ?_
  intro w hP hQ
  unfold c_I_InodeAt
  simp +decide (maxSteps:=9^9) (disch:=omega) only[↓SB0,SX,seval,hQ]
  (first|refine cI hP (hPl) rfl rfl ?_|refine cH hP (hPl) rfl rfl ?_)
  simp +decide (maxSteps:=9^9) (disch:=omega) only[↓SB0,SX,seval,hQ]
  (first | with_reducible refine if_d _ ?_ ?_ | refine if_i _ ?_ ?_) <;> intro hx
  ·exfalso; omega
  simp +decide (maxSteps:=9^9) (disch:=omega) only[↓SB0,SX,seval,hQ,getE (show ((k:Nat):Int)<(t.inodes.length:Nat) by omega)]
  (first|refine cI hP (sI_copyInode (t.inodes[k]'hk) (h2 _ (List.getElem_mem hk))) rfl rfl ?_|refine cH hP (sI_copyInode (t.inodes[k]'hk) (h2 _ (List.getElem_mem hk))) rfl rfl ?_)
  simp +decide (maxSteps:=9^9) (disch:=omega) only[↓SB0,SX,seval,hQ]
  rfl
theorem sS_InodeAt (t:Tab) (n:Int) (h:t.sz<2^40):Spec Tryz.prog 99 [t.x,.int .i64 n] (.tup [(iget t n).o,.bool (inoAt t n).isSome]) [.undef,.undef]:=by
 obtain ⟨h1,h2⟩:=tab_sz h
 have hPl:=sS_l4At t n (by omega)
 cases e:inoIdx t n with
 | none=>
  rw [e] at hPl
  rw [iget,idx_no e]
  refine spec_c hmx p_S_InodeAt [] 119 [] ⟨Nat.le_of_ble_eq_true rfl,Nat.le_of_ble_eq_true rfl⟩ rfl rfl ?_
  intro w hP hQ
  unfold c_S_InodeAt
  simp +decide (maxSteps:=9^9) (disch:=omega) only[↓SB0,SX,seval,hQ]
  (first|refine cI hP (hPl) rfl rfl ?_|refine cH hP (hPl) rfl rfl ?_)
  simp +decide (maxSteps:=9^9) (disch:=omega) only[↓SB0,SX,seval,hQ]
  rfl
 | some k=>
  have hk:=idx_lt e
  rw [e,show idxI (some k)=(k:Int) from rfl] at hPl
  rw [iget,idx_some e]
  refine spec_c hmx p_S_InodeAt [] 119 [] ⟨Nat.le_of_ble_eq_true rfl,Nat.le_of_ble_eq_true rfl⟩ rfl rfl ?_
  intro w hP hQ
  unfold c_S_InodeAt
  simp +decide (maxSteps:=9^9) (disch:=omega) only[↓SB0,SX,seval,hQ]
  (first|refine cI hP (hPl) rfl rfl ?_|refine cH hP (hPl) rfl rfl ?_)
  simp +decide (maxSteps:=9^9) (disch:=omega) only[↓SB0,SX,seval,hQ]
  (first | with_reducible refine if_d _ ?_ ?_ | refine if_i _ ?_ ?_) <;> intro hx
  ·exfalso; omega
  simp +decide (maxSteps:=9^9) (disch:=omega) only[↓SB0,SX,seval,hQ,getE (show ((k:Nat):Int)<(t.inodes.length:Nat) by omega)]
  (first|refine cI hP (sS_l3Copy (t.inodes[k]'hk) (h2 _ (List.getElem_mem hk))) rfl rfl ?_|refine cH hP (sS_l3Copy (t.inodes[k]'hk) (h2 _ (List.getElem_mem hk))) rfl rfl ?_)
  simp +decide (maxSteps:=9^9) (disch:=omega) only[↓SB0,SX,seval,hQ]
  rfl
end Go.Proofs.YtjmnolhflcjpgaaGreat.Awp
namespace Go.Proofs.YtjmnolhflcjpgaaGreat.Awp
open Go.Proofs
set_option linter.unusedSimpArgs false
set_option linter.unusedVariables false
open Nat (reduceEqDiff reduceAdd reduceMul reduceSub)
open Int (reduceNeg reduceToNat reducePow)
set_option maxRecDepth 100000
set_option maxHeartbeats 20000000
end Go.Proofs.YtjmnolhflcjpgaaGreat.Awp
namespace Go.Proofs.YtjmnolhflcjpgaaGreat.Awp
open Go.Proofs
set_option linter.unusedSimpArgs false
set_option linter.unusedVariables false
open Nat (reduceEqDiff reduceAdd reduceMul reduceSub)
open Int (reduceNeg reduceToNat reducePow)
set_option maxRecDepth 100000
set_option maxHeartbeats 20000000
theorem eqFs_self (d:Fs) (h:d.sz<2^40):Spec Tryz.prog 12 [d.x,d.x] (.bool true) [.undef,.undef]:=by
 have he:=s_eqFs d d h
 rwa [decide_eq_true rfl] at he
end Go.Proofs.YtjmnolhflcjpgaaGreat.Awp
namespace Go.Proofs.YtjmnolhflcjpgaaGreat.Awp
open Go.Proofs
set_option linter.unusedSimpArgs false
set_option linter.unusedVariables false
open Nat (reduceEqDiff reduceAdd reduceMul reduceSub)
open Int (reduceNeg reduceToNat reducePow)
set_option maxRecDepth 100000
set_option maxHeartbeats 20000000
theorem vol_sz {x:Vol} {n:Nat} (h:x.sz<n):x.name.length<n∧x.t.sz<n:=by
 simp only [Vol.sz] at h; omega
theorem vols_sz {l:List Vol} {n:Nat} (h:szM Vol.sz l<n):l.length<n∧∀ x ∈ l,x.sz<n:=by
 refine ⟨by simp only [szM] at h; omega,fun x hx=>?_⟩
 have:=sum_mem (f:=Vol.sz) hx
 simp only [szM] at h; omega
end Go.Proofs.YtjmnolhflcjpgaaGreat.Awp
namespace Go.Proofs.YtjmnolhflcjpgaaGreat.Awp
open Go.Proofs
set_option linter.unusedSimpArgs false
set_option linter.unusedVariables false
open Nat (reduceEqDiff reduceAdd reduceMul reduceSub)
open Int (reduceNeg reduceToNat reducePow)
set_option maxRecDepth 100000
set_option maxHeartbeats 20000000
theorem take_row {α β:Type} (f:α→β) (l:List α) (i:Nat) (h:i<l.length):(l.take (i+1)).map f=(l.take i).map f++[f l[i]]:=by
 rw [List.take_succ_eq_append_getElem h,List.map_append]; rfl
theorem sI_copyTab (t:Tab) (h:t.sz<2^40):Spec Tryz.prog 52 [t.x] t.o [.undef]:=by
 obtain ⟨h1,h2⟩:=tab_sz h
 refine spec_c hmx p_I_copyTab [] 7215 [] ⟨Nat.le_of_ble_eq_true rfl,Nat.le_of_ble_eq_true rfl⟩ rfl rfl ?_
 intro w hP hQ
 unfold c_I_copyTab
 simp +decide (maxSteps:=9^9) (disch:=omega) only[↓SB0,SX,seval,hQ]
 refine LH_D [5,5005] ?_
 simp +decide (maxSteps:=9^9) (disch:=omega) only[↓SB0,SX,seval,hQ]
 refine loop_e [5,5005] (fun i:Nat=>[(12,.int .i64 i),(5003,.box [.own 6 ((t.inodes.take i).map Inode.row),.int .i64 t.next])]) (fun i=>i≤t.inodes.length) (fun i=>t.inodes.length-i) (0) hP hQ (rfl) (by simp) ?_
 rintro i hi w1 hP1 hQ1
 simp +decide (maxSteps:=9^9) (disch:=omega) only[↓SB0,SX,seval,hQ,hQ1]
 (first | with_reducible refine if_d _ ?_ ?_ | refine if_i _ ?_ ?_) <;> intro h3
 ·have ht:(t.inodes.take i).length=i:=by simp; omega
  simp +decide (maxSteps:=9^9) (disch:=omega) only[↓SB0,SX,seval,hQ,hQ1,getE h3,ht]
  (first|refine cI hP1 (sI_copyInode (t.inodes[i]'(by omega)) (h2 _ (List.getElem_mem _))) rfl rfl ?_|refine cH hP1 (sI_copyInode (t.inodes[i]'(by omega)) (h2 _ (List.getElem_mem _))) rfl rfl ?_)
  simp +decide (maxSteps:=9^9) (disch:=omega) only[↓SB0,SX,seval,hQ,hQ1,ht]
  exact ⟨i+1,by simp only [take_row _ _ _ (show i<t.inodes.length by omega)]; rfl,by omega,by omega⟩
 ·obtain rfl:i=t.inodes.length:=by omega
  simp +decide (maxSteps:=9^9) (disch:=omega) only[↓SB0,SX,seval,hQ,hQ1,List.take_length]
theorem sS_l4Copy (t:Tab) (h:t.sz<2^40):Spec Tryz.prog 48 [t.x] t.o [.undef]:=by
 obtain ⟨h1,h2⟩:=tab_sz h
 refine spec_c hmx p_S_l4Copy [] 31 [] ⟨Nat.le_of_ble_eq_true rfl,Nat.le_of_ble_eq_true rfl⟩ rfl rfl ?_
 intro w hP hQ
 unfold c_S_l4Copy
 simp +decide (maxSteps:=9^9) (disch:=omega) only[↓SB0,SX,seval,hQ]
 refine LH_D [] ?_
 simp +decide (maxSteps:=9^9) (disch:=omega) only[↓SB0,SX,seval,hQ]
 refine loop_e [] (fun i:Nat=>[(4,.int .i64 i),(5003,.box [.own 6 ((t.inodes.take i).map Inode.row),.int .i64 t.next])]) (fun i=>i≤t.inodes.length) (fun i=>t.inodes.length-i) (0) hP hQ (rfl) (by simp) ?_
 rintro i hi w1 hP1 hQ1
 simp +decide (maxSteps:=9^9) (disch:=omega) only[↓SB0,SX,seval,hQ,hQ1]
 (first | with_reducible refine if_d _ ?_ ?_ | refine if_i _ ?_ ?_) <;> intro h3
 ·have ht:(t.inodes.take i).length=i:=by simp; omega
  simp +decide (maxSteps:=9^9) (disch:=omega) only[↓SB0,SX,seval,hQ,hQ1,getE h3,ht]
  (first|refine cI hP1 (sS_l3Copy (t.inodes[i]'(by omega)) (h2 _ (List.getElem_mem _))) rfl rfl ?_|refine cH hP1 (sS_l3Copy (t.inodes[i]'(by omega)) (h2 _ (List.getElem_mem _))) rfl rfl ?_)
  simp +decide (maxSteps:=9^9) (disch:=omega) only[↓SB0,SX,seval,hQ,hQ1,ht]
  exact ⟨i+1,by simp only [take_row _ _ _ (show i<t.inodes.length by omega)]; rfl,by omega,by omega⟩
 ·obtain rfl:i=t.inodes.length:=by omega
  simp +decide (maxSteps:=9^9) (disch:=omega) only[↓SB0,SX,seval,hQ,hQ1,List.take_length]
theorem fs_sz {f:Fs} {n:Nat} (h:f.sz<n):f.vols.length<n∧∀ x ∈ f.vols,x.t.sz<n:=by
 have h':szM Vol.sz f.vols<n:=h
 refine ⟨by simp only [szM] at h'; omega,fun x hx=>?_⟩
 have:=sum_mem (f:=Vol.sz) hx
 exact (vol_sz (by simp only [szM] at h'; omega)).2
theorem sI_copyFs (t:Fs) (h:t.sz<2^40):Spec Tryz.prog 30 [t.x] t.o [.undef]:=by
 obtain ⟨h1,h2⟩:=fs_sz h
 refine spec_c hmx p_I_copyFs [] 7215 [] ⟨Nat.le_of_ble_eq_true rfl,Nat.le_of_ble_eq_true rfl⟩ rfl rfl ?_
 intro w hP hQ
 unfold c_I_copyFs
 simp +decide (maxSteps:=9^9) (disch:=omega) only[↓SB0,SX,seval,hQ]
 refine LH_D [5,5005] ?_
 simp +decide (maxSteps:=9^9) (disch:=omega) only[↓SB0,SX,seval,hQ]
 refine loop_e [5,5005] (fun i:Nat=>[(12,.int .i64 i),(5003,.box [.own 6 ((t.vols.take i).map Vol.row),.int .i64 t.next])]) (fun i=>i≤t.vols.length) (fun i=>t.vols.length-i) (0) hP hQ (rfl) (by simp) ?_
 rintro i hi w1 hP1 hQ1
 simp +decide (maxSteps:=9^9) (disch:=omega) only[↓SB0,SX,seval,hQ,hQ1]
 (first | with_reducible refine if_d _ ?_ ?_ | refine if_i _ ?_ ?_) <;> intro h3
 ·have ht:(t.vols.take i).length=i:=by simp; omega
  simp +decide (maxSteps:=9^9) (disch:=omega) only[↓SB0,SX,seval,hQ,hQ1,getE h3,ht]
  (first|refine cI hP1 (sI_copyTab (t.vols[i]'(by omega)).t (h2 _ (List.getElem_mem _))) rfl rfl ?_|refine cH hP1 (sI_copyTab (t.vols[i]'(by omega)).t (h2 _ (List.getElem_mem _))) rfl rfl ?_)
  simp +decide (maxSteps:=9^9) (disch:=omega) only[↓SB0,SX,seval,hQ,hQ1,ht]
  exact ⟨i+1,by simp only [take_row _ _ _ (show i<t.vols.length by omega)]; rfl,by omega,by omega⟩
 ·obtain rfl:i=t.vols.length:=by omega
  simp +decide (maxSteps:=9^9) (disch:=omega) only[↓SB0,SX,seval,hQ,hQ1,List.take_length]
theorem sS_l8Copy (t:Fs) (h:t.sz<2^40):Spec Tryz.prog 24 [t.x] t.o [.undef]:=by
 obtain ⟨h1,h2⟩:=fs_sz h
 refine spec_c hmx p_S_l8Copy [] 63 [] ⟨Nat.le_of_ble_eq_true rfl,Nat.le_of_ble_eq_true rfl⟩ rfl rfl ?_
 intro w hP hQ
 unfold c_S_l8Copy
 simp +decide (maxSteps:=9^9) (disch:=omega) only[↓SB0,SX,seval,hQ]
 refine LH_D [5,5005] ?_
 simp +decide (maxSteps:=9^9) (disch:=omega) only[↓SB0,SX,seval,hQ]
 refine loop_e [5,5005] (fun i:Nat=>[(4,.int .i64 i),(5003,.box [.own 6 ((t.vols.take i).map Vol.row),.int .i64 t.next])]) (fun i=>i≤t.vols.length) (fun i=>t.vols.length-i) (0) hP hQ (rfl) (by simp) ?_
 rintro i hi w1 hP1 hQ1
 simp +decide (maxSteps:=9^9) (disch:=omega) only[↓SB0,SX,seval,hQ,hQ1]
 (first | with_reducible refine if_d _ ?_ ?_ | refine if_i _ ?_ ?_) <;> intro h3
 ·have ht:(t.vols.take i).length=i:=by simp; omega
  simp +decide (maxSteps:=9^9) (disch:=omega) only[↓SB0,SX,seval,hQ,hQ1,getE h3,ht]
  (first|refine cI hP1 (sS_l4Copy (t.vols[i]'(by omega)).t (h2 _ (List.getElem_mem _))) rfl rfl ?_|refine cH hP1 (sS_l4Copy (t.vols[i]'(by omega)).t (h2 _ (List.getElem_mem _))) rfl rfl ?_)
  simp +decide (maxSteps:=9^9) (disch:=omega) only[↓SB0,SX,seval,hQ,hQ1,ht]
  exact ⟨i+1,by simp only [take_row _ _ _ (show i<t.vols.length by omega)]; rfl,by omega,by omega⟩
 ·obtain rfl:i=t.vols.length:=by omega
  simp +decide (maxSteps:=9^9) (disch:=omega) only[↓SB0,SX,seval,hQ,hQ1,List.take_length]
end Go.Proofs.YtjmnolhflcjpgaaGreat.Awp
namespace Go.Proofs.YtjmnolhflcjpgaaGreat.Awp
open Go.Proofs
set_option linter.unusedSimpArgs false
set_option linter.unusedVariables false
open Nat (reduceEqDiff reduceAdd reduceMul reduceSub)
open Int (reduceNeg reduceToNat reducePow)
set_option maxRecDepth 100000
set_option maxHeartbeats 20000000
theorem inodes_bad {t:Tab} (e:inodesIn t=false):tabB t=false:=by simp [tabB,e]
theorem root_first {t:Tab} (h:inodesIn t=true):rootB t=match t.inodes with
  | []=>false
  | x::_=>decide (x.ino=1) && decide (x.kind=2):=by
 rw [inodesIn,allOk_iff (fun a b c h1 h2=>by simp only [inodeLt,decide_eq_true_eq] at *; omega)] at h
 obtain ⟨h1,h2⟩:=h
 unfold rootB inoAt
 cases hl:t.inodes with
 | nil=>rfl
 | cons x l=>
  rw [hl] at h2
  obtain ⟨a1,a2⟩:=List.pairwise_cons.1 h2
  have hx:=h1 0 (by rw [hl]; simp)
  simp only [hl,List.getElem_cons_zero,inodeP,Bool.and_eq_true] at hx
  have hx1:=((inodeB_iff x).1 hx.1).ino.1
  by_cases e:x.ino=1
  ·rw [List.find?_cons_of_pos (by simp [e])]; simp [e]
  ·rw [List.find?_cons_of_neg (by simp [e])]
   have:l.find? (fun x=>decide (x.ino=1))=none:=by
    rw [List.find?_eq_none]
    intro y hy
    have:=a1 y hy
    simp only [inodeLt,decide_eq_true_eq] at this
    simp; omega
   rw [this]; simp [e]
theorem sS_TabOk (t:Tab) (h:t.sz<2^40):Spec Tryz.prog 64 [t.x] (.bool (tabB t)) [.undef]:=by
 obtain ⟨hl,hls⟩:=tab_sz h
 refine spec_c hmx p_S_TabOk [] 31 [] ⟨Nat.le_of_ble_eq_true rfl,Nat.le_of_ble_eq_true rfl⟩ rfl rfl ?_
 intro w hP hQ
 unfold c_S_TabOk
 simp +decide (maxSteps:=9^9) (disch:=omega) only[↓SB0,SX,seval,hQ]
 rcases bcase (inR (t.inodes.length:Nat) 1 30) with hA | hA
 ·have hA':=inR_no hA
  (first|refine cI hP (s_l1In (t.inodes.length:Nat) 1 30) rfl rfl ?_|refine cH hP (s_l1In (t.inodes.length:Nat) 1 30) rfl rfl ?_)
  simp +decide (maxSteps:=9^9) (disch:=omega) only[↓SB0,SX,seval,hQ,hA]
  by_cases h0:t.inodes.length≤30
  ·have:t.inodes=[]:=List.length_eq_zero_iff.1 (by omega)
   have hr:rootB t=false:=by simp [rootB,inoAt,this]
   simp [tabB,hr]
  ·simp [tabB,h0]
 have hA':=(inR_iff _ _ _).1 hA
 (first|refine cI hP (s_l1In (t.inodes.length:Nat) 1 30) rfl rfl ?_|refine cH hP (s_l1In (t.inodes.length:Nat) 1 30) rfl rfl ?_)
 simp +decide (maxSteps:=9^9) (disch:=omega) only[↓SB0,SX,seval,hQ,hA]
 rcases bcase (inR t.next 2 1000) with hB | hB
 ·(first|refine cI hP (s_l1In t.next 2 1000) rfl rfl ?_|refine cH hP (s_l1In t.next 2 1000) rfl rfl ?_)
  simp +decide (maxSteps:=9^9) (disch:=omega) only[↓SB0,SX,seval,hQ,hB]
  simp [tabB,hB]
 (first|refine cI hP (s_l1In t.next 2 1000) rfl rfl ?_|refine cH hP (s_l1In t.next 2 1000) rfl rfl ?_)
 simp +decide (maxSteps:=9^9) (disch:=omega) only[↓SB0,SX,seval,hQ,hB]
 refine LH_D [2,4,5004] ?_
 simp +decide (maxSteps:=9^9) (disch:=omega) only[↓SB0,SX,seval,hQ]
 refine loop_e [2,4,5004] (fun i:Nat=>[(3,.int .i64 i)]) (fun i=>i≤t.inodes.length∧∀ k,k<i→stepOk (fun _=>inodeP t) inodeLt t.inodes k=true) (fun i=>t.inodes.length-i) (0) hP hQ (rfl) (by simp) ?_
 rintro i ⟨hi,hk⟩ w1 hP1 hQ1
 simp +decide (maxSteps:=9^9) (disch:=omega) only[↓SB0,SX,seval,hQ,hQ1]
 (first | with_reducible refine if_d _ ?_ ?_ | refine if_i _ ?_ ?_) <;> intro h1
 ·have hlt:i<t.inodes.length:=by omega
  have hno:stepOk (fun _=>inodeP t) inodeLt t.inodes i=false→tabB t=false:=fun e=>inodes_bad (allOk_no hlt e)
  have hla:=hls _ (List.getElem_mem hlt)
  cases hN:inodeB (t.inodes[i]'hlt) with
  | false=>
   simp +decide (maxSteps:=9^9) (disch:=omega) only[↓SB0,SX,seval,hQ,hQ1,getE h1]
   (first|refine cI hP1 (sS_InodeOk (t.inodes[i]'hlt) (by omega)) rfl rfl ?_|refine cH hP1 (sS_InodeOk (t.inodes[i]'hlt) (by omega)) rfl rfl ?_)
   simp +decide (maxSteps:=9^9) (disch:=omega) only[↓SB0,SX,seval,hQ,hQ1,hN]
   rw [hno (step_bad hlt (by simp [inodeP,hN]))]
  | true=>
   cases hV:decide (t.next≤(t.inodes[i]'hlt).ino) with
   | true=>
    have hV':=of_decide_eq_true hV
    simp +decide (maxSteps:=9^9) (disch:=omega) only[↓SB0,SX,seval,hQ,hQ1,getE h1]
    (first|refine cI hP1 (sS_InodeOk (t.inodes[i]'hlt) (by omega)) rfl rfl ?_|refine cH hP1 (sS_InodeOk (t.inodes[i]'hlt) (by omega)) rfl rfl ?_)
    simp +decide (maxSteps:=9^9) (disch:=omega) only[↓SB0,SX,seval,hQ,hQ1,hN,hV]
    rw [hno (step_bad hlt (by simp [inodeP]; omega))]
   | false=>
    have hV':=of_decide_eq_false hV
    cases i with
    | zero=>
     simp +decide (maxSteps:=9^9) (disch:=omega) only[↓SB0,SX,seval,hQ,hQ1,getE h1]
     (first|refine cI hP1 (sS_InodeOk (t.inodes[0]'hlt) (by omega)) rfl rfl ?_|refine cH hP1 (sS_InodeOk (t.inodes[0]'hlt) (by omega)) rfl rfl ?_)
     simp +decide (maxSteps:=9^9) (disch:=omega) only[↓SB0,SX,seval,hQ,hQ1,hN,hV]
     exact ⟨1,rfl,⟨by omega,ok_next hk (by rw [stepOk_zero hlt]; simp [inodeP,hN]; omega)⟩,by omega⟩
    | succ m=>
     have w4:decide ((0:Int)<((m+1:Nat):Int))=true:=decide_eq_true (by omega)
     have hm:=getE (show ((m:Nat):Int)<(t.inodes.length:Nat) by omega)
     cases hD:decide ((t.inodes[m+1]'hlt).ino≤(t.inodes[m]'(by omega)).ino) with
     | true=>
      have hD':=of_decide_eq_true hD
      simp +decide (maxSteps:=9^9) (disch:=omega) only[↓SB0,SX,seval,hQ,hQ1,getE h1]
      (first|refine cI hP1 (sS_InodeOk (t.inodes[m+1]'hlt) (by omega)) rfl rfl ?_|refine cH hP1 (sS_InodeOk (t.inodes[m+1]'hlt) (by omega)) rfl rfl ?_)
      simp +decide (maxSteps:=9^9) (disch:=omega) only[↓SB0,SX,seval,hQ,hQ1,hN,hV,w4,cast_pred,hm,getE h1,hD]
      rw [hno (by rw [stepOk_succ hlt,inodeLt]; simp; omega)]
     | false=>
      have hD':=of_decide_eq_false hD
      simp +decide (maxSteps:=9^9) (disch:=omega) only[↓SB0,SX,seval,hQ,hQ1,getE h1]
      (first|refine cI hP1 (sS_InodeOk (t.inodes[m+1]'hlt) (by omega)) rfl rfl ?_|refine cH hP1 (sS_InodeOk (t.inodes[m+1]'hlt) (by omega)) rfl rfl ?_)
      simp +decide (maxSteps:=9^9) (disch:=omega) only[↓SB0,SX,seval,hQ,hQ1,hN,hV,w4,cast_pred,hm,getE h1,hD]
      exact ⟨m+1+1,rfl,⟨by omega,ok_next hk (by rw [stepOk_succ hlt,inodeLt]; simp [inodeP,hN]; omega)⟩,by omega⟩
 ·obtain rfl:i=t.inodes.length:=by omega
  have hE:inodesIn t=true:=allOk_yes fun k h=>hk k h
  have hr:=root_first hE
  have key:tabB t=rootB t:=by
   simp [tabB,hB,hE,decide_eq_true (show t.inodes.length≤30 by omega)]
  obtain ⟨x,l,hx⟩:∃ x l,t.inodes=x::l:=by
   cases hh:t.inodes with
   | nil=>rw [hh] at hA'; simp at hA'
   | cons x l=>exact ⟨x,l,rfl⟩
  rw [hx] at hr
  replace hr:rootB t=(decide (x.ino=1) && decide (x.kind=2)):=hr
  have g0:t.inodes[0]?=some x:=by rw [hx]; rfl
  have c0:decide ((0:Int)<(t.inodes.length:Nat))=true:=decide_eq_true (by omega)
  simp +decide (maxSteps:=9^9) (disch:=omega) only[↓SB0,SX,seval,hQ,hQ1,g0,Int.toNat_zero]
  (first | with_reducible refine gd_d _ ?_ ?_ | refine gd_i _ ?_ ?_) <;> intro g1
  ·simp +decide (maxSteps:=9^9) (disch:=omega) only[↓SB0,SX,seval,hQ,g1,g0,Int.toNat_zero]
   rw [key,hr,decide_eq_true g1,Bool.true_and]
  ·simp +decide (maxSteps:=9^9) (disch:=omega) only[↓SB0,SX,seval,hQ,g1]
   rw [key,hr,decide_eq_false g1,Bool.false_and]
theorem sI_TabOk (t:Tab) (h:t.sz<2^40):Spec Tryz.prog 71 [t.x] (.bool (tabB t)) [.undef]:=by
 obtain ⟨hl,hls⟩:=tab_sz h
 refine spec_c hmx p_I_TabOk [] 1835135 [] ⟨Nat.le_of_ble_eq_true rfl,Nat.le_of_ble_eq_true rfl⟩ rfl rfl ?_
 intro w hP hQ
 unfold c_I_TabOk
 simp +decide (maxSteps:=9^9) (disch:=omega) only[↓SB0,SX,seval,hQ]
 (first | with_reducible refine gd_d _ ?_ ?_ | refine gd_i _ ?_ ?_) <;> intro hA
 ·simp +decide (maxSteps:=9^9) (disch:=omega) only[↓SB0,SX,seval,hQ,hA]
  simp [tabB]; omega
 simp +decide (maxSteps:=9^9) (disch:=omega) only[↓SB0,SX,seval,hQ,hA]
 rcases bcase (inR t.next 2 1000) with hB | hB
 ·(first|refine cI hP (s_from t.next 2 1000) rfl rfl ?_|refine cH hP (s_from t.next 2 1000) rfl rfl ?_)
  simp +decide (maxSteps:=9^9) (disch:=omega) only[↓SB0,SX,seval,hQ,hB]
  simp [tabB,hB]
 (first|refine cI hP (s_from t.next 2 1000) rfl rfl ?_|refine cH hP (s_from t.next 2 1000) rfl rfl ?_)
 simp +decide (maxSteps:=9^9) (disch:=omega) only[↓SB0,SX,seval,hQ,hB]
 refine LH_D [2,3,4,5004] ?_
 simp +decide (maxSteps:=9^9) (disch:=omega) only[↓SB0,SX,seval,hQ]
 refine loop_e [2,3,4,5004] (fun i:Nat=>[(20,.int .i64 i)]) (fun i=>i≤t.inodes.length∧∀ k,k<i→stepOk (fun _=>inodeP t) inodeLt t.inodes k=true) (fun i=>t.inodes.length-i) (0) hP hQ (rfl) (by simp) ?_
 rintro i ⟨hi,hk⟩ w1 hP1 hQ1
 simp +decide (maxSteps:=9^9) (disch:=omega) only[↓SB0,SX,seval,hQ,hQ1]
 (first | with_reducible refine if_d _ ?_ ?_ | refine if_i _ ?_ ?_) <;> intro h1
 ·have hlt:i<t.inodes.length:=by omega
  have hno:stepOk (fun _=>inodeP t) inodeLt t.inodes i=false→tabB t=false:=fun e=>inodes_bad (allOk_no hlt e)
  have hla:=hls _ (List.getElem_mem hlt)
  cases hN:inodeB (t.inodes[i]'hlt) with
  | false=>
   simp +decide (maxSteps:=9^9) (disch:=omega) only[↓SB0,SX,seval,hQ,hQ1,getE h1]
   (first|refine cI hP1 (sI_InodeOk (t.inodes[i]'hlt) (by omega)) rfl rfl ?_|refine cH hP1 (sI_InodeOk (t.inodes[i]'hlt) (by omega)) rfl rfl ?_)
   simp +decide (maxSteps:=9^9) (disch:=omega) only[↓SB0,SX,seval,hQ,hQ1,hN]
   rw [hno (step_bad hlt (by simp [inodeP,hN]))]
  | true=>
   cases hV:decide (t.next≤(t.inodes[i]'hlt).ino) with
   | true=>
    have hV':=of_decide_eq_true hV
    simp +decide (maxSteps:=9^9) (disch:=omega) only[↓SB0,SX,seval,hQ,hQ1,getE h1]
    (first|refine cI hP1 (sI_InodeOk (t.inodes[i]'hlt) (by omega)) rfl rfl ?_|refine cH hP1 (sI_InodeOk (t.inodes[i]'hlt) (by omega)) rfl rfl ?_)
    simp +decide (maxSteps:=9^9) (disch:=omega) only[↓SB0,SX,seval,hQ,hQ1,hN,hV]
    rw [hno (step_bad hlt (by simp [inodeP]; omega))]
   | false=>
    have hV':=of_decide_eq_false hV
    cases i with
    | zero=>
     simp +decide (maxSteps:=9^9) (disch:=omega) only[↓SB0,SX,seval,hQ,hQ1,getE h1]
     (first|refine cI hP1 (sI_InodeOk (t.inodes[0]'hlt) (by omega)) rfl rfl ?_|refine cH hP1 (sI_InodeOk (t.inodes[0]'hlt) (by omega)) rfl rfl ?_)
     simp +decide (maxSteps:=9^9) (disch:=omega) only[↓SB0,SX,seval,hQ,hQ1,hN,hV]
     exact ⟨1,rfl,⟨by omega,ok_next hk (by rw [stepOk_zero hlt]; simp [inodeP,hN]; omega)⟩,by omega⟩
    | succ m=>
     have w4:decide ((0:Int)<((m+1:Nat):Int))=true:=decide_eq_true (by omega)
     have hm:=getE (show ((m:Nat):Int)<(t.inodes.length:Nat) by omega)
     cases hD:decide ((t.inodes[m+1]'hlt).ino≤(t.inodes[m]'(by omega)).ino) with
     | true=>
      have hD':=of_decide_eq_true hD
      simp +decide (maxSteps:=9^9) (disch:=omega) only[↓SB0,SX,seval,hQ,hQ1,getE h1]
      (first|refine cI hP1 (sI_InodeOk (t.inodes[m+1]'hlt) (by omega)) rfl rfl ?_|refine cH hP1 (sI_InodeOk (t.inodes[m+1]'hlt) (by omega)) rfl rfl ?_)
      simp +decide (maxSteps:=9^9) (disch:=omega) only[↓SB0,SX,seval,hQ,hQ1,hN,hV,w4,cast_pred,hm,getE h1,hD]
      rw [hno (by rw [stepOk_succ hlt,inodeLt]; simp; omega)]
     | false=>
      have hD':=of_decide_eq_false hD
      simp +decide (maxSteps:=9^9) (disch:=omega) only[↓SB0,SX,seval,hQ,hQ1,getE h1]
      (first|refine cI hP1 (sI_InodeOk (t.inodes[m+1]'hlt) (by omega)) rfl rfl ?_|refine cH hP1 (sI_InodeOk (t.inodes[m+1]'hlt) (by omega)) rfl rfl ?_)
      simp +decide (maxSteps:=9^9) (disch:=omega) only[↓SB0,SX,seval,hQ,hQ1,hN,hV,w4,cast_pred,hm,getE h1,hD]
      exact ⟨m+1+1,rfl,⟨by omega,ok_next hk (by rw [stepOk_succ hlt,inodeLt]; simp [inodeP,hN]; omega)⟩,by omega⟩
 ·obtain rfl:i=t.inodes.length:=by omega
  have hE:inodesIn t=true:=allOk_yes fun k h=>hk k h
  have key:tabB t=rootB t:=by
   simp [tabB,hB,hE,decide_eq_true (show t.inodes.length≤30 by omega)]
  have hI:=sI_InodeAt t 1 h
  simp +decide (maxSteps:=9^9) (disch:=omega) only[↓SB0,SX,seval,hQ,hQ1]
  cases e:inoAt t 1 with
  | none=>
   have hr:rootB t=false:=by rw [rootB,e]
   rw [e] at hI
   (first|refine cI hP (hI) rfl rfl ?_|refine cH hP (hI) rfl rfl ?_)
   simp +decide (maxSteps:=9^9) (disch:=omega) only[↓SB0,SX,seval,hQ]
   rw [key,hr]
  | some x=>
   have hr:rootB t=decide (x.kind=2):=by rw [rootB,e]
   rw [iget,e] at hI
   (first|refine cI hP (hI) rfl rfl ?_|refine cH hP (hI) rfl rfl ?_)
   simp +decide (maxSteps:=9^9) (disch:=omega) only[↓SB0,SX,seval,hQ]
   rw [key,hr]; rfl
end Go.Proofs.YtjmnolhflcjpgaaGreat.Awp
namespace Go.Proofs.YtjmnolhflcjpgaaGreat.Awp
open Go.Proofs
set_option linter.unusedSimpArgs false
set_option linter.unusedVariables false
open Nat (reduceEqDiff reduceAdd reduceMul reduceSub)
open Int (reduceNeg reduceToNat reducePow)
set_option maxRecDepth 100000
set_option maxHeartbeats 20000000
theorem sum_mono {α:Type} (f g:α→Nat) (l:List α) (h:∀ x ∈ l,f x≤g x):(l.map f).sum≤(l.map g).sum:=by
 induction l with
 | nil=>simp
 | cons x l ih=>
  have:=ih fun y hy=>h y (by simp [hy])
  have:=h x (by simp)
  simp only [List.map_cons,List.sum_cons]; omega
def lkF (n:Int) (x:Inode):Nat:=(nbOf x).count n
theorem linksOf_F (t:Tab) (n:Int):linksOf t n=(t.inodes.map (lkF n)).sum:=rfl
theorem lkF_le (n:Int) (x:Inode):lkF n x≤x.sz:=by
 have h1:lkF n x≤(nbOf x).length:=List.count_le_length
 have h2:(nbOf x).length≤x.ents.length:=by
  unfold nbOf; split <;> simp
 have h3:x.ents.length≤x.sz:=by simp only [Inode.sz,szM]; omega
 omega
theorem links_bound (t:Tab) (n:Int) (i:Nat):((t.inodes.take i).map (lkF n)).sum≤t.sz:=by
 have h1:=sum_take_le (lkF n) t.inodes i
 have h2:=sum_mono (lkF n) Inode.sz t.inodes fun x _=>lkF_le n x
 have h3:t.sz=t.inodes.length+(t.inodes.map Inode.sz).sum:=rfl
 omega
theorem lkF_dir {n:Int} {x:Inode} (h:x.kind=2):lkF n x=(x.ents.map Ent.ino).count n:=by rw [lkF,nbOf,if_pos h]
theorem lkF_no {n:Int} {x:Inode} (h:¬ x.kind=2):lkF n x=0:=by rw [lkF,nbOf,if_neg h]; rfl
theorem cnt_take {l:List Ent} {k:Nat} (h:k<l.length) (n:Int):((l.take (k+1)).map Ent.ino).count n=((l.take k).map Ent.ino).count n+if l[k].ino=n then 1 else 0:=by
 rw [List.take_add_one,List.getElem?_eq_getElem h,List.map_append,List.count_append]
 simp only [Option.toList_some,List.map_cons,List.map_nil]
 rw [List.count_singleton]
 simp
theorem cnt_take_le (l:List Ent) (k:Nat) (n:Int):((l.take k).map Ent.ino).count n≤l.length:=by
 have h1:((l.take k).map Ent.ino).count n≤((l.take k).map Ent.ino).length:=List.count_le_length
 simp only [List.length_map,List.length_take] at h1
 omega
theorem sS_LinksOf (t:Tab) (n:Int) (h:t.sz<2^40):Spec Tryz.prog 66 [t.x,.int .i64 n] (.int .i64 (linksOf t n:Nat)) [.undef,.undef]:=by
 obtain ⟨hl,hls⟩:=tab_sz h
 refine spec_c hmx p_S_LinksOf [] 247 [] ⟨Nat.le_of_ble_eq_true rfl,Nat.le_of_ble_eq_true rfl⟩ rfl rfl ?_
 intro w hP hQ
 unfold c_S_LinksOf
 simp +decide (maxSteps:=9^9) (disch:=omega) only[↓SB0,SX,seval,hQ]
 refine LH_D [7] ?_
 simp +decide (maxSteps:=9^9) (disch:=omega) only[↓SB0,SX,seval,hQ]
 refine loop_e [7] (fun s:Nat × Nat=>[(5,.int .i64 (s.1:Nat)),(6,.int .i64 (s.2:Nat))]) (fun s=>s.2≤t.inodes.length∧s.1=((t.inodes.take s.2).map (lkF n)).sum) (fun s=>t.inodes.length-s.2) ((0,0)) hP hQ (rfl) (by simp) ?_
 rintro ⟨c,i⟩ ⟨hi,hc⟩ w1 hP1 hQ1
 simp +decide (maxSteps:=9^9) (disch:=omega) only[↓SB0,SX,seval,hQ,hQ1]
 simp only at hi hc
 (first | with_reducible refine if_d _ ?_ ?_ | refine if_i _ ?_ ?_) <;> intro h1
 ·have hlt:i<t.inodes.length:=by omega
  have hs:=sum_take (lkF n) t.inodes i hlt
  have hb:=links_bound t n i
  have hx:=hls _ (List.getElem_mem hlt)
  have hel:(t.inodes[i]'hlt).ents.length<2^40:=(inode_sz hx).2.1
  simp +decide (maxSteps:=9^9) (disch:=omega) only[↓SB0,SX,seval,hQ,hQ1]
  by_cases hk2:(t.inodes[i]'hlt).kind=2
  ·have hf:=lkF_dir (n:=n) hk2
   refine LH_D [] ?_
   simp +decide (maxSteps:=9^9) (disch:=omega) only[↓SB0,SX,seval,hQ,hQ1]
   refine loop_e [] (fun s:Nat × Nat=>[(5,.int .i64 (s.1:Nat)),(7,.int .i64 (s.2:Nat))]) (fun s=>s.2≤(t.inodes[i]'hlt).ents.length∧s.1=c+(((t.inodes[i]'hlt).ents.take s.2).map Ent.ino).count n) (fun s=>(t.inodes[i]'hlt).ents.length-s.2) ((c,0)) hP1 hQ1 (rfl) (by simp) ?_
   rintro ⟨d,k⟩ ⟨hk,hd⟩ w2 hP2 hQ2
   simp +decide (maxSteps:=9^9) (disch:=omega) only[↓SB0,SX,seval,hQ,hQ1,hQ2]
   simp only at hk hd
   have hcl:=cnt_take_le (t.inodes[i]'hlt).ents k n
   simp +decide (maxSteps:=9^9) (disch:=omega) only[↓SB0,SX,seval,hQ,hQ1,hQ2,getE h1]
   (first | with_reducible refine gd_d _ ?_ ?_ | refine gd_i _ ?_ ?_) <;> intro g1
   ·have hct:=cnt_take (l:=(t.inodes[i]'hlt).ents) (k:=k) (by omega) n
    simp +decide (maxSteps:=9^9) (disch:=omega) only[↓SB0,SX,seval,hQ,hQ1,hQ2,g1,getE h1,hk2]
    simp +decide (maxSteps:=9^9) (disch:=omega) only[↓SB0,SX,seval,hQ,hQ1,hQ2,getE h1,getE g1]
    (first | with_reducible refine if_d _ ?_ ?_ | refine if_i _ ?_ ?_) <;> intro g2
    ·rw [if_pos g2] at hct
     simp +decide (maxSteps:=9^9) (disch:=omega) only[↓SB0,SX,seval,hQ,hQ1,hQ2]
     exact ⟨(d+1,k+1),rfl,⟨by simp only; omega,by simp only; omega⟩,by simp only; omega⟩
    ·rw [if_neg g2] at hct
     simp +decide (maxSteps:=9^9) (disch:=omega) only[↓SB0,SX,seval,hQ,hQ1,hQ2]
     exact ⟨(d,k+1),rfl,⟨by simp only; omega,by simp only; omega⟩,by simp only; omega⟩
   ·obtain rfl:k=(t.inodes[i]'hlt).ents.length:=by omega
    rw [List.take_length] at hd
    simp +decide (maxSteps:=9^9) (disch:=omega) only[↓SB0,SX,seval,hQ,hQ1,hQ2,g1]
    exact ⟨(d,i+1),rfl,⟨by simp only; omega,by simp only; omega⟩,by simp only; omega⟩
  ·have hf:=lkF_no (n:=n) hk2
   refine LH_D [] ?_
   simp +decide (maxSteps:=9^9) (disch:=omega) only[↓SB0,SX,seval,hQ,hQ1]
   refine loop_e [] (fun s:Nat × Nat=>[(5,.int .i64 (s.1:Nat)),(7,.int .i64 (s.2:Nat))]) (fun s=>s=(c,0)) (fun s=>0) ((c,0)) hP1 hQ1 (rfl) (rfl) ?_
   rintro ⟨d,k⟩ hk w2 hP2 hQ2
   simp +decide (maxSteps:=9^9) (disch:=omega) only[↓SB0,SX,seval,hQ,hQ1,hQ2]
   obtain ⟨rfl,rfl⟩:=Prod.mk.inj hk
   simp +decide (maxSteps:=9^9) (disch:=omega) only[↓SB0,SX,seval,hQ,hQ1,hQ2,getE h1]
   (first | with_reducible refine gd_d _ ?_ ?_ | refine gd_i _ ?_ ?_) <;> intro g1
   ·simp +decide (maxSteps:=9^9) (disch:=omega) only[↓SB0,SX,seval,hQ,hQ1,hQ2,g1,getE h1,hk2]
    exact ⟨(d,i+1),rfl,⟨by simp only; omega,by simp only; omega⟩,by simp only; omega⟩
   ·simp +decide (maxSteps:=9^9) (disch:=omega) only[↓SB0,SX,seval,hQ,hQ1,hQ2,g1]
    exact ⟨(d,i+1),rfl,⟨by simp only; omega,by simp only; omega⟩,by simp only; omega⟩
 ·obtain rfl:i=t.inodes.length:=by omega
  rw [List.take_length,← linksOf_F] at hc
  subst hc
  simp +decide (maxSteps:=9^9) (disch:=omega) only[↓SB0,SX,seval,hQ,hQ1]
theorem sI_LinksOf (t:Tab) (n:Int) (h:t.sz<2^40):Spec Tryz.prog 73 [t.x,.int .i64 n] (.int .i64 (linksOf t n:Nat)) [.undef,.undef]:=by
 obtain ⟨hl,hls⟩:=tab_sz h
 refine spec_c hmx p_I_LinksOf [] 14695095 [] ⟨Nat.le_of_ble_eq_true rfl,Nat.le_of_ble_eq_true rfl⟩ rfl rfl ?_
 intro w hP hQ
 unfold c_I_LinksOf
 simp +decide (maxSteps:=9^9) (disch:=omega) only[↓SB0,SX,seval,hQ]
 refine LH_D [7,9,21,22,23,5007,5009] ?_
 simp +decide (maxSteps:=9^9) (disch:=omega) only[↓SB0,SX,seval,hQ]
 refine loop_e [7,9,21,22,23,5007,5009] (fun s:Nat × Nat=>[(5,.int .i64 (s.1:Nat)),(13,.int .i64 (s.2:Nat))]) (fun s=>s.2≤t.inodes.length∧s.1=((t.inodes.take s.2).map (lkF n)).sum) (fun s=>t.inodes.length-s.2) ((0,0)) hP hQ (rfl) (by simp) ?_
 rintro ⟨c,i⟩ ⟨hi,hc⟩ w1 hP1 hQ1
 simp +decide (maxSteps:=9^9) (disch:=omega) only[↓SB0,SX,seval,hQ,hQ1]
 simp only at hi hc
 (first | with_reducible refine if_d _ ?_ ?_ | refine if_i _ ?_ ?_) <;> intro h1
 ·have hlt:i<t.inodes.length:=by omega
  have hs:=sum_take (lkF n) t.inodes i hlt
  have hb:=links_bound t n i
  have hx:=hls _ (List.getElem_mem hlt)
  simp +decide (maxSteps:=9^9) (disch:=omega) only[↓SB0,SX,seval,hQ,hQ1,getE h1]
  generalize t.inodes[i]'hlt=x at *
  have hel:x.ents.length<2^40:=(inode_sz hx).2.1
  (first | with_reducible refine if_d _ ?_ ?_ | refine if_i _ ?_ ?_) <;> intro hk2
  ·have hf:=lkF_dir (n:=n) hk2
   simp +decide (maxSteps:=9^9) (disch:=omega) only[↓SB0,SX,seval,hQ,hQ1]
   refine LH_D [9,5009] ?_
   simp +decide (maxSteps:=9^9) (disch:=omega) only[↓SB0,SX,seval,hQ,hQ1]
   refine loop_e [9,5009] (fun s:Nat × Nat=>[(5,.int .i64 (s.1:Nat)),(23,.int .i64 (s.2:Nat))]) (fun s=>s.2≤x.ents.length∧s.1=c+((x.ents.take s.2).map Ent.ino).count n) (fun s=>x.ents.length-s.2) ((c,0)) hP1 hQ1 (rfl) (by simp) ?_
   rintro ⟨d,k⟩ ⟨hk,hd⟩ w2 hP2 hQ2
   simp +decide (maxSteps:=9^9) (disch:=omega) only[↓SB0,SX,seval,hQ,hQ1,hQ2]
   simp only at hk hd
   have hcl:=cnt_take_le x.ents k n
   (first | with_reducible refine if_d _ ?_ ?_ | refine if_i _ ?_ ?_) <;> intro g1
   ·have hct:=cnt_take (l:=x.ents) (k:=k) (by omega) n
    simp +decide (maxSteps:=9^9) (disch:=omega) only[↓SB0,SX,seval,hQ,hQ1,hQ2,getE g1]
    (first | with_reducible refine if_d _ ?_ ?_ | refine if_i _ ?_ ?_) <;> intro g2
    ·rw [if_pos g2] at hct
     simp +decide (maxSteps:=9^9) (disch:=omega) only[↓SB0,SX,seval,hQ,hQ1,hQ2]
     exact ⟨(d+1,k+1),rfl,⟨by simp only; omega,by simp only; omega⟩,by simp only; omega⟩
    ·rw [if_neg g2] at hct
     simp +decide (maxSteps:=9^9) (disch:=omega) only[↓SB0,SX,seval,hQ,hQ1,hQ2]
     exact ⟨(d,k+1),rfl,⟨by simp only; omega,by simp only; omega⟩,by simp only; omega⟩
   ·obtain rfl:k=x.ents.length:=by omega
    rw [List.take_length] at hd
    simp +decide (maxSteps:=9^9) (disch:=omega) only[↓SB0,SX,seval,hQ,hQ1,hQ2]
    exact ⟨(d,i+1),rfl,⟨by simp only; omega,by simp only; omega⟩,by simp only; omega⟩
  ·have hf:=lkF_no (n:=n) hk2
   simp +decide (maxSteps:=9^9) (disch:=omega) only[↓SB0,SX,seval,hQ,hQ1]
   exact ⟨(c,i+1),rfl,⟨by simp only; omega,by simp only; omega⟩,by simp only; omega⟩
 ·obtain rfl:i=t.inodes.length:=by omega
  rw [List.take_length,← linksOf_F] at hc
  subst hc
  simp +decide (maxSteps:=9^9) (disch:=omega) only[↓SB0,SX,seval,hQ,hQ1]
def atF (a:Attr):Nat:=a.name.length+a.val.length
def usF (x:Inode):Nat:=32+x.data.length+(x.attrs.map atF).sum
theorem usageOf_F (t:Tab):usageOf t=(t.inodes.map usF).sum:=rfl
theorem atF_le (x:Inode):(x.attrs.map atF).sum+x.data.length≤x.sz:=by
 have h2:x.sz=x.data.length+szM Ent.sz x.ents+szM Attr.sz x.attrs:=rfl
 have h3:szM Attr.sz x.attrs=x.attrs.length+(x.attrs.map Attr.sz).sum:=rfl
 have h4:(x.attrs.map atF).sum=(x.attrs.map Attr.sz).sum:=rfl
 omega
theorem usage_bound (t:Tab) (i:Nat):((t.inodes.take i).map usF).sum≤33*t.sz:=by
 have h1:=sum_take_le usF t.inodes i
 have h3:t.sz=t.inodes.length+(t.inodes.map Inode.sz).sum:=rfl
 have h4:(t.inodes.map usF).sum≤32*t.inodes.length+(t.inodes.map Inode.sz).sum:=by
  generalize t.inodes=l
  induction l with
  | nil=>simp
  | cons x l ih=>
   have:=atF_le x
   simp only [List.map_cons,List.sum_cons,List.length_cons]
   have e:usF x=32+x.data.length+(x.attrs.map atF).sum:=rfl
   omega
 omega
theorem sS_UsageOf (t:Tab) (h:t.sz<2^40):Spec Tryz.prog 28 [t.x] (.int .i64 (usageOf t:Nat)) [.undef]:=by
 obtain ⟨hl,hls⟩:=tab_sz h
 refine spec_c hmx p_S_UsageOf [] 127 [] ⟨Nat.le_of_ble_eq_true rfl,Nat.le_of_ble_eq_true rfl⟩ rfl rfl ?_
 intro w hP hQ
 unfold c_S_UsageOf
 simp +decide (maxSteps:=9^9) (disch:=omega) only[↓SB0,SX,seval,hQ]
 refine LH_D [5,6,5005] ?_
 simp +decide (maxSteps:=9^9) (disch:=omega) only[↓SB0,SX,seval,hQ]
 refine loop_e [5,6,5005] (fun s:Nat × Nat=>[(3,.int .i64 (s.1:Nat)),(4,.int .i64 (s.2:Nat))]) (fun s=>s.2≤t.inodes.length∧s.1=((t.inodes.take s.2).map usF).sum) (fun s=>t.inodes.length-s.2) ((0,0)) hP hQ (rfl) (by simp) ?_
 rintro ⟨c,i⟩ ⟨hi,hc⟩ w1 hP1 hQ1
 simp +decide (maxSteps:=9^9) (disch:=omega) only[↓SB0,SX,seval,hQ,hQ1]
 simp only at hi hc
 (first | with_reducible refine if_d _ ?_ ?_ | refine if_i _ ?_ ?_) <;> intro h1
 ·have hlt:i<t.inodes.length:=by omega
  have hs:=sum_take usF t.inodes i hlt
  have hb:=usage_bound t i
  have hx:=hls _ (List.getElem_mem hlt)
  have hae:=atF_le (t.inodes[i]'hlt)
  have hue:usF (t.inodes[i]'hlt)=32+(t.inodes[i]'hlt).data.length+((t.inodes[i]'hlt).attrs.map atF).sum:=rfl
  simp +decide (maxSteps:=9^9) (disch:=omega) only[↓SB0,SX,seval,hQ,hQ1,getE h1]
  generalize t.inodes[i]'hlt=x at *
  have hel:x.attrs.length<2^40:=(inode_sz hx).2.2
  refine LH_D [] ?_
  simp +decide (maxSteps:=9^9) (disch:=omega) only[↓SB0,SX,seval,hQ,hQ1]
  refine loop_e [] (fun s:Nat × Nat=>[(3,.int .i64 (s.1:Nat)),(6,.int .i64 (s.2:Nat))]) (fun s=>s.2≤x.attrs.length∧s.1=c+32+x.data.length+((x.attrs.take s.2).map atF).sum) (fun s=>x.attrs.length-s.2) ((c+32+x.data.length,0)) hP1 hQ1 (by simp only [Int.natCast_add]; rfl) (by simp) ?_
  rintro ⟨d,k⟩ ⟨hk,hd⟩ w2 hP2 hQ2
  simp +decide (maxSteps:=9^9) (disch:=omega) only[↓SB0,SX,seval,hQ,hQ1,hQ2]
  simp only at hk hd
  have hal:=sum_take_le atF x.attrs k
  (first | with_reducible refine if_d _ ?_ ?_ | refine if_i _ ?_ ?_) <;> intro g1
  ·have hct:=sum_take atF x.attrs k (by omega)
   have hal':=sum_take_le atF x.attrs (k+1)
   have hae':atF (x.attrs[k]'(by omega))=(x.attrs[k]'(by omega)).name.length+(x.attrs[k]'(by omega)).val.length:=rfl
   simp +decide (maxSteps:=9^9) (disch:=omega) only[↓SB0,SX,seval,hQ,hQ1,hQ2,getE g1]
   exact ⟨(d+(x.attrs[k]'(by omega)).name.length+(x.attrs[k]'(by omega)).val.length,k+1),by simp,⟨by simp only; omega,by simp only; omega⟩,by simp only; omega⟩
  ·obtain rfl:k=x.attrs.length:=by omega
   rw [List.take_length] at hd
   simp +decide (maxSteps:=9^9) (disch:=omega) only[↓SB0,SX,seval,hQ,hQ1,hQ2]
   exact ⟨(d,i+1),rfl,⟨by simp only; omega,by simp only; omega⟩,by simp only; omega⟩
 ·obtain rfl:i=t.inodes.length:=by omega
  rw [List.take_length,← usageOf_F] at hc
  subst hc
  simp +decide (maxSteps:=9^9) (disch:=omega) only[↓SB0,SX,seval,hQ,hQ1]
theorem sI_UsageOf (t:Tab) (h:t.sz<2^40):Spec Tryz.prog 34 [t.x] (.int .i64 (usageOf t:Nat)) [.undef]:=by
 obtain ⟨hl,hls⟩:=tab_sz h
 refine spec_c hmx p_I_UsageOf [] 29363887 [] ⟨Nat.le_of_ble_eq_true rfl,Nat.le_of_ble_eq_true rfl⟩ rfl rfl ?_
 intro w hP hQ
 unfold c_I_UsageOf
 simp +decide (maxSteps:=9^9) (disch:=omega) only[↓SB0,SX,seval,hQ]
 refine LH_D [5,7,22,23,24,5005,5007] ?_
 simp +decide (maxSteps:=9^9) (disch:=omega) only[↓SB0,SX,seval,hQ]
 refine loop_e [5,7,22,23,24,5005,5007] (fun s:Nat × Nat=>[(3,.int .i64 (s.1:Nat)),(11,.int .i64 (s.2:Nat))]) (fun s=>s.2≤t.inodes.length∧s.1=((t.inodes.take s.2).map usF).sum) (fun s=>t.inodes.length-s.2) ((0,0)) hP hQ (rfl) (by simp) ?_
 rintro ⟨c,i⟩ ⟨hi,hc⟩ w1 hP1 hQ1
 simp +decide (maxSteps:=9^9) (disch:=omega) only[↓SB0,SX,seval,hQ,hQ1]
 simp only at hi hc
 (first | with_reducible refine if_d _ ?_ ?_ | refine if_i _ ?_ ?_) <;> intro h1
 ·have hlt:i<t.inodes.length:=by omega
  have hs:=sum_take usF t.inodes i hlt
  have hb:=usage_bound t i
  have hx:=hls _ (List.getElem_mem hlt)
  have hae:=atF_le (t.inodes[i]'hlt)
  have hue:usF (t.inodes[i]'hlt)=32+(t.inodes[i]'hlt).data.length+((t.inodes[i]'hlt).attrs.map atF).sum:=rfl
  simp +decide (maxSteps:=9^9) (disch:=omega) only[↓SB0,SX,seval,hQ,hQ1,getE h1]
  generalize t.inodes[i]'hlt=x at *
  have hel:x.attrs.length<2^40:=(inode_sz hx).2.2
  refine LH_D [7,5007] ?_
  simp +decide (maxSteps:=9^9) (disch:=omega) only[↓SB0,SX,seval,hQ,hQ1]
  refine loop_e [7,5007] (fun s:Nat × Nat=>[(3,.int .i64 (s.1:Nat)),(24,.int .i64 (s.2:Nat))]) (fun s=>s.2≤x.attrs.length∧s.1=c+(32+x.data.length)+((x.attrs.take s.2).map atF).sum) (fun s=>x.attrs.length-s.2) ((c+(32+x.data.length),0)) hP1 hQ1 (by simp only [Int.natCast_add]; rfl) (by simp) ?_
  rintro ⟨d,k⟩ ⟨hk,hd⟩ w2 hP2 hQ2
  simp +decide (maxSteps:=9^9) (disch:=omega) only[↓SB0,SX,seval,hQ,hQ1,hQ2]
  simp only at hk hd
  have hal:=sum_take_le atF x.attrs k
  (first | with_reducible refine if_d _ ?_ ?_ | refine if_i _ ?_ ?_) <;> intro g1
  ·have hct:=sum_take atF x.attrs k (by omega)
   have hal':=sum_take_le atF x.attrs (k+1)
   have hae':atF (x.attrs[k]'(by omega))=(x.attrs[k]'(by omega)).name.length+(x.attrs[k]'(by omega)).val.length:=rfl
   simp +decide (maxSteps:=9^9) (disch:=omega) only[↓SB0,SX,seval,hQ,hQ1,hQ2,getE g1]
   exact ⟨(d+((x.attrs[k]'(by omega)).name.length+(x.attrs[k]'(by omega)).val.length),k+1),by simp,⟨by simp only; omega,by simp only; omega⟩,by simp only; omega⟩
  ·obtain rfl:k=x.attrs.length:=by omega
   rw [List.take_length] at hd
   simp +decide (maxSteps:=9^9) (disch:=omega) only[↓SB0,SX,seval,hQ,hQ1,hQ2]
   exact ⟨(d,i+1),rfl,⟨by simp only; omega,by simp only; omega⟩,by simp only; omega⟩
 ·obtain rfl:i=t.inodes.length:=by omega
  rw [List.take_length,← usageOf_F] at hc
  subst hc
  simp +decide (maxSteps:=9^9) (disch:=omega) only[↓SB0,SX,seval,hQ,hQ1]
end Go.Proofs.YtjmnolhflcjpgaaGreat.Awp
namespace Go.Proofs.YtjmnolhflcjpgaaGreat.Awp
open Go.Proofs
set_option linter.unusedSimpArgs false
set_option linter.unusedVariables false
open Nat (reduceEqDiff reduceAdd reduceMul reduceSub)
open Int (reduceNeg reduceToNat reducePow)
set_option maxRecDepth 100000
set_option maxHeartbeats 20000000
def intR (n:Int):List TV:=[.int .i64 n]
theorem flatR_I (l:List Int):flatR (l.map intR)=true:=flatR_map intR (fun _=>rfl) l
theorem mem_no {l:List Int} {n:Int} (hk:∀ k,(h:k<l.length)→decide (l[k]=n)=false):n ∉ l:=by
 intro h
 obtain ⟨k,hk',e⟩:=List.getElem_of_mem h
 have:=hk k hk'
 simp [e] at this
theorem sS_l7Has (l:List Int) (n:Int) (hl:l.length<2^48):Spec Tryz.prog 110 [.ext 1 (l.map intR),.int .i64 n] (.bool (decide (n ∈ l))) [.undef,.undef]:=by
 refine spec_c hmx p_S_l7Has [] 51 [] ⟨Nat.le_of_ble_eq_true rfl,Nat.le_of_ble_eq_true rfl⟩ rfl rfl ?_
 intro w hP hQ
 unfold c_S_l7Has
 simp +decide (maxSteps:=9^9) (disch:=omega) only[↓SB0,SX,seval,hQ]
 refine LH_D [4] ?_
 simp +decide (maxSteps:=9^9) (disch:=omega) only[↓SB0,SX,seval,hQ]
 refine loop_e [4] (fun i:Nat=>[(5,.int .i64 i)]) (fun i=>i≤l.length∧∀ k,k<i→(h:k<l.length)→decide (l[k]=n)=false) (fun i=>l.length-i) (0) hP hQ (rfl) (by simp) ?_
 rintro i ⟨hi,hk⟩ w1 hP1 hQ1
 simp +decide (maxSteps:=9^9) (disch:=omega) only[↓SB0,SX,seval,hQ,hQ1]
 (first | with_reducible refine if_d _ ?_ ?_ | refine if_i _ ?_ ?_) <;> intro h1
 ·simp +decide (maxSteps:=9^9) (disch:=omega) only[↓SB0,SX,seval,hQ,hQ1,getE h1,intR]
  (first | with_reducible refine if_d _ ?_ ?_ | refine if_i _ ?_ ?_) <;> intro h2
  ·simp +decide (maxSteps:=9^9) (disch:=omega) only[↓SB0,SX,seval,hQ,hQ1]
   rw [decide_eq_true (by rw [← h2]; exact List.getElem_mem _)]
  ·simp +decide (maxSteps:=9^9) (disch:=omega) only[↓SB0,SX,seval,hQ,hQ1]
   exact ⟨i+1,rfl,⟨by omega,no_step (p:=fun x:Int=>decide (x=n)) hk (by omega) (decide_eq_false h2)⟩,by omega⟩
 ·obtain rfl:i=l.length:=by omega
  simp +decide (maxSteps:=9^9) (disch:=omega) only[↓SB0,SX,seval,hQ,hQ1]
  rw [decide_eq_false (mem_no fun k h=>hk k h h)]
theorem putI_at {l:List Int} (hu:Up l) {n:Int} {k:Nat} (hk:k≤l.length) (hn:n ∉ l) (h1:∀ j,k≤j→(h:j<l.length)→n<l[j]) (h2:k=0∨∃ h:k-1<l.length,l[k-1]≤n) :
  putI l n=l.take k++n::l.drop k:=by
 have hlow:∀ j,j<k→(h:j<l.length)→l[j]<n:=by
  intro j hj hjl
  rcases h2 with h2 | ⟨h2,h3⟩
  ·omega
  ·have hne:l[j]≠n:=fun e=>hn (by rw [← e]; exact List.getElem_mem _)
   by_cases e:j=k-1
   ·subst e; omega
   ·have:=List.pairwise_iff_getElem.1 hu j (k-1) hjl h2 (by omega)
    omega
 have e1:l.takeWhile (·<n)=l.take k:=by
  have:l=l.take k++l.drop k:=(List.take_append_drop k l).symm
  rw [this,List.takeWhile_append_of_pos,List.take_append_drop]
  ·have:(l.drop k).takeWhile (fun x=>decide (x<n))=[]:=by
    cases hd:l.drop k with
    | nil=>rfl
    | cons x r=>
     rw [List.takeWhile_cons_of_neg]
     have hkl:k<l.length:=by
      have:=congrArg List.length hd
      simp at this; omega
     have hx:x=l[k]:=by
      have:=congrArg (fun r=>r[0]?) hd
      simp [hkl] at this
      exact this.symm
     have:=h1 k (Nat.le_refl _) hkl
     simp; omega
   rw [this]; simp
  ·intro x hx
   obtain ⟨j,hj,rfl⟩:=List.getElem_of_mem hx
   simp only [List.length_take] at hj
   rw [List.getElem_take]
   have:=hlow j (by omega) (by omega)
   simpa using this
 have e2:l.dropWhile (·<n)=l.drop k:=by
  have h:=List.takeWhile_append_dropWhile (p:=fun x=>decide (x<n)) (l:=l)
  rw [e1] at h
  exact List.append_cancel_left (h.trans (List.take_append_drop k l).symm)
 rw [putI,if_neg hn,e1,e2]
theorem hole_get {l:List Int} {k:Nat} {h:Int} (hk:k<l.length):((l.take (k+1)++h::l.drop (k+1)))[k]?=some l[k]:=by
 rw [List.getElem?_append_left (by simp; omega),List.getElem?_take,if_pos (by omega),List.getElem?_eq_getElem hk]
theorem hole_len {l:List Int} {k:Nat} {h:Int} (hk:k≤l.length):(l.take k++h::l.drop k).length=l.length+1:=by simp; omega
theorem hole_set {l:List Int} {k:Nat} (h x:Int) (hk:k≤l.length):(l.take k++h::l.drop k).set k x=l.take k++x::l.drop k:=by
 have:(l.take k).length=k:=by simp; omega
 rw [List.set_append_right _ _ (by omega)]
 congr 1
 rw [this,Nat.sub_self]; rfl
theorem hole_down {l:List Int} {k:Nat} (hk:k<l.length):l.take (k+1)++l[k]::l.drop (k+1)=l.take k++l[k]::l.drop k:=by
 rw [List.take_succ_eq_append_getElem hk,List.append_assoc]
 congr 1
 rw [← List.drop_eq_getElem_cons hk]; rfl
theorem mod_int (L:List Int) (k:Nat) (n:Int):(L.map intR).modify k (fun r=>TV.int .i64 n::r.drop 1)=(L.set k n).map intR:=by
 apply List.ext_getElem?
 intro j
 rw [List.getElem?_modify,List.getElem?_map,List.getElem?_map,List.getElem?_set]
 by_cases e:k=j
 ·subst e
  by_cases hk:k<L.length
  ·simp [hk,intR]
  ·simp [hk]
 ·simp [e]
theorem app_int (l:List Int) (n:Int):l.map intR++[[TV.int .i64 n]]=(l.take l.length++n::l.drop l.length).map intR:=by simp [intR]
theorem sS_l7Put (l:List Int) (n:Int) (hu:Up l) (hl:l.length<2^40):Spec Tryz.prog 100 [.ext 1 (l.map intR),.int .i64 n] (.ext 1 ((putI l n).map intR)) [.undef,.undef]:=by
 by_cases hn:n ∈ l
 ·have hH:=sS_l7Has l n (by omega)
  rw [decide_eq_true hn] at hH
  rw [putI,if_pos hn]
  refine spec_c hmx p_S_l7Put [] 115 [] ⟨Nat.le_of_ble_eq_true rfl,Nat.le_of_ble_eq_true rfl⟩ rfl rfl ?_
  intro w hP hQ
  unfold c_S_l7Put
  simp +decide (maxSteps:=9^9) (disch:=omega) only[↓SB0,SX,seval,hQ]
  (first|refine cI hP (hH) rfl rfl ?_|refine cH hP (hH) rfl rfl ?_)
  simp +decide (maxSteps:=9^9) (disch:=omega) only[↓SB0,SX,seval,hQ]
 ·refine spec_frzR (ret:=.own 1 ((putI l n).map intR)) ?_
  have hH:=sS_l7Has l n (by omega)
  rw [decide_eq_false hn] at hH
  refine spec_c hmx p_S_l7Put [] 115 [] ⟨Nat.le_of_ble_eq_true rfl,Nat.le_of_ble_eq_true rfl⟩ rfl rfl ?_
  intro w hP hQ
  unfold c_S_l7Put
  simp +decide (maxSteps:=9^9) (disch:=omega) only[↓SB0,SX,seval,hQ]
  (first|refine cI hP (hH) rfl rfl ?_|refine cH hP (hH) rfl rfl ?_)
  simp +decide (maxSteps:=9^9) (disch:=omega) only[↓SB0,SX,seval,hQ]
  simp +decide (maxSteps:=9^9) (disch:=omega) only[↓SB0,SX,seval,hQ,flatR_I,List.length_append,cast_pred]
  rw [app_int]
  refine LH_D [] ?_
  simp +decide (maxSteps:=9^9) (disch:=omega) only[↓SB0,SX,seval,hQ]
  refine loop_e [] (fun s:Nat × Int=>[(5,.own 1 ((l.take s.1++s.2::l.drop s.1).map intR)),(6,.int .i64 (s.1:Nat))]) (fun s=>s.1≤l.length∧∀ j,s.1≤j→(h:j<l.length)→n<l[j]) (fun s=>s.1) ((l.length,n)) hP hQ (rfl) (by simp; omega) ?_
  rintro ⟨k,x⟩ ⟨hk,hj⟩ w1 hP1 hQ1
  simp +decide (maxSteps:=9^9) (disch:=omega) only[↓SB0,SX,seval,hQ,hQ1]
  simp only at hk hj
  have hlen:=hole_len (h:=x) hk
  cases k with
  | zero=>
   simp +decide (maxSteps:=9^9) (disch:=omega) only[↓SB0,SX,seval,hQ,hQ1]
   rw [putI_at hu hk hn hj (.inl rfl)]
   simp [intR]
  | succ k=>
   have hkl:k<l.length:=by omega
   have w4:decide ((0:Int)<((k+1:Nat):Int))=true:=decide_eq_true (by omega)
   simp +decide (maxSteps:=9^9) (disch:=omega) only[↓SB0,SX,seval,hQ,hQ1,w4,hlen,cast_pred,hole_get (h:=x) hkl,intR]
   (first | with_reducible refine if_d _ ?_ ?_ | refine if_i _ ?_ ?_) <;> intro g
   ·simp +decide (maxSteps:=9^9) (disch:=omega) only[↓SB0,SX,seval,hQ,hQ1,hlen,cast_pred,hole_get (h:=x) hkl,intR]
    exact ⟨(k,l[k]),by simp only [mod_int,hole_set _ _ hk,hole_down hkl],⟨by simp only; omega,fun j hj1 hj2=>by
     by_cases e:j=k
     ·subst e; exact g
     ·exact hj j (by simp only at hj1; omega) hj2⟩,by simp only; omega⟩
   ·simp +decide (maxSteps:=9^9) (disch:=omega) only[↓SB0,SX,seval,hQ,hQ1,hlen,intR]
    rw [putI_at hu hk hn hj (.inr ⟨by simpa using hkl,by simp only [Nat.add_sub_cancel]; omega⟩),mod_int,hole_set _ _ hk]
end Go.Proofs.YtjmnolhflcjpgaaGreat.Awp
namespace Go.Proofs.YtjmnolhflcjpgaaGreat.Awp
open Go.Proofs
set_option linter.unusedSimpArgs false
set_option linter.unusedVariables false
open Nat (reduceEqDiff reduceAdd reduceMul reduceSub)
open Int (reduceNeg reduceToNat reducePow)
set_option maxRecDepth 100000
set_option maxHeartbeats 20000000
theorem foldl_take {α β:Type} (f:β→α→β) (l:List α) (a:β) (i:Nat) (h:i<l.length):(l.take (i+1)).foldl f a=f ((l.take i).foldl f a) l[i]:=by
 rw [List.take_succ_eq_append_getElem h,List.foldl_append]; rfl
theorem nb_some {t:Tab} {j:Int}:(nbT t j).isSome=(inoIdx t j).isSome:=by
 rw [nbT]
 cases e:inoIdx t j with
 | none=>rw [idx_no e]; rfl
 | some k=>rw [idx_some e]; rfl
theorem addJ_yes {t:Tab} {j:Int} {k:Nat} (out:List Int) (h:inoIdx t j=some k):addJ (nbT t) out j=putI out j:=by
 rw [addJ,nb_some,h]; rfl
theorem addJ_no {t:Tab} {j:Int} (out:List Int) (h:inoIdx t j=none):addJ (nbT t) out j=out:=by
 rw [addJ,nb_some,h]; rfl
structure Nums (t:Tab) (l:List Int):Prop where
 up:Up l
 some':∀ x ∈ l,(nbT t x).isSome=true
theorem Nums.len {t:Tab} {l:List Int} (h:Nums t l):l.length≤t.inodes.length:=nb_bound t l (up_nodup h.up) h.some'
theorem Nums.addJs {t:Tab} {l:List Int} (h:Nums t l) (js:List Int):Nums t (js.foldl (addJ (nbT t)) l):=
 ⟨addJs_up (nbT t) js l h.up,fun x hx=>by
  rcases (mem_addJs (nbT t) js l x).1 hx with h' | h'
  ·exact h.some' x h'
  ·exact h'.2⟩
theorem Nums.addIs {t:Tab} {l:List Int} (h:Nums t l) (is:List Int):Nums t (is.foldl (addI (nbT t)) l):=
 ⟨addIs_up (nbT t) is l h.up,fun x hx=>by
  rcases (mem_addIs (nbT t) is l x).1 hx with h' | h'
  ·exact h.some' x h'
  ·exact h'.2⟩
theorem addI_none {t:Tab} {i:Int} (out:List Int) (h:inoAt t i=none):addI (nbT t) out i=out:=by rw [addI,nbT,h]; rfl
theorem addI_file {t:Tab} {i:Int} {x:Inode} (out:List Int) (h:inoAt t i=some x) (hk:¬ x.kind=2):addI (nbT t) out i=out:=by rw [addI,nbT,h]; simp [nbOf,hk]
theorem addI_dir {t:Tab} {i:Int} {x:Inode} (out:List Int) (h:inoAt t i=some x) (hk:x.kind=2):addI (nbT t) out i=(x.ents.map Ent.ino).foldl (addJ (nbT t)) out:=by rw [addI,nbT,h]; simp [nbOf,hk]
theorem foldE_take (f:List Int→Int→List Int) (l:List Ent) (a:List Int) (k:Nat) (h:k<l.length):((l.take (k+1)).map Ent.ino).foldl f a=f (((l.take k).map Ent.ino).foldl f a) l[k].ino:=by
 have:=foldl_take f (l.map Ent.ino) a k (by simpa using h)
 rw [← List.map_take,← List.map_take] at this
 rw [this]; simp
theorem sS_l7Next (t:Tab) (l:List Int) (h:t.sz<2^40) (hn:Nums t l):Spec Tryz.prog 84 [t.x,.ext 1 (l.map intR)] (.ext 1 ((nextR (nbT t) l).map intR)) [.undef,.undef]:=by
 obtain ⟨hl,hls⟩:=tab_sz h
 have hll:=hn.len
 refine spec_c hmx p_S_l7Next [] 1015 [] ⟨Nat.le_of_ble_eq_true rfl,Nat.le_of_ble_eq_true rfl⟩ rfl rfl ?_
 intro w hP hQ
 unfold c_S_l7Next
 simp +decide (maxSteps:=9^9) (disch:=omega) only[↓SB0,SX,seval,hQ]
 refine LH_D [7,8,9,5007] ?_
 simp +decide (maxSteps:=9^9) (disch:=omega) only[↓SB0,SX,seval,hQ]
 refine loop_e [7,8,9,5007] (fun i:Nat=>[(5,.ext 1 (((l.take i).foldl (addI (nbT t)) l).map intR)),(6,.int .i64 i)]) (fun i=>i≤l.length) (fun i=>l.length-i) (0) hP hQ (rfl) (by simp) ?_
 rintro i hi w1 hP1 hQ1
 simp +decide (maxSteps:=9^9) (disch:=omega) only[↓SB0,SX,seval,hQ,hQ1]
 (first | with_reducible refine if_d _ ?_ ?_ | refine if_i _ ?_ ?_) <;> intro h1
 ·have hlt:i<l.length:=by omega
  have hI:=sS_InodeAt t (l[i]'hlt) h
  have hfo:=foldl_take (addI (nbT t)) l l i hlt
  have hno:=hn.addIs (l.take i)
  generalize hO:(l.take i).foldl (addI (nbT t)) l=out at *
  cases e:inoAt t (l[i]'hlt) with
  | none=>
   rw [iget,e] at hI
   rw [addI_none _ e] at hfo
   simp +decide (maxSteps:=9^9) (disch:=omega) only[↓SB0,SX,seval,hQ,hQ1,getE h1,intR]
   (first|refine cI hP1 (hI) rfl rfl ?_|refine cH hP1 (hI) rfl rfl ?_)
   simp +decide (maxSteps:=9^9) (disch:=omega) only[↓SB0,SX,seval,hQ,hQ1]
   refine LH_D [] ?_
   simp +decide (maxSteps:=9^9) (disch:=omega) only[↓SB0,SX,seval,hQ,hQ1]
   refine loop_e [] (fun k:Nat=>[(5,.ext 1 (out.map intR)),(9,.int .i64 k)]) (fun k=>k=0) (fun k=>0) (0) hP1 hQ1 (rfl) (rfl) ?_
   rintro k hk w2 hP2 hQ2
   simp +decide (maxSteps:=9^9) (disch:=omega) only[↓SB0,SX,seval,hQ,hQ1,hQ2]
   subst hk
   simp +decide (maxSteps:=9^9) (disch:=omega) only[↓SB0,SX,seval,hQ,hQ1,hQ2]
   exact ⟨i+1,by simp only [hfo]; rfl,by omega,by omega⟩
  | some x=>
   have hx:=hls x (inoAt_some e).1
   have hel:x.ents.length<2^40:=(inode_sz hx).2.1
   rw [iget,e] at hI
   simp only [Option.getD_some,Option.isSome_some] at hI
   by_cases hk2:x.kind=2
   ·rw [addI_dir _ e hk2] at hfo
    simp +decide (maxSteps:=9^9) (disch:=omega) only[↓SB0,SX,seval,hQ,hQ1,getE h1,intR]
    (first|refine cI hP1 (hI) rfl rfl ?_|refine cH hP1 (hI) rfl rfl ?_)
    simp +decide (maxSteps:=9^9) (disch:=omega) only[↓SB0,SX,seval,hQ,hQ1]
    refine LH_D [] ?_
    simp +decide (maxSteps:=9^9) (disch:=omega) only[↓SB0,SX,seval,hQ,hQ1]
    refine loop_e [] (fun k:Nat=>[(5,.ext 1 ((((x.ents.take k).map Ent.ino).foldl (addJ (nbT t)) out).map intR)),(9,.int .i64 k)]) (fun k=>k≤x.ents.length) (fun k=>x.ents.length-k) (0) hP1 hQ1 (rfl) (by simp) ?_
    rintro k hk w2 hP2 hQ2
    simp +decide (maxSteps:=9^9) (disch:=omega) only[↓SB0,SX,seval,hQ,hQ1,hQ2]
    have hno2:=hno.addJs ((x.ents.take k).map Ent.ino)
    have hl2:=hno2.len
    (first | with_reducible refine gd_d _ ?_ ?_ | refine gd_i _ ?_ ?_) <;> intro g1
    ·have hkl:k<x.ents.length:=by omega
     have hf2:=foldE_take (addJ (nbT t)) x.ents out k hkl
     generalize ((x.ents.take k).map Ent.ino).foldl (addJ (nbT t)) out=o2 at *
     have hA:=sS_l4At t (x.ents[k]'hkl).ino (by omega)
     simp +decide (maxSteps:=9^9) (disch:=omega) only[↓SB0,SX,seval,hQ,hQ1,hQ2,g1,hk2]
     cases e2:inoIdx t (x.ents[k]'hkl).ino with
     | none=>
      rw [e2] at hA
      rw [addJ_no _ e2] at hf2
      simp +decide (maxSteps:=9^9) (disch:=omega) only[↓SB0,SX,seval,hQ,hQ1,hQ2,getE g1]
      (first|refine cI hP2 (hA) rfl rfl ?_|refine cH hP2 (hA) rfl rfl ?_)
      simp +decide (maxSteps:=9^9) (disch:=omega) only[↓SB0,SX,seval,hQ,hQ1,hQ2]
      exact ⟨k+1,by simp only [hf2,hk2]; rfl,by omega,by omega⟩
     | some m=>
      rw [e2,show idxI (some m)=(m:Int) from rfl] at hA
      rw [addJ_yes _ e2] at hf2
      simp +decide (maxSteps:=9^9) (disch:=omega) only[↓SB0,SX,seval,hQ,hQ1,hQ2,getE g1]
      (first|refine cI hP2 (hA) rfl rfl ?_|refine cH hP2 (hA) rfl rfl ?_)
      simp +decide (maxSteps:=9^9) (disch:=omega) only[↓SB0,SX,seval,hQ,hQ1,hQ2]
      (first | with_reducible refine if_d _ ?_ ?_ | refine if_i _ ?_ ?_) <;> intro g3
      ·simp +decide (maxSteps:=9^9) (disch:=omega) only[↓SB0,SX,seval,hQ,hQ1,hQ2,getE g1]
       (first | refine call_i hP2 (sS_l7Put o2 (x.ents[k]'hkl).ino hno2.up (by omega)) (.inr rfl) ?_ | refine callH_i hP2 (sS_l7Put o2 (x.ents[k]'hkl).ino hno2.up (by omega)) (.inr rfl) ?_)
       simp +decide (maxSteps:=9^9) (disch:=omega) only[↓SB0,SX,seval,hQ,hQ1,hQ2]
       exact ⟨k+1,by simp only [hf2,hk2]; rfl,by omega,by omega⟩
      ·exfalso; omega
    ·obtain rfl:k=x.ents.length:=by omega
     rw [List.take_length] at *
     simp +decide (maxSteps:=9^9) (disch:=omega) only[↓SB0,SX,seval,hQ,hQ1,hQ2,g1]
     exact ⟨i+1,by simp only [hfo]; rfl,by omega,by omega⟩
   ·rw [addI_file _ e hk2] at hfo
    simp +decide (maxSteps:=9^9) (disch:=omega) only[↓SB0,SX,seval,hQ,hQ1,getE h1,intR]
    (first|refine cI hP1 (hI) rfl rfl ?_|refine cH hP1 (hI) rfl rfl ?_)
    simp +decide (maxSteps:=9^9) (disch:=omega) only[↓SB0,SX,seval,hQ,hQ1]
    refine LH_D [] ?_
    simp +decide (maxSteps:=9^9) (disch:=omega) only[↓SB0,SX,seval,hQ,hQ1]
    refine loop_e [] (fun k:Nat=>[(5,.ext 1 (out.map intR)),(9,.int .i64 k)]) (fun k=>k=0) (fun k=>0) (0) hP1 hQ1 (rfl) (rfl) ?_
    rintro k hk w2 hP2 hQ2
    simp +decide (maxSteps:=9^9) (disch:=omega) only[↓SB0,SX,seval,hQ,hQ1,hQ2]
    subst hk
    simp +decide (maxSteps:=9^9) (disch:=omega) only[↓SB0,SX,seval,hQ,hQ1,hQ2]
    (first | with_reducible refine gd_d _ ?_ ?_ | refine gd_i _ ?_ ?_) <;> intro g1
    ·simp +decide (maxSteps:=9^9) (disch:=omega) only[↓SB0,SX,seval,hQ,hQ1,hQ2,g1,hk2]
     exact ⟨i+1,by simp only [hfo]; rfl,by omega,by omega⟩
    ·simp +decide (maxSteps:=9^9) (disch:=omega) only[↓SB0,SX,seval,hQ,hQ1,hQ2,g1]
     exact ⟨i+1,by simp only [hfo]; rfl,by omega,by omega⟩
 ·obtain rfl:i=l.length:=by omega
  simp +decide (maxSteps:=9^9) (disch:=omega) only[↓SB0,SX,seval,hQ,hQ1,List.take_length]
  rfl
end Go.Proofs.YtjmnolhflcjpgaaGreat.Awp
namespace Go.Proofs.YtjmnolhflcjpgaaGreat.Awp
open Go.Proofs
set_option linter.unusedSimpArgs false
set_option linter.unusedVariables false
open Nat (reduceEqDiff reduceAdd reduceMul reduceSub)
open Int (reduceNeg reduceToNat reducePow)
set_option maxRecDepth 100000
set_option maxHeartbeats 20000000
def rdV (t:Tab):Nat→AV
 | 0=>.own 1 [intR 1]
 | i+1=>.ext 1 ((roundsR (nbT t) (i+1)).map intR)
theorem sS_Reached (t:Tab) (h:t.sz<2^40):Spec Tryz.prog 65 [t.x] (.ext 1 ((reached t).map intR)) [.undef]:=by
 obtain ⟨hl,hls⟩:=tab_sz h
 have hA:=sS_l4At t 1 (by omega)
 cases e:inoIdx t 1 with
 | none=>
  have hr:reached t=[]:=by rw [reached,reachR,if_neg]; rw [nb_some,e]; simp
  rw [e] at hA
  rw [hr]
  refine spec_frzR (ret:=.own 1 []) ?_
  refine spec_c hmx p_S_Reached [] 31 [] ⟨Nat.le_of_ble_eq_true rfl,Nat.le_of_ble_eq_true rfl⟩ rfl rfl ?_
  intro w hP hQ
  unfold c_S_Reached
  simp +decide (maxSteps:=9^9) (disch:=omega) only[↓SB0,SX,seval,hQ]
  (first|refine cI hP (hA) rfl rfl ?_|refine cH hP (hA) rfl rfl ?_)
  simp +decide (maxSteps:=9^9) (disch:=omega) only[↓SB0,SX,seval,hQ]
 | some m=>
  have hm:=idx_lt e
  have h1s:(nbT t 1).isSome=true:=by rw [nb_some,e]; rfl
  have hr:reached t=roundsR (nbT t) t.inodes.length:=by rw [reached,reachR,if_pos h1s]
  rw [e,show idxI (some m)=(m:Int) from rfl] at hA
  rw [hr]
  have hnum:∀ i,Nums t (roundsR (nbT t) i):=fun i=>⟨roundsR_up _ i,fun x hx=>reach_some _ (rounds_reach _ h1s i x hx)⟩
  refine spec_c hmx p_S_Reached [(84,[.b,.m],[])] 31 [] ⟨Nat.le_of_ble_eq_true rfl,Nat.le_of_ble_eq_true rfl⟩ rfl rfl ?_
  intro w hP hQ
  unfold c_S_Reached
  simp +decide (maxSteps:=9^9) (disch:=omega) only[↓SB0,SX,seval,hQ]
  (first|refine cI hP (hA) rfl rfl ?_|refine cH hP (hA) rfl rfl ?_)
  simp +decide (maxSteps:=9^9) (disch:=omega) only[↓SB0,SX,seval,hQ]
  (first | with_reducible refine if_d _ ?_ ?_ | refine if_i _ ?_ ?_) <;> intro g0
  ·exfalso; omega
  simp +decide (maxSteps:=9^9) (disch:=omega) only[↓SB0,SX,seval,hQ]
  refine LH_D [] ?_
  simp +decide (maxSteps:=9^9) (disch:=omega) only[↓SB0,SX,seval,hQ]
  refine loop_e [] (fun i:Nat=>[(3,rdV t i),(4,.int .i64 i)]) (fun i=>i≤t.inodes.length) (fun i=>t.inodes.length-i) (0) hP hQ (rfl) (by simp) ?_
  rintro i hi w1 hP1 hQ1
  simp +decide (maxSteps:=9^9) (disch:=omega) only[↓SB0,SX,seval,hQ,hQ1]
  cases i with
  | zero=>
   have hN:=spec_give2 (sS_l7Next t [1] h (hnum 0))
   simp only [rdV]
   (first | with_reducible refine if_d _ ?_ ?_ | refine if_i _ ?_ ?_) <;> intro h1
   ·simp +decide (maxSteps:=9^9) (disch:=omega) only[↓SB0,SX,seval,hQ,hQ1]
    (first | refine call_i hP1 (hN) (.inr rfl) ?_ | refine callH_i hP1 (hN) (.inr rfl) ?_)
    simp +decide (maxSteps:=9^9) (disch:=omega) only[↓SB0,SX,seval,hQ,hQ1]
    exact ⟨1,rfl,by omega,by omega⟩
   ·exfalso; omega
  | succ i=>
   have hN:=sS_l7Next t (roundsR (nbT t) (i+1)) h (hnum (i+1))
   simp only [rdV]
   (first | with_reducible refine if_d _ ?_ ?_ | refine if_i _ ?_ ?_) <;> intro h1
   ·simp +decide (maxSteps:=9^9) (disch:=omega) only[↓SB0,SX,seval,hQ,hQ1]
    (first | refine call_i hP1 (hN) (.inr rfl) ?_ | refine callH_i hP1 (hN) (.inr rfl) ?_)
    simp +decide (maxSteps:=9^9) (disch:=omega) only[↓SB0,SX,seval,hQ,hQ1]
    exact ⟨i+1+1,rfl,by omega,by omega⟩
   ·have he:i+1=t.inodes.length:=by omega
    simp +decide (maxSteps:=9^9) (disch:=omega) only[↓SB0,SX,seval,hQ,hQ1]
    rw [he]
end Go.Proofs.YtjmnolhflcjpgaaGreat.Awp
namespace Go.Proofs.YtjmnolhflcjpgaaGreat.Awp
open Go.Proofs Go.Shelf
open Nat (reduceEqDiff reduceAdd reduceMul reduceSub)
open Int (reduceNeg reduceToNat reducePow)
set_option maxRecDepth 100000
def ly_Lays_n189_ren:Go.Shelf.Ren:=⟨fun | 189=>92 | 125=>105 | 257=>104 | 128=>123 | 129=>124 | 294=>114 | 295=>115 | 296=>116 | 297=>117 | 298=>118 | 299=>119 | 216=>120 | 300=>121 | 301=>122 | 328=>132 | 329=>133 | 330=>134 | 331=>135 | 332=>136 | 215=>137 | 343=>140 | n=>n,
 fun | 28=>85 | 3=>3 | 46=>120 | 0=>0 | 51=>136 | 53=>138 | 4=>4 | 183=>128 | 182=>127 | 131=>133 | 5=>5 | 9=>9 | 218=>148 | 222=>152 | 228=>156 | 229=>157 | n=>n,
 fun | n=>n⟩
theorem ly_Lays_n189:Lays.n189 Tryz.prog ly_Lays_n189_ren where
 mixed:=by kernel_rfl
 f125:=Tryz.func105.trans (congrArg some (by kernel_rfl))
 f128:=Tryz.func123.trans (congrArg some (by kernel_rfl))
 f129:=Tryz.func124.trans (congrArg some (by kernel_rfl))
 f189:=Tryz.func92.trans (congrArg some (by kernel_rfl))
 f215:=Tryz.func137.trans (congrArg some (by kernel_rfl))
 f216:=Tryz.func120.trans (congrArg some (by kernel_rfl))
 f257:=Tryz.func104.trans (congrArg some (by kernel_rfl))
 f294:=Tryz.func114.trans (congrArg some (by kernel_rfl))
 f295:=Tryz.func115.trans (congrArg some (by kernel_rfl))
 f296:=Tryz.func116.trans (congrArg some (by kernel_rfl))
 f297:=Tryz.func117.trans (congrArg some (by kernel_rfl))
 f298:=Tryz.func118.trans (congrArg some (by kernel_rfl))
 f299:=Tryz.func119.trans (congrArg some (by kernel_rfl))
 f300:=Tryz.func121.trans (congrArg some (by kernel_rfl))
 f301:=Tryz.func122.trans (congrArg some (by kernel_rfl))
 f328:=Tryz.func132.trans (congrArg some (by kernel_rfl))
 f329:=Tryz.func133.trans (congrArg some (by kernel_rfl))
 f330:=Tryz.func134.trans (congrArg some (by kernel_rfl))
 f331:=Tryz.func135.trans (congrArg some (by kernel_rfl))
 f332:=Tryz.func136.trans (congrArg some (by kernel_rfl))
 f343:=Tryz.func140.trans (congrArg some (by kernel_rfl))
 t0:=Tryz.underlying0
 a0:=Tryz.isAgg0
 z0:=Tryz.sizeOf0
 v0:=Tryz.zeroValue0
 t3:=Tryz.underlying3
 a3:=Tryz.isAgg3
 z3:=Tryz.sizeOf3
 v3:=Tryz.zeroValue3
 t4:=Tryz.underlying4
 a4:=Tryz.isAgg4
 z4:=Tryz.sizeOf4
 v4:=Tryz.zeroValue4
 t5:=Tryz.underlying5
 a5:=Tryz.isAgg5
 z5:=Tryz.sizeOf5
 v5:=Tryz.zeroValue5
 t9:=Tryz.underlying9
 a9:=Tryz.isAgg9
 z9:=Tryz.sizeOf9
 v9:=Tryz.zeroValue9
 t28:=Tryz.underlying85
 a28:=Tryz.isAgg85
 z28:=Tryz.sizeOf85
 v28:=Tryz.zeroValue85
 t46:=Tryz.underlying120
 a46:=Tryz.isAgg120
 z46:=Tryz.sizeOf120
 v46:=Tryz.zeroValue120
 t51:=Tryz.underlying136
 a51:=Tryz.isAgg136
 z51:=Tryz.sizeOf136
 v51:=Tryz.zeroValue136
 t53:=Tryz.underlying138
 a53:=Tryz.isAgg138
 z53:=Tryz.sizeOf138
 v53:=Tryz.zeroValue138
 t131:=Tryz.underlying133
 a131:=Tryz.isAgg133
 z131:=Tryz.sizeOf133
 v131:=Tryz.zeroValue133
 t182:=Tryz.underlying127
 a182:=Tryz.isAgg127
 z182:=Tryz.sizeOf127
 v182:=Tryz.zeroValue127
 t183:=Tryz.underlying128
 a183:=Tryz.isAgg128
 z183:=Tryz.sizeOf128
 v183:=Tryz.zeroValue128
 t218:=Tryz.underlying148
 a218:=Tryz.isAgg148
 z218:=Tryz.sizeOf148
 v218:=Tryz.zeroValue148
 t222:=Tryz.underlying152
 a222:=Tryz.isAgg152
 z222:=Tryz.sizeOf152
 v222:=Tryz.zeroValue152
 t228:=Tryz.underlying156
 a228:=Tryz.isAgg156
 z228:=Tryz.sizeOf156
 v228:=Tryz.zeroValue156
 t229:=Tryz.underlying157
 a229:=Tryz.isAgg157
 z229:=Tryz.sizeOf157
 v229:=Tryz.zeroValue157
end Go.Proofs.YtjmnolhflcjpgaaGreat.Awp
namespace Go.Proofs.YtjmnolhflcjpgaaGreat.Awp
open Go.Proofs
set_option linter.unusedSimpArgs false
set_option linter.unusedVariables false
open Nat (reduceEqDiff reduceAdd reduceMul reduceSub)
open Int (reduceNeg reduceToNat reducePow)
set_option maxRecDepth 100000
set_option maxHeartbeats 20000000
theorem ints_row {w:World} {o:Bool} {F:Foot}:∀ (l:List Int) {cs:List Value},Row w o F cs (l.map intR).flatten→cs=l.map (Value.int .i64)∧∀ b,F b=0:=by
 intro l
 induction l generalizing F with
 | nil=>
  intro cs h
  cases h with
  | nil _ _ hF=>exact ⟨rfl,hF⟩
 | cons n l ih=>
  intro cs h
  have e:((n::l).map intR).flatten=.int .i64 n::(l.map intR).flatten:=by simp [intR]
  rw [e] at h
  cases h with
  | int _ _ _ _ vs _ h=>
   obtain ⟨e1,e2⟩:=ih h
   exact ⟨by rw [e1]; rfl,e2⟩
theorem row_ints {w:World} {o:Bool} (l:List Int):Row w o (fun _=>0) (l.map (Value.int .i64)) (l.map intR).flatten:=by
 induction l with
 | nil=>exact .nil _ _ fun _=>rfl
 | cons n l ih=>
  have e:((n::l).map intR).flatten=.int .i64 n::(l.map intR).flatten:=by simp [intR]
  rw [e]
  exact .int _ _ _ _ _ _ ih
abbrev sortI (l:List Int):List Int:=l.mergeSort fun x y=>decide (x≤y)
theorem s_Sort (l:List Int) (hl:l.length<2^40):Spec Tryz.prog 92 [.own 1 (l.map intR)] (.tup []) [.own 1 ((sortI l).map intR)]:=by
 refine ⟨⟨_,Tryz.func92,by kernel_rfl,by kernel_rfl⟩,rfl,?_⟩
 intro w vs F X r h1 h2 h3
 have hlen:(sortI l).length=l.length:=List.length_mergeSort l
 cases r with
 | own _ F1 F2 _ s es v vs ys hr hn hF=>
  cases hn with
  | nil _ _ hF2 hX=>
   rcases Row.sl_inv hr with ⟨rfl,he,h0⟩ | ⟨G1,b,off,cap,C,ty,fr,cs,rfl,hb,hfr,hcap,hle,hes,hcs,hc,hrow,hG⟩
   ·have hl0:l=[]:=by simpa using he
    subst hl0
    refine (Any.slices_Sort_int_none ly_Lays_n189 none 0 w).mono ?_
    rintro e w' ⟨rfl,rfl⟩
    refine ⟨.tuple #[],F,X,rfl,?_,h1,h2,⟨Nat.le_refl _,.refl _⟩,fun b _ _=>rfl,fun b hb=>.inl hb,fun b hb=>⟨.inl hb,h3 b hb⟩⟩
    refine .tup F (fun _=>0) F X (fun _=>0) X [] [] _ _ RepA.znil ?_ (fun x=>by omega) (fun x=>by omega)
    exact .own F F1 F2 X 1 _ _ _ _ (by simpa [sortI] using hr) (.nil _ _ hF2 hX) hF
   ·obtain ⟨hce,hG1⟩:=ints_row l hrow
    have hrl:(l.map intR).length=l.length:=List.length_map _
    have hcsl:cs.length=l.length:=by rw [hce,List.length_map]
    rw [hrl] at hle ⊢
    have hsz:off+l.length≤C.size:=by omega
    have hbl:b<w.heap.size:=(Array.getElem?_eq_some_iff.1 hb).1
    have hH:Go.Sort.Holds (Value.int .i64) w b off l.toArray:=by
     intro j hj
     have hj':j<l.length:=by simpa using hj
     have e1:=hc j (by omega)
     rw [hce,List.getElem?_map,List.getElem?_eq_getElem hj'] at e1
     refine ⟨?_,?_⟩
     ·simp only [World.cell?,hb,Option.bind_some,e1,Option.map_some]
      simp [getElem!_pos,hj']
     ·have:=hfr (off+j) (by omega)
      simp [World.frozen?,hb]
      simpa using this
    refine (Any.slices_Sort_int ly_Lays_n189 b off cap l w hH hbl (by omega)).mono ?_
    rintro e w' ⟨rfl,n,os,rfl⟩
    have hw:∀ x,x≠b→x<w.heap.size→(Go.Sort.grow (Go.Sort.putRow (Value.int .i64) (Go.Sort.ahead w n) b off (sortI l).toArray) os).heap[x]?=w.heap[x]?:=by
     intro x hx hxl
     simp only [Go.Sort.grow,Go.Sort.putRow,Go.Sort.mapBlock,Go.Sort.ahead]
     rw [Array.getElem?_append_left (by simpa using hxl),Array.getElem?_modify,if_neg (Ne.symm hx)]
    have hwb:(Go.Sort.grow (Go.Sort.putRow (Value.int .i64) (Go.Sort.ahead w n) b off (sortI l).toArray) os).heap[b]?=some (.cells (Go.Sort.putCells (Value.int .i64) off (sortI l).toArray C) ty fr):=by
     simp only [Go.Sort.grow,Go.Sort.putRow,Go.Sort.mapBlock,Go.Sort.ahead]
     rw [Array.getElem?_append_left (by simpa using hbl),Array.getElem?_modify,if_pos rfl,hb]; rfl
    have hsz2:(Go.Sort.putCells (Value.int .i64) off (sortI l).toArray C).size=C.size:=by simp [Go.Sort.putCells]
    have hrow2:Row (Go.Sort.grow (Go.Sort.putRow (Value.int .i64) (Go.Sort.ahead w n) b off (sortI l).toArray) os) true F1 [.slice (some ⟨b,off,none⟩) l.length cap] [.sl 1 ((sortI l).map intR)]:=by
     refine Row.of_sl (F1:=fun _=>0) (cs:=(sortI l).map (Value.int .i64)) (by rw [List.length_map,hlen]) hwb (by rw [hsz2]; exact hfr) (by rw [hsz2]; exact hcap) (by rw [List.length_map,hlen]; exact hle) ?_ ?_ ?_ (row_ints _) (fun x=>by have:=hG x; have:=hG1 x; omega)
     ·intro e he
      obtain ⟨x,_,rfl⟩:=List.mem_map.1 he
      rfl
     ·simp
     ·intro k hk
      rw [List.length_map,hlen] at hk
      rw [List.getElem?_map,List.getElem?_eq_getElem (by rw [hlen]; exact hk)]
      have hin:off≤off+k∧off+k<off+(sortI l).length:=by omega
      simp only [Go.Sort.putCells,Array.getElem?_mapIdx,List.size_toArray]
      rw [Array.getElem?_eq_getElem (by omega),Option.map_some,if_pos hin,Option.map_some]
      simp [Nat.add_sub_cancel_left,getElem!_pos,hlen,hk]
    refine ⟨.tuple #[],F,X,rfl,?_,h1,h2,⟨?_,⟨rfl,rfl⟩⟩,fun x hx h0=>hw x (fun e=>?_) hx,fun x hx=>.inl hx,fun x hx=>⟨.inl hx,?_⟩⟩
    ·refine .tup F (fun _=>0) F X (fun _=>0) X [] [] _ _ RepA.znil ?_ (fun x=>by omega) (fun x=>by omega)
     exact .own F F1 F2 X 1 _ _ _ _ hrow2 (.nil _ _ hF2 hX) hF
    ·simp only [Go.Sort.grow,Go.Sort.putRow,Go.Sort.mapBlock,Go.Sort.ahead,Array.size_append,Array.size_modify]; omega
    ·subst e
     have:=hF x; have:=hG x
     simp at *; omega
    ·have:=h3 x hx
     simp only [Go.Sort.grow,Go.Sort.putRow,Go.Sort.mapBlock,Go.Sort.ahead,Array.size_append,Array.size_modify]; omega
end Go.Proofs.YtjmnolhflcjpgaaGreat.Awp
namespace Go.Proofs.YtjmnolhflcjpgaaGreat.Awp
open Go.Proofs
set_option linter.unusedSimpArgs false
set_option linter.unusedVariables false
open Nat (reduceEqDiff reduceAdd reduceMul reduceSub)
open Int (reduceNeg reduceToNat reducePow)
set_option maxRecDepth 100000
set_option maxHeartbeats 20000000
theorem s_Index_int (l:List Int) (n:Int) (hl:l.length<2^48):Spec Tryz.prog 103 [.ext 1 (l.map intR),.int .i64 n] (.int .i64 (idxI (l.findIdx? fun x=>decide (x=n)))) [.undef,.undef]:=by
 refine spec_c hmx p_X_Index_int [] 435 [] ⟨Nat.le_of_ble_eq_true rfl,Nat.le_of_ble_eq_true rfl⟩ rfl rfl ?_
 intro w hP hQ
 unfold c_X_Index_int
 simp +decide (maxSteps:=9^9) (disch:=omega) only[↓SB0,SX,seval,hQ]
 refine LH_D [4,5] ?_
 simp +decide (maxSteps:=9^9) (disch:=omega) only[↓SB0,SX,seval,hQ]
 refine loop_e [4,5] (fun i:Nat=>[(8,.int .i64 i)]) (fun i=>i≤l.length∧∀ k,k<i→(h:k<l.length)→decide (l[k]=n)=false) (fun i=>l.length-i) (0) hP hQ (rfl) (by simp) ?_
 rintro i ⟨hi,hk⟩ w1 hP1 hQ1
 simp +decide (maxSteps:=9^9) (disch:=omega) only[↓SB0,SX,seval,hQ,hQ1]
 (first | with_reducible refine if_d _ ?_ ?_ | refine if_i _ ?_ ?_) <;> intro h1
 ·simp +decide (maxSteps:=9^9) (disch:=omega) only[↓SB0,SX,seval,hQ,hQ1,getE h1,intR]
  (first | with_reducible refine if_d _ ?_ ?_ | refine if_i _ ?_ ?_) <;> intro h2
  ·simp +decide (maxSteps:=9^9) (disch:=omega) only[↓SB0,SX,seval,hQ,hQ1]
   rw [idx_step (p:=fun x:Int=>decide (x=n)) hk (by omega) (decide_eq_true h2.symm)]; rfl
  ·simp +decide (maxSteps:=9^9) (disch:=omega) only[↓SB0,SX,seval,hQ,hQ1]
   exact ⟨i+1,rfl,⟨by omega,no_step (p:=fun x:Int=>decide (x=n)) hk (by omega) (decide_eq_false fun e=>h2 e.symm)⟩,by omega⟩
 ·obtain rfl:i=l.length:=by omega
  simp +decide (maxSteps:=9^9) (disch:=omega) only[↓SB0,SX,seval,hQ,hQ1]
  rw [idx_none (p:=fun x:Int=>decide (x=n)) fun k h=>hk k h h]; rfl
theorem s_Contains_int (l:List Int) (n:Int) (hl:l.length<2^48):Spec Tryz.prog 91 [.ext 1 (l.map intR),.int .i64 n] (.bool (decide (n ∈ l))) [.undef,.undef]:=by
 have hI:=s_Index_int l n hl
 cases e:l.findIdx? (fun x=>decide (x=n)) with
 | none=>
  have hno:n ∉ l:=fun h=>by
   rw [List.findIdx?_eq_none_iff] at e
   have:=e n h
   simp at this
  rw [e] at hI
  refine spec_c hmx p_X_Contains_int [] 19 [] ⟨Nat.le_of_ble_eq_true rfl,Nat.le_of_ble_eq_true rfl⟩ rfl rfl ?_
  intro w hP hQ
  unfold c_X_Contains_int
  simp +decide (maxSteps:=9^9) (disch:=omega) only[↓SB0,SX,seval,hQ]
  (first|refine cI hP (hI) rfl rfl ?_|refine cH hP (hI) rfl rfl ?_)
  simp +decide (maxSteps:=9^9) (disch:=omega) only[↓SB0,SX,seval,hQ]
  rw [decide_eq_false hno]
 | some k=>
  obtain ⟨hk,h1,_⟩:=List.findIdx?_eq_some_iff_getElem.1 e
  have hyes:n ∈ l:=by
   have:l[k]=n:=by simpa using h1
   rw [← this]; exact List.getElem_mem hk
  rw [e,show idxI (some k)=(k:Int) from rfl] at hI
  refine spec_c hmx p_X_Contains_int [] 19 [] ⟨Nat.le_of_ble_eq_true rfl,Nat.le_of_ble_eq_true rfl⟩ rfl rfl ?_
  intro w hP hQ
  unfold c_X_Contains_int
  simp +decide (maxSteps:=9^9) (disch:=omega) only[↓SB0,SX,seval,hQ]
  (first|refine cI hP (hI) rfl rfl ?_|refine cH hP (hI) rfl rfl ?_)
  simp +decide (maxSteps:=9^9) (disch:=omega) only[↓SB0,SX,seval,hQ]
  rw [decide_eq_true hyes,decide_eq_true (by omega)]
def restF (out:List Int) (x:Inode):Nat:=if x.ino ∈ out then 0 else x.ents.length
def restN (t:Tab) (out:List Int):Nat:=(t.inodes.map (restF out)).sum
theorem rest_all (t:Tab) (out:List Int):restN t out≤t.sz:=by
 have h2:=sum_mono (restF out) Inode.sz t.inodes fun x _=>by
  have:restF out x≤x.ents.length:=by unfold restF; split <;> omega
  have h3:x.ents.length≤x.sz:=by simp only [Inode.sz,szM]; omega
  omega
 have h3:t.sz=t.inodes.length+(t.inodes.map Inode.sz).sum:=rfl
 have h4:restN t out=(t.inodes.map (restF out)).sum:=rfl
 omega
theorem rest_take {t:Tab} {out:List Int} {x:Inode} (hx:x ∈ t.inodes) (hn:x.ino ∉ out):restN t (out++[x.ino])+x.ents.length≤restN t out:=by
 unfold restN
 generalize t.inodes=l at hx
 have mono:∀ y:Inode,restF (out++[x.ino]) y≤restF out y:=by
  intro y
  unfold restF
  by_cases h:y.ino ∈ out
  ·rw [if_pos h,if_pos (by simp [h])]; omega
  ·rw [if_neg h]; split <;> omega
 induction l with
 | nil=>cases hx
 | cons y l ih=>
  simp only [List.map_cons,List.sum_cons]
  rcases List.mem_cons.1 hx with rfl | hx
  ·have h1:restF (out++[x.ino]) x=0:=by unfold restF; rw [if_pos (by simp)]
   have h2:restF out x=x.ents.length:=by unfold restF; rw [if_neg hn]
   have h3:=sum_mono (restF (out++[x.ino])) (restF out) l fun y _=>mono y
   omega
  ·have:=ih hx
   have:=mono y
   omega
theorem push_int (l:List Int) (n:Int):l.map intR++[[TV.int .i64 n]]=(l++[n]).map intR:=by simp [intR]
theorem push_ents (l:List Int) (es:List Ent) (k:Nat) (h:k<es.length):(l++(es.take k).map Ent.ino)++[es[k].ino]=l++(es.take (k+1)).map Ent.ino:=by
 rw [List.take_succ_eq_append_getElem h,List.map_append,List.append_assoc]; rfl
theorem sI_Reached (t:Tab) (h:t.sz<2^40):Spec Tryz.prog 72 [t.x] (.own 1 ((reached t).map intR)) [.undef]:=by
 obtain ⟨hl,hls⟩:=tab_sz h
 refine spec_c hmx p_I_Reached [(92,[.l],[])] 15393162789631 [] ⟨Nat.le_of_ble_eq_true rfl,Nat.le_of_ble_eq_true rfl⟩ rfl rfl ?_
 intro w hP hQ
 unfold c_I_Reached
 simp +decide (maxSteps:=9^9) (disch:=omega) only[↓SB0,SX,seval,hQ]
 refine LH_D [5,6,7,9,41,42,43,5006,5009] ?_
 simp +decide (maxSteps:=9^9) (disch:=omega) only[↓SB0,SX,seval,hQ]
 refine loop_e [5,6,7,9,41,42,43,5006,5009] (fun s:List Int × List Int=>[(3,.own 1 (s.1.map intR)),(4,.own 1 (s.2.map intR))]) (fun s=>Que (nbT t) s.1 s.2∧s.2.length+restN t s.1≤1+t.sz) (fun s=>s.2.length+restN t s.1) (([],[1])) hP hQ (rfl) (⟨que_init _,by have:=rest_all t []; simp only [List.length_cons,List.length_nil]; omega⟩) ?_
 rintro ⟨out,next⟩ ⟨hq,hb⟩ w1 hP1 hQ1
 simp +decide (maxSteps:=9^9) (disch:=omega) only[↓SB0,SX,seval,hQ,hQ1]
 simp only at hq hb
 have hol:=que_len (nbT t) (nb_bound t) hq
 cases next with
 | nil=>
  have hs:=que_sorted (nbT t) (nb_bound t) hq
  simp +decide (maxSteps:=9^9) (disch:=omega) only[↓SB0,SX,seval,hQ,hQ1]
  (first|refine cI hP (s_Sort out (by omega)) rfl rfl ?_|refine cH hP (s_Sort out (by omega)) rfl rfl ?_)
  simp +decide (maxSteps:=9^9) (disch:=omega) only[↓SB0,SX,seval,hQ]
  rw [show sortI out=reached t from hs]
 | cons i next=>
  have hnl:(next.length:Nat)<2^41:=by simp only [List.length_cons] at hb; omega
  have hI:=sI_InodeAt t i h
  have w0:decide ((0:Int)<((next.length+1:Nat):Int))=true:=decide_eq_true (by omega)
  have tk:List.take next.length (next.map intR)=next.map intR:=by rw [List.take_of_length_le (by simp)]
  cases e:inoAt t i with
  | none=>
   rw [iget,e] at hI
   simp +decide (maxSteps:=9^9) (disch:=omega) only[↓SB0,SX,seval,hQ,hQ1,w0,intR,cast_pred,tk]
   (first|refine cI hP1 (hI) rfl rfl ?_|refine cH hP1 (hI) rfl rfl ?_)
   simp +decide (maxSteps:=9^9) (disch:=omega) only[↓SB0,SX,seval,hQ,hQ1]
   exact ⟨(out,next),rfl,⟨que_skip _ hq (.inl (by rw [nbT,e]; rfl)),by simp only [List.length_cons] at *; omega⟩,by simp only [List.length_cons]; omega⟩
  | some x=>
   obtain ⟨hxm,hxi⟩:=inoAt_some e
   have hel:x.ents.length<2^40:=(inode_sz (hls x hxm)).2.1
   rw [iget,e] at hI
   simp only [Option.getD_some,Option.isSome_some] at hI
   have hC:=s_Contains_int out i (by omega)
   by_cases hin:i ∈ out
   ·rw [decide_eq_true hin] at hC
    simp +decide (maxSteps:=9^9) (disch:=omega) only[↓SB0,SX,seval,hQ,hQ1,w0,intR,cast_pred,tk]
    (first|refine cI hP1 (hI) rfl rfl ?_|refine cH hP1 (hI) rfl rfl ?_)
    simp +decide (maxSteps:=9^9) (disch:=omega) only[↓SB0,SX,seval,hQ,hQ1]
    (first|refine cI hP1 (hC) rfl rfl ?_|refine cH hP1 (hC) rfl rfl ?_)
    simp +decide (maxSteps:=9^9) (disch:=omega) only[↓SB0,SX,seval,hQ,hQ1]
    exact ⟨(out,next),rfl,⟨que_skip _ hq (.inr hin),by simp only [List.length_cons] at *; omega⟩,by simp only [List.length_cons]; omega⟩
   ·rw [decide_eq_false hin] at hC
    have hrest:=rest_take (t:=t) (out:=out) hxm (by rw [hxi]; exact hin)
    rw [hxi] at hrest
    simp +decide (maxSteps:=9^9) (disch:=omega) only[↓SB0,SX,seval,hQ,hQ1,w0,intR,cast_pred,tk]
    (first|refine cI hP1 (hI) rfl rfl ?_|refine cH hP1 (hI) rfl rfl ?_)
    simp +decide (maxSteps:=9^9) (disch:=omega) only[↓SB0,SX,seval,hQ,hQ1]
    (first|refine cI hP1 (hC) rfl rfl ?_|refine cH hP1 (hC) rfl rfl ?_)
    simp +decide (maxSteps:=9^9) (disch:=omega) only[↓SB0,SX,seval,hQ,hQ1]
    (first | with_reducible refine if_d _ ?_ ?_ | refine if_i _ ?_ ?_) <;> intro hk2
    ·have hq2:=que_take (nbT t) hq (l:=x.ents.map Ent.ino) (by rw [nbT,e]; simp [nbOf,hk2]) hin
     simp +decide (maxSteps:=9^9) (disch:=omega) only[↓SB0,SX,seval,hQ,hQ1]
     rw [push_int]
     refine LH_D [9,5009] ?_
     simp +decide (maxSteps:=9^9) (disch:=omega) only[↓SB0,SX,seval,hQ,hQ1]
     refine loop_e [9,5009] (fun k:Nat=>[(4,.own 1 ((next++(x.ents.take k).map Ent.ino).map intR)),(43,.int .i64 k)]) (fun k=>k≤x.ents.length) (fun k=>x.ents.length-k) (0) hP1 hQ1 (by simp only [List.take_zero,List.map_nil,List.append_nil]; rfl) (by simp) ?_
     rintro k hk w2 hP2 hQ2
     simp +decide (maxSteps:=9^9) (disch:=omega) only[↓SB0,SX,seval,hQ,hQ1,hQ2]
     have hlen:(next++(x.ents.take k).map Ent.ino).length<2^42:=by simp only [List.length_append,List.length_map,List.length_take]; omega
     (first | with_reducible refine if_d _ ?_ ?_ | refine if_i _ ?_ ?_) <;> intro g1
     ·have hp:=push_ents next x.ents k (by omega)
      generalize next++(x.ents.take k).map Ent.ino=nx at *
      simp +decide (maxSteps:=9^9) (disch:=omega) only[↓SB0,SX,seval,hQ,hQ1,hQ2,getE g1]
      exact ⟨k+1,by simp only [push_int,hp]; rfl,by omega,by omega⟩
     ·obtain rfl:k=x.ents.length:=by omega
      rw [List.take_length] at *
      simp +decide (maxSteps:=9^9) (disch:=omega) only[↓SB0,SX,seval,hQ,hQ1,hQ2]
      exact ⟨(out++[i],next++x.ents.map Ent.ino),rfl,⟨hq2,by simp only [List.length_cons,List.length_append,List.length_map] at *; omega⟩,by simp only [List.length_cons,List.length_append,List.length_map] at *; omega⟩
    ·have hq2:=que_take (nbT t) hq (l:=[]) (by rw [nbT,e]; simp [nbOf,hk2]) hin
     rw [List.append_nil] at hq2
     simp +decide (maxSteps:=9^9) (disch:=omega) only[↓SB0,SX,seval,hQ,hQ1]
     exact ⟨(out++[i],next),by simp only [push_int],⟨hq2,by simp only [List.length_cons] at *; omega⟩,by simp only [List.length_cons]; omega⟩
end Go.Proofs.YtjmnolhflcjpgaaGreat.Awp
namespace Go.Proofs.YtjmnolhflcjpgaaGreat.Awp
open Go.Proofs
set_option linter.unusedSimpArgs false
set_option linter.unusedVariables false
open Nat (reduceEqDiff reduceAdd reduceMul reduceSub)
open Int (reduceNeg reduceToNat reducePow)
set_option maxRecDepth 100000
set_option maxHeartbeats 20000000
theorem tree_bad {t:Tab} {x:Inode} (hx:x ∈ t.inodes) (h:treeP t x=false):treeB t=false:=by
 have:t.inodes.all (treeP t)=false:=by
  rw [List.all_eq_false]
  exact ⟨x,hx,by simp [h]⟩
 simp [treeB,this]
theorem there_bad {t:Tab} {x:Inode} {e:Ent} (he:e ∈ x.ents) (h:inoIdx t e.ino=none):treeP t x=false:=by
 have:thereB t x=false:=by
  rw [thereB,List.all_eq_false]
  exact ⟨e,he,by rw [idx_no h]; simp⟩
 simp [treeP,this]
theorem there_all {t:Tab} {x:Inode} (h:∀ k,(hk:k<x.ents.length)→(inoIdx t (x.ents[k]).ino).isSome=true):thereB t x=true:=by
 rw [thereB,List.all_eq_true]
 intro e he
 obtain ⟨k,hk,rfl⟩:=List.getElem_of_mem he
 obtain ⟨m,hm⟩:=Option.isSome_iff_exists.1 (h k hk)
 rw [idx_some hm]; rfl
theorem all_next {α:Type} {l:List α} {p:α→Prop} {i:Nat} (hk:∀ k,k<i→(h:k<l.length)→p l[k]) (hi:(h:i<l.length)→p l[i]):∀ k,k<i+1→(h:k<l.length)→p l[k]:=by
 intro k hlt hl
 by_cases e:k=i
 ·subst e; exact hi hl
 ·exact hk k (by omega) hl
theorem all_list {α:Type} {l:List α} {p:α→Bool} (h:∀ k,(hk:k<l.length)→p l[k]=true):l.all p=true:=by
 rw [List.all_eq_true]
 intro x hx
 obtain ⟨k,hk,rfl⟩:=List.getElem_of_mem hx
 exact h k hk
theorem sS_TreeOk (t:Tab) (h:t.sz<2^40):Spec Tryz.prog 50 [t.x] (.bool (treeB t)) [.undef]:=by
 obtain ⟨hl,hls⟩:=tab_sz h
 have hLk:=links_bound t
 refine spec_c hmx p_S_TreeOk [] 63 [] ⟨Nat.le_of_ble_eq_true rfl,Nat.le_of_ble_eq_true rfl⟩ rfl rfl ?_
 intro w hP hQ
 unfold c_S_TreeOk
 simp +decide (maxSteps:=9^9) (disch:=omega) only[↓SB0,SX,seval,hQ]
 rcases bcase (tabB t) with hT | hT
 ·(first|refine cI hP (sS_TabOk t h) rfl rfl ?_|refine cH hP (sS_TabOk t h) rfl rfl ?_)
  simp +decide (maxSteps:=9^9) (disch:=omega) only[↓SB0,SX,seval,hQ,hT]
  simp [treeB,hT]
 (first|refine cI hP (sS_TabOk t h) rfl rfl ?_|refine cH hP (sS_TabOk t h) rfl rfl ?_)
 simp +decide (maxSteps:=9^9) (disch:=omega) only[↓SB0,SX,seval,hQ,hT]
 (first | refine call_i hP (sS_Reached t h) (.inr rfl) ?_ | refine callH_i hP (sS_Reached t h) (.inr rfl) ?_)
 simp +decide (maxSteps:=9^9) (disch:=omega) only[↓SB0,SX,seval,hQ]
 (first | with_reducible refine if_d _ ?_ ?_ | refine if_i _ ?_ ?_) <;> intro hR
 rotate_left
 ·simp +decide (maxSteps:=9^9) (disch:=omega) only[↓SB0,SX,seval,hQ]
  have:decide ((reached t).length=t.inodes.length)=false:=decide_eq_false (by omega)
  simp [treeB,this]
 simp +decide (maxSteps:=9^9) (disch:=omega) only[↓SB0,SX,seval,hQ]
 refine LH_D [2,4,5,5004] ?_
 simp +decide (maxSteps:=9^9) (disch:=omega) only[↓SB0,SX,seval,hQ]
 refine loop_e [2,4,5,5004] (fun i:Nat=>[(3,.int .i64 i)]) (fun i=>i≤t.inodes.length∧∀ k,k<i→(h:k<t.inodes.length)→treeP t t.inodes[k]=true) (fun i=>t.inodes.length-i) (0) hP hQ (rfl) (by simp) ?_
 rintro i ⟨hi,hk⟩ w1 hP1 hQ1
 simp +decide (maxSteps:=9^9) (disch:=omega) only[↓SB0,SX,seval,hQ,hQ1]
 (first | with_reducible refine if_d _ ?_ ?_ | refine if_i _ ?_ ?_) <;> intro h1
 ·have hlt:i<t.inodes.length:=by omega
  have hx:=hls _ (List.getElem_mem hlt)
  have hm:=List.getElem_mem hlt
  have hnx:treeP t (t.inodes[i]'hlt)=true→∀ k,k<i+1→(h:k<t.inodes.length)→treeP t t.inodes[k]=true:=fun hp=>all_next (p:=fun x=>treeP t x=true) hk (fun _=>hp)
  simp +decide (maxSteps:=9^9) (disch:=omega) only[↓SB0,SX,seval,hQ,hQ1,getE h1]
  generalize t.inodes[i]'hlt=x at *
  have hel:x.ents.length<2^40:=(inode_sz hx).2.1
  (first|refine cI hP1 (sS_LinksOf t x.ino h) rfl rfl ?_|refine cH hP1 (sS_LinksOf t x.ino h) rfl rfl ?_)
  simp +decide (maxSteps:=9^9) (disch:=omega) only[↓SB0,SX,seval,hQ,hQ1]
  (first | with_reducible refine if_d _ ?_ ?_ | refine if_i _ ?_ ?_) <;> intro h2
  rotate_left
  ·simp +decide (maxSteps:=9^9) (disch:=omega) only[↓SB0,SX,seval,hQ,hQ1]
   rw [tree_bad hm (by rw [treeP,decide_eq_false (by omega)]; rfl)]
  simp +decide (maxSteps:=9^9) (disch:=omega) only[↓SB0,SX,seval,hQ,hQ1]
  refine LH_D [2] ?_
  simp +decide (maxSteps:=9^9) (disch:=omega) only[↓SB0,SX,seval,hQ,hQ1]
  refine loop_e [2] (fun k:Nat=>[(5,.int .i64 k)]) (fun k=>k≤x.ents.length∧∀ j,j<k→(h:j<x.ents.length)→(inoIdx t (x.ents[j]).ino).isSome=true) (fun k=>x.ents.length-k) (0) hP1 hQ1 (rfl) (by simp) ?_
  rintro k ⟨hk1,hk2⟩ w2 hP2 hQ2
  simp +decide (maxSteps:=9^9) (disch:=omega) only[↓SB0,SX,seval,hQ,hQ1,hQ2]
  (first | with_reducible refine if_d _ ?_ ?_ | refine if_i _ ?_ ?_) <;> intro h3
  ·have hkl:k<x.ents.length:=by omega
   have hA:=sS_l4At t (x.ents[k]'hkl).ino (by omega)
   cases e:inoIdx t (x.ents[k]'hkl).ino with
   | none=>
    rw [e] at hA
    simp +decide (maxSteps:=9^9) (disch:=omega) only[↓SB0,SX,seval,hQ,hQ1,hQ2,getE h3]
    (first|refine cI hP2 (hA) rfl rfl ?_|refine cH hP2 (hA) rfl rfl ?_)
    simp +decide (maxSteps:=9^9) (disch:=omega) only[↓SB0,SX,seval,hQ,hQ1,hQ2]
    rw [tree_bad hm (there_bad (List.getElem_mem hkl) e)]
   | some m=>
    rw [e,show idxI (some m)=(m:Int) from rfl] at hA
    simp +decide (maxSteps:=9^9) (disch:=omega) only[↓SB0,SX,seval,hQ,hQ1,hQ2,getE h3]
    (first|refine cI hP2 (hA) rfl rfl ?_|refine cH hP2 (hA) rfl rfl ?_)
    simp +decide (maxSteps:=9^9) (disch:=omega) only[↓SB0,SX,seval,hQ,hQ1,hQ2]
    (first | with_reducible refine if_d _ ?_ ?_ | refine if_i _ ?_ ?_) <;> intro h4
    ·exfalso; omega
    ·simp +decide (maxSteps:=9^9) (disch:=omega) only[↓SB0,SX,seval,hQ,hQ1,hQ2]
     exact ⟨k+1,rfl,⟨by omega,all_next (p:=fun y:Ent=>(inoIdx t y.ino).isSome=true) hk2 (fun _=>by rw [e]; rfl)⟩,by omega⟩
  ·obtain rfl:k=x.ents.length:=by omega
   have hp:treeP t x=true:=by
    rw [treeP,there_all fun k hk=>hk2 k hk hk,decide_eq_true (by omega)]; rfl
   simp +decide (maxSteps:=9^9) (disch:=omega) only[↓SB0,SX,seval,hQ,hQ1,hQ2]
   exact ⟨i+1,rfl,⟨by omega,hnx hp⟩,by omega⟩
 ·obtain rfl:i=t.inodes.length:=by omega
  have:decide ((reached t).length=t.inodes.length)=true:=decide_eq_true (by omega)
  simp +decide (maxSteps:=9^9) (disch:=omega) only[↓SB0,SX,seval,hQ,hQ1]
  rw [treeB,hT,this,all_list fun k hk'=>hk k hk' hk']; rfl
theorem sI_TreeOk (t:Tab) (h:t.sz<2^40):Spec Tryz.prog 55 [t.x] (.bool (treeB t)) [.undef]:=by
 obtain ⟨hl,hls⟩:=tab_sz h
 have hLk:=links_bound t
 refine spec_c hmx p_I_TreeOk [] 120266424407 [] ⟨Nat.le_of_ble_eq_true rfl,Nat.le_of_ble_eq_true rfl⟩ rfl rfl ?_
 intro w hP hQ
 unfold c_I_TreeOk
 simp +decide (maxSteps:=9^9) (disch:=omega) only[↓SB0,SX,seval,hQ]
 rcases bcase (tabB t) with hT | hT
 ·(first|refine cI hP (sI_TabOk t h) rfl rfl ?_|refine cH hP (sI_TabOk t h) rfl rfl ?_)
  simp +decide (maxSteps:=9^9) (disch:=omega) only[↓SB0,SX,seval,hQ,hT]
  simp [treeB,hT]
 (first|refine cI hP (sI_TabOk t h) rfl rfl ?_|refine cH hP (sI_TabOk t h) rfl rfl ?_)
 simp +decide (maxSteps:=9^9) (disch:=omega) only[↓SB0,SX,seval,hQ,hT]
 (first|refine cI hP (sI_Reached t h) rfl rfl ?_|refine cH hP (sI_Reached t h) rfl rfl ?_)
 simp +decide (maxSteps:=9^9) (disch:=omega) only[↓SB0,SX,seval,hQ]
 (first | with_reducible refine if_d _ ?_ ?_ | refine if_i _ ?_ ?_) <;> intro hR
 rotate_left
 ·simp +decide (maxSteps:=9^9) (disch:=omega) only[↓SB0,SX,seval,hQ]
  have:decide ((reached t).length=t.inodes.length)=false:=decide_eq_false (by omega)
  simp [treeB,this]
 simp +decide (maxSteps:=9^9) (disch:=omega) only[↓SB0,SX,seval,hQ]
 refine LH_D [2,4,6,34,35,36,5004,5006] ?_
 simp +decide (maxSteps:=9^9) (disch:=omega) only[↓SB0,SX,seval,hQ]
 refine loop_e [2,4,6,34,35,36,5004,5006] (fun i:Nat=>[(22,.int .i64 i)]) (fun i=>i≤t.inodes.length∧∀ k,k<i→(h:k<t.inodes.length)→treeP t t.inodes[k]=true) (fun i=>t.inodes.length-i) (0) hP hQ (rfl) (by simp) ?_
 rintro i ⟨hi,hk⟩ w1 hP1 hQ1
 simp +decide (maxSteps:=9^9) (disch:=omega) only[↓SB0,SX,seval,hQ,hQ1]
 (first | with_reducible refine if_d _ ?_ ?_ | refine if_i _ ?_ ?_) <;> intro h1
 ·have hlt:i<t.inodes.length:=by omega
  have hx:=hls _ (List.getElem_mem hlt)
  have hm:=List.getElem_mem hlt
  have hnx:treeP t (t.inodes[i]'hlt)=true→∀ k,k<i+1→(h:k<t.inodes.length)→treeP t t.inodes[k]=true:=fun hp=>all_next (p:=fun x=>treeP t x=true) hk (fun _=>hp)
  simp +decide (maxSteps:=9^9) (disch:=omega) only[↓SB0,SX,seval,hQ,hQ1,getE h1]
  generalize t.inodes[i]'hlt=x at *
  have hel:x.ents.length<2^40:=(inode_sz hx).2.1
  (first|refine cI hP1 (sI_LinksOf t x.ino h) rfl rfl ?_|refine cH hP1 (sI_LinksOf t x.ino h) rfl rfl ?_)
  simp +decide (maxSteps:=9^9) (disch:=omega) only[↓SB0,SX,seval,hQ,hQ1]
  (first | with_reducible refine if_d _ ?_ ?_ | refine if_i _ ?_ ?_) <;> intro h2
  rotate_left
  ·simp +decide (maxSteps:=9^9) (disch:=omega) only[↓SB0,SX,seval,hQ,hQ1]
   rw [tree_bad hm (by rw [treeP,decide_eq_false (by omega)]; rfl)]
  simp +decide (maxSteps:=9^9) (disch:=omega) only[↓SB0,SX,seval,hQ,hQ1]
  refine LH_D [2,6,5006] ?_
  simp +decide (maxSteps:=9^9) (disch:=omega) only[↓SB0,SX,seval,hQ,hQ1]
  refine loop_e [2,6,5006] (fun k:Nat=>[(36,.int .i64 k)]) (fun k=>k≤x.ents.length∧∀ j,j<k→(h:j<x.ents.length)→(inoIdx t (x.ents[j]).ino).isSome=true) (fun k=>x.ents.length-k) (0) hP1 hQ1 (rfl) (by simp) ?_
  rintro k ⟨hk1,hk2⟩ w2 hP2 hQ2
  simp +decide (maxSteps:=9^9) (disch:=omega) only[↓SB0,SX,seval,hQ,hQ1,hQ2]
  (first | with_reducible refine if_d _ ?_ ?_ | refine if_i _ ?_ ?_) <;> intro h3
  ·have hkl:k<x.ents.length:=by omega
   have hA:=sI_placeOf t (x.ents[k]'hkl).ino (by omega)
   cases e:inoIdx t (x.ents[k]'hkl).ino with
   | none=>
    rw [e] at hA
    simp +decide (maxSteps:=9^9) (disch:=omega) only[↓SB0,SX,seval,hQ,hQ1,hQ2,getE h3]
    (first|refine cI hP2 (hA) rfl rfl ?_|refine cH hP2 (hA) rfl rfl ?_)
    simp +decide (maxSteps:=9^9) (disch:=omega) only[↓SB0,SX,seval,hQ,hQ1,hQ2]
    rw [tree_bad hm (there_bad (List.getElem_mem hkl) e)]
   | some m=>
    rw [e,show idxI (some m)=(m:Int) from rfl] at hA
    simp +decide (maxSteps:=9^9) (disch:=omega) only[↓SB0,SX,seval,hQ,hQ1,hQ2,getE h3]
    (first|refine cI hP2 (hA) rfl rfl ?_|refine cH hP2 (hA) rfl rfl ?_)
    simp +decide (maxSteps:=9^9) (disch:=omega) only[↓SB0,SX,seval,hQ,hQ1,hQ2]
    (first | with_reducible refine if_d _ ?_ ?_ | refine if_i _ ?_ ?_) <;> intro h4
    ·exfalso; omega
    ·simp +decide (maxSteps:=9^9) (disch:=omega) only[↓SB0,SX,seval,hQ,hQ1,hQ2]
     exact ⟨k+1,rfl,⟨by omega,all_next (p:=fun y:Ent=>(inoIdx t y.ino).isSome=true) hk2 (fun _=>by rw [e]; rfl)⟩,by omega⟩
  ·obtain rfl:k=x.ents.length:=by omega
   have hp:treeP t x=true:=by
    rw [treeP,there_all fun k hk=>hk2 k hk hk,decide_eq_true (by omega)]; rfl
   simp +decide (maxSteps:=9^9) (disch:=omega) only[↓SB0,SX,seval,hQ,hQ1,hQ2]
   exact ⟨i+1,rfl,⟨by omega,hnx hp⟩,by omega⟩
 ·obtain rfl:i=t.inodes.length:=by omega
  have:decide ((reached t).length=t.inodes.length)=true:=decide_eq_true (by omega)
  simp +decide (maxSteps:=9^9) (disch:=omega) only[↓SB0,SX,seval,hQ,hQ1]
  rw [treeB,hT,this,all_list fun k hk'=>hk k hk' hk']; rfl
end Go.Proofs.YtjmnolhflcjpgaaGreat.Awp
namespace Go.Proofs.YtjmnolhflcjpgaaGreat.Awp
open Go.Proofs
set_option linter.unusedSimpArgs false
set_option linter.unusedVariables false
open Nat (reduceEqDiff reduceAdd reduceMul reduceSub)
open Int (reduceNeg reduceToNat reducePow)
set_option maxRecDepth 100000
set_option maxHeartbeats 20000000
theorem fs_bad {f:Fs} {i:Nat} (h:i<f.vols.length) (e:stepOk (volP f) volLt f.vols i=false):fsB f=false:=by simp [fsB,allOk_no h e]
theorem sS_FsOk (f:Fs) (h:f.sz<2^40):Spec Tryz.prog 26 [f.x] (.bool (fsB f)) [.undef]:=by
 obtain ⟨hl,hls⟩:=vols_sz (show szM Vol.sz f.vols<2^40 from h)
 refine spec_c hmx p_S_FsOk [] 31 [] ⟨Nat.le_of_ble_eq_true rfl,Nat.le_of_ble_eq_true rfl⟩ rfl rfl ?_
 intro w hP hQ
 unfold c_S_FsOk
 simp +decide (maxSteps:=9^9) (disch:=omega) only[↓SB0,SX,seval,hQ]
 (first | with_reducible refine gd_d _ ?_ ?_ | refine gd_i _ ?_ ?_) <;> intro hA
 ·simp +decide (maxSteps:=9^9) (disch:=omega) only[↓SB0,SX,seval,hQ,hA]
  simp only [fsB,decide_eq_false (show ¬ f.vols.length≤6 by omega),Bool.false_and]
 simp +decide (maxSteps:=9^9) (disch:=omega) only[↓SB0,SX,seval,hQ,hA]
 rcases bcase (inR f.next 1 99) with hB | hB
 ·(first|refine cI hP (s_l1In f.next 1 99) rfl rfl ?_|refine cH hP (s_l1In f.next 1 99) rfl rfl ?_)
  simp +decide (maxSteps:=9^9) (disch:=omega) only[↓SB0,SX,seval,hQ,hB]
  simp only [fsB,hB,Bool.false_and,Bool.and_false]
 (first|refine cI hP (s_l1In f.next 1 99) rfl rfl ?_|refine cH hP (s_l1In f.next 1 99) rfl rfl ?_)
 simp +decide (maxSteps:=9^9) (disch:=omega) only[↓SB0,SX,seval,hQ,hB]
 refine LH_D [2,4,5004] ?_
 simp +decide (maxSteps:=9^9) (disch:=omega) only[↓SB0,SX,seval,hQ]
 refine loop_e [2,4,5004] (fun i:Nat=>[(3,.int .i64 i)]) (fun i=>i≤f.vols.length∧∀ k,k<i→stepOk (volP f) volLt f.vols k=true) (fun i=>f.vols.length-i) (0) hP hQ (rfl) (by simp) ?_
 rintro i ⟨hi,hk⟩ w1 hP1 hQ1
 simp +decide (maxSteps:=9^9) (disch:=omega) only[↓SB0,SX,seval,hQ,hQ1]
 (first | with_reducible refine if_d _ ?_ ?_ | refine if_i _ ?_ ?_) <;> intro h1
 ·have hlt:i<f.vols.length:=by omega
  have hx:=hls _ (List.getElem_mem hlt)
  cases i with
  | zero=>
   have hbad:volP f 0 (f.vols[0]'hlt)=false→fsB f=false:=fun e=>fs_bad hlt (step_bad hlt e)
   have hnext:volP f 0 (f.vols[0]'hlt)=true→∀ k,k<0+1→stepOk (volP f) volLt f.vols k=true:=fun e=>ok_next hk (by rw [stepOk_zero hlt,e])
   simp +decide (maxSteps:=9^9) (disch:=omega) only[↓SB0,SX,seval,hQ,hQ1,getE h1]
   generalize f.vols[0]'hlt=v at *
   obtain ⟨hv1,hv2⟩:=vol_sz hx
   (first | with_reducible refine hd_d _ ?_ ?_ | refine hd_i _ ?_ ?_) <;> intro g0
   ·simp +decide (maxSteps:=9^9) (disch:=omega) only[↓SB0,SX,seval,hQ,hQ1,g0]
    rw [hbad (by simp only [volP,decide_eq_false (show ¬ 1≤v.id by omega),Bool.false_and])]
   simp +decide (maxSteps:=9^9) (disch:=omega) only[↓SB0,SX,seval,hQ,hQ1,g0]
   (first | with_reducible refine hd_d _ ?_ ?_ | refine hd_i _ ?_ ?_) <;> intro g1
   ·simp +decide (maxSteps:=9^9) (disch:=omega) only[↓SB0,SX,seval,hQ,hQ1,g1]
    rw [hbad (by simp only [volP,decide_eq_false (show ¬ v.id<f.next by omega),Bool.false_and,Bool.and_false])]
   simp +decide (maxSteps:=9^9) (disch:=omega) only[↓SB0,SX,seval,hQ,hQ1,g1]
   rcases bcase (nameOk v.name) with hN | hN
   ·(first|refine cI hP1 (sS_NameOk v.name (by omega)) rfl rfl ?_|refine cH hP1 (sS_NameOk v.name (by omega)) rfl rfl ?_)
    simp +decide (maxSteps:=9^9) (disch:=omega) only[↓SB0,SX,seval,hQ,hQ1,hN]
    rw [hbad (by simp only [volP,hN,Bool.false_and,Bool.and_false])]
   (first|refine cI hP1 (sS_NameOk v.name (by omega)) rfl rfl ?_|refine cH hP1 (sS_NameOk v.name (by omega)) rfl rfl ?_)
   simp +decide (maxSteps:=9^9) (disch:=omega) only[↓SB0,SX,seval,hQ,hQ1,hN]
   (first|refine cI hP1 (sS_VolNamed f v.name (by omega)) rfl rfl ?_|refine cH hP1 (sS_VolNamed f v.name (by omega)) rfl rfl ?_)
   simp +decide (maxSteps:=9^9) (disch:=omega) only[↓SB0,SX,seval,hQ,hQ1]
   (first | with_reducible refine hd_d _ ?_ ?_ | refine hd_i _ ?_ ?_) <;> intro g3
   ·have g3':¬ idxI (volNamed f v.name)=(((0:Nat):Int):Int):=by simpa using g3
    simp +decide (maxSteps:=9^9) (disch:=omega) only[↓SB0,SX,seval,hQ,hQ1,g3]
    rw [hbad (by simp only [volP,decide_eq_false g3',Bool.false_and,Bool.and_false])]
   simp +decide (maxSteps:=9^9) (disch:=omega) only[↓SB0,SX,seval,hQ,hQ1,g3]
   have g3':idxI (volNamed f v.name)=(((0:Nat):Int):Int):=by simpa using g3
   rcases bcase (inR v.limit 32 4000) with hL | hL
   ·(first|refine cI hP1 (s_l1In v.limit 32 4000) rfl rfl ?_|refine cH hP1 (s_l1In v.limit 32 4000) rfl rfl ?_)
    simp +decide (maxSteps:=9^9) (disch:=omega) only[↓SB0,SX,seval,hQ,hQ1,hL]
    rw [hbad (by simp only [volP,hL,Bool.false_and,Bool.and_false])]
   (first|refine cI hP1 (s_l1In v.limit 32 4000) rfl rfl ?_|refine cH hP1 (s_l1In v.limit 32 4000) rfl rfl ?_)
   simp +decide (maxSteps:=9^9) (disch:=omega) only[↓SB0,SX,seval,hQ,hQ1,hL]
   rcases bcase (treeB v.t) with hT | hT
   ·(first|refine cI hP1 (sS_TreeOk v.t (by omega)) rfl rfl ?_|refine cH hP1 (sS_TreeOk v.t (by omega)) rfl rfl ?_)
    simp +decide (maxSteps:=9^9) (disch:=omega) only[↓SB0,SX,seval,hQ,hQ1,hT]
    rw [hbad (by simp only [volP,hT,Bool.false_and,Bool.and_false])]
   (first|refine cI hP1 (sS_TreeOk v.t (by omega)) rfl rfl ?_|refine cH hP1 (sS_TreeOk v.t (by omega)) rfl rfl ?_)
   simp +decide (maxSteps:=9^9) (disch:=omega) only[↓SB0,SX,seval,hQ,hQ1,hT]
   (first|refine cI hP1 (sS_UsageOf v.t (by omega)) rfl rfl ?_|refine cH hP1 (sS_UsageOf v.t (by omega)) rfl rfl ?_)
   simp +decide (maxSteps:=9^9) (disch:=omega) only[↓SB0,SX,seval,hQ,hQ1]
   (first | with_reducible refine if_d _ ?_ ?_ | refine if_i _ ?_ ?_) <;> intro g4
   ·simp +decide (maxSteps:=9^9) (disch:=omega) only[↓SB0,SX,seval,hQ,hQ1]
    rw [hbad (by simp only [volP,decide_eq_false (show ¬ ((usageOf v.t:Nat):Int)≤v.limit by omega),Bool.false_and,Bool.and_false])]
   ·simp +decide (maxSteps:=9^9) (disch:=omega) only[↓SB0,SX,seval,hQ,hQ1]
    have hp:volP f 0 v=true:=by
     simp only [volP,hN,hL,hT,decide_eq_true (show 1≤v.id by omega),decide_eq_true (show v.id<f.next by omega),decide_eq_true (show ((usageOf v.t:Nat):Int)≤v.limit by omega),decide_eq_true g3',Bool.and_true]
    exact ⟨0+1,rfl,⟨by omega,hnext hp⟩,by omega⟩
  | succ m=>
   have hml:m<f.vols.length:=by omega
   have w4:decide ((0:Int)<((m+1:Nat):Int))=true:=decide_eq_true (by omega)
   have hm:=getE (show ((m:Nat):Int)<(f.vols.length:Nat) by omega)
   have hbad:volP f (m+1) (f.vols[m+1]'hlt)=false→fsB f=false:=fun e=>fs_bad hlt (step_bad hlt e)
   have hprev:volLt (f.vols[m]'hml) (f.vols[m+1]'hlt)=false→fsB f=false:=fun e=>fs_bad hlt (by rw [stepOk_succ hlt,e,Bool.and_false])
   have hnext:volP f (m+1) (f.vols[m+1]'hlt)=true→volLt (f.vols[m]'hml) (f.vols[m+1]'hlt)=true→∀ k,k<(m+1)+1→stepOk (volP f) volLt f.vols k=true:=fun e e'=>ok_next hk (by rw [stepOk_succ hlt,e,e']; rfl)
   simp +decide (maxSteps:=9^9) (disch:=omega) only[↓SB0,SX,seval,hQ,hQ1,getE h1]
   generalize f.vols[m+1]'hlt=v at *
   obtain ⟨hv1,hv2⟩:=vol_sz hx
   (first | with_reducible refine hd_d _ ?_ ?_ | refine hd_i _ ?_ ?_) <;> intro g0
   ·simp +decide (maxSteps:=9^9) (disch:=omega) only[↓SB0,SX,seval,hQ,hQ1,g0]
    rw [hbad (by simp only [volP,decide_eq_false (show ¬ 1≤v.id by omega),Bool.false_and])]
   simp +decide (maxSteps:=9^9) (disch:=omega) only[↓SB0,SX,seval,hQ,hQ1,g0]
   (first | with_reducible refine hd_d _ ?_ ?_ | refine hd_i _ ?_ ?_) <;> intro g1
   ·simp +decide (maxSteps:=9^9) (disch:=omega) only[↓SB0,SX,seval,hQ,hQ1,g1]
    rw [hbad (by simp only [volP,decide_eq_false (show ¬ v.id<f.next by omega),Bool.false_and,Bool.and_false])]
   simp +decide (maxSteps:=9^9) (disch:=omega) only[↓SB0,SX,seval,hQ,hQ1,g1,w4,cast_pred,hm,getE h1]
   (first | with_reducible refine hd_d _ ?_ ?_ | refine hd_i _ ?_ ?_) <;> intro g2
   ·simp +decide (maxSteps:=9^9) (disch:=omega) only[↓SB0,SX,seval,hQ,hQ1,g2]
    rw [hprev (by rw [volLt,decide_eq_false (by omega)])]
   simp +decide (maxSteps:=9^9) (disch:=omega) only[↓SB0,SX,seval,hQ,hQ1,g2]
   rcases bcase (nameOk v.name) with hN | hN
   ·(first|refine cI hP1 (sS_NameOk v.name (by omega)) rfl rfl ?_|refine cH hP1 (sS_NameOk v.name (by omega)) rfl rfl ?_)
    simp +decide (maxSteps:=9^9) (disch:=omega) only[↓SB0,SX,seval,hQ,hQ1,hN]
    rw [hbad (by simp only [volP,hN,Bool.false_and,Bool.and_false])]
   (first|refine cI hP1 (sS_NameOk v.name (by omega)) rfl rfl ?_|refine cH hP1 (sS_NameOk v.name (by omega)) rfl rfl ?_)
   simp +decide (maxSteps:=9^9) (disch:=omega) only[↓SB0,SX,seval,hQ,hQ1,hN]
   (first|refine cI hP1 (sS_VolNamed f v.name (by omega)) rfl rfl ?_|refine cH hP1 (sS_VolNamed f v.name (by omega)) rfl rfl ?_)
   simp +decide (maxSteps:=9^9) (disch:=omega) only[↓SB0,SX,seval,hQ,hQ1]
   (first | with_reducible refine hd_d _ ?_ ?_ | refine hd_i _ ?_ ?_) <;> intro g3
   ·have g3':¬ idxI (volNamed f v.name)=(((m+1:Nat):Int):Int):=by simpa using g3
    simp +decide (maxSteps:=9^9) (disch:=omega) only[↓SB0,SX,seval,hQ,hQ1,g3]
    rw [hbad (by simp only [volP,decide_eq_false g3',Bool.false_and,Bool.and_false])]
   simp +decide (maxSteps:=9^9) (disch:=omega) only[↓SB0,SX,seval,hQ,hQ1,g3]
   have g3':idxI (volNamed f v.name)=(((m+1:Nat):Int):Int):=by simpa using g3
   rcases bcase (inR v.limit 32 4000) with hL | hL
   ·(first|refine cI hP1 (s_l1In v.limit 32 4000) rfl rfl ?_|refine cH hP1 (s_l1In v.limit 32 4000) rfl rfl ?_)
    simp +decide (maxSteps:=9^9) (disch:=omega) only[↓SB0,SX,seval,hQ,hQ1,hL]
    rw [hbad (by simp only [volP,hL,Bool.false_and,Bool.and_false])]
   (first|refine cI hP1 (s_l1In v.limit 32 4000) rfl rfl ?_|refine cH hP1 (s_l1In v.limit 32 4000) rfl rfl ?_)
   simp +decide (maxSteps:=9^9) (disch:=omega) only[↓SB0,SX,seval,hQ,hQ1,hL]
   rcases bcase (treeB v.t) with hT | hT
   ·(first|refine cI hP1 (sS_TreeOk v.t (by omega)) rfl rfl ?_|refine cH hP1 (sS_TreeOk v.t (by omega)) rfl rfl ?_)
    simp +decide (maxSteps:=9^9) (disch:=omega) only[↓SB0,SX,seval,hQ,hQ1,hT]
    rw [hbad (by simp only [volP,hT,Bool.false_and,Bool.and_false])]
   (first|refine cI hP1 (sS_TreeOk v.t (by omega)) rfl rfl ?_|refine cH hP1 (sS_TreeOk v.t (by omega)) rfl rfl ?_)
   simp +decide (maxSteps:=9^9) (disch:=omega) only[↓SB0,SX,seval,hQ,hQ1,hT]
   (first|refine cI hP1 (sS_UsageOf v.t (by omega)) rfl rfl ?_|refine cH hP1 (sS_UsageOf v.t (by omega)) rfl rfl ?_)
   simp +decide (maxSteps:=9^9) (disch:=omega) only[↓SB0,SX,seval,hQ,hQ1]
   (first | with_reducible refine if_d _ ?_ ?_ | refine if_i _ ?_ ?_) <;> intro g4
   ·simp +decide (maxSteps:=9^9) (disch:=omega) only[↓SB0,SX,seval,hQ,hQ1]
    rw [hbad (by simp only [volP,decide_eq_false (show ¬ ((usageOf v.t:Nat):Int)≤v.limit by omega),Bool.false_and,Bool.and_false])]
   ·simp +decide (maxSteps:=9^9) (disch:=omega) only[↓SB0,SX,seval,hQ,hQ1]
    have hp:volP f (m+1) v=true:=by
     simp only [volP,hN,hL,hT,decide_eq_true (show 1≤v.id by omega),decide_eq_true (show v.id<f.next by omega),decide_eq_true (show ((usageOf v.t:Nat):Int)≤v.limit by omega),decide_eq_true g3',Bool.and_true]
    exact ⟨(m+1)+1,rfl,⟨by omega,hnext hp (by rw [volLt,decide_eq_true (by omega)])⟩,by omega⟩
 ·obtain rfl:i=f.vols.length:=by omega
  simp +decide (maxSteps:=9^9) (disch:=omega) only[↓SB0,SX,seval,hQ,hQ1]
  rw [fsB,hB,allOk_yes fun k h=>hk k h,decide_eq_true (by omega)]; rfl
theorem sI_FsOk (f:Fs) (h:f.sz<2^40):Spec Tryz.prog 31 [f.x] (.bool (fsB f)) [.undef]:=by
 obtain ⟨hl,hls⟩:=vols_sz (show szM Vol.sz f.vols<2^40 from h)
 refine spec_c hmx p_I_FsOk [] 458783 [] ⟨Nat.le_of_ble_eq_true rfl,Nat.le_of_ble_eq_true rfl⟩ rfl rfl ?_
 intro w hP hQ
 unfold c_I_FsOk
 simp +decide (maxSteps:=9^9) (disch:=omega) only[↓SB0,SX,seval,hQ]
 (first | with_reducible refine gd_d _ ?_ ?_ | refine gd_i _ ?_ ?_) <;> intro hA
 ·simp +decide (maxSteps:=9^9) (disch:=omega) only[↓SB0,SX,seval,hQ,hA]
  simp only [fsB,decide_eq_false (show ¬ f.vols.length≤6 by omega),Bool.false_and]
 simp +decide (maxSteps:=9^9) (disch:=omega) only[↓SB0,SX,seval,hQ,hA]
 rcases bcase (inR f.next 1 99) with hB | hB
 ·(first|refine cI hP (s_from f.next 1 99) rfl rfl ?_|refine cH hP (s_from f.next 1 99) rfl rfl ?_)
  simp +decide (maxSteps:=9^9) (disch:=omega) only[↓SB0,SX,seval,hQ,hB]
  simp only [fsB,hB,Bool.false_and,Bool.and_false]
 (first|refine cI hP (s_from f.next 1 99) rfl rfl ?_|refine cH hP (s_from f.next 1 99) rfl rfl ?_)
 simp +decide (maxSteps:=9^9) (disch:=omega) only[↓SB0,SX,seval,hQ,hB]
 refine LH_D [2,3,4,5004] ?_
 simp +decide (maxSteps:=9^9) (disch:=omega) only[↓SB0,SX,seval,hQ]
 refine loop_e [2,3,4,5004] (fun i:Nat=>[(18,.int .i64 i)]) (fun i=>i≤f.vols.length∧∀ k,k<i→stepOk (volP f) volLt f.vols k=true) (fun i=>f.vols.length-i) (0) hP hQ (rfl) (by simp) ?_
 rintro i ⟨hi,hk⟩ w1 hP1 hQ1
 simp +decide (maxSteps:=9^9) (disch:=omega) only[↓SB0,SX,seval,hQ,hQ1]
 (first | with_reducible refine if_d _ ?_ ?_ | refine if_i _ ?_ ?_) <;> intro h1
 ·have hlt:i<f.vols.length:=by omega
  have hx:=hls _ (List.getElem_mem hlt)
  cases i with
  | zero=>
   have hbad:volP f 0 (f.vols[0]'hlt)=false→fsB f=false:=fun e=>fs_bad hlt (step_bad hlt e)
   have hnext:volP f 0 (f.vols[0]'hlt)=true→∀ k,k<0+1→stepOk (volP f) volLt f.vols k=true:=fun e=>ok_next hk (by rw [stepOk_zero hlt,e])
   simp +decide (maxSteps:=9^9) (disch:=omega) only[↓SB0,SX,seval,hQ,hQ1,getE h1]
   generalize f.vols[0]'hlt=v at *
   obtain ⟨hv1,hv2⟩:=vol_sz hx
   (first | with_reducible refine hd_d _ ?_ ?_ | refine hd_i _ ?_ ?_) <;> intro g0
   ·simp +decide (maxSteps:=9^9) (disch:=omega) only[↓SB0,SX,seval,hQ,hQ1,g0]
    rw [hbad (by simp only [volP,decide_eq_false (show ¬ 1≤v.id by omega),Bool.false_and])]
   simp +decide (maxSteps:=9^9) (disch:=omega) only[↓SB0,SX,seval,hQ,hQ1,g0]
   (first | with_reducible refine hd_d _ ?_ ?_ | refine hd_i _ ?_ ?_) <;> intro g1
   ·simp +decide (maxSteps:=9^9) (disch:=omega) only[↓SB0,SX,seval,hQ,hQ1,g1]
    rw [hbad (by simp only [volP,decide_eq_false (show ¬ v.id<f.next by omega),Bool.false_and,Bool.and_false])]
   simp +decide (maxSteps:=9^9) (disch:=omega) only[↓SB0,SX,seval,hQ,hQ1,g1]
   rcases bcase (nameOk v.name) with hN | hN
   ·(first|refine cI hP1 (sI_NameOk v.name (by omega)) rfl rfl ?_|refine cH hP1 (sI_NameOk v.name (by omega)) rfl rfl ?_)
    simp +decide (maxSteps:=9^9) (disch:=omega) only[↓SB0,SX,seval,hQ,hQ1,hN]
    rw [hbad (by simp only [volP,hN,Bool.false_and,Bool.and_false])]
   (first|refine cI hP1 (sI_NameOk v.name (by omega)) rfl rfl ?_|refine cH hP1 (sI_NameOk v.name (by omega)) rfl rfl ?_)
   simp +decide (maxSteps:=9^9) (disch:=omega) only[↓SB0,SX,seval,hQ,hQ1,hN]
   (first|refine cI hP1 (sI_VolNamed f v.name (by omega)) rfl rfl ?_|refine cH hP1 (sI_VolNamed f v.name (by omega)) rfl rfl ?_)
   simp +decide (maxSteps:=9^9) (disch:=omega) only[↓SB0,SX,seval,hQ,hQ1]
   (first | with_reducible refine hd_d _ ?_ ?_ | refine hd_i _ ?_ ?_) <;> intro g3
   ·have g3':¬ idxI (volNamed f v.name)=(((0:Nat):Int):Int):=by simpa using g3
    simp +decide (maxSteps:=9^9) (disch:=omega) only[↓SB0,SX,seval,hQ,hQ1,g3]
    rw [hbad (by simp only [volP,decide_eq_false g3',Bool.false_and,Bool.and_false])]
   simp +decide (maxSteps:=9^9) (disch:=omega) only[↓SB0,SX,seval,hQ,hQ1,g3]
   have g3':idxI (volNamed f v.name)=(((0:Nat):Int):Int):=by simpa using g3
   rcases bcase (inR v.limit 32 4000) with hL | hL
   ·(first|refine cI hP1 (s_isLimit v.limit) rfl rfl ?_|refine cH hP1 (s_isLimit v.limit) rfl rfl ?_)
    simp +decide (maxSteps:=9^9) (disch:=omega) only[↓SB0,SX,seval,hQ,hQ1,hL]
    rw [hbad (by simp only [volP,hL,Bool.false_and,Bool.and_false])]
   (first|refine cI hP1 (s_isLimit v.limit) rfl rfl ?_|refine cH hP1 (s_isLimit v.limit) rfl rfl ?_)
   simp +decide (maxSteps:=9^9) (disch:=omega) only[↓SB0,SX,seval,hQ,hQ1,hL]
   rcases bcase (treeB v.t) with hT | hT
   ·(first|refine cI hP1 (sI_TreeOk v.t (by omega)) rfl rfl ?_|refine cH hP1 (sI_TreeOk v.t (by omega)) rfl rfl ?_)
    simp +decide (maxSteps:=9^9) (disch:=omega) only[↓SB0,SX,seval,hQ,hQ1,hT]
    rw [hbad (by simp only [volP,hT,Bool.false_and,Bool.and_false])]
   (first|refine cI hP1 (sI_TreeOk v.t (by omega)) rfl rfl ?_|refine cH hP1 (sI_TreeOk v.t (by omega)) rfl rfl ?_)
   simp +decide (maxSteps:=9^9) (disch:=omega) only[↓SB0,SX,seval,hQ,hQ1,hT]
   (first|refine cI hP1 (sI_UsageOf v.t (by omega)) rfl rfl ?_|refine cH hP1 (sI_UsageOf v.t (by omega)) rfl rfl ?_)
   simp +decide (maxSteps:=9^9) (disch:=omega) only[↓SB0,SX,seval,hQ,hQ1]
   (first | with_reducible refine if_d _ ?_ ?_ | refine if_i _ ?_ ?_) <;> intro g4
   ·simp +decide (maxSteps:=9^9) (disch:=omega) only[↓SB0,SX,seval,hQ,hQ1]
    rw [hbad (by simp only [volP,decide_eq_false (show ¬ ((usageOf v.t:Nat):Int)≤v.limit by omega),Bool.false_and,Bool.and_false])]
   ·simp +decide (maxSteps:=9^9) (disch:=omega) only[↓SB0,SX,seval,hQ,hQ1]
    have hp:volP f 0 v=true:=by
     simp only [volP,hN,hL,hT,decide_eq_true (show 1≤v.id by omega),decide_eq_true (show v.id<f.next by omega),decide_eq_true (show ((usageOf v.t:Nat):Int)≤v.limit by omega),decide_eq_true g3',Bool.and_true]
    exact ⟨0+1,rfl,⟨by omega,hnext hp⟩,by omega⟩
  | succ m=>
   have hml:m<f.vols.length:=by omega
   have w4:decide ((0:Int)<((m+1:Nat):Int))=true:=decide_eq_true (by omega)
   have hm:=getE (show ((m:Nat):Int)<(f.vols.length:Nat) by omega)
   have hbad:volP f (m+1) (f.vols[m+1]'hlt)=false→fsB f=false:=fun e=>fs_bad hlt (step_bad hlt e)
   have hprev:volLt (f.vols[m]'hml) (f.vols[m+1]'hlt)=false→fsB f=false:=fun e=>fs_bad hlt (by rw [stepOk_succ hlt,e,Bool.and_false])
   have hnext:volP f (m+1) (f.vols[m+1]'hlt)=true→volLt (f.vols[m]'hml) (f.vols[m+1]'hlt)=true→∀ k,k<(m+1)+1→stepOk (volP f) volLt f.vols k=true:=fun e e'=>ok_next hk (by rw [stepOk_succ hlt,e,e']; rfl)
   simp +decide (maxSteps:=9^9) (disch:=omega) only[↓SB0,SX,seval,hQ,hQ1,getE h1]
   generalize f.vols[m+1]'hlt=v at *
   obtain ⟨hv1,hv2⟩:=vol_sz hx
   (first | with_reducible refine hd_d _ ?_ ?_ | refine hd_i _ ?_ ?_) <;> intro g0
   ·simp +decide (maxSteps:=9^9) (disch:=omega) only[↓SB0,SX,seval,hQ,hQ1,g0]
    rw [hbad (by simp only [volP,decide_eq_false (show ¬ 1≤v.id by omega),Bool.false_and])]
   simp +decide (maxSteps:=9^9) (disch:=omega) only[↓SB0,SX,seval,hQ,hQ1,g0]
   (first | with_reducible refine hd_d _ ?_ ?_ | refine hd_i _ ?_ ?_) <;> intro g1
   ·simp +decide (maxSteps:=9^9) (disch:=omega) only[↓SB0,SX,seval,hQ,hQ1,g1]
    rw [hbad (by simp only [volP,decide_eq_false (show ¬ v.id<f.next by omega),Bool.false_and,Bool.and_false])]
   simp +decide (maxSteps:=9^9) (disch:=omega) only[↓SB0,SX,seval,hQ,hQ1,g1,w4,cast_pred,hm,getE h1]
   (first | with_reducible refine hd_d _ ?_ ?_ | refine hd_i _ ?_ ?_) <;> intro g2
   ·simp +decide (maxSteps:=9^9) (disch:=omega) only[↓SB0,SX,seval,hQ,hQ1,g2]
    rw [hprev (by rw [volLt,decide_eq_false (by omega)])]
   simp +decide (maxSteps:=9^9) (disch:=omega) only[↓SB0,SX,seval,hQ,hQ1,g2]
   rcases bcase (nameOk v.name) with hN | hN
   ·(first|refine cI hP1 (sI_NameOk v.name (by omega)) rfl rfl ?_|refine cH hP1 (sI_NameOk v.name (by omega)) rfl rfl ?_)
    simp +decide (maxSteps:=9^9) (disch:=omega) only[↓SB0,SX,seval,hQ,hQ1,hN]
    rw [hbad (by simp only [volP,hN,Bool.false_and,Bool.and_false])]
   (first|refine cI hP1 (sI_NameOk v.name (by omega)) rfl rfl ?_|refine cH hP1 (sI_NameOk v.name (by omega)) rfl rfl ?_)
   simp +decide (maxSteps:=9^9) (disch:=omega) only[↓SB0,SX,seval,hQ,hQ1,hN]
   (first|refine cI hP1 (sI_VolNamed f v.name (by omega)) rfl rfl ?_|refine cH hP1 (sI_VolNamed f v.name (by omega)) rfl rfl ?_)
   simp +decide (maxSteps:=9^9) (disch:=omega) only[↓SB0,SX,seval,hQ,hQ1]
   (first | with_reducible refine hd_d _ ?_ ?_ | refine hd_i _ ?_ ?_) <;> intro g3
   ·have g3':¬ idxI (volNamed f v.name)=(((m+1:Nat):Int):Int):=by simpa using g3
    simp +decide (maxSteps:=9^9) (disch:=omega) only[↓SB0,SX,seval,hQ,hQ1,g3]
    rw [hbad (by simp only [volP,decide_eq_false g3',Bool.false_and,Bool.and_false])]
   simp +decide (maxSteps:=9^9) (disch:=omega) only[↓SB0,SX,seval,hQ,hQ1,g3]
   have g3':idxI (volNamed f v.name)=(((m+1:Nat):Int):Int):=by simpa using g3
   rcases bcase (inR v.limit 32 4000) with hL | hL
   ·(first|refine cI hP1 (s_isLimit v.limit) rfl rfl ?_|refine cH hP1 (s_isLimit v.limit) rfl rfl ?_)
    simp +decide (maxSteps:=9^9) (disch:=omega) only[↓SB0,SX,seval,hQ,hQ1,hL]
    rw [hbad (by simp only [volP,hL,Bool.false_and,Bool.and_false])]
   (first|refine cI hP1 (s_isLimit v.limit) rfl rfl ?_|refine cH hP1 (s_isLimit v.limit) rfl rfl ?_)
   simp +decide (maxSteps:=9^9) (disch:=omega) only[↓SB0,SX,seval,hQ,hQ1,hL]
   rcases bcase (treeB v.t) with hT | hT
   ·(first|refine cI hP1 (sI_TreeOk v.t (by omega)) rfl rfl ?_|refine cH hP1 (sI_TreeOk v.t (by omega)) rfl rfl ?_)
    simp +decide (maxSteps:=9^9) (disch:=omega) only[↓SB0,SX,seval,hQ,hQ1,hT]
    rw [hbad (by simp only [volP,hT,Bool.false_and,Bool.and_false])]
   (first|refine cI hP1 (sI_TreeOk v.t (by omega)) rfl rfl ?_|refine cH hP1 (sI_TreeOk v.t (by omega)) rfl rfl ?_)
   simp +decide (maxSteps:=9^9) (disch:=omega) only[↓SB0,SX,seval,hQ,hQ1,hT]
   (first|refine cI hP1 (sI_UsageOf v.t (by omega)) rfl rfl ?_|refine cH hP1 (sI_UsageOf v.t (by omega)) rfl rfl ?_)
   simp +decide (maxSteps:=9^9) (disch:=omega) only[↓SB0,SX,seval,hQ,hQ1]
   (first | with_reducible refine if_d _ ?_ ?_ | refine if_i _ ?_ ?_) <;> intro g4
   ·simp +decide (maxSteps:=9^9) (disch:=omega) only[↓SB0,SX,seval,hQ,hQ1]
    rw [hbad (by simp only [volP,decide_eq_false (show ¬ ((usageOf v.t:Nat):Int)≤v.limit by omega),Bool.false_and,Bool.and_false])]
   ·simp +decide (maxSteps:=9^9) (disch:=omega) only[↓SB0,SX,seval,hQ,hQ1]
    have hp:volP f (m+1) v=true:=by
     simp only [volP,hN,hL,hT,decide_eq_true (show 1≤v.id by omega),decide_eq_true (show v.id<f.next by omega),decide_eq_true (show ((usageOf v.t:Nat):Int)≤v.limit by omega),decide_eq_true g3',Bool.and_true]
    exact ⟨(m+1)+1,rfl,⟨by omega,hnext hp (by rw [volLt,decide_eq_true (by omega)])⟩,by omega⟩
 ·obtain rfl:i=f.vols.length:=by omega
  simp +decide (maxSteps:=9^9) (disch:=omega) only[↓SB0,SX,seval,hQ,hQ1]
  rw [fsB,hB,allOk_yes fun k h=>hk k h,decide_eq_true (by omega)]; rfl
end Go.Proofs.YtjmnolhflcjpgaaGreat.Awp
namespace Go.Proofs.YtjmnolhflcjpgaaGreat.Awp
open Go.Proofs
set_option linter.unusedSimpArgs false
set_option linter.unusedVariables false
open Nat (reduceEqDiff reduceAdd reduceMul reduceSub)
open Int (reduceNeg reduceToNat reducePow)
set_option maxRecDepth 100000
set_option maxHeartbeats 20000000
theorem volAt_lt {f:Fs} {n:Int} {k:Nat} (h:volAt f n=some k):k<f.vols.length:=by
 rw [volAt,List.findIdx?_eq_some_iff_getElem] at h
 exact h.1
theorem cnt_le {α:Type} (c f:α→Nat) (K:Nat) (h:∀ x,c x≤K+K*f x) (l:List α):cntM c l≤K*szM f l:=by
 simp only [cntM,szM]
 induction l with
 | nil=>simp
 | cons x l ih=>
  have:=h x
  simp only [List.map_cons,List.sum_cons,List.length_cons,Nat.mul_add,Nat.mul_one] at ih ⊢
  omega
theorem ino_cnt (x:Inode):x.cnt≤3+3*x.sz:=by
 have h1:=cnt_le Ent.cnt Ent.sz 2 (fun x=>by show 1+1≤_; omega) x.ents
 have h2:=cnt_le Attr.cnt Attr.sz 2 (fun x=>by show 1+1≤_; omega) x.attrs
 have e1:x.cnt=1+1+1+x.data.length+cntM Ent.cnt x.ents+cntM Attr.cnt x.attrs:=rfl
 have e2:x.sz=x.data.length+szM Ent.sz x.ents+szM Attr.sz x.attrs:=rfl
 omega
theorem tab_cnt (x:Tab):x.cntT≤3*x.sz:=cnt_le Inode.cnt Inode.sz 3 ino_cnt x.inodes
theorem fs_cnt (x:Fs):x.cntT≤5*x.sz:=by
 refine cnt_le Vol.cnt Vol.sz 5 (fun v=>?_) x.vols
 have h1:=tab_cnt v.t
 have e1:v.cnt=1+1+1+1+v.t.cntT+1:=rfl
 have e2:v.sz=v.name.length+v.t.sz:=rfl
 omega
end Go.Proofs.YtjmnolhflcjpgaaGreat.Awp
namespace Go.Proofs.YtjmnolhflcjpgaaGreat.Awp
open Go.Proofs Go.Shelf Go.RowKit Go.Lib Go.Sort
set_option linter.unusedSimpArgs false
set_option linter.unusedVariables false
theorem run_clear_row {P:Program} (w:World) (t e ty:TypeId) (z:Value) (ht:P.underlying t=some (.slice e)) (hv:∀ w,(zeroValue e).run P w=.ok z w) (b o c:Nat) (h0:0<z.cells.size)
  (hc:∀ j,j<z.cells.size→(w.cell? ⟨b,o+j,none⟩).isSome=true) (hf:∀ j,j<z.cells.size→w.frozen? ⟨b,o+j,none⟩=false) (h1:∀ v ∈ z.cells.toList,v.oneCell'=true) :
  (Builtin.clear_ #[t] ty #[.slice (some ⟨b,o,none⟩) 1 c]).run P w=.ok (.tuple #[]) (w.setCells b o z.cells.toList):=by
 have hzc:(Builtin.zeroCells z.cells 1).toList=z.cells.toList:=by rw [zeroCells_list _ _ h0]; simp
 have hst:=run_storeCells_cells (P:=P) b o z.cells.toList 0 w (by simpa using hc) (by simpa using hf) h1
 simp only [Nat.add_zero] at hst
 simp [Builtin.clear_,run_underlying ht,hv,hzc,hst]
theorem del_spec {P:Program} {f s:Nat} {es:List (List TV)} {i:Nat} (hE:Enters P f) (hs:∀ r ∈ es,r.length=s) (hk:es.flatten.all knownT=true) (hi:i<es.length) (zs:List Value) (hz:zs.length=s)
  (run:∀ (w:World) (blk off cap:Nat) (cs:List Value),cs.length=es.length*s→(∀ t u,cs[t]?=some u→w.cell? ⟨blk,off+t,none⟩=some u)→(∀ t,t<es.length*s→w.frozen? ⟨blk,off+t,none⟩=false) →
   (∀ u ∈ cs,u.oneCell'=true)→es.length≤cap →
   Calls P f #[.slice (some ⟨blk,off,none⟩) es.length cap,.int .i64 i,.int .i64 ((i+1:Nat):Int)] w fun e w'=>e=.returned (.slice (some ⟨blk,off,none⟩) (i+(es.length-(i+1))) cap) ∧
    w'=(w.drew.setCells blk (off+i*s) (cs.drop ((i+1)*s))).setCells blk (off+(i+(es.length-(i+1)))*s) zs) :
  Spec P f [.own s es,.int .i64 i,.int .i64 ((i:Int)+1)] (.own s (es.eraseIdx i)) [.undef,.undef,.undef]:=by
 refine ⟨hE,rfl,?_⟩
 intro w vs F X r h1 h2 h3
 cases r with
 | own _ F1 F2 _ s es v vs ys hr hn hF=>
  cases hn with
  | int _ _ _ _ vs _ hn=>
  cases hn with
  | int _ _ _ _ vs _ hn=>
  cases hn with
  | nil _ _ hF2 hX=>
   rcases Row.sl_inv hr with ⟨rfl,he,h0⟩ | ⟨G1,b,off,cap,C,ty,fr,cs,rfl,hb,hfr,hcap,hle,hes,hcs,hc,hrow,hG⟩
   ·subst he; simp at hi
   ·have hcell:∀ t u,cs[t]?=some u→w.cell? ⟨b,off+t,none⟩=some u:=by
     intro t u hu
     have ht:=(List.getElem?_eq_some_iff.1 hu).1
     simp [World.cell?,hb,hc t ht,hu]
    have hfro:∀ t,t<es.length*s→w.frozen? ⟨b,off+t,none⟩=false:=by
     intro t ht
     have h5:es.length*s≤cap*s:=Nat.mul_le_mul_right s hle
     have:=hfr (off+t) (by omega)
     simp [World.frozen?,hb]
     simpa using this
    have hbl:b<w.heap.size:=(Array.getElem?_eq_some_iff.1 hb).1
    refine (run w b off cap cs hcs hcell hfro (known_one hrow hk) hle).mono ?_
    rintro e w' ⟨rfl,hw⟩
    have hmul:es.length*s≤cap*s:=Nat.mul_le_mul_right s hle
    obtain ⟨m,hm⟩:∃ m,es.length=i+(m+1):=⟨es.length-(i+1),by omega⟩
    have e0:es.length-(i+1)=m:=by omega
    rw [e0] at hw ⊢
    have hL:es.length*s=i*s+(m*s+s):=by rw [hm,Nat.add_mul,Nat.add_mul,Nat.one_mul]
    have hJ:(i+1)*s=i*s+s:=by rw [Nat.add_mul,Nat.one_mul]
    have hO:(i+m)*s=i*s+m*s:=Nat.add_mul _ _ _
    have hnl:(cs.drop ((i+1)*s)).length=m*s:=by rw [List.length_drop,hcs,hL,hJ]; omega
    obtain ⟨C1,hC1,hw1,ho1,hk1⟩:=setCells_heap b (cs.drop ((i+1)*s)) (off+i*s) w.drew C ty fr hb (by rw [hnl]; omega)
    have hs1:C1.size=C.size:=by
     have:C1.toList.length=C.toList.length:=by rw [hC1,len_lay _ _ _ (by rw [hnl,Array.length_toList]; omega)]
     simpa using this
    obtain ⟨C2,hC2,hw2,ho2,hk2⟩:=setCells_heap b zs (off+(i+m)*s) _ C1 ty fr hw1 (by rw [hs1,hO,hz]; omega)
    have hs2:C2.size=C.size:=by
     have:C2.toList.length=C1.toList.length:=by rw [hC2,len_lay _ _ _ (by rw [hz,Array.length_toList,hs1,hO]; omega)]
     rw [← hs1]; simpa using this
    rw [← hw] at hw2 ho2 hk2
    have hes2:∀ r ∈ es.eraseIdx i,r.length=s:=fun r hr=>hs r (List.mem_of_mem_eraseIdx hr)
    have hel:(es.eraseIdx i).length=i+m:=by rw [List.length_eraseIdx,if_pos hi]; omega
    have efl:es.flatten=(es.take i).flatten++((es[i]::es.drop (i+1)).flatten):=by
     rw [← List.flatten_append,← List.drop_eq_getElem_cons hi,List.take_append_drop]
    have efe:(es.eraseIdx i).flatten=(es.take i).flatten++(es.drop (i+1)).flatten:=by
     rw [List.eraseIdx_eq_take_drop_succ,List.flatten_append]
    have l1:(es.take i).flatten.length=i*s:=by rw [flat_len _ (fun e he=>hs e (List.mem_of_mem_take he)),List.length_take,Nat.min_eq_left (by omega)]
    have l2:(es[i]).length=s:=hs _ (List.getElem_mem hi)
    have ecs:cs=cs.take (i*s)++((cs.drop (i*s)).take s++cs.drop ((i+1)*s)):=by
     rw [hJ,← List.drop_drop,List.take_append_drop,List.take_append_drop]
    rw [ecs,efl,List.flatten_cons] at hrow
    obtain ⟨A1,B1,r1,r2,eA⟩:=Row.split (cs.take (i*s)) _ (by rw [l1,List.length_take,hcs,hL]; omega) hrow
    obtain ⟨A2,A3,r2,r3,eB⟩:=Row.split ((cs.drop (i*s)).take s) _ (by rw [l2,List.length_take,List.length_drop,hcs,hL]; omega) r2
    have hF1:∀ x,F1 x≤1:=fun x=>by have:=h1 x; have:=hF x; omega
    have hA:∀ x,A1 x+A3 x≠0→x≠b:=fun x hx e=>by subst e; have:=hF1 x; have:=hG x; have:=eA x; have:=eB x; simp at *; omega
    have hsame:∀ x,x≠b→w'.heap[x]?=w.heap[x]?:=fun x hx=>(ho2 x hx).trans (ho1 x hx)
    have rnew:Row w' true (fun x=>A1 x+A3 x) (cs.take (i*s)++cs.drop ((i+1)*s)) (es.eraseIdx i).flatten:=by
     rw [efe]
     exact (Row.append r1 r3 (fun _=>rfl)).same (fun x hx=>hsame x (hA x hx))
    have hcl:(cs.take (i*s)++cs.drop ((i+1)*s)).length=(es.eraseIdx i).length*s:=by
     rw [List.length_append,hnl,List.length_take,hcs,hL,hel,hO]; omega
    have hnew:Row w' true (fun x=>(if x=b then 1 else 0)+(A1 x+A3 x)) [.slice (some ⟨b,off,none⟩) (i+m) cap] [.sl s (es.eraseIdx i)]:=by
     refine Row.of_sl (F1:=fun x=>A1 x+A3 x) hel.symm hw2 (by rw [hs2]; exact hfr) (by rw [hs2]; exact hcap) (by omega) hes2 hcl ?_ rnew (fun _=>rfl)
     intro k hk
     rw [hcl,hel,hO] at hk
     have g2:C2[off+k]?=C1[off+k]?:=by
      rw [← Array.getElem?_toList,← Array.getElem?_toList,hC2,lay,List.append_assoc,List.getElem?_append_left (by rw [List.length_take,Array.length_toList,hs1,hO]; omega),List.getElem?_take,if_pos (by rw [hO]; omega)]
     rw [g2,← Array.getElem?_toList,hC1,lay,List.append_assoc]
     have hct:(C.toList.take (off+i*s)).length=off+i*s:=by rw [List.length_take,Array.length_toList]; omega
     by_cases hki:k<i*s
     ·rw [List.getElem?_append_left (by omega),List.getElem?_take,if_pos (by omega),Array.getElem?_toList,hc k (by rw [hcs]; omega),List.getElem?_append_left (by rw [List.length_take,hcs,hL]; omega),List.getElem?_take,if_pos hki]
     ·rw [List.getElem?_append_right (by omega),hct,List.getElem?_append_left (by rw [hnl]; omega),List.getElem?_append_right (by rw [List.length_take]; omega),List.length_take,hcs,Nat.min_eq_left (by omega)]
      congr 1
      omega
    have hle2:∀ x,(if x=b then 1 else 0)+(A1 x+A3 x)≤F x:=fun x=>by have:=hF x; have:=hG x; have:=eA x; have:=eB x; omega
    have hbF:F b≠0:=by have:=hF b; have:=hG b; simp at this; omega
    have hsz:w'.heap.size=w.heap.size:=hk2.size.trans hk1.size
    refine ⟨_,fun x=>(if x=b then 1 else 0)+(A1 x+A3 x),X,rfl,?_,fun x=>by have:=hle2 x; have:=h1 x; (try dsimp only); omega,fun x=>?_,⟨by rw [hsz]; exact Nat.le_refl _,⟨hk2.quiet.os.trans hk1.quiet.os,hk2.quiet.out.trans hk1.quiet.out⟩⟩,fun x _ h0=>hsame x (fun e=>hbF (e ▸ h0)),fun x hx=>.inl (by have:=hle2 x; (try dsimp only at hx); omega),fun x hx=>⟨.inl hx,by rw [hsz]; exact h3 x hx⟩⟩
    ·exact .own _ (fun x=>(if x=b then 1 else 0)+(A1 x+A3 x)) (fun _=>0) X s _ _ _ _ hnew (.undef _ _ _ _ _ (.undef _ _ _ _ _ (.undef _ _ _ _ _ (.nil _ _ (fun _=>rfl) hX)))) (fun x=>by simp)
    ·have:=hle2 x; have:=h2 x; (try dsimp only); omega
set_option maxHeartbeats 4000000 in
open Nat (reduceEqDiff reduceAdd reduceMul reduceSub)
open Int (reduceNeg reduceToNat reducePow)
set_option maxRecDepth 1000000 in
theorem run_Delete_Vol {blk off len cap i j:Nat} {cs:List Value} {w:World} (hcs:cs.length=len*6) (hc:∀ t u,cs[t]?=some u→w.cell? ⟨blk,off+t,none⟩=some u)
  (hfz:∀ t,t<len*6→w.frozen? ⟨blk,off+t,none⟩=false) (h1:∀ u ∈ cs,u.oneCell'=true) (hlen:len≤cap) (hi:i<len) (hji:j=i+1) :
  Calls Tryz.prog 44 #[.slice (some ⟨blk,off,none⟩) len cap,.int .i64 i,.int .i64 j] w fun e w'=>e=.returned (.slice (some ⟨blk,off,none⟩) (i+(len-j)) cap) ∧
   w'=(w.drew.setCells blk (off+i*6) (cs.drop (j*6))).setCells blk (off+(i+(len-j))*6) [.int .i64 0,.string { data:=#[] },.bool false,.int .i64 0,.slice none 0 0,.int .i64 0]:=by
 have mixed:Tryz.prog.follows .mixedOrders=true:=by kernel_rfl
 have t0:=Tryz.underlying0
 have a0:=Tryz.isAgg0
 have z0:=Tryz.sizeOf0
 have v0:=Tryz.zeroValue0
 have t3:=Tryz.underlying3
 have a3:=Tryz.isAgg3
 have z3:=Tryz.sizeOf3
 have v3:=Tryz.zeroValue3
 have t4:=Tryz.underlying4
 have a4:=Tryz.isAgg4
 have z4:=Tryz.sizeOf4
 have v4:=Tryz.zeroValue4
 have t26:=Tryz.underlying26
 have a26:=Tryz.isAgg26
 have z26:=Tryz.sizeOf26
 have v26:=Tryz.zeroValue26
 have v51:=Tryz.zeroValue51
 have iE:(Tryz.prog.info? 51).map (fun i=>(i.zero,i.size,i.bytes))=some (some (.agg #[.int .i64 0,.string { data:=#[] },.bool false,.int .i64 0,.slice none 0 0,.int .i64 0]),6,72):=by kernel_rfl
 obtain ⟨i0,hi0,hz0,hz1,hz2⟩:=info_parts iE
 obtain ⟨news,hnews⟩:∃ news,news=cs.drop (j*6):=⟨_,rfl⟩
 have hnl:news.length=(len-j)*6:=by rw [hnews,List.length_drop,hcs]; omega
 have hget:∀ (t:Nat) (u:Value),news[t]?=some u→w.cell? ⟨blk,off+(j*6+t),none⟩=some u:=by
  intro t u h
  rw [hnews,List.getElem?_drop] at h
  exact hc _ u h
 obtain ⟨A,hA,hsrc⟩:∃ A:Addr,(if cap=j then some (⟨blk,off,none⟩:Addr) else some ⟨blk,off+j*6,none⟩)=some A∧Hid (∀ t u,news[t]?=some u→w.drew.cell? (A.add t)=some u):=by
  by_cases h:cap=j
  ·refine ⟨⟨blk,off,none⟩,by simp [h],fun t u hu=>?_⟩
   have h0:news.length=0:=by rw [hnl]; omega
   rw [List.length_eq_zero_iff.1 h0] at hu
   simp at hu
  ·refine ⟨⟨blk,off+j*6,none⟩,by simp [h],fun t u hu=>?_⟩
   rw [Addr.add_lit,Nat.add_assoc]
   exact hget t u hu
 have s1:Hid (news.length=(len-j)*6):=hnl
 have s2:Hid (∀ u ∈ news,u.oneCell'=true):=fun u hu=>h1 u (by rw [hnews] at hu; exact List.mem_of_mem_drop hu)
 have hcell:∀ t,t<len*6→(w.cell? ⟨blk,off+t,none⟩).isSome=true:=by
  intro t ht
  rw [hc t _ (List.getElem?_eq_getElem (by omega))]; rfl
 have s3:Hid (∀ t,t<news.length→(w.drew.cell? ⟨blk,off+i*6+t,none⟩).isSome=true∧w.drew.frozen? ⟨blk,off+i*6+t,none⟩=false):=by
  intro t ht
  rw [hnl] at ht
  rw [Nat.add_assoc]
  exact ⟨hcell _ (by omega),hfz _ (by omega)⟩
 obtain ⟨W1,hW1⟩:∃ W1,W1=w.drew.setCells blk (off+i*6) news:=⟨_,rfl⟩
 have hkeep:∀ t,t<len*6→(W1.cell? ⟨blk,off+t,none⟩).isSome=true∧W1.frozen? ⟨blk,off+t,none⟩=false:=by
  intro t ht
  rw [hW1]
  exact ⟨World.isSome_setCells _ _ _ _ _ (hcell t ht),by rw [World.frozen?_setCells]; exact hfz t ht⟩
 have hcl:∀ ty,(Builtin.clear_ #[26] ty #[.slice (some ⟨blk,off+(i+(len-j))*6,none⟩) (len-(i+(len-j))) (cap-(i+(len-j)))]).run Tryz.prog W1=.ok (.tuple #[]) (W1.setCells blk (off+(i+(len-j))*6) [.int .i64 0,.string { data:=#[] },.bool false,.int .i64 0,.slice none 0 0,.int .i64 0]):=by
  intro ty
  rw [show len-(i+(len-j))=1 by omega]
  exact run_clear_row W1 26 51 ty _ t26 v51 blk _ _ (by decide) (fun k hk=>by
   have hk6:k<6:=hk
   rw [Nat.add_assoc]; exact (hkeep _ (by omega)).1) (fun k hk=>by
   have hk6:k<6:=hk
   rw [Nat.add_assoc]; exact (hkeep _ (by omega)).2) (by decide)
 have hW:Hid (W1=w.drew.setCells blk (off+i*6) news):=hW1
 have hic:i≤cap:=by omega
 have hjc:j≤cap:=by omega
 have hij:i≤j:=by omega
 have hjl:j≤len:=by omega
 have hlt:i<j:=by omega
 rw [← hnews]
 clear hcs hc hfz h1 hget hcell hnl hkeep hW1 hnews hji
 go_enter Tryz.func44,Tryz.ntmps44
 go_wp2_with fail
 go_region_law_o (refine step_append_room rfl (.tmp 22) (.tmp 25) 26 rfl 51 i0 6 t26 hi0 hz1 blk off i cap (by simp [Act.eval,Act.put]) A (len-j) (cap-j) news (by simp [Act.eval,Act.put]) s1.out hsrc.out s2.out (by omega) s3.out ?_; rw [← hW.out])
 go_wp2
 go_ret
 exact ⟨rfl,by rw [hW.out]⟩
theorem s_Delete_Vol (l:List Vol) (i:Nat) (hi:i<l.length):Spec Tryz.prog 44 [.own 6 (l.map Vol.row),.int .i64 i,.int .i64 ((i:Int)+1)] (.own 6 ((l.eraseIdx i).map Vol.row)) [.undef,.undef,.undef]:=by
 have hr6:∀ r ∈ l.map Vol.row,r.length=6:=fun r hr=>by obtain ⟨x,_,rfl⟩:=List.mem_map.1 hr; rfl
 have hkn:(l.map Vol.row).flatten.all knownT=true:=by
  rw [List.all_eq_true]
  intro t ht
  obtain ⟨r,hr,ht⟩:=List.mem_flatten.1 ht
  obtain ⟨x,_,rfl⟩:=List.mem_map.1 hr
  exact List.all_eq_true.1 (show (Vol.row x).all knownT=true from rfl) t ht
 have hl:(l.map Vol.row).length=l.length:=List.length_map _
 rw [show (l.eraseIdx i).map Vol.row=(l.map Vol.row).eraseIdx i by simp [List.eraseIdx_eq_take_drop_succ]]
 generalize l.map Vol.row=es at *
 refine del_spec (s:=6) ⟨_,Tryz.func44,by kernel_rfl,by kernel_rfl⟩ hr6 hkn (by omega) [.int .i64 0,.string { data:=#[] },.bool false,.int .i64 0,.slice none 0 0,.int .i64 0] rfl fun w blk off cap cs hcs hc hfz h1 hle=>?_
 have:=run_Delete_Vol (j:=i+1) hcs hc hfz h1 hle (by omega) rfl
 exact this
end Go.Proofs.YtjmnolhflcjpgaaGreat.Awp
namespace Go.Proofs.YtjmnolhflcjpgaaGreat.Awp
open Go.Proofs
set_option linter.unusedSimpArgs false
set_option linter.unusedVariables false
open Nat (reduceEqDiff reduceAdd reduceMul reduceSub)
open Int (reduceNeg reduceToNat reducePow)
set_option maxRecDepth 100000
set_option maxHeartbeats 20000000
def cutF (f:Fs) (k:Nat):Fs:={ vols:=f.vols.eraseIdx k,next:=f.next }
def dropVol (f:Fs) (i:Int):Fs × Int:=
 if fsB f=true then match volAt f i with
  | none=>(f,2)
  | some k=>(cutF f k,0)
 else (f,1)
theorem sI_DropVol (f:Fs) (i:Int) (h:f.sz<2^40):Spec Tryz.prog 18 [f.x,.int .i64 i] (.tup [(dropVol f i).1.o,.int .i64 (dropVol f i).2]) [.undef,.undef]:=by
 obtain ⟨h1,h2⟩:=fs_sz h
 have hV:=sI_VolAt f i (by omega)
 have hF:=sI_FsOk f h
 rcases bcase (fsB f) with e1 | e1
 ·rw [e1] at hF
  rw [dropVol,if_neg (by simp [e1])]
  refine spec_c hmx p_I_DropVol [(44,[.m,.b,.b],[])] 119 [] ⟨Nat.le_of_ble_eq_true rfl,Nat.le_of_ble_eq_true rfl⟩ rfl rfl ?_
  intro w hP hQ
  unfold c_I_DropVol
  simp +decide (maxSteps:=9^9) (disch:=omega) only[↓SB0,SX,seval,hQ]
  (first|refine cI hP (sI_copyFs f h) rfl rfl ?_|refine cH hP (sI_copyFs f h) rfl rfl ?_)
  simp +decide (maxSteps:=9^9) (disch:=omega) only[↓SB0,SX,seval,hQ]
  (first|refine cI hP (hF) rfl rfl ?_|refine cH hP (hF) rfl rfl ?_)
  simp +decide (maxSteps:=9^9) (disch:=omega) only[↓SB0,SX,seval,hQ]
 rw [e1] at hF
 rw [dropVol,if_pos e1]
 cases e3:volAt f i with
 | none=>
  rw [e3] at hV
  refine spec_c hmx p_I_DropVol [(44,[.m,.b,.b],[])] 119 [] ⟨Nat.le_of_ble_eq_true rfl,Nat.le_of_ble_eq_true rfl⟩ rfl rfl ?_
  intro w hP hQ
  unfold c_I_DropVol
  simp +decide (maxSteps:=9^9) (disch:=omega) only[↓SB0,SX,seval,hQ]
  (first|refine cI hP (sI_copyFs f h) rfl rfl ?_|refine cH hP (sI_copyFs f h) rfl rfl ?_)
  simp +decide (maxSteps:=9^9) (disch:=omega) only[↓SB0,SX,seval,hQ]
  (first|refine cI hP (hF) rfl rfl ?_|refine cH hP (hF) rfl rfl ?_)
  simp +decide (maxSteps:=9^9) (disch:=omega) only[↓SB0,SX,seval,hQ]
  (first|refine cI hP (hV) rfl rfl ?_|refine cH hP (hV) rfl rfl ?_)
  simp +decide (maxSteps:=9^9) (disch:=omega) only[↓SB0,SX,seval,hQ]
 | some k=>
  have hk:=volAt_lt e3
  rw [e3,show idxI (some k)=(k:Int) from rfl] at hV
  refine spec_c hmx p_I_DropVol [(44,[.m,.b,.b],[])] 119 [] ⟨Nat.le_of_ble_eq_true rfl,Nat.le_of_ble_eq_true rfl⟩ rfl rfl ?_
  intro w hP hQ
  unfold c_I_DropVol
  simp +decide (maxSteps:=9^9) (disch:=omega) only[↓SB0,SX,seval,hQ]
  (first|refine cI hP (sI_copyFs f h) rfl rfl ?_|refine cH hP (sI_copyFs f h) rfl rfl ?_)
  simp +decide (maxSteps:=9^9) (disch:=omega) only[↓SB0,SX,seval,hQ]
  (first|refine cI hP (hF) rfl rfl ?_|refine cH hP (hF) rfl rfl ?_)
  simp +decide (maxSteps:=9^9) (disch:=omega) only[↓SB0,SX,seval,hQ]
  (first|refine cI hP (hV) rfl rfl ?_|refine cH hP (hV) rfl rfl ?_)
  simp +decide (maxSteps:=9^9) (disch:=omega) only[↓SB0,SX,seval,hQ]
  (first | with_reducible refine if_d _ ?_ ?_ | refine if_i _ ?_ ?_) <;> intro hx
  ·exfalso; omega
  simp +decide (maxSteps:=9^9) (disch:=omega) only[↓SB0,SX,seval,hQ]
  (first|refine cI hP (s_Delete_Vol f.vols k hk) rfl rfl ?_|refine cH hP (s_Delete_Vol f.vols k hk) rfl rfl ?_)
  simp +decide (maxSteps:=9^9) (disch:=omega) only[↓SB0,SX,seval,hQ]
  rfl
theorem known_vols (l:List Vol):knownR (l.map Vol.row)=true:=by
 rw [knownR,List.all_eq_true]
 intro r hr
 obtain ⟨x,_,rfl⟩:=List.mem_map.1 hr
 rfl
theorem flat_vols {l:List Vol} (h:l≠[]):flatR (l.map Vol.row)=false:=by
 cases l with
 | nil=>exact absurd rfl h
 | cons v l=>simp [flatR,Vol.row,flatT]
theorem sS_DropVol (f:Fs) (i:Int) (h:f.sz<2^40):Spec Tryz.prog 17 [f.x,.int .i64 i] (.tup [(dropVol f i).1.o,.int .i64 (dropVol f i).2]) [.undef,.undef]:=by
 obtain ⟨h1,h2⟩:=fs_sz h
 have hV:=sS_VolAt f i (by omega)
 have hF:=sS_FsOk f h
 rcases bcase (fsB f) with e1 | e1
 ·rw [e1] at hF
  rw [dropVol,if_neg (by simp [e1])]
  refine spec_c hmx p_S_DropVol [(999998,[],[(0,0)])] 5357543035931336604742125245300009052807024058527668037218751941851755255624680612465991894078479290637973364587765734125935726428461570217992288787349287401967283887412115492710537302531185570938977091076523237491790970633699383779582771973038531457285598238843271083830214915826312193418602834034935 [] ⟨Nat.le_of_ble_eq_true rfl,Nat.le_of_ble_eq_true rfl⟩ rfl rfl ?_
  intro w hP hQ
  unfold c_S_DropVol
  simp +decide (maxSteps:=9^9) (disch:=omega) only[↓SB0,SX,seval,hQ]
  (first|refine cI hP (sS_l8Copy f h) rfl rfl ?_|refine cH hP (sS_l8Copy f h) rfl rfl ?_)
  simp +decide (maxSteps:=9^9) (disch:=omega) only[↓SB0,SX,seval,hQ]
  (first|refine cI hP (hV) rfl rfl ?_|refine cH hP (hV) rfl rfl ?_)
  simp +decide (maxSteps:=9^9) (disch:=omega) only[↓SB0,SX,seval,hQ]
  (first|refine cI hP (hF) rfl rfl ?_|refine cH hP (hF) rfl rfl ?_)
  simp +decide (maxSteps:=9^9) (disch:=omega) only[↓SB0,SX,seval,hQ]
 rw [e1] at hF
 rw [dropVol,if_pos e1]
 cases e3:volAt f i with
 | none=>
  rw [e3] at hV
  refine spec_c hmx p_S_DropVol [(999998,[],[(0,0)])] 5357543035931336604742125245300009052807024058527668037218751941851755255624680612465991894078479290637973364587765734125935726428461570217992288787349287401967283887412115492710537302531185570938977091076523237491790970633699383779582771973038531457285598238843271083830214915826312193418602834034935 [] ⟨Nat.le_of_ble_eq_true rfl,Nat.le_of_ble_eq_true rfl⟩ rfl rfl ?_
  intro w hP hQ
  unfold c_S_DropVol
  simp +decide (maxSteps:=9^9) (disch:=omega) only[↓SB0,SX,seval,hQ]
  (first|refine cI hP (sS_l8Copy f h) rfl rfl ?_|refine cH hP (sS_l8Copy f h) rfl rfl ?_)
  simp +decide (maxSteps:=9^9) (disch:=omega) only[↓SB0,SX,seval,hQ]
  (first|refine cI hP (hV) rfl rfl ?_|refine cH hP (hV) rfl rfl ?_)
  simp +decide (maxSteps:=9^9) (disch:=omega) only[↓SB0,SX,seval,hQ]
  (first|refine cI hP (hF) rfl rfl ?_|refine cH hP (hF) rfl rfl ?_)
  simp +decide (maxSteps:=9^9) (disch:=omega) only[↓SB0,SX,seval,hQ]
 | some q=>
  have hq:=volAt_lt e3
  rw [e3,show idxI (some q)=(q:Int) from rfl] at hV
  refine spec_c hmx p_S_DropVol [(999998,[],[(0,0)])] 5357543035931336604742125245300009052807024058527668037218751941851755255624680612465991894078479290637973364587765734125935726428461570217992288787349287401967283887412115492710537302531185570938977091076523237491790970633699383779582771973038531457285598238843271083830214915826312193418602834034935 [] ⟨Nat.le_of_ble_eq_true rfl,Nat.le_of_ble_eq_true rfl⟩ rfl rfl ?_
  intro w hP hQ
  unfold c_S_DropVol
  simp +decide (maxSteps:=9^9) (disch:=omega) only[↓SB0,SX,seval,hQ]
  (first|refine cI hP (sS_l8Copy f h) rfl rfl ?_|refine cH hP (sS_l8Copy f h) rfl rfl ?_)
  simp +decide (maxSteps:=9^9) (disch:=omega) only[↓SB0,SX,seval,hQ]
  (first|refine cI hP (hV) rfl rfl ?_|refine cH hP (hV) rfl rfl ?_)
  simp +decide (maxSteps:=9^9) (disch:=omega) only[↓SB0,SX,seval,hQ]
  (first|refine cI hP (hF) rfl rfl ?_|refine cH hP (hF) rfl rfl ?_)
  simp +decide (maxSteps:=9^9) (disch:=omega) only[↓SB0,SX,seval,hQ]
  (first | with_reducible refine if_d _ ?_ ?_ | refine if_i _ ?_ ?_) <;> intro hx
  ·exfalso; omega
  simp +decide (maxSteps:=9^9) (disch:=omega) only[↓SB0,SX,seval,hQ]
  have n1:((q:Int)-0).toNat=q:=by omega
  have kn1:knownR ((f.vols.map Vol.row).take q)=true:=by rw [← List.map_take]; exact known_vols _
  have n2:((q:Int)+1).toNat=q+1:=by omega
  have n3:((f.vols.length:Int)-((q:Int)+1)).toNat=f.vols.length-(q+1):=by omega
  have tk:((f.vols.map Vol.row).drop (q+1)).take (f.vols.length-(q+1))=(f.vols.map Vol.row).drop (q+1):=by
   rw [List.take_of_length_le]; simp
  have kn2:knownR ((f.vols.map Vol.row).drop (q+1))=true:=by rw [← List.map_drop]; exact known_vols _
  have ret:(f.vols.map Vol.row).take q++(f.vols.map Vol.row).drop (q+1)=(f.vols.eraseIdx q).map Vol.row:=by
   rw [List.eraseIdx_eq_take_drop_succ,List.map_append,List.map_take,List.map_drop]
  by_cases hk0:q=0
  ·subst hk0
   have n4:((f.vols.length:Int)-1).toNat=f.vols.length-1:=by omega
   have fl1:flatR ((f.vols.map Vol.row).take 0)=true:=rfl
   rw [Nat.zero_add] at tk kn2 ret
   rw [List.take_zero,List.nil_append] at ret
   by_cases hl1:f.vols.length=1
   ·have fl2:flatR ((f.vols.map Vol.row).drop 1)=true:=by
     rw [List.drop_of_length_le (by simp [hl1])]; rfl
    refine rs_i (by rw [hQ.2.1]; rfl) rfl (.node 5 6 (.tr 5 6 7 (.tr 5 7 10 (.leaf [0,1,2,3,4,5,6,7,8,9,10,11,12,13]))) (.node 5 7 (.tr 5 7 10 (.leaf [0,1,2,3,4,6,5,7,8,9,10,11,12,13])) (.node 5 10 (.leaf [0,1,2,3,4,6,7,5,8,9,10,11,12,13]) (.leaf [0,1,2,3,4,6,7,8,9,10,5,11,12,13])))) ⟨by decide,⟨rfl,⟨rfl,fam_leaf (is':=[n 22 (.bsl 22 6 []),n 23 (.fld 23 (v 6) 0),n 24 (.ld 24 (v 23) 1 false),n 25 (.mov 25 (v 7)),n 26 (.slc 26 (v 24) none (some (v 25)) 6),n 27 (.app 27 (v 22) (v 26) 6 72),n 28 (.fld 28 (v 6) 0),n 29 (.ld 29 (v 28) 1 false),n 30 (.mov 30 (v 7)),n 31 (.bin 31 .add (v 30) (k 1)),n 32 (.slc 32 (v 29) (some (v 31)) none 6),n 33 (.app 33 (v 27) (v 32) 6 72),n 34 (.fld 34 (v 6) 0),m (.st (v 34) (v 33) 1)]) [0,0,2,0,14,31,32,96,0,256,992,2047,4095,8191] rfl rfl rfl ?_⟩⟩,⟨by decide,⟨rfl,fam_leaf (is':=[n 22 (.bsl 22 6 []),n 23 (.fld 23 (v 6) 0),n 24 (.ld 24 (v 23) 1 false),n 25 (.mov 25 (v 7)),n 26 (.slc 26 (v 24) none (some (v 25)) 6),n 28 (.fld 28 (v 6) 0),n 27 (.app 27 (v 22) (v 26) 6 72),n 29 (.ld 29 (v 28) 1 false),n 30 (.mov 30 (v 7)),n 31 (.bin 31 .add (v 30) (k 1)),n 32 (.slc 32 (v 29) (some (v 31)) none 6),n 33 (.app 33 (v 27) (v 32) 6 72),n 34 (.fld 34 (v 6) 0),m (.st (v 34) (v 33) 1)]) [0,0,2,0,14,0,63,96,0,256,992,2047,4095,8191] rfl rfl rfl ?_⟩,⟨by decide,fam_leaf (is':=[n 22 (.bsl 22 6 []),n 23 (.fld 23 (v 6) 0),n 24 (.ld 24 (v 23) 1 false),n 25 (.mov 25 (v 7)),n 26 (.slc 26 (v 24) none (some (v 25)) 6),n 28 (.fld 28 (v 6) 0),n 29 (.ld 29 (v 28) 1 false),n 27 (.app 27 (v 22) (v 26) 6 72),n 30 (.mov 30 (v 7)),n 31 (.bin 31 .add (v 30) (k 1)),n 32 (.slc 32 (v 29) (some (v 31)) none 6),n 33 (.app 33 (v 27) (v 32) 6 72),n 34 (.fld 34 (v 6) 0),m (.st (v 34) (v 33) 1)]) [0,0,2,0,14,0,32,127,0,256,992,2047,4095,8191] rfl rfl rfl ?_,fam_leaf (is':=[n 22 (.bsl 22 6 []),n 23 (.fld 23 (v 6) 0),n 24 (.ld 24 (v 23) 1 false),n 25 (.mov 25 (v 7)),n 26 (.slc 26 (v 24) none (some (v 25)) 6),n 28 (.fld 28 (v 6) 0),n 29 (.ld 29 (v 28) 1 false),n 30 (.mov 30 (v 7)),n 31 (.bin 31 .add (v 30) (k 1)),n 32 (.slc 32 (v 29) (some (v 31)) none 6),n 27 (.app 27 (v 22) (v 26) 6 72),n 33 (.app 33 (v 27) (v 32) 6 72),n 34 (.fld 34 (v 6) 0),m (.st (v 34) (v 33) 1)]) [0,0,2,0,14,0,32,0,128,480,639,2047,4095,8191] rfl rfl rfl ?_⟩⟩⟩
    all_goals (simp +decide (maxSteps:=9^9) (disch:=omega) only[↓SB0,SX,seval,hQ,n1,kn1,fl1,n4,tk,kn2,fl2])
    all_goals (rw [ret]; rfl)
   ·have fl2:flatR ((f.vols.map Vol.row).drop 1)=false:=by
     rw [← List.map_drop]; exact flat_vols (fun e=>by have:=congrArg List.length e; simp at this; omega)
    refine rs_i (by rw [hQ.2.1]; rfl) rfl (.node 5 6 (.tr 5 6 7 (.tr 5 7 10 (.leaf [0,1,2,3,4,5,6,7,8,9,10,11,12,13]))) (.node 5 7 (.tr 5 7 10 (.leaf [0,1,2,3,4,6,5,7,8,9,10,11,12,13])) (.node 5 10 (.leaf [0,1,2,3,4,6,7,5,8,9,10,11,12,13]) (.leaf [0,1,2,3,4,6,7,8,9,10,5,11,12,13])))) ⟨by decide,⟨rfl,⟨rfl,fam_leaf (is':=[n 22 (.bsl 22 6 []),n 23 (.fld 23 (v 6) 0),n 24 (.ld 24 (v 23) 1 false),n 25 (.mov 25 (v 7)),n 26 (.slc 26 (v 24) none (some (v 25)) 6),n 27 (.app 27 (v 22) (v 26) 6 72),n 28 (.fld 28 (v 6) 0),n 29 (.ld 29 (v 28) 1 false),n 30 (.mov 30 (v 7)),n 31 (.bin 31 .add (v 30) (k 1)),n 32 (.slc 32 (v 29) (some (v 31)) none 6),n 33 (.app 33 (v 27) (v 32) 6 72),n 34 (.fld 34 (v 6) 0),m (.st (v 34) (v 33) 1)]) [0,0,2,0,14,31,32,96,0,256,992,2047,4095,8191] rfl rfl rfl ?_⟩⟩,⟨by decide,⟨rfl,fam_leaf (is':=[n 22 (.bsl 22 6 []),n 23 (.fld 23 (v 6) 0),n 24 (.ld 24 (v 23) 1 false),n 25 (.mov 25 (v 7)),n 26 (.slc 26 (v 24) none (some (v 25)) 6),n 28 (.fld 28 (v 6) 0),n 27 (.app 27 (v 22) (v 26) 6 72),n 29 (.ld 29 (v 28) 1 false),n 30 (.mov 30 (v 7)),n 31 (.bin 31 .add (v 30) (k 1)),n 32 (.slc 32 (v 29) (some (v 31)) none 6),n 33 (.app 33 (v 27) (v 32) 6 72),n 34 (.fld 34 (v 6) 0),m (.st (v 34) (v 33) 1)]) [0,0,2,0,14,0,63,96,0,256,992,2047,4095,8191] rfl rfl rfl ?_⟩,⟨by decide,fam_leaf (is':=[n 22 (.bsl 22 6 []),n 23 (.fld 23 (v 6) 0),n 24 (.ld 24 (v 23) 1 false),n 25 (.mov 25 (v 7)),n 26 (.slc 26 (v 24) none (some (v 25)) 6),n 28 (.fld 28 (v 6) 0),n 29 (.ld 29 (v 28) 1 false),n 27 (.app 27 (v 22) (v 26) 6 72),n 30 (.mov 30 (v 7)),n 31 (.bin 31 .add (v 30) (k 1)),n 32 (.slc 32 (v 29) (some (v 31)) none 6),n 33 (.app 33 (v 27) (v 32) 6 72),n 34 (.fld 34 (v 6) 0),m (.st (v 34) (v 33) 1)]) [0,0,2,0,14,0,32,127,0,256,992,2047,4095,8191] rfl rfl rfl ?_,fam_leaf (is':=[n 22 (.bsl 22 6 []),n 23 (.fld 23 (v 6) 0),n 24 (.ld 24 (v 23) 1 false),n 25 (.mov 25 (v 7)),n 26 (.slc 26 (v 24) none (some (v 25)) 6),n 28 (.fld 28 (v 6) 0),n 29 (.ld 29 (v 28) 1 false),n 30 (.mov 30 (v 7)),n 31 (.bin 31 .add (v 30) (k 1)),n 32 (.slc 32 (v 29) (some (v 31)) none 6),n 27 (.app 27 (v 22) (v 26) 6 72),n 33 (.app 33 (v 27) (v 32) 6 72),n 34 (.fld 34 (v 6) 0),m (.st (v 34) (v 33) 1)]) [0,0,2,0,14,0,32,0,128,480,639,2047,4095,8191] rfl rfl rfl ?_⟩⟩⟩
    all_goals (simp +decide (maxSteps:=9^9) (disch:=omega) only[↓SB0,SX,seval,hQ,n1,kn1,fl1,n4,tk,kn2,fl2])
    all_goals (rw [ret]; rfl)
  ·have fl1:flatR ((f.vols.map Vol.row).take q)=false:=by
    rw [← List.map_take]
    exact flat_vols (fun e=>by
     have:=congrArg List.length e
     rw [List.length_take,Nat.min_eq_left (by omega)] at this
     exact hk0 this)
   have lenT:((f.vols.map Vol.row).take q).length=q:=by simp; omega
   have lenU:(undR ((f.vols.map Vol.row).take q)++(f.vols.map Vol.row).drop (0+q)).length=f.vols.length:=by
    simp [undR]; omega
   have dropU:(undR ((f.vols.map Vol.row).take q)++(f.vols.map Vol.row).drop (0+q)).drop (q+1)=(f.vols.map Vol.row).drop (q+1):=by
    have hu:(undR ((f.vols.map Vol.row).take q)).length=q:=by simp [undR]; omega
    rw [List.drop_append,hu,List.drop_of_length_le (by rw [hu]; omega),List.nil_append,List.drop_drop]
    congr 1; omega
   by_cases hl1:f.vols.length=q+1
   ·have fl2:flatR ((f.vols.map Vol.row).drop (q+1))=true:=by
     rw [List.drop_of_length_le (by simp [hl1])]; rfl
    refine rs_i (by rw [hQ.2.1]; rfl) rfl (.node 5 6 (.tr 5 6 7 (.tr 5 7 10 (.leaf [0,1,2,3,4,5,6,7,8,9,10,11,12,13]))) (.node 5 7 (.tr 5 7 10 (.leaf [0,1,2,3,4,6,5,7,8,9,10,11,12,13])) (.node 5 10 (.leaf [0,1,2,3,4,6,7,5,8,9,10,11,12,13]) (.leaf [0,1,2,3,4,6,7,8,9,10,5,11,12,13])))) ⟨by decide,⟨rfl,⟨rfl,fam_leaf (is':=[n 22 (.bsl 22 6 []),n 23 (.fld 23 (v 6) 0),n 24 (.ld 24 (v 23) 1 false),n 25 (.mov 25 (v 7)),n 26 (.slc 26 (v 24) none (some (v 25)) 6),n 27 (.app 27 (v 22) (v 26) 6 72),n 28 (.fld 28 (v 6) 0),n 29 (.ld 29 (v 28) 1 false),n 30 (.mov 30 (v 7)),n 31 (.bin 31 .add (v 30) (k 1)),n 32 (.slc 32 (v 29) (some (v 31)) none 6),n 33 (.app 33 (v 27) (v 32) 6 72),n 34 (.fld 34 (v 6) 0),m (.st (v 34) (v 33) 1)]) [0,0,2,0,14,31,32,96,0,256,992,2047,4095,8191] rfl rfl rfl ?_⟩⟩,⟨by decide,⟨rfl,fam_leaf (is':=[n 22 (.bsl 22 6 []),n 23 (.fld 23 (v 6) 0),n 24 (.ld 24 (v 23) 1 false),n 25 (.mov 25 (v 7)),n 26 (.slc 26 (v 24) none (some (v 25)) 6),n 28 (.fld 28 (v 6) 0),n 27 (.app 27 (v 22) (v 26) 6 72),n 29 (.ld 29 (v 28) 1 false),n 30 (.mov 30 (v 7)),n 31 (.bin 31 .add (v 30) (k 1)),n 32 (.slc 32 (v 29) (some (v 31)) none 6),n 33 (.app 33 (v 27) (v 32) 6 72),n 34 (.fld 34 (v 6) 0),m (.st (v 34) (v 33) 1)]) [0,0,2,0,14,0,63,96,0,256,992,2047,4095,8191] rfl rfl rfl ?_⟩,⟨by decide,fam_leaf (is':=[n 22 (.bsl 22 6 []),n 23 (.fld 23 (v 6) 0),n 24 (.ld 24 (v 23) 1 false),n 25 (.mov 25 (v 7)),n 26 (.slc 26 (v 24) none (some (v 25)) 6),n 28 (.fld 28 (v 6) 0),n 29 (.ld 29 (v 28) 1 false),n 27 (.app 27 (v 22) (v 26) 6 72),n 30 (.mov 30 (v 7)),n 31 (.bin 31 .add (v 30) (k 1)),n 32 (.slc 32 (v 29) (some (v 31)) none 6),n 33 (.app 33 (v 27) (v 32) 6 72),n 34 (.fld 34 (v 6) 0),m (.st (v 34) (v 33) 1)]) [0,0,2,0,14,0,32,127,0,256,992,2047,4095,8191] rfl rfl rfl ?_,fam_leaf (is':=[n 22 (.bsl 22 6 []),n 23 (.fld 23 (v 6) 0),n 24 (.ld 24 (v 23) 1 false),n 25 (.mov 25 (v 7)),n 26 (.slc 26 (v 24) none (some (v 25)) 6),n 28 (.fld 28 (v 6) 0),n 29 (.ld 29 (v 28) 1 false),n 30 (.mov 30 (v 7)),n 31 (.bin 31 .add (v 30) (k 1)),n 32 (.slc 32 (v 29) (some (v 31)) none 6),n 27 (.app 27 (v 22) (v 26) 6 72),n 33 (.app 33 (v 27) (v 32) 6 72),n 34 (.fld 34 (v 6) 0),m (.st (v 34) (v 33) 1)]) [0,0,2,0,14,0,32,0,128,480,639,2047,4095,8191] rfl rfl rfl ?_⟩⟩⟩
    all_goals (simp +decide (maxSteps:=9^9) (disch:=omega) only[↓SB0,SX,seval,hQ,n1,kn1,fl1,lenT,lenU,n2,n3,dropU,tk,kn2,fl2])
    all_goals (rw [ret]; rfl)
   ·have fl2:flatR ((f.vols.map Vol.row).drop (q+1))=false:=by
     rw [← List.map_drop]; exact flat_vols (fun e=>by have:=congrArg List.length e; simp at this; omega)
    refine rs_i (by rw [hQ.2.1]; rfl) rfl (.node 5 6 (.tr 5 6 7 (.tr 5 7 10 (.leaf [0,1,2,3,4,5,6,7,8,9,10,11,12,13]))) (.node 5 7 (.tr 5 7 10 (.leaf [0,1,2,3,4,6,5,7,8,9,10,11,12,13])) (.node 5 10 (.leaf [0,1,2,3,4,6,7,5,8,9,10,11,12,13]) (.leaf [0,1,2,3,4,6,7,8,9,10,5,11,12,13])))) ⟨by decide,⟨rfl,⟨rfl,fam_leaf (is':=[n 22 (.bsl 22 6 []),n 23 (.fld 23 (v 6) 0),n 24 (.ld 24 (v 23) 1 false),n 25 (.mov 25 (v 7)),n 26 (.slc 26 (v 24) none (some (v 25)) 6),n 27 (.app 27 (v 22) (v 26) 6 72),n 28 (.fld 28 (v 6) 0),n 29 (.ld 29 (v 28) 1 false),n 30 (.mov 30 (v 7)),n 31 (.bin 31 .add (v 30) (k 1)),n 32 (.slc 32 (v 29) (some (v 31)) none 6),n 33 (.app 33 (v 27) (v 32) 6 72),n 34 (.fld 34 (v 6) 0),m (.st (v 34) (v 33) 1)]) [0,0,2,0,14,31,32,96,0,256,992,2047,4095,8191] rfl rfl rfl ?_⟩⟩,⟨by decide,⟨rfl,fam_leaf (is':=[n 22 (.bsl 22 6 []),n 23 (.fld 23 (v 6) 0),n 24 (.ld 24 (v 23) 1 false),n 25 (.mov 25 (v 7)),n 26 (.slc 26 (v 24) none (some (v 25)) 6),n 28 (.fld 28 (v 6) 0),n 27 (.app 27 (v 22) (v 26) 6 72),n 29 (.ld 29 (v 28) 1 false),n 30 (.mov 30 (v 7)),n 31 (.bin 31 .add (v 30) (k 1)),n 32 (.slc 32 (v 29) (some (v 31)) none 6),n 33 (.app 33 (v 27) (v 32) 6 72),n 34 (.fld 34 (v 6) 0),m (.st (v 34) (v 33) 1)]) [0,0,2,0,14,0,63,96,0,256,992,2047,4095,8191] rfl rfl rfl ?_⟩,⟨by decide,fam_leaf (is':=[n 22 (.bsl 22 6 []),n 23 (.fld 23 (v 6) 0),n 24 (.ld 24 (v 23) 1 false),n 25 (.mov 25 (v 7)),n 26 (.slc 26 (v 24) none (some (v 25)) 6),n 28 (.fld 28 (v 6) 0),n 29 (.ld 29 (v 28) 1 false),n 27 (.app 27 (v 22) (v 26) 6 72),n 30 (.mov 30 (v 7)),n 31 (.bin 31 .add (v 30) (k 1)),n 32 (.slc 32 (v 29) (some (v 31)) none 6),n 33 (.app 33 (v 27) (v 32) 6 72),n 34 (.fld 34 (v 6) 0),m (.st (v 34) (v 33) 1)]) [0,0,2,0,14,0,32,127,0,256,992,2047,4095,8191] rfl rfl rfl ?_,fam_leaf (is':=[n 22 (.bsl 22 6 []),n 23 (.fld 23 (v 6) 0),n 24 (.ld 24 (v 23) 1 false),n 25 (.mov 25 (v 7)),n 26 (.slc 26 (v 24) none (some (v 25)) 6),n 28 (.fld 28 (v 6) 0),n 29 (.ld 29 (v 28) 1 false),n 30 (.mov 30 (v 7)),n 31 (.bin 31 .add (v 30) (k 1)),n 32 (.slc 32 (v 29) (some (v 31)) none 6),n 27 (.app 27 (v 22) (v 26) 6 72),n 33 (.app 33 (v 27) (v 32) 6 72),n 34 (.fld 34 (v 6) 0),m (.st (v 34) (v 33) 1)]) [0,0,2,0,14,0,32,0,128,480,639,2047,4095,8191] rfl rfl rfl ?_⟩⟩⟩
    all_goals (simp +decide (maxSteps:=9^9) (disch:=omega) only[↓SB0,SX,seval,hQ,n1,kn1,fl1,lenT,lenU,n2,n3,dropU,tk,kn2,fl2])
    all_goals (rw [ret]; rfl)
end Go.Proofs.YtjmnolhflcjpgaaGreat.Awp
namespace Go.Proofs.YtjmnolhflcjpgaaGreat.Awp
open Go.Proofs
set_option linter.unusedSimpArgs false
set_option linter.unusedVariables false
open Nat (reduceEqDiff reduceAdd reduceMul reduceSub)
open Int (reduceNeg reduceToNat reducePow)
set_option maxRecDepth 100000
set_option maxHeartbeats 20000000
theorem erase_sum {α:Type} (f:α→Nat):∀ (l:List α) (k:Nat),((l.eraseIdx k).map f).sum≤(l.map f).sum:=by
 intro l
 induction l with
 | nil=>intro k; simp
 | cons x l ih=>
  intro k
  cases k with
  | zero=>simp
  | succ k=>simp only [List.eraseIdx_cons_succ,List.map_cons,List.sum_cons]; have:=ih k; omega
theorem cutF_sz (f:Fs) (k:Nat):(cutF f k).sz≤f.sz:=by
 have e1:(cutF f k).sz=(f.vols.eraseIdx k).length+((f.vols.eraseIdx k).map Vol.sz).sum:=rfl
 have e2:f.sz=f.vols.length+(f.vols.map Vol.sz).sum:=rfl
 have h1:=erase_sum Vol.sz f.vols k
 have h2:(f.vols.eraseIdx k).length≤f.vols.length:=List.length_eraseIdx_le _ _
 omega
theorem dropVol_sz (f:Fs) (i:Int):(dropVol f i).1.sz≤f.sz:=by
 unfold dropVol
 split
 ·split
  ·exact Nat.le_refl _
  ·exact cutF_sz _ _
 ·exact Nat.le_refl _
theorem s_FnExactDropVol (r:Fs) (i:Int) (hf:r.fine):Spec Tryz.prog 5 [r.x,.int .i64 i] (.bool true) [.undef,.undef]:=by
 by_cases hz:(1048576:Int)<(r.sz:Nat)
 ·refine spec_c hmx p_L_FnExactDropVol [] 65527 [] ⟨Nat.le_of_ble_eq_true rfl,Nat.le_of_ble_eq_true rfl⟩ rfl rfl ?_
  intro w hP hQ
  unfold c_L_FnExactDropVol
  simp +decide (maxSteps:=9^9) (disch:=omega) only[↓SB0,SX,seval,hQ]
  (first|refine cI hP (s_szFs r 1048576 hf (by omega) (by omega)) rfl rfl ?_|refine cH hP (s_szFs r 1048576 hf (by omega) (by omega)) rfl rfl ?_)
  simp +decide (maxSteps:=9^9) (disch:=omega) only[↓SB0,SX,seval,hQ,szC_lt hz]
 ·have hs:r.sz<2^40:=by omega
  have hS:=sS_DropVol r i hs
  have hI:=sI_DropVol r i hs
  have hs':=dropVol_sz r i
  have c1:=fs_cnt r
  have c2:=fs_cnt (dropVol r i).1
  have g0:decide (1+((r.cntT:Nat):Int)<0)=false:=decide_eq_false (by omega)
  have g1:decide (1+(((dropVol r i).1.cntT:Nat):Int)<0)=false:=decide_eq_false (by omega)
  generalize (dropVol r i).1=D at *
  generalize (dropVol r i).2=E at *
  have hs2:D.sz<2^40:=by omega
  refine spec_c hmx p_L_FnExactDropVol [(13,[.p,.b],[])] 65527 [] ⟨Nat.le_of_ble_eq_true rfl,Nat.le_of_ble_eq_true rfl⟩ rfl rfl ?_
  intro w hP hQ
  unfold c_L_FnExactDropVol
  simp +decide (maxSteps:=9^9) (disch:=omega) only[↓SB0,SX,seval,hQ]
  (first|refine cI hP (s_szFs r 1048576 hf (by omega) (by omega)) rfl rfl ?_|refine cH hP (s_szFs r 1048576 hf (by omega) (by omega)) rfl rfl ?_)
  simp +decide (maxSteps:=9^9) (disch:=omega) only[↓SB0,SX,seval,hQ,szC_ge hz]
  (first | with_reducible refine if_d _ ?_ ?_ | refine if_i _ ?_ ?_) <;> intro h
  ·exfalso; omega
  simp +decide (maxSteps:=9^9) (disch:=omega) only[↓SB0,SX,seval,hQ]
  (first|refine cI hP (s_toFs r hs) rfl rfl ?_|refine cH hP (s_toFs r hs) rfl rfl ?_)
  simp +decide (maxSteps:=9^9) (disch:=omega) only[↓SB0,SX,seval,hQ]
  (first|refine cI hP (hS) rfl rfl ?_|refine cH hP (hS) rfl rfl ?_)
  simp +decide (maxSteps:=9^9) (disch:=omega) only[↓SB0,SX,seval,hQ]
  (first|refine cI hP (s_toFs r hs) rfl rfl ?_|refine cH hP (s_toFs r hs) rfl rfl ?_)
  simp +decide (maxSteps:=9^9) (disch:=omega) only[↓SB0,SX,seval,hQ]
  (first|refine cI hP (hI) rfl rfl ?_|refine cH hP (hI) rfl rfl ?_)
  simp +decide (maxSteps:=9^9) (disch:=omega) only[↓SB0,SX,seval,hQ]
  (first|refine cI hP (eqFs_self D hs2) rfl rfl ?_|refine cH hP (eqFs_self D hs2) rfl rfl ?_)
  simp +decide (maxSteps:=9^9) (disch:=omega) only[↓SB0,SX,seval,hQ]
  (first|refine cI hP (s_toFs r hs) rfl rfl ?_|refine cH hP (s_toFs r hs) rfl rfl ?_)
  simp +decide (maxSteps:=9^9) (disch:=omega) only[↓SB0,SX,seval,hQ]
  (first|refine cI hP (eqFs_self r hs) rfl rfl ?_|refine cH hP (eqFs_self r hs) rfl rfl ?_)
  simp +decide (maxSteps:=9^9) (disch:=omega) only[↓SB0,SX,seval,hQ]
  (first|refine cI hP (s_markFs r 1 (by omega) (by omega)) rfl rfl ?_|refine cH hP (s_markFs r 1 (by omega) (by omega)) rfl rfl ?_)
  simp +decide (maxSteps:=9^9) (disch:=omega) only[↓SB0,SX,seval,hQ,g0]
  (first|refine cI hP (eqFs_self D hs2) rfl rfl ?_|refine cH hP (eqFs_self D hs2) rfl rfl ?_)
  simp +decide (maxSteps:=9^9) (disch:=omega) only[↓SB0,SX,seval,hQ]
  (first|refine cI hP (s_markFs D 1 (by omega) (by omega)) rfl rfl ?_|refine cH hP (s_markFs D 1 (by omega) (by omega)) rfl rfl ?_)
  simp +decide (maxSteps:=9^9) (disch:=omega) only[↓SB0,SX,seval,hQ]
  (first|refine cI hP (s_heldFs D 1 (by omega) (by omega)) rfl rfl ?_|refine cH hP (s_heldFs D 1 (by omega) (by omega)) rfl rfl ?_)
  simp +decide (maxSteps:=9^9) (disch:=omega) only[↓SB0,SX,seval,hQ,g1]
  (first|refine cI hP (s_toFs r hs) rfl rfl ?_|refine cH hP (s_toFs r hs) rfl rfl ?_)
  simp +decide (maxSteps:=9^9) (disch:=omega) only[↓SB0,SX,seval,hQ]
  (first|refine cI hP (hI) rfl rfl ?_|refine cH hP (hI) rfl rfl ?_)
  simp +decide (maxSteps:=9^9) (disch:=omega) only[↓SB0,SX,seval,hQ]
  (first|refine cI hP (eqFs_self D hs2) rfl rfl ?_|refine cH hP (eqFs_self D hs2) rfl rfl ?_)
  simp +decide (maxSteps:=9^9) (disch:=omega) only[↓SB0,SX,seval,hQ]
  (first|refine cI hP (s_heldFs D 1 (by omega) (by omega)) rfl rfl ?_|refine cH hP (s_heldFs D 1 (by omega) (by omega)) rfl rfl ?_)
  simp +decide (maxSteps:=9^9) (disch:=omega) only[↓SB0,SX,seval,hQ,g1]
end Go.Proofs.YtjmnolhflcjpgaaGreat.Awp
namespace Go.Proofs.YtjmnolhflcjpgaaGreat.Awp
open Go.Proofs
set_option linter.unusedSimpArgs false
set_option linter.unusedVariables false
theorem Shp.nil_inv {ts:List TV} (h:Shp [] ts):ts=[]:=by cases h; rfl
theorem Shp.bool_inv {ys:List Ty} {ts:List TV} (h:Shp (.bool::ys) ts):∃ b us,ts=.bool b::us∧Shp ys us:=by cases h with | bool b _ us h=>exact ⟨b,us,rfl,h⟩
theorem Shp.int_inv {k:IntKind} {ys:List Ty} {ts:List TV} (h:Shp (.int k::ys) ts):∃ n us,ts=.int k n::us∧Shp ys us:=by cases h with | int _ n _ us _ h=>exact ⟨n,us,rfl,h⟩
theorem Shp.str_inv {ys:List Ty} {ts:List TV} (h:Shp (.str::ys) ts):∃ s us,ts=.str s::us∧s.length≤2^47∧Shp ys us:=by cases h with | str s _ us hs h=>exact ⟨s,us,rfl,hs,h⟩
theorem Shp.sl_inv {s:Nat} {e ys:List Ty} {ts:List TV} (h:Shp (.sl s e::ys) ts):∃ es us,ts=.sl s es::us∧es.length≤2^47∧(∀ r ∈ es,Shp e r)∧Shp ys us:=by
 cases h with | sl _ _ es _ us hl he h=>exact ⟨es,us,rfl,hl,he,h⟩
theorem rows_ofShp {α:Type} {sh:List Ty} {row:α→List TV} {good:α→Prop} (H:∀ ts,Shp sh ts→∃ x,ts=row x∧good x):∀ {es:List (List TV)},(∀ r ∈ es,Shp sh r)→∃ l:List α,es=l.map row∧∀ x ∈ l,good x:=by
 intro es
 induction es with
 | nil=>intro _; exact ⟨[],rfl,by simp⟩
 | cons r es ih=>
  intro h
  obtain ⟨x,rfl,hx⟩:=H r (h r (by simp))
  obtain ⟨l,rfl,hl⟩:=ih fun r hr=>h r (by simp [hr])
  exact ⟨x::l,rfl,fun y hy=>by rcases List.mem_cons.1 hy with rfl | hy; exact hx; exact hl y hy⟩
theorem byte_ofShp (ts:List TV) (h:Shp [.int .u8] ts):∃ x:UInt8,ts=byteRow x∧True:=by
 cases h with
 | int _ n _ us hn h=>
  cases h
  obtain ⟨h1,h2⟩:=bounds_u8 hn
  refine ⟨UInt8.ofNat n.toNat,?_,trivial⟩
  have:(UInt8.ofNat n.toNat).toNat=n.toNat:=by simp; omega
  simp only [byteRow,this]
  congr 2
  omega
theorem bytes_ofShp {es:List (List TV)} (h:∀ r ∈ es,Shp [.int .u8] r):∃ b:Bytes,es=bytesR b:=by
 obtain ⟨l,rfl,_⟩:=rows_ofShp byte_ofShp h
 exact ⟨l,rfl⟩
theorem len_ofs {s:Bytes} (h:s.length≤2^47):s.length<2^48:=Nat.lt_of_le_of_lt h (by decide)
theorem len_ofb {b:Bytes} (h:(bytesR b).length≤2^47):b.length<2^48:=Nat.lt_of_le_of_lt (by simpa [bytesR] using h) (by decide)
theorem len_ofl {α β:Type} {f:α→β} {l:List α} (h:(l.map f).length≤2^47):l.length<2^48:=Nat.lt_of_le_of_lt (by simpa using h) (by decide)
def Ent.shape:List Ty:=[.str,.int .i64]
theorem Ent.ofShp (ts:List TV) (h:Shp Ent.shape ts):∃ x:Ent,ts=x.row∧x.fine:=by
 obtain ⟨v_name,u0,rfl,lv_name,h1⟩:=Shp.str_inv h
 obtain ⟨v_ino,u1,rfl,h2⟩:=Shp.int_inv h1
 obtain rfl:=Shp.nil_inv h2
 exact ⟨{ name:=v_name,ino:=v_ino },rfl,len_ofs lv_name⟩
def Attr.shape:List Ty:=[.str,.str]
theorem Attr.ofShp (ts:List TV) (h:Shp Attr.shape ts):∃ x:Attr,ts=x.row∧x.fine:=by
 obtain ⟨v_name,u0,rfl,lv_name,h1⟩:=Shp.str_inv h
 obtain ⟨v_val,u1,rfl,lv_val,h2⟩:=Shp.str_inv h1
 obtain rfl:=Shp.nil_inv h2
 exact ⟨{ name:=v_name,val:=v_val },rfl,⟨len_ofs lv_name,len_ofs lv_val⟩⟩
def Inode.shape:List Ty:=[.int .i64,.int .i64,.int .i64,.sl 1 [.int .u8],.sl 2 Ent.shape,.sl 2 Attr.shape]
theorem Inode.ofShp (ts:List TV) (h:Shp Inode.shape ts):∃ x:Inode,ts=x.row∧x.fine:=by
 obtain ⟨v_ino,u0,rfl,h1⟩:=Shp.int_inv h
 obtain ⟨v_kind,u1,rfl,h2⟩:=Shp.int_inv h1
 obtain ⟨v_links,u2,rfl,h3⟩:=Shp.int_inv h2
 obtain ⟨r3,u3,rfl,lv_data,e3,h4⟩:=Shp.sl_inv h3
 obtain ⟨v_data,rfl⟩:=bytes_ofShp e3
 obtain ⟨r4,u4,rfl,lv_ents,e4,h5⟩:=Shp.sl_inv h4
 obtain ⟨v_ents,rfl,gv_ents⟩:=rows_ofShp Ent.ofShp e4
 obtain ⟨r5,u5,rfl,lv_attrs,e5,h6⟩:=Shp.sl_inv h5
 obtain ⟨v_attrs,rfl,gv_attrs⟩:=rows_ofShp Attr.ofShp e5
 obtain rfl:=Shp.nil_inv h6
 exact ⟨{ ino:=v_ino,kind:=v_kind,links:=v_links,data:=v_data,ents:=v_ents,attrs:=v_attrs },rfl,⟨len_ofb lv_data,⟨len_ofl lv_ents,gv_ents⟩,⟨len_ofl lv_attrs,gv_attrs⟩⟩⟩
def Tab.shape:List Ty:=[.sl 6 Inode.shape,.int .i64]
theorem Tab.ofShp (ts:List TV) (h:Shp Tab.shape ts):∃ x:Tab,ts=x.row∧x.fine:=by
 obtain ⟨r0,u0,rfl,lv_inodes,e0,h1⟩:=Shp.sl_inv h
 obtain ⟨v_inodes,rfl,gv_inodes⟩:=rows_ofShp Inode.ofShp e0
 obtain ⟨v_next,u1,rfl,h2⟩:=Shp.int_inv h1
 obtain rfl:=Shp.nil_inv h2
 exact ⟨{ inodes:=v_inodes,next:=v_next },rfl,⟨len_ofl lv_inodes,gv_inodes⟩⟩
def Vol.shape:List Ty:=[.int .i64,.str,.bool,.int .i64,.sl 6 Inode.shape,.int .i64]
theorem Vol.ofShp (ts:List TV) (h:Shp Vol.shape ts):∃ x:Vol,ts=x.row∧x.fine:=by
 obtain ⟨v_id,u0,rfl,h1⟩:=Shp.int_inv h
 obtain ⟨v_name,u1,rfl,lv_name,h2⟩:=Shp.str_inv h1
 obtain ⟨v_ro,u2,rfl,h3⟩:=Shp.bool_inv h2
 obtain ⟨v_limit,u3,rfl,h4⟩:=Shp.int_inv h3
 obtain ⟨r4,u4,rfl,lv_t_inodes,e4,h5⟩:=Shp.sl_inv h4
 obtain ⟨v_t_inodes,rfl,gv_t_inodes⟩:=rows_ofShp Inode.ofShp e4
 obtain ⟨v_t_next,u5,rfl,h6⟩:=Shp.int_inv h5
 obtain rfl:=Shp.nil_inv h6
 exact ⟨{ id:=v_id,name:=v_name,ro:=v_ro,limit:=v_limit,t:={ inodes:=v_t_inodes,next:=v_t_next } },rfl,⟨len_ofs lv_name,⟨len_ofl lv_t_inodes,gv_t_inodes⟩⟩⟩
def Fs.shape:List Ty:=[.sl 6 Vol.shape,.int .i64]
theorem Fs.ofShp (ts:List TV) (h:Shp Fs.shape ts):∃ x:Fs,ts=x.row∧x.fine:=by
 obtain ⟨r0,u0,rfl,lv_vols,e0,h1⟩:=Shp.sl_inv h
 obtain ⟨v_vols,rfl,gv_vols⟩:=rows_ofShp Vol.ofShp e0
 obtain ⟨v_next,u1,rfl,h2⟩:=Shp.int_inv h1
 obtain rfl:=Shp.nil_inv h2
 exact ⟨{ vols:=v_vols,next:=v_next },rfl,⟨len_ofl lv_vols,gv_vols⟩⟩
def Op.shape:List Ty:=[.int .i64,.int .i64,.str,.str,.int .i64,.sl 1 [.int .u8]]
theorem Op.ofShp (ts:List TV) (h:Shp Op.shape ts):∃ x:Op,ts=x.row∧x.fine:=by
 obtain ⟨v_kind,u0,rfl,h1⟩:=Shp.int_inv h
 obtain ⟨v_vol,u1,rfl,h2⟩:=Shp.int_inv h1
 obtain ⟨v_path,u2,rfl,lv_path,h3⟩:=Shp.str_inv h2
 obtain ⟨v_to',u3,rfl,lv_to',h4⟩:=Shp.str_inv h3
 obtain ⟨v_off,u4,rfl,h5⟩:=Shp.int_inv h4
 obtain ⟨r5,u5,rfl,lv_data,e5,h6⟩:=Shp.sl_inv h5
 obtain ⟨v_data,rfl⟩:=bytes_ofShp e5
 obtain rfl:=Shp.nil_inv h6
 exact ⟨{ kind:=v_kind,vol:=v_vol,path:=v_path,to':=v_to',off:=v_off,data:=v_data },rfl,⟨len_ofs lv_path,len_ofs lv_to',len_ofb lv_data⟩⟩
end Go.Proofs.YtjmnolhflcjpgaaGreat.Awp
namespace Go.Proofs.YtjmnolhflcjpgaaGreat.Awp
open Go.Proofs Go.Proofs.YtjmnolhflcjpgaaGreat
set_option linter.unusedSimpArgs false
set_option linter.unusedVariables false
open Nat (reduceEqDiff reduceAdd reduceMul reduceSub)
open Int (reduceNeg reduceToNat reducePow)
set_option maxRecDepth 100000
theorem own:ownKnob Tryz.prog.godebug=none:=by kernel_rfl
def ioTail:List Char:=[Char.ofNat 97,Char.ofNat 116,Char.ofNat 32,Char.ofNat 108,Char.ofNat 111,Char.ofNat 111,Char.ofNat 112,Char.ofNat 46,Char.ofNat 101,Char.ofNat 120,Char.ofNat 97,Char.ofNat 109,Char.ofNat 112,Char.ofNat 108,Char.ofNat 101,Char.ofNat 47,Char.ofNat 103,Char.ofNat 48,Char.ofNat 48,Char.ofNat 50,Char.ofNat 56,Char.ofNat 53,Char.ofNat 47,Char.ofNat 108,Char.ofNat 97,Char.ofNat 119,Char.ofNat 115,Char.ofNat 46,Char.ofNat 70,Char.ofNat 110,Char.ofNat 69,Char.ofNat 120,Char.ofNat 97,Char.ofNat 99,Char.ofNat 116,Char.ofNat 83,Char.ofNat 101,Char.ofNat 116,Char.ofNat 76,Char.ofNat 105,Char.ofNat 109,Char.ofNat 105,Char.ofNat 116,Char.ofNat 32,Char.ofNat 108,Char.ofNat 111,Char.ofNat 111,Char.ofNat 112,Char.ofNat 46,Char.ofNat 101,Char.ofNat 120,Char.ofNat 97,Char.ofNat 109,Char.ofNat 112,Char.ofNat 108,Char.ofNat 101,Char.ofNat 47,Char.ofNat 103,Char.ofNat 48,Char.ofNat 48]++[Char.ofNat 50,Char.ofNat 56,Char.ofNat 53,Char.ofNat 47,Char.ofNat 108,Char.ofNat 97,Char.ofNat 119,Char.ofNat 115,Char.ofNat 46,Char.ofNat 70,Char.ofNat 110,Char.ofNat 69,Char.ofNat 120,Char.ofNat 97,Char.ofNat 99,Char.ofNat 116,Char.ofNat 78,Char.ofNat 101,Char.ofNat 119,Char.ofNat 86,Char.ofNat 111,Char.ofNat 108,Char.ofNat 32,Char.ofNat 108,Char.ofNat 111,Char.ofNat 111,Char.ofNat 112,Char.ofNat 46,Char.ofNat 101,Char.ofNat 120,Char.ofNat 97,Char.ofNat 109,Char.ofNat 112,Char.ofNat 108,Char.ofNat 101,Char.ofNat 47,Char.ofNat 103,Char.ofNat 48,Char.ofNat 48,Char.ofNat 50,Char.ofNat 56,Char.ofNat 53,Char.ofNat 47,Char.ofNat 108,Char.ofNat 97,Char.ofNat 119,Char.ofNat 115,Char.ofNat 46,Char.ofNat 70,Char.ofNat 110,Char.ofNat 69,Char.ofNat 120,Char.ofNat 97,Char.ofNat 99,Char.ofNat 116,Char.ofNat 68,Char.ofNat 114,Char.ofNat 111,Char.ofNat 112,Char.ofNat 86]++[Char.ofNat 111,Char.ofNat 108,Char.ofNat 32,Char.ofNat 108,Char.ofNat 111,Char.ofNat 111,Char.ofNat 112,Char.ofNat 46,Char.ofNat 101,Char.ofNat 120,Char.ofNat 97,Char.ofNat 109,Char.ofNat 112,Char.ofNat 108,Char.ofNat 101,Char.ofNat 47,Char.ofNat 103,Char.ofNat 48,Char.ofNat 48,Char.ofNat 50,Char.ofNat 56,Char.ofNat 53,Char.ofNat 47,Char.ofNat 108,Char.ofNat 97,Char.ofNat 119,Char.ofNat 115,Char.ofNat 46,Char.ofNat 70,Char.ofNat 110,Char.ofNat 69,Char.ofNat 120,Char.ofNat 97,Char.ofNat 99,Char.ofNat 116,Char.ofNat 67,Char.ofNat 108,Char.ofNat 111,Char.ofNat 110,Char.ofNat 101,Char.ofNat 86,Char.ofNat 111,Char.ofNat 108,Char.ofNat 32,Char.ofNat 108,Char.ofNat 111,Char.ofNat 111,Char.ofNat 112,Char.ofNat 46,Char.ofNat 101,Char.ofNat 120,Char.ofNat 97,Char.ofNat 109,Char.ofNat 112,Char.ofNat 108,Char.ofNat 101,Char.ofNat 47,Char.ofNat 103,Char.ofNat 48,Char.ofNat 48]++[Char.ofNat 50,Char.ofNat 56,Char.ofNat 53,Char.ofNat 47,Char.ofNat 108,Char.ofNat 97,Char.ofNat 119,Char.ofNat 115,Char.ofNat 46,Char.ofNat 70,Char.ofNat 110,Char.ofNat 69,Char.ofNat 120,Char.ofNat 97,Char.ofNat 99,Char.ofNat 116,Char.ofNat 83,Char.ofNat 110,Char.ofNat 97,Char.ofNat 112,Char.ofNat 86,Char.ofNat 111,Char.ofNat 108]
def ioSum:List Char:=[Char.ofNat 55,Char.ofNat 53,Char.ofNat 52,Char.ofNat 100,Char.ofNat 53,Char.ofNat 53,Char.ofNat 54,Char.ofNat 99,Char.ofNat 53,Char.ofNat 99,Char.ofNat 99,Char.ofNat 102,Char.ofNat 52,Char.ofNat 98,Char.ofNat 56,Char.ofNat 50,Char.ofNat 97,Char.ofNat 57,Char.ofNat 102,Char.ofNat 101,Char.ofNat 54,Char.ofNat 50,Char.ofNat 97,Char.ofNat 53,Char.ofNat 50,Char.ofNat 57,Char.ofNat 54,Char.ofNat 51,Char.ofNat 101,Char.ofNat 49,Char.ofNat 57,Char.ofNat 52,Char.ofNat 102,Char.ofNat 98,Char.ofNat 50,Char.ofNat 51,Char.ofNat 49,Char.ofNat 102,Char.ofNat 97,Char.ofNat 53,Char.ofNat 54,Char.ofNat 56,Char.ofNat 98,Char.ofNat 53,Char.ofNat 97,Char.ofNat 56,Char.ofNat 55,Char.ofNat 55,Char.ofNat 100,Char.ofNat 49,Char.ofNat 57,Char.ofNat 53,Char.ofNat 99,Char.ofNat 98,Char.ofNat 57,Char.ofNat 56,Char.ofNat 55,Char.ofNat 55,Char.ofNat 51,Char.ofNat 48,Char.ofNat 54,Char.ofNat 52,Char.ofNat 54,Char.ofNat 101]
theorem ioText:Tryz.prog.initOrder=String.ofList ([Char.ofNat 104,Char.ofNat 97,Char.ofNat 114,Char.ofNat 110,Char.ofNat 101,Char.ofNat 115,Char.ofNat 115]++(Char.ofNat 32::ioSum)++[Char.ofNat 32,Char.ofNat 99,Char.ofNat 117,Char.ofNat 116,Char.ofNat 32]++ioTail):=by kernel_rfl
theorem ioWords:∃ r,behindMainWord (wordsSigns Tryz.prog.initOrder.toList)=[Char.ofNat 99,Char.ofNat 117,Char.ofNat 116]::r:=by
 rw [ioText,String.toList_ofList]
 exact ⟨wordsSigns ioTail,by kernel_rfl⟩
theorem f_laid:(laidOutB Tryz.prog)=true:=by kernel_rfl
theorem f_maps:(mapsRowed Tryz.prog)=true:=by kernel_rfl
theorem f_stops:((Tryz.prog.stops == []))=true:=by kernel_rfl
theorem f_knobs:((Tryz.prog.stopKnobs == []))=true:=by kernel_rfl
theorem f_heard:(Tryz.prog.stopsHeard)=true:=by kernel_rfl
theorem f_enter:(Tryz.prog.mayEnter)=true:=by
 obtain ⟨r,hr⟩:=ioWords
 exact enter_of hr (by kernel_rfl) (by kernel_rfl) (by kernel_rfl)
theorem f_lifts:(false == Tryz.prog.liftsFinal)=true:=by
 obtain ⟨r,hr⟩:=ioWords
 rw [lifts_of hr]
 rfl
theorem f_make:(Tryz.prog.make == some .cut)=true:=by
 obtain ⟨r,hr⟩:=ioWords
 rw [make_of hr]
 rfl
end Go.Proofs.YtjmnolhflcjpgaaGreat.Awp
namespace Go.Proofs.YtjmnolhflcjpgaaGreat.Awp
open Go.Proofs Go.Proofs.YtjmnolhflcjpgaaGreat
set_option linter.unusedSimpArgs false
set_option linter.unusedVariables false
open Nat (reduceEqDiff reduceAdd reduceMul reduceSub)
open Int (reduceNeg reduceToNat reducePow)
set_option maxRecDepth 100000
theorem j0_FnExactDropVol:(Rows.fnExactDropVolRow.wf (OpenSpec.ofChange Rows.fnExactDropVolSpec))=true:=by kernel_rfl
theorem j3_FnExactDropVol:(Tryz.f5.params.all (Tryz.prog.readableRec ·))=true:=by kernel_rfl
theorem j4_FnExactDropVol:(namedTie Tryz.prog Rows.fnExactDropVolRow.named Rows.fnExactDropVolSpec.vars)=true:=by kernel_rfl
theorem j5_FnExactDropVol:((Rows.fnExactDropVolRow.stops == []))=true:=by kernel_rfl
theorem j7_FnExactDropVol:((Rows.fnExactDropVolRow.knobs == []))=true:=by kernel_rfl
theorem j9_FnExactDropVol:((Rows.fnExactDropVolRow.inPlace == Tryz.prog.inPlace 5))=true:=by kernel_rfl
theorem j10_FnExactDropVol:((Rows.fnExactDropVolRow.unfollowed == Tryz.prog.unfollowed 5))=true:=by kernel_rfl
theorem j11_FnExactDropVol:((Rows.fnExactDropVolRow.recurses == Tryz.prog.recurses 5))=true:=by kernel_rfl
theorem j12_FnExactDropVol:((Rows.fnExactDropVolRow.named == Tryz.prog.varsNamed 5))=true:=by kernel_rfl
theorem j13_FnExactDropVol:((Rows.fnExactDropVolRow.maps == (Tryz.f5.params.toList++Rows.fnExactDropVolSpec.plain.varTypes Tryz.prog).any (Tryz.prog.mapsRec ·)))=true:=by kernel_rfl
theorem j14_FnExactDropVol:((Rows.fnExactDropVolRow.ifaces == (Tryz.f5.params.toList++Rows.fnExactDropVolSpec.plain.varTypes Tryz.prog).any (Tryz.prog.ifacesRec ·)))=true:=by kernel_rfl
theorem j15_FnExactDropVol:((Rows.fnExactDropVolRow.mapsOut == Tryz.prog.mapsAmong Tryz.f5.resultTypes.toList))=true:=by kernel_rfl
theorem j16_FnExactDropVol:((Rows.fnExactDropVolRow.loops == (Tryz.f5.params.toList++Rows.fnExactDropVolSpec.plain.varTypes Tryz.prog).any (Tryz.prog.loopsFrom ·)))=true:=by kernel_rfl
theorem j17_FnExactDropVol:((Rows.fnExactDropVolRow.wideKeys == (Tryz.f5.params.toList++Rows.fnExactDropVolSpec.plain.varTypes Tryz.prog++Tryz.f5.resultTypes.toList).any (Tryz.prog.wideKeysFrom ·)))=true:=by kernel_rfl
theorem j18_FnExactDropVol:(Rows.fnExactDropVolSpec.vars.all (Tryz.prog.varReadable ·))=true:=by kernel_rfl
theorem j19_FnExactDropVol:(Tryz.f5.resultTypes.all (fun t=>Tryz.prog.readableRec t && decide (t<Tryz.prog.types.size)))=true:=by kernel_rfl
theorem j20_FnExactDropVol:((Rows.fnExactDropVolRow.ifacesOut == Tryz.f5.resultTypes.toList.any (Tryz.prog.ifacesRec ·)))=true:=by kernel_rfl
theorem j21_FnExactDropVol:((Rows.fnExactDropVolRow.loopsOut == Tryz.f5.resultTypes.toList.any (Tryz.prog.loopsFrom ·)))=true:=by kernel_rfl
theorem j22_FnExactDropVol:((Rows.fnExactDropVolRow.plainKeys == Tryz.prog.plainKeys))=true:=by kernel_rfl
theorem j23_FnExactDropVol:(Rows.fnExactDropVolRow.shortTexts.isNone)=true:=by kernel_rfl
theorem j28_FnExactDropVol:((Rows.fnExactDropVolRow.kinds == (if Rows.fnExactDropVolRow.domain.isEmpty then [] else Tryz.f5.params.toList.map fun t=>match Tryz.prog.underlying t with | some (.int k)=>some k | _=>none)))=true:=by kernel_rfl
theorem j29_FnExactDropVol:((Rows.fnExactDropVolRow.pinned == Rows.fnExactDropVolRow.pinnedBy))=true:=by kernel_rfl
theorem j30_FnExactDropVol:((Rows.fnExactDropVolRow.veiled == (Tryz.f5.params.toList++Rows.fnExactDropVolSpec.plain.varTypes Tryz.prog++Tryz.f5.resultTypes.toList).any (Tryz.prog.veiledRec ·)))=true:=by kernel_rfl
theorem j31_FnExactDropVol:(Rows.fnExactDropVolRow.veiledFits Tryz.prog Tryz.f5.params.toList (Tryz.f5.params.toList++Rows.fnExactDropVolSpec.plain.varTypes Tryz.prog++Tryz.f5.resultTypes.toList))=true:=by kernel_rfl
theorem jf_FnExactDropVol:joinedFacts Tryz.prog 5 Tryz.f5 Rows.fnExactDropVolSpec Rows.fnExactDropVolRow=true:=
 joined_of j0_FnExactDropVol f_laid f_maps j3_FnExactDropVol j4_FnExactDropVol j5_FnExactDropVol f_stops j7_FnExactDropVol f_knobs j9_FnExactDropVol j10_FnExactDropVol j11_FnExactDropVol j12_FnExactDropVol j13_FnExactDropVol j14_FnExactDropVol j15_FnExactDropVol j16_FnExactDropVol j17_FnExactDropVol j18_FnExactDropVol j19_FnExactDropVol j20_FnExactDropVol j21_FnExactDropVol j22_FnExactDropVol j23_FnExactDropVol f_heard f_enter f_lifts f_make j28_FnExactDropVol j29_FnExactDropVol j30_FnExactDropVol j31_FnExactDropVol
theorem lift_FnExactDropVol (os:Os) (started:os.Started) (H:Type) (enc:TypeId × Value→H) :
  ReturnsInHanded {} Tryz.checked os 5 .any (Rows.fnExactDropVolSpec.pre6 enc Tryz.prog Tryz.f5 Rows.fnExactDropVolRow.domain false) (Rows.fnExactDropVolSpec.post enc Tryz.prog Tryz.f5 false true false false):=by
 refine law_returns (C:=Tryz.checked) (pars:=[(true,Fs.shape),(false,[.int .i64])]) own started (by kernel_rfl) Tryz.func5
  (ChangeSpec.witness6 (enc:=enc) (C:=Tryz.checked) false ⟨#[],#[.agg #[.slice none 0 0,.int .i64 0],.int .i64 0],[]⟩ 8 (by kernel_rfl) (by kernel_rfl) (by kernel_rfl) (by kernel_rfl))
  rfl (by kernel_rfl) rfl (by kernel_rfl) ?_ ?_
 ·intro ds hd
  match ds,hd with
  | [d0,d1],_=>rfl
 ·intro tss h
  match tss,h with
  | [t0,t1],⟨h0,h1,_⟩=>
   obtain ⟨x0,rfl,hf0⟩:=Fs.ofShp t0 h0
   obtain ⟨x1,u1,rfl,e1⟩:=Shp.int_inv h1
   obtain rfl:=Shp.nil_inv e1
   exact ⟨_,s_FnExactDropVol x0 x1 hf0⟩
theorem hw_FnExactDropVol:Tryz.f5.isWrapper Tryz.prog Rows.fnExactDropVolRow.wrapper Rows.fnExactDropVolRow.mainSum:=by
 unfold Func.isWrapper; first | (rw [if_pos (by decide +kernel)]; kernel_rfl) | (rw [if_neg (by decide +kernel)]; exact ⟨rfl,rfl⟩)
theorem law_FnExactDropVol:Rows.FnExactDropVolSaid:=
 OpenClaim.holds_of_wide 5 Tryz.f5 rfl rfl rfl rfl rfl rfl rfl ⟨rfl,rfl,rfl,rfl,rfl⟩ rfl rfl rfl rfl rfl (by kernel_rfl) Tryz.func5 jf_FnExactDropVol
  (of_decide_eq_true (by kernel_rfl)) hw_FnExactDropVol
  (fun os started H enc _=>lift_FnExactDropVol os started H enc)
end Go.Proofs.YtjmnolhflcjpgaaGreat.Awp

namespace Go.Proofs.YtjmnolhflcjpgaaGreat
/-- the given statement -/
theorem provedFnExactDropVol : Rows.FnExactDropVolSaid := Awp.law_FnExactDropVol
end Go.Proofs.YtjmnolhflcjpgaaGreat
#print axioms Go.Proofs.YtjmnolhflcjpgaaGreat.provedFnExactDropVol
