/- The law FnExactUnlink (The program's Unlink returns what the reference's returns, for all arguments) holds for every argument: the given statement is proved. Condition: none. -/
import Derived.Test.YtnhdalnfboiooaaGreatDoorFnExactUnlinkX1
import Derived.Test.YtnhdalnfboiooaaGreatDoorAwp4
import Derived.Test.YtnhdalnfboiooaaGreatDoorRows
import Derived.Test.YtnhdalnfboiooaaGreatDoorCards
import Derived.Test.YtnhdalnfboiooaaGreatDoorTie
import Derived.Shelf.Lays
import Derived.Sort.Walk0
import Derived.Shelf.Strings.Search3
import Derived.Shelf.Strings.Count
import Derived.Shelf.Strings.OnBuilder
import Derived.Shelf.Sort.Plain
import Derived.Shelf.Slices.In.SortNone
import Derived.OpenShut
import Derived.SevenTiedAt
import Derived.KernelRfl
namespace Go.Proofs.YtnhdalnfboiooaaGreatDoor.Awp
open Go.Proofs
set_option linter.unusedSimpArgs false
set_option linter.unusedVariables false
open Nat (reduceEqDiff reduceAdd reduceMul reduceSub)
open Int (reduceNeg reduceToNat reducePow)
set_option maxRecDepth 100000
set_option maxHeartbeats 20000000
def padS (done:List Bytes) (n:Nat):List Bytes:=done++List.replicate (n-done.length) []
theorem padS_zero (n:Nat):(padS [] n).map sRow=List.replicate n [TV.str []]:=by simp [padS,sRow]
theorem padS_len {done:List Bytes} {n:Nat} (h:done.length≤n):(padS done n).length=n:=by simp [padS]; omega
theorem padS_set {done:List Bytes} {n:Nat} (h:done.length<n) (x:Bytes):((padS done n).map sRow).modify done.length (fun r=>TV.str x::r.drop 1)=(padS (done++[x]) n).map sRow:=by
 obtain ⟨m,hm⟩:∃ m,n-done.length=m+1:=⟨n-done.length-1,by omega⟩
 have e:n-(done++[x]).length=m:=by simp; omega
 rw [padS,padS,hm,e,List.map_append,List.map_append,List.map_append,List.replicate_succ,List.map_cons]
 have:=modify_app_ge (done.map sRow) (sRow []::(List.replicate m []).map sRow) done.length (fun r=>TV.str x::r.drop 1) (by simp)
 rw [this,List.length_map,Nat.sub_self,List.modify_zero_cons,List.append_assoc]; rfl
theorem padS_take {done:List Bytes} {n:Nat}:((padS done n).map sRow).take done.length=done.map sRow:=by
 rw [← List.map_take,padS,List.take_left']; rfl
theorem count_len (s:Bytes):s.count 47≤s.length:=List.count_le_length
theorem s_genSplit1 (s:Bytes) (hl:s.length<2^40):Spec Tryz.prog 282 [.str s,.str [47],.int .i64 0,.int .i64 (-1)] (.own 1 ((splitS s).map sRow)) [.undef,.undef,.undef,.undef]:=by
 have hc:=count_len s
 have hm:¬ ((s.length:Nat):Int)+1<((s.count 47:Nat):Int)+1:=by omega
 refine spec_c hmx p_X_genSplit [] 3855 [] ⟨Nat.le_of_ble_eq_true rfl,Nat.le_of_ble_eq_true rfl⟩ rfl rfl ?_
 intro w hP hQ
 unfold c_X_genSplit
 simp +decide (maxSteps:=9^9) (disch:=omega) only[↓SB0,SX,seval,hQ]
 (first|refine cI hP (s_Count1 s) rfl rfl ?_|refine cH hP (s_Count1 s) rfl rfl ?_)
 simp +decide (maxSteps:=9^9) (disch:=omega) only[↓SB0,SX,seval,hQ]
 have ha:((s.count 47:Nat):Int)+1-1=(s.count 47:Nat):=by omega
 have hb:(((s.count 47:Nat):Int)+1).toNat=s.count 47+1:=by omega
 simp only [if_neg hm,ha,hb,← padS_zero]
 refine LH_D [11] ?_
 simp +decide (maxSteps:=9^9) (disch:=omega) only[↓SB0,SX,seval,hQ]
 refine loop_e [11] (fun x:List Bytes × Bytes=>[(0,.str x.2),(9,.own 1 ((padS x.1 (s.count 47+1)).map sRow)),(10,.int .i64 (x.1.length:Nat))]) (fun x=>x.1++splitS x.2=splitS s∧x.2.length<2^40) (fun x=>x.2.count 47) (([],s)) hP hQ (rfl) (⟨rfl,hl⟩) ?_
 rintro ⟨done,rest⟩ ⟨hd,hr⟩ w1 hP1 hQ1
 simp +decide (maxSteps:=9^9) (disch:=omega) only[↓SB0,SX,seval,hQ,hQ1]
 simp only at hd hr
 have hn:done.length+rest.count 47=s.count 47:=by
  have:=congrArg List.length hd
  rw [List.length_append,split_len,split_len] at this; omega
 have hpl:=padS_len (done:=done) (n:=s.count 47+1) (by omega)
 rcases idx47 rest with ⟨h1,h2⟩ | ⟨m,h1,h2,h3,h4⟩
 ·have fin:done++[rest]=splitS s:=by rw [← hd,split_whole h2]
  have hz:rest.count 47=0:=List.count_eq_zero.2 fun hmem=>by
   obtain ⟨k,hk,e⟩:=List.getElem_of_mem hmem
   exact h2 k hk e
  (first | with_reducible refine if_d _ ?_ ?_ | refine if_i _ ?_ ?_) <;> intro g
  ·exfalso; omega
  ·have hdl:((done.length:Nat):Int)<((padS done (s.count 47+1)).length:Nat):=by omega
   have e1:(((done.length:Nat):Int)+1-0).toNat=done.length+1:=by omega
   have e2:0+(done.length+1)≤s.count 47+1:=by omega
   have e3:=padS_set (done:=done) (n:=s.count 47+1) (by omega) rest
   have e4:=padS_take (done:=done++[rest]) (n:=s.count 47+1)
   rw [fin,← fin,List.length_append] at e4
   have hp2:=padS_len (done:=done++[rest]) (n:=s.count 47+1) (by simp; omega)
   simp +decide (maxSteps:=9^9) (disch:=omega) only[↓SB0,SX,seval,hQ,hQ1,hpl,hp2,e1,e2,e3]
   rw [← fin]
   exact congrArg (AV.own 1) e4
 ·have hx:=count_cut h1 h3 h4
  have hy:=split_cut h1 h3 h4
  (first | with_reducible refine if_d _ ?_ ?_ | refine if_i _ ?_ ?_) <;> intro g
  ·have e5:¬ ((m:Nat):Int)<0:=by omega
   have e6:(((m:Nat):Int)-0).toNat=m:=by omega
   have e7:(((rest.length:Nat):Int)-((m:Int)+1)).toNat=rest.length-(m+1):=by omega
   have e9:(rest.drop (m+1)).take (rest.length-(m+1))=rest.drop (m+1):=List.take_of_length_le (by simp)
   have e8:(((m:Nat):Int)+1).toNat=m+1:=by omega
   have e3:=padS_set (done:=done) (n:=s.count 47+1) (by omega) (rest.take m)
   have hp2:=padS_len (done:=done++[rest.take m]) (n:=s.count 47+1) (by simp; omega)
   simp +decide (maxSteps:=9^9) (disch:=omega) only[↓SB0,SX,seval,hQ,hQ1]
   (first|refine cI hP1 (s_Index1 rest) rfl rfl ?_|refine cH hP1 (s_Index1 rest) rfl rfl ?_)
   simp +decide (maxSteps:=9^9) (disch:=omega) only[↓SB0,SX,seval,hQ,hQ1,h2,e5,e6,e7,e8,e9,hpl,hp2,e3]
   exact ⟨(done++[rest.take m],rest.drop (m+1)),by simp,⟨by rw [← hd,hy,List.append_assoc]; rfl,by simp only [List.length_drop]; omega⟩,by simp only; omega⟩
  ·exfalso; omega
theorem s_Split (s:Bytes) (hl:s.length<2^40):Spec Tryz.prog 238 [.str s,.str [47]] (.own 1 ((splitS s).map sRow)) [.undef,.undef]:=by
 refine spec_c hmx p_X_Split [] 19 [] ⟨Nat.le_of_ble_eq_true rfl,Nat.le_of_ble_eq_true rfl⟩ rfl rfl ?_
 intro w hP hQ
 unfold c_X_Split
 simp +decide (maxSteps:=9^9) (disch:=omega) only[↓SB0,SX,seval,hQ]
 (first|refine cI hP (s_genSplit1 s hl) rfl rfl ?_|refine cH hP (s_genSplit1 s hl) rfl rfl ?_)
 simp +decide (maxSteps:=9^9) (disch:=omega) only[↓SB0,SX,seval,hQ]
theorem sI_namesOk_1 (s:Bytes) (hl:s.length<2^48):Spec Tryz.prog 284 [.str s] (.bool (!nameOk s)) [.undef]:=by
 refine spec_c hmx p_I_namesOk_1 [] 5 [] ⟨Nat.le_of_ble_eq_true rfl,Nat.le_of_ble_eq_true rfl⟩ rfl rfl ?_
 intro w hP hQ
 unfold c_I_namesOk_1
 simp +decide (maxSteps:=9^9) (disch:=omega) only[↓SB0,SX,seval,hQ]
 (first|refine cI hP (sI_NameOk s hl) rfl rfl ?_|refine cH hP (sI_NameOk s hl) rfl rfl ?_)
 simp +decide (maxSteps:=9^9) (disch:=omega) only[↓SB0,SX,seval,hQ]
theorem s_IndexFunc_string {g:Nat} {p:Bytes→Bool} (l:List Bytes) (hl:l.length<2^48) (hc:∀ v ∈ l,Spec Tryz.prog g [.str v] (.bool (p v)) [.undef]) :
  Spec Tryz.prog 319 [.ext 1 (l.map sRow),.fn g []] (.int .i64 (idxI (l.findIdx? p))) [.undef,.undef]:=by
 refine spec_c hmx p_X_IndexFunc_string [] 435 [] ⟨Nat.le_of_ble_eq_true rfl,Nat.le_of_ble_eq_true rfl⟩ rfl rfl ?_
 intro w hP hQ
 unfold c_X_IndexFunc_string
 simp +decide (maxSteps:=9^9) (disch:=omega) only[↓SB0,SX,seval,hQ]
 refine LH_D [4,5] ?_
 simp +decide (maxSteps:=9^9) (disch:=omega) only[↓SB0,SX,seval,hQ]
 refine loop_e [4,5] (fun i:Nat=>[(8,.int .i64 i)]) (fun i=>i≤l.length∧∀ k,k<i→(h:k<l.length)→p l[k]=false) (fun i=>l.length-i) (0) hP hQ (rfl) (by simp) ?_
 rintro i ⟨hi,hk⟩ w1 hP1 hQ1
 simp +decide (maxSteps:=9^9) (disch:=omega) only[↓SB0,SX,seval,hQ,hQ1]
 (first | with_reducible refine if_d _ ?_ ?_ | refine if_i _ ?_ ?_) <;> intro h1
 ·simp +decide (maxSteps:=9^9) (disch:=omega) only[↓SB0,SX,seval,hQ,hQ1,getE h1,sRow]
  cases h2:p (l[i]'(by omega)) with
  | true=>
   (first|refine cI hP1 (hc (l[i]'(by omega)) (List.getElem_mem _)) rfl rfl ?_|refine cH hP1 (hc (l[i]'(by omega)) (List.getElem_mem _)) rfl rfl ?_)
   simp +decide (maxSteps:=9^9) (disch:=omega) only[↓SB0,SX,seval,hQ,hQ1,h2]
   rw [idx_step hk (by omega) h2]; rfl
  | false=>
   (first|refine cI hP1 (hc (l[i]'(by omega)) (List.getElem_mem _)) rfl rfl ?_|refine cH hP1 (hc (l[i]'(by omega)) (List.getElem_mem _)) rfl rfl ?_)
   simp +decide (maxSteps:=9^9) (disch:=omega) only[↓SB0,SX,seval,hQ,hQ1,h2]
   exact ⟨i+1,rfl,⟨by omega,no_step hk (by omega) h2⟩,by omega⟩
 ·obtain rfl:i=l.length:=by omega
  simp +decide (maxSteps:=9^9) (disch:=omega) only[↓SB0,SX,seval,hQ,hQ1]
  rw [idx_none fun k h=>hk k h h]; rfl
theorem s_ContainsFunc_string {g:Nat} {p:Bytes→Bool} (l:List Bytes) (hl:l.length<2^48) (hc:∀ v ∈ l,Spec Tryz.prog g [.str v] (.bool (p v)) [.undef]) :
  Spec Tryz.prog 283 [.ext 1 (l.map sRow),.fn g []] (.bool (l.any p)) [.undef,.undef]:=by
 have hI:=s_IndexFunc_string l hl hc
 cases e:l.findIdx? p with
 | none=>
  have:l.any p=false:=by
   rw [List.any_eq_false]
   intro x hx
   rw [List.findIdx?_eq_none_iff] at e
   simp [e x hx]
  rw [e] at hI
  rw [this]
  refine spec_c hmx p_X_ContainsFunc_string [] 19 [] ⟨Nat.le_of_ble_eq_true rfl,Nat.le_of_ble_eq_true rfl⟩ rfl rfl ?_
  intro w hP hQ
  unfold c_X_ContainsFunc_string
  simp +decide (maxSteps:=9^9) (disch:=omega) only[↓SB0,SX,seval,hQ]
  (first|refine cI hP (hI) rfl rfl ?_|refine cH hP (hI) rfl rfl ?_)
  simp +decide (maxSteps:=9^9) (disch:=omega) only[↓SB0,SX,seval,hQ]
 | some k=>
  have:l.any p=true:=by
   rw [List.findIdx?_eq_some_iff_getElem] at e
   rw [List.any_eq_true]
   exact ⟨_,List.getElem_mem e.1,e.2.1⟩
  rw [e,show idxI (some k)=(k:Int) from rfl] at hI
  rw [this]
  have hz:decide ((0:Int)≤(k:Nat))=true:=decide_eq_true (by omega)
  refine spec_c hmx p_X_ContainsFunc_string [] 19 [] ⟨Nat.le_of_ble_eq_true rfl,Nat.le_of_ble_eq_true rfl⟩ rfl rfl ?_
  intro w hP hQ
  unfold c_X_ContainsFunc_string
  simp +decide (maxSteps:=9^9) (disch:=omega) only[↓SB0,SX,seval,hQ]
  (first|refine cI hP (hI) rfl rfl ?_|refine cH hP (hI) rfl rfl ?_)
  simp +decide (maxSteps:=9^9) (disch:=omega) only[↓SB0,SX,seval,hQ,hz]
theorem sI_namesOk (l:List Bytes) (hl:l.length<2^48) (hs:∀ n ∈ l,n.length<2^48):Spec Tryz.prog 239 [.ext 1 (l.map sRow)] (.bool (namesOk l)) [.undef]:=by
 have hC:=s_ContainsFunc_string (g:=284) (p:=fun s=>!nameOk s) l hl fun v hv=>sI_namesOk_1 v (hs v hv)
 have e:namesOk l=(decide (((l.length:Nat):Int)≤30) && !(l.any fun s=>!nameOk s)):=by
  rw [namesOk,List.not_any_eq_all_not,show decide (l.length≤30)=decide (((l.length:Nat):Int)≤30) by rw [decide_eq_decide]; omega]
  simp
 rw [e]
 refine spec_c hmx p_I_namesOk [] 5 [] ⟨Nat.le_of_ble_eq_true rfl,Nat.le_of_ble_eq_true rfl⟩ rfl rfl ?_
 intro w hP hQ
 unfold c_I_namesOk
 simp +decide (maxSteps:=9^9) (disch:=omega) only[↓SB0,SX,seval,hQ]
 (first | with_reducible refine gd_d _ ?_ ?_ | refine gd_i _ ?_ ?_) <;> intro h
 ·simp +decide (maxSteps:=9^9) (disch:=omega) only[↓SB0,SX,seval,hQ,h]
  (first|refine cI hP (hC) rfl rfl ?_|refine cH hP (hC) rfl rfl ?_)
  simp +decide (maxSteps:=9^9) (disch:=omega) only[↓SB0,SX,seval,hQ]
  rw [decide_eq_true h]; rfl
 ·simp +decide (maxSteps:=9^9) (disch:=omega) only[↓SB0,SX,seval,hQ,h]
theorem splitS_part (s:Bytes):∀ n ∈ splitS s,n.length≤s.length:=by
 induction s with
 | nil=>simp [splitS]
 | cons c s ih=>
  intro n hn
  by_cases hc:c=47
  ·rw [splitS,if_pos hc] at hn
   rcases List.mem_cons.1 hn with rfl | hn
   ·simp
   ·have:=ih n hn; simp; omega
  ·obtain ⟨a,t,e1,e2⟩:=splitS_cons c s hc
   rw [e2] at hn
   rcases List.mem_cons.1 hn with rfl | hn
   ·have:=ih a (by rw [e1]; simp); simp; omega
   ·have:=ih n (by rw [e1]; simp [hn]); simp; omega
theorem splitS_few (s:Bytes):(splitS s).length≤s.length+1:=by rw [split_len]; have:=count_len s; omega
theorem sI_SplitPath (s:Bytes) (hl:s.length<2^40):Spec Tryz.prog 158 [.str s] (.tup [.own 1 ((splitPath s).1.map sRow),.bool (splitPath s).2]) [.undef]:=by
 have hS:=s_Split s hl
 have hp:=splitS_part s
 have hf:=splitS_few s
 by_cases h0:s=[47]
 ·subst h0
  refine spec_c hmx p_I_SplitPath [] 29 [] ⟨Nat.le_of_ble_eq_true rfl,Nat.le_of_ble_eq_true rfl⟩ rfl rfl ?_
  intro w hP hQ
  unfold c_I_SplitPath
  simp +decide (maxSteps:=9^9) (disch:=omega) only[↓SB0,SX,seval,hQ]
  rfl
 cases e:splitS s with
 | nil=>exact absurd e (splitS_ne s)
 | cons a t=>
  rw [e] at hS hp hf
  cases a with
  | cons c a=>
   have er:splitPath s=([],false):=by rw [splitPath,if_neg h0,e]; rfl
   rw [er]
   refine spec_c hmx p_I_SplitPath [] 29 [] ⟨Nat.le_of_ble_eq_true rfl,Nat.le_of_ble_eq_true rfl⟩ rfl rfl ?_
   intro w hP hQ
   unfold c_I_SplitPath
   simp +decide (maxSteps:=9^9) (disch:=omega) only[↓SB0,SX,seval,hQ]
   simp +decide (maxSteps:=9^9) (disch:=omega) only[↓SB0,SX,seval,hQ,h0]
   (first|refine cI hP (hS) rfl rfl ?_|refine cH hP (hS) rfl rfl ?_)
   simp +decide (maxSteps:=9^9) (disch:=omega) only[↓SB0,SX,seval,hQ,List.map_cons,sRow]
  | nil=>
   cases t with
   | nil=>
    have er:splitPath s=([],false):=by rw [splitPath,if_neg h0,e]; rfl
    rw [er]
    refine spec_c hmx p_I_SplitPath [] 29 [] ⟨Nat.le_of_ble_eq_true rfl,Nat.le_of_ble_eq_true rfl⟩ rfl rfl ?_
    intro w hP hQ
    unfold c_I_SplitPath
    simp +decide (maxSteps:=9^9) (disch:=omega) only[↓SB0,SX,seval,hQ]
    simp +decide (maxSteps:=9^9) (disch:=omega) only[↓SB0,SX,seval,hQ,h0]
    (first|refine cI hP (hS) rfl rfl ?_|refine cH hP (hS) rfl rfl ?_)
    simp +decide (maxSteps:=9^9) (disch:=omega) only[↓SB0,SX,seval,hQ,List.map_cons,List.map_nil,sRow]
   | cons n t=>
    have hN:=sI_namesOk (n::t) (by simp only [List.length_cons] at hf ⊢; omega) fun x hx=>by have:=hp x (by simp [hx]); omega
    have hw:decide (((t.length+1+1:Nat):Int)<2)=false:=decide_eq_false (by omega)
    have hy:1+(t.length+1)≤t.length+1+1:=by omega
    have hz:(((t.length+1+1:Nat):Int)-1).toNat=t.length+1:=by omega
    have ht:([TV.str n]::List.map sRow t).take (t.length+1)=[TV.str n]::List.map sRow t:=List.take_of_length_le (by simp)
    simp only [List.map_cons,show sRow n=[TV.str n] from rfl] at hN
    cases hn:namesOk (n::t) with
    | false=>
     have er:splitPath s=([],false):=split_bad e hn h0
     rw [hn] at hN
     rw [er]
     refine spec_c hmx p_I_SplitPath [] 29 [] ⟨Nat.le_of_ble_eq_true rfl,Nat.le_of_ble_eq_true rfl⟩ rfl rfl ?_
     intro w hP hQ
     unfold c_I_SplitPath
     simp +decide (maxSteps:=9^9) (disch:=omega) only[↓SB0,SX,seval,hQ]
     simp +decide (maxSteps:=9^9) (disch:=omega) only[↓SB0,SX,seval,hQ,h0]
     (first|refine cI hP (hS) rfl rfl ?_|refine cH hP (hS) rfl rfl ?_)
     simp +decide (maxSteps:=9^9) (disch:=omega) only[↓SB0,SX,seval,hQ,List.map_cons,sRow,hw,hz,ht,hy]
     (first|refine cI hP (hN) rfl rfl ?_|refine cH hP (hN) rfl rfl ?_)
     simp +decide (maxSteps:=9^9) (disch:=omega) only[↓SB0,SX,seval,hQ,hw,hz,ht,hy,List.map_cons,sRow]
    | true=>
     have er:splitPath s=(n::t,true):=split_good e (by simp) hn h0
     rw [hn] at hN
     rw [er]
     refine spec_c hmx p_I_SplitPath [] 29 [] ⟨Nat.le_of_ble_eq_true rfl,Nat.le_of_ble_eq_true rfl⟩ rfl rfl ?_
     intro w hP hQ
     unfold c_I_SplitPath
     simp +decide (maxSteps:=9^9) (disch:=omega) only[↓SB0,SX,seval,hQ]
     simp +decide (maxSteps:=9^9) (disch:=omega) only[↓SB0,SX,seval,hQ,h0]
     (first|refine cI hP (hS) rfl rfl ?_|refine cH hP (hS) rfl rfl ?_)
     simp +decide (maxSteps:=9^9) (disch:=omega) only[↓SB0,SX,seval,hQ,List.map_cons,sRow,hw,hz,ht,hy]
     (first|refine cI hP (hN) rfl rfl ?_|refine cH hP (hN) rfl rfl ?_)
     simp +decide (maxSteps:=9^9) (disch:=omega) only[↓SB0,SX,seval,hQ,hw,hz,ht,hy,List.map_cons,sRow]
end Go.Proofs.YtnhdalnfboiooaaGreatDoor.Awp
namespace Go.Proofs.YtnhdalnfboiooaaGreatDoor.Awp
open Go.Proofs
set_option linter.unusedSimpArgs false
set_option linter.unusedVariables false
open Nat (reduceEqDiff reduceAdd reduceMul reduceSub)
open Int (reduceNeg reduceToNat reducePow)
set_option maxRecDepth 100000
set_option maxHeartbeats 20000000
theorem wrap64 {n:Nat} (h:n<2^63):IntKind.i64.wrap (n:Int)=n:=by
 have h1:((2:Int)^IntKind.i64.bits)=2^64:=by decide
 have h2:((2:Int)^(IntKind.i64.bits-1))=2^63:=by decide
 unfold IntKind.wrap
 simp only [h1,h2,IntKind.signed]
 simp
 omega
theorem joinS_lib (n:Bytes) (l:List Bytes):(47:UInt8)::Lib.join (n::l) [47]=joinS (n::l):=by
 rw [Lib.join_cons,joinP_cons]
 congr 2
theorem join_bound {l:List Bytes} (h:namesOk l=true):(Lib.join l [47]).length≤450:=by
 cases l with
 | nil=>simp [Lib.join_nil]
 | cons n l=>
  have:=joinS_len h
  rw [← joinS_lib] at this
  simp at this; omega
theorem sI_JoinPath (l:List Bytes) (hl:l.length<2^40) (hs:∀ n ∈ l,n.length<2^48):Spec Tryz.prog 257 [.ext 1 (l.map sRow)] (.str (joinPath l)) [.undef]:=by
 have hN:=sI_namesOk l (by omega) hs
 cases e:namesOk l with
 | false=>
  rw [e] at hN
  rw [joinPath,if_neg (by simp [e])]
  refine spec_c hmx p_I_JoinPath [] 5 [] ⟨Nat.le_of_ble_eq_true rfl,Nat.le_of_ble_eq_true rfl⟩ rfl rfl ?_
  intro w hP hQ
  unfold c_I_JoinPath
  simp +decide (maxSteps:=9^9) (disch:=omega) only[↓SB0,SX,seval,hQ]
  (first|refine cI hP (hN) rfl rfl ?_|refine cH hP (hN) rfl rfl ?_)
  simp +decide (maxSteps:=9^9) (disch:=omega) only[↓SB0,SX,seval,hQ]
 | true=>
  rw [e] at hN
  have hJ:=s_Join l hl (by have:=join_bound e; omega)
  have er:(47:UInt8)::Lib.join l [47]=joinPath l:=by
   rw [joinPath,if_pos e]
   cases l with
   | nil=>rfl
   | cons n l=>rw [joinS_lib,if_neg (by simp)]
  rw [← er]
  refine spec_c hmx p_I_JoinPath [] 5 [] ⟨Nat.le_of_ble_eq_true rfl,Nat.le_of_ble_eq_true rfl⟩ rfl rfl ?_
  intro w hP hQ
  unfold c_I_JoinPath
  simp +decide (maxSteps:=9^9) (disch:=omega) only[↓SB0,SX,seval,hQ]
  (first|refine cI hP (hN) rfl rfl ?_|refine cH hP (hN) rfl rfl ?_)
  simp +decide (maxSteps:=9^9) (disch:=omega) only[↓SB0,SX,seval,hQ]
  have hb:1+(Lib.join l [47]).length≤4611686018427387904:=by have:=join_bound e; omega
  (first|refine cI hP (hJ) rfl rfl ?_|refine cH hP (hJ) rfl rfl ?_)
  simp +decide (maxSteps:=9^9) (disch:=omega) only[↓SB0,SX,seval,hQ,hb]
theorem split_part {s:Bytes}:∀ n ∈ (splitPath s).1,n.length≤14:=by
 intro n hn
 cases h:(splitPath s).2 with
 | false=>rw [split_no h] at hn; simp at hn
 | true=>exact (name_pos ((names_all (split_ok h).1).2 n hn)).2
theorem split_few (s:Bytes):(splitPath s).1.length≤30:=by
 cases h:(splitPath s).2 with
 | false=>rw [split_no h]; simp
 | true=>exact (names_all (split_ok h).1).1
theorem getLastD_eq {l:List Bytes} {k:Nat} (h:l.length=k+1):l[k]?=some (l.getLastD []):=by
 have hne:l≠[]:=fun e=>by rw [e] at h; simp at h
 rw [List.getLastD_eq_getLast?,List.getLast?_eq_some_getLast hne,List.getLast_eq_getElem]
 simp [h]
theorem sI_ParentOf (s:Bytes) (hl:s.length<2^40):Spec Tryz.prog 191 [.str s] (.tup [.str (parentOf s).1,.str (parentOf s).2.1,.bool (parentOf s).2.2]) [.undef]:=by
 have hS:=sI_SplitPath s hl
 have hp:=split_part (s:=s)
 have hf:=split_few s
 unfold parentOf
 generalize splitPath s=x at *
 obtain ⟨l,b⟩:=x
 cases b with
 | false=>
  rw [if_neg (by simp)]
  refine spec_c hmx p_I_ParentOf [] 253 [] ⟨Nat.le_of_ble_eq_true rfl,Nat.le_of_ble_eq_true rfl⟩ rfl rfl ?_
  intro w hP hQ
  unfold c_I_ParentOf
  simp +decide (maxSteps:=9^9) (disch:=omega) only[↓SB0,SX,seval,hQ]
  (first|refine cI hP (hS) rfl rfl ?_|refine cH hP (hS) rfl rfl ?_)
  simp +decide (maxSteps:=9^9) (disch:=omega) only[↓SB0,SX,seval,hQ]
 | true=>
  cases hk:l.length with
  | zero=>
   obtain rfl:l=[]:=List.length_eq_zero_iff.1 hk
   rw [if_neg (by simp)]
   refine spec_c hmx p_I_ParentOf [] 253 [] ⟨Nat.le_of_ble_eq_true rfl,Nat.le_of_ble_eq_true rfl⟩ rfl rfl ?_
   intro w hP hQ
   unfold c_I_ParentOf
   simp +decide (maxSteps:=9^9) (disch:=omega) only[↓SB0,SX,seval,hQ]
   (first|refine cI hP (hS) rfl rfl ?_|refine cH hP (hS) rfl rfl ?_)
   simp +decide (maxSteps:=9^9) (disch:=omega) only[↓SB0,SX,seval,hQ]
  | succ k=>
   have hne:l≠[]:=fun e=>by rw [e] at hk; simp at hk
   rw [if_pos ⟨rfl,hne⟩]
   have hJ:=sI_JoinPath l.dropLast (by simp; simp only at hf; omega) fun n hn=>by have:=hp n (List.dropLast_subset _ hn); omega
   rw [List.dropLast_eq_take,hk] at hJ ⊢
   simp only [Nat.add_sub_cancel,List.map_take] at hJ ⊢
   have hg:=getLastD_eq hk
   have h0:(decide (((k+1:Nat):Int)=0))=false:=decide_eq_false (by omega)
   have h1:(((k+1:Nat):Int)-1)=(k:Int):=by omega
   have h2:((k:Int)-0).toNat=k:=by omega
   have h3:0+k≤k+1:=by omega
   have h4:=wrap64 (n:=k) (by simp only [hk] at hf; omega)
   refine spec_c hmx p_I_ParentOf [] 253 [] ⟨Nat.le_of_ble_eq_true rfl,Nat.le_of_ble_eq_true rfl⟩ rfl rfl ?_
   intro w hP hQ
   unfold c_I_ParentOf
   simp +decide (maxSteps:=9^9) (disch:=omega) only[↓SB0,SX,seval,hQ]
   (first|refine cI hP (hS) rfl rfl ?_|refine cH hP (hS) rfl rfl ?_)
   simp +decide (maxSteps:=9^9) (disch:=omega) only[↓SB0,SX,seval,hQ,hk,h0,h1,h2,h3,h4]
   (first|refine cI hP (hJ) rfl rfl ?_|refine cH hP (hJ) rfl rfl ?_)
   simp +decide (maxSteps:=9^9) (disch:=omega) only[↓SB0,SX,seval,hQ,hk,h0,h1,h2,h3,h4,hg,sRow]
end Go.Proofs.YtnhdalnfboiooaaGreatDoor.Awp
namespace Go.Proofs.YtnhdalnfboiooaaGreatDoor.Awp
open Go.Proofs
set_option linter.unusedSimpArgs false
set_option linter.unusedVariables false
open Nat (reduceEqDiff reduceAdd reduceMul reduceSub)
open Int (reduceNeg reduceToNat reducePow)
set_option maxRecDepth 100000
set_option maxHeartbeats 20000000
theorem snocS (l:List Bytes) (n:Bytes):l.map sRow++[[TV.str n]]=(l++[n]).map sRow:=by simp [sRow]
theorem u8_47 (c:UInt8):((c.toNat:Int)=47)↔c=47:=by
 rw [← UInt8.toNat_inj]
 show _↔c.toNat=47
 omega
theorem sS_SplitPath (s:Bytes) (hl:s.length<2^40):Spec Tryz.prog 174 [.str s] (.tup [.own 1 ((splitPath s).1.map sRow),.bool (splitPath s).2]) [.undef]:=by
 by_cases h0:s=[47]
 ·subst h0
  refine spec_c hmx p_S_SplitPath [] 253 [] ⟨Nat.le_of_ble_eq_true rfl,Nat.le_of_ble_eq_true rfl⟩ rfl rfl ?_
  intro w hP hQ
  unfold c_S_SplitPath
  simp +decide (maxSteps:=9^9) (disch:=omega) only[↓SB0,SX,seval,hQ]
  rfl
 refine spec_c hmx p_S_SplitPath [] 253 [] ⟨Nat.le_of_ble_eq_true rfl,Nat.le_of_ble_eq_true rfl⟩ rfl rfl ?_
 intro w hP hQ
 unfold c_S_SplitPath
 simp +decide (maxSteps:=9^9) (disch:=omega) only[↓SB0,SX,seval,hQ]
 simp +decide (maxSteps:=9^9) (disch:=omega) only[↓SB0,SX,seval,hQ,h0]
 refine LH_D [2,3,7] ?_
 simp +decide (maxSteps:=9^9) (disch:=omega) only[↓SB0,SX,seval,hQ]
 refine loop_e [2,3,7] (fun x:Nat × Nat × List Bytes=>[(4,.own 1 (x.2.2.map sRow)),(5,.int .i64 (x.2.1:Nat)),(6,.int .i64 (x.1:Nat))]) (fun x=>Cut s x.1 x.2.1 x.2.2) (fun x=>s.length+1-x.1) ((0,0,[])) hP hQ (rfl) (Cut.zero s) ?_
 rintro ⟨i,j,out⟩ hC w1 hP1 hQ1
 simp +decide (maxSteps:=9^9) (disch:=omega) only[↓SB0,SX,seval,hQ,hQ1]
 simp only at hC
 have c1:=hC.le
 have c2:=hC.end'
 have c3:=hC.len
 (first | with_reducible refine if_d _ ?_ ?_ | refine if_i _ ?_ ?_) <;> intro h1
 ·have next:(i=s.length∨∃ h:i<s.length,s[i]=47)→_:=fun hc=>hc
  by_cases hi:i<s.length∧∃ h:i<s.length,s[i]≠47
  ·obtain ⟨_,h2,h3⟩:=hi
   have e1:decide (((i:Nat):Int)<(s.length:Nat))=true:=decide_eq_true (by omega)
   have e2:decide (((s[i].toNat:Nat):Int)=47)=false:=decide_eq_false fun e=>h3 ((u8_47 _).1 e)
   simp +decide (maxSteps:=9^9) (disch:=omega) only[↓SB0,SX,seval,hQ,hQ1,e1,e2,getE (show ((i:Nat):Int)<(s.length:Nat) by omega)]
   exact ⟨(i+1,j,out),rfl,hC.skip h2 h3,by simp only; omega⟩
  ·have hc:i=s.length∨∃ h:i<s.length,s[i]=47:=by
    by_cases e:i<s.length
    ·exact .inr ⟨e,Classical.byContradiction fun h=>hi ⟨e,e,h⟩⟩
    ·exact .inl (by omega)
   have hw:1≤s.length→i<s.length→∃ h:i<s.length,s[i]=47:=fun _ h=>hc.resolve_left (by omega)
   have e1:∃ b:Bool,decide (((i:Nat):Int)<(s.length:Nat))=b:=⟨_,rfl⟩
   rcases Nat.eq_zero_or_pos i with rfl | hp
   ·obtain rfl:=hC.z rfl
    have hF:Cut s 1 1 []:=Cut.first (hc.imp (fun h=>h.symm) id)
    rcases hc with hc | ⟨hc,hx⟩
    ·have e1:decide (((0:Nat):Int)<(s.length:Nat))=false:=decide_eq_false (by omega)
     have e1':decide ((0:Int)<(s.length:Nat))=false:=decide_eq_false (by omega)
     simp +decide (maxSteps:=9^9) (disch:=omega) only[↓SB0,SX,seval,hQ,hQ1,e1,e1']
     exact ⟨(1,1,[]),rfl,hF,by simp only; omega⟩
    ·have e1:decide (((0:Nat):Int)<(s.length:Nat))=true:=decide_eq_true (by omega)
     have e1':decide ((0:Int)<(s.length:Nat))=true:=decide_eq_true (by omega)
     have e2:decide (((s[0].toNat:Nat):Int)=47)=true:=decide_eq_true ((u8_47 _).2 hx)
     simp +decide (maxSteps:=9^9) (disch:=omega) only[↓SB0,SX,seval,hQ,hQ1,e1,e1',e2,getE (show ((0:Nat):Int)<(s.length:Nat) by omega)]
     exact ⟨(1,1,[]),rfl,hF,by simp only; omega⟩
   ·have hi2:i≤s.length:=by omega
    have e3:decide ((0:Int)<((i:Nat):Int))=true:=decide_eq_true (by omega)
    have e4:(((i:Nat):Int)-(j:Nat)).toNat=i-j:=by omega
    have e5:(0:Int)≤(j:Nat)∧((j:Nat):Int)≤(i:Nat)∧((i:Nat):Int)≤(s.length:Nat):=by omega
    have hB:=hC.bad hp hi2 hc
    have hN:=hC.next hp hi2 hc
    have hO:=sS_NameOk ((s.drop j).take (i-j)) (by simp; omega)
    obtain ⟨nm,hnm⟩:∃ nm,(s.drop j).take (i-j)=nm:=⟨_,rfl⟩
    rw [hnm] at hB hN hO
    rcases hc with hc | ⟨hc,hx⟩
    ·have e1:decide (((i:Nat):Int)<(s.length:Nat))=false:=decide_eq_false (by omega)
     simp +decide (maxSteps:=9^9) (disch:=omega) only[↓SB0,SX,seval,hQ,hQ1,e1,e3,e4,e5,hnm]
     cases hn:nameOk nm with
     | false=>
      rw [hn] at hO
      (first|refine cI hP1 (hO) rfl rfl ?_|refine cH hP1 (hO) rfl rfl ?_)
      simp +decide (maxSteps:=9^9) (disch:=omega) only[↓SB0,SX,seval,hQ,hQ1,hB (.inl hn) h0,List.map_nil]
     | true=>
      rw [hn] at hO
      by_cases h30:out.length=30
      ·(first|refine cI hP1 (hO) rfl rfl ?_|refine cH hP1 (hO) rfl rfl ?_)
       simp +decide (maxSteps:=9^9) (disch:=omega) only[↓SB0,SX,seval,hQ,hQ1,h30,hB (.inr h30) h0,List.map_nil]
      ·have e6:decide (((out.length:Nat):Int)=30)=false:=decide_eq_false (by omega)
       have hC2:=hN hn (by omega)
       (first|refine cI hP1 (hO) rfl rfl ?_|refine cH hP1 (hO) rfl rfl ?_)
       simp +decide (maxSteps:=9^9) (disch:=omega) only[↓SB0,SX,seval,hQ,hQ1,e6,snocS]
       exact ⟨(i+1,i+1,out++[nm]),rfl,hC2,by simp only; omega⟩
    ·have e1:decide (((i:Nat):Int)<(s.length:Nat))=true:=decide_eq_true (by omega)
     have e2:decide (((s[i].toNat:Nat):Int)=47)=true:=decide_eq_true ((u8_47 _).2 hx)
     simp +decide (maxSteps:=9^9) (disch:=omega) only[↓SB0,SX,seval,hQ,hQ1,e1,e2,e3,e4,e5,hnm,getE (show ((i:Nat):Int)<(s.length:Nat) by omega)]
     cases hn:nameOk nm with
     | false=>
      rw [hn] at hO
      (first|refine cI hP1 (hO) rfl rfl ?_|refine cH hP1 (hO) rfl rfl ?_)
      simp +decide (maxSteps:=9^9) (disch:=omega) only[↓SB0,SX,seval,hQ,hQ1,hB (.inl hn) h0,List.map_nil]
     | true=>
      rw [hn] at hO
      by_cases h30:out.length=30
      ·(first|refine cI hP1 (hO) rfl rfl ?_|refine cH hP1 (hO) rfl rfl ?_)
       simp +decide (maxSteps:=9^9) (disch:=omega) only[↓SB0,SX,seval,hQ,hQ1,h30,hB (.inr h30) h0,List.map_nil]
      ·have e6:decide (((out.length:Nat):Int)=30)=false:=decide_eq_false (by omega)
       have hC2:=hN hn (by omega)
       (first|refine cI hP1 (hO) rfl rfl ?_|refine cH hP1 (hO) rfl rfl ?_)
       simp +decide (maxSteps:=9^9) (disch:=omega) only[↓SB0,SX,seval,hQ,hQ1,e6,snocS]
       exact ⟨(i+1,i+1,out++[nm]),rfl,hC2,by simp only; omega⟩
 ·obtain rfl:i=s.length+1:=by omega
  cases s with
  | nil=>
   simp +decide (maxSteps:=9^9) (disch:=omega) only[↓SB0,SX,seval,hQ,hQ1,split_head (s:=[]) (by simp),List.map_nil]
  | cons c s=>
   have e7:decide ((((s.length+1:Nat)):Int)=0)=false:=decide_eq_false (by omega)
   have e8:(0:Int)<((s.length+1:Nat):Int):=by omega
   by_cases hc:c=47
   ·subst hc
    simp +decide (maxSteps:=9^9) (disch:=omega) only[↓SB0,SX,seval,hQ,hQ1,e7,e8,List.getElem?_cons_zero,hC.done rfl h0]
   ·have e9:decide (((c.toNat:Nat):Int)=47)=false:=decide_eq_false fun e=>hc ((u8_47 _).1 e)
    simp +decide (maxSteps:=9^9) (disch:=omega) only[↓SB0,SX,seval,hQ,hQ1,e7,e8,List.getElem?_cons_zero,e9,split_head (s:=c::s) (by simpa using hc),List.map_nil]
theorem sS_JoinPath (l:List Bytes) (hl:l.length<2^30) (hs:∀ n ∈ l,n.length≤14):Spec Tryz.prog 186 [.ext 1 (l.map sRow)] (.str (joinPath l)) [.undef]:=by
 by_cases h0:l=[]
 ·subst h0
  refine spec_c hmx p_S_JoinPath [] 29 [] ⟨Nat.le_of_ble_eq_true rfl,Nat.le_of_ble_eq_true rfl⟩ rfl rfl ?_
  intro w hP hQ
  unfold c_S_JoinPath
  simp +decide (maxSteps:=9^9) (disch:=omega) only[↓SB0,SX,seval,hQ]
  rfl
 have hp:0<l.length:=List.length_pos_iff.2 h0
 have hd:decide (((l.length:Nat):Int)=0)=false:=decide_eq_false (by omega)
 refine spec_c hmx p_S_JoinPath [] 29 [] ⟨Nat.le_of_ble_eq_true rfl,Nat.le_of_ble_eq_true rfl⟩ rfl rfl ?_
 intro w hP hQ
 unfold c_S_JoinPath
 simp +decide (maxSteps:=9^9) (disch:=omega) only[↓SB0,SX,seval,hQ]
 simp +decide (maxSteps:=9^9) (disch:=omega) only[↓SB0,SX,seval,hQ,hd]
 refine LH_D [2] ?_
 simp +decide (maxSteps:=9^9) (disch:=omega) only[↓SB0,SX,seval,hQ]
 refine loop_e [2] (fun i:Nat=>[(3,.str (joinS (l.take i))),(4,.int .i64 (i:Nat))]) (fun i=>i≤l.length∧(i=0∨l.length≤30)∧∀ k,k<i→(h:k<l.length)→nameOk l[k]=true) (fun i=>l.length-i) (0) hP hQ (rfl) (by simp) ?_
 rintro i ⟨hi,h30,hk⟩ w1 hP1 hQ1
 simp +decide (maxSteps:=9^9) (disch:=omega) only[↓SB0,SX,seval,hQ,hQ1]
 (first | with_reducible refine if_d _ ?_ ?_ | refine if_i _ ?_ ?_) <;> intro h1
 ·have hlt:i<l.length:=by omega
  have hO:=sS_NameOk (l[i]) (by have:=hs _ (List.getElem_mem hlt); omega)
  have hm:=List.getElem_mem hlt
  simp +decide (maxSteps:=9^9) (disch:=omega) only[↓SB0,SX,seval,hQ,hQ1,getE h1,sRow]
  cases hn:nameOk (l[i]'(by omega)) with
  | false=>
   rw [hn] at hO
   have e:joinPath l=[]:=by rw [joinPath,if_neg (by simp [names_bad hm hn])]
   (first|refine cI hP1 (hO) rfl rfl ?_|refine cH hP1 (hO) rfl rfl ?_)
   simp +decide (maxSteps:=9^9) (disch:=omega) only[↓SB0,SX,seval,hQ,hQ1,e]
  | true=>
   rw [hn] at hO
   by_cases hg:30<l.length
   ·have e:joinPath l=[]:=by rw [joinPath,if_neg (by simp [names_long hg])]
    have hg':decide ((30:Int)<(l.length:Nat))=true:=decide_eq_true (by omega)
    (first|refine cI hP1 (hO) rfl rfl ?_|refine cH hP1 (hO) rfl rfl ?_)
    simp +decide (maxSteps:=9^9) (disch:=omega) only[↓SB0,SX,seval,hQ,hQ1,e,hg']
   ·have hg':decide ((30:Int)<(l.length:Nat))=false:=decide_eq_false (by omega)
    have hb:(joinS (l.take i)).length≤450:=joinS_len (namesOk_of (by rw [List.length_take]; omega) fun n hn=>by
     obtain ⟨k,hk1,rfl⟩:=List.getElem_of_mem hn
     rw [List.getElem_take]
     exact hk k (by simp at hk1; omega) _)
    have hc:=hs _ hm
    have hb2:(joinS (l.take i)++[47]).length+(l[i]).length≤4611686018427387904:=by simp only [List.length_append,List.length_singleton]; omega
    have he:joinS (l.take i)++[47]++l[i]=joinS (l.take (i+1)):=by rw [List.take_succ_eq_append_getElem hlt,joinS_snoc]; simp
    (first|refine cI hP1 (hO) rfl rfl ?_|refine cH hP1 (hO) rfl rfl ?_)
    simp +decide (maxSteps:=9^9) (disch:=omega) only[↓SB0,SX,seval,hQ,hQ1,hg',getE h1,sRow,hb2,he]
    exact ⟨i+1,rfl,⟨by omega,.inr (by omega),fun k hk1 hk2=>by
     by_cases e:k=i
     ·subst e; exact hn
     ·exact hk k (by omega) hk2⟩,by omega⟩
 ·obtain rfl:i=l.length:=by omega
  have e:joinPath l=joinS l:=by
   rw [joinPath,if_pos (namesOk_of (by omega) fun n hn=>by obtain ⟨k,h,rfl⟩:=List.getElem_of_mem hn; exact hk k h h),if_neg h0]
  simp +decide (maxSteps:=9^9) (disch:=omega) only[↓SB0,SX,seval,hQ,hQ1,e,List.take_length]
theorem sS_ParentOf (s:Bytes) (hl:s.length<2^40):Spec Tryz.prog 90 [.str s] (.tup [.str (parentOf s).1,.str (parentOf s).2.1,.bool (parentOf s).2.2]) [.undef]:=by
 have hS:=sS_SplitPath s hl
 have hp:=split_part (s:=s)
 have hf:=split_few s
 unfold parentOf
 generalize splitPath s=x at *
 obtain ⟨l,b⟩:=x
 cases b with
 | false=>
  rw [if_neg (by simp)]
  refine spec_c hmx p_S_ParentOf [] 253 [] ⟨Nat.le_of_ble_eq_true rfl,Nat.le_of_ble_eq_true rfl⟩ rfl rfl ?_
  intro w hP hQ
  unfold c_S_ParentOf
  simp +decide (maxSteps:=9^9) (disch:=omega) only[↓SB0,SX,seval,hQ]
  (first|refine cI hP (hS) rfl rfl ?_|refine cH hP (hS) rfl rfl ?_)
  simp +decide (maxSteps:=9^9) (disch:=omega) only[↓SB0,SX,seval,hQ]
 | true=>
  cases hk:l.length with
  | zero=>
   obtain rfl:l=[]:=List.length_eq_zero_iff.1 hk
   rw [if_neg (by simp)]
   refine spec_c hmx p_S_ParentOf [] 253 [] ⟨Nat.le_of_ble_eq_true rfl,Nat.le_of_ble_eq_true rfl⟩ rfl rfl ?_
   intro w hP hQ
   unfold c_S_ParentOf
   simp +decide (maxSteps:=9^9) (disch:=omega) only[↓SB0,SX,seval,hQ]
   (first|refine cI hP (hS) rfl rfl ?_|refine cH hP (hS) rfl rfl ?_)
   simp +decide (maxSteps:=9^9) (disch:=omega) only[↓SB0,SX,seval,hQ]
  | succ k=>
   have hne:l≠[]:=fun e=>by rw [e] at hk; simp at hk
   rw [if_pos ⟨rfl,hne⟩]
   have hJ:=sS_JoinPath l.dropLast (by simp; simp only at hf; omega) fun n hn=>hp n (List.dropLast_subset _ hn)
   rw [List.dropLast_eq_take,hk] at hJ ⊢
   simp only [Nat.add_sub_cancel,List.map_take] at hJ ⊢
   have hg:=getLastD_eq hk
   have h0:(decide (((k+1:Nat):Int)=0))=false:=decide_eq_false (by omega)
   have h1:(((k+1:Nat):Int)-1)=(k:Int):=by omega
   have h2:((k:Int)-0).toNat=k:=by omega
   have h3:0+k≤k+1:=by omega
   have h4:=wrap64 (n:=k) (by simp only [hk] at hf; omega)
   refine spec_c hmx p_S_ParentOf [] 253 [] ⟨Nat.le_of_ble_eq_true rfl,Nat.le_of_ble_eq_true rfl⟩ rfl rfl ?_
   intro w hP hQ
   unfold c_S_ParentOf
   simp +decide (maxSteps:=9^9) (disch:=omega) only[↓SB0,SX,seval,hQ]
   (first|refine cI hP (hS) rfl rfl ?_|refine cH hP (hS) rfl rfl ?_)
   simp +decide (maxSteps:=9^9) (disch:=omega) only[↓SB0,SX,seval,hQ,hk,h0,h1,h2,h3,h4]
   (first|refine cI hP (hJ) rfl rfl ?_|refine cH hP (hJ) rfl rfl ?_)
   simp +decide (maxSteps:=9^9) (disch:=omega) only[↓SB0,SX,seval,hQ,hk,h0,h1,h2,h3,h4,hg,sRow]
end Go.Proofs.YtnhdalnfboiooaaGreatDoor.Awp
namespace Go.Proofs.YtnhdalnfboiooaaGreatDoor.Awp
section
variable {α:Type} {key:α→Bytes}
end
theorem putIno_set {l:List Inode} (h:UpI l) {x:Inode} {k:Nat} (hk:l.findIdx? (fun y=>decide (y.ino=x.ino))=some k):putIno l x=l.set k x:=by
 induction l generalizing k with
 | nil=>simp at hk
 | cons y l ih=>
  obtain ⟨a1,a2⟩:=List.pairwise_cons.1 h
  rw [List.findIdx?_cons] at hk
  rw [putIno]
  by_cases e:y.ino=x.ino
  ·rw [if_pos (by simpa using e)] at hk
   injection hk with hk
   subst hk
   rw [if_pos e]; rfl
  ·rw [if_neg (by simpa using e)] at hk
   cases hf:l.findIdx? (fun y=>decide (y.ino=x.ino)) with
   | none=>rw [hf] at hk; cases hk
   | some j=>
    rw [hf] at hk
    injection hk with hk
    subst hk
    obtain ⟨j1,j2,_⟩:=List.findIdx?_eq_some_iff_getElem.1 hf
    have:=a1 _ (List.getElem_mem j1)
    simp only [decide_eq_true_eq] at j2
    rw [if_neg e,if_neg (by omega),ih a2 hf]; rfl
end Go.Proofs.YtnhdalnfboiooaaGreatDoor.Awp
namespace Go.Proofs.YtnhdalnfboiooaaGreatDoor.Awp
variable {t:Tab}
theorem code_ne {s:Bytes} {c:Int} (h:statF t s=.error c):c≠0:=by
 unfold statF at h
 split at h
 ·split at h
  ·cases h
  ·cases h; decide
 ·rename_i e; cases h; exact e
theorem fcode_ne {s:Bytes} {c:Int} (h:fileF t s=.error c):c≠0:=by
 unfold fileF at h
 split at h
 ·split at h
  ·cases h
  ·cases h; decide
 ·rename_i e; cases h; exact code_ne e
end Go.Proofs.YtnhdalnfboiooaaGreatDoor.Awp
namespace Go.Proofs.YtnhdalnfboiooaaGreatDoor.Awp
open Go.Proofs
set_option linter.unusedSimpArgs false
set_option linter.unusedVariables false
open Nat (reduceEqDiff reduceAdd reduceMul reduceSub)
open Int (reduceNeg reduceToNat reducePow)
set_option maxRecDepth 100000
set_option maxHeartbeats 20000000
theorem cast_pred (m:Nat):((m+1:Nat):Int)-1=(m:Int):=by omega
theorem ok_next {α:Type} {p:Nat→α→Bool} {lt:α→α→Bool} {l:List α} {i:Nat} (hk:∀ k,k<i→stepOk p lt l k=true) (hi:stepOk p lt l i=true):∀ k,k<i+1→stepOk p lt l k=true:=by
 intro k hlt
 by_cases e:k=i
 ·subst e; exact hi
 ·exact hk k (by omega)
theorem step_bad {α:Type} {p:Nat→α→Bool} {lt:α→α→Bool} {l:List α} {i:Nat} (h:i<l.length) (hp:p i l[i]=false):stepOk p lt l i=false:=by
 rw [stepOk,List.getElem?_eq_getElem h]; simp [hp]
theorem attr_sz {l:List Attr} {n:Nat} (h:szM Attr.sz l<n):l.length<n∧∀ x ∈ l,x.name.length<n∧x.val.length<n:=by
 refine ⟨by simp only [szM] at h; omega,fun x hx=>?_⟩
 have:=sum_mem (f:=Attr.sz) hx
 simp only [szM] at h
 simp only [Attr.sz] at this
 omega
theorem ent_sz {l:List Ent} {n:Nat} (h:szM Ent.sz l<n):l.length<n∧∀ x ∈ l,x.name.length<n:=by
 refine ⟨by simp only [szM] at h; omega,fun x hx=>?_⟩
 have:=sum_mem (f:=Ent.sz) hx
 simp only [szM] at h
 simp only [Ent.sz] at this
 omega
theorem dec_c {p q:Prop} [Decidable p] [Decidable q] (h:p↔q):decide p=decide q:=by simp [h]
theorem sS_l3Attrs (l:List Attr) (hs:szM Attr.sz l<2^48):Spec Tryz.prog 288 [.ext 2 (l.map Attr.row)] (.bool (attrsB l)) [.undef]:=by
 obtain ⟨hl,hls⟩:=attr_sz hs
 refine spec_c hmx p_S_l3Attrs [] 13 [] ⟨Nat.le_of_ble_eq_true rfl,Nat.le_of_ble_eq_true rfl⟩ rfl rfl ?_
 intro w hP hQ
 unfold c_S_l3Attrs
 simp +decide (maxSteps:=9^9) (disch:=omega) only[↓SB0,SX,seval,hQ]
 refine LH_D [2] ?_
 simp +decide (maxSteps:=9^9) (disch:=omega) only[↓SB0,SX,seval,hQ]
 refine loop_e [2] (fun i:Nat=>[(3,.int .i64 i)]) (fun i=>i≤l.length∧∀ k,k<i→stepOk (fun _=>attrP) attrLt l k=true) (fun i=>l.length-i) (0) hP hQ (rfl) (by simp) ?_
 rintro i ⟨hi,hk⟩ w1 hP1 hQ1
 simp +decide (maxSteps:=9^9) (disch:=omega) only[↓SB0,SX,seval,hQ,hQ1]
 (first | with_reducible refine if_d _ ?_ ?_ | refine if_i _ ?_ ?_) <;> intro h1
 ·have hlt:i<l.length:=by omega
  have hno:stepOk (fun _=>attrP) attrLt l i=false→attrsB l=false:=fun e=>(fun e=>by rw [attrsB,attrsIn,e]; rfl) (allOk_no hlt e)
  obtain hla:=hls _ (List.getElem_mem hlt)
  cases hN:nameOk (l[i]'hlt).name with
  | false=>
   simp +decide (maxSteps:=9^9) (disch:=omega) only[↓SB0,SX,seval,hQ,hQ1,getE h1]
   (first|refine cI hP1 (sS_NameOk (l[i]'hlt).name (by omega)) rfl rfl ?_|refine cH hP1 (sS_NameOk (l[i]'hlt).name (by omega)) rfl rfl ?_)
   simp +decide (maxSteps:=9^9) (disch:=omega) only[↓SB0,SX,seval,hQ,hQ1,hN]
   rw [hno (step_bad hlt (by simp [attrP,hN]))]
  | true=>
   cases hV:inR (((l[i]'hlt).val.length:Nat)) 1 16 with
   | false=>
    simp +decide (maxSteps:=9^9) (disch:=omega) only[↓SB0,SX,seval,hQ,hQ1,getE h1]
    (first|refine cI hP1 (sS_NameOk (l[i]'hlt).name (by omega)) rfl rfl ?_|refine cH hP1 (sS_NameOk (l[i]'hlt).name (by omega)) rfl rfl ?_)
    simp +decide (maxSteps:=9^9) (disch:=omega) only[↓SB0,SX,seval,hQ,hQ1,hN,getE h1]
    (first|refine cI hP1 (s_l1In (((l[i]'hlt).val.length:Nat)) 1 16) rfl rfl ?_|refine cH hP1 (s_l1In (((l[i]'hlt).val.length:Nat)) 1 16) rfl rfl ?_)
    simp +decide (maxSteps:=9^9) (disch:=omega) only[↓SB0,SX,seval,hQ,hQ1,hV]
    rw [hno (step_bad hlt (by simp [attrP,hV]))]
   | true=>
    cases i with
    | zero=>
     simp +decide (maxSteps:=9^9) (disch:=omega) only[↓SB0,SX,seval,hQ,hQ1,getE h1]
     (first|refine cI hP1 (sS_NameOk (l[0]'hlt).name (by omega)) rfl rfl ?_|refine cH hP1 (sS_NameOk (l[0]'hlt).name (by omega)) rfl rfl ?_)
     simp +decide (maxSteps:=9^9) (disch:=omega) only[↓SB0,SX,seval,hQ,hQ1,hN,getE h1]
     (first|refine cI hP1 (s_l1In (((l[0]'hlt).val.length:Nat)) 1 16) rfl rfl ?_|refine cH hP1 (s_l1In (((l[0]'hlt).val.length:Nat)) 1 16) rfl rfl ?_)
     simp +decide (maxSteps:=9^9) (disch:=omega) only[↓SB0,SX,seval,hQ,hQ1,hV,getE h1]
     exact ⟨1,rfl,⟨by omega,ok_next hk (by rw [stepOk_zero hlt]; simp [attrP,hN,hV])⟩,by omega⟩
    | succ m=>
     have w4:decide ((0:Int)<((m+1:Nat):Int))=true:=decide_eq_true (by omega)
     have hm:=getE (show ((m:Nat):Int)<(l.length:Nat) by omega)
     cases hD:strLt (l[m]'(by omega)).name (l[m+1]'hlt).name with
     | false=>
      simp +decide (maxSteps:=9^9) (disch:=omega) only[↓SB0,SX,seval,hQ,hQ1,getE h1]
      (first|refine cI hP1 (sS_NameOk (l[m+1]'hlt).name (by omega)) rfl rfl ?_|refine cH hP1 (sS_NameOk (l[m+1]'hlt).name (by omega)) rfl rfl ?_)
      simp +decide (maxSteps:=9^9) (disch:=omega) only[↓SB0,SX,seval,hQ,hQ1,hN,getE h1]
      (first|refine cI hP1 (s_l1In (((l[m+1]'hlt).val.length:Nat)) 1 16) rfl rfl ?_|refine cH hP1 (s_l1In (((l[m+1]'hlt).val.length:Nat)) 1 16) rfl rfl ?_)
      simp +decide (maxSteps:=9^9) (disch:=omega) only[↓SB0,SX,seval,hQ,hQ1,hV,w4,cast_pred,hm,getE h1,hD]
      rw [hno (by rw [stepOk_succ hlt,attrLt,← strLt_eq,hD]; simp)]
     | true=>
      simp +decide (maxSteps:=9^9) (disch:=omega) only[↓SB0,SX,seval,hQ,hQ1,getE h1]
      (first|refine cI hP1 (sS_NameOk (l[m+1]'hlt).name (by omega)) rfl rfl ?_|refine cH hP1 (sS_NameOk (l[m+1]'hlt).name (by omega)) rfl rfl ?_)
      simp +decide (maxSteps:=9^9) (disch:=omega) only[↓SB0,SX,seval,hQ,hQ1,hN,getE h1]
      (first|refine cI hP1 (s_l1In (((l[m+1]'hlt).val.length:Nat)) 1 16) rfl rfl ?_|refine cH hP1 (s_l1In (((l[m+1]'hlt).val.length:Nat)) 1 16) rfl rfl ?_)
      simp +decide (maxSteps:=9^9) (disch:=omega) only[↓SB0,SX,seval,hQ,hQ1,hV,w4,cast_pred,hm,getE h1,hD]
      exact ⟨m+1+1,rfl,⟨by omega,ok_next hk (by rw [stepOk_succ hlt,attrLt,← strLt_eq,hD]; simp [attrP,hN,hV])⟩,by omega⟩
 ·obtain rfl:i=l.length:=by omega
  have e:attrsIn l=true:=allOk_yes fun k h=>hk k h
  simp +decide (maxSteps:=9^9) (disch:=omega) only[↓SB0,SX,seval,hQ,hQ1]
  rw [attrsB,e,Bool.true_and]
  rw [dec_c (p:=(l.length:Int)≤4) (q:=l.length≤4) (by omega)]
theorem sS_l3Ents (l:List Ent) (hs:szM Ent.sz l<2^48):Spec Tryz.prog 287 [.ext 2 (l.map Ent.row)] (.bool (entsB l)) [.undef]:=by
 obtain ⟨hl,hls⟩:=ent_sz hs
 refine spec_c hmx p_S_l3Ents [] 13 [] ⟨Nat.le_of_ble_eq_true rfl,Nat.le_of_ble_eq_true rfl⟩ rfl rfl ?_
 intro w hP hQ
 unfold c_S_l3Ents
 simp +decide (maxSteps:=9^9) (disch:=omega) only[↓SB0,SX,seval,hQ]
 refine LH_D [2] ?_
 simp +decide (maxSteps:=9^9) (disch:=omega) only[↓SB0,SX,seval,hQ]
 refine loop_e [2] (fun i:Nat=>[(3,.int .i64 i)]) (fun i=>i≤l.length∧∀ k,k<i→stepOk (fun _=>entP) entLt l k=true) (fun i=>l.length-i) (0) hP hQ (rfl) (by simp) ?_
 rintro i ⟨hi,hk⟩ w1 hP1 hQ1
 simp +decide (maxSteps:=9^9) (disch:=omega) only[↓SB0,SX,seval,hQ,hQ1]
 (first | with_reducible refine if_d _ ?_ ?_ | refine if_i _ ?_ ?_) <;> intro h1
 ·have hlt:i<l.length:=by omega
  have hno:stepOk (fun _=>entP) entLt l i=false→entsB l=false:=fun e=>(fun e=>by rw [entsB,entsIn,e]; rfl) (allOk_no hlt e)
  obtain hla:=hls _ (List.getElem_mem hlt)
  cases hN:nameOk (l[i]'hlt).name with
  | false=>
   simp +decide (maxSteps:=9^9) (disch:=omega) only[↓SB0,SX,seval,hQ,hQ1,getE h1]
   (first|refine cI hP1 (sS_NameOk (l[i]'hlt).name (by omega)) rfl rfl ?_|refine cH hP1 (sS_NameOk (l[i]'hlt).name (by omega)) rfl rfl ?_)
   simp +decide (maxSteps:=9^9) (disch:=omega) only[↓SB0,SX,seval,hQ,hQ1,hN]
   rw [hno (step_bad hlt (by simp [entP,hN]))]
  | true=>
   cases hV:inR ((l[i]'hlt).ino) 2 1000 with
   | false=>
    simp +decide (maxSteps:=9^9) (disch:=omega) only[↓SB0,SX,seval,hQ,hQ1,getE h1]
    (first|refine cI hP1 (sS_NameOk (l[i]'hlt).name (by omega)) rfl rfl ?_|refine cH hP1 (sS_NameOk (l[i]'hlt).name (by omega)) rfl rfl ?_)
    simp +decide (maxSteps:=9^9) (disch:=omega) only[↓SB0,SX,seval,hQ,hQ1,hN,getE h1]
    (first|refine cI hP1 (s_l1In ((l[i]'hlt).ino) 2 1000) rfl rfl ?_|refine cH hP1 (s_l1In ((l[i]'hlt).ino) 2 1000) rfl rfl ?_)
    simp +decide (maxSteps:=9^9) (disch:=omega) only[↓SB0,SX,seval,hQ,hQ1,hV]
    rw [hno (step_bad hlt (by simp [entP,hV]))]
   | true=>
    cases i with
    | zero=>
     simp +decide (maxSteps:=9^9) (disch:=omega) only[↓SB0,SX,seval,hQ,hQ1,getE h1]
     (first|refine cI hP1 (sS_NameOk (l[0]'hlt).name (by omega)) rfl rfl ?_|refine cH hP1 (sS_NameOk (l[0]'hlt).name (by omega)) rfl rfl ?_)
     simp +decide (maxSteps:=9^9) (disch:=omega) only[↓SB0,SX,seval,hQ,hQ1,hN,getE h1]
     (first|refine cI hP1 (s_l1In ((l[0]'hlt).ino) 2 1000) rfl rfl ?_|refine cH hP1 (s_l1In ((l[0]'hlt).ino) 2 1000) rfl rfl ?_)
     simp +decide (maxSteps:=9^9) (disch:=omega) only[↓SB0,SX,seval,hQ,hQ1,hV,getE h1]
     exact ⟨1,rfl,⟨by omega,ok_next hk (by rw [stepOk_zero hlt]; simp [entP,hN,hV])⟩,by omega⟩
    | succ m=>
     have w4:decide ((0:Int)<((m+1:Nat):Int))=true:=decide_eq_true (by omega)
     have hm:=getE (show ((m:Nat):Int)<(l.length:Nat) by omega)
     cases hD:strLt (l[m]'(by omega)).name (l[m+1]'hlt).name with
     | false=>
      simp +decide (maxSteps:=9^9) (disch:=omega) only[↓SB0,SX,seval,hQ,hQ1,getE h1]
      (first|refine cI hP1 (sS_NameOk (l[m+1]'hlt).name (by omega)) rfl rfl ?_|refine cH hP1 (sS_NameOk (l[m+1]'hlt).name (by omega)) rfl rfl ?_)
      simp +decide (maxSteps:=9^9) (disch:=omega) only[↓SB0,SX,seval,hQ,hQ1,hN,getE h1]
      (first|refine cI hP1 (s_l1In ((l[m+1]'hlt).ino) 2 1000) rfl rfl ?_|refine cH hP1 (s_l1In ((l[m+1]'hlt).ino) 2 1000) rfl rfl ?_)
      simp +decide (maxSteps:=9^9) (disch:=omega) only[↓SB0,SX,seval,hQ,hQ1,hV,w4,cast_pred,hm,getE h1,hD]
      rw [hno (by rw [stepOk_succ hlt,entLt,← strLt_eq,hD]; simp)]
     | true=>
      simp +decide (maxSteps:=9^9) (disch:=omega) only[↓SB0,SX,seval,hQ,hQ1,getE h1]
      (first|refine cI hP1 (sS_NameOk (l[m+1]'hlt).name (by omega)) rfl rfl ?_|refine cH hP1 (sS_NameOk (l[m+1]'hlt).name (by omega)) rfl rfl ?_)
      simp +decide (maxSteps:=9^9) (disch:=omega) only[↓SB0,SX,seval,hQ,hQ1,hN,getE h1]
      (first|refine cI hP1 (s_l1In ((l[m+1]'hlt).ino) 2 1000) rfl rfl ?_|refine cH hP1 (s_l1In ((l[m+1]'hlt).ino) 2 1000) rfl rfl ?_)
      simp +decide (maxSteps:=9^9) (disch:=omega) only[↓SB0,SX,seval,hQ,hQ1,hV,w4,cast_pred,hm,getE h1,hD]
      exact ⟨m+1+1,rfl,⟨by omega,ok_next hk (by rw [stepOk_succ hlt,entLt,← strLt_eq,hD]; simp [entP,hN,hV])⟩,by omega⟩
 ·obtain rfl:i=l.length:=by omega
  have e:entsIn l=true:=allOk_yes fun k h=>hk k h
  simp +decide (maxSteps:=9^9) (disch:=omega) only[↓SB0,SX,seval,hQ,hQ1]
  rw [entsB,e,Bool.true_and]
  rw [dec_c (p:=(l.length:Int)≤10) (q:=l.length≤10) (by omega)]
theorem sI_attrsOk (l:List Attr) (hs:szM Attr.sz l<2^48):Spec Tryz.prog 281 [.ext 2 (l.map Attr.row)] (.bool (attrsB l)) [.undef]:=by
 obtain ⟨hl,hls⟩:=attr_sz hs
 refine spec_c hmx p_I_attrsOk [] 253 [] ⟨Nat.le_of_ble_eq_true rfl,Nat.le_of_ble_eq_true rfl⟩ rfl rfl ?_
 intro w hP hQ
 unfold c_I_attrsOk
 simp +decide (maxSteps:=9^9) (disch:=omega) only[↓SB0,SX,seval,hQ]
 refine LH_D [2,3,4,5004] ?_
 simp +decide (maxSteps:=9^9) (disch:=omega) only[↓SB0,SX,seval,hQ]
 refine loop_e [2,3,4,5004] (fun i:Nat=>[(7,.int .i64 i)]) (fun i=>i≤l.length∧∀ k,k<i→stepOk (fun _=>attrP) attrLt l k=true) (fun i=>l.length-i) (0) hP hQ (rfl) (by simp) ?_
 rintro i ⟨hi,hk⟩ w1 hP1 hQ1
 simp +decide (maxSteps:=9^9) (disch:=omega) only[↓SB0,SX,seval,hQ,hQ1]
 (first | with_reducible refine if_d _ ?_ ?_ | refine if_i _ ?_ ?_) <;> intro h1
 ·have hlt:i<l.length:=by omega
  have hno:stepOk (fun _=>attrP) attrLt l i=false→attrsB l=false:=fun e=>(fun e=>by rw [attrsB,attrsIn,e]; rfl) (allOk_no hlt e)
  obtain hla:=hls _ (List.getElem_mem hlt)
  cases hN:nameOk (l[i]'hlt).name with
  | false=>
   simp +decide (maxSteps:=9^9) (disch:=omega) only[↓SB0,SX,seval,hQ,hQ1,getE h1]
   (first|refine cI hP1 (sI_NameOk (l[i]'hlt).name (by omega)) rfl rfl ?_|refine cH hP1 (sI_NameOk (l[i]'hlt).name (by omega)) rfl rfl ?_)
   simp +decide (maxSteps:=9^9) (disch:=omega) only[↓SB0,SX,seval,hQ,hQ1,hN]
   rw [hno (step_bad hlt (by simp [attrP,hN]))]
  | true=>
   cases hV:inR (((l[i]'hlt).val.length:Nat)) 1 16 with
   | false=>
    simp +decide (maxSteps:=9^9) (disch:=omega) only[↓SB0,SX,seval,hQ,hQ1,getE h1]
    (first|refine cI hP1 (sI_NameOk (l[i]'hlt).name (by omega)) rfl rfl ?_|refine cH hP1 (sI_NameOk (l[i]'hlt).name (by omega)) rfl rfl ?_)
    simp +decide (maxSteps:=9^9) (disch:=omega) only[↓SB0,SX,seval,hQ,hQ1,hN,getE h1]
    (first|refine cI hP1 (s_from (((l[i]'hlt).val.length:Nat)) 1 16) rfl rfl ?_|refine cH hP1 (s_from (((l[i]'hlt).val.length:Nat)) 1 16) rfl rfl ?_)
    simp +decide (maxSteps:=9^9) (disch:=omega) only[↓SB0,SX,seval,hQ,hQ1,hV]
    rw [hno (step_bad hlt (by simp [attrP,hV]))]
   | true=>
    cases i with
    | zero=>
     simp +decide (maxSteps:=9^9) (disch:=omega) only[↓SB0,SX,seval,hQ,hQ1,getE h1]
     (first|refine cI hP1 (sI_NameOk (l[0]'hlt).name (by omega)) rfl rfl ?_|refine cH hP1 (sI_NameOk (l[0]'hlt).name (by omega)) rfl rfl ?_)
     simp +decide (maxSteps:=9^9) (disch:=omega) only[↓SB0,SX,seval,hQ,hQ1,hN,getE h1]
     (first|refine cI hP1 (s_from (((l[0]'hlt).val.length:Nat)) 1 16) rfl rfl ?_|refine cH hP1 (s_from (((l[0]'hlt).val.length:Nat)) 1 16) rfl rfl ?_)
     simp +decide (maxSteps:=9^9) (disch:=omega) only[↓SB0,SX,seval,hQ,hQ1,hV,getE h1]
     exact ⟨1,rfl,⟨by omega,ok_next hk (by rw [stepOk_zero hlt]; simp [attrP,hN,hV])⟩,by omega⟩
    | succ m=>
     have w4:decide ((0:Int)<((m+1:Nat):Int))=true:=decide_eq_true (by omega)
     have hm:=getE (show ((m:Nat):Int)<(l.length:Nat) by omega)
     cases hD:strLt (l[m]'(by omega)).name (l[m+1]'hlt).name with
     | false=>
      simp +decide (maxSteps:=9^9) (disch:=omega) only[↓SB0,SX,seval,hQ,hQ1,getE h1]
      (first|refine cI hP1 (sI_NameOk (l[m+1]'hlt).name (by omega)) rfl rfl ?_|refine cH hP1 (sI_NameOk (l[m+1]'hlt).name (by omega)) rfl rfl ?_)
      simp +decide (maxSteps:=9^9) (disch:=omega) only[↓SB0,SX,seval,hQ,hQ1,hN,getE h1]
      (first|refine cI hP1 (s_from (((l[m+1]'hlt).val.length:Nat)) 1 16) rfl rfl ?_|refine cH hP1 (s_from (((l[m+1]'hlt).val.length:Nat)) 1 16) rfl rfl ?_)
      simp +decide (maxSteps:=9^9) (disch:=omega) only[↓SB0,SX,seval,hQ,hQ1,hV,w4,cast_pred,hm,getE h1,hD]
      rw [hno (by rw [stepOk_succ hlt,attrLt,← strLt_eq,hD]; simp)]
     | true=>
      simp +decide (maxSteps:=9^9) (disch:=omega) only[↓SB0,SX,seval,hQ,hQ1,getE h1]
      (first|refine cI hP1 (sI_NameOk (l[m+1]'hlt).name (by omega)) rfl rfl ?_|refine cH hP1 (sI_NameOk (l[m+1]'hlt).name (by omega)) rfl rfl ?_)
      simp +decide (maxSteps:=9^9) (disch:=omega) only[↓SB0,SX,seval,hQ,hQ1,hN,getE h1]
      (first|refine cI hP1 (s_from (((l[m+1]'hlt).val.length:Nat)) 1 16) rfl rfl ?_|refine cH hP1 (s_from (((l[m+1]'hlt).val.length:Nat)) 1 16) rfl rfl ?_)
      simp +decide (maxSteps:=9^9) (disch:=omega) only[↓SB0,SX,seval,hQ,hQ1,hV,w4,cast_pred,hm,getE h1,hD]
      exact ⟨m+1+1,rfl,⟨by omega,ok_next hk (by rw [stepOk_succ hlt,attrLt,← strLt_eq,hD]; simp [attrP,hN,hV])⟩,by omega⟩
 ·obtain rfl:i=l.length:=by omega
  have e:attrsIn l=true:=allOk_yes fun k h=>hk k h
  simp +decide (maxSteps:=9^9) (disch:=omega) only[↓SB0,SX,seval,hQ,hQ1]
  rw [attrsB,e,Bool.true_and]
  rw [dec_c (p:=(l.length:Int)≤4) (q:=l.length≤4) (by omega)]
end Go.Proofs.YtnhdalnfboiooaaGreatDoor.Awp
namespace Go.Proofs.YtnhdalnfboiooaaGreatDoor.Awp
open Go.Proofs
set_option linter.unusedSimpArgs false
set_option linter.unusedVariables false
open Nat (reduceEqDiff reduceAdd reduceMul reduceSub)
open Int (reduceNeg reduceToNat reducePow)
set_option maxRecDepth 100000
set_option maxHeartbeats 20000000
end Go.Proofs.YtnhdalnfboiooaaGreatDoor.Awp
namespace Go.Proofs.YtnhdalnfboiooaaGreatDoor.Awp
open Go.Proofs
set_option linter.unusedSimpArgs false
set_option linter.unusedVariables false
open Nat (reduceEqDiff reduceAdd reduceMul reduceSub)
open Int (reduceNeg reduceToNat reducePow)
set_option maxRecDepth 100000
set_option maxHeartbeats 20000000
theorem inode_sz {x:Inode} {n:Nat} (h:x.sz<n):x.data.length<n∧x.ents.length<n∧x.attrs.length<n:=by
 simp only [Inode.sz,szM] at h; omega
end Go.Proofs.YtnhdalnfboiooaaGreatDoor.Awp
namespace Go.Proofs.YtnhdalnfboiooaaGreatDoor.Awp
open Go.Proofs
set_option linter.unusedSimpArgs false
set_option linter.unusedVariables false
open Nat (reduceEqDiff reduceAdd reduceMul reduceSub)
open Int (reduceNeg reduceToNat reducePow)
set_option maxRecDepth 100000
set_option maxHeartbeats 20000000
theorem bcase (b:Bool):b=false∨b=true:=by cases b <;> simp
theorem inode_sz2 {x:Inode} (h:x.sz<2^48):x.data.length<2^48∧szM Ent.sz x.ents<2^48∧szM Attr.sz x.attrs<2^48∧x.ents.length<2^48∧x.attrs.length<2^48:=by
 simp only [Inode.sz] at h
 refine ⟨by omega,by omega,by omega,?_,?_⟩
 ·have:szM Ent.sz x.ents=x.ents.length+(x.ents.map Ent.sz).sum:=rfl
  omega
 ·have:szM Attr.sz x.attrs=x.attrs.length+(x.attrs.map Attr.sz).sum:=rfl
  omega
theorem sS_InodeOk (x:Inode) (h:x.sz<2^48):Spec Tryz.prog 245 [x.x] (.bool (inodeB x)) [.undef]:=by
 obtain ⟨h1,h2,h3,h4,h5⟩:=inode_sz2 h
 refine spec_c hmx p_S_InodeOk [] 2199023255559 [] ⟨Nat.le_of_ble_eq_true rfl,Nat.le_of_ble_eq_true rfl⟩ rfl rfl ?_
 intro w hP hQ
 unfold c_S_InodeOk
 simp +decide (maxSteps:=9^9) (disch:=omega) only[↓SB0,SX,seval,hQ]
 rcases bcase (inR x.ino 1 1000) with hA | hA
 ·(first|refine cI hP (s_l1In x.ino 1 1000) rfl rfl ?_|refine cH hP (s_l1In x.ino 1 1000) rfl rfl ?_)
  simp +decide (maxSteps:=9^9) (disch:=omega) only[↓SB0,SX,seval,hQ,hA]
  simp [inodeB,hA]
 (first|refine cI hP (s_l1In x.ino 1 1000) rfl rfl ?_|refine cH hP (s_l1In x.ino 1 1000) rfl rfl ?_)
 simp +decide (maxSteps:=9^9) (disch:=omega) only[↓SB0,SX,seval,hQ,hA]
 rcases bcase (inR x.links 0 1000) with hB | hB
 ·(first|refine cI hP (s_l1In x.links 0 1000) rfl rfl ?_|refine cH hP (s_l1In x.links 0 1000) rfl rfl ?_)
  simp +decide (maxSteps:=9^9) (disch:=omega) only[↓SB0,SX,seval,hQ,hB]
  simp [inodeB,hB]
 (first|refine cI hP (s_l1In x.links 0 1000) rfl rfl ?_|refine cH hP (s_l1In x.links 0 1000) rfl rfl ?_)
 simp +decide (maxSteps:=9^9) (disch:=omega) only[↓SB0,SX,seval,hQ,hB]
 (first | with_reducible refine gd_d _ ?_ ?_ | refine gd_i _ ?_ ?_) <;> intro hC
 rotate_left
 ·simp +decide (maxSteps:=9^9) (disch:=omega) only[↓SB0,SX,seval,hQ,hC]
  simp [inodeB,hC]
 simp +decide (maxSteps:=9^9) (disch:=omega) only[↓SB0,SX,seval,hQ,hC]
 (first | with_reducible refine gd_d _ ?_ ?_ | refine gd_i _ ?_ ?_) <;> intro hD
 ·simp +decide (maxSteps:=9^9) (disch:=omega) only[↓SB0,SX,seval,hQ,hD]
  simp [inodeB]; omega
 simp +decide (maxSteps:=9^9) (disch:=omega) only[↓SB0,SX,seval,hQ,hD]
 rcases bcase (entsB x.ents) with hE | hE
 ·(first|refine cI hP (sS_l3Ents x.ents h2) rfl rfl ?_|refine cH hP (sS_l3Ents x.ents h2) rfl rfl ?_)
  simp +decide (maxSteps:=9^9) (disch:=omega) only[↓SB0,SX,seval,hQ,hE]
  simp [inodeB,hE]
 (first|refine cI hP (sS_l3Ents x.ents h2) rfl rfl ?_|refine cH hP (sS_l3Ents x.ents h2) rfl rfl ?_)
 simp +decide (maxSteps:=9^9) (disch:=omega) only[↓SB0,SX,seval,hQ,hE]
 rcases bcase (attrsB x.attrs) with hF | hF
 ·(first|refine cI hP (sS_l3Attrs x.attrs h3) rfl rfl ?_|refine cH hP (sS_l3Attrs x.attrs h3) rfl rfl ?_)
  simp +decide (maxSteps:=9^9) (disch:=omega) only[↓SB0,SX,seval,hQ,hF]
  simp [inodeB,hF]
 (first|refine cI hP (sS_l3Attrs x.attrs h3) rfl rfl ?_|refine cH hP (sS_l3Attrs x.attrs h3) rfl rfl ?_)
 simp +decide (maxSteps:=9^9) (disch:=omega) only[↓SB0,SX,seval,hQ,hF]
 have key:inodeB x=kindB x:=by
  simp [inodeB,hA,hB,hC,hE,hF]; omega
 (first | with_reducible refine if_d _ ?_ ?_ | refine if_i _ ?_ ?_) <;> intro k1
 ·simp +decide (maxSteps:=9^9) (disch:=omega) only[↓SB0,SX,seval,hQ]
  rw [key,kindB,if_pos k1,dec_c (p:=(x.ents.length:Int)=0) (q:=x.ents.length=0) (by omega)]
 simp +decide (maxSteps:=9^9) (disch:=omega) only[↓SB0,SX,seval,hQ]
 (first | with_reducible refine if_d _ ?_ ?_ | refine if_i _ ?_ ?_) <;> intro k2
 ·simp +decide (maxSteps:=9^9) (disch:=omega) only[↓SB0,SX,seval,hQ]
  (first | with_reducible refine gd_d _ ?_ ?_ | refine gd_i _ ?_ ?_) <;> intro k3
  ·simp +decide (maxSteps:=9^9) (disch:=omega) only[↓SB0,SX,seval,hQ,k3]
   rw [key,kindB,if_neg k1,if_pos k2,decide_eq_true (show x.data.length=0 by omega),Bool.true_and]
  ·simp +decide (maxSteps:=9^9) (disch:=omega) only[↓SB0,SX,seval,hQ,k3]
   rw [key,kindB,if_neg k1,if_pos k2,decide_eq_false (show ¬ x.data.length=0 by omega),Bool.false_and]
 ·simp +decide (maxSteps:=9^9) (disch:=omega) only[↓SB0,SX,seval,hQ]
  rw [key,kindB,if_neg k1,if_neg k2]
theorem ents_bad {x:Inode} (e:entsIn x.ents=false):inodeB x=false:=by simp [inodeB,entsB,e]
theorem sI_InodeOk (x:Inode) (h:x.sz<2^48):Spec Tryz.prog 234 [x.x] (.bool (inodeB x)) [.undef]:=by
 obtain ⟨h1,h2,h3,h4,h5⟩:=inode_sz2 h
 obtain ⟨hl,hls⟩:=ent_sz h2
 refine spec_c hmx p_I_InodeOk [] 75557863725916202467359 [] ⟨Nat.le_of_ble_eq_true rfl,Nat.le_of_ble_eq_true rfl⟩ rfl rfl ?_
 intro w hP hQ
 unfold c_I_InodeOk
 simp +decide (maxSteps:=9^9) (disch:=omega) only[↓SB0,SX,seval,hQ]
 rcases bcase (inR x.ino 1 1000) with hA | hA
 ·(first|refine cI hP (s_from x.ino 1 1000) rfl rfl ?_|refine cH hP (s_from x.ino 1 1000) rfl rfl ?_)
  simp +decide (maxSteps:=9^9) (disch:=omega) only[↓SB0,SX,seval,hQ,hA]
  simp [inodeB,hA]
 (first|refine cI hP (s_from x.ino 1 1000) rfl rfl ?_|refine cH hP (s_from x.ino 1 1000) rfl rfl ?_)
 simp +decide (maxSteps:=9^9) (disch:=omega) only[↓SB0,SX,seval,hQ,hA]
 (first | with_reducible refine gd_d _ ?_ ?_ | refine gd_i _ ?_ ?_) <;> intro hD
 ·simp +decide (maxSteps:=9^9) (disch:=omega) only[↓SB0,SX,seval,hQ,hD]
  simp [inodeB]; omega
 simp +decide (maxSteps:=9^9) (disch:=omega) only[↓SB0,SX,seval,hQ,hD]
 (first | with_reducible refine gd_d _ ?_ ?_ | refine gd_i _ ?_ ?_) <;> intro hG
 ·simp +decide (maxSteps:=9^9) (disch:=omega) only[↓SB0,SX,seval,hQ,hG]
  simp [inodeB,entsB]; omega
 simp +decide (maxSteps:=9^9) (disch:=omega) only[↓SB0,SX,seval,hQ,hG]
 rcases bcase (attrsB x.attrs) with hF | hF
 ·(first|refine cI hP (sI_attrsOk x.attrs h3) rfl rfl ?_|refine cH hP (sI_attrsOk x.attrs h3) rfl rfl ?_)
  simp +decide (maxSteps:=9^9) (disch:=omega) only[↓SB0,SX,seval,hQ,hF]
  simp [inodeB,hF]
 (first|refine cI hP (sI_attrsOk x.attrs h3) rfl rfl ?_|refine cH hP (sI_attrsOk x.attrs h3) rfl rfl ?_)
 simp +decide (maxSteps:=9^9) (disch:=omega) only[↓SB0,SX,seval,hQ,hF]
 refine LH_D [2,3,4,5004] ?_
 simp +decide (maxSteps:=9^9) (disch:=omega) only[↓SB0,SX,seval,hQ]
 refine loop_e [2,3,4,5004] (fun i:Nat=>[(30,.int .i64 i)]) (fun i=>i≤x.ents.length∧∀ k,k<i→stepOk (fun _=>entP) entLt x.ents k=true) (fun i=>x.ents.length-i) (0) hP hQ (rfl) (by simp) ?_
 rintro i ⟨hi,hk⟩ w1 hP1 hQ1
 simp +decide (maxSteps:=9^9) (disch:=omega) only[↓SB0,SX,seval,hQ,hQ1]
 (first | with_reducible refine if_d _ ?_ ?_ | refine if_i _ ?_ ?_) <;> intro h1
 ·have hlt:i<x.ents.length:=by omega
  have hno:stepOk (fun _=>entP) entLt x.ents i=false→inodeB x=false:=fun e=>ents_bad (allOk_no hlt e)
  obtain hla:=hls _ (List.getElem_mem hlt)
  cases hN:nameOk (x.ents[i]'hlt).name with
  | false=>
   simp +decide (maxSteps:=9^9) (disch:=omega) only[↓SB0,SX,seval,hQ,hQ1,getE h1]
   (first|refine cI hP1 (sI_NameOk (x.ents[i]'hlt).name (by omega)) rfl rfl ?_|refine cH hP1 (sI_NameOk (x.ents[i]'hlt).name (by omega)) rfl rfl ?_)
   simp +decide (maxSteps:=9^9) (disch:=omega) only[↓SB0,SX,seval,hQ,hQ1,hN]
   rw [hno (step_bad hlt (by simp [entP,hN]))]
  | true=>
   cases hV:inR ((x.ents[i]'hlt).ino) 2 1000 with
   | false=>
    simp +decide (maxSteps:=9^9) (disch:=omega) only[↓SB0,SX,seval,hQ,hQ1,getE h1]
    (first|refine cI hP1 (sI_NameOk (x.ents[i]'hlt).name (by omega)) rfl rfl ?_|refine cH hP1 (sI_NameOk (x.ents[i]'hlt).name (by omega)) rfl rfl ?_)
    simp +decide (maxSteps:=9^9) (disch:=omega) only[↓SB0,SX,seval,hQ,hQ1,hN,getE h1]
    (first|refine cI hP1 (s_from ((x.ents[i]'hlt).ino) 2 1000) rfl rfl ?_|refine cH hP1 (s_from ((x.ents[i]'hlt).ino) 2 1000) rfl rfl ?_)
    simp +decide (maxSteps:=9^9) (disch:=omega) only[↓SB0,SX,seval,hQ,hQ1,hV]
    rw [hno (step_bad hlt (by simp [entP,hV]))]
   | true=>
    cases i with
    | zero=>
     simp +decide (maxSteps:=9^9) (disch:=omega) only[↓SB0,SX,seval,hQ,hQ1,getE h1]
     (first|refine cI hP1 (sI_NameOk (x.ents[0]'hlt).name (by omega)) rfl rfl ?_|refine cH hP1 (sI_NameOk (x.ents[0]'hlt).name (by omega)) rfl rfl ?_)
     simp +decide (maxSteps:=9^9) (disch:=omega) only[↓SB0,SX,seval,hQ,hQ1,hN,getE h1]
     (first|refine cI hP1 (s_from ((x.ents[0]'hlt).ino) 2 1000) rfl rfl ?_|refine cH hP1 (s_from ((x.ents[0]'hlt).ino) 2 1000) rfl rfl ?_)
     simp +decide (maxSteps:=9^9) (disch:=omega) only[↓SB0,SX,seval,hQ,hQ1,hV,getE h1]
     exact ⟨1,rfl,⟨by omega,ok_next hk (by rw [stepOk_zero hlt]; simp [entP,hN,hV])⟩,by omega⟩
    | succ m=>
     have w4:decide ((0:Int)<((m+1:Nat):Int))=true:=decide_eq_true (by omega)
     have hm:=getE (show ((m:Nat):Int)<(x.ents.length:Nat) by omega)
     cases hD:strLt (x.ents[m]'(by omega)).name (x.ents[m+1]'hlt).name with
     | false=>
      simp +decide (maxSteps:=9^9) (disch:=omega) only[↓SB0,SX,seval,hQ,hQ1,getE h1]
      (first|refine cI hP1 (sI_NameOk (x.ents[m+1]'hlt).name (by omega)) rfl rfl ?_|refine cH hP1 (sI_NameOk (x.ents[m+1]'hlt).name (by omega)) rfl rfl ?_)
      simp +decide (maxSteps:=9^9) (disch:=omega) only[↓SB0,SX,seval,hQ,hQ1,hN,getE h1]
      (first|refine cI hP1 (s_from ((x.ents[m+1]'hlt).ino) 2 1000) rfl rfl ?_|refine cH hP1 (s_from ((x.ents[m+1]'hlt).ino) 2 1000) rfl rfl ?_)
      simp +decide (maxSteps:=9^9) (disch:=omega) only[↓SB0,SX,seval,hQ,hQ1,hV,w4,cast_pred,hm,getE h1,hD]
      rw [hno (by rw [stepOk_succ hlt,entLt,← strLt_eq,hD]; simp)]
     | true=>
      simp +decide (maxSteps:=9^9) (disch:=omega) only[↓SB0,SX,seval,hQ,hQ1,getE h1]
      (first|refine cI hP1 (sI_NameOk (x.ents[m+1]'hlt).name (by omega)) rfl rfl ?_|refine cH hP1 (sI_NameOk (x.ents[m+1]'hlt).name (by omega)) rfl rfl ?_)
      simp +decide (maxSteps:=9^9) (disch:=omega) only[↓SB0,SX,seval,hQ,hQ1,hN,getE h1]
      (first|refine cI hP1 (s_from ((x.ents[m+1]'hlt).ino) 2 1000) rfl rfl ?_|refine cH hP1 (s_from ((x.ents[m+1]'hlt).ino) 2 1000) rfl rfl ?_)
      simp +decide (maxSteps:=9^9) (disch:=omega) only[↓SB0,SX,seval,hQ,hQ1,hV,w4,cast_pred,hm,getE h1,hD]
      exact ⟨m+1+1,rfl,⟨by omega,ok_next hk (by rw [stepOk_succ hlt,entLt,← strLt_eq,hD]; simp [entP,hN,hV])⟩,by omega⟩
 ·obtain rfl:i=x.ents.length:=by omega
  have hE:entsIn x.ents=true:=allOk_yes fun k h=>hk k h
  simp +decide (maxSteps:=9^9) (disch:=omega) only[↓SB0,SX,seval,hQ,hQ1]
  rcases bcase (inR x.links 0 1000) with hB | hB
  ·(first|refine cI hP (s_from x.links 0 1000) rfl rfl ?_|refine cH hP (s_from x.links 0 1000) rfl rfl ?_)
   simp +decide (maxSteps:=9^9) (disch:=omega) only[↓SB0,SX,seval,hQ,hB]
   simp [inodeB,hB]
  (first|refine cI hP (s_from x.links 0 1000) rfl rfl ?_|refine cH hP (s_from x.links 0 1000) rfl rfl ?_)
  simp +decide (maxSteps:=9^9) (disch:=omega) only[↓SB0,SX,seval,hQ,hB]
  (first | with_reducible refine if_d _ ?_ ?_ | refine if_i _ ?_ ?_) <;> intro hC
  rotate_left
  ·simp +decide (maxSteps:=9^9) (disch:=omega) only[↓SB0,SX,seval,hQ]
   simp [inodeB,hC]
  simp +decide (maxSteps:=9^9) (disch:=omega) only[↓SB0,SX,seval,hQ]
  have key:inodeB x=kindB x:=by
   simp [inodeB,entsB,hA,hB,hC,hE,hF,decide_eq_true (show x.data.length≤100 by omega),decide_eq_true (show x.ents.length≤10 by omega)]
  (first | with_reducible refine if_d _ ?_ ?_ | refine if_i _ ?_ ?_) <;> intro k1
  ·simp +decide (maxSteps:=9^9) (disch:=omega) only[↓SB0,SX,seval,hQ]
   rw [key,kindB,if_pos k1,dec_c (p:=(x.ents.length:Int)=0) (q:=x.ents.length=0) (by omega)]
  simp +decide (maxSteps:=9^9) (disch:=omega) only[↓SB0,SX,seval,hQ]
  (first | with_reducible refine if_d _ ?_ ?_ | refine if_i _ ?_ ?_) <;> intro k2
  ·simp +decide (maxSteps:=9^9) (disch:=omega) only[↓SB0,SX,seval,hQ]
   (first | with_reducible refine gd_d _ ?_ ?_ | refine gd_i _ ?_ ?_) <;> intro k3
   ·simp +decide (maxSteps:=9^9) (disch:=omega) only[↓SB0,SX,seval,hQ,k3]
    rw [key,kindB,if_neg k1,if_pos k2,decide_eq_true (show x.data.length=0 by omega),Bool.true_and]
   ·simp +decide (maxSteps:=9^9) (disch:=omega) only[↓SB0,SX,seval,hQ,k3]
    rw [key,kindB,if_neg k1,if_pos k2,decide_eq_false (show ¬ x.data.length=0 by omega),Bool.false_and]
  ·simp +decide (maxSteps:=9^9) (disch:=omega) only[↓SB0,SX,seval,hQ]
   rw [key,kindB,if_neg k1,if_neg k2]
end Go.Proofs.YtnhdalnfboiooaaGreatDoor.Awp
namespace Go.Proofs.YtnhdalnfboiooaaGreatDoor.Awp
open Go.Proofs
set_option linter.unusedSimpArgs false
set_option linter.unusedVariables false
open Nat (reduceEqDiff reduceAdd reduceMul reduceSub)
open Int (reduceNeg reduceToNat reducePow)
set_option maxRecDepth 100000
set_option maxHeartbeats 20000000
def inoIdx (t:Tab) (i:Int):Option Nat:=t.inodes.findIdx? fun x=>decide (x.ino=i)
def zI:Inode:={ ino:=0,kind:=0,links:=0,data:=[],ents:=[],attrs:=[] }
def iget (t:Tab) (i:Int):Inode:=(inoAt t i).getD zI
theorem find_idx {α:Type} (p:α→Bool) (l:List α):l.find? p=(l.findIdx? p).bind fun k=>l[k]?:=by
 induction l with
 | nil=>rfl
 | cons x l ih=>
  by_cases h:p x=true
  ·rw [List.find?_cons_of_pos h,List.findIdx?_cons,if_pos h]; rfl
  ·rw [List.find?_cons_of_neg h,List.findIdx?_cons,if_neg h,ih]
   cases List.findIdx? p l <;> simp
theorem inoAt_idx (t:Tab) (i:Int):inoAt t i=(inoIdx t i).bind fun k=>t.inodes[k]?:=find_idx _ _
theorem idx_lt {t:Tab} {i:Int} {k:Nat} (h:inoIdx t i=some k):k<t.inodes.length:=(List.findIdx?_eq_some_iff_getElem.1 h).1
theorem idx_some {t:Tab} {i:Int} {k:Nat} (h:inoIdx t i=some k):inoAt t i=some (t.inodes[k]'(idx_lt h)):=by
 rw [inoAt_idx,h]; simp [idx_lt h]
theorem idx_no {t:Tab} {i:Int} (h:inoIdx t i=none):inoAt t i=none:=by rw [inoAt_idx,h]; rfl
theorem sS_l4At (t:Tab) (n:Int) (hl:t.inodes.length<2^48):Spec Tryz.prog 168 [t.x,.int .i64 n] (.int .i64 (idxI (inoIdx t n))) [.undef,.undef]:=by
 refine spec_c hmx p_S_l4At [] 55 [] ⟨Nat.le_of_ble_eq_true rfl,Nat.le_of_ble_eq_true rfl⟩ rfl rfl ?_
 intro w hP hQ
 unfold c_S_l4At
 simp +decide (maxSteps:=9^9) (disch:=omega) only[↓SB0,SX,seval,hQ]
 refine LH_D [4] ?_
 simp +decide (maxSteps:=9^9) (disch:=omega) only[↓SB0,SX,seval,hQ]
 refine loop_e [4] (fun i:Nat=>[(5,.int .i64 i)]) (fun i=>i≤t.inodes.length∧∀ k,k<i→(h:k<t.inodes.length)→decide (t.inodes[k].ino=n)=false) (fun i=>t.inodes.length-i) (0) hP hQ (rfl) (by simp) ?_
 rintro i ⟨hi,hk⟩ w1 hP1 hQ1
 simp +decide (maxSteps:=9^9) (disch:=omega) only[↓SB0,SX,seval,hQ,hQ1]
 (first | with_reducible refine if_d _ ?_ ?_ | refine if_i _ ?_ ?_) <;> intro h1
 ·simp +decide (maxSteps:=9^9) (disch:=omega) only[↓SB0,SX,seval,hQ,hQ1,getE h1]
  (first | with_reducible refine if_d _ ?_ ?_ | refine if_i _ ?_ ?_) <;> intro h2
  ·simp +decide (maxSteps:=9^9) (disch:=omega) only[↓SB0,SX,seval,hQ,hQ1]
   rw [inoIdx,idx_step (p:=fun x:Inode=>decide (x.ino=n)) hk (by omega) (decide_eq_true h2)]; rfl
  ·simp +decide (maxSteps:=9^9) (disch:=omega) only[↓SB0,SX,seval,hQ,hQ1]
   exact ⟨i+1,rfl,⟨by omega,no_step (p:=fun x:Inode=>decide (x.ino=n)) hk (by omega) (decide_eq_false h2)⟩,by omega⟩
 ·obtain rfl:i=t.inodes.length:=by omega
  simp +decide (maxSteps:=9^9) (disch:=omega) only[↓SB0,SX,seval,hQ,hQ1]
  rw [inoIdx,idx_none (p:=fun x:Inode=>decide (x.ino=n)) fun k h=>hk k h h]; rfl
theorem s_IndexFunc_Inode {g:Nat} {cs:List TV} {p:Inode→Bool} (hc:∀ v:Inode,Spec Tryz.prog g [v.x,.xbox cs] (.bool (p v)) [.undef,.undef]) (l:List Inode) (hl:l.length<2^48) :
  Spec Tryz.prog 197 [.ext 6 (l.map Inode.row),.fn g [.xbox cs]] (.int .i64 (idxI (l.findIdx? p))) [.undef,.undef]:=by
 refine spec_c hmx p_X_IndexFunc_Inode [] 435 [] ⟨Nat.le_of_ble_eq_true rfl,Nat.le_of_ble_eq_true rfl⟩ rfl rfl ?_
 intro w hP hQ
 unfold c_X_IndexFunc_Inode
 simp +decide (maxSteps:=9^9) (disch:=omega) only[↓SB0,SX,seval,hQ]
 refine LH_D [4,5] ?_
 simp +decide (maxSteps:=9^9) (disch:=omega) only[↓SB0,SX,seval,hQ]
 refine loop_e [4,5] (fun i:Nat=>[(8,.int .i64 i)]) (fun i=>i≤l.length∧∀ k,k<i→(h:k<l.length)→p l[k]=false) (fun i=>l.length-i) (0) hP hQ (rfl) (by simp) ?_
 rintro i ⟨hi,hk⟩ w1 hP1 hQ1
 simp +decide (maxSteps:=9^9) (disch:=omega) only[↓SB0,SX,seval,hQ,hQ1]
 (first | with_reducible refine if_d _ ?_ ?_ | refine if_i _ ?_ ?_) <;> intro h1
 ·simp +decide (maxSteps:=9^9) (disch:=omega) only[↓SB0,SX,seval,hQ,hQ1,getE h1]
  cases h2:p (l[i]'(by omega)) with
  | true=>
   (first|refine cI hP1 (hc (l[i]'(by omega))) rfl rfl ?_|refine cH hP1 (hc (l[i]'(by omega))) rfl rfl ?_)
   simp +decide (maxSteps:=9^9) (disch:=omega) only[↓SB0,SX,seval,hQ,hQ1,h2]
   rw [idx_step hk (by omega) h2]; rfl
  | false=>
   (first|refine cI hP1 (hc (l[i]'(by omega))) rfl rfl ?_|refine cH hP1 (hc (l[i]'(by omega))) rfl rfl ?_)
   simp +decide (maxSteps:=9^9) (disch:=omega) only[↓SB0,SX,seval,hQ,hQ1,h2]
   exact ⟨i+1,rfl,⟨by omega,no_step hk (by omega) h2⟩,by omega⟩
 ·obtain rfl:i=l.length:=by omega
  simp +decide (maxSteps:=9^9) (disch:=omega) only[↓SB0,SX,seval,hQ,hQ1]
  rw [idx_none fun k h=>hk k h h]; rfl
theorem sI_placeOf_1 (x:Inode) (n:Int):Spec Tryz.prog 235 [x.x,.xbox [.int .i64 n]] (.bool (decide (x.ino=n))) [.undef,.undef]:=by
 refine spec_c hmx p_I_placeOf_1 [] 15 [] ⟨Nat.le_of_ble_eq_true rfl,Nat.le_of_ble_eq_true rfl⟩ rfl rfl ?_
 intro w hP hQ
 unfold c_I_placeOf_1
 simp +decide (maxSteps:=9^9) (disch:=omega) only[↓SB0,SX,seval,hQ]
theorem sI_placeOf (t:Tab) (n:Int) (hl:t.inodes.length<2^48):Spec Tryz.prog 154 [t.x,.int .i64 n] (.int .i64 (idxI (inoIdx t n))) [.undef,.undef]:=by
 refine spec_c hmx p_I_placeOf [] 31 [] ⟨Nat.le_of_ble_eq_true rfl,Nat.le_of_ble_eq_true rfl⟩ rfl rfl ?_
 intro w hP hQ
 unfold c_I_placeOf
 simp +decide (maxSteps:=9^9) (disch:=omega) only[↓SB0,SX,seval,hQ]
 (first|refine cI hP (s_IndexFunc_Inode (fun v=>sI_placeOf_1 v n) t.inodes hl) rfl rfl ?_|refine cH hP (s_IndexFunc_Inode (fun v=>sI_placeOf_1 v n) t.inodes hl) rfl rfl ?_)
 simp +decide (maxSteps:=9^9) (disch:=omega) only[↓SB0,SX,seval,hQ]
 rfl
theorem flatR_map {α:Type} (f:α→List TV) (h:∀ x,(f x).all flatT=true) (l:List α):flatR (l.map f)=true:=by
 rw [flatR,List.all_eq_true]
 intro r hr
 obtain ⟨x,_,rfl⟩:=List.mem_map.1 hr
 exact h x
theorem flatR_E (l:List Ent):flatR (l.map Ent.row)=true:=flatR_map Ent.row (fun _=>rfl) l
theorem flatR_A (l:List Attr):flatR (l.map Attr.row)=true:=flatR_map Attr.row (fun _=>rfl) l
theorem s_Clone8 (b:Bytes) (hl:b.length<2^40):Spec Tryz.prog 172 [.ext 1 (bytesR b)] (.own 1 (bytesR b)) [.undef]:=by
 refine spec_extv fun a len cap ha=>?_
 cases a with
 | none=>
  obtain rfl:b=[]:=by simpa [bytesR] using ha rfl
  refine spec_c hmx p_X_Clone_byte [] 5 [] ⟨Nat.le_of_ble_eq_true rfl,Nat.le_of_ble_eq_true rfl⟩ rfl rfl ?_
  intro w hP hQ
  unfold c_X_Clone_byte
  simp +decide (maxSteps:=9^9) (disch:=omega) only[↓SB0,SX,seval,hQ]
  rfl
 | some a=>
  refine spec_c hmx p_X_Clone_byte [] 5 [] ⟨Nat.le_of_ble_eq_true rfl,Nat.le_of_ble_eq_true rfl⟩ rfl rfl ?_
  intro w hP hQ
  unfold c_X_Clone_byte
  simp +decide (maxSteps:=9^9) (disch:=omega) only[↓SB0,SX,seval,hQ]
theorem s_CloneE (l:List Ent) (hl:l.length<2^40):Spec Tryz.prog 193 [.ext 2 (l.map Ent.row)] (.own 2 (l.map Ent.row)) [.undef]:=by
 refine spec_extv fun a len cap ha=>?_
 cases a with
 | none=>
  obtain rfl:l=[]:=by simpa using ha rfl
  refine spec_c hmx p_X_Clone_Ent [] 5 [] ⟨Nat.le_of_ble_eq_true rfl,Nat.le_of_ble_eq_true rfl⟩ rfl rfl ?_
  intro w hP hQ
  unfold c_X_Clone_Ent
  simp +decide (maxSteps:=9^9) (disch:=omega) only[↓SB0,SX,seval,hQ]
 | some a=>
  refine spec_c hmx p_X_Clone_Ent [] 5 [] ⟨Nat.le_of_ble_eq_true rfl,Nat.le_of_ble_eq_true rfl⟩ rfl rfl ?_
  intro w hP hQ
  unfold c_X_Clone_Ent
  simp +decide (maxSteps:=9^9) (disch:=omega) only[↓SB0,SX,seval,hQ]
  simp +decide (maxSteps:=9^9) (disch:=omega) only[↓SB0,SX,seval,hQ,flatR_E]
theorem s_CloneA (l:List Attr) (hl:l.length<2^40):Spec Tryz.prog 256 [.ext 2 (l.map Attr.row)] (.own 2 (l.map Attr.row)) [.undef]:=by
 refine spec_extv fun a len cap ha=>?_
 cases a with
 | none=>
  obtain rfl:l=[]:=by simpa using ha rfl
  refine spec_c hmx p_X_Clone_Attr [] 5 [] ⟨Nat.le_of_ble_eq_true rfl,Nat.le_of_ble_eq_true rfl⟩ rfl rfl ?_
  intro w hP hQ
  unfold c_X_Clone_Attr
  simp +decide (maxSteps:=9^9) (disch:=omega) only[↓SB0,SX,seval,hQ]
 | some a=>
  refine spec_c hmx p_X_Clone_Attr [] 5 [] ⟨Nat.le_of_ble_eq_true rfl,Nat.le_of_ble_eq_true rfl⟩ rfl rfl ?_
  intro w hP hQ
  unfold c_X_Clone_Attr
  simp +decide (maxSteps:=9^9) (disch:=omega) only[↓SB0,SX,seval,hQ]
  simp +decide (maxSteps:=9^9) (disch:=omega) only[↓SB0,SX,seval,hQ,flatR_A]
theorem sI_copyInode (x:Inode) (h:x.sz<2^40):Spec Tryz.prog 190 [x.x] x.o [.undef]:=by
 obtain ⟨h1,h2,h3⟩:=inode_sz h
 refine spec_c hmx p_I_copyInode [] 7 [] ⟨Nat.le_of_ble_eq_true rfl,Nat.le_of_ble_eq_true rfl⟩ rfl rfl ?_
 intro w hP hQ
 unfold c_I_copyInode
 simp +decide (maxSteps:=9^9) (disch:=omega) only[↓SB0,SX,seval,hQ]
 (first|refine cI hP (s_Clone8 x.data (by omega)) rfl rfl ?_|refine cH hP (s_Clone8 x.data (by omega)) rfl rfl ?_)
 simp +decide (maxSteps:=9^9) (disch:=omega) only[↓SB0,SX,seval,hQ]
 (first|refine cI hP (s_CloneE x.ents (by omega)) rfl rfl ?_|refine cH hP (s_CloneE x.ents (by omega)) rfl rfl ?_)
 simp +decide (maxSteps:=9^9) (disch:=omega) only[↓SB0,SX,seval,hQ]
 (first|refine cI hP (s_CloneA x.attrs (by omega)) rfl rfl ?_|refine cH hP (s_CloneA x.attrs (by omega)) rfl rfl ?_)
 simp +decide (maxSteps:=9^9) (disch:=omega) only[↓SB0,SX,seval,hQ]
theorem sS_l3Copy (x:Inode) (h:x.sz<2^40):Spec Tryz.prog 187 [x.x] x.o [.undef]:=by
 obtain ⟨h1,h2,h3⟩:=inode_sz h
 refine spec_c hmx p_S_l3Copy [] 15 [] ⟨Nat.le_of_ble_eq_true rfl,Nat.le_of_ble_eq_true rfl⟩ rfl rfl ?_
 intro w hP hQ
 unfold c_S_l3Copy
 simp +decide (maxSteps:=9^9) (disch:=omega) only[↓SB0,SX,seval,hQ]
 simp +decide (maxSteps:=9^9) (disch:=omega) only[↓SB0,SX,seval,hQ,flatR_bytes,flatR_E,flatR_A]
theorem tab_sz {t:Tab} {n:Nat} (h:t.sz<n):t.inodes.length<n∧∀ x ∈ t.inodes,x.sz<n:=by
 have h':szM Inode.sz t.inodes<n:=h
 refine ⟨by simp only [szM] at h'; omega,fun x hx=>?_⟩
 have:=sum_mem (f:=Inode.sz) hx
 simp only [szM] at h'; omega
theorem sI_InodeAt (t:Tab) (n:Int) (h:t.sz<2^40):Spec Tryz.prog 114 [t.x,.int .i64 n] (.tup [(iget t n).o,.bool (inoAt t n).isSome]) [.undef,.undef]:=by
 obtain ⟨h1,h2⟩:=tab_sz h
 have hPl:=sI_placeOf t n (by omega)
 cases e:inoIdx t n with
 | none=>
  rw [e] at hPl
  rw [iget,idx_no e]
  refine spec_c hmx p_I_InodeAt [] 119 [] ⟨Nat.le_of_ble_eq_true rfl,Nat.le_of_ble_eq_true rfl⟩ rfl rfl ?_
  intro w hP hQ
  unfold c_I_InodeAt
  simp +decide (maxSteps:=9^9) (disch:=omega) only[↓SB0,SX,seval,hQ]
  (first|refine cI hP (hPl) rfl rfl ?_|refine cH hP (hPl) rfl rfl ?_)
  simp +decide (maxSteps:=9^9) (disch:=omega) only[↓SB0,SX,seval,hQ]
  rfl
 | some k=>
  have hk:=idx_lt e
  rw [e,show idxI (some k)=(k:Int) from rfl] at hPl
  rw [iget,idx_some e]
  refine spec_c hmx p_I_InodeAt [] 119 [] ⟨Nat.le_of_ble_eq_true rfl,Nat.le_of_ble_eq_true rfl⟩ rfl rfl ?_
  intro w hP hQ
  unfold c_I_InodeAt
  simp +decide (maxSteps:=9^9) (disch:=omega) only[↓SB0,SX,seval,hQ]
  (first|refine cI hP (hPl) rfl rfl ?_|refine cH hP (hPl) rfl rfl ?_)
  simp +decide (maxSteps:=9^9) (disch:=omega) only[↓SB0,SX,seval,hQ]
  (first | with_reducible refine if_d _ ?_ ?_ | refine if_i _ ?_ ?_) <;> intro hx
  ·exfalso; omega
  simp +decide (maxSteps:=9^9) (disch:=omega) only[↓SB0,SX,seval,hQ,getE (show ((k:Nat):Int)<(t.inodes.length:Nat) by omega)]
  (first|refine cI hP (sI_copyInode (t.inodes[k]'hk) (h2 _ (List.getElem_mem hk))) rfl rfl ?_|refine cH hP (sI_copyInode (t.inodes[k]'hk) (h2 _ (List.getElem_mem hk))) rfl rfl ?_)
  simp +decide (maxSteps:=9^9) (disch:=omega) only[↓SB0,SX,seval,hQ]
  rfl
theorem sS_InodeAt (t:Tab) (n:Int) (h:t.sz<2^40):Spec Tryz.prog 208 [t.x,.int .i64 n] (.tup [(iget t n).o,.bool (inoAt t n).isSome]) [.undef,.undef]:=by
 obtain ⟨h1,h2⟩:=tab_sz h
 have hPl:=sS_l4At t n (by omega)
 cases e:inoIdx t n with
 | none=>
  rw [e] at hPl
  rw [iget,idx_no e]
  refine spec_c hmx p_S_InodeAt [] 119 [] ⟨Nat.le_of_ble_eq_true rfl,Nat.le_of_ble_eq_true rfl⟩ rfl rfl ?_
  intro w hP hQ
  unfold c_S_InodeAt
  simp +decide (maxSteps:=9^9) (disch:=omega) only[↓SB0,SX,seval,hQ]
  (first|refine cI hP (hPl) rfl rfl ?_|refine cH hP (hPl) rfl rfl ?_)
  simp +decide (maxSteps:=9^9) (disch:=omega) only[↓SB0,SX,seval,hQ]
  rfl
 | some k=>
  have hk:=idx_lt e
  rw [e,show idxI (some k)=(k:Int) from rfl] at hPl
  rw [iget,idx_some e]
  refine spec_c hmx p_S_InodeAt [] 119 [] ⟨Nat.le_of_ble_eq_true rfl,Nat.le_of_ble_eq_true rfl⟩ rfl rfl ?_
  intro w hP hQ
  unfold c_S_InodeAt
  simp +decide (maxSteps:=9^9) (disch:=omega) only[↓SB0,SX,seval,hQ]
  (first|refine cI hP (hPl) rfl rfl ?_|refine cH hP (hPl) rfl rfl ?_)
  simp +decide (maxSteps:=9^9) (disch:=omega) only[↓SB0,SX,seval,hQ]
  (first | with_reducible refine if_d _ ?_ ?_ | refine if_i _ ?_ ?_) <;> intro hx
  ·exfalso; omega
  simp +decide (maxSteps:=9^9) (disch:=omega) only[↓SB0,SX,seval,hQ,getE (show ((k:Nat):Int)<(t.inodes.length:Nat) by omega)]
  (first|refine cI hP (sS_l3Copy (t.inodes[k]'hk) (h2 _ (List.getElem_mem hk))) rfl rfl ?_|refine cH hP (sS_l3Copy (t.inodes[k]'hk) (h2 _ (List.getElem_mem hk))) rfl rfl ?_)
  simp +decide (maxSteps:=9^9) (disch:=omega) only[↓SB0,SX,seval,hQ]
  rfl
end Go.Proofs.YtnhdalnfboiooaaGreatDoor.Awp
namespace Go.Proofs.YtnhdalnfboiooaaGreatDoor.Awp
open Go.Proofs
set_option linter.unusedSimpArgs false
set_option linter.unusedVariables false
open Nat (reduceEqDiff reduceAdd reduceMul reduceSub)
open Int (reduceNeg reduceToNat reducePow)
set_option maxRecDepth 100000
set_option maxHeartbeats 20000000
theorem inodes_bad {t:Tab} (e:inodesIn t=false):tabB t=false:=by simp [tabB,e]
theorem root_first {t:Tab} (h:inodesIn t=true):rootB t=match t.inodes with
  | []=>false
  | x::_=>decide (x.ino=1) && decide (x.kind=2):=by
 rw [inodesIn,allOk_iff (fun a b c h1 h2=>by simp only [inodeLt,decide_eq_true_eq] at *; omega)] at h
 obtain ⟨h1,h2⟩:=h
 unfold rootB inoAt
 cases hl:t.inodes with
 | nil=>rfl
 | cons x l=>
  rw [hl] at h2
  obtain ⟨a1,a2⟩:=List.pairwise_cons.1 h2
  have hx:=h1 0 (by rw [hl]; simp)
  simp only [hl,List.getElem_cons_zero,inodeP,Bool.and_eq_true] at hx
  have hx1:=((inodeB_iff x).1 hx.1).ino.1
  by_cases e:x.ino=1
  ·rw [List.find?_cons_of_pos (by simp [e])]; simp [e]
  ·rw [List.find?_cons_of_neg (by simp [e])]
   have:l.find? (fun x=>decide (x.ino=1))=none:=by
    rw [List.find?_eq_none]
    intro y hy
    have:=a1 y hy
    simp only [inodeLt,decide_eq_true_eq] at this
    simp; omega
   rw [this]; simp [e]
theorem sS_TabOk (t:Tab) (h:t.sz<2^40):Spec Tryz.prog 166 [t.x] (.bool (tabB t)) [.undef]:=by
 obtain ⟨hl,hls⟩:=tab_sz h
 refine spec_c hmx p_S_TabOk [] 31 [] ⟨Nat.le_of_ble_eq_true rfl,Nat.le_of_ble_eq_true rfl⟩ rfl rfl ?_
 intro w hP hQ
 unfold c_S_TabOk
 simp +decide (maxSteps:=9^9) (disch:=omega) only[↓SB0,SX,seval,hQ]
 rcases bcase (inR (t.inodes.length:Nat) 1 30) with hA | hA
 ·have hA':=inR_no hA
  (first|refine cI hP (s_l1In (t.inodes.length:Nat) 1 30) rfl rfl ?_|refine cH hP (s_l1In (t.inodes.length:Nat) 1 30) rfl rfl ?_)
  simp +decide (maxSteps:=9^9) (disch:=omega) only[↓SB0,SX,seval,hQ,hA]
  by_cases h0:t.inodes.length≤30
  ·have:t.inodes=[]:=List.length_eq_zero_iff.1 (by omega)
   have hr:rootB t=false:=by simp [rootB,inoAt,this]
   simp [tabB,hr]
  ·simp [tabB,h0]
 have hA':=(inR_iff _ _ _).1 hA
 (first|refine cI hP (s_l1In (t.inodes.length:Nat) 1 30) rfl rfl ?_|refine cH hP (s_l1In (t.inodes.length:Nat) 1 30) rfl rfl ?_)
 simp +decide (maxSteps:=9^9) (disch:=omega) only[↓SB0,SX,seval,hQ,hA]
 rcases bcase (inR t.next 2 1000) with hB | hB
 ·(first|refine cI hP (s_l1In t.next 2 1000) rfl rfl ?_|refine cH hP (s_l1In t.next 2 1000) rfl rfl ?_)
  simp +decide (maxSteps:=9^9) (disch:=omega) only[↓SB0,SX,seval,hQ,hB]
  simp [tabB,hB]
 (first|refine cI hP (s_l1In t.next 2 1000) rfl rfl ?_|refine cH hP (s_l1In t.next 2 1000) rfl rfl ?_)
 simp +decide (maxSteps:=9^9) (disch:=omega) only[↓SB0,SX,seval,hQ,hB]
 refine LH_D [2,4,5004] ?_
 simp +decide (maxSteps:=9^9) (disch:=omega) only[↓SB0,SX,seval,hQ]
 refine loop_e [2,4,5004] (fun i:Nat=>[(3,.int .i64 i)]) (fun i=>i≤t.inodes.length∧∀ k,k<i→stepOk (fun _=>inodeP t) inodeLt t.inodes k=true) (fun i=>t.inodes.length-i) (0) hP hQ (rfl) (by simp) ?_
 rintro i ⟨hi,hk⟩ w1 hP1 hQ1
 simp +decide (maxSteps:=9^9) (disch:=omega) only[↓SB0,SX,seval,hQ,hQ1]
 (first | with_reducible refine if_d _ ?_ ?_ | refine if_i _ ?_ ?_) <;> intro h1
 ·have hlt:i<t.inodes.length:=by omega
  have hno:stepOk (fun _=>inodeP t) inodeLt t.inodes i=false→tabB t=false:=fun e=>inodes_bad (allOk_no hlt e)
  have hla:=hls _ (List.getElem_mem hlt)
  cases hN:inodeB (t.inodes[i]'hlt) with
  | false=>
   simp +decide (maxSteps:=9^9) (disch:=omega) only[↓SB0,SX,seval,hQ,hQ1,getE h1]
   (first|refine cI hP1 (sS_InodeOk (t.inodes[i]'hlt) (by omega)) rfl rfl ?_|refine cH hP1 (sS_InodeOk (t.inodes[i]'hlt) (by omega)) rfl rfl ?_)
   simp +decide (maxSteps:=9^9) (disch:=omega) only[↓SB0,SX,seval,hQ,hQ1,hN]
   rw [hno (step_bad hlt (by simp [inodeP,hN]))]
  | true=>
   cases hV:decide (t.next≤(t.inodes[i]'hlt).ino) with
   | true=>
    have hV':=of_decide_eq_true hV
    simp +decide (maxSteps:=9^9) (disch:=omega) only[↓SB0,SX,seval,hQ,hQ1,getE h1]
    (first|refine cI hP1 (sS_InodeOk (t.inodes[i]'hlt) (by omega)) rfl rfl ?_|refine cH hP1 (sS_InodeOk (t.inodes[i]'hlt) (by omega)) rfl rfl ?_)
    simp +decide (maxSteps:=9^9) (disch:=omega) only[↓SB0,SX,seval,hQ,hQ1,hN,hV]
    rw [hno (step_bad hlt (by simp [inodeP]; omega))]
   | false=>
    have hV':=of_decide_eq_false hV
    cases i with
    | zero=>
     simp +decide (maxSteps:=9^9) (disch:=omega) only[↓SB0,SX,seval,hQ,hQ1,getE h1]
     (first|refine cI hP1 (sS_InodeOk (t.inodes[0]'hlt) (by omega)) rfl rfl ?_|refine cH hP1 (sS_InodeOk (t.inodes[0]'hlt) (by omega)) rfl rfl ?_)
     simp +decide (maxSteps:=9^9) (disch:=omega) only[↓SB0,SX,seval,hQ,hQ1,hN,hV]
     exact ⟨1,rfl,⟨by omega,ok_next hk (by rw [stepOk_zero hlt]; simp [inodeP,hN]; omega)⟩,by omega⟩
    | succ m=>
     have w4:decide ((0:Int)<((m+1:Nat):Int))=true:=decide_eq_true (by omega)
     have hm:=getE (show ((m:Nat):Int)<(t.inodes.length:Nat) by omega)
     cases hD:decide ((t.inodes[m+1]'hlt).ino≤(t.inodes[m]'(by omega)).ino) with
     | true=>
      have hD':=of_decide_eq_true hD
      simp +decide (maxSteps:=9^9) (disch:=omega) only[↓SB0,SX,seval,hQ,hQ1,getE h1]
      (first|refine cI hP1 (sS_InodeOk (t.inodes[m+1]'hlt) (by omega)) rfl rfl ?_|refine cH hP1 (sS_InodeOk (t.inodes[m+1]'hlt) (by omega)) rfl rfl ?_)
      simp +decide (maxSteps:=9^9) (disch:=omega) only[↓SB0,SX,seval,hQ,hQ1,hN,hV,w4,cast_pred,hm,getE h1,hD]
      rw [hno (by rw [stepOk_succ hlt,inodeLt]; simp; omega)]
     | false=>
      have hD':=of_decide_eq_false hD
      simp +decide (maxSteps:=9^9) (disch:=omega) only[↓SB0,SX,seval,hQ,hQ1,getE h1]
      (first|refine cI hP1 (sS_InodeOk (t.inodes[m+1]'hlt) (by omega)) rfl rfl ?_|refine cH hP1 (sS_InodeOk (t.inodes[m+1]'hlt) (by omega)) rfl rfl ?_)
      simp +decide (maxSteps:=9^9) (disch:=omega) only[↓SB0,SX,seval,hQ,hQ1,hN,hV,w4,cast_pred,hm,getE h1,hD]
      exact ⟨m+1+1,rfl,⟨by omega,ok_next hk (by rw [stepOk_succ hlt,inodeLt]; simp [inodeP,hN]; omega)⟩,by omega⟩
 ·obtain rfl:i=t.inodes.length:=by omega
  have hE:inodesIn t=true:=allOk_yes fun k h=>hk k h
  have hr:=root_first hE
  have key:tabB t=rootB t:=by
   simp [tabB,hB,hE,decide_eq_true (show t.inodes.length≤30 by omega)]
  obtain ⟨x,l,hx⟩:∃ x l,t.inodes=x::l:=by
   cases hh:t.inodes with
   | nil=>rw [hh] at hA'; simp at hA'
   | cons x l=>exact ⟨x,l,rfl⟩
  rw [hx] at hr
  replace hr:rootB t=(decide (x.ino=1) && decide (x.kind=2)):=hr
  have g0:t.inodes[0]?=some x:=by rw [hx]; rfl
  have c0:decide ((0:Int)<(t.inodes.length:Nat))=true:=decide_eq_true (by omega)
  simp +decide (maxSteps:=9^9) (disch:=omega) only[↓SB0,SX,seval,hQ,hQ1,g0,Int.toNat_zero]
  (first | with_reducible refine gd_d _ ?_ ?_ | refine gd_i _ ?_ ?_) <;> intro g1
  ·simp +decide (maxSteps:=9^9) (disch:=omega) only[↓SB0,SX,seval,hQ,g1,g0,Int.toNat_zero]
   rw [key,hr,decide_eq_true g1,Bool.true_and]
  ·simp +decide (maxSteps:=9^9) (disch:=omega) only[↓SB0,SX,seval,hQ,g1]
   rw [key,hr,decide_eq_false g1,Bool.false_and]
theorem sI_TabOk (t:Tab) (h:t.sz<2^40):Spec Tryz.prog 152 [t.x] (.bool (tabB t)) [.undef]:=by
 obtain ⟨hl,hls⟩:=tab_sz h
 refine spec_c hmx p_I_TabOk [] 1835135 [] ⟨Nat.le_of_ble_eq_true rfl,Nat.le_of_ble_eq_true rfl⟩ rfl rfl ?_
 intro w hP hQ
 unfold c_I_TabOk
 simp +decide (maxSteps:=9^9) (disch:=omega) only[↓SB0,SX,seval,hQ]
 (first | with_reducible refine gd_d _ ?_ ?_ | refine gd_i _ ?_ ?_) <;> intro hA
 ·simp +decide (maxSteps:=9^9) (disch:=omega) only[↓SB0,SX,seval,hQ,hA]
  simp [tabB]; omega
 simp +decide (maxSteps:=9^9) (disch:=omega) only[↓SB0,SX,seval,hQ,hA]
 rcases bcase (inR t.next 2 1000) with hB | hB
 ·(first|refine cI hP (s_from t.next 2 1000) rfl rfl ?_|refine cH hP (s_from t.next 2 1000) rfl rfl ?_)
  simp +decide (maxSteps:=9^9) (disch:=omega) only[↓SB0,SX,seval,hQ,hB]
  simp [tabB,hB]
 (first|refine cI hP (s_from t.next 2 1000) rfl rfl ?_|refine cH hP (s_from t.next 2 1000) rfl rfl ?_)
 simp +decide (maxSteps:=9^9) (disch:=omega) only[↓SB0,SX,seval,hQ,hB]
 refine LH_D [2,3,4,5004] ?_
 simp +decide (maxSteps:=9^9) (disch:=omega) only[↓SB0,SX,seval,hQ]
 refine loop_e [2,3,4,5004] (fun i:Nat=>[(20,.int .i64 i)]) (fun i=>i≤t.inodes.length∧∀ k,k<i→stepOk (fun _=>inodeP t) inodeLt t.inodes k=true) (fun i=>t.inodes.length-i) (0) hP hQ (rfl) (by simp) ?_
 rintro i ⟨hi,hk⟩ w1 hP1 hQ1
 simp +decide (maxSteps:=9^9) (disch:=omega) only[↓SB0,SX,seval,hQ,hQ1]
 (first | with_reducible refine if_d _ ?_ ?_ | refine if_i _ ?_ ?_) <;> intro h1
 ·have hlt:i<t.inodes.length:=by omega
  have hno:stepOk (fun _=>inodeP t) inodeLt t.inodes i=false→tabB t=false:=fun e=>inodes_bad (allOk_no hlt e)
  have hla:=hls _ (List.getElem_mem hlt)
  cases hN:inodeB (t.inodes[i]'hlt) with
  | false=>
   simp +decide (maxSteps:=9^9) (disch:=omega) only[↓SB0,SX,seval,hQ,hQ1,getE h1]
   (first|refine cI hP1 (sI_InodeOk (t.inodes[i]'hlt) (by omega)) rfl rfl ?_|refine cH hP1 (sI_InodeOk (t.inodes[i]'hlt) (by omega)) rfl rfl ?_)
   simp +decide (maxSteps:=9^9) (disch:=omega) only[↓SB0,SX,seval,hQ,hQ1,hN]
   rw [hno (step_bad hlt (by simp [inodeP,hN]))]
  | true=>
   cases hV:decide (t.next≤(t.inodes[i]'hlt).ino) with
   | true=>
    have hV':=of_decide_eq_true hV
    simp +decide (maxSteps:=9^9) (disch:=omega) only[↓SB0,SX,seval,hQ,hQ1,getE h1]
    (first|refine cI hP1 (sI_InodeOk (t.inodes[i]'hlt) (by omega)) rfl rfl ?_|refine cH hP1 (sI_InodeOk (t.inodes[i]'hlt) (by omega)) rfl rfl ?_)
    simp +decide (maxSteps:=9^9) (disch:=omega) only[↓SB0,SX,seval,hQ,hQ1,hN,hV]
    rw [hno (step_bad hlt (by simp [inodeP]; omega))]
   | false=>
    have hV':=of_decide_eq_false hV
    cases i with
    | zero=>
     simp +decide (maxSteps:=9^9) (disch:=omega) only[↓SB0,SX,seval,hQ,hQ1,getE h1]
     (first|refine cI hP1 (sI_InodeOk (t.inodes[0]'hlt) (by omega)) rfl rfl ?_|refine cH hP1 (sI_InodeOk (t.inodes[0]'hlt) (by omega)) rfl rfl ?_)
     simp +decide (maxSteps:=9^9) (disch:=omega) only[↓SB0,SX,seval,hQ,hQ1,hN,hV]
     exact ⟨1,rfl,⟨by omega,ok_next hk (by rw [stepOk_zero hlt]; simp [inodeP,hN]; omega)⟩,by omega⟩
    | succ m=>
     have w4:decide ((0:Int)<((m+1:Nat):Int))=true:=decide_eq_true (by omega)
     have hm:=getE (show ((m:Nat):Int)<(t.inodes.length:Nat) by omega)
     cases hD:decide ((t.inodes[m+1]'hlt).ino≤(t.inodes[m]'(by omega)).ino) with
     | true=>
      have hD':=of_decide_eq_true hD
      simp +decide (maxSteps:=9^9) (disch:=omega) only[↓SB0,SX,seval,hQ,hQ1,getE h1]
      (first|refine cI hP1 (sI_InodeOk (t.inodes[m+1]'hlt) (by omega)) rfl rfl ?_|refine cH hP1 (sI_InodeOk (t.inodes[m+1]'hlt) (by omega)) rfl rfl ?_)
      simp +decide (maxSteps:=9^9) (disch:=omega) only[↓SB0,SX,seval,hQ,hQ1,hN,hV,w4,cast_pred,hm,getE h1,hD]
      rw [hno (by rw [stepOk_succ hlt,inodeLt]; simp; omega)]
     | false=>
      have hD':=of_decide_eq_false hD
      simp +decide (maxSteps:=9^9) (disch:=omega) only[↓SB0,SX,seval,hQ,hQ1,getE h1]
      (first|refine cI hP1 (sI_InodeOk (t.inodes[m+1]'hlt) (by omega)) rfl rfl ?_|refine cH hP1 (sI_InodeOk (t.inodes[m+1]'hlt) (by omega)) rfl rfl ?_)
      simp +decide (maxSteps:=9^9) (disch:=omega) only[↓SB0,SX,seval,hQ,hQ1,hN,hV,w4,cast_pred,hm,getE h1,hD]
      exact ⟨m+1+1,rfl,⟨by omega,ok_next hk (by rw [stepOk_succ hlt,inodeLt]; simp [inodeP,hN]; omega)⟩,by omega⟩
 ·obtain rfl:i=t.inodes.length:=by omega
  have hE:inodesIn t=true:=allOk_yes fun k h=>hk k h
  have key:tabB t=rootB t:=by
   simp [tabB,hB,hE,decide_eq_true (show t.inodes.length≤30 by omega)]
  have hI:=sI_InodeAt t 1 h
  simp +decide (maxSteps:=9^9) (disch:=omega) only[↓SB0,SX,seval,hQ,hQ1]
  cases e:inoAt t 1 with
  | none=>
   have hr:rootB t=false:=by rw [rootB,e]
   rw [e] at hI
   (first|refine cI hP (hI) rfl rfl ?_|refine cH hP (hI) rfl rfl ?_)
   simp +decide (maxSteps:=9^9) (disch:=omega) only[↓SB0,SX,seval,hQ]
   rw [key,hr]
  | some x=>
   have hr:rootB t=decide (x.kind=2):=by rw [rootB,e]
   rw [iget,e] at hI
   (first|refine cI hP (hI) rfl rfl ?_|refine cH hP (hI) rfl rfl ?_)
   simp +decide (maxSteps:=9^9) (disch:=omega) only[↓SB0,SX,seval,hQ]
   rw [key,hr]; rfl
end Go.Proofs.YtnhdalnfboiooaaGreatDoor.Awp
namespace Go.Proofs.YtnhdalnfboiooaaGreatDoor.Awp
open Go.Proofs
set_option linter.unusedSimpArgs false
set_option linter.unusedVariables false
open Nat (reduceEqDiff reduceAdd reduceMul reduceSub)
open Int (reduceNeg reduceToNat reducePow)
set_option maxRecDepth 100000
set_option maxHeartbeats 20000000
theorem sum_mono {α:Type} (f g:α→Nat) (l:List α) (h:∀ x ∈ l,f x≤g x):(l.map f).sum≤(l.map g).sum:=by
 induction l with
 | nil=>simp
 | cons x l ih=>
  have:=ih fun y hy=>h y (by simp [hy])
  have:=h x (by simp)
  simp only [List.map_cons,List.sum_cons]; omega
def lkF (n:Int) (x:Inode):Nat:=(nbOf x).count n
theorem linksOf_F (t:Tab) (n:Int):linksOf t n=(t.inodes.map (lkF n)).sum:=rfl
theorem lkF_le (n:Int) (x:Inode):lkF n x≤x.sz:=by
 have h1:lkF n x≤(nbOf x).length:=List.count_le_length
 have h2:(nbOf x).length≤x.ents.length:=by
  unfold nbOf; split <;> simp
 have h3:x.ents.length≤x.sz:=by simp only [Inode.sz,szM]; omega
 omega
theorem links_bound (t:Tab) (n:Int) (i:Nat):((t.inodes.take i).map (lkF n)).sum≤t.sz:=by
 have h1:=sum_take_le (lkF n) t.inodes i
 have h2:=sum_mono (lkF n) Inode.sz t.inodes fun x _=>lkF_le n x
 have h3:t.sz=t.inodes.length+(t.inodes.map Inode.sz).sum:=rfl
 omega
theorem lkF_dir {n:Int} {x:Inode} (h:x.kind=2):lkF n x=(x.ents.map Ent.ino).count n:=by rw [lkF,nbOf,if_pos h]
theorem lkF_no {n:Int} {x:Inode} (h:¬ x.kind=2):lkF n x=0:=by rw [lkF,nbOf,if_neg h]; rfl
theorem cnt_take {l:List Ent} {k:Nat} (h:k<l.length) (n:Int):((l.take (k+1)).map Ent.ino).count n=((l.take k).map Ent.ino).count n+if l[k].ino=n then 1 else 0:=by
 rw [List.take_add_one,List.getElem?_eq_getElem h,List.map_append,List.count_append]
 simp only [Option.toList_some,List.map_cons,List.map_nil]
 rw [List.count_singleton]
 simp
theorem cnt_take_le (l:List Ent) (k:Nat) (n:Int):((l.take k).map Ent.ino).count n≤l.length:=by
 have h1:((l.take k).map Ent.ino).count n≤((l.take k).map Ent.ino).length:=List.count_le_length
 simp only [List.length_map,List.length_take] at h1
 omega
theorem sS_LinksOf (t:Tab) (n:Int) (h:t.sz<2^40):Spec Tryz.prog 167 [t.x,.int .i64 n] (.int .i64 (linksOf t n:Nat)) [.undef,.undef]:=by
 obtain ⟨hl,hls⟩:=tab_sz h
 refine spec_c hmx p_S_LinksOf [] 247 [] ⟨Nat.le_of_ble_eq_true rfl,Nat.le_of_ble_eq_true rfl⟩ rfl rfl ?_
 intro w hP hQ
 unfold c_S_LinksOf
 simp +decide (maxSteps:=9^9) (disch:=omega) only[↓SB0,SX,seval,hQ]
 refine LH_D [7] ?_
 simp +decide (maxSteps:=9^9) (disch:=omega) only[↓SB0,SX,seval,hQ]
 refine loop_e [7] (fun s:Nat × Nat=>[(5,.int .i64 (s.1:Nat)),(6,.int .i64 (s.2:Nat))]) (fun s=>s.2≤t.inodes.length∧s.1=((t.inodes.take s.2).map (lkF n)).sum) (fun s=>t.inodes.length-s.2) ((0,0)) hP hQ (rfl) (by simp) ?_
 rintro ⟨c,i⟩ ⟨hi,hc⟩ w1 hP1 hQ1
 simp +decide (maxSteps:=9^9) (disch:=omega) only[↓SB0,SX,seval,hQ,hQ1]
 simp only at hi hc
 (first | with_reducible refine if_d _ ?_ ?_ | refine if_i _ ?_ ?_) <;> intro h1
 ·have hlt:i<t.inodes.length:=by omega
  have hs:=sum_take (lkF n) t.inodes i hlt
  have hb:=links_bound t n i
  have hx:=hls _ (List.getElem_mem hlt)
  have hel:(t.inodes[i]'hlt).ents.length<2^40:=(inode_sz hx).2.1
  simp +decide (maxSteps:=9^9) (disch:=omega) only[↓SB0,SX,seval,hQ,hQ1]
  by_cases hk2:(t.inodes[i]'hlt).kind=2
  ·have hf:=lkF_dir (n:=n) hk2
   refine LH_D [] ?_
   simp +decide (maxSteps:=9^9) (disch:=omega) only[↓SB0,SX,seval,hQ,hQ1]
   refine loop_e [] (fun s:Nat × Nat=>[(5,.int .i64 (s.1:Nat)),(7,.int .i64 (s.2:Nat))]) (fun s=>s.2≤(t.inodes[i]'hlt).ents.length∧s.1=c+(((t.inodes[i]'hlt).ents.take s.2).map Ent.ino).count n) (fun s=>(t.inodes[i]'hlt).ents.length-s.2) ((c,0)) hP1 hQ1 (rfl) (by simp) ?_
   rintro ⟨d,k⟩ ⟨hk,hd⟩ w2 hP2 hQ2
   simp +decide (maxSteps:=9^9) (disch:=omega) only[↓SB0,SX,seval,hQ,hQ1,hQ2]
   simp only at hk hd
   have hcl:=cnt_take_le (t.inodes[i]'hlt).ents k n
   simp +decide (maxSteps:=9^9) (disch:=omega) only[↓SB0,SX,seval,hQ,hQ1,hQ2,getE h1]
   (first | with_reducible refine gd_d _ ?_ ?_ | refine gd_i _ ?_ ?_) <;> intro g1
   ·have hct:=cnt_take (l:=(t.inodes[i]'hlt).ents) (k:=k) (by omega) n
    simp +decide (maxSteps:=9^9) (disch:=omega) only[↓SB0,SX,seval,hQ,hQ1,hQ2,g1,getE h1,hk2]
    simp +decide (maxSteps:=9^9) (disch:=omega) only[↓SB0,SX,seval,hQ,hQ1,hQ2,getE h1,getE g1]
    (first | with_reducible refine if_d _ ?_ ?_ | refine if_i _ ?_ ?_) <;> intro g2
    ·rw [if_pos g2] at hct
     simp +decide (maxSteps:=9^9) (disch:=omega) only[↓SB0,SX,seval,hQ,hQ1,hQ2]
     exact ⟨(d+1,k+1),rfl,⟨by simp only; omega,by simp only; omega⟩,by simp only; omega⟩
    ·rw [if_neg g2] at hct
     simp +decide (maxSteps:=9^9) (disch:=omega) only[↓SB0,SX,seval,hQ,hQ1,hQ2]
     exact ⟨(d,k+1),rfl,⟨by simp only; omega,by simp only; omega⟩,by simp only; omega⟩
   ·obtain rfl:k=(t.inodes[i]'hlt).ents.length:=by omega
    rw [List.take_length] at hd
    simp +decide (maxSteps:=9^9) (disch:=omega) only[↓SB0,SX,seval,hQ,hQ1,hQ2,g1]
    exact ⟨(d,i+1),rfl,⟨by simp only; omega,by simp only; omega⟩,by simp only; omega⟩
  ·have hf:=lkF_no (n:=n) hk2
   refine LH_D [] ?_
   simp +decide (maxSteps:=9^9) (disch:=omega) only[↓SB0,SX,seval,hQ,hQ1]
   refine loop_e [] (fun s:Nat × Nat=>[(5,.int .i64 (s.1:Nat)),(7,.int .i64 (s.2:Nat))]) (fun s=>s=(c,0)) (fun s=>0) ((c,0)) hP1 hQ1 (rfl) (rfl) ?_
   rintro ⟨d,k⟩ hk w2 hP2 hQ2
   simp +decide (maxSteps:=9^9) (disch:=omega) only[↓SB0,SX,seval,hQ,hQ1,hQ2]
   obtain ⟨rfl,rfl⟩:=Prod.mk.inj hk
   simp +decide (maxSteps:=9^9) (disch:=omega) only[↓SB0,SX,seval,hQ,hQ1,hQ2,getE h1]
   (first | with_reducible refine gd_d _ ?_ ?_ | refine gd_i _ ?_ ?_) <;> intro g1
   ·simp +decide (maxSteps:=9^9) (disch:=omega) only[↓SB0,SX,seval,hQ,hQ1,hQ2,g1,getE h1,hk2]
    exact ⟨(d,i+1),rfl,⟨by simp only; omega,by simp only; omega⟩,by simp only; omega⟩
   ·simp +decide (maxSteps:=9^9) (disch:=omega) only[↓SB0,SX,seval,hQ,hQ1,hQ2,g1]
    exact ⟨(d,i+1),rfl,⟨by simp only; omega,by simp only; omega⟩,by simp only; omega⟩
 ·obtain rfl:i=t.inodes.length:=by omega
  rw [List.take_length,← linksOf_F] at hc
  subst hc
  simp +decide (maxSteps:=9^9) (disch:=omega) only[↓SB0,SX,seval,hQ,hQ1]
theorem sI_LinksOf (t:Tab) (n:Int) (h:t.sz<2^40):Spec Tryz.prog 153 [t.x,.int .i64 n] (.int .i64 (linksOf t n:Nat)) [.undef,.undef]:=by
 obtain ⟨hl,hls⟩:=tab_sz h
 refine spec_c hmx p_I_LinksOf [] 14695095 [] ⟨Nat.le_of_ble_eq_true rfl,Nat.le_of_ble_eq_true rfl⟩ rfl rfl ?_
 intro w hP hQ
 unfold c_I_LinksOf
 simp +decide (maxSteps:=9^9) (disch:=omega) only[↓SB0,SX,seval,hQ]
 refine LH_D [7,9,21,22,23,5007,5009] ?_
 simp +decide (maxSteps:=9^9) (disch:=omega) only[↓SB0,SX,seval,hQ]
 refine loop_e [7,9,21,22,23,5007,5009] (fun s:Nat × Nat=>[(5,.int .i64 (s.1:Nat)),(13,.int .i64 (s.2:Nat))]) (fun s=>s.2≤t.inodes.length∧s.1=((t.inodes.take s.2).map (lkF n)).sum) (fun s=>t.inodes.length-s.2) ((0,0)) hP hQ (rfl) (by simp) ?_
 rintro ⟨c,i⟩ ⟨hi,hc⟩ w1 hP1 hQ1
 simp +decide (maxSteps:=9^9) (disch:=omega) only[↓SB0,SX,seval,hQ,hQ1]
 simp only at hi hc
 (first | with_reducible refine if_d _ ?_ ?_ | refine if_i _ ?_ ?_) <;> intro h1
 ·have hlt:i<t.inodes.length:=by omega
  have hs:=sum_take (lkF n) t.inodes i hlt
  have hb:=links_bound t n i
  have hx:=hls _ (List.getElem_mem hlt)
  simp +decide (maxSteps:=9^9) (disch:=omega) only[↓SB0,SX,seval,hQ,hQ1,getE h1]
  generalize t.inodes[i]'hlt=x at *
  have hel:x.ents.length<2^40:=(inode_sz hx).2.1
  (first | with_reducible refine if_d _ ?_ ?_ | refine if_i _ ?_ ?_) <;> intro hk2
  ·have hf:=lkF_dir (n:=n) hk2
   simp +decide (maxSteps:=9^9) (disch:=omega) only[↓SB0,SX,seval,hQ,hQ1]
   refine LH_D [9,5009] ?_
   simp +decide (maxSteps:=9^9) (disch:=omega) only[↓SB0,SX,seval,hQ,hQ1]
   refine loop_e [9,5009] (fun s:Nat × Nat=>[(5,.int .i64 (s.1:Nat)),(23,.int .i64 (s.2:Nat))]) (fun s=>s.2≤x.ents.length∧s.1=c+((x.ents.take s.2).map Ent.ino).count n) (fun s=>x.ents.length-s.2) ((c,0)) hP1 hQ1 (rfl) (by simp) ?_
   rintro ⟨d,k⟩ ⟨hk,hd⟩ w2 hP2 hQ2
   simp +decide (maxSteps:=9^9) (disch:=omega) only[↓SB0,SX,seval,hQ,hQ1,hQ2]
   simp only at hk hd
   have hcl:=cnt_take_le x.ents k n
   (first | with_reducible refine if_d _ ?_ ?_ | refine if_i _ ?_ ?_) <;> intro g1
   ·have hct:=cnt_take (l:=x.ents) (k:=k) (by omega) n
    simp +decide (maxSteps:=9^9) (disch:=omega) only[↓SB0,SX,seval,hQ,hQ1,hQ2,getE g1]
    (first | with_reducible refine if_d _ ?_ ?_ | refine if_i _ ?_ ?_) <;> intro g2
    ·rw [if_pos g2] at hct
     simp +decide (maxSteps:=9^9) (disch:=omega) only[↓SB0,SX,seval,hQ,hQ1,hQ2]
     exact ⟨(d+1,k+1),rfl,⟨by simp only; omega,by simp only; omega⟩,by simp only; omega⟩
    ·rw [if_neg g2] at hct
     simp +decide (maxSteps:=9^9) (disch:=omega) only[↓SB0,SX,seval,hQ,hQ1,hQ2]
     exact ⟨(d,k+1),rfl,⟨by simp only; omega,by simp only; omega⟩,by simp only; omega⟩
   ·obtain rfl:k=x.ents.length:=by omega
    rw [List.take_length] at hd
    simp +decide (maxSteps:=9^9) (disch:=omega) only[↓SB0,SX,seval,hQ,hQ1,hQ2]
    exact ⟨(d,i+1),rfl,⟨by simp only; omega,by simp only; omega⟩,by simp only; omega⟩
  ·have hf:=lkF_no (n:=n) hk2
   simp +decide (maxSteps:=9^9) (disch:=omega) only[↓SB0,SX,seval,hQ,hQ1]
   exact ⟨(c,i+1),rfl,⟨by simp only; omega,by simp only; omega⟩,by simp only; omega⟩
 ·obtain rfl:i=t.inodes.length:=by omega
  rw [List.take_length,← linksOf_F] at hc
  subst hc
  simp +decide (maxSteps:=9^9) (disch:=omega) only[↓SB0,SX,seval,hQ,hQ1]
end Go.Proofs.YtnhdalnfboiooaaGreatDoor.Awp
namespace Go.Proofs.YtnhdalnfboiooaaGreatDoor.Awp
open Go.Proofs
set_option linter.unusedSimpArgs false
set_option linter.unusedVariables false
open Nat (reduceEqDiff reduceAdd reduceMul reduceSub)
open Int (reduceNeg reduceToNat reducePow)
set_option maxRecDepth 100000
set_option maxHeartbeats 20000000
def intR (n:Int):List TV:=[.int .i64 n]
theorem flatR_I (l:List Int):flatR (l.map intR)=true:=flatR_map intR (fun _=>rfl) l
theorem mem_no {l:List Int} {n:Int} (hk:∀ k,(h:k<l.length)→decide (l[k]=n)=false):n ∉ l:=by
 intro h
 obtain ⟨k,hk',e⟩:=List.getElem_of_mem h
 have:=hk k hk'
 simp [e] at this
theorem sS_l7Has (l:List Int) (n:Int) (hl:l.length<2^48):Spec Tryz.prog 298 [.ext 1 (l.map intR),.int .i64 n] (.bool (decide (n ∈ l))) [.undef,.undef]:=by
 refine spec_c hmx p_S_l7Has [] 51 [] ⟨Nat.le_of_ble_eq_true rfl,Nat.le_of_ble_eq_true rfl⟩ rfl rfl ?_
 intro w hP hQ
 unfold c_S_l7Has
 simp +decide (maxSteps:=9^9) (disch:=omega) only[↓SB0,SX,seval,hQ]
 refine LH_D [4] ?_
 simp +decide (maxSteps:=9^9) (disch:=omega) only[↓SB0,SX,seval,hQ]
 refine loop_e [4] (fun i:Nat=>[(5,.int .i64 i)]) (fun i=>i≤l.length∧∀ k,k<i→(h:k<l.length)→decide (l[k]=n)=false) (fun i=>l.length-i) (0) hP hQ (rfl) (by simp) ?_
 rintro i ⟨hi,hk⟩ w1 hP1 hQ1
 simp +decide (maxSteps:=9^9) (disch:=omega) only[↓SB0,SX,seval,hQ,hQ1]
 (first | with_reducible refine if_d _ ?_ ?_ | refine if_i _ ?_ ?_) <;> intro h1
 ·simp +decide (maxSteps:=9^9) (disch:=omega) only[↓SB0,SX,seval,hQ,hQ1,getE h1,intR]
  (first | with_reducible refine if_d _ ?_ ?_ | refine if_i _ ?_ ?_) <;> intro h2
  ·simp +decide (maxSteps:=9^9) (disch:=omega) only[↓SB0,SX,seval,hQ,hQ1]
   rw [decide_eq_true (by rw [← h2]; exact List.getElem_mem _)]
  ·simp +decide (maxSteps:=9^9) (disch:=omega) only[↓SB0,SX,seval,hQ,hQ1]
   exact ⟨i+1,rfl,⟨by omega,no_step (p:=fun x:Int=>decide (x=n)) hk (by omega) (decide_eq_false h2)⟩,by omega⟩
 ·obtain rfl:i=l.length:=by omega
  simp +decide (maxSteps:=9^9) (disch:=omega) only[↓SB0,SX,seval,hQ,hQ1]
  rw [decide_eq_false (mem_no fun k h=>hk k h h)]
theorem putI_at {l:List Int} (hu:Up l) {n:Int} {k:Nat} (hk:k≤l.length) (hn:n ∉ l) (h1:∀ j,k≤j→(h:j<l.length)→n<l[j]) (h2:k=0∨∃ h:k-1<l.length,l[k-1]≤n) :
  putI l n=l.take k++n::l.drop k:=by
 have hlow:∀ j,j<k→(h:j<l.length)→l[j]<n:=by
  intro j hj hjl
  rcases h2 with h2 | ⟨h2,h3⟩
  ·omega
  ·have hne:l[j]≠n:=fun e=>hn (by rw [← e]; exact List.getElem_mem _)
   by_cases e:j=k-1
   ·subst e; omega
   ·have:=List.pairwise_iff_getElem.1 hu j (k-1) hjl h2 (by omega)
    omega
 have e1:l.takeWhile (·<n)=l.take k:=by
  have:l=l.take k++l.drop k:=(List.take_append_drop k l).symm
  rw [this,List.takeWhile_append_of_pos,List.take_append_drop]
  ·have:(l.drop k).takeWhile (fun x=>decide (x<n))=[]:=by
    cases hd:l.drop k with
    | nil=>rfl
    | cons x r=>
     rw [List.takeWhile_cons_of_neg]
     have hkl:k<l.length:=by
      have:=congrArg List.length hd
      simp at this; omega
     have hx:x=l[k]:=by
      have:=congrArg (fun r=>r[0]?) hd
      simp [hkl] at this
      exact this.symm
     have:=h1 k (Nat.le_refl _) hkl
     simp; omega
   rw [this]; simp
  ·intro x hx
   obtain ⟨j,hj,rfl⟩:=List.getElem_of_mem hx
   simp only [List.length_take] at hj
   rw [List.getElem_take]
   have:=hlow j (by omega) (by omega)
   simpa using this
 have e2:l.dropWhile (·<n)=l.drop k:=by
  have h:=List.takeWhile_append_dropWhile (p:=fun x=>decide (x<n)) (l:=l)
  rw [e1] at h
  exact List.append_cancel_left (h.trans (List.take_append_drop k l).symm)
 rw [putI,if_neg hn,e1,e2]
theorem hole_get {l:List Int} {k:Nat} {h:Int} (hk:k<l.length):((l.take (k+1)++h::l.drop (k+1)))[k]?=some l[k]:=by
 rw [List.getElem?_append_left (by simp; omega),List.getElem?_take,if_pos (by omega),List.getElem?_eq_getElem hk]
theorem hole_len {l:List Int} {k:Nat} {h:Int} (hk:k≤l.length):(l.take k++h::l.drop k).length=l.length+1:=by simp; omega
theorem hole_set {l:List Int} {k:Nat} (h x:Int) (hk:k≤l.length):(l.take k++h::l.drop k).set k x=l.take k++x::l.drop k:=by
 have:(l.take k).length=k:=by simp; omega
 rw [List.set_append_right _ _ (by omega)]
 congr 1
 rw [this,Nat.sub_self]; rfl
theorem hole_down {l:List Int} {k:Nat} (hk:k<l.length):l.take (k+1)++l[k]::l.drop (k+1)=l.take k++l[k]::l.drop k:=by
 rw [List.take_succ_eq_append_getElem hk,List.append_assoc]
 congr 1
 rw [← List.drop_eq_getElem_cons hk]; rfl
theorem mod_int (L:List Int) (k:Nat) (n:Int):(L.map intR).modify k (fun r=>TV.int .i64 n::r.drop 1)=(L.set k n).map intR:=by
 apply List.ext_getElem?
 intro j
 rw [List.getElem?_modify,List.getElem?_map,List.getElem?_map,List.getElem?_set]
 by_cases e:k=j
 ·subst e
  by_cases hk:k<L.length
  ·simp [hk,intR]
  ·simp [hk]
 ·simp [e]
theorem app_int (l:List Int) (n:Int):l.map intR++[[TV.int .i64 n]]=(l.take l.length++n::l.drop l.length).map intR:=by simp [intR]
theorem sS_l7Put (l:List Int) (n:Int) (hu:Up l) (hl:l.length<2^40):Spec Tryz.prog 248 [.ext 1 (l.map intR),.int .i64 n] (.ext 1 ((putI l n).map intR)) [.undef,.undef]:=by
 by_cases hn:n ∈ l
 ·have hH:=sS_l7Has l n (by omega)
  rw [decide_eq_true hn] at hH
  rw [putI,if_pos hn]
  refine spec_c hmx p_S_l7Put [] 115 [] ⟨Nat.le_of_ble_eq_true rfl,Nat.le_of_ble_eq_true rfl⟩ rfl rfl ?_
  intro w hP hQ
  unfold c_S_l7Put
  simp +decide (maxSteps:=9^9) (disch:=omega) only[↓SB0,SX,seval,hQ]
  (first|refine cI hP (hH) rfl rfl ?_|refine cH hP (hH) rfl rfl ?_)
  simp +decide (maxSteps:=9^9) (disch:=omega) only[↓SB0,SX,seval,hQ]
 ·refine spec_frzR (ret:=.own 1 ((putI l n).map intR)) ?_
  have hH:=sS_l7Has l n (by omega)
  rw [decide_eq_false hn] at hH
  refine spec_c hmx p_S_l7Put [] 115 [] ⟨Nat.le_of_ble_eq_true rfl,Nat.le_of_ble_eq_true rfl⟩ rfl rfl ?_
  intro w hP hQ
  unfold c_S_l7Put
  simp +decide (maxSteps:=9^9) (disch:=omega) only[↓SB0,SX,seval,hQ]
  (first|refine cI hP (hH) rfl rfl ?_|refine cH hP (hH) rfl rfl ?_)
  simp +decide (maxSteps:=9^9) (disch:=omega) only[↓SB0,SX,seval,hQ]
  simp +decide (maxSteps:=9^9) (disch:=omega) only[↓SB0,SX,seval,hQ,flatR_I,List.length_append,cast_pred]
  rw [app_int]
  refine LH_D [] ?_
  simp +decide (maxSteps:=9^9) (disch:=omega) only[↓SB0,SX,seval,hQ]
  refine loop_e [] (fun s:Nat × Int=>[(5,.own 1 ((l.take s.1++s.2::l.drop s.1).map intR)),(6,.int .i64 (s.1:Nat))]) (fun s=>s.1≤l.length∧∀ j,s.1≤j→(h:j<l.length)→n<l[j]) (fun s=>s.1) ((l.length,n)) hP hQ (rfl) (by simp; omega) ?_
  rintro ⟨k,x⟩ ⟨hk,hj⟩ w1 hP1 hQ1
  simp +decide (maxSteps:=9^9) (disch:=omega) only[↓SB0,SX,seval,hQ,hQ1]
  simp only at hk hj
  have hlen:=hole_len (h:=x) hk
  cases k with
  | zero=>
   simp +decide (maxSteps:=9^9) (disch:=omega) only[↓SB0,SX,seval,hQ,hQ1]
   rw [putI_at hu hk hn hj (.inl rfl)]
   simp [intR]
  | succ k=>
   have hkl:k<l.length:=by omega
   have w4:decide ((0:Int)<((k+1:Nat):Int))=true:=decide_eq_true (by omega)
   simp +decide (maxSteps:=9^9) (disch:=omega) only[↓SB0,SX,seval,hQ,hQ1,w4,hlen,cast_pred,hole_get (h:=x) hkl,intR]
   (first | with_reducible refine if_d _ ?_ ?_ | refine if_i _ ?_ ?_) <;> intro g
   ·simp +decide (maxSteps:=9^9) (disch:=omega) only[↓SB0,SX,seval,hQ,hQ1,hlen,cast_pred,hole_get (h:=x) hkl,intR]
    exact ⟨(k,l[k]),by simp only [mod_int,hole_set _ _ hk,hole_down hkl],⟨by simp only; omega,fun j hj1 hj2=>by
     by_cases e:j=k
     ·subst e; exact g
     ·exact hj j (by simp only at hj1; omega) hj2⟩,by simp only; omega⟩
   ·simp +decide (maxSteps:=9^9) (disch:=omega) only[↓SB0,SX,seval,hQ,hQ1,hlen,intR]
    rw [putI_at hu hk hn hj (.inr ⟨by simpa using hkl,by simp only [Nat.add_sub_cancel]; omega⟩),mod_int,hole_set _ _ hk]
end Go.Proofs.YtnhdalnfboiooaaGreatDoor.Awp
namespace Go.Proofs.YtnhdalnfboiooaaGreatDoor.Awp
open Go.Proofs
set_option linter.unusedSimpArgs false
set_option linter.unusedVariables false
open Nat (reduceEqDiff reduceAdd reduceMul reduceSub)
open Int (reduceNeg reduceToNat reducePow)
set_option maxRecDepth 100000
set_option maxHeartbeats 20000000
theorem foldl_take {α β:Type} (f:β→α→β) (l:List α) (a:β) (i:Nat) (h:i<l.length):(l.take (i+1)).foldl f a=f ((l.take i).foldl f a) l[i]:=by
 rw [List.take_succ_eq_append_getElem h,List.foldl_append]; rfl
theorem nb_some {t:Tab} {j:Int}:(nbT t j).isSome=(inoIdx t j).isSome:=by
 rw [nbT]
 cases e:inoIdx t j with
 | none=>rw [idx_no e]; rfl
 | some k=>rw [idx_some e]; rfl
theorem addJ_yes {t:Tab} {j:Int} {k:Nat} (out:List Int) (h:inoIdx t j=some k):addJ (nbT t) out j=putI out j:=by
 rw [addJ,nb_some,h]; rfl
theorem addJ_no {t:Tab} {j:Int} (out:List Int) (h:inoIdx t j=none):addJ (nbT t) out j=out:=by
 rw [addJ,nb_some,h]; rfl
structure Nums (t:Tab) (l:List Int):Prop where
 up:Up l
 some':∀ x ∈ l,(nbT t x).isSome=true
theorem Nums.len {t:Tab} {l:List Int} (h:Nums t l):l.length≤t.inodes.length:=nb_bound t l (up_nodup h.up) h.some'
theorem Nums.addJs {t:Tab} {l:List Int} (h:Nums t l) (js:List Int):Nums t (js.foldl (addJ (nbT t)) l):=
 ⟨addJs_up (nbT t) js l h.up,fun x hx=>by
  rcases (mem_addJs (nbT t) js l x).1 hx with h' | h'
  ·exact h.some' x h'
  ·exact h'.2⟩
theorem Nums.addIs {t:Tab} {l:List Int} (h:Nums t l) (is:List Int):Nums t (is.foldl (addI (nbT t)) l):=
 ⟨addIs_up (nbT t) is l h.up,fun x hx=>by
  rcases (mem_addIs (nbT t) is l x).1 hx with h' | h'
  ·exact h.some' x h'
  ·exact h'.2⟩
theorem addI_none {t:Tab} {i:Int} (out:List Int) (h:inoAt t i=none):addI (nbT t) out i=out:=by rw [addI,nbT,h]; rfl
theorem addI_file {t:Tab} {i:Int} {x:Inode} (out:List Int) (h:inoAt t i=some x) (hk:¬ x.kind=2):addI (nbT t) out i=out:=by rw [addI,nbT,h]; simp [nbOf,hk]
theorem addI_dir {t:Tab} {i:Int} {x:Inode} (out:List Int) (h:inoAt t i=some x) (hk:x.kind=2):addI (nbT t) out i=(x.ents.map Ent.ino).foldl (addJ (nbT t)) out:=by rw [addI,nbT,h]; simp [nbOf,hk]
theorem foldE_take (f:List Int→Int→List Int) (l:List Ent) (a:List Int) (k:Nat) (h:k<l.length):((l.take (k+1)).map Ent.ino).foldl f a=f (((l.take k).map Ent.ino).foldl f a) l[k].ino:=by
 have:=foldl_take f (l.map Ent.ino) a k (by simpa using h)
 rw [← List.map_take,← List.map_take] at this
 rw [this]; simp
theorem sS_l7Next (t:Tab) (l:List Int) (h:t.sz<2^40) (hn:Nums t l):Spec Tryz.prog 171 [t.x,.ext 1 (l.map intR)] (.ext 1 ((nextR (nbT t) l).map intR)) [.undef,.undef]:=by
 obtain ⟨hl,hls⟩:=tab_sz h
 have hll:=hn.len
 refine spec_c hmx p_S_l7Next [] 1015 [] ⟨Nat.le_of_ble_eq_true rfl,Nat.le_of_ble_eq_true rfl⟩ rfl rfl ?_
 intro w hP hQ
 unfold c_S_l7Next
 simp +decide (maxSteps:=9^9) (disch:=omega) only[↓SB0,SX,seval,hQ]
 refine LH_D [7,8,9,5007] ?_
 simp +decide (maxSteps:=9^9) (disch:=omega) only[↓SB0,SX,seval,hQ]
 refine loop_e [7,8,9,5007] (fun i:Nat=>[(5,.ext 1 (((l.take i).foldl (addI (nbT t)) l).map intR)),(6,.int .i64 i)]) (fun i=>i≤l.length) (fun i=>l.length-i) (0) hP hQ (rfl) (by simp) ?_
 rintro i hi w1 hP1 hQ1
 simp +decide (maxSteps:=9^9) (disch:=omega) only[↓SB0,SX,seval,hQ,hQ1]
 (first | with_reducible refine if_d _ ?_ ?_ | refine if_i _ ?_ ?_) <;> intro h1
 ·have hlt:i<l.length:=by omega
  have hI:=sS_InodeAt t (l[i]'hlt) h
  have hfo:=foldl_take (addI (nbT t)) l l i hlt
  have hno:=hn.addIs (l.take i)
  generalize hO:(l.take i).foldl (addI (nbT t)) l=out at *
  cases e:inoAt t (l[i]'hlt) with
  | none=>
   rw [iget,e] at hI
   rw [addI_none _ e] at hfo
   simp +decide (maxSteps:=9^9) (disch:=omega) only[↓SB0,SX,seval,hQ,hQ1,getE h1,intR]
   (first|refine cI hP1 (hI) rfl rfl ?_|refine cH hP1 (hI) rfl rfl ?_)
   simp +decide (maxSteps:=9^9) (disch:=omega) only[↓SB0,SX,seval,hQ,hQ1]
   refine LH_D [] ?_
   simp +decide (maxSteps:=9^9) (disch:=omega) only[↓SB0,SX,seval,hQ,hQ1]
   refine loop_e [] (fun k:Nat=>[(5,.ext 1 (out.map intR)),(9,.int .i64 k)]) (fun k=>k=0) (fun k=>0) (0) hP1 hQ1 (rfl) (rfl) ?_
   rintro k hk w2 hP2 hQ2
   simp +decide (maxSteps:=9^9) (disch:=omega) only[↓SB0,SX,seval,hQ,hQ1,hQ2]
   subst hk
   simp +decide (maxSteps:=9^9) (disch:=omega) only[↓SB0,SX,seval,hQ,hQ1,hQ2]
   exact ⟨i+1,by simp only [hfo]; rfl,by omega,by omega⟩
  | some x=>
   have hx:=hls x (inoAt_some e).1
   have hel:x.ents.length<2^40:=(inode_sz hx).2.1
   rw [iget,e] at hI
   simp only [Option.getD_some,Option.isSome_some] at hI
   by_cases hk2:x.kind=2
   ·rw [addI_dir _ e hk2] at hfo
    simp +decide (maxSteps:=9^9) (disch:=omega) only[↓SB0,SX,seval,hQ,hQ1,getE h1,intR]
    (first|refine cI hP1 (hI) rfl rfl ?_|refine cH hP1 (hI) rfl rfl ?_)
    simp +decide (maxSteps:=9^9) (disch:=omega) only[↓SB0,SX,seval,hQ,hQ1]
    refine LH_D [] ?_
    simp +decide (maxSteps:=9^9) (disch:=omega) only[↓SB0,SX,seval,hQ,hQ1]
    refine loop_e [] (fun k:Nat=>[(5,.ext 1 ((((x.ents.take k).map Ent.ino).foldl (addJ (nbT t)) out).map intR)),(9,.int .i64 k)]) (fun k=>k≤x.ents.length) (fun k=>x.ents.length-k) (0) hP1 hQ1 (rfl) (by simp) ?_
    rintro k hk w2 hP2 hQ2
    simp +decide (maxSteps:=9^9) (disch:=omega) only[↓SB0,SX,seval,hQ,hQ1,hQ2]
    have hno2:=hno.addJs ((x.ents.take k).map Ent.ino)
    have hl2:=hno2.len
    (first | with_reducible refine gd_d _ ?_ ?_ | refine gd_i _ ?_ ?_) <;> intro g1
    ·have hkl:k<x.ents.length:=by omega
     have hf2:=foldE_take (addJ (nbT t)) x.ents out k hkl
     generalize ((x.ents.take k).map Ent.ino).foldl (addJ (nbT t)) out=o2 at *
     have hA:=sS_l4At t (x.ents[k]'hkl).ino (by omega)
     simp +decide (maxSteps:=9^9) (disch:=omega) only[↓SB0,SX,seval,hQ,hQ1,hQ2,g1,hk2]
     cases e2:inoIdx t (x.ents[k]'hkl).ino with
     | none=>
      rw [e2] at hA
      rw [addJ_no _ e2] at hf2
      simp +decide (maxSteps:=9^9) (disch:=omega) only[↓SB0,SX,seval,hQ,hQ1,hQ2,getE g1]
      (first|refine cI hP2 (hA) rfl rfl ?_|refine cH hP2 (hA) rfl rfl ?_)
      simp +decide (maxSteps:=9^9) (disch:=omega) only[↓SB0,SX,seval,hQ,hQ1,hQ2]
      exact ⟨k+1,by simp only [hf2,hk2]; rfl,by omega,by omega⟩
     | some m=>
      rw [e2,show idxI (some m)=(m:Int) from rfl] at hA
      rw [addJ_yes _ e2] at hf2
      simp +decide (maxSteps:=9^9) (disch:=omega) only[↓SB0,SX,seval,hQ,hQ1,hQ2,getE g1]
      (first|refine cI hP2 (hA) rfl rfl ?_|refine cH hP2 (hA) rfl rfl ?_)
      simp +decide (maxSteps:=9^9) (disch:=omega) only[↓SB0,SX,seval,hQ,hQ1,hQ2]
      (first | with_reducible refine if_d _ ?_ ?_ | refine if_i _ ?_ ?_) <;> intro g3
      ·simp +decide (maxSteps:=9^9) (disch:=omega) only[↓SB0,SX,seval,hQ,hQ1,hQ2,getE g1]
       (first | refine call_i hP2 (sS_l7Put o2 (x.ents[k]'hkl).ino hno2.up (by omega)) (.inr rfl) ?_ | refine callH_i hP2 (sS_l7Put o2 (x.ents[k]'hkl).ino hno2.up (by omega)) (.inr rfl) ?_)
       simp +decide (maxSteps:=9^9) (disch:=omega) only[↓SB0,SX,seval,hQ,hQ1,hQ2]
       exact ⟨k+1,by simp only [hf2,hk2]; rfl,by omega,by omega⟩
      ·exfalso; omega
    ·obtain rfl:k=x.ents.length:=by omega
     rw [List.take_length] at *
     simp +decide (maxSteps:=9^9) (disch:=omega) only[↓SB0,SX,seval,hQ,hQ1,hQ2,g1]
     exact ⟨i+1,by simp only [hfo]; rfl,by omega,by omega⟩
   ·rw [addI_file _ e hk2] at hfo
    simp +decide (maxSteps:=9^9) (disch:=omega) only[↓SB0,SX,seval,hQ,hQ1,getE h1,intR]
    (first|refine cI hP1 (hI) rfl rfl ?_|refine cH hP1 (hI) rfl rfl ?_)
    simp +decide (maxSteps:=9^9) (disch:=omega) only[↓SB0,SX,seval,hQ,hQ1]
    refine LH_D [] ?_
    simp +decide (maxSteps:=9^9) (disch:=omega) only[↓SB0,SX,seval,hQ,hQ1]
    refine loop_e [] (fun k:Nat=>[(5,.ext 1 (out.map intR)),(9,.int .i64 k)]) (fun k=>k=0) (fun k=>0) (0) hP1 hQ1 (rfl) (rfl) ?_
    rintro k hk w2 hP2 hQ2
    simp +decide (maxSteps:=9^9) (disch:=omega) only[↓SB0,SX,seval,hQ,hQ1,hQ2]
    subst hk
    simp +decide (maxSteps:=9^9) (disch:=omega) only[↓SB0,SX,seval,hQ,hQ1,hQ2]
    (first | with_reducible refine gd_d _ ?_ ?_ | refine gd_i _ ?_ ?_) <;> intro g1
    ·simp +decide (maxSteps:=9^9) (disch:=omega) only[↓SB0,SX,seval,hQ,hQ1,hQ2,g1,hk2]
     exact ⟨i+1,by simp only [hfo]; rfl,by omega,by omega⟩
    ·simp +decide (maxSteps:=9^9) (disch:=omega) only[↓SB0,SX,seval,hQ,hQ1,hQ2,g1]
     exact ⟨i+1,by simp only [hfo]; rfl,by omega,by omega⟩
 ·obtain rfl:i=l.length:=by omega
  simp +decide (maxSteps:=9^9) (disch:=omega) only[↓SB0,SX,seval,hQ,hQ1,List.take_length]
  rfl
end Go.Proofs.YtnhdalnfboiooaaGreatDoor.Awp
namespace Go.Proofs.YtnhdalnfboiooaaGreatDoor.Awp
open Go.Proofs
set_option linter.unusedSimpArgs false
set_option linter.unusedVariables false
open Nat (reduceEqDiff reduceAdd reduceMul reduceSub)
open Int (reduceNeg reduceToNat reducePow)
set_option maxRecDepth 100000
set_option maxHeartbeats 20000000
def rdV (t:Tab):Nat→AV
 | 0=>.own 1 [intR 1]
 | i+1=>.ext 1 ((roundsR (nbT t) (i+1)).map intR)
theorem sS_Reached (t:Tab) (h:t.sz<2^40):Spec Tryz.prog 72 [t.x] (.ext 1 ((reached t).map intR)) [.undef]:=by
 obtain ⟨hl,hls⟩:=tab_sz h
 have hA:=sS_l4At t 1 (by omega)
 cases e:inoIdx t 1 with
 | none=>
  have hr:reached t=[]:=by rw [reached,reachR,if_neg]; rw [nb_some,e]; simp
  rw [e] at hA
  rw [hr]
  refine spec_frzR (ret:=.own 1 []) ?_
  refine spec_c hmx p_S_Reached [] 31 [] ⟨Nat.le_of_ble_eq_true rfl,Nat.le_of_ble_eq_true rfl⟩ rfl rfl ?_
  intro w hP hQ
  unfold c_S_Reached
  simp +decide (maxSteps:=9^9) (disch:=omega) only[↓SB0,SX,seval,hQ]
  (first|refine cI hP (hA) rfl rfl ?_|refine cH hP (hA) rfl rfl ?_)
  simp +decide (maxSteps:=9^9) (disch:=omega) only[↓SB0,SX,seval,hQ]
 | some m=>
  have hm:=idx_lt e
  have h1s:(nbT t 1).isSome=true:=by rw [nb_some,e]; rfl
  have hr:reached t=roundsR (nbT t) t.inodes.length:=by rw [reached,reachR,if_pos h1s]
  rw [e,show idxI (some m)=(m:Int) from rfl] at hA
  rw [hr]
  have hnum:∀ i,Nums t (roundsR (nbT t) i):=fun i=>⟨roundsR_up _ i,fun x hx=>reach_some _ (rounds_reach _ h1s i x hx)⟩
  refine spec_c hmx p_S_Reached [(171,[.b,.m],[])] 31 [] ⟨Nat.le_of_ble_eq_true rfl,Nat.le_of_ble_eq_true rfl⟩ rfl rfl ?_
  intro w hP hQ
  unfold c_S_Reached
  simp +decide (maxSteps:=9^9) (disch:=omega) only[↓SB0,SX,seval,hQ]
  (first|refine cI hP (hA) rfl rfl ?_|refine cH hP (hA) rfl rfl ?_)
  simp +decide (maxSteps:=9^9) (disch:=omega) only[↓SB0,SX,seval,hQ]
  (first | with_reducible refine if_d _ ?_ ?_ | refine if_i _ ?_ ?_) <;> intro g0
  ·exfalso; omega
  simp +decide (maxSteps:=9^9) (disch:=omega) only[↓SB0,SX,seval,hQ]
  refine LH_D [] ?_
  simp +decide (maxSteps:=9^9) (disch:=omega) only[↓SB0,SX,seval,hQ]
  refine loop_e [] (fun i:Nat=>[(3,rdV t i),(4,.int .i64 i)]) (fun i=>i≤t.inodes.length) (fun i=>t.inodes.length-i) (0) hP hQ (rfl) (by simp) ?_
  rintro i hi w1 hP1 hQ1
  simp +decide (maxSteps:=9^9) (disch:=omega) only[↓SB0,SX,seval,hQ,hQ1]
  cases i with
  | zero=>
   have hN:=spec_give2 (sS_l7Next t [1] h (hnum 0))
   simp only [rdV]
   (first | with_reducible refine if_d _ ?_ ?_ | refine if_i _ ?_ ?_) <;> intro h1
   ·simp +decide (maxSteps:=9^9) (disch:=omega) only[↓SB0,SX,seval,hQ,hQ1]
    (first | refine call_i hP1 (hN) (.inr rfl) ?_ | refine callH_i hP1 (hN) (.inr rfl) ?_)
    simp +decide (maxSteps:=9^9) (disch:=omega) only[↓SB0,SX,seval,hQ,hQ1]
    exact ⟨1,rfl,by omega,by omega⟩
   ·exfalso; omega
  | succ i=>
   have hN:=sS_l7Next t (roundsR (nbT t) (i+1)) h (hnum (i+1))
   simp only [rdV]
   (first | with_reducible refine if_d _ ?_ ?_ | refine if_i _ ?_ ?_) <;> intro h1
   ·simp +decide (maxSteps:=9^9) (disch:=omega) only[↓SB0,SX,seval,hQ,hQ1]
    (first | refine call_i hP1 (hN) (.inr rfl) ?_ | refine callH_i hP1 (hN) (.inr rfl) ?_)
    simp +decide (maxSteps:=9^9) (disch:=omega) only[↓SB0,SX,seval,hQ,hQ1]
    exact ⟨i+1+1,rfl,by omega,by omega⟩
   ·have he:i+1=t.inodes.length:=by omega
    simp +decide (maxSteps:=9^9) (disch:=omega) only[↓SB0,SX,seval,hQ,hQ1]
    rw [he]
end Go.Proofs.YtnhdalnfboiooaaGreatDoor.Awp
namespace Go.Proofs.YtnhdalnfboiooaaGreatDoor.Awp
open Go.Proofs Go.Shelf
open Nat (reduceEqDiff reduceAdd reduceMul reduceSub)
open Int (reduceNeg reduceToNat reducePow)
set_option maxRecDepth 100000
def ly_Lays_n189_ren:Go.Shelf.Ren:=⟨fun | 189=>170 | 125=>233 | 257=>247 | 128=>279 | 129=>280 | 294=>289 | 295=>290 | 296=>291 | 297=>292 | 298=>293 | 299=>294 | 216=>295 | 300=>296 | 301=>297 | 328=>321 | 329=>311 | 330=>312 | 331=>322 | 332=>323 | 215=>324 | 343=>335 | n=>n,
 fun | 28=>86 | 3=>3 | 46=>207 | 0=>0 | 51=>238 | 53=>240 | 4=>4 | 183=>231 | 182=>230 | 131=>235 | 5=>5 | 9=>9 | 218=>262 | 222=>266 | 228=>285 | 229=>88 | n=>n,
 fun | n=>n⟩
theorem ly_Lays_n189:Lays.n189 Tryz.prog ly_Lays_n189_ren where
 mixed:=by kernel_rfl
 f125:=Tryz.func233.trans (congrArg some (by kernel_rfl))
 f128:=Tryz.func279.trans (congrArg some (by kernel_rfl))
 f129:=Tryz.func280.trans (congrArg some (by kernel_rfl))
 f189:=Tryz.func170.trans (congrArg some (by kernel_rfl))
 f215:=Tryz.func324.trans (congrArg some (by kernel_rfl))
 f216:=Tryz.func295.trans (congrArg some (by kernel_rfl))
 f257:=Tryz.func247.trans (congrArg some (by kernel_rfl))
 f294:=Tryz.func289.trans (congrArg some (by kernel_rfl))
 f295:=Tryz.func290.trans (congrArg some (by kernel_rfl))
 f296:=Tryz.func291.trans (congrArg some (by kernel_rfl))
 f297:=Tryz.func292.trans (congrArg some (by kernel_rfl))
 f298:=Tryz.func293.trans (congrArg some (by kernel_rfl))
 f299:=Tryz.func294.trans (congrArg some (by kernel_rfl))
 f300:=Tryz.func296.trans (congrArg some (by kernel_rfl))
 f301:=Tryz.func297.trans (congrArg some (by kernel_rfl))
 f328:=Tryz.func321.trans (congrArg some (by kernel_rfl))
 f329:=Tryz.func311.trans (congrArg some (by kernel_rfl))
 f330:=Tryz.func312.trans (congrArg some (by kernel_rfl))
 f331:=Tryz.func322.trans (congrArg some (by kernel_rfl))
 f332:=Tryz.func323.trans (congrArg some (by kernel_rfl))
 f343:=Tryz.func335.trans (congrArg some (by kernel_rfl))
 t0:=Tryz.underlying0
 a0:=Tryz.isAgg0
 z0:=Tryz.sizeOf0
 v0:=Tryz.zeroValue0
 t3:=Tryz.underlying3
 a3:=Tryz.isAgg3
 z3:=Tryz.sizeOf3
 v3:=Tryz.zeroValue3
 t4:=Tryz.underlying4
 a4:=Tryz.isAgg4
 z4:=Tryz.sizeOf4
 v4:=Tryz.zeroValue4
 t5:=Tryz.underlying5
 a5:=Tryz.isAgg5
 z5:=Tryz.sizeOf5
 v5:=Tryz.zeroValue5
 t9:=Tryz.underlying9
 a9:=Tryz.isAgg9
 z9:=Tryz.sizeOf9
 v9:=Tryz.zeroValue9
 t28:=Tryz.underlying86
 a28:=Tryz.isAgg86
 z28:=Tryz.sizeOf86
 v28:=Tryz.zeroValue86
 t46:=Tryz.underlying207
 a46:=Tryz.isAgg207
 z46:=Tryz.sizeOf207
 v46:=Tryz.zeroValue207
 t51:=Tryz.underlying238
 a51:=Tryz.isAgg238
 z51:=Tryz.sizeOf238
 v51:=Tryz.zeroValue238
 t53:=Tryz.underlying240
 a53:=Tryz.isAgg240
 z53:=Tryz.sizeOf240
 v53:=Tryz.zeroValue240
 t131:=Tryz.underlying235
 a131:=Tryz.isAgg235
 z131:=Tryz.sizeOf235
 v131:=Tryz.zeroValue235
 t182:=Tryz.underlying230
 a182:=Tryz.isAgg230
 z182:=Tryz.sizeOf230
 v182:=Tryz.zeroValue230
 t183:=Tryz.underlying231
 a183:=Tryz.isAgg231
 z183:=Tryz.sizeOf231
 v183:=Tryz.zeroValue231
 t218:=Tryz.underlying262
 a218:=Tryz.isAgg262
 z218:=Tryz.sizeOf262
 v218:=Tryz.zeroValue262
 t222:=Tryz.underlying266
 a222:=Tryz.isAgg266
 z222:=Tryz.sizeOf266
 v222:=Tryz.zeroValue266
 t228:=Tryz.underlying285
 a228:=Tryz.isAgg285
 z228:=Tryz.sizeOf285
 v228:=Tryz.zeroValue285
 t229:=Tryz.underlying88
 a229:=Tryz.isAgg88
 z229:=Tryz.sizeOf88
 v229:=Tryz.zeroValue88
end Go.Proofs.YtnhdalnfboiooaaGreatDoor.Awp
namespace Go.Proofs.YtnhdalnfboiooaaGreatDoor.Awp
open Go.Proofs
set_option linter.unusedSimpArgs false
set_option linter.unusedVariables false
open Nat (reduceEqDiff reduceAdd reduceMul reduceSub)
open Int (reduceNeg reduceToNat reducePow)
set_option maxRecDepth 100000
set_option maxHeartbeats 20000000
theorem ints_row {w:World} {o:Bool} {F:Foot}:∀ (l:List Int) {cs:List Value},Row w o F cs (l.map intR).flatten→cs=l.map (Value.int .i64)∧∀ b,F b=0:=by
 intro l
 induction l generalizing F with
 | nil=>
  intro cs h
  cases h with
  | nil _ _ hF=>exact ⟨rfl,hF⟩
 | cons n l ih=>
  intro cs h
  have e:((n::l).map intR).flatten=.int .i64 n::(l.map intR).flatten:=by simp [intR]
  rw [e] at h
  cases h with
  | int _ _ _ _ vs _ h=>
   obtain ⟨e1,e2⟩:=ih h
   exact ⟨by rw [e1]; rfl,e2⟩
theorem row_ints {w:World} {o:Bool} (l:List Int):Row w o (fun _=>0) (l.map (Value.int .i64)) (l.map intR).flatten:=by
 induction l with
 | nil=>exact .nil _ _ fun _=>rfl
 | cons n l ih=>
  have e:((n::l).map intR).flatten=.int .i64 n::(l.map intR).flatten:=by simp [intR]
  rw [e]
  exact .int _ _ _ _ _ _ ih
abbrev sortI (l:List Int):List Int:=l.mergeSort fun x y=>decide (x≤y)
theorem s_Sort (l:List Int) (hl:l.length<2^40):Spec Tryz.prog 170 [.own 1 (l.map intR)] (.tup []) [.own 1 ((sortI l).map intR)]:=by
 refine ⟨⟨_,Tryz.func170,by kernel_rfl,by kernel_rfl⟩,rfl,?_⟩
 intro w vs F X r h1 h2 h3
 have hlen:(sortI l).length=l.length:=List.length_mergeSort l
 cases r with
 | own _ F1 F2 _ s es v vs ys hr hn hF=>
  cases hn with
  | nil _ _ hF2 hX=>
   rcases Row.sl_inv hr with ⟨rfl,he,h0⟩ | ⟨G1,b,off,cap,C,ty,fr,cs,rfl,hb,hfr,hcap,hle,hes,hcs,hc,hrow,hG⟩
   ·have hl0:l=[]:=by simpa using he
    subst hl0
    refine (Any.slices_Sort_int_none ly_Lays_n189 none 0 w).mono ?_
    rintro e w' ⟨rfl,rfl⟩
    refine ⟨.tuple #[],F,X,rfl,?_,h1,h2,⟨Nat.le_refl _,.refl _⟩,fun b _ _=>rfl,fun b hb=>.inl hb,fun b hb=>⟨.inl hb,h3 b hb⟩⟩
    refine .tup F (fun _=>0) F X (fun _=>0) X [] [] _ _ RepA.znil ?_ (fun x=>by omega) (fun x=>by omega)
    exact .own F F1 F2 X 1 _ _ _ _ (by simpa [sortI] using hr) (.nil _ _ hF2 hX) hF
   ·obtain ⟨hce,hG1⟩:=ints_row l hrow
    have hrl:(l.map intR).length=l.length:=List.length_map _
    have hcsl:cs.length=l.length:=by rw [hce,List.length_map]
    rw [hrl] at hle ⊢
    have hsz:off+l.length≤C.size:=by omega
    have hbl:b<w.heap.size:=(Array.getElem?_eq_some_iff.1 hb).1
    have hH:Go.Sort.Holds (Value.int .i64) w b off l.toArray:=by
     intro j hj
     have hj':j<l.length:=by simpa using hj
     have e1:=hc j (by omega)
     rw [hce,List.getElem?_map,List.getElem?_eq_getElem hj'] at e1
     refine ⟨?_,?_⟩
     ·simp only [World.cell?,hb,Option.bind_some,e1,Option.map_some]
      simp [getElem!_pos,hj']
     ·have:=hfr (off+j) (by omega)
      simp [World.frozen?,hb]
      simpa using this
    refine (Any.slices_Sort_int ly_Lays_n189 b off cap l w hH hbl (by omega)).mono ?_
    rintro e w' ⟨rfl,n,os,rfl⟩
    have hw:∀ x,x≠b→x<w.heap.size→(Go.Sort.grow (Go.Sort.putRow (Value.int .i64) (Go.Sort.ahead w n) b off (sortI l).toArray) os).heap[x]?=w.heap[x]?:=by
     intro x hx hxl
     simp only [Go.Sort.grow,Go.Sort.putRow,Go.Sort.mapBlock,Go.Sort.ahead]
     rw [Array.getElem?_append_left (by simpa using hxl),Array.getElem?_modify,if_neg (Ne.symm hx)]
    have hwb:(Go.Sort.grow (Go.Sort.putRow (Value.int .i64) (Go.Sort.ahead w n) b off (sortI l).toArray) os).heap[b]?=some (.cells (Go.Sort.putCells (Value.int .i64) off (sortI l).toArray C) ty fr):=by
     simp only [Go.Sort.grow,Go.Sort.putRow,Go.Sort.mapBlock,Go.Sort.ahead]
     rw [Array.getElem?_append_left (by simpa using hbl),Array.getElem?_modify,if_pos rfl,hb]; rfl
    have hsz2:(Go.Sort.putCells (Value.int .i64) off (sortI l).toArray C).size=C.size:=by simp [Go.Sort.putCells]
    have hrow2:Row (Go.Sort.grow (Go.Sort.putRow (Value.int .i64) (Go.Sort.ahead w n) b off (sortI l).toArray) os) true F1 [.slice (some ⟨b,off,none⟩) l.length cap] [.sl 1 ((sortI l).map intR)]:=by
     refine Row.of_sl (F1:=fun _=>0) (cs:=(sortI l).map (Value.int .i64)) (by rw [List.length_map,hlen]) hwb (by rw [hsz2]; exact hfr) (by rw [hsz2]; exact hcap) (by rw [List.length_map,hlen]; exact hle) ?_ ?_ ?_ (row_ints _) (fun x=>by have:=hG x; have:=hG1 x; omega)
     ·intro e he
      obtain ⟨x,_,rfl⟩:=List.mem_map.1 he
      rfl
     ·simp
     ·intro k hk
      rw [List.length_map,hlen] at hk
      rw [List.getElem?_map,List.getElem?_eq_getElem (by rw [hlen]; exact hk)]
      have hin:off≤off+k∧off+k<off+(sortI l).length:=by omega
      simp only [Go.Sort.putCells,Array.getElem?_mapIdx,List.size_toArray]
      rw [Array.getElem?_eq_getElem (by omega),Option.map_some,if_pos hin,Option.map_some]
      simp [Nat.add_sub_cancel_left,getElem!_pos,hlen,hk]
    refine ⟨.tuple #[],F,X,rfl,?_,h1,h2,⟨?_,⟨rfl,rfl⟩⟩,fun x hx h0=>hw x (fun e=>?_) hx,fun x hx=>.inl hx,fun x hx=>⟨.inl hx,?_⟩⟩
    ·refine .tup F (fun _=>0) F X (fun _=>0) X [] [] _ _ RepA.znil ?_ (fun x=>by omega) (fun x=>by omega)
     exact .own F F1 F2 X 1 _ _ _ _ hrow2 (.nil _ _ hF2 hX) hF
    ·simp only [Go.Sort.grow,Go.Sort.putRow,Go.Sort.mapBlock,Go.Sort.ahead,Array.size_append,Array.size_modify]; omega
    ·subst e
     have:=hF x; have:=hG x
     simp at *; omega
    ·have:=h3 x hx
     simp only [Go.Sort.grow,Go.Sort.putRow,Go.Sort.mapBlock,Go.Sort.ahead,Array.size_append,Array.size_modify]; omega
end Go.Proofs.YtnhdalnfboiooaaGreatDoor.Awp
namespace Go.Proofs.YtnhdalnfboiooaaGreatDoor.Awp
open Go.Proofs
set_option linter.unusedSimpArgs false
set_option linter.unusedVariables false
open Nat (reduceEqDiff reduceAdd reduceMul reduceSub)
open Int (reduceNeg reduceToNat reducePow)
set_option maxRecDepth 100000
set_option maxHeartbeats 20000000
theorem s_Index_int (l:List Int) (n:Int) (hl:l.length<2^48):Spec Tryz.prog 246 [.ext 1 (l.map intR),.int .i64 n] (.int .i64 (idxI (l.findIdx? fun x=>decide (x=n)))) [.undef,.undef]:=by
 refine spec_c hmx p_X_Index_int [] 435 [] ⟨Nat.le_of_ble_eq_true rfl,Nat.le_of_ble_eq_true rfl⟩ rfl rfl ?_
 intro w hP hQ
 unfold c_X_Index_int
 simp +decide (maxSteps:=9^9) (disch:=omega) only[↓SB0,SX,seval,hQ]
 refine LH_D [4,5] ?_
 simp +decide (maxSteps:=9^9) (disch:=omega) only[↓SB0,SX,seval,hQ]
 refine loop_e [4,5] (fun i:Nat=>[(8,.int .i64 i)]) (fun i=>i≤l.length∧∀ k,k<i→(h:k<l.length)→decide (l[k]=n)=false) (fun i=>l.length-i) (0) hP hQ (rfl) (by simp) ?_
 rintro i ⟨hi,hk⟩ w1 hP1 hQ1
 simp +decide (maxSteps:=9^9) (disch:=omega) only[↓SB0,SX,seval,hQ,hQ1]
 (first | with_reducible refine if_d _ ?_ ?_ | refine if_i _ ?_ ?_) <;> intro h1
 ·simp +decide (maxSteps:=9^9) (disch:=omega) only[↓SB0,SX,seval,hQ,hQ1,getE h1,intR]
  (first | with_reducible refine if_d _ ?_ ?_ | refine if_i _ ?_ ?_) <;> intro h2
  ·simp +decide (maxSteps:=9^9) (disch:=omega) only[↓SB0,SX,seval,hQ,hQ1]
   rw [idx_step (p:=fun x:Int=>decide (x=n)) hk (by omega) (decide_eq_true h2.symm)]; rfl
  ·simp +decide (maxSteps:=9^9) (disch:=omega) only[↓SB0,SX,seval,hQ,hQ1]
   exact ⟨i+1,rfl,⟨by omega,no_step (p:=fun x:Int=>decide (x=n)) hk (by omega) (decide_eq_false fun e=>h2 e.symm)⟩,by omega⟩
 ·obtain rfl:i=l.length:=by omega
  simp +decide (maxSteps:=9^9) (disch:=omega) only[↓SB0,SX,seval,hQ,hQ1]
  rw [idx_none (p:=fun x:Int=>decide (x=n)) fun k h=>hk k h h]; rfl
theorem s_Contains_int (l:List Int) (n:Int) (hl:l.length<2^48):Spec Tryz.prog 169 [.ext 1 (l.map intR),.int .i64 n] (.bool (decide (n ∈ l))) [.undef,.undef]:=by
 have hI:=s_Index_int l n hl
 cases e:l.findIdx? (fun x=>decide (x=n)) with
 | none=>
  have hno:n ∉ l:=fun h=>by
   rw [List.findIdx?_eq_none_iff] at e
   have:=e n h
   simp at this
  rw [e] at hI
  refine spec_c hmx p_X_Contains_int [] 19 [] ⟨Nat.le_of_ble_eq_true rfl,Nat.le_of_ble_eq_true rfl⟩ rfl rfl ?_
  intro w hP hQ
  unfold c_X_Contains_int
  simp +decide (maxSteps:=9^9) (disch:=omega) only[↓SB0,SX,seval,hQ]
  (first|refine cI hP (hI) rfl rfl ?_|refine cH hP (hI) rfl rfl ?_)
  simp +decide (maxSteps:=9^9) (disch:=omega) only[↓SB0,SX,seval,hQ]
  rw [decide_eq_false hno]
 | some k=>
  obtain ⟨hk,h1,_⟩:=List.findIdx?_eq_some_iff_getElem.1 e
  have hyes:n ∈ l:=by
   have:l[k]=n:=by simpa using h1
   rw [← this]; exact List.getElem_mem hk
  rw [e,show idxI (some k)=(k:Int) from rfl] at hI
  refine spec_c hmx p_X_Contains_int [] 19 [] ⟨Nat.le_of_ble_eq_true rfl,Nat.le_of_ble_eq_true rfl⟩ rfl rfl ?_
  intro w hP hQ
  unfold c_X_Contains_int
  simp +decide (maxSteps:=9^9) (disch:=omega) only[↓SB0,SX,seval,hQ]
  (first|refine cI hP (hI) rfl rfl ?_|refine cH hP (hI) rfl rfl ?_)
  simp +decide (maxSteps:=9^9) (disch:=omega) only[↓SB0,SX,seval,hQ]
  rw [decide_eq_true hyes,decide_eq_true (by omega)]
def restF (out:List Int) (x:Inode):Nat:=if x.ino ∈ out then 0 else x.ents.length
def restN (t:Tab) (out:List Int):Nat:=(t.inodes.map (restF out)).sum
theorem rest_all (t:Tab) (out:List Int):restN t out≤t.sz:=by
 have h2:=sum_mono (restF out) Inode.sz t.inodes fun x _=>by
  have:restF out x≤x.ents.length:=by unfold restF; split <;> omega
  have h3:x.ents.length≤x.sz:=by simp only [Inode.sz,szM]; omega
  omega
 have h3:t.sz=t.inodes.length+(t.inodes.map Inode.sz).sum:=rfl
 have h4:restN t out=(t.inodes.map (restF out)).sum:=rfl
 omega
theorem rest_take {t:Tab} {out:List Int} {x:Inode} (hx:x ∈ t.inodes) (hn:x.ino ∉ out):restN t (out++[x.ino])+x.ents.length≤restN t out:=by
 unfold restN
 generalize t.inodes=l at hx
 have mono:∀ y:Inode,restF (out++[x.ino]) y≤restF out y:=by
  intro y
  unfold restF
  by_cases h:y.ino ∈ out
  ·rw [if_pos h,if_pos (by simp [h])]; omega
  ·rw [if_neg h]; split <;> omega
 induction l with
 | nil=>cases hx
 | cons y l ih=>
  simp only [List.map_cons,List.sum_cons]
  rcases List.mem_cons.1 hx with rfl | hx
  ·have h1:restF (out++[x.ino]) x=0:=by unfold restF; rw [if_pos (by simp)]
   have h2:restF out x=x.ents.length:=by unfold restF; rw [if_neg hn]
   have h3:=sum_mono (restF (out++[x.ino])) (restF out) l fun y _=>mono y
   omega
  ·have:=ih hx
   have:=mono y
   omega
theorem push_int (l:List Int) (n:Int):l.map intR++[[TV.int .i64 n]]=(l++[n]).map intR:=by simp [intR]
theorem push_ents (l:List Int) (es:List Ent) (k:Nat) (h:k<es.length):(l++(es.take k).map Ent.ino)++[es[k].ino]=l++(es.take (k+1)).map Ent.ino:=by
 rw [List.take_succ_eq_append_getElem h,List.map_append,List.append_assoc]; rfl
theorem sI_Reached (t:Tab) (h:t.sz<2^40):Spec Tryz.prog 71 [t.x] (.own 1 ((reached t).map intR)) [.undef]:=by
 obtain ⟨hl,hls⟩:=tab_sz h
 refine spec_c hmx p_I_Reached [(170,[.l],[])] 15393162789631 [] ⟨Nat.le_of_ble_eq_true rfl,Nat.le_of_ble_eq_true rfl⟩ rfl rfl ?_
 intro w hP hQ
 unfold c_I_Reached
 simp +decide (maxSteps:=9^9) (disch:=omega) only[↓SB0,SX,seval,hQ]
 refine LH_D [5,6,7,9,41,42,43,5006,5009] ?_
 simp +decide (maxSteps:=9^9) (disch:=omega) only[↓SB0,SX,seval,hQ]
 refine loop_e [5,6,7,9,41,42,43,5006,5009] (fun s:List Int × List Int=>[(3,.own 1 (s.1.map intR)),(4,.own 1 (s.2.map intR))]) (fun s=>Que (nbT t) s.1 s.2∧s.2.length+restN t s.1≤1+t.sz) (fun s=>s.2.length+restN t s.1) (([],[1])) hP hQ (rfl) (⟨que_init _,by have:=rest_all t []; simp only [List.length_cons,List.length_nil]; omega⟩) ?_
 rintro ⟨out,next⟩ ⟨hq,hb⟩ w1 hP1 hQ1
 simp +decide (maxSteps:=9^9) (disch:=omega) only[↓SB0,SX,seval,hQ,hQ1]
 simp only at hq hb
 have hol:=que_len (nbT t) (nb_bound t) hq
 cases next with
 | nil=>
  have hs:=que_sorted (nbT t) (nb_bound t) hq
  simp +decide (maxSteps:=9^9) (disch:=omega) only[↓SB0,SX,seval,hQ,hQ1]
  (first|refine cI hP (s_Sort out (by omega)) rfl rfl ?_|refine cH hP (s_Sort out (by omega)) rfl rfl ?_)
  simp +decide (maxSteps:=9^9) (disch:=omega) only[↓SB0,SX,seval,hQ]
  rw [show sortI out=reached t from hs]
 | cons i next=>
  have hnl:(next.length:Nat)<2^41:=by simp only [List.length_cons] at hb; omega
  have hI:=sI_InodeAt t i h
  have w0:decide ((0:Int)<((next.length+1:Nat):Int))=true:=decide_eq_true (by omega)
  have tk:List.take next.length (next.map intR)=next.map intR:=by rw [List.take_of_length_le (by simp)]
  cases e:inoAt t i with
  | none=>
   rw [iget,e] at hI
   simp +decide (maxSteps:=9^9) (disch:=omega) only[↓SB0,SX,seval,hQ,hQ1,w0,intR,cast_pred,tk]
   (first|refine cI hP1 (hI) rfl rfl ?_|refine cH hP1 (hI) rfl rfl ?_)
   simp +decide (maxSteps:=9^9) (disch:=omega) only[↓SB0,SX,seval,hQ,hQ1]
   exact ⟨(out,next),rfl,⟨que_skip _ hq (.inl (by rw [nbT,e]; rfl)),by simp only [List.length_cons] at *; omega⟩,by simp only [List.length_cons]; omega⟩
  | some x=>
   obtain ⟨hxm,hxi⟩:=inoAt_some e
   have hel:x.ents.length<2^40:=(inode_sz (hls x hxm)).2.1
   rw [iget,e] at hI
   simp only [Option.getD_some,Option.isSome_some] at hI
   have hC:=s_Contains_int out i (by omega)
   by_cases hin:i ∈ out
   ·rw [decide_eq_true hin] at hC
    simp +decide (maxSteps:=9^9) (disch:=omega) only[↓SB0,SX,seval,hQ,hQ1,w0,intR,cast_pred,tk]
    (first|refine cI hP1 (hI) rfl rfl ?_|refine cH hP1 (hI) rfl rfl ?_)
    simp +decide (maxSteps:=9^9) (disch:=omega) only[↓SB0,SX,seval,hQ,hQ1]
    (first|refine cI hP1 (hC) rfl rfl ?_|refine cH hP1 (hC) rfl rfl ?_)
    simp +decide (maxSteps:=9^9) (disch:=omega) only[↓SB0,SX,seval,hQ,hQ1]
    exact ⟨(out,next),rfl,⟨que_skip _ hq (.inr hin),by simp only [List.length_cons] at *; omega⟩,by simp only [List.length_cons]; omega⟩
   ·rw [decide_eq_false hin] at hC
    have hrest:=rest_take (t:=t) (out:=out) hxm (by rw [hxi]; exact hin)
    rw [hxi] at hrest
    simp +decide (maxSteps:=9^9) (disch:=omega) only[↓SB0,SX,seval,hQ,hQ1,w0,intR,cast_pred,tk]
    (first|refine cI hP1 (hI) rfl rfl ?_|refine cH hP1 (hI) rfl rfl ?_)
    simp +decide (maxSteps:=9^9) (disch:=omega) only[↓SB0,SX,seval,hQ,hQ1]
    (first|refine cI hP1 (hC) rfl rfl ?_|refine cH hP1 (hC) rfl rfl ?_)
    simp +decide (maxSteps:=9^9) (disch:=omega) only[↓SB0,SX,seval,hQ,hQ1]
    (first | with_reducible refine if_d _ ?_ ?_ | refine if_i _ ?_ ?_) <;> intro hk2
    ·have hq2:=que_take (nbT t) hq (l:=x.ents.map Ent.ino) (by rw [nbT,e]; simp [nbOf,hk2]) hin
     simp +decide (maxSteps:=9^9) (disch:=omega) only[↓SB0,SX,seval,hQ,hQ1]
     rw [push_int]
     refine LH_D [9,5009] ?_
     simp +decide (maxSteps:=9^9) (disch:=omega) only[↓SB0,SX,seval,hQ,hQ1]
     refine loop_e [9,5009] (fun k:Nat=>[(4,.own 1 ((next++(x.ents.take k).map Ent.ino).map intR)),(43,.int .i64 k)]) (fun k=>k≤x.ents.length) (fun k=>x.ents.length-k) (0) hP1 hQ1 (by simp only [List.take_zero,List.map_nil,List.append_nil]; rfl) (by simp) ?_
     rintro k hk w2 hP2 hQ2
     simp +decide (maxSteps:=9^9) (disch:=omega) only[↓SB0,SX,seval,hQ,hQ1,hQ2]
     have hlen:(next++(x.ents.take k).map Ent.ino).length<2^42:=by simp only [List.length_append,List.length_map,List.length_take]; omega
     (first | with_reducible refine if_d _ ?_ ?_ | refine if_i _ ?_ ?_) <;> intro g1
     ·have hp:=push_ents next x.ents k (by omega)
      generalize next++(x.ents.take k).map Ent.ino=nx at *
      simp +decide (maxSteps:=9^9) (disch:=omega) only[↓SB0,SX,seval,hQ,hQ1,hQ2,getE g1]
      exact ⟨k+1,by simp only [push_int,hp]; rfl,by omega,by omega⟩
     ·obtain rfl:k=x.ents.length:=by omega
      rw [List.take_length] at *
      simp +decide (maxSteps:=9^9) (disch:=omega) only[↓SB0,SX,seval,hQ,hQ1,hQ2]
      exact ⟨(out++[i],next++x.ents.map Ent.ino),rfl,⟨hq2,by simp only [List.length_cons,List.length_append,List.length_map] at *; omega⟩,by simp only [List.length_cons,List.length_append,List.length_map] at *; omega⟩
    ·have hq2:=que_take (nbT t) hq (l:=[]) (by rw [nbT,e]; simp [nbOf,hk2]) hin
     rw [List.append_nil] at hq2
     simp +decide (maxSteps:=9^9) (disch:=omega) only[↓SB0,SX,seval,hQ,hQ1]
     exact ⟨(out++[i],next),by simp only [push_int],⟨hq2,by simp only [List.length_cons] at *; omega⟩,by simp only [List.length_cons]; omega⟩
end Go.Proofs.YtnhdalnfboiooaaGreatDoor.Awp
namespace Go.Proofs.YtnhdalnfboiooaaGreatDoor.Awp
open Go.Proofs
set_option linter.unusedSimpArgs false
set_option linter.unusedVariables false
open Nat (reduceEqDiff reduceAdd reduceMul reduceSub)
open Int (reduceNeg reduceToNat reducePow)
set_option maxRecDepth 100000
set_option maxHeartbeats 20000000
theorem tree_bad {t:Tab} {x:Inode} (hx:x ∈ t.inodes) (h:treeP t x=false):treeB t=false:=by
 have:t.inodes.all (treeP t)=false:=by
  rw [List.all_eq_false]
  exact ⟨x,hx,by simp [h]⟩
 simp [treeB,this]
theorem there_bad {t:Tab} {x:Inode} {e:Ent} (he:e ∈ x.ents) (h:inoIdx t e.ino=none):treeP t x=false:=by
 have:thereB t x=false:=by
  rw [thereB,List.all_eq_false]
  exact ⟨e,he,by rw [idx_no h]; simp⟩
 simp [treeP,this]
theorem there_all {t:Tab} {x:Inode} (h:∀ k,(hk:k<x.ents.length)→(inoIdx t (x.ents[k]).ino).isSome=true):thereB t x=true:=by
 rw [thereB,List.all_eq_true]
 intro e he
 obtain ⟨k,hk,rfl⟩:=List.getElem_of_mem he
 obtain ⟨m,hm⟩:=Option.isSome_iff_exists.1 (h k hk)
 rw [idx_some hm]; rfl
theorem all_next {α:Type} {l:List α} {p:α→Prop} {i:Nat} (hk:∀ k,k<i→(h:k<l.length)→p l[k]) (hi:(h:i<l.length)→p l[i]):∀ k,k<i+1→(h:k<l.length)→p l[k]:=by
 intro k hlt hl
 by_cases e:k=i
 ·subst e; exact hi hl
 ·exact hk k (by omega) hl
theorem all_list {α:Type} {l:List α} {p:α→Bool} (h:∀ k,(hk:k<l.length)→p l[k]=true):l.all p=true:=by
 rw [List.all_eq_true]
 intro x hx
 obtain ⟨k,hk,rfl⟩:=List.getElem_of_mem hx
 exact h k hk
theorem sS_TreeOk (t:Tab) (h:t.sz<2^40):Spec Tryz.prog 67 [t.x] (.bool (treeB t)) [.undef]:=by
 obtain ⟨hl,hls⟩:=tab_sz h
 have hLk:=links_bound t
 refine spec_c hmx p_S_TreeOk [] 63 [] ⟨Nat.le_of_ble_eq_true rfl,Nat.le_of_ble_eq_true rfl⟩ rfl rfl ?_
 intro w hP hQ
 unfold c_S_TreeOk
 simp +decide (maxSteps:=9^9) (disch:=omega) only[↓SB0,SX,seval,hQ]
 rcases bcase (tabB t) with hT | hT
 ·(first|refine cI hP (sS_TabOk t h) rfl rfl ?_|refine cH hP (sS_TabOk t h) rfl rfl ?_)
  simp +decide (maxSteps:=9^9) (disch:=omega) only[↓SB0,SX,seval,hQ,hT]
  simp [treeB,hT]
 (first|refine cI hP (sS_TabOk t h) rfl rfl ?_|refine cH hP (sS_TabOk t h) rfl rfl ?_)
 simp +decide (maxSteps:=9^9) (disch:=omega) only[↓SB0,SX,seval,hQ,hT]
 (first | refine call_i hP (sS_Reached t h) (.inr rfl) ?_ | refine callH_i hP (sS_Reached t h) (.inr rfl) ?_)
 simp +decide (maxSteps:=9^9) (disch:=omega) only[↓SB0,SX,seval,hQ]
 (first | with_reducible refine if_d _ ?_ ?_ | refine if_i _ ?_ ?_) <;> intro hR
 rotate_left
 ·simp +decide (maxSteps:=9^9) (disch:=omega) only[↓SB0,SX,seval,hQ]
  have:decide ((reached t).length=t.inodes.length)=false:=decide_eq_false (by omega)
  simp [treeB,this]
 simp +decide (maxSteps:=9^9) (disch:=omega) only[↓SB0,SX,seval,hQ]
 refine LH_D [2,4,5,5004] ?_
 simp +decide (maxSteps:=9^9) (disch:=omega) only[↓SB0,SX,seval,hQ]
 refine loop_e [2,4,5,5004] (fun i:Nat=>[(3,.int .i64 i)]) (fun i=>i≤t.inodes.length∧∀ k,k<i→(h:k<t.inodes.length)→treeP t t.inodes[k]=true) (fun i=>t.inodes.length-i) (0) hP hQ (rfl) (by simp) ?_
 rintro i ⟨hi,hk⟩ w1 hP1 hQ1
 simp +decide (maxSteps:=9^9) (disch:=omega) only[↓SB0,SX,seval,hQ,hQ1]
 (first | with_reducible refine if_d _ ?_ ?_ | refine if_i _ ?_ ?_) <;> intro h1
 ·have hlt:i<t.inodes.length:=by omega
  have hx:=hls _ (List.getElem_mem hlt)
  have hm:=List.getElem_mem hlt
  have hnx:treeP t (t.inodes[i]'hlt)=true→∀ k,k<i+1→(h:k<t.inodes.length)→treeP t t.inodes[k]=true:=fun hp=>all_next (p:=fun x=>treeP t x=true) hk (fun _=>hp)
  simp +decide (maxSteps:=9^9) (disch:=omega) only[↓SB0,SX,seval,hQ,hQ1,getE h1]
  generalize t.inodes[i]'hlt=x at *
  have hel:x.ents.length<2^40:=(inode_sz hx).2.1
  (first|refine cI hP1 (sS_LinksOf t x.ino h) rfl rfl ?_|refine cH hP1 (sS_LinksOf t x.ino h) rfl rfl ?_)
  simp +decide (maxSteps:=9^9) (disch:=omega) only[↓SB0,SX,seval,hQ,hQ1]
  (first | with_reducible refine if_d _ ?_ ?_ | refine if_i _ ?_ ?_) <;> intro h2
  rotate_left
  ·simp +decide (maxSteps:=9^9) (disch:=omega) only[↓SB0,SX,seval,hQ,hQ1]
   rw [tree_bad hm (by rw [treeP,decide_eq_false (by omega)]; rfl)]
  simp +decide (maxSteps:=9^9) (disch:=omega) only[↓SB0,SX,seval,hQ,hQ1]
  refine LH_D [2] ?_
  simp +decide (maxSteps:=9^9) (disch:=omega) only[↓SB0,SX,seval,hQ,hQ1]
  refine loop_e [2] (fun k:Nat=>[(5,.int .i64 k)]) (fun k=>k≤x.ents.length∧∀ j,j<k→(h:j<x.ents.length)→(inoIdx t (x.ents[j]).ino).isSome=true) (fun k=>x.ents.length-k) (0) hP1 hQ1 (rfl) (by simp) ?_
  rintro k ⟨hk1,hk2⟩ w2 hP2 hQ2
  simp +decide (maxSteps:=9^9) (disch:=omega) only[↓SB0,SX,seval,hQ,hQ1,hQ2]
  (first | with_reducible refine if_d _ ?_ ?_ | refine if_i _ ?_ ?_) <;> intro h3
  ·have hkl:k<x.ents.length:=by omega
   have hA:=sS_l4At t (x.ents[k]'hkl).ino (by omega)
   cases e:inoIdx t (x.ents[k]'hkl).ino with
   | none=>
    rw [e] at hA
    simp +decide (maxSteps:=9^9) (disch:=omega) only[↓SB0,SX,seval,hQ,hQ1,hQ2,getE h3]
    (first|refine cI hP2 (hA) rfl rfl ?_|refine cH hP2 (hA) rfl rfl ?_)
    simp +decide (maxSteps:=9^9) (disch:=omega) only[↓SB0,SX,seval,hQ,hQ1,hQ2]
    rw [tree_bad hm (there_bad (List.getElem_mem hkl) e)]
   | some m=>
    rw [e,show idxI (some m)=(m:Int) from rfl] at hA
    simp +decide (maxSteps:=9^9) (disch:=omega) only[↓SB0,SX,seval,hQ,hQ1,hQ2,getE h3]
    (first|refine cI hP2 (hA) rfl rfl ?_|refine cH hP2 (hA) rfl rfl ?_)
    simp +decide (maxSteps:=9^9) (disch:=omega) only[↓SB0,SX,seval,hQ,hQ1,hQ2]
    (first | with_reducible refine if_d _ ?_ ?_ | refine if_i _ ?_ ?_) <;> intro h4
    ·exfalso; omega
    ·simp +decide (maxSteps:=9^9) (disch:=omega) only[↓SB0,SX,seval,hQ,hQ1,hQ2]
     exact ⟨k+1,rfl,⟨by omega,all_next (p:=fun y:Ent=>(inoIdx t y.ino).isSome=true) hk2 (fun _=>by rw [e]; rfl)⟩,by omega⟩
  ·obtain rfl:k=x.ents.length:=by omega
   have hp:treeP t x=true:=by
    rw [treeP,there_all fun k hk=>hk2 k hk hk,decide_eq_true (by omega)]; rfl
   simp +decide (maxSteps:=9^9) (disch:=omega) only[↓SB0,SX,seval,hQ,hQ1,hQ2]
   exact ⟨i+1,rfl,⟨by omega,hnx hp⟩,by omega⟩
 ·obtain rfl:i=t.inodes.length:=by omega
  have:decide ((reached t).length=t.inodes.length)=true:=decide_eq_true (by omega)
  simp +decide (maxSteps:=9^9) (disch:=omega) only[↓SB0,SX,seval,hQ,hQ1]
  rw [treeB,hT,this,all_list fun k hk'=>hk k hk' hk']; rfl
theorem sI_TreeOk (t:Tab) (h:t.sz<2^40):Spec Tryz.prog 62 [t.x] (.bool (treeB t)) [.undef]:=by
 obtain ⟨hl,hls⟩:=tab_sz h
 have hLk:=links_bound t
 refine spec_c hmx p_I_TreeOk [] 120266424407 [] ⟨Nat.le_of_ble_eq_true rfl,Nat.le_of_ble_eq_true rfl⟩ rfl rfl ?_
 intro w hP hQ
 unfold c_I_TreeOk
 simp +decide (maxSteps:=9^9) (disch:=omega) only[↓SB0,SX,seval,hQ]
 rcases bcase (tabB t) with hT | hT
 ·(first|refine cI hP (sI_TabOk t h) rfl rfl ?_|refine cH hP (sI_TabOk t h) rfl rfl ?_)
  simp +decide (maxSteps:=9^9) (disch:=omega) only[↓SB0,SX,seval,hQ,hT]
  simp [treeB,hT]
 (first|refine cI hP (sI_TabOk t h) rfl rfl ?_|refine cH hP (sI_TabOk t h) rfl rfl ?_)
 simp +decide (maxSteps:=9^9) (disch:=omega) only[↓SB0,SX,seval,hQ,hT]
 (first|refine cI hP (sI_Reached t h) rfl rfl ?_|refine cH hP (sI_Reached t h) rfl rfl ?_)
 simp +decide (maxSteps:=9^9) (disch:=omega) only[↓SB0,SX,seval,hQ]
 (first | with_reducible refine if_d _ ?_ ?_ | refine if_i _ ?_ ?_) <;> intro hR
 rotate_left
 ·simp +decide (maxSteps:=9^9) (disch:=omega) only[↓SB0,SX,seval,hQ]
  have:decide ((reached t).length=t.inodes.length)=false:=decide_eq_false (by omega)
  simp [treeB,this]
 simp +decide (maxSteps:=9^9) (disch:=omega) only[↓SB0,SX,seval,hQ]
 refine LH_D [2,4,6,34,35,36,5004,5006] ?_
 simp +decide (maxSteps:=9^9) (disch:=omega) only[↓SB0,SX,seval,hQ]
 refine loop_e [2,4,6,34,35,36,5004,5006] (fun i:Nat=>[(22,.int .i64 i)]) (fun i=>i≤t.inodes.length∧∀ k,k<i→(h:k<t.inodes.length)→treeP t t.inodes[k]=true) (fun i=>t.inodes.length-i) (0) hP hQ (rfl) (by simp) ?_
 rintro i ⟨hi,hk⟩ w1 hP1 hQ1
 simp +decide (maxSteps:=9^9) (disch:=omega) only[↓SB0,SX,seval,hQ,hQ1]
 (first | with_reducible refine if_d _ ?_ ?_ | refine if_i _ ?_ ?_) <;> intro h1
 ·have hlt:i<t.inodes.length:=by omega
  have hx:=hls _ (List.getElem_mem hlt)
  have hm:=List.getElem_mem hlt
  have hnx:treeP t (t.inodes[i]'hlt)=true→∀ k,k<i+1→(h:k<t.inodes.length)→treeP t t.inodes[k]=true:=fun hp=>all_next (p:=fun x=>treeP t x=true) hk (fun _=>hp)
  simp +decide (maxSteps:=9^9) (disch:=omega) only[↓SB0,SX,seval,hQ,hQ1,getE h1]
  generalize t.inodes[i]'hlt=x at *
  have hel:x.ents.length<2^40:=(inode_sz hx).2.1
  (first|refine cI hP1 (sI_LinksOf t x.ino h) rfl rfl ?_|refine cH hP1 (sI_LinksOf t x.ino h) rfl rfl ?_)
  simp +decide (maxSteps:=9^9) (disch:=omega) only[↓SB0,SX,seval,hQ,hQ1]
  (first | with_reducible refine if_d _ ?_ ?_ | refine if_i _ ?_ ?_) <;> intro h2
  rotate_left
  ·simp +decide (maxSteps:=9^9) (disch:=omega) only[↓SB0,SX,seval,hQ,hQ1]
   rw [tree_bad hm (by rw [treeP,decide_eq_false (by omega)]; rfl)]
  simp +decide (maxSteps:=9^9) (disch:=omega) only[↓SB0,SX,seval,hQ,hQ1]
  refine LH_D [2,6,5006] ?_
  simp +decide (maxSteps:=9^9) (disch:=omega) only[↓SB0,SX,seval,hQ,hQ1]
  refine loop_e [2,6,5006] (fun k:Nat=>[(36,.int .i64 k)]) (fun k=>k≤x.ents.length∧∀ j,j<k→(h:j<x.ents.length)→(inoIdx t (x.ents[j]).ino).isSome=true) (fun k=>x.ents.length-k) (0) hP1 hQ1 (rfl) (by simp) ?_
  rintro k ⟨hk1,hk2⟩ w2 hP2 hQ2
  simp +decide (maxSteps:=9^9) (disch:=omega) only[↓SB0,SX,seval,hQ,hQ1,hQ2]
  (first | with_reducible refine if_d _ ?_ ?_ | refine if_i _ ?_ ?_) <;> intro h3
  ·have hkl:k<x.ents.length:=by omega
   have hA:=sI_placeOf t (x.ents[k]'hkl).ino (by omega)
   cases e:inoIdx t (x.ents[k]'hkl).ino with
   | none=>
    rw [e] at hA
    simp +decide (maxSteps:=9^9) (disch:=omega) only[↓SB0,SX,seval,hQ,hQ1,hQ2,getE h3]
    (first|refine cI hP2 (hA) rfl rfl ?_|refine cH hP2 (hA) rfl rfl ?_)
    simp +decide (maxSteps:=9^9) (disch:=omega) only[↓SB0,SX,seval,hQ,hQ1,hQ2]
    rw [tree_bad hm (there_bad (List.getElem_mem hkl) e)]
   | some m=>
    rw [e,show idxI (some m)=(m:Int) from rfl] at hA
    simp +decide (maxSteps:=9^9) (disch:=omega) only[↓SB0,SX,seval,hQ,hQ1,hQ2,getE h3]
    (first|refine cI hP2 (hA) rfl rfl ?_|refine cH hP2 (hA) rfl rfl ?_)
    simp +decide (maxSteps:=9^9) (disch:=omega) only[↓SB0,SX,seval,hQ,hQ1,hQ2]
    (first | with_reducible refine if_d _ ?_ ?_ | refine if_i _ ?_ ?_) <;> intro h4
    ·exfalso; omega
    ·simp +decide (maxSteps:=9^9) (disch:=omega) only[↓SB0,SX,seval,hQ,hQ1,hQ2]
     exact ⟨k+1,rfl,⟨by omega,all_next (p:=fun y:Ent=>(inoIdx t y.ino).isSome=true) hk2 (fun _=>by rw [e]; rfl)⟩,by omega⟩
  ·obtain rfl:k=x.ents.length:=by omega
   have hp:treeP t x=true:=by
    rw [treeP,there_all fun k hk=>hk2 k hk hk,decide_eq_true (by omega)]; rfl
   simp +decide (maxSteps:=9^9) (disch:=omega) only[↓SB0,SX,seval,hQ,hQ1,hQ2]
   exact ⟨i+1,rfl,⟨by omega,hnx hp⟩,by omega⟩
 ·obtain rfl:i=t.inodes.length:=by omega
  have:decide ((reached t).length=t.inodes.length)=true:=decide_eq_true (by omega)
  simp +decide (maxSteps:=9^9) (disch:=omega) only[↓SB0,SX,seval,hQ,hQ1]
  rw [treeB,hT,this,all_list fun k hk'=>hk k hk' hk']; rfl
end Go.Proofs.YtnhdalnfboiooaaGreatDoor.Awp
namespace Go.Proofs.YtnhdalnfboiooaaGreatDoor.Awp
open Go.Proofs
set_option linter.unusedSimpArgs false
set_option linter.unusedVariables false
open Nat (reduceEqDiff reduceAdd reduceMul reduceSub)
open Int (reduceNeg reduceToNat reducePow)
set_option maxRecDepth 100000
set_option maxHeartbeats 20000000
end Go.Proofs.YtnhdalnfboiooaaGreatDoor.Awp
namespace Go.Proofs.YtnhdalnfboiooaaGreatDoor.Awp
open Go.Proofs
set_option linter.unusedSimpArgs false
set_option linter.unusedVariables false
open Nat (reduceEqDiff reduceAdd reduceMul reduceSub)
open Int (reduceNeg reduceToNat reducePow)
set_option maxRecDepth 100000
set_option maxHeartbeats 20000000
end Go.Proofs.YtnhdalnfboiooaaGreatDoor.Awp
namespace Go.Proofs.YtnhdalnfboiooaaGreatDoor.Awp
open Go.Proofs
set_option linter.unusedSimpArgs false
set_option linter.unusedVariables false
open Nat (reduceEqDiff reduceAdd reduceMul reduceSub)
open Int (reduceNeg reduceToNat reducePow)
set_option maxRecDepth 100000
set_option maxHeartbeats 20000000
end Go.Proofs.YtnhdalnfboiooaaGreatDoor.Awp
namespace Go.Proofs.YtnhdalnfboiooaaGreatDoor.Awp
open Go.Proofs
set_option linter.unusedSimpArgs false
set_option linter.unusedVariables false
open Nat (reduceEqDiff reduceAdd reduceMul reduceSub)
open Int (reduceNeg reduceToNat reducePow)
set_option maxRecDepth 100000
set_option maxHeartbeats 20000000
end Go.Proofs.YtnhdalnfboiooaaGreatDoor.Awp
namespace Go.Proofs.YtnhdalnfboiooaaGreatDoor.Awp
open I Go.Proofs
def c_I_spot_leave_1:Cmd:=Q (R [n 2 (box 2 (v 0)),n 3 (asg 3 k0)]) (Q (R [n 4 (fld 4 (v 2) 0),n 5 (ld 5 (v 4) 1 false),n 6 (fld 6 (v 1) 6),n 7 (ld 7 (v 6) 1 false),n 8 (bin 8 .eql (v 5) (v 7)),n 3 (asg 3 (v 8))]) .ret)
theorem p_I_spot_leave_1:compile Tryz.prog 194=some (9,[.t 3],c_I_spot_leave_1):=by kernel_rfl
end Go.Proofs.YtnhdalnfboiooaaGreatDoor.Awp
namespace Go.Proofs.YtnhdalnfboiooaaGreatDoor.Awp
open Go.Proofs
set_option linter.unusedSimpArgs false
set_option linter.unusedVariables false
open Nat (reduceEqDiff reduceAdd reduceMul reduceSub)
open Int (reduceNeg reduceToNat reducePow)
set_option maxRecDepth 100000
set_option maxHeartbeats 20000000
theorem entOf_idx (x:Inode) (n:Bytes):entOf x n=match x.ents.findIdx? (fun e=>decide (e.name=n)) with
  | none=>0
  | some k=>((x.ents[k]?).map Ent.ino).getD 0:=by
 rw [entOf,find_idx]
 cases x.ents.findIdx? (fun e=>decide (e.name=n)) <;> rfl
theorem entOf_at {x:Inode} {n:Bytes} {i:Nat} (hk:∀ k,k<i→(h:k<x.ents.length)→decide (x.ents[k].name=n)=false) (h:i<x.ents.length) (hi:x.ents[i].name=n):entOf x n=x.ents[i].ino:=by
 rw [entOf_idx,idx_step (p:=fun e:Ent=>decide (e.name=n)) hk h (decide_eq_true hi)]
 simp only [List.getElem?_eq_getElem h]; rfl
theorem entOf_no {x:Inode} {n:Bytes} (hk:∀ k,(h:k<x.ents.length)→decide (x.ents[k].name=n)=false):entOf x n=0:=by
 rw [entOf_idx,idx_none (p:=fun e:Ent=>decide (e.name=n)) hk]
theorem sI_EntOf (x:Inode) (n:Bytes) (h:x.sz<2^40):Spec Tryz.prog 113 [x.x,.str n] (.int .i64 (entOf x n)) [.undef,.undef]:=by
 obtain ⟨h1,h2,h3⟩:=inode_sz h
 refine spec_c hmx p_I_EntOf [] 1879 [] ⟨Nat.le_of_ble_eq_true rfl,Nat.le_of_ble_eq_true rfl⟩ rfl rfl ?_
 intro w hP hQ
 unfold c_I_EntOf
 simp +decide (maxSteps:=9^9) (disch:=omega) only[↓SB0,SX,seval,hQ]
 refine LH_D [4,6,5006] ?_
 simp +decide (maxSteps:=9^9) (disch:=omega) only[↓SB0,SX,seval,hQ]
 refine loop_e [4,6,5006] (fun i:Nat=>[(10,.int .i64 i)]) (fun i=>i≤x.ents.length∧∀ k,k<i→(h:k<x.ents.length)→decide (x.ents[k].name=n)=false) (fun i=>x.ents.length-i) (0) hP hQ (rfl) (by simp) ?_
 rintro i ⟨hi,hk⟩ w1 hP1 hQ1
 simp +decide (maxSteps:=9^9) (disch:=omega) only[↓SB0,SX,seval,hQ,hQ1]
 (first | with_reducible refine if_d _ ?_ ?_ | refine if_i _ ?_ ?_) <;> intro g
 ·simp +decide (maxSteps:=9^9) (disch:=omega) only[↓SB0,SX,seval,hQ,hQ1,getE g]
  (first | with_reducible refine if_d _ ?_ ?_ | refine if_i _ ?_ ?_) <;> intro e
  ·simp +decide (maxSteps:=9^9) (disch:=omega) only[↓SB0,SX,seval,hQ,hQ1]
   rw [entOf_at hk (by omega) e]
  ·simp +decide (maxSteps:=9^9) (disch:=omega) only[↓SB0,SX,seval,hQ,hQ1]
   exact ⟨i+1,rfl,⟨by omega,no_step (p:=fun e:Ent=>decide (e.name=n)) hk (by omega) (decide_eq_false e)⟩,by omega⟩
 ·obtain rfl:i=x.ents.length:=by omega
  simp +decide (maxSteps:=9^9) (disch:=omega) only[↓SB0,SX,seval,hQ,hQ1]
  rw [entOf_no fun k h=>hk k h h]
theorem sS_EntOf (x:Inode) (n:Bytes) (h:x.sz<2^40):Spec Tryz.prog 207 [x.x,.str n] (.int .i64 (entOf x n)) [.undef,.undef]:=by
 obtain ⟨h1,h2,h3⟩:=inode_sz h
 refine spec_c hmx p_S_EntOf [] 55 [] ⟨Nat.le_of_ble_eq_true rfl,Nat.le_of_ble_eq_true rfl⟩ rfl rfl ?_
 intro w hP hQ
 unfold c_S_EntOf
 simp +decide (maxSteps:=9^9) (disch:=omega) only[↓SB0,SX,seval,hQ]
 refine LH_D [4] ?_
 simp +decide (maxSteps:=9^9) (disch:=omega) only[↓SB0,SX,seval,hQ]
 refine loop_e [4] (fun i:Nat=>[(5,.int .i64 i)]) (fun i=>i≤x.ents.length∧∀ k,k<i→(h:k<x.ents.length)→decide (x.ents[k].name=n)=false) (fun i=>x.ents.length-i) (0) hP hQ (rfl) (by simp) ?_
 rintro i ⟨hi,hk⟩ w1 hP1 hQ1
 simp +decide (maxSteps:=9^9) (disch:=omega) only[↓SB0,SX,seval,hQ,hQ1]
 (first | with_reducible refine if_d _ ?_ ?_ | refine if_i _ ?_ ?_) <;> intro g
 ·simp +decide (maxSteps:=9^9) (disch:=omega) only[↓SB0,SX,seval,hQ,hQ1,getE g]
  (first | with_reducible refine if_d _ ?_ ?_ | refine if_i _ ?_ ?_) <;> intro e
  ·simp +decide (maxSteps:=9^9) (disch:=omega) only[↓SB0,SX,seval,hQ,hQ1,getE g]
   rw [entOf_at hk (by omega) e]
  ·simp +decide (maxSteps:=9^9) (disch:=omega) only[↓SB0,SX,seval,hQ,hQ1]
   exact ⟨i+1,rfl,⟨by omega,no_step (p:=fun e:Ent=>decide (e.name=n)) hk (by omega) (decide_eq_false e)⟩,by omega⟩
 ·obtain rfl:i=x.ents.length:=by omega
  simp +decide (maxSteps:=9^9) (disch:=omega) only[↓SB0,SX,seval,hQ,hQ1]
  rw [entOf_no fun k h=>hk k h h]
theorem walkC_step {t:Tab} {l:List Bytes} {i:Nat} (h:i<l.length) {a:Int} {x:Inode} (hx:inoAt t a=some x) (hk:x.kind=2) (he:entOf x l[i]≠0):walkC t (l.drop i) a=walkC t (l.drop (i+1)) (entOf x l[i]):=by
 rw [List.drop_eq_getElem_cons h,walkC,hx]
 simp only [if_pos hk,if_neg he]
theorem walkC_no {t:Tab} {l:List Bytes} {i:Nat} (h:i<l.length) {a:Int} (hx:inoAt t a=none):walkC t (l.drop i) a=(0,2):=by
 rw [List.drop_eq_getElem_cons h,walkC,hx]
theorem walkC_file {t:Tab} {l:List Bytes} {i:Nat} (h:i<l.length) {a:Int} {x:Inode} (hx:inoAt t a=some x) (hk:¬ x.kind=2):walkC t (l.drop i) a=(0,3):=by
 rw [List.drop_eq_getElem_cons h,walkC,hx]
 simp only [if_neg hk]
theorem walkC_none {t:Tab} {l:List Bytes} {i:Nat} (h:i<l.length) {a:Int} {x:Inode} (hx:inoAt t a=some x) (hk:x.kind=2) (he:entOf x l[i]=0):walkC t (l.drop i) a=(0,2):=by
 rw [List.drop_eq_getElem_cons h,walkC,hx]
 simp only [if_pos hk,if_pos he]
theorem ino_sz {t:Tab} (h:t.sz<2^40) {a:Int} {x:Inode} (hx:inoAt t a=some x):x.sz<2^40:=(tab_sz h).2 x (inoAt_some hx).1
theorem sI_Walk (t:Tab) (s:Bytes) (h:t.sz<2^40) (hs:s.length<2^40):Spec Tryz.prog 74 [t.x,.str s] (.tup [.int .i64 (walk t s).1,.int .i64 (walk t s).2]) [.undef,.undef]:=by
 have hS:=sI_SplitPath s hs
 have hf:=split_few s
 unfold walk
 generalize splitPath s=y at *
 obtain ⟨l,b⟩:=y
 simp only at *
 cases b with
 | false=>
  rw [if_neg (by simp)]
  refine spec_c hmx p_I_Walk [] 7347703 [] ⟨Nat.le_of_ble_eq_true rfl,Nat.le_of_ble_eq_true rfl⟩ rfl rfl ?_
  intro w hP hQ
  unfold c_I_Walk
  simp +decide (maxSteps:=9^9) (disch:=omega) only[↓SB0,SX,seval,hQ]
  (first|refine cI hP (hS) rfl rfl ?_|refine cH hP (hS) rfl rfl ?_)
  simp +decide (maxSteps:=9^9) (disch:=omega) only[↓SB0,SX,seval,hQ]
 | true=>
  rw [if_pos rfl]
  refine spec_c hmx p_I_Walk [] 7347703 [] ⟨Nat.le_of_ble_eq_true rfl,Nat.le_of_ble_eq_true rfl⟩ rfl rfl ?_
  intro w hP hQ
  unfold c_I_Walk
  simp +decide (maxSteps:=9^9) (disch:=omega) only[↓SB0,SX,seval,hQ]
  (first|refine cI hP (hS) rfl rfl ?_|refine cH hP (hS) rfl rfl ?_)
  simp +decide (maxSteps:=9^9) (disch:=omega) only[↓SB0,SX,seval,hQ]
  refine LH_D [4,5,10,11,12,5011] ?_
  simp +decide (maxSteps:=9^9) (disch:=omega) only[↓SB0,SX,seval,hQ]
  refine loop_e [4,5,10,11,12,5011] (fun x:Nat × Int=>[(8,.int .i64 x.2),(22,.int .i64 (x.1:Nat))]) (fun x=>x.1≤l.length∧walkC t (l.drop x.1) x.2=walkC t l 1) (fun x=>l.length-x.1) ((0,1)) hP hQ (rfl) (⟨Nat.zero_le _,rfl⟩) ?_
  rintro ⟨i,a⟩ ⟨hi,hw⟩ w1 hP1 hQ1
  simp +decide (maxSteps:=9^9) (disch:=omega) only[↓SB0,SX,seval,hQ,hQ1]
  simp only at hi hw
  (first | with_reducible refine if_d _ ?_ ?_ | refine if_i _ ?_ ?_) <;> intro g
  ·have hlt:i<l.length:=by omega
   have hA:=sI_InodeAt t a h
   cases hx:inoAt t a with
   | none=>
    rw [hx] at hA
    rw [walkC_no hlt hx] at hw
    simp +decide (maxSteps:=9^9) (disch:=omega) only[↓SB0,SX,seval,hQ,hQ1,getE g,sRow]
    (first|refine cI hP1 (hA) rfl rfl ?_|refine cH hP1 (hA) rfl rfl ?_)
    simp +decide (maxSteps:=9^9) (disch:=omega) only[↓SB0,SX,seval,hQ,hQ1,← hw]
   | some x=>
    rw [iget,hx] at hA
    have hE:=sI_EntOf x l[i] (ino_sz h hx)
    by_cases hk:x.kind=2
    ·have hk':decide (x.kind=2)=true:=decide_eq_true hk
     by_cases he:entOf x l[i]=0
     ·rw [walkC_none hlt hx hk he] at hw
      rw [he] at hE
      simp +decide (maxSteps:=9^9) (disch:=omega) only[↓SB0,SX,seval,hQ,hQ1,getE g,sRow]
      (first|refine cI hP1 (hA) rfl rfl ?_|refine cH hP1 (hA) rfl rfl ?_)
      simp +decide (maxSteps:=9^9) (disch:=omega) only[↓SB0,SX,seval,hQ,hQ1,hk',Option.getD_some]
      (first|refine cI hP1 (hE) rfl rfl ?_|refine cH hP1 (hE) rfl rfl ?_)
      simp +decide (maxSteps:=9^9) (disch:=omega) only[↓SB0,SX,seval,hQ,hQ1,← hw]
     ·rw [walkC_step hlt hx hk he] at hw
      have he':decide (entOf x l[i]=0)=false:=decide_eq_false he
      simp +decide (maxSteps:=9^9) (disch:=omega) only[↓SB0,SX,seval,hQ,hQ1,getE g,sRow]
      (first|refine cI hP1 (hA) rfl rfl ?_|refine cH hP1 (hA) rfl rfl ?_)
      simp +decide (maxSteps:=9^9) (disch:=omega) only[↓SB0,SX,seval,hQ,hQ1,hk',Option.getD_some]
      (first|refine cI hP1 (hE) rfl rfl ?_|refine cH hP1 (hE) rfl rfl ?_)
      simp +decide (maxSteps:=9^9) (disch:=omega) only[↓SB0,SX,seval,hQ,hQ1,he']
      exact ⟨(i+1,entOf x l[i]),rfl,⟨by simp only; omega,hw⟩,by simp only; omega⟩
    ·have hk':decide (x.kind=2)=false:=decide_eq_false hk
     rw [walkC_file hlt hx hk] at hw
     simp +decide (maxSteps:=9^9) (disch:=omega) only[↓SB0,SX,seval,hQ,hQ1,getE g,sRow]
     (first|refine cI hP1 (hA) rfl rfl ?_|refine cH hP1 (hA) rfl rfl ?_)
     simp +decide (maxSteps:=9^9) (disch:=omega) only[↓SB0,SX,seval,hQ,hQ1,hk',Option.getD_some,← hw]
  ·obtain rfl:i=l.length:=by omega
   rw [List.drop_length,walkC] at hw
   simp +decide (maxSteps:=9^9) (disch:=omega) only[↓SB0,SX,seval,hQ,hQ1,← hw]
end Go.Proofs.YtnhdalnfboiooaaGreatDoor.Awp
namespace Go.Proofs.YtnhdalnfboiooaaGreatDoor.Awp
open Go.Proofs
set_option linter.unusedSimpArgs false
set_option linter.unusedVariables false
open Nat (reduceEqDiff reduceAdd reduceMul reduceSub)
open Int (reduceNeg reduceToNat reducePow)
set_option maxRecDepth 100000
set_option maxHeartbeats 20000000
theorem sS_l5Walk (t:Tab) (l:List Bytes) (h:t.sz<2^40) (hl:l.length<2^40):Spec Tryz.prog 206 [t.x,.ext 1 (l.map sRow)] (.tup [.int .i64 (walkC t l 1).1,.int .i64 (walkC t l 1).2]) [.undef,.undef]:=by
 obtain ⟨t1,t2⟩:=tab_sz h
 refine spec_c hmx p_S_l5Walk [] 503 [] ⟨Nat.le_of_ble_eq_true rfl,Nat.le_of_ble_eq_true rfl⟩ rfl rfl ?_
 intro w hP hQ
 unfold c_S_l5Walk
 simp +decide (maxSteps:=9^9) (disch:=omega) only[↓SB0,SX,seval,hQ]
 refine LH_D [4,5,8] ?_
 simp +decide (maxSteps:=9^9) (disch:=omega) only[↓SB0,SX,seval,hQ]
 refine loop_e [4,5,8] (fun x:Nat × Int=>[(6,.int .i64 x.2),(7,.int .i64 (x.1:Nat))]) (fun x=>x.1≤l.length∧walkC t (l.drop x.1) x.2=walkC t l 1) (fun x=>l.length-x.1) ((0,1)) hP hQ (rfl) (⟨Nat.zero_le _,rfl⟩) ?_
 rintro ⟨i,a⟩ ⟨hi,hw⟩ w1 hP1 hQ1
 simp +decide (maxSteps:=9^9) (disch:=omega) only[↓SB0,SX,seval,hQ,hQ1]
 simp only at hi hw
 (first | with_reducible refine if_d _ ?_ ?_ | refine if_i _ ?_ ?_) <;> intro g
 ·have hlt:i<l.length:=by omega
  have hA:=sS_l4At t a (by omega)
  cases hx:inoIdx t a with
  | none=>
   rw [hx] at hA
   rw [walkC_no hlt (idx_no hx)] at hw
   simp +decide (maxSteps:=9^9) (disch:=omega) only[↓SB0,SX,seval,hQ,hQ1]
   (first|refine cI hP1 (hA) rfl rfl ?_|refine cH hP1 (hA) rfl rfl ?_)
   simp +decide (maxSteps:=9^9) (disch:=omega) only[↓SB0,SX,seval,hQ,hQ1,← hw]
  | some k=>
   have hk1:=idx_lt hx
   have hx':=idx_some hx
   rw [hx,show idxI (some k)=(k:Int) from rfl] at hA
   have hE:=sS_EntOf (t.inodes[k]) l[i] (t2 _ (List.getElem_mem hk1))
   have hz:decide (((k:Nat):Int)<0)=false:=decide_eq_false (by omega)
   have hg:((k:Nat):Int)<(t.inodes.length:Nat):=by omega
   by_cases hk:(t.inodes[k]).kind=2
   ·have hk':decide ((t.inodes[k]).kind=2)=true:=decide_eq_true hk
    by_cases he:entOf (t.inodes[k]) l[i]=0
    ·rw [walkC_none hlt hx' hk he] at hw
     rw [he] at hE
     simp +decide (maxSteps:=9^9) (disch:=omega) only[↓SB0,SX,seval,hQ,hQ1]
     (first|refine cI hP1 (hA) rfl rfl ?_|refine cH hP1 (hA) rfl rfl ?_)
     simp +decide (maxSteps:=9^9) (disch:=omega) only[↓SB0,SX,seval,hQ,hQ1,hz,getE hg,hk',getE g,sRow]
     (first|refine cI hP1 (hE) rfl rfl ?_|refine cH hP1 (hE) rfl rfl ?_)
     simp +decide (maxSteps:=9^9) (disch:=omega) only[↓SB0,SX,seval,hQ,hQ1,← hw]
    ·rw [walkC_step hlt hx' hk he] at hw
     have he':decide (entOf (t.inodes[k]) l[i]=0)=false:=decide_eq_false he
     simp +decide (maxSteps:=9^9) (disch:=omega) only[↓SB0,SX,seval,hQ,hQ1]
     (first|refine cI hP1 (hA) rfl rfl ?_|refine cH hP1 (hA) rfl rfl ?_)
     simp +decide (maxSteps:=9^9) (disch:=omega) only[↓SB0,SX,seval,hQ,hQ1,hz,getE hg,hk',getE g,sRow]
     (first|refine cI hP1 (hE) rfl rfl ?_|refine cH hP1 (hE) rfl rfl ?_)
     simp +decide (maxSteps:=9^9) (disch:=omega) only[↓SB0,SX,seval,hQ,hQ1,he']
     exact ⟨(i+1,_),rfl,⟨by simp only; omega,hw⟩,by simp only; omega⟩
   ·have hk':decide ((t.inodes[k]).kind=2)=false:=decide_eq_false hk
    rw [walkC_file hlt hx' hk] at hw
    simp +decide (maxSteps:=9^9) (disch:=omega) only[↓SB0,SX,seval,hQ,hQ1]
    (first|refine cI hP1 (hA) rfl rfl ?_|refine cH hP1 (hA) rfl rfl ?_)
    simp +decide (maxSteps:=9^9) (disch:=omega) only[↓SB0,SX,seval,hQ,hQ1,hz,getE hg,hk',← hw]
 ·obtain rfl:i=l.length:=by omega
  rw [List.drop_length,walkC] at hw
  simp +decide (maxSteps:=9^9) (disch:=omega) only[↓SB0,SX,seval,hQ,hQ1,← hw]
theorem sS_Walk (t:Tab) (s:Bytes) (h:t.sz<2^40) (hs:s.length<2^40):Spec Tryz.prog 107 [t.x,.str s] (.tup [.int .i64 (walk t s).1,.int .i64 (walk t s).2]) [.undef,.undef]:=by
 have hS:=sS_SplitPath s hs
 have hf:=split_few s
 unfold walk
 generalize splitPath s=y at *
 obtain ⟨l,b⟩:=y
 simp only at *
 cases b with
 | false=>
  rw [if_neg (by simp)]
  refine spec_c hmx p_S_Walk [] 247 [] ⟨Nat.le_of_ble_eq_true rfl,Nat.le_of_ble_eq_true rfl⟩ rfl rfl ?_
  intro w hP hQ
  unfold c_S_Walk
  simp +decide (maxSteps:=9^9) (disch:=omega) only[↓SB0,SX,seval,hQ]
  (first|refine cI hP (hS) rfl rfl ?_|refine cH hP (hS) rfl rfl ?_)
  simp +decide (maxSteps:=9^9) (disch:=omega) only[↓SB0,SX,seval,hQ]
 | true=>
  rw [if_pos rfl]
  refine spec_c hmx p_S_Walk [] 247 [] ⟨Nat.le_of_ble_eq_true rfl,Nat.le_of_ble_eq_true rfl⟩ rfl rfl ?_
  intro w hP hQ
  unfold c_S_Walk
  simp +decide (maxSteps:=9^9) (disch:=omega) only[↓SB0,SX,seval,hQ]
  (first|refine cI hP (hS) rfl rfl ?_|refine cH hP (hS) rfl rfl ?_)
  simp +decide (maxSteps:=9^9) (disch:=omega) only[↓SB0,SX,seval,hQ]
  (first|refine cI hP (sS_l5Walk t l h (by omega)) rfl rfl ?_|refine cH hP (sS_l5Walk t l h (by omega)) rfl rfl ?_)
  simp +decide (maxSteps:=9^9) (disch:=omega) only[↓SB0,SX,seval,hQ]
theorem stat_code {t:Tab} {s:Bytes} (hc:(walk t s).2≠0):statF t s=.error (walk t s).2:=by rw [statF,if_neg hc]
theorem stat_none {t:Tab} {s:Bytes} (hc:(walk t s).2=0) (hx:inoAt t (walk t s).1=none):statF t s=.error 2:=by rw [statF,if_pos hc,hx]
theorem stat_some {t:Tab} {s:Bytes} {x:Inode} (hc:(walk t s).2=0) (hx:inoAt t (walk t s).1=some x):statF t s=.ok x:=by rw [statF,if_pos hc,hx]
theorem sI_Stat (t:Tab) (s:Bytes) (h:t.sz<2^40) (hs:s.length<2^40):Spec Tryz.prog 112 [t.x,.str s] (.tup [(exI (statF t s)).o,.int .i64 (exC (statF t s))]) [.undef,.undef]:=by
 have hW:=sI_Walk t s h hs
 have hA:=sI_InodeAt t (walk t s).1 h
 by_cases hc:(walk t s).2=0
 ·have hc':decide ((walk t s).2=0)=true:=decide_eq_true hc
  cases hx:inoAt t (walk t s).1 with
  | none=>
   rw [hx] at hA
   rw [stat_none hc hx]
   refine spec_c hmx p_I_Stat [] 1015 [] ⟨Nat.le_of_ble_eq_true rfl,Nat.le_of_ble_eq_true rfl⟩ rfl rfl ?_
   intro w hP hQ
   unfold c_I_Stat
   simp +decide (maxSteps:=9^9) (disch:=omega) only[↓SB0,SX,seval,hQ]
   (first|refine cI hP (hW) rfl rfl ?_|refine cH hP (hW) rfl rfl ?_)
   simp +decide (maxSteps:=9^9) (disch:=omega) only[↓SB0,SX,seval,hQ,hc']
   (first|refine cI hP (hA) rfl rfl ?_|refine cH hP (hA) rfl rfl ?_)
   simp +decide (maxSteps:=9^9) (disch:=omega) only[↓SB0,SX,seval,hQ]
   rfl
  | some x=>
   rw [iget,hx] at hA
   rw [stat_some hc hx]
   refine spec_c hmx p_I_Stat [] 1015 [] ⟨Nat.le_of_ble_eq_true rfl,Nat.le_of_ble_eq_true rfl⟩ rfl rfl ?_
   intro w hP hQ
   unfold c_I_Stat
   simp +decide (maxSteps:=9^9) (disch:=omega) only[↓SB0,SX,seval,hQ]
   (first|refine cI hP (hW) rfl rfl ?_|refine cH hP (hW) rfl rfl ?_)
   simp +decide (maxSteps:=9^9) (disch:=omega) only[↓SB0,SX,seval,hQ,hc']
   (first|refine cI hP (hA) rfl rfl ?_|refine cH hP (hA) rfl rfl ?_)
   simp +decide (maxSteps:=9^9) (disch:=omega) only[↓SB0,SX,seval,hQ,Option.getD_some]
   rfl
 ·have hc':decide ((walk t s).2=0)=false:=decide_eq_false hc
  rw [stat_code hc]
  refine spec_c hmx p_I_Stat [] 1015 [] ⟨Nat.le_of_ble_eq_true rfl,Nat.le_of_ble_eq_true rfl⟩ rfl rfl ?_
  intro w hP hQ
  unfold c_I_Stat
  simp +decide (maxSteps:=9^9) (disch:=omega) only[↓SB0,SX,seval,hQ]
  (first|refine cI hP (hW) rfl rfl ?_|refine cH hP (hW) rfl rfl ?_)
  simp +decide (maxSteps:=9^9) (disch:=omega) only[↓SB0,SX,seval,hQ,hc']
  rfl
theorem sS_Stat (t:Tab) (s:Bytes) (h:t.sz<2^40) (hs:s.length<2^40):Spec Tryz.prog 110 [t.x,.str s] (.tup [(exI (statF t s)).o,.int .i64 (exC (statF t s))]) [.undef,.undef]:=by
 have hW:=sS_Walk t s h hs
 have hA:=sS_InodeAt t (walk t s).1 h
 by_cases hc:(walk t s).2=0
 ·have hc':decide ((walk t s).2=0)=true:=decide_eq_true hc
  cases hx:inoAt t (walk t s).1 with
  | none=>
   rw [hx] at hA
   rw [stat_none hc hx]
   refine spec_c hmx p_S_Stat [] 1015 [] ⟨Nat.le_of_ble_eq_true rfl,Nat.le_of_ble_eq_true rfl⟩ rfl rfl ?_
   intro w hP hQ
   unfold c_S_Stat
   simp +decide (maxSteps:=9^9) (disch:=omega) only[↓SB0,SX,seval,hQ]
   (first|refine cI hP (hW) rfl rfl ?_|refine cH hP (hW) rfl rfl ?_)
   simp +decide (maxSteps:=9^9) (disch:=omega) only[↓SB0,SX,seval,hQ,hc']
   (first|refine cI hP (hA) rfl rfl ?_|refine cH hP (hA) rfl rfl ?_)
   simp +decide (maxSteps:=9^9) (disch:=omega) only[↓SB0,SX,seval,hQ]
   rfl
  | some x=>
   rw [iget,hx] at hA
   rw [stat_some hc hx]
   refine spec_c hmx p_S_Stat [] 1015 [] ⟨Nat.le_of_ble_eq_true rfl,Nat.le_of_ble_eq_true rfl⟩ rfl rfl ?_
   intro w hP hQ
   unfold c_S_Stat
   simp +decide (maxSteps:=9^9) (disch:=omega) only[↓SB0,SX,seval,hQ]
   (first|refine cI hP (hW) rfl rfl ?_|refine cH hP (hW) rfl rfl ?_)
   simp +decide (maxSteps:=9^9) (disch:=omega) only[↓SB0,SX,seval,hQ,hc']
   (first|refine cI hP (hA) rfl rfl ?_|refine cH hP (hA) rfl rfl ?_)
   simp +decide (maxSteps:=9^9) (disch:=omega) only[↓SB0,SX,seval,hQ,Option.getD_some]
   rfl
 ·have hc':decide ((walk t s).2=0)=false:=decide_eq_false hc
  rw [stat_code hc]
  refine spec_c hmx p_S_Stat [] 1015 [] ⟨Nat.le_of_ble_eq_true rfl,Nat.le_of_ble_eq_true rfl⟩ rfl rfl ?_
  intro w hP hQ
  unfold c_S_Stat
  simp +decide (maxSteps:=9^9) (disch:=omega) only[↓SB0,SX,seval,hQ]
  (first|refine cI hP (hW) rfl rfl ?_|refine cH hP (hW) rfl rfl ?_)
  simp +decide (maxSteps:=9^9) (disch:=omega) only[↓SB0,SX,seval,hQ,hc']
  rfl
end Go.Proofs.YtnhdalnfboiooaaGreatDoor.Awp
namespace Go.Proofs.YtnhdalnfboiooaaGreatDoor.Awp
open Go.Proofs
set_option linter.unusedSimpArgs false
set_option linter.unusedVariables false
open Nat (reduceEqDiff reduceAdd reduceMul reduceSub)
open Int (reduceNeg reduceToNat reducePow)
set_option maxRecDepth 100000
set_option maxHeartbeats 20000000
theorem sI_fileAt (t:Tab) (s:Bytes) (h:t.sz<2^40) (hs:s.length<2^40):Spec Tryz.prog 99 [t.x,.str s] (.tup [(exI (statF t s)).o,.int .i64 (exC (fileF t s))]) [.undef,.undef]:=by
 have hS:=sI_Stat t s h hs
 unfold fileF
 cases e:statF t s with
 | error c=>
  have hc:decide (c=0)=false:=decide_eq_false (code_ne e)
  rw [e] at hS
  simp only [exI,exC] at hS ⊢
  refine spec_c hmx p_I_fileAt [] 247 [] ⟨Nat.le_of_ble_eq_true rfl,Nat.le_of_ble_eq_true rfl⟩ rfl rfl ?_
  intro w hP hQ
  unfold c_I_fileAt
  simp +decide (maxSteps:=9^9) (disch:=omega) only[↓SB0,SX,seval,hQ]
  (first|refine cI hP (hS) rfl rfl ?_|refine cH hP (hS) rfl rfl ?_)
  simp +decide (maxSteps:=9^9) (disch:=omega) only[↓SB0,SX,seval,hQ,hc]
 | ok x=>
  rw [e] at hS
  simp only [exI,exC] at hS ⊢
  by_cases hk:x.kind=1
  ·have hk':decide (x.kind=1)=true:=decide_eq_true hk
   simp only [if_pos hk]
   refine spec_c hmx p_I_fileAt [] 247 [] ⟨Nat.le_of_ble_eq_true rfl,Nat.le_of_ble_eq_true rfl⟩ rfl rfl ?_
   intro w hP hQ
   unfold c_I_fileAt
   simp +decide (maxSteps:=9^9) (disch:=omega) only[↓SB0,SX,seval,hQ]
   (first|refine cI hP (hS) rfl rfl ?_|refine cH hP (hS) rfl rfl ?_)
   simp +decide (maxSteps:=9^9) (disch:=omega) only[↓SB0,SX,seval,hQ,hk']
  ·have hk':decide (x.kind=1)=false:=decide_eq_false hk
   simp only [if_neg hk]
   refine spec_c hmx p_I_fileAt [] 247 [] ⟨Nat.le_of_ble_eq_true rfl,Nat.le_of_ble_eq_true rfl⟩ rfl rfl ?_
   intro w hP hQ
   unfold c_I_fileAt
   simp +decide (maxSteps:=9^9) (disch:=omega) only[↓SB0,SX,seval,hQ]
   (first|refine cI hP (hS) rfl rfl ?_|refine cH hP (hS) rfl rfl ?_)
   simp +decide (maxSteps:=9^9) (disch:=omega) only[↓SB0,SX,seval,hQ,hk']
theorem sS_l6File (t:Tab) (s:Bytes) (h:t.sz<2^40) (hs:s.length<2^40):Spec Tryz.prog 92 [t.x,.str s] (.tup [(exI (fileF t s)).o,.int .i64 (exC (fileF t s))]) [.undef,.undef]:=by
 have hS:=sS_Stat t s h hs
 unfold fileF
 cases e:statF t s with
 | error c=>
  have hc:decide (c=0)=false:=decide_eq_false (code_ne e)
  rw [e] at hS
  simp only [exI,exC] at hS ⊢
  refine spec_c hmx p_S_l6File [] 247 [] ⟨Nat.le_of_ble_eq_true rfl,Nat.le_of_ble_eq_true rfl⟩ rfl rfl ?_
  intro w hP hQ
  unfold c_S_l6File
  simp +decide (maxSteps:=9^9) (disch:=omega) only[↓SB0,SX,seval,hQ]
  (first|refine cI hP (hS) rfl rfl ?_|refine cH hP (hS) rfl rfl ?_)
  simp +decide (maxSteps:=9^9) (disch:=omega) only[↓SB0,SX,seval,hQ,hc]
 | ok x=>
  rw [e] at hS
  simp only [exI,exC] at hS ⊢
  by_cases hk:x.kind=1
  ·have hk':decide (x.kind=1)=true:=decide_eq_true hk
   simp only [if_pos hk]
   refine spec_c hmx p_S_l6File [] 247 [] ⟨Nat.le_of_ble_eq_true rfl,Nat.le_of_ble_eq_true rfl⟩ rfl rfl ?_
   intro w hP hQ
   unfold c_S_l6File
   simp +decide (maxSteps:=9^9) (disch:=omega) only[↓SB0,SX,seval,hQ]
   (first|refine cI hP (hS) rfl rfl ?_|refine cH hP (hS) rfl rfl ?_)
   simp +decide (maxSteps:=9^9) (disch:=omega) only[↓SB0,SX,seval,hQ,hk']
  ·have hk':decide (x.kind=1)=false:=decide_eq_false hk
   simp only [if_neg hk]
   refine spec_c hmx p_S_l6File [] 247 [] ⟨Nat.le_of_ble_eq_true rfl,Nat.le_of_ble_eq_true rfl⟩ rfl rfl ?_
   intro w hP hQ
   unfold c_S_l6File
   simp +decide (maxSteps:=9^9) (disch:=omega) only[↓SB0,SX,seval,hQ]
   (first|refine cI hP (hS) rfl rfl ?_|refine cH hP (hS) rfl rfl ?_)
   simp +decide (maxSteps:=9^9) (disch:=omega) only[↓SB0,SX,seval,hQ,hk']
   rfl
def spotO (D:Inode) (n:Bytes):AV:=.agg [.int .i64 D.ino,.int .i64 D.kind,.int .i64 D.links,.own 1 (bytesR D.data),.own 2 (D.ents.map Ent.row),.own 2 (D.attrs.map Attr.row),.str n]
def spotX (D:Inode) (n:Bytes):AV:=.agg [.int .i64 D.ino,.int .i64 D.kind,.int .i64 D.links,.ext 1 (bytesR D.data),.ext 2 (D.ents.map Ent.row),.ext 2 (D.attrs.map Attr.row),.str n]
def exN (e:Rs Inode) (n:Bytes):Bytes:=match e with
 | .ok _=>n
 | .error _=>[]
theorem parent_len (s:Bytes):(parentOf s).1.length≤450∧(nameF s).length≤14:=by
 unfold nameF parentOf
 split
 ·rename_i h
  refine ⟨?_,split_part (s:=s) _ ?_⟩
  ·show (joinPath (splitPath s).1.dropLast).length≤450
   have:=namesOk_dropLast (split_ok h.1).1
   rw [joinPath,if_pos this]
   split
   ·simp
   ·exact joinS_len this
  ·show (splitPath s).1.getLastD [] ∈ _
   rw [List.getLastD_eq_getLast?,List.getLast?_eq_some_getLast h.2]
   exact List.getLast_mem h.2
 ·simp
theorem sI_spotOf (t:Tab) (s:Bytes) (h:t.sz<2^40) (hs:s.length<2^40):Spec Tryz.prog 100 [t.x,.str s] (.tup [spotO (exI (spotF t s)) (exN (spotF t s) (nameF s)),.int .i64 (exC (spotF t s))]) [.undef,.undef]:=by
 have hPa:=sI_ParentOf s hs
 have hS:=sI_Stat t (parentOf s).1 h (by have:=(parent_len s).1; omega)
 unfold spotF
 cases e:statF t (parentOf s).1 with
 | error c=>
  have hc:decide (c=0)=false:=decide_eq_false (code_ne e)
  rw [e] at hS
  simp only [exI,exC,exN] at hS ⊢
  refine spec_c hmx p_I_spotOf [] 1783 [] ⟨Nat.le_of_ble_eq_true rfl,Nat.le_of_ble_eq_true rfl⟩ rfl rfl ?_
  intro w hP hQ
  unfold c_I_spotOf
  simp +decide (maxSteps:=9^9) (disch:=omega) only[↓SB0,SX,seval,hQ]
  (first|refine cI hP (hPa) rfl rfl ?_|refine cH hP (hPa) rfl rfl ?_)
  simp +decide (maxSteps:=9^9) (disch:=omega) only[↓SB0,SX,seval,hQ]
  (first|refine cI hP (hS) rfl rfl ?_|refine cH hP (hS) rfl rfl ?_)
  simp +decide (maxSteps:=9^9) (disch:=omega) only[↓SB0,SX,seval,hQ,hc]
  first | rfl | exact ⟨rfl,rfl⟩
 | ok x=>
  rw [e] at hS
  simp only [exI,exC] at hS ⊢
  by_cases hk:x.kind=2
  ·have hk':decide (x.kind=2)=true:=decide_eq_true hk
   simp only [if_pos hk]
   refine spec_c hmx p_I_spotOf [] 1783 [] ⟨Nat.le_of_ble_eq_true rfl,Nat.le_of_ble_eq_true rfl⟩ rfl rfl ?_
   intro w hP hQ
   unfold c_I_spotOf
   simp +decide (maxSteps:=9^9) (disch:=omega) only[↓SB0,SX,seval,hQ]
   (first|refine cI hP (hPa) rfl rfl ?_|refine cH hP (hPa) rfl rfl ?_)
   simp +decide (maxSteps:=9^9) (disch:=omega) only[↓SB0,SX,seval,hQ]
   (first|refine cI hP (hS) rfl rfl ?_|refine cH hP (hS) rfl rfl ?_)
   simp +decide (maxSteps:=9^9) (disch:=omega) only[↓SB0,SX,seval,hQ,hk']
   exact ⟨rfl,rfl⟩
  ·have hk':decide (x.kind=2)=false:=decide_eq_false hk
   simp only [if_neg hk]
   refine spec_c hmx p_I_spotOf [] 1783 [] ⟨Nat.le_of_ble_eq_true rfl,Nat.le_of_ble_eq_true rfl⟩ rfl rfl ?_
   intro w hP hQ
   unfold c_I_spotOf
   simp +decide (maxSteps:=9^9) (disch:=omega) only[↓SB0,SX,seval,hQ]
   (first|refine cI hP (hPa) rfl rfl ?_|refine cH hP (hPa) rfl rfl ?_)
   simp +decide (maxSteps:=9^9) (disch:=omega) only[↓SB0,SX,seval,hQ]
   (first|refine cI hP (hS) rfl rfl ?_|refine cH hP (hS) rfl rfl ?_)
   simp +decide (maxSteps:=9^9) (disch:=omega) only[↓SB0,SX,seval,hQ,hk']
   exact ⟨rfl,rfl⟩
theorem sI_ready (t:Tab) (l:List Bytes) (h:t.sz<2^40) (hl:l.length<2^40) (hs:∀ s ∈ l,s.length<2^40):Spec Tryz.prog 98 [t.x,.ext 1 (l.map sRow)] (.bool (l.all pathB && treeB t)) [.undef,.undef]:=by
 refine spec_c hmx p_I_ready [] 3927 [] ⟨Nat.le_of_ble_eq_true rfl,Nat.le_of_ble_eq_true rfl⟩ rfl rfl ?_
 intro w hP hQ
 unfold c_I_ready
 simp +decide (maxSteps:=9^9) (disch:=omega) only[↓SB0,SX,seval,hQ]
 refine LH_D [4,6,8] ?_
 simp +decide (maxSteps:=9^9) (disch:=omega) only[↓SB0,SX,seval,hQ]
 refine loop_e [4,6,8] (fun i:Nat=>[(11,.int .i64 i)]) (fun i=>i≤l.length∧∀ k,k<i→(h:k<l.length)→pathB l[k]=true) (fun i=>l.length-i) (0) hP hQ (rfl) (by simp) ?_
 rintro i ⟨hi,hk⟩ w1 hP1 hQ1
 simp +decide (maxSteps:=9^9) (disch:=omega) only[↓SB0,SX,seval,hQ,hQ1]
 (first | with_reducible refine if_d _ ?_ ?_ | refine if_i _ ?_ ?_) <;> intro g
 ·have hlt:i<l.length:=by omega
  have hS:=sI_SplitPath l[i] (hs _ (List.getElem_mem hlt))
  cases hp:(splitPath l[i]).2 with
  | false=>
   have e:l.all pathB=false:=by rw [List.all_eq_false]; exact ⟨_,List.getElem_mem hlt,by simp [pathB,hp]⟩
   simp +decide (maxSteps:=9^9) (disch:=omega) only[↓SB0,SX,seval,hQ,hQ1,getE g,sRow]
   (first|refine cI hP1 (hS) rfl rfl ?_|refine cH hP1 (hS) rfl rfl ?_)
   simp +decide (maxSteps:=9^9) (disch:=omega) only[↓SB0,SX,seval,hQ,hQ1,hp,e,Bool.false_and]
  | true=>
   simp +decide (maxSteps:=9^9) (disch:=omega) only[↓SB0,SX,seval,hQ,hQ1,getE g,sRow]
   (first|refine cI hP1 (hS) rfl rfl ?_|refine cH hP1 (hS) rfl rfl ?_)
   simp +decide (maxSteps:=9^9) (disch:=omega) only[↓SB0,SX,seval,hQ,hQ1,hp]
   exact ⟨i+1,rfl,⟨by omega,fun k h1 h2=>by
    by_cases e:k=i
    ·subst e; exact hp
    ·exact hk k (by omega) h2⟩,by omega⟩
 ·obtain rfl:i=l.length:=by omega
  have e:l.all pathB=true:=by
   rw [List.all_eq_true]
   intro x hx
   obtain ⟨k,hk1,rfl⟩:=List.getElem_of_mem hx
   exact hk k hk1 hk1
  simp +decide (maxSteps:=9^9) (disch:=omega) only[↓SB0,SX,seval,hQ,hQ1]
  (first|refine cI hP (sI_TreeOk t h) rfl rfl ?_|refine cH hP (sI_TreeOk t h) rfl rfl ?_)
  simp +decide (maxSteps:=9^9) (disch:=omega) only[↓SB0,SX,seval,hQ,e,Bool.true_and]
theorem cut_take {l:List Ent} {i:Nat} (h:i<l.length) (n:Bytes):cutEnt (l.take (i+1)) n=cutEnt (l.take i) n++(if l[i].name=n then [] else [l[i]]):=by
 unfold cutEnt cutK
 rw [List.take_succ_eq_append_getElem h,List.filter_append]
 congr 1
 by_cases e:l[i].name=n <;> simp [e]
theorem sS_l6Cut (l:List Ent) (n:Bytes) (hl:l.length<2^40):Spec Tryz.prog 188 [.ext 2 (l.map Ent.row),.str n] (.own 2 ((cutEnt l n).map Ent.row)) [.undef,.undef]:=by
 refine spec_c hmx p_S_l6Cut [] 115 [] ⟨Nat.le_of_ble_eq_true rfl,Nat.le_of_ble_eq_true rfl⟩ rfl rfl ?_
 intro w hP hQ
 unfold c_S_l6Cut
 simp +decide (maxSteps:=9^9) (disch:=omega) only[↓SB0,SX,seval,hQ]
 refine LH_D [] ?_
 simp +decide (maxSteps:=9^9) (disch:=omega) only[↓SB0,SX,seval,hQ]
 refine loop_e [] (fun i:Nat=>[(5,.own 2 ((cutEnt (l.take i) n).map Ent.row)),(6,.int .i64 i)]) (fun i=>i≤l.length) (fun i=>l.length-i) (0) hP hQ (rfl) (by simp) ?_
 rintro i hi w1 hP1 hQ1
 simp +decide (maxSteps:=9^9) (disch:=omega) only[↓SB0,SX,seval,hQ,hQ1]
 have hc:(cutEnt (l.take i) n).length≤l.length:=Nat.le_trans (List.length_filter_le _ _) (by simp; omega)
 (first | with_reducible refine if_d _ ?_ ?_ | refine if_i _ ?_ ?_) <;> intro g
 ·have ht:=cut_take (l:=l) (i:=i) (by omega) n
  simp +decide (maxSteps:=9^9) (disch:=omega) only[↓SB0,SX,seval,hQ,hQ1,getE g]
  (first | with_reducible refine if_d _ ?_ ?_ | refine if_i _ ?_ ?_) <;> intro e
  ·rw [if_pos e,List.append_nil] at ht
   simp +decide (maxSteps:=9^9) (disch:=omega) only[↓SB0,SX,seval,hQ,hQ1]
   exact ⟨i+1,by rw [ht]; rfl,by omega,by omega⟩
  ·rw [if_neg e] at ht
   have hb:((cutEnt (l.take i) n).length+1)*24≤140737488355328:=by omega
   simp +decide (maxSteps:=9^9) (disch:=omega) only[↓SB0,SX,seval,hQ,hQ1,getE g,hb]
   exact ⟨i+1,by rw [ht,List.map_append]; rfl,by omega,by omega⟩
 ·obtain rfl:i=l.length:=by omega
  simp +decide (maxSteps:=9^9) (disch:=omega) only[↓SB0,SX,seval,hQ,hQ1,List.take_length]
end Go.Proofs.YtnhdalnfboiooaaGreatDoor.Awp
namespace Go.Proofs.YtnhdalnfboiooaaGreatDoor.Awp
open Go.Proofs
set_option linter.unusedSimpArgs false
set_option linter.unusedVariables false
open Nat (reduceEqDiff reduceAdd reduceMul reduceSub)
open Int (reduceNeg reduceToNat reducePow)
set_option maxRecDepth 100000
set_option maxHeartbeats 20000000
theorem take_row {α β:Type} (f:α→β) (l:List α) (i:Nat) (h:i<l.length):(l.take (i+1)).map f=(l.take i).map f++[f l[i]]:=by
 rw [List.take_succ_eq_append_getElem h,List.map_append]; rfl
theorem sI_copyTab (t:Tab) (h:t.sz<2^40):Spec Tryz.prog 97 [t.x] t.o [.undef]:=by
 obtain ⟨h1,h2⟩:=tab_sz h
 refine spec_c hmx p_I_copyTab [] 7215 [] ⟨Nat.le_of_ble_eq_true rfl,Nat.le_of_ble_eq_true rfl⟩ rfl rfl ?_
 intro w hP hQ
 unfold c_I_copyTab
 simp +decide (maxSteps:=9^9) (disch:=omega) only[↓SB0,SX,seval,hQ]
 refine LH_D [5,5005] ?_
 simp +decide (maxSteps:=9^9) (disch:=omega) only[↓SB0,SX,seval,hQ]
 refine loop_e [5,5005] (fun i:Nat=>[(12,.int .i64 i),(5003,.box [.own 6 ((t.inodes.take i).map Inode.row),.int .i64 t.next])]) (fun i=>i≤t.inodes.length) (fun i=>t.inodes.length-i) (0) hP hQ (rfl) (by simp) ?_
 rintro i hi w1 hP1 hQ1
 simp +decide (maxSteps:=9^9) (disch:=omega) only[↓SB0,SX,seval,hQ,hQ1]
 (first | with_reducible refine if_d _ ?_ ?_ | refine if_i _ ?_ ?_) <;> intro h3
 ·have ht:(t.inodes.take i).length=i:=by simp; omega
  simp +decide (maxSteps:=9^9) (disch:=omega) only[↓SB0,SX,seval,hQ,hQ1,getE h3,ht]
  (first|refine cI hP1 (sI_copyInode (t.inodes[i]'(by omega)) (h2 _ (List.getElem_mem _))) rfl rfl ?_|refine cH hP1 (sI_copyInode (t.inodes[i]'(by omega)) (h2 _ (List.getElem_mem _))) rfl rfl ?_)
  simp +decide (maxSteps:=9^9) (disch:=omega) only[↓SB0,SX,seval,hQ,hQ1,ht]
  exact ⟨i+1,by simp only [take_row _ _ _ (show i<t.inodes.length by omega)]; rfl,by omega,by omega⟩
 ·obtain rfl:i=t.inodes.length:=by omega
  simp +decide (maxSteps:=9^9) (disch:=omega) only[↓SB0,SX,seval,hQ,hQ1,List.take_length]
theorem sS_l4Copy (t:Tab) (h:t.sz<2^40):Spec Tryz.prog 91 [t.x] t.o [.undef]:=by
 obtain ⟨h1,h2⟩:=tab_sz h
 refine spec_c hmx p_S_l4Copy [] 31 [] ⟨Nat.le_of_ble_eq_true rfl,Nat.le_of_ble_eq_true rfl⟩ rfl rfl ?_
 intro w hP hQ
 unfold c_S_l4Copy
 simp +decide (maxSteps:=9^9) (disch:=omega) only[↓SB0,SX,seval,hQ]
 refine LH_D [] ?_
 simp +decide (maxSteps:=9^9) (disch:=omega) only[↓SB0,SX,seval,hQ]
 refine loop_e [] (fun i:Nat=>[(4,.int .i64 i),(5003,.box [.own 6 ((t.inodes.take i).map Inode.row),.int .i64 t.next])]) (fun i=>i≤t.inodes.length) (fun i=>t.inodes.length-i) (0) hP hQ (rfl) (by simp) ?_
 rintro i hi w1 hP1 hQ1
 simp +decide (maxSteps:=9^9) (disch:=omega) only[↓SB0,SX,seval,hQ,hQ1]
 (first | with_reducible refine if_d _ ?_ ?_ | refine if_i _ ?_ ?_) <;> intro h3
 ·have ht:(t.inodes.take i).length=i:=by simp; omega
  simp +decide (maxSteps:=9^9) (disch:=omega) only[↓SB0,SX,seval,hQ,hQ1,getE h3,ht]
  (first|refine cI hP1 (sS_l3Copy (t.inodes[i]'(by omega)) (h2 _ (List.getElem_mem _))) rfl rfl ?_|refine cH hP1 (sS_l3Copy (t.inodes[i]'(by omega)) (h2 _ (List.getElem_mem _))) rfl rfl ?_)
  simp +decide (maxSteps:=9^9) (disch:=omega) only[↓SB0,SX,seval,hQ,hQ1,ht]
  exact ⟨i+1,by simp only [take_row _ _ _ (show i<t.inodes.length by omega)]; rfl,by omega,by omega⟩
 ·obtain rfl:i=t.inodes.length:=by omega
  simp +decide (maxSteps:=9^9) (disch:=omega) only[↓SB0,SX,seval,hQ,hQ1,List.take_length]
end Go.Proofs.YtnhdalnfboiooaaGreatDoor.Awp
namespace Go.Proofs.YtnhdalnfboiooaaGreatDoor.Awp
open Go.Proofs
set_option linter.unusedSimpArgs false
set_option linter.unusedVariables false
open Nat (reduceEqDiff reduceAdd reduceMul reduceSub)
open Int (reduceNeg reduceToNat reducePow)
set_option maxRecDepth 100000
set_option maxHeartbeats 20000000
theorem s_IndexFunc_Ent {g:Nat} {cs:List TV} {p:Ent→Bool} (hc:∀ v:Ent,Spec Tryz.prog g [v.x,.xbox cs] (.bool (p v)) [.undef,.undef]) (l:List Ent) (hl:l.length<2^48) :
  Spec Tryz.prog 209 [.ext 2 (l.map Ent.row),.fn g [.xbox cs]] (.int .i64 (idxI (l.findIdx? p))) [.undef,.undef]:=by
 refine spec_c hmx p_X_IndexFunc_Ent [] 435 [] ⟨Nat.le_of_ble_eq_true rfl,Nat.le_of_ble_eq_true rfl⟩ rfl rfl ?_
 intro w hP hQ
 unfold c_X_IndexFunc_Ent
 simp +decide (maxSteps:=9^9) (disch:=omega) only[↓SB0,SX,seval,hQ]
 refine LH_D [4,5] ?_
 simp +decide (maxSteps:=9^9) (disch:=omega) only[↓SB0,SX,seval,hQ]
 refine loop_e [4,5] (fun i:Nat=>[(8,.int .i64 i)]) (fun i=>i≤l.length∧∀ k,k<i→(h:k<l.length)→p l[k]=false) (fun i=>l.length-i) (0) hP hQ (rfl) (by simp) ?_
 rintro i ⟨hi,hk⟩ w1 hP1 hQ1
 simp +decide (maxSteps:=9^9) (disch:=omega) only[↓SB0,SX,seval,hQ,hQ1]
 (first | with_reducible refine if_d _ ?_ ?_ | refine if_i _ ?_ ?_) <;> intro h1
 ·simp +decide (maxSteps:=9^9) (disch:=omega) only[↓SB0,SX,seval,hQ,hQ1,getE h1]
  cases h2:p (l[i]'(by omega)) with
  | true=>
   (first|refine cI hP1 (hc (l[i]'(by omega))) rfl rfl ?_|refine cH hP1 (hc (l[i]'(by omega))) rfl rfl ?_)
   simp +decide (maxSteps:=9^9) (disch:=omega) only[↓SB0,SX,seval,hQ,hQ1,h2]
   rw [idx_step hk (by omega) h2]; rfl
  | false=>
   (first|refine cI hP1 (hc (l[i]'(by omega))) rfl rfl ?_|refine cH hP1 (hc (l[i]'(by omega))) rfl rfl ?_)
   simp +decide (maxSteps:=9^9) (disch:=omega) only[↓SB0,SX,seval,hQ,hQ1,h2]
   exact ⟨i+1,rfl,⟨by omega,no_step hk (by omega) h2⟩,by omega⟩
 ·obtain rfl:i=l.length:=by omega
  simp +decide (maxSteps:=9^9) (disch:=omega) only[↓SB0,SX,seval,hQ,hQ1]
  rw [idx_none fun k h=>hk k h h]; rfl
structure Kept' {α:Type} (s:Nat) (row:α→List TV) (p:α→Bool) (l:List α) (i j:Nat) (R:List (List TV)):Prop where
 lt:i<j
 le:j≤l.length
 len:R.length=l.length
 low:R.take i=((l.take j).filter fun x=>!p x).map row
 num:((l.take j).filter fun x=>!p x).length=i
 high:R.drop j=(l.drop j).map row
 wid:∀ x ∈ R,x.length=s
section
variable {α:Type} {s:Nat} {row:α→List TV} {p:α→Bool} {l:List α} {i j:Nat} {R:List (List TV)}
theorem filter_all {q:α→Bool} {l:List α} (h:∀ x ∈ l,q x=false):(l.filter fun x=>!q x)=l:=List.filter_eq_self.2 fun x hx=>by simp [h x hx]
theorem Kept'.start {k:Nat} (hr:∀ a,(row a).length=s) (h:l.findIdx? p=some k):Kept' s row p l k (k+1) (l.map row):=by
 obtain ⟨h1,h2,h3⟩:=List.findIdx?_eq_some_iff_getElem.1 h
 have e:(l.take (k+1)).filter (fun x=>!p x)=l.take k:=by
  rw [List.take_succ_eq_append_getElem h1,List.filter_append,filter_all fun x hx=>by
   obtain ⟨j,hj,rfl⟩:=List.getElem_of_mem hx
   rw [List.getElem_take]
   have:=h3 j (by simp at hj; omega)
   simpa using this]
  simp [h2]
 exact ⟨by omega,by omega,by simp,by rw [e,List.map_take],by rw [e]; simp; omega,by rw [List.map_drop],fun x hx=>by obtain ⟨a,_,rfl⟩:=List.mem_map.1 hx; exact hr a⟩
theorem Kept'.at (h:Kept' s row p l i j R) (hj:j<l.length):R[j]?=some (row l[j]):=by
 have:=congrArg (fun x=>x[0]?) h.high
 simp only [List.getElem?_drop,Nat.add_zero,List.getElem?_map] at this
 rw [this,List.getElem?_eq_getElem hj]; rfl
theorem Kept'.skip (h:Kept' s row p l i j R) (hj:j<l.length) (hp:p l[j]=true):Kept' s row p l i (j+1) R:=by
 obtain ⟨a1,a2,a3,a4,a5,a6,a7⟩:=h
 have e:(l.take (j+1)).filter (fun x=>!p x)=(l.take j).filter fun x=>!p x:=by
  rw [List.take_succ_eq_append_getElem hj,List.filter_append]; simp [hp]
 refine ⟨by omega,by omega,a3,by rw [e,a4],by rw [e,a5],?_,a7⟩
 rw [← List.drop_drop,a6,← List.map_drop,List.drop_drop]
theorem Kept'.turn (h:Kept' s row p l i (j+1) R) {k:Nat} (h1:i≤k) (h2:k≤j) {f:List TV→List TV} (hf:∀ x,x.length=s→(f x).length=s):Kept' s row p l i (j+1) (R.modify k f):=by
 obtain ⟨a1,a2,a3,a4,a5,a6,a7⟩:=h
 refine ⟨a1,a2,by simp [a3],?_,a5,?_,fun x hx=>?_⟩
 ·rw [← a4]
  apply List.ext_getElem?
  intro m
  rw [List.getElem?_take,List.getElem?_take,List.getElem?_modify]
  split
  ·have hm':k≠m:=by omega
   simp [hm']
  ·rfl
 ·rw [← a6]
  apply List.ext_getElem?
  intro m
  have hm':k≠j+1+m:=by omega
  rw [List.getElem?_drop,List.getElem?_drop,List.getElem?_modify]
  simp [hm']
 ·obtain ⟨m,hm,rfl⟩:=List.getElem_of_mem hx
  rw [List.getElem_modify]
  split
  ·exact hf _ (a7 _ (List.getElem_mem _))
  ·exact a7 _ (List.getElem_mem _)
theorem Kept'.keep (h:Kept' s row p l i j R) (hj:j<l.length) (hp:p l[j]=false) {R':List (List TV)} (hl:R'.length=l.length) (hw:∀ x ∈ R',x.length=s) (h1:R'.take i=R.take i) (h2:R'.drop (j+1)=R.drop (j+1)) {f:List TV→List TV} (hf:∀ x,x.length=s→f x=row l[j]) (hr:(row l[j]).length=s) :
  Kept' s row p l (i+1) (j+1) (R'.modify i f):=by
 obtain ⟨a1,a2,a3,a4,a5,a6,a7⟩:=h
 have e:(l.take (j+1)).filter (fun x=>!p x)=(l.take j).filter (fun x=>!p x)++[l[j]]:=by
  rw [List.take_succ_eq_append_getElem hj,List.filter_append]; simp [hp]
 have hi:i<R'.length:=by omega
 refine ⟨by omega,by omega,by simp [hl],?_,by rw [e]; simp; omega,?_,fun x hx=>?_⟩
 ·rw [e,List.map_append,← a4,← h1,List.take_succ_eq_append_getElem (by simpa using hi),List.getElem_modify_eq,hf _ (hw _ (List.getElem_mem _))]
  congr 1
  apply List.ext_getElem?
  intro m
  rw [List.getElem?_take,List.getElem?_take,List.getElem?_modify]
  split
  ·rename_i hm
   have hm':i≠m:=by omega
   simp [hm']
  ·rfl
 ·have e2:(R'.modify i f).drop (j+1)=R'.drop (j+1):=by
   apply List.ext_getElem?
   intro m
   have hm':i≠j+1+m:=by omega
   rw [List.getElem?_drop,List.getElem?_drop,List.getElem?_modify]
   simp [hm']
  rw [e2,h2,← List.drop_drop,a6,← List.map_drop,List.drop_drop]
 ·obtain ⟨m,hm,rfl⟩:=List.getElem_of_mem hx
  rw [List.getElem_modify]
  split
  ·rw [hf _ (hw _ (List.getElem_mem _))]; exact hr
  ·exact hw _ (List.getElem_mem _)
theorem Kept'.done (h:Kept' s row p l i l.length R):R.take i=(l.filter fun x=>!p x).map row:=by
 have:=h.low
 rwa [List.take_length] at this
end
theorem s_DeleteFunc_Ent {g:Nat} {cs:List TV} {p:Ent→Bool} (hc:∀ v:Ent,Spec Tryz.prog g [v.x,.xbox cs] (.bool (p v)) [.undef,.undef]) (l:List Ent) (hl:l.length<2^40) :
  Spec Tryz.prog 192 [.own 2 (l.map Ent.row),.fn g [.xbox cs]] (.own 2 ((l.filter fun x=>!p x).map Ent.row)) [.undef,.undef]:=by
 have hI:=s_IndexFunc_Ent hc l (by omega)
 cases e:l.findIdx? p with
 | none=>
  have ef:(l.filter fun x=>!p x)=l:=filter_all (by rw [List.findIdx?_eq_none_iff] at e; exact e)
  rw [e] at hI
  rw [ef]
  refine spec_c hmx p_X_DeleteFunc_Ent [] 243 [] ⟨Nat.le_of_ble_eq_true rfl,Nat.le_of_ble_eq_true rfl⟩ rfl rfl ?_
  intro w hP hQ
  unfold c_X_DeleteFunc_Ent
  simp +decide (maxSteps:=9^9) (disch:=omega) only[↓SB0,SX,seval,hQ]
  (first|refine cI hP (hI) rfl rfl ?_|refine cH hP (hI) rfl rfl ?_)
  simp +decide (maxSteps:=9^9) (disch:=omega) only[↓SB0,SX,seval,hQ]
 | some k=>
  obtain ⟨k1,_⟩:=List.findIdx?_eq_some_iff_getElem.1 e
  rw [e,show idxI (some k)=(k:Int) from rfl] at hI
  have hz:decide (((k:Nat):Int)=-1)=false:=decide_eq_false (by omega)
  refine spec_c hmx p_X_DeleteFunc_Ent [] 243 [] ⟨Nat.le_of_ble_eq_true rfl,Nat.le_of_ble_eq_true rfl⟩ rfl rfl ?_
  intro w hP hQ
  unfold c_X_DeleteFunc_Ent
  simp +decide (maxSteps:=9^9) (disch:=omega) only[↓SB0,SX,seval,hQ]
  (first|refine cI hP (hI) rfl rfl ?_|refine cH hP (hI) rfl rfl ?_)
  simp +decide (maxSteps:=9^9) (disch:=omega) only[↓SB0,SX,seval,hQ,hz]
  refine LH_D [7,5007] ?_
  simp +decide (maxSteps:=9^9) (disch:=omega) only[↓SB0,SX,seval,hQ]
  refine loop_e [7,5007] (fun x:Nat × Nat × List (List TV)=>[(0,.own 2 x.2.2),(5,.int .i64 (x.1:Nat)),(6,.int .i64 (x.2.1:Nat))]) (fun x=>Kept' 2 Ent.row p l x.1 x.2.1 x.2.2) (fun x=>l.length-x.2.1) ((k,k+1,l.map Ent.row)) hP hQ (rfl) (Kept'.start (fun _=>rfl) e) ?_
  rintro ⟨i,j,R⟩ hK w1 hP1 hQ1
  simp +decide (maxSteps:=9^9) (disch:=omega) only[↓SB0,SX,seval,hQ,hQ1]
  simp only at hK
  have hlen:=hK.len
  have hlt:=hK.lt
  have hle:=hK.le
  (first | with_reducible refine if_d _ ?_ ?_ | refine if_i _ ?_ ?_) <;> intro h1
  ·have hj:j<l.length:=by omega
   have hat:=hK.at hj
   have hji:((j:Nat):Int)<(R.length:Nat):=by omega
   cases hp:p l[j] with
   | true=>
    simp +decide (maxSteps:=9^9) (disch:=omega) only[↓SB0,SX,seval,hQ,hQ1,hat]
    (first|refine cI hP1 (hc l[j]) rfl rfl ?_|refine cH hP1 (hc l[j]) rfl rfl ?_)
    simp +decide (maxSteps:=9^9) (disch:=omega) only[↓SB0,SX,seval,hQ,hQ1,hp]
    exact ⟨(i,j+1,R),rfl,hK.skip hj hp,by simp only; omega⟩
   | false=>
    have hii:i<R.length:=by omega
    simp +decide (maxSteps:=9^9) (disch:=omega) only[↓SB0,SX,seval,hQ,hQ1,hat]
    (first|refine cI hP1 (hc l[j]) rfl rfl ?_|refine cH hP1 (hc l[j]) rfl rfl ?_)
    simp +decide (maxSteps:=9^9) (disch:=omega) only[↓SB0,SX,seval,hQ,hQ1,hp]
    exact ⟨(i+1,j+1,_),rfl,hK.keep hj hp hlen hK.wid rfl rfl (fun x hx=>by rw [List.drop_of_length_le (Nat.le_of_eq hx)]; rfl) rfl,by simp only; omega⟩
  ·obtain rfl:j=l.length:=by omega
   have e1:(((l.length:Nat):Int)-(i:Nat)).toNat=l.length-i:=by omega
   have e2:R.drop (i+(l.length-i))=[]:=List.drop_eq_nil_of_le (by omega)
   have e3:(R.take i++List.replicate (l.length-i) [TV.str [],TV.int .i64 0]).length=l.length:=by simp; omega
   have e4:(((i:Nat):Int)-0).toNat=i:=by omega
   have e5:0+i≤l.length:=by omega
   have e6:(R.take i++List.replicate (l.length-i) [TV.str [],TV.int .i64 0]).take i=(l.filter fun x=>!p x).map Ent.row:=by
    rw [List.take_append_of_le_length (by simp; omega),List.take_take,Nat.min_self,hK.done]
   simp +decide (maxSteps:=9^9) (disch:=omega) only[↓SB0,SX,seval,hQ,hQ1,hlen,e1,e2,e3,e4,e5,e6]
theorem mod_take {R:List (List TV)} {i k:Nat} (h:i≤k) (f:List TV→List TV):(R.modify k f).take i=R.take i:=by
 apply List.ext_getElem?
 intro m
 rw [List.getElem?_take,List.getElem?_take,List.getElem?_modify]
 split
 ·have hm':k≠m:=by omega
  simp [hm']
 ·rfl
theorem mod_drop {R:List (List TV)} {i k:Nat} (h:k<i) (f:List TV→List TV):(R.modify k f).drop i=R.drop i:=by
 apply List.ext_getElem?
 intro m
 have hm':k≠i+m:=by omega
 rw [List.getElem?_drop,List.getElem?_drop,List.getElem?_modify]
 simp [hm']
theorem mod_wid {R:List (List TV)} {s k:Nat} {f:List TV→List TV} (hf:∀ x,x.length=s→(f x).length=s) (h:∀ x ∈ R,x.length=s):∀ x ∈ R.modify k f,x.length=s:=by
 intro x hx
 obtain ⟨m,hm,rfl⟩:=List.getElem_of_mem hx
 rw [List.getElem_modify]
 split
 ·exact hf _ (h _ (List.getElem_mem _))
 ·exact h _ (List.getElem_mem _)
theorem und_len (x:List TV) (h:x.length=6):(((x.modify 3 fun x=>TV.undef).modify 4 fun x=>TV.undef).modify 5 fun x=>TV.undef).length=6:=by simp [h]
theorem s_DeleteFunc_Inode {g:Nat} {cs:List TV} {p:Inode→Bool} (hc:∀ v:Inode,Spec Tryz.prog g [v.x,.xbox cs] (.bool (p v)) [.undef,.undef]) (l:List Inode) (hl:l.length<2^40) :
  Spec Tryz.prog 195 [.own 6 (l.map Inode.row),.fn g [.xbox cs]] (.own 6 ((l.filter fun x=>!p x).map Inode.row)) [.undef,.undef]:=by
 have hI:=s_IndexFunc_Inode hc l (by omega)
 cases e:l.findIdx? p with
 | none=>
  have ef:(l.filter fun x=>!p x)=l:=filter_all (by rw [List.findIdx?_eq_none_iff] at e; exact e)
  rw [e] at hI
  rw [ef]
  refine spec_c hmx p_X_DeleteFunc_Inode [] 243 [] ⟨Nat.le_of_ble_eq_true rfl,Nat.le_of_ble_eq_true rfl⟩ rfl rfl ?_
  intro w hP hQ
  unfold c_X_DeleteFunc_Inode
  simp +decide (maxSteps:=9^9) (disch:=omega) only[↓SB0,SX,seval,hQ]
  (first|refine cI hP (hI) rfl rfl ?_|refine cH hP (hI) rfl rfl ?_)
  simp +decide (maxSteps:=9^9) (disch:=omega) only[↓SB0,SX,seval,hQ]
 | some k=>
  obtain ⟨k1,_⟩:=List.findIdx?_eq_some_iff_getElem.1 e
  rw [e,show idxI (some k)=(k:Int) from rfl] at hI
  have hz:decide (((k:Nat):Int)=-1)=false:=decide_eq_false (by omega)
  refine spec_c hmx p_X_DeleteFunc_Inode [] 243 [] ⟨Nat.le_of_ble_eq_true rfl,Nat.le_of_ble_eq_true rfl⟩ rfl rfl ?_
  intro w hP hQ
  unfold c_X_DeleteFunc_Inode
  simp +decide (maxSteps:=9^9) (disch:=omega) only[↓SB0,SX,seval,hQ]
  (first|refine cI hP (hI) rfl rfl ?_|refine cH hP (hI) rfl rfl ?_)
  simp +decide (maxSteps:=9^9) (disch:=omega) only[↓SB0,SX,seval,hQ,hz]
  refine LH_D [7,5007] ?_
  simp +decide (maxSteps:=9^9) (disch:=omega) only[↓SB0,SX,seval,hQ]
  refine loop_e [7,5007] (fun x:Nat × Nat × List (List TV)=>[(0,.own 6 x.2.2),(5,.int .i64 (x.1:Nat)),(6,.int .i64 (x.2.1:Nat))]) (fun x=>Kept' 6 Inode.row p l x.1 x.2.1 x.2.2) (fun x=>l.length-x.2.1) ((k,k+1,l.map Inode.row)) hP hQ (rfl) (Kept'.start (fun _=>rfl) e) ?_
  rintro ⟨i,j,R⟩ hK w1 hP1 hQ1
  simp +decide (maxSteps:=9^9) (disch:=omega) only[↓SB0,SX,seval,hQ,hQ1]
  simp only at hK
  have hlen:=hK.len
  have hlt:=hK.lt
  have hle:=hK.le
  (first | with_reducible refine if_d _ ?_ ?_ | refine if_i _ ?_ ?_) <;> intro h1
  ·have hj:j<l.length:=by omega
   have hat:=hK.at hj
   have hji:((j:Nat):Int)<(R.length:Nat):=by omega
   cases hp:p l[j] with
   | true=>
    simp +decide (maxSteps:=9^9) (disch:=omega) only[↓SB0,SX,seval,hQ,hQ1,hat]
    (first|refine cI hP1 (hc l[j]) rfl rfl ?_|refine cH hP1 (hc l[j]) rfl rfl ?_)
    simp +decide (maxSteps:=9^9) (disch:=omega) only[↓SB0,SX,seval,hQ,hQ1,hp]
    exact ⟨(i,j+1,_),rfl,(hK.skip hj hp).turn (k:=j) (by omega) (Nat.le_refl _) und_len,by simp only; omega⟩
   | false=>
    have hii:i<R.length:=by omega
    simp +decide (maxSteps:=9^9) (disch:=omega) only[↓SB0,SX,seval,hQ,hQ1,hat]
    (first|refine cI hP1 (hc l[j]) rfl rfl ?_|refine cH hP1 (hc l[j]) rfl rfl ?_)
    simp +decide (maxSteps:=9^9) (disch:=omega) only[↓SB0,SX,seval,hQ,hQ1,hp]
    exact ⟨(i+1,j+1,_),rfl,hK.keep hj hp (by simp [hlen]) (mod_wid und_len hK.wid) (mod_take (by omega) _) (mod_drop (by omega) _) (fun x hx=>by rw [List.drop_of_length_le (Nat.le_of_eq hx)]; rfl) rfl,by simp only; omega⟩
  ·obtain rfl:j=l.length:=by omega
   have e1:(((l.length:Nat):Int)-(i:Nat)).toNat=l.length-i:=by omega
   have e2:R.drop (i+(l.length-i))=[]:=List.drop_eq_nil_of_le (by omega)
   have e3:(R.take i++List.replicate (l.length-i) [TV.int .i64 0,TV.int .i64 0,TV.int .i64 0,TV.sl 1 [],TV.sl 2 [],TV.sl 2 []]).length=l.length:=by simp; omega
   have e4:(((i:Nat):Int)-0).toNat=i:=by omega
   have e5:0+i≤l.length:=by omega
   have e6:(R.take i++List.replicate (l.length-i) [TV.int .i64 0,TV.int .i64 0,TV.int .i64 0,TV.sl 1 [],TV.sl 2 [],TV.sl 2 []]).take i=(l.filter fun x=>!p x).map Inode.row:=by
    rw [List.take_append_of_le_length (by simp; omega),List.take_take,Nat.min_self,hK.done]
   simp +decide (maxSteps:=9^9) (disch:=omega) only[↓SB0,SX,seval,hQ,hQ1,hlen,e1,e2,e3,e4,e5,e6]
theorem sI_DropInode_1 (x:Inode) (n:Int):Spec Tryz.prog 196 [x.x,.xbox [.int .i64 n]] (.bool (decide (x.ino=n))) [.undef,.undef]:=by
 refine spec_c hmx p_I_DropInode_1 [] 15 [] ⟨Nat.le_of_ble_eq_true rfl,Nat.le_of_ble_eq_true rfl⟩ rfl rfl ?_
 intro w hP hQ
 unfold c_I_DropInode_1
 simp +decide (maxSteps:=9^9) (disch:=omega) only[↓SB0,SX,seval,hQ]
theorem sI_DropInode (t:Tab) (n:Int) (h:t.sz<2^40):Spec Tryz.prog 102 [t.x,.int .i64 n] (dropIno t n).o [.undef,.undef]:=by
 obtain ⟨h1,h2⟩:=tab_sz h
 have hD:=s_DeleteFunc_Inode (fun v=>sI_DropInode_1 v n) t.inodes (by omega)
 have e:(t.inodes.filter fun x=>!decide (x.ino=n))=(dropIno t n).inodes:=by
  unfold dropIno
  congr 1
  funext x
  by_cases hx:x.ino=n <;> simp [hx]
 rw [e] at hD
 refine spec_c hmx p_I_DropInode [(195,[.m,.b],[])] 31 [] ⟨Nat.le_of_ble_eq_true rfl,Nat.le_of_ble_eq_true rfl⟩ rfl rfl ?_
 intro w hP hQ
 unfold c_I_DropInode
 simp +decide (maxSteps:=9^9) (disch:=omega) only[↓SB0,SX,seval,hQ]
 (first|refine cI hP (sI_copyTab t h) rfl rfl ?_|refine cH hP (sI_copyTab t h) rfl rfl ?_)
 simp +decide (maxSteps:=9^9) (disch:=omega) only[↓SB0,SX,seval,hQ]
 (first|refine cI hP (hD) rfl rfl ?_|refine cH hP (hD) rfl rfl ?_)
 simp +decide (maxSteps:=9^9) (disch:=omega) only[↓SB0,SX,seval,hQ]
 rfl
theorem filter_take {α:Type} (q:α→Bool) {l:List α} {i:Nat} (h:i<l.length):(l.take (i+1)).filter q=(l.take i).filter q++if q l[i]=true then [l[i]] else []:=by
 rw [List.take_succ_eq_append_getElem h,List.filter_append]
 cases e:q l[i] <;> simp [e]
theorem sS_DropInode (t:Tab) (n:Int) (h:t.sz<2^40):Spec Tryz.prog 94 [t.x,.int .i64 n] (dropIno t n).o [.undef,.undef]:=by
 obtain ⟨h1,h2⟩:=tab_sz h
 refine spec_c hmx p_S_DropInode [] 119 [] ⟨Nat.le_of_ble_eq_true rfl,Nat.le_of_ble_eq_true rfl⟩ rfl rfl ?_
 intro w hP hQ
 unfold c_S_DropInode
 simp +decide (maxSteps:=9^9) (disch:=omega) only[↓SB0,SX,seval,hQ]
 refine LH_D [] ?_
 simp +decide (maxSteps:=9^9) (disch:=omega) only[↓SB0,SX,seval,hQ]
 refine loop_e [] (fun i:Nat=>[(5005,.box [.own 6 (((t.inodes.take i).filter fun x=>decide (x.ino≠n)).map Inode.row),.int .i64 t.next]),(6,.int .i64 i)]) (fun i=>i≤t.inodes.length) (fun i=>t.inodes.length-i) (0) hP hQ (rfl) (by simp) ?_
 rintro i hi w1 hP1 hQ1
 simp +decide (maxSteps:=9^9) (disch:=omega) only[↓SB0,SX,seval,hQ,hQ1]
 have hc:((t.inodes.take i).filter fun x=>decide (x.ino≠n)).length≤t.inodes.length:=Nat.le_trans (List.length_filter_le _ _) (by simp; omega)
 (first | with_reducible refine if_d _ ?_ ?_ | refine if_i _ ?_ ?_) <;> intro g
 ·have hlt:i<t.inodes.length:=by omega
  have ht:=filter_take (fun x:Inode=>decide (x.ino≠n)) hlt
  simp +decide (maxSteps:=9^9) (disch:=omega) only[↓SB0,SX,seval,hQ,hQ1,getE g]
  (first | with_reducible refine if_d _ ?_ ?_ | refine if_i _ ?_ ?_) <;> intro e
  ·rw [if_neg (by simp [e]),List.append_nil] at ht
   simp +decide (maxSteps:=9^9) (disch:=omega) only[↓SB0,SX,seval,hQ,hQ1]
   exact ⟨i+1,by rw [ht]; rfl,by omega,by omega⟩
  ·rw [if_pos (by simpa using e)] at ht
   have hb:(((t.inodes.take i).filter fun x=>decide (x.ino≠n)).length+1)*96≤140737488355328:=by omega
   simp +decide (maxSteps:=9^9) (disch:=omega) only[↓SB0,SX,seval,hQ,hQ1,getE g]
   (first|refine cI hP1 (sS_l3Copy (t.inodes[i]) (h2 _ (List.getElem_mem hlt))) rfl rfl ?_|refine cH hP1 (sS_l3Copy (t.inodes[i]) (h2 _ (List.getElem_mem hlt))) rfl rfl ?_)
   simp +decide (maxSteps:=9^9) (disch:=omega) only[↓SB0,SX,seval,hQ,hQ1,hb]
   exact ⟨i+1,by rw [ht,List.map_append]; rfl,by omega,by omega⟩
 ·obtain rfl:i=t.inodes.length:=by omega
  simp +decide (maxSteps:=9^9) (disch:=omega) only[↓SB0,SX,seval,hQ,hQ1,List.take_length]
  try rfl
theorem map_set {α β:Type} (f:α→β) (l:List α) (k:Nat) (x:α) (g:β→β) (hg:∀ y,l[k]?=some y→g (f y)=f x):(l.map f).modify k g=(l.set k x).map f:=by
 apply List.ext_getElem?
 intro j
 rw [List.getElem?_modify,List.getElem?_map,List.getElem?_map,List.getElem?_set]
 by_cases e:k=j
 ·subst e
  by_cases hk:k<l.length
  ·simp [hk,hg _ (List.getElem?_eq_getElem hk)]
  ·simp [hk]
 ·simp [e]
theorem sI_SetInode_has (t:Tab) (x:Inode) {k:Nat} (h:t.sz<2^40) (hx:x.sz<2^40) (hu:UpI t.inodes) (hk:inoIdx t x.ino=some k):Spec Tryz.prog 103 [t.x,x.x] (setIno t x).o [.undef,.undef]:=by
 obtain ⟨h1,h2⟩:=tab_sz h
 have hlt:=idx_lt hk
 have hPl:=sI_placeOf t x.ino (by omega)
 rw [hk,show idxI (some k)=(k:Int) from rfl] at hPl
 have e:setIno t x={ inodes:=t.inodes.set k x,next:=t.next }:=by rw [setIno,putIno_set hu hk]
 have hz:decide ((0:Int)≤(k:Nat))=true:=decide_eq_true (by omega)
 have hg:((k:Nat):Int)<(t.inodes.length:Nat):=by omega
 rw [e]
 refine spec_c hmx p_I_SetInode [] 127 [] ⟨Nat.le_of_ble_eq_true rfl,Nat.le_of_ble_eq_true rfl⟩ rfl rfl ?_
 intro w hP hQ
 unfold c_I_SetInode
 simp +decide (maxSteps:=9^9) (disch:=omega) only[↓SB0,SX,seval,hQ]
 (first|refine cI hP (sI_copyTab t h) rfl rfl ?_|refine cH hP (sI_copyTab t h) rfl rfl ?_)
 simp +decide (maxSteps:=9^9) (disch:=omega) only[↓SB0,SX,seval,hQ]
 (first|refine cI hP (sI_copyInode x hx) rfl rfl ?_|refine cH hP (sI_copyInode x hx) rfl rfl ?_)
 simp +decide (maxSteps:=9^9) (disch:=omega) only[↓SB0,SX,seval,hQ]
 (first|refine cI hP (hPl) rfl rfl ?_|refine cH hP (hPl) rfl rfl ?_)
 simp +decide (maxSteps:=9^9) (disch:=omega) only[↓SB0,SX,seval,hQ,hz,hg]
 rw [map_set Inode.row t.inodes k x _ fun y _=>rfl]
theorem sS_SetInode_has (t:Tab) (x:Inode) {k:Nat} (h:t.sz<2^40) (hx:x.sz<2^40) (hu:UpI t.inodes) (hk:inoIdx t x.ino=some k):Spec Tryz.prog 95 [t.x,x.x] (setIno t x).o [.undef,.undef]:=by
 obtain ⟨h1,h2⟩:=tab_sz h
 have hlt:=idx_lt hk
 have hPl:=sS_l4At t x.ino (by omega)
 rw [hk,show idxI (some k)=(k:Int) from rfl] at hPl
 have e:setIno t x={ inodes:=t.inodes.set k x,next:=t.next }:=by rw [setIno,putIno_set hu hk]
 have hz:decide ((0:Int)≤(k:Nat))=true:=decide_eq_true (by omega)
 have hg:((k:Nat):Int)<(t.inodes.length:Nat):=by omega
 rw [e]
 refine spec_c hmx p_S_SetInode [] 255 [] ⟨Nat.le_of_ble_eq_true rfl,Nat.le_of_ble_eq_true rfl⟩ rfl rfl ?_
 intro w hP hQ
 unfold c_S_SetInode
 simp +decide (maxSteps:=9^9) (disch:=omega) only[↓SB0,SX,seval,hQ]
 (first|refine cI hP (sS_l4Copy t h) rfl rfl ?_|refine cH hP (sS_l4Copy t h) rfl rfl ?_)
 simp +decide (maxSteps:=9^9) (disch:=omega) only[↓SB0,SX,seval,hQ]
 (first|refine cI hP (hPl) rfl rfl ?_|refine cH hP (hPl) rfl rfl ?_)
 simp +decide (maxSteps:=9^9) (disch:=omega) only[↓SB0,SX,seval,hQ,hz,hg]
 (first|refine cI hP (sS_l3Copy x hx) rfl rfl ?_|refine cH hP (sS_l3Copy x hx) rfl rfl ?_)
 simp +decide (maxSteps:=9^9) (disch:=omega) only[↓SB0,SX,seval,hQ,hz,hg]
 rw [map_set Inode.row t.inodes k x _ fun y _=>rfl]
 try rfl
end Go.Proofs.YtnhdalnfboiooaaGreatDoor.Awp
namespace Go.Proofs.YtnhdalnfboiooaaGreatDoor.Awp
open Go.Proofs
set_option linter.unusedSimpArgs false
set_option linter.unusedVariables false
open Nat (reduceEqDiff reduceAdd reduceMul reduceSub)
open Int (reduceNeg reduceToNat reducePow)
set_option maxRecDepth 100000
set_option maxHeartbeats 20000000
def spotC (D:Inode) (n:Bytes):List TV:=[.int .i64 D.ino,.int .i64 D.kind,.int .i64 D.links,.sl 1 (bytesR D.data),.sl 2 (D.ents.map Ent.row),.sl 2 (D.attrs.map Attr.row),.str n]
theorem sI_leave_1 (e:Ent) (D:Inode) (n:Bytes):Spec Tryz.prog 194 [e.x,.xbox (spotC D n)] (.bool (decide (e.name=n))) [.undef,.undef]:=by
 unfold spotC
 refine spec_c hmx p_I_spot_leave_1 [] 15 [] ⟨Nat.le_of_ble_eq_true rfl,Nat.le_of_ble_eq_true rfl⟩ rfl rfl ?_
 intro w hP hQ
 unfold c_I_spot_leave_1
 simp +decide (maxSteps:=9^9) (disch:=omega) only[↓SB0,SX,seval,hQ]
theorem cutEnt_f (l:List Ent) (n:Bytes):(l.filter fun e=>!decide (e.name=n))=cutEnt l n:=by
 unfold cutEnt cutK
 congr 1
 funext e
 by_cases h:e.name=n <;> simp [h]
theorem cutD_sz (D:Inode) (n:Bytes):(cutD D n).sz≤D.sz:=by
 have h1:(cutEnt D.ents n).length≤D.ents.length:=List.length_filter_le _ _
 have h2:=filter_sum Ent.sz (fun e:Ent=>decide (e.name≠n)) D.ents
 show D.data.length+((cutEnt D.ents n).length+((cutEnt D.ents n).map Ent.sz).sum)+szM Attr.sz D.attrs≤D.data.length+(D.ents.length+(D.ents.map Ent.sz).sum)+szM Attr.sz D.attrs
 have h3:((cutEnt D.ents n).map Ent.sz).sum≤(D.ents.map Ent.sz).sum:=h2
 omega
theorem sI_leave (t:Tab) (D:Inode) (n:Bytes) {k:Nat} (h:t.sz<2^40) (hD:D.sz<2^40) (hu:UpI t.inodes) (hk:inoIdx t D.ino=some k) :
  Spec Tryz.prog 101 [spotX D n,t.x] (setIno t (cutD D n)).o [.undef,.undef]:=by
 obtain ⟨h1,h2,h3⟩:=inode_sz hD
 have hF:=s_DeleteFunc_Ent (fun v=>sI_leave_1 v D n) D.ents (by omega)
 rw [cutEnt_f] at hF
 have hS:=sI_SetInode_has t (cutD D n) h (Nat.lt_of_le_of_lt (cutD_sz D n) hD) hu hk
 unfold spotX
 refine spec_c hmx p_I_spot_leave [(192,[.m,.b],[])] 31 [] ⟨Nat.le_of_ble_eq_true rfl,Nat.le_of_ble_eq_true rfl⟩ rfl rfl ?_
 intro w hP hQ
 unfold c_I_spot_leave
 simp +decide (maxSteps:=9^9) (disch:=omega) only[↓SB0,SX,seval,hQ]
 (first|refine cI hP (s_CloneE D.ents (by omega)) rfl rfl ?_|refine cH hP (s_CloneE D.ents (by omega)) rfl rfl ?_)
 simp +decide (maxSteps:=9^9) (disch:=omega) only[↓SB0,SX,seval,hQ]
 (first|refine cI hP (hF) rfl rfl ?_|refine cH hP (hF) rfl rfl ?_)
 simp +decide (maxSteps:=9^9) (disch:=omega) only[↓SB0,SX,seval,hQ]
 (first|refine cI hP (hS) rfl rfl ?_|refine cH hP (hS) rfl rfl ?_)
 simp +decide (maxSteps:=9^9) (disch:=omega) only[↓SB0,SX,seval,hQ]
theorem sub_iff (s:Bytes):subB s=(pathB s && !decide (s=[47])):=by
 rw [Bool.eq_iff_iff,show subB s=true↔_ from parent_ok s]
 unfold pathB
 simp only [Bool.and_eq_true,Bool.not_eq_true',decide_eq_false_iff_not]
 constructor
 ·rintro ⟨h1,h2⟩; exact ⟨h1,fun e=>h2 ((root_split h1).2 e)⟩
 ·rintro ⟨h1,h2⟩; exact ⟨h1,fun e=>h2 ((root_split h1).1 e)⟩
theorem idx_of {t:Tab} {i:Int} {x:Inode} (h:inoAt t i=some x):∃ k,inoIdx t i=some k:=by
 cases e:inoIdx t i with
 | none=>rw [idx_no e] at h; cases h
 | some k=>exact ⟨k,rfl⟩
theorem sS_l6Drop (t:Tab) (s:Bytes) {D:Inode} (h:t.sz<2^40) (hs:s.length<2^40) (hu:UpI t.inodes) (hD:spotF t s=.ok D):Spec Tryz.prog 93 [t.x,.str s] (setIno t (cutD D (nameF s))).o [.undef,.undef]:=by
 have hPa:=sS_ParentOf s hs
 have hS:=sS_Stat t (parentOf s).1 h (by have:=(parent_len s).1; omega)
 have hst:=(spot_ok hD).1
 have hat:=(stat_mem hst).2
 obtain ⟨k,hk⟩:=idx_of hat
 have hz:=ino_sz h hat
 have hC:=sS_l6Cut D.ents (nameF s) (inode_sz hz).2.1
 have hI:=sS_SetInode_has t (cutD D (nameF s)) h (Nat.lt_of_le_of_lt (cutD_sz D _) hz) hu hk
 rw [hst] at hS
 simp only [exI,exC] at hS
 unfold nameF at *
 refine spec_c hmx p_S_l6Drop [] 375 [] ⟨Nat.le_of_ble_eq_true rfl,Nat.le_of_ble_eq_true rfl⟩ rfl rfl ?_
 intro w hP hQ
 unfold c_S_l6Drop
 simp +decide (maxSteps:=9^9) (disch:=omega) only[↓SB0,SX,seval,hQ]
 (first|refine cI hP (hPa) rfl rfl ?_|refine cH hP (hPa) rfl rfl ?_)
 simp +decide (maxSteps:=9^9) (disch:=omega) only[↓SB0,SX,seval,hQ]
 (first|refine cI hP (hS) rfl rfl ?_|refine cH hP (hS) rfl rfl ?_)
 simp +decide (maxSteps:=9^9) (disch:=omega) only[↓SB0,SX,seval,hQ]
 (first|refine cI hP (hC) rfl rfl ?_|refine cH hP (hC) rfl rfl ?_)
 simp +decide (maxSteps:=9^9) (disch:=omega) only[↓SB0,SX,seval,hQ]
 (first|refine cI hP (hI) rfl rfl ?_|refine cH hP (hI) rfl rfl ?_)
 simp +decide (maxSteps:=9^9) (disch:=omega) only[↓SB0,SX,seval,hQ]
theorem tree_up {t:Tab} (h:treeB t=true):UpI t.inodes:=((treeB_iff t).1 h).tab.up
theorem unlink_at {t:Tab} {s:Bytes} {X:Inode} (hB:treeB t=true) (hs:subB s=true) (hX:fileF t s=.ok X):∃ D kD kX,spotF t s=.ok D∧D.ino≠X.ino∧inoIdx t D.ino=some kD∧inoIdx (setIno t (cutD D (nameF s))) X.ino=some kX∧1≤X.links∧X.links≤1000:=by
 have ht:=(treeB_iff t).1 hB
 obtain ⟨f1,f2⟩:=file_ok hX
 obtain ⟨D,d1,d2,_⟩:=stat_up ht hs f1
 have a1:=(stat_mem f1).2
 have a2:=(stat_mem (spot_ok d1).1).2
 have hne:D.ino≠X.ino:=by
  intro e
  rw [e,a1] at a2
  injection a2 with a2
  have:=(spot_ok d1).2
  rw [← a2] at this; omega
 obtain ⟨kD,h1⟩:=idx_of a2
 have a3:inoAt (setIno t (cutD D (nameF s))) X.ino=some X:=by
  rw [inoAt_set (tree_up hB),if_neg (show ¬ (cutD D (nameF s)).ino=X.ino from hne)]; exact a1
 obtain ⟨kX,h2⟩:=idx_of a3
 have ok:=(ht.tab.ok X (stat_mem f1).1).1
 have h0:X.links≠0:=fun e=>sub_root ht hs f1 (ok.root.1 e)
 have:=ok.links
 exact ⟨D,kD,kX,d1,hne,h1,h2,by omega,by omega⟩
theorem sI_Unlink (t:Tab) (s:Bytes) (h:t.sz<2^30) (hs:s.length<2^40):Spec Tryz.prog 22 [t.x,.str s] (.tup [(opUnlink t s).1.o,.int .i64 (opUnlink t s).2]) [.undef,.undef]:=by
 have h':t.sz<2^40:=by omega
 have hC:=sI_copyTab t h'
 have hR:=sI_ready t [s] h' (by simp) (by simpa using hs)
 have hS:=sub_iff s
 simp only [List.all_cons,List.all_nil,Bool.and_true,List.map_cons,List.map_nil,sRow] at hR
 by_cases hc:treeB t=true∧subB s=true
 ·obtain ⟨hB,hsb⟩:=hc
  rw [hsb] at hS
  have hp:pathB s=true:=by cases e:pathB s <;> simp_all
  have hne:decide (s=[47])=false:=by cases e:decide (s=[47]) <;> simp_all
  rw [hp,hB] at hR
  have hF:=sI_fileAt t s h' hs
  cases hX:fileF t s with
  | error c=>
   have hc:decide (c=0)=false:=decide_eq_false (fcode_ne hX)
   have e:opUnlink t s=(t,c):=by rw [opUnlink,if_pos ⟨hB,hsb⟩,hX]
   rw [hX] at hF
   rw [e]
   simp only [exC] at hF
   refine spec_c hmx p_I_Unlink [] 503 [] ⟨Nat.le_of_ble_eq_true rfl,Nat.le_of_ble_eq_true rfl⟩ rfl rfl ?_
   intro w hP hQ
   unfold c_I_Unlink
   simp +decide (maxSteps:=9^9) (disch:=omega) only[↓SB0,SX,seval,hQ]
   (first|refine cI hP (hC) rfl rfl ?_|refine cH hP (hC) rfl rfl ?_)
   simp +decide (maxSteps:=9^9) (disch:=omega) only[↓SB0,SX,seval,hQ]
   (first|refine cI hP (hR) rfl rfl ?_|refine cH hP (hR) rfl rfl ?_)
   simp +decide (maxSteps:=9^9) (disch:=omega) only[↓SB0,SX,seval,hQ,hne]
   (first|refine cI hP (hF) rfl rfl ?_|refine cH hP (hF) rfl rfl ?_)
   simp +decide (maxSteps:=9^9) (disch:=omega) only[↓SB0,SX,seval,hQ,hc]
   try rfl
  | ok X=>
   obtain ⟨D,kD,kX,d1,d2,d3,d4,d5,d6⟩:=unlink_at hB hsb hX
   obtain ⟨f1,f2⟩:=file_ok hX
   have zX:=ino_sz h' (stat_mem f1).2
   have zD:=(stat_mem (spot_ok d1).1).2
   have hSp:=sI_spotOf t s h' hs
   have zt:(setIno t (cutD D (nameF s))).sz<2^40:=by
    have:=setIno_sz t (cutD D (nameF s))
    have:=cutD_sz D (nameF s)
    have:=(tab_sz h).2 D (inoAt_some zD).1
    omega
   have hL:=sI_leave t D (nameF s) h' (ino_sz h' zD) (tree_up hB) d3
   have hD:=sI_DropInode (setIno t (cutD D (nameF s))) X.ino zt
   have hI:=sI_SetInode_has (setIno t (cutD D (nameF s))) (lessD X) zt zX (set_up (tree_up hB) _) d4
   rw [hX] at hF
   rw [d1] at hSp
   have e:opUnlink t s=(unlinkT t D (nameF s) X,0):=by rw [opUnlink,if_pos ⟨hB,hsb⟩,hX,d1]; rfl
   rw [f1] at hF
   simp only [exC,exI,exN] at hF hSp
   unfold spotO at hSp
   unfold spotX at hL
   rw [e,unlinkT]
   by_cases h1:X.links=1
   ·have h1':decide (X.links-1=0)=true:=decide_eq_true (by omega)
    rw [if_pos h1]
    refine spec_c hmx p_I_Unlink [] 503 [] ⟨Nat.le_of_ble_eq_true rfl,Nat.le_of_ble_eq_true rfl⟩ rfl rfl ?_
    intro w hP hQ
    unfold c_I_Unlink
    simp +decide (maxSteps:=9^9) (disch:=omega) only[↓SB0,SX,seval,hQ]
    (first|refine cI hP (hC) rfl rfl ?_|refine cH hP (hC) rfl rfl ?_)
    simp +decide (maxSteps:=9^9) (disch:=omega) only[↓SB0,SX,seval,hQ]
    (first|refine cI hP (hR) rfl rfl ?_|refine cH hP (hR) rfl rfl ?_)
    simp +decide (maxSteps:=9^9) (disch:=omega) only[↓SB0,SX,seval,hQ,hne]
    (first|refine cI hP (hF) rfl rfl ?_|refine cH hP (hF) rfl rfl ?_)
    simp +decide (maxSteps:=9^9) (disch:=omega) only[↓SB0,SX,seval,hQ]
    (first|refine cI hP (hSp) rfl rfl ?_|refine cH hP (hSp) rfl rfl ?_)
    simp +decide (maxSteps:=9^9) (disch:=omega) only[↓SB0,SX,seval,hQ]
    (first|refine cI hP (hL) rfl rfl ?_|refine cH hP (hL) rfl rfl ?_)
    simp +decide (maxSteps:=9^9) (disch:=omega) only[↓SB0,SX,seval,hQ,h1']
    (first|refine cI hP (hD) rfl rfl ?_|refine cH hP (hD) rfl rfl ?_)
    simp +decide (maxSteps:=9^9) (disch:=omega) only[↓SB0,SX,seval,hQ]
   ·have h1':decide (X.links-1=0)=false:=decide_eq_false (by omega)
    rw [if_neg h1]
    refine spec_c hmx p_I_Unlink [] 503 [] ⟨Nat.le_of_ble_eq_true rfl,Nat.le_of_ble_eq_true rfl⟩ rfl rfl ?_
    intro w hP hQ
    unfold c_I_Unlink
    simp +decide (maxSteps:=9^9) (disch:=omega) only[↓SB0,SX,seval,hQ]
    (first|refine cI hP (hC) rfl rfl ?_|refine cH hP (hC) rfl rfl ?_)
    simp +decide (maxSteps:=9^9) (disch:=omega) only[↓SB0,SX,seval,hQ]
    (first|refine cI hP (hR) rfl rfl ?_|refine cH hP (hR) rfl rfl ?_)
    simp +decide (maxSteps:=9^9) (disch:=omega) only[↓SB0,SX,seval,hQ,hne]
    (first|refine cI hP (hF) rfl rfl ?_|refine cH hP (hF) rfl rfl ?_)
    simp +decide (maxSteps:=9^9) (disch:=omega) only[↓SB0,SX,seval,hQ]
    (first|refine cI hP (hSp) rfl rfl ?_|refine cH hP (hSp) rfl rfl ?_)
    simp +decide (maxSteps:=9^9) (disch:=omega) only[↓SB0,SX,seval,hQ]
    (first|refine cI hP (hL) rfl rfl ?_|refine cH hP (hL) rfl rfl ?_)
    simp +decide (maxSteps:=9^9) (disch:=omega) only[↓SB0,SX,seval,hQ,h1']
    (first|refine cI hP (hI) rfl rfl ?_|refine cH hP (hI) rfl rfl ?_)
    simp +decide (maxSteps:=9^9) (disch:=omega) only[↓SB0,SX,seval,hQ]
 ·have e:opUnlink t s=(t,1):=by rw [opUnlink,if_neg hc]
  rw [e]
  cases hp:(pathB s && treeB t) with
  | false=>
   rw [hp] at hR
   refine spec_c hmx p_I_Unlink [] 503 [] ⟨Nat.le_of_ble_eq_true rfl,Nat.le_of_ble_eq_true rfl⟩ rfl rfl ?_
   intro w hP hQ
   unfold c_I_Unlink
   simp +decide (maxSteps:=9^9) (disch:=omega) only[↓SB0,SX,seval,hQ]
   (first|refine cI hP (hC) rfl rfl ?_|refine cH hP (hC) rfl rfl ?_)
   simp +decide (maxSteps:=9^9) (disch:=omega) only[↓SB0,SX,seval,hQ]
   (first|refine cI hP (hR) rfl rfl ?_|refine cH hP (hR) rfl rfl ?_)
   simp +decide (maxSteps:=9^9) (disch:=omega) only[↓SB0,SX,seval,hQ]
   try rfl
  | true=>
   have hne:decide (s=[47])=true:=by
    cases e:decide (s=[47]) with
    | true=>rfl
    | false=>
     simp only [Bool.and_eq_true] at hp
     rw [hp.1,e] at hS
     exact absurd ⟨hp.2,hS⟩ hc
   rw [hp] at hR
   refine spec_c hmx p_I_Unlink [] 503 [] ⟨Nat.le_of_ble_eq_true rfl,Nat.le_of_ble_eq_true rfl⟩ rfl rfl ?_
   intro w hP hQ
   unfold c_I_Unlink
   simp +decide (maxSteps:=9^9) (disch:=omega) only[↓SB0,SX,seval,hQ]
   (first|refine cI hP (hC) rfl rfl ?_|refine cH hP (hC) rfl rfl ?_)
   simp +decide (maxSteps:=9^9) (disch:=omega) only[↓SB0,SX,seval,hQ]
   (first|refine cI hP (hR) rfl rfl ?_|refine cH hP (hR) rfl rfl ?_)
   simp +decide (maxSteps:=9^9) (disch:=omega) only[↓SB0,SX,seval,hQ,hne]
   try rfl
theorem sS_Unlink (t:Tab) (s:Bytes) (h:t.sz<2^30) (hs:s.length<2^40):Spec Tryz.prog 20 [t.x,.str s] (.tup [(opUnlink t s).1.o,.int .i64 (opUnlink t s).2]) [.undef,.undef]:=by
 have h':t.sz<2^40:=by omega
 have hC:=sS_l4Copy t h'
 have hT:=sS_TreeOk t h'
 have hPa:=sS_ParentOf s hs
 rw [show (parentOf s).2.2=subB s from rfl] at hPa
 by_cases hc:treeB t=true∧subB s=true
 ·obtain ⟨hB,hsb⟩:=hc
  rw [hB] at hT
  rw [hsb] at hPa
  have hF:=sS_l6File t s h' hs
  cases hX:fileF t s with
  | error c=>
   have hc:decide (c=0)=false:=decide_eq_false (fcode_ne hX)
   have e:opUnlink t s=(t,c):=by rw [opUnlink,if_pos ⟨hB,hsb⟩,hX]
   rw [hX] at hF
   rw [e]
   simp only [exC] at hF
   refine spec_c hmx p_S_Unlink [] 3895 [] ⟨Nat.le_of_ble_eq_true rfl,Nat.le_of_ble_eq_true rfl⟩ rfl rfl ?_
   intro w hP hQ
   unfold c_S_Unlink
   simp +decide (maxSteps:=9^9) (disch:=omega) only[↓SB0,SX,seval,hQ]
   (first|refine cI hP (hPa) rfl rfl ?_|refine cH hP (hPa) rfl rfl ?_)
   simp +decide (maxSteps:=9^9) (disch:=omega) only[↓SB0,SX,seval,hQ]
   (first|refine cI hP (hT) rfl rfl ?_|refine cH hP (hT) rfl rfl ?_)
   simp +decide (maxSteps:=9^9) (disch:=omega) only[↓SB0,SX,seval,hQ]
   (first|refine cI hP (hF) rfl rfl ?_|refine cH hP (hF) rfl rfl ?_)
   simp +decide (maxSteps:=9^9) (disch:=omega) only[↓SB0,SX,seval,hQ,hc]
   (first|refine cI hP (hC) rfl rfl ?_|refine cH hP (hC) rfl rfl ?_)
   simp +decide (maxSteps:=9^9) (disch:=omega) only[↓SB0,SX,seval,hQ]
   try rfl
  | ok X=>
   obtain ⟨D,kD,kX,d1,d2,d3,d4,d5,d6⟩:=unlink_at hB hsb hX
   obtain ⟨f1,f2⟩:=file_ok hX
   have zX:=ino_sz h' (stat_mem f1).2
   have zD:=(stat_mem (spot_ok d1).1).2
   have zt:(setIno t (cutD D (nameF s))).sz<2^40:=by
    have:=setIno_sz t (cutD D (nameF s))
    have:=cutD_sz D (nameF s)
    have:=(tab_sz h).2 D (inoAt_some zD).1
    omega
   have hL:=sS_l6Drop t s h' hs (tree_up hB) d1
   have hD:=sS_DropInode (setIno t (cutD D (nameF s))) X.ino zt
   have hI:=sS_SetInode_has (setIno t (cutD D (nameF s))) (lessD X) zt zX (set_up (tree_up hB) _) d4
   rw [hX] at hF
   have e:opUnlink t s=(unlinkT t D (nameF s) X,0):=by rw [opUnlink,if_pos ⟨hB,hsb⟩,hX,d1]; rfl
   simp only [exC,exI] at hF
   rw [e,unlinkT]
   by_cases h1:X.links=1
   ·have h1':decide (X.links=1)=true:=decide_eq_true h1
    rw [if_pos h1]
    refine spec_c hmx p_S_Unlink [] 3895 [] ⟨Nat.le_of_ble_eq_true rfl,Nat.le_of_ble_eq_true rfl⟩ rfl rfl ?_
    intro w hP hQ
    unfold c_S_Unlink
    simp +decide (maxSteps:=9^9) (disch:=omega) only[↓SB0,SX,seval,hQ]
    (first|refine cI hP (hPa) rfl rfl ?_|refine cH hP (hPa) rfl rfl ?_)
    simp +decide (maxSteps:=9^9) (disch:=omega) only[↓SB0,SX,seval,hQ]
    (first|refine cI hP (hT) rfl rfl ?_|refine cH hP (hT) rfl rfl ?_)
    simp +decide (maxSteps:=9^9) (disch:=omega) only[↓SB0,SX,seval,hQ]
    (first|refine cI hP (hF) rfl rfl ?_|refine cH hP (hF) rfl rfl ?_)
    simp +decide (maxSteps:=9^9) (disch:=omega) only[↓SB0,SX,seval,hQ]
    (first|refine cI hP (hL) rfl rfl ?_|refine cH hP (hL) rfl rfl ?_)
    simp +decide (maxSteps:=9^9) (disch:=omega) only[↓SB0,SX,seval,hQ,h1']
    (first|refine cI hP (hD) rfl rfl ?_|refine cH hP (hD) rfl rfl ?_)
    simp +decide (maxSteps:=9^9) (disch:=omega) only[↓SB0,SX,seval,hQ]
   ·have h1':decide (X.links=1)=false:=decide_eq_false h1
    rw [if_neg h1]
    refine spec_c hmx p_S_Unlink [] 3895 [] ⟨Nat.le_of_ble_eq_true rfl,Nat.le_of_ble_eq_true rfl⟩ rfl rfl ?_
    intro w hP hQ
    unfold c_S_Unlink
    simp +decide (maxSteps:=9^9) (disch:=omega) only[↓SB0,SX,seval,hQ]
    (first|refine cI hP (hPa) rfl rfl ?_|refine cH hP (hPa) rfl rfl ?_)
    simp +decide (maxSteps:=9^9) (disch:=omega) only[↓SB0,SX,seval,hQ]
    (first|refine cI hP (hT) rfl rfl ?_|refine cH hP (hT) rfl rfl ?_)
    simp +decide (maxSteps:=9^9) (disch:=omega) only[↓SB0,SX,seval,hQ]
    (first|refine cI hP (hF) rfl rfl ?_|refine cH hP (hF) rfl rfl ?_)
    simp +decide (maxSteps:=9^9) (disch:=omega) only[↓SB0,SX,seval,hQ]
    (first|refine cI hP (hL) rfl rfl ?_|refine cH hP (hL) rfl rfl ?_)
    simp +decide (maxSteps:=9^9) (disch:=omega) only[↓SB0,SX,seval,hQ,h1']
    (first|refine cI hP (hI) rfl rfl ?_|refine cH hP (hI) rfl rfl ?_)
    simp +decide (maxSteps:=9^9) (disch:=omega) only[↓SB0,SX,seval,hQ]
 ·have e:opUnlink t s=(t,1):=by rw [opUnlink,if_neg hc]
  rw [e]
  cases hB:treeB t with
  | false=>
   rw [hB] at hT
   refine spec_c hmx p_S_Unlink [] 3895 [] ⟨Nat.le_of_ble_eq_true rfl,Nat.le_of_ble_eq_true rfl⟩ rfl rfl ?_
   intro w hP hQ
   unfold c_S_Unlink
   simp +decide (maxSteps:=9^9) (disch:=omega) only[↓SB0,SX,seval,hQ]
   (first|refine cI hP (hPa) rfl rfl ?_|refine cH hP (hPa) rfl rfl ?_)
   simp +decide (maxSteps:=9^9) (disch:=omega) only[↓SB0,SX,seval,hQ]
   (first|refine cI hP (hT) rfl rfl ?_|refine cH hP (hT) rfl rfl ?_)
   simp +decide (maxSteps:=9^9) (disch:=omega) only[↓SB0,SX,seval,hQ]
   (first|refine cI hP (hC) rfl rfl ?_|refine cH hP (hC) rfl rfl ?_)
   simp +decide (maxSteps:=9^9) (disch:=omega) only[↓SB0,SX,seval,hQ]
   try rfl
  | true=>
   have hsb:subB s=false:=by cases e:subB s <;> simp_all
   rw [hB] at hT
   rw [hsb] at hPa
   refine spec_c hmx p_S_Unlink [] 3895 [] ⟨Nat.le_of_ble_eq_true rfl,Nat.le_of_ble_eq_true rfl⟩ rfl rfl ?_
   intro w hP hQ
   unfold c_S_Unlink
   simp +decide (maxSteps:=9^9) (disch:=omega) only[↓SB0,SX,seval,hQ]
   (first|refine cI hP (hPa) rfl rfl ?_|refine cH hP (hPa) rfl rfl ?_)
   simp +decide (maxSteps:=9^9) (disch:=omega) only[↓SB0,SX,seval,hQ]
   (first|refine cI hP (hT) rfl rfl ?_|refine cH hP (hT) rfl rfl ?_)
   simp +decide (maxSteps:=9^9) (disch:=omega) only[↓SB0,SX,seval,hQ]
   (first|refine cI hP (hC) rfl rfl ?_|refine cH hP (hC) rfl rfl ?_)
   simp +decide (maxSteps:=9^9) (disch:=omega) only[↓SB0,SX,seval,hQ]
   try rfl
end Go.Proofs.YtnhdalnfboiooaaGreatDoor.Awp
namespace Go.Proofs.YtnhdalnfboiooaaGreatDoor.Awp
open Go.Proofs
set_option linter.unusedSimpArgs false
set_option linter.unusedVariables false
open Nat (reduceEqDiff reduceAdd reduceMul reduceSub)
open Int (reduceNeg reduceToNat reducePow)
set_option maxRecDepth 100000
set_option maxHeartbeats 20000000
theorem cnt_le {α:Type} (c f:α→Nat) (K:Nat) (h:∀ x,c x≤K+K*f x) (l:List α):cntM c l≤K*szM f l:=by
 simp only [cntM,szM]
 induction l with
 | nil=>simp
 | cons x l ih=>
  have:=h x
  simp only [List.map_cons,List.sum_cons,List.length_cons,Nat.mul_add,Nat.mul_one] at ih ⊢
  omega
theorem ino_cnt (x:Inode):x.cnt≤3+3*x.sz:=by
 have h1:=cnt_le Ent.cnt Ent.sz 2 (fun x=>by show 1+1≤_; omega) x.ents
 have h2:=cnt_le Attr.cnt Attr.sz 2 (fun x=>by show 1+1≤_; omega) x.attrs
 have e1:x.cnt=1+1+1+x.data.length+cntM Ent.cnt x.ents+cntM Attr.cnt x.attrs:=rfl
 have e2:x.sz=x.data.length+szM Ent.sz x.ents+szM Attr.sz x.attrs:=rfl
 omega
theorem tab_cnt (x:Tab):x.cntT≤3*x.sz:=cnt_le Inode.cnt Inode.sz 3 ino_cnt x.inodes
end Go.Proofs.YtnhdalnfboiooaaGreatDoor.Awp
namespace Go.Proofs.YtnhdalnfboiooaaGreatDoor.Awp
open Go.Proofs
set_option linter.unusedSimpArgs false
set_option linter.unusedVariables false
open Nat (reduceEqDiff reduceAdd reduceMul reduceSub)
open Int (reduceNeg reduceToNat reducePow)
set_option maxRecDepth 100000
set_option maxHeartbeats 20000000
theorem eqTab_self (a:Tab) (hl:a.sz<2^40):Spec Tryz.prog 23 [a.x,a.x] (.bool true) [.undef,.undef]:=by
 have:=s_eqTab a a hl
 rwa [decide_eq_true rfl] at this
theorem opUnlink_sz (t:Tab) (s:Bytes):(opUnlink t s).1.sz≤3*t.sz+3:=by
 unfold opUnlink
 split
 ·split
  ·rename_i hc _ X hX
   obtain ⟨D,kD,kX,d1,d2,d3,d4,d5,d6⟩:=unlink_at hc.1 hc.2 hX
   obtain ⟨f1,f2⟩:=file_ok hX
   have h1:=setIno_sz t (cutD D (nameF s))
   have h2:=cutD_sz D (nameF s)
   have m:∀ x ∈ t.inodes,x.sz≤t.sz:=fun x hx=>by
    have:=(tab_sz (t:=t) (n:=t.sz+1) (by omega)).2 x hx; omega
   have h3:=m D (spot_mem d1)
   have h4:=m X (stat_mem f1).1
   rw [d1]
   show (unlinkT t D (nameF s) X).sz≤_
   unfold unlinkT
   split
   ·have:=dropIno_sz (setIno t (cutD D (nameF s))) X.ino; omega
   ·have:=setIno_sz (setIno t (cutD D (nameF s))) (lessD X)
    have:(lessD X).sz=X.sz:=rfl
    omega
  ·simp only; omega
 ·simp only; omega
theorem s_FnExactUnlink (r:Tab) (s:Bytes) (hf:r.fine) (hl:s.length<2^48):Spec Tryz.prog 3 [r.x,.str s] (.bool true) [.undef,.undef]:=by
 by_cases hb:(1048576:Int)<(s.length:Nat)
 ·have hb':decide ((1048576:Int)<(s.length:Nat))=true:=decide_eq_true hb
  refine spec_c hmx p_L_FnExactUnlink [] 65527 [] ⟨Nat.le_of_ble_eq_true rfl,Nat.le_of_ble_eq_true rfl⟩ rfl rfl ?_
  intro w hP hQ
  unfold c_L_FnExactUnlink
  simp +decide (maxSteps:=9^9) (disch:=omega) only[↓SB0,SX,seval,hQ]
  simp +decide (maxSteps:=9^9) (disch:=omega) only[↓SB0,SX,seval,hQ,hb']
 have hb':decide ((1048576:Int)<(s.length:Nat))=false:=decide_eq_false hb
 by_cases hz:(1048576:Int)<(r.sz:Nat)
 ·refine spec_c hmx p_L_FnExactUnlink [] 65527 [] ⟨Nat.le_of_ble_eq_true rfl,Nat.le_of_ble_eq_true rfl⟩ rfl rfl ?_
  intro w hP hQ
  unfold c_L_FnExactUnlink
  simp +decide (maxSteps:=9^9) (disch:=omega) only[↓SB0,SX,seval,hQ]
  simp +decide (maxSteps:=9^9) (disch:=omega) only[↓SB0,SX,seval,hQ,hb']
  (first|refine cI hP (s_szTab r 1048576 hf (by omega) (by omega)) rfl rfl ?_|refine cH hP (s_szTab r 1048576 hf (by omega) (by omega)) rfl rfl ?_)
  simp +decide (maxSteps:=9^9) (disch:=omega) only[↓SB0,SX,seval,hQ,szC_lt hz]
 ·have hs:r.sz<2^40:=by omega
  have hS:=sS_Unlink r s (by omega) (by omega)
  have hI:=sI_Unlink r s (by omega) (by omega)
  have hs':=opUnlink_sz r s
  have c1:=tab_cnt r
  have c2:=tab_cnt (opUnlink r s).1
  have g0:decide (1+((r.cntT:Nat):Int)<0)=false:=decide_eq_false (by omega)
  have g1:decide (1+(((opUnlink r s).1.cntT:Nat):Int)<0)=false:=decide_eq_false (by omega)
  generalize (opUnlink r s).1=D at *
  generalize (opUnlink r s).2=E at *
  have hs2:D.sz<2^40:=by omega
  refine spec_c hmx p_L_FnExactUnlink [(24,[.p,.b],[])] 65527 [] ⟨Nat.le_of_ble_eq_true rfl,Nat.le_of_ble_eq_true rfl⟩ rfl rfl ?_
  intro w hP hQ
  unfold c_L_FnExactUnlink
  simp +decide (maxSteps:=9^9) (disch:=omega) only[↓SB0,SX,seval,hQ]
  simp +decide (maxSteps:=9^9) (disch:=omega) only[↓SB0,SX,seval,hQ,hb']
  (first|refine cI hP (s_szTab r 1048576 hf (by omega) (by omega)) rfl rfl ?_|refine cH hP (s_szTab r 1048576 hf (by omega) (by omega)) rfl rfl ?_)
  simp +decide (maxSteps:=9^9) (disch:=omega) only[↓SB0,SX,seval,hQ,szC_ge hz]
  (first | with_reducible refine if_d _ ?_ ?_ | refine if_i _ ?_ ?_) <;> intro h
  ·exfalso; omega
  simp +decide (maxSteps:=9^9) (disch:=omega) only[↓SB0,SX,seval,hQ]
  (first|refine cI hP (s_toTab r hs) rfl rfl ?_|refine cH hP (s_toTab r hs) rfl rfl ?_)
  simp +decide (maxSteps:=9^9) (disch:=omega) only[↓SB0,SX,seval,hQ]
  (first|refine cI hP (hS) rfl rfl ?_|refine cH hP (hS) rfl rfl ?_)
  simp +decide (maxSteps:=9^9) (disch:=omega) only[↓SB0,SX,seval,hQ]
  (first|refine cI hP (s_toTab r hs) rfl rfl ?_|refine cH hP (s_toTab r hs) rfl rfl ?_)
  simp +decide (maxSteps:=9^9) (disch:=omega) only[↓SB0,SX,seval,hQ]
  (first|refine cI hP (hI) rfl rfl ?_|refine cH hP (hI) rfl rfl ?_)
  simp +decide (maxSteps:=9^9) (disch:=omega) only[↓SB0,SX,seval,hQ]
  (first|refine cI hP (eqTab_self D hs2) rfl rfl ?_|refine cH hP (eqTab_self D hs2) rfl rfl ?_)
  simp +decide (maxSteps:=9^9) (disch:=omega) only[↓SB0,SX,seval,hQ]
  (first|refine cI hP (s_toTab r hs) rfl rfl ?_|refine cH hP (s_toTab r hs) rfl rfl ?_)
  simp +decide (maxSteps:=9^9) (disch:=omega) only[↓SB0,SX,seval,hQ]
  (first|refine cI hP (eqTab_self r hs) rfl rfl ?_|refine cH hP (eqTab_self r hs) rfl rfl ?_)
  simp +decide (maxSteps:=9^9) (disch:=omega) only[↓SB0,SX,seval,hQ]
  (first|refine cI hP (s_markTab r 1 (by omega) (by omega)) rfl rfl ?_|refine cH hP (s_markTab r 1 (by omega) (by omega)) rfl rfl ?_)
  simp +decide (maxSteps:=9^9) (disch:=omega) only[↓SB0,SX,seval,hQ,g0]
  (first|refine cI hP (eqTab_self D hs2) rfl rfl ?_|refine cH hP (eqTab_self D hs2) rfl rfl ?_)
  simp +decide (maxSteps:=9^9) (disch:=omega) only[↓SB0,SX,seval,hQ]
  (first|refine cI hP (s_markTab D 1 (by omega) (by omega)) rfl rfl ?_|refine cH hP (s_markTab D 1 (by omega) (by omega)) rfl rfl ?_)
  simp +decide (maxSteps:=9^9) (disch:=omega) only[↓SB0,SX,seval,hQ]
  (first|refine cI hP (s_heldTab D 1 (by omega) (by omega)) rfl rfl ?_|refine cH hP (s_heldTab D 1 (by omega) (by omega)) rfl rfl ?_)
  simp +decide (maxSteps:=9^9) (disch:=omega) only[↓SB0,SX,seval,hQ,g1]
  (first|refine cI hP (s_toTab r hs) rfl rfl ?_|refine cH hP (s_toTab r hs) rfl rfl ?_)
  simp +decide (maxSteps:=9^9) (disch:=omega) only[↓SB0,SX,seval,hQ]
  (first|refine cI hP (hI) rfl rfl ?_|refine cH hP (hI) rfl rfl ?_)
  simp +decide (maxSteps:=9^9) (disch:=omega) only[↓SB0,SX,seval,hQ]
  (first|refine cI hP (eqTab_self D hs2) rfl rfl ?_|refine cH hP (eqTab_self D hs2) rfl rfl ?_)
  simp +decide (maxSteps:=9^9) (disch:=omega) only[↓SB0,SX,seval,hQ]
  (first|refine cI hP (s_heldTab D 1 (by omega) (by omega)) rfl rfl ?_|refine cH hP (s_heldTab D 1 (by omega) (by omega)) rfl rfl ?_)
  simp +decide (maxSteps:=9^9) (disch:=omega) only[↓SB0,SX,seval,hQ,g1]
end Go.Proofs.YtnhdalnfboiooaaGreatDoor.Awp
namespace Go.Proofs.YtnhdalnfboiooaaGreatDoor.Awp
open Go.Proofs
set_option linter.unusedSimpArgs false
set_option linter.unusedVariables false
theorem Shp.nil_inv {ts:List TV} (h:Shp [] ts):ts=[]:=by cases h; rfl
theorem Shp.bool_inv {ys:List Ty} {ts:List TV} (h:Shp (.bool::ys) ts):∃ b us,ts=.bool b::us∧Shp ys us:=by cases h with | bool b _ us h=>exact ⟨b,us,rfl,h⟩
theorem Shp.int_inv {k:IntKind} {ys:List Ty} {ts:List TV} (h:Shp (.int k::ys) ts):∃ n us,ts=.int k n::us∧Shp ys us:=by cases h with | int _ n _ us _ h=>exact ⟨n,us,rfl,h⟩
theorem Shp.str_inv {ys:List Ty} {ts:List TV} (h:Shp (.str::ys) ts):∃ s us,ts=.str s::us∧s.length≤2^47∧Shp ys us:=by cases h with | str s _ us hs h=>exact ⟨s,us,rfl,hs,h⟩
theorem Shp.sl_inv {s:Nat} {e ys:List Ty} {ts:List TV} (h:Shp (.sl s e::ys) ts):∃ es us,ts=.sl s es::us∧es.length≤2^47∧(∀ r ∈ es,Shp e r)∧Shp ys us:=by
 cases h with | sl _ _ es _ us hl he h=>exact ⟨es,us,rfl,hl,he,h⟩
theorem rows_ofShp {α:Type} {sh:List Ty} {row:α→List TV} {good:α→Prop} (H:∀ ts,Shp sh ts→∃ x,ts=row x∧good x):∀ {es:List (List TV)},(∀ r ∈ es,Shp sh r)→∃ l:List α,es=l.map row∧∀ x ∈ l,good x:=by
 intro es
 induction es with
 | nil=>intro _; exact ⟨[],rfl,by simp⟩
 | cons r es ih=>
  intro h
  obtain ⟨x,rfl,hx⟩:=H r (h r (by simp))
  obtain ⟨l,rfl,hl⟩:=ih fun r hr=>h r (by simp [hr])
  exact ⟨x::l,rfl,fun y hy=>by rcases List.mem_cons.1 hy with rfl | hy; exact hx; exact hl y hy⟩
theorem byte_ofShp (ts:List TV) (h:Shp [.int .u8] ts):∃ x:UInt8,ts=byteRow x∧True:=by
 cases h with
 | int _ n _ us hn h=>
  cases h
  obtain ⟨h1,h2⟩:=bounds_u8 hn
  refine ⟨UInt8.ofNat n.toNat,?_,trivial⟩
  have:(UInt8.ofNat n.toNat).toNat=n.toNat:=by simp; omega
  simp only [byteRow,this]
  congr 2
  omega
theorem bytes_ofShp {es:List (List TV)} (h:∀ r ∈ es,Shp [.int .u8] r):∃ b:Bytes,es=bytesR b:=by
 obtain ⟨l,rfl,_⟩:=rows_ofShp byte_ofShp h
 exact ⟨l,rfl⟩
theorem len_ofs {s:Bytes} (h:s.length≤2^47):s.length<2^48:=Nat.lt_of_le_of_lt h (by decide)
theorem len_ofb {b:Bytes} (h:(bytesR b).length≤2^47):b.length<2^48:=Nat.lt_of_le_of_lt (by simpa [bytesR] using h) (by decide)
theorem len_ofl {α β:Type} {f:α→β} {l:List α} (h:(l.map f).length≤2^47):l.length<2^48:=Nat.lt_of_le_of_lt (by simpa using h) (by decide)
def Ent.shape:List Ty:=[.str,.int .i64]
theorem Ent.ofShp (ts:List TV) (h:Shp Ent.shape ts):∃ x:Ent,ts=x.row∧x.fine:=by
 obtain ⟨v_name,u0,rfl,lv_name,h1⟩:=Shp.str_inv h
 obtain ⟨v_ino,u1,rfl,h2⟩:=Shp.int_inv h1
 obtain rfl:=Shp.nil_inv h2
 exact ⟨{ name:=v_name,ino:=v_ino },rfl,len_ofs lv_name⟩
def Attr.shape:List Ty:=[.str,.str]
theorem Attr.ofShp (ts:List TV) (h:Shp Attr.shape ts):∃ x:Attr,ts=x.row∧x.fine:=by
 obtain ⟨v_name,u0,rfl,lv_name,h1⟩:=Shp.str_inv h
 obtain ⟨v_val,u1,rfl,lv_val,h2⟩:=Shp.str_inv h1
 obtain rfl:=Shp.nil_inv h2
 exact ⟨{ name:=v_name,val:=v_val },rfl,⟨len_ofs lv_name,len_ofs lv_val⟩⟩
def Inode.shape:List Ty:=[.int .i64,.int .i64,.int .i64,.sl 1 [.int .u8],.sl 2 Ent.shape,.sl 2 Attr.shape]
theorem Inode.ofShp (ts:List TV) (h:Shp Inode.shape ts):∃ x:Inode,ts=x.row∧x.fine:=by
 obtain ⟨v_ino,u0,rfl,h1⟩:=Shp.int_inv h
 obtain ⟨v_kind,u1,rfl,h2⟩:=Shp.int_inv h1
 obtain ⟨v_links,u2,rfl,h3⟩:=Shp.int_inv h2
 obtain ⟨r3,u3,rfl,lv_data,e3,h4⟩:=Shp.sl_inv h3
 obtain ⟨v_data,rfl⟩:=bytes_ofShp e3
 obtain ⟨r4,u4,rfl,lv_ents,e4,h5⟩:=Shp.sl_inv h4
 obtain ⟨v_ents,rfl,gv_ents⟩:=rows_ofShp Ent.ofShp e4
 obtain ⟨r5,u5,rfl,lv_attrs,e5,h6⟩:=Shp.sl_inv h5
 obtain ⟨v_attrs,rfl,gv_attrs⟩:=rows_ofShp Attr.ofShp e5
 obtain rfl:=Shp.nil_inv h6
 exact ⟨{ ino:=v_ino,kind:=v_kind,links:=v_links,data:=v_data,ents:=v_ents,attrs:=v_attrs },rfl,⟨len_ofb lv_data,⟨len_ofl lv_ents,gv_ents⟩,⟨len_ofl lv_attrs,gv_attrs⟩⟩⟩
def Tab.shape:List Ty:=[.sl 6 Inode.shape,.int .i64]
theorem Tab.ofShp (ts:List TV) (h:Shp Tab.shape ts):∃ x:Tab,ts=x.row∧x.fine:=by
 obtain ⟨r0,u0,rfl,lv_inodes,e0,h1⟩:=Shp.sl_inv h
 obtain ⟨v_inodes,rfl,gv_inodes⟩:=rows_ofShp Inode.ofShp e0
 obtain ⟨v_next,u1,rfl,h2⟩:=Shp.int_inv h1
 obtain rfl:=Shp.nil_inv h2
 exact ⟨{ inodes:=v_inodes,next:=v_next },rfl,⟨len_ofl lv_inodes,gv_inodes⟩⟩
def Vol.shape:List Ty:=[.int .i64,.str,.bool,.int .i64,.sl 6 Inode.shape,.int .i64]
theorem Vol.ofShp (ts:List TV) (h:Shp Vol.shape ts):∃ x:Vol,ts=x.row∧x.fine:=by
 obtain ⟨v_id,u0,rfl,h1⟩:=Shp.int_inv h
 obtain ⟨v_name,u1,rfl,lv_name,h2⟩:=Shp.str_inv h1
 obtain ⟨v_ro,u2,rfl,h3⟩:=Shp.bool_inv h2
 obtain ⟨v_limit,u3,rfl,h4⟩:=Shp.int_inv h3
 obtain ⟨r4,u4,rfl,lv_t_inodes,e4,h5⟩:=Shp.sl_inv h4
 obtain ⟨v_t_inodes,rfl,gv_t_inodes⟩:=rows_ofShp Inode.ofShp e4
 obtain ⟨v_t_next,u5,rfl,h6⟩:=Shp.int_inv h5
 obtain rfl:=Shp.nil_inv h6
 exact ⟨{ id:=v_id,name:=v_name,ro:=v_ro,limit:=v_limit,t:={ inodes:=v_t_inodes,next:=v_t_next } },rfl,⟨len_ofs lv_name,⟨len_ofl lv_t_inodes,gv_t_inodes⟩⟩⟩
def Fs.shape:List Ty:=[.sl 6 Vol.shape,.int .i64]
theorem Fs.ofShp (ts:List TV) (h:Shp Fs.shape ts):∃ x:Fs,ts=x.row∧x.fine:=by
 obtain ⟨r0,u0,rfl,lv_vols,e0,h1⟩:=Shp.sl_inv h
 obtain ⟨v_vols,rfl,gv_vols⟩:=rows_ofShp Vol.ofShp e0
 obtain ⟨v_next,u1,rfl,h2⟩:=Shp.int_inv h1
 obtain rfl:=Shp.nil_inv h2
 exact ⟨{ vols:=v_vols,next:=v_next },rfl,⟨len_ofl lv_vols,gv_vols⟩⟩
def Op.shape:List Ty:=[.int .i64,.int .i64,.str,.str,.int .i64,.sl 1 [.int .u8]]
theorem Op.ofShp (ts:List TV) (h:Shp Op.shape ts):∃ x:Op,ts=x.row∧x.fine:=by
 obtain ⟨v_kind,u0,rfl,h1⟩:=Shp.int_inv h
 obtain ⟨v_vol,u1,rfl,h2⟩:=Shp.int_inv h1
 obtain ⟨v_path,u2,rfl,lv_path,h3⟩:=Shp.str_inv h2
 obtain ⟨v_to',u3,rfl,lv_to',h4⟩:=Shp.str_inv h3
 obtain ⟨v_off,u4,rfl,h5⟩:=Shp.int_inv h4
 obtain ⟨r5,u5,rfl,lv_data,e5,h6⟩:=Shp.sl_inv h5
 obtain ⟨v_data,rfl⟩:=bytes_ofShp e5
 obtain rfl:=Shp.nil_inv h6
 exact ⟨{ kind:=v_kind,vol:=v_vol,path:=v_path,to':=v_to',off:=v_off,data:=v_data },rfl,⟨len_ofs lv_path,len_ofs lv_to',len_ofb lv_data⟩⟩
end Go.Proofs.YtnhdalnfboiooaaGreatDoor.Awp
namespace Go.Proofs.YtnhdalnfboiooaaGreatDoor.Awp
open Go.Proofs Go.Proofs.YtnhdalnfboiooaaGreatDoor
set_option linter.unusedSimpArgs false
set_option linter.unusedVariables false
open Nat (reduceEqDiff reduceAdd reduceMul reduceSub)
open Int (reduceNeg reduceToNat reducePow)
set_option maxRecDepth 100000
theorem own:ownKnob Tryz.prog.godebug=none:=by kernel_rfl
def ioTail:List Char:=[Char.ofNat 97,Char.ofNat 116,Char.ofNat 32,Char.ofNat 108,Char.ofNat 111,Char.ofNat 111,Char.ofNat 112,Char.ofNat 46,Char.ofNat 101,Char.ofNat 120,Char.ofNat 97,Char.ofNat 109,Char.ofNat 112,Char.ofNat 108,Char.ofNat 101,Char.ofNat 47,Char.ofNat 103,Char.ofNat 48,Char.ofNat 48,Char.ofNat 50,Char.ofNat 56,Char.ofNat 53,Char.ofNat 47,Char.ofNat 108,Char.ofNat 97,Char.ofNat 119,Char.ofNat 115,Char.ofNat 46,Char.ofNat 70,Char.ofNat 110,Char.ofNat 69,Char.ofNat 120,Char.ofNat 97,Char.ofNat 99,Char.ofNat 116,Char.ofNat 85,Char.ofNat 110,Char.ofNat 108,Char.ofNat 105,Char.ofNat 110,Char.ofNat 107,Char.ofNat 32,Char.ofNat 108,Char.ofNat 111,Char.ofNat 111,Char.ofNat 112,Char.ofNat 46,Char.ofNat 101,Char.ofNat 120,Char.ofNat 97,Char.ofNat 109,Char.ofNat 112,Char.ofNat 108,Char.ofNat 101,Char.ofNat 47,Char.ofNat 103,Char.ofNat 48,Char.ofNat 48,Char.ofNat 50,Char.ofNat 56]++[Char.ofNat 53,Char.ofNat 47,Char.ofNat 108,Char.ofNat 97,Char.ofNat 119,Char.ofNat 115,Char.ofNat 46,Char.ofNat 70,Char.ofNat 110,Char.ofNat 69,Char.ofNat 120,Char.ofNat 97,Char.ofNat 99,Char.ofNat 116,Char.ofNat 82,Char.ofNat 101,Char.ofNat 110,Char.ofNat 97,Char.ofNat 109,Char.ofNat 101,Char.ofNat 32,Char.ofNat 108,Char.ofNat 111,Char.ofNat 111,Char.ofNat 112,Char.ofNat 46,Char.ofNat 101,Char.ofNat 120,Char.ofNat 97,Char.ofNat 109,Char.ofNat 112,Char.ofNat 108,Char.ofNat 101,Char.ofNat 47,Char.ofNat 103,Char.ofNat 48,Char.ofNat 48,Char.ofNat 50,Char.ofNat 56,Char.ofNat 53,Char.ofNat 47,Char.ofNat 108,Char.ofNat 97,Char.ofNat 119,Char.ofNat 115,Char.ofNat 46,Char.ofNat 70,Char.ofNat 110,Char.ofNat 69,Char.ofNat 120,Char.ofNat 97,Char.ofNat 99,Char.ofNat 116,Char.ofNat 65,Char.ofNat 112,Char.ofNat 112,Char.ofNat 108,Char.ofNat 121,Char.ofNat 32,Char.ofNat 108]++[Char.ofNat 111,Char.ofNat 111,Char.ofNat 112,Char.ofNat 46,Char.ofNat 101,Char.ofNat 120,Char.ofNat 97,Char.ofNat 109,Char.ofNat 112,Char.ofNat 108,Char.ofNat 101,Char.ofNat 47,Char.ofNat 103,Char.ofNat 48,Char.ofNat 48,Char.ofNat 50,Char.ofNat 56,Char.ofNat 53,Char.ofNat 47,Char.ofNat 108,Char.ofNat 97,Char.ofNat 119,Char.ofNat 115,Char.ofNat 46,Char.ofNat 70,Char.ofNat 110,Char.ofNat 73,Char.ofNat 100,Char.ofNat 115,Char.ofNat 82,Char.ofNat 105,Char.ofNat 115,Char.ofNat 101,Char.ofNat 32,Char.ofNat 108,Char.ofNat 111,Char.ofNat 111,Char.ofNat 112,Char.ofNat 46,Char.ofNat 101,Char.ofNat 120,Char.ofNat 97,Char.ofNat 109,Char.ofNat 112,Char.ofNat 108,Char.ofNat 101,Char.ofNat 47,Char.ofNat 103,Char.ofNat 48,Char.ofNat 48,Char.ofNat 50,Char.ofNat 56,Char.ofNat 53,Char.ofNat 47,Char.ofNat 108,Char.ofNat 97,Char.ofNat 119,Char.ofNat 115,Char.ofNat 46,Char.ofNat 70]++[Char.ofNat 110,Char.ofNat 81,Char.ofNat 117,Char.ofNat 111,Char.ofNat 116,Char.ofNat 97,Char.ofNat 69,Char.ofNat 100,Char.ofNat 103,Char.ofNat 101,Char.ofNat 32,Char.ofNat 108,Char.ofNat 111,Char.ofNat 111,Char.ofNat 112,Char.ofNat 46,Char.ofNat 101,Char.ofNat 120,Char.ofNat 97,Char.ofNat 109,Char.ofNat 112,Char.ofNat 108,Char.ofNat 101,Char.ofNat 47,Char.ofNat 103,Char.ofNat 48,Char.ofNat 48,Char.ofNat 50,Char.ofNat 56,Char.ofNat 53,Char.ofNat 47,Char.ofNat 108,Char.ofNat 97,Char.ofNat 119,Char.ofNat 115,Char.ofNat 46,Char.ofNat 70,Char.ofNat 110,Char.ofNat 65,Char.ofNat 112,Char.ofNat 97,Char.ofNat 114,Char.ofNat 116,Char.ofNat 32,Char.ofNat 108,Char.ofNat 111,Char.ofNat 111,Char.ofNat 112,Char.ofNat 46,Char.ofNat 101,Char.ofNat 120,Char.ofNat 97,Char.ofNat 109,Char.ofNat 112,Char.ofNat 108,Char.ofNat 101,Char.ofNat 47,Char.ofNat 103,Char.ofNat 48,Char.ofNat 48]++[Char.ofNat 50,Char.ofNat 56,Char.ofNat 53,Char.ofNat 47,Char.ofNat 108,Char.ofNat 97,Char.ofNat 119,Char.ofNat 115,Char.ofNat 46,Char.ofNat 70,Char.ofNat 110,Char.ofNat 82,Char.ofNat 111,Char.ofNat 111,Char.ofNat 116,Char.ofNat 83,Char.ofNat 116,Char.ofNat 97,Char.ofNat 121,Char.ofNat 115,Char.ofNat 32,Char.ofNat 108,Char.ofNat 111,Char.ofNat 111,Char.ofNat 112,Char.ofNat 46,Char.ofNat 101,Char.ofNat 120,Char.ofNat 97,Char.ofNat 109,Char.ofNat 112,Char.ofNat 108,Char.ofNat 101,Char.ofNat 47,Char.ofNat 103,Char.ofNat 48,Char.ofNat 48,Char.ofNat 50,Char.ofNat 56,Char.ofNat 53,Char.ofNat 47,Char.ofNat 108,Char.ofNat 97,Char.ofNat 119,Char.ofNat 115,Char.ofNat 46,Char.ofNat 70,Char.ofNat 110,Char.ofNat 82,Char.ofNat 101,Char.ofNat 109,Char.ofNat 111,Char.ofNat 118,Char.ofNat 101,Char.ofNat 100,Char.ofNat 32,Char.ofNat 108,Char.ofNat 111,Char.ofNat 111,Char.ofNat 112]++[Char.ofNat 46,Char.ofNat 101,Char.ofNat 120,Char.ofNat 97,Char.ofNat 109,Char.ofNat 112,Char.ofNat 108,Char.ofNat 101,Char.ofNat 47,Char.ofNat 103,Char.ofNat 48,Char.ofNat 48,Char.ofNat 50,Char.ofNat 56,Char.ofNat 53,Char.ofNat 47,Char.ofNat 108,Char.ofNat 97,Char.ofNat 119,Char.ofNat 115,Char.ofNat 46,Char.ofNat 70,Char.ofNat 110,Char.ofNat 77,Char.ofNat 111,Char.ofNat 118,Char.ofNat 101,Char.ofNat 100,Char.ofNat 32,Char.ofNat 108,Char.ofNat 111,Char.ofNat 111,Char.ofNat 112,Char.ofNat 46,Char.ofNat 101,Char.ofNat 120,Char.ofNat 97,Char.ofNat 109,Char.ofNat 112,Char.ofNat 108,Char.ofNat 101,Char.ofNat 47,Char.ofNat 103,Char.ofNat 48,Char.ofNat 48,Char.ofNat 50,Char.ofNat 56,Char.ofNat 53,Char.ofNat 47,Char.ofNat 108,Char.ofNat 97,Char.ofNat 119,Char.ofNat 115,Char.ofNat 46,Char.ofNat 70,Char.ofNat 110,Char.ofNat 84,Char.ofNat 114,Char.ofNat 101,Char.ofNat 101]++[Char.ofNat 115,Char.ofNat 66,Char.ofNat 101,Char.ofNat 110,Char.ofNat 116,Char.ofNat 32,Char.ofNat 108,Char.ofNat 111,Char.ofNat 111,Char.ofNat 112,Char.ofNat 46,Char.ofNat 101,Char.ofNat 120,Char.ofNat 97,Char.ofNat 109,Char.ofNat 112,Char.ofNat 108,Char.ofNat 101,Char.ofNat 47,Char.ofNat 103,Char.ofNat 48,Char.ofNat 48,Char.ofNat 50,Char.ofNat 56,Char.ofNat 53,Char.ofNat 47,Char.ofNat 108,Char.ofNat 97,Char.ofNat 119,Char.ofNat 115,Char.ofNat 46,Char.ofNat 70,Char.ofNat 110,Char.ofNat 85,Char.ofNat 110,Char.ofNat 108,Char.ofNat 105,Char.ofNat 110,Char.ofNat 107,Char.ofNat 101,Char.ofNat 100,Char.ofNat 32,Char.ofNat 108,Char.ofNat 111,Char.ofNat 111,Char.ofNat 112,Char.ofNat 46,Char.ofNat 101,Char.ofNat 120,Char.ofNat 97,Char.ofNat 109,Char.ofNat 112,Char.ofNat 108,Char.ofNat 101,Char.ofNat 47,Char.ofNat 103,Char.ofNat 48,Char.ofNat 48,Char.ofNat 50,Char.ofNat 56]++[Char.ofNat 53,Char.ofNat 47,Char.ofNat 108,Char.ofNat 97,Char.ofNat 119,Char.ofNat 115,Char.ofNat 46,Char.ofNat 70,Char.ofNat 110,Char.ofNat 68,Char.ofNat 105,Char.ofNat 114,Char.ofNat 115,Char.ofNat 32,Char.ofNat 108,Char.ofNat 111,Char.ofNat 111,Char.ofNat 112,Char.ofNat 46,Char.ofNat 101,Char.ofNat 120,Char.ofNat 97,Char.ofNat 109,Char.ofNat 112,Char.ofNat 108,Char.ofNat 101,Char.ofNat 47,Char.ofNat 103,Char.ofNat 48,Char.ofNat 48,Char.ofNat 50,Char.ofNat 56,Char.ofNat 53,Char.ofNat 47,Char.ofNat 108,Char.ofNat 97,Char.ofNat 119,Char.ofNat 115,Char.ofNat 46,Char.ofNat 70,Char.ofNat 110,Char.ofNat 76,Char.ofNat 105,Char.ofNat 110,Char.ofNat 107,Char.ofNat 101,Char.ofNat 100,Char.ofNat 32,Char.ofNat 108,Char.ofNat 111,Char.ofNat 111,Char.ofNat 112,Char.ofNat 46,Char.ofNat 101,Char.ofNat 120,Char.ofNat 97,Char.ofNat 109,Char.ofNat 112,Char.ofNat 108,Char.ofNat 101]++[Char.ofNat 47,Char.ofNat 103,Char.ofNat 48,Char.ofNat 48,Char.ofNat 50,Char.ofNat 56,Char.ofNat 53,Char.ofNat 47,Char.ofNat 108,Char.ofNat 97,Char.ofNat 119,Char.ofNat 115,Char.ofNat 46,Char.ofNat 70,Char.ofNat 110,Char.ofNat 77,Char.ofNat 97,Char.ofNat 100,Char.ofNat 101,Char.ofNat 32,Char.ofNat 108,Char.ofNat 111,Char.ofNat 111,Char.ofNat 112,Char.ofNat 46,Char.ofNat 101,Char.ofNat 120,Char.ofNat 97,Char.ofNat 109,Char.ofNat 112,Char.ofNat 108,Char.ofNat 101,Char.ofNat 47,Char.ofNat 103,Char.ofNat 48,Char.ofNat 48,Char.ofNat 50,Char.ofNat 56,Char.ofNat 53,Char.ofNat 47,Char.ofNat 108,Char.ofNat 97,Char.ofNat 119,Char.ofNat 115,Char.ofNat 46,Char.ofNat 70,Char.ofNat 110,Char.ofNat 72,Char.ofNat 101,Char.ofNat 108,Char.ofNat 100,Char.ofNat 70,Char.ofNat 97,Char.ofNat 115,Char.ofNat 116,Char.ofNat 32,Char.ofNat 108,Char.ofNat 111,Char.ofNat 111,Char.ofNat 112]++[Char.ofNat 46,Char.ofNat 101,Char.ofNat 120,Char.ofNat 97,Char.ofNat 109,Char.ofNat 112,Char.ofNat 108,Char.ofNat 101,Char.ofNat 47,Char.ofNat 103,Char.ofNat 48,Char.ofNat 48,Char.ofNat 50,Char.ofNat 56,Char.ofNat 53,Char.ofNat 47,Char.ofNat 108,Char.ofNat 97,Char.ofNat 119,Char.ofNat 115,Char.ofNat 46,Char.ofNat 70,Char.ofNat 110,Char.ofNat 81,Char.ofNat 117,Char.ofNat 111,Char.ofNat 116,Char.ofNat 97]
def ioSum:List Char:=[Char.ofNat 56,Char.ofNat 50,Char.ofNat 97,Char.ofNat 99,Char.ofNat 56,Char.ofNat 100,Char.ofNat 102,Char.ofNat 97,Char.ofNat 54,Char.ofNat 50,Char.ofNat 56,Char.ofNat 97,Char.ofNat 98,Char.ofNat 54,Char.ofNat 57,Char.ofNat 49,Char.ofNat 51,Char.ofNat 98,Char.ofNat 98,Char.ofNat 49,Char.ofNat 98,Char.ofNat 97,Char.ofNat 102,Char.ofNat 50,Char.ofNat 56,Char.ofNat 99,Char.ofNat 100,Char.ofNat 99,Char.ofNat 102,Char.ofNat 102,Char.ofNat 52,Char.ofNat 56,Char.ofNat 53,Char.ofNat 54,Char.ofNat 101,Char.ofNat 56,Char.ofNat 98,Char.ofNat 98,Char.ofNat 97,Char.ofNat 101,Char.ofNat 49,Char.ofNat 50,Char.ofNat 56,Char.ofNat 100,Char.ofNat 99,Char.ofNat 48,Char.ofNat 48,Char.ofNat 48,Char.ofNat 97,Char.ofNat 49,Char.ofNat 97,Char.ofNat 49,Char.ofNat 56,Char.ofNat 52,Char.ofNat 53,Char.ofNat 55,Char.ofNat 55,Char.ofNat 50,Char.ofNat 57,Char.ofNat 56,Char.ofNat 52,Char.ofNat 53,Char.ofNat 56,Char.ofNat 98]
theorem ioText:Tryz.prog.initOrder=String.ofList ([Char.ofNat 104,Char.ofNat 97,Char.ofNat 114,Char.ofNat 110,Char.ofNat 101,Char.ofNat 115,Char.ofNat 115]++(Char.ofNat 32::ioSum)++[Char.ofNat 32,Char.ofNat 99,Char.ofNat 117,Char.ofNat 116,Char.ofNat 32]++ioTail):=by kernel_rfl
theorem ioWords:∃ r,behindMainWord (wordsSigns Tryz.prog.initOrder.toList)=[Char.ofNat 99,Char.ofNat 117,Char.ofNat 116]::r:=by
 rw [ioText,String.toList_ofList]
 exact ⟨wordsSigns ioTail,by kernel_rfl⟩
theorem main_of {P:Program} {l:List Char} (h:P.initOrder=String.ofList l):P.mainIs=(match wordsSigns l with
 | h::s::_=>if !isSumSigns s then none else if h == "harness".toList then some (true,s) else if h == "ownmain".toList then some (false,s) else none
 | _=>none):=by
 unfold Program.mainIs
 rw [h,String.toList_ofList]
 rfl
theorem f_main:Tryz.prog.mainIs=some (((true, "82ac8dfa628ab6913bb1baf28cdcff4856e8bbae128dc000a1a184577298458b"):Bool × String).1,((true, "82ac8dfa628ab6913bb1baf28cdcff4856e8bbae128dc000a1a184577298458b"):Bool × String).2.toList):=(main_of ioText).trans (by kernel_rfl)
theorem f_looks:false=Tryz.prog.looks []:=by kernel_rfl
theorem f_laid:(laidOutB Tryz.prog)=true:=by kernel_rfl
theorem f_maps:(mapsRowed Tryz.prog)=true:=by kernel_rfl
theorem f_stops:((Tryz.prog.stops == []))=true:=by kernel_rfl
theorem f_knobs:((Tryz.prog.stopKnobs == []))=true:=by kernel_rfl
theorem f_heard:(Tryz.prog.stopsHeard)=true:=by kernel_rfl
theorem f_enter:(Tryz.prog.mayEnter)=true:=by
 obtain ⟨r,hr⟩:=ioWords
 exact enter_of hr (by kernel_rfl) (by kernel_rfl) (by kernel_rfl)
theorem f_lifts:(false == Tryz.prog.liftsFinal)=true:=by
 obtain ⟨r,hr⟩:=ioWords
 rw [lifts_of hr]
 rfl
theorem f_make:(Tryz.prog.make == some .cut)=true:=by
 obtain ⟨r,hr⟩:=ioWords
 rw [make_of hr]
 rfl
end Go.Proofs.YtnhdalnfboiooaaGreatDoor.Awp
namespace Go.Proofs.YtnhdalnfboiooaaGreatDoor.Awp
open Go.Proofs Go.Proofs.YtnhdalnfboiooaaGreatDoor
set_option linter.unusedSimpArgs false
set_option linter.unusedVariables false
open Nat (reduceEqDiff reduceAdd reduceMul reduceSub)
open Int (reduceNeg reduceToNat reducePow)
set_option maxRecDepth 100000
theorem j0_FnExactUnlink:(Rows.fnExactUnlinkRow.wf (OpenSpec.ofChange Rows.fnExactUnlinkSpec))=true:=by kernel_rfl
theorem j3_FnExactUnlink:(Tryz.f3.params.all (Tryz.prog.readableRec ·))=true:=by kernel_rfl
theorem j4_FnExactUnlink:(namedTie Tryz.prog Rows.fnExactUnlinkRow.named Rows.fnExactUnlinkSpec.vars)=true:=by kernel_rfl
theorem j5_FnExactUnlink:((Rows.fnExactUnlinkRow.stops == []))=true:=by kernel_rfl
theorem j7_FnExactUnlink:((Rows.fnExactUnlinkRow.knobs == []))=true:=by kernel_rfl
theorem j9_FnExactUnlink:((Rows.fnExactUnlinkRow.inPlace == Tryz.prog.inPlace 3))=true:=by kernel_rfl
theorem j10_FnExactUnlink:((Rows.fnExactUnlinkRow.unfollowed == Tryz.prog.unfollowed 3))=true:=by kernel_rfl
theorem j11_FnExactUnlink:((Rows.fnExactUnlinkRow.recurses == Tryz.prog.recurses 3))=true:=by kernel_rfl
theorem j12_FnExactUnlink:((Rows.fnExactUnlinkRow.named == Tryz.prog.varsNamed 3))=true:=by kernel_rfl
theorem j13_FnExactUnlink:((Rows.fnExactUnlinkRow.maps == (Tryz.f3.params.toList++Rows.fnExactUnlinkSpec.plain.varTypes Tryz.prog).any (Tryz.prog.mapsRec ·)))=true:=by kernel_rfl
theorem j14_FnExactUnlink:((Rows.fnExactUnlinkRow.ifaces == (Tryz.f3.params.toList++Rows.fnExactUnlinkSpec.plain.varTypes Tryz.prog).any (Tryz.prog.ifacesRec ·)))=true:=by kernel_rfl
theorem j15_FnExactUnlink:((Rows.fnExactUnlinkRow.mapsOut == Tryz.prog.mapsAmong Tryz.f3.resultTypes.toList))=true:=by kernel_rfl
theorem j16_FnExactUnlink:((Rows.fnExactUnlinkRow.loops == (Tryz.f3.params.toList++Rows.fnExactUnlinkSpec.plain.varTypes Tryz.prog).any (Tryz.prog.loopsFrom ·)))=true:=by kernel_rfl
theorem j17_FnExactUnlink:((Rows.fnExactUnlinkRow.wideKeys == (Tryz.f3.params.toList++Rows.fnExactUnlinkSpec.plain.varTypes Tryz.prog++Tryz.f3.resultTypes.toList).any (Tryz.prog.wideKeysFrom ·)))=true:=by kernel_rfl
theorem j18_FnExactUnlink:(Rows.fnExactUnlinkSpec.vars.all (Tryz.prog.varReadable ·))=true:=by kernel_rfl
theorem j19_FnExactUnlink:(Tryz.f3.resultTypes.all (fun t=>Tryz.prog.readableRec t && decide (t<Tryz.prog.types.size)))=true:=by kernel_rfl
theorem j20_FnExactUnlink:((Rows.fnExactUnlinkRow.ifacesOut == Tryz.f3.resultTypes.toList.any (Tryz.prog.ifacesRec ·)))=true:=by kernel_rfl
theorem j21_FnExactUnlink:((Rows.fnExactUnlinkRow.loopsOut == Tryz.f3.resultTypes.toList.any (Tryz.prog.loopsFrom ·)))=true:=by kernel_rfl
theorem j22_FnExactUnlink:((Rows.fnExactUnlinkRow.plainKeys == Tryz.prog.plainKeys))=true:=by kernel_rfl
theorem j23_FnExactUnlink:(Rows.fnExactUnlinkRow.shortTexts.isNone)=true:=by kernel_rfl
theorem j28_FnExactUnlink:((Rows.fnExactUnlinkRow.kinds == (if Rows.fnExactUnlinkRow.domain.isEmpty then [] else Tryz.f3.params.toList.map fun t=>match Tryz.prog.underlying t with | some (.int k)=>some k | _=>none)))=true:=by kernel_rfl
theorem j29_FnExactUnlink:((Rows.fnExactUnlinkRow.pinned == Rows.fnExactUnlinkRow.pinnedBy))=true:=by kernel_rfl
theorem j30_FnExactUnlink:((Rows.fnExactUnlinkRow.veiled == (Tryz.f3.params.toList++Rows.fnExactUnlinkSpec.plain.varTypes Tryz.prog++Tryz.f3.resultTypes.toList).any (Tryz.prog.veiledRec ·)))=true:=by kernel_rfl
theorem j31_FnExactUnlink:(Rows.fnExactUnlinkRow.veiledFits Tryz.prog Tryz.f3.params.toList (Tryz.f3.params.toList++Rows.fnExactUnlinkSpec.plain.varTypes Tryz.prog++Tryz.f3.resultTypes.toList))=true:=by kernel_rfl
theorem jf_FnExactUnlink:joinedFacts Tryz.prog 3 Tryz.f3 Rows.fnExactUnlinkSpec Rows.fnExactUnlinkRow=true:=
 joined_of j0_FnExactUnlink f_laid f_maps j3_FnExactUnlink j4_FnExactUnlink j5_FnExactUnlink f_stops j7_FnExactUnlink f_knobs j9_FnExactUnlink j10_FnExactUnlink j11_FnExactUnlink j12_FnExactUnlink j13_FnExactUnlink j14_FnExactUnlink j15_FnExactUnlink j16_FnExactUnlink j17_FnExactUnlink j18_FnExactUnlink j19_FnExactUnlink j20_FnExactUnlink j21_FnExactUnlink j22_FnExactUnlink j23_FnExactUnlink f_heard f_enter f_lifts f_make j28_FnExactUnlink j29_FnExactUnlink j30_FnExactUnlink j31_FnExactUnlink
theorem lift_FnExactUnlink (os:Os) (started:os.Started) (H:Type) (enc:TypeId × Value→H) :
  ReturnsInHanded {} Tryz.checked os 3 .any (fun w args=>(Rows.fnExactUnlinkSpec.pre enc Tryz.prog Tryz.f3 [] false w args∧laidMetH Tryz.prog Rows.fnExactUnlinkRow.laid w)∧sizedMet enc Tryz.prog Tryz.f3 (OpenSpec.ofChange Rows.fnExactUnlinkSpec) false w args) (Rows.fnExactUnlinkSpec.post enc Tryz.prog Tryz.f3 false true false false):=by
 refine law_laid (X:=fun w _=>laidMetH Tryz.prog Rows.fnExactUnlinkRow.laid w) (fun _ _ _ hh h=>h.of_heap hh) (C:=Tryz.checked) (pars:=[(true,Tab.shape),(false,[.str])]) own started (by kernel_rfl) Tryz.func3
  (ChangeSpec.witness_shaped (enc:=enc) (C:=Tryz.checked) (os:=os) (X:=fun w _=>laidMetH Tryz.prog Rows.fnExactUnlinkRow.laid w) false (World.laidAll Tryz.prog os Rows.fnExactUnlinkRow.laid) #[.agg #[.slice none 0 0,.int .i64 0],.string ⟨#[]⟩] 8 (World.laidAll_os _ _ _) (World.shaped_of_RefB (by kernel_rfl) (by kernel_rfl)) (by kernel_rfl) (by kernel_rfl) (by kernel_rfl) (laid_all _ (by kernel_rfl) (by kernel_rfl) (by kernel_rfl)))
  rfl (by kernel_rfl) rfl (by kernel_rfl) ?_ ?_
 ·intro ds hd
  match ds,hd with
  | [d0,d1],_=>rfl
 ·intro tss h
  match tss,h with
  | [t0,t1],⟨h0,h1,_⟩=>
   obtain ⟨x0,rfl,hf0⟩:=Tab.ofShp t0 h0
   obtain ⟨x1,u1,rfl,l1,e1⟩:=Shp.str_inv h1
   obtain rfl:=Shp.nil_inv e1
   exact ⟨_,s_FnExactUnlink x0 x1 hf0 (len_ofs l1)⟩
theorem hw_FnExactUnlink:Tryz.f3.isWrapper Tryz.prog Rows.fnExactUnlinkRow.wrapper Rows.fnExactUnlinkRow.mainSum:=by
 unfold Func.isWrapper; first | (rw [if_pos (by decide +kernel)]; kernel_rfl) | (rw [if_neg (by decide +kernel)]; exact ⟨rfl,rfl⟩)
theorem law_FnExactUnlink:Rows.FnExactUnlinkSaid:=
 OpenClaim.holds_of_wide 3 Tryz.f3 rfl rfl rfl rfl rfl rfl rfl ⟨rfl,rfl,rfl,rfl,rfl⟩ rfl rfl rfl rfl rfl (by kernel_rfl) Tryz.func3 jf_FnExactUnlink
  (of_decide_eq_true (by kernel_rfl)) hw_FnExactUnlink
  (fun os started H enc _=>lift_FnExactUnlink os started H enc)
theorem k1_FnExactUnlink:Rows.fnExactUnlinkRow.wfByText (OpenSpec.ofChange Rows.fnExactUnlinkSpec)=true:=by kernel_rfl
theorem k2_FnExactUnlink:Tryz.prog.funcNamed "loop.example/g00285/laws.FnExactUnlink"=some 3:=by kernel_rfl
theorem k3_FnExactUnlink:(Tryz.f3.params.toList.all fun u=>!Tryz.prog.wantsStandIn u)=true:=by kernel_rfl
theorem k4_FnExactUnlink:false=Rows.fnExactUnlinkRow.goesBy Tryz.prog:=by kernel_rfl
theorem card_FnExactUnlink:Rows.FnExactUnlinkCardSaid:=
 Claim7.holds_tied_plain_at .later [] [.data,.pinned] true (true, "82ac8dfa628ab6913bb1baf28cdcff4856e8bbae128dc000a1a184577298458b") false
  law_FnExactUnlink (fun _ h=>by cases h) k1_FnExactUnlink (fun _ h=>by cases h) fnExactUnlink_row_tie rfl ⟨rfl,rfl⟩ f_main rfl
  (fun f fn hf hfn=>by
   obtain rfl:f=3:=Option.some.inj (k2_FnExactUnlink.symm.trans hf) |>.symm
   obtain rfl:fn=Tryz.f3:=(Option.some.inj (Tryz.func3.symm.trans hfn)).symm
   exact ⟨f_looks,fun j t ht=>by
    have:=List.all_eq_true.1 k3_FnExactUnlink t (by simpa using Array.mem_of_getElem? ht)
    exact show Tryz.prog.wantsStandIn t=false by simpa using this⟩)
  k4_FnExactUnlink
end Go.Proofs.YtnhdalnfboiooaaGreatDoor.Awp

namespace Go.Proofs.YtnhdalnfboiooaaGreatDoor
/-- the given statement -/
theorem provedFnExactUnlink : Rows.FnExactUnlinkCardSaid := Awp.card_FnExactUnlink
end Go.Proofs.YtnhdalnfboiooaaGreatDoor
#print axioms Go.Proofs.YtnhdalnfboiooaaGreatDoor.provedFnExactUnlink
