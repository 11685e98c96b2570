/- Contracts of functions that the laws on trees reach are proved here (part 2). Condition: none. -/
import Derived.Test.YtnfeefcnblondaaGreatDoorBase1
import Derived.Test.YtnfeefcnblondaaGreatDoorAwp3
import Derived.Test.YtnfeefcnblondaaGreatDoorRows
import Derived.Test.YtnfeefcnblondaaGreatDoorCards
import Derived.Test.YtnfeefcnblondaaGreatDoorTie
import Derived.Sort.Walk0
import Derived.Shelf.Lays
import Derived.Shelf.Sort.Plain
import Derived.Shelf.Slices.In.SortNone
import Derived.Shelf.Spec.SlicesInsert
import Derived.Shelf.Spec.SlicesInsertGrow
import Derived.Deep.MidRow
import Derived.ArgAppend
import Derived.Shelf.Strings.Search3
import Derived.Shelf.Strings.Count
import Derived.Shelf.Strings.OnBuilder
import Derived.Shelf.RegionOpenPlain
import Derived.WalkKit
import Derived.Deep.LoopGhost
import Derived.Deep.RegionLaw
import Derived.Lib.Walk
import Derived.Sort.WalkB12
import Derived.OpenShut
import Derived.SevenTiedAt
import Derived.KernelRfl
set_option linter.unusedVariables false
set_option linter.unusedSimpArgs false
set_option maxRecDepth 100000
set_option maxHeartbeats 20000000
open Nat (reduceEqDiff reduceAdd reduceMul reduceSub)
open Int (reduceNeg reduceToNat reducePow)
namespace Go.Proofs.YtnfeefcnblondaaGreatDoor.Awp
section
open Go.Proofs Go.Shelf Go.RowKit Go.Lib
theorem bU {P:Program} (s:Nat) (w:World) (dT sT ty e:TypeId) (b o dLen dCap:Nat) (a:Addr) (sLen sCap:Nat) (cs:List Value) (hu:P.underlying dT=some (.slice e)) (hs:(P.info? e).map (·.size)=some s)
  (hl:cs.length=(sLen.min dLen)*s) (hc:∀ (j:Nat) (v:Value),cs[j]?=some v→w.cell? (a.add j)=some v) (hd:∀ j,j<cs.length→(w.cell? ⟨b,o+j,none⟩).isSome=true) (hf:∀ j,j<cs.length→w.frozen? ⟨b,o+j,none⟩=false)
  (h1:∀ v ∈ cs,v.oneCell'=true) :
  (Builtin.copy_ #[dT,sT] ty #[.slice (some ⟨b,o,none⟩) dLen dCap,.slice (some a) sLen sCap]).run P w=.ok (goInt (sLen.min dLen:Nat)) (w.setCells b o cs):=by
 have hst:=run_storeCells_cells (P:=P) b o cs 0 w (by simpa using hd) (by simpa using hf) h1
 simp only [lF3] at hst
 have hfc:(Builtin.firstCells s (Nat.min sLen dLen) (.slice (some a) sLen sCap)).run P w=.ok cs.toArray w:=run_firstCells_some w s (sLen.min dLen) a sLen sCap cs hl hc
 have hrun:=xY (P:=P) (w:=w) (ts:=#[dT,sT]) (ty:=ty) (t:=dT) rfl hu (show mV P e=some s from hs) (some ⟨b,o,none⟩) (some a) dLen dCap sLen sCap cs hfc (w':=w.setCells b o cs) (fun ad had=>by cases had; exact hst) (fun h=>by cases h)
 exact hrun
abbrev dF (w:World) (b off:Nat) (cs:List Value):Prop:=∀ (j:Nat) (v:Value),cs[j]?=some v→w.cell? ⟨b,off+j,none⟩=some v
abbrev xE (cs:List Value):Prop:=∀ v ∈ cs,v.oneCell'=true
theorem w6 {α:Type} (L:List α) (m:Nat) (l:List α) (h:m+l.length≤L.length) (k:Nat):(lay L m l)[k]?=if m≤k∧k<m+l.length then l[k-m]? else L[k]?:=by
 unfold lay
 rw [lU2]
 by_cases h1:k<m
 ·rw [lM2 (by rw [lL]; omega),lI1,lE h1,lH (by omega)]
 ·rw [lL2 (by rw [lL]; omega),lL,lE1 (by omega)]
  by_cases h2:k<m+l.length
  ·rw [lM2 (by omega),lE ⟨by omega,h2⟩]
  ·rw [lL2 (by omega),lJ1,lH (by omega)]; congr 1; omega
theorem agD {cs vs:List Value} {a s:Nat} (hv:vs.length=s) (ha:a≤cs.length) (k:Nat):(cs.take a++(vs++cs.drop a))[k]?=if k<a then cs[k]? else if k<a+s then vs[k-a]? else cs[k-s]?:=by
 by_cases h1:k<a
 ·rw [lM2 (by rw [lL]; omega),lI1,lE h1,lE h1]
 ·rw [lL2 (by rw [lL]; omega),lL,lE1 ha,lH h1]
  by_cases h2:k<a+s
  ·rw [lM2 (by omega),lE h2]
  ·rw [lL2 (by omega),lJ1,lH h2]; congr 1; omega
structure InsAt (w w':World) (s n:Nat) (T:List Value) (B O cap:Nat):Prop where
 cell:∃ C ty fr,w'.heap[B]?=some (.cells C ty fr)∧thawS s C.size fr∧O+cap*s≤C.size∧∀ k,k<T.length→C[O+k]?=T[k]?
 room:n+1≤cap
 same:∀ b,b<w.heap.size→b≠B→w'.heap[b]?=w.heap[b]?
 grows:Grows w w'
theorem aaj {w w0 w':World} {b off cap n i s:Nat} {C:Array Value} {ty:TypeId} {fr:Nat × Nat} {cs vs:List Value} (h0:w0.heap=w.heap) (h0k:Quiet w w0) (hb:w.heap[b]?=some (.cells C ty fr)) (hfr:thawS s C.size fr)
  (hcap:off+cap*s≤C.size) (hroom:n+1≤cap) (hi:i≤n) (hcs:cs.length=n*s) (hvs:vs.length=s) (hc:∀ k,k<cs.length→C[off+k]?=cs[k]?)
  (hw:w'=(w0.setCells b (off+(i+1)*s) (cs.drop (i*s))).setCells b (off+i*s) vs):InsAt w w' s n (cs.take (i*s)++(vs++cs.drop (i*s))) b off cap:=by
 obtain ⟨m,rfl⟩:∃ m,n=i+m:=⟨n-i,by omega⟩
 have hmul:(i+m+1)*s≤cap*s:=lA1 s hroom
 have hL:(i+m)*s=i*s+m*s:=lF2 _ _ _
 have hL1:(i+m+1)*s=i*s+m*s+s:=by rw [lF2,lI4,hL]
 have hJ:(i+1)*s=i*s+s:=by rw [lF2,lI4]
 have hnl:(cs.drop (i*s)).length=m*s:=by rw [lN1,hcs,hL]; omega
 rw [← h0] at hb
 obtain ⟨C1,hC1,hw1,ho1,hk1⟩:=cW b (cs.drop (i*s)) (off+(i+1)*s) w0 C ty fr hb (by rw [hnl,hJ]; omega)
 have hl1:off+(i+1)*s+(cs.drop (i*s)).length≤C.toList.length:=by rw [hnl,hJ,lC1]; omega
 have hs1:C1.size=C.size:=by
  have:C1.toList.length=C.toList.length:=by rw [hC1,eO _ _ _ hl1]
  simpa using this
 obtain ⟨C2,hC2,hw2,ho2,hk2⟩:=cW b vs (off+i*s) _ C1 ty fr hw1 (by rw [hs1,hvs]; omega)
 have hl2:off+i*s+vs.length≤C1.toList.length:=by rw [hvs,lC1,hs1]; omega
 have hs2:C2.size=C.size:=by
  have:C2.toList.length=C1.toList.length:=by rw [hC2,eO _ _ _ hl2]
  rw [← hs1]; simpa using this
 rw [← hw] at hw2 ho2 hk2
 refine ⟨⟨C2,ty,fr,hw2,by rw [hs2]; exact hfr,by rw [hs2]; exact hcap,fun k hk=>?_⟩,hroom,fun x _ hx=>?_,?_⟩
 ·rw [agD hvs (by rw [hcs,hL]; omega),← lV1,hC2,w6 _ _ _ hl2,hC1,w6 _ _ _ hl1,hvs,hnl]
  have hk':k<i*s+m*s+s:=by
   simp only [lK1,lL,hvs,hnl,hcs,hL] at hk; omega
  by_cases c1:k<i*s
  ·rw [lE c1,lH (by omega),lH (by omega),lV1,hc k (by rw [hcs,hL]; omega)]
  ·rw [lH c1]
   by_cases c2:k<i*s+s
   ·rw [lE c2,lE (by omega)]; congr 1; omega
   ·rw [lH c2,lH (by omega),lE (by omega),lJ1]; congr 1; omega
 ·rw [ho2 x hx,ho1 x hx,h0]
 ·refine ⟨by rw [hk2.size,hk1.size,h0]; exact lL1 _,⟨?_,?_⟩⟩
  ·exact hk2.quiet.os.trans (hk1.quiet.os.trans h0k.os)
  ·exact hk2.quiet.out.trans (hk1.quiet.out.trans h0k.out)
theorem qR {w w':World} {n s cap:Nat} {ty:TypeId} {cs vs:List Value} {Z:Array Value} (hcs:cs.length=n*s) (hvs:vs.length=s) (hroom:n+1≤cap) (hZ:(n+1)*s+Z.size=cap*s)
  (hw:w'=w.drew.alloc (.cells ((cs++vs).toArray++Z) ty)):InsAt w w' s n (cs.take (n*s)++(vs++cs.drop (n*s))) w.heap.size 0 cap:=by
 subst hw
 have e:cs.take (n*s)++(vs++cs.drop (n*s))=cs++vs:=by rw [← hcs,lD3,List.drop_length,lP2]
 rw [e]
 have hL1:(n+1)*s=n*s+s:=by rw [lF2,lI4]
 have hp:(w.drew.alloc (.cells ((cs++vs).toArray++Z) ty)).heap=w.heap.push (.cells ((cs++vs).toArray++Z) ty):=rfl
 refine ⟨⟨(cs++vs).toArray++Z,ty,(0,0),by rw [hp]; simp,⟨by intro o _ h; omega,lL1 _⟩,?_,fun k hk=>?_⟩,hroom,fun b hb _=>?_,?_⟩
 ·rw [lN3,lL4,lK1,hcs,hvs]; omega
 ·rw [lB2,lV2 (by simpa using hk)]; simp
 ·exact fZ hp hb
 ·refine ⟨by rw [hp,Array.size_push]; omega,⟨rfl,rfl⟩⟩
theorem aiB {w w':World} {n i s cap:Nat} {ty:TypeId} {cs vs:List Value} {Z:Array Value} (hi:i≤n) (hcs:cs.length=n*s) (hvs:vs.length=s) (hroom:n+1≤cap) (hZ:i*s+Z.size=cap*s)
  (hw:w'=(((w.alloc (.cells ((cs.take (i*s)).toArray++Z) ty)).drew.setCells w.heap.size (i*s) vs).drew).setCells w.heap.size ((i+1)*s) (cs.drop (i*s))) :
  InsAt w w' s n (cs.take (i*s)++(vs++cs.drop (i*s))) w.heap.size 0 cap:=by
 obtain ⟨m,rfl⟩:∃ m,n=i+m:=⟨n-i,by omega⟩
 have hmul:(i+m+1)*s≤cap*s:=lA1 s hroom
 have hL:(i+m)*s=i*s+m*s:=lF2 _ _ _
 have hL1:(i+m+1)*s=i*s+m*s+s:=by rw [lF2,lI4,hL]
 have hJ:(i+1)*s=i*s+s:=by rw [lF2,lI4]
 have hnl:(cs.drop (i*s)).length=m*s:=by rw [lN1,hcs,hL]; omega
 obtain ⟨C,hC⟩:∃ C,C=(cs.take (i*s)).toArray++Z:=⟨_,rfl⟩
 have hsz:C.size=cap*s:=by
  rw [hC,lN3,lL4,lL,hcs,hL,lE1 (by omega)]; exact hZ
 rw [← hC] at hw
 have hp:((w.alloc (.cells C ty)).drew).heap=w.heap.push (.cells C ty):=rfl
 have hb:((w.alloc (.cells C ty)).drew).heap[w.heap.size]?=some (.cells C ty (0,0)):=by rw [hp]; simp
 obtain ⟨C1,hC1,hw1,ho1,hk1⟩:=cW w.heap.size vs (i*s) _ C ty (0,0) hb (by rw [hsz,hvs]; omega)
 have hl1:i*s+vs.length≤C.toList.length:=by rw [hvs,lC1,hsz]; omega
 have hs1:C1.size=C.size:=by
  have:C1.toList.length=C.toList.length:=by rw [hC1,eO _ _ _ hl1]
  simpa using this
 obtain ⟨C2,hC2,hw2,ho2,hk2⟩:=cW w.heap.size (cs.drop (i*s)) ((i+1)*s) (((w.alloc (.cells C ty)).drew.setCells w.heap.size (i*s) vs).drew) C1 ty (0,0) hw1 (by rw [hs1,hsz,hnl,hJ]; omega)
 have hl2:(i+1)*s+(cs.drop (i*s)).length≤C1.toList.length:=by rw [hnl,hJ,lC1,hs1,hsz]; omega
 have hs2:C2.size=C.size:=by
  have:C2.toList.length=C1.toList.length:=by rw [hC2,eO _ _ _ hl2]
  rw [← hs1]; simpa using this
 rw [← hw] at hw2 ho2 hk2
 refine ⟨⟨C2,ty,(0,0),hw2,⟨by intro o _ h; omega,lL1 _⟩,by rw [hs2,hsz]; omega,fun k hk=>?_⟩,hroom,fun x hx hne=>?_,?_⟩
 ·rw [lB2,agD hvs (by rw [hcs,hL]; omega),← lV1,hC2,w6 _ _ _ hl2,hC1,w6 _ _ _ hl1,hvs,hnl]
  have hk':k<i*s+m*s+s:=by
   simp only [lK1,lL,hvs,hnl,hcs,hL] at hk; omega
  by_cases c1:k<i*s
  ·rw [lE c1,lH (by omega),lH (by omega),lV1,hC,lV2 (by rw [lL4,lL,hcs,hL]; omega)]
   rw [List.getElem?_toArray,lI1,lE c1]
  ·rw [lH c1]
   by_cases c2:k<i*s+s
   ·rw [lE c2,lH (by omega),lE (by omega)]
   ·rw [lH c2,lE (by omega),lJ1]; congr 1; omega
 ·rw [ho2 x hne]
  show (((w.alloc (.cells C ty)).drew).setCells w.heap.size (i*s) vs).heap[x]?=_
  rw [ho1 x hne]
  exact fZ hp hx
 ·have h1:(((w.alloc (.cells C ty)).drew).setCells w.heap.size (i*s) vs).drew.heap.size=w.heap.size+1:=by
   show (((w.alloc (.cells C ty)).drew).setCells w.heap.size (i*s) vs).heap.size=_
   rw [hk1.size,hp,Array.size_push]
  refine ⟨by rw [hk2.size,h1]; omega,⟨?_,?_⟩⟩
  ·rw [hk2.quiet.os]; show (((w.alloc (.cells C ty)).drew).setCells w.heap.size (i*s) vs).os=_; rw [hk1.quiet.os]; rfl
  ·rw [hk2.quiet.out]; show (((w.alloc (.cells C ty)).drew).setCells w.heap.size (i*s) vs).output=_; rw [hk1.quiet.out]; rfl
theorem aiC {P:Program} {f s:Nat} {es:List (List TV)} {x:List TV} {i:Nat} (hE:j6 P f) (hs:∀ r ∈ es,r.length=s) (hx:x.length=s) (hk:es.flatten.all cP=true) (hkx:x.all cP=true) (hi:i≤es.length)
  (run:∀ (w:World) (base:Option Addr) (c:Nat) (cs vs:List Value) (vb voff vc:Nat) (Cv:Array Value) (tv:TypeId) (frv:Nat × Nat),cs.length=es.length*s→vs.length=s→es.length≤c→(base=none→es.length=0∧c=0) →
   (∀ a,base=some a→∃ b off C ty fr,a=⟨b,off,none⟩∧b≠vb∧w.heap[b]?=some (.cells C ty fr)∧thawS s C.size fr∧off+c*s≤C.size∧∀ k,k<cs.length→C[off+k]?=cs[k]?) →
   w.heap[vb]?=some (.cells Cv tv frv)→thawS s Cv.size frv→voff+vc*s≤Cv.size→1≤vc→(∀ k,k<vs.length→Cv[voff+k]?=vs[k]?)→(∀ u ∈ cs,u.oneCell'=true)→(∀ u ∈ vs,u.oneCell'=true) →
   Calls P f #[.slice base es.length c,.int .i64 i,.slice (some ⟨vb,voff,none⟩) 1 vc] w fun e w'=>∃ B O cap,e=.returned (.slice (some ⟨B,O,none⟩) (es.length+1) cap) ∧
    InsAt w w' s es.length (cs.take (i*s)++(vs++cs.drop (i*s))) B O cap∧((∃ a,base=some a∧B=a.block)∨B=w.heap.size)) :
  bZ P f [.own s es,.int .i64 i,.own s [x]] (.own s (es.take i++x::es.drop i)) [.undef,.undef,.undef]:=by
 refine ⟨hE,rfl,?_⟩
 intro w zs F X r h1 h2 h3
 cases r with
 | own _ F1 F2 _ s es v zs ys hr hn hF=>
 cases hn with
 | int _ _ _ _ zs _ hn=>
 cases hn with
 | own _ H1 H2 _ _ _ v2 zs2 ys2 hr2 hn2 hF2=>
 cases hn2 with
 | nil _ _ hz hX=>
 rcases Row.sl_inv hr2 with ⟨_,he,_⟩ | ⟨Gv,vb,voff,vc,Cv,tv,frv,vs,rfl,hvb,hvfr,hvcap,hvle,hves,hvcs,hvc,hvrow,hvF⟩
 ·exact absurd he (by simp)
 have hvl:vs.length=s:=by simpa using hvcs
 have e1:[x].flatten=x:=by simp
 rw [e1] at hvrow
 have hbase:∃ (base:Option Addr) (c:Nat) (cs:List Value) (Gs:aF),v=.slice base es.length c∧cs.length=es.length*s∧es.length≤c∧(base=none→es.length=0∧c=0)∧Row w true Gs cs es.flatten ∧
   (∀ a,base=some a→∃ b off C ty fr,a=⟨b,off,none⟩∧b≠vb∧w.heap[b]?=some (.cells C ty fr)∧thawS s C.size fr∧off+c*s≤C.size∧∀ k,k<cs.length→C[off+k]?=cs[k]?) ∧
   (∀ b,Gs b≤F1 b)∧(∀ a b,base=some a→b=a.block→Gs b+1≤F1 b):=by
  rcases Row.sl_inv hr with ⟨rfl,rfl,h0⟩ | ⟨G1,b,off,cap,C,ty,fr,cs,rfl,hb,hfr,hcap,hle,hes,hcs,hc,hrow,hG⟩
  ·exact ⟨none,0,[],fun _=>0,rfl,by simp,lL1 _,fun _=>⟨rfl,rfl⟩,.nil _ _ fun _=>rfl,fun a h=>(by cases h),fun b=>lE3 _,fun a b h=>(by cases h)⟩
  ·refine ⟨_,cap,cs,G1,rfl,hcs,hle,fun h=>(by cases h),hrow,fun a ha=>?_,fun x=>(by rw [hG]; omega),fun a x ha hx=>?_⟩
   ·injection ha with ha
    refine ⟨b,off,C,ty,fr,ha.symm,?_,hb,hfr,hcap,hc⟩
    intro e
    have a1:=h1 b
    have a2:=hF b
    have a3:=hF2 b
    have a4:=hvF b
    have a5:=hG b
    rw [lE e] at a4
    rw [lE rfl] at a5
    omega
   ·injection ha with ha
    have hxb:x=b:=by rw [hx,← ha]
    have:=hG x
    rw [lE hxb] at this
    show G1 x+1≤F1 x
    omega
 obtain ⟨base,c,cs,Gs,rfl,hcs,hle,hnil,hrow,hsome,hGF,hGb⟩:=hbase
 refine (run w base c cs vs vb voff vc Cv tv frv hcs hvl hle hnil hsome hvb hvfr hvcap (by simpa using hvle) hvc (kG hrow hk) (kG hvrow hkx)).mono ?_
 rintro e w' ⟨B,O,cap,rfl,I,hB⟩
 have l1:(es.take i).flatten.length=i*s:=by rw [bP _ (fun e he=>hs e (lU1 he)),lL,lE1 hi]
 have hii:i*s≤es.length*s:=lA1 s hi
 have efl:es.flatten=(es.take i).flatten++(es.drop i).flatten:=by rw [← lS1,lI]
 have ecs:cs=cs.take (i*s)++cs.drop (i*s):=(lI _ _).symm
 have hrow':Row w true Gs (cs.take (i*s)++cs.drop (i*s)) ((es.take i).flatten++(es.drop i).flatten):=by rw [← ecs,← efl]; exact hrow
 obtain ⟨A1,A2,r1,r2,eA⟩:=Row.split (cs.take (i*s)) _ (by rw [l1,lL,hcs]; omega) hrow'
 have rnew:Row w true (fun b=>A1 b+(Gv b+A2 b)) (cs.take (i*s)++(vs++cs.drop (i*s))) (es.take i++x::es.drop i).flatten:=by
  rw [lS1,lS2]
  exact Row.append r1 (Row.append hvrow r2 (fun _=>rfl)) (fun _=>rfl)
 have hlt:=Row.lt rnew rfl
 have hGle:∀ b,A1 b+(Gv b+A2 b)≤F b:=fun b=>by have:=hF b; have:=hF2 b; have:=hvF b; have:=eA b; have:=hGF b; omega
 have hBl:∀ b,(if b=B then 1 else 0)+(A1 b+(Gv b+A2 b))≤1:=by
  intro b
  have f1:=h1 b
  by_cases e:b=B
  ·rw [lE e]
   rcases hB with ⟨a,ha,hBa⟩ | hB
   ·have:=hGb a b ha (e.trans hBa)
    have:=hF b; have:=hF2 b; have:=hvF b; have:=eA b
    omega
   ·have:¬ (A1 b+(Gv b+A2 b)≠0):=fun h=>by have:=hlt b h; omega
    omega
  ·rw [lH e]; have:=hGle b; omega
 have hsame:iK w w' (fun b=>A1 b+(Gv b+A2 b)):=fun b hb=>by
  refine I.same b (hlt b hb) (fun e=>?_)
  have:=hBl b
  rw [lE e] at this
  (try dsimp only at hb); omega
 obtain ⟨C,ty,fr,hC1,hC2,hC3,hC4⟩:=I.cell
 have hTl:(cs.take (i*s)++(vs++cs.drop (i*s))).length=(es.take i++x::es.drop i).length*s:=by
  have g1:(es.take i++x::es.drop i).length=es.length+1:=by simp; omega
  rw [g1]
  simp only [lK1,lL,lN1,hvl,hcs,lF2,lI4]
  omega
 have hnew:Row w' true (fun b=>(if b=B then 1 else 0)+(A1 b+(Gv b+A2 b))) [.slice (some ⟨B,O,none⟩) (es.length+1) cap] [.sl s (es.take i++x::es.drop i)]:=
  Row.of_sl (F1:=fun b=>A1 b+(Gv b+A2 b)) (by simp; omega) hC1 hC2 hC3 (by have:=I.room; simp; omega)
   (fun r hr=>by
    rcases lG.1 hr with hr | hr
    ·exact hs r (lU1 hr)
    ·rcases lF.1 hr with rfl | hr
     ·exact hx
     ·exact hs r (lE2 hr)) hTl hC4 (rnew.same hsame) (fun _=>rfl)
 have hBF:∀ b,b=B→F b≠0∨w.heap.size≤b:=by
  intro b e
  rcases hB with ⟨a,ha,hBa⟩ | hB
  ·left
   have:=hGb a b ha (e.trans hBa)
   have:=hF b
   omega
  ·right; omega
 refine ⟨_,fun b=>(if b=B then 1 else 0)+(A1 b+(Gv b+A2 b)),X,rfl,?_,hBl,fun b=>.inr (hX b),I.grows,fun b hb h0=>?_,fun b hb=>?_,fun b hb=>absurd (hX b) hb⟩
 ·exact .own _ (fun b=>(if b=B then 1 else 0)+(A1 b+(Gv b+A2 b))) (fun _=>0) X s _ _ _ _ hnew (.undef _ _ _ _ _ (.undef _ _ _ _ _ (.undef _ _ _ _ _ (.nil _ _ (fun _=>rfl) hX)))) (fun x=>by simp)
 ·refine I.same b hb fun e=>?_
  rcases hBF b e with h | h
  ·exact h h0
  ·omega
 ·by_cases e:b=B
  ·exact hBF b e
  ·left
   (try dsimp only at hb)
   rw [lH e] at hb
   have:=hGle b
   omega
theorem ai9 {P:Program} {f s B el:Nat} {Z:Value} (hE:j6 P f) (h26:s=2∨s=6) (hB:0<B) (hZ:Z.cells.size=s)
  (shift:∀ (b off n c i vb voff vc:Nat) (cs vs:List Value) (w:World) (hi:i<n) (hroom:n+1≤c) (hc63:n+1≤9223372036854775807) (hvb:vb≠b) (hcl:cs.length=n*s) (hvl:vs.length=s) (hcs:dF w b off cs) (hsp:∀ j,j<(n+1)*s→(w.cell? ⟨b,off+j,none⟩).isSome=true) (hfz:∀ j,j<(n+1)*s→w.frozen? ⟨b,off+j,none⟩=false) (hvs:dF w vb voff vs) (h1c:xE cs) (h1v:xE vs) (tA tB:TypeId) (kA kB:Nat) (hsa:w.shape? vb=some (tA,kA)) (hsb:w.shape? b=some (tB,kB)) (hkB:kB≠0) (hfa:w.frozen? ⟨vb,voff,none⟩=false) (hfe:w.frozen? ⟨vb,kA,none⟩=false),Calls P f #[.slice (some ⟨b,off,none⟩) n c,.int .i64 i,.slice (some ⟨vb,voff,none⟩) 1 vc] w fun e w'=>e=.returned (.slice (some ⟨b,off,none⟩) (n+1) c)∧w'=(w.drew.setCells b (off+(i+1)*s) (cs.drop (i*s))).setCells b (off+i*s) vs)
  (room:∀ (b off n c vb voff vc:Nat) (vs:List Value) (w:World) (hroom:n+1≤c) (hc63:n+1≤9223372036854775807) (hvl:vs.length=s) (hsp:∀ j,j<s→(w.cell? ⟨b,off+n*s+j,none⟩).isSome=true) (hfz:∀ j,j<s→w.frozen? ⟨b,off+n*s+j,none⟩=false) (hvs:dF w vb voff vs) (h1v:xE vs),Calls P f #[.slice (some ⟨b,off,none⟩) n c,.int .i64 n,.slice (some ⟨vb,voff,none⟩) 1 vc] w fun e w'=>e=.returned (.slice (some ⟨b,off,none⟩) (n+1) c)∧w'=w.setCells b (off+n*s) vs)
  (egrow:∀ (base:Option Addr) (n c vb voff vc:Nat) (cs vs:List Value) (w:World) (hnc:n≤c) (hroom:c<n+1) (hbig:(n+1)*B≤140737488355328) (hcl:cs.length=n*s) (hvl:vs.length=s) (hnil:base=none→n=0) (hcs:∀ a,base=some a→∀ (j:Nat) (v:Value),cs[j]?=some v→w.cell? (a.add j)=some v) (hvs:dF w vb voff vs) (h1v:xE vs),Calls P f #[.slice base n c,.int .i64 n,.slice (some ⟨vb,voff,none⟩) 1 vc] w fun e w'=>e=.returned (.slice (some ⟨w.heap.size,0,none⟩) (n+1) (grownCap w (n+1) c el))∧w'=w.drew.alloc (.cells ((cs++vs).toArray++Builtin.zeroCells Z.cells (grownCap w (n+1) c el-(n+1))) el))
  (grow:∀ (b off n c i vb voff vc:Nat) (cs vs:List Value) (w:World) (hi:i<n) (hnc:n≤c) (hroom:c<n+1) (hbig:(n+1)*B≤140737488355328) (hcl:cs.length=n*s) (hvl:vs.length=s) (hcs:dF w b off cs) (hvs:dF w vb voff vs) (h1c:xE cs) (h1v:xE vs),Calls P f #[.slice (some ⟨b,off,none⟩) n c,.int .i64 i,.slice (some ⟨vb,voff,none⟩) 1 vc] w fun e w'=>e=.returned (.slice (some ⟨w.heap.size,0,none⟩) (n+1) (grownCap w (n+1) c el))∧w'=(((w.alloc (.cells ((cs.take (i*s)).toArray++Builtin.zeroCells Z.cells (n+1-i)++Builtin.zeroCells Z.cells (grownCap w (n+1) c el-(n+1))) el)).drew.setCells w.heap.size (i*s) vs).drew).setCells w.heap.size ((i+1)*s) (cs.drop (i*s)))
  (es:List (List TV)) (x:List TV) (i:Nat) (hs:∀ r ∈ es,r.length=s) (hx:x.length=s) (hk:es.flatten.all cP=true) (hkx:x.all cP=true) (hi:i≤es.length) (hbig:(es.length+1)*B≤140737488355328) :
  bZ P f [.own s es,.int .i64 i,.own s [x]] (.own s (es.take i++x::es.drop i)) [.undef,.undef,.undef]:=by
 have hn1:es.length+1≤140737488355328:=lR4 (Nat.le_mul_of_pos_right _ hB) hbig
 refine aiC (s:=s) hE hs hx hk hkx hi ?_
 intro w base c cs vs vb voff vc Cv tv frv hcs hvl hle hnil hsome hvb hvfr hvcap hvc1 hvc h1c h1v
 clear hs hx hk hkx
 generalize es.length=n at *
 obtain ⟨c6,hc6⟩:∃ c6,c6=c*s:=⟨_,rfl⟩
 rcases h26 with rfl | rfl
 all_goals
  have hvs:∀ (j:Nat) (v:Value),vs[j]?=some v→w.cell? ⟨vb,voff+j,none⟩=some v:=by
   intro j v hj
   have:=hvc j (lD.1 hj).1
   simp [World.cell?,hvb,this,hj]
  have hz6:∀ m,(Builtin.zeroCells Z.cells m).size=m*Z.cells.size:=fun m=>size_zeroCells _ _
  cases base with
  | none=>
   obtain ⟨rfl,rfl⟩:=hnil rfl
   have hi0:i=0:=by omega
   subst hi0
   have hg:=grownCap_ge w (0+1) 0 el
   refine (egrow none 0 0 vb voff vc cs vs w (by omega) (by omega) hbig hcs hvl (fun _=>rfl) (fun a h=>by cases h) hvs h1v).mono ?_
   rintro e w' ⟨rfl,hw⟩
   refine ⟨w.heap.size,0,_,rfl,?_,.inr rfl⟩
   exact qR  (n:=0) hcs hvl hg (by rw [hz6,hZ]; omega) hw
  | some a=>
   obtain ⟨b,off,C,ty,fr,rfl,hne,hb,hfr,hcap,hc⟩:=hsome a rfl
   have hcell:∀ (j:Nat) (v:Value),cs[j]?=some v→w.cell? ⟨b,off+j,none⟩=some v:=by
    intro j v hj
    have:=hc j (lD.1 hj).1
    simp [World.cell?,hb,this,hj]
   have hsp:∀ j,j<c6→(w.cell? ⟨b,off+j,none⟩).isSome=true:=by
    intro j hj
    have:off+j<C.size:=by omega
    simp [World.cell?,hb,this]
   have hfz:∀ j,j<c6→w.frozen? ⟨b,off+j,none⟩=false:=by
    intro j hj
    have:=hfr.1 (off+j) (.inl (by omega))
    simp [World.frozen?,hb]
    simpa using this
   have hg:=grownCap_ge w (n+1) c el
   by_cases hin:i=n
   ·subst hin
    by_cases hroom:i+1≤c
    ·refine (room b off i c vb voff vc vs w hroom (by omega) hvl (fun j hj=>by rw [lK2]; exact hsp _ (by omega)) (fun j hj=>by rw [lK2]; exact hfz _ (by omega)) hvs h1v).mono ?_
     rintro e w' ⟨rfl,hw⟩
     refine ⟨b,off,_,rfl,?_,.inl ⟨_,rfl,rfl⟩⟩
     refine aaj  (w0:=w) rfl ⟨rfl,rfl⟩ hb hfr hcap hroom (lL1 _) hcs hvl hc ?_
     rw [List.drop_eq_nil_of_le (by omega)]; exact hw
    ·refine (egrow (some ⟨b,off,none⟩) i c vb voff vc cs vs w hle (by omega) hbig hcs hvl (fun h=>by cases h) (fun a ha j v hj=>by injection ha with ha; subst ha; rw [Addr.add_lit]; exact hcell j v hj) hvs h1v).mono ?_
     rintro e w' ⟨rfl,hw⟩
     refine ⟨w.heap.size,0,_,rfl,?_,.inr rfl⟩
     exact qR  hcs hvl hg (by rw [hz6,hZ]; omega) hw
   ·have hlt:i<n:=by omega
    by_cases hroom:n+1≤c
    ·have hfa:w.frozen? ⟨vb,voff,none⟩=false:=by
      have:=hvfr.1 voff (.inl (by omega))
      simp [World.frozen?,hvb]
      simpa using this
     have hfe:w.frozen? ⟨vb,Cv.size,none⟩=false:=by
      have:=hvfr.1 Cv.size (.inr ⟨by decide,rfl⟩)
      simp [World.frozen?,hvb]
      simpa using this
     refine (shift b off n c i vb voff vc cs vs w hlt hroom (by omega) (Ne.symm hne) hcs hvl hcell (fun j hj=>hsp j (by omega)) (fun j hj=>hfz j (by omega)) hvs h1c h1v tv ty Cv.size C.size
      (by simp [World.shape?,hvb]) (by simp [World.shape?,hb]) (by omega) hfa hfe).mono ?_
     rintro e w' ⟨rfl,hw⟩
     refine ⟨b,off,_,rfl,?_,.inl ⟨_,rfl,rfl⟩⟩
     exact aaj  (w0:=w.drew) rfl ⟨rfl,rfl⟩ hb hfr hcap hroom (by omega) hcs hvl hc hw
    ·refine (grow b off n c i vb voff vc cs vs w hlt hle (by omega) hbig hcs hvl hcell hvs h1c h1v).mono ?_
     rintro e w' ⟨rfl,hw⟩
     refine ⟨w.heap.size,0,_,rfl,?_,.inr rfl⟩
     rw [Array.append_assoc] at hw
     exact aiB  (by omega) hcs hvl hg (by rw [lN3,hz6,hz6,hZ]; omega) hw
end
section
open Go.Proofs Go.Shelf Go.RowKit Go.Lib
theorem w7:type_of% (And.intro (by kernel_rfl:Tryz.prog.follows .mixedOrders=true) (And.intro Tryz.underlying0 (And.intro Tryz.isAgg0 (And.intro Tryz.sizeOf0 (And.intro Tryz.zeroValue0 (And.intro Tryz.underlying3 (And.intro Tryz.isAgg3 (And.intro Tryz.sizeOf3 (And.intro Tryz.zeroValue3 (And.intro Tryz.underlying4 (And.intro Tryz.isAgg4 (And.intro Tryz.sizeOf4 (And.intro Tryz.zeroValue4 (And.intro Tryz.underlying24 (And.intro Tryz.isAgg24 (And.intro Tryz.sizeOf24 (And.intro Tryz.zeroValue24 (Tryz.zeroValue84)))))))))))))))))):=And.intro (by kernel_rfl:Tryz.prog.follows .mixedOrders=true) (And.intro Tryz.underlying0 (And.intro Tryz.isAgg0 (And.intro Tryz.sizeOf0 (And.intro Tryz.zeroValue0 (And.intro Tryz.underlying3 (And.intro Tryz.isAgg3 (And.intro Tryz.sizeOf3 (And.intro Tryz.zeroValue3 (And.intro Tryz.underlying4 (And.intro Tryz.isAgg4 (And.intro Tryz.sizeOf4 (And.intro Tryz.zeroValue4 (And.intro Tryz.underlying24 (And.intro Tryz.isAgg24 (And.intro Tryz.sizeOf24 (And.intro Tryz.zeroValue24 (Tryz.zeroValue84)))))))))))))))))
theorem pH (b off n c i vb voff vc:Nat) (cs vs:List Value) (w:World) (hi:i<n) (hroom:n+1≤c) (hc63:n+1≤9223372036854775807) (hvb:vb≠b)
  (hcl:cs.length=n*6) (hvl:vs.length=6)
  (hcs:dF w b off cs) (hsp:∀ j,j<(n+1)*6→(w.cell? ⟨b,off+j,none⟩).isSome=true) (hfz:∀ j,j<(n+1)*6→w.frozen? ⟨b,off+j,none⟩=false)
  (hvs:dF w vb voff vs) (h1c:xE cs) (h1v:xE vs)
  (tA tB:TypeId) (kA kB:Nat) (hsa:w.shape? vb=some (tA,kA)) (hsb:w.shape? b=some (tB,kB)) (hkB:kB≠0) (hfa:w.frozen? ⟨vb,voff,none⟩=false) (hfe:w.frozen? ⟨vb,kA,none⟩=false) :
  Calls Tryz.prog 130 #[.slice (some ⟨b,off,none⟩) n c,.int .i64 i,.slice (some ⟨vb,voff,none⟩) 1 vc] w fun e w'=>
   e=.returned (.slice (some ⟨b,off,none⟩) (n+1) c)∧w'=(w.drew.setCells b (off+(i+1)*6) (cs.drop (i*6))).setCells b (off+i*6) vs:=by
 obtain ⟨mixed,t0,a0,z0,v0,t3,a3,z3,v3,t4,a4,z4,v4,t24,a24,z24,v24,v84⟩:=w7
 have u24:=run_underlying t24
 have u3:=run_underlying t3
 have u4:=run_underlying t4
 have hsz:(Tryz.prog.info? 84).map (·.size)=some 6:=by kernel_rfl
 have hov:∀ lb cb,(callFunc 185 #[.slice (some ⟨vb,voff,none⟩) 1 vc,.slice (some ⟨b,off+(i+1)*6,none⟩) lb cb]).run Tryz.prog w=.ok (.value (.bool false)) w:=fun lb cb=>by
  rw [run_callFunc_extern Tryz.func185 (by kernel_rfl) (by kernel_rfl) (by kernel_rfl) (e:=Extern.SlicesOverlaps.overlaps #[24,24] #[4]) (by kernel_rfl),
   Lib.run_overlaps_apart w 24 4 84 t24 6 Tryz.sizeOf84 ⟨vb,voff,none⟩ ⟨b,off+(i+1)*6,none⟩ 1 vc lb cb hvb tA tB kA kB hsa hsb hkB hfa hfe]
  rfl
 have hdl:(cs.drop (i*6)).length=(n-i)*6:=by rw [lN1,hcl]; omega
 have hw1:IntKind.i64.wrap ((i:Int)+1)=(i:Int)+1:=by rw [IntKind.wrap_i64]; omega
 have hb1:(0:Int)≤(i:Int)+1:=by omega
 have hin:i≤n:=by omega
 have htn:((i:Int)+1).toNat=i+1:=by omega
 have hb2:¬ (c=i+1):=by omega
 have hb3:(i:Int)≤(n:Int)+1:=by omega
 have hb4:¬ (c=i):=by omega
 have hz2:¬ ((i:Int)=(n:Int)):=by omega
 have mn1:(n+1-i).min (n-i)=n-i:=by show min _ _=_; omega
 have mn2:(1:Nat).min (n+1-i)=1:=by show min _ _=_; omega
 have hcp1:∀ ty dc sc,(Builtin.copy_ #[24,24] ty #[.slice (some ⟨b,off+(i+1)*6,none⟩) (n-i) dc,.slice (some ⟨b,off+i*6,none⟩) (n+1-i) sc]).run Tryz.prog w.drew=.ok (goInt (n-i:Nat)) (w.drew.setCells b (off+(i+1)*6) (cs.drop (i*6))):=fun ty dc sc=>by
  have:=bU (P:=Tryz.prog) 6 w.drew 24 24 ty 84 b (off+(i+1)*6) (n-i) dc ⟨b,off+i*6,none⟩ (n+1-i) sc (cs.drop (i*6)) t24 hsz (by rw [hdl,mn1])
   (fun j v hj=>by rw [Addr.add_lit,lK2]; exact hcs (i*6+j) v (by rwa [lJ1] at hj))
   (fun j hj=>by rw [lK2]; exact hsp _ (by omega)) (fun j hj=>by rw [lK2]; exact hfz _ (by omega)) (fun v hv=>h1c v (lE2 hv))
  rw [this,mn1]
 obtain ⟨W1,hW1⟩:∃ W1,W1=w.drew.setCells b (off+(i+1)*6) (cs.drop (i*6)):=⟨_,rfl⟩
 have hsp1:∀ k,k<(n+1)*6→(W1.cell? ⟨b,off+k,none⟩).isSome=true:=fun k hk=>by
  rw [hW1]
  exact World.isSome_setCells _ _ _ _ _ (hsp k hk)
 have hcp2:∀ (W:World),(∀ x,W.cell? x=W1.cell? x)→(∀ x,W.frozen? x=W1.frozen? x)→∀ ty dc,(Builtin.copy_ #[24,24] ty #[.slice (some ⟨b,off+i*6,none⟩) (n+1-i) dc,.slice (some ⟨vb,voff,none⟩) 1 vc]).run Tryz.prog W=.ok (goInt (1:Nat)) (W.setCells b (off+i*6) vs):=fun W hWc hWf ty dc=>by
  have:=bU (P:=Tryz.prog) 6 W 24 24 ty 84 b (off+i*6) (n+1-i) dc ⟨vb,voff,none⟩ 1 vc vs t24 hsz (by rw [hvl,mn2])
   (fun j v hj=>by
    rw [Addr.add_lit,hWc,hW1,World.cell?_setCells_out b _ _ _ _ (fun h _=>absurd h hvb)]
    exact hvs j v hj)
   (fun j hj=>by rw [hWc,lK2]; exact hsp1 _ (by omega)) (fun j hj=>by rw [hWf,hW1,World.frozen?_setCells,lK2]; exact hfz _ (by omega)) h1v
  rw [this,mn2]
 rw [← hW1] at hcp1
 go_enter Tryz.func130,Tryz.ntmps130
 go_wp2_with (simp only [hov])
 go_region_law_o (refine step_copy_runI rfl _ _ 24 24 rfl _ _ (by simp [Act.eval,Act.put]) (by simp [Act.eval,Act.put]) (hcp1 _ _ _) ?_)
 go_wp2_with (at_builtin; refine wpList_copy_runI _ rfl _ _ 24 24 rfl _ _ rfl rfl (hcp2 _ (fun _=>rfl) (fun _=>rfl) _ _) ?_)
 go_ret
 first | exact ⟨rfl,rfl⟩ | exact ⟨rfl,by rw [hW1]⟩
theorem l7 (b off n c vb voff vc:Nat) (vs:List Value) (w:World) (hroom:n+1≤c) (hc63:n+1≤9223372036854775807)
  (hvl:vs.length=6) (hsp:∀ j,j<6→(w.cell? ⟨b,off+n*6+j,none⟩).isSome=true) (hfz:∀ j,j<6→w.frozen? ⟨b,off+n*6+j,none⟩=false)
  (hvs:dF w vb voff vs) (h1v:xE vs) :
  Calls Tryz.prog 130 #[.slice (some ⟨b,off,none⟩) n c,.int .i64 n,.slice (some ⟨vb,voff,none⟩) 1 vc] w fun e w'=>
   e=.returned (.slice (some ⟨b,off,none⟩) (n+1) c)∧w'=w.setCells b (off+n*6) vs:=by
 obtain ⟨mixed,t0,a0,z0,v0,t3,a3,z3,v3,t4,a4,z4,v4,t24,a24,z24,v24,v84⟩:=w7
 have iE:(Tryz.prog.info? 84).map (fun i=>(i.zero,i.size,i.bytes))=some (some (.agg #[.int .i64 0,.int .i64 0,.int .i64 0,.slice none 0 0,.slice none 0 0,.slice none 0 0]),6,96):=by kernel_rfl
 obtain ⟨i0,hi0,hz0,hz1,hz2⟩:=info_parts iE
 have hap:∀ ty,(Builtin.append_ #[24,24] ty #[.slice (some ⟨b,off,none⟩) n c,.slice (some ⟨vb,voff,none⟩) 1 vc]).run Tryz.prog w=.ok (.slice (some ⟨b,off,none⟩) (n+1) c) (w.setCells b (off+n*6) vs):=fun ty=>by
  have:=run_append_room_cells w 24 ty 84 i0 t24 hi0 b off n c ⟨vb,voff,none⟩ 1 vc vs (by rw [hvl,hz1]) (fun j u hu=>by rw [Addr.add_lit]; exact hvs j u hu) h1v hroom
   (fun j hj=>by rw [hz1]; exact hsp j (by omega)) (fun j hj=>by rw [hz1]; exact hfz j (by omega))
  rw [hz1] at this; exact this
 go_enter Tryz.func130,Tryz.ntmps130
 go_wp2_with (at_builtin; refine Lib.wpList_append_run _ rfl _ _ _ _ rfl _ _ rfl rfl _ _ (hap _) ?_)
 go_ret
 exact ⟨rfl,rfl⟩
theorem l8 (base:Option Addr) (n c vb voff vc:Nat) (cs vs:List Value) (w:World) (hnc:n≤c) (hroom:c<n+1) (hbig:(n+1)*96≤140737488355328)
  (hcl:cs.length=n*6) (hvl:vs.length=6) (hnil:base=none→n=0)
  (hcs:∀ a,base=some a→∀ (j:Nat) (v:Value),cs[j]?=some v→w.cell? (a.add j)=some v)
  (hvs:dF w vb voff vs) (h1v:xE vs) :
  Calls Tryz.prog 130 #[.slice base n c,.int .i64 n,.slice (some ⟨vb,voff,none⟩) 1 vc] w fun e w'=>
   e=.returned (.slice (some ⟨w.heap.size,0,none⟩) (n+1) (grownCap w (n+1) c 84)) ∧
   w'=w.drew.alloc (.cells ((cs++vs).toArray++Builtin.zeroCells (Value.agg #[.int .i64 0,.int .i64 0,.int .i64 0,.slice none 0 0,.slice none 0 0,.slice none 0 0]).cells (grownCap w (n+1) c 84-(n+1))) 84):=by
 obtain ⟨mixed,t0,a0,z0,v0,t3,a3,z3,v3,t4,a4,z4,v4,t24,a24,z24,v24,v84⟩:=w7
 have iE:(Tryz.prog.info? 84).map (fun i=>(i.zero,i.size,i.bytes))=some (some (.agg #[.int .i64 0,.int .i64 0,.int .i64 0,.slice none 0 0,.slice none 0 0,.slice none 0 0]),6,96):=by kernel_rfl
 obtain ⟨i0,hi0,hz0,hz1,hz2⟩:=info_parts iE
 have hsrc:Src Tryz.prog i0.size 24 (.slice (some ⟨vb,voff,none⟩) 1 vc) 1 vs w:=by
  rw [hz1]
  exact Src.ofSlice w t24 ⟨vb,voff,none⟩ 1 vc vs (by omega) (fun j u hj=>by rw [Addr.add_lit]; exact hvs j u hj) h1v
 have hold:(Builtin.firstCells i0.size n (.slice base n c)).run Tryz.prog w.drew=.ok cs.toArray w.drew:=by
  rw [hz1]
  cases base with
  | none=>
   have h0:=hnil rfl
   subst h0
   rw [lP1.1 (by omega:cs.length=0)]
   exact run_firstCells_none w.drew 6 0 0 c
  | some a=>exact run_firstCells_some w.drew 6 n a n c cs (by omega) (fun j v hj=>hcs a rfl j v hj)
 have hrun:∀ ty,(Builtin.append_ #[24,24] ty #[.slice base n c,.slice (some ⟨vb,voff,none⟩) 1 vc]).run Tryz.prog w=_:=fun ty=>
  run_append_grow_src w 24 24 ty 84 i0 _ t24 hi0 hz0 base n c cs hold _ 1 vs hsrc hroom (by omega) (by rw [hz2]; exact growslice_fits hroom hbig)
 go_enter Tryz.func130,Tryz.ntmps130
 cases base with
 | none=>
  have h0:=hnil rfl
  subst h0
  go_wp2_with (at_builtin; refine Lib.wpList_append_run _ rfl _ _ _ _ rfl _ _ rfl rfl _ _ (hrun _) ?_)
  go_ret
  exact ⟨rfl,rfl⟩
 | some a=>
  obtain ⟨ab,ao,asp⟩:=a
  go_wp2_with (at_builtin; refine Lib.wpList_append_run _ rfl _ _ _ _ rfl _ _ rfl rfl _ _ (hrun _) ?_)
  all_goals (go_ret; exact ⟨rfl,rfl⟩)
theorem qD (b off n c i vb voff vc:Nat) (cs vs:List Value) (w:World) (hi:i<n) (hnc:n≤c) (hroom:c<n+1) (hbig:(n+1)*96≤140737488355328)
  (hcl:cs.length=n*6) (hvl:vs.length=6)
  (hcs:dF w b off cs)
  (hvs:dF w vb voff vs) (h1c:xE cs) (h1v:xE vs) :
  Calls Tryz.prog 130 #[.slice (some ⟨b,off,none⟩) n c,.int .i64 i,.slice (some ⟨vb,voff,none⟩) 1 vc] w fun e w'=>
   e=.returned (.slice (some ⟨w.heap.size,0,none⟩) (n+1) (grownCap w (n+1) c 84)) ∧
   w'=(((w.alloc (.cells ((cs.take (i*6)).toArray++Builtin.zeroCells (Value.agg #[.int .i64 0,.int .i64 0,.int .i64 0,.slice none 0 0,.slice none 0 0,.slice none 0 0]).cells (n+1-i)++Builtin.zeroCells (Value.agg #[.int .i64 0,.int .i64 0,.int .i64 0,.slice none 0 0,.slice none 0 0,.slice none 0 0]).cells (grownCap w (n+1) c 84-(n+1))) 84)).drew.setCells w.heap.size (i*6) vs).drew).setCells w.heap.size ((i+1)*6) (cs.drop (i*6)):=by
 obtain ⟨mixed,t0,a0,z0,v0,t3,a3,z3,v3,t4,a4,z4,v4,t24,a24,z24,v24,v84⟩:=w7
 have iE:(Tryz.prog.info? 84).map (fun i=>(i.zero,i.size,i.bytes))=some (some (.agg #[.int .i64 0,.int .i64 0,.int .i64 0,.slice none 0 0,.slice none 0 0,.slice none 0 0]),6,96):=by kernel_rfl
 obtain ⟨i0,hi0,hz0,hzs,hzb⟩:=info_parts iE
 have hz2:¬ ((i:Int)=(n:Int)):=by omega
 have hz3:(c:Int)<(n:Int)+1:=by omega
 have hsz:(Tryz.prog.info? 84).map (·.size)=some 6:=by rw [hi0]; simp [hzs]
 have hbw:b<w.heap.size:=block_lt_of_cell (hcs 0 _ (lJ (by omega)))
 have hvw:vb<w.heap.size:=block_lt_of_cell (hvs 0 _ (lJ (by omega)))
 have hkk:(n:Int)+1-(i:Int)=((n+1-i:Nat):Int):=by omega
 have hik:i+(n+1-i)=n+1:=by omega
 have hold:(Builtin.firstCells i0.size i (.slice (some ⟨b,off,none⟩) i c)).run Tryz.prog w.drew=.ok (cs.take (i*6)).toArray w.drew:=by
  rw [hzs]
  exact run_firstCells_some w.drew 6 i ⟨b,off,none⟩ i c (cs.take (i*6)) (by rw [lL]; omega) (fun j v hj=>by
   rw [Addr.add_lit]
   rw [lI1] at hj
   split at hj
   ·exact hcs j v hj
   ·cases hj)
 have hrz:∀ ty,(Builtin.append_ #[24,3] ty #[.slice (some ⟨b,off,none⟩) i c,.int .i64 ((n:Int)+1-(i:Int))]).run Tryz.prog w =
   .ok (.slice (some ⟨w.heap.size,0,none⟩) (n+1) (grownCap w (n+1) c 84)) (w.drew.alloc (.cells ((cs.take (i*6)).toArray++Builtin.zeroCells (Value.agg #[.int .i64 0,.int .i64 0,.int .i64 0,.slice none 0 0,.slice none 0 0,.slice none 0 0]).cells (n+1-i)++Builtin.zeroCells (Value.agg #[.int .i64 0,.int .i64 0,.int .i64 0,.slice none 0 0,.slice none 0 0,.slice none 0 0]).cells (grownCap w (n+1) c 84-(n+1))) 84)):=fun ty=>by
  have h:=Lib.run_append_grow_zeros w 24 3 ty 84 i0 _ .i64 .i64 t24 t3 hi0 hz0 (some ⟨b,off,none⟩) i c (cs.take (i*6)) hold (n+1-i) (by omega) (by omega) (by omega) (by omega) (by rw [hzb]; omega) (by rw [hzb,hik]; exact growslice_fits hroom hbig)
  rw [hik] at h
  rw [hkk]
  exact h
 obtain ⟨G,hG⟩:∃ G,G=grownCap w (n+1) c 84:=⟨_,rfl⟩
 obtain ⟨ROW,hROW⟩:∃ ROW:Array Value,ROW=(cs.take (i*6)).toArray++Builtin.zeroCells (Value.agg #[.int .i64 0,.int .i64 0,.int .i64 0,.slice none 0 0,.slice none 0 0,.slice none 0 0]).cells (n+1-i)++Builtin.zeroCells (Value.agg #[.int .i64 0,.int .i64 0,.int .i64 0,.slice none 0 0,.slice none 0 0,.slice none 0 0]).cells (G-(n+1)):=⟨_,rfl⟩
 rw [← hG] at hrz ⊢
 rw [← hROW] at hrz ⊢
 have hRl:(n+1)*6≤ROW.size:=by
  rw [hROW]
  simp [Builtin.zeroCells,Value.cells]
  omega
 obtain ⟨W1,hW1⟩:∃ W1,W1=w.drew.alloc (.cells ROW 84):=⟨_,rfl⟩
 rw [← hW1] at hrz
 have hN:∀ j,j<(n+1)*6→(W1.cell? ⟨w.heap.size,j,none⟩).isSome=true:=fun j hj=>by
  rw [hW1,World.cell?_alloc_at (w:=w.drew) ROW _ w.heap.size j rfl,lU (by omega)]; rfl
 have hNf:∀ j,W1.frozen? ⟨w.heap.size,j,none⟩=false:=fun j=>by rw [hW1]; exact World.frozen?_alloc_at (w:=w.drew) ROW _ w.heap.size j rfl
 have hOb:∀ j v,w.cell? ⟨b,j,none⟩=some v→W1.cell? ⟨b,j,none⟩=some v:=fun j v h=>by rw [hW1,World.cell?_alloc_past (w:=w.drew) _ b j hbw]; exact h
 have hOv:∀ j v,w.cell? ⟨vb,j,none⟩=some v→W1.cell? ⟨vb,j,none⟩=some v:=fun j v h=>by rw [hW1,World.cell?_alloc_past (w:=w.drew) _ vb j hvw]; exact h
 have mn1:(n-i).min (n-i)=n-i:=by show min _ _=_; omega
 have mn2:(1:Nat).min (n+1-i)=1:=by show min _ _=_; omega
 have hcpA:∀ (W:World),(∀ x,W.cell? x=W1.cell? x)→(∀ x,W.frozen? x=W1.frozen? x)→∀ ty dc,(Builtin.copy_ #[24,24] ty #[.slice (some ⟨w.heap.size,i*6,none⟩) (n+1-i) dc,.slice (some ⟨vb,voff,none⟩) 1 vc]).run Tryz.prog W=.ok (goInt (1:Nat)) (W.setCells w.heap.size (i*6) vs):=fun W hWc hWf ty dc=>by
  have:=bU (P:=Tryz.prog) 6 W 24 24 ty 84 w.heap.size (i*6) (n+1-i) dc ⟨vb,voff,none⟩ 1 vc vs t24 hsz (by rw [hvl,mn2])
   (fun j v hj=>by rw [Addr.add_lit,hWc]; exact hOv _ v (hvs j v hj))
   (fun j hj=>by rw [hWc]; exact hN _ (by omega)) (fun j hj=>by rw [hWf]; exact hNf _) h1v
  rw [this,mn2]
 have hGn:n+1≤G:=by rw [hG]; exact grownCap_ge w _ _ _
 have hG63:G≤9223372036854775807:=by
  have:=grownCap_le_maxLen w (n+1) c 84 (by unfold maxLen; omega)
  rw [← hG] at this
  unfold maxLen at this
  omega
 have hGi:¬ (G=i):=by omega
 have hGim:¬ (G=i+1):=by omega
 have hci:¬ (c=i):=by omega
 have hbN:b≠w.heap.size:=by omega
 have hdl:(cs.drop (i*6)).length=(n-i)*6:=by rw [lN1,hcl]; omega
 have hcpB:∀ (W:World),(∀ x,W.cell? x=(W1.setCells w.heap.size (i*6) vs).cell? x)→(∀ x,W.frozen? x=(W1.setCells w.heap.size (i*6) vs).frozen? x)→∀ ty dc sc,(Builtin.copy_ #[24,24] ty #[.slice (some ⟨w.heap.size,(i+1)*6,none⟩) (n-i) dc,.slice (some ⟨b,off+i*6,none⟩) (n-i) sc]).run Tryz.prog W=.ok (goInt (n-i:Nat)) (W.setCells w.heap.size ((i+1)*6) (cs.drop (i*6))):=fun W hWc hWf ty dc sc=>by
  have:=bU (P:=Tryz.prog) 6 W 24 24 ty 84 w.heap.size ((i+1)*6) (n-i) dc ⟨b,off+i*6,none⟩ (n-i) sc (cs.drop (i*6)) t24 hsz (by rw [hdl,mn1])
   (fun j v hj=>by
    rw [Addr.add_lit,hWc,World.cell?_setCells_out _ _ _ _ _ (fun h _=>absurd h hbN),lK2]
    exact hOb _ v (hcs (i*6+j) v (by rwa [lJ1] at hj)))
   (fun j hj=>by rw [hWc]; exact isSome_setCells _ _ _ _ (fun t ht=>hN _ (by omega)) _ (hN _ (by omega)))
   (fun j hj=>by rw [hWf,World.frozen?_setCells]; exact hNf _) (fun v hv=>h1c v (lE2 hv))
  rw [this,mn1]
 subst hW1
 have hE1:∀ x,((w.alloc (.cells ROW 84)).drew).cell? x=(w.drew.alloc (.cells ROW 84)).cell? x:=fun x=>rfl
 have hE2:∀ x,((w.alloc (.cells ROW 84)).drew).frozen? x=(w.drew.alloc (.cells ROW 84)).frozen? x:=fun x=>rfl
 have hF1:∀ x,(((w.alloc (.cells ROW 84)).drew.setCells w.heap.size (i*6) vs).drew).cell? x=((w.drew.alloc (.cells ROW 84)).setCells w.heap.size (i*6) vs).cell? x:=fun x=>rfl
 have hF2:∀ x,(((w.alloc (.cells ROW 84)).drew.setCells w.heap.size (i*6) vs).drew).frozen? x=((w.drew.alloc (.cells ROW 84)).setCells w.heap.size (i*6) vs).frozen? x:=fun x=>rfl
 have hw1:IntKind.i64.wrap ((i:Int)+1)=(i:Int)+1:=by rw [IntKind.wrap_i64]; omega
 have hb1:(0:Int)≤(i:Int)+1:=by omega
 have hin:i≤n:=by omega
 have htn:((i:Int)+1).toNat=i+1:=by omega
 have hb3:(i:Int)≤(n:Int):=by omega
 clear hkk hik hold hROW hG hRl
 go_enter Tryz.func130,Tryz.ntmps130
 go_wp2_with (first
  | (at_builtin; refine Lib.wpList_append_run _ rfl _ _ _ _ rfl _ _ rfl rfl _ _ (hrz _) ?_)
  | (at_builtin; refine wpList_copy_runI _ rfl _ _ 24 24 rfl _ _ rfl rfl (hcpA _ hE1 hE2 _ _) ?_)
  | (at_builtin; refine wpList_copy_runI _ rfl _ _ 24 24 rfl _ _ rfl rfl (hcpB _ (fun _=>rfl) (fun _=>rfl) _ _ _) ?_))
 go_region_law_o (refine step_copy_runI rfl _ _ 24 24 rfl (.slice (some ⟨w.heap.size,(i+1)*6,none⟩) (n-i) (G-(i+1))) (.slice (some ⟨b,off+i*6,none⟩) (n-i) (c-i)) (by simp [Act.eval,Act.put]) (by simp [Act.eval,Act.put]) (hcpB _ hF1 hF2 3 (G-(i+1)) (c-i)) ?_)
 go_wp2
 go_ret
 exact ⟨rfl,rfl⟩
theorem t7 (l:List Inode) (x:Inode) (i:Nat) (hi:i≤l.length) (hbig:(l.length+1)*96≤140737488355328) :
  bZ Tryz.prog 130 [.own 6 (l.map Inode.row),.int .i64 i,.own 6 [Inode.row x]] (.own 6 ((l.take i++x::l.drop i).map Inode.row)) [.undef,.undef,.undef]:=by
 have hr6:∀ r ∈ l.map Inode.row,r.length=6:=fun r hr=>by obtain ⟨x,_,rfl⟩:=lZ1.1 hr; rfl
 have hkn:(l.map Inode.row).flatten.all cP=true:=by
  rw [lR]
  intro t ht
  obtain ⟨r,hr,ht⟩:=List.mem_flatten.1 ht
  obtain ⟨x,_,rfl⟩:=lZ1.1 hr
  exact lR.1 (show (Inode.row x).all cP=true from rfl) t ht
 have hl:(l.map Inode.row).length=l.length:=lR1 _
 rw [show (l.take i++x::l.drop i).map Inode.row=(l.map Inode.row).take i++Inode.row x::(l.map Inode.row).drop i by simp]
 exact ai9 (s:=6) (B:=96) (el:=84) (Z:=.agg #[.int .i64 0,.int .i64 0,.int .i64 0,.slice none 0 0,.slice none 0 0,.slice none 0 0]) ⟨_,Tryz.func130,by kernel_rfl,by kernel_rfl⟩ (by decide) (by decide) rfl pH l7 l8 qD _ _ i hr6 rfl hkn rfl (by omega) (by rw [hl]; exact hbig)
end
section
open Go.Proofs Go.Shelf Go.RowKit Go.Lib
theorem aiD:type_of% (And.intro (by kernel_rfl:Tryz.prog.follows .mixedOrders=true) (And.intro Tryz.underlying0 (And.intro Tryz.isAgg0 (And.intro Tryz.sizeOf0 (And.intro Tryz.zeroValue0 (And.intro Tryz.underlying3 (And.intro Tryz.isAgg3 (And.intro Tryz.sizeOf3 (And.intro Tryz.zeroValue3 (And.intro Tryz.underlying4 (And.intro Tryz.isAgg4 (And.intro Tryz.sizeOf4 (And.intro Tryz.zeroValue4 (And.intro Tryz.underlying81 (And.intro Tryz.isAgg81 (And.intro Tryz.sizeOf81 (And.intro Tryz.zeroValue81 (Tryz.zeroValue87)))))))))))))))))):=And.intro (by kernel_rfl:Tryz.prog.follows .mixedOrders=true) (And.intro Tryz.underlying0 (And.intro Tryz.isAgg0 (And.intro Tryz.sizeOf0 (And.intro Tryz.zeroValue0 (And.intro Tryz.underlying3 (And.intro Tryz.isAgg3 (And.intro Tryz.sizeOf3 (And.intro Tryz.zeroValue3 (And.intro Tryz.underlying4 (And.intro Tryz.isAgg4 (And.intro Tryz.sizeOf4 (And.intro Tryz.zeroValue4 (And.intro Tryz.underlying81 (And.intro Tryz.isAgg81 (And.intro Tryz.sizeOf81 (And.intro Tryz.zeroValue81 (Tryz.zeroValue87)))))))))))))))))
theorem qY (b off n c i vb voff vc:Nat) (cs vs:List Value) (w:World) (hi:i<n) (hroom:n+1≤c) (hc63:n+1≤9223372036854775807) (hvb:vb≠b)
  (hcl:cs.length=n*2) (hvl:vs.length=2)
  (hcs:dF w b off cs) (hsp:∀ j,j<(n+1)*2→(w.cell? ⟨b,off+j,none⟩).isSome=true) (hfz:∀ j,j<(n+1)*2→w.frozen? ⟨b,off+j,none⟩=false)
  (hvs:dF w vb voff vs) (h1c:xE cs) (h1v:xE vs)
  (tA tB:TypeId) (kA kB:Nat) (hsa:w.shape? vb=some (tA,kA)) (hsb:w.shape? b=some (tB,kB)) (hkB:kB≠0) (hfa:w.frozen? ⟨vb,voff,none⟩=false) (hfe:w.frozen? ⟨vb,kA,none⟩=false) :
  Calls Tryz.prog 179 #[.slice (some ⟨b,off,none⟩) n c,.int .i64 i,.slice (some ⟨vb,voff,none⟩) 1 vc] w fun e w'=>
   e=.returned (.slice (some ⟨b,off,none⟩) (n+1) c)∧w'=(w.drew.setCells b (off+(i+1)*2) (cs.drop (i*2))).setCells b (off+i*2) vs:=by
 obtain ⟨mixed,t0,a0,z0,v0,t3,a3,z3,v3,t4,a4,z4,v4,t81,a81,z81,v81,v87⟩:=aiD
 have u81:=run_underlying t81
 have u3:=run_underlying t3
 have u4:=run_underlying t4
 have hsz:(Tryz.prog.info? 87).map (·.size)=some 2:=by kernel_rfl
 have hov:∀ lb cb,(callFunc 237 #[.slice (some ⟨vb,voff,none⟩) 1 vc,.slice (some ⟨b,off+(i+1)*2,none⟩) lb cb]).run Tryz.prog w=.ok (.value (.bool false)) w:=fun lb cb=>by
  rw [run_callFunc_extern Tryz.func237 (by kernel_rfl) (by kernel_rfl) (by kernel_rfl) (e:=Extern.SlicesOverlaps.overlaps #[81,81] #[4]) (by kernel_rfl),
   Lib.run_overlaps_apart w 81 4 87 t81 2 Tryz.sizeOf87 ⟨vb,voff,none⟩ ⟨b,off+(i+1)*2,none⟩ 1 vc lb cb hvb tA tB kA kB hsa hsb hkB hfa hfe]
  rfl
 have hdl:(cs.drop (i*2)).length=(n-i)*2:=by rw [lN1,hcl]; omega
 have hw1:IntKind.i64.wrap ((i:Int)+1)=(i:Int)+1:=by rw [IntKind.wrap_i64]; omega
 have hb1:(0:Int)≤(i:Int)+1:=by omega
 have hin:i≤n:=by omega
 have htn:((i:Int)+1).toNat=i+1:=by omega
 have hb2:¬ (c=i+1):=by omega
 have hb3:(i:Int)≤(n:Int)+1:=by omega
 have hb4:¬ (c=i):=by omega
 have hz2:¬ ((i:Int)=(n:Int)):=by omega
 have mn1:(n+1-i).min (n-i)=n-i:=by show min _ _=_; omega
 have mn2:(1:Nat).min (n+1-i)=1:=by show min _ _=_; omega
 have hcp1:∀ ty dc sc,(Builtin.copy_ #[81,81] ty #[.slice (some ⟨b,off+(i+1)*2,none⟩) (n-i) dc,.slice (some ⟨b,off+i*2,none⟩) (n+1-i) sc]).run Tryz.prog w.drew=.ok (goInt (n-i:Nat)) (w.drew.setCells b (off+(i+1)*2) (cs.drop (i*2))):=fun ty dc sc=>by
  have:=bU (P:=Tryz.prog) 2 w.drew 81 81 ty 87 b (off+(i+1)*2) (n-i) dc ⟨b,off+i*2,none⟩ (n+1-i) sc (cs.drop (i*2)) t81 hsz (by rw [hdl,mn1])
   (fun j v hj=>by rw [Addr.add_lit,lK2]; exact hcs (i*2+j) v (by rwa [lJ1] at hj))
   (fun j hj=>by rw [lK2]; exact hsp _ (by omega)) (fun j hj=>by rw [lK2]; exact hfz _ (by omega)) (fun v hv=>h1c v (lE2 hv))
  rw [this,mn1]
 obtain ⟨W1,hW1⟩:∃ W1,W1=w.drew.setCells b (off+(i+1)*2) (cs.drop (i*2)):=⟨_,rfl⟩
 have hsp1:∀ k,k<(n+1)*2→(W1.cell? ⟨b,off+k,none⟩).isSome=true:=fun k hk=>by
  rw [hW1]
  exact World.isSome_setCells _ _ _ _ _ (hsp k hk)
 have hcp2:∀ (W:World),(∀ x,W.cell? x=W1.cell? x)→(∀ x,W.frozen? x=W1.frozen? x)→∀ ty dc,(Builtin.copy_ #[81,81] ty #[.slice (some ⟨b,off+i*2,none⟩) (n+1-i) dc,.slice (some ⟨vb,voff,none⟩) 1 vc]).run Tryz.prog W=.ok (goInt (1:Nat)) (W.setCells b (off+i*2) vs):=fun W hWc hWf ty dc=>by
  have:=bU (P:=Tryz.prog) 2 W 81 81 ty 87 b (off+i*2) (n+1-i) dc ⟨vb,voff,none⟩ 1 vc vs t81 hsz (by rw [hvl,mn2])
   (fun j v hj=>by
    rw [Addr.add_lit,hWc,hW1,World.cell?_setCells_out b _ _ _ _ (fun h _=>absurd h hvb)]
    exact hvs j v hj)
   (fun j hj=>by rw [hWc,lK2]; exact hsp1 _ (by omega)) (fun j hj=>by rw [hWf,hW1,World.frozen?_setCells,lK2]; exact hfz _ (by omega)) h1v
  rw [this,mn2]
 rw [← hW1] at hcp1
 go_enter Tryz.func179,Tryz.ntmps179
 go_wp2_with (simp only [hov])
 go_region_law_o (refine step_copy_runI rfl _ _ 81 81 rfl _ _ (by simp [Act.eval,Act.put]) (by simp [Act.eval,Act.put]) (hcp1 _ _ _) ?_)
 go_wp2_with (at_builtin; refine wpList_copy_runI _ rfl _ _ 81 81 rfl _ _ rfl rfl (hcp2 _ (fun _=>rfl) (fun _=>rfl) _ _) ?_)
 go_ret
 first | exact ⟨rfl,rfl⟩ | exact ⟨rfl,by rw [hW1]⟩
theorem n4 (b off n c vb voff vc:Nat) (vs:List Value) (w:World) (hroom:n+1≤c) (hc63:n+1≤9223372036854775807)
  (hvl:vs.length=2) (hsp:∀ j,j<2→(w.cell? ⟨b,off+n*2+j,none⟩).isSome=true) (hfz:∀ j,j<2→w.frozen? ⟨b,off+n*2+j,none⟩=false)
  (hvs:dF w vb voff vs) (h1v:xE vs) :
  Calls Tryz.prog 179 #[.slice (some ⟨b,off,none⟩) n c,.int .i64 n,.slice (some ⟨vb,voff,none⟩) 1 vc] w fun e w'=>
   e=.returned (.slice (some ⟨b,off,none⟩) (n+1) c)∧w'=w.setCells b (off+n*2) vs:=by
 obtain ⟨mixed,t0,a0,z0,v0,t3,a3,z3,v3,t4,a4,z4,v4,t81,a81,z81,v81,v87⟩:=aiD
 have iE:(Tryz.prog.info? 87).map (fun i=>(i.zero,i.size,i.bytes))=some (some (.agg #[.string { data:=#[] },.int .i64 0]),2,24):=by kernel_rfl
 obtain ⟨i0,hi0,hz0,hz1,hz2⟩:=info_parts iE
 have hap:∀ ty,(Builtin.append_ #[81,81] ty #[.slice (some ⟨b,off,none⟩) n c,.slice (some ⟨vb,voff,none⟩) 1 vc]).run Tryz.prog w=.ok (.slice (some ⟨b,off,none⟩) (n+1) c) (w.setCells b (off+n*2) vs):=fun ty=>by
  have:=run_append_room_cells w 81 ty 87 i0 t81 hi0 b off n c ⟨vb,voff,none⟩ 1 vc vs (by rw [hvl,hz1]) (fun j u hu=>by rw [Addr.add_lit]; exact hvs j u hu) h1v hroom
   (fun j hj=>by rw [hz1]; exact hsp j (by omega)) (fun j hj=>by rw [hz1]; exact hfz j (by omega))
  rw [hz1] at this; exact this
 go_enter Tryz.func179,Tryz.ntmps179
 go_wp2_with (at_builtin; refine Lib.wpList_append_run _ rfl _ _ _ _ rfl _ _ rfl rfl _ _ (hap _) ?_)
 go_ret
 exact ⟨rfl,rfl⟩
theorem n5 (base:Option Addr) (n c vb voff vc:Nat) (cs vs:List Value) (w:World) (hnc:n≤c) (hroom:c<n+1) (hbig:(n+1)*24≤140737488355328)
  (hcl:cs.length=n*2) (hvl:vs.length=2) (hnil:base=none→n=0)
  (hcs:∀ a,base=some a→∀ (j:Nat) (v:Value),cs[j]?=some v→w.cell? (a.add j)=some v)
  (hvs:dF w vb voff vs) (h1v:xE vs) :
  Calls Tryz.prog 179 #[.slice base n c,.int .i64 n,.slice (some ⟨vb,voff,none⟩) 1 vc] w fun e w'=>
   e=.returned (.slice (some ⟨w.heap.size,0,none⟩) (n+1) (grownCap w (n+1) c 87)) ∧
   w'=w.drew.alloc (.cells ((cs++vs).toArray++Builtin.zeroCells (Value.agg #[.string { data:=#[] },.int .i64 0]).cells (grownCap w (n+1) c 87-(n+1))) 87):=by
 obtain ⟨mixed,t0,a0,z0,v0,t3,a3,z3,v3,t4,a4,z4,v4,t81,a81,z81,v81,v87⟩:=aiD
 have iE:(Tryz.prog.info? 87).map (fun i=>(i.zero,i.size,i.bytes))=some (some (.agg #[.string { data:=#[] },.int .i64 0]),2,24):=by kernel_rfl
 obtain ⟨i0,hi0,hz0,hz1,hz2⟩:=info_parts iE
 have hsrc:Src Tryz.prog i0.size 81 (.slice (some ⟨vb,voff,none⟩) 1 vc) 1 vs w:=by
  rw [hz1]
  exact Src.ofSlice w t81 ⟨vb,voff,none⟩ 1 vc vs (by omega) (fun j u hj=>by rw [Addr.add_lit]; exact hvs j u hj) h1v
 have hold:(Builtin.firstCells i0.size n (.slice base n c)).run Tryz.prog w.drew=.ok cs.toArray w.drew:=by
  rw [hz1]
  cases base with
  | none=>
   have h0:=hnil rfl
   subst h0
   rw [lP1.1 (by omega:cs.length=0)]
   exact run_firstCells_none w.drew 2 0 0 c
  | some a=>exact run_firstCells_some w.drew 2 n a n c cs (by omega) (fun j v hj=>hcs a rfl j v hj)
 have hrun:∀ ty,(Builtin.append_ #[81,81] ty #[.slice base n c,.slice (some ⟨vb,voff,none⟩) 1 vc]).run Tryz.prog w=_:=fun ty=>
  run_append_grow_src w 81 81 ty 87 i0 _ t81 hi0 hz0 base n c cs hold _ 1 vs hsrc hroom (by omega) (by rw [hz2]; exact growslice_fits hroom hbig)
 go_enter Tryz.func179,Tryz.ntmps179
 cases base with
 | none=>
  have h0:=hnil rfl
  subst h0
  go_wp2_with (at_builtin; refine Lib.wpList_append_run _ rfl _ _ _ _ rfl _ _ rfl rfl _ _ (hrun _) ?_)
  go_ret
  exact ⟨rfl,rfl⟩
 | some a=>
  obtain ⟨ab,ao,asp⟩:=a
  go_wp2_with (at_builtin; refine Lib.wpList_append_run _ rfl _ _ _ _ rfl _ _ rfl rfl _ _ (hrun _) ?_)
  all_goals (go_ret; exact ⟨rfl,rfl⟩)
theorem tN (b off n c i vb voff vc:Nat) (cs vs:List Value) (w:World) (hi:i<n) (hnc:n≤c) (hroom:c<n+1) (hbig:(n+1)*24≤140737488355328)
  (hcl:cs.length=n*2) (hvl:vs.length=2)
  (hcs:dF w b off cs)
  (hvs:dF w vb voff vs) (h1c:xE cs) (h1v:xE vs) :
  Calls Tryz.prog 179 #[.slice (some ⟨b,off,none⟩) n c,.int .i64 i,.slice (some ⟨vb,voff,none⟩) 1 vc] w fun e w'=>
   e=.returned (.slice (some ⟨w.heap.size,0,none⟩) (n+1) (grownCap w (n+1) c 87)) ∧
   w'=(((w.alloc (.cells ((cs.take (i*2)).toArray++Builtin.zeroCells (Value.agg #[.string { data:=#[] },.int .i64 0]).cells (n+1-i)++Builtin.zeroCells (Value.agg #[.string { data:=#[] },.int .i64 0]).cells (grownCap w (n+1) c 87-(n+1))) 87)).drew.setCells w.heap.size (i*2) vs).drew).setCells w.heap.size ((i+1)*2) (cs.drop (i*2)):=by
 obtain ⟨mixed,t0,a0,z0,v0,t3,a3,z3,v3,t4,a4,z4,v4,t81,a81,z81,v81,v87⟩:=aiD
 have iE:(Tryz.prog.info? 87).map (fun i=>(i.zero,i.size,i.bytes))=some (some (.agg #[.string { data:=#[] },.int .i64 0]),2,24):=by kernel_rfl
 obtain ⟨i0,hi0,hz0,hzs,hzb⟩:=info_parts iE
 have hz2:¬ ((i:Int)=(n:Int)):=by omega
 have hz3:(c:Int)<(n:Int)+1:=by omega
 have hsz:(Tryz.prog.info? 87).map (·.size)=some 2:=by rw [hi0]; simp [hzs]
 have hbw:b<w.heap.size:=block_lt_of_cell (hcs 0 _ (lJ (by omega)))
 have hvw:vb<w.heap.size:=block_lt_of_cell (hvs 0 _ (lJ (by omega)))
 have hkk:(n:Int)+1-(i:Int)=((n+1-i:Nat):Int):=by omega
 have hik:i+(n+1-i)=n+1:=by omega
 have hold:(Builtin.firstCells i0.size i (.slice (some ⟨b,off,none⟩) i c)).run Tryz.prog w.drew=.ok (cs.take (i*2)).toArray w.drew:=by
  rw [hzs]
  exact run_firstCells_some w.drew 2 i ⟨b,off,none⟩ i c (cs.take (i*2)) (by rw [lL]; omega) (fun j v hj=>by
   rw [Addr.add_lit]
   rw [lI1] at hj
   split at hj
   ·exact hcs j v hj
   ·cases hj)
 have hrz:∀ ty,(Builtin.append_ #[81,3] ty #[.slice (some ⟨b,off,none⟩) i c,.int .i64 ((n:Int)+1-(i:Int))]).run Tryz.prog w =
   .ok (.slice (some ⟨w.heap.size,0,none⟩) (n+1) (grownCap w (n+1) c 87)) (w.drew.alloc (.cells ((cs.take (i*2)).toArray++Builtin.zeroCells (Value.agg #[.string { data:=#[] },.int .i64 0]).cells (n+1-i)++Builtin.zeroCells (Value.agg #[.string { data:=#[] },.int .i64 0]).cells (grownCap w (n+1) c 87-(n+1))) 87)):=fun ty=>by
  have h:=Lib.run_append_grow_zeros w 81 3 ty 87 i0 _ .i64 .i64 t81 t3 hi0 hz0 (some ⟨b,off,none⟩) i c (cs.take (i*2)) hold (n+1-i) (by omega) (by omega) (by omega) (by omega) (by rw [hzb]; omega) (by rw [hzb,hik]; exact growslice_fits hroom hbig)
  rw [hik] at h
  rw [hkk]
  exact h
 obtain ⟨G,hG⟩:∃ G,G=grownCap w (n+1) c 87:=⟨_,rfl⟩
 obtain ⟨ROW,hROW⟩:∃ ROW:Array Value,ROW=(cs.take (i*2)).toArray++Builtin.zeroCells (Value.agg #[.string { data:=#[] },.int .i64 0]).cells (n+1-i)++Builtin.zeroCells (Value.agg #[.string { data:=#[] },.int .i64 0]).cells (G-(n+1)):=⟨_,rfl⟩
 rw [← hG] at hrz ⊢
 rw [← hROW] at hrz ⊢
 have hRl:(n+1)*2≤ROW.size:=by
  rw [hROW]
  simp [Builtin.zeroCells,Value.cells]
  omega
 obtain ⟨W1,hW1⟩:∃ W1,W1=w.drew.alloc (.cells ROW 87):=⟨_,rfl⟩
 rw [← hW1] at hrz
 have hN:∀ j,j<(n+1)*2→(W1.cell? ⟨w.heap.size,j,none⟩).isSome=true:=fun j hj=>by
  rw [hW1,World.cell?_alloc_at (w:=w.drew) ROW _ w.heap.size j rfl,lU (by omega)]; rfl
 have hNf:∀ j,W1.frozen? ⟨w.heap.size,j,none⟩=false:=fun j=>by rw [hW1]; exact World.frozen?_alloc_at (w:=w.drew) ROW _ w.heap.size j rfl
 have hOb:∀ j v,w.cell? ⟨b,j,none⟩=some v→W1.cell? ⟨b,j,none⟩=some v:=fun j v h=>by rw [hW1,World.cell?_alloc_past (w:=w.drew) _ b j hbw]; exact h
 have hOv:∀ j v,w.cell? ⟨vb,j,none⟩=some v→W1.cell? ⟨vb,j,none⟩=some v:=fun j v h=>by rw [hW1,World.cell?_alloc_past (w:=w.drew) _ vb j hvw]; exact h
 have mn1:(n-i).min (n-i)=n-i:=by show min _ _=_; omega
 have mn2:(1:Nat).min (n+1-i)=1:=by show min _ _=_; omega
 have hcpA:∀ (W:World),(∀ x,W.cell? x=W1.cell? x)→(∀ x,W.frozen? x=W1.frozen? x)→∀ ty dc,(Builtin.copy_ #[81,81] ty #[.slice (some ⟨w.heap.size,i*2,none⟩) (n+1-i) dc,.slice (some ⟨vb,voff,none⟩) 1 vc]).run Tryz.prog W=.ok (goInt (1:Nat)) (W.setCells w.heap.size (i*2) vs):=fun W hWc hWf ty dc=>by
  have:=bU (P:=Tryz.prog) 2 W 81 81 ty 87 w.heap.size (i*2) (n+1-i) dc ⟨vb,voff,none⟩ 1 vc vs t81 hsz (by rw [hvl,mn2])
   (fun j v hj=>by rw [Addr.add_lit,hWc]; exact hOv _ v (hvs j v hj))
   (fun j hj=>by rw [hWc]; exact hN _ (by omega)) (fun j hj=>by rw [hWf]; exact hNf _) h1v
  rw [this,mn2]
 have hGn:n+1≤G:=by rw [hG]; exact grownCap_ge w _ _ _
 have hG63:G≤9223372036854775807:=by
  have:=grownCap_le_maxLen w (n+1) c 87 (by unfold maxLen; omega)
  rw [← hG] at this
  unfold maxLen at this
  omega
 have hGi:¬ (G=i):=by omega
 have hGim:¬ (G=i+1):=by omega
 have hci:¬ (c=i):=by omega
 have hbN:b≠w.heap.size:=by omega
 have hdl:(cs.drop (i*2)).length=(n-i)*2:=by rw [lN1,hcl]; omega
 have hcpB:∀ (W:World),(∀ x,W.cell? x=(W1.setCells w.heap.size (i*2) vs).cell? x)→(∀ x,W.frozen? x=(W1.setCells w.heap.size (i*2) vs).frozen? x)→∀ ty dc sc,(Builtin.copy_ #[81,81] ty #[.slice (some ⟨w.heap.size,(i+1)*2,none⟩) (n-i) dc,.slice (some ⟨b,off+i*2,none⟩) (n-i) sc]).run Tryz.prog W=.ok (goInt (n-i:Nat)) (W.setCells w.heap.size ((i+1)*2) (cs.drop (i*2))):=fun W hWc hWf ty dc sc=>by
  have:=bU (P:=Tryz.prog) 2 W 81 81 ty 87 w.heap.size ((i+1)*2) (n-i) dc ⟨b,off+i*2,none⟩ (n-i) sc (cs.drop (i*2)) t81 hsz (by rw [hdl,mn1])
   (fun j v hj=>by
    rw [Addr.add_lit,hWc,World.cell?_setCells_out _ _ _ _ _ (fun h _=>absurd h hbN),lK2]
    exact hOb _ v (hcs (i*2+j) v (by rwa [lJ1] at hj)))
   (fun j hj=>by rw [hWc]; exact isSome_setCells _ _ _ _ (fun t ht=>hN _ (by omega)) _ (hN _ (by omega)))
   (fun j hj=>by rw [hWf,World.frozen?_setCells]; exact hNf _) (fun v hv=>h1c v (lE2 hv))
  rw [this,mn1]
 subst hW1
 have hE1:∀ x,((w.alloc (.cells ROW 87)).drew).cell? x=(w.drew.alloc (.cells ROW 87)).cell? x:=fun x=>rfl
 have hE2:∀ x,((w.alloc (.cells ROW 87)).drew).frozen? x=(w.drew.alloc (.cells ROW 87)).frozen? x:=fun x=>rfl
 have hF1:∀ x,(((w.alloc (.cells ROW 87)).drew.setCells w.heap.size (i*2) vs).drew).cell? x=((w.drew.alloc (.cells ROW 87)).setCells w.heap.size (i*2) vs).cell? x:=fun x=>rfl
 have hF2:∀ x,(((w.alloc (.cells ROW 87)).drew.setCells w.heap.size (i*2) vs).drew).frozen? x=((w.drew.alloc (.cells ROW 87)).setCells w.heap.size (i*2) vs).frozen? x:=fun x=>rfl
 have hw1:IntKind.i64.wrap ((i:Int)+1)=(i:Int)+1:=by rw [IntKind.wrap_i64]; omega
 have hb1:(0:Int)≤(i:Int)+1:=by omega
 have hin:i≤n:=by omega
 have htn:((i:Int)+1).toNat=i+1:=by omega
 have hb3:(i:Int)≤(n:Int):=by omega
 clear hkk hik hold hROW hG hRl
 go_enter Tryz.func179,Tryz.ntmps179
 go_wp2_with (first
  | (at_builtin; refine Lib.wpList_append_run _ rfl _ _ _ _ rfl _ _ rfl rfl _ _ (hrz _) ?_)
  | (at_builtin; refine wpList_copy_runI _ rfl _ _ 81 81 rfl _ _ rfl rfl (hcpA _ hE1 hE2 _ _) ?_)
  | (at_builtin; refine wpList_copy_runI _ rfl _ _ 81 81 rfl _ _ rfl rfl (hcpB _ (fun _=>rfl) (fun _=>rfl) _ _ _) ?_))
 go_region_law_o (refine step_copy_runI rfl _ _ 81 81 rfl (.slice (some ⟨w.heap.size,(i+1)*2,none⟩) (n-i) (G-(i+1))) (.slice (some ⟨b,off+i*2,none⟩) (n-i) (c-i)) (by simp [Act.eval,Act.put]) (by simp [Act.eval,Act.put]) (hcpB _ hF1 hF2 3 (G-(i+1)) (c-i)) ?_)
 go_wp2
 go_ret
 exact ⟨rfl,rfl⟩
theorem qS (l:List Ent) (x:Ent) (i:Nat) (hi:i≤l.length) (hbig:(l.length+1)*24≤140737488355328) :
  bZ Tryz.prog 179 [.own 2 (l.map Ent.row),.int .i64 i,.own 2 [Ent.row x]] (.own 2 ((l.take i++x::l.drop i).map Ent.row)) [.undef,.undef,.undef]:=by
 have hr6:∀ r ∈ l.map Ent.row,r.length=2:=fun r hr=>by obtain ⟨x,_,rfl⟩:=lZ1.1 hr; rfl
 have hkn:(l.map Ent.row).flatten.all cP=true:=by
  rw [lR]
  intro t ht
  obtain ⟨r,hr,ht⟩:=List.mem_flatten.1 ht
  obtain ⟨x,_,rfl⟩:=lZ1.1 hr
  exact lR.1 (show (Ent.row x).all cP=true from rfl) t ht
 have hl:(l.map Ent.row).length=l.length:=lR1 _
 rw [show (l.take i++x::l.drop i).map Ent.row=(l.map Ent.row).take i++Ent.row x::(l.map Ent.row).drop i by simp]
 exact ai9 (s:=2) (B:=24) (el:=87) (Z:=.agg #[.string { data:=#[] },.int .i64 0]) ⟨_,Tryz.func179,by kernel_rfl,by kernel_rfl⟩ (by decide) (by decide) rfl qY n4 n5 tN _ _ i hr6 rfl hkn rfl (by omega) (by rw [hl]; exact hbig)
end
section
open Go.Proofs Go.Shelf
def qZ:Go.Shelf.Ren:=⟨fun | 143=>281 | 219=>300 | 217=>310 | 225=>311 | 224=>312 | 267=>313 | 266=>322 | 314=>323 | n=>n,
 fun | 9=>9 | 3=>3 | 4=>4 | 5=>5 | 46=>157 | 146=>292 | 51=>200 | n=>n,
 fun | 1=>0 | n=>n⟩
theorem aak:Lays.n143 Tryz.prog qZ where
 mixed:=by kernel_rfl
 f143:=Tryz.func281.trans (congrArg some (by kernel_rfl))
 f217:=Tryz.func310.trans (congrArg some (by kernel_rfl))
 f219:=Tryz.func300.trans (congrArg some (by kernel_rfl))
 f224:=Tryz.func312.trans (congrArg some (by kernel_rfl))
 f225:=Tryz.func311.trans (congrArg some (by kernel_rfl))
 f266:=Tryz.func322.trans (congrArg some (by kernel_rfl))
 f267:=Tryz.func313.trans (congrArg some (by kernel_rfl))
 f314:=Tryz.func323.trans (congrArg some (by kernel_rfl))
 t3:=Tryz.underlying3
 a3:=Tryz.isAgg3
 z3:=Tryz.sizeOf3
 v3:=Tryz.zeroValue3
 t4:=Tryz.underlying4
 a4:=Tryz.isAgg4
 z4:=Tryz.sizeOf4
 v4:=Tryz.zeroValue4
 t5:=Tryz.underlying5
 a5:=Tryz.isAgg5
 z5:=Tryz.sizeOf5
 v5:=Tryz.zeroValue5
 t9:=Tryz.underlying9
 a9:=Tryz.isAgg9
 z9:=Tryz.sizeOf9
 v9:=Tryz.zeroValue9
 t46:=Tryz.underlying157
 a46:=Tryz.isAgg157
 z46:=Tryz.sizeOf157
 v46:=Tryz.zeroValue157
 t51:=Tryz.underlying200
 a51:=Tryz.isAgg200
 z51:=Tryz.sizeOf200
 v51:=Tryz.zeroValue200
 t146:=Tryz.underlying292
 a146:=Tryz.isAgg292
 z146:=Tryz.sizeOf292
 v146:=Tryz.zeroValue292
 g1:=by kernel_rfl
def q0:Go.Shelf.Ren:=⟨fun | 138=>280 | 195=>297 | 218=>299 | 143=>281 | 219=>300 | 217=>310 | 225=>311 | 224=>312 | 267=>313 | 266=>322 | 314=>323 | n=>n,
 fun | 9=>9 | 3=>3 | 4=>4 | 5=>5 | 0=>0 | 46=>157 | 146=>292 | 51=>200 | n=>n,
 fun | 1=>0 | n=>n⟩
theorem aal:Lays.n138 Tryz.prog q0 where
 mixed:=by kernel_rfl
 f138:=Tryz.func280.trans (congrArg some (by kernel_rfl))
 f143:=Tryz.func281.trans (congrArg some (by kernel_rfl))
 f195:=Tryz.func297.trans (congrArg some (by kernel_rfl))
 f217:=Tryz.func310.trans (congrArg some (by kernel_rfl))
 f218:=Tryz.func299.trans (congrArg some (by kernel_rfl))
 f219:=Tryz.func300.trans (congrArg some (by kernel_rfl))
 f224:=Tryz.func312.trans (congrArg some (by kernel_rfl))
 f225:=Tryz.func311.trans (congrArg some (by kernel_rfl))
 f266:=Tryz.func322.trans (congrArg some (by kernel_rfl))
 f267:=Tryz.func313.trans (congrArg some (by kernel_rfl))
 f314:=Tryz.func323.trans (congrArg some (by kernel_rfl))
 t0:=Tryz.underlying0
 a0:=Tryz.isAgg0
 z0:=Tryz.sizeOf0
 v0:=Tryz.zeroValue0
 t3:=Tryz.underlying3
 a3:=Tryz.isAgg3
 z3:=Tryz.sizeOf3
 v3:=Tryz.zeroValue3
 t4:=Tryz.underlying4
 a4:=Tryz.isAgg4
 z4:=Tryz.sizeOf4
 v4:=Tryz.zeroValue4
 t5:=Tryz.underlying5
 a5:=Tryz.isAgg5
 z5:=Tryz.sizeOf5
 v5:=Tryz.zeroValue5
 t9:=Tryz.underlying9
 a9:=Tryz.isAgg9
 z9:=Tryz.sizeOf9
 v9:=Tryz.zeroValue9
 t46:=Tryz.underlying157
 a46:=Tryz.isAgg157
 z46:=Tryz.sizeOf157
 v46:=Tryz.zeroValue157
 t51:=Tryz.underlying200
 a51:=Tryz.isAgg200
 z51:=Tryz.sizeOf200
 v51:=Tryz.zeroValue200
 t146:=Tryz.underlying292
 a146:=Tryz.isAgg292
 z146:=Tryz.sizeOf292
 v146:=Tryz.zeroValue292
 g1:=by kernel_rfl
def jR:Go.Shelf.Ren:=⟨fun | 156=>277 | 165=>293 | 166=>294 | 169=>295 | 240=>307 | 241=>308 | 276=>320 | 277=>321 | n=>n,
 fun | 31=>36 | 9=>9 | 3=>3 | 4=>4 | 0=>0 | 20=>20 | 72=>259 | 76=>263 | 70=>257 | 37=>22 | 75=>262 | 127=>275 | 164=>285 | 5=>5 | 80=>265 | n=>n,
 fun | n=>n⟩
theorem qT:Lays.n156 Tryz.prog jR where
 mixed:=by kernel_rfl
 f156:=Tryz.func277.trans (congrArg some (by kernel_rfl))
 f165:=Tryz.func293.trans (congrArg some (by kernel_rfl))
 f166:=Tryz.func294.trans (congrArg some (by kernel_rfl))
 f169:=Tryz.func295.trans (congrArg some (by kernel_rfl))
 f240:=Tryz.func307.trans (congrArg some (by kernel_rfl))
 f241:=Tryz.func308.trans (congrArg some (by kernel_rfl))
 f276:=Tryz.func320.trans (congrArg some (by kernel_rfl))
 f277:=Tryz.func321.trans (congrArg some (by kernel_rfl))
 t0:=Tryz.underlying0
 a0:=Tryz.isAgg0
 z0:=Tryz.sizeOf0
 v0:=Tryz.zeroValue0
 t3:=Tryz.underlying3
 a3:=Tryz.isAgg3
 z3:=Tryz.sizeOf3
 v3:=Tryz.zeroValue3
 t4:=Tryz.underlying4
 a4:=Tryz.isAgg4
 z4:=Tryz.sizeOf4
 v4:=Tryz.zeroValue4
 t9:=Tryz.underlying9
 a9:=Tryz.isAgg9
 z9:=Tryz.sizeOf9
 v9:=Tryz.zeroValue9
 t20:=Tryz.underlying20
 a20:=Tryz.isAgg20
 z20:=Tryz.sizeOf20
 v20:=Tryz.zeroValue20
 t31:=Tryz.underlying36
 a31:=Tryz.isAgg36
 z31:=Tryz.sizeOf36
 v31:=Tryz.zeroValue36
 t37:=Tryz.underlying22
 a37:=Tryz.isAgg22
 z37:=Tryz.sizeOf22
 v37:=Tryz.zeroValue22
 t70:=Tryz.underlying257
 a70:=Tryz.isAgg257
 z70:=Tryz.sizeOf257
 v70:=Tryz.zeroValue257
 t72:=Tryz.underlying259
 a72:=Tryz.isAgg259
 z72:=Tryz.sizeOf259
 v72:=Tryz.zeroValue259
 t75:=Tryz.underlying262
 a75:=Tryz.isAgg262
 z75:=Tryz.sizeOf262
 v75:=Tryz.zeroValue262
 t76:=Tryz.underlying263
 a76:=Tryz.isAgg263
 z76:=Tryz.sizeOf263
 v76:=Tryz.zeroValue263
 t127:=Tryz.underlying275
 a127:=Tryz.isAgg275
 z127:=Tryz.sizeOf275
 v127:=Tryz.zeroValue275
 t164:=Tryz.underlying285
 a164:=Tryz.isAgg285
 z164:=Tryz.sizeOf285
 v164:=Tryz.zeroValue285
end
section
open Go.Proofs Go.RowKit
def g6 (s:aA):List TV:=[.str s]
theorem aam {P:Program} {f:Nat} {a b:aA} {r:Int} (hE:j6 P f) (run:∀ w,Calls P f #[b8 a,b8 b] w fun e w'=>e=.returned (.int .i64 r)∧w'=w):bZ P f [.str a,.str b] (.int .i64 r) [.undef,.undef]:=by
 refine ⟨hE,rfl,?_⟩
 intro w vs F X h h1 h2 h3
 cases h with
 | str _ _ _ vs _ h=>
  cases h with
  | str _ _ _ vs _ h=>
   cases h with
   | nil _ _ hF hX=>
    refine (run w).mono ?_
    rintro e w' ⟨rfl,rfl⟩
    exact ⟨_,F,X,rfl,.int _ _ _ _ _ _ (.undef _ _ _ _ _ (.undef _ _ _ _ _ (.nil _ _ hF hX))),h1,h2,⟨lL1 _,.refl _⟩,fun b _ _=>rfl,fun b hb=>.inl hb,fun b hb=>⟨.inl hb,h3 b hb⟩⟩
theorem aiE (s:aA):bZ Tryz.prog 281 [.str s,.str [47]] (.int .i64 (Lib.indexByte s 47)) [.undef,.undef]:=
 aam ⟨_,Tryz.func281,by kernel_rfl,by kernel_rfl⟩ fun w=>Any.strings_Index_one aak ⟨s.toArray⟩ 47 w
theorem aiF (s:aA):bZ Tryz.prog 280 [.str s,.str [47]] (.int .i64 (s.count 47:Nat)) [.undef,.undef]:=
 aam ⟨_,Tryz.func280,by kernel_rfl,by kernel_rfl⟩ fun w=>Any.strings_Count_one aal ⟨s.toArray⟩ 47 w
theorem aml (s:aA):(Lib.indexByte s 47=-1∧∀ k,(h:k<s.length)→s[k]≠47)∨∃ m,∃ h:m<s.length,Lib.indexByte s 47=(m:Nat)∧s[m]=47∧∀ k,k<m→(h:k<s.length)→s[k]≠47:=by
 induction s with
 | nil=>exact .inl ⟨rfl,fun k h=>by simp at h⟩
 | cons c s ih=>
  by_cases hc:c=47
  ·exact .inr ⟨0,by simp,by simp [Lib.indexByte,hc],by simpa using hc,fun k hk=>absurd hk (Nat.not_lt_zero _)⟩
  ·have hb:(c == 47)=false:=by simpa using hc
   rcases ih with ⟨h1,h2⟩ | ⟨m,h1,h2,h3,h4⟩
   ·refine .inl ⟨by simp [Lib.indexByte,hb,h1],fun k hk=>?_⟩
    cases k with
    | zero=>simpa using hc
    | succ k=>simpa using h2 k (by simpa using hk)
   ·refine .inr ⟨m+1,by simpa using h1,?_,by simpa using h3,fun k hk hl=>?_⟩
    ·have:((m:Int) == -1)=false:=by simp
     simp [Lib.indexByte,hb,h2,this]
    ·cases k with
     | zero=>simpa using hc
     | succ k=>simpa using h4 k (by omega) (by simpa using hl)
theorem aan:Builder.Extra Tryz.prog jR where
 sizeBuilder:=by kernel_rfl
 liesBuilder:=by kernel_rfl
 t5:=Tryz.underlying5
 a5:=Tryz.isAgg5
 z5:=Tryz.sizeOf5
 v5:=Tryz.zeroValue5
 infoByte:=by kernel_rfl
 cellsByte:=by kernel_rfl
 sizeByte:=by kernel_rfl
 neB5:=by decide
theorem aiG {w:World} {o:Bool} {F:aF}:∀ (l:List aA) {cs:List Value},Row w o F cs (l.map g6).flatten→cs=l.map b8∧∀ b,F b=0:=by
 intro l
 induction l generalizing F with
 | nil=>
  intro cs h
  cases h with
  | nil _ _ hF=>exact ⟨rfl,hF⟩
 | cons n l ih=>
  intro cs h
  have e:((n::l).map g6).flatten=.str n::(l.map g6).flatten:=by simp [g6]
  rw [e] at h
  cases h with
  | str _ _ _ vs _ h=>
   obtain ⟨e1,e2⟩:=ih h
   exact ⟨by rw [e1]; rfl,e2⟩
theorem alL (l:List aA) (hl:l.length<2^40) (hn:(Lib.join l [47]).length<2^47):bZ Tryz.prog 277 [.ext 1 (l.map g6),.str [47]] (.str (Lib.join l [47])) [.undef,.undef]:=by
 refine ⟨⟨_,Tryz.func277,by kernel_rfl,by kernel_rfl⟩,rfl,?_⟩
 intro w vs F X h h1 h2 h3
 have fin:∀ {e:Ending} {w':World} (h0:∀ b,F b=0),e=.returned (.string ⟨(Lib.join l [47]).toArray⟩)→Below w.heap.size w w'→∃ v F' X',e=.returned v∧RepA w' lk0 F' X' (v::vs) [.str (Lib.join l [47]),.undef,.undef]∧(∀ b,F' b≤1)∧(∀ b,F' b=0∨X' b=0) ∧
   Grows w w'∧(∀ b,b<w.heap.size→F b=0→w'.heap[b]?=w.heap[b]?)∧(∀ b,F' b≠0→F b≠0∨w.heap.size≤b)∧(∀ b,X' b≠0→(X b≠0∨F b≠0∨w.heap.size≤b)∧b<w'.heap.size):=by
  intro e w' h0 he hb
  have hlen:=h.length
  match vs,hlen with
  | [v1,v2],_=>exact ⟨_,fun _=>0,fun _=>0,he,.str _ _ _ _ _ (.undef _ _ _ _ _ (.undef _ _ _ _ _ (.nil _ _ (fun _=>rfl) (fun _=>rfl)))),fun b=>lE3 _,fun b=>.inl rfl,⟨hb.size,⟨hb.os,hb.output⟩⟩,fun b hlt _=>hb.block b hlt,fun b hb=>absurd rfl hb,fun b hb=>absurd rfl hb⟩
 cases h with
 | ext _ _ X1 X2 _ _ v vs _ hr hn' hX=>
  cases hn' with
  | str _ _ _ vs _ h0=>
   cases h0 with
   | nil _ _ hF hX2=>
    by_cases he:l=[]
    ·subst he
     have hv:∃ a c,v=.slice a 0 c:=by
      cases hr with
      | ext0 _ _ a cap _ _ _=>exact ⟨a,cap,rfl⟩
      | ext _ _ _ _ _ a cap _ _ _ _ _ _ _ _ _ _=>exact ⟨some a,cap,rfl⟩
     obtain ⟨a,c,rfl⟩:=hv
     refine (Any.strings_Join_none qT aan a c ⟨#[47]⟩ w).mono ?_
     rintro e w' ⟨he,rfl⟩
     exact fin hF he (Below.refl _ _)
    ·generalize hes:l.map g6=es at hr
     cases hr with
     | ext0 _ _ a cap _ _ _=>simp at hes; exact absurd hes he
     | ext _ F1 F2 _ _ a cap cs _ _ hle hs hcs hc g1 g2 hFF=>
      subst hes
      obtain ⟨e1,_⟩:=aiG l g1
      have hcl:cs.length=l.length:=by rw [e1,lR1]
      have hpos:0<l.length:=List.length_pos_iff.2 he
      have hc0:=hc 0 (by omega)
      rw [show a.add 0=a from rfl,lJ (by omega)] at hc0
      have hsp:a.spot=none:=by
       unfold World.cell? at hc0
       split at hc0
       ·split at hc0
        ·cases hc0
        ·rename_i h; simpa using h
       ·cases hc0
      obtain ⟨ab,ao,asp⟩:=a
      simp only at hsp
      subst hsp
      have hbl:ab<w.heap.size:=World.block_lt_of_cell? _ _ hc0
      have hml:(l.map g6).length=l.length:=lR1 _
      rw [hml] at hle
      have hxs:(l.map fun s=>(⟨s.toArray⟩:ByteArray)).map (fun x=>x.data.toList)=l:=by rw [lS4]; simp [Function.comp_def]
      have:=Any.strings_Join qT aan ab ao cap (l.map fun s=>(⟨s.toArray⟩:ByteArray)) ⟨#[47]⟩ w (fun j x hx=>by
       rw [lW1] at hx
       cases hj:l[j]? with
       | none=>rw [hj] at hx; cases hx
       | some s=>
        rw [hj] at hx
        have hjl:j<l.length:=(lD.1 hj).1
        have:=hc j (by omega)
        rw [e1,lW1,hj] at this
        simp only [lB,Option.some.injEq] at hx
        subst hx
        rw [← Addr.add_lit]; exact this) hbl (by rw [lR1]; omega) (by rw [lR1]; exact hle) (by rw [hxs]; show (Lib.join l [47]).length≤_; omega)
      rw [hxs,lR1,← hml] at this
      refine this.mono ?_
      rintro e w' ⟨he,hb⟩
      exact fin hF he hb
end
def aeb (done:List aA) (n:Nat):List aA:=done++List.replicate (n-done.length) []
theorem agE (n:Nat):(aeb [] n).map g6=List.replicate n [TV.str []]:=by simp [aeb,g6]
theorem w8 {done:List aA} {n:Nat} (h:done.length≤n):(aeb done n).length=n:=by simp [aeb]; omega
theorem acS {done:List aA} {n:Nat} (h:done.length<n) (x:aA):((aeb done n).map g6).modify done.length (fun r=>TV.str x::r.drop 1)=(aeb (done++[x]) n).map g6:=by
 obtain ⟨m,hm⟩:∃ m,n-done.length=m+1:=⟨n-done.length-1,by omega⟩
 have e:n-(done++[x]).length=m:=by simp; omega
 rw [aeb,aeb,hm,e,lR2,lR2,lR2,List.replicate_succ,lQ]
 have:=n9 (done.map g6) (g6 []::(List.replicate m []).map g6) done.length (fun r=>TV.str x::r.drop 1) (by simp)
 rw [this,lR1,Nat.sub_self,lG4,lU2]; rfl
theorem agF {done:List aA} {n:Nat}:((aeb done n).map g6).take done.length=done.map g6:=by
 rw [← List.map_take,aeb,List.take_left']; rfl
theorem aao (s:aA):s.count 47≤s.length:=List.count_le_length
theorem abQ (s:aA) (hl:s.length<2^40):bZ Tryz.prog 239 [.str s,.str [47],.int .i64 0,.int .i64 (-1)] (.own 1 ((a8 s).map g6)) [.undef,.undef,.undef,.undef]:=by
 have hc:=aao s
 have hm:¬ ((s.length:Nat):Int)+1<((s.count 47:Nat):Int)+1:=by omega
 refine U y8 [] 3855 [] fun w hP hQ=>?_
 unfold qI
 refine N ?_
 refine K (aiF s) ?_
 have ha:((s.count 47:Nat):Int)+1-1=(s.count 47:Nat):=by omega
 have hb:(((s.count 47:Nat):Int)+1).toNat=s.count 47+1:=by omega
 simp only [lH hm,ha,hb,← agE]
 refine rG [11] ?_
 refine N ?_
 refine dG [11] (fun x:List aA × aA=>[(0,.str x.2),(9,.own 1 ((aeb x.1 (s.count 47+1)).map g6)),(10,.int .i64 (x.1.length:Nat))]) (fun x=>x.1++a8 x.2=a8 s∧x.2.length<2^40) (fun x=>x.2.count 47) (([],s)) hP hQ (rfl) (⟨rfl,hl⟩) ?_
 rintro ⟨done,rest⟩ ⟨hd,hr⟩ w1 hP1 hQ1
 refine N1 ?_
 simp only at hd hr
 have hn:done.length+rest.count 47=s.count 47:=by
  have:=congrArg List.length hd
  rw [lK1,l6,l6] at this; omega
 have hpl:=w8 (done:=done) (n:=s.count 47+1) (by omega)
 rcases aml rest with ⟨h1,h2⟩ | ⟨m,h1,h2,h3,h4⟩
 ·have fin:done++[rest]=a8 s:=by rw [← hd,tL h2]
  have hz:rest.count 47=0:=List.count_eq_zero.2 fun hmem=>by
   obtain ⟨k,hk,e⟩:=lT1 hmem
   exact h2 k hk e
  (first | with_reducible refine gQ _ ?_ ?_ | refine gR _ ?_ ?_) <;> intro g
  ·exfalso; omega
  ·have hdl:((done.length:Nat):Int)<((aeb done (s.count 47+1)).length:Nat):=by omega
   have e1:(((done.length:Nat):Int)+1-0).toNat=done.length+1:=by omega
   have e2:0+(done.length+1)≤s.count 47+1:=by omega
   have e3:=acS (done:=done) (n:=s.count 47+1) (by omega) rest
   have e4:=agF (done:=done++[rest]) (n:=s.count 47+1)
   rw [fin,← fin,lK1] at e4
   have hp2:=w8 (done:=done++[rest]) (n:=s.count 47+1) (by simp; omega)
   have hz:=And.intro hpl (And.intro hp2 (And.intro e1 (And.intro e2 e3)))
   refine Nz1 ?_
   rw [← fin]
   exact congrArg (AV.own 1) e4
 ·have hx:=agq h1 h3 h4
  have hy:=tK h1 h3 h4
  (first | with_reducible refine gQ _ ?_ ?_ | refine gR _ ?_ ?_) <;> intro g
  ·have e5:¬ ((m:Nat):Int)<0:=by omega
   have e6:(((m:Nat):Int)-0).toNat=m:=by omega
   have e7:(((rest.length:Nat):Int)-((m:Int)+1)).toNat=rest.length-(m+1):=by omega
   have e9:(rest.drop (m+1)).take (rest.length-(m+1))=rest.drop (m+1):=lD2 (by simp)
   have e8:(((m:Nat):Int)+1).toNat=m+1:=by omega
   have e3:=acS (done:=done) (n:=s.count 47+1) (by omega) (rest.take m)
   have hp2:=w8 (done:=done++[rest.take m]) (n:=s.count 47+1) (by simp; omega)
   refine N1 ?_
   have hz:=And.intro h2 (And.intro e5 (And.intro e6 (And.intro e7 (And.intro e8 (And.intro e9 (And.intro hpl (And.intro hp2 e3)))))))
   refine Kz1 (aiE rest) ?_
   exact ⟨(done++[rest.take m],rest.drop (m+1)),by simp,⟨by rw [← hd,hy,lU2]; rfl,by simp only [lN1]; omega⟩,by simp only; omega⟩
  ·exfalso; omega
theorem akw (s:aA) (hl:s.length<2^40):bZ Tryz.prog 182 [.str s,.str [47]] (.own 1 ((a8 s).map g6)) [.undef,.undef]:=by
 refine U afD [] 19 [] fun w hP hQ=>?_
 unfold y0
 refine N ?_
 exact K (abQ s hl) trivial
theorem aap (s:aA) (hl:s.length<2^48):bZ Tryz.prog 241 [.str s] (.bool (!aS s)) [.undef]:=by
 refine U wM [] 5 [] fun w hP hQ=>?_
 unfold oQ
 refine N ?_
 exact K (bY s hl) trivial
theorem pI {g:Nat} {p:aA→Bool} (l:List aA) (hl:l.length<2^48) (hc:∀ v ∈ l,bZ Tryz.prog g [.str v] (.bool (p v)) [.undef]) :
  bZ Tryz.prog 282 [.ext 1 (l.map g6),.fn g []] (.int .i64 (p8 (l.findIdx? p))) [.undef,.undef]:=by
 refine U mX [] 435 [] fun w hP hQ=>?_
 unfold fX
 refine N ?_
 refine rG [4,5] ?_
 refine N ?_
 refine dG [4,5] (fun i:Nat=>[(8,.int .i64 i)]) (fun i=>i≤l.length∧∀ k,k<i→(h:k<l.length)→p l[k]=false) (fun i=>l.length-i) (0) hP hQ (rfl) (by simp) ?_
 rintro i ⟨hi,hk⟩ w1 hP1 hQ1
 refine N1 ?_
 (first | with_reducible refine gQ _ ?_ ?_ | refine gR _ ?_ ?_) <;> intro h1
 ·simp +decide (maxSteps:=9^9) (disch:=omega) only[↓SB0,SX,seval,hQ,hQ1,dJ h1,g6]
  cases h2:p (l[i]'(by omega)) with
  | true=>
   have hz:=h2
   refine Kz1 (hc (l[i]'(by omega)) (lD1 _)) ?_
   rw [mQ hk (by omega) h2]; rfl
  | false=>
   have hz:=h2
   refine Kz1 (hc (l[i]'(by omega)) (lD1 _)) ?_
   exact ⟨i+1,rfl,⟨by omega,p9 hk (by omega) h2⟩,by omega⟩
 ·obtain rfl:i=l.length:=by omega
  refine N1 ?_
  rw [mR fun k h=>hk k h h]; rfl
theorem l9 {g:Nat} {p:aA→Bool} (l:List aA) (hl:l.length<2^48) (hc:∀ v ∈ l,bZ Tryz.prog g [.str v] (.bool (p v)) [.undef]) :
  bZ Tryz.prog 240 [.ext 1 (l.map g6),.fn g []] (.bool (l.any p)) [.undef,.undef]:=by
 have hI:=pI l hl hc
 cases e:l.findIdx? p with
 | none=>
  have:l.any p=false:=by
   rw [List.any_eq_false]
   intro x hx
   rw [lH2] at e
   simp [e x hx]
  rw [e] at hI
  rw [this]
  refine U eQ [] 19 [] fun w hP hQ=>?_
  unfold cX
  refine N ?_
  exact K (hI) trivial
 | some k=>
  have:l.any p=true:=by
   rw [lM1] at e
   rw [List.any_eq_true]
   exact ⟨_,lD1 e.1,e.2.1⟩
  rw [e,show p8 (some k)=(k:Int) from rfl] at hI
  rw [this]
  have hz:decide ((0:Int)≤(k:Nat))=true:=lT (by omega)
  refine U eQ [] 19 [] fun w hP hQ=>?_
  unfold cX
  refine N ?_
  have hz:=hz
  exact Kz (hI) trivial
theorem vC (l:List aA) (hl:l.length<2^48) (hs:∀ n ∈ l,n.length<2^48):bZ Tryz.prog 183 [.ext 1 (l.map g6)] (.bool (b0 l)) [.undef]:=by
 have hC:=l9 (g:=241) (p:=fun s=>!aS s) l hl fun v hv=>aap v (hs v hv)
 have e:b0 l=(decide (((l.length:Nat):Int)≤30) && !(l.any fun s=>!aS s)):=by
  rw [b0,List.not_any_eq_all_not,show decide (l.length≤30)=decide (((l.length:Nat):Int)≤30) by rw [decide_eq_decide]; omega]
  simp
 rw [e]
 refine U abs [] 5 [] fun w hP hQ=>?_
 unfold sP
 refine N ?_
 (first | with_reducible refine ad8 _ ?_ ?_ | refine ad9 _ ?_ ?_) <;> intro h
 ·have hz:=h
  refine Nz ?_
  refine K (hC) ?_
  rw [lT h]; rfl
 ·have hz:=h
  exact Nz trivial
theorem abR (s:aA):∀ n ∈ a8 s,n.length≤s.length:=by
 induction s with
 | nil=>simp [a8]
 | cons c s ih=>
  intro n hn
  by_cases hc:c=47
  ·rw [a8,lE hc] at hn
   rcases lF.1 hn with rfl | hn
   ·simp
   ·have:=ih n hn; simp; omega
  ·obtain ⟨a,t,e1,e2⟩:=nV c s hc
   rw [e2] at hn
   rcases lF.1 hn with rfl | hn
   ·have:=ih a (by rw [e1]; simp); simp; omega
   ·have:=ih n (by rw [e1]; simp [hn]); simp; omega
theorem adS (s:aA):(a8 s).length≤s.length+1:=by rw [l6]; have:=aao s; omega
theorem mA (s:aA) (hl:s.length<2^40):bZ Tryz.prog 125 [.str s] (.tup [.own 1 ((aB s).1.map g6),.bool (aB s).2]) [.undef]:=by
 have hS:=akw s hl
 have hp:=abR s
 have hf:=adS s
 by_cases h0:s=[47]
 ·subst h0
  refine U eP [] 29 [] fun w hP hQ=>?_
  unfold dQ
  refine N ?_
  rfl
 cases e:a8 s with
 | nil=>exact absurd e (oU s)
 | cons a t=>
  rw [e] at hS hp hf
  cases a with
  | cons c a=>
   have er:aB s=([],false):=by rw [aB,lH h0,e]; rfl
   rw [er]
   refine U eP [] 29 [] fun w hP hQ=>?_
   unfold dQ
   refine N ?_
   have hz:=h0
   refine Nz ?_
   (first|refine cI hP (hS) rfl rfl ?_|refine cH hP (hS) rfl rfl ?_)
   simp +decide (maxSteps:=9^9) (disch:=omega) only[↓SB0,SX,seval,hQ,lQ,g6]
  | nil=>
   cases t with
   | nil=>
    have er:aB s=([],false):=by rw [aB,lH h0,e]; rfl
    rw [er]
    refine U eP [] 29 [] fun w hP hQ=>?_
    unfold dQ
    refine N ?_
    have hz:=h0
    refine Nz ?_
    (first|refine cI hP (hS) rfl rfl ?_|refine cH hP (hS) rfl rfl ?_)
    simp +decide (maxSteps:=9^9) (disch:=omega) only[↓SB0,SX,seval,hQ,lQ,lU3,g6]
   | cons n t=>
    have hN:=vC (n::t) (by simp only [lV] at hf ⊢; omega) fun x hx=>by have:=hp x (by simp [hx]); omega
    have hw:decide (((t.length+1+1:Nat):Int)<2)=false:=lO (by omega)
    have hy:1+(t.length+1)≤t.length+1+1:=by omega
    have hz:(((t.length+1+1:Nat):Int)-1).toNat=t.length+1:=by omega
    have ht:([TV.str n]::List.map g6 t).take (t.length+1)=[TV.str n]::List.map g6 t:=lD2 (by simp)
    simp only [lQ,show g6 n=[TV.str n] from rfl] at hN
    cases hn:b0 (n::t) with
    | false=>
     have er:aB s=([],false):=agr e hn h0
     rw [hn] at hN
     rw [er]
     refine U eP [] 29 [] fun w hP hQ=>?_
     unfold dQ
     refine N ?_
     simp +decide (maxSteps:=9^9) (disch:=omega) only[↓SB0,SX,seval,hQ,h0]
     (first|refine cI hP (hS) rfl rfl ?_|refine cH hP (hS) rfl rfl ?_)
     simp +decide (maxSteps:=9^9) (disch:=omega) only[↓SB0,SX,seval,hQ,lQ,g6,hw,hz,ht,hy]
     (first|refine cI hP (hN) rfl rfl ?_|refine cH hP (hN) rfl rfl ?_)
     simp +decide (maxSteps:=9^9) (disch:=omega) only[↓SB0,SX,seval,hQ,hw,hz,ht,hy,lQ,g6]
    | true=>
     have er:aB s=(n::t,true):=u9 e (by simp) hn h0
     rw [hn] at hN
     rw [er]
     refine U eP [] 29 [] fun w hP hQ=>?_
     unfold dQ
     refine N ?_
     simp +decide (maxSteps:=9^9) (disch:=omega) only[↓SB0,SX,seval,hQ,h0]
     (first|refine cI hP (hS) rfl rfl ?_|refine cH hP (hS) rfl rfl ?_)
     simp +decide (maxSteps:=9^9) (disch:=omega) only[↓SB0,SX,seval,hQ,lQ,g6,hw,hz,ht,hy]
     (first|refine cI hP (hN) rfl rfl ?_|refine cH hP (hN) rfl rfl ?_)
     simp +decide (maxSteps:=9^9) (disch:=omega) only[↓SB0,SX,seval,hQ,hw,hz,ht,hy,lQ,g6]
theorem aaq {n:Nat} (h:n<2^63):IntKind.i64.wrap (n:Int)=n:=by
 have h1:((2:Int)^IntKind.i64.bits)=2^64:=by decide
 have h2:((2:Int)^(IntKind.i64.bits-1))=2^63:=by decide
 unfold IntKind.wrap
 simp only [h1,h2,IntKind.signed]
 simp
 omega
theorem aar (n:aA) (l:List aA):(47:UInt8)::Lib.join (n::l) [47]=fE (n::l):=by
 rw [Lib.join_cons,adO]
 congr 2
theorem vD {l:List aA} (h:b0 l=true):(Lib.join l [47]).length≤450:=by
 cases l with
 | nil=>simp [Lib.join_nil]
 | cons n l=>
  have:=aac h
  rw [← aar] at this
  simp at this; omega
theorem abS (l:List aA) (hl:l.length<2^40) (hs:∀ n ∈ l,n.length<2^48):bZ Tryz.prog 236 [.ext 1 (l.map g6)] (.str (cZ l)) [.undef]:=by
 have hN:=vC l (by omega) hs
 cases e:b0 l with
 | false=>
  rw [e] at hN
  rw [cZ,lH (by simp [e])]
  refine U qK [] 5 [] fun w hP hQ=>?_
  unfold kK
  refine N ?_
  exact K (hN) trivial
 | true=>
  rw [e] at hN
  have hJ:=alL l hl (by have:=vD e; omega)
  have er:(47:UInt8)::Lib.join l [47]=cZ l:=by
   rw [cZ,lE e]
   cases l with
   | nil=>rfl
   | cons n l=>rw [aar,lH (by simp)]
  rw [← er]
  refine U qK [] 5 [] fun w hP hQ=>?_
  unfold kK
  refine N ?_
  refine K (hN) ?_
  have hb:1+(Lib.join l [47]).length≤4611686018427387904:=by have:=vD e; omega
  have hz:=hb
  exact Kz (hJ) trivial
theorem vE {s:aA}:∀ n ∈ (aB s).1,n.length≤14:=by
 intro n hn
 cases h:(aB s).2 with
 | false=>rw [acC h] at hn; simp at hn
 | true=>exact (oV ((iX (mM h).1).2 n hn)).2
theorem aas (s:aA):(aB s).1.length≤30:=by
 cases h:(aB s).2 with
 | false=>rw [acC h]; simp
 | true=>exact (iX (mM h).1).1
theorem abT {l:List aA} {k:Nat} (h:l.length=k+1):l[k]?=some (l.getLastD []):=by
 have hne:l≠[]:=fun e=>by rw [e] at h; simp at h
 rw [List.getLastD_eq_getLast?,List.getLast?_eq_some_getLast hne,List.getLast_eq_getElem]
 simp [h]
theorem abU (s:aA) (hl:s.length<2^40):bZ Tryz.prog 176 [.str s] (.tup [.str (aR s).1,.str (aR s).2.1,.bool (aR s).2.2]) [.undef]:=by
 have hS:=mA s hl
 have hp:=vE (s:=s)
 have hf:=aas s
 unfold aR
 generalize aB s=x at *
 obtain ⟨l,b⟩:=x
 cases b with
 | false=>
  rw [lH (by simp)]
  refine U kL [] 253 [] fun w hP hQ=>?_
  unfold gS
  refine N ?_
  exact K (hS) trivial
 | true=>
  cases hk:l.length with
  | zero=>
   obtain rfl:l=[]:=lP1.1 hk
   rw [lH (by simp)]
   refine U kL [] 253 [] fun w hP hQ=>?_
   unfold gS
   refine N ?_
   exact K (hS) trivial
  | succ k=>
   have hne:l≠[]:=fun e=>by rw [e] at hk; simp at hk
   rw [lE ⟨rfl,hne⟩]
   have hJ:=abS l.dropLast (by simp; simp only at hf; omega) fun n hn=>by have:=hp n (List.dropLast_subset _ hn); omega
   rw [List.dropLast_eq_take,hk] at hJ ⊢
   simp only [Nat.add_sub_cancel,List.map_take] at hJ ⊢
   have hg:=abT hk
   have h0:(decide (((k+1:Nat):Int)=0))=false:=lO (by omega)
   have h1:(((k+1:Nat):Int)-1)=(k:Int):=by omega
   have h2:((k:Int)-0).toNat=k:=by omega
   have h3:0+k≤k+1:=by omega
   have h4:=aaq (n:=k) (by simp only [hk] at hf; omega)
   refine U kL [] 253 [] fun w hP hQ=>?_
   unfold gS
   refine N ?_
   have hz:=And.intro hk (And.intro h0 (And.intro h1 (And.intro h2 (And.intro h3 h4))))
   refine Kz (hS) ?_
   (first|refine cI hP (hJ) rfl rfl ?_|refine cH hP (hJ) rfl rfl ?_)
   simp +decide (maxSteps:=9^9) (disch:=omega) only[↓SB0,SX,seval,hQ,hk,h0,h1,h2,h3,h4,hg,g6]
theorem aat (x:Inode) (n:aA):bA x n=match x.ents.findIdx? (fun e=>decide (e.name=n)) with
  | none=>0
  | some k=>((x.ents[k]?).map Ent.ino).getD 0:=by
 rw [bA,acF]
 cases x.ents.findIdx? (fun e=>decide (e.name=n)) <;> rfl
theorem aiH {x:Inode} {n:aA} {i:Nat} (hk:∀ k,k<i→(h:k<x.ents.length)→decide (x.ents[k].name=n)=false) (h:i<x.ents.length) (hi:x.ents[i].name=n):bA x n=x.ents[i].ino:=by
 rw [aat,mQ (p:=fun e:Ent=>decide (e.name=n)) hk h (lT hi)]
 simp only [lJ h]; rfl
theorem aiI {x:Inode} {n:aA} (hk:∀ k,(h:k<x.ents.length)→decide (x.ents[k].name=n)=false):bA x n=0:=by
 rw [aat,mR (p:=fun e:Ent=>decide (e.name=n)) hk]
theorem acT (x:Inode) (n:aA) (h:x.sz<2^40):bZ Tryz.prog 122 [x.x,.str n] (.int .i64 (bA x n)) [.undef,.undef]:=by
 obtain ⟨h1,h2,h3⟩:=jH h
 refine U afC [] 1879 [] fun w hP hQ=>?_
 unfold yZ
 refine N ?_
 refine rG [4,6,5006] ?_
 refine N ?_
 refine dG [4,6,5006] (fun i:Nat=>[(10,.int .i64 i)]) (fun i=>i≤x.ents.length∧∀ k,k<i→(h:k<x.ents.length)→decide (x.ents[k].name=n)=false) (fun i=>x.ents.length-i) (0) hP hQ (rfl) (by simp) ?_
 rintro i ⟨hi,hk⟩ w1 hP1 hQ1
 refine N1 ?_
 (first | with_reducible refine gQ _ ?_ ?_ | refine gR _ ?_ ?_) <;> intro g
 ·have hz:=(dJ g)
  refine Nz1 ?_
  (first | with_reducible refine gQ _ ?_ ?_ | refine gR _ ?_ ?_) <;> intro e
  ·refine N1 ?_
   rw [aiH hk (by omega) e]
  ·refine N1 ?_
   exact ⟨i+1,rfl,⟨by omega,p9 (p:=fun e:Ent=>decide (e.name=n)) hk (by omega) (lO e)⟩,by omega⟩
 ·obtain rfl:i=x.ents.length:=by omega
  refine N1 ?_
  rw [aiI fun k h=>hk k h h]
theorem adT {t:Tab} {l:List aA} {i:Nat} (h:i<l.length) {a:Int} {x:Inode} (hx:aC t a=some x) (hk:x.kind=2) (he:bA x l[i]≠0):kQ t (l.drop i) a=kQ t (l.drop (i+1)) (bA x l[i]):=by
 rw [lY2 h,kQ,hx]
 simp only [lE hk,lH he]
theorem aiJ {t:Tab} {l:List aA} {i:Nat} (h:i<l.length) {a:Int} (hx:aC t a=none):kQ t (l.drop i) a=(0,2):=by
 rw [lY2 h,kQ,hx]
theorem adU {t:Tab} {l:List aA} {i:Nat} (h:i<l.length) {a:Int} {x:Inode} (hx:aC t a=some x) (hk:¬ x.kind=2):kQ t (l.drop i) a=(0,3):=by
 rw [lY2 h,kQ,hx]
 simp only [lH hk]
theorem adV {t:Tab} {l:List aA} {i:Nat} (h:i<l.length) {a:Int} {x:Inode} (hx:aC t a=some x) (hk:x.kind=2) (he:bA x l[i]=0):kQ t (l.drop i) a=(0,2):=by
 rw [lY2 h,kQ,hx]
 simp only [lE hk,lE he]
theorem alM {t:Tab} (h:t.sz<2^40) {a:Int} {x:Inode} (hx:aC t a=some x):x.sz<2^40:=(jQ h).2 x (aK hx).1
theorem akx (t:Tab) (s:aA) (h:t.sz<2^40) (hs:s.length<2^40):bZ Tryz.prog 126 [t.x,.str s] (.tup [.int .i64 (sY t s).1,.int .i64 (sY t s).2]) [.undef,.undef]:=by
 have hS:=mA s hs
 have hf:=aas s
 unfold sY
 generalize aB s=y at *
 obtain ⟨l,b⟩:=y
 simp only at *
 cases b with
 | false=>
  rw [lH (by simp)]
  refine U acy [] 7347703 [] fun w hP hQ=>?_
  unfold wH
  refine N ?_
  exact K (hS) trivial
 | true=>
  rw [lE rfl]
  refine U acy [] 7347703 [] fun w hP hQ=>?_
  unfold wH
  refine N ?_
  refine K (hS) ?_
  refine rG [4,5,10,11,12,5011] ?_
  refine N ?_
  refine dG [4,5,10,11,12,5011] (fun x:Nat × Int=>[(8,.int .i64 x.2),(22,.int .i64 (x.1:Nat))]) (fun x=>x.1≤l.length∧kQ t (l.drop x.1) x.2=kQ t l 1) (fun x=>l.length-x.1) ((0,1)) hP hQ (rfl) (⟨lE3 _,rfl⟩) ?_
  rintro ⟨i,a⟩ ⟨hi,hw⟩ w1 hP1 hQ1
  refine N1 ?_
  simp only at hi hw
  (first | with_reducible refine gQ _ ?_ ?_ | refine gR _ ?_ ?_) <;> intro g
  ·have hlt:i<l.length:=by omega
   have hA:=mT t a h
   cases hx:aC t a with
   | none=>
    rw [hx] at hA
    rw [aiJ hlt hx] at hw
    simp +decide (maxSteps:=9^9) (disch:=omega) only[↓SB0,SX,seval,hQ,hQ1,dJ g,g6]
    have hz:=hw.symm
    exact Kz1 (hA) trivial
   | some x=>
    rw [ai5,hx] at hA
    have hE:=acT x l[i] (alM h hx)
    by_cases hk:x.kind=2
    ·have hk':decide (x.kind=2)=true:=lT hk
     by_cases he:bA x l[i]=0
     ·rw [adV hlt hx hk he] at hw
      rw [he] at hE
      simp +decide (maxSteps:=9^9) (disch:=omega) only[↓SB0,SX,seval,hQ,hQ1,dJ g,g6]
      (first|refine cI hP1 (hA) rfl rfl ?_|refine cH hP1 (hA) rfl rfl ?_)
      simp +decide (maxSteps:=9^9) (disch:=omega) only[↓SB0,SX,seval,hQ,hQ1,hk',lY]
      have hz:=hw.symm
      exact Kz1 (hE) trivial
     ·rw [adT hlt hx hk he] at hw
      have he':decide (bA x l[i]=0)=false:=lO he
      simp +decide (maxSteps:=9^9) (disch:=omega) only[↓SB0,SX,seval,hQ,hQ1,dJ g,g6]
      (first|refine cI hP1 (hA) rfl rfl ?_|refine cH hP1 (hA) rfl rfl ?_)
      simp +decide (maxSteps:=9^9) (disch:=omega) only[↓SB0,SX,seval,hQ,hQ1,hk',lY]
      have hz:=he'
      refine Kz1 (hE) ?_
      exact ⟨(i+1,bA x l[i]),rfl,⟨by simp only; omega,hw⟩,by simp only; omega⟩
    ·have hk':decide (x.kind=2)=false:=lO hk
     rw [adU hlt hx hk] at hw
     simp +decide (maxSteps:=9^9) (disch:=omega) only[↓SB0,SX,seval,hQ,hQ1,dJ g,g6]
     (first|refine cI hP1 (hA) rfl rfl ?_|refine cH hP1 (hA) rfl rfl ?_)
     simp +decide (maxSteps:=9^9) (disch:=omega) only[↓SB0,SX,seval,hQ,hQ1,hk',lY,← hw]
  ·obtain rfl:i=l.length:=by omega
   rw [List.drop_length,kQ] at hw
   have hz:=hw.symm
   exact Nz1 trivial
theorem agG {t:Tab} {s:aA} (hc:(sY t s).2≠0):dE t s=.error (sY t s).2:=by rw [dE,lH hc]
theorem agH {t:Tab} {s:aA} (hc:(sY t s).2=0) (hx:aC t (sY t s).1=none):dE t s=.error 2:=by rw [dE,lE hc,hx]
theorem agI {t:Tab} {s:aA} {x:Inode} (hc:(sY t s).2=0) (hx:aC t (sY t s).1=some x):dE t s=.ok x:=by rw [dE,lE hc,hx]
theorem agJ (t:Tab) (s:aA) (h:t.sz<2^40) (hs:s.length<2^40):bZ Tryz.prog 61 [t.x,.str s] (.tup [(exI (dE t s)).o,.int .i64 (exC (dE t s))]) [.undef,.undef]:=by
 have hW:=akx t s h hs
 have hA:=mT t (sY t s).1 h
 by_cases hc:(sY t s).2=0
 ·have hc':decide ((sY t s).2=0)=true:=lT hc
  cases hx:aC t (sY t s).1 with
  | none=>
   rw [hx] at hA
   rw [agH hc hx]
   refine U wI [] 1015 [] fun w hP hQ=>?_
   unfold rH
   refine N ?_
   have hz:=hc'
   refine Kz (hW) ?_
   refine K (hA) ?_
   rfl
  | some x=>
   rw [ai5,hx] at hA
   rw [agI hc hx]
   refine U wI [] 1015 [] fun w hP hQ=>?_
   unfold rH
   refine N ?_
   have hz:=hc'
   refine Kz (hW) ?_
   (first|refine cI hP (hA) rfl rfl ?_|refine cH hP (hA) rfl rfl ?_)
   simp +decide (maxSteps:=9^9) (disch:=omega) only[↓SB0,SX,seval,hQ,lY]
   rfl
 ·have hc':decide ((sY t s).2=0)=false:=lO hc
  rw [agG hc]
  refine U wI [] 1015 [] fun w hP hQ=>?_
  unfold rH
  refine N ?_
  have hz:=hc'
  refine Kz (hW) ?_
  rfl
theorem agK (t:Tab) (s:aA) (h:t.sz<2^40) (hs:s.length<2^40):bZ Tryz.prog 223 [t.x,.str s] (.tup [(exI (dE t s)).o,.int .i64 (exC (m4 t s))]) [.undef,.undef]:=by
 have hS:=agJ t s h hs
 unfold m4
 cases e:dE t s with
 | error c=>
  have hc:decide (c=0)=false:=lO (tM e)
  rw [e] at hS
  simp only [exI,exC] at hS ⊢
  refine U p3 [] 247 [] fun w hP hQ=>?_
  unfold mI
  refine N ?_
  have hz:=hc
  exact Kz (hS) trivial
 | ok x=>
  rw [e] at hS
  simp only [exI,exC] at hS ⊢
  by_cases hk:x.kind=1
  ·have hk':decide (x.kind=1)=true:=lT hk
   simp only [lE hk]
   refine U p3 [] 247 [] fun w hP hQ=>?_
   unfold mI
   refine N ?_
   have hz:=hk'
   exact Kz (hS) trivial
  ·have hk':decide (x.kind=1)=false:=lO hk
   simp only [lH hk]
   refine U p3 [] 247 [] fun w hP hQ=>?_
   unfold mI
   refine N ?_
   have hz:=hk'
   exact Kz (hS) trivial
def aky (D:Inode) (n:aA):AV:=.agg [.int .i64 D.ino,.int .i64 D.kind,.int .i64 D.links,.own 1 (aM D.data),.own 2 (D.ents.map Ent.row),.own 2 (D.attrs.map Attr.row),.str n]
def akz (D:Inode) (n:aA):AV:=.agg [.int .i64 D.ino,.int .i64 D.kind,.int .i64 D.links,.ext 1 (aM D.data),.ext 2 (D.ents.map Ent.row),.ext 2 (D.attrs.map Attr.row),.str n]
def exN (e:Rs Inode) (n:aA):aA:=match e with
 | .ok _=>n
 | .error _=>[]
theorem vF (s:aA):(aR s).1.length≤450∧(bR s).length≤14:=by
 unfold bR aR
 split
 ·rename_i h
  refine ⟨?_,vE (s:=s) _ ?_⟩
  ·show (cZ (aB s).1.dropLast).length≤450
   have:=jP (mM h.1).1
   rw [cZ,lE this]
   split
   ·simp
   ·exact aac this
  ·show (aB s).1.getLastD [] ∈ _
   rw [List.getLastD_eq_getLast?,List.getLast?_eq_some_getLast h.2]
   exact List.getLast_mem h.2
 ·simp
theorem agL (t:Tab) (s:aA) (h:t.sz<2^40) (hs:s.length<2^40):bZ Tryz.prog 121 [t.x,.str s] (.tup [aky (exI (f4 t s)) (exN (f4 t s) (bR s)),.int .i64 (exC (f4 t s))]) [.undef,.undef]:=by
 have hPa:=abU s hs
 have hS:=agJ t (aR s).1 h (by have:=(vF s).1; omega)
 unfold f4
 cases e:dE t (aR s).1 with
 | error c=>
  have hc:decide (c=0)=false:=lO (tM e)
  rw [e] at hS
  simp only [exI,exC,exN] at hS ⊢
  refine U pY [] 1783 [] fun w hP hQ=>?_
  unfold mH
  refine N ?_
  refine K (hPa) ?_
  have hz:=hc
  refine Kz (hS) ?_
  first | rfl | exact ⟨rfl,rfl⟩
 | ok x=>
  rw [e] at hS
  simp only [exI,exC] at hS ⊢
  by_cases hk:x.kind=2
  ·have hk':decide (x.kind=2)=true:=lT hk
   simp only [lE hk]
   refine U pY [] 1783 [] fun w hP hQ=>?_
   unfold mH
   refine N ?_
   refine K (hPa) ?_
   have hz:=hk'
   refine Kz (hS) ?_
   exact ⟨rfl,rfl⟩
  ·have hk':decide (x.kind=2)=false:=lO hk
   simp only [lH hk]
   refine U pY [] 1783 [] fun w hP hQ=>?_
   unfold mH
   refine N ?_
   refine K (hPa) ?_
   have hz:=hk'
   refine Kz (hS) ?_
   exact ⟨rfl,rfl⟩
theorem acU (t:Tab) (l:List aA) (h:t.sz<2^40) (hl:l.length<2^40) (hs:∀ s ∈ l,s.length<2^40):bZ Tryz.prog 59 [t.x,.ext 1 (l.map g6)] (.bool (l.all jI && bL t)) [.undef,.undef]:=by
 refine U afB [] 3927 [] fun w hP hQ=>?_
 unfold yY
 refine N ?_
 refine rG [4,6,8] ?_
 refine N ?_
 refine dG [4,6,8] (fun i:Nat=>[(11,.int .i64 i)]) (fun i=>i≤l.length∧∀ k,k<i→(h:k<l.length)→jI l[k]=true) (fun i=>l.length-i) (0) hP hQ (rfl) (by simp) ?_
 rintro i ⟨hi,hk⟩ w1 hP1 hQ1
 refine N1 ?_
 (first | with_reducible refine gQ _ ?_ ?_ | refine gR _ ?_ ?_) <;> intro g
 ·have hlt:i<l.length:=by omega
  have hS:=mA l[i] (hs _ (lD1 hlt))
  cases hp:(aB l[i]).2 with
  | false=>
   have e:l.all jI=false:=by rw [lM4]; exact ⟨_,lD1 hlt,by simp [jI,hp]⟩
   simp +decide (maxSteps:=9^9) (disch:=omega) only[↓SB0,SX,seval,hQ,hQ1,dJ g,g6]
   have hz:=And.intro hp (And.intro e lI2)
   exact Kz1 (hS) trivial
  | true=>
   simp +decide (maxSteps:=9^9) (disch:=omega) only[↓SB0,SX,seval,hQ,hQ1,dJ g,g6]
   have hz:=hp
   refine Kz1 (hS) ?_
   exact ⟨i+1,rfl,⟨by omega,fun k h1 h2=>by
    by_cases e:k=i
    ·subst e; exact hp
    ·exact hk k (by omega) h2⟩,by omega⟩
 ·obtain rfl:i=l.length:=by omega
  have e:l.all jI=true:=by
   rw [lR]
   intro x hx
   obtain ⟨k,hk1,rfl⟩:=lT1 hx
   exact hk k hk1 hk1
  refine N1 ?_
  have hz:=And.intro e Bool.true_and
  exact Kz (l5 t h) trivial
section
theorem tO {g:Nat} {cs:List TV} {p:Ent→Bool} (hc:∀ v:Ent,bZ Tryz.prog g [v.x,.xbox cs] (.bool (p v)) [.undef,.undef]) (l:List Ent) (hl:l.length<2^48) :
  bZ Tryz.prog 177 [.ext 2 (l.map Ent.row),.fn g [.xbox cs]] (.int .i64 (p8 (l.findIdx? p))) [.undef,.undef]:=by
 refine U pZ [] 435 [] fun w hP hQ=>?_
 unfold iU
 refine N ?_
 refine rG [4,5] ?_
 refine N ?_
 refine dG [4,5] (fun i:Nat=>[(8,.int .i64 i)]) (fun i=>i≤l.length∧∀ k,k<i→(h:k<l.length)→p l[k]=false) (fun i=>l.length-i) (0) hP hQ (rfl) (by simp) ?_
 rintro i ⟨hi,hk⟩ w1 hP1 hQ1
 refine N1 ?_
 (first | with_reducible refine gQ _ ?_ ?_ | refine gR _ ?_ ?_) <;> intro h1
 ·have hz:=(dJ h1)
  refine Nz1 ?_
  cases h2:p (l[i]'(by omega)) with
  | true=>
   have hz:=h2
   refine Kz1 (hc (l[i]'(by omega))) ?_
   rw [mQ hk (by omega) h2]; rfl
  | false=>
   have hz:=h2
   refine Kz1 (hc (l[i]'(by omega))) ?_
   exact ⟨i+1,rfl,⟨by omega,p9 hk (by omega) h2⟩,by omega⟩
 ·obtain rfl:i=l.length:=by omega
  refine N1 ?_
  rw [mR fun k h=>hk k h h]; rfl
structure Kept' {α:Type} (s:Nat) (row:α→List TV) (p:α→Bool) (l:List α) (i j:Nat) (R:List (List TV)):Prop where
 lt:i<j
 le:j≤l.length
 len:R.length=l.length
 low:R.take i=((l.take j).filter fun x=>!p x).map row
 num:((l.take j).filter fun x=>!p x).length=i
 high:R.drop j=(l.drop j).map row
 wid:∀ x ∈ R,x.length=s
section
variable {α:Type} {s:Nat} {row:α→List TV} {p:α→Bool} {l:List α} {i j:Nat} {R:List (List TV)}
theorem adW {q:α→Bool} {l:List α} (h:∀ x ∈ l,q x=false):(l.filter fun x=>!q x)=l:=List.filter_eq_self.2 fun x hx=>by simp [h x hx]
theorem Kept'.start {k:Nat} (hr:∀ a,(row a).length=s) (h:l.findIdx? p=some k):Kept' s row p l k (k+1) (l.map row):=by
 obtain ⟨h1,h2,h3⟩:=lM1.1 h
 have e:(l.take (k+1)).filter (fun x=>!p x)=l.take k:=by
  rw [lO2 h1,List.filter_append,adW fun x hx=>by
   obtain ⟨j,hj,rfl⟩:=lT1 hx
   rw [List.getElem_take]
   have:=h3 j (by simp at hj; omega)
   simpa using this]
  simp [h2]
 exact ⟨by omega,by omega,by simp,by rw [e,List.map_take],by rw [e]; simp; omega,by rw [List.map_drop],fun x hx=>by obtain ⟨a,_,rfl⟩:=lZ1.1 hx; exact hr a⟩
theorem Kept'.at (h:Kept' s row p l i j R) (hj:j<l.length):R[j]?=some (row l[j]):=by
 have:=congrArg (fun x=>x[0]?) h.high
 simp only [lJ1,lF3,lW1] at this
 rw [this,lJ hj]; rfl
end
theorem akA {α β:Type} (f:α→β) (l:List α) (k:Nat) (x:α) (g:β→β) (hg:∀ y,l[k]?=some y→g (f y)=f x):(l.map f).modify k g=(l.set k x).map f:=by
 apply lA3
 intro j
 rw [lA2,lW1,lW1,lK4]
 by_cases e:k=j
 ·subst e
  by_cases hk:k<l.length
  ·simp [hk,hg _ (lJ hk)]
  ·simp [hk]
 ·simp [e]
theorem mB (t:Tab) (x:Inode) {k:Nat} (h:t.sz<2^40) (hx:x.sz<2^40) (hu:UpI t.inodes) (hk:fO t x.ino=some k):bZ Tryz.prog 66 [t.x,x.x] (aI t x).o [.undef,.undef]:=by
 obtain ⟨h1,h2⟩:=jQ h
 have hlt:=acG hk
 have hPl:=mS t x.ino (by omega)
 rw [hk,show p8 (some k)=(k:Int) from rfl] at hPl
 have e:aI t x={ inodes:=t.inodes.set k x,next:=t.next }:=by rw [aI,adP hu hk]
 have hz:decide ((0:Int)≤(k:Nat))=true:=lT (by omega)
 have hg:((k:Nat):Int)<(t.inodes.length:Nat):=by omega
 rw [e]
 refine U qJ [] 127 [] fun w hP hQ=>?_
 unfold kJ
 refine N ?_
 refine K (f7 t h) ?_
 refine K (gY x hx) ?_
 have hz:=And.intro hz hg
 refine Kz (hPl) ?_
 rw [akA Inode.row t.inodes k x _ fun y _=>rfl]
end
def alN (D:Inode) (n:aA):List TV:=[.int .i64 D.ino,.int .i64 D.kind,.int .i64 D.links,.sl 1 (aM D.data),.sl 2 (D.ents.map Ent.row),.sl 2 (D.attrs.map Attr.row),.str n]
theorem akB (s:aA):tG s=(jI s && !decide (s=[47])):=by
 rw [lY3,show tG s=true↔_ from zF s]
 unfold jI
 simp only [lK,lZ3,decide_eq_false_iff_not]
 constructor
 ·rintro ⟨h1,h2⟩; exact ⟨h1,fun e=>h2 ((uV h1).2 e)⟩
 ·rintro ⟨h1,h2⟩; exact ⟨h1,fun e=>h2 ((uV h1).1 e)⟩
theorem aja {t:Tab} {i:Int} {x:Inode} (h:aC t i=some x):∃ k,fO t i=some k:=by
 cases e:fO t i with
 | none=>rw [afY e] at h; cases h
 | some k=>exact ⟨k,rfl⟩
theorem agM {t:Tab} (h:bL t=true):UpI t.inodes:=((aQ t).1 h).tab.up
theorem akC (a b:aA):strLt a b=decide (a<b):=pA a b
theorem alO (a b:aA):(decide (a<b) || decide (a=b))=!decide (b<a):=by
 rw [lY3]
 simp only [lX3,decide_eq_true_eq,lZ3,decide_eq_false_iff_not]
 constructor
 ·rintro (h | rfl)
  ·exact List.lt_asymm h
  ·exact lV3 _
 ·intro h
  rcases List.le_iff_lt_or_eq.1 (List.not_lt.1 h) with h | h
  ·exact .inl h
  ·exact .inr h
theorem adX {t:Tab} {x:Inode} (h:∀ y ∈ t.inodes,y.ino<x.ino):aI t x={ inodes:=t.inodes++[x],next:=t.next }:=by
 have:=aad (l:=t.inodes) (x:=x) (k:=t.inodes.length) (lL1 _) (fun j hj hl=>h _ (lD1 hl)) (fun h=>absurd h (Nat.lt_irrefl _))
 rw [aI,this]; simp
theorem akD {t:Tab} {x:Inode} (h:∀ y ∈ t.inodes,y.ino<x.ino):fO t x.ino=none:=by
 rw [fO,lH2]
 intro y hy
 have:=h y hy
 simp; omega
theorem agN (l:List Ent) (e:Ent):szM Ent.sz (c9 l e)≤szM Ent.sz l+e.name.length+1:=by
 have h1:(c9 l e).length=l.length+1:=oZ l e
 have h2:((c9 l e).map Ent.sz).sum=(l.map Ent.sz).sum+e.name.length:=by
  unfold c9
  induction l with
  | nil=>simp [tR,Ent.sz]
  | cons f l ih=>
   rw [tR]
   split
   ·simp only [lQ,lG2,Ent.sz]; omega
   ·simp only [lQ,lG2,ih (by exact oZ l e)]; omega
 simp only [szM]; omega
theorem agO (D:Inode) (n:aA) (j:Int):(cA D n j).sz≤D.sz+n.length+1:=by
 have:=agN D.ents ⟨n,j⟩
 simp only at this
 show D.data.length+szM Ent.sz (c9 D.ents ⟨n,j⟩)+szM Attr.sz D.attrs≤D.data.length+szM Ent.sz D.ents+szM Attr.sz D.attrs+n.length+1
 omega
theorem akE {t:Tab} {D:Inode} {n:aA} (hB:bL t=true) (hm:D ∈ t.inodes):∀ y ∈ (aI t (cA D n t.next)).inodes,y.ino<t.next:=by
 have ht:=(aQ t).1 hB
 intro y hy
 rcases uY hy with rfl | hy
 ·exact (ht.tab.ok D hm).2
 ·exact (ht.tab.ok y hy).2
theorem amm {n:Int} {a b:Int} (h:inR n a b=true):a≤n∧n≤b:=by simpa [inR] using h
theorem adY (e:Ent) (D:Inode) (n:aA):bZ Tryz.prog 178 [e.x,.xbox (alN D n)] (.bool (decide (n<e.name))) [.undef,.undef]:=by
 unfold alN
 refine U qV [] 15 [] fun w hP hQ=>?_
 unfold jN
 refine N ?_
 have hz:=akC
 refine Nz ?_
 rw [alO,Bool.not_not]
theorem aiK (t:Tab) (D:Inode) (n:aA) (j:Int) {k:Nat} (h:t.sz<2^30) (hD:D.sz<2^30) (hn:n.length<2^30) (hu:UpI t.inodes) (hk:fO t D.ino=some k) :
  bZ Tryz.prog 123 [akz D n,t.x,.int .i64 j] (aI t (cA D n j)).o [.undef,.undef,.undef]:=by
 obtain ⟨h1,h2,h3⟩:=jH hD
 have hz:=agO D n j
 have hS:=mB t (cA D n j) (by omega) (by omega) hu hk
 have hI:=tO (fun v=>adY v D n) D.ents (by omega)
 have hC:=acI D.ents (by omega)
 unfold akz
 cases e:D.ents.findIdx? (fun e=>decide (n<e.name)) with
 | none=>
  have hPP:c9 D.ents ⟨n,j⟩=D.ents.take D.ents.length++⟨n,j⟩::D.ents.drop D.ents.length:=aiu (key:=Ent.name) (e:=⟨n,j⟩) e
  have hIn:=qS D.ents ⟨n,j⟩ D.ents.length (lL1 _) (by omega)
  rw [← hPP] at hIn
  rw [e,show p8 none=(-1:Int) from rfl] at hI
  refine U m9 [(179,[.m,.b,.m],[])] 223 [] fun w hP hQ=>?_
  unfold iA
  refine N ?_
  refine K (hI) ?_
  refine K (hC) ?_
  refine K (hIn) ?_
  exact K (hS) trivial
 | some i=>
  have hPP:i<D.ents.length∧c9 D.ents ⟨n,j⟩=D.ents.take i++⟨n,j⟩::D.ents.drop i:=ait (key:=Ent.name) (e:=⟨n,j⟩) e
  have hIn:=qS D.ents ⟨n,j⟩ i (by omega) (by omega)
  rw [← hPP.2] at hIn
  rw [e,show p8 (some i)=(i:Int) from rfl] at hI
  have g:decide (((i:Nat):Int)<0)=false:=lO (by omega)
  refine U m9 [(179,[.m,.b,.m],[])] 223 [] fun w hP hQ=>?_
  unfold iA
  refine N ?_
  have hz:=g
  refine Kz (hI) ?_
  refine K (hC) ?_
  refine K (hIn) ?_
  exact K (hS) trivial
theorem w9 (y x:Inode):bZ Tryz.prog 129 [y.x,.xbox (Inode.row x)] (.bool (decide (x.ino<y.ino))) [.undef,.undef]:=by
 refine U tV [] 15 [] fun w hP hQ=>?_
 unfold m7
 exact N trivial
theorem tP (t:Tab) (x:Inode) (h:t.sz<2^30) (hx:x.sz<2^30) (hn:∀ y ∈ t.inodes,y.ino<x.ino):bZ Tryz.prog 66 [t.x,x.x] (aI t x).o [.undef,.undef]:=by
 obtain ⟨h1,h2⟩:=jQ h
 have hPl:=mS t x.ino (by omega)
 rw [akD hn,show p8 none=(-1:Int) from rfl] at hPl
 have hI:=i3 (fun v=>w9 v x) t.inodes (by omega)
 have e:t.inodes.findIdx? (fun y=>decide (x.ino<y.ino))=none:=by
  rw [lH2]
  intro y hy
  have:=hn y hy
  simp; omega
 rw [e,show p8 none=(-1:Int) from rfl] at hI
 have hIn:=t7 t.inodes x t.inodes.length (lL1 _) (by omega)
 have e2:t.inodes.take t.inodes.length++x::t.inodes.drop t.inodes.length=t.inodes++[x]:=by simp
 rw [e2] at hIn
 rw [adX hn]
 unfold Inode.row at hI hIn
 refine U qJ [(130,[.m,.b,.m],[])] 127 [] fun w hP hQ=>?_
 unfold kJ
 refine N ?_
 refine K (f7 t (by omega)) ?_
 refine K (gY x (by omega)) ?_
 refine K (hPl) ?_
 refine K (hI) ?_
 refine K (hIn) ?_
 all_goals first|exact trivial|rfl|exact ⟨rfl,rfl⟩
theorem agP (t:Tab) (s:aA) (k:Int) (h:t.sz<2^28) (hs:s.length<2^40):bZ Tryz.prog 57 [t.x,.str s,.int .i64 k] (.tup [(bT t s k).1.o,.int .i64 (bT t s k).2]) [.undef,.undef,.undef]:=by
 have h':t.sz<2^40:=by omega
 have hC:=f7 t h'
 have hR:=acU t [s] h' (by simp) (by simpa using hs)
 have hS:=akB s
 simp only [lT3,List.all_nil,Bool.and_true,lQ,lU3,g6] at hR
 by_cases hc:bL t=true∧tG s=true
 ·obtain ⟨hB,hsb⟩:=hc
  rw [hsb] at hS
  have hp:jI s=true:=by cases e:jI s <;> simp_all
  have hne:decide (s=[47])=false:=by cases e:decide (s=[47]) <;> simp_all
  rw [hp,hB] at hR
  have hF:=agL t s h' hs
  have e0:bT t s k=match xD t s 0 with
   | .ok D=>if t.inodes.length<30∧t.next<1000 then (jG t D (bR s) k,0) else (t,5)
   | .error c=>(t,c):=by rw [bT,lE ⟨hB,hsb⟩]; rfl
  rw [e0,xD]
  cases hX:f4 t s with
  | error c=>
   have hc:decide (c=0)=false:=lO (by
    unfold f4 at hX
    split at hX
    ·split at hX
     ·cases hX
     ·cases hX; decide
    ·rename_i e3; cases hX; exact tM e3)
   rw [hX] at hF
   simp only [exC] at hF ⊢
   unfold aky at hF
   refine U eI [] 1999 [] fun w hP hQ=>?_
   unfold dP
   refine N ?_
   refine K (hC) ?_
   have hz:=hne
   refine Kz (hR) ?_
   (first|refine cI hP (hF) rfl rfl ?_|refine cH hP (hF) rfl rfl ?_)
   have hz:=hc
   refine Nz ?_
   all_goals first|exact trivial|rfl|exact ⟨rfl,rfl⟩
  | ok D=>
   have ht:=(aQ t).1 hB
   have hm:=wZ hX
   have zD:=(jQ h).2 D hm
   have okD:=bW ht hm
   have hE:=acT D (bR s) (by omega)
   have hi:=agj ht hm
   have hlen:=ht.tab.len
   have hnx:=ht.tab.next
   have hel:=okD.len
   obtain ⟨kD,hkD⟩:=aja (nC ht hm)
   rw [hX] at hF
   simp only [exC,exI,exN] at hF ⊢
   unfold aky at hF
   by_cases g0:bA D (bR s)=0
   ·have g0':bA D (aR s).2.1=0:=g0
    rw [g0] at hE
    rw [lE g0']
    by_cases g1:D.ents.length<10
    ·rw [lE (.inl g1)]
     have g1':decide (((D.ents.length:Nat):Int)=10)=false:=lO (by omega)
     by_cases g2:t.inodes.length<30
     ·have g2':decide (((t.inodes.length:Nat):Int)=30)=false:=lO (by omega)
      by_cases g3:t.next<1000
      ·have g3':decide (t.next=1000)=false:=lO (by omega)
       simp only [lE (And.intro g2 g3)]
       have z1:=agO D (bR s) t.next
       have z2:=(vF s).2
       have z3:=agd ({ inodes:=t.inodes,next:=t.next+1 }:Tab) (cA D (bR s) t.next)
       have z4:({ inodes:=t.inodes,next:=t.next+1 }:Tab).sz=t.sz:=rfl
       have hL:=aiK { inodes:=t.inodes,next:=t.next+1 } D (bR s) t.next (by omega) (by omega) (by omega) (show UpI t.inodes from agM hB) hkD
       have hI:=tP (aI { inodes:=t.inodes,next:=t.next+1 } (cA D (bR s) t.next)) (n8 t.next k) (by omega) (by show 0+(0+0)+(0+0)<2^30; omega) (akE hB hm)
       unfold akz at hL
       refine U eI [] 1999 [] fun w hP hQ=>?_
       unfold dP
       refine N ?_
       refine K (hC) ?_
       have hz:=hne
       refine Kz (hR) ?_
       refine K (hF) ?_
       have hz:=And.intro g1' (And.intro g2' g3')
       refine Kz (hE) ?_
       refine K (hL) ?_
       refine K (hI) ?_
       all_goals first|exact trivial|rfl|exact ⟨rfl,rfl⟩
      ·have g3':decide (t.next=1000)=true:=lT (by omega)
       simp only [lH (show ¬ (t.inodes.length<30∧t.next<1000) from fun e=>g3 e.2)]
       refine U eI [] 1999 [] fun w hP hQ=>?_
       unfold dP
       refine N ?_
       refine K (hC) ?_
       have hz:=hne
       refine Kz (hR) ?_
       refine K (hF) ?_
       (first|refine cI hP (hE) rfl rfl ?_|refine cH hP (hE) rfl rfl ?_)
       have hz:=And.intro g1' (And.intro g2' g3')
       refine Nz ?_
       all_goals first|exact trivial|rfl|exact ⟨rfl,rfl⟩
     ·have g2':decide (((t.inodes.length:Nat):Int)=30)=true:=lT (by omega)
      simp only [lH (show ¬ (t.inodes.length<30∧t.next<1000) from fun e=>g2 e.1)]
      refine U eI [] 1999 [] fun w hP hQ=>?_
      unfold dP
      refine N ?_
      refine K (hC) ?_
      have hz:=hne
      refine Kz (hR) ?_
      refine K (hF) ?_
      (first|refine cI hP (hE) rfl rfl ?_|refine cH hP (hE) rfl rfl ?_)
      have hz:=And.intro g1' g2'
      refine Nz ?_
      all_goals first|exact trivial|rfl|exact ⟨rfl,rfl⟩
    ·have g1':decide (((D.ents.length:Nat):Int)=10)=true:=lT (by omega)
     rw [lH (show ¬ (D.ents.length<10∨D.ino=0) from fun e=>e.elim g1 (by omega))]
     refine U eI [] 1999 [] fun w hP hQ=>?_
     unfold dP
     refine N ?_
     refine K (hC) ?_
     have hz:=hne
     refine Kz (hR) ?_
     refine K (hF) ?_
     (first|refine cI hP (hE) rfl rfl ?_|refine cH hP (hE) rfl rfl ?_)
     have hz:=g1'
     refine Nz ?_
     all_goals first|exact trivial|rfl|exact ⟨rfl,rfl⟩
   ·have g0':decide (bA D (bR s)=0)=false:=lO g0
    rw [lH (show ¬ bA D (aR s).2.1=0 from g0)]
    refine U eI [] 1999 [] fun w hP hQ=>?_
    unfold dP
    refine N ?_
    refine K (hC) ?_
    have hz:=hne
    refine Kz (hR) ?_
    refine K (hF) ?_
    (first|refine cI hP (hE) rfl rfl ?_|refine cH hP (hE) rfl rfl ?_)
    have hz:=g0'
    refine Nz ?_
    all_goals first|exact trivial|rfl|exact ⟨rfl,rfl⟩
 ·have e:bT t s k=(t,1):=by rw [bT,lH hc]
  rw [e]
  cases hp:(jI s && bL t) with
  | false=>
   rw [hp] at hR
   refine U eI [] 1999 [] fun w hP hQ=>?_
   unfold dP
   refine N ?_
   refine K (hC) ?_
   (first|refine cI hP (hR) rfl rfl ?_|refine cH hP (hR) rfl rfl ?_)
   refine N ?_
   all_goals first|exact trivial|rfl|exact ⟨rfl,rfl⟩
  | true=>
   have hne:decide (s=[47])=true:=by
    cases e:decide (s=[47]) with
    | true=>rfl
    | false=>
     simp only [lK] at hp
     rw [hp.1,e] at hS
     exact absurd ⟨hp.2,hS⟩ hc
   rw [hp] at hR
   refine U eI [] 1999 [] fun w hP hQ=>?_
   unfold dP
   refine N ?_
   refine K (hC) ?_
   (first|refine cI hP (hR) rfl rfl ?_|refine cH hP (hR) rfl rfl ?_)
   have hz:=hne
   refine Nz ?_
   all_goals first|exact trivial|rfl|exact ⟨rfl,rfl⟩
theorem abV (t:Tab) (s:aA) (h:t.sz<2^28) (hs:s.length<2^40):bZ Tryz.prog 13 [t.x,.str s] (.tup [(bT t s 1).1.o,.int .i64 (bT t s 1).2]) [.undef,.undef]:=by
 refine U y6 [] 55 [] fun w hP hQ=>?_
 unfold qG
 refine N ?_
 exact K (agP t s 1 h hs) trivial
theorem adZ (b:aA) (n:Nat):List.take (List.replicate n [TV.int IntKind.u8 0]).length (aM b)++List.drop b.length (List.replicate n [TV.int IntKind.u8 0])=aM ((wW b n).take n):=by
 rw [lS3,List.drop_replicate,wW,List.take_append,aM,aM,lR2,List.map_take,lD2 (l:=List.replicate (n-b.length) 0) (by simp)]
 simp
theorem aiL (b:aA) (n:Nat) (hb:b.length<2^40) (hn:n<2^40):bZ Tryz.prog 224 [.ext 1 (aM b),.int .i64 n] (.own 1 (aM ((wW b n).take n))) [.undef,.undef]:=by
 have g:¬ ((n:Int)<0):=by omega
 refine U afE [] 51 [] fun w hP hQ=>?_
 unfold y5
 refine N ?_
 rw [adZ]
theorem aiM (b:aA) (n:Nat) (h:b.length≤n):(wW b n).take n=wW b n:=lD2 (by rw [rL]; omega)
theorem akF (b d:aA) (o:Nat):zZ b o d=(wW b (max b.length (o+d.length))).take o++d++(wW b (max b.length (o+d.length))).drop (o+d.length):=by
 unfold zZ
 by_cases h:o+d.length≤b.length
 ·rw [Nat.max_eq_left h]
  simp only [wW,Nat.sub_self,List.replicate_zero,lP2,show o+d.length-b.length=0 by omega]
 ·rw [Nat.max_eq_right (by omega),@List.drop_eq_nil_of_le _ b _ (by omega),@List.drop_eq_nil_of_le _ (wW b (o+d.length)) _ (by rw [rL]; omega)]
theorem aiN {P d:aA} {k:Nat} (h:k+d.length≤P.length) (_:P.length<2^31):List.take k (aM P)++(List.take (((P.length:Nat):Int)-((k:Nat):Int)).toNat (aM d)++List.drop (k+min (((P.length:Nat):Int)-((k:Nat):Int)).toNat d.length) (aM P))=aM (P.take k++d++P.drop (k+d.length)):=by
 have e:min (((P.length:Nat):Int)-((k:Nat):Int)).toNat d.length=d.length:=by omega
 rw [e,lD2 (l:=aM d) (by simp [aM]; omega)]
 simp [aM,List.map_take,List.map_drop]
theorem ad0 (t:Tab) (s:aA) (n:Int) (d:aA) (h:t.sz<2^30) (hs:s.length<2^40) (hd:d.length<2^40):bZ Tryz.prog 153 [t.x,.str s,.int .i64 n,.ext 1 (aM d)] (.tup [(eH t s n d).1.o,.int .i64 (eH t s n d).2]) [.undef,.undef,.undef,.undef]:=by
 have h':t.sz<2^40:=by omega
 have hC:=f7 t h'
 have hR:=acU t [s] h' (by simp) (by simpa using hs)
 have hI:=eT n 0 100
 simp only [lT3,List.all_nil,Bool.and_true,lQ,lU3,g6] at hR
 by_cases hc:bL t=true∧jI s=true∧inR n 0 100=true
 ·obtain ⟨hB,hpb,hi⟩:=hc
  rw [hpb,hB] at hR
  rw [hi] at hI
  obtain ⟨n1,n2⟩:=amm hi
  obtain ⟨k,rfl⟩:=Int.eq_ofNat_of_zero_le n1
  have hF:=agK t s h' hs
  cases hX:m4 t s with
  | error c=>
   have hc:decide (c=0)=false:=lO (aiv hX)
   have e:eH t s (k:Nat) d=(t,c):=by rw [eH,lE ⟨hB,hpb,hi⟩,hX]
   rw [hX] at hF
   rw [e]
   simp only [exC] at hF
   refine U gH [] 3871 [] fun w hP hQ=>?_
   unfold fD
   refine N ?_
   refine K (hC) ?_
   refine K (hR) ?_
   refine K (hI) ?_
   (first|refine cI hP (hF) rfl rfl ?_|refine cH hP (hF) rfl rfl ?_)
   have hz:=hc
   refine Nz ?_
   all_goals first|exact trivial|rfl|exact ⟨rfl,rfl⟩
  | ok X=>
   have e0:eH t s (k:Nat) d=if ((k:Nat):Int)+(d.length:Nat)≤100 then (aI t (wX X (zZ X.data k d)),0) else (t,5):=by rw [eH,lE ⟨hB,hpb,hi⟩,hX]; rfl
   obtain ⟨f1,f2⟩:=fH hX
   rw [hX,f1] at hF
   rw [e0]
   simp only [exI,exC] at hF
   by_cases g0:((k:Nat):Int)+(d.length:Nat)≤100
   ·have g0':decide ((100:Int)<(k:Nat)+(d.length:Nat))=false:=lO (by omega)
    rw [lE g0]
    obtain ⟨kX,hkX⟩:=aja (bJ f1).2
    have zX:=(jQ h).2 X (bJ f1).1
    have zd:X.data.length<2^30:=by rw [Inode.sz] at zX; omega
    have zp:=acP X.data k d
    have zD:(wX X (zZ X.data k d)).sz<2^40:=by
     show (zZ X.data k d).length+szM Ent.sz X.ents+szM Attr.sz X.attrs<_
     rw [Inode.sz] at zX
     omega
    have hS:=mB t (wX X (zZ X.data k d)) h' zD (agM hB) hkX
    have em:(if ((X.data.length:Nat):Int)<((k:Nat):Int)+((d.length:Nat):Int) then ((k:Nat):Int)+((d.length:Nat):Int) else ((X.data.length:Nat):Int))=((max X.data.length (k+d.length):Nat):Int):=by split <;> omega
    have hZ:=aiL X.data (max X.data.length (k+d.length)) (by omega) (by omega)
    rw [aiM _ _ (by omega)] at hZ
    have hPl:(wW X.data (max X.data.length (k+d.length))).length=max X.data.length (k+d.length):=by rw [rL]; omega
    have hge:k+d.length≤(wW X.data (max X.data.length (k+d.length))).length:=by omega
    have hlt:(wW X.data (max X.data.length (k+d.length))).length<2^31:=by omega
    have hPP:zZ X.data k d=(wW X.data (max X.data.length (k+d.length))).take k++d++(wW X.data (max X.data.length (k+d.length))).drop (k+d.length):=akF X.data d k
    rw [hPP] at hS ⊢
    have e5:=fun P h1 h2=>aiN (P:=P) (d:=d) (k:=k) h1 h2
    generalize wW X.data (max X.data.length (k+d.length))=P at *
    refine U gH [] 3871 [] fun w hP hQ=>?_
    unfold fD
    refine N ?_
    refine K (hC) ?_
    refine K (hR) ?_
    refine K (hI) ?_
    have hz:=And.intro g0' em
    refine Kz (hF) ?_
    have e5:=e5 P hge hlt
    have hz:=e5
    refine Kz (hZ) ?_
    (first|refine cI hP (hS) rfl rfl ?_|refine cH hP (hS) rfl rfl ?_)
    refine N ?_
    all_goals first|exact trivial|rfl|exact ⟨rfl,rfl⟩
   ·have g0':decide ((100:Int)<(k:Nat)+(d.length:Nat))=true:=lT (by omega)
    rw [lH g0]
    refine U gH [] 3871 [] fun w hP hQ=>?_
    unfold fD
    refine N ?_
    refine K (hC) ?_
    refine K (hR) ?_
    refine K (hI) ?_
    (first|refine cI hP (hF) rfl rfl ?_|refine cH hP (hF) rfl rfl ?_)
    have hz:=g0'
    refine Nz ?_
    all_goals first|exact trivial|rfl|exact ⟨rfl,rfl⟩
 ·have e:eH t s n d=(t,1):=by rw [eH,lH hc]
  rw [e]
  cases hp:(jI s && bL t) with
  | false=>
   rw [hp] at hR
   refine U gH [] 3871 [] fun w hP hQ=>?_
   unfold fD
   refine N ?_
   refine K (hC) ?_
   (first|refine cI hP (hR) rfl rfl ?_|refine cH hP (hR) rfl rfl ?_)
   refine N ?_
   all_goals first|exact trivial|rfl|exact ⟨rfl,rfl⟩
  | true=>
   rw [hp] at hR
   simp only [lK] at hp
   have hi:inR n 0 100=false:=by
    cases e:inR n 0 100 with
    | false=>rfl
    | true=>exact absurd ⟨hp.2,hp.1,e⟩ hc
   rw [hi] at hI
   refine U gH [] 3871 [] fun w hP hQ=>?_
   unfold fD
   refine N ?_
   refine K (hC) ?_
   refine K (hR) ?_
   (first|refine cI hP (hI) rfl rfl ?_|refine cH hP (hI) rfl rfl ?_)
   refine N ?_
   all_goals first|exact trivial|rfl|exact ⟨rfl,rfl⟩
theorem alP (a b:Nat):((a:Int)).tmod (b:Int)=((a%b:Nat):Int):=rfl
theorem amK (b:aA) (hl:b.length<2^48):bZ Tryz.prog 10 [.ext 1 (aM b)] (.bool (decide ((1048576:Int)<(b.length:Nat)))) [.undef]:=by
 refine U aj6 [] 5 [] fun w hP hQ=>?_
 unfold afw
 exact N trivial
theorem amM (b:aA) (i:Nat) (hl:b.length<2^48) (hi:i<1000):∃ x:Nat,x<256∧bZ Tryz.prog 38 [.ext 1 (aM b),.int .i64 i] (.int .i64 x) [.undef,.undef]:=by
 by_cases h1:(i:Int)<(b.length:Nat)
 ·refine ⟨(b[i]'(by omega)).toNat,(b[i]'(by omega)).toNat_lt,?_⟩
  have d1:decide ((i:Int)<(b.length:Nat))=true:=lT h1
  have hx:=(b[i]'(by omega)).toNat_lt
  have hw:=aaq (n:=(b[i]'(by omega)).toNat) (by omega)
  refine U ai1 [] 19 [] fun w hP hQ=>?_
  unfold afx
  refine N ?_
  have hz:=And.intro d1 (And.intro (dJ h1) hw)
  exact Nz trivial
 ·refine ⟨(i*31+b.length*7)%256,Nat.mod_lt _ (by decide),?_⟩
  have d1:decide ((i:Int)<(b.length:Nat))=false:=lO h1
  have e:((i:Int)*31+(b.length:Int)*7).tmod 256=(((i*31+b.length*7)%256:Nat):Int):=by rw [← alP]; congr 1
  have w1:=aaq (n:=i*31) (by omega)
  have w2:=aaq (n:=b.length*7) (by omega)
  have w3:=aaq (n:=i*31+b.length*7) (by omega)
  simp only [Int.natCast_add,Int.natCast_mul,Int.cast_ofNat_Int] at w1 w2 w3
  refine U ai1 [] 19 [] fun w hP hQ=>?_
  unfold afx
  refine N ?_
  have hz:=And.intro d1 (And.intro w1 (And.intro w2 (And.intro w3 e)))
  exact Nz trivial
theorem abW (t:Tab) (v:Int) (p:aA) (h:t.sz<2^28) (hp:p.length<2^40):bZ Tryz.prog 91 [t.x,(opN 2 v p []).x] (.tup [(bK t (opN 2 v p [])).1.o,.int .i64 (bK t (opN 2 v p [])).2]) [.undef,.undef]:=by
 have k:=abV t p h hp
 rw [show bK t (opN 2 v p [])=bT t p 1 from rfl]
 generalize bT t p 1=r at *
 unfold opN
 refine U sR [] 191 [] fun w hP hQ=>?_
 unfold nT
 refine N ?_
 exact K (k) trivial
theorem abX (t:Tab) (v:Int) (p d:aA) (h:t.sz<2^28) (hp:p.length<2^40) (hd:d.length<2^40):bZ Tryz.prog 91 [t.x,(opN 3 v p d).x] (.tup [(bK t (opN 3 v p d)).1.o,.int .i64 (bK t (opN 3 v p d)).2]) [.undef,.undef]:=by
 have k:=ad0 t p 0 d (by omega) hp hd
 rw [show bK t (opN 3 v p d)=eH t p 0 d from rfl]
 generalize eH t p 0 d=r at *
 unfold opN
 refine U sR [] 191 [] fun w hP hQ=>?_
 unfold nT
 refine N ?_
 exact K (k) trivial
theorem alQ (f:Fs) (v:Int) (p:aA) (h:f.sz<2^40) (hp:p.length<2^40):bZ Tryz.prog 28 [f.x,(opN 2 v p []).x] (.tup [(vB f (opN 2 v p [])).1.o,.int .i64 (vB f (opN 2 v p [])).2]) [.undef,.undef]:=
 pG f (opN 2 v p []) rfl h fun t ht=>abW t v p ht hp
theorem alR (f:Fs) (v:Int) (p d:aA) (h:f.sz<2^40) (hp:p.length<2^40) (hd:d.length<2^40):bZ Tryz.prog 28 [f.x,(opN 3 v p d).x] (.tup [(vB f (opN 3 v p d)).1.o,.int .i64 (vB f (opN 3 v p d)).2]) [.undef,.undef]:=
 pG f (opN 3 v p d) rfl h fun t ht=>abX t v p d ht hp hd
theorem Shp.nil_inv {ts:List TV} (h:Shp [] ts):ts=[]:=by cases h; rfl
theorem Shp.sl_inv {s:Nat} {e ys:List Ty} {ts:List TV} (h:Shp (.sl s e::ys) ts):∃ es us,ts=.sl s es::us∧es.length≤2^47∧(∀ r ∈ es,Shp e r)∧Shp ys us:=by
 cases h with | sl _ _ es _ us hl he h=>exact ⟨es,us,rfl,hl,he,h⟩
theorem ad1 {α:Type} {sh:List Ty} {row:α→List TV} {good:α→Prop} (H:∀ ts,Shp sh ts→∃ x,ts=row x∧good x):∀ {es:List (List TV)},(∀ r ∈ es,Shp sh r)→∃ l:List α,es=l.map row∧∀ x ∈ l,good x:=by
 intro es
 induction es with
 | nil=>intro _; exact ⟨[],rfl,by simp⟩
 | cons r es ih=>
  intro h
  obtain ⟨x,rfl,hx⟩:=H r (h r (by simp))
  obtain ⟨l,rfl,hl⟩:=ih fun r hr=>h r (by simp [hr])
  exact ⟨x::l,rfl,fun y hy=>by rcases lF.1 hy with rfl | hy; exact hx; exact hl y hy⟩
theorem ad3 (ts:List TV) (h:Shp [.int .u8] ts):∃ x:UInt8,ts=afG x∧True:=by
 cases h with
 | int _ n _ us hn h=>
  cases h
  obtain ⟨h1,h2⟩:=bounds_u8 hn
  refine ⟨UInt8.ofNat n.toNat,?_,trivial⟩
  have:(UInt8.ofNat n.toNat).toNat=n.toNat:=by simp; omega
  simp only [afG,this]
  congr 2
  omega
theorem akG {es:List (List TV)} (h:∀ r ∈ es,Shp [.int .u8] r):∃ b:aA,es=aM b:=by
 obtain ⟨l,rfl,_⟩:=ad1 ad3 h
 exact ⟨l,rfl⟩
theorem amn {b:aA} (h:(aM b).length≤2^47):b.length<2^48:=Nat.lt_of_le_of_lt (by simpa [aM] using h) (by decide)
section
open Go.Proofs Go.Proofs.YtnfeefcnblondaaGreatDoor
theorem own:ownKnob Tryz.prog.godebug=none:=by kernel_rfl
def ajb:List Char:=[Char.ofNat 97,Char.ofNat 116,Char.ofNat 32,Char.ofNat 108,Char.ofNat 111,Char.ofNat 111,Char.ofNat 112,Char.ofNat 46,Char.ofNat 101,Char.ofNat 120,Char.ofNat 97,Char.ofNat 109,Char.ofNat 112,Char.ofNat 108,Char.ofNat 101,Char.ofNat 47,Char.ofNat 103,Char.ofNat 48,Char.ofNat 48,Char.ofNat 50,Char.ofNat 56,Char.ofNat 53,Char.ofNat 47,Char.ofNat 108,Char.ofNat 97,Char.ofNat 119,Char.ofNat 115,Char.ofNat 46,Char.ofNat 70,Char.ofNat 110,Char.ofNat 84,Char.ofNat 114,Char.ofNat 101,Char.ofNat 101,Char.ofNat 115,Char.ofNat 66,Char.ofNat 101,Char.ofNat 110,Char.ofNat 116,Char.ofNat 32,Char.ofNat 108,Char.ofNat 111,Char.ofNat 111,Char.ofNat 112,Char.ofNat 46,Char.ofNat 101,Char.ofNat 120,Char.ofNat 97,Char.ofNat 109,Char.ofNat 112,Char.ofNat 108,Char.ofNat 101,Char.ofNat 47,Char.ofNat 103,Char.ofNat 48,Char.ofNat 48,Char.ofNat 50,Char.ofNat 56,Char.ofNat 53,Char.ofNat 47]++[Char.ofNat 108,Char.ofNat 97,Char.ofNat 119,Char.ofNat 115,Char.ofNat 46,Char.ofNat 70,Char.ofNat 110,Char.ofNat 69,Char.ofNat 120,Char.ofNat 97,Char.ofNat 99,Char.ofNat 116,Char.ofNat 65,Char.ofNat 112,Char.ofNat 112,Char.ofNat 108,Char.ofNat 121,Char.ofNat 32,Char.ofNat 108,Char.ofNat 111,Char.ofNat 111,Char.ofNat 112,Char.ofNat 46,Char.ofNat 101,Char.ofNat 120,Char.ofNat 97,Char.ofNat 109,Char.ofNat 112,Char.ofNat 108,Char.ofNat 101,Char.ofNat 47,Char.ofNat 103,Char.ofNat 48,Char.ofNat 48,Char.ofNat 50,Char.ofNat 56,Char.ofNat 53,Char.ofNat 47,Char.ofNat 108,Char.ofNat 97,Char.ofNat 119,Char.ofNat 115,Char.ofNat 46,Char.ofNat 70,Char.ofNat 110,Char.ofNat 73,Char.ofNat 100,Char.ofNat 115,Char.ofNat 82,Char.ofNat 105,Char.ofNat 115,Char.ofNat 101,Char.ofNat 32,Char.ofNat 108,Char.ofNat 111,Char.ofNat 111,Char.ofNat 112,Char.ofNat 46,Char.ofNat 101,Char.ofNat 120]++[Char.ofNat 97,Char.ofNat 109,Char.ofNat 112,Char.ofNat 108,Char.ofNat 101,Char.ofNat 47,Char.ofNat 103,Char.ofNat 48,Char.ofNat 48,Char.ofNat 50,Char.ofNat 56,Char.ofNat 53,Char.ofNat 47,Char.ofNat 108,Char.ofNat 97,Char.ofNat 119,Char.ofNat 115,Char.ofNat 46,Char.ofNat 70,Char.ofNat 110,Char.ofNat 81,Char.ofNat 117,Char.ofNat 111,Char.ofNat 116,Char.ofNat 97,Char.ofNat 69,Char.ofNat 100,Char.ofNat 103,Char.ofNat 101,Char.ofNat 32,Char.ofNat 108,Char.ofNat 111,Char.ofNat 111,Char.ofNat 112,Char.ofNat 46,Char.ofNat 101,Char.ofNat 120,Char.ofNat 97,Char.ofNat 109,Char.ofNat 112,Char.ofNat 108,Char.ofNat 101,Char.ofNat 47,Char.ofNat 103,Char.ofNat 48,Char.ofNat 48,Char.ofNat 50,Char.ofNat 56,Char.ofNat 53,Char.ofNat 47,Char.ofNat 108,Char.ofNat 97,Char.ofNat 119,Char.ofNat 115,Char.ofNat 46,Char.ofNat 70,Char.ofNat 110,Char.ofNat 65,Char.ofNat 112,Char.ofNat 97]++[Char.ofNat 114,Char.ofNat 116,Char.ofNat 32,Char.ofNat 108,Char.ofNat 111,Char.ofNat 111,Char.ofNat 112,Char.ofNat 46,Char.ofNat 101,Char.ofNat 120,Char.ofNat 97,Char.ofNat 109,Char.ofNat 112,Char.ofNat 108,Char.ofNat 101,Char.ofNat 47,Char.ofNat 103,Char.ofNat 48,Char.ofNat 48,Char.ofNat 50,Char.ofNat 56,Char.ofNat 53,Char.ofNat 47,Char.ofNat 108,Char.ofNat 97,Char.ofNat 119,Char.ofNat 115,Char.ofNat 46,Char.ofNat 70,Char.ofNat 110,Char.ofNat 72,Char.ofNat 101,Char.ofNat 108,Char.ofNat 100,Char.ofNat 70,Char.ofNat 97,Char.ofNat 115,Char.ofNat 116,Char.ofNat 32,Char.ofNat 108,Char.ofNat 111,Char.ofNat 111,Char.ofNat 112,Char.ofNat 46,Char.ofNat 101,Char.ofNat 120,Char.ofNat 97,Char.ofNat 109,Char.ofNat 112,Char.ofNat 108,Char.ofNat 101,Char.ofNat 47,Char.ofNat 103,Char.ofNat 48,Char.ofNat 48,Char.ofNat 50,Char.ofNat 56,Char.ofNat 53,Char.ofNat 47,Char.ofNat 108]++[Char.ofNat 97,Char.ofNat 119,Char.ofNat 115,Char.ofNat 46,Char.ofNat 70,Char.ofNat 110,Char.ofNat 81,Char.ofNat 117,Char.ofNat 111,Char.ofNat 116,Char.ofNat 97]
def amo:List Char:=[Char.ofNat 48,Char.ofNat 54,Char.ofNat 53,Char.ofNat 98,Char.ofNat 52,Char.ofNat 49,Char.ofNat 50,Char.ofNat 54,Char.ofNat 55,Char.ofNat 99,Char.ofNat 52,Char.ofNat 99,Char.ofNat 53,Char.ofNat 101,Char.ofNat 57,Char.ofNat 48,Char.ofNat 57,Char.ofNat 48,Char.ofNat 100,Char.ofNat 97,Char.ofNat 51,Char.ofNat 56,Char.ofNat 57,Char.ofNat 52,Char.ofNat 54,Char.ofNat 52,Char.ofNat 101,Char.ofNat 53,Char.ofNat 56,Char.ofNat 98,Char.ofNat 56,Char.ofNat 56,Char.ofNat 50,Char.ofNat 55,Char.ofNat 57,Char.ofNat 99,Char.ofNat 97,Char.ofNat 101,Char.ofNat 51,Char.ofNat 52,Char.ofNat 55,Char.ofNat 52,Char.ofNat 54,Char.ofNat 48,Char.ofNat 53,Char.ofNat 53,Char.ofNat 99,Char.ofNat 56,Char.ofNat 54,Char.ofNat 52,Char.ofNat 54,Char.ofNat 98,Char.ofNat 100,Char.ofNat 52,Char.ofNat 49,Char.ofNat 102,Char.ofNat 49,Char.ofNat 99,Char.ofNat 56,Char.ofNat 49,Char.ofNat 52,Char.ofNat 97,Char.ofNat 99,Char.ofNat 57]
theorem ajc:Tryz.prog.initOrder=String.ofList ([Char.ofNat 104,Char.ofNat 97,Char.ofNat 114,Char.ofNat 110,Char.ofNat 101,Char.ofNat 115,Char.ofNat 115]++(Char.ofNat 32::amo)++[Char.ofNat 32,Char.ofNat 99,Char.ofNat 117,Char.ofNat 116,Char.ofNat 32]++ajb):=by kernel_rfl
theorem abY:∃ r,behindMainWord (wordsSigns Tryz.prog.initOrder.toList)=[Char.ofNat 99,Char.ofNat 117,Char.ofNat 116]::r:=by
 rw [ajc,String.toList_ofList]
 exact ⟨wordsSigns ajb,by kernel_rfl⟩
theorem akH {P:Program} {l:List Char} (h:P.initOrder=String.ofList l):P.mainIs=(match wordsSigns l with
 | h::s::_=>if !isSumSigns s then none else if h == "harness".toList then some (true,s) else if h == "ownmain".toList then some (false,s) else none
 | _=>none):=by
 unfold Program.mainIs
 rw [h,String.toList_ofList]
 rfl
theorem amB:Tryz.prog.mainIs=some (((true, "065b41267c4c5e9090da389464e58b88279cae34746055c8646bd41f1c814ac9"):Bool × String).1,((true, "065b41267c4c5e9090da389464e58b88279cae34746055c8646bd41f1c814ac9"):Bool × String).2.toList):=(akH ajc).trans (by kernel_rfl)
theorem amp:false=Tryz.prog.looks []:=by kernel_rfl
theorem amC:(laidOutB Tryz.prog)=true:=by kernel_rfl
theorem amD:(mapsRowed Tryz.prog)=true:=by kernel_rfl
theorem amq:((Tryz.prog.stops == []))=true:=by kernel_rfl
theorem amr:((Tryz.prog.stopKnobs == []))=true:=by kernel_rfl
theorem ams:(Tryz.prog.stopsHeard)=true:=by kernel_rfl
theorem amt:(Tryz.prog.mayEnter)=true:=by
 obtain ⟨r,hr⟩:=abY
 exact ahU hr (by kernel_rfl) (by kernel_rfl) (by kernel_rfl)
theorem amu:(false == Tryz.prog.liftsFinal)=true:=by
 obtain ⟨r,hr⟩:=abY
 rw [ahV hr]
 rfl
theorem amE:(Tryz.prog.make == some .cut)=true:=by
 obtain ⟨r,hr⟩:=abY
 rw [aj4 hr]
 rfl
end
end Go.Proofs.YtnfeefcnblondaaGreatDoor.Awp
