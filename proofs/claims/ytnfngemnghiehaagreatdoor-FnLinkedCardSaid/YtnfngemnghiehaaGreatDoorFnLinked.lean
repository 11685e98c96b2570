/- The law FnLinked (a file with one more path has it in both; what is written by one is read by the other) holds for every argument: the given statement is proved. Condition: none. -/
import Derived.Test.YtnfngemnghiehaaGreatDoorFnLinkedX2
import Derived.Test.YtnfngemnghiehaaGreatDoorAwp3
import Derived.Test.YtnfngemnghiehaaGreatDoorRows
import Derived.Test.YtnfngemnghiehaaGreatDoorCards
import Derived.Test.YtnfngemnghiehaaGreatDoorTie
import Derived.Shelf.Lays
import Derived.Sort.Walk0
import Derived.Shelf.Strings.Search3
import Derived.Shelf.Strings.Count
import Derived.Shelf.Strings.OnBuilder
import Derived.Shelf.Sort.Plain
import Derived.Shelf.Slices.In.SortNone
import Derived.Shelf.Spec.SlicesInsert
import Derived.Shelf.Spec.SlicesInsertGrow
import Derived.Deep.MidRow
import Derived.ArgAppend
import Derived.OpenShut
import Derived.SevenTiedAt
import Derived.KernelRfl
set_option linter.unusedVariables false
set_option linter.unusedSimpArgs false
set_option maxRecDepth 100000
set_option maxHeartbeats 20000000
open Nat (reduceEqDiff reduceAdd reduceMul reduceSub)
open Int (reduceNeg reduceToNat reducePow)
namespace Go.Proofs.YtnfngemnghiehaaGreatDoor.Awp
theorem alB (v:Value) (b:aA) (i:Nat) (h:Int) (hl:b.length<2^48) (hi:i≤b.length):∃ (x:Inode) (i':Nat) (h':Int),x.sz<2000∧i'≤b.length ∧
  aY Tryz.prog 154 [cur v b i h] x.o [cur v b i' h']:=by
 obtain ⟨x,i1,h1,hx,hi1,k1⟩:=anv v b i h hl hi
 obtain ⟨n,i2,h2,hn,hi2,k2⟩:=cJ v b i1 h1 14 hl hi1 (by omega)
 obtain ⟨z1,z2,z3⟩:=cT hx
 have zD:x.sz=x.data.length+szM Ent.sz x.ents+szM Attr.sz x.attrs:=rfl
 have hn':n<14:=by rw [nW,lF (by omega)] at hn; omega
 have key:∃ ret outs,(∃ (y:Inode) (i':Nat) (h':Int),y.sz<2000∧i'≤b.length∧ret=y.o∧outs=[cur v b i' h'])∧aY Tryz.prog 154 [cur v b i h] ret outs:=by
  unfold cur at *
  by_cases g0:n=0
  ·subst g0
   obtain ⟨r,i3,h3,hr,hi3,k3⟩:=l8 v b i2 h2 [0,1,1000,1001] hl hi2 (by simp) (by simp)
   unfold cur at k3
   simp only [eQ,lO,lP1] at k3
   refine cE hmx j4 [(101,[.l,.b],[]),(153,[.l,.b],[]),(199,[.l],[]),(149,[.l,.b],[])] 141 rfl [true] ⟨lD rfl,lD rfl⟩ rfl ?_
   intro w hP hQ
   unfold iQ
   refine N ?_
   (first | refine aF hP (k1) (.inl ⟨rfl,fun _ hx=>hx⟩) ?_ | refine aC hP (k1) (.inl ⟨rfl,fun _ hx=>hx⟩) ?_)
   refine N ?_
   (first | refine aF hP (k2) (.inl ⟨rfl,fun _ hx=>hx⟩) ?_ | refine aC hP (k2) (.inl ⟨rfl,fun _ hx=>hx⟩) ?_)
   refine N ?_
   (first | refine aF hP (k3) (.inl ⟨rfl,fun _ hx=>hx⟩) ?_ | refine aC hP (k3) (.inl ⟨rfl,fun _ hx=>hx⟩) ?_)
   refine N ?_
   exact ⟨{ x with ino:=r },i3,h3,by show x.sz<2000; omega,hi3,rfl,rfl⟩
  by_cases g1:n=1
  ·subst g1
   obtain ⟨r,i3,h3,hr,hi3,k3⟩:=cJ v b i2 h2 4 hl hi2 (by omega)
   unfold cur at k3
   refine cE hmx j4 [(101,[.l,.b],[]),(153,[.l,.b],[]),(199,[.l],[]),(149,[.l,.b],[])] 141 rfl [true] ⟨lD rfl,lD rfl⟩ rfl ?_
   intro w hP hQ
   unfold iQ
   refine N ?_
   (first | refine aF hP (k1) (.inl ⟨rfl,fun _ hx=>hx⟩) ?_ | refine aC hP (k1) (.inl ⟨rfl,fun _ hx=>hx⟩) ?_)
   refine N ?_
   (first | refine aF hP (k2) (.inl ⟨rfl,fun _ hx=>hx⟩) ?_ | refine aC hP (k2) (.inl ⟨rfl,fun _ hx=>hx⟩) ?_)
   refine N ?_
   (first | refine aF hP (k3) (.inl ⟨rfl,fun _ hx=>hx⟩) ?_ | refine aC hP (k3) (.inl ⟨rfl,fun _ hx=>hx⟩) ?_)
   refine N ?_
   exact ⟨{ x with kind:=r },i3,h3,by show x.sz<2000; omega,hi3,rfl,rfl⟩
  by_cases g2:n=2
  ·subst g2
   obtain ⟨r,i3,h3,hr,hi3,k3⟩:=l8 v b i2 h2 [-1,0,2,1001] hl hi2 (by simp) (by simp)
   unfold cur at k3
   simp only [eQ,lO,lP1] at k3
   refine cE hmx j4 [(101,[.l,.b],[]),(153,[.l,.b],[]),(199,[.l],[]),(149,[.l,.b],[])] 141 rfl [true] ⟨lD rfl,lD rfl⟩ rfl ?_
   intro w hP hQ
   unfold iQ
   refine N ?_
   (first | refine aF hP (k1) (.inl ⟨rfl,fun _ hx=>hx⟩) ?_ | refine aC hP (k1) (.inl ⟨rfl,fun _ hx=>hx⟩) ?_)
   refine N ?_
   (first | refine aF hP (k2) (.inl ⟨rfl,fun _ hx=>hx⟩) ?_ | refine aC hP (k2) (.inl ⟨rfl,fun _ hx=>hx⟩) ?_)
   refine N ?_
   (first | refine aF hP (k3) (.inl ⟨rfl,fun _ hx=>hx⟩) ?_ | refine aC hP (k3) (.inl ⟨rfl,fun _ hx=>hx⟩) ?_)
   refine N ?_
   exact ⟨{ x with links:=r },i3,h3,by show x.sz<2000; omega,hi3,rfl,rfl⟩
  by_cases g3:n=3
  ·subst g3
   have hb1:(x.data.length+1)*1≤140737488355328:=by omega
   have hb2:x.data.length+1≤140737488355328:=by omega
   refine cE hmx j4 [(101,[.l,.b],[]),(153,[.l,.b],[]),(199,[.l],[]),(149,[.l,.b],[])] 141 rfl [true] ⟨lD rfl,lD rfl⟩ rfl ?_
   intro w hP hQ
   unfold iQ
   refine N ?_
   (first | refine aF hP (k1) (.inl ⟨rfl,fun _ hx=>hx⟩) ?_ | refine aC hP (k1) (.inl ⟨rfl,fun _ hx=>hx⟩) ?_)
   refine N ?_
   (first | refine aF hP (k2) (.inl ⟨rfl,fun _ hx=>hx⟩) ?_ | refine aC hP (k2) (.inl ⟨rfl,fun _ hx=>hx⟩) ?_)
   have hz:=And.intro hb1 hb2
   refine Nz ?_
   exact ⟨{ x with data:=x.data++[1] },i2,h2,by show (x.data++[1]).length+szM Ent.sz x.ents+szM Attr.sz x.attrs<2000; simp; omega,hi2,by simp [aI],rfl⟩
  by_cases g4:n=4
  ·subst g4
   obtain ⟨s,i3,h3,hs,hi3,k3⟩:=rG v b i2 h2 [[97],[122],[],[90]] hl hi2 (by simp) (by simp)
   obtain ⟨r,i4,h4,hr,hi4,k4⟩:=l8 v b i3 h3 [1,2,1000,1001] hl hi3 (by simp) (by simp)
   have hsl:s.length≤1:=by simp at hs; rcases hs with rfl | rfl | rfl | rfl <;> simp
   have hb1:(x.ents.length+1)*24≤140737488355328:=by omega
   unfold cur at k3 k4
   simp only [eQ,dF,lO,lP1] at k3 k4
   refine cE hmx j4 [(101,[.l,.b],[]),(153,[.l,.b],[]),(199,[.l],[]),(149,[.l,.b],[])] 141 rfl [true] ⟨lD rfl,lD rfl⟩ rfl ?_
   intro w hP hQ
   unfold iQ
   refine N ?_
   (first | refine aF hP (k1) (.inl ⟨rfl,fun _ hx=>hx⟩) ?_ | refine aC hP (k1) (.inl ⟨rfl,fun _ hx=>hx⟩) ?_)
   refine N ?_
   (first | refine aF hP (k2) (.inl ⟨rfl,fun _ hx=>hx⟩) ?_ | refine aC hP (k2) (.inl ⟨rfl,fun _ hx=>hx⟩) ?_)
   refine N ?_
   (first | refine aF hP (k3) (.inl ⟨rfl,fun _ hx=>hx⟩) ?_ | refine aC hP (k3) (.inl ⟨rfl,fun _ hx=>hx⟩) ?_)
   refine N ?_
   (first | refine aF hP (k4) (.inl ⟨rfl,fun _ hx=>hx⟩) ?_ | refine aC hP (k4) (.inl ⟨rfl,fun _ hx=>hx⟩) ?_)
   have hz:=hb1
   refine Nz ?_
   exact ⟨{ x with ents:=x.ents++[⟨s,r⟩] },i4,h4,by
    have:szM Ent.sz (x.ents++[⟨s,r⟩])=szM Ent.sz x.ents+1+s.length:=by simp [szM,Ent.sz]; omega
    show x.data.length+szM Ent.sz (x.ents++[⟨s,r⟩])+szM Attr.sz x.attrs<2000; omega,hi4,by simp [Ent.row],rfl⟩
  by_cases g5:n=5
  ·subst g5
   obtain ⟨s,i3,h3,hs,hi3,k3⟩:=rG v b i2 h2 [[97],[122],[]] hl hi2 (by simp) (by simp)
   obtain ⟨m,i4,h4,hm,hi4,k4⟩:=cJ v b i3 h3 3 hl hi3 (by omega)
   have hm':m<3:=by rw [nW,lF (by omega)] at hm; omega
   have hsl:s.length≤1:=by simp at hs; rcases hs with rfl | rfl | rfl <;> simp
   have hrb:cX (List.replicate (15+(m:Int)).toNat [TV.int .u8 0])=some (List.replicate (15+m) 0):=by
    rw [show (15+(m:Int)).toNat=15+m by omega,show List.replicate (15+m) [TV.int .u8 0]=aI (List.replicate (15+m) 0) by simp [aI],nK]
   have hb1:(x.attrs.length+1)*32≤140737488355328:=by omega
   unfold cur at k3 k4
   simp only [eQ,dF,lO,lP1] at k3 k4
   refine cE hmx j4 [(101,[.l,.b],[]),(153,[.l,.b],[]),(199,[.l],[]),(149,[.l,.b],[])] 141 rfl [true] ⟨lD rfl,lD rfl⟩ rfl ?_
   intro w hP hQ
   unfold iQ
   refine N ?_
   (first | refine aF hP (k1) (.inl ⟨rfl,fun _ hx=>hx⟩) ?_ | refine aC hP (k1) (.inl ⟨rfl,fun _ hx=>hx⟩) ?_)
   refine N ?_
   (first | refine aF hP (k2) (.inl ⟨rfl,fun _ hx=>hx⟩) ?_ | refine aC hP (k2) (.inl ⟨rfl,fun _ hx=>hx⟩) ?_)
   refine N ?_
   (first | refine aF hP (k3) (.inl ⟨rfl,fun _ hx=>hx⟩) ?_ | refine aC hP (k3) (.inl ⟨rfl,fun _ hx=>hx⟩) ?_)
   refine N ?_
   (first | refine aF hP (k4) (.inl ⟨rfl,fun _ hx=>hx⟩) ?_ | refine aC hP (k4) (.inl ⟨rfl,fun _ hx=>hx⟩) ?_)
   have hz:=And.intro hb1 hrb
   refine Nz ?_
   exact ⟨{ x with attrs:=x.attrs++[⟨s,List.replicate (15+m) 0⟩] },i4,h4,by
    have:szM Attr.sz (x.attrs++[⟨s,List.replicate (15+m) 0⟩])=szM Attr.sz x.attrs+1+s.length+(15+m):=by simp [szM,Attr.sz]; omega
    show x.data.length+szM Ent.sz x.ents+szM Attr.sz (x.attrs++[⟨s,List.replicate (15+m) 0⟩])<2000; omega,hi4,by simp [Attr.row],rfl⟩
  ·have w0:decide ((n:Int)=0)=false:=lB (by omega)
   have w1:decide ((n:Int)=1)=false:=lB (by omega)
   have w2:decide ((n:Int)=2)=false:=lB (by omega)
   have w3:decide ((n:Int)=3)=false:=lB (by omega)
   have w4:decide ((n:Int)=4)=false:=lB (by omega)
   have w5:decide ((n:Int)=5)=false:=lB (by omega)
   refine cE hmx j4 [(101,[.l,.b],[]),(153,[.l,.b],[]),(199,[.l],[]),(149,[.l,.b],[])] 141 rfl [true] ⟨lD rfl,lD rfl⟩ rfl ?_
   intro w hP hQ
   unfold iQ
   refine N ?_
   (first | refine aF hP (k1) (.inl ⟨rfl,fun _ hx=>hx⟩) ?_ | refine aC hP (k1) (.inl ⟨rfl,fun _ hx=>hx⟩) ?_)
   refine N ?_
   (first | refine aF hP (k2) (.inl ⟨rfl,fun _ hx=>hx⟩) ?_ | refine aC hP (k2) (.inl ⟨rfl,fun _ hx=>hx⟩) ?_)
   have hz:=And.intro w0 (And.intro w1 (And.intro w2 (And.intro w3 (And.intro w4 w5))))
   refine Nz ?_
   exact ⟨x,i2,h2,by omega,hi2,rfl,rfl⟩
 obtain ⟨_,_,⟨t',i',h',ht',hi',rfl,rfl⟩,hS⟩:=key
 exact ⟨t',i',h',ht',hi',hS⟩
theorem aaQ {α:Type} (f:α→Nat):∀ (l:List α) (k:Nat) (x:α),((l.set k x).map f).sum≤(l.map f).sum+f x
 | [],_,_=>by simp
 | a::l,0,x=>by simp; omega
 | a::l,k+1,x=>by
  have:=aaQ f l k x
  simp only [List.set_cons_succ,lO,lG2]; omega
theorem yK {α:Type} (f:α→Nat):∀ (l:List α) (k:Nat),((l.take k).map f).sum≤(l.map f).sum
 | [],_=>by simp
 | a::l,0=>by simp
 | a::l,k+1=>by
  have:=yK f l k
  simp only [List.take_succ_cons,lO,lG2]; omega
theorem apD (v:Value) (b:aA) (i:Nat) (h:Int) (hl:b.length<2^48) (hi:i≤b.length):∃ (t:Tab) (i':Nat) (h':Int),t.sz<2^20∧i'≤b.length ∧
  aY Tryz.prog 100 [cur v b i h] t.o [cur v b i' h']:=by
 obtain ⟨t,i1,h1,ht,hi1,k1⟩:=ahq v b i h 8 hl hi (by omega)
 obtain ⟨n,i2,h2,hn,hi2,k2⟩:=cJ v b i1 h1 12 hl hi1 (by omega)
 have hz:=fJ ht
 have htl:=((aS t).1 ht).tab.len
 have hn':n<12:=by rw [nW,lF (by omega)] at hn; omega
 have hpos:0<t.inodes.length:=by
  obtain ⟨r,_,_,r3⟩:=dM ((aS t).1 ht)
  exact List.length_pos_of_mem r3
 have key:∃ ret outs,(∃ (t':Tab) (i':Nat) (h':Int),t'.sz<2^20∧i'≤b.length∧ret=t'.o∧outs=[cur v b i' h'])∧aY Tryz.prog 100 [cur v b i h] ret outs:=by
  unfold cur at *
  by_cases g0:n=0
  ·subst g0
   obtain ⟨r,i3,h3,hr,hi3,k3⟩:=l8 v b i2 h2 [1,2,1000,1001] hl hi2 (by simp) (by simp)
   unfold cur at k3
   simp only [eQ,lO,lP1] at k3
   refine cE hmx oZ [(101,[.l,.b],[]),(153,[.l,.b],[]),(57,[.l,.b],[]),(154,[.l],[])] 141 rfl [true] ⟨lD rfl,lD rfl⟩ rfl ?_
   intro w hP hQ
   unfold mJ
   refine N ?_
   (first | refine aF hP (k1) (.inl ⟨rfl,fun _ hx=>hx⟩) ?_ | refine aC hP (k1) (.inl ⟨rfl,fun _ hx=>hx⟩) ?_)
   refine N ?_
   (first | refine aF hP (k2) (.inl ⟨rfl,fun _ hx=>hx⟩) ?_ | refine aC hP (k2) (.inl ⟨rfl,fun _ hx=>hx⟩) ?_)
   refine N ?_
   (first | refine aF hP (k3) (.inl ⟨rfl,fun _ hx=>hx⟩) ?_ | refine aC hP (k3) (.inl ⟨rfl,fun _ hx=>hx⟩) ?_)
   refine N ?_
   exact ⟨{ t with next:=r },i3,h3,by show t.sz<2^20; omega,hi3,rfl,rfl⟩
  by_cases g1:n=1
  ·subst g1
   obtain ⟨x,i3,h3,hx,hi3,k3⟩:=alB v b i2 h2 hl hi2
   unfold cur at k3
   have hb1:(t.inodes.length+1)*96≤140737488355328:=by omega
   refine cE hmx oZ [(101,[.l,.b],[]),(153,[.l,.b],[]),(57,[.l,.b],[]),(154,[.l],[])] 141 rfl [true] ⟨lD rfl,lD rfl⟩ rfl ?_
   intro w hP hQ
   unfold mJ
   refine N ?_
   (first | refine aF hP (k1) (.inl ⟨rfl,fun _ hx=>hx⟩) ?_ | refine aC hP (k1) (.inl ⟨rfl,fun _ hx=>hx⟩) ?_)
   refine N ?_
   (first | refine aF hP (k2) (.inl ⟨rfl,fun _ hx=>hx⟩) ?_ | refine aC hP (k2) (.inl ⟨rfl,fun _ hx=>hx⟩) ?_)
   refine N ?_
   (first | refine aF hP (k3) (.inl ⟨rfl,fun _ hx=>hx⟩) ?_ | refine aC hP (k3) (.inl ⟨rfl,fun _ hx=>hx⟩) ?_)
   have hz:=hb1
   refine Nz ?_
   exact ⟨{ t with inodes:=t.inodes++[x] },i3,h3,by
    have:szM Inode.sz (t.inodes++[x])=szM Inode.sz t.inodes+1+x.sz:=by simp [szM]; omega
    have e:t.sz=szM Inode.sz t.inodes:=rfl
    show szM Inode.sz (t.inodes++[x])<2^20; omega,hi3,by simp [Inode.row],rfl⟩
  by_cases g2:n=2
  ·subst g2
   obtain ⟨m,i3,h3,hm,hi3,k3⟩:=cJ v b i2 h2 t.inodes.length hl hi2 (by omega)
   obtain ⟨x,i4,h4,hx,hi4,k4⟩:=alB v b i3 h3 hl hi3
   have hm':(m:Int)<(t.inodes.length:Nat):=by rw [nW,lF (by omega)] at hm; omega
   unfold cur at k3 k4
   refine cE hmx oZ [(101,[.l,.b],[]),(153,[.l,.b],[]),(57,[.l,.b],[]),(154,[.l],[])] 141 rfl [true] ⟨lD rfl,lD rfl⟩ rfl ?_
   intro w hP hQ
   unfold mJ
   refine N ?_
   (first | refine aF hP (k1) (.inl ⟨rfl,fun _ hx=>hx⟩) ?_ | refine aC hP (k1) (.inl ⟨rfl,fun _ hx=>hx⟩) ?_)
   refine N ?_
   (first | refine aF hP (k2) (.inl ⟨rfl,fun _ hx=>hx⟩) ?_ | refine aC hP (k2) (.inl ⟨rfl,fun _ hx=>hx⟩) ?_)
   refine N ?_
   (first | refine aF hP (k3) (.inl ⟨rfl,fun _ hx=>hx⟩) ?_ | refine aC hP (k3) (.inl ⟨rfl,fun _ hx=>hx⟩) ?_)
   refine N ?_
   (first | refine aF hP (k4) (.inl ⟨rfl,fun _ hx=>hx⟩) ?_ | refine aC hP (k4) (.inl ⟨rfl,fun _ hx=>hx⟩) ?_)
   have hz:=hm'
   refine Nz ?_
   exact ⟨{ t with inodes:=t.inodes.set m x },i4,h4,by
    have:szM Inode.sz (t.inodes.set m x)≤szM Inode.sz t.inodes+x.sz:=by
     have:=aaQ Inode.sz t.inodes m x
     simp only [szM,List.length_set]; omega
    have e:t.sz=szM Inode.sz t.inodes:=rfl
    show szM Inode.sz (t.inodes.set m x)<2^20; omega,hi4,by rw [rD Inode.row t.inodes m x _ fun y _=>rfl],rfl⟩
  by_cases g3:n=3
  ·subst g3
   obtain ⟨m,i3,h3,hm,hi3,k3⟩:=cJ v b i2 h2 (t.inodes.length+1) hl hi2 (by omega)
   have hm':(m:Int)≤(t.inodes.length:Nat):=by rw [nW,lF (by omega)] at hm; omega
   unfold cur at k3
   refine cE hmx oZ [(101,[.l,.b],[]),(153,[.l,.b],[]),(57,[.l,.b],[]),(154,[.l],[])] 141 rfl [true] ⟨lD rfl,lD rfl⟩ rfl ?_
   intro w hP hQ
   unfold mJ
   refine N ?_
   (first | refine aF hP (k1) (.inl ⟨rfl,fun _ hx=>hx⟩) ?_ | refine aC hP (k1) (.inl ⟨rfl,fun _ hx=>hx⟩) ?_)
   refine N ?_
   (first | refine aF hP (k2) (.inl ⟨rfl,fun _ hx=>hx⟩) ?_ | refine aC hP (k2) (.inl ⟨rfl,fun _ hx=>hx⟩) ?_)
   refine N ?_
   (first | refine aF hP (k3) (.inl ⟨rfl,fun _ hx=>hx⟩) ?_ | refine aC hP (k3) (.inl ⟨rfl,fun _ hx=>hx⟩) ?_)
   have hz:=hm'
   refine Nz ?_
   exact ⟨{ t with inodes:=t.inodes.take m },i3,h3,by
    have:szM Inode.sz (t.inodes.take m)≤szM Inode.sz t.inodes:=by
     have:=yK Inode.sz t.inodes m
     have:=List.length_take_le m t.inodes
     simp only [szM]; omega
    have e:t.sz=szM Inode.sz t.inodes:=rfl
    show szM Inode.sz (t.inodes.take m)<2^20; omega,hi3,by simp [Tab.o,Int.sub_zero],rfl⟩
  ·have w0:decide ((n:Int)=0)=false:=lB (by omega)
   have w1:decide ((n:Int)=1)=false:=lB (by omega)
   have w2:decide ((n:Int)=2)=false:=lB (by omega)
   have w3:decide ((n:Int)=3)=false:=lB (by omega)
   refine cE hmx oZ [(101,[.l,.b],[]),(153,[.l,.b],[]),(57,[.l,.b],[]),(154,[.l],[])] 141 rfl [true] ⟨lD rfl,lD rfl⟩ rfl ?_
   intro w hP hQ
   unfold mJ
   refine N ?_
   (first | refine aF hP (k1) (.inl ⟨rfl,fun _ hx=>hx⟩) ?_ | refine aC hP (k1) (.inl ⟨rfl,fun _ hx=>hx⟩) ?_)
   refine N ?_
   (first | refine aF hP (k2) (.inl ⟨rfl,fun _ hx=>hx⟩) ?_ | refine aC hP (k2) (.inl ⟨rfl,fun _ hx=>hx⟩) ?_)
   have hz:=And.intro w0 (And.intro w1 (And.intro w2 w3))
   refine Nz ?_
   exact ⟨t,i2,h2,by omega,hi2,rfl,rfl⟩
 obtain ⟨_,_,⟨t',i',h',ht',hi',rfl,rfl⟩,hS⟩:=key
 exact ⟨t',i',h',ht',hi',hS⟩
theorem apE (v:Value) (b:aA) (i:Nat) (h:Int) (hl:b.length<2^48) (hi:i≤b.length):∃ (t:Tab) (i':Nat) (h':Int),t.sz<2^28∧i'≤b.length ∧
  aY Tryz.prog 74 [cur v b i h] t.o [cur v b i' h']:=by
 obtain ⟨n,i1,h1,hn,hi1,k1⟩:=cJ v b i h 16 hl hi (by omega)
 by_cases g0:n=0
 ·subst g0
  obtain ⟨t,i2,h2,ht,hi2,k2⟩:=apD v b i1 h1 hl hi1
  refine ⟨t,i2,h2,by omega,hi2,?_⟩
  unfold cur at *
  refine U xL [(101,[.l,.b],[]),(100,[.l],[]),(138,[.l],[]),(57,[.l,.b],[])] 21 [true] fun w hP hQ=>?_
  unfold rZ
  refine N ?_
  (first | refine aF hP (k1) (.inl ⟨rfl,fun _ hx=>hx⟩) ?_ | refine aC hP (k1) (.inl ⟨rfl,fun _ hx=>hx⟩) ?_)
  refine N ?_
  (first | refine aF hP (k2) (.inl ⟨rfl,fun _ hx=>hx⟩) ?_ | refine aC hP (k2) (.inl ⟨rfl,fun _ hx=>hx⟩) ?_)
  simp +decide (maxSteps:=9^9) (disch:=omega) only[↓SB0,SX,seval,hQ]
  all_goals first | rfl | exact ⟨rfl,rfl⟩
 by_cases g1:n=1
 ·subst g1
  obtain ⟨t,i2,h2,ht,hi2,k2⟩:=anu v b i1 h1 hl hi1
  refine ⟨t,i2,h2,by omega,hi2,?_⟩
  unfold cur at *
  refine U xL [(101,[.l,.b],[]),(100,[.l],[]),(138,[.l],[]),(57,[.l,.b],[])] 21 [true] fun w hP hQ=>?_
  unfold rZ
  refine N ?_
  (first | refine aF hP (k1) (.inl ⟨rfl,fun _ hx=>hx⟩) ?_ | refine aC hP (k1) (.inl ⟨rfl,fun _ hx=>hx⟩) ?_)
  refine N ?_
  (first | refine aF hP (k2) (.inl ⟨rfl,fun _ hx=>hx⟩) ?_ | refine aC hP (k2) (.inl ⟨rfl,fun _ hx=>hx⟩) ?_)
  simp +decide (maxSteps:=9^9) (disch:=omega) only[↓SB0,SX,seval,hQ]
  all_goals first | rfl | exact ⟨rfl,rfl⟩
 ·obtain ⟨t,i2,h2,ht,hi2,k2⟩:=ahq v b i1 h1 10 hl hi1 (by omega)
  have hz:=fJ ht
  have w0:decide ((n:Int)=0)=false:=lB (by omega)
  have w1:decide ((n:Int)=1)=false:=lB (by omega)
  refine ⟨t,i2,h2,by omega,hi2,?_⟩
  unfold cur at *
  refine U xL [(101,[.l,.b],[]),(100,[.l],[]),(138,[.l],[]),(57,[.l,.b],[])] 21 [true] fun w hP hQ=>?_
  unfold rZ
  refine N ?_
  (first | refine aF hP (k1) (.inl ⟨rfl,fun _ hx=>hx⟩) ?_ | refine aC hP (k1) (.inl ⟨rfl,fun _ hx=>hx⟩) ?_)
  have hz:=And.intro w0 w1
  refine Nz ?_
  (first | refine aF hP (k2) (.inl ⟨rfl,fun _ hx=>hx⟩) ?_ | refine aC hP (k2) (.inl ⟨rfl,fun _ hx=>hx⟩) ?_)
  simp +decide (maxSteps:=9^9) (disch:=omega) only[↓SB0,SX,seval,hQ]
  all_goals first | rfl | exact ⟨rfl,rfl⟩
theorem y6 (v:Value) (b:aA) (hl:b.length<2^48):∃ (t:Tab) (p q:aA),t.sz<2^28∧p.length≤450∧q.length≤450∧aY Tryz.prog 38 [.extv v 1 (aI b)] (.tup [t.o,.str p,.str q]) [.undef]:=by
 obtain ⟨h0,k0⟩:=apC v b hl
 obtain ⟨t,i1,h1,ht,hi1,k1⟩:=apE v b 0 h0 hl (by omega)
 obtain ⟨p,i2,h2,hp,hi2,k2⟩:=ahp v b i1 h1 t hl hi1 (by omega)
 obtain ⟨q,i3,h3,hq,hi3,k3⟩:=afK v b i2 h2 hl hi2
 refine ⟨t,p,q,ht,hp,by omega,?_⟩
 unfold cur at *
 refine U u6 [(999999,[],[(5,0)]),(74,[.l],[]),(58,[.l,.b],[]),(90,[.l],[])] 125 [] fun w hP hQ=>?_
 unfold nZ
 refine N ?_
 (first | refine aF hP (k0) (.inl ⟨rfl,fun _ hx=>hx⟩) ?_ | refine aC hP (k0) (.inl ⟨rfl,fun _ hx=>hx⟩) ?_)
 refine N ?_
 (first | refine aF hP (k1) (.inl ⟨rfl,fun _ hx=>hx⟩) ?_ | refine aC hP (k1) (.inl ⟨rfl,fun _ hx=>hx⟩) ?_)
 refine N ?_
 (first | refine aF hP (k2) (.inl ⟨rfl,fun _ hx=>hx⟩) ?_ | refine aC hP (k2) (.inl ⟨rfl,fun _ hx=>hx⟩) ?_)
 refine N ?_
 (first | refine aF hP (k3) (.inl ⟨rfl,fun _ hx=>hx⟩) ?_ | refine aC hP (k3) (.inl ⟨rfl,fun _ hx=>hx⟩) ?_)
 exact N trivial
section
open Go.Proofs Go.Shelf Go.RowKit Go.Lib
theorem gR {P:Program} (s:Nat) (w:World) (dT sT ty e:TypeId) (b o dLen dCap:Nat) (a:Addr) (sLen sCap:Nat) (cs:List Value) (hu:P.underlying dT=some (.slice e)) (hs:(P.info? e).map (·.size)=some s)
  (hl:cs.length=(sLen.min dLen)*s) (hc:∀ (j:Nat) (v:Value),cs[j]?=some v→w.cell? (a.add j)=some v) (hd:∀ j,j<cs.length→(w.cell? ⟨b,o+j,none⟩).isSome=true) (hf:∀ j,j<cs.length→w.frozen? ⟨b,o+j,none⟩=false)
  (h1:∀ v ∈ cs,v.oneCell'=true) :
  (Builtin.copy_ #[dT,sT] ty #[.slice (some ⟨b,o,none⟩) dLen dCap,.slice (some a) sLen sCap]).run P w=.ok (goInt (sLen.min dLen:Nat)) (w.setCells b o cs):=by
 have hst:=run_storeCells_cells (P:=P) b o cs 0 w (by simpa using hd) (by simpa using hf) h1
 simp only [lI3] at hst
 have hfc:(Builtin.firstCells s (Nat.min sLen dLen) (.slice (some a) sLen sCap)).run P w=.ok cs.toArray w:=run_firstCells_some w s (sLen.min dLen) a sLen sCap cs hl hc
 have hrun:=acd (P:=P) (w:=w) (ts:=#[dT,sT]) (ty:=ty) (t:=dT) rfl hu (show qD P e=some s from hs) (some ⟨b,o,none⟩) (some a) dLen dCap sLen sCap cs hfc (w':=w.setCells b o cs) (fun ad had=>by cases had; exact hst) (fun h=>by cases h)
 exact hrun
abbrev jB (w:World) (b off:Nat) (cs:List Value):Prop:=∀ (j:Nat) (v:Value),cs[j]?=some v→w.cell? ⟨b,off+j,none⟩=some v
abbrev ai0 (cs:List Value):Prop:=∀ v ∈ cs,v.oneCell'=true
theorem abO {α:Type} (L:List α) (m:Nat) (l:List α) (h:m+l.length≤L.length) (k:Nat):(lay L m l)[k]?=if m≤k∧k<m+l.length then l[k-m]? else L[k]?:=by
 unfold lay
 rw [lJ2]
 by_cases h1:k<m
 ·rw [lO2 (by rw [lN]; omega),lZ,lF h1,lI (by omega)]
 ·rw [lV2 (by rw [lN]; omega),lN,lL1 (by omega)]
  by_cases h2:k<m+l.length
  ·rw [lO2 (by omega),lF ⟨by omega,h2⟩]
  ·rw [lV2 (by omega),lH1,lI (by omega)]; congr 1; omega
theorem alC {cs vs:List Value} {a s:Nat} (hv:vs.length=s) (ha:a≤cs.length) (k:Nat):(cs.take a++(vs++cs.drop a))[k]?=if k<a then cs[k]? else if k<a+s then vs[k-a]? else cs[k-s]?:=by
 by_cases h1:k<a
 ·rw [lO2 (by rw [lN]; omega),lZ,lF h1,lF h1]
 ·rw [lV2 (by rw [lN]; omega),lN,lL1 ha,lI h1]
  by_cases h2:k<a+s
  ·rw [lO2 (by omega),lF h2]
  ·rw [lV2 (by omega),lH1,lI h2]; congr 1; omega
structure InsAt (w w':World) (s n:Nat) (T:List Value) (B O cap:Nat):Prop where
 cell:∃ C ty fr,w'.heap[B]?=some (.cells C ty fr)∧thawS s C.size fr∧O+cap*s≤C.size∧∀ k,k<T.length→C[O+k]?=T[k]?
 room:n+1≤cap
 same:∀ b,b<w.heap.size→b≠B→w'.heap[b]?=w.heap[b]?
 grows:Grows w w'
theorem adL {w w0 w':World} {b off cap n i s:Nat} {C:Array Value} {ty:TypeId} {fr:Nat × Nat} {cs vs:List Value} (h0:w0.heap=w.heap) (h0k:Quiet w w0) (hb:w.heap[b]?=some (.cells C ty fr)) (hfr:thawS s C.size fr)
  (hcap:off+cap*s≤C.size) (hroom:n+1≤cap) (hi:i≤n) (hcs:cs.length=n*s) (hvs:vs.length=s) (hc:∀ k,k<cs.length→C[off+k]?=cs[k]?)
  (hw:w'=(w0.setCells b (off+(i+1)*s) (cs.drop (i*s))).setCells b (off+i*s) vs):InsAt w w' s n (cs.take (i*s)++(vs++cs.drop (i*s))) b off cap:=by
 obtain ⟨m,rfl⟩:∃ m,n=i+m:=⟨n-i,by omega⟩
 have hmul:(i+m+1)*s≤cap*s:=lI1 s hroom
 have hL:(i+m)*s=i*s+m*s:=lN2 _ _ _
 have hL1:(i+m+1)*s=i*s+m*s+s:=by rw [lN2,lV4,hL]
 have hJ:(i+1)*s=i*s+s:=by rw [lN2,lV4]
 have hnl:(cs.drop (i*s)).length=m*s:=by rw [lY1,hcs,hL]; omega
 rw [← h0] at hb
 obtain ⟨C1,hC1,hw1,ho1,hk1⟩:=dX b (cs.drop (i*s)) (off+(i+1)*s) w0 C ty fr hb (by rw [hnl,hJ]; omega)
 have hl1:off+(i+1)*s+(cs.drop (i*s)).length≤C.toList.length:=by rw [hnl,hJ,lK1]; omega
 have hs1:C1.size=C.size:=by
  have:C1.toList.length=C.toList.length:=by rw [hC1,gI _ _ _ hl1]
  simpa using this
 obtain ⟨C2,hC2,hw2,ho2,hk2⟩:=dX b vs (off+i*s) _ C1 ty fr hw1 (by rw [hs1,hvs]; omega)
 have hl2:off+i*s+vs.length≤C1.toList.length:=by rw [hvs,lK1,hs1]; omega
 have hs2:C2.size=C.size:=by
  have:C2.toList.length=C1.toList.length:=by rw [hC2,gI _ _ _ hl2]
  rw [← hs1]; simpa using this
 rw [← hw] at hw2 ho2 hk2
 refine ⟨⟨C2,ty,fr,hw2,by rw [hs2]; exact hfr,by rw [hs2]; exact hcap,fun k hk=>?_⟩,hroom,fun x _ hx=>?_,?_⟩
 ·rw [alC hvs (by rw [hcs,hL]; omega),← lD2,hC2,abO _ _ _ hl2,hC1,abO _ _ _ hl1,hvs,hnl]
  have hk':k<i*s+m*s+s:=by
   simp only [lU,lN,hvs,hnl,hcs,hL] at hk; omega
  by_cases c1:k<i*s
  ·rw [lF c1,lI (by omega),lI (by omega),lD2,hc k (by rw [hcs,hL]; omega)]
  ·rw [lI c1]
   by_cases c2:k<i*s+s
   ·rw [lF c2,lF (by omega)]; congr 1; omega
   ·rw [lI c2,lI (by omega),lF (by omega),lH1]; congr 1; omega
 ·rw [ho2 x hx,ho1 x hx,h0]
 ·refine ⟨by rw [hk2.size,hk1.size,h0]; exact lJ1 _,⟨?_,?_⟩⟩
  ·exact hk2.quiet.os.trans (hk1.quiet.os.trans h0k.os)
  ·exact hk2.quiet.out.trans (hk1.quiet.out.trans h0k.out)
theorem uY {w w':World} {n s cap:Nat} {ty:TypeId} {cs vs:List Value} {Z:Array Value} (hcs:cs.length=n*s) (hvs:vs.length=s) (hroom:n+1≤cap) (hZ:(n+1)*s+Z.size=cap*s)
  (hw:w'=w.drew.alloc (.cells ((cs++vs).toArray++Z) ty)):InsAt w w' s n (cs.take (n*s)++(vs++cs.drop (n*s))) w.heap.size 0 cap:=by
 subst hw
 have e:cs.take (n*s)++(vs++cs.drop (n*s))=cs++vs:=by rw [← hcs,lW1,List.drop_length,lR2]
 rw [e]
 have hL1:(n+1)*s=n*s+s:=by rw [lN2,lV4]
 have hp:(w.drew.alloc (.cells ((cs++vs).toArray++Z) ty)).heap=w.heap.push (.cells ((cs++vs).toArray++Z) ty):=rfl
 refine ⟨⟨(cs++vs).toArray++Z,ty,(0,0),by rw [hp]; simp,⟨by intro o _ h; omega,lJ1 _⟩,?_,fun k hk=>?_⟩,hroom,fun b hb _=>?_,?_⟩
 ·rw [lY3,lX4,lU,hcs,hvs]; omega
 ·rw [lL2,lK3 (by simpa using hk)]; simp
 ·exact jG hp hb
 ·refine ⟨by rw [hp,Array.size_push]; omega,⟨rfl,rfl⟩⟩
theorem anw {w w':World} {n i s cap:Nat} {ty:TypeId} {cs vs:List Value} {Z:Array Value} (hi:i≤n) (hcs:cs.length=n*s) (hvs:vs.length=s) (hroom:n+1≤cap) (hZ:i*s+Z.size=cap*s)
  (hw:w'=(((w.alloc (.cells ((cs.take (i*s)).toArray++Z) ty)).drew.setCells w.heap.size (i*s) vs).drew).setCells w.heap.size ((i+1)*s) (cs.drop (i*s))) :
  InsAt w w' s n (cs.take (i*s)++(vs++cs.drop (i*s))) w.heap.size 0 cap:=by
 obtain ⟨m,rfl⟩:∃ m,n=i+m:=⟨n-i,by omega⟩
 have hmul:(i+m+1)*s≤cap*s:=lI1 s hroom
 have hL:(i+m)*s=i*s+m*s:=lN2 _ _ _
 have hL1:(i+m+1)*s=i*s+m*s+s:=by rw [lN2,lV4,hL]
 have hJ:(i+1)*s=i*s+s:=by rw [lN2,lV4]
 have hnl:(cs.drop (i*s)).length=m*s:=by rw [lY1,hcs,hL]; omega
 obtain ⟨C,hC⟩:∃ C,C=(cs.take (i*s)).toArray++Z:=⟨_,rfl⟩
 have hsz:C.size=cap*s:=by
  rw [hC,lY3,lX4,lN,hcs,hL,lL1 (by omega)]; exact hZ
 rw [← hC] at hw
 have hp:((w.alloc (.cells C ty)).drew).heap=w.heap.push (.cells C ty):=rfl
 have hb:((w.alloc (.cells C ty)).drew).heap[w.heap.size]?=some (.cells C ty (0,0)):=by rw [hp]; simp
 obtain ⟨C1,hC1,hw1,ho1,hk1⟩:=dX w.heap.size vs (i*s) _ C ty (0,0) hb (by rw [hsz,hvs]; omega)
 have hl1:i*s+vs.length≤C.toList.length:=by rw [hvs,lK1,hsz]; omega
 have hs1:C1.size=C.size:=by
  have:C1.toList.length=C.toList.length:=by rw [hC1,gI _ _ _ hl1]
  simpa using this
 obtain ⟨C2,hC2,hw2,ho2,hk2⟩:=dX w.heap.size (cs.drop (i*s)) ((i+1)*s) (((w.alloc (.cells C ty)).drew.setCells w.heap.size (i*s) vs).drew) C1 ty (0,0) hw1 (by rw [hs1,hsz,hnl,hJ]; omega)
 have hl2:(i+1)*s+(cs.drop (i*s)).length≤C1.toList.length:=by rw [hnl,hJ,lK1,hs1,hsz]; omega
 have hs2:C2.size=C.size:=by
  have:C2.toList.length=C1.toList.length:=by rw [hC2,gI _ _ _ hl2]
  rw [← hs1]; simpa using this
 rw [← hw] at hw2 ho2 hk2
 refine ⟨⟨C2,ty,(0,0),hw2,⟨by intro o _ h; omega,lJ1 _⟩,by rw [hs2,hsz]; omega,fun k hk=>?_⟩,hroom,fun x hx hne=>?_,?_⟩
 ·rw [lL2,alC hvs (by rw [hcs,hL]; omega),← lD2,hC2,abO _ _ _ hl2,hC1,abO _ _ _ hl1,hvs,hnl]
  have hk':k<i*s+m*s+s:=by
   simp only [lU,lN,hvs,hnl,hcs,hL] at hk; omega
  by_cases c1:k<i*s
  ·rw [lF c1,lI (by omega),lI (by omega),lD2,hC,lK3 (by rw [lX4,lN,hcs,hL]; omega)]
   rw [List.getElem?_toArray,lZ,lF c1]
  ·rw [lI c1]
   by_cases c2:k<i*s+s
   ·rw [lF c2,lI (by omega),lF (by omega)]
   ·rw [lI c2,lF (by omega),lH1]; congr 1; omega
 ·rw [ho2 x hne]
  show (((w.alloc (.cells C ty)).drew).setCells w.heap.size (i*s) vs).heap[x]?=_
  rw [ho1 x hne]
  exact jG hp hx
 ·have h1:(((w.alloc (.cells C ty)).drew).setCells w.heap.size (i*s) vs).drew.heap.size=w.heap.size+1:=by
   show (((w.alloc (.cells C ty)).drew).setCells w.heap.size (i*s) vs).heap.size=_
   rw [hk1.size,hp,Array.size_push]
  refine ⟨by rw [hk2.size,h1]; omega,⟨?_,?_⟩⟩
  ·rw [hk2.quiet.os]; show (((w.alloc (.cells C ty)).drew).setCells w.heap.size (i*s) vs).os=_; rw [hk1.quiet.os]; rfl
  ·rw [hk2.quiet.out]; show (((w.alloc (.cells C ty)).drew).setCells w.heap.size (i*s) vs).output=_; rw [hk1.quiet.out]; rfl
theorem anx {P:Program} {f s:Nat} {es:List (List TV)} {x:List TV} {i:Nat} (hE:oL P f) (hs:∀ r ∈ es,r.length=s) (hx:x.length=s) (hk:es.flatten.all dO=true) (hkx:x.all dO=true) (hi:i≤es.length)
  (run:∀ (w:World) (base:Option Addr) (c:Nat) (cs vs:List Value) (vb voff vc:Nat) (Cv:Array Value) (tv:TypeId) (frv:Nat × Nat),cs.length=es.length*s→vs.length=s→es.length≤c→(base=none→es.length=0∧c=0) →
   (∀ a,base=some a→∃ b off C ty fr,a=⟨b,off,none⟩∧b≠vb∧w.heap[b]?=some (.cells C ty fr)∧thawS s C.size fr∧off+c*s≤C.size∧∀ k,k<cs.length→C[off+k]?=cs[k]?) →
   w.heap[vb]?=some (.cells Cv tv frv)→thawS s Cv.size frv→voff+vc*s≤Cv.size→1≤vc→(∀ k,k<vs.length→Cv[voff+k]?=vs[k]?)→(∀ u ∈ cs,u.oneCell'=true)→(∀ u ∈ vs,u.oneCell'=true) →
   Calls P f #[.slice base es.length c,.int .i64 i,.slice (some ⟨vb,voff,none⟩) 1 vc] w fun e w'=>∃ B O cap,e=.returned (.slice (some ⟨B,O,none⟩) (es.length+1) cap) ∧
    InsAt w w' s es.length (cs.take (i*s)++(vs++cs.drop (i*s))) B O cap∧((∃ a,base=some a∧B=a.block)∨B=w.heap.size)) :
  aY P f [.own s es,.int .i64 i,.own s [x]] (.own s (es.take i++x::es.drop i)) [.undef,.undef,.undef]:=by
 refine ⟨hE,rfl,?_⟩
 intro w zs F X r h1 h2 h3
 cases r with
 | own _ F1 F2 _ s es v zs ys hr hn hF=>
 cases hn with
 | int _ _ _ _ zs _ hn=>
 cases hn with
 | own _ H1 H2 _ _ _ v2 zs2 ys2 hr2 hn2 hF2=>
 cases hn2 with
 | nil _ _ hz hX=>
 rcases Row.sl_inv hr2 with ⟨_,he,_⟩ | ⟨Gv,vb,voff,vc,Cv,tv,frv,vs,rfl,hvb,hvfr,hvcap,hvle,hves,hvcs,hvc,hvrow,hvF⟩
 ·exact absurd he (by simp)
 have hvl:vs.length=s:=by simpa using hvcs
 have e1:[x].flatten=x:=by simp
 rw [e1] at hvrow
 have hbase:∃ (base:Option Addr) (c:Nat) (cs:List Value) (Gs:aL),v=.slice base es.length c∧cs.length=es.length*s∧es.length≤c∧(base=none→es.length=0∧c=0)∧Row w true Gs cs es.flatten ∧
   (∀ a,base=some a→∃ b off C ty fr,a=⟨b,off,none⟩∧b≠vb∧w.heap[b]?=some (.cells C ty fr)∧thawS s C.size fr∧off+c*s≤C.size∧∀ k,k<cs.length→C[off+k]?=cs[k]?) ∧
   (∀ b,Gs b≤F1 b)∧(∀ a b,base=some a→b=a.block→Gs b+1≤F1 b):=by
  rcases Row.sl_inv hr with ⟨rfl,rfl,h0⟩ | ⟨G1,b,off,cap,C,ty,fr,cs,rfl,hb,hfr,hcap,hle,hes,hcs,hc,hrow,hG⟩
  ·exact ⟨none,0,[],fun _=>0,rfl,by simp,lJ1 _,fun _=>⟨rfl,rfl⟩,.nil _ _ fun _=>rfl,fun a h=>(by cases h),fun b=>lD3 _,fun a b h=>(by cases h)⟩
  ·refine ⟨_,cap,cs,G1,rfl,hcs,hle,fun h=>(by cases h),hrow,fun a ha=>?_,fun x=>(by rw [hG]; omega),fun a x ha hx=>?_⟩
   ·injection ha with ha
    refine ⟨b,off,C,ty,fr,ha.symm,?_,hb,hfr,hcap,hc⟩
    intro e
    have a1:=h1 b
    have a2:=hF b
    have a3:=hF2 b
    have a4:=hvF b
    have a5:=hG b
    rw [lF e] at a4
    rw [lF rfl] at a5
    omega
   ·injection ha with ha
    have hxb:x=b:=by rw [hx,← ha]
    have:=hG x
    rw [lF hxb] at this
    show G1 x+1≤F1 x
    omega
 obtain ⟨base,c,cs,Gs,rfl,hcs,hle,hnil,hrow,hsome,hGF,hGb⟩:=hbase
 refine (run w base c cs vs vb voff vc Cv tv frv hcs hvl hle hnil hsome hvb hvfr hvcap (by simpa using hvle) hvc (oP hrow hk) (oP hvrow hkx)).mono ?_
 rintro e w' ⟨B,O,cap,rfl,I,hB⟩
 have l1:(es.take i).flatten.length=i*s:=by rw [cD _ (fun e he=>hs e (lC2 he)),lN,lL1 hi]
 have hii:i*s≤es.length*s:=lI1 s hi
 have efl:es.flatten=(es.take i).flatten++(es.drop i).flatten:=by rw [← lB2,lJ]
 have ecs:cs=cs.take (i*s)++cs.drop (i*s):=(lJ _ _).symm
 have hrow':Row w true Gs (cs.take (i*s)++cs.drop (i*s)) ((es.take i).flatten++(es.drop i).flatten):=by rw [← ecs,← efl]; exact hrow
 obtain ⟨A1,A2,r1,r2,eA⟩:=Row.split (cs.take (i*s)) _ (by rw [l1,lN,hcs]; omega) hrow'
 have rnew:Row w true (fun b=>A1 b+(Gv b+A2 b)) (cs.take (i*s)++(vs++cs.drop (i*s))) (es.take i++x::es.drop i).flatten:=by
  rw [lB2,lZ2]
  exact Row.append r1 (Row.append hvrow r2 (fun _=>rfl)) (fun _=>rfl)
 have hlt:=Row.lt rnew rfl
 have hGle:∀ b,A1 b+(Gv b+A2 b)≤F b:=fun b=>by have:=hF b; have:=hF2 b; have:=hvF b; have:=eA b; have:=hGF b; omega
 have hBl:∀ b,(if b=B then 1 else 0)+(A1 b+(Gv b+A2 b))≤1:=by
  intro b
  have f1:=h1 b
  by_cases e:b=B
  ·rw [lF e]
   rcases hB with ⟨a,ha,hBa⟩ | hB
   ·have:=hGb a b ha (e.trans hBa)
    have:=hF b; have:=hF2 b; have:=hvF b; have:=eA b
    omega
   ·have:¬ (A1 b+(Gv b+A2 b)≠0):=fun h=>by have:=hlt b h; omega
    omega
  ·rw [lI e]; have:=hGle b; omega
 have hsame:mC w w' (fun b=>A1 b+(Gv b+A2 b)):=fun b hb=>by
  refine I.same b (hlt b hb) (fun e=>?_)
  have:=hBl b
  rw [lF e] at this
  (try dsimp only at hb); omega
 obtain ⟨C,ty,fr,hC1,hC2,hC3,hC4⟩:=I.cell
 have hTl:(cs.take (i*s)++(vs++cs.drop (i*s))).length=(es.take i++x::es.drop i).length*s:=by
  have g1:(es.take i++x::es.drop i).length=es.length+1:=by simp; omega
  rw [g1]
  simp only [lU,lN,lY1,hvl,hcs,lN2,lV4]
  omega
 have hnew:Row w' true (fun b=>(if b=B then 1 else 0)+(A1 b+(Gv b+A2 b))) [.slice (some ⟨B,O,none⟩) (es.length+1) cap] [.sl s (es.take i++x::es.drop i)]:=
  Row.of_sl (F1:=fun b=>A1 b+(Gv b+A2 b)) (by simp; omega) hC1 hC2 hC3 (by have:=I.room; simp; omega)
   (fun r hr=>by
    rcases lL.1 hr with hr | hr
    ·exact hs r (lC2 hr)
    ·rcases lH.1 hr with rfl | hr
     ·exact hx
     ·exact hs r (lT2 hr)) hTl hC4 (rnew.same hsame) (fun _=>rfl)
 have hBF:∀ b,b=B→F b≠0∨w.heap.size≤b:=by
  intro b e
  rcases hB with ⟨a,ha,hBa⟩ | hB
  ·left
   have:=hGb a b ha (e.trans hBa)
   have:=hF b
   omega
  ·right; omega
 refine ⟨_,fun b=>(if b=B then 1 else 0)+(A1 b+(Gv b+A2 b)),X,rfl,?_,hBl,fun b=>.inr (hX b),I.grows,fun b hb h0=>?_,fun b hb=>?_,fun b hb=>absurd (hX b) hb⟩
 ·exact .own _ (fun b=>(if b=B then 1 else 0)+(A1 b+(Gv b+A2 b))) (fun _=>0) X s _ _ _ _ hnew (.undef _ _ _ _ _ (.undef _ _ _ _ _ (.undef _ _ _ _ _ (.nil _ _ (fun _=>rfl) hX)))) (fun x=>by simp)
 ·refine I.same b hb fun e=>?_
  rcases hBF b e with h | h
  ·exact h h0
  ·omega
 ·by_cases e:b=B
  ·exact hBF b e
  ·left
   (try dsimp only at hb)
   rw [lI e] at hb
   have:=hGle b
   omega
theorem aqD {P:Program} {f s B el:Nat} {Z:Value} (hE:oL P f) (h26:s=2∨s=6) (hB:0<B) (hZ:Z.cells.size=s)
  (shift:∀ (b off n c i vb voff vc:Nat) (cs vs:List Value) (w:World) (hi:i<n) (hroom:n+1≤c) (hc63:n+1≤9223372036854775807) (hvb:vb≠b) (hcl:cs.length=n*s) (hvl:vs.length=s) (hcs:jB w b off cs) (hsp:∀ j,j<(n+1)*s→(w.cell? ⟨b,off+j,none⟩).isSome=true) (hfz:∀ j,j<(n+1)*s→w.frozen? ⟨b,off+j,none⟩=false) (hvs:jB w vb voff vs) (h1c:ai0 cs) (h1v:ai0 vs) (tA tB:TypeId) (kA kB:Nat) (hsa:w.shape? vb=some (tA,kA)) (hsb:w.shape? b=some (tB,kB)) (hkB:kB≠0) (hfa:w.frozen? ⟨vb,voff,none⟩=false) (hfe:w.frozen? ⟨vb,kA,none⟩=false),Calls P f #[.slice (some ⟨b,off,none⟩) n c,.int .i64 i,.slice (some ⟨vb,voff,none⟩) 1 vc] w fun e w'=>e=.returned (.slice (some ⟨b,off,none⟩) (n+1) c)∧w'=(w.drew.setCells b (off+(i+1)*s) (cs.drop (i*s))).setCells b (off+i*s) vs)
  (room:∀ (b off n c vb voff vc:Nat) (vs:List Value) (w:World) (hroom:n+1≤c) (hc63:n+1≤9223372036854775807) (hvl:vs.length=s) (hsp:∀ j,j<s→(w.cell? ⟨b,off+n*s+j,none⟩).isSome=true) (hfz:∀ j,j<s→w.frozen? ⟨b,off+n*s+j,none⟩=false) (hvs:jB w vb voff vs) (h1v:ai0 vs),Calls P f #[.slice (some ⟨b,off,none⟩) n c,.int .i64 n,.slice (some ⟨vb,voff,none⟩) 1 vc] w fun e w'=>e=.returned (.slice (some ⟨b,off,none⟩) (n+1) c)∧w'=w.setCells b (off+n*s) vs)
  (egrow:∀ (base:Option Addr) (n c vb voff vc:Nat) (cs vs:List Value) (w:World) (hnc:n≤c) (hroom:c<n+1) (hbig:(n+1)*B≤140737488355328) (hcl:cs.length=n*s) (hvl:vs.length=s) (hnil:base=none→n=0) (hcs:∀ a,base=some a→∀ (j:Nat) (v:Value),cs[j]?=some v→w.cell? (a.add j)=some v) (hvs:jB w vb voff vs) (h1v:ai0 vs),Calls P f #[.slice base n c,.int .i64 n,.slice (some ⟨vb,voff,none⟩) 1 vc] w fun e w'=>e=.returned (.slice (some ⟨w.heap.size,0,none⟩) (n+1) (grownCap w (n+1) c el))∧w'=w.drew.alloc (.cells ((cs++vs).toArray++Builtin.zeroCells Z.cells (grownCap w (n+1) c el-(n+1))) el))
  (grow:∀ (b off n c i vb voff vc:Nat) (cs vs:List Value) (w:World) (hi:i<n) (hnc:n≤c) (hroom:c<n+1) (hbig:(n+1)*B≤140737488355328) (hcl:cs.length=n*s) (hvl:vs.length=s) (hcs:jB w b off cs) (hvs:jB w vb voff vs) (h1c:ai0 cs) (h1v:ai0 vs),Calls P f #[.slice (some ⟨b,off,none⟩) n c,.int .i64 i,.slice (some ⟨vb,voff,none⟩) 1 vc] w fun e w'=>e=.returned (.slice (some ⟨w.heap.size,0,none⟩) (n+1) (grownCap w (n+1) c el))∧w'=(((w.alloc (.cells ((cs.take (i*s)).toArray++Builtin.zeroCells Z.cells (n+1-i)++Builtin.zeroCells Z.cells (grownCap w (n+1) c el-(n+1))) el)).drew.setCells w.heap.size (i*s) vs).drew).setCells w.heap.size ((i+1)*s) (cs.drop (i*s)))
  (es:List (List TV)) (x:List TV) (i:Nat) (hs:∀ r ∈ es,r.length=s) (hx:x.length=s) (hk:es.flatten.all dO=true) (hkx:x.all dO=true) (hi:i≤es.length) (hbig:(es.length+1)*B≤140737488355328) :
  aY P f [.own s es,.int .i64 i,.own s [x]] (.own s (es.take i++x::es.drop i)) [.undef,.undef,.undef]:=by
 have hn1:es.length+1≤140737488355328:=lB4 (Nat.le_mul_of_pos_right _ hB) hbig
 refine anx (s:=s) hE hs hx hk hkx hi ?_
 intro w base c cs vs vb voff vc Cv tv frv hcs hvl hle hnil hsome hvb hvfr hvcap hvc1 hvc h1c h1v
 clear hs hx hk hkx
 generalize es.length=n at *
 obtain ⟨c6,hc6⟩:∃ c6,c6=c*s:=⟨_,rfl⟩
 rcases h26 with rfl | rfl
 all_goals
  have hvs:∀ (j:Nat) (v:Value),vs[j]?=some v→w.cell? ⟨vb,voff+j,none⟩=some v:=by
   intro j v hj
   have:=hvc j (lM.1 hj).1
   simp [World.cell?,hvb,this,hj]
  have hz6:∀ m,(Builtin.zeroCells Z.cells m).size=m*Z.cells.size:=fun m=>size_zeroCells _ _
  cases base with
  | none=>
   obtain ⟨rfl,rfl⟩:=hnil rfl
   have hi0:i=0:=by omega
   subst hi0
   have hg:=grownCap_ge w (0+1) 0 el
   refine (egrow none 0 0 vb voff vc cs vs w (by omega) (by omega) hbig hcs hvl (fun _=>rfl) (fun a h=>by cases h) hvs h1v).mono ?_
   rintro e w' ⟨rfl,hw⟩
   refine ⟨w.heap.size,0,_,rfl,?_,.inr rfl⟩
   exact uY  (n:=0) hcs hvl hg (by rw [hz6,hZ]; omega) hw
  | some a=>
   obtain ⟨b,off,C,ty,fr,rfl,hne,hb,hfr,hcap,hc⟩:=hsome a rfl
   have hcell:∀ (j:Nat) (v:Value),cs[j]?=some v→w.cell? ⟨b,off+j,none⟩=some v:=by
    intro j v hj
    have:=hc j (lM.1 hj).1
    simp [World.cell?,hb,this,hj]
   have hsp:∀ j,j<c6→(w.cell? ⟨b,off+j,none⟩).isSome=true:=by
    intro j hj
    have:off+j<C.size:=by omega
    simp [World.cell?,hb,this]
   have hfz:∀ j,j<c6→w.frozen? ⟨b,off+j,none⟩=false:=by
    intro j hj
    have:=hfr.1 (off+j) (.inl (by omega))
    simp [World.frozen?,hb]
    simpa using this
   have hg:=grownCap_ge w (n+1) c el
   by_cases hin:i=n
   ·subst hin
    by_cases hroom:i+1≤c
    ·refine (room b off i c vb voff vc vs w hroom (by omega) hvl (fun j hj=>by rw [lC3]; exact hsp _ (by omega)) (fun j hj=>by rw [lC3]; exact hfz _ (by omega)) hvs h1v).mono ?_
     rintro e w' ⟨rfl,hw⟩
     refine ⟨b,off,_,rfl,?_,.inl ⟨_,rfl,rfl⟩⟩
     refine adL  (w0:=w) rfl ⟨rfl,rfl⟩ hb hfr hcap hroom (lJ1 _) hcs hvl hc ?_
     rw [lX2 (by omega)]; exact hw
    ·refine (egrow (some ⟨b,off,none⟩) i c vb voff vc cs vs w hle (by omega) hbig hcs hvl (fun h=>by cases h) (fun a ha j v hj=>by injection ha with ha; subst ha; rw [Addr.add_lit]; exact hcell j v hj) hvs h1v).mono ?_
     rintro e w' ⟨rfl,hw⟩
     refine ⟨w.heap.size,0,_,rfl,?_,.inr rfl⟩
     exact uY  hcs hvl hg (by rw [hz6,hZ]; omega) hw
   ·have hlt:i<n:=by omega
    by_cases hroom:n+1≤c
    ·have hfa:w.frozen? ⟨vb,voff,none⟩=false:=by
      have:=hvfr.1 voff (.inl (by omega))
      simp [World.frozen?,hvb]
      simpa using this
     have hfe:w.frozen? ⟨vb,Cv.size,none⟩=false:=by
      have:=hvfr.1 Cv.size (.inr ⟨by decide,rfl⟩)
      simp [World.frozen?,hvb]
      simpa using this
     refine (shift b off n c i vb voff vc cs vs w hlt hroom (by omega) (Ne.symm hne) hcs hvl hcell (fun j hj=>hsp j (by omega)) (fun j hj=>hfz j (by omega)) hvs h1c h1v tv ty Cv.size C.size
      (by simp [World.shape?,hvb]) (by simp [World.shape?,hb]) (by omega) hfa hfe).mono ?_
     rintro e w' ⟨rfl,hw⟩
     refine ⟨b,off,_,rfl,?_,.inl ⟨_,rfl,rfl⟩⟩
     exact adL  (w0:=w.drew) rfl ⟨rfl,rfl⟩ hb hfr hcap hroom (by omega) hcs hvl hc hw
    ·refine (grow b off n c i vb voff vc cs vs w hlt hle (by omega) hbig hcs hvl hcell hvs h1c h1v).mono ?_
     rintro e w' ⟨rfl,hw⟩
     refine ⟨w.heap.size,0,_,rfl,?_,.inr rfl⟩
     rw [Array.append_assoc] at hw
     exact anw  (by omega) hcs hvl hg (by rw [lY3,hz6,hz6,hZ]; omega) hw
end
section
open Go.Proofs Go.Shelf Go.RowKit Go.Lib
end
section
open Go.Proofs Go.Shelf Go.RowKit Go.Lib
theorem anz:type_of% (And.intro (by kernel_rfl:Tryz.prog.follows .mixedOrders=true) (And.intro Tryz.underlying0 (And.intro Tryz.isAgg0 (And.intro Tryz.sizeOf0 (And.intro Tryz.zeroValue0 (And.intro Tryz.underlying3 (And.intro Tryz.isAgg3 (And.intro Tryz.sizeOf3 (And.intro Tryz.zeroValue3 (And.intro Tryz.underlying4 (And.intro Tryz.isAgg4 (And.intro Tryz.sizeOf4 (And.intro Tryz.zeroValue4 (And.intro Tryz.underlying70 (And.intro Tryz.isAgg70 (And.intro Tryz.sizeOf70 (And.intro Tryz.zeroValue70 (Tryz.zeroValue97)))))))))))))))))):=And.intro (by kernel_rfl:Tryz.prog.follows .mixedOrders=true) (And.intro Tryz.underlying0 (And.intro Tryz.isAgg0 (And.intro Tryz.sizeOf0 (And.intro Tryz.zeroValue0 (And.intro Tryz.underlying3 (And.intro Tryz.isAgg3 (And.intro Tryz.sizeOf3 (And.intro Tryz.zeroValue3 (And.intro Tryz.underlying4 (And.intro Tryz.isAgg4 (And.intro Tryz.sizeOf4 (And.intro Tryz.zeroValue4 (And.intro Tryz.underlying70 (And.intro Tryz.isAgg70 (And.intro Tryz.sizeOf70 (And.intro Tryz.zeroValue70 (Tryz.zeroValue97)))))))))))))))))
theorem vI (b off n c i vb voff vc:Nat) (cs vs:List Value) (w:World) (hi:i<n) (hroom:n+1≤c) (hc63:n+1≤9223372036854775807) (hvb:vb≠b)
  (hcl:cs.length=n*2) (hvl:vs.length=2)
  (hcs:jB w b off cs) (hsp:∀ j,j<(n+1)*2→(w.cell? ⟨b,off+j,none⟩).isSome=true) (hfz:∀ j,j<(n+1)*2→w.frozen? ⟨b,off+j,none⟩=false)
  (hvs:jB w vb voff vs) (h1c:ai0 cs) (h1v:ai0 vs)
  (tA tB:TypeId) (kA kB:Nat) (hsa:w.shape? vb=some (tA,kA)) (hsb:w.shape? b=some (tB,kB)) (hkB:kB≠0) (hfa:w.frozen? ⟨vb,voff,none⟩=false) (hfe:w.frozen? ⟨vb,kA,none⟩=false) :
  Calls Tryz.prog 134 #[.slice (some ⟨b,off,none⟩) n c,.int .i64 i,.slice (some ⟨vb,voff,none⟩) 1 vc] w fun e w'=>
   e=.returned (.slice (some ⟨b,off,none⟩) (n+1) c)∧w'=(w.drew.setCells b (off+(i+1)*2) (cs.drop (i*2))).setCells b (off+i*2) vs:=by
 obtain ⟨mixed,t0,a0,z0,v0,t3,a3,z3,v3,t4,a4,z4,v4,t70,a70,z70,v70,v97⟩:=anz
 have u70:=run_underlying t70
 have u3:=run_underlying t3
 have u4:=run_underlying t4
 have hsz:(Tryz.prog.info? 97).map (·.size)=some 2:=by kernel_rfl
 have hov:∀ lb cb,(callFunc 182 #[.slice (some ⟨vb,voff,none⟩) 1 vc,.slice (some ⟨b,off+(i+1)*2,none⟩) lb cb]).run Tryz.prog w=.ok (.value (.bool false)) w:=fun lb cb=>by
  rw [run_callFunc_extern Tryz.func182 (by kernel_rfl) (by kernel_rfl) (by kernel_rfl) (e:=Extern.SlicesOverlaps.overlaps #[70,70] #[4]) (by kernel_rfl),
   Lib.run_overlaps_apart w 70 4 97 t70 2 Tryz.sizeOf97 ⟨vb,voff,none⟩ ⟨b,off+(i+1)*2,none⟩ 1 vc lb cb hvb tA tB kA kB hsa hsb hkB hfa hfe]
  rfl
 have hdl:(cs.drop (i*2)).length=(n-i)*2:=by rw [lY1,hcl]; omega
 have hw1:IntKind.i64.wrap ((i:Int)+1)=(i:Int)+1:=by rw [IntKind.wrap_i64]; omega
 have hb1:(0:Int)≤(i:Int)+1:=by omega
 have hin:i≤n:=by omega
 have htn:((i:Int)+1).toNat=i+1:=by omega
 have hb2:¬ (c=i+1):=by omega
 have hb3:(i:Int)≤(n:Int)+1:=by omega
 have hb4:¬ (c=i):=by omega
 have hz2:¬ ((i:Int)=(n:Int)):=by omega
 have mn1:(n+1-i).min (n-i)=n-i:=by show min _ _=_; omega
 have mn2:(1:Nat).min (n+1-i)=1:=by show min _ _=_; omega
 have hcp1:∀ ty dc sc,(Builtin.copy_ #[70,70] ty #[.slice (some ⟨b,off+(i+1)*2,none⟩) (n-i) dc,.slice (some ⟨b,off+i*2,none⟩) (n+1-i) sc]).run Tryz.prog w.drew=.ok (goInt (n-i:Nat)) (w.drew.setCells b (off+(i+1)*2) (cs.drop (i*2))):=fun ty dc sc=>by
  have:=gR (P:=Tryz.prog) 2 w.drew 70 70 ty 97 b (off+(i+1)*2) (n-i) dc ⟨b,off+i*2,none⟩ (n+1-i) sc (cs.drop (i*2)) t70 hsz (by rw [hdl,mn1])
   (fun j v hj=>by rw [Addr.add_lit,lC3]; exact hcs (i*2+j) v (by rwa [lH1] at hj))
   (fun j hj=>by rw [lC3]; exact hsp _ (by omega)) (fun j hj=>by rw [lC3]; exact hfz _ (by omega)) (fun v hv=>h1c v (lT2 hv))
  rw [this,mn1]
 obtain ⟨W1,hW1⟩:∃ W1,W1=w.drew.setCells b (off+(i+1)*2) (cs.drop (i*2)):=⟨_,rfl⟩
 have hsp1:∀ k,k<(n+1)*2→(W1.cell? ⟨b,off+k,none⟩).isSome=true:=fun k hk=>by
  rw [hW1]
  exact World.isSome_setCells _ _ _ _ _ (hsp k hk)
 have hcp2:∀ (W:World),(∀ x,W.cell? x=W1.cell? x)→(∀ x,W.frozen? x=W1.frozen? x)→∀ ty dc,(Builtin.copy_ #[70,70] ty #[.slice (some ⟨b,off+i*2,none⟩) (n+1-i) dc,.slice (some ⟨vb,voff,none⟩) 1 vc]).run Tryz.prog W=.ok (goInt (1:Nat)) (W.setCells b (off+i*2) vs):=fun W hWc hWf ty dc=>by
  have:=gR (P:=Tryz.prog) 2 W 70 70 ty 97 b (off+i*2) (n+1-i) dc ⟨vb,voff,none⟩ 1 vc vs t70 hsz (by rw [hvl,mn2])
   (fun j v hj=>by
    rw [Addr.add_lit,hWc,hW1,World.cell?_setCells_out b _ _ _ _ (fun h _=>absurd h hvb)]
    exact hvs j v hj)
   (fun j hj=>by rw [hWc,lC3]; exact hsp1 _ (by omega)) (fun j hj=>by rw [hWf,hW1,World.frozen?_setCells,lC3]; exact hfz _ (by omega)) h1v
  rw [this,mn2]
 rw [← hW1] at hcp1
 go_enter Tryz.func134,Tryz.ntmps134
 go_wp2_with (simp only [hov])
 go_region_law_o (refine step_copy_runI rfl _ _ 70 70 rfl _ _ (by simp [Act.eval,Act.put]) (by simp [Act.eval,Act.put]) (hcp1 _ _ _) ?_)
 go_wp2_with (at_builtin; refine wpList_copy_runI _ rfl _ _ 70 70 rfl _ _ rfl rfl (hcp2 _ (fun _=>rfl) (fun _=>rfl) _ _) ?_)
 go_ret
 first | exact ⟨rfl,rfl⟩ | exact ⟨rfl,by rw [hW1]⟩
theorem rH (b off n c vb voff vc:Nat) (vs:List Value) (w:World) (hroom:n+1≤c) (hc63:n+1≤9223372036854775807)
  (hvl:vs.length=2) (hsp:∀ j,j<2→(w.cell? ⟨b,off+n*2+j,none⟩).isSome=true) (hfz:∀ j,j<2→w.frozen? ⟨b,off+n*2+j,none⟩=false)
  (hvs:jB w vb voff vs) (h1v:ai0 vs) :
  Calls Tryz.prog 134 #[.slice (some ⟨b,off,none⟩) n c,.int .i64 n,.slice (some ⟨vb,voff,none⟩) 1 vc] w fun e w'=>
   e=.returned (.slice (some ⟨b,off,none⟩) (n+1) c)∧w'=w.setCells b (off+n*2) vs:=by
 obtain ⟨mixed,t0,a0,z0,v0,t3,a3,z3,v3,t4,a4,z4,v4,t70,a70,z70,v70,v97⟩:=anz
 have iE:(Tryz.prog.info? 97).map (fun i=>(i.zero,i.size,i.bytes))=some (some (.agg #[.string { data:=#[] },.int .i64 0]),2,24):=by kernel_rfl
 obtain ⟨i0,hi0,hz0,hz1,hz2⟩:=info_parts iE
 have hap:∀ ty,(Builtin.append_ #[70,70] ty #[.slice (some ⟨b,off,none⟩) n c,.slice (some ⟨vb,voff,none⟩) 1 vc]).run Tryz.prog w=.ok (.slice (some ⟨b,off,none⟩) (n+1) c) (w.setCells b (off+n*2) vs):=fun ty=>by
  have:=run_append_room_cells w 70 ty 97 i0 t70 hi0 b off n c ⟨vb,voff,none⟩ 1 vc vs (by rw [hvl,hz1]) (fun j u hu=>by rw [Addr.add_lit]; exact hvs j u hu) h1v hroom
   (fun j hj=>by rw [hz1]; exact hsp j (by omega)) (fun j hj=>by rw [hz1]; exact hfz j (by omega))
  rw [hz1] at this; exact this
 go_enter Tryz.func134,Tryz.ntmps134
 go_wp2_with (at_builtin; refine Lib.wpList_append_run _ rfl _ _ _ _ rfl _ _ rfl rfl _ _ (hap _) ?_)
 go_ret
 exact ⟨rfl,rfl⟩
theorem rI (base:Option Addr) (n c vb voff vc:Nat) (cs vs:List Value) (w:World) (hnc:n≤c) (hroom:c<n+1) (hbig:(n+1)*24≤140737488355328)
  (hcl:cs.length=n*2) (hvl:vs.length=2) (hnil:base=none→n=0)
  (hcs:∀ a,base=some a→∀ (j:Nat) (v:Value),cs[j]?=some v→w.cell? (a.add j)=some v)
  (hvs:jB w vb voff vs) (h1v:ai0 vs) :
  Calls Tryz.prog 134 #[.slice base n c,.int .i64 n,.slice (some ⟨vb,voff,none⟩) 1 vc] w fun e w'=>
   e=.returned (.slice (some ⟨w.heap.size,0,none⟩) (n+1) (grownCap w (n+1) c 97)) ∧
   w'=w.drew.alloc (.cells ((cs++vs).toArray++Builtin.zeroCells (Value.agg #[.string { data:=#[] },.int .i64 0]).cells (grownCap w (n+1) c 97-(n+1))) 97):=by
 obtain ⟨mixed,t0,a0,z0,v0,t3,a3,z3,v3,t4,a4,z4,v4,t70,a70,z70,v70,v97⟩:=anz
 have iE:(Tryz.prog.info? 97).map (fun i=>(i.zero,i.size,i.bytes))=some (some (.agg #[.string { data:=#[] },.int .i64 0]),2,24):=by kernel_rfl
 obtain ⟨i0,hi0,hz0,hz1,hz2⟩:=info_parts iE
 have hsrc:Src Tryz.prog i0.size 70 (.slice (some ⟨vb,voff,none⟩) 1 vc) 1 vs w:=by
  rw [hz1]
  exact Src.ofSlice w t70 ⟨vb,voff,none⟩ 1 vc vs (by omega) (fun j u hj=>by rw [Addr.add_lit]; exact hvs j u hj) h1v
 have hold:(Builtin.firstCells i0.size n (.slice base n c)).run Tryz.prog w.drew=.ok cs.toArray w.drew:=by
  rw [hz1]
  cases base with
  | none=>
   have h0:=hnil rfl
   subst h0
   rw [lT1.1 (by omega:cs.length=0)]
   exact run_firstCells_none w.drew 2 0 0 c
  | some a=>exact run_firstCells_some w.drew 2 n a n c cs (by omega) (fun j v hj=>hcs a rfl j v hj)
 have hrun:∀ ty,(Builtin.append_ #[70,70] ty #[.slice base n c,.slice (some ⟨vb,voff,none⟩) 1 vc]).run Tryz.prog w=_:=fun ty=>
  run_append_grow_src w 70 70 ty 97 i0 _ t70 hi0 hz0 base n c cs hold _ 1 vs hsrc hroom (by omega) (by rw [hz2]; exact growslice_fits hroom hbig)
 go_enter Tryz.func134,Tryz.ntmps134
 cases base with
 | none=>
  have h0:=hnil rfl
  subst h0
  go_wp2_with (at_builtin; refine Lib.wpList_append_run _ rfl _ _ _ _ rfl _ _ rfl rfl _ _ (hrun _) ?_)
  go_ret
  exact ⟨rfl,rfl⟩
 | some a=>
  obtain ⟨ab,ao,asp⟩:=a
  go_wp2_with (at_builtin; refine Lib.wpList_append_run _ rfl _ _ _ _ rfl _ _ rfl rfl _ _ (hrun _) ?_)
  all_goals (go_ret; exact ⟨rfl,rfl⟩)
theorem yL (b off n c i vb voff vc:Nat) (cs vs:List Value) (w:World) (hi:i<n) (hnc:n≤c) (hroom:c<n+1) (hbig:(n+1)*24≤140737488355328)
  (hcl:cs.length=n*2) (hvl:vs.length=2)
  (hcs:jB w b off cs)
  (hvs:jB w vb voff vs) (h1c:ai0 cs) (h1v:ai0 vs) :
  Calls Tryz.prog 134 #[.slice (some ⟨b,off,none⟩) n c,.int .i64 i,.slice (some ⟨vb,voff,none⟩) 1 vc] w fun e w'=>
   e=.returned (.slice (some ⟨w.heap.size,0,none⟩) (n+1) (grownCap w (n+1) c 97)) ∧
   w'=(((w.alloc (.cells ((cs.take (i*2)).toArray++Builtin.zeroCells (Value.agg #[.string { data:=#[] },.int .i64 0]).cells (n+1-i)++Builtin.zeroCells (Value.agg #[.string { data:=#[] },.int .i64 0]).cells (grownCap w (n+1) c 97-(n+1))) 97)).drew.setCells w.heap.size (i*2) vs).drew).setCells w.heap.size ((i+1)*2) (cs.drop (i*2)):=by
 obtain ⟨mixed,t0,a0,z0,v0,t3,a3,z3,v3,t4,a4,z4,v4,t70,a70,z70,v70,v97⟩:=anz
 have iE:(Tryz.prog.info? 97).map (fun i=>(i.zero,i.size,i.bytes))=some (some (.agg #[.string { data:=#[] },.int .i64 0]),2,24):=by kernel_rfl
 obtain ⟨i0,hi0,hz0,hzs,hzb⟩:=info_parts iE
 have hz2:¬ ((i:Int)=(n:Int)):=by omega
 have hz3:(c:Int)<(n:Int)+1:=by omega
 have hsz:(Tryz.prog.info? 97).map (·.size)=some 2:=by rw [hi0]; simp [hzs]
 have hbw:b<w.heap.size:=block_lt_of_cell (hcs 0 _ (lK (by omega)))
 have hvw:vb<w.heap.size:=block_lt_of_cell (hvs 0 _ (lK (by omega)))
 have hkk:(n:Int)+1-(i:Int)=((n+1-i:Nat):Int):=by omega
 have hik:i+(n+1-i)=n+1:=by omega
 have hold:(Builtin.firstCells i0.size i (.slice (some ⟨b,off,none⟩) i c)).run Tryz.prog w.drew=.ok (cs.take (i*2)).toArray w.drew:=by
  rw [hzs]
  exact run_firstCells_some w.drew 2 i ⟨b,off,none⟩ i c (cs.take (i*2)) (by rw [lN]; omega) (fun j v hj=>by
   rw [Addr.add_lit]
   rw [lZ] at hj
   split at hj
   ·exact hcs j v hj
   ·cases hj)
 have hrz:∀ ty,(Builtin.append_ #[70,3] ty #[.slice (some ⟨b,off,none⟩) i c,.int .i64 ((n:Int)+1-(i:Int))]).run Tryz.prog w =
   .ok (.slice (some ⟨w.heap.size,0,none⟩) (n+1) (grownCap w (n+1) c 97)) (w.drew.alloc (.cells ((cs.take (i*2)).toArray++Builtin.zeroCells (Value.agg #[.string { data:=#[] },.int .i64 0]).cells (n+1-i)++Builtin.zeroCells (Value.agg #[.string { data:=#[] },.int .i64 0]).cells (grownCap w (n+1) c 97-(n+1))) 97)):=fun ty=>by
  have h:=Lib.run_append_grow_zeros w 70 3 ty 97 i0 _ .i64 .i64 t70 t3 hi0 hz0 (some ⟨b,off,none⟩) i c (cs.take (i*2)) hold (n+1-i) (by omega) (by omega) (by omega) (by omega) (by rw [hzb]; omega) (by rw [hzb,hik]; exact growslice_fits hroom hbig)
  rw [hik] at h
  rw [hkk]
  exact h
 obtain ⟨G,hG⟩:∃ G,G=grownCap w (n+1) c 97:=⟨_,rfl⟩
 obtain ⟨ROW,hROW⟩:∃ ROW:Array Value,ROW=(cs.take (i*2)).toArray++Builtin.zeroCells (Value.agg #[.string { data:=#[] },.int .i64 0]).cells (n+1-i)++Builtin.zeroCells (Value.agg #[.string { data:=#[] },.int .i64 0]).cells (G-(n+1)):=⟨_,rfl⟩
 rw [← hG] at hrz ⊢
 rw [← hROW] at hrz ⊢
 have hRl:(n+1)*2≤ROW.size:=by
  rw [hROW]
  simp [Builtin.zeroCells,Value.cells]
  omega
 obtain ⟨W1,hW1⟩:∃ W1,W1=w.drew.alloc (.cells ROW 97):=⟨_,rfl⟩
 rw [← hW1] at hrz
 have hN:∀ j,j<(n+1)*2→(W1.cell? ⟨w.heap.size,j,none⟩).isSome=true:=fun j hj=>by
  rw [hW1,World.cell?_alloc_at (w:=w.drew) ROW _ w.heap.size j rfl,lF1 (by omega)]; rfl
 have hNf:∀ j,W1.frozen? ⟨w.heap.size,j,none⟩=false:=fun j=>by rw [hW1]; exact World.frozen?_alloc_at (w:=w.drew) ROW _ w.heap.size j rfl
 have hOb:∀ j v,w.cell? ⟨b,j,none⟩=some v→W1.cell? ⟨b,j,none⟩=some v:=fun j v h=>by rw [hW1,World.cell?_alloc_past (w:=w.drew) _ b j hbw]; exact h
 have hOv:∀ j v,w.cell? ⟨vb,j,none⟩=some v→W1.cell? ⟨vb,j,none⟩=some v:=fun j v h=>by rw [hW1,World.cell?_alloc_past (w:=w.drew) _ vb j hvw]; exact h
 have mn1:(n-i).min (n-i)=n-i:=by show min _ _=_; omega
 have mn2:(1:Nat).min (n+1-i)=1:=by show min _ _=_; omega
 have hcpA:∀ (W:World),(∀ x,W.cell? x=W1.cell? x)→(∀ x,W.frozen? x=W1.frozen? x)→∀ ty dc,(Builtin.copy_ #[70,70] ty #[.slice (some ⟨w.heap.size,i*2,none⟩) (n+1-i) dc,.slice (some ⟨vb,voff,none⟩) 1 vc]).run Tryz.prog W=.ok (goInt (1:Nat)) (W.setCells w.heap.size (i*2) vs):=fun W hWc hWf ty dc=>by
  have:=gR (P:=Tryz.prog) 2 W 70 70 ty 97 w.heap.size (i*2) (n+1-i) dc ⟨vb,voff,none⟩ 1 vc vs t70 hsz (by rw [hvl,mn2])
   (fun j v hj=>by rw [Addr.add_lit,hWc]; exact hOv _ v (hvs j v hj))
   (fun j hj=>by rw [hWc]; exact hN _ (by omega)) (fun j hj=>by rw [hWf]; exact hNf _) h1v
  rw [this,mn2]
 have hGn:n+1≤G:=by rw [hG]; exact grownCap_ge w _ _ _
 have hG63:G≤9223372036854775807:=by
  have:=grownCap_le_maxLen w (n+1) c 97 (by unfold maxLen; omega)
  rw [← hG] at this
  unfold maxLen at this
  omega
 have hGi:¬ (G=i):=by omega
 have hGim:¬ (G=i+1):=by omega
 have hci:¬ (c=i):=by omega
 have hbN:b≠w.heap.size:=by omega
 have hdl:(cs.drop (i*2)).length=(n-i)*2:=by rw [lY1,hcl]; omega
 have hcpB:∀ (W:World),(∀ x,W.cell? x=(W1.setCells w.heap.size (i*2) vs).cell? x)→(∀ x,W.frozen? x=(W1.setCells w.heap.size (i*2) vs).frozen? x)→∀ ty dc sc,(Builtin.copy_ #[70,70] ty #[.slice (some ⟨w.heap.size,(i+1)*2,none⟩) (n-i) dc,.slice (some ⟨b,off+i*2,none⟩) (n-i) sc]).run Tryz.prog W=.ok (goInt (n-i:Nat)) (W.setCells w.heap.size ((i+1)*2) (cs.drop (i*2))):=fun W hWc hWf ty dc sc=>by
  have:=gR (P:=Tryz.prog) 2 W 70 70 ty 97 w.heap.size ((i+1)*2) (n-i) dc ⟨b,off+i*2,none⟩ (n-i) sc (cs.drop (i*2)) t70 hsz (by rw [hdl,mn1])
   (fun j v hj=>by
    rw [Addr.add_lit,hWc,World.cell?_setCells_out _ _ _ _ _ (fun h _=>absurd h hbN),lC3]
    exact hOb _ v (hcs (i*2+j) v (by rwa [lH1] at hj)))
   (fun j hj=>by rw [hWc]; exact isSome_setCells _ _ _ _ (fun t ht=>hN _ (by omega)) _ (hN _ (by omega)))
   (fun j hj=>by rw [hWf,World.frozen?_setCells]; exact hNf _) (fun v hv=>h1c v (lT2 hv))
  rw [this,mn1]
 subst hW1
 have hE1:∀ x,((w.alloc (.cells ROW 97)).drew).cell? x=(w.drew.alloc (.cells ROW 97)).cell? x:=fun x=>rfl
 have hE2:∀ x,((w.alloc (.cells ROW 97)).drew).frozen? x=(w.drew.alloc (.cells ROW 97)).frozen? x:=fun x=>rfl
 have hF1:∀ x,(((w.alloc (.cells ROW 97)).drew.setCells w.heap.size (i*2) vs).drew).cell? x=((w.drew.alloc (.cells ROW 97)).setCells w.heap.size (i*2) vs).cell? x:=fun x=>rfl
 have hF2:∀ x,(((w.alloc (.cells ROW 97)).drew.setCells w.heap.size (i*2) vs).drew).frozen? x=((w.drew.alloc (.cells ROW 97)).setCells w.heap.size (i*2) vs).frozen? x:=fun x=>rfl
 have hw1:IntKind.i64.wrap ((i:Int)+1)=(i:Int)+1:=by rw [IntKind.wrap_i64]; omega
 have hb1:(0:Int)≤(i:Int)+1:=by omega
 have hin:i≤n:=by omega
 have htn:((i:Int)+1).toNat=i+1:=by omega
 have hb3:(i:Int)≤(n:Int):=by omega
 clear hkk hik hold hROW hG hRl
 go_enter Tryz.func134,Tryz.ntmps134
 go_wp2_with (first
  | (at_builtin; refine Lib.wpList_append_run _ rfl _ _ _ _ rfl _ _ rfl rfl _ _ (hrz _) ?_)
  | (at_builtin; refine wpList_copy_runI _ rfl _ _ 70 70 rfl _ _ rfl rfl (hcpA _ hE1 hE2 _ _) ?_)
  | (at_builtin; refine wpList_copy_runI _ rfl _ _ 70 70 rfl _ _ rfl rfl (hcpB _ (fun _=>rfl) (fun _=>rfl) _ _ _) ?_))
 go_region_law_o (refine step_copy_runI rfl _ _ 70 70 rfl (.slice (some ⟨w.heap.size,(i+1)*2,none⟩) (n-i) (G-(i+1))) (.slice (some ⟨b,off+i*2,none⟩) (n-i) (c-i)) (by simp [Act.eval,Act.put]) (by simp [Act.eval,Act.put]) (hcpB _ hF1 hF2 3 (G-(i+1)) (c-i)) ?_)
 go_wp2
 go_ret
 exact ⟨rfl,rfl⟩
theorem uZ (l:List Ent) (x:Ent) (i:Nat) (hi:i≤l.length) (hbig:(l.length+1)*24≤140737488355328) :
  aY Tryz.prog 134 [.own 2 (l.map Ent.row),.int .i64 i,.own 2 [Ent.row x]] (.own 2 ((l.take i++x::l.drop i).map Ent.row)) [.undef,.undef,.undef]:=by
 have hr6:∀ r ∈ l.map Ent.row,r.length=2:=fun r hr=>by obtain ⟨x,_,rfl⟩:=lF2.1 hr; rfl
 have hkn:(l.map Ent.row).flatten.all dO=true:=by
  rw [lY]
  intro t ht
  obtain ⟨r,hr,ht⟩:=List.mem_flatten.1 ht
  obtain ⟨x,_,rfl⟩:=lF2.1 hr
  exact lY.1 (show (Ent.row x).all dO=true from rfl) t ht
 have hl:(l.map Ent.row).length=l.length:=lO1 _
 rw [show (l.take i++x::l.drop i).map Ent.row=(l.map Ent.row).take i++Ent.row x::(l.map Ent.row).drop i by simp]
 exact aqD (s:=2) (B:=24) (el:=97) (Z:=.agg #[.string { data:=#[] },.int .i64 0]) ⟨_,Tryz.func134,by kernel_rfl,by kernel_rfl⟩ (by decide) (by decide) rfl vI rH rI yL _ _ i hr6 rfl hkn rfl (by omega) (by rw [hl]; exact hbig)
end
theorem aiQ (e:Ent) (D:Inode) (n:aA):aY Tryz.prog 133 [e.x,.xbox (ank D n)] (.bool (decide (n<e.name))) [.undef,.undef]:=by
 unfold ank
 refine U u9 [] 15 [] fun w hP hQ=>?_
 unfold n5
 refine N ?_
 have hz:=abL
 refine Nz ?_
 rw [ahg,Bool.not_not]
theorem anA (t:Tab) (D:Inode) (n:aA) (j:Int) {k:Nat} (h:t.sz<2^30) (hD:D.sz<2^30) (hn:n.length<2^30) (hu:UpI t.inodes) (hk:bS t D.ino=some k) :
  aY Tryz.prog 71 [aiI D n,t.x,.int .i64 j] (aH t (cS D n j)).o [.undef,.undef,.undef]:=by
 obtain ⟨h1,h2,h3⟩:=cT hD
 have hz:=yH D n j
 have hS:=fE t (cS D n j) (by omega) (by omega) hu hk
 have hI:=pL (fun v=>aiQ v D n) D.ents (by omega)
 have hC:=abG D.ents (by omega)
 unfold aiI
 cases e:D.ents.findIdx? (fun e=>decide (n<e.name)) with
 | none=>
  have hPP:c9 D.ents ⟨n,j⟩=D.ents.take D.ents.length++⟨n,j⟩::D.ents.drop D.ents.length:=am5 (key:=Ent.name) (e:=⟨n,j⟩) e
  have hIn:=uZ D.ents ⟨n,j⟩ D.ents.length (lJ1 _) (by omega)
  rw [← hPP] at hIn
  rw [e,show yX none=(-1:Int) from rfl] at hI
  refine U qM [(134,[.m,.b,.m],[])] 223 [] fun w hP hQ=>?_
  unfold l5
  refine N ?_
  refine K (hI) ?_
  refine K (hC) ?_
  refine K (hIn) ?_
  exact K (hS) trivial
 | some i=>
  have hPP:i<D.ents.length∧c9 D.ents ⟨n,j⟩=D.ents.take i++⟨n,j⟩::D.ents.drop i:=am4 (key:=Ent.name) (e:=⟨n,j⟩) e
  have hIn:=uZ D.ents ⟨n,j⟩ i (by omega) (by omega)
  rw [← hPP.2] at hIn
  rw [e,show yX (some i)=(i:Int) from rfl] at hI
  have g:decide (((i:Nat):Int)<0)=false:=lB (by omega)
  refine U qM [(134,[.m,.b,.m],[])] 223 [] fun w hP hQ=>?_
  unfold l5
  refine N ?_
  have hz:=g
  refine Kz (hI) ?_
  refine K (hC) ?_
  refine K (hIn) ?_
  exact K (hS) trivial


theorem apF {t:Tab} {s:aA} {c:Int} (h:dH t s=.error c):c≠0:=by
 unfold dH at h
 split at h
 ·split at h
  ·cases h
  ·cases h; decide
 ·rename_i e3; cases h; exact iJ e3
theorem anB {t:Tab} {p q:aA} {X D:Inode} (hB:aZ t=true) (hX:gD t p=.ok X) (hD:dH t q=.ok D):∃ kD kX,bS t D.ino=some kD∧bS (aH t (cS D (aM q) X.ino)) X.ino=some kX∧UpI (aH t (cS D (aM q) X.ino)).inodes ∧
  D.ents.length≤10∧0≤X.links∧X.links≤1000∧1≤D.ino:=by
 have ht:=(aS t).1 hB
 obtain ⟨f1,f2⟩:=cK hX
 have a1:=(aQ f1).2
 have hm:=nU hD
 have a2:=gN ht hm
 have k2:=(eO hD).2
 have hne:D.ino≠X.ino:=by
  intro e
  rw [e,a1] at a2
  cases a2
  omega
 obtain ⟨kD,hkD⟩:=m8 a2
 have hu:=fF hB
 have a3:aD (aH t (cS D (aM q) X.ino)) X.ino=some X:=by
  rw [bY hu,lI (show ¬ (cS D (aM q) X.ino).ino=X.ino from hne)]
  exact a1
 obtain ⟨kX,hkX⟩:=m8 a3
 have ok:=bQ ht hm
 have l2:=(ht.tab.ok X (aQ f1).1).1.links
 have hi:=akV ht hm
 exact ⟨kD,kX,hkD,hkX,fR hu _,ok.len,by omega,by omega,by omega⟩
theorem afN (t:Tab) (p q:aA) (h:t.sz<2^28) (hp:p.length<2^40) (hq:q.length<2^40):aY Tryz.prog 19 [t.x,.str p,.str q] (.tup [(bK t p q).1.o,.int .i64 (bK t p q).2]) [.undef,.undef,.undef]:=by
 have h':t.sz<2^40:=by omega
 have hC:=m7 t h'
 have hR:=abK t [p,q] h' (by simp) (by simp; omega)
 have hS:=alo q
 simp only [lU3,List.all_nil,Bool.and_true,lO,lP1,dF] at hR
 by_cases hc:aZ t=true∧dI p=true∧iV q=true
 ·obtain ⟨hB,hpb,hqb⟩:=hc
  rw [hqb] at hS
  have hqp:dI q=true:=by cases e:dI q <;> simp_all
  have hne:decide (q=[47])=false:=by cases e:decide (q=[47]) <;> simp_all
  rw [hpb,hqp,hB] at hR
  have hF:=yD t p h' hp
  cases hX:gD t p with
  | error c=>
   have hc:decide (c=0)=false:=lB (kQ hX)
   have e:bK t p q=(t,c):=by rw [bK,lF ⟨hB,hpb,hqb⟩,hX]
   rw [hX] at hF
   rw [e]
   simp only [exC] at hF
   refine U fA [] 1999 [] fun w hP hQ=>?_
   unfold dP
   refine N ?_
   refine K (hC) ?_
   have hz:=hne
   refine Kz (hR) ?_
   (first|refine cI hP (hF) rfl rfl ?_|refine cH hP (hF) rfl rfl ?_)
   have hz:=hc
   refine Nz ?_
   all_goals first|exact trivial|rfl|exact ⟨rfl,rfl⟩
  | ok X=>
   have e0:bK t p q=match tE t q 0 with
    | .ok D=>(i9 t D (aM q) X,0)
    | .error c=>(t,c):=by rw [bK,lF ⟨hB,hpb,hqb⟩,hX]; rfl
   have f1:=(cK hX).1
   rw [hX,f1] at hF
   simp only [exI,exC] at hF
   rw [e0,tE]
   have hP1:=adA t q h' hq
   cases hD:dH t q with
   | error c=>
    have hc:decide (c=0)=false:=lB (apF hD)
    rw [hD] at hP1
    simp only [exC] at hP1 ⊢
    unfold anf at hP1
    refine U fA [] 1999 [] fun w hP hQ=>?_
    unfold dP
    refine N ?_
    refine K (hC) ?_
    have hz:=hne
    refine Kz (hR) ?_
    refine K (hF) ?_
    (first|refine cI hP (hP1) rfl rfl ?_|refine cH hP (hP1) rfl rfl ?_)
    have hz:=hc
    refine Nz ?_
    all_goals first|exact trivial|rfl|exact ⟨rfl,rfl⟩
   | ok D=>
    obtain ⟨kD,kX,k1,k2,k3,k4,k5,k6,k7⟩:=anB hB hX hD
    have zX:=(cO h).2 X (aQ f1).1
    have zD:=(cO h).2 D (nU hD)
    have hE:=ahc D (aM q) (by omega)
    rw [hD] at hP1
    simp only [exC,exI,exN] at hP1 ⊢
    unfold anf at hP1
    by_cases g0:bD D (aM q)=0
    ·have g0':bD D (aK q).2.1=0:=g0
     rw [g0] at hE
     rw [lF g0']
     by_cases g1:D.ents.length<10
     ·rw [lF (.inl g1)]
      have g1':decide (((D.ents.length:Nat):Int)=10)=false:=lB (by omega)
      have z1:=yH D (aM q) X.ino
      have z2:=(fK q).2
      have z3:=kC t (cS D (aM q) X.ino)
      have z4:=alt X
      have hL:=anA t D (aM q) X.ino (by omega) (by omega) (by omega) (fF hB) k1
      have hI:=fE (aH t (cS D (aM q) X.ino)) (eI X) (by omega) (by omega) k3 k2
      unfold aiI at hL
      simp only
      rw [i9]
      refine U fA [] 1999 [] fun w hP hQ=>?_
      unfold dP
      refine N ?_
      refine K (hC) ?_
      have hz:=hne
      refine Kz (hR) ?_
      refine K (hF) ?_
      refine K (hP1) ?_
      have hz:=g1'
      refine Kz (hE) ?_
      refine K (hL) ?_
      (first|refine cI hP (hI) rfl rfl ?_|refine cH hP (hI) rfl rfl ?_)
      refine N ?_
      all_goals first|exact trivial|rfl|exact ⟨rfl,rfl⟩
     ·have g1':decide (((D.ents.length:Nat):Int)=10)=true:=lG (by omega)
      rw [lI (show ¬ (D.ents.length<10∨D.ino=0) from fun e=>e.elim g1 (by omega))]
      refine U fA [] 1999 [] fun w hP hQ=>?_
      unfold dP
      refine N ?_
      refine K (hC) ?_
      have hz:=hne
      refine Kz (hR) ?_
      refine K (hF) ?_
      refine K (hP1) ?_
      (first|refine cI hP (hE) rfl rfl ?_|refine cH hP (hE) rfl rfl ?_)
      have hz:=g1'
      refine Nz ?_
      all_goals first|exact trivial|rfl|exact ⟨rfl,rfl⟩
    ·have g0':decide (bD D (aM q)=0)=false:=lB g0
     rw [lI (show ¬ bD D (aK q).2.1=0 from g0)]
     refine U fA [] 1999 [] fun w hP hQ=>?_
     unfold dP
     refine N ?_
     refine K (hC) ?_
     have hz:=hne
     refine Kz (hR) ?_
     refine K (hF) ?_
     refine K (hP1) ?_
     (first|refine cI hP (hE) rfl rfl ?_|refine cH hP (hE) rfl rfl ?_)
     have hz:=g0'
     refine Nz ?_
     all_goals first|exact trivial|rfl|exact ⟨rfl,rfl⟩
 ·have e:bK t p q=(t,1):=by rw [bK,lI hc]
  rw [e]
  cases hpq:(dI p && (dI q && aZ t)) with
  | false=>
   have hR':(dI p && dI q && aZ t)=false:=by rw [Bool.and_assoc]; exact hpq
   rw [hR'] at hR
   refine U fA [] 1999 [] fun w hP hQ=>?_
   unfold dP
   refine N ?_
   refine K (hC) ?_
   (first|refine cI hP (hR) rfl rfl ?_|refine cH hP (hR) rfl rfl ?_)
   refine N ?_
   all_goals first|exact trivial|rfl|exact ⟨rfl,rfl⟩
  | true=>
   have hR':(dI p && dI q && aZ t)=true:=by rw [Bool.and_assoc]; exact hpq
   have hne:decide (q=[47])=true:=by
    cases e:decide (q=[47]) with
    | true=>rfl
    | false=>
     simp only [lQ] at hpq
     rw [hpq.2.1,e] at hS
     exact absurd ⟨hpq.2.2,hpq.1,hS⟩ hc
   rw [hR'] at hR
   refine U fA [] 1999 [] fun w hP hQ=>?_
   unfold dP
   refine N ?_
   refine K (hC) ?_
   (first|refine cI hP (hR) rfl rfl ?_|refine cH hP (hR) rfl rfl ?_)
   have hz:=hne
   refine Nz ?_
   all_goals first|exact trivial|rfl|exact ⟨rfl,rfl⟩

theorem anC {P:Program} {f:FuncId} {s:Nat} {es:List (List TV)} {xs outs:List AV} {ret:AV} {v:Value} (h:aY P f (.ext s es::xs) ret outs):aY P f (.extv v s es::xs) ret outs:=by
 refine ⟨h.1,h.2.1,?_⟩
 intro w vs F X r
 cases r with
 | extv _ _ X1 X2 _ _ _ vs _ h1 hr hX=>exact h.2.2 w _ F X (.ext _ _ X1 X2 _ _ _ _ _ h1 hr hX)
theorem ahs (t:Tab) (h:t.sz<2^40):aY Tryz.prog 20 [t.x,t.x] (.bool true) [.undef,.undef]:=by
 have:=aiH t t h h
 rwa [lG rfl] at this

section
variable {t:Tab}
structure Made (t:Tab) (s:aA) (k:Int) (D:Inode) (u:Tab):Prop where
 tr:TreeOk t
 tree:TreeOk u
 sub:iV s=true
 new:tE t s 0=.ok D
 next:u.next=t.next+1
 walk':∀ l,aT (aD u) l 1=if l=(aB s).1 then some t.next else aT (aD t) l 1
 ino':∀ i,aD u i=if i=t.next then some (yW t.next k) else if i=D.ino then some (cS D (aM s) t.next) else aD t i
 none':aD t t.next=none
 usage':iC u=iC t+32
variable {s:aA} {k:Int} {D:Inode} {u:Tab}
theorem Made.path (m:Made t s k D u):(aB s).2=true∧(aB s).1≠[]:=pC m.sub
theorem Made.stat (m:Made t s k D u):cG u s=.ok (yW t.next k):=by
 have hw:aT (aD u) (aB s).1 1=some t.next:=by rw [m.walk',lF rfl]
 rw [yA m.path.1 hw,m.ino',lF rfl]
end
section
variable {t:Tab}
theorem apG {s:aA} {f:Int} {c:Int} (h:tE t s f=.error c):c≠0:=by
 unfold tE at h
 split at h
 ·split at h
  ·split at h
   ·cases h
   ·cases h; decide
  ·cases h; decide
 ·rename_i e2
  cases h
  unfold dH at e2
  split at e2
  ·split at e2
   ·cases e2
   ·cases e2; decide
  ·rename_i e3; cases e2; exact iJ e3
theorem alD {p q:aA} (h:(bK t p q).2=0):aZ t=true∧dI p=true∧iV q=true∧∃ X D,gD t p=.ok X∧tE t q 0=.ok D∧(bK t p q).1=i9 t D (aM q) X:=by
 by_cases hc:aZ t=true∧dI p=true∧iV q=true
 case neg=>rw [bK,lI hc] at h; exact absurd h (by simp)
 refine ⟨hc.1,hc.2.1,hc.2.2,?_⟩
 cases hX:gD t p with
 | error c=>rw [bK,lF hc,hX] at h; exact absurd h (kQ hX)
 | ok X=>
  cases hD:tE t q 0 with
  | error c=>rw [bK,lF hc,hX,hD] at h; exact absurd h (apG hD)
  | ok D=>exact ⟨X,D,rfl,rfl,by rw [bK,lF hc,hX,hD]⟩
theorem apH (b d:aA):(vC b 0 d).take d.length=d:=by simp [vC]
theorem alE (ht:TreeOk t) {D X D' X':Inode} (hD:aD t D.ino=some D) (hX:aD t X.ino=some X) (hne:D.ino≠X.ino) (d1:D'.ino=D.ino) (d2:D'.data=D.data) (d3:D'.attrs=D.attrs)
  (x1:X'.ino=X.ino) (x2:X'.data=X.data) (x3:X'.attrs=X.attrs):iC (aH (aH t D') X')=iC t:=by
 have u1:=ac4 ht.tab.up D'
 have u2:=ac4 (fR ht.tab.up D') X'
 rw [bY ht.tab.up,d1,x1,lI hne,hX] at u2
 rw [d1,hD] at u1
 rw [d2,d3] at u1
 rw [x2,x3] at u2
 simp only [lC,lA1] at u1 u2
 omega
theorem aqE {p q:aA} (h:(bK t p q).2=0):(cB (bK t p q).1 q 0 [108,105,110,107]).2=0∧aiB (cB (bK t p q).1 q 0 [108,105,110,107]).1 p 0 4=.ok [108,105,110,107] ∧
  bT (bK t p q).1 q=(t,0)∧aZ t=true∧aZ (bK t p q).1=true∧aZ (cB (bK t p q).1 q 0 [108,105,110,107]).1=true∧iC (bK t p q).1=iC t:=by
 obtain ⟨hB,hp,hq,X,D,hX,hD,e⟩:=alD h
 have ht:=(aS t).1 hB
 obtain ⟨l1,l2,l3⟩:=akX ht hq hX hD
 rw [← (fU hq).1] at l2
 rw [e]
 obtain ⟨f1,f2⟩:=cK hX
 obtain ⟨x1,x2⟩:=aQ f1
 obtain ⟨d1,d2⟩:=aQ (eO (gP hD).1).1
 have dk:=(eO (gP hD).1).2
 have hne:D.ino≠X.ino:=by
  intro e1
  rw [e1,x2] at d2
  injection d2 with d2
  rw [← d2] at dk; omega
 have hus:iC (i9 t D (aM q) X)=iC t:=alE ht d2 x2 hne rfl rfl rfl rfl rfl rfl
 have hdef:i9 t D (aM q) X=aH (aH t (cS D (aM q) X.ino)) (eI X):=rfl
 have hnx:(i9 t D (aM q) X).next=t.next:=rfl
 have hfn:∀ e ∈ D.ents,e.name≠aM q:=(abx (o5 ht d1)).1 (gP hD).2.1
 generalize i9 t D (aM q) X=u at *
 have hBu:=(aS u).2 l1
 have okX:=(ht.tab.ok X x1).1
 have hl1:1≤X.links:=by
  have h1:=ht.links X x1
  have h2:0<bA t X.ino:=by
   have hr:X.ino≠1:=by
    intro e1
    obtain ⟨r,r1,r2,_⟩:=dM ht
    rw [← e1,x2] at r1
    injection r1 with r1
    rw [← r1] at r2; omega
   have:=okX.links
   have h3:X.links≠0:=fun e=>hr (okX.root.1 e)
   omega
  omega
 obtain ⟨q1,q2⟩:=pC hq
 have hwq:aT (aD u) (aB q).1 1=some X.ino:=by rw [l2,lF rfl]
 have hsq:cG u q=.ok (eI X):=by rw [yA q1 hwq,l3,lF rfl]
 have hfq:gD u q=.ok (eI X):=by
  rw [gD,hsq]; simp only; rw [lF (by exact f2)]
 have hwp:aT (aD u) (aB p).1 1=some X.ino:=by
  rw [l2]
  split
  ·rfl
  ·exact (pD f1).2
 have hw1:cB u q 0 [108,105,110,107]=(aH u (oG (eI X) (vC X.data 0 [108,105,110,107])),0):=by
  rw [cB,lF ⟨hBu,q1,by decide⟩,hfq]
  simp only
  rw [lF (by decide)]
  rfl
 have hbl:(vC X.data 0 [108,105,110,107]).length≤100:=by
  rw [abB]
  have:=okX.data
  simp only [lW,List.length_nil]
  omega
 obtain ⟨w1,w2,w3⟩:=abC l1 hfq hbl
 rw [hw1]
 refine ⟨rfl,?_,?_,hB,hBu,(aS _).2 w1,hus⟩
 ·show aiB (aH u (oG (eI X) (vC X.data 0 [108,105,110,107]))) p 0 4=_
  have hsp:cG (aH u (oG (eI X) (vC X.data 0 [108,105,110,107]))) p=.ok (oG (eI X) (vC X.data 0 [108,105,110,107])):=by
   rw [yA hp (by rw [w2]; exact hwp),w3,lF (show X.ino=(eI X).ino from rfl)]
  rw [aiB,lI (by omega),hsp]
  simp only
  rw [lF (by exact f2)]
  have:=apH X.data [108,105,110,107]
  show Except.ok (((vC X.data 0 [108,105,110,107]).drop 0).take 4)=_
  rw [List.drop_zero]
  exact congrArg _ this
 ·obtain ⟨D',p1,p2,p3,hu,hw,hi⟩:=x5 l1 hq hsq (ak0 l1 hfq)
  have hsp:dH u q=.ok (cS D (aM q) X.ino):=by
   have hw':aT (aD u) (aB (aK q).1).1 1=some D.ino:=by
    rw [l2,lI ?_]
    ·exact (pD (eO (gP hD).1).1).2
    ·rw [(fU hq).1]
     intro e1
     have:=congrArg List.length e1
     simp at this
   rw [dH,yA (fU hq).2.1 hw',l3,lI hne,lF rfl]
   simp only
   rw [lF (by exact dk)]
  rw [hsp] at p1
  injection p1 with p1
  subst p1
  rw [bT,lF ⟨hBu,hq⟩,hfq,hsp]
  show (bM u (cS D (aM q) X.ino) (aM q) (eI X),(0:Int))=_
  have e2:bM u (cS D (aM q) X.ino) (aM q) (eI X)=t:=by
   refine akL hu.tab.up ht.tab.up ?_ fun i=>?_
   ·rw [bM]
    split
    ·exact hnx
    ·exact hnx
   ·rw [hi,l3]
    have m1:(eI X).ino=X.ino:=rfl
    have m2:(eI X).links≠1:=by show X.links+1≠1; omega
    have m3:oF (eI X)=X:=by
     cases X; simp [oF,eI]
    have m4:cL (cS D (aM q) X.ino) (aM q)=D:=by
     have:cV (c9 D.ents ⟨aM q,X.ino⟩) (aM q)=D.ents:=apd (key:=Ent.name) (e:=⟨aM q,X.ino⟩) hfn
     show ({ D with ents:=cV (c9 D.ents ⟨aM q,X.ino⟩) (aM q) }:Inode)=D
     rw [this]
    have m5:(cS D (aM q) X.ino).ino=D.ino:=rfl
    rw [m1,m5,lI m2,m3,m4]
    by_cases c1:i=X.ino
    ·rw [lF c1,c1,x2]
    ·rw [lI c1,lI c1]
     by_cases c2:i=D.ino
     ·rw [lF c2,c2,d2]
     ·rw [lI c2,lI c2]
  rw [e2]
end
section
variable {t:Tab}
structure Mv (t:Tab) (p q:aA) (X D1 D2:Inode) (u:Tab):Prop where
 tr:TreeOk t
 tree:TreeOk u
 sp:iV p=true
 sq:iV q=true
 stat:cG t p=.ok X
 spot1:dH t p=.ok D1
 ent:(⟨aM p,X.ino⟩:Ent) ∈ D1.ents
 spot2:dH t q=.ok D2
 free:bD D2 (aM q)=0
 bel:¬ (aB p).1 <+: (aB q).1
 w1:∀ b,aT (aD u) ((aB q).1++b) 1=aT (aD t) ((aB p).1++b) 1
 w2:∀ l,¬ (aB q).1 <+: l→aT (aD u) l 1=if (aB p).1.isPrefixOf l then none else aT (aD t) l 1
 w3:∀ b,aT (aD t) ((aB q).1++b) 1=none
 ino':∀ i,aD u i=if i=D2.ino then some (cS (gE D1 D2 (aM p)) (aM q) X.ino) else if i=D1.ino then some (cL D1 (aM p)) else aD t i
 next:u.next=t.next
variable {p q:aA} {X D1 D2:Inode} {u:Tab}
theorem Mv.kinds (m:Mv t p q X D1 D2 u):D1.kind=2∧D2.kind=2∧(gE D1 D2 (aM p)).kind=2:=by
 have k1:=(eO m.spot1).2
 have k2:=(eO m.spot2).2
 refine ⟨k1,k2,?_⟩
 unfold gE; split
 ·exact k1
 ·exact k2
end

theorem aiR (b:aA) (n:Nat):List.take (List.replicate n [TV.int IntKind.u8 0]).length (aI b)++List.drop b.length (List.replicate n [TV.int IntKind.u8 0])=aI ((qF b n).take n):=by
 rw [lP2,List.drop_replicate,qF,List.take_append,aI,aI,lM2,lG4,lR1 (l:=List.replicate (n-b.length) 0) (by simp)]
 simp
theorem anD (b:aA) (n:Nat) (hb:b.length<2^40) (hn:n<2^40):aY Tryz.prog 95 [.ext 1 (aI b),.int .i64 n] (.own 1 (aI ((qF b n).take n))) [.undef,.undef]:=by
 have g:¬ ((n:Int)<0):=by omega
 refine qI hmx akv [] 51 [] ⟨lD rfl,lD rfl⟩ rfl rfl ?_
 intro w hP hQ
 unfold acE
 simp +decide (maxSteps:=9^9) (disch:=omega) only[↓SB0,SX,seval,hQ]
 rw [aiR]
theorem anE (b:aA) (n:Nat) (h:b.length≤n):(qF b n).take n=qF b n:=lR1 (by rw [vU]; omega)
theorem apI (b d:aA) (o:Nat):vC b o d=(qF b (max b.length (o+d.length))).take o++d++(qF b (max b.length (o+d.length))).drop (o+d.length):=by
 unfold vC
 by_cases h:o+d.length≤b.length
 ·rw [Nat.max_eq_left h]
  simp only [qF,Nat.sub_self,List.replicate_zero,lR2,show o+d.length-b.length=0 by omega]
 ·rw [Nat.max_eq_right (by omega),@List.drop_eq_nil_of_le _ b _ (by omega),@List.drop_eq_nil_of_le _ (qF b (o+d.length)) _ (by rw [vU]; omega)]
theorem anF {P d:aA} {k:Nat} (h:k+d.length≤P.length) (_:P.length<2^31):List.take k (aI P)++(List.take (((P.length:Nat):Int)-((k:Nat):Int)).toNat (aI d)++List.drop (k+min (((P.length:Nat):Int)-((k:Nat):Int)).toNat d.length) (aI P))=aI (P.take k++d++P.drop (k+d.length)):=by
 have e:min (((P.length:Nat):Int)-((k:Nat):Int)).toNat d.length=d.length:=by omega
 rw [e,lR1 (l:=aI d) (by simp [aI]; omega)]
 simp [aI,lG4,List.map_drop]
theorem aiS (t:Tab) (s:aA) (n:Int) (d:aA) (h:t.sz<2^30) (hs:s.length<2^40) (hd:d.length<2^40):aY Tryz.prog 40 [t.x,.str s,.int .i64 n,.ext 1 (aI d)] (.tup [(cB t s n d).1.o,.int .i64 (cB t s n d).2]) [.undef,.undef,.undef,.undef]:=by
 have h':t.sz<2^40:=by omega
 have hC:=m7 t h'
 have hR:=abK t [s] h' (by simp) (by simpa using hs)
 have hI:=kE n 0 100
 simp only [lU3,List.all_nil,Bool.and_true,lO,lP1,dF] at hR
 by_cases hc:aZ t=true∧dI s=true∧inR n 0 100=true
 ·obtain ⟨hB,hpb,hi⟩:=hc
  rw [hpb,hB] at hR
  rw [hi] at hI
  obtain ⟨n1,n2⟩:=apw hi
  obtain ⟨k,rfl⟩:=lO4 n1
  have hF:=yD t s h' hs
  cases hX:gD t s with
  | error c=>
   have hc:decide (c=0)=false:=lB (kQ hX)
   have e:cB t s (k:Nat) d=(t,c):=by rw [cB,lF ⟨hB,hpb,hi⟩,hX]
   rw [hX] at hF
   rw [e]
   simp only [exC] at hF
   refine qI hmx jZ [] 3871 [] ⟨lD rfl,lD rfl⟩ rfl rfl ?_
   intro w hP hQ
   unfold g7
   simp +decide (maxSteps:=9^9) (disch:=omega) only[↓SB0,SX,seval,hQ]
   (first|refine cI hP (hC) rfl rfl ?_|refine cH hP (hC) rfl rfl ?_)
   simp +decide (maxSteps:=9^9) (disch:=omega) only[↓SB0,SX,seval,hQ]
   (first|refine cI hP (hR) rfl rfl ?_|refine cH hP (hR) rfl rfl ?_)
   simp +decide (maxSteps:=9^9) (disch:=omega) only[↓SB0,SX,seval,hQ]
   (first|refine cI hP (hI) rfl rfl ?_|refine cH hP (hI) rfl rfl ?_)
   simp +decide (maxSteps:=9^9) (disch:=omega) only[↓SB0,SX,seval,hQ]
   (first|refine cI hP (hF) rfl rfl ?_|refine cH hP (hF) rfl rfl ?_)
   simp +decide (maxSteps:=9^9) (disch:=omega) only[↓SB0,SX,seval,hQ,hc]
   all_goals first | rfl | exact ⟨rfl,rfl⟩
  | ok X=>
   have e0:cB t s (k:Nat) d=if ((k:Nat):Int)+(d.length:Nat)≤100 then (aH t (oG X (vC X.data k d)),0) else (t,5):=by rw [cB,lF ⟨hB,hpb,hi⟩,hX]; rfl
   obtain ⟨f1,f2⟩:=cK hX
   rw [hX,f1] at hF
   rw [e0]
   simp only [exI,exC] at hF
   by_cases g0:((k:Nat):Int)+(d.length:Nat)≤100
   ·have g0':decide ((100:Int)<(k:Nat)+(d.length:Nat))=false:=lB (by omega)
    rw [lF g0]
    obtain ⟨kX,hkX⟩:=m8 (aQ f1).2
    have zX:=(cO h).2 X (aQ f1).1
    have zd:X.data.length<2^30:=by rw [Inode.sz] at zX; omega
    have zp:=abB X.data k d
    have zD:(oG X (vC X.data k d)).sz<2^40:=by
     show (vC X.data k d).length+szM Ent.sz X.ents+szM Attr.sz X.attrs<_
     rw [Inode.sz] at zX
     omega
    have hS:=fE t (oG X (vC X.data k d)) h' zD (fF hB) hkX
    have em:(if ((X.data.length:Nat):Int)<((k:Nat):Int)+((d.length:Nat):Int) then ((k:Nat):Int)+((d.length:Nat):Int) else ((X.data.length:Nat):Int))=((max X.data.length (k+d.length):Nat):Int):=by split <;> omega
    have hZ:=anD X.data (max X.data.length (k+d.length)) (by omega) (by omega)
    rw [anE _ _ (by omega)] at hZ
    have hPl:(qF X.data (max X.data.length (k+d.length))).length=max X.data.length (k+d.length):=by rw [vU]; omega
    have hge:k+d.length≤(qF X.data (max X.data.length (k+d.length))).length:=by omega
    have hlt:(qF X.data (max X.data.length (k+d.length))).length<2^31:=by omega
    have hPP:vC X.data k d=(qF X.data (max X.data.length (k+d.length))).take k++d++(qF X.data (max X.data.length (k+d.length))).drop (k+d.length):=apI X.data d k
    rw [hPP] at hS ⊢
    have e5:=fun P h1 h2=>anF (P:=P) (d:=d) (k:=k) h1 h2
    generalize qF X.data (max X.data.length (k+d.length))=P at *
    refine qI hmx jZ [] 3871 [] ⟨lD rfl,lD rfl⟩ rfl rfl ?_
    intro w hP hQ
    unfold g7
    simp +decide (maxSteps:=9^9) (disch:=omega) only[↓SB0,SX,seval,hQ]
    (first|refine cI hP (hC) rfl rfl ?_|refine cH hP (hC) rfl rfl ?_)
    simp +decide (maxSteps:=9^9) (disch:=omega) only[↓SB0,SX,seval,hQ]
    (first|refine cI hP (hR) rfl rfl ?_|refine cH hP (hR) rfl rfl ?_)
    simp +decide (maxSteps:=9^9) (disch:=omega) only[↓SB0,SX,seval,hQ]
    (first|refine cI hP (hI) rfl rfl ?_|refine cH hP (hI) rfl rfl ?_)
    simp +decide (maxSteps:=9^9) (disch:=omega) only[↓SB0,SX,seval,hQ]
    (first|refine cI hP (hF) rfl rfl ?_|refine cH hP (hF) rfl rfl ?_)
    simp +decide (maxSteps:=9^9) (disch:=omega) only[↓SB0,SX,seval,hQ,g0',em]
    have e5:=e5 P hge hlt
    (first|refine cI hP (hZ) rfl rfl ?_|refine cH hP (hZ) rfl rfl ?_)
    simp +decide (maxSteps:=9^9) (disch:=omega) only[↓SB0,SX,seval,hQ,e5]
    (first|refine cI hP (hS) rfl rfl ?_|refine cH hP (hS) rfl rfl ?_)
    simp +decide (maxSteps:=9^9) (disch:=omega) only[↓SB0,SX,seval,hQ]
    all_goals first | rfl | exact ⟨rfl,rfl⟩
   ·have g0':decide ((100:Int)<(k:Nat)+(d.length:Nat))=true:=lG (by omega)
    rw [lI g0]
    refine qI hmx jZ [] 3871 [] ⟨lD rfl,lD rfl⟩ rfl rfl ?_
    intro w hP hQ
    unfold g7
    simp +decide (maxSteps:=9^9) (disch:=omega) only[↓SB0,SX,seval,hQ]
    (first|refine cI hP (hC) rfl rfl ?_|refine cH hP (hC) rfl rfl ?_)
    simp +decide (maxSteps:=9^9) (disch:=omega) only[↓SB0,SX,seval,hQ]
    (first|refine cI hP (hR) rfl rfl ?_|refine cH hP (hR) rfl rfl ?_)
    simp +decide (maxSteps:=9^9) (disch:=omega) only[↓SB0,SX,seval,hQ]
    (first|refine cI hP (hI) rfl rfl ?_|refine cH hP (hI) rfl rfl ?_)
    simp +decide (maxSteps:=9^9) (disch:=omega) only[↓SB0,SX,seval,hQ]
    (first|refine cI hP (hF) rfl rfl ?_|refine cH hP (hF) rfl rfl ?_)
    simp +decide (maxSteps:=9^9) (disch:=omega) only[↓SB0,SX,seval,hQ,g0']
    all_goals first | rfl | exact ⟨rfl,rfl⟩
 ·have e:cB t s n d=(t,1):=by rw [cB,lI hc]
  rw [e]
  cases hp:(dI s && aZ t) with
  | false=>
   rw [hp] at hR
   refine qI hmx jZ [] 3871 [] ⟨lD rfl,lD rfl⟩ rfl rfl ?_
   intro w hP hQ
   unfold g7
   simp +decide (maxSteps:=9^9) (disch:=omega) only[↓SB0,SX,seval,hQ]
   (first|refine cI hP (hC) rfl rfl ?_|refine cH hP (hC) rfl rfl ?_)
   simp +decide (maxSteps:=9^9) (disch:=omega) only[↓SB0,SX,seval,hQ]
   (first|refine cI hP (hR) rfl rfl ?_|refine cH hP (hR) rfl rfl ?_)
   simp +decide (maxSteps:=9^9) (disch:=omega) only[↓SB0,SX,seval,hQ]
   all_goals first | rfl | exact ⟨rfl,rfl⟩
  | true=>
   rw [hp] at hR
   simp only [lQ] at hp
   have hi:inR n 0 100=false:=by
    cases e:inR n 0 100 with
    | false=>rfl
    | true=>exact absurd ⟨hp.2,hp.1,e⟩ hc
   rw [hi] at hI
   refine qI hmx jZ [] 3871 [] ⟨lD rfl,lD rfl⟩ rfl rfl ?_
   intro w hP hQ
   unfold g7
   simp +decide (maxSteps:=9^9) (disch:=omega) only[↓SB0,SX,seval,hQ]
   (first|refine cI hP (hC) rfl rfl ?_|refine cH hP (hC) rfl rfl ?_)
   simp +decide (maxSteps:=9^9) (disch:=omega) only[↓SB0,SX,seval,hQ]
   (first|refine cI hP (hR) rfl rfl ?_|refine cH hP (hR) rfl rfl ?_)
   simp +decide (maxSteps:=9^9) (disch:=omega) only[↓SB0,SX,seval,hQ]
   (first|refine cI hP (hI) rfl rfl ?_|refine cH hP (hI) rfl rfl ?_)
   simp +decide (maxSteps:=9^9) (disch:=omega) only[↓SB0,SX,seval,hQ]
   all_goals first | rfl | exact ⟨rfl,rfl⟩
theorem aiT (b:aA) (hf:b.length<2^48):aY Tryz.prog 8 [.ext 1 (aI b)] (.bool true) [.undef]:=by
 refine rW fun a len cap ha=>?_
 generalize hv:Value.slice a len cap=v
 have hB:=anC (v:=v) (aqY b hf)
 cases hz:decide ((1048576:Int)<(b.length:Nat)) with
 | true=>
  rw [hz] at hB
  refine qI hmx oX [] 65277 [] ⟨lD rfl,lD rfl⟩ rfl rfl ?_
  intro w hP hQ
  unfold kK
  simp +decide (maxSteps:=9^9) (disch:=omega) only[↓SB0,SX,seval,hQ]
  (first|refine cI hP (hB) rfl rfl ?_|refine cH hP (hB) rfl rfl ?_)
  simp +decide (maxSteps:=9^9) (disch:=omega) only[↓SB0,SX,seval,hQ]
 | false=>
  rw [hz] at hB
  obtain ⟨t,p,q,ht,hp,hq,k1⟩:=y6 v b hf
  have kA:=afN t p q (by omega) (by omega) (by omega)
  have kB:=rF t p q (by omega) (by omega) (by omega)
  by_cases h0:(bK t p q).2=0
  ·obtain ⟨r1,r2,r3,r4,r5,r6,r7⟩:=aqE h0
   have z1:=fJ r4
   have z2:=fJ r5
   have z3:=fJ r6
   have kW:=aiS (bK t p q).1 q 0 [108,105,110,107] (by omega) (by omega) (by simp)
   rw [r1] at kW
   have kR:=afH (cB (bK t p q).1 q 0 [108,105,110,107]).1 p 0 4 (by omega) (by omega)
   rw [r2] at kR
   have kU:=alp (bK t p q).1 q (by omega) (by omega)
   rw [r3] at kU
   have kS:=ahs t (by omega)
   have kT:=adu (bK t p q).1 (by omega)
   rw [r5] at kT
   have kV:=aaI (bK t p q).1 (by omega)
   rw [r7] at kV
   have kX:=aaI t (by omega)
   rw [h0] at kA kB
   generalize (cB (bK t p q).1 q 0 [108,105,110,107]).1=y at *
   generalize (bK t p q).1=x at *
   generalize iC t=ut at *
   have d1:decide ((ut:Int)=(ut:Int))=true:=lG rfl
   have hbs:cX [[TV.int .u8 108],[TV.int .u8 105],[TV.int .u8 110],[TV.int .u8 107]]=some [108,105,110,107]:=nK [108,105,110,107]
   simp only [exB,exC,aI,lO,lP1] at kR kW
   refine qI hmx oX [] 65277 [] ⟨lD rfl,lD rfl⟩ rfl rfl ?_
   intro w hP hQ
   unfold kK
   simp +decide (maxSteps:=9^9) (disch:=omega) only[↓SB0,SX,seval,hQ]
   (first|refine cI hP (hB) rfl rfl ?_|refine cH hP (hB) rfl rfl ?_)
   simp +decide (maxSteps:=9^9) (disch:=omega) only[↓SB0,SX,seval,hQ]
   (first|refine cI hP (k1) rfl rfl ?_|refine cH hP (k1) rfl rfl ?_)
   simp +decide (maxSteps:=9^9) (disch:=omega) only[↓SB0,SX,seval,hQ]
   (first|refine cI hP (kA) rfl rfl ?_|refine cH hP (kA) rfl rfl ?_)
   simp +decide (maxSteps:=9^9) (disch:=omega) only[↓SB0,SX,seval,hQ]
   (first|refine cI hP (kB) rfl rfl ?_|refine cH hP (kB) rfl rfl ?_)
   simp +decide (maxSteps:=9^9) (disch:=omega) only[↓SB0,SX,seval,hQ]
   (first|refine cI hP (kW) rfl rfl ?_|refine cH hP (kW) rfl rfl ?_)
   simp +decide (maxSteps:=9^9) (disch:=omega) only[↓SB0,SX,seval,hQ]
   (first|refine cI hP (kR) rfl rfl ?_|refine cH hP (kR) rfl rfl ?_)
   simp +decide (maxSteps:=9^9) (disch:=omega) only[↓SB0,SX,seval,hQ,hbs]
   (first|refine cI hP (kU) rfl rfl ?_|refine cH hP (kU) rfl rfl ?_)
   simp +decide (maxSteps:=9^9) (disch:=omega) only[↓SB0,SX,seval,hQ,hbs]
   (first|refine cI hP (kS) rfl rfl ?_|refine cH hP (kS) rfl rfl ?_)
   simp +decide (maxSteps:=9^9) (disch:=omega) only[↓SB0,SX,seval,hQ,hbs,d1]
   (first|refine cI hP (kT) rfl rfl ?_|refine cH hP (kT) rfl rfl ?_)
   simp +decide (maxSteps:=9^9) (disch:=omega) only[↓SB0,SX,seval,hQ,d1]
   (first|refine cI hP (kV) rfl rfl ?_|refine cH hP (kV) rfl rfl ?_)
   simp +decide (maxSteps:=9^9) (disch:=omega) only[↓SB0,SX,seval,hQ,d1]
   (first|refine cI hP (kX) rfl rfl ?_|refine cH hP (kX) rfl rfl ?_)
   simp +decide (maxSteps:=9^9) (disch:=omega) only[↓SB0,SX,seval,hQ,d1]
  ·have hs:=ak8 h0
   rw [hs] at kA kB
   have kS:=ahs t (by omega)
   have d0:decide ((bK t p q).2=0)=false:=lB h0
   generalize (bK t p q).2=c at *
   refine qI hmx oX [] 65277 [] ⟨lD rfl,lD rfl⟩ rfl rfl ?_
   intro w hP hQ
   unfold kK
   simp +decide (maxSteps:=9^9) (disch:=omega) only[↓SB0,SX,seval,hQ]
   (first|refine cI hP (hB) rfl rfl ?_|refine cH hP (hB) rfl rfl ?_)
   simp +decide (maxSteps:=9^9) (disch:=omega) only[↓SB0,SX,seval,hQ]
   (first|refine cI hP (k1) rfl rfl ?_|refine cH hP (k1) rfl rfl ?_)
   simp +decide (maxSteps:=9^9) (disch:=omega) only[↓SB0,SX,seval,hQ]
   (first|refine cI hP (kA) rfl rfl ?_|refine cH hP (kA) rfl rfl ?_)
   simp +decide (maxSteps:=9^9) (disch:=omega) only[↓SB0,SX,seval,hQ]
   (first|refine cI hP (kB) rfl rfl ?_|refine cH hP (kB) rfl rfl ?_)
   simp +decide (maxSteps:=9^9) (disch:=omega) only[↓SB0,SX,seval,hQ,d0]
   (first|refine cI hP (kS) rfl rfl ?_|refine cH hP (kS) rfl rfl ?_)
   simp +decide (maxSteps:=9^9) (disch:=omega) only[↓SB0,SX,seval,hQ]
theorem Shp.nil_inv {ts:List TV} (h:Shp [] ts):ts=[]:=by cases h; rfl
theorem Shp.sl_inv {s:Nat} {e ys:List Ty} {ts:List TV} (h:Shp (.sl s e::ys) ts):∃ es us,ts=.sl s es::us∧es.length≤2^47∧(∀ r ∈ es,Shp e r)∧Shp ys us:=by
 cases h with | sl _ _ es _ us hl he h=>exact ⟨es,us,rfl,hl,he,h⟩
theorem aiU {α:Type} {sh:List Ty} {row:α→List TV} {good:α→Prop} (H:∀ ts,Shp sh ts→∃ x,ts=row x∧good x):∀ {es:List (List TV)},(∀ r ∈ es,Shp sh r)→∃ l:List α,es=l.map row∧∀ x ∈ l,good x:=by
 intro es
 induction es with
 | nil=>intro _; exact ⟨[],rfl,by simp⟩
 | cons r es ih=>
  intro h
  obtain ⟨x,rfl,hx⟩:=H r (h r (by simp))
  obtain ⟨l,rfl,hl⟩:=ih fun r hr=>h r (by simp [hr])
  exact ⟨x::l,rfl,fun y hy=>by rcases lH.1 hy with rfl | hy; exact hx; exact hl y hy⟩
theorem aiV (ts:List TV) (h:Shp [.int .u8] ts):∃ x:UInt8,ts=akE x∧True:=by
 cases h with
 | int _ n _ us hn h=>
  cases h
  obtain ⟨h1,h2⟩:=bounds_u8 hn
  refine ⟨UInt8.ofNat n.toNat,?_,trivial⟩
  have:(UInt8.ofNat n.toNat).toNat=n.toNat:=by simp; omega
  simp only [akE,this]
  congr 2
  omega
theorem afO {es:List (List TV)} (h:∀ r ∈ es,Shp [.int .u8] r):∃ b:aA,es=aI b:=by
 obtain ⟨l,rfl,_⟩:=aiU aiV h
 exact ⟨l,rfl⟩
theorem apJ {b:aA} (h:(aI b).length≤2^47):b.length<2^48:=lF4 (by simpa [aI] using h) (by decide)
section
open Go.Proofs Go.Proofs.YtnfngemnghiehaaGreatDoor
theorem own:ownKnob Tryz.prog.godebug=none:=by kernel_rfl
def an8:List Char:=['a','t',Char.ofNat 32,'l','o','o','p',Char.ofNat 46,'e','x','a','m','p','l','e',Char.ofNat 47,'g','0','0','2','8','5',Char.ofNat 47,'l','a','w','s',Char.ofNat 46,'F','n','R','o','o','t','S','t','a','y','s',Char.ofNat 32,'l','o','o','p',Char.ofNat 46,'e','x','a','m','p','l','e',Char.ofNat 47,'g','0','0','2','8','5',Char.ofNat 47]++['l','a','w','s',Char.ofNat 46,'F','n','U','n','l','i','n','k','e','d',Char.ofNat 32,'l','o','o','p',Char.ofNat 46,'e','x','a','m','p','l','e',Char.ofNat 47,'g','0','0','2','8','5',Char.ofNat 47,'l','a','w','s',Char.ofNat 46,'F','n','R','e','m','o','v','e','d',Char.ofNat 32,'l','o','o','p',Char.ofNat 46,'e','x','a','m']++['p','l','e',Char.ofNat 47,'g','0','0','2','8','5',Char.ofNat 47,'l','a','w','s',Char.ofNat 46,'F','n','M','a','d','e',Char.ofNat 32,'l','o','o','p',Char.ofNat 46,'e','x','a','m','p','l','e',Char.ofNat 47,'g','0','0','2','8','5',Char.ofNat 47,'l','a','w','s',Char.ofNat 46,'F','n','D','i','r','s',Char.ofNat 32,'l','o','o','p',Char.ofNat 46]++['e','x','a','m','p','l','e',Char.ofNat 47,'g','0','0','2','8','5',Char.ofNat 47,'l','a','w','s',Char.ofNat 46,'F','n','L','i','n','k','e','d',Char.ofNat 32,'l','o','o','p',Char.ofNat 46,'e','x','a','m','p','l','e',Char.ofNat 47,'g','0','0','2','8','5',Char.ofNat 47,'l','a','w','s',Char.ofNat 46,'F','n','M','o','v','e']++['d',Char.ofNat 32,'l','o','o','p',Char.ofNat 46,'e','x','a','m','p','l','e',Char.ofNat 47,'g','0','0','2','8','5',Char.ofNat 47,'l','a','w','s',Char.ofNat 46,'F','n','T','r','e','e','s','B','e','n','t',Char.ofNat 32,'l','o','o','p',Char.ofNat 46,'e','x','a','m','p','l','e',Char.ofNat 47,'g','0','0','2','8','5',Char.ofNat 47,'l']++['a','w','s',Char.ofNat 46,'F','n','E','x','a','c','t','R','e','n','a','m','e']
def aqZ:List Char:=['a','4','7','1','4','6','3','1','9','8','d','f','c','c','e','f','d','4','5','4','9','d','2','c','a','3','d','e','a','3','3','c','e','4','0','2','4','f','0','c','a','8','3','1','b','6','3','c','a','5','0','6','e','7','3','6','f','4','7','1','d','e','2','5']
theorem an9:Tryz.prog.initOrder=String.ofList (['h','a','r','n','e','s','s']++(Char.ofNat 32::aqZ)++[Char.ofNat 32,'c','u','t',Char.ofNat 32]++an8):=by kernel_rfl
theorem afP:∃ r,behindMainWord (wordsSigns Tryz.prog.initOrder.toList)=['c','u','t']::r:=by
 rw [an9,String.toList_ofList]
 exact ⟨wordsSigns an8,by kernel_rfl⟩
theorem apK {P:Program} {l:List Char} (h:P.initOrder=String.ofList l):P.mainIs=(match wordsSigns l with
 | h::s::_=>if !isSumSigns s then none else if h == "harness".toList then some (true,s) else if h == "ownmain".toList then some (false,s) else none
 | _=>none):=by
 unfold Program.mainIs
 rw [h,String.toList_ofList]
 rfl
theorem aqF:Tryz.prog.mainIs=some (((true, "a471463198dfccefd4549d2ca3dea33ce4024f0ca831b63ca506e736f471de25"):Bool × String).1,((true, "a471463198dfccefd4549d2ca3dea33ce4024f0ca831b63ca506e736f471de25"):Bool × String).2.toList):=(apK an9).trans (by kernel_rfl)
theorem apL:false=Tryz.prog.looks []:=by kernel_rfl
theorem aqG:(laidOutB Tryz.prog)=true:=by kernel_rfl
theorem aqH:(mapsRowed Tryz.prog)=true:=by kernel_rfl
theorem apM:((Tryz.prog.stops == []))=true:=by kernel_rfl
theorem apN:((Tryz.prog.stopKnobs == []))=true:=by kernel_rfl
theorem apO:(Tryz.prog.stopsHeard)=true:=by kernel_rfl
theorem apP:(Tryz.prog.mayEnter)=true:=by
 obtain ⟨r,hr⟩:=afP
 exact amJ hr (by kernel_rfl) (by kernel_rfl) (by kernel_rfl)
theorem apQ:(false == Tryz.prog.liftsFinal)=true:=by
 obtain ⟨r,hr⟩:=afP
 rw [amK hr]
 rfl
theorem aqI:(Tryz.prog.make == some .cut)=true:=by
 obtain ⟨r,hr⟩:=afP
 rw [aoZ hr]
 rfl
end
section
open Go.Proofs Go.Proofs.YtnfngemnghiehaaGreatDoor
theorem afQ:(Rows.fnLinkedRow.wf (OpenSpec.ofChange Rows.fnLinkedSpec))=true:=by kernel_rfl
theorem afR:(Tryz.f8.params.all (Tryz.prog.readableRec ·))=true:=by kernel_rfl
theorem afS:(namedTie Tryz.prog Rows.fnLinkedRow.named Rows.fnLinkedSpec.vars)=true:=by kernel_rfl
theorem afT:((Rows.fnLinkedRow.stops == []))=true:=by kernel_rfl
theorem afU:((Rows.fnLinkedRow.knobs == []))=true:=by kernel_rfl
theorem afV:((Rows.fnLinkedRow.inPlace == Tryz.prog.inPlace 8))=true:=by kernel_rfl
theorem adM:((Rows.fnLinkedRow.unfollowed == Tryz.prog.unfollowed 8))=true:=by kernel_rfl
theorem adN:((Rows.fnLinkedRow.recurses == Tryz.prog.recurses 8))=true:=by kernel_rfl
theorem adO:((Rows.fnLinkedRow.named == Tryz.prog.varsNamed 8))=true:=by kernel_rfl
theorem adP:((Rows.fnLinkedRow.maps == (Tryz.f8.params.toList++Rows.fnLinkedSpec.plain.varTypes Tryz.prog).any (Tryz.prog.mapsRec ·)))=true:=by kernel_rfl
theorem adQ:((Rows.fnLinkedRow.ifaces == (Tryz.f8.params.toList++Rows.fnLinkedSpec.plain.varTypes Tryz.prog).any (Tryz.prog.ifacesRec ·)))=true:=by kernel_rfl
theorem adR:((Rows.fnLinkedRow.mapsOut == Tryz.prog.mapsAmong Tryz.f8.resultTypes.toList))=true:=by kernel_rfl
theorem adS:((Rows.fnLinkedRow.loops == (Tryz.f8.params.toList++Rows.fnLinkedSpec.plain.varTypes Tryz.prog).any (Tryz.prog.loopsFrom ·)))=true:=by kernel_rfl
theorem adT:((Rows.fnLinkedRow.wideKeys == (Tryz.f8.params.toList++Rows.fnLinkedSpec.plain.varTypes Tryz.prog++Tryz.f8.resultTypes.toList).any (Tryz.prog.wideKeysFrom ·)))=true:=by kernel_rfl
theorem adU:(Rows.fnLinkedSpec.vars.all (Tryz.prog.varReadable ·))=true:=by kernel_rfl
theorem adV:(Tryz.f8.resultTypes.all (fun t=>Tryz.prog.readableRec t && decide (t<Tryz.prog.types.size)))=true:=by kernel_rfl
theorem adW:((Rows.fnLinkedRow.ifacesOut == Tryz.f8.resultTypes.toList.any (Tryz.prog.ifacesRec ·)))=true:=by kernel_rfl
theorem adX:((Rows.fnLinkedRow.loopsOut == Tryz.f8.resultTypes.toList.any (Tryz.prog.loopsFrom ·)))=true:=by kernel_rfl
theorem adY:((Rows.fnLinkedRow.plainKeys == Tryz.prog.plainKeys))=true:=by kernel_rfl
theorem adZ:(Rows.fnLinkedRow.shortTexts.isNone)=true:=by kernel_rfl
theorem ad0:((Rows.fnLinkedRow.kinds == (if Rows.fnLinkedRow.domain.isEmpty then [] else Tryz.f8.params.toList.map fun t=>match Tryz.prog.underlying t with | some (.int k)=>some k | _=>none)))=true:=by kernel_rfl
theorem ad1:((Rows.fnLinkedRow.pinned == Rows.fnLinkedRow.pinnedBy))=true:=by kernel_rfl
theorem ad3:((Rows.fnLinkedRow.veiled == (Tryz.f8.params.toList++Rows.fnLinkedSpec.plain.varTypes Tryz.prog++Tryz.f8.resultTypes.toList).any (Tryz.prog.veiledRec ·)))=true:=by kernel_rfl
theorem ad4:(Rows.fnLinkedRow.veiledFits Tryz.prog Tryz.f8.params.toList (Tryz.f8.params.toList++Rows.fnLinkedSpec.plain.varTypes Tryz.prog++Tryz.f8.resultTypes.toList))=true:=by kernel_rfl
theorem afW:joinedFacts Tryz.prog 8 Tryz.f8 Rows.fnLinkedSpec Rows.fnLinkedRow=true:=
 akn afQ aqG aqH afR afS afT apM afU apN afV adM adN adO adP adQ adR adS adT adU adV adW adX adY adZ apO apP apQ aqI ad0 ad1 ad3 ad4
theorem abP (os:Os) (started:os.Started) (H:Type) (enc:TypeId × Value→H) :
  ReturnsInHanded {} Tryz.checked os 8 .any (fun w args=>(Rows.fnLinkedSpec.pre enc Tryz.prog Tryz.f8 [] false w args∧laidMetH Tryz.prog Rows.fnLinkedRow.laid w)∧sizedMet enc Tryz.prog Tryz.f8 (OpenSpec.ofChange Rows.fnLinkedSpec) false w args) (Rows.fnLinkedSpec.post enc Tryz.prog Tryz.f8 false true false false):=by
 refine law_laid (X:=fun w _=>laidMetH Tryz.prog Rows.fnLinkedRow.laid w) (fun _ _ _ hh h=>h.of_heap hh) (C:=Tryz.checked) (pars:=[(false,[.sl 1 [.int .u8]])]) own started (by kernel_rfl) Tryz.func8
  (ChangeSpec.witness_shaped (enc:=enc) (C:=Tryz.checked) (os:=os) (X:=fun w _=>laidMetH Tryz.prog Rows.fnLinkedRow.laid w) false (World.laidAll Tryz.prog os Rows.fnLinkedRow.laid) #[.slice none 0 0] 8 (World.laidAll_os _ _ _) (World.shaped_of_RefB (by kernel_rfl) (by kernel_rfl)) (by kernel_rfl) (by kernel_rfl) (by kernel_rfl) (amL _ (by kernel_rfl) (by kernel_rfl) (by kernel_rfl)))
  rfl (by kernel_rfl) rfl (by kernel_rfl) ?_ ?_
 ·intro ds hd
  match ds,hd with
  | [d0],_=>rfl
 ·intro tss h
  match tss,h with
  | [t0],⟨h0,_⟩=>
   obtain ⟨r0,u0,rfl,l0,e0,k0⟩:=Shp.sl_inv h0
   obtain rfl:=Shp.nil_inv k0
   obtain ⟨x0,rfl⟩:=afO e0
   exact ⟨_,aiT x0 (apJ l0)⟩
theorem afX:Tryz.f8.isWrapper Tryz.prog Rows.fnLinkedRow.wrapper Rows.fnLinkedRow.mainSum:=by
 unfold Func.isWrapper; first | (rw [if_pos (by decide +kernel)]; kernel_rfl) | (rw [if_neg (by decide +kernel)]; exact ⟨rfl,rfl⟩)
theorem law_FnLinked:Rows.FnLinkedSaid:=
 OpenClaim.holds_of_wide 8 Tryz.f8 rfl rfl rfl rfl rfl rfl rfl ⟨rfl,rfl,rfl,rfl,rfl⟩ rfl rfl rfl rfl rfl (by kernel_rfl) Tryz.func8 afW
  (of_decide_eq_true (by kernel_rfl)) afX
  (fun os started H enc _=>abP os started H enc)
theorem afY:Rows.fnLinkedRow.wfByText (OpenSpec.ofChange Rows.fnLinkedSpec)=true:=by kernel_rfl
theorem k2_FnLinked:Tryz.prog.funcNamed "loop.example/g00285/laws.FnLinked"=some 8:=by kernel_rfl
theorem afZ:(Tryz.f8.params.toList.all fun u=>!Tryz.prog.wantsStandIn u)=true:=by kernel_rfl
theorem af0:false=Rows.fnLinkedRow.goesBy Tryz.prog:=by kernel_rfl
theorem card_FnLinked:Rows.FnLinkedCardSaid:=
 Claim7.holds_tied_plain_at .later [] [.data,.pinned] true (true, "a471463198dfccefd4549d2ca3dea33ce4024f0ca831b63ca506e736f471de25") false
  law_FnLinked (fun _ h=>by cases h) afY (fun _ h=>by cases h) fnLinked_row_tie rfl ⟨rfl,rfl⟩ aqF rfl
  (fun f fn hf hfn=>by
   obtain rfl:f=8:=Option.some.inj (k2_FnLinked.symm.trans hf) |>.symm
   obtain rfl:fn=Tryz.f8:=(Option.some.inj (Tryz.func8.symm.trans hfn)).symm
   exact ⟨apL,fun j t ht=>by
    have:=lY.1 afZ t (by simpa using Array.mem_of_getElem? ht)
    exact show Tryz.prog.wantsStandIn t=false by simpa using this⟩)
  af0
end
end Go.Proofs.YtnfngemnghiehaaGreatDoor.Awp

namespace Go.Proofs.YtnfngemnghiehaaGreatDoor
/-- the given statement -/
theorem provedFnLinked : Rows.FnLinkedCardSaid := Awp.card_FnLinked
end Go.Proofs.YtnfngemnghiehaaGreatDoor
#print axioms Go.Proofs.YtnfngemnghiehaaGreatDoor.provedFnLinked
