/- The law FnRemoved (a directory of a drawn tree that is removed had nothing; all else is there) holds for every argument: the given statement is proved. Condition: none. -/
import Derived.Test.YtnfngemnghiehaaGreatDoorFnRemovedX2
import Derived.Test.YtnfngemnghiehaaGreatDoorAwp3
import Derived.Test.YtnfngemnghiehaaGreatDoorRows
import Derived.Test.YtnfngemnghiehaaGreatDoorCards
import Derived.Test.YtnfngemnghiehaaGreatDoorTie
import Derived.Shelf.Lays
import Derived.Sort.Walk0
import Derived.Shelf.Strings.Search3
import Derived.Shelf.Strings.Count
import Derived.Shelf.Strings.OnBuilder
import Derived.Shelf.Sort.Plain
import Derived.Shelf.Slices.In.SortNone
import Derived.Shelf.Spec.SlicesInsert
import Derived.Shelf.Spec.SlicesInsertGrow
import Derived.Deep.MidRow
import Derived.ArgAppend
import Derived.OpenShut
import Derived.SevenTiedAt
import Derived.KernelRfl
set_option linter.unusedVariables false
set_option linter.unusedSimpArgs false
set_option maxRecDepth 100000
set_option maxHeartbeats 20000000
open Nat (reduceEqDiff reduceAdd reduceMul reduceSub)
open Int (reduceNeg reduceToNat reducePow)
namespace Go.Proofs.YtnfngemnghiehaaGreatDoor.Awp
theorem afp (k:Nat) (h:k<4):∃ s:aA,s.length≤5∧([[TV.str [97]],[TV.str [98]],[TV.str [99]],[TV.str [100,46,116,120,116]]]:List (List TV))[k]?=some [TV.str s]:=by
 match k,h with
 | 0,_=>exact ⟨_,by decide,rfl⟩
 | 1,_=>exact ⟨_,by decide,rfl⟩
 | 2,_=>exact ⟨_,by decide,rfl⟩
 | 3,_=>exact ⟨_,by decide,rfl⟩
theorem amP (v:Value) (b:aA) (i:Nat) (h:Int) (hl:b.length<2^48) (hi:i≤b.length):∃ (x:Inode) (i':Nat) (h':Int),x.sz<1000∧i'≤b.length ∧
  aZ Tryz.prog 199 [cur v b i h] x.o [cur v b i' h']:=by
 obtain ⟨n,i1,h1,hn,hi1,k1⟩:=cF v b i h 6 hl hi (by omega)
 obtain ⟨m,i2,h2,hm,hi2,k2⟩:=cF v b i1 h1 2 hl hi1 (by omega)
 have hn':(n:Int)<6:=by rw [nG,lF (by omega)] at hn; exact hn
 have hm':(m:Int)<2:=by rw [nG,lF (by omega)] at hm; exact hm
 have key:∃ ret outs,(∃ (x:Inode) (i':Nat) (h':Int),x.sz<1000∧i'≤b.length∧ret=x.o∧outs=[cur v b i' h'])∧aZ Tryz.prog 199 [cur v b i h] ret outs:=by
  unfold cur at *
  by_cases g:m=0
  ·subst g
   obtain ⟨r,i3,h3,hr,hi3,k3⟩:=kJ v b i2 h2 [0,1,5,20,100] hl hi2 (by simp) (by simp)
   have hr':0≤r∧r≤100:=by simp at hr; omega
   obtain ⟨y,i4,h4,hy,hi4,k4⟩:=adv v b i3 h3 r hl hi3 (by omega)
   unfold cur at *
   simp only [eK,lO,lR1] at k3
   refine cD hmx zQ [(101,[.l,.b],[]),(153,[.l,.b],[]),(223,[.l,.b],[]),(96,[.l,.b],[]),(149,[.l,.b],[])] 125 rfl [true] ⟨lH rfl,lH rfl⟩ rfl ?_
   intro w hP hQ
   unfold sZ
   refine N ?_
   (first | refine aF hP (k1) (.inl ⟨rfl,fun _ hx=>hx⟩) ?_ | refine aB hP (k1) (.inl ⟨rfl,fun _ hx=>hx⟩) ?_)
   refine N ?_
   (first | refine aF hP (k2) (.inl ⟨rfl,fun _ hx=>hx⟩) ?_ | refine aB hP (k2) (.inl ⟨rfl,fun _ hx=>hx⟩) ?_)
   refine N ?_
   obtain ⟨q,i5,h5,hq,hi5,k5⟩:=cF v b i4 h4 2 hl hi4 (by omega)
   have hq':(q:Int)<2:=by rw [nG,lF (by omega)] at hq; exact hq
   unfold cur at k5
   (first | refine aF hP (k3) (.inl ⟨rfl,fun _ hx=>hx⟩) ?_ | refine aB hP (k3) (.inl ⟨rfl,fun _ hx=>hx⟩) ?_)
   refine N ?_
   (first | refine aF hP (k4) (.inl ⟨rfl,fun _ hx=>hx⟩) ?_ | refine aB hP (k4) (.inl ⟨rfl,fun _ hx=>hx⟩) ?_)
   refine N ?_
   (first | refine aF hP (k5) (.inl ⟨rfl,fun _ hx=>hx⟩) ?_ | refine aB hP (k5) (.inl ⟨rfl,fun _ hx=>hx⟩) ?_)
   refine N ?_
   refine eJ [] ?_
   refine N ?_
   refine aR [] (fun s:Nat × List Attr × Nat × Int=>[(1000,.box [.extv v 1 (aM b),.int .i64 (s.2.2.1:Nat),.int .i64 s.2.2.2]),(5003,.box [.int .i64 (2+(n:Int)),.int .i64 1,.int .i64 (1+(q:Int)),.own 1 (aM y),.own 2 [],.own 2 (s.2.1.map Attr.row)]),(6,.int .i64 (s.1:Nat))]) (fun s=>s.1≤2∧szM Attr.sz s.2.1≤s.1*40∧s.2.2.1≤b.length) (fun s=>2-s.1) ((0,[],i5,h5)) hP hQ (rfl) (⟨by simp,by simp [szM],hi5⟩) ?_
   rintro ⟨k,at',j,g⟩ ⟨hk,hz,hj⟩ w1 hP1 hQ1
   refine N1 ?_
   simp only at hk hz hj
   (first | with_reducible refine cN _ ?_ ?_ | refine cO _ ?_ ?_) <;> intro g1
   ·obtain ⟨c,j1,g2,hj1,k6⟩:=j6 v b j g 3 hl hj (by omega)
    cases c with
    | false=>
     unfold cur at k6
     refine N1 ?_
     (first | refine aF hP1 (k6) (.inl ⟨rfl,fun _ hx=>hx⟩) ?_ | refine aB hP1 (k6) (.inl ⟨rfl,fun _ hx=>hx⟩) ?_)
     refine N1 ?_
     exact ⟨(k+1,at',j1,g2),rfl,⟨by simp only; omega,by simp only; omega,hj1⟩,by simp only; omega⟩
    | true=>
     obtain ⟨nm,hnm,hget⟩:=afp k (by omega)
     have hg2:(k:Int)<4:=by omega
     obtain ⟨z,j2,g3,hz2,hj2,k7⟩:=qQ v b j1 g2 [[120],[118,97,108,117,101],[115,105,120,116,101,101,110,98,121,116,101,115,120,120,120,120]] hl hj1 (by simp) (by simp)
     have hz3:z.length≤16:=by
      simp only [lG,lM4,or_false] at hz2
      rcases hz2 with rfl | rfl | rfl <;> simp
     have hal:at'.length≤k*40:=by simp only [szM] at hz; omega
     have hb:(at'.length+1)*32≤140737488355328:=by omega
     have ha:szM Attr.sz (at'++[⟨nm,z⟩])=szM Attr.sz at' + 1+(nm.length+z.length):=by simp [szM,Attr.sz]; omega
     unfold cur at k6 k7
     simp only [cP,lO,lR1] at k7
     refine N1 ?_
     (first | refine aF hP1 (k6) (.inl ⟨rfl,fun _ hx=>hx⟩) ?_ | refine aB hP1 (k6) (.inl ⟨rfl,fun _ hx=>hx⟩) ?_)
     have hz:=And.intro hget hg2
     refine Nz1 ?_
     (first | refine aF hP1 (k7) (.inl ⟨rfl,fun _ hx=>hx⟩) ?_ | refine aB hP1 (k7) (.inl ⟨rfl,fun _ hx=>hx⟩) ?_)
     have hz:=And.intro hget (And.intro hg2 hb)
     refine Nz1 ?_
     exact ⟨(k+1,at'++[⟨nm,z⟩],j2,g3),by simp [Attr.row],⟨by simp only; omega,by simp only; omega,hj2⟩,by simp only; omega⟩
   ·refine N1 ?_
    exact ⟨{ ino:=2+n,kind:=1,links:=1+q,data:=y,ents:=[],attrs:=at' },j,g,by show y.length+szM Ent.sz []+szM Attr.sz at'<1000; simp [szM] at *; omega,hj,rfl,rfl⟩
  ·obtain rfl:m=1:=by omega
   refine cD hmx zQ [(101,[.l,.b],[]),(153,[.l,.b],[]),(223,[.l,.b],[]),(96,[.l,.b],[]),(149,[.l,.b],[])] 125 rfl [true] ⟨lH rfl,lH rfl⟩ rfl ?_
   intro w hP hQ
   unfold sZ
   refine N ?_
   (first | refine aF hP (k1) (.inl ⟨rfl,fun _ hx=>hx⟩) ?_ | refine aB hP (k1) (.inl ⟨rfl,fun _ hx=>hx⟩) ?_)
   refine N ?_
   (first | refine aF hP (k2) (.inl ⟨rfl,fun _ hx=>hx⟩) ?_ | refine aB hP (k2) (.inl ⟨rfl,fun _ hx=>hx⟩) ?_)
   refine N ?_
   refine eJ [] ?_
   refine N ?_
   refine aR [] (fun s:Nat × List Ent × Nat × Int=>[(1000,.box [.extv v 1 (aM b),.int .i64 (s.2.2.1:Nat),.int .i64 s.2.2.2]),(5003,.box [.int .i64 (2+(n:Int)),.int .i64 2,.int .i64 1,.own 1 [],.own 2 (s.2.1.map Ent.row),.own 2 []]),(5,.int .i64 (s.1:Nat))]) (fun s=>s.1≤4∧szM Ent.sz s.2.1≤s.1*40∧s.2.2.1≤b.length) (fun s=>4-s.1) ((0,[],i2,h2)) hP hQ (rfl) (⟨by simp,by simp [szM],hi2⟩) ?_
   rintro ⟨k,es,ie,he⟩ ⟨hk0,hze,hie⟩ w1 hP1 hQ1
   refine N1 ?_
   simp only at hk0 hze hie
   (first | with_reducible refine cN _ ?_ ?_ | refine cO _ ?_ ?_) <;> intro g0
   ·obtain ⟨c,j1,g2,hj1,k6⟩:=j6 v b ie he 2 hl hie (by omega)
    cases c with
    | false=>
     unfold cur at k6
     refine N1 ?_
     (first | refine aF hP1 (k6) (.inl ⟨rfl,fun _ hx=>hx⟩) ?_ | refine aB hP1 (k6) (.inl ⟨rfl,fun _ hx=>hx⟩) ?_)
     refine N1 ?_
     exact ⟨(k+1,es,j1,g2),rfl,⟨by simp only; omega,by simp only; omega,hj1⟩,by simp only; omega⟩
    | true=>
     obtain ⟨nm,hnm,hget⟩:=afp k (by omega)
     obtain ⟨z,j2,g3,hz2,hj2,k7⟩:=cF v b j1 g2 8 hl hj1 (by omega)
     have hal:es.length≤k*40:=by simp only [szM] at hze; omega
     have hb:(es.length+1)*24≤140737488355328:=by omega
     have ha:szM Ent.sz (es++[⟨nm,2+(z:Int)⟩])=szM Ent.sz es+1+nm.length:=by simp [szM,Ent.sz]; omega
     have hzz:(z:Int)<8:=by rw [nG,lF (by omega)] at hz2; exact hz2
     unfold cur at k6 k7
     refine N1 ?_
     (first | refine aF hP1 (k6) (.inl ⟨rfl,fun _ hx=>hx⟩) ?_ | refine aB hP1 (k6) (.inl ⟨rfl,fun _ hx=>hx⟩) ?_)
     have hz:=And.intro hget g0
     refine Nz1 ?_
     (first | refine aF hP1 (k7) (.inl ⟨rfl,fun _ hx=>hx⟩) ?_ | refine aB hP1 (k7) (.inl ⟨rfl,fun _ hx=>hx⟩) ?_)
     have hz:=And.intro hget (And.intro g0 hb)
     refine Nz1 ?_
     exact ⟨(k+1,es++[⟨nm,2+(z:Int)⟩],j2,g3),by simp [Ent.row],⟨by simp only; omega,by simp only; omega,hj2⟩,by simp only; omega⟩
   ·refine N1 ?_
    refine eJ [] ?_
    refine N ?_
    refine aR [] (fun s:Nat × List Attr × Nat × Int=>[(1000,.box [.extv v 1 (aM b),.int .i64 (s.2.2.1:Nat),.int .i64 s.2.2.2]),(5003,.box [.int .i64 (2+(n:Int)),.int .i64 2,.int .i64 1,.own 1 [],.own 2 (es.map Ent.row),.own 2 (s.2.1.map Attr.row)]),(6,.int .i64 (s.1:Nat))]) (fun s=>s.1≤2∧szM Attr.sz s.2.1≤s.1*40∧s.2.2.1≤b.length) (fun s=>2-s.1) ((0,[],ie,he)) hP hQ (rfl) (⟨by simp,by simp [szM],hie⟩) ?_
    rintro ⟨k,at',j,g⟩ ⟨hk,hz,hj⟩ w1 hP1 hQ1
    refine N1 ?_
    simp only at hk hz hj
    (first | with_reducible refine cN _ ?_ ?_ | refine cO _ ?_ ?_) <;> intro g1
    ·obtain ⟨c,j1,g2,hj1,k6⟩:=j6 v b j g 3 hl hj (by omega)
     cases c with
     | false=>
      unfold cur at k6
      refine N1 ?_
      (first | refine aF hP1 (k6) (.inl ⟨rfl,fun _ hx=>hx⟩) ?_ | refine aB hP1 (k6) (.inl ⟨rfl,fun _ hx=>hx⟩) ?_)
      refine N1 ?_
      exact ⟨(k+1,at',j1,g2),rfl,⟨by simp only; omega,by simp only; omega,hj1⟩,by simp only; omega⟩
     | true=>
      obtain ⟨nm,hnm,hget⟩:=afp k (by omega)
      have hg2:(k:Int)<4:=by omega
      obtain ⟨z,j2,g3,hz2,hj2,k7⟩:=qQ v b j1 g2 [[120],[118,97,108,117,101],[115,105,120,116,101,101,110,98,121,116,101,115,120,120,120,120]] hl hj1 (by simp) (by simp)
      have hz3:z.length≤16:=by
       simp only [lG,lM4,or_false] at hz2
       rcases hz2 with rfl | rfl | rfl <;> simp
      have hal:at'.length≤k*40:=by simp only [szM] at hz; omega
      have hb:(at'.length+1)*32≤140737488355328:=by omega
      have ha:szM Attr.sz (at'++[⟨nm,z⟩])=szM Attr.sz at' + 1+(nm.length+z.length):=by simp [szM,Attr.sz]; omega
      unfold cur at k6 k7
      simp only [cP,lO,lR1] at k7
      refine N1 ?_
      (first | refine aF hP1 (k6) (.inl ⟨rfl,fun _ hx=>hx⟩) ?_ | refine aB hP1 (k6) (.inl ⟨rfl,fun _ hx=>hx⟩) ?_)
      have hz:=And.intro hget hg2
      refine Nz1 ?_
      (first | refine aF hP1 (k7) (.inl ⟨rfl,fun _ hx=>hx⟩) ?_ | refine aB hP1 (k7) (.inl ⟨rfl,fun _ hx=>hx⟩) ?_)
      have hz:=And.intro hget (And.intro hg2 hb)
      refine Nz1 ?_
      exact ⟨(k+1,at'++[⟨nm,z⟩],j2,g3),by simp [Attr.row],⟨by simp only; omega,by simp only; omega,hj2⟩,by simp only; omega⟩
    ·refine N1 ?_
     exact ⟨{ ino:=2+n,kind:=2,links:=1,data:=[],ents:=es,attrs:=at' },j,g,by show ([]:aA).length+szM Ent.sz es+szM Attr.sz at'<1000; simp only [List.length_nil]; omega,hj,rfl,rfl⟩
 obtain ⟨_,_,⟨t',i',h',ht',hi',rfl,rfl⟩,hS⟩:=key
 exact ⟨t',i',h',ht',hi',hS⟩

theorem akW (v:Value) (b:aA) (i:Nat) (h:Int) (hl:b.length<2^48) (hi:i≤b.length):∃ (x:Inode) (i':Nat) (h':Int),x.sz<2000∧i'≤b.length ∧
  aZ Tryz.prog 154 [cur v b i h] x.o [cur v b i' h']:=by
 obtain ⟨x,i1,h1,hx,hi1,k1⟩:=amP v b i h hl hi
 obtain ⟨n,i2,h2,hn,hi2,k2⟩:=cF v b i1 h1 14 hl hi1 (by omega)
 obtain ⟨z1,z2,z3⟩:=cW hx
 have zD:x.sz=x.data.length+szM Ent.sz x.ents+szM Attr.sz x.attrs:=rfl
 have hn':n<14:=by rw [nG,lF (by omega)] at hn; omega
 have key:∃ ret outs,(∃ (y:Inode) (i':Nat) (h':Int),y.sz<2000∧i'≤b.length∧ret=y.o∧outs=[cur v b i' h'])∧aZ Tryz.prog 154 [cur v b i h] ret outs:=by
  unfold cur at *
  by_cases g0:n=0
  ·subst g0
   obtain ⟨r,i3,h3,hr,hi3,k3⟩:=kJ v b i2 h2 [0,1,1000,1001] hl hi2 (by simp) (by simp)
   unfold cur at k3
   simp only [eK,lO,lR1] at k3
   refine cD hmx jO [(101,[.l,.b],[]),(153,[.l,.b],[]),(199,[.l],[]),(149,[.l,.b],[])] 141 rfl [true] ⟨lH rfl,lH rfl⟩ rfl ?_
   intro w hP hQ
   unfold iD
   refine N ?_
   (first | refine aF hP (k1) (.inl ⟨rfl,fun _ hx=>hx⟩) ?_ | refine aB hP (k1) (.inl ⟨rfl,fun _ hx=>hx⟩) ?_)
   refine N ?_
   (first | refine aF hP (k2) (.inl ⟨rfl,fun _ hx=>hx⟩) ?_ | refine aB hP (k2) (.inl ⟨rfl,fun _ hx=>hx⟩) ?_)
   refine N ?_
   (first | refine aF hP (k3) (.inl ⟨rfl,fun _ hx=>hx⟩) ?_ | refine aB hP (k3) (.inl ⟨rfl,fun _ hx=>hx⟩) ?_)
   refine N ?_
   exact ⟨{ x with ino:=r },i3,h3,by show x.sz<2000; omega,hi3,rfl,rfl⟩
  by_cases g1:n=1
  ·subst g1
   obtain ⟨r,i3,h3,hr,hi3,k3⟩:=cF v b i2 h2 4 hl hi2 (by omega)
   unfold cur at k3
   refine cD hmx jO [(101,[.l,.b],[]),(153,[.l,.b],[]),(199,[.l],[]),(149,[.l,.b],[])] 141 rfl [true] ⟨lH rfl,lH rfl⟩ rfl ?_
   intro w hP hQ
   unfold iD
   refine N ?_
   (first | refine aF hP (k1) (.inl ⟨rfl,fun _ hx=>hx⟩) ?_ | refine aB hP (k1) (.inl ⟨rfl,fun _ hx=>hx⟩) ?_)
   refine N ?_
   (first | refine aF hP (k2) (.inl ⟨rfl,fun _ hx=>hx⟩) ?_ | refine aB hP (k2) (.inl ⟨rfl,fun _ hx=>hx⟩) ?_)
   refine N ?_
   (first | refine aF hP (k3) (.inl ⟨rfl,fun _ hx=>hx⟩) ?_ | refine aB hP (k3) (.inl ⟨rfl,fun _ hx=>hx⟩) ?_)
   refine N ?_
   exact ⟨{ x with kind:=r },i3,h3,by show x.sz<2000; omega,hi3,rfl,rfl⟩
  by_cases g2:n=2
  ·subst g2
   obtain ⟨r,i3,h3,hr,hi3,k3⟩:=kJ v b i2 h2 [-1,0,2,1001] hl hi2 (by simp) (by simp)
   unfold cur at k3
   simp only [eK,lO,lR1] at k3
   refine cD hmx jO [(101,[.l,.b],[]),(153,[.l,.b],[]),(199,[.l],[]),(149,[.l,.b],[])] 141 rfl [true] ⟨lH rfl,lH rfl⟩ rfl ?_
   intro w hP hQ
   unfold iD
   refine N ?_
   (first | refine aF hP (k1) (.inl ⟨rfl,fun _ hx=>hx⟩) ?_ | refine aB hP (k1) (.inl ⟨rfl,fun _ hx=>hx⟩) ?_)
   refine N ?_
   (first | refine aF hP (k2) (.inl ⟨rfl,fun _ hx=>hx⟩) ?_ | refine aB hP (k2) (.inl ⟨rfl,fun _ hx=>hx⟩) ?_)
   refine N ?_
   (first | refine aF hP (k3) (.inl ⟨rfl,fun _ hx=>hx⟩) ?_ | refine aB hP (k3) (.inl ⟨rfl,fun _ hx=>hx⟩) ?_)
   refine N ?_
   exact ⟨{ x with links:=r },i3,h3,by show x.sz<2000; omega,hi3,rfl,rfl⟩
  by_cases g3:n=3
  ·subst g3
   have hb1:(x.data.length+1)*1≤140737488355328:=by omega
   have hb2:x.data.length+1≤140737488355328:=by omega
   refine cD hmx jO [(101,[.l,.b],[]),(153,[.l,.b],[]),(199,[.l],[]),(149,[.l,.b],[])] 141 rfl [true] ⟨lH rfl,lH rfl⟩ rfl ?_
   intro w hP hQ
   unfold iD
   refine N ?_
   (first | refine aF hP (k1) (.inl ⟨rfl,fun _ hx=>hx⟩) ?_ | refine aB hP (k1) (.inl ⟨rfl,fun _ hx=>hx⟩) ?_)
   refine N ?_
   (first | refine aF hP (k2) (.inl ⟨rfl,fun _ hx=>hx⟩) ?_ | refine aB hP (k2) (.inl ⟨rfl,fun _ hx=>hx⟩) ?_)
   have hz:=And.intro hb1 hb2
   refine Nz ?_
   exact ⟨{ x with data:=x.data++[1] },i2,h2,by show (x.data++[1]).length+szM Ent.sz x.ents+szM Attr.sz x.attrs<2000; simp; omega,hi2,by simp [aM],rfl⟩
  by_cases g4:n=4
  ·subst g4
   obtain ⟨s,i3,h3,hs,hi3,k3⟩:=qQ v b i2 h2 [[97],[122],[],[90]] hl hi2 (by simp) (by simp)
   obtain ⟨r,i4,h4,hr,hi4,k4⟩:=kJ v b i3 h3 [1,2,1000,1001] hl hi3 (by simp) (by simp)
   have hsl:s.length≤1:=by simp at hs; rcases hs with rfl | rfl | rfl | rfl <;> simp
   have hb1:(x.ents.length+1)*24≤140737488355328:=by omega
   unfold cur at k3 k4
   simp only [eK,cP,lO,lR1] at k3 k4
   refine cD hmx jO [(101,[.l,.b],[]),(153,[.l,.b],[]),(199,[.l],[]),(149,[.l,.b],[])] 141 rfl [true] ⟨lH rfl,lH rfl⟩ rfl ?_
   intro w hP hQ
   unfold iD
   refine N ?_
   (first | refine aF hP (k1) (.inl ⟨rfl,fun _ hx=>hx⟩) ?_ | refine aB hP (k1) (.inl ⟨rfl,fun _ hx=>hx⟩) ?_)
   refine N ?_
   (first | refine aF hP (k2) (.inl ⟨rfl,fun _ hx=>hx⟩) ?_ | refine aB hP (k2) (.inl ⟨rfl,fun _ hx=>hx⟩) ?_)
   refine N ?_
   (first | refine aF hP (k3) (.inl ⟨rfl,fun _ hx=>hx⟩) ?_ | refine aB hP (k3) (.inl ⟨rfl,fun _ hx=>hx⟩) ?_)
   refine N ?_
   (first | refine aF hP (k4) (.inl ⟨rfl,fun _ hx=>hx⟩) ?_ | refine aB hP (k4) (.inl ⟨rfl,fun _ hx=>hx⟩) ?_)
   have hz:=hb1
   refine Nz ?_
   exact ⟨{ x with ents:=x.ents++[⟨s,r⟩] },i4,h4,by
    have:szM Ent.sz (x.ents++[⟨s,r⟩])=szM Ent.sz x.ents+1+s.length:=by simp [szM,Ent.sz]; omega
    show x.data.length+szM Ent.sz (x.ents++[⟨s,r⟩])+szM Attr.sz x.attrs<2000; omega,hi4,by simp [Ent.row],rfl⟩
  by_cases g5:n=5
  ·subst g5
   obtain ⟨s,i3,h3,hs,hi3,k3⟩:=qQ v b i2 h2 [[97],[122],[]] hl hi2 (by simp) (by simp)
   obtain ⟨m,i4,h4,hm,hi4,k4⟩:=cF v b i3 h3 3 hl hi3 (by omega)
   have hm':m<3:=by rw [nG,lF (by omega)] at hm; omega
   have hsl:s.length≤1:=by simp at hs; rcases hs with rfl | rfl | rfl <;> simp
   have hrb:dA (List.replicate (15+(m:Int)).toNat [TV.int .u8 0])=some (List.replicate (15+m) 0):=by
    rw [show (15+(m:Int)).toNat=15+m by omega,show List.replicate (15+m) [TV.int .u8 0]=aM (List.replicate (15+m) 0) by simp [aM],qF]
   have hb1:(x.attrs.length+1)*32≤140737488355328:=by omega
   unfold cur at k3 k4
   simp only [eK,cP,lO,lR1] at k3 k4
   refine cD hmx jO [(101,[.l,.b],[]),(153,[.l,.b],[]),(199,[.l],[]),(149,[.l,.b],[])] 141 rfl [true] ⟨lH rfl,lH rfl⟩ rfl ?_
   intro w hP hQ
   unfold iD
   refine N ?_
   (first | refine aF hP (k1) (.inl ⟨rfl,fun _ hx=>hx⟩) ?_ | refine aB hP (k1) (.inl ⟨rfl,fun _ hx=>hx⟩) ?_)
   refine N ?_
   (first | refine aF hP (k2) (.inl ⟨rfl,fun _ hx=>hx⟩) ?_ | refine aB hP (k2) (.inl ⟨rfl,fun _ hx=>hx⟩) ?_)
   refine N ?_
   (first | refine aF hP (k3) (.inl ⟨rfl,fun _ hx=>hx⟩) ?_ | refine aB hP (k3) (.inl ⟨rfl,fun _ hx=>hx⟩) ?_)
   refine N ?_
   (first | refine aF hP (k4) (.inl ⟨rfl,fun _ hx=>hx⟩) ?_ | refine aB hP (k4) (.inl ⟨rfl,fun _ hx=>hx⟩) ?_)
   have hz:=And.intro hb1 hrb
   refine Nz ?_
   exact ⟨{ x with attrs:=x.attrs++[⟨s,List.replicate (15+m) 0⟩] },i4,h4,by
    have:szM Attr.sz (x.attrs++[⟨s,List.replicate (15+m) 0⟩])=szM Attr.sz x.attrs+1+s.length+(15+m):=by simp [szM,Attr.sz]; omega
    show x.data.length+szM Ent.sz x.ents+szM Attr.sz (x.attrs++[⟨s,List.replicate (15+m) 0⟩])<2000; omega,hi4,by simp [Attr.row],rfl⟩
  ·have w0:decide ((n:Int)=0)=false:=lB (by omega)
   have w1:decide ((n:Int)=1)=false:=lB (by omega)
   have w2:decide ((n:Int)=2)=false:=lB (by omega)
   have w3:decide ((n:Int)=3)=false:=lB (by omega)
   have w4:decide ((n:Int)=4)=false:=lB (by omega)
   have w5:decide ((n:Int)=5)=false:=lB (by omega)
   refine cD hmx jO [(101,[.l,.b],[]),(153,[.l,.b],[]),(199,[.l],[]),(149,[.l,.b],[])] 141 rfl [true] ⟨lH rfl,lH rfl⟩ rfl ?_
   intro w hP hQ
   unfold iD
   refine N ?_
   (first | refine aF hP (k1) (.inl ⟨rfl,fun _ hx=>hx⟩) ?_ | refine aB hP (k1) (.inl ⟨rfl,fun _ hx=>hx⟩) ?_)
   refine N ?_
   (first | refine aF hP (k2) (.inl ⟨rfl,fun _ hx=>hx⟩) ?_ | refine aB hP (k2) (.inl ⟨rfl,fun _ hx=>hx⟩) ?_)
   have hz:=And.intro w0 (And.intro w1 (And.intro w2 (And.intro w3 (And.intro w4 w5))))
   refine Nz ?_
   exact ⟨x,i2,h2,by omega,hi2,rfl,rfl⟩
 obtain ⟨_,_,⟨t',i',h',ht',hi',rfl,rfl⟩,hS⟩:=key
 exact ⟨t',i',h',ht',hi',hS⟩
theorem aas {α:Type} (f:α→Nat):∀ (l:List α) (k:Nat) (x:α),((l.set k x).map f).sum≤(l.map f).sum+f x
 | [],_,_=>by simp
 | a::l,0,x=>by simp; omega
 | a::l,k+1,x=>by
  have:=aas f l k x
  simp only [List.set_cons_succ,lO,lC2]; omega
theorem xX {α:Type} (f:α→Nat):∀ (l:List α) (k:Nat),((l.take k).map f).sum≤(l.map f).sum
 | [],_=>by simp
 | a::l,0=>by simp
 | a::l,k+1=>by
  have:=xX f l k
  simp only [List.take_succ_cons,lO,lC2]; omega
theorem aoW (v:Value) (b:aA) (i:Nat) (h:Int) (hl:b.length<2^48) (hi:i≤b.length):∃ (t:Tab) (i':Nat) (h':Int),t.sz<2^20∧i'≤b.length ∧
  aZ Tryz.prog 100 [cur v b i h] t.o [cur v b i' h']:=by
 obtain ⟨t,i1,h1,ht,hi1,k1⟩:=agV v b i h 8 hl hi (by omega)
 obtain ⟨n,i2,h2,hn,hi2,k2⟩:=cF v b i1 h1 12 hl hi1 (by omega)
 have hz:=fW ht
 have htl:=((aP t).1 ht).tab.len
 have hn':n<12:=by rw [nG,lF (by omega)] at hn; omega
 have hpos:0<t.inodes.length:=by
  obtain ⟨r,_,_,r3⟩:=cR ((aP t).1 ht)
  exact List.length_pos_of_mem r3
 have key:∃ ret outs,(∃ (t':Tab) (i':Nat) (h':Int),t'.sz<2^20∧i'≤b.length∧ret=t'.o∧outs=[cur v b i' h'])∧aZ Tryz.prog 100 [cur v b i h] ret outs:=by
  unfold cur at *
  by_cases g0:n=0
  ·subst g0
   obtain ⟨r,i3,h3,hr,hi3,k3⟩:=kJ v b i2 h2 [1,2,1000,1001] hl hi2 (by simp) (by simp)
   unfold cur at k3
   simp only [eK,lO,lR1] at k3
   refine cD hmx oH [(101,[.l,.b],[]),(153,[.l,.b],[]),(57,[.l,.b],[]),(154,[.l],[])] 141 rfl [true] ⟨lH rfl,lH rfl⟩ rfl ?_
   intro w hP hQ
   unfold l5
   refine N ?_
   (first | refine aF hP (k1) (.inl ⟨rfl,fun _ hx=>hx⟩) ?_ | refine aB hP (k1) (.inl ⟨rfl,fun _ hx=>hx⟩) ?_)
   refine N ?_
   (first | refine aF hP (k2) (.inl ⟨rfl,fun _ hx=>hx⟩) ?_ | refine aB hP (k2) (.inl ⟨rfl,fun _ hx=>hx⟩) ?_)
   refine N ?_
   (first | refine aF hP (k3) (.inl ⟨rfl,fun _ hx=>hx⟩) ?_ | refine aB hP (k3) (.inl ⟨rfl,fun _ hx=>hx⟩) ?_)
   refine N ?_
   exact ⟨{ t with next:=r },i3,h3,by show t.sz<2^20; omega,hi3,rfl,rfl⟩
  by_cases g1:n=1
  ·subst g1
   obtain ⟨x,i3,h3,hx,hi3,k3⟩:=akW v b i2 h2 hl hi2
   unfold cur at k3
   have hb1:(t.inodes.length+1)*96≤140737488355328:=by omega
   refine cD hmx oH [(101,[.l,.b],[]),(153,[.l,.b],[]),(57,[.l,.b],[]),(154,[.l],[])] 141 rfl [true] ⟨lH rfl,lH rfl⟩ rfl ?_
   intro w hP hQ
   unfold l5
   refine N ?_
   (first | refine aF hP (k1) (.inl ⟨rfl,fun _ hx=>hx⟩) ?_ | refine aB hP (k1) (.inl ⟨rfl,fun _ hx=>hx⟩) ?_)
   refine N ?_
   (first | refine aF hP (k2) (.inl ⟨rfl,fun _ hx=>hx⟩) ?_ | refine aB hP (k2) (.inl ⟨rfl,fun _ hx=>hx⟩) ?_)
   refine N ?_
   (first | refine aF hP (k3) (.inl ⟨rfl,fun _ hx=>hx⟩) ?_ | refine aB hP (k3) (.inl ⟨rfl,fun _ hx=>hx⟩) ?_)
   have hz:=hb1
   refine Nz ?_
   exact ⟨{ t with inodes:=t.inodes++[x] },i3,h3,by
    have:szM Inode.sz (t.inodes++[x])=szM Inode.sz t.inodes+1+x.sz:=by simp [szM]; omega
    have e:t.sz=szM Inode.sz t.inodes:=rfl
    show szM Inode.sz (t.inodes++[x])<2^20; omega,hi3,by simp [Inode.row],rfl⟩
  by_cases g2:n=2
  ·subst g2
   obtain ⟨m,i3,h3,hm,hi3,k3⟩:=cF v b i2 h2 t.inodes.length hl hi2 (by omega)
   obtain ⟨x,i4,h4,hx,hi4,k4⟩:=akW v b i3 h3 hl hi3
   have hm':(m:Int)<(t.inodes.length:Nat):=by rw [nG,lF (by omega)] at hm; omega
   unfold cur at k3 k4
   refine cD hmx oH [(101,[.l,.b],[]),(153,[.l,.b],[]),(57,[.l,.b],[]),(154,[.l],[])] 141 rfl [true] ⟨lH rfl,lH rfl⟩ rfl ?_
   intro w hP hQ
   unfold l5
   refine N ?_
   (first | refine aF hP (k1) (.inl ⟨rfl,fun _ hx=>hx⟩) ?_ | refine aB hP (k1) (.inl ⟨rfl,fun _ hx=>hx⟩) ?_)
   refine N ?_
   (first | refine aF hP (k2) (.inl ⟨rfl,fun _ hx=>hx⟩) ?_ | refine aB hP (k2) (.inl ⟨rfl,fun _ hx=>hx⟩) ?_)
   refine N ?_
   (first | refine aF hP (k3) (.inl ⟨rfl,fun _ hx=>hx⟩) ?_ | refine aB hP (k3) (.inl ⟨rfl,fun _ hx=>hx⟩) ?_)
   refine N ?_
   (first | refine aF hP (k4) (.inl ⟨rfl,fun _ hx=>hx⟩) ?_ | refine aB hP (k4) (.inl ⟨rfl,fun _ hx=>hx⟩) ?_)
   have hz:=hm'
   refine Nz ?_
   exact ⟨{ t with inodes:=t.inodes.set m x },i4,h4,by
    have:szM Inode.sz (t.inodes.set m x)≤szM Inode.sz t.inodes+x.sz:=by
     have:=aas Inode.sz t.inodes m x
     simp only [szM,List.length_set]; omega
    have e:t.sz=szM Inode.sz t.inodes:=rfl
    show szM Inode.sz (t.inodes.set m x)<2^20; omega,hi4,by rw [qO Inode.row t.inodes m x _ fun y _=>rfl],rfl⟩
  by_cases g3:n=3
  ·subst g3
   obtain ⟨m,i3,h3,hm,hi3,k3⟩:=cF v b i2 h2 (t.inodes.length+1) hl hi2 (by omega)
   have hm':(m:Int)≤(t.inodes.length:Nat):=by rw [nG,lF (by omega)] at hm; omega
   unfold cur at k3
   refine cD hmx oH [(101,[.l,.b],[]),(153,[.l,.b],[]),(57,[.l,.b],[]),(154,[.l],[])] 141 rfl [true] ⟨lH rfl,lH rfl⟩ rfl ?_
   intro w hP hQ
   unfold l5
   refine N ?_
   (first | refine aF hP (k1) (.inl ⟨rfl,fun _ hx=>hx⟩) ?_ | refine aB hP (k1) (.inl ⟨rfl,fun _ hx=>hx⟩) ?_)
   refine N ?_
   (first | refine aF hP (k2) (.inl ⟨rfl,fun _ hx=>hx⟩) ?_ | refine aB hP (k2) (.inl ⟨rfl,fun _ hx=>hx⟩) ?_)
   refine N ?_
   (first | refine aF hP (k3) (.inl ⟨rfl,fun _ hx=>hx⟩) ?_ | refine aB hP (k3) (.inl ⟨rfl,fun _ hx=>hx⟩) ?_)
   have hz:=hm'
   refine Nz ?_
   exact ⟨{ t with inodes:=t.inodes.take m },i3,h3,by
    have:szM Inode.sz (t.inodes.take m)≤szM Inode.sz t.inodes:=by
     have:=xX Inode.sz t.inodes m
     have:=List.length_take_le m t.inodes
     simp only [szM]; omega
    have e:t.sz=szM Inode.sz t.inodes:=rfl
    show szM Inode.sz (t.inodes.take m)<2^20; omega,hi3,by simp [Tab.o,Int.sub_zero],rfl⟩
  ·have w0:decide ((n:Int)=0)=false:=lB (by omega)
   have w1:decide ((n:Int)=1)=false:=lB (by omega)
   have w2:decide ((n:Int)=2)=false:=lB (by omega)
   have w3:decide ((n:Int)=3)=false:=lB (by omega)
   refine cD hmx oH [(101,[.l,.b],[]),(153,[.l,.b],[]),(57,[.l,.b],[]),(154,[.l],[])] 141 rfl [true] ⟨lH rfl,lH rfl⟩ rfl ?_
   intro w hP hQ
   unfold l5
   refine N ?_
   (first | refine aF hP (k1) (.inl ⟨rfl,fun _ hx=>hx⟩) ?_ | refine aB hP (k1) (.inl ⟨rfl,fun _ hx=>hx⟩) ?_)
   refine N ?_
   (first | refine aF hP (k2) (.inl ⟨rfl,fun _ hx=>hx⟩) ?_ | refine aB hP (k2) (.inl ⟨rfl,fun _ hx=>hx⟩) ?_)
   have hz:=And.intro w0 (And.intro w1 (And.intro w2 w3))
   refine Nz ?_
   exact ⟨t,i2,h2,by omega,hi2,rfl,rfl⟩
 obtain ⟨_,_,⟨t',i',h',ht',hi',rfl,rfl⟩,hS⟩:=key
 exact ⟨t',i',h',ht',hi',hS⟩
theorem aoX (v:Value) (b:aA) (i:Nat) (h:Int) (hl:b.length<2^48) (hi:i≤b.length):∃ (t:Tab) (i':Nat) (h':Int),t.sz<2^28∧i'≤b.length ∧
  aZ Tryz.prog 74 [cur v b i h] t.o [cur v b i' h']:=by
 obtain ⟨n,i1,h1,hn,hi1,k1⟩:=cF v b i h 16 hl hi (by omega)
 by_cases g0:n=0
 ·subst g0
  obtain ⟨t,i2,h2,ht,hi2,k2⟩:=aoW v b i1 h1 hl hi1
  refine ⟨t,i2,h2,by omega,hi2,?_⟩
  unfold cur at *
  refine U wR [(101,[.l,.b],[]),(100,[.l],[]),(138,[.l],[]),(57,[.l,.b],[])] 21 [true] fun w hP hQ=>?_
  unfold rE
  refine N ?_
  (first | refine aF hP (k1) (.inl ⟨rfl,fun _ hx=>hx⟩) ?_ | refine aB hP (k1) (.inl ⟨rfl,fun _ hx=>hx⟩) ?_)
  refine N ?_
  (first | refine aF hP (k2) (.inl ⟨rfl,fun _ hx=>hx⟩) ?_ | refine aB hP (k2) (.inl ⟨rfl,fun _ hx=>hx⟩) ?_)
  simp +decide (maxSteps:=9^9) (disch:=omega) only[↓SB0,SX,seval,hQ]
  all_goals first | rfl | exact ⟨rfl,rfl⟩
 by_cases g1:n=1
 ·subst g1
  obtain ⟨t,i2,h2,ht,hi2,k2⟩:=amO v b i1 h1 hl hi1
  refine ⟨t,i2,h2,by omega,hi2,?_⟩
  unfold cur at *
  refine U wR [(101,[.l,.b],[]),(100,[.l],[]),(138,[.l],[]),(57,[.l,.b],[])] 21 [true] fun w hP hQ=>?_
  unfold rE
  refine N ?_
  (first | refine aF hP (k1) (.inl ⟨rfl,fun _ hx=>hx⟩) ?_ | refine aB hP (k1) (.inl ⟨rfl,fun _ hx=>hx⟩) ?_)
  refine N ?_
  (first | refine aF hP (k2) (.inl ⟨rfl,fun _ hx=>hx⟩) ?_ | refine aB hP (k2) (.inl ⟨rfl,fun _ hx=>hx⟩) ?_)
  simp +decide (maxSteps:=9^9) (disch:=omega) only[↓SB0,SX,seval,hQ]
  all_goals first | rfl | exact ⟨rfl,rfl⟩
 ·obtain ⟨t,i2,h2,ht,hi2,k2⟩:=agV v b i1 h1 10 hl hi1 (by omega)
  have hz:=fW ht
  have w0:decide ((n:Int)=0)=false:=lB (by omega)
  have w1:decide ((n:Int)=1)=false:=lB (by omega)
  refine ⟨t,i2,h2,by omega,hi2,?_⟩
  unfold cur at *
  refine U wR [(101,[.l,.b],[]),(100,[.l],[]),(138,[.l],[]),(57,[.l,.b],[])] 21 [true] fun w hP hQ=>?_
  unfold rE
  refine N ?_
  (first | refine aF hP (k1) (.inl ⟨rfl,fun _ hx=>hx⟩) ?_ | refine aB hP (k1) (.inl ⟨rfl,fun _ hx=>hx⟩) ?_)
  have hz:=And.intro w0 w1
  refine Nz ?_
  (first | refine aF hP (k2) (.inl ⟨rfl,fun _ hx=>hx⟩) ?_ | refine aB hP (k2) (.inl ⟨rfl,fun _ hx=>hx⟩) ?_)
  simp +decide (maxSteps:=9^9) (disch:=omega) only[↓SB0,SX,seval,hQ]
  all_goals first | rfl | exact ⟨rfl,rfl⟩
theorem adx (v:Value) (b:aA) (hl:b.length<2^48):∃ (t:Tab) (p:aA),t.sz<2^28∧p.length≤450∧aZ Tryz.prog 21 [.extv v 1 (aM b)] (.tup [t.o,.str p]) [.undef]:=by
 obtain ⟨h0,k0⟩:=aoV v b hl
 obtain ⟨t,i1,h1,ht,hi1,k1⟩:=aoX v b 0 h0 hl (by omega)
 obtain ⟨p,i2,h2,hp,hi2,k2⟩:=agU v b i1 h1 t hl hi1 (by omega)
 refine ⟨t,p,ht,hp,?_⟩
 unfold cur at *
 refine U x6 [(999999,[],[(4,0)]),(74,[.l],[]),(58,[.l,.b],[])] 61 [] fun w hP hQ=>?_
 unfold pM
 refine N ?_
 (first | refine aF hP (k0) (.inl ⟨rfl,fun _ hx=>hx⟩) ?_ | refine aB hP (k0) (.inl ⟨rfl,fun _ hx=>hx⟩) ?_)
 refine N ?_
 (first | refine aF hP (k1) (.inl ⟨rfl,fun _ hx=>hx⟩) ?_ | refine aB hP (k1) (.inl ⟨rfl,fun _ hx=>hx⟩) ?_)
 refine N ?_
 (first | refine aF hP (k2) (.inl ⟨rfl,fun _ hx=>hx⟩) ?_ | refine aB hP (k2) (.inl ⟨rfl,fun _ hx=>hx⟩) ?_)
 exact N trivial
theorem xY (v:Value) (b:aA) (hl:b.length<2^48):∃ (t:Tab) (p:aA),t.sz<2^28∧p.length≤450∧aZ Tryz.prog 29 [.extv v 1 (aM b)] (.tup [t.o,.str p]) [.undef]:=by
 obtain ⟨t,p,ht,hp,k1⟩:=adx v b hl
 refine ⟨t,p,ht,hp,?_⟩
 refine U s5 [] 13 [] fun w hP hQ=>?_
 unfold lA
 refine N ?_
 exact K (k1) trivial
section
open Go.Proofs Go.Shelf Go.RowKit Go.Lib
end
section
open Go.Proofs Go.Shelf Go.RowKit Go.Lib
set_option maxHeartbeats 4000000 in
set_option maxRecDepth 100000 in
set_option maxHeartbeats 4000000 in
set_option maxRecDepth 100000 in
set_option maxHeartbeats 4000000 in
set_option maxRecDepth 100000 in
set_option maxHeartbeats 4000000 in
set_option maxRecDepth 100000 in
end
section
open Go.Proofs Go.Shelf Go.RowKit Go.Lib
set_option maxHeartbeats 4000000 in
set_option maxRecDepth 100000 in
set_option maxHeartbeats 4000000 in
set_option maxRecDepth 100000 in
set_option maxHeartbeats 4000000 in
set_option maxRecDepth 100000 in
set_option maxHeartbeats 4000000 in
set_option maxRecDepth 100000 in
end





theorem amQ {P:Program} {f:FuncId} {s:Nat} {es:List (List TV)} {xs outs:List AV} {ret:AV} {v:Value} (h:aZ P f (.ext s es::xs) ret outs):aZ P f (.extv v s es::xs) ret outs:=by
 refine ⟨h.1,h.2.1,?_⟩
 intro w vs F X r
 cases r with
 | extv _ _ X1 X2 _ _ _ vs _ h1 hr hX=>exact h.2.2 w _ F X (.ext _ _ X1 X2 _ _ _ _ _ h1 hr hX)
theorem amR (t:Tab) (h:t.sz<2^40):aZ Tryz.prog 20 [t.x,t.x] (.bool true) [.undef,.undef]:=by
 have:=aic t t h h
 rwa [lE rfl] at this
theorem agX {t:Tab} (h:bA t=true):(c7 t).length≤300:=by
 have ht:=(aP t).1 h
 obtain ⟨r,r1,r2,r3⟩:=cR ht
 have few:(gI t 30 r []).length≤300:=by rw [mQ ht _ r r3,lB1]; exact oY ht r3 _
 rw [sK ht r1] at few
 rw [c7,List.length_mergeSort]; exact few
theorem afq (b:aA) (hf:b.length<2^48):aZ Tryz.prog 5 [.ext 1 (aM b)] (.bool true) [.undef]:=by
 refine rB fun a len cap ha=>?_
 generalize hv:Value.slice a len cap=v
 have hB:=amQ (v:=v) (aqf b hf)
 cases hz:decide ((1048576:Int)<(b.length:Nat)) with
 | true=>
  rw [hz] at hB
  refine U m6 [] 893 [] fun w hP hQ=>?_
  unfold iV
  refine N ?_
  exact K (hB) trivial
 | false=>
  rw [hz] at hB
  obtain ⟨t,p,ht,hp,k1⟩:=xY v b hf
  have kA:=adt t p (by omega) (by omega)
  have kB:=oX t p (by omega) (by omega)
  by_cases h0:(bB t p).2=0
  ·obtain ⟨r1,r2,r3,r4,r5,r6⟩:=aoT h0
   have z1:=fW r4
   have z2:=fW r5
   have l1:=agX r4
   have l2:=agX r5
   have l3:=((aP t).1 r4).tab.len
   have l4:=((aP _).1 r5).tab.len
   have kL:=aoS t p (by omega) (by omega)
   have kP:=aar t (by omega)
   have kQ:=aar (bB t p).1 (by omega)
   rw [agP,lF r4] at kP
   rw [agP,lF r5] at kQ
   have kH:=akT (c7 (bB t p).1) p (by omega)
   rw [lB r3] at kH
   have kT:=xP (bB t p).1 (by omega)
   rw [r5] at kT
   rw [h0] at kA kB
   rw [r1] at kL
   generalize exC (ah5 t p)=ec at *
   generalize (bB t p).1=x at *
   have d1:decide (((c7 x).length:Int)=((c7 t).length:Int)-1)=true:=lE (by omega)
   have d2:decide ((x.inodes.length:Int)=(t.inodes.length:Int)-1)=true:=lE (by omega)
   refine U m6 [] 893 [] fun w hP hQ=>?_
   unfold iV
   refine N ?_
   refine K (hB) ?_
   refine K (k1) ?_
   refine K (kA) ?_
   refine K (kB) ?_
   refine K (kL) ?_
   have hz:=And.intro d1 d2
   refine Kz (kQ) ?_
   have hz:=And.intro d1 d2
   refine Kz (kP) ?_
   have hz:=And.intro d1 d2
   refine Kz (kQ) ?_
   have hz:=And.intro d1 d2
   refine Kz (kH) ?_
   have hz:=And.intro d1 d2
   exact Kz (kT) trivial
  ·have hs:=ah6 h0
   rw [hs] at kA kB
   have kS:=amR t (by omega)
   have d0:decide ((bB t p).2=0)=false:=lB h0
   generalize (bB t p).2=c at *
   refine U m6 [] 893 [] fun w hP hQ=>?_
   unfold iV
   refine N ?_
   refine K (hB) ?_
   refine K (k1) ?_
   refine K (kA) ?_
   have hz:=d0
   refine Kz (kB) ?_
   exact K (kS) trivial
theorem Shp.nil_inv {ts:List TV} (h:Shp [] ts):ts=[]:=by cases h; rfl
theorem Shp.sl_inv {s:Nat} {e ys:List Ty} {ts:List TV} (h:Shp (.sl s e::ys) ts):∃ es us,ts=.sl s es::us∧es.length≤2^47∧(∀ r ∈ es,Shp e r)∧Shp ys us:=by
 cases h with | sl _ _ es _ us hl he h=>exact ⟨es,us,rfl,hl,he,h⟩
theorem aik {α:Type} {sh:List Ty} {row:α→List TV} {good:α→Prop} (H:∀ ts,Shp sh ts→∃ x,ts=row x∧good x):∀ {es:List (List TV)},(∀ r ∈ es,Shp sh r)→∃ l:List α,es=l.map row∧∀ x ∈ l,good x:=by
 intro es
 induction es with
 | nil=>intro _; exact ⟨[],rfl,by simp⟩
 | cons r es ih=>
  intro h
  obtain ⟨x,rfl,hx⟩:=H r (h r (by simp))
  obtain ⟨l,rfl,hl⟩:=ih fun r hr=>h r (by simp [hr])
  exact ⟨x::l,rfl,fun y hy=>by rcases lG.1 hy with rfl | hy; exact hx; exact hl y hy⟩
theorem ail (ts:List TV) (h:Shp [.int .u8] ts):∃ x:UInt8,ts=aj2 x∧True:=by
 cases h with
 | int _ n _ us hn h=>
  cases h
  obtain ⟨h1,h2⟩:=bounds_u8 hn
  refine ⟨UInt8.ofNat n.toNat,?_,trivial⟩
  have:(UInt8.ofNat n.toNat).toNat=n.toNat:=by simp; omega
  simp only [aj2,this]
  congr 2
  omega
theorem afr {es:List (List TV)} (h:∀ r ∈ es,Shp [.int .u8] r):∃ b:aA,es=aM b:=by
 obtain ⟨l,rfl,_⟩:=aik ail h
 exact ⟨l,rfl⟩
theorem aoY {b:aA} (h:(aM b).length≤2^47):b.length<2^48:=lA4 (by simpa [aM] using h) (by decide)
section
open Go.Proofs Go.Proofs.YtnfngemnghiehaaGreatDoor
theorem own:ownKnob Tryz.prog.godebug=none:=by kernel_rfl
def ank:List Char:=['a','t',Char.ofNat 32,'l','o','o','p',Char.ofNat 46,'e','x','a','m','p','l','e',Char.ofNat 47,'g','0','0','2','8','5',Char.ofNat 47,'l','a','w','s',Char.ofNat 46,'F','n','R','o','o','t','S','t','a','y','s',Char.ofNat 32,'l','o','o','p',Char.ofNat 46,'e','x','a','m','p','l','e',Char.ofNat 47,'g','0','0','2','8','5',Char.ofNat 47]++['l','a','w','s',Char.ofNat 46,'F','n','U','n','l','i','n','k','e','d',Char.ofNat 32,'l','o','o','p',Char.ofNat 46,'e','x','a','m','p','l','e',Char.ofNat 47,'g','0','0','2','8','5',Char.ofNat 47,'l','a','w','s',Char.ofNat 46,'F','n','R','e','m','o','v','e','d',Char.ofNat 32,'l','o','o','p',Char.ofNat 46,'e','x','a','m']++['p','l','e',Char.ofNat 47,'g','0','0','2','8','5',Char.ofNat 47,'l','a','w','s',Char.ofNat 46,'F','n','M','a','d','e',Char.ofNat 32,'l','o','o','p',Char.ofNat 46,'e','x','a','m','p','l','e',Char.ofNat 47,'g','0','0','2','8','5',Char.ofNat 47,'l','a','w','s',Char.ofNat 46,'F','n','D','i','r','s',Char.ofNat 32,'l','o','o','p',Char.ofNat 46]++['e','x','a','m','p','l','e',Char.ofNat 47,'g','0','0','2','8','5',Char.ofNat 47,'l','a','w','s',Char.ofNat 46,'F','n','L','i','n','k','e','d',Char.ofNat 32,'l','o','o','p',Char.ofNat 46,'e','x','a','m','p','l','e',Char.ofNat 47,'g','0','0','2','8','5',Char.ofNat 47,'l','a','w','s',Char.ofNat 46,'F','n','M','o','v','e']++['d',Char.ofNat 32,'l','o','o','p',Char.ofNat 46,'e','x','a','m','p','l','e',Char.ofNat 47,'g','0','0','2','8','5',Char.ofNat 47,'l','a','w','s',Char.ofNat 46,'F','n','T','r','e','e','s','B','e','n','t',Char.ofNat 32,'l','o','o','p',Char.ofNat 46,'e','x','a','m','p','l','e',Char.ofNat 47,'g','0','0','2','8','5',Char.ofNat 47,'l']++['a','w','s',Char.ofNat 46,'F','n','E','x','a','c','t','R','e','n','a','m','e']
def aqg:List Char:=['a','4','7','1','4','6','3','1','9','8','d','f','c','c','e','f','d','4','5','4','9','d','2','c','a','3','d','e','a','3','3','c','e','4','0','2','4','f','0','c','a','8','3','1','b','6','3','c','a','5','0','6','e','7','3','6','f','4','7','1','d','e','2','5']
theorem anl:Tryz.prog.initOrder=String.ofList (['h','a','r','n','e','s','s']++(Char.ofNat 32::aqg)++[Char.ofNat 32,'c','u','t',Char.ofNat 32]++ank):=by kernel_rfl
theorem afs:∃ r,behindMainWord (wordsSigns Tryz.prog.initOrder.toList)=['c','u','t']::r:=by
 rw [anl,String.toList_ofList]
 exact ⟨wordsSigns ank,by kernel_rfl⟩
theorem aoZ {P:Program} {l:List Char} (h:P.initOrder=String.ofList l):P.mainIs=(match wordsSigns l with
 | h::s::_=>if !isSumSigns s then none else if h == "harness".toList then some (true,s) else if h == "ownmain".toList then some (false,s) else none
 | _=>none):=by
 unfold Program.mainIs
 rw [h,String.toList_ofList]
 rfl
theorem apX:Tryz.prog.mainIs=some (((true, "a471463198dfccefd4549d2ca3dea33ce4024f0ca831b63ca506e736f471de25"):Bool × String).1,((true, "a471463198dfccefd4549d2ca3dea33ce4024f0ca831b63ca506e736f471de25"):Bool × String).2.toList):=(aoZ anl).trans (by kernel_rfl)
theorem ao0:false=Tryz.prog.looks []:=by kernel_rfl
theorem apY:(laidOutB Tryz.prog)=true:=by kernel_rfl
theorem apZ:(mapsRowed Tryz.prog)=true:=by kernel_rfl
theorem ao1:((Tryz.prog.stops == []))=true:=by kernel_rfl
theorem ao2:((Tryz.prog.stopKnobs == []))=true:=by kernel_rfl
theorem ao3:(Tryz.prog.stopsHeard)=true:=by kernel_rfl
theorem ao4:(Tryz.prog.mayEnter)=true:=by
 obtain ⟨r,hr⟩:=afs
 exact al5 hr (by kernel_rfl) (by kernel_rfl) (by kernel_rfl)
theorem ao5:(false == Tryz.prog.liftsFinal)=true:=by
 obtain ⟨r,hr⟩:=afs
 rw [al6 hr]
 rfl
theorem ap0:(Tryz.prog.make == some .cut)=true:=by
 obtain ⟨r,hr⟩:=afs
 rw [aoc hr]
 rfl
end
section
open Go.Proofs Go.Proofs.YtnfngemnghiehaaGreatDoor
theorem ady:(Rows.fnRemovedRow.wf (OpenSpec.ofChange Rows.fnRemovedSpec))=true:=by kernel_rfl
theorem adz:(Tryz.f5.params.all (Tryz.prog.readableRec ·))=true:=by kernel_rfl
theorem adA:(namedTie Tryz.prog Rows.fnRemovedRow.named Rows.fnRemovedSpec.vars)=true:=by kernel_rfl
theorem adB:((Rows.fnRemovedRow.stops == []))=true:=by kernel_rfl
theorem adC:((Rows.fnRemovedRow.knobs == []))=true:=by kernel_rfl
theorem adD:((Rows.fnRemovedRow.inPlace == Tryz.prog.inPlace 5))=true:=by kernel_rfl
theorem abq:((Rows.fnRemovedRow.unfollowed == Tryz.prog.unfollowed 5))=true:=by kernel_rfl
theorem abr:((Rows.fnRemovedRow.recurses == Tryz.prog.recurses 5))=true:=by kernel_rfl
theorem abs:((Rows.fnRemovedRow.named == Tryz.prog.varsNamed 5))=true:=by kernel_rfl
theorem abt:((Rows.fnRemovedRow.maps == (Tryz.f5.params.toList++Rows.fnRemovedSpec.plain.varTypes Tryz.prog).any (Tryz.prog.mapsRec ·)))=true:=by kernel_rfl
theorem abu:((Rows.fnRemovedRow.ifaces == (Tryz.f5.params.toList++Rows.fnRemovedSpec.plain.varTypes Tryz.prog).any (Tryz.prog.ifacesRec ·)))=true:=by kernel_rfl
theorem abv:((Rows.fnRemovedRow.mapsOut == Tryz.prog.mapsAmong Tryz.f5.resultTypes.toList))=true:=by kernel_rfl
theorem abw:((Rows.fnRemovedRow.loops == (Tryz.f5.params.toList++Rows.fnRemovedSpec.plain.varTypes Tryz.prog).any (Tryz.prog.loopsFrom ·)))=true:=by kernel_rfl
theorem abx:((Rows.fnRemovedRow.wideKeys == (Tryz.f5.params.toList++Rows.fnRemovedSpec.plain.varTypes Tryz.prog++Tryz.f5.resultTypes.toList).any (Tryz.prog.wideKeysFrom ·)))=true:=by kernel_rfl
theorem aby:(Rows.fnRemovedSpec.vars.all (Tryz.prog.varReadable ·))=true:=by kernel_rfl
theorem abz:(Tryz.f5.resultTypes.all (fun t=>Tryz.prog.readableRec t && decide (t<Tryz.prog.types.size)))=true:=by kernel_rfl
theorem abA:((Rows.fnRemovedRow.ifacesOut == Tryz.f5.resultTypes.toList.any (Tryz.prog.ifacesRec ·)))=true:=by kernel_rfl
theorem abB:((Rows.fnRemovedRow.loopsOut == Tryz.f5.resultTypes.toList.any (Tryz.prog.loopsFrom ·)))=true:=by kernel_rfl
theorem abC:((Rows.fnRemovedRow.plainKeys == Tryz.prog.plainKeys))=true:=by kernel_rfl
theorem abD:(Rows.fnRemovedRow.shortTexts.isNone)=true:=by kernel_rfl
theorem abE:((Rows.fnRemovedRow.kinds == (if Rows.fnRemovedRow.domain.isEmpty then [] else Tryz.f5.params.toList.map fun t=>match Tryz.prog.underlying t with | some (.int k)=>some k | _=>none)))=true:=by kernel_rfl
theorem abF:((Rows.fnRemovedRow.pinned == Rows.fnRemovedRow.pinnedBy))=true:=by kernel_rfl
theorem abG:((Rows.fnRemovedRow.veiled == (Tryz.f5.params.toList++Rows.fnRemovedSpec.plain.varTypes Tryz.prog++Tryz.f5.resultTypes.toList).any (Tryz.prog.veiledRec ·)))=true:=by kernel_rfl
theorem abH:(Rows.fnRemovedRow.veiledFits Tryz.prog Tryz.f5.params.toList (Tryz.f5.params.toList++Rows.fnRemovedSpec.plain.varTypes Tryz.prog++Tryz.f5.resultTypes.toList))=true:=by kernel_rfl
theorem adE:joinedFacts Tryz.prog 5 Tryz.f5 Rows.fnRemovedSpec Rows.fnRemovedRow=true:=
 ajM ady apY apZ adz adA adB ao1 adC ao2 adD abq abr abs abt abu abv abw abx aby abz abA abB abC abD ao3 ao4 ao5 ap0 abE abF abG abH
theorem yI (os:Os) (started:os.Started) (H:Type) (enc:TypeId × Value→H) :
  ReturnsInHanded {} Tryz.checked os 5 .any (fun w args=>(Rows.fnRemovedSpec.pre enc Tryz.prog Tryz.f5 [] false w args∧laidMetH Tryz.prog Rows.fnRemovedRow.laid w)∧sizedMet enc Tryz.prog Tryz.f5 (OpenSpec.ofChange Rows.fnRemovedSpec) false w args) (Rows.fnRemovedSpec.post enc Tryz.prog Tryz.f5 false true false false):=by
 refine law_laid (X:=fun w _=>laidMetH Tryz.prog Rows.fnRemovedRow.laid w) (fun _ _ _ hh h=>h.of_heap hh) (C:=Tryz.checked) (pars:=[(false,[.sl 1 [.int .u8]])]) own started (by kernel_rfl) Tryz.func5
  (ChangeSpec.witness_shaped (enc:=enc) (C:=Tryz.checked) (os:=os) (X:=fun w _=>laidMetH Tryz.prog Rows.fnRemovedRow.laid w) false (World.laidAll Tryz.prog os Rows.fnRemovedRow.laid) #[.slice none 0 0] 8 (World.laidAll_os _ _ _) (World.shaped_of_RefB (by kernel_rfl) (by kernel_rfl)) (by kernel_rfl) (by kernel_rfl) (by kernel_rfl) (al7 _ (by kernel_rfl) (by kernel_rfl) (by kernel_rfl)))
  rfl (by kernel_rfl) rfl (by kernel_rfl) ?_ ?_
 ·intro ds hd
  match ds,hd with
  | [d0],_=>rfl
 ·intro tss h
  match tss,h with
  | [t0],⟨h0,_⟩=>
   obtain ⟨r0,u0,rfl,l0,e0,k0⟩:=Shp.sl_inv h0
   obtain rfl:=Shp.nil_inv k0
   obtain ⟨x0,rfl⟩:=afr e0
   exact ⟨_,afq x0 (aoY l0)⟩
theorem adF:Tryz.f5.isWrapper Tryz.prog Rows.fnRemovedRow.wrapper Rows.fnRemovedRow.mainSum:=by
 unfold Func.isWrapper; first | (rw [if_pos (by decide +kernel)]; kernel_rfl) | (rw [if_neg (by decide +kernel)]; exact ⟨rfl,rfl⟩)
theorem law_FnRemoved:Rows.FnRemovedSaid:=
 OpenClaim.holds_of_wide 5 Tryz.f5 rfl rfl rfl rfl rfl rfl rfl ⟨rfl,rfl,rfl,rfl,rfl⟩ rfl rfl rfl rfl rfl (by kernel_rfl) Tryz.func5 adE
  (of_decide_eq_true (by kernel_rfl)) adF
  (fun os started H enc _=>yI os started H enc)
theorem adG:Rows.fnRemovedRow.wfByText (OpenSpec.ofChange Rows.fnRemovedSpec)=true:=by kernel_rfl
theorem k2_FnRemoved:Tryz.prog.funcNamed "loop.example/g00285/laws.FnRemoved"=some 5:=by kernel_rfl
theorem adH:(Tryz.f5.params.toList.all fun u=>!Tryz.prog.wantsStandIn u)=true:=by kernel_rfl
theorem adI:false=Rows.fnRemovedRow.goesBy Tryz.prog:=by kernel_rfl
theorem card_FnRemoved:Rows.FnRemovedCardSaid:=
 Claim7.holds_tied_plain_at .later [] [.data,.pinned] true (true, "a471463198dfccefd4549d2ca3dea33ce4024f0ca831b63ca506e736f471de25") false
  law_FnRemoved (fun _ h=>by cases h) adG (fun _ h=>by cases h) fnRemoved_row_tie rfl ⟨rfl,rfl⟩ apX rfl
  (fun f fn hf hfn=>by
   obtain rfl:f=5:=Option.some.inj (k2_FnRemoved.symm.trans hf) |>.symm
   obtain rfl:fn=Tryz.f5:=(Option.some.inj (Tryz.func5.symm.trans hfn)).symm
   exact ⟨ao0,fun j t ht=>by
    have:=lA1.1 adH t (by simpa using Array.mem_of_getElem? ht)
    exact show Tryz.prog.wantsStandIn t=false by simpa using this⟩)
  adI
end
end Go.Proofs.YtnfngemnghiehaaGreatDoor.Awp

namespace Go.Proofs.YtnfngemnghiehaaGreatDoor
/-- the given statement -/
theorem provedFnRemoved : Rows.FnRemovedCardSaid := Awp.card_FnRemoved
end Go.Proofs.YtnfngemnghiehaaGreatDoor
#print axioms Go.Proofs.YtnfngemnghiehaaGreatDoor.provedFnRemoved
