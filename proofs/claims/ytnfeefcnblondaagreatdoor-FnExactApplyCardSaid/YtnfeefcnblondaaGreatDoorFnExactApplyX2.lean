/- Contracts of the functions that laws.FnExactApply reaches are proved here (part 2). Condition: none. -/
import Derived.Test.YtnfeefcnblondaaGreatDoorFnExactApplyX1
set_option linter.unusedVariables false
set_option linter.unusedSimpArgs false
set_option maxRecDepth 100000
set_option maxHeartbeats 20000000
open Nat (reduceEqDiff reduceAdd reduceMul reduceSub)
open Int (reduceNeg reduceToNat reducePow)
namespace Go.Proofs.YtnfeefcnblondaaGreatDoor.Awp
theorem aV (m:Nat):((m+1:Nat):Int)-1=(m:Int):=by omega
theorem fC {α:Type} {p:Nat->α->Bool} {lt:α->α->Bool} {l:List α} {i:Nat} (hk:∀ k,k<i->cD p lt l k=true) (hi:cD p lt l i=true):∀ k,k<i+1->cD p lt l k=true:=by
 intro k aa;by_cases e:k=i
 ·subst e; exact hi
 ·exact hk k A7
theorem dE {α:Type} {p:Nat->α->Bool} {lt:α->α->Bool} {l:List α} {i:Nat} (h:i<l.length) (hp:p i l[i]=false):cD p lt l i=false:=by
 rw[cD,lF h]; simp[hp]
theorem akc {l:List Attr} {n:Nat} (h:szM Attr.sz l<n):l.length<n/\∀ x ∈ l,x.name.length<n/\x.val.length<n:=by
 refine⟨by simp only[szM] at h; omega,fun x hx=>?_⟩;have:=m5 (f:=Attr.sz) hx;simp only[szM] at h;simp only[Attr.sz] at this;omega
theorem anG {l:List Ent} {n:Nat} (h:szM Ent.sz l<n):l.length<n/\∀ x ∈ l,x.name.length<n:=by
 refine⟨by simp only[szM] at h; omega,fun x hx=>?_⟩;have:=m5 (f:=Ent.sz) hx;simp only[szM] at h;simp only[Ent.sz] at this;omega
theorem akd {p q:Prop} [Decidable p] [Decidable q] (h:p↔q):decide p=decide q:=by simp[h]
theorem yE (l:List Attr) (hs:szM Attr.sz l<2^48):Sp 188 [.ext 2 (l.map Attr.row)] (.bool (kL l)) U1:=by
 obtain⟨hl,cm⟩:=akc hs;refine Vw adR [] 13 [] fun w hP hQ=>?_
 refine fB [2] ?_;refine N ?_;refine aN [2] (fun i:Nat=>[(3,.int .i64 i)]) (fun i=>i<=l.length/\∀ k,k<i->cD (fun _=>p9) nG l k=true) (fun i=>l.length-i) (0) hP hQ (rfl) A8 ?_;rintro i ⟨hi,hk⟩ w1 hP1 hQ1;refine N1 ?_;refine Jf (fun h1=>?_) fun h1=>?_
 ·have aa:i<l.length:=by omega
  have bp:cD (fun _=>p9) nG l i=false->kL l=false:=fun e=>(fun e=>by rw[kL,rF,e]; rfl) (l8 aa e)
  obtain pa:=cm _ (lI aa);cases hN:aP (l[i]'aa).name with
  | false=>
   refine Nz1 (aL h1) ?_;refine Kz1 hN (bT (l[i]'aa).name A7) ?_;rw[bp (dE aa (by simp[p9,hN]))]
  | true=>
   cases hV:inR (((l[i]'aa).val.length:Nat)) 1 16 with
   | false=>
    refine Nz1 (aL h1) ?_;refine Kz1 (And.intro hN (aL h1)) (bT (l[i]'aa).name A7) ?_;refine Kz1 hV (cL (((l[i]'aa).val.length:Nat)) 1 16) ?_;rw[bp (dE aa (by simp[p9,hV]))]
   | true=>
    cases i with
    | zero=>
     refine Nz1 (aL h1) ?_;refine Kz1 (And.intro hN (aL h1)) (bT (l[0]'aa).name A7) ?_;refine Kz1 (And.intro hV (aL h1)) (cL (((l[0]'aa).val.length:Nat)) 1 16) ?_;exact⟨1,rfl,⟨by omega,fC hk (by rw[dP aa]; simp[p9,hN,hV])⟩,by omega⟩
    | succ m=>
     have w4:decide ((0:Int)<((m+1:Nat):Int))=true:=lC A7;have hm:=aL (show ((m:Nat):Int)<(l.length:Nat) by omega);cases hD:strLt (l[m]'A7).name (l[m+1]'aa).name with
     | false=>
      refine Nz1 (aL h1) ?_;refine Kz1 (And.intro hN (aL h1)) (bT (l[m+1]'aa).name A7) ?_;refine Kz1 (And.intro hV (And.intro w4 (And.intro aV (And.intro hm (And.intro (aL h1) hD))))) (cL (((l[m+1]'aa).val.length:Nat)) 1 16) ?_;rw[bp (by rw[aY aa,nG,<-iR,hD]; simp)]
     | true=>
      refine Nz1 (aL h1) ?_;refine Kz1 (And.intro hN (aL h1)) (bT (l[m+1]'aa).name A7) ?_;refine Kz1 (And.intro hV (And.intro w4 (And.intro aV (And.intro hm (And.intro (aL h1) hD))))) (cL (((l[m+1]'aa).val.length:Nat)) 1 16) ?_;exact⟨m+1+1,rfl,⟨by omega,fC hk (by rw[aY aa,nG,<-iR,hD]; simp[p9,hN,hV])⟩,by omega⟩
 ·obtain rfl:i=l.length:=by omega
  have e:rF l=true:=f7 fun k h=>hk k h
  refine N1 ?_;rw[kL,e,lL4];rw[akd (p:=(l.length:Int)<=4) (q:=l.length<=4) A7]
theorem acd (l:List Ent) (hs:szM Ent.sz l<2^48):Sp 187 [.ext 2 (l.map Ent.row)] (.bool (vD l)) U1:=by
 obtain⟨hl,cm⟩:=anG hs;refine Vw agY [] 13 [] fun w hP hQ=>?_
 refine fB [2] ?_;refine N ?_;refine aN [2] (fun i:Nat=>[(3,.int .i64 i)]) (fun i=>i<=l.length/\∀ k,k<i->cD (fun _=>afz) vC l k=true) (fun i=>l.length-i) (0) hP hQ (rfl) A8 ?_;rintro i ⟨hi,hk⟩ w1 hP1 hQ1;refine N1 ?_;refine Jf (fun h1=>?_) fun h1=>?_
 ·have aa:i<l.length:=by omega
  have bp:cD (fun _=>afz) vC l i=false->vD l=false:=fun e=>(fun e=>by rw[vD,xX,e]; rfl) (l8 aa e)
  obtain pa:=cm _ (lI aa);cases hN:aP (l[i]'aa).name with
  | false=>
   refine Nz1 (aL h1) ?_;refine Kz1 hN (bT (l[i]'aa).name A7) ?_;rw[bp (dE aa (by simp[afz,hN]))]
  | true=>
   cases hV:inR ((l[i]'aa).ino) 2 1000 with
   | false=>
    refine Nz1 (aL h1) ?_;refine Kz1 (And.intro hN (aL h1)) (bT (l[i]'aa).name A7) ?_;refine Kz1 hV (cL ((l[i]'aa).ino) 2 1000) ?_;rw[bp (dE aa (by simp[afz,hV]))]
   | true=>
    cases i with
    | zero=>
     refine Nz1 (aL h1) ?_;refine Kz1 (And.intro hN (aL h1)) (bT (l[0]'aa).name A7) ?_;refine Kz1 (And.intro hV (aL h1)) (cL ((l[0]'aa).ino) 2 1000) ?_;exact⟨1,rfl,⟨by omega,fC hk (by rw[dP aa]; simp[afz,hN,hV])⟩,by omega⟩
    | succ m=>
     have w4:decide ((0:Int)<((m+1:Nat):Int))=true:=lC A7;have hm:=aL (show ((m:Nat):Int)<(l.length:Nat) by omega);cases hD:strLt (l[m]'A7).name (l[m+1]'aa).name with
     | false=>
      refine Nz1 (aL h1) ?_;refine Kz1 (And.intro hN (aL h1)) (bT (l[m+1]'aa).name A7) ?_;refine Kz1 (And.intro hV (And.intro w4 (And.intro aV (And.intro hm (And.intro (aL h1) hD))))) (cL ((l[m+1]'aa).ino) 2 1000) ?_;rw[bp (by rw[aY aa,vC,<-iR,hD]; simp)]
     | true=>
      refine Nz1 (aL h1) ?_;refine Kz1 (And.intro hN (aL h1)) (bT (l[m+1]'aa).name A7) ?_;refine Kz1 (And.intro hV (And.intro w4 (And.intro aV (And.intro hm (And.intro (aL h1) hD))))) (cL ((l[m+1]'aa).ino) 2 1000) ?_;exact⟨m+1+1,rfl,⟨by omega,fC hk (by rw[aY aa,vC,<-iR,hD]; simp[afz,hN,hV])⟩,by omega⟩
 ·obtain rfl:i=l.length:=by omega
  have e:xX l=true:=f7 fun k h=>hk k h
  refine N1 ?_;rw[vD,e,lL4];rw[akd (p:=(l.length:Int)<=10) (q:=l.length<=10) A7]
theorem yF (l:List Attr) (hs:szM Attr.sz l<2^48):Sp 175 [.ext 2 (l.map Attr.row)] (.bool (kL l)) U1:=by
 obtain⟨hl,cm⟩:=akc hs;refine Vw adP [] 253 [] fun w hP hQ=>?_
 refine fB [2,3,4,5004] ?_;refine N ?_;refine aN [2,3,4,5004] (fun i:Nat=>[(7,.int .i64 i)]) (fun i=>i<=l.length/\∀ k,k<i->cD (fun _=>p9) nG l k=true) (fun i=>l.length-i) (0) hP hQ (rfl) A8 ?_;rintro i ⟨hi,hk⟩ w1 hP1 hQ1;refine N1 ?_;refine Jf (fun h1=>?_) fun h1=>?_
 ·have aa:i<l.length:=by omega
  have bp:cD (fun _=>p9) nG l i=false->kL l=false:=fun e=>(fun e=>by rw[kL,rF,e]; rfl) (l8 aa e)
  obtain pa:=cm _ (lI aa);cases hN:aP (l[i]'aa).name with
  | false=>
   refine Nz1 (aL h1) ?_;refine Kz1 hN (b0 (l[i]'aa).name A7) ?_;rw[bp (dE aa (by simp[p9,hN]))]
  | true=>
   cases hV:inR (((l[i]'aa).val.length:Nat)) 1 16 with
   | false=>
    refine Nz1 (aL h1) ?_;refine Kz1 (And.intro hN (aL h1)) (b0 (l[i]'aa).name A7) ?_;refine Kz1 hV (fV (((l[i]'aa).val.length:Nat)) 1 16) ?_;rw[bp (dE aa (by simp[p9,hV]))]
   | true=>
    cases i with
    | zero=>
     refine Nz1 (aL h1) ?_;refine Kz1 (And.intro hN (aL h1)) (b0 (l[0]'aa).name A7) ?_;refine Kz1 (And.intro hV (aL h1)) (fV (((l[0]'aa).val.length:Nat)) 1 16) ?_;exact⟨1,rfl,⟨by omega,fC hk (by rw[dP aa]; simp[p9,hN,hV])⟩,by omega⟩
    | succ m=>
     have w4:decide ((0:Int)<((m+1:Nat):Int))=true:=lC A7;have hm:=aL (show ((m:Nat):Int)<(l.length:Nat) by omega);cases hD:strLt (l[m]'A7).name (l[m+1]'aa).name with
     | false=>
      refine Nz1 (aL h1) ?_;refine Kz1 (And.intro hN (aL h1)) (b0 (l[m+1]'aa).name A7) ?_;refine Kz1 (And.intro hV (And.intro w4 (And.intro aV (And.intro hm (And.intro (aL h1) hD))))) (fV (((l[m+1]'aa).val.length:Nat)) 1 16) ?_;rw[bp (by rw[aY aa,nG,<-iR,hD]; simp)]
     | true=>
      refine Nz1 (aL h1) ?_;refine Kz1 (And.intro hN (aL h1)) (b0 (l[m+1]'aa).name A7) ?_;refine Kz1 (And.intro hV (And.intro w4 (And.intro aV (And.intro hm (And.intro (aL h1) hD))))) (fV (((l[m+1]'aa).val.length:Nat)) 1 16) ?_;exact⟨m+1+1,rfl,⟨by omega,fC hk (by rw[aY aa,nG,<-iR,hD]; simp[p9,hN,hV])⟩,by omega⟩
 ·obtain rfl:i=l.length:=by omega
  have e:rF l=true:=f7 fun k h=>hk k h
  refine N1 ?_;rw[kL,e,lL4];rw[akd (p:=(l.length:Int)<=4) (q:=l.length<=4) A7]
theorem dQ {x:Inode} {n:Nat} (h:x.sz<n):x.data.length<n/\x.ents.length<n/\x.attrs.length<n:=by
 simp only[Inode.sz,szM] at h; omega
theorem dA (b:Bool):b=false\/b=true:=by cases b <;> simp
theorem ace {x:Inode} (h:x.sz<2^48):x.data.length<2^48/\szM Ent.sz x.ents<2^48/\szM Attr.sz x.attrs<2^48/\x.ents.length<2^48/\x.attrs.length<2^48:=by
 simp only[Inode.sz] at h;refine⟨by omega,by omega,by omega,?_,?_⟩
 ·have:szM Ent.sz x.ents=x.ents.length+(x.ents.map Ent.sz).sum:=rfl;omega
 ·have:szM Attr.sz x.attrs=x.attrs.length+(x.attrs.map Attr.sz).sum:=rfl;omega
theorem kP (x:Inode) (h:x.sz<2^48):Sp 132 [x.x] (.bool (dK x)) U1:=by
 obtain⟨h1,h2,h3,h4,h5⟩:=ace h;refine Vw adN [] 2199023255559 [] fun w hP hQ=>?_
 rcases dA (inR x.ino 1 1000) with hA | hA
 ·refine Kz hA (cL x.ino 1 1000) ?_;simp[dK,hA]
 refine Kz hA (cL x.ino 1 1000) ?_;rcases dA (inR x.links 0 1000) with hB | hB
 ·refine Kz hB (cL x.links 0 1000) ?_;simp[dK,hB]
 refine Kz hB (cL x.links 0 1000) ?_;refine Jg (fun hC=>?_) fun hC=>?_
 rotate_left
 ·refine Nz hC ?_;simp[dK,hC]
 refine Nz hC ?_;refine Jg (fun hD=>?_) fun hD=>?_
 ·refine Nz hD ?_;simp[dK]; omega
 refine Nz hD ?_;rcases dA (vD x.ents) with hE | hE
 ·refine Kz hE (acd x.ents h2) ?_;simp[dK,hE]
 refine Kz hE (acd x.ents h2) ?_;rcases dA (kL x.attrs) with hF | hF
 ·refine Kz hF (yE x.attrs h3) ?_;simp[dK,hF]
 refine Kz hF (yE x.attrs h3) ?_;have key:dK x=rG x:=by
  simp[dK,hA,hB,hC,hE,hF]; omega
 refine Jf (fun k1=>?_) fun k1=>?_
 ·refine N ?_;rw[key,rG,lK k1,akd (p:=(x.ents.length:Int)=0) (q:=x.ents.length=0) A7]
 refine N ?_;refine Jf (fun k2=>?_) fun k2=>?_
 ·refine N ?_;refine Jg (fun k3=>?_) fun k3=>?_
  ·refine Nz k3 ?_;rw[key,rG,lO k1,lK k2,lC (show x.data.length=0 by omega),lL4]
  ·refine Nz k3 ?_;rw[key,rG,lO k1,lK k2,lB (show ¬ x.data.length=0 by omega),lG1]
 ·refine N ?_;rw[key,rG,lO k1,lO k2]
theorem amO {x:Inode} (e:xX x.ents=false):dK x=false:=by simp[dK,vD,e]
theorem kQ (x:Inode) (h:x.sz<2^48):Sp 118 [x.x] (.bool (dK x)) U1:=by
 obtain⟨h1,h2,h3,h4,h5⟩:=ace h;obtain⟨hl,cm⟩:=anG h2;refine Vw adM [] 75557863725916202467359 [] fun w hP hQ=>?_
 rcases dA (inR x.ino 1 1000) with hA | hA
 ·refine Kz hA (fV x.ino 1 1000) ?_;simp[dK,hA]
 refine Kz hA (fV x.ino 1 1000) ?_;refine Jg (fun hD=>?_) fun hD=>?_
 ·refine Nz hD ?_;simp[dK]; omega
 refine Nz hD ?_;refine Jg (fun hG=>?_) fun hG=>?_
 ·refine Nz hG ?_;simp[dK,vD]; omega
 refine Nz hG ?_;rcases dA (kL x.attrs) with hF | hF
 ·refine Kz hF (yF x.attrs h3) ?_;simp[dK,hF]
 refine Kz hF (yF x.attrs h3) ?_;refine fB [2,3,4,5004] ?_;refine N ?_;refine aN [2,3,4,5004] (fun i:Nat=>[(30,.int .i64 i)]) (fun i=>i<=x.ents.length/\∀ k,k<i->cD (fun _=>afz) vC x.ents k=true) (fun i=>x.ents.length-i) (0) hP hQ (rfl) A8 ?_;rintro i ⟨hi,hk⟩ w1 hP1 hQ1;refine N1 ?_;refine Jf (fun h1=>?_) fun h1=>?_
 ·have aa:i<x.ents.length:=by omega
  have bp:cD (fun _=>afz) vC x.ents i=false->dK x=false:=fun e=>amO (l8 aa e)
  obtain pa:=cm _ (lI aa);cases hN:aP (x.ents[i]'aa).name with
  | false=>
   refine Nz1 (aL h1) ?_;refine Kz1 hN (b0 (x.ents[i]'aa).name A7) ?_;rw[bp (dE aa (by simp[afz,hN]))]
  | true=>
   cases hV:inR ((x.ents[i]'aa).ino) 2 1000 with
   | false=>
    refine Nz1 (aL h1) ?_;refine Kz1 (And.intro hN (aL h1)) (b0 (x.ents[i]'aa).name A7) ?_;refine Kz1 hV (fV ((x.ents[i]'aa).ino) 2 1000) ?_;rw[bp (dE aa (by simp[afz,hV]))]
   | true=>
    cases i with
    | zero=>
     refine Nz1 (aL h1) ?_;refine Kz1 (And.intro hN (aL h1)) (b0 (x.ents[0]'aa).name A7) ?_;refine Kz1 (And.intro hV (aL h1)) (fV ((x.ents[0]'aa).ino) 2 1000) ?_;exact⟨1,rfl,⟨by omega,fC hk (by rw[dP aa]; simp[afz,hN,hV])⟩,by omega⟩
    | succ m=>
     have w4:decide ((0:Int)<((m+1:Nat):Int))=true:=lC A7;have hm:=aL (show ((m:Nat):Int)<(x.ents.length:Nat) by omega);cases hD:strLt (x.ents[m]'A7).name (x.ents[m+1]'aa).name with
     | false=>
      refine Nz1 (aL h1) ?_;refine Kz1 (And.intro hN (aL h1)) (b0 (x.ents[m+1]'aa).name A7) ?_;refine Kz1 (And.intro hV (And.intro w4 (And.intro aV (And.intro hm (And.intro (aL h1) hD))))) (fV ((x.ents[m+1]'aa).ino) 2 1000) ?_;rw[bp (by rw[aY aa,vC,<-iR,hD]; simp)]
     | true=>
      refine Nz1 (aL h1) ?_;refine Kz1 (And.intro hN (aL h1)) (b0 (x.ents[m+1]'aa).name A7) ?_;refine Kz1 (And.intro hV (And.intro w4 (And.intro aV (And.intro hm (And.intro (aL h1) hD))))) (fV ((x.ents[m+1]'aa).ino) 2 1000) ?_;exact⟨m+1+1,rfl,⟨by omega,fC hk (by rw[aY aa,vC,<-iR,hD]; simp[afz,hN,hV])⟩,by omega⟩
 ·obtain rfl:i=x.ents.length:=by omega
  have hE:xX x.ents=true:=f7 fun k h=>hk k h
  refine N1 ?_;rcases dA (inR x.links 0 1000) with hB | hB
  ·refine Kz hB (fV x.links 0 1000) ?_;simp[dK,hB]
  refine Kz hB (fV x.links 0 1000) ?_;refine Jf (fun hC=>?_) fun hC=>?_
  rotate_left
  ·refine N ?_;simp[dK,hC]
  refine N ?_;have key:dK x=rG x:=by
   simp[dK,vD,hA,hB,hC,hE,hF,lC (show x.data.length<=100 by omega),lC (show x.ents.length<=10 by omega)]
  refine Jf (fun k1=>?_) fun k1=>?_
  ·refine N ?_;rw[key,rG,lK k1,akd (p:=(x.ents.length:Int)=0) (q:=x.ents.length=0) A7]
  refine N ?_;refine Jf (fun k2=>?_) fun k2=>?_
  ·refine N ?_;refine Jg (fun k3=>?_) fun k3=>?_
   ·refine Nz k3 ?_;rw[key,rG,lO k1,lK k2,lC (show x.data.length=0 by omega),lL4]
   ·refine Nz k3 ?_;rw[key,rG,lO k1,lK k2,lB (show ¬ x.data.length=0 by omega),lG1]
  ·refine N ?_;rw[key,rG,lO k1,lO k2]
def bM (t:Tab) (i:Int):Option Nat:=t.inodes.findIdx? fun x=>decide (x.ino=i)
def zI:Inode:={ ino:=0,kind:=0,links:=0,data:=[],ents:=[],attrs:=[] }
def aeo (t:Tab) (i:Int):Inode:=(aU t i).getD zI
theorem afP {α:Type} (p:α->Bool) (l:List α):l.find? p=(l.findIdx? p).bind fun k=>l[k]?:=by
 induction l with
 | nil=>rfl
 | cons x l ih=>
  by_cases h:p x=true
  ·rw[lA3 h,List.findIdx?_cons,lK h]; rfl
  ·rw[lT2 h,List.findIdx?_cons,lO h,ih];cases List.findIdx? p l <;> simp
theorem acf (t:Tab) (i:Int):aU t i=(bM t i).bind fun k=>t.inodes[k]?:=afP _ _
theorem r7 {t:Tab} {i:Int} {k:Nat} (h:bM t i=some k):k<t.inodes.length:=(lC1.1 h).1
theorem qF {t:Tab} {i:Int} {k:Nat} (h:bM t i=some k):aU t i=some (t.inodes[k]'(r7 h)):=by
 rw[acf,h]; simp[r7 h]
theorem yG {t:Tab} {i:Int} (h:bM t i=none):aU t i=none:=by rw[acf,h]; rfl
theorem o5 (t:Tab) (n:Int) (hl:t.inodes.length<2^48):Sp 69 [t.x,.int .i64 n] (.int .i64 (gU (bM t n))) U2:=by
 refine Vw amj [] 55 [] fun w hP hQ=>?_
 refine fB [4] ?_;refine N ?_;refine aN [4] (fun i:Nat=>[(5,.int .i64 i)]) (fun i=>i<=t.inodes.length/\∀ k,k<i->(h:k<t.inodes.length)->decide (t.inodes[k].ino=n)=false) (fun i=>t.inodes.length-i) (0) hP hQ (rfl) A8 ?_;rintro i ⟨hi,hk⟩ w1 hP1 hQ1;refine N1 ?_;refine Jf (fun h1=>?_) fun h1=>?_
 ·refine Nz1 (aL h1) ?_;refine Jf (fun h2=>?_) fun h2=>?_
  ·refine N1 ?_;rw[bM,gY (p:=fun x:Inode=>decide (x.ino=n)) hk A7 (lC h2)]; rfl
  ·refine N1 ?_;exact⟨i+1,rfl,⟨by omega,iL (p:=fun x:Inode=>decide (x.ino=n)) hk A7 (lB h2)⟩,by omega⟩
 ·obtain rfl:i=t.inodes.length:=by omega
  refine N1 ?_;rw[bM,gZ (p:=fun x:Inode=>decide (x.ino=n)) fun k h=>hk k h h]; rfl
theorem gP {g:Nat} {cs:List TV} {p:Inode->Bool} (hc:∀ v:Inode,mU Tryz.prog g [v.x,.xbox cs] (.bool (p v)) [.undef,.undef]) (l:List Inode) (hl:l.length<2^48) :
  Sp 119 [.ext 6 (l.map Inode.row),.fn g [.xbox cs]] (.int .i64 (gU (l.findIdx? p))) U2:=by
 refine Vw oW [] 435 [] fun w hP hQ=>?_
 refine fB [4,5] ?_;refine N ?_;refine aN [4,5] (fun i:Nat=>[(8,.int .i64 i)]) (fun i=>i<=l.length/\∀ k,k<i->(h:k<l.length)->p l[k]=false) (fun i=>l.length-i) (0) hP hQ (rfl) A8 ?_;rintro i ⟨hi,hk⟩ w1 hP1 hQ1;refine N1 ?_;refine Jf (fun h1=>?_) fun h1=>?_
 ·refine Nz1 (aL h1) ?_;cases h2:p (l[i]'A7) with
  | true=>
   refine Kz1 h2 (hc (l[i]'A7)) ?_;rw[gY hk A7 h2]; rfl
  | false=>
   refine Kz1 h2 (hc (l[i]'A7)) ?_;exact⟨i+1,rfl,⟨by omega,iL hk A7 h2⟩,by omega⟩
 ·obtain rfl:i=l.length:=by omega
  refine N1 ?_;rw[gZ fun k h=>hk k h h]; rfl
theorem acg (x:Inode) (n:Int):Sp 120 [x.x,.xbox [.int .i64 n]] (.bool (decide (x.ino=n))) U2:=by
 refine U zV [] 15 [] fun w hP hQ=>?_
 exact N trivial
theorem n8 (t:Tab) (n:Int) (hl:t.inodes.length<2^48):Sp 56 [t.x,.int .i64 n] (.int .i64 (gU (bM t n))) U2:=by
 refine Vw adC [] 31 [] fun w hP hQ=>?_
 refine K (gP (fun v=>acg v n) t.inodes hl) ?_;rfl
theorem vQ {α:Type} (f:α->List TV) (h:∀ x,(f x).all lA=true) (l:List α):eV (l.map f)=true:=by
 rw[eV,lP];intro r hr;obtain⟨x,_,rfl⟩:=lV2.1 hr;exact h x
theorem aep (l:List Ent):eV (l.map Ent.row)=true:=vQ Ent.row (fun _=>rfl) l
theorem aeq (l:List Attr):eV (l.map Attr.row)=true:=vQ Attr.row (fun _=>rfl) l
theorem amP (b:aA) (hl:b.length<2^40):Sp 164 [.ext 1 (aJ b)] (.own 1 (aJ b)) U1:=by
 refine uV fun a len cap ha=>?_
 cases a with
 | none=>
  obtain rfl:b=[]:=by simpa [aJ] using ha rfl
  refine Vw oK [] 5 [] fun w hP hQ=>?_
  rfl
 | some a=>
  refine U oK [] 5 [] fun w hP hQ=>?_
  exact N trivial
theorem aam (l:List Ent) (hl:l.length<2^40):Sp 180 [.ext 2 (l.map Ent.row)] (.own 2 (l.map Ent.row)) U1:=by
 refine uV fun a len cap ha=>?_
 cases a with
 | none=>
  obtain rfl:l=[]:=by simpa using ha rfl
  refine U pS [] 5 [] fun w hP hQ=>?_
  exact N trivial
 | some a=>
  refine Vw pS [] 5 [] fun w hP hQ=>?_
  exact Nz aep trivial
theorem amQ (l:List Attr) (hl:l.length<2^40):Sp 181 [.ext 2 (l.map Attr.row)] (.own 2 (l.map Attr.row)) U1:=by
 refine uV fun a len cap ha=>?_
 cases a with
 | none=>
  obtain rfl:l=[]:=by simpa using ha rfl
  refine U oL [] 5 [] fun w hP hQ=>?_
  exact N trivial
 | some a=>
  refine Vw oL [] 5 [] fun w hP hQ=>?_
  exact Nz aeq trivial
theorem jR (x:Inode) (h:x.sz<2^40):Sp 124 [x.x] x.o U1:=by
 obtain⟨h1,h2,h3⟩:=dQ h;refine Vw zW [] 7 [] fun w hP hQ=>?_
 refine K (amP x.data A7) ?_;refine K (aam x.ents A7) ?_;exact K (amQ x.attrs A7) trivial
theorem kR (x:Inode) (h:x.sz<2^40):Sp 200 [x.x] x.o U1:=by
 obtain⟨h1,h2,h3⟩:=dQ h;refine Vw agZ [] 15 [] fun w hP hQ=>?_
 exact Nz (And.intro u9 (And.intro aep aeq)) trivial
theorem bK {t:Tab} {n:Nat} (h:t.sz<n):t.inodes.length<n/\∀ x ∈ t.inodes,x.sz<n:=by
 have h':szM Inode.sz t.inodes<n:=h;refine⟨by simp only[szM] at h'; omega,fun x hx=>?_⟩;have:=m5 (f:=Inode.sz) hx;simp only[szM] at h'; omega
theorem kS (t:Tab) (n:Int) (h:t.sz<2^40):Sp 70 [t.x,.int .i64 n] (.tup [(aeo t n).o,.bool (aU t n).isSome]) U2:=by
 obtain⟨h1,h2⟩:=bK h;have dv:=n8 t n A7;cases e:bM t n with
 | none=>
  rw[e] at dv;rw[aeo,yG e];refine Vw uY [] 119 [] fun w hP hQ=>?_
  refine K dv ?_;rfl
 | some k=>
  have hk:=r7 e;rw[e,show gU (some k)=(k:Int) from rfl] at dv;rw[aeo,qF e];refine Vw uY [] 119 [] fun w hP hQ=>?_
  refine K dv ?_;refine Jf (fun hx=>?_) fun hx=>?_
  ·exfalso; omega
  refine Nz (aL (show ((k:Nat):Int)<(t.inodes.length:Nat) by omega)) ?_;refine K (jR (t.inodes[k]'hk) (h2 _ (lI hk))) ?_;rfl
theorem yH (t:Tab) (n:Int) (h:t.sz<2^40):Sp 136 [t.x,.int .i64 n] (.tup [(aeo t n).o,.bool (aU t n).isSome]) U2:=by
 obtain⟨h1,h2⟩:=bK h;have dv:=o5 t n A7;cases e:bM t n with
 | none=>
  rw[e] at dv;rw[aeo,yG e];refine Vw uZ [] 119 [] fun w hP hQ=>?_
  refine K dv ?_;rfl
 | some k=>
  have hk:=r7 e;rw[e,show gU (some k)=(k:Int) from rfl] at dv;rw[aeo,qF e];refine Vw uZ [] 119 [] fun w hP hQ=>?_
  refine K dv ?_;refine Jf (fun hx=>?_) fun hx=>?_
  ·exfalso; omega
  refine Nz (aL (show ((k:Nat):Int)<(t.inodes.length:Nat) by omega)) ?_;refine K (kR (t.inodes[k]'hk) (h2 _ (lI hk))) ?_;rfl
theorem yI {t:Tab} (e:l9 t=false):xY t=false:=by simp[xY,e]
theorem ahu {t:Tab} (h:l9 t=true):qA t=match t.inodes with
  | []=>false
  | x::_=>decide (x.ino=1) && decide (x.kind=2):=by
 rw[l9,nE (fun a b c h1 h2=>by simp only[gO,decide_eq_true_eq] at *; omega)] at h;obtain⟨h1,h2⟩:=h;unfold qA aU;cases hl:t.inodes with
 | nil=>rfl
 | cons x l=>
  rw[hl] at h2;obtain⟨a1,a2⟩:=lF2.1 h2;have hx:=h1 0 (by rw[hl]; simp);simp only[hl,lU3,jD,lM] at hx;have kv:=((x3 x).1 hx.1).ino.1;by_cases e:x.ino=1
  ·rw[lA3 (by simp[e])]; simp[e]
  ·rw[lT2 (by simp[e])];have:l.find? (fun x=>decide (x.ino=1))=none:=by
    rw[List.find?_eq_none];intro y hy;have:=a1 y hy;simp only[gO,decide_eq_true_eq] at this;simp; omega
   rw[this]; simp[e]
theorem afQ (t:Tab) (h:t.sz<2^40):Sp 67 [t.x] (.bool (xY t)) U1:=by
 obtain⟨hl,cm⟩:=bK h;refine Vw ajk [] 31 [] fun w hP hQ=>?_
 rcases dA (inR (t.inodes.length:Nat) 1 30) with hA | hA
 ·have hA':=afK hA;refine Kz hA (cL (t.inodes.length:Nat) 1 30) ?_;by_cases h0:t.inodes.length<=30
  ·have:t.inodes=[]:=lO1.1 A7;have hr:qA t=false:=by simp[qA,aU,this]
   simp[xY,hr]
  ·simp[xY,h0]
 have hA':=(fN _ _ _).1 hA;refine Kz hA (cL (t.inodes.length:Nat) 1 30) ?_;rcases dA (inR t.next 2 1000) with hB | hB
 ·refine Kz hB (cL t.next 2 1000) ?_;simp[xY,hB]
 refine Kz hB (cL t.next 2 1000) ?_;refine fB [2,4,5004] ?_;refine N ?_;refine aN [2,4,5004] (fun i:Nat=>[(3,.int .i64 i)]) (fun i=>i<=t.inodes.length/\∀ k,k<i->cD (fun _=>jD t) gO t.inodes k=true) (fun i=>t.inodes.length-i) (0) hP hQ (rfl) A8 ?_;rintro i ⟨hi,hk⟩ w1 hP1 hQ1;refine N1 ?_;refine Jf (fun h1=>?_) fun h1=>?_
 ·have aa:i<t.inodes.length:=by omega
  have bp:cD (fun _=>jD t) gO t.inodes i=false->xY t=false:=fun e=>yI (l8 aa e)
  have pa:=cm _ (lI aa);cases hN:dK (t.inodes[i]'aa) with
  | false=>
   refine Nz1 (aL h1) ?_;refine Kz1 hN (kP (t.inodes[i]'aa) A7) ?_;rw[bp (dE aa (by simp[jD,hN]))]
  | true=>
   cases hV:decide (t.next<=(t.inodes[i]'aa).ino) with
   | true=>
    have hV':=of_decide_eq_true hV;refine Nz1 (aL h1) ?_;refine Kz1 (And.intro hN hV) (kP (t.inodes[i]'aa) A7) ?_;rw[bp (dE aa (by simp[jD]; omega))]
   | false=>
    have hV':=of_decide_eq_false hV;cases i with
    | zero=>
     refine Nz1 (aL h1) ?_;refine Kz1 (And.intro hN hV) (kP (t.inodes[0]'aa) A7) ?_;exact⟨1,rfl,⟨by omega,fC hk (by rw[dP aa]; simp[jD,hN]; omega)⟩,by omega⟩
    | succ m=>
     have w4:decide ((0:Int)<((m+1:Nat):Int))=true:=lC A7;have hm:=aL (show ((m:Nat):Int)<(t.inodes.length:Nat) by omega);cases hD:decide ((t.inodes[m+1]'aa).ino<=(t.inodes[m]'A7).ino) with
     | true=>
      have hD':=of_decide_eq_true hD;refine Nz1 (aL h1) ?_;refine Kz1 (And.intro hN (And.intro hV (And.intro w4 (And.intro aV (And.intro hm (And.intro (aL h1) hD)))))) (kP (t.inodes[m+1]'aa) A7) ?_;rw[bp (by rw[aY aa,gO]; simp; omega)]
     | false=>
      have hD':=of_decide_eq_false hD;refine Nz1 (aL h1) ?_;refine Kz1 (And.intro hN (And.intro hV (And.intro w4 (And.intro aV (And.intro hm (And.intro (aL h1) hD)))))) (kP (t.inodes[m+1]'aa) A7) ?_;exact⟨m+1+1,rfl,⟨by omega,fC hk (by rw[aY aa,gO]; simp[jD,hN]; omega)⟩,by omega⟩
 ·obtain rfl:i=t.inodes.length:=by omega
  have hE:l9 t=true:=f7 fun k h=>hk k h
  have hr:=ahu hE;have key:xY t=qA t:=by
   simp[xY,hB,hE,lC (show t.inodes.length<=30 by omega)]
  obtain⟨x,l,hx⟩:∃ x l,t.inodes=x::l:=by
   cases hh:t.inodes with
   | nil=>rw[hh] at hA'; simp at hA'
   | cons x l=>exact⟨x,l,rfl⟩
  rw[hx] at hr;replace hr:qA t=(decide (x.ino=1) && decide (x.kind=2)):=hr;have g0:t.inodes[0]?=some x:=by rw[hx]; rfl
  have c0:decide ((0:Int)<(t.inodes.length:Nat))=true:=lC A7;refine Nz1 (And.intro g0 Int.toNat_zero) ?_;refine Jg (fun g1=>?_) fun g1=>?_
  ·refine Nz (And.intro g1 (And.intro g0 Int.toNat_zero)) ?_;rw[key,hr,lC g1,lL4]
  ·refine Nz g1 ?_;rw[key,hr,lB g1,lG1]
theorem afR (t:Tab) (h:t.sz<2^40):Sp 54 [t.x] (.bool (xY t)) U1:=by
 obtain⟨hl,cm⟩:=bK h;refine Vw aji [] 1835135 [] fun w hP hQ=>?_
 refine Jg (fun hA=>?_) fun hA=>?_
 ·refine Nz hA ?_;simp[xY]; omega
 refine Nz hA ?_;rcases dA (inR t.next 2 1000) with hB | hB
 ·refine Kz hB (fV t.next 2 1000) ?_;simp[xY,hB]
 refine Kz hB (fV t.next 2 1000) ?_;refine fB [2,3,4,5004] ?_;refine N ?_;refine aN [2,3,4,5004] (fun i:Nat=>[(20,.int .i64 i)]) (fun i=>i<=t.inodes.length/\∀ k,k<i->cD (fun _=>jD t) gO t.inodes k=true) (fun i=>t.inodes.length-i) (0) hP hQ (rfl) A8 ?_;rintro i ⟨hi,hk⟩ w1 hP1 hQ1;refine N1 ?_;refine Jf (fun h1=>?_) fun h1=>?_
 ·have aa:i<t.inodes.length:=by omega
  have bp:cD (fun _=>jD t) gO t.inodes i=false->xY t=false:=fun e=>yI (l8 aa e)
  have pa:=cm _ (lI aa);cases hN:dK (t.inodes[i]'aa) with
  | false=>
   refine Nz1 (aL h1) ?_;refine Kz1 hN (kQ (t.inodes[i]'aa) A7) ?_;rw[bp (dE aa (by simp[jD,hN]))]
  | true=>
   cases hV:decide (t.next<=(t.inodes[i]'aa).ino) with
   | true=>
    have hV':=of_decide_eq_true hV;refine Nz1 (aL h1) ?_;refine Kz1 (And.intro hN hV) (kQ (t.inodes[i]'aa) A7) ?_;rw[bp (dE aa (by simp[jD]; omega))]
   | false=>
    have hV':=of_decide_eq_false hV;cases i with
    | zero=>
     refine Nz1 (aL h1) ?_;refine Kz1 (And.intro hN hV) (kQ (t.inodes[0]'aa) A7) ?_;exact⟨1,rfl,⟨by omega,fC hk (by rw[dP aa]; simp[jD,hN]; omega)⟩,by omega⟩
    | succ m=>
     have w4:decide ((0:Int)<((m+1:Nat):Int))=true:=lC A7;have hm:=aL (show ((m:Nat):Int)<(t.inodes.length:Nat) by omega);cases hD:decide ((t.inodes[m+1]'aa).ino<=(t.inodes[m]'A7).ino) with
     | true=>
      have hD':=of_decide_eq_true hD;refine Nz1 (aL h1) ?_;refine Kz1 (And.intro hN (And.intro hV (And.intro w4 (And.intro aV (And.intro hm (And.intro (aL h1) hD)))))) (kQ (t.inodes[m+1]'aa) A7) ?_;rw[bp (by rw[aY aa,gO]; simp; omega)]
     | false=>
      have hD':=of_decide_eq_false hD;refine Nz1 (aL h1) ?_;refine Kz1 (And.intro hN (And.intro hV (And.intro w4 (And.intro aV (And.intro hm (And.intro (aL h1) hD)))))) (kQ (t.inodes[m+1]'aa) A7) ?_;exact⟨m+1+1,rfl,⟨by omega,fC hk (by rw[aY aa,gO]; simp[jD,hN]; omega)⟩,by omega⟩
 ·obtain rfl:i=t.inodes.length:=by omega
  have hE:l9 t=true:=f7 fun k h=>hk k h
  have key:xY t=qA t:=by
   simp[xY,hB,hE,lC (show t.inodes.length<=30 by omega)]
  have hI:=kS t 1 h;refine N1 ?_;cases e:aU t 1 with
  | none=>
   have hr:qA t=false:=by rw[qA,e]
   rw[e] at hI;refine K hI ?_;rw[key,hr]
  | some x=>
   have hr:qA t=decide (x.kind=2):=by rw[qA,e]
   rw[aeo,e] at hI;refine K hI ?_;rw[key,hr]; rfl
theorem aan {α:Type} (f g:α->Nat) (l:List α) (h:∀ x ∈ l,f x<=g x):(l.map f).sum<=(l.map g).sum:=by
 induction l with
 | nil=>simp
 | cons x l ih=>
  have:=ih fun y hy=>h y B8
  have:=h x A8;simp only[lR,lK2]; omega
def lkF (n:Int) (x:Inode):Nat:=(abR x).count n
theorem ach (t:Tab) (n:Int):nB t n=(t.inodes.map (lkF n)).sum:=rfl
theorem aqh (n:Int) (x:Inode):lkF n x<=x.sz:=by
 have h1:lkF n x<=(abR x).length:=List.count_le_length;have h2:(abR x).length<=x.ents.length:=by
  unfold abR; split <;> simp
 have h3:x.ents.length<=x.sz:=by simp only[Inode.sz,szM]; omega
 omega
theorem mC (t:Tab) (n:Int) (i:Nat):((t.inodes.take i).map (lkF n)).sum<=t.sz:=by
 have h1:=aX (lkF n) t.inodes i;have h2:=aan (lkF n) Inode.sz t.inodes fun x _=>aqh n x
 have h3:t.sz=t.inodes.length+(t.inodes.map Inode.sz).sum:=rfl;omega
theorem ake {n:Int} {x:Inode} (h:x.kind=2):lkF n x=(x.ents.map Ent.ino).count n:=by rw[lkF,abR,lK h]
theorem anH {n:Int} {x:Inode} (h:¬ x.kind=2):lkF n x=0:=by rw[lkF,abR,lO h]; rfl
theorem afS {l:List Ent} {k:Nat} (h:k<l.length) (n:Int):((l.take (k+1)).map Ent.ino).count n=((l.take k).map Ent.ino).count n+if l[k].ino=n then 1 else 0:=by
 rw[List.take_add_one,lF h,lP2,List.count_append];simp only[Option.toList_some,lR,lW2];rw[List.count_singleton];simp
theorem vR (l:List Ent) (k:Nat) (n:Int):((l.take k).map Ent.ino).count n<=l.length:=by
 have h1:((l.take k).map Ent.ino).count n<=((l.take k).map Ent.ino).length:=List.count_le_length;simp only[lU1,lH] at h1;omega
theorem ahv (t:Tab) (n:Int) (h:t.sz<2^40):Sp 68 [t.x,.int .i64 n] (.int .i64 (nB t n:Nat)) U2:=by
 obtain⟨hl,cm⟩:=bK h;refine Vw adE [] 247 [] fun w hP hQ=>?_
 refine fB [7] ?_;refine N ?_;refine aN [7] (fun s:Nat × Nat=>[(5,.int .i64 (s.1:Nat)),(6,.int .i64 (s.2:Nat))]) (fun s=>s.2<=t.inodes.length/\s.1=((t.inodes.take s.2).map (lkF n)).sum) (fun s=>t.inodes.length-s.2) ((0,0)) hP hQ (rfl) A8 ?_;rintro⟨c,i⟩ ⟨hi,hc⟩ w1 hP1 hQ1;refine N1 ?_;simp only at hi hc;refine Jf (fun h1=>?_) fun h1=>?_
 ·have aa:i<t.inodes.length:=by omega
  have hs:=cR (lkF n) t.inodes i aa;have hb:=mC t n i;have hx:=cm _ (lI aa);have fk:(t.inodes[i]'aa).ents.length<2^40:=(dQ hx).2.1;refine N1 ?_;by_cases bd:(t.inodes[i]'aa).kind=2
  ·have hf:=ake (n:=n) bd;refine fB [] ?_;refine N1 ?_;refine aN [] (fun s:Nat × Nat=>[(5,.int .i64 (s.1:Nat)),(7,.int .i64 (s.2:Nat))]) (fun s=>s.2<=(t.inodes[i]'aa).ents.length/\s.1=c+(((t.inodes[i]'aa).ents.take s.2).map Ent.ino).count n) (fun s=>(t.inodes[i]'aa).ents.length-s.2) ((c,0)) hP1 hQ1 (rfl) A8 ?_;rintro⟨d,k⟩ ⟨hk,hd⟩ w2 hP2 hQ2;refine N2 ?_;simp only at hk hd;have bk:=vR (t.inodes[i]'aa).ents k n;refine Nz2 (aL h1) ?_;refine Jg (fun g1=>?_) fun g1=>?_
   ·have ib:=afS (l:=(t.inodes[i]'aa).ents) (k:=k) A7 n;refine Nz2 (And.intro g1 (And.intro (aL h1) bd)) ?_;refine Nz2 (And.intro (aL h1) (aL g1)) ?_;refine Jf (fun g2=>?_) fun g2=>?_
    ·rw[lK g2] at ib;refine N2 ?_;exact⟨(d+1,k+1),rfl,⟨by simp only; omega,by simp only; omega⟩,by simp only; omega⟩
    ·rw[lO g2] at ib;refine N2 ?_;exact⟨(d,k+1),rfl,⟨by simp only; omega,by simp only; omega⟩,by simp only; omega⟩
   ·obtain rfl:k=(t.inodes[i]'aa).ents.length:=by omega
    rw[lX] at hd;refine Nz2 g1 ?_;exact⟨(d,i+1),rfl,⟨by simp only; omega,by simp only; omega⟩,by simp only; omega⟩
  ·have hf:=anH (n:=n) bd;refine fB [] ?_;refine N1 ?_;refine aN [] (fun s:Nat × Nat=>[(5,.int .i64 (s.1:Nat)),(7,.int .i64 (s.2:Nat))]) (fun s=>s=(c,0)) (fun s=>0) ((c,0)) hP1 hQ1 (rfl) (rfl) ?_;rintro⟨d,k⟩ hk w2 hP2 hQ2;refine N2 ?_;obtain⟨rfl,rfl⟩:=Prod.mk.inj hk;refine Nz2 (aL h1) ?_;refine Jg (fun g1=>?_) fun g1=>?_
   ·refine Nz2 (And.intro g1 (And.intro (aL h1) bd)) ?_;exact⟨(d,i+1),rfl,⟨by simp only; omega,by simp only; omega⟩,by simp only; omega⟩
   ·refine Nz2 g1 ?_;exact⟨(d,i+1),rfl,⟨by simp only; omega,by simp only; omega⟩,by simp only; omega⟩
 ·obtain rfl:i=t.inodes.length:=by omega
  rw[lX,<-ach] at hc;subst hc;exact N1 trivial
theorem ahw (t:Tab) (n:Int) (h:t.sz<2^40):Sp 55 [t.x,.int .i64 n] (.int .i64 (nB t n:Nat)) U2:=by
 obtain⟨hl,cm⟩:=bK h;refine Vw adB [] 14695095 [] fun w hP hQ=>?_
 refine fB [7,9,21,22,23,5007,5009] ?_;refine N ?_;refine aN [7,9,21,22,23,5007,5009] (fun s:Nat × Nat=>[(5,.int .i64 (s.1:Nat)),(13,.int .i64 (s.2:Nat))]) (fun s=>s.2<=t.inodes.length/\s.1=((t.inodes.take s.2).map (lkF n)).sum) (fun s=>t.inodes.length-s.2) ((0,0)) hP hQ (rfl) A8 ?_;rintro⟨c,i⟩ ⟨hi,hc⟩ w1 hP1 hQ1;refine N1 ?_;simp only at hi hc;refine Jf (fun h1=>?_) fun h1=>?_
 ·have aa:i<t.inodes.length:=by omega
  have hs:=cR (lkF n) t.inodes i aa;have hb:=mC t n i;have hx:=cm _ (lI aa);refine Nz1 (aL h1) ?_;generalize t.inodes[i]'aa=x at *;have fk:x.ents.length<2^40:=(dQ hx).2.1;refine Jf (fun bd=>?_) fun bd=>?_
  ·have hf:=ake (n:=n) bd;refine N1 ?_;refine fB [9,5009] ?_;refine N1 ?_;refine aN [9,5009] (fun s:Nat × Nat=>[(5,.int .i64 (s.1:Nat)),(23,.int .i64 (s.2:Nat))]) (fun s=>s.2<=x.ents.length/\s.1=c+((x.ents.take s.2).map Ent.ino).count n) (fun s=>x.ents.length-s.2) ((c,0)) hP1 hQ1 (rfl) A8 ?_;rintro⟨d,k⟩ ⟨hk,hd⟩ w2 hP2 hQ2;refine N2 ?_;simp only at hk hd;have bk:=vR x.ents k n;refine Jf (fun g1=>?_) fun g1=>?_
   ·have ib:=afS (l:=x.ents) (k:=k) A7 n;refine Nz2 (aL g1) ?_;refine Jf (fun g2=>?_) fun g2=>?_
    ·rw[lK g2] at ib;refine N2 ?_;exact⟨(d+1,k+1),rfl,⟨by simp only; omega,by simp only; omega⟩,by simp only; omega⟩
    ·rw[lO g2] at ib;refine N2 ?_;exact⟨(d,k+1),rfl,⟨by simp only; omega,by simp only; omega⟩,by simp only; omega⟩
   ·obtain rfl:k=x.ents.length:=by omega
    rw[lX] at hd;refine N2 ?_;exact⟨(d,i+1),rfl,⟨by simp only; omega,by simp only; omega⟩,by simp only; omega⟩
  ·have hf:=anH (n:=n) bd;refine N1 ?_;exact⟨(c,i+1),rfl,⟨by simp only; omega,by simp only; omega⟩,by simp only; omega⟩
 ·obtain rfl:i=t.inodes.length:=by omega
  rw[lX,<-ach] at hc;subst hc;exact N1 trivial
def atF (a:Attr):Nat:=a.name.length+a.val.length
def usF (x:Inode):Nat:=32+x.data.length+(x.attrs.map atF).sum
theorem aci (t:Tab):dD t=(t.inodes.map usF).sum:=rfl
theorem akf (x:Inode):(x.attrs.map atF).sum+x.data.length<=x.sz:=by
 have h2:x.sz=x.data.length+szM Ent.sz x.ents+szM Attr.sz x.attrs:=rfl;have h3:szM Attr.sz x.attrs=x.attrs.length+(x.attrs.map Attr.sz).sum:=rfl;have h4:(x.attrs.map atF).sum=(x.attrs.map Attr.sz).sum:=rfl;omega
theorem vS (t:Tab) (i:Nat):((t.inodes.take i).map usF).sum<=33*t.sz:=by
 have h1:=aX usF t.inodes i;have h3:t.sz=t.inodes.length+(t.inodes.map Inode.sz).sum:=rfl;have h4:(t.inodes.map usF).sum<=32*t.inodes.length+(t.inodes.map Inode.sz).sum:=by
  generalize t.inodes=l;induction l with
  | nil=>simp
  | cons x l ih=>
   have:=akf x;simp only[lR,lK2,lZ];have e:usF x=32+x.data.length+(x.attrs.map atF).sum:=rfl;omega
 omega
theorem n9 (t:Tab) (h:t.sz<2^40):Sp 17 [t.x] (.int .i64 (dD t:Nat)) U1:=by
 obtain⟨hl,cm⟩:=bK h;refine Vw adx [] 127 [] fun w hP hQ=>?_
 refine fB [5,6,5005] ?_;refine N ?_;refine aN [5,6,5005] (fun s:Nat × Nat=>[(3,.int .i64 (s.1:Nat)),(4,.int .i64 (s.2:Nat))]) (fun s=>s.2<=t.inodes.length/\s.1=((t.inodes.take s.2).map usF).sum) (fun s=>t.inodes.length-s.2) ((0,0)) hP hQ (rfl) A8 ?_;rintro⟨c,i⟩ ⟨hi,hc⟩ w1 hP1 hQ1;refine N1 ?_;simp only at hi hc;refine Jf (fun h1=>?_) fun h1=>?_
 ·have aa:i<t.inodes.length:=by omega
  have hs:=cR usF t.inodes i aa;have hb:=vS t i;have hx:=cm _ (lI aa);have hae:=akf (t.inodes[i]'aa);have hue:usF (t.inodes[i]'aa)=32+(t.inodes[i]'aa).data.length+((t.inodes[i]'aa).attrs.map atF).sum:=rfl;refine Nz1 (aL h1) ?_;generalize t.inodes[i]'aa=x at *;have fk:x.attrs.length<2^40:=(dQ hx).2.2;refine fB [] ?_;refine N1 ?_;refine aN [] (fun s:Nat × Nat=>[(3,.int .i64 (s.1:Nat)),(6,.int .i64 (s.2:Nat))]) (fun s=>s.2<=x.attrs.length/\s.1=c+32+x.data.length+((x.attrs.take s.2).map atF).sum) (fun s=>x.attrs.length-s.2) ((c+32+x.data.length,0)) hP1 hQ1 (by simp only[lY2]; rfl) A8 ?_;rintro⟨d,k⟩ ⟨hk,hd⟩ w2 hP2 hQ2;refine N2 ?_;simp only at hk hd;have hal:=aX atF x.attrs k;refine Jf (fun g1=>?_) fun g1=>?_
  ·have ib:=cR atF x.attrs k A7;have hal':=aX atF x.attrs (k+1);have hae':atF (x.attrs[k]'A7)=(x.attrs[k]'A7).name.length+(x.attrs[k]'A7).val.length:=rfl;refine Nz2 (aL g1) ?_;exact⟨(d+(x.attrs[k]'A7).name.length+(x.attrs[k]'A7).val.length,k+1),by simp,⟨by simp only; omega,by simp only; omega⟩,by simp only; omega⟩
  ·obtain rfl:k=x.attrs.length:=by omega
   rw[lX] at hd;refine N2 ?_;exact⟨(d,i+1),rfl,⟨by simp only; omega,by simp only; omega⟩,by simp only; omega⟩
 ·obtain rfl:i=t.inodes.length:=by omega
  rw[lX,<-aci] at hc;subst hc;exact N1 trivial
theorem oA (t:Tab) (h:t.sz<2^40):Sp 16 [t.x] (.int .i64 (dD t:Nat)) U1:=by
 obtain⟨hl,cm⟩:=bK h;refine Vw adw [] 29363887 [] fun w hP hQ=>?_
 refine fB [5,7,22,23,24,5005,5007] ?_;refine N ?_;refine aN [5,7,22,23,24,5005,5007] (fun s:Nat × Nat=>[(3,.int .i64 (s.1:Nat)),(11,.int .i64 (s.2:Nat))]) (fun s=>s.2<=t.inodes.length/\s.1=((t.inodes.take s.2).map usF).sum) (fun s=>t.inodes.length-s.2) ((0,0)) hP hQ (rfl) A8 ?_;rintro⟨c,i⟩ ⟨hi,hc⟩ w1 hP1 hQ1;refine N1 ?_;simp only at hi hc;refine Jf (fun h1=>?_) fun h1=>?_
 ·have aa:i<t.inodes.length:=by omega
  have hs:=cR usF t.inodes i aa;have hb:=vS t i;have hx:=cm _ (lI aa);have hae:=akf (t.inodes[i]'aa);have hue:usF (t.inodes[i]'aa)=32+(t.inodes[i]'aa).data.length+((t.inodes[i]'aa).attrs.map atF).sum:=rfl;refine Nz1 (aL h1) ?_;generalize t.inodes[i]'aa=x at *;have fk:x.attrs.length<2^40:=(dQ hx).2.2;refine fB [7,5007] ?_;refine N1 ?_;refine aN [7,5007] (fun s:Nat × Nat=>[(3,.int .i64 (s.1:Nat)),(24,.int .i64 (s.2:Nat))]) (fun s=>s.2<=x.attrs.length/\s.1=c+(32+x.data.length)+((x.attrs.take s.2).map atF).sum) (fun s=>x.attrs.length-s.2) ((c+(32+x.data.length),0)) hP1 hQ1 (by simp only[lY2]; rfl) A8 ?_;rintro⟨d,k⟩ ⟨hk,hd⟩ w2 hP2 hQ2;refine N2 ?_;simp only at hk hd;have hal:=aX atF x.attrs k;refine Jf (fun g1=>?_) fun g1=>?_
  ·have ib:=cR atF x.attrs k A7;have hal':=aX atF x.attrs (k+1);have hae':atF (x.attrs[k]'A7)=(x.attrs[k]'A7).name.length+(x.attrs[k]'A7).val.length:=rfl;refine Nz2 (aL g1) ?_;exact⟨(d+((x.attrs[k]'A7).name.length+(x.attrs[k]'A7).val.length),k+1),by simp,⟨by simp only; omega,by simp only; omega⟩,by simp only; omega⟩
  ·obtain rfl:k=x.attrs.length:=by omega
   rw[lX] at hd;refine N2 ?_;exact⟨(d,i+1),rfl,⟨by simp only; omega,by simp only; omega⟩,by simp only; omega⟩
 ·obtain rfl:i=t.inodes.length:=by omega
  rw[lX,<-aci] at hc;subst hc;exact N1 trivial
def gB (n:Int):List TV:=[.int .i64 n]
theorem aoY (l:List Int):eV (l.map gB)=true:=vQ gB (fun _=>rfl) l
theorem aqi {l:List Int} {n:Int} (hk:∀ k,(h:k<l.length)->decide (l[k]=n)=false):n ∉ l:=by
 intro h;obtain⟨k,hk',e⟩:=lM1 h;have:=hk k hk';simp[e] at this
theorem afT (l:List Int) (n:Int) (hl:l.length<2^48):Sp 201 [.ext 1 (l.map gB),.int .i64 n] (.bool (decide (n ∈ l))) U2:=by
 refine Vw ajr [] 51 [] fun w hP hQ=>?_
 refine fB [4] ?_;refine N ?_;refine aN [4] (fun i:Nat=>[(5,.int .i64 i)]) (fun i=>i<=l.length/\∀ k,k<i->(h:k<l.length)->decide (l[k]=n)=false) (fun i=>l.length-i) (0) hP hQ (rfl) A8 ?_;rintro i ⟨hi,hk⟩ w1 hP1 hQ1;refine N1 ?_;refine Jf (fun h1=>?_) fun h1=>?_
 ·simp +decide (maxSteps:=9^9) (disch:=omega) only[↓SB0,SX,seval,hQ,hQ1,aL h1,gB];refine Jf (fun h2=>?_) fun h2=>?_
  ·refine N1 ?_;rw[lC (by rw[<-h2]; exact lI _)]
  ·refine N1 ?_;exact⟨i+1,rfl,⟨by omega,iL (p:=fun x:Int=>decide (x=n)) hk A7 (lB h2)⟩,by omega⟩
 ·obtain rfl:i=l.length:=by omega
  refine N1 ?_;rw[lB (aqi fun k h=>hk k h h)]
theorem akg {l:List Int} (hu:Up l) {n:Int} {k:Nat} (hk:k<=l.length) (hn:n ∉ l) (h1:∀ j,k<=j->(h:j<l.length)->n<l[j]) (h2:k=0\/∃ h:k-1<l.length,l[k-1]<=n) :
  ajG l n=l.take k++n::l.drop k:=by
 have hlow:∀ j,j<k->(h:j<l.length)->l[j]<n:=by
  intro j hj ea;rcases h2 with h2 | ⟨h2,h3⟩
  ·omega
  ·have am:l[j]≠n:=fun e=>hn (by rw[<-e]; exact lI _)
   by_cases e:j=k-1
   ·subst e; omega
   ·have:=lN2.1 hu j (k-1) ea h2 A7;omega
 have e1:l.takeWhile (·<n)=l.take k:=by
  have:l=l.take k++l.drop k:=(lJ k l).symm;rw[this,List.takeWhile_append_of_pos,lJ]
  ·have:(l.drop k).takeWhile (fun x=>decide (x<n))=[]:=by
    cases hd:l.drop k with
    | nil=>rfl
    | cons x r=>
     rw[List.takeWhile_cons_of_neg];have cg:k<l.length:=by
      have:=congrArg List.length hd;simp at this; omega
     have hx:x=l[k]:=by
      have:=congrArg (fun r=>r[0]?) hd;simp[cg] at this;exact this.symm
     have:=h1 k (lE1 _) cg;simp; omega
   rw[this]; simp
  ·intro x hx;obtain⟨j,hj,rfl⟩:=lM1 hx;simp only[lH] at hj;rw[lG5];have:=hlow j A7 A7;simpa using this
 have e2:l.dropWhile (·<n)=l.drop k:=by
  have h:=List.takeWhile_append_dropWhile (p:=fun x=>decide (x<n)) (l:=l);rw[e1] at h;exact List.append_cancel_left (h.trans (lJ k l).symm)
 rw[ajG,lO hn,e1,e2]
theorem afU {l:List Int} {k:Nat} {h:Int} (hk:k<l.length):((l.take (k+1)++h::l.drop (k+1)))[k]?=some l[k]:=by
 rw[lS1 B0,lT,lK A7,lF hk]
theorem amR {l:List Int} {k:Nat} {h:Int} (hk:k<=l.length):(l.take k++h::l.drop k).length=l.length+1:=by simp; omega
theorem afV {l:List Int} {k:Nat} (h x:Int) (hk:k<=l.length):(l.take k++h::l.drop k).set k x=l.take k++x::l.drop k:=by
 have:(l.take k).length=k:=by simp; omega
 rw[List.set_append_right _ _ A7];congr 1;rw[this,lL5]; rfl
theorem akh {l:List Int} {k:Nat} (hk:k<l.length):l.take (k+1)++l[k]::l.drop (k+1)=l.take k++l[k]::l.drop k:=by
 rw[lV hk,lM2];congr 1;rw[<-lE2 hk]; rfl
theorem aki (L:List Int) (k:Nat) (n:Int):(L.map gB).modify k (fun r=>TV.int .i64 n::r.drop 1)=(L.set k n).map gB:=by
 apply lB2;intro j;rw[lL1,lP1,lP1,lV3];by_cases e:k=j
 ·subst e;by_cases hk:k<L.length
  ·simp[hk,gB]
  ·simp[hk]
 ·simp[e]
theorem aoZ (l:List Int) (n:Int):l.map gB++[[TV.int .i64 n]]=(l.take l.length++n::l.drop l.length).map gB:=by simp[gB]
theorem amS (l:List Int) (n:Int) (hu:Up l) (hl:l.length<2^40):Sp 137 [.ext 1 (l.map gB),.int .i64 n] (.ext 1 ((ajG l n).map gB)) U2:=by
 by_cases hn:n ∈ l
 ·have hH:=afT l n A7;rw[lC hn] at hH;rw[ajG,lK hn];refine Vw abw [] 115 [] fun w hP hQ=>?_
  exact K hH trivial
 ·refine abo (ret:=.own 1 ((ajG l n).map gB)) ?_;have hH:=afT l n A7;rw[lB hn] at hH;refine Vw abw [] 115 [] fun w hP hQ=>?_
  refine K hH ?_;simp +decide (maxSteps:=9^9) (disch:=omega) only[↓SB0,SX,seval,hQ,aoY,lU,aV];rw[aoZ];refine fB [] ?_;refine N ?_;refine aN [] (fun s:Nat × Int=>[(5,.own 1 ((l.take s.1++s.2::l.drop s.1).map gB)),(6,.int .i64 (s.1:Nat))]) (fun s=>s.1<=l.length/\∀ j,s.1<=j->(h:j<l.length)->n<l[j]) (fun s=>s.1) ((l.length,n)) hP hQ (rfl) B0 ?_;rintro⟨k,x⟩ ⟨hk,hj⟩ w1 hP1 hQ1;refine N1 ?_;simp only at hk hj;have ac:=amR (h:=x) hk;cases k with
  | zero=>
   refine N1 ?_;rw[akg hu hk hn hj (.inl rfl)];simp[gB]
  | succ k=>
   have cg:k<l.length:=by omega
   have w4:decide ((0:Int)<((k+1:Nat):Int))=true:=lC A7;simp +decide (maxSteps:=9^9) (disch:=omega) only[↓SB0,SX,seval,hQ,hQ1,w4,ac,aV,afU (h:=x) cg,gB];refine Jf (fun g=>?_) fun g=>?_
   ·simp +decide (maxSteps:=9^9) (disch:=omega) only[↓SB0,SX,seval,hQ,hQ1,ac,aV,afU (h:=x) cg,gB];exact⟨(k,l[k]),by simp only[aki,afV _ _ hk,akh cg],⟨by simp only; omega,fun j pb pc=>by
     by_cases e:j=k
     ·subst e; exact g
     ·exact hj j (by simp only at pb; omega) pc⟩,by simp only; omega⟩
   ·simp +decide (maxSteps:=9^9) (disch:=omega) only[↓SB0,SX,seval,hQ,hQ1,ac,gB];rw[akg hu hk hn hj (.inr ⟨by simpa using cg,by simp only[Nat.add_sub_cancel]; omega⟩),aki,afV _ _ hk]
theorem yJ {α β:Type} (f:β->α->β) (l:List α) (a:β) (i:Nat) (h:i<l.length):(l.take (i+1)).foldl f a=f ((l.take i).foldl f a) l[i]:=by
 rw[lV h,List.foldl_append]; rfl
theorem aao {t:Tab} {j:Int}:(nbT t j).isSome=(bM t j).isSome:=by
 rw[nbT];cases e:bM t j with
 | none=>rw[yG e]; rfl
 | some k=>rw[qF e]; rfl
theorem amT {t:Tab} {j:Int} {k:Nat} (out:List Int) (h:bM t j=some k):afq (nbT t) out j=ajG out j:=by
 rw[afq,aao,h]; rfl
theorem ao0 {t:Tab} {j:Int} (out:List Int) (h:bM t j=none):afq (nbT t) out j=out:=by
 rw[afq,aao,h]; rfl
structure Nums (t:Tab) (l:List Int):Prop where
 up:Up l
 some':∀ x ∈ l,(nbT t x).isSome=true
theorem Nums.len {t:Tab} {l:List Int} (h:Nums t l):l.length<=t.inodes.length:=aaf t l (aae h.up) h.some'
theorem Nums.addJs {t:Tab} {l:List Int} (h:Nums t l) (js:List Int):Nums t (js.foldl (afq (nbT t)) l):=
 ⟨afs (nbT t) js l h.up,fun x hx=>by
  rcases(abN (nbT t) js l x).1 hx with h' | h'
  ·exact h.some' x h'
  ·exact h'.2⟩
theorem Nums.addIs {t:Tab} {l:List Int} (h:Nums t l) (is:List Int):Nums t (is.foldl (afr (nbT t)) l):=
 ⟨aft (nbT t) is l h.up,fun x hx=>by
  rcases(abO (nbT t) is l x).1 hx with h' | h'
  ·exact h.some' x h'
  ·exact h'.2⟩
theorem akj {t:Tab} {i:Int} (out:List Int) (h:aU t i=none):afr (nbT t) out i=out:=by rw[afr,nbT,h]; rfl
theorem akk {t:Tab} {i:Int} {x:Inode} (out:List Int) (h:aU t i=some x) (hk:¬ x.kind=2):afr (nbT t) out i=out:=by rw[afr,nbT,h]; simp[abR,hk]
theorem amU {t:Tab} {i:Int} {x:Inode} (out:List Int) (h:aU t i=some x) (hk:x.kind=2):afr (nbT t) out i=(x.ents.map Ent.ino).foldl (afq (nbT t)) out:=by rw[afr,nbT,h]; simp[abR,hk]
theorem ahx (f:List Int->Int->List Int) (l:List Ent) (a:List Int) (k:Nat) (h:k<l.length):((l.take (k+1)).map Ent.ino).foldl f a=f (((l.take k).map Ent.ino).foldl f a) l[k].ino:=by
 have:=yJ f (l.map Ent.ino) a k (by simpa using h);rw[<-lL3,<-lL3] at this;rw[this]; simp
theorem acj (t:Tab) (l:List Int) (h:t.sz<2^40) (hn:Nums t l):Sp 73 [t.x,.ext 1 (l.map gB)] (.ext 1 ((ajH (nbT t) l).map gB)) U2:=by
 obtain⟨hl,cm⟩:=bK h;have hll:=hn.len;refine Vw agO [] 1015 [] fun w hP hQ=>?_
 refine fB [7,8,9,5007] ?_;refine N ?_;refine aN [7,8,9,5007] (fun i:Nat=>[(5,.ext 1 (((l.take i).foldl (afr (nbT t)) l).map gB)),(6,.int .i64 i)]) (fun i=>i<=l.length) (fun i=>l.length-i) (0) hP hQ (rfl) A8 ?_;rintro i hi w1 hP1 hQ1;refine N1 ?_;refine Jf (fun h1=>?_) fun h1=>?_
 ·have aa:i<l.length:=by omega
  have hI:=yH t (l[i]'aa) h;have jn:=yJ (afr (nbT t)) l l i aa;have bp:=hn.addIs (l.take i);generalize hO:(l.take i).foldl (afr (nbT t)) l=out at *;cases e:aU t (l[i]'aa) with
  | none=>
   rw[aeo,e] at hI;rw[akj _ e] at jn;simp +decide (maxSteps:=9^9) (disch:=omega) only[↓SB0,SX,seval,hQ,hQ1,aL h1,gB];refine K1 hI ?_;refine fB [] ?_;refine N1 ?_;refine aN [] (fun k:Nat=>[(5,.ext 1 (out.map gB)),(9,.int .i64 k)]) (fun k=>k=0) (fun k=>0) (0) hP1 hQ1 (rfl) (rfl) ?_;rintro k hk w2 hP2 hQ2;refine N2 ?_;subst hk;refine N2 ?_;exact⟨i+1,by simp only[jn]; rfl,by omega,by omega⟩
  | some x=>
   have hx:=cm x (bH e).1;have fk:x.ents.length<2^40:=(dQ hx).2.1;rw[aeo,e] at hI;simp only[lG2,Option.isSome_some] at hI;by_cases bd:x.kind=2
   ·rw[amU _ e bd] at jn;simp +decide (maxSteps:=9^9) (disch:=omega) only[↓SB0,SX,seval,hQ,hQ1,aL h1,gB];refine K1 hI ?_;refine fB [] ?_;refine N1 ?_;refine aN [] (fun k:Nat=>[(5,.ext 1 ((((x.ents.take k).map Ent.ino).foldl (afq (nbT t)) out).map gB)),(9,.int .i64 k)]) (fun k=>k<=x.ents.length) (fun k=>x.ents.length-k) (0) hP1 hQ1 (rfl) A8 ?_;rintro k hk w2 hP2 hQ2;refine N2 ?_;have pd:=bp.addJs ((x.ents.take k).map Ent.ino);have gw:=pd.len;refine Jg (fun g1=>?_) fun g1=>?_
    ·have cg:k<x.ents.length:=by omega
     have ic:=ahx (afq (nbT t)) x.ents out k cg;generalize ((x.ents.take k).map Ent.ino).foldl (afq (nbT t)) out=o2 at *;have hA:=o5 t (x.ents[k]'cg).ino A7;refine Nz2 (And.intro g1 bd) ?_;cases e2:bM t (x.ents[k]'cg).ino with
     | none=>
      rw[e2] at hA;rw[ao0 _ e2] at ic;refine Nz2 (aL g1) ?_;refine K2 hA ?_;exact⟨k+1,by simp only[ic,bd]; rfl,by omega,by omega⟩
     | some m=>
      rw[e2,show gU (some m)=(m:Int) from rfl] at hA;rw[amT _ e2] at ic;refine Nz2 (aL g1) ?_;refine K2 hA ?_;refine Jf (fun g3=>?_) fun g3=>?_
      ·refine Nz2 (aL g1) ?_;refine Ke2 (amS o2 (x.ents[k]'cg).ino pd.up A7) ?_;exact⟨k+1,by simp only[ic,bd]; rfl,by omega,by omega⟩
      ·exfalso; omega
    ·obtain rfl:k=x.ents.length:=by omega
     rw[lX] at *;refine Nz2 g1 ?_;exact⟨i+1,by simp only[jn]; rfl,by omega,by omega⟩
   ·rw[akk _ e bd] at jn;simp +decide (maxSteps:=9^9) (disch:=omega) only[↓SB0,SX,seval,hQ,hQ1,aL h1,gB];refine K1 hI ?_;refine fB [] ?_;refine N1 ?_;refine aN [] (fun k:Nat=>[(5,.ext 1 (out.map gB)),(9,.int .i64 k)]) (fun k=>k=0) (fun k=>0) (0) hP1 hQ1 (rfl) (rfl) ?_;rintro k hk w2 hP2 hQ2;refine N2 ?_;subst hk;refine N2 ?_;refine Jg (fun g1=>?_) fun g1=>?_
    ·refine Nz2 (And.intro g1 bd) ?_;exact⟨i+1,by simp only[jn]; rfl,by omega,by omega⟩
    ·refine Nz2 g1 ?_;exact⟨i+1,by simp only[jn]; rfl,by omega,by omega⟩
 ·obtain rfl:i=l.length:=by omega
  simp +decide (maxSteps:=9^9) (disch:=omega) only[↓SB0,SX,seval,hQ,hQ1,lX];rfl
def rdV (t:Tab):Nat->AV
 | 0=>.own 1 [gB 1]
 | i+1=>.ext 1 ((cO (nbT t) (i+1)).map gB)
theorem ahy (t:Tab) (h:t.sz<2^40):Sp 20 [t.x] (.ext 1 ((gN t).map gB)) U1:=by
 obtain⟨hl,cm⟩:=bK h;have hA:=o5 t 1 A7;cases e:bM t 1 with
 | none=>
  have hr:gN t=[]:=by rw[gN,p3,lO]; rw[aao,e]; simp
  rw[e] at hA;rw[hr];refine abo (ret:=.own 1 []) ?_;refine Vw uW [] 31 [] fun w hP hQ=>?_
  exact K hA trivial
 | some m=>
  have hm:=r7 e;have h1s:(nbT t 1).isSome=true:=by rw[aao,e]; rfl
  have hr:gN t=cO (nbT t) t.inodes.length:=by rw[gN,p3,lK h1s]
  rw[e,show gU (some m)=(m:Int) from rfl] at hA;rw[hr];have pe:∀ i,Nums t (cO (nbT t) i):=fun i=>⟨iW _ i,fun x hx=>rD _ (nA _ h1s i x hx)⟩
  refine Vw uW [(73,[.b,.m],[])] 31 [] fun w hP hQ=>?_
  refine K hA ?_;refine Jf (fun g0=>?_) fun g0=>?_
  ·exfalso; omega
  refine N ?_;refine fB [] ?_;refine N ?_;refine aN [] (fun i:Nat=>[(3,rdV t i),(4,.int .i64 i)]) (fun i=>i<=t.inodes.length) (fun i=>t.inodes.length-i) (0) hP hQ (rfl) A8 ?_;rintro i hi w1 hP1 hQ1;refine N1 ?_;cases i with
  | zero=>
   have hN:=agH (acj t [1] h (pe 0));simp only[rdV];refine Jf (fun h1=>?_) fun h1=>?_
   ·refine N1 ?_;refine Ke1 hN ?_;exact⟨1,rfl,by omega,by omega⟩
   ·exfalso; omega
  | succ i=>
   have hN:=acj t (cO (nbT t) (i+1)) h (pe (i+1));simp only[rdV];refine Jf (fun h1=>?_) fun h1=>?_
   ·refine N1 ?_;refine Ke1 hN ?_;exact⟨i+1+1,rfl,by omega,by omega⟩
   ·have he:i+1=t.inodes.length:=by omega
    refine N1 ?_;rw[he]
section
open Go.Proofs Go.Shelf
def sM:Go.Shelf.Ren:=⟨fun | 189=>72 | 125=>135 | 257=>134 | 128=>198 | 129=>199 | 294=>189 | 295=>190 | 296=>191 | 297=>192 | 298=>193 | 299=>194 | 216=>195 | 300=>196 | 301=>197 | 328=>244 | 329=>245 | 330=>246 | 331=>247 | 332=>248 | 215=>249 | 343=>284 | n=>n,
 fun | 28=>34 | 3=>3 | 46=>157 | 0=>0 | 51=>200 | 53=>202 | 4=>4 | 183=>192 | 182=>191 | 131=>197 | 5=>5 | 9=>9 | 218=>220 | 222=>224 | 228=>246 | 229=>149 | n=>n,
 fun | n=>n⟩
theorem r8:Lays.n189 Tryz.prog sM where
 mixed:=by kernel_rfl
 f125:=Tryz.func135.trans (congrArg some (by kernel_rfl))
 f128:=Tryz.func198.trans (congrArg some (by kernel_rfl))
 f129:=Tryz.func199.trans (congrArg some (by kernel_rfl))
 f189:=Tryz.func72.trans (congrArg some (by kernel_rfl))
 f215:=Tryz.func249.trans (congrArg some (by kernel_rfl))
 f216:=Tryz.func195.trans (congrArg some (by kernel_rfl))
 f257:=Tryz.func134.trans (congrArg some (by kernel_rfl))
 f294:=Tryz.func189.trans (congrArg some (by kernel_rfl))
 f295:=Tryz.func190.trans (congrArg some (by kernel_rfl))
 f296:=Tryz.func191.trans (congrArg some (by kernel_rfl))
 f297:=Tryz.func192.trans (congrArg some (by kernel_rfl))
 f298:=Tryz.func193.trans (congrArg some (by kernel_rfl))
 f299:=Tryz.func194.trans (congrArg some (by kernel_rfl))
 f300:=Tryz.func196.trans (congrArg some (by kernel_rfl))
 f301:=Tryz.func197.trans (congrArg some (by kernel_rfl))
 f328:=Tryz.func244.trans (congrArg some (by kernel_rfl))
 f329:=Tryz.func245.trans (congrArg some (by kernel_rfl))
 f330:=Tryz.func246.trans (congrArg some (by kernel_rfl))
 f331:=Tryz.func247.trans (congrArg some (by kernel_rfl))
 f332:=Tryz.func248.trans (congrArg some (by kernel_rfl))
 f343:=Tryz.func284.trans (congrArg some (by kernel_rfl))
 t0:=Tryz.underlying0
 a0:=Tryz.isAgg0
 z0:=Tryz.sizeOf0
 v0:=Tryz.zeroValue0
 t3:=Tryz.underlying3
 a3:=Tryz.isAgg3
 z3:=Tryz.sizeOf3
 v3:=Tryz.zeroValue3
 t4:=Tryz.underlying4
 a4:=Tryz.isAgg4
 z4:=Tryz.sizeOf4
 v4:=Tryz.zeroValue4
 t5:=Tryz.underlying5
 a5:=Tryz.isAgg5
 z5:=Tryz.sizeOf5
 v5:=Tryz.zeroValue5
 t9:=Tryz.underlying9
 a9:=Tryz.isAgg9
 z9:=Tryz.sizeOf9
 v9:=Tryz.zeroValue9
 t28:=Tryz.underlying34
 a28:=Tryz.isAgg34
 z28:=Tryz.sizeOf34
 v28:=Tryz.zeroValue34
 t46:=Tryz.underlying157
 a46:=Tryz.isAgg157
 z46:=Tryz.sizeOf157
 v46:=Tryz.zeroValue157
 t51:=Tryz.underlying200
 a51:=Tryz.isAgg200
 z51:=Tryz.sizeOf200
 v51:=Tryz.zeroValue200
 t53:=Tryz.underlying202
 a53:=Tryz.isAgg202
 z53:=Tryz.sizeOf202
 v53:=Tryz.zeroValue202
 t131:=Tryz.underlying197
 a131:=Tryz.isAgg197
 z131:=Tryz.sizeOf197
 v131:=Tryz.zeroValue197
 t182:=Tryz.underlying191
 a182:=Tryz.isAgg191
 z182:=Tryz.sizeOf191
 v182:=Tryz.zeroValue191
 t183:=Tryz.underlying192
 a183:=Tryz.isAgg192
 z183:=Tryz.sizeOf192
 v183:=Tryz.zeroValue192
 t218:=Tryz.underlying220
 a218:=Tryz.isAgg220
 z218:=Tryz.sizeOf220
 v218:=Tryz.zeroValue220
 t222:=Tryz.underlying224
 a222:=Tryz.isAgg224
 z222:=Tryz.sizeOf224
 v222:=Tryz.zeroValue224
 t228:=Tryz.underlying246
 a228:=Tryz.isAgg246
 z228:=Tryz.sizeOf246
 v228:=Tryz.zeroValue246
 t229:=Tryz.underlying149
 a229:=Tryz.isAgg149
 z229:=Tryz.sizeOf149
 v229:=Tryz.zeroValue149
end
theorem amV {w:World} {o:Bool} {F:aH}:∀ (l:List Int) {cs:List Value},Row w o F cs (l.map gB).flatten->cs=l.map (Value.int .i64)/\∀ b,F b=0:=by
 intro l;induction l generalizing F with
 | nil=>
  intro cs h;cases h with
  | nil _ _ hF=>exact⟨rfl,hF⟩
 | cons n l ih=>
  intro cs h;have e:((n::l).map gB).flatten=.int .i64 n::(l.map gB).flatten:=by simp[gB]
  rw[e] at h;cases h with
  | int _ _ _ _ vs _ h=>
   obtain⟨e1,e2⟩:=ih h;exact⟨by rw[e1]; rfl,e2⟩
theorem amW {w:World} {o:Bool} (l:List Int):Row w o (fun _=>0) (l.map (Value.int .i64)) (l.map gB).flatten:=by
 induction l with
 | nil=>exact .nil _ _ fun _=>rfl
 | cons n l ih=>
  have e:((n::l).map gB).flatten=.int .i64 n::(l.map gB).flatten:=by simp[gB]
  rw[e];exact .int _ _ _ _ _ _ ih
abbrev sN (l:List Int):List Int:=l.mergeSort fun x y=>decide (x<=y)
theorem aqj (l:List Int) (hl:l.length<2^40):Sp 72 [.own 1 (l.map gB)] (.tup []) [.own 1 ((sN l).map gB)]:=by
 refine⟨⟨_,Tryz.func72,by kernel_rfl,by kernel_rfl⟩,rfl,?_⟩;intro w vs F X r h1 h2 h3;have ac:(sN l).length=l.length:=List.length_mergeSort l;cases r with
 | own _ F1 F2 _ s es v vs ys hr hn hF=>
  cases hn with
  | nil _ _ gt hX=>
   rcases Row.sl_inv hr with ⟨rfl,he,h0⟩ | ⟨G1,b,off,cap,C,ty,fr,cs,rfl,hb,hfr,hcap,hle,ap,hcs,hc,ak,hG⟩
   ·have hl0:l=[]:=by simpa using he
    subst hl0;refine(Any.slices_Sort_int_none r8 none 0 w).mono ?_;rintro e w' ⟨rfl,rfl⟩;refine⟨.tuple #[],F,X,rfl,?_,h1,h2,⟨lE1 _,.refl _⟩,fun b _ _=>rfl,fun b hb=>.inl hb,fun b hb=>⟨.inl hb,h3 b hb⟩⟩;refine .tup F (fun _=>0) F X (fun _=>0) X [] [] _ _ RepA.znil ?_ (fun x=>by omega) (fun x=>by omega);exact .own F F1 F2 X 1 _ _ _ _ (by simpa [sN] using hr) (.nil _ _ gt hX) hF
   ·obtain⟨hce,hG1⟩:=amV l ak;have hrl:(l.map gB).length=l.length:=lU1 _;have it:cs.length=l.length:=by rw[hce,lU1]
    rw[hrl] at hle ⊢;have ar:off+l.length<=C.size:=by omega
    have kj:b<w.heap.size:=(lG4.1 hb).1;have hH:Go.Sort.Holds (Value.int .i64) w b off l.toArray:=by
     intro j hj;have hj':j<l.length:=by simpa using hj
     have e1:=hc j A7;rw[hce,lP1,lF hj'] at e1;refine⟨?_,?_⟩
     ·simp only[World.cell?,hb,lE,e1,lD];simp[getElem!_pos,hj']
     ·have:=hfr.1 (off+j) A7;simp[World.frozen?,hb];simpa using this
    refine(Any.slices_Sort_int r8 b off cap l w hH kj A7).mono ?_;rintro e w' ⟨rfl,n,os,rfl⟩;have hw:∀ x,x≠b->x<w.heap.size->(Go.Sort.grow (Go.Sort.putRow (Value.int .i64) (Go.Sort.ahead w n) b off (sN l).toArray) os).heap[x]?=w.heap[x]?:=by
     intro x hx hxl;simp only[Go.Sort.grow,Go.Sort.putRow,Go.Sort.mapBlock,Go.Sort.ahead];rw[lJ3 (by simpa using hxl),lW3,lO (Ne.symm hx)]
    have hwb:(Go.Sort.grow (Go.Sort.putRow (Value.int .i64) (Go.Sort.ahead w n) b off (sN l).toArray) os).heap[b]?=some (.cells (Go.Sort.putCells (Value.int .i64) off (sN l).toArray C) ty fr):=by
     simp only[Go.Sort.grow,Go.Sort.putRow,Go.Sort.mapBlock,Go.Sort.ahead];rw[lJ3 (by simpa using kj),lW3,lK rfl,hb]; rfl
    have pf:(Go.Sort.putCells (Value.int .i64) off (sN l).toArray C).size=C.size:=by simp[Go.Sort.putCells]
    have eb:Row (Go.Sort.grow (Go.Sort.putRow (Value.int .i64) (Go.Sort.ahead w n) b off (sN l).toArray) os) true F1 [.slice (some ⟨b,off,none⟩) l.length cap] [.sl 1 ((sN l).map gB)]:=by
     refine Row.of_sl (F1:=fun _=>0) (cs:=(sN l).map (Value.int .i64)) (by rw[lU1,ac]) hwb (by rw[pf]; exact hfr) (by rw[pf]; exact hcap) (by rw[lU1,ac]; exact hle) ?_ ?_ ?_ (amW _) (fun x=>by have:=hG x; have:=hG1 x; omega)
     ·intro e he;obtain⟨x,_,rfl⟩:=lV2.1 he;rfl
     ·simp
     ·intro k hk;rw[lU1,ac] at hk;rw[lP1,lF (by rw[ac]; exact hk)];have dq:off<=off+k/\off+k<off+(sN l).length:=by omega
      simp only[Go.Sort.putCells,Array.getElem?_mapIdx,lF5];rw[lA1 A7,lD,lK dq,lD];simp[Nat.add_sub_cancel_left,getElem!_pos,ac,hk]
    refine⟨.tuple #[],F,X,rfl,?_,h1,h2,⟨?_,⟨rfl,rfl⟩⟩,fun x hx h0=>hw x (fun e=>?_) hx,fun x hx=>.inl hx,fun x hx=>⟨.inl hx,?_⟩⟩
    ·refine .tup F (fun _=>0) F X (fun _=>0) X [] [] _ _ RepA.znil ?_ (fun x=>by omega) (fun x=>by omega);exact .own F F1 F2 X 1 _ _ _ _ eb (.nil _ _ gt hX) hF
    ·simp only[Go.Sort.grow,Go.Sort.putRow,Go.Sort.mapBlock,Go.Sort.ahead,lE4,Array.size_modify]; omega
    ·subst e;have:=hF x; have:=hG x;simp at *; omega
    ·have:=h3 x hx;simp only[Go.Sort.grow,Go.Sort.putRow,Go.Sort.mapBlock,Go.Sort.ahead,lE4,Array.size_modify]; omega
theorem aer (l:List Int) (n:Int) (hl:l.length<2^48):Sp 133 [.ext 1 (l.map gB),.int .i64 n] (.int .i64 (gU (l.findIdx? fun x=>decide (x=n)))) U2:=by
 refine Vw zY [] 435 [] fun w hP hQ=>?_
 refine fB [4,5] ?_;refine N ?_;refine aN [4,5] (fun i:Nat=>[(8,.int .i64 i)]) (fun i=>i<=l.length/\∀ k,k<i->(h:k<l.length)->decide (l[k]=n)=false) (fun i=>l.length-i) (0) hP hQ (rfl) A8 ?_;rintro i ⟨hi,hk⟩ w1 hP1 hQ1;refine N1 ?_;refine Jf (fun h1=>?_) fun h1=>?_
 ·simp +decide (maxSteps:=9^9) (disch:=omega) only[↓SB0,SX,seval,hQ,hQ1,aL h1,gB];refine Jf (fun h2=>?_) fun h2=>?_
  ·refine N1 ?_;rw[gY (p:=fun x:Int=>decide (x=n)) hk A7 (lC h2.symm)]; rfl
  ·refine N1 ?_;exact⟨i+1,rfl,⟨by omega,iL (p:=fun x:Int=>decide (x=n)) hk A7 (lB fun e=>h2 e.symm)⟩,by omega⟩
 ·obtain rfl:i=l.length:=by omega
  refine N1 ?_;rw[gZ (p:=fun x:Int=>decide (x=n)) fun k h=>hk k h h]; rfl
theorem w5 (l:List Int) (n:Int) (hl:l.length<2^48):Sp 71 [.ext 1 (l.map gB),.int .i64 n] (.bool (decide (n ∈ l))) U2:=by
 have hI:=aer l n hl;cases e:l.findIdx? (fun x=>decide (x=n)) with
 | none=>
  have bp:n ∉ l:=fun h=>by
   rw[lO2] at e;have:=e n h;simp at this
  rw[e] at hI;refine Vw mG [] 19 [] fun w hP hQ=>?_
  refine K hI ?_;rw[lB bp]
 | some k=>
  obtain⟨hk,h1,_⟩:=lC1.1 e;have hyes:n ∈ l:=by
   have:l[k]=n:=by simpa using h1
   rw[<-this]; exact lI hk
  rw[e,show gU (some k)=(k:Int) from rfl] at hI;refine Vw mG [] 19 [] fun w hP hQ=>?_
  refine K hI ?_;rw[lC hyes,lC A7]
def qG (out:List Int) (x:Inode):Nat:=if x.ino ∈ out then 0 else x.ents.length
def aes (t:Tab) (out:List Int):Nat:=(t.inodes.map (qG out)).sum
theorem amX (t:Tab) (out:List Int):aes t out<=t.sz:=by
 have h2:=aan (qG out) Inode.sz t.inodes fun x _=>by
  have:qG out x<=x.ents.length:=by unfold qG; split <;> omega
  have h3:x.ents.length<=x.sz:=by simp only[Inode.sz,szM]; omega
  omega
 have h3:t.sz=t.inodes.length+(t.inodes.map Inode.sz).sum:=rfl;have h4:aes t out=(t.inodes.map (qG out)).sum:=rfl;omega
theorem akl {t:Tab} {out:List Int} {x:Inode} (hx:x ∈ t.inodes) (hn:x.ino ∉ out):aes t (out++[x.ino])+x.ents.length<=aes t out:=by
 unfold aes;generalize t.inodes=l at hx;have mono:∀ y:Inode,qG (out++[x.ino]) y<=qG out y:=by
  intro y;unfold qG;by_cases h:y.ino ∈ out
  ·rw[lK h,lK D0]; omega
  ·rw[lO h]; split <;> omega
 induction l with
 | nil=>cases hx
 | cons y l ih=>
  simp only[lR,lK2];rcases lN.1 hx with rfl | hx
  ·have h1:qG (out++[x.ino]) x=0:=by unfold qG; rw[if_pos A8]
   have h2:qG out x=x.ents.length:=by unfold qG; rw[if_neg hn]
   have h3:=aan (qG (out++[x.ino])) (qG out) l fun y _=>mono y
   omega
  ·have:=ih hx;have:=mono y;omega
theorem aap (l:List Int) (n:Int):l.map gB++[[TV.int .i64 n]]=(l++[n]).map gB:=by simp[gB]
theorem akm (l:List Int) (es:List Ent) (k:Nat) (h:k<es.length):(l++(es.take k).map Ent.ino)++[es[k].ino]=l++(es.take (k+1)).map Ent.ino:=by
 rw[lV h,lP2,lM2]; rfl
theorem ahz (t:Tab) (h:t.sz<2^40):Sp 19 [t.x] (.own 1 ((gN t).map gB)) U1:=by
 obtain⟨hl,cm⟩:=bK h;refine Vw ady [(72,[.l],[])] 15393162789631 [] fun w hP hQ=>?_
 refine fB [5,6,7,9,41,42,43,5006,5009] ?_;refine N ?_;refine aN [5,6,7,9,41,42,43,5006,5009] (fun s:List Int × List Int=>[(3,.own 1 (s.1.map gB)),(4,.own 1 (s.2.map gB))]) (fun s=>Que (nbT t) s.1 s.2/\s.2.length+aes t s.1<=1+t.sz) (fun s=>s.2.length+aes t s.1) (([],[1])) hP hQ (rfl) (⟨amr _,by have:=amX t []; simp only[lZ,List.length_nil]; omega⟩) ?_;rintro⟨out,next⟩ ⟨hq,hb⟩ w1 hP1 hQ1;refine N1 ?_;simp only at hq hb;have eo:=aoL (nbT t) (aaf t) hq;cases next with
 | nil=>
  have hs:=ahd (nbT t) (aaf t) hq;refine N1 ?_;refine K (aqj out A7) ?_;rw[show sN out=gN t from hs]
 | cons i next=>
  have cd:(next.length:Nat)<2^41:=by simp only[lZ] at hb; omega
  have hI:=kS t i h;have w0:decide ((0:Int)<((next.length+1:Nat):Int))=true:=lC A7;have tk:List.take next.length (next.map gB)=next.map gB:=by rw[lW1 A8]
  cases e:aU t i with
  | none=>
   rw[aeo,e] at hI;simp +decide (maxSteps:=9^9) (disch:=omega) only[↓SB0,SX,seval,hQ,hQ1,w0,gB,aV,tk];refine K1 hI ?_;exact⟨(out,next),rfl,⟨afu _ hq (.inl (by rw[nbT,e]; rfl)),by simp only[lZ] at *; omega⟩,by simp only[lZ]; omega⟩
  | some x=>
   obtain⟨hxm,hxi⟩:=bH e;have fk:x.ents.length<2^40:=(dQ (cm x hxm)).2.1;rw[aeo,e] at hI;simp only[lG2,Option.isSome_some] at hI;have hC:=w5 out i A7;by_cases dq:i ∈ out
   ·rw[lC dq] at hC;simp +decide (maxSteps:=9^9) (disch:=omega) only[↓SB0,SX,seval,hQ,hQ1,w0,gB,aV,tk];refine K1 hI ?_;refine K1 hC ?_;exact⟨(out,next),rfl,⟨afu _ hq (.inr dq),by simp only[lZ] at *; omega⟩,by simp only[lZ]; omega⟩
   ·rw[lB dq] at hC;have an:=akl (t:=t) (out:=out) hxm (by rw[hxi]; exact dq);rw[hxi] at an;simp +decide (maxSteps:=9^9) (disch:=omega) only[↓SB0,SX,seval,hQ,hQ1,w0,gB,aV,tk];refine K1 hI ?_;refine K1 hC ?_;refine Jf (fun bd=>?_) fun bd=>?_
    ·have hq2:=afv (nbT t) hq (l:=x.ents.map Ent.ino) (by rw[nbT,e]; simp[abR,bd]) dq;refine N1 ?_;rw[aap];refine fB [9,5009] ?_;refine N1 ?_;refine aN [9,5009] (fun k:Nat=>[(4,.own 1 ((next++(x.ents.take k).map Ent.ino).map gB)),(43,.int .i64 k)]) (fun k=>k<=x.ents.length) (fun k=>x.ents.length-k) (0) hP1 hQ1 (by simp only[List.take_zero,lW2,lX2]; rfl) A8 ?_;rintro k hk w2 hP2 hQ2;refine N2 ?_;have ac:(next++(x.ents.take k).map Ent.ino).length<2^42:=by simp only[lU,lU1,lH]; omega
     refine Jf (fun g1=>?_) fun g1=>?_
     ·have hp:=akm next x.ents k A7
      generalize next++(x.ents.take k).map Ent.ino=nx at *
      refine Nz2 (aL g1) ?_;exact⟨k+1,by simp only[aap,hp]; rfl,by omega,by omega⟩
     ·obtain rfl:k=x.ents.length:=by omega
      rw[lX] at *;refine N2 ?_;exact⟨(out++[i],next++x.ents.map Ent.ino),rfl,⟨hq2,by simp only[lZ,lU,lU1] at *; omega⟩,by simp only[lZ,lU,lU1] at *; omega⟩
    ·have hq2:=afv (nbT t) hq (l:=[]) (by rw[nbT,e]; simp[abR,bd]) dq;rw[lX2] at hq2;refine N1 ?_;exact⟨(out++[i],next),by simp only[aap],⟨hq2,by simp only[lZ] at *; omega⟩,by simp only[lZ]; omega⟩
theorem tU {t:Tab} {x:Inode} (hx:x ∈ t.inodes) (h:kN t x=false):bE t=false:=by
 have:t.inodes.all (kN t)=false:=by
  rw[lP4];exact⟨x,hx,by simp[h]⟩
 simp[bE,this]
theorem ack {t:Tab} {x:Inode} {e:Ent} (he:e ∈ x.ents) (h:bM t e.ino=none):kN t x=false:=by
 have:xZ t x=false:=by
  rw[xZ,lP4];exact⟨e,he,by rw[yG h]; simp⟩
 simp[kN,this]
theorem acl {t:Tab} {x:Inode} (h:∀ k,(hk:k<x.ents.length)->(bM t (x.ents[k]).ino).isSome=true):xZ t x=true:=by
 rw[xZ,lP];intro e he;obtain⟨k,hk,rfl⟩:=lM1 he;obtain⟨m,hm⟩:=lI2.1 (h k hk);rw[qF hm]; rfl
theorem tV {α:Type} {l:List α} {p:α->Prop} {i:Nat} (hk:∀ k,k<i->(h:k<l.length)->p l[k]) (hi:(h:i<l.length)->p l[i]):∀ k,k<i+1->(h:k<l.length)->p l[k]:=by
 intro k aa hl;by_cases e:k=i
 ·subst e; exact hi hl
 ·exact hk k A7 hl
theorem afW {α:Type} {l:List α} {p:α->Bool} (h:∀ k,(hk:k<l.length)->p l[k]=true):l.all p=true:=by
 rw[lP];intro x hx;obtain⟨k,hk,rfl⟩:=lM1 hx;exact h k hk
theorem dV (t:Tab) (h:t.sz<2^40):Sp 15 [t.x] (.bool (bE t)) U1:=by
 obtain⟨hl,cm⟩:=bK h;have hLk:=mC t;refine Vw agJ [] 63 [] fun w hP hQ=>?_
 rcases dA (xY t) with hT | hT
 ·refine Kz hT (afQ t h) ?_;simp[bE,hT]
 refine Kz hT (afQ t h) ?_;refine Ke (ahy t h) ?_;refine Jf (fun hR=>?_) fun hR=>?_
 rotate_left
 ·refine N ?_;have:decide ((gN t).length=t.inodes.length)=false:=lB A7;simp[bE,this]
 refine N ?_;refine fB [2,4,5,5004] ?_;refine N ?_;refine aN [2,4,5,5004] (fun i:Nat=>[(3,.int .i64 i)]) (fun i=>i<=t.inodes.length/\∀ k,k<i->(h:k<t.inodes.length)->kN t t.inodes[k]=true) (fun i=>t.inodes.length-i) (0) hP hQ (rfl) A8 ?_;rintro i ⟨hi,hk⟩ w1 hP1 hQ1;refine N1 ?_;refine Jf (fun h1=>?_) fun h1=>?_
 ·have aa:i<t.inodes.length:=by omega
  have hx:=cm _ (lI aa);have hm:=lI aa;have oz:kN t (t.inodes[i]'aa)=true->∀ k,k<i+1->(h:k<t.inodes.length)->kN t t.inodes[k]=true:=fun hp=>tV (p:=fun x=>kN t x=true) hk (fun _=>hp)
  refine Nz1 (aL h1) ?_;generalize t.inodes[i]'aa=x at *;have fk:x.ents.length<2^40:=(dQ hx).2.1;refine K1 (ahv t x.ino h) ?_;refine Jf (fun h2=>?_) fun h2=>?_
  rotate_left
  ·refine N1 ?_;rw[tU hm (by rw[kN,lB A7]; rfl)]
  refine N1 ?_;refine fB [2] ?_;refine N1 ?_;refine aN [2] (fun k:Nat=>[(5,.int .i64 k)]) (fun k=>k<=x.ents.length/\∀ j,j<k->(h:j<x.ents.length)->(bM t (x.ents[j]).ino).isSome=true) (fun k=>x.ents.length-k) (0) hP1 hQ1 (rfl) A8 ?_;rintro k ⟨cn,bd⟩ w2 hP2 hQ2;refine N2 ?_;refine Jf (fun h3=>?_) fun h3=>?_
  ·have cg:k<x.ents.length:=by omega
   have hA:=o5 t (x.ents[k]'cg).ino A7;cases e:bM t (x.ents[k]'cg).ino with
   | none=>
    rw[e] at hA;refine Nz2 (aL h3) ?_;refine K2 hA ?_;rw[tU hm (ack (lI cg) e)]
   | some m=>
    rw[e,show gU (some m)=(m:Int) from rfl] at hA;refine Nz2 (aL h3) ?_;refine K2 hA ?_;refine Jf (fun h4=>?_) fun h4=>?_
    ·exfalso; omega
    ·refine N2 ?_;exact⟨k+1,rfl,⟨by omega,tV (p:=fun y:Ent=>(bM t y.ino).isSome=true) bd (fun _=>by rw[e]; rfl)⟩,by omega⟩
  ·obtain rfl:k=x.ents.length:=by omega
   have hp:kN t x=true:=by
    rw[kN,acl fun k hk=>bd k hk hk,lC A7]; rfl
   refine N2 ?_;exact⟨i+1,rfl,⟨by omega,oz hp⟩,by omega⟩
 ·obtain rfl:i=t.inodes.length:=by omega
  have:decide ((gN t).length=t.inodes.length)=true:=lC A7;refine N1 ?_;rw[bE,hT,this,afW fun k hk'=>hk k hk' hk']; rfl
theorem nL (t:Tab) (h:t.sz<2^40):Sp 12 [t.x] (.bool (bE t)) U1:=by
 obtain⟨hl,cm⟩:=bK h;have hLk:=mC t;refine Vw agI [] 120266424407 [] fun w hP hQ=>?_
 rcases dA (xY t) with hT | hT
 ·refine Kz hT (afR t h) ?_;simp[bE,hT]
 refine Kz hT (afR t h) ?_;refine K (ahz t h) ?_;refine Jf (fun hR=>?_) fun hR=>?_
 rotate_left
 ·refine N ?_;have:decide ((gN t).length=t.inodes.length)=false:=lB A7;simp[bE,this]
 refine N ?_;refine fB [2,4,6,34,35,36,5004,5006] ?_;refine N ?_;refine aN [2,4,6,34,35,36,5004,5006] (fun i:Nat=>[(22,.int .i64 i)]) (fun i=>i<=t.inodes.length/\∀ k,k<i->(h:k<t.inodes.length)->kN t t.inodes[k]=true) (fun i=>t.inodes.length-i) (0) hP hQ (rfl) A8 ?_;rintro i ⟨hi,hk⟩ w1 hP1 hQ1;refine N1 ?_;refine Jf (fun h1=>?_) fun h1=>?_
 ·have aa:i<t.inodes.length:=by omega
  have hx:=cm _ (lI aa);have hm:=lI aa;have oz:kN t (t.inodes[i]'aa)=true->∀ k,k<i+1->(h:k<t.inodes.length)->kN t t.inodes[k]=true:=fun hp=>tV (p:=fun x=>kN t x=true) hk (fun _=>hp)
  refine Nz1 (aL h1) ?_;generalize t.inodes[i]'aa=x at *;have fk:x.ents.length<2^40:=(dQ hx).2.1;refine K1 (ahw t x.ino h) ?_;refine Jf (fun h2=>?_) fun h2=>?_
  rotate_left
  ·refine N1 ?_;rw[tU hm (by rw[kN,lB A7]; rfl)]
  refine N1 ?_;refine fB [2,6,5006] ?_;refine N1 ?_;refine aN [2,6,5006] (fun k:Nat=>[(36,.int .i64 k)]) (fun k=>k<=x.ents.length/\∀ j,j<k->(h:j<x.ents.length)->(bM t (x.ents[j]).ino).isSome=true) (fun k=>x.ents.length-k) (0) hP1 hQ1 (rfl) A8 ?_;rintro k ⟨cn,bd⟩ w2 hP2 hQ2;refine N2 ?_;refine Jf (fun h3=>?_) fun h3=>?_
  ·have cg:k<x.ents.length:=by omega
   have hA:=n8 t (x.ents[k]'cg).ino A7;cases e:bM t (x.ents[k]'cg).ino with
   | none=>
    rw[e] at hA;refine Nz2 (aL h3) ?_;refine K2 hA ?_;rw[tU hm (ack (lI cg) e)]
   | some m=>
    rw[e,show gU (some m)=(m:Int) from rfl] at hA;refine Nz2 (aL h3) ?_;refine K2 hA ?_;refine Jf (fun h4=>?_) fun h4=>?_
    ·exfalso; omega
    ·refine N2 ?_;exact⟨k+1,rfl,⟨by omega,tV (p:=fun y:Ent=>(bM t y.ino).isSome=true) bd (fun _=>by rw[e]; rfl)⟩,by omega⟩
  ·obtain rfl:k=x.ents.length:=by omega
   have hp:kN t x=true:=by
    rw[kN,acl fun k hk=>bd k hk hk,lC A7]; rfl
   refine N2 ?_;exact⟨i+1,rfl,⟨by omega,oz hp⟩,by omega⟩
 ·obtain rfl:i=t.inodes.length:=by omega
  have:decide ((gN t).length=t.inodes.length)=true:=lC A7;refine N1 ?_;rw[bE,hT,this,afW fun k hk'=>hk k hk' hk']; rfl
theorem qH (d:Fs) (h:d.sz<2^40):Sp 29 [d.x,d.x] (.bool true) U2:=by
 have he:=aqc d d h
 rwa [lC rfl] at he
theorem yK {x:Vol} {n:Nat} (h:x.sz<n):x.name.length<n/\x.t.sz<n:=by
 simp only[Vol.sz] at h; omega
theorem akn {l:List Vol} {n:Nat} (h:szM Vol.sz l<n):l.length<n/\∀ x ∈ l,x.sz<n:=by
 refine⟨by simp only[szM] at h; omega,fun x hx=>?_⟩;have:=m5 (f:=Vol.sz) hx;simp only[szM] at h; omega
theorem yL {f:Fs} {i:Nat} (h:i<f.vols.length) (e:cD (iC f) mQ f.vols i=false):fsB f=false:=by simp[fsB,l8 h e]
theorem vT (f:Fs) (h:f.sz<2^40):Sp 144 [f.x] (.bool (fsB f)) U1:=by
 obtain⟨hl,cm⟩:=akn (show szM Vol.sz f.vols<2^40 from h);refine Vw aml [] 31 [] fun w hP hQ=>?_
 refine Jg (fun hA=>?_) fun hA=>?_
 ·refine Nz hA ?_;simp only[fsB,lB (show ¬ f.vols.length<=6 by omega),lG1]
 refine Nz hA ?_;rcases dA (inR f.next 1 99) with hB | hB
 ·refine Kz hB (cL f.next 1 99) ?_;simp only[fsB,hB,lG1,lT1]
 refine Kz hB (cL f.next 1 99) ?_;refine fB [2,4,5004] ?_;refine N ?_;refine aN [2,4,5004] (fun i:Nat=>[(3,.int .i64 i)]) (fun i=>i<=f.vols.length/\∀ k,k<i->cD (iC f) mQ f.vols k=true) (fun i=>f.vols.length-i) (0) hP hQ (rfl) A8 ?_;rintro i ⟨hi,hk⟩ w1 hP1 hQ1;refine N1 ?_;refine Jf (fun h1=>?_) fun h1=>?_
 ·have aa:i<f.vols.length:=by omega
  have hx:=cm _ (lI aa);cases i with
  | zero=>
   have aw:iC f 0 (f.vols[0]'aa)=false->fsB f=false:=fun e=>yL aa (dE aa e)
   have bj:iC f 0 (f.vols[0]'aa)=true->∀ k,k<0+1->cD (iC f) mQ f.vols k=true:=fun e=>fC hk (by rw[dP aa,e])
   refine Nz1 (aL h1) ?_;generalize f.vols[0]'aa=v at *;obtain⟨au,dg⟩:=yK hx;refine Jh (fun g0=>?_) fun g0=>?_
   ·refine Nz1 g0 ?_;rw[aw (by simp only[iC,lB (show ¬ 1<=v.id by omega),lG1])]
   refine Nz1 g0 ?_;refine Jh (fun g1=>?_) fun g1=>?_
   ·refine Nz1 g1 ?_;rw[aw (by simp only[iC,lB (show ¬ v.id<f.next by omega),lG1,lT1])]
   refine Nz1 g1 ?_;rcases dA (aP v.name) with hN | hN
   ·refine Kz1 hN (bT v.name A7) ?_;rw[aw C7]
   refine Kz1 hN (bT v.name A7) ?_;refine K1 (o4 f v.name A7) ?_;refine Jh (fun g3=>?_) fun g3=>?_
   ·have g3':¬ gU (cG f v.name)=(((0:Nat):Int):Int):=by simpa using g3
    refine Nz1 g3 ?_;rw[aw C5]
   refine Nz1 g3 ?_;have g3':gU (cG f v.name)=(((0:Nat):Int):Int):=by simpa using g3
   rcases dA (inR v.limit 32 4000) with hL | hL
   ·refine Kz1 hL (cL v.limit 32 4000) ?_;rw[aw C8]
   refine Kz1 hL (cL v.limit 32 4000) ?_;rcases dA (bE v.t) with hT | hT
   ·refine Kz1 hT (dV v.t A7) ?_;rw[aw C9]
   refine Kz1 hT (dV v.t A7) ?_;refine K1 (n9 v.t A7) ?_;refine Jf (fun g4=>?_) fun g4=>?_
   ·refine N1 ?_;rw[aw (by simp only[iC,lB (show ¬ ((dD v.t:Nat):Int)<=v.limit by omega),lG1,lT1])]
   ·refine N1 ?_;have hp:iC f 0 v=true:=by
     simp only[iC,hN,hL,hT,lC (show 1<=v.id by omega),lC (show v.id<f.next by omega),lC (show ((dD v.t:Nat):Int)<=v.limit by omega),lC g3',lS3]
    exact⟨0+1,rfl,⟨by omega,bj hp⟩,by omega⟩
  | succ m=>
   have fj:m<f.vols.length:=by omega
   have w4:decide ((0:Int)<((m+1:Nat):Int))=true:=lC A7;have hm:=aL (show ((m:Nat):Int)<(f.vols.length:Nat) by omega);have aw:iC f (m+1) (f.vols[m+1]'aa)=false->fsB f=false:=fun e=>yL aa (dE aa e)
   have jd:mQ (f.vols[m]'fj) (f.vols[m+1]'aa)=false->fsB f=false:=fun e=>yL aa (by rw[aY aa,e,lT1])
   have bj:iC f (m+1) (f.vols[m+1]'aa)=true->mQ (f.vols[m]'fj) (f.vols[m+1]'aa)=true->∀ k,k<(m+1)+1->cD (iC f) mQ f.vols k=true:=fun e e'=>fC hk (by rw[aY aa,e,e']; rfl)
   refine Nz1 (aL h1) ?_;generalize f.vols[m+1]'aa=v at *;obtain⟨au,dg⟩:=yK hx;refine Jh (fun g0=>?_) fun g0=>?_
   ·refine Nz1 g0 ?_;rw[aw (by simp only[iC,lB (show ¬ 1<=v.id by omega),lG1])]
   refine Nz1 g0 ?_;refine Jh (fun g1=>?_) fun g1=>?_
   ·refine Nz1 g1 ?_;rw[aw (by simp only[iC,lB (show ¬ v.id<f.next by omega),lG1,lT1])]
   refine Nz1 (And.intro g1 (And.intro w4 (And.intro aV (And.intro hm (aL h1))))) ?_;refine Jh (fun g2=>?_) fun g2=>?_
   ·refine Nz1 g2 ?_;rw[jd (by rw[mQ,lB A7])]
   refine Nz1 g2 ?_;rcases dA (aP v.name) with hN | hN
   ·refine Kz1 hN (bT v.name A7) ?_;rw[aw C7]
   refine Kz1 hN (bT v.name A7) ?_;refine K1 (o4 f v.name A7) ?_;refine Jh (fun g3=>?_) fun g3=>?_
   ·have g3':¬ gU (cG f v.name)=(((m+1:Nat):Int):Int):=by simpa using g3
    refine Nz1 g3 ?_;rw[aw C5]
   refine Nz1 g3 ?_;have g3':gU (cG f v.name)=(((m+1:Nat):Int):Int):=by simpa using g3
   rcases dA (inR v.limit 32 4000) with hL | hL
   ·refine Kz1 hL (cL v.limit 32 4000) ?_;rw[aw C8]
   refine Kz1 hL (cL v.limit 32 4000) ?_;rcases dA (bE v.t) with hT | hT
   ·refine Kz1 hT (dV v.t A7) ?_;rw[aw C9]
   refine Kz1 hT (dV v.t A7) ?_;refine K1 (n9 v.t A7) ?_;refine Jf (fun g4=>?_) fun g4=>?_
   ·refine N1 ?_;rw[aw (by simp only[iC,lB (show ¬ ((dD v.t:Nat):Int)<=v.limit by omega),lG1,lT1])]
   ·refine N1 ?_;have hp:iC f (m+1) v=true:=by
     simp only[iC,hN,hL,hT,lC (show 1<=v.id by omega),lC (show v.id<f.next by omega),lC (show ((dD v.t:Nat):Int)<=v.limit by omega),lC g3',lS3]
    exact⟨(m+1)+1,rfl,⟨by omega,bj hp (by rw[mQ,lC A7])⟩,by omega⟩
 ·obtain rfl:i=f.vols.length:=by omega
  refine N1 ?_;rw[fsB,hB,f7 fun k h=>hk k h,lC A7]; rfl
theorem vU (f:Fs) (h:f.sz<2^40):Sp 37 [f.x] (.bool (fsB f)) U1:=by
 obtain⟨hl,cm⟩:=akn (show szM Vol.sz f.vols<2^40 from h);refine Vw ami [] 458783 [] fun w hP hQ=>?_
 refine Jg (fun hA=>?_) fun hA=>?_
 ·refine Nz hA ?_;simp only[fsB,lB (show ¬ f.vols.length<=6 by omega),lG1]
 refine Nz hA ?_;rcases dA (inR f.next 1 99) with hB | hB
 ·refine Kz hB (fV f.next 1 99) ?_;simp only[fsB,hB,lG1,lT1]
 refine Kz hB (fV f.next 1 99) ?_;refine fB [2,3,4,5004] ?_;refine N ?_;refine aN [2,3,4,5004] (fun i:Nat=>[(18,.int .i64 i)]) (fun i=>i<=f.vols.length/\∀ k,k<i->cD (iC f) mQ f.vols k=true) (fun i=>f.vols.length-i) (0) hP hQ (rfl) A8 ?_;rintro i ⟨hi,hk⟩ w1 hP1 hQ1;refine N1 ?_;refine Jf (fun h1=>?_) fun h1=>?_
 ·have aa:i<f.vols.length:=by omega
  have hx:=cm _ (lI aa);cases i with
  | zero=>
   have aw:iC f 0 (f.vols[0]'aa)=false->fsB f=false:=fun e=>yL aa (dE aa e)
   have bj:iC f 0 (f.vols[0]'aa)=true->∀ k,k<0+1->cD (iC f) mQ f.vols k=true:=fun e=>fC hk (by rw[dP aa,e])
   refine Nz1 (aL h1) ?_;generalize f.vols[0]'aa=v at *;obtain⟨au,dg⟩:=yK hx;refine Jh (fun g0=>?_) fun g0=>?_
   ·refine Nz1 g0 ?_;rw[aw (by simp only[iC,lB (show ¬ 1<=v.id by omega),lG1])]
   refine Nz1 g0 ?_;refine Jh (fun g1=>?_) fun g1=>?_
   ·refine Nz1 g1 ?_;rw[aw (by simp only[iC,lB (show ¬ v.id<f.next by omega),lG1,lT1])]
   refine Nz1 g1 ?_;rcases dA (aP v.name) with hN | hN
   ·refine Kz1 hN (b0 v.name A7) ?_;rw[aw C7]
   refine Kz1 hN (b0 v.name A7) ?_;refine K1 (mB f v.name A7) ?_;refine Jh (fun g3=>?_) fun g3=>?_
   ·have g3':¬ gU (cG f v.name)=(((0:Nat):Int):Int):=by simpa using g3
    refine Nz1 g3 ?_;rw[aw C5]
   refine Nz1 g3 ?_;have g3':gU (cG f v.name)=(((0:Nat):Int):Int):=by simpa using g3
   rcases dA (inR v.limit 32 4000) with hL | hL
   ·refine Kz1 hL (kO v.limit) ?_;rw[aw C8]
   refine Kz1 hL (kO v.limit) ?_;rcases dA (bE v.t) with hT | hT
   ·refine Kz1 hT (nL v.t A7) ?_;rw[aw C9]
   refine Kz1 hT (nL v.t A7) ?_;refine K1 (oA v.t A7) ?_;refine Jf (fun g4=>?_) fun g4=>?_
   ·refine N1 ?_;rw[aw (by simp only[iC,lB (show ¬ ((dD v.t:Nat):Int)<=v.limit by omega),lG1,lT1])]
   ·refine N1 ?_;have hp:iC f 0 v=true:=by
     simp only[iC,hN,hL,hT,lC (show 1<=v.id by omega),lC (show v.id<f.next by omega),lC (show ((dD v.t:Nat):Int)<=v.limit by omega),lC g3',lS3]
    exact⟨0+1,rfl,⟨by omega,bj hp⟩,by omega⟩
  | succ m=>
   have fj:m<f.vols.length:=by omega
   have w4:decide ((0:Int)<((m+1:Nat):Int))=true:=lC A7;have hm:=aL (show ((m:Nat):Int)<(f.vols.length:Nat) by omega);have aw:iC f (m+1) (f.vols[m+1]'aa)=false->fsB f=false:=fun e=>yL aa (dE aa e)
   have jd:mQ (f.vols[m]'fj) (f.vols[m+1]'aa)=false->fsB f=false:=fun e=>yL aa (by rw[aY aa,e,lT1])
   have bj:iC f (m+1) (f.vols[m+1]'aa)=true->mQ (f.vols[m]'fj) (f.vols[m+1]'aa)=true->∀ k,k<(m+1)+1->cD (iC f) mQ f.vols k=true:=fun e e'=>fC hk (by rw[aY aa,e,e']; rfl)
   refine Nz1 (aL h1) ?_;generalize f.vols[m+1]'aa=v at *;obtain⟨au,dg⟩:=yK hx;refine Jh (fun g0=>?_) fun g0=>?_
   ·refine Nz1 g0 ?_;rw[aw (by simp only[iC,lB (show ¬ 1<=v.id by omega),lG1])]
   refine Nz1 g0 ?_;refine Jh (fun g1=>?_) fun g1=>?_
   ·refine Nz1 g1 ?_;rw[aw (by simp only[iC,lB (show ¬ v.id<f.next by omega),lG1,lT1])]
   refine Nz1 (And.intro g1 (And.intro w4 (And.intro aV (And.intro hm (aL h1))))) ?_;refine Jh (fun g2=>?_) fun g2=>?_
   ·refine Nz1 g2 ?_;rw[jd (by rw[mQ,lB A7])]
   refine Nz1 g2 ?_;rcases dA (aP v.name) with hN | hN
   ·refine Kz1 hN (b0 v.name A7) ?_;rw[aw C7]
   refine Kz1 hN (b0 v.name A7) ?_;refine K1 (mB f v.name A7) ?_;refine Jh (fun g3=>?_) fun g3=>?_
   ·have g3':¬ gU (cG f v.name)=(((m+1:Nat):Int):Int):=by simpa using g3
    refine Nz1 g3 ?_;rw[aw C5]
   refine Nz1 g3 ?_;have g3':gU (cG f v.name)=(((m+1:Nat):Int):Int):=by simpa using g3
   rcases dA (inR v.limit 32 4000) with hL | hL
   ·refine Kz1 hL (kO v.limit) ?_;rw[aw C8]
   refine Kz1 hL (kO v.limit) ?_;rcases dA (bE v.t) with hT | hT
   ·refine Kz1 hT (nL v.t A7) ?_;rw[aw C9]
   refine Kz1 hT (nL v.t A7) ?_;refine K1 (oA v.t A7) ?_;refine Jf (fun g4=>?_) fun g4=>?_
   ·refine N1 ?_;rw[aw (by simp only[iC,lB (show ¬ ((dD v.t:Nat):Int)<=v.limit by omega),lG1,lT1])]
   ·refine N1 ?_;have hp:iC f (m+1) v=true:=by
     simp only[iC,hN,hL,hT,lC (show 1<=v.id by omega),lC (show v.id<f.next by omega),lC (show ((dD v.t:Nat):Int)<=v.limit by omega),lC g3',lS3]
    exact⟨(m+1)+1,rfl,⟨by omega,bj hp (by rw[mQ,lC A7])⟩,by omega⟩
 ·obtain rfl:i=f.vols.length:=by omega
  refine N1 ?_;rw[fsB,hB,f7 fun k h=>hk k h,lC A7]; rfl
theorem acm (x:Inode) (n:aA):cA x n=match x.ents.findIdx? (fun e=>decide (e.name=n)) with
  | none=>0
  | some k=>((x.ents[k]?).map Ent.ino).getD 0:=by
 rw[cA,afP];cases x.ents.findIdx? (fun e=>decide (e.name=n)) <;> rfl
theorem afX {x:Inode} {n:aA} {i:Nat} (hk:∀ k,k<i->(h:k<x.ents.length)->decide (x.ents[k].name=n)=false) (h:i<x.ents.length) (hi:x.ents[i].name=n):cA x n=x.ents[i].ino:=by
 rw[acm,gY (p:=fun e:Ent=>decide (e.name=n)) hk h (lC hi)];simp only[lF h]; rfl
theorem afY {x:Inode} {n:aA} (hk:∀ k,(h:k<x.ents.length)->decide (x.ents[k].name=n)=false):cA x n=0:=by
 rw[acm,gZ (p:=fun e:Ent=>decide (e.name=n)) hk]
theorem tW (x:Inode) (n:aA) (h:x.sz<2^40):Sp 122 [x.x,.str n] (.int .i64 (cA x n)) U2:=by
 obtain⟨h1,h2,h3⟩:=dQ h;refine Vw ajl [] 1879 [] fun w hP hQ=>?_
 refine fB [4,6,5006] ?_;refine N ?_;refine aN [4,6,5006] (fun i:Nat=>[(10,.int .i64 i)]) (fun i=>i<=x.ents.length/\∀ k,k<i->(h:k<x.ents.length)->decide (x.ents[k].name=n)=false) (fun i=>x.ents.length-i) (0) hP hQ (rfl) A8 ?_;rintro i ⟨hi,hk⟩ w1 hP1 hQ1;refine N1 ?_;refine Jf (fun g=>?_) fun g=>?_
 ·refine Nz1 (aL g) ?_;refine Jf (fun e=>?_) fun e=>?_
  ·refine N1 ?_;rw[afX hk A7 e]
  ·refine N1 ?_;exact⟨i+1,rfl,⟨by omega,iL (p:=fun e:Ent=>decide (e.name=n)) hk A7 (lB e)⟩,by omega⟩
 ·obtain rfl:i=x.ents.length:=by omega
  refine N1 ?_;rw[afY fun k h=>hk k h h]
theorem afZ (x:Inode) (n:aA) (h:x.sz<2^40):Sp 289 [x.x,.str n] (.int .i64 (cA x n)) U2:=by
 obtain⟨h1,h2,h3⟩:=dQ h;refine Vw ajy [] 55 [] fun w hP hQ=>?_
 refine fB [4] ?_;refine N ?_;refine aN [4] (fun i:Nat=>[(5,.int .i64 i)]) (fun i=>i<=x.ents.length/\∀ k,k<i->(h:k<x.ents.length)->decide (x.ents[k].name=n)=false) (fun i=>x.ents.length-i) (0) hP hQ (rfl) A8 ?_;rintro i ⟨hi,hk⟩ w1 hP1 hQ1;refine N1 ?_;refine Jf (fun g=>?_) fun g=>?_
 ·refine Nz1 (aL g) ?_;refine Jf (fun e=>?_) fun e=>?_
  ·refine Nz1 (aL g) ?_;rw[afX hk A7 e]
  ·refine N1 ?_;exact⟨i+1,rfl,⟨by omega,iL (p:=fun e:Ent=>decide (e.name=n)) hk A7 (lB e)⟩,by omega⟩
 ·obtain rfl:i=x.ents.length:=by omega
  refine N1 ?_;rw[afY fun k h=>hk k h h]
theorem yM {t:Tab} {l:List aA} {i:Nat} (h:i<l.length) {a:Int} {x:Inode} (hx:aU t a=some x) (hk:x.kind=2) (he:cA x l[i]≠0):jF t (l.drop i) a=jF t (l.drop (i+1)) (cA x l[i]):=by
 rw[lE2 h,jF,hx];simp only[lK hk,lO he]
theorem af0 {t:Tab} {l:List aA} {i:Nat} (h:i<l.length) {a:Int} (hx:aU t a=none):jF t (l.drop i) a=(0,2):=by
 rw[lE2 h,jF,hx]
theorem yN {t:Tab} {l:List aA} {i:Nat} (h:i<l.length) {a:Int} {x:Inode} (hx:aU t a=some x) (hk:¬ x.kind=2):jF t (l.drop i) a=(0,3):=by
 rw[lE2 h,jF,hx];simp only[lO hk]
theorem yO {t:Tab} {l:List aA} {i:Nat} (h:i<l.length) {a:Int} {x:Inode} (hx:aU t a=some x) (hk:x.kind=2) (he:cA x l[i]=0):jF t (l.drop i) a=(0,2):=by
 rw[lE2 h,jF,hx];simp only[lK hk,lK he]
theorem r9 {t:Tab} (h:t.sz<2^40) {a:Int} {x:Inode} (hx:aU t a=some x):x.sz<2^40:=(bK h).2 x (bH hx).1
theorem ao1 (t:Tab) (s:aA) (h:t.sz<2^40) (hs:s.length<2^40):Sp 126 [t.x,.str s] (.tup [.int .i64 (n6 t s).1,.int .i64 (n6 t s).2]) U2:=by
 have hS:=iD s hs;have hf:=iF s;unfold n6;generalize aB s=y at *;obtain⟨l,b⟩:=y;simp only at *;cases b with
 | false=>
  rw[lO A8];refine Vw afk [] 7347703 [] fun w hP hQ=>?_
  exact K hS trivial
 | true=>
  rw[lK rfl];refine Vw afk [] 7347703 [] fun w hP hQ=>?_
  refine K hS ?_;refine fB [4,5,10,11,12,5011] ?_;refine N ?_;refine aN [4,5,10,11,12,5011] (fun x:Nat × Int=>[(8,.int .i64 x.2),(22,.int .i64 (x.1:Nat))]) (fun x=>x.1<=l.length/\jF t (l.drop x.1) x.2=jF t l 1) (fun x=>l.length-x.1) ((0,1)) hP hQ (rfl) (⟨lP3 _,rfl⟩) ?_;rintro⟨i,a⟩ ⟨hi,hw⟩ w1 hP1 hQ1;refine N1 ?_;simp only at hi hw;refine Jf (fun g=>?_) fun g=>?_
  ·have aa:i<l.length:=by omega
   have hA:=kS t a h;cases hx:aU t a with
   | none=>
    rw[hx] at hA;rw[af0 aa hx] at hw;simp +decide (maxSteps:=9^9) (disch:=omega) only[↓SB0,SX,seval,hQ,hQ1,aL g,fD];exact Kz1 hw.symm (hA) trivial
   | some x=>
    rw[aeo,hx] at hA;have hE:=tW x l[i] (r9 h hx);by_cases hk:x.kind=2
    ·have hk':decide (x.kind=2)=true:=lC hk;by_cases he:cA x l[i]=0
     ·rw[yO aa hx hk he] at hw;rw[he] at hE;simp +decide (maxSteps:=9^9) (disch:=omega) only[↓SB0,SX,seval,hQ,hQ1,aL g,fD]
      (first|refine cI hP1 (hA) rfl rfl ?_|refine cH hP1 (hA) rfl rfl ?_)
      simp +decide (maxSteps:=9^9) (disch:=omega) only[↓SB0,SX,seval,hQ,hQ1,hk',lG2];exact Kz1 hw.symm (hE) trivial
     ·rw[yM aa hx hk he] at hw;have he':decide (cA x l[i]=0)=false:=lB he;simp +decide (maxSteps:=9^9) (disch:=omega) only[↓SB0,SX,seval,hQ,hQ1,aL g,fD]
      (first|refine cI hP1 (hA) rfl rfl ?_|refine cH hP1 (hA) rfl rfl ?_)
      simp +decide (maxSteps:=9^9) (disch:=omega) only[↓SB0,SX,seval,hQ,hQ1,hk',lG2];refine Kz1 he' (hE) ?_;exact⟨(i+1,cA x l[i]),rfl,⟨by simp only; omega,hw⟩,by simp only; omega⟩
    ·have hk':decide (x.kind=2)=false:=lB hk;rw[yN aa hx hk] at hw;simp +decide (maxSteps:=9^9) (disch:=omega) only[↓SB0,SX,seval,hQ,hQ1,aL g,fD]
     (first|refine cI hP1 (hA) rfl rfl ?_|refine cH hP1 (hA) rfl rfl ?_)
     simp +decide (maxSteps:=9^9) (disch:=omega) only[↓SB0,SX,seval,hQ,hQ1,hk',lG2,<-hw]
  ·obtain rfl:i=l.length:=by omega
   rw[List.drop_length,jF] at hw;exact Nz1 hw.symm trivial
theorem ako (t:Tab) (l:List aA) (h:t.sz<2^40) (hl:l.length<2^40):Sp 290 [t.x,.ext 1 (l.map fD)] (.tup [.int .i64 (jF t l 1).1,.int .i64 (jF t l 1).2]) U2:=by
 obtain⟨t1,t2⟩:=bK h;refine Vw ag2 [] 503 [] fun w hP hQ=>?_
 refine fB [4,5,8] ?_;refine N ?_;refine aN [4,5,8] (fun x:Nat × Int=>[(6,.int .i64 x.2),(7,.int .i64 (x.1:Nat))]) (fun x=>x.1<=l.length/\jF t (l.drop x.1) x.2=jF t l 1) (fun x=>l.length-x.1) ((0,1)) hP hQ (rfl) (⟨lP3 _,rfl⟩) ?_;rintro⟨i,a⟩ ⟨hi,hw⟩ w1 hP1 hQ1;refine N1 ?_;simp only at hi hw;refine Jf (fun g=>?_) fun g=>?_
 ·have aa:i<l.length:=by omega
  have hA:=o5 t a A7;cases hx:bM t a with
  | none=>
   rw[hx] at hA;rw[af0 aa (yG hx)] at hw;refine N1 ?_;exact Kz1 hw.symm (hA) trivial
  | some k=>
   have cn:=r7 hx;have hx':=qF hx;rw[hx,show gU (some k)=(k:Int) from rfl] at hA;have hE:=afZ (t.inodes[k]) l[i] (t2 _ (lI cn));have hz:decide (((k:Nat):Int)<0)=false:=lB A7;have hg:((k:Nat):Int)<(t.inodes.length:Nat):=by omega
   by_cases hk:(t.inodes[k]).kind=2
   ·have hk':decide ((t.inodes[k]).kind=2)=true:=lC hk;by_cases he:cA (t.inodes[k]) l[i]=0
    ·rw[yO aa hx' hk he] at hw;rw[he] at hE;refine N1 ?_
     (first|refine cI hP1 (hA) rfl rfl ?_|refine cH hP1 (hA) rfl rfl ?_)
     simp +decide (maxSteps:=9^9) (disch:=omega) only[↓SB0,SX,seval,hQ,hQ1,hz,aL hg,hk',aL g,fD];exact Kz1 hw.symm (hE) trivial
    ·rw[yM aa hx' hk he] at hw;have he':decide (cA (t.inodes[k]) l[i]=0)=false:=lB he;refine N1 ?_
     (first|refine cI hP1 (hA) rfl rfl ?_|refine cH hP1 (hA) rfl rfl ?_)
     simp +decide (maxSteps:=9^9) (disch:=omega) only[↓SB0,SX,seval,hQ,hQ1,hz,aL hg,hk',aL g,fD];refine Kz1 he' (hE) ?_;exact⟨(i+1,_),rfl,⟨by simp only; omega,hw⟩,by simp only; omega⟩
   ·have hk':decide ((t.inodes[k]).kind=2)=false:=lB hk;rw[yN aa hx' hk] at hw;refine N1 ?_;exact Kz1 (And.intro hz (And.intro (aL hg) (And.intro hk' hw.symm))) (hA) trivial
 ·obtain rfl:i=l.length:=by omega
  rw[List.drop_length,jF] at hw;exact Nz1 hw.symm trivial
theorem aet (t:Tab) (s:aA) (h:t.sz<2^40) (hs:s.length<2^40):Sp 265 [t.x,.str s] (.tup [.int .i64 (n6 t s).1,.int .i64 (n6 t s).2]) U2:=by
 have hS:=dL s hs;have hf:=iF s;unfold n6;generalize aB s=y at *;obtain⟨l,b⟩:=y;simp only at *;cases b with
 | false=>
  rw[lO A8];refine Vw afm [] 247 [] fun w hP hQ=>?_
  exact K hS trivial
 | true=>
  rw[lK rfl];refine Vw afm [] 247 [] fun w hP hQ=>?_
  refine K hS ?_;exact K (ako t l h A7) trivial
theorem acn {t:Tab} {s:aA} (hc:(n6 t s).2≠0):cE t s=.error (n6 t s).2:=by rw[cE,lO hc]
theorem aco {t:Tab} {s:aA} (hc:(n6 t s).2=0) (hx:aU t (n6 t s).1=none):cE t s=.error 2:=by rw[cE,lK hc,hx]
theorem acp {t:Tab} {s:aA} {x:Inode} (hc:(n6 t s).2=0) (hx:aU t (n6 t s).1=some x):cE t s=.ok x:=by rw[cE,lK hc,hx]
theorem vV (t:Tab) (s:aA) (h:t.sz<2^40) (hs:s.length<2^40):Sp 61 [t.x,.str s] (.tup [(exI (cE t s)).o,.int .i64 (exC (cE t s))]) U2:=by
 have hW:=ao1 t s h hs;have hA:=kS t (n6 t s).1 h;by_cases hc:(n6 t s).2=0
 ·have hc':decide ((n6 t s).2=0)=true:=lC hc;cases hx:aU t (n6 t s).1 with
  | none=>
   rw[hx] at hA;rw[aco hc hx];refine Vw zS [] 1015 [] fun w hP hQ=>?_
   refine Kz hc' (hW) ?_;refine K hA ?_;rfl
  | some x=>
   rw[aeo,hx] at hA;rw[acp hc hx];refine Vw zS [] 1015 [] fun w hP hQ=>?_
   refine Kz hc' (hW) ?_
   (first|refine cI hP (hA) rfl rfl ?_|refine cH hP (hA) rfl rfl ?_)
   simp +decide (maxSteps:=9^9) (disch:=omega) only[↓SB0,SX,seval,hQ,lG2];rfl
 ·have hc':decide ((n6 t s).2=0)=false:=lB hc;rw[acn hc];refine Vw zS [] 1015 [] fun w hP hQ=>?_
  refine Kz hc' (hW) ?_;rfl
theorem rK (t:Tab) (s:aA) (h:t.sz<2^40) (hs:s.length<2^40):Sp 262 [t.x,.str s] (.tup [(exI (cE t s)).o,.int .i64 (exC (cE t s))]) U2:=by
 have hW:=aet t s h hs;have hA:=yH t (n6 t s).1 h;by_cases hc:(n6 t s).2=0
 ·have hc':decide ((n6 t s).2=0)=true:=lC hc;cases hx:aU t (n6 t s).1 with
  | none=>
   rw[hx] at hA;rw[aco hc hx];refine Vw aad [] 1015 [] fun w hP hQ=>?_
   refine Kz hc' (hW) ?_;refine K hA ?_;rfl
  | some x=>
   rw[aeo,hx] at hA;rw[acp hc hx];refine Vw aad [] 1015 [] fun w hP hQ=>?_
   refine Kz hc' (hW) ?_
   (first|refine cI hP (hA) rfl rfl ?_|refine cH hP (hA) rfl rfl ?_)
   simp +decide (maxSteps:=9^9) (disch:=omega) only[↓SB0,SX,seval,hQ,lG2];rfl
 ·have hc':decide ((n6 t s).2=0)=false:=lB hc;rw[acn hc];refine Vw aad [] 1015 [] fun w hP hQ=>?_
  refine Kz hc' (hW) ?_;rfl
theorem qI (t:Tab) (s:aA) (h:t.sz<2^40) (hs:s.length<2^40):Sp 223 [t.x,.str s] (.tup [(exI (cE t s)).o,.int .i64 (exC (iK t s))]) U2:=by
 have hS:=vV t s h hs;unfold iK;cases e:cE t s with
 | error c=>
  have hc:decide (c=0)=false:=lB (fP e);rw[e] at hS;simp only[exI,exC] at hS ⊢;refine Vw q9 [] 247 [] fun w hP hQ=>?_
  exact Kz hc (hS) trivial
 | ok x=>
  rw[e] at hS;simp only[exI,exC] at hS ⊢;by_cases hk:x.kind=1
  ·have hk':decide (x.kind=1)=true:=lC hk;simp only[lK hk];refine Vw q9 [] 247 [] fun w hP hQ=>?_
   exact Kz hk' (hS) trivial
  ·have hk':decide (x.kind=1)=false:=lB hk;simp only[lO hk];refine Vw q9 [] 247 [] fun w hP hQ=>?_
   exact Kz hk' (hS) trivial
theorem qJ (t:Tab) (s:aA) (h:t.sz<2^40) (hs:s.length<2^40):Sp 257 [t.x,.str s] (.tup [(exI (iK t s)).o,.int .i64 (exC (iK t s))]) U2:=by
 have hS:=rK t s h hs;unfold iK;cases e:cE t s with
 | error c=>
  have hc:decide (c=0)=false:=lB (fP e);rw[e] at hS;simp only[exI,exC] at hS ⊢;refine Vw rA [] 247 [] fun w hP hQ=>?_
  exact Kz hc (hS) trivial
 | ok x=>
  rw[e] at hS;simp only[exI,exC] at hS ⊢;by_cases hk:x.kind=1
  ·have hk':decide (x.kind=1)=true:=lC hk;simp only[lK hk];refine Vw rA [] 247 [] fun w hP hQ=>?_
   exact Kz hk' (hS) trivial
  ·have hk':decide (x.kind=1)=false:=lB hk;simp only[lO hk];refine Vw rA [] 247 [] fun w hP hQ=>?_
   refine Kz hk' (hS) ?_;rfl
def w6 (D:Inode) (n:aA):AV:=.agg [.int .i64 D.ino,.int .i64 D.kind,.int .i64 D.links,.own 1 (aJ D.data),.own 2 (D.ents.map Ent.row),.own 2 (D.attrs.map Attr.row),.str n]
def aaq (D:Inode) (n:aA):AV:=.agg [.int .i64 D.ino,.int .i64 D.kind,.int .i64 D.links,.ext 1 (aJ D.data),.ext 2 (D.ents.map Ent.row),.ext 2 (D.attrs.map Attr.row),.str n]
def exN (e:Rs Inode) (n:aA):aA:=match e with
 | .ok _=>n
 | .error _=>[]
theorem cM (s:aA):(aF s).1.length<=450/\(aD s).length<=14:=by
 unfold aD aF;split
 ·rename_i h;refine⟨?_,rJ (s:=s) _ ?_⟩
  ·show (bY (aB s).1.dropLast).length<=450;have:=mJ (n5 h.1).1;rw[bY,lK this];split
   ·simp
   ·exact vJ this
  ·show (aB s).1.getLastD [] ∈ _;rw[List.getLastD_eq_getLast?,List.getLast?_eq_some_getLast h.2];exact List.getLast_mem h.2
 ·simp
theorem kT (t:Tab) (s:aA) (h:t.sz<2^40) (hs:s.length<2^40):Sp 121 [t.x,.str s] (.tup [w6 (exI (bQ t s)) (exN (bQ t s) (aD s)),.int .i64 (exC (bQ t s))]) U2:=by
 have bf:=aem s hs;have hS:=vV t (aF s).1 h (by have:=(cM s).1; omega);unfold bQ;cases e:cE t (aF s).1 with
 | error c=>
  have hc:decide (c=0)=false:=lB (fP e);rw[e] at hS;simp only[exI,exC,exN] at hS ⊢;refine Vw q7 [] 1783 [] fun w hP hQ=>?_
  refine K bf ?_;refine Kz hc (hS) ?_
  first | rfl | exact⟨rfl,rfl⟩
 | ok x=>
  rw[e] at hS;simp only[exI,exC] at hS ⊢;by_cases hk:x.kind=2
  ·have hk':decide (x.kind=2)=true:=lC hk;simp only[lK hk];refine Vw q7 [] 1783 [] fun w hP hQ=>?_
   refine K bf ?_;refine Kz hk' (hS) ?_;exact⟨rfl,rfl⟩
  ·have hk':decide (x.kind=2)=false:=lB hk;simp only[lO hk];refine Vw q7 [] 1783 [] fun w hP hQ=>?_
   refine K bf ?_;refine Kz hk' (hS) ?_;exact⟨rfl,rfl⟩
theorem jS (t:Tab) (l:List aA) (h:t.sz<2^40) (hl:l.length<2^40) (hs:∀ s ∈ l,s.length<2^40):Sp 59 [t.x,.ext 1 (l.map fD)] (.bool (l.all b4 && bE t)) U2:=by
 refine Vw ajj [] 3927 [] fun w hP hQ=>?_
 refine fB [4,6,8] ?_;refine N ?_;refine aN [4,6,8] (fun i:Nat=>[(11,.int .i64 i)]) (fun i=>i<=l.length/\∀ k,k<i->(h:k<l.length)->b4 l[k]=true) (fun i=>l.length-i) (0) hP hQ (rfl) A8 ?_;rintro i ⟨hi,hk⟩ w1 hP1 hQ1;refine N1 ?_;refine Jf (fun g=>?_) fun g=>?_
 ·have aa:i<l.length:=by omega
  have hS:=iD l[i] (hs _ (lI aa));cases hp:(aB l[i]).2 with
  | false=>
   have e:l.all b4=false:=by rw[lP4]; exact⟨_,lI aa,by simp[b4,hp]⟩
   simp +decide (maxSteps:=9^9) (disch:=omega) only[↓SB0,SX,seval,hQ,hQ1,aL g,fD];exact Kz1 (And.intro hp (And.intro e lG1)) (hS) trivial
  | true=>
   simp +decide (maxSteps:=9^9) (disch:=omega) only[↓SB0,SX,seval,hQ,hQ1,aL g,fD];refine Kz1 hp (hS) ?_;exact⟨i+1,rfl,⟨by omega,fun k h1 h2=>by
    by_cases e:k=i
    ·subst e; exact hp
    ·exact hk k A7 h2⟩,by omega⟩
 ·obtain rfl:i=l.length:=by omega
  have e:l.all b4=true:=by
   rw[lP];intro x hx;obtain⟨k,cn,rfl⟩:=lM1 hx;exact hk k cn cn
  refine N1 ?_;exact Kz (And.intro e lL4) (nL t h) trivial
theorem amY {l:List Ent} {i:Nat} (h:i<l.length) (n:aA):fU (l.take (i+1)) n=fU (l.take i) n++(if l[i].name=n then [] else [l[i]]):=by
 unfold fU acJ;rw[lV h,lQ3];congr 1;by_cases e:l[i].name=n <;> simp[e]
theorem amZ (l:List Ent) (n:aA) (hl:l.length<2^40):Sp 288 [.ext 2 (l.map Ent.row),.str n] (.own 2 ((fU l n).map Ent.row)) U2:=by
 refine Vw ajx [] 115 [] fun w hP hQ=>?_
 refine fB [] ?_;refine N ?_;refine aN [] (fun i:Nat=>[(5,.own 2 ((fU (l.take i) n).map Ent.row)),(6,.int .i64 i)]) (fun i=>i<=l.length) (fun i=>l.length-i) (0) hP hQ (rfl) A8 ?_;rintro i hi w1 hP1 hQ1;refine N1 ?_;have hc:(fU (l.take i) n).length<=l.length:=lZ4 (lH3 _ _) B0;refine Jf (fun g=>?_) fun g=>?_
 ·have ht:=amY (l:=l) (i:=i) A7 n;refine Nz1 (aL g) ?_;refine Jf (fun e=>?_) fun e=>?_
  ·rw[lK e,lX2] at ht;refine N1 ?_;exact⟨i+1,by rw[ht]; rfl,by omega,by omega⟩
  ·rw[lO e] at ht;have hb:((fU (l.take i) n).length+1)*24<=140737488355328:=by omega
   refine Nz1 (And.intro (aL g) hb) ?_;exact⟨i+1,by rw[ht,lP2]; rfl,by omega,by omega⟩
 ·obtain rfl:i=l.length:=by omega
  simp +decide (maxSteps:=9^9) (disch:=omega) only[↓SB0,SX,seval,hQ,hQ1,lX]
theorem tX {α β:Type} (f:α->β) (l:List α) (i:Nat) (h:i<l.length):(l.take (i+1)).map f=(l.take i).map f++[f l[i]]:=by
 rw[lV h,lP2]; rfl
def tab1:Tab:={ inodes:=[{ ino:=1,kind:=2,links:=0,data:=[],ents:=[],attrs:=[] }],next:=2 }
theorem akp:Sp 103 [] tab1.o []:=by
 refine Vw agU [] 1 [] fun w hP hQ=>?_
 rfl
theorem akq:Sp 149 [] tab1.o []:=by
 refine Vw agX [] 1 [] fun w hP hQ=>?_
 rfl
theorem cB (t:Tab) (h:t.sz<2^40):Sp 58 [t.x] t.o U1:=by
 obtain⟨h1,h2⟩:=bK h;refine Vw adD [] 7215 [] fun w hP hQ=>?_
 refine fB [5,5005] ?_;refine N ?_;refine aN [5,5005] (fun i:Nat=>[(12,.int .i64 i),(5003,.box [.own 6 ((t.inodes.take i).map Inode.row),.int .i64 t.next])]) (fun i=>i<=t.inodes.length) (fun i=>t.inodes.length-i) (0) hP hQ (rfl) A8 ?_;rintro i hi w1 hP1 hQ1;refine N1 ?_;refine Jf (fun h3=>?_) fun h3=>?_
 ·have ht:(t.inodes.take i).length=i:=by simp; omega
  refine Nz1 (And.intro (aL h3) ht) ?_;refine Kz1 ht (jR (t.inodes[i]'A7) (h2 _ (lI _))) ?_;exact⟨i+1,by simp only[tX _ _ _ (show i<t.inodes.length by omega)]; rfl,by omega,by omega⟩
 ·obtain rfl:i=t.inodes.length:=by omega
  simp +decide (maxSteps:=9^9) (disch:=omega) only[↓SB0,SX,seval,hQ,hQ1,lX]
theorem dW (t:Tab) (h:t.sz<2^40):Sp 146 [t.x] t.o U1:=by
 obtain⟨h1,h2⟩:=bK h;refine Vw agV [] 31 [] fun w hP hQ=>?_
 refine fB [] ?_;refine N ?_;refine aN [] (fun i:Nat=>[(4,.int .i64 i),(5003,.box [.own 6 ((t.inodes.take i).map Inode.row),.int .i64 t.next])]) (fun i=>i<=t.inodes.length) (fun i=>t.inodes.length-i) (0) hP hQ (rfl) A8 ?_;rintro i hi w1 hP1 hQ1;refine N1 ?_;refine Jf (fun h3=>?_) fun h3=>?_
 ·have ht:(t.inodes.take i).length=i:=by simp; omega
  refine Nz1 (And.intro (aL h3) ht) ?_;refine Kz1 ht (kR (t.inodes[i]'A7) (h2 _ (lI _))) ?_;exact⟨i+1,by simp only[tX _ _ _ (show i<t.inodes.length by omega)]; rfl,by omega,by omega⟩
 ·obtain rfl:i=t.inodes.length:=by omega
  simp +decide (maxSteps:=9^9) (disch:=omega) only[↓SB0,SX,seval,hQ,hQ1,lX]
theorem vW {f:Fs} {n:Nat} (h:f.sz<n):f.vols.length<n/\∀ x ∈ f.vols,x.t.sz<n:=by
 have h':szM Vol.sz f.vols<n:=h;refine⟨by simp only[szM] at h'; omega,fun x hx=>?_⟩;have:=m5 (f:=Vol.sz) hx;exact(yK (by simp only[szM] at h'; omega)).2
theorem bI (t:Fs) (h:t.sz<2^40):Sp 90 [t.x] t.o U1:=by
 obtain⟨h1,h2⟩:=vW h;refine Vw agS [] 7215 [] fun w hP hQ=>?_
 refine fB [5,5005] ?_;refine N ?_;refine aN [5,5005] (fun i:Nat=>[(12,.int .i64 i),(5003,.box [.own 6 ((t.vols.take i).map Vol.row),.int .i64 t.next])]) (fun i=>i<=t.vols.length) (fun i=>t.vols.length-i) (0) hP hQ (rfl) A8 ?_;rintro i hi w1 hP1 hQ1;refine N1 ?_;refine Jf (fun h3=>?_) fun h3=>?_
 ·have ht:(t.vols.take i).length=i:=by simp; omega
  refine Nz1 (And.intro (aL h3) ht) ?_;refine Kz1 ht (cB (t.vols[i]'A7).t (h2 _ (lI _))) ?_;exact⟨i+1,by simp only[tX _ _ _ (show i<t.vols.length by omega)]; rfl,by omega,by omega⟩
 ·obtain rfl:i=t.vols.length:=by omega
  simp +decide (maxSteps:=9^9) (disch:=omega) only[↓SB0,SX,seval,hQ,hQ1,lX]
theorem aR (t:Fs) (h:t.sz<2^40):Sp 82 [t.x] t.o U1:=by
 obtain⟨h1,h2⟩:=vW h;refine Vw agQ [] 63 [] fun w hP hQ=>?_
 refine fB [5,5005] ?_;refine N ?_;refine aN [5,5005] (fun i:Nat=>[(4,.int .i64 i),(5003,.box [.own 6 ((t.vols.take i).map Vol.row),.int .i64 t.next])]) (fun i=>i<=t.vols.length) (fun i=>t.vols.length-i) (0) hP hQ (rfl) A8 ?_;rintro i hi w1 hP1 hQ1;refine N1 ?_;refine Jf (fun h3=>?_) fun h3=>?_
 ·have ht:(t.vols.take i).length=i:=by simp; omega
  refine Nz1 (And.intro (aL h3) ht) ?_;refine Kz1 ht (dW (t.vols[i]'A7).t (h2 _ (lI _))) ?_;exact⟨i+1,by simp only[tX _ _ _ (show i<t.vols.length by omega)]; rfl,by omega,by omega⟩
 ·obtain rfl:i=t.vols.length:=by omega
  simp +decide (maxSteps:=9^9) (disch:=omega) only[↓SB0,SX,seval,hQ,hQ1,lX]
section
theorem nM {g:Nat} {cs:List TV} {p:Ent->Bool} (hc:∀ v:Ent,mU Tryz.prog g [v.x,.xbox cs] (.bool (p v)) [.undef,.undef]) (l:List Ent) (hl:l.length<2^48) :
  Sp 177 [.ext 2 (l.map Ent.row),.fn g [.xbox cs]] (.int .i64 (gU (l.findIdx? p))) U2:=by
 refine Vw q8 [] 435 [] fun w hP hQ=>?_
 refine fB [4,5] ?_;refine N ?_;refine aN [4,5] (fun i:Nat=>[(8,.int .i64 i)]) (fun i=>i<=l.length/\∀ k,k<i->(h:k<l.length)->p l[k]=false) (fun i=>l.length-i) (0) hP hQ (rfl) A8 ?_;rintro i ⟨hi,hk⟩ w1 hP1 hQ1;refine N1 ?_;refine Jf (fun h1=>?_) fun h1=>?_
 ·refine Nz1 (aL h1) ?_;cases h2:p (l[i]'A7) with
  | true=>
   refine Kz1 h2 (hc (l[i]'A7)) ?_;rw[gY hk A7 h2]; rfl
  | false=>
   refine Kz1 h2 (hc (l[i]'A7)) ?_;exact⟨i+1,rfl,⟨by omega,iL hk A7 h2⟩,by omega⟩
 ·obtain rfl:i=l.length:=by omega
  refine N1 ?_;rw[gZ fun k h=>hk k h h]; rfl
structure Kept' {α:Type} (s:Nat) (row:α->List TV) (p:α->Bool) (l:List α) (i j:Nat) (R:List (List TV)):Prop where
 lt:i<j
 le:j<=l.length
 len:R.length=l.length
 low:R.take i=((l.take j).filter fun x=>!p x).map row
 num:((l.take j).filter fun x=>!p x).length=i
 high:R.drop j=(l.drop j).map row
 wid:∀ x ∈ R,x.length=s
section
variable {α:Type} {s:Nat} {row:α->List TV} {p:α->Bool} {l:List α} {i j:Nat} {R:List (List TV)}
theorem rL {q:α->Bool} {l:List α} (h:∀ x ∈ l,q x=false):(l.filter fun x=>!q x)=l:=lU4.2 fun x hx=>by simp[h x hx]
theorem Kept'.start {k:Nat} (hr:∀ a,(row a).length=s) (h:l.findIdx? p=some k):Kept' s row p l k (k+1) (l.map row):=by
 obtain⟨h1,h2,h3⟩:=lC1.1 h;have e:(l.take (k+1)).filter (fun x=>!p x)=l.take k:=by
  rw[lV h1,lQ3,rL fun x hx=>by
   obtain⟨j,hj,rfl⟩:=lM1 hx;rw[lG5];have:=h3 j (by simp at hj; omega);simpa using this]
  simp[h2]
 exact⟨by omega,by omega,by simp,by rw[e,lL3],by rw[e]; simp; omega,by rw[lV4],fun x hx=>by obtain⟨a,_,rfl⟩:=lV2.1 hx; exact hr a⟩
theorem Kept'.at (h:Kept' s row p l i j R) (hj:j<l.length):R[j]?=some (row l[j]):=by
 have:=congrArg (fun x=>x[0]?) h.high;simp only[lY,lT3,lP1] at this;rw[this,lF hj]; rfl
theorem Kept'.skip (h:Kept' s row p l i j R) (hj:j<l.length) (hp:p l[j]=true):Kept' s row p l i (j+1) R:=by
 obtain⟨a1,a2,a3,a4,a5,a6,a7⟩:=h;have e:(l.take (j+1)).filter (fun x=>!p x)=(l.take j).filter fun x=>!p x:=by
  rw[lV hj,lQ3]; simp[hp]
 refine⟨by omega,by omega,a3,by rw[e,a4],by rw[e,a5],?_,a7⟩;rw[<-lA2,a6,<-lV4,lA2]
theorem Kept'.turn (h:Kept' s row p l i (j+1) R) {k:Nat} (h1:i<=k) (h2:k<=j) {f:List TV->List TV} (hf:∀ x,x.length=s->(f x).length=s):Kept' s row p l i (j+1) (R.modify k f):=by
 obtain⟨a1,a2,a3,a4,a5,a6,a7⟩:=h;refine⟨a1,a2,by simp[a3],?_,a5,?_,fun x hx=>?_⟩
 ·rw[<-a4];apply lB2;intro m;rw[lT,lT,lL1];split
  ·have hm':k≠m:=by omega
   simp[hm']
  ·rfl
 ·rw[<-a6];apply lB2;intro m;have hm':k≠j+1+m:=by omega
  rw[lY,lY,lL1];simp[hm']
 ·obtain⟨m,hm,rfl⟩:=lM1 hx;rw[List.getElem_modify];split
  ·exact hf _ (a7 _ (lI _))
  ·exact a7 _ (lI _)
theorem Kept'.keep (h:Kept' s row p l i j R) (hj:j<l.length) (hp:p l[j]=false) {R':List (List TV)} (hl:R'.length=l.length) (hw:∀ x ∈ R',x.length=s) (h1:R'.take i=R.take i) (h2:R'.drop (j+1)=R.drop (j+1)) {f:List TV->List TV} (hf:∀ x,x.length=s->f x=row l[j]) (hr:(row l[j]).length=s) :
  Kept' s row p l (i+1) (j+1) (R'.modify i f):=by
 obtain⟨a1,a2,a3,a4,a5,a6,a7⟩:=h;have e:(l.take (j+1)).filter (fun x=>!p x)=(l.take j).filter (fun x=>!p x)++[l[j]]:=by
  rw[lV hj,lQ3]; simp[hp]
 have hi:i<R'.length:=by omega
 refine⟨by omega,by omega,by simp[hl],?_,by rw[e]; simp; omega,?_,fun x hx=>?_⟩
 ·rw[e,lP2,<-a4,<-h1,lV (by simpa using hi),List.getElem_modify_eq,hf _ (hw _ (lI _))];congr 1;apply lB2;intro m;rw[lT,lT,lL1];split
  ·rename_i hm;have hm':i≠m:=by omega
   simp[hm']
  ·rfl
 ·have e2:(R'.modify i f).drop (j+1)=R'.drop (j+1):=by
   apply lB2;intro m;have hm':i≠j+1+m:=by omega
   rw[lY,lY,lL1];simp[hm']
  rw[e2,h2,<-lA2,a6,<-lV4,lA2]
 ·obtain⟨m,hm,rfl⟩:=lM1 hx;rw[List.getElem_modify];split
  ·rw[hf _ (hw _ (lI _))]; exact hr
  ·exact hw _ (lI _)
theorem Kept'.done (h:Kept' s row p l i l.length R):R.take i=(l.filter fun x=>!p x).map row:=by
 have:=h.low
 rwa [lX] at this
end
theorem sO {g:Nat} {cs:List TV} {p:Ent->Bool} (hc:∀ v:Ent,mU Tryz.prog g [v.x,.xbox cs] (.bool (p v)) [.undef,.undef]) (l:List Ent) (hl:l.length<2^40) :
  Sp 269 [.own 2 (l.map Ent.row),.fn g [.xbox cs]] (.own 2 ((l.filter fun x=>!p x).map Ent.row)) U2:=by
 have hI:=nM hc l A7;cases e:l.findIdx? p with
 | none=>
  have ef:(l.filter fun x=>!p x)=l:=rL (by rw[lO2] at e; exact e);rw[e] at hI;rw[ef];refine Vw jN [] 243 [] fun w hP hQ=>?_
  exact K hI trivial
 | some k=>
  obtain⟨k1,_⟩:=lC1.1 e;rw[e,show gU (some k)=(k:Int) from rfl] at hI;have hz:decide (((k:Nat):Int)=-1)=false:=lB A7;refine Vw jN [] 243 [] fun w hP hQ=>?_
  refine Kz hz (hI) ?_;refine fB [7,5007] ?_;refine N ?_;refine aN [7,5007] (fun x:Nat × Nat × List (List TV)=>[(0,.own 2 x.2.2),(5,.int .i64 (x.1:Nat)),(6,.int .i64 (x.2.1:Nat))]) (fun x=>Kept' 2 Ent.row p l x.1 x.2.1 x.2.2) (fun x=>l.length-x.2.1) ((k,k+1,l.map Ent.row)) hP hQ (rfl) (Kept'.start (fun _=>rfl) e) ?_;rintro⟨i,j,R⟩ hK w1 hP1 hQ1;refine N1 ?_;simp only at hK;have ac:=hK.len;have aa:=hK.lt;have hle:=hK.le;refine Jf (fun h1=>?_) fun h1=>?_
  ·have hj:j<l.length:=by omega
   have lg:=hK.at hj;have pg:((j:Nat):Int)<(R.length:Nat):=by omega
   cases hp:p l[j] with
   | true=>
    refine Nz1 lg ?_;refine Kz1 hp (hc l[j]) ?_;exact⟨(i,j+1,R),rfl,hK.skip hj hp,by simp only; omega⟩
   | false=>
    have hii:i<R.length:=by omega
    refine Nz1 lg ?_;refine Kz1 hp (hc l[j]) ?_;exact⟨(i+1,j+1,_),rfl,hK.keep hj hp ac hK.wid rfl rfl (fun x hx=>by rw[lZ2 (Nat.le_of_eq hx)]; rfl) rfl,by simp only; omega⟩
  ·obtain rfl:j=l.length:=by omega
   have e1:(((l.length:Nat):Int)-(i:Nat)).toNat=l.length-i:=by omega
   have e2:R.drop (i+(l.length-i))=[]:=lK3 A7;have e3:(R.take i++List.replicate (l.length-i) [TV.str [],TV.int .i64 0]).length=l.length:=by simp; omega
   have e4:(((i:Nat):Int)-0).toNat=i:=by omega
   have e5:0+i<=l.length:=by omega
   have e6:(R.take i++List.replicate (l.length-i) [TV.str [],TV.int .i64 0]).take i=(l.filter fun x=>!p x).map Ent.row:=by
    rw[lA4 B0,List.take_take,Nat.min_self,hK.done]
   exact Nz1 (And.intro ac (And.intro e1 (And.intro e2 (And.intro e3 (And.intro e4 (And.intro e5 e6)))))) trivial
theorem am0 {R:List (List TV)} {i k:Nat} (h:i<=k) (f:List TV->List TV):(R.modify k f).take i=R.take i:=by
 apply lB2;intro m;rw[lT,lT,lL1];split
 ·have hm':k≠m:=by omega
  simp[hm']
 ·rfl
theorem am1 {R:List (List TV)} {i k:Nat} (h:k<i) (f:List TV->List TV):(R.modify k f).drop i=R.drop i:=by
 apply lB2;intro m;have hm':k≠i+m:=by omega
 rw[lY,lY,lL1];simp[hm']
theorem ao2 {R:List (List TV)} {s k:Nat} {f:List TV->List TV} (hf:∀ x,x.length=s->(f x).length=s) (h:∀ x ∈ R,x.length=s):∀ x ∈ R.modify k f,x.length=s:=by
 intro x hx;obtain⟨m,hm,rfl⟩:=lM1 hx;rw[List.getElem_modify];split
 ·exact hf _ (h _ (lI _))
 ·exact h _ (lI _)
theorem akr (x:List TV) (h:x.length=6):(((x.modify 3 fun x=>TV.undef).modify 4 fun x=>TV.undef).modify 5 fun x=>TV.undef).length=6:=by simp[h]
theorem qK {g:Nat} {cs:List TV} {p:Inode->Bool} (hc:∀ v:Inode,mU Tryz.prog g [v.x,.xbox cs] (.bool (p v)) [.undef,.undef]) (l:List Inode) (hl:l.length<2^40) :
  Sp 271 [.own 6 (l.map Inode.row),.fn g [.xbox cs]] (.own 6 ((l.filter fun x=>!p x).map Inode.row)) U2:=by
 have hI:=gP hc l A7;cases e:l.findIdx? p with
 | none=>
  have ef:(l.filter fun x=>!p x)=l:=rL (by rw[lO2] at e; exact e);rw[e] at hI;rw[ef];refine Vw iO [] 243 [] fun w hP hQ=>?_
  exact K hI trivial
 | some k=>
  obtain⟨k1,_⟩:=lC1.1 e;rw[e,show gU (some k)=(k:Int) from rfl] at hI;have hz:decide (((k:Nat):Int)=-1)=false:=lB A7;refine Vw iO [] 243 [] fun w hP hQ=>?_
  refine Kz hz (hI) ?_;refine fB [7,5007] ?_;refine N ?_;refine aN [7,5007] (fun x:Nat × Nat × List (List TV)=>[(0,.own 6 x.2.2),(5,.int .i64 (x.1:Nat)),(6,.int .i64 (x.2.1:Nat))]) (fun x=>Kept' 6 Inode.row p l x.1 x.2.1 x.2.2) (fun x=>l.length-x.2.1) ((k,k+1,l.map Inode.row)) hP hQ (rfl) (Kept'.start (fun _=>rfl) e) ?_;rintro⟨i,j,R⟩ hK w1 hP1 hQ1;refine N1 ?_;simp only at hK;have ac:=hK.len;have aa:=hK.lt;have hle:=hK.le;refine Jf (fun h1=>?_) fun h1=>?_
  ·have hj:j<l.length:=by omega
   have lg:=hK.at hj;have pg:((j:Nat):Int)<(R.length:Nat):=by omega
   cases hp:p l[j] with
   | true=>
    refine Nz1 lg ?_;refine Kz1 hp (hc l[j]) ?_;exact⟨(i,j+1,_),rfl,(hK.skip hj hp).turn (k:=j) A7 (lE1 _) akr,by simp only; omega⟩
   | false=>
    have hii:i<R.length:=by omega
    refine Nz1 lg ?_;refine Kz1 hp (hc l[j]) ?_;exact⟨(i+1,j+1,_),rfl,hK.keep hj hp (by simp[ac]) (ao2 akr hK.wid) (am0 A7 _) (am1 A7 _) (fun x hx=>by rw[lZ2 (Nat.le_of_eq hx)]; rfl) rfl,by simp only; omega⟩
  ·obtain rfl:j=l.length:=by omega
   have e1:(((l.length:Nat):Int)-(i:Nat)).toNat=l.length-i:=by omega
   have e2:R.drop (i+(l.length-i))=[]:=lK3 A7;have e3:(R.take i++List.replicate (l.length-i) [TV.int .i64 0,TV.int .i64 0,TV.int .i64 0,TV.sl 1 [],TV.sl 2 [],TV.sl 2 []]).length=l.length:=by simp; omega
   have e4:(((i:Nat):Int)-0).toNat=i:=by omega
   have e5:0+i<=l.length:=by omega
   have e6:(R.take i++List.replicate (l.length-i) [TV.int .i64 0,TV.int .i64 0,TV.int .i64 0,TV.sl 1 [],TV.sl 2 [],TV.sl 2 []]).take i=(l.filter fun x=>!p x).map Inode.row:=by
    rw[lA4 B0,List.take_take,Nat.min_self,hK.done]
   exact Nz1 (And.intro ac (And.intro e1 (And.intro e2 (And.intro e3 (And.intro e4 (And.intro e5 e6)))))) trivial
theorem w7 (x:Inode) (n:Int):Sp 272 [x.x,.xbox [.int .i64 n]] (.bool (decide (x.ino=n))) U2:=by
 refine U u6 [] 15 [] fun w hP hQ=>?_
 exact N trivial
theorem sA (t:Tab) (n:Int) (h:t.sz<2^40):Sp 226 [t.x,.int .i64 n] (jX t n).o U2:=by
 obtain⟨h1,h2⟩:=bK h;have hD:=qK (fun v=>w7 v n) t.inodes A7;have e:(t.inodes.filter fun x=>!decide (x.ino=n))=(jX t n).inodes:=by
  unfold jX;congr 1;funext x;by_cases hx:x.ino=n <;> simp[hx]
 rw[e] at hD;refine Vw zZ [(271,[.m,.b],[])] 31 [] fun w hP hQ=>?_
 refine K (cB t h) ?_;refine K hD ?_;rfl
theorem aeu {α:Type} (q:α->Bool) {l:List α} {i:Nat} (h:i<l.length):(l.take (i+1)).filter q=(l.take i).filter q++if q l[i]=true then [l[i]] else []:=by
 rw[lV h,lQ3];cases e:q l[i] <;> simp[e]
theorem sB (t:Tab) (n:Int) (h:t.sz<2^40):Sp 261 [t.x,.int .i64 n] (jX t n).o U2:=by
 obtain⟨h1,h2⟩:=bK h;refine Vw aac [] 119 [] fun w hP hQ=>?_
 refine fB [] ?_;refine N ?_;refine aN [] (fun i:Nat=>[(5005,.box [.own 6 (((t.inodes.take i).filter fun x=>decide (x.ino≠n)).map Inode.row),.int .i64 t.next]),(6,.int .i64 i)]) (fun i=>i<=t.inodes.length) (fun i=>t.inodes.length-i) (0) hP hQ (rfl) A8 ?_;rintro i hi w1 hP1 hQ1;refine N1 ?_;have hc:((t.inodes.take i).filter fun x=>decide (x.ino≠n)).length<=t.inodes.length:=lZ4 (lH3 _ _) B0;refine Jf (fun g=>?_) fun g=>?_
 ·have aa:i<t.inodes.length:=by omega
  have ht:=aeu (fun x:Inode=>decide (x.ino≠n)) aa;refine Nz1 (aL g) ?_;refine Jf (fun e=>?_) fun e=>?_
  ·rw[lO (by simp[e]),lX2] at ht;refine N1 ?_;exact⟨i+1,by rw[ht]; rfl,by omega,by omega⟩
  ·rw[lK (by simpa using e)] at ht;have hb:(((t.inodes.take i).filter fun x=>decide (x.ino≠n)).length+1)*96<=140737488355328:=by omega
   refine Nz1 (aL g) ?_;refine Kz1 hb (kR (t.inodes[i]) (h2 _ (lI aa))) ?_;exact⟨i+1,by rw[ht,lP2]; rfl,by omega,by omega⟩
 ·obtain rfl:i=t.inodes.length:=by omega
  simp +decide (maxSteps:=9^9) (disch:=omega) only[↓SB0,SX,seval,hQ,hQ1,lX]
  try rfl
theorem vX {α β:Type} (f:α->β) (l:List α) (k:Nat) (x:α) (g:β->β) (hg:∀ y,l[k]?=some y->g (f y)=f x):(l.map f).modify k g=(l.set k x).map f:=by
 apply lB2;intro j;rw[lL1,lP1,lP1,lV3];by_cases e:k=j
 ·subst e;by_cases hk:k<l.length
  ·simp[hk,hg _ (lF hk)]
  ·simp[hk]
 ·simp[e]
theorem b8 (t:Tab) (x:Inode) {k:Nat} (h:t.sz<2^40) (hx:x.sz<2^40) (hu:UpI t.inodes) (hk:bM t x.ino=some k):Sp 66 [t.x,x.x] (aG t x).o U2:=by
 obtain⟨h1,h2⟩:=bK h;have aa:=r7 hk;have dv:=n8 t x.ino A7;rw[hk,show gU (some k)=(k:Int) from rfl] at dv;have e:aG t x={ inodes:=t.inodes.set k x,next:=t.next }:=by rw[aG,yC hu hk]
 have hz:decide ((0:Int)<=(k:Nat))=true:=lC A7;have hg:((k:Nat):Int)<(t.inodes.length:Nat):=by omega
 rw[e];refine Vw rU [] 127 [] fun w hP hQ=>?_
 refine K (cB t h) ?_;refine K (jR x hx) ?_;refine Kz (And.intro hz hg) (dv) ?_;rw[vX Inode.row t.inodes k x _ fun y _=>rfl]
theorem bL (t:Tab) (x:Inode) {k:Nat} (h:t.sz<2^40) (hx:x.sz<2^40) (hu:UpI t.inodes) (hk:bM t x.ino=some k):Sp 258 [t.x,x.x] (aG t x).o U2:=by
 obtain⟨h1,h2⟩:=bK h;have aa:=r7 hk;have dv:=o5 t x.ino A7;rw[hk,show gU (some k)=(k:Int) from rfl] at dv;have e:aG t x={ inodes:=t.inodes.set k x,next:=t.next }:=by rw[aG,yC hu hk]
 have hz:decide ((0:Int)<=(k:Nat))=true:=lC A7;have hg:((k:Nat):Int)<(t.inodes.length:Nat):=by omega
 rw[e];refine Vw rW [] 255 [] fun w hP hQ=>?_
 refine K (dW t h) ?_;refine Kz (And.intro hz hg) (dv) ?_;refine Kz (And.intro hz hg) (kR x hx) ?_;rw[vX Inode.row t.inodes k x _ fun y _=>rfl]
 try rfl
end
def am2 (D:Inode) (n:aA):List TV:=[.int .i64 D.ino,.int .i64 D.kind,.int .i64 D.links,.sl 1 (aJ D.data),.sl 2 (D.ents.map Ent.row),.sl 2 (D.attrs.map Attr.row),.str n]
theorem ahA (e:Ent) (D:Inode) (n:aA):Sp 270 [e.x,.xbox (am2 D n)] (.bool (decide (e.name=n))) U2:=by
 unfold am2;refine U sG [] 15 [] fun w hP hQ=>?_
 exact N trivial
theorem am3 (l:List Ent) (n:aA):(l.filter fun e=>!decide (e.name=n))=fU l n:=by
 unfold fU acJ;congr 1;funext e;by_cases h:e.name=n <;> simp[h]
theorem gQ (D:Inode) (n:aA):(gT D n).sz<=D.sz:=by
 have h1:(fU D.ents n).length<=D.ents.length:=lH3 _ _;have h2:=rH Ent.sz (fun e:Ent=>decide (e.name≠n)) D.ents;show D.data.length+((fU D.ents n).length+((fU D.ents n).map Ent.sz).sum)+szM Attr.sz D.attrs<=D.data.length+(D.ents.length+(D.ents.map Ent.sz).sum)+szM Attr.sz D.attrs;have h3:((fU D.ents n).map Ent.sz).sum<=(D.ents.map Ent.sz).sum:=h2;omega
theorem aar (t:Tab) (D:Inode) (n:aA) {k:Nat} (h:t.sz<2^40) (hD:D.sz<2^40) (hu:UpI t.inodes) (hk:bM t D.ino=some k) :
  Sp 225 [aaq D n,t.x] (aG t (gT D n)).o U2:=by
 obtain⟨h1,h2,h3⟩:=dQ hD;have hF:=sO (fun v=>ahA v D n) D.ents A7;rw[am3] at hF;have hS:=b8 t (gT D n) h (lR2 (gQ D n) hD) hu hk;unfold aaq;refine Vw wW [(269,[.m,.b],[])] 31 [] fun w hP hQ=>?_
 refine K (aam D.ents A7) ?_;refine K hF ?_;exact K hS trivial
theorem o6 (s:aA):iX s=(b4 s && !decide (s=[47])):=by
 rw[lX3,show iX s=true↔_ from abQ s];unfold b4;simp only[lM,lF4,decide_eq_false_iff_not];constructor
 ·rintro⟨h1,h2⟩; exact⟨h1,fun e=>h2 ((xT h1).2 e)⟩
 ·rintro⟨h1,h2⟩; exact⟨h1,fun e=>h2 ((xT h1).1 e)⟩
theorem gE {t:Tab} {i:Int} {x:Inode} (h:aU t i=some x):∃ k,bM t i=some k:=by
 cases e:bM t i with
 | none=>rw[yG e] at h; cases h
 | some k=>exact⟨k,rfl⟩
theorem vY (t:Tab) (s:aA) {D:Inode} (h:t.sz<2^40) (hs:s.length<2^40) (hu:UpI t.inodes) (hD:bQ t s=.ok D):Sp 260 [t.x,.str s] (aG t (gT D (aD s))).o U2:=by
 have bf:=fO s hs;have hS:=rK t (aF s).1 h (by have:=(cM s).1; omega);have eh:=(f9 hD).1;have lg:=(aS eh).2;obtain⟨k,hk⟩:=gE lg;have hz:=r9 h lg;have hC:=amZ D.ents (aD s) (dQ hz).2.1;have hI:=bL t (gT D (aD s)) h (lR2 (gQ D _) hz) hu hk;rw[eh] at hS;simp only[exI,exC] at hS;unfold aD at *;refine Vw ag0 [] 375 [] fun w hP hQ=>?_
 refine K bf ?_;refine K hS ?_;refine K hC ?_;exact K hI trivial
theorem cP {t:Tab} (h:bE t=true):UpI t.inodes:=((c9 t).1 h).tab.up
theorem acq {t:Tab} {s:aA} {X:Inode} (hB:bE t=true) (hs:iX s=true) (hX:iK t s=.ok X):∃ D kD kX,bQ t s=.ok D/\D.ino≠X.ino/\bM t D.ino=some kD/\bM (aG t (gT D (aD s))) X.ino=some kX/\1<=X.links/\X.links<=1000:=by
 have ht:=(c9 t).1 hB;obtain⟨f1,f2⟩:=f8 hX;obtain⟨D,d1,d2,_⟩:=aai ht hs f1;have a1:=(aS f1).2;have a2:=(aS (f9 d1).1).2;have am:D.ino≠X.ino:=by
  intro e;rw[e,a1] at a2;injection a2 with a2
  have:=(f9 d1).2;rw[<-a2] at this; omega
 obtain⟨kD,h1⟩:=gE a2;have a3:aU (aG t (gT D (aD s))) X.ino=some X:=by
  rw[f6 (cP hB),lO (show ¬ (gT D (aD s)).ino=X.ino from am)]; exact a1
 obtain⟨kX,h2⟩:=gE a3;have ok:=(ht.tab.ok X (aS f1).1).1;have h0:X.links≠0:=fun e=>amv ht hs f1 (ok.root.1 e)
 have:=ok.links;exact⟨D,kD,kX,d1,am,h1,h2,by omega,by omega⟩
theorem aks (t:Tab) (s:aA) (h:t.sz<2^30) (hs:s.length<2^40):Sp 155 [t.x,.str s] (.tup [(bZ t s).1.o,.int .i64 (bZ t s).2]) U2:=by
 have h':t.sz<2^40:=by omega
 have hC:=cB t h';have hR:=jS t [s] h' A8 (by simpa using hs);have hS:=o6 s;simp only[lF3,lE5,lS3,lR,lW2,fD] at hR;by_cases hc:bE t=true/\iX s=true
 ·obtain⟨hB,bz⟩:=hc;rw[bz] at hS;have hp:b4 s=true:=by cases e:b4 s <;> simp_all
  have am:decide (s=[47])=false:=by cases e:decide (s=[47]) <;> simp_all
  rw[hp,hB] at hR;have hF:=qI t s h' hs;cases hX:iK t s with
  | error c=>
   have hc:decide (c=0)=false:=lB (jQ hX);have e:bZ t s=(t,c):=by rw[bZ,lK ⟨hB,bz⟩,hX]
   rw[hX] at hF;rw[e];simp only[exC] at hF;refine Vw kI [] 503 [] fun w hP hQ=>?_
   refine K hC ?_;refine Kz am (hR) ?_
   (first|refine cI hP (hF) rfl rfl ?_|refine cH hP (hF) rfl rfl ?_)
   refine Nz hc ?_
   first|exact trivial|rfl
  | ok X=>
   obtain⟨D,kD,kX,d1,d2,d3,d4,d5,d6⟩:=acq hB bz hX;obtain⟨f1,f2⟩:=f8 hX;have zX:=r9 h' (aS f1).2;have zD:=(aS (f9 d1).1).2;have bg:=kT t s h' hs;have zt:(aG t (gT D (aD s))).sz<2^40:=by
    have:=bF t (gT D (aD s));have:=gQ D (aD s);have:=(bK h).2 D (bH zD).1;omega
   have hL:=aar t D (aD s) h' (r9 h' zD) (cP hB) d3;have hD:=sA (aG t (gT D (aD s))) X.ino zt;have hI:=b8 (aG t (gT D (aD s))) (ajQ X) zt zX (nC (cP hB) _) d4;rw[hX] at hF;rw[d1] at bg;have e:bZ t s=(oY t D (aD s) X,0):=by rw[bZ,lK ⟨hB,bz⟩,hX,d1]; rfl
   rw[f1] at hF;simp only[exC,exI,exN] at hF bg;unfold w6 at bg;unfold aaq at hL;rw[e,oY];by_cases h1:X.links=1
   ·have h1':decide (X.links-1=0)=true:=lC A7;rw[lK h1];refine Vw kI [] 503 [] fun w hP hQ=>?_
    refine K hC ?_;refine Kz am (hR) ?_;refine K hF ?_;refine K bg ?_;refine Kz h1' (hL) ?_;exact K hD trivial
   ·have h1':decide (X.links-1=0)=false:=lB A7;rw[lO h1];refine Vw kI [] 503 [] fun w hP hQ=>?_
    refine K hC ?_;refine Kz am (hR) ?_;refine K hF ?_;refine K bg ?_;refine Kz h1' (hL) ?_;exact K hI trivial
 ·have e:bZ t s=(t,1):=by rw[bZ,lO hc]
  rw[e];cases hp:(b4 s && bE t) with
  | false=>
   rw[hp] at hR;refine Vw kI [] 503 [] fun w hP hQ=>?_
   refine K hC ?_
   (first|refine cI hP (hR) rfl rfl ?_|refine cH hP (hR) rfl rfl ?_)
   refine N ?_
   first|exact trivial|rfl
  | true=>
   have am:decide (s=[47])=true:=by
    cases e:decide (s=[47]) with
    | true=>rfl
    | false=>
     simp only[lM] at hp;rw[hp.1,e] at hS;exact absurd ⟨hp.2,hS⟩ hc
   rw[hp] at hR;refine Vw kI [] 503 [] fun w hP hQ=>?_
   refine K hC ?_
   (first|refine cI hP (hR) rfl rfl ?_|refine cH hP (hR) rfl rfl ?_)
   refine Nz am ?_
   first|exact trivial|rfl
theorem akt (t:Tab) (s:aA) (h:t.sz<2^30) (hs:s.length<2^40):Sp 217 [t.x,.str s] (.tup [(bZ t s).1.o,.int .i64 (bZ t s).2]) U2:=by
 have h':t.sz<2^40:=by omega
 have hC:=dW t h';have hT:=dV t h';have bf:=fO s hs;rw[show (aF s).2.2=iX s from rfl] at bf;by_cases hc:bE t=true/\iX s=true
 ·obtain⟨hB,bz⟩:=hc;rw[hB] at hT;rw[bz] at bf;have hF:=qJ t s h' hs;cases hX:iK t s with
  | error c=>
   have hc:decide (c=0)=false:=lB (jQ hX);have e:bZ t s=(t,c):=by rw[bZ,lK ⟨hB,bz⟩,hX]
   rw[hX] at hF;rw[e];simp only[exC] at hF;refine Vw kJ [] 3895 [] fun w hP hQ=>?_
   refine K bf ?_;refine K hT ?_;refine Kz hc (hF) ?_
   (first|refine cI hP (hC) rfl rfl ?_|refine cH hP (hC) rfl rfl ?_)
   refine N ?_
   first|exact trivial|rfl
  | ok X=>
   obtain⟨D,kD,kX,d1,d2,d3,d4,d5,d6⟩:=acq hB bz hX;obtain⟨f1,f2⟩:=f8 hX;have zX:=r9 h' (aS f1).2;have zD:=(aS (f9 d1).1).2;have zt:(aG t (gT D (aD s))).sz<2^40:=by
    have:=bF t (gT D (aD s));have:=gQ D (aD s);have:=(bK h).2 D (bH zD).1;omega
   have hL:=vY t s h' hs (cP hB) d1;have hD:=sB (aG t (gT D (aD s))) X.ino zt;have hI:=bL (aG t (gT D (aD s))) (ajQ X) zt zX (nC (cP hB) _) d4;rw[hX] at hF;have e:bZ t s=(oY t D (aD s) X,0):=by rw[bZ,lK ⟨hB,bz⟩,hX,d1]; rfl
   simp only[exC,exI] at hF;rw[e,oY];by_cases h1:X.links=1
   ·have h1':decide (X.links=1)=true:=lC h1;rw[lK h1];refine Vw kJ [] 3895 [] fun w hP hQ=>?_
    refine K bf ?_;refine K hT ?_;refine K hF ?_;refine Kz h1' (hL) ?_;exact K hD trivial
   ·have h1':decide (X.links=1)=false:=lB h1;rw[lO h1];refine Vw kJ [] 3895 [] fun w hP hQ=>?_
    refine K bf ?_;refine K hT ?_;refine K hF ?_;refine Kz h1' (hL) ?_;exact K hI trivial
 ·have e:bZ t s=(t,1):=by rw[bZ,lO hc]
  rw[e];cases hB:bE t with
  | false=>
   rw[hB] at hT;refine Vw kJ [] 3895 [] fun w hP hQ=>?_
   refine K bf ?_;refine K hT ?_
   (first|refine cI hP (hC) rfl rfl ?_|refine cH hP (hC) rfl rfl ?_)
   refine N ?_
   first|exact trivial|rfl
  | true=>
   have bz:iX s=false:=by cases e:iX s <;> simp_all
   rw[hB] at hT;rw[bz] at bf;refine Vw kJ [] 3895 [] fun w hP hQ=>?_
   refine K bf ?_;refine K hT ?_
   (first|refine cI hP (hC) rfl rfl ?_|refine cH hP (hC) rfl rfl ?_)
   refine N ?_
   first|exact trivial|rfl
theorem aas (a b:aA):strLt a b=decide (a<b):=iR a b
theorem aku (a b:aA):(decide (a<b) || decide (a=b))=!decide (b<a):=by
 rw[lX3];simp only[lA5,decide_eq_true_eq,lF4,decide_eq_false_iff_not];constructor
 ·rintro(h | rfl)
  ·exact List.lt_asymm h
  ·exact List.lt_irrefl _
 ·intro h;rcases List.le_iff_lt_or_eq.1 (List.not_lt.1 h) with h | h
  ·exact .inl h
  ·exact .inr h
theorem ao3 (l:List Ent) (e:Ent):l.map Ent.row++[[TV.str e.name,TV.int .i64 e.ino]]=(l.take l.length++e::l.drop l.length).map Ent.row:=by simp[Ent.row]
theorem akv (L:List Ent) (k:Nat) (x:Ent):(L.map Ent.row).modify k (fun r=>TV.str x.name::TV.int .i64 x.ino::r.drop 2)=(L.set k x).map Ent.row:=vX Ent.row L k x _ fun _ _=>rfl
theorem af1 {l:List Ent} {k:Nat} {h:Ent} (hk:k<l.length):(((l.take (k+1)++h::l.drop (k+1))).map Ent.row)[k]?=some (Ent.row l[k]):=by rw[lP1,acb hk]; rfl
theorem aat (l:List Ent) (e:Ent) (hu:UpK Ent.name l) (hl:l.length<2^30):Sp 264 [.ext 2 (l.map Ent.row),e.x] (.own 2 ((nD l e).map Ent.row)) U2:=by
 have ft:l.length*24<=140737488355328:=by omega
 have fl:(l.length+1)*24<=140737488355328:=by omega
 refine Vw ajw [] 123 [] fun w hP hQ=>?_
 simp +decide (maxSteps:=9^9) (disch:=omega) only[↓SB0,SX,seval,hQ,aep,ft,fl,lU,aV];rw[ao3];refine fB [] ?_;refine N ?_;refine aN [] (fun s:Nat × Ent=>[(5,.own 2 ((l.take s.1++s.2::l.drop s.1).map Ent.row)),(6,.int .i64 (s.1:Nat))]) (fun s=>s.1<=l.length/\∀ j,s.1<=j->(h:j<l.length)->e.name<l[j].name) (fun s=>s.1) ((l.length,e)) hP hQ (rfl) B0 ?_;rintro⟨k,x⟩ ⟨hk,hj⟩ w1 hP1 hQ1;refine N1 ?_;simp only at hk hj;have ac:=aca (h:=x) hk;cases k with
 | zero=>
  refine Nz1 ac ?_;rw[nD,qD hu hk hj (.inl rfl)];simp[Ent.row]
 | succ k=>
  have cg:k<l.length:=by omega
  have w4:decide ((0:Int)<((k+1:Nat):Int))=true:=lC A7;simp +decide (maxSteps:=9^9) (disch:=omega) only[↓SB0,SX,seval,hQ,hQ1,w4,ac,aV,af1 (h:=x) cg,Ent.row,aas,aku];refine Jf (fun g=>?_) fun g=>?_
  ·simp +decide (maxSteps:=9^9) (disch:=omega) only[↓SB0,SX,seval,hQ,hQ1,ac,aV,af1 (h:=x) cg,Ent.row];exact⟨(k,l[k]),by simp only[akv,qE _ _ hk,yD cg],⟨by simp only; omega,fun j pb pc=>by
    by_cases e:j=k
    ·subst e; exact g
    ·exact hj j (by simp only at pb; omega) pc⟩,by simp only; omega⟩
  ·simp +decide (maxSteps:=9^9) (disch:=omega) only[↓SB0,SX,seval,hQ,hQ1,ac];rw[nD,qD hu hk hj (.inr ⟨by simpa using cg,by simpa using g⟩),akv,qE _ _ hk]
theorem yP {t:Tab} {x:Inode} (h:∀ y ∈ t.inodes,y.ino<x.ino):aG t x={ inodes:=t.inodes++[x],next:=t.next }:=by
 have:=ab9 (l:=t.inodes) (x:=x) (k:=t.inodes.length) (lE1 _) (fun j hj hl=>h _ (lI hl)) (fun h=>absurd h (Nat.lt_irrefl _));rw[aG,this]; simp
theorem akw {t:Tab} {x:Inode} (h:∀ y ∈ t.inodes,y.ino<x.ino):bM t x.ino=none:=by
 rw[bM,lO2];intro y hy;have:=h y hy;simp; omega
theorem am4 (l:List Inode):gC (l.map Inode.row)=true:=by
 rw[gC,lP];intro r hr;obtain⟨x,_,rfl⟩:=lV2.1 hr;rfl
theorem ao4 {l:List Inode} (h:l≠[]):eV (l.map Inode.row)=false:=by
 cases l with
 | nil=>exact absurd rfl h
 | cons x l=>rfl
theorem vZ (t:Tab) (x:Inode) (h:t.sz<2^30) (hx:x.sz<2^30) (am:t.inodes≠[]) (hn:∀ y ∈ t.inodes,y.ino<x.ino):Sp 258 [t.x,x.x] (aG t x).o U2:=by
 obtain⟨h1,h2⟩:=bK h;have dv:=o5 t x.ino A7;rw[akw hn] at dv;rw[yP hn];refine Vw rW [] 255 [] fun w hP hQ=>?_
 refine K (dW t A7) ?_;refine K dv ?_;refine fB [] ?_;refine N ?_;refine aN [] (fun i:Nat=>[(6,.int .i64 i)]) (fun i=>i<=t.inodes.length) (fun i=>t.inodes.length-i) (0) hP hQ (rfl) A8 ?_;rintro i hi w1 hP1 hQ1;refine N1 ?_;by_cases g:i<t.inodes.length
 ·have g1:decide (((i:Nat):Int)<(t.inodes.length:Nat))=true:=lC A7;have g2:decide ((t.inodes[i]).ino<x.ino)=true:=lC (hn _ (lI g));refine Nz1 (And.intro g1 (And.intro g2 (aL (show ((i:Nat):Int)<(t.inodes.length:Nat) by omega)))) ?_;exact⟨i+1,rfl,by omega,by omega⟩
 ·obtain rfl:i=t.inodes.length:=by omega
  have g1:decide (((t.inodes.length:Nat):Int)<(t.inodes.length:Nat))=false:=lB A7;have e1:(((t.inodes.length:Nat):Int)-0).toNat=t.inodes.length:=by omega
  have e2:(t.inodes.map Inode.row).take t.inodes.length=t.inodes.map Inode.row:=lW1 A8;have e3:0+t.inodes.length<=t.inodes.length:=by omega
  have e4:(0+t.inodes.length)*96<=140737488355328:=by omega
  have e5:=am4 t.inodes;have e6:=ao4 am;have e7:(t.inodes.map Inode.row).drop (0+t.inodes.length)=[]:=lK3 A8;have e8:(rR (t.inodes.map Inode.row)).length=t.inodes.length:=by simp[rR]
  have e9:(((t.inodes.length:Nat):Int)-((t.inodes.length:Nat):Int)).toNat=0:=by omega
  have e10:(rR (t.inodes.map Inode.row)).drop t.inodes.length=[]:=lK3 (by simp[rR]);have e11:(t.inodes.length+1)*96<=140737488355328:=by omega
  have e12:t.inodes.length+0<=t.inodes.length:=by omega
  have e13:(t.inodes.length+1+0)*96<=140737488355328:=by omega
  have e14:t.inodes.map Inode.row++[[TV.int .i64 x.ino,TV.int .i64 x.kind,TV.int .i64 x.links,TV.sl 1 (aJ x.data),TV.sl 2 (x.ents.map Ent.row),TV.sl 2 (x.attrs.map Attr.row)]]=(t.inodes++[x]).map Inode.row:=by simp[Inode.row]
  have e15:((t.inodes++[x]).length+0)*96<=140737488355328:=by simp; omega
  refine Nz1 (And.intro g1 (And.intro e1 (And.intro e2 (And.intro e3 (And.intro e4 (And.intro e5 (And.intro e6 e7))))))) ?_
  (first|refine cI hP (kR x A7) rfl rfl ?_|refine cH hP (kR x A7) rfl rfl ?_)
  simp +decide (maxSteps:=9^9) (disch:=omega) only[↓SB0,SX,seval,hQ,g1,e1,e2,e3,e4,e5,e6,e7,e8,e9,e10,e11,e12,e13,e14,e15,lX2,List.take_nil]
  try rfl
def ao5 (t:Tab) (s:aA) (f:Int):Rs Inode:=if iX s=true then o0 t s f else .error 1
theorem ao6 {t:Tab} {s:aA}:(∃ c,cE t (aF s).1=.error c/\bQ t s=.error c)\/(∃ D,cE t (aF s).1=.ok D/\¬ D.kind=2/\bQ t s=.error 3)\/∃ D,cE t (aF s).1=.ok D/\D.kind=2/\bQ t s=.ok D:=by
 unfold bQ;cases e:cE t (aF s).1 with
 | error c=>exact .inl ⟨c,rfl,rfl⟩
 | ok D=>
  by_cases hk:D.kind=2
  ·exact .inr (.inr ⟨D,rfl,hk,by simp only[lK hk]⟩)
  ·exact .inr (.inl ⟨D,rfl,hk,by simp only[lO hk]⟩)
theorem v6 (t:Tab) (s:aA) (f:Int) (h:t.sz<2^40) (hs:s.length<2^40):Sp 263 [t.x,.str s,.int .i64 f] (.tup [(exI (ao5 t s f)).o,.str (exN (ao5 t s f) (aD s)),.int .i64 (exC (ao5 t s f))]) U3:=by
 have bf:=fO s hs;have hS:=rK t (aF s).1 h (by have:=(cM s).1; omega);rw[show (aF s).2.2=iX s from rfl,show (aF s).2.1=aD s from rfl] at bf;unfold ao5;cases hb:iX s with
 | false=>
  rw[hb] at bf;rw[lO A8];refine Vw gM [] 16335 [] fun w hP hQ=>?_
  refine K bf ?_
  all_goals exact T1
 | true=>
  rw[hb] at bf;rw[lK rfl];unfold o0;rcases ao6 (t:=t) (s:=s) with ⟨c,e1,e2⟩ | ⟨D,e1,e2,e3⟩ | ⟨D,e1,e2,e3⟩
  ·have hc:decide (c=0)=false:=lB (fP e1);rw[e1] at hS;rw[e2];simp only[exI,exC,exN] at hS ⊢;refine Vw gM [] 16335 [] fun w hP hQ=>?_
   refine K bf ?_;refine Kz hc (hS) ?_
   all_goals exact T1
  ·have hk':decide (D.kind=2)=false:=lB e2;rw[e1] at hS;rw[e3];simp only[exI,exC,exN] at hS ⊢;refine Vw gM [] 16335 [] fun w hP hQ=>?_
   refine K bf ?_;refine Kz hk' (hS) ?_
   all_goals exact T1
  ·have hk':decide (D.kind=2)=true:=lC e2;have zD:=r9 h (aS e1).2;have hE:=afZ D (aD s) zD;rw[e1] at hS;rw[e3];simp only[exI,exC] at hS;by_cases h1:cA D (aD s)=0
   ·rw[h1] at hE;simp only[lK (show cA D (aF s).2.1=0 from h1)];by_cases h2:D.ents.length<10
    ·have h2':decide ((10:Int)<=(D.ents.length:Nat))=false:=lB A7;simp only[lK (Or.inl h2:D.ents.length<10\/D.ino=f),exI,exC,exN];refine Vw gM [] 16335 [] fun w hP hQ=>?_
     refine K bf ?_;refine Kz hk' (hS) ?_;exact Kz h2' (hE) trivial
    ·have h2':decide ((10:Int)<=(D.ents.length:Nat))=true:=lC A7;by_cases h3:D.ino=f
     ·have h3':decide (D.ino=f)=true:=lC h3;simp only[lK (Or.inr h3:D.ents.length<10\/D.ino=f),exI,exC,exN];refine Vw gM [] 16335 [] fun w hP hQ=>?_
      refine K bf ?_;refine Kz hk' (hS) ?_;exact Kz (And.intro h2' h3') (hE) trivial
     ·have h3':decide (D.ino=f)=false:=lB h3;simp only[lO (show ¬ (D.ents.length<10\/D.ino=f) from fun h=>h.elim h2 h3),exI,exC,exN];refine Vw gM [] 16335 [] fun w hP hQ=>?_
      refine K bf ?_;refine Kz hk' (hS) ?_;refine Kz (And.intro h2' h3') (hE) ?_
      all_goals exact T1
   ·have h1':decide (cA D (aD s)=0)=false:=lB h1;simp only[lO (show ¬ cA D (aF s).2.1=0 from h1),exI,exC,exN];refine Vw gM [] 16335 [] fun w hP hQ=>?_
    refine K bf ?_;refine Kz hk' (hS) ?_;refine Kz h1' (hE) ?_
    all_goals exact T1
theorem aqk {t:Tab} {s:aA} {f:Int} {D:Inode} (hB:bE t=true) (h:o0 t s f=.ok D):∃ k,bM t D.ino=some k/\UpK Ent.name D.ents/\D.ents.length<=10/\D ∈ t.inodes/\2<=t.next/\t.next<=1000/\D.ino<t.next:=by
 have ht:=(c9 t).1 hB;have hm:=fJ (vE h).1;obtain⟨k,hk⟩:=gE (p6 ht hm);have ok:=(l7 ht hm)
 exact⟨k,hk,ok.up,ok.len,hm,ht.tab.next.1,ht.tab.next.2,(ht.tab.ok D hm).2⟩
theorem akx (l:List Ent) (e:Ent):szM Ent.sz (nD l e)<=szM Ent.sz l+e.name.length+1:=by
 have h1:(nD l e).length=l.length+1:=aah l e;have h2:((nD l e).map Ent.sz).sum=(l.map Ent.sz).sum+e.name.length:=by
  unfold nD;induction l with
  | nil=>simp[aed,Ent.sz]
  | cons f l ih=>
   rw[aed];split
   ·simp only[lR,lK2,Ent.sz]; omega
   ·simp only[lR,lK2,ih (by exact aah l e)]; omega
 simp only[szM]; omega
theorem jY (D:Inode) (n:aA) (j:Int):(p8 D n j).sz<=D.sz+n.length+1:=by
 have:=akx D.ents ⟨n,j⟩;simp only at this;show D.data.length+szM Ent.sz (nD D.ents ⟨n,j⟩)+szM Attr.sz D.attrs<=D.data.length+szM Ent.sz D.ents+szM Attr.sz D.attrs+n.length+1;omega
theorem aky {t:Tab} {D:Inode} {n:aA} (hB:bE t=true) (hm:D ∈ t.inodes):∀ y ∈ (aG t (p8 D n t.next)).inodes,y.ino<t.next:=by
 have ht:=(c9 t).1 hB;intro y hy;rcases xV hy with rfl | hy
 ·exact(ht.tab.ok D hm).2
 ·exact(ht.tab.ok y hy).2
theorem akz (l:List Inode) (x:Inode):dJ l x≠[]:=by
 cases l with
 | nil=>simp[dJ]
 | cons y l=>rw[dJ]; split; simp; split <;> simp
theorem acr (t:Tab) (s:aA) (k:Int) (h:t.sz<2^28) (hs:s.length<2^40):Sp 255 [t.x,.str s,.int .i64 k] (.tup [(b3 t s k).1.o,.int .i64 (b3 t s k).2]) U3:=by
 have h':t.sz<2^40:=by omega
 have hC:=dW t h';have hT:=dV t h';have hN:=v6 t s 0 h' hs;unfold ao5 at hN;cases hB:bE t with
 | false=>
  have e:b3 t s k=(t,1):=by rw[b3,lO (by simp[hB])]
  rw[hB] at hT;rw[e];refine Vw iV [] 4047 [] fun w hP hQ=>?_
  refine K hT ?_;exact Kc (hC)
 | true=>
  rw[hB] at hT;cases hb:iX s with
  | false=>
   have e:b3 t s k=(t,1):=by rw[b3,lO (by simp[hb])]
   rw[hb,lO A8] at hN;rw[e];simp only[exI,exC,exN] at hN;refine Vw iV [] 4047 [] fun w hP hQ=>?_
   refine K hT ?_;refine K hN ?_;exact Kc (hC)
  | true=>
   rw[hb,lK rfl] at hN;cases hX:o0 t s 0 with
   | error c=>
    have hc:decide (c=0)=false:=lB (by
     intro e; subst e; unfold o0 at hX;split at hX
     ·split at hX
      ·split at hX <;> cases hX
      ·cases hX
     ·rename_i e2;cases hX;unfold bQ at e2;split at e2
      ·split at e2 <;> cases e2
      ·rename_i e3; cases e2; exact fP e3 rfl)
    have e:b3 t s k=(t,c):=by rw[b3,lK ⟨hB,hb⟩,hX]
    rw[hX] at hN;rw[e];simp only[exI,exC,exN] at hN;refine Vw iV [] 4047 [] fun w hP hQ=>?_
    refine K hT ?_;refine Kz hc (hN) ?_;exact Kc (hC)
   | ok D=>
    obtain⟨kD,k1,k2,k3,k4,k5,k6,k7⟩:=aqk hB hX;have e0:b3 t s k=if t.inodes.length<30/\t.next<1000 then (aoO t D (aD s) k,0) else (t,5):=by rw[b3,lK ⟨hB,hb⟩,hX]
    rw[hX] at hN;simp only[exI,exC,exN] at hN;rw[e0];by_cases g1:t.inodes.length<30
    ·have g1':decide ((30:Int)<=(t.inodes.length:Nat))=false:=lB A7;by_cases g2:t.next<1000
     ·have g2':decide ((1000:Int)<=t.next)=false:=lB A7;rw[lK ⟨g1,g2⟩];have zD:=(bK h).2 D k4;have z1:=jY D (aD s) t.next;have z2:=(cM s).2;have z3:=bF t (p8 D (aD s) t.next);have hP1:=aat D.ents ⟨aD s,t.next⟩ k2 A7;have je:=bL t (p8 D (aD s) t.next) h' A7 (cP hB) k1;have gu:=vZ (aG t (p8 D (aD s) t.next)) (apz t.next k) A7 (by show 0+(0+0)+(0+0)<2^30; omega) (akz _ _) (aky hB k4);refine Vw iV [] 4047 [] fun w hP hQ=>?_
      refine K hT ?_;refine Kz (And.intro g1' g2') (hN) ?_;refine K hC ?_;refine K hP1 ?_;refine K je ?_;refine K gu ?_;rfl
     ·have g2':decide ((1000:Int)<=t.next)=true:=lC A7;rw[lO A7];refine Vw iV [] 4047 [] fun w hP hQ=>?_
      refine K hT ?_;refine Kz (And.intro g1' g2') (hN) ?_;exact Kc (hC)
    ·have g1':decide ((30:Int)<=(t.inodes.length:Nat))=true:=lC A7;rw[lO A7];refine Vw iV [] 4047 [] fun w hP hQ=>?_
     refine K hT ?_;refine Kz g1' (hN) ?_;exact Kc (hC)
theorem ahB (t:Tab) (s:aA) (h:t.sz<2^28) (hs:s.length<2^40):Sp 213 [t.x,.str s] (.tup [(b3 t s 2).1.o,.int .i64 (b3 t s 2).2]) U2:=by
 refine Vw adS [] 55 [] fun w hP hQ=>?_
 exact K (acr t s 2 h hs) trivial
theorem aev (t:Tab) (s:aA) (h:t.sz<2^28) (hs:s.length<2^40):Sp 214 [t.x,.str s] (.tup [(b3 t s 1).1.o,.int .i64 (b3 t s 1).2]) U2:=by
 refine Vw abz [] 55 [] fun w hP hQ=>?_
 exact K (acr t s 1 h hs) trivial
theorem tY {t:Tab} {s:aA} {X:Inode} (hB:bE t=true) (hs:iX s=true) (hX:cE t s=.ok X):∃ D,bQ t s=.ok D:=by
 have ht:=(c9 t).1 hB;obtain⟨D,d1,d2,_⟩:=aai ht hs hX;exact⟨D,d1⟩
theorem acs (t:Tab) (s:aA) (h:t.sz<2^30) (hs:s.length<2^40):Sp 218 [t.x,.str s] (.tup [(cU t s).1.o,.int .i64 (cU t s).2]) U2:=by
 have h':t.sz<2^40:=by omega
 have hC:=dW t h';have hT:=dV t h';have bf:=fO s hs;rw[show (aF s).2.2=iX s from rfl] at bf;by_cases hc:bE t=true/\iX s=true
 ·obtain⟨hB,bz⟩:=hc;rw[hB] at hT;rw[bz] at bf;have hF:=rK t s h' hs;cases hX:cE t s with
  | error c=>
   have hc:decide (c=0)=false:=lB (fP hX);have e:cU t s=(t,c):=by rw[cU,lK ⟨hB,bz⟩,hX]
   rw[hX] at hF;rw[e];simp only[exI,exC] at hF;refine Vw eQ [] 1847 [] fun w hP hQ=>?_
   refine K bf ?_;refine K hT ?_;refine Kz hc (hF) ?_;exact Kc (hC)
  | ok X=>
   have e0:cU t s=if X.kind=2 then (if X.ents=[] then (jX (aG t (gT (exI (bQ t s)) (aD s))) X.ino,0) else (t,6)) else (t,3):=by rw[cU,lK ⟨hB,bz⟩,hX]
   rw[hX] at hF;rw[e0];simp only[exI,exC] at hF;have zX:=r9 h' (aS hX).2;by_cases g1:X.kind=2
   ·have g1':decide (X.kind=2)=true:=lC g1;rw[lK g1];by_cases g2:X.ents=[]
    ·have g2':decide ((0:Int)<(X.ents.length:Nat))=false:=lB (by rw[g2]; simp);obtain⟨D,d1⟩:=tY hB bz hX;rw[lK g2,d1];simp only[exI];have zD:=(aS (f9 d1).1).2;have zt:(aG t (gT D (aD s))).sz<2^40:=by
      have:=bF t (gT D (aD s));have:=gQ D (aD s);have:=(bK h).2 D (bH zD).1;omega
     have hL:=vY t s h' hs (cP hB) d1;have hD:=sB (aG t (gT D (aD s))) X.ino zt;refine Vw eQ [] 1847 [] fun w hP hQ=>?_
     refine K bf ?_;refine K hT ?_;refine Kz (And.intro g1' g2') (hF) ?_;refine K hL ?_;exact Kc (hD)
    ·have g2':decide ((0:Int)<(X.ents.length:Nat))=true:=lC (by have:=lR4.2 g2; omega);rw[lO g2];refine Vw eQ [] 1847 [] fun w hP hQ=>?_
     refine K bf ?_;refine K hT ?_;refine Kz (And.intro g1' g2') (hF) ?_;exact Kc (hC)
   ·have g1':decide (X.kind=2)=false:=lB g1;rw[lO g1];refine Vw eQ [] 1847 [] fun w hP hQ=>?_
    refine K bf ?_;refine K hT ?_;refine Kz g1' (hF) ?_;exact Kc (hC)
 ·have e:cU t s=(t,1):=by rw[cU,lO hc]
  rw[e];cases hB:bE t with
  | false=>
   rw[hB] at hT;refine Vw eQ [] 1847 [] fun w hP hQ=>?_
   refine K bf ?_;refine K hT ?_;exact Kc (hC)
  | true=>
   have bz:iX s=false:=by cases e:iX s <;> simp_all
   rw[hB] at hT;rw[bz] at bf;refine Vw eQ [] 1847 [] fun w hP hQ=>?_
   refine K bf ?_;refine K hT ?_;exact Kc (hC)
theorem akA (X:Inode):(oZ X).sz=X.sz:=rfl
theorem anI {t:Tab} {s:aA} {f:Int} {c:Int} (h:o0 t s f=.error c):c≠0:=by
 intro e;subst e;unfold o0 at h;split at h
 ·split at h
  ·split at h <;> cases h
  ·cases h
 ·rename_i e2;cases h;unfold bQ at e2;split at e2
  ·split at e2 <;> cases e2
  ·rename_i e3; cases e2; exact fP e3 rfl
theorem ao7 {t:Tab} {p q:aA} {X D:Inode} (hB:bE t=true) (hX:iK t p=.ok X) (hD:o0 t q 0=.ok D):∃ kX kD,bM t X.ino=some kX/\bM (aG t (oZ X)) D.ino=some kD/\UpI (aG t (oZ X)).inodes/\ajR t D (aD q) X=aG (aG t (oZ X)) (p8 D (aD q) X.ino)/\UpK Ent.name D.ents/\D.ents.length<=10/\X.sz+0<=X.sz/\0<=X.links/\X.links<=1000:=by
 have ht:=(c9 t).1 hB;obtain⟨f1,f2⟩:=f8 hX;have a1:=(aS f1).2;have hm:=fJ (vE hD).1;have a2:=p6 ht hm;have k2:=(f9 (vE hD).1).2;have am:D.ino≠X.ino:=by
  intro e;rw[e,a1] at a2;cases a2;omega
 obtain⟨kX,fe⟩:=gE a1;have hu:=cP hB;have a3:aU (aG t (oZ X)) D.ino=some D:=by
  rw[f6 hu,lO (show ¬ (oZ X).ino=D.ino from fun e=>am e.symm)];exact a2
 obtain⟨kD,ph⟩:=gE a3;have ok:=l7 ht hm;have l2:=(ht.tab.ok X (aS f1).1).1.links;exact⟨kX,kD,fe,ph,nC hu _,set_comm hu (show (p8 D (aD q) X.ino).ino≠(oZ X).ino from am),ok.up,ok.len,by omega,by omega,by omega⟩
theorem aew (t:Tab) (p q:aA) (h:t.sz<2^28) (hp:p.length<2^40) (hq:q.length<2^40):Sp 219 [t.x,.str p,.str q] (.tup [(eG t p q).1.o,.int .i64 (eG t p q).2]) U3:=by
 have h':t.sz<2^40:=by omega
 have hC:=dW t h';have hT:=dV t h';have bg:=dL p hp;have bf:=fO q hq;rw[show (aB p).2=b4 p from rfl] at bg;rw[show (aF q).2.2=iX q from rfl] at bf;by_cases hc:bE t=true/\b4 p=true/\iX q=true
 ·obtain⟨hB,bc,dh⟩:=hc;rw[hB] at hT;rw[bc] at bg;rw[dh] at bf;have hF:=qJ t p h' hp;cases hX:iK t p with
  | error c=>
   have hc:decide (c=0)=false:=lB (jQ hX);have e:eG t p q=(t,c):=by rw[eG,lK ⟨hB,bc,dh⟩,hX]
   rw[hX] at hF;rw[e];simp only[exI,exC] at hF;refine Vw fT [] 258767 [] fun w hP hQ=>?_
   refine K bg ?_;refine K bf ?_;refine K hT ?_;refine Kz hc (hF) ?_;exact Kc (hC)
  | ok X=>
   have hN:=v6 t q 0 h' hq;unfold ao5 at hN;rw[dh,lK rfl] at hN;rw[hX] at hF;simp only[exI,exC] at hF;cases hD:o0 t q 0 with
   | error c=>
    have hc:decide (c=0)=false:=lB (anI hD);have e:eG t p q=(t,c):=by rw[eG,lK ⟨hB,bc,dh⟩,hX]; simp only[hD]
    rw[hD] at hN;rw[e];simp only[exI,exC,exN] at hN;refine Vw fT [] 258767 [] fun w hP hQ=>?_
    refine K bg ?_;refine K bf ?_;refine K hT ?_;refine K hF ?_;refine Kz hc (hN) ?_;exact Kc (hC)
   | ok D=>
    obtain⟨kX,kD,k1,k2,k3,k4,k5,k6,k7,k8,k9⟩:=ao7 hB hX hD;have e:eG t p q=(ajR t D (aD q) X,0):=by rw[eG,lK ⟨hB,bc,dh⟩,hX]; simp only[hD]
    rw[hD] at hN;rw[e,k4];simp only[exI,exC,exN] at hN;have zX:=(bK h).2 X (aS (f8 hX).1).1;have zD:=(bK h).2 D (fJ (vE hD).1);have z1:=jY D (aD q) X.ino;have z2:=(cM q).2;have z3:=bF t (oZ X);have z4:=akA X;have hP1:=aat D.ents ⟨aD q,X.ino⟩ k5 A7;have je:=bL t (oZ X) h' A7 (cP hB) k1;have gu:=bL (aG t (oZ X)) (p8 D (aD q) X.ino) A7 A7 k3 k2;refine Vw fT [] 258767 [] fun w hP hQ=>?_
    refine K bg ?_;refine K bf ?_;refine K hT ?_;refine K hF ?_;refine K hN ?_;refine K hP1 ?_;refine K je ?_;exact Kc (gu)
 ·have e:eG t p q=(t,1):=by rw[eG,lO hc]
  rw[e];cases hB:bE t with
  | false=>
   rw[hB] at hT;refine Vw fT [] 258767 [] fun w hP hQ=>?_
   refine K bg ?_;refine K bf ?_;refine K hT ?_;exact Kc (hC)
  | true=>
   rw[hB] at hT;cases bc:b4 p with
   | false=>
    rw[bc] at bg;refine Vw fT [] 258767 [] fun w hP hQ=>?_
    refine K bg ?_;refine K bf ?_;refine K hT ?_;exact Kc (hC)
   | true=>
    have dh:iX q=false:=by cases e:iX q <;> simp_all
    rw[bc] at bg;rw[dh] at bf;refine Vw fT [] 258767 [] fun w hP hQ=>?_
    refine K bg ?_;refine K bf ?_;refine K hT ?_;exact Kc (hC)
theorem anJ {t:Tab} {x:Inode} (h:x ∈ t.inodes):x.sz<=t.sz:=by
 have:=(bK (t:=t) (n:=t.sz+1) A7).2 x h;omega
theorem am5 {t:Tab} {s:aA} {c:Int} (hB:bE t=true) (h:cE t s=.error c):(n6 t s).2=c:=by
 have ht:=(c9 t).1 hB;unfold cE at h;split at h
 ·rename_i e;have hw:=(afA (abV e) (i:=(n6 t s).1)).1 (by rw[<-e]);obtain⟨x,hx,_⟩:=ahg ht hw;rw[hx] at h;cases h
 ·cases h; rfl
theorem am6 {t:Tab} (h:TreeOk t) {D1:Inode} {d1:List aA} (s1:Spot t D1 d1) {n:aA} {l:List aA} (hp:¬ (d1++[n]) <+: l):eS (aU (aG t (gT D1 n))) l 1=eS (aU t) l 1:=by
 have hD1:=p6 h s1.mem;have map1:∀ i,aU (aG t (gT D1 n)) i=if D1.ino=i then some (gT D1 n) else aU t i:=fun i=>f6 h.tab.up _ i
 rw[aea,aea];refine aeb (fun i m him=>?_) (aee h s1) hp;by_cases h2:i=D1.ino
 ·have hm:=him.resolve_left (by simp[h2]);rw[afy (x:=gT D1 n) (by rw[map1,lK h2.symm]) m,afy (M:=aU t) (x:=D1) (by rw[h2]; exact hD1) m];have:cA (gT D1 n) m=cA D1 m:=by unfold gT; rw[ajP,if_neg hm]
  rw[this]; rfl
 ·exact ams (by rw[map1,lO (Ne.symm h2)]) m
theorem akB {t:Tab} {p q:aA} {X D2:Inode} (hB:bE t=true) (hp:iX p=true) (hq:iX q=true) (h1:cE t p=.ok X) (hb:rE p q=false) (h2:o0 t q (exI (bQ t p)).ino=.ok D2) :
  ∃ D1 k,bQ t p=.ok D1/\n6 t (aF p).1=(D1.ino,0)/\cE (aG t (gT D1 (aD p))) (aF q).1=.ok (sK D1 D2 (aD p))/\bM (aG t (gT D1 (aD p))) (sK D1 D2 (aD p)).ino=some k /\
   UpI (aG t (gT D1 (aD p))).inodes/\UpK Ent.name (sK D1 D2 (aD p)).ents/\(sK D1 D2 (aD p)).ents.length<=10/\(sK D1 D2 (aD p)).sz<=t.sz/\D1.sz<=t.sz:=by
 have ht:=(c9 t).1 hB;obtain⟨D1,e,d1,s1,he,e1,e2,s2,hn,hf,hl,hb'⟩:=aoP ht hp hq h1 hb h2;have hD1:=p6 ht s1.mem;have hD2:=p6 ht s2.mem;have okD1:=l7 ht s1.mem;have okD2:=l7 ht s2.mem;have npd2:¬ ((aB (aF p).1).1++[aD p]) <+: (aB (aF q).1).1:=fun hp=>hb' (by rw[e1]; exact hp.trans (List.prefix_append _ _))
 have w:=am6 ht s1 npd2;rw[s2.at'] at w;have at2:aU (aG t (gT D1 (aD p))) D2.ino=some (sK D1 D2 (aD p)):=by
  rw[f6 ht.tab.up];show (if D1.ino=D2.ino then _ else _)=_;unfold sK;split
  ·rfl
  ·exact hD2
 have mi:(sK D1 D2 (aD p)).ino=D2.ino:=by unfold sK; split; (rename_i hc; exact hc); rfl
 obtain⟨k,hk⟩:=gE at2;have ew:(aB (aF q).1).2=true:=(vG (f9 (vE h2).1).1).1;have z1:=anJ s1.mem;have z2:=anJ s2.mem;refine⟨D1,k,d1,(nH (f9 d1).1).1,?_,by rw[mi]; exact hk,nC ht.tab.up _,?_,?_,?_,z1⟩
 ·rw[aoX ew w,at2]
 ·unfold sK; split
  ·exact ajO okD1.up _
  ·exact okD2.up
 ·unfold sK; split
  ·have:(fU D1.ents (aD p)).length<=D1.ents.length:=lH3 _ _;have:=okD1.len;show (fU D1.ents (aD p)).length<=10;omega
  ·exact okD2.len
 ·unfold sK; split
  ·exact lZ4 (gQ D1 _) z1
  ·exact z2
theorem akC (t:Tab) (p q:aA) (h:t.sz<2^28) (hp:p.length<2^40) (hq:q.length<2^40):Sp 220 [t.x,.str p,.str q] (.tup [(eT t p q).1.o,.int .i64 (eT t p q).2]) U3:=by
 have h':t.sz<2^40:=by omega
 have hC:=dW t h';have hT:=dV t h';have jf:=fO p hp;have bf:=fO q hq;rw[show (aF p).2.2=iX p from rfl,show (aF p).2.1=aD p from rfl] at jf;rw[show (aF q).2.2=iX q from rfl,show (aF q).2.1=aD q from rfl] at bf;by_cases hc:bE t=true/\iX p=true/\iX q=true
 ·obtain⟨hB,bc,dh⟩:=hc;rw[hB] at hT;rw[bc] at jf;rw[dh] at bf;have hW:=aet t p h' hp;cases hX:cE t p with
  | error c=>
   have hc:decide (c=0)=false:=lB (fP hX);have e:eT t p q=(t,c):=by rw[eT,lK ⟨hB,bc,dh⟩,hX]
   rw[am5 hB hX] at hW;rw[e];refine Vw gK [] 41543119 [] fun w hP hQ=>?_
   refine K jf ?_;refine K bf ?_;refine K hT ?_;refine Kz hc (hW) ?_;exact Kc (hC)
  | ok X=>
   have e0:eT t p q=if rE p q=true then (t,6) else (match o0 t q (exI (bQ t p)).ino with
    | .ok D=>(aef t (exI (bQ t p)) D (aD p) (aD q) X.ino,0)
    | .error c=>(t,c)):=by rw[eT,lK ⟨hB,bc,dh⟩,hX]; rfl
   have hL:=amJ p q hp hq;rw[(nH hX).1] at hW;simp only at hW;rw[e0];cases hb:rE p q with
   | true=>
    rw[hb] at hL;rw[lK rfl];refine Vw gK [] 41543119 [] fun w hP hQ=>?_
    refine K jf ?_;refine K bf ?_;refine K hT ?_;refine K hW ?_;refine K hL ?_;exact Kc (hC)
   | false=>
    rw[hb] at hL;rw[lO A8];obtain⟨D1,d1⟩:=tY hB bc hX;have hV:=aet t (aF p).1 h' (by have:=(cM p).1; omega);rw[(nH (f9 d1).1).1] at hV;simp only at hV;have hN:=v6 t q D1.ino h' hq;unfold ao5 at hN;rw[dh,lK rfl] at hN;have e1:(exI (bQ t p)).ino=D1.ino:=by rw[d1]; rfl
    rw[e1];cases hD:o0 t q D1.ino with
    | error c=>
     have hc:decide (c=0)=false:=lB (anI hD);rw[hD] at hN;simp only[exI,exC,exN] at hN ⊢;refine Vw gK [] 41543119 [] fun w hP hQ=>?_
     refine K jf ?_;refine K bf ?_;refine K hT ?_;refine K hW ?_;refine K hL ?_;refine K hV ?_;refine Kz hc (hN) ?_;exact Kc (hC)
    | ok D2=>
     obtain⟨D1',k,k1,k2,k3,k4,k5,k6,k7,k8,k9⟩:=akB hB bc dh hX hb (by rw[e1]; exact hD);rw[d1] at k1;cases k1;rw[hD] at hN;simp only[exI,exC,exN,d1] at hN ⊢;rw[aef];have z1:=gQ D1 (aD p);have z2:=bF t (gT D1 (aD p));have z3:=jY (sK D1 D2 (aD p)) (aD q) X.ino;have z4:=(cM q).2;have z5:=(cM q).1;have lh:=vY t p h' hp (cP hB) d1;have hS:=rK (aG t (gT D1 (aD p))) (aF q).1 A7 A7;rw[k3] at hS;simp only[exI,exC] at hS;have hP1:=aat (sK D1 D2 (aD p)).ents ⟨aD q,X.ino⟩ k6 A7;have gu:=bL (aG t (gT D1 (aD p))) (p8 (sK D1 D2 (aD p)) (aD q) X.ino) A7 A7 k5 k4;refine Vw gK [] 41543119 [] fun w hP hQ=>?_
     refine K jf ?_;refine K bf ?_;refine K hT ?_;refine K hW ?_;refine K hL ?_;refine K hV ?_;refine K hN ?_;refine K lh ?_;refine K bf ?_;refine K hS ?_;refine K hP1 ?_;exact Kc (gu)
 ·have e:eT t p q=(t,1):=by rw[eT,lO hc]
  rw[e];cases hB:bE t with
  | false=>
   rw[hB] at hT;refine Vw gK [] 41543119 [] fun w hP hQ=>?_
   refine K jf ?_;refine K bf ?_;refine K hT ?_;exact Kc (hC)
  | true=>
   rw[hB] at hT;cases bc:iX p with
   | false=>
    rw[bc] at jf;refine Vw gK [] 41543119 [] fun w hP hQ=>?_
    refine K jf ?_;refine K bf ?_;refine K hT ?_;exact Kc (hC)
   | true=>
    have dh:iX q=false:=by cases e:iX q <;> simp_all
    rw[bc] at jf;rw[dh] at bf;refine Vw gK [] 41543119 [] fun w hP hQ=>?_
    refine K jf ?_;refine K bf ?_;refine K hT ?_;exact Kc (hC)
theorem akD (x a b:Int):Sp 131 [.int .i64 x,.int .i64 a,.int .i64 b] (.bool (inR x a b)) U3:=by
 refine Vw afl [] 71 [] fun w hP hQ=>?_
 refine Jg (fun h1=>?_) fun h1=>?_
 ·refine Nz h1 ?_;simp[inR,h1]
 ·refine Nz h1 ?_;simp[inR,h1]
theorem yQ (b:aA) (n:Nat):List.take n (aJ b)=aJ (b.take n):=by simp[aJ,lL3]
theorem act (b:aA) (i:Nat):aJ (b++List.replicate i 0)++[[TV.int .u8 0]]=aJ (b++List.replicate (i+1) 0):=by
 rw[List.replicate_succ',<-lM2];simp[aJ]
theorem anK {b:aA} {n i:Nat} (h1:i<=n-b.length) (h2:n<=b.length+i):b++List.replicate i 0=jP b n:=by
 rw[jP,show n-b.length=i by omega]
theorem am7 {n:Int} {a b:Int} (h:inR n a b=true):a<=n/\n<=b:=by simpa [inR] using h
theorem aex (t:Tab) (s:aA) (n:Int) (h:t.sz<2^30) (hs:s.length<2^40):Sp 216 [t.x,.str s,.int .i64 n] (.tup [(jH t s n).1.o,.int .i64 (jH t s n).2]) U3:=by
 have h':t.sz<2^40:=by omega
 have hC:=dW t h';have hT:=dV t h';have bg:=dL s hs;have hI:=akD n 0 100;rw[show (aB s).2=b4 s from rfl] at bg;by_cases hc:bE t=true/\b4 s=true/\inR n 0 100=true
 ·obtain⟨hB,bc,hi⟩:=hc;rw[hB] at hT;rw[bc] at bg;rw[hi] at hI;obtain⟨n1,n2⟩:=am7 hi;have hF:=qJ t s h' hs;cases hX:iK t s with
  | error c=>
   have hc:decide (c=0)=false:=lB (jQ hX);have e:jH t s n=(t,c):=by rw[jH,lK ⟨hB,bc,hi⟩,hX]
   rw[hX] at hF;rw[e];simp only[exI,exC] at hF;refine Vw iB [] 3791 [] fun w hP hQ=>?_
   refine K bg ?_;refine K hT ?_;refine K hI ?_;refine Kz hc (hF) ?_;exact Kc (hC)
  | ok X=>
   have e:jH t s n=(aG t (mA X ((jP X.data n.toNat).take n.toNat)),0):=by rw[jH,lK ⟨hB,bc,hi⟩,hX]
   obtain⟨kX,fe⟩:=gE (aS (f8 hX).1).2;have zX:=(bK h).2 X (aS (f8 hX).1).1;have zd:X.data.length<2^30:=by rw[Inode.sz] at zX; omega
   have zD:(mA X ((jP X.data n.toNat).take n.toNat)).sz<2^40:=by
    show ((jP X.data n.toNat).take n.toNat).length+szM Ent.sz X.ents+szM Attr.sz X.attrs<_;rw[Inode.sz] at zX;rw[lH];omega
   have hS:=bL t (mA X ((jP X.data n.toNat).take n.toNat)) h' zD (cP hB) fe;rw[hX] at hF;rw[e];simp only[exI,exC] at hF;refine Vw iB [] 3791 [] fun w hP hQ=>?_
   refine K bg ?_;refine K hT ?_;refine K hI ?_;refine K hF ?_;refine fB [] ?_;refine N ?_;refine aN [] (fun i:Nat=>[(5010,.box [.int .i64 X.ino,.int .i64 X.kind,.int .i64 X.links,.own 1 (aJ (X.data++List.replicate i 0)),.own 2 (X.ents.map Ent.row),.own 2 (X.attrs.map Attr.row)])]) (fun i=>i<=n.toNat-X.data.length) (fun i=>n.toNat-X.data.length-i) (0) hP hQ (by simp; rfl) A8 ?_;rintro i na w1 hP1 hQ1;refine N1 ?_;have hb:X.data.length+i+1<=140737488355328:=by omega
   refine Jf (fun g=>?_) fun g=>?_
   ·rw[lU,lU2] at g;simp +decide (maxSteps:=9^9) (disch:=omega) only[↓SB0,SX,seval,hQ,hQ1,hb,i9,lU,lU2];exact⟨i+1,by rw[act],by omega,by omega⟩
   ·rw[lU,lU2] at g;have hle:n<=((X.data.length+i:Nat):Int):=by omega
    rw[anK (i:=i) na A7];have fu:n<=((jP X.data n.toNat).length:Nat):=by rw[jP]; simp; omega
    refine Nz1 (And.intro fu (And.intro n1 (And.intro i9 (And.intro yQ Int.sub_zero)))) ?_;exact Kc (hS)
 ·have e:jH t s n=(t,1):=by rw[jH,lO hc]
  rw[e];cases hB:bE t with
  | false=>
   rw[hB] at hT;refine Vw iB [] 3791 [] fun w hP hQ=>?_
   refine K bg ?_;refine K hT ?_;exact Kc (hC)
  | true=>
   rw[hB] at hT;cases bc:b4 s with
   | false=>
    rw[bc] at bg;refine Vw iB [] 3791 [] fun w hP hQ=>?_
    refine K bg ?_;refine K hT ?_;exact Kc (hC)
   | true=>
    have hi:inR n 0 100=false:=by cases e:inR n 0 100 <;> simp_all
    rw[bc] at bg;rw[hi] at hI;refine Vw iB [] 3791 [] fun w hP hQ=>?_
    refine K bg ?_;refine K hT ?_;refine K hI ?_;exact Kc (hC)
theorem ao8 (l:List Attr) (e:Attr):l.map Attr.row++[[TV.str e.name,TV.str e.val]]=(l.take l.length++e::l.drop l.length).map Attr.row:=by simp[Attr.row]
theorem akE (L:List Attr) (k:Nat) (x:Attr):(L.map Attr.row).modify k (fun r=>TV.str x.name::TV.str x.val::r.drop 2)=(L.set k x).map Attr.row:=vX Attr.row L k x _ fun _ _=>rfl
theorem af2 {l:List Attr} {k:Nat} {h:Attr} (hk:k<l.length):(((l.take (k+1)++h::l.drop (k+1))).map Attr.row)[k]?=some (Attr.row l[k]):=by rw[lP1,acb hk]; rfl
theorem akF (l:List Attr) (e:Attr) (hu:UpK Attr.name l) (hl:l.length<2^30):Sp 267 [.ext 2 (l.map Attr.row),e.x] (.own 2 ((sL l e).map Attr.row)) U2:=by
 have ft:l.length*32<=140737488355328:=by omega
 have fl:(l.length+1)*32<=140737488355328:=by omega
 refine Vw ag1 [] 123 [] fun w hP hQ=>?_
 simp +decide (maxSteps:=9^9) (disch:=omega) only[↓SB0,SX,seval,hQ,aeq,ft,fl,lU,aV];rw[ao8];refine fB [] ?_;refine N ?_;refine aN [] (fun s:Nat × Attr=>[(5,.own 2 ((l.take s.1++s.2::l.drop s.1).map Attr.row)),(6,.int .i64 (s.1:Nat))]) (fun s=>s.1<=l.length/\∀ j,s.1<=j->(h:j<l.length)->e.name<l[j].name) (fun s=>s.1) ((l.length,e)) hP hQ (rfl) B0 ?_;rintro⟨k,x⟩ ⟨hk,hj⟩ w1 hP1 hQ1;refine N1 ?_;simp only at hk hj;have ac:=aca (h:=x) hk;cases k with
 | zero=>
  refine Nz1 ac ?_;rw[sL,qD hu hk hj (.inl rfl)];simp[Attr.row]
 | succ k=>
  have cg:k<l.length:=by omega
  have w4:decide ((0:Int)<((k+1:Nat):Int))=true:=lC A7;simp +decide (maxSteps:=9^9) (disch:=omega) only[↓SB0,SX,seval,hQ,hQ1,w4,ac,aV,af2 (h:=x) cg,Attr.row,aas,aku];refine Jf (fun g=>?_) fun g=>?_
  ·simp +decide (maxSteps:=9^9) (disch:=omega) only[↓SB0,SX,seval,hQ,hQ1,ac,aV,af2 (h:=x) cg,Attr.row];exact⟨(k,l[k]),by simp only[akE,qE _ _ hk,yD cg],⟨by simp only; omega,fun j pb pc=>by
    by_cases e:j=k
    ·subst e; exact g
    ·exact hj j (by simp only at pb; omega) pc⟩,by simp only; omega⟩
  ·simp +decide (maxSteps:=9^9) (disch:=omega) only[↓SB0,SX,seval,hQ,hQ1,ac];rw[sL,qD hu hk hj (.inr ⟨by simpa using cg,by simpa using g⟩),akE,qE _ _ hk]
theorem akG {l:List Attr} {i:Nat} (h:i<l.length) (n:aA):gD (l.take (i+1)) n=gD (l.take i) n++(if l[i].name=n then [] else [l[i]]):=by
 unfold gD acJ;rw[lV h,lQ3];congr 1;by_cases e:l[i].name=n <;> simp[e]
theorem aau (X:Inode) (n:aA):(jG X (gD X.attrs n)).sz<=X.sz:=by
 show X.data.length+szM Ent.sz X.ents+szM Attr.sz (gD X.attrs n)<=X.data.length+szM Ent.sz X.ents+szM Attr.sz X.attrs;have h1:(gD X.attrs n).length<=X.attrs.length:=lH3 _ _;have h2:=rH Attr.sz (fun a:Attr=>decide (a.name≠n)) X.attrs;have h3:((gD X.attrs n).map Attr.sz).sum<=(X.attrs.map Attr.sz).sum:=h2;simp only[szM]; omega
theorem aey (l:List Attr) (e:Attr):szM Attr.sz (sL l e)<=szM Attr.sz l+(e.name.length+e.val.length)+1:=by
 have h1:(sL l e).length=l.length+1:=aah l e;have h2:((sL l e).map Attr.sz).sum=(l.map Attr.sz).sum+(e.name.length+e.val.length):=by
  unfold sL;clear h1;induction l with
  | nil=>simp[aed,Attr.sz]
  | cons f l ih=>
   rw[aed];split
   ·simp only[lR,lK2,Attr.sz]; omega
   ·simp only[lR,lK2,ih]; omega
 simp only[szM]; omega
theorem ahC (t:Tab) (s n v:aA) (h:t.sz<2^28) (hs:s.length<2^40) (hn:n.length<2^30) (hv:v.length<2^40):Sp 221 [t.x,.str s,.str n,.str v] (.tup [(eU t s n v).1.o,.int .i64 (eU t s n v).2]) U4:=by
 have h':t.sz<2^40:=by omega
 have hC:=dW t h';have hT:=dV t h';have bg:=dL s hs;have hI:=bT n A7;rw[show (aB s).2=b4 s from rfl] at bg;by_cases hc:bE t=true/\b4 s=true/\aP n=true/\v.length<=16
 ·obtain⟨hB,bc,hi,dg⟩:=hc;have hv':decide ((16:Int)<(v.length:Nat))=false:=lB A7;rw[hB] at hT;rw[bc] at bg;rw[hi] at hI;have hF:=rK t s h' hs;cases hX:cE t s with
  | error c=>
   have hc:decide (c=0)=false:=lB (fP hX);have e:eU t s n v=(t,c):=by rw[eU,lK ⟨hB,bc,hi,dg⟩,hX]
   rw[hX] at hF;rw[e];simp only[exI,exC] at hF;refine Vw gL [] 64287 [] fun w hP hQ=>?_
   refine K bg ?_;refine K hT ?_;refine Kz hv' (hI) ?_;refine Kz hc (hF) ?_;exact Kc (hC)
  | ok X=>
   have e0:eU t s n v=if v=[] then (aG t (jG X (gD X.attrs n)),0) else if (gD X.attrs n).length<4 then (aG t (jG X (sL (gD X.attrs n) ⟨n,v⟩)),0) else (t,5):=by rw[eU,lK ⟨hB,bc,hi,dg⟩,hX]
   have ht:=(c9 t).1 hB;obtain⟨kX,fe⟩:=gE (aS hX).2;have zX:=(bK h).2 X (aS hX).1;have za:X.attrs.length<2^28:=by rw[Inode.sz,szM,szM] at zX; omega
   have z1:=aau X n;have zc:(gD X.attrs n).length<=X.attrs.length:=lH3 _ _;have uX:=(ht.tab.ok X (aS hX).1).1.attrs.up;rw[hX] at hF;rw[e0];simp only[exI,exC] at hF;have z2:(jG X (sL (gD X.attrs n) ⟨n,v⟩)).sz<2^40:=by
    have:=aey (gD X.attrs n) ⟨n,v⟩;simp only at this;have e1:(jG X (gD X.attrs n)).sz=X.data.length+szM Ent.sz X.ents+szM Attr.sz (gD X.attrs n):=rfl;show X.data.length+szM Ent.sz X.ents+szM Attr.sz (sL (gD X.attrs n) ⟨n,v⟩)<_;omega
   have je:=bL t (jG X (gD X.attrs n)) h' A7 (cP hB) fe;have gu:=bL t (jG X (sL (gD X.attrs n) ⟨n,v⟩)) h' z2 (cP hB) fe;have hA:=akF (gD X.attrs n) ⟨n,v⟩ (ajO uX n) A7;refine Vw gL [] 64287 [] fun w hP hQ=>?_
   refine K bg ?_;refine K hT ?_;refine Kz hv' (hI) ?_;refine K hF ?_;refine fB [] ?_;refine N ?_;refine aN [] (fun i:Nat=>[(14,.own 2 ((gD (X.attrs.take i) n).map Attr.row)),(15,.int .i64 i)]) (fun i=>i<=X.attrs.length) (fun i=>X.attrs.length-i) (0) hP hQ (rfl) A8 ?_;rintro i na w1 hP1 hQ1;refine N1 ?_;have hc:(gD (X.attrs.take i) n).length<=X.attrs.length:=lZ4 (lH3 _ _) B0;refine Jf (fun g=>?_) fun g=>?_
   ·have ht:=akG (l:=X.attrs) (i:=i) A7 n;refine Nz1 (aL g) ?_;refine Jf (fun e=>?_) fun e=>?_
    ·rw[lK e,lX2] at ht;refine N1 ?_;exact⟨i+1,by rw[ht]; rfl,by omega,by omega⟩
    ·rw[lO e] at ht;have hb:((gD (X.attrs.take i) n).length+1)*32<=140737488355328:=by omega
     refine Nz1 (And.intro (aL g) hb) ?_;exact⟨i+1,by rw[ht,lP2]; rfl,by omega,by omega⟩
   ·obtain rfl:i=X.attrs.length:=by omega
    rw[lX];by_cases g1:v=[]
    ·rw[lK g1] at hQ;subst g1;refine N1 ?_;exact Kc (je)
    ·have g1':decide (v=[])=false:=lB g1;rw[lO g1] at hQ;by_cases g2:(gD X.attrs n).length<4
     ·have g2':decide ((4:Int)<=((gD X.attrs n).length:Nat))=false:=lB A7;rw[lK g2] at hQ;refine Nz1 (And.intro g1' g2') ?_;refine K hA ?_;exact Kc (gu)
     ·have g2':decide ((4:Int)<=((gD X.attrs n).length:Nat))=true:=lC A7;rw[lO g2] at hQ;refine Nz1 (And.intro g1' g2') ?_;exact Kc (hC)
 ·have e:eU t s n v=(t,1):=by rw[eU,lO hc]
  rw[e];cases hB:bE t with
  | false=>
   rw[hB] at hT;refine Vw gL [] 64287 [] fun w hP hQ=>?_
   refine K bg ?_;refine K hT ?_;exact Kc (hC)
  | true=>
   rw[hB] at hT;cases bc:b4 s with
   | false=>
    rw[bc] at bg;refine Vw gL [] 64287 [] fun w hP hQ=>?_
    refine K bg ?_;refine K hT ?_;exact Kc (hC)
   | true=>
    rw[bc] at bg;cases hi:aP n with
    | false=>
     rw[hi] at hI;refine Vw gL [] 64287 [] fun w hP hQ=>?_
     refine K bg ?_;refine K hT ?_;refine K hI ?_;exact Kc (hC)
    | true=>
     have hv':decide ((16:Int)<(v.length:Nat))=true:=lC (by
      by_cases e:v.length<=16
      ·exact absurd ⟨hB,bc,hi,e⟩ hc
      ·omega)
     rw[hi] at hI;refine Vw gL [] 64287 [] fun w hP hQ=>?_
     refine K bg ?_;refine K hT ?_;refine Kz hv' (hI) ?_;exact Kc (hC)
theorem akH (P:aA) (y:UInt8) (k:Nat):((aJ P).modify k fun x=>TV.int .u8 ((y.toNat:Nat):Int)::List.drop 1 x)=aJ (P.set k y):=by
 simp only[aJ];rw[vX (fun b:UInt8=>[TV.int .u8 (b.toNat:Nat)]) P k y _ fun _ _=>rfl]
def wr (b:aA) (o:Nat) (d:aA) (i:Nat):aA:=b.take o++d.take i++b.drop (o+i)
theorem anL {b d:aA} {o i:Nat} (h:o+d.length<=b.length) (hi:i<=d.length):(wr b o d i).length=b.length:=by
 unfold wr; simp; omega
theorem ao9 (b d:aA) (o:Nat):wr b o d 0=b:=by unfold wr; simp
theorem apa {b d:aA} {o i:Nat} (h:o+d.length<=b.length) (hi:i<d.length):(wr b o d i).set (o+i) d[i]=wr b o d (i+1):=by
 have hA:(b.take o++d.take i).length=o+i:=by simp; omega
 unfold wr;rw[lE2 (show o+i<b.length by omega),List.set_append_right _ _ A7,hA,lL5,List.set_cons_zero,lV hi];simp only[lM2,lD2,lI1,lQ1]
theorem anM (b d:aA) (o:Nat):wr (jP b (o+d.length)) o d d.length=x4 b o d:=by
 unfold wr x4;rw[lX];congr 1;unfold jP;by_cases h:o+d.length<=b.length
 ·rw[show o+d.length-b.length=0 by omega]; simp
 ·rw[lK3 B0,lK3 A7]
theorem aez (b:aA) (n:Nat):(jP b n).length=b.length+(n-b.length):=by rw[jP]; simp
theorem am8 (b d:aA) (o:Nat):(x4 b o d).length<=b.length+o+d.length:=by
 rw[<-anM,anL (by rw[aez]; omega) (lE1 _),aez]; omega
theorem ahD (t:Tab) (s:aA) (n:Int) (d:aA) (h:t.sz<2^30) (hs:s.length<2^40) (hd:d.length<2^40):Sp 215 [t.x,.str s,.int .i64 n,.ext 1 (aJ d)] (.tup [(cV t s n d).1.o,.int .i64 (cV t s n d).2]) U4:=by
 have h':t.sz<2^40:=by omega
 have hC:=dW t h';have hT:=dV t h';have bg:=dL s hs;have hI:=akD n 0 100;rw[show (aB s).2=b4 s from rfl] at bg;by_cases hc:bE t=true/\b4 s=true/\inR n 0 100=true
 ·obtain⟨hB,bc,hi⟩:=hc;rw[hB] at hT;rw[bc] at bg;rw[hi] at hI;obtain⟨n1,n2⟩:=am7 hi;obtain⟨k,rfl⟩:=Int.eq_ofNat_of_zero_le n1;have hF:=qJ t s h' hs;cases hX:iK t s with
  | error c=>
   have hc:decide (c=0)=false:=lB (jQ hX);have e:cV t s (k:Nat) d=(t,c):=by rw[cV,lK ⟨hB,bc,hi⟩,hX]
   rw[hX] at hF;rw[e];simp only[exI,exC] at hF;refine Vw gJ [] 31519 [] fun w hP hQ=>?_
   refine K bg ?_;refine K hT ?_;refine K hI ?_;refine Kz hc (hF) ?_;exact Kc (hC)
  | ok X=>
   have e0:cV t s (k:Nat) d=if ((k:Nat):Int)+(d.length:Nat)<=100 then (aG t (mA X (x4 X.data k d)),0) else (t,5):=by rw[cV,lK ⟨hB,bc,hi⟩,hX]; rfl
   rw[hX] at hF;rw[e0];simp only[exI,exC] at hF;by_cases g0:((k:Nat):Int)+(d.length:Nat)<=100
   ·have g0':decide ((100:Int)-(k:Nat)<(d.length:Nat))=false:=lB A7;rw[lK g0];obtain⟨kX,fe⟩:=gE (aS (f8 hX).1).2;have zX:=(bK h).2 X (aS (f8 hX).1).1;have zd:X.data.length<2^30:=by rw[Inode.sz] at zX; omega
    have zp:=am8 X.data d k;have zD:(mA X (x4 X.data k d)).sz<2^40:=by
     show (x4 X.data k d).length+szM Ent.sz X.ents+szM Attr.sz X.attrs<_;rw[Inode.sz] at zX;omega
    have hS:=bL t (mA X (x4 X.data k d)) h' zD (cP hB) fe;refine Vw gJ [] 31519 [] fun w hP hQ=>?_
    refine K bg ?_;refine K hT ?_;refine K hI ?_;refine Kz g0' (hF) ?_;refine fB [] ?_;refine N ?_;refine aN [] (fun i:Nat=>[(5012,.box [.int .i64 X.ino,.int .i64 X.kind,.int .i64 X.links,.own 1 (aJ (X.data++List.replicate i 0)),.own 2 (X.ents.map Ent.row),.own 2 (X.attrs.map Attr.row)])]) (fun i=>i<=k+d.length-X.data.length) (fun i=>k+d.length-X.data.length-i) (0) hP hQ (by simp; rfl) A8 ?_;rintro i na w1 hP1 hQ1;refine N1 ?_;have hb:X.data.length+i+1<=140737488355328:=by omega
    refine Jf (fun g=>?_) fun g=>?_
    ·rw[lU,lU2] at g;simp +decide (maxSteps:=9^9) (disch:=omega) only[↓SB0,SX,seval,hQ,hQ1,hb,i9,lU,lU2];exact⟨i+1,by rw[act],by omega,by omega⟩
    ·rw[lU,lU2] at g;rw[anK (n:=k+d.length) (i:=i) na A7];have fu:=aez X.data (k+d.length);have np:k+d.length<=(jP X.data (k+d.length)).length:=by omega
     refine N1 ?_;refine fB [] ?_;refine N ?_;refine aN [] (fun i:Nat=>[(5012,.box [.int .i64 X.ino,.int .i64 X.kind,.int .i64 X.links,.own 1 (aJ (wr (jP X.data (k+d.length)) k d i)),.own 2 (X.ents.map Ent.row),.own 2 (X.attrs.map Attr.row)]),(14,.int .i64 i)]) (fun i=>i<=d.length) (fun i=>d.length-i) (0) hP hQ (by rw[ao9]; rfl) A8 ?_;rintro i hi3 w1 hP1 hQ1;refine N1 ?_;have hwl:=anL np hi3;refine Jf (fun g=>?_) fun g=>?_
     ·have aa:i<d.length:=by omega
      have hz:((k:Nat)+(i:Nat):Int).toNat=k+i:=by omega
      refine Nz1 (And.intro (aL g) (And.intro i9 (And.intro hwl (And.intro uS (And.intro akH (And.intro hz (apa np aa))))))) ?_;exact⟨i+1,rfl,by omega,by omega⟩
     ·obtain rfl:i=d.length:=by omega
      rw[anM];refine N1 ?_;exact Kc (hS)
   ·have g0':decide ((100:Int)-(k:Nat)<(d.length:Nat))=true:=lC A7;rw[lO g0];refine Vw gJ [] 31519 [] fun w hP hQ=>?_
    refine K bg ?_;refine K hT ?_;refine K hI ?_;refine Kz g0' (hF) ?_;exact Kc (hC)
 ·have e:cV t s n d=(t,1):=by rw[cV,lO hc]
  rw[e];cases hB:bE t with
  | false=>
   rw[hB] at hT;refine Vw gJ [] 31519 [] fun w hP hQ=>?_
   refine K bg ?_;refine K hT ?_;exact Kc (hC)
  | true=>
   rw[hB] at hT;cases bc:b4 s with
   | false=>
    rw[bc] at bg;refine Vw gJ [] 31519 [] fun w hP hQ=>?_
    refine K bg ?_;refine K hT ?_;exact Kc (hC)
   | true=>
    have hi:inR n 0 100=false:=by cases e:inR n 0 100 <;> simp_all
    rw[bc] at bg;rw[hi] at hI;refine Vw gJ [] 31519 [] fun w hP hQ=>?_
    refine K bg ?_;refine K hT ?_;refine K hI ?_;exact Kc (hC)
structure VolR (f:Fs) (v:Vol):Prop where
 id1:1<=v.id
 id2:v.id<f.next
 name:aP v.name=true
 lim:32<=v.limit/\v.limit<=4000
 tree:bE v.t=true
 use:(dD v.t:Int)<=v.limit
structure FsR (f:Fs):Prop where
 len:f.vols.length<=6
 next:1<=f.next/\f.next<=99
 vol:∀ v ∈ f.vols,VolR f v
 up:f.vols.Pairwise fun a b=>a.id<b.id
 names:f.vols.Pairwise fun a b=>a.name≠b.name
theorem acu {α:Type} {p:α->Bool} {l:List α} {i:Nat} (h:i<l.length):l.findIdx? p=some i↔p l[i]=true/\∀ j,(hj:j<i)->p (l[j]'A7)=false:=by
 rw[lC1];constructor
 ·rintro⟨h1,h2,h3⟩; exact⟨h2,fun j hj=>by simpa using h3 j hj⟩
 ·rintro⟨h2,h3⟩; exact⟨h,h2,fun j hj=>by simpa using h3 j hj⟩
theorem apb (o:Option Nat) (i:Nat):gU o=(i:Int)↔o=some i:=by
 cases o with
 | none=>simp[gU]
 | some k=>simp[gU]; omega
theorem acv (f:Fs):(∀ i,(h:i<f.vols.length)->cG f f.vols[i].name=some i)↔f.vols.Pairwise fun a b=>a.name≠b.name:=by
 unfold cG;rw[lN2];constructor
 ·intro h i j hi hj kz e;have:=((acu hj).1 (h j hj)).2 i kz;rw[e] at this;simp at this
 ·intro h i hi;rw[acu hi];refine⟨by simp,fun j hj=>?_⟩;have:=h j i A7 hi hj;simpa using this
theorem apc (f:Fs):fsB f=true↔FsR f:=by
 unfold fsB;simp only[lM,decide_eq_true_eq,fN];rw[nE (fun a b c h1 h2=>by simp only[mQ,decide_eq_true_eq] at *; omega)];simp only[iC,mQ,lM,decide_eq_true_eq,fN,apb];constructor
 ·rintro⟨h1,h2,h3,h4⟩;refine⟨h1,h2,fun v hv=>?_,h4,(acv f).1 fun i hi=>(h3 i hi).2.2.2.1⟩;obtain⟨i,hi,rfl⟩:=lM1 hv;obtain⟨a1,a2,a3,a4,a5,a6,a7⟩:=h3 i hi;exact⟨a1,a2,a3,a5,a6,a7⟩
 ·rintro⟨h1,h2,h3,h4,h5⟩;refine⟨h1,h2,fun i hi=>?_,h4⟩;obtain⟨a1,a2,a3,a5,a6,a7⟩:=h3 _ (lI hi);exact⟨a1,a2,a3,(acv f).2 h5 i hi,a5,a6,a7⟩
def aT (t:Tab) (o:Op):Tab × Int:=
 if o.kind=1 then b3 t o.path 2 else if o.kind=2 then b3 t o.path 1 else if o.kind=3 then cV t o.path o.off o.data else if o.kind=4 then jH t o.path o.off else
 if o.kind=5 then bZ t o.path else if o.kind=6 then cU t o.path else if o.kind=7 then eG t o.path o.to' else if o.kind=8 then eT t o.path o.to' else eU t o.path o.to' o.data
def apA (f:Fs) (k:Nat) (t:Tab):Fs:={ vols:=f.vols.modify k fun v=>{ v with t:=t },next:=f.next }
def kU (f:Fs) (o:Op):Fs × Int:=
 if fsB f=true then match mP f o.vol with
  | none=>(f,2)
  | some k=>match f.vols[k]? with
   | none=>(f,2)
   | some v=>if v.ro=true then (f,7) else if (aT v.t o).2=0 then (if (dD (aT v.t o).1:Int)<=v.limit then (apA f k (aT v.t o).1,0) else (f,8)) else (f,(aT v.t o).2)
 else (f,1)
theorem aeA (t:Tab) (o:Op) (hk:inR o.kind 1 9=true) (h:t.sz<2^28) (h1:o.path.length<2^29) (h2:o.to'.length<2^29) (h3:o.data.length<2^29) :
  Sp 145 [t.x,o.x] (.tup [(aT t o).1.o,.int .i64 (aT t o).2]) U2:=by
 obtain⟨c,v,p,q,n,d⟩:=o;simp only at h1 h2 h3;have hc:=(fN _ _ _).1 hk;simp only at hc;have hc:c=1\/c=2\/c=3\/c=4\/c=5\/c=6\/c=7\/c=8\/c=9:=by omega
 rcases hc with rfl | rfl | rfl | rfl | rfl | rfl | rfl | rfl | rfl
 ·rw[show aT t ⟨1,v,p,q,n,d⟩=b3 t p 2 from rfl];have k:=ahB t p A7 A7;generalize b3 t p 2=r at *;refine Vw c8 [] 191 [] fun w hP hQ=>?_
  exact K k trivial
 ·rw[show aT t ⟨2,v,p,q,n,d⟩=b3 t p 1 from rfl];have k:=aev t p A7 A7;generalize b3 t p 1=r at *;refine Vw c8 [] 191 [] fun w hP hQ=>?_
  exact K k trivial
 ·rw[show aT t ⟨3,v,p,q,n,d⟩=cV t p n d from rfl];have k:=ahD t p n d A7 A7 A7;generalize cV t p n d=r at *;refine Vw c8 [] 191 [] fun w hP hQ=>?_
  exact K k trivial
 ·rw[show aT t ⟨4,v,p,q,n,d⟩=jH t p n from rfl];have k:=aex t p n A7 A7;generalize jH t p n=r at *;refine Vw c8 [] 191 [] fun w hP hQ=>?_
  exact K k trivial
 ·rw[show aT t ⟨5,v,p,q,n,d⟩=bZ t p from rfl];have k:=akt t p A7 A7;generalize bZ t p=r at *;refine Vw c8 [] 191 [] fun w hP hQ=>?_
  exact K k trivial
 ·rw[show aT t ⟨6,v,p,q,n,d⟩=cU t p from rfl];have k:=acs t p A7 A7;generalize cU t p=r at *;refine Vw c8 [] 191 [] fun w hP hQ=>?_
  exact K k trivial
 ·rw[show aT t ⟨7,v,p,q,n,d⟩=eG t p q from rfl];have k:=aew t p q A7 A7 A7;generalize eG t p q=r at *;refine Vw c8 [] 191 [] fun w hP hQ=>?_
  exact K k trivial
 ·rw[show aT t ⟨8,v,p,q,n,d⟩=eT t p q from rfl];have k:=akC t p q A7 A7 A7;generalize eT t p q=r at *;refine Vw c8 [] 191 [] fun w hP hQ=>?_
  exact K k trivial
 ·rw[show aT t ⟨9,v,p,q,n,d⟩=eU t p q d from rfl];have k:=ahC t p q d A7 A7 A7 A7;generalize eU t p q d=r at *;refine Vw c8 [] 191 [] fun w hP hQ=>?_
  exact K k trivial
section
open Go.Proofs Go.Shelf Go.RowKit Go.Lib
theorem aW {P:Program} (s:Nat) (w:World) (dT sT ty e:TypeId) (b o dLen dCap:Nat) (a:Addr) (sLen sCap:Nat) (cs:List Value) (hu:P.underlying dT=some (.slice e)) (hs:(P.info? e).map (·.size)=some s)
  (hl:cs.length=(sLen.min dLen)*s) (hc:∀ (j:Nat) (v:Value),cs[j]?=some v->w.cell? (a.add j)=some v) (hd:∀ j,j<cs.length->(w.cell? ⟨b,o+j,none⟩).isSome=true) (hf:∀ j,j<cs.length->w.frozen? ⟨b,o+j,none⟩=false)
  (h1:∀ v ∈ cs,v.oneCell'=true) :
  (Builtin.copy_ #[dT,sT] ty #[.slice (some ⟨b,o,none⟩) dLen dCap,.slice (some a) sLen sCap]).run P w=.ok (goInt (sLen.min dLen:Nat)) (w.setCells b o cs):=by
 have eh:=run_storeCells_cells (P:=P) b o cs 0 w (by simpa using hd) (by simpa using hf) h1;simp only[lT3] at eh;have hfc:(Builtin.firstCells s (Nat.min sLen dLen) (.slice (some a) sLen sCap)).run P w=.ok cs.toArray w:=run_firstCells_some w s (sLen.min dLen) a sLen sCap cs hl hc;have ae:=aaZ (P:=P) (w:=w) (ts:=#[dT,sT]) (ty:=ty) (t:=dT) rfl hu (show oC P e=some s from hs) (some ⟨b,o,none⟩) (some a) dLen dCap sLen sCap cs hfc (w':=w.setCells b o cs) (fun ad ir=>by cases ir; exact eh) (fun h=>by cases h);exact ae
abbrev cJ (w:World) (b off:Nat) (cs:List Value):Prop:=∀ (j:Nat) (v:Value),cs[j]?=some v->w.cell? ⟨b,off+j,none⟩=some v
abbrev tZ (cs:List Value):Prop:=∀ v ∈ cs,v.oneCell'=true
theorem aav {α:Type} (L:List α) (m:Nat) (l:List α) (h:m+l.length<=L.length) (k:Nat):(lay L m l)[k]?=if m<=k/\k<m+l.length then l[k-m]? else L[k]?:=by
 unfold lay;rw[lM2];by_cases h1:k<m
 ·rw[lS1 (by rw[lH]; omega),lT,lK h1,lO A7]
 ·rw[lJ2 (by rw[lH]; omega),lH,lB1 A7];by_cases h2:k<m+l.length
  ·rw[lS1 A7,lK ⟨by omega,h2⟩]
  ·rw[lJ2 A7,lY,lO A7]; congr 1; omega
theorem akI {cs vs:List Value} {a s:Nat} (hv:vs.length=s) (ha:a<=cs.length) (k:Nat):(cs.take a++(vs++cs.drop a))[k]?=if k<a then cs[k]? else if k<a+s then vs[k-a]? else cs[k-s]?:=by
 by_cases h1:k<a
 ·rw[lS1 (by rw[lH]; omega),lT,lK h1,lK h1]
 ·rw[lJ2 (by rw[lH]; omega),lH,lB1 ha,lO h1];by_cases h2:k<a+s
  ·rw[lS1 A7,lK h2]
  ·rw[lJ2 A7,lY,lO h2]; congr 1; omega
structure InsAt (w w':World) (s n:Nat) (T:List Value) (B O cap:Nat):Prop where
 cell:∃ C ty fr,w'.heap[B]?=some (.cells C ty fr)/\thawS s C.size fr/\O+cap*s<=C.size/\∀ k,k<T.length->C[O+k]?=T[k]?
 room:n+1<=cap
 same:∀ b,b<w.heap.size->b≠B->w'.heap[b]?=w.heap[b]?
 grows:Grows w w'
theorem acw {w w0 w':World} {b off cap n i s:Nat} {C:Array Value} {ty:TypeId} {fr:Nat × Nat} {cs vs:List Value} (h0:w0.heap=w.heap) (h0k:Quiet w w0) (hb:w.heap[b]?=some (.cells C ty fr)) (hfr:thawS s C.size fr)
  (hcap:off+cap*s<=C.size) (ah:n+1<=cap) (hi:i<=n) (hcs:cs.length=n*s) (be:vs.length=s) (hc:∀ k,k<cs.length->C[off+k]?=cs[k]?)
  (hw:w'=(w0.setCells b (off+(i+1)*s) (cs.drop (i*s))).setCells b (off+i*s) vs):InsAt w w' s n (cs.take (i*s)++(vs++cs.drop (i*s))) b off cap:=by
 obtain⟨m,rfl⟩:∃ m,n=i+m:=⟨n-i,by omega⟩
 have me:(i+m+1)*s<=cap*s:=lJ1 s ah;have hL:(i+m)*s=i*s+m*s:=lH2 _ _ _;have lh:(i+m+1)*s=i*s+m*s+s:=by rw[lH2,lM4,hL]
 have hJ:(i+1)*s=i*s+s:=by rw[lH2,lM4]
 have cd:(cs.drop (i*s)).length=m*s:=by rw[lK1,hcs,hL]; omega
 rw[<-h0] at hb;obtain⟨C1,eg,jg,ge,cn⟩:=cF b (cs.drop (i*s)) (off+(i+1)*s) w0 C ty fr hb (by rw[cd,hJ]; omega);have gm:off+(i+1)*s+(cs.drop (i*s)).length<=C.toList.length:=by rw[cd,hJ,lD1]; omega
 have gg:C1.size=C.size:=by
  have:C1.toList.length=C.toList.length:=by rw[eg,fA _ _ _ gm]
  simpa using this
 obtain⟨C2,dz,li,ek,bd⟩:=cF b vs (off+i*s) _ C1 ty fr jg (by rw[gg,be]; omega);have gw:off+i*s+vs.length<=C1.toList.length:=by rw[be,lD1,gg]; omega
 have ew:C2.size=C.size:=by
  have:C2.toList.length=C1.toList.length:=by rw[dz,fA _ _ _ gw]
  rw[<-gg]; simpa using this
 rw[<-hw] at li ek bd;refine⟨⟨C2,ty,fr,li,by rw[ew]; exact hfr,by rw[ew]; exact hcap,fun k hk=>?_⟩,ah,fun x _ hx=>?_,?_⟩
 ·rw[akI be (by rw[hcs,hL]; omega),<-lR1,dz,aav _ _ _ gw,eg,aav _ _ _ gm,be,cd];have hk':k<i*s+m*s+s:=by
   simp only[lU,lH,be,cd,hcs,hL] at hk; omega
  by_cases c1:k<i*s
  ·rw[lK c1,lO A7,lO A7,lR1,hc k (by rw[hcs,hL]; omega)]
  ·rw[lO c1];by_cases c2:k<i*s+s
   ·rw[lK c2,lK A7]; congr 1; omega
   ·rw[lO c2,lO A7,lK A7,lY]; congr 1; omega
 ·rw[ek x hx,ge x hx,h0]
 ·refine⟨by rw[bd.size,cn.size,h0]; exact lE1 _,⟨?_,?_⟩⟩
  ·exact bd.quiet.os.trans (cn.quiet.os.trans h0k.os)
  ·exact bd.quiet.out.trans (cn.quiet.out.trans h0k.out)
theorem sC {w w':World} {n s cap:Nat} {ty:TypeId} {cs vs:List Value} {Z:Array Value} (hcs:cs.length=n*s) (be:vs.length=s) (ah:n+1<=cap) (hZ:(n+1)*s+Z.size=cap*s)
  (hw:w'=w.drew.alloc (.cells ((cs++vs).toArray++Z) ty)):InsAt w w' s n (cs.take (n*s)++(vs++cs.drop (n*s))) w.heap.size 0 cap:=by
 subst hw;have e:cs.take (n*s)++(vs++cs.drop (n*s))=cs++vs:=by rw[<-hcs,lX,List.drop_length,lX2]
 rw[e];have lh:(n+1)*s=n*s+s:=by rw[lH2,lM4]
 have hp:(w.drew.alloc (.cells ((cs++vs).toArray++Z) ty)).heap=w.heap.push (.cells ((cs++vs).toArray++Z) ty):=rfl;refine⟨⟨(cs++vs).toArray++Z,ty,(0,0),by rw[hp]; simp,⟨by intro o _ h; omega,lE1 _⟩,?_,fun k hk=>?_⟩,ah,fun b hb _=>?_,?_⟩
 ·rw[lE4,lF5,lU,hcs,be]; omega
 ·rw[lL2,lJ3 (by simpa using hk)]; simp
 ·exact iP hp hb
 ·refine⟨by rw[hp,Array.size_push]; omega,⟨rfl,rfl⟩⟩
theorem am9 {w w':World} {n i s cap:Nat} {ty:TypeId} {cs vs:List Value} {Z:Array Value} (hi:i<=n) (hcs:cs.length=n*s) (be:vs.length=s) (ah:n+1<=cap) (hZ:i*s+Z.size=cap*s)
  (hw:w'=(((w.alloc (.cells ((cs.take (i*s)).toArray++Z) ty)).drew.setCells w.heap.size (i*s) vs).drew).setCells w.heap.size ((i+1)*s) (cs.drop (i*s))) :
  InsAt w w' s n (cs.take (i*s)++(vs++cs.drop (i*s))) w.heap.size 0 cap:=by
 obtain⟨m,rfl⟩:∃ m,n=i+m:=⟨n-i,by omega⟩
 have me:(i+m+1)*s<=cap*s:=lJ1 s ah;have hL:(i+m)*s=i*s+m*s:=lH2 _ _ _;have lh:(i+m+1)*s=i*s+m*s+s:=by rw[lH2,lM4,hL]
 have hJ:(i+1)*s=i*s+s:=by rw[lH2,lM4]
 have cd:(cs.drop (i*s)).length=m*s:=by rw[lK1,hcs,hL]; omega
 obtain⟨C,hC⟩:∃ C,C=(cs.take (i*s)).toArray++Z:=⟨_,rfl⟩
 have ar:C.size=cap*s:=by
  rw[hC,lE4,lF5,lH,hcs,hL,lB1 A7]; exact hZ
 rw[<-hC] at hw;have hp:((w.alloc (.cells C ty)).drew).heap=w.heap.push (.cells C ty):=rfl;have hb:((w.alloc (.cells C ty)).drew).heap[w.heap.size]?=some (.cells C ty (0,0)):=by rw[hp]; simp
 obtain⟨C1,eg,jg,ge,cn⟩:=cF w.heap.size vs (i*s) _ C ty (0,0) hb (by rw[ar,be]; omega);have gm:i*s+vs.length<=C.toList.length:=by rw[be,lD1,ar]; omega
 have gg:C1.size=C.size:=by
  have:C1.toList.length=C.toList.length:=by rw[eg,fA _ _ _ gm]
  simpa using this
 obtain⟨C2,dz,li,ek,bd⟩:=cF w.heap.size (cs.drop (i*s)) ((i+1)*s) (((w.alloc (.cells C ty)).drew.setCells w.heap.size (i*s) vs).drew) C1 ty (0,0) jg (by rw[gg,ar,cd,hJ]; omega);have gw:(i+1)*s+(cs.drop (i*s)).length<=C1.toList.length:=by rw[cd,hJ,lD1,gg,ar]; omega
 have ew:C2.size=C.size:=by
  have:C2.toList.length=C1.toList.length:=by rw[dz,fA _ _ _ gw]
  rw[<-gg]; simpa using this
 rw[<-hw] at li ek bd;refine⟨⟨C2,ty,(0,0),li,⟨by intro o _ h; omega,lE1 _⟩,by rw[ew,ar]; omega,fun k hk=>?_⟩,ah,fun x hx am=>?_,?_⟩
 ·rw[lL2,akI be (by rw[hcs,hL]; omega),<-lR1,dz,aav _ _ _ gw,eg,aav _ _ _ gm,be,cd];have hk':k<i*s+m*s+s:=by
   simp only[lU,lH,be,cd,hcs,hL] at hk; omega
  by_cases c1:k<i*s
  ·rw[lK c1,lO A7,lO A7,lR1,hC,lJ3 (by rw[lF5,lH,hcs,hL]; omega)];rw[List.getElem?_toArray,lT,lK c1]
  ·rw[lO c1];by_cases c2:k<i*s+s
   ·rw[lK c2,lO A7,lK A7]
   ·rw[lO c2,lK A7,lY]; congr 1; omega
 ·rw[ek x am];show (((w.alloc (.cells C ty)).drew).setCells w.heap.size (i*s) vs).heap[x]?=_;rw[ge x am];exact iP hp hx
 ·have h1:(((w.alloc (.cells C ty)).drew).setCells w.heap.size (i*s) vs).drew.heap.size=w.heap.size+1:=by
   show (((w.alloc (.cells C ty)).drew).setCells w.heap.size (i*s) vs).heap.size=_;rw[cn.size,hp,Array.size_push]
  refine⟨by rw[bd.size,h1]; omega,⟨?_,?_⟩⟩
  ·rw[bd.quiet.os]; show (((w.alloc (.cells C ty)).drew).setCells w.heap.size (i*s) vs).os=_; rw[cn.quiet.os]; rfl
  ·rw[bd.quiet.out]; show (((w.alloc (.cells C ty)).drew).setCells w.heap.size (i*s) vs).output=_; rw[cn.quiet.out]; rfl
theorem ana {P:Program} {f s:Nat} {es:List (List TV)} {x:List TV} {i:Nat} (hE:mE P f) (hs:∀ r ∈ es,r.length=s) (hx:x.length=s) (hk:es.flatten.all b5=true) (hkx:x.all b5=true) (hi:i<=es.length)
  (run:∀ (w:World) (base:Option Addr) (c:Nat) (cs vs:List Value) (vb voff vc:Nat) (Cv:Array Value) (tv:TypeId) (frv:Nat × Nat),cs.length=es.length*s->vs.length=s->es.length<=c->(base=none->es.length=0/\c=0) ->
   (∀ a,base=some a->∃ b off C ty fr,a=⟨b,off,none⟩/\b≠vb/\w.heap[b]?=some (.cells C ty fr)/\thawS s C.size fr/\off+c*s<=C.size/\∀ k,k<cs.length->C[off+k]?=cs[k]?) ->
   w.heap[vb]?=some (.cells Cv tv frv)->thawS s Cv.size frv->voff+vc*s<=Cv.size->1<=vc->(∀ k,k<vs.length->Cv[voff+k]?=vs[k]?)->(∀ u ∈ cs,u.oneCell'=true)->(∀ u ∈ vs,u.oneCell'=true) ->
   Calls P f #[.slice base es.length c,.int .i64 i,.slice (some ⟨vb,voff,none⟩) 1 vc] w fun e w'=>∃ B O cap,e=.returned (.slice (some ⟨B,O,none⟩) (es.length+1) cap) /\
    InsAt w w' s es.length (cs.take (i*s)++(vs++cs.drop (i*s))) B O cap/\((∃ a,base=some a/\B=a.block)\/B=w.heap.size)) :
  mU P f [.own s es,.int .i64 i,.own s [x]] (.own s (es.take i++x::es.drop i)) U3:=by
 refine⟨hE,rfl,?_⟩;intro w zs F X r h1 h2 h3;cases r with
 | own _ F1 F2 _ s es v zs ys hr hn hF=>
 cases hn with
 | int _ _ _ _ zs _ hn=>
 cases hn with
 | own _ H1 H2 _ _ _ v2 zs2 ys2 hr2 ix gt=>
 cases ix with
 | nil _ _ hz hX=>
 rcases Row.sl_inv hr2 with ⟨_,he,_⟩ | ⟨Gv,vb,voff,vc,Cv,tv,frv,vs,rfl,fo,kb,lj,hvle,hves,hvcs,hvc,jh,hvF⟩
 ·exact absurd he A8
 have bu:vs.length=s:=by simpa using hvcs
 have e1:[x].flatten=x:=by simp
 rw[e1] at jh;have bw:∃ (base:Option Addr) (c:Nat) (cs:List Value) (Gs:aH),v=.slice base es.length c/\cs.length=es.length*s/\es.length<=c/\(base=none->es.length=0/\c=0)/\Row w true Gs cs es.flatten /\
   (∀ a,base=some a->∃ b off C ty fr,a=⟨b,off,none⟩/\b≠vb/\w.heap[b]?=some (.cells C ty fr)/\thawS s C.size fr/\off+c*s<=C.size/\∀ k,k<cs.length->C[off+k]?=cs[k]?) /\
   (∀ b,Gs b<=F1 b)/\(∀ a b,base=some a->b=a.block->Gs b+1<=F1 b):=by
  rcases Row.sl_inv hr with ⟨rfl,rfl,h0⟩ | ⟨G1,b,off,cap,C,ty,fr,cs,rfl,hb,hfr,hcap,hle,ap,hcs,hc,ak,hG⟩
  ·exact⟨none,0,[],fun _=>0,rfl,by simp,lE1 _,fun _=>⟨rfl,rfl⟩,.nil _ _ fun _=>rfl,fun a h=>(by cases h),fun b=>lP3 _,fun a b h=>(by cases h)⟩
  ·refine⟨_,cap,cs,G1,rfl,hcs,hle,fun h=>(by cases h),ak,fun a ha=>?_,fun x=>(by rw[hG]; omega),fun a x ha hx=>?_⟩
   ·injection ha with ha
    refine⟨b,off,C,ty,fr,ha.symm,?_,hb,hfr,hcap,hc⟩;intro e;have a1:=h1 b;have a2:=hF b;have a3:=gt b;have a4:=hvF b;have a5:=hG b;rw[lK e] at a4;rw[lK rfl] at a5;omega
   ·injection ha with ha
    have hxb:x=b:=by rw[hx,<-ha]
    have:=hG x;rw[lK hxb] at this;show G1 x+1<=F1 x;omega
 obtain⟨base,c,cs,Gs,rfl,hcs,hle,cu,ak,ji,hGF,ko⟩:=bw;refine(run w base c cs vs vb voff vc Cv tv frv hcs bu hle cu ji fo kb lj (by simpa using hvle) hvc (kE ak hk) (kE jh hkx)).mono ?_;rintro e w' ⟨B,O,cap,rfl,I,hB⟩;have l1:(es.take i).flatten.length=i*s:=by rw[bS _ (fun e he=>hs e (lY1 he)),lH,lB1 hi]
 have hii:i*s<=es.length*s:=lJ1 s hi;have efl:es.flatten=(es.take i).flatten++(es.drop i).flatten:=by rw[<-lV1,lJ]
 have ecs:cs=cs.take (i*s)++cs.drop (i*s):=(lJ _ _).symm;have hrow':Row w true Gs (cs.take (i*s)++cs.drop (i*s)) ((es.take i).flatten++(es.drop i).flatten):=by rw[<-ecs,<-efl]; exact ak
 obtain⟨A1,A2,r1,r2,eA⟩:=Row.split (cs.take (i*s)) _ (by rw[l1,lH,hcs]; omega) hrow';have rnew:Row w true (fun b=>A1 b+(Gv b+A2 b)) (cs.take (i*s)++(vs++cs.drop (i*s))) (es.take i++x::es.drop i).flatten:=by
  rw[lV1,lD3];exact Row.append r1 (Row.append jh r2 (fun _=>rfl)) (fun _=>rfl)
 have aa:=Row.lt rnew rfl;have jv:∀ b,A1 b+(Gv b+A2 b)<=F b:=fun b=>by have:=hF b; have:=gt b; have:=hvF b; have:=eA b; have:=hGF b; omega
 have hBl:∀ b,(if b=B then 1 else 0)+(A1 b+(Gv b+A2 b))<=1:=by
  intro b;have f1:=h1 b;by_cases e:b=B
  ·rw[lK e];rcases hB with ⟨a,ha,hBa⟩ | hB
   ·have:=ko a b ha (e.trans hBa);have:=hF b; have:=gt b; have:=hvF b; have:=eA b;omega
   ·have:¬ (A1 b+(Gv b+A2 b)≠0):=fun h=>by have:=aa b h; omega
    omega
  ·rw[lO e]; have:=jv b; omega
 have cv:j6 w w' (fun b=>A1 b+(Gv b+A2 b)):=fun b hb=>by
  refine I.same b (aa b hb) (fun e=>?_);have:=hBl b;rw[lK e] at this
  (try dsimp only at hb); omega
 obtain⟨C,ty,fr,eg,dz,hC3,hC4⟩:=I.cell;have hTl:(cs.take (i*s)++(vs++cs.drop (i*s))).length=(es.take i++x::es.drop i).length*s:=by
  have g1:(es.take i++x::es.drop i).length=es.length+1:=by simp; omega
  rw[g1];simp only[lU,lH,lK1,bu,hcs,lH2,lM4];omega
 have de:Row w' true (fun b=>(if b=B then 1 else 0)+(A1 b+(Gv b+A2 b))) [.slice (some ⟨B,O,none⟩) (es.length+1) cap] [.sl s (es.take i++x::es.drop i)]:=
  Row.of_sl (F1:=fun b=>A1 b+(Gv b+A2 b)) B0 eg dz hC3 (by have:=I.room; simp; omega)
   (fun r hr=>by
    rcases lL.1 hr with hr | hr
    ·exact hs r (lY1 hr)
    ·rcases lN.1 hr with rfl | hr
     ·exact hx
     ·exact hs r (lZ1 hr)) hTl hC4 (rnew.same cv) (fun _=>rfl)
 have hBF:∀ b,b=B->F b≠0\/w.heap.size<=b:=by
  intro b e;rcases hB with ⟨a,ha,hBa⟩ | hB
  ·left;have:=ko a b ha (e.trans hBa);have:=hF b;omega
  ·right; omega
 refine⟨_,fun b=>(if b=B then 1 else 0)+(A1 b+(Gv b+A2 b)),X,rfl,?_,hBl,fun b=>.inr (hX b),I.grows,fun b hb h0=>?_,fun b hb=>?_,fun b hb=>absurd (hX b) hb⟩
 ·exact .own _ (fun b=>(if b=B then 1 else 0)+(A1 b+(Gv b+A2 b))) (fun _=>0) X s _ _ _ _ de (.undef _ _ _ _ _ (.undef _ _ _ _ _ (.undef _ _ _ _ _ (.nil _ _ (fun _=>rfl) hX)))) (fun x=>by simp)
 ·refine I.same b hb fun e=>?_
  rcases hBF b e with h | h
  ·exact h h0
  ·omega
 ·by_cases e:b=B
  ·exact hBF b e
  ·left
   (try dsimp only at hb)
   rw[lO e] at hb;have:=jv b;omega
theorem akJ {P:Program} {f s B el:Nat} {Z:Value} (hE:mE P f) (h26:s=2\/s=6) (hB:0<B) (hZ:Z.cells.size=s)
  (shift:∀ (b off n c i vb voff vc:Nat) (cs vs:List Value) (w:World) (hi:i<n) (ah:n+1<=c) (gb:n+1<=9223372036854775807) (fo:vb≠b) (bk:cs.length=n*s) (bu:vs.length=s) (hcs:cJ w b off cs) (du:∀ j,j<(n+1)*s->(w.cell? ⟨b,off+j,none⟩).isSome=true) (ch:∀ j,j<(n+1)*s->w.frozen? ⟨b,off+j,none⟩=false) (be:cJ w vb voff vs) (fp:tZ cs) (ci:tZ vs) (tA tB:TypeId) (kA kB:Nat) (nw:w.shape? vb=some (tA,kA)) (bz:w.shape? b=some (tB,kB)) (ny:kB≠0) (ll:w.frozen? ⟨vb,voff,none⟩=false) (lm:w.frozen? ⟨vb,kA,none⟩=false),Calls P f #[.slice (some ⟨b,off,none⟩) n c,.int .i64 i,.slice (some ⟨vb,voff,none⟩) 1 vc] w fun e w'=>e=.returned (.slice (some ⟨b,off,none⟩) (n+1) c)/\w'=(w.drew.setCells b (off+(i+1)*s) (cs.drop (i*s))).setCells b (off+i*s) vs)
  (room:∀ (b off n c vb voff vc:Nat) (vs:List Value) (w:World) (ah:n+1<=c) (gb:n+1<=9223372036854775807) (bu:vs.length=s) (du:∀ j,j<s->(w.cell? ⟨b,off+n*s+j,none⟩).isSome=true) (ch:∀ j,j<s->w.frozen? ⟨b,off+n*s+j,none⟩=false) (be:cJ w vb voff vs) (ci:tZ vs),Calls P f #[.slice (some ⟨b,off,none⟩) n c,.int .i64 n,.slice (some ⟨vb,voff,none⟩) 1 vc] w fun e w'=>e=.returned (.slice (some ⟨b,off,none⟩) (n+1) c)/\w'=w.setCells b (off+n*s) vs)
  (egrow:∀ (base:Option Addr) (n c vb voff vc:Nat) (cs vs:List Value) (w:World) (jy:n<=c) (ah:c<n+1) (bn:(n+1)*B<=140737488355328) (bk:cs.length=n*s) (bu:vs.length=s) (cu:base=none->n=0) (hcs:∀ a,base=some a->∀ (j:Nat) (v:Value),cs[j]?=some v->w.cell? (a.add j)=some v) (be:cJ w vb voff vs) (ci:tZ vs),Calls P f #[.slice base n c,.int .i64 n,.slice (some ⟨vb,voff,none⟩) 1 vc] w fun e w'=>e=.returned (.slice (some ⟨w.heap.size,0,none⟩) (n+1) (grownCap w (n+1) c el))/\w'=w.drew.alloc (.cells ((cs++vs).toArray++Builtin.zeroCells Z.cells (grownCap w (n+1) c el-(n+1))) el))
  (grow:∀ (b off n c i vb voff vc:Nat) (cs vs:List Value) (w:World) (hi:i<n) (jy:n<=c) (ah:c<n+1) (bn:(n+1)*B<=140737488355328) (bk:cs.length=n*s) (bu:vs.length=s) (hcs:cJ w b off cs) (be:cJ w vb voff vs) (fp:tZ cs) (ci:tZ vs),Calls P f #[.slice (some ⟨b,off,none⟩) n c,.int .i64 i,.slice (some ⟨vb,voff,none⟩) 1 vc] w fun e w'=>e=.returned (.slice (some ⟨w.heap.size,0,none⟩) (n+1) (grownCap w (n+1) c el))/\w'=(((w.alloc (.cells ((cs.take (i*s)).toArray++Builtin.zeroCells Z.cells (n+1-i)++Builtin.zeroCells Z.cells (grownCap w (n+1) c el-(n+1))) el)).drew.setCells w.heap.size (i*s) vs).drew).setCells w.heap.size ((i+1)*s) (cs.drop (i*s)))
  (es:List (List TV)) (x:List TV) (i:Nat) (hs:∀ r ∈ es,r.length=s) (hx:x.length=s) (hk:es.flatten.all b5=true) (hkx:x.all b5=true) (hi:i<=es.length) (bn:(es.length+1)*B<=140737488355328) :
  mU P f [.own s es,.int .i64 i,.own s [x]] (.own s (es.take i++x::es.drop i)) U3:=by
 have jr:es.length+1<=140737488355328:=lZ4 (Nat.le_mul_of_pos_right _ hB) bn;refine ana (s:=s) hE hs hx hk hkx hi ?_;intro w base c cs vs vb voff vc Cv tv frv hcs bu hle cu ji fo kb lj hvc1 hvc fp ci;clear hs hx hk hkx;generalize es.length=n at *;obtain⟨c6,hc6⟩:∃ c6,c6=c*s:=⟨_,rfl⟩
 rcases h26 with rfl | rfl
 all_goals
  have be:∀ (j:Nat) (v:Value),vs[j]?=some v->w.cell? ⟨vb,voff+j,none⟩=some v:=by
   intro j v hj;have:=hvc j (lG.1 hj).1;simp[World.cell?,fo,this,hj]
  have hz6:∀ m,(Builtin.zeroCells Z.cells m).size=m*Z.cells.size:=fun m=>size_zeroCells _ _
  cases base with
  | none=>
   obtain⟨rfl,rfl⟩:=cu rfl;have cj:i=0:=by omega
   subst cj;have hg:=grownCap_ge w (0+1) 0 el;refine(egrow none 0 0 vb voff vc cs vs w A7 A7 bn hcs bu (fun _=>rfl) (fun a h=>by cases h) be ci).mono ?_;rintro e w' ⟨rfl,hw⟩;refine⟨w.heap.size,0,_,rfl,?_,.inr rfl⟩;exact sC  (n:=0) hcs bu hg (by rw[hz6,hZ]; omega) hw
  | some a=>
   obtain⟨b,off,C,ty,fr,rfl,am,hb,hfr,hcap,hc⟩:=ji a rfl;have al:∀ (j:Nat) (v:Value),cs[j]?=some v->w.cell? ⟨b,off+j,none⟩=some v:=by
    intro j v hj;have:=hc j (lG.1 hj).1;simp[World.cell?,hb,this,hj]
   have du:∀ j,j<c6->(w.cell? ⟨b,off+j,none⟩).isSome=true:=by
    intro j hj;have:off+j<C.size:=by omega
    simp[World.cell?,hb,this]
   have ch:∀ j,j<c6->w.frozen? ⟨b,off+j,none⟩=false:=by
    intro j hj;have:=hfr.1 (off+j) (.inl A7);simp[World.frozen?,hb];simpa using this
   have hg:=grownCap_ge w (n+1) c el;by_cases dq:i=n
   ·subst dq;by_cases ah:i+1<=c
    ·refine(room b off i c vb voff vc vs w ah A7 bu (fun j hj=>by rw[lQ1]; exact du _ A7) (fun j hj=>by rw[lQ1]; exact ch _ A7) be ci).mono ?_;rintro e w' ⟨rfl,hw⟩;refine⟨b,off,_,rfl,?_,.inl ⟨_,rfl,rfl⟩⟩;refine acw  (w0:=w) rfl ⟨rfl,rfl⟩ hb hfr hcap ah (lE1 _) hcs bu hc ?_;rw[lK3 A7]; exact hw
    ·refine(egrow (some ⟨b,off,none⟩) i c vb voff vc cs vs w hle A7 bn hcs bu (fun h=>by cases h) (fun a ha j v hj=>by injection ha with ha; subst ha; rw[Addr.add_lit]; exact al j v hj) be ci).mono ?_;rintro e w' ⟨rfl,hw⟩;refine⟨w.heap.size,0,_,rfl,?_,.inr rfl⟩;exact sC  hcs bu hg (by rw[hz6,hZ]; omega) hw
   ·have aa:i<n:=by omega
    by_cases ah:n+1<=c
    ·have ll:w.frozen? ⟨vb,voff,none⟩=false:=by
      have:=kb.1 voff (.inl A7);simp[World.frozen?,fo];simpa using this
     have lm:w.frozen? ⟨vb,Cv.size,none⟩=false:=by
      have:=kb.1 Cv.size (.inr ⟨by decide,rfl⟩);simp[World.frozen?,fo];simpa using this
     refine(shift b off n c i vb voff vc cs vs w aa ah A7 (Ne.symm am) hcs bu al (fun j hj=>du j A7) (fun j hj=>ch j A7) be fp ci tv ty Cv.size C.size
      (by simp[World.shape?,fo]) (by simp[World.shape?,hb]) A7 ll lm).mono ?_
     rintro e w' ⟨rfl,hw⟩;refine⟨b,off,_,rfl,?_,.inl ⟨_,rfl,rfl⟩⟩;exact acw  (w0:=w.drew) rfl ⟨rfl,rfl⟩ hb hfr hcap ah A7 hcs bu hc hw
    ·refine(grow b off n c i vb voff vc cs vs w aa hle A7 bn hcs bu al be fp ci).mono ?_;rintro e w' ⟨rfl,hw⟩;refine⟨w.heap.size,0,_,rfl,?_,.inr rfl⟩;rw[Array.append_assoc] at hw;exact am9  A7 hcs bu hg (by rw[lE4,hz6,hz6,hZ]; omega) hw
end
section
open Go.Proofs Go.Shelf Go.RowKit Go.Lib
theorem aaw:type_of% (And.intro (by kernel_rfl:Tryz.prog.follows .mixedOrders=true) (And.intro Tryz.underlying0 (And.intro Tryz.isAgg0 (And.intro Tryz.sizeOf0 (And.intro Tryz.zeroValue0 (And.intro Tryz.underlying3 (And.intro Tryz.isAgg3 (And.intro Tryz.sizeOf3 (And.intro Tryz.zeroValue3 (And.intro Tryz.underlying4 (And.intro Tryz.isAgg4 (And.intro Tryz.sizeOf4 (And.intro Tryz.zeroValue4 (And.intro Tryz.underlying24 (And.intro Tryz.isAgg24 (And.intro Tryz.sizeOf24 (And.intro Tryz.zeroValue24 (Tryz.zeroValue84)))))))))))))))))):=And.intro (by kernel_rfl:Tryz.prog.follows .mixedOrders=true) (And.intro Tryz.underlying0 (And.intro Tryz.isAgg0 (And.intro Tryz.sizeOf0 (And.intro Tryz.zeroValue0 (And.intro Tryz.underlying3 (And.intro Tryz.isAgg3 (And.intro Tryz.sizeOf3 (And.intro Tryz.zeroValue3 (And.intro Tryz.underlying4 (And.intro Tryz.isAgg4 (And.intro Tryz.sizeOf4 (And.intro Tryz.zeroValue4 (And.intro Tryz.underlying24 (And.intro Tryz.isAgg24 (And.intro Tryz.sizeOf24 (And.intro Tryz.zeroValue24 (Tryz.zeroValue84)))))))))))))))))
theorem qL (b off n c i vb voff vc:Nat) (cs vs:List Value) (w:World) (hi:i<n) (ah:n+1<=c) (gb:n+1<=9223372036854775807) (fo:vb≠b)
  (bk:cs.length=n*6) (bu:vs.length=6)
  (hcs:cJ w b off cs) (du:∀ j,j<(n+1)*6->(w.cell? ⟨b,off+j,none⟩).isSome=true) (ch:∀ j,j<(n+1)*6->w.frozen? ⟨b,off+j,none⟩=false)
  (be:cJ w vb voff vs) (fp:tZ cs) (ci:tZ vs)
  (tA tB:TypeId) (kA kB:Nat) (nw:w.shape? vb=some (tA,kA)) (bz:w.shape? b=some (tB,kB)) (ny:kB≠0) (ll:w.frozen? ⟨vb,voff,none⟩=false) (lm:w.frozen? ⟨vb,kA,none⟩=false) :
  Calls Tryz.prog 130 #[.slice (some ⟨b,off,none⟩) n c,.int .i64 i,.slice (some ⟨vb,voff,none⟩) 1 vc] w fun e w'=>
   e=.returned (.slice (some ⟨b,off,none⟩) (n+1) c)/\w'=(w.drew.setCells b (off+(i+1)*6) (cs.drop (i*6))).setCells b (off+i*6) vs:=by
 obtain⟨mixed,t0,a0,z0,v0,t3,a3,z3,v3,t4,a4,z4,v4,t24,a24,z24,v24,v84⟩:=aaw;have u24:=run_underlying t24;have u3:=run_underlying t3;have u4:=run_underlying t4;have ar:(Tryz.prog.info? 84).map (·.size)=some 6:=by kernel_rfl
 have pi:∀ lb cb,(callFunc 185 #[.slice (some ⟨vb,voff,none⟩) 1 vc,.slice (some ⟨b,off+(i+1)*6,none⟩) lb cb]).run Tryz.prog w=.ok (.value (.bool false)) w:=fun lb cb=>by
  rw[run_callFunc_extern Tryz.func185 (by kernel_rfl) (by kernel_rfl) (by kernel_rfl) (e:=Extern.SlicesOverlaps.overlaps #[24,24] #[4]) (by kernel_rfl),
   Lib.run_overlaps_apart w 24 4 84 t24 6 Tryz.sizeOf84 ⟨vb,voff,none⟩ ⟨b,off+(i+1)*6,none⟩ 1 vc lb cb fo tA tB kA kB nw bz ny ll lm]
  rfl
 have gh:(cs.drop (i*6)).length=(n-i)*6:=by rw[lK1,bk]; omega
 have jg:IntKind.i64.wrap ((i:Int)+1)=(i:Int)+1:=by rw[IntKind.wrap_i64]; omega
 have ft:(0:Int)<=(i:Int)+1:=by omega
 have dq:i<=n:=by omega
 have en:((i:Int)+1).toNat=i+1:=by omega
 have fl:¬ (c=i+1):=by omega
 have pj:(i:Int)<=(n:Int)+1:=by omega
 have hb4:¬ (c=i):=by omega
 have da:¬ ((i:Int)=(n:Int)):=by omega
 have mn1:(n+1-i).min (n-i)=n-i:=by show min _ _=_; omega
 have mn2:(1:Nat).min (n+1-i)=1:=by show min _ _=_; omega
 have ff:∀ ty dc sc,(Builtin.copy_ #[24,24] ty #[.slice (some ⟨b,off+(i+1)*6,none⟩) (n-i) dc,.slice (some ⟨b,off+i*6,none⟩) (n+1-i) sc]).run Tryz.prog w.drew=.ok (goInt (n-i:Nat)) (w.drew.setCells b (off+(i+1)*6) (cs.drop (i*6))):=fun ty dc sc=>by
  have:=aW (P:=Tryz.prog) 6 w.drew 24 24 ty 84 b (off+(i+1)*6) (n-i) dc ⟨b,off+i*6,none⟩ (n+1-i) sc (cs.drop (i*6)) t24 ar (by rw[gh,mn1])
   (fun j v hj=>by rw[Addr.add_lit,lQ1]; exact hcs (i*6+j) v (by rwa [lY] at hj))
   (fun j hj=>by rw[lQ1]; exact du _ A7) (fun j hj=>by rw[lQ1]; exact ch _ A7) (fun v hv=>fp v (lZ1 hv))
  rw[this,mn1]
 obtain⟨W1,bt⟩:∃ W1,W1=w.drew.setCells b (off+(i+1)*6) (cs.drop (i*6)):=⟨_,rfl⟩
 have jj:∀ k,k<(n+1)*6->(W1.cell? ⟨b,off+k,none⟩).isSome=true:=fun k hk=>by
  rw[bt];exact World.isSome_setCells _ _ _ _ _ (du k hk)
 have jk:∀ (W:World),(∀ x,W.cell? x=W1.cell? x)->(∀ x,W.frozen? x=W1.frozen? x)->∀ ty dc,(Builtin.copy_ #[24,24] ty #[.slice (some ⟨b,off+i*6,none⟩) (n+1-i) dc,.slice (some ⟨vb,voff,none⟩) 1 vc]).run Tryz.prog W=.ok (goInt (1:Nat)) (W.setCells b (off+i*6) vs):=fun W dd fg ty dc=>by
  have:=aW (P:=Tryz.prog) 6 W 24 24 ty 84 b (off+i*6) (n+1-i) dc ⟨vb,voff,none⟩ 1 vc vs t24 ar (by rw[bu,mn2])
   (fun j v hj=>by
    rw[Addr.add_lit,dd,bt,World.cell?_setCells_out b _ _ _ _ (fun h _=>absurd h fo)];exact be j v hj)
   (fun j hj=>by rw[dd,lQ1]; exact jj _ A7) (fun j hj=>by rw[fg,bt,World.frozen?_setCells,lQ1]; exact ch _ A7) ci
  rw[this,mn2]
 rw[<-bt] at ff
 go_enter Tryz.func130,Tryz.ntmps130
 go_wp2_with (simp only[pi])
 go_region_law_o (refine step_copy_runI rfl _ _ 24 24 rfl _ _ B5 B5 (ff _ _ _) ?_)
 go_wp2_with (at_builtin; refine wpList_copy_runI _ rfl _ _ 24 24 rfl _ _ rfl rfl (jk _ (fun _=>rfl) (fun _=>rfl) _ _) ?_)
 go_ret
 first | exact⟨rfl,rfl⟩ | exact⟨rfl,by rw[bt]⟩
theorem nN (b off n c vb voff vc:Nat) (vs:List Value) (w:World) (ah:n+1<=c) (gb:n+1<=9223372036854775807)
  (bu:vs.length=6) (du:∀ j,j<6->(w.cell? ⟨b,off+n*6+j,none⟩).isSome=true) (ch:∀ j,j<6->w.frozen? ⟨b,off+n*6+j,none⟩=false)
  (be:cJ w vb voff vs) (ci:tZ vs) :
  Calls Tryz.prog 130 #[.slice (some ⟨b,off,none⟩) n c,.int .i64 n,.slice (some ⟨vb,voff,none⟩) 1 vc] w fun e w'=>
   e=.returned (.slice (some ⟨b,off,none⟩) (n+1) c)/\w'=w.setCells b (off+n*6) vs:=by
 obtain⟨mixed,t0,a0,z0,v0,t3,a3,z3,v3,t4,a4,z4,v4,t24,a24,z24,v24,v84⟩:=aaw;have iE:(Tryz.prog.info? 84).map (fun i=>(i.zero,i.size,i.bytes))=some (some (.agg #[.int .i64 0,.int .i64 0,.int .i64 0,.slice none 0 0,.slice none 0 0,.slice none 0 0]),6,96):=by kernel_rfl
 obtain⟨i0,cj,dl,ca,da⟩:=info_parts iE;have pk:∀ ty,(Builtin.append_ #[24,24] ty #[.slice (some ⟨b,off,none⟩) n c,.slice (some ⟨vb,voff,none⟩) 1 vc]).run Tryz.prog w=.ok (.slice (some ⟨b,off,none⟩) (n+1) c) (w.setCells b (off+n*6) vs):=fun ty=>by
  have:=run_append_room_cells w 24 ty 84 i0 t24 cj b off n c ⟨vb,voff,none⟩ 1 vc vs (by rw[bu,ca]) (fun j u hu=>by rw[Addr.add_lit]; exact be j u hu) ci ah
   (fun j hj=>by rw[ca]; exact du j A7) (fun j hj=>by rw[ca]; exact ch j A7)
  rw[ca] at this; exact this
 go_enter Tryz.func130,Tryz.ntmps130
 go_wp2_with (at_builtin; refine Lib.wpList_append_run _ rfl _ _ _ _ rfl _ _ rfl rfl _ _ (pk _) ?_)
 go_ret
 exact⟨rfl,rfl⟩
theorem nO (base:Option Addr) (n c vb voff vc:Nat) (cs vs:List Value) (w:World) (jy:n<=c) (ah:c<n+1) (bn:(n+1)*96<=140737488355328)
  (bk:cs.length=n*6) (bu:vs.length=6) (cu:base=none->n=0)
  (hcs:∀ a,base=some a->∀ (j:Nat) (v:Value),cs[j]?=some v->w.cell? (a.add j)=some v)
  (be:cJ w vb voff vs) (ci:tZ vs) :
  Calls Tryz.prog 130 #[.slice base n c,.int .i64 n,.slice (some ⟨vb,voff,none⟩) 1 vc] w fun e w'=>
   e=.returned (.slice (some ⟨w.heap.size,0,none⟩) (n+1) (grownCap w (n+1) c 84)) /\
   w'=w.drew.alloc (.cells ((cs++vs).toArray++Builtin.zeroCells (Value.agg #[.int .i64 0,.int .i64 0,.int .i64 0,.slice none 0 0,.slice none 0 0,.slice none 0 0]).cells (grownCap w (n+1) c 84-(n+1))) 84):=by
 obtain⟨mixed,t0,a0,z0,v0,t3,a3,z3,v3,t4,a4,z4,v4,t24,a24,z24,v24,v84⟩:=aaw;have iE:(Tryz.prog.info? 84).map (fun i=>(i.zero,i.size,i.bytes))=some (some (.agg #[.int .i64 0,.int .i64 0,.int .i64 0,.slice none 0 0,.slice none 0 0,.slice none 0 0]),6,96):=by kernel_rfl
 obtain⟨i0,cj,dl,ca,da⟩:=info_parts iE;have ej:Src Tryz.prog i0.size 24 (.slice (some ⟨vb,voff,none⟩) 1 vc) 1 vs w:=by
  rw[ca];exact Src.ofSlice w t24 ⟨vb,voff,none⟩ 1 vc vs A7 (fun j u hj=>by rw[Addr.add_lit]; exact be j u hj) ci
 have ce:(Builtin.firstCells i0.size n (.slice base n c)).run Tryz.prog w.drew=.ok cs.toArray w.drew:=by
  rw[ca];cases base with
  | none=>
   have h0:=cu rfl;subst h0;rw[lO1.1 (by omega:cs.length=0)];exact run_firstCells_none w.drew 6 0 0 c
  | some a=>exact run_firstCells_some w.drew 6 n a n c cs A7 (fun j v hj=>hcs a rfl j v hj)
 have ae:∀ ty,(Builtin.append_ #[24,24] ty #[.slice base n c,.slice (some ⟨vb,voff,none⟩) 1 vc]).run Tryz.prog w=_:=fun ty=>
  run_append_grow_src w 24 24 ty 84 i0 _ t24 cj dl base n c cs ce _ 1 vs ej ah A7 (by rw[da]; exact growslice_fits ah bn)
 go_enter Tryz.func130,Tryz.ntmps130
 cases base with
 | none=>
  have h0:=cu rfl;subst h0
  go_wp2_with (at_builtin; refine Lib.wpList_append_run _ rfl _ _ _ _ rfl _ _ rfl rfl _ _ (ae _) ?_)
  go_ret
  exact⟨rfl,rfl⟩
 | some a=>
  obtain⟨ab,ao,asp⟩:=a
  go_wp2_with (at_builtin; refine Lib.wpList_append_run _ rfl _ _ _ _ rfl _ _ rfl rfl _ _ (ae _) ?_)
  all_goals (go_ret; exact⟨rfl,rfl⟩)
theorem rM (b off n c i vb voff vc:Nat) (cs vs:List Value) (w:World) (hi:i<n) (jy:n<=c) (ah:c<n+1) (bn:(n+1)*96<=140737488355328)
  (bk:cs.length=n*6) (bu:vs.length=6)
  (hcs:cJ w b off cs)
  (be:cJ w vb voff vs) (fp:tZ cs) (ci:tZ vs) :
  Calls Tryz.prog 130 #[.slice (some ⟨b,off,none⟩) n c,.int .i64 i,.slice (some ⟨vb,voff,none⟩) 1 vc] w fun e w'=>
   e=.returned (.slice (some ⟨w.heap.size,0,none⟩) (n+1) (grownCap w (n+1) c 84)) /\
   w'=(((w.alloc (.cells ((cs.take (i*6)).toArray++Builtin.zeroCells (Value.agg #[.int .i64 0,.int .i64 0,.int .i64 0,.slice none 0 0,.slice none 0 0,.slice none 0 0]).cells (n+1-i)++Builtin.zeroCells (Value.agg #[.int .i64 0,.int .i64 0,.int .i64 0,.slice none 0 0,.slice none 0 0,.slice none 0 0]).cells (grownCap w (n+1) c 84-(n+1))) 84)).drew.setCells w.heap.size (i*6) vs).drew).setCells w.heap.size ((i+1)*6) (cs.drop (i*6)):=by
 obtain⟨mixed,t0,a0,z0,v0,t3,a3,z3,v3,t4,a4,z4,v4,t24,a24,z24,v24,v84⟩:=aaw;have iE:(Tryz.prog.info? 84).map (fun i=>(i.zero,i.size,i.bytes))=some (some (.agg #[.int .i64 0,.int .i64 0,.int .i64 0,.slice none 0 0,.slice none 0 0,.slice none 0 0]),6,96):=by kernel_rfl
 obtain⟨i0,cj,dl,dw,lp⟩:=info_parts iE;have da:¬ ((i:Int)=(n:Int)):=by omega
 have lx:(c:Int)<(n:Int)+1:=by omega
 have ar:(Tryz.prog.info? 84).map (·.size)=some 6:=by rw[cj]; simp[dw]
 have pl:b<w.heap.size:=block_lt_of_cell (hcs 0 _ (lF A7));have pm:vb<w.heap.size:=block_lt_of_cell (be 0 _ (lF A7));have dy:(n:Int)+1-(i:Int)=((n+1-i:Nat):Int):=by omega
 have gr:i+(n+1-i)=n+1:=by omega
 have ce:(Builtin.firstCells i0.size i (.slice (some ⟨b,off,none⟩) i c)).run Tryz.prog w.drew=.ok (cs.take (i*6)).toArray w.drew:=by
  rw[dw];exact run_firstCells_some w.drew 6 i ⟨b,off,none⟩ i c (cs.take (i*6)) (by rw[lH]; omega) (fun j v hj=>by
   rw[Addr.add_lit];rw[lT] at hj;split at hj
   ·exact hcs j v hj
   ·cases hj)
 have gi:∀ ty,(Builtin.append_ #[24,3] ty #[.slice (some ⟨b,off,none⟩) i c,.int .i64 ((n:Int)+1-(i:Int))]).run Tryz.prog w =
   .ok (.slice (some ⟨w.heap.size,0,none⟩) (n+1) (grownCap w (n+1) c 84)) (w.drew.alloc (.cells ((cs.take (i*6)).toArray++Builtin.zeroCells (Value.agg #[.int .i64 0,.int .i64 0,.int .i64 0,.slice none 0 0,.slice none 0 0,.slice none 0 0]).cells (n+1-i)++Builtin.zeroCells (Value.agg #[.int .i64 0,.int .i64 0,.int .i64 0,.slice none 0 0,.slice none 0 0,.slice none 0 0]).cells (grownCap w (n+1) c 84-(n+1))) 84)):=fun ty=>by
  have h:=Lib.run_append_grow_zeros w 24 3 ty 84 i0 _ .i64 .i64 t24 t3 cj dl (some ⟨b,off,none⟩) i c (cs.take (i*6)) ce (n+1-i) A7 A7 A7 A7 (by rw[lp]; omega) (by rw[lp,gr]; exact growslice_fits ah bn);rw[gr] at h;rw[dy];exact h
 obtain⟨G,hG⟩:∃ G,G=grownCap w (n+1) c 84:=⟨_,rfl⟩
 obtain⟨ROW,dm⟩:∃ ROW:Array Value,ROW=(cs.take (i*6)).toArray++Builtin.zeroCells (Value.agg #[.int .i64 0,.int .i64 0,.int .i64 0,.slice none 0 0,.slice none 0 0,.slice none 0 0]).cells (n+1-i)++Builtin.zeroCells (Value.agg #[.int .i64 0,.int .i64 0,.int .i64 0,.slice none 0 0,.slice none 0 0,.slice none 0 0]).cells (G-(n+1)):=⟨_,rfl⟩
 rw[<-hG] at gi ⊢;rw[<-dm] at gi ⊢;have pn:(n+1)*6<=ROW.size:=by
  rw[dm];simp[Builtin.zeroCells,Value.cells];omega
 obtain⟨W1,bt⟩:∃ W1,W1=w.drew.alloc (.cells ROW 84):=⟨_,rfl⟩
 rw[<-bt] at gi;have hN:∀ j,j<(n+1)*6->(W1.cell? ⟨w.heap.size,j,none⟩).isSome=true:=fun j hj=>by
  rw[bt,World.cell?_alloc_at (w:=w.drew) ROW _ w.heap.size j rfl,lA1 A7]; rfl
 have lq:∀ j,W1.frozen? ⟨w.heap.size,j,none⟩=false:=fun j=>by rw[bt]; exact World.frozen?_alloc_at (w:=w.drew) ROW _ w.heap.size j rfl
 have po:∀ j v,w.cell? ⟨b,j,none⟩=some v->W1.cell? ⟨b,j,none⟩=some v:=fun j v h=>by rw[bt,World.cell?_alloc_past (w:=w.drew) _ b j pl]; exact h
 have pq:∀ j v,w.cell? ⟨vb,j,none⟩=some v->W1.cell? ⟨vb,j,none⟩=some v:=fun j v h=>by rw[bt,World.cell?_alloc_past (w:=w.drew) _ vb j pm]; exact h
 have mn1:(n-i).min (n-i)=n-i:=by show min _ _=_; omega
 have mn2:(1:Nat).min (n+1-i)=1:=by show min _ _=_; omega
 have jl:∀ (W:World),(∀ x,W.cell? x=W1.cell? x)->(∀ x,W.frozen? x=W1.frozen? x)->∀ ty dc,(Builtin.copy_ #[24,24] ty #[.slice (some ⟨w.heap.size,i*6,none⟩) (n+1-i) dc,.slice (some ⟨vb,voff,none⟩) 1 vc]).run Tryz.prog W=.ok (goInt (1:Nat)) (W.setCells w.heap.size (i*6) vs):=fun W dd fg ty dc=>by
  have:=aW (P:=Tryz.prog) 6 W 24 24 ty 84 w.heap.size (i*6) (n+1-i) dc ⟨vb,voff,none⟩ 1 vc vs t24 ar (by rw[bu,mn2])
   (fun j v hj=>by rw[Addr.add_lit,dd]; exact pq _ v (be j v hj))
   (fun j hj=>by rw[dd]; exact hN _ A7) (fun j hj=>by rw[fg]; exact lq _) ci
  rw[this,mn2]
 have hGn:n+1<=G:=by rw[hG]; exact grownCap_ge w _ _ _
 have pt:G<=9223372036854775807:=by
  have:=grownCap_le_maxLen w (n+1) c 84 (by unfold maxLen; omega);rw[<-hG] at this;unfold maxLen at this;omega
 have hGi:¬ (G=i):=by omega
 have pu:¬ (G=i+1):=by omega
 have hci:¬ (c=i):=by omega
 have pv:b≠w.heap.size:=by omega
 have gh:(cs.drop (i*6)).length=(n-i)*6:=by rw[lK1,bk]; omega
 have fh:∀ (W:World),(∀ x,W.cell? x=(W1.setCells w.heap.size (i*6) vs).cell? x)->(∀ x,W.frozen? x=(W1.setCells w.heap.size (i*6) vs).frozen? x)->∀ ty dc sc,(Builtin.copy_ #[24,24] ty #[.slice (some ⟨w.heap.size,(i+1)*6,none⟩) (n-i) dc,.slice (some ⟨b,off+i*6,none⟩) (n-i) sc]).run Tryz.prog W=.ok (goInt (n-i:Nat)) (W.setCells w.heap.size ((i+1)*6) (cs.drop (i*6))):=fun W dd fg ty dc sc=>by
  have:=aW (P:=Tryz.prog) 6 W 24 24 ty 84 w.heap.size ((i+1)*6) (n-i) dc ⟨b,off+i*6,none⟩ (n-i) sc (cs.drop (i*6)) t24 ar (by rw[gh,mn1])
   (fun j v hj=>by
    rw[Addr.add_lit,dd,World.cell?_setCells_out _ _ _ _ _ (fun h _=>absurd h pv),lQ1];exact po _ v (hcs (i*6+j) v (by rwa [lY] at hj)))
   (fun j hj=>by rw[dd]; exact isSome_setCells _ _ _ _ (fun t ht=>hN _ A7) _ (hN _ A7))
   (fun j hj=>by rw[fg,World.frozen?_setCells]; exact lq _) (fun v hv=>fp v (lZ1 hv))
  rw[this,mn1]
 subst bt;have kw:∀ x,((w.alloc (.cells ROW 84)).drew).cell? x=(w.drew.alloc (.cells ROW 84)).cell? x:=fun x=>rfl
 have pw:∀ x,((w.alloc (.cells ROW 84)).drew).frozen? x=(w.drew.alloc (.cells ROW 84)).frozen? x:=fun x=>rfl
 have dp:∀ x,(((w.alloc (.cells ROW 84)).drew.setCells w.heap.size (i*6) vs).drew).cell? x=((w.drew.alloc (.cells ROW 84)).setCells w.heap.size (i*6) vs).cell? x:=fun x=>rfl
 have gt:∀ x,(((w.alloc (.cells ROW 84)).drew.setCells w.heap.size (i*6) vs).drew).frozen? x=((w.drew.alloc (.cells ROW 84)).setCells w.heap.size (i*6) vs).frozen? x:=fun x=>rfl
 have jg:IntKind.i64.wrap ((i:Int)+1)=(i:Int)+1:=by rw[IntKind.wrap_i64]; omega
 have ft:(0:Int)<=(i:Int)+1:=by omega
 have dq:i<=n:=by omega
 have en:((i:Int)+1).toNat=i+1:=by omega
 have pj:(i:Int)<=(n:Int):=by omega
 clear dy gr ce dm hG pn
 go_enter Tryz.func130,Tryz.ntmps130
 go_wp2_with (first
  | (at_builtin; refine Lib.wpList_append_run _ rfl _ _ _ _ rfl _ _ rfl rfl _ _ (gi _) ?_)
  | (at_builtin; refine wpList_copy_runI _ rfl _ _ 24 24 rfl _ _ rfl rfl (jl _ kw pw _ _) ?_)
  | (at_builtin; refine wpList_copy_runI _ rfl _ _ 24 24 rfl _ _ rfl rfl (fh _ (fun _=>rfl) (fun _=>rfl) _ _ _) ?_))
 go_region_law_o (refine step_copy_runI rfl _ _ 24 24 rfl (.slice (some ⟨w.heap.size,(i+1)*6,none⟩) (n-i) (G-(i+1))) (.slice (some ⟨b,off+i*6,none⟩) (n-i) (c-i)) B5 B5 (fh _ dp gt 3 (G-(i+1)) (c-i)) ?_)
 go_wp2
 go_ret
 exact⟨rfl,rfl⟩
theorem w8 (l:List Inode) (x:Inode) (i:Nat) (hi:i<=l.length) (bn:(l.length+1)*96<=140737488355328) :
  Sp 130 [.own 6 (l.map Inode.row),.int .i64 i,.own 6 [Inode.row x]] (.own 6 ((l.take i++x::l.drop i).map Inode.row)) U3:=by
 have kc:∀ r ∈ l.map Inode.row,r.length=6:=fun r hr=>by obtain⟨x,_,rfl⟩:=lV2.1 hr; rfl
 have kd:(l.map Inode.row).flatten.all b5=true:=by
  rw[lP];intro t ht;obtain⟨r,hr,ht⟩:=lW4.1 ht;obtain⟨x,_,rfl⟩:=lV2.1 hr;exact lP.1 (show (Inode.row x).all b5=true from rfl) t ht
 have hl:(l.map Inode.row).length=l.length:=lU1 _;rw[show (l.take i++x::l.drop i).map Inode.row=(l.map Inode.row).take i++Inode.row x::(l.map Inode.row).drop i by simp];exact akJ (s:=6) (B:=96) (el:=84) (Z:=.agg #[.int .i64 0,.int .i64 0,.int .i64 0,.slice none 0 0,.slice none 0 0,.slice none 0 0]) ⟨_,Tryz.func130,by kernel_rfl,by kernel_rfl⟩ C3 C3 rfl qL nN nO rM _ _ i kc rfl kd rfl A7 (by rw[hl]; exact bn)
end
section
open Go.Proofs Go.Shelf Go.RowKit Go.Lib
theorem anb:type_of% (And.intro (by kernel_rfl:Tryz.prog.follows .mixedOrders=true) (And.intro Tryz.underlying0 (And.intro Tryz.isAgg0 (And.intro Tryz.sizeOf0 (And.intro Tryz.zeroValue0 (And.intro Tryz.underlying3 (And.intro Tryz.isAgg3 (And.intro Tryz.sizeOf3 (And.intro Tryz.zeroValue3 (And.intro Tryz.underlying4 (And.intro Tryz.isAgg4 (And.intro Tryz.sizeOf4 (And.intro Tryz.zeroValue4 (And.intro Tryz.underlying81 (And.intro Tryz.isAgg81 (And.intro Tryz.sizeOf81 (And.intro Tryz.zeroValue81 (Tryz.zeroValue87)))))))))))))))))):=And.intro (by kernel_rfl:Tryz.prog.follows .mixedOrders=true) (And.intro Tryz.underlying0 (And.intro Tryz.isAgg0 (And.intro Tryz.sizeOf0 (And.intro Tryz.zeroValue0 (And.intro Tryz.underlying3 (And.intro Tryz.isAgg3 (And.intro Tryz.sizeOf3 (And.intro Tryz.zeroValue3 (And.intro Tryz.underlying4 (And.intro Tryz.isAgg4 (And.intro Tryz.sizeOf4 (And.intro Tryz.zeroValue4 (And.intro Tryz.underlying81 (And.intro Tryz.isAgg81 (And.intro Tryz.sizeOf81 (And.intro Tryz.zeroValue81 (Tryz.zeroValue87)))))))))))))))))
theorem sP (b off n c i vb voff vc:Nat) (cs vs:List Value) (w:World) (hi:i<n) (ah:n+1<=c) (gb:n+1<=9223372036854775807) (fo:vb≠b)
  (bk:cs.length=n*2) (bu:vs.length=2)
  (hcs:cJ w b off cs) (du:∀ j,j<(n+1)*2->(w.cell? ⟨b,off+j,none⟩).isSome=true) (ch:∀ j,j<(n+1)*2->w.frozen? ⟨b,off+j,none⟩=false)
  (be:cJ w vb voff vs) (fp:tZ cs) (ci:tZ vs)
  (tA tB:TypeId) (kA kB:Nat) (nw:w.shape? vb=some (tA,kA)) (bz:w.shape? b=some (tB,kB)) (ny:kB≠0) (ll:w.frozen? ⟨vb,voff,none⟩=false) (lm:w.frozen? ⟨vb,kA,none⟩=false) :
  Calls Tryz.prog 179 #[.slice (some ⟨b,off,none⟩) n c,.int .i64 i,.slice (some ⟨vb,voff,none⟩) 1 vc] w fun e w'=>
   e=.returned (.slice (some ⟨b,off,none⟩) (n+1) c)/\w'=(w.drew.setCells b (off+(i+1)*2) (cs.drop (i*2))).setCells b (off+i*2) vs:=by
 obtain⟨mixed,t0,a0,z0,v0,t3,a3,z3,v3,t4,a4,z4,v4,t81,a81,z81,v81,v87⟩:=anb;have u81:=run_underlying t81;have u3:=run_underlying t3;have u4:=run_underlying t4;have ar:(Tryz.prog.info? 87).map (·.size)=some 2:=by kernel_rfl
 have pi:∀ lb cb,(callFunc 237 #[.slice (some ⟨vb,voff,none⟩) 1 vc,.slice (some ⟨b,off+(i+1)*2,none⟩) lb cb]).run Tryz.prog w=.ok (.value (.bool false)) w:=fun lb cb=>by
  rw[run_callFunc_extern Tryz.func237 (by kernel_rfl) (by kernel_rfl) (by kernel_rfl) (e:=Extern.SlicesOverlaps.overlaps #[81,81] #[4]) (by kernel_rfl),
   Lib.run_overlaps_apart w 81 4 87 t81 2 Tryz.sizeOf87 ⟨vb,voff,none⟩ ⟨b,off+(i+1)*2,none⟩ 1 vc lb cb fo tA tB kA kB nw bz ny ll lm]
  rfl
 have gh:(cs.drop (i*2)).length=(n-i)*2:=by rw[lK1,bk]; omega
 have jg:IntKind.i64.wrap ((i:Int)+1)=(i:Int)+1:=by rw[IntKind.wrap_i64]; omega
 have ft:(0:Int)<=(i:Int)+1:=by omega
 have dq:i<=n:=by omega
 have en:((i:Int)+1).toNat=i+1:=by omega
 have fl:¬ (c=i+1):=by omega
 have pj:(i:Int)<=(n:Int)+1:=by omega
 have hb4:¬ (c=i):=by omega
 have da:¬ ((i:Int)=(n:Int)):=by omega
 have mn1:(n+1-i).min (n-i)=n-i:=by show min _ _=_; omega
 have mn2:(1:Nat).min (n+1-i)=1:=by show min _ _=_; omega
 have ff:∀ ty dc sc,(Builtin.copy_ #[81,81] ty #[.slice (some ⟨b,off+(i+1)*2,none⟩) (n-i) dc,.slice (some ⟨b,off+i*2,none⟩) (n+1-i) sc]).run Tryz.prog w.drew=.ok (goInt (n-i:Nat)) (w.drew.setCells b (off+(i+1)*2) (cs.drop (i*2))):=fun ty dc sc=>by
  have:=aW (P:=Tryz.prog) 2 w.drew 81 81 ty 87 b (off+(i+1)*2) (n-i) dc ⟨b,off+i*2,none⟩ (n+1-i) sc (cs.drop (i*2)) t81 ar (by rw[gh,mn1])
   (fun j v hj=>by rw[Addr.add_lit,lQ1]; exact hcs (i*2+j) v (by rwa [lY] at hj))
   (fun j hj=>by rw[lQ1]; exact du _ A7) (fun j hj=>by rw[lQ1]; exact ch _ A7) (fun v hv=>fp v (lZ1 hv))
  rw[this,mn1]
 obtain⟨W1,bt⟩:∃ W1,W1=w.drew.setCells b (off+(i+1)*2) (cs.drop (i*2)):=⟨_,rfl⟩
 have jj:∀ k,k<(n+1)*2->(W1.cell? ⟨b,off+k,none⟩).isSome=true:=fun k hk=>by
  rw[bt];exact World.isSome_setCells _ _ _ _ _ (du k hk)
 have jk:∀ (W:World),(∀ x,W.cell? x=W1.cell? x)->(∀ x,W.frozen? x=W1.frozen? x)->∀ ty dc,(Builtin.copy_ #[81,81] ty #[.slice (some ⟨b,off+i*2,none⟩) (n+1-i) dc,.slice (some ⟨vb,voff,none⟩) 1 vc]).run Tryz.prog W=.ok (goInt (1:Nat)) (W.setCells b (off+i*2) vs):=fun W dd fg ty dc=>by
  have:=aW (P:=Tryz.prog) 2 W 81 81 ty 87 b (off+i*2) (n+1-i) dc ⟨vb,voff,none⟩ 1 vc vs t81 ar (by rw[bu,mn2])
   (fun j v hj=>by
    rw[Addr.add_lit,dd,bt,World.cell?_setCells_out b _ _ _ _ (fun h _=>absurd h fo)];exact be j v hj)
   (fun j hj=>by rw[dd,lQ1]; exact jj _ A7) (fun j hj=>by rw[fg,bt,World.frozen?_setCells,lQ1]; exact ch _ A7) ci
  rw[this,mn2]
 rw[<-bt] at ff
 go_enter Tryz.func179,Tryz.ntmps179
 go_wp2_with (simp only[pi])
 go_region_law_o (refine step_copy_runI rfl _ _ 81 81 rfl _ _ B5 B5 (ff _ _ _) ?_)
 go_wp2_with (at_builtin; refine wpList_copy_runI _ rfl _ _ 81 81 rfl _ _ rfl rfl (jk _ (fun _=>rfl) (fun _=>rfl) _ _) ?_)
 go_ret
 first | exact⟨rfl,rfl⟩ | exact⟨rfl,by rw[bt]⟩
theorem o7 (b off n c vb voff vc:Nat) (vs:List Value) (w:World) (ah:n+1<=c) (gb:n+1<=9223372036854775807)
  (bu:vs.length=2) (du:∀ j,j<2->(w.cell? ⟨b,off+n*2+j,none⟩).isSome=true) (ch:∀ j,j<2->w.frozen? ⟨b,off+n*2+j,none⟩=false)
  (be:cJ w vb voff vs) (ci:tZ vs) :
  Calls Tryz.prog 179 #[.slice (some ⟨b,off,none⟩) n c,.int .i64 n,.slice (some ⟨vb,voff,none⟩) 1 vc] w fun e w'=>
   e=.returned (.slice (some ⟨b,off,none⟩) (n+1) c)/\w'=w.setCells b (off+n*2) vs:=by
 obtain⟨mixed,t0,a0,z0,v0,t3,a3,z3,v3,t4,a4,z4,v4,t81,a81,z81,v81,v87⟩:=anb;have iE:(Tryz.prog.info? 87).map (fun i=>(i.zero,i.size,i.bytes))=some (some (.agg #[.string { data:=#[] },.int .i64 0]),2,24):=by kernel_rfl
 obtain⟨i0,cj,dl,ca,da⟩:=info_parts iE;have pk:∀ ty,(Builtin.append_ #[81,81] ty #[.slice (some ⟨b,off,none⟩) n c,.slice (some ⟨vb,voff,none⟩) 1 vc]).run Tryz.prog w=.ok (.slice (some ⟨b,off,none⟩) (n+1) c) (w.setCells b (off+n*2) vs):=fun ty=>by
  have:=run_append_room_cells w 81 ty 87 i0 t81 cj b off n c ⟨vb,voff,none⟩ 1 vc vs (by rw[bu,ca]) (fun j u hu=>by rw[Addr.add_lit]; exact be j u hu) ci ah
   (fun j hj=>by rw[ca]; exact du j A7) (fun j hj=>by rw[ca]; exact ch j A7)
  rw[ca] at this; exact this
 go_enter Tryz.func179,Tryz.ntmps179
 go_wp2_with (at_builtin; refine Lib.wpList_append_run _ rfl _ _ _ _ rfl _ _ rfl rfl _ _ (pk _) ?_)
 go_ret
 exact⟨rfl,rfl⟩
theorem o8 (base:Option Addr) (n c vb voff vc:Nat) (cs vs:List Value) (w:World) (jy:n<=c) (ah:c<n+1) (bn:(n+1)*24<=140737488355328)
  (bk:cs.length=n*2) (bu:vs.length=2) (cu:base=none->n=0)
  (hcs:∀ a,base=some a->∀ (j:Nat) (v:Value),cs[j]?=some v->w.cell? (a.add j)=some v)
  (be:cJ w vb voff vs) (ci:tZ vs) :
  Calls Tryz.prog 179 #[.slice base n c,.int .i64 n,.slice (some ⟨vb,voff,none⟩) 1 vc] w fun e w'=>
   e=.returned (.slice (some ⟨w.heap.size,0,none⟩) (n+1) (grownCap w (n+1) c 87)) /\
   w'=w.drew.alloc (.cells ((cs++vs).toArray++Builtin.zeroCells (Value.agg #[.string { data:=#[] },.int .i64 0]).cells (grownCap w (n+1) c 87-(n+1))) 87):=by
 obtain⟨mixed,t0,a0,z0,v0,t3,a3,z3,v3,t4,a4,z4,v4,t81,a81,z81,v81,v87⟩:=anb;have iE:(Tryz.prog.info? 87).map (fun i=>(i.zero,i.size,i.bytes))=some (some (.agg #[.string { data:=#[] },.int .i64 0]),2,24):=by kernel_rfl
 obtain⟨i0,cj,dl,ca,da⟩:=info_parts iE;have ej:Src Tryz.prog i0.size 81 (.slice (some ⟨vb,voff,none⟩) 1 vc) 1 vs w:=by
  rw[ca];exact Src.ofSlice w t81 ⟨vb,voff,none⟩ 1 vc vs A7 (fun j u hj=>by rw[Addr.add_lit]; exact be j u hj) ci
 have ce:(Builtin.firstCells i0.size n (.slice base n c)).run Tryz.prog w.drew=.ok cs.toArray w.drew:=by
  rw[ca];cases base with
  | none=>
   have h0:=cu rfl;subst h0;rw[lO1.1 (by omega:cs.length=0)];exact run_firstCells_none w.drew 2 0 0 c
  | some a=>exact run_firstCells_some w.drew 2 n a n c cs A7 (fun j v hj=>hcs a rfl j v hj)
 have ae:∀ ty,(Builtin.append_ #[81,81] ty #[.slice base n c,.slice (some ⟨vb,voff,none⟩) 1 vc]).run Tryz.prog w=_:=fun ty=>
  run_append_grow_src w 81 81 ty 87 i0 _ t81 cj dl base n c cs ce _ 1 vs ej ah A7 (by rw[da]; exact growslice_fits ah bn)
 go_enter Tryz.func179,Tryz.ntmps179
 cases base with
 | none=>
  have h0:=cu rfl;subst h0
  go_wp2_with (at_builtin; refine Lib.wpList_append_run _ rfl _ _ _ _ rfl _ _ rfl rfl _ _ (ae _) ?_)
  go_ret
  exact⟨rfl,rfl⟩
 | some a=>
  obtain⟨ab,ao,asp⟩:=a
  go_wp2_with (at_builtin; refine Lib.wpList_append_run _ rfl _ _ _ _ rfl _ _ rfl rfl _ _ (ae _) ?_)
  all_goals (go_ret; exact⟨rfl,rfl⟩)
theorem v7 (b off n c i vb voff vc:Nat) (cs vs:List Value) (w:World) (hi:i<n) (jy:n<=c) (ah:c<n+1) (bn:(n+1)*24<=140737488355328)
  (bk:cs.length=n*2) (bu:vs.length=2)
  (hcs:cJ w b off cs)
  (be:cJ w vb voff vs) (fp:tZ cs) (ci:tZ vs) :
  Calls Tryz.prog 179 #[.slice (some ⟨b,off,none⟩) n c,.int .i64 i,.slice (some ⟨vb,voff,none⟩) 1 vc] w fun e w'=>
   e=.returned (.slice (some ⟨w.heap.size,0,none⟩) (n+1) (grownCap w (n+1) c 87)) /\
   w'=(((w.alloc (.cells ((cs.take (i*2)).toArray++Builtin.zeroCells (Value.agg #[.string { data:=#[] },.int .i64 0]).cells (n+1-i)++Builtin.zeroCells (Value.agg #[.string { data:=#[] },.int .i64 0]).cells (grownCap w (n+1) c 87-(n+1))) 87)).drew.setCells w.heap.size (i*2) vs).drew).setCells w.heap.size ((i+1)*2) (cs.drop (i*2)):=by
 obtain⟨mixed,t0,a0,z0,v0,t3,a3,z3,v3,t4,a4,z4,v4,t81,a81,z81,v81,v87⟩:=anb;have iE:(Tryz.prog.info? 87).map (fun i=>(i.zero,i.size,i.bytes))=some (some (.agg #[.string { data:=#[] },.int .i64 0]),2,24):=by kernel_rfl
 obtain⟨i0,cj,dl,dw,lp⟩:=info_parts iE;have da:¬ ((i:Int)=(n:Int)):=by omega
 have lx:(c:Int)<(n:Int)+1:=by omega
 have ar:(Tryz.prog.info? 87).map (·.size)=some 2:=by rw[cj]; simp[dw]
 have pl:b<w.heap.size:=block_lt_of_cell (hcs 0 _ (lF A7));have pm:vb<w.heap.size:=block_lt_of_cell (be 0 _ (lF A7));have dy:(n:Int)+1-(i:Int)=((n+1-i:Nat):Int):=by omega
 have gr:i+(n+1-i)=n+1:=by omega
 have ce:(Builtin.firstCells i0.size i (.slice (some ⟨b,off,none⟩) i c)).run Tryz.prog w.drew=.ok (cs.take (i*2)).toArray w.drew:=by
  rw[dw];exact run_firstCells_some w.drew 2 i ⟨b,off,none⟩ i c (cs.take (i*2)) (by rw[lH]; omega) (fun j v hj=>by
   rw[Addr.add_lit];rw[lT] at hj;split at hj
   ·exact hcs j v hj
   ·cases hj)
 have gi:∀ ty,(Builtin.append_ #[81,3] ty #[.slice (some ⟨b,off,none⟩) i c,.int .i64 ((n:Int)+1-(i:Int))]).run Tryz.prog w =
   .ok (.slice (some ⟨w.heap.size,0,none⟩) (n+1) (grownCap w (n+1) c 87)) (w.drew.alloc (.cells ((cs.take (i*2)).toArray++Builtin.zeroCells (Value.agg #[.string { data:=#[] },.int .i64 0]).cells (n+1-i)++Builtin.zeroCells (Value.agg #[.string { data:=#[] },.int .i64 0]).cells (grownCap w (n+1) c 87-(n+1))) 87)):=fun ty=>by
  have h:=Lib.run_append_grow_zeros w 81 3 ty 87 i0 _ .i64 .i64 t81 t3 cj dl (some ⟨b,off,none⟩) i c (cs.take (i*2)) ce (n+1-i) A7 A7 A7 A7 (by rw[lp]; omega) (by rw[lp,gr]; exact growslice_fits ah bn);rw[gr] at h;rw[dy];exact h
 obtain⟨G,hG⟩:∃ G,G=grownCap w (n+1) c 87:=⟨_,rfl⟩
 obtain⟨ROW,dm⟩:∃ ROW:Array Value,ROW=(cs.take (i*2)).toArray++Builtin.zeroCells (Value.agg #[.string { data:=#[] },.int .i64 0]).cells (n+1-i)++Builtin.zeroCells (Value.agg #[.string { data:=#[] },.int .i64 0]).cells (G-(n+1)):=⟨_,rfl⟩
 rw[<-hG] at gi ⊢;rw[<-dm] at gi ⊢;have pn:(n+1)*2<=ROW.size:=by
  rw[dm];simp[Builtin.zeroCells,Value.cells];omega
 obtain⟨W1,bt⟩:∃ W1,W1=w.drew.alloc (.cells ROW 87):=⟨_,rfl⟩
 rw[<-bt] at gi;have hN:∀ j,j<(n+1)*2->(W1.cell? ⟨w.heap.size,j,none⟩).isSome=true:=fun j hj=>by
  rw[bt,World.cell?_alloc_at (w:=w.drew) ROW _ w.heap.size j rfl,lA1 A7]; rfl
 have lq:∀ j,W1.frozen? ⟨w.heap.size,j,none⟩=false:=fun j=>by rw[bt]; exact World.frozen?_alloc_at (w:=w.drew) ROW _ w.heap.size j rfl
 have po:∀ j v,w.cell? ⟨b,j,none⟩=some v->W1.cell? ⟨b,j,none⟩=some v:=fun j v h=>by rw[bt,World.cell?_alloc_past (w:=w.drew) _ b j pl]; exact h
 have pq:∀ j v,w.cell? ⟨vb,j,none⟩=some v->W1.cell? ⟨vb,j,none⟩=some v:=fun j v h=>by rw[bt,World.cell?_alloc_past (w:=w.drew) _ vb j pm]; exact h
 have mn1:(n-i).min (n-i)=n-i:=by show min _ _=_; omega
 have mn2:(1:Nat).min (n+1-i)=1:=by show min _ _=_; omega
 have jl:∀ (W:World),(∀ x,W.cell? x=W1.cell? x)->(∀ x,W.frozen? x=W1.frozen? x)->∀ ty dc,(Builtin.copy_ #[81,81] ty #[.slice (some ⟨w.heap.size,i*2,none⟩) (n+1-i) dc,.slice (some ⟨vb,voff,none⟩) 1 vc]).run Tryz.prog W=.ok (goInt (1:Nat)) (W.setCells w.heap.size (i*2) vs):=fun W dd fg ty dc=>by
  have:=aW (P:=Tryz.prog) 2 W 81 81 ty 87 w.heap.size (i*2) (n+1-i) dc ⟨vb,voff,none⟩ 1 vc vs t81 ar (by rw[bu,mn2])
   (fun j v hj=>by rw[Addr.add_lit,dd]; exact pq _ v (be j v hj))
   (fun j hj=>by rw[dd]; exact hN _ A7) (fun j hj=>by rw[fg]; exact lq _) ci
  rw[this,mn2]
 have hGn:n+1<=G:=by rw[hG]; exact grownCap_ge w _ _ _
 have pt:G<=9223372036854775807:=by
  have:=grownCap_le_maxLen w (n+1) c 87 (by unfold maxLen; omega);rw[<-hG] at this;unfold maxLen at this;omega
 have hGi:¬ (G=i):=by omega
 have pu:¬ (G=i+1):=by omega
 have hci:¬ (c=i):=by omega
 have pv:b≠w.heap.size:=by omega
 have gh:(cs.drop (i*2)).length=(n-i)*2:=by rw[lK1,bk]; omega
 have fh:∀ (W:World),(∀ x,W.cell? x=(W1.setCells w.heap.size (i*2) vs).cell? x)->(∀ x,W.frozen? x=(W1.setCells w.heap.size (i*2) vs).frozen? x)->∀ ty dc sc,(Builtin.copy_ #[81,81] ty #[.slice (some ⟨w.heap.size,(i+1)*2,none⟩) (n-i) dc,.slice (some ⟨b,off+i*2,none⟩) (n-i) sc]).run Tryz.prog W=.ok (goInt (n-i:Nat)) (W.setCells w.heap.size ((i+1)*2) (cs.drop (i*2))):=fun W dd fg ty dc sc=>by
  have:=aW (P:=Tryz.prog) 2 W 81 81 ty 87 w.heap.size ((i+1)*2) (n-i) dc ⟨b,off+i*2,none⟩ (n-i) sc (cs.drop (i*2)) t81 ar (by rw[gh,mn1])
   (fun j v hj=>by
    rw[Addr.add_lit,dd,World.cell?_setCells_out _ _ _ _ _ (fun h _=>absurd h pv),lQ1];exact po _ v (hcs (i*2+j) v (by rwa [lY] at hj)))
   (fun j hj=>by rw[dd]; exact isSome_setCells _ _ _ _ (fun t ht=>hN _ A7) _ (hN _ A7))
   (fun j hj=>by rw[fg,World.frozen?_setCells]; exact lq _) (fun v hv=>fp v (lZ1 hv))
  rw[this,mn1]
 subst bt;have kw:∀ x,((w.alloc (.cells ROW 87)).drew).cell? x=(w.drew.alloc (.cells ROW 87)).cell? x:=fun x=>rfl
 have pw:∀ x,((w.alloc (.cells ROW 87)).drew).frozen? x=(w.drew.alloc (.cells ROW 87)).frozen? x:=fun x=>rfl
 have dp:∀ x,(((w.alloc (.cells ROW 87)).drew.setCells w.heap.size (i*2) vs).drew).cell? x=((w.drew.alloc (.cells ROW 87)).setCells w.heap.size (i*2) vs).cell? x:=fun x=>rfl
 have gt:∀ x,(((w.alloc (.cells ROW 87)).drew.setCells w.heap.size (i*2) vs).drew).frozen? x=((w.drew.alloc (.cells ROW 87)).setCells w.heap.size (i*2) vs).frozen? x:=fun x=>rfl
 have jg:IntKind.i64.wrap ((i:Int)+1)=(i:Int)+1:=by rw[IntKind.wrap_i64]; omega
 have ft:(0:Int)<=(i:Int)+1:=by omega
 have dq:i<=n:=by omega
 have en:((i:Int)+1).toNat=i+1:=by omega
 have pj:(i:Int)<=(n:Int):=by omega
 clear dy gr ce dm hG pn
 go_enter Tryz.func179,Tryz.ntmps179
 go_wp2_with (first
  | (at_builtin; refine Lib.wpList_append_run _ rfl _ _ _ _ rfl _ _ rfl rfl _ _ (gi _) ?_)
  | (at_builtin; refine wpList_copy_runI _ rfl _ _ 81 81 rfl _ _ rfl rfl (jl _ kw pw _ _) ?_)
  | (at_builtin; refine wpList_copy_runI _ rfl _ _ 81 81 rfl _ _ rfl rfl (fh _ (fun _=>rfl) (fun _=>rfl) _ _ _) ?_))
 go_region_law_o (refine step_copy_runI rfl _ _ 81 81 rfl (.slice (some ⟨w.heap.size,(i+1)*2,none⟩) (n-i) (G-(i+1))) (.slice (some ⟨b,off+i*2,none⟩) (n-i) (c-i)) B5 B5 (fh _ dp gt 3 (G-(i+1)) (c-i)) ?_)
 go_wp2
 go_ret
 exact⟨rfl,rfl⟩
theorem sD (l:List Ent) (x:Ent) (i:Nat) (hi:i<=l.length) (bn:(l.length+1)*24<=140737488355328) :
  Sp 179 [.own 2 (l.map Ent.row),.int .i64 i,.own 2 [Ent.row x]] (.own 2 ((l.take i++x::l.drop i).map Ent.row)) U3:=by
 have kc:∀ r ∈ l.map Ent.row,r.length=2:=fun r hr=>by obtain⟨x,_,rfl⟩:=lV2.1 hr; rfl
 have kd:(l.map Ent.row).flatten.all b5=true:=by
  rw[lP];intro t ht;obtain⟨r,hr,ht⟩:=lW4.1 ht;obtain⟨x,_,rfl⟩:=lV2.1 hr;exact lP.1 (show (Ent.row x).all b5=true from rfl) t ht
 have hl:(l.map Ent.row).length=l.length:=lU1 _;rw[show (l.take i++x::l.drop i).map Ent.row=(l.map Ent.row).take i++Ent.row x::(l.map Ent.row).drop i by simp];exact akJ (s:=2) (B:=24) (el:=87) (Z:=.agg #[.string { data:=#[] },.int .i64 0]) ⟨_,Tryz.func179,by kernel_rfl,by kernel_rfl⟩ C3 C3 rfl sP o7 o8 v7 _ _ i kc rfl kd rfl A7 (by rw[hl]; exact bn)
end
theorem acx (t:Tab) (s:aA) (h:t.sz<2^30) (hs:s.length<2^40):Sp 156 [t.x,.str s] (.tup [(cU t s).1.o,.int .i64 (cU t s).2]) U2:=by
 have h':t.sz<2^40:=by omega
 have hC:=cB t h';have hR:=jS t [s] h' A8 (by simpa using hs);have hS:=o6 s;simp only[lF3,lE5,lS3,lR,lW2,fD] at hR;by_cases hc:bE t=true/\iX s=true
 ·obtain⟨hB,bz⟩:=hc;rw[bz] at hS;have hp:b4 s=true:=by cases e:b4 s <;> simp_all
  have am:decide (s=[47])=false:=by cases e:decide (s=[47]) <;> simp_all
  rw[hp,hB] at hR;have hF:=vV t s h' hs;cases hX:cE t s with
  | error c=>
   have hc:decide (c=0)=false:=lB (fP hX);have e:cU t s=(t,c):=by rw[cU,lK ⟨hB,bz⟩,hX]
   rw[hX] at hF;rw[e];simp only[exI,exC] at hF;refine Vw eP [] 503 [] fun w hP hQ=>?_
   refine K hC ?_;refine Kz am (hR) ?_;exact Kcz hc (hF)
  | ok X=>
   have e0:cU t s=if X.kind=2 then (if X.ents=[] then (jX (aG t (gT (exI (bQ t s)) (aD s))) X.ino,0) else (t,6)) else (t,3):=by rw[cU,lK ⟨hB,bz⟩,hX]
   rw[hX] at hF;rw[e0];simp only[exI,exC] at hF;by_cases g1:X.kind=2
   ·have g1':decide (X.kind=2)=true:=lC g1;rw[lK g1];by_cases g2:X.ents=[]
    ·have g2':decide ((0:Int)<(X.ents.length:Nat))=false:=lB (by rw[g2]; simp);obtain⟨D,d1⟩:=tY hB bz hX;rw[lK g2,d1];simp only[exI];have zD:=(aS (f9 d1).1).2;obtain⟨kD,d3⟩:=gE zD;have zt:(aG t (gT D (aD s))).sz<2^40:=by
      have:=bF t (gT D (aD s));have:=gQ D (aD s);have:=(bK h).2 D (bH zD).1;omega
     have bg:=kT t s h' hs;have hL:=aar t D (aD s) h' (r9 h' zD) (cP hB) d3;have hD:=sA (aG t (gT D (aD s))) X.ino zt;rw[d1] at bg;simp only[exC,exI,exN] at bg;unfold w6 at bg;unfold aaq at hL;refine Vw eP [] 503 [] fun w hP hQ=>?_
     refine K hC ?_;refine Kz am (hR) ?_;refine Kz (And.intro g1' g2') (hF) ?_;refine K bg ?_;refine K hL ?_;exact Kc (hD)
    ·have g2':decide ((0:Int)<(X.ents.length:Nat))=true:=lC (by have:=lR4.2 g2; omega);rw[lO g2];refine Vw eP [] 503 [] fun w hP hQ=>?_
     refine K hC ?_;refine Kz am (hR) ?_;exact Kcz (And.intro g1' g2') (hF)
   ·have g1':decide (X.kind=2)=false:=lB g1;rw[lO g1];refine Vw eP [] 503 [] fun w hP hQ=>?_
    refine K hC ?_;refine Kz am (hR) ?_;exact Kcz g1' (hF)
 ·have e:cU t s=(t,1):=by rw[cU,lO hc]
  rw[e];cases hp:(b4 s && bE t) with
  | false=>
   rw[hp] at hR;refine Vw eP [] 503 [] fun w hP hQ=>?_
   refine K hC ?_;exact Kc (hR)
  | true=>
   have am:decide (s=[47])=true:=by
    cases e:decide (s=[47]) with
    | true=>rfl
    | false=>
     simp only[lM] at hp;rw[hp.1,e] at hS;exact absurd ⟨hp.2,hS⟩ hc
   rw[hp] at hR;refine Vw eP [] 503 [] fun w hP hQ=>?_
   refine K hC ?_;exact Kcz am (hR)
theorem ahE (e:Ent) (D:Inode) (n:aA):Sp 178 [e.x,.xbox (am2 D n)] (.bool (decide (n<e.name))) U2:=by
 unfold am2;refine Vw sF [] 15 [] fun w hP hQ=>?_
 refine Nz aas ?_;rw[aku,Bool.not_not]
theorem aax (t:Tab) (D:Inode) (n:aA) (j:Int) {k:Nat} (h:t.sz<2^30) (hD:D.sz<2^30) (hn:n.length<2^30) (hu:UpI t.inodes) (hk:bM t D.ino=some k) :
  Sp 123 [aaq D n,t.x,.int .i64 j] (aG t (p8 D n j)).o U3:=by
 obtain⟨h1,h2,h3⟩:=dQ hD;have hz:=jY D n j;have hS:=b8 t (p8 D n j) A7 A7 hu hk;have hI:=nM (fun v=>ahE v D n) D.ents A7;have hC:=aam D.ents A7;unfold aaq;cases e:D.ents.findIdx? (fun e=>decide (n<e.name)) with
 | none=>
  have px:nD D.ents ⟨n,j⟩=D.ents.take D.ents.length++⟨n,j⟩::D.ents.drop D.ents.length:=amL (key:=Ent.name) (e:=⟨n,j⟩) e;have gc:=sD D.ents ⟨n,j⟩ D.ents.length (lE1 _) A7;rw[<-px] at gc;rw[e,show gU none=(-1:Int) from rfl] at hI;refine Vw oJ [(179,[.m,.b,.m],[])] 223 [] fun w hP hQ=>?_
  refine K hI ?_;refine K hC ?_;refine K gc ?_;exact K hS trivial
 | some i=>
  have px:i<D.ents.length/\nD D.ents ⟨n,j⟩=D.ents.take i++⟨n,j⟩::D.ents.drop i:=amK (key:=Ent.name) (e:=⟨n,j⟩) e;have gc:=sD D.ents ⟨n,j⟩ i A7 A7;rw[<-px.2] at gc;rw[e,show gU (some i)=(i:Int) from rfl] at hI;have g:decide (((i:Nat):Int)<0)=false:=lB A7;refine Vw oJ [(179,[.m,.b,.m],[])] 223 [] fun w hP hQ=>?_
  refine Kz g (hI) ?_;refine K hC ?_;refine K gc ?_;exact K hS trivial
theorem aay (y x:Inode):Sp 129 [y.x,.xbox (Inode.row x)] (.bool (decide (x.ino<y.ino))) U2:=by
 refine U wS [] 15 [] fun w hP hQ=>?_
 exact N trivial
theorem v8 (t:Tab) (x:Inode) (h:t.sz<2^30) (hx:x.sz<2^30) (hn:∀ y ∈ t.inodes,y.ino<x.ino):Sp 66 [t.x,x.x] (aG t x).o U2:=by
 obtain⟨h1,h2⟩:=bK h;have dv:=n8 t x.ino A7;rw[akw hn,show gU none=(-1:Int) from rfl] at dv;have hI:=gP (fun v=>aay v x) t.inodes A7;have e:t.inodes.findIdx? (fun y=>decide (x.ino<y.ino))=none:=by
  rw[lO2];intro y hy;have:=hn y hy;simp; omega
 rw[e,show gU none=(-1:Int) from rfl] at hI;have gc:=w8 t.inodes x t.inodes.length (lE1 _) A7;have e2:t.inodes.take t.inodes.length++x::t.inodes.drop t.inodes.length=t.inodes++[x]:=by simp
 rw[e2] at gc;rw[yP hn];unfold Inode.row at hI gc;refine Vw rU [(130,[.m,.b,.m],[])] 127 [] fun w hP hQ=>?_
 refine K (cB t A7) ?_;refine K (jR x A7) ?_;refine K dv ?_;refine K hI ?_;refine K gc ?_
 all_goals exact T1
theorem acy (t:Tab) (s:aA) (k:Int) (h:t.sz<2^28) (hs:s.length<2^40):Sp 57 [t.x,.str s,.int .i64 k] (.tup [(b3 t s k).1.o,.int .i64 (b3 t s k).2]) U3:=by
 have h':t.sz<2^40:=by omega
 have hC:=cB t h';have hR:=jS t [s] h' A8 (by simpa using hs);have hS:=o6 s;simp only[lF3,lE5,lS3,lR,lW2,fD] at hR;by_cases hc:bE t=true/\iX s=true
 ·obtain⟨hB,bz⟩:=hc;rw[bz] at hS;have hp:b4 s=true:=by cases e:b4 s <;> simp_all
  have am:decide (s=[47])=false:=by cases e:decide (s=[47]) <;> simp_all
  rw[hp,hB] at hR;have hF:=kT t s h' hs;have e0:b3 t s k=match o0 t s 0 with
   | .ok D=>if t.inodes.length<30/\t.next<1000 then (aoO t D (aD s) k,0) else (t,5)
   | .error c=>(t,c):=by rw[b3,lK ⟨hB,bz⟩]; rfl
  rw[e0,o0];cases hX:bQ t s with
  | error c=>
   have hc:decide (c=0)=false:=lB (by
    unfold bQ at hX;split at hX
    ·split at hX
     ·cases hX
     ·cases hX; decide
    ·rename_i e3; cases hX; exact fP e3)
   rw[hX] at hF;simp only[exC] at hF ⊢;unfold w6 at hF;refine Vw fR [] 1999 [] fun w hP hQ=>?_
   refine K hC ?_;refine Kz am (hR) ?_;exact Kcz hc (hF)
  | ok D=>
   have ht:=(c9 t).1 hB;have hm:=fJ hX;have zD:=(bK h).2 D hm;have okD:=l7 ht hm;have hE:=tW D (aD s) A7;have hi:=ajY ht hm;have ac:=ht.tab.len;have oz:=ht.tab.next;have fk:=okD.len;obtain⟨kD,ph⟩:=gE (p6 ht hm);rw[hX] at hF;simp only[exC,exI,exN] at hF ⊢;unfold w6 at hF;by_cases g0:cA D (aD s)=0
   ·have g0':cA D (aF s).2.1=0:=g0;rw[g0] at hE;rw[lK g0'];by_cases g1:D.ents.length<10
    ·rw[lK (.inl g1)];have g1':decide (((D.ents.length:Nat):Int)=10)=false:=lB A7;by_cases g2:t.inodes.length<30
     ·have g2':decide (((t.inodes.length:Nat):Int)=30)=false:=lB A7;by_cases g3:t.next<1000
      ·have g3':decide (t.next=1000)=false:=lB A7;simp only[lK (And.intro g2 g3)];have z1:=jY D (aD s) t.next;have z2:=(cM s).2;have z3:=bF ({ inodes:=t.inodes,next:=t.next+1 }:Tab) (p8 D (aD s) t.next);have z4:({ inodes:=t.inodes,next:=t.next+1 }:Tab).sz=t.sz:=rfl;have hL:=aax { inodes:=t.inodes,next:=t.next+1 } D (aD s) t.next A7 A7 A7 (show UpI t.inodes from cP hB) ph;have hI:=v8 (aG { inodes:=t.inodes,next:=t.next+1 } (p8 D (aD s) t.next)) (apz t.next k) A7 (by show 0+(0+0)+(0+0)<2^30; omega) (aky hB hm);unfold aaq at hL;refine Vw fR [] 1999 [] fun w hP hQ=>?_
       refine K hC ?_;refine Kz am (hR) ?_;refine K hF ?_;refine Kz (And.intro g1' (And.intro g2' g3')) (hE) ?_;refine K hL ?_;refine K hI ?_
       all_goals exact T1
      ·have g3':decide (t.next=1000)=true:=lC A7;simp only[lO (show ¬ (t.inodes.length<30/\t.next<1000) from fun e=>g3 e.2)];refine Vw fR [] 1999 [] fun w hP hQ=>?_
       refine K hC ?_;refine Kz am (hR) ?_;refine K hF ?_;exact Kcz (And.intro g1' (And.intro g2' g3')) (hE)
     ·have g2':decide (((t.inodes.length:Nat):Int)=30)=true:=lC A7;simp only[lO (show ¬ (t.inodes.length<30/\t.next<1000) from fun e=>g2 e.1)];refine Vw fR [] 1999 [] fun w hP hQ=>?_
      refine K hC ?_;refine Kz am (hR) ?_;refine K hF ?_;exact Kcz (And.intro g1' g2') (hE)
    ·have g1':decide (((D.ents.length:Nat):Int)=10)=true:=lC A7;rw[lO (show ¬ (D.ents.length<10\/D.ino=0) from fun e=>e.elim g1 A7)];refine Vw fR [] 1999 [] fun w hP hQ=>?_
     refine K hC ?_;refine Kz am (hR) ?_;refine K hF ?_;exact Kcz g1' (hE)
   ·have g0':decide (cA D (aD s)=0)=false:=lB g0;rw[lO (show ¬ cA D (aF s).2.1=0 from g0)];refine Vw fR [] 1999 [] fun w hP hQ=>?_
    refine K hC ?_;refine Kz am (hR) ?_;refine K hF ?_;exact Kcz g0' (hE)
 ·have e:b3 t s k=(t,1):=by rw[b3,lO hc]
  rw[e];cases hp:(b4 s && bE t) with
  | false=>
   rw[hp] at hR;refine Vw fR [] 1999 [] fun w hP hQ=>?_
   refine K hC ?_;exact Kc (hR)
  | true=>
   have am:decide (s=[47])=true:=by
    cases e:decide (s=[47]) with
    | true=>rfl
    | false=>
     simp only[lM] at hp;rw[hp.1,e] at hS;exact absurd ⟨hp.2,hS⟩ hc
   rw[hp] at hR;refine Vw fR [] 1999 [] fun w hP hQ=>?_
   refine K hC ?_;exact Kcz am (hR)
theorem ahF (t:Tab) (s:aA) (h:t.sz<2^28) (hs:s.length<2^40):Sp 152 [t.x,.str s] (.tup [(b3 t s 2).1.o,.int .i64 (b3 t s 2).2]) U2:=by
 refine Vw adO [] 55 [] fun w hP hQ=>?_
 exact K (acy t s 2 h hs) trivial
theorem aeB (t:Tab) (s:aA) (h:t.sz<2^28) (hs:s.length<2^40):Sp 13 [t.x,.str s] (.tup [(b3 t s 1).1.o,.int .i64 (b3 t s 1).2]) U2:=by
 refine Vw abq [] 55 [] fun w hP hQ=>?_
 exact K (acy t s 1 h hs) trivial
theorem akK {t:Tab} {s:aA} {c:Int} (h:bQ t s=.error c):c≠0:=by
 unfold bQ at h;split at h
 ·split at h
  ·cases h
  ·cases h; decide
 ·rename_i e3; cases h; exact fP e3
theorem anc {t:Tab} {p q:aA} {X D:Inode} (hB:bE t=true) (hX:iK t p=.ok X) (hD:bQ t q=.ok D):∃ kD kX,bM t D.ino=some kD/\bM (aG t (p8 D (aD q) X.ino)) X.ino=some kX/\UpI (aG t (p8 D (aD q) X.ino)).inodes /\
  D.ents.length<=10/\0<=X.links/\X.links<=1000/\1<=D.ino:=by
 have ht:=(c9 t).1 hB;obtain⟨f1,f2⟩:=f8 hX;have a1:=(aS f1).2;have hm:=fJ hD;have a2:=p6 ht hm;have k2:=(f9 hD).2;have am:D.ino≠X.ino:=by
  intro e;rw[e,a1] at a2;cases a2;omega
 obtain⟨kD,ph⟩:=gE a2;have hu:=cP hB;have a3:aU (aG t (p8 D (aD q) X.ino)) X.ino=some X:=by
  rw[f6 hu,lO (show ¬ (p8 D (aD q) X.ino).ino=X.ino from am)];exact a1
 obtain⟨kX,fe⟩:=gE a3;have ok:=l7 ht hm;have l2:=(ht.tab.ok X (aS f1).1).1.links;have hi:=ajY ht hm;exact⟨kD,kX,ph,fe,nC hu _,ok.len,by omega,by omega,by omega⟩
theorem aeC (t:Tab) (p q:aA) (h:t.sz<2^28) (hp:p.length<2^40) (hq:q.length<2^40):Sp 157 [t.x,.str p,.str q] (.tup [(eG t p q).1.o,.int .i64 (eG t p q).2]) U3:=by
 have h':t.sz<2^40:=by omega
 have hC:=cB t h';have hR:=jS t [p,q] h' A8 B0;have hS:=o6 q;simp only[lF3,lE5,lS3,lR,lW2,fD] at hR;by_cases hc:bE t=true/\b4 p=true/\iX q=true
 ·obtain⟨hB,bc,dh⟩:=hc;rw[dh] at hS;have hqp:b4 q=true:=by cases e:b4 q <;> simp_all
  have am:decide (q=[47])=false:=by cases e:decide (q=[47]) <;> simp_all
  rw[bc,hqp,hB] at hR;have hF:=qI t p h' hp;cases hX:iK t p with
  | error c=>
   have hc:decide (c=0)=false:=lB (jQ hX);have e:eG t p q=(t,c):=by rw[eG,lK ⟨hB,bc,dh⟩,hX]
   rw[hX] at hF;rw[e];simp only[exC] at hF;refine Vw eK [] 1999 [] fun w hP hQ=>?_
   refine K hC ?_;refine Kz am (hR) ?_;exact Kcz hc (hF)
  | ok X=>
   have e0:eG t p q=match o0 t q 0 with
    | .ok D=>(ajR t D (aD q) X,0)
    | .error c=>(t,c):=by rw[eG,lK ⟨hB,bc,dh⟩,hX]; rfl
   have f1:=(f8 hX).1;rw[hX,f1] at hF;simp only[exI,exC] at hF;rw[e0,o0];have hP1:=kT t q h' hq;cases hD:bQ t q with
   | error c=>
    have hc:decide (c=0)=false:=lB (akK hD);rw[hD] at hP1;simp only[exC] at hP1 ⊢;unfold w6 at hP1;refine Vw eK [] 1999 [] fun w hP hQ=>?_
    refine K hC ?_;refine Kz am (hR) ?_;refine K hF ?_;exact Kcz hc (hP1)
   | ok D=>
    obtain⟨kD,kX,k1,k2,k3,k4,k5,k6,k7⟩:=anc hB hX hD;have zX:=(bK h).2 X (aS f1).1;have zD:=(bK h).2 D (fJ hD);have hE:=tW D (aD q) A7;rw[hD] at hP1;simp only[exC,exI,exN] at hP1 ⊢;unfold w6 at hP1;by_cases g0:cA D (aD q)=0
    ·have g0':cA D (aF q).2.1=0:=g0;rw[g0] at hE;rw[lK g0'];by_cases g1:D.ents.length<10
     ·rw[lK (.inl g1)];have g1':decide (((D.ents.length:Nat):Int)=10)=false:=lB A7;have z1:=jY D (aD q) X.ino;have z2:=(cM q).2;have z3:=bF t (p8 D (aD q) X.ino);have z4:=akA X;have hL:=aax t D (aD q) X.ino A7 A7 A7 (cP hB) k1;have hI:=b8 (aG t (p8 D (aD q) X.ino)) (oZ X) A7 A7 k3 k2;unfold aaq at hL;simp only;rw[ajR];refine Vw eK [] 1999 [] fun w hP hQ=>?_
      refine K hC ?_;refine Kz am (hR) ?_;refine K hF ?_;refine K hP1 ?_;refine Kz g1' (hE) ?_;refine K hL ?_;exact Kc (hI)
     ·have g1':decide (((D.ents.length:Nat):Int)=10)=true:=lC A7;rw[lO (show ¬ (D.ents.length<10\/D.ino=0) from fun e=>e.elim g1 A7)];refine Vw eK [] 1999 [] fun w hP hQ=>?_
      refine K hC ?_;refine Kz am (hR) ?_;refine K hF ?_;refine K hP1 ?_;exact Kcz g1' (hE)
    ·have g0':decide (cA D (aD q)=0)=false:=lB g0;rw[lO (show ¬ cA D (aF q).2.1=0 from g0)];refine Vw eK [] 1999 [] fun w hP hQ=>?_
     refine K hC ?_;refine Kz am (hR) ?_;refine K hF ?_;refine K hP1 ?_;exact Kcz g0' (hE)
 ·have e:eG t p q=(t,1):=by rw[eG,lO hc]
  rw[e];cases fz:(b4 p && (b4 q && bE t)) with
  | false=>
   have hR':(b4 p && b4 q && bE t)=false:=by rw[Bool.and_assoc]; exact fz
   rw[hR'] at hR;refine Vw eK [] 1999 [] fun w hP hQ=>?_
   refine K hC ?_;exact Kc (hR)
  | true=>
   have hR':(b4 p && b4 q && bE t)=true:=by rw[Bool.and_assoc]; exact fz
   have am:decide (q=[47])=true:=by
    cases e:decide (q=[47]) with
    | true=>rfl
    | false=>
     simp only[lM] at fz;rw[fz.2.1,e] at hS;exact absurd ⟨fz.2.2,fz.1,hS⟩ hc
   rw[hR'] at hR;refine Vw eK [] 1999 [] fun w hP hQ=>?_
   refine K hC ?_;exact Kcz am (hR)
theorem acz {s:aA} (h:iX s=true):b4 s=true/\decide (s=[47])=false:=by
 rw[o6] at h;cases h1:b4 s <;> cases h2:decide (s=[47]) <;> rw[h1,h2] at h <;> first | exact⟨rfl,rfl⟩ | cases h
theorem akL (t:Tab) (p q:aA) (h:t.sz<2^28) (hp:p.length<2^40) (hq:q.length<2^40):Sp 158 [t.x,.str p,.str q] (.tup [(eT t p q).1.o,.int .i64 (eT t p q).2]) U3:=by
 have h':t.sz<2^40:=by omega
 have hC:=cB t h';have hR:=jS t [p,q] h' A8 B0;have bg:=o6 p;have hSq:=o6 q;simp only[lF3,lE5,lS3,lR,lW2,fD] at hR;by_cases hc:bE t=true/\iX p=true/\iX q=true
 ·obtain⟨hB,bc,dh⟩:=hc;obtain⟨hpp,fy⟩:=acz bc;obtain⟨hqp,ke⟩:=acz dh;rw[hpp,hqp,hB] at hR;have hW:=vV t p h' hp;cases hX:cE t p with
  | error c=>
   have hc:decide (c=0)=false:=lB (fP hX);have e:eT t p q=(t,c):=by rw[eT,lK ⟨hB,bc,dh⟩,hX]
   rw[hX] at hW;rw[e];simp only[exI,exC] at hW;refine Vw dX [] 6095 [] fun w hP hQ=>?_
   refine K hC ?_;refine Kz (And.intro fy ke) (hR) ?_;exact Kcz hc (hW)
  | ok X=>
   have e0:eT t p q=if rE p q=true then (t,6) else (match o0 t q (exI (bQ t p)).ino with
    | .ok D=>(aef t (exI (bQ t p)) D (aD p) (aD q) X.ino,0)
    | .error c=>(t,c)):=by rw[eT,lK ⟨hB,bc,dh⟩,hX]; rfl
   have hL:=amH p q hp hq;rw[hX] at hW;simp only[exI,exC] at hW;rw[e0];cases hb:rE p q with
   | true=>
    rw[hb] at hL;rw[lK rfl];refine Vw dX [] 6095 [] fun w hP hQ=>?_
    refine K hC ?_;refine Kz (And.intro fy ke) (hR) ?_;refine K hW ?_;exact Kc (hL)
   | false=>
    rw[hb] at hL;rw[lO A8];obtain⟨D1,d1⟩:=tY hB bc hX;have hO:=kT t p h' hp;rw[d1] at hO;simp only[exI,exC,exN] at hO;unfold w6 at hO;have hN:=kT t q h' hq;have ht:=(c9 t).1 hB;have zD1:=(bK h).2 D1 (fJ d1);rw[d1];simp only[exI];cases hD:bQ t q with
    | error c=>
     have hc:decide (c=0)=false:=lB (akK hD);rw[hD] at hN;simp only[exI,exC,exN] at hN;unfold w6 at hN;rw[o0,hD];refine Vw dX [] 6095 [] fun w hP hQ=>?_
     refine K hC ?_;refine Kz (And.intro fy ke) (hR) ?_;refine K hW ?_;refine K hL ?_;refine K hO ?_;exact Kcz hc (hN)
    | ok D2=>
     have hm:=fJ hD;have zD:=(bK h).2 D2 hm;have hE:=tW D2 (aD q) A7;have fk:=(l7 ht hm).len;rw[hD] at hN;simp only[exI,exC,exN] at hN;unfold w6 at hN;by_cases g0:cA D2 (aD q)=0
     ·have g0':cA D2 (aF q).2.1=0:=g0;rw[g0] at hE;by_cases g1:D2.ents.length<10\/D2.ino=D1.ino
      ·have gv:o0 t q D1.ino=.ok D2:=by rw[o0,hD]; simp only; rw[lK g0',lK g1]
       obtain⟨D1',k,k1,k2,k3,k4,k5,k6,k7,k8,k9⟩:=akB hB bc dh hX hb (by rw[d1]; exact gv);rw[d1] at k1;cases k1;rw[gv];simp only;rw[aef];have z1:=gQ D1 (aD p);have z2:=bF t (gT D1 (aD p));have z3:=jY (sK D1 D2 (aD p)) (aD q) X.ino;have z4:=(cM q).2;have z5:=(cM q).1;obtain⟨kD1,hkD1⟩:=gE (p6 ht (fJ d1));have lh:=aar t D1 (aD p) h' A7 (cP hB) hkD1;have hI:=kS (aG t (gT D1 (aD p))) D2.ino A7;have e2:aU (aG t (gT D1 (aD p))) D2.ino=some (sK D1 D2 (aD p)):=by
        have:=(nH k3).2;have e3:(sK D1 D2 (aD p)).ino=D2.ino:=by
         unfold sK; split
         ·rename_i e; exact e
         ·rfl
        rw[e3] at this; exact this
       rw[aeo,e2] at hI;simp only[lG2,Option.isSome_some] at hI;have hL2:=aax (aG t (gT D1 (aD p))) (sK D1 D2 (aD p)) (aD q) X.ino A7 A7 A7 k5 k4;unfold aaq at lh hL2;by_cases g2:D2.ents.length<10
       ·have g2':decide (((D2.ents.length:Nat):Int)=10)=false:=lB A7;refine Vw dX [] 6095 [] fun w hP hQ=>?_
        refine K hC ?_;refine Kz (And.intro fy ke) (hR) ?_;refine K hW ?_;refine K hL ?_;refine K hO ?_;refine K hN ?_;refine Kz g2' (hE) ?_;refine K lh ?_;refine K hI ?_;exact Kc (hL2)
       ·have g2':decide (((D2.ents.length:Nat):Int)=10)=true:=lC A7;have g3':decide (D2.ino=D1.ino)=true:=lC (g1.resolve_left g2);refine Vw dX [] 6095 [] fun w hP hQ=>?_
        refine K hC ?_;refine Kz (And.intro fy ke) (hR) ?_;refine K hW ?_;refine K hL ?_;refine K hO ?_;refine K hN ?_;refine Kz (And.intro g2' g3') (hE) ?_;refine K lh ?_;refine K hI ?_;exact Kc (hL2)
      ·have g2':decide (((D2.ents.length:Nat):Int)=10)=true:=lC (by have:¬ D2.ents.length<10:=fun e=>g1 (.inl e); omega);have g3':decide (D2.ino=D1.ino)=false:=lB fun e=>g1 (.inr e)
       have gv:o0 t q D1.ino=.error 5:=by rw[o0,hD]; simp only; rw[lK g0',lO g1]
       rw[gv];simp only;refine Vw dX [] 6095 [] fun w hP hQ=>?_
       refine K hC ?_;refine Kz (And.intro fy ke) (hR) ?_;refine K hW ?_;refine K hL ?_;refine K hO ?_;refine K hN ?_;exact Kcz (And.intro g2' g3') (hE)
     ·have g0':decide (cA D2 (aD q)=0)=false:=lB g0;have gv:o0 t q D1.ino=.error 4:=by rw[o0,hD]; simp only; rw[lO (show ¬ cA D2 (aF q).2.1=0 from g0)]
      rw[gv];simp only;refine Vw dX [] 6095 [] fun w hP hQ=>?_
      refine K hC ?_;refine Kz (And.intro fy ke) (hR) ?_;refine K hW ?_;refine K hL ?_;refine K hO ?_;refine K hN ?_;exact Kcz g0' (hE)
 ·have e:eT t p q=(t,1):=by rw[eT,lO hc]
  rw[e];cases fz:(b4 p && b4 q && bE t) with
  | false=>
   rw[fz] at hR;refine Vw dX [] 6095 [] fun w hP hQ=>?_
   refine K hC ?_;exact Kc (hR)
  | true=>
   rw[fz] at hR;simp only[lM] at fz;rw[fz.1.1] at bg;rw[fz.1.2] at hSq;cases fy:decide (p=[47]) with
   | true=>
    refine Vw dX [] 6095 [] fun w hP hQ=>?_
    refine K hC ?_;exact Kcz fy (hR)
   | false=>
    have ke:decide (q=[47])=true:=by
     cases e:decide (q=[47]) with
     | true=>rfl
     | false=>
      rw[e] at hSq;rw[fy] at bg;exact absurd ⟨fz.2,bg,hSq⟩ hc
    refine Vw dX [] 6095 [] fun w hP hQ=>?_
    refine K hC ?_;exact Kcz (And.intro fy ke) (hR)
section
variable {t:Tab}
theorem akM:∀ x ∈ t.inodes,x.sz<=t.sz:=fun x hx=>by
 have:=(bK (t:=t) (n:=t.sz+1) A7).2 x hx; omega
theorem aql (r:Rs Inode) (h:∀ D,r=.ok D->D.sz<=t.sz):(exI r).sz<=t.sz:=by
 cases r with
 | ok D=>exact h D rfl
 | error c=>show 0+(0+0)+(0+0)<=_; omega
theorem aeD (s:aA):(exI (bQ t s)).sz<=t.sz:=aql _ fun D h=>akM D (fJ h)
theorem akN {s:aA} {f:Int} {D:Inode} (h:o0 t s f=.ok D):D.sz<=t.sz:=akM D (fJ (vE h).1)
theorem aeE {s:aA} {X:Inode} (h:cE t s=.ok X):X.sz<=t.sz:=akM X (aS h).1
theorem aaz {s:aA} {X:Inode} (h:iK t s=.ok X):X.sz<=t.sz:=aeE (f8 h).1
theorem akO (X:Inode) (b:aA):(mA X b).sz<=X.sz+b.length:=by
 show b.length+szM Ent.sz X.ents+szM Attr.sz X.attrs<=X.data.length+szM Ent.sz X.ents+szM Attr.sz X.attrs+b.length; omega
theorem ane (X:Inode) (n v:aA):(jG X (sL (gD X.attrs n) ⟨n,v⟩)).sz<=X.sz+(n.length+v.length)+1:=by
 have h1:=aau X n;have h2:=aey (gD X.attrs n) ⟨n,v⟩;have e1:(jG X (gD X.attrs n)).sz=X.data.length+szM Ent.sz X.ents+szM Attr.sz (gD X.attrs n):=rfl;have e2:(jG X (sL (gD X.attrs n) ⟨n,v⟩)).sz=X.data.length+szM Ent.sz X.ents+szM Attr.sz (sL (gD X.attrs n) ⟨n,v⟩):=rfl;have e3:(⟨n,v⟩:Attr).name.length+(⟨n,v⟩:Attr).val.length=n.length+v.length:=rfl;omega
theorem aeF (q:aA):(aD q).length<=q.length+14:=by have:=(cM q).2; omega
theorem apd (D1 D2:Inode) (n:aA):(sK D1 D2 n).sz<=D1.sz+D2.sz:=by
 have:=gQ D1 n;unfold sK;split <;> omega
theorem rN (t:Tab) (o:Op):(aT t o).1.sz<=8*t.sz+2*(o.path.length+o.to'.length+o.data.length)+1000:=by
 have mk:∀ k:Int,(b3 t o.path k).1.sz<=8*t.sz+2*(o.path.length+o.to'.length+o.data.length)+1000:=by
  intro k;unfold b3
  repeat' split
  all_goals first | (simp only; omega) | skip
  rename_i D hD _;have a1:=akN hD;have a2:=bF t (p8 D (aD o.path) t.next);have a3:=jY D (aD o.path) t.next;have a4:=bF (aG t (p8 D (aD o.path) t.next)) (apz t.next k);have a5:(apz t.next k).sz=0:=rfl;have a6:=aeF o.path;show (aG (aG t (p8 D (aD o.path) t.next)) (apz t.next k)).sz<=_;omega
 unfold aT
 repeat' split
 ·exact mk 2
 ·exact mk 1
 ·unfold cV
  repeat' split
  all_goals first | (simp only; omega) | skip
  rename_i X hX hl;have a1:=aaz hX;have a2:=bF t (mA X (x4 X.data o.off.toNat o.data));have a3:=akO X (x4 X.data o.off.toNat o.data);have a4:=afB X.data o.off.toNat o.data;have a5:X.data.length<=X.sz:=by show _<=X.data.length+szM Ent.sz X.ents+szM Attr.sz X.attrs; omega
  show (aG t (mA X (x4 X.data o.off.toNat o.data))).sz<=_;omega
 ·unfold jH
  repeat' split
  all_goals first | (simp only; omega) | skip
  rename_i hc _ X hX;have a1:=aaz hX;have a2:=bF t (mA X ((jP X.data o.off.toNat).take o.off.toNat));have a3:=akO X ((jP X.data o.off.toNat).take o.off.toNat);have a4:((jP X.data o.off.toNat).take o.off.toNat).length<=o.off.toNat:=by rw[lH]; omega
  have a5:0<=o.off/\o.off<=100:=by have:=hc.2.2; simpa [inR] using this
  show (aG t (mA X ((jP X.data o.off.toNat).take o.off.toNat))).sz<=_;omega
 ·unfold bZ
  repeat' split
  all_goals first | (simp only; omega) | skip
  rename_i X hX;have a1:=aaz hX;have a2:=aeD (t:=t) o.path;have a3:=gQ (exI (bQ t o.path)) (aD o.path);have a4:=bF t (gT (exI (bQ t o.path)) (aD o.path));show (oY t (exI (bQ t o.path)) (aD o.path) X).sz<=_;unfold oY;split
  ·have:=x5 (aG t (gT (exI (bQ t o.path)) (aD o.path))) X.ino; omega
  ·have:=bF (aG t (gT (exI (bQ t o.path)) (aD o.path))) (ajQ X);have:(ajQ X).sz=X.sz:=rfl;omega
 ·unfold cU
  repeat' split
  all_goals first | (simp only; omega) | skip
  rename_i X hX _ _;have a2:=aeD (t:=t) o.path;have a3:=gQ (exI (bQ t o.path)) (aD o.path);have a4:=bF t (gT (exI (bQ t o.path)) (aD o.path));have a5:=x5 (aG t (gT (exI (bQ t o.path)) (aD o.path))) X.ino;show (jX (aG t (gT (exI (bQ t o.path)) (aD o.path))) X.ino).sz<=_;omega
 ·unfold eG
  repeat' split
  all_goals first | (simp only; omega) | skip
  rename_i X hX _ D hD;have a1:=aaz hX;have a2:=akN hD;have a3:=jY D (aD o.to') X.ino;have a4:=bF t (p8 D (aD o.to') X.ino);have a5:=bF (aG t (p8 D (aD o.to') X.ino)) (oZ X);have a6:(oZ X).sz=X.sz:=rfl;have a7:=aeF o.to';show (aG (aG t (p8 D (aD o.to') X.ino)) (oZ X)).sz<=_;omega
 ·unfold eT
  repeat' split
  all_goals first | (simp only; omega) | skip
  rename_i X hX _ _ D2 h2;have a1:=aeD (t:=t) o.path;have a2:=akN h2;have a3:=gQ (exI (bQ t o.path)) (aD o.path);have a4:=bF t (gT (exI (bQ t o.path)) (aD o.path));have a5:=apd (exI (bQ t o.path)) D2 (aD o.path);have a6:=jY (sK (exI (bQ t o.path)) D2 (aD o.path)) (aD o.to') X.ino;have a7:=bF (aG t (gT (exI (bQ t o.path)) (aD o.path))) (p8 (sK (exI (bQ t o.path)) D2 (aD o.path)) (aD o.to') X.ino);have a8:=aeF o.to';show (aef t (exI (bQ t o.path)) D2 (aD o.path) (aD o.to') X.ino).sz<=_;unfold aef;omega
 ·unfold eU
  repeat' split
  all_goals first | (simp only; omega) | skip
  ·rename_i X hX _;have a1:=aeE hX;have a2:=aau X o.to';have a3:=bF t (jG X (gD X.attrs o.to'));show (aG t (jG X (gD X.attrs o.to'))).sz<=_;omega
  ·rename_i X hX _ _;have a1:=aeE hX;have a2:=ane X o.to' o.data;have a3:=bF t (jG X (sL (gD X.attrs o.to') ⟨o.to',o.data⟩));show (aG t (jG X (sL (gD X.attrs o.to') ⟨o.to',o.data⟩))).sz<=_;omega
end
theorem aeG {α β:Type} (f:α->β) (g:β->β) (h:α->α) (l:List α) (i:Nat) (hi:i<l.length) (e:g (f l[i])=f (h l[i])):(l.map f).modify i g=(l.modify i h).map f:=by
 apply lB2;intro j;simp only[lL1,lP1];by_cases hj:i=j
 ·subst hj;simp[lF hi,e]
 ·simp[hj]
theorem ape {α:Type} (f:α->Nat) (h:α->α) (K:Nat):∀ (l:List α) (i:Nat) (hi:i<l.length),f (h l[i])<=f l[i]+K->((l.modify i h).map f).sum<=(l.map f).sum+K:=by
 intro l;induction l with
 | nil=>intro i hi; simp at hi
 | cons x l ih=>
  intro i hi hK;cases i with
  | zero=>simp only[lU3] at hK; simp only[lM3,lR,lK2]; omega
  | succ i=>simp only[List.getElem_cons_succ] at hK; simp only[lN3,lR,lK2]; have:=ih i (by simpa using hi) hK; omega
theorem jT {f:Fs} {n:Int} {k:Nat} (h:mP f n=some k):k<f.vols.length:=by
 rw[mP,lC1] at h;exact h.1
def apB (n:Int) (v:Vol):Vol:={ v with limit:=n }
def aqD (f:Fs) (k:Nat) (n:Int):Fs:={ vols:=f.vols.modify k (apB n),next:=f.next }
def dB (f:Fs) (i n:Int):Fs × Int:=
 if fsB f=true/\inR n 32 4000=true then match mP f i with
  | none=>(f,2)
  | some k=>match f.vols[k]? with
   | none=>(f,2)
   | some v=>if n<(dD v.t:Nat) then (f,8) else (aqD f k n,0)
 else (f,1)
theorem aeH (f:Fs) (i n:Int) (h:f.sz<2^40):Sp 87 [f.x,.int .i64 i,.int .i64 n] (.tup [(dB f i n).1.o,.int .i64 (dB f i n).2]) U3:=by
 obtain⟨h1,h2⟩:=vW h;have hV:=tS f i A7;have hF:=vT f h;have hL:=cL n 32 4000;rcases dA (fsB f) with e1 | e1
 ·rw[e1] at hF;rw[dB,lO C4];refine Vw jL [] 975 [] fun w hP hQ=>?_
  refine K (aR f h) ?_;refine K hV ?_;exact K hF trivial
 rw[e1] at hF;rcases dA (inR n 32 4000) with e2 | e2
 ·rw[e2] at hL;rw[dB,lO (by simp[e2])];refine Vw jL [] 975 [] fun w hP hQ=>?_
  refine K (aR f h) ?_;refine K hV ?_;refine K hF ?_;exact K hL trivial
 rw[e2] at hL;rw[dB,lK ⟨e1,e2⟩];cases e3:mP f i with
 | none=>
  rw[e3] at hV;refine Vw jL [] 975 [] fun w hP hQ=>?_
  refine K (aR f h) ?_;refine K hV ?_;refine K hF ?_;exact K hL trivial
 | some k=>
  have hk:=jT e3;rw[e3,show gU (some k)=(k:Int) from rfl] at hV;simp only[lF hk];refine Vw jL [] 975 [] fun w hP hQ=>?_
  refine K (aR f h) ?_;refine K hV ?_;refine K hF ?_;refine K hL ?_;refine Jf (fun hx=>?_) fun hx=>?_
  ·exfalso; omega
  refine Nz (aL (show ((k:Nat):Int)<(f.vols.length:Nat) by omega)) ?_;refine K (n9 (f.vols[k]'hk).t (h2 _ (lI hk))) ?_;refine Jf (fun h5=>?_) fun h5=>?_
  ·refine N ?_;rw[lK A7]
  ·refine Nz (aL (show ((k:Nat):Int)<(f.vols.length:Nat) by omega)) ?_;rw[lO A7,aeG Vol.row _ (apB n) f.vols k hk rfl];rfl
theorem aeI (f:Fs) (i n:Int) (h:f.sz<2^40):Sp 41 [f.x,.int .i64 i,.int .i64 n] (.tup [(dB f i n).1.o,.int .i64 (dB f i n).2]) U3:=by
 obtain⟨h1,h2⟩:=vW h;have hV:=tT f i A7;have hF:=vU f h;have hL:=kO n;rcases dA (fsB f) with e1 | e1
 ·rw[e1] at hF;rw[dB,lO C4];refine Vw jK [] 463 [] fun w hP hQ=>?_
  refine K (bI f h) ?_;exact K hF trivial
 rw[e1] at hF;rcases dA (inR n 32 4000) with e2 | e2
 ·rw[e2] at hL;rw[dB,lO (by simp[e2])];refine Vw jK [] 463 [] fun w hP hQ=>?_
  refine K (bI f h) ?_;refine K hF ?_;exact K hL trivial
 rw[e2] at hL;rw[dB,lK ⟨e1,e2⟩];cases e3:mP f i with
 | none=>
  rw[e3] at hV;refine Vw jK [] 463 [] fun w hP hQ=>?_
  refine K (bI f h) ?_;refine K hF ?_;refine K hL ?_;exact K hV trivial
 | some k=>
  have hk:=jT e3;rw[e3,show gU (some k)=(k:Int) from rfl] at hV;simp only[lF hk];refine Vw jK [] 463 [] fun w hP hQ=>?_
  refine K (bI f h) ?_;refine K hF ?_;refine K hL ?_;refine K hV ?_;refine Jf (fun hx=>?_) fun hx=>?_
  ·exfalso; omega
  refine Nz (aL (show ((k:Nat):Int)<(f.vols.length:Nat) by omega)) ?_;refine K (oA (f.vols[k]'hk).t (h2 _ (lI hk))) ?_;refine Jf (fun h5=>?_) fun h5=>?_
  ·refine N ?_;rw[lK A7]
  ·refine Nz (aL (show ((k:Nat):Int)<(f.vols.length:Nat) by omega)) ?_;rw[lO A7,aeG Vol.row _ (apB n) f.vols k hk rfl];rfl
theorem af3 {α:Type} (c f:α->Nat) (K:Nat) (h:∀ x,c x<=K+K*f x) (l:List α):fH c l<=K*szM f l:=by
 simp only[fH,szM];induction l with
 | nil=>simp
 | cons x l ih=>
  have:=h x;simp only[lR,lK2,lZ,Nat.mul_add,Nat.mul_one] at ih ⊢;omega
theorem apf (x:Inode):x.cnt<=3+3*x.sz:=by
 have h1:=af3 Ent.cnt Ent.sz 2 (fun x=>by show 1+1<=_; omega) x.ents;have h2:=af3 Attr.cnt Attr.sz 2 (fun x=>by show 1+1<=_; omega) x.attrs;have e1:x.cnt=1+1+1+x.data.length+fH Ent.cnt x.ents+fH Attr.cnt x.attrs:=rfl;have e2:x.sz=x.data.length+szM Ent.sz x.ents+szM Attr.sz x.attrs:=rfl;omega
theorem apg (x:Tab):x.cntT<=3*x.sz:=af3 Inode.cnt Inode.sz 3 apf x.inodes
theorem anN (x:Fs):x.cntT<=5*x.sz:=by
 refine af3 Vol.cnt Vol.sz 5 (fun v=>?_) x.vols;have h1:=apg v.t;have e1:v.cnt=1+1+1+1+v.t.cntT+1:=rfl;have e2:v.sz=v.name.length+v.t.sz:=rfl;omega
theorem akP (f:Fs) (k:Nat) (n:Int):(aqD f k n).sz<=f.sz:=by
 have e:(aqD f k n).sz=(f.vols.modify k (apB n)).length+((f.vols.modify k (apB n)).map Vol.sz).sum:=rfl;have e2:f.sz=f.vols.length+(f.vols.map Vol.sz).sum:=rfl;rw[e,e2,List.length_modify];by_cases hk:k<f.vols.length
 ·have:=ape Vol.sz (apB n) 0 f.vols k hk (lE1 _);omega
 ·rw[List.modify_eq_self A7];exact lE1 _
theorem aeJ (f:Fs) (i n:Int):(dB f i n).1.sz<=f.sz:=by
 unfold dB;have:=akP
 repeat' split
 all_goals first | exact lE1 _ | exact akP _ _ _
def apC (f:Fs) (v:Vol):Fs:={ vols:=f.vols++[{ id:=f.next,name:=v.name,ro:=v.ro,limit:=v.limit,t:=v.t }],next:=f.next+1 }
def eM (f:Fs) (v:Vol):Fs × Int × Int:=
 match cG f v.name with
 | some _=>(f,0,4)
 | none=>if f.vols.length=6\/f.next=99 then (f,0,5) else (apC f v,f.next,0)
def eH (f:Fs) (n:aA) (l:Int):Fs × Int × Int:=
 if fsB f=true/\aP n=true/\inR l 32 4000=true then eM f { id:=0,name:=n,ro:=false,limit:=l,t:=tab1 } else (f,0,1)
theorem aaA {f:Fs} (h:fsB f=true):f.vols.length<=6/\1<=f.next/\f.next<=99:=by
 simp only[fsB,lM,decide_eq_true_eq,inR] at h;exact⟨h.1,h.2.1.1,h.2.1.2⟩
theorem aaB {α β:Type} (g:α->β) (l:List α) (x:α):(l++[x]).map g=l.map g++[g x]:=by simp
theorem akQ (f:Fs) (v:Vol) (h:f.sz<2^40) (hv:v.sz<2^40) (hf:f.vols.length<=6/\1<=f.next/\f.next<=99) :
  Sp 102 [f.o,v.x] (.tup [(eM f v).1.o,.int .i64 (eM f v).2.1,.int .i64 (eM f v).2.2]) U2:=by
 have hV:=mB f v.name A7;cases e1:cG f v.name with
 | some k=>
  rw[e1,show gU (some k)=(k:Int) from rfl] at hV;simp only[eM,e1];refine Vw fS [] 127 [] fun w hP hQ=>?_
  refine K hV ?_;refine Jf (fun hx=>?_) fun hx=>?_
  ·exact N trivial
  ·exfalso; omega
 | none=>
  rw[e1] at hV;simp only[eM,e1];by_cases h6:f.vols.length=6
  ·rw[lK (.inl h6)];refine Vw fS [] 127 [] fun w hP hQ=>?_
   exact Kz h6 (hV) trivial
  by_cases h9:f.next=99
  ·rw[lK (.inr h9)];refine Vw fS [] 127 [] fun w hP hQ=>?_
   refine Kz (And.intro h6 h9) (hV) ?_;refine Jg (fun hg=>?_) fun hg=>?_
   ·exfalso; omega
   exact Nz (And.intro hg h9) trivial
  rw[lO A7];refine Vw fS [] 127 [] fun w hP hQ=>?_
  refine K hV ?_;refine Jg (fun hg=>?_) fun hg=>?_
  ·exfalso; omega
  refine Nz hg ?_;refine Jf (fun db=>?_) fun db=>?_
  ·exfalso; omega
  refine N ?_;refine K (cB v.t (yK hv).2) ?_;simp only[apC,Fs.o,aaB];rfl
theorem af4 (f:Fs) (v:Vol) (h:f.sz<2^40) (hv:v.t.sz<2^40) (hf:f.vols.length<=6/\1<=f.next/\f.next<=99) :
  Sp 148 [f.x,v.x] (.tup [(eM f v).1.o,.int .i64 (eM f v).2.1,.int .i64 (eM f v).2.2]) U2:=by
 have hV:=o4 f v.name A7;cases e1:cG f v.name with
 | some k=>
  rw[e1,show gU (some k)=(k:Int) from rfl] at hV;simp only[eM,e1];refine Vw pR [] 255 [] fun w hP hQ=>?_
  refine K (aR f h) ?_;refine K hV ?_;refine Jf (fun hx=>?_) fun hx=>?_
  ·exact N trivial
  ·exfalso; omega
 | none=>
  rw[e1] at hV;simp only[eM,e1];by_cases h6:f.vols.length=6
  ·rw[lK (.inl h6)];refine Vw pR [] 255 [] fun w hP hQ=>?_
   refine K (aR f h) ?_;exact Kz h6 (hV) trivial
  by_cases h9:f.next=99
  ·rw[lK (.inr h9)];refine Vw pR [] 255 [] fun w hP hQ=>?_
   refine K (aR f h) ?_;refine K hV ?_;refine Jg (fun hg=>?_) fun hg=>?_
   ·exfalso; omega
   exact Nz (And.intro hg h9) trivial
  rw[lO A7];refine Vw pR [] 255 [] fun w hP hQ=>?_
  refine K (aR f h) ?_;refine K hV ?_;refine Jg (fun hg=>?_) fun hg=>?_
  ·exfalso; omega
  refine Nz hg ?_;refine Jf (fun db=>?_) fun db=>?_
  ·exfalso; omega
  refine N ?_;refine K (dW v.t hv) ?_;simp only[apC,Fs.o,aaB];rfl
theorem akR (f:Fs) (n:aA) (l:Int) (h:f.sz<2^40) (hn:n.length<2^30) :
  Sp 83 [f.x,.str n,.int .i64 l] (.tup [(eH f n l).1.o,.int .i64 (eH f n l).2.1,.int .i64 (eH f n l).2.2]) U3:=by
 have hF:=vT f h;have hN:=bT n A7;have hL:=cL l 32 4000;rcases dA (fsB f) with e1 | e1
 ·rw[e1] at hF;rw[eH,lO C4];refine Vw nV [] 463 [] fun w hP hQ=>?_
  refine K hF ?_;exact K (aR f h) trivial
 rw[e1] at hF;rcases dA (aP n) with e2 | e2
 ·rw[e2] at hN;rw[eH,lO (by simp[e2])];refine Vw nV [] 463 [] fun w hP hQ=>?_
  refine K hF ?_;refine K hN ?_;exact K (aR f h) trivial
 rw[e2] at hN;rcases dA (inR l 32 4000) with e3 | e3
 ·rw[e3] at hL;rw[eH,lO (by simp[e3])];refine Vw nV [] 463 [] fun w hP hQ=>?_
  refine K hF ?_;refine K hN ?_;refine K hL ?_;exact K (aR f h) trivial
 rw[e3] at hL;rw[eH,lK ⟨e1,e2,e3⟩];have hA:=af4 f { id:=0,name:=n,ro:=false,limit:=l,t:=tab1 } h (by show 1<_; omega) (aaA e1);generalize eM f { id:=0,name:=n,ro:=false,limit:=l,t:=tab1 }=r at *;have hT:=akq;generalize tab1=T at *;refine Vw nV [] 463 [] fun w hP hQ=>?_
 refine K hF ?_;refine K hN ?_;refine K hL ?_;refine Kd hT ?_;exact Kd hA trivial
theorem akS (f:Fs) (n:aA) (l:Int) (h:f.sz<2^40) (hn:n.length<2^30) :
  Sp 39 [f.x,.str n,.int .i64 l] (.tup [(eH f n l).1.o,.int .i64 (eH f n l).2.1,.int .i64 (eH f n l).2.2]) U3:=by
 have hF:=vU f h;have hN:=b0 n A7;have hL:=kO l;rcases dA (fsB f) with e1 | e1
 ·rw[e1] at hF;rw[eH,lO C4];refine Vw nU [(102,[.m,.b],[])] 463 [] fun w hP hQ=>?_
  refine K (bI f h) ?_;exact K hF trivial
 rw[e1] at hF;rcases dA (aP n) with e2 | e2
 ·rw[e2] at hN;rw[eH,lO (by simp[e2])];refine Vw nU [(102,[.m,.b],[])] 463 [] fun w hP hQ=>?_
  refine K (bI f h) ?_;refine K hF ?_;exact K hN trivial
 rw[e2] at hN;rcases dA (inR l 32 4000) with e3 | e3
 ·rw[e3] at hL;rw[eH,lO (by simp[e3])];refine Vw nU [(102,[.m,.b],[])] 463 [] fun w hP hQ=>?_
  refine K (bI f h) ?_;refine K hF ?_;refine K hN ?_;exact K hL trivial
 rw[e3] at hL;rw[eH,lK ⟨e1,e2,e3⟩];have hA:=akQ f { id:=0,name:=n,ro:=false,limit:=l,t:=tab1 } h (by show n.length+1<_; omega) (aaA e1);generalize eM f { id:=0,name:=n,ro:=false,limit:=l,t:=tab1 }=r at *;have hT:=akp;generalize tab1=T at *;refine Vw nU [(102,[.m,.b],[])] 463 [] fun w hP hQ=>?_
 refine K (bI f h) ?_;refine K hF ?_;refine K hN ?_;refine K hL ?_;refine K hT ?_;exact K hA trivial
theorem aph (f:Fs) (v:Vol):(apC f v).sz=f.sz+(1+v.sz):=by
 have e1:(apC f v).sz=(f.vols++[({ id:=f.next,name:=v.name,ro:=v.ro,limit:=v.limit,t:=v.t }:Vol)]).length+((f.vols++[({ id:=f.next,name:=v.name,ro:=v.ro,limit:=v.limit,t:=v.t }:Vol)]).map Vol.sz).sum:=rfl;have e2:f.sz=f.vols.length+(f.vols.map Vol.sz).sum:=rfl;have e3:v.sz=v.name.length+v.t.sz:=rfl;have e4:Vol.sz { id:=f.next,name:=v.name,ro:=v.ro,limit:=v.limit,t:=v.t }=v.name.length+v.t.sz:=rfl;rw[e1,lP2,List.sum_append,lU,lR,lW2,lK2,e4];simp only[lZ,List.length_nil,List.sum_nil];omega
theorem acA (f:Fs) (v:Vol):(eM f v).1.sz<=f.sz+(1+v.sz):=by
 unfold eM;split
 ·exact lZ3 _ _
 ·split
  ·exact lZ3 _ _
  ·exact Nat.le_of_eq (aph f v)
theorem akT (f:Fs) (n:aA) (l:Int):(eH f n l).1.sz<=f.sz+(2+n.length):=by
 unfold eH;split
 ·have:=acA f { id:=0,name:=n,ro:=false,limit:=l,t:=tab1 };have e:Vol.sz { id:=0,name:=n,ro:=false,limit:=l,t:=tab1 }=n.length+1:=rfl;omega
 ·exact lZ3 _ _
theorem akU (f:Fs) (k:Nat) (n:aA) (ro:Bool) (l:Int) (hk:k<f.vols.length) (h:f.sz<2^40) (hn:n.length<2^30) (hf:f.vols.length<=6/\1<=f.next/\f.next<=99) :
  age Tryz.prog 102 [.own 6 (f.vols.map Vol.row),.int .i64 f.next] [.int .i64 0,.str n,.bool ro,.int .i64 l,.lnk 1032 0 [⟨k,6,4⟩],.int .i64 (f.vols[k]).t.next]
   (.tup [(eM f { id:=0,name:=n,ro:=ro,limit:=l,t:=(f.vols[k]).t }).1.o,.int .i64 (eM f { id:=0,name:=n,ro:=ro,limit:=l,t:=(f.vols[k]).t }).2.1,.int .i64 (eM f { id:=0,name:=n,ro:=ro,limit:=l,t:=(f.vols[k]).t }).2.2]) [.agg [.undef,.int .i64 f.next],.undef]:=by
 have hV:=mB f n A7;have hk':((k:Nat):Int)<(f.vols.length:Nat):=by omega
 have ht:=(vW h).2 _ (lI hk);cases e1:cG f n with
 | some j=>
  rw[e1,show gU (some j)=(j:Int) from rfl] at hV;simp only[eM,e1];refine zR hmx fS [] 127 (lQ2 rfl) rfl (lQ2 rfl) rfl ?_;intro w hP hQ;refine N ?_;refine Nz (aL hk') ?_;refine Kz (aL hk') (hV) ?_;refine Jf (fun hx=>?_) fun hx=>?_
  ·exact Nz (aL hk') trivial
  ·exfalso; omega
 | none=>
  rw[e1] at hV;simp only[eM,e1];by_cases h6:f.vols.length=6
  ·rw[lK (.inl h6)];refine zR hmx fS [] 127 (lQ2 rfl) rfl (lQ2 rfl) rfl ?_;intro w hP hQ;refine N ?_;refine Nz (aL hk') ?_;exact Kz (And.intro h6 (aL hk')) (hV) trivial
  by_cases h9:f.next=99
  ·rw[lK (.inr h9)];refine zR hmx fS [] 127 (lQ2 rfl) rfl (lQ2 rfl) rfl ?_;intro w hP hQ;refine N ?_;refine Nz (aL hk') ?_;refine Kz (And.intro h6 (And.intro h9 (aL hk'))) (hV) ?_;refine Jg (fun hg=>?_) fun hg=>?_
   ·exfalso; omega
   exact Nz (And.intro hg (And.intro h9 (aL hk'))) trivial
  rw[lO A7];refine zR hmx fS [] 127 (lQ2 rfl) rfl (lQ2 rfl) rfl ?_;intro w hP hQ;refine N ?_;refine Nz (aL hk') ?_;refine Kz (aL hk') (hV) ?_;refine Jg (fun hg=>?_) fun hg=>?_
  ·exfalso; omega
  refine Nz (And.intro hg (aL hk')) ?_;refine Jf (fun db=>?_) fun db=>?_
  ·exfalso; omega
  refine Nz (aL hk') ?_;refine Kz (aL hk') (cB (f.vols[k]).t ht) ?_;simp only[apC,Fs.o,aaB];rfl
def jE (f:Fs) (i:Int) (n:aA) (ro:Bool):Fs × Int × Int:=
 if fsB f=true/\aP n=true then match mP f i with
  | none=>(f,0,2)
  | some k=>match f.vols[k]? with
   | none=>(f,0,2)
   | some v=>eM f { id:=0,name:=n,ro:=ro,limit:=v.limit,t:=v.t }
 else (f,0,1)
theorem af5 (f:Fs) (i:Int) (n:aA) (ro:Bool) (h:f.sz<2^40) (hn:n.length<2^30) :
  Sp 97 [f.x,.int .i64 i,.str n,.bool ro] (.tup [(jE f i n ro).1.o,.int .i64 (jE f i n ro).2.1,.int .i64 (jE f i n ro).2.2]) U4:=by
 obtain⟨h1,h2⟩:=vW h;have hV:=tT f i A7;have hF:=vU f h;have hN:=b0 n A7;rcases dA (fsB f) with e1 | e1
 ·rw[e1] at hF;rw[jE,lO C4];refine Vw pQ [(102,[.m],[])] 3871 [] fun w hP hQ=>?_
  refine K (bI f h) ?_;exact K hF trivial
 rw[e1] at hF;rcases dA (aP n) with e2 | e2
 ·rw[e2] at hN;rw[jE,lO (by simp[e2])];refine Vw pQ [(102,[.m],[])] 3871 [] fun w hP hQ=>?_
  refine K (bI f h) ?_;refine K hF ?_;exact K hN trivial
 rw[e2] at hN;rw[jE,lK ⟨e1,e2⟩];cases e3:mP f i with
 | none=>
  rw[e3] at hV;refine Vw pQ [(102,[.m],[])] 3871 [] fun w hP hQ=>?_
  refine K (bI f h) ?_;refine K hF ?_;refine K hN ?_;exact K hV trivial
 | some k=>
  have hk:=jT e3;have hk':((k:Nat):Int)<(f.vols.length:Nat):=by omega
  rw[e3,show gU (some k)=(k:Int) from rfl] at hV;simp only[lF hk];have hA:=akU f k n ro (f.vols[k]).limit hk h hn (aaA e1);generalize eM f { id:=0,name:=n,ro:=ro,limit:=(f.vols[k]).limit,t:=(f.vols[k]).t }=r at *;refine Vw pQ [(102,[.m],[])] 3871 [] fun w hP hQ=>?_
  refine K (bI f h) ?_;refine K hF ?_;refine K hN ?_;refine K hV ?_;refine Jf (fun hx=>?_) fun hx=>?_
  ·exfalso; omega
  refine Nz (aL hk') ?_
  (first|refine cK hP (hA) rfl rfl ?_|refine cKH hP (hA) rfl rfl ?_)
  exact N trivial
theorem acB (f:Fs) (i:Int) (n:aA) (ro:Bool) (h:f.sz<2^40) (hn:n.length<2^30) :
  Sp 150 [f.x,.int .i64 i,.str n,.bool ro] (.tup [(jE f i n ro).1.o,.int .i64 (jE f i n ro).2.1,.int .i64 (jE f i n ro).2.2]) U4:=by
 obtain⟨h1,h2⟩:=vW h;have hV:=tS f i A7;have hF:=vT f h;have hN:=bT n A7;rcases dA (fsB f) with e1 | e1
 ·rw[e1] at hF;rw[jE,lO C4];refine Vw nW [] 3871 [] fun w hP hQ=>?_
  refine K hV ?_;refine K hF ?_;exact K (aR f h) trivial
 rw[e1] at hF;rcases dA (aP n) with e2 | e2
 ·rw[e2] at hN;rw[jE,lO (by simp[e2])];refine Vw nW [] 3871 [] fun w hP hQ=>?_
  refine K hV ?_;refine K hF ?_;refine K hN ?_;exact K (aR f h) trivial
 rw[e2] at hN;rw[jE,lK ⟨e1,e2⟩];cases e3:mP f i with
 | none=>
  rw[e3] at hV;refine Vw nW [] 3871 [] fun w hP hQ=>?_
  refine K hV ?_;refine K hF ?_;refine K hN ?_;exact K (aR f h) trivial
 | some k=>
  have hk:=jT e3;have hk':((k:Nat):Int)<(f.vols.length:Nat):=by omega
  have ht:=h2 _ (lI hk);have hz:=l5 Vol.sz (l:=f.vols) (i:=k) hk;rw[e3,show gU (some k)=(k:Int) from rfl] at hV;simp only[lF hk];have hA:=af4 f { id:=0,name:=n,ro:=ro,limit:=(f.vols[k]).limit,t:=(f.vols[k]).t } h ht (aaA e1);generalize eM f { id:=0,name:=n,ro:=ro,limit:=(f.vols[k]).limit,t:=(f.vols[k]).t }=r at *;refine Vw nW [] 3871 [] fun w hP hQ=>?_
  refine K hV ?_;refine K hF ?_;refine K hN ?_;refine Jf (fun hx=>?_) fun hx=>?_
  ·exfalso; omega
  refine Nz (aL hk') ?_;exact K hA trivial
theorem ahG (f:Fs) (i:Int) (n:aA) (h:f.sz<2^40) (hn:n.length<2^30) :
  Sp 35 [f.x,.int .i64 i,.str n] (.tup [(jE f i n true).1.o,.int .i64 (jE f i n true).2.1,.int .i64 (jE f i n true).2.2]) U3:=by
 have hA:=af5 f i n true h hn;generalize jE f i n true=r at *;refine Vw adz [] 463 [] fun w hP hQ=>?_
 exact K hA trivial
theorem aeK (f:Fs) (i:Int) (n:aA) (h:f.sz<2^40) (hn:n.length<2^30) :
  Sp 43 [f.x,.int .i64 i,.str n] (.tup [(jE f i n false).1.o,.int .i64 (jE f i n false).2.1,.int .i64 (jE f i n false).2.2]) U3:=by
 have hA:=af5 f i n false h hn;generalize jE f i n false=r at *;refine Vw abr [] 463 [] fun w hP hQ=>?_
 exact K hA trivial
theorem ahH (f:Fs) (i:Int) (n:aA) (h:f.sz<2^40) (hn:n.length<2^30) :
  Sp 84 [f.x,.int .i64 i,.str n] (.tup [(jE f i n true).1.o,.int .i64 (jE f i n true).2.1,.int .i64 (jE f i n true).2.2]) U3:=by
 have hA:=acB f i n true h hn;generalize jE f i n true=r at *;refine Vw adH [] 463 [] fun w hP hQ=>?_
 exact K hA trivial
theorem aeL (f:Fs) (i:Int) (n:aA) (h:f.sz<2^40) (hn:n.length<2^30) :
  Sp 85 [f.x,.int .i64 i,.str n] (.tup [(jE f i n false).1.o,.int .i64 (jE f i n false).2.1,.int .i64 (jE f i n false).2.2]) U3:=by
 have hA:=acB f i n false h hn;generalize jE f i n false=r at *;refine Vw abs [] 463 [] fun w hP hQ=>?_
 exact K hA trivial
theorem akV (f:Fs) (i:Int) (n:aA) (ro:Bool):(jE f i n ro).1.sz<=f.sz+(1+n.length+f.sz):=by
 unfold jE;split
 ·split
  ·exact lZ3 _ _
  ·rename_i k _;split
   ·exact lZ3 _ _
   ·rename_i v hv;have h1:=acA f { id:=0,name:=n,ro:=ro,limit:=v.limit,t:=v.t };have e:Vol.sz { id:=0,name:=n,ro:=ro,limit:=v.limit,t:=v.t }=n.length+v.t.sz:=rfl;have h2:=m5 (f:=Vol.sz) (lE3 hv);have e2:f.sz=f.vols.length+(f.vols.map Vol.sz).sum:=rfl;have e3:v.sz=v.name.length+v.t.sz:=rfl;omega
 ·exact lZ3 _ _
def aqE (f:Fs) (k:Nat):Fs:={ vols:=f.vols.eraseIdx k,next:=f.next }
def fQ (f:Fs) (i:Int):Fs × Int:=
 if fsB f=true then match mP f i with
  | none=>(f,2)
  | some k=>(aqE f k,0)
 else (f,1)
section
def bU (f:Fs) (o:Op):Fs × Int:=
 if o.kind=10 then ((eH f o.path o.off).1,(eH f o.path o.off).2.2) else if o.kind=11 then ((jE f o.vol o.path true).1,(jE f o.vol o.path true).2.2) else
 if o.kind=12 then ((jE f o.vol o.path false).1,(jE f o.vol o.path false).2.2) else if o.kind=13 then fQ f o.vol else if o.kind=14 then dB f o.vol o.off else
 if inR o.kind 1 9=true then kU f o else (f,1)
variable {f:Fs}
end
theorem acC (f:Fs) (k:Nat) (t:Tab) (hk:k<f.vols.length):(f.vols.map Vol.row).modify k (fun r=>r.take 4++[.sl 6 (t.inodes.map Inode.row),.int .i64 t.next]++r.drop 6)=(apA f k t).vols.map Vol.row:=
 aeG Vol.row _ (fun v=>{ v with t:=t }) f.vols k hk rfl
theorem acD {f:Fs} (h:fsB f=true) {k:Nat} (hk:k<f.vols.length):f.vols[k].t.sz<2^28/\bE f.vols[k].t=true:=by
 have ht:=(((apc f).1 h).vol _ (lI hk)).tree;have:=ahk ht;exact⟨by omega,ht⟩
section
open Go.Proofs Go.Shelf Go.RowKit Go.Lib Go.Sort
theorem qM {P:Program} (w:World) (t e ty:TypeId) (z:Value) (ht:P.underlying t=some (.slice e)) (hv:∀ w,(zeroValue e).run P w=.ok z w) (b o c:Nat) (h0:0<z.cells.size)
  (hc:∀ j,j<z.cells.size->(w.cell? ⟨b,o+j,none⟩).isSome=true) (hf:∀ j,j<z.cells.size->w.frozen? ⟨b,o+j,none⟩=false) (h1:∀ v ∈ z.cells.toList,v.oneCell'=true) :
  (Builtin.clear_ #[t] ty #[.slice (some ⟨b,o,none⟩) 1 c]).run P w=.ok (.tuple #[]) (w.setCells b o z.cells.toList):=by
 have hzc:(Builtin.zeroCells z.cells 1).toList=z.cells.toList:=by rw[oI _ _ h0]; simp
 have eh:=run_storeCells_cells (P:=P) b o z.cells.toList 0 w (by simpa using hc) (by simpa using hf) h1;simp only[lT3] at eh;simp[Builtin.clear_,run_underlying ht,hv,hzc,eh]
theorem af6 {P:Program} {f s:Nat} {es:List (List TV)} {i:Nat} (hE:mE P f) (hs:∀ r ∈ es,r.length=s) (hk:es.flatten.all b5=true) (hi:i<es.length) (zs:List Value) (hz:zs.length=s)
  (run:∀ (w:World) (blk off cap:Nat) (cs:List Value),cs.length=es.length*s->(∀ t u,cs[t]?=some u->w.cell? ⟨blk,off+t,none⟩=some u)->(∀ t,t<es.length*s->w.frozen? ⟨blk,off+t,none⟩=false) ->
   (∀ u ∈ cs,u.oneCell'=true)->es.length<=cap ->
   Calls P f #[.slice (some ⟨blk,off,none⟩) es.length cap,.int .i64 i,.int .i64 ((i+1:Nat):Int)] w fun e w'=>e=.returned (.slice (some ⟨blk,off,none⟩) (i+(es.length-(i+1))) cap) /\
    w'=(w.drew.setCells blk (off+i*s) (cs.drop ((i+1)*s))).setCells blk (off+(i+(es.length-(i+1)))*s) zs) :
  mU P f [.own s es,.int .i64 i,.int .i64 ((i:Int)+1)] (.own s (es.eraseIdx i)) U3:=by
 refine⟨hE,rfl,?_⟩;intro w vs F X r h1 h2 h3;cases r with
 | own _ F1 F2 _ s es v vs ys hr hn hF=>
  cases hn with
  | int _ _ _ _ vs _ hn=>
  cases hn with
  | int _ _ _ _ vs _ hn=>
  cases hn with
  | nil _ _ gt hX=>
   rcases Row.sl_inv hr with ⟨rfl,he,h0⟩ | ⟨G1,b,off,cap,C,ty,fr,cs,rfl,hb,hfr,hcap,hle,ap,hcs,hc,ak,hG⟩
   ·subst he; simp at hi
   ·have al:∀ t u,cs[t]?=some u->w.cell? ⟨b,off+t,none⟩=some u:=by
     intro t u hu;have ht:=(lG.1 hu).1;simp[World.cell?,hb,hc t ht,hu]
    have hfro:∀ t,t<es.length*s->w.frozen? ⟨b,off+t,none⟩=false:=by
     intro t ht;have h5:es.length*s<=cap*s:=lJ1 s hle;have:=hfr.1 (off+t) A7;simp[World.frozen?,hb];simpa using this
    have kj:b<w.heap.size:=(lG4.1 hb).1;refine(run w b off cap cs hcs al hfro (kE ak hk) hle).mono ?_;rintro e w' ⟨rfl,hw⟩;have me:es.length*s<=cap*s:=lJ1 s hle;obtain⟨m,hm⟩:∃ m,es.length=i+(m+1):=⟨es.length-(i+1),by omega⟩
    have e0:es.length-(i+1)=m:=by omega
    rw[e0] at hw ⊢;have hL:es.length*s=i*s+(m*s+s):=by rw[hm,lH2,lH2,lM4]
    have hJ:(i+1)*s=i*s+s:=by rw[lH2,lM4]
    have hO:(i+m)*s=i*s+m*s:=lH2 _ _ _;have cd:(cs.drop ((i+1)*s)).length=m*s:=by rw[lK1,hcs,hL,hJ]; omega
    obtain⟨C1,eg,jg,ge,cn⟩:=cF b (cs.drop ((i+1)*s)) (off+i*s) w.drew C ty fr hb (by rw[cd]; omega);have gg:C1.size=C.size:=by
     have:C1.toList.length=C.toList.length:=by rw[eg,fA _ _ _ (by rw[cd,lD1]; omega)]
     simpa using this
    obtain⟨C2,dz,li,ek,bd⟩:=cF b zs (off+(i+m)*s) _ C1 ty fr jg (by rw[gg,hO,hz]; omega);have ew:C2.size=C.size:=by
     have:C2.toList.length=C1.toList.length:=by rw[dz,fA _ _ _ (by rw[hz,lD1,gg,hO]; omega)]
     rw[<-gg]; simpa using this
    rw[<-hw] at li ek bd;have hes2:∀ r ∈ es.eraseIdx i,r.length=s:=fun r hr=>hs r (List.mem_of_mem_eraseIdx hr)
    have fk:(es.eraseIdx i).length=i+m:=by rw[List.length_eraseIdx,lK hi]; omega
    have efl:es.flatten=(es.take i).flatten++((es[i]::es.drop (i+1)).flatten):=by
     rw[<-lV1,<-lE2 hi,lJ]
    have efe:(es.eraseIdx i).flatten=(es.take i).flatten++(es.drop (i+1)).flatten:=by
     rw[lB3,lV1]
    have l1:(es.take i).flatten.length=i*s:=by rw[bS _ (fun e he=>hs e (lY1 he)),lH,lB1 A7]
    have l2:(es[i]).length=s:=hs _ (lI hi);have ecs:cs=cs.take (i*s)++((cs.drop (i*s)).take s++cs.drop ((i+1)*s)):=by
     rw[hJ,<-lA2,lJ,lJ]
    rw[ecs,efl,lD3] at ak;obtain⟨A1,B1,r1,r2,eA⟩:=Row.split (cs.take (i*s)) _ (by rw[l1,lH,hcs,hL]; omega) ak;obtain⟨A2,A3,r2,r3,eB⟩:=Row.split ((cs.drop (i*s)).take s) _ (by rw[l2,lH,lK1,hcs,hL]; omega) r2;have dp:∀ x,F1 x<=1:=fun x=>by have:=h1 x; have:=hF x; omega
    have hA:∀ x,A1 x+A3 x≠0->x≠b:=fun x hx e=>by subst e; have:=dp x; have:=hG x; have:=eA x; have:=eB x; simp at *; omega
    have cv:∀ x,x≠b->w'.heap[x]?=w.heap[x]?:=fun x hx=>(ek x hx).trans (ge x hx)
    have rnew:Row w' true (fun x=>A1 x+A3 x) (cs.take (i*s)++cs.drop ((i+1)*s)) (es.eraseIdx i).flatten:=by
     rw[efe];exact(Row.append r1 r3 (fun _=>rfl)).same (fun x hx=>cv x (hA x hx))
    have bk:(cs.take (i*s)++cs.drop ((i+1)*s)).length=(es.eraseIdx i).length*s:=by
     rw[lU,cd,lH,hcs,hL,fk,hO]; omega
    have de:Row w' true (fun x=>(if x=b then 1 else 0)+(A1 x+A3 x)) [.slice (some ⟨b,off,none⟩) (i+m) cap] [.sl s (es.eraseIdx i)]:=by
     refine Row.of_sl (F1:=fun x=>A1 x+A3 x) fk.symm li (by rw[ew]; exact hfr) (by rw[ew]; exact hcap) A7 hes2 bk ?_ rnew (fun _=>rfl);intro k hk;rw[bk,fk,hO] at hk;have g2:C2[off+k]?=C1[off+k]?:=by
      rw[<-lR1,<-lR1,dz,lay,lM2,lS1 (by rw[lH,lD1,gg,hO]; omega),lT,lK (by rw[hO]; omega)]
     rw[g2,<-lR1,eg,lay,lM2];have ib:(C.toList.take (off+i*s)).length=off+i*s:=by rw[lH,lD1]; omega
     by_cases hki:k<i*s
     ·rw[lS1 A7,lT,lK A7,lR1,hc k (by rw[hcs]; omega),lS1 (by rw[lH,hcs,hL]; omega),lT,lK hki]
     ·rw[lJ2 A7,ib,lS1 (by rw[cd]; omega),lJ2 (by rw[lH]; omega),lH,hcs,lB1 A7];congr 1;omega
    have nc:∀ x,(if x=b then 1 else 0)+(A1 x+A3 x)<=F x:=fun x=>by have:=hF x; have:=hG x; have:=eA x; have:=eB x; omega
    have hbF:F b≠0:=by have:=hF b; have:=hG b; simp at this; omega
    have ar:w'.heap.size=w.heap.size:=bd.size.trans cn.size;refine⟨_,fun x=>(if x=b then 1 else 0)+(A1 x+A3 x),X,rfl,?_,fun x=>by have:=nc x; have:=h1 x; (try dsimp only); omega,fun x=>?_,⟨by rw[ar]; exact Nat.le_refl _,⟨bd.quiet.os.trans cn.quiet.os,bd.quiet.out.trans cn.quiet.out⟩⟩,fun x _ h0=>cv x (fun e=>hbF (e ▸ h0)),fun x hx=>.inl (by have:=nc x; (try dsimp only at hx); omega),fun x hx=>⟨.inl hx,by rw[ar]; exact h3 x hx⟩⟩
    ·exact .own _ (fun x=>(if x=b then 1 else 0)+(A1 x+A3 x)) (fun _=>0) X s _ _ _ _ de (.undef _ _ _ _ _ (.undef _ _ _ _ _ (.undef _ _ _ _ _ (.nil _ _ (fun _=>rfl) hX)))) (fun x=>by simp)
    ·have:=nc x; have:=h2 x; (try dsimp only); omega
end
section
open Go.Proofs Go.Shelf Go.RowKit Go.Lib Go.Sort
set_option maxHeartbeats 4000000 in
set_option maxRecDepth 1000000 in
theorem w9 {blk off len cap i j:Nat} {cs:List Value} {w:World} (hcs:cs.length=len*6) (hc:∀ t u,cs[t]?=some u->w.cell? ⟨blk,off+t,none⟩=some u)
  (ch:∀ t,t<len*6->w.frozen? ⟨blk,off+t,none⟩=false) (h1:∀ u ∈ cs,u.oneCell'=true) (ac:len<=cap) (hi:i<len) (pg:j=i+1) :
  Calls Tryz.prog 98 #[.slice (some ⟨blk,off,none⟩) len cap,.int .i64 i,.int .i64 j] w fun e w'=>e=.returned (.slice (some ⟨blk,off,none⟩) (i+(len-j)) cap) /\
   w'=(w.drew.setCells blk (off+i*6) (cs.drop (j*6))).setCells blk (off+(i+(len-j))*6) [.int .i64 0,.string { data:=#[] },.bool false,.int .i64 0,.slice none 0 0,.int .i64 0]:=by
 have mixed:Tryz.prog.follows .mixedOrders=true:=by kernel_rfl
 have t0:=Tryz.underlying0;have a0:=Tryz.isAgg0;have z0:=Tryz.sizeOf0;have v0:=Tryz.zeroValue0;have t3:=Tryz.underlying3;have a3:=Tryz.isAgg3;have z3:=Tryz.sizeOf3;have v3:=Tryz.zeroValue3;have t4:=Tryz.underlying4;have a4:=Tryz.isAgg4;have z4:=Tryz.sizeOf4;have v4:=Tryz.zeroValue4;have t46:=Tryz.underlying46;have a46:=Tryz.isAgg46;have z46:=Tryz.sizeOf46;have v46:=Tryz.zeroValue46;have v75:=Tryz.zeroValue75;have iE:(Tryz.prog.info? 75).map (fun i=>(i.zero,i.size,i.bytes))=some (some (.agg #[.int .i64 0,.string { data:=#[] },.bool false,.int .i64 0,.slice none 0 0,.int .i64 0]),6,72):=by kernel_rfl
 obtain⟨i0,cj,dl,ca,da⟩:=info_parts iE;obtain⟨news,bh⟩:∃ news,news=cs.drop (j*6):=⟨_,rfl⟩
 have cd:news.length=(len-j)*6:=by rw[bh,lK1,hcs]; omega
 have bq:∀ (t:Nat) (u:Value),news[t]?=some u->w.cell? ⟨blk,off+(j*6+t),none⟩=some u:=by
  intro t u h;rw[bh,lY] at h;exact hc _ u h
 obtain⟨A,hA,ej⟩:∃ A:Addr,(if cap=j then some (⟨blk,off,none⟩:Addr) else some ⟨blk,off+j*6,none⟩)=some A/\Hid (∀ t u,news[t]?=some u->w.drew.cell? (A.add t)=some u):=by
  by_cases h:cap=j
  ·refine⟨⟨blk,off,none⟩,by simp[h],fun t u hu=>?_⟩;have h0:news.length=0:=by rw[cd]; omega
   rw[lO1.1 h0] at hu;simp at hu
  ·refine⟨⟨blk,off+j*6,none⟩,by simp[h],fun t u hu=>?_⟩;rw[Addr.add_lit,lQ1];exact bq t u hu
 have s1:Hid (news.length=(len-j)*6):=cd;have s2:Hid (∀ u ∈ news,u.oneCell'=true):=fun u hu=>h1 u (by rw[bh] at hu; exact lZ1 hu)
 have al:∀ t,t<len*6->(w.cell? ⟨blk,off+t,none⟩).isSome=true:=by
  intro t ht;rw[hc t _ (lF A7)]; rfl
 have s3:Hid (∀ t,t<news.length->(w.drew.cell? ⟨blk,off+i*6+t,none⟩).isSome=true/\w.drew.frozen? ⟨blk,off+i*6+t,none⟩=false):=by
  intro t ht;rw[cd] at ht;rw[lQ1];exact⟨al _ A7,ch _ A7⟩
 obtain⟨W1,bt⟩:∃ W1,W1=w.drew.setCells blk (off+i*6) news:=⟨_,rfl⟩
 have dn:∀ t,t<len*6->(W1.cell? ⟨blk,off+t,none⟩).isSome=true/\W1.frozen? ⟨blk,off+t,none⟩=false:=by
  intro t ht;rw[bt];exact⟨World.isSome_setCells _ _ _ _ _ (al t ht),by rw[World.frozen?_setCells]; exact ch t ht⟩
 have bk:∀ ty,(Builtin.clear_ #[46] ty #[.slice (some ⟨blk,off+(i+(len-j))*6,none⟩) (len-(i+(len-j))) (cap-(i+(len-j)))]).run Tryz.prog W1=.ok (.tuple #[]) (W1.setCells blk (off+(i+(len-j))*6) [.int .i64 0,.string { data:=#[] },.bool false,.int .i64 0,.slice none 0 0,.int .i64 0]):=by
  intro ty;rw[show len-(i+(len-j))=1 by omega];exact qM W1 46 75 ty _ t46 v75 blk _ _ C3 (fun k hk=>by
   have hk6:k<6:=hk;rw[lQ1]; exact(dn _ A7).1) (fun k hk=>by
   have hk6:k<6:=hk;rw[lQ1]; exact(dn _ A7).2) C3
 have hW:Hid (W1=w.drew.setCells blk (off+i*6) news):=bt;have hic:i<=cap:=by omega
 have hjc:j<=cap:=by omega
 have kz:i<=j:=by omega
 have ea:j<=len:=by omega
 have aa:i<j:=by omega
 rw[<-bh];clear hcs hc ch h1 bq al cd dn bt bh pg
 go_enter Tryz.func98,Tryz.ntmps98
 go_wp2_with fail
 go_region_law_o (refine step_append_room rfl (.tmp 22) (.tmp 25) 46 rfl 75 i0 6 t46 cj ca blk off i cap B5 A (len-j) (cap-j) news B5 s1.out ej.out s2.out A7 s3.out ?_; rw[<-hW.out])
 go_wp2
 go_ret
 exact⟨rfl,by rw[hW.out]⟩
theorem acE (l:List Vol) (i:Nat) (hi:i<l.length):Sp 98 [.own 6 (l.map Vol.row),.int .i64 i,.int .i64 ((i:Int)+1)] (.own 6 ((l.eraseIdx i).map Vol.row)) U3:=by
 have kc:∀ r ∈ l.map Vol.row,r.length=6:=fun r hr=>by obtain⟨x,_,rfl⟩:=lV2.1 hr; rfl
 have kd:(l.map Vol.row).flatten.all b5=true:=by
  rw[lP];intro t ht;obtain⟨r,hr,ht⟩:=lW4.1 ht;obtain⟨x,_,rfl⟩:=lV2.1 hr;exact lP.1 (show (Vol.row x).all b5=true from rfl) t ht
 have hl:(l.map Vol.row).length=l.length:=lU1 _;rw[show (l.eraseIdx i).map Vol.row=(l.map Vol.row).eraseIdx i by simp[lB3]];generalize l.map Vol.row=es at *;refine af6 (s:=6) ⟨_,Tryz.func98,by kernel_rfl,by kernel_rfl⟩ kc kd A7 [.int .i64 0,.string { data:=#[] },.bool false,.int .i64 0,.slice none 0 0,.int .i64 0] rfl fun w blk off cap cs hcs hc ch h1 hle=>?_
 have:=w9 (j:=i+1) hcs hc ch h1 hle A7 rfl;exact this
end
end Go.Proofs.YtnfeefcnblondaaGreatDoor.Awp
