/- Contracts of the functions that laws.FnExactApply reaches are proved here (part 3). Condition: none. -/
import Derived.Test.YtnfeefcnblondaaGreatDoorFnExactApplyX2
set_option linter.unusedVariables false
set_option linter.unusedSimpArgs false
set_option maxRecDepth 100000
set_option maxHeartbeats 20000000
open Nat (reduceEqDiff reduceAdd reduceMul reduceSub)
open Int (reduceNeg reduceToNat reducePow)
namespace Go.Proofs.YtnfeefcnblondaaGreatDoor.Awp
theorem ahI (f:Fs) (i:Int) (h:f.sz<2^40):Sp 36 [f.x,.int .i64 i] (.tup [(fQ f i).1.o,.int .i64 (fQ f i).2]) U2:=by
 obtain⟨h1,h2⟩:=vW h;have hV:=tT f i A7;have hF:=vU f h;rcases dA (fsB f) with e1 | e1
 ·rw[e1] at hF;rw[fQ,lO C4];refine Vw oU [(98,[.m,.b,.b],[])] 119 [] fun w hP hQ=>?_
  refine K (bI f h) ?_;exact K hF trivial
 rw[e1] at hF;rw[fQ,lK e1];cases e3:mP f i with
 | none=>
  rw[e3] at hV;refine Vw oU [(98,[.m,.b,.b],[])] 119 [] fun w hP hQ=>?_
  refine K (bI f h) ?_;refine K hF ?_;exact K hV trivial
 | some k=>
  have hk:=jT e3;rw[e3,show gU (some k)=(k:Int) from rfl] at hV;refine Vw oU [(98,[.m,.b,.b],[])] 119 [] fun w hP hQ=>?_
  refine K (bI f h) ?_;refine K hF ?_;refine K hV ?_;refine Jf (fun hx=>?_) fun hx=>?_
  ·exfalso; omega
  refine N ?_;refine K (acE f.vols k hk) ?_;rfl
theorem yR (l:List Vol):gC (l.map Vol.row)=true:=by
 rw[gC,lP];intro r hr;obtain⟨x,_,rfl⟩:=lV2.1 hr;rfl
theorem wA {l:List Vol} (h:l≠[]):eV (l.map Vol.row)=false:=by
 cases l with
 | nil=>exact absurd rfl h
 | cons v l=>simp[eV,Vol.row,lA]
theorem ahJ (f:Fs) (i:Int) (h:f.sz<2^40):Sp 86 [f.x,.int .i64 i] (.tup [(fQ f i).1.o,.int .i64 (fQ f i).2]) U2:=by
 obtain⟨h1,h2⟩:=vW h;have hV:=tS f i A7;have hF:=vT f h;rcases dA (fsB f) with e1 | e1
 ·rw[e1] at hF;rw[fQ,lO C4];refine Vw oV [] 247 [] fun w hP hQ=>?_
  refine K (aR f h) ?_;refine K hV ?_;exact K hF trivial
 rw[e1] at hF;rw[fQ,lK e1];cases e3:mP f i with
 | none=>
  rw[e3] at hV;refine Vw oV [] 247 [] fun w hP hQ=>?_
  refine K (aR f h) ?_;refine K hV ?_;exact K hF trivial
 | some q=>
  have hq:=jT e3;rw[e3,show gU (some q)=(q:Int) from rfl] at hV;refine Vw oV [(999998,[],[(0,0)])] 5357543035931336604742125245300009052807024058527668037218751941851755255624680612465991894078479290637973364587765734125935726428461570217992288787349287401967283887412115492710537302531185570938977091076523237491790970633699383779582771973038531457285598238843271083830214915826312193418602834034935 [] fun w hP hQ=>?_
  refine K (aR f h) ?_;refine K hV ?_;refine K hF ?_;refine Jf (fun hx=>?_) fun hx=>?_
  ·exfalso; omega
  refine N ?_;have n1:((q:Int)-0).toNat=q:=by omega
  have kn1:gC ((f.vols.map Vol.row).take q)=true:=by rw[<-lL3]; exact yR _
  have n2:((q:Int)+1).toNat=q+1:=by omega
  have n3:((f.vols.length:Int)-((q:Int)+1)).toNat=f.vols.length-(q+1):=by omega
  have tk:((f.vols.map Vol.row).drop (q+1)).take (f.vols.length-(q+1))=(f.vols.map Vol.row).drop (q+1):=by
   rw[lW1]; simp
  have kn2:gC ((f.vols.map Vol.row).drop (q+1))=true:=by rw[<-lV4]; exact yR _
  have ret:(f.vols.map Vol.row).take q++(f.vols.map Vol.row).drop (q+1)=(f.vols.eraseIdx q).map Vol.row:=by
   rw[lB3,lP2,lL3,lV4]
  refine aqT (by rw[hQ.2.1]; rfl) rfl (.node 5 6 (.tr 5 6 7 (.tr 5 7 10 (.leaf [0,1,2,3,4,5,6,7,8,9,10,11,12,13]))) (.node 5 7 (.tr 5 7 10 (.leaf [0,1,2,3,4,6,5,7,8,9,10,11,12,13])) (.node 5 10 (.leaf [0,1,2,3,4,6,7,5,8,9,10,11,12,13]) (.leaf [0,1,2,3,4,6,7,8,9,10,5,11,12,13])))) ⟨by decide,⟨rfl,⟨rfl,tP (is':=[n 22 (.bsl 22 6 []),n 23 (.fld 23 (v 6) 0),n 24 (.ld 24 (v 23) 1 false),n 25 (.mov 25 (v 7)),n 26 (.slc 26 (v 24) none (some (v 25)) 6),n 27 (.app 27 (v 22) (v 26) 6 72),n 28 (.fld 28 (v 6) 0),n 29 (.ld 29 (v 28) 1 false),n 30 (.mov 30 (v 7)),n 31 (.bin 31 .add (v 30) (k 1)),n 32 (.slc 32 (v 29) (some (v 31)) none 6),n 33 (.app 33 (v 27) (v 32) 6 72),n 34 (.fld 34 (v 6) 0),m (.st (v 34) (v 33) 1)]) [0,0,2,0,14,31,32,96,0,256,992,2047,4095,8191] rfl rfl rfl ?_⟩⟩,⟨by decide,⟨rfl,tP (is':=[n 22 (.bsl 22 6 []),n 23 (.fld 23 (v 6) 0),n 24 (.ld 24 (v 23) 1 false),n 25 (.mov 25 (v 7)),n 26 (.slc 26 (v 24) none (some (v 25)) 6),n 28 (.fld 28 (v 6) 0),n 27 (.app 27 (v 22) (v 26) 6 72),n 29 (.ld 29 (v 28) 1 false),n 30 (.mov 30 (v 7)),n 31 (.bin 31 .add (v 30) (k 1)),n 32 (.slc 32 (v 29) (some (v 31)) none 6),n 33 (.app 33 (v 27) (v 32) 6 72),n 34 (.fld 34 (v 6) 0),m (.st (v 34) (v 33) 1)]) [0,0,2,0,14,0,63,96,0,256,992,2047,4095,8191] rfl rfl rfl ?_⟩,⟨by decide,tP (is':=[n 22 (.bsl 22 6 []),n 23 (.fld 23 (v 6) 0),n 24 (.ld 24 (v 23) 1 false),n 25 (.mov 25 (v 7)),n 26 (.slc 26 (v 24) none (some (v 25)) 6),n 28 (.fld 28 (v 6) 0),n 29 (.ld 29 (v 28) 1 false),n 27 (.app 27 (v 22) (v 26) 6 72),n 30 (.mov 30 (v 7)),n 31 (.bin 31 .add (v 30) (k 1)),n 32 (.slc 32 (v 29) (some (v 31)) none 6),n 33 (.app 33 (v 27) (v 32) 6 72),n 34 (.fld 34 (v 6) 0),m (.st (v 34) (v 33) 1)]) [0,0,2,0,14,0,32,127,0,256,992,2047,4095,8191] rfl rfl rfl ?_,tP (is':=[n 22 (.bsl 22 6 []),n 23 (.fld 23 (v 6) 0),n 24 (.ld 24 (v 23) 1 false),n 25 (.mov 25 (v 7)),n 26 (.slc 26 (v 24) none (some (v 25)) 6),n 28 (.fld 28 (v 6) 0),n 29 (.ld 29 (v 28) 1 false),n 30 (.mov 30 (v 7)),n 31 (.bin 31 .add (v 30) (k 1)),n 32 (.slc 32 (v 29) (some (v 31)) none 6),n 27 (.app 27 (v 22) (v 26) 6 72),n 33 (.app 33 (v 27) (v 32) 6 72),n 34 (.fld 34 (v 6) 0),m (.st (v 34) (v 33) 1)]) [0,0,2,0,14,0,32,0,128,480,639,2047,4095,8191] rfl rfl rfl ?_⟩⟩⟩
  all_goals
   by_cases hk0:q=0
   ·subst hk0;have n4:((f.vols.length:Int)-1).toNat=f.vols.length-1:=by omega
    have fl1:eV ((f.vols.map Vol.row).take 0)=true:=rfl;rw[lL2] at tk kn2 ret;rw[List.take_zero,lI1] at ret;by_cases gm:f.vols.length=1
    ·have fl2:eV ((f.vols.map Vol.row).drop 1)=true:=by
      rw[lZ2 (by simp[gm])]; rfl
     refine Nz (And.intro n1 (And.intro kn1 (And.intro fl1 (And.intro n4 (And.intro tk (And.intro kn2 fl2)))))) ?_;rw[ret]; rfl
    ·have fl2:eV ((f.vols.map Vol.row).drop 1)=false:=by
      rw[<-lV4]; exact wA (fun e=>by have:=congrArg List.length e; simp at this; omega)
     refine Nz (And.intro n1 (And.intro kn1 (And.intro fl1 (And.intro n4 (And.intro tk (And.intro kn2 fl2)))))) ?_;rw[ret]; rfl
   ·have fl1:eV ((f.vols.map Vol.row).take q)=false:=by
     rw[<-lL3];exact wA (fun e=>by
      have:=congrArg List.length e;rw[lH,lB1 A7] at this;exact hk0 this)
    have lenT:((f.vols.map Vol.row).take q).length=q:=by simp; omega
    have lenU:(rR ((f.vols.map Vol.row).take q)++(f.vols.map Vol.row).drop (0+q)).length=f.vols.length:=by
     simp[rR]; omega
    have dropU:(rR ((f.vols.map Vol.row).take q)++(f.vols.map Vol.row).drop (0+q)).drop (q+1)=(f.vols.map Vol.row).drop (q+1):=by
     have hu:(rR ((f.vols.map Vol.row).take q)).length=q:=by simp[rR]; omega
     rw[List.drop_append,hu,lZ2 (by rw[hu]; omega),lI1,lA2];congr 1; omega
    by_cases gm:f.vols.length=q+1
    ·have fl2:eV ((f.vols.map Vol.row).drop (q+1))=true:=by
      rw[lZ2 (by simp[gm])]; rfl
     refine Nz (And.intro n1 (And.intro kn1 (And.intro fl1 (And.intro lenT (And.intro lenU (And.intro n2 (And.intro n3 (And.intro dropU (And.intro tk (And.intro kn2 fl2)))))))))) ?_;rw[ret]; rfl
    ·have fl2:eV ((f.vols.map Vol.row).drop (q+1))=false:=by
      rw[<-lV4]; exact wA (fun e=>by have:=congrArg List.length e; simp at this; omega)
     refine Nz (And.intro n1 (And.intro kn1 (And.intro fl1 (And.intro lenT (And.intro lenU (And.intro n2 (And.intro n3 (And.intro dropU (And.intro tk (And.intro kn2 fl2)))))))))) ?_;rw[ret]; rfl
theorem gR (o:Op):Sp 80 [o.x] (.bool (inR o.kind 1 9)) U1:=by
 refine Vw adG [] 7 [] fun w hP hQ=>?_
 exact K (cL o.kind 1 9) trivial
theorem akW (f:Fs) (o:Op) (hk9:inR o.kind 1 9=true) (h:f.sz<2^40) (o1:o.path.length<2^29) (o2:o.to'.length<2^29) (o3:o.data.length<2^29) :
  Sp 81 [f.x,o.x] (.tup [(kU f o).1.o,.int .i64 (kU f o).2]) U2:=by
 obtain⟨h1,h2⟩:=vW h;have hV:=tS f o.vol A7;have hF:=vT f h;rcases dA (fsB f) with e1 | e1
 ·rw[e1] at hF;rw[kU,lO C4];refine Vw iU [] 1023 [] fun w hP hQ=>?_
  refine K (aR f h) ?_;refine K hV ?_;exact K hF trivial
 rw[e1] at hF;rw[kU,lK e1];cases e3:mP f o.vol with
 | none=>
  rw[e3] at hV;refine Vw iU [] 1023 [] fun w hP hQ=>?_
  refine K (aR f h) ?_;refine K hV ?_;exact K hF trivial
 | some k=>
  have hk:=jT e3;have hk':((k:Nat):Int)<(f.vols.length:Nat):=by omega
  obtain⟨zt,hT⟩:=acD e1 hk;rw[e3,show gU (some k)=(k:Int) from rfl] at hV;simp only[lF hk];cases hr:f.vols[k].ro with
  | true=>
   rw[lK rfl];refine Vw iU [] 1023 [] fun w hP hQ=>?_
   refine K (aR f h) ?_;refine K hV ?_;refine K hF ?_;refine Jf (fun hx=>?_) fun hx=>?_
   ·exfalso; omega
   exact Nz (And.intro (aL hk') hr) trivial
  | false=>
   rw[lO A8];have hC:=aeA f.vols[k].t o hk9 zt o1 o2 o3;have hCT:=rN f.vols[k].t o;have hU:=n9 (aT f.vols[k].t o).1 A7;have hM:=acC f k (aT f.vols[k].t o).1 hk;have hN:(apA f k (aT f.vols[k].t o).1).next=f.next:=rfl;generalize (aT f.vols[k].t o).1=T at *;generalize (aT f.vols[k].t o).2=c at *;by_cases hc:c=0
   ·subst hc;rw[lK rfl];by_cases hu:(dD T:Int)<=f.vols[k].limit
    ·have hu':decide (f.vols[k].limit<(dD T:Nat))=false:=lB A7;rw[lK hu];refine Vw iU [] 1023 [] fun w hP hQ=>?_
     refine K (aR f h) ?_;refine K hV ?_;refine K hF ?_;refine Jf (fun hx=>?_) fun hx=>?_
     ·exfalso; omega
     refine Nz (And.intro (aL hk') hr) ?_;refine Kz (aL hk') (hC) ?_;refine Kz (And.intro (aL hk') hu') (hU) ?_;simp only[Fs.o,<-hM,hN]
    ·have hu':decide (f.vols[k].limit<(dD T:Nat))=true:=lC A7;rw[lO hu];refine Vw iU [] 1023 [] fun w hP hQ=>?_
     refine K (aR f h) ?_;refine K hV ?_;refine K hF ?_;refine Jf (fun hx=>?_) fun hx=>?_
     ·exfalso; omega
     refine Nz (And.intro (aL hk') hr) ?_;refine Kz (aL hk') (hC) ?_;exact Kz (And.intro (aL hk') hu') (hU) trivial
   ·have hc':decide (c=0)=false:=lB hc;rw[lO hc];refine Vw iU [] 1023 [] fun w hP hQ=>?_
    refine K (aR f h) ?_;refine K hV ?_;refine K hF ?_;refine Jf (fun hx=>?_) fun hx=>?_
    ·exfalso; omega
    refine Nz (And.intro (aL hk') hr) ?_;exact Kz (And.intro (aL hk') hc') (hC) trivial
theorem anf (f:Fs) (o:Op) (h:f.sz<2^40) (o1:o.path.length<2^29) (o2:o.to'.length<2^29) (o3:o.data.length<2^29) :
  Sp 25 [f.x,o.x] (.tup [(bU f o).1.o,.int .i64 (bU f o).2]) U2:=by
 by_cases k9:inR o.kind 1 9=true
 ·have k9':=(fN _ _ _).1 k9;have hc:=gR o;rw[k9] at hc;have hk:=akW f o k9 h o1 o2 o3;rw[show bU f o=kU f o by unfold bU; rw[if_neg A7,if_neg A7,if_neg A7,if_neg A7,if_neg A7,if_pos k9]];generalize kU f o=r at *;refine Vw jB [] 262399 [] fun w hP hQ=>?_
  refine K hc ?_;exact K hk trivial
 by_cases k10:o.kind=10
 ·have hk:=akR f o.path o.off h A7;rw[show bU f o=((eH f o.path o.off).1,(eH f o.path o.off).2.2) by unfold bU;  rw[if_pos k10]];generalize eH f o.path o.off=r at *;have hc:=gR o;rw[show inR o.kind 1 9=false by rw[k10]; rfl] at hc;refine Vw jB [] 262399 [] fun w hP hQ=>?_
  refine K hc ?_;refine Kz k10 (aR f h) ?_;exact K hk trivial
 by_cases k11:o.kind=11
 ·have hk:=ahH f o.vol o.path h A7;rw[show bU f o=((jE f o.vol o.path true).1,(jE f o.vol o.path true).2.2) by unfold bU; rw[if_neg k10]; rw[if_pos k11]];generalize jE f o.vol o.path true=r at *;have hc:=gR o;rw[show inR o.kind 1 9=false by rw[k11]; rfl] at hc;refine Vw jB [] 262399 [] fun w hP hQ=>?_
  refine K hc ?_;refine Kz k11 (aR f h) ?_;exact K hk trivial
 by_cases k12:o.kind=12
 ·have hk:=aeL f o.vol o.path h A7;rw[show bU f o=((jE f o.vol o.path false).1,(jE f o.vol o.path false).2.2) by unfold bU; rw[if_neg k10]; rw[if_neg k11]; rw[if_pos k12]];generalize jE f o.vol o.path false=r at *;have hc:=gR o;rw[show inR o.kind 1 9=false by rw[k12]; rfl] at hc;refine Vw jB [] 262399 [] fun w hP hQ=>?_
  refine K hc ?_;refine Kz k12 (aR f h) ?_;exact K hk trivial
 by_cases k13:o.kind=13
 ·have hk:=ahJ f o.vol h;rw[show bU f o=fQ f o.vol by unfold bU; rw[if_neg k10]; rw[if_neg k11]; rw[if_neg k12]; rw[if_pos k13]];generalize fQ f o.vol=r at *;have hc:=gR o;rw[show inR o.kind 1 9=false by rw[k13]; rfl] at hc;refine Vw jB [] 262399 [] fun w hP hQ=>?_
  refine K hc ?_;refine Kz k13 (aR f h) ?_;exact K hk trivial
 by_cases k14:o.kind=14
 ·have hk:=aeH f o.vol o.off h;rw[show bU f o=dB f o.vol o.off by unfold bU; rw[if_neg k10]; rw[if_neg k11]; rw[if_neg k12]; rw[if_neg k13]; rw[if_pos k14]];generalize dB f o.vol o.off=r at *;have hc:=gR o;rw[show inR o.kind 1 9=false by rw[k14]; rfl] at hc;refine Vw jB [] 262399 [] fun w hP hQ=>?_
  refine K hc ?_;refine Kz k14 (aR f h) ?_;exact K hk trivial
 have hc:=gR o;rw[show inR o.kind 1 9=false by simpa using k9] at hc;have d10:decide (o.kind=10)=false:=lB k10;have d11:decide (o.kind=11)=false:=lB k11;have d12:decide (o.kind=12)=false:=lB k12;have d13:decide (o.kind=13)=false:=lB k13;have d14:decide (o.kind=14)=false:=lB k14;rw[show bU f o=(f,1) by unfold bU; rw[if_neg k10,if_neg k11,if_neg k12,if_neg k13,if_neg k14,if_neg k9]];refine Vw jB [] 262399 [] fun w hP hQ=>?_
 refine K hc ?_;exact Kz (And.intro d10 (And.intro d11 (And.intro d12 (And.intro d13 d14)))) (aR f h) trivial
theorem ahK (b:aA) (n:Nat):List.take (List.replicate n [TV.int IntKind.u8 0]).length (aJ b)++List.drop b.length (List.replicate n [TV.int IntKind.u8 0])=aJ ((jP b n).take n):=by
 rw[lU2,List.drop_replicate,jP,List.take_append,aJ,aJ,lP2,lL3,lW1 (l:=List.replicate (n-b.length) 0) A8];simp
theorem af7 (b:aA) (n:Nat) (hb:b.length<2^40) (hn:n<2^40):Sp 224 [.ext 1 (aJ b),.int .i64 n] (.own 1 (aJ ((jP b n).take n))) U2:=by
 have g:¬ ((n:Int)<0):=by omega
 refine Vw aju [] 51 [] fun w hP hQ=>?_
 rw[ahK]
theorem ang (b:aA) (n:Nat) (h:b.length<=n):(jP b n).take n=jP b n:=lW1 (by rw[tR]; omega)
theorem api (b d:aA) (o:Nat):x4 b o d=(jP b (max b.length (o+d.length))).take o++d++(jP b (max b.length (o+d.length))).drop (o+d.length):=by
 unfold x4;by_cases h:o+d.length<=b.length
 ·rw[Nat.max_eq_left h];simp only[jP,lL5,List.replicate_zero,lX2,show o+d.length-b.length=0 by omega]
 ·rw[Nat.max_eq_right A7,@List.drop_eq_nil_of_le _ b _ A7,@List.drop_eq_nil_of_le _ (jP b (o+d.length)) _ (by rw[tR]; omega)]
theorem anh {P d:aA} {k:Nat} (h:k+d.length<=P.length) (_:P.length<2^31):List.take k (aJ P)++(List.take (((P.length:Nat):Int)-((k:Nat):Int)).toNat (aJ d)++List.drop (k+min (((P.length:Nat):Int)-((k:Nat):Int)).toNat d.length) (aJ P))=aJ (P.take k++d++P.drop (k+d.length)):=by
 have e:min (((P.length:Nat):Int)-((k:Nat):Int)).toNat d.length=d.length:=by omega
 rw[e,lW1 (l:=aJ d) (by simp[aJ]; omega)];simp[aJ,lL3,lV4]
theorem ahL (t:Tab) (s:aA) (n:Int) (d:aA) (h:t.sz<2^30) (hs:s.length<2^40) (hd:d.length<2^40):Sp 153 [t.x,.str s,.int .i64 n,.ext 1 (aJ d)] (.tup [(cV t s n d).1.o,.int .i64 (cV t s n d).2]) U4:=by
 have h':t.sz<2^40:=by omega
 have hC:=cB t h';have hR:=jS t [s] h' A8 (by simpa using hs);have hI:=fV n 0 100;simp only[lF3,lE5,lS3,lR,lW2,fD] at hR;by_cases hc:bE t=true/\b4 s=true/\inR n 0 100=true
 ·obtain⟨hB,bc,hi⟩:=hc;rw[bc,hB] at hR;rw[hi] at hI;obtain⟨n1,n2⟩:=am7 hi;obtain⟨k,rfl⟩:=Int.eq_ofNat_of_zero_le n1;have hF:=qI t s h' hs;cases hX:iK t s with
  | error c=>
   have hc:decide (c=0)=false:=lB (jQ hX);have e:cV t s (k:Nat) d=(t,c):=by rw[cV,lK ⟨hB,bc,hi⟩,hX]
   rw[hX] at hF;rw[e];simp only[exC] at hF;refine Vw jC [] 3871 [] fun w hP hQ=>?_
   refine K hC ?_;refine K hR ?_;refine K hI ?_;exact Kcz hc (hF)
  | ok X=>
   have e0:cV t s (k:Nat) d=if ((k:Nat):Int)+(d.length:Nat)<=100 then (aG t (mA X (x4 X.data k d)),0) else (t,5):=by rw[cV,lK ⟨hB,bc,hi⟩,hX]; rfl
   obtain⟨f1,f2⟩:=f8 hX;rw[hX,f1] at hF;rw[e0];simp only[exI,exC] at hF;by_cases g0:((k:Nat):Int)+(d.length:Nat)<=100
   ·have g0':decide ((100:Int)<(k:Nat)+(d.length:Nat))=false:=lB A7;rw[lK g0];obtain⟨kX,fe⟩:=gE (aS f1).2;have zX:=(bK h).2 X (aS f1).1;have zd:X.data.length<2^30:=by rw[Inode.sz] at zX; omega
    have zp:=afB X.data k d;have zD:(mA X (x4 X.data k d)).sz<2^40:=by
     show (x4 X.data k d).length+szM Ent.sz X.ents+szM Attr.sz X.attrs<_;rw[Inode.sz] at zX;omega
    have hS:=b8 t (mA X (x4 X.data k d)) h' zD (cP hB) fe;have em:(if ((X.data.length:Nat):Int)<((k:Nat):Int)+((d.length:Nat):Int) then ((k:Nat):Int)+((d.length:Nat):Int) else ((X.data.length:Nat):Int))=((max X.data.length (k+d.length):Nat):Int):=by split <;> omega
    have hZ:=af7 X.data (max X.data.length (k+d.length)) A7 A7;rw[ang _ _ A7] at hZ;have dv:(jP X.data (max X.data.length (k+d.length))).length=max X.data.length (k+d.length):=by rw[tR]; omega
    have hge:k+d.length<=(jP X.data (max X.data.length (k+d.length))).length:=by omega
    have aa:(jP X.data (max X.data.length (k+d.length))).length<2^31:=by omega
    have px:x4 X.data k d=(jP X.data (max X.data.length (k+d.length))).take k++d++(jP X.data (max X.data.length (k+d.length))).drop (k+d.length):=api X.data d k;rw[px] at hS ⊢;have e5:=fun P h1 h2=>anh (P:=P) (d:=d) (k:=k) h1 h2
    generalize jP X.data (max X.data.length (k+d.length))=P at *;refine Vw jC [] 3871 [] fun w hP hQ=>?_
    refine K hC ?_;refine K hR ?_;refine K hI ?_;refine Kz (And.intro g0' em) (hF) ?_;have e5:=e5 P hge aa;refine Kz e5 (hZ) ?_;exact Kc (hS)
   ·have g0':decide ((100:Int)<(k:Nat)+(d.length:Nat))=true:=lC A7;rw[lO g0];refine Vw jC [] 3871 [] fun w hP hQ=>?_
    refine K hC ?_;refine K hR ?_;refine K hI ?_;exact Kcz g0' (hF)
 ·have e:cV t s n d=(t,1):=by rw[cV,lO hc]
  rw[e];cases hp:(b4 s && bE t) with
  | false=>
   rw[hp] at hR;refine Vw jC [] 3871 [] fun w hP hQ=>?_
   refine K hC ?_;exact Kc (hR)
  | true=>
   rw[hp] at hR;simp only[lM] at hp;have hi:inR n 0 100=false:=by
    cases e:inR n 0 100 with
    | false=>rfl
    | true=>exact absurd ⟨hp.2,hp.1,e⟩ hc
   rw[hi] at hI;refine Vw jC [] 3871 [] fun w hP hQ=>?_
   refine K hC ?_;refine K hR ?_;exact Kc (hI)
theorem apj (b:aA) (n:Nat):(jP (b.take (min n b.length)) n).take n=(jP b n).take n:=by
 unfold jP;by_cases h:n<=b.length
 ·rw[lB1 h,List.take_append,List.take_append];simp[lB1 h,Nat.sub_eq_zero_of_le h,List.take_take]
 ·rw[Nat.min_eq_right A7,lX]
theorem aeM (t:Tab) (s:aA) (n:Int) (h:t.sz<2^30) (hs:s.length<2^40):Sp 154 [t.x,.str s,.int .i64 n] (.tup [(jH t s n).1.o,.int .i64 (jH t s n).2]) U3:=by
 have h':t.sz<2^40:=by omega
 have hC:=cB t h';have hR:=jS t [s] h' A8 (by simpa using hs);have hI:=fV n 0 100;simp only[lF3,lE5,lS3,lR,lW2,fD] at hR;by_cases hc:bE t=true/\b4 s=true/\inR n 0 100=true
 ·obtain⟨hB,bc,hi⟩:=hc;rw[bc,hB] at hR;rw[hi] at hI;obtain⟨n1,n2⟩:=am7 hi;obtain⟨k,rfl⟩:=Int.eq_ofNat_of_zero_le n1;have hF:=qI t s h' hs;cases hX:iK t s with
  | error c=>
   have hc:decide (c=0)=false:=lB (jQ hX);have e:jH t s (k:Nat)=(t,c):=by rw[jH,lK ⟨hB,bc,hi⟩,hX]
   rw[hX] at hF;rw[e];simp only[exC] at hF;refine Vw jM [] 975 [] fun w hP hQ=>?_
   refine K hC ?_;refine K hR ?_;refine K hI ?_;exact Kcz hc (hF)
  | ok X=>
   have e0:jH t s (k:Nat)=(aG t (mA X ((jP X.data k).take k)),0):=by rw[jH,lK ⟨hB,bc,hi⟩,hX]; rfl
   obtain⟨f1,f2⟩:=f8 hX;rw[hX,f1] at hF;rw[e0];simp only[exI,exC] at hF;obtain⟨kX,fe⟩:=gE (aS f1).2;have zX:=(bK h).2 X (aS f1).1;have zd:X.data.length<2^30:=by rw[Inode.sz] at zX; omega
   have zD:(mA X ((jP X.data k).take k)).sz<2^40:=by
    show ((jP X.data k).take k).length+szM Ent.sz X.ents+szM Attr.sz X.attrs<_;rw[Inode.sz] at zX;rw[lH];omega
   have hS:=b8 t (mA X ((jP X.data k).take k)) h' zD (cP hB) fe;have hZ:=af7 (X.data.take (min k X.data.length)) k (by rw[lH]; omega) A7;rw[apj] at hZ;have em:(if ((X.data.length:Nat):Int)<((k:Nat):Int) then ((X.data.length:Nat):Int) else ((k:Nat):Int))=((min k X.data.length:Nat):Int):=by split <;> omega
   have fw:((min k X.data.length:Nat):Int)<=(X.data.length:Nat):=by omega
   have py:0+min k X.data.length<=X.data.length:=by omega
   have hm0:(0:Int)<=((min k X.data.length:Nat):Int):=by omega
   refine Vw jM [] 975 [] fun w hP hQ=>?_
   refine K hC ?_;refine K hR ?_;refine K hI ?_;refine Kz (And.intro em (And.intro fw (And.intro py (And.intro hm0 (And.intro i9 (And.intro yQ Int.sub_zero)))))) (hF) ?_;refine K hZ ?_;exact Kc (hS)
 ·have e:jH t s n=(t,1):=by rw[jH,lO hc]
  rw[e];cases hp:(b4 s && bE t) with
  | false=>
   rw[hp] at hR;refine Vw jM [] 975 [] fun w hP hQ=>?_
   refine K hC ?_;exact Kc (hR)
  | true=>
   rw[hp] at hR;simp only[lM] at hp;have hi:inR n 0 100=false:=by
    cases e:inR n 0 100 with
    | false=>rfl
    | true=>exact absurd ⟨hp.2,hp.1,e⟩ hc
   rw[hi] at hI;refine Vw jM [] 975 [] fun w hP hQ=>?_
   refine K hC ?_;refine K hR ?_;exact Kc (hI)
section
open Go.Proofs Go.Shelf Go.RowKit Go.Lib
theorem af8:type_of% (And.intro (by kernel_rfl:Tryz.prog.follows .mixedOrders=true) (And.intro Tryz.underlying0 (And.intro Tryz.isAgg0 (And.intro Tryz.sizeOf0 (And.intro Tryz.zeroValue0 (And.intro Tryz.underlying3 (And.intro Tryz.isAgg3 (And.intro Tryz.sizeOf3 (And.intro Tryz.zeroValue3 (And.intro Tryz.underlying4 (And.intro Tryz.isAgg4 (And.intro Tryz.sizeOf4 (And.intro Tryz.zeroValue4 (And.intro Tryz.underlying82 (And.intro Tryz.isAgg82 (And.intro Tryz.sizeOf82 (And.intro Tryz.zeroValue82 (Tryz.zeroValue96)))))))))))))))))):=And.intro (by kernel_rfl:Tryz.prog.follows .mixedOrders=true) (And.intro Tryz.underlying0 (And.intro Tryz.isAgg0 (And.intro Tryz.sizeOf0 (And.intro Tryz.zeroValue0 (And.intro Tryz.underlying3 (And.intro Tryz.isAgg3 (And.intro Tryz.sizeOf3 (And.intro Tryz.zeroValue3 (And.intro Tryz.underlying4 (And.intro Tryz.isAgg4 (And.intro Tryz.sizeOf4 (And.intro Tryz.zeroValue4 (And.intro Tryz.underlying82 (And.intro Tryz.isAgg82 (And.intro Tryz.sizeOf82 (And.intro Tryz.zeroValue82 (Tryz.zeroValue96)))))))))))))))))
theorem rO (b off n c i vb voff vc:Nat) (cs vs:List Value) (w:World) (hi:i<n) (ah:n+1<=c) (gb:n+1<=9223372036854775807) (fo:vb≠b)
  (bk:cs.length=n*2) (bu:vs.length=2)
  (hcs:cJ w b off cs) (du:∀ j,j<(n+1)*2->(w.cell? ⟨b,off+j,none⟩).isSome=true) (ch:∀ j,j<(n+1)*2->w.frozen? ⟨b,off+j,none⟩=false)
  (be:cJ w vb voff vs) (fp:tZ cs) (ci:tZ vs)
  (tA tB:TypeId) (kA kB:Nat) (nw:w.shape? vb=some (tA,kA)) (bz:w.shape? b=some (tB,kB)) (ny:kB≠0) (ll:w.frozen? ⟨vb,voff,none⟩=false) (lm:w.frozen? ⟨vb,kA,none⟩=false) :
  Calls Tryz.prog 65 #[.slice (some ⟨b,off,none⟩) n c,.int .i64 i,.slice (some ⟨vb,voff,none⟩) 1 vc] w fun e w'=>
   e=.returned (.slice (some ⟨b,off,none⟩) (n+1) c)/\w'=(w.drew.setCells b (off+(i+1)*2) (cs.drop (i*2))).setCells b (off+i*2) vs:=by
 obtain⟨mixed,t0,a0,z0,v0,t3,a3,z3,v3,t4,a4,z4,v4,t82,a82,z82,v82,v96⟩:=af8;have u82:=run_underlying t82;have u3:=run_underlying t3;have u4:=run_underlying t4;have ar:(Tryz.prog.info? 96).map (·.size)=some 2:=by kernel_rfl
 have pi:∀ lb cb,(callFunc 127 #[.slice (some ⟨vb,voff,none⟩) 1 vc,.slice (some ⟨b,off+(i+1)*2,none⟩) lb cb]).run Tryz.prog w=.ok (.value (.bool false)) w:=fun lb cb=>by
  rw[run_callFunc_extern Tryz.func127 (by kernel_rfl) (by kernel_rfl) (by kernel_rfl) (e:=Extern.SlicesOverlaps.overlaps #[82,82] #[4]) (by kernel_rfl),
   Lib.run_overlaps_apart w 82 4 96 t82 2 Tryz.sizeOf96 ⟨vb,voff,none⟩ ⟨b,off+(i+1)*2,none⟩ 1 vc lb cb fo tA tB kA kB nw bz ny ll lm]
  rfl
 have gh:(cs.drop (i*2)).length=(n-i)*2:=by rw[lK1,bk]; omega
 have jg:IntKind.i64.wrap ((i:Int)+1)=(i:Int)+1:=by rw[IntKind.wrap_i64]; omega
 have ft:(0:Int)<=(i:Int)+1:=by omega
 have dq:i<=n:=by omega
 have en:((i:Int)+1).toNat=i+1:=by omega
 have fl:¬ (c=i+1):=by omega
 have pj:(i:Int)<=(n:Int)+1:=by omega
 have hb4:¬ (c=i):=by omega
 have da:¬ ((i:Int)=(n:Int)):=by omega
 have mn1:(n+1-i).min (n-i)=n-i:=by show min _ _=_; omega
 have mn2:(1:Nat).min (n+1-i)=1:=by show min _ _=_; omega
 have ff:∀ ty dc sc,(Builtin.copy_ #[82,82] ty #[.slice (some ⟨b,off+(i+1)*2,none⟩) (n-i) dc,.slice (some ⟨b,off+i*2,none⟩) (n+1-i) sc]).run Tryz.prog w.drew=.ok (goInt (n-i:Nat)) (w.drew.setCells b (off+(i+1)*2) (cs.drop (i*2))):=fun ty dc sc=>by
  have:=aW (P:=Tryz.prog) 2 w.drew 82 82 ty 96 b (off+(i+1)*2) (n-i) dc ⟨b,off+i*2,none⟩ (n+1-i) sc (cs.drop (i*2)) t82 ar (by rw[gh,mn1])
   (fun j v hj=>by rw[Addr.add_lit,lQ1]; exact hcs (i*2+j) v (by rwa [lY] at hj))
   (fun j hj=>by rw[lQ1]; exact du _ A7) (fun j hj=>by rw[lQ1]; exact ch _ A7) (fun v hv=>fp v (lZ1 hv))
  rw[this,mn1]
 obtain⟨W1,bt⟩:∃ W1,W1=w.drew.setCells b (off+(i+1)*2) (cs.drop (i*2)):=⟨_,rfl⟩
 have jj:∀ k,k<(n+1)*2->(W1.cell? ⟨b,off+k,none⟩).isSome=true:=fun k hk=>by
  rw[bt];exact World.isSome_setCells _ _ _ _ _ (du k hk)
 have jk:∀ (W:World),(∀ x,W.cell? x=W1.cell? x)->(∀ x,W.frozen? x=W1.frozen? x)->∀ ty dc,(Builtin.copy_ #[82,82] ty #[.slice (some ⟨b,off+i*2,none⟩) (n+1-i) dc,.slice (some ⟨vb,voff,none⟩) 1 vc]).run Tryz.prog W=.ok (goInt (1:Nat)) (W.setCells b (off+i*2) vs):=fun W dd fg ty dc=>by
  have:=aW (P:=Tryz.prog) 2 W 82 82 ty 96 b (off+i*2) (n+1-i) dc ⟨vb,voff,none⟩ 1 vc vs t82 ar (by rw[bu,mn2])
   (fun j v hj=>by
    rw[Addr.add_lit,dd,bt,World.cell?_setCells_out b _ _ _ _ (fun h _=>absurd h fo)];exact be j v hj)
   (fun j hj=>by rw[dd,lQ1]; exact jj _ A7) (fun j hj=>by rw[fg,bt,World.frozen?_setCells,lQ1]; exact ch _ A7) ci
  rw[this,mn2]
 rw[<-bt] at ff
 go_enter Tryz.func65,Tryz.ntmps65
 go_wp2_with (simp only[pi])
 go_region_law_o (refine step_copy_runI rfl _ _ 82 82 rfl _ _ B5 B5 (ff _ _ _) ?_)
 go_wp2_with (at_builtin; refine wpList_copy_runI _ rfl _ _ 82 82 rfl _ _ rfl rfl (jk _ (fun _=>rfl) (fun _=>rfl) _ _) ?_)
 go_ret
 first | exact⟨rfl,rfl⟩ | exact⟨rfl,by rw[bt]⟩
theorem oE (b off n c vb voff vc:Nat) (vs:List Value) (w:World) (ah:n+1<=c) (gb:n+1<=9223372036854775807)
  (bu:vs.length=2) (du:∀ j,j<2->(w.cell? ⟨b,off+n*2+j,none⟩).isSome=true) (ch:∀ j,j<2->w.frozen? ⟨b,off+n*2+j,none⟩=false)
  (be:cJ w vb voff vs) (ci:tZ vs) :
  Calls Tryz.prog 65 #[.slice (some ⟨b,off,none⟩) n c,.int .i64 n,.slice (some ⟨vb,voff,none⟩) 1 vc] w fun e w'=>
   e=.returned (.slice (some ⟨b,off,none⟩) (n+1) c)/\w'=w.setCells b (off+n*2) vs:=by
 obtain⟨mixed,t0,a0,z0,v0,t3,a3,z3,v3,t4,a4,z4,v4,t82,a82,z82,v82,v96⟩:=af8;have iE:(Tryz.prog.info? 96).map (fun i=>(i.zero,i.size,i.bytes))=some (some (.agg #[.string { data:=#[] },.string { data:=#[] }]),2,32):=by kernel_rfl
 obtain⟨i0,cj,dl,ca,da⟩:=info_parts iE;have pk:∀ ty,(Builtin.append_ #[82,82] ty #[.slice (some ⟨b,off,none⟩) n c,.slice (some ⟨vb,voff,none⟩) 1 vc]).run Tryz.prog w=.ok (.slice (some ⟨b,off,none⟩) (n+1) c) (w.setCells b (off+n*2) vs):=fun ty=>by
  have:=run_append_room_cells w 82 ty 96 i0 t82 cj b off n c ⟨vb,voff,none⟩ 1 vc vs (by rw[bu,ca]) (fun j u hu=>by rw[Addr.add_lit]; exact be j u hu) ci ah
   (fun j hj=>by rw[ca]; exact du j A7) (fun j hj=>by rw[ca]; exact ch j A7)
  rw[ca] at this; exact this
 go_enter Tryz.func65,Tryz.ntmps65
 go_wp2_with (at_builtin; refine Lib.wpList_append_run _ rfl _ _ _ _ rfl _ _ rfl rfl _ _ (pk _) ?_)
 go_ret
 exact⟨rfl,rfl⟩
theorem oF (base:Option Addr) (n c vb voff vc:Nat) (cs vs:List Value) (w:World) (jy:n<=c) (ah:c<n+1) (bn:(n+1)*32<=140737488355328)
  (bk:cs.length=n*2) (bu:vs.length=2) (cu:base=none->n=0)
  (hcs:∀ a,base=some a->∀ (j:Nat) (v:Value),cs[j]?=some v->w.cell? (a.add j)=some v)
  (be:cJ w vb voff vs) (ci:tZ vs) :
  Calls Tryz.prog 65 #[.slice base n c,.int .i64 n,.slice (some ⟨vb,voff,none⟩) 1 vc] w fun e w'=>
   e=.returned (.slice (some ⟨w.heap.size,0,none⟩) (n+1) (grownCap w (n+1) c 96)) /\
   w'=w.drew.alloc (.cells ((cs++vs).toArray++Builtin.zeroCells (Value.agg #[.string { data:=#[] },.string { data:=#[] }]).cells (grownCap w (n+1) c 96-(n+1))) 96):=by
 obtain⟨mixed,t0,a0,z0,v0,t3,a3,z3,v3,t4,a4,z4,v4,t82,a82,z82,v82,v96⟩:=af8;have iE:(Tryz.prog.info? 96).map (fun i=>(i.zero,i.size,i.bytes))=some (some (.agg #[.string { data:=#[] },.string { data:=#[] }]),2,32):=by kernel_rfl
 obtain⟨i0,cj,dl,ca,da⟩:=info_parts iE;have ej:Src Tryz.prog i0.size 82 (.slice (some ⟨vb,voff,none⟩) 1 vc) 1 vs w:=by
  rw[ca];exact Src.ofSlice w t82 ⟨vb,voff,none⟩ 1 vc vs A7 (fun j u hj=>by rw[Addr.add_lit]; exact be j u hj) ci
 have ce:(Builtin.firstCells i0.size n (.slice base n c)).run Tryz.prog w.drew=.ok cs.toArray w.drew:=by
  rw[ca];cases base with
  | none=>
   have h0:=cu rfl;subst h0;rw[lO1.1 (by omega:cs.length=0)];exact run_firstCells_none w.drew 2 0 0 c
  | some a=>exact run_firstCells_some w.drew 2 n a n c cs A7 (fun j v hj=>hcs a rfl j v hj)
 have ae:∀ ty,(Builtin.append_ #[82,82] ty #[.slice base n c,.slice (some ⟨vb,voff,none⟩) 1 vc]).run Tryz.prog w=_:=fun ty=>
  run_append_grow_src w 82 82 ty 96 i0 _ t82 cj dl base n c cs ce _ 1 vs ej ah A7 (by rw[da]; exact growslice_fits ah bn)
 go_enter Tryz.func65,Tryz.ntmps65
 cases base with
 | none=>
  have h0:=cu rfl;subst h0
  go_wp2_with (at_builtin; refine Lib.wpList_append_run _ rfl _ _ _ _ rfl _ _ rfl rfl _ _ (ae _) ?_)
  go_ret
  exact⟨rfl,rfl⟩
 | some a=>
  obtain⟨ab,ao,asp⟩:=a
  go_wp2_with (at_builtin; refine Lib.wpList_append_run _ rfl _ _ _ _ rfl _ _ rfl rfl _ _ (ae _) ?_)
  all_goals (go_ret; exact⟨rfl,rfl⟩)
theorem sQ (b off n c i vb voff vc:Nat) (cs vs:List Value) (w:World) (hi:i<n) (jy:n<=c) (ah:c<n+1) (bn:(n+1)*32<=140737488355328)
  (bk:cs.length=n*2) (bu:vs.length=2)
  (hcs:cJ w b off cs)
  (be:cJ w vb voff vs) (fp:tZ cs) (ci:tZ vs) :
  Calls Tryz.prog 65 #[.slice (some ⟨b,off,none⟩) n c,.int .i64 i,.slice (some ⟨vb,voff,none⟩) 1 vc] w fun e w'=>
   e=.returned (.slice (some ⟨w.heap.size,0,none⟩) (n+1) (grownCap w (n+1) c 96)) /\
   w'=(((w.alloc (.cells ((cs.take (i*2)).toArray++Builtin.zeroCells (Value.agg #[.string { data:=#[] },.string { data:=#[] }]).cells (n+1-i)++Builtin.zeroCells (Value.agg #[.string { data:=#[] },.string { data:=#[] }]).cells (grownCap w (n+1) c 96-(n+1))) 96)).drew.setCells w.heap.size (i*2) vs).drew).setCells w.heap.size ((i+1)*2) (cs.drop (i*2)):=by
 obtain⟨mixed,t0,a0,z0,v0,t3,a3,z3,v3,t4,a4,z4,v4,t82,a82,z82,v82,v96⟩:=af8;have iE:(Tryz.prog.info? 96).map (fun i=>(i.zero,i.size,i.bytes))=some (some (.agg #[.string { data:=#[] },.string { data:=#[] }]),2,32):=by kernel_rfl
 obtain⟨i0,cj,dl,dw,lp⟩:=info_parts iE;have da:¬ ((i:Int)=(n:Int)):=by omega
 have lx:(c:Int)<(n:Int)+1:=by omega
 have ar:(Tryz.prog.info? 96).map (·.size)=some 2:=by rw[cj]; simp[dw]
 have pl:b<w.heap.size:=block_lt_of_cell (hcs 0 _ (lF A7));have pm:vb<w.heap.size:=block_lt_of_cell (be 0 _ (lF A7));have dy:(n:Int)+1-(i:Int)=((n+1-i:Nat):Int):=by omega
 have gr:i+(n+1-i)=n+1:=by omega
 have ce:(Builtin.firstCells i0.size i (.slice (some ⟨b,off,none⟩) i c)).run Tryz.prog w.drew=.ok (cs.take (i*2)).toArray w.drew:=by
  rw[dw];exact run_firstCells_some w.drew 2 i ⟨b,off,none⟩ i c (cs.take (i*2)) (by rw[lH]; omega) (fun j v hj=>by
   rw[Addr.add_lit];rw[lT] at hj;split at hj
   ·exact hcs j v hj
   ·cases hj)
 have gi:∀ ty,(Builtin.append_ #[82,3] ty #[.slice (some ⟨b,off,none⟩) i c,.int .i64 ((n:Int)+1-(i:Int))]).run Tryz.prog w =
   .ok (.slice (some ⟨w.heap.size,0,none⟩) (n+1) (grownCap w (n+1) c 96)) (w.drew.alloc (.cells ((cs.take (i*2)).toArray++Builtin.zeroCells (Value.agg #[.string { data:=#[] },.string { data:=#[] }]).cells (n+1-i)++Builtin.zeroCells (Value.agg #[.string { data:=#[] },.string { data:=#[] }]).cells (grownCap w (n+1) c 96-(n+1))) 96)):=fun ty=>by
  have h:=Lib.run_append_grow_zeros w 82 3 ty 96 i0 _ .i64 .i64 t82 t3 cj dl (some ⟨b,off,none⟩) i c (cs.take (i*2)) ce (n+1-i) A7 A7 A7 A7 (by rw[lp]; omega) (by rw[lp,gr]; exact growslice_fits ah bn);rw[gr] at h;rw[dy];exact h
 obtain⟨G,hG⟩:∃ G,G=grownCap w (n+1) c 96:=⟨_,rfl⟩
 obtain⟨ROW,dm⟩:∃ ROW:Array Value,ROW=(cs.take (i*2)).toArray++Builtin.zeroCells (Value.agg #[.string { data:=#[] },.string { data:=#[] }]).cells (n+1-i)++Builtin.zeroCells (Value.agg #[.string { data:=#[] },.string { data:=#[] }]).cells (G-(n+1)):=⟨_,rfl⟩
 rw[<-hG] at gi ⊢;rw[<-dm] at gi ⊢;have pn:(n+1)*2<=ROW.size:=by
  rw[dm];simp[Builtin.zeroCells,Value.cells];omega
 obtain⟨W1,bt⟩:∃ W1,W1=w.drew.alloc (.cells ROW 96):=⟨_,rfl⟩
 rw[<-bt] at gi;have hN:∀ j,j<(n+1)*2->(W1.cell? ⟨w.heap.size,j,none⟩).isSome=true:=fun j hj=>by
  rw[bt,World.cell?_alloc_at (w:=w.drew) ROW _ w.heap.size j rfl,lA1 A7]; rfl
 have lq:∀ j,W1.frozen? ⟨w.heap.size,j,none⟩=false:=fun j=>by rw[bt]; exact World.frozen?_alloc_at (w:=w.drew) ROW _ w.heap.size j rfl
 have po:∀ j v,w.cell? ⟨b,j,none⟩=some v->W1.cell? ⟨b,j,none⟩=some v:=fun j v h=>by rw[bt,World.cell?_alloc_past (w:=w.drew) _ b j pl]; exact h
 have pq:∀ j v,w.cell? ⟨vb,j,none⟩=some v->W1.cell? ⟨vb,j,none⟩=some v:=fun j v h=>by rw[bt,World.cell?_alloc_past (w:=w.drew) _ vb j pm]; exact h
 have mn1:(n-i).min (n-i)=n-i:=by show min _ _=_; omega
 have mn2:(1:Nat).min (n+1-i)=1:=by show min _ _=_; omega
 have jl:∀ (W:World),(∀ x,W.cell? x=W1.cell? x)->(∀ x,W.frozen? x=W1.frozen? x)->∀ ty dc,(Builtin.copy_ #[82,82] ty #[.slice (some ⟨w.heap.size,i*2,none⟩) (n+1-i) dc,.slice (some ⟨vb,voff,none⟩) 1 vc]).run Tryz.prog W=.ok (goInt (1:Nat)) (W.setCells w.heap.size (i*2) vs):=fun W dd fg ty dc=>by
  have:=aW (P:=Tryz.prog) 2 W 82 82 ty 96 w.heap.size (i*2) (n+1-i) dc ⟨vb,voff,none⟩ 1 vc vs t82 ar (by rw[bu,mn2])
   (fun j v hj=>by rw[Addr.add_lit,dd]; exact pq _ v (be j v hj))
   (fun j hj=>by rw[dd]; exact hN _ A7) (fun j hj=>by rw[fg]; exact lq _) ci
  rw[this,mn2]
 have hGn:n+1<=G:=by rw[hG]; exact grownCap_ge w _ _ _
 have pt:G<=9223372036854775807:=by
  have:=grownCap_le_maxLen w (n+1) c 96 (by unfold maxLen; omega);rw[<-hG] at this;unfold maxLen at this;omega
 have hGi:¬ (G=i):=by omega
 have pu:¬ (G=i+1):=by omega
 have hci:¬ (c=i):=by omega
 have pv:b≠w.heap.size:=by omega
 have gh:(cs.drop (i*2)).length=(n-i)*2:=by rw[lK1,bk]; omega
 have fh:∀ (W:World),(∀ x,W.cell? x=(W1.setCells w.heap.size (i*2) vs).cell? x)->(∀ x,W.frozen? x=(W1.setCells w.heap.size (i*2) vs).frozen? x)->∀ ty dc sc,(Builtin.copy_ #[82,82] ty #[.slice (some ⟨w.heap.size,(i+1)*2,none⟩) (n-i) dc,.slice (some ⟨b,off+i*2,none⟩) (n-i) sc]).run Tryz.prog W=.ok (goInt (n-i:Nat)) (W.setCells w.heap.size ((i+1)*2) (cs.drop (i*2))):=fun W dd fg ty dc sc=>by
  have:=aW (P:=Tryz.prog) 2 W 82 82 ty 96 w.heap.size ((i+1)*2) (n-i) dc ⟨b,off+i*2,none⟩ (n-i) sc (cs.drop (i*2)) t82 ar (by rw[gh,mn1])
   (fun j v hj=>by
    rw[Addr.add_lit,dd,World.cell?_setCells_out _ _ _ _ _ (fun h _=>absurd h pv),lQ1];exact po _ v (hcs (i*2+j) v (by rwa [lY] at hj)))
   (fun j hj=>by rw[dd]; exact isSome_setCells _ _ _ _ (fun t ht=>hN _ A7) _ (hN _ A7))
   (fun j hj=>by rw[fg,World.frozen?_setCells]; exact lq _) (fun v hv=>fp v (lZ1 hv))
  rw[this,mn1]
 subst bt;have kw:∀ x,((w.alloc (.cells ROW 96)).drew).cell? x=(w.drew.alloc (.cells ROW 96)).cell? x:=fun x=>rfl
 have pw:∀ x,((w.alloc (.cells ROW 96)).drew).frozen? x=(w.drew.alloc (.cells ROW 96)).frozen? x:=fun x=>rfl
 have dp:∀ x,(((w.alloc (.cells ROW 96)).drew.setCells w.heap.size (i*2) vs).drew).cell? x=((w.drew.alloc (.cells ROW 96)).setCells w.heap.size (i*2) vs).cell? x:=fun x=>rfl
 have gt:∀ x,(((w.alloc (.cells ROW 96)).drew.setCells w.heap.size (i*2) vs).drew).frozen? x=((w.drew.alloc (.cells ROW 96)).setCells w.heap.size (i*2) vs).frozen? x:=fun x=>rfl
 have jg:IntKind.i64.wrap ((i:Int)+1)=(i:Int)+1:=by rw[IntKind.wrap_i64]; omega
 have ft:(0:Int)<=(i:Int)+1:=by omega
 have dq:i<=n:=by omega
 have en:((i:Int)+1).toNat=i+1:=by omega
 have pj:(i:Int)<=(n:Int):=by omega
 clear dy gr ce dm hG pn
 go_enter Tryz.func65,Tryz.ntmps65
 go_wp2_with (first
  | (at_builtin; refine Lib.wpList_append_run _ rfl _ _ _ _ rfl _ _ rfl rfl _ _ (gi _) ?_)
  | (at_builtin; refine wpList_copy_runI _ rfl _ _ 82 82 rfl _ _ rfl rfl (jl _ kw pw _ _) ?_)
  | (at_builtin; refine wpList_copy_runI _ rfl _ _ 82 82 rfl _ _ rfl rfl (fh _ (fun _=>rfl) (fun _=>rfl) _ _ _) ?_))
 go_region_law_o (refine step_copy_runI rfl _ _ 82 82 rfl (.slice (some ⟨w.heap.size,(i+1)*2,none⟩) (n-i) (G-(i+1))) (.slice (some ⟨b,off+i*2,none⟩) (n-i) (c-i)) B5 B5 (fh _ dp gt 3 (G-(i+1)) (c-i)) ?_)
 go_wp2
 go_ret
 exact⟨rfl,rfl⟩
theorem qN (l:List Attr) (x:Attr) (i:Nat) (hi:i<=l.length) (bn:(l.length+1)*32<=140737488355328) :
  Sp 65 [.own 2 (l.map Attr.row),.int .i64 i,.own 2 [Attr.row x]] (.own 2 ((l.take i++x::l.drop i).map Attr.row)) U3:=by
 have kc:∀ r ∈ l.map Attr.row,r.length=2:=fun r hr=>by obtain⟨x,_,rfl⟩:=lV2.1 hr; rfl
 have kd:(l.map Attr.row).flatten.all b5=true:=by
  rw[lP];intro t ht;obtain⟨r,hr,ht⟩:=lW4.1 ht;obtain⟨x,_,rfl⟩:=lV2.1 hr;exact lP.1 (show (Attr.row x).all b5=true from rfl) t ht
 have hl:(l.map Attr.row).length=l.length:=lU1 _;rw[show (l.take i++x::l.drop i).map Attr.row=(l.map Attr.row).take i++Attr.row x::(l.map Attr.row).drop i by simp];exact akJ (s:=2) (B:=32) (el:=96) (Z:=.agg #[.string { data:=#[] },.string { data:=#[] }]) ⟨_,Tryz.func65,by kernel_rfl,by kernel_rfl⟩ C3 C3 rfl rO oE oF sQ _ _ i kc rfl kd rfl A7 (by rw[hl]; exact bn)
end
section
open Go.Proofs Go.Shelf Go.RowKit Go.Lib Go.Sort
set_option maxHeartbeats 4000000 in
set_option maxRecDepth 1000000 in
theorem wB {blk off len cap i j:Nat} {cs:List Value} {w:World} (hcs:cs.length=len*2) (hc:∀ t u,cs[t]?=some u->w.cell? ⟨blk,off+t,none⟩=some u)
  (ch:∀ t,t<len*2->w.frozen? ⟨blk,off+t,none⟩=false) (h1:∀ u ∈ cs,u.oneCell'=true) (ac:len<=cap) (hi:i<len) (pg:j=i+1) :
  Calls Tryz.prog 64 #[.slice (some ⟨blk,off,none⟩) len cap,.int .i64 i,.int .i64 j] w fun e w'=>e=.returned (.slice (some ⟨blk,off,none⟩) (i+(len-j)) cap) /\
   w'=(w.drew.setCells blk (off+i*2) (cs.drop (j*2))).setCells blk (off+(i+(len-j))*2) [.string { data:=#[] },.string { data:=#[] }]:=by
 have mixed:Tryz.prog.follows .mixedOrders=true:=by kernel_rfl
 have t0:=Tryz.underlying0;have a0:=Tryz.isAgg0;have z0:=Tryz.sizeOf0;have v0:=Tryz.zeroValue0;have t3:=Tryz.underlying3;have a3:=Tryz.isAgg3;have z3:=Tryz.sizeOf3;have v3:=Tryz.zeroValue3;have t4:=Tryz.underlying4;have a4:=Tryz.isAgg4;have z4:=Tryz.sizeOf4;have v4:=Tryz.zeroValue4;have t82:=Tryz.underlying82;have a82:=Tryz.isAgg82;have z82:=Tryz.sizeOf82;have v82:=Tryz.zeroValue82;have v96:=Tryz.zeroValue96;have iE:(Tryz.prog.info? 96).map (fun i=>(i.zero,i.size,i.bytes))=some (some (.agg #[.string { data:=#[] },.string { data:=#[] }]),2,32):=by kernel_rfl
 obtain⟨i0,cj,dl,ca,da⟩:=info_parts iE;obtain⟨news,bh⟩:∃ news,news=cs.drop (j*2):=⟨_,rfl⟩
 have cd:news.length=(len-j)*2:=by rw[bh,lK1,hcs]; omega
 have bq:∀ (t:Nat) (u:Value),news[t]?=some u->w.cell? ⟨blk,off+(j*2+t),none⟩=some u:=by
  intro t u h;rw[bh,lY] at h;exact hc _ u h
 obtain⟨A,hA,ej⟩:∃ A:Addr,(if cap=j then some (⟨blk,off,none⟩:Addr) else some ⟨blk,off+j*2,none⟩)=some A/\Hid (∀ t u,news[t]?=some u->w.drew.cell? (A.add t)=some u):=by
  by_cases h:cap=j
  ·refine⟨⟨blk,off,none⟩,by simp[h],fun t u hu=>?_⟩;have h0:news.length=0:=by rw[cd]; omega
   rw[lO1.1 h0] at hu;simp at hu
  ·refine⟨⟨blk,off+j*2,none⟩,by simp[h],fun t u hu=>?_⟩;rw[Addr.add_lit,lQ1];exact bq t u hu
 have s1:Hid (news.length=(len-j)*2):=cd;have s2:Hid (∀ u ∈ news,u.oneCell'=true):=fun u hu=>h1 u (by rw[bh] at hu; exact lZ1 hu)
 have al:∀ t,t<len*2->(w.cell? ⟨blk,off+t,none⟩).isSome=true:=by
  intro t ht;rw[hc t _ (lF A7)]; rfl
 have s3:Hid (∀ t,t<news.length->(w.drew.cell? ⟨blk,off+i*2+t,none⟩).isSome=true/\w.drew.frozen? ⟨blk,off+i*2+t,none⟩=false):=by
  intro t ht;rw[cd] at ht;rw[lQ1];exact⟨al _ A7,ch _ A7⟩
 obtain⟨W1,bt⟩:∃ W1,W1=w.drew.setCells blk (off+i*2) news:=⟨_,rfl⟩
 have dn:∀ t,t<len*2->(W1.cell? ⟨blk,off+t,none⟩).isSome=true/\W1.frozen? ⟨blk,off+t,none⟩=false:=by
  intro t ht;rw[bt];exact⟨World.isSome_setCells _ _ _ _ _ (al t ht),by rw[World.frozen?_setCells]; exact ch t ht⟩
 have bk:∀ ty,(Builtin.clear_ #[82] ty #[.slice (some ⟨blk,off+(i+(len-j))*2,none⟩) (len-(i+(len-j))) (cap-(i+(len-j)))]).run Tryz.prog W1=.ok (.tuple #[]) (W1.setCells blk (off+(i+(len-j))*2) [.string { data:=#[] },.string { data:=#[] }]):=by
  intro ty;rw[show len-(i+(len-j))=1 by omega];exact qM W1 82 96 ty _ t82 v96 blk _ _ C3 (fun k hk=>by
   have hk6:k<2:=hk;rw[lQ1]; exact(dn _ A7).1) (fun k hk=>by
   have hk6:k<2:=hk;rw[lQ1]; exact(dn _ A7).2) C3
 have hW:Hid (W1=w.drew.setCells blk (off+i*2) news):=bt;have hic:i<=cap:=by omega
 have hjc:j<=cap:=by omega
 have kz:i<=j:=by omega
 have ea:j<=len:=by omega
 have aa:i<j:=by omega
 rw[<-bh];clear hcs hc ch h1 bq al cd dn bt bh pg
 go_enter Tryz.func64,Tryz.ntmps64
 go_wp2_with fail
 go_region_law_o (refine step_append_room rfl (.tmp 22) (.tmp 25) 82 rfl 96 i0 2 t82 cj ca blk off i cap B5 A (len-j) (cap-j) news B5 s1.out ej.out s2.out A7 s3.out ?_; rw[<-hW.out])
 go_wp2
 go_ret
 exact⟨rfl,by rw[hW.out]⟩
theorem aaC (l:List Attr) (i:Nat) (hi:i<l.length):Sp 64 [.own 2 (l.map Attr.row),.int .i64 i,.int .i64 ((i:Int)+1)] (.own 2 ((l.eraseIdx i).map Attr.row)) U3:=by
 have kc:∀ r ∈ l.map Attr.row,r.length=2:=fun r hr=>by obtain⟨x,_,rfl⟩:=lV2.1 hr; rfl
 have kd:(l.map Attr.row).flatten.all b5=true:=by
  rw[lP];intro t ht;obtain⟨r,hr,ht⟩:=lW4.1 ht;obtain⟨x,_,rfl⟩:=lV2.1 hr;exact lP.1 (show (Attr.row x).all b5=true from rfl) t ht
 have hl:(l.map Attr.row).length=l.length:=lU1 _;rw[show (l.eraseIdx i).map Attr.row=(l.map Attr.row).eraseIdx i by simp[lB3]];generalize l.map Attr.row=es at *;refine af6 (s:=2) ⟨_,Tryz.func64,by kernel_rfl,by kernel_rfl⟩ kc kd A7 [.string { data:=#[] },.string { data:=#[] }] rfl fun w blk off cap cs hcs hc ch h1 hle=>?_
 have:=wB (j:=i+1) hcs hc ch h1 hle A7 rfl;exact this
end
def Of (l a:List aA):Prop:=a.length=l.length/\∀ x ∈ a,x ∈ l
theorem Of.set {l a:List aA} (h:Of l a) {k:Nat} {x:aA} (hx:x ∈ l):Of l (a.set k x):=
 ⟨by rw[List.length_set]; exact h.1,fun y hy=>by
  rcases List.mem_or_eq_of_mem_set hy with h1 | rfl
  ·exact h.2 y h1
  ·exact hx⟩
theorem apk {α β:Type} (row:α->β) {l:List α} {m:Nat} (h:m<l.length) {f:β->β} (y:α) (e:f (row l[m])=row y):(l.map row).modify m f=(l.set m y).map row:=by
 refine lB2 fun k=>?_
 rw[lL1,lP1,lP1,lV3];by_cases hk:m=k
 ·subst hk; simp[h,e]
 ·simp[hk]
theorem sR {g:Nat} {cs:List TV} {p:Attr->Bool} (hc:∀ v:Attr,mU Tryz.prog g [v.x,.xbox cs] (.bool (p v)) [.undef,.undef]) (l:List Attr) (hl:l.length<2^48) :
  Sp 62 [.ext 2 (l.map Attr.row),.fn g [.xbox cs]] (.int .i64 (gU (l.findIdx? p))) U2:=by
 refine Vw pP [] 435 [] fun w hP hQ=>?_
 refine fB [4,5] ?_;refine N ?_;refine aN [4,5] (fun i:Nat=>[(8,.int .i64 i)]) (fun i=>i<=l.length/\∀ k,k<i->(h:k<l.length)->p l[k]=false) (fun i=>l.length-i) (0) hP hQ (rfl) A8 ?_;rintro i ⟨hi,hk⟩ w1 hP1 hQ1;refine N1 ?_;refine Jf (fun h1=>?_) fun h1=>?_
 ·refine Nz1 (aL h1) ?_;cases h2:p (l[i]'A7) with
  | true=>
   refine Kz1 h2 (hc (l[i]'A7)) ?_;rw[gY hk A7 h2]; rfl
  | false=>
   refine Kz1 h2 (hc (l[i]'A7)) ?_;exact⟨i+1,rfl,⟨by omega,iL hk A7 h2⟩,by omega⟩
 ·obtain rfl:i=l.length:=by omega
  refine N1 ?_;rw[gZ fun k h=>hk k h h]; rfl
theorem akX (a b:aA):decide (a<=b)=!decide (b<a):=by
 rw[lX3]; simp only[decide_eq_true_eq,lF4,decide_eq_false_iff_not,List.not_lt]
theorem acF (a:Attr) (n:aA):Sp 63 [a.x,.xbox [.str n]] (.bool (decide (n<=a.name))) U2:=by
 rw[akX];refine Vw zT [] 15 [] fun w hP hQ=>?_
 exact Nz aas trivial
theorem ani {l:List Attr} (hu:UpK Attr.name l) {n:aA} {k:Nat} (h:l.findIdx? (fun a=>decide (n<=a.name))=some k) (v:aA):∃ hk:k<l.length,(l[k].name=n->gD l n=l.eraseIdx k/\(gD l n).length+1=l.length/\sL (gD l n) ⟨n,v⟩=l.set k ⟨n,v⟩) /\
  (l[k].name≠n->gD l n=l/\sL l ⟨n,v⟩=l.take k++⟨n,v⟩::l.drop k):=by
 obtain⟨hk,h1,h2⟩:=afO (key:=Attr.name) hu h;refine⟨hk,fun e=>⟨h1 e,?_,?_⟩,fun e=>⟨h2 e,?_⟩⟩
 ·have e1:gD l n=l.eraseIdx k:=h1 e;rw[e1,List.length_eraseIdx,lK hk]; omega
 ·exact amN (key:=Attr.name) hu (e:=⟨n,v⟩) hk e
 ·obtain⟨_,g1,g2⟩:=lC1.1 h;refine iY (key:=Attr.name) (e:=⟨n,v⟩) (Nat.le_of_lt hk) (fun j hj hl=>?_) (fun _=>?_)
  ·have:=g2 j hj;rw[akX] at this;intro hc;have h3:decide (l[j].name<n)=true:=by simpa using this
   exact List.lt_asymm hc (of_decide_eq_true h3)
  ·rcases List.le_iff_lt_or_eq.1 (of_decide_eq_true g1) with h3 | h3
   ·exact h3
   ·exact absurd h3.symm e
theorem anj {l:List Attr} {n:aA} (h:l.findIdx? (fun a=>decide (n<=a.name))=none) (v:aA):gD l n=l/\sL l ⟨n,v⟩=l.take l.length++⟨n,v⟩::l.drop l.length:=by
 refine⟨amM (key:=Attr.name) h,iY (key:=Attr.name) (e:=⟨n,v⟩) (lE1 _) (fun j hj hl=>?_) (fun h=>absurd h (Nat.lt_irrefl _))⟩;have h3:=lO2.1 h l[j] (lI hl);rw[akX] at h3;intro hc;have h4:decide (l[j].name<n)=true:=by simpa using h3
 exact List.lt_asymm hc (of_decide_eq_true h4)
theorem ahM (t:Tab) (s n v:aA) (h:t.sz<2^28) (hs:s.length<2^40) (hn:n.length<2^30) (hv:v.length<2^40):Sp 14 [t.x,.str s,.str n,.str v] (.tup [(eU t s n v).1.o,.int .i64 (eU t s n v).2]) U4:=by
 have h':t.sz<2^40:=by omega
 have hC:=cB t h';have hR:=jS t [s] h' A8 (by simpa using hs);have hN:=b0 n A7;simp only[lF3,lE5,lS3,lR,lW2,fD] at hR;by_cases hc:bE t=true/\b4 s=true/\aP n=true/\v.length<=16
 ·obtain⟨hB,bc,hi,dg⟩:=hc;have hv':decide ((16:Int)<(v.length:Nat))=false:=lB A7;rw[bc,hB] at hR;rw[hi] at hN;have hF:=vV t s h' hs;cases hX:cE t s with
  | error c=>
   have hc:decide (c=0)=false:=lB (fP hX);have e:eU t s n v=(t,c):=by rw[eU,lK ⟨hB,bc,hi,dg⟩,hX]
   rw[hX] at hF;rw[e];simp only[exI,exC] at hF;refine Vw jA [] 16223 [] fun w hP hQ=>?_
   refine K hC ?_;refine K hR ?_;refine Kz hv' (hN) ?_;exact Kcz hc (hF)
  | ok X=>
   have e0:eU t s n v=if v=[] then (aG t (jG X (gD X.attrs n)),0) else if (gD X.attrs n).length<4 then (aG t (jG X (sL (gD X.attrs n) ⟨n,v⟩)),0) else (t,5):=by rw[eU,lK ⟨hB,bc,hi,dg⟩,hX]
   have ht:=(c9 t).1 hB;obtain⟨kX,fe⟩:=gE (aS hX).2;have zX:=(bK h).2 X (aS hX).1;have okA:=(ht.tab.ok X (aS hX).1).1.attrs;have za:=okA.len;have z1:=aau X n;have uX:=okA.up;rw[hX] at hF;rw[e0];simp only[exI,exC] at hF;have z2:(jG X (sL (gD X.attrs n) ⟨n,v⟩)).sz<2^40:=by
    have:=aey (gD X.attrs n) ⟨n,v⟩;simp only at this;have e1:(jG X (gD X.attrs n)).sz=X.data.length+szM Ent.sz X.ents+szM Attr.sz (gD X.attrs n):=rfl;show X.data.length+szM Ent.sz X.ents+szM Attr.sz (sL (gD X.attrs n) ⟨n,v⟩)<_;omega
   have je:=b8 t (jG X (gD X.attrs n)) h' A7 (cP hB) fe;have gu:=b8 t (jG X (sL (gD X.attrs n) ⟨n,v⟩)) h' z2 (cP hB) fe;have jt:=sR (fun a=>acF a n) X.attrs A7;refine Vw jA [(64,[.m,.b,.b],[]),(65,[.m,.b,.m],[])] 16223 [] fun w hP hQ=>?_
   refine K hC ?_;refine K hR ?_;refine Kz hv' (hN) ?_;refine K hF ?_;cases hf:X.attrs.findIdx? (fun a=>decide (n<=a.name)) with
   | none=>
    obtain⟨c1,c2⟩:=anj hf v;have wl:decide (((X.attrs.length:Nat):Int)<((X.attrs.length:Nat):Int))=false:=lB A7;rw[hf,show gU none=(-1:Int) from rfl] at jt;have gc:=qN X.attrs ⟨n,v⟩ X.attrs.length (lE1 _) A7;rw[<-c2] at gc;rw[c1] at je gu hQ;by_cases g1:v=[]
    ·subst g1;rw[lK rfl] at hQ;refine Kz wl (jt) ?_;exact Kc (je)
    ·have g1':decide (v=[])=false:=lB g1;rw[lO g1] at hQ;by_cases g2:X.attrs.length<4
     ·have g2':decide (((X.attrs.length:Nat):Int)=4)=false:=lB A7;rw[lK g2] at hQ;refine Kz (And.intro wl (And.intro g1' g2')) (jt) ?_;refine K gc ?_;exact Kc (gu)
     ·have g2':decide (((X.attrs.length:Nat):Int)=4)=true:=lC A7;rw[lO g2] at hQ;exact Kcz (And.intro wl (And.intro g1' g2')) (jt)
   | some k=>
    obtain⟨hk,c1,c2⟩:=ani uX hf v;rw[hf,show gU (some k)=(k:Int) from rfl] at jt;have w0:decide (((k:Nat):Int)<0)=false:=lB A7;have w1:decide (((k:Nat):Int)<((X.attrs.length:Nat):Int))=true:=lC A7;have w2:((k:Nat):Int)<((X.attrs.length:Nat):Int):=by omega
    by_cases gn:X.attrs[k].name=n
    ·have gn':decide (X.attrs[k].name=n)=true:=lC gn;obtain⟨d1,d2,d3⟩:=c1 gn;by_cases g1:v=[]
     ·subst g1;have hDe:=aaC X.attrs k hk;rw[<-d1] at hDe;rw[lK rfl] at hQ;refine Kz (And.intro w0 (And.intro w1 (And.intro (aL w2) gn'))) (jt) ?_;refine K hDe ?_;exact Kc (je)
     ·have g1':decide (v=[])=false:=lB g1;rw[lO g1,lK (by omega:(gD X.attrs n).length<4)] at hQ;have e3:((X.attrs.map Attr.row).modify k fun r=>List.take 1 r++[TV.str v]++List.drop 2 r)=(sL (gD X.attrs n) ⟨n,v⟩).map Attr.row:=by
       rw[d3];exact apk Attr.row hk _ (by rw[<-gn]; rfl)
      refine Kz (And.intro w0 (And.intro w1 (And.intro (aL w2) (And.intro gn' (And.intro g1' e3))))) (jt) ?_;exact Kc (gu)
    ·have gn':decide (X.attrs[k].name=n)=false:=lB gn;obtain⟨d1,d2⟩:=c2 gn;have gc:=qN X.attrs ⟨n,v⟩ k A7 A7;rw[<-d2] at gc;rw[d1] at je gu hQ;by_cases g1:v=[]
     ·subst g1;rw[lK rfl] at hQ;refine Kz (And.intro w0 (And.intro w1 (And.intro (aL w2) gn'))) (jt) ?_;exact Kc (je)
     ·have g1':decide (v=[])=false:=lB g1;rw[lO g1] at hQ;by_cases g2:X.attrs.length<4
      ·have g2':decide (((X.attrs.length:Nat):Int)=4)=false:=lB A7;rw[lK g2] at hQ;refine Kz (And.intro w0 (And.intro w1 (And.intro (aL w2) (And.intro gn' (And.intro g1' g2'))))) (jt) ?_;refine K gc ?_;exact Kc (gu)
      ·have g2':decide (((X.attrs.length:Nat):Int)=4)=true:=lC A7;rw[lO g2] at hQ;exact Kcz (And.intro w0 (And.intro w1 (And.intro (aL w2) (And.intro gn' (And.intro g1' g2'))))) (jt)
 ·have e:eU t s n v=(t,1):=by rw[eU,lO hc]
  rw[e];cases hp:(b4 s && bE t) with
  | false=>
   rw[hp] at hR;refine Vw jA [] 16223 [] fun w hP hQ=>?_
   refine K hC ?_;exact Kc (hR)
  | true=>
   rw[hp] at hR;simp only[lM] at hp;cases hi:aP n with
   | false=>
    rw[hi] at hN;refine Vw jA [] 16223 [] fun w hP hQ=>?_
    refine K hC ?_;refine K hR ?_;exact Kc (hN)
   | true=>
    have hv':decide ((16:Int)<(v.length:Nat))=true:=lC (by
     by_cases e:v.length<=16
     ·exact absurd ⟨hp.2,hp.1,hi,e⟩ hc
     ·omega)
    rw[hi] at hN;refine Vw jA [] 16223 [] fun w hP hQ=>?_
    refine K hC ?_;refine K hR ?_;exact Kcz hv' (hN)
theorem ahN (t:Tab) (o:Op) (hk:inR o.kind 1 9=true) (h:t.sz<2^28) (h1:o.path.length<2^29) (h2:o.to'.length<2^29) (h3:o.data.length<2^29) :
  Sp 91 [t.x,o.x] (.tup [(aT t o).1.o,.int .i64 (aT t o).2]) U2:=by
 obtain⟨c,v,p,q,n,d⟩:=o;simp only at h1 h2 h3;have hc:=(fN _ _ _).1 hk;simp only at hc;have hc:c=1\/c=2\/c=3\/c=4\/c=5\/c=6\/c=7\/c=8\/c=9:=by omega
 rcases hc with rfl | rfl | rfl | rfl | rfl | rfl | rfl | rfl | rfl
 ·rw[show aT t ⟨1,v,p,q,n,d⟩=b3 t p 2 from rfl];have k:=ahF t p A7 A7;generalize b3 t p 2=r at *;refine Vw dO [] 191 [] fun w hP hQ=>?_
  exact K k trivial
 ·rw[show aT t ⟨2,v,p,q,n,d⟩=b3 t p 1 from rfl];have k:=aeB t p A7 A7;generalize b3 t p 1=r at *;refine Vw dO [] 191 [] fun w hP hQ=>?_
  exact K k trivial
 ·rw[show aT t ⟨3,v,p,q,n,d⟩=cV t p n d from rfl];have k:=ahL t p n d A7 A7 A7;generalize cV t p n d=r at *;refine Vw dO [] 191 [] fun w hP hQ=>?_
  exact K k trivial
 ·rw[show aT t ⟨4,v,p,q,n,d⟩=jH t p n from rfl];have k:=aeM t p n A7 A7;generalize jH t p n=r at *;refine Vw dO [] 191 [] fun w hP hQ=>?_
  exact K k trivial
 ·rw[show aT t ⟨5,v,p,q,n,d⟩=bZ t p from rfl];have k:=aks t p A7 A7;generalize bZ t p=r at *;refine Vw dO [] 191 [] fun w hP hQ=>?_
  exact K k trivial
 ·rw[show aT t ⟨6,v,p,q,n,d⟩=cU t p from rfl];have k:=acx t p A7 A7;generalize cU t p=r at *;refine Vw dO [] 191 [] fun w hP hQ=>?_
  exact K k trivial
 ·rw[show aT t ⟨7,v,p,q,n,d⟩=eG t p q from rfl];have k:=aeC t p q A7 A7 A7;generalize eG t p q=r at *;refine Vw dO [] 191 [] fun w hP hQ=>?_
  exact K k trivial
 ·rw[show aT t ⟨8,v,p,q,n,d⟩=eT t p q from rfl];have k:=akL t p q A7 A7 A7;generalize eT t p q=r at *;refine Vw dO [] 191 [] fun w hP hQ=>?_
  exact K k trivial
 ·rw[show aT t ⟨9,v,p,q,n,d⟩=eU t p q d from rfl];have k:=ahM t p q d A7 A7 A7 A7;generalize eU t p q d=r at *;refine Vw dO [] 191 [] fun w hP hQ=>?_
  exact K k trivial
theorem yS (o:Op):Sp 47 [o.x] (.bool (inR o.kind 1 9)) U1:=by
 refine Vw adA [] 7 [] fun w hP hQ=>?_
 exact K (fV o.kind 1 9) trivial
theorem aaD (f:Fs) (o:Op) (k9:inR o.kind 1 9=true) (h:f.sz<2^40) (o1:o.path.length<2^29) (o2:o.to'.length<2^29) (o3:o.data.length<2^29)
  (hCC:∀ t:Tab,t.sz<2^28->Sp 91 [t.x,o.x] (.tup [(aT t o).1.o,.int .i64 (aT t o).2]) [.undef,.undef]) :
  Sp 28 [f.x,o.x] (.tup [(kU f o).1.o,.int .i64 (kU f o).2]) U2:=by
 have k9':=(fN _ _ _).1 k9;have d10:decide (o.kind=10)=false:=lB A7;have d11:decide (o.kind=11)=false:=lB A7;have d12:decide (o.kind=12)=false:=lB A7;have d13:decide (o.kind=13)=false:=lB A7;have d14:decide (o.kind=14)=false:=lB A7;have hc:=yS o;rw[k9] at hc;obtain⟨h1,h2⟩:=vW h;have hV:=tT f o.vol A7;have hF:=vU f h;rcases dA (fsB f) with e1 | e1
 ·rw[e1] at hF;rw[kU,lO C4];refine Vw dU [] 1535 [] fun w hP hQ=>?_
  refine Nz (And.intro d10 (And.intro d11 (And.intro d12 (And.intro d13 d14)))) ?_;refine K (bI f h) ?_;refine K hc ?_;exact K hF trivial
 rw[e1] at hF;rw[kU,lK e1];cases e3:mP f o.vol with
 | none=>
  rw[e3] at hV;refine Vw dU [] 1535 [] fun w hP hQ=>?_
  refine Nz (And.intro d10 (And.intro d11 (And.intro d12 (And.intro d13 d14)))) ?_;refine K (bI f h) ?_;refine K hc ?_;refine K hF ?_;exact K hV trivial
 | some k=>
  have hk:=jT e3;have hk':((k:Nat):Int)<(f.vols.length:Nat):=by omega
  obtain⟨zt,hT⟩:=acD e1 hk;rw[e3,show gU (some k)=(k:Int) from rfl] at hV;simp only[lF hk];cases hr:f.vols[k].ro with
  | true=>
   rw[lK rfl];refine Vw dU [] 1535 [] fun w hP hQ=>?_
   refine Nz (And.intro d10 (And.intro d11 (And.intro d12 (And.intro d13 d14)))) ?_;refine K (bI f h) ?_;refine K hc ?_;refine K hF ?_;refine K hV ?_;refine Jf (fun hx=>?_) fun hx=>?_
   ·exfalso; omega
   exact Nz (And.intro (aL hk') hr) trivial
  | false=>
   rw[lO A8];have hC:=hCC f.vols[k].t zt;have hCT:=rN f.vols[k].t o;have hU:=oA (aT f.vols[k].t o).1 A7;have hM:=acC f k (aT f.vols[k].t o).1 hk;have hN:(apA f k (aT f.vols[k].t o).1).next=f.next:=rfl;generalize (aT f.vols[k].t o).1=T at *;generalize (aT f.vols[k].t o).2=c at *;by_cases fx:c=0
   ·subst fx;rw[lK rfl];by_cases hu:(dD T:Int)<=f.vols[k].limit
    ·have hu':decide (f.vols[k].limit<(dD T:Nat))=false:=lB A7;rw[lK hu];refine Vw dU [] 1535 [] fun w hP hQ=>?_
     refine Nz (And.intro d10 (And.intro d11 (And.intro d12 (And.intro d13 d14)))) ?_;refine K (bI f h) ?_;refine K hc ?_;refine K hF ?_;refine K hV ?_;refine Jf (fun hx=>?_) fun hx=>?_
     ·exfalso; omega
     refine Nz (And.intro (aL hk') hr) ?_;refine Kz (aL hk') (hC) ?_;refine Kz (And.intro (aL hk') hu') (hU) ?_;simp only[Fs.o,<-hM,hN]
    ·have hu':decide (f.vols[k].limit<(dD T:Nat))=true:=lC A7;rw[lO hu];refine Vw dU [] 1535 [] fun w hP hQ=>?_
     refine Nz (And.intro d10 (And.intro d11 (And.intro d12 (And.intro d13 d14)))) ?_;refine K (bI f h) ?_;refine K hc ?_;refine K hF ?_;refine K hV ?_;refine Jf (fun hx=>?_) fun hx=>?_
     ·exfalso; omega
     refine Nz (And.intro (aL hk') hr) ?_;refine Kz (aL hk') (hC) ?_;exact Kz (And.intro (aL hk') hu') (hU) trivial
   ·have hc':decide (c=0)=false:=lB fx;rw[lO fx];refine Vw dU [] 1535 [] fun w hP hQ=>?_
    refine Nz (And.intro d10 (And.intro d11 (And.intro d12 (And.intro d13 d14)))) ?_;refine K (bI f h) ?_;refine K hc ?_;refine K hF ?_;refine K hV ?_;refine Jf (fun hx=>?_) fun hx=>?_
    ·exfalso; omega
    refine Nz (And.intro (aL hk') hr) ?_;exact Kz (And.intro (aL hk') hc') (hC) trivial
theorem ank (f:Fs) (o:Op) (h:f.sz<2^40) (o1:o.path.length<2^29) (o2:o.to'.length<2^29) (o3:o.data.length<2^29) :
  Sp 28 [f.x,o.x] (.tup [(bU f o).1.o,.int .i64 (bU f o).2]) U2:=by
 by_cases k10:o.kind=10
 ·have hk:=akS f o.path o.off h A7;rw[show bU f o=((eH f o.path o.off).1,(eH f o.path o.off).2.2) by unfold bU;  rw[if_pos k10]];generalize eH f o.path o.off=r at *;refine Vw dU [] 1535 [] fun w hP hQ=>?_
  refine Nz k10 ?_;exact K hk trivial
 by_cases k11:o.kind=11
 ·have hk:=ahG f o.vol o.path h A7;rw[show bU f o=((jE f o.vol o.path true).1,(jE f o.vol o.path true).2.2) by unfold bU; rw[if_neg k10]; rw[if_pos k11]];generalize jE f o.vol o.path true=r at *;refine Vw dU [] 1535 [] fun w hP hQ=>?_
  refine Nz k11 ?_;exact K hk trivial
 by_cases k12:o.kind=12
 ·have hk:=aeK f o.vol o.path h A7;rw[show bU f o=((jE f o.vol o.path false).1,(jE f o.vol o.path false).2.2) by unfold bU; rw[if_neg k10]; rw[if_neg k11]; rw[if_pos k12]];generalize jE f o.vol o.path false=r at *;refine Vw dU [] 1535 [] fun w hP hQ=>?_
  refine Nz k12 ?_;exact K hk trivial
 by_cases k13:o.kind=13
 ·have hk:=ahI f o.vol h;rw[show bU f o=fQ f o.vol by unfold bU; rw[if_neg k10]; rw[if_neg k11]; rw[if_neg k12]; rw[if_pos k13]];generalize fQ f o.vol=r at *;refine Vw dU [] 1535 [] fun w hP hQ=>?_
  refine Nz k13 ?_;exact K hk trivial
 by_cases k14:o.kind=14
 ·have hk:=aeI f o.vol o.off h;rw[show bU f o=dB f o.vol o.off by unfold bU; rw[if_neg k10]; rw[if_neg k11]; rw[if_neg k12]; rw[if_neg k13]; rw[if_pos k14]];generalize dB f o.vol o.off=r at *;refine Vw dU [] 1535 [] fun w hP hQ=>?_
  refine Nz k14 ?_;exact K hk trivial
 have d10:decide (o.kind=10)=false:=lB k10;have d11:decide (o.kind=11)=false:=lB k11;have d12:decide (o.kind=12)=false:=lB k12;have d13:decide (o.kind=13)=false:=lB k13;have d14:decide (o.kind=14)=false:=lB k14;have hc:=yS o;by_cases k9:inR o.kind 1 9=true
 case neg=>
  rw[show inR o.kind 1 9=false by simpa using k9] at hc;rw[show bU f o=(f,1) by unfold bU; rw[if_neg k10,if_neg k11,if_neg k12,if_neg k13,if_neg k14,if_neg k9]];refine Vw dU [] 1535 [] fun w hP hQ=>?_
  refine Nz (And.intro d10 (And.intro d11 (And.intro d12 (And.intro d13 d14)))) ?_;refine K (bI f h) ?_;exact K hc trivial
 rw[show bU f o=kU f o by unfold bU; rw[if_neg k10,if_neg k11,if_neg k12,if_neg k13,if_neg k14,if_pos k9]];exact aaD f o k9 h o1 o2 o3 fun t ht=>ahN t o k9 ht o1 o2 o3
theorem akY {α:Type} (f:α->Nat):∀ (l:List α) (k:Nat),((l.eraseIdx k).map f).sum<=(l.map f).sum:=by
 intro l;induction l with
 | nil=>intro k; simp
 | cons x l ih=>
  intro k;cases k with
  | zero=>simp
  | succ k=>simp only[List.eraseIdx_cons_succ,lR,lK2]; have:=ih k; omega
theorem apl (f:Fs) (k:Nat):(aqE f k).sz<=f.sz:=by
 have e1:(aqE f k).sz=(f.vols.eraseIdx k).length+((f.vols.eraseIdx k).map Vol.sz).sum:=rfl;have e2:f.sz=f.vols.length+(f.vols.map Vol.sz).sum:=rfl;have h1:=akY Vol.sz f.vols k;have h2:(f.vols.eraseIdx k).length<=f.vols.length:=List.length_eraseIdx_le _ _;omega
theorem ahO (f:Fs) (i:Int):(fQ f i).1.sz<=f.sz:=by
 unfold fQ;split
 ·split
  ·exact lE1 _
  ·exact apl _ _
 ·exact lE1 _
theorem akZ (o:Op) (h:o.sz<2^40):Sp 30 [o.x,o.x] (.bool true) U2:=by
 have he:=aqd o o h
 rwa [lC rfl] at he
theorem aqm {f:Fs} {v:Vol} (h:v ∈ f.vols):v.sz+f.vols.length<=f.sz:=by
 have:=m5 (f:=Vol.sz) h;show _<=f.vols.length+(f.vols.map Vol.sz).sum; omega
theorem apm (f:Fs) (k:Nat) (T:Tab):(apA f k T).sz<=f.sz+T.sz:=by
 have key:∀ (l:List Vol) (k:Nat),szM Vol.sz (l.modify k fun v=>{ v with t:=T })<=szM Vol.sz l+T.sz:=by
  intro l;induction l with
  | nil=>intro k; cases k <;> simp[szM]
  | cons a l ih=>
   intro k;cases k with
   | zero=>
    have e1:a.sz=a.name.length+a.t.sz:=rfl;have e2:({ a with t:=T }:Vol).sz=a.name.length+T.sz:=rfl;simp only[szM,lM3,lZ,lR,lK2];omega
   | succ k=>
    have:=ih k;simp only[szM,lN3,lZ,lR,lK2] at this ⊢;omega
 exact key f.vols k
theorem anl (f:Fs) (o:Op):(bU f o).1.sz<=9*f.sz+2*(o.path.length+o.to'.length+o.data.length)+1001:=by
 unfold bU
 repeat' split
 ·have:=akT f o.path o.off; simp only; omega
 ·have:=akV f o.vol o.path true; simp only; omega
 ·have:=akV f o.vol o.path false; simp only; omega
 ·have:=ahO f o.vol; omega
 ·have:=aeJ f o.vol o.off; omega
 ·unfold kU
  repeat' split
  all_goals first | (simp only; omega) | skip
  rename_i k e _ v hv _ _ _;have a1:=aqm (lE3 hv);have a2:v.t.sz<=v.sz:=by show _<=v.name.length+v.t.sz; omega
  have a3:=rN v.t o;have a4:=apm f k (aT v.t o).1;show (apA f k (aT v.t o).1).sz<=_;omega
 ·simp only; omega
theorem xA (r:Fs) (o:Op) (hf:r.fine) (ho:o.fine):Sp 4 [r.x,o.x] (.bool true) U2:=by
 by_cases hz:(1048576:Int)<(r.sz:Nat)
 ·refine Vw iJ [] 131071 [] fun w hP hQ=>?_
  exact Kz (b7 hz) (aj8 r 1048576 hf A7 A7) trivial
 by_cases hy:(1048576:Int)-(r.sz:Nat)<(o.sz:Nat)
 ·refine Vw iJ [] 131071 [] fun w hP hQ=>?_
  refine Kz (dI hz) (aj8 r 1048576 hf A7 A7) ?_;refine Jf (fun h=>?_) fun h=>?_
  ·exfalso; omega
  refine N ?_;exact Kz (b7 hy) (anB o (1048576-(r.sz:Nat)) ho A7 A7) trivial
 have hs:r.sz<2^40:=by omega
 have ek:o.sz<2^40:=by omega
 have hoz:o.sz=o.path.length+o.to'.length+o.data.length:=rfl;have hS:=anf r o hs A7 A7 A7;have hI:=ank r o hs A7 A7 A7;have hs':=anl r o;have c1:=anN r;have c2:=anN (bU r o).1;have c3:o.cntT=o.data.length:=rfl;have g0:decide (1+((r.cntT:Nat):Int)+((o.cntT:Nat):Int)<0)=false:=lB A7;have g1:decide (1+(((bU r o).1.cntT:Nat):Int)<0)=false:=lB A7;generalize (bU r o).1=D at *;generalize (bU r o).2=E at *;have ew:D.sz<2^40:=by omega
 refine Vw iJ [(31,[.p,.b],[]),(32,[.p,.b],[])] 131071 [] fun w hP hQ=>?_
 refine Kz (dI hz) (aj8 r 1048576 hf A7 A7) ?_;refine Jf (fun h=>?_) fun h=>?_
 ·exfalso; omega
 refine N ?_;refine Kz (dI hy) (anB o (1048576-(r.sz:Nat)) ho A7 A7) ?_;refine Jf (fun h2=>?_) fun h2=>?_
 ·exfalso; omega
 refine N ?_;refine K (afC r hs) ?_;refine K (afD o ek) ?_;refine K hS ?_;refine K (afC r hs) ?_;refine K (afD o ek) ?_;refine K hI ?_;refine K (qH D ew) ?_;refine K (afC r hs) ?_;refine K (qH r hs) ?_;refine K (afD o ek) ?_;refine K (akZ o ek) ?_;refine K (afI r 1 A7 A7) ?_;refine Kz g0 (amD o (1+(r.cntT:Nat)) A7 A7) ?_;refine K (qH D ew) ?_;refine K (afI D 1 A7 A7) ?_;refine Kz g1 (afJ D 1 A7 A7) ?_;refine K (afC r hs) ?_;refine K (afD o ek) ?_;refine K hI ?_;refine K (qH D ew) ?_;exact Kz g1 (afJ D 1 A7 A7) trivial
theorem Shp.nil_inv {ts:List TV} (h:Shp [] ts):ts=[]:=by cases h; rfl
theorem Shp.bool_inv {ys:List Ty} {ts:List TV} (h:Shp (.bool::ys) ts):∃ b us,ts=.bool b::us/\Shp ys us:=by cases h with | bool b _ us h=>exact⟨b,us,rfl,h⟩
theorem Shp.int_inv {k:IntKind} {ys:List Ty} {ts:List TV} (h:Shp (.int k::ys) ts):∃ n us,ts=.int k n::us/\Shp ys us:=by cases h with | int _ n _ us _ h=>exact⟨n,us,rfl,h⟩
theorem Shp.str_inv {ys:List Ty} {ts:List TV} (h:Shp (.str::ys) ts):∃ s us,ts=.str s::us/\s.length<=2^47/\Shp ys us:=by cases h with | str s _ us hs h=>exact⟨s,us,rfl,hs,h⟩
theorem Shp.sl_inv {s:Nat} {e ys:List Ty} {ts:List TV} (h:Shp (.sl s e::ys) ts):∃ es us,ts=.sl s es::us/\es.length<=2^47/\(∀ r ∈ es,Shp e r)/\Shp ys us:=by
 cases h with | sl _ _ es _ us hl he h=>exact⟨es,us,rfl,hl,he,h⟩
theorem iZ {α:Type} {sh:List Ty} {row:α->List TV} {good:α->Prop} (H:∀ ts,Shp sh ts->∃ x,ts=row x/\good x):∀ {es:List (List TV)},(∀ r ∈ es,Shp sh r)->∃ l:List α,es=l.map row/\∀ x ∈ l,good x:=by
 intro es;induction es with
 | nil=>intro _; exact⟨[],rfl,by simp⟩
 | cons r es ih=>
  intro h;obtain⟨x,rfl,hx⟩:=H r (h r A8);obtain⟨l,rfl,hl⟩:=ih fun r hr=>h r (by simp[hr])
  exact⟨x::l,rfl,fun y hy=>by rcases lN.1 hy with rfl | hy; exact hx; exact hl y hy⟩
theorem ahP (ts:List TV) (h:Shp [.int .u8] ts):∃ x:UInt8,ts=rC x/\True:=by
 cases h with
 | int _ n _ us hn h=>
  cases h;obtain⟨h1,h2⟩:=bounds_u8 hn;refine⟨UInt8.ofNat n.toNat,?_,trivial⟩;have:(UInt8.ofNat n.toNat).toNat=n.toNat:=by simp; omega
  simp only[rC,this];congr 2;omega
theorem wC {es:List (List TV)} (h:∀ r ∈ es,Shp [.int .u8] r):∃ b:aA,es=aJ b:=by
 obtain⟨l,rfl,_⟩:=iZ ahP h;exact⟨l,rfl⟩
theorem rP {s:aA} (h:s.length<=2^47):s.length<2^48:=lR2 h C3
theorem ak0 {b:aA} (h:(aJ b).length<=2^47):b.length<2^48:=lR2 (by simpa [aJ] using h) C3
theorem wD {α β:Type} {f:α->β} {l:List α} (h:(l.map f).length<=2^47):l.length<2^48:=lR2 (by simpa using h) C3
def Ent.shape:List Ty:=[.str,.int .i64]
theorem Ent.ofShp (ts:List TV) (h:Shp Ent.shape ts):∃ x:Ent,ts=x.row/\x.fine:=by
 obtain⟨v_name,u0,rfl,lv_name,h1⟩:=Shp.str_inv h;obtain⟨v_ino,u1,rfl,h2⟩:=Shp.int_inv h1;obtain rfl:=Shp.nil_inv h2;exact⟨{ name:=v_name,ino:=v_ino },rfl,rP lv_name⟩
def Attr.shape:List Ty:=[.str,.str]
theorem Attr.ofShp (ts:List TV) (h:Shp Attr.shape ts):∃ x:Attr,ts=x.row/\x.fine:=by
 obtain⟨v_name,u0,rfl,lv_name,h1⟩:=Shp.str_inv h;obtain⟨v_val,u1,rfl,lv_val,h2⟩:=Shp.str_inv h1;obtain rfl:=Shp.nil_inv h2;exact⟨{ name:=v_name,val:=v_val },rfl,⟨rP lv_name,rP lv_val⟩⟩
def Inode.shape:List Ty:=[.int .i64,.int .i64,.int .i64,.sl 1 [.int .u8],.sl 2 Ent.shape,.sl 2 Attr.shape]
theorem Inode.ofShp (ts:List TV) (h:Shp Inode.shape ts):∃ x:Inode,ts=x.row/\x.fine:=by
 obtain⟨v_ino,u0,rfl,h1⟩:=Shp.int_inv h;obtain⟨v_kind,u1,rfl,h2⟩:=Shp.int_inv h1;obtain⟨v_links,u2,rfl,h3⟩:=Shp.int_inv h2;obtain⟨r3,u3,rfl,lv_data,e3,h4⟩:=Shp.sl_inv h3;obtain⟨v_data,rfl⟩:=wC e3;obtain⟨r4,u4,rfl,lv_ents,e4,h5⟩:=Shp.sl_inv h4;obtain⟨v_ents,rfl,gv_ents⟩:=iZ Ent.ofShp e4;obtain⟨r5,u5,rfl,lv_attrs,e5,h6⟩:=Shp.sl_inv h5;obtain⟨v_attrs,rfl,gv_attrs⟩:=iZ Attr.ofShp e5;obtain rfl:=Shp.nil_inv h6;exact⟨{ ino:=v_ino,kind:=v_kind,links:=v_links,data:=v_data,ents:=v_ents,attrs:=v_attrs },rfl,⟨ak0 lv_data,⟨wD lv_ents,gv_ents⟩,⟨wD lv_attrs,gv_attrs⟩⟩⟩
def Tab.shape:List Ty:=[.sl 6 Inode.shape,.int .i64]
theorem Tab.ofShp (ts:List TV) (h:Shp Tab.shape ts):∃ x:Tab,ts=x.row/\x.fine:=by
 obtain⟨r0,u0,rfl,lv_inodes,e0,h1⟩:=Shp.sl_inv h;obtain⟨v_inodes,rfl,gv_inodes⟩:=iZ Inode.ofShp e0;obtain⟨v_next,u1,rfl,h2⟩:=Shp.int_inv h1;obtain rfl:=Shp.nil_inv h2;exact⟨{ inodes:=v_inodes,next:=v_next },rfl,⟨wD lv_inodes,gv_inodes⟩⟩
def Vol.shape:List Ty:=[.int .i64,.str,.bool,.int .i64,.sl 6 Inode.shape,.int .i64]
theorem Vol.ofShp (ts:List TV) (h:Shp Vol.shape ts):∃ x:Vol,ts=x.row/\x.fine:=by
 obtain⟨v_id,u0,rfl,h1⟩:=Shp.int_inv h;obtain⟨v_name,u1,rfl,lv_name,h2⟩:=Shp.str_inv h1;obtain⟨v_ro,u2,rfl,h3⟩:=Shp.bool_inv h2;obtain⟨v_limit,u3,rfl,h4⟩:=Shp.int_inv h3;obtain⟨r4,u4,rfl,lv_t_inodes,e4,h5⟩:=Shp.sl_inv h4;obtain⟨v_t_inodes,rfl,gv_t_inodes⟩:=iZ Inode.ofShp e4;obtain⟨v_t_next,u5,rfl,h6⟩:=Shp.int_inv h5;obtain rfl:=Shp.nil_inv h6;exact⟨{ id:=v_id,name:=v_name,ro:=v_ro,limit:=v_limit,t:={ inodes:=v_t_inodes,next:=v_t_next } },rfl,⟨rP lv_name,⟨wD lv_t_inodes,gv_t_inodes⟩⟩⟩
def Fs.shape:List Ty:=[.sl 6 Vol.shape,.int .i64]
theorem Fs.ofShp (ts:List TV) (h:Shp Fs.shape ts):∃ x:Fs,ts=x.row/\x.fine:=by
 obtain⟨r0,u0,rfl,lv_vols,e0,h1⟩:=Shp.sl_inv h;obtain⟨v_vols,rfl,gv_vols⟩:=iZ Vol.ofShp e0;obtain⟨v_next,u1,rfl,h2⟩:=Shp.int_inv h1;obtain rfl:=Shp.nil_inv h2;exact⟨{ vols:=v_vols,next:=v_next },rfl,⟨wD lv_vols,gv_vols⟩⟩
def Op.shape:List Ty:=[.int .i64,.int .i64,.str,.str,.int .i64,.sl 1 [.int .u8]]
theorem Op.ofShp (ts:List TV) (h:Shp Op.shape ts):∃ x:Op,ts=x.row/\x.fine:=by
 obtain⟨v_kind,u0,rfl,h1⟩:=Shp.int_inv h;obtain⟨v_vol,u1,rfl,h2⟩:=Shp.int_inv h1;obtain⟨v_path,u2,rfl,lv_path,h3⟩:=Shp.str_inv h2;obtain⟨v_to',u3,rfl,lv_to',h4⟩:=Shp.str_inv h3;obtain⟨v_off,u4,rfl,h5⟩:=Shp.int_inv h4;obtain⟨r5,u5,rfl,lv_data,e5,h6⟩:=Shp.sl_inv h5;obtain⟨v_data,rfl⟩:=wC e5;obtain rfl:=Shp.nil_inv h6;exact⟨{ kind:=v_kind,vol:=v_vol,path:=v_path,to':=v_to',off:=v_off,data:=v_data },rfl,⟨rP lv_path,rP lv_to',ak0 lv_data⟩⟩
section
open Go.Proofs Go.Proofs.YtnfeefcnblondaaGreatDoor
theorem own:ownKnob Tryz.prog.godebug=none:=by kernel_rfl
def anO:List Char:=[Char.ofNat 97,Char.ofNat 116,Char.ofNat 32,Char.ofNat 108,Char.ofNat 111,Char.ofNat 111,Char.ofNat 112,Char.ofNat 46,Char.ofNat 101,Char.ofNat 120,Char.ofNat 97,Char.ofNat 109,Char.ofNat 112,Char.ofNat 108,Char.ofNat 101,Char.ofNat 47,Char.ofNat 103,Char.ofNat 48,Char.ofNat 48,Char.ofNat 50,Char.ofNat 56,Char.ofNat 53,Char.ofNat 47,Char.ofNat 108,Char.ofNat 97,Char.ofNat 119,Char.ofNat 115,Char.ofNat 46,Char.ofNat 70,Char.ofNat 110,Char.ofNat 84,Char.ofNat 114,Char.ofNat 101,Char.ofNat 101,Char.ofNat 115,Char.ofNat 66,Char.ofNat 101,Char.ofNat 110,Char.ofNat 116,Char.ofNat 32,Char.ofNat 108,Char.ofNat 111,Char.ofNat 111,Char.ofNat 112,Char.ofNat 46,Char.ofNat 101,Char.ofNat 120,Char.ofNat 97,Char.ofNat 109,Char.ofNat 112,Char.ofNat 108,Char.ofNat 101,Char.ofNat 47,Char.ofNat 103,Char.ofNat 48,Char.ofNat 48,Char.ofNat 50,Char.ofNat 56,Char.ofNat 53,Char.ofNat 47]++[Char.ofNat 108,Char.ofNat 97,Char.ofNat 119,Char.ofNat 115,Char.ofNat 46,Char.ofNat 70,Char.ofNat 110,Char.ofNat 69,Char.ofNat 120,Char.ofNat 97,Char.ofNat 99,Char.ofNat 116,Char.ofNat 65,Char.ofNat 112,Char.ofNat 112,Char.ofNat 108,Char.ofNat 121,Char.ofNat 32,Char.ofNat 108,Char.ofNat 111,Char.ofNat 111,Char.ofNat 112,Char.ofNat 46,Char.ofNat 101,Char.ofNat 120,Char.ofNat 97,Char.ofNat 109,Char.ofNat 112,Char.ofNat 108,Char.ofNat 101,Char.ofNat 47,Char.ofNat 103,Char.ofNat 48,Char.ofNat 48,Char.ofNat 50,Char.ofNat 56,Char.ofNat 53,Char.ofNat 47,Char.ofNat 108,Char.ofNat 97,Char.ofNat 119,Char.ofNat 115,Char.ofNat 46,Char.ofNat 70,Char.ofNat 110,Char.ofNat 73,Char.ofNat 100,Char.ofNat 115,Char.ofNat 82,Char.ofNat 105,Char.ofNat 115,Char.ofNat 101,Char.ofNat 32,Char.ofNat 108,Char.ofNat 111,Char.ofNat 111,Char.ofNat 112,Char.ofNat 46,Char.ofNat 101,Char.ofNat 120]++[Char.ofNat 97,Char.ofNat 109,Char.ofNat 112,Char.ofNat 108,Char.ofNat 101,Char.ofNat 47,Char.ofNat 103,Char.ofNat 48,Char.ofNat 48,Char.ofNat 50,Char.ofNat 56,Char.ofNat 53,Char.ofNat 47,Char.ofNat 108,Char.ofNat 97,Char.ofNat 119,Char.ofNat 115,Char.ofNat 46,Char.ofNat 70,Char.ofNat 110,Char.ofNat 81,Char.ofNat 117,Char.ofNat 111,Char.ofNat 116,Char.ofNat 97,Char.ofNat 69,Char.ofNat 100,Char.ofNat 103,Char.ofNat 101,Char.ofNat 32,Char.ofNat 108,Char.ofNat 111,Char.ofNat 111,Char.ofNat 112,Char.ofNat 46,Char.ofNat 101,Char.ofNat 120,Char.ofNat 97,Char.ofNat 109,Char.ofNat 112,Char.ofNat 108,Char.ofNat 101,Char.ofNat 47,Char.ofNat 103,Char.ofNat 48,Char.ofNat 48,Char.ofNat 50,Char.ofNat 56,Char.ofNat 53,Char.ofNat 47,Char.ofNat 108,Char.ofNat 97,Char.ofNat 119,Char.ofNat 115,Char.ofNat 46,Char.ofNat 70,Char.ofNat 110,Char.ofNat 65,Char.ofNat 112,Char.ofNat 97]++[Char.ofNat 114,Char.ofNat 116,Char.ofNat 32,Char.ofNat 108,Char.ofNat 111,Char.ofNat 111,Char.ofNat 112,Char.ofNat 46,Char.ofNat 101,Char.ofNat 120,Char.ofNat 97,Char.ofNat 109,Char.ofNat 112,Char.ofNat 108,Char.ofNat 101,Char.ofNat 47,Char.ofNat 103,Char.ofNat 48,Char.ofNat 48,Char.ofNat 50,Char.ofNat 56,Char.ofNat 53,Char.ofNat 47,Char.ofNat 108,Char.ofNat 97,Char.ofNat 119,Char.ofNat 115,Char.ofNat 46,Char.ofNat 70,Char.ofNat 110,Char.ofNat 72,Char.ofNat 101,Char.ofNat 108,Char.ofNat 100,Char.ofNat 70,Char.ofNat 97,Char.ofNat 115,Char.ofNat 116,Char.ofNat 32,Char.ofNat 108,Char.ofNat 111,Char.ofNat 111,Char.ofNat 112,Char.ofNat 46,Char.ofNat 101,Char.ofNat 120,Char.ofNat 97,Char.ofNat 109,Char.ofNat 112,Char.ofNat 108,Char.ofNat 101,Char.ofNat 47,Char.ofNat 103,Char.ofNat 48,Char.ofNat 48,Char.ofNat 50,Char.ofNat 56,Char.ofNat 53,Char.ofNat 47,Char.ofNat 108]++[Char.ofNat 97,Char.ofNat 119,Char.ofNat 115,Char.ofNat 46,Char.ofNat 70,Char.ofNat 110,Char.ofNat 81,Char.ofNat 117,Char.ofNat 111,Char.ofNat 116,Char.ofNat 97]
def aqF:List Char:=[Char.ofNat 48,Char.ofNat 54,Char.ofNat 53,Char.ofNat 98,Char.ofNat 52,Char.ofNat 49,Char.ofNat 50,Char.ofNat 54,Char.ofNat 55,Char.ofNat 99,Char.ofNat 52,Char.ofNat 99,Char.ofNat 53,Char.ofNat 101,Char.ofNat 57,Char.ofNat 48,Char.ofNat 57,Char.ofNat 48,Char.ofNat 100,Char.ofNat 97,Char.ofNat 51,Char.ofNat 56,Char.ofNat 57,Char.ofNat 52,Char.ofNat 54,Char.ofNat 52,Char.ofNat 101,Char.ofNat 53,Char.ofNat 56,Char.ofNat 98,Char.ofNat 56,Char.ofNat 56,Char.ofNat 50,Char.ofNat 55,Char.ofNat 57,Char.ofNat 99,Char.ofNat 97,Char.ofNat 101,Char.ofNat 51,Char.ofNat 52,Char.ofNat 55,Char.ofNat 52,Char.ofNat 54,Char.ofNat 48,Char.ofNat 53,Char.ofNat 53,Char.ofNat 99,Char.ofNat 56,Char.ofNat 54,Char.ofNat 52,Char.ofNat 54,Char.ofNat 98,Char.ofNat 100,Char.ofNat 52,Char.ofNat 49,Char.ofNat 102,Char.ofNat 49,Char.ofNat 99,Char.ofNat 56,Char.ofNat 49,Char.ofNat 52,Char.ofNat 97,Char.ofNat 99,Char.ofNat 57]
theorem anP:Tryz.prog.initOrder=String.ofList ([Char.ofNat 104,Char.ofNat 97,Char.ofNat 114,Char.ofNat 110,Char.ofNat 101,Char.ofNat 115,Char.ofNat 115]++(Char.ofNat 32::aqF)++[Char.ofNat 32,Char.ofNat 99,Char.ofNat 117,Char.ofNat 116,Char.ofNat 32]++anO):=by kernel_rfl
theorem aeN:∃ r,behindMainWord (wordsSigns Tryz.prog.initOrder.toList)=[Char.ofNat 99,Char.ofNat 117,Char.ofNat 116]::r:=by
 rw[anP,String.toList_ofList];exact⟨wordsSigns anO,by kernel_rfl⟩
theorem apn {P:Program} {l:List Char} (h:P.initOrder=String.ofList l):P.mainIs=(match wordsSigns l with
 | h::s::_=>if !isSumSigns s then none else if h == "harness".toList then some (true,s) else if h == "ownmain".toList then some (false,s) else none
 | _=>none):=by
 unfold Program.mainIs;rw[h,String.toList_ofList];rfl
theorem aqn:Tryz.prog.mainIs=some (((true, "065b41267c4c5e9090da389464e58b88279cae34746055c8646bd41f1c814ac9"):Bool × String).1,((true, "065b41267c4c5e9090da389464e58b88279cae34746055c8646bd41f1c814ac9"):Bool × String).2.toList):=(apn anP).trans (by kernel_rfl)
theorem apo:false=Tryz.prog.looks []:=by kernel_rfl
theorem aqo:(laidOutB Tryz.prog)=true:=by kernel_rfl
theorem aqp:(mapsRowed Tryz.prog)=true:=by kernel_rfl
theorem apq:((Tryz.prog.stops == []))=true:=by kernel_rfl
theorem apr:((Tryz.prog.stopKnobs == []))=true:=by kernel_rfl
theorem aps:(Tryz.prog.stopsHeard)=true:=by kernel_rfl
theorem apt:(Tryz.prog.mayEnter)=true:=by
 obtain⟨r,hr⟩:=aeN;exact al9 hr (by kernel_rfl) (by kernel_rfl) (by kernel_rfl)
theorem apu:(false == Tryz.prog.liftsFinal)=true:=by
 obtain⟨r,hr⟩:=aeN;rw[ama hr];rfl
theorem aqq:(Tryz.prog.make == some .cut)=true:=by
 obtain⟨r,hr⟩:=aeN;rw[aoE hr];rfl
end
end Go.Proofs.YtnfeefcnblondaaGreatDoor.Awp
