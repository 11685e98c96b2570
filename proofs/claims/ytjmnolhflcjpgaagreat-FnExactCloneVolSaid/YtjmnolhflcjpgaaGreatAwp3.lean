/- A general law about the translated programs is proved here: what a function's code does to values that are trees of cells (part 3 of 3). Condition: none. -/
import Derived.Test.YtjmnolhflcjpgaaGreatAwp2
import Derived.SizedLaws
import Derived.JoinedOf
import Derived.RowKit
import Derived.ChangeSame
namespace Go.Proofs.YtjmnolhflcjpgaaGreat.Awp
set_option linter.unusedVariables false
set_option linter.unusedSimpArgs false
variable {P:Program} {w w':World} {B:Base} {hid hv:Nat→Value} {a:Act} {E:Env} {Fs Xs:Nat→Foot} {FP XP:Foot} {o:Oper}
def exOf:Ex→Exit
 | .n=>.normal
 | .r=>.ret
 | .e id=>.exit id
def Post (B:Base) (hv:Nat→Value) (Qe:Ex→Env→Prop) (Q:Exit→Act→World→Prop):Prop:=∀ x E' a' w',Qe x E'→Good B hv w' a' E'→Q (exOf x) a' w'
theorem awp_sound (hn:B.n≤1000) (hD:P.follows .mixedOrders=true) (ks:Nat):∀ (c:Code) (cmd:Cmd) (Qe:Ex→Env→Prop) (Q:Exit→Act→World→Prop) (E:Env) (a:Act) (w:World),
  cCode P B.n c=some cmd→Post B hv Qe Q→awp P ks cmd Qe E→Good B hv w a E→c.wp P Q a w:=by
 intro c
 induction c with
 | skip=>
  intro cmd Qe Q E a w hc hP h G
  simp only [cCode,Option.some.injEq] at hc; subst hc
  exact wp_skip (hP .n E a w h G)
 | region id ops dr=>
  intro cmd Qe Q E a w hc hP h G
  simp only [cCode] at hc
  split at hc
  ·cases hc
  rename_i hed
  obtain ⟨l,hl,rfl⟩:=map_some hc
  have hQ:∀ E' a' w',Qe .n E'→Good B hv w' a' E'→Q .normal a' w':=fun E' a' w' k G'=>hP .n _ a' w' k G'
  cases dr with
  | false=>
   obtain ⟨U,h⟩:=h
   refine wp_region ?_
   rw [List.range_eq_range']
   exact ops_sound hn hQ ops.size 0 l _ a w (by omega) (by simpa using hl) h (good_rg hn ks U (norm_sound ks G))
  | true=>
   obtain ⟨U,h⟩:=h
   exact drawn_sound hn hD hl (by simpa using hed) h (good_rg hn ks U (norm_sound ks G)) hQ
 | seq x y ihx ihy=>
  intro cmd Qe Q E a w hc hP h G
  simp only [cCode] at hc
  obtain ⟨cx,hx,hc⟩:=bind_some hc
  obtain ⟨cy,hy,rfl⟩:=map_some hc
  refine wp_seq (ihx cx _ _ E a w hx ?_ h G)
  intro e E' a' w' k G'
  cases e with
  | n=>exact ihy cy Qe Q E' a' w' hy hP k G'
  | r=>exact hP .r E' a' w' k G'
  | e id=>exact hP (.e id) E' a' w' k G'
 | cond x y z ihy ihz=>
  intro cmd Qe Q E a w hc hP h G
  simp only [cCode] at hc
  obtain ⟨ox,hx,hc⟩:=bind_some hc
  obtain ⟨cy,hy,hc⟩:=bind_some hc
  obtain ⟨cz,hz,rfl⟩:=map_some hc
  obtain ⟨t,ht,h1,h2⟩:=h
  refine wp_cond_split (val_bool G (cOpd_ok hx) ht) (fun e=>?_) (fun e=>?_)
  ·exact ihy cy Qe Q E a w hy hP (h1 e) G
  ·exact ihz cz Qe Q E a w hz hP (h2 e) G
 | block id c ih=>
  intro cmd Qe Q E a w hc hP h G
  simp only [cCode] at hc
  obtain ⟨cc,hcc,rfl⟩:=map_some hc
  refine wp_block (ih cc _ _ E a w hcc ?_ h G)
  intro x E' a' w' k G'
  by_cases e:x=.e id
  ·subst e
   simp only [if_true] at k
   simp only [exOf,Exit.inBlock,if_true]
   exact hP .n E' a' w' k G'
  ·simp only [e,if_false] at k
   cases x with
   | n=>exact hP .n E' a' w' k G'
   | r=>exact hP .r E' a' w' k G'
   | e id'=>
    have:id'≠id:=fun h=>e (by rw [h])
    simp only [exOf,Exit.inBlock,this,if_false]
    exact hP (.e id') E' a' w' k G'
 | loop c ih=>
  intro cmd Qe Q E a w hc hP h G
  simp only [cCode] at hc
  obtain ⟨cc,hcc,rfl⟩:=map_some hc
  obtain ⟨D,J,⟨n,hJ⟩,hround⟩:=h
  classical
  let p:Act→World→Nat→Prop:=fun a w n=>∃ E,J n E∧Good B hv w a E
  let μ:Act→World→Nat:=fun a w=>if h:∃ n,p a w n then Classical.choose (exists_least h) else 0
  have hμ:∀ a w m,p a w m→p a w (μ a w)∧μ a w≤m:=by
   intro a w m hm
   have h:∃ n,p a w n:=⟨m,hm⟩
   have hs:=Classical.choose_spec (exists_least h)
   have e:μ a w=Classical.choose (exists_least h):=by simp only [μ]; rw [dif_pos h]
   rw [e]
   exact ⟨hs.1,Nat.le_of_not_lt fun hlt=>hs.2 m hlt hm⟩
  refine wp_loop (fun a w=>∃ n,p a w n) μ ⟨n,_,hJ,head_sound ks D G⟩ ?_
  rintro a w ⟨m,hm⟩
  obtain ⟨⟨E0,hJ0,G0⟩,_⟩:=hμ a w m hm
  refine ih cc _ _ E0 a w hcc ?_ (hround _ E0 hJ0) G0
  intro x E' a' w' k G'
  cases x with
  | n=>
   obtain ⟨m',hlt,hJ'⟩:=k
   have:=hμ a' w' m' ⟨_,hJ',head_sound ks D G'⟩
   exact ⟨⟨m',_,hJ',head_sound ks D G'⟩,by omega⟩
  | r=>exact hP .r E' a' w' k G'
  | e id=>exact hP (.e id) E' a' w' k G'
 | exit id=>
  intro cmd Qe Q E a w hc hP h G
  simp only [cCode,Option.some.injEq] at hc; subst hc
  exact wp_exit (hP (.e id) E a w h G)
 | ret=>
  intro cmd Qe Q E a w hc hP h G
  simp only [cCode,Option.some.injEq] at hc; subst hc
  exact wp_ret (hP .r E a w h G)
 | _=>intro cmd Qe Q E a w hc; simp [cCode] at hc
end Go.Proofs.YtjmnolhflcjpgaaGreat.Awp
namespace Go.Proofs.YtjmnolhflcjpgaaGreat.Awp
set_option linter.unusedVariables false
set_option linter.unusedSimpArgs false
variable {P:Program} {w w':World} {B:Base} {hid hv:Nat→Value} {a:Act} {E:Env} {Fs Xs:Nat→Foot} {FP XP:Foot} {o:Oper}
theorem PR.place {v:Value} {vs:List Value} {x:AV} {xs:List AV} (P1:PR B hid w a E Fs Xs FP XP (v::vs) (x::xs)) {q:Nat} {hid':Nat→Value}
  (hv':vlOf a.tmps hid' q=v) (hne:∀ t,t≠q→vlOf a.tmps hid' t=vlOf a.tmps hid t) :
  ∃ Fs' Xs' FP' XP',PR B hid' w a (E.put q x) Fs' Xs' FP' XP' vs xs:=by
 have R:=P1.rel
 obtain ⟨A1,A2,Y1,Y2,q1,q2,eA,eY⟩:=RepA.uncons P1.rep
 have links:∀ r e p o,lkOf w (vlOf a.tmps hid) E r e p=some o→lkOf w (vlOf a.tmps hid') (E.put q x) r e p=some none∨lkOf w (vlOf a.tmps hid') (E.put q x) r e p=some o:=by
  intro r e p o h
  by_cases hr:r=q
  ·subst hr; exact .inl (put_links rfl h)
  ·exact .inr (by rw [lk_keep (w':=w) (a':=a) (hid':=hid') R (put_f_ne hr) (put_ep_ne hr) (hne r hr) (fun _ _=>rfl) (fun _ _=>rfl)]; exact h)
 refine ⟨fun t=>if t=q then A1 else Fs t,fun t=>if t=q then Y1 else Xs t,A2,Y2,?_,q2.same links (fun _ _=>rfl) (fun _ _=>rfl),?_,?_,?_,?_,?_,?_,?_⟩
 ·refine R.change (fun t=>t=q) R.size R.dfr ?_ ?_ ?_ ?_ ?_ ?_ ?_ (Grows.refl _) (fun _ _ _=>rfl) ?_ ?_
  ·intro t ht; exact ⟨put_f_ne ht,put_ep_ne ht,hne t ht,by simp [ht],by simp [ht],fun _ _=>rfl,fun _ _=>rfl⟩
  ·intro r hr e p o h; subst hr; exact .inl (put_links rfl h)
  ·intro l t ht; subst ht; rw [put_f_eq,hv']; simp only [if_true]
   exact q1.same l (fun _ _=>rfl) (fun _ _=>rfl)
  ·intro t ht b; simp only [ht,if_true]; have:=P1.one b; have:=eA b; omega
  ·intro t ht t' hne' b; subst ht; simp only [if_true,Ne.symm hne',if_false]; have:=P1.dis t' b; have:=eA b; omega
  ·intro t ht t' b; subst ht; simp only [if_true]
   by_cases e:t'=t
   ·simp only [e,if_true]; have:=P1.dx3 b; have:=eA b; have:=eY b; omega
   ·simp only [e,if_false]; have:=P1.dx1 t' b; have:=eA b; omega
  ·intro t ht t' b; subst ht; simp only [if_true]
   by_cases e:t'=t
   ·simp only [e,if_true]; have:=P1.dx3 b; have:=eA b; have:=eY b; omega
   ·simp only [e,if_false]; have:=P1.dx2 t' b; have:=eY b; omega
  ·intro t ht b hb; subst ht; simp only [if_true] at hb; exact P1.org b (by have:=eA b; omega)
  ·intro t ht b hb; subst ht; simp only [if_true] at hb; exact P1.orgx b (by have:=eY b; omega)
 ·intro b; have:=P1.one b; have:=eA b; omega
 ·intro t b
  by_cases e:t=q
  ·simp only [e,if_true]; have:=P1.one b; have:=eA b; omega
  ·simp only [e,if_false]; have:=P1.dis t b; have:=eA b; omega
 ·intro t b
  by_cases e:t=q
  ·simp only [e,if_true]; have:=P1.dx3 b; have:=eA b; have:=eY b; omega
  ·simp only [e,if_false]; have:=P1.dx1 t b; have:=eA b; omega
 ·intro t b
  by_cases e:t=q
  ·simp only [e,if_true]; have:=P1.dx3 b; have:=eA b; have:=eY b; omega
  ·simp only [e,if_false]; have:=P1.dx2 t b; have:=eY b; omega
 ·intro b; have:=P1.dx3 b; have:=eA b; have:=eY b; omega
 ·intro b hb; exact P1.org b (by have:=eA b; omega)
 ·intro b hb; exact P1.orgx b (by have:=eY b; omega)
end Go.Proofs.YtjmnolhflcjpgaaGreat.Awp
namespace Go.Proofs.YtjmnolhflcjpgaaGreat.Awp
set_option linter.unusedVariables false
set_option linter.unusedSimpArgs false
variable {P:Program} {w w':World} {B:Base} {hid hv:Nat→Value} {a:Act} {E:Env} {Fs Xs:Nat→Foot} {FP XP:Foot} {o:Oper}
def rt (k j:Nat):Nat:=1000+(32*(j+1)+k)
def primU:AV→AV
 | .bool b=>.bool b
 | .int k n=>.int k n
 | .str s=>.str s
 | _=>.undef
def cellA (k:Nat):Nat→List AV→List (Nat × AV)
 | _,[]=>[]
 | j,.own s es::cs=>(rt k j,.own s es)::cellA k (j+1) cs
 | j,_::cs=>cellA k (j+1) cs
def cellB (k:Nat):Nat→List AV→List AV
 | _,[]=>[]
 | j,.own _ _::cs=>.lnk (rt k j) 0 []::cellB k (j+1) cs
 | j,c::cs=>primU c::cellB k (j+1) cs
def initA:Nat→List Bool→List AV→List (Nat × AV)
 | _,_,[]=>[]
 | k,[],x::xs=>(k,x)::initA (k+1) [] xs
 | k,b::bs,x::xs=>if b then (match x with
   | .agg cs=>cellA k 0 cs++initA (k+1) bs xs
   | x=>(1000+k,x)::initA (k+1) bs xs)
  else (k,x)::initA (k+1) bs xs
def lnkTo (k:Nat):AV→AV
 | .box _=>.ref (1000+k) 0 [] ⟨0,0,0⟩
 | .agg cs=>.agg (cellB k 0 cs)
 | _=>.lnk (1000+k) 0 []
def initB:Nat→List Bool→List AV→List (Nat × AV)
 | _,_,[]=>[]
 | _,[],_::_=>[]
 | k,b::bs,x::xs=>if b then (k,lnkTo k x)::initB (k+1) bs xs else initB (k+1) bs xs
def hidV (vs:List Value) (t:Nat):Value:=
 if t-1000<32 then vs.getD (t-1000) undef else match vs[(t-1000)%32]? with
  | some (.agg us)=>us.getD ((t-1000)/32-1) undef
  | _=>undef
theorem hidV_arg {vs:List Value} {k:Nat} {v:Value} (hk:k<32) (h:vs[k]?=some v):hidV vs (1000+k)=v:=by
 unfold hidV
 rw [if_pos (by omega),Nat.add_sub_cancel_left,List.getD_eq_getElem?_getD,h]; rfl
theorem hidV_cell {vs:List Value} {k j:Nat} {us:List Value} {v:Value} (hk:k<32) (h:vs[k]?=some (.agg us.toArray)) (hj:us[j]?=some v):hidV vs (rt k j)=v:=by
 unfold hidV rt
 rw [if_neg (by omega),show (1000+(32*(j+1)+k)-1000)%32=k by omega,h,show (1000+(32*(j+1)+k)-1000)/32-1=j by omega]
 simp [Array.getD_eq_getD_getElem?,hj]
def noKey (l:List (Nat × AV)) (q:Nat):Prop:=∀ p ∈ l,p.1≠q
theorem getL_noKey {l:List (Nat × AV)} {q:Nat} (h:noKey l q):getL l q=.undef:=by
 induction l with
 | nil=>rfl
 | cons p l ih=>
  obtain ⟨k,x⟩:=p
  simp only [getL]
  rw [if_neg (h (k,x) (by simp))]
  exact ih fun p hp=>h p (by simp [hp])
theorem setL_noKey {l:List (Nat × AV)} {q:Nat} (h:noKey l q) (x:AV):setL l q x=l++[(q,x)]:=by
 induction l with
 | nil=>rfl
 | cons p l ih=>
  obtain ⟨k,y⟩:=p
  simp only [setL]
  rw [if_neg (h (k,y) (by simp)),ih fun p hp=>h p (by simp [hp])]
  rfl
theorem put_new {l:List (Nat × AV)} {q:Nat} (h:noKey l q) (x:AV):(mkE l []).put q x=mkE (l++[(q,x)]) []:=by
 rw [mkE_put,getL_noKey h,setL_noKey h]
 rfl
theorem cellA_place (k:Nat) (hk:k<32):∀ (cs:List AV) (j:Nat) (zs vs:List Value) (xs:List AV) (l:List (Nat × AV)) {Fs Xs:Nat→Foot} {FP XP:Foot},zs.length=cs.length →
  (∀ p ∈ l,∀ i,j≤i→p.1≠rt k i)→(∀ i v,zs[i]?=some v→vlOf a.tmps hid (rt k (j+i))=v) →
  PR B hid w a (mkE l []) Fs Xs FP XP (zs++vs) (cs++xs)→∃ Fs' Xs' FP' XP',PR B hid w a (mkE (l++cellA k j cs) []) Fs' Xs' FP' XP' vs xs:=by
 intro cs
 induction cs with
 | nil=>
  intro j zs vs xs l Fs Xs FP XP hl _ _ P1
  cases zs with
  | nil=>exact ⟨Fs,Xs,FP,XP,by simpa [cellA] using P1⟩
  | cons z zs=>simp at hl
 | cons c cs ih=>
  intro j zs vs xs l Fs Xs FP XP hl hno hv P1
  cases zs with
  | nil=>simp at hl
  | cons z zs=>
   have hl':zs.length=cs.length:=by simpa using hl
   have hv':∀ i v,zs[i]?=some v→vlOf a.tmps hid (rt k (j+1+i))=v:=fun i v h=>by
    have:=hv (i+1) v (by simpa using h)
    rw [show j+1+i=j+(i+1) by omega]; exact this
   have drop:∃ Fs' Xs' FP' XP',PR B hid w a (mkE (l++cellA k (j+1) cs) []) Fs' Xs' FP' XP' vs xs:=by
    obtain ⟨A1,A2,Y1,Y2,q1,q2,eA,eY⟩:=RepA.uncons P1.rep
    exact ih (j+1) zs vs xs l hl' (fun p hp i hi=>hno p hp i (by omega)) hv' (P1.shrink q2 (fun b=>by have:=eA b; omega) (fun b=>by have:=eY b; omega))
   cases c with
   | own s es=>
    obtain ⟨Fs1,Xs1,FP1,XP1,P2⟩:=PR.place P1 (q:=rt k j) (hid':=hid) (hv 0 z rfl) (fun _ _=>rfl)
    rw [put_new (fun p hp=>hno p hp j (Nat.le_refl _))] at P2
    obtain ⟨Fs2,Xs2,FP2,XP2,P3⟩:=ih (j+1) zs vs xs (l++[(rt k j,.own s es)]) hl' (fun p hp i hi=>by
     rcases List.mem_append.1 hp with hp | hp
     ·exact hno p hp i (by omega)
     ·simp at hp; subst hp; simp only [rt]; omega) hv' P2
    exact ⟨Fs2,Xs2,FP2,XP2,by simpa [cellA] using P3⟩
   | _=>exact drop
theorem initA_place:∀ (xs:List AV) (bs:List Bool) (k:Nat) (vs:List Value) (l:List (Nat × AV)) {Fs Xs:Nat→Foot} {FP XP:Foot},k+xs.length≤32→k+xs.length≤B.n→B.n≤1000 →
  (∀ p ∈ l,p.1<k∨(1000≤p.1∧(p.1-1000)%32<k))→(∀ j v,vs[j]?=some v→vlOf a.tmps hid (k+j)=v∧vlOf a.tmps hid (1000+(k+j))=v) →
  (∀ j us i v,vs[j]?=some (.agg (us:List Value).toArray)→us[i]?=some v→vlOf a.tmps hid (rt (k+j) i)=v) →
  PR B hid w a (mkE l []) Fs Xs FP XP vs xs→∃ Fs' Xs' FP' XP',PR B hid w a (mkE (l++initA k bs xs) []) Fs' Xs' FP' XP' [] []:=by
 intro xs
 induction xs with
 | nil=>
  intro bs k vs l Fs Xs FP XP _ _ _ _ _ _ P1
  have:=P1.rep.length
  cases vs with
  | nil=>exact ⟨Fs,Xs,FP,XP,by cases bs <;> simpa [initA] using P1⟩
  | cons v vs=>simp at this
 | cons x xs ih=>
  intro bs k vs l Fs Xs FP XP h1 h2 hn hk hv hc P1
  simp only [List.length_cons] at h1 h2
  have hlen:=P1.rep.length
  cases vs with
  | nil=>simp at hlen
  | cons v vs=>
   have hv0:=hv 0 v rfl
   have hvt:∀ j v',vs[j]?=some v'→vlOf a.tmps hid (k+1+j)=v'∧vlOf a.tmps hid (1000+(k+1+j))=v':=fun j v' hj=>by
    have:=hv (j+1) v' (by simpa using hj)
    rw [show k+1+j=k+(j+1) by omega]; exact this
   have hct:∀ j us i v',vs[j]?=some (.agg (us:List Value).toArray)→us[i]?=some v'→vlOf a.tmps hid (rt (k+1+j) i)=v':=fun j us i v' hj hi=>by
    have:=hc (j+1) us i v' (by simpa using hj) hi
    rw [show k+1+j=k+(j+1) by omega]; exact this
   have step:∀ (q:Nat) (bs':List Bool),(q=k∨q=1000+k)→vlOf a.tmps hid q=v→∃ Fs' Xs' FP' XP',PR B hid w a (mkE (l++(q,x)::initA (k+1) bs' xs) []) Fs' Xs' FP' XP' [] []:=by
    intro q bs' hq hqv
    have hno:noKey l q:=fun p hp=>by have:=hk p hp; omega
    obtain ⟨Fs1,Xs1,FP1,XP1,P2⟩:=PR.place P1 (q:=q) (hid':=hid) hqv (fun _ _=>rfl)
    rw [put_new hno] at P2
    obtain ⟨Fs2,Xs2,FP2,XP2,P3⟩:=ih bs' (k+1) vs (l++[(q,x)]) (by omega) (by omega) hn (by
     intro p hp
     rcases List.mem_append.1 hp with hp | hp
     ·have:=hk p hp; omega
     ·simp at hp; subst hp; (try dsimp only); omega) hvt hct P2
    exact ⟨Fs2,Xs2,FP2,XP2,by simpa using P3⟩
   cases bs with
   | nil=>exact step k [] (.inl rfl) hv0.1
   | cons b bs=>
    cases b with
    | false=>simp only [initA]; exact step k bs (.inl rfl) hv0.1
    | true=>
     cases x with
     | agg cs=>
      simp only [initA,if_true]
      obtain ⟨zs,rfl,hzl,hrep⟩:=RepA.open_agg (us:=[]) (ys:=[]) rfl P1.rep
      obtain ⟨Fs1,Xs1,FP1,XP1,P2⟩:=cellA_place (B:=B) k (by omega) cs 0 zs vs xs l hzl (fun p hp i _=>by have:=hk p hp; simp only [rt]; omega)
       (fun i v hi=>by have:=hc 0 zs i v rfl hi; rw [Nat.zero_add]; exact this) (P1.rerep hrep)
      obtain ⟨Fs2,Xs2,FP2,XP2,P3⟩:=ih bs (k+1) vs (l++cellA k 0 cs) (by omega) (by omega) hn (by
       intro p hp
       rcases List.mem_append.1 hp with hp | hp
       ·have:=hk p hp; omega
       ·have key:∀ (cs:List AV) (j:Nat),∀ p ∈ cellA k j cs,∃ i,p.1=rt k i:=by
         intro cs
         induction cs with
         | nil=>intro j p hp; simp [cellA] at hp
         | cons c cs ih=>
          intro j p hp
          cases c with
          | own s es=>
           simp only [cellA,List.mem_cons] at hp
           rcases hp with rfl | hp
           ·exact ⟨j,rfl⟩
           ·exact ih _ p hp
          | _=>simp only [cellA] at hp; exact ih _ p hp
        obtain ⟨i,hi⟩:=key cs 0 p hp
        rw [hi]; simp only [rt]; omega) hvt hct P2
      exact ⟨Fs2,Xs2,FP2,XP2,by simpa using P3⟩
     | _=>simp only [initA,if_true]; exact step (1000+k) bs (.inr rfl) hv0.2
end Go.Proofs.YtjmnolhflcjpgaaGreat.Awp
namespace Go.Proofs.YtjmnolhflcjpgaaGreat.Awp
set_option linter.unusedVariables false
set_option linter.unusedSimpArgs false
variable {P:Program} {w w':World} {B:Base} {hid hv:Nat→Value} {a:Act} {E:Env} {Fs Xs:Nat→Foot} {FP XP:Foot} {o:Oper}
def rootsOk:List Bool→List AV→Bool
 | true::bs,x::xs=>(match x with
   | .agg cs=>decide (cs.length≤30)
   | x=>x.isRoot) && rootsOk bs xs
 | false::bs,_::xs=>rootsOk bs xs
 | _,_=>true
theorem getL_app {l m:List (Nat × AV)} {q:Nat} (h:noKey m q):getL (l++m) q=getL l q:=by
 induction l with
 | nil=>rw [List.nil_append,getL_noKey h]; rfl
 | cons p l ih=>obtain ⟨k,x⟩:=p; simp only [List.cons_append,getL,ih]
theorem RepA.prims {lk lk':Lk} {F X:Foot} {us:List Value} {cs:List AV} (h:RepA w lk F X us cs):RepA w' lk' (fun _=>0) (fun _=>0) us (cs.map primU):=by
 induction cs generalizing us F X with
 | nil=>
  have:=h.length
  cases us with
  | nil=>exact RepA.znil
  | cons u us=>simp at this
 | cons c cs ih=>
  have:=h.length
  cases us with
  | nil=>simp at this
  | cons u us=>
   obtain ⟨A1,A2,Y1,Y2,q1,q2,eA,eY⟩:=RepA.uncons h
   have r:=ih q2
   cases c with
   | bool b=>cases q1 with | bool _ _ _ _ _ _=>exact .bool _ _ _ _ _ r
   | int k n=>cases q1 with | int _ _ _ _ _ _ _=>exact .int _ _ _ _ _ _ r
   | str s=>cases q1 with | str _ _ _ _ _ _=>exact .str _ _ _ _ _ r
   | _=>exact .undef _ _ _ _ _ r
theorem cellB_rep (R:Rel B hid w a E Fs Xs) (k:Nat):∀ (cs:List AV) (j:Nat) (zs:List Value),RepA w lk0 (fun _=>0) (fun _=>0) zs (cs.map primU) →
  (∀ i s es,cs[i]?=some (.own s es)→E.f (rt k (j+i))=.own s es∧E.ep (rt k (j+i))=(0,0))→(∀ i v,zs[i]?=some v→vlOf a.tmps hid (rt k (j+i))=v) →
  RepA w (lkOf w (vlOf a.tmps hid) E) (fun _=>0) (fun _=>0) zs (cellB k j cs):=by
 intro cs
 induction cs with
 | nil=>
  intro j zs h _ _
  have:=h.length
  cases zs with
  | nil=>exact RepA.znil
  | cons z zs=>simp at this
 | cons c cs ih=>
  intro j zs h ho hv
  have:=h.length
  cases zs with
  | nil=>simp at this
  | cons z zs=>
   obtain ⟨A1,A2,Y1,Y2,q1,q2,eA,eY⟩:=RepA.uncons h
   have r:=ih (j+1) zs (q2.foot (fun b=>by have:=eA b; omega) (fun b=>by have:=eY b; omega)) (fun i s es hi=>by
    have:=ho (i+1) s es (by simpa using hi)
    rw [show j+1+i=j+(i+1) by omega]; exact this) (fun i v hi=>by
    have:=hv (i+1) v (by simpa using hi)
    rw [show j+1+i=j+(i+1) by omega]; exact this)
   have q1':=q1.lk0 (lkOf w (vlOf a.tmps hid) E)
   have cons:∀ x,RepA w (lkOf w (vlOf a.tmps hid) E) A1 Y1 [z] [x]→RepA w (lkOf w (vlOf a.tmps hid) E) (fun _=>0) (fun _=>0) (z::zs) (x::cellB k (j+1) cs):=fun x hx=>
    (RepA.cons hx r (fun _=>rfl) (fun _=>rfl)).foot (fun b=>by have:=eA b; first | omega | (dsimp only; omega) | (dsimp only at *; omega)) (fun b=>by have:=eY b; first | omega | (dsimp only; omega) | (dsimp only at *; omega))
   cases c with
   | own s es=>
    obtain ⟨g1,g2⟩:=ho 0 s es rfl
    have hz:=hv 0 z rfl
    have hlk:lkOf w (vlOf a.tmps hid) E (rt k j) 0 []=some (some z):=by
     unfold lkOf
     rw [Nat.add_zero] at g1 g2 hz
     rw [g2,if_neg (by simp [curE]),if_pos ⟨rfl,by rw [g1]; rfl,by rw [aget_nil]; rfl⟩,hz]
     rfl
    exact .lnk _ _ _ _ _ _ _ _ _ hlk (fun u hu=>by cases hu; rfl) r
   | _=>exact cons _ q1'
theorem lnkTo_rep (R:Rel B hid w a E Fs Xs) {k:Nat} {x:AV} (hroot:x.isRoot=true→E.f (1000+k)=x∧E.ep (1000+k)=(0,0)∧vlOf a.tmps hid (1000+k)=vlOf a.tmps hid k)
  (hagg:∀ cs,x=.agg cs→∃ zs:List Value,vlOf a.tmps hid k=.agg zs.toArray∧RepA w lk0 (fun _=>0) (fun _=>0) zs (cs.map primU) ∧
   (∀ i s es,cs[i]?=some (.own s es)→E.f (rt k i)=.own s es∧E.ep (rt k i)=(0,0))∧∀ i v,zs[i]?=some v→vlOf a.tmps hid (rt k i)=v)
  (hr:x.isRoot=true∨∃ cs,x=.agg cs) :
  RepA w (lkOf w (vlOf a.tmps hid) E) (fun _=>0) (fun _=>0) [vlOf a.tmps hid k] [lnkTo k x]:=by
 have hlk:x.isRoot=true→lkOf w (vlOf a.tmps hid) E (1000+k) 0 []=some (some (vlOf a.tmps hid k)):=by
  intro h
  obtain ⟨h1,h2,h3⟩:=hroot h
  unfold lkOf
  rw [h2,if_neg (by simp [curE]),if_pos ⟨rfl,by rw [h1]; exact h,by rw [aget_nil]; rfl⟩,← h3]
  rfl
 cases x with
 | own s es=>exact .lnk _ _ _ _ _ _ _ _ _ (hlk rfl) (fun u hu=>by cases hu; rfl) RepA.znil
 | box cs=>
  refine .ref _ _ _ _ _ _ _ _ _ _ (hlk rfl) (fun u hu=>?_) RepA.znil
  cases hu
  obtain ⟨h1,h2,h3⟩:=hroot rfl
  have hrep:=R.rep (1000+k)
  rw [h1,h3] at hrep
  generalize vlOf a.tmps hid k=v at hrep
  cases hrep with
  | box _ F1 F2 _ X1 X2 b C ty fr _ _ _ hb hfr h1 h2 hF hX=>exact ⟨⟨b,0,none⟩,rfl,by simp [add_zero]⟩
 | agg cs=>
  obtain ⟨zs,hz,h1,h2,h3⟩:=hagg cs rfl
  rw [hz]
  exact .agg _ (fun _=>0) (fun _=>0) _ (fun _=>0) (fun _=>0) zs _ [] [] (cellB_rep R k cs 0 zs h1 (fun i s es hi=>by rw [Nat.zero_add]; exact h2 i s es hi) (fun i v hi=>by rw [Nat.zero_add]; exact h3 i v hi)) RepA.znil (fun _=>rfl) (fun _=>rfl)
 | _=>rcases hr with h | ⟨cs,h⟩ <;> cases h
def LentAt (a:Act) (w:World) (hid:Nat→Value) (l:List (Nat × AV)) (k:Nat) (x:AV):Prop:=
 (x.isRoot=true→getL l (1000+k)=x∧vlOf a.tmps hid (1000+k)=vlOf a.tmps hid k) ∧
 (∀ cs,x=.agg cs→∃ zs:List Value,vlOf a.tmps hid k=.agg zs.toArray∧RepA w lk0 (fun _=>0) (fun _=>0) zs (cs.map primU) ∧
   (∀ i s es,cs[i]?=some (.own s es)→getL l (rt k i)=.own s es)∧∀ i v,zs[i]?=some v→vlOf a.tmps hid (rt k i)=v)∧noKey l k
theorem initB_place:∀ (xs:List AV) (bs:List Bool) (k:Nat) (l:List (Nat × AV)) {Fs Xs:Nat→Foot},k+xs.length≤32→k+xs.length≤B.n→B.n≤1000 →
  (∀ j x,xs[j]?=some x→bs[j]?=some true→LentAt a w hid l (k+j) x)→rootsOk bs xs=true →
  Rel B hid w a (mkE l []) Fs Xs→∃ Fs' Xs',Rel B hid w a (mkE (l++initB k bs xs) []) Fs' Xs':=by
 intro xs
 induction xs with
 | nil=>intro bs k l Fs Xs _ _ _ _ _ R; exact ⟨Fs,Xs,by cases bs <;> simpa [initB] using R⟩
 | cons x xs ih=>
  intro bs k l Fs Xs h1 h2 hn hl hr R
  simp only [List.length_cons] at h1 h2
  cases bs with
  | nil=>exact ⟨Fs,Xs,by simpa [initB] using R⟩
  | cons b bs=>
   cases b with
   | false=>
    simp only [initB]
    exact ih bs (k+1) l (by omega) (by omega) hn (fun j y hj hb=>by
     have:=hl (j+1) y (by simpa using hj) (by simpa using hb)
     rw [show k+1+j=k+(j+1) by omega]; exact this) (by simpa [rootsOk] using hr) R
   | true=>
    simp only [rootsOk,Bool.and_eq_true] at hr
    obtain ⟨g1,g2,g3⟩:=hl 0 x rfl rfl
    rw [Nat.add_zero] at g1 g2 g3
    have hrx:x.isRoot=true∨∃ cs,x=.agg cs:=by
     cases x with
     | agg cs=>exact .inr ⟨cs,rfl⟩
     | _=>exact .inl hr.1
    have hrep:=lnkTo_rep R (k:=k) (x:=x) (fun h=>⟨by rw [mkE_f]; exact (g1 h).1,rfl,(g1 h).2⟩) (fun cs hcs=>by
     obtain ⟨zs,z1,z2,z3,z4⟩:=g2 cs hcs
     exact ⟨zs,z1,z2,fun i s es hi=>⟨by rw [mkE_f]; exact z3 i s es hi,rfl⟩,z4⟩) hrx
    obtain ⟨XP',P1⟩:=PR.ofRel R hrep (fun _=>rfl) (fun b hb=>absurd rfl hb)
    obtain ⟨Fs1,Xs1,FP1,XP1,P2⟩:=PR.place P1 (q:=k) (hid':=hid) rfl (fun _ _=>rfl)
    rw [put_new g3] at P2
    have far:∀ q,1000≤q→noKey [(k,lnkTo k x)] q:=by
     intro q hq p hp; simp at hp; subst hp; (try dsimp only); omega
    obtain ⟨Fs2,Xs2,R3⟩:=ih bs (k+1) (l++[(k,lnkTo k x)]) (by omega) (by omega) hn (fun j y hj hb=>by
     obtain ⟨k1,k2,k3⟩:=hl (j+1) y (by simpa using hj) (by simpa using hb)
     rw [show k+1+j=k+(j+1) by omega]
     refine ⟨fun h=>?_,fun cs hcs=>?_,?_⟩
     ·rw [getL_app (far _ (by omega))]; exact k1 h
     ·obtain ⟨zs,z1,z2,z3,z4⟩:=k2 cs hcs
      exact ⟨zs,z1,z2,fun i s es hi=>by rw [getL_app (far _ (by simp only [rt]; omega))]; exact z3 i s es hi,z4⟩
     ·intro p hp
      rcases List.mem_append.1 hp with hp | hp
      ·exact k3 p hp
      ·simp at hp; subst hp; (try dsimp only); omega) hr.2 P2.rel
    exact ⟨Fs2,Xs2,by simpa [initB] using R3⟩
end Go.Proofs.YtjmnolhflcjpgaaGreat.Awp
namespace Go.Proofs.YtjmnolhflcjpgaaGreat.Awp
set_option linter.unusedVariables false
set_option linter.unusedSimpArgs false
variable {P:Program} {w w':World} {B:Base} {hid hv:Nat→Value} {a:Act} {E:Env} {Fs Xs:Nat→Foot} {FP XP:Foot} {o:Oper}
def takeB (E:Env):AV→Option (AV × Env)
 | .ref r e p st=>match p,E.f r with
  | [],.box cs=>if st.i=0∧st.s=0∧st.j=0∧e=(E.ep r).1 then some (.box cs,E.put r .undef) else none
  | _,_=>none
 | _=>none
inductive RV where
 | t (n:Nat)
 | c (n sz:Nat) (ag:Bool)
 deriving DecidableEq
def retO (E:Env):RV→Option (AV × Env)
 | .t n=>match takeB E (E.f n) with
  | some g=>some g
  | none=>gathO E (.t n)
 | .c n sz ag=>(takeB E (E.f n)).bind fun g=>match g.1 with
  | .box cs=>if cs.length=sz then (oneOf cs ag).map fun x=>(x,g.2) else none
  | _=>none
def retG (E:Env):List RV→Option (List AV × Env)
 | []=>some ([],E)
 | t::l=>(retO E t).bind fun g=>(retG g.2 l).map fun y=>(g.1::y.1,y.2)
def resT (P:Program) (nt:Nat):List ResultVar→Option (List RV)
 | []=>some []
 | .tmp t::l=>if t<nt then (resT P nt l).map (.t t::·) else none
 | .cell t ty::l=>if t<nt then (szOf P ty).bind fun s=>(agOf P ty).bind fun ag=>(resT P nt l).map (.c t s ag::·) else none
def resF (tmps:Array Value):ResultVar→Sem Value
 | .tmp t=>pure (tmps.getD t undef)
 | .cell a t=>do loadVar t (← asAddr (tmps.getD a undef))
def retV:List AV→AV
 | [x]=>x
 | l=>.tup l
def cellO (E:Env) (k:Nat):Nat→List AV→List AV
 | _,[]=>[]
 | j,.own _ _::cs=>E.f (rt k j)::cellO E k (j+1) cs
 | j,c::cs=>primU c::cellO E k (j+1) cs
def outsE (E:Env):Nat→List Bool→List AV→List AV
 | _,_,[]=>[]
 | k,[],_::xs=>.undef::outsE E (k+1) [] xs
 | k,b::bs,x::xs=>(if b then (match x with
   | .agg cs=>.agg (cellO E k 0 cs)
   | _=>E.f (1000+k)) else .undef)::outsE E (k+1) bs xs
def doneE (rs:List RV) (bs:List Bool) (args:List AV) (ret:AV) (outs:List AV) (E:Env):Prop:=
 onO (retG E rs) fun q=>retV q.1=ret∧outsE q.2 0 bs args=outs∧noLkL (ret::outs)=true
theorem takeB_sound {t:Nat} {E E':Env} {x:AV} {Fs Xs:Nat→Foot} {FP XP:Foot} {vs:List Value} {xs:List AV} (ht:t<B.n) (P1:PR B hid w a E Fs Xs FP XP vs xs) (h:takeB E (E.f t)=some (x,E')) :
  ∃ Fs' Xs' FP' XP',PR B hid w a E' Fs' Xs' FP' XP' (vs++[a.tmps.getD t undef]) (xs++[x]):=by
 have R:=P1.rel
 have hrep:=R.rep t
 unfold takeB at h
 split at h
 case h_2=>cases h
 rename_i r e p st hq
 split at h
 case h_2=>cases h
 rename_i cs hbx
 obtain ⟨⟨h1,h2,h3,h4⟩,h⟩:=ite_some h
 cases h
 rw [hq] at hrep
 have hlk:lkOf w (vlOf a.tmps hid) E r e []=some (some (vlOf a.tmps hid r)):=by
  unfold lkOf; rw [if_neg (by simp [curE]; omega),if_pos ⟨by simp [curE,h4],by rw [hbx]; rfl,by rw [hbx]; rfl⟩]; rfl
 have hb:∃ b,vlOf a.tmps hid r=.pointer (some ⟨b,0,none⟩):=by
  have hrep:=R.rep r
  rw [hbx] at hrep
  generalize vlOf a.tmps hid r=v at hrep
  cases hrep with
  | box _ F1 F2 _ X1 X2 b C ty fr _ _ _ hb hfr h1 h2 hF hX=>exact ⟨b,rfl⟩
 obtain ⟨b,hb⟩:=hb
 have hv:vlOf a.tmps hid t=vlOf a.tmps hid r:=by
  generalize vlOf a.tmps hid t=v at hrep ⊢
  cases hrep with
  | ref _ _ _ _ _ _ o _ _ _ ho hv _=>
   rw [hlk] at ho
   cases ho
   obtain ⟨ad,g1,g2⟩:=hv _ rfl
   rw [g2,hb]
   rw [hb] at g1
   simp only [hdr,Option.some.injEq] at g1
   rw [← g1,h1,h3]
   simp [Addr.add]
 obtain ⟨Fs',Xs',FP',XP',P2⟩:=P1.move r
 refine ⟨Fs',Xs',FP',XP',?_⟩
 rw [hbx,← hv] at P2
 have:vlOf a.tmps hid t=a.tmps.getD t undef:=by unfold vlOf; rw [if_pos (by rw [R.size]; exact ht)]
 rw [this] at P2
 exact P2
theorem retO_sound {t:Nat} {E:Env} {g:AV × Env} {Fs Xs:Nat→Foot} {FP XP:Foot} {vs:List Value} {xs:List AV} (ht:t<B.n) (P1:PR B hid w a E Fs Xs FP XP vs xs) (h:retO E (.t t)=some g) :
  ∃ Fs' Xs' FP' XP',PR B hid w a g.2 Fs' Xs' FP' XP' (vs++[a.tmps.getD t undef]) (xs++[g.1]):=by
 simp only [retO] at h
 split at h
 ·rename_i q hq
  cases h
  exact takeB_sound ht P1 hq
 ·obtain ⟨Fs1,Xs1,FP1,XP1,P2⟩:=gathO_sound (x:=.tmp t) (x':=g.1) (E':=g.2) (.tmp t ht) P1 h
  exact ⟨Fs1,Xs1,FP1,XP1,P2⟩
theorem retC_sound {t s:Nat} {ag:Bool} {ty:TypeId} {E:Env} {g:AV × Env} {Fs Xs:Nat→Foot} {FP XP:Foot} {vs:List Value} {xs:List AV} (ht:t<B.n) (hs:szOf P ty=some s) (hag:agOf P ty=some ag)
  (P1:PR B hid w a E Fs Xs FP XP vs xs) (h:retO E (.c t s ag)=some g) :
  ∃ v Fs' Xs' FP' XP',(resF a.tmps (.cell t ty)).run P w=.ok v w∧PR B hid w a g.2 Fs' Xs' FP' XP' (vs++[v]) (xs++[g.1]):=by
 simp only [retO] at h
 obtain ⟨q,hq,h⟩:=bind_some h
 obtain ⟨q1,q2⟩:=q
 simp only at h
 split at h
 case h_2=>cases h
 rename_i cs0 cs
 obtain ⟨hl,h⟩:=ite_some h
 obtain ⟨x,hx,rfl⟩:=map_some h
 obtain ⟨Fs',Xs',FP',XP',P2⟩:=takeB_sound ht P1 hq
 obtain ⟨A1,A2,Y1,Y2,r1,r2,eA,eY⟩:=RepA.split vs xs (by have:=P2.rep.length; simpa using this) P2.rep
 generalize hvt:a.tmps.getD t undef=vt at r2
 cases r2 with
 | box _ F1 F2 _ X1 X2 b C ty' fr _ _ _ hb hfr h1 h2 hF hX=>
  obtain ⟨v,hv1,hv2⟩:=loadVar_run (P:=P) (w:=w) (ad:=⟨b,0,none⟩) (us:=C.toList) hs hag (by rw [h1.length]; exact hl) (by
   intro k v hk
   have hk':C[k]?=some v:=by simpa using hk
   unfold Addr.add
   by_cases e:k=0
   ·subst e; simp [World.cell?,hb,hk']
   ·simp [e,World.cell?,hb,hk']) h1 hx
  refine ⟨v,Fs',Xs',fun c=>A1 c+F1 c,fun c=>Y1 c+X1 c,?_,?_⟩
  ·simp only [resF,Sem.run_bind,hvt]
   simp [asAddr,hv1]
  ·exact P2.shrink (RepA.append r1 hv2 (fun _=>rfl) (fun _=>rfl)) (fun c=>by have:=eA c; have:=hF c; omega) (fun c=>by have:=eY c; have:=hX c; omega)
theorem retG_sound:∀ {res:List ResultVar} {rs:List RV} {E E':Env} {l:List AV} {Fs Xs:Nat→Foot} {FP XP:Foot} {vs:List Value} {xs:List AV},resT P B.n res=some rs→PR B hid w a E Fs Xs FP XP vs xs→retG E rs=some (l,E') →
  ∃ us Fs' Xs' FP' XP',(res.mapM (resF a.tmps)).run P w=.ok us w∧us.length=l.length∧PR B hid w a E' Fs' Xs' FP' XP' (vs++us) (xs++l):=by
 intro res
 induction res with
 | nil=>
  intro rs E E' l Fs Xs FP XP vs xs hr P1 h
  simp only [resT,Option.some.injEq] at hr
  subst hr
  simp only [retG,Option.some.injEq,Prod.mk.injEq] at h
  obtain ⟨rfl,rfl⟩:=h
  exact ⟨[],_,_,_,_,by simp,rfl,by simpa using P1⟩
 | cons r res ih=>
  intro rs E E' l Fs Xs FP XP vs xs hr P1 h
  cases r with
  | tmp t=>
   simp only [resT] at hr
   obtain ⟨ht,hr⟩:=ite_some hr
   obtain ⟨rs',hr',rfl⟩:=map_some hr
   simp only [retG] at h
   obtain ⟨g,hg,h⟩:=bind_some h
   obtain ⟨y,hy,h⟩:=map_some h
   simp only [Prod.mk.injEq] at h
   obtain ⟨rfl,rfl⟩:=h
   obtain ⟨Fs1,Xs1,FP1,XP1,P2⟩:=retO_sound ht P1 hg
   obtain ⟨us,Fs2,Xs2,FP2,XP2,hrun,hlen,P3⟩:=ih (l:=y.1) (E':=y.2) hr' P2 hy
   exact ⟨a.tmps.getD t undef::us,Fs2,Xs2,FP2,XP2,by simp only [List.mapM_cons,Sem.run_bind,resF,Sem.run_pure,Result.andThen_ok,hrun],by simp [hlen],by simpa using P3⟩
  | cell t ty=>
   simp only [resT] at hr
   obtain ⟨ht,hr⟩:=ite_some hr
   obtain ⟨s,hs,hr⟩:=bind_some hr
   obtain ⟨ag,hag,hr⟩:=bind_some hr
   obtain ⟨rs',hr',rfl⟩:=map_some hr
   simp only [retG] at h
   obtain ⟨g,hg,h⟩:=bind_some h
   obtain ⟨y,hy,h⟩:=map_some h
   simp only [Prod.mk.injEq] at h
   obtain ⟨rfl,rfl⟩:=h
   obtain ⟨v,Fs1,Xs1,FP1,XP1,hv,P2⟩:=retC_sound ht hs hag P1 hg
   obtain ⟨us,Fs2,Xs2,FP2,XP2,hrun,hlen,P3⟩:=ih (l:=y.1) (E':=y.2) hr' P2 hy
   exact ⟨v::us,Fs2,Xs2,FP2,XP2,by simp only [List.mapM_cons,Sem.run_bind,hv,Sem.run_pure,Result.andThen_ok,hrun],by simp [hlen],by simpa using P3⟩
theorem cellO_put (E:Env) (k q:Nat) (y:AV):∀ (cs:List AV) (j:Nat),(∀ i,j≤i→rt k i≠q)→cellO (E.put q y) k j cs=cellO E k j cs:=by
 intro cs
 induction cs with
 | nil=>intro j _; rfl
 | cons c cs ih=>
  intro j h
  cases c with
  | own s es=>simp only [cellO]; rw [ih _ fun i hi=>h i (by omega),put_f_ne (h j (Nat.le_refl _))]
  | _=>simp only [cellO]; rw [ih _ fun i hi=>h i (by omega)]
theorem outsE_put (E:Env) (q:Nat) (y:AV):∀ (xs:List AV) (k:Nat) (bs:List Bool),k+xs.length≤32→(q-1000)%32<k→1000≤q→outsE (E.put q y) k bs xs=outsE E k bs xs:=by
 intro xs
 induction xs with
 | nil=>intro k bs _ _ _; cases bs <;> rfl
 | cons x xs ih=>
  intro k bs hk hq h1
  simp only [List.length_cons] at hk
  cases bs with
  | nil=>simp only [outsE]; rw [ih _ _ (by omega) (by omega) h1]
  | cons b bs=>
   simp only [outsE]
   rw [ih _ _ (by omega) (by omega) h1]
   congr 1
   cases b with
   | false=>rfl
   | true=>
    simp only [if_true]
    cases x with
    | agg cs=>simp only; rw [cellO_put]; intro i _ e; subst e; simp only [rt] at hq; omega
    | _=>simp only; rw [put_f_ne (by omega)]
theorem cells_out (k:Nat) (hk:k<32) (hn:B.n≤1000):∀ (cs:List AV) (j:Nat) (zs:List Value) {E:Env} {Fs Xs:Nat→Foot} {FP XP:Foot} {us:List Value} {xs:List AV},RepA w lk0 (fun _=>0) (fun _=>0) zs (cs.map primU) →
  (∀ i v,zs[i]?=some v→hid (rt k (j+i))=v)→PR B hid w a E Fs Xs FP XP us xs →
  ∃ E' Fs' Xs' FP' XP',PR B hid w a E' Fs' Xs' FP' XP' (us++zs) (xs++cellO E k j cs)∧∀ (ys:List AV) (k':Nat) (bs:List Bool),k' + ys.length≤32→k<k'→outsE E' k' bs ys=outsE E k' bs ys:=by
 intro cs
 induction cs with
 | nil=>
  intro j zs E Fs Xs FP XP us xs h _ P1
  have:=h.length
  cases zs with
  | nil=>exact ⟨E,Fs,Xs,FP,XP,by simpa [cellO] using P1,fun _ _ _ _ _=>rfl⟩
  | cons z zs=>simp at this
 | cons c cs ih=>
  intro j zs E Fs Xs FP XP us xs h hv P1
  have:=h.length
  cases zs with
  | nil=>simp at this
  | cons z zs=>
   obtain ⟨A1,A2,Y1,Y2,q1,q2,eA,eY⟩:=RepA.uncons h
   have q2':=q2.foot (G:=fun _=>0) (Y:=fun _=>0) (fun b=>by have:=eA b; omega) (fun b=>by have:=eY b; omega)
   have hv':∀ i v,zs[i]?=some v→hid (rt k (j+1+i))=v:=fun i v hi=>by
    have:=hv (i+1) v (by simpa using hi)
    rw [show j+1+i=j+(i+1) by omega]; exact this
   have hz:hid (rt k j)=z:=hv 0 z rfl
   have copy:cellO E k j (c::cs)=primU c::cellO E k (j+1) cs→∃ E' Fs' Xs' FP' XP',PR B hid w a E' Fs' Xs' FP' XP' (us++z::zs) (xs++cellO E k j (c::cs))∧∀ (ys:List AV) (k':Nat) (bs:List Bool),k' + ys.length≤32→k<k'→outsE E' k' bs ys=outsE E k' bs ys:=by
    intro he
    obtain ⟨XP',P2⟩:=P1.copy (q1.lk0 (lkOf w (vlOf a.tmps hid) E)) (fun b=>by have:=eA b; first | omega | (dsimp only; omega) | (dsimp only at *; omega)) (fun b hb=>by have:=eY b; first | omega | (dsimp only; omega) | (dsimp only at *; omega))
    obtain ⟨E',Fs',Xs',FP',XP',P3,ho⟩:=ih (j+1) zs q2' hv' P2
    rw [he]
    exact ⟨E',Fs',Xs',FP',XP',by simpa using P3,ho⟩
   cases c with
   | own s es=>
    obtain ⟨Fs1,Xs1,FP1,XP1,P2⟩:=P1.move (rt k j)
    rw [vl_hid (by rw [P1.rel.size]; simp only [rt]; omega),hz] at P2
    obtain ⟨E',Fs',Xs',FP',XP',P3,ho⟩:=ih (j+1) zs q2' hv' P2
    rw [cellO_put _ _ _ _ _ _ (fun i hi e=>by simp only [rt] at e; omega)] at P3
    refine ⟨E',Fs',Xs',FP',XP',by simpa [cellO] using P3,fun ys k' bs h1 h2=>?_⟩
    rw [ho ys k' bs h1 h2,outsE_put _ _ _ _ _ _ h1 (by simp only [rt]; omega) (by simp only [rt]; omega)]
   | _=>exact copy rfl
theorem outs_sound:∀ (ys:List AV) (k:Nat) (bs:List Bool) {E:Env} {Fs Xs:Nat→Foot} {FP XP:Foot} {us:List Value} {xs:List AV} {vs:List Value},vs.length=ys.length→k+ys.length≤32→B.n≤1000 →
  (∀ j v,vs[j]?=some v→hid (1000+(k+j))=v) →
  (∀ (j:Nat) (cs:List AV),ys[j]?=some (AV.agg cs)→bs[j]?=some true→∃ zs:List Value,vs[j]?=some (Value.agg zs.toArray)∧RepA w lk0 (fun _=>0) (fun _=>0) zs (cs.map primU)∧∀ i v,zs[i]?=some v→hid (rt (k+j) i)=v) →
  PR B hid w a E Fs Xs FP XP us xs→∃ E' Fs' Xs' FP' XP',PR B hid w a E' Fs' Xs' FP' XP' (us++vs) (xs++outsE E k bs ys):=by
 intro ys
 induction ys with
 | nil=>
  intro k bs E Fs Xs FP XP us xs vs hv _ _ _ _ P1
  cases vs with
  | nil=>exact ⟨E,Fs,Xs,FP,XP,by cases bs <;> simpa [outsE] using P1⟩
  | cons v vs=>cases hv
 | cons y ys ih=>
  intro k bs E Fs Xs FP XP us xs vs hv hk hn hh hc P1
  simp only [List.length_cons] at hk
  cases vs with
  | nil=>cases hv
  | cons v vs=>
   have hv0:=hh 0 v rfl
   have hnext:∀ j u,vs[j]?=some u→hid (1000+(k+1+j))=u:=fun j u hj=>by
    have:=hh (j+1) u (by simpa using hj)
    rw [show k+1+j=k+(j+1) by omega]; exact this
   have hcn:∀ bs':List Bool,(∀ j,bs'[j]?=some true→bs[j+1]?=some true)→∀ (j:Nat) (cs:List AV),ys[j]?=some (AV.agg cs)→bs'[j]?=some true→∃ zs:List Value,vs[j]?=some (Value.agg zs.toArray)∧RepA w lk0 (fun _=>0) (fun _=>0) zs (cs.map primU)∧∀ i v,zs[i]?=some v→hid (rt (k+1+j) i)=v:=fun bs' hb j cs hj hbj=>by
    obtain ⟨zs,z1,z2,z3⟩:=hc (j+1) cs (by simpa using hj) (hb j hbj)
    exact ⟨zs,by simpa using z1,z2,fun i v hi=>by rw [show k+1+j=k+(j+1) by omega]; exact z3 i v hi⟩
   have undef:∀ bs':List Bool,(∀ j,bs'[j]?=some true→bs[j+1]?=some true)→∃ E' Fs' Xs' FP' XP',PR B hid w a E' Fs' Xs' FP' XP' (us++v::vs) (xs++.undef::outsE E (k+1) bs' ys):=by
    intro bs' hb
    have hu:RepA w (lkOf w (vlOf a.tmps hid) E) (fun _=>0) (fun _=>0) [v] [.undef]:=.undef _ _ _ _ _ RepA.znil
    obtain ⟨XP',P2⟩:=P1.copy hu (fun _=>rfl) (fun b hb=>absurd rfl hb)
    obtain ⟨E',Fs',Xs',FP',XP',P3⟩:=ih (k+1) bs' (vs:=vs) (by simpa using hv) (by omega) hn hnext (hcn bs' hb) P2
    exact ⟨E',Fs',Xs',FP',XP',by simpa using P3⟩
   have root:∀ bs':List Bool,(∀ j,bs'[j]?=some true→bs[j+1]?=some true)→∃ E' Fs' Xs' FP' XP',PR B hid w a E' Fs' Xs' FP' XP' (us++v::vs) (xs++E.f (1000+k)::outsE E (k+1) bs' ys):=by
    intro bs' hb
    obtain ⟨Fs1,Xs1,FP1,XP1,P2⟩:=P1.move (1000+k)
    rw [vl_hid (by rw [P1.rel.size]; omega),show hid (1000+k)=v from hv0] at P2
    obtain ⟨E',Fs',Xs',FP',XP',P3⟩:=ih (k+1) bs' (vs:=vs) (by simpa using hv) (by omega) hn hnext (hcn bs' hb) P2
    rw [outsE_put _ _ _ _ _ _ (by omega) (by omega) (by omega)] at P3
    exact ⟨E',Fs',Xs',FP',XP',by simpa using P3⟩
   cases bs with
   | nil=>exact undef [] (fun j h=>by simp at h)
   | cons b bs=>
    cases b with
    | false=>exact undef bs (fun j h=>by simpa using h)
    | true=>
     cases y with
     | agg cs=>
      obtain ⟨zs,z1,z2,z3⟩:=hc 0 cs rfl rfl
      simp only [List.getElem?_cons_zero,Option.some.injEq] at z1
      subst z1
      obtain ⟨E1,Fs1,Xs1,FP1,XP1,P2,ho⟩:=cells_out (B:=B) k (by omega) hn cs 0 zs z2 (fun i v hi=>by rw [Nat.zero_add]; exact z3 i v hi) P1
      have hcl:zs.length=(cellO E k 0 cs).length:=by
       have:=P2.rep.length
       have:=P1.rep.length
       simp only [List.length_append] at *
       omega
      have P3:=P2.rerep (RepA.close_agg (us:=us) (ys:=xs) (zs:=zs) (vs:=[]) (xs:=[]) P1.rep.length hcl (by simpa using P2.rep))
      obtain ⟨E',Fs',Xs',FP',XP',P4⟩:=ih (k+1) bs (vs:=vs) (by simpa using hv) (by omega) hn hnext (hcn bs fun j h=>by simpa using h) P3
      rw [ho _ _ _ (by omega) (by omega)] at P4
      exact ⟨E',Fs',Xs',FP',XP',by simpa [outsE] using P4⟩
     | _=>exact root bs (fun j h=>by simpa using h)
end Go.Proofs.YtjmnolhflcjpgaaGreat.Awp
namespace Go.Proofs.YtjmnolhflcjpgaaGreat.Awp
set_option linter.unusedVariables false
set_option linter.unusedSimpArgs false
variable {P:Program}
def retVal:List Value→Value
 | [x]=>x
 | l=>.tuple l.toArray
theorem run_results {w:World} {fn:Func} {us:List Value} {tmps:Array Value} (hrun:(fn.results.toList.mapM (resF tmps)).run P w=.ok us w) :
  (results fn tmps).run P w=.ok (retVal us) w:=by
 have e:results fn tmps=(do let vs ← fn.results.mapM (resF tmps); pure (if h:vs.size=1 then vs[0] else .tuple vs)):=by
  unfold results
  congr 1
 rw [e]
 simp only [Sem.run_bind,Array.mapM_eq_mapM_toList,Sem.run_map]
 rw [hrun]
 simp only [Result.andThen_ok,Sem.run_pure]
 match us with
 | []=>simp [retVal]
 | [x]=>simp [retVal]
 | x::y::l=>simp [retVal]
theorem ret_rep {B:Base} {hid:Nat→Value} {w:World} {a:Act} {E:Env} {Fs Xs:Nat→Foot} {FP XP:Foot} {us vs:List Value} {xs ys:List AV} (P1:PR B hid w a E Fs Xs FP XP (us++vs) (xs++ys)) (hl:us.length=xs.length) :
  PR B hid w a E Fs Xs FP XP (retVal us::vs) (retV xs::ys):=by
 match us,xs,hl with
 | [u],[x],_=>exact P1
 | [],[],_=>
  refine P1.rerep ?_
  have:=P1.rep
  simp only [List.nil_append] at this
  exact .tup _ (fun _=>0) FP _ (fun _=>0) XP [] [] _ _ RepA.znil this (fun _=>by omega) (fun _=>by omega)
 | u::u'::us,x::x'::xs,hl=>
  refine P1.rerep ?_
  obtain ⟨A1,A2,Y1,Y2,q1,q2,eA,eY⟩:=RepA.split (u::u'::us) (x::x'::xs) (by simpa using hl) P1.rep
  exact .tup _ A1 A2 _ Y1 Y2 _ _ _ _ q1 q2 eA eY
theorem cellA_keys (k:Nat):∀ (cs:List AV) (j:Nat),∀ p ∈ cellA k j cs,∃ i,j≤i∧p.1=rt k i:=by
 intro cs
 induction cs with
 | nil=>intro j p hp; simp [cellA] at hp
 | cons c cs ih=>
  intro j p hp
  cases c with
  | own s es=>
   simp only [cellA,List.mem_cons] at hp
   rcases hp with rfl | hp
   ·exact ⟨j,Nat.le_refl _,rfl⟩
   ·obtain ⟨i,h1,h2⟩:=ih _ p hp; exact ⟨i,by omega,h2⟩
  | _=>simp only [cellA] at hp; obtain ⟨i,h1,h2⟩:=ih _ p hp; exact ⟨i,by omega,h2⟩
theorem cellA_get (k:Nat):∀ (cs:List AV) (j i:Nat) (s:Nat) (es:List (List TV)),cs[i]?=some (.own s es)→getL (cellA k j cs) (rt k (j+i))=.own s es:=by
 intro cs
 induction cs with
 | nil=>intro j i s es h; simp at h
 | cons c cs ih=>
  intro j i s es h
  have nx:∀ i',i=i' + 1→getL (cellA k (j+1) cs) (rt k (j+i))=.own s es:=fun i' e=>by
   subst e
   have:=ih (j+1) i' s es (by simpa using h)
   rw [show j+(i' + 1)=j+1+i' by omega]; exact this
  cases i with
  | zero=>simp at h; subst h; simp [cellA,getL]
  | succ i=>
   cases c with
   | own s' es'=>simp only [cellA,getL]; rw [if_neg (by simp only [rt]; omega)]; exact nx i rfl
   | _=>simp only [cellA]; exact nx i rfl
theorem getL_app_r {l m:List (Nat × AV)} {q:Nat} (h:noKey l q):getL (l++m) q=getL m q:=by
 induction l with
 | nil=>rfl
 | cons p l ih=>
  obtain ⟨k,x⟩:=p
  simp only [List.cons_append,getL]
  rw [if_neg (h (k,x) (by simp))]
  exact ih fun p hp=>h p (by simp [hp])
theorem initA_keys:∀ (xs:List AV) (bs:List Bool) (k:Nat),∀ p ∈ initA k bs xs,∃ i,i<xs.length∧((bs[i]?=some true∧(p.1=1000+(k+i)∨∃ c,p.1=rt (k+i) c))∨(bs[i]?≠some true∧p.1=k+i)):=by
 intro xs
 induction xs with
 | nil=>intro bs k p hp; cases bs <;> simp [initA] at hp
 | cons x xs ih=>
  intro bs k p hp
  have tl:∀ b bs,p ∈ initA (k+1) bs xs→∃ i,i<(x::xs).length∧(((b::bs)[i]?=some true∧(p.1=1000+(k+i)∨∃ c,p.1=rt (k+i) c))∨((b::bs)[i]?≠some true∧p.1=k+i)):=fun b bs hp=>by
   obtain ⟨i,h1,h2⟩:=ih bs (k+1) p hp
   refine ⟨i+1,by simp; omega,?_⟩
   rw [show k+(i+1)=k+1+i by omega]
   simpa using h2
  cases bs with
  | nil=>
   simp only [initA,List.mem_cons] at hp
   rcases hp with rfl | hp
   ·exact ⟨0,by simp,.inr ⟨by simp,rfl⟩⟩
   ·obtain ⟨i,h1,h2⟩:=ih [] (k+1) p hp
    refine ⟨i+1,by simp; omega,?_⟩
    rcases h2 with ⟨h2,h3⟩ | ⟨h2,h3⟩
    ·simp at h2
    ·exact .inr ⟨by simp,by omega⟩
  | cons b bs=>
   cases b with
   | false=>
    simp only [initA,Bool.false_eq_true,if_false,List.mem_cons] at hp
    rcases hp with rfl | hp
    ·exact ⟨0,by simp,.inr ⟨by simp,rfl⟩⟩
    ·exact tl false bs hp
   | true=>
    cases x with
    | agg cs=>
     simp only [initA,if_true,List.mem_append] at hp
     rcases hp with hp | hp
     ·obtain ⟨i,_,hi⟩:=cellA_keys k cs 0 p hp
      exact ⟨0,by simp,.inl ⟨rfl,.inr ⟨i,hi⟩⟩⟩
     ·exact tl true bs hp
    | _=>
     simp only [initA,if_true,List.mem_cons] at hp
     rcases hp with rfl | hp
     ·exact ⟨0,by simp,.inl ⟨rfl,.inl rfl⟩⟩
     ·exact tl true bs hp
theorem rootsOk_agg:∀ {bs:List Bool} {xs:List AV} {j:Nat} {cs:List AV},rootsOk bs xs=true→xs[j]?=some (AV.agg cs)→bs[j]?=some true→cs.length≤30:=by
 intro bs
 induction bs with
 | nil=>intro xs j cs _ _ h; simp at h
 | cons b bs ih=>
  intro xs j cs h hx hb
  cases xs with
  | nil=>simp at hx
  | cons x xs=>
   cases j with
   | zero=>
    simp at hx hb
    subst hx hb
    simp only [rootsOk,Bool.and_eq_true,decide_eq_true_eq] at h
    exact h.1
   | succ j=>
    refine ih (xs:=xs) (j:=j) ?_ (by simpa using hx) (by simpa using hb)
    cases b with
    | true=>simp only [rootsOk,Bool.and_eq_true] at h; exact h.2
    | false=>simpa [rootsOk] using h
theorem initA_far {xs:List AV} {bs:List Bool} {k q:Nat} (hk:k+xs.length≤32) (hq:1000≤q∧(q-1000)%32<k):noKey (initA k bs xs) q:=by
 intro p hp e
 obtain ⟨i,h1,h2⟩:=initA_keys xs bs k p hp
 rcases h2 with ⟨_,h3 | ⟨c,h3⟩⟩ | ⟨_,h3⟩
 ·omega
 ·simp only [rt] at h3; omega
 ·omega
theorem initA_get:∀ (xs:List AV) (bs:List Bool) (k j:Nat) (x:AV),xs[j]?=some x→bs[j]?=some true→k+xs.length≤32 →
  (x.isRoot=true→getL (initA k bs xs) (1000+(k+j))=x)∧(∀ cs,x=.agg cs→∀ i s es,cs[i]?=some (.own s es)→getL (initA k bs xs) (rt (k+j) i)=.own s es)∧noKey (initA k bs xs) (k+j):=by
 intro xs
 induction xs with
 | nil=>intro bs k j x h; simp at h
 | cons y xs ih=>
  intro bs k j x h hb hk
  have hjl:j<(y::xs).length:=(List.getElem?_eq_some_iff.1 h).1
  have hno:noKey (initA k bs (y::xs)) (k+j):=by
   intro p hp e
   obtain ⟨i,h1,h2⟩:=initA_keys (y::xs) bs k p hp
   rcases h2 with ⟨h2,h3 | ⟨c,h3⟩⟩ | ⟨h2,h3⟩
   ·omega
   ·simp only [rt] at h3; omega
   ·have:i=j:=by omega
    subst this
    exact h2 hb
  simp only [List.length_cons] at hk hjl
  cases bs with
  | nil=>simp at hb
  | cons b bs=>
   cases j with
   | zero=>
    simp at h hb
    subst h hb
    refine ⟨fun hr=>?_,fun cs hcs i s es hi=>?_,hno⟩
    ·cases y <;> first | (simp [initA,getL]; done) | cases hr
    ·subst hcs
     simp only [initA,if_true,Nat.add_zero]
     rw [getL_app (initA_far (by omega) (by simp only [rt]; omega))]
     have:=cellA_get k cs 0 i s es hi
     rwa [Nat.zero_add] at this
   | succ j=>
    obtain ⟨k1,k2,_⟩:=ih bs (k+1) j x (by simpa using h) (by simpa using hb) (by omega)
    rw [show k+1+j=k+(j+1) by omega] at k1 k2
    have skip:∀ q,1000≤q→(q-1000)%32=k+(j+1)→getL (initA k (b::bs) (y::xs)) q=getL (initA (k+1) bs xs) q:=by
     intro q h1 h2
     cases b with
     | false=>simp only [initA]; exact getL_app_r (l:=[(k,y)]) (by intro p hp; simp at hp; subst hp; (try dsimp only); omega)
     | true=>
      cases y with
      | agg cs=>
       simp only [initA,if_true]
       exact getL_app_r (by intro p hp; obtain ⟨i,_,hi⟩:=cellA_keys k cs 0 p hp; rw [hi]; simp only [rt]; omega)
      | _=>simp only [initA,if_true]; exact getL_app_r (l:=[(1000+k,_)]) (by intro p hp; simp at hp; subst hp; (try dsimp only); omega)
    refine ⟨fun hr=>?_,fun cs hcs i s es hi=>?_,hno⟩
    ·rw [skip _ (by omega) (by omega)]; exact k1 hr
    ·rw [skip _ (by simp only [rt]; omega) (by simp only [rt]; omega)]; exact k2 cs hcs i s es hi
theorem spec_of_awp {f:Nat} {fn:Func} {c:Code} {cmd:Cmd} {args outs:List AV} {ret:AV} {bs:List Bool} {ks:Nat} {rs:List RV} (hf:P.funcs[f]?=some fn) (hb:fn.body=some c)
  (hnm:(fn.name == "runtime.NumGoroutine")=false) (hn:fn.ntmps≤1000) (hlen:args.length≤fn.ntmps∧args.length≤32) (hres:resT P fn.ntmps fn.results.toList=some rs) (hol:outs.length=args.length)
  (hroots:rootsOk bs args=true) (hD:P.follows .mixedOrders=true) (hc:cCode P fn.ntmps c=some cmd)
  (h:awp P ks cmd (fun x E'=>(x=.r∨x=.n)∧doneE rs bs args ret outs E') (mkE (initA 0 bs args++initB 0 bs args) [])):Spec P f args ret outs:=by
 refine ⟨⟨fn,hf,by rw [hb]; rfl,hnm⟩,hol,?_⟩
 intro w vs F X hrep hF1 hdis hXlt
 have hvl:=hrep.length
 let B:Base:=⟨w,F,X,fn.ntmps⟩
 let hv:Nat→Value:=hidV vs
 let a:Act:={ tmps:=vs.toArray++Array.replicate (fn.ntmps-vs.toArray.size) undef,defers:=[] }
 have hsize:a.tmps.size=B.n:=by simp [a,B]; omega
 have hvl1:∀ j v,vs[j]?=some v→vlOf a.tmps hv (0+j)=v∧vlOf a.tmps hv (1000+(0+j))=v:=by
  intro j v hj
  have hjl:=(List.getElem?_eq_some_iff.1 hj).1
  rw [Nat.zero_add]
  refine ⟨?_,?_⟩
  ·unfold vlOf
   rw [if_pos (by rw [hsize]; show j<fn.ntmps; omega)]
   simp [a,Array.getElem?_append,hjl,hj]
   rw [List.getElem?_eq_getElem hjl] at hj
   simpa using hj
  ·rw [vl_hid (by rw [hsize]; show fn.ntmps≤_; omega)]
   exact hidV_arg (by omega) hj
 have hvl2:∀ j us i v,vs[j]?=some (.agg (us:List Value).toArray)→us[i]?=some v→vlOf a.tmps hv (rt (0+j) i)=v∧hv (rt (0+j) i)=v:=by
  intro j us i v hj hi
  have hjl:=(List.getElem?_eq_some_iff.1 hj).1
  have:=hidV_cell (vs:=vs) (k:=j) (by omega) hj hi
  rw [Nat.zero_add]
  exact ⟨by rw [vl_hid (by rw [hsize]; show fn.ntmps≤_; simp only [rt]; omega)]; exact this,this⟩
 have hprim:∀ (j:Nat) (cs:List AV) (w':World),args[j]?=some (AV.agg cs)→∃ zs:List Value,vs[j]?=some (Value.agg zs.toArray)∧RepA w' lk0 (fun _=>0) (fun _=>0) zs (cs.map primU):=by
  intro j cs w' hj
  obtain ⟨v,F1,F2,X1,X2,hv1,h1,_⟩:=RepA.at hrep hj
  cases h1 with
  | agg _ A1 A2 _ Y1 Y2 zs _ _ _ g1 _ _ _=>exact ⟨zs,hv1,g1.prims⟩
 have R0:Rel B hv w a (mkE [] []) (fun _ _=>0) (fun _ _=>0):=
  ⟨hsize,rfl,fun t=>.undef _ _ _ _ _ RepA.znil,fun _ _=>by omega,fun _ _ _ _=>.inl rfl,fun _ _ _=>.inl rfl,Grows.refl _,fun _ _ _=>rfl,fun _ _ h=>absurd rfl h,fun _ _ h=>absurd rfl h,fun _ _ h=>absurd rfl h⟩
 have P0:PR B hv w a (mkE [] []) (fun _ _=>0) (fun _ _=>0) F X vs args:=
  ⟨R0,hrep.lk0 _,hF1,fun _ _=>.inr rfl,fun _ _=>.inr rfl,fun _ _=>.inr rfl,hdis,fun b hb=>.inl hb,fun b hb=>⟨.inl hb,hXlt b hb⟩⟩
 obtain ⟨Fs1,Xs1,FP1,XP1,P1⟩:=initA_place (B:=B) args bs 0 vs [] (by omega) (by show 0+args.length≤fn.ntmps; omega) hn (by simp) hvl1 (fun j us i v hj hi=>(hvl2 j us i v hj hi).1) P0
 obtain ⟨Fs2,Xs2,R2⟩:=initB_place (B:=B) args bs 0 (initA 0 bs args) (by omega) (by show 0+args.length≤fn.ntmps; omega) hn (by
  intro j x hj hbj
  obtain ⟨k1,k2,k3⟩:=initA_get args bs 0 j x hj hbj (by omega)
  have hjl:j<vs.length:=by have:=(List.getElem?_eq_some_iff.1 hj).1; omega
  obtain ⟨v,hv'⟩:∃ v,vs[j]?=some v:=⟨_,List.getElem?_eq_getElem hjl⟩
  obtain ⟨e1,e2⟩:=hvl1 j v hv'
  refine ⟨fun hr=>⟨k1 hr,by rw [e1,e2]⟩,fun cs hcs=>?_,k3⟩
  subst hcs
  obtain ⟨zs,z1,z2⟩:=hprim j cs w hj
  rw [hv'] at z1; cases z1
  exact ⟨zs,e1,z2,k2 cs rfl,fun i v hi=>(hvl2 j zs i v hv' hi).1⟩) hroots (by simpa using P1.rel)
 have G:Good B hv w a (mkE (initA 0 bs args++initB 0 bs args) []):=⟨hv,Fs2,Xs2,R2,fun _ _=>rfl⟩
 refine calls_of_wp hf hb (awp_sound (B:=B) hn hD ks c cmd _ _ _ a w hc ?_ h G)
 rintro x E' a' w' ⟨hx,hdone⟩ G'
 obtain ⟨⟨l,E2⟩,hq,hret,houts,hlk⟩:=hdone
 obtain ⟨hid,Fs3,Xs3,R3,hh⟩:=G'
 obtain ⟨us,Fs4,Xs4,FP4,XP4,hrun,hul,P4⟩:=retG_sound (l:=l) (E':=E2) hres (PR.nil R3) hq
 simp only [List.nil_append] at P4
 obtain ⟨E5,Fs5,Xs5,FP5,XP5,P5⟩:=outs_sound args 0 bs (vs:=vs) hvl (by omega) hn (by
  intro j v hj
  have hjl:=(List.getElem?_eq_some_iff.1 hj).1
  rw [hh _ (by omega),Nat.zero_add]
  exact hidV_arg (by omega) hj) (by
  intro j cs hj hbj
  obtain ⟨zs,z1,z2⟩:=hprim j cs w' hj
  refine ⟨zs,z1,z2,fun i v hi=>?_⟩
  have hjl:=(List.getElem?_eq_some_iff.1 z1).1
  have hil:i<30:=by
   have hil:=(List.getElem?_eq_some_iff.1 hi).1
   have hzl:zs.length=cs.length:=by have:=z2.length; simpa using this
   have:=rootsOk_agg hroots hj hbj
   omega
  rw [hh _ (by simp only [rt]; omega)]
  exact (hvl2 j zs i v z1 hi).2) P4
 have P6:=ret_rep P5 hul
 simp only at hret houts
 rw [hret,houts] at P6
 have fin:a'.defers=[]∧∃ v,(results fn a'.tmps).run P w'=.ok v w'∧∃ v_1 F' X',Ending.returned v=.returned v_1∧RepA w' lk0 F' X' (v_1::vs) (ret::outs)∧(∀ b,F' b≤1)∧(∀ b,F' b=0∨X' b=0) ∧
   Grows w w'∧(∀ b,b<w.heap.size→F b=0→w'.heap[b]?=w.heap[b]?)∧(∀ b,F' b≠0→F b≠0∨w.heap.size≤b)∧(∀ b,X' b≠0→(X b≠0∨F b≠0∨w.heap.size≤b)∧b<w'.heap.size):=
  ⟨R3.dfr,_,run_results hrun,_,FP5,XP5,rfl,P6.rep.noLk lk0 hlk,P6.one,P6.dx3,P6.rel.grow,P6.rel.frame,P6.org,P6.orgx⟩
 rcases hx with rfl | rfl
 ·exact fin
 ·exact fin
end Go.Proofs.YtjmnolhflcjpgaaGreat.Awp
namespace Go.Proofs.YtjmnolhflcjpgaaGreat.Awp
set_option linter.unusedVariables false
set_option linter.unusedSimpArgs false
def compile (P:Program) (f:Nat):Option (Nat × List RV × Cmd):=
 (P.funcs[f]?).bind fun fn=>fn.body.bind fun c=>if (fn.name == "runtime.NumGoroutine")=false∧fn.ntmps≤1000 then
  (resT P fn.ntmps fn.results.toList).bind fun rs=>(cCode P fn.ntmps c).map fun cmd=>(fn.ntmps,rs,cmd) else none
variable {P:Program}
def Goal (P:Program) (nt:Nat) (rs:List RV) (ks:Nat) (bs:List Bool) (cmd:Cmd) (args:List AV) (ret:AV) (outs:List AV):Prop:=
 awp P ks cmd (fun x E'=>(x=.r∨x=.n)∧doneE rs bs args ret outs E') (mkE (initA 0 bs args++initB 0 bs args) [])
theorem spec_of {f nt:Nat} {rs:List RV} {cmd:Cmd} (hm:P.follows .mixedOrders=true) (hc:compile P f=some (nt,rs,cmd)) (ks:Nat) (bs:List Bool) {args outs:List AV} {ret:AV}
  (hlen:args.length≤nt∧args.length≤32) (hol:outs.length=args.length) (hroots:rootsOk bs args=true) (h:Goal P nt rs ks bs cmd args ret outs):Spec P f args ret outs:=by
 unfold compile at hc
 obtain ⟨fn,hf,hc⟩:=bind_some hc
 obtain ⟨c,hb,hc⟩:=bind_some hc
 obtain ⟨⟨h1,h2⟩,hc⟩:=ite_some hc
 obtain ⟨rs',hr,hc⟩:=bind_some hc
 obtain ⟨cmd',hcmd,hc⟩:=map_some hc
 cases hc
 exact spec_of_awp hf hb h1 h2 hlen hr hol hroots hm hcmd h
theorem stepA_run {i:I} {K:Env→Prop} {E:Env} (h:stepA P i K E):∃ E',K E'∧∀ K':Env→Prop,K' E'→stepA P i K' E:=by
 have sp:∀ {d f xs ms} {E:Env},callM P d f xs ms K E→∃ E',K E'∧∀ K':Env→Prop,K' E'→callM P d f xs ms K' E:=by
  rintro d f xs ms E ⟨pr,hp,ret,outs,hS,hx,E1,hb,hK⟩
  exact ⟨_,hK,fun K' h'=>⟨pr,hp,ret,outs,hS,hx,E1,hb,h'⟩⟩
 cases i with
 | call d f xs=>
  rcases h with ⟨W,ms,h⟩ | ⟨ms,x,y,k1,k2,h⟩
  ·obtain ⟨E',h1,h2⟩:=sp h
   exact ⟨E',h1,fun K' h'=>.inl ⟨W,ms,h2 K' h'⟩⟩
  ·obtain ⟨E',h1,h2⟩:=callK_split h
   exact ⟨E',h2,fun K' h'=>.inr ⟨ms,x,y,k1,k2,callK_mono (fun E1 (e:E1=E')=>e ▸ h') h1⟩⟩
 | callv d x xs=>
  simp only [stepA] at h ⊢
  split at h
  ·rename_i f caps hz
   obtain ⟨ms,h1,h2,h3⟩:=h
   obtain ⟨E',h4,h5⟩:=sp h3
   refine ⟨E',h4,fun K' h'=>?_⟩
   exact ⟨ms,h1,h2,h5 K' h'⟩
  ·exact h.elim
 | _=>obtain ⟨E',h1,h2⟩:=h; exact ⟨E',h2,fun K' h'=>⟨E',h1,h'⟩⟩
theorem stepD_run {i:I} {K:List M→Env→Prop} {E:Env} (h:stepD P i K E):∃ ms E',K ms E'∧∀ K':List M→Env→Prop,K' ms E'→stepD P i K' E:=by
 have sp:∀ {d f xs ms} {K:Env→Prop},callM P d f xs ms K E→∃ E',K E'∧∀ K':Env→Prop,K' E'→callM P d f xs ms K' E:=by
  rintro d f xs ms K ⟨pr,hp,ret,outs,hS,hx,E1,hb,hK⟩
  exact ⟨_,hK,fun K' h'=>⟨pr,hp,ret,outs,hS,hx,E1,hb,h'⟩⟩
 cases i with
 | call d f xs=>
  obtain ⟨ms,h | ⟨x,y,k1,k2,h⟩⟩:=h
  ·obtain ⟨E',h1,h2⟩:=sp h
   exact ⟨ms,E',h1,fun K' h'=>⟨ms,.inl (h2 _ h')⟩⟩
  ·obtain ⟨E',h1,h2⟩:=callK_split h
   exact ⟨ms,E',h2,fun K' h'=>⟨ms,.inr ⟨x,y,k1,k2,callK_mono (fun E1 (e:E1=E')=>e ▸ h') h1⟩⟩⟩
 | callv d x xs=>
  simp only [stepD] at h ⊢
  split at h
  ·rename_i f caps hz
   obtain ⟨ms,h1,h2,h3⟩:=h
   obtain ⟨E',h4,h5⟩:=sp h3
   refine ⟨ms,E',h4,fun K' h'=>?_⟩
   exact ⟨ms,h1,h2,h5 _ h'⟩
  ·exact h.elim
 | _=>obtain ⟨E',h1,h2⟩:=h; exact ⟨[],E',h2,fun K' h'=>⟨E',h1,h'⟩⟩
theorem regA_run:∀ {is:List GI} {K:Env→Prop} {E:Env},regA P is K E→∃ E',K E'∧∀ K':Env→Prop,K' E'→regA P is K' E:=by
 intro is
 induction is with
 | nil=>intro K E h; exact ⟨E,h,fun K' h'=>h'⟩
 | cons g l ih=>
  intro K E h
  simp only [regA] at h ⊢
  cases hg:g.g with
  | none=>
   rw [hg] at h
   obtain ⟨E1,h1,h2⟩:=stepA_run h
   obtain ⟨E',h3,h4⟩:=ih h1
   exact ⟨E',h3,fun K' h'=>h2 _ (h4 K' h')⟩
  | some q=>
   obtain ⟨t,b⟩:=q
   rw [hg] at h
   rcases h with ⟨c,hc,k1,k2⟩ | ⟨hc,k2⟩
   ·by_cases e:c=b
    ·obtain ⟨E1,h1,h2⟩:=stepA_run (k1 e)
     obtain ⟨E',h3,h4⟩:=ih h1
     exact ⟨E',h3,fun K' h'=>.inl ⟨c,hc,fun _=>h2 _ (h4 K' h'),fun n=>absurd e n⟩⟩
    ·obtain ⟨E',h3,h4⟩:=ih (k2 e)
     exact ⟨E',h3,fun K' h'=>.inl ⟨c,hc,fun n=>absurd n e,fun _=>h4 K' h'⟩⟩
   ·obtain ⟨E',h3,h4⟩:=ih k2
    exact ⟨E',h3,fun K' h'=>.inr ⟨hc,h4 K' h'⟩⟩
theorem drawA_det {bs:List Nat}:∀ {is:List GI} {acc:List Rcd} {K:Env→Prop} {E:Env},drawA P bs acc is K E→∃ E',K E'∧∀ K':Env→Prop,K' E'→drawA P bs acc is K' E:=by
 intro is
 induction is with
 | nil=>intro acc K E h; exact ⟨E,h.2,fun K' h'=>⟨h.1,h'⟩⟩
 | cons g l ih=>
  intro acc K E h
  simp only [drawA] at h ⊢
  cases hg:g.g with
  | none=>
   rw [hg] at h
   obtain ⟨ms,E1,h1,h2⟩:=stepD_run h
   obtain ⟨E',h3,h4⟩:=ih h1
   exact ⟨E',h3,fun K' h'=>h2 _ (h4 K' h')⟩
  | some q=>
   obtain ⟨t,b⟩:=q
   rw [hg] at h
   rcases h with ⟨c,hc,k1,k2⟩ | ⟨hc,k2⟩
   ·by_cases e:c=b
    ·obtain ⟨ms,E1,h1,h2⟩:=stepD_run (k1 e)
     obtain ⟨E',h3,h4⟩:=ih h1
     exact ⟨E',h3,fun K' h'=>.inl ⟨c,hc,fun _=>h2 _ (h4 K' h'),fun n=>absurd e n⟩⟩
    ·obtain ⟨E',h3,h4⟩:=ih (k2 e)
     exact ⟨E',h3,fun K' h'=>.inl ⟨c,hc,fun n=>absurd n e,fun _=>h4 K' h'⟩⟩
   ·obtain ⟨E',h3,h4⟩:=ih k2
    exact ⟨E',h3,fun K' h'=>.inr ⟨hc,h4 K' h'⟩⟩
theorem awp_run {ks:Nat}:∀ (cmd:Cmd) {Q:Ex→Env→Prop} {E:Env},awp P ks cmd Q E→∃ x E',Q x E'∧∀ Q':Ex→Env→Prop,Q' x E'→awp P ks cmd Q' E:=by
 intro cmd
 induction cmd with
 | skip=>intro Q E h; exact ⟨.n,E,h,fun Q' h'=>h'⟩
 | reg is ord=>
  intro Q E h
  cases ord with
  | none=>obtain ⟨U,h⟩:=h; obtain ⟨E',h1,h2⟩:=regA_run h; exact ⟨.n,_,h1,fun Q' h'=>⟨U,h2 (Q' .n) h'⟩⟩
  | some bs=>obtain ⟨U,h⟩:=h; obtain ⟨E',h1,h2⟩:=drawA_det h; exact ⟨.n,_,h1,fun Q' h'=>⟨U,h2 (Q' .n) h'⟩⟩
 | seq a b iha ihb=>
  intro Q E h
  obtain ⟨x,E1,h1,h2⟩:=iha h
  cases x with
  | n=>
   obtain ⟨y,E',h3,h4⟩:=ihb h1
   exact ⟨y,E',h3,fun Q' h'=>h2 _ (h4 Q' h')⟩
  | r=>exact ⟨.r,E1,h1,fun Q' h'=>h2 _ h'⟩
  | e id=>exact ⟨.e id,E1,h1,fun Q' h'=>h2 _ h'⟩
 | cond x a b iha ihb=>
  intro Q E h
  obtain ⟨t,ht,h1,h2⟩:=h
  cases t with
  | true=>
   obtain ⟨y,E',h3,h4⟩:=iha (h1 rfl)
   exact ⟨y,E',h3,fun Q' h'=>⟨true,ht,fun _=>h4 Q' h',(fun n=>by cases n)⟩⟩
  | false=>
   obtain ⟨y,E',h3,h4⟩:=ihb (h2 rfl)
   exact ⟨y,E',h3,fun Q' h'=>⟨false,ht,(fun n=>by cases n),fun _=>h4 Q' h'⟩⟩
 | blk id c ih=>
  intro Q E h
  obtain ⟨x,E',h1,h2⟩:=ih h
  by_cases e:x=.e id
  ·exact ⟨.n,E',by simpa [e] using h1,fun Q' h'=>h2 _ (by simpa [e] using h')⟩
  ·exact ⟨x,E',by simpa [e] using h1,fun Q' h'=>h2 _ (by simpa [e] using h')⟩
 | loop c ih=>
  intro Q E h
  obtain ⟨D,J,⟨n,hJ⟩,hround⟩:=h
  have key:∀ (n:Nat) (E:Env),J n E→∃ x E',Q x E'∧∀ Q':Ex→Env→Prop,Q' x E' →
    ∃ J':Nat→Env→Prop,(∃ k,J' k E)∧∀ n E,J' n E→awp P ks c (fun x E'=>match x with | .n=>∃ m,m<n∧J' m (hdL ks D (E'.norm ks)) | x=>Q' x E') E:=by
   intro n
   induction n using Nat.strongRecOn with
   | _ n ihn=>
    intro E hJ
    obtain ⟨x,E1,h1,h2⟩:=ih (hround n E hJ)
    cases x with
    | n=>
     obtain ⟨m,hm,hJm⟩:=h1
     obtain ⟨y,E',h3,h4⟩:=ihn m hm _ hJm
     refine ⟨y,E',h3,fun Q' h'=>?_⟩
     obtain ⟨J',⟨k,hk⟩,hr'⟩:=h4 Q' h'
     refine ⟨fun q F=>J' q F∨(q=k+1∧F=E),⟨k+1,.inr ⟨rfl,rfl⟩⟩,?_⟩
     rintro q F (hq | ⟨rfl,rfl⟩)
     ·obtain ⟨z,F1,g1,g2⟩:=ih (hr' q F hq)
      refine g2 _ ?_
      cases z with
      | n=>obtain ⟨m',a1,a2⟩:=g1; exact ⟨m',a1,.inl a2⟩
      | r=>exact g1
      | e id=>exact g1
     ·exact h2 _ ⟨k,by omega,.inl hk⟩
    | r=>
     refine ⟨.r,E1,h1,fun Q' h'=>⟨fun q F=>q=0∧F=E,⟨0,rfl,rfl⟩,?_⟩⟩
     rintro q F ⟨rfl,rfl⟩
     exact h2 _ h'
    | e id=>
     refine ⟨.e id,E1,h1,fun Q' h'=>⟨fun q F=>q=0∧F=E,⟨0,rfl,rfl⟩,?_⟩⟩
     rintro q F ⟨rfl,rfl⟩
     exact h2 _ h'
  obtain ⟨x,E',h1,h2⟩:=key n _ hJ
  exact ⟨x,E',h1,fun Q' h'=>⟨D,h2 Q' h'⟩⟩
 | exit id=>intro Q E h; exact ⟨.e id,E,h,fun Q' h'=>h'⟩
 | ret=>intro Q E h; exact ⟨.r,E,h,fun Q' h'=>h'⟩
def GoalEx (P:Program) (nt:Nat) (rs:List RV) (ks:Nat) (bs:List Bool) (cmd:Cmd) (args:List AV) (R:AV→List AV→Prop):Prop:=
 awp P ks cmd (fun x E'=>(x=.r∨x=.n)∧onO (retG E' rs) fun q=>R (retV q.1) (outsE q.2 0 bs args)∧noLkL (retV q.1::outsE q.2 0 bs args)=true) (mkE (initA 0 bs args++initB 0 bs args) [])
theorem outsE_len (E:Env):∀ (xs:List AV) (k:Nat) (bs:List Bool),(outsE E k bs xs).length=xs.length:=by
 intro xs
 induction xs with
 | nil=>intro k bs; cases bs <;> rfl
 | cons x xs ih=>intro k bs; cases bs <;> simp [outsE,ih]
theorem spec_ex {f nt:Nat} {rs:List RV} {cmd:Cmd} (hm:P.follows .mixedOrders=true) (hc:compile P f=some (nt,rs,cmd)) (ks:Nat) (bs:List Bool) {args:List AV} {R:AV→List AV→Prop}
  (hlen:args.length≤nt∧args.length≤32) (hroots:rootsOk bs args=true) (h:GoalEx P nt rs ks bs cmd args R):∃ ret outs,R ret outs∧Spec P f args ret outs:=by
 obtain ⟨x,E',⟨hx,q,hq,hR,hlk⟩,h2⟩:=awp_run cmd h
 exact ⟨retV q.1,outsE q.2 0 bs args,hR,spec_of hm hc ks bs hlen (outsE_len _ _ _ _) hroots (h2 _ ⟨hx,q,hq,rfl,rfl,hlk⟩)⟩
end Go.Proofs.YtjmnolhflcjpgaaGreat.Awp
namespace Go.Proofs.YtjmnolhflcjpgaaGreat.Awp
set_option linter.unusedVariables false
set_option linter.unusedSimpArgs false
abbrev Modes:=List (Nat × List M × List (Nat × Nat))
def mdOf:Modes→Nat→List O→List M
 | [],_,xs=>xs.map fun _=>M.b
 | (g,ms,_)::l,f,xs=>if g=f then ms else mdOf l f xs
def blOf:Modes→Nat→List (Nat × Nat)
 | [],_=>[]
 | (g,_,bl)::l,f=>if g=f then bl else blOf l f
def ubOf (md:Modes):List Nat:=(blOf md 999999).map Prod.fst
variable {P:Program} {md:Modes} {ks:Nat}
def callvG (P:Program) (md:Modes) (d:Option Nat) (xs:List O) (K:List M→Env→Prop) (E:Env):AV→Prop
 | .fn f caps=>ownsL caps=false∧(mdOf md f xs).length=xs.length∧callM P d f (xs++caps.map .c) (mdOf md f xs++caps.map fun _=>M.b) (K (mdOf md f xs)) E
 | _=>False
def callG (P:Program) (d:Option Nat) (f:Nat) (xs:List O) (ms:List M) (K:Env→Prop) (E Eb:Env):Option (O × O)→Prop
 | some q=>callK P d f q.1 q.2 K E
 | none=>callM P d f xs ms K Eb
def goI0 (P:Program) (md:Modes) (i:I) (K:List M→Env→Prop) (E:Env):Prop:=
 match i with
 | .call d f xs=>callG P d f xs (mdOf md f xs) (K (mdOf md f xs)) E E (kM (mdOf md f xs) xs)
 | .callv d x xs=>callvG P md d xs K E (val E x)
 | i=>onO (ev E i) (K [])
def goI (P:Program) (md:Modes) (i:I) (K:List M→Env→Prop) (E:Env):Prop:=
 match i with
 | .call d f xs=>callG P d f xs (mdOf md f xs) (K (mdOf md f xs)) E (blankE E (blOf md f)) (kM (mdOf md f xs) xs)
 | .callv d x xs=>callvG P md d xs K E (val E x)
 | i=>onO (ev E i) (K [])
def regB (P:Program) (md:Modes):List GI→(Env→Prop)→Env→Prop
 | [],K,E=>K E
 | g::l,K,E=>match g.g with
  | none=>goI P md g.i (fun _=>regB P md l K) E
  | some (t,b)=>match E.f t with
   | .bool c=>(c=b→goI P md g.i (fun _=>regB P md l K) E)∧(c≠b→regB P md l K (putO E g.d (.tup [])))
   | .tup []=>regB P md l K (putO E g.d (.tup []))
   | _=>False
def drawB (P:Program) (md:Modes) (bs:List Nat):List Rcd→List GI→(Env→Prop)→Env→Prop
 | acc,[],K,E=>okRec bs acc=true∧K E
 | acc,g::l,K,E=>match g.g with
  | none=>goI0 P md g.i (fun ms E'=>drawB P md bs (acc++[(touchI E g.i,wrI E ms g.i)]) l K E') E
  | some (t,b)=>match E.f t with
   | .bool c=>(c=b→goI0 P md g.i (fun ms E'=>drawB P md bs (acc++[(t::touchI E g.i,wrI E ms g.i)]) l K E') E) ∧
    (c≠b→drawB P md bs (acc++[(t::g.d.toList,g.d.toList)]) l K (putO E g.d (.tup [])))
   | .tup []=>drawB P md bs (acc++[(t::g.d.toList,g.d.toList)]) l K (putO E g.d (.tup []))
   | _=>False
def wpB (P:Program) (md:Modes) (ks:Nat):Cmd→(Ex→Env→Prop)→Env→Prop
 | .skip,Q,E=>Q .n E
 | .reg is none,Q,E=>regB P md is (Q .n) (rgE ks (ubOf md) (E.norm ks))
 | .reg is (some bs),Q,E=>drawB P md bs [] is (Q .n) (rgE ks (ubOf md) (E.norm ks))
 | .seq a b,Q,E=>wpB P md ks a (fun x E'=>match x with | .n=>wpB P md ks b Q E' | x=>Q x E') E
 | .cond x a b,Q,E=>match val E x with
  | .bool t=>(t=true→wpB P md ks a Q E)∧(t=false→wpB P md ks b Q E)
  | _=>False
 | .blk id c,Q,E=>wpB P md ks c (fun x E'=>if x=.e id then Q .n E' else Q x E') E
 | .loop c,Q,E=>∃ (D:List Nat) (J:Nat→Env→Prop),(∃ n,J n (hdL ks D (E.norm ks)))∧∀ n E,J n E→wpB P md ks c (fun x E'=>match x with | .n=>∃ m,m<n∧J m (hdL ks D (E'.norm ks)) | x=>Q x E') E
 | .exit id,Q,E=>Q (.e id) E
 | .ret,Q,E=>Q .r E
theorem callG_mono {d:Option Nat} {f:Nat} {xs:List O} {ms:List M} {K K':Env→Prop} {E Eb:Env} {o:Option (O × O)} (hk:∀ E,K E→K' E) (h:callG P d f xs ms K E Eb o):callG P d f xs ms K' E Eb o:=by
 cases o with
 | some q=>exact callK_mono hk h
 | none=>
  obtain ⟨pr,hp,ret,outs,hS,hx,E1,hb,hK⟩:=h
  exact ⟨pr,hp,ret,outs,hS,hx,E1,hb,hk _ hK⟩
theorem goI_A {i:I} {K:List M→Env→Prop} {K':Env→Prop} {E:Env} (h:goI P md i K E) (hK:∀ ms E,K ms E→K' E):stepA P i K' E:=by
 have sp:∀ {d f xs ms} {K:Env→Prop} {E:Env},(∀ E,K E→K' E)→callM P d f xs ms K E→callM P d f xs ms K' E:=by
  rintro d f xs ms K E hk ⟨pr,hp,ret,outs,hS,hx,E1,hb,hK⟩
  exact ⟨pr,hp,ret,outs,hS,hx,E1,hb,hk _ hK⟩
 cases i with
 | call d f xs=>
  simp only [goI] at h
  cases hq:kM (mdOf md f xs) xs with
  | none=>rw [hq] at h; exact .inl ⟨_,_,sp (hK _) h⟩
  | some q=>
   rw [hq] at h
   obtain ⟨h1,h2⟩:=kM_some hq
   exact .inr ⟨_,_,_,h2,h1,callK_mono (hK _) h⟩
 | callv d x xs=>
  simp only [goI] at h
  simp only [stepA]
  cases hv:val E x <;> rw [hv] at h <;> first
   | exact h.elim
   | (obtain ⟨h1,h2,h3⟩:=h; exact ⟨_,h2,h1,sp (hK _) h3⟩)
 | _=>obtain ⟨E',h1,h2⟩:=h; exact ⟨E',h1,hK _ _ h2⟩
theorem goI_D {i:I} {K K':List M→Env→Prop} {E:Env} (h:goI0 P md i K E) (hK:∀ ms E,K ms E→K' ms E):stepD P i K' E:=by
 have sp:∀ {d f xs ms} {K K':Env→Prop},(∀ E,K E→K' E)→callM P d f xs ms K E→callM P d f xs ms K' E:=by
  rintro d f xs ms K K' hk ⟨pr,hp,ret,outs,hS,hx,E1,hb,hK⟩
  exact ⟨pr,hp,ret,outs,hS,hx,E1,hb,hk _ hK⟩
 cases i with
 | call d f xs=>
  simp only [goI0] at h
  cases hq:kM (mdOf md f xs) xs with
  | none=>rw [hq] at h; exact ⟨_,.inl (sp (hK _) h)⟩
  | some q=>
   rw [hq] at h
   obtain ⟨h1,h2⟩:=kM_some hq
   exact ⟨mdOf md f xs,.inr ⟨_,_,h2,h1,callK_mono (hK _) h⟩⟩
 | callv d x xs=>
  simp only [goI0] at h
  simp only [stepD]
  cases hv:val E x <;> rw [hv] at h <;> first
   | exact h.elim
   | (obtain ⟨h1,h2,h3⟩:=h; exact ⟨_,h2,h1,sp (hK _) h3⟩)
 | _=>obtain ⟨E',h1,h2⟩:=h; exact ⟨E',h1,hK _ _ h2⟩
theorem regB_A:∀ (is:List GI) {K:Env→Prop} {E:Env},regB P md is K E→regA P is K E:=by
 intro is
 induction is with
 | nil=>intro K E h; exact h
 | cons g l ih=>
  intro K E h
  simp only [regB] at h
  simp only [regA]
  cases hg:g.g with
  | none=>rw [hg] at h; exact goI_A h fun _ _ h=>ih h
  | some q=>
   obtain ⟨t,b⟩:=q
   rw [hg] at h
   simp only at h
   split at h
   ·rename_i c hc
    exact .inl ⟨c,hc,fun e=>goI_A (h.1 e) fun _ _ h=>ih h,fun e=>ih (h.2 e)⟩
   ·rename_i hc
    exact .inr ⟨hc,ih h⟩
   ·exact h.elim
theorem drawB_A {bs:List Nat}:∀ (is:List GI) {acc:List Rcd} {K:Env→Prop} {E:Env},drawB P md bs acc is K E→drawA P bs acc is K E:=by
 intro is
 induction is with
 | nil=>intro acc K E h; exact h
 | cons g l ih=>
  intro acc K E h
  simp only [drawB] at h
  simp only [drawA]
  cases hg:g.g with
  | none=>rw [hg] at h; exact goI_D h fun _ _ h=>ih h
  | some q=>
   obtain ⟨t,b⟩:=q
   rw [hg] at h
   simp only at h
   split at h
   ·rename_i c hc
    exact .inl ⟨c,hc,fun e=>goI_D (h.1 e) fun _ _ h=>ih h,fun e=>ih (h.2 e)⟩
   ·rename_i hc
    exact .inr ⟨hc,ih h⟩
   ·exact h.elim
theorem wpB_A:∀ (c:Cmd) {Q Q':Ex→Env→Prop} {E:Env},wpB P md ks c Q E→(∀ x E,Q x E→Q' x E)→awp P ks c Q' E:=by
 intro c
 induction c with
 | skip=>intro Q Q' E h hQ; exact hQ _ _ h
 | reg is ord=>
  intro Q Q' E h hQ
  cases ord with
  | none=>
   obtain ⟨E1,h1,h2⟩:=regA_run (regB_A is h)
   exact ⟨_,h2 (Q' .n) (hQ _ _ h1)⟩
  | some bs=>
   obtain ⟨E1,h1,h2⟩:=drawA_det (drawB_A is h)
   exact ⟨_,h2 (Q' .n) (hQ _ _ h1)⟩
 | seq a b iha ihb=>
  intro Q Q' E h hQ
  refine iha h fun x E1 h1=>?_
  cases x with
  | n=>exact ihb h1 hQ
  | r=>exact hQ _ _ h1
  | e id=>exact hQ _ _ h1
 | cond x a b iha ihb=>
  intro Q Q' E h hQ
  simp only [wpB] at h
  split at h
  ·rename_i t ht
   exact ⟨t,ht,fun e=>iha (h.1 e) hQ,fun e=>ihb (h.2 e) hQ⟩
  ·exact h.elim
 | blk id c ih=>
  intro Q Q' E h hQ
  refine ih h fun x E1 h1=>?_
  by_cases e:x=.e id
  ·simp only [e,if_true] at h1 ⊢; exact hQ _ _ h1
  ·simp only [e,if_false] at h1 ⊢; exact hQ _ _ h1
 | loop c ih=>
  intro Q Q' E h hQ
  obtain ⟨D,J,hJ,hr⟩:=h
  refine ⟨D,J,hJ,fun n E hn=>ih (hr n E hn) fun x E1 h1=>?_⟩
  cases x with
  | n=>exact h1
  | r=>exact hQ _ _ h1
  | e id=>exact hQ _ _ h1
 | exit id=>intro Q Q' E h hQ; exact hQ _ _ h
 | ret=>intro Q Q' E h hQ; exact hQ _ _ h
def Fin (rs:List RV) (bs:List Bool) (m:List AV) (ret:AV) (outs:List AV) (x:Ex) (E:Env):Prop:=(x=.r∨x=.n)∧doneE rs bs m ret outs E
def FinEx (rs:List RV) (bs:List Bool) (m:List AV) (R:AV→List AV→Prop) (x:Ex) (E:Env):Prop:=
 (x=.r∨x=.n)∧onO (retG E rs) fun q=>R (retV q.1) (outsE q.2 0 bs m)∧noLkL (retV q.1::outsE q.2 0 bs m)=true
theorem spec_B {f nt:Nat} {rs:List RV} {cmd:Cmd} (hm:P.follows .mixedOrders=true) (hc:compile P f=some (nt,rs,cmd)) (md:Modes) (ks:Nat) (bs:List Bool) {args outs:List AV} {ret:AV}
  (hlen:args.length≤nt∧args.length≤32) (hol:outs.length=args.length) (hroots:rootsOk bs args=true)
  (h:wpB P md ks cmd (Fin rs bs args ret outs) (mkE (initA 0 bs args++initB 0 bs args) [])):Spec P f args ret outs:=
 spec_of hm hc ks bs hlen hol hroots (wpB_A cmd h fun _ _ h=>h)
theorem specEx_B {f nt:Nat} {rs:List RV} {cmd:Cmd} (hm:P.follows .mixedOrders=true) (hc:compile P f=some (nt,rs,cmd)) (md:Modes) (ks:Nat) (bs:List Bool) {args:List AV} {R:AV→List AV→Prop}
  (hlen:args.length≤nt∧args.length≤32) (hroots:rootsOk bs args=true)
  (h:wpB P md ks cmd (FinEx rs bs args R) (mkE (initA 0 bs args++initB 0 bs args) [])):∃ ret outs,R ret outs∧Spec P f args ret outs:=
 spec_ex hm hc ks bs hlen hroots (wpB_A cmd h fun _ _ h=>h)
theorem wpB_mono (c:Cmd):∀ {Q Q':Ex→Env→Prop} {E:Env},wpB P md ks c Q E→(∀ x E,Q x E→Q' x E)→wpB P md ks c Q' E:=by
 have gmono:∀ {i:I} {K K':List M→Env→Prop} {E:Env},goI P md i K E→(∀ ms E,K ms E→K' ms E)→goI P md i K' E:=by
  intro i K K' E h hK
  have sp:∀ {d f xs ms} {K K':Env→Prop} {E:Env},(∀ E,K E→K' E)→callM P d f xs ms K E→callM P d f xs ms K' E:=by
   rintro d f xs ms K K' E hk ⟨pr,hp,ret,outs,hS,hx,E1,hb,hK⟩
   exact ⟨pr,hp,ret,outs,hS,hx,E1,hb,hk _ hK⟩
  cases i with
  | call d f xs=>exact callG_mono (hK _) h
  | callv d x xs=>
   simp only [goI] at h ⊢
   cases hv:val E x <;> rw [hv] at h <;> first
    | exact h.elim
    | (obtain ⟨h1,h2,h3⟩:=h; exact ⟨h1,h2,sp (hK _) h3⟩)
  | _=>obtain ⟨E',h1,h2⟩:=h; exact ⟨E',h1,hK _ _ h2⟩
 have gmono0:∀ {i:I} {K K':List M→Env→Prop} {E:Env},goI0 P md i K E→(∀ ms E,K ms E→K' ms E)→goI0 P md i K' E:=by
  intro i K K' E h hK
  have sp:∀ {d f xs ms} {K K':Env→Prop},(∀ E,K E→K' E)→callM P d f xs ms K E→callM P d f xs ms K' E:=by
   rintro d f xs ms K K' hk ⟨pr,hp,ret,outs,hS,hx,E1,hb,hK⟩
   exact ⟨pr,hp,ret,outs,hS,hx,E1,hb,hk _ hK⟩
  cases i with
  | call d f xs=>exact callG_mono (hK _) h
  | callv d x xs=>
   simp only [goI0] at h ⊢
   cases hv:val E x <;> rw [hv] at h <;> first
    | exact h.elim
    | (obtain ⟨h1,h2,h3⟩:=h; exact ⟨h1,h2,sp (hK _) h3⟩)
  | _=>obtain ⟨E',h1,h2⟩:=h; exact ⟨E',h1,hK _ _ h2⟩
 have rmono:∀ (is:List GI) {K K':Env→Prop} {E:Env},regB P md is K E→(∀ E,K E→K' E)→regB P md is K' E:=by
  intro is
  induction is with
  | nil=>intro K K' E h hK; exact hK _ h
  | cons g l ih=>
   intro K K' E h hK
   simp only [regB] at h ⊢
   cases hg:g.g with
   | none=>rw [hg] at h; exact gmono h fun _ _ h=>ih h hK
   | some q=>
    obtain ⟨t,b⟩:=q
    rw [hg] at h
    simp only at h ⊢
    split at h
    ·exact ⟨fun e=>gmono (h.1 e) fun _ _ h=>ih h hK,fun e=>ih (h.2 e) hK⟩
    ·exact ih h hK
    ·exact h.elim
 have dmono:∀ (is:List GI) {bs:List Nat} {acc:List Rcd} {K K':Env→Prop} {E:Env},drawB P md bs acc is K E→(∀ E,K E→K' E)→drawB P md bs acc is K' E:=by
  intro is
  induction is with
  | nil=>intro bs acc K K' E h hK; exact ⟨h.1,hK _ h.2⟩
  | cons g l ih=>
   intro bs acc K K' E h hK
   simp only [drawB] at h ⊢
   cases hg:g.g with
   | none=>rw [hg] at h; exact gmono0 h fun _ _ h=>ih h hK
   | some q=>
    obtain ⟨t,b⟩:=q
    rw [hg] at h
    simp only at h ⊢
    split at h
    ·exact ⟨fun e=>gmono0 (h.1 e) fun _ _ h=>ih h hK,fun e=>ih (h.2 e) hK⟩
    ·exact ih h hK
    ·exact h.elim
 induction c with
 | skip=>intro Q Q' E h hQ; exact hQ _ _ h
 | reg is ord=>
  intro Q Q' E h hQ
  cases ord with
  | none=>exact rmono is h fun E h=>hQ _ _ h
  | some bs=>exact dmono is h fun E h=>hQ _ _ h
 | seq a b iha ihb=>
  intro Q Q' E h hQ
  refine iha h fun x E1 h1=>?_
  cases x with
  | n=>exact ihb h1 hQ
  | r=>exact hQ _ _ h1
  | e id=>exact hQ _ _ h1
 | cond x a b iha ihb=>
  intro Q Q' E h hQ
  simp only [wpB] at h ⊢
  split at h
  ·exact ⟨fun e=>iha (h.1 e) hQ,fun e=>ihb (h.2 e) hQ⟩
  ·exact h.elim
 | blk id c ih=>
  intro Q Q' E h hQ
  refine ih h fun x E1 h1=>?_
  by_cases e:x=.e id
  ·simp only [e,if_true] at h1 ⊢; exact hQ _ _ h1
  ·simp only [e,if_false] at h1 ⊢; exact hQ _ _ h1
 | loop c ih=>
  intro Q Q' E h hQ
  obtain ⟨D,J,hJ,hr⟩:=h
  refine ⟨D,J,hJ,fun n E hn=>ih (hr n E hn) fun x E1 h1=>?_⟩
  cases x with
  | n=>exact h1
  | r=>exact hQ _ _ h1
  | e id=>exact hQ _ _ h1
 | exit id=>intro Q Q' E h hQ; exact hQ _ _ h
 | ret=>intro Q Q' E h hQ; exact hQ _ _ h
inductive Fr where
 | q (b:Cmd)
 | b (id:Nat)
structure Wk where
 P:Program
 md:Modes
 ks:Nat
 Q:Ex→Env→Prop
def T (w:Wk):List Fr→Ex→Env→Prop
 | [],x,E=>w.Q x E
 | .q b::st,x,E=>match x with
  | .n=>wpB w.P w.md w.ks b (T w st) E
  | x=>T w st x E
 | .b id::st,x,E=>if x=.e id then T w st .n E else T w st x E
def C (w:Wk) (c:Cmd) (st:List Fr) (E:Env):Prop:=wpB w.P w.md w.ks c (T w st) E
def G (w:Wk) (is:List GI) (st:List Fr) (E:Env):Prop:=regB w.P w.md is (T w st .n) E
def X (w:Wk) (is:List GI) (st:List Fr) (o:Option Env):Prop:=onO o (G w is st)
def H (w:Wk) (bs:List Nat) (acc:List Rcd) (is:List GI) (st:List Fr) (E:Env):Prop:=drawB w.P w.md bs acc is (T w st .n) E
def XH (w:Wk) (bs:List Nat) (acc:List Rcd) (is:List GI) (st:List Fr) (o:Option Env):Prop:=onO o (H w bs acc is st)
def CF (w:Wk) (a b:Cmd) (st:List Fr) (E:Env):AV→Prop
 | .bool t=>(t=true→C w a st E)∧(t=false→C w b st E)
 | _=>False
def GF (w:Wk) (b:Bool) (d:Option Nat) (i:I) (is:List GI) (st:List Fr) (E:Env):AV→Prop
 | .bool c=>(c=b→G w (⟨none,d,i⟩::is) st E)∧(c≠b→G w is st (putO E d (.tup [])))
 | .tup []=>G w is st (putO E d (.tup []))
 | _=>False
def H1 (w:Wk) (t:List Nat) (bs:List Nat) (acc:List Rcd) (i:I) (is:List GI) (st:List Fr) (E:Env):Prop:=
 goI0 w.P w.md i (fun ms E'=>H w bs (acc++[(t++touchI E i,wrI E ms i)]) is st E') E
def HF (w:Wk) (bs:List Nat) (acc:List Rcd) (t:Nat) (b:Bool) (d:Option Nat) (i:I) (is:List GI) (st:List Fr) (E:Env):AV→Prop
 | .bool c=>(c=b→H1 w [t] bs acc i is st E)∧(c≠b→H w bs (acc++[(t::d.toList,d.toList)]) is st (putO E d (.tup [])))
 | .tup []=>H w bs (acc++[(t::d.toList,d.toList)]) is st (putO E d (.tup []))
 | _=>False
def Y0 (w:Wk) (d:Option Nat) (f:Nat) (ok:Bool) (pls:List Plc) (is:List GI) (st:List Fr) (args:List AV) (E:Env) (ln:Option (Nat × Nat × Path)):Prop:=callR w.P d f ok pls (G w is st) (args,E,ln)
def YH0 (w:Wk) (d:Option Nat) (f:Nat) (ok:Bool) (pls:List Plc) (bs:List Nat) (acc:List Rcd) (is:List GI) (st:List Fr) (args:List AV) (E:Env) (ln:Option (Nat × Nat × Path)):Prop:=callR w.P d f ok pls (H w bs acc is st) (args,E,ln)
def B (w:Wk) (d:Option Nat) (ret:AV) (is:List GI) (st:List Fr) (o:Option Env):Prop:=onO o fun E'=>G w is st (putO E' d ret)
def BH (w:Wk) (d:Option Nat) (ret:AV) (bs:List Nat) (acc:List Rcd) (is:List GI) (st:List Fr) (o:Option Env):Prop:=onO o fun E'=>H w bs acc is st (putO E' d ret)
def callO (w:Wk) (d:Option Nat) (f:Nat) (xs:List O) (ms:List M) (pls:List Plc) (is:List GI) (st:List Fr):Option (List AV × Env × Option (Nat × Nat × Path))→Prop
 | some (args,E,ln)=>Y0 w d f (pureM E ms xs) pls is st args E ln
 | none=>False
def callOH (w:Wk) (d:Option Nat) (f:Nat) (xs:List O) (ms:List M) (pls:List Plc) (bs:List Nat) (acc:List Rcd) (is:List GI) (st:List Fr):Option (List AV × Env × Option (Nat × Nat × Path))→Prop
 | some (args,E,ln)=>YH0 w d f (pureM E ms xs) pls bs acc is st args E ln
 | none=>False
def YK0 (w:Wk) (d:Option Nat) (f:Nat) (is:List GI) (st:List Fr) (cs ds:List AV) (E:Env):Prop:=callKR w.P d f (G w is st) cs ds E
def YKH0 (w:Wk) (d:Option Nat) (f:Nat) (bs:List Nat) (acc:List Rcd) (is:List GI) (st:List Fr) (cs ds:List AV) (E:Env):Prop:=callKR w.P d f (H w bs acc is st) cs ds E
def callKO (w:Wk) (d:Option Nat) (f:Nat) (is:List GI) (st:List Fr) (E:Env) (x y:AV) (o:Option (AV × Env)):Prop:=callKG w.P d f (G w is st) E x y o
def callKOH (w:Wk) (d:Option Nat) (f:Nat) (bs:List Nat) (acc:List Rcd) (is:List GI) (st:List Fr) (E:Env) (x y:AV) (o:Option (AV × Env)):Prop:=callKG w.P d f (H w bs acc is st) E x y o
def callS (w:Wk) (e:Option Nat) (f:Nat) (xs:List O) (is:List GI) (st:List Fr) (E:Env):Option (O × O)→Prop
 | none=>callO w e f xs (mdOf w.md f xs) (plcs (blankE E (blOf w.md f)) 0 (mdOf w.md f xs) xs) is st (prep (blankE E (blOf w.md f)) (mdOf w.md f xs) xs)
 | some q=>callKO w e f is st E (val E q.1) (val E q.2) (gathO E q.1)
def callSH (w:Wk) (t:List Nat) (bs:List Nat) (acc:List Rcd) (e:Option Nat) (f:Nat) (xs:List O) (is:List GI) (st:List Fr) (E:Env):Option (O × O)→Prop
 | none=>callOH w e f xs (mdOf w.md f xs) (plcs E 0 (mdOf w.md f xs) xs) bs (acc++[(t++touchI E (.call e f xs),wrI E (mdOf w.md f xs) (.call e f xs))]) is st (prep E (mdOf w.md f xs) xs)
 | some q=>callKOH w e f bs (acc++[(t++touchI E (.call e f xs),wrI E (mdOf w.md f xs) (.call e f xs))]) is st E (val E q.1) (val E q.2) (gathO E q.1)
def callvO (w:Wk) (d:Option Nat) (xs:List O) (is:List GI) (st:List Fr) (E:Env):AV→Prop
 | .fn f caps=>ownsL caps=false∧(mdOf w.md f xs).length=xs.length∧callO w d f (xs++caps.map .c) (mdOf w.md f xs++caps.map fun _=>M.b) (plcs E 0 (mdOf w.md f xs++caps.map fun _=>M.b) (xs++caps.map .c)) is st (prep E (mdOf w.md f xs++caps.map fun _=>M.b) (xs++caps.map .c))
 | _=>False
def callvOH (w:Wk) (d:Option Nat) (xs:List O) (bs:List Nat) (acc:List Rcd) (is:List GI) (st:List Fr) (E:Env):AV→Prop
 | .fn f caps=>ownsL caps=false∧(mdOf w.md f xs).length=xs.length∧callOH w d f (xs++caps.map .c) (mdOf w.md f xs++caps.map fun _=>M.b) (plcs E 0 (mdOf w.md f xs++caps.map fun _=>M.b) (xs++caps.map .c)) bs acc is st (prep E (mdOf w.md f xs++caps.map fun _=>M.b) (xs++caps.map .c))
 | _=>False
section
variable {w:Wk} {E:Env} {st:List Fr} {is:List GI} {bs:List Nat} {acc:List Rcd}
theorem C_skip:C w .skip st E=T w st .n E:=rfl
theorem C_reg:C w (.reg is none) st E=G w is st (rgE w.ks (ubOf w.md) (E.norm w.ks)):=rfl
theorem C_regd:C w (.reg is (some bs)) st E=H w bs [] is st (rgE w.ks (ubOf w.md) (E.norm w.ks)):=rfl
theorem C_seq {a b:Cmd}:C w (.seq a b) st E=C w a (.q b::st) E:=by
 unfold C
 simp only [wpB]
 congr 1
theorem C_blk {i:Nat} {c:Cmd}:C w (.blk i c) st E=C w c (.b i::st) E:=by
 unfold C
 simp only [wpB]
 congr 1
theorem C_exit {i:Nat}:C w (.exit i) st E=T w st (.e i) E:=rfl
theorem C_ret:C w .ret st E=T w st .r E:=rfl
theorem C_cond {x:O} {a b:Cmd}:C w (.cond x a b) st E=CF w a b st E (val E x):=rfl
theorem CF_t {a b:Cmd}:CF w a b st E (.bool true)=C w a st E:=by simp [CF]
theorem CF_f {a b:Cmd}:CF w a b st E (.bool false)=C w b st E:=by simp [CF]
theorem T_nil {x:Ex}:T w [] x E=w.Q x E:=by cases x <;> rfl
theorem T_qn {b:Cmd}:T w (.q b::st) .n E=C w b st E:=rfl
theorem T_qr {b:Cmd}:T w (.q b::st) .r E=T w st .r E:=rfl
theorem T_qe {b:Cmd} {i:Nat}:T w (.q b::st) (.e i) E=T w st (.e i) E:=rfl
theorem T_bn {i:Nat}:T w (.b i::st) .n E=T w st .n E:=by simp [T]
theorem T_br {i:Nat}:T w (.b i::st) .r E=T w st .r E:=by simp [T]
theorem T_be {i j:Nat}:T w (.b i::st) (.e j) E=if j=i then T w st .n E else T w st (.e j) E:=by simp [T]
theorem G_nil:G w [] st E=T w st .n E:=rfl
theorem G_op {d:Option Nat} {i:I} (h:i.isCall=false):G w (⟨none,d,i⟩::is) st E=X w is st (ev E i):=by
 cases i <;> first | rfl | cases h
theorem G_call {d e:Option Nat} {f:Nat} {xs:List O}:G w (⟨none,d,.call e f xs⟩::is) st E=callS w e f xs is st E (kM (mdOf w.md f xs) xs):=by
 show callG _ _ _ _ _ _ _ _ _=_
 generalize kM (mdOf w.md f xs) xs=q
 cases q with
 | some q=>rfl
 | none=>
  simp only [callG,callS]
  unfold callM
  generalize prep (blankE E (blOf w.md f)) (mdOf w.md f xs) xs=o
  cases o with
  | none=>simp [onO,callO]
  | some pr=>simp only [on_some]; rfl
theorem G_callv {d e:Option Nat} {x:O} {xs:List O}:G w (⟨none,d,.callv e x xs⟩::is) st E=callvO w e xs is st E (val E x):=by
 unfold G
 simp only [regB,goI]
 generalize val E x=a
 cases a with
 | fn f caps=>
  simp only [callvG,callvO,callM]
  congr 2
  generalize prep E (mdOf w.md f xs++List.map (fun _=>M.b) caps) (xs++List.map O.c caps)=o
  cases o with
  | none=>simp [onO,callO]
  | some pr=>simp only [on_some]; rfl
 | _=>rfl
theorem G_g {t:Nat} {b:Bool} {d:Option Nat} {i:I}:G w (⟨some (t,b),d,i⟩::is) st E=GF w b d i is st E (E.f t):=rfl
theorem GF_t {d:Option Nat} {i:I}:GF w true d i is st E (.bool true)=G w (⟨none,d,i⟩::is) st E:=by simp [GF]
theorem GF_tf {d:Option Nat} {i:I}:GF w true d i is st E (.bool false)=G w is st (putO E d (.tup [])):=by simp [GF]
theorem GF_s {b:Bool} {d:Option Nat} {i:I}:GF w b d i is st E (.tup [])=G w is st (putO E d (.tup [])):=rfl
theorem GF_f {d:Option Nat} {i:I}:GF w false d i is st E (.bool false)=G w (⟨none,d,i⟩::is) st E:=by simp [GF]
theorem GF_ft {d:Option Nat} {i:I}:GF w false d i is st E (.bool true)=G w is st (putO E d (.tup [])):=by simp [GF]
theorem X_some:X w is st (some E)=G w is st E:=on_some E
theorem X_none:X w is st none=False:=on_none
theorem X_pos {c:Prop} [Decidable c] {a b:Option Env} (h:c):X w is st (if c then a else b)=X w is st a:=by rw [if_pos h]
theorem X_neg {c:Prop} [Decidable c] {a b:Option Env} (h:¬ c):X w is st (if c then a else b)=X w is st b:=by rw [if_neg h]
theorem H_nil:H w bs acc [] st E=(okRec bs acc=true∧T w st .n E):=rfl
theorem H_n {d:Option Nat} {i:I}:H w bs acc (⟨none,d,i⟩::is) st E=H1 w [] bs acc i is st E:=rfl
theorem H_g {t:Nat} {b:Bool} {d:Option Nat} {i:I}:H w bs acc (⟨some (t,b),d,i⟩::is) st E=HF w bs acc t b d i is st E (E.f t):=rfl
theorem HF_t {t:Nat} {d:Option Nat} {i:I}:HF w bs acc t true d i is st E (.bool true)=H1 w [t] bs acc i is st E:=by simp [HF]
theorem HF_tf {t:Nat} {d:Option Nat} {i:I}:HF w bs acc t true d i is st E (.bool false)=H w bs (acc++[(t::d.toList,d.toList)]) is st (putO E d (.tup [])):=by simp [HF]
theorem HF_f {t:Nat} {d:Option Nat} {i:I}:HF w bs acc t false d i is st E (.bool false)=H1 w [t] bs acc i is st E:=by simp [HF]
theorem HF_ft {t:Nat} {d:Option Nat} {i:I}:HF w bs acc t false d i is st E (.bool true)=H w bs (acc++[(t::d.toList,d.toList)]) is st (putO E d (.tup [])):=by simp [HF]
theorem H1_op {t:List Nat} {i:I} (h:i.isCall=false):H1 w t bs acc i is st E=XH w bs (acc++[(t++touchI E i,wrI E [] i)]) is st (ev E i):=by
 cases i <;> first | rfl | cases h
theorem H1_call {t:List Nat} {e:Option Nat} {f:Nat} {xs:List O}:H1 w t bs acc (.call e f xs) is st E=callSH w t bs acc e f xs is st E (kM (mdOf w.md f xs) xs):=by
 show callG _ _ _ _ _ _ _ _ _=_
 generalize kM (mdOf w.md f xs) xs=q
 cases q with
 | some q=>rfl
 | none=>
  simp only [callG,callSH]
  unfold callM
  generalize prep E (mdOf w.md f xs) xs=o
  cases o with
  | none=>simp [onO,callOH]
  | some pr=>simp only [on_some]; rfl
theorem H1_callv {t:List Nat} {e:Option Nat} {x:O} {xs:List O} {f:Nat} {caps:List AV} (hx:val E x=.fn f caps):H1 w t bs acc (.callv e x xs) is st E =
  callvOH w e xs bs (acc++[(t++touchI E (.callv e x xs),wrI E (mdOf w.md f xs) (.callv e x xs))]) is st E (.fn f caps):=by
 unfold H1
 simp only [goI0]
 rw [hx]
 simp only [callvG,callvOH,callM]
 congr 2
 generalize prep E (mdOf w.md f xs++List.map (fun _=>M.b) caps) (xs++List.map O.c caps)=o
 cases o with
 | none=>simp [onO,callOH]
 | some pr=>simp only [on_some]; rfl
theorem XH_some:XH w bs acc is st (some E)=H w bs acc is st E:=on_some E
theorem XH_none:XH w bs acc is st none=False:=on_none
theorem XH_pos {c:Prop} [Decidable c] {a b:Option Env} (h:c):XH w bs acc is st (if c then a else b)=XH w bs acc is st a:=by rw [if_pos h]
theorem XH_neg {c:Prop} [Decidable c] {a b:Option Env} (h:¬ c):XH w bs acc is st (if c then a else b)=XH w bs acc is st b:=by rw [if_neg h]
theorem B_some {d:Option Nat} {ret:AV}:B w d ret is st (some E)=G w is st (putO E d ret):=on_some E
theorem BH_some {d:Option Nat} {ret:AV}:BH w d ret bs acc is st (some E)=H w bs acc is st (putO E d ret):=on_some E
theorem B_pos {d:Option Nat} {ret:AV} {c:Prop} [Decidable c] {a b:Option Env} (h:c):B w d ret is st (if c then a else b)=B w d ret is st a:=by rw [if_pos h]
theorem BH_pos {d:Option Nat} {ret:AV} {c:Prop} [Decidable c] {a b:Option Env} (h:c):BH w d ret bs acc is st (if c then a else b)=BH w d ret bs acc is st a:=by rw [if_pos h]
theorem call_i {d:Option Nat} {f:Nat} {ok:Bool} {args outs:List AV} {ret:AV} {ln:Option (Nat × Nat × Path)} {P:Program} (hP:w.P=P) (hS:Spec P f args ret outs)
  (hx:(extsL (ret::outs)=false∧∀ x ∈ vlvL (ret::outs),x ∈ vlvL args)∨ok=true) {pls:List Plc} (h:B w d ret is st (backA E ln pls outs)):Y0 w d f ok pls is st args E ln:=⟨ret,outs,hP ▸ hS,hx,h⟩
theorem callH_i {d:Option Nat} {f:Nat} {ok:Bool} {args outs:List AV} {ret:AV} {ln:Option (Nat × Nat × Path)} {P:Program} (hP:w.P=P) (hS:Spec P f args ret outs)
  (hx:(extsL (ret::outs)=false∧∀ x ∈ vlvL (ret::outs),x ∈ vlvL args)∨ok=true) {pls:List Plc} (h:BH w d ret bs acc is st (backA E ln pls outs)):YH0 w d f ok pls bs acc is st args E ln:=⟨ret,outs,hP ▸ hS,hx,h⟩
theorem if_d {a b:Cmd} (c:Prop) [Decidable c] (h1:c→C w a st E) (h2:¬ c→C w b st E):CF w a b st E (.bool (decide c)):=⟨fun h=>h1 (by simpa using h),fun h=>h2 (by simpa using h)⟩
theorem CF_not {a b:Cmd} {c:Bool}:CF w a b st E (.bool (!c))=CF w b a st E (.bool c):=by cases c <;> simp [CF]
theorem GF_not {d:Option Nat} {i:I} {b c:Bool}:GF w b d i is st E (.bool (!c))=GF w (!b) d i is st E (.bool c):=by cases c <;> cases b <;> simp [GF]
theorem gd_d {b:Bool} {d:Option Nat} {i:I} (c:Prop) [Decidable c] (h1:c→GF w b d i is st E (.bool true)) (h2:¬ c→GF w b d i is st E (.bool false)):GF w b d i is st E (.bool (decide c)):=by
 by_cases h:c
 ·simpa [h] using h1 h
 ·simpa [h] using h2 h
theorem hd_d {t:Nat} {b:Bool} {d:Option Nat} {i:I} (c:Prop) [Decidable c] (h1:c→HF w bs acc t b d i is st E (.bool true)) (h2:¬ c→HF w bs acc t b d i is st E (.bool false)):HF w bs acc t b d i is st E (.bool (decide c)):=by
 by_cases h:c
 ·simpa [h] using h1 h
 ·simpa [h] using h2 h
theorem if_i {a b:Cmd} (c:Bool) (h1:c=true→C w a st E) (h2:c=false→C w b st E):CF w a b st E (.bool c):=⟨h1,h2⟩
theorem gd_i {b:Bool} {d:Option Nat} {i:I} (c:Bool) (h1:c=true→GF w b d i is st E (.bool true)) (h2:c=false→GF w b d i is st E (.bool false)):GF w b d i is st E (.bool c):=by
 cases c
 ·exact h2 rfl
 ·exact h1 rfl
theorem hd_i {t:Nat} {b:Bool} {d:Option Nat} {i:I} (c:Bool) (h1:c=true→HF w bs acc t b d i is st E (.bool true)) (h2:c=false→HF w bs acc t b d i is st E (.bool false)):HF w bs acc t b d i is st E (.bool c):=by
 cases c
 ·exact h2 rfl
 ·exact h1 rfl
end
def mset (a:AV) (d:Nat) (m:List (Nat × Nat × Nat)):List (Nat × Nat × Nat):=if a.isRoot=true then setM m d ((getM m d).1+1,(getM m d).2+1) else m
def mkV (K:Nat) (l r:List (Nat × AV)) (m:List (Nat × Nat × Nat)):Env:=⟨fun t=>if keepB K t=true then getL l t else getL r t,getM m⟩
def fixLs (E:Env) (K:Nat):List (Nat × AV)→List (Nat × AV)
 | []=>[]
 | (k,a)::l=>(k,fixA E K a)::fixLs E K l
theorem mkV_f (K:Nat) (l r:List (Nat × AV)) (m:List (Nat × Nat × Nat)) (t:Nat):(mkV K l r m).f t=if keepB K t=true then getL l t else getL r t:=rfl
theorem mkV_ep (K:Nat) (l r:List (Nat × AV)) (m:List (Nat × Nat × Nat)) (t:Nat):(mkV K l r m).ep t=getM m t:=rfl
theorem mset_ep (a:AV) (d t:Nat) (m:List (Nat × Nat × Nat)):getM (mset a d m) t=if t=d∧a.isRoot=true then ((getM m d).1+1,(getM m d).2+1) else getM m t:=by
 unfold mset
 by_cases h:a.isRoot=true
 ·simp only [h,and_true,if_true,getM_set]
 ·simp [h]
theorem mkV_put (K:Nat) (l r:List (Nat × AV)) (m:List (Nat × Nat × Nat)) (d:Nat) (x:AV) :
  (mkV K l r m).put d x=if keepB K d=true then mkV K (setL l d x) r (mset (getL l d) d m) else mkV K l ((d,x)::r) (mset (getL r d) d m):=by
 by_cases hk:keepB K d=true
 ·rw [if_pos hk]
  apply Env.ext'
  ·intro t
   show (if t=d then x else if keepB K t=true then getL l t else getL r t)=if keepB K t=true then getL (setL l d x) t else getL r t
   rw [getL_set]
   by_cases e:t=d
   ·subst e; simp [hk]
   ·simp [e]
  ·intro t
   show (if t=d∧(if keepB K d=true then getL l d else getL r d).isRoot=true then ((getM m d).1+1,(getM m d).2+1) else getM m t)=getM (mset (getL l d) d m) t
   rw [mset_ep,if_pos hk]
 ·rw [if_neg hk]
  apply Env.ext'
  ·intro t
   show (if t=d then x else if keepB K t=true then getL l t else getL r t)=if keepB K t=true then getL l t else getL ((d,x)::r) t
   by_cases e:t=d
   ·subst e; simp [hk,getL]
   ·simp [e,getL,Ne.symm e]
  ·intro t
   show (if t=d∧(if keepB K d=true then getL l d else getL r d).isRoot=true then ((getM m d).1+1,(getM m d).2+1) else getM m t)=getM (mset (getL r d) d m) t
   rw [mset_ep,if_neg hk]
theorem mkV_upd (K:Nat) (l r:List (Nat × AV)) (m:List (Nat × Nat × Nat)) (d:Nat) (x:AV) :
  (mkV K l r m).upd d x=if keepB K d=true then mkV K (setL l d x) r (setM m d ((getM m d).1,(getM m d).2+1)) else mkV K l (setL r d x) (setM m d ((getM m d).1,(getM m d).2+1)):=by
 by_cases hk:keepB K d=true
 ·rw [if_pos hk]
  apply Env.ext'
  ·intro t
   show (if t=d then x else if keepB K t=true then getL l t else getL r t)=if keepB K t=true then getL (setL l d x) t else getL r t
   rw [getL_set]
   by_cases e:t=d
   ·subst e; simp [hk]
   ·simp [e]
  ·intro t
   show (if t=d then ((getM m d).1,(getM m d).2+1) else getM m t)=_
   rw [mkV_ep,getM_set]
 ·rw [if_neg hk]
  apply Env.ext'
  ·intro t
   show (if t=d then x else if keepB K t=true then getL l t else getL r t)=if keepB K t=true then getL l t else getL (setL r d x) t
   rw [getL_set]
   by_cases e:t=d
   ·subst e; simp [hk]
   ·simp [e]
  ·intro t
   show (if t=d then ((getM m d).1,(getM m d).2+1) else getM m t)=_
   rw [mkV_ep,getM_set]
theorem mkV_set0 (K:Nat) (l r:List (Nat × AV)) (m:List (Nat × Nat × Nat)) (d:Nat) (x:AV) :
  (mkV K l r m).set0 d x=if keepB K d=true then mkV K (setL l d x) r m else mkV K l (setL r d x) m:=by
 by_cases hk:keepB K d=true
 ·rw [if_pos hk]
  apply Env.ext'
  ·intro t
   show (if t=d then x else if keepB K t=true then getL l t else getL r t)=if keepB K t=true then getL (setL l d x) t else getL r t
   rw [getL_set]
   by_cases e:t=d
   ·subst e; simp [hk]
   ·simp [e]
  ·intro t; rfl
 ·rw [if_neg hk]
  apply Env.ext'
  ·intro t
   show (if t=d then x else if keepB K t=true then getL l t else getL r t)=if keepB K t=true then getL l t else getL (setL r d x) t
   rw [getL_set]
   by_cases e:t=d
   ·subst e; simp [hk]
   ·simp [e]
  ·intro t; rfl
theorem fixLs_get (E:Env) (K t:Nat):∀ l:List (Nat × AV),getL (fixLs E K l) t=fixA E K (getL l t):=by
 intro l
 induction l with
 | nil=>rfl
 | cons p l ih=>
  obtain ⟨k,a⟩:=p
  simp only [fixLs,getL,ih]
  split <;> rfl
theorem mkV_norm (K:Nat) (l r:List (Nat × AV)) (m:List (Nat × Nat × Nat)):(mkV K l r m).norm K=mkV K (fixLs (mkV K l r m) K l) [] []:=by
 apply Env.ext'
 ·intro t
  show (if keepB K t=true then fixA (mkV K l r m) K (if keepB K t=true then getL l t else getL r t) else .undef)=if keepB K t=true then getL (fixLs (mkV K l r m) K l) t else getL [] t
  rw [fixLs_get]
  by_cases hk:keepB K t=true <;> simp [hk,getL]
 ·intro t; rfl
theorem mkE_V (K:Nat) (l:List (Nat × AV)):mkE l []=mkV K l l []:=by
 apply Env.ext'
 ·intro t
  show getL l t=if keepB K t=true then getL l t else getL l t
  simp
 ·intro t; rfl
def setsL:List (Nat × AV)→List (Nat × AV)→List (Nat × AV)
 | l,[]=>l
 | l,(d,x)::v=>setsL (setL l d x) v
def LQ {σ:Type} (K:Nat) (l:List (Nat × AV)) (v:σ→List (Nat × AV)) (J:σ→Prop) (μ:σ→Nat) (s:σ) (Q:Ex→Env→Prop):Ex→Env→Prop:=fun x E'=>match x with
 | .n=>∃ s',E'.norm K=mkV K (setsL l (v s')) [] []∧J s'∧μ s'<μ s
 | x=>Q x E'
def LQD {σ:Type} (D:List Nat) (K:Nat) (l:List (Nat × AV)) (v:σ→List (Nat × AV)) (J:σ→Prop) (μ:σ→Nat) (s:σ) (Q:Ex→Env→Prop):Ex→Env→Prop:=fun x E'=>match x with
 | .n=>∃ s',hdL K D (E'.norm K)=mkV K (setsL l (v s')) [] []∧J s'∧μ s'<μ s
 | x=>Q x E'
section
variable {w:Wk} {E:Env} {st:List Fr} {is:List GI} {bs:List Nat} {acc:List Rcd}
def LHD (w:Wk) (c:Cmd) (st:List Fr) (D:List Nat) (E:Env):Prop:=∃ J:Nat→Env→Prop,(∃ n,J n E)∧∀ n E,J n E→wpB w.P w.md w.ks c (fun x E'=>match x with | .n=>∃ m,m<n∧J m (hdL w.ks D (E'.norm w.ks)) | x=>T w st x E') E
def LH (w:Wk) (c:Cmd) (st:List Fr) (E:Env):Prop:=∃ D:List Nat,LHD w c st D (hdL w.ks D E)
theorem LH_D {c:Cmd} (D:List Nat) (h:LHD w c st D (hdL w.ks D E)):LH w c st E:=⟨D,h⟩
theorem C_loop {c:Cmd}:C w (.loop c) st E=LH w c st (E.norm w.ks):=rfl
theorem loop_i {σ:Type} (v:σ→List (Nat × AV)) (J:σ→Prop) (μ:σ→Nat) (s0:σ) {c:Cmd} {P:Program} {md:Modes} {ks:Nat} {l:List (Nat × AV)} (hP:w.P=P) (hm:w.md=md) (hk:w.ks=ks) (hE:setsL l (v s0)=l) (h0:J s0)
  (step:∀ s,J s→∀ w':Wk,w'.P=P→w'.md=md→w'.ks=ks→w'.Q=LQ ks l v J μ s (T w st)→C w' c [] (mkV ks (setsL l (v s)) [] [])):LH w c st (mkV ks l [] []):=by
 refine ⟨[],fun n F=>∃ s,F=mkV ks (setsL l (v s)) [] []∧J s∧μ s=n,⟨_,s0,by rw [hE]; rfl,h0,rfl⟩,?_⟩
 rintro n F ⟨s,rfl,hs,rfl⟩
 refine wpB_mono c (step s hs { w with Q:=LQ ks l v J μ s (T w st) } hP hm hk rfl) fun x E1 h1=>?_
 rw [T_nil] at h1
 cases x with
 | n=>obtain ⟨s',e1,e2,e3⟩:=h1; rw [hk]; exact ⟨_,e3,s',e1,e2,rfl⟩
 | r=>exact h1
 | e id=>exact h1
theorem loop_d {σ:Type} (D:List Nat) (v:σ→List (Nat × AV)) (J:σ→Prop) (μ:σ→Nat) (s0:σ) {c:Cmd} {P:Program} {md:Modes} {ks:Nat} {l:List (Nat × AV)} (hP:w.P=P) (hm:w.md=md) (hk:w.ks=ks) (hE:setsL l (v s0)=l) (h0:J s0)
  (step:∀ s,J s→∀ w':Wk,w'.P=P→w'.md=md→w'.ks=ks→w'.Q=LQD D ks l v J μ s (T w st)→C w' c [] (mkV ks (setsL l (v s)) [] [])):LHD w c st D (mkV ks l [] []):=by
 refine ⟨fun n F=>∃ s,F=mkV ks (setsL l (v s)) [] []∧J s∧μ s=n,⟨_,s0,by rw [hE],h0,rfl⟩,?_⟩
 rintro n F ⟨s,rfl,hs,rfl⟩
 refine wpB_mono c (step s hs { w with Q:=LQD D ks l v J μ s (T w st) } hP hm hk rfl) fun x E1 h1=>?_
 rw [T_nil] at h1
 cases x with
 | n=>obtain ⟨s',e1,e2,e3⟩:=h1; rw [hk]; exact ⟨_,e3,s',e1,e2,rfl⟩
 | r=>exact h1
 | e id=>exact h1
end
theorem spec_C {P:Program} {f nt:Nat} {rs:List RV} {cmd:Cmd} (hm:P.follows .mixedOrders=true) (hc:compile P f=some (nt,rs,cmd)) (md:Modes) (ks:Nat) (bs:List Bool) {args outs:List AV} {ret:AV}
  (hlen:args.length≤nt∧args.length≤32) (hol:outs.length=args.length) (hroots:rootsOk bs args=true)
  (h:∀ w:Wk,w.P=P→w.md=md→w.ks=ks→w.Q=Fin rs bs args ret outs→C w cmd [] (mkV ks (initA 0 bs args++initB 0 bs args) (initA 0 bs args++initB 0 bs args) [])):Spec P f args ret outs:=by
 refine spec_B hm hc md ks bs hlen hol hroots (wpB_mono cmd ?_ fun _ _ h=>h)
 rw [mkE_V ks]
 exact wpB_mono cmd (h ⟨P,md,ks,Fin rs bs args ret outs⟩ rfl rfl rfl rfl) fun x E hx=>by rw [T_nil] at hx; exact hx
theorem specEx_C {P:Program} {f nt:Nat} {rs:List RV} {cmd:Cmd} (hm:P.follows .mixedOrders=true) (hc:compile P f=some (nt,rs,cmd)) (md:Modes) (ks:Nat) (bs:List Bool) {args:List AV} {R:AV→List AV→Prop}
  (hlen:args.length≤nt∧args.length≤32) (hroots:rootsOk bs args=true)
  (h:∀ w:Wk,w.P=P→w.md=md→w.ks=ks→w.Q=FinEx rs bs args R→C w cmd [] (mkV ks (initA 0 bs args++initB 0 bs args) (initA 0 bs args++initB 0 bs args) [])):∃ ret outs,R ret outs∧Spec P f args ret outs:=by
 refine specEx_B hm hc md ks bs hlen hroots (wpB_mono cmd ?_ fun _ _ h=>h)
 rw [mkE_V ks]
 exact wpB_mono cmd (h ⟨P,md,ks,FinEx rs bs args R⟩ rfl rfl rfl rfl) fun x E hx=>by rw [T_nil] at hx; exact hx
end Go.Proofs.YtjmnolhflcjpgaaGreat.Awp
namespace Go.Proofs.YtjmnolhflcjpgaaGreat.Awp
set_option linter.unusedVariables false
set_option linter.unusedSimpArgs false
set_option maxRecDepth 100000
theorem bin_eql (k:IntKind) (a b:Int):binV .eql (.int k a) (.int k b)=some (.bool (decide (a=b))):=by
 have h:(a == b)=decide (a=b):=by rw [Bool.eq_iff_iff]; simp
 simp [binV,isSh,binI,h]
theorem bin_neq (k:IntKind) (a b:Int):binV .neq (.int k a) (.int k b)=some (.bool (!decide (a=b))):=by
 have h:(a == b)=decide (a=b):=by rw [Bool.eq_iff_iff]; simp
 simp [binV,isSh,binI,bne,h]
theorem bin_eqs (a b:List UInt8):binV .eql (.str a) (.str b)=some (.bool (decide (a=b))):=by
 have h:(a == b)=decide (a=b):=by rw [Bool.eq_iff_iff]; simp
 simp [binV,binS,h]
theorem bin_nes (a b:List UInt8):binV .neq (.str a) (.str b)=some (.bool (!decide (a=b))):=by
 have h:(a == b)=decide (a=b):=by rw [Bool.eq_iff_iff]; simp
 simp [binV,binS,h]
theorem S1 :
 (AV.owns AV.undef=false) ∧
 (∀ (b:Bool),AV.owns (AV.bool b)=false) ∧
 (∀ (k:IntKind) (n:Int),AV.owns (AV.int k n)=false) ∧
 (∀ (s:List UInt8),AV.owns (AV.str s)=false) ∧
 (∀ (s:Nat) (es:List (List TV)),AV.owns (AV.own s es)=true) ∧
 (∀ (s:Nat) (es:List (List TV)),AV.owns (AV.ext s es)=false) ∧
 (∀ (v:Value) (s:Nat) (es:List (List TV)),AV.owns (AV.extv v s es)=false) ∧
 (∀ (cs:List AV),AV.owns (AV.box cs)=true) ∧
 (∀ (cs:List TV),AV.owns (AV.xbox cs)=false) ∧
 (∀ (cs:List AV),AV.owns (AV.agg cs)=ownsL cs) ∧
 (∀ (cs:List AV),AV.owns (AV.tup cs)=ownsL cs) ∧
 (∀ (r e:Nat) (p:Path),AV.owns (AV.lnk r e p)=false) ∧
 (∀ (r e:Nat) (p:Path) (s lo n:Nat),AV.owns (AV.sub r e p s lo n)=false) ∧
 (∀ (r e:Nat) (p:Path) (st:St),AV.owns (AV.ref r e p st)=false) ∧
 (∀ (f:Nat) (cs:List AV),AV.owns (AV.fn f cs)=ownsL cs) ∧
 (ownsL []=false) ∧
 (∀ (a:AV) (l:List AV),ownsL (a::l)=(AV.owns a || ownsL l)) ∧
 (AV.isRoot AV.undef=false) ∧
 (∀ (b:Bool),AV.isRoot (AV.bool b)=false) ∧
 (∀ (k:IntKind) (n:Int),AV.isRoot (AV.int k n)=false) ∧
 (∀ (s:List UInt8),AV.isRoot (AV.str s)=false) ∧
 (∀ (s:Nat) (es:List (List TV)),AV.isRoot (AV.own s es)=true) ∧
 (∀ (s:Nat) (es:List (List TV)),AV.isRoot (AV.ext s es)=false) ∧
 (∀ (v:Value) (s:Nat) (es:List (List TV)),AV.isRoot (AV.extv v s es)=false) ∧
 (∀ (cs:List AV),AV.isRoot (AV.box cs)=true) ∧
 (∀ (cs:List TV),AV.isRoot (AV.xbox cs)=false) ∧
 (∀ (cs:List AV),AV.isRoot (AV.agg cs)=false) ∧
 (∀ (cs:List AV),AV.isRoot (AV.tup cs)=false) ∧
 (∀ (r e:Nat) (p:Path),AV.isRoot (AV.lnk r e p)=false) ∧
 (∀ (r e:Nat) (p:Path) (s lo n:Nat),AV.isRoot (AV.sub r e p s lo n)=false) ∧
 (∀ (r e:Nat) (p:Path) (st:St),AV.isRoot (AV.ref r e p st)=false) ∧
 (∀ (f:Nat) (cs:List AV),AV.isRoot (AV.fn f cs)=false) ∧
 (cellsOf AV.undef=[AV.undef]) ∧
 (∀ (b:Bool),cellsOf (AV.bool b)=[AV.bool b]) ∧
 (∀ (k:IntKind) (n:Int),cellsOf (AV.int k n)=[AV.int k n]) ∧
 (∀ (s:List UInt8),cellsOf (AV.str s)=[AV.str s]) ∧
 (∀ (s:Nat) (es:List (List TV)),cellsOf (AV.own s es)=[AV.own s es]) ∧
 (∀ (s:Nat) (es:List (List TV)),cellsOf (AV.ext s es)=[AV.ext s es]) ∧
 (∀ (v:Value) (s:Nat) (es:List (List TV)),cellsOf (AV.extv v s es)=[AV.extv v s es]) ∧
 (∀ (cs:List AV),cellsOf (AV.box cs)=[AV.box cs]) ∧
 (∀ (cs:List TV),cellsOf (AV.xbox cs)=[AV.xbox cs]) ∧
 (∀ (cs:List AV),cellsOf (AV.agg cs)=cs) ∧
 (∀ (cs:List AV),cellsOf (AV.tup cs)=[AV.tup cs]) ∧
 (∀ (r e:Nat) (p:Path),cellsOf (AV.lnk r e p)=[AV.lnk r e p]) ∧
 (∀ (r e:Nat) (p:Path) (s lo n:Nat),cellsOf (AV.sub r e p s lo n)=[AV.sub r e p s lo n]) ∧
 (∀ (r e:Nat) (p:Path) (st:St),cellsOf (AV.ref r e p st)=[AV.ref r e p st]) ∧
 (∀ (f:Nat) (cs:List AV),cellsOf (AV.fn f cs)=[AV.fn f cs]) ∧
 (plain AV.undef=false) ∧
 (∀ (b:Bool),plain (AV.bool b)=true) ∧
 (∀ (k:IntKind) (n:Int),plain (AV.int k n)=true) ∧
 (∀ (s:List UInt8),plain (AV.str s)=true) ∧
 (∀ (s:Nat) (es:List (List TV)),plain (AV.own s es)=true) ∧
 (∀ (s:Nat) (es:List (List TV)),plain (AV.ext s es)=true) ∧
 (∀ (v:Value) (s:Nat) (es:List (List TV)),plain (AV.extv v s es)=true) ∧
 (∀ (cs:List AV),plain (AV.box cs)=true) ∧
 (∀ (cs:List TV),plain (AV.xbox cs)=true) ∧
 (∀ (cs:List AV),plain (AV.agg cs)=true) ∧
 (∀ (cs:List AV),plain (AV.tup cs)=true) ∧
 (∀ (r e:Nat) (p:Path),plain (AV.lnk r e p)=false) ∧
 (∀ (r e:Nat) (p:Path) (s lo n:Nat),plain (AV.sub r e p s lo n)=false) ∧
 (∀ (r e:Nat) (p:Path) (st:St),plain (AV.ref r e p st)=false) ∧
 (∀ (f:Nat) (cs:List AV),plain (AV.fn f cs)=true) ∧
 (one1 AV.undef=false) ∧
 (∀ (b:Bool),one1 (AV.bool b)=true) ∧
 (∀ (k:IntKind) (n:Int),one1 (AV.int k n)=true) ∧
 (∀ (s:List UInt8),one1 (AV.str s)=true) ∧
 (∀ (s:Nat) (es:List (List TV)),one1 (AV.own s es)=true) ∧
 (∀ (s:Nat) (es:List (List TV)),one1 (AV.ext s es)=true) ∧
 (∀ (v:Value) (s:Nat) (es:List (List TV)),one1 (AV.extv v s es)=true) ∧
 (∀ (cs:List AV),one1 (AV.box cs)=true) ∧
 (∀ (cs:List TV),one1 (AV.xbox cs)=true) ∧
 (∀ (cs:List AV),one1 (AV.agg cs)=false) ∧
 (∀ (cs:List AV),one1 (AV.tup cs)=false) ∧
 (∀ (r e:Nat) (p:Path),one1 (AV.lnk r e p)=false) ∧
 (∀ (r e:Nat) (p:Path) (s lo n:Nat),one1 (AV.sub r e p s lo n)=false) ∧
 (∀ (r e:Nat) (p:Path) (st:St),one1 (AV.ref r e p st)=false) ∧
 (∀ (f:Nat) (cs:List AV),one1 (AV.fn f cs)=true) ∧
 (ones []=true) ∧
 (∀ (a:AV) (l:List AV),ones (a::l)=(one1 a && ones l)) ∧
 (noLk AV.undef=true) ∧
 (∀ (b:Bool),noLk (AV.bool b)=true) ∧
 (∀ (k:IntKind) (n:Int),noLk (AV.int k n)=true) ∧
 (∀ (s:List UInt8),noLk (AV.str s)=true) ∧
 (∀ (s:Nat) (es:List (List TV)),noLk (AV.own s es)=true) ∧
 (∀ (s:Nat) (es:List (List TV)),noLk (AV.ext s es)=true) ∧
 (∀ (v:Value) (s:Nat) (es:List (List TV)),noLk (AV.extv v s es)=true) ∧
 (∀ (cs:List AV),noLk (AV.box cs)=noLkL cs) ∧
 (∀ (cs:List TV),noLk (AV.xbox cs)=true) ∧
 (∀ (cs:List AV),noLk (AV.agg cs)=noLkL cs) ∧
 (∀ (cs:List AV),noLk (AV.tup cs)=noLkL cs) ∧
 (∀ (r e:Nat) (p:Path),noLk (AV.lnk r e p)=false) ∧
 (∀ (r e:Nat) (p:Path) (s lo n:Nat),noLk (AV.sub r e p s lo n)=false) ∧
 (∀ (r e:Nat) (p:Path) (st:St),noLk (AV.ref r e p st)=false) ∧
 (∀ (f:Nat) (cs:List AV),noLk (AV.fn f cs)=noLkL cs) ∧
 (noLkL []=true) ∧
 (∀ (a:AV) (l:List AV),noLkL (a::l)=(noLk a && noLkL l)) ∧
 (exts AV.undef=false) ∧
 (∀ (b:Bool),exts (AV.bool b)=false) ∧
 (∀ (k:IntKind) (n:Int),exts (AV.int k n)=false) ∧
 (∀ (s:List UInt8),exts (AV.str s)=false) ∧
 (∀ (s:Nat) (es:List (List TV)),exts (AV.own s es)=false) ∧
 (∀ (s:Nat) (es:List (List TV)),exts (AV.ext s es)=true) ∧
 (∀ (v:Value) (s:Nat) (es:List (List TV)),exts (AV.extv v s es)=false) ∧
 (∀ (cs:List AV),exts (AV.box cs)=extsL cs) ∧
 (∀ (cs:List TV),exts (AV.xbox cs)=true) ∧
 (∀ (cs:List AV),exts (AV.agg cs)=extsL cs) ∧
 (∀ (cs:List AV),exts (AV.tup cs)=extsL cs) ∧
 (∀ (r e:Nat) (p:Path),exts (AV.lnk r e p)=false) ∧
 (∀ (r e:Nat) (p:Path) (s lo n:Nat),exts (AV.sub r e p s lo n)=false) ∧
 (∀ (r e:Nat) (p:Path) (st:St),exts (AV.ref r e p st)=false) ∧
 (∀ (f:Nat) (cs:List AV),exts (AV.fn f cs)=extsL cs) ∧
 (extsL []=false) ∧
 (∀ (a:AV) (l:List AV),extsL (a::l)=(exts a || extsL l)) ∧
 (vlv AV.undef=[]) ∧
 (∀ (b:Bool),vlv (AV.bool b)=[]) ∧
 (∀ (k:IntKind) (n:Int),vlv (AV.int k n)=[]) ∧
 (∀ (s:List UInt8),vlv (AV.str s)=[]) ∧
 (∀ (s:Nat) (es:List (List TV)),vlv (AV.own s es)=[]) ∧
 (∀ (s:Nat) (es:List (List TV)),vlv (AV.ext s es)=[]) ∧
 (∀ (v:Value) (s:Nat) (es:List (List TV)),vlv (AV.extv v s es)=[(v,s,es)]) ∧
 (∀ (cs:List AV),vlv (AV.box cs)=vlvL cs) ∧
 (∀ (cs:List TV),vlv (AV.xbox cs)=[]) ∧
 (∀ (cs:List AV),vlv (AV.agg cs)=vlvL cs) ∧
 (∀ (cs:List AV),vlv (AV.tup cs)=vlvL cs) ∧
 (∀ (r e:Nat) (p:Path),vlv (AV.lnk r e p)=[]) ∧
 (∀ (r e:Nat) (p:Path) (s lo n:Nat),vlv (AV.sub r e p s lo n)=[]) ∧
 (∀ (r e:Nat) (p:Path) (st:St),vlv (AV.ref r e p st)=[]) ∧
 (∀ (f:Nat) (cs:List AV),vlv (AV.fn f cs)=vlvL cs) ∧
 (vlvL []=[]) ∧
 (∀ (a:AV) (l:List AV),vlvL (a::l)=vlv a++vlvL l) ∧
 (pureA AV.undef=true) ∧
 (∀ (b:Bool),pureA (AV.bool b)=true) ∧
 (∀ (k:IntKind) (n:Int),pureA (AV.int k n)=true) ∧
 (∀ (s:List UInt8),pureA (AV.str s)=true) ∧
 (∀ (s:Nat) (es:List (List TV)),pureA (AV.own s es)=false) ∧
 (∀ (s:Nat) (es:List (List TV)),pureA (AV.ext s es)=true) ∧
 (∀ (v:Value) (s:Nat) (es:List (List TV)),pureA (AV.extv v s es)=true) ∧
 (∀ (cs:List AV),pureA (AV.box cs)=true) ∧
 (∀ (cs:List TV),pureA (AV.xbox cs)=true) ∧
 (∀ (cs:List AV),pureA (AV.agg cs)=pureL cs) ∧
 (∀ (cs:List AV),pureA (AV.tup cs)=true) ∧
 (∀ (r e:Nat) (p:Path),pureA (AV.lnk r e p)=false) ∧
 (∀ (r e:Nat) (p:Path) (s lo n:Nat),pureA (AV.sub r e p s lo n)=false) ∧
 (∀ (r e:Nat) (p:Path) (st:St),pureA (AV.ref r e p st)=false) ∧
 (∀ (f:Nat) (cs:List AV),pureA (AV.fn f cs)=pureL cs) ∧
 (pureL []=true) ∧
 (∀ (a:AV) (l:List AV),pureL (a::l)=(pureA a && pureL l)) ∧
 (tvB AV.undef=some TV.undef) ∧
 (∀ (b:Bool),tvB (AV.bool b)=some (TV.bool b)) ∧
 (∀ (k:IntKind) (n:Int),tvB (AV.int k n)=some (TV.int k n)) ∧
 (∀ (s:List UInt8),tvB (AV.str s)=some (TV.str s)) ∧
 (∀ (s:Nat) (es:List (List TV)),tvB (AV.own s es)=some (TV.sl s es)) ∧
 (∀ (s:Nat) (es:List (List TV)),tvB (AV.ext s es)=some (TV.sl s es)) ∧
 (∀ (v:Value) (s:Nat) (es:List (List TV)),tvB (AV.extv v s es)=some (TV.sl s es)) ∧
 (∀ (cs:List AV),tvB (AV.box cs)=none) ∧
 (∀ (cs:List TV),tvB (AV.xbox cs)=none) ∧
 (∀ (cs:List AV),tvB (AV.agg cs)=none) ∧
 (∀ (cs:List AV),tvB (AV.tup cs)=none) ∧
 (∀ (r e:Nat) (p:Path),tvB (AV.lnk r e p)=none) ∧
 (∀ (r e:Nat) (p:Path) (s lo n:Nat),tvB (AV.sub r e p s lo n)=none) ∧
 (∀ (r e:Nat) (p:Path) (st:St),tvB (AV.ref r e p st)=none) ∧
 (∀ (f:Nat) (cs:List AV),tvB (AV.fn f cs)=none) ∧
 (tvsB []=some []) ∧
 (∀ (a:AV) (l:List AV),tvsB (a::l)=Option.bind (tvB a) fun (t:TV)=>Option.map (fun (x:List TV)=>t::x) (tvsB l)) ∧
 (AV.tv AV.undef=some TV.undef) ∧
 (∀ (b:Bool),AV.tv (AV.bool b)=some (TV.bool b)) ∧
 (∀ (k:IntKind) (n:Int),AV.tv (AV.int k n)=some (TV.int k n)) ∧
 (∀ (s:List UInt8),AV.tv (AV.str s)=some (TV.str s)) ∧
 (∀ (s:Nat) (es:List (List TV)),AV.tv (AV.own s es)=some (TV.sl s es)) ∧
 (∀ (s:Nat) (es:List (List TV)),AV.tv (AV.ext s es)=none) ∧
 (∀ (v:Value) (s:Nat) (es:List (List TV)),AV.tv (AV.extv v s es)=none) ∧
 (∀ (cs:List AV),AV.tv (AV.box cs)=none) ∧
 (∀ (cs:List TV),AV.tv (AV.xbox cs)=none) ∧
 (∀ (cs:List AV),AV.tv (AV.agg cs)=none) ∧
 (∀ (cs:List AV),AV.tv (AV.tup cs)=none) ∧
 (∀ (r e:Nat) (p:Path),AV.tv (AV.lnk r e p)=none) ∧
 (∀ (r e:Nat) (p:Path) (s lo n:Nat),AV.tv (AV.sub r e p s lo n)=none) ∧
 (∀ (r e:Nat) (p:Path) (st:St),AV.tv (AV.ref r e p st)=none) ∧
 (∀ (f:Nat) (cs:List AV),AV.tv (AV.fn f cs)=none) ∧
 (tvs []=some []) ∧
 (∀ (a:AV) (l:List AV),tvs (a::l)=Option.bind (AV.tv a) fun (t:TV)=>Option.map (fun (x:List TV)=>t::x) (tvs l)) ∧
 (lks AV.undef=[]) ∧
 (∀ (b:Bool),lks (AV.bool b)=[]) ∧
 (∀ (k:IntKind) (n:Int),lks (AV.int k n)=[]) ∧
 (∀ (s:List UInt8),lks (AV.str s)=[]) ∧
 (∀ (s:Nat) (es:List (List TV)),lks (AV.own s es)=[]) ∧
 (∀ (s:Nat) (es:List (List TV)),lks (AV.ext s es)=[]) ∧
 (∀ (v:Value) (s:Nat) (es:List (List TV)),lks (AV.extv v s es)=[]) ∧
 (∀ (cs:List AV),lks (AV.box cs)=lksL cs) ∧
 (∀ (cs:List TV),lks (AV.xbox cs)=[]) ∧
 (∀ (cs:List AV),lks (AV.agg cs)=lksL cs) ∧
 (∀ (cs:List AV),lks (AV.tup cs)=lksL cs) ∧
 (∀ (r e:Nat) (p:Path),lks (AV.lnk r e p)=[r]) ∧
 (∀ (r e:Nat) (p:Path) (s lo n:Nat),lks (AV.sub r e p s lo n)=[r]) ∧
 (∀ (r e:Nat) (p:Path) (st:St),lks (AV.ref r e p st)=[r]) ∧
 (∀ (f:Nat) (cs:List AV),lks (AV.fn f cs)=lksL cs) ∧
 (lksL []=[]) ∧
 (∀ (a:AV) (l:List AV),lksL (a::l)=lks a++lksL l) ∧
 (∀ (E:Env),plainE E AV.undef=false) ∧
 (∀ (E:Env) (b:Bool),plainE E (AV.bool b)=true) ∧
 (∀ (E:Env) (k:IntKind) (n:Int),plainE E (AV.int k n)=true) ∧
 (∀ (E:Env) (s:List UInt8),plainE E (AV.str s)=true) ∧
 (∀ (E:Env) (s:Nat) (es:List (List TV)),plainE E (AV.own s es)=true) ∧
 (∀ (E:Env) (s:Nat) (es:List (List TV)),plainE E (AV.ext s es)=true) ∧
 (∀ (E:Env) (v:Value) (s:Nat) (es:List (List TV)),plainE E (AV.extv v s es)=true) ∧
 (∀ (E:Env) (cs:List AV),plainE E (AV.box cs)=true) ∧
 (∀ (E:Env) (cs:List TV),plainE E (AV.xbox cs)=true) ∧
 (∀ (E:Env) (cs:List AV),plainE E (AV.agg cs)=true) ∧
 (∀ (E:Env) (cs:List AV),plainE E (AV.tup cs)=true) ∧
 (∀ (E:Env) (r e:Nat) (p:Path),plainE E (AV.lnk r e p)=Option.isSome (nodeOf E r e p)) ∧
 (∀ (E:Env) (r e:Nat) (p:Path) (s lo n:Nat),plainE E (AV.sub r e p s lo n)=Option.isSome (nodeOf E r e p)) ∧
 (∀ (E:Env) (r e:Nat) (p:Path) (st:St),plainE E (AV.ref r e p st)=(e == curE (Env.ep E r) p && AV.isRoot (Env.f E r) && Option.isSome (aget (Env.f E r) p))) ∧
 (∀ (E:Env) (f:Nat) (cs:List AV),plainE E (AV.fn f cs)=true) ∧
 (∀ (E:Env),rowsOf E AV.undef=none) ∧
 (∀ (E:Env) (b:Bool),rowsOf E (AV.bool b)=none) ∧
 (∀ (E:Env) (k:IntKind) (n:Int),rowsOf E (AV.int k n)=none) ∧
 (∀ (E:Env) (s:List UInt8),rowsOf E (AV.str s)=none) ∧
 (∀ (E:Env) (s:Nat) (es:List (List TV)),rowsOf E (AV.own s es)=some (s,es)) ∧
 (∀ (E:Env) (s:Nat) (es:List (List TV)),rowsOf E (AV.ext s es)=some (s,es)) ∧
 (∀ (E:Env) (v:Value) (s:Nat) (es:List (List TV)),rowsOf E (AV.extv v s es)=some (s,es)) ∧
 (∀ (E:Env) (cs:List AV),rowsOf E (AV.box cs)=none) ∧
 (∀ (E:Env) (cs:List TV),rowsOf E (AV.xbox cs)=none) ∧
 (∀ (E:Env) (cs:List AV),rowsOf E (AV.agg cs)=none) ∧
 (∀ (E:Env) (cs:List AV),rowsOf E (AV.tup cs)=none) ∧
 (∀ (E:Env) (r e:Nat) (p:Path),rowsOf E (AV.lnk r e p)=nodeOf E r e p) ∧
 (∀ (E:Env) (r e:Nat) (p:Path) (s lo n:Nat),rowsOf E (AV.sub r e p s lo n)=Option.bind (nodeOf E r e p) fun (x:Nat × List (List TV))=>if Prod.fst x=s∧lo+n≤List.length (Prod.snd x) then some (s,List.take n (List.drop lo (Prod.snd x))) else none) ∧
 (∀ (E:Env) (r e:Nat) (p:Path) (st:St),rowsOf E (AV.ref r e p st)=none) ∧
 (∀ (E:Env) (f:Nat) (cs:List AV),rowsOf E (AV.fn f cs)=none) ∧
 (∀ (E:Env),gathA E AV.undef=some (AV.undef,E)) ∧
 (∀ (E:Env) (b:Bool),gathA E (AV.bool b)=some (AV.bool b,E)) ∧
 (∀ (E:Env) (k:IntKind) (n:Int),gathA E (AV.int k n)=some (AV.int k n,E)) ∧
 (∀ (E:Env) (s:List UInt8),gathA E (AV.str s)=some (AV.str s,E)) ∧
 (∀ (E:Env) (s:Nat) (es:List (List TV)),gathA E (AV.own s es)=some (AV.own s es,E)) ∧
 (∀ (E:Env) (s:Nat) (es:List (List TV)),gathA E (AV.ext s es)=some (AV.ext s es,E)) ∧
 (∀ (E:Env) (v:Value) (s:Nat) (es:List (List TV)),gathA E (AV.extv v s es)=some (AV.extv v s es,E)) ∧
 (∀ (E:Env) (cs:List AV),gathA E (AV.box cs)=none) ∧
 (∀ (E:Env) (cs:List TV),gathA E (AV.xbox cs)=some (AV.xbox cs,E)) ∧
 (∀ (E:Env) (cs:List AV),gathA E (AV.agg cs)=Option.map (fun (x:List AV × Env)=>(AV.agg (Prod.fst x),Prod.snd x)) (gathL E cs)) ∧
 (∀ (E:Env) (cs:List AV),gathA E (AV.tup cs)=none) ∧
 (∀ (E:Env) (r e:Nat) (p:Path),gathA E (AV.lnk r e p)=Option.map (fun (x:Nat × List (List TV))=>(AV.own (Prod.fst x) (Prod.snd x),takeN E r p)) (nodeOf E r e p)) ∧
 (∀ (E:Env) (r e:Nat) (p:Path) (s lo n:Nat),gathA E (AV.sub r e p s lo n)=Option.bind (nodeOf E r e p) fun (x:Nat × List (List TV))=>if Prod.fst x=s∧lo+n≤List.length (Prod.snd x) then some (AV.own s (List.take n (List.drop lo (Prod.snd x))),takeN E r p) else none) ∧
 (∀ (E:Env) (r e:Nat) (p:Path) (st:St),gathA E (AV.ref r e p st)=some (AV.ref r e p st,E)) ∧
 (∀ (E:Env) (f:Nat) (cs:List AV),gathA E (AV.fn f cs)=some (AV.fn f cs,E)) ∧
 (∀ (E:Env),gathL E []=some ([],E)) ∧
 (∀ (E:Env) (a:AV) (l:List AV),gathL E (a::l)=Option.bind (gathA E a) fun (x:AV × Env)=>Option.map (fun (y:List AV × Env)=>(Prod.fst x::Prod.fst y,Prod.snd y)) (gathL (Prod.snd x) l)) ∧
 (∀ (E:Env) (lr:Option Nat),brw E lr AV.undef=some AV.undef) ∧
 (∀ (E:Env) (lr:Option Nat) (b:Bool),brw E lr (AV.bool b)=some (AV.bool b)) ∧
 (∀ (E:Env) (lr:Option Nat) (k:IntKind) (n:Int),brw E lr (AV.int k n)=some (AV.int k n)) ∧
 (∀ (E:Env) (lr:Option Nat) (s:List UInt8),brw E lr (AV.str s)=some (AV.str s)) ∧
 (∀ (E:Env) (lr:Option Nat) (s:Nat) (es:List (List TV)),brw E lr (AV.own s es)=some (AV.ext s es)) ∧
 (∀ (E:Env) (lr:Option Nat) (s:Nat) (es:List (List TV)),brw E lr (AV.ext s es)=some (AV.ext s es)) ∧
 (∀ (E:Env) (lr:Option Nat) (v:Value) (s:Nat) (es:List (List TV)),brw E lr (AV.extv v s es)=some (AV.extv v s es)) ∧
 (∀ (E:Env) (lr:Option Nat) (cs:List AV),brw E lr (AV.box cs)=none) ∧
 (∀ (E:Env) (lr:Option Nat) (cs:List TV),brw E lr (AV.xbox cs)=some (AV.xbox cs)) ∧
 (∀ (E:Env) (lr:Option Nat) (cs:List AV),brw E lr (AV.agg cs)=Option.map AV.agg (brwL E lr cs)) ∧
 (∀ (E:Env) (lr:Option Nat) (cs:List AV),brw E lr (AV.tup cs)=none) ∧
 (∀ (E:Env) (lr:Option Nat) (r e:Nat) (p:Path),brw E lr (AV.lnk r e p)=if some r=lr then none else Option.map (fun (x:Nat × List (List TV))=>AV.ext (Prod.fst x) (Prod.snd x)) (nodeOf E r e p)) ∧
 (∀ (E:Env) (lr:Option Nat) (r e:Nat) (p:Path) (s lo n:Nat),brw E lr (AV.sub r e p s lo n)=if some r=lr then none else Option.bind (nodeOf E r e p) fun (x:Nat × List (List TV))=>if Prod.fst x=s∧lo+n≤List.length (Prod.snd x) then some (AV.ext s (List.take n (List.drop lo (Prod.snd x)))) else none) ∧
 (∀ (E:Env) (lr:Option Nat) (r e:Nat) (p:Path) (st:St),
 brw E lr (AV.ref r e p st) =
  if some r=lr then none
  else
   match e == curE (Env.ep E r) p,AV.isRoot (Env.f E r),aget (Env.f E r) p with
   | true,true,some (AV.box cs)=>if St.i st=0∧St.j st≤List.length cs then Option.map AV.xbox (tvsB (List.drop (St.j st) cs)) else none
   | true,true,some (AV.own s es)=>if St.s st=s∧St.j st≤s then Option.map (fun (row:List TV)=>AV.xbox (List.drop (St.j st) row)) es[St.i st]? else none
   | x,x_1,x_2=>none) ∧
 (∀ (E:Env) (lr:Option Nat) (f:Nat) (cs:List AV),brw E lr (AV.fn f cs)=Option.map (AV.fn f) (brwL E lr cs)) ∧
 (∀ (E:Env) (lr:Option Nat),brwL E lr []=some []) ∧
 (∀ (E:Env) (lr:Option Nat) (a:AV) (l:List AV),brwL E lr (a::l)=Option.bind (brw E lr a) fun (x:AV)=>Option.map (fun (x_1:List AV)=>x::x_1) (brwL E lr l)) ∧
 (∀ (E:Env) (ks:Nat),fixA E ks AV.undef=AV.undef) ∧
 (∀ (E:Env) (ks:Nat) (b:Bool),fixA E ks (AV.bool b)=AV.bool b) ∧
 (∀ (E:Env) (ks:Nat) (k:IntKind) (n:Int),fixA E ks (AV.int k n)=AV.int k n) ∧
 (∀ (E:Env) (ks:Nat) (s:List UInt8),fixA E ks (AV.str s)=AV.str s) ∧
 (∀ (E:Env) (ks s:Nat) (es:List (List TV)),fixA E ks (AV.own s es)=AV.own s es) ∧
 (∀ (E:Env) (ks s:Nat) (es:List (List TV)),fixA E ks (AV.ext s es)=AV.ext s es) ∧
 (∀ (E:Env) (ks:Nat) (v:Value) (s:Nat) (es:List (List TV)),fixA E ks (AV.extv v s es)=AV.extv v s es) ∧
 (∀ (E:Env) (ks:Nat) (cs:List AV),fixA E ks (AV.box cs)=AV.box (fixL E ks cs)) ∧
 (∀ (E:Env) (ks:Nat) (cs:List TV),fixA E ks (AV.xbox cs)=AV.xbox cs) ∧
 (∀ (E:Env) (ks:Nat) (cs:List AV),fixA E ks (AV.agg cs)=AV.agg (fixL E ks cs)) ∧
 (∀ (E:Env) (ks:Nat) (cs:List AV),fixA E ks (AV.tup cs)=AV.tup (fixL E ks cs)) ∧
 (∀ (E:Env) (ks r e:Nat) (p:Path),fixA E ks (AV.lnk r e p)=if validL E ks r e p=true then AV.lnk r 0 p else AV.undef) ∧
 (∀ (E:Env) (ks r e:Nat) (p:Path) (s lo n:Nat),fixA E ks (AV.sub r e p s lo n)=if validL E ks r e p=true then AV.sub r 0 p s lo n else AV.undef) ∧
 (∀ (E:Env) (ks r e:Nat) (p:Path) (st:St),fixA E ks (AV.ref r e p st)=if validL E ks r e p=true then AV.ref r 0 p st else AV.undef) ∧
 (∀ (E:Env) (ks f:Nat) (cs:List AV),fixA E ks (AV.fn f cs)=AV.fn f (fixL E ks cs)) ∧
 (∀ (E:Env) (ks:Nat),fixL E ks []=[]) ∧
 (∀ (E:Env) (ks:Nat) (a:AV) (l:List AV),fixL E ks (a::l)=fixA E ks a::fixL E ks l) ∧
 (∀ (E:Env),lendOf E AV.undef=none) ∧
 (∀ (E:Env) (b:Bool),lendOf E (AV.bool b)=none) ∧
 (∀ (E:Env) (k:IntKind) (n:Int),lendOf E (AV.int k n)=none) ∧
 (∀ (E:Env) (s:List UInt8),lendOf E (AV.str s)=none) ∧
 (∀ (E:Env) (s:Nat) (es:List (List TV)),lendOf E (AV.own s es)=none) ∧
 (∀ (E:Env) (s:Nat) (es:List (List TV)),lendOf E (AV.ext s es)=none) ∧
 (∀ (E:Env) (v:Value) (s:Nat) (es:List (List TV)),lendOf E (AV.extv v s es)=none) ∧
 (∀ (E:Env) (cs:List AV),lendOf E (AV.box cs)=none) ∧
 (∀ (E:Env) (cs:List TV),lendOf E (AV.xbox cs)=none) ∧
 (∀ (E:Env) (cs:List AV),lendOf E (AV.agg cs)=none) ∧
 (∀ (E:Env) (cs:List AV),lendOf E (AV.tup cs)=none) ∧
 (∀ (E:Env) (r e:Nat) (p:Path),lendOf E (AV.lnk r e p)=Option.map (fun (x:Nat × List (List TV))=>(r,p,AV.own (Prod.fst x) (Prod.snd x))) (nodeOf E r e p)) ∧
 (∀ (E:Env) (r e:Nat) (p:Path) (s lo n:Nat),lendOf E (AV.sub r e p s lo n)=none) ∧
 (∀ (E:Env) (r e:Nat) (p:Path) (st:St),lendOf E (AV.ref r e p st)=lendOf E (AV.ref r e p st)) ∧
 (∀ (E:Env) (f:Nat) (cs:List AV),lendOf E (AV.fn f cs)=none) ∧
 (∀ (E:Env),takeB E AV.undef=none) ∧
 (∀ (E:Env) (b:Bool),takeB E (AV.bool b)=none) ∧
 (∀ (E:Env) (k:IntKind) (n:Int),takeB E (AV.int k n)=none) ∧
 (∀ (E:Env) (s:List UInt8),takeB E (AV.str s)=none) ∧
 (∀ (E:Env) (s:Nat) (es:List (List TV)),takeB E (AV.own s es)=none) ∧
 (∀ (E:Env) (s:Nat) (es:List (List TV)),takeB E (AV.ext s es)=none) ∧
 (∀ (E:Env) (v:Value) (s:Nat) (es:List (List TV)),takeB E (AV.extv v s es)=none) ∧
 (∀ (E:Env) (cs:List AV),takeB E (AV.box cs)=none) ∧
 (∀ (E:Env) (cs:List TV),takeB E (AV.xbox cs)=none) ∧
 (∀ (E:Env) (cs:List AV),takeB E (AV.agg cs)=none) ∧
 (∀ (E:Env) (cs:List AV),takeB E (AV.tup cs)=none) ∧
 (∀ (E:Env) (r e:Nat) (p:Path),takeB E (AV.lnk r e p)=none) ∧
 (∀ (E:Env) (r e:Nat) (p:Path) (s lo n:Nat),takeB E (AV.sub r e p s lo n)=none) ∧
 (∀ (E:Env) (r e:Nat) (p:Path) (st:St),takeB E (AV.ref r e p st)=takeB E (AV.ref r e p st)) ∧
 (∀ (E:Env) (f:Nat) (cs:List AV),takeB E (AV.fn f cs)=none) ∧
 (TV.av TV.undef=AV.undef) ∧
 (∀ (b:Bool),TV.av (TV.bool b)=AV.bool b) ∧
 (∀ (k:IntKind) (n:Int),TV.av (TV.int k n)=AV.int k n) ∧
 (∀ (s:List UInt8),TV.av (TV.str s)=AV.str s) ∧
 (∀ (s:Nat) (es:List (List TV)),TV.av (TV.sl s es)=AV.own s es) ∧
 (TV.xv TV.undef=AV.undef) ∧
 (∀ (b:Bool),TV.xv (TV.bool b)=AV.bool b) ∧
 (∀ (k:IntKind) (n:Int),TV.xv (TV.int k n)=AV.int k n) ∧
 (∀ (s:List UInt8),TV.xv (TV.str s)=AV.str s) ∧
 (∀ (s:Nat) (es:List (List TV)),TV.xv (TV.sl s es)=AV.ext s es) ∧
 (undT TV.undef=TV.undef) ∧
 (∀ (b:Bool),undT (TV.bool b)=TV.bool b) ∧
 (∀ (k:IntKind) (n:Int),undT (TV.int k n)=TV.int k n) ∧
 (∀ (s:List UInt8),undT (TV.str s)=TV.str s) ∧
 (∀ (s:Nat) (es:List (List TV)),undT (TV.sl s es)=TV.undef) ∧
 (flatT TV.undef=false) ∧
 (∀ (b:Bool),flatT (TV.bool b)=true) ∧
 (∀ (k:IntKind) (n:Int),flatT (TV.int k n)=true) ∧
 (∀ (s:List UInt8),flatT (TV.str s)=true) ∧
 (∀ (s:Nat) (es:List (List TV)),flatT (TV.sl s es)=false) ∧
 (knownT TV.undef=false) ∧
 (∀ (b:Bool),knownT (TV.bool b)=true):=by
 and_intros <;> intros <;> first | rfl | (cases ‹List Bool› <;> rfl) | exact bin_eql _ _ _ | exact bin_neq _ _ _ | exact bin_eqs _ _ | exact bin_nes _ _ | exact C_seq | exact CF_not | exact GF_not | exact C_blk | exact T_nil | exact G_call | exact G_callv | exact H1_call | exact on_map _ _ | exact on_bind _ _ | exact on_some _ | exact on_none | exact mkV_put _ _ _ _ _ _ | exact mkV_upd _ _ _ _ _ _ | exact mkV_set0 _ _ _ _ _ _ | exact mkV_norm _ _ _ _ | (split <;> rfl) | (cases ‹Bool› <;> rfl) | (simp; done) | (simp only [ev]; cases val _ _ <;> rfl) | (simp [binV,isSh,binI,binS,beq_eq_decide,bne]; done) | simp [binV,isSh,binI,eqC,Fin,FinEx,T,touchI,I.opds,I.der,I.dsts,optO,CF,GF,HF]
theorem S2 :
 (∀ (k:IntKind) (n:Int),knownT (TV.int k n)=true) ∧
 (∀ (s:List UInt8),knownT (TV.str s)=true) ∧
 (∀ (s:Nat) (es:List (List TV)),knownT (TV.sl s es)=true) ∧
 (∀ (t:Nat),getL [] t=AV.undef) ∧
 (∀ (k t:Nat) (a:AV) (l:List (Nat × AV)),getL ((k,a)::l) t=if k=t then a else getL l t) ∧
 (∀ (t:Nat),getM [] t=(0,0)) ∧
 (∀ (k t:Nat) (a:Nat × Nat) (l:List (Nat × Nat × Nat)),getM ((k,a)::l) t=if k=t then a else getM l t) ∧
 (∀ (t:Nat) (x:AV),setL [] t x=[(t,x)]) ∧
 (∀ (k t:Nat) (a x:AV) (l:List (Nat × AV)),setL ((k,a)::l) t x=if k=t then (t,x)::l else (k,a)::setL l t x) ∧
 (∀ (t:Nat) (x:Nat × Nat),setM [] t x=[(t,x)]) ∧
 (∀ (k t:Nat) (a x:Nat × Nat) (l:List (Nat × Nat × Nat)),setM ((k,a)::l) t x=if k=t then (t,x)::l else (k,a)::setM l t x) ∧
 (∀ (E:Env) (n:Nat),val E (O.t n)=Env.f E n) ∧
 (∀ (E:Env) (a:AV),val E (O.c a)=a) ∧
 (∀ (E:Env) (n:Nat),pull E (O.t n)=if AV.owns (Env.f E n)=true then (Env.f E n,Env.put E n AV.undef) else (Env.f E n,E)) ∧
 (∀ (E:Env) (a:AV),pull E (O.c a)=(a,E)) ∧
 (∀ (E:Env) (x:O),gathO E x=gathA (Prod.snd (pull E x)) (Prod.fst (pull E x))) ∧
 (∀ (E:Env) (r e:Nat) (p:Path),
 nodeOf E r e p =
  if e=curE (Env.ep E r) p then
   match AV.isRoot (Env.f E r),aget (Env.f E r) p with
   | true,some (AV.own s es)=>some (s,es)
   | x,x_1=>none
  else none) ∧
 (∀ (E:Env) (r:Nat) (p:Path),takeN E r p=if List.isEmpty p=true then Env.put E r AV.undef else Env.set0 E r (aset (Env.f E r) p AV.undef)) ∧
 (∀ (E:Env) (r e:Nat) (p:Path),vld E r e p=(e == curE (Env.ep E r) p && AV.isRoot (Env.f E r) && Option.isSome (aget (Env.f E r) p))) ∧
 (∀ (E:Env) (ks r e:Nat) (p:Path),validL E ks r e p=(keepB ks r && e == curE (Env.ep E r) p && AV.isRoot (Env.f E r) && Option.isSome (aget (Env.f E r) p))) ∧
 (∀ (e:Nat × Nat),curE e []=if true=true then Prod.fst e else Prod.snd e) ∧
 (∀ (e:Nat × Nat) (s:St) (p:Path),curE e (s::p)=Prod.snd e) ∧
 (∀ (E:Env) (x:AV),putO E none x=E) ∧
 (∀ (E:Env) (d:Nat) (x:AV),putO E (some d) x=Env.put E d x) ∧
 (∀ (row:List AV) (j:Nat) (ts:List AV),lay row j ts=List.take j row++ts++List.drop (j+List.length ts) row) ∧
 (∀ (row:List TV) (j:Nat) (ts:List TV),lay row j ts=List.take j row++ts++List.drop (j+List.length ts) row) ∧
 (∀ (E:Env) (r e:Nat) (p:Path) (st:St) (sz:Nat),
 cellsAt E r e p st sz =
  if e=curE (Env.ep E r) p then
   match AV.isRoot (Env.f E r),aget (Env.f E r) p with
   | true,some (AV.box cs)=>if St.i st=0∧St.j st+sz≤List.length cs then some (viewB r (Prod.snd (Env.ep E r)) p (St.j st) (List.take sz (List.drop (St.j st) cs))) else none
   | true,some (AV.own s es)=>if St.s st=s then Option.bind es[St.i st]? fun (row:List TV)=>if St.j st+sz≤List.length row then some (viewT r (Prod.snd (Env.ep E r)) p (St.i st) s (St.j st) (List.take sz (List.drop (St.j st) row))) else none else none
   | x,x_1=>none
  else none) ∧
 (∀ (cs:List AV),oneOf cs true=some (.agg cs)) ∧
 (∀ (a:AV),oneOf [a] false=some a) ∧
 (∀ (E:Env),gathP E []=some ([],E)) ∧
 (∀ (E:Env) (x:O) (l:List O),gathP E (x::l)=Option.bind (gathO E x) fun (g:AV × Env)=>if plain (Prod.fst g)=true then Option.bind (tvs (cellsOf (Prod.fst g))) fun (ts:List TV)=>Option.map (fun (y:List (List TV) × Env)=>(ts::Prod.fst y,Prod.snd y)) (gathP (Prod.snd g) l) else none) ∧
 (∀ (E:Env) (cs:List AV),pullP E cs []=some (cs,E)) ∧
 (∀ (E:Env) (cs:List AV) (a b:Nat) (x:O) (l:List (Nat × Nat × O)),pullP E cs ((a,b,x)::l)=if List.length (cellsOf (Prod.fst (pull E x)))=b∧a+b≤List.length cs∧plainE (Prod.snd (pull E x)) (Prod.fst (pull E x))=true then pullP (Prod.snd (pull E x)) (lay cs a (cellsOf (Prod.fst (pull E x)))) l else none) ∧
 (∀ (E:Env) (n:Nat),bound E none n=some ↑n) ∧
 (∀ (E:Env) (x:O) (n:Nat),
 bound E (some x) n =
  match val E x with
  | AV.int k n=>some n
  | x=>none) ∧
 (∀ (r e:Nat) (p:Path) (j:Nat),viewB r e p j []=[]) ∧
 (∀ (r e:Nat) (p:Path) (j:Nat) (l:List AV),viewB r e p j (AV.undef::l)=AV.undef::viewB r e p (j+1) l) ∧
 (∀ (r e:Nat) (p:Path) (j:Nat) (l:List AV) (b:Bool),viewB r e p j (AV.bool b::l)=AV.bool b::viewB r e p (j+1) l) ∧
 (∀ (r e:Nat) (p:Path) (j:Nat) (l:List AV) (k:IntKind) (n:Int),viewB r e p j (AV.int k n::l)=AV.int k n::viewB r e p (j+1) l) ∧
 (∀ (r e:Nat) (p:Path) (j:Nat) (l:List AV) (s:List UInt8),viewB r e p j (AV.str s::l)=AV.str s::viewB r e p (j+1) l) ∧
 (∀ (r e:Nat) (p:Path) (j:Nat) (l:List AV) (s:Nat) (es:List (List TV)),viewB r e p j (AV.own s es::l)=AV.lnk r e (p++[St.mk 0 0 j])::viewB r e p (j+1) l) ∧
 (∀ (r e:Nat) (p:Path) (j:Nat) (l:List AV) (s:Nat) (es:List (List TV)),viewB r e p j (AV.ext s es::l)=AV.ext s es::viewB r e p (j+1) l) ∧
 (∀ (r e:Nat) (p:Path) (j:Nat) (l:List AV) (v:Value) (s:Nat) (es:List (List TV)),viewB r e p j (AV.extv v s es::l)=AV.extv v s es::viewB r e p (j+1) l) ∧
 (∀ (r e:Nat) (p:Path) (j:Nat) (l cs:List AV),viewB r e p j (AV.box cs::l)=AV.box cs::viewB r e p (j+1) l) ∧
 (∀ (r e:Nat) (p:Path) (j:Nat) (l:List AV) (cs:List TV),viewB r e p j (AV.xbox cs::l)=AV.xbox cs::viewB r e p (j+1) l) ∧
 (∀ (r e:Nat) (p:Path) (j:Nat) (l cs:List AV),viewB r e p j (AV.agg cs::l)=AV.agg cs::viewB r e p (j+1) l) ∧
 (∀ (r e:Nat) (p:Path) (j:Nat) (l cs:List AV),viewB r e p j (AV.tup cs::l)=AV.tup cs::viewB r e p (j+1) l) ∧
 (∀ (r e:Nat) (p:Path) (j:Nat) (l:List AV) (r2 e2:Nat) (p2:Path),viewB r e p j (AV.lnk r2 e2 p2::l)=AV.lnk r2 e2 p2::viewB r e p (j+1) l) ∧
 (∀ (r e:Nat) (p:Path) (j:Nat) (l:List AV) (r2 e2:Nat) (p2:Path) (s lo n:Nat),viewB r e p j (AV.sub r2 e2 p2 s lo n::l)=AV.sub r2 e2 p2 s lo n::viewB r e p (j+1) l) ∧
 (∀ (r e:Nat) (p:Path) (j:Nat) (l:List AV) (r2 e2:Nat) (p2:Path) (st:St),viewB r e p j (AV.ref r2 e2 p2 st::l)=AV.ref r2 e2 p2 st::viewB r e p (j+1) l) ∧
 (∀ (r e:Nat) (p:Path) (j:Nat) (l:List AV) (f:Nat) (cs:List AV),viewB r e p j (AV.fn f cs::l)=AV.fn f cs::viewB r e p (j+1) l) ∧
 (∀ (r e:Nat) (p:Path) (i s0 j:Nat),viewT r e p i s0 j []=[]) ∧
 (∀ (r e:Nat) (p:Path) (i s0 j:Nat) (l:List TV),viewT r e p i s0 j (TV.undef::l)=AV.undef::viewT r e p i s0 (j+1) l) ∧
 (∀ (r e:Nat) (p:Path) (i s0 j:Nat) (l:List TV) (b:Bool),viewT r e p i s0 j (TV.bool b::l)=AV.bool b::viewT r e p i s0 (j+1) l) ∧
 (∀ (r e:Nat) (p:Path) (i s0 j:Nat) (l:List TV) (k:IntKind) (n:Int),viewT r e p i s0 j (TV.int k n::l)=AV.int k n::viewT r e p i s0 (j+1) l) ∧
 (∀ (r e:Nat) (p:Path) (i s0 j:Nat) (l:List TV) (s:List UInt8),viewT r e p i s0 j (TV.str s::l)=AV.str s::viewT r e p i s0 (j+1) l) ∧
 (∀ (r e:Nat) (p:Path) (i s0 j:Nat) (l:List TV) (s:Nat) (es:List (List TV)),viewT r e p i s0 j (TV.sl s es::l)=AV.lnk r e (p++[St.mk i s0 j])::viewT r e p i s0 (j+1) l) ∧
 (eqC [] [] []=some true) ∧
 (∀ (ks:List Nat) (k:IntKind) (a b:Int) (l m:List AV),eqC (0::ks) (AV.int k a::l) (AV.int k b::m)=if k=k then Option.map (fun (x:Bool)=>a == b && x) (eqC ks l m) else none) ∧
 (∀ (ks:List Nat) (a b:List UInt8) (l m:List AV),eqC (1::ks) (AV.str a::l) (AV.str b::m)=Option.map (fun (x:Bool)=>a == b && x) (eqC ks l m)) ∧
 (∀ (ks:List Nat) (a b:Bool) (l m:List AV),eqC (2::ks) (AV.bool a::l) (AV.bool b::m)=Option.map (fun (x:Bool)=>a == b && x) (eqC ks l m)) ∧
 (∀ (k:IntKind) (a b:Int),binV .eql (.int k a) (.int k b)=some (.bool (decide (a=b)))) ∧
 (∀ (k:IntKind) (a b:Int),binV .neq (.int k a) (.int k b)=some (.bool (!decide (a=b)))) ∧
 (∀ (k:IntKind) (a b:Int),binV BinOp.add (AV.int k a) (AV.int k b)=if k=k then some (AV.int k (IntKind.wrap k (a+b))) else none) ∧
 (∀ (k:IntKind) (a b:Int),binV BinOp.sub (AV.int k a) (AV.int k b)=if k=k then some (AV.int k (IntKind.wrap k (a-b))) else none) ∧
 (∀ (k:IntKind) (a b:Int),binV BinOp.mul (AV.int k a) (AV.int k b)=if k=k then some (AV.int k (IntKind.wrap k (a*b))) else none) ∧
 (∀ (k:IntKind) (a b:Int),binV BinOp.quo (AV.int k a) (AV.int k b)=if k=k then if b=0 then none else some (AV.int k (IntKind.wrap k (Int.tdiv a b))) else none) ∧
 (∀ (k:IntKind) (a b:Int),binV BinOp.rem (AV.int k a) (AV.int k b)=if k=k then if b=0 then none else some (AV.int k (Int.tmod a b)) else none) ∧
 (∀ (k:IntKind) (a b:Int),binV BinOp.and (AV.int k a) (AV.int k b)=if k=k then some (AV.int k (IntKind.wrap k ↑(BitVec.toNat (BitVec.ofInt (IntKind.bits k) a &&& BitVec.ofInt (IntKind.bits k) b)))) else none) ∧
 (∀ (k:IntKind) (a b:Int),binV BinOp.or (AV.int k a) (AV.int k b)=if k=k then some (AV.int k (IntKind.wrap k ↑(BitVec.toNat (BitVec.ofInt (IntKind.bits k) a ||| BitVec.ofInt (IntKind.bits k) b)))) else none) ∧
 (∀ (k:IntKind) (a b:Int),binV BinOp.xor (AV.int k a) (AV.int k b)=if k=k then some (AV.int k (IntKind.wrap k ↑(BitVec.toNat (BitVec.ofInt (IntKind.bits k) a ^^^ BitVec.ofInt (IntKind.bits k) b)))) else none) ∧
 (∀ (k:IntKind) (a b:Int),binV BinOp.lss (AV.int k a) (AV.int k b)=if k=k then some (AV.bool (decide (a<b))) else none) ∧
 (∀ (k:IntKind) (a b:Int),binV BinOp.leq (AV.int k a) (AV.int k b)=if k=k then some (AV.bool (decide (a≤b))) else none) ∧
 (∀ (k:IntKind) (a b:Int),binV BinOp.gtr (AV.int k a) (AV.int k b)=if k=k then some (AV.bool (decide (a>b))) else none) ∧
 (∀ (k:IntKind) (a b:Int),binV BinOp.geq (AV.int k a) (AV.int k b)=if k=k then some (AV.bool (decide (a≥b))) else none) ∧
 (∀ (k k2:IntKind) (a b:Int),binV BinOp.shl (AV.int k a) (AV.int k2 b)=if true=true then if b<0 then none else some (AV.int k (IntKind.wrap k (a*2^min (Int.toNat b) (IntKind.bits k)))) else if k=k2 then binI BinOp.shl k a b else none) ∧
 (∀ (k k2:IntKind) (a b:Int),binV BinOp.shr (AV.int k a) (AV.int k2 b)=if true=true then if b<0 then none else some (AV.int k (Int.fdiv a (2^min (Int.toNat b) (IntKind.bits k)))) else if k=k2 then binI BinOp.shr k a b else none) ∧
 (∀ (a b:List UInt8),binV .eql (.str a) (.str b)=some (.bool (decide (a=b)))) ∧
 (∀ (a b:List UInt8),binV .neq (.str a) (.str b)=some (.bool (!decide (a=b)))) ∧
 (∀ (a b:List UInt8),binV BinOp.add (AV.str a) (AV.str b)=if List.length a+List.length b≤4611686018427387904 then some (AV.str (a++b)) else none) ∧
 (∀ (a b:List UInt8),binV BinOp.lss (AV.str a) (AV.str b)=some (AV.bool (Awp.strLt a b))) ∧
 (∀ (a b:List UInt8),binV BinOp.leq (AV.str a) (AV.str b)=some (AV.bool (Awp.strLt a b || a == b))) ∧
 (∀ (a b:List UInt8),binV BinOp.gtr (AV.str a) (AV.str b)=some (AV.bool !(Awp.strLt a b || a == b))) ∧
 (∀ (a b:List UInt8),binV BinOp.geq (AV.str a) (AV.str b)=some (AV.bool !Awp.strLt a b)) ∧
 (∀ (k:IntKind) (n:Int),unV UnOp.neg (AV.int k n)=some (AV.int k (IntKind.wrap k (0-n)))) ∧
 (∀ (k:IntKind) (n:Int),unV UnOp.xor (AV.int k n)=some (AV.int k (IntKind.wrap k ↑(BitVec.toNat (BitVec.ofInt (IntKind.bits k) (if IntKind.signed k=true then -1 else IntKind.max k) ^^^ BitVec.ofInt (IntKind.bits k) n))))) ∧
 (∀ (b:Bool),unV UnOp.not (AV.bool b)=some (AV.bool !b)) ∧
 (aget AV.undef []=some AV.undef) ∧
 (∀ (b:Bool),aget (AV.bool b) []=some (AV.bool b)) ∧
 (∀ (k:IntKind) (n:Int),aget (AV.int k n) []=some (AV.int k n)) ∧
 (∀ (s:List UInt8),aget (AV.str s) []=some (AV.str s)) ∧
 (∀ (s:Nat) (es:List (List TV)),aget (AV.own s es) []=some (AV.own s es)) ∧
 (∀ (s:Nat) (es:List (List TV)),aget (AV.ext s es) []=some (AV.ext s es)) ∧
 (∀ (v:Value) (s:Nat) (es:List (List TV)),aget (AV.extv v s es) []=some (AV.extv v s es)) ∧
 (∀ (cs:List AV),aget (AV.box cs) []=some (AV.box cs)) ∧
 (∀ (cs:List TV),aget (AV.xbox cs) []=some (AV.xbox cs)) ∧
 (∀ (cs:List AV),aget (AV.agg cs) []=some (AV.agg cs)) ∧
 (∀ (cs:List AV),aget (AV.tup cs) []=some (AV.tup cs)) ∧
 (∀ (r e:Nat) (p:Path),aget (AV.lnk r e p) []=some (AV.lnk r e p)) ∧
 (∀ (r e:Nat) (p:Path) (s lo n:Nat),aget (AV.sub r e p s lo n) []=some (AV.sub r e p s lo n)) ∧
 (∀ (r e:Nat) (p:Path) (st:St),aget (AV.ref r e p st) []=some (AV.ref r e p st)) ∧
 (∀ (f:Nat) (cs:List AV),aget (AV.fn f cs) []=some (AV.fn f cs)) ∧
 (∀ (s:Nat) (es:List (List TV)) (st:St) (p:Path),aget (AV.own s es) (st::p)=Option.map TV.av (tget (TV.sl s es) (st::p))) ∧
 (∀ (cs:List AV) (st:St) (p:Path),aget (AV.box cs) (st::p)=if St.i st=0 then Option.bind cs[St.j st]? fun (x:AV)=>aget x p else none) ∧
 (∀ (u:AV),aset AV.undef [] u=u) ∧
 (∀ (u:AV) (b:Bool),aset (AV.bool b) [] u=u) ∧
 (∀ (u:AV) (k:IntKind) (n:Int),aset (AV.int k n) [] u=u) ∧
 (∀ (u:AV) (s:List UInt8),aset (AV.str s) [] u=u) ∧
 (∀ (u:AV) (s:Nat) (es:List (List TV)),aset (AV.own s es) [] u=u) ∧
 (∀ (u:AV) (s:Nat) (es:List (List TV)),aset (AV.ext s es) [] u=u) ∧
 (∀ (u:AV) (v:Value) (s:Nat) (es:List (List TV)),aset (AV.extv v s es) [] u=u) ∧
 (∀ (u:AV) (cs:List AV),aset (AV.box cs) [] u=u) ∧
 (∀ (u:AV) (cs:List TV),aset (AV.xbox cs) [] u=u) ∧
 (∀ (u:AV) (cs:List AV),aset (AV.agg cs) [] u=u) ∧
 (∀ (u:AV) (cs:List AV),aset (AV.tup cs) [] u=u) ∧
 (∀ (u:AV) (r e:Nat) (p:Path),aset (AV.lnk r e p) [] u=u) ∧
 (∀ (u:AV) (r e:Nat) (p:Path) (s lo n:Nat),aset (AV.sub r e p s lo n) [] u=u) ∧
 (∀ (u:AV) (r e:Nat) (p:Path) (st:St),aset (AV.ref r e p st) [] u=u) ∧
 (∀ (u:AV) (f:Nat) (cs:List AV),aset (AV.fn f cs) [] u=u) ∧
 (∀ (s:Nat) (es:List (List TV)) (st:St) (p:Path) (u:AV),
 aset (AV.own s es) (st::p) u =
  match AV.tv u with
  | some t=>AV.own s (List.modify es (St.i st) fun (x:List TV)=>List.modify x (St.j st) fun (x:TV)=>tset x p t)
  | none=>AV.own s es) ∧
 (∀ (cs:List AV) (st:St) (p:Path) (u:AV),aset (AV.box cs) (st::p) u=AV.box (List.modify cs (St.j st) fun (x:AV)=>aset x p u)) ∧
 (∀ (u:AV),fits AV.undef [] u=true) ∧
 (∀ (u:AV) (b:Bool),fits (AV.bool b) [] u=true) ∧
 (∀ (u:AV) (k:IntKind) (n:Int),fits (AV.int k n) [] u=true) ∧
 (∀ (u:AV) (s:List UInt8),fits (AV.str s) [] u=true) ∧
 (∀ (u:AV) (s:Nat) (es:List (List TV)),fits (AV.own s es) [] u=true) ∧
 (∀ (u:AV) (s:Nat) (es:List (List TV)),fits (AV.ext s es) [] u=true) ∧
 (∀ (u:AV) (v:Value) (s:Nat) (es:List (List TV)),fits (AV.extv v s es) [] u=true) ∧
 (∀ (u:AV) (cs:List AV),fits (AV.box cs) [] u=true) ∧
 (∀ (u:AV) (cs:List TV),fits (AV.xbox cs) [] u=true) ∧
 (∀ (u:AV) (cs:List AV),fits (AV.agg cs) [] u=true) ∧
 (∀ (u:AV) (cs:List AV),fits (AV.tup cs) [] u=true) ∧
 (∀ (u:AV) (r e:Nat) (p:Path),fits (AV.lnk r e p) [] u=true) ∧
 (∀ (u:AV) (r e:Nat) (p:Path) (s lo n:Nat),fits (AV.sub r e p s lo n) [] u=true) ∧
 (∀ (u:AV) (r e:Nat) (p:Path) (st:St),fits (AV.ref r e p st) [] u=true) ∧
 (∀ (u:AV) (f:Nat) (cs:List AV),fits (AV.fn f cs) [] u=true) ∧
 (∀ (s:Nat) (es:List (List TV)) (st:St) (p:Path) (u:AV),fits (AV.own s es) (st::p) u=Option.isSome (AV.tv u)) ∧
 (∀ (cs:List AV) (st:St) (p:Path) (u:AV),
 fits (AV.box cs) (st::p) u =
  match cs[St.j st]? with
  | some a=>fits a p u
  | none=>false) ∧
 (∀ (t:TV),tget t []=some t) ∧
 (∀ (s:Nat) (es:List (List TV)) (st:St) (p:Path),tget (TV.sl s es) (st::p)=if St.s st=s then Option.bind (Option.bind es[St.i st]? fun (x:List TV)=>x[St.j st]?) fun (x:TV)=>tget x p else none) ∧
 (∀ (t u:TV),tset t [] u=u) ∧
 (∀ (s:Nat) (es:List (List TV)) (st:St) (p:Path) (u:TV),tset (TV.sl s es) (st::p) u=TV.sl s (List.modify es (St.i st) fun (x:List TV)=>List.modify x (St.j st) fun (x:TV)=>tset x p u)) ∧
 (∀ (E:Env),mvP E [] []=some ([],E)) ∧
 (∀ (E:Env) (ms:List M) (x:O) (xs:List O),mvP E (.m::ms) (x::xs)=(gathO E x).bind fun g=>(mvP g.2 ms xs).map fun y=>(some g.1::y.1,y.2)) ∧
 (∀ (E:Env) (ms:List M) (x:O) (xs:List O),mvP E (.p::ms) (x::xs)=(gathO E x).bind fun g=>(mvP g.2 ms xs).map fun y=>(some g.1::y.1,y.2)) ∧
 (∀ (E:Env) (ms:List M) (x:O) (xs:List O),mvP E (.b::ms) (x::xs)=(mvP E ms xs).map fun y=>(none::y.1,y.2)) ∧
 (∀ (E:Env) (ms:List M) (x:O) (xs:List O),mvP E (.l::ms) (x::xs)=(mvP E ms xs).map fun y=>(none::y.1,y.2)) ∧
 (∀ (E:Env) (ms:List M) (x:O) (xs:List O),findL E (.l::ms) (x::xs)=lendOf E (val E x)) ∧
 (∀ (E:Env) (ms:List M) (x:O) (xs:List O),findL E (.b::ms) (x::xs)=findL E ms xs) ∧
 (∀ (E:Env) (ms:List M) (x:O) (xs:List O),findL E (.m::ms) (x::xs)=findL E ms xs) ∧
 (∀ (E:Env) (ms:List M) (x:O) (xs:List O),findL E (.p::ms) (x::xs)=findL E ms xs) ∧
 (∀ (n:Nat),isT (.t n) none=false) ∧
 (∀ (n r:Nat) (p:Path) (a:AV),isT (.t n) (some (r,p,a))=(n == r)) ∧
 (∀ (a:AV) (q:Option (Nat × Path × AV)),isT (.c a) q=false) ∧
 (∀ (E:Env) (ln:Option (Nat × Path × AV)),argsP E ln [] [] []=some []) ∧
 (∀ (E:Env) (ln:Option (Nat × Path × AV)) (ms:List M) (x:O) (xs:List O) (a:AV) (mv:List (Option AV)),argsP E ln (.m::ms) (x::xs) (some a::mv)=(argsP E ln ms xs mv).map (a::·)) ∧
 (∀ (E:Env) (ln:Option (Nat × Path × AV)) (ms:List M) (x:O) (xs:List O) (a:AV) (mv:List (Option AV)),argsP E ln (.p::ms) (x::xs) (some a::mv)=(argsP E ln ms xs mv).map (a::·)) ∧
 (∀ (E:Env) (r:Nat) (p:Path) (a:AV) (ms:List M) (x:O) (xs:List O) (q:Option AV) (mv:List (Option AV)),argsP E (some (r,p,a)) (.l::ms) (x::xs) (q::mv)=(argsP E (some (r,p,a)) ms xs mv).map (a::·)) ∧
 (∀ (E:Env) (ln:Option (Nat × Path × AV)) (ms:List M) (x:O) (xs:List O) (q:Option AV) (mv:List (Option AV)),argsP E ln (.b::ms) (x::xs) (q::mv)=(if isT x ln then none else (brw E (ln.map (·.1)) (val E x)).bind fun a=>(argsP E ln ms xs mv).map (a::·))) ∧
 (lendAt []=none) ∧
 (∀ (ms:List M),lendAt (.l::ms)=(if ms.any (fun | .l=>true | _=>false) then none else some 0)) ∧
 (∀ (ms:List M),lendAt (.b::ms)=(lendAt ms).map (· + 1)) ∧
 (∀ (ms:List M),lendAt (.m::ms)=(lendAt ms).map (· + 1)) ∧
 (∀ (ms:List M),lendAt (.p::ms)=(lendAt ms).map (· + 1)) ∧
 (noL []=true) ∧
 (∀ (ms:List M),noL (.b::ms)=noL ms) ∧
 (∀ (ms:List M),noL (.m::ms)=noL ms) ∧
 (∀ (ms:List M),noL (.p::ms)=noL ms) ∧
 (∀ (ms:List M),noL (.l::ms)=false) ∧
 (∀ (E:Env) (ms:List M) (xs:List O),prep E ms xs=Option.bind (mvP E ms xs) fun (mv:List (Option AV) × Env)=>if noL ms=true then Option.bind (argsP (Prod.snd mv) none ms xs (Prod.fst mv)) fun (as:List AV)=>if noLkL as=true then some (as,Prod.snd mv,none) else none else Option.bind (lendAt ms) fun (k:Nat)=>Option.bind (findL (Prod.snd mv) ms xs) fun (ln:Nat × Path × AV)=>Option.bind (argsP (Prod.snd mv) (some ln) ms xs (Prod.fst mv)) fun (as:List AV)=>if noLkL as=true then some (as,Prod.snd mv,some (k,Prod.fst ln,Prod.fst (Prod.snd ln))) else none) ∧
 (∀ (E:Env) (k r:Nat) (p:Path) (outs:List AV),backE E (some (k,r,p)) outs=Option.bind outs[k]? fun (o:AV)=>if fits (Env.f E r) p o=true∧AV.isRoot o=true then some (Env.upd E r (aset (Env.f E r) p o)) else none) ∧
 (∀ (E:Env) (pls:List Plc) (outs:List AV),backA E none pls outs=(if pls.all (fun q=>isU (aget (E.f q.2.2.1) q.2.2.2))=true then backP E outs pls else none)) ∧
 (∀ (E:Env) (q:Nat × Nat × Path) (pls:List Plc) (outs:List AV),backA E (some q) pls outs=backE E (some q) outs) ∧
 (∀ (E:Env) (os:List AV),backP E os []=some E) ∧
 (∀ (E:Env) (os:List AV) (k:Nat) (j:Option Nat) (r:Nat) (p:Path) (l:List Plc),backP E os ((k,j,r,p)::l)=(partP os k j).bind fun g=>if isU (aget (E.f r) p)=true∧g.1.isRoot=true∧fits (E.f r) p g.1=true then backP (fitE E r p g.1) g.2 l else none) ∧
 (∀ (os:List AV) (k:Nat),partP os k none=(os[k]?).map fun u=>(u,os.set k .undef)) ∧
 (∀ (os:List AV) (k j:Nat),
 partP os k (some j) =
  match os[k]? with
  | some (AV.agg cs)=>Option.map (fun (u:AV)=>(u,List.set os k (AV.agg (List.set cs j AV.undef)))) cs[j]?
  | x=>none) ∧
 (∀ (E:Env) (r:Nat) (p:Path) (u:AV),fitE E r p u=(if p.isEmpty then E.put r u else E.upd r (aset (E.f r) p u))) ∧
 (isU (some AV.undef)=true) ∧
 (∀ (b:Bool),isU (some (AV.bool b))=false) ∧
 (∀ (k:IntKind) (n:Int),isU (some (AV.int k n))=false) ∧
 (∀ (s:List UInt8),isU (some (AV.str s))=false) ∧
 (∀ (s:Nat) (es:List (List TV)),isU (some (AV.own s es))=false) ∧
 (∀ (s:Nat) (es:List (List TV)),isU (some (AV.ext s es))=false) ∧
 (∀ (v:Value) (s:Nat) (es:List (List TV)),isU (some (AV.extv v s es))=false) ∧
 (∀ (cs:List AV),isU (some (AV.box cs))=false) ∧
 (∀ (cs:List TV),isU (some (AV.xbox cs))=false) ∧
 (∀ (cs:List AV),isU (some (AV.agg cs))=false) ∧
 (∀ (cs:List AV),isU (some (AV.tup cs))=false) ∧
 (∀ (r:Nat) (e:Nat) (p:Path),isU (some (AV.lnk r e p))=false) ∧
 (∀ (r:Nat) (e:Nat) (p:Path) (s:Nat) (lo:Nat) (n:Nat),isU (some (AV.sub r e p s lo n))=false) ∧
 (∀ (r:Nat) (e:Nat) (p:Path) (st:St),isU (some (AV.ref r e p st))=false) ∧
 (∀ (f:Nat) (cs:List AV),isU (some (AV.fn f cs))=false) ∧
 (∀ (E:Env) (k j:Nat),plcL E k j []=[]) ∧
 (∀ (E:Env) (k0 j0:Nat) (l:List AV) ,plcL E k0 j0 ((AV.undef )::l)=plcL E k0 (j0+1) l) ∧
 (∀ (E:Env) (k0 j0:Nat) (l:List AV) (b:Bool),plcL E k0 j0 ((AV.bool b)::l)=plcL E k0 (j0+1) l) ∧
 (∀ (E:Env) (k0 j0:Nat) (l:List AV) (k:IntKind) (n:Int),plcL E k0 j0 ((AV.int k n)::l)=plcL E k0 (j0+1) l) ∧
 (∀ (E:Env) (k0 j0:Nat) (l:List AV) (s:List UInt8),plcL E k0 j0 ((AV.str s)::l)=plcL E k0 (j0+1) l) ∧
 (∀ (E:Env) (k0 j0:Nat) (l:List AV) (s:Nat) (es:List (List TV)),plcL E k0 j0 ((AV.own s es)::l)=plcL E k0 (j0+1) l) ∧
 (∀ (E:Env) (k0 j0:Nat) (l:List AV) (s:Nat) (es:List (List TV)),plcL E k0 j0 ((AV.ext s es)::l)=plcL E k0 (j0+1) l) ∧
 (∀ (E:Env) (k0 j0:Nat) (l:List AV) (v:Value) (s:Nat) (es:List (List TV)),plcL E k0 j0 ((AV.extv v s es)::l)=plcL E k0 (j0+1) l) ∧
 (∀ (E:Env) (k0 j0:Nat) (l:List AV) (cs:List AV),plcL E k0 j0 ((AV.box cs)::l)=plcL E k0 (j0+1) l) ∧
 (∀ (E:Env) (k0 j0:Nat) (l:List AV) (cs:List TV),plcL E k0 j0 ((AV.xbox cs)::l)=plcL E k0 (j0+1) l) ∧
 (∀ (E:Env) (k0 j0:Nat) (l:List AV) (cs:List AV),plcL E k0 j0 ((AV.agg cs)::l)=plcL E k0 (j0+1) l) ∧
 (∀ (E:Env) (k0 j0:Nat) (l:List AV) (cs:List AV),plcL E k0 j0 ((AV.tup cs)::l)=plcL E k0 (j0+1) l) ∧
 (∀ (E:Env) (k0 j0:Nat) (l:List AV) (r:Nat) (e:Nat) (p:Path),plcL E k0 j0 ((AV.lnk r e p)::l)=(if (nodeOf E r e p).isSome then (k0,some j0,r,p)::plcL E k0 (j0+1) l else plcL E k0 (j0+1) l)) ∧
 (∀ (E:Env) (k0 j0:Nat) (l:List AV) (r:Nat) (e:Nat) (p:Path) (s:Nat) (lo:Nat) (n:Nat),plcL E k0 j0 ((AV.sub r e p s lo n)::l)=plcL E k0 (j0+1) l) ∧
 (∀ (E:Env) (k0 j0:Nat) (l:List AV) (r:Nat) (e:Nat) (p:Path) (st:St),plcL E k0 j0 ((AV.ref r e p st)::l)=plcL E k0 (j0+1) l) ∧
 (∀ (E:Env) (k0 j0:Nat) (l:List AV) (f:Nat) (cs:List AV),plcL E k0 j0 ((AV.fn f cs)::l)=plcL E k0 (j0+1) l) ∧
 (∀ (E:Env) (k0:Nat),plcA E k0 AV.undef=[]) ∧
 (∀ (E:Env) (k0:Nat) (b:Bool),plcA E k0 (AV.bool b)=[]) ∧
 (∀ (E:Env) (k0:Nat) (k:IntKind) (n:Int),plcA E k0 (AV.int k n)=[]) ∧
 (∀ (E:Env) (k0:Nat) (s:List UInt8),plcA E k0 (AV.str s)=[]) ∧
 (∀ (E:Env) (k0 s:Nat) (es:List (List TV)),plcA E k0 (AV.own s es)=[]) ∧
 (∀ (E:Env) (k0 s:Nat) (es:List (List TV)),plcA E k0 (AV.ext s es)=[]) ∧
 (∀ (E:Env) (k0:Nat) (v:Value) (s:Nat) (es:List (List TV)),plcA E k0 (AV.extv v s es)=[]) ∧
 (∀ (E:Env) (k0:Nat) (cs:List AV),plcA E k0 (AV.box cs)=[]) ∧
 (∀ (E:Env) (k0:Nat) (cs:List TV),plcA E k0 (AV.xbox cs)=[]) ∧
 (∀ (E:Env) (k0:Nat) (cs:List AV),plcA E k0 (AV.agg cs)=plcL E k0 0 cs) ∧
 (∀ (E:Env) (k0:Nat) (cs:List AV),plcA E k0 (AV.tup cs)=[]) ∧
 (∀ (E:Env) (k0 r e:Nat) (p:Path),plcA E k0 (AV.lnk r e p)=if Option.isSome (nodeOf E r e p)=true then [(k0,none,r,p)] else []) ∧
 (∀ (E:Env) (k0 r e:Nat) (p:Path) (s lo n:Nat),plcA E k0 (AV.sub r e p s lo n)=[]) ∧
 (∀ (E:Env) (k0 r e:Nat) (p:Path) (st:St),plcA E k0 (AV.ref r e p st)=[]) ∧
 (∀ (E:Env) (k0 f:Nat) (cs:List AV),plcA E k0 (AV.fn f cs)=[]) ∧
 (∀ (E:Env) (k:Nat),plcs E k [] []=[]) ∧
 (∀ (E:Env) (k:Nat) (ms:List M) (x:O) (xs:List O),plcs E k (.p::ms) (x::xs)=plcA E k (val E x)++plcs E (k+1) ms xs) ∧
 (∀ (E:Env) (k:Nat) (ms:List M) (x:O) (xs:List O),plcs E k (.b::ms) (x::xs)=plcs E (k+1) ms xs) ∧
 (∀ (E:Env) (k:Nat) (ms:List M) (x:O) (xs:List O),plcs E k (.l::ms) (x::xs)=plcs E (k+1) ms xs) ∧
 (∀ (E:Env) (k:Nat) (ms:List M) (x:O) (xs:List O),plcs E k (.m::ms) (x::xs)=plcs E (k+1) ms xs) ∧
 (lentA AV.undef=false) ∧
 (∀ (b:Bool),lentA (AV.bool b)=false) ∧
 (∀ (k:IntKind) (n:Int),lentA (AV.int k n)=false) ∧
 (∀ (s:List UInt8),lentA (AV.str s)=false) ∧
 (∀ (s:Nat) (es:List (List TV)),lentA (AV.own s es)=false) ∧
 (∀ (s:Nat) (es:List (List TV)),lentA (AV.ext s es)=false) ∧
 (∀ (v:Value) (s:Nat) (es:List (List TV)),lentA (AV.extv v s es)=false) ∧
 (∀ (cs:List AV),lentA (AV.box cs)=false) ∧
 (∀ (cs:List TV),lentA (AV.xbox cs)=false) ∧
 (∀ (cs:List AV),lentA (AV.agg cs)=lentL cs) ∧
 (∀ (cs:List AV),lentA (AV.tup cs)=false) ∧
 (∀ (r e:Nat) (p:Path),lentA (AV.lnk r e p)=false) ∧
 (∀ (r e:Nat) (p:Path) (s lo n:Nat),lentA (AV.sub r e p s lo n)=false) ∧
 (∀ (r e:Nat) (p:Path) (st:St),lentA (AV.ref r e p st)=false) ∧
 (∀ (f:Nat) (cs:List AV),lentA (AV.fn f cs)=false) ∧
 (lentL []=true) ∧
 (∀ (l:List AV) ,lentL ((AV.undef )::l)=false) ∧
 (∀ (l:List AV) (b:Bool),lentL ((AV.bool b)::l)=lentL l) ∧
 (∀ (l:List AV) (k:IntKind) (n:Int),lentL ((AV.int k n)::l)=lentL l) ∧
 (∀ (l:List AV) (s:List UInt8),lentL ((AV.str s)::l)=lentL l) ∧
 (∀ (l:List AV) (s:Nat) (es:List (List TV)),lentL ((AV.own s es)::l)=false) ∧
 (∀ (l:List AV) (s:Nat) (es:List (List TV)),lentL ((AV.ext s es)::l)=false) ∧
 (∀ (l:List AV) (v:Value) (s:Nat) (es:List (List TV)),lentL ((AV.extv v s es)::l)=false) ∧
 (∀ (l:List AV) (cs:List AV),lentL ((AV.box cs)::l)=false) ∧
 (∀ (l:List AV) (cs:List TV),lentL ((AV.xbox cs)::l)=false) ∧
 (∀ (l:List AV) (cs:List AV),lentL ((AV.agg cs)::l)=false) ∧
 (∀ (l:List AV) (cs:List AV),lentL ((AV.tup cs)::l)=false) ∧
 (∀ (l:List AV) (r:Nat) (e:Nat) (p:Path),lentL ((AV.lnk r e p)::l)=(decide (1000≤r) && decide (r<2000) && lentL l)) ∧
 (∀ (l:List AV) (r:Nat) (e:Nat) (p:Path) (s:Nat) (lo:Nat) (n:Nat),lentL ((AV.sub r e p s lo n)::l)=false) ∧
 (∀ (l:List AV) (r:Nat) (e:Nat) (p:Path) (st:St),lentL ((AV.ref r e p st)::l)=false) ∧
 (∀ (l:List AV) (f:Nat) (cs:List AV),lentL ((AV.fn f cs)::l)=false) ∧
 (∀ (E:Env),pureM E [] []=true) ∧
 (∀ (E:Env) (ms:List M) (x:O) (xs:List O),pureM E (.b::ms) (x::xs)=(pureA (val E x) && pureM E ms xs)) ∧
 (∀ (E:Env) (ms:List M) (x:O) (xs:List O),pureM E (.l::ms) (x::xs)=pureM E ms xs) ∧
 (∀ (E:Env) (ms:List M) (x:O) (xs:List O),pureM E (.m::ms) (x::xs)=pureM E ms xs) ∧
 (∀ (E:Env) (ms:List M) (x:O) (xs:List O),pureM E (.p::ms) (x::xs)=pureM E ms xs) ∧
 (∀ (f:Nat) (xs:List O),mdOf [] f xs=xs.map fun _=>M.b) ∧
 (∀ (g f:Nat) (ms:List M) (bl:List (Nat × Nat)) (l:Modes) (xs:List O),mdOf ((g,ms,bl)::l) f xs=(if g=f then ms else mdOf l f xs)) ∧
 (∀ (E:Env),retG E []=some ([],E)) ∧
 (∀ (E:Env) (t:RV) (l:List RV),retG E (t::l)=Option.bind (retO E t) fun (g:AV × Env)=>Option.map (fun (y:List AV × Env)=>(Prod.fst g::Prod.fst y,Prod.snd y)) (retG (Prod.snd g) l)) ∧
 (∀ (E:Env) (t:Nat),
 retO E (RV.t t) =
  match takeB E (Env.f E t) with
  | some g=>some g
  | none=>gathO E (O.t t)) ∧
 (∀ (E:Env) (t sz:Nat) (ag:Bool),
 retO E (RV.c t sz ag) =
  Option.bind (takeB E (Env.f E t)) fun (g:AV × Env)=>
   match Prod.fst g with
   | AV.box cs=>if List.length cs=sz then Option.map (fun (x:AV)=>(x,Prod.snd g)) (oneOf cs ag) else none
   | x=>none) ∧
 (∀ (x:AV),retV [x]=x) ∧
 (retV []=AV.tup []) ∧
 (∀ (x y:AV) (l:List AV),retV (x::y::l)=AV.tup (x::y::l)) ∧
 (∀ (E:Env) (k:Nat) (bs:List Bool),outsE E k bs []=[]) ∧
 (∀ (E:Env) (k:Nat) (x:AV) (xs:List AV),outsE E k [] (x::xs)=.undef::outsE E (k+1) [] xs) ∧
 (∀ (E:Env) (k:Nat) (bs:List Bool) (x:AV) (xs:List AV),outsE E k (false::bs) (x::xs)=.undef::outsE E (k+1) bs xs) ∧
 (∀ (E:Env) (k:Nat) (bs:List Bool) (cs:List AV) (xs:List AV),outsE E k (true::bs) (.agg cs::xs)=.agg (cellO E k 0 cs)::outsE E (k+1) bs xs) ∧
 (∀ (E:Env) (k:Nat) (bs:List Bool) (cs:List AV) (xs:List AV),outsE E k (true::bs) (.box cs::xs)=E.f (1000+k)::outsE E (k+1) bs xs) ∧
 (∀ (E:Env) (k s:Nat) (es:List (List TV)) (bs:List Bool) (xs:List AV),outsE E k (true::bs) (.own s es::xs)=E.f (1000+k)::outsE E (k+1) bs xs) ∧
 (∀ (E:Env) (k j:Nat),cellO E k j []=[]) ∧
 (∀ (k j:Nat),cellA k j []=[]) ∧
 (∀ (k j:Nat),cellB k j []=[]) ∧
 (∀ (k j:Nat),rt k j=1000+(32*(j+1)+k)) ∧
 (∀ (E:Env) (k0 j0:Nat) (l:List AV) ,cellO E k0 j0 ((AV.undef )::l)=AV.undef::cellO E k0 (j0+1) l) ∧
 (∀ (k0 j0:Nat) (l:List AV) ,cellB k0 j0 ((AV.undef )::l)=AV.undef::cellB k0 (j0+1) l) ∧
 (∀ (k0 j0:Nat) (l:List AV) ,cellA k0 j0 ((AV.undef )::l)=cellA k0 (j0+1) l) ∧
 (∀ (E:Env) (k0 j0:Nat) (l:List AV) (b:Bool),cellO E k0 j0 ((AV.bool b)::l)=(AV.bool b)::cellO E k0 (j0+1) l) ∧
 (∀ (k0 j0:Nat) (l:List AV) (b:Bool),cellB k0 j0 ((AV.bool b)::l)=(AV.bool b)::cellB k0 (j0+1) l) ∧
 (∀ (k0 j0:Nat) (l:List AV) (b:Bool),cellA k0 j0 ((AV.bool b)::l)=cellA k0 (j0+1) l) ∧
 (∀ (E:Env) (k0 j0:Nat) (l:List AV) (k:IntKind) (n:Int),cellO E k0 j0 ((AV.int k n)::l)=(AV.int k n)::cellO E k0 (j0+1) l) ∧
 (∀ (k0 j0:Nat) (l:List AV) (k:IntKind) (n:Int),cellB k0 j0 ((AV.int k n)::l)=(AV.int k n)::cellB k0 (j0+1) l) ∧
 (∀ (k0 j0:Nat) (l:List AV) (k:IntKind) (n:Int),cellA k0 j0 ((AV.int k n)::l)=cellA k0 (j0+1) l) ∧
 (∀ (E:Env) (k0 j0:Nat) (l:List AV) (s:List UInt8),cellO E k0 j0 ((AV.str s)::l)=(AV.str s)::cellO E k0 (j0+1) l) ∧
 (∀ (k0 j0:Nat) (l:List AV) (s:List UInt8),cellB k0 j0 ((AV.str s)::l)=(AV.str s)::cellB k0 (j0+1) l) ∧
 (∀ (k0 j0:Nat) (l:List AV) (s:List UInt8),cellA k0 j0 ((AV.str s)::l)=cellA k0 (j0+1) l) ∧
 (∀ (E:Env) (k0 j0:Nat) (l:List AV) (s:Nat) (es:List (List TV)),cellO E k0 j0 ((AV.own s es)::l)=E.f (rt k0 j0)::cellO E k0 (j0+1) l) ∧
 (∀ (k0 j0:Nat) (l:List AV) (s:Nat) (es:List (List TV)),cellB k0 j0 ((AV.own s es)::l)=AV.lnk (rt k0 j0) 0 []::cellB k0 (j0+1) l) ∧
 (∀ (k0 j0:Nat) (l:List AV) (s:Nat) (es:List (List TV)),cellA k0 j0 ((AV.own s es)::l)=(rt k0 j0,(AV.own s es))::cellA k0 (j0+1) l) ∧
 (∀ (E:Env) (k0 j0:Nat) (l:List AV) (s:Nat) (es:List (List TV)),cellO E k0 j0 ((AV.ext s es)::l)=AV.undef::cellO E k0 (j0+1) l) ∧
 (∀ (k0 j0:Nat) (l:List AV) (s:Nat) (es:List (List TV)),cellB k0 j0 ((AV.ext s es)::l)=AV.undef::cellB k0 (j0+1) l) ∧
 (∀ (k0 j0:Nat) (l:List AV) (s:Nat) (es:List (List TV)),cellA k0 j0 ((AV.ext s es)::l)=cellA k0 (j0+1) l) ∧
 (∀ (E:Env) (k0 j0:Nat) (l:List AV) (v:Value) (s:Nat) (es:List (List TV)),cellO E k0 j0 ((AV.extv v s es)::l)=AV.undef::cellO E k0 (j0+1) l) ∧
 (∀ (k0 j0:Nat) (l:List AV) (v:Value) (s:Nat) (es:List (List TV)),cellB k0 j0 ((AV.extv v s es)::l)=AV.undef::cellB k0 (j0+1) l) ∧
 (∀ (k0 j0:Nat) (l:List AV) (v:Value) (s:Nat) (es:List (List TV)),cellA k0 j0 ((AV.extv v s es)::l)=cellA k0 (j0+1) l) ∧
 (∀ (E:Env) (k0 j0:Nat) (l:List AV) (cs:List AV),cellO E k0 j0 ((AV.box cs)::l)=AV.undef::cellO E k0 (j0+1) l) ∧
 (∀ (k0 j0:Nat) (l:List AV) (cs:List AV),cellB k0 j0 ((AV.box cs)::l)=AV.undef::cellB k0 (j0+1) l) ∧
 (∀ (k0 j0:Nat) (l:List AV) (cs:List AV),cellA k0 j0 ((AV.box cs)::l)=cellA k0 (j0+1) l) ∧
 (∀ (E:Env) (k0 j0:Nat) (l:List AV) (cs:List TV),cellO E k0 j0 ((AV.xbox cs)::l)=AV.undef::cellO E k0 (j0+1) l) ∧
 (∀ (k0 j0:Nat) (l:List AV) (cs:List TV),cellB k0 j0 ((AV.xbox cs)::l)=AV.undef::cellB k0 (j0+1) l) ∧
 (∀ (k0 j0:Nat) (l:List AV) (cs:List TV),cellA k0 j0 ((AV.xbox cs)::l)=cellA k0 (j0+1) l) ∧
 (∀ (E:Env) (k0 j0:Nat) (l:List AV) (cs:List AV),cellO E k0 j0 ((AV.agg cs)::l)=AV.undef::cellO E k0 (j0+1) l) ∧
 (∀ (k0 j0:Nat) (l:List AV) (cs:List AV),cellB k0 j0 ((AV.agg cs)::l)=AV.undef::cellB k0 (j0+1) l) ∧
 (∀ (k0 j0:Nat) (l:List AV) (cs:List AV),cellA k0 j0 ((AV.agg cs)::l)=cellA k0 (j0+1) l) ∧
 (∀ (E:Env) (k0 j0:Nat) (l:List AV) (cs:List AV),cellO E k0 j0 ((AV.tup cs)::l)=AV.undef::cellO E k0 (j0+1) l) ∧
 (∀ (k0 j0:Nat) (l:List AV) (cs:List AV),cellB k0 j0 ((AV.tup cs)::l)=AV.undef::cellB k0 (j0+1) l) ∧
 (∀ (k0 j0:Nat) (l:List AV) (cs:List AV),cellA k0 j0 ((AV.tup cs)::l)=cellA k0 (j0+1) l) ∧
 (∀ (E:Env) (k0 j0:Nat) (l:List AV) (r:Nat) (e:Nat) (p:Path),cellO E k0 j0 ((AV.lnk r e p)::l)=AV.undef::cellO E k0 (j0+1) l) ∧
 (∀ (k0 j0:Nat) (l:List AV) (r:Nat) (e:Nat) (p:Path),cellB k0 j0 ((AV.lnk r e p)::l)=AV.undef::cellB k0 (j0+1) l) ∧
 (∀ (k0 j0:Nat) (l:List AV) (r:Nat) (e:Nat) (p:Path),cellA k0 j0 ((AV.lnk r e p)::l)=cellA k0 (j0+1) l) ∧
 (∀ (E:Env) (k0 j0:Nat) (l:List AV) (r:Nat) (e:Nat) (p:Path) (s:Nat) (lo:Nat) (n:Nat),cellO E k0 j0 ((AV.sub r e p s lo n)::l)=AV.undef::cellO E k0 (j0+1) l) ∧
 (∀ (k0 j0:Nat) (l:List AV) (r:Nat) (e:Nat) (p:Path) (s:Nat) (lo:Nat) (n:Nat),cellB k0 j0 ((AV.sub r e p s lo n)::l)=AV.undef::cellB k0 (j0+1) l) ∧
 (∀ (k0 j0:Nat) (l:List AV) (r:Nat) (e:Nat) (p:Path) (s:Nat) (lo:Nat) (n:Nat),cellA k0 j0 ((AV.sub r e p s lo n)::l)=cellA k0 (j0+1) l) ∧
 (∀ (E:Env) (k0 j0:Nat) (l:List AV) (r:Nat) (e:Nat) (p:Path) (st:St),cellO E k0 j0 ((AV.ref r e p st)::l)=AV.undef::cellO E k0 (j0+1) l) ∧
 (∀ (k0 j0:Nat) (l:List AV) (r:Nat) (e:Nat) (p:Path) (st:St),cellB k0 j0 ((AV.ref r e p st)::l)=AV.undef::cellB k0 (j0+1) l) ∧
 (∀ (k0 j0:Nat) (l:List AV) (r:Nat) (e:Nat) (p:Path) (st:St),cellA k0 j0 ((AV.ref r e p st)::l)=cellA k0 (j0+1) l) ∧
 (∀ (E:Env) (k0 j0:Nat) (l:List AV) (f:Nat) (cs:List AV),cellO E k0 j0 ((AV.fn f cs)::l)=AV.undef::cellO E k0 (j0+1) l) ∧
 (∀ (k0 j0:Nat) (l:List AV) (f:Nat) (cs:List AV),cellB k0 j0 ((AV.fn f cs)::l)=AV.undef::cellB k0 (j0+1) l) ∧
 (∀ (k0 j0:Nat) (l:List AV) (f:Nat) (cs:List AV),cellA k0 j0 ((AV.fn f cs)::l)=cellA k0 (j0+1) l) ∧
 (∀ (rs:List RV) (bs:List Bool) (m:List AV) (ret:AV) (outs:List AV) (E:Env),doneE rs bs m ret outs E=onO (retG E rs) fun (q:List AV × Env)=>retV (Prod.fst q)=ret∧outsE (Prod.snd q) 0 bs m=outs∧noLkL (ret::outs)=true) ∧
 (∀ (k:Nat) (bs:List Bool),initA k bs []=[]):=by
 and_intros <;> intros <;> first | rfl | (cases ‹List Bool› <;> rfl) | exact bin_eql _ _ _ | exact bin_neq _ _ _ | exact bin_eqs _ _ | exact bin_nes _ _ | exact C_seq | exact CF_not | exact GF_not | exact C_blk | exact T_nil | exact G_call | exact G_callv | exact H1_call | exact on_map _ _ | exact on_bind _ _ | exact on_some _ | exact on_none | exact mkV_put _ _ _ _ _ _ | exact mkV_upd _ _ _ _ _ _ | exact mkV_set0 _ _ _ _ _ _ | exact mkV_norm _ _ _ _ | (split <;> rfl) | (cases ‹Bool› <;> rfl) | (simp; done) | (simp only [ev]; cases val _ _ <;> rfl) | (simp [binV,isSh,binI,binS,beq_eq_decide,bne]; done) | simp [binV,isSh,binI,eqC,Fin,FinEx,T,touchI,I.opds,I.der,I.dsts,optO,CF,GF,HF]
theorem S3 :
 (∀ (k:Nat) (x:AV) (xs:List AV),initA k [] (x::xs)=(k,x)::initA (k+1) [] xs) ∧
 (∀ (k:Nat) (bs:List Bool) (x:AV) (xs:List AV),initA k (false::bs) (x::xs)=(k,x)::initA (k+1) bs xs) ∧
 (∀ (k:Nat) (bs:List Bool) (cs:List AV) (xs:List AV),initA k (true::bs) (.agg cs::xs)=cellA k 0 cs++initA (k+1) bs xs) ∧
 (∀ (k:Nat) (bs:List Bool) (cs:List AV) (xs:List AV),initA k (true::bs) (.box cs::xs)=(1000+k,.box cs)::initA (k+1) bs xs) ∧
 (∀ (k s:Nat) (es:List (List TV)) (bs:List Bool) (xs:List AV),initA k (true::bs) (.own s es::xs)=(1000+k,.own s es)::initA (k+1) bs xs) ∧
 (∀ (k:Nat) (bs:List Bool),initB k bs []=[]) ∧
 (∀ (k:Nat) (x:AV) (xs:List AV),initB k [] (x::xs)=[]) ∧
 (∀ (k:Nat) (bs:List Bool) (x:AV) (xs:List AV),initB k (false::bs) (x::xs)=initB (k+1) bs xs) ∧
 (∀ (k:Nat) (bs:List Bool) (x:AV) (xs:List AV),initB k (true::bs) (x::xs)=(k,lnkTo k x)::initB (k+1) bs xs) ∧
 (∀ (k0:Nat),lnkTo k0 AV.undef=AV.lnk (1000+k0) 0 []) ∧
 (∀ (k0:Nat) (b:Bool),lnkTo k0 (AV.bool b)=AV.lnk (1000+k0) 0 []) ∧
 (∀ (k0:Nat) (k:IntKind) (n:Int),lnkTo k0 (AV.int k n)=AV.lnk (1000+k0) 0 []) ∧
 (∀ (k0:Nat) (s:List UInt8),lnkTo k0 (AV.str s)=AV.lnk (1000+k0) 0 []) ∧
 (∀ (k0 s:Nat) (es:List (List TV)),lnkTo k0 (AV.own s es)=AV.lnk (1000+k0) 0 []) ∧
 (∀ (k0 s:Nat) (es:List (List TV)),lnkTo k0 (AV.ext s es)=AV.lnk (1000+k0) 0 []) ∧
 (∀ (k0:Nat) (v:Value) (s:Nat) (es:List (List TV)),lnkTo k0 (AV.extv v s es)=AV.lnk (1000+k0) 0 []) ∧
 (∀ (k0:Nat) (cs:List AV),lnkTo k0 (AV.box cs)=AV.ref (1000+k0) 0 [] (St.mk 0 0 0)) ∧
 (∀ (k0:Nat) (cs:List TV),lnkTo k0 (AV.xbox cs)=AV.lnk (1000+k0) 0 []) ∧
 (∀ (k0:Nat) (cs:List AV),lnkTo k0 (AV.agg cs)=AV.agg (cellB k0 0 cs)) ∧
 (∀ (k0:Nat) (cs:List AV),lnkTo k0 (AV.tup cs)=AV.lnk (1000+k0) 0 []) ∧
 (∀ (k0 r e:Nat) (p:Path),lnkTo k0 (AV.lnk r e p)=AV.lnk (1000+k0) 0 []) ∧
 (∀ (k0 r e:Nat) (p:Path) (s lo n:Nat),lnkTo k0 (AV.sub r e p s lo n)=AV.lnk (1000+k0) 0 []) ∧
 (∀ (k0 r e:Nat) (p:Path) (st:St),lnkTo k0 (AV.ref r e p st)=AV.lnk (1000+k0) 0 []) ∧
 (∀ (k0 f:Nat) (cs:List AV),lnkTo k0 (AV.fn f cs)=AV.lnk (1000+k0) 0 []) ∧
 (∀ (E:Env) (d:Nat) (a:AV),ev E (I.mov d (O.c a))=some (Env.put E d a)) ∧
 (∀ (w:Wk) (d0:Option Nat) (is:List GI) (st:List Fr) (E:Env) (d:Nat) (a:AV),G w (GI.mk none d0 (.mov d (.c a))::is) st E=X w is st (ev E (.mov d (.c a)))) ∧
 (∀ (w:Wk) (t0:List Nat) (bs:List Nat) (acc:List Rcd) (is:List GI) (st:List Fr) (E:Env) (d:Nat) (a:AV),H1 w t0 bs acc (.mov d (.c a)) is st E=XH w bs (acc++[(t0++touchI E (.mov d (.c a)),wrI E [] (.mov d (.c a)))]) is st (ev E (.mov d (.c a)))) ∧
 (∀ (E:Env) (d:Nat) (a:AV),touchI E (I.mov d (O.c a))=O.tmp (O.c a)++[d]) ∧
 (∀ (E:Env) (ms:List M) (d:Nat) (a:AV),
 wrI E ms (I.mov d (O.c a)) =
  match val E (O.c a) with
  | AV.own s es=>[d]
  | AV.box cs=>[d]
  | x=>d::pW E (O.c a)) ∧
 (∀ (E:Env) (d n:Nat),
 ev E (I.mov d (O.t n)) =
  match Env.f E n with
  | AV.own s es=>if d=n then none else some (Env.put E d (AV.lnk n (Prod.fst (Env.ep E n)) []))
  | AV.box cs=>if d=n then none else some (Env.put E d (AV.ref n (Prod.fst (Env.ep E n)) [] (St.mk 0 0 0)))
  | a=>if AV.owns a=true then some (Env.put (Env.put E n AV.undef) d a) else some (Env.put E d a)) ∧
 (∀ (w:Wk) (d0:Option Nat) (is:List GI) (st:List Fr) (E:Env) (d n:Nat),G w (GI.mk none d0 (.mov d (.t n))::is) st E=X w is st (ev E (.mov d (.t n)))) ∧
 (∀ (w:Wk) (t0:List Nat) (bs:List Nat) (acc:List Rcd) (is:List GI) (st:List Fr) (E:Env) (d n:Nat),H1 w t0 bs acc (.mov d (.t n)) is st E=XH w bs (acc++[(t0++touchI E (.mov d (.t n)),wrI E [] (.mov d (.t n)))]) is st (ev E (.mov d (.t n)))) ∧
 (∀ (E:Env) (d n:Nat),touchI E (I.mov d (O.t n))=O.tmp (O.t n)++[d]) ∧
 (∀ (E:Env) (ms:List M) (d n:Nat),
 wrI E ms (I.mov d (O.t n)) =
  match val E (O.t n) with
  | AV.own s es=>[d]
  | AV.box cs=>[d]
  | x=>d::pW E (O.t n)) ∧
 (∀ (E:Env) (d:Nat) (x:O),
 ev E (I.asg d x) =
  match val E x with
  | AV.sub r e p s lo n=>if r=d∧List.isEmpty p=true then Option.map (fun (g:AV × Env)=>Env.put (Prod.snd g) d (Prod.fst g)) (gathA E (AV.sub r e p s lo n)) else some (Env.put E d (AV.sub r e p s lo n))
  | x_1=>some (Env.put (Prod.snd (pull E x)) d (Prod.fst (pull E x)))) ∧
 (∀ (w:Wk) (d0:Option Nat) (is:List GI) (st:List Fr) (E:Env) (d:Nat) (x:O),G w (GI.mk none d0 (.asg d x)::is) st E=X w is st (ev E (.asg d x))) ∧
 (∀ (w:Wk) (t0:List Nat) (bs:List Nat) (acc:List Rcd) (is:List GI) (st:List Fr) (E:Env) (d:Nat) (x:O),H1 w t0 bs acc (.asg d x) is st E=XH w bs (acc++[(t0++touchI E (.asg d x),wrI E [] (.asg d x))]) is st (ev E (.asg d x))) ∧
 (∀ (E:Env) (d:Nat) (x:O),touchI E (I.asg d x)=O.tmp x++[d]) ∧
 (∀ (E:Env) (ms:List M) (d:Nat) (x:O),wrI E ms (I.asg d x)=d::pW E x) ∧
 (∀ (E:Env) (d:Nat) (op:BinOp) (x y:O),ev E (I.bin d op x y)=Option.map (fun (x:AV)=>Env.put E d x) (binV op (val E x) (val E y))) ∧
 (∀ (w:Wk) (d0:Option Nat) (is:List GI) (st:List Fr) (E:Env) (d:Nat) (op:BinOp) (x y:O),G w (GI.mk none d0 (.bin d op x y)::is) st E=X w is st (ev E (.bin d op x y))) ∧
 (∀ (w:Wk) (t0:List Nat) (bs:List Nat) (acc:List Rcd) (is:List GI) (st:List Fr) (E:Env) (d:Nat) (op:BinOp) (x y:O),H1 w t0 bs acc (.bin d op x y) is st E=XH w bs (acc++[(t0++touchI E (.bin d op x y),wrI E [] (.bin d op x y))]) is st (ev E (.bin d op x y))) ∧
 (∀ (E:Env) (d:Nat) (op:BinOp) (x y:O),touchI E (I.bin d op x y)=O.tmp x++(O.tmp y++[d])) ∧
 (∀ (E:Env) (ms:List M) (d:Nat) (op:BinOp) (x y:O),wrI E ms (I.bin d op x y)=[d]) ∧
 (∀ (E:Env) (d:Nat) (neg:Bool) (x y:O),
 ev E (I.beq d neg x y) =
  match val E x,val E y with
  | AV.bool a,AV.bool b=>some (Env.put E d (AV.bool (if neg=true then !a == b else a == b)))
  | x,x_1=>none) ∧
 (∀ (w:Wk) (d0:Option Nat) (is:List GI) (st:List Fr) (E:Env) (d:Nat) (neg:Bool) (x y:O),G w (GI.mk none d0 (.beq d neg x y)::is) st E=X w is st (ev E (.beq d neg x y))) ∧
 (∀ (w:Wk) (t0:List Nat) (bs:List Nat) (acc:List Rcd) (is:List GI) (st:List Fr) (E:Env) (d:Nat) (neg:Bool) (x y:O),H1 w t0 bs acc (.beq d neg x y) is st E=XH w bs (acc++[(t0++touchI E (.beq d neg x y),wrI E [] (.beq d neg x y))]) is st (ev E (.beq d neg x y))) ∧
 (∀ (E:Env) (d:Nat) (neg:Bool) (x y:O),touchI E (I.beq d neg x y)=O.tmp x++(O.tmp y++[d])) ∧
 (∀ (E:Env) (ms:List M) (d:Nat) (neg:Bool) (x y:O),wrI E ms (I.beq d neg x y)=[d]) ∧
 (∀ (E:Env) (d:Nat) (neg:Bool) (ks:List Nat) (x y:O),
 ev E (I.eqs d neg ks x y) =
  match val E x,val E y with
  | AV.agg a,AV.agg b=>Option.map (fun (r:Bool)=>Env.put E d (AV.bool (if neg=true then !r else r))) (eqC ks a b)
  | x,x_1=>none) ∧
 (∀ (w:Wk) (d0:Option Nat) (is:List GI) (st:List Fr) (E:Env) (d:Nat) (neg:Bool) (ks:List Nat) (x y:O),G w (GI.mk none d0 (.eqs d neg ks x y)::is) st E=X w is st (ev E (.eqs d neg ks x y))) ∧
 (∀ (w:Wk) (t0:List Nat) (bs:List Nat) (acc:List Rcd) (is:List GI) (st:List Fr) (E:Env) (d:Nat) (neg:Bool) (ks:List Nat) (x y:O),H1 w t0 bs acc (.eqs d neg ks x y) is st E=XH w bs (acc++[(t0++touchI E (.eqs d neg ks x y),wrI E [] (.eqs d neg ks x y))]) is st (ev E (.eqs d neg ks x y))) ∧
 (∀ (E:Env) (d:Nat) (neg:Bool) (ks:List Nat) (x y:O),touchI E (I.eqs d neg ks x y)=O.tmp x++(O.tmp y++[d])) ∧
 (∀ (E:Env) (ms:List M) (d:Nat) (neg:Bool) (ks:List Nat) (x y:O),wrI E ms (I.eqs d neg ks x y)=[d]) ∧
 (∀ (w:Wk) (d0:Option Nat) (is:List GI) (st:List Fr) (E:Env) (d:Nat) (neg:Bool) (x y:O),G w (GI.mk none d0 (.isn d neg x y)::is) st E=X w is st (ev E (.isn d neg x y))) ∧
 (∀ (w:Wk) (t0:List Nat) (bs:List Nat) (acc:List Rcd) (is:List GI) (st:List Fr) (E:Env) (d:Nat) (neg:Bool) (x y:O),H1 w t0 bs acc (.isn d neg x y) is st E=XH w bs (acc++[(t0++touchI E (.isn d neg x y),wrI E [] (.isn d neg x y))]) is st (ev E (.isn d neg x y))) ∧
 (∀ (E:Env) (d:Nat) (neg:Bool) (x y:O),touchI E (I.isn d neg x y)=O.tmp x++(O.tmp y++[d])) ∧
 (∀ (E:Env) (ms:List M) (d:Nat) (neg:Bool) (x y:O),wrI E ms (I.isn d neg x y)=[d]) ∧
 (∀ (E:Env) (d:Nat) (op:UnOp) (x:O),ev E (I.un d op x)=Option.map (fun (x:AV)=>Env.put E d x) (unV op (val E x))) ∧
 (∀ (w:Wk) (d0:Option Nat) (is:List GI) (st:List Fr) (E:Env) (d:Nat) (op:UnOp) (x:O),G w (GI.mk none d0 (.un d op x)::is) st E=X w is st (ev E (.un d op x))) ∧
 (∀ (w:Wk) (t0:List Nat) (bs:List Nat) (acc:List Rcd) (is:List GI) (st:List Fr) (E:Env) (d:Nat) (op:UnOp) (x:O),H1 w t0 bs acc (.un d op x) is st E=XH w bs (acc++[(t0++touchI E (.un d op x),wrI E [] (.un d op x))]) is st (ev E (.un d op x))) ∧
 (∀ (E:Env) (d:Nat) (op:UnOp) (x:O),touchI E (I.un d op x)=O.tmp x++[d]) ∧
 (∀ (E:Env) (ms:List M) (d:Nat) (op:UnOp) (x:O),wrI E ms (I.un d op x)=[d]) ∧
 (∀ (E:Env) (d:Nat) (k:IntKind) (x:O),
 ev E (I.conv d k x) =
  match val E x with
  | AV.int k_1 n=>some (Env.put E d (AV.int k (IntKind.wrap k n)))
  | x=>none) ∧
 (∀ (w:Wk) (d0:Option Nat) (is:List GI) (st:List Fr) (E:Env) (d:Nat) (k:IntKind) (x:O),G w (GI.mk none d0 (.conv d k x)::is) st E=X w is st (ev E (.conv d k x))) ∧
 (∀ (w:Wk) (t0:List Nat) (bs:List Nat) (acc:List Rcd) (is:List GI) (st:List Fr) (E:Env) (d:Nat) (k:IntKind) (x:O),H1 w t0 bs acc (.conv d k x) is st E=XH w bs (acc++[(t0++touchI E (.conv d k x),wrI E [] (.conv d k x))]) is st (ev E (.conv d k x))) ∧
 (∀ (E:Env) (d:Nat) (k:IntKind) (x:O),touchI E (I.conv d k x)=O.tmp x++[d]) ∧
 (∀ (E:Env) (ms:List M) (d:Nat) (k:IntKind) (x:O),wrI E ms (I.conv d k x)=[d]) ∧
 (∀ (E:Env) (d:Nat) (x:O),
 ev E (I.s2b d x) =
  match val E x with
  | AV.str s=>some (Env.put E d (AV.own 1 (bytesR s)))
  | x=>none) ∧
 (∀ (w:Wk) (d0:Option Nat) (is:List GI) (st:List Fr) (E:Env) (d:Nat) (x:O),G w (GI.mk none d0 (.s2b d x)::is) st E=X w is st (ev E (.s2b d x))) ∧
 (∀ (w:Wk) (t0:List Nat) (bs:List Nat) (acc:List Rcd) (is:List GI) (st:List Fr) (E:Env) (d:Nat) (x:O),H1 w t0 bs acc (.s2b d x) is st E=XH w bs (acc++[(t0++touchI E (.s2b d x),wrI E [] (.s2b d x))]) is st (ev E (.s2b d x))) ∧
 (∀ (E:Env) (d:Nat) (x:O),touchI E (I.s2b d x)=O.tmp x++[d]) ∧
 (∀ (E:Env) (ms:List M) (d:Nat) (x:O),wrI E ms (I.s2b d x)=[d]) ∧
 (∀ (E:Env) (d:Nat) (x:O),ev E (I.b2s d x)=Option.bind (rowsOf E (val E x)) fun (r:Nat × List (List TV))=>if Prod.fst r=1 then Option.map (fun (bs:List UInt8)=>Env.put E d (AV.str bs)) (rowsBytes (Prod.snd r)) else none) ∧
 (∀ (w:Wk) (d0:Option Nat) (is:List GI) (st:List Fr) (E:Env) (d:Nat) (x:O),G w (GI.mk none d0 (.b2s d x)::is) st E=X w is st (ev E (.b2s d x))) ∧
 (∀ (w:Wk) (t0:List Nat) (bs:List Nat) (acc:List Rcd) (is:List GI) (st:List Fr) (E:Env) (d:Nat) (x:O),H1 w t0 bs acc (.b2s d x) is st E=XH w bs (acc++[(t0++touchI E (.b2s d x),wrI E [] (.b2s d x))]) is st (ev E (.b2s d x))) ∧
 (∀ (E:Env) (d:Nat) (x:O),touchI E (I.b2s d x)=O.tmp x++d::lks (val E x)) ∧
 (∀ (E:Env) (ms:List M) (d:Nat) (x:O),wrI E ms (I.b2s d x)=[d]) ∧
 (∀ (E:Env) (d:Nat) (x:O),ev E (I.len d x)=Option.map (fun (r:Nat × List (List TV))=>Env.put E d (AV.int IntKind.i64 ↑(List.length (Prod.snd r)))) (rowsOf E (val E x))) ∧
 (∀ (w:Wk) (d0:Option Nat) (is:List GI) (st:List Fr) (E:Env) (d:Nat) (x:O),G w (GI.mk none d0 (.len d x)::is) st E=X w is st (ev E (.len d x))) ∧
 (∀ (w:Wk) (t0:List Nat) (bs:List Nat) (acc:List Rcd) (is:List GI) (st:List Fr) (E:Env) (d:Nat) (x:O),H1 w t0 bs acc (.len d x) is st E=XH w bs (acc++[(t0++touchI E (.len d x),wrI E [] (.len d x))]) is st (ev E (.len d x))) ∧
 (∀ (E:Env) (d:Nat) (x:O),touchI E (I.len d x)=O.tmp x++d::lks (val E x)) ∧
 (∀ (E:Env) (ms:List M) (d:Nat) (x:O),wrI E ms (I.len d x)=[d]) ∧
 (∀ (E:Env) (d:Nat) (x:O),
 ev E (I.lens d x) =
  match val E x with
  | AV.str s=>some (Env.put E d (AV.int IntKind.i64 ↑(List.length s)))
  | x=>none) ∧
 (∀ (w:Wk) (d0:Option Nat) (is:List GI) (st:List Fr) (E:Env) (d:Nat) (x:O),G w (GI.mk none d0 (.lens d x)::is) st E=X w is st (ev E (.lens d x))) ∧
 (∀ (w:Wk) (t0:List Nat) (bs:List Nat) (acc:List Rcd) (is:List GI) (st:List Fr) (E:Env) (d:Nat) (x:O),H1 w t0 bs acc (.lens d x) is st E=XH w bs (acc++[(t0++touchI E (.lens d x),wrI E [] (.lens d x))]) is st (ev E (.lens d x))) ∧
 (∀ (E:Env) (d:Nat) (x:O),touchI E (I.lens d x)=O.tmp x++[d]) ∧
 (∀ (E:Env) (ms:List M) (d:Nat) (x:O),wrI E ms (I.lens d x)=[d]) ∧
 (∀ (E:Env) (d:Nat) (x i:O) (s:Nat),
 ev E (I.idx d x i s) =
  match val E i with
  | AV.int k n=>
   match val E x with
   | AV.ext s' es=>if s'=s∧0≤n∧n<↑(List.length es) then Option.map (fun (row:List TV)=>Env.put E d (AV.xbox row)) es[Int.toNat n]? else none
   | AV.extv v s' es=>if s'=s∧0≤n∧n<↑(List.length es) then Option.map (fun (row:List TV)=>Env.put E d (AV.xbox row)) es[Int.toNat n]? else none
   | AV.lnk r e p=>Option.bind (nodeOf E r e p) fun (y:Nat × List (List TV))=>if Prod.fst y=s∧0≤n∧n<↑(List.length (Prod.snd y)) then some (Env.put E d (AV.ref r e p (St.mk (Int.toNat n) s 0))) else none
   | AV.sub r e p s' lo m=>Option.bind (nodeOf E r e p) fun (y:Nat × List (List TV))=>if Prod.fst y=s∧s'=s∧0≤n∧n<↑m∧lo+m≤List.length (Prod.snd y) then some (Env.put E d (AV.ref r e p (St.mk (lo+Int.toNat n) s 0))) else none
   | AV.own s' es=>
    match x with
    | O.t m=>if s'=s∧m≠d∧0≤n∧n<↑(List.length es) then some (Env.put E d (AV.ref m (Prod.fst (Env.ep E m)) [] (St.mk (Int.toNat n) s 0))) else none
    | x=>none
   | x=>none
  | x=>none) ∧
 (∀ (w:Wk) (d0:Option Nat) (is:List GI) (st:List Fr) (E:Env) (d:Nat) (x i:O) (s:Nat),G w (GI.mk none d0 (.idx d x i s)::is) st E=X w is st (ev E (.idx d x i s))) ∧
 (∀ (w:Wk) (t0:List Nat) (bs:List Nat) (acc:List Rcd) (is:List GI) (st:List Fr) (E:Env) (d:Nat) (x i:O) (s:Nat),H1 w t0 bs acc (.idx d x i s) is st E=XH w bs (acc++[(t0++touchI E (.idx d x i s),wrI E [] (.idx d x i s))]) is st (ev E (.idx d x i s))) ∧
 (∀ (E:Env) (d:Nat) (x i:O) (s:Nat),touchI E (I.idx d x i s)=O.tmp x++(O.tmp i++d::lks (val E x))) ∧
 (∀ (E:Env) (ms:List M) (d:Nat) (x i:O) (s:Nat),wrI E ms (I.idx d x i s)=[d]) ∧
 (∀ (E:Env) (d:Nat) (x:O) (off:Nat),
 ev E (I.fld d x off) =
  match val E x with
  | AV.xbox cs=>if off≤List.length cs then some (Env.put E d (AV.xbox (List.drop off cs))) else none
  | AV.ref r e p st=>if vld E r e p=true then some (Env.put E d (AV.ref r e p (St.mk (St.i st) (St.s st) (St.j st+off)))) else none
  | x=>none) ∧
 (∀ (w:Wk) (d0:Option Nat) (is:List GI) (st:List Fr) (E:Env) (d:Nat) (x:O) (off:Nat),G w (GI.mk none d0 (.fld d x off)::is) st E=X w is st (ev E (.fld d x off))) ∧
 (∀ (w:Wk) (t0:List Nat) (bs:List Nat) (acc:List Rcd) (is:List GI) (st:List Fr) (E:Env) (d:Nat) (x:O) (off:Nat),H1 w t0 bs acc (.fld d x off) is st E=XH w bs (acc++[(t0++touchI E (.fld d x off),wrI E [] (.fld d x off))]) is st (ev E (.fld d x off))) ∧
 (∀ (E:Env) (d:Nat) (x:O) (off:Nat),touchI E (I.fld d x off)=O.tmp x++d::lks (val E x)) ∧
 (∀ (E:Env) (ms:List M) (d:Nat) (x:O) (off:Nat),wrI E ms (I.fld d x off)=[d]) ∧
 (∀ (E:Env) (d:Nat) (x:O) (off sz:Nat) (ag:Bool),
 ev E (I.fldv d x off sz ag) =
  match pull E x with
  | (AV.agg cs,E1)=>if off+sz≤List.length cs then Option.map (fun (a:AV)=>Env.put E1 d a) (oneOf (List.take sz (List.drop off cs)) ag) else none
  | x=>none) ∧
 (∀ (w:Wk) (d0:Option Nat) (is:List GI) (st:List Fr) (E:Env) (d:Nat) (x:O) (off sz:Nat) (ag:Bool),G w (GI.mk none d0 (.fldv d x off sz ag)::is) st E=X w is st (ev E (.fldv d x off sz ag))) ∧
 (∀ (w:Wk) (t0:List Nat) (bs:List Nat) (acc:List Rcd) (is:List GI) (st:List Fr) (E:Env) (d:Nat) (x:O) (off sz:Nat) (ag:Bool),H1 w t0 bs acc (.fldv d x off sz ag) is st E=XH w bs (acc++[(t0++touchI E (.fldv d x off sz ag),wrI E [] (.fldv d x off sz ag))]) is st (ev E (.fldv d x off sz ag))) ∧
 (∀ (E:Env) (d:Nat) (x:O) (off sz:Nat) (ag:Bool),touchI E (I.fldv d x off sz ag)=O.tmp x++[d]) ∧
 (∀ (E:Env) (ms:List M) (d:Nat) (x:O) (off sz:Nat) (ag:Bool),wrI E ms (I.fldv d x off sz ag)=d::pW E x) ∧
 (∀ (E:Env) (d:Nat) (x:O) (sz:Nat) (ag:Bool),
 ev E (I.ld d x sz ag) =
  match val E x with
  | AV.xbox cs=>if sz≤List.length cs then Option.map (fun (a:AV)=>Env.put E d a) (oneOf (List.map TV.xv (List.take sz cs)) ag) else none
  | AV.ref r e p st=>Option.bind (cellsAt E r e p st sz) fun (cs:List AV)=>Option.bind (oneOf cs ag) fun (a:AV)=>if ownsL cs=false then some (Env.put E d a) else none
  | x=>none) ∧
 (∀ (w:Wk) (d0:Option Nat) (is:List GI) (st:List Fr) (E:Env) (d:Nat) (x:O) (sz:Nat) (ag:Bool),G w (GI.mk none d0 (.ld d x sz ag)::is) st E=X w is st (ev E (.ld d x sz ag))) ∧
 (∀ (w:Wk) (t0:List Nat) (bs:List Nat) (acc:List Rcd) (is:List GI) (st:List Fr) (E:Env) (d:Nat) (x:O) (sz:Nat) (ag:Bool),H1 w t0 bs acc (.ld d x sz ag) is st E=XH w bs (acc++[(t0++touchI E (.ld d x sz ag),wrI E [] (.ld d x sz ag))]) is st (ev E (.ld d x sz ag))) ∧
 (∀ (E:Env) (d:Nat) (x:O) (sz:Nat) (ag:Bool),touchI E (I.ld d x sz ag)=O.tmp x++d::lks (val E x)) ∧
 (∀ (E:Env) (ms:List M) (d:Nat) (x:O) (sz:Nat) (ag:Bool),wrI E ms (I.ld d x sz ag)=[d]) ∧
 (∀ (E:Env) (x v:O) (sz:Nat),
 ev E (I.st x v sz) =
  match val E x with
  | AV.ref r e p st=>
   Option.bind (gathO E v) fun (g:AV × Env)=>
    match p,Env.f (Prod.snd g) r with
    | [],AV.box cs0=>if e=Prod.fst (Env.ep (Prod.snd g) r)∧St.i st=0∧plain (Prod.fst g)=true∧ones (cellsOf (Prod.fst g))=true∧List.length (cellsOf (Prod.fst g))=sz∧St.j st+sz≤List.length cs0 then some (Env.upd (Prod.snd g) r (AV.box (lay cs0 (St.j st) (cellsOf (Prod.fst g))))) else none
    | x,x_1=>Option.bind (tvs (cellsOf (Prod.fst g))) fun (ts:List TV)=>Option.bind (nodeOf (Prod.snd g) r e p) fun (y:Nat × List (List TV))=>if plain (Prod.fst g)=true∧ones (cellsOf (Prod.fst g))=true∧St.s st=Prod.fst y∧St.i st<List.length (Prod.snd y)∧List.length ts=sz∧St.j st+sz≤Prod.fst y then some (Env.upd (Prod.snd g) r (aset (Env.f (Prod.snd g) r) p (AV.own (Prod.fst y) (List.modify (Prod.snd y) (St.i st) fun (x:List TV)=>lay x (St.j st) ts)))) else none
  | x=>none) ∧
 (∀ (w:Wk) (d0:Option Nat) (is:List GI) (st:List Fr) (E:Env) (x v:O) (sz:Nat),G w (GI.mk none d0 (.st x v sz)::is) st E=X w is st (ev E (.st x v sz))) ∧
 (∀ (w:Wk) (t0:List Nat) (bs:List Nat) (acc:List Rcd) (is:List GI) (st:List Fr) (E:Env) (x v:O) (sz:Nat),H1 w t0 bs acc (.st x v sz) is st E=XH w bs (acc++[(t0++touchI E (.st x v sz),wrI E [] (.st x v sz))]) is st (ev E (.st x v sz))) ∧
 (∀ (E:Env) (x v:O) (sz:Nat),touchI E (I.st x v sz)=O.tmp x++(O.tmp v++(lks (val E x)++lks (val E v)))) ∧
 (∀ (E:Env) (ms:List M) (x v:O) (sz:Nat),wrI E ms (I.st x v sz)=lks (val E x)++gW E v) ∧
 (∀ (E:Env) (d:Nat) (z:List TV),ev E (I.alc d z)=some (Env.put (Env.put E (5000+d) (AV.box (List.map TV.av z))) d (AV.ref (5000+d) (curE (Env.ep (Env.put E (5000+d) (AV.box (List.map TV.av z))) (5000+d)) []) [] (St.mk 0 0 0)))) ∧
 (∀ (w:Wk) (d0:Option Nat) (is:List GI) (st:List Fr) (E:Env) (d:Nat) (z:List TV),G w (GI.mk none d0 (.alc d z)::is) st E=X w is st (ev E (.alc d z))) ∧
 (∀ (w:Wk) (t0:List Nat) (bs:List Nat) (acc:List Rcd) (is:List GI) (st:List Fr) (E:Env) (d:Nat) (z:List TV),H1 w t0 bs acc (.alc d z) is st E=XH w bs (acc++[(t0++touchI E (.alc d z),wrI E [] (.alc d z))]) is st (ev E (.alc d z))) ∧
 (∀ (E:Env) (d:Nat) (z:List TV),touchI E (I.alc d z)=[d,5000+d]) ∧
 (∀ (E:Env) (ms:List M) (d:Nat) (z:List TV),wrI E ms (I.alc d z)=[d,5000+d]) ∧
 (∀ (E:Env) (d:Nat) (v:O),ev E (I.box d v)=if lentA (val E v)=true then some (Env.put (Env.put E (5000+d) (AV.box (cellsOf (val E v)))) d (AV.ref (5000+d) (curE (Env.ep (Env.put E (5000+d) (AV.box (cellsOf (val E v)))) (5000+d)) []) [] (St.mk 0 0 0))) else Option.bind (gathO E v) fun (g:AV × Env)=>if plain (Prod.fst g)=true then some (Env.put (Env.put (Prod.snd g) (5000+d) (AV.box (cellsOf (Prod.fst g)))) d (AV.ref (5000+d) (curE (Env.ep (Env.put (Prod.snd g) (5000+d) (AV.box (cellsOf (Prod.fst g)))) (5000+d)) []) [] (St.mk 0 0 0))) else none) ∧
 (∀ (w:Wk) (d0:Option Nat) (is:List GI) (st:List Fr) (E:Env) (d:Nat) (v:O),G w (GI.mk none d0 (.box d v)::is) st E=X w is st (ev E (.box d v))) ∧
 (∀ (w:Wk) (t0:List Nat) (bs:List Nat) (acc:List Rcd) (is:List GI) (st:List Fr) (E:Env) (d:Nat) (v:O),H1 w t0 bs acc (.box d v) is st E=XH w bs (acc++[(t0++touchI E (.box d v),wrI E [] (.box d v))]) is st (ev E (.box d v))) ∧
 (∀ (E:Env) (d:Nat) (v:O),touchI E (I.box d v)=O.tmp v++d::(5000+d)::lks (val E v)) ∧
 (∀ (E:Env) (ms:List M) (d:Nat) (v:O),wrI E ms (I.box d v)=d::(5000+d)::gW E v) ∧
 (∀ (E:Env) (d:Nat) (z:List TV) (ps:List (Nat × Nat × O)),ev E (I.bld d z ps)=Option.map (fun (g:List AV × Env)=>Env.put (Prod.snd g) d (AV.agg (Prod.fst g))) (pullP E (List.map TV.av z) ps)) ∧
 (∀ (w:Wk) (d0:Option Nat) (is:List GI) (st:List Fr) (E:Env) (d:Nat) (z:List TV) (ps:List (Nat × Nat × O)),G w (GI.mk none d0 (.bld d z ps)::is) st E=X w is st (ev E (.bld d z ps))) ∧
 (∀ (w:Wk) (t0:List Nat) (bs:List Nat) (acc:List Rcd) (is:List GI) (st:List Fr) (E:Env) (d:Nat) (z:List TV) (ps:List (Nat × Nat × O)),H1 w t0 bs acc (.bld d z ps) is st E=XH w bs (acc++[(t0++touchI E (.bld d z ps),wrI E [] (.bld d z ps))]) is st (ev E (.bld d z ps))) ∧
 (∀ (E:Env) (d:Nat) (z:List TV) (ps:List (Nat × Nat × O)),touchI E (I.bld d z ps)=List.flatMap O.tmp (List.map (fun (x:Nat × Nat × O)=>Prod.snd (Prod.snd x)) ps)++d::List.flatMap (fun (x:O)=>lks (val E x)) (List.map (fun (x:Nat × Nat × O)=>Prod.snd (Prod.snd x)) ps)) ∧
 (∀ (E:Env) (ms:List M) (d:Nat) (z:List TV) (ps:List (Nat × Nat × O)),wrI E ms (I.bld d z ps)=d::List.flatMap (pW E) (List.map (fun (x:Nat × Nat × O)=>Prod.snd (Prod.snd x)) ps)) ∧
 (∀ (E:Env) (d s:Nat) (ps:List O),ev E (I.bsl d s ps)=Option.bind (gathP E ps) fun (g:List (List TV) × Env)=>if (List.all (Prod.fst g) fun (r:List TV)=>List.length r == s)=true then some (Env.put (Prod.snd g) d (AV.own s (Prod.fst g))) else none) ∧
 (∀ (w:Wk) (d0:Option Nat) (is:List GI) (st:List Fr) (E:Env) (d s:Nat) (ps:List O),G w (GI.mk none d0 (.bsl d s ps)::is) st E=X w is st (ev E (.bsl d s ps))) ∧
 (∀ (w:Wk) (t0:List Nat) (bs:List Nat) (acc:List Rcd) (is:List GI) (st:List Fr) (E:Env) (d s:Nat) (ps:List O),H1 w t0 bs acc (.bsl d s ps) is st E=XH w bs (acc++[(t0++touchI E (.bsl d s ps),wrI E [] (.bsl d s ps))]) is st (ev E (.bsl d s ps))) ∧
 (∀ (E:Env) (d s:Nat) (ps:List O),touchI E (I.bsl d s ps)=List.flatMap O.tmp ps++d::List.flatMap (fun (x:O)=>lks (val E x)) ps) ∧
 (∀ (E:Env) (ms:List M) (d s:Nat) (ps:List O),wrI E ms (I.bsl d s ps)=d::List.flatMap (gW E) ps) ∧
 (∀ (E:Env) (d n k:Nat),
 ev E (I.xtr d (O.t n) k) =
  match Env.f E n with
  | AV.tup vs=>Option.map (fun (c:AV)=>if AV.owns c=true then Env.put (Env.put E n (AV.tup (List.set vs k AV.undef))) d c else Env.put E d c) vs[k]?
  | x=>none) ∧
 (∀ (w:Wk) (d0:Option Nat) (is:List GI) (st:List Fr) (E:Env) (d n k:Nat),G w (GI.mk none d0 (.xtr d (.t n) k)::is) st E=X w is st (ev E (.xtr d (.t n) k))) ∧
 (∀ (w:Wk) (t0:List Nat) (bs:List Nat) (acc:List Rcd) (is:List GI) (st:List Fr) (E:Env) (d n k:Nat),H1 w t0 bs acc (.xtr d (.t n) k) is st E=XH w bs (acc++[(t0++touchI E (.xtr d (.t n) k),wrI E [] (.xtr d (.t n) k))]) is st (ev E (.xtr d (.t n) k))) ∧
 (∀ (E:Env) (d n k:Nat),touchI E (I.xtr d (O.t n) k)=O.tmp (O.t n)++[d]) ∧
 (∀ (E:Env) (ms:List M) (d n k:Nat),
 wrI E ms (I.xtr d (O.t n) k) =
  match val E (O.t n) with
  | AV.tup vs=>
   match vs[k]? with
   | some c=>if AV.owns c=true then d::O.tmp (O.t n) else [d]
   | none=>[d]
  | x=>[d]) ∧
 (∀ (E:Env) (d:Nat) (x:O),
 ev E (I.nck d x) =
  match val E x with
  | AV.ref r e p st=>if vld E r e p=true then some (Env.put E d (AV.ref r e p st)) else none
  | AV.xbox cs=>some (Env.put E d (AV.xbox cs))
  | AV.fn f cs=>if ownsL cs=true then none else some (Env.put E d (AV.fn f cs))
  | x=>none) ∧
 (∀ (w:Wk) (d0:Option Nat) (is:List GI) (st:List Fr) (E:Env) (d:Nat) (x:O),G w (GI.mk none d0 (.nck d x)::is) st E=X w is st (ev E (.nck d x))) ∧
 (∀ (w:Wk) (t0:List Nat) (bs:List Nat) (acc:List Rcd) (is:List GI) (st:List Fr) (E:Env) (d:Nat) (x:O),H1 w t0 bs acc (.nck d x) is st E=XH w bs (acc++[(t0++touchI E (.nck d x),wrI E [] (.nck d x))]) is st (ev E (.nck d x))) ∧
 (∀ (E:Env) (d:Nat) (x:O),touchI E (I.nck d x)=O.tmp x++d::lks (val E x)) ∧
 (∀ (E:Env) (ms:List M) (d:Nat) (x:O),wrI E ms (I.nck d x)=[d]) ∧
 (∀ (E:Env) (d:Nat) (x y:O) (s b:Nat),
 ev E (I.app d x y s b) =
  Option.bind (gathO E x) fun (g:AV × Env)=>
   match Prod.fst g with
   | AV.own s0 es0=>
    if s0=s then
     match val (Prod.snd g) y with
     | AV.str b_1=>if s=1∧(List.length es0+List.length b_1)*b≤140737488355328 then some (Env.put (Prod.snd g) d (AV.own s (es0++bytesR b_1))) else none
     | AV.own s1 es1=>if s1=s∧knownR es1=true∧(List.length es0+List.length es1)*b≤140737488355328 then some (Env.put (Prod.snd (pull (Prod.snd g) y)) d (AV.own s (es0++es1))) else none
     | AV.sub r e p s1 lo n=>Option.bind (nodeOf (Prod.snd g) r e p) fun (nd:Nat × List (List TV))=>if Prod.fst nd=s∧s1=s∧lo+n≤List.length (Prod.snd nd)∧knownR (List.take n (List.drop lo (Prod.snd nd)))=true∧(List.length es0+n)*b≤140737488355328 then if flatR (List.take n (List.drop lo (Prod.snd nd)))=true then some (Env.put (Prod.snd g) d (AV.own s (es0++List.take n (List.drop lo (Prod.snd nd))))) else some (Env.put (Env.upd (Prod.snd g) r (aset (Env.f (Prod.snd g) r) p (AV.own s (List.take lo (Prod.snd nd)++(undR (List.take n (List.drop lo (Prod.snd nd)))++List.drop (lo+n) (Prod.snd nd)))))) d (AV.own s (es0++List.take n (List.drop lo (Prod.snd nd))))) else none
     | a=>Option.bind (rowsOf (Prod.snd g) a) fun (r:Nat × List (List TV))=>if Prod.fst r=s∧flatR (Prod.snd r)=true∧(List.length es0+List.length (Prod.snd r))*b≤140737488355328 then some (Env.put (Prod.snd g) d (AV.own s (es0++Prod.snd r))) else none
    else none
   | x=>none) ∧
 (∀ (w:Wk) (d0:Option Nat) (is:List GI) (st:List Fr) (E:Env) (d:Nat) (x y:O) (s b:Nat),G w (GI.mk none d0 (.app d x y s b)::is) st E=X w is st (ev E (.app d x y s b))) ∧
 (∀ (w:Wk) (t0:List Nat) (bs:List Nat) (acc:List Rcd) (is:List GI) (st:List Fr) (E:Env) (d:Nat) (x y:O) (s b:Nat),H1 w t0 bs acc (.app d x y s b) is st E=XH w bs (acc++[(t0++touchI E (.app d x y s b),wrI E [] (.app d x y s b))]) is st (ev E (.app d x y s b))) ∧
 (∀ (E:Env) (d:Nat) (x y:O) (s b:Nat),touchI E (I.app d x y s b)=O.tmp x++(O.tmp y++d::(lks (val E x)++lks (val E y)))) ∧
 (∀ (E:Env) (ms:List M) (d:Nat) (x y:O) (s b:Nat),
 wrI E ms (I.app d x y s b) =
  d ::
   (gW E x ++
    match val E y with
    | AV.sub r e p s lo n=>[r]
    | x=>pW E y)) ∧
 (∀ (E:Env) (d:Nat) (x y:O) (s:Nat),
 ev E (I.cpy d x y s) =
  match val E x with
  | AV.lnk r e p=>Option.bind (nodeOf E r e p) fun (nd:Nat × List (List TV))=>Option.bind (rowsOf E (val E y)) fun (q:Nat × List (List TV))=>if Prod.fst nd=s∧Prod.fst q=s∧flatR (Prod.snd q)=true then some (Env.put (Env.upd E r (aset (Env.f E r) p (AV.own s (List.take (List.length (Prod.snd nd)) (Prod.snd q)++List.drop (List.length (Prod.snd q)) (Prod.snd nd))))) d (AV.int IntKind.i64 ↑(min (List.length (Prod.snd q)) (List.length (Prod.snd nd))))) else none
  | AV.sub r e p s' lo n=>Option.bind (nodeOf E r e p) fun (nd:Nat × List (List TV))=>Option.bind (rowsOf E (val E y)) fun (q:Nat × List (List TV))=>if Prod.fst nd=s∧s'=s∧lo+n≤List.length (Prod.snd nd)∧Prod.fst q=s∧flatR (Prod.snd q)=true then some (Env.put (Env.upd E r (aset (Env.f E r) p (AV.own s (List.take lo (Prod.snd nd)++(List.take n (Prod.snd q)++List.drop (lo+min n (List.length (Prod.snd q))) (Prod.snd nd)))))) d (AV.int IntKind.i64 ↑(min (List.length (Prod.snd q)) n))) else none
  | x=>none) ∧
 (∀ (w:Wk) (d0:Option Nat) (is:List GI) (st:List Fr) (E:Env) (d:Nat) (x y:O) (s:Nat),G w (GI.mk none d0 (.cpy d x y s)::is) st E=X w is st (ev E (.cpy d x y s))) ∧
 (∀ (w:Wk) (t0:List Nat) (bs:List Nat) (acc:List Rcd) (is:List GI) (st:List Fr) (E:Env) (d:Nat) (x y:O) (s:Nat),H1 w t0 bs acc (.cpy d x y s) is st E=XH w bs (acc++[(t0++touchI E (.cpy d x y s),wrI E [] (.cpy d x y s))]) is st (ev E (.cpy d x y s))) ∧
 (∀ (E:Env) (d:Nat) (x y:O) (s:Nat),touchI E (I.cpy d x y s)=O.tmp x++(O.tmp y++d::(lks (val E x)++lks (val E y)))) ∧
 (∀ (E:Env) (ms:List M) (d:Nat) (x y:O) (s:Nat),wrI E ms (I.cpy d x y s)=d::lks (val E x)) ∧
 (∀ (E:Env) (x:O) (s:Nat) (z:List TV),
 ev E (I.clr x s z) =
  match val E x with
  | AV.sub r e p s' lo n=>Option.bind (nodeOf E r e p) fun (nd:Nat × List (List TV))=>if Prod.fst nd=s∧s'=s∧lo+n≤List.length (Prod.snd nd)∧List.length z=s then some (Env.upd E r (aset (Env.f E r) p (AV.own s (List.take lo (Prod.snd nd)++(List.replicate n z++List.drop (lo+n) (Prod.snd nd)))))) else none
  | x=>none) ∧
 (∀ (w:Wk) (d0:Option Nat) (is:List GI) (st:List Fr) (E:Env) (x:O) (s:Nat) (z:List TV),G w (GI.mk none d0 (.clr x s z)::is) st E=X w is st (ev E (.clr x s z))) ∧
 (∀ (w:Wk) (t0:List Nat) (bs:List Nat) (acc:List Rcd) (is:List GI) (st:List Fr) (E:Env) (x:O) (s:Nat) (z:List TV),H1 w t0 bs acc (.clr x s z) is st E=XH w bs (acc++[(t0++touchI E (.clr x s z),wrI E [] (.clr x s z))]) is st (ev E (.clr x s z))) ∧
 (∀ (E:Env) (x:O) (s:Nat) (z:List TV),touchI E (I.clr x s z)=O.tmp x++lks (val E x)) ∧
 (∀ (E:Env) (ms:List M) (x:O) (s:Nat) (z:List TV),wrI E ms (I.clr x s z)=lks (val E x)) ∧
 (∀ (E:Env) (d:Nat) (x y:O) (s b:Nat) (z:List TV),
 ev E (I.mks d x y s b z) =
  match val E x,val E y with
  | AV.int k l,AV.int k_1 c=>if 0≤l∧l≤c∧c≤4611686018427387904∧↑b*c≤140737488355328∧List.length z=s then some (Env.put E d (AV.own s (List.replicate (Int.toNat l) z))) else none
  | x,x_1=>none) ∧
 (∀ (w:Wk) (d0:Option Nat) (is:List GI) (st:List Fr) (E:Env) (d:Nat) (x y:O) (s b:Nat) (z:List TV),G w (GI.mk none d0 (.mks d x y s b z)::is) st E=X w is st (ev E (.mks d x y s b z))) ∧
 (∀ (w:Wk) (t0:List Nat) (bs:List Nat) (acc:List Rcd) (is:List GI) (st:List Fr) (E:Env) (d:Nat) (x y:O) (s b:Nat) (z:List TV),H1 w t0 bs acc (.mks d x y s b z) is st E=XH w bs (acc++[(t0++touchI E (.mks d x y s b z),wrI E [] (.mks d x y s b z))]) is st (ev E (.mks d x y s b z))) ∧
 (∀ (E:Env) (d:Nat) (x y:O) (s b:Nat) (z:List TV),touchI E (I.mks d x y s b z)=O.tmp x++(O.tmp y++[d])) ∧
 (∀ (E:Env) (ms:List M) (d:Nat) (x y:O) (s b:Nat) (z:List TV),wrI E ms (I.mks d x y s b z)=[d]) ∧
 (∀ (E:Env) (d:Nat) (x:O) (lo hi:Option O) (s:Nat),
 ev E (I.slc d x lo hi s) =
  match bound E lo 0 with
  | none=>none
  | some l=>
   match val E x with
   | AV.ext s' es=>Option.bind (bound E hi (List.length es)) fun (h:Int)=>if s'=s∧0≤l∧l≤h∧h≤↑(List.length es) then some (Env.put E d (AV.ext s (List.take (Int.toNat (h-l)) (List.drop (Int.toNat l) es)))) else none
   | AV.extv v s' es=>Option.bind (bound E hi (List.length es)) fun (h:Int)=>if s'=s∧0≤l∧l≤h∧h≤↑(List.length es) then some (Env.put E d (AV.ext s (List.take (Int.toNat (h-l)) (List.drop (Int.toNat l) es)))) else none
   | AV.lnk r e p=>Option.bind (nodeOf E r e p) fun (nd:Nat × List (List TV))=>Option.bind (bound E hi (List.length (Prod.snd nd))) fun (h:Int)=>if Prod.fst nd=s∧0≤l∧l≤h∧h≤↑(List.length (Prod.snd nd)) then some (Env.put E d (AV.sub r e p s (Int.toNat l) (Int.toNat (h-l)))) else none
   | AV.own s' es=>
    match x with
    | O.t m=>Option.bind (bound E hi (List.length es)) fun (h:Int)=>if m≠d∧s'=s∧0≤l∧l≤h∧h≤↑(List.length es) then some (Env.put E d (AV.sub m (Prod.fst (Env.ep E m)) [] s (Int.toNat l) (Int.toNat (h-l)))) else none
    | x=>none
   | AV.sub r e p s' lo0 n=>Option.bind (nodeOf E r e p) fun (nd:Nat × List (List TV))=>Option.bind (bound E hi n) fun (h:Int)=>if Prod.fst nd=s∧s'=s∧lo0+n≤List.length (Prod.snd nd)∧0≤l∧l≤h∧h≤↑n then some (Env.put E d (AV.sub r e p s (lo0+Int.toNat l) (Int.toNat (h-l)))) else none
   | x=>none) ∧
 (∀ (w:Wk) (d0:Option Nat) (is:List GI) (st:List Fr) (E:Env) (d:Nat) (x:O) (lo hi:Option O) (s:Nat),G w (GI.mk none d0 (.slc d x lo hi s)::is) st E=X w is st (ev E (.slc d x lo hi s))) ∧
 (∀ (w:Wk) (t0:List Nat) (bs:List Nat) (acc:List Rcd) (is:List GI) (st:List Fr) (E:Env) (d:Nat) (x:O) (lo hi:Option O) (s:Nat),H1 w t0 bs acc (.slc d x lo hi s) is st E=XH w bs (acc++[(t0++touchI E (.slc d x lo hi s),wrI E [] (.slc d x lo hi s))]) is st (ev E (.slc d x lo hi s))) ∧
 (∀ (E:Env) (d:Nat) (x:O) (lo hi:Option O) (s:Nat),touchI E (I.slc d x lo hi s)=O.tmp x++(List.flatMap O.tmp (optO lo++optO hi)++d::lks (val E x))) ∧
 (∀ (E:Env) (ms:List M) (d:Nat) (x:O) (lo hi:Option O) (s:Nat),wrI E ms (I.slc d x lo hi s)=[d]) ∧
 (∀ (E:Env) (d:Nat) (x:O) (lo hi:Option O),
 ev E (I.sls d x lo hi) =
  match val E x,bound E lo 0 with
  | AV.str b,some l=>Option.bind (bound E hi (List.length b)) fun (h:Int)=>if 0≤l∧l≤h∧h≤↑(List.length b) then some (Env.put E d (AV.str (List.take (Int.toNat (h-l)) (List.drop (Int.toNat l) b)))) else none
  | x,x_1=>none) ∧
 (∀ (w:Wk) (d0:Option Nat) (is:List GI) (st:List Fr) (E:Env) (d:Nat) (x:O) (lo hi:Option O),G w (GI.mk none d0 (.sls d x lo hi)::is) st E=X w is st (ev E (.sls d x lo hi))) ∧
 (∀ (w:Wk) (t0:List Nat) (bs:List Nat) (acc:List Rcd) (is:List GI) (st:List Fr) (E:Env) (d:Nat) (x:O) (lo hi:Option O),H1 w t0 bs acc (.sls d x lo hi) is st E=XH w bs (acc++[(t0++touchI E (.sls d x lo hi),wrI E [] (.sls d x lo hi))]) is st (ev E (.sls d x lo hi))) ∧
 (∀ (E:Env) (d:Nat) (x:O) (lo hi:Option O),touchI E (I.sls d x lo hi)=O.tmp x++(List.flatMap O.tmp (optO lo++optO hi)++[d])) ∧
 (∀ (E:Env) (ms:List M) (d:Nat) (x:O) (lo hi:Option O),wrI E ms (I.sls d x lo hi)=[d]) ∧
 (∀ (E:Env) (d:Nat) (x i:O),
 ev E (I.sidx d x i) =
  match val E x,val E i with
  | AV.str b,AV.int k n=>if 0≤n∧n<↑(List.length b) then Option.map (fun (c:UInt8)=>Env.put E d (AV.int IntKind.u8 ↑(UInt8.toNat c))) b[Int.toNat n]? else none
  | x,x_1=>none) ∧
 (∀ (w:Wk) (d0:Option Nat) (is:List GI) (st:List Fr) (E:Env) (d:Nat) (x i:O),G w (GI.mk none d0 (.sidx d x i)::is) st E=X w is st (ev E (.sidx d x i))) ∧
 (∀ (w:Wk) (t0:List Nat) (bs:List Nat) (acc:List Rcd) (is:List GI) (st:List Fr) (E:Env) (d:Nat) (x i:O),H1 w t0 bs acc (.sidx d x i) is st E=XH w bs (acc++[(t0++touchI E (.sidx d x i),wrI E [] (.sidx d x i))]) is st (ev E (.sidx d x i))) ∧
 (∀ (E:Env) (d:Nat) (x i:O),touchI E (I.sidx d x i)=O.tmp x++(O.tmp i++[d])) ∧
 (∀ (E:Env) (ms:List M) (d:Nat) (x i:O),wrI E ms (I.sidx d x i)=[d]) ∧
 (∀ (E:Env) (d:Nat) (x y:O),
 ev E (I.mx d x y) =
  match val E x,val E y with
  | AV.int k a,AV.int k_1 b=>some (Env.put E d (AV.int k (if b>a then b else a)))
  | x,x_1=>none) ∧
 (∀ (w:Wk) (d0:Option Nat) (is:List GI) (st:List Fr) (E:Env) (d:Nat) (x y:O),G w (GI.mk none d0 (.mx d x y)::is) st E=X w is st (ev E (.mx d x y))) ∧
 (∀ (w:Wk) (t0:List Nat) (bs:List Nat) (acc:List Rcd) (is:List GI) (st:List Fr) (E:Env) (d:Nat) (x y:O),H1 w t0 bs acc (.mx d x y) is st E=XH w bs (acc++[(t0++touchI E (.mx d x y),wrI E [] (.mx d x y))]) is st (ev E (.mx d x y))) ∧
 (∀ (E:Env) (d:Nat) (x y:O),touchI E (I.mx d x y)=O.tmp x++(O.tmp y++[d])) ∧
 (∀ (E:Env) (ms:List M) (d:Nat) (x y:O),wrI E ms (I.mx d x y)=[d]) ∧
 (∀ (E:Env) (d:Nat) (x y:O),
 ev E (I.mn d x y) =
  match val E x,val E y with
  | AV.int k a,AV.int k_1 b=>some (Env.put E d (AV.int k (if b<a then b else a)))
  | x,x_1=>none) ∧
 (∀ (w:Wk) (d0:Option Nat) (is:List GI) (st:List Fr) (E:Env) (d:Nat) (x y:O),G w (GI.mk none d0 (.mn d x y)::is) st E=X w is st (ev E (.mn d x y))) ∧
 (∀ (w:Wk) (t0:List Nat) (bs:List Nat) (acc:List Rcd) (is:List GI) (st:List Fr) (E:Env) (d:Nat) (x y:O),H1 w t0 bs acc (.mn d x y) is st E=XH w bs (acc++[(t0++touchI E (.mn d x y),wrI E [] (.mn d x y))]) is st (ev E (.mn d x y))) ∧
 (∀ (E:Env) (d:Nat) (x y:O),touchI E (I.mn d x y)=O.tmp x++(O.tmp y++[d])) ∧
 (∀ (E:Env) (ms:List M) (d:Nat) (x y:O),wrI E ms (I.mn d x y)=[d]) ∧
 (∀ (E:Env) (d:Nat) (c a b:O),
 ev E (I.pck d c a b) =
  match val E c with
  | AV.bool t=>if (AV.owns (val E a) || AV.owns (val E b))=true then none else some (Env.put E d (if t=true then val E a else val E b))
  | x=>none) ∧
 (∀ (w:Wk) (d0:Option Nat) (is:List GI) (st:List Fr) (E:Env) (d:Nat) (c a b:O),G w (GI.mk none d0 (.pck d c a b)::is) st E=X w is st (ev E (.pck d c a b))) ∧
 (∀ (w:Wk) (t0:List Nat) (bs:List Nat) (acc:List Rcd) (is:List GI) (st:List Fr) (E:Env) (d:Nat) (c a b:O),H1 w t0 bs acc (.pck d c a b) is st E=XH w bs (acc++[(t0++touchI E (.pck d c a b),wrI E [] (.pck d c a b))]) is st (ev E (.pck d c a b))) ∧
 (∀ (E:Env) (d:Nat) (c a b:O),touchI E (I.pck d c a b)=O.tmp c++(O.tmp a++(O.tmp b++[d]))) ∧
 (∀ (E:Env) (ms:List M) (d:Nat) (c a b:O),wrI E ms (I.pck d c a b)=[d]) ∧
 (∀ (E:Env) (d f:Nat) (cs:List O),ev E (I.mkf d f cs)=if ownsL (List.map (val E) cs)=true then none else some (Env.put E d (AV.fn f (List.map (val E) cs)))) ∧
 (∀ (w:Wk) (d0:Option Nat) (is:List GI) (st:List Fr) (E:Env) (d f:Nat) (cs:List O),G w (GI.mk none d0 (.mkf d f cs)::is) st E=X w is st (ev E (.mkf d f cs))) ∧
 (∀ (w:Wk) (t0:List Nat) (bs:List Nat) (acc:List Rcd) (is:List GI) (st:List Fr) (E:Env) (d f:Nat) (cs:List O),H1 w t0 bs acc (.mkf d f cs) is st E=XH w bs (acc++[(t0++touchI E (.mkf d f cs),wrI E [] (.mkf d f cs))]) is st (ev E (.mkf d f cs))) ∧
 (∀ (E:Env) (d f:Nat) (cs:List O),touchI E (I.mkf d f cs)=List.flatMap O.tmp cs++[d]) ∧
 (∀ (E:Env) (ms:List M) (d f:Nat) (cs:List O),wrI E ms (I.mkf d f cs)=[d]) ∧
 (∀ (E:Env) (d:Option Nat) (f:Nat) (xs:List O),touchI E (I.call d f xs)=List.flatMap O.tmp xs++(I.dsts (I.call d f xs)++List.flatMap (fun (x:O)=>lks (val E x)) xs)) ∧
 (∀ (E:Env) (ms:List M) (d:Option Nat) (f:Nat) (xs:List O),wrI E ms (I.call d f xs)=Option.toList d++mW E ms xs) ∧
 (∀ (E:Env) (d:Option Nat) (x:O) (xs:List O),touchI E (I.callv d x xs)=O.tmp x++(List.flatMap O.tmp xs++(I.dsts (I.callv d x xs)++(lks (val E x)++List.flatMap (fun (x:O)=>lks (val E x)) xs)))) ∧
 (∀ (E:Env) (ms:List M) (d:Option Nat) (x:O) (xs:List O),wrI E ms (I.callv d x xs)=Option.toList d++mW E ms xs) ∧
 (∀ (E:Env) (x:O),gW E x=(if AV.owns (val E x)=true then O.tmp x else [])++lks (val E x)) ∧
 (∀ (E:Env) (x:O),pW E x=if AV.owns (val E x)=true then O.tmp x else []) ∧
 (∀ (n:Nat),O.tmp (O.t n)=[n]) ∧
 (∀ (a:AV),O.tmp (O.c a)=[]) ∧
 (∀ (E:Env) (ms:List M) (x:O) (xs:List O),mW E (.m::ms) (x::xs)=gW E x++mW E ms xs) ∧
 (∀ (E:Env) (ms:List M) (x:O) (xs:List O),mW E (.p::ms) (x::xs)=gW E x++mW E ms xs) ∧
 (∀ (E:Env) (ms:List M) (x:O) (xs:List O),mW E (.b::ms) (x::xs)=mW E ms xs) ∧
 (∀ (E:Env) (ms:List M) (x:O) (xs:List O),mW E (.l::ms) (x::xs)=lks (val E x)++mW E ms xs) ∧
 (∀ (E:Env) (xs:List O),mW E [] xs=[]) ∧
 (optO none=[]) ∧
 (∀ (x:O),optO (some x)=[x]) ∧
 (∀ (E:Env) (d s:Nat) (neg:Bool) (x:O),ev E (.isn d neg x (.c (.own s [])))=(match val E x with | .extv v _ _=>(match v with | .slice a _ _=>some (E.put d (.bool (if neg then !a.isNone else a.isNone))) | _=>none) | _=>none)) ∧
 (∀ (w:Wk) (st:List Fr) (E:Env) ,C w .skip st E=T w st .n E) ∧
 (∀ (w:Wk) (st:List Fr) (E:Env) (is:List GI),C w (.reg is none) st E=G w is st (rgE w.ks (ubOf w.md) (E.norm w.ks))) ∧
 (∀ (w:Wk) (st:List Fr) (E:Env) (is:List GI) (bs:List Nat),C w (.reg is (some bs)) st E=H w bs [] is st (rgE w.ks (ubOf w.md) (E.norm w.ks))) ∧
 (∀ (w:Wk) (st:List Fr) (E:Env) (c:Cmd),C w (.loop c) st E=LH w c st (E.norm w.ks)) ∧
 (∀ (w:Wk) (st:List Fr) (E:Env) (a b:Cmd) (c:Bool),CF w a b st E (.bool (!c))=CF w b a st E (.bool c)) ∧
 (∀ (w:Wk) (st:List Fr) (E:Env) (a b:Cmd),C w (.seq a b) st E=C w a (.q b::st) E) ∧
 (∀ (w:Wk) (st:List Fr) (E:Env) (i:Nat) (c:Cmd),C w (.blk i c) st E=C w c (.b i::st) E) ∧
 (∀ (w:Wk) (st:List Fr) (E:Env) (i:Nat),C w (.exit i) st E=T w st (.e i) E) ∧
 (∀ (w:Wk) (st:List Fr) (E:Env) ,C w .ret st E=T w st .r E) ∧
 (∀ (w:Wk) (st:List Fr) (E:Env) (x:O) (a b:Cmd),C w (.cond x a b) st E=CF w a b st E (val E x)) ∧
 (∀ (w:Wk) (st:List Fr) (E:Env) (a b:Cmd),CF w a b st E (.bool true)=C w a st E) ∧
 (∀ (w:Wk) (st:List Fr) (E:Env) (a b:Cmd),CF w a b st E (.bool false)=C w b st E) ∧
 (∀ (w:Wk) (x:Ex) (E:Env),T w [] x E=w.Q x E) ∧
 (∀ (w:Wk) (st:List Fr) (E:Env) (b:Cmd),T w (.q b::st) .n E=C w b st E) ∧
 (∀ (w:Wk) (st:List Fr) (E:Env) (b:Cmd),T w (.q b::st) .r E=T w st .r E) ∧
 (∀ (w:Wk) (st:List Fr) (E:Env) (b:Cmd) (i:Nat),T w (.q b::st) (.e i) E=T w st (.e i) E) ∧
 (∀ (w:Wk) (st:List Fr) (E:Env) (i:Nat),T w (.b i::st) .n E=T w st .n E) ∧
 (∀ (w:Wk) (st:List Fr) (E:Env) (i:Nat),T w (.b i::st) .r E=T w st .r E) ∧
 (∀ (w:Wk) (st:List Fr) (E:Env) (i j:Nat),T w (.b i::st) (.e j) E=(if j=i then T w st .n E else T w st (.e j) E)) ∧
 (∀ (w:Wk) (st:List Fr) (E:Env),G w [] st E=T w st .n E) ∧
 (∀ (w:Wk) (is:List GI) (st:List Fr) (E:Env) (d e:Option Nat) (f:Nat) (xs:List O),G w (GI.mk none d (.call e f xs)::is) st E=callS w e f xs is st E (kM (mdOf w.md f xs) xs)) ∧
 (∀ (w:Wk) (is:List GI) (st:List Fr) (E:Env) (e:Option Nat) (f:Nat) (xs:List O),callS w e f xs is st E none=callO w e f xs (mdOf w.md f xs) (plcs (blankE E (blOf w.md f)) 0 (mdOf w.md f xs) xs) is st (prep (blankE E (blOf w.md f)) (mdOf w.md f xs) xs)) ∧
 (∀ (w:Wk) (is:List GI) (st:List Fr) (E:Env) (e:Option Nat) (f:Nat) (xs:List O) (x y:O),callS w e f xs is st E (some (x,y))=callKO w e f is st E (val E x) (val E y) (gathO E x)) ∧
 (∀ (w:Wk) (is:List GI) (st:List Fr) (E E':Env) (e:Option Nat) (f:Nat) (cs ds cs':List AV),callKO w e f is st E (.agg cs) (.agg ds) (some (.agg cs',E'))=(noLkL cs'=true∧YK0 w e f is st cs' (trL E cs cs' ds) E')) ∧
 (∀ (w:Wk) (bs:List Nat) (acc:List Rcd) (is:List GI) (st:List Fr) (E E':Env) (e:Option Nat) (f:Nat) (cs ds cs':List AV),callKOH w e f bs acc is st E (.agg cs) (.agg ds) (some (.agg cs',E'))=(noLkL cs'=true∧YKH0 w e f bs acc is st cs' (trL E cs cs' ds) E')) ∧
 (∀ (w:Wk) (is:List GI) (st:List Fr) (E:Env) (t:List Nat) (bs:List Nat) (acc:List Rcd) (e:Option Nat) (f:Nat) (xs:List O),callSH w t bs acc e f xs is st E none=callOH w e f xs (mdOf w.md f xs) (plcs E 0 (mdOf w.md f xs) xs) bs (acc++[(t++touchI E (.call e f xs),wrI E (mdOf w.md f xs) (.call e f xs))]) is st (prep E (mdOf w.md f xs) xs)) ∧
 (∀ (w:Wk) (is:List GI) (st:List Fr) (E:Env) (t:List Nat) (bs:List Nat) (acc:List Rcd) (e:Option Nat) (f:Nat) (xs:List O) (x y:O),callSH w t bs acc e f xs is st E (some (x,y))=callKOH w e f bs (acc++[(t++touchI E (.call e f xs),wrI E (mdOf w.md f xs) (.call e f xs))]) is st E (val E x) (val E y) (gathO E x)) ∧
 (∀ (xs:List O),kM [] xs=none) ∧
 (∀ (ms:List M) (xs:List O),kM (.b::ms) xs=none) ∧
 (∀ (ms:List M) (xs:List O),kM (.l::ms) xs=none) ∧
 (∀ (ms:List M) (xs:List O),kM (.p::ms) xs=none) ∧
 (∀ (a:M) (ms:List M) (xs:List O),kM (.m::a::ms) xs=none) ∧
 (kM [.m] []=none) ∧
 (∀ (x:O),kM [.m] [x]=none) ∧
 (∀ (x y:O),kM [.m] [x,y]=some (x,y)) ∧
 (∀ (x y z:O) (l:List O),kM [.m] (x::y::z::l)=none) ∧
 (∀ (E:Env) (cs ds:List AV),trL E cs ds []=[]) ∧
 (∀ (E:Env) (cs ds:List AV) (a:AV) (l:List AV),trL E cs ds (a::l)=trC E cs ds a::trL E cs ds l) ∧
 (∀ (E:Env) (cs ds:List AV) (b:Bool),trC E cs ds (.bool b)=.bool b) ∧
 (∀ (E:Env) (cs ds:List AV) (k:IntKind) (n:Int),trC E cs ds (.int k n)=.int k n) ∧
 (∀ (E:Env) (cs ds:List AV) (s:List UInt8),trC E cs ds (.str s)=.str s) ∧
 (∀ (E:Env) (cs ds:List AV) (r e:Nat) (p:Path),trC E cs ds (.lnk r e p)=trF E r e p ds (findR r e p 0 cs)) ∧
 (∀ (E:Env) (r e:Nat) (p p0 q:Path) (ds:List AV) (j:Nat),trF E r e p ds (some (j,p0,q))=(match ds[j]? with | some c=>if vld E r e p0=true∧vld E r e p=true∧c.isRoot=true∧(aget c q).isSome=true then .lnk (1000+(32*(j+1)+0)) 0 q else .undef | none=>.undef)) ∧
 (∀ (r e j:Nat) (p:Path) (r' e':Nat) (p':Path) (l:List AV),findR r e p j (.lnk r' e' p'::l)=(if r'=r∧e'=e then (match cutP p' p with | some q=>some (j,p',q) | none=>findR r e p (j+1) l) else findR r e p (j+1) l)) ∧
 (∀ (r e j:Nat) (p:Path) (k:IntKind) (n:Int) (l:List AV),findR r e p j (.int k n::l)=findR r e p (j+1) l) ∧
 (∀ (r e j:Nat) (p:Path) (n:List UInt8) (l:List AV),findR r e p j (.str n::l)=findR r e p (j+1) l) ∧
 (∀ (r e j:Nat) (p:Path) (n:Bool) (l:List AV),findR r e p j (.bool n::l)=findR r e p (j+1) l) ∧
 (∀ (q:Path),cutP [] q=some q) ∧
 (∀ (a b:St) (p q:Path),cutP (a::p) (b::q)=if a.i=b.i∧a.s=b.s∧a.j=b.j then cutP p q else none) ∧
 (∀ (a:St) (p:Path),cutP (a::p) []=none) ∧
 (∀ (w:Wk) (is:List GI) (st:List Fr) (E:Env) (d e:Option Nat) (x:O) (xs:List O),G w (GI.mk none d (.callv e x xs)::is) st E=callvO w e xs is st E (val E x)) ∧
 (∀ (w:Wk) (is:List GI) (st:List Fr) (E:Env) (t:Nat) (b:Bool) (d:Option Nat) (i:I),G w (GI.mk (some (t,b)) d i::is) st E=GF w b d i is st E (E.f t)) ∧
 (∀ (w:Wk) (is:List GI) (st:List Fr) (E:Env) (d:Option Nat) (i:I),GF w true d i is st E (.bool true)=G w (GI.mk none d i::is) st E) ∧
 (∀ (w:Wk) (is:List GI) (st:List Fr) (E:Env) (bs:List Nat) (acc:List Rcd) (t:Nat) (d:Option Nat) (i:I),HF w bs acc t true d i is st E (.bool true)=H1 w [t] bs acc i is st E) ∧
 (∀ (w:Wk) (is:List GI) (st:List Fr) (E:Env) (d:Option Nat) (i:I),GF w true d i is st E (.bool false)=G w is st (putO E d (.tup []))) ∧
 (∀ (w:Wk) (is:List GI) (st:List Fr) (E:Env) (bs:List Nat) (acc:List Rcd) (t:Nat) (d:Option Nat) (i:I),HF w bs acc t true d i is st E (.bool false)=H w bs (acc++[(t::d.toList,d.toList)]) is st (putO E d (.tup []))) ∧
 (∀ (w:Wk) (is:List GI) (st:List Fr) (E:Env) (d:Option Nat) (i:I),GF w false d i is st E (.bool true)=G w is st (putO E d (.tup []))) ∧
 (∀ (w:Wk) (is:List GI) (st:List Fr) (E:Env) (bs:List Nat) (acc:List Rcd) (t:Nat) (d:Option Nat) (i:I),HF w bs acc t false d i is st E (.bool true)=H w bs (acc++[(t::d.toList,d.toList)]) is st (putO E d (.tup []))) ∧
 (∀ (w:Wk) (is:List GI) (st:List Fr) (E:Env) (d:Option Nat) (i:I),GF w false d i is st E (.bool false)=G w (GI.mk none d i::is) st E) ∧
 (∀ (w:Wk) (is:List GI) (st:List Fr) (E:Env) (bs:List Nat) (acc:List Rcd) (t:Nat) (d:Option Nat) (i:I),HF w bs acc t false d i is st E (.bool false)=H1 w [t] bs acc i is st E) ∧
 (∀ (w:Wk) (is:List GI) (st:List Fr) (E:Env) ,X w is st (some E)=G w is st E) ∧
 (∀ (w:Wk) (is:List GI) (st:List Fr),X w is st none=False) ∧
 (∀ (w:Wk) (st:List Fr) (E:Env) (bs:List Nat) (acc:List Rcd),H w bs acc [] st E=(okRec bs acc=true∧T w st .n E)) ∧
 (∀ (w:Wk) (is:List GI) (st:List Fr) (E:Env) (bs:List Nat) (acc:List Rcd) (d:Option Nat) (i:I),H w bs acc (GI.mk none d i::is) st E=H1 w [] bs acc i is st E) ∧
 (∀ (w:Wk) (is:List GI) (st:List Fr) (E:Env) (bs:List Nat) (acc:List Rcd) (t:Nat) (b:Bool) (d:Option Nat) (i:I),H w bs acc (GI.mk (some (t,b)) d i::is) st E=HF w bs acc t b d i is st E (E.f t)) ∧
 (∀ (w:Wk) (is:List GI) (st:List Fr) (E:Env) (t:List Nat) (bs:List Nat) (acc:List Rcd) (e:Option Nat) (f:Nat) (xs:List O),H1 w t bs acc (.call e f xs) is st E=callSH w t bs acc e f xs is st E (kM (mdOf w.md f xs) xs)) ∧
 (∀ (w:Wk) (is:List GI) (st:List Fr) (E:Env) (bs:List Nat) (acc:List Rcd),XH w bs acc is st (some E)=H w bs acc is st E) ∧
 (∀ (w:Wk) (is:List GI) (st:List Fr) (bs:List Nat) (acc:List Rcd),XH w bs acc is st none=False) ∧
 (∀ (w:Wk) (is:List GI) (st:List Fr) (E:Env) (d:Option Nat) (f:Nat) (xs:List O) (ms:List M) (pls:List Plc) (args:List AV) (ln:Option (Nat × Nat × Path)),callO w d f xs ms pls is st (some (args,E,ln))=Y0 w d f (pureM E ms xs) pls is st args E ln) ∧
 (∀ (w:Wk) (is:List GI) (st:List Fr) (E:Env) (bs:List Nat) (acc:List Rcd) (d:Option Nat) (f:Nat) (xs:List O) (ms:List M) (pls:List Plc) (args:List AV) (ln:Option (Nat × Nat × Path)),callOH w d f xs ms pls bs acc is st (some (args,E,ln))=YH0 w d f (pureM E ms xs) pls bs acc is st args E ln) ∧
 (∀ (w:Wk) (is:List GI) (st:List Fr) (E:Env) (d:Option Nat) (xs:List O) (f:Nat) (caps:List AV),callvO w d xs is st E (.fn f caps)=(ownsL caps=false∧(mdOf w.md f xs).length=xs.length∧callO w d f (xs++caps.map .c) (mdOf w.md f xs++caps.map fun _=>M.b) (plcs E 0 (mdOf w.md f xs++caps.map fun _=>M.b) (xs++caps.map .c)) is st (prep E (mdOf w.md f xs++caps.map fun _=>M.b) (xs++caps.map .c)))) ∧
 (∀ (w:Wk) (is:List GI) (st:List Fr) (E:Env) (d:Option Nat) (ret:AV),B w d ret is st (some E)=G w is st (putO E d ret)) ∧
 (∀ (w:Wk) (is:List GI) (st:List Fr) (E:Env) (bs:List Nat) (acc:List Rcd) (d:Option Nat) (ret:AV),BH w d ret bs acc is st (some E)=H w bs acc is st (putO E d ret)) ∧
 (∀ (σ:Type) (K:Nat) (l:List (Nat × AV)) (v:σ→List (Nat × AV)) (J:σ→Prop) (μ:σ→Nat) (s:σ) (Q:Ex→Env→Prop) (E:Env),LQ K l v J μ s Q .n E=(∃ s',E.norm K=mkV K (setsL l (v s')) [] []∧J s'∧μ s'<μ s)) ∧
 (∀ (σ:Type) (K:Nat) (l:List (Nat × AV)) (v:σ→List (Nat × AV)) (J:σ→Prop) (μ:σ→Nat) (s:σ) (Q:Ex→Env→Prop) (E:Env),LQ K l v J μ s Q .r E=Q .r E) ∧
 (∀ (σ:Type) (K:Nat) (l:List (Nat × AV)) (v:σ→List (Nat × AV)) (J:σ→Prop) (μ:σ→Nat) (s:σ) (Q:Ex→Env→Prop) (E:Env) (i:Nat),LQ K l v J μ s Q (.e i) E=Q (.e i) E) ∧
 (∀ (l:List (Nat × AV)),setsL l []=l) ∧
 (∀ (l v:List (Nat × AV)) (d:Nat) (x:AV),setsL l ((d,x)::v)=setsL (setL l d x) v) ∧
 (∀ (w:Wk) (is:List GI) (st:List Fr) (E:Env) (b:Bool) (d:Option Nat) (i:I) (c:Bool),GF w b d i is st E (.bool (!c))=GF w (!b) d i is st E (.bool c)) ∧
 (∀ (rs:List RV) (bs:List Bool) (m:List AV) (E:Env) (ret:AV) (outs:List AV),Fin rs bs m ret outs .r E=doneE rs bs m ret outs E) ∧
 (∀ (rs:List RV) (bs:List Bool) (m:List AV) (E:Env) (ret:AV) (outs:List AV),Fin rs bs m ret outs .n E=doneE rs bs m ret outs E) ∧
 (∀ (rs:List RV) (bs:List Bool) (m:List AV) (E:Env) (R:AV→List AV→Prop),FinEx rs bs m R .r E=onO (retG E rs) fun q=>R (retV q.1) (outsE q.2 0 bs m)∧noLkL (retV q.1::outsE q.2 0 bs m)=true) ∧
 (∀ (rs:List RV) (bs:List Bool) (m:List AV) (E:Env) (R:AV→List AV→Prop),FinEx rs bs m R .n E=onO (retG E rs) fun q=>R (retV q.1) (outsE q.2 0 bs m)∧noLkL (retV q.1::outsE q.2 0 bs m)=true) ∧
 (∀ b:Bool,(!!b)=b) ∧
 ((!true)=false) ∧
 ((!false)=true) ∧
 (decide True=true) ∧
 (decide False=false) ∧
 ((false=true)=False) ∧
 ((true=false)=False) ∧
 (∀ (α:Type) (l:List α),l++[]=l) ∧
 (∀ (α:Type) (l:List α),[]++l=l) ∧
 (∀ (α:Type) (a:α) (l m:List α),(a::l)++m=a::(l++m)) ∧
 (∀ (a:Prop),(True∧a)=a) ∧
 (∀ (a:Prop),(a∧True)=a) ∧
 (∀ a:Bool,(true && a)=a) ∧
 (∀ a:Bool,(false && a)=false) ∧
 (∀ a:Bool,(a && true)=a) ∧
 (∀ a:Bool,(a && false)=false) ∧
 (∀ a:Bool,(true || a)=true) ∧
 (∀ a:Bool,(false || a)=a) ∧
 (∀ (α β:Type) (f:α→β),List.map f []=[]) ∧
 (∀ (α β:Type) (f:α→β) (a:α) (l:List α),List.map f (a::l)=f a::List.map f l) ∧
 (∀ (α:Type) (p:α→Bool),List.all [] p=true) ∧
 (∀ (α:Type) (p:α→Bool) (a:α) (l:List α),List.all (a::l) p=(p a && List.all l p)) ∧
 (∀ (α:Type) (p:α→Bool),List.any [] p=false) ∧
 (∀ (α:Type) (p:α→Bool) (a:α) (l:List α),List.any (a::l) p=(p a || List.any l p)) ∧
 (∀ (α:Type) (a:α) (l:List α),(a::l)[0]?=some a) ∧
 (∀ (α:Type) (a:α) (n:Nat) (l:List α),(a::l)[n+1]?=l[n]?) ∧
 (∀ (α β:Type) (a:α) (b:β),(a,b).1=a) ∧
 (∀ (α β:Type) (a:α) (b:β),(a,b).2=b) ∧
 (∀ (α:Type),(none:Option α).toList=[]) ∧
 (∀ (α:Type) (a:α),(some a).toList=[a]) ∧
 (∀ (α:Type),(none:Option α).isSome=false) ∧
 (∀ (α:Type) (a:α),(some a).isSome=true) ∧
 (∀ (α:Type),(none:Option α).isNone=true) ∧
 (∀ (α:Type) (a:α),(some a).isNone=false) ∧
 (∀ (α:Type) (l:List α),List.drop 0 l=l) ∧
 (∀ (α:Type) (l:List α),List.take 0 l=[]) ∧
 (∀ (α:Type) (a:α) (n:Nat) (l:List α),List.drop (n+1) (a::l)=List.drop n l) ∧
 (∀ (α:Type) (a:α) (n:Nat) (l:List α),List.take (n+1) (a::l)=a::List.take n l) ∧
 (∀ (α:Type) (n:Nat),List.drop n ([]:List α)=[]) ∧
 (∀ (α:Type) (n:Nat),List.take n ([]:List α)=[]) ∧
 (∀ (α:Type),([]:List α).length=0) ∧
 (∀ (α:Type) (a:α) (l:List α),(a::l).length=l.length+1) ∧
 (∀ (α:Type) (a:α),([]:List α).isEmpty=true) ∧
 (∀ (α:Type) (a:α) (l:List α),(a::l).isEmpty=false) ∧
 (∀ (α:Type) (a b:α) (l:List α),List.set (a::l) 0 b=b::l) ∧
 (∀ (α:Type) (a b:α) (n:Nat) (l:List α),List.set (a::l) (n+1) b=a::List.set l n b) ∧
 (∀ (α:Type) (a:α) (f:α→α) (l:List α),List.modify (a::l) 0 f=f a::l) ∧
 (∀ (α:Type) (a:α) (n:Nat) (f:α→α) (l:List α),List.modify (a::l) (n+1) f=a::List.modify l n f) ∧
 (∀ (n:Nat),(n:Int).toNat=n) ∧
 (∀ (α β:Type) (f:α→β) (x:α),Option.map f (some x)=some (f x)) ∧
 (∀ (α β:Type) (f:α→β),Option.map f none=none) ∧
 (∀ (α β:Type) (f:α→Option β) (x:α),Option.bind (some x) f=f x) ∧
 (∀ (α β:Type) (f:α→Option β),Option.bind none f=none) ∧
 (∀ (α β:Type) (f:α→β) (c:Prop) [Decidable c] (a b:Option α),Option.map f (if c then a else b)=(if c then Option.map f a else Option.map f b)) ∧
 (∀ (α β:Type) (f:α→Option β) (c:Prop) [Decidable c] (a b:Option α),Option.bind (if c then a else b) f=(if c then Option.bind a f else Option.bind b f)) ∧
 (∀ (α:Type) (K:α→Prop) (x:α),onO (some x) K=K x) ∧
 (∀ (α:Type) (K:α→Prop),onO (none:Option α) K=False) ∧
 (∀ (α β:Type) (K:α→Prop) (f:β→α) (o:Option β),onO (o.map f) K=onO o (fun z=>K (f z))) ∧
 (∀ (α β:Type) (K:α→Prop) (f:β→Option α) (o:Option β),onO (o.bind f) K=onO o (fun z=>onO (f z) K)) ∧
 (∀ (K:Nat) (l r:List (Nat × AV)) (m:List (Nat × Nat × Nat)) (t:Nat),(mkV K l r m).f t=(if keepB K t=true then getL l t else getL r t)) ∧
 (∀ (K:Nat) (l r:List (Nat × AV)) (m:List (Nat × Nat × Nat)) (t:Nat),(mkV K l r m).ep t=getM m t) ∧
 (∀ (K:Nat) (l r:List (Nat × AV)) (m:List (Nat × Nat × Nat)) (d:Nat) (x:AV),(mkV K l r m).put d x=(if keepB K d=true then mkV K (setL l d x) r (mset (getL l d) d m) else mkV K l ((d,x)::r) (mset (getL r d) d m))) ∧
 (∀ (K:Nat) (l r:List (Nat × AV)) (m:List (Nat × Nat × Nat)) (d:Nat) (x:AV),(mkV K l r m).upd d x=(if keepB K d=true then mkV K (setL l d x) r (setM m d ((getM m d).1,(getM m d).2+1)) else mkV K l (setL r d x) (setM m d ((getM m d).1,(getM m d).2+1)))) ∧
 (∀ (K:Nat) (l r:List (Nat × AV)) (m:List (Nat × Nat × Nat)) (d:Nat) (x:AV),(mkV K l r m).set0 d x=(if keepB K d=true then mkV K (setL l d x) r m else mkV K l (setL r d x) m)) ∧
 (∀ (K:Nat) (l r:List (Nat × AV)) (m:List (Nat × Nat × Nat)),(mkV K l r m).norm K=mkV K (fixLs (mkV K l r m) K l) [] []) ∧
 (∀ (a:AV) (d:Nat) (m:List (Nat × Nat × Nat)),mset a d m=(if a.isRoot=true then setM m d ((getM m d).1+1,(getM m d).2+1) else m)) ∧
 (∀ (E:Env) (K:Nat),fixLs E K []=[]) ∧
 (∀ (E:Env) (K k:Nat) (a:AV) (l:List (Nat × AV)),fixLs E K ((k,a)::l)=(k,fixA E K a)::fixLs E K l):=by
 and_intros <;> intros <;> first | rfl | (cases ‹List Bool› <;> rfl) | exact bin_eql _ _ _ | exact bin_neq _ _ _ | exact bin_eqs _ _ | exact bin_nes _ _ | exact C_seq | exact CF_not | exact GF_not | exact C_blk | exact T_nil | exact G_call | exact G_callv | exact H1_call | exact on_map _ _ | exact on_bind _ _ | exact on_some _ | exact on_none | exact mkV_put _ _ _ _ _ _ | exact mkV_upd _ _ _ _ _ _ | exact mkV_set0 _ _ _ _ _ _ | exact mkV_norm _ _ _ _ | (split <;> rfl) | (cases ‹Bool› <;> rfl) | (simp; done) | (simp only [ev]; cases val _ _ <;> rfl) | (simp [binV,isSh,binI,binS,beq_eq_decide,bne]; done) | simp [binV,isSh,binI,eqC,Fin,FinEx,T,touchI,I.opds,I.der,I.dsts,optO,CF,GF,HF]
end Go.Proofs.YtjmnolhflcjpgaaGreat.Awp
namespace Go.Proofs.YtjmnolhflcjpgaaGreat.Awp
set_option linter.unusedVariables false
set_option linter.unusedSimpArgs false
def v (n:Nat):O:=.t n
def k (n:Int):O:=.c (.int .i64 n)
def k0:O:=.c (.bool false)
def k1:O:=.c (.bool true)
def n (d:Nat) (i:I):GI:=⟨none,some d,i⟩
def m (i:I):GI:=⟨none,none,i⟩
def h (t:Nat) (b:Bool) (d:Nat) (i:I):GI:=⟨some (t,b),some d,i⟩
def hm (t:Nat) (b:Bool) (i:I):GI:=⟨some (t,b),none,i⟩
def R (l:List GI):Cmd:=.reg l none
def D (bs:List Nat) (l:List GI):Cmd:=.reg l (some bs)
def Q (a b:Cmd):Cmd:=.seq a b
def F (x:O) (a b:Cmd):Cmd:=.cond x a b
theorem SC:(∀ t:Nat,v t=.t t)∧(∀ t:Int,k t=.c (.int .i64 t))∧(k0=.c (.bool false))∧(k1=.c (.bool true))∧(∀ d i,n d i=⟨none,some d,i⟩)∧(∀ i,m i=⟨none,none,i⟩) ∧
  (∀ t b d i,h t b d i=⟨some (t,b),some d,i⟩)∧(∀ t b i,hm t b i=⟨some (t,b),none,i⟩)∧(∀ l,R l=.reg l none)∧(∀ bs l,D bs l=.reg l (some bs))∧(∀ a b,Q a b=.seq a b)∧(∀ x a b,F x a b=.cond x a b):=by
 refine ⟨?_,?_,?_,?_,?_,?_,?_,?_,?_,?_,?_,?_⟩ <;> intros <;> rfl
section
variable {α:Type} {K:α→Prop}
theorem on_ite_pos {c:Prop} [Decidable c] {x y:Option α} (hc:c):onO (if c then x else y) K=onO x K:=by rw [if_pos hc]
theorem on_ite_neg {c:Prop} [Decidable c] {x y:Option α} (hc:¬ c):onO (if c then x else y) K=onO y K:=by rw [if_neg hc]
end
theorem wrap_i64 {x:Int} (h:-9223372036854775808≤x∧x<9223372036854775808):IntKind.i64.wrap x=x:=by
 have e:IntKind.i64.wrap x=if 9223372036854775808≤x%18446744073709551616 then x%18446744073709551616-18446744073709551616 else x%18446744073709551616:=by
  have h1:((2:Int)^IntKind.i64.bits)=18446744073709551616:=by decide
  have h2:((2:Int)^(IntKind.i64.bits-1))=9223372036854775808:=by decide
  unfold IntKind.wrap
  simp only [h1,h2]
  simp [IntKind.signed]
 rw [e]; split <;> omega
theorem wrap_u8 {x:Int} (h:0≤x∧x<256):IntKind.u8.wrap x=x:=by
 have e:IntKind.u8.wrap x=x%256:=by
  have h1:((2:Int)^IntKind.u8.bits)=256:=by decide
  unfold IntKind.wrap
  simp only [h1]
  simp [IntKind.signed]
 rw [e]; omega
theorem dec_t {c:Prop} [Decidable c] (hc:c):decide c=true:=by simp [hc]
theorem dec_f {c:Prop} [Decidable c] (hc:¬ c):decide c=false:=by simp [hc]
theorem map_get {α β:Type} {f:α→β} {l:List α} {i:Nat} {x:α} (h:l[i]?=some x):(l.map f)[i]?=some (f x):=by simp [h]
theorem bytes_len (b:List UInt8):(bytesR b).length=b.length:=by simp [bytesR]
theorem bytes_get (b:List UInt8) (i:Nat):(bytesR b)[i]?=(b[i]?).map fun x=>[.int .u8 x.toNat]:=by simp [bytesR]
theorem SO:(∀ (w:Wk) (is:List GI) (st:List Fr) (c:Prop) [Decidable c] (a b:Option Env),c→X w is st (if c then a else b)=X w is st a) ∧
  (∀ (w:Wk) (is:List GI) (st:List Fr) (c:Prop) [Decidable c] (a b:Option Env),¬ c→X w is st (if c then a else b)=X w is st b) ∧
  (∀ (w:Wk) (bs:List Nat) (acc:List Rcd) (is:List GI) (st:List Fr) (c:Prop) [Decidable c] (a b:Option Env),c→XH w bs acc is st (if c then a else b)=XH w bs acc is st a) ∧
  (∀ (w:Wk) (bs:List Nat) (acc:List Rcd) (is:List GI) (st:List Fr) (c:Prop) [Decidable c] (a b:Option Env),¬ c→XH w bs acc is st (if c then a else b)=XH w bs acc is st b) ∧
  (∀ (w:Wk) (d:Option Nat) (ret:AV) (is:List GI) (st:List Fr) (c:Prop) [Decidable c] (a b:Option Env),c→B w d ret is st (if c then a else b)=B w d ret is st a) ∧
  (∀ (w:Wk) (d:Option Nat) (ret:AV) (bs:List Nat) (acc:List Rcd) (is:List GI) (st:List Fr) (c:Prop) [Decidable c] (a b:Option Env),c→BH w d ret bs acc is st (if c then a else b)=BH w d ret bs acc is st a) ∧
  (∀ (x:Int),(-9223372036854775808≤x∧x<9223372036854775808)→IntKind.i64.wrap x=x)∧(∀ (x:Int),(0≤x∧x<256)→IntKind.u8.wrap x=x):=
 ⟨fun _ _ _ _ _ _ _ h=>X_pos h,fun _ _ _ _ _ _ _ h=>X_neg h,fun _ _ _ _ _ _ _ _ _ h=>XH_pos h,fun _ _ _ _ _ _ _ _ _ h=>XH_neg h,fun _ _ _ _ _ _ _ _ _ h=>B_pos h,fun _ _ _ _ _ _ _ _ _ _ _ h=>BH_pos h,fun _ h=>wrap_i64 h,fun _ h=>wrap_u8 h⟩
end Go.Proofs.YtjmnolhflcjpgaaGreat.Awp
namespace Go.Proofs.YtjmnolhflcjpgaaGreat.Awp
set_option linter.unusedVariables false
set_option linter.unusedSimpArgs false
def takeQ (x:AV) (E:Env) (r e:Nat) (st:St):Option (AV × Env):=match x with
 | .box cs=>if st.i=0∧st.s=0∧st.j=0∧e=(E.ep r).1 then some (AV.box cs,E.put r .undef) else none
 | _=>none
def lendQ (x:AV) (E:Env) (r e:Nat) (st:St):Option (Nat × Path × AV):=match x with
 | .box cs=>if (e == (E.ep r).1)=true∧st.i=0∧st.j=0 then some (r,[],AV.box cs) else none
 | _=>none
theorem takeB_Q (E:Env) (r e:Nat) (st:St):takeB E (.ref r e [] st)=takeQ (E.f r) E r e st:=by
 unfold takeB takeQ
 show (match ([]:Path),E.f r with | [],AV.box cs=>if st.i=0∧st.s=0∧st.j=0∧e=(E.ep r).1 then some (AV.box cs,E.put r .undef) else none | _,_=>none)=_
 generalize E.f r=x
 cases x <;> rfl
theorem lendOf_Q (E:Env) (r e:Nat) (st:St):lendOf E (.ref r e [] st)=lendQ (E.f r) E r e st:=by
 unfold lendOf lendQ
 show (match e == (E.ep r).1,([]:Path),E.f r with | true,[],AV.box cs=>if st.i=0∧st.j=0 then some (r,[],AV.box cs) else none | _,_,_=>none)=_
 generalize E.f r=x
 generalize (e == (E.ep r).1)=b
 cases b <;> cases x <;> simp
theorem SE:(∀ t,O.tmp (.t t)=[t])∧(∀ a,O.tmp (.c a)=[])∧(∀ d f xs,(I.call (some d) f xs).dsts=[d])∧(∀ f xs,(I.call none f xs).dsts=[]) ∧
  (∀ d x xs,(I.callv (some d) x xs).dsts=[d])∧(∀ (α β:Type) (f:α→List β),List.flatMap f []=[])∧(∀ (α β:Type) (f:α→List β) a l,List.flatMap f (a::l)=f a++List.flatMap f l) ∧
  (∀ (α:Type) (o:Option α) (f:α→AV),(o.map f).map id=o.map f) ∧
  (∀ (E:Env) (r e:Nat) (st:St),takeB E (.ref r e [] st)=takeQ (E.f r) E r e st) ∧
  (∀ (cs:List AV) (E:Env) (r e:Nat) (st:St),takeQ (.box cs) E r e st=if st.i=0∧st.s=0∧st.j=0∧e=(E.ep r).1 then some (AV.box cs,E.put r .undef) else none) ∧
  (∀ (E:Env) (r e:Nat) (st:St),lendOf E (.ref r e [] st)=lendQ (E.f r) E r e st) ∧
  (∀ (cs:List AV) (E:Env) (r e:Nat) (st:St),lendQ (.box cs) E r e st=if (e == (E.ep r).1)=true∧st.i=0∧st.j=0 then some (r,[],AV.box cs) else none):=by
 refine ⟨?_,?_,?_,?_,?_,?_,?_,?_,?_,?_,?_,?_⟩ <;> intros <;> first | rfl | exact takeB_Q _ _ _ _ | exact lendOf_Q _ _ _ _ | simp
theorem SGs:∀ (w:Wk) (b:Bool) (d:Option Nat) (i:I) (is:List GI) (st:List Fr) (E:Env),GF w b d i is st E (.tup [])=G w is st (putO E d (.tup [])):=fun _ _ _ _ _ _ _=>rfl
theorem SU:(∀ md:Modes,ubOf md=(blOf md 999999).map Prod.fst)∧(∀ (K:Nat) (E:Env),rgE K [] E=E)∧(∀ (K t:Nat) (l:List Nat) (E:Env),rgE K (t::l) E=(ubE (ub1 E t) l).norm K)∧(∀ E:Env,ubE E []=E)∧(∀ (E:Env) (t:Nat) (l:List Nat),ubE E (t::l)=ubE (ub1 E t) l) ∧
 (∀ (E:Env) (t:Nat),ub1 E t=ubM E t (E.f t) (E.f (5000+t))) ∧
 (∀ (E:Env) (t:Nat) (cs:List AV),ubM E t (.box cs) .undef=(((E.put t .undef).put (5000+t) (.box cs)).put t (.ref (5000+t) (curE (((E.put t .undef).put (5000+t) (.box cs)).ep (5000+t)) []) [] ⟨0,0,0⟩))) ∧
 (∀ (E:Env) (t:Nat) (a:AV),ubM E t .undef a=E)∧(∀ (E:Env) (t r e:Nat) (p:Path) (s:St) (a:AV),ubM E t (.ref r e p s) a=E):=
 ⟨fun _=>rfl,fun _ _=>rfl,fun _ _ _ _=>rfl,fun _=>rfl,fun _ _ _=>rfl,fun _ _=>rfl,fun _ _ _=>rfl,fun _ _ _=>rfl,fun _ _ _ _ _ _ _=>rfl⟩
theorem SD:(∀ (f:Nat),blOf [] f=[])∧(∀ (g f:Nat) (ms:List M) (bl:List (Nat × Nat)) (l:Modes),blOf ((g,ms,bl)::l) f=(if g=f then bl else blOf l f))∧(∀ (E:Env),blankE E []=E)∧(∀ (E:Env) (t j:Nat) (l:List (Nat × Nat)),blankE E ((t,j)::l)=blankE (E.put t (blankA j (E.f t))) l)∧(∀ (j:Nat) (cs:List AV),blankA j (.agg cs)=.agg (cs.set j .undef)) ∧
 (∀ (w:Wk) (bs:List Nat) (acc:List Rcd) (t:Nat) (b:Bool) (d:Option Nat) (i:I) (is:List GI) (st:List Fr) (E:Env),HF w bs acc t b d i is st E (.tup [])=H w bs (acc++[(t::d.toList,d.toList)]) is st (putO E d (.tup []))) ∧
 (∀ (K:Nat) (E:Env),hdL K [] E=E)∧(∀ (K d:Nat) (D:List Nat) (E:Env),hdL K (d::D) E=(dropL (E.put d .undef) D).norm K)∧(∀ E:Env,dropL E []=E)∧(∀ (E:Env) (d:Nat) (D:List Nat),dropL E (d::D)=dropL (E.put d .undef) D) ∧
 (∀ (σ:Type) (D:List Nat) (K:Nat) (l:List (Nat × AV)) (v:σ→List (Nat × AV)) (J:σ→Prop) (μ:σ→Nat) (s:σ) (Q:Ex→Env→Prop) (E:Env),LQD D K l v J μ s Q .n E=(∃ s',hdL K D (E.norm K)=mkV K (setsL l (v s')) [] []∧J s'∧μ s'<μ s)) ∧
 (∀ (σ:Type) (D:List Nat) (K:Nat) (l:List (Nat × AV)) (v:σ→List (Nat × AV)) (J:σ→Prop) (μ:σ→Nat) (s:σ) (Q:Ex→Env→Prop) (E:Env),LQD D K l v J μ s Q .r E=Q .r E) ∧
 (∀ (σ:Type) (D:List Nat) (K:Nat) (l:List (Nat × AV)) (v:σ→List (Nat × AV)) (J:σ→Prop) (μ:σ→Nat) (s:σ) (Q:Ex→Env→Prop) (E:Env) (i:Nat),LQD D K l v J μ s Q (.e i) E=Q (.e i) E):=
 ⟨fun _=>rfl,fun _ _ _ _ _=>rfl,fun _=>rfl,fun _ _ _ _=>rfl,fun _ _=>rfl,fun _ _ _ _ _ _ _ _ _ _=>rfl,fun _ _=>rfl,fun _ _ _ _=>rfl,fun _=>rfl,fun _ _ _=>rfl,fun _ _ _ _ _ _ _ _ _ _=>rfl,fun _ _ _ _ _ _ _ _ _ _=>rfl,fun _ _ _ _ _ _ _ _ _ _ _=>rfl⟩
end Go.Proofs.YtjmnolhflcjpgaaGreat.Awp
namespace Go.Proofs.YtjmnolhflcjpgaaGreat.Awp
set_option linter.unusedVariables false
set_option linter.unusedSimpArgs false
variable {H:Type} {enc:TypeId × Value→H} {P:Program} {w w':World} {sp:Nat→Bool}
inductive Ty where
 | bool
 | int (k:IntKind)
 | str
 | sl (s:Nat) (e:List Ty)
inductive Shp:List Ty→List TV→Prop where
 | nil:Shp [] []
 | bool (b:Bool) (ys:List Ty) (ts:List TV) (h:Shp ys ts):Shp (.bool::ys) (.bool b::ts)
 | int (k:IntKind) (n:Int) (ys:List Ty) (ts:List TV) (hn:(Lit.int k n).wf=true) (h:Shp ys ts):Shp (.int k::ys) (.int k n::ts)
 | str (s:List UInt8) (ys:List Ty) (ts:List TV) (hs:s.length≤2^47) (h:Shp ys ts):Shp (.str::ys) (.str s::ts)
 | sl (s:Nat) (e:List Ty) (es:List (List TV)) (ys:List Ty) (ts:List TV) (hl:es.length≤2^47) (he:∀ r ∈ es,Shp e r) (h:Shp ys ts):Shp (.sl s e::ys) (.sl s es::ts)
theorem Shp.length {ys:List Ty} {ts:List TV} (h:Shp ys ts):ts.length=ys.length:=by
 induction h <;> simp_all
theorem Shp.append {ys zs:List Ty} {ts us:List TV} (h:Shp ys ts) (g:Shp zs us):Shp (ys++zs) (ts++us):=by
 induction h with
 | nil=>exact g
 | bool b ys ts h ih=>exact .bool b _ _ ih
 | int k n ys ts hn h ih=>exact .int k n _ _ hn ih
 | str s ys ts hs h ih=>exact .str s _ _ hs ih
 | sl s e es ys ts hl he h ih1 ih=>exact .sl s e es _ _ hl he ih
def shapeF (P:Program) (sh:TypeId→Option (List Ty)):Nat→List Field→Option (List Ty)
 | _,[]=>some []
 | o,f::fs=>if f.offset=o then (sh f.type).bind fun a=>if a.length=P.cellsOf f.type then (shapeF P sh (o+a.length) fs).map (a++·) else none else none
def shapeOf (P:Program):Nat→TypeId→Option (List Ty)
 | 0,_=>none
 | k+1,t=>match P.underlying t with
  | some .bool=>some [.bool]
  | some (.int q)=>some [.int q]
  | some .string=>some [.str]
  | some (.slice e)=>(shapeOf P k e).bind fun sh=>if sh.length=P.cellsOf e∧0<sh.length∧0<P.bytesOf e then some [.sl sh.length sh] else none
  | some (.struct fs)=>(shapeF P (shapeOf P k) 0 fs.toList).bind fun sh=>if sh.length=P.cellsOf t then some sh else none
  | _=>none
theorem trod_bool {fuel:Nat} {t:TypeId} {cs:List Value} {x:DataW H × List MemPlace} (ht:P.underlying t=some .bool) (h:DataW.trod enc P w 0 sp true fuel t cs=some x) :
  ∃ b,cs=[.bool b]:=by
 cases fuel with
 | zero=>simp [DataW.trod] at h
 | succ n=>rw [DataW.trod_step] at h; unfold DataW.trodStep at h; rw [ht] at h; split at h <;> simp_all
theorem trod_int {fuel:Nat} {t:TypeId} {k:IntKind} {cs:List Value} {x:DataW H × List MemPlace} (ht:P.underlying t=some (.int k)) (h:DataW.trod enc P w 0 sp true fuel t cs=some x) :
  ∃ n,cs=[.int k n]∧(Lit.int k n).wf=true:=by
 cases fuel with
 | zero=>simp [DataW.trod] at h
 | succ n=>rw [DataW.trod_step] at h; unfold DataW.trodStep at h; rw [ht] at h; split at h <;> simp_all
theorem trod_str {fuel:Nat} {t:TypeId} {cs:List Value} {x:DataW H × List MemPlace} (ht:P.underlying t=some .string) (h:DataW.trod enc P w 0 sp true fuel t cs=some x) :
  ∃ s:ByteArray,cs=[.string s]∧x.1=.lit (.string s.data.toList):=by
 cases fuel with
 | zero=>simp [DataW.trod] at h
 | succ n=>
  rw [DataW.trod_step] at h; unfold DataW.trodStep at h; rw [ht] at h
  split at h <;> simp_all
  rename_i s _ _
  exact h.2 ▸ rfl
theorem trod_slice {fuel:Nat} {t e:TypeId} {cs:List Value} {x:DataW H × List MemPlace} (ht:P.underlying t=some (.slice e)) (h:DataW.trod enc P w 0 sp true (fuel+1) t cs=some x) :
  (cs=[.slice none 0 0]∧x=(.nil,[]))∨∃ a len cap elems rest,cs=[.slice (some a) len cap]∧len≤cap∧cap≤maxLen ∧
   (List.range len).mapM (fun i=>(w.cells? 0 (a.add (i*P.cellsOf e)) (P.cellsOf e)).bind (DataW.trod enc P w 0 sp true fuel e))=some elems ∧
   (if sp a.block then (List.range (cap-len)).mapM fun j=>(w.cells? 0 (a.add ((len+j)*P.cellsOf e)) (P.cellsOf e)).bind (DataW.trod enc P w 0 sp true fuel e) else some [])=some rest ∧
   x=(.slice (elems.map (·.1)) (rest.map (·.1)),MemPlace.row a ((elems.length+rest.length)*P.cellsOf e)++(elems++rest).flatMap (·.2)):=by
 rw [DataW.trod_step] at h; unfold DataW.trodStep at h; rw [ht] at h
 split at h
 case h_7=>exact .inl ⟨rfl,by simpa using h.symm⟩
 case h_8 e' a len cap heq=>
  cases heq
  simp only at h
  split at h
  ·rename_i hc
   simp only [Option.map_eq_some_iff,Option.bind_eq_some_iff] at h
   obtain ⟨elems,he,rest,hrest,rfl⟩:=h
   exact .inr ⟨a,len,cap,elems,rest,rfl,hc.2.1,hc.2.2,he,hrest,rfl⟩
  ·cases h
 all_goals simp_all
theorem trod_struct {fuel:Nat} {t:TypeId} {fs:Array Field} {cs:List Value} {x:DataW H × List MemPlace} (ht:P.underlying t=some (.struct fs)) (h:DataW.trod enc P w 0 sp true (fuel+1) t cs=some x) :
  cs.length=P.cellsOf t∧∃ xs,(fs.toList.mapM fun f=>DataW.trod enc P w 0 sp true fuel f.type ((cs.drop f.offset).take (P.cellsOf f.type)))=some xs∧x=(.agg (xs.map (·.1)),xs.flatMap (·.2)):=by
 rw [DataW.trod_step] at h; unfold DataW.trodStep at h; rw [ht] at h
 split at h
 case h_9 fs' cs' heq=>
  cases heq
  split at h
  ·rename_i hc
   simp only [Option.map_eq_some_iff] at h
   obtain ⟨xs,hx,rfl⟩:=h
   exact ⟨hc,xs,hx,rfl⟩
  ·cases h
 all_goals simp_all
theorem ext_rows {s:Nat} {a:Addr} {sh:List Ty}:∀ n,(∀ i,i<n→∃ (c:List Value) (t:List TV) (F:Foot),w.cells? 0 (a.add (i*s)) s=some c∧Row w false F c t∧Shp sh t∧∀ b,F b≠0→b<w.heap.size) →
  ∃ (cs:List Value) (es:List (List TV)) (F:Foot),cs.length=n*s∧es.length=n∧Row w false F cs es.flatten∧(∀ e ∈ es,e.length=s∧Shp sh e)∧(∀ k,k<cs.length→w.cell? (a.add k)=cs[k]?)∧∀ b,F b≠0→b<w.heap.size:=by
 intro n
 induction n with
 | zero=>intro _; exact ⟨[],[],fun _=>0,by simp,rfl,.nil _ _ fun _=>rfl,by simp,by simp,fun _ h=>absurd rfl h⟩
 | succ n ih=>
  intro hs
  obtain ⟨cs,es,F,h1,h2,h3,h4,h5,h6⟩:=ih fun i hi=>hs i (by omega)
  obtain ⟨c,t,G,g1,g2,g3,g4⟩:=hs n (by omega)
  obtain ⟨_,hl,hc⟩:=World.cells?_some g1
  refine ⟨cs++c,es++[t],fun b=>F b+G b,by rw [List.length_append,h1,hl,Nat.succ_mul],by simp [h2],?_,?_,?_,?_⟩
  ·rw [List.flatten_append,List.flatten_singleton]; exact Row.append h3 g2 fun _=>rfl
  ·intro e he
   rcases List.mem_append.1 he with he | he
   ·exact h4 e he
   ·simp at he; subst he; exact ⟨by rw [← g2.length,hl],g3⟩
  ·intro k hk
   rw [List.getElem?_append]
   by_cases hk1:k<cs.length
   ·rw [if_pos hk1]; exact h5 k hk1
   ·rw [if_neg hk1]
    rw [List.length_append] at hk
    have:=hc (k-cs.length) (by omega)
    rw [add_add,← h1,show cs.length+(k-cs.length)=k by omega] at this
    exact this
  ·intro b hb
   by_cases e:F b=0
   ·exact g4 b (by (try dsimp only at hb); omega)
   ·exact h6 b e
theorem weightsAll_mem {e:TypeId}:∀ {l:List (DataW H)} {d:DataW H},d ∈ l→∀ n ∈ d.weights P e,n ∈ DataW.weightsAll P e l:=by
 intro l
 induction l with
 | nil=>intro d h; cases h
 | cons y l ih=>
  intro d h n hn
  simp only [DataW.weightsAll,List.mem_append]
  rcases List.mem_cons.1 h with rfl | h
  ·exact .inl hn
  ·exact .inr (ih h n hn)
theorem trod_row:∀ (k:Nat) (t:TypeId) (sh:List Ty) (fuel:Nat) (cs:List Value) (x:DataW H × List MemPlace),shapeOf P k t=some sh→DataW.trod enc P w 0 sp true fuel t cs=some x →
  (∀ n ∈ x.1.weights P t,n≤2^47)→∃ (F:Foot) (ts:List TV),Row w false F cs ts∧Shp sh ts∧∀ b,F b≠0→b<w.heap.size:=by
 intro k
 induction k with
 | zero=>intro t sh fuel cs x h; simp [shapeOf] at h
 | succ k ih=>
  intro t sh fuel cs x hs h hz
  cases fuel with
  | zero=>simp [DataW.trod] at h
  | succ fuel=>
  unfold shapeOf at hs
  split at hs
  ·rename_i ht
   cases hs
   obtain ⟨b,rfl⟩:=trod_bool ht h
   exact ⟨fun _=>0,_,.bool _ _ b _ _ (.nil _ _ fun _=>rfl),.bool b _ _ .nil,fun _ h=>absurd rfl h⟩
  ·rename_i q ht
   cases hs
   obtain ⟨n,rfl,hn⟩:=trod_int ht h
   exact ⟨fun _=>0,_,.int _ _ q n _ _ (.nil _ _ fun _=>rfl),.int q n _ _ hn .nil,fun _ h=>absurd rfl h⟩
  ·rename_i ht
   cases hs
   obtain ⟨s,rfl,hx⟩:=trod_str ht h
   have hl:=hz s.data.toList.length (by rw [hx]; simp [DataW.weights])
   exact ⟨fun _=>0,[.str s.data.toList],.str _ _ s.data.toList _ _ (.nil _ _ fun _=>rfl),.str _ _ _ hl .nil,fun _ h=>absurd rfl h⟩
  ·rename_i e ht
   obtain ⟨she,hse,hs⟩:=Option.bind_eq_some_iff.1 hs
   split at hs
   ·rename_i hc
    obtain ⟨hc1,hc2,hc3⟩:=hc
    cases hs
    rcases trod_slice ht h with ⟨rfl,rfl⟩ | ⟨a,len,cap,elems,rest,rfl,hlc,_,he,hr,rfl⟩
    ·exact ⟨fun _=>0,_,.ext0 _ she.length none 0 _ _ (.nil _ _ fun _=>rfl),.sl _ _ [] _ _ (by simp) (by simp) .nil,fun _ h=>absurd rfl h⟩
    ·have hel:elems.length=len:=by simpa using mapM_some_length he
     have hle:elems.length≤2^47:=by
      have:=hz ((elems.length+rest.length)*P.bytesOf e) (by simp [DataW.weights,ht])
      have h1:(elems.length+rest.length)*1≤(elems.length+rest.length)*P.bytesOf e:=Nat.mul_le_mul_left _ hc3
      omega
     obtain ⟨cs,es,F,h1,h2,h3,h4,h5,h6⟩:=ext_rows (w:=w) (s:=she.length) (a:=a) (sh:=she) len fun i hi=>by
      have hg:=mapM_some_get he i i (by simp [hi])
      rw [List.getElem?_eq_getElem (by omega)] at hg
      simp only [Option.bind_eq_some_iff] at hg
      obtain ⟨c,g1,g2⟩:=hg
      obtain ⟨F,ts,f1,f2,f3⟩:=ih e she fuel c _ hse g2 fun n hn=>hz n (by
       simp only [DataW.weights,ht,List.mem_cons,List.mem_append]
       refine .inr (.inl (weightsAll_mem (List.mem_map.2 ⟨_,List.getElem_mem (by omega),rfl⟩) n hn)))
      exact ⟨c,ts,F,by rw [hc1]; exact g1,f1,f2,f3⟩
     by_cases hn0:len=0
     ·subst hn0
      exact ⟨fun _=>0,_,.ext0 _ she.length (some a) cap _ _ (.nil _ _ fun _=>rfl),.sl _ _ [] _ _ (by simp) (by simp) .nil,fun _ h=>absurd rfl h⟩
     ·have hab:a.block<w.heap.size:=by
       have h0:=h5 0 (by rw [h1]; exact Nat.mul_pos (by omega) hc2)
       rw [List.getElem?_eq_getElem (by rw [h1]; exact Nat.mul_pos (by omega) hc2)] at h0
       have:=World.block_lt_of_cell? w _ h0
       rwa [add_block] at this
      have:=Row.ext (w:=w) (fun x=>(if x=a.block then 1 else 0)+F x+0) F (fun _=>0) she.length es a cap cs [] [] (by omega) (fun e he=>(h4 e he).1) (by rw [h1,h2]) h5 h3 (.nil _ _ fun _=>rfl) (fun _=>rfl)
      rw [h2] at this
      refine ⟨_,_,this,.sl _ _ es _ _ (by omega) (fun r hr=>(h4 r hr).2) .nil,fun b hb=>?_⟩
      by_cases e:b=a.block
      ·omega
      ·exact h6 b (by simp [e] at hb; exact hb)
   ·cases hs
  ·rename_i fs ht
   obtain ⟨shs,hse,hs⟩:=Option.bind_eq_some_iff.1 hs
   split at hs
   ·rename_i hc
    cases hs
    obtain ⟨hcl,xs,hx,rfl⟩:=trod_struct ht h
    have hz':∀ n ∈ DataW.weightsEach P (fs.toList.map (·.type)) (xs.map (·.1)),n≤2^47:=fun n hn=>hz n (by simp only [DataW.weights,ht]; exact hn)
    have key:∀ (l:List Field) (o:Nat) (ss:List Ty) (ys:List (DataW H × List MemPlace)),shapeF P (shapeOf P k) o l=some ss →
      (l.mapM fun f=>DataW.trod enc P w 0 sp true fuel f.type ((cs.drop f.offset).take (P.cellsOf f.type)))=some ys→(∀ n ∈ DataW.weightsEach P (l.map (·.type)) (ys.map (·.1)),n≤2^47) →
      ∃ (F:Foot) (ts:List TV),Row w false F ((cs.drop o).take ss.length) ts∧Shp ss ts∧∀ b,F b≠0→b<w.heap.size:=by
     intro l
     induction l with
     | nil=>intro o ss ys h1 h2 h3; simp [shapeF] at h1; subst h1; exact ⟨fun _=>0,[],by simpa using Row.nil _ _ fun _=>rfl,.nil,fun _ h=>absurd rfl h⟩
     | cons f l ih2=>
      intro o ss ys h1 h2 h3
      unfold shapeF at h1
      split at h1
      ·rename_i ho
       obtain ⟨sa,ha,h1⟩:=Option.bind_eq_some_iff.1 h1
       split at h1
       ·rename_i hal
        obtain ⟨sb,hb,rfl⟩:=Option.map_eq_some_iff.1 h1
        rw [List.mapM_cons] at h2
        simp only [Option.bind_eq_bind,Option.bind_eq_some_iff,Option.pure_def,Option.some.injEq] at h2
        obtain ⟨y,hy,ys',hys,rfl⟩:=h2
        simp only [List.map_cons,DataW.weightsEach,List.mem_append] at h3
        obtain ⟨F,ts,f1,f2,f3⟩:=ih f.type sa fuel _ y ha hy fun n hn=>h3 n (.inl hn)
        obtain ⟨G,us,g1,g2,g3⟩:=ih2 (o+sa.length) sb ys' hb hys fun n hn=>h3 n (.inr hn)
        rw [ho,← hal] at f1
        refine ⟨fun b=>F b+G b,ts++us,?_,f2.append g2,fun b hb=>?_⟩
        ·rw [List.length_append,List.take_add,List.drop_drop]
         exact Row.append f1 g1 fun _=>rfl
        ·by_cases e:F b=0
         ·exact g3 b (by (try dsimp only at hb); omega)
         ·exact f3 b e
       ·cases h1
      ·cases h1
    obtain ⟨F,ts,f1,f2,f3⟩:=key _ 0 _ xs hse hx hz'
    rw [List.drop_zero,List.take_of_length_le (by omega)] at f1
    exact ⟨F,ts,f1,f2,f3⟩
   ·cases hs
  ·cases hs
theorem trod_spare {sq:Nat→Bool}:∀ (k:Nat) (t:TypeId) (sh:List Ty) (fuel:Nat) (cs:List Value) (x:DataW H × List MemPlace),shapeOf P k t=some sh→DataW.trod enc P w 0 (fun _=>true) true fuel t cs=some x →
  (∀ p ∈ x.2,sq p.block=true)→DataW.trod enc P w 0 sq true fuel t cs=some x:=by
 intro k
 induction k with
 | zero=>intro t sh fuel cs x h; simp [shapeOf] at h
 | succ k ih=>
  intro t sh fuel cs x hs h hz
  cases fuel with
  | zero=>simp [DataW.trod] at h
  | succ fuel=>
  unfold shapeOf at hs
  split at hs
  ·rename_i ht
   obtain ⟨b,rfl⟩:=trod_bool ht h
   rw [DataW.trod_step] at h ⊢; unfold DataW.trodStep at h ⊢; rw [ht] at h ⊢; exact h
  ·rename_i q ht
   obtain ⟨n,rfl,hn⟩:=trod_int ht h
   rw [DataW.trod_step] at h ⊢; unfold DataW.trodStep at h ⊢; rw [ht] at h ⊢; exact h
  ·rename_i ht
   obtain ⟨s,rfl,hx⟩:=trod_str ht h
   rw [DataW.trod_step] at h ⊢; unfold DataW.trodStep at h ⊢; rw [ht] at h ⊢; exact h
  ·rename_i e ht
   obtain ⟨she,hse,hs⟩:=Option.bind_eq_some_iff.1 hs
   split at hs
   ·rename_i hc
    obtain ⟨hc1,hc2,hc3⟩:=hc
    rcases trod_slice ht h with ⟨rfl,rfl⟩ | ⟨a,len,cap,elems,rest,rfl,hlc,hcm,he,hr,rfl⟩
    ·rw [DataW.trod_step]; unfold DataW.trodStep; rw [ht]; rfl
    ·simp only [List.mem_append,List.mem_flatMap] at hz
     simp only [if_true] at hr
     have one:∀ i x,x ∈ elems∨x ∈ rest→(w.cells? 0 (a.add (i*P.cellsOf e)) (P.cellsOf e)).bind (DataW.trod enc P w 0 (fun _=>true) true fuel e)=some x →
       (w.cells? 0 (a.add (i*P.cellsOf e)) (P.cellsOf e)).bind (DataW.trod enc P w 0 sq true fuel e)=some x:=by
      intro i x hx h
      obtain ⟨c,h1,h2⟩:=Option.bind_eq_some_iff.1 h
      rw [h1]
      exact ih e she fuel c x hse h2 fun p hp=>hz p (.inr ⟨x,hx,hp⟩)
     have he':=mapM_carry (g:=fun i=>(w.cells? 0 (a.add (i*P.cellsOf e)) (P.cellsOf e)).bind (DataW.trod enc P w 0 sq true fuel e)) he fun i x _ hx h=>one i x (.inl hx) h
     have hr':=mapM_carry (g:=fun j=>(w.cells? 0 (a.add ((len+j)*P.cellsOf e)) (P.cellsOf e)).bind (DataW.trod enc P w 0 sq true fuel e)) hr fun i x _ hx h=>one _ x (.inr hx) h
     have hrl:rest.length=cap-len:=by simpa using mapM_some_length hr
     rw [DataW.trod_step]; unfold DataW.trodStep; rw [ht]
     simp only [Nat.zero_le,true_and,hlc,hcm,and_self,if_true]
     rw [he',Option.bind_some]
     by_cases hq:sq a.block=true
     ·rw [if_pos hq,hr']; rfl
     ·rw [if_neg hq]
      have:(elems.length+rest.length)*P.cellsOf e=0:=by
       rcases Nat.eq_zero_or_pos ((elems.length+rest.length)*P.cellsOf e) with h | h
       ·exact h
       ·exact absurd (hz (.cell a.block (a.off+0)) (.inl (MemPlace.mem_row.2 ⟨0,h,rfl⟩))) hq
      have h0:elems.length+rest.length=0:=by
       rcases Nat.mul_eq_zero.1 this with h | h
       ·exact h
       ·omega
      have:rest=[]:=List.length_eq_zero_iff.1 (by omega)
      subst this
      rfl
   ·cases hs
  ·rename_i fs ht
   obtain ⟨shs,hse,hs⟩:=Option.bind_eq_some_iff.1 hs
   obtain ⟨hcl,xs,hx,rfl⟩:=trod_struct ht h
   have key:∀ (l:List Field) (o:Nat) (ss:List Ty) (ys:List (DataW H × List MemPlace)),shapeF P (shapeOf P k) o l=some ss →
     (l.mapM fun f=>DataW.trod enc P w 0 (fun _=>true) true fuel f.type ((cs.drop f.offset).take (P.cellsOf f.type)))=some ys→(∀ y ∈ ys,∀ p ∈ y.2,sq p.block=true) →
     (l.mapM fun f=>DataW.trod enc P w 0 sq true fuel f.type ((cs.drop f.offset).take (P.cellsOf f.type)))=some ys:=by
    intro l
    induction l with
    | nil=>intro o ss ys h1 h2 h3; simpa using h2
    | cons f l ih2=>
     intro o ss ys h1 h2 h3
     unfold shapeF at h1
     split at h1
     ·obtain ⟨sa,ha,h1⟩:=Option.bind_eq_some_iff.1 h1
      split at h1
      ·obtain ⟨sb,hb,rfl⟩:=Option.map_eq_some_iff.1 h1
       rw [List.mapM_cons] at h2 ⊢
       simp only [Option.bind_eq_bind,Option.bind_eq_some_iff,Option.pure_def,Option.some.injEq] at h2 ⊢
       obtain ⟨y,hy,ys',hys,rfl⟩:=h2
       exact ⟨y,ih f.type sa fuel _ y ha hy (h3 y (by simp)),ys',ih2 _ sb ys' hb hys (fun z hz=>h3 z (by simp [hz])),rfl⟩
      ·cases h1
     ·cases h1
   rw [DataW.trod_step]; unfold DataW.trodStep; rw [ht]
   simp only [hcl,if_true]
   rw [key _ 0 _ xs hse hx fun y hy p hp=>hz p (List.mem_flatMap.2 ⟨y,hy,hp⟩)]
   rfl
  ·cases hs
end Go.Proofs.YtjmnolhflcjpgaaGreat.Awp
namespace Go.Proofs.YtjmnolhflcjpgaaGreat.Awp
set_option linter.unusedVariables false
set_option linter.unusedSimpArgs false
variable {H:Type} {enc:TypeId × Value→H} {P:Program} {w w':World}
def bv:TV→AV
 | .undef=>.undef
 | .bool b=>.bool b
 | .int k n=>.int k n
 | .str s=>.str s
 | .sl s es=>.ext s es
theorem bv_rep {lk:Lk}:∀ {ts:List TV} {vs:List Value} {F:Foot},Row w false F vs ts→RepA w lk (fun _=>0) F vs (ts.map bv):=by
 intro ts
 induction ts with
 | nil=>
  intro vs F h
  cases h with
  | nil _ _ h=>exact .nil _ _ (fun _=>rfl) h
 | cons t ts ih=>
  intro vs F h
  have hl:=h.length
  cases vs with
  | nil=>simp at hl
  | cons v vs=>
   obtain ⟨F1,F2,h1,h2,e⟩:=Row.uncons h
   have r:=ih h2
   cases t with
   | undef=>
    refine RepA.foot (.undef _ _ _ _ _ r) (fun _=>rfl) fun b=>?_
    cases h1 with
    | undef _ _ _ _ _ h=>cases h with | nil _ _ h=>rw [e,h]; omega
   | bool x=>
    cases h1 with
    | bool _ _ _ _ _ h=>cases h with | nil _ _ h=>exact RepA.foot (.bool _ _ _ _ _ r) (fun _=>rfl) fun b=>by rw [e,h]; omega
   | int k n=>
    cases h1 with
    | int _ _ _ _ _ _ h=>cases h with | nil _ _ h=>exact RepA.foot (.int _ _ _ _ _ _ r) (fun _=>rfl) fun b=>by rw [e,h]; omega
   | str s=>
    cases h1 with
    | str _ _ _ _ _ h=>cases h with | nil _ _ h=>exact RepA.foot (.str _ _ _ _ _ r) (fun _=>rfl) fun b=>by rw [e,h]; omega
   | sl s es=>exact .ext _ _ F1 F2 _ _ _ _ _ h1 r e
def isStruct (P:Program) (t:TypeId):Bool:=match P.underlying t with | some (.struct _)=>true | _=>false
def parOf (P:Program) (t:TypeId):Option (Bool × List Ty):=(shapeOf P 12 t).map fun sh=>(isStruct P t,sh)
def avOf (b:Bool) (ts:List TV):AV:=if b then .agg (ts.map bv) else (ts.map bv).headD .undef
def ArgsShp:List (Bool × List Ty)→List (List TV)→Prop
 | [],[]=>True
 | p::ps,ts::tss=>Shp p.2 ts∧ArgsShp ps tss
 | _,_=>False
def avsOf:List (Bool × List Ty)→List (List TV)→List AV
 | p::ps,ts::tss=>avOf p.1 ts::avsOf ps tss
 | _,_=>[]
theorem par_cells {base:Nat} {t:TypeId} {v:Value} {p:Bool × List Ty} (hp:parOf P t=some p) (hv:Value.okWide P w .any base t v) :
  (p.1=true∧∃ cs,v=.agg cs∧v.cells.toList=cs.toList)∨(p.1=false∧p.2.length=1∧v.cells.toList=[v]):=by
 obtain ⟨sh,hs,rfl⟩:=Option.map_eq_some_iff.1 hp
 unfold shapeOf at hs
 split at hs
 ·rename_i ht
  obtain ⟨b,rfl⟩:=WideShapes.okWide_bool ht hv
  cases hs; exact .inr ⟨by simp [isStruct,ht],rfl,rfl⟩
 ·rename_i q ht
  obtain ⟨b,rfl⟩:=WideShapes.okWide_int ht hv
  cases hs; exact .inr ⟨by simp [isStruct,ht],rfl,rfl⟩
 ·rename_i ht
  obtain ⟨b,rfl⟩:=WideShapes.okWide_string ht hv
  cases hs; exact .inr ⟨by simp [isStruct,ht],rfl,rfl⟩
 ·rename_i e ht
  obtain ⟨a,len,cap,rfl⟩:=WideShapes.okWide_slice ht hv
  obtain ⟨she,hse,hs⟩:=Option.bind_eq_some_iff.1 hs
  split at hs
  ·cases hs; exact .inr ⟨by simp [isStruct,ht],rfl,rfl⟩
  ·cases hs
 ·rename_i fs ht
  obtain ⟨cs,rfl,hc⟩:=WideShapes.okWide_struct ht hv
  exact .inl ⟨by simp [isStruct,ht],cs,rfl,rfl⟩
 ·cases hs
theorem args_rep {base:Nat}:∀ {ts:List TypeId} {vs:List Value} {ds:List (DataW H)} {ps:List MemPlace} {pars:List (Bool × List Ty)},ts.mapM (parOf P)=some pars →
  DataW.TrodAll enc P w 0 (fun _=>true) true ts vs ds ps→(∀ (j:Nat) t v,ts[j]?=some t→vs[j]?=some v→Value.okWide P w .any base t v)→(∀ n ∈ DataW.weightsEach P ts ds,n≤2^47) →
  ∃ X tss,ArgsShp pars tss∧RepA w lk0 (fun _=>0) X vs (avsOf pars tss)∧∀ b,X b≠0→b<w.heap.size:=by
 intro ts
 induction ts with
 | nil=>
  intro vs ds ps pars hp h hv hz
  simp at hp; subst hp
  cases vs with
  | cons _ _=>simp [DataW.TrodAll] at h
  | nil=>exact ⟨fun _=>0,[],trivial,RepA.znil,fun _ h=>absurd rfl h⟩
 | cons t ts ih=>
  intro vs ds ps pars hp h hv hz
  rw [List.mapM_cons] at hp
  simp only [Option.bind_eq_bind,Option.bind_eq_some_iff,Option.pure_def,Option.some.injEq] at hp
  obtain ⟨p,hp1,pars',hps,rfl⟩:=hp
  cases vs with
  | nil=>simp [DataW.TrodAll] at h
  | cons v vs=>
  cases ds with
  | nil=>simp [DataW.TrodAll] at h
  | cons d ds=>
  obtain ⟨p1,q1,⟨fuel,h1⟩,h2,rfl⟩:=h
  simp only [DataW.weightsEach,List.mem_append] at hz
  obtain ⟨X,tss,g1,g2,g3⟩:=ih hps h2 (fun j t v h1 h2=>hv (j+1) t v (by simpa using h1) (by simpa using h2)) (fun n hn=>hz n (.inr hn))
  have hv0:=hv 0 t v rfl rfl
  obtain ⟨sh,hs,rfl⟩:=Option.map_eq_some_iff.1 hp1
  obtain ⟨F,us,f1,f2,f3⟩:=trod_row _ _ _ _ _ _ hs h1 fun n hn=>hz n (.inl hn)
  have r:=bv_rep (lk:=lk0) f1
  have hlt:∀ b,F b+X b≠0→b<w.heap.size:=fun b hb=>by
   by_cases e:F b=0
   ·exact g3 b (by omega)
   ·exact f3 b e
  refine ⟨fun b=>F b+X b,us::tss,⟨f2,g1⟩,?_,hlt⟩
  rcases par_cells hp1 hv0 with ⟨e1,cs,rfl,e2⟩ | ⟨e1,e2,e3⟩
  ·simp only [avsOf,avOf]
   simp only at e1
   rw [e1,if_pos rfl]
   rw [e2] at r
   exact .agg _ (fun _=>0) (fun _=>0) _ F X cs.toList _ _ _ r g2 (fun _=>rfl) (fun _=>rfl)
  ·simp only [avsOf,avOf]
   simp only at e1 e2
   rw [e1,if_neg (by simp)]
   rw [e3] at r
   have hl:=f2.length
   rw [e2] at hl
   match us,hl with
   | [u],_=>exact RepA.append (vs:=[v]) (as:=[bv u]) r g2 (fun _=>rfl) (fun _=>rfl)
theorem keptBut_old {W W':World} {may:MemPlace→Prop} (hg:Grows W W') (hh:∀ b,b<W.heap.size→W'.heap[b]?=W.heap[b]?):W.keptBut W' may:=by
 refine ⟨hg.quiet.os,hg.quiet.out,fun i hi=>?_⟩
 rw [hh i hi]
 cases h:W.heap[i]? with
 | none=>simp
 | some o=>
  cases o with
  | cells c t fr=>exact ⟨rfl,rfl,rfl,fun _ _=>rfl⟩
  | map es clock=>exact .inr ⟨rfl,rfl⟩
  | _=>rfl
theorem trodAll_turn {sq:Nat→Bool} {W W':World} (hh:∀ b,b<W.heap.size→W'.heap[b]?=W.heap[b]?):∀ {ts:List TypeId} {vs:List Value} {ds:List (DataW H)} {ps:List MemPlace} {pars:List (Bool × List Ty)},ts.mapM (parOf P)=some pars →
  DataW.TrodAll enc P W 0 (fun _=>true) true ts vs ds ps→(∀ p ∈ ps,sq p.block=true)→DataW.TrodAll enc P W' 0 sq true ts vs ds ps:=by
 intro ts
 induction ts with
 | nil=>
  intro vs ds ps pars hp h hs
  cases vs <;> cases ds <;> simp_all [DataW.TrodAll]
 | cons t ts ih=>
  intro vs ds ps pars hp h hs
  rw [List.mapM_cons] at hp
  simp only [Option.bind_eq_bind,Option.bind_eq_some_iff,Option.pure_def,Option.some.injEq] at hp
  obtain ⟨p,hp1,pars',hps,rfl⟩:=hp
  cases vs with
  | nil=>simp [DataW.TrodAll] at h
  | cons v vs=>
  cases ds with
  | nil=>simp [DataW.TrodAll] at h
  | cons d ds=>
  obtain ⟨p1,q1,⟨fuel,h1⟩,h2,rfl⟩:=h
  obtain ⟨sh,hsh,rfl⟩:=Option.map_eq_some_iff.1 hp1
  refine ⟨p1,q1,⟨fuel,?_⟩,ih hps h2 (fun p hp=>hs p (List.mem_append.2 (.inr hp))),rfl⟩
  have hlt:=DataW.trod_lt _ _ _ _ h1
  have h3:=DataW.trod_carry (w':=W') _ _ _ _ h1 fun p hp=>by
   have:=hlt p hp
   cases p with
   | cell b off=>exact cell_same (hh b this)
   | map b=>exact hh b this
  exact trod_spare _ _ _ _ _ _ hsh h3 fun p hp=>hs p (List.mem_append.2 (.inl hp))
theorem law_returns {C:Checked} {os:Os} {f:FuncId} {fn:Func} {s:ChangeSpec} {apart fresh handsOn again:Bool} {pars:List (Bool × List Ty)} {tb:TypeId}
  (own:ownKnob C.prog.godebug=none) (started:os.Started) (noInit:C.prog.inits.idxOf? f=none) (hfn:C.prog.funcs[f]?=some fn)
  (witness:∃ (w:World) (tape:Tape) (i:Input),w.os=os∧(w.forCall tape i).Shaped C.prog∧i.vars=[]∧Input.okWide C.prog (w.forCall tape i) .any w.heap.size f i ∧
   s.pre6 enc C.prog fn [] apart (w.forCall tape i).memory i.args∧({}:Assume).holds C.prog (lone (Frame.enter C.prog f i.args .normal) [] (w.forCall tape i)))
  (hv:s.vars=[]) (hp:fn.params.toList.mapM (parOf C.prog)=some pars) (hr:fn.resultTypes=#[tb]) (hb:C.prog.underlying tb=some .bool)
  (hsf:∀ ds:List (DataW H),ds.length=pars.length→s.fn H ds={ results:=[.lit (.bool true)],args:=ds })
  (hspec:∀ tss,ArgsShp pars tss→∃ outs,Spec C.prog f (avsOf pars tss) (.bool true) outs) :
  ReturnsInHanded {} C os f .any (s.pre6 enc C.prog fn [] apart) (s.post enc C.prog fn apart fresh handsOn again):=by
 refine returnsInHanded_of_change_sized own started noInit hfn witness ?_
 intro W base args ds gs before hval hW _ hz _
 have hW':=hW
 obtain ⟨p,q,hA,hV,rfl,hfz,hnd⟩:=hW
 rw [hv] at hV
 have hgs:gs=[]∧q=[]:=by cases gs <;> simp_all [DataW.TrodVars]
 obtain ⟨rfl,rfl⟩:=hgs
 have hvt:s.plain.varTypes C.prog=[]:=by simp [ChangeSpec.plain,DataSpec.varTypes,hv]
 rw [hvt] at hz
 simp only [List.append_nil] at hz hW' hfz hnd
 obtain ⟨X,tss,h1,h2,h3⟩:=args_rep (base:=base) hp hA (fun j t v e1 e2=>hval j t v (by simpa using e1) (by simpa using e2))
  (fun n hn=>Nat.le_of_lt (Nat.lt_of_le_of_lt (by simpa using List.all_eq_true.1 hz n hn) reachBytes_lt))
 obtain ⟨outs,hS⟩:=hspec tss h1
 have hc:=hS.2.2 W args.toList (fun _=>0) X h2 (fun _=>by omega) (fun _=>.inl rfl) h3
 rw [Array.toArray_toList] at hc
 refine hc.mono ?_
 rintro e W' ⟨v,F',X',rfl,hrep,_,_,hg,hfr,_,_⟩
 have hvt:v=.bool true:=by
  obtain ⟨_,_,_,_,r1,_,_⟩:=RepA.uncons hrep
  cases r1; rfl
 subst hvt
 refine ⟨_,rfl,?_⟩
 have hh:∀ b,b<W.heap.size→W'.heap[b]?=W.heap[b]?:=fun b hb=>hfr b hb rfl
 have hdl:ds.length=pars.length:=by
  have e1:=mapM_some_length hp
  have:∀ {ts:List TypeId} {vs:List Value} {ds:List (DataW H)} {ps:List MemPlace},DataW.TrodAll enc C.prog W 0 (fun _=>true) true ts vs ds ps→ds.length=ts.length:=by
   intro ts
   induction ts with
   | nil=>intro vs ds ps h; cases vs <;> cases ds <;> simp_all [DataW.TrodAll]
   | cons t ts ih=>
    intro vs ds ps h
    cases vs with
    | nil=>simp [DataW.TrodAll] at h
    | cons v vs=>
    cases ds with
    | nil=>simp [DataW.TrodAll] at h
    | cons d ds=>obtain ⟨_,_,_,h2,_⟩:=h; simp [ih h2]
  rw [this hA,e1]
 have hsd:=hsf ds hdl
 have hres:∀ (b:Nat) (sp:Nat→Bool) (hd:Bool),DataW.TrodAll enc C.prog W' b sp hd fn.resultTypes.toList (Value.resultList fn.resultTypes.size (.bool true)) [.lit (.bool true)] []:=by
  intro b sp hd
  rw [hr]
  exact ⟨[],[],RowKit.shut_bool hb true,rfl,rfl⟩
 have hlt:∀ x ∈ p,x.block<W.heap.size:=fun x hx=>hW'.lt x hx
 have hTA:∀ sq:Nat→Bool,(∀ x ∈ p,sq x.block=true)→DataW.TrodAll enc C.prog W' 0 sq true fn.params.toList args.toList ds p:=fun sq hsq=>trodAll_turn hh hp hA hsq
 refine ⟨ds,[],p,[],p,[],hW',?_,?_,?_,keptBut_old hg hh,fun _=>⟨?_,.lit (.bool true)::ds,[],p,⟨p,[],?_,?_,by simp,?_,hnd⟩,fun _ h _=>h⟩⟩
 ·rw [List.append_nil,hsd]; exact hres _ _ _
 ·rw [List.append_nil,hsd]; exact hTA _ fun x hx=>by simpa using hlt x hx
 ·rw [List.append_nil,hsd,hv]; rfl
 ·exact RowKit.ok_one hr rfl (RowKit.okWide_bool_mk hb true)
 ·rw [hr]; exact ⟨[],p,RowKit.shut_bool hb true,hTA _ fun _ _=>rfl,rfl⟩
 ·rw [hv]; rfl
 ·intro b off hm
  rw [World.frozen?_of_block (w:=W) (hh b (hlt _ hm))]
  exact hfz b off hm
theorem enter_of {P:Program} {r:List (List Char)} (hr:behindMainWord (wordsSigns P.initOrder.toList)=[Char.ofNat 99,Char.ofNat 117,Char.ofNat 116]::r) (h2:P.laysLater=false) (h3:P.bearsReflect=false) (h4:P.doorFits []=true):P.mayEnter=true:=by
 unfold Program.mayEnter
 rw [hr]
 have h1:stripLifts liftWords ([Char.ofNat 99,Char.ofNat 117,Char.ofNat 116]::r)=([],[Char.ofNat 99,Char.ofNat 117,Char.ofNat 116]::r):=by rfl
 dsimp only
 rw [h1,h2,h3,h4]
 rfl
theorem lifts_of {P:Program} {r:List (List Char)} (hr:behindMainWord (wordsSigns P.initOrder.toList)=[Char.ofNat 99,Char.ofNat 117,Char.ofNat 116]::r):P.liftsFinal=false:=by
 unfold Program.liftsFinal Program.headLifts
 rw [hr]
 have h1:stripLifts liftWords ([Char.ofNat 99,Char.ofNat 117,Char.ofNat 116]::r)=([],[Char.ofNat 99,Char.ofNat 117,Char.ofNat 116]::r):=by rfl
 rw [h1]
 rfl
theorem make_of {P:Program} {r:List (List Char)} (hr:behindMainWord (wordsSigns P.initOrder.toList)=[Char.ofNat 99,Char.ofNat 117,Char.ofNat 116]::r):P.make=some .cut:=by
 unfold Program.make
 rw [hr]
 rfl
theorem andT {a b:Bool} (h:a=true) (g:b=true):(a && b)=true:=by rw [h,g]; rfl
theorem joined_of {P:Program} {f:FuncId} {fn:Func} {s:ChangeSpec} {c:OpenClaim} (h0:(c.wf (OpenSpec.ofChange s))=true) (h1:(laidOutB P)=true) (h2:(mapsRowed P)=true) (h3:(fn.params.all (P.readableRec ·))=true) (h4:(namedTie P c.named s.vars)=true) (h5:((c.stops == []))=true) (h6:((P.stops == []))=true) (h7:((c.knobs == []))=true) (h8:((P.stopKnobs == []))=true) (h9:((c.inPlace == P.inPlace f))=true) (h10:((c.unfollowed == P.unfollowed f))=true) (h11:((c.recurses == P.recurses f))=true) (h12:((c.named == P.varsNamed f))=true) (h13:((c.maps == (fn.params.toList++s.plain.varTypes P).any (P.mapsRec ·)))=true) (h14:((c.ifaces == (fn.params.toList++s.plain.varTypes P).any (P.ifacesRec ·)))=true) (h15:((c.mapsOut == P.mapsAmong fn.resultTypes.toList))=true) (h16:((c.loops == (fn.params.toList++s.plain.varTypes P).any (P.loopsFrom ·)))=true) (h17:((c.wideKeys == (fn.params.toList++s.plain.varTypes P++fn.resultTypes.toList).any (P.wideKeysFrom ·)))=true) (h18:(s.vars.all (P.varReadable ·))=true) (h19:(fn.resultTypes.all (fun t=>P.readableRec t && decide (t<P.types.size)))=true) (h20:((c.ifacesOut == fn.resultTypes.toList.any (P.ifacesRec ·)))=true) (h21:((c.loopsOut == fn.resultTypes.toList.any (P.loopsFrom ·)))=true) (h22:((c.plainKeys == P.plainKeys))=true) (h23:(c.shortTexts.isNone)=true) (h24:(P.stopsHeard)=true) (h25:(P.mayEnter)=true) (h26:((c.lifted == P.liftsFinal))=true) (h27:((P.make == some c.make))=true) (h28:((c.kinds == (if c.domain.isEmpty then [] else fn.params.toList.map fun t=>match P.underlying t with | some (.int k)=>some k | _=>none)))=true) (h29:((c.pinned == c.pinnedBy))=true) (h30:((c.veiled == (fn.params.toList++s.plain.varTypes P++fn.resultTypes.toList).any (P.veiledRec ·)))=true) (h31:(c.veiledFits P fn.params.toList (fn.params.toList++s.plain.varTypes P++fn.resultTypes.toList))=true):joinedFacts P f fn s c=true:=by
 unfold joinedFacts
 exact (andT (andT (andT (andT (andT (andT (andT (andT (andT (andT (andT (andT (andT (andT (andT (andT (andT (andT (andT (andT (andT (andT (andT (andT (andT (andT (andT (andT (andT (andT (andT h0 h1) h2) h3) h4) h5) h6) h7) h8) h9) h10) h11) h12) h13) h14) h15) h16) h17) h18) h19) h20) h21) h22) h23) h24) h25) h26) h27) h28) h29) h30) h31)
end Go.Proofs.YtjmnolhflcjpgaaGreat.Awp
namespace Go.Proofs.YtjmnolhflcjpgaaGreat.Awp
set_option linter.unusedVariables false
set_option linter.unusedSimpArgs false
theorem spec_extv {P:Program} {f:FuncId} {s:Nat} {es:List (List TV)} {as outs:List AV} {ret:AV}
  (h:∀ (a:Option Addr) (len cap:Nat),(a=none→es=[])→Spec P f (.extv (.slice a len cap) s es::as) ret outs):Spec P f (.ext s es::as) ret outs:=by
 have key:∀ (w:World) (X:Foot) (v:Value),Row w false X [v] [.sl s es]→∃ a len cap,v=.slice a len cap∧(a=none→es=[]):=by
  intro w X v r
  cases r with
  | ext0 _ _ a cap _ _ _=>exact ⟨a,0,cap,rfl,fun _=>rfl⟩
  | ext _ _ _ _ _ a cap cs _ _ _ _ _ _ _ _ _=>exact ⟨some a,_,cap,rfl,fun h=>by cases h⟩
 by_cases hx:es=[]
 ·have h0:=h none 0 0 fun _=>hx
  refine ⟨h0.1,h0.2.1,?_⟩
  intro w vs F X r
  cases r with
  | ext _ _ X1 X2 _ _ v vs _ h1 hr hX=>
   obtain ⟨a,len,cap,rfl,ha⟩:=key w X1 v h1
   exact (h a len cap ha).2.2 w _ F X (.extv _ _ X1 X2 _ _ _ _ _ h1 hr hX)
 ·have h0:=h (some ⟨0,0,none⟩) 0 0 fun e=>by cases e
  refine ⟨h0.1,h0.2.1,?_⟩
  intro w vs F X r
  cases r with
  | ext _ _ X1 X2 _ _ v vs _ h1 hr hX=>
   obtain ⟨a,len,cap,rfl,ha⟩:=key w X1 v h1
   exact (h a len cap ha).2.2 w _ F X (.extv _ _ X1 X2 _ _ _ _ _ h1 hr hX)
end Go.Proofs.YtjmnolhflcjpgaaGreat.Awp
namespace Go.Proofs.YtjmnolhflcjpgaaGreat.Awp
set_option linter.unusedVariables false
set_option linter.unusedSimpArgs false
mutual
def frzA:AV→AV
 | .own s es=>.ext s es
 | .agg cs=>.agg (frzL cs)
 | .tup cs=>.tup (frzL cs)
 | .undef=>.undef
 | .bool b=>.bool b
 | .int k n=>.int k n
 | .str s=>.str s
 | .ext s es=>.ext s es
 | .extv v s es=>.extv v s es
 | .box cs=>.box cs
 | .xbox cs=>.xbox cs
 | .lnk r e p=>.lnk r e p
 | .sub r e p s lo n=>.sub r e p s lo n
 | .ref r e p st=>.ref r e p st
 | .fn f cs=>.fn f cs
def frzL:List AV→List AV
 | []=>[]
 | a::l=>frzA a::frzL l
end
theorem own_ext {w:World} {F:Foot} {v:Value} {s:Nat} {es:List (List TV)} (h:Row w true F [v] [.sl s es]):∃ X,Row w false X [v] [.sl s es]∧∀ b,X b≤F b:=h.weak rfl
theorem RepA.frz {w:World} {lk:Lk} {F X:Foot} {vs:List Value} {as:List AV} (h:RepA w lk F X vs as) :
  ∃ F2 N X2:Foot,RepA w lk F2 X2 vs (frzL as)∧(∀ b,F b=F2 b+N b)∧∀ b,X2 b≠0→X b≠0∨N b≠0:=by
 induction h with
 | nil F X hF hX=>exact ⟨F,fun _=>0,X,.nil F X hF hX,fun b=>rfl,fun b hb=>.inl hb⟩
 | undef F X v vs as h ih=>obtain ⟨F2,M,X2,r,e1,e2⟩:=ih; exact ⟨F2,M,X2,.undef _ _ _ _ _ r,e1,e2⟩
 | bool F X v vs as h ih=>obtain ⟨F2,M,X2,r,e1,e2⟩:=ih; exact ⟨F2,M,X2,.bool _ _ _ _ _ r,e1,e2⟩
 | int F X k n vs as h ih=>obtain ⟨F2,M,X2,r,e1,e2⟩:=ih; exact ⟨F2,M,X2,.int _ _ _ _ _ _ r,e1,e2⟩
 | str F X s vs as h ih=>obtain ⟨F2,M,X2,r,e1,e2⟩:=ih; exact ⟨F2,M,X2,.str _ _ _ _ _ r,e1,e2⟩
 | own F F1 F2 X s es v vs as h1 h hF ih=>
  obtain ⟨G2,M,X2,r,e1,e2⟩:=ih
  obtain ⟨Y,hy,hle⟩:=own_ext h1
  refine ⟨G2,fun b=>F1 b+M b,fun b=>Y b+X2 b,.ext _ _ Y X2 s es v vs _ hy r (fun _=>rfl),fun b=>by (try dsimp only); rw [hF,e1]; omega,fun b hb=>?_⟩
  have:=hle b
  by_cases hz:Y b=0
  ·rcases e2 b (by (try dsimp only at hb); omega) with h | h
   ·exact .inl h
   ·exact .inr (by (try dsimp only); omega)
  ·exact .inr (by (try dsimp only); omega)
 | ext F X X1 X2 s es v vs as h1 h hX ih=>
  obtain ⟨G2,M,Y2,r,e1,e2⟩:=ih
  refine ⟨G2,M,fun b=>X1 b+Y2 b,.ext _ _ X1 Y2 s es v vs _ h1 r (fun _=>rfl),e1,fun b hb=>?_⟩
  by_cases hz:X1 b=0
  ·rcases e2 b (by (try dsimp only at hb); omega) with h | h
   ·exact .inl (by rw [hX]; omega)
   ·exact .inr h
  ·exact .inl (by rw [hX]; omega)
 | extv F X X1 X2 s es v vs as h1 h hX ih=>
  obtain ⟨G2,M,Y2,r,e1,e2⟩:=ih
  refine ⟨G2,M,fun b=>X1 b+Y2 b,.extv _ _ X1 Y2 s es v vs _ h1 r (fun _=>rfl),e1,fun b hb=>?_⟩
  by_cases hz:X1 b=0
  ·rcases e2 b (by (try dsimp only at hb); omega) with h | h
   ·exact .inl (by rw [hX]; omega)
   ·exact .inr h
  ·exact .inl (by rw [hX]; omega)
 | box F F1 F2 X X1 X2 b C ty fr cs vs as hb hfr h1 h hF hX ih1 ih=>
  obtain ⟨G2,M,Y2,r,e1,e2⟩:=ih
  refine ⟨fun x=>(if x=b then 1 else 0)+F1 x+G2 x,M,fun x=>X1 x+Y2 x,.box _ F1 G2 _ X1 Y2 b C ty fr cs vs _ hb hfr h1 r (fun _=>rfl) (fun _=>rfl),fun x=>by (try dsimp only); rw [hF,e1]; omega,fun x hx=>?_⟩
  by_cases hz:X1 x=0
  ·rcases e2 x (by (try dsimp only at hx); omega) with h | h
   ·exact .inl (by rw [hX]; omega)
   ·exact .inr h
  ·exact .inl (by rw [hX]; omega)
 | xbox F X X1 X2 a us cs vs as hc h1 h hX ih=>
  obtain ⟨G2,M,Y2,r,e1,e2⟩:=ih
  refine ⟨G2,M,fun x=>(if x=a.block then 1 else 0)+X1 x+Y2 x,.xbox _ _ X1 Y2 a us cs vs _ hc h1 r (fun _=>rfl),e1,fun x hx=>?_⟩
  by_cases hz:(if x=a.block then 1 else 0)+X1 x=0
  ·rcases e2 x (by (try dsimp only at hx); omega) with h | h
   ·exact .inl (by rw [hX]; omega)
   ·exact .inr h
  ·exact .inl (by rw [hX]; omega)
 | agg F F1 F2 X X1 X2 us cs vs as h1 h hF hX ih1 ih=>
  obtain ⟨G1,M1,Y1,r1,f1,f2⟩:=ih1
  obtain ⟨G2,M,Y2,r,e1,e2⟩:=ih
  refine ⟨fun x=>G1 x+G2 x,fun x=>M1 x+M x,fun x=>Y1 x+Y2 x,.agg _ G1 G2 _ Y1 Y2 us _ vs _ r1 r (fun _=>rfl) (fun _=>rfl),fun x=>by (try dsimp only); rw [hF,f1,e1]; omega,fun x hx=>?_⟩
  by_cases hz:Y1 x=0
  ·rcases e2 x (by (try dsimp only at hx); omega) with h | h
   ·exact .inl (by rw [hX]; omega)
   ·exact .inr (by (try dsimp only); omega)
  ·rcases f2 x hz with h | h
   ·exact .inl (by rw [hX]; omega)
   ·exact .inr (by (try dsimp only); omega)
 | tup F F1 F2 X X1 X2 us cs vs as h1 h hF hX ih1 ih=>
  obtain ⟨G1,M1,Y1,r1,f1,f2⟩:=ih1
  obtain ⟨G2,M,Y2,r,e1,e2⟩:=ih
  refine ⟨fun x=>G1 x+G2 x,fun x=>M1 x+M x,fun x=>Y1 x+Y2 x,.tup _ G1 G2 _ Y1 Y2 us _ vs _ r1 r (fun _=>rfl) (fun _=>rfl),fun x=>by (try dsimp only); rw [hF,f1,e1]; omega,fun x hx=>?_⟩
  by_cases hz:Y1 x=0
  ·rcases e2 x (by (try dsimp only at hx); omega) with h | h
   ·exact .inl (by rw [hX]; omega)
   ·exact .inr (by (try dsimp only); omega)
  ·rcases f2 x hz with h | h
   ·exact .inl (by rw [hX]; omega)
   ·exact .inr (by (try dsimp only); omega)
 | fn F F1 F2 X X1 X2 f us cs vs as h1 h hF hX ih1 ih=>
  obtain ⟨G2,M,Y2,r,e1,e2⟩:=ih
  refine ⟨fun x=>F1 x+G2 x,M,fun x=>X1 x+Y2 x,.fn _ F1 G2 _ X1 Y2 f us cs vs _ h1 r (fun _=>rfl) (fun _=>rfl),fun x=>by (try dsimp only); rw [hF,e1]; omega,fun x hx=>?_⟩
  by_cases hz:X1 x=0
  ·rcases e2 x (by (try dsimp only at hx); omega) with h | h
   ·exact .inl (by rw [hX]; omega)
   ·exact .inr h
  ·exact .inl (by rw [hX]; omega)
 | lnk F X r e p o v vs as ho hv h ih=>obtain ⟨F2,M,X2,r',e1,e2⟩:=ih; exact ⟨F2,M,X2,.lnk _ _ _ _ _ _ _ _ _ ho hv r',e1,e2⟩
 | sub F X r e p s lo n o v vs as ho hv h ih=>obtain ⟨F2,M,X2,r',e1,e2⟩:=ih; exact ⟨F2,M,X2,.sub _ _ _ _ _ _ _ _ _ _ _ _ ho hv r',e1,e2⟩
 | ref F X r e p st o v vs as ho hv h ih=>obtain ⟨F2,M,X2,r',e1,e2⟩:=ih; exact ⟨F2,M,X2,.ref _ _ _ _ _ _ _ _ _ _ ho hv r',e1,e2⟩
theorem spec_frzR {P:Program} {f:FuncId} {args outs:List AV} {ret:AV} (h:Spec P f args ret outs):Spec P f args (frzA ret) outs:=by
 refine ⟨h.1,h.2.1,?_⟩
 intro w vs F X r h1 h2 h3
 refine (h.2.2 w vs F X r h1 h2 h3).mono ?_
 rintro e w' ⟨v,F',X',he,r',q1,q2,q3,q4,q5,q6⟩
 obtain ⟨A1,A2,Y1,Y2,r1,r2,eA,eY⟩:=RepA.uncons r'
 obtain ⟨F2,M,X2,r3,eF,eX⟩:=RepA.frz r1
 have r4:RepA w' lk0 (fun b=>F2 b+A2 b) (fun b=>X2 b+Y2 b) (v::vs) (frzA ret::outs):=RepA.cons (by simpa [frzL] using r3) r2 (fun _=>rfl) (fun _=>rfl)
 refine ⟨v,_,_,he,r4,fun b=>?_,fun b=>?_,q3,q4,fun b hb=>?_,fun b hb=>?_⟩
 ·have:=q1 b; have:=eF b; have:=eA b; (try dsimp only); omega
 ·have a1:=q1 b; have a2:=q2 b; have a3:=eF b; have a4:=eX b; have a5:=eA b; have a6:=eY b
  by_cases hz:X2 b=0
  ·(try dsimp only); omega
  ·have:=a4 hz; (try dsimp only); omega
 ·exact q5 b (by have:=eF b; have:=eA b; (try dsimp only at hb); omega)
 ·by_cases hz:X2 b=0
  ·exact q6 b (by have:=eY b; (try dsimp only at hb); omega)
  ·rcases eX b hz with hx | hm
   ·exact q6 b (by have:=eY b; omega)
   ·have hF:F' b≠0:=by have:=eF b; have:=eA b; omega
    refine ⟨?_,r'.lt b hF⟩
    rcases q5 b hF with g | g
    ·exact .inr (.inl g)
    ·exact .inr (.inr g)
theorem spec_give {P:Program} {f:FuncId} {as as' outs:List AV} {ret:AV} (h:Spec P f as ret outs) (hl:as'.length=as.length)
  (hw:∀ (w:World) (F X:Foot) (vs:List Value),RepA w lk0 F X vs as'→∃ F2 N X2:Foot,RepA w lk0 F2 X2 vs as∧(∀ b,F b=F2 b+N b)∧∀ b,X2 b≠0→X b≠0∨N b≠0):Spec P f as' ret outs:=by
 refine ⟨h.1,by rw [h.2.1,hl],?_⟩
 intro w vs F X r h1 h2 h3
 obtain ⟨F2,M,X2,r2,eF,eX⟩:=hw w F X vs r
 refine (h.2.2 w vs F2 X2 r2 (fun b=>by have:=h1 b; have:=eF b; omega) (fun b=>?_) (fun b hb=>?_)).mono ?_
 ·have a1:=h1 b; have a2:=h2 b; have a3:=eF b; have a4:=eX b
  by_cases hz:X2 b=0
  ·exact .inr hz
  ·have:=a4 hz; omega
 ·rcases eX b hb with hx | hm
  ·exact h3 b hx
  ·exact r.lt b (by have:=eF b; omega)
 ·rintro e w' ⟨v,F',X',he,r',q1,q2,q3,q4,q5,q6⟩
  refine ⟨v,F',X',he,r',q1,q2,q3,fun b hb h0=>q4 b hb (by have:=eF b; omega),fun b hb=>?_,fun b hb=>?_⟩
  ·rcases q5 b hb with g | g
   ·exact .inl (by have:=eF b; omega)
   ·exact .inr g
  ·obtain ⟨g,g'⟩:=q6 b hb
   refine ⟨?_,g'⟩
   rcases g with g | g | g
   ·rcases eX b g with hx | hm
    ·exact .inl hx
    ·exact .inr (.inl (by have:=eF b; omega))
   ·exact .inr (.inl (by have:=eF b; omega))
   ·exact .inr (.inr g)
theorem spec_give2 {P:Program} {f:FuncId} {x:AV} {s:Nat} {es:List (List TV)} {outs:List AV} {ret:AV} (h:Spec P f [x,.ext s es] ret outs):Spec P f [x,.own s es] ret outs:=by
 refine spec_give h rfl fun w F X vs r=>?_
 cases vs with
 | nil=>have:=r.length; simp at this
 | cons v vs=>
  obtain ⟨A1,A2,Y1,Y2,r1,r2,eA,eY⟩:=RepA.uncons r
  obtain ⟨F2,M,X2,r3,e1,e2⟩:=RepA.frz r2
  refine ⟨fun b=>A1 b+F2 b,M,fun b=>Y1 b+X2 b,RepA.cons r1 (by simpa [frzL,frzA] using r3) (fun _=>rfl) (fun _=>rfl),fun b=>by have:=eA b; have:=e1 b; (try dsimp only); omega,fun b hb=>?_⟩
  by_cases hz:X2 b=0
  ·exact .inl (by have:=eY b; (try dsimp only at hb); omega)
  ·rcases e2 b hz with h | h
   ·exact .inl (by have:=eY b; omega)
   ·exact .inr h
end Go.Proofs.YtjmnolhflcjpgaaGreat.Awp
namespace Go.Proofs.YtjmnolhflcjpgaaGreat.Awp
set_option linter.unusedVariables false
set_option linter.unusedSimpArgs false
section
variable {w:Wk} {st:List Fr} {E:Env} {is:List GI} {bs:List Nat} {acc:List Rcd}
theorem spec_c {P:Program} {f nt:Nat} {rs:List RV} {cmd:Cmd} (hm:P.follows .mixedOrders=true) (hc:compile P f=some (nt,rs,cmd)) (md:Modes) (ks:Nat) (bs:List Bool) {args outs:List AV} {ret:AV}
  (hlen:args.length≤nt∧args.length≤32) (hol:outs.length=args.length) (hroots:rootsOk bs args=true)
  (h:∀ w:Wk,w.P=P→(w.md=md∧w.ks=ks∧w.Q=Fin rs bs args ret outs)→C w cmd [] (mkV ks (initA 0 bs args++initB 0 bs args) (initA 0 bs args++initB 0 bs args) [])):Spec P f args ret outs:=
 spec_C hm hc md ks bs hlen hol hroots fun w h1 h2 h3 h4=>h w h1 ⟨h2,h3,h4⟩
theorem specEx_c {P:Program} {f nt:Nat} {rs:List RV} {cmd:Cmd} (hm:P.follows .mixedOrders=true) (hc:compile P f=some (nt,rs,cmd)) (md:Modes) (ks:Nat) (bs:List Bool) {args:List AV} {R:AV→List AV→Prop}
  (hlen:args.length≤nt∧args.length≤32) (hroots:rootsOk bs args=true)
  (h:∀ w:Wk,w.P=P→(w.md=md∧w.ks=ks∧w.Q=FinEx rs bs args R)→C w cmd [] (mkV ks (initA 0 bs args++initB 0 bs args) (initA 0 bs args++initB 0 bs args) [])):∃ ret outs,R ret outs∧Spec P f args ret outs:=
 specEx_C hm hc md ks bs hlen hroots fun w h1 h2 h3 h4=>h w h1 ⟨h2,h3,h4⟩
theorem loop_e {σ:Type} (D:List Nat) (v:σ→List (Nat × AV)) (J:σ→Prop) (μ:σ→Nat) (s0:σ) {c:Cmd} {P:Program} {md:Modes} {ks:Nat} {q:Ex→Env→Prop} {l:List (Nat × AV)} (hP:w.P=P) (hq:w.md=md∧w.ks=ks∧w.Q=q) (hE:setsL l (v s0)=l) (h0:J s0)
  (step:∀ s,J s→∀ w':Wk,w'.P=P→(w'.md=md∧w'.ks=ks∧w'.Q=LQD D ks l v J μ s (T w st))→C w' c [] (mkV ks (setsL l (v s)) [] [])):LHD w c st D (mkV ks l [] []):=
 loop_d D v J μ s0 hP hq.1 hq.2.1 hE h0 fun s hs w' h1 h2 h3 h4=>step s hs w' h1 ⟨h2,h3,h4⟩
theorem loop_f {σ:Type} (v:σ→List (Nat × AV)) (J:σ→Prop) (μ:σ→Nat) (s0:σ) {c:Cmd} {P:Program} {md:Modes} {ks:Nat} {q:Ex→Env→Prop} {l:List (Nat × AV)} (hP:w.P=P) (hq:w.md=md∧w.ks=ks∧w.Q=q) (hE:setsL l (v s0)=l) (h0:J s0)
  (step:∀ s,J s→∀ w':Wk,w'.P=P→(w'.md=md∧w'.ks=ks∧w'.Q=LQ ks l v J μ s (T w st))→C w' c [] (mkV ks (setsL l (v s)) [] [])):LH w c st (mkV ks l [] []):=
 loop_i v J μ s0 hP hq.1 hq.2.1 hE h0 fun s hs w' h1 h2 h3 h4=>step s hs w' h1 ⟨h2,h3,h4⟩
theorem cI {d:Option Nat} {f:Nat} {ok:Bool} {args outs:List AV} {ret:AV} {ln:Option (Nat × Nat × Path)} {P:Program} (hP:w.P=P) (hS:Spec P f args ret outs)
  (hx:extsL (ret::outs)=false) (hv:vlvL (ret::outs)=[]) {pls:List Plc} (h:B w d ret is st (backA E ln pls outs)):Y0 w d f ok pls is st args E ln:=
 call_i hP hS (.inl ⟨hx,fun x hx'=>by rw [hv] at hx'; cases hx'⟩) h
theorem cH {d:Option Nat} {f:Nat} {ok:Bool} {args outs:List AV} {ret:AV} {ln:Option (Nat × Nat × Path)} {P:Program} (hP:w.P=P) (hS:Spec P f args ret outs)
  (hx:extsL (ret::outs)=false) (hv:vlvL (ret::outs)=[]) {pls:List Plc} (h:BH w d ret bs acc is st (backA E ln pls outs)):YH0 w d f ok pls bs acc is st args E ln:=
 callH_i hP hS (.inl ⟨hx,fun x hx'=>by rw [hv] at hx'; cases hx'⟩) h
theorem cK {d:Option Nat} {f:Nat} {cs ds outs:List AV} {ret:AV} {P:Program} (hP:w.P=P) (hS:SpecK P f cs ds ret outs)
  (hx:extsL (ret::outs)=false) (hv:vlvL (ret::outs)=[]) (h:G w is st (putO E d ret)):YK0 w d f is st cs ds E:=⟨ret,outs,hP ▸ hS,⟨hx,hv⟩,h⟩
theorem cKH {d:Option Nat} {f:Nat} {cs ds outs:List AV} {ret:AV} {P:Program} (hP:w.P=P) (hS:SpecK P f cs ds ret outs)
  (hx:extsL (ret::outs)=false) (hv:vlvL (ret::outs)=[]) (h:H w bs acc is st (putO E d ret)):YKH0 w d f bs acc is st cs ds E:=⟨ret,outs,hP ▸ hS,⟨hx,hv⟩,h⟩
end
end Go.Proofs.YtjmnolhflcjpgaaGreat.Awp
namespace Go.Proofs.YtjmnolhflcjpgaaGreat.Awp
set_option linter.unusedVariables false
set_option linter.unusedSimpArgs false
variable {P:Program}
theorem lkK_of {w:World} {vl:Nat→Value} {E:Env} {us:List Value} {cs:List AV} (hE:∀ (i s:Nat) (es:List (List TV)),cs[i]?=some (.own s es)→E.f (rt 0 i)=.own s es∧E.ep (rt 0 i)=(0,0))
  (hb:∀ (i:Nat) (c:AV),cs[i]?=some c→c.isRoot=true→∃ s es,c=.own s es) (hv:∀ (i:Nat) (u:Value),us[i]?=some u→vl (rt 0 i)=u) (r e:Nat) (p:Path) (o:Option Value) (h:lkK w us cs r e p=some o):lkOf w vl E r e p=some o:=by
 unfold lkK at h
 split at h
 case isFalse=>cases h
 rename_i he
 subst he
 split at h
 case h_2=>cases h
 rename_i c u hc hu
 obtain ⟨⟨h1,h2,h3⟩,h4⟩:=ite_some h
 obtain ⟨s,es,rfl⟩:=hb _ c hc h2
 obtain ⟨g1,g2⟩:=hE _ s es hc
 have g3:=hv _ u hu
 have e1:rt 0 ((r-1032)/32)=r:=h1.symm
 rw [e1] at g1 g2 g3
 unfold lkOf
 rw [g1,g2,g3,if_neg (by simp [curE]),if_pos ⟨by simp [curE],rfl,h3⟩]
 simpa using h4
theorem specK_of_awp {f:Nat} {fn:Func} {c:Code} {cmd:Cmd} {cs ds outs:List AV} {ret:AV} {ks:Nat} {rs:List RV} (hf:P.funcs[f]?=some fn) (hb:fn.body=some c)
  (hnm:(fn.name == "runtime.NumGoroutine")=false) (hn:fn.ntmps≤1000) (hlen:2≤fn.ntmps) (hres:resT P fn.ntmps fn.results.toList=some rs) (hol:outs.length=2)
  (hcs:cs.length≤30) (hbx:cs.all (fun | .box _=>false | _=>true)=true) (hD:P.follows .mixedOrders=true) (hc:cCode P fn.ntmps c=some cmd)
  (h:awp P ks cmd (fun x E'=>(x=.r∨x=.n)∧doneE rs [true,false] [.agg cs,.agg ds] ret outs E') (mkE (initA 0 [true] [.agg cs]++initB 0 [true] [.agg cs]++[(1,.agg ds)]) [])):SpecK P f cs ds ret outs:=by
 refine ⟨⟨fn,hf,by rw [hb]; rfl,hnm⟩,hol,?_⟩
 intro w us zs F X hrep hrep2 hF1 hdis hXlt
 let v0:Value:=.agg us.toArray
 let v1:Value:=.agg zs.toArray
 let B:Base:=⟨w,F,X,fn.ntmps⟩
 let hv:Nat→Value:=hidV [v0,v1]
 let a:Act:={ tmps:=[v0,v1].toArray++Array.replicate (fn.ntmps - [v0,v1].toArray.size) undef,defers:=[] }
 have hsize:a.tmps.size=B.n:=by simp [a,B]; omega
 have hroots:rootsOk [true] [.agg cs]=true:=by simp [rootsOk,hcs]
 have hvl1:∀ j v,[v0,v1][j]?=some v→vlOf a.tmps hv (0+j)=v∧vlOf a.tmps hv (1000+(0+j))=v∧hv (1000+(0+j))=v:=by
  intro j v hj
  have hjl:j<2:=(List.getElem?_eq_some_iff.1 hj).1
  rw [Nat.zero_add]
  have hh:hv (1000+j)=v:=hidV_arg (by omega) hj
  refine ⟨?_,?_,hh⟩
  ·unfold vlOf
   rw [if_pos (by rw [hsize]; show j<fn.ntmps; omega)]
   have hjl':j<[v0,v1].length:=hjl
   have ht:a.tmps=[v0,v1].toArray++Array.replicate (fn.ntmps - [v0,v1].toArray.size) undef:=rfl
   rw [ht,Array.getD_eq_getD_getElem?,Array.getElem?_append_left (by simpa using hjl'),List.getElem?_toArray,hj]
   rfl
  ·rw [vl_hid (by rw [hsize]; show fn.ntmps≤_; omega)]; exact hh
 have hvl2:∀ i v,us[i]?=some v→vlOf a.tmps hv (rt (0+0) i)=v∧hv (rt (0+0) i)=v:=by
  intro i v hi
  have:=hidV_cell (vs:=[v0,v1]) (k:=0) (us:=us) (by omega) rfl hi
  exact ⟨by rw [vl_hid (by rw [hsize]; show fn.ntmps≤_; simp only [rt]; omega)]; exact this,this⟩
 have R0:Rel B hv w a (mkE [] []) (fun _ _=>0) (fun _ _=>0):=
  ⟨hsize,rfl,fun t=>.undef _ _ _ _ _ RepA.znil,fun _ _=>by omega,fun _ _ _ _=>.inl rfl,fun _ _ _=>.inl rfl,Grows.refl _,fun _ _ _=>rfl,fun _ _ h=>absurd rfl h,fun _ _ h=>absurd rfl h,fun _ _ h=>absurd rfl h⟩
 have P0:PR B hv w a (mkE [] []) (fun _ _=>0) (fun _ _=>0) F X [v0] [.agg cs]:=
  ⟨R0,.agg _ F (fun _=>0) _ X (fun _=>0) us cs [] [] (hrep.lk0 _) RepA.znil (fun _=>rfl) (fun _=>rfl),hF1,fun _ _=>.inr rfl,fun _ _=>.inr rfl,fun _ _=>.inr rfl,hdis,fun b hb=>.inl hb,fun b hb=>⟨.inl hb,hXlt b hb⟩⟩
 obtain ⟨Fs1,Xs1,FP1,XP1,P1⟩:=initA_place (B:=B) [.agg cs] [true] 0 [v0] [] (by simp) (by show 0+1≤fn.ntmps; omega) hn (by simp)
  (fun j v hj=>by
   have hj0:j=0:=by have:=(List.getElem?_eq_some_iff.1 hj).1; simp at this; exact this
   subst hj0
   have:=hvl1 0 v (by simpa using hj)
   exact ⟨this.1,this.2.1⟩)
  (fun j us' i v hj hi=>by
   have hj0:j=0:=by have:=(List.getElem?_eq_some_iff.1 hj).1; simp at this; exact this
   subst hj0
   have e:us'=us:=by
    have:v0=.agg us'.toArray:=by simpa using hj
    injection this with h; simpa using h.symm
   subst e
   exact (hvl2 i v hi).1) P0
 obtain ⟨k1,k2,k3⟩:=initA_get [.agg cs] [true] 0 0 (.agg cs) rfl rfl (by simp)
 have hg:∀ i s es,cs[i]?=some (.own s es)→getL (initA 0 [true] [.agg cs]) (rt 0 i)=.own s es:=fun i s es hi=>k2 cs rfl i s es hi
 obtain ⟨Fs2,Xs2,R2⟩:=initB_place (B:=B) (w:=w) [.agg cs] [true] 0 (initA 0 [true] [.agg cs]) (by simp) (by show 0+1≤fn.ntmps; omega) hn (by
  intro j x hj hbj
  have hj0:j=0:=by have:=(List.getElem?_eq_some_iff.1 hj).1; simp at this; exact this
  subst hj0
  have:x=.agg cs:=by simpa using hj.symm
  subst this
  refine ⟨fun hr=>(by cases hr),fun cs' hcs'=>?_,k3⟩
  cases hcs'
  exact ⟨us,(hvl1 0 v0 rfl).1,hrep.prims,fun i s es hi=>hg i s es hi,fun i v hi=>(hvl2 i v hi).1⟩) hroots (by simpa using P1.rel)
 have hfar:noKey (initB 0 [true] [.agg cs]) 1∧∀ q,1000≤q→noKey (initB 0 [true] [.agg cs]) q:=by
  refine ⟨?_,fun q hq=>?_⟩ <;> intro p hp <;> simp [initB] at hp <;> subst hp <;> simp <;> omega
 have hno:noKey (initA 0 [true] [.agg cs]++initB 0 [true] [.agg cs]) 1:=by
  intro p hp
  rcases List.mem_append.1 hp with hp | hp
  ·obtain ⟨i,h1,h2⟩:=initA_keys [.agg cs] [true] 0 p hp
   have hi0:i=0:=by simp at h1; exact h1
   subst hi0
   rcases h2 with ⟨_,h2 | ⟨c,h2⟩⟩ | ⟨h2,_⟩
   ·omega
   ·rw [h2]; simp only [rt]; omega
   ·simp at h2
  ·exact hfar.1 p hp
 have hr1:RepA w (lkOf w (vlOf a.tmps hv) (mkE (initA 0 [true] [.agg cs]++initB 0 [true] [.agg cs]) [])) (fun _=>0) (fun _=>0) [v1] [.agg ds]:=by
  refine .agg _ (fun _=>0) (fun _=>0) _ (fun _=>0) (fun _=>0) zs ds [] [] ?_ RepA.znil (fun _=>rfl) (fun _=>rfl)
  refine hrep2.same (fun r e p o ho=>.inr ?_) (fun _ _=>rfl) (fun _ _=>rfl)
  refine lkK_of (fun i s es hi=>⟨?_,rfl⟩) ?_ (fun i u hu=>(hvl2 i u hu).1) r e p o ho
  ·rw [mkE_f,getL_app (hfar.2 _ (by simp only [rt]; omega))]; exact hg i s es hi
  ·intro i c hc hr
   rw [List.all_eq_true] at hbx
   have:=hbx c (List.mem_of_getElem? hc)
   cases c with
   | own s es=>exact ⟨s,es,rfl⟩
   | box cs=>cases this
   | _=>cases hr
 obtain ⟨XP',P2⟩:=PR.ofRel R2 hr1 (fun _=>rfl) (fun b hb=>absurd rfl hb)
 obtain ⟨Fs3,Xs3,FP3,XP3,P3⟩:=PR.place P2 (q:=1) (hid':=hv) (hvl1 1 v1 rfl).1 (fun _ _=>rfl)
 rw [put_new hno] at P3
 have G:Good B hv w a (mkE (initA 0 [true] [.agg cs]++initB 0 [true] [.agg cs]++[(1,.agg ds)]) []):=⟨hv,Fs3,Xs3,P3.rel,fun _ _=>rfl⟩
 have hcalls:=calls_of_wp (args:=#[v0,v1]) hf hb (awp_sound (B:=B) hn hD ks c cmd _ _ _ a w hc ?_ h G) (R:=fun e w'=>∃ v F' X',e=.returned v∧RepA w' lk0 F' X' (v::[v0,v1]) (ret::outs)∧(∀ b,F' b≤1)∧(∀ b,F' b=0∨X' b=0) ∧
   Grows w w'∧(∀ b,b<w.heap.size→F b=0→w'.heap[b]?=w.heap[b]?)∧(∀ b,F' b≠0→F b≠0∨w.heap.size≤b)∧(∀ b,X' b≠0→(X b≠0∨F b≠0∨w.heap.size≤b)∧b<w'.heap.size))
 ·exact hcalls
 rintro x E' a' w' ⟨hx,hdone⟩ G'
 obtain ⟨⟨l,E2⟩,hq,hret,houts,hlk⟩:=hdone
 obtain ⟨hid,Fs4,Xs4,R4,hh⟩:=G'
 obtain ⟨ts,Fs5,Xs5,FP5,XP5,hrun,hul,P5⟩:=retG_sound (l:=l) (E':=E2) hres (PR.nil R4) hq
 simp only [List.nil_append] at P5
 obtain ⟨E6,Fs6,Xs6,FP6,XP6,P6⟩:=outs_sound [.agg cs,.agg ds] 0 [true,false] (vs:=[v0,v1]) rfl (by simp) hn (by
  intro j v hj
  have hjl:j<2:=(List.getElem?_eq_some_iff.1 hj).1
  rw [hh _ (by omega)]
  exact (hvl1 j v hj).2.2) (by
  intro j cs' hj hbj
  have hj0:j=0:=by
   match j,hbj with
   | 0,_=>rfl
   | 1,h=>simp at h
   | n+2,h=>simp at h
  subst hj0
  have:cs'=cs:=by simpa using hj.symm
  subst this
  refine ⟨us,rfl,hrep.prims,fun i v hi=>?_⟩
  have hil:=(List.getElem?_eq_some_iff.1 hi).1
  have hul:=hrep.length
  rw [hh _ (by simp only [rt]; omega)]
  exact (hvl2 i v hi).2) P5
 have P7:=ret_rep P6 hul
 simp only at hret houts
 rw [hret,houts] at P7
 have fin:a'.defers=[]∧∃ v,(results fn a'.tmps).run P w'=.ok v w'∧∃ v_1 F' X',Ending.returned v=.returned v_1∧RepA w' lk0 F' X' (v_1::[v0,v1]) (ret::outs)∧(∀ b,F' b≤1)∧(∀ b,F' b=0∨X' b=0) ∧
   Grows w w'∧(∀ b,b<w.heap.size→F b=0→w'.heap[b]?=w.heap[b]?)∧(∀ b,F' b≠0→F b≠0∨w.heap.size≤b)∧(∀ b,X' b≠0→(X b≠0∨F b≠0∨w.heap.size≤b)∧b<w'.heap.size):=
  ⟨R4.dfr,_,run_results hrun,_,FP6,XP6,rfl,P7.rep.noLk lk0 hlk,P7.one,P7.dx3,P7.rel.grow,P7.rel.frame,P7.org,P7.orgx⟩
 rcases hx with rfl | rfl
 ·exact fin
 ·exact fin
theorem specK_c {f nt:Nat} {rs:List RV} {cmd:Cmd} (hm:P.follows .mixedOrders=true) (hc:compile P f=some (nt,rs,cmd)) (md:Modes) (ks:Nat) {cs ds outs:List AV} {ret:AV}
  (hlen:2≤nt) (hol:outs.length=2) (hcs:cs.length≤30) (hbx:cs.all (fun | .box _=>false | _=>true)=true)
  (h:∀ w:Wk,w.P=P→(w.md=md∧w.ks=ks∧w.Q=Fin rs [true,false] [.agg cs,.agg ds] ret outs) →
   C w cmd [] (mkV ks (initA 0 [true] [.agg cs]++initB 0 [true] [.agg cs]++[(1,.agg ds)]) (initA 0 [true] [.agg cs]++initB 0 [true] [.agg cs]++[(1,.agg ds)]) [])):SpecK P f cs ds ret outs:=by
 unfold compile at hc
 obtain ⟨fn,hf,hc⟩:=bind_some hc
 obtain ⟨c,hb,hc⟩:=bind_some hc
 obtain ⟨⟨h1,h2⟩,hc⟩:=ite_some hc
 obtain ⟨rs',hr,hc⟩:=bind_some hc
 obtain ⟨cmd',hcmd,hc⟩:=map_some hc
 cases hc
 refine specK_of_awp (ks:=ks) hf hb h1 h2 hlen hr hol hcs hbx hm hcmd (wpB_A (md:=md) cmd ?_ fun x E h=>h)
 rw [mkE_V ks]
 exact wpB_mono cmd (h ⟨P,md,ks,Fin rs [true,false] [.agg cs,.agg ds] ret outs⟩ rfl ⟨rfl,rfl,rfl⟩) fun x E hx=>by rw [T_nil] at hx; exact hx
end Go.Proofs.YtjmnolhflcjpgaaGreat.Awp
