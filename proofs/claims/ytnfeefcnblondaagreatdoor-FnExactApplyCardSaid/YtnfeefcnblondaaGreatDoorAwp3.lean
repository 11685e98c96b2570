/- A general law about the translated programs is proved here: what a function's code does to values that are trees of cells (part 3). Condition: none. -/
import Derived.Test.YtnfeefcnblondaaGreatDoorAwp2
import Derived.SizedLaws
import Derived.JoinedOf
import Derived.RowKit
import Derived.ChangeSame
import Derived.Handed
import Derived.Lay
set_option linter.unusedVariables false
set_option linter.unusedSimpArgs false
set_option maxRecDepth 100000
set_option maxHeartbeats 20000000
namespace Go.Proofs.YtnfeefcnblondaaGreatDoor.Awp
section
variable {P:Program} {w w':World} {B:Base} {hid hv:Nat->Value} {a:Act} {E:Env} {Fs Xs:Nat->aH} {FP XP:aH} {o:Oper}
def iH (E:Env):AV->Option (AV × Env)
 | .ref r e p st=>match p,E.f r with
  | [],.box cs=>if st.i=0/\st.s=0/\st.j=0/\e=(E.ep r).1 then some (.box cs,E.put r .undef) else none
  | _,_=>none
 | _=>none
inductive RV where
 | t (n:Nat)
 | c (n sz:Nat) (ag:Bool)
 deriving DecidableEq
def anv (E:Env):RV->Option (AV × Env)
 | .t n=>match iH E (E.f n) with
  | some g=>some g
  | none=>dR E (.t n)
 | .c n sz ag=>(iH E (E.f n)).bind fun g=>match g.1 with
  | .box cs=>if cs.length=sz then (oneOf cs ag).map fun x=>(x,g.2) else none
  | _=>none
def agD (E:Env):List RV->Option (List AV × Env)
 | []=>some ([],E)
 | t::l=>(anv E t).bind fun g=>(agD g.2 l).map fun y=>(g.1::y.1,y.2)
def alY (P:Program) (nt:Nat):List ResultVar->Option (List RV)
 | []=>some []
 | .tmp t::l=>if t<nt then (alY P nt l).map (.t t::·) else none
 | .cell t ty::l=>if t<nt then (oC P ty).bind fun s=>(ak7 P ty).bind fun ag=>(alY P nt l).map (.c t s ag::·) else none
def apx (tmps:Array Value):ResultVar->Sem Value
 | .tmp t=>pure (tmps.getD t undef)
 | .cell a t=>do loadVar t (<-asAddr (tmps.getD a undef))
def ahS:List AV->AV
 | [x]=>x
 | l=>.tup l
def cS (E:Env) (k:Nat):Nat->List AV->List AV
 | _,[]=>[]
 | j,.own _ _::cs=>E.f (rt k j)::cS E k (j+1) cs
 | j,c::cs=>uL c::cS E k (j+1) cs
def eO (E:Env):Nat->List Bool->List AV->List AV
 | _,_,[]=>[]
 | k,[],_::xs=>.undef::eO E (k+1) [] xs
 | k,b::bs,x::xs=>(if b then (match x with
   | .agg cs=>.agg (cS E k 0 cs)
   | _=>E.f (1000+k)) else .undef)::eO E (k+1) bs xs
def adg (rs:List RV) (bs:List Bool) (args:List AV) (ret:AV) (outs:List AV) (E:Env):Prop:=
 onO (agD E rs) fun q=>ahS q.1=ret/\eO q.2 0 bs args=outs/\dH (ret::outs)=true
theorem uO {t:Nat} {E E':Env} {x:AV} {Fs Xs:Nat->aH} {FP XP:aH} {vs:List Value} {xs:List AV} (ht:t<B.n) (P1:PR B hid w a E Fs Xs FP XP vs xs) (h:iH E (E.f t)=some (x,E')) :
  ∃ Fs' Xs' FP' XP',PR B hid w a E' Fs' Xs' FP' XP' (vs++[a.tmps.getD t undef]) (xs++[x]):=by
 have R:=P1.rel;have aq:=R.rep t;unfold iH at h;split at h
 case h_2=>cases h
 rename_i r e p st hq;split at h
 case h_2=>cases h
 rename_i cs jz;obtain⟨⟨h1,h2,h3,h4⟩,h⟩:=aC h;cases h;rw[hq] at aq;have ay:aM w (aI a.tmps hid) E r e []=some (some (aI a.tmps hid r)):=by
  unfold aM; rw[if_neg (by simp[fX]; omega),if_pos ⟨by simp[fX,h4],by rw[jz]; rfl,by rw[jz]; rfl⟩]; rfl
 have hb:∃ b,aI a.tmps hid r=.pointer (some ⟨b,0,none⟩):=by
  have aq:=R.rep r;rw[jz] at aq;generalize aI a.tmps hid r=v at aq;cases aq with
  | box _ F1 F2 _ X1 X2 b C ty fr _ _ _ hb hfr h1 h2 hF hX=>exact⟨b,rfl⟩
 obtain⟨b,hb⟩:=hb;have hv:aI a.tmps hid t=aI a.tmps hid r:=by
  generalize aI a.tmps hid t=v at aq ⊢;cases aq with
  | ref _ _ _ _ _ _ o _ _ _ ho hv _=>
   rw[ay] at ho;cases ho;obtain⟨ad,g1,g2⟩:=hv _ rfl;rw[g2,hb];rw[hb] at g1;simp only[hdr,Option.some.injEq] at g1;rw[<-g1,h1,h3];simp[Addr.add]
 obtain⟨Fs',Xs',FP',XP',P2⟩:=P1.move r;refine⟨Fs',Xs',FP',XP',?_⟩;rw[jz,<-hv] at P2;have:aI a.tmps hid t=a.tmps.getD t undef:=by unfold aI; rw[if_pos (by rw[R.size]; exact ht)]
 rw[this] at P2;exact P2
theorem agE {t:Nat} {E:Env} {g:AV × Env} {Fs Xs:Nat->aH} {FP XP:aH} {vs:List Value} {xs:List AV} (ht:t<B.n) (P1:PR B hid w a E Fs Xs FP XP vs xs) (h:anv E (.t t)=some g) :
  ∃ Fs' Xs' FP' XP',PR B hid w a g.2 Fs' Xs' FP' XP' (vs++[a.tmps.getD t undef]) (xs++[g.1]):=by
 simp only[anv] at h;split at h
 ·rename_i q hq;cases h;exact uO ht P1 hq
 ·obtain⟨Fs1,Xs1,FP1,XP1,P2⟩:=dN (x:=.tmp t) (x':=g.1) (E':=g.2) (.tmp t ht) P1 h;exact⟨Fs1,Xs1,FP1,XP1,P2⟩
theorem agF {t s:Nat} {ag:Bool} {ty:TypeId} {E:Env} {g:AV × Env} {Fs Xs:Nat->aH} {FP XP:aH} {vs:List Value} {xs:List AV} (ht:t<B.n) (hs:oC P ty=some s) (fq:ak7 P ty=some ag)
  (P1:PR B hid w a E Fs Xs FP XP vs xs) (h:anv E (.c t s ag)=some g) :
  ∃ v Fs' Xs' FP' XP',(apx a.tmps (.cell t ty)).run P w=.ok v w/\PR B hid w a g.2 Fs' Xs' FP' XP' (vs++[v]) (xs++[g.1]):=by
 simp only[anv] at h;obtain⟨q,hq,h⟩:=bind_some h;obtain⟨q1,q2⟩:=q;simp only at h;split at h
 case h_2=>cases h
 rename_i cs0 cs;obtain⟨hl,h⟩:=aC h;obtain⟨x,hx,rfl⟩:=map_some h;obtain⟨Fs',Xs',FP',XP',P2⟩:=uO ht P1 hq;obtain⟨A1,A2,Y1,Y2,r1,r2,eA,eY⟩:=RepA.split vs xs (by have:=P2.rep.length; simpa using this) P2.rep;generalize ip:a.tmps.getD t undef=vt at r2;cases r2 with
 | box _ F1 F2 _ X1 X2 b C ty' fr _ _ _ hb hfr h1 h2 hF hX=>
  obtain⟨v,au,dg⟩:=oR (P:=P) (w:=w) (ad:=⟨b,0,none⟩) (us:=C.toList) hs fq (by rw[h1.length]; exact hl) (by
   intro k v hk;have hk':C[k]?=some v:=by simpa using hk
   unfold Addr.add;by_cases e:k=0
   ·subst e; simp[World.cell?,hb,hk']
   ·simp[e,World.cell?,hb,hk']) h1 hx
  refine⟨v,Fs',Xs',fun c=>A1 c+F1 c,fun c=>Y1 c+X1 c,?_,?_⟩
  ·simp only[apx,Sem.run_bind,ip];simp[asAddr,au]
  ·exact P2.shrink (RepA.append r1 dg (fun _=>rfl) (fun _=>rfl)) (fun c=>by have:=eA c; have:=hF c; omega) (fun c=>by have:=eY c; have:=hX c; omega)
theorem xM:∀ {res:List ResultVar} {rs:List RV} {E E':Env} {l:List AV} {Fs Xs:Nat->aH} {FP XP:aH} {vs:List Value} {xs:List AV},alY P B.n res=some rs->PR B hid w a E Fs Xs FP XP vs xs->agD E rs=some (l,E') ->
  ∃ us Fs' Xs' FP' XP',(res.mapM (apx a.tmps)).run P w=.ok us w/\us.length=l.length/\PR B hid w a E' Fs' Xs' FP' XP' (vs++us) (xs++l):=by
 intro res;induction res with
 | nil=>
  intro rs E E' l Fs Xs FP XP vs xs hr P1 h;simp only[alY,Option.some.injEq] at hr;subst hr;simp only[agD,Option.some.injEq,Prod.mk.injEq] at h;obtain⟨rfl,rfl⟩:=h;exact⟨[],_,_,_,_,by simp,rfl,by simpa using P1⟩
 | cons r res ih=>
  intro rs E E' l Fs Xs FP XP vs xs hr P1 h;cases r with
  | tmp t=>
   simp only[alY] at hr;obtain⟨ht,hr⟩:=aC hr;obtain⟨rs',hr',rfl⟩:=map_some hr;simp only[agD] at h;obtain⟨g,hg,h⟩:=bind_some h;obtain⟨y,hy,h⟩:=map_some h;simp only[Prod.mk.injEq] at h;obtain⟨rfl,rfl⟩:=h;obtain⟨Fs1,Xs1,FP1,XP1,P2⟩:=agE ht P1 hg;obtain⟨us,Fs2,Xs2,FP2,XP2,ae,ac,P3⟩:=ih (l:=y.1) (E':=y.2) hr' P2 hy;exact⟨a.tmps.getD t undef::us,Fs2,Xs2,FP2,XP2,by simp only[lX4,Sem.run_bind,apx,Sem.run_pure,Result.andThen_ok,ae],by simp[ac],by simpa using P3⟩
  | cell t ty=>
   simp only[alY] at hr;obtain⟨ht,hr⟩:=aC hr;obtain⟨s,hs,hr⟩:=bind_some hr;obtain⟨ag,fq,hr⟩:=bind_some hr;obtain⟨rs',hr',rfl⟩:=map_some hr;simp only[agD] at h;obtain⟨g,hg,h⟩:=bind_some h;obtain⟨y,hy,h⟩:=map_some h;simp only[Prod.mk.injEq] at h;obtain⟨rfl,rfl⟩:=h;obtain⟨v,Fs1,Xs1,FP1,XP1,hv,P2⟩:=agF ht hs fq P1 hg;obtain⟨us,Fs2,Xs2,FP2,XP2,ae,ac,P3⟩:=ih (l:=y.1) (E':=y.2) hr' P2 hy;exact⟨v::us,Fs2,Xs2,FP2,XP2,by simp only[lX4,Sem.run_bind,hv,Sem.run_pure,Result.andThen_ok,ae],by simp[ac],by simpa using P3⟩
theorem abd (E:Env) (k q:Nat) (y:AV):∀ (cs:List AV) (j:Nat),(∀ i,j<=i->rt k i≠q)->cS (E.put q y) k j cs=cS E k j cs:=by
 intro cs;induction cs with
 | nil=>intro j _; rfl
 | cons c cs ih=>
  intro j h;cases c with
  | own s es=>simp only[cS]; rw[ih _ fun i hi=>h i A7,bX (h j (lE1 _))]
  | _=>simp only[cS]; rw[ih _ fun i hi=>h i A7]
theorem abe (E:Env) (q:Nat) (y:AV):∀ (xs:List AV) (k:Nat) (bs:List Bool),k+xs.length<=32->(q-1000)%32<k->1000<=q->eO (E.put q y) k bs xs=eO E k bs xs:=by
 intro xs;induction xs with
 | nil=>intro k bs _ _ _; cases bs <;> rfl
 | cons x xs ih=>
  intro k bs hk hq h1;simp only[lZ] at hk;cases bs with
  | nil=>simp only[eO]; rw[ih _ _ A7 A7 h1]
  | cons b bs=>
   simp only[eO];rw[ih _ _ A7 A7 h1];congr 1;cases b with
   | false=>rfl
   | true=>
    simp only[lQ];cases x with
    | agg cs=>simp only; rw[abd]; intro i _ e; subst e; simp only[rt] at hq; omega
    | _=>simp only; rw[bX A7]
theorem aiZ (k:Nat) (hk:k<32) (hn:B.n<=1000):∀ (cs:List AV) (j:Nat) (zs:List Value) {E:Env} {Fs Xs:Nat->aH} {FP XP:aH} {us:List Value} {xs:List AV},RepA w lk0 (fun _=>0) (fun _=>0) zs (cs.map uL) ->
  (∀ i v,zs[i]?=some v->hid (rt k (j+i))=v)->PR B hid w a E Fs Xs FP XP us xs ->
  ∃ E' Fs' Xs' FP' XP',PR B hid w a E' Fs' Xs' FP' XP' (us++zs) (xs++cS E k j cs)/\∀ (ys:List AV) (k':Nat) (bs:List Bool),k' + ys.length<=32->k<k'->eO E' k' bs ys=eO E k' bs ys:=by
 intro cs;induction cs with
 | nil=>
  intro j zs E Fs Xs FP XP us xs h _ P1;have:=h.length;cases zs with
  | nil=>exact⟨E,Fs,Xs,FP,XP,by simpa [cS] using P1,fun _ _ _ _ _=>rfl⟩
  | cons z zs=>simp at this
 | cons c cs ih=>
  intro j zs E Fs Xs FP XP us xs h hv P1;have:=h.length;cases zs with
  | nil=>simp at this
  | cons z zs=>
   obtain⟨A1,A2,Y1,Y2,q1,q2,eA,eY⟩:=RepA.uncons h;have q2':=q2.foot (G:=fun _=>0) (Y:=fun _=>0) (fun b=>by have:=eA b; omega) (fun b=>by have:=eY b; omega);have hv':∀ i v,zs[i]?=some v->hid (rt k (j+1+i))=v:=fun i v hi=>by
    have:=hv (i+1) v (by simpa using hi);rw[show j+1+i=j+(i+1) by omega]; exact this
   have hz:hid (rt k j)=z:=hv 0 z rfl;have copy:cS E k j (c::cs)=uL c::cS E k (j+1) cs->∃ E' Fs' Xs' FP' XP',PR B hid w a E' Fs' Xs' FP' XP' (us++z::zs) (xs++cS E k j (c::cs))/\∀ (ys:List AV) (k':Nat) (bs:List Bool),k' + ys.length<=32->k<k'->eO E' k' bs ys=eO E k' bs ys:=by
    intro he;obtain⟨XP',P2⟩:=P1.copy (q1.lk0 (aM w (aI a.tmps hid) E)) (fun b=>by have:=eA b; first | omega | (dsimp only; omega) | (dsimp only at *; omega)) (fun b hb=>by have:=eY b; first | omega | (dsimp only; omega) | (dsimp only at *; omega));obtain⟨E',Fs',Xs',FP',XP',P3,ho⟩:=ih (j+1) zs q2' hv' P2;rw[he];exact⟨E',Fs',Xs',FP',XP',by simpa using P3,ho⟩
   cases c with
   | own s es=>
    obtain⟨Fs1,Xs1,FP1,XP1,P2⟩:=P1.move (rt k j);rw[pG (by rw[P1.rel.size]; simp only[rt]; omega),hz] at P2;obtain⟨E',Fs',Xs',FP',XP',P3,ho⟩:=ih (j+1) zs q2' hv' P2;rw[abd _ _ _ _ _ _ (fun i hi e=>by simp only[rt] at e; omega)] at P3;refine⟨E',Fs',Xs',FP',XP',by simpa [cS] using P3,fun ys k' bs h1 h2=>?_⟩;rw[ho ys k' bs h1 h2,abe _ _ _ _ _ _ h1 B7 B7]
   | _=>exact copy rfl
theorem xN:∀ (ys:List AV) (k:Nat) (bs:List Bool) {E:Env} {Fs Xs:Nat->aH} {FP XP:aH} {us:List Value} {xs:List AV} {vs:List Value},vs.length=ys.length->k+ys.length<=32->B.n<=1000 ->
  (∀ j v,vs[j]?=some v->hid (1000+(k+j))=v) ->
  (∀ (j:Nat) (cs:List AV),ys[j]?=some (AV.agg cs)->bs[j]?=some true->∃ zs:List Value,vs[j]?=some (Value.agg zs.toArray)/\RepA w lk0 (fun _=>0) (fun _=>0) zs (cs.map uL)/\∀ i v,zs[i]?=some v->hid (rt (k+j) i)=v) ->
  PR B hid w a E Fs Xs FP XP us xs->∃ E' Fs' Xs' FP' XP',PR B hid w a E' Fs' Xs' FP' XP' (us++vs) (xs++eO E k bs ys):=by
 intro ys;induction ys with
 | nil=>
  intro k bs E Fs Xs FP XP us xs vs hv _ _ _ _ P1;cases vs with
  | nil=>exact⟨E,Fs,Xs,FP,XP,by cases bs <;> simpa [eO] using P1⟩
  | cons v vs=>cases hv
 | cons y ys ih=>
  intro k bs E Fs Xs FP XP us xs vs hv hk hn hh hc P1;simp only[lZ] at hk;cases vs with
  | nil=>cases hv
  | cons v vs=>
   have mo:=hh 0 v rfl;have bj:∀ j u,vs[j]?=some u->hid (1000+(k+1+j))=u:=fun j u hj=>by
    have:=hh (j+1) u (by simpa using hj);rw[show k+1+j=k+(j+1) by omega]; exact this
   have hcn:∀ bs':List Bool,(∀ j,bs'[j]?=some true->bs[j+1]?=some true)->∀ (j:Nat) (cs:List AV),ys[j]?=some (AV.agg cs)->bs'[j]?=some true->∃ zs:List Value,vs[j]?=some (Value.agg zs.toArray)/\RepA w lk0 (fun _=>0) (fun _=>0) zs (cs.map uL)/\∀ i v,zs[i]?=some v->hid (rt (k+1+j) i)=v:=fun bs' hb j cs hj la=>by
    obtain⟨zs,z1,z2,z3⟩:=hc (j+1) cs (by simpa using hj) (hb j la);exact⟨zs,by simpa using z1,z2,fun i v hi=>by rw[show k+1+j=k+(j+1) by omega]; exact z3 i v hi⟩
   have undef:∀ bs':List Bool,(∀ j,bs'[j]?=some true->bs[j+1]?=some true)->∃ E' Fs' Xs' FP' XP',PR B hid w a E' Fs' Xs' FP' XP' (us++v::vs) (xs++.undef::eO E (k+1) bs' ys):=by
    intro bs' hb;have hu:RepA w (aM w (aI a.tmps hid) E) (fun _=>0) (fun _=>0) [v] [.undef]:=.undef _ _ _ _ _ RepA.znil;obtain⟨XP',P2⟩:=P1.copy hu (fun _=>rfl) (fun b hb=>absurd rfl hb);obtain⟨E',Fs',Xs',FP',XP',P3⟩:=ih (k+1) bs' (vs:=vs) (by simpa using hv) A7 hn bj (hcn bs' hb) P2;exact⟨E',Fs',Xs',FP',XP',by simpa using P3⟩
   have root:∀ bs':List Bool,(∀ j,bs'[j]?=some true->bs[j+1]?=some true)->∃ E' Fs' Xs' FP' XP',PR B hid w a E' Fs' Xs' FP' XP' (us++v::vs) (xs++E.f (1000+k)::eO E (k+1) bs' ys):=by
    intro bs' hb;obtain⟨Fs1,Xs1,FP1,XP1,P2⟩:=P1.move (1000+k);rw[pG (by rw[P1.rel.size]; omega),show hid (1000+k)=v from mo] at P2;obtain⟨E',Fs',Xs',FP',XP',P3⟩:=ih (k+1) bs' (vs:=vs) (by simpa using hv) A7 hn bj (hcn bs' hb) P2;rw[abe _ _ _ _ _ _ A7 A7 A7] at P3;exact⟨E',Fs',Xs',FP',XP',by simpa using P3⟩
   cases bs with
   | nil=>exact undef [] (fun j h=>by simp at h)
   | cons b bs=>
    cases b with
    | false=>exact undef bs (fun j h=>by simpa using h)
    | true=>
     cases y with
     | agg cs=>
      obtain⟨zs,z1,z2,z3⟩:=hc 0 cs rfl rfl;simp only[lC4,Option.some.injEq] at z1;subst z1;obtain⟨E1,Fs1,Xs1,FP1,XP1,P2,ho⟩:=aiZ (B:=B) k A7 hn cs 0 zs z2 (fun i v hi=>by rw[lL2]; exact z3 i v hi) P1;have bk:zs.length=(cS E k 0 cs).length:=by
       have:=P2.rep.length;have:=P1.rep.length;simp only[lU] at *;omega
      have P3:=P2.rerep (RepA.close_agg (us:=us) (ys:=xs) (zs:=zs) (vs:=[]) (xs:=[]) P1.rep.length bk (by simpa using P2.rep));obtain⟨E',Fs',Xs',FP',XP',P4⟩:=ih (k+1) bs (vs:=vs) (by simpa using hv) A7 hn bj (hcn bs fun j h=>by simpa using h) P3;rw[ho _ _ _ A7 A7] at P4;exact⟨E',Fs',Xs',FP',XP',by simpa [eO] using P4⟩
     | _=>exact root bs (fun j h=>by simpa using h)
end
section
variable {P:Program}
def abf:List Value->Value
 | [x]=>x
 | l=>.tuple l.toArray
theorem uP {w:World} {fn:Func} {us:List Value} {tmps:Array Value} (ae:(fn.results.toList.mapM (apx tmps)).run P w=.ok us w) :
  (results fn tmps).run P w=.ok (abf us) w:=by
 have e:results fn tmps=(do let vs <-fn.results.mapM (apx tmps); pure (if h:vs.size=1 then vs[0] else .tuple vs)):=by
  unfold results;congr 1
 rw[e];simp only[Sem.run_bind,Array.mapM_eq_mapM_toList,Sem.run_map];rw[ae];simp only[Result.andThen_ok,Sem.run_pure]
 match us with
 | []=>simp[abf]
 | [x]=>simp[abf]
 | x::y::l=>simp[abf]
theorem ai0 {B:Base} {hid:Nat->Value} {w:World} {a:Act} {E:Env} {Fs Xs:Nat->aH} {FP XP:aH} {us vs:List Value} {xs ys:List AV} (P1:PR B hid w a E Fs Xs FP XP (us++vs) (xs++ys)) (hl:us.length=xs.length) :
  PR B hid w a E Fs Xs FP XP (abf us::vs) (ahS xs::ys):=by
 match us,xs,hl with
 | [u],[x],_=>exact P1
 | [],[],_=>
  refine P1.rerep ?_;have:=P1.rep;simp only[lI1] at this;exact .tup _ (fun _=>0) FP _ (fun _=>0) XP [] [] _ _ RepA.znil this (fun _=>by omega) (fun _=>by omega)
 | u::u'::us,x::x'::xs,hl=>
  refine P1.rerep ?_;obtain⟨A1,A2,Y1,Y2,q1,q2,eA,eY⟩:=RepA.split (u::u'::us) (x::x'::xs) (by simpa using hl) P1.rep;exact .tup _ A1 A2 _ Y1 Y2 _ _ _ _ q1 q2 eA eY
theorem xO (k:Nat):∀ (cs:List AV) (j:Nat),∀ p ∈ b6 k j cs,∃ i,j<=i/\p.1=rt k i:=by
 intro cs;induction cs with
 | nil=>intro j p hp; simp[b6] at hp
 | cons c cs ih=>
  intro j p hp;cases c with
  | own s es=>
   simp only[b6,lN] at hp;rcases hp with rfl | hp
   ·exact⟨j,lE1 _,rfl⟩
   ·obtain⟨i,h1,h2⟩:=ih _ p hp; exact⟨i,by omega,h2⟩
  | _=>simp only[b6] at hp; obtain⟨i,h1,h2⟩:=ih _ p hp; exact⟨i,by omega,h2⟩
theorem ai1 (k:Nat):∀ (cs:List AV) (j i:Nat) (s:Nat) (es:List (List TV)),cs[i]?=some (.own s es)->dC (b6 k j cs) (rt k (j+i))=.own s es:=by
 intro cs;induction cs with
 | nil=>intro j i s es h; simp at h
 | cons c cs ih=>
  intro j i s es h;have nx:∀ i',i=i' + 1->dC (b6 k (j+1) cs) (rt k (j+i))=.own s es:=fun i' e=>by
   subst e;have:=ih (j+1) i' s es (by simpa using h);rw[show j+(i' + 1)=j+1+i' by omega]; exact this
  cases i with
  | zero=>simp at h; subst h; simp[b6,dC]
  | succ i=>
   cases c with
   | own s' es'=>simp only[b6,dC]; rw[lO B7]; exact nx i rfl
   | _=>simp only[b6]; exact nx i rfl
theorem qY {l m:List (Nat × AV)} {q:Nat} (h:pN l q):dC (l++m) q=dC m q:=by
 induction l with
 | nil=>rfl
 | cons p l ih=>
  obtain⟨k,x⟩:=p;simp only[lD2,dC];rw[lO (h (k,x) A8)];exact ih fun p hp=>h p (by simp[hp])
theorem qZ:∀ (xs:List AV) (bs:List Bool) (k:Nat),∀ p ∈ bO k bs xs,∃ i,i<xs.length/\((bs[i]?=some true/\(p.1=1000+(k+i)\/∃ c,p.1=rt (k+i) c))\/(bs[i]?≠some true/\p.1=k+i)):=by
 intro xs;induction xs with
 | nil=>intro bs k p hp; cases bs <;> simp[bO] at hp
 | cons x xs ih=>
  intro bs k p hp;have tl:∀ b bs,p ∈ bO (k+1) bs xs->∃ i,i<(x::xs).length/\(((b::bs)[i]?=some true/\(p.1=1000+(k+i)\/∃ c,p.1=rt (k+i) c))\/((b::bs)[i]?≠some true/\p.1=k+i)):=fun b bs hp=>by
   obtain⟨i,h1,h2⟩:=ih bs (k+1) p hp;refine⟨i+1,by simp; omega,?_⟩;rw[show k+(i+1)=k+1+i by omega];simpa using h2
  cases bs with
  | nil=>
   simp only[bO,lN] at hp;rcases hp with rfl | hp
   ·exact⟨0,by simp,.inr ⟨by simp,rfl⟩⟩
   ·obtain⟨i,h1,h2⟩:=ih [] (k+1) p hp;refine⟨i+1,by simp; omega,?_⟩;rcases h2 with ⟨h2,h3⟩ | ⟨h2,h3⟩
    ·simp at h2
    ·exact .inr ⟨by simp,by omega⟩
  | cons b bs=>
   cases b with
   | false=>
    simp only[bO,lK4,lN1,lN] at hp;rcases hp with rfl | hp
    ·exact⟨0,by simp,.inr ⟨by simp,rfl⟩⟩
    ·exact tl false bs hp
   | true=>
    cases x with
    | agg cs=>
     simp only[bO,lQ,lL] at hp;rcases hp with hp | hp
     ·obtain⟨i,_,hi⟩:=xO k cs 0 p hp;exact⟨0,by simp,.inl ⟨rfl,.inr ⟨i,hi⟩⟩⟩
     ·exact tl true bs hp
    | _=>
     simp only[bO,lQ,lN] at hp;rcases hp with rfl | hp
     ·exact⟨0,by simp,.inl ⟨rfl,.inl rfl⟩⟩
     ·exact tl true bs hp
theorem adh:∀ {bs:List Bool} {xs:List AV} {j:Nat} {cs:List AV},d9 bs xs=true->xs[j]?=some (AV.agg cs)->bs[j]?=some true->cs.length<=30:=by
 intro bs;induction bs with
 | nil=>intro xs j cs _ _ h; simp at h
 | cons b bs ih=>
  intro xs j cs h hx hb;cases xs with
  | nil=>simp at hx
  | cons x xs=>
   cases j with
   | zero=>
    simp at hx hb;subst hx hb;simp only[d9,lM,decide_eq_true_eq] at h;exact h.1
   | succ j=>
    refine ih (xs:=xs) (j:=j) ?_ (by simpa using hx) (by simpa using hb);cases b with
    | true=>simp only[d9,lM] at h; exact h.2
    | false=>simpa [d9] using h
theorem ai2 {xs:List AV} {bs:List Bool} {k q:Nat} (hk:k+xs.length<=32) (hq:1000<=q/\(q-1000)%32<k):pN (bO k bs xs) q:=by
 intro p hp e;obtain⟨i,h1,h2⟩:=qZ xs bs k p hp;rcases h2 with ⟨_,h3 | ⟨c,h3⟩⟩ | ⟨_,h3⟩
 ·omega
 ·simp only[rt] at h3; omega
 ·omega
theorem abg:∀ (xs:List AV) (bs:List Bool) (k j:Nat) (x:AV),xs[j]?=some x->bs[j]?=some true->k+xs.length<=32 ->
  (x.isRoot=true->dC (bO k bs xs) (1000+(k+j))=x)/\(∀ cs,x=.agg cs->∀ i s es,cs[i]?=some (.own s es)->dC (bO k bs xs) (rt (k+j) i)=.own s es)/\pN (bO k bs xs) (k+j):=by
 intro xs;induction xs with
 | nil=>intro bs k j x h; simp at h
 | cons y xs ih=>
  intro bs k j x h hb hk;have ea:j<(y::xs).length:=(lG.1 h).1;have bp:pN (bO k bs (y::xs)) (k+j):=by
   intro p hp e;obtain⟨i,h1,h2⟩:=qZ (y::xs) bs k p hp;rcases h2 with ⟨h2,h3 | ⟨c,h3⟩⟩ | ⟨h2,h3⟩
   ·omega
   ·simp only[rt] at h3; omega
   ·have:i=j:=by omega
    subst this;exact h2 hb
  simp only[lZ] at hk ea;cases bs with
  | nil=>simp at hb
  | cons b bs=>
   cases j with
   | zero=>
    simp at h hb;subst h hb;refine⟨fun hr=>?_,fun cs hcs i s es hi=>?_,bp⟩
    ·cases y <;> first | (simp[bO,dC]; done) | cases hr
    ·subst hcs;simp only[bO,lQ,lT3];rw[tO (ai2 A7 B7)];have:=ai1 k cs 0 i s es hi
     rwa [lL2] at this
   | succ j=>
    obtain⟨k1,k2,_⟩:=ih bs (k+1) j x (by simpa using h) (by simpa using hb) A7;rw[show k+1+j=k+(j+1) by omega] at k1 k2;have skip:∀ q,1000<=q->(q-1000)%32=k+(j+1)->dC (bO k (b::bs) (y::xs)) q=dC (bO (k+1) bs xs) q:=by
     intro q h1 h2;cases b with
     | false=>simp only[bO]; exact qY (l:=[(k,y)]) (by intro p hp; simp at hp; subst hp; (try dsimp only); omega)
     | true=>
      cases y with
      | agg cs=>
       simp only[bO,lQ];exact qY (by intro p hp; obtain⟨i,_,hi⟩:=xO k cs 0 p hp; rw[hi]; simp only[rt]; omega)
      | _=>simp only[bO,if_true]; exact qY (l:=[(1000+k,_)]) (by intro p hp; simp at hp; subst hp; (try dsimp only); omega)
    refine⟨fun hr=>?_,fun cs hcs i s es hi=>?_,bp⟩
    ·rw[skip _ A7 A7]; exact k1 hr
    ·rw[skip _ B7 B7]; exact k2 cs hcs i s es hi
theorem adi {f:Nat} {fn:Func} {c:Code} {cmd:Cmd} {args outs:List AV} {ret:AV} {bs:List Bool} {ks:Nat} {rs:List RV} (hf:P.funcs[f]?=some fn) (hb:fn.body=some c)
  (mr:(fn.name == "runtime.NumGoroutine")=false) (hn:fn.ntmps≤1000) (ac:args.length≤fn.ntmps∧args.length≤32) (ai:alY P fn.ntmps fn.results.toList=some rs) (eo:outs.length=args.length)
  (ba:d9 bs args=true) (hD:P.follows .mixedOrders=true) (hc:l3 P fn.ntmps c=some cmd)
  (h:awp P ks cmd (fun x E'=>(x=.r\/x=.n)/\adg rs bs args ret outs E') (mkE (bO 0 bs args++eN 0 bs args) [])):mU P f args ret outs:=by
 refine⟨⟨fn,hf,by rw[hb]; rfl,mr⟩,eo,?_⟩;intro w vs F X aq dp ez mu;have bu:=aq.length
 let B:Base:=⟨w,F,X,fn.ntmps⟩
 let hv:Nat->Value:=apw vs
 let a:Act:={ tmps:=vs.toArray++Array.replicate (fn.ntmps-vs.toArray.size) undef,defers:=[] }
 have cq:a.tmps.size=B.n:=by simp[a,B]; omega
 have ga:∀ j v,vs[j]?=some v->aI a.tmps hv (0+j)=v/\aI a.tmps hv (1000+(0+j))=v:=by
  intro j v hj;have ea:=(lG.1 hj).1;rw[lL2];refine⟨?_,?_⟩
  ·unfold aI;rw[lK (by rw[cq]; show j<fn.ntmps; omega)];simp[a,Array.getElem?_append,ea,hj];rw[lF ea] at hj;simpa using hj
  ·rw[pG (by rw[cq]; show fn.ntmps<=_; omega)];exact zL A7 hj
 have fc:∀ j us i v,vs[j]?=some (.agg (us:List Value).toArray)->us[i]?=some v->aI a.tmps hv (rt (0+j) i)=v/\hv (rt (0+j) i)=v:=by
  intro j us i v hj hi;have ea:=(lG.1 hj).1;have:=abc (vs:=vs) (k:=j) A7 hj hi;rw[lL2];exact⟨by rw[pG (by rw[cq]; show fn.ntmps<=_; simp only[rt]; omega)]; exact this,this⟩
 have lc:∀ (j:Nat) (cs:List AV) (w':World),args[j]?=some (AV.agg cs)->∃ zs:List Value,vs[j]?=some (Value.agg zs.toArray)/\RepA w' lk0 (fun _=>0) (fun _=>0) zs (cs.map uL):=by
  intro j cs w' hj;obtain⟨v,F1,F2,X1,X2,au,h1,_⟩:=RepA.at aq hj;cases h1 with
  | agg _ A1 A2 _ Y1 Y2 zs _ _ _ g1 _ _ _=>exact⟨zs,au,g1.prims⟩
 have R0:Rel B hv w a (mkE [] []) (fun _ _=>0) (fun _ _=>0):=
  ⟨cq,rfl,fun t=>.undef _ _ _ _ _ RepA.znil,fun _ _=>by omega,fun _ _ _ _=>.inl rfl,fun _ _ _=>.inl rfl,Grows.refl _,fun _ _ _=>rfl,fun _ _ h=>absurd rfl h,fun _ _ h=>absurd rfl h,fun _ _ h=>absurd rfl h⟩
 have P0:PR B hv w a (mkE [] []) (fun _ _=>0) (fun _ _=>0) F X vs args:=
  ⟨R0,aq.lk0 _,dp,fun _ _=>.inr rfl,fun _ _=>.inr rfl,fun _ _=>.inr rfl,ez,fun b hb=>.inl hb,fun b hb=>⟨.inl hb,mu b hb⟩⟩
 obtain⟨Fs1,Xs1,FP1,XP1,P1⟩:=uM (B:=B) args bs 0 vs [] A7 (by show 0+args.length<=fn.ntmps; omega) hn A8 ga (fun j us i v hj hi=>(fc j us i v hj hi).1) P0;obtain⟨Fs2,Xs2,R2⟩:=uN (B:=B) args bs 0 (bO 0 bs args) A7 (by show 0+args.length<=fn.ntmps; omega) hn (by
  intro j x hj la;obtain⟨k1,k2,k3⟩:=abg args bs 0 j x hj la A7;have ea:j<vs.length:=by have:=(lG.1 hj).1; omega
  obtain⟨v,hv'⟩:∃ v,vs[j]?=some v:=⟨_,lF ea⟩
  obtain⟨e1,e2⟩:=ga j v hv';refine⟨fun hr=>⟨k1 hr,by rw[e1,e2]⟩,fun cs hcs=>?_,k3⟩;subst hcs;obtain⟨zs,z1,z2⟩:=lc j cs w hj;rw[hv'] at z1; cases z1;exact⟨zs,e1,z2,k2 cs rfl,fun i v hi=>(fc j zs i v hv' hi).1⟩) ba (by simpa using P1.rel)
 have G:bC B hv w a (mkE (bO 0 bs args++eN 0 bs args) []):=⟨hv,Fs2,Xs2,R2,fun _ _=>rfl⟩
 refine calls_of_wp hf hb (abb (B:=B) hn hD ks c cmd _ _ _ a w hc ?_ h G);rintro x E' a' w' ⟨hx,ja⟩ G';obtain⟨⟨l,E2⟩,hq,jb,fd,ay⟩:=ja;obtain⟨hid,Fs3,Xs3,R3,hh⟩:=G';obtain⟨us,Fs4,Xs4,FP4,XP4,ae,mj,P4⟩:=xM (l:=l) (E':=E2) ai (PR.nil R3) hq;simp only[lI1] at P4;obtain⟨E5,Fs5,Xs5,FP5,XP5,P5⟩:=xN args 0 bs (vs:=vs) bu A7 hn (by
  intro j v hj;have ea:=(lG.1 hj).1;rw[hh _ A7,lL2];exact zL A7 hj) (by
  intro j cs hj la;obtain⟨zs,z1,z2⟩:=lc j cs w' hj;refine⟨zs,z1,z2,fun i v hi=>?_⟩;have ea:=(lG.1 z1).1;have nv:i<30:=by
   have nv:=(lG.1 hi).1;have mf:zs.length=cs.length:=by have:=z2.length; simpa using this
   have:=adh ba hj la;omega
  rw[hh _ B7];exact(fc j zs i v z1 hi).2) P4
 have P6:=ai0 P5 mj;simp only at jb fd;rw[jb,fd] at P6;have fin:a'.defers=[]/\∃ v,(results fn a'.tmps).run P w'=.ok v w'/\∃ v_1 F' X',Ending.returned v=.returned v_1/\RepA w' lk0 F' X' (v_1::vs) (ret::outs)/\(∀ b,F' b<=1)/\(∀ b,F' b=0\/X' b=0) /\
   Grows w w'/\(∀ b,b<w.heap.size->F b=0->w'.heap[b]?=w.heap[b]?)/\(∀ b,F' b≠0->F b≠0\/w.heap.size<=b)/\(∀ b,X' b≠0->(X b≠0\/F b≠0\/w.heap.size<=b)/\b<w'.heap.size):=
  ⟨R3.dfr,_,uP ae,_,FP5,XP5,rfl,P6.rep.noLk lk0 ay,P6.one,P6.dx3,P6.rel.grow,P6.rel.frame,P6.org,P6.orgx⟩
 rcases hx with rfl | rfl
 ·exact fin
 ·exact fin
end
section
def i8 (P:Program) (f:Nat):Option (Nat × List RV × Cmd):=
 (P.funcs[f]?).bind fun fn=>fn.body.bind fun c=>if (fn.name == "runtime.NumGoroutine")=false∧fn.ntmps≤1000 then
  (alY P fn.ntmps fn.results.toList).bind fun rs=>(l3 P fn.ntmps c).map fun cmd=>(fn.ntmps,rs,cmd) else none
variable {P:Program}
def aqM (P:Program) (nt:Nat) (rs:List RV) (ks:Nat) (bs:List Bool) (cmd:Cmd) (args:List AV) (ret:AV) (outs:List AV):Prop:=
 awp P ks cmd (fun x E'=>(x=.r\/x=.n)/\adg rs bs args ret outs E') (mkE (bO 0 bs args++eN 0 bs args) [])
theorem aoy {f nt:Nat} {rs:List RV} {cmd:Cmd} (hm:P.follows .mixedOrders=true) (hc:i8 P f=some (nt,rs,cmd)) (ks:Nat) (bs:List Bool) {args outs:List AV} {ret:AV}
  (ac:args.length<=nt/\args.length<=32) (eo:outs.length=args.length) (ba:d9 bs args=true) (h:aqM P nt rs ks bs cmd args ret outs):mU P f args ret outs:=by
 unfold i8 at hc;obtain⟨fn,hf,hc⟩:=bind_some hc;obtain⟨c,hb,hc⟩:=bind_some hc;obtain⟨⟨h1,h2⟩,hc⟩:=aC hc;obtain⟨rs',hr,hc⟩:=bind_some hc;obtain⟨cmd',mw,hc⟩:=map_some hc;cases hc;exact adi hf hb h1 h2 ac hr eo ba hm mw h
theorem abh {i:I} {K:Env->Prop} {E:Env} (h:qR P i K E):∃ E',K E'/\∀ K':Env->Prop,K' E'->qR P i K' E:=by
 have sp:∀ {d f xs ms} {E:Env},fE P d f xs ms K E->∃ E',K E'/\∀ K':Env->Prop,K' E'->fE P d f xs ms K' E:=by
  rintro d f xs ms E ⟨pr,hp,ret,outs,hS,hx,E1,hb,hK⟩;exact⟨_,hK,fun K' h'=>⟨pr,hp,ret,outs,hS,hx,E1,hb,h'⟩⟩
 cases i with
 | call d f xs=>
  rcases h with ⟨W,ms,h⟩ | ⟨ms,x,y,k1,k2,h⟩
  ·obtain⟨E',h1,h2⟩:=sp h;exact⟨E',h1,fun K' h'=>.inl ⟨W,ms,h2 K' h'⟩⟩
  ·obtain⟨E',h1,h2⟩:=oN h;exact⟨E',h2,fun K' h'=>.inr ⟨ms,x,y,k1,k2,iS (fun E1 (e:E1=E')=>e ▸ h') h1⟩⟩
 | callv d x xs=>
  simp only[qR] at h ⊢;split at h
  ·rename_i f caps hz;obtain⟨ms,h1,h2,h3⟩:=h;obtain⟨E',h4,h5⟩:=sp h3;refine⟨E',h4,fun K' h'=>?_⟩;exact⟨ms,h1,h2,h5 K' h'⟩
  ·exact h.elim
 | _=>obtain⟨E',h1,h2⟩:=h; exact⟨E',h2,fun K' h'=>⟨E',h1,h'⟩⟩
theorem abi {i:I} {K:List M->Env->Prop} {E:Env} (h:wQ P i K E):∃ ms E',K ms E'/\∀ K':List M->Env->Prop,K' ms E'->wQ P i K' E:=by
 have sp:∀ {d f xs ms} {K:Env->Prop},fE P d f xs ms K E->∃ E',K E'/\∀ K':Env->Prop,K' E'->fE P d f xs ms K' E:=by
  rintro d f xs ms K ⟨pr,hp,ret,outs,hS,hx,E1,hb,hK⟩;exact⟨_,hK,fun K' h'=>⟨pr,hp,ret,outs,hS,hx,E1,hb,h'⟩⟩
 cases i with
 | call d f xs=>
  obtain⟨ms,h | ⟨x,y,k1,k2,h⟩⟩:=h
  ·obtain⟨E',h1,h2⟩:=sp h;exact⟨ms,E',h1,fun K' h'=>⟨ms,.inl (h2 _ h')⟩⟩
  ·obtain⟨E',h1,h2⟩:=oN h;exact⟨ms,E',h2,fun K' h'=>⟨ms,.inr ⟨x,y,k1,k2,iS (fun E1 (e:E1=E')=>e ▸ h') h1⟩⟩⟩
 | callv d x xs=>
  simp only[wQ] at h ⊢;split at h
  ·rename_i f caps hz;obtain⟨ms,h1,h2,h3⟩:=h;obtain⟨E',h4,h5⟩:=sp h3;refine⟨ms,E',h4,fun K' h'=>?_⟩;exact⟨ms,h1,h2,h5 _ h'⟩
  ·exact h.elim
 | _=>obtain⟨E',h1,h2⟩:=h; exact⟨[],E',h2,fun K' h'=>⟨E',h1,h'⟩⟩
theorem alZ:∀ {is:List GI} {K:Env->Prop} {E:Env},ahR P is K E->∃ E',K E'/\∀ K':Env->Prop,K' E'->ahR P is K' E:=by
 intro is;induction is with
 | nil=>intro K E h; exact⟨E,h,fun K' h'=>h'⟩
 | cons g l ih=>
  intro K E h;simp only[ahR] at h ⊢;cases hg:g.g with
  | none=>
   rw[hg] at h;obtain⟨E1,h1,h2⟩:=abh h;obtain⟨E',h3,h4⟩:=ih h1;exact⟨E',h3,fun K' h'=>h2 _ (h4 K' h')⟩
  | some q=>
   obtain⟨t,b⟩:=q;rw[hg] at h;rcases h with ⟨c,hc,k1,k2⟩ | ⟨hc,k2⟩
   ·by_cases e:c=b
    ·obtain⟨E1,h1,h2⟩:=abh (k1 e);obtain⟨E',h3,h4⟩:=ih h1;exact⟨E',h3,fun K' h'=>.inl ⟨c,hc,fun _=>h2 _ (h4 K' h'),fun n=>absurd e n⟩⟩
    ·obtain⟨E',h3,h4⟩:=ih (k2 e);exact⟨E',h3,fun K' h'=>.inl ⟨c,hc,fun n=>absurd n e,fun _=>h4 K' h'⟩⟩
   ·obtain⟨E',h3,h4⟩:=ih k2;exact⟨E',h3,fun K' h'=>.inr ⟨hc,h4 K' h'⟩⟩
theorem abj {bs:List Nat}:∀ {is:List GI} {acc:List Rcd} {K:Env->Prop} {E:Env},mV P bs acc is K E->∃ E',K E'/\∀ K':Env->Prop,K' E'->mV P bs acc is K' E:=by
 intro is;induction is with
 | nil=>intro acc K E h; exact⟨E,h.2,fun K' h'=>⟨h.1,h'⟩⟩
 | cons g l ih=>
  intro acc K E h;simp only[mV] at h ⊢;cases hg:g.g with
  | none=>
   rw[hg] at h;obtain⟨ms,E1,h1,h2⟩:=abi h;obtain⟨E',h3,h4⟩:=ih h1;exact⟨E',h3,fun K' h'=>h2 _ (h4 K' h')⟩
  | some q=>
   obtain⟨t,b⟩:=q;rw[hg] at h;rcases h with ⟨c,hc,k1,k2⟩ | ⟨hc,k2⟩
   ·by_cases e:c=b
    ·obtain⟨ms,E1,h1,h2⟩:=abi (k1 e);obtain⟨E',h3,h4⟩:=ih h1;exact⟨E',h3,fun K' h'=>.inl ⟨c,hc,fun _=>h2 _ (h4 K' h'),fun n=>absurd e n⟩⟩
    ·obtain⟨E',h3,h4⟩:=ih (k2 e);exact⟨E',h3,fun K' h'=>.inl ⟨c,hc,fun n=>absurd n e,fun _=>h4 K' h'⟩⟩
   ·obtain⟨E',h3,h4⟩:=ih k2;exact⟨E',h3,fun K' h'=>.inr ⟨hc,h4 K' h'⟩⟩
end
section
abbrev iA:=List (Nat × List M × List (Nat × Nat))
def iQ:iA->Nat->List O->List M
 | [],_,xs=>xs.map fun _=>M.b
 | (g,ms,_)::l,f,xs=>if g=f then ms else iQ l f xs
def acI:iA->Nat->List (Nat × Nat)
 | [],_=>[]
 | (g,_,bl)::l,f=>if g=f then bl else acI l f
def aoz (md:iA):List Nat:=(acI md 999999).map Prod.fst
variable {P:Program} {md:iA} {ks:Nat}
def ai3 (P:Program) (md:iA) (d:Option Nat) (xs:List O) (K:List M->Env->Prop) (E:Env):AV->Prop
 | .fn f caps=>bV caps=false/\(iQ md f xs).length=xs.length/\fE P d f (xs++caps.map .c) (iQ md f xs++caps.map fun _=>M.b) (K (iQ md f xs)) E
 | _=>False
def abk (P:Program) (d:Option Nat) (f:Nat) (xs:List O) (ms:List M) (K:Env->Prop) (E Eb:Env):Option (O × O)->Prop
 | some q=>oM P d f q.1 q.2 K E
 | none=>fE P d f xs ms K Eb
def al0 (P:Program) (md:iA) (i:I) (K:List M->Env->Prop) (E:Env):Prop:=
 match i with
 | .call d f xs=>abk P d f xs (iQ md f xs) (K (iQ md f xs)) E E (kM (iQ md f xs) xs)
 | .callv d x xs=>ai3 P md d xs K E (val E x)
 | i=>onO (ev E i) (K [])
def goI (P:Program) (md:iA) (i:I) (K:List M->Env->Prop) (E:Env):Prop:=
 match i with
 | .call d f xs=>abk P d f xs (iQ md f xs) (K (iQ md f xs)) E (j9 E (acI md f)) (kM (iQ md f xs) xs)
 | .callv d x xs=>ai3 P md d xs K E (val E x)
 | i=>onO (ev E i) (K [])
def ahT (P:Program) (md:iA):List GI->(Env->Prop)->Env->Prop
 | [],K,E=>K E
 | g::l,K,E=>match g.g with
  | none=>goI P md g.i (fun _=>ahT P md l K) E
  | some (t,b)=>match E.f t with
   | .bool c=>(c=b->goI P md g.i (fun _=>ahT P md l K) E)/\(c≠b->ahT P md l K (mF E g.d (.tup [])))
   | .tup []=>ahT P md l K (mF E g.d (.tup []))
   | _=>False
def sE (P:Program) (md:iA) (bs:List Nat):List Rcd->List GI->(Env->Prop)->Env->Prop
 | acc,[],K,E=>aaK bs acc=true/\K E
 | acc,g::l,K,E=>match g.g with
  | none=>al0 P md g.i (fun ms E'=>sE P md bs (acc++[(aE E g.i,wrI E ms g.i)]) l K E') E
  | some (t,b)=>match E.f t with
   | .bool c=>(c=b->al0 P md g.i (fun ms E'=>sE P md bs (acc++[(t::aE E g.i,wrI E ms g.i)]) l K E') E) /\
    (c≠b->sE P md bs (acc++[(t::g.d.toList,g.d.toList)]) l K (mF E g.d (.tup [])))
   | .tup []=>sE P md bs (acc++[(t::g.d.toList,g.d.toList)]) l K (mF E g.d (.tup []))
   | _=>False
def ak3 (P:Program) (md:iA) (is:List GI) (K:Env->Prop) (E:Env):(Nat->Nat->Bool)->BT->Prop
 | lt,.leaf σ=>ahZ is.length σ=true/\sE P md (apF lt σ) [] (σ.map fun i=>is.getD i default) K E
 | lt,.node c d x y=>c≠d/\ak3 P md is K E (acH lt c d) x/\ak3 P md is K E (acH lt d c) y
 | lt,.tr a b c x=>(lt a b && (lt b c && decide (b<is.length)))=true/\ak3 P md is K E (acH lt a c) x
def aqH (P:Program) (md:iA) (ks:Nat) (bs:List Nat) (is:List GI) (K:Env->Prop) (E:Env):List (Nat × Nat)->Prop
 | []=>sE P md bs [] is K E
 | _::_=>ks.testBit 999=true/\is.all plG=true/\∃ t,ak3 P md is K E (ltB bs) t
def wpB (P:Program) (md:iA) (ks:Nat):Cmd->(Ex->Env->Prop)->Env->Prop
 | .skip,Q,E=>Q .n E
 | .reg is none,Q,E=>ahT P md is (Q .n) (rgE ks (aoz md) (E.norm ks))
 | .reg is (some bs),Q,E=>aqH P md ks bs is (Q .n) (rgE ks (aoz md) (E.norm ks)) (acI md 999998)
 | .seq a b,Q,E=>wpB P md ks a (fun x E'=>match x with | .n=>wpB P md ks b Q E' | x=>Q x E') E
 | .cond x a b,Q,E=>match val E x with
  | .bool t=>(t=true->wpB P md ks a Q E)/\(t=false->wpB P md ks b Q E)
  | _=>False
 | .blk id c,Q,E=>wpB P md ks c (fun x E'=>if x=.e id then Q .n E' else Q x E') E
 | .loop c,Q,E=>∃ (D:List Nat) (J:Nat->Env->Prop),(∃ n,J n (hdL ks D (E.norm ks)))/\∀ n E,J n E->wpB P md ks c (fun x E'=>match x with | .n=>∃ m,m<n/\J m (hdL ks D (E'.norm ks)) | x=>Q x E') E
 | .exit id,Q,E=>Q (.e id) E
 | .ret,Q,E=>Q .r E
theorem xP {d:Option Nat} {f:Nat} {xs:List O} {ms:List M} {K K':Env->Prop} {E Eb:Env} {o:Option (O × O)} (hk:∀ E,K E->K' E) (h:abk P d f xs ms K E Eb o):abk P d f xs ms K' E Eb o:=by
 cases o with
 | some q=>exact iS hk h
 | none=>
  obtain⟨pr,hp,ret,outs,hS,hx,E1,hb,hK⟩:=h;exact⟨pr,hp,ret,outs,hS,hx,E1,hb,hk _ hK⟩
theorem apU {i:I} {K:List M->Env->Prop} {K':Env->Prop} {E:Env} (h:goI P md i K E) (hK:∀ ms E,K ms E->K' E):qR P i K' E:=by
 have sp:∀ {d f xs ms} {K:Env->Prop} {E:Env},(∀ E,K E->K' E)->fE P d f xs ms K E->fE P d f xs ms K' E:=by
  rintro d f xs ms K E hk ⟨pr,hp,ret,outs,hS,hx,E1,hb,hK⟩;exact⟨pr,hp,ret,outs,hS,hx,E1,hb,hk _ hK⟩
 cases i with
 | call d f xs=>
  simp only[goI] at h;cases hq:kM (iQ md f xs) xs with
  | none=>rw[hq] at h; exact .inl ⟨_,_,sp (hK _) h⟩
  | some q=>
   rw[hq] at h;obtain⟨h1,h2⟩:=ahY hq;exact .inr ⟨_,_,_,h2,h1,iS (hK _) h⟩
 | callv d x xs=>
  simp only[goI] at h;simp only[qR];cases hv:val E x <;> rw[hv] at h <;> first
   | exact h.elim
   | (obtain⟨h1,h2,h3⟩:=h; exact⟨_,h2,h1,sp (hK _) h3⟩)
 | _=>obtain⟨E',h1,h2⟩:=h; exact⟨E',h1,hK _ _ h2⟩
theorem apV {i:I} {K K':List M->Env->Prop} {E:Env} (h:al0 P md i K E) (hK:∀ ms E,K ms E->K' ms E):wQ P i K' E:=by
 have sp:∀ {d f xs ms} {K K':Env->Prop},(∀ E,K E->K' E)->fE P d f xs ms K E->fE P d f xs ms K' E:=by
  rintro d f xs ms K K' hk ⟨pr,hp,ret,outs,hS,hx,E1,hb,hK⟩;exact⟨pr,hp,ret,outs,hS,hx,E1,hb,hk _ hK⟩
 cases i with
 | call d f xs=>
  simp only[al0] at h;cases hq:kM (iQ md f xs) xs with
  | none=>rw[hq] at h; exact⟨_,.inl (sp (hK _) h)⟩
  | some q=>
   rw[hq] at h;obtain⟨h1,h2⟩:=ahY hq;exact⟨iQ md f xs,.inr ⟨_,_,h2,h1,iS (hK _) h⟩⟩
 | callv d x xs=>
  simp only[al0] at h;simp only[wQ];cases hv:val E x <;> rw[hv] at h <;> first
   | exact h.elim
   | (obtain⟨h1,h2,h3⟩:=h; exact⟨_,h2,h1,sp (hK _) h3⟩)
 | _=>obtain⟨E',h1,h2⟩:=h; exact⟨E',h1,hK _ _ h2⟩
theorem apW:∀ (is:List GI) {K:Env->Prop} {E:Env},ahT P md is K E->ahR P is K E:=by
 intro is;induction is with
 | nil=>intro K E h; exact h
 | cons g l ih=>
  intro K E h;simp only[ahT] at h;simp only[ahR];cases hg:g.g with
  | none=>rw[hg] at h; exact apU h fun _ _ h=>ih h
  | some q=>
   obtain⟨t,b⟩:=q;rw[hg] at h;simp only at h;split at h
   ·rename_i c hc;exact .inl ⟨c,hc,fun e=>apU (h.1 e) fun _ _ h=>ih h,fun e=>ih (h.2 e)⟩
   ·rename_i hc;exact .inr ⟨hc,ih h⟩
   ·exact h.elim
theorem ai4 {bs:List Nat}:∀ (is:List GI) {acc:List Rcd} {K:Env->Prop} {E:Env},sE P md bs acc is K E->mV P bs acc is K E:=by
 intro is;induction is with
 | nil=>intro acc K E h; exact h
 | cons g l ih=>
  intro acc K E h;simp only[sE] at h;simp only[mV];cases hg:g.g with
  | none=>rw[hg] at h; exact apV h fun _ _ h=>ih h
  | some q=>
   obtain⟨t,b⟩:=q;rw[hg] at h;simp only at h;split at h
   ·rename_i c hc;exact .inl ⟨c,hc,fun e=>apV (h.1 e) fun _ _ h=>ih h,fun e=>ih (h.2 e)⟩
   ·rename_i hc;exact .inr ⟨hc,ih h⟩
   ·exact h.elim
theorem apX {is:List GI} {K K':Env->Prop} {E:Env} (hK:∀ E,K E->K' E):∀ (t:BT) (lt:Nat->Nat->Bool),ak3 P md is K E lt t->anS P is K' E lt t:=by
 intro t;induction t with
 | leaf σ=>
  intro lt h;obtain⟨E1,h1,h2⟩:=abj (ai4 _ h.2);exact⟨h.1,h2 K' (hK _ h1)⟩
 | node c d x y ihx ihy=>intro lt h; exact⟨h.1,ihx _ h.2.1,ihy _ h.2.2⟩
 | tr a b c x ih=>intro lt h; exact⟨h.1,ih _ h.2⟩
theorem apY:∀ (c:Cmd) {Q Q':Ex->Env->Prop} {E:Env},wpB P md ks c Q E->(∀ x E,Q x E->Q' x E)->awp P ks c Q' E:=by
 intro c;induction c with
 | skip=>intro Q Q' E h hQ; exact hQ _ _ h
 | reg is ord=>
  intro Q Q' E h hQ;cases ord with
  | none=>
   obtain⟨E1,h1,h2⟩:=alZ (apW is h);exact⟨_,h2 (Q' .n) (hQ _ _ h1)⟩
  | some bs=>
   simp only[wpB] at h;cases hb:acI md 999998 with
   | nil=>
    rw[hb] at h;obtain⟨E1,h1,h2⟩:=abj (ai4 is h);exact⟨_,.inl (h2 (Q' .n) (hQ _ _ h1))⟩
   | cons b l=>
    rw[hb] at h;obtain⟨h1,h2,t,h3⟩:=h;exact⟨_,.inr ⟨h1,h2,t,apX (hQ .n) t _ h3⟩⟩
 | seq a b iha ihb=>
  intro Q Q' E h hQ;refine iha h fun x E1 h1=>?_
  cases x with
  | n=>exact ihb h1 hQ
  | r=>exact hQ _ _ h1
  | e id=>exact hQ _ _ h1
 | cond x a b iha ihb=>
  intro Q Q' E h hQ;simp only[wpB] at h;split at h
  ·rename_i t ht;exact⟨t,ht,fun e=>iha (h.1 e) hQ,fun e=>ihb (h.2 e) hQ⟩
  ·exact h.elim
 | blk id c ih=>
  intro Q Q' E h hQ;refine ih h fun x E1 h1=>?_
  by_cases e:x=.e id
  ·simp only[e,lQ] at h1 ⊢; exact hQ _ _ h1
  ·simp only[e,lN1] at h1 ⊢; exact hQ _ _ h1
 | loop c ih=>
  intro Q Q' E h hQ;obtain⟨D,J,hJ,hr⟩:=h;refine⟨D,J,hJ,fun n E hn=>ih (hr n E hn) fun x E1 h1=>?_⟩;cases x with
  | n=>exact h1
  | r=>exact hQ _ _ h1
  | e id=>exact hQ _ _ h1
 | exit id=>intro Q Q' E h hQ; exact hQ _ _ h
 | ret=>intro Q Q' E h hQ; exact hQ _ _ h
def Fin (rs:List RV) (bs:List Bool) (m:List AV) (ret:AV) (outs:List AV) (x:Ex) (E:Env):Prop:=(x=.r\/x=.n)/\adg rs bs m ret outs E
def ai5 (rs:List RV) (bs:List Bool) (m:List AV) (R:AV->List AV->Prop) (x:Ex) (E:Env):Prop:=
 (x=.r\/x=.n)/\onO (agD E rs) fun q=>R (ahS q.1) (eO q.2 0 bs m)/\dH (ahS q.1::eO q.2 0 bs m)=true
theorem apZ {f nt:Nat} {rs:List RV} {cmd:Cmd} (hm:P.follows .mixedOrders=true) (hc:i8 P f=some (nt,rs,cmd)) (md:iA) (ks:Nat) (bs:List Bool) {args outs:List AV} {ret:AV}
  (ac:args.length<=nt/\args.length<=32) (eo:outs.length=args.length) (ba:d9 bs args=true)
  (h:wpB P md ks cmd (Fin rs bs args ret outs) (mkE (bO 0 bs args++eN 0 bs args) [])):mU P f args ret outs:=
 aoy hm hc ks bs ac eo ba (apY cmd h fun _ _ h=>h)
theorem pO (c:Cmd):∀ {Q Q':Ex->Env->Prop} {E:Env},wpB P md ks c Q E->(∀ x E,Q x E->Q' x E)->wpB P md ks c Q' E:=by
 have gmono:∀ {i:I} {K K':List M->Env->Prop} {E:Env},goI P md i K E->(∀ ms E,K ms E->K' ms E)->goI P md i K' E:=by
  intro i K K' E h hK;have sp:∀ {d f xs ms} {K K':Env->Prop} {E:Env},(∀ E,K E->K' E)->fE P d f xs ms K E->fE P d f xs ms K' E:=by
   rintro d f xs ms K K' E hk ⟨pr,hp,ret,outs,hS,hx,E1,hb,hK⟩;exact⟨pr,hp,ret,outs,hS,hx,E1,hb,hk _ hK⟩
  cases i with
  | call d f xs=>exact xP (hK _) h
  | callv d x xs=>
   simp only[goI] at h ⊢;cases hv:val E x <;> rw[hv] at h <;> first
    | exact h.elim
    | (obtain⟨h1,h2,h3⟩:=h; exact⟨h1,h2,sp (hK _) h3⟩)
  | _=>obtain⟨E',h1,h2⟩:=h; exact⟨E',h1,hK _ _ h2⟩
 have gmono0:∀ {i:I} {K K':List M->Env->Prop} {E:Env},al0 P md i K E->(∀ ms E,K ms E->K' ms E)->al0 P md i K' E:=by
  intro i K K' E h hK;have sp:∀ {d f xs ms} {K K':Env->Prop},(∀ E,K E->K' E)->fE P d f xs ms K E->fE P d f xs ms K' E:=by
   rintro d f xs ms K K' hk ⟨pr,hp,ret,outs,hS,hx,E1,hb,hK⟩;exact⟨pr,hp,ret,outs,hS,hx,E1,hb,hk _ hK⟩
  cases i with
  | call d f xs=>exact xP (hK _) h
  | callv d x xs=>
   simp only[al0] at h ⊢;cases hv:val E x <;> rw[hv] at h <;> first
    | exact h.elim
    | (obtain⟨h1,h2,h3⟩:=h; exact⟨h1,h2,sp (hK _) h3⟩)
  | _=>obtain⟨E',h1,h2⟩:=h; exact⟨E',h1,hK _ _ h2⟩
 have rmono:∀ (is:List GI) {K K':Env->Prop} {E:Env},ahT P md is K E->(∀ E,K E->K' E)->ahT P md is K' E:=by
  intro is;induction is with
  | nil=>intro K K' E h hK; exact hK _ h
  | cons g l ih=>
   intro K K' E h hK;simp only[ahT] at h ⊢;cases hg:g.g with
   | none=>rw[hg] at h; exact gmono h fun _ _ h=>ih h hK
   | some q=>
    obtain⟨t,b⟩:=q;rw[hg] at h;simp only at h ⊢;split at h
    ·exact⟨fun e=>gmono (h.1 e) fun _ _ h=>ih h hK,fun e=>ih (h.2 e) hK⟩
    ·exact ih h hK
    ·exact h.elim
 have dmono:∀ (is:List GI) {bs:List Nat} {acc:List Rcd} {K K':Env->Prop} {E:Env},sE P md bs acc is K E->(∀ E,K E->K' E)->sE P md bs acc is K' E:=by
  intro is;induction is with
  | nil=>intro bs acc K K' E h hK; exact⟨h.1,hK _ h.2⟩
  | cons g l ih=>
   intro bs acc K K' E h hK;simp only[sE] at h ⊢;cases hg:g.g with
   | none=>rw[hg] at h; exact gmono0 h fun _ _ h=>ih h hK
   | some q=>
    obtain⟨t,b⟩:=q;rw[hg] at h;simp only at h ⊢;split at h
    ·exact⟨fun e=>gmono0 (h.1 e) fun _ _ h=>ih h hK,fun e=>ih (h.2 e) hK⟩
    ·exact ih h hK
    ·exact h.elim
 induction c with
 | skip=>intro Q Q' E h hQ; exact hQ _ _ h
 | reg is ord=>
  intro Q Q' E h hQ;cases ord with
  | none=>exact rmono is h fun E h=>hQ _ _ h
  | some bs=>
   simp only[wpB] at h ⊢;cases hb:acI md 999998 with
   | nil=>rw[hb] at h; exact dmono is h fun E h=>hQ _ _ h
   | cons b l=>
    rw[hb] at h;obtain⟨h1,h2,t,h3⟩:=h;refine⟨h1,h2,t,?_⟩;have fm:∀ (t:BT) (lt:Nat->Nat->Bool),ak3 P md is (Q .n) (rgE ks (aoz md) (E.norm ks)) lt t->ak3 P md is (Q' .n) (rgE ks (aoz md) (E.norm ks)) lt t:=by
     intro t;induction t with
     | leaf σ=>intro lt h; exact⟨h.1,dmono _ h.2 fun E h=>hQ _ _ h⟩
     | node c d x y ihx ihy=>intro lt h; exact⟨h.1,ihx _ h.2.1,ihy _ h.2.2⟩
     | tr a b c x ih=>intro lt h; exact⟨h.1,ih _ h.2⟩
    exact fm t _ h3
 | seq a b iha ihb=>
  intro Q Q' E h hQ;refine iha h fun x E1 h1=>?_
  cases x with
  | n=>exact ihb h1 hQ
  | r=>exact hQ _ _ h1
  | e id=>exact hQ _ _ h1
 | cond x a b iha ihb=>
  intro Q Q' E h hQ;simp only[wpB] at h ⊢;split at h
  ·exact⟨fun e=>iha (h.1 e) hQ,fun e=>ihb (h.2 e) hQ⟩
  ·exact h.elim
 | blk id c ih=>
  intro Q Q' E h hQ;refine ih h fun x E1 h1=>?_
  by_cases e:x=.e id
  ·simp only[e,lQ] at h1 ⊢; exact hQ _ _ h1
  ·simp only[e,lN1] at h1 ⊢; exact hQ _ _ h1
 | loop c ih=>
  intro Q Q' E h hQ;obtain⟨D,J,hJ,hr⟩:=h;refine⟨D,J,hJ,fun n E hn=>ih (hr n E hn) fun x E1 h1=>?_⟩;cases x with
  | n=>exact h1
  | r=>exact hQ _ _ h1
  | e id=>exact hQ _ _ h1
 | exit id=>intro Q Q' E h hQ; exact hQ _ _ h
 | ret=>intro Q Q' E h hQ; exact hQ _ _ h
inductive Fr where
 | q (b:Cmd)
 | b (id:Nat)
structure Wk where
 P:Program
 md:iA
 ks:Nat
 Q:Ex->Env->Prop
def T (w:Wk):List Fr->Ex->Env->Prop
 | [],x,E=>w.Q x E
 | .q b::st,x,E=>match x with
  | .n=>wpB w.P w.md w.ks b (T w st) E
  | x=>T w st x E
 | .b id::st,x,E=>if x=.e id then T w st .n E else T w st x E
def C (w:Wk) (c:Cmd) (st:List Fr) (E:Env):Prop:=wpB w.P w.md w.ks c (T w st) E
def G (w:Wk) (is:List GI) (st:List Fr) (E:Env):Prop:=ahT w.P w.md is (T w st .n) E
def X (w:Wk) (is:List GI) (st:List Fr) (o:Option Env):Prop:=onO o (G w is st)
def H (w:Wk) (bs:List Nat) (acc:List Rcd) (is:List GI) (st:List Fr) (E:Env):Prop:=sE w.P w.md bs acc is (T w st .n) E
def XH (w:Wk) (bs:List Nat) (acc:List Rcd) (is:List GI) (st:List Fr) (o:Option Env):Prop:=onO o (H w bs acc is st)
def CF (w:Wk) (a b:Cmd) (st:List Fr) (E:Env):AV->Prop
 | .bool t=>(t=true->C w a st E)/\(t=false->C w b st E)
 | _=>False
def GF (w:Wk) (b:Bool) (d:Option Nat) (i:I) (is:List GI) (st:List Fr) (E:Env):AV->Prop
 | .bool c=>(c=b->G w (⟨none,d,i⟩::is) st E)/\(c≠b->G w is st (mF E d (.tup [])))
 | .tup []=>G w is st (mF E d (.tup []))
 | _=>False
def H1 (w:Wk) (t:List Nat) (bs:List Nat) (acc:List Rcd) (i:I) (is:List GI) (st:List Fr) (E:Env):Prop:=
 al0 w.P w.md i (fun ms E'=>H w bs (acc++[(t++aE E i,wrI E ms i)]) is st E') E
def HF (w:Wk) (bs:List Nat) (acc:List Rcd) (t:Nat) (b:Bool) (d:Option Nat) (i:I) (is:List GI) (st:List Fr) (E:Env):AV->Prop
 | .bool c=>(c=b->H1 w [t] bs acc i is st E)/\(c≠b->H w bs (acc++[(t::d.toList,d.toList)]) is st (mF E d (.tup [])))
 | .tup []=>H w bs (acc++[(t::d.toList,d.toList)]) is st (mF E d (.tup []))
 | _=>False
def Y0 (w:Wk) (d:Option Nat) (f:Nat) (ok:Bool) (pls:List Plc) (is:List GI) (st:List Fr) (args:List AV) (E:Env) (ln:Option (Nat × Nat × bA)):Prop:=anR w.P d f ok pls (G w is st) (args,E,ln)
def YH0 (w:Wk) (d:Option Nat) (f:Nat) (ok:Bool) (pls:List Plc) (bs:List Nat) (acc:List Rcd) (is:List GI) (st:List Fr) (args:List AV) (E:Env) (ln:Option (Nat × Nat × bA)):Prop:=anR w.P d f ok pls (H w bs acc is st) (args,E,ln)
def B (w:Wk) (d:Option Nat) (ret:AV) (is:List GI) (st:List Fr) (o:Option Env):Prop:=onO o fun E'=>G w is st (mF E' d ret)
def BH (w:Wk) (d:Option Nat) (ret:AV) (bs:List Nat) (acc:List Rcd) (is:List GI) (st:List Fr) (o:Option Env):Prop:=onO o fun E'=>H w bs acc is st (mF E' d ret)
def adj (w:Wk) (d:Option Nat) (f:Nat) (xs:List O) (ms:List M) (pls:List Plc) (is:List GI) (st:List Fr):Option (List AV × Env × Option (Nat × Nat × bA))->Prop
 | some (args,E,ln)=>Y0 w d f (gA E ms xs) pls is st args E ln
 | none=>False
def afg (w:Wk) (d:Option Nat) (f:Nat) (xs:List O) (ms:List M) (pls:List Plc) (bs:List Nat) (acc:List Rcd) (is:List GI) (st:List Fr):Option (List AV × Env × Option (Nat × Nat × bA))->Prop
 | some (args,E,ln)=>YH0 w d f (gA E ms xs) pls bs acc is st args E ln
 | none=>False
def YK0 (w:Wk) (d:Option Nat) (f:Nat) (is:List GI) (st:List Fr) (cs ds:List AV) (E:Env):Prop:=ahW w.P d f (G w is st) cs ds E
def aqI (w:Wk) (d:Option Nat) (f:Nat) (bs:List Nat) (acc:List Rcd) (is:List GI) (st:List Fr) (cs ds:List AV) (E:Env):Prop:=ahW w.P d f (H w bs acc is st) cs ds E
def ai6 (w:Wk) (d:Option Nat) (f:Nat) (is:List GI) (st:List Fr) (E:Env) (x y:AV) (o:Option (AV × Env)):Prop:=rS w.P d f (G w is st) E x y o
def adk (w:Wk) (d:Option Nat) (f:Nat) (bs:List Nat) (acc:List Rcd) (is:List GI) (st:List Fr) (E:Env) (x y:AV) (o:Option (AV × Env)):Prop:=rS w.P d f (H w bs acc is st) E x y o
def ai7 (w:Wk) (e:Option Nat) (f:Nat) (xs:List O) (is:List GI) (st:List Fr) (E:Env):Option (O × O)->Prop
 | none=>adj w e f xs (iQ w.md f xs) (j5 (j9 E (acI w.md f)) 0 (iQ w.md f xs) xs) is st (aaF (j9 E (acI w.md f)) (iQ w.md f xs) xs)
 | some q=>ai6 w e f is st E (val E q.1) (val E q.2) (dR E q.1)
def abl (w:Wk) (t:List Nat) (bs:List Nat) (acc:List Rcd) (e:Option Nat) (f:Nat) (xs:List O) (is:List GI) (st:List Fr) (E:Env):Option (O × O)->Prop
 | none=>afg w e f xs (iQ w.md f xs) (j5 E 0 (iQ w.md f xs) xs) bs (acc++[(t++aE E (.call e f xs),wrI E (iQ w.md f xs) (.call e f xs))]) is st (aaF E (iQ w.md f xs) xs)
 | some q=>adk w e f bs (acc++[(t++aE E (.call e f xs),wrI E (iQ w.md f xs) (.call e f xs))]) is st E (val E q.1) (val E q.2) (dR E q.1)
def RC (w:Wk) (bs:List Nat) (is:List GI) (st:List Fr) (E:Env) (o:List (Nat × Nat)):Prop:=aqH w.P w.md w.ks bs is (T w st .n) E o
def RS (w:Wk) (bs:List Nat) (is:List GI) (st:List Fr) (E:Env):Prop:=w.ks.testBit 999=true/\is.all plG=true/\∃ t,ak3 w.P w.md is (T w st .n) E (ltB bs) t
def afh (w:Wk) (d:Option Nat) (xs:List O) (is:List GI) (st:List Fr) (E:Env):AV->Prop
 | .fn f caps=>bV caps=false/\(iQ w.md f xs).length=xs.length/\adj w d f (xs++caps.map .c) (iQ w.md f xs++caps.map fun _=>M.b) (j5 E 0 (iQ w.md f xs++caps.map fun _=>M.b) (xs++caps.map .c)) is st (aaF E (iQ w.md f xs++caps.map fun _=>M.b) (xs++caps.map .c))
 | _=>False
section
variable {w:Wk} {E:Env} {st:List Fr} {is:List GI} {bs:List Nat} {acc:List Rcd}
theorem aoA {a b:Cmd}:C w (.seq a b) st E=C w a (.q b::st) E:=by
 unfold C;simp only[wpB];congr 1
theorem aoB {i:Nat} {c:Cmd}:C w (.blk i c) st E=C w c (.b i::st) E:=by
 unfold C;simp only[wpB];congr 1
theorem adl {x:Ex}:T w [] x E=w.Q x E:=by cases x <;> rfl
theorem ai8 {d e:Option Nat} {f:Nat} {xs:List O}:G w (⟨none,d,.call e f xs⟩::is) st E=ai7 w e f xs is st E (kM (iQ w.md f xs) xs):=by
 show abk _ _ _ _ _ _ _ _ _=_;generalize kM (iQ w.md f xs) xs=q;cases q with
 | some q=>rfl
 | none=>
  simp only[abk,ai7];unfold fE;generalize aaF (j9 E (acI w.md f)) (iQ w.md f xs) xs=o;cases o with
  | none=>simp[onO,adj]
  | some pr=>simp only[qS]; rfl
theorem adm {d e:Option Nat} {x:O} {xs:List O}:G w (⟨none,d,.callv e x xs⟩::is) st E=afh w e xs is st E (val E x):=by
 unfold G;simp only[ahT,goI];generalize val E x=a;cases a with
 | fn f caps=>
  simp only[ai3,afh,fE];congr 2;generalize aaF E (iQ w.md f xs++List.map (fun _=>M.b) caps) (xs++List.map O.c caps)=o;cases o with
  | none=>simp[onO,adj]
  | some pr=>simp only[qS]; rfl
 | _=>rfl
theorem aqy {c:Prop} [Decidable c] {a b:Option Env} (h:c):X w is st (if c then a else b)=X w is st a:=by rw[lK h]
theorem aqz {c:Prop} [Decidable c] {a b:Option Env} (h:¬ c):X w is st (if c then a else b)=X w is st b:=by rw[lO h]
theorem adn {t:List Nat} {e:Option Nat} {f:Nat} {xs:List O}:H1 w t bs acc (.call e f xs) is st E=abl w t bs acc e f xs is st E (kM (iQ w.md f xs) xs):=by
 show abk _ _ _ _ _ _ _ _ _=_;generalize kM (iQ w.md f xs) xs=q;cases q with
 | some q=>rfl
 | none=>
  simp only[abk,abl];unfold fE;generalize aaF E (iQ w.md f xs) xs=o;cases o with
  | none=>simp[onO,afg]
  | some pr=>simp only[qS]; rfl
theorem ap0 {c:Prop} [Decidable c] {a b:Option Env} (h:c):XH w bs acc is st (if c then a else b)=XH w bs acc is st a:=by rw[lK h]
theorem ap1 {c:Prop} [Decidable c] {a b:Option Env} (h:¬ c):XH w bs acc is st (if c then a else b)=XH w bs acc is st b:=by rw[lO h]
theorem aqA {d:Option Nat} {ret:AV} {c:Prop} [Decidable c] {a b:Option Env} (h:c):B w d ret is st (if c then a else b)=B w d ret is st a:=by rw[lK h]
theorem ap2 {d:Option Nat} {ret:AV} {c:Prop} [Decidable c] {a b:Option Env} (h:c):BH w d ret bs acc is st (if c then a else b)=BH w d ret bs acc is st a:=by rw[lK h]
theorem uQ {d:Option Nat} {f:Nat} {ok:Bool} {args outs:List AV} {ret:AV} {ln:Option (Nat × Nat × bA)} {P:Program} (hP:w.P=P) (hS:mU P f args ret outs)
  (hx:(dY (ret::outs)=false/\∀ x ∈ dZ (ret::outs),x ∈ dZ args)\/ok=true) {pls:List Plc} (h:B w d ret is st (mM E ln pls outs)):Y0 w d f ok pls is st args E ln:=⟨ret,outs,hP ▸ hS,hx,h⟩
theorem uR {d:Option Nat} {f:Nat} {ok:Bool} {args outs:List AV} {ret:AV} {ln:Option (Nat × Nat × bA)} {P:Program} (hP:w.P=P) (hS:mU P f args ret outs)
  (hx:(dY (ret::outs)=false/\∀ x ∈ dZ (ret::outs),x ∈ dZ args)\/ok=true) {pls:List Plc} (h:BH w d ret bs acc is st (mM E ln pls outs)):YH0 w d f ok pls bs acc is st args E ln:=⟨ret,outs,hP ▸ hS,hx,h⟩
theorem aqN {a b:Cmd} (c:Prop) [Decidable c] (h1:c->C w a st E) (h2:¬ c->C w b st E):CF w a b st E (.bool (decide c)):=⟨fun h=>h1 (by simpa using h),fun h=>h2 (by simpa using h)⟩
theorem ai9 {a b:Cmd} {c:Bool}:CF w a b st E (.bool (!c))=CF w b a st E (.bool c):=by cases c <;> simp[CF]
theorem aja {d:Option Nat} {i:I} {b c:Bool}:GF w b d i is st E (.bool (!c))=GF w (!b) d i is st E (.bool c):=by cases c <;> cases b <;> simp[GF]
theorem aqO {b:Bool} {d:Option Nat} {i:I} (c:Prop) [Decidable c] (h1:c->GF w b d i is st E (.bool true)) (h2:¬ c->GF w b d i is st E (.bool false)):GF w b d i is st E (.bool (decide c)):=by
 by_cases h:c
 ·simpa [h] using h1 h
 ·simpa [h] using h2 h
theorem aqP {t:Nat} {b:Bool} {d:Option Nat} {i:I} (c:Prop) [Decidable c] (h1:c->HF w bs acc t b d i is st E (.bool true)) (h2:¬ c->HF w bs acc t b d i is st E (.bool false)):HF w bs acc t b d i is st E (.bool (decide c)):=by
 by_cases h:c
 ·simpa [h] using h1 h
 ·simpa [h] using h2 h
theorem aqQ {a b:Cmd} (c:Bool) (h1:c=true->C w a st E) (h2:c=false->C w b st E):CF w a b st E (.bool c):=⟨h1,h2⟩
theorem aqR {b:Bool} {d:Option Nat} {i:I} (c:Bool) (h1:c=true->GF w b d i is st E (.bool true)) (h2:c=false->GF w b d i is st E (.bool false)):GF w b d i is st E (.bool c):=by
 cases c
 ·exact h2 rfl
 ·exact h1 rfl
theorem aqS {t:Nat} {b:Bool} {d:Option Nat} {i:I} (c:Bool) (h1:c=true->HF w bs acc t b d i is st E (.bool true)) (h2:c=false->HF w bs acc t b d i is st E (.bool false)):HF w bs acc t b d i is st E (.bool c):=by
 cases c
 ·exact h2 rfl
 ·exact h1 rfl
end
def al1 (a:AV) (d:Nat) (m:List (Nat × Nat × Nat)):List (Nat × Nat × Nat):=if a.isRoot=true then acN m d ((iG m d).1+1,(iG m d).2+1) else m
def mkV (K:Nat) (l r:List (Nat × AV)) (m:List (Nat × Nat × Nat)):Env:=⟨fun t=>if c7 K t=true then dC l t else dC r t,iG m⟩
def zO (E:Env) (K:Nat):List (Nat × AV)->List (Nat × AV)
 | []=>[]
 | (k,a)::l=>(k,oO E K a)::zO E K l
theorem anw (K:Nat) (l r:List (Nat × AV)) (m:List (Nat × Nat × Nat)) (t:Nat):(mkV K l r m).ep t=iG m t:=rfl
theorem ajb (a:AV) (d t:Nat) (m:List (Nat × Nat × Nat)):iG (al1 a d m) t=if t=d/\a.isRoot=true then ((iG m d).1+1,(iG m d).2+1) else iG m t:=by
 unfold al1;by_cases h:a.isRoot=true
 ·simp only[h,and_true,lQ,tI]
 ·simp[h]
theorem ado (K:Nat) (l r:List (Nat × AV)) (m:List (Nat × Nat × Nat)) (d:Nat) (x:AV) :
  (mkV K l r m).put d x=if c7 K d=true then mkV K (qO l d x) r (al1 (dC l d) d m) else mkV K l ((d,x)::r) (al1 (dC r d) d m):=by
 by_cases hk:c7 K d=true
 ·rw[lK hk];apply Env.ext'
  ·intro t;show (if t=d then x else if c7 K t=true then dC l t else dC r t)=if c7 K t=true then dC (qO l d x) t else dC r t
   rw[nP];by_cases e:t=d
   ·subst e; simp[hk]
   ·simp[e]
  ·intro t;show (if t=d/\(if c7 K d=true then dC l d else dC r d).isRoot=true then ((iG m d).1+1,(iG m d).2+1) else iG m t)=iG (al1 (dC l d) d m) t;rw[ajb,lK hk]
 ·rw[lO hk];apply Env.ext'
  ·intro t;show (if t=d then x else if c7 K t=true then dC l t else dC r t)=if c7 K t=true then dC l t else dC ((d,x)::r) t
   by_cases e:t=d
   ·subst e; simp[hk,dC]
   ·simp[e,dC,Ne.symm e]
  ·intro t;show (if t=d/\(if c7 K d=true then dC l d else dC r d).isRoot=true then ((iG m d).1+1,(iG m d).2+1) else iG m t)=iG (al1 (dC r d) d m) t;rw[ajb,lO hk]
theorem adp (K:Nat) (l r:List (Nat × AV)) (m:List (Nat × Nat × Nat)) (d:Nat) (x:AV) :
  (mkV K l r m).upd d x=if c7 K d=true then mkV K (qO l d x) r (acN m d ((iG m d).1,(iG m d).2+1)) else mkV K l (qO r d x) (acN m d ((iG m d).1,(iG m d).2+1)):=by
 by_cases hk:c7 K d=true
 ·rw[lK hk];apply Env.ext'
  ·intro t;show (if t=d then x else if c7 K t=true then dC l t else dC r t)=if c7 K t=true then dC (qO l d x) t else dC r t
   rw[nP];by_cases e:t=d
   ·subst e; simp[hk]
   ·simp[e]
  ·intro t;show (if t=d then ((iG m d).1,(iG m d).2+1) else iG m t)=_;rw[anw,tI]
 ·rw[lO hk];apply Env.ext'
  ·intro t;show (if t=d then x else if c7 K t=true then dC l t else dC r t)=if c7 K t=true then dC l t else dC (qO r d x) t
   rw[nP];by_cases e:t=d
   ·subst e; simp[hk]
   ·simp[e]
  ·intro t;show (if t=d then ((iG m d).1,(iG m d).2+1) else iG m t)=_;rw[anw,tI]
theorem zP (K:Nat) (l r:List (Nat × AV)) (m:List (Nat × Nat × Nat)) (d:Nat) (x:AV) :
  (mkV K l r m).set0 d x=if c7 K d=true then mkV K (qO l d x) r m else mkV K l (qO r d x) m:=by
 by_cases hk:c7 K d=true
 ·rw[lK hk];apply Env.ext'
  ·intro t;show (if t=d then x else if c7 K t=true then dC l t else dC r t)=if c7 K t=true then dC (qO l d x) t else dC r t
   rw[nP];by_cases e:t=d
   ·subst e; simp[hk]
   ·simp[e]
  ·intro t; rfl
 ·rw[lO hk];apply Env.ext'
  ·intro t;show (if t=d then x else if c7 K t=true then dC l t else dC r t)=if c7 K t=true then dC l t else dC (qO r d x) t
   rw[nP];by_cases e:t=d
   ·subst e; simp[hk]
   ·simp[e]
  ·intro t; rfl
theorem ajc (E:Env) (K t:Nat):∀ l:List (Nat × AV),dC (zO E K l) t=oO E K (dC l t):=by
 intro l;induction l with
 | nil=>rfl
 | cons p l ih=>
  obtain⟨k,a⟩:=p;simp only[zO,dC,ih];split <;> rfl
theorem zQ (K:Nat) (l r:List (Nat × AV)) (m:List (Nat × Nat × Nat)):(mkV K l r m).norm K=mkV K (zO (mkV K l r m) K l) [] []:=by
 apply Env.ext'
 ·intro t;show (if c7 K t=true then oO (mkV K l r m) K (if c7 K t=true then dC l t else dC r t) else .undef)=if c7 K t=true then dC (zO (mkV K l r m) K l) t else dC [] t
  rw[ajc];by_cases hk:c7 K t=true <;> simp[hk,dC]
 ·intro t; rfl
theorem ap3 (K:Nat) (l:List (Nat × AV)):mkE l []=mkV K l l []:=by
 apply Env.ext'
 ·intro t;show dC l t=if c7 K t=true then dC l t else dC l t
  simp
 ·intro t; rfl
def mO:List (Nat × AV)->List (Nat × AV)->List (Nat × AV)
 | l,[]=>l
 | l,(d,x)::v=>mO (qO l d x) v
def LQ {σ:Type} (K:Nat) (l:List (Nat × AV)) (v:σ->List (Nat × AV)) (J:σ->Prop) (μ:σ->Nat) (s:σ) (Q:Ex->Env->Prop):Ex->Env->Prop:=fun x E'=>match x with
 | .n=>∃ s',E'.norm K=mkV K (mO l (v s')) [] []/\J s'/\μ s'<μ s
 | x=>Q x E'
def LQD {σ:Type} (D:List Nat) (K:Nat) (l:List (Nat × AV)) (v:σ->List (Nat × AV)) (J:σ->Prop) (μ:σ->Nat) (s:σ) (Q:Ex->Env->Prop):Ex->Env->Prop:=fun x E'=>match x with
 | .n=>∃ s',hdL K D (E'.norm K)=mkV K (mO l (v s')) [] []/\J s'/\μ s'<μ s
 | x=>Q x E'
section
variable {w:Wk} {E:Env} {st:List Fr} {is:List GI} {bs:List Nat} {acc:List Rcd}
def LHD (w:Wk) (c:Cmd) (st:List Fr) (D:List Nat) (E:Env):Prop:=∃ J:Nat->Env->Prop,(∃ n,J n E)/\∀ n E,J n E->wpB w.P w.md w.ks c (fun x E'=>match x with | .n=>∃ m,m<n/\J m (hdL w.ks D (E'.norm w.ks)) | x=>T w st x E') E
def LH (w:Wk) (c:Cmd) (st:List Fr) (E:Env):Prop:=∃ D:List Nat,LHD w c st D (hdL w.ks D E)
theorem fB {c:Cmd} (D:List Nat) (h:LHD w c st D (hdL w.ks D E)):LH w c st E:=⟨D,h⟩
theorem ap4 {σ:Type} (v:σ->List (Nat × AV)) (J:σ->Prop) (μ:σ->Nat) (s0:σ) {c:Cmd} {P:Program} {md:iA} {ks:Nat} {l:List (Nat × AV)} (hP:w.P=P) (hm:w.md=md) (hk:w.ks=ks) (hE:mO l (v s0)=l) (h0:J s0)
  (step:∀ s,J s->∀ w':Wk,w'.P=P->w'.md=md->w'.ks=ks->w'.Q=LQ ks l v J μ s (T w st)->C w' c [] (mkV ks (mO l (v s)) [] [])):LH w c st (mkV ks l [] []):=by
 refine⟨[],fun n F=>∃ s,F=mkV ks (mO l (v s)) [] []/\J s/\μ s=n,⟨_,s0,by rw[hE]; rfl,h0,rfl⟩,?_⟩;rintro n F ⟨s,rfl,hs,rfl⟩;refine pO c (step s hs { w with Q:=LQ ks l v J μ s (T w st) } hP hm hk rfl) fun x E1 h1=>?_
 rw[adl] at h1;cases x with
 | n=>obtain⟨s',e1,e2,e3⟩:=h1; rw[hk]; exact⟨_,e3,s',e1,e2,rfl⟩
 | r=>exact h1
 | e id=>exact h1
theorem ap5 {σ:Type} (D:List Nat) (v:σ->List (Nat × AV)) (J:σ->Prop) (μ:σ->Nat) (s0:σ) {c:Cmd} {P:Program} {md:iA} {ks:Nat} {l:List (Nat × AV)} (hP:w.P=P) (hm:w.md=md) (hk:w.ks=ks) (hE:mO l (v s0)=l) (h0:J s0)
  (step:∀ s,J s->∀ w':Wk,w'.P=P->w'.md=md->w'.ks=ks->w'.Q=LQD D ks l v J μ s (T w st)->C w' c [] (mkV ks (mO l (v s)) [] [])):LHD w c st D (mkV ks l [] []):=by
 refine⟨fun n F=>∃ s,F=mkV ks (mO l (v s)) [] []/\J s/\μ s=n,⟨_,s0,by rw[hE],h0,rfl⟩,?_⟩;rintro n F ⟨s,rfl,hs,rfl⟩;refine pO c (step s hs { w with Q:=LQD D ks l v J μ s (T w st) } hP hm hk rfl) fun x E1 h1=>?_
 rw[adl] at h1;cases x with
 | n=>obtain⟨s',e1,e2,e3⟩:=h1; rw[hk]; exact⟨_,e3,s',e1,e2,rfl⟩
 | r=>exact h1
 | e id=>exact h1
end
theorem ap6 {P:Program} {f nt:Nat} {rs:List RV} {cmd:Cmd} (hm:P.follows .mixedOrders=true) (hc:i8 P f=some (nt,rs,cmd)) (md:iA) (ks:Nat) (bs:List Bool) {args outs:List AV} {ret:AV}
  (ac:args.length<=nt/\args.length<=32) (eo:outs.length=args.length) (ba:d9 bs args=true)
  (h:∀ w:Wk,w.P=P->w.md=md->w.ks=ks->w.Q=Fin rs bs args ret outs->C w cmd [] (mkV ks (bO 0 bs args++eN 0 bs args) (bO 0 bs args++eN 0 bs args) [])):mU P f args ret outs:=by
 refine apZ hm hc md ks bs ac eo ba (pO cmd ?_ fun _ _ h=>h);rw[ap3 ks];exact pO cmd (h ⟨P,md,ks,Fin rs bs args ret outs⟩ rfl rfl rfl rfl) fun x E hx=>by rw[adl] at hx; exact hx
end
theorem adq (k:IntKind) (a b:Int):j4 .eql (.int k a) (.int k b)=some (.bool (decide (a=b))):=by
 have h:(a == b)=decide (a=b):=by rw[lX3]; simp
 simp[j4,ahQ,agd,h]
theorem adr (k:IntKind) (a b:Int):j4 .neq (.int k a) (.int k b)=some (.bool (!decide (a=b))):=by
 have h:(a == b)=decide (a=b):=by rw[lX3]; simp
 simp[j4,ahQ,agd,bne,h]
theorem ads (a b:List UInt8):j4 .eql (.str a) (.str b)=some (.bool (decide (a=b))):=by
 have h:(a == b)=decide (a=b):=by rw[lX3]; simp
 simp[j4,ann,h]
theorem adt (a b:List UInt8):j4 .neq (.str a) (.str b)=some (.bool (!decide (a=b))):=by
 have h:(a == b)=decide (a=b):=by rw[lX3]; simp
 simp[j4,ann,h]
theorem S1 :
 (AV.owns .undef=false) /\
 (∀ b,AV.owns (.bool b)=false) /\
 (∀ k n,AV.owns (.int k n)=false) /\
 (∀ s,AV.owns (.str s)=false) /\
 (∀ s es,AV.owns (.own s es)=true) /\
 (∀ s es,AV.owns (.ext s es)=false) /\
 (∀ v s es,AV.owns (.extv v s es)=false) /\
 (∀ cs,AV.owns (.box cs)=true) /\
 (∀ cs,AV.owns (.xbox cs)=false) /\
 (∀ cs,AV.owns (.agg cs)=bV cs) /\
 (∀ cs,AV.owns (.tup cs)=bV cs) /\
 (∀ r e p,AV.owns (.lnk r e p)=false) /\
 (∀ r e p s lo n,AV.owns (.sub r e p s lo n)=false) /\
 (∀ r e p st,AV.owns (.ref r e p st)=false) /\
 (∀ f cs,AV.owns (.fn f cs)=bV cs) /\
 (bV []=false) /\
 (∀ a l,bV (a::l)=(AV.owns a || bV l)) /\
 (AV.isRoot .undef=false) /\
 (∀ b,AV.isRoot (.bool b)=false) /\
 (∀ k n,AV.isRoot (.int k n)=false) /\
 (∀ s,AV.isRoot (.str s)=false) /\
 (∀ s es,AV.isRoot (.own s es)=true) /\
 (∀ s es,AV.isRoot (.ext s es)=false) /\
 (∀ v s es,AV.isRoot (.extv v s es)=false) /\
 (∀ cs,AV.isRoot (.box cs)=true) /\
 (∀ cs,AV.isRoot (.xbox cs)=false) /\
 (∀ cs,AV.isRoot (.agg cs)=false) /\
 (∀ cs,AV.isRoot (.tup cs)=false) /\
 (∀ r e p,AV.isRoot (.lnk r e p)=false) /\
 (∀ r e p s lo n,AV.isRoot (.sub r e p s lo n)=false) /\
 (∀ r e p st,AV.isRoot (.ref r e p st)=false) /\
 (∀ f cs,AV.isRoot (.fn f cs)=false) /\
 (cellsOf .undef=[.undef]) /\
 (∀ b,cellsOf (.bool b)=[.bool b]) /\
 (∀ k n,cellsOf (.int k n)=[.int k n]) /\
 (∀ s,cellsOf (.str s)=[.str s]) /\
 (∀ s es,cellsOf (.own s es)=[.own s es]) /\
 (∀ s es,cellsOf (.ext s es)=[.ext s es]) /\
 (∀ v s es,cellsOf (.extv v s es)=[.extv v s es]) /\
 (∀ cs,cellsOf (.box cs)=[.box cs]) /\
 (∀ cs,cellsOf (.xbox cs)=[.xbox cs]) /\
 (∀ cs,cellsOf (.agg cs)=cs) /\
 (∀ cs,cellsOf (.tup cs)=[.tup cs]) /\
 (∀ r e p,cellsOf (.lnk r e p)=[.lnk r e p]) /\
 (∀ r e p s lo n,cellsOf (.sub r e p s lo n)=[.sub r e p s lo n]) /\
 (∀ r e p st,cellsOf (.ref r e p st)=[.ref r e p st]) /\
 (∀ f cs,cellsOf (.fn f cs)=[.fn f cs]) /\
 (plain .undef=false) /\
 (∀ b,plain (.bool b)=true) /\
 (∀ k n,plain (.int k n)=true) /\
 (∀ s,plain (.str s)=true) /\
 (∀ s es,plain (.own s es)=true) /\
 (∀ s es,plain (.ext s es)=true) /\
 (∀ v s es,plain (.extv v s es)=true) /\
 (∀ cs,plain (.box cs)=true) /\
 (∀ cs,plain (.xbox cs)=true) /\
 (∀ cs,plain (.agg cs)=true) /\
 (∀ cs,plain (.tup cs)=true) /\
 (∀ r e p,plain (.lnk r e p)=false) /\
 (∀ r e p s lo n,plain (.sub r e p s lo n)=false) /\
 (∀ r e p st,plain (.ref r e p st)=false) /\
 (∀ f cs,plain (.fn f cs)=true) /\
 (mD .undef=false) /\
 (∀ b,mD (.bool b)=true) /\
 (∀ k n,mD (.int k n)=true) /\
 (∀ s,mD (.str s)=true) /\
 (∀ s es,mD (.own s es)=true) /\
 (∀ s es,mD (.ext s es)=true) /\
 (∀ v s es,mD (.extv v s es)=true) /\
 (∀ cs,mD (.box cs)=true) /\
 (∀ cs,mD (.xbox cs)=true) /\
 (∀ cs,mD (.agg cs)=false) /\
 (∀ cs,mD (.tup cs)=false) /\
 (∀ r e p,mD (.lnk r e p)=false) /\
 (∀ r e p s lo n,mD (.sub r e p s lo n)=false) /\
 (∀ r e p st,mD (.ref r e p st)=false) /\
 (∀ f cs,mD (.fn f cs)=true) /\
 (yV []=true) /\
 (∀ (a:AV) (l:List AV),yV (a::l)=(mD a && yV l)) /\
 (noLk .undef=true) /\
 (∀ b,noLk (.bool b)=true) /\
 (∀ k n,noLk (.int k n)=true) /\
 (∀ s,noLk (.str s)=true) /\
 (∀ s es,noLk (.own s es)=true) /\
 (∀ s es,noLk (.ext s es)=true) /\
 (∀ v s es,noLk (.extv v s es)=true) /\
 (∀ cs,noLk (.box cs)=dH cs) /\
 (∀ cs,noLk (.xbox cs)=true) /\
 (∀ cs,noLk (.agg cs)=dH cs) /\
 (∀ cs,noLk (.tup cs)=dH cs) /\
 (∀ r e p,noLk (.lnk r e p)=false) /\
 (∀ r e p s lo n,noLk (.sub r e p s lo n)=false) /\
 (∀ r e p st,noLk (.ref r e p st)=false) /\
 (∀ f cs,noLk (.fn f cs)=dH cs) /\
 (dH []=true) /\
 (∀ (a:AV) (l:List AV),dH (a::l)=(noLk a && dH l)) /\
 (oG .undef=false) /\
 (∀ b,oG (.bool b)=false) /\
 (∀ k n,oG (.int k n)=false) /\
 (∀ s,oG (.str s)=false) /\
 (∀ s es,oG (.own s es)=false) /\
 (∀ s es,oG (.ext s es)=true) /\
 (∀ v s es,oG (.extv v s es)=false) /\
 (∀ cs,oG (.box cs)=dY cs) /\
 (∀ cs,oG (.xbox cs)=true) /\
 (∀ cs,oG (.agg cs)=dY cs) /\
 (∀ cs,oG (.tup cs)=dY cs) /\
 (∀ r e p,oG (.lnk r e p)=false) /\
 (∀ r e p s lo n,oG (.sub r e p s lo n)=false) /\
 (∀ r e p st,oG (.ref r e p st)=false) /\
 (∀ f cs,oG (.fn f cs)=dY cs) /\
 (dY []=false) /\
 (∀ (a:AV) (l:List AV),dY (a::l)=(oG a || dY l)) /\
 (vlv .undef=[]) /\
 (∀ b,vlv (.bool b)=[]) /\
 (∀ k n,vlv (.int k n)=[]) /\
 (∀ s,vlv (.str s)=[]) /\
 (∀ s es,vlv (.own s es)=[]) /\
 (∀ s es,vlv (.ext s es)=[]) /\
 (∀ v s es,vlv (.extv v s es)=[(v,s,es)]) /\
 (∀ cs,vlv (.box cs)=dZ cs) /\
 (∀ cs,vlv (.xbox cs)=[]) /\
 (∀ cs,vlv (.agg cs)=dZ cs) /\
 (∀ cs,vlv (.tup cs)=dZ cs) /\
 (∀ r e p,vlv (.lnk r e p)=[]) /\
 (∀ r e p s lo n,vlv (.sub r e p s lo n)=[]) /\
 (∀ r e p st,vlv (.ref r e p st)=[]) /\
 (∀ f cs,vlv (.fn f cs)=dZ cs) /\
 (dZ []=[]) /\
 (∀ (a:AV) (l:List AV),dZ (a::l)=vlv a++dZ l) /\
 (jV .undef=true) /\
 (∀ b,jV (.bool b)=true) /\
 (∀ k n,jV (.int k n)=true) /\
 (∀ s,jV (.str s)=true) /\
 (∀ s es,jV (.own s es)=false) /\
 (∀ s es,jV (.ext s es)=true) /\
 (∀ v s es,jV (.extv v s es)=true) /\
 (∀ cs,jV (.box cs)=true) /\
 (∀ cs,jV (.xbox cs)=true) /\
 (∀ cs,jV (.agg cs)=oB cs) /\
 (∀ cs,jV (.tup cs)=true) /\
 (∀ r e p,jV (.lnk r e p)=false) /\
 (∀ r e p s lo n,jV (.sub r e p s lo n)=false) /\
 (∀ r e p st,jV (.ref r e p st)=false) /\
 (∀ f cs,jV (.fn f cs)=oB cs) /\
 (oB []=true) /\
 (∀ (a:AV) (l:List AV),oB (a::l)=(jV a && oB l)) /\
 (tvB .undef=some .undef) /\
 (∀ b,tvB (.bool b)=some (.bool b)) /\
 (∀ k n,tvB (.int k n)=some (.int k n)) /\
 (∀ s,tvB (.str s)=some (.str s)) /\
 (∀ s es,tvB (.own s es)=some (.sl s es)) /\
 (∀ s es,tvB (.ext s es)=some (.sl s es)) /\
 (∀ v s es,tvB (.extv v s es)=some (.sl s es)) /\
 (∀ cs,tvB (.box cs)=none) /\
 (∀ cs,tvB (.xbox cs)=none) /\
 (∀ cs,tvB (.agg cs)=none) /\
 (∀ cs,tvB (.tup cs)=none) /\
 (∀ r e p,tvB (.lnk r e p)=none) /\
 (∀ r e p s lo n,tvB (.sub r e p s lo n)=none) /\
 (∀ r e p st,tvB (.ref r e p st)=none) /\
 (∀ f cs,tvB (.fn f cs)=none) /\
 (acG []=some []) /\
 (∀ (a:AV) (l:List AV),acG (a::l)=Option.bind (tvB a) fun (t:TV)=>Option.map (fun (x:List TV)=>t::x) (acG l)) /\
 (AV.tv .undef=some .undef) /\
 (∀ b,AV.tv (.bool b)=some (.bool b)) /\
 (∀ k n,AV.tv (.int k n)=some (.int k n)) /\
 (∀ s,AV.tv (.str s)=some (.str s)) /\
 (∀ s es,AV.tv (.own s es)=some (.sl s es)) /\
 (∀ s es,AV.tv (.ext s es)=none) /\
 (∀ v s es,AV.tv (.extv v s es)=none) /\
 (∀ cs,AV.tv (.box cs)=none) /\
 (∀ cs,AV.tv (.xbox cs)=none) /\
 (∀ cs,AV.tv (.agg cs)=none) /\
 (∀ cs,AV.tv (.tup cs)=none) /\
 (∀ r e p,AV.tv (.lnk r e p)=none) /\
 (∀ r e p s lo n,AV.tv (.sub r e p s lo n)=none) /\
 (∀ r e p st,AV.tv (.ref r e p st)=none) /\
 (∀ f cs,AV.tv (.fn f cs)=none) /\
 (tvs []=some []) /\
 (∀ a l,tvs (a::l)=Option.bind (AV.tv a) fun (t:TV)=>Option.map (fun (x:List TV)=>t::x) (tvs l)) /\
 (lks .undef=[]) /\
 (∀ b,lks (.bool b)=[]) /\
 (∀ k n,lks (.int k n)=[]) /\
 (∀ s,lks (.str s)=[]) /\
 (∀ s es,lks (.own s es)=[]) /\
 (∀ s es,lks (.ext s es)=[]) /\
 (∀ v s es,lks (.extv v s es)=[]) /\
 (∀ cs,lks (.box cs)=pA cs) /\
 (∀ cs,lks (.xbox cs)=[]) /\
 (∀ cs,lks (.agg cs)=pA cs) /\
 (∀ cs,lks (.tup cs)=pA cs) /\
 (∀ r e p,lks (.lnk r e p)=[r]) /\
 (∀ r e p s lo n,lks (.sub r e p s lo n)=[r]) /\
 (∀ r e p st,lks (.ref r e p st)=[r]) /\
 (∀ f cs,lks (.fn f cs)=pA cs) /\
 (pA []=[]) /\
 (∀ (a:AV) (l:List AV),pA (a::l)=lks a++pA l) /\
 (∀ E,dF E .undef=false) /\
 (∀ E b,dF E (.bool b)=true) /\
 (∀ E k n,dF E (.int k n)=true) /\
 (∀ E s,dF E (.str s)=true) /\
 (∀ E s es,dF E (.own s es)=true) /\
 (∀ E s es,dF E (.ext s es)=true) /\
 (∀ E v s es,dF E (.extv v s es)=true) /\
 (∀ E cs,dF E (.box cs)=true) /\
 (∀ E cs,dF E (.xbox cs)=true) /\
 (∀ E cs,dF E (.agg cs)=true) /\
 (∀ E cs,dF E (.tup cs)=true) /\
 (∀ E r e p,dF E (.lnk r e p)=Option.isSome (aK E r e p)) /\
 (∀ E r e p s lo n,dF E (.sub r e p s lo n)=Option.isSome (aK E r e p)) /\
 (∀ E r e p st,dF E (.ref r e p st)=(e == fX (Env.ep E r) p && AV.isRoot (Env.f E r) && Option.isSome (b9 (Env.f E r) p))) /\
 (∀ E f cs,dF E (.fn f cs)=true) /\
 (∀ E,bB E .undef=none) /\
 (∀ E b,bB E (.bool b)=none) /\
 (∀ E k n,bB E (.int k n)=none) /\
 (∀ E s,bB E (.str s)=none) /\
 (∀ E s es,bB E (.own s es)=some (s,es)) /\
 (∀ E s es,bB E (.ext s es)=some (s,es)) /\
 (∀ E v s es,bB E (.extv v s es)=some (s,es)) /\
 (∀ E cs,bB E (.box cs)=none) /\
 (∀ E cs,bB E (.xbox cs)=none) /\
 (∀ E cs,bB E (.agg cs)=none) /\
 (∀ E cs,bB E (.tup cs)=none) /\
 (∀ E r e p,bB E (.lnk r e p)=aK E r e p) /\
 (∀ E r e p s lo n,bB E (.sub r e p s lo n)=Option.bind (aK E r e p) fun (x:Nat × List (List TV))=>if Prod.fst x=s/\lo+n<=List.length (Prod.snd x) then some (s,List.take n (List.drop lo (Prod.snd x))) else none) /\
 (∀ E r e p st,bB E (.ref r e p st)=none) /\
 (∀ E f cs,bB E (.fn f cs)=none) /\
 (∀ E,bN E .undef=some (.undef,E)) /\
 (∀ E b,bN E (.bool b)=some (.bool b,E)) /\
 (∀ E k n,bN E (.int k n)=some (.int k n,E)) /\
 (∀ E s,bN E (.str s)=some (.str s,E)) /\
 (∀ E s es,bN E (.own s es)=some (.own s es,E)) /\
 (∀ E s es,bN E (.ext s es)=some (.ext s es,E)) /\
 (∀ E v s es,bN E (.extv v s es)=some (.extv v s es,E)) /\
 (∀ E cs,bN E (.box cs)=none) /\
 (∀ E cs,bN E (.xbox cs)=some (.xbox cs,E)) /\
 (∀ E cs,bN E (.agg cs)=Option.map (fun (x:List AV × Env)=>(.agg (Prod.fst x),Prod.snd x)) (i5 E cs)) /\
 (∀ E cs,bN E (.tup cs)=none) /\
 (∀ E r e p,bN E (.lnk r e p)=Option.map (fun (x:Nat × List (List TV))=>(.own (Prod.fst x) (Prod.snd x),takeN E r p)) (aK E r e p)) /\
 (∀ E r e p s lo n,bN E (.sub r e p s lo n)=Option.bind (aK E r e p) fun (x:Nat × List (List TV))=>if Prod.fst x=s/\lo+n<=List.length (Prod.snd x) then some (.own s (List.take n (List.drop lo (Prod.snd x))),takeN E r p) else none) /\
 (∀ E r e p st,bN E (.ref r e p st)=some (.ref r e p st,E)) /\
 (∀ E f cs,bN E (.fn f cs)=some (.fn f cs,E)) /\
 (∀ E,i5 E []=some ([],E)) /\
 (∀ E a l,i5 E (a::l)=Option.bind (bN E a) fun (x:AV × Env)=>Option.map (fun (y:List AV × Env)=>(Prod.fst x::Prod.fst y,Prod.snd y)) (i5 (Prod.snd x) l)) /\
 (∀ E lr,brw E lr .undef=some .undef) /\
 (∀ E lr b,brw E lr (.bool b)=some (.bool b)) /\
 (∀ E lr k n,brw E lr (.int k n)=some (.int k n)) /\
 (∀ E lr s,brw E lr (.str s)=some (.str s)) /\
 (∀ E lr s es,brw E lr (.own s es)=some (.ext s es)) /\
 (∀ E lr s es,brw E lr (.ext s es)=some (.ext s es)) /\
 (∀ E lr v s es,brw E lr (.extv v s es)=some (.extv v s es)) /\
 (∀ E lr cs,brw E lr (.box cs)=none) /\
 (∀ E lr cs,brw E lr (.xbox cs)=some (.xbox cs)) /\
 (∀ E lr cs,brw E lr (.agg cs)=Option.map .agg (o9 E lr cs)) /\
 (∀ E lr cs,brw E lr (.tup cs)=none) /\
 (∀ E lr r e p,brw E lr (.lnk r e p)=if some r=lr then none else Option.map (fun (x:Nat × List (List TV))=>.ext (Prod.fst x) (Prod.snd x)) (aK E r e p)) /\
 (∀ E lr r e p s lo n,brw E lr (.sub r e p s lo n)=if some r=lr then none else Option.bind (aK E r e p) fun (x:Nat × List (List TV))=>if Prod.fst x=s/\lo+n<=List.length (Prod.snd x) then some (.ext s (List.take n (List.drop lo (Prod.snd x)))) else none) /\
 (∀ E lr r e p st,
 brw E lr (AV.ref r e p st) =
  if some r=lr then none
  else
   match e == fX (Env.ep E r) p,AV.isRoot (Env.f E r),b9 (Env.f E r) p with
   | true,true,some (AV.box cs)=>if St.i st=0/\St.j st<=List.length cs then Option.map AV.xbox (acG (List.drop (St.j st) cs)) else none
   | true,true,some (AV.own s es)=>if St.s st=s/\St.j st<=s then Option.map (fun (row:List TV)=>AV.xbox (List.drop (St.j st) row)) es[St.i st]? else none
   | x,x_1,x_2=>none) /\
 (∀ E lr f cs,brw E lr (.fn f cs)=Option.map (.fn f) (o9 E lr cs)) /\
 (∀ E lr,o9 E lr []=some []) /\
 (∀ E lr a l,o9 E lr (a::l)=Option.bind (brw E lr a) fun (x:AV)=>Option.map (fun (x_1:List AV)=>x::x_1) (o9 E lr l)) /\
 (∀ E ks,oO E ks .undef=.undef) /\
 (∀ E ks b,oO E ks (.bool b)=.bool b) /\
 (∀ E ks k n,oO E ks (.int k n)=.int k n) /\
 (∀ E ks s,oO E ks (.str s)=.str s) /\
 (∀ E ks s es,oO E ks (.own s es)=.own s es) /\
 (∀ E ks s es,oO E ks (.ext s es)=.ext s es) /\
 (∀ E ks v s es,oO E ks (.extv v s es)=.extv v s es) /\
 (∀ E ks cs,oO E ks (.box cs)=.box (yW E ks cs)) /\
 (∀ E ks cs,oO E ks (.xbox cs)=.xbox cs) /\
 (∀ E ks cs,oO E ks (.agg cs)=.agg (yW E ks cs)) /\
 (∀ E ks cs,oO E ks (.tup cs)=.tup (yW E ks cs)) /\
 (∀ E ks r e p,oO E ks (.lnk r e p)=if oH E ks r e p=true then .lnk r 0 p else .undef) /\
 (∀ E ks r e p s lo n,oO E ks (.sub r e p s lo n)=if oH E ks r e p=true then .sub r 0 p s lo n else .undef) /\
 (∀ E ks r e p st,oO E ks (.ref r e p st)=if oH E ks r e p=true then .ref r 0 p st else .undef) /\
 (∀ E ks f cs,oO E ks (.fn f cs)=.fn f (yW E ks cs)) /\
 (∀ E ks,yW E ks []=[]) /\
 (∀ E ks a l,yW E ks (a::l)=oO E ks a::yW E ks l) /\
 (∀ E,cC E .undef=none) /\
 (∀ E b,cC E (.bool b)=none) /\
 (∀ E k n,cC E (.int k n)=none) /\
 (∀ E s,cC E (.str s)=none) /\
 (∀ E s es,cC E (.own s es)=none) /\
 (∀ E s es,cC E (.ext s es)=none) /\
 (∀ E v s es,cC E (.extv v s es)=none) /\
 (∀ E cs,cC E (.box cs)=none) /\
 (∀ E cs,cC E (.xbox cs)=none) /\
 (∀ E cs,cC E (.agg cs)=none) /\
 (∀ E cs,cC E (.tup cs)=none) /\
 (∀ E r e p,cC E (.lnk r e p)=Option.map (fun (x:Nat × List (List TV))=>(r,p,.own (Prod.fst x) (Prod.snd x))) (aK E r e p)) /\
 (∀ E r e p s lo n,cC E (.sub r e p s lo n)=none) /\
 (∀ E r e p st,cC E (.ref r e p st)=cC E (.ref r e p st)) /\
 (∀ E f cs,cC E (.fn f cs)=none) /\
 (∀ E,iH E .undef=none) /\
 (∀ E b,iH E (.bool b)=none) /\
 (∀ E k n,iH E (.int k n)=none) /\
 (∀ E s,iH E (.str s)=none) /\
 (∀ E s es,iH E (.own s es)=none) /\
 (∀ E s es,iH E (.ext s es)=none) /\
 (∀ E v s es,iH E (.extv v s es)=none) /\
 (∀ E cs,iH E (.box cs)=none) /\
 (∀ E cs,iH E (.xbox cs)=none) /\
 (∀ E cs,iH E (.agg cs)=none) /\
 (∀ E cs,iH E (.tup cs)=none) /\
 (∀ E r e p,iH E (.lnk r e p)=none) /\
 (∀ E r e p s lo n,iH E (.sub r e p s lo n)=none) /\
 (∀ E r e p st,iH E (.ref r e p st)=iH E (.ref r e p st)) /\
 (∀ E f cs,iH E (.fn f cs)=none) /\
 (TV.av .undef=.undef) /\
 (∀ b,TV.av (.bool b)=.bool b) /\
 (∀ k n,TV.av (.int k n)=.int k n) /\
 (∀ s,TV.av (.str s)=.str s) /\
 (∀ s es,TV.av (.sl s es)=.own s es) /\
 (TV.xv .undef=.undef) /\
 (∀ b,TV.xv (.bool b)=.bool b) /\
 (∀ k n,TV.xv (.int k n)=.int k n) /\
 (∀ s,TV.xv (.str s)=.str s) /\
 (∀ s es,TV.xv (.sl s es)=.ext s es) /\
 (ak1 .undef=.undef) /\
 (∀ (b:Bool),ak1 (.bool b)=.bool b) /\
 (∀ (k:IntKind) (n:Int),ak1 (.int k n)=.int k n) /\
 (∀ (s:List UInt8),ak1 (.str s)=.str s) /\
 (∀ (s:Nat) (es:List (List TV)),ak1 (.sl s es)=.undef) /\
 (lA .undef=false) /\
 (∀ (b:Bool),lA (.bool b)=true) /\
 (∀ (k:IntKind) (n:Int),lA (.int k n)=true) /\
 (∀ (s:List UInt8),lA (.str s)=true) /\
 (∀ (s:Nat) (es:List (List TV)),lA (.sl s es)=false) /\
 (b5 .undef=false) /\
 (∀ (b:Bool),b5 (.bool b)=true):=by
 and_intros <;> intros <;> first | rfl | (cases ‹List Bool› <;> rfl) | exact adq _ _ _ | exact adr _ _ _ | exact ads _ _ | exact adt _ _ | exact aoA | exact ai9 | exact aja | exact aoB | exact adl | exact ai8 | exact adm | exact adn | exact ah0 _ _ | exact acQ _ _ | exact qS _ | exact acP | exact ado _ _ _ _ _ _ | exact adp _ _ _ _ _ _ | exact zP _ _ _ _ _ _ | exact zQ _ _ _ _ | (split <;> rfl) | (cases ‹Bool› <;> rfl) | (simp; done) | (simp only[ev]; cases val _ _ <;> rfl) | (simp[j4,ahQ,agd,ann,beq_eq_decide,bne]; done) | simp[j4,ahQ,agd,eqC,Fin,ai5,T,aE,I.opds,I.der,I.dsts,acM,CF,GF,HF]
theorem S2 :
 (∀ (k:IntKind) (n:Int),b5 (.int k n)=true) /\
 (∀ (s:List UInt8),b5 (.str s)=true) /\
 (∀ (s:Nat) (es:List (List TV)),b5 (.sl s es)=true) /\
 (∀ t,dC [] t=.undef) /\
 (∀ (k t:Nat) (a:AV) (l:List (Nat × AV)),dC ((k,a)::l) t=if k=t then a else dC l t) /\
 (∀ (t:Nat),iG [] t=(0,0)) /\
 (∀ (k t:Nat) (a:Nat × Nat) (l:List (Nat × Nat × Nat)),iG ((k,a)::l) t=if k=t then a else iG l t) /\
 (∀ (t:Nat) (x:AV),qO [] t x=[(t,x)]) /\
 (∀ (k t:Nat) (a x:AV) (l:List (Nat × AV)),qO ((k,a)::l) t x=if k=t then (t,x)::l else (k,a)::qO l t x) /\
 (∀ (t:Nat) (x:Nat × Nat),acN [] t x=[(t,x)]) /\
 (∀ (k t:Nat) (a x:Nat × Nat) (l:List (Nat × Nat × Nat)),acN ((k,a)::l) t x=if k=t then (t,x)::l else (k,a)::acN l t x) /\
 (∀ E n,val E (O.t n)=Env.f E n) /\
 (∀ E a,val E (O.c a)=a) /\
 (∀ E n,fK E (O.t n)=if AV.owns (Env.f E n)=true then (Env.f E n,Env.put E n .undef) else (Env.f E n,E)) /\
 (∀ E a,fK E (O.c a)=(a,E)) /\
 (∀ E x,dR E x=bN (Prod.snd (fK E x)) (Prod.fst (fK E x))) /\
 (∀ E r e p,
 aK E r e p =
  if e=fX (Env.ep E r) p then
   match AV.isRoot (Env.f E r),b9 (Env.f E r) p with
   | true,some (AV.own s es)=>some (s,es)
   | x,x_1=>none
  else none) /\
 (∀ E r p,takeN E r p=if List.isEmpty p=true then Env.put E r .undef else Env.set0 E r (cX (Env.f E r) p .undef)) /\
 (∀ E r e p,vld E r e p=(e == fX (Env.ep E r) p && AV.isRoot (Env.f E r) && Option.isSome (b9 (Env.f E r) p))) /\
 (∀ E ks r e p,oH E ks r e p=(c7 ks r && e == fX (Env.ep E r) p && AV.isRoot (Env.f E r) && Option.isSome (b9 (Env.f E r) p))) /\
 (∀ (e:Nat × Nat),fX e []=if true=true then Prod.fst e else Prod.snd e) /\
 (∀ (e:Nat × Nat) (s:St) (p:bA),fX e (s::p)=Prod.snd e) /\
 (∀ E x,mF E none x=E) /\
 (∀ E d x,mF E (some d) x=Env.put E d x) /\
 (∀ (row:List AV) (j:Nat) (ts:List AV),lay row j ts=List.take j row++ts++List.drop (j+List.length ts) row) /\
 (∀ (row:List TV) (j:Nat) (ts:List TV),lay row j ts=List.take j row++ts++List.drop (j+List.length ts) row) /\
 (∀ E r e p st sz,
 jU E r e p st sz =
  if e=fX (Env.ep E r) p then
   match AV.isRoot (Env.f E r),b9 (Env.f E r) p with
   | true,some (AV.box cs)=>if St.i st=0/\St.j st+sz<=List.length cs then some (dM r (Prod.snd (Env.ep E r)) p (St.j st) (List.take sz (List.drop (St.j st) cs))) else none
   | true,some (AV.own s es)=>if St.s st=s then Option.bind es[St.i st]? fun (row:List TV)=>if St.j st+sz<=List.length row then some (mS r (Prod.snd (Env.ep E r)) p (St.i st) s (St.j st) (List.take sz (List.drop (St.j st) row))) else none else none
   | x,x_1=>none
  else none) /\
 (∀ (cs:List AV),oneOf cs true=some (.agg cs)) /\
 (∀ (a:AV),oneOf [a] false=some a) /\
 (∀ E,j8 E []=some ([],E)) /\
 (∀ E x l,j8 E (x::l)=Option.bind (dR E x) fun (g:AV × Env)=>if plain (Prod.fst g)=true then Option.bind (tvs (cellsOf (Prod.fst g))) fun (ts:List TV)=>Option.map (fun (y:List (List TV) × Env)=>(ts::Prod.fst y,Prod.snd y)) (j8 (Prod.snd g) l) else none) /\
 (∀ E cs,mK E cs []=some (cs,E)) /\
 (∀ E cs a b x l,mK E cs ((a,b,x)::l)=if List.length (cellsOf (Prod.fst (fK E x)))=b/\a+b<=List.length cs/\dF (Prod.snd (fK E x)) (Prod.fst (fK E x))=true then mK (Prod.snd (fK E x)) (lay cs a (cellsOf (Prod.fst (fK E x)))) l else none) /\
 (∀ E n,cT E none n=some ↑n) /\
 (∀ E x n,
 cT E (some x) n =
  match val E x with
  | AV.int k n=>some n
  | x=>none) /\
 (∀ (r e:Nat) (p:bA) (j:Nat),dM r e p j []=[]) /\
 (∀ r e p j l,dM r e p j (.undef::l)=.undef::dM r e p (j+1) l) /\
 (∀ r e p j l b,dM r e p j (.bool b::l)=.bool b::dM r e p (j+1) l) /\
 (∀ r e p j l k n,dM r e p j (.int k n::l)=.int k n::dM r e p (j+1) l) /\
 (∀ r e p j l s,dM r e p j (.str s::l)=.str s::dM r e p (j+1) l) /\
 (∀ r e p j l s es,dM r e p j (.own s es::l)=.lnk r e (p++[St.mk 0 0 j])::dM r e p (j+1) l) /\
 (∀ r e p j l s es,dM r e p j (.ext s es::l)=.ext s es::dM r e p (j+1) l) /\
 (∀ r e p j l v s es,dM r e p j (.extv v s es::l)=.extv v s es::dM r e p (j+1) l) /\
 (∀ r e p j l cs,dM r e p j (.box cs::l)=.box cs::dM r e p (j+1) l) /\
 (∀ r e p j l cs,dM r e p j (.xbox cs::l)=.xbox cs::dM r e p (j+1) l) /\
 (∀ r e p j l cs,dM r e p j (.agg cs::l)=.agg cs::dM r e p (j+1) l) /\
 (∀ r e p j l cs,dM r e p j (.tup cs::l)=.tup cs::dM r e p (j+1) l) /\
 (∀ r e p j l r2 e2 p2,dM r e p j (.lnk r2 e2 p2::l)=.lnk r2 e2 p2::dM r e p (j+1) l) /\
 (∀ r e p j l r2 e2 p2 s lo n,dM r e p j (.sub r2 e2 p2 s lo n::l)=.sub r2 e2 p2 s lo n::dM r e p (j+1) l) /\
 (∀ r e p j l r2 e2 p2 st,dM r e p j (.ref r2 e2 p2 st::l)=.ref r2 e2 p2 st::dM r e p (j+1) l) /\
 (∀ r e p j l f cs,dM r e p j (.fn f cs::l)=.fn f cs::dM r e p (j+1) l) /\
 (∀ (r e:Nat) (p:bA) (i s0 j:Nat),mS r e p i s0 j []=[]) /\
 (∀ r e p i s0 j l,mS r e p i s0 j (.undef::l)=.undef::mS r e p i s0 (j+1) l) /\
 (∀ r e p i s0 j l b,mS r e p i s0 j (.bool b::l)=.bool b::mS r e p i s0 (j+1) l) /\
 (∀ r e p i s0 j l k n,mS r e p i s0 j (.int k n::l)=.int k n::mS r e p i s0 (j+1) l) /\
 (∀ r e p i s0 j l s,mS r e p i s0 j (.str s::l)=.str s::mS r e p i s0 (j+1) l) /\
 (∀ r e p i s0 j l s es,mS r e p i s0 j (.sl s es::l)=.lnk r e (p++[St.mk i s0 j])::mS r e p i s0 (j+1) l) /\
 (eqC [] [] []=some true) /\
 (∀ ks k a b l m,eqC (0::ks) (.int k a::l) (.int k b::m)=if k=k then Option.map (fun (x:Bool)=>a == b && x) (eqC ks l m) else none) /\
 (∀ ks a b l m,eqC (1::ks) (.str a::l) (.str b::m)=Option.map (fun (x:Bool)=>a == b && x) (eqC ks l m)) /\
 (∀ ks a b l m,eqC (2::ks) (.bool a::l) (.bool b::m)=Option.map (fun (x:Bool)=>a == b && x) (eqC ks l m)) /\
 (∀ (k:IntKind) (a b:Int),j4 .eql (.int k a) (.int k b)=some (.bool (decide (a=b)))) /\
 (∀ (k:IntKind) (a b:Int),j4 .neq (.int k a) (.int k b)=some (.bool (!decide (a=b)))) /\
 (∀ k a b,j4 .add (.int k a) (.int k b)=if k=k then some (.int k (IntKind.wrap k (a+b))) else none) /\
 (∀ k a b,j4 .sub (.int k a) (.int k b)=if k=k then some (.int k (IntKind.wrap k (a-b))) else none) /\
 (∀ k a b,j4 .mul (.int k a) (.int k b)=if k=k then some (.int k (IntKind.wrap k (a*b))) else none) /\
 (∀ k a b,j4 .quo (.int k a) (.int k b)=if k=k then if b=0 then none else some (.int k (IntKind.wrap k (Int.tdiv a b))) else none) /\
 (∀ k a b,j4 .rem (.int k a) (.int k b)=if k=k then if b=0 then none else some (.int k (Int.tmod a b)) else none) /\
 (∀ k a b,j4 .and (.int k a) (.int k b)=if k=k then some (.int k (IntKind.wrap k ↑(BitVec.toNat (BitVec.ofInt (IntKind.bits k) a &&& BitVec.ofInt (IntKind.bits k) b)))) else none) /\
 (∀ k a b,j4 .or (.int k a) (.int k b)=if k=k then some (.int k (IntKind.wrap k ↑(BitVec.toNat (BitVec.ofInt (IntKind.bits k) a ||| BitVec.ofInt (IntKind.bits k) b)))) else none) /\
 (∀ k a b,j4 .xor (.int k a) (.int k b)=if k=k then some (.int k (IntKind.wrap k ↑(BitVec.toNat (BitVec.ofInt (IntKind.bits k) a ^^^ BitVec.ofInt (IntKind.bits k) b)))) else none) /\
 (∀ k a b,j4 .lss (.int k a) (.int k b)=if k=k then some (.bool (decide (a<b))) else none) /\
 (∀ k a b,j4 .leq (.int k a) (.int k b)=if k=k then some (.bool (decide (a<=b))) else none) /\
 (∀ k a b,j4 .gtr (.int k a) (.int k b)=if k=k then some (.bool (decide (a>b))) else none) /\
 (∀ k a b,j4 .geq (.int k a) (.int k b)=if k=k then some (.bool (decide (a≥b))) else none) /\
 (∀ k k2 a b,j4 .shl (.int k a) (.int k2 b)=if true=true then if b<0 then none else some (.int k (IntKind.wrap k (a*2^min (Int.toNat b) (IntKind.bits k)))) else if k=k2 then agd .shl k a b else none) /\
 (∀ k k2 a b,j4 .shr (.int k a) (.int k2 b)=if true=true then if b<0 then none else some (.int k (Int.fdiv a (2^min (Int.toNat b) (IntKind.bits k)))) else if k=k2 then agd .shr k a b else none) /\
 (∀ (a b:List UInt8),j4 .eql (.str a) (.str b)=some (.bool (decide (a=b)))) /\
 (∀ (a b:List UInt8),j4 .neq (.str a) (.str b)=some (.bool (!decide (a=b)))) /\
 (∀ a b,j4 .add (.str a) (.str b)=if List.length a+List.length b<=4611686018427387904 then some (.str (a++b)) else none) /\
 (∀ a b,j4 .lss (.str a) (.str b)=some (.bool (Awp.strLt a b))) /\
 (∀ a b,j4 .leq (.str a) (.str b)=some (.bool (Awp.strLt a b || a == b))) /\
 (∀ a b,j4 .gtr (.str a) (.str b)=some (.bool !(Awp.strLt a b || a == b))) /\
 (∀ a b,j4 .geq (.str a) (.str b)=some (.bool !Awp.strLt a b)) /\
 (∀ k n,unV .neg (.int k n)=some (.int k (IntKind.wrap k (0-n)))) /\
 (∀ k n,unV .xor (.int k n)=some (.int k (IntKind.wrap k ↑(BitVec.toNat (BitVec.ofInt (IntKind.bits k) (if IntKind.signed k=true then -1 else IntKind.max k) ^^^ BitVec.ofInt (IntKind.bits k) n))))) /\
 (∀ b,unV .not (.bool b)=some (.bool !b)) /\
 (b9 .undef []=some .undef) /\
 (∀ b,b9 (.bool b) []=some (.bool b)) /\
 (∀ k n,b9 (.int k n) []=some (.int k n)) /\
 (∀ s,b9 (.str s) []=some (.str s)) /\
 (∀ s es,b9 (.own s es) []=some (.own s es)) /\
 (∀ s es,b9 (.ext s es) []=some (.ext s es)) /\
 (∀ v s es,b9 (.extv v s es) []=some (.extv v s es)) /\
 (∀ cs,b9 (.box cs) []=some (.box cs)) /\
 (∀ cs,b9 (.xbox cs) []=some (.xbox cs)) /\
 (∀ cs,b9 (.agg cs) []=some (.agg cs)) /\
 (∀ cs,b9 (.tup cs) []=some (.tup cs)) /\
 (∀ r e p,b9 (.lnk r e p) []=some (.lnk r e p)) /\
 (∀ r e p s lo n,b9 (.sub r e p s lo n) []=some (.sub r e p s lo n)) /\
 (∀ r e p st,b9 (.ref r e p st) []=some (.ref r e p st)) /\
 (∀ f cs,b9 (.fn f cs) []=some (.fn f cs)) /\
 (∀ s es st p,b9 (.own s es) (st::p)=Option.map TV.av (jZ (.sl s es) (st::p))) /\
 (∀ cs st p,b9 (.box cs) (st::p)=if St.i st=0 then Option.bind cs[St.j st]? fun (x:AV)=>b9 x p else none) /\
 (∀ u,cX .undef [] u=u) /\
 (∀ u b,cX (.bool b) [] u=u) /\
 (∀ u k n,cX (.int k n) [] u=u) /\
 (∀ u s,cX (.str s) [] u=u) /\
 (∀ u s es,cX (.own s es) [] u=u) /\
 (∀ u s es,cX (.ext s es) [] u=u) /\
 (∀ u v s es,cX (.extv v s es) [] u=u) /\
 (∀ u cs,cX (.box cs) [] u=u) /\
 (∀ u cs,cX (.xbox cs) [] u=u) /\
 (∀ u cs,cX (.agg cs) [] u=u) /\
 (∀ u cs,cX (.tup cs) [] u=u) /\
 (∀ u r e p,cX (.lnk r e p) [] u=u) /\
 (∀ u r e p s lo n,cX (.sub r e p s lo n) [] u=u) /\
 (∀ u r e p st,cX (.ref r e p st) [] u=u) /\
 (∀ u f cs,cX (.fn f cs) [] u=u) /\
 (∀ (s:Nat) (es:List (List TV)) (st:St) (p:bA) (u:AV),
 cX (AV.own s es) (st::p) u =
  match AV.tv u with
  | some t=>AV.own s (List.modify es (St.i st) fun (x:List TV)=>List.modify x (St.j st) fun (x:TV)=>aaE x p t)
  | none=>AV.own s es) /\
 (∀ cs st p u,cX (.box cs) (st::p) u=.box (List.modify cs (St.j st) fun (x:AV)=>cX x p u)) /\
 (∀ u,kV .undef [] u=true) /\
 (∀ u b,kV (.bool b) [] u=true) /\
 (∀ u k n,kV (.int k n) [] u=true) /\
 (∀ u s,kV (.str s) [] u=true) /\
 (∀ u s es,kV (.own s es) [] u=true) /\
 (∀ u s es,kV (.ext s es) [] u=true) /\
 (∀ u v s es,kV (.extv v s es) [] u=true) /\
 (∀ u cs,kV (.box cs) [] u=true) /\
 (∀ u cs,kV (.xbox cs) [] u=true) /\
 (∀ u cs,kV (.agg cs) [] u=true) /\
 (∀ u cs,kV (.tup cs) [] u=true) /\
 (∀ u r e p,kV (.lnk r e p) [] u=true) /\
 (∀ u r e p s lo n,kV (.sub r e p s lo n) [] u=true) /\
 (∀ u r e p st,kV (.ref r e p st) [] u=true) /\
 (∀ u f cs,kV (.fn f cs) [] u=true) /\
 (∀ s es st p u,kV (.own s es) (st::p) u=Option.isSome (AV.tv u)) /\
 (∀ (cs:List AV) (st:St) (p:bA) (u:AV),
 kV (AV.box cs) (st::p) u =
  match cs[St.j st]? with
  | some a=>kV a p u
  | none=>false) /\
 (∀ (t:TV),jZ t []=some t) /\
 (∀ (s:Nat) (es:List (List TV)) (st:St) (p:bA),jZ (.sl s es) (st::p)=if St.s st=s then Option.bind (Option.bind es[St.i st]? fun (x:List TV)=>x[St.j st]?) fun (x:TV)=>jZ x p else none) /\
 (∀ (t u:TV),aaE t [] u=u) /\
 (∀ (s:Nat) (es:List (List TV)) (st:St) (p:bA) (u:TV),aaE (.sl s es) (st::p) u=.sl s (List.modify es (St.i st) fun (x:List TV)=>List.modify x (St.j st) fun (x:TV)=>aaE x p u)) /\
 (∀ E,mvP E [] []=some ([],E)) /\
 (∀ E ms x xs,mvP E (.m::ms) (x::xs)=(dR E x).bind fun g=>(mvP g.2 ms xs).map fun y=>(some g.1::y.1,y.2)) /\
 (∀ E ms x xs,mvP E (.p::ms) (x::xs)=(dR E x).bind fun g=>(mvP g.2 ms xs).map fun y=>(some g.1::y.1,y.2)) /\
 (∀ E ms x xs,mvP E (.b::ms) (x::xs)=(mvP E ms xs).map fun y=>(none::y.1,y.2)) /\
 (∀ E ms x xs,mvP E (.l::ms) (x::xs)=(mvP E ms xs).map fun y=>(none::y.1,y.2)) /\
 (∀ E ms x xs,eJ E (.l::ms) (x::xs)=cC E (val E x)) /\
 (∀ E ms x xs,eJ E (.b::ms) (x::xs)=eJ E ms xs) /\
 (∀ E ms x xs,eJ E (.m::ms) (x::xs)=eJ E ms xs) /\
 (∀ E ms x xs,eJ E (.p::ms) (x::xs)=eJ E ms xs) /\
 (∀ (n:Nat),isT (.t n) none=false) /\
 (∀ (n r:Nat) (p:bA) (a:AV),isT (.t n) (some (r,p,a))=(n == r)) /\
 (∀ (a:AV) (q:Option (Nat × bA × AV)),isT (.c a) q=false) /\
 (∀ E ln,fL E ln [] [] []=some []) /\
 (∀ E ln ms x xs a mv,fL E ln (.m::ms) (x::xs) (some a::mv)=(fL E ln ms xs mv).map (a::·)) /\
 (∀ E ln ms x xs a mv,fL E ln (.p::ms) (x::xs) (some a::mv)=(fL E ln ms xs mv).map (a::·)) /\
 (∀ E r p a ms x xs q mv,fL E (some (r,p,a)) (.l::ms) (x::xs) (q::mv)=(fL E (some (r,p,a)) ms xs mv).map (a::·)) /\
 (∀ E ln ms x xs q mv,fL E ln (.b::ms) (x::xs) (q::mv)=(if isT x ln then none else (brw E (ln.map (·.1)) (val E x)).bind fun a=>(fL E ln ms xs mv).map (a::·))) /\
 (c5 []=none) /\
 (∀ (ms:List M),c5 (.l::ms)=(if ms.any (fun | .l=>true | _=>false) then none else some 0)) /\
 (∀ (ms:List M),c5 (.b::ms)=(c5 ms).map (· + 1)) /\
 (∀ (ms:List M),c5 (.m::ms)=(c5 ms).map (· + 1)) /\
 (∀ (ms:List M),c5 (.p::ms)=(c5 ms).map (· + 1)) /\
 (noL []=true) /\
 (∀ (ms:List M),noL (.b::ms)=noL ms) /\
 (∀ (ms:List M),noL (.m::ms)=noL ms) /\
 (∀ (ms:List M),noL (.p::ms)=noL ms) /\
 (∀ (ms:List M),noL (.l::ms)=false) /\
 (∀ E ms xs,aaF E ms xs=Option.bind (mvP E ms xs) fun (mv:List (Option AV) × Env)=>if noL ms=true then Option.bind (fL (Prod.snd mv) none ms xs (Prod.fst mv)) fun (as:List AV)=>if dH as=true then some (as,Prod.snd mv,none) else none else Option.bind (c5 ms) fun (k:Nat)=>Option.bind (eJ (Prod.snd mv) ms xs) fun (ln:Nat × bA × AV)=>Option.bind (fL (Prod.snd mv) (some ln) ms xs (Prod.fst mv)) fun (as:List AV)=>if dH as=true then some (as,Prod.snd mv,some (k,Prod.fst ln,Prod.fst (Prod.snd ln))) else none) /\
 (∀ E k r p outs,aaH E (some (k,r,p)) outs=Option.bind outs[k]? fun (o:AV)=>if kV (Env.f E r) p o=true/\AV.isRoot o=true then some (Env.upd E r (cX (Env.f E r) p o)) else none) /\
 (∀ E pls outs,mM E none pls outs=(if pls.all (fun q=>isU (b9 (E.f q.2.2.1) q.2.2.2))=true then mT E outs pls else none)) /\
 (∀ E q pls outs,mM E (some q) pls outs=aaH E (some q) outs) /\
 (∀ E os,mT E os []=some E) /\
 (∀ E os k j r p l,mT E os ((k,j,r,p)::l)=(aaI os k j).bind fun g=>if isU (b9 (E.f r) p)=true/\g.1.isRoot=true/\kV (E.f r) p g.1=true then mT (aaG E r p g.1) g.2 l else none) /\
 (∀ (os:List AV) (k:Nat),aaI os k none=(os[k]?).map fun u=>(u,os.set k .undef)) /\
 (∀ (os:List AV) (k j:Nat),
 aaI os k (some j) =
  match os[k]? with
  | some (AV.agg cs)=>Option.map (fun (u:AV)=>(u,List.set os k (AV.agg (List.set cs j AV.undef)))) cs[j]?
  | x=>none) /\
 (∀ E r p u,aaG E r p u=(if p.isEmpty then E.put r u else E.upd r (cX (E.f r) p u))) /\
 (isU (some .undef)=true) /\
 (∀ b,isU (some (.bool b))=false) /\
 (∀ k n,isU (some (.int k n))=false) /\
 (∀ s,isU (some (.str s))=false) /\
 (∀ s es,isU (some (.own s es))=false) /\
 (∀ s es,isU (some (.ext s es))=false) /\
 (∀ v s es,isU (some (.extv v s es))=false) /\
 (∀ cs,isU (some (.box cs))=false) /\
 (∀ cs,isU (some (.xbox cs))=false) /\
 (∀ cs,isU (some (.agg cs))=false) /\
 (∀ cs,isU (some (.tup cs))=false) /\
 (∀ r e p,isU (some (.lnk r e p))=false) /\
 (∀ r e p s lo n,isU (some (.sub r e p s lo n))=false) /\
 (∀ r e p st,isU (some (.ref r e p st))=false) /\
 (∀ f cs,isU (some (.fn f cs))=false) /\
 (∀ E k j,iM E k j []=[]) /\
 (∀ E k0 j0 l,iM E k0 j0 ((.undef )::l)=iM E k0 (j0+1) l) /\
 (∀ E k0 j0 l b,iM E k0 j0 ((.bool b)::l)=iM E k0 (j0+1) l) /\
 (∀ E k0 j0 l k n,iM E k0 j0 ((.int k n)::l)=iM E k0 (j0+1) l) /\
 (∀ E k0 j0 l s,iM E k0 j0 ((.str s)::l)=iM E k0 (j0+1) l) /\
 (∀ E k0 j0 l s es,iM E k0 j0 ((.own s es)::l)=iM E k0 (j0+1) l) /\
 (∀ E k0 j0 l s es,iM E k0 j0 ((.ext s es)::l)=iM E k0 (j0+1) l) /\
 (∀ E k0 j0 l v s es,iM E k0 j0 ((.extv v s es)::l)=iM E k0 (j0+1) l) /\
 (∀ E k0 j0 l cs,iM E k0 j0 ((.box cs)::l)=iM E k0 (j0+1) l) /\
 (∀ E k0 j0 l cs,iM E k0 j0 ((.xbox cs)::l)=iM E k0 (j0+1) l) /\
 (∀ E k0 j0 l cs,iM E k0 j0 ((.agg cs)::l)=iM E k0 (j0+1) l) /\
 (∀ E k0 j0 l cs,iM E k0 j0 ((.tup cs)::l)=iM E k0 (j0+1) l) /\
 (∀ E k0 j0 l r e p,iM E k0 j0 ((.lnk r e p)::l)=(if (aK E r e p).isSome then (k0,some j0,r,p)::iM E k0 (j0+1) l else iM E k0 (j0+1) l)) /\
 (∀ E k0 j0 l r e p s lo n,iM E k0 j0 ((.sub r e p s lo n)::l)=iM E k0 (j0+1) l) /\
 (∀ E k0 j0 l r e p st,iM E k0 j0 ((.ref r e p st)::l)=iM E k0 (j0+1) l) /\
 (∀ E k0 j0 l f cs,iM E k0 j0 ((.fn f cs)::l)=iM E k0 (j0+1) l) /\
 (∀ E k0,qQ E k0 .undef=[]) /\
 (∀ E k0 b,qQ E k0 (.bool b)=[]) /\
 (∀ E k0 k n,qQ E k0 (.int k n)=[]) /\
 (∀ E k0 s,qQ E k0 (.str s)=[]) /\
 (∀ E k0 s es,qQ E k0 (.own s es)=[]) /\
 (∀ E k0 s es,qQ E k0 (.ext s es)=[]) /\
 (∀ E k0 v s es,qQ E k0 (.extv v s es)=[]) /\
 (∀ E k0 cs,qQ E k0 (.box cs)=[]) /\
 (∀ E k0 cs,qQ E k0 (.xbox cs)=[]) /\
 (∀ E k0 cs,qQ E k0 (.agg cs)=iM E k0 0 cs) /\
 (∀ E k0 cs,qQ E k0 (.tup cs)=[]) /\
 (∀ E k0 r e p,qQ E k0 (.lnk r e p)=if Option.isSome (aK E r e p)=true then [(k0,none,r,p)] else []) /\
 (∀ E k0 r e p s lo n,qQ E k0 (.sub r e p s lo n)=[]) /\
 (∀ E k0 r e p st,qQ E k0 (.ref r e p st)=[]) /\
 (∀ E k0 f cs,qQ E k0 (.fn f cs)=[]) /\
 (∀ E k,j5 E k [] []=[]) /\
 (∀ E k ms x xs,j5 E k (.p::ms) (x::xs)=qQ E k (val E x)++j5 E (k+1) ms xs) /\
 (∀ E k ms x xs,j5 E k (.b::ms) (x::xs)=j5 E (k+1) ms xs) /\
 (∀ E k ms x xs,j5 E k (.l::ms) (x::xs)=j5 E (k+1) ms xs) /\
 (∀ E k ms x xs,j5 E k (.m::ms) (x::xs)=j5 E (k+1) ms xs) /\
 (mL .undef=false) /\
 (∀ b,mL (.bool b)=false) /\
 (∀ k n,mL (.int k n)=false) /\
 (∀ s,mL (.str s)=false) /\
 (∀ s es,mL (.own s es)=false) /\
 (∀ s es,mL (.ext s es)=false) /\
 (∀ v s es,mL (.extv v s es)=false) /\
 (∀ cs,mL (.box cs)=false) /\
 (∀ cs,mL (.xbox cs)=false) /\
 (∀ cs,mL (.agg cs)=fW cs) /\
 (∀ cs,mL (.tup cs)=false) /\
 (∀ r e p,mL (.lnk r e p)=false) /\
 (∀ r e p s lo n,mL (.sub r e p s lo n)=false) /\
 (∀ r e p st,mL (.ref r e p st)=false) /\
 (∀ f cs,mL (.fn f cs)=false) /\
 (fW []=true) /\
 (∀ l,fW ((.undef )::l)=false) /\
 (∀ l b,fW ((.bool b)::l)=fW l) /\
 (∀ l k n,fW ((.int k n)::l)=fW l) /\
 (∀ l s,fW ((.str s)::l)=fW l) /\
 (∀ l s es,fW ((.own s es)::l)=false) /\
 (∀ l s es,fW ((.ext s es)::l)=false) /\
 (∀ l v s es,fW ((.extv v s es)::l)=false) /\
 (∀ l cs,fW ((.box cs)::l)=false) /\
 (∀ l cs,fW ((.xbox cs)::l)=false) /\
 (∀ l cs,fW ((.agg cs)::l)=false) /\
 (∀ l cs,fW ((.tup cs)::l)=false) /\
 (∀ l r e p,fW ((.lnk r e p)::l)=(decide (1000<=r) && decide (r<2000) && fW l)) /\
 (∀ l r e p s lo n,fW ((.sub r e p s lo n)::l)=false) /\
 (∀ l r e p st,fW ((.ref r e p st)::l)=false) /\
 (∀ l f cs,fW ((.fn f cs)::l)=false) /\
 (∀ E,gA E [] []=true) /\
 (∀ E ms x xs,gA E (.b::ms) (x::xs)=(jV (val E x) && gA E ms xs)) /\
 (∀ E ms x xs,gA E (.l::ms) (x::xs)=gA E ms xs) /\
 (∀ E ms x xs,gA E (.m::ms) (x::xs)=gA E ms xs) /\
 (∀ E ms x xs,gA E (.p::ms) (x::xs)=gA E ms xs) /\
 (∀ (f:Nat) (xs:List O),iQ [] f xs=xs.map fun _=>M.b) /\
 (∀ (g f:Nat) (ms:List M) (bl:List (Nat × Nat)) (l:iA) (xs:List O),iQ ((g,ms,bl)::l) f xs=(if g=f then ms else iQ l f xs)) /\
 (∀ E,agD E []=some ([],E)) /\
 (∀ E t l,agD E (t::l)=Option.bind (anv E t) fun (g:AV × Env)=>Option.map (fun (y:List AV × Env)=>(Prod.fst g::Prod.fst y,Prod.snd y)) (agD (Prod.snd g) l)) /\
 (∀ E t,
 anv E (RV.t t) =
  match iH E (Env.f E t) with
  | some g=>some g
  | none=>dR E (O.t t)) /\
 (∀ E t sz ag,
 anv E (RV.c t sz ag) =
  Option.bind (iH E (Env.f E t)) fun (g:AV × Env)=>
   match Prod.fst g with
   | AV.box cs=>if List.length cs=sz then Option.map (fun (x:AV)=>(x,Prod.snd g)) (oneOf cs ag) else none
   | x=>none) /\
 (∀ (x:AV),ahS [x]=x) /\
 (ahS []=.tup []) /\
 (∀ x y l,ahS (x::y::l)=.tup (x::y::l)) /\
 (∀ E k bs,eO E k bs []=[]) /\
 (∀ E k x xs,eO E k [] (x::xs)=.undef::eO E (k+1) [] xs) /\
 (∀ E k bs x xs,eO E k (false::bs) (x::xs)=.undef::eO E (k+1) bs xs) /\
 (∀ E k bs cs xs,eO E k (true::bs) (.agg cs::xs)=.agg (cS E k 0 cs)::eO E (k+1) bs xs) /\
 (∀ E k bs cs xs,eO E k (true::bs) (.box cs::xs)=E.f (1000+k)::eO E (k+1) bs xs) /\
 (∀ E k s es bs xs,eO E k (true::bs) (.own s es::xs)=E.f (1000+k)::eO E (k+1) bs xs) /\
 (∀ E k j,cS E k j []=[]) /\
 (∀ (k j:Nat),b6 k j []=[]) /\
 (∀ (k j:Nat),d8 k j []=[]) /\
 (∀ (k j:Nat),rt k j=1000+(32*(j+1)+k)) /\
 (∀ E k0 j0 l,cS E k0 j0 ((.undef )::l)=.undef::cS E k0 (j0+1) l) /\
 (∀ k0 j0 l,d8 k0 j0 ((.undef )::l)=.undef::d8 k0 (j0+1) l) /\
 (∀ k0 j0 l,b6 k0 j0 ((.undef )::l)=b6 k0 (j0+1) l) /\
 (∀ E k0 j0 l b,cS E k0 j0 ((.bool b)::l)=(.bool b)::cS E k0 (j0+1) l) /\
 (∀ k0 j0 l b,d8 k0 j0 ((.bool b)::l)=(.bool b)::d8 k0 (j0+1) l) /\
 (∀ k0 j0 l b,b6 k0 j0 ((.bool b)::l)=b6 k0 (j0+1) l) /\
 (∀ E k0 j0 l k n,cS E k0 j0 ((.int k n)::l)=(.int k n)::cS E k0 (j0+1) l) /\
 (∀ k0 j0 l k n,d8 k0 j0 ((.int k n)::l)=(.int k n)::d8 k0 (j0+1) l) /\
 (∀ k0 j0 l k n,b6 k0 j0 ((.int k n)::l)=b6 k0 (j0+1) l) /\
 (∀ E k0 j0 l s,cS E k0 j0 ((.str s)::l)=(.str s)::cS E k0 (j0+1) l) /\
 (∀ k0 j0 l s,d8 k0 j0 ((.str s)::l)=(.str s)::d8 k0 (j0+1) l) /\
 (∀ k0 j0 l s,b6 k0 j0 ((.str s)::l)=b6 k0 (j0+1) l) /\
 (∀ E k0 j0 l s es,cS E k0 j0 ((.own s es)::l)=E.f (rt k0 j0)::cS E k0 (j0+1) l) /\
 (∀ k0 j0 l s es,d8 k0 j0 ((.own s es)::l)=.lnk (rt k0 j0) 0 []::d8 k0 (j0+1) l) /\
 (∀ k0 j0 l s es,b6 k0 j0 ((.own s es)::l)=(rt k0 j0,(.own s es))::b6 k0 (j0+1) l) /\
 (∀ E k0 j0 l s es,cS E k0 j0 ((.ext s es)::l)=.undef::cS E k0 (j0+1) l) /\
 (∀ k0 j0 l s es,d8 k0 j0 ((.ext s es)::l)=.undef::d8 k0 (j0+1) l) /\
 (∀ k0 j0 l s es,b6 k0 j0 ((.ext s es)::l)=b6 k0 (j0+1) l) /\
 (∀ E k0 j0 l v s es,cS E k0 j0 ((.extv v s es)::l)=.undef::cS E k0 (j0+1) l) /\
 (∀ k0 j0 l v s es,d8 k0 j0 ((.extv v s es)::l)=.undef::d8 k0 (j0+1) l) /\
 (∀ k0 j0 l v s es,b6 k0 j0 ((.extv v s es)::l)=b6 k0 (j0+1) l) /\
 (∀ E k0 j0 l cs,cS E k0 j0 ((.box cs)::l)=.undef::cS E k0 (j0+1) l) /\
 (∀ k0 j0 l cs,d8 k0 j0 ((.box cs)::l)=.undef::d8 k0 (j0+1) l) /\
 (∀ k0 j0 l cs,b6 k0 j0 ((.box cs)::l)=b6 k0 (j0+1) l) /\
 (∀ E k0 j0 l cs,cS E k0 j0 ((.xbox cs)::l)=.undef::cS E k0 (j0+1) l) /\
 (∀ k0 j0 l cs,d8 k0 j0 ((.xbox cs)::l)=.undef::d8 k0 (j0+1) l) /\
 (∀ k0 j0 l cs,b6 k0 j0 ((.xbox cs)::l)=b6 k0 (j0+1) l) /\
 (∀ E k0 j0 l cs,cS E k0 j0 ((.agg cs)::l)=.undef::cS E k0 (j0+1) l) /\
 (∀ k0 j0 l cs,d8 k0 j0 ((.agg cs)::l)=.undef::d8 k0 (j0+1) l) /\
 (∀ k0 j0 l cs,b6 k0 j0 ((.agg cs)::l)=b6 k0 (j0+1) l) /\
 (∀ E k0 j0 l cs,cS E k0 j0 ((.tup cs)::l)=.undef::cS E k0 (j0+1) l) /\
 (∀ k0 j0 l cs,d8 k0 j0 ((.tup cs)::l)=.undef::d8 k0 (j0+1) l) /\
 (∀ k0 j0 l cs,b6 k0 j0 ((.tup cs)::l)=b6 k0 (j0+1) l) /\
 (∀ E k0 j0 l r e p,cS E k0 j0 ((.lnk r e p)::l)=.undef::cS E k0 (j0+1) l) /\
 (∀ k0 j0 l r e p,d8 k0 j0 ((.lnk r e p)::l)=.undef::d8 k0 (j0+1) l) /\
 (∀ k0 j0 l r e p,b6 k0 j0 ((.lnk r e p)::l)=b6 k0 (j0+1) l) /\
 (∀ E k0 j0 l r e p s lo n,cS E k0 j0 ((.sub r e p s lo n)::l)=.undef::cS E k0 (j0+1) l) /\
 (∀ k0 j0 l r e p s lo n,d8 k0 j0 ((.sub r e p s lo n)::l)=.undef::d8 k0 (j0+1) l) /\
 (∀ k0 j0 l r e p s lo n,b6 k0 j0 ((.sub r e p s lo n)::l)=b6 k0 (j0+1) l) /\
 (∀ E k0 j0 l r e p st,cS E k0 j0 ((.ref r e p st)::l)=.undef::cS E k0 (j0+1) l) /\
 (∀ k0 j0 l r e p st,d8 k0 j0 ((.ref r e p st)::l)=.undef::d8 k0 (j0+1) l) /\
 (∀ k0 j0 l r e p st,b6 k0 j0 ((.ref r e p st)::l)=b6 k0 (j0+1) l) /\
 (∀ E k0 j0 l f cs,cS E k0 j0 ((.fn f cs)::l)=.undef::cS E k0 (j0+1) l) /\
 (∀ k0 j0 l f cs,d8 k0 j0 ((.fn f cs)::l)=.undef::d8 k0 (j0+1) l) /\
 (∀ k0 j0 l f cs,b6 k0 j0 ((.fn f cs)::l)=b6 k0 (j0+1) l) /\
 (∀ rs bs m ret outs E,adg rs bs m ret outs E=onO (agD E rs) fun (q:List AV × Env)=>ahS (Prod.fst q)=ret/\eO (Prod.snd q) 0 bs m=outs/\dH (ret::outs)=true) /\
 (∀ (k:Nat) (bs:List Bool),bO k bs []=[]):=by
 and_intros <;> intros <;> first | rfl | (cases ‹List Bool› <;> rfl) | exact adq _ _ _ | exact adr _ _ _ | exact ads _ _ | exact adt _ _ | exact aoA | exact ai9 | exact aja | exact aoB | exact adl | exact ai8 | exact adm | exact adn | exact ah0 _ _ | exact acQ _ _ | exact qS _ | exact acP | exact ado _ _ _ _ _ _ | exact adp _ _ _ _ _ _ | exact zP _ _ _ _ _ _ | exact zQ _ _ _ _ | (split <;> rfl) | (cases ‹Bool› <;> rfl) | (simp; done) | (simp only[ev]; cases val _ _ <;> rfl) | (simp[j4,ahQ,agd,ann,beq_eq_decide,bne]; done) | simp[j4,ahQ,agd,eqC,Fin,ai5,T,aE,I.opds,I.der,I.dsts,acM,CF,GF,HF]
theorem S3 :
 (∀ (k:Nat) (x:AV) (xs:List AV),bO k [] (x::xs)=(k,x)::bO (k+1) [] xs) /\
 (∀ (k:Nat) (bs:List Bool) (x:AV) (xs:List AV),bO k (false::bs) (x::xs)=(k,x)::bO (k+1) bs xs) /\
 (∀ (k:Nat) (bs:List Bool) (cs:List AV) (xs:List AV),bO k (true::bs) (.agg cs::xs)=b6 k 0 cs++bO (k+1) bs xs) /\
 (∀ (k:Nat) (bs:List Bool) (cs:List AV) (xs:List AV),bO k (true::bs) (.box cs::xs)=(1000+k,.box cs)::bO (k+1) bs xs) /\
 (∀ (k s:Nat) (es:List (List TV)) (bs:List Bool) (xs:List AV),bO k (true::bs) (.own s es::xs)=(1000+k,.own s es)::bO (k+1) bs xs) /\
 (∀ (k:Nat) (bs:List Bool),eN k bs []=[]) /\
 (∀ (k:Nat) (x:AV) (xs:List AV),eN k [] (x::xs)=[]) /\
 (∀ (k:Nat) (bs:List Bool) (x:AV) (xs:List AV),eN k (false::bs) (x::xs)=eN (k+1) bs xs) /\
 (∀ (k:Nat) (bs:List Bool) (x:AV) (xs:List AV),eN k (true::bs) (x::xs)=(k,kH k x)::eN (k+1) bs xs) /\
 (∀ k0,kH k0 .undef=.lnk (1000+k0) 0 []) /\
 (∀ k0 b,kH k0 (.bool b)=.lnk (1000+k0) 0 []) /\
 (∀ k0 k n,kH k0 (.int k n)=.lnk (1000+k0) 0 []) /\
 (∀ k0 s,kH k0 (.str s)=.lnk (1000+k0) 0 []) /\
 (∀ k0 s es,kH k0 (.own s es)=.lnk (1000+k0) 0 []) /\
 (∀ k0 s es,kH k0 (.ext s es)=.lnk (1000+k0) 0 []) /\
 (∀ k0 v s es,kH k0 (.extv v s es)=.lnk (1000+k0) 0 []) /\
 (∀ k0 cs,kH k0 (.box cs)=.ref (1000+k0) 0 [] (St.mk 0 0 0)) /\
 (∀ k0 cs,kH k0 (.xbox cs)=.lnk (1000+k0) 0 []) /\
 (∀ k0 cs,kH k0 (.agg cs)=.agg (d8 k0 0 cs)) /\
 (∀ k0 cs,kH k0 (.tup cs)=.lnk (1000+k0) 0 []) /\
 (∀ k0 r e p,kH k0 (.lnk r e p)=.lnk (1000+k0) 0 []) /\
 (∀ k0 r e p s lo n,kH k0 (.sub r e p s lo n)=.lnk (1000+k0) 0 []) /\
 (∀ k0 r e p st,kH k0 (.ref r e p st)=.lnk (1000+k0) 0 []) /\
 (∀ k0 f cs,kH k0 (.fn f cs)=.lnk (1000+k0) 0 []) /\
 (∀ E d a,ev E (I.mov d (O.c a))=some (Env.put E d a)) /\
 (∀ w d0 is st E d a,G w (GI.mk none d0 (.mov d (.c a))::is) st E=X w is st (ev E (.mov d (.c a)))) /\
 (∀ w t0 bs acc is st E d a,H1 w t0 bs acc (.mov d (.c a)) is st E=XH w bs (acc++[(t0++aE E (.mov d (.c a)),wrI E [] (.mov d (.c a)))]) is st (ev E (.mov d (.c a)))) /\
 (∀ E d a,aE E (I.mov d (O.c a))=O.tmp (O.c a)++[d]) /\
 (∀ E ms d a,
 wrI E ms (I.mov d (O.c a)) =
  match val E (O.c a) with
  | AV.own s es=>[d]
  | AV.box cs=>[d]
  | x=>d::pW E (O.c a)) /\
 (∀ E d n,
 ev E (I.mov d (O.t n)) =
  match Env.f E n with
  | AV.own s es=>if d=n then none else some (Env.put E d (AV.lnk n (Prod.fst (Env.ep E n)) []))
  | AV.box cs=>if d=n then none else some (Env.put E d (AV.ref n (Prod.fst (Env.ep E n)) [] (St.mk 0 0 0)))
  | a=>if AV.owns a=true then some (Env.put (Env.put E n AV.undef) d a) else some (Env.put E d a)) /\
 (∀ w d0 is st E d n,G w (GI.mk none d0 (.mov d (.t n))::is) st E=X w is st (ev E (.mov d (.t n)))) /\
 (∀ w t0 bs acc is st E d n,H1 w t0 bs acc (.mov d (.t n)) is st E=XH w bs (acc++[(t0++aE E (.mov d (.t n)),wrI E [] (.mov d (.t n)))]) is st (ev E (.mov d (.t n)))) /\
 (∀ E d n,aE E (I.mov d (O.t n))=O.tmp (O.t n)++[d]) /\
 (∀ E ms d n,
 wrI E ms (I.mov d (O.t n)) =
  match val E (O.t n) with
  | AV.own s es=>[d]
  | AV.box cs=>[d]
  | x=>d::pW E (O.t n)) /\
 (∀ E d x,
 ev E (I.asg d x) =
  match val E x with
  | AV.sub r e p s lo n=>if r=d/\List.isEmpty p=true then Option.map (fun (g:AV × Env)=>Env.put (Prod.snd g) d (Prod.fst g)) (bN E (AV.sub r e p s lo n)) else some (Env.put E d (AV.sub r e p s lo n))
  | x_1=>some (Env.put (Prod.snd (fK E x)) d (Prod.fst (fK E x)))) /\
 (∀ w d0 is st E d x,G w (GI.mk none d0 (.asg d x)::is) st E=X w is st (ev E (.asg d x))) /\
 (∀ w t0 bs acc is st E d x,H1 w t0 bs acc (.asg d x) is st E=XH w bs (acc++[(t0++aE E (.asg d x),wrI E [] (.asg d x))]) is st (ev E (.asg d x))) /\
 (∀ E d x,aE E (I.asg d x)=O.tmp x++[d]) /\
 (∀ E ms d x,wrI E ms (I.asg d x)=d::pW E x) /\
 (∀ E d x,
 ev E (I.mrk d x) =
  match val E x with
  | AV.own s es=>if s=1/\List.length es≠0 then some (Env.put (Prod.snd (fK E x)) d (Prod.fst (fK E x))) else none
  | x_1=>none) /\
 (∀ w d0 is st E d x,G w (GI.mk none d0 (.mrk d x)::is) st E=X w is st (ev E (.mrk d x))) /\
 (∀ w t0 bs acc is st E d x,H1 w t0 bs acc (.mrk d x) is st E=XH w bs (acc++[(t0++aE E (.mrk d x),wrI E [] (.mrk d x))]) is st (ev E (.mrk d x))) /\
 (∀ E d x,aE E (I.mrk d x)=O.tmp x++[d]) /\
 (∀ E ms d x,wrI E ms (I.mrk d x)=d::pW E x) /\
 (∀ E d op x y,ev E (I.bin d op x y)=Option.map (fun (x:AV)=>Env.put E d x) (j4 op (val E x) (val E y))) /\
 (∀ w d0 is st E d op x y,G w (GI.mk none d0 (.bin d op x y)::is) st E=X w is st (ev E (.bin d op x y))) /\
 (∀ w t0 bs acc is st E d op x y,H1 w t0 bs acc (.bin d op x y) is st E=XH w bs (acc++[(t0++aE E (.bin d op x y),wrI E [] (.bin d op x y))]) is st (ev E (.bin d op x y))) /\
 (∀ E d op x y,aE E (I.bin d op x y)=O.tmp x++(O.tmp y++[d])) /\
 (∀ E ms d op x y,wrI E ms (I.bin d op x y)=[d]) /\
 (∀ E d neg x y,
 ev E (I.beq d neg x y) =
  match val E x,val E y with
  | AV.bool a,AV.bool b=>some (Env.put E d (AV.bool (if neg=true then !a == b else a == b)))
  | x,x_1=>none) /\
 (∀ w d0 is st E d neg x y,G w (GI.mk none d0 (.beq d neg x y)::is) st E=X w is st (ev E (.beq d neg x y))) /\
 (∀ w t0 bs acc is st E d neg x y,H1 w t0 bs acc (.beq d neg x y) is st E=XH w bs (acc++[(t0++aE E (.beq d neg x y),wrI E [] (.beq d neg x y))]) is st (ev E (.beq d neg x y))) /\
 (∀ E d neg x y,aE E (I.beq d neg x y)=O.tmp x++(O.tmp y++[d])) /\
 (∀ E ms d neg x y,wrI E ms (I.beq d neg x y)=[d]) /\
 (∀ E d neg ks x y,
 ev E (I.eqs d neg ks x y) =
  match val E x,val E y with
  | AV.agg a,AV.agg b=>Option.map (fun (r:Bool)=>Env.put E d (AV.bool (if neg=true then !r else r))) (eqC ks a b)
  | x,x_1=>none) /\
 (∀ w d0 is st E d neg ks x y,G w (GI.mk none d0 (.eqs d neg ks x y)::is) st E=X w is st (ev E (.eqs d neg ks x y))) /\
 (∀ w t0 bs acc is st E d neg ks x y,H1 w t0 bs acc (.eqs d neg ks x y) is st E=XH w bs (acc++[(t0++aE E (.eqs d neg ks x y),wrI E [] (.eqs d neg ks x y))]) is st (ev E (.eqs d neg ks x y))) /\
 (∀ E d neg ks x y,aE E (I.eqs d neg ks x y)=O.tmp x++(O.tmp y++[d])) /\
 (∀ E ms d neg ks x y,wrI E ms (I.eqs d neg ks x y)=[d]) /\
 (∀ w d0 is st E d neg x y,G w (GI.mk none d0 (.isn d neg x y)::is) st E=X w is st (ev E (.isn d neg x y))) /\
 (∀ w t0 bs acc is st E d neg x y,H1 w t0 bs acc (.isn d neg x y) is st E=XH w bs (acc++[(t0++aE E (.isn d neg x y),wrI E [] (.isn d neg x y))]) is st (ev E (.isn d neg x y))) /\
 (∀ E d neg x y,aE E (I.isn d neg x y)=O.tmp x++(O.tmp y++[d])) /\
 (∀ E ms d neg x y,wrI E ms (I.isn d neg x y)=[d]) /\
 (∀ E d op x,ev E (I.un d op x)=Option.map (fun (x:AV)=>Env.put E d x) (unV op (val E x))) /\
 (∀ w d0 is st E d op x,G w (GI.mk none d0 (.un d op x)::is) st E=X w is st (ev E (.un d op x))) /\
 (∀ w t0 bs acc is st E d op x,H1 w t0 bs acc (.un d op x) is st E=XH w bs (acc++[(t0++aE E (.un d op x),wrI E [] (.un d op x))]) is st (ev E (.un d op x))) /\
 (∀ E d op x,aE E (I.un d op x)=O.tmp x++[d]) /\
 (∀ E ms d op x,wrI E ms (I.un d op x)=[d]) /\
 (∀ E d k x,
 ev E (I.conv d k x) =
  match val E x with
  | AV.int k_1 n=>some (Env.put E d (AV.int k (IntKind.wrap k n)))
  | x=>none) /\
 (∀ w d0 is st E d k x,G w (GI.mk none d0 (.conv d k x)::is) st E=X w is st (ev E (.conv d k x))) /\
 (∀ w t0 bs acc is st E d k x,H1 w t0 bs acc (.conv d k x) is st E=XH w bs (acc++[(t0++aE E (.conv d k x),wrI E [] (.conv d k x))]) is st (ev E (.conv d k x))) /\
 (∀ E d k x,aE E (I.conv d k x)=O.tmp x++[d]) /\
 (∀ E ms d k x,wrI E ms (I.conv d k x)=[d]) /\
 (∀ E d x,
 ev E (I.s2b d x) =
  match val E x with
  | AV.str s=>some (Env.put E d (AV.own 1 (aJ s)))
  | x=>none) /\
 (∀ w d0 is st E d x,G w (GI.mk none d0 (.s2b d x)::is) st E=X w is st (ev E (.s2b d x))) /\
 (∀ w t0 bs acc is st E d x,H1 w t0 bs acc (.s2b d x) is st E=XH w bs (acc++[(t0++aE E (.s2b d x),wrI E [] (.s2b d x))]) is st (ev E (.s2b d x))) /\
 (∀ E d x,aE E (I.s2b d x)=O.tmp x++[d]) /\
 (∀ E ms d x,wrI E ms (I.s2b d x)=[d]) /\
 (∀ E d x,ev E (I.b2s d x)=Option.bind (bB E (val E x)) fun (r:Nat × List (List TV))=>if Prod.fst r=1 then Option.map (fun (bs:List UInt8)=>Env.put E d (.str bs)) (cZ (Prod.snd r)) else none) /\
 (∀ w d0 is st E d x,G w (GI.mk none d0 (.b2s d x)::is) st E=X w is st (ev E (.b2s d x))) /\
 (∀ w t0 bs acc is st E d x,H1 w t0 bs acc (.b2s d x) is st E=XH w bs (acc++[(t0++aE E (.b2s d x),wrI E [] (.b2s d x))]) is st (ev E (.b2s d x))) /\
 (∀ E d x,aE E (I.b2s d x)=O.tmp x++d::lks (val E x)) /\
 (∀ E ms d x,wrI E ms (I.b2s d x)=[d]) /\
 (∀ E d x,ev E (I.len d x)=Option.map (fun (r:Nat × List (List TV))=>Env.put E d (.int .i64 ↑(List.length (Prod.snd r)))) (bB E (val E x))) /\
 (∀ w d0 is st E d x,G w (GI.mk none d0 (.len d x)::is) st E=X w is st (ev E (.len d x))) /\
 (∀ w t0 bs acc is st E d x,H1 w t0 bs acc (.len d x) is st E=XH w bs (acc++[(t0++aE E (.len d x),wrI E [] (.len d x))]) is st (ev E (.len d x))) /\
 (∀ E d x,aE E (I.len d x)=O.tmp x++d::lks (val E x)) /\
 (∀ E ms d x,wrI E ms (I.len d x)=[d]) /\
 (∀ E d x,
 ev E (I.lens d x) =
  match val E x with
  | AV.str s=>some (Env.put E d (AV.int IntKind.i64 ↑(List.length s)))
  | x=>none) /\
 (∀ w d0 is st E d x,G w (GI.mk none d0 (.lens d x)::is) st E=X w is st (ev E (.lens d x))) /\
 (∀ w t0 bs acc is st E d x,H1 w t0 bs acc (.lens d x) is st E=XH w bs (acc++[(t0++aE E (.lens d x),wrI E [] (.lens d x))]) is st (ev E (.lens d x))) /\
 (∀ E d x,aE E (I.lens d x)=O.tmp x++[d]) /\
 (∀ E ms d x,wrI E ms (I.lens d x)=[d]) /\
 (∀ E d x i s,
 ev E (I.idx d x i s) =
  match val E i with
  | AV.int k n=>
   match val E x with
   | AV.ext s' es=>if s'=s/\0<=n/\n<↑(List.length es) then Option.map (fun (row:List TV)=>Env.put E d (AV.xbox row)) es[Int.toNat n]? else none
   | AV.extv v s' es=>if s'=s/\0<=n/\n<↑(List.length es) then Option.map (fun (row:List TV)=>Env.put E d (AV.xbox row)) es[Int.toNat n]? else none
   | AV.lnk r e p=>Option.bind (aK E r e p) fun (y:Nat × List (List TV))=>if Prod.fst y=s/\0<=n/\n<↑(List.length (Prod.snd y)) then some (Env.put E d (AV.ref r e p (St.mk (Int.toNat n) s 0))) else none
   | AV.sub r e p s' lo m=>Option.bind (aK E r e p) fun (y:Nat × List (List TV))=>if Prod.fst y=s/\s'=s/\0<=n/\n<↑m/\lo+m<=List.length (Prod.snd y) then some (Env.put E d (AV.ref r e p (St.mk (lo+Int.toNat n) s 0))) else none
   | AV.own s' es=>
    match x with
    | O.t m=>if s'=s/\m≠d/\0<=n/\n<↑(List.length es) then some (Env.put E d (AV.ref m (Prod.fst (Env.ep E m)) [] (St.mk (Int.toNat n) s 0))) else none
    | x=>none
   | x=>none
  | x=>none) /\
 (∀ w d0 is st E d x i s,G w (GI.mk none d0 (.idx d x i s)::is) st E=X w is st (ev E (.idx d x i s))) /\
 (∀ w t0 bs acc is st E d x i s,H1 w t0 bs acc (.idx d x i s) is st E=XH w bs (acc++[(t0++aE E (.idx d x i s),wrI E [] (.idx d x i s))]) is st (ev E (.idx d x i s))) /\
 (∀ E d x i s,aE E (I.idx d x i s)=O.tmp x++(O.tmp i++d::lks (val E x))) /\
 (∀ E ms d x i s,wrI E ms (I.idx d x i s)=[d]) /\
 (∀ E d x off,
 ev E (I.fld d x off) =
  match val E x with
  | AV.xbox cs=>if off<=List.length cs then some (Env.put E d (AV.xbox (List.drop off cs))) else none
  | AV.ref r e p st=>if vld E r e p=true then some (Env.put E d (AV.ref r e p (St.mk (St.i st) (St.s st) (St.j st+off)))) else none
  | x=>none) /\
 (∀ w d0 is st E d x off,G w (GI.mk none d0 (.fld d x off)::is) st E=X w is st (ev E (.fld d x off))) /\
 (∀ w t0 bs acc is st E d x off,H1 w t0 bs acc (.fld d x off) is st E=XH w bs (acc++[(t0++aE E (.fld d x off),wrI E [] (.fld d x off))]) is st (ev E (.fld d x off))) /\
 (∀ E d x off,aE E (I.fld d x off)=O.tmp x++d::lks (val E x)) /\
 (∀ E ms d x off,wrI E ms (I.fld d x off)=[d]) /\
 (∀ E d x off sz ag,
 ev E (I.fldv d x off sz ag) =
  match fK E x with
  | (AV.agg cs,E1)=>if off+sz<=List.length cs then Option.map (fun (a:AV)=>Env.put E1 d a) (oneOf (List.take sz (List.drop off cs)) ag) else none
  | x=>none) /\
 (∀ w d0 is st E d x off sz ag,G w (GI.mk none d0 (.fldv d x off sz ag)::is) st E=X w is st (ev E (.fldv d x off sz ag))) /\
 (∀ w t0 bs acc is st E d x off sz ag,H1 w t0 bs acc (.fldv d x off sz ag) is st E=XH w bs (acc++[(t0++aE E (.fldv d x off sz ag),wrI E [] (.fldv d x off sz ag))]) is st (ev E (.fldv d x off sz ag))) /\
 (∀ E d x off sz ag,aE E (I.fldv d x off sz ag)=O.tmp x++[d]) /\
 (∀ E ms d x off sz ag,wrI E ms (I.fldv d x off sz ag)=d::pW E x) /\
 (∀ E d x sz ag,
 ev E (I.ld d x sz ag) =
  match val E x with
  | AV.xbox cs=>if sz<=List.length cs then Option.map (fun (a:AV)=>Env.put E d a) (oneOf (List.map TV.xv (List.take sz cs)) ag) else none
  | AV.ref r e p st=>Option.bind (jU E r e p st sz) fun (cs:List AV)=>Option.bind (oneOf cs ag) fun (a:AV)=>if bV cs=false then some (Env.put E d a) else none
  | x=>none) /\
 (∀ w d0 is st E d x sz ag,G w (GI.mk none d0 (.ld d x sz ag)::is) st E=X w is st (ev E (.ld d x sz ag))) /\
 (∀ w t0 bs acc is st E d x sz ag,H1 w t0 bs acc (.ld d x sz ag) is st E=XH w bs (acc++[(t0++aE E (.ld d x sz ag),wrI E [] (.ld d x sz ag))]) is st (ev E (.ld d x sz ag))) /\
 (∀ E d x sz ag,aE E (I.ld d x sz ag)=O.tmp x++d::lks (val E x)) /\
 (∀ E ms d x sz ag,wrI E ms (I.ld d x sz ag)=[d]) /\
 (∀ E x v sz,
 ev E (I.st x v sz) =
  match val E x with
  | AV.ref r e p st=>
   Option.bind (dR E v) fun (g:AV × Env)=>
    match p,Env.f (Prod.snd g) r with
    | [],AV.box cs0=>if e=Prod.fst (Env.ep (Prod.snd g) r)/\St.i st=0/\plain (Prod.fst g)=true/\yV (cellsOf (Prod.fst g))=true/\List.length (cellsOf (Prod.fst g))=sz/\St.j st+sz<=List.length cs0 then some (Env.upd (Prod.snd g) r (AV.box (lay cs0 (St.j st) (cellsOf (Prod.fst g))))) else none
    | x,x_1=>Option.bind (tvs (cellsOf (Prod.fst g))) fun (ts:List TV)=>Option.bind (aK (Prod.snd g) r e p) fun (y:Nat × List (List TV))=>if plain (Prod.fst g)=true/\yV (cellsOf (Prod.fst g))=true/\St.s st=Prod.fst y/\St.i st<List.length (Prod.snd y)/\List.length ts=sz/\St.j st+sz<=Prod.fst y then some (Env.upd (Prod.snd g) r (cX (Env.f (Prod.snd g) r) p (AV.own (Prod.fst y) (List.modify (Prod.snd y) (St.i st) fun (x:List TV)=>lay x (St.j st) ts)))) else none
  | x=>none) /\
 (∀ w d0 is st E x v sz,G w (GI.mk none d0 (.st x v sz)::is) st E=X w is st (ev E (.st x v sz))) /\
 (∀ w t0 bs acc is st E x v sz,H1 w t0 bs acc (.st x v sz) is st E=XH w bs (acc++[(t0++aE E (.st x v sz),wrI E [] (.st x v sz))]) is st (ev E (.st x v sz))) /\
 (∀ E x v sz,aE E (I.st x v sz)=O.tmp x++(O.tmp v++(lks (val E x)++lks (val E v)))) /\
 (∀ E ms x v sz,wrI E ms (I.st x v sz)=lks (val E x)++gW E v) /\
 (∀ E d z,ev E (I.alc d z)=some (Env.put (Env.put E (5000+d) (.box (List.map TV.av z))) d (.ref (5000+d) (fX (Env.ep (Env.put E (5000+d) (.box (List.map TV.av z))) (5000+d)) []) [] (St.mk 0 0 0)))) /\
 (∀ w d0 is st E d z,G w (GI.mk none d0 (.alc d z)::is) st E=X w is st (ev E (.alc d z))) /\
 (∀ w t0 bs acc is st E d z,H1 w t0 bs acc (.alc d z) is st E=XH w bs (acc++[(t0++aE E (.alc d z),wrI E [] (.alc d z))]) is st (ev E (.alc d z))) /\
 (∀ E d z,aE E (I.alc d z)=[d,5000+d]) /\
 (∀ E ms d z,wrI E ms (I.alc d z)=[d,5000+d]) /\
 (∀ E d v,ev E (I.box d v)=if mL (val E v)=true then some (Env.put (Env.put E (5000+d) (.box (cellsOf (val E v)))) d (.ref (5000+d) (fX (Env.ep (Env.put E (5000+d) (.box (cellsOf (val E v)))) (5000+d)) []) [] (St.mk 0 0 0))) else Option.bind (dR E v) fun (g:AV × Env)=>if plain (Prod.fst g)=true then some (Env.put (Env.put (Prod.snd g) (5000+d) (.box (cellsOf (Prod.fst g)))) d (.ref (5000+d) (fX (Env.ep (Env.put (Prod.snd g) (5000+d) (.box (cellsOf (Prod.fst g)))) (5000+d)) []) [] (St.mk 0 0 0))) else none) /\
 (∀ w d0 is st E d v,G w (GI.mk none d0 (.box d v)::is) st E=X w is st (ev E (.box d v))) /\
 (∀ w t0 bs acc is st E d v,H1 w t0 bs acc (.box d v) is st E=XH w bs (acc++[(t0++aE E (.box d v),wrI E [] (.box d v))]) is st (ev E (.box d v))) /\
 (∀ E d v,aE E (I.box d v)=O.tmp v++d::(5000+d)::lks (val E v)) /\
 (∀ E ms d v,wrI E ms (I.box d v)=d::(5000+d)::gW E v) /\
 (∀ E d z ps,ev E (I.bld d z ps)=Option.map (fun (g:List AV × Env)=>Env.put (Prod.snd g) d (.agg (Prod.fst g))) (mK E (List.map TV.av z) ps)) /\
 (∀ w d0 is st E d z ps,G w (GI.mk none d0 (.bld d z ps)::is) st E=X w is st (ev E (.bld d z ps))) /\
 (∀ w t0 bs acc is st E d z ps,H1 w t0 bs acc (.bld d z ps) is st E=XH w bs (acc++[(t0++aE E (.bld d z ps),wrI E [] (.bld d z ps))]) is st (ev E (.bld d z ps))) /\
 (∀ E d z ps,aE E (I.bld d z ps)=List.flatMap O.tmp (List.map (fun (x:Nat × Nat × O)=>Prod.snd (Prod.snd x)) ps)++d::List.flatMap (fun (x:O)=>lks (val E x)) (List.map (fun (x:Nat × Nat × O)=>Prod.snd (Prod.snd x)) ps)) /\
 (∀ E ms d z ps,wrI E ms (I.bld d z ps)=d::List.flatMap (pW E) (List.map (fun (x:Nat × Nat × O)=>Prod.snd (Prod.snd x)) ps)) /\
 (∀ E d s ps,ev E (I.bsl d s ps)=Option.bind (j8 E ps) fun (g:List (List TV) × Env)=>if (List.all (Prod.fst g) fun (r:List TV)=>List.length r == s)=true then some (Env.put (Prod.snd g) d (.own s (Prod.fst g))) else none) /\
 (∀ w d0 is st E d s ps,G w (GI.mk none d0 (.bsl d s ps)::is) st E=X w is st (ev E (.bsl d s ps))) /\
 (∀ w t0 bs acc is st E d s ps,H1 w t0 bs acc (.bsl d s ps) is st E=XH w bs (acc++[(t0++aE E (.bsl d s ps),wrI E [] (.bsl d s ps))]) is st (ev E (.bsl d s ps))) /\
 (∀ E d s ps,aE E (I.bsl d s ps)=List.flatMap O.tmp ps++d::List.flatMap (fun (x:O)=>lks (val E x)) ps) /\
 (∀ E ms d s ps,wrI E ms (I.bsl d s ps)=d::List.flatMap (gW E) ps) /\
 (∀ E d n k,
 ev E (I.xtr d (O.t n) k) =
  match Env.f E n with
  | AV.tup vs=>Option.map (fun (c:AV)=>if AV.owns c=true then Env.put (Env.put E n (AV.tup (List.set vs k AV.undef))) d c else Env.put E d c) vs[k]?
  | x=>none) /\
 (∀ w d0 is st E d n k,G w (GI.mk none d0 (.xtr d (.t n) k)::is) st E=X w is st (ev E (.xtr d (.t n) k))) /\
 (∀ w t0 bs acc is st E d n k,H1 w t0 bs acc (.xtr d (.t n) k) is st E=XH w bs (acc++[(t0++aE E (.xtr d (.t n) k),wrI E [] (.xtr d (.t n) k))]) is st (ev E (.xtr d (.t n) k))) /\
 (∀ E d n k,aE E (I.xtr d (O.t n) k)=O.tmp (O.t n)++[d]) /\
 (∀ E ms d n k,
 wrI E ms (I.xtr d (O.t n) k) =
  match val E (O.t n) with
  | AV.tup vs=>
   match vs[k]? with
   | some c=>if AV.owns c=true then d::O.tmp (O.t n) else [d]
   | none=>[d]
  | x=>[d]) /\
 (∀ E d x,
 ev E (I.nck d x) =
  match val E x with
  | AV.ref r e p st=>if vld E r e p=true then some (Env.put E d (AV.ref r e p st)) else none
  | AV.xbox cs=>some (Env.put E d (AV.xbox cs))
  | AV.fn f cs=>if bV cs=true then none else some (Env.put E d (AV.fn f cs))
  | x=>none) /\
 (∀ w d0 is st E d x,G w (GI.mk none d0 (.nck d x)::is) st E=X w is st (ev E (.nck d x))) /\
 (∀ w t0 bs acc is st E d x,H1 w t0 bs acc (.nck d x) is st E=XH w bs (acc++[(t0++aE E (.nck d x),wrI E [] (.nck d x))]) is st (ev E (.nck d x))) /\
 (∀ E d x,aE E (I.nck d x)=O.tmp x++d::lks (val E x)) /\
 (∀ E ms d x,wrI E ms (I.nck d x)=[d]) /\
 (∀ E d x y s b,
 ev E (I.app d x y s b) =
  Option.bind (dR E x) fun (g:AV × Env)=>
   match Prod.fst g with
   | AV.own s0 es0=>
    if s0=s then
     match val (Prod.snd g) y with
     | AV.str b_1=>if s=1/\(List.length es0+List.length b_1)*b<=140737488355328 then some (Env.put (Prod.snd g) d (AV.own s (es0++aJ b_1))) else none
     | AV.own s1 es1=>if s1=s/\gC es1=true/\(List.length es0+List.length es1)*b<=140737488355328 then some (Env.put (Prod.snd (fK (Prod.snd g) y)) d (AV.own s (es0++es1))) else none
     | AV.sub r e p s1 lo n=>Option.bind (aK (Prod.snd g) r e p) fun (nd:Nat × List (List TV))=>if Prod.fst nd=s/\s1=s/\lo+n<=List.length (Prod.snd nd)/\gC (List.take n (List.drop lo (Prod.snd nd)))=true/\(List.length es0+n)*b<=140737488355328 then if eV (List.take n (List.drop lo (Prod.snd nd)))=true then some (Env.put (Prod.snd g) d (AV.own s (es0++List.take n (List.drop lo (Prod.snd nd))))) else some (Env.put (Env.set0 (Prod.snd g) r (cX (Env.f (Prod.snd g) r) p (AV.own s (List.take lo (Prod.snd nd)++(rR (List.take n (List.drop lo (Prod.snd nd)))++List.drop (lo+n) (Prod.snd nd)))))) d (AV.own s (es0++List.take n (List.drop lo (Prod.snd nd))))) else none
     | a=>Option.bind (bB (Prod.snd g) a) fun (r:Nat × List (List TV))=>if Prod.fst r=s/\eV (Prod.snd r)=true/\(List.length es0+List.length (Prod.snd r))*b<=140737488355328 then some (Env.put (Prod.snd g) d (AV.own s (es0++Prod.snd r))) else none
    else none
   | x=>none) /\
 (∀ w d0 is st E d x y s b,G w (GI.mk none d0 (.app d x y s b)::is) st E=X w is st (ev E (.app d x y s b))) /\
 (∀ w t0 bs acc is st E d x y s b,H1 w t0 bs acc (.app d x y s b) is st E=XH w bs (acc++[(t0++aE E (.app d x y s b),wrI E [] (.app d x y s b))]) is st (ev E (.app d x y s b))) /\
 (∀ E d x y s b,aE E (I.app d x y s b)=O.tmp x++(O.tmp y++d::(lks (val E x)++lks (val E y)))) /\
 (∀ E ms d x y s b,
 wrI E ms (I.app d x y s b) =
  d ::
   (gW E x ++
    match val E y with
    | AV.sub r e p s lo n=>[r]
    | x=>pW E y)) /\
 (∀ E d x y s,
 ev E (I.cpy d x y s) =
  match val E x with
  | AV.lnk r e p=>Option.bind (aK E r e p) fun (nd:Nat × List (List TV))=>Option.bind (bB E (val E y)) fun (q:Nat × List (List TV))=>if Prod.fst nd=s/\Prod.fst q=s/\eV (Prod.snd q)=true then some (Env.put (Env.upd E r (cX (Env.f E r) p (AV.own s (List.take (List.length (Prod.snd nd)) (Prod.snd q)++List.drop (List.length (Prod.snd q)) (Prod.snd nd))))) d (AV.int IntKind.i64 ↑(min (List.length (Prod.snd q)) (List.length (Prod.snd nd))))) else none
  | AV.sub r e p s' lo n=>Option.bind (aK E r e p) fun (nd:Nat × List (List TV))=>Option.bind (bB E (val E y)) fun (q:Nat × List (List TV))=>if Prod.fst nd=s/\s'=s/\lo+n<=List.length (Prod.snd nd)/\Prod.fst q=s/\eV (Prod.snd q)=true then some (Env.put (Env.upd E r (cX (Env.f E r) p (AV.own s (List.take lo (Prod.snd nd)++(List.take n (Prod.snd q)++List.drop (lo+min n (List.length (Prod.snd q))) (Prod.snd nd)))))) d (AV.int IntKind.i64 ↑(min (List.length (Prod.snd q)) n))) else none
  | x=>none) /\
 (∀ w d0 is st E d x y s,G w (GI.mk none d0 (.cpy d x y s)::is) st E=X w is st (ev E (.cpy d x y s))) /\
 (∀ w t0 bs acc is st E d x y s,H1 w t0 bs acc (.cpy d x y s) is st E=XH w bs (acc++[(t0++aE E (.cpy d x y s),wrI E [] (.cpy d x y s))]) is st (ev E (.cpy d x y s))) /\
 (∀ E d x y s,aE E (I.cpy d x y s)=O.tmp x++(O.tmp y++d::(lks (val E x)++lks (val E y)))) /\
 (∀ E ms d x y s,wrI E ms (I.cpy d x y s)=d::lks (val E x)) /\
 (∀ E x s z,
 ev E (I.clr x s z) =
  match val E x with
  | AV.sub r e p s' lo n=>Option.bind (aK E r e p) fun (nd:Nat × List (List TV))=>if Prod.fst nd=s/\s'=s/\lo+n<=List.length (Prod.snd nd)/\List.length z=s then some (Env.upd E r (cX (Env.f E r) p (AV.own s (List.take lo (Prod.snd nd)++(List.replicate n z++List.drop (lo+n) (Prod.snd nd)))))) else none
  | x=>none) /\
 (∀ w d0 is st E x s z,G w (GI.mk none d0 (.clr x s z)::is) st E=X w is st (ev E (.clr x s z))) /\
 (∀ w t0 bs acc is st E x s z,H1 w t0 bs acc (.clr x s z) is st E=XH w bs (acc++[(t0++aE E (.clr x s z),wrI E [] (.clr x s z))]) is st (ev E (.clr x s z))) /\
 (∀ E x s z,aE E (I.clr x s z)=O.tmp x++lks (val E x)) /\
 (∀ E ms x s z,wrI E ms (I.clr x s z)=lks (val E x)) /\
 (∀ E d x y s b z,
 ev E (I.mks d x y s b z) =
  match val E x,val E y with
  | AV.int k l,AV.int k_1 c=>if 0<=l/\l<=c/\c<=4611686018427387904/\↑b*c<=140737488355328/\List.length z=s then some (Env.put E d (AV.own s (List.replicate (Int.toNat l) z))) else none
  | x,x_1=>none) /\
 (∀ w d0 is st E d x y s b z,G w (GI.mk none d0 (.mks d x y s b z)::is) st E=X w is st (ev E (.mks d x y s b z))) /\
 (∀ w t0 bs acc is st E d x y s b z,H1 w t0 bs acc (.mks d x y s b z) is st E=XH w bs (acc++[(t0++aE E (.mks d x y s b z),wrI E [] (.mks d x y s b z))]) is st (ev E (.mks d x y s b z))) /\
 (∀ E d x y s b z,aE E (I.mks d x y s b z)=O.tmp x++(O.tmp y++[d])) /\
 (∀ E ms d x y s b z,wrI E ms (I.mks d x y s b z)=[d]) /\
 (∀ E d x lo hi s,
 ev E (I.slc d x lo hi s) =
  match cT E lo 0 with
  | none=>none
  | some l=>
   match val E x with
   | AV.ext s' es=>Option.bind (cT E hi (List.length es)) fun (h:Int)=>if s'=s/\0<=l/\l<=h/\h<=↑(List.length es) then some (Env.put E d (AV.ext s (List.take (Int.toNat (h-l)) (List.drop (Int.toNat l) es)))) else none
   | AV.extv v s' es=>Option.bind (cT E hi (List.length es)) fun (h:Int)=>if s'=s/\0<=l/\l<=h/\h<=↑(List.length es) then some (Env.put E d (AV.ext s (List.take (Int.toNat (h-l)) (List.drop (Int.toNat l) es)))) else none
   | AV.lnk r e p=>Option.bind (aK E r e p) fun (nd:Nat × List (List TV))=>Option.bind (cT E hi (List.length (Prod.snd nd))) fun (h:Int)=>if Prod.fst nd=s/\0<=l/\l<=h/\h<=↑(List.length (Prod.snd nd)) then some (Env.put E d (AV.sub r e p s (Int.toNat l) (Int.toNat (h-l)))) else none
   | AV.own s' es=>
    match x with
    | O.t m=>Option.bind (cT E hi (List.length es)) fun (h:Int)=>if m≠d/\s'=s/\0<=l/\l<=h/\h<=↑(List.length es) then some (Env.put E d (AV.sub m (Prod.fst (Env.ep E m)) [] s (Int.toNat l) (Int.toNat (h-l)))) else none
    | x=>none
   | AV.sub r e p s' lo0 n=>Option.bind (aK E r e p) fun (nd:Nat × List (List TV))=>Option.bind (cT E hi n) fun (h:Int)=>if Prod.fst nd=s/\s'=s/\lo0+n<=List.length (Prod.snd nd)/\0<=l/\l<=h/\h<=↑n then some (Env.put E d (AV.sub r e p s (lo0+Int.toNat l) (Int.toNat (h-l)))) else none
   | x=>none) /\
 (∀ w d0 is st E d x lo hi s,G w (GI.mk none d0 (.slc d x lo hi s)::is) st E=X w is st (ev E (.slc d x lo hi s))) /\
 (∀ w t0 bs acc is st E d x lo hi s,H1 w t0 bs acc (.slc d x lo hi s) is st E=XH w bs (acc++[(t0++aE E (.slc d x lo hi s),wrI E [] (.slc d x lo hi s))]) is st (ev E (.slc d x lo hi s))) /\
 (∀ E d x lo hi s,aE E (I.slc d x lo hi s)=O.tmp x++(List.flatMap O.tmp (acM lo++acM hi)++d::lks (val E x))) /\
 (∀ E ms d x lo hi s,wrI E ms (I.slc d x lo hi s)=[d]) /\
 (∀ E d x lo hi,
 ev E (I.sls d x lo hi) =
  match val E x,cT E lo 0 with
  | AV.str b,some l=>Option.bind (cT E hi (List.length b)) fun (h:Int)=>if 0<=l/\l<=h/\h<=↑(List.length b) then some (Env.put E d (AV.str (List.take (Int.toNat (h-l)) (List.drop (Int.toNat l) b)))) else none
  | x,x_1=>none) /\
 (∀ w d0 is st E d x lo hi,G w (GI.mk none d0 (.sls d x lo hi)::is) st E=X w is st (ev E (.sls d x lo hi))) /\
 (∀ w t0 bs acc is st E d x lo hi,H1 w t0 bs acc (.sls d x lo hi) is st E=XH w bs (acc++[(t0++aE E (.sls d x lo hi),wrI E [] (.sls d x lo hi))]) is st (ev E (.sls d x lo hi))) /\
 (∀ E d x lo hi,aE E (I.sls d x lo hi)=O.tmp x++(List.flatMap O.tmp (acM lo++acM hi)++[d])) /\
 (∀ E ms d x lo hi,wrI E ms (I.sls d x lo hi)=[d]) /\
 (∀ E d x i,
 ev E (I.sidx d x i) =
  match val E x,val E i with
  | AV.str b,AV.int k n=>if 0<=n/\n<↑(List.length b) then Option.map (fun (c:UInt8)=>Env.put E d (AV.int IntKind.u8 ↑(UInt8.toNat c))) b[Int.toNat n]? else none
  | x,x_1=>none) /\
 (∀ w d0 is st E d x i,G w (GI.mk none d0 (.sidx d x i)::is) st E=X w is st (ev E (.sidx d x i))) /\
 (∀ w t0 bs acc is st E d x i,H1 w t0 bs acc (.sidx d x i) is st E=XH w bs (acc++[(t0++aE E (.sidx d x i),wrI E [] (.sidx d x i))]) is st (ev E (.sidx d x i))) /\
 (∀ E d x i,aE E (I.sidx d x i)=O.tmp x++(O.tmp i++[d])) /\
 (∀ E ms d x i,wrI E ms (I.sidx d x i)=[d]) /\
 (∀ E d x y,
 ev E (I.mx d x y) =
  match val E x,val E y with
  | AV.int k a,AV.int k_1 b=>some (Env.put E d (AV.int k (if b>a then b else a)))
  | x,x_1=>none) /\
 (∀ w d0 is st E d x y,G w (GI.mk none d0 (.mx d x y)::is) st E=X w is st (ev E (.mx d x y))) /\
 (∀ w t0 bs acc is st E d x y,H1 w t0 bs acc (.mx d x y) is st E=XH w bs (acc++[(t0++aE E (.mx d x y),wrI E [] (.mx d x y))]) is st (ev E (.mx d x y))) /\
 (∀ E d x y,aE E (I.mx d x y)=O.tmp x++(O.tmp y++[d])) /\
 (∀ E ms d x y,wrI E ms (I.mx d x y)=[d]) /\
 (∀ E d x y,
 ev E (I.mn d x y) =
  match val E x,val E y with
  | AV.int k a,AV.int k_1 b=>some (Env.put E d (AV.int k (if b<a then b else a)))
  | x,x_1=>none) /\
 (∀ w d0 is st E d x y,G w (GI.mk none d0 (.mn d x y)::is) st E=X w is st (ev E (.mn d x y))) /\
 (∀ w t0 bs acc is st E d x y,H1 w t0 bs acc (.mn d x y) is st E=XH w bs (acc++[(t0++aE E (.mn d x y),wrI E [] (.mn d x y))]) is st (ev E (.mn d x y))) /\
 (∀ E d x y,aE E (I.mn d x y)=O.tmp x++(O.tmp y++[d])) /\
 (∀ E ms d x y,wrI E ms (I.mn d x y)=[d]) /\
 (∀ E d c a b,
 ev E (I.pck d c a b) =
  match val E c with
  | AV.bool t=>if (AV.owns (val E a) || AV.owns (val E b))=true then none else some (Env.put E d (if t=true then val E a else val E b))
  | x=>none) /\
 (∀ w d0 is st E d c a b,G w (GI.mk none d0 (.pck d c a b)::is) st E=X w is st (ev E (.pck d c a b))) /\
 (∀ w t0 bs acc is st E d c a b,H1 w t0 bs acc (.pck d c a b) is st E=XH w bs (acc++[(t0++aE E (.pck d c a b),wrI E [] (.pck d c a b))]) is st (ev E (.pck d c a b))) /\
 (∀ E d c a b,aE E (I.pck d c a b)=O.tmp c++(O.tmp a++(O.tmp b++[d]))) /\
 (∀ E ms d c a b,wrI E ms (I.pck d c a b)=[d]) /\
 (∀ E d f cs,ev E (I.mkf d f cs)=if bV (List.map (val E) cs)=true then none else some (Env.put E d (.fn f (List.map (val E) cs)))) /\
 (∀ w d0 is st E d f cs,G w (GI.mk none d0 (.mkf d f cs)::is) st E=X w is st (ev E (.mkf d f cs))) /\
 (∀ w t0 bs acc is st E d f cs,H1 w t0 bs acc (.mkf d f cs) is st E=XH w bs (acc++[(t0++aE E (.mkf d f cs),wrI E [] (.mkf d f cs))]) is st (ev E (.mkf d f cs))) /\
 (∀ E d f cs,aE E (I.mkf d f cs)=List.flatMap O.tmp cs++[d]) /\
 (∀ E ms d f cs,wrI E ms (I.mkf d f cs)=[d]) /\
 (∀ E d f xs,aE E (I.call d f xs)=List.flatMap O.tmp xs++(I.dsts (I.call d f xs)++List.flatMap (fun (x:O)=>lks (val E x)) xs)) /\
 (∀ E ms d f xs,wrI E ms (I.call d f xs)=Option.toList d++mW E ms xs) /\
 (∀ E d x xs,aE E (I.callv d x xs)=O.tmp x++(List.flatMap O.tmp xs++(I.dsts (I.callv d x xs)++(lks (val E x)++List.flatMap (fun (x:O)=>lks (val E x)) xs)))) /\
 (∀ E ms d x xs,wrI E ms (I.callv d x xs)=Option.toList d++mW E ms xs) /\
 (∀ E x,gW E x=(if AV.owns (val E x)=true then O.tmp x else [])++lks (val E x)) /\
 (∀ E x,pW E x=if AV.owns (val E x)=true then O.tmp x else []) /\
 (∀ (n:Nat),O.tmp (O.t n)=[n]) /\
 (∀ (a:AV),O.tmp (O.c a)=[]) /\
 (∀ E ms x xs,mW E (.m::ms) (x::xs)=gW E x++mW E ms xs) /\
 (∀ E ms x xs,mW E (.p::ms) (x::xs)=gW E x++mW E ms xs) /\
 (∀ E ms x xs,mW E (.b::ms) (x::xs)=mW E ms xs) /\
 (∀ E ms x xs,mW E (.l::ms) (x::xs)=lks (val E x)++mW E ms xs) /\
 (∀ E xs,mW E [] xs=[]) /\
 (acM none=[]) /\
 (∀ (x:O),acM (some x)=[x]) /\
 (∀ E d s neg x,ev E (.isn d neg x (.c (.own s [])))=(match val E x with | .extv v _ _=>(match v with | .slice a _ _=>some (E.put d (.bool (if neg then !a.isNone else a.isNone))) | _=>none) | _=>none)) /\
 (∀ w st E,C w .skip st E=T w st .n E) /\
 (∀ w st E is,C w (.reg is none) st E=G w is st (rgE w.ks (aoz w.md) (E.norm w.ks))) /\
 (∀ w st E is bs,C w (.reg is (some bs)) st E=RC w bs is st (rgE w.ks (aoz w.md) (E.norm w.ks)) (acI w.md 999998)) /\
 (∀ w st E is bs,RC w bs is st E []=H w bs [] is st E) /\
 (∀ w st E is bs b l,RC w bs is st E (b::l)=RS w bs is st E) /\
 (∀ w st E c,C w (.loop c) st E=LH w c st (E.norm w.ks)) /\
 (∀ w st E a b c,CF w a b st E (.bool (!c))=CF w b a st E (.bool c)) /\
 (∀ w st E a b,C w (.seq a b) st E=C w a (.q b::st) E) /\
 (∀ w st E i c,C w (.blk i c) st E=C w c (.b i::st) E) /\
 (∀ w st E i,C w (.exit i) st E=T w st (.e i) E) /\
 (∀ w st E,C w .ret st E=T w st .r E) /\
 (∀ w st E x a b,C w (.cond x a b) st E=CF w a b st E (val E x)) /\
 (∀ w st E a b,CF w a b st E (.bool true)=C w a st E) /\
 (∀ w st E a b,CF w a b st E (.bool false)=C w b st E) /\
 (∀ w x E,T w [] x E=w.Q x E) /\
 (∀ w st E b,T w (.q b::st) .n E=C w b st E) /\
 (∀ w st E b,T w (.q b::st) .r E=T w st .r E) /\
 (∀ w st E b i,T w (.q b::st) (.e i) E=T w st (.e i) E) /\
 (∀ w st E i,T w (.b i::st) .n E=T w st .n E) /\
 (∀ w st E i,T w (.b i::st) .r E=T w st .r E) /\
 (∀ w st E i j,T w (.b i::st) (.e j) E=(if j=i then T w st .n E else T w st (.e j) E)) /\
 (∀ w st E,G w [] st E=T w st .n E) /\
 (∀ w is st E d e f xs,G w (GI.mk none d (.call e f xs)::is) st E=ai7 w e f xs is st E (kM (iQ w.md f xs) xs)) /\
 (∀ w is st E e f xs,ai7 w e f xs is st E none=adj w e f xs (iQ w.md f xs) (j5 (j9 E (acI w.md f)) 0 (iQ w.md f xs) xs) is st (aaF (j9 E (acI w.md f)) (iQ w.md f xs) xs)) /\
 (∀ w is st E e f xs x y,ai7 w e f xs is st E (some (x,y))=ai6 w e f is st E (val E x) (val E y) (dR E x)) /\
 (∀ w is st E E' e f cs ds cs',ai6 w e f is st E (.agg cs) (.agg ds) (some (.agg cs',E'))=(dH cs'=true/\YK0 w e f is st cs' (trL E cs cs' ds) E')) /\
 (∀ w bs acc is st E E' e f cs ds cs',adk w e f bs acc is st E (.agg cs) (.agg ds) (some (.agg cs',E'))=(dH cs'=true/\aqI w e f bs acc is st cs' (trL E cs cs' ds) E')) /\
 (∀ w is st E t bs acc e f xs,abl w t bs acc e f xs is st E none=afg w e f xs (iQ w.md f xs) (j5 E 0 (iQ w.md f xs) xs) bs (acc++[(t++aE E (.call e f xs),wrI E (iQ w.md f xs) (.call e f xs))]) is st (aaF E (iQ w.md f xs) xs)) /\
 (∀ w is st E t bs acc e f xs x y,abl w t bs acc e f xs is st E (some (x,y))=adk w e f bs (acc++[(t++aE E (.call e f xs),wrI E (iQ w.md f xs) (.call e f xs))]) is st E (val E x) (val E y) (dR E x)) /\
 (∀ (xs:List O),kM [] xs=none) /\
 (∀ (ms:List M) (xs:List O),kM (.b::ms) xs=none) /\
 (∀ (ms:List M) (xs:List O),kM (.l::ms) xs=none) /\
 (∀ (ms:List M) (xs:List O),kM (.p::ms) xs=none) /\
 (∀ (a:M) (ms:List M) (xs:List O),kM (.m::a::ms) xs=none) /\
 (kM [.m] []=none) /\
 (∀ (x:O),kM [.m] [x]=none) /\
 (∀ (x y:O),kM [.m] [x,y]=some (x,y)) /\
 (∀ (x y z:O) (l:List O),kM [.m] (x::y::z::l)=none) /\
 (∀ E cs ds,trL E cs ds []=[]) /\
 (∀ E cs ds a l,trL E cs ds (a::l)=trC E cs ds a::trL E cs ds l) /\
 (∀ E cs ds b,trC E cs ds (.bool b)=.bool b) /\
 (∀ E cs ds k n,trC E cs ds (.int k n)=.int k n) /\
 (∀ E cs ds s,trC E cs ds (.str s)=.str s) /\
 (∀ E cs ds r e p,trC E cs ds (.lnk r e p)=trF E r e p ds (mN r e p 0 cs)) /\
 (∀ E r e p p0 q ds j,trF E r e p ds (some (j,p0,q))=(match ds[j]? with | some c=>if vld E r e p0=true/\vld E r e p=true/\c.isRoot=true/\(b9 c q).isSome=true then .lnk (1000+(32*(j+1)+0)) 0 q else .undef | none=>.undef)) /\
 (∀ (r e j:Nat) (p:bA) (r' e':Nat) (p':bA) (l:List AV),mN r e p j (.lnk r' e' p'::l)=(if r'=r/\e'=e then (match ak6 p' p with | some q=>some (j,p',q) | none=>mN r e p (j+1) l) else mN r e p (j+1) l)) /\
 (∀ (r e j:Nat) (p:bA) (k:IntKind) (n:Int) (l:List AV),mN r e p j (.int k n::l)=mN r e p (j+1) l) /\
 (∀ (r e j:Nat) (p:bA) (n:List UInt8) (l:List AV),mN r e p j (.str n::l)=mN r e p (j+1) l) /\
 (∀ (r e j:Nat) (p:bA) (n:Bool) (l:List AV),mN r e p j (.bool n::l)=mN r e p (j+1) l) /\
 (∀ (q:bA),ak6 [] q=some q) /\
 (∀ (a b:St) (p q:bA),ak6 (a::p) (b::q)=if a.i=b.i/\a.s=b.s/\a.j=b.j then ak6 p q else none) /\
 (∀ (a:St) (p:bA),ak6 (a::p) []=none) /\
 (∀ w is st E d e x xs,G w (GI.mk none d (.callv e x xs)::is) st E=afh w e xs is st E (val E x)) /\
 (∀ w is st E t b d i,G w (GI.mk (some (t,b)) d i::is) st E=GF w b d i is st E (E.f t)) /\
 (∀ w is st E d i,GF w true d i is st E (.bool true)=G w (GI.mk none d i::is) st E) /\
 (∀ w is st E bs acc t d i,HF w bs acc t true d i is st E (.bool true)=H1 w [t] bs acc i is st E) /\
 (∀ w is st E d i,GF w true d i is st E (.bool false)=G w is st (mF E d (.tup []))) /\
 (∀ w is st E bs acc t d i,HF w bs acc t true d i is st E (.bool false)=H w bs (acc++[(t::d.toList,d.toList)]) is st (mF E d (.tup []))) /\
 (∀ w is st E d i,GF w false d i is st E (.bool true)=G w is st (mF E d (.tup []))) /\
 (∀ w is st E bs acc t d i,HF w bs acc t false d i is st E (.bool true)=H w bs (acc++[(t::d.toList,d.toList)]) is st (mF E d (.tup []))) /\
 (∀ w is st E d i,GF w false d i is st E (.bool false)=G w (GI.mk none d i::is) st E) /\
 (∀ w is st E bs acc t d i,HF w bs acc t false d i is st E (.bool false)=H1 w [t] bs acc i is st E) /\
 (∀ w is st E,X w is st (some E)=G w is st E) /\
 (∀ (w:Wk) (is:List GI) (st:List Fr),X w is st none=False) /\
 (∀ w st E bs acc,H w bs acc [] st E=(aaK bs acc=true/\T w st .n E)) /\
 (∀ w is st E bs acc d i,H w bs acc (GI.mk none d i::is) st E=H1 w [] bs acc i is st E) /\
 (∀ w is st E bs acc t b d i,H w bs acc (GI.mk (some (t,b)) d i::is) st E=HF w bs acc t b d i is st E (E.f t)) /\
 (∀ w is st E t bs acc e f xs,H1 w t bs acc (.call e f xs) is st E=abl w t bs acc e f xs is st E (kM (iQ w.md f xs) xs)) /\
 (∀ w is st E bs acc,XH w bs acc is st (some E)=H w bs acc is st E) /\
 (∀ (w:Wk) (is:List GI) (st:List Fr) (bs:List Nat) (acc:List Rcd),XH w bs acc is st none=False) /\
 (∀ w is st E d f xs ms pls args ln,adj w d f xs ms pls is st (some (args,E,ln))=Y0 w d f (gA E ms xs) pls is st args E ln) /\
 (∀ w is st E bs acc d f xs ms pls args ln,afg w d f xs ms pls bs acc is st (some (args,E,ln))=YH0 w d f (gA E ms xs) pls bs acc is st args E ln) /\
 (∀ w is st E d xs f caps,afh w d xs is st E (.fn f caps)=(bV caps=false/\(iQ w.md f xs).length=xs.length/\adj w d f (xs++caps.map .c) (iQ w.md f xs++caps.map fun _=>M.b) (j5 E 0 (iQ w.md f xs++caps.map fun _=>M.b) (xs++caps.map .c)) is st (aaF E (iQ w.md f xs++caps.map fun _=>M.b) (xs++caps.map .c)))) /\
 (∀ w is st E d ret,B w d ret is st (some E)=G w is st (mF E d ret)) /\
 (∀ w is st E bs acc d ret,BH w d ret bs acc is st (some E)=H w bs acc is st (mF E d ret)) /\
 (∀ (σ:Type) (K:Nat) (l:List (Nat × AV)) (v:σ->List (Nat × AV)) (J:σ->Prop) (μ:σ->Nat) (s:σ) (Q:Ex->Env->Prop) (E:Env),LQ K l v J μ s Q .n E=(∃ s',E.norm K=mkV K (mO l (v s')) [] []/\J s'/\μ s'<μ s)) /\
 (∀ (σ:Type) (K:Nat) (l:List (Nat × AV)) (v:σ->List (Nat × AV)) (J:σ->Prop) (μ:σ->Nat) (s:σ) (Q:Ex->Env->Prop) (E:Env),LQ K l v J μ s Q .r E=Q .r E) /\
 (∀ (σ:Type) (K:Nat) (l:List (Nat × AV)) (v:σ->List (Nat × AV)) (J:σ->Prop) (μ:σ->Nat) (s:σ) (Q:Ex->Env->Prop) (E:Env) (i:Nat),LQ K l v J μ s Q (.e i) E=Q (.e i) E) /\
 (∀ (l:List (Nat × AV)),mO l []=l) /\
 (∀ (l v:List (Nat × AV)) (d:Nat) (x:AV),mO l ((d,x)::v)=mO (qO l d x) v) /\
 (∀ w is st E b d i c,GF w b d i is st E (.bool (!c))=GF w (!b) d i is st E (.bool c)) /\
 (∀ rs bs m E ret outs,Fin rs bs m ret outs .r E=adg rs bs m ret outs E) /\
 (∀ rs bs m E ret outs,Fin rs bs m ret outs .n E=adg rs bs m ret outs E) /\
 (∀ rs bs m E R,ai5 rs bs m R .r E=onO (agD E rs) fun q=>R (ahS q.1) (eO q.2 0 bs m)/\dH (ahS q.1::eO q.2 0 bs m)=true) /\
 (∀ rs bs m E R,ai5 rs bs m R .n E=onO (agD E rs) fun q=>R (ahS q.1) (eO q.2 0 bs m)/\dH (ahS q.1::eO q.2 0 bs m)=true) /\
 (∀ b:Bool,(!!b)=b) /\
 ((!true)=false) /\
 ((!false)=true) /\
 (decide True=true) /\
 (decide False=false) /\
 ((false=true)=False) /\
 ((true=false)=False) /\
 (∀ (α:Type) (l:List α),l++[]=l) /\
 (∀ (α:Type) (l:List α),[]++l=l) /\
 (∀ (α:Type) (a:α) (l m:List α),(a::l)++m=a::(l++m)) /\
 (∀ (a:Prop),(True/\a)=a) /\
 (∀ (a:Prop),(a/\True)=a) /\
 (∀ a:Bool,(true && a)=a) /\
 (∀ a:Bool,(false && a)=false) /\
 (∀ a:Bool,(a && true)=a) /\
 (∀ a:Bool,(a && false)=false) /\
 (∀ a:Bool,(true || a)=true) /\
 (∀ a:Bool,(false || a)=a) /\
 (∀ (α β:Type) (f:α->β),List.map f []=[]) /\
 (∀ (α β:Type) (f:α->β) (a:α) (l:List α),List.map f (a::l)=f a::List.map f l) /\
 (∀ (α:Type) (p:α->Bool),List.all [] p=true) /\
 (∀ (α:Type) (p:α->Bool) (a:α) (l:List α),List.all (a::l) p=(p a && List.all l p)) /\
 (∀ (α:Type) (p:α->Bool),List.any [] p=false) /\
 (∀ (α:Type) (p:α->Bool) (a:α) (l:List α),List.any (a::l) p=(p a || List.any l p)) /\
 (∀ (α:Type) (a:α) (l:List α),(a::l)[0]?=some a) /\
 (∀ (α:Type) (a:α) (n:Nat) (l:List α),(a::l)[n+1]?=l[n]?) /\
 (∀ (α β:Type) (a:α) (b:β),(a,b).1=a) /\
 (∀ (α β:Type) (a:α) (b:β),(a,b).2=b) /\
 (∀ (α:Type),(none:Option α).toList=[]) /\
 (∀ (α:Type) (a:α),(some a).toList=[a]) /\
 (∀ (α:Type),(none:Option α).isSome=false) /\
 (∀ (α:Type) (a:α),(some a).isSome=true) /\
 (∀ (α:Type),(none:Option α).isNone=true) /\
 (∀ (α:Type) (a:α),(some a).isNone=false) /\
 (∀ (α:Type) (l:List α),List.drop 0 l=l) /\
 (∀ (α:Type) (l:List α),List.take 0 l=[]) /\
 (∀ (α:Type) (a:α) (n:Nat) (l:List α),List.drop (n+1) (a::l)=List.drop n l) /\
 (∀ (α:Type) (a:α) (n:Nat) (l:List α),List.take (n+1) (a::l)=a::List.take n l) /\
 (∀ (α:Type) (n:Nat),List.drop n ([]:List α)=[]) /\
 (∀ (α:Type) (n:Nat),List.take n ([]:List α)=[]) /\
 (∀ (α:Type),([]:List α).length=0) /\
 (∀ (α:Type) (a:α) (l:List α),(a::l).length=l.length+1) /\
 (∀ (α:Type) (a:α),([]:List α).isEmpty=true) /\
 (∀ (α:Type) (a:α) (l:List α),(a::l).isEmpty=false) /\
 (∀ (α:Type) (a b:α) (l:List α),List.set (a::l) 0 b=b::l) /\
 (∀ (α:Type) (a b:α) (n:Nat) (l:List α),List.set (a::l) (n+1) b=a::List.set l n b) /\
 (∀ (α:Type) (a:α) (f:α->α) (l:List α),List.modify (a::l) 0 f=f a::l) /\
 (∀ (α:Type) (a:α) (n:Nat) (f:α->α) (l:List α),List.modify (a::l) (n+1) f=a::List.modify l n f) /\
 (∀ (n:Nat),(n:Int).toNat=n) /\
 (∀ (α β:Type) (f:α->β) (x:α),Option.map f (some x)=some (f x)) /\
 (∀ (α β:Type) (f:α->β),Option.map f none=none) /\
 (∀ (α β:Type) (f:α->Option β) (x:α),Option.bind (some x) f=f x) /\
 (∀ (α β:Type) (f:α->Option β),Option.bind none f=none) /\
 (∀ (α β:Type) (f:α->β) (c:Prop) [Decidable c] (a b:Option α),Option.map f (if c then a else b)=(if c then Option.map f a else Option.map f b)) /\
 (∀ (α β:Type) (f:α->Option β) (c:Prop) [Decidable c] (a b:Option α),Option.bind (if c then a else b) f=(if c then Option.bind a f else Option.bind b f)) /\
 (∀ (α:Type) (K:α->Prop) (x:α),onO (some x) K=K x) /\
 (∀ (α:Type) (K:α->Prop),onO (none:Option α) K=False) /\
 (∀ (α β:Type) (K:α->Prop) (f:β->α) (o:Option β),onO (o.map f) K=onO o (fun z=>K (f z))) /\
 (∀ (α β:Type) (K:α->Prop) (f:β->Option α) (o:Option β),onO (o.bind f) K=onO o (fun z=>onO (f z) K)) /\
 (∀ K l r m t,(mkV K l r m).f t=(if c7 K t=true then dC l t else dC r t)) /\
 (∀ K l r m t,(mkV K l r m).ep t=iG m t) /\
 (∀ K l r m d x,(mkV K l r m).put d x=(if c7 K d=true then mkV K (qO l d x) r (al1 (dC l d) d m) else mkV K l ((d,x)::r) (al1 (dC r d) d m))) /\
 (∀ K l r m d x,(mkV K l r m).upd d x=(if c7 K d=true then mkV K (qO l d x) r (acN m d ((iG m d).1,(iG m d).2+1)) else mkV K l (qO r d x) (acN m d ((iG m d).1,(iG m d).2+1)))) /\
 (∀ K l r m d x,(mkV K l r m).set0 d x=(if c7 K d=true then mkV K (qO l d x) r m else mkV K l (qO r d x) m)) /\
 (∀ K l r m,(mkV K l r m).norm K=mkV K (zO (mkV K l r m) K l) [] []) /\
 (∀ (a:AV) (d:Nat) (m:List (Nat × Nat × Nat)),al1 a d m=(if a.isRoot=true then acN m d ((iG m d).1+1,(iG m d).2+1) else m)) /\
 (∀ E K,zO E K []=[]) /\
 (∀ (E:Env) (K k:Nat) (a:AV) (l:List (Nat × AV)),zO E K ((k,a)::l)=(k,oO E K a)::zO E K l):=by
 and_intros <;> intros <;> first | rfl | (cases ‹List Bool› <;> rfl) | exact adq _ _ _ | exact adr _ _ _ | exact ads _ _ | exact adt _ _ | exact aoA | exact ai9 | exact aja | exact aoB | exact adl | exact ai8 | exact adm | exact adn | exact ah0 _ _ | exact acQ _ _ | exact qS _ | exact acP | exact ado _ _ _ _ _ _ | exact adp _ _ _ _ _ _ | exact zP _ _ _ _ _ _ | exact zQ _ _ _ _ | (split <;> rfl) | (cases ‹Bool› <;> rfl) | (simp; done) | (simp only[ev]; cases val _ _ <;> rfl) | (simp[j4,ahQ,agd,ann,beq_eq_decide,bne]; done) | simp[j4,ahQ,agd,eqC,Fin,ai5,T,aE,I.opds,I.der,I.dsts,acM,CF,GF,HF]
section
def v (n:Nat):O:=.t n
def k (n:Int):O:=.c (.int .i64 n)
def k0:O:=.c (.bool false)
def k1:O:=.c (.bool true)
def n (d:Nat) (i:I):GI:=⟨none,some d,i⟩
def m (i:I):GI:=⟨none,none,i⟩
def h (t:Nat) (b:Bool) (d:Nat) (i:I):GI:=⟨some (t,b),some d,i⟩
def hm (t:Nat) (b:Bool) (i:I):GI:=⟨some (t,b),none,i⟩
def R (l:List GI):Cmd:=.reg l none
def D (bs:List Nat) (l:List GI):Cmd:=.reg l (some bs)
def Q (a b:Cmd):Cmd:=.seq a b
def F (x:O) (a b:Cmd):Cmd:=.cond x a b
theorem SC:(∀ t:Nat,v t=.t t)/\(∀ t:Int,k t=.c (.int .i64 t))/\(k0=.c (.bool false))/\(k1=.c (.bool true))/\(∀ d i,n d i=⟨none,some d,i⟩)/\(∀ i,m i=⟨none,none,i⟩) /\
  (∀ t b d i,h t b d i=⟨some (t,b),some d,i⟩)/\(∀ t b i,hm t b i=⟨some (t,b),none,i⟩)/\(∀ l,R l=.reg l none)/\(∀ bs l,D bs l=.reg l (some bs))/\(∀ a b,Q a b=.seq a b)/\(∀ x a b,F x a b=.cond x a b):=by
 refine⟨?_,?_,?_,?_,?_,?_,?_,?_,?_,?_,?_,?_⟩ <;> intros <;> rfl
section
variable {α:Type} {K:α->Prop}
end
theorem wrap_i64 {x:Int} (h:-9223372036854775808<=x/\x<9223372036854775808):IntKind.i64.wrap x=x:=by
 have e:IntKind.i64.wrap x=if 9223372036854775808<=x%18446744073709551616 then x%18446744073709551616-18446744073709551616 else x%18446744073709551616:=by
  have h1:((2:Int)^IntKind.i64.bits)=18446744073709551616:=by decide
  have h2:((2:Int)^(IntKind.i64.bits-1))=9223372036854775808:=by decide
  unfold IntKind.wrap;simp only[h1,h2];simp[IntKind.signed]
 rw[e]; split <;> omega
theorem aoC {x:Int} (h:0<=x/\x<256):IntKind.u8.wrap x=x:=by
 have e:IntKind.u8.wrap x=x%256:=by
  have h1:((2:Int)^IntKind.u8.bits)=256:=by decide
  unfold IntKind.wrap;simp only[h1];simp[IntKind.signed]
 rw[e]; omega
theorem ap7 {c:Prop} [Decidable c] (hc:c):decide c=true:=by simp[hc]
theorem ap8 {c:Prop} [Decidable c] (hc:¬ c):decide c=false:=by simp[hc]
theorem i9 (b:List UInt8):(aJ b).length=b.length:=by simp[aJ]
theorem uS (b:List UInt8) (i:Nat):(aJ b)[i]?=(b[i]?).map fun x=>[.int .u8 x.toNat]:=by simp[aJ]
theorem SO:(∀ (w:Wk) (is:List GI) (st:List Fr) (c:Prop) [Decidable c] (a b:Option Env),c->X w is st (if c then a else b)=X w is st a) /\
  (∀ (w:Wk) (is:List GI) (st:List Fr) (c:Prop) [Decidable c] (a b:Option Env),¬ c->X w is st (if c then a else b)=X w is st b) /\
  (∀ (w:Wk) (bs:List Nat) (acc:List Rcd) (is:List GI) (st:List Fr) (c:Prop) [Decidable c] (a b:Option Env),c->XH w bs acc is st (if c then a else b)=XH w bs acc is st a) /\
  (∀ (w:Wk) (bs:List Nat) (acc:List Rcd) (is:List GI) (st:List Fr) (c:Prop) [Decidable c] (a b:Option Env),¬ c->XH w bs acc is st (if c then a else b)=XH w bs acc is st b) /\
  (∀ (w:Wk) (d:Option Nat) (ret:AV) (is:List GI) (st:List Fr) (c:Prop) [Decidable c] (a b:Option Env),c->B w d ret is st (if c then a else b)=B w d ret is st a) /\
  (∀ (w:Wk) (d:Option Nat) (ret:AV) (bs:List Nat) (acc:List Rcd) (is:List GI) (st:List Fr) (c:Prop) [Decidable c] (a b:Option Env),c->BH w d ret bs acc is st (if c then a else b)=BH w d ret bs acc is st a) /\
  (∀ (x:Int),(-9223372036854775808<=x/\x<9223372036854775808)->IntKind.i64.wrap x=x)/\(∀ (x:Int),(0<=x/\x<256)->IntKind.u8.wrap x=x):=
 ⟨fun _ _ _ _ _ _ _ h=>aqy h,fun _ _ _ _ _ _ _ h=>aqz h,fun _ _ _ _ _ _ _ _ _ h=>ap0 h,fun _ _ _ _ _ _ _ _ _ h=>ap1 h,fun _ _ _ _ _ _ _ _ _ h=>aqA h,fun _ _ _ _ _ _ _ _ _ _ _ h=>ap2 h,fun _ h=>wrap_i64 h,fun _ h=>aoC h⟩
end
def al2 (x:AV) (E:Env) (r e:Nat) (st:St):Option (AV × Env):=match x with
 | .box cs=>if st.i=0/\st.s=0/\st.j=0/\e=(E.ep r).1 then some (AV.box cs,E.put r .undef) else none
 | _=>none
def al3 (x:AV) (E:Env) (r e:Nat) (st:St):Option (Nat × bA × AV):=match x with
 | .box cs=>if (e == (E.ep r).1)=true/\st.i=0/\st.j=0 then some (r,[],AV.box cs) else none
 | _=>none
theorem aoD (E:Env) (r e:Nat) (st:St):iH E (.ref r e [] st)=al2 (E.f r) E r e st:=by
 unfold iH al2;show (match ([]:bA),E.f r with | [],AV.box cs=>if st.i=0/\st.s=0/\st.j=0/\e=(E.ep r).1 then some (AV.box cs,E.put r .undef) else none | _,_=>none)=_;generalize E.f r=x;cases x <;> rfl
theorem al4 (E:Env) (r e:Nat) (st:St):cC E (.ref r e [] st)=al3 (E.f r) E r e st:=by
 unfold cC al3;show (match e == (E.ep r).1,([]:bA),E.f r with | true,[],AV.box cs=>if st.i=0/\st.j=0 then some (r,[],AV.box cs) else none | _,_,_=>none)=_;generalize E.f r=x;generalize (e == (E.ep r).1)=b;cases b <;> cases x <;> simp
theorem SE:(∀ t,O.tmp (.t t)=[t])/\(∀ a,O.tmp (.c a)=[])/\(∀ d f xs,(I.call (some d) f xs).dsts=[d])/\(∀ f xs,(I.call none f xs).dsts=[]) /\
  (∀ d x xs,(I.callv (some d) x xs).dsts=[d])/\(∀ (α β:Type) (f:α->List β),List.flatMap f []=[])/\(∀ (α β:Type) (f:α->List β) a l,List.flatMap f (a::l)=f a++List.flatMap f l) /\
  (∀ (α:Type) (o:Option α) (f:α->AV),(o.map f).map id=o.map f) /\
  (∀ (E:Env) (r e:Nat) (st:St),iH E (.ref r e [] st)=al2 (E.f r) E r e st) /\
  (∀ (cs:List AV) (E:Env) (r e:Nat) (st:St),al2 (.box cs) E r e st=if st.i=0/\st.s=0/\st.j=0/\e=(E.ep r).1 then some (AV.box cs,E.put r .undef) else none) /\
  (∀ (E:Env) (r e:Nat) (st:St),cC E (.ref r e [] st)=al3 (E.f r) E r e st) /\
  (∀ (cs:List AV) (E:Env) (r e:Nat) (st:St),al3 (.box cs) E r e st=if (e == (E.ep r).1)=true/\st.i=0/\st.j=0 then some (r,[],AV.box cs) else none):=by
 refine⟨?_,?_,?_,?_,?_,?_,?_,?_,?_,?_,?_,?_⟩ <;> intros <;> first | rfl | exact aoD _ _ _ _ | exact al4 _ _ _ _ | simp
theorem SGs:∀ (w:Wk) (b:Bool) (d:Option Nat) (i:I) (is:List GI) (st:List Fr) (E:Env),GF w b d i is st E (.tup [])=G w is st (mF E d (.tup [])):=fun _ _ _ _ _ _ _=>rfl
theorem SU:(∀ md:iA,aoz md=(acI md 999999).map Prod.fst)/\(∀ (K:Nat) (E:Env),rgE K [] E=E)/\(∀ (K t:Nat) (l:List Nat) (E:Env),rgE K (t::l) E=(ubE (ub1 E t) l).norm K)/\(∀ E:Env,ubE E []=E)/\(∀ (E:Env) (t:Nat) (l:List Nat),ubE E (t::l)=ubE (ub1 E t) l) /\
 (∀ (E:Env) (t:Nat),ub1 E t=ubM E t (E.f t) (E.f (5000+t))) /\
 (∀ (E:Env) (t:Nat) (cs:List AV),ubM E t (.box cs) .undef=(((E.put t .undef).put (5000+t) (.box cs)).put t (.ref (5000+t) (fX (((E.put t .undef).put (5000+t) (.box cs)).ep (5000+t)) []) [] ⟨0,0,0⟩))) /\
 (∀ (E:Env) (t:Nat) (a:AV),ubM E t .undef a=E)/\(∀ (E:Env) (t r e:Nat) (p:bA) (s:St) (a:AV),ubM E t (.ref r e p s) a=E):=
 ⟨fun _=>rfl,fun _ _=>rfl,fun _ _ _ _=>rfl,fun _=>rfl,fun _ _ _=>rfl,fun _ _=>rfl,fun _ _ _=>rfl,fun _ _ _=>rfl,fun _ _ _ _ _ _ _=>rfl⟩
theorem SD:(∀ (f:Nat),acI [] f=[])/\(∀ (g f:Nat) (ms:List M) (bl:List (Nat × Nat)) (l:iA),acI ((g,ms,bl)::l) f=(if g=f then bl else acI l f))/\(∀ (E:Env),j9 E []=E)/\(∀ (E:Env) (t j:Nat) (l:List (Nat × Nat)),j9 E ((t,j)::l)=j9 (E.put t (aeO j (E.f t))) l)/\(∀ (j:Nat) (cs:List AV),aeO j (.agg cs)=.agg (cs.set j .undef)) /\
 (∀ (w:Wk) (bs:List Nat) (acc:List Rcd) (t:Nat) (b:Bool) (d:Option Nat) (i:I) (is:List GI) (st:List Fr) (E:Env),HF w bs acc t b d i is st E (.tup [])=H w bs (acc++[(t::d.toList,d.toList)]) is st (mF E d (.tup []))) /\
 (∀ (K:Nat) (E:Env),hdL K [] E=E)/\(∀ (K d:Nat) (D:List Nat) (E:Env),hdL K (d::D) E=(acO (E.put d .undef) D).norm K)/\(∀ E:Env,acO E []=E)/\(∀ (E:Env) (d:Nat) (D:List Nat),acO E (d::D)=acO (E.put d .undef) D) /\
 (∀ (σ:Type) (D:List Nat) (K:Nat) (l:List (Nat × AV)) (v:σ->List (Nat × AV)) (J:σ->Prop) (μ:σ->Nat) (s:σ) (Q:Ex->Env->Prop) (E:Env),LQD D K l v J μ s Q .n E=(∃ s',hdL K D (E.norm K)=mkV K (mO l (v s')) [] []/\J s'/\μ s'<μ s)) /\
 (∀ (σ:Type) (D:List Nat) (K:Nat) (l:List (Nat × AV)) (v:σ->List (Nat × AV)) (J:σ->Prop) (μ:σ->Nat) (s:σ) (Q:Ex->Env->Prop) (E:Env),LQD D K l v J μ s Q .r E=Q .r E) /\
 (∀ (σ:Type) (D:List Nat) (K:Nat) (l:List (Nat × AV)) (v:σ->List (Nat × AV)) (J:σ->Prop) (μ:σ->Nat) (s:σ) (Q:Ex->Env->Prop) (E:Env) (i:Nat),LQD D K l v J μ s Q (.e i) E=Q (.e i) E):=
 ⟨fun _=>rfl,fun _ _ _ _ _=>rfl,fun _=>rfl,fun _ _ _ _=>rfl,fun _ _=>rfl,fun _ _ _ _ _ _ _ _ _ _=>rfl,fun _ _=>rfl,fun _ _ _ _=>rfl,fun _=>rfl,fun _ _ _=>rfl,fun _ _ _ _ _ _ _ _ _ _=>rfl,fun _ _ _ _ _ _ _ _ _ _=>rfl,fun _ _ _ _ _ _ _ _ _ _ _=>rfl⟩
section
variable {H:Type} {enc:TypeId × Value->H} {P:Program} {w w':World} {sp:Nat->Bool}
inductive Ty where
 | bool
 | int (k:IntKind)
 | str
 | sl (s:Nat) (e:List Ty)
inductive Shp:List Ty->List TV->Prop where
 | nil:Shp [] []
 | bool (b:Bool) (ys:List Ty) (ts:List TV) (h:Shp ys ts):Shp (.bool::ys) (.bool b::ts)
 | int (k:IntKind) (n:Int) (ys:List Ty) (ts:List TV) (hn:(Lit.int k n).wf=true) (h:Shp ys ts):Shp (.int k::ys) (.int k n::ts)
 | str (s:List UInt8) (ys:List Ty) (ts:List TV) (hs:s.length<=2^47) (h:Shp ys ts):Shp (.str::ys) (.str s::ts)
 | sl (s:Nat) (e:List Ty) (es:List (List TV)) (ys:List Ty) (ts:List TV) (hl:es.length<=2^47) (he:∀ r ∈ es,Shp e r) (h:Shp ys ts):Shp (.sl s e::ys) (.sl s es::ts)
theorem Shp.length {ys:List Ty} {ts:List TV} (h:Shp ys ts):ts.length=ys.length:=by
 induction h <;> simp_all
theorem Shp.append {ys zs:List Ty} {ts us:List TV} (h:Shp ys ts) (g:Shp zs us):Shp (ys++zs) (ts++us):=by
 induction h with
 | nil=>exact g
 | bool b ys ts h ih=>exact .bool b _ _ ih
 | int k n ys ts hn h ih=>exact .int k n _ _ hn ih
 | str s ys ts hs h ih=>exact .str s _ _ hs ih
 | sl s e es ys ts hl he h ih1 ih=>exact .sl s e es _ _ hl he ih
def uT (P:Program) (sh:TypeId->Option (List Ty)):Nat->List Field->Option (List Ty)
 | _,[]=>some []
 | o,f::fs=>if f.offset=o then (sh f.type).bind fun a=>if a.length=P.cellsOf f.type then (uT P sh (o+a.length) fs).map (a++·) else none else none
def iI (P:Program):Nat->TypeId->Option (List Ty)
 | 0,_=>none
 | k+1,t=>match P.underlying t with
  | some .bool=>some [.bool]
  | some (.int q)=>some [.int q]
  | some .string=>some [.str]
  | some (.slice e)=>(iI P k e).bind fun sh=>if sh.length=P.cellsOf e/\0<sh.length/\0<P.bytesOf e then some [.sl sh.length sh] else none
  | some (.struct fs)=>(uT P (iI P k) 0 fs.toList).bind fun sh=>if sh.length=P.cellsOf t then some sh else none
  | _=>none
theorem abm {fuel:Nat} {t:TypeId} {cs:List Value} {x:DataW H × List MemPlace} (ht:P.underlying t=some .bool) (h:DataW.trod enc P w 0 sp true fuel t cs=some x) :
  ∃ b,cs=[.bool b]:=by
 cases fuel with
 | zero=>simp[DataW.trod] at h
 | succ n=>rw[DataW.trod_step] at h; unfold DataW.trodStep at h; rw[ht] at h; split at h <;> simp_all
theorem afi {fuel:Nat} {t:TypeId} {k:IntKind} {cs:List Value} {x:DataW H × List MemPlace} (ht:P.underlying t=some (.int k)) (h:DataW.trod enc P w 0 sp true fuel t cs=some x) :
  ∃ n,cs=[.int k n]/\(Lit.int k n).wf=true:=by
 cases fuel with
 | zero=>simp[DataW.trod] at h
 | succ n=>rw[DataW.trod_step] at h; unfold DataW.trodStep at h; rw[ht] at h; split at h <;> simp_all
theorem afj {fuel:Nat} {t:TypeId} {cs:List Value} {x:DataW H × List MemPlace} (ht:P.underlying t=some .string) (h:DataW.trod enc P w 0 sp true fuel t cs=some x) :
  ∃ s:ByteArray,cs=[.string s]/\x.1=.lit (.string s.data.toList):=by
 cases fuel with
 | zero=>simp[DataW.trod] at h
 | succ n=>
  rw[DataW.trod_step] at h; unfold DataW.trodStep at h; rw[ht] at h;split at h <;> simp_all;rename_i s _ _;exact h.2 ▸ rfl
theorem xQ {fuel:Nat} {t e:TypeId} {cs:List Value} {x:DataW H × List MemPlace} (ht:P.underlying t=some (.slice e)) (h:DataW.trod enc P w 0 sp true (fuel+1) t cs=some x) :
  (cs=[.slice none 0 0]/\x=(.nil,[]))\/∃ a len cap elems rest,cs=[.slice (some a) len cap]/\len<=cap/\cap<=maxLen /\
   (List.range len).mapM (fun i=>(w.cells? 0 (a.add (i*P.cellsOf e)) (P.cellsOf e)).bind (DataW.trod enc P w 0 sp true fuel e))=some elems /\
   (if sp a.block then (List.range (cap-len)).mapM fun j=>(w.cells? 0 (a.add ((len+j)*P.cellsOf e)) (P.cellsOf e)).bind (DataW.trod enc P w 0 sp true fuel e) else some [])=some rest /\
   x=(.slice (elems.map (·.1)) (rest.map (·.1)),MemPlace.row a ((elems.length+rest.length)*P.cellsOf e)++(elems++rest).flatMap (·.2)):=by
 rw[DataW.trod_step] at h; unfold DataW.trodStep at h; rw[ht] at h;split at h
 case h_7=>exact .inl ⟨rfl,by simpa using h.symm⟩
 case h_8 e' a len cap od=>
  cases od;simp only at h;split at h
  ·rename_i hc;simp only[lS2,lX1] at h;obtain⟨elems,he,rest,an,rfl⟩:=h;exact .inr ⟨a,len,cap,elems,rest,rfl,hc.2.1,hc.2.2,he,an,rfl⟩
  ·cases h
 all_goals simp_all
theorem uU {fuel:Nat} {t:TypeId} {fs:Array Field} {cs:List Value} {x:DataW H × List MemPlace} (ht:P.underlying t=some (.struct fs)) (h:DataW.trod enc P w 0 sp true (fuel+1) t cs=some x) :
  cs.length=P.cellsOf t/\∃ xs,(fs.toList.mapM fun f=>DataW.trod enc P w 0 sp true fuel f.type ((cs.drop f.offset).take (P.cellsOf f.type)))=some xs/\x=(.agg (xs.map (·.1)),xs.flatMap (·.2)):=by
 rw[DataW.trod_step] at h; unfold DataW.trodStep at h; rw[ht] at h;split at h
 case h_9 fs' cs' od=>
  cases od;split at h
  ·rename_i hc;simp only[lS2] at h;obtain⟨xs,hx,rfl⟩:=h;exact⟨hc,xs,hx,rfl⟩
  ·cases h
 all_goals simp_all
theorem al5 {s:Nat} {a:Addr} {sh:List Ty}:∀ n,(∀ i,i<n->∃ (c:List Value) (t:List TV) (F:aH),w.cells? 0 (a.add (i*s)) s=some c/\Row w false F c t/\Shp sh t/\∀ b,F b≠0->b<w.heap.size) ->
  ∃ (cs:List Value) (es:List (List TV)) (F:aH),cs.length=n*s/\es.length=n/\Row w false F cs es.flatten/\(∀ e ∈ es,e.length=s/\Shp sh e)/\(∀ k,k<cs.length->w.cell? (a.add k)=cs[k]?)/\∀ b,F b≠0->b<w.heap.size:=by
 intro n;induction n with
 | zero=>intro _; exact⟨[],[],fun _=>0,by simp,rfl,.nil _ _ fun _=>rfl,by simp,by simp,fun _ h=>absurd rfl h⟩
 | succ n ih=>
  intro hs;obtain⟨cs,es,F,h1,h2,h3,h4,h5,h6⟩:=ih fun i hi=>hs i A7
  obtain⟨c,t,G,g1,g2,g3,g4⟩:=hs n A7;obtain⟨_,hl,hc⟩:=World.cells?_some g1;refine⟨cs++c,es++[t],fun b=>F b+G b,by rw[lU,h1,hl,lI4],by simp[h2],?_,?_,?_,?_⟩
  ·rw[lV1,List.flatten_singleton]; exact Row.append h3 g2 fun _=>rfl
  ·intro e he;rcases lL.1 he with he | he
   ·exact h4 e he
   ·simp at he; subst he; exact⟨by rw[<-g2.length,hl],g3⟩
  ·intro k hk;rw[lB4];by_cases cn:k<cs.length
   ·rw[lK cn]; exact h5 k cn
   ·rw[lO cn];rw[lU] at hk;have:=hc (k-cs.length) A7;rw[i6,<-h1,show cs.length+(k-cs.length)=k by omega] at this;exact this
  ·intro b hb;by_cases e:F b=0
   ·exact g4 b (by (try dsimp only at hb); omega)
   ·exact h6 b e
theorem wR {e:TypeId}:∀ {l:List (DataW H)} {d:DataW H},d ∈ l->∀ n ∈ d.weights P e,n ∈ DataW.weightsAll P e l:=by
 intro l;induction l with
 | nil=>intro d h; cases h
 | cons y l ih=>
  intro d h n hn;simp only[DataW.weightsAll,lL];rcases lN.1 h with rfl | h
  ·exact .inl hn
  ·exact .inr (ih h n hn)
theorem al6:∀ (k:Nat) (t:TypeId) (sh:List Ty) (fuel:Nat) (cs:List Value) (x:DataW H × List MemPlace),iI P k t=some sh->DataW.trod enc P w 0 sp true fuel t cs=some x ->
  (∀ n ∈ x.1.weights P t,n<=2^47)->∃ (F:aH) (ts:List TV),Row w false F cs ts/\Shp sh ts/\∀ b,F b≠0->b<w.heap.size:=by
 intro k;induction k with
 | zero=>intro t sh fuel cs x h; simp[iI] at h
 | succ k ih=>
  intro t sh fuel cs x hs h hz;cases fuel with
  | zero=>simp[DataW.trod] at h
  | succ fuel=>
  unfold iI at hs;split at hs
  ·rename_i ht;cases hs;obtain⟨b,rfl⟩:=abm ht h;exact⟨fun _=>0,_,.bool _ _ b _ _ (.nil _ _ fun _=>rfl),.bool b _ _ .nil,fun _ h=>absurd rfl h⟩
  ·rename_i q ht;cases hs;obtain⟨n,rfl,hn⟩:=afi ht h;exact⟨fun _=>0,_,.int _ _ q n _ _ (.nil _ _ fun _=>rfl),.int q n _ _ hn .nil,fun _ h=>absurd rfl h⟩
  ·rename_i ht;cases hs;obtain⟨s,rfl,hx⟩:=afj ht h;have hl:=hz s.data.toList.length (by rw[hx]; simp[DataW.weights]);exact⟨fun _=>0,[.str s.data.toList],.str _ _ s.data.toList _ _ (.nil _ _ fun _=>rfl),.str _ _ _ hl .nil,fun _ h=>absurd rfl h⟩
  ·rename_i e ht;obtain⟨she,gf,hs⟩:=lX1.1 hs;split at hs
   ·rename_i hc;obtain⟨cw,bx,dj⟩:=hc;cases hs;rcases xQ ht h with ⟨rfl,rfl⟩ | ⟨a,len,cap,elems,rest,rfl,hlc,_,he,hr,rfl⟩
    ·exact⟨fun _=>0,_,.ext0 _ she.length none 0 _ _ (.nil _ _ fun _=>rfl),.sl _ _ [] _ _ A8 A8 .nil,fun _ h=>absurd rfl h⟩
    ·have fk:elems.length=len:=by simpa using mapM_some_length he
     have hle:elems.length<=2^47:=by
      have:=hz ((elems.length+rest.length)*P.bytesOf e) (by simp[DataW.weights,ht]);have h1:(elems.length+rest.length)*1<=(elems.length+rest.length)*P.bytesOf e:=Nat.mul_le_mul_left _ dj;omega
     obtain⟨cs,es,F,h1,h2,h3,h4,h5,h6⟩:=al5 (w:=w) (s:=she.length) (a:=a) (sh:=she) len fun i hi=>by
      have hg:=mapM_some_get he i i (by simp[hi]);rw[lF A7] at hg;simp only[lX1] at hg;obtain⟨c,g1,g2⟩:=hg;obtain⟨F,ts,f1,f2,f3⟩:=ih e she fuel c _ gf g2 fun n hn=>hz n (by
       simp only[DataW.weights,ht,lN,lL];refine .inr (.inl (wR (lV2.2 ⟨_,lI A7,rfl⟩) n hn)))
      exact⟨c,ts,F,by rw[cw]; exact g1,f1,f2,f3⟩
     by_cases fi:len=0
     ·subst fi;exact⟨fun _=>0,_,.ext0 _ she.length (some a) cap _ _ (.nil _ _ fun _=>rfl),.sl _ _ [] _ _ A8 A8 .nil,fun _ h=>absurd rfl h⟩
     ·have dt:a.block<w.heap.size:=by
       have h0:=h5 0 (by rw[h1]; exact Nat.mul_pos A7 bx);rw[lF (by rw[h1]; exact Nat.mul_pos A7 bx)] at h0;have:=World.block_lt_of_cell? w _ h0
       rwa [i3] at this
      have:=Row.ext (w:=w) (fun x=>(if x=a.block then 1 else 0)+F x+0) F (fun _=>0) she.length es a cap cs [] [] A7 (fun e he=>(h4 e he).1) (by rw[h1,h2]) h5 h3 (.nil _ _ fun _=>rfl) (fun _=>rfl);rw[h2] at this;refine⟨_,_,this,.sl _ _ es _ _ A7 (fun r hr=>(h4 r hr).2) .nil,fun b hb=>?_⟩;by_cases e:b=a.block
      ·omega
      ·exact h6 b (by simp[e] at hb; exact hb)
   ·cases hs
  ·rename_i fs ht;obtain⟨shs,gf,hs⟩:=lX1.1 hs;split at hs
   ·rename_i hc;cases hs;obtain⟨bk,xs,hx,rfl⟩:=uU ht h;have hz':∀ n ∈ DataW.weightsEach P (fs.toList.map (·.type)) (xs.map (·.1)),n<=2^47:=fun n hn=>hz n (by simp only[DataW.weights,ht]; exact hn)
    have key:∀ (l:List Field) (o:Nat) (ss:List Ty) (ys:List (DataW H × List MemPlace)),uT P (iI P k) o l=some ss ->
      (l.mapM fun f=>DataW.trod enc P w 0 sp true fuel f.type ((cs.drop f.offset).take (P.cellsOf f.type)))=some ys->(∀ n ∈ DataW.weightsEach P (l.map (·.type)) (ys.map (·.1)),n<=2^47) ->
      ∃ (F:aH) (ts:List TV),Row w false F ((cs.drop o).take ss.length) ts/\Shp ss ts/\∀ b,F b≠0->b<w.heap.size:=by
     intro l;induction l with
     | nil=>intro o ss ys h1 h2 h3; simp[uT] at h1; subst h1; exact⟨fun _=>0,[],by simpa using Row.nil _ _ fun _=>rfl,.nil,fun _ h=>absurd rfl h⟩
     | cons f l ih2=>
      intro o ss ys h1 h2 h3;unfold uT at h1;split at h1
      ·rename_i ho;obtain⟨sa,ha,h1⟩:=lX1.1 h1;split at h1
       ·rename_i hal;obtain⟨sb,hb,rfl⟩:=lS2.1 h1;rw[lX4] at h2;simp only[lS4,lX1,lJ5,Option.some.injEq] at h2;obtain⟨y,hy,ys',hys,rfl⟩:=h2;simp only[lR,DataW.weightsEach,lL] at h3;obtain⟨F,ts,f1,f2,f3⟩:=ih f.type sa fuel _ y ha hy fun n hn=>h3 n (.inl hn)
        obtain⟨G,us,g1,g2,g3⟩:=ih2 (o+sa.length) sb ys' hb hys fun n hn=>h3 n (.inr hn)
        rw[ho,<-hal] at f1;refine⟨fun b=>F b+G b,ts++us,?_,f2.append g2,fun b hb=>?_⟩
        ·rw[lU,List.take_add,lA2];exact Row.append f1 g1 fun _=>rfl
        ·by_cases e:F b=0
         ·exact g3 b (by (try dsimp only at hb); omega)
         ·exact f3 b e
       ·cases h1
      ·cases h1
    obtain⟨F,ts,f1,f2,f3⟩:=key _ 0 _ xs gf hx hz';rw[List.drop_zero,lW1 A7] at f1;exact⟨F,ts,f1,f2,f3⟩
   ·cases hs
  ·cases hs
theorem agG {sq:Nat->Bool}:∀ (k:Nat) (t:TypeId) (sh:List Ty) (fuel:Nat) (cs:List Value) (x:DataW H × List MemPlace),iI P k t=some sh->DataW.trod enc P w 0 (fun _=>true) true fuel t cs=some x ->
  (∀ p ∈ x.2,sq p.block=true)->DataW.trod enc P w 0 sq true fuel t cs=some x:=by
 intro k;induction k with
 | zero=>intro t sh fuel cs x h; simp[iI] at h
 | succ k ih=>
  intro t sh fuel cs x hs h hz;cases fuel with
  | zero=>simp[DataW.trod] at h
  | succ fuel=>
  unfold iI at hs;split at hs
  ·rename_i ht;obtain⟨b,rfl⟩:=abm ht h;rw[DataW.trod_step] at h ⊢; unfold DataW.trodStep at h ⊢; rw[ht] at h ⊢; exact h
  ·rename_i q ht;obtain⟨n,rfl,hn⟩:=afi ht h;rw[DataW.trod_step] at h ⊢; unfold DataW.trodStep at h ⊢; rw[ht] at h ⊢; exact h
  ·rename_i ht;obtain⟨s,rfl,hx⟩:=afj ht h;rw[DataW.trod_step] at h ⊢; unfold DataW.trodStep at h ⊢; rw[ht] at h ⊢; exact h
  ·rename_i e ht;obtain⟨she,gf,hs⟩:=lX1.1 hs;split at hs
   ·rename_i hc;obtain⟨cw,bx,dj⟩:=hc;rcases xQ ht h with ⟨rfl,rfl⟩ | ⟨a,len,cap,elems,rest,rfl,hlc,hcm,he,hr,rfl⟩
    ·rw[DataW.trod_step]; unfold DataW.trodStep; rw[ht]; rfl
    ·simp only[lL,lH4] at hz;simp only[lQ] at hr;have one:∀ i x,x ∈ elems\/x ∈ rest->(w.cells? 0 (a.add (i*P.cellsOf e)) (P.cellsOf e)).bind (DataW.trod enc P w 0 (fun _=>true) true fuel e)=some x ->
       (w.cells? 0 (a.add (i*P.cellsOf e)) (P.cellsOf e)).bind (DataW.trod enc P w 0 sq true fuel e)=some x:=by
      intro i x hx h;obtain⟨c,h1,h2⟩:=lX1.1 h;rw[h1];exact ih e she fuel c x gf h2 fun p hp=>hz p (.inr ⟨x,hx,hp⟩)
     have he':=mapM_carry (g:=fun i=>(w.cells? 0 (a.add (i*P.cellsOf e)) (P.cellsOf e)).bind (DataW.trod enc P w 0 sq true fuel e)) he fun i x _ hx h=>one i x (.inl hx) h
     have hr':=mapM_carry (g:=fun j=>(w.cells? 0 (a.add ((len+j)*P.cellsOf e)) (P.cellsOf e)).bind (DataW.trod enc P w 0 sq true fuel e)) hr fun i x _ hx h=>one _ x (.inr hx) h
     have hrl:rest.length=cap-len:=by simpa using mapM_some_length hr
     rw[DataW.trod_step]; unfold DataW.trodStep; rw[ht];simp only[lP3,true_and,hlc,hcm,and_self,lQ];rw[he',lE];by_cases hq:sq a.block=true
     ·rw[lK hq,hr']; rfl
     ·rw[lO hq];have:(elems.length+rest.length)*P.cellsOf e=0:=by
       rcases Nat.eq_zero_or_pos ((elems.length+rest.length)*P.cellsOf e) with h | h
       ·exact h
       ·exact absurd (hz (.cell a.block (a.off+0)) (.inl (MemPlace.mem_row.2 ⟨0,h,rfl⟩))) hq
      have h0:elems.length+rest.length=0:=by
       rcases Nat.mul_eq_zero.1 this with h | h
       ·exact h
       ·omega
      have:rest=[]:=lO1.1 A7;subst this;rfl
   ·cases hs
  ·rename_i fs ht;obtain⟨shs,gf,hs⟩:=lX1.1 hs;obtain⟨bk,xs,hx,rfl⟩:=uU ht h;have key:∀ (l:List Field) (o:Nat) (ss:List Ty) (ys:List (DataW H × List MemPlace)),uT P (iI P k) o l=some ss ->
     (l.mapM fun f=>DataW.trod enc P w 0 (fun _=>true) true fuel f.type ((cs.drop f.offset).take (P.cellsOf f.type)))=some ys->(∀ y ∈ ys,∀ p ∈ y.2,sq p.block=true) ->
     (l.mapM fun f=>DataW.trod enc P w 0 sq true fuel f.type ((cs.drop f.offset).take (P.cellsOf f.type)))=some ys:=by
    intro l;induction l with
    | nil=>intro o ss ys h1 h2 h3; simpa using h2
    | cons f l ih2=>
     intro o ss ys h1 h2 h3;unfold uT at h1;split at h1
     ·obtain⟨sa,ha,h1⟩:=lX1.1 h1;split at h1
      ·obtain⟨sb,hb,rfl⟩:=lS2.1 h1;rw[lX4] at h2 ⊢;simp only[lS4,lX1,lJ5,Option.some.injEq] at h2 ⊢;obtain⟨y,hy,ys',hys,rfl⟩:=h2;exact⟨y,ih f.type sa fuel _ y ha hy (h3 y A8),ys',ih2 _ sb ys' hb hys (fun z hz=>h3 z C0),rfl⟩
      ·cases h1
     ·cases h1
   rw[DataW.trod_step]; unfold DataW.trodStep; rw[ht];simp only[bk,lQ];rw[key _ 0 _ xs gf hx fun y hy p hp=>hz p (lH4.2 ⟨y,hy,hp⟩)];rfl
  ·cases hs
end
section
variable {H:Type} {enc:TypeId × Value->H} {P:Program} {w w':World}
def bv:TV->AV
 | .undef=>.undef
 | .bool b=>.bool b
 | .int k n=>.int k n
 | .str s=>.str s
 | .sl s es=>.ext s es
theorem ap9 {lk:Lk}:∀ {ts:List TV} {vs:List Value} {F:aH},Row w false F vs ts->RepA w lk (fun _=>0) F vs (ts.map bv):=by
 intro ts;induction ts with
 | nil=>
  intro vs F h;cases h with
  | nil _ _ h=>exact .nil _ _ (fun _=>rfl) h
 | cons t ts ih=>
  intro vs F h;have hl:=h.length;cases vs with
  | nil=>simp at hl
  | cons v vs=>
   obtain⟨F1,F2,h1,h2,e⟩:=Row.uncons h;have r:=ih h2;cases t with
   | undef=>
    refine RepA.foot (.undef _ _ _ _ _ r) (fun _=>rfl) fun b=>?_
    cases h1 with
    | undef _ _ _ _ _ h=>cases h with | nil _ _ h=>rw[e,h]; omega
   | bool x=>
    cases h1 with
    | bool _ _ _ _ _ h=>cases h with | nil _ _ h=>exact RepA.foot (.bool _ _ _ _ _ r) (fun _=>rfl) fun b=>by rw[e,h]; omega
   | int k n=>
    cases h1 with
    | int _ _ _ _ _ _ h=>cases h with | nil _ _ h=>exact RepA.foot (.int _ _ _ _ _ _ r) (fun _=>rfl) fun b=>by rw[e,h]; omega
   | str s=>
    cases h1 with
    | str _ _ _ _ _ h=>cases h with | nil _ _ h=>exact RepA.foot (.str _ _ _ _ _ r) (fun _=>rfl) fun b=>by rw[e,h]; omega
   | sl s es=>exact .ext _ _ F1 F2 _ _ _ _ _ h1 r e
def nT (P:Program) (t:TypeId):Bool:=match P.underlying t with | some (.struct _)=>true | _=>false
def al7 (P:Program) (t:TypeId):Option (Bool × List Ty):=(iI P 12 t).map fun sh=>(nT P t,sh)
def aqB (b:Bool) (ts:List TV):AV:=if b then .agg (ts.map bv) else (ts.map bv).headD .undef
def adu:List (Bool × List Ty)->List (List TV)->Prop
 | [],[]=>True
 | p::ps,ts::tss=>Shp p.2 ts/\adu ps tss
 | _,_=>False
def ajd:List (Bool × List Ty)->List (List TV)->List AV
 | p::ps,ts::tss=>aqB p.1 ts::ajd ps tss
 | _,_=>[]
theorem aje {base:Nat} {t:TypeId} {v:Value} {p:Bool × List Ty} (hp:al7 P t=some p) (hv:Value.okWide P w .any base t v) :
  (p.1=true/\∃ cs,v=.agg cs/\v.cells.toList=cs.toList)\/(p.1=false/\p.2.length=1/\v.cells.toList=[v]):=by
 obtain⟨sh,hs,rfl⟩:=lS2.1 hp;unfold iI at hs;split at hs
 ·rename_i ht;obtain⟨b,rfl⟩:=WideShapes.okWide_bool ht hv;cases hs; exact .inr ⟨by simp[nT,ht],rfl,rfl⟩
 ·rename_i q ht;obtain⟨b,rfl⟩:=WideShapes.okWide_int ht hv;cases hs; exact .inr ⟨by simp[nT,ht],rfl,rfl⟩
 ·rename_i ht;obtain⟨b,rfl⟩:=WideShapes.okWide_string ht hv;cases hs; exact .inr ⟨by simp[nT,ht],rfl,rfl⟩
 ·rename_i e ht;obtain⟨a,len,cap,rfl⟩:=WideShapes.okWide_slice ht hv;obtain⟨she,gf,hs⟩:=lX1.1 hs;split at hs
  ·cases hs; exact .inr ⟨by simp[nT,ht],rfl,rfl⟩
  ·cases hs
 ·rename_i fs ht;obtain⟨cs,rfl,hc⟩:=WideShapes.okWide_struct ht hv;exact .inl ⟨by simp[nT,ht],cs,rfl,rfl⟩
 ·cases hs
theorem al8 {base:Nat}:∀ {ts:List TypeId} {vs:List Value} {ds:List (DataW H)} {ps:List MemPlace} {pars:List (Bool × List Ty)},ts.mapM (al7 P)=some pars ->
  DataW.TrodAll enc P w 0 (fun _=>true) true ts vs ds ps->(∀ (j:Nat) t v,ts[j]?=some t->vs[j]?=some v->Value.okWide P w .any base t v)->(∀ n ∈ DataW.weightsEach P ts ds,n<=2^47) ->
  ∃ X tss,adu pars tss/\RepA w lk0 (fun _=>0) X vs (ajd pars tss)/\∀ b,X b≠0->b<w.heap.size:=by
 intro ts;induction ts with
 | nil=>
  intro vs ds ps pars hp h hv hz;simp at hp; subst hp;cases vs with
  | cons _ _=>simp[DataW.TrodAll] at h
  | nil=>exact⟨fun _=>0,[],trivial,RepA.znil,fun _ h=>absurd rfl h⟩
 | cons t ts ih=>
  intro vs ds ps pars hp h hv hz;rw[lX4] at hp;simp only[lS4,lX1,lJ5,Option.some.injEq] at hp;obtain⟨p,hp1,pars',kn,rfl⟩:=hp;cases vs with
  | nil=>simp[DataW.TrodAll] at h
  | cons v vs=>
  cases ds with
  | nil=>simp[DataW.TrodAll] at h
  | cons d ds=>
  obtain⟨p1,q1,⟨fuel,h1⟩,h2,rfl⟩:=h;simp only[DataW.weightsEach,lL] at hz;obtain⟨X,tss,g1,g2,g3⟩:=ih kn h2 (fun j t v h1 h2=>hv (j+1) t v (by simpa using h1) (by simpa using h2)) (fun n hn=>hz n (.inr hn));have mo:=hv 0 t v rfl rfl;obtain⟨sh,hs,rfl⟩:=lS2.1 hp1;obtain⟨F,us,f1,f2,f3⟩:=al6 _ _ _ _ _ _ hs h1 fun n hn=>hz n (.inl hn)
  have r:=ap9 (lk:=lk0) f1;have aa:∀ b,F b+X b≠0->b<w.heap.size:=fun b hb=>by
   by_cases e:F b=0
   ·exact g3 b A7
   ·exact f3 b e
  refine⟨fun b=>F b+X b,us::tss,⟨f2,g1⟩,?_,aa⟩;rcases aje hp1 mo with ⟨e1,cs,rfl,e2⟩ | ⟨e1,e2,e3⟩
  ·simp only[ajd,aqB];simp only at e1;rw[e1,lK rfl];rw[e2] at r;exact .agg _ (fun _=>0) (fun _=>0) _ F X cs.toList _ _ _ r g2 (fun _=>rfl) (fun _=>rfl)
  ·simp only[ajd,aqB];simp only at e1 e2;rw[e1,lO A8];rw[e3] at r;have hl:=f2.length;rw[e2] at hl
   match us,hl with
   | [u],_=>exact RepA.append (vs:=[v]) (as:=[bv u]) r g2 (fun _=>rfl) (fun _=>rfl)
theorem adv {W W':World} {may:MemPlace->Prop} (hg:Grows W W') (hh:∀ b,b<W.heap.size->W'.heap[b]?=W.heap[b]?):W.keptBut W' may:=by
 refine⟨hg.quiet.os,hg.quiet.out,fun i hi=>?_⟩;rw[hh i hi];cases h:W.heap[i]? with
 | none=>simp
 | some o=>
  cases o with
  | cells c t fr=>exact⟨rfl,rfl,rfl,fun _ _=>rfl⟩
  | map es clock=>exact .inr ⟨rfl,rfl⟩
  | _=>rfl
theorem abn {sq:Nat->Bool} {W W':World} (hh:∀ b,b<W.heap.size->W'.heap[b]?=W.heap[b]?):∀ {ts:List TypeId} {vs:List Value} {ds:List (DataW H)} {ps:List MemPlace} {pars:List (Bool × List Ty)},ts.mapM (al7 P)=some pars ->
  DataW.TrodAll enc P W 0 (fun _=>true) true ts vs ds ps->(∀ p ∈ ps,sq p.block=true)->DataW.TrodAll enc P W' 0 sq true ts vs ds ps:=by
 intro ts;induction ts with
 | nil=>
  intro vs ds ps pars hp h hs;cases vs <;> cases ds <;> simp_all [DataW.TrodAll]
 | cons t ts ih=>
  intro vs ds ps pars hp h hs;rw[lX4] at hp;simp only[lS4,lX1,lJ5,Option.some.injEq] at hp;obtain⟨p,hp1,pars',kn,rfl⟩:=hp;cases vs with
  | nil=>simp[DataW.TrodAll] at h
  | cons v vs=>
  cases ds with
  | nil=>simp[DataW.TrodAll] at h
  | cons d ds=>
  obtain⟨p1,q1,⟨fuel,h1⟩,h2,rfl⟩:=h;obtain⟨sh,lw,rfl⟩:=lS2.1 hp1;refine⟨p1,q1,⟨fuel,?_⟩,ih kn h2 (fun p hp=>hs p (lL.2 (.inr hp))),rfl⟩;have aa:=DataW.trod_lt _ _ _ _ h1;have h3:=DataW.trod_carry (w':=W') _ _ _ _ h1 fun p hp=>by
   have:=aa p hp;cases p with
   | cell b off=>exact t6 (hh b this)
   | map b=>exact hh b this
  exact agG _ _ _ _ _ _ lw h3 fun p hp=>hs p (lL.2 (.inl hp))
theorem al9 {P:Program} {r:List (List Char)} (hr:behindMainWord (wordsSigns P.initOrder.toList)=[Char.ofNat 99,Char.ofNat 117,Char.ofNat 116]::r) (h2:P.laysLater=false) (h3:P.bearsReflect=false) (h4:P.doorFits []=true):P.mayEnter=true:=by
 unfold Program.mayEnter;rw[hr];have h1:stripLifts liftWords ([Char.ofNat 99,Char.ofNat 117,Char.ofNat 116]::r)=([],[Char.ofNat 99,Char.ofNat 117,Char.ofNat 116]::r):=by rfl
 dsimp only;rw[h1,h2,h3,h4];rfl
theorem ama {P:Program} {r:List (List Char)} (hr:behindMainWord (wordsSigns P.initOrder.toList)=[Char.ofNat 99,Char.ofNat 117,Char.ofNat 116]::r):P.liftsFinal=false:=by
 unfold Program.liftsFinal Program.headLifts;rw[hr];have h1:stripLifts liftWords ([Char.ofNat 99,Char.ofNat 117,Char.ofNat 116]::r)=([],[Char.ofNat 99,Char.ofNat 117,Char.ofNat 116]::r):=by rfl
 rw[h1];rfl
theorem aoE {P:Program} {r:List (List Char)} (hr:behindMainWord (wordsSigns P.initOrder.toList)=[Char.ofNat 99,Char.ofNat 117,Char.ofNat 116]::r):P.make=some .cut:=by
 unfold Program.make;rw[hr];rfl
theorem oT {a b:Bool} (h:a=true) (g:b=true):(a && b)=true:=by rw[h,g]; rfl
theorem ajf {P:Program} {f:FuncId} {fn:Func} {s:ChangeSpec} {c:OpenClaim} (h0:(c.wf (OpenSpec.ofChange s))=true) (h1:(laidOutB P)=true) (h2:(mapsRowed P)=true) (h3:(fn.params.all (P.readableRec ·))=true) (h4:(namedTie P c.named s.vars)=true) (h5:((c.stops == []))=true) (h6:((P.stops == []))=true) (h7:((c.knobs == []))=true) (h8:((P.stopKnobs == []))=true) (h9:((c.inPlace == P.inPlace f))=true) (h10:((c.unfollowed == P.unfollowed f))=true) (h11:((c.recurses == P.recurses f))=true) (h12:((c.named == P.varsNamed f))=true) (h13:((c.maps == (fn.params.toList++s.plain.varTypes P).any (P.mapsRec ·)))=true) (h14:((c.ifaces == (fn.params.toList++s.plain.varTypes P).any (P.ifacesRec ·)))=true) (h15:((c.mapsOut == P.mapsAmong fn.resultTypes.toList))=true) (h16:((c.loops == (fn.params.toList++s.plain.varTypes P).any (P.loopsFrom ·)))=true) (h17:((c.wideKeys == (fn.params.toList++s.plain.varTypes P++fn.resultTypes.toList).any (P.wideKeysFrom ·)))=true) (h18:(s.vars.all (P.varReadable ·))=true) (h19:(fn.resultTypes.all (fun t=>P.readableRec t && decide (t<P.types.size)))=true) (h20:((c.ifacesOut == fn.resultTypes.toList.any (P.ifacesRec ·)))=true) (h21:((c.loopsOut == fn.resultTypes.toList.any (P.loopsFrom ·)))=true) (h22:((c.plainKeys == P.plainKeys))=true) (h23:(c.shortTexts.isNone)=true) (h24:(P.stopsHeard)=true) (h25:(P.mayEnter)=true) (h26:((c.lifted == P.liftsFinal))=true) (h27:((P.make == some c.make))=true) (h28:((c.kinds == (if c.domain.isEmpty then [] else fn.params.toList.map fun t=>match P.underlying t with | some (.int k)=>some k | _=>none)))=true) (h29:((c.pinned == c.pinnedBy))=true) (lf:((c.veiled == (fn.params.toList++s.plain.varTypes P++fn.resultTypes.toList).any (P.veiledRec ·)))=true) (h31:(c.veiledFits P fn.params.toList (fn.params.toList++s.plain.varTypes P++fn.resultTypes.toList))=true):joinedFacts P f fn s c=true:=by
 unfold joinedFacts;exact(oT (oT (oT (oT (oT (oT (oT (oT (oT (oT (oT (oT (oT (oT (oT (oT (oT (oT (oT (oT (oT (oT (oT (oT (oT (oT (oT (oT (oT (oT (oT h0 h1) h2) h3) h4) h5) h6) h7) h8) h9) h10) h11) h12) h13) h14) h15) h16) h17) h18) h19) h20) h21) h22) h23) h24) h25) h26) h27) h28) h29) lf) h31)
end
theorem uV {P:Program} {f:FuncId} {s:Nat} {es:List (List TV)} {as outs:List AV} {ret:AV}
  (h:∀ (a:Option Addr) (len cap:Nat),(a=none->es=[])->mU P f (.extv (.slice a len cap) s es::as) ret outs):mU P f (.ext s es::as) ret outs:=by
 have key:∀ (w:World) (X:aH) (v:Value),Row w false X [v] [.sl s es]->∃ a len cap,v=.slice a len cap/\(a=none->es=[]):=by
  intro w X v r;cases r with
  | ext0 _ _ a cap _ _ _=>exact⟨a,0,cap,rfl,fun _=>rfl⟩
  | ext _ _ _ _ _ a cap cs _ _ _ _ _ _ _ _ _=>exact⟨some a,_,cap,rfl,fun h=>by cases h⟩
 by_cases hx:es=[]
 ·have h0:=h none 0 0 fun _=>hx
  refine⟨h0.1,h0.2.1,?_⟩;intro w vs F X r;cases r with
  | ext _ _ X1 X2 _ _ v vs _ h1 hr hX=>
   obtain⟨a,len,cap,rfl,ha⟩:=key w X1 v h1;exact(h a len cap ha).2.2 w _ F X (.extv _ _ X1 X2 _ _ _ _ _ h1 hr hX)
 ·have h0:=h (some ⟨0,0,none⟩) 0 0 fun e=>by cases e
  refine⟨h0.1,h0.2.1,?_⟩;intro w vs F X r;cases r with
  | ext _ _ X1 X2 _ _ v vs _ h1 hr hX=>
   obtain⟨a,len,cap,rfl,ha⟩:=key w X1 v h1;exact(h a len cap ha).2.2 w _ F X (.extv _ _ X1 X2 _ _ _ _ _ h1 hr hX)
mutual
def aqs:AV->AV
 | .own s es=>.ext s es
 | .agg cs=>.agg (apy cs)
 | .tup cs=>.tup (apy cs)
 | .undef=>.undef
 | .bool b=>.bool b
 | .int k n=>.int k n
 | .str s=>.str s
 | .ext s es=>.ext s es
 | .extv v s es=>.extv v s es
 | .box cs=>.box cs
 | .xbox cs=>.xbox cs
 | .lnk r e p=>.lnk r e p
 | .sub r e p s lo n=>.sub r e p s lo n
 | .ref r e p st=>.ref r e p st
 | .fn f cs=>.fn f cs
def apy:List AV->List AV
 | []=>[]
 | a::l=>aqs a::apy l
end
theorem aoF {w:World} {F:aH} {v:Value} {s:Nat} {es:List (List TV)} (h:Row w true F [v] [.sl s es]):∃ X,Row w false X [v] [.sl s es]/\∀ b,X b<=F b:=h.weak rfl
theorem RepA.frz {w:World} {lk:Lk} {F X:aH} {vs:List Value} {as:List AV} (h:RepA w lk F X vs as) :
  ∃ F2 N X2:aH,RepA w lk F2 X2 vs (apy as)/\(∀ b,F b=F2 b+N b)/\∀ b,X2 b≠0->X b≠0\/N b≠0:=by
 induction h with
 | nil F X hF hX=>exact⟨F,fun _=>0,X,.nil F X hF hX,fun b=>rfl,fun b hb=>.inl hb⟩
 | undef F X v vs as h ih=>obtain⟨F2,M,X2,r,e1,e2⟩:=ih; exact⟨F2,M,X2,.undef _ _ _ _ _ r,e1,e2⟩
 | bool F X v vs as h ih=>obtain⟨F2,M,X2,r,e1,e2⟩:=ih; exact⟨F2,M,X2,.bool _ _ _ _ _ r,e1,e2⟩
 | int F X k n vs as h ih=>obtain⟨F2,M,X2,r,e1,e2⟩:=ih; exact⟨F2,M,X2,.int _ _ _ _ _ _ r,e1,e2⟩
 | str F X s vs as h ih=>obtain⟨F2,M,X2,r,e1,e2⟩:=ih; exact⟨F2,M,X2,.str _ _ _ _ _ r,e1,e2⟩
 | own F F1 F2 X s es v vs as h1 h hF ih=>
  obtain⟨G2,M,X2,r,e1,e2⟩:=ih;obtain⟨Y,hy,hle⟩:=aoF h1;refine⟨G2,fun b=>F1 b+M b,fun b=>Y b+X2 b,.ext _ _ Y X2 s es v vs _ hy r (fun _=>rfl),fun b=>by (try dsimp only); rw[hF,e1]; omega,fun b hb=>?_⟩;have:=hle b;by_cases hz:Y b=0
  ·rcases e2 b (by (try dsimp only at hb); omega) with h | h
   ·exact .inl h
   ·exact .inr (by (try dsimp only); omega)
  ·exact .inr (by (try dsimp only); omega)
 | ext F X X1 X2 s es v vs as h1 h hX ih=>
  obtain⟨G2,M,Y2,r,e1,e2⟩:=ih;refine⟨G2,M,fun b=>X1 b+Y2 b,.ext _ _ X1 Y2 s es v vs _ h1 r (fun _=>rfl),e1,fun b hb=>?_⟩;by_cases hz:X1 b=0
  ·rcases e2 b (by (try dsimp only at hb); omega) with h | h
   ·exact .inl (by rw[hX]; omega)
   ·exact .inr h
  ·exact .inl (by rw[hX]; omega)
 | extv F X X1 X2 s es v vs as h1 h hX ih=>
  obtain⟨G2,M,Y2,r,e1,e2⟩:=ih;refine⟨G2,M,fun b=>X1 b+Y2 b,.extv _ _ X1 Y2 s es v vs _ h1 r (fun _=>rfl),e1,fun b hb=>?_⟩;by_cases hz:X1 b=0
  ·rcases e2 b (by (try dsimp only at hb); omega) with h | h
   ·exact .inl (by rw[hX]; omega)
   ·exact .inr h
  ·exact .inl (by rw[hX]; omega)
 | box F F1 F2 X X1 X2 b C ty fr cs vs as hb hfr h1 h hF hX ih1 ih=>
  obtain⟨G2,M,Y2,r,e1,e2⟩:=ih;refine⟨fun x=>(if x=b then 1 else 0)+F1 x+G2 x,M,fun x=>X1 x+Y2 x,.box _ F1 G2 _ X1 Y2 b C ty fr cs vs _ hb hfr h1 r (fun _=>rfl) (fun _=>rfl),fun x=>by (try dsimp only); rw[hF,e1]; omega,fun x hx=>?_⟩;by_cases hz:X1 x=0
  ·rcases e2 x (by (try dsimp only at hx); omega) with h | h
   ·exact .inl (by rw[hX]; omega)
   ·exact .inr h
  ·exact .inl (by rw[hX]; omega)
 | xbox F X X1 X2 a us cs vs as hc h1 h hX ih=>
  obtain⟨G2,M,Y2,r,e1,e2⟩:=ih;refine⟨G2,M,fun x=>(if x=a.block then 1 else 0)+X1 x+Y2 x,.xbox _ _ X1 Y2 a us cs vs _ hc h1 r (fun _=>rfl),e1,fun x hx=>?_⟩;by_cases hz:(if x=a.block then 1 else 0)+X1 x=0
  ·rcases e2 x (by (try dsimp only at hx); omega) with h | h
   ·exact .inl (by rw[hX]; omega)
   ·exact .inr h
  ·exact .inl (by rw[hX]; omega)
 | agg F F1 F2 X X1 X2 us cs vs as h1 h hF hX ih1 ih=>
  obtain⟨G1,M1,Y1,r1,f1,f2⟩:=ih1;obtain⟨G2,M,Y2,r,e1,e2⟩:=ih;refine⟨fun x=>G1 x+G2 x,fun x=>M1 x+M x,fun x=>Y1 x+Y2 x,.agg _ G1 G2 _ Y1 Y2 us _ vs _ r1 r (fun _=>rfl) (fun _=>rfl),fun x=>by (try dsimp only); rw[hF,f1,e1]; omega,fun x hx=>?_⟩;by_cases hz:Y1 x=0
  ·rcases e2 x (by (try dsimp only at hx); omega) with h | h
   ·exact .inl (by rw[hX]; omega)
   ·exact .inr (by (try dsimp only); omega)
  ·rcases f2 x hz with h | h
   ·exact .inl (by rw[hX]; omega)
   ·exact .inr (by (try dsimp only); omega)
 | tup F F1 F2 X X1 X2 us cs vs as h1 h hF hX ih1 ih=>
  obtain⟨G1,M1,Y1,r1,f1,f2⟩:=ih1;obtain⟨G2,M,Y2,r,e1,e2⟩:=ih;refine⟨fun x=>G1 x+G2 x,fun x=>M1 x+M x,fun x=>Y1 x+Y2 x,.tup _ G1 G2 _ Y1 Y2 us _ vs _ r1 r (fun _=>rfl) (fun _=>rfl),fun x=>by (try dsimp only); rw[hF,f1,e1]; omega,fun x hx=>?_⟩;by_cases hz:Y1 x=0
  ·rcases e2 x (by (try dsimp only at hx); omega) with h | h
   ·exact .inl (by rw[hX]; omega)
   ·exact .inr (by (try dsimp only); omega)
  ·rcases f2 x hz with h | h
   ·exact .inl (by rw[hX]; omega)
   ·exact .inr (by (try dsimp only); omega)
 | fn F F1 F2 X X1 X2 f us cs vs as h1 h hF hX ih1 ih=>
  obtain⟨G2,M,Y2,r,e1,e2⟩:=ih;refine⟨fun x=>F1 x+G2 x,M,fun x=>X1 x+Y2 x,.fn _ F1 G2 _ X1 Y2 f us cs vs _ h1 r (fun _=>rfl) (fun _=>rfl),fun x=>by (try dsimp only); rw[hF,e1]; omega,fun x hx=>?_⟩;by_cases hz:X1 x=0
  ·rcases e2 x (by (try dsimp only at hx); omega) with h | h
   ·exact .inl (by rw[hX]; omega)
   ·exact .inr h
  ·exact .inl (by rw[hX]; omega)
 | lnk F X r e p o v vs as ho hv h ih=>obtain⟨F2,M,X2,r',e1,e2⟩:=ih; exact⟨F2,M,X2,.lnk _ _ _ _ _ _ _ _ _ ho hv r',e1,e2⟩
 | sub F X r e p s lo n o v vs as ho hv h ih=>obtain⟨F2,M,X2,r',e1,e2⟩:=ih; exact⟨F2,M,X2,.sub _ _ _ _ _ _ _ _ _ _ _ _ ho hv r',e1,e2⟩
 | ref F X r e p st o v vs as ho hv h ih=>obtain⟨F2,M,X2,r',e1,e2⟩:=ih; exact⟨F2,M,X2,.ref _ _ _ _ _ _ _ _ _ _ ho hv r',e1,e2⟩
theorem abo {P:Program} {f:FuncId} {args outs:List AV} {ret:AV} (h:mU P f args ret outs):mU P f args (aqs ret) outs:=by
 refine⟨h.1,h.2.1,?_⟩;intro w vs F X r h1 h2 h3;refine(h.2.2 w vs F X r h1 h2 h3).mono ?_;rintro e w' ⟨v,F',X',he,r',q1,q2,q3,q4,q5,q6⟩;obtain⟨A1,A2,Y1,Y2,r1,r2,eA,eY⟩:=RepA.uncons r';obtain⟨F2,M,X2,r3,eF,eX⟩:=RepA.frz r1;have r4:RepA w' lk0 (fun b=>F2 b+A2 b) (fun b=>X2 b+Y2 b) (v::vs) (aqs ret::outs):=RepA.cons (by simpa [apy] using r3) r2 (fun _=>rfl) (fun _=>rfl);refine⟨v,_,_,he,r4,fun b=>?_,fun b=>?_,q3,q4,fun b hb=>?_,fun b hb=>?_⟩
 ·have:=q1 b; have:=eF b; have:=eA b; (try dsimp only); omega
 ·have a1:=q1 b; have a2:=q2 b; have a3:=eF b; have a4:=eX b; have a5:=eA b; have a6:=eY b;by_cases hz:X2 b=0
  ·(try dsimp only); omega
  ·have:=a4 hz; (try dsimp only); omega
 ·exact q5 b (by have:=eF b; have:=eA b; (try dsimp only at hb); omega)
 ·by_cases hz:X2 b=0
  ·exact q6 b (by have:=eY b; (try dsimp only at hb); omega)
  ·rcases eX b hz with hx | hm
   ·exact q6 b (by have:=eY b; omega)
   ·have hF:F' b≠0:=by have:=eF b; have:=eA b; omega
    refine⟨?_,r'.lt b hF⟩;rcases q5 b hF with g | g
    ·exact .inr (.inl g)
    ·exact .inr (.inr g)
theorem ajg {P:Program} {f:FuncId} {as as' outs:List AV} {ret:AV} (h:mU P f as ret outs) (hl:as'.length=as.length)
  (hw:∀ (w:World) (F X:aH) (vs:List Value),RepA w lk0 F X vs as'->∃ F2 N X2:aH,RepA w lk0 F2 X2 vs as/\(∀ b,F b=F2 b+N b)/\∀ b,X2 b≠0->X b≠0\/N b≠0):mU P f as' ret outs:=by
 refine⟨h.1,by rw[h.2.1,hl],?_⟩;intro w vs F X r h1 h2 h3;obtain⟨F2,M,X2,r2,eF,eX⟩:=hw w F X vs r;refine(h.2.2 w vs F2 X2 r2 (fun b=>by have:=h1 b; have:=eF b; omega) (fun b=>?_) (fun b hb=>?_)).mono ?_
 ·have a1:=h1 b; have a2:=h2 b; have a3:=eF b; have a4:=eX b;by_cases hz:X2 b=0
  ·exact .inr hz
  ·have:=a4 hz; omega
 ·rcases eX b hb with hx | hm
  ·exact h3 b hx
  ·exact r.lt b (by have:=eF b; omega)
 ·rintro e w' ⟨v,F',X',he,r',q1,q2,q3,q4,q5,q6⟩;refine⟨v,F',X',he,r',q1,q2,q3,fun b hb h0=>q4 b hb (by have:=eF b; omega),fun b hb=>?_,fun b hb=>?_⟩
  ·rcases q5 b hb with g | g
   ·exact .inl (by have:=eF b; omega)
   ·exact .inr g
  ·obtain⟨g,g'⟩:=q6 b hb;refine⟨?_,g'⟩;rcases g with g | g | g
   ·rcases eX b g with hx | hm
    ·exact .inl hx
    ·exact .inr (.inl (by have:=eF b; omega))
   ·exact .inr (.inl (by have:=eF b; omega))
   ·exact .inr (.inr g)
theorem agH {P:Program} {f:FuncId} {x:AV} {s:Nat} {es:List (List TV)} {outs:List AV} {ret:AV} (h:mU P f [x,.ext s es] ret outs):mU P f [x,.own s es] ret outs:=by
 refine ajg h rfl fun w F X vs r=>?_
 cases vs with
 | nil=>have:=r.length; simp at this
 | cons v vs=>
  obtain⟨A1,A2,Y1,Y2,r1,r2,eA,eY⟩:=RepA.uncons r;obtain⟨F2,M,X2,r3,e1,e2⟩:=RepA.frz r2;refine⟨fun b=>A1 b+F2 b,M,fun b=>Y1 b+X2 b,RepA.cons r1 (by simpa [apy,aqs] using r3) (fun _=>rfl) (fun _=>rfl),fun b=>by have:=eA b; have:=e1 b; (try dsimp only); omega,fun b hb=>?_⟩;by_cases hz:X2 b=0
  ·exact .inl (by have:=eY b; (try dsimp only at hb); omega)
  ·rcases e2 b hz with h | h
   ·exact .inl (by have:=eY b; omega)
   ·exact .inr h
section
section
variable {w:Wk} {st:List Fr} {E:Env} {is:List GI} {bs:List Nat} {acc:List Rcd}
theorem anx {P:Program} {f nt:Nat} {rs:List RV} {cmd:Cmd} (hm:P.follows .mixedOrders=true) (hc:i8 P f=some (nt,rs,cmd)) (md:iA) (ks:Nat) (bs:List Bool) {args outs:List AV} {ret:AV}
  (ac:args.length<=nt/\args.length<=32) (eo:outs.length=args.length) (ba:d9 bs args=true)
  (h:∀ w:Wk,w.P=P->(w.md=md/\w.ks=ks/\w.Q=Fin rs bs args ret outs)->C w cmd [] (mkV ks (bO 0 bs args++eN 0 bs args) (bO 0 bs args++eN 0 bs args) [])):mU P f args ret outs:=
 ap6 hm hc md ks bs ac eo ba fun w h1 h2 h3 h4=>h w h1 ⟨h2,h3,h4⟩
theorem aN {σ:Type} (D:List Nat) (v:σ->List (Nat × AV)) (J:σ->Prop) (μ:σ->Nat) (s0:σ) {c:Cmd} {P:Program} {md:iA} {ks:Nat} {q:Ex->Env->Prop} {l:List (Nat × AV)} (hP:w.P=P) (hq:w.md=md/\w.ks=ks/\w.Q=q) (hE:mO l (v s0)=l) (h0:J s0)
  (step:∀ s,J s->∀ w':Wk,w'.P=P->(w'.md=md/\w'.ks=ks/\w'.Q=LQD D ks l v J μ s (T w st))->C w' c [] (mkV ks (mO l (v s)) [] [])):LHD w c st D (mkV ks l [] []):=
 ap5 D v J μ s0 hP hq.1 hq.2.1 hE h0 fun s hs w' h1 h2 h3 h4=>step s hs w' h1 ⟨h2,h3,h4⟩
theorem eE {σ:Type} (v:σ->List (Nat × AV)) (J:σ->Prop) (μ:σ->Nat) (s0:σ) {c:Cmd} {P:Program} {md:iA} {ks:Nat} {q:Ex->Env->Prop} {l:List (Nat × AV)} (hP:w.P=P) (hq:w.md=md/\w.ks=ks/\w.Q=q) (hE:mO l (v s0)=l) (h0:J s0)
  (step:∀ s,J s->∀ w':Wk,w'.P=P->(w'.md=md/\w'.ks=ks/\w'.Q=LQ ks l v J μ s (T w st))->C w' c [] (mkV ks (mO l (v s)) [] [])):LH w c st (mkV ks l [] []):=
 ap4 v J μ s0 hP hq.1 hq.2.1 hE h0 fun s hs w' h1 h2 h3 h4=>step s hs w' h1 ⟨h2,h3,h4⟩
theorem cI {d:Option Nat} {f:Nat} {ok:Bool} {args outs:List AV} {ret:AV} {ln:Option (Nat × Nat × bA)} {P:Program} (hP:w.P=P) (hS:mU P f args ret outs)
  (hx:dY (ret::outs)=false) (hv:dZ (ret::outs)=[]) {pls:List Plc} (h:B w d ret is st (mM E ln pls outs)):Y0 w d f ok pls is st args E ln:=
 uQ hP hS (.inl ⟨hx,fun x hx'=>by rw[hv] at hx'; cases hx'⟩) h
theorem cH {d:Option Nat} {f:Nat} {ok:Bool} {args outs:List AV} {ret:AV} {ln:Option (Nat × Nat × bA)} {P:Program} (hP:w.P=P) (hS:mU P f args ret outs)
  (hx:dY (ret::outs)=false) (hv:dZ (ret::outs)=[]) {pls:List Plc} (h:BH w d ret bs acc is st (mM E ln pls outs)):YH0 w d f ok pls bs acc is st args E ln:=
 uR hP hS (.inl ⟨hx,fun x hx'=>by rw[hv] at hx'; cases hx'⟩) h
theorem cK {d:Option Nat} {f:Nat} {cs ds outs:List AV} {ret:AV} {P:Program} (hP:w.P=P) (hS:age P f cs ds ret outs)
  (hx:dY (ret::outs)=false) (hv:dZ (ret::outs)=[]) (h:G w is st (mF E d ret)):YK0 w d f is st cs ds E:=⟨ret,outs,hP ▸ hS,⟨hx,hv⟩,h⟩
theorem cKH {d:Option Nat} {f:Nat} {cs ds outs:List AV} {ret:AV} {P:Program} (hP:w.P=P) (hS:age P f cs ds ret outs)
  (hx:dY (ret::outs)=false) (hv:dZ (ret::outs)=[]) (h:H w bs acc is st (mF E d ret)):aqI w d f bs acc is st cs ds E:=⟨ret,outs,hP ▸ hS,⟨hx,hv⟩,h⟩
theorem aqT (hk:w.ks.testBit 999=true) (hp:is.all plG=true) (t:BT) (h:ak3 w.P w.md is (T w st .n) E (ltB bs) t):RS w bs is st E:=⟨hk,hp,t,h⟩
theorem tP {lt:Nat->Nat->Bool} {σ:List Nat} {is':List GI} (bs':List Nat) (hp:ahZ is.length σ=true) (hb:apF lt σ=bs') (hi:(σ.map fun i=>is.getD i default)=is') (h:H w bs' [] is' st E):ak3 w.P w.md is (T w st .n) E lt (.leaf σ):=
 ⟨hp,by rw[hb,hi]; exact h⟩
end
end
section
variable {P:Program}
theorem aqa {w:World} {vl:Nat->Value} {E:Env} {us:List Value} {cs:List AV} (hE:∀ (i s:Nat) (es:List (List TV)),cs[i]?=some (.own s es)->E.f (rt 0 i)=.own s es/\E.ep (rt 0 i)=(0,0))
  (hb:∀ (i:Nat) (c:AV),cs[i]?=some c->c.isRoot=true->∃ s es,c=.own s es) (hv:∀ (i:Nat) (u:Value),us[i]?=some u->vl (rt 0 i)=u) (r e:Nat) (p:bA) (o:Option Value) (h:lkK w us cs r e p=some o):aM w vl E r e p=some o:=by
 unfold lkK at h;split at h
 case isFalse=>cases h
 rename_i he;subst he;split at h
 case h_2=>cases h
 rename_i c u hc hu;obtain⟨⟨h1,h2,h3⟩,h4⟩:=aC h;obtain⟨s,es,rfl⟩:=hb _ c hc h2;obtain⟨g1,g2⟩:=hE _ s es hc;have g3:=hv _ u hu;have e1:rt 0 ((r-1032)/32)=r:=h1.symm;rw[e1] at g1 g2 g3;unfold aM;rw[g1,g2,g3,lO D8,lK ⟨by simp[fX],rfl,h3⟩];simpa using h4
theorem abp {f:Nat} {fn:Func} {c:Code} {cmd:Cmd} {cs ds outs:List AV} {ret:AV} {ks:Nat} {rs:List RV} (hf:P.funcs[f]?=some fn) (hb:fn.body=some c)
  (mr:(fn.name == "runtime.NumGoroutine")=false) (hn:fn.ntmps≤1000) (ac:2≤fn.ntmps) (ai:alY P fn.ntmps fn.results.toList=some rs) (eo:outs.length=2)
  (hcs:cs.length<=30) (jz:cs.all (fun | .box _=>false | _=>true)=true) (hD:P.follows .mixedOrders=true) (hc:l3 P fn.ntmps c=some cmd)
  (h:awp P ks cmd (fun x E'=>(x=.r\/x=.n)/\adg rs [true,false] [.agg cs,.agg ds] ret outs E') (mkE (bO 0 [true] [.agg cs]++eN 0 [true] [.agg cs]++[(1,.agg ds)]) [])):age P f cs ds ret outs:=by
 refine⟨⟨fn,hf,by rw[hb]; rfl,mr⟩,eo,?_⟩;intro w us zs F X aq ov dp ez mu
 let v0:Value:=.agg us.toArray
 let v1:Value:=.agg zs.toArray
 let B:Base:=⟨w,F,X,fn.ntmps⟩
 let hv:Nat->Value:=apw [v0,v1]
 let a:Act:={ tmps:=[v0,v1].toArray++Array.replicate (fn.ntmps - [v0,v1].toArray.size) undef,defers:=[] }
 have cq:a.tmps.size=B.n:=by simp[a,B]; omega
 have ba:d9 [true] [.agg cs]=true:=by simp[d9,hcs]
 have ga:∀ j v,[v0,v1][j]?=some v->aI a.tmps hv (0+j)=v/\aI a.tmps hv (1000+(0+j))=v/\hv (1000+(0+j))=v:=by
  intro j v hj;have ea:j<2:=(lG.1 hj).1;rw[lL2];have hh:hv (1000+j)=v:=zL A7 hj;refine⟨?_,?_,hh⟩
  ·unfold aI;rw[lK (by rw[cq]; show j<fn.ntmps; omega)];have hjl':j<[v0,v1].length:=ea;have ht:a.tmps=[v0,v1].toArray++Array.replicate (fn.ntmps - [v0,v1].toArray.size) undef:=rfl;rw[ht,lF1,lJ3 (by simpa using hjl'),List.getElem?_toArray,hj];rfl
  ·rw[pG (by rw[cq]; show fn.ntmps<=_; omega)]; exact hh
 have fc:∀ i v,us[i]?=some v->aI a.tmps hv (rt (0+0) i)=v/\hv (rt (0+0) i)=v:=by
  intro i v hi;have:=abc (vs:=[v0,v1]) (k:=0) (us:=us) A7 rfl hi;exact⟨by rw[pG (by rw[cq]; show fn.ntmps<=_; simp only[rt]; omega)]; exact this,this⟩
 have R0:Rel B hv w a (mkE [] []) (fun _ _=>0) (fun _ _=>0):=
  ⟨cq,rfl,fun t=>.undef _ _ _ _ _ RepA.znil,fun _ _=>by omega,fun _ _ _ _=>.inl rfl,fun _ _ _=>.inl rfl,Grows.refl _,fun _ _ _=>rfl,fun _ _ h=>absurd rfl h,fun _ _ h=>absurd rfl h,fun _ _ h=>absurd rfl h⟩
 have P0:PR B hv w a (mkE [] []) (fun _ _=>0) (fun _ _=>0) F X [v0] [.agg cs]:=
  ⟨R0,.agg _ F (fun _=>0) _ X (fun _=>0) us cs [] [] (aq.lk0 _) RepA.znil (fun _=>rfl) (fun _=>rfl),dp,fun _ _=>.inr rfl,fun _ _=>.inr rfl,fun _ _=>.inr rfl,ez,fun b hb=>.inl hb,fun b hb=>⟨.inl hb,mu b hb⟩⟩
 obtain⟨Fs1,Xs1,FP1,XP1,P1⟩:=uM (B:=B) [.agg cs] [true] 0 [v0] [] A8 (by show 0+1<=fn.ntmps; omega) hn A8
  (fun j v hj=>by
   have my:j=0:=by have:=(lG.1 hj).1; simp at this; exact this
   subst my;have:=ga 0 v (by simpa using hj);exact⟨this.1,this.2.1⟩)
  (fun j us' i v hj hi=>by
   have my:j=0:=by have:=(lG.1 hj).1; simp at this; exact this
   subst my;have e:us'=us:=by
    have:v0=.agg us'.toArray:=by simpa using hj
    injection this with h; simpa using h.symm
   subst e;exact(fc i v hi).1) P0
 obtain⟨k1,k2,k3⟩:=abg [.agg cs] [true] 0 0 (.agg cs) rfl rfl A8;have hg:∀ i s es,cs[i]?=some (.own s es)->dC (bO 0 [true] [.agg cs]) (rt 0 i)=.own s es:=fun i s es hi=>k2 cs rfl i s es hi
 obtain⟨Fs2,Xs2,R2⟩:=uN (B:=B) (w:=w) [.agg cs] [true] 0 (bO 0 [true] [.agg cs]) A8 (by show 0+1<=fn.ntmps; omega) hn (by
  intro j x hj la;have my:j=0:=by have:=(lG.1 hj).1; simp at this; exact this
  subst my;have:x=.agg cs:=by simpa using hj.symm
  subst this;refine⟨fun hr=>(by cases hr),fun cs' hcs'=>?_,k3⟩;cases hcs';exact⟨us,(ga 0 v0 rfl).1,aq.prims,fun i s es hi=>hg i s es hi,fun i v hi=>(fc i v hi).1⟩) ba (by simpa using P1.rel)
 have ow:pN (eN 0 [true] [.agg cs]) 1/\∀ q,1000<=q->pN (eN 0 [true] [.agg cs]) q:=by
  refine⟨?_,fun q hq=>?_⟩ <;> intro p hp <;> simp[eN] at hp <;> subst hp <;> simp <;> omega
 have bp:pN (bO 0 [true] [.agg cs]++eN 0 [true] [.agg cs]) 1:=by
  intro p hp;rcases lL.1 hp with hp | hp
  ·obtain⟨i,h1,h2⟩:=qZ [.agg cs] [true] 0 p hp;have cj:i=0:=by simp at h1; exact h1
   subst cj;rcases h2 with ⟨_,h2 | ⟨c,h2⟩⟩ | ⟨h2,_⟩
   ·omega
   ·rw[h2]; simp only[rt]; omega
   ·simp at h2
  ·exact ow.1 p hp
 have hr1:RepA w (aM w (aI a.tmps hv) (mkE (bO 0 [true] [.agg cs]++eN 0 [true] [.agg cs]) [])) (fun _=>0) (fun _=>0) [v1] [.agg ds]:=by
  refine .agg _ (fun _=>0) (fun _=>0) _ (fun _=>0) (fun _=>0) zs ds [] [] ?_ RepA.znil (fun _=>rfl) (fun _=>rfl);refine ov.same (fun r e p o ho=>.inr ?_) (fun _ _=>rfl) (fun _ _=>rfl);refine aqa (fun i s es hi=>⟨?_,rfl⟩) ?_ (fun i u hu=>(fc i u hu).1) r e p o ho
  ·rw[anT,tO (ow.2 _ B7)]; exact hg i s es hi
  ·intro i c hc hr;rw[lP] at jz;have:=jz c (lE3 hc);cases c with
   | own s es=>exact⟨s,es,rfl⟩
   | box cs=>cases this
   | _=>cases hr
 obtain⟨XP',P2⟩:=PR.ofRel R2 hr1 (fun _=>rfl) (fun b hb=>absurd rfl hb);obtain⟨Fs3,Xs3,FP3,XP3,P3⟩:=PR.place P2 (q:=1) (hid':=hv) (ga 1 v1 rfl).1 (fun _ _=>rfl);rw[zM bp] at P3;have G:bC B hv w a (mkE (bO 0 [true] [.agg cs]++eN 0 [true] [.agg cs]++[(1,.agg ds)]) []):=⟨hv,Fs3,Xs3,P3.rel,fun _ _=>rfl⟩
 have mz:=calls_of_wp (args:=#[v0,v1]) hf hb (abb (B:=B) hn hD ks c cmd _ _ _ a w hc ?_ h G) (R:=fun e w'=>∃ v F' X',e=.returned v/\RepA w' lk0 F' X' (v::[v0,v1]) (ret::outs)/\(∀ b,F' b<=1)/\(∀ b,F' b=0\/X' b=0) /\
   Grows w w'/\(∀ b,b<w.heap.size->F b=0->w'.heap[b]?=w.heap[b]?)/\(∀ b,F' b≠0->F b≠0\/w.heap.size<=b)/\(∀ b,X' b≠0->(X b≠0\/F b≠0\/w.heap.size<=b)/\b<w'.heap.size))
 ·exact mz
 rintro x E' a' w' ⟨hx,ja⟩ G';obtain⟨⟨l,E2⟩,hq,jb,fd,ay⟩:=ja;obtain⟨hid,Fs4,Xs4,R4,hh⟩:=G';obtain⟨ts,Fs5,Xs5,FP5,XP5,ae,mj,P5⟩:=xM (l:=l) (E':=E2) ai (PR.nil R4) hq;simp only[lI1] at P5;obtain⟨E6,Fs6,Xs6,FP6,XP6,P6⟩:=xN [.agg cs,.agg ds] 0 [true,false] (vs:=[v0,v1]) rfl A8 hn (by
  intro j v hj;have ea:j<2:=(lG.1 hj).1;rw[hh _ A7];exact(ga j v hj).2.2) (by
  intro j cs' hj la;have my:j=0:=by
   match j,la with
   | 0,_=>rfl
   | 1,h=>simp at h
   | n+2,h=>simp at h
  subst my;have:cs'=cs:=by simpa using hj.symm
  subst this;refine⟨us,rfl,aq.prims,fun i v hi=>?_⟩;have nv:=(lG.1 hi).1;have mj:=aq.length;rw[hh _ B7];exact(fc i v hi).2) P5
 have P7:=ai0 P6 mj;simp only at jb fd;rw[jb,fd] at P7;have fin:a'.defers=[]/\∃ v,(results fn a'.tmps).run P w'=.ok v w'/\∃ v_1 F' X',Ending.returned v=.returned v_1/\RepA w' lk0 F' X' (v_1::[v0,v1]) (ret::outs)/\(∀ b,F' b<=1)/\(∀ b,F' b=0\/X' b=0) /\
   Grows w w'/\(∀ b,b<w.heap.size->F b=0->w'.heap[b]?=w.heap[b]?)/\(∀ b,F' b≠0->F b≠0\/w.heap.size<=b)/\(∀ b,X' b≠0->(X b≠0\/F b≠0\/w.heap.size<=b)/\b<w'.heap.size):=
  ⟨R4.dfr,_,uP ae,_,FP6,XP6,rfl,P7.rep.noLk lk0 ay,P7.one,P7.dx3,P7.rel.grow,P7.rel.frame,P7.org,P7.orgx⟩
 rcases hx with rfl | rfl
 ·exact fin
 ·exact fin
theorem zR {f nt:Nat} {rs:List RV} {cmd:Cmd} (hm:P.follows .mixedOrders=true) (hc:i8 P f=some (nt,rs,cmd)) (md:iA) (ks:Nat) {cs ds outs:List AV} {ret:AV}
  (ac:2<=nt) (eo:outs.length=2) (hcs:cs.length<=30) (jz:cs.all (fun | .box _=>false | _=>true)=true)
  (h:∀ w:Wk,w.P=P->(w.md=md/\w.ks=ks/\w.Q=Fin rs [true,false] [.agg cs,.agg ds] ret outs) ->
   C w cmd [] (mkV ks (bO 0 [true] [.agg cs]++eN 0 [true] [.agg cs]++[(1,.agg ds)]) (bO 0 [true] [.agg cs]++eN 0 [true] [.agg cs]++[(1,.agg ds)]) [])):age P f cs ds ret outs:=by
 unfold i8 at hc;obtain⟨fn,hf,hc⟩:=bind_some hc;obtain⟨c,hb,hc⟩:=bind_some hc;obtain⟨⟨h1,h2⟩,hc⟩:=aC hc;obtain⟨rs',hr,hc⟩:=bind_some hc;obtain⟨cmd',mw,hc⟩:=map_some hc;cases hc;refine abp (ks:=ks) hf hb h1 h2 ac hr eo hcs jz hm mw (apY (md:=md) cmd ?_ fun x E h=>h);rw[ap3 ks];exact pO cmd (h ⟨P,md,ks,Fin rs [true,false] [.agg cs,.agg ds] ret outs⟩ rfl ⟨rfl,rfl,rfl⟩) fun x E hx=>by rw[adl] at hx; exact hx
end
theorem N {p q:Prop} (k:q) (e:p=q:=by conv=>lhs; simp +decide (maxSteps:=9^9) (disch:=omega) only[↓SB0,SX,seval,hQ]):p:=e ▸ k
theorem K {s p q:Prop} (x:s) (k:q) (e:s->q->p:=by intro x k; (first|refine cI hP x rfl rfl ?_|refine cH hP x rfl rfl ?_); (simp +decide (maxSteps:=9^9) (disch:=omega) only[↓SB0,SX,seval,hQ]) <;> exact k):p:=e x k
theorem N1 {p q:Prop} (k:q) (e:p=q:=by conv=>lhs; simp +decide (maxSteps:=9^9) (disch:=omega) only[↓SB0,SX,seval,hQ,hQ1]):p:=e ▸ k
theorem K1 {s p q:Prop} (x:s) (k:q) (e:s->q->p:=by intro x k; (first|refine cI hP1 x rfl rfl ?_|refine cH hP1 x rfl rfl ?_); (simp +decide (maxSteps:=9^9) (disch:=omega) only[↓SB0,SX,seval,hQ,hQ1]) <;> exact k):p:=e x k
theorem N2 {p q:Prop} (k:q) (e:p=q:=by conv=>lhs; simp +decide (maxSteps:=9^9) (disch:=omega) only[↓SB0,SX,seval,hQ,hQ1,hQ2]):p:=e ▸ k
theorem K2 {s p q:Prop} (x:s) (k:q) (e:s->q->p:=by intro x k; (first|refine cI hP2 x rfl rfl ?_|refine cH hP2 x rfl rfl ?_); (simp +decide (maxSteps:=9^9) (disch:=omega) only[↓SB0,SX,seval,hQ,hQ1,hQ2]) <;> exact k):p:=e x k
theorem Nz {f p q:Prop} (z:f) (k:q) (e:f->p=q:=by intro hz; conv=>lhs; simp +decide (maxSteps:=9^9) (disch:=omega) only[↓SB0,SX,seval,hQ,hz]):p:=e z ▸ k
theorem Kz {f s p q:Prop} (z:f) (x:s) (k:q) (e:f->s->q->p:=by intro hz x k; (first|refine cI hP x rfl rfl ?_|refine cH hP x rfl rfl ?_); (simp +decide (maxSteps:=9^9) (disch:=omega) only[↓SB0,SX,seval,hQ,hz]) <;> exact k):p:=e z x k
theorem Nz1 {f p q:Prop} (z:f) (k:q) (e:f->p=q:=by intro hz; conv=>lhs; simp +decide (maxSteps:=9^9) (disch:=omega) only[↓SB0,SX,seval,hQ,hQ1,hz]):p:=e z ▸ k
theorem Kz1 {f s p q:Prop} (z:f) (x:s) (k:q) (e:f->s->q->p:=by intro hz x k; (first|refine cI hP1 x rfl rfl ?_|refine cH hP1 x rfl rfl ?_); (simp +decide (maxSteps:=9^9) (disch:=omega) only[↓SB0,SX,seval,hQ,hQ1,hz]) <;> exact k):p:=e z x k
theorem Nz2 {f p q:Prop} (z:f) (k:q) (e:f->p=q:=by intro hz; conv=>lhs; simp +decide (maxSteps:=9^9) (disch:=omega) only[↓SB0,SX,seval,hQ,hQ1,hQ2,hz]):p:=e z ▸ k
theorem U {P:Program} {f nt:Nat} {rs:List RV} {cmd:Cmd} (hc:i8 P f=some (nt,rs,cmd)) (md:iA) (ks:Nat) (bs:List Bool) {args outs:List AV} {ret:AV}
  (h:∀ w:Wk,w.P=P->(w.md=md/\w.ks=ks/\w.Q=Fin rs bs args ret outs)->C w cmd [] (mkV ks (bO 0 bs args++eN 0 bs args) (bO 0 bs args++eN 0 bs args) []))
  (hm:P.follows .mixedOrders=true:=by exact hmx) (ac:args.length<=nt/\args.length<=32:=by exact⟨lQ2 rfl,lQ2 rfl⟩) (eo:outs.length=args.length:=by exact rfl) (ba:d9 bs args=true:=by exact rfl):mU P f args ret outs:=
 anx hm hc md ks bs ac eo ba h
theorem Kd {s p q:Prop} (x:s) (k:q) (e:s->q->p:=by intro x k; (first|refine uQ hP x (.inl ⟨rfl,fun _ hx=>hx⟩) ?_|refine uR hP x (.inl ⟨rfl,fun _ hx=>hx⟩) ?_); (simp +decide (maxSteps:=9^9) (disch:=omega) only[↓SB0,SX,seval,hQ]) <;> exact k):p:=e x k
theorem Ke {s p q:Prop} (x:s) (k:q) (e:s->q->p:=by intro x k; (first|refine uQ hP x (.inr rfl) ?_|refine uR hP x (.inr rfl) ?_); (simp +decide (maxSteps:=9^9) (disch:=omega) only[↓SB0,SX,seval,hQ]) <;> exact k):p:=e x k
theorem Ke1 {s p q:Prop} (x:s) (k:q) (e:s->q->p:=by intro x k; (first|refine uQ hP1 x (.inr rfl) ?_|refine uR hP1 x (.inr rfl) ?_); (simp +decide (maxSteps:=9^9) (disch:=omega) only[↓SB0,SX,seval,hQ,hQ1]) <;> exact k):p:=e x k
theorem Ke2 {s p q:Prop} (x:s) (k:q) (e:s->q->p:=by intro x k; (first|refine uQ hP2 x (.inr rfl) ?_|refine uR hP2 x (.inr rfl) ?_); (simp +decide (maxSteps:=9^9) (disch:=omega) only[↓SB0,SX,seval,hQ,hQ1,hQ2]) <;> exact k):p:=e x k
theorem Jf {a b c d p:Prop} (x:c->a) (y:d->b) (e:(c->a)->(d->b)->p:=by intro x y; (first|with_reducible exact aqN _ x y|exact aqQ _ x y)):p:=e x y
theorem Jg {a b c d p:Prop} (x:c->a) (y:d->b) (e:(c->a)->(d->b)->p:=by intro x y; (first|with_reducible exact aqO _ x y|exact aqR _ x y)):p:=e x y
theorem Jh {a b c d p:Prop} (x:c->a) (y:d->b) (e:(c->a)->(d->b)->p:=by intro x y; (first|with_reducible exact aqP _ x y|exact aqS _ x y)):p:=e x y
theorem Vw {P:Program} {f nt:Nat} {rs:List RV} {cmd:Cmd} (hc:i8 P f=some (nt,rs,cmd)) (md:iA) (ks:Nat) (bs:List Bool) {args outs:List AV} {ret:AV} {q:Wk->Prop}
  (k:∀ w:Wk,w.P=P->(w.md=md/\w.ks=ks/\w.Q=Fin rs bs args ret outs)->q w)
  (h:∀ w:Wk,w.P=P->(w.md=md/\w.ks=ks/\w.Q=Fin rs bs args ret outs)->q w->C w cmd [] (mkV ks (bO 0 bs args++eN 0 bs args) (bO 0 bs args++eN 0 bs args) []):=by intro w hP hQ k; (simp +decide (maxSteps:=9^9) (disch:=omega) only[↓SB0,SX,seval,hQ]) <;> exact k)
  (hm:P.follows .mixedOrders=true:=by exact hmx) (ac:args.length<=nt/\args.length<=32:=by exact⟨lQ2 rfl,lQ2 rfl⟩) (eo:outs.length=args.length:=by exact rfl) (ba:d9 bs args=true:=by exact rfl):mU P f args ret outs:=
 anx hm hc md ks bs ac eo ba fun w h1 h2=>h w h1 h2 (k w h1 h2)
theorem Kc {s p:Prop} (x:s) (e:s->p:=by intro x; (first|refine cI hP x rfl rfl ?_|refine cH hP x rfl rfl ?_); (simp +decide (maxSteps:=9^9) (disch:=omega) only[↓SB0,SX,seval,hQ]) <;> first|exact trivial|rfl|exact⟨rfl,rfl⟩):p:=e x
theorem Kcz {f s p:Prop} (z:f) (x:s) (e:f->s->p:=by intro hz x; (first|refine cI hP x rfl rfl ?_|refine cH hP x rfl rfl ?_); (simp +decide (maxSteps:=9^9) (disch:=omega) only[↓SB0,SX,seval,hQ,hz]) <;> first|exact trivial|rfl|exact⟨rfl,rfl⟩):p:=e z x
theorem T1 {p:Prop} (h:p:=by first|exact trivial|rfl|exact⟨rfl,rfl⟩):p:=h
section
variable {H:Type} {enc:TypeId × Value->H} {P:Program} {w w':World}
theorem law_laid {X:World->Array Value->Prop} (hX:∀ (w w':World) (args:Array Value),w.heap=w'.heap->X w args->X w' args) {C:Checked} {os:Os} {f:FuncId} {fn:Func} {s:ChangeSpec} {apart fresh ka again:Bool} {pars:List (Bool × List Ty)} {tb:TypeId}
  (own:ownKnob C.prog.godebug=none) (started:os.Started) (noInit:C.prog.inits.idxOf? f=none) (hfn:C.prog.funcs[f]?=some fn)
  (witness:∃ (w:World) (tape:Tape) (i:Input),w.os=os/\(w.forCall tape i).Shaped C.prog/\i.vars=[]/\Input.okWide C.prog (w.forCall tape i) .any w.heap.size f i /\
   ((s.pre enc C.prog fn [] apart (w.forCall tape i).memory i.args/\X (w.forCall tape i).memory i.args)/\sizedMet enc C.prog fn (OpenSpec.ofChange s) apart (w.forCall tape i).memory i.args)/\({}:Assume).holds C.prog (lone (Frame.enter C.prog f i.args .normal) [] (w.forCall tape i)))
  (hv:s.vars=[]) (hp:fn.params.toList.mapM (al7 C.prog)=some pars) (hr:fn.resultTypes=#[tb]) (hb:C.prog.underlying tb=some .bool)
  (hsf:∀ ds:List (DataW H),ds.length=pars.length->s.fn H ds={ results:=[.lit (.bool true)],args:=ds })
  (iw:∀ tss,adu pars tss->∃ outs,mU C.prog f (ajd pars tss) (.bool true) outs) :
  ReturnsInHanded {} C os f .any (fun w args=>(s.pre enc C.prog fn [] apart w args/\X w args)/\sizedMet enc C.prog fn (OpenSpec.ofChange s) apart w args) (s.post enc C.prog fn apart fresh ka again):=by
 refine returnsInHanded_of_change_and hX own started noInit hfn witness ?_;intro W base args ds gs before df hW _ hz _ _;have hW':=hW;obtain⟨p,q,hA,hV,rfl,ch,jx⟩:=hW;rw[hv] at hV;have hgs:gs=[]/\q=[]:=by cases gs <;> simp_all [DataW.TrodVars]
 obtain⟨rfl,rfl⟩:=hgs;have ip:s.plain.varTypes C.prog=[]:=by simp[ChangeSpec.plain,DataSpec.varTypes,hv]
 rw[ip] at hz;simp only[lX2] at hz hW' ch jx;obtain⟨X,tss,h1,h2,h3⟩:=al8 (base:=base) hp hA (fun j t v e1 e2=>df j t v (by simpa using e1) (by simpa using e2))
  (fun n hn=>Nat.le_of_lt (lR2 (by simpa using lP.1 hz n hn) reachBytes_lt))
 obtain⟨outs,hS⟩:=iw tss h1;have hc:=hS.2.2 W args.toList (fun _=>0) X h2 (fun _=>by omega) (fun _=>.inl rfl) h3;rw[Array.toArray_toList] at hc;refine hc.mono ?_;rintro e W' ⟨v,F',X',rfl,aq,_,_,hg,hfr,_,_⟩;have ip:v=.bool true:=by
  obtain⟨_,_,_,_,r1,_,_⟩:=RepA.uncons aq;cases r1; rfl
 subst ip;refine⟨_,rfl,?_⟩;have hh:∀ b,b<W.heap.size->W'.heap[b]?=W.heap[b]?:=fun b hb=>hfr b hb rfl
 have gh:ds.length=pars.length:=by
  have e1:=mapM_some_length hp;have:∀ {ts:List TypeId} {vs:List Value} {ds:List (DataW H)} {ps:List MemPlace},DataW.TrodAll enc C.prog W 0 (fun _=>true) true ts vs ds ps->ds.length=ts.length:=by
   intro ts;induction ts with
   | nil=>intro vs ds ps h; cases vs <;> cases ds <;> simp_all [DataW.TrodAll]
   | cons t ts ih=>
    intro vs ds ps h;cases vs with
    | nil=>simp[DataW.TrodAll] at h
    | cons v vs=>
    cases ds with
    | nil=>simp[DataW.TrodAll] at h
    | cons d ds=>obtain⟨_,_,_,h2,_⟩:=h; simp[ih h2]
  rw[this hA,e1]
 have hsd:=hsf ds gh;have ai:∀ (b:Nat) (sp:Nat->Bool) (hd:Bool),DataW.TrodAll enc C.prog W' b sp hd fn.resultTypes.toList (Value.resultList fn.resultTypes.size (.bool true)) [.lit (.bool true)] []:=by
  intro b sp hd;rw[hr];exact⟨[],[],RowKit.shut_bool hb true,rfl,rfl⟩
 have aa:∀ x ∈ p,x.block<W.heap.size:=fun x hx=>hW'.lt x hx
 have hTA:∀ sq:Nat->Bool,(∀ x ∈ p,sq x.block=true)->DataW.TrodAll enc C.prog W' 0 sq true fn.params.toList args.toList ds p:=fun sq oj=>abn hh hp hA oj
 refine⟨ds,[],p,[],p,[],hW',?_,?_,?_,adv hg hh,fun _=>⟨?_,.lit (.bool true)::ds,[],p,⟨p,[],?_,?_,by simp,?_,jx⟩,fun _ h _=>h⟩⟩
 ·rw[lX2,hsd]; exact ai _ _ _
 ·rw[lX2,hsd]; exact hTA _ fun x hx=>by simpa using aa x hx
 ·rw[lX2,hsd,hv]; rfl
 ·exact RowKit.ok_one hr rfl (RowKit.okWide_bool_mk hb true)
 ·rw[hr]; exact⟨[],p,RowKit.shut_bool hb true,hTA _ fun _ _=>rfl,rfl⟩
 ·rw[hv]; rfl
 ·intro b off hm;rw[World.frozen?_of_block (w:=W) (hh b (aa _ hm))];exact ch b off hm
theorem amb {P:Program} {os:Os} {laid:List (String × DataW Unit)} (args:Array Value) (h:(laid.filter fun x=>x.2.handleName?.isSome).isEmpty=true)
  (hf:(World.holding P os ⟨#[],#[],[]⟩).layFits P laid []=true) (hi:(World.holding P os ⟨#[],#[],[]⟩).layIfaces P laid (World.laidAll P os laid)=true) :
  laidMetH P laid ((World.laidAll P os laid).forCall (fun _ _=>0) ⟨#[],args,[]⟩).memory:=by
 unfold laidMetH;split
 ·exact laidMet_laidAll args hf hi
 ·rename_i e;rw[e] at h;cases h
end
end Go.Proofs.YtnfeefcnblondaaGreatDoor.Awp
