/- A general law about the translated programs is proved here: what a function's code does to values that are trees of cells (part 2). Condition: none. -/
import Derived.Test.YtnfeefcnblondaaGreatDoorAwp1
import Derived.Deep.Upon
import Derived.Orders
set_option linter.unusedVariables false
set_option linter.unusedSimpArgs false
set_option maxRecDepth 100000
set_option maxHeartbeats 20000000
namespace Go.Proofs.YtnfeefcnblondaaGreatDoor.Awp
section
variable {P:Program} {w w':World} {B:Base} {hid hv:Nat->Value} {a:Act} {E:Env} {Fs Xs:Nat->aH} {FP XP:aH} {Q:Exit->Act->World->Prop} {o:Oper}
theorem y5 (p:bA):∀ (a u u':AV),b9 a p=some u->u'.tv.isSome=true->kV a p u'=true:=by
 induction p with
 | nil=>intro a u u' _ _; cases a <;> rfl
 | cons st p ih=>
  intro a u u' hg hu;cases a with
  | own s es=>simpa [kV] using hu
  | box cs=>
   simp only[b9] at hg;split at hg
   case isFalse=>cases hg
   cases hj:cs[st.j]? with
   | none=>simp[hj] at hg
   | some a1=>simp[hj] at hg; simp only[kV,hj]; exact ih a1 u u' hg hu
  | _=>simp[b9] at hg
theorem mY (p : bA) (a u' : AV) (h : a.isRoot = true) (hu : u'.isRoot = true) : (cX a p u').isRoot = true := by
  cases p with
  | nil => have : cX a [] u' = u' := by cases a <;> rfl
           rw[this]; exact hu
  | cons st p =>
    cases a with
    | own s es => simp only[cX]; split <;> rfl
    | box cs => rfl
    | _ => cases h
theorem aeW (a u:AV):cX a [] u=u:=by cases a <;> rfl
theorem pK (a:AV):b9 a []=some a:=by cases a <;> rfl
theorem alk (a u:AV):kV a [] u=true:=by cases a <;> rfl
theorem gS (b o i:Nat):(⟨b,o,none⟩:Addr).add i=⟨b,o+i,none⟩:=by unfold Addr.add; split <;> simp_all
theorem alm {o1:O} {r e:Nat} {p:bA} {st:St} (h:val E o1=.ref r e p st):fK E o1=(.ref r e p st,E):=by
 cases o1 with
 | t m=>simp only[val] at h; simp[fK,h,AV.owns]
 | c y=>simp only[val] at h; simp[fK,h]
theorem acY {lk:Lk} {F X:aH} {v u:Value} {r e:Nat} {p:bA} {st:St} (h:RepA w lk F X [v] [.ref r e p st]) (hl:lk r e p=some (some u)) :
  ∃ ad,hdr u=some ad/\v=.pointer (some (ad.add (st.i*st.s+st.j))):=by
 cases h with
 | ref _ _ _ _ _ _ o _ _ _ ho hv' _=>rw[hl] at ho; cases ho; exact hv' _ rfl
theorem aln {t:TypeId} {x v:Operand} {o1 o2:O} {sz:Nat} {E':Env} (ho:o.op=.store t x v) (hd:o.dst=none) (hs:oC P t=some sz)
  (hx:OpdOk B.n x o1) (hv':OpdOk B.n v o2) (G:bC B hv w a E) (h:ev E (.st o1 o2 sz)=some E') :
  o.wp P a w (fun a' w'=>bC B hv w' a' E') Q:=by
 simp only[ev] at h;split at h
 case h_2=>cases h
 rename_i r e p st e1;cases hg:dR E o2 with
 | none=>simp[hg] at h
 | some g=>
  simp only[hg,lE] at h;obtain⟨hid,Fs,Xs,R,hh⟩:=G;obtain⟨Fs1,Xs1,FP1,XP1,P1⟩:=gG hx (PR.nil R);rw[alm e1] at P1;obtain⟨Fs2,Xs2,FP2,XP2,P2⟩:=dN (x':=g.1) (E':=g.2) hv' P1 hg;simp only[lI1,lD2] at P2;obtain⟨A1,A2,Y1,Y2,q1,q2,eA,eY⟩:=RepA.uncons P2.rep;have P3:PR B hid w a g.2 Fs2 Xs2 A2 Y2 [a.eval v] [g.1]:=P2.shrink q2 (fun b=>by have:=eA b; omega) (fun b=>by have:=eY b; omega);have fin:∀ (b off:Nat) (C:Array Value) (ty:TypeId) (fr:Nat × Nat),a.eval x=.pointer (some ⟨b,off,none⟩)->w.heap[b]?=some (.cells C ty fr)->thaw C.size fr->off+sz<=C.size ->
    (a.eval v).cells.size=sz->(∀ u ∈ (a.eval v).cells.toList,u.oneCell'=true) ->
    (∀ w' C2,C2.toList=lay C.toList off (a.eval v).cells.toList->w'.heap[b]?=some (.cells C2 ty fr)->(∀ b',b'≠b->w'.heap[b']?=w.heap[b']?)->Kept w w'->bC B hv w' a E') ->
    o.wp P a w (fun a' w'=>bC B hv w' a' E') Q:=by
   intro b off C ty fr iq hb hfr hle be h1 hfin;obtain⟨C2,c1,c2,c3,c4⟩:=cF b (a.eval v).cells.toList off w C ty fr hb B0;refine anW (w':=w.setCells b off (a.eval v).cells.toList) ?_ hd (hfin _ C2 c1 c2 c3 c4);rw[execOp,ho];simp[Instr.storeAt,iq,Instr.sureAddr,pJ hs be hb hfr hle h1]
  split at h
  ·rename_i cs0 gp;split at h
   case isFalse=>cases h
   rename_i hc;obtain⟨cw,bx,dj,jw,gz,hc6⟩:=hc;cases h;have al:=i7 q2 dj;have be:(a.eval v).cells.size=sz:=by have:=al.length; simpa [gz] using this
   have hrr:=P3.rel.rep r;rw[gp] at hrr;have ay:aM w (aI a.tmps hid) g.2 r e []=some (some (aI a.tmps hid r)):=by
    unfold aM; rw[if_neg (by rw[cw]; simp[fX]),if_pos ⟨by rw[cw]; rfl,by rw[gp]; rfl,by rw[gp]; rfl⟩]; rfl
   obtain⟨ad,ir,iq⟩:=acY q1 ay;generalize hvr:aI a.tmps hid r=vr at *;cases hrr with
   | box _ F1 F2 _ X1 X2 b C ty fr _ _ _ hb hfr h1 h2 ki eu=>
    cases ir;rw[bx,lQ4,lL2,gS,lL2] at iq;have oh:C.size=cs0.length:=by have:=h1.length; simpa using this
    refine fin b st.j C ty fr iq hb hfr A7 be (aeV al jw) ?_;intro w' C2 c1 c2 c3 c4;have np:=Rel.poke (w':=w') (r:=r) (p:=[]) (u:=.box cs0) (u':=.box (lay cs0 st.j (cellsOf g.1))) (P3.rerep al) (by rw[pK,gp]) (alk _ _) (by rw[aeW]; rfl) (by
     intro h Fu Xu hu ai one d1 d2 d3;have hh:h=.pointer (some ⟨b,0,none⟩):=by
      have:i4 w (aI a.tmps hid r) []=some (aI a.tmps hid r):=rfl;rw[this,hvr] at ai; cases ai; rfl
     subst hh;cases hu with
     | box _ F1' F2' _ X1' X2' _ C' ty' fr' _ _ _ hb' hfr' h1' h2' hFF' hXX'=>
      rw[hb] at hb'; cases hb';cases h2' with
      | nil _ _ z1 z2=>
       have hFb:Fu b=1:=by have:=hFF' b; have:=one b; simp at *; omega
       have ei:F1' b=0:=by have:=hFF' b; simp at this; omega
       refine⟨fun x hx=>c3 x (by intro e; rw[e] at hx; omega),fun lk' links=>?_⟩;have s1:j6 w w' F1':=fun x hx=>c3 x (fun e=>hx (by rw[e]; exact ei))
       have s2:j6 w w' X1':=fun x hx=>c3 x (fun e=>by subst e; have:=d3 x; have:=hXX' x; omega)
       have s3:j6 w w' A2:=fun x hx=>c3 x (fun e=>by subst e; have:=d1 x; omega)
       have s4:j6 w w' Y2:=fun x hx=>c3 x (fun e=>by subst e; have:=d2 x; omega)
       obtain⟨H,Z,hr,hH,hZ⟩:=RepA.lay (h1'.same links s1 s2) (al.same links s3 s4) st.j B0;rw[<-c1] at hr;have fv:C2.size=C.size:=by rw[<-lD1,c1,fA _ _ _ B0]; simp
       exact⟨fun x=>(if x=b then 1 else 0)+H x,Z,fun x=>by have:=hFF' x; have:=hH x; (try dsimp only); omega,fun x=>by have:=hXX' x; have:=hZ x; omega,
        .box _ H (fun _=>0) _ Z (fun _=>0) b C2 ty fr _ [] [] c2 (by rw[fv]; exact hfr) hr RepA.znil (fun x=>by omega) (fun x=>by omega)⟩) c4
    obtain⟨Fs',Xs',R'⟩:=np;rw[aeW] at R';exact⟨hid,Fs',Xs',R',hh⟩
  ·rename_i p _ _ _;cases ht:tvs (cellsOf g.1) with
   | none=>simp[ht] at h
   | some ts=>
    simp only[ht,lE] at h;cases hn:aK g.2 r e p with
    | none=>simp[hn] at h
    | some y=>
     obtain⟨s,es⟩:=y;simp only[hn,lE] at h;split at h
     case isFalse=>cases h
     rename_i hc;obtain⟨cw,bx,dj,jw,gz,hc6⟩:=hc;cases h;have al:=i7 q2 cw;obtain⟨ak,hz⟩:=RepA.to_rows al ht;have be:(a.eval v).cells.size=sz:=by have:=ak.length; simpa [gz] using this
     obtain⟨he,af,db⟩:=bR hn;obtain⟨hd',Fu0,Fr0,Xu0,Xr0,nq,hX0,mb,ck,_⟩:=j7 p (P3.rel.rep r) db;have ay:aM w (aI a.tmps hid) g.2 r e p=some (some hd'):=by
      unfold aM; rw[if_neg A7,if_pos ⟨he,af,by rw[db]; rfl⟩,ck]
     obtain⟨ad,ir,iq⟩:=acY q1 ay;obtain⟨co,_⟩:=RepA.to_row mb rfl;have one0:∀ b,Fu0 b<=1:=fun b=>by have:=P3.rel.one r b; have:=nq b; omega
     obtain⟨b,off,cap,C,ty,fr,nu,hb,hfr,hFb,hle,_⟩:=Row.poke co one0 ak (fun b=>by have:=P3.dis r b; have:=nq b; omega) jw (by rw[gz]; exact hc6);subst nu;cases ir;rw[dj,gS] at iq;refine fin b _ C ty fr iq hb hfr.thaw A7 be (aeV al bx) ?_;intro w' C2 c1 c2 c3 c4;have np:=Rel.poke (w':=w') (r:=r) (p:=p) (u:=.own s es) (u':=.own s (es.modify st.i (lay · st.j ts))) (P3.rerep al) db (y5 p _ _ _ db rfl) (mY _ _ _ af rfl) (by
      intro h Fu Xu hu ai one d1 d2 d3;rw[ck] at ai;cases ai;obtain⟨dk,ca⟩:=RepA.to_row hu rfl;obtain⟨b',off',cap',C',ty',fr',hh1',hb',hfr',hFb',hle',hput⟩:=Row.poke dk one ak d1 jw (by rw[gz]; exact hc6);cases hh1';rw[hb] at hb'; cases hb';refine⟨fun x hx=>c3 x (by intro e; rw[e] at hx; omega),fun lk' links=>?_⟩;obtain⟨H,hr,hH⟩:=hput w' C2 c1 c2 c3;exact⟨H,fun _=>0,hH,fun b=>by simp,RepA.of_row hr⟩) c4
     obtain⟨Fs',Xs',R'⟩:=np;exact⟨hid,Fs',Xs',R',hh⟩
theorem PR.write {vs vs':List Value} {xs xs':List AV} {FP' XP':aH} (P1:PR B hid w a E Fs Xs FP XP vs xs) (bm:∀ b,FP b=0->w'.heap[b]?=w.heap[b]?) (ma:Kept w w')
  (h:∀ lk':Lk,(∀ r e p o,aM w (aI a.tmps hid) E r e p=some o->lk' r e p=some none\/lk' r e p=some o)->RepA w' lk' FP' XP' vs' xs')
  (hF:∀ b,FP' b<=FP b) (hX:∀ b,XP' b<=XP b):PR B hid w' a E Fs Xs FP' XP' vs' xs':=by
 have R:=P1.rel;have ar:=ma.size;have samF:∀ t,j6 w w' (Fs t):=fun t b hb=>bm b (by have:=P1.dis t b; omega)
 have samX:∀ t,j6 w w' (Xs t):=fun t b hb=>bm b (by have:=P1.dx1 t b; omega)
 have links:∀ r e p o,aM w (aI a.tmps hid) E r e p=some o->aM w' (aI a.tmps hid) E r e p=some none\/aM w' (aI a.tmps hid) E r e p=some o:=by
  intro q e p' o ho;exact .inr (by rw[kW (w':=w') (a':=a) (hid':=hid) R rfl rfl rfl (samF q) (samX q)]; exact ho)
 refine⟨?_,h _ links,fun b=>lZ4 (hF b) (P1.one b),fun t b=>by have:=P1.dis t b; have:=hF b; omega,fun t b=>by have:=P1.dx1 t b; have:=hF b; omega,
  fun t b=>by have:=P1.dx2 t b; have:=hX b; omega,fun b=>by have:=P1.dx3 b; have:=hF b; have:=hX b; omega,fun b hb=>P1.org b (by have:=hF b; omega),
  fun b hb=>by rw[ar]; exact P1.orgx b (by have:=hX b; omega)⟩
 refine R.change (fun _=>False) R.size R.dfr (fun t _=>⟨rfl,rfl,rfl,rfl,rfl,samF t,samX t⟩) (fun _ h=>h.elim) (fun _ _ h=>h.elim) (fun _ h=>h.elim) (fun _ h=>h.elim) (fun _ h=>h.elim)
  (fun _ h=>h.elim) ⟨by omega,ma.quiet⟩ ?_ (fun _ h=>h.elim) (fun _ h=>h.elim)
 intro b hb h0;refine bm b ?_;by_cases e:FP b=0
 ·exact e
 ·have:=P1.org b e; omega
theorem agp (w:World) (o:Obj):(w.drew.alloc o).heap=w.heap.push o:=rfl
theorem alo {t tx ty e:TypeId} {i:TypeInfo} {z:Value} {vx vy:Value} {news:List Value} {es0 rows:List (List TV)} {s bts n:Nat} {G:aH}
  (P1:PR B hid w a E Fs Xs FP XP [vx] [.own s es0]) (bh:Row w true G news rows.flatten) (hG:∀ b,G b<=1) (ez:∀ b,G b=0\/FP b=0) (hdx:∀ b,G b=0\/XP b=0)
  (hGt:∀ t b,G b=0\/Fs t b=0) (hGx:∀ t b,G b=0\/Xs t b=0) (hGo:∀ b,G b≠0->B.F0 b≠0\/B.w0.heap.size<=b)
  (fa:∀ r ∈ rows,r.length=s) (hn:rows.length=n)
  (ht:P.underlying t=some (.slice e)) (hi:P.info? e=some i) (hz:i.zero=some z) (hs:i.size=s) (hb:i.bytes=bts) (hb0:bts≠0) (dw:z.cells.size=s)
  (src:Src P i.size tx vy n news w) (hle:(es0.length+n)*bts<=2^47) :
  ∃ v' w',(Builtin.append_ #[t,tx] ty #[vx,vy]).run P w=.ok v' w'/\∃ FP' XP',PR B hid w' a E Fs Xs FP' XP' [v'] [.own s (es0++rows)]:=by
 subst hs hb hn;obtain⟨ak,oe⟩:=RepA.to_row P1.rep rfl;have hneed:es0.length+rows.length<=2^47:=by
  have:(es0.length+rows.length)*1<=(es0.length+rows.length)*i.bytes:=Nat.mul_le_mul_left _ A7;omega
 have cd:news.length=rows.length*i.size:=by rw[bh.length,bS _ fa]
 have P2:PR B hid w a E Fs Xs (fun b=>FP b+G b) (fun _=>0) ([vx]++news) ([.own i.size es0]++rows.flatten.map TV.av):=by
  refine⟨P1.rel,RepA.append P1.rep (RepA.of_rows bh) (fun b=>rfl) (fun b=>by rw[oe]),?_,?_,?_,fun t b=>.inl rfl,fun b=>.inr rfl,?_,fun b hb=>absurd rfl hb⟩
  ·intro b; have:=P1.one b; have:=hG b; have:=ez b; (try dsimp only); omega
  ·intro t b; have:=P1.dis t b; have:=hGt t b; (try dsimp only); omega
  ·intro t b; have:=P1.dx1 t b; have:=hGx t b; (try dsimp only); omega
  ·intro b hb;by_cases e0:G b=0
   ·exact P1.org b (by (try dsimp only at hb); omega)
   ·exact hGo b e0
 have grow:∀ (base:Option Addr) (cap:Nat) (cs:List Value) (F1:aH),vx=.slice base es0.length cap->cap<es0.length+rows.length->cs.length=es0.length*i.size->Row w true F1 cs es0.flatten->(∀ b,F1 b<=FP b) ->
   (∀ r ∈ es0,r.length=i.size)->(∀ k v,cs[k]?=some v->∃ ad,base=some ad/\w.cell? (ad.add k)=some v) ->
   ∃ v' w',(Builtin.append_ #[t,tx] ty #[vx,vy]).run P w=.ok v' w'/\∃ FP' XP',PR B hid w' a E Fs Xs FP' XP' [v'] [.own i.size (es0++rows)]:=by
  intro base cap cs F1 hvx hcap it hcs dp ap bw;have hfc:(Builtin.firstCells i.size es0.length (.slice base es0.length cap)).run P w.drew=.ok cs.toArray w.drew:=by
   cases base with
   | none=>
    cases cs with
    | nil=>exact run_firstCells_none _ _ _ _ _
    | cons c cs=>obtain⟨ad,h,_⟩:=bw 0 c rfl; cases h
   | some ad=>
    refine run_firstCells_some _ _ _ ad _ _ cs it (fun j v hj=>?_);obtain⟨ad',h,h2⟩:=bw j v hj;cases h;simpa using h2
  have ae:=run_append_grow_src (P:=P) w t tx ty e i z ht hi hz base es0.length cap cs hfc vy rows.length news src hcap A7 (by
   have h1:=nextslicecap_le (need:=es0.length+rows.length) (old:=cap) hcap;have h2:Builtin.nextslicecap (es0.length+rows.length) cap*i.bytes<=2*(es0.length+rows.length)*i.bytes:=lJ1 _ h1;have h3:2*(es0.length+rows.length)*i.bytes=2*((es0.length+rows.length)*i.bytes):=Nat.mul_assoc _ _ _;omega)
  rw[<-hvx] at ae;refine⟨_,_,ae,?_⟩;have P3:PR B hid w a E Fs Xs (fun b=>F1 b+G b) (fun _=>0) (cs++news) ((es0++rows).flatten.map TV.av):=by
   refine P2.shrink ?_ (fun b=>by have:=dp b; (try dsimp only); omega) (fun b=>Nat.le_refl _);rw[lV1,lP2];exact RepA.append (RepA.of_rows hcs) (RepA.of_rows bh) (fun _=>rfl) (fun _=>rfl)
  have hge:=grownCap_ge w (es0.length+rows.length) cap e;obtain⟨FP',P4⟩:=y0 (s:=i.size) (C:=(cs++news).toArray++Builtin.zeroCells z.cells (grownCap w (es0.length+rows.length) cap e-(es0.length+rows.length))) (ty:=e) (cap:=grownCap w (es0.length+rows.length) cap e) P3
   (fun r hr=>by rcases lL.1 hr with h | h; exact ap r h; exact fa r h)
   (by
    rw[lE4,lF5,size_zeroCells,dw,lU,it,cd,<-lH2,<-lH2];exact lJ1 _ A7)
   (by rw[lU]; exact hge)
   (by
    intro k hk;rw[lJ3 (by simpa using hk)];simp) (agp w _)
  rw[lU] at P4;exact⟨FP',_,P4⟩
 rcases Row.sl_inv ak with ⟨rfl,rfl,_⟩ | ⟨F1,b,off,cap,C,tyc,fr,cs,rfl,hb,hfr,hcap,hle',ap,hcs,hc,h1,hF⟩
 ·by_cases fi:rows.length=0
  ·have hr0:rows=[]:=lO1.1 fi;subst hr0;have hnw:news=[]:=by simpa using cd
   subst hnw;have:=run_append_nothing (P:=P) w t tx ty e i ht hi none 0 0 (lE1 _) vy src;exact⟨_,_,this,_,_,by simpa using P1⟩
  ·exact grow none 0 [] (fun _=>0) rfl B0 A8 (.nil _ _ fun _=>rfl) (fun b=>lP3 _) A8 A8
 ·by_cases ah:es0.length+rows.length<=cap
  ·have ac:es0.length*i.size+rows.length*i.size<=cap*i.size:=by rw[<-lH2]; exact lJ1 _ ah
   have ae:=run_append_room_src (P:=P) w t tx ty e i ht hi b off es0.length cap vy rows.length news src ah (by
    intro j hj;have:off+es0.length*i.size+j<C.size:=by omega
    simp[World.cell?,hb,this]) (by
    intro j hj;have:=hfr.1 (off+es0.length*i.size+j) A7;simp[World.frozen?,hb];simpa using this)
   refine⟨_,_,ae,?_⟩;obtain⟨C2,c1,c2,c3,c4⟩:=cF b news (off+es0.length*i.size) w C tyc fr hb A7;have hFb:FP b=1:=by have:=hF b; have:=P1.one b; simp at *; omega
   have ei:F1 b=0:=by have:=hF b; simp at this; omega
   have ko:G b=0:=by have:=ez b; omega
   have fv:C2.size=C.size:=by rw[<-lD1,c1,fA _ _ _ B0]; simp
   refine⟨fun x=>(if x=b then 1 else 0)+(F1 x+G x),fun _=>0,P2.write (fun x hx=>c3 x (by intro e0; subst e0; (try dsimp only at hx); omega)) c4 (fun lk' links=>?_) (fun x=>by have:=hF x; (try dsimp only); omega) (fun _=>Nat.le_refl _)⟩;have r1:Row (w.setCells b (off+es0.length*i.size) news) true F1 cs es0.flatten:=h1.same (fun x hx=>c3 x (fun e0=>hx (by rw[e0]; exact ei)));have r2:Row (w.setCells b (off+es0.length*i.size) news) true G news rows.flatten:=bh.same (fun x hx=>c3 x (fun e0=>hx (by rw[e0]; exact ko)));refine RepA.of_row (Row.of_sl (cs:=cs++news) A8 c2 (by rw[fv]; exact hfr) A7 (by simpa using ah) ?_ ?_ ?_ (by rw[lV1]; exact Row.append r1 r2 (fun _=>rfl)) (fun x=>rfl))
   ·intro r hr; rcases lL.1 hr with h | h; exact ap r h; exact fa r h
   ·rw[lU,lU,hcs,cd,lH2]
   ·intro k hk;rw[lU] at hk;rw[<-lR1,c1,g8 _ _ _ B0,lB4];by_cases cn:k<cs.length
    ·rw[lO A7,lK cn,lR1]; exact hc k cn
    ·rw[lK A7,lO cn]; congr 1; omega
  ·refine grow _ cap cs F1 rfl A7 hcs h1 (fun x=>by have:=hF x; omega) ap ?_;intro k v hk;refine⟨_,rfl,?_⟩;have cg:=(lG.1 hk).1;have:=hc k cg;rw[gS];simp[World.cell?,hb];rw[this,hk]
theorem kE {b:Bool} {F:aH} {vs:List Value} {ts:List TV} (h:Row w b F vs ts):ts.all b5=true->∀ v ∈ vs,v.oneCell'=true:=by
 induction h with
 | nil=>intro _ v hv; cases hv
 | undef=>intro hk; simp[b5] at hk
 | _=>
  intro hk u hu;simp only[lF3,lM] at hk;rcases lN.1 hu with rfl | hu
  ·rfl
  ·rename_i ih _; exact ih hk.2 u hu
theorem aeX {b:Bool} {F:aH} {vs:List Value} {ts:List TV} (h:Row w b F vs ts):ts.all lA=true->Row w true (fun _=>0) vs ts/\∀ v ∈ vs,v.oneCell'=true:=by
 induction h with
 | nil=>intro _; exact⟨.nil _ _ fun _=>rfl,fun v hv=>by cases hv⟩
 | bool _ _ x vs ts h ih=>
  intro hk; simp only[lF3,lM] at hk;obtain⟨i1,i2⟩:=ih hk.2;exact⟨.bool _ _ _ _ _ i1,fun v hv=>by rcases lN.1 hv with rfl | hv; rfl; exact i2 v hv⟩
 | int _ _ k n vs ts h ih=>
  intro hk; simp only[lF3,lM] at hk;obtain⟨i1,i2⟩:=ih hk.2;exact⟨.int _ _ _ _ _ _ i1,fun v hv=>by rcases lN.1 hv with rfl | hv; rfl; exact i2 v hv⟩
 | str _ _ s vs ts h ih=>
  intro hk; simp only[lF3,lM] at hk;obtain⟨i1,i2⟩:=ih hk.2;exact⟨.str _ _ _ _ _ i1,fun v hv=>by rcases lN.1 hv with rfl | hv; rfl; exact i2 v hv⟩
 | _=>intro hk; simp[lA] at hk
theorem aaX {es:List (List TV)} (h:eV es=true):es.flatten.all lA=true:=by simpa [eV,List.all_flatten] using h
theorem xD {es:List (List TV)} (h:gC es=true):es.flatten.all b5=true:=by simpa [gC,List.all_flatten] using h
theorem an0 {s:Nat} {tx:TypeId} (hk:(∃ e',P.underlying tx=some (.slice e'))\/P.underlying tx=some .string) (base:Option Addr) (n cap:Nat) (cs:List Value) (hl:cs.length=n*s)
  (hc:∀ j v,cs[j]?=some v->∃ ad,base=some ad/\w.cell? (ad.add j)=some v) (h1:∀ v ∈ cs,v.oneCell'=true):Src P s tx (.slice base n cap) n cs w:=by
 cases base with
 | none=>
  cases cs with
  | nil=>exact⟨hk,fun _=>rfl,run_firstCells_none _ _ _ _ _,run_firstCells_none _ _ _ _ _,hl,h1⟩
  | cons c cs=>obtain⟨ad,h,_⟩:=hc 0 c rfl; cases h
 | some ad=>
  have h2:∀ j v,cs[j]?=some v->w.cell? (ad.add j)=some v:=by
   intro j v hj;obtain⟨ad',h,h2⟩:=hc j v hj;cases h; exact h2
  exact⟨hk,fun _=>rfl,run_firstCells_some _ _ _ _ _ _ _ hl h2,run_firstCells_some _ _ _ _ _ _ _ hl (by simpa using h2),hl,h1⟩
structure AppOk (P:Program) (t tx e:TypeId) (s bts:Nat):Prop where
 ht:P.underlying t=some (.slice e)
 hk:(∃ e',P.underlying tx=some (.slice e'))\/P.underlying tx=some .string
 hi:∃ i z,P.info? e=some i/\i.zero=some z/\i.size=s/\i.bytes=bts/\z.cells.size=s
 hb0:bts≠0
theorem y6 {tx t e:TypeId} {x y:Operand} {s bts d n:Nat} {news:List Value} {es0 rows:List (List TV)} {G:aH} {ts:Array TypeId} (h0:ts[0]?=some t) (h1:ts[1]?=some tx) (h2:ts.size=2)
  (ho:o.op=.call ⟨.builtin .append,#[x,y],ts⟩) (hd:o.dst=some d) (aj:d<B.n) (hA:AppOk P t tx e s bts) (hh:∀ t,t<2000->hid t=hv t)
  (P1:PR B hid w a E Fs Xs FP XP [a.eval x] [.own s es0]) (bh:Row w true G news rows.flatten) (hG:∀ b,G b<=1) (ez:∀ b,G b=0\/FP b=0) (hdx:∀ b,G b=0\/XP b=0)
  (hGt:∀ t b,G b=0\/Fs t b=0) (hGx:∀ t b,G b=0\/Xs t b=0) (hGo:∀ b,G b≠0->B.F0 b≠0\/B.w0.heap.size<=b)
  (fa:∀ r ∈ rows,r.length=s) (hn:rows.length=n) (src:Src P s tx (a.eval y) n news w) (hle:(es0.length+n)*bts<=2^47) :
  o.wp P a w (fun a' w'=>bC B hv w' a' (E.put d (.own s (es0++rows)))) Q:=by
 obtain⟨ht,hk,⟨i,z,hi,hz,hs,hb,dw⟩,hb0⟩:=hA;have hts:ts=#[t,tx]:=by
  apply Array.ext_getElem?;intro k;rcases k with _ | _ | k
  ·simpa using h0
  ·simpa using h1
  ·rw[lY4 A7]; simp
 obtain⟨v',w',ae,FP',XP',P2⟩:=alo (ty:=o.type) P1 bh hG ez hdx hGt hGx hGo fa hn ht hi hz hs hb hb0 dw (by rw[hs]; exact src) hle;refine bP (v:=v') (w':=w') ?_ hd (bG P2 hh aj);rw[execOp,ho];subst hts;simp[resolve,invoke,builtin,ae]
theorem an1 {b:Bool} {F:aH} {vs:List Value} {ts:List TV} (h:Row w b F vs ts):Row w true (fun _=>0) vs (ts.map ak1):=by
 induction h with
 | nil=>exact .nil _ _ fun _=>rfl
 | undef _ _ v vs ts h ih=>exact .undef _ _ _ _ _ ih
 | bool _ _ x vs ts h ih=>exact .bool _ _ _ _ _ ih
 | int _ _ k n vs ts h ih=>exact .int _ _ _ _ _ _ ih
 | str _ _ s vs ts h ih=>exact .str _ _ _ _ _ ih
 | _=>rename_i ih; exact .undef _ _ _ _ _ ih
theorem xE {α:Type} (es:List (List α)) (lo n:Nat):es.flatten=(es.take lo).flatten++(((es.drop lo).take n).flatten++(es.drop (lo+n)).flatten):=by
 rw[<-lV1,<-lV1];congr 1;rw[<-lA2,lJ,lJ]
theorem Row.takeOut {F:aH} {hd:Value} {s:Nat} {es:List (List TV)} (h:Row w true F [hd] [.sl s es]) {lo n:Nat} (hle:lo+n<=es.length) :
  ∃ G H mid,Row w true G [hd] [.sl s (es.take lo++(rR ((es.drop lo).take n)++es.drop (lo+n)))]/\Row w true H mid ((es.drop lo).take n).flatten/\(∀ b,G b+H b<=F b) /\
   (n≠0->∃ b off cap,hd=.slice (some ⟨b,off,none⟩) es.length cap/\es.length<=cap/\∀ k,k<mid.length->w.cell? ⟨b,off+lo*s+k,none⟩=mid[k]?):=by
 rcases Row.sl_inv h with ⟨rfl,rfl,h0⟩ | ⟨F1,b,off,cap,C,ty,fr,cs,rfl,hb,hfr,hcap,hle',ap,hcs,hc,h1,hF⟩
 ·simp at hle;obtain⟨rfl,rfl⟩:=hle;exact⟨F,fun _=>0,[],by simpa [rR] using h,by simpa using Row.nil _ _ (fun _=>rfl),fun b=>by simp,fun h=>absurd rfl h⟩
 ·have ob:lo*s+n*s<=cs.length:=by rw[hcs,<-lH2]; exact lJ1 _ hle
  have nh:∀ e ∈ es.take lo,e.length=s:=fun e he=>ap e (lY1 he)
  have kg:∀ e ∈ (es.drop lo).take n,e.length=s:=fun e he=>ap e (lZ1 (lY1 he))
  have hm3:∀ e ∈ es.drop (lo+n),e.length=s:=fun e he=>ap e (lZ1 he)
  have h1':Row w true F1 (cs.take (lo*s)++((cs.drop (lo*s)).take (n*s)++cs.drop (lo*s+n*s))) ((es.take lo).flatten++(((es.drop lo).take n).flatten++(es.drop (lo+n)).flatten)):=by
   rw[<-xE];have:cs.take (lo*s)++((cs.drop (lo*s)).take (n*s)++cs.drop (lo*s+n*s))=cs:=by
    rw[<-lA2,lJ,lJ]
   rw[this]; exact h1
  obtain⟨G1,G2,g1,g2,e1⟩:=Row.split _ _ (by rw[bS _ nh,lH,lH]; rw[lB1 A7,lB1 A7]) h1';obtain⟨G3,G4,g3,g4,e2⟩:=Row.split _ _ (by rw[bS _ kg,lH,lH,lK1,lK1]; rw[lB1 A7,lB1 A7]) g2;have lu:(rR ((es.drop lo).take n)).flatten=((es.drop lo).take n).flatten.map ak1:=by
   simp[rR,List.map_flatten]
  have gq:cs.take (lo*s)++((cs.drop (lo*s)).take (n*s)++cs.drop (lo*s+n*s))=cs:=by
   rw[<-lA2,lJ,lJ]
  have cd:(es.take lo++(rR ((es.drop lo).take n)++es.drop (lo+n))).length=es.length:=by
   simp[rR]; omega
  refine⟨fun x=>(if x=b then 1 else 0)+(G1 x+G4 x),G3,(cs.drop (lo*s)).take (n*s),?_,g3,fun x=>by have:=hF x; have:=e1 x; have:=e2 x; (try dsimp only); omega,fun _=>⟨b,off,cap,rfl,hle',?_⟩⟩
  ·refine Row.of_sl (cs:=cs) cd.symm hb hfr hcap A7 ?_ (by rw[cd]; exact hcs) hc ?_ (fun x=>rfl)
   ·intro e he;rcases lL.1 he with he | he
    ·exact nh e he
    ·rcases lL.1 he with he | he
     ·simp only[rR,lV2] at he;obtain⟨e',he',rfl⟩:=he;rw[lU1]; exact kg e' he'
     ·exact hm3 e he
   ·rw[lV1,lV1,lu,<-gq];exact Row.append g1 (Row.append (an1 g3) g4 (fun x=>rfl)) (fun x=>by simp)
  ·intro k hk;have bd:k<n*s:=by
    rw[lH,lK1] at hk;exact lJ4 hk (Nat.min_le_left _ _)
   have:=hc (lo*s+k) A7;rw[lT,lY,lK bd,<-this];simp[World.cell?,hb,lQ1]
theorem acZ {lk:Lk} {F X:aH} {v u:Value} {r e s lo n:Nat} {p:bA} (h:RepA w lk F X [v] [.sub r e p s lo n]) (hl:lk r e p=some (some u)) :
  ∃ base len cap a',u=.slice base len cap/\v=.slice a' n (cap-lo)/\lo+n<=len/\(a'=base.map (·.add (lo*s))\/(lo=cap/\∃ k,k<=cap/\a'=base.map (·.add (k*s)))):=by
 cases h with
 | sub _ _ _ _ _ _ _ _ o _ _ _ ho hv' _=>rw[hl] at ho; cases ho; exact hv' _ rfl
theorem aix {tx t e:TypeId} {x y:Operand} {o1 o2:O} {s bts d:Nat} {ts:Array TypeId} {E':Env} (h0:ts[0]?=some t) (h1:ts[1]?=some tx) (h2:ts.size=2)
  (ho:o.op=.call ⟨.builtin .append,#[x,y],ts⟩) (hd:o.dst=some d) (aj:d<B.n) (hA:AppOk P t tx e s bts) (hx:OpdOk B.n x o1) (hy:OpdOk B.n y o2)
  (G:bC B hv w a E) (h:ev E (.app d o1 o2 s bts)=some E'):o.wp P a w (fun a' w'=>bC B hv w' a' E') Q:=by
 simp only[ev] at h;cases hg:dR E o1 with
 | none=>simp[hg] at h
 | some g=>
  obtain⟨g1,E1⟩:=g;simp only[hg,lE] at h;obtain⟨hid,Fs,Xs,R,hh⟩:=G;obtain⟨Fs1,Xs1,FP1,XP1,P1⟩:=dN hx (PR.nil R) hg;simp only[lI1] at P1;split at h
  case h_2=>cases h
  rename_i s0 es0;split at h
  case isFalse=>cases h
  rename_i ij;subst ij;have flat:∀ es:List (List TV),bB E1 (val E1 o2)=some (s0,es)->eV es=true->(es0.length+es.length)*bts<=2^47 ->
    o.wp P a w (fun a' w'=>bC B hv w' a' (E1.put d (.own s0 (es0++es)))) Q:=by
   intro es hr hf hle;obtain⟨base,cap,az,G1,cs,ak,ap,bw⟩:=yZ P1.rel hy hr;obtain⟨fr,f1⟩:=aeX ak (aaX hf);refine y6 h0 h1 h2 ho hd aj hA hh P1 fr (fun _=>lP3 _) (fun _=>.inl rfl) (fun _=>.inl rfl) (fun _ _=>.inl rfl) (fun _ _=>.inl rfl) (fun b hb=>absurd rfl hb) ap rfl ?_ hle;rw[az];refine an0 hA.hk base es.length cap cs (by rw[ak.length,bS _ ap]) (fun j v hj=>?_) f1;have ea:=(lG.1 hj).1;by_cases am:es=[]
   ·subst am; have:=ak.length; simp at this; subst this; simp at ea
   ·obtain⟨ad,k1,k2,k3⟩:=bw am;exact⟨ad,k1,by rw[k3 j ea,hj]⟩
  split at h
  ·rename_i b e2;split at h
   case isFalse=>cases h
   rename_i hc;obtain⟨cw,bx⟩:=hc;cases h;have v2:=oQ (G:=⟨hid,Fs1,Xs1,P1.rel,hh⟩) hy e2;subst cw;refine y6 h0 h1 h2 ho hd aj hA hh P1 (aaU b) (fun _=>lP3 _) (fun _=>.inl rfl) (fun _=>.inl rfl) (fun _ _=>.inl rfl) (fun _ _=>.inl rfl) (fun b hb=>absurd rfl hb)
    (by intro r hr; simp[aJ] at hr; obtain⟨_,_,rfl⟩:=hr; rfl) (n:=b.length) (by simp[aJ]) ?_ (by simpa [aJ] using bx)
   have ar:(⟨b.toArray⟩:ByteArray).size=b.length:=by simp[ByteArray.size]
   have hbc:byteCells ⟨b.toArray⟩=b.map fun c=>Value.int .u8 c.toNat:=by simp[byteCells]
   have f1:=firstCells_string (P:=P) ⟨b.toArray⟩ w;have f2:=firstCells_string (P:=P) ⟨b.toArray⟩ w.drew;rw[ar,hbc] at f1 f2;rw[v2];exact⟨hA.hk,fun w'=>by simp[cN,Builtin.lenOf,ar],f1,f2,by simp,fun u hu=>by simp at hu; obtain⟨_,_,rfl⟩:=hu; rfl⟩
  ·rename_i s1 es1 e2;split at h
   case isFalse=>cases h
   rename_i hc;obtain⟨rfl,bx,dj⟩:=hc;cases h;obtain⟨Fs2,Xs2,FP2,XP2,P2⟩:=gG hy P1;have hpv:(fK E1 o2).1=.own s1 es1:=by
    cases o2 with
    | t m=>simp only[val] at e2; simp[fK,e2,AV.owns]
    | c q=>simp only[val] at e2; simp[fK,e2]
   rw[hpv] at P2;obtain⟨A1,A2,Y1,Y2,q1,q2,eA,eY⟩:=RepA.uncons P2.rep;obtain⟨eb,mc⟩:=RepA.to_row q2 rfl;have P3:PR B hid w a (fK E1 o2).2 Fs2 Xs2 A1 Y1 [a.eval x] [.own s1 es0]:=P2.shrink q1 (fun b=>by have:=eA b; omega) (fun b=>by have:=eY b; omega);have fin:∀ (base:Option Addr) (cap:Nat) (cs:List Value) (F1:aH),a.eval y=.slice base es1.length cap->cs.length=es1.length*s1->Row w true F1 cs es1.flatten->(∀ b,F1 b<=A2 b) ->
     (∀ r ∈ es1,r.length=s1)->(∀ k v,cs[k]?=some v->∃ ad,base=some ad/\w.cell? (ad.add k)=some v) ->
     o.wp P a w (fun a' w'=>bC B hv w' a' ((fK E1 o2).2.put d (.own s1 (es0++es1)))) Q:=by
    intro base cap cs F1 az it hcs dp ap bw;refine y6 h0 h1 h2 ho hd aj hA hh P3 hcs (fun b=>by have:=dp b; have:=eA b; have:=P2.one b; omega) (fun b=>by have:=dp b; have:=eA b; have:=P2.one b; omega)
     (fun b=>by have:=dp b; have:=eA b; have:=eY b; have:=P2.dx3 b; omega) (fun t b=>by have:=dp b; have:=eA b; have:=P2.dis t b; omega) (fun t b=>by have:=dp b; have:=eA b; have:=P2.dx1 t b; omega)
     (fun b hb=>P2.org b (by have:=dp b; have:=eA b; omega)) ap rfl ?_ dj
    rw[az];exact an0 hA.hk base _ cap cs it bw (kE hcs (xD bx))
   generalize hvy:a.eval y=vy at eb;rcases Row.sl_inv eb with ⟨rfl,rfl,_⟩ | ⟨F1,b,off,cap,C,tyc,fr,cs,rfl,hb,hfr,hcap,hle',ap,hcs,hc,k1,hF⟩
   ·exact fin none 0 [] (fun _=>0) hvy A8 (.nil _ _ fun _=>rfl) (fun _=>lP3 _) A8 A8
   ·refine fin _ cap cs F1 hvy hcs k1 (fun x=>by have:=hF x; omega) ap ?_;intro k v hk;refine⟨_,rfl,?_⟩;have cg:=(lG.1 hk).1;have:=hc k cg;rw[gS];simp[World.cell?,hb];rw[this,hk]
  ·rename_i r e' p s1 lo n e2;cases hn:aK E1 r e' p with
   | none=>simp[hn] at h
   | some nd=>
    obtain⟨s2,es⟩:=nd;simp only[hn,lE] at h;split at h
    case isFalse=>cases h
    rename_i hc;obtain⟨rfl,rfl,dj,jw,gz⟩:=hc;have ac:((es.drop lo).take n).length=n:=by simp; omega
    split at h
    ·rename_i hf;cases h;exact flat _ (by rw[e2]; simp[bB,hn,dj]) hf (by rw[ac]; exact gz)
    ·rename_i hf;cases h;obtain⟨he,af,db⟩:=bR hn;have fi:n≠0:=by rintro rfl; simp[eV] at hf
     obtain⟨hd',Fu0,Fr0,Xu0,Xr0,nq,hX0,mb,ck,_⟩:=j7 p (P1.rel.rep r) db;have ay:aM w (aI a.tmps hid) E1 r e' p=some (some hd'):=by
      unfold aM; rw[if_neg A7,if_pos ⟨he,af,by rw[db]; rfl⟩,ck]
     obtain⟨F2,X2,ia,_⟩:=bJ P1.rel hy;rw[e2] at ia;obtain⟨base,len,cap,a',hu,az,ik,ha'⟩:=acZ ia ay;obtain⟨co,_⟩:=RepA.to_row mb rfl;obtain⟨G0,H0,mid,t1,t2,t3,t4⟩:=Row.takeOut co dj;obtain⟨b,off,cap0,nu,hcle,hmc⟩:=t4 fi;rw[nu] at hu; cases hu;have ha'':a'=some ⟨b,off+lo*s1,none⟩:=by
      rcases ha' with h | ⟨h,_⟩
      ·rw[h,lD,gS]
      ·omega
     subst ha'';have hmr:∀ r' ∈ (es.drop lo).take n,r'.length=s1:=by
      rcases Row.sl_inv co with ⟨_,rfl,_⟩ | ⟨_,_,_,_,_,_,_,_,_,_,_,_,_,ap,_⟩
      ·simp
      ·exact fun r' hr=>ap r' (lZ1 (lY1 hr))
     have fj:mid.length=n*s1:=by rw[t2.length,bS _ hmr,ac]
     obtain⟨Fs2,Xs2,FP2,XP2,P2⟩:=PR.poke0 (w:=w) (r:=r) (p:=p) (es:=es) (es':=es.take lo++(rR ((es.drop lo).take n)++es.drop (lo+n)))
      (vs':=a.eval x::mid) (xs':=.own s1 es0::((es.drop lo).take n).flatten.map TV.av) P1 db (y5 p _ _ _ db rfl) af (mY _ _ _ af rfl) (alh es lo n) (by
       intro h Fu Xu hu ai one d1 d2 d3;rw[ck] at ai;cases ai;refine⟨fun _ _ _=>rfl,fun lk' links=>?_⟩;obtain⟨dk,_⟩:=RepA.to_row hu rfl;obtain⟨G1,H1,mid',u1,u2,u3,u4⟩:=Row.takeOut dk dj;obtain⟨b',off',cap0',hh1',_,hmc'⟩:=u4 fi;rw[nu] at hh1'; cases hh1';have hml':mid'.length=n*s1:=by rw[u2.length,bS _ hmr,ac]
       have hmm:mid'=mid:=by
        apply lB2;intro k;by_cases hk:k<n*s1
        ·rw[<-hmc k A7,<-hmc' k A7]
        ·rw[lC2 A7,lC2 A7]
       subst hmm;refine⟨G1,fun _=>0,fun b=>FP1 b+H1 b,XP1,fun b=>by have:=u3 b; (try dsimp only); omega,fun b=>Nat.zero_le _,fun b=>by omega,RepA.of_row u1,?_⟩;exact RepA.cons (P1.rep.same links (fun _ _=>rfl) (fun _ _=>rfl)) (RepA.of_rows u2) (fun _=>rfl) (fun _=>rfl))
     obtain⟨A1,A2,Y1,Y2,q1,q2,eA,eY⟩:=RepA.uncons P2.rep;obtain⟨eb,_⟩:=RepA.to_rows q2 (anp _);have P3:=P2.shrink q1 (fun b=>by have:=eA b; omega) (fun b=>by have:=eY b; omega);refine y6 h0 h1 h2 ho hd aj hA hh P3 eb (fun b=>by have:=eA b; have:=P2.one b; omega) (fun b=>by have:=eA b; have:=P2.one b; omega)
      (fun b=>by have:=eA b; have:=eY b; have:=P2.dx3 b; omega) (fun t b=>by have:=eA b; have:=P2.dis t b; omega) (fun t b=>by have:=eA b; have:=P2.dx1 t b; omega)
      (fun b hb=>P2.org b (by have:=eA b; omega)) hmr ac ?_ gz
     rw[az];refine an0 hA.hk _ n _ mid fj (fun j v hj=>⟨_,rfl,?_⟩) (kE t2 (xD jw));rw[gS,hmc j (lG.1 hj).1,hj]
  ·rename_i av _ _ _;cases hr:bB E1 (val E1 o2) with
   | none=>simp[hr] at h
   | some q=>
    obtain⟨s1,es⟩:=q;simp only[hr,lE] at h;split at h
    case isFalse=>cases h
    rename_i hc;obtain⟨rfl,bx,dj⟩:=hc;cases h;exact flat es hr bx dj
theorem agq {α:Type} {s:Nat} {es:List (List α)} (hs:∀ e ∈ es,e.length=s) (new:List (List α)) (hn:∀ e ∈ new,e.length=s) {lo:Nat} (h:lo+new.length<=es.length) :
  (es.take lo++(new++es.drop (lo+new.length))).flatten=Awp.lay es.flatten (lo*s) new.flatten:=by
 have h1:((es.take lo).flatten).length=lo*s:=by
  rw[bS _ (fun e he=>hs e (lY1 he)),lH,lB1 A7]
 have h2:(((es.drop lo).take new.length).flatten).length=new.flatten.length:=by
  rw[bS _ (fun e he=>hs e (lZ1 (lY1 he))),bS _ hn,lH,lK1,lB1 A7]
 have key:∀ (A B C N:List α),B.length=N.length->A++(N++C)=(A++(B++C)).take A.length++N++(A++(B++C)).drop (A.length+N.length):=by
  intro A B C N h;rw[List.take_left,<-h,<-lA2,List.drop_left,List.drop_left,lM2]
 unfold Awp.lay;rw[lV1,lV1,xE es lo new.length,<-h1];exact key _ _ _ _ h2
theorem Row.pokeR {F G:aH} {hd:Value} {s:Nat} {es new:List (List TV)} {vs:List Value} (h:Row w true F [hd] [.sl s es]) (one:∀ b,F b<=1) (g:Row w true G vs new.flatten) (dis:∀ b,G b=0\/F b=0)
  (hn:∀ r ∈ new,r.length=s) {lo:Nat} (gy:lo+new.length<=es.length) (am:new≠[]) :
  ∃ b off cap C ty fr,hd=.slice (some ⟨b,off,none⟩) es.length cap/\es.length<=cap/\w.heap[b]?=some (.cells C ty fr)/\thawS s C.size fr/\F b=1/\off+lo*s+vs.length<=C.size /\
   ∀ (w':World) (C2:Array Value),C2.toList=Awp.lay C.toList (off+lo*s) vs->w'.heap[b]?=some (.cells C2 ty fr)->(∀ b',b'≠b->w'.heap[b']?=w.heap[b']?) ->
    ∃ H,Row w' true H [hd] [.sl s (es.take lo++(new++es.drop (lo+new.length)))]/\∀ b,H b<=F b+G b:=by
 have hpos:0<new.length:=lR4.2 am;rcases Row.sl_inv h with ⟨_,rfl,_⟩ | ⟨F1,b,off,cap,C,ty,fr,cs,au,hb,hfr,hcap,hle,ap,hcs,hc,h1,hF⟩
 ·exact absurd (lO1.1 (by simp only[List.length_nil] at gy; omega)) am
 ·have ip:=g.length;have bu:vs.length=new.length*s:=by rw[ip,bS _ hn]
  have hins:lo*s+new.length*s<=es.length*s:=by rw[<-lH2]; exact lJ1 _ gy
  have kh:es.length*s<=cap*s:=lJ1 _ hle;refine⟨b,off,cap,C,ty,fr,au,hle,hb,hfr,by have:=hF b; have:=one b; simp at *; omega,by omega,?_⟩;intro w' C2 dz hb' bm;have ei:F1 b=0:=by have:=hF b; have:=one b; simp at *; omega
  have ko:G b=0:=by
   rcases dis b with h | h
   ·exact h
   ·have:=hF b; simp at this; omega
  have h1':Row w' true F1 cs es.flatten:=h1.same (fun x hx=>bm x (fun e=>hx (by rw[e]; exact ei)));have g':Row w' true G vs new.flatten:=g.same (fun x hx=>bm x (fun e=>hx (by rw[e]; exact ko)));obtain⟨H,hr,hH⟩:=Row.lay h1' g' (lo*s) A7;have fv:C2.size=C.size:=by rw[<-lD1,dz,fA _ _ _ B0]; simp
  have cd:(es.take lo++(new++es.drop (lo+new.length))).length=es.length:=by simp; omega
  subst au;refine⟨fun x=>(if x=b then 1 else 0)+H x,?_,fun x=>by have:=hH x; have:=hF x; (try dsimp only); omega⟩;rw[<-agq ap new hn gy] at hr;refine Row.of_sl (cs:=Awp.lay cs (lo*s) vs) cd.symm hb' (by rw[fv]; exact hfr) A7 A7 ?_ ?_ ?_ hr (fun x=>rfl)
  ·intro e he;rcases lL.1 he with he | he
   ·exact ap e (lY1 he)
   ·rcases lL.1 he with he | he
    ·exact hn e he
    ·exact ap e (lZ1 he)
  ·rw[fA _ _ _ A7,cd]; exact hcs
  ·intro k hk;rw[fA _ _ _ A7] at hk;rw[<-lR1,dz,g8 _ _ _ B0,g8 _ _ _ A7];by_cases dy:lo*s<=k/\k<lo*s+vs.length
   ·rw[lK A7,lK dy]; congr 1; omega
   ·rw[lO A7,lO dy,lR1]; exact hc k hk
theorem ac0 (R:Rel B hid w a E Fs Xs) {r e s:Nat} {p:bA} {es:List (List TV)} (hn:aK E r e p=some (s,es)) :
  ∃ hd F,aM w (aI a.tmps hid) E r e p=some (some hd)/\Row w true F [hd] [.sl s es]/\∀ r ∈ es,r.length=s:=by
 obtain⟨he,af,db⟩:=bR hn;obtain⟨hd',Fu0,Fr0,Xu0,Xr0,nq,hX0,mb,ck,_⟩:=j7 p (R.rep r) db;obtain⟨co,_⟩:=RepA.to_row mb rfl;refine⟨hd',Fu0,by unfold aM; rw[if_neg A7,if_pos ⟨he,af,by rw[db]; rfl⟩,ck],co,?_⟩;rcases Row.sl_inv co with ⟨_,rfl,_⟩ | ⟨_,_,_,_,_,_,_,_,_,_,_,_,_,ap,_⟩
 ·simp
 ·exact ap
theorem aaY (R:Rel B hid w a E Fs Xs) {r e s:Nat} {p:bA} {es:List (List TV)} (hn:aK E r e p=some (s,es)) :
  ∃ Fs' Xs',Rel B hid w a (E.upd r (cX (E.f r) p (.own s es))) Fs' Xs':=by
 obtain⟨he,af,db⟩:=bR hn;refine Rel.poke (w':=w) (r:=r) (p:=p) (u:=.own s es) (u':=.own s es) (PR.nil R) db (y5 p _ _ _ db rfl) (mY _ _ _ af rfl) (fun h Fu Xu hu ai one d1 d2 d3=>⟨fun _ _=>rfl,fun lk' links=>?_⟩) ⟨rfl,.refl _⟩;obtain⟨dk,ca⟩:=RepA.to_row hu rfl;exact⟨Fu,fun _=>0,fun b=>lZ3 _ _,fun b=>lP3 _,RepA.of_row dk⟩
theorem xF (R:Rel B hid w a E Fs Xs) {r e s:Nat} {p:bA} {es new:List (List TV)} (hn:aK E r e p=some (s,es)) {vs:List Value} (de:Row w true (fun _=>0) vs new.flatten) (hl:∀ x ∈ new,x.length=s)
  (h1:∀ v ∈ vs,v.oneCell'=true) {lo:Nat} (gy:lo+new.length<=es.length) (am:new≠[]) :
  ∃ b off cap,aM w (aI a.tmps hid) E r e p=some (some (.slice (some ⟨b,off,none⟩) es.length cap))/\es.length<=cap /\
   (storeCells ⟨b,off+lo*s,none⟩ vs).run P w=.ok () (w.setCells b (off+lo*s) vs) /\
   ∃ Fs' Xs',Rel B hid (w.setCells b (off+lo*s) vs) a (E.upd r (cX (E.f r) p (.own s (es.take lo++(new++es.drop (lo+new.length)))))) Fs' Xs':=by
 obtain⟨he,af,db⟩:=bR hn;obtain⟨hd',Fu0,Fr0,Xu0,Xr0,nq,hX0,mb,ck,_⟩:=j7 p (R.rep r) db;obtain⟨co,_⟩:=RepA.to_row mb rfl;have one0:∀ b,Fu0 b<=1:=fun b=>by have:=R.one r b; have:=nq b; omega
 obtain⟨b,off,cap,C,ty,fr,nu,ik,hb,hfr,hFb,hle,_⟩:=Row.pokeR co one0 de (fun b=>.inl rfl) hl gy am;subst nu;refine⟨b,off,cap,by unfold aM; rw[if_neg A7,if_pos ⟨he,af,by rw[db]; rfl⟩,ck],ik,?_,?_⟩
 ·have:=run_storeCells_cells (P:=P) b (off+lo*s) vs 0 w (by
   intro j hj;have:off+lo*s+0+j<C.size:=by omega
   simp[World.cell?,hb]; omega) (by
   intro j hj;have:=hfr.1 (off+lo*s+0+j) A7;simp[World.frozen?,hb];simpa using this) h1
  simpa only[lT3] using this
 ·obtain⟨C2,c1,c2,c3,c4⟩:=cF b vs (off+lo*s) w C ty fr hb A7;refine Rel.poke (w':=w.setCells b (off+lo*s) vs) (r:=r) (p:=p) (u:=.own s es) (u':=.own s (es.take lo++(new++es.drop (lo+new.length)))) (PR.nil R) db (y5 p _ _ _ db rfl) (mY _ _ _ af rfl) (by
   intro h Fu Xu hu ai one d1 d2 d3;rw[ck] at ai;cases ai;obtain⟨dk,ca⟩:=RepA.to_row hu rfl;obtain⟨b',off',cap',C',ty',fr',hh1',hle1',hb',hfr',hFb',hle',hput⟩:=Row.pokeR dk one de (fun b=>.inl rfl) hl gy am;cases hh1';rw[hb] at hb'; cases hb';refine⟨fun x hx=>c3 x (by intro e; rw[e] at hx; omega),fun lk' links=>?_⟩;obtain⟨H,hr,hH⟩:=hput _ C2 c1 c2 c3;exact⟨H,fun _=>0,fun b=>by have:=hH b; (try dsimp only); omega,fun b=>by simp,RepA.of_row hr⟩) c4
theorem aaZ {t e:TypeId} {s:Nat} {ts:Array TypeId} {ty:TypeId} (h0:ts[0]?=some t) (hu:P.underlying t=some (.slice e)) (hs:oC P e=some s) (base sb:Option Addr) (dLen dCap sLen sCap:Nat) (cs:List Value)
  (hf:(Builtin.firstCells s (Nat.min sLen dLen) (.slice sb sLen sCap)).run P w=.ok cs.toArray w) (eh:∀ ad,base=some ad->(storeCells ad cs).run P w=.ok () w') (bp:base=none->w'=w) :
  (Builtin.copy_ ts ty #[.slice base dLen dCap,.slice sb sLen sCap]).run P w=.ok (goInt (Nat.min sLen dLen)) w':=by
 have hz:=jJ (P:=P) (w:=w) hs;cases base with
 | none=>
  have:=bp rfl;subst this;simp[Builtin.copy_,h0,run_underlying hu,Builtin.lenOf,hz,hf]
 | some ad=>
  have:=eh ad rfl;simp[Builtin.copy_,h0,run_underlying hu,Builtin.lenOf,hz,hf,this]
theorem aiy {t e:TypeId} {x y:Operand} {o1 o2:O} {s d:Nat} {ts:Array TypeId} {E':Env} (h0:ts[0]?=some t)
  (ho:o.op=.call ⟨.builtin .copy,#[x,y],ts⟩) (hd:o.dst=some d) (aj:d<B.n) (hu:P.underlying t=some (.slice e)) (hs:oC P e=some s) (hx:OpdOk B.n x o1) (hy:OpdOk B.n y o2)
  (G:bC B hv w a E) (h:ev E (.cpy d o1 o2 s)=some E'):o.wp P a w (fun a' w'=>bC B hv w' a' E') Q:=by
 obtain⟨hid,Fs,Xs,R,hh⟩:=G;have core:∀ (r e':Nat) (p:bA) (es q:List (List TV)) (lo n cap':Nat) (base:Option Addr),aK E r e' p=some (s,es)->bB E (val E o2)=some (s,q)->eV q=true->lo+n<=es.length ->
   a.eval x=.slice base n cap'->(∀ hd,aM w (aI a.tmps hid) E r e' p=some (some hd)->∀ b off len cap,hd=.slice (some ⟨b,off,none⟩) len cap->len<=cap->len=es.length->0<n->base=some ⟨b,off+lo*s,none⟩) ->
   o.wp P a w (fun a' w'=>bC B hv w' a' ((E.upd r (cX (E.f r) p (.own s (es.take lo++(q.take n++es.drop (lo+min n q.length)))))).put d (.int .i64 (min q.length n:Nat)))) Q:=by
  intro r e' p es q lo n cap' base hn hq hfq hle iq hb;obtain⟨sb,scap,az,G1,cs,ak,ap,bw⟩:=yZ R hy hq;obtain⟨fr,f1⟩:=aeX ak (aaX hfq);have fin:∀ (w':World) (cs':List Value),(Builtin.firstCells s (Nat.min q.length n) (.slice sb q.length scap)).run P w=.ok cs'.toArray w ->
    (∀ ad,base=some ad->(storeCells ad cs').run P w=.ok () w')->(base=none->w'=w)->(∃ Fs' Xs',Rel B hid w' a (E.upd r (cX (E.f r) p (.own s (es.take lo++(q.take n++es.drop (lo+min n q.length)))))) Fs' Xs') ->
    o.wp P a w (fun a' w'=>bC B hv w' a' ((E.upd r (cX (E.f r) p (.own s (es.take lo++(q.take n++es.drop (lo+min n q.length)))))).put d (.int .i64 (min q.length n:Nat)))) Q:=by
   intro w' cs' hf eh bp ⟨Fs',Xs',R'⟩;refine bP (v:=.int .i64 (min q.length n:Nat)) (w':=w') ?_ hd (jI ⟨hid,Fs',Xs',R',hh⟩ aj _ _);rw[execOp,ho];have:=aaZ (P:=P) (w:=w) (w':=w') (ty:=o.type) h0 hu hs base sb n cap' q.length scap cs' hf eh bp;rw[<-az,<-iq] at this;simp only[resolve,invoke,builtin,Sem.run_bind,Sem.run_pure,Result.andThen_ok,List.map_toArray,lR,lW2,this];rfl
  by_cases hk:Nat.min q.length n=0
  ·have hk':min n q.length=0:=by rw[Nat.min_comm]; exact hk
   have hqn:q.take n=[]:=by
    rcases Nat.min_eq_zero_iff.1 hk with h | h
    ·rw[lO1.1 h]; simp
    ·rw[h]; rfl
   refine fin w [] ?_ (fun ad _=>rfl) (fun _=>rfl) ?_
   ·rw[hk];cases sb with
    | none=>exact run_firstCells_none _ _ _ _ _
    | some ad=>exact run_firstCells_some _ _ _ _ _ _ [] A8 A8
   ·rw[hqn,hk',lT3,lI1,lJ];exact aaY R hn
  ·have hk0:0<min q.length n:=Nat.pos_of_ne_zero hk;have hq0:q≠[]:=by rintro rfl; simp at hk0
   obtain⟨ad,rfl,bk,hca⟩:=bw hq0;have fj:(q.take n).length=min n q.length:=lH;have fw:min n q.length=min q.length n:=Nat.min_comm _ _;have hrt:∀ x ∈ q.take n,x.length=s:=fun x hx=>ap x (lY1 hx)
   have me:(min q.length n)*s<=q.length*s:=lJ1 _ (Nat.min_le_left _ _);have hcsp:cs=cs.take (min q.length n*s)++cs.drop (min q.length n*s):=by simp
   have lu:q.flatten=(q.take n).flatten++(q.drop n).flatten:=by rw[<-lV1,lJ]
   have ac:(cs.take (min q.length n*s)).length=((q.take n).flatten).length:=by
    rw[bS _ hrt,fj,fw,lH,lB1 A7]
   rw[hcsp,lu] at fr;obtain⟨A1,A2,r1,r2,eA⟩:=Row.split _ _ ac fr;have r1':Row w true (fun _=>0) (cs.take (min q.length n*s)) ((q.take n).flatten):=r1.foot (fun b=>by have:=eA b; (try dsimp only at *); omega);obtain⟨b,off,cap,ay,hcl',eh,Fs',Xs',R'⟩:=xF (P:=P) R hn r1' hrt (fun v hv=>f1 v (lY1 hv)) (lo:=lo) (by rw[fj]; omega) (by intro h; rw[h] at fj; simp at fj; omega);have jm:=hb _ ay b off es.length cap rfl hcl' rfl A7;refine fin (w.setCells b (off+lo*s) (cs.take (min q.length n*s))) (cs.take (min q.length n*s)) ?_ (fun ad' e=>?_) (fun e=>by rw[jm] at e; cases e) ⟨Fs',Xs',?_⟩
   ·exact run_firstCells_some _ _ _ _ _ _ _ (by rw[lH,lB1 A7]) (fun j v hj=>by
     rw[lT] at hj;split at hj
     ·rw[hca j (lG.1 hj).1,hj]
     ·cases hj)
   ·rw[jm] at e; cases e; exact eh
   ·rw[fj] at R'; exact R'
 simp only[ev] at h;split at h
 ·rename_i r e' p e1;cases hn:aK E r e' p with
  | none=>simp[hn] at h
  | some nd=>
   obtain⟨s1,es⟩:=nd;cases hq:bB E (val E o2) with
   | none=>simp[hn,hq] at h
   | some q=>
    obtain⟨s2,q⟩:=q;simp only[hn,hq,lE] at h;split at h
    case isFalse=>cases h
    rename_i hc;obtain⟨rfl,rfl,dj⟩:=hc;cases h;obtain⟨nj,F,ay,ak,hrs⟩:=ac0 R hn;have iq:a.eval x=nj:=by
     obtain⟨F2,X2,ia,_⟩:=bJ R hx;rw[e1] at ia;generalize a.eval x=vx at ia ⊢;cases ia with
     | lnk _ _ _ _ _ o _ _ _ ho' hv' _=>rw[ay] at ho'; cases ho'; exact hv' _ rfl
    have jq:∃ base cap,nj=.slice base es.length cap:=by
     rcases Row.sl_inv ak with ⟨rfl,rfl,_⟩ | ⟨_,b,off,cap,_,_,_,_,rfl,_⟩
     ·exact⟨none,0,rfl⟩
     ·exact⟨_,_,rfl⟩
    obtain⟨base,cap,rfl⟩:=jq;have:=core r e' p es q 0 es.length cap base hn hq dj A7 iq (fun hd hlk' b off len cap' hd' _ _ _=>by
     rw[ay] at hlk'; cases hlk'; cases hd'; simp)
    have gd:es.drop (0+min es.length q.length)=es.drop q.length:=by
     rw[lL2];by_cases hh:es.length<=q.length
     ·rw[lB1 hh,lZ2 (lE1 _),lZ2 hh]
     ·rw[Nat.min_eq_right A7]
    rw[gd,List.take_zero,lI1] at this;exact this
 ·rename_i r e' p s' lo n e1;cases hn:aK E r e' p with
  | none=>simp[hn] at h
  | some nd=>
   obtain⟨s1,es⟩:=nd;cases hq:bB E (val E o2) with
   | none=>simp[hn,hq] at h
   | some q=>
    obtain⟨s2,q⟩:=q;simp only[hn,hq,lE] at h;split at h
    case isFalse=>cases h
    rename_i hc;obtain⟨rfl,rfl,dj,rfl,gz⟩:=hc;cases h;obtain⟨nj,F,ay,ak,hrs⟩:=ac0 R hn;obtain⟨F2,X2,ia,_⟩:=bJ R hx;rw[e1] at ia;obtain⟨base,len,cap,a',hu',az,ik,ha'⟩:=acZ ia ay;exact core r e' p es q lo n _ a' hn hq gz dj az (fun hd hlk' b off len' cap' hd' hlc hle' fi=>by
     rw[ay] at hlk'; cases hlk';rw[hu'] at hd'; cases hd';rcases ha' with h | ⟨h,_⟩
     ·rw[h,lD,gS]
     ·omega)
 ·cases h
theorem aeY {next:Act->World->Prop} {v:Value} (hr:(execOp a.eval o).run P w=.ok (.value v) w') (hd:o.dst=none) (h:next a w'):o.wp P a w next Q:=by
 unfold Oper.wp; rw[hr,Oper.upon_value,hd]; exact h
theorem agr:∀ (vs:List Value) (ts:List TV),dS vs ts=true->ts.all b5=true:=by
 intro vs ts
 fun_induction dS vs ts <;> simp_all [b5]
theorem oI (z:Array Value) (n:Nat) (h0:0<z.size):(Builtin.zeroCells z n).toList=(List.replicate n z.toList).flatten:=by
 apply lB2;intro k;have lu:((List.replicate n z.toList).flatten).length=n*z.size:=by
  rw[bS (s:=z.size) _ (by intro r hr; rw[lY3 hr]; simp),lU2]
 by_cases hk:k<n*z.size
 ·rw[anq _ _ _ (by simpa using hk)];have hmod:=Nat.mod_lt k h0;simp only[Builtin.zeroCells,lR1,Array.getElem?_map,Array.getElem?_range,hk,lQ,lD,lD1];rw[getElem!_pos z (k%z.size) A7,lA1]
 ·rw[lC2 (l:=(Builtin.zeroCells z n).toList) (by simp only[Builtin.zeroCells,lD1,Array.size_map,Array.size_range]; omega),lC2 A7]
theorem aiz {t e:TypeId} {x:Operand} {o1:O} {ts:Array TypeId} {zero:List TV} {i:TypeInfo} {E':Env} (h0:ts[0]?=some t)
  (ho:o.op=.call ⟨.builtin .clear,#[x],ts⟩) (hd:o.dst=none) (hu:P.underlying t=some (.slice e)) (hi:P.info? e=some i) (hz:ZeroOk P e zero) (hx:OpdOk B.n x o1)
  (G:bC B hv w a E) (h:ev E (.clr o1 i.size zero)=some E'):o.wp P a w (fun a' w'=>bC B hv w' a' E') Q:=by
 obtain⟨hid,Fs,Xs,R,hh⟩:=G;obtain⟨⟨i',z,hi',im,io⟩⟩:=hz;rw[hi] at hi'; cases hi';simp only[ev] at h;split at h
 case h_2=>cases h
 rename_i r e' p s' lo n e1;cases hn:aK E r e' p with
 | none=>simp[hn] at h
 | some nd=>
  obtain⟨s1,es⟩:=nd;simp only[hn,lE] at h;split at h
  case isFalse=>cases h
  rename_i hc;obtain⟨rfl,rfl,dj,jw⟩:=hc;cases h;obtain⟨nj,F,ay,ak,hrs⟩:=ac0 R hn;obtain⟨F2,X2,ia,_⟩:=bJ R hx;rw[e1] at ia;obtain⟨base,len,cap,a',hu',az,ik,ha'⟩:=acZ ia ay;have hzr:=tK (w:=w) _ _ io;have dw:z.cells.size=i.size:=by have:=hzr.length; rw[lD1] at this; omega
  by_cases fi:n=0
  ·subst fi;rw[List.replicate_zero,lI1,lT3,lJ];obtain⟨Fs',Xs',R'⟩:=aaY R hn;refine aeY (v:=.tuple #[]) (w':=w) ?_ hd ⟨hid,Fs',Xs',R',hh⟩;rw[execOp,ho];cases a' <;> simp[resolve,invoke,builtin,Builtin.clear_,az,h0,run_underlying hu]
  ·have ac:(List.replicate n zero).length=n:=lU2;have ij:0<i.size\/i.size=0:=by omega
   have hrow':∀ (m:Nat),Row w true (fun _=>0) (List.replicate m z.cells.toList).flatten (List.replicate m zero).flatten:=by
    intro m;induction m with
    | zero=>exact .nil _ _ fun _=>rfl
    | succ m ih=>
     simp only[List.replicate_succ,lD3];exact Row.append hzr ih (fun _=>rfl)
   have mf:(Builtin.zeroCells z.cells n).toList=(List.replicate n z.cells.toList).flatten:=by
    rcases ij with h | h
    ·exact oI _ _ A7
    ·have e0:z.cells.toList=[]:=lO1.1 (by rw[lD1]; omega);rw[e0];have:(Builtin.zeroCells z.cells n).toList.length=0:=by simp[Builtin.zeroCells,dw,h]
     rw[lO1.1 this];simp
   obtain⟨b,off,cap1,hlk',hcl',eh,Fs',Xs',R'⟩:=xF (P:=P) R hn (hrow' n) (fun x hx=>by rw[lY3 hx]; exact jw)
    (kE (hrow' n) (by
     rw[lP];intro t ht;obtain⟨l,hl,ht⟩:=lW4.1 ht;rw[lY3 hl] at ht;exact lP.1 (agr _ _ io) t ht)) (lo:=lo) (by rw[ac]; exact dj) (by intro h; rw[h] at ac; simp at ac; omega)
   rw[ay] at hlk'; cases hlk';cases hu';rw[ac] at R';have haa:a'=some ⟨b,off+lo*i.size,none⟩:=by
    rcases ha' with h | ⟨h,_⟩
    ·rw[h,lD,gS]
    ·omega
   subst haa;refine aeY (v:=.tuple #[]) (w':=w.setCells b (off+lo*i.size) (List.replicate n z.cells.toList).flatten) ?_ hd ⟨hid,Fs',Xs',R',hh⟩;rw[execOp,ho];obtain⟨m,rfl⟩:∃ m,n=m+1:=⟨n-1,by omega⟩
   have hzv:(zeroValue e).run P w=.ok z w:=by simp[zeroValue,typeInfo,hi,im]
   simp only[resolve,invoke,builtin,Builtin.clear_,Sem.run_bind,Sem.run_pure,Result.andThen_ok,List.map_toArray,lR,lW2,az,h0];simp[run_underlying hu,hzv,mf,eh]
theorem ac1 (w:World) (b k:Nat) {C:Array Value} {ty:TypeId} {fr:Nat × Nat} (hb:w.heap[b]?=some (.cells C ty fr)) :
  (w.freeze ⟨b,k,none⟩ 1).heap[b]?=some (.cells C ty (if fr.1=fr.2 then (k,k+1) else (min fr.1 k,max fr.2 (k+1))))/\(∀ b',b'≠b->(w.freeze ⟨b,k,none⟩ 1).heap[b']?=w.heap[b']?)/\Kept w (w.freeze ⟨b,k,none⟩ 1):=by
 obtain⟨lo,hi⟩:=fr;refine⟨?_,fun b' hb'=>?_,?_,rfl,rfl⟩
 ·show (w.heap.modify b _)[b]?=_;rw[lW3,lK rfl,hb];by_cases e:lo=hi <;> simp[e]
 ·simp[World.freeze,lW3,Ne.symm hb']
 ·simp[World.freeze]
theorem aqv {o:Option TypeDesc} (h:(o matches some (.int .u8))=true):o=some (.int .u8):=by
 split at h
 ·rfl
 ·cases h
theorem aiA {s e:TypeId} {x:Operand} {o1:O} {d:Nat} {E':Env} (ho:o.op=.convert s s x) (hd:o.dst=some d) (aj:d<B.n)
  (hs:P.underlying s=some (.slice e)) (he:P.underlying e=some (.int .u8)) (hx:OpdOk B.n x o1) (G:bC B hv w a E) (h:ev E (.mrk d o1)=some E') :
  o.wp P a w (fun a' w'=>bC B hv w' a' E') Q:=by
 obtain⟨hid,Fs,Xs,R,hh⟩:=G;simp only[ev] at h;split at h
 case h_2=>cases h
 rename_i s1 es au;by_cases fx:s1=1/\es.length≠0
 case neg=>rw[lO fx] at h; cases h
 rw[lK fx] at h;obtain⟨rfl,ap⟩:=fx;cases h;have hp:(fK E o1).1=.own 1 es:=by
  cases o1 with
  | t m=>simp only[val] at au; simp[fK,au,AV.owns]
  | c y=>simp only[val] at au; simp[fK,au]
 obtain⟨Fs',Xs',FP,XP,P1⟩:=gG hx (PR.nil R);rw[hp] at P1 ⊢;have P1:PR B hid w a (fK E o1).2 Fs' Xs' FP XP [a.eval x] [.own 1 es]:=by simpa using P1
 obtain⟨ak,hz⟩:=RepA.to_row P1.rep rfl;rcases Row.sl_inv ak with ⟨_,rfl,_⟩ | ⟨F1,b,off,cap,C,ty,fr,cs,az,hb,hfr,hcap,hle,fk,hcs,hc,h1,hF⟩
 ·exact absurd rfl ap
 obtain⟨q1,q2,q3⟩:=ac1 w b C.size hb;have ae:(convert s s (a.eval x)).run P w=.ok (a.eval x) (w.freeze ⟨b,C.size,none⟩ 1):=by
  have lw:w.shape? b=some (ty,C.size):=by simp[World.shape?,hb]
  rw[az];simp[convert,run_underlying hs,run_underlying he,markStringish,lw]
 have hFb:FP b=1:=by have:=hF b; have:=P1.one b; simp at *; omega
 have ei:F1 b=0:=by have:=hF b; simp at this; omega
 have P2:PR B hid (w.freeze ⟨b,C.size,none⟩ 1) a (fK E o1).2 Fs' Xs' FP (fun _=>0) [a.eval x] [.own 1 es]:=by
  refine P1.write (fun x hx=>q2 x (by intro e0; subst e0; omega)) q3 (fun lk' links=>?_) (fun _=>lE1 _) (fun _=>lP3 _);rw[az];refine RepA.of_row (Row.of_sl rfl q1 ⟨fun o' ho'=>?_,?_⟩ hcap hle fk hcs hc (h1.same fun x hx=>q2 x (fun e0=>hx (by rw[e0]; exact ei))) hF)
  ·have ek:o'<C.size:=by rcases ho' with h | h; exact h; exact absurd rfl h.1
   have:=hfr.1;have gy:=hfr.2;have h3:=this o' (.inl ek);split
   ·simp only; omega
   ·rename_i am;have h4:C.size<=fr.1:=by
     apply Classical.byContradiction;intro bx;exact this fr.1 (.inl A7) ⟨lE1 _,by omega⟩
    simp only; omega
  ·have gy:=hfr.2;split <;> simp only <;> omega
 refine bP (v:=a.eval x) ?_ hd (bG P2 hh aj);simp[execOp,ho,ae]
theorem an2 (s:ByteArray):Value.string s=cN s.data.toList:=by
 cases s with | mk d=>simp[cN]
theorem an3 {ty:TypeId} {v:Value} {x:AV} (h:aqr P ty v=some x) (w:World) (lk:Lk):RepA w lk (fun _=>0) (fun _=>0) [v] [x]:=by
 unfold aqr at h;split at h
 ·cases h; exact .bool _ _ _ _ _ RepA.znil
 ·cases h; exact .int _ _ _ _ _ _ RepA.znil
 ·rename_i s; cases h; rw[an2]; exact .str _ _ _ _ _ RepA.znil
 ·split at h
  ·rename_i e _;cases hs:oC P e with
   | none=>simp[hs] at h
   | some s=>simp[hs] at h; subst h; exact .own _ (fun _=>0) (fun _=>0) _ s [] _ _ _ (.own0 _ s [] [] (.nil _ _ fun _=>rfl)) RepA.znil (fun _=>rfl)
  ·cases h; exact .own _ (fun _=>0) (fun _=>0) _ 0 [] _ _ _ (.own0 _ 0 [] [] (.nil _ _ fun _=>rfl)) RepA.znil (fun _=>rfl)
 ·cases h; exact .undef _ _ _ _ _ RepA.znil
 ·cases h
theorem aQ {n:Nat} {ty:TypeId} {x:Operand} {y:O} (h:iN P n ty x=some y):OpdOk n x y:=by
 cases x with
 | tmp t=>
  simp only[iN] at h;split at h
  ·cases h; exact .tmp t (by assumption)
  ·cases h
 | const v=>
  simp only[iN] at h;cases hv:aqr P ty v with
  | none=>simp[hv] at h
  | some z=>simp[hv] at h; subst h; exact .const v z (an3 hv)
 | func f=>simp only[iN,Option.some.injEq] at h; subst h; exact .func f
 | global g=>simp[iN] at h
theorem y7 {n:Nat} {ty:TypeId} {x:Option Operand} {y:Option O} (h:apG P n ty x=some y):aih n x y:=by
 cases x with
 | none=>simp[apG] at h; subst h; exact .inl ⟨rfl,rfl⟩
 | some x=>
  simp only[apG] at h;cases hx:iN P n ty x with
  | none=>simp[hx] at h
  | some z=>simp[hx] at h; subst h; exact .inr ⟨_,_,rfl,rfl,aQ hx⟩
theorem alp {n:Nat} {ty:TypeId}:∀ {l:List Operand} {m:List O},agh P n ty l=some m->OpdsOk n l m:=by
 intro l;induction l with
 | nil=>intro m h; simp[agh] at h; subst h; exact .nil
 | cons x l ih=>
  intro m h;simp only[agh] at h;cases hx:iN P n ty x with
  | none=>simp[hx] at h
  | some z=>
   cases hl:agh P n ty l with
   | none=>simp[hx,hl] at h
   | some m'=>simp[hx,hl] at h; subst h; exact .cons (aQ hx) (ih hl)
theorem y8 {n:Nat}:∀ {l:List Operand} {ts:List TypeId} {m:List O},yX P n l ts=some m->OpdsOk n l m:=by
 intro l;induction l with
 | nil=>intro ts m h; simp[yX] at h; subst h; exact .nil
 | cons x l ih=>
  intro ts m h;simp only[yX] at h;cases hx:iN P n (ts.headD 0) x with
  | none=>simp only[hx,Option.bind_none] at h; cases h
  | some z=>
   cases hl:yX P n l ts.tail with
   | none=>simp only[hx,hl,lE,lS] at h; cases h
   | some m'=>simp only[hx,hl,lE,lD,Option.some.injEq] at h; subst h; exact .cons (aQ hx) (ih hl)
theorem alq {n:Nat} {e:TypeId}:∀ {l:List (Nat × Operand)} {k:Nat} {m:List O},agi P n e k l=some m->OpdsOk n (l.map (·.2)) m/\l=((l.map (·.2)).zipIdx k).map fun p=>(p.2,p.1):=by
 intro l;induction l with
 | nil=>intro k m h; simp[agi] at h; subst h; exact⟨.nil,rfl⟩
 | cons x l ih=>
  intro k m h;obtain⟨i,x⟩:=x;simp only[agi] at h;split at h
  case isFalse=>cases h
  rename_i gr;subst gr;cases hx:iN P n e x with
  | none=>simp[hx] at h
  | some z=>
   cases hl:agi P n e (i+1) l with
   | none=>simp[hx,hl] at h
   | some m'=>
    simp[hx,hl] at h; subst h;obtain⟨i1,i2⟩:=ih hl;refine⟨.cons (aQ hx) i1,?_⟩;simp only[lR,List.zipIdx_cons];rw[<-i2]
theorem alr {α β:Type} {f:α->Option β}:∀ {l:List α} {m:List β},l.mapM f=some m->∀ (i:Nat) (x:α),l[i]?=some x->∃ y,f x=some y/\m[i]?=some y:=by
 intro l;induction l with
 | nil=>intro m h i x hx; simp at hx
 | cons z l ih=>
  intro m h i x hx;simp only[lX4,lS4,lJ5] at h;cases hz:f z with
  | none=>simp[hz] at h
  | some y=>
   cases hl:l.mapM f with
   | none=>simp[hz,hl] at h
   | some m'=>
    simp[hz,hl] at h; subst h;cases i with
    | zero=>simp at hx; subst hx; exact⟨y,hz,by simp⟩
    | succ i=>simp at hx; obtain⟨y',h1,h2⟩:=ih hl i x hx; exact⟨y',h1,by simpa using h2⟩
theorem aiB {n:Nat} {fs:List Field} {places:List (Nat × Nat)} (hp:fs.mapM (fun f=>(P.info? f.type).map fun i=>(f.offset,i.size))=some places) :
  ∀ {ps:List (Nat × Operand)} {l:List (Nat × Nat × O)},xB P n fs ps=some l->PartsOk P n (places.toArray[·]?) ps l:=by
 intro ps;induction ps with
 | nil=>intro l h; simp[xB] at h; subst h; exact .nil
 | cons x ps ih=>
  intro l h;obtain⟨i,x⟩:=x;simp only[xB] at h;cases hf:fs[i]? with
  | none=>simp[hf] at h
  | some f=>
   simp only[hf] at h;cases hs:oC P f.type with
   | none=>simp[hs] at h
   | some s=>
    cases hx:iN P n f.type x with
    | none=>simp[hs,hx] at h
    | some z=>
     cases hl:xB P n fs ps with
     | none=>simp[hs,hx,hl] at h
     | some l'=>
      simp[hs,hx,hl] at h; subst h;obtain⟨y,h1,h2⟩:=alr hp i f hf;unfold oC at hs;cases hi:P.info? f.type with
      | none=>simp[hi] at hs
      | some inf=>
       simp[hi] at hs h1;subst hs h1;exact .cons (by simpa using h2) (aQ hx) (ih hl)
theorem bind_some {α β:Type} {x:Option α} {f:α->Option β} {z:β} (h:x.bind f=some z):∃ y,x=some y/\f y=some z:=by
 cases x with
 | none=>cases h
 | some y=>exact⟨y,rfl,h⟩
theorem map_some {α β:Type} {x:Option α} {f:α->β} {z:β} (h:x.map f=some z):∃ y,x=some y/\f y=z:=by
 cases x with
 | none=>cases h
 | some y=>simp at h; exact⟨y,rfl,h⟩
theorem aC {α:Type} {c:Prop} [Decidable c] {x:Option α} {z:α} (h:(if c then x else none)=some z):c/\x=some z:=by
 split at h
 ·exact⟨by assumption,h⟩
 ·cases h
theorem qT {t e:TypeId} (h:ak8 P t=some e):P.underlying t=some (.slice e):=by
 unfold ak8 at h; split at h
 ·rename_i h'; cases h; exact h'
 ·cases h
theorem aiC {t:TypeId} {s:Nat} (h:oC P t=some s):∃ i,P.info? t=some i/\i.size=s:=map_some h
theorem ags {op:BinOp} {t u:TypeId} {x y:Operand} {o1 o2:O} {d:Nat} {i:I} {E':Env} (ho:o.op=.binOp op t x y u) (hd:o.dst=some d) (aj:d<B.n)
  (hc:apH P d op t o1 o2=some i) (hx:OpdOk B.n x o1) (hy:OpdOk B.n y o2) (G:bC B hv w a E) (h:ev E i=some E'):o.wp P a w (fun a' w'=>bC B hv w' a' E') Q:=by
 unfold apH at hc;split at hc
 ·cases hc; exact aaO ho hd aj hx hy G h
 ·cases hc; exact aaO ho hd aj hx hy G h
 ·cases hc; exact aaP (neg:=false) ho hd aj hx hy (by assumption) G h
 ·cases hc; exact aaP (neg:=true) ho hd aj hx hy (by assumption) G h
 ·cases hc; exact aaQ (neg:=false) ho hd aj hx hy (by assumption) G h
 ·cases hc; exact aaQ (neg:=true) ho hd aj hx hy (by assumption) G h
 ·obtain⟨⟨h1,h2⟩,hc⟩:=aC hc;obtain⟨ks,hk,rfl⟩:=map_some hc;exact aaR (neg:=false) ho hd aj hx hy (by assumption) hk h1 h2 G h
 ·obtain⟨⟨h1,h2⟩,hc⟩:=aC hc;obtain⟨ks,hk,rfl⟩:=map_some hc;exact aaR (neg:=true) ho hd aj hx hy (by assumption) hk h1 h2 G h
 ·cases hc
theorem aiD {i:I} {E':Env} (hc:cOp P B.n o=some i) (hn:B.n<=1000) (bk:i.isCall=false) (G:bC B hv w a E) (h:ev E i=some E') :
  o.wp P a w (fun a' w'=>bC B hv w' a' E') Q:=by
 unfold cOp at hc;split at hc
 ·cases hc
 rename_i bi;have aj:∀ d,o.dst=some d->d<B.n:=by
  intro d hd; rw[hd] at bi; simpa using bi
 split at hc
 ·rename_i x d ho hd;obtain⟨o1,h1,rfl⟩:=map_some hc;have:=ah2 (aQ h1) (aj d hd) G h;exact bP (by rw[execOp,ho]; rfl) hd this
 ·rename_i x d ho hd;obtain⟨o1,h1,rfl⟩:=map_some hc;have:=ah3 (aQ h1) (aj d hd) G h;exact bP (by rw[execOp,ho]; rfl) hd this
 ·rename_i op t x y u d ho hd;obtain⟨o1,h1,hc⟩:=bind_some hc;obtain⟨o2,h2,hc⟩:=bind_some hc;exact ags ho hd (aj d hd) hc (aQ h1) (aQ h2) G h
 ·rename_i op t x d ho hd;obtain⟨o1,h1,rfl⟩:=map_some hc;exact alb ho hd (aj d hd) (aQ h1) G h
 ·rename_i s t x d ho hd;obtain⟨o1,h1,hc⟩:=bind_some hc;split at hc
  ·cases hc; exact agj ho hd (aj d hd) (by assumption) (by assumption) (aQ h1) G h
  ·split at hc
   ·rename_i he;obtain⟨_,hc⟩:=aC hc;obtain⟨_,hc⟩:=aC hc;cases hc;exact aim ho hd (aj d hd) (by assumption) (by assumption) he (aQ h1) G h
   ·cases hc
  ·split at hc
   ·rename_i he;cases hc;exact ail ho hd (aj d hd) (by assumption) he (by assumption) (aQ h1) G h
   ·cases hc
  ·obtain⟨he,hc⟩:=aC hc;obtain⟨hb,hc⟩:=aC hc;cases hc;subst he;exact aiA ho hd (aj d hd) (by assumption) (aqv hb) (aQ h1) G h
  ·cases hc
 ·rename_i t d ho hd;obtain⟨z,h1,rfl⟩:=map_some hc;exact aiq ho hd (aj d hd) hn (nR h1) G h
 ·rename_i t x d ho hd;obtain⟨o1,h1,rfl⟩:=map_some hc;exact aip ho hd (aj d hd) hn (aQ h1) G h
 ·rename_i t ps d ho hd;split at hc
  ·rename_i fs hu;obtain⟨hp,hc⟩:=aC hc;obtain⟨places,hp⟩:=lI2.1 hp;obtain⟨z,h1,hc⟩:=bind_some hc;obtain⟨l,h2,rfl⟩:=map_some hc;exact ait ho hd (aj d hd) hu hp (nR h1) (aiB hp h2) G h
  ·cases hc
 ·rename_i t n ps d ho hd;obtain⟨e,h1,hc⟩:=bind_some hc;obtain⟨s,h2,hc⟩:=bind_some hc;obtain⟨⟨k1,k2,k3,k4⟩,hc⟩:=aC hc;obtain⟨l,h3,rfl⟩:=map_some hc;obtain⟨z,hz⟩:=lI2.1 k4;obtain⟨⟨i,zv,hi,im,_⟩⟩:=nR hz;obtain⟨i',hi',ar⟩:=aiC h2;rw[hi] at hi'; cases hi';obtain⟨r1,r2⟩:=alq h3;exact aiv ho hd (aj d hd) (qT h1) hi im ar k2 k1 r2 (by rw[lU1,lD1]; exact k3) r1 G h
 ·rename_i t x d ho hd;obtain⟨s,h1,hc⟩:=bind_some hc;obtain⟨g,h2,hc⟩:=bind_some hc;obtain⟨o1,h3,rfl⟩:=map_some hc;exact ale ho hd (aj d hd) h1 h2 (aQ h3) G h
 ·rename_i t x v ho hd;obtain⟨s,h1,hc⟩:=bind_some hc;obtain⟨o1,h2,hc⟩:=bind_some hc;obtain⟨o2,h3,rfl⟩:=map_some hc;exact aln ho hd h1 (aQ h2) (aQ h3) G h
 ·rename_i x d ho hd;obtain⟨o1,h1,rfl⟩:=map_some hc;exact aic ho hd (aj d hd) (aQ h1) G h
 ·rename_i t x f d ho hd;split at hc
  ·rename_i fs hu;obtain⟨g,h1,hc⟩:=bind_some hc;obtain⟨s,h2,hc⟩:=bind_some hc;split at hc
   ·cases hc
   rename_i ij;obtain⟨o1,h3,rfl⟩:=map_some hc;exact aib ho hd (aj d hd) hu h1 h2 ij (aQ h3) G h
  ·cases hc
 ·rename_i t x f d ho hd;split at hc
  ·rename_i fs hu;obtain⟨g,h1,hc⟩:=bind_some hc;obtain⟨s,h2,hc⟩:=bind_some hc;obtain⟨ag,h3,hc⟩:=bind_some hc;obtain⟨o1,h4,rfl⟩:=map_some hc;exact agl ho hd (aj d hd) hu h1 h2 h3 (aQ h4) G h
  ·cases hc
 ·rename_i t x y d ho hd;obtain⟨e,h1,hc⟩:=bind_some hc;obtain⟨s,h2,hc⟩:=bind_some hc;obtain⟨o1,h3,hc⟩:=bind_some hc;obtain⟨o2,h4,rfl⟩:=map_some hc;exact ah9 ho hd (aj d hd) (qT h1) h2 (aQ h3) (aQ h4) G h
 ·rename_i t x y d ho hd;split at hc
  ·rename_i hu;obtain⟨o1,h3,hc⟩:=bind_some hc;obtain⟨o2,h4,rfl⟩:=map_some hc;exact agm ho hd (aj d hd) hu (aQ h3) (aQ h4) G h
  ·cases hc
 ·rename_i x k d ho hd;obtain⟨o1,h1,rfl⟩:=map_some hc;cases o1 with
  | t n=>exact aig ho hd (aj d hd) (aQ h1) G h
  | c q=>simp[ev] at h
 ·rename_i c x y d ho hd;obtain⟨oc,h1,hc⟩:=bind_some hc;obtain⟨o1,h2,hc⟩:=bind_some hc;obtain⟨o2,h3,rfl⟩:=map_some hc;exact ah5 ho hd (aj d hd) (aQ h1) (aQ h2) (aQ h3) G h
 ·rename_i f first caps d ho hd
  obtain⟨hf,hc⟩:=aC hc;obtain⟨l,h1,rfl⟩:=map_some hc;have:first=#[]:=by simpa using hf
  subst this;exact air ho hd (aj d hd) (alp h1) G h
 ·rename_i t l c d ho hd;obtain⟨e,h1,hc⟩:=bind_some hc;obtain⟨i,h2,hc⟩:=bind_some hc;obtain⟨z,h3,hc⟩:=bind_some hc;obtain⟨o1,h4,hc⟩:=bind_some hc;obtain⟨o2,h5,rfl⟩:=map_some hc;exact aiw ho hd (aj d hd) (qT h1) h2 rfl rfl (nR h3) (aQ h4) (aQ h5) G h
 ·rename_i t x lo hi mx d ho hd;obtain⟨hm,hc⟩:=aC hc;have:mx=none:=by cases mx with | none=>rfl | some _=>cases hm
  subst this;obtain⟨o1,h1,hc⟩:=bind_some hc;obtain⟨l1,h2,hc⟩:=bind_some hc;obtain⟨l2,h3,hc⟩:=bind_some hc;split at hc
  ·cases hc; exact aii ho hd (aj d hd) (by assumption) (aQ h1) (y7 h2) (y7 h3) G h
  ·obtain⟨s,h4,rfl⟩:=map_some hc;exact aik ho hd (aj d hd) (by assumption) h4 (aQ h1) (y7 h2) (y7 h3) G h
  ·cases hc
 ·rename_i c ho;obtain⟨callee,args,ts⟩:=c;have arr1:∀ x,args.toList=[x]->args=#[x]:=fun x hx=>by rw[<-Array.toArray_toList (xs:=args),hx]
  have arr2:∀ x y,args.toList=[x,y]->args=#[x,y]:=fun x y hx=>by rw[<-Array.toArray_toList (xs:=args),hx]
  have getD:∀ k,k<ts.size->ts[k]?=some (ts.getD k 0):=fun k hk=>by simp[hk]
  simp only at hc;split at hc
  ·rename_i x d br hd;have:=arr1 x br;subst this;obtain⟨hs,hc⟩:=aC hc;obtain⟨o1,h1,hc⟩:=bind_some hc;split at hc
   ·cases hc; exact agk (getD 0 A7) ho hd (aj d hd) (by assumption) (aQ h1) G h
   ·cases hc; exact ah8 (getD 0 A7) ho hd (aj d hd) (by assumption) (aQ h1) G h
   ·cases hc
  ·rename_i x y d br hd;have:=arr2 x y br;subst this;obtain⟨e,h1,hc⟩:=bind_some hc;obtain⟨i,h2,hc⟩:=bind_some hc;obtain⟨o1,h3,hc⟩:=bind_some hc;obtain⟨o2,h4,hc⟩:=bind_some hc;obtain⟨⟨k1,k2,k3,k4⟩,hc⟩:=aC hc;cases hc;obtain⟨z,hz,mf⟩:=map_some k3;obtain⟨⟨i',zv,hi,im,io⟩⟩:=nR hz;rw[h2] at hi; cases hi;have dw:zv.cells.size=i.size:=by
    have:=(tK (w:=w) _ _ io).length;rw[lD1] at this; omega
   refine aix (getD 0 A7) (getD 1 A7) k2 ho hd (aj d hd) ⟨qT h1,?_,⟨i,zv,h2,im,rfl,rfl,dw⟩,k1⟩ (aQ h3) (aQ h4) G h;split at k4
   ·exact .inr (by assumption)
   ·exact .inl ⟨_,by assumption⟩
   ·cases k4
  ·rename_i x y d br hd;have:=arr2 x y br;subst this;obtain⟨e,h1,hc⟩:=bind_some hc;obtain⟨s,h2,hc⟩:=bind_some hc;obtain⟨o1,h3,hc⟩:=bind_some hc;obtain⟨o2,h4,hc⟩:=bind_some hc;obtain⟨ar,hc⟩:=aC hc;cases hc;exact aiy (getD 0 A7) ho hd (aj d hd) (qT h1) h2 (aQ h3) (aQ h4) G h
  ·rename_i x br hd;have:=arr1 x br;subst this;obtain⟨e,h1,hc⟩:=bind_some hc;obtain⟨i,h2,hc⟩:=bind_some hc;obtain⟨z,h3,hc⟩:=bind_some hc;obtain⟨o1,h4,hc⟩:=bind_some hc;obtain⟨ar,hc⟩:=aC hc;cases hc;exact aiz (getD 0 A7) ho hd (qT h1) h2 (nR h3) (aQ h4) G h
  ·rename_i x y d br hd;have:=arr2 x y br;subst this;obtain⟨o1,h3,hc⟩:=bind_some hc;obtain⟨o2,h4,rfl⟩:=map_some hc;exact ah6 ho hd (aj d hd) (aQ h3) (aQ h4) G h
  ·rename_i x y d br hd;have:=arr2 x y br;subst this;obtain⟨o1,h3,hc⟩:=bind_some hc;obtain⟨o2,h4,rfl⟩:=map_some hc;exact ah7 ho hd (aj d hd) (aQ h3) (aQ h4) G h
  ·obtain⟨l,_,rfl⟩:=map_some hc; cases bk
  ·obtain⟨_,hc⟩:=aC hc; obtain⟨l,_,rfl⟩:=map_some hc; cases bk
  ·cases hc
 ·cases hc
end
section
def mg (S:Nat->Bool) (A E:Env):Env:=⟨fun t=>if S t then A.f t else E.f t,fun t=>if S t then A.ep t else E.ep t⟩
def mp {α:Type} (S:Nat->Bool) (A:Env) (x:α × Env):α × Env:=(x.1,mg S A x.2)
variable {S:Nat->Bool} {A E:Env}
theorem tL {t:Nat} (h:S t=false):(mg S A E).f t=E.f t:=by simp[mg,h]
theorem oS {t:Nat} (h:S t=false):(mg S A E).ep t=E.ep t:=by simp[mg,h]
theorem aO {d:Nat} {x:AV} (h:S d=false):(mg S A E).put d x=mg S A (E.put d x):=by
 apply Env.ext'
 ·intro t;show (if t=d then x else (mg S A E).f t)=if S t then A.f t else if t=d then x else E.f t
  by_cases e:t=d
  ·subst e; simp[h]
  ·simp[e,mg]
 ·intro t;show (if t=d/\((mg S A E).f d).isRoot=true then (((mg S A E).ep d).1+1,((mg S A E).ep d).2+1) else (mg S A E).ep t) =
   if S t then A.ep t else if t=d/\(E.f d).isRoot=true then ((E.ep d).1+1,(E.ep d).2+1) else E.ep t
  rw[tL h,oS h];by_cases e:t=d
  ·subst e; simp[h,mg]
  ·simp[e,mg]
theorem aiE {d:Nat} {x:AV} (h:S d=false):(mg S A E).set0 d x=mg S A (E.set0 d x):=by
 apply Env.ext'
 ·intro t;show (if t=d then x else (mg S A E).f t)=if S t then A.f t else if t=d then x else E.f t
  by_cases e:t=d
  ·subst e; simp[h]
  ·simp[e,mg]
 ·intro t; rfl
theorem uG {d:Nat} {x:AV} (h:S d=false):(mg S A E).upd d x=mg S A (E.upd d x):=by
 apply Env.ext'
 ·intro t;show (if t=d then x else (mg S A E).f t)=if S t then A.f t else if t=d then x else E.f t
  by_cases e:t=d
  ·subst e; simp[h]
  ·simp[e,mg]
 ·intro t;show (if t=d then (((mg S A E).ep d).1,((mg S A E).ep d).2+1) else (mg S A E).ep t) =
   if S t then A.ep t else if t=d then ((E.ep d).1,(E.ep d).2+1) else E.ep t
  rw[oS h];by_cases e:t=d
  ·subst e; simp[h]
  ·simp[e,mg]
def clr (S:Nat->Bool) (a:AV):Prop:=∀ r ∈ lks a,S r=false
def an4 (S:Nat->Bool) (as:List AV):Prop:=∀ r ∈ pA as,S r=false
def y9 (S:Nat->Bool) (x:O):Prop:=∀ t ∈ x.tmp,S t=false
theorem mZ {a:AV} {l:List AV} (h:an4 S (a::l)):clr S a/\an4 S l:=
 ⟨fun r hr=>h r (by simp[pA,hr]),fun r hr=>h r (by simp[pA,hr])⟩
theorem aZ {x:O} (h:y9 S x):val (mg S A E) x=val E x:=by
 cases x with
 | t n=>exact tL (h n (by simp[O.tmp]))
 | c a=>rfl
theorem dG {r e:Nat} {p:bA} (h:S r=false):aK (mg S A E) r e p=aK E r e p:=by
 unfold aK; rw[tL h,oS h]
theorem aeZ {r:Nat} {p:bA} (h:S r=false):takeN (mg S A E) r p=mg S A (takeN E r p):=by
 unfold takeN;split
 ·exact aO h
 ·rw[tL h]; exact aiE h
theorem aiF {r e:Nat} {p:bA} (h:S r=false):vld (mg S A E) r e p=vld E r e p:=by
 unfold vld; rw[tL h,oS h]
theorem als {r e:Nat} {p:bA} {st:St} {sz:Nat} (h:S r=false):jU (mg S A E) r e p st sz=jU E r e p st sz:=by
 unfold jU; rw[tL h,oS h]
theorem zA {a:AV} (h:clr S a):bB (mg S A E) a=bB E a:=by
 cases a with
 | lnk r e p=>exact dG (h r B4)
 | sub r e p s lo n=>simp only[bB]; rw[dG (h r B4)]
 | _=>rfl
theorem aiG {a:AV} (h:clr S a):dF (mg S A E) a=dF E a:=by
 cases a with
 | lnk r e p=>simp only[dF]; rw[dG (h r B4)]
 | sub r e p s lo n=>simp only[dF]; rw[dG (h r B4)]
 | ref r e p st=>simp only[dF]; rw[tL (h r B4),oS (h r B4)]
 | _=>rfl
mutual
theorem zB (a:AV) (E:Env) (h:clr S a):bN (mg S A E) a=(bN E a).map (mp S A):=by
 cases a with
 | lnk r e p=>
  have hr:=h r B4;simp only[bN]; rw[dG hr];cases aK E r e p with
  | none=>rfl
  | some x=>simp only[lD,mp]; rw[aeZ hr]
 | sub r e p s lo n=>
  have hr:=h r B4;simp only[bN]; rw[dG hr];cases aK E r e p with
  | none=>rfl
  | some x=>
   simp only[lE];split
   ·simp only[lD,mp]; rw[aeZ hr]
   ·rfl
 | agg cs=>
  simp only[bN]; rw[ae0 cs E h];cases i5 E cs with
  | none=>rfl
  | some x=>rfl
 | _=>simp[bN,mp]
theorem ae0 (l:List AV) (E:Env) (h:an4 S l):i5 (mg S A E) l=(i5 E l).map (mp S A):=by
 cases l with
 | nil=>simp[i5,mp]
 | cons a l=>
  obtain⟨h1,h2⟩:=mZ h;simp only[i5]; rw[zB a E h1];cases bN E a with
  | none=>rfl
  | some x=>
   simp only[lD,lE,mp];rw[ae0 l x.2 h2];cases i5 x.2 l with
   | none=>rfl
   | some y=>rfl
end
theorem qU {x:O} (h:y9 S x):fK (mg S A E) x=mp S A (fK E x):=by
 cases x with
 | c a=>rfl
 | t n=>
  have hn:=h n (by simp[O.tmp]);simp only[fK]; rw[tL hn];split
  ·simp only[mp]; rw[aO hn]
  ·rfl
theorem zC (x:O):(fK E x).1=val E x:=by
 cases x with
 | c a=>rfl
 | t n=>simp only[fK,val]; split <;> rfl
theorem l4 {x:O} (h:y9 S x) (hc:clr S (val E x)):dR (mg S A E) x=(dR E x).map (mp S A):=by
 unfold dR;rw[qU h];simp only[mp];rw[zB _ _ (by rw[zC]; exact hc)]
def Sub (E E':Env):Prop:=∀ n,E'.f n=E.f n\/E'.f n=.undef\/((E'.f n).isRoot=true/\(E.f n).isRoot=true/\∀ r ∈ lks (E'.f n),r ∈ lks (E.f n))
theorem Sub.rfl':Sub E E:=fun n=>.inl rfl
theorem Sub.trans {E E' E'':Env} (h:Sub E E') (g:Sub E' E''):Sub E E'':=by
 intro n;rcases g n with e | e | ⟨e1,e2,e3⟩
 ·rw[e]; exact h n
 ·exact .inr (.inl e)
 ·rcases h n with f | f | ⟨f1,f2,f3⟩
  ·exact .inr (.inr ⟨e1,by rw[<-f]; exact e2,by rw[<-f]; exact e3⟩)
  ·rw[f] at e2; cases e2
  ·exact .inr (.inr ⟨e1,f2,fun r hr=>f3 r (e3 r hr)⟩)
theorem Sub.undef (n:Nat):Sub E (E.put n .undef):=by
 intro t;by_cases e:t=n
 ·right; left; rw[kY,lK e]
 ·left; exact bX e
theorem ae1 {a:AV} {l:List AV} (h:a ∈ l):∀ r ∈ lks a,r ∈ pA l:=by
 induction l with
 | nil=>simp at h
 | cons b l ih=>
  intro r hr;rcases lN.1 h with rfl | h
  ·simp[pA,hr]
  ·simp[pA,ih h r hr]
theorem alt {l:List AV} {r:Nat} (h:r ∈ pA l):∃ a ∈ l,r ∈ lks a:=by
 induction l with
 | nil=>simp[pA] at h
 | cons b l ih=>
  simp only[pA,lL] at h;rcases h with h | h
  ·exact⟨b,by simp,h⟩
  ·obtain⟨a,h1,h2⟩:=ih h; exact⟨a,by simp[h1],h2⟩
theorem alu:∀ (p:bA) (a:AV),∀ r ∈ lks (cX a p .undef),r ∈ lks a:=by
 intro p;induction p with
 | nil=>intro a r hr; cases a <;> simp[cX,lks] at hr
 | cons st p ih=>
  intro a r hr;cases a with
  | own s es=>simp only[cX,AV.tv] at hr; simp[lks] at hr
  | box cs=>
   change r ∈ pA (cs.modify st.j (cX · p .undef)) at hr;change r ∈ pA cs;obtain⟨c,h1,h2⟩:=alt hr;rw[List.mem_iff_getElem?] at h1;obtain⟨k,hk⟩:=h1;rw[lL1] at hk;cases h:cs[k]? with
   | none=>simp[h] at hk
   | some c0=>
    simp only[h,lD4,lD,Option.some.injEq] at hk;refine ae1 (lE3 h) r ?_;subst hk;split at h2
    ·exact ih c0 r h2
    ·exact h2
  | _=>simpa [cX] using hr
theorem xG (p:bA) (a u:AV) (h:a.isRoot=true) (hp:p.isEmpty=false):(cX a p u).isRoot=true:=by
 cases p with
 | nil=>simp at hp
 | cons st p=>
  cases a with
  | own s es=>simp only[cX]; split <;> rfl
  | box cs=>rfl
  | _=>cases h
theorem Sub.takeN {r:Nat} {p:bA} (hr:(E.f r).isRoot=true):Sub E (takeN E r p):=by
 intro t;unfold Awp.takeN;split
 ·exact Sub.undef r t
 ·rename_i hp;by_cases e:t=r
  ·subst e;rw[pD];exact .inr (.inr ⟨xG _ _ _ hr (by simpa using hp),hr,alu _ _⟩)
  ·left; exact mR e
theorem aa0 {r e:Nat} {p:bA} {x:Nat × List (List TV)} (h:aK E r e p=some x):(E.f r).isRoot=true:=(bR (s:=x.1) (es:=x.2) h).2.1
mutual
theorem aa1 (a:AV) (E:Env) {x:AV × Env} (h:bN E a=some x):Sub E x.2:=by
 cases a with
 | lnk r e p=>
  simp only[bN] at h;obtain⟨y,h1,rfl⟩:=map_some h;exact Sub.takeN (aa0 h1)
 | sub r e p s lo n=>
  simp only[bN] at h;obtain⟨y,h1,h⟩:=bind_some h;obtain⟨_,h⟩:=aC h;cases h;exact Sub.takeN (aa0 h1)
 | agg cs=>
  simp only[bN] at h;obtain⟨y,h1,rfl⟩:=map_some h;exact aa2 cs E (x:=y) h1
 | tup cs=>simp[bN] at h
 | box cs=>simp[bN] at h
 | _=>simp only[bN,Option.some.injEq] at h; subst h; exact Sub.rfl'
theorem aa2 (l:List AV) (E:Env) {x:List AV × Env} (h:i5 E l=some x):Sub E x.2:=by
 cases l with
 | nil=>simp only[i5,Option.some.injEq] at h; subst h; exact Sub.rfl'
 | cons a l=>
  simp only[i5] at h;obtain⟨y,h1,h⟩:=bind_some h;obtain⟨z,h2,rfl⟩:=map_some h;exact(aa1 a E h1).trans (aa2 l y.2 (x:=z) h2)
end
theorem zE (x:O):Sub E (fK E x).2:=by
 cases x with
 | c a=>exact Sub.rfl'
 | t n=>
  simp only[fK];split
  ·exact Sub.undef n
  ·exact Sub.rfl'
theorem fG {x:O} {y:AV × Env} (h:dR E x=some y):Sub E y.2:=(zE x).trans (aa1 _ _ h)
theorem Sub.lks {E E':Env} (h:Sub E E') (x:O):∀ r ∈ lks (val E' x),r ∈ lks (val E x):=by
 cases x with
 | c a=>exact fun r hr=>hr
 | t n=>
  intro r hr;simp only[val] at hr ⊢;rcases h n with e | e | ⟨_,_,e⟩
  ·rw[<-e]; exact hr
  ·rw[e] at hr; simp[Awp.lks] at hr
  ·exact e r hr
theorem Sub.clr {E E':Env} (h:Sub E E') {x:O} (hc:clr S (val E x)):clr S (val E' x):=fun r hr=>hc r (h.lks x r hr)
theorem alv:∀ (l:List O) (E:Env),(∀ x ∈ l,y9 S x)->(∀ x ∈ l,clr S (val E x))->j8 (mg S A E) l=(j8 E l).map (mp S A):=by
 intro l;induction l with
 | nil=>intro E _ _; simp[j8,mp]
 | cons x l ih=>
  intro E h1 h2;simp only[j8];rw[l4 (h1 x A8) (h2 x A8)];cases hg:dR E x with
  | none=>rfl
  | some g=>
   simp only[lD,lE,mp];split
   case isFalse=>rfl
   cases tvs (cellsOf g.1) with
   | none=>rfl
   | some ts=>
    simp only[lE];rw[ih g.2 (fun y hy=>h1 y B8) (fun y hy=>(fG hg).clr (h2 y B8))];cases j8 g.2 l with
    | none=>rfl
    | some y=>rfl
theorem alw:∀ (l:List (Nat × Nat × O)) (E:Env) (cs:List AV),(∀ x ∈ l.map (·.2.2),y9 S x)->(∀ x ∈ l.map (·.2.2),clr S (val E x))->mK (mg S A E) cs l=(mK E cs l).map (mp S A):=by
 intro l;induction l with
 | nil=>intro E cs _ _; simp[mK,mp]
 | cons q l ih=>
  obtain⟨off,sz,x⟩:=q;intro E cs h1 h2;simp only[mK];have hs:=zE (E:=E) x;have hp:dF (mg S A (fK E x).2) (fK E x).1=dF (fK E x).2 (fK E x).1:=aiG (by rw[zC]; exact h2 x A8);simp only[qU (A:=A) (E:=E) (h1 x A8),mp,hp];split
  ·rw[ih _ _ (fun y hy=>h1 y (by simp only[lR,lN]; exact .inr hy)) (fun y hy=>hs.clr (h2 y (by simp only[lR,lN]; exact .inr hy)))]
  ·rfl
theorem tM {x:Option O} {n:Nat} (h:∀ y ∈ acM x,y9 S y):cT (mg S A E) x n=cT E x n:=by
 cases x with
 | none=>rfl
 | some y=>simp only[cT]; rw[aZ (h y (by simp[acM]))]
end
section
variable {S:Nat->Bool} {A E:Env}
theorem an5 {d:Nat} {x:AV} (h:S d=false):some ((mg S A E).put d x)=(some (E.put d x)).map (mg S A):=by rw[aO h]; rfl
theorem aqw (i:I) (ho:∀ x ∈ i.opds,y9 S x) (hd:∀ d ∈ i.dsts,S d=false) (hc:∀ x ∈ i.der,clr S (val E x)):ev (mg S A E) i=(ev E i).map (mg S A):=by
 cases i with
 | mov d x=>
  have d0:=hd d B3;cases x with
  | c a=>simp only[ev]; exact an5 d0
  | t n=>
   have hn:=ho (.t n) A9 n (by simp[O.tmp]);simp only[ev];rw[tL hn,oS hn];cases E.f n <;> simp only[] <;> (try split) <;> simp only[lD,lS,aO d0,aO hn]
 | asg d x=>
  have d0:=hd d B3;have hx:=ho x A9;simp only[ev];rw[aZ hx,qU hx];cases h:val E x with
  | sub r e p s lo n=>
   simp only;split
   ·rename_i hh;rw[zB _ _ (fun q hq=>by simp[lks] at hq; rw[hq,hh.1]; exact d0)];cases bN E (.sub r e p s lo n) with
    | none=>rfl
    | some g=>simp only[lD,mp,aO d0]
   ·simp only[lD,aO d0]
  | _=>simp only[lD,mp,aO d0]
 | mrk d x=>
  have d0:=hd d B3;have hx:=ho x A9;simp only[ev];rw[aZ hx,qU hx];cases h:val E x with
  | own s es=>simp only; split <;> simp only[lD,lS,mp,aO d0]
  | _=>rfl
 | bin d op x y=>
  have d0:=hd d B3;simp only[ev];rw[aZ (ho x A9),aZ (ho y A9)];cases j4 op (val E x) (val E y) <;> simp only[lD,lS,aO d0]
 | beq d neg x y=>
  have d0:=hd d B3;simp only[ev];rw[aZ (ho x A9),aZ (ho y A9)];split <;> simp only[lD,lS,aO d0]
 | eqs d neg ks x y=>
  have d0:=hd d B3;simp only[ev];rw[aZ (ho x A9),aZ (ho y A9)];split
  ·rename_i a b _ _;cases eqC ks a b <;> simp only[lD,lS,aO d0]
  ·rfl
 | isn d neg x y=>
  have d0:=hd d B3;simp only[ev];rw[aZ (ho x A9)];split
  ·split <;> simp only[lD,lS,aO d0]
  ·rfl
 | un d op x=>
  have d0:=hd d B3;simp only[ev];rw[aZ (ho x A9)];cases unV op (val E x) <;> simp only[lD,lS,aO d0]
 | conv d k x=>
  have d0:=hd d B3;simp only[ev];rw[aZ (ho x A9)];split <;> simp only[lD,lS,aO d0]
 | s2b d x=>
  have d0:=hd d B3;simp only[ev];rw[aZ (ho x A9)];split <;> simp only[lD,lS,aO d0]
 | b2s d x=>
  have d0:=hd d B3;simp only[ev];rw[aZ (ho x A9),zA (hc x B6)];cases bB E (val E x) with
  | none=>rfl
  | some r=>
   simp only[lE];split
   ·cases cZ r.2 <;> simp only[lD,lS,aO d0]
   ·rfl
 | len d x=>
  have d0:=hd d B3;simp only[ev];rw[aZ (ho x A9),zA (hc x B6)];cases bB E (val E x) <;> simp only[lD,lS,aO d0]
 | lens d x=>
  have d0:=hd d B3;simp only[ev];rw[aZ (ho x A9)];split <;> simp only[lD,lS,aO d0]
 | idx d x y s=>
  have d0:=hd d B3;have hx:=ho x A9;have cx:=hc x B6;have ed:∀ m,x=.t m->(mg S A E).ep m=E.ep m:=fun m hm=>oS (hx m (by rw[hm]; simp[O.tmp]))
  simp only[ev];rw[aZ hx,aZ (ho y A9)];split
  case h_2=>rfl
  generalize hz:val E x=z at cx ⊢;cases z with
  | ext s' es=>
   simp only;split
   ·rename_i nn _ _;cases es[nn.toNat]? <;> simp only[lD,lS,aO d0]
   ·rfl
  | extv v s' es=>
   simp only;split
   ·rename_i nn _ _;cases es[nn.toNat]? <;> simp only[lD,lS,aO d0]
   ·rfl
  | lnk r e p=>
   simp only; rw[dG (cx r B4)];cases aK E r e p with
   | none=>rfl
   | some q=>simp only[lE]; split <;> simp only[lD,lS,aO d0]
  | sub r e p s' lo n=>
   simp only; rw[dG (cx r B4)];cases aK E r e p with
   | none=>rfl
   | some q=>simp only[lE]; split <;> simp only[lD,lS,aO d0]
  | own s' es=>
   cases x with
   | c a=>rfl
   | t m=>simp only; rw[ed m rfl]; split <;> simp only[lD,lS,aO d0]
  | _=>rfl
 | fld d x off=>
  have d0:=hd d B3;have cx:=hc x B6;simp only[ev];rw[aZ (ho x A9)];generalize hz:val E x=z at cx ⊢;cases z with
  | xbox cs=>simp only; split <;> simp only[lD,lS,aO d0]
  | ref r e p st=>simp only; rw[aiF (cx r B4)]; split <;> simp only[lD,lS,aO d0]
  | _=>rfl
 | fldv d x off sz ag=>
  have d0:=hd d B3;simp only[ev];rw[qU (ho x A9)];generalize fK E x=q;obtain⟨a,E1⟩:=q;simp only[mp];cases a with
  | agg cs=>
   simp only;split
   ·cases oneOf ((cs.drop off).take sz) ag <;> simp only[lD,lS,aO d0]
   ·rfl
  | _=>rfl
 | ld d x sz ag=>
  have d0:=hd d B3;have cx:=hc x B6;simp only[ev];rw[aZ (ho x A9)];generalize hz:val E x=z at cx ⊢;cases z with
  | xbox cs=>
   simp only;split
   ·cases oneOf ((cs.take sz).map TV.xv) ag <;> simp only[lD,lS,aO d0]
   ·rfl
  | ref r e p st=>
   simp only; rw[als (cx r B4)];cases jU E r e p st sz with
   | none=>rfl
   | some cs=>
    simp only[lE];cases oneOf cs ag with
    | none=>rfl
    | some a=>simp only[lE]; split <;> simp only[lD,lS,aO d0]
  | _=>rfl
 | st x v sz=>
  have cx:=hc x B6;simp only[ev];rw[aZ (ho x A9),l4 (ho v A9) (hc v B6)];generalize hz:val E x=z at cx ⊢;cases z with
  | ref r e p st=>
   have hr:=cx r B4;simp only;cases dR E v with
   | none=>rfl
   | some g=>
    simp only[lD,lE,mp];rw[tL hr,oS hr];split
    ·split <;> simp only[lD,lS,uG hr]
    ·cases tvs (cellsOf g.1) with
     | none=>rfl
     | some ts=>
      simp only[lE]; rw[dG hr];generalize aK g.2 r e _=q;cases q with
      | none=>rfl
      | some y=>simp only[lE]; split <;> simp only[lD,lS,uG hr]
  | _=>rfl
 | alc d zero=>
  have d0:=hd d B3;have d1:=hd (5000+d) B3;simp only[ev];rw[aO d1,oS d1,aO d0];rfl
 | box d v=>
  have d0:=hd d B3;have d1:=hd (5000+d) B3;simp only[ev];rw[l4 (ho v A9) (hc v B6),aZ (ho v A9)];split
  ·rw[aO d1,oS d1,aO d0]; rfl
  cases dR E v with
  | none=>rfl
  | some g=>
   simp only[lD,lE,mp];split
   ·rw[aO d1,oS d1,aO d0]; rfl
   ·rfl
 | bld d zero ps=>
  have d0:=hd d B3;simp only[ev];rw[alw ps E _ ho hc];cases mK E (zero.map TV.av) ps with
  | none=>rfl
  | some g=>simp only[lD,mp,aO d0]
 | bsl d s ps=>
  have d0:=hd d B3;simp only[ev];rw[alv ps E ho hc];cases j8 E ps with
  | none=>rfl
  | some g=>simp only[lD,lE,mp]; split <;> simp only[lD,lS,aO d0]
 | xtr d x k=>
  have d0:=hd d B3;cases x with
  | c a=>rfl
  | t n=>
   have hn:=ho (.t n) A9 n (by simp[O.tmp]);simp only[ev];rw[tL hn];cases E.f n with
   | tup vs=>
    simp only;cases vs[k]? with
    | none=>rfl
    | some c=>simp only[lD]; split <;> simp only[aO d0,aO hn]
   | _=>rfl
 | nck d x=>
  have d0:=hd d B3;have cx:=hc x B6;simp only[ev];rw[aZ (ho x A9)];generalize hz:val E x=z at cx ⊢;cases z with
  | ref r e p st=>simp only; rw[aiF (cx r B4)]; split <;> simp only[lD,lS,aO d0]
  | xbox cs=>simp only[lD,aO d0]
  | fn f cs=>simp only; split <;> simp only[lD,lS,aO d0]
  | _=>rfl
 | app d x y s bts=>
  have d0:=hd d B3;have hy:=ho y A9;have cy:=hc y B6;simp only[ev];rw[l4 (ho x A9) (hc x B6)];cases hg:dR E x with
  | none=>rfl
  | some g=>
   have cy':clr S (val g.2 y):=(fG hg).clr cy;simp only[lD,lE,mp];rw[aZ hy,qU hy];cases g.1 with
   | own s0 es0=>
    simp only;split
    case isFalse=>rfl
    generalize hz:val g.2 y=z at cy' ⊢;cases z with
    | str b=>simp only; split <;> simp only[lD,lS,aO d0]
    | own s1 es1=>simp only; split <;> simp only[lD,lS,mp,aO d0]
    | sub r e p s1 lo n=>
     have hr:=cy' r B4;simp only; rw[dG hr];cases aK g.2 r e p with
     | none=>rfl
     | some nd=>
      simp only[lE];split
      case isFalse=>rfl
      split
      ·simp only[lD,aO d0]
      ·rw[tL hr,aiE hr,aO d0]; rfl
    | _=>
     simp only; rw[zA cy'];generalize bB g.2 _=q;cases q with
     | none=>rfl
     | some r=>simp only[lE]; split <;> simp only[lD,lS,aO d0]
   | _=>rfl
 | cpy d x y s=>
  have d0:=hd d B3;have cx:=hc x B6;have cy:=hc y B6;simp only[ev];rw[aZ (ho x A9),aZ (ho y A9),zA cy];generalize hz:val E x=z at cx ⊢;cases z with
  | lnk r e p=>
   have hr:=cx r B4;simp only; rw[dG hr];cases aK E r e p with
   | none=>rfl
   | some nd=>
    cases bB E (val E y) with
    | none=>rfl
    | some q=>
     simp only[lE];split
     ·rw[tL hr,uG hr,aO d0]; rfl
     ·rfl
  | sub r e p s' lo n=>
   have hr:=cx r B4;simp only; rw[dG hr];cases aK E r e p with
   | none=>rfl
   | some nd=>
    cases bB E (val E y) with
    | none=>rfl
    | some q=>
     simp only[lE];split
     ·rw[tL hr,uG hr,aO d0]; rfl
     ·rfl
  | _=>rfl
 | clr x s zero=>
  have cx:=hc x B6;simp only[ev];rw[aZ (ho x A9)];generalize hz:val E x=z at cx ⊢;cases z with
  | sub r e p s' lo n=>
   have hr:=cx r B4;simp only; rw[dG hr];cases aK E r e p with
   | none=>rfl
   | some nd=>
    simp only[lE];split
    ·rw[tL hr,uG hr]; rfl
    ·rfl
  | _=>rfl
 | mks d l c s bts zero=>
  have d0:=hd d B3;simp only[ev];rw[aZ (ho l A9),aZ (ho c A9)];split
  ·split <;> simp only[lD,lS,aO d0]
  ·rfl
 | slc d x lo hi s=>
  have d0:=hd d B3;have hx:=ho x A9;have cx:=hc x B6;have ed:∀ m,x=.t m->(mg S A E).ep m=E.ep m:=fun m hm=>oS (hx m (by rw[hm]; simp[O.tmp]))
  have ft:∀ n,cT (mg S A E) lo n=cT E lo n:=fun n=>tM fun y hy=>ho y D7
  have fl:∀ n,cT (mg S A E) hi n=cT E hi n:=fun n=>tM fun y hy=>ho y D7
  simp only[ev];rw[aZ hx,ft];cases cT E lo 0 with
  | none=>rfl
  | some l=>
   simp only;generalize hz:val E x=z at cx ⊢;cases z with
   | ext s' es=>
    simp only[fl];cases cT E hi es.length with
    | none=>rfl
    | some h=>simp only[lE]; split <;> simp only[lD,lS,aO d0]
   | extv v s' es=>
    simp only[fl];cases cT E hi es.length with
    | none=>rfl
    | some h=>simp only[lE]; split <;> simp only[lD,lS,aO d0]
   | lnk r e p=>
    simp only[fl]; rw[dG (cx r B4)];cases aK E r e p with
    | none=>rfl
    | some nd=>
     simp only[lE];cases cT E hi nd.2.length with
     | none=>rfl
     | some h=>simp only[lE]; split <;> simp only[lD,lS,aO d0]
   | own s' es=>
    cases x with
    | c a=>rfl
    | t m=>
     simp only[fl]; rw[ed m rfl];cases cT E hi es.length with
     | none=>rfl
     | some h=>simp only[lE]; split <;> simp only[lD,lS,aO d0]
   | sub r e p s' lo0 n=>
    simp only[fl]; rw[dG (cx r B4)];cases aK E r e p with
    | none=>rfl
    | some nd=>
     simp only[lE];cases cT E hi n with
     | none=>rfl
     | some h=>simp only[lE]; split <;> simp only[lD,lS,aO d0]
   | _=>rfl
 | sls d x lo hi=>
  have d0:=hd d B3;have ft:∀ n,cT (mg S A E) lo n=cT E lo n:=fun n=>tM fun y hy=>ho y D7
  have fl:∀ n,cT (mg S A E) hi n=cT E hi n:=fun n=>tM fun y hy=>ho y D7
  simp only[ev];rw[aZ (ho x A9),ft];split
  ·rename_i b l _ _;rw[fl];cases cT E hi b.length with
   | none=>rfl
   | some h=>simp only[lE]; split <;> simp only[lD,lS,aO d0]
  ·rfl
 | sidx d x y=>
  have d0:=hd d B3;simp only[ev];rw[aZ (ho x A9),aZ (ho y A9)];split
  ·rename_i b k n _ _;split
   ·cases b[n.toNat]? <;> simp only[lD,lS,aO d0]
   ·rfl
  ·rfl
 | mx d x y=>
  have d0:=hd d B3;simp only[ev];rw[aZ (ho x A9),aZ (ho y A9)];split <;> simp only[lD,lS,aO d0]
 | mn d x y=>
  have d0:=hd d B3;simp only[ev];rw[aZ (ho x A9),aZ (ho y A9)];split <;> simp only[lD,lS,aO d0]
 | pck d c a b=>
  have d0:=hd d B3;simp only[ev];rw[aZ (ho c A9),aZ (ho a A9),aZ (ho b A9)];split
  ·split <;> simp only[lD,lS,aO d0]
  ·rfl
 | mkf d f cs=>
  have d0:=hd d B3;have:cs.map (val (mg S A E))=cs.map (val E):=List.map_congr_left fun x hx=>aZ (ho x hx)
  simp only[ev];rw[this];split <;> simp only[lD,lS,aO d0]
 | call d f xs=>rfl
 | callv d x xs=>rfl
end
section
variable {P:Program} {S:Nat->Bool} {A E E':Env} {t:Nat}
def SameAt (E E':Env) (t:Nat):Prop:=E'.f t=E.f t/\E'.ep t=E.ep t
theorem SameAt.rfl':SameAt E E t:=⟨rfl,rfl⟩
theorem SameAt.trans {E1 E2 E3:Env} (h:SameAt E1 E2 t) (g:SameAt E2 E3 t):SameAt E1 E3 t:=⟨g.1.trans h.1,g.2.trans h.2⟩
theorem wP {d:Nat} {x:AV} (h:t≠d):SameAt E (E.put d x) t:=⟨bX h,cY h⟩
theorem apv {d:Nat} {x:AV} (h:t≠d):SameAt E (E.upd d x) t:=⟨yU h,t7 h⟩
theorem SameAt.put {d:Nat} {x:AV} (h:SameAt E E' t) (hd:t≠d):SameAt E (E'.put d x) t:=h.trans (wP hd)
theorem SameAt.upd {d:Nat} {x:AV} (h:SameAt E E' t) (hd:t≠d):SameAt E (E'.upd d x) t:=h.trans (apv hd)
theorem apK {r:Nat} {p:bA} (h:t≠r):SameAt E (takeN E r p) t:=by
 unfold takeN; split
 ·exact wP h
 ·exact⟨mR h,rfl⟩
mutual
theorem qV (a:AV) (E:Env) {x:AV × Env} (h:bN E a=some x) (ht:t ∉ lks a):SameAt E x.2 t:=by
 cases a with
 | lnk r e p=>
  simp only[bN] at h;obtain⟨y,h1,rfl⟩:=map_some h;exact apK (by simpa [lks] using ht)
 | sub r e p s lo n=>
  simp only[bN] at h;obtain⟨y,h1,h⟩:=bind_some h;obtain⟨_,h⟩:=aC h;cases h;exact apK (by simpa [lks] using ht)
 | agg cs=>
  simp only[bN] at h;obtain⟨y,h1,rfl⟩:=map_some h;exact xH cs E (x:=y) h1 (by simpa [lks] using ht)
 | tup cs=>simp[bN] at h
 | box cs=>simp[bN] at h
 | _=>simp only[bN,Option.some.injEq] at h; subst h; exact SameAt.rfl'
theorem xH (l:List AV) (E:Env) {x:List AV × Env} (h:i5 E l=some x) (ht:t ∉ pA l):SameAt E x.2 t:=by
 cases l with
 | nil=>simp only[i5,Option.some.injEq] at h; subst h; exact SameAt.rfl'
 | cons a l=>
  simp only[i5] at h;obtain⟨y,h1,h⟩:=bind_some h;obtain⟨z,h2,rfl⟩:=map_some h;simp only[pA,lL,not_or] at ht;exact(qV a E h1 ht.1).trans (xH l y.2 (x:=z) h2 ht.2)
end
theorem kG (x:O) (ht:t ∉ pW E x):SameAt E (fK E x).2 t:=by
 cases x with
 | c a=>exact SameAt.rfl'
 | t n=>
  simp only[fK];split
  ·rename_i ho;refine wP ?_;intro e; subst e;exact ht (by simp[pW,val,ho,O.tmp])
  ·exact SameAt.rfl'
theorem gH {x:O} {y:AV × Env} (h:dR E x=some y) (ht:t ∉ gW E x):SameAt E y.2 t:=by
 simp only[gW,lL,not_or] at ht;unfold dR at h;exact(kG x ht.1).trans (qV _ _ h (by rw[zC]; exact ht.2))
theorem Sub.owns (h:Sub E E') (x:O) (ho:(val E' x).owns=true):(val E x).owns=true:=by
 cases x with
 | c a=>exact ho
 | t n=>
  simp only[val] at ho ⊢;rcases h n with e | e | ⟨_,e,_⟩
  ·rw[<-e]; exact ho
  ·rw[e] at ho; cases ho
  ·generalize E.f n=y at e;cases y <;> first | rfl | cases e
theorem Sub.pW (h:Sub E E') (x:O) (ht:t ∉ Awp.pW E x):t ∉ Awp.pW E' x:=by
 intro hm;apply ht;unfold Awp.pW at hm ⊢;split at hm
 ·rename_i ho; rw[lK (h.owns x ho)]; exact hm
 ·simp at hm
theorem Sub.gW (h:Sub E E') (x:O) (ht:t ∉ Awp.gW E x):t ∉ Awp.gW E' x:=by
 simp only[Awp.gW,lL,not_or] at ht ⊢;exact⟨h.pW x ht.1,fun hm=>ht.2 (h.lks x t hm)⟩
theorem agt:∀ (l:List O) (E:Env) {x:List (List TV) × Env},j8 E l=some x->(∀ y ∈ l,t ∉ gW E y)->SameAt E x.2 t:=by
 intro l;induction l with
 | nil=>intro E x h _; simp only[j8,Option.some.injEq] at h; subst h; exact SameAt.rfl'
 | cons y l ih=>
  intro E x h ht;simp only[j8] at h;obtain⟨g,hg,h⟩:=bind_some h;obtain⟨_,h⟩:=aC h;obtain⟨ts,_,h⟩:=bind_some h;obtain⟨z,hz,rfl⟩:=map_some h;exact(gH hg (ht y A8)).trans (ih g.2 (x:=z) hz fun q hq=>(fG hg).gW q (ht q (by simp[hq])))
theorem agu:∀ (l:List (Nat × Nat × O)) (E:Env) (cs:List AV) {x:List AV × Env},mK E cs l=some x->(∀ y ∈ l.map (·.2.2),t ∉ pW E y)->SameAt E x.2 t:=by
 intro l;induction l with
 | nil=>intro E cs x h _; simp only[mK,Option.some.injEq] at h; subst h; exact SameAt.rfl'
 | cons q l ih=>
  obtain⟨off,sz,y⟩:=q;intro E cs x h ht;simp only[mK] at h;obtain⟨_,h⟩:=aC h;exact(kG y (ht y A8)).trans (ih _ _ h fun z hz=>(zE (E:=E) y).pW z (ht z (by simp only[lR,lN]; exact .inr hz)))
theorem an6 (i:I) {ms:List M} (h:ev E i=some E') (ht:t ∉ wrI E ms i):SameAt E E' t:=by
 have one:∀ {d:Nat} {x:AV} {E':Env},some (E.put d x)=some E'->t≠d->SameAt E E' t:=fun h hd=>by cases h; exact wP hd
 cases i with
 | mov d x=>
  cases x with
  | c a=>
   cases h;refine wP ?_;intro e; apply ht; simp only[wrI]; split <;> simp[e]
  | t n=>
   simp only[ev] at h;simp only[wrI,val,pW] at ht;cases hz:E.f n with
   | own s es=>
    simp only[hz] at h ht;split at h
    ·cases h
    ·exact one h (by simpa using ht)
   | box cs=>
    simp only[hz] at h ht;split at h
    ·cases h
    ·exact one h (by simpa using ht)
   | _=>
    simp only[hz] at h ht;split at h
    ·rename_i ho;rw[lK ho] at ht;simp only[O.tmp,lN,not_or] at ht;cases h;exact(wP ht.2.1).put ht.1
    ·rename_i ho;rw[lO ho] at ht;exact one h (by simpa using ht)
 | asg d x=>
  simp only[ev] at h;simp only[wrI,lN,not_or] at ht;split at h
  ·split at h
   ·rename_i r e p s lo n hx hh;obtain⟨g,hg,rfl⟩:=map_some h;exact(qV _ _ hg (by simp[lks]; rw[hh.1]; exact ht.1)).put ht.1
   ·exact one h ht.1
  ·cases h; exact(kG x ht.2).put ht.1
 | mrk d x=>
  simp only[ev] at h;simp only[wrI,lN,not_or] at ht;split at h
  ·obtain⟨_,h⟩:=aC h;cases h; exact(kG x ht.2).put ht.1
  ·cases h
 | fldv d x off sz ag=>
  simp only[ev] at h;simp only[wrI,lN,not_or] at ht;have hp:=kG (E:=E) x ht.2;generalize fK E x=q at h hp;obtain⟨a,E1⟩:=q;cases a with
  | agg cs=>
   simp only at h;obtain⟨_,h⟩:=aC h;obtain⟨a,_,rfl⟩:=map_some h;exact hp.put ht.1
  | _=>cases h
 | bld d zero ps=>
  simp only[ev] at h;simp only[wrI,lN,not_or,lH4,not_exists,not_and] at ht;obtain⟨g,hg,rfl⟩:=map_some h;exact(agu ps E _ hg ht.2).put ht.1
 | bsl d s ps=>
  simp only[ev] at h;simp only[wrI,lN,not_or,lH4,not_exists,not_and] at ht;obtain⟨g,hg,h⟩:=bind_some h;obtain⟨_,h⟩:=aC h;cases h;exact(agt ps E hg ht.2).put ht.1
 | xtr d x k=>
  cases x with
  | c a=>cases h
  | t n=>
   simp only[ev] at h;simp only[wrI,val] at ht;generalize hz:E.f n=z at h ht;cases z with
   | tup vs=>
    simp only at h ht;cases hv:vs[k]? with
    | none=>simp[hv] at h
    | some c=>
     simp only[hv,lD] at h ht;split at h
     ·rename_i hc;rw[lK hc] at ht;simp only[O.tmp,lN,not_or] at ht;cases h;exact(wP ht.2.1).put ht.1
     ·rename_i hc;rw[lO hc] at ht;exact one h (by simpa using ht)
   | _=>cases h
 | st x v sz=>
  simp only[ev] at h;simp only[wrI,lL,not_or] at ht;split at h
  ·rename_i r e p st hx;have hr:t≠r:=by
    intro e; apply ht.1; rw[hx]; simp[lks,e]
   obtain⟨g,hg,h⟩:=bind_some h;have hs:=gH hg ht.2;split at h
   ·obtain⟨_,h⟩:=aC h; cases h; exact hs.upd hr
   ·obtain⟨ts,_,h⟩:=bind_some h;obtain⟨y,_,h⟩:=bind_some h;obtain⟨_,h⟩:=aC h;cases h; exact hs.upd hr
  ·cases h
 | box d v=>
  simp only[ev] at h;simp only[wrI,lN,not_or] at ht;split at h
  ·cases h;exact(wP ht.2.1).put ht.1
  obtain⟨g,hg,h⟩:=bind_some h;obtain⟨_,h⟩:=aC h;cases h;exact((gH hg ht.2.2).put ht.2.1).put ht.1
 | alc d zero=>
  simp only[ev] at h;simp only[wrI,lN,not_or] at ht;cases h;exact(wP ht.2.1).put ht.1
 | app d x y s bts=>
  simp only[ev] at h;simp only[wrI,lN,lL,not_or] at ht;obtain⟨h0,h1,h2⟩:=ht;obtain⟨g,hg,h⟩:=bind_some h;have hs:=gH hg h1;have iu:=fG hg;split at h
  case h_2=>cases h
  split at h
  case isFalse=>cases h
  split at h
  ·obtain⟨_,h⟩:=aC h; cases h; exact hs.put h0
  ·rename_i s1 es1 hy;obtain⟨_,h⟩:=aC h; cases h;refine(hs.trans (kG y ?_)).put h0;refine iu.pW y ?_;have ho:(val E y).owns=true:=iu.owns y (by rw[hy]; rfl);generalize val E y=z at h2 ho;cases z <;> first | exact h2 | cases ho
  ·rename_i r e p s1 lo n hy;obtain⟨nd,jx,h⟩:=bind_some h;obtain⟨_,h⟩:=aC h;split at h
   ·cases h; exact hs.put h0
   ·cases h;have hr:t≠r:=by
     have hv:val E y=.sub r e p s1 lo n:=by
      cases y with
      | c a=>exact hy
      | t m=>
       simp only[val] at hy ⊢;rcases iu m with q | q | ⟨q,_,_⟩
       ·rw[<-q]; exact hy
       ·rw[q] at hy; cases hy
       ·rw[hy] at q; cases q
     rw[hv] at h2;simpa using h2
    exact(hs.trans ⟨mR hr,rfl⟩).put h0
  ·obtain⟨r,_,h⟩:=bind_some h;obtain⟨_,h⟩:=aC h; cases h; exact hs.put h0
 | cpy d x y s=>
  simp only[ev] at h;simp only[wrI,lN,not_or] at ht;split at h
  ·rename_i r e p hx;have hr:t≠r:=by intro e; apply ht.2; rw[hx]; simp[lks,e]
   obtain⟨nd,_,h⟩:=bind_some h;obtain⟨q,_,h⟩:=bind_some h;obtain⟨_,h⟩:=aC h; cases h; exact(apv hr).put ht.1
  ·rename_i r e p s' lo n hx;have hr:t≠r:=by intro e; apply ht.2; rw[hx]; simp[lks,e]
   obtain⟨nd,_,h⟩:=bind_some h;obtain⟨q,_,h⟩:=bind_some h;obtain⟨_,h⟩:=aC h; cases h; exact(apv hr).put ht.1
  ·cases h
 | clr x s zero=>
  simp only[ev] at h;simp only[wrI] at ht;split at h
  ·rename_i r e p s' lo n hx;have hr:t≠r:=by intro e; apply ht; rw[hx]; simp[lks,e]
   obtain⟨nd,_,h⟩:=bind_some h;obtain⟨_,h⟩:=aC h; cases h; exact apv hr
  ·cases h
 | call d f xs=>cases h
 | callv d x xs=>cases h
 | bin d op x y=>simp only[ev] at h; obtain⟨_,_,rfl⟩:=map_some h; exact wP (by simpa [wrI,I.dsts] using ht)
 | un d op x=>simp only[ev] at h; obtain⟨_,_,rfl⟩:=map_some h; exact wP (by simpa [wrI,I.dsts] using ht)
 | len d x=>simp only[ev] at h; obtain⟨_,_,rfl⟩:=map_some h; exact wP (by simpa [wrI,I.dsts] using ht)
 | beq d neg x y=>
  have hd:=ht;simp only[wrI,I.dsts,lH1] at hd;simp only[ev] at h;split at h
  ·exact one h hd
  ·cases h
 | eqs d neg ks x y=>
  have hd:=ht;simp only[wrI,I.dsts,lH1] at hd;simp only[ev] at h;split at h
  ·obtain⟨_,_,rfl⟩:=map_some h; exact wP hd
  ·cases h
 | isn d neg x y=>
  have hd:=ht;simp only[wrI,I.dsts,lH1] at hd;simp only[ev] at h;split at h
  ·split at h
   ·exact one h hd
   ·cases h
  ·cases h
 | conv d k x=>
  have hd:=ht;simp only[wrI,I.dsts,lH1] at hd;simp only[ev] at h;split at h
  ·exact one h hd
  ·cases h
 | s2b d x=>
  have hd:=ht;simp only[wrI,I.dsts,lH1] at hd;simp only[ev] at h;split at h
  ·exact one h hd
  ·cases h
 | lens d x=>
  have hd:=ht;simp only[wrI,I.dsts,lH1] at hd;simp only[ev] at h;split at h
  ·exact one h hd
  ·cases h
 | mx d x y=>
  have hd:=ht;simp only[wrI,I.dsts,lH1] at hd;simp only[ev] at h;split at h
  ·exact one h hd
  ·cases h
 | mn d x y=>
  have hd:=ht;simp only[wrI,I.dsts,lH1] at hd;simp only[ev] at h;split at h
  ·exact one h hd
  ·cases h
 | b2s d x=>
  have hd:=ht;simp only[wrI,I.dsts,lH1] at hd;simp only[ev] at h;obtain⟨_,_,h⟩:=bind_some h;obtain⟨_,h⟩:=aC h;obtain⟨_,_,rfl⟩:=map_some h;exact wP hd
 | fld d x off=>
  have hd:=ht;simp only[wrI,I.dsts,lH1] at hd;simp only[ev] at h;split at h
  ·obtain⟨_,h⟩:=aC h; exact one h hd
  ·obtain⟨_,h⟩:=aC h; exact one h hd
  ·cases h
 | ld d x sz ag=>
  have hd:=ht;simp only[wrI,I.dsts,lH1] at hd;simp only[ev] at h;split at h
  ·obtain⟨_,h⟩:=aC h; obtain⟨_,_,rfl⟩:=map_some h; exact wP hd
  ·obtain⟨_,_,h⟩:=bind_some h;obtain⟨_,_,h⟩:=bind_some h;obtain⟨_,h⟩:=aC h; exact one h hd
  ·cases h
 | nck d x=>
  have hd:=ht;simp only[wrI,I.dsts,lH1] at hd;simp only[ev] at h;split at h
  ·obtain⟨_,h⟩:=aC h; exact one h hd
  ·exact one h hd
  ·split at h
   ·cases h
   ·exact one h hd
  ·cases h
 | mks d l c s bts zero=>
  have hd:=ht;simp only[wrI,I.dsts,lH1] at hd;simp only[ev] at h;split at h
  ·obtain⟨_,h⟩:=aC h; exact one h hd
  ·cases h
 | sls d x lo hi=>
  have hd:=ht;simp only[wrI,I.dsts,lH1] at hd;simp only[ev] at h;split at h
  ·obtain⟨_,_,h⟩:=bind_some h;obtain⟨_,h⟩:=aC h; exact one h hd
  ·cases h
 | sidx d x y=>
  have hd:=ht;simp only[wrI,I.dsts,lH1] at hd;simp only[ev] at h;split at h
  ·obtain⟨_,h⟩:=aC h; obtain⟨_,_,rfl⟩:=map_some h; exact wP hd
  ·cases h
 | pck d c a b=>
  have hd:=ht;simp only[wrI,I.dsts,lH1] at hd;simp only[ev] at h;split at h
  ·split at h
   ·cases h
   ·exact one h hd
  ·cases h
 | mkf d f cs=>
  have hd:=ht;simp only[wrI,I.dsts,lH1] at hd;simp only[ev] at h;split at h
  ·cases h
  ·exact one h hd
 | idx d x y s=>
  have hd:=ht;simp only[wrI,I.dsts,lH1] at hd;simp only[ev] at h;split at h
  ·split at h
   ·obtain⟨_,h⟩:=aC h; obtain⟨_,_,rfl⟩:=map_some h; exact wP hd
   ·obtain⟨_,h⟩:=aC h; obtain⟨_,_,rfl⟩:=map_some h; exact wP hd
   ·obtain⟨_,_,h⟩:=bind_some h; obtain⟨_,h⟩:=aC h; exact one h hd
   ·obtain⟨_,_,h⟩:=bind_some h; obtain⟨_,h⟩:=aC h; exact one h hd
   ·split at h
    ·obtain⟨_,h⟩:=aC h; exact one h hd
    ·cases h
   ·cases h
  ·cases h
 | slc d x lo hi s=>
  have hd:=ht;simp only[wrI,I.dsts,lH1] at hd;simp only[ev] at h;split at h
  ·cases h
  ·split at h
   ·obtain⟨_,_,h⟩:=bind_some h; obtain⟨_,h⟩:=aC h; exact one h hd
   ·obtain⟨_,_,h⟩:=bind_some h; obtain⟨_,h⟩:=aC h; exact one h hd
   ·obtain⟨_,_,h⟩:=bind_some h; obtain⟨_,_,h⟩:=bind_some h; obtain⟨_,h⟩:=aC h; exact one h hd
   ·split at h
    ·obtain⟨_,_,h⟩:=bind_some h; obtain⟨_,h⟩:=aC h; exact one h hd
    ·cases h
   ·obtain⟨_,_,h⟩:=bind_some h; obtain⟨_,_,h⟩:=bind_some h; obtain⟨_,h⟩:=aC h; exact one h hd
   ·cases h
theorem apL:∀ (ms:List M) (xs:List O) (E:Env),(∀ x ∈ xs,y9 S x)->(∀ x ∈ xs,clr S (val E x))->mvP (mg S A E) ms xs=(mvP E ms xs).map (mp S A):=by
 intro ms;induction ms with
 | nil=>intro xs E _ _; cases xs <;> simp[mvP,mp]
 | cons md ms ih=>
  intro xs E h1 h2;cases xs with
  | nil=>cases md <;> simp[mvP]
  | cons x xs=>
   have r1:∀ y ∈ xs,y9 S y:=fun y hy=>h1 y B8
   have r2:∀ y ∈ xs,clr S (val E y):=fun y hy=>h2 y B8
   cases md with
   | m=>
    simp only[mvP];rw[l4 (h1 x A8) (h2 x A8)];cases hg:dR E x with
    | none=>rfl
    | some g=>
     simp only[lD,lE,mp];rw[ih xs g.2 r1 fun y hy=>(fG hg).clr (r2 y hy)];cases mvP g.2 ms xs <;> rfl
   | p=>
    simp only[mvP];rw[l4 (h1 x A8) (h2 x A8)];cases hg:dR E x with
    | none=>rfl
    | some g=>
     simp only[lD,lE,mp];rw[ih xs g.2 r1 fun y hy=>(fG hg).clr (r2 y hy)];cases mvP g.2 ms xs <;> rfl
   | b=>simp only[mvP]; rw[ih xs E r1 r2]; cases mvP E ms xs <;> rfl
   | l=>simp only[mvP]; rw[ih xs E r1 r2]; cases mvP E ms xs <;> rfl
theorem aiH:∀ (ms:List M) (xs:List O) (E:Env) {x:List (Option AV) × Env},mvP E ms xs=some x->Sub E x.2:=by
 intro ms;induction ms with
 | nil=>intro xs E x h; cases xs <;> simp only[mvP] at h <;> cases h; exact Sub.rfl'
 | cons md ms ih=>
  intro xs E x h;cases xs with
  | nil=>cases md <;> simp only[mvP] at h <;> cases h
  | cons y xs=>
   cases md with
   | m=>
    simp only[mvP] at h;obtain⟨g,hg,h⟩:=bind_some h;obtain⟨z,hz,rfl⟩:=map_some h;exact(fG hg).trans (ih xs g.2 (x:=z) hz)
   | p=>
    simp only[mvP] at h;obtain⟨g,hg,h⟩:=bind_some h;obtain⟨z,hz,rfl⟩:=map_some h;exact(fG hg).trans (ih xs g.2 (x:=z) hz)
   | b=>simp only[mvP] at h; obtain⟨z,hz,rfl⟩:=map_some h; exact ih xs E (x:=z) hz
   | l=>simp only[mvP] at h; obtain⟨z,hz,rfl⟩:=map_some h; exact ih xs E (x:=z) hz
theorem alx:∀ (ms:List M) (xs:List O) (E:Env) {x:List (Option AV) × Env},mvP E ms xs=some x->(∀ E1,Sub E E1->t ∉ mW E1 ms xs)->SameAt E x.2 t:=by
 intro ms;induction ms with
 | nil=>intro xs E x h _; cases xs <;> simp only[mvP] at h <;> cases h; exact SameAt.rfl'
 | cons md ms ih=>
  intro xs E x h ht;cases xs with
  | nil=>cases md <;> simp only[mvP] at h <;> cases h
  | cons y xs=>
   cases md with
   | m=>
    simp only[mvP] at h;obtain⟨g,hg,h⟩:=bind_some h;obtain⟨z,hz,rfl⟩:=map_some h;have om:=ht E Sub.rfl';simp only[mW,lL,not_or] at om;refine(gH hg om.1).trans (ih xs g.2 (x:=z) hz fun E1 h1=>?_);have:=ht E1 ((fG hg).trans h1);simp only[mW,lL,not_or] at this;exact this.2
   | p=>
    simp only[mvP] at h;obtain⟨g,hg,h⟩:=bind_some h;obtain⟨z,hz,rfl⟩:=map_some h;have om:=ht E Sub.rfl';simp only[mW,lL,not_or] at om;refine(gH hg om.1).trans (ih xs g.2 (x:=z) hz fun E1 h1=>?_);have:=ht E1 ((fG hg).trans h1);simp only[mW,lL,not_or] at this;exact this.2
   | b=>
    simp only[mvP] at h; obtain⟨z,hz,rfl⟩:=map_some h;exact ih xs E (x:=z) hz fun E1 h1=>by simpa [mW] using ht E1 h1
   | l=>
    simp only[mvP] at h; obtain⟨z,hz,rfl⟩:=map_some h;exact ih xs E (x:=z) hz fun E1 h1=>by
     have:=ht E1 h1;simp only[mW,lL,not_or] at this;exact this.2
theorem anr (h:Sub E E'):∀ (ms:List M) (xs:List O),t ∉ mW E ms xs->t ∉ mW E' ms xs:=by
 intro ms;induction ms with
 | nil=>intro xs _; simp[mW]
 | cons md ms ih=>
  intro xs ht;cases xs with
  | nil=>cases md <;> simp[mW]
  | cons x xs=>
   cases md with
   | m=>simp only[mW,lL,not_or] at ht ⊢; exact⟨h.gW x ht.1,ih xs ht.2⟩
   | p=>simp only[mW,lL,not_or] at ht ⊢; exact⟨h.gW x ht.1,ih xs ht.2⟩
   | b=>simp only[mW] at ht ⊢; exact ih xs ht
   | l=>simp only[mW,lL,not_or] at ht ⊢; exact⟨fun hm=>ht.1 (h.lks x t hm),ih xs ht.2⟩
mutual
theorem ans (a:AV) (lr:Option Nat) (h:clr S a):brw (mg S A E) lr a=brw E lr a:=by
 cases a with
 | agg cs=>simp only[brw]; rw[ac2 cs lr h]
 | fn f cs=>simp only[brw]; rw[ac2 cs lr h]
 | lnk r e p=>simp only[brw]; rw[dG (h r B4)]
 | sub r e p s lo n=>simp only[brw]; rw[dG (h r B4)]
 | ref r e p st=>simp only[brw]; rw[tL (h r B4),oS (h r B4)]
 | _=>rfl
theorem ac2 (l:List AV) (lr:Option Nat) (h:an4 S l):o9 (mg S A E) lr l=o9 E lr l:=by
 cases l with
 | nil=>rfl
 | cons a l=>simp only[o9]; rw[ans a lr (mZ h).1,ac2 l lr (mZ h).2]
end
theorem aiI {a:AV} (h:clr S a):cC (mg S A E) a=cC E a:=by
 cases a with
 | lnk r e p=>simp only[cC]; rw[dG (h r B4)]
 | ref r e p st=>simp only[cC]; rw[tL (h r B4),oS (h r B4)]
 | _=>rfl
theorem aly:∀ (ms:List M) (xs:List O),(∀ x ∈ xs,y9 S x)->(∀ x ∈ xs,clr S (val E x))->eJ (mg S A E) ms xs=eJ E ms xs:=by
 intro ms;induction ms with
 | nil=>intro xs _ _; cases xs <;> rfl
 | cons md ms ih=>
  intro xs h1 h2;cases xs with
  | nil=>cases md <;> rfl
  | cons x xs=>
   have:=ih xs (fun y hy=>h1 y B8) (fun y hy=>h2 y B8);cases md with
   | l=>simp only[eJ]; rw[aZ (h1 x A8),aiI (h2 x A8)]
   | b=>simp only[eJ]; exact this
   | m=>simp only[eJ]; exact this
   | p=>simp only[eJ]; exact this
theorem ac3 {a:AV} {q:Nat × bA × AV} (h:cC E a=some q):q.1 ∈ lks a:=by
 cases a with
 | lnk r e p=>simp only[cC] at h; obtain⟨_,_,rfl⟩:=map_some h; simp[lks]
 | ref r e p st=>
  simp only[cC] at h;split at h
  ·obtain⟨_,h⟩:=aC h; cases h; simp[lks]
  ·cases h
 | _=>cases h
theorem agv:∀ {ms:List M} {xs:List O} {q:Nat × bA × AV},eJ E ms xs=some q->(∃ x ∈ xs,q.1 ∈ lks (val E x))/\q.1 ∈ mW E ms xs:=by
 intro ms;induction ms with
 | nil=>intro xs q h; cases xs <;> cases h
 | cons md ms ih=>
  intro xs q h;cases xs with
  | nil=>cases md <;> cases h
  | cons x xs=>
   cases md with
   | l=>
    simp only[eJ] at h;have:=ac3 h;exact⟨⟨x,by simp,this⟩,by simp[mW,this]⟩
   | b=>
    simp only[eJ] at h;obtain⟨⟨y,h1,h2⟩,h3⟩:=ih h;exact⟨⟨y,by simp[h1],h2⟩,by simpa [mW] using h3⟩
   | m=>
    simp only[eJ] at h;obtain⟨⟨y,h1,h2⟩,h3⟩:=ih h;exact⟨⟨y,by simp[h1],h2⟩,by simp[mW,h3]⟩
   | p=>
    simp only[eJ] at h;obtain⟨⟨y,h1,h2⟩,h3⟩:=ih h;exact⟨⟨y,by simp[h1],h2⟩,by simp[mW,h3]⟩
theorem ae2 (ln:Option (Nat × bA × AV)):∀ (ms:List M) (xs:List O) (mv:List (Option AV)),(∀ x ∈ xs,y9 S x)->(∀ x ∈ xs,clr S (val E x))->fL (mg S A E) ln ms xs mv=fL E ln ms xs mv:=by
 intro ms;induction ms with
 | nil=>intro xs mv _ _; cases xs <;> cases mv <;> rfl
 | cons md ms ih=>
  intro xs mv h1 h2;cases xs with
  | nil=>cases md <;> cases mv <;> rfl
  | cons x xs=>
   have hi:=fun mv=>ih xs mv (fun y hy=>h1 y B8) (fun y hy=>h2 y B8)
   cases mv with
   | nil=>cases md <;> rfl
   | cons q mv=>
    cases md with
    | m=>cases q <;> simp only[fL,hi]
    | p=>cases q <;> simp only[fL,hi]
    | l=>simp only[fL,hi]
    | b=>simp only[fL,hi]; rw[aZ (h1 x A8),ans _ _ (h2 x A8)]
theorem alz:∀ (ms:List M) (xs:List O),(∀ x ∈ xs,y9 S x)->gA (mg S A E) ms xs=gA E ms xs:=by
 intro ms;induction ms with
 | nil=>intro xs _; cases xs <;> rfl
 | cons md ms ih=>
  intro xs h1;cases xs with
  | nil=>cases md <;> rfl
  | cons x xs=>
   have:=ih xs (fun y hy=>h1 y B8);cases md with
   | b=>simp only[gA]; rw[aZ (h1 x A8),this]
   | l=>simp only[gA]; exact this
   | m=>simp only[gA]; exact this
   | p=>simp only[gA]; exact this
def mq {α β:Type} (S:Nat->Bool) (A:Env) (x:α × Env × β):α × Env × β:=(x.1,mg S A x.2.1,x.2.2)
theorem an7 (ms:List M) (xs:List O) (h1:∀ x ∈ xs,y9 S x) (h2:∀ x ∈ xs,clr S (val E x)):aaF (mg S A E) ms xs=(aaF E ms xs).map (mq S A):=by
 unfold aaF;rw[apL ms xs E h1 h2];cases hm:mvP E ms xs with
 | none=>rfl
 | some mv=>
  have h2':∀ x ∈ xs,clr S (val mv.2 x):=fun x hx=>(aiH ms xs E hm).clr (h2 x hx)
  simp only[lD,lE,mp];split
  ·rw[ae2 none ms xs _ h1 h2'];cases fL mv.2 none ms xs mv.1 with
   | none=>rfl
   | some as=>simp only[lE]; split <;> rfl
  ·cases c5 ms with
   | none=>rfl
   | some k=>
    simp only[lE];rw[aly ms xs h1 h2'];cases eJ mv.2 ms xs with
    | none=>rfl
    | some ln=>
     simp only[lE];rw[ae2 (some ln) ms xs _ h1 h2'];cases fL mv.2 (some ln) ms xs mv.1 with
     | none=>rfl
     | some as=>simp only[lE]; split <;> rfl
theorem aa3 {ms:List M} {xs:List O} {pr:List AV × Env × Option (Nat × Nat × bA)} (h:aaF E ms xs=some pr) :
  Sub E pr.2.1/\(∀ t,t ∉ mW E ms xs->SameAt E pr.2.1 t)/\∀ q,pr.2.2=some q->(∃ x ∈ xs,q.2.1 ∈ lks (val E x))/\q.2.1 ∈ mW E ms xs:=by
 unfold aaF at h;obtain⟨mv,hm,h⟩:=bind_some h;have hs:=aiH ms xs E hm;have hsm:∀ t,t ∉ mW E ms xs->SameAt E mv.2 t:=fun t ht=>alx ms xs E hm fun E1 h1=>anr h1 ms xs ht
 split at h
 ·obtain⟨as,_,h⟩:=bind_some h;obtain⟨_,h⟩:=aC h;cases h;exact⟨hs,hsm,fun q hq=>by cases hq⟩
 ·obtain⟨k,_,h⟩:=bind_some h;obtain⟨ln,hl,h⟩:=bind_some h;obtain⟨as,_,h⟩:=bind_some h;obtain⟨_,h⟩:=aC h;cases h;refine⟨hs,hsm,fun q hq=>?_⟩;cases hq;obtain⟨⟨x,h1,h2⟩,h3⟩:=agv hl;refine⟨⟨x,h1,hs.lks x _ h2⟩,?_⟩;cases Classical.em (ln.1 ∈ mW E ms xs) with
  | inl h=>exact h
  | inr h=>exact absurd h3 (anr hs ms xs h)
theorem alA {ln:Option (Nat × Nat × bA)} {outs:List AV} (h:∀ q,ln=some q->S q.2.1=false):aaH (mg S A E) ln outs=(aaH E ln outs).map (mg S A):=by
 cases ln with
 | none=>rfl
 | some q=>
  obtain⟨k,r,p⟩:=q;have hr:=h (k,r,p) rfl;simp only at hr;simp only[aaH];cases outs[k]? with
  | none=>rfl
  | some o=>
   simp only[lE]; rw[tL hr];split
   ·rw[uG hr]; rfl
   ·rfl
theorem an8 (k:Nat):∀ (cs:List AV) (j:Nat),an4 S cs->iM (mg S A E) k j cs=iM E k j cs:=by
 intro cs;induction cs with
 | nil=>intro j _; rfl
 | cons a cs ih=>
  intro j h;obtain⟨h1,h2⟩:=mZ h;cases a with
  | lnk r e p=>simp only[iM]; rw[dG (h1 r B4),ih _ h2]
  | _=>simp only[iM]; exact ih _ h2
theorem an9 (k:Nat) {a:AV} (h:clr S a):qQ (mg S A E) k a=qQ E k a:=by
 cases a with
 | lnk r e p=>simp only[qQ]; rw[dG (h r B4)]
 | agg cs=>simp only[qQ]; exact an8 k cs 0 h
 | _=>rfl
theorem aoa:∀ (ms:List M) (xs:List O) (k:Nat),(∀ x ∈ xs,y9 S x)->(∀ x ∈ xs,clr S (val E x))->j5 (mg S A E) k ms xs=j5 E k ms xs:=by
 intro ms;induction ms with
 | nil=>intro xs k _ _; cases xs <;> rfl
 | cons md ms ih=>
  intro xs k h1 h2;cases xs with
  | nil=>cases md <;> rfl
  | cons x xs=>
   have hi:=ih xs (k+1) (fun y hy=>h1 y B8) (fun y hy=>h2 y B8);cases md with
   | p=>simp only[j5]; rw[aZ (h1 x A8),an9 k (h2 x A8),hi]
   | b=>simp only[j5]; exact hi
   | l=>simp only[j5]; exact hi
   | m=>simp only[j5]; exact hi
theorem alB (k:Nat):∀ (cs:List AV) (j:Nat),∀ q ∈ iM E k j cs,q.2.2.1 ∈ pA cs:=by
 intro cs;induction cs with
 | nil=>intro j q hq; simp[iM] at hq
 | cons a cs ih=>
  intro j q hq;cases a with
  | lnk r e p=>
   simp only[iM] at hq;split at hq
   ·rcases lN.1 hq with rfl | hq
    ·simp[pA,lks]
    ·simp[pA,ih _ q hq]
   ·simp[pA,ih _ q hq]
  | _=>simp only[iM] at hq; simp[pA,ih _ q hq]
theorem ae3:∀ (ms:List M) (xs:List O) (k:Nat),∀ q ∈ j5 E k ms xs,(∃ x ∈ xs,q.2.2.1 ∈ lks (val E x))/\q.2.2.1 ∈ mW E ms xs:=by
 intro ms;induction ms with
 | nil=>intro xs k q hq; cases xs <;> simp[j5] at hq
 | cons md ms ih=>
  intro xs k q hq;cases xs with
  | nil=>cases md <;> simp[j5] at hq
  | cons x xs=>
   have tl:q ∈ j5 E (k+1) ms xs->(∃ y ∈ x::xs,q.2.2.1 ∈ lks (val E y))/\q.2.2.1 ∈ mW E ms xs:=fun h=>by
    obtain⟨⟨y,h1,h2⟩,h3⟩:=ih xs (k+1) q h;exact⟨⟨y,by simp[h1],h2⟩,h3⟩
   cases md with
   | p=>
    simp only[j5,lL] at hq;rcases hq with hq | hq
    ·have hm:q.2.2.1 ∈ lks (val E x):=by
      generalize val E x=a at hq;cases a with
      | lnk r e p=>
       simp only[qQ] at hq;split at hq
       ·simp only[lH1] at hq; subst hq; simp[lks]
       ·simp at hq
      | agg cs=>simp only[qQ] at hq; simp only[lks]; exact alB k cs 0 q hq
      | _=>simp[qQ] at hq
     exact⟨⟨x,by simp,hm⟩,by simp[mW,gW,hm]⟩
    ·obtain⟨h1,h2⟩:=tl hq; exact⟨h1,by simp[mW,h2]⟩
   | b=>simp only[j5] at hq; obtain⟨h1,h2⟩:=tl hq; exact⟨h1,by simpa [mW] using h2⟩
   | l=>simp only[j5] at hq; obtain⟨h1,h2⟩:=tl hq; exact⟨h1,by simp[mW,h2]⟩
   | m=>simp only[j5] at hq; obtain⟨h1,h2⟩:=tl hq; exact⟨h1,by simp[mW,h2]⟩
theorem aob {r:Nat} {p:bA} {u:AV} (h:S r=false):aaG (mg S A E) r p u=mg S A (aaG E r p u):=by
 unfold aaG;split
 ·exact aO h
 ·rw[tL h]; exact uG h
theorem alC:∀ (l:List Plc) (E:Env) (os:List AV),(∀ q ∈ l,S q.2.2.1=false)->mT (mg S A E) os l=(mT E os l).map (mg S A):=by
 intro l;induction l with
 | nil=>intro E os _; rfl
 | cons q l ih=>
  obtain⟨k,j,r,p⟩:=q;intro E os h;have hr:=h (k,j,r,p) A8;simp only at hr;simp only[mT];cases aaI os k j with
  | none=>rfl
  | some g=>
   simp only[lE]; rw[tL hr];split
   ·rw[aob hr,ih _ _ fun q hq=>h q (by simp[hq])]
   ·rfl
theorem alD {ln:Option (Nat × Nat × bA)} {pls:List Plc} {outs:List AV} (h:∀ q,ln=some q->S q.2.1=false) (h':∀ q ∈ pls,S q.2.2.1=false) :
  mM (mg S A E) ln pls outs=(mM E ln pls outs).map (mg S A):=by
 cases ln with
 | some q=>exact alA h
 | none=>
  simp only[mM];have:(pls.all fun q=>isU (b9 ((mg S A E).f q.2.2.1) q.2.2.2))=pls.all fun q=>isU (b9 (E.f q.2.2.1) q.2.2.2):=by
   rw[lX3,lP,lP];constructor
   ·intro k q hq; rw[<-tL (A:=A) (E:=E) (h' q hq)]; exact k q hq
   ·intro k q hq; rw[tL (h' q hq)]; exact k q hq
  simp only[this];split
  ·exact alC pls E outs h'
  ·rfl
theorem aqG {r:Nat} {p:bA} {u:AV} {t:Nat} (h:t≠r):SameAt E (aaG E r p u) t:=by
 unfold aaG; split
 ·exact wP h
 ·exact apv h
theorem agw:∀ (l:List Plc) (E:Env) (os:List AV) {E':Env} {t:Nat},(∀ q ∈ l,t≠q.2.2.1)->mT E os l=some E'->SameAt E E' t:=by
 intro l;induction l with
 | nil=>intro E os E' t _ h; simp only[mT,Option.some.injEq] at h; subst h; exact SameAt.rfl'
 | cons q l ih=>
  obtain⟨k,j,r,p⟩:=q;intro E os E' t ht h;simp only[mT] at h;obtain⟨g,_,h⟩:=bind_some h;obtain⟨_,h⟩:=aC h;exact(aqG (ht (k,j,r,p) A8)).trans (ih _ _ (fun q hq=>ht q (by simp[hq])) h)
theorem zF {d:Option Nat} {x:AV} (h:∀ q ∈ d.toList,S q=false):mF (mg S A E) d x=mg S A (mF E d x):=by
 cases d with
 | none=>rfl
 | some d=>exact aO (h d A8)
theorem ae4 {d:Option Nat} {f:Nat} {xs:List O} {ms:List M} (hd:∀ q ∈ d.toList,S q=false) (h1:∀ x ∈ xs,y9 S x) (h2:∀ x ∈ xs,clr S (val E x))
  (h:fE P d f xs ms (fun E1=>E1=E') E):fE P d f xs ms (fun E1=>E1=mg S A E') (mg S A E):=by
 obtain⟨pr,hp,ret,outs,hS,hx,E1,hb,rfl⟩:=h;obtain⟨hs,_,hr⟩:=aa3 hp;refine⟨mq S A pr,by rw[an7 ms xs h1 h2,hp]; rfl,ret,outs,hS,?_,mg S A E1,?_,?_⟩
 ·rcases hx with hx | hx
  ·exact .inl hx
  ·right;show gA (mg S A pr.2.1) ms xs=true;rw[alz ms xs h1]; exact hx
 ·show mM (mg S A pr.2.1) pr.2.2 (j5 (mg S A E) 0 ms xs) outs=some (mg S A E1);rw[aoa ms xs 0 h1 h2,alD,hb]
  ·rfl
  ·intro q hq;obtain⟨⟨x,k1,k2⟩,_⟩:=hr q hq;exact h2 x k1 _ k2
  ·intro q hq;obtain⟨⟨x,k1,k2⟩,_⟩:=ae3 ms xs 0 q hq;exact h2 x k1 _ k2
 ·exact zF hd
theorem xI {d:Option Nat} {f:Nat} {xs:List O} {ms:List M} (ht:t ∉ d.toList++mW E ms xs) (h:fE P d f xs ms (fun E1=>E1=E') E):SameAt E E' t:=by
 obtain⟨pr,hp,ret,outs,hS,hx,E1,hb,rfl⟩:=h;obtain⟨hs,hsm,hr⟩:=aa3 hp;simp only[lL,not_or] at ht;have s1:=hsm t ht.2;have s2:SameAt pr.2.1 E1 t:=by
  generalize hq:pr.2.2=ln at hb hr;cases ln with
  | none=>
   simp only[mM] at hb;obtain⟨_,hb⟩:=aC hb;exact agw _ _ _ (fun q hq e=>ht.2 (by rw[e]; exact(ae3 ms xs 0 q hq).2)) hb
  | some q=>
   obtain⟨k,r,p⟩:=q;simp only[mM,aaH] at hb;obtain⟨o,_,hb⟩:=bind_some hb;obtain⟨_,hb⟩:=aC hb;cases hb;refine apv ?_;intro e;exact ht.2 (by rw[e]; exact(hr _ rfl).2)
 refine(s1.trans s2).trans ?_;cases d with
 | none=>exact SameAt.rfl'
 | some d=>exact wP (by simpa using ht.1)
theorem apM {cs ds:List AV} {a:AV} (h:clr S a):trC (mg S A E) cs ds a=trC E cs ds a:=by
 cases a with
 | lnk r e p=>
  have hr:S r=false:=h r B4;simp only[trC,trF,aiF hr]
 | _=>rfl
theorem apN {cs ds:List AV}:∀ {l:List AV},an4 S l->trL (mg S A E) cs ds l=trL E cs ds l:=by
 intro l;induction l with
 | nil=>intro _; rfl
 | cons a l ih=>
  intro h;obtain⟨h1,h2⟩:=mZ h;simp only[trL];rw[apM h1,ih h2]
theorem alE {d:Option Nat} {f:Nat} {x y:O} (hd:∀ q ∈ d.toList,S q=false) (h1:y9 S x) (h2:y9 S y) (c1:clr S (val E x)) (c2:clr S (val E y))
  (h:oM P d f x y (fun E1=>E1=E') E):oM P d f x y (fun E1=>E1=mg S A E') (mg S A E):=by
 unfold oM at h ⊢;rw[aZ h1,aZ h2,l4 h1 c1];unfold rS at h;split at h
 ·rename_i cs ds cs' E1 e1 e2 e3;obtain⟨k1,ret,outs,k2,k3,rfl⟩:=h;rw[e1,e2,e3];refine⟨k1,ret,outs,?_,k3,zF hd⟩;rw[apN (show an4 S ds by rw[e2] at c2; exact c2)];exact k2
 ·exact h.elim
theorem agx {d:Option Nat} {f:Nat} {x y:O} (ht:t ∉ d.toList++gW E x) (h:oM P d f x y (fun E1=>E1=E') E):SameAt E E' t:=by
 unfold oM rS at h;split at h
 ·rename_i cs ds cs' E1 e1 e2 e3;obtain⟨k1,ret,outs,k2,k3,rfl⟩:=h;simp only[lL,not_or] at ht;refine(gH e3 ht.2).trans ?_;cases d with
  | none=>exact SameAt.rfl'
  | some d=>exact wP (by simpa using ht.1)
 ·exact h.elim
theorem apO:∀ (ms:List M) (xs:List O) (cs:List AV),ms.length=xs.length->t ∉ mW E ms xs->t ∉ mW E (ms++cs.map fun _=>M.b) (xs++cs.map .c):=by
 intro ms;induction ms with
 | nil=>
  intro xs cs hl _;cases xs with
  | nil=>
   simp only[lI1];induction cs with
   | nil=>simp[mW]
   | cons c cs ih=>simpa [mW] using ih
  | cons x xs=>simp at hl
 | cons md ms ih=>
  intro xs cs hl ht;cases xs with
  | nil=>simp at hl
  | cons x xs=>
   have hl':ms.length=xs.length:=by simpa using hl
   cases md with
   | m=>simp only[lD2,mW,lL,not_or] at ht ⊢; exact⟨ht.1,ih xs cs hl' ht.2⟩
   | p=>simp only[lD2,mW,lL,not_or] at ht ⊢; exact⟨ht.1,ih xs cs hl' ht.2⟩
   | b=>simp only[lD2,mW] at ht ⊢; exact ih xs cs hl' ht
   | l=>simp only[lD2,mW,lL,not_or] at ht ⊢; exact⟨ht.1,ih xs cs hl' ht.2⟩
theorem alF (i:I) {ms:List M} (ht:∀ t ∈ aE E i,S t=false) (h:l0 P i ms E E'):l0 P i ms (mg S A E) (mg S A E'):=by
 have ho:∀ x ∈ i.opds,y9 S x:=fun x hx t hm=>ht t (by simp only[aE,lL,lH4]; exact .inl (.inl ⟨x,hx,hm⟩))
 have hd:∀ d ∈ i.dsts,S d=false:=fun d hm=>ht d (by simp only[aE,lL]; exact .inl (.inr hm))
 have hc:∀ x ∈ i.der,clr S (val E x):=fun x hx r hr=>ht r (by simp only[aE,lL,lH4]; exact .inr ⟨x,hx,hr⟩)
 have std:ev E i=some E'->ev (mg S A E) i=some (mg S A E'):=fun h=>by rw[aqw i ho hd hc,h]; rfl
 cases i with
 | call d f xs=>
  have hd':∀ q ∈ d.toList,S q=false:=fun q hq=>hd q (by
   cases d with
   | none=>simp at hq
   | some d=>simpa [I.dsts] using hq)
  rcases h with h | ⟨x,y,rfl,rfl,h⟩
  ·exact .inl (ae4 hd' ho hc h)
  ·exact .inr ⟨x,y,rfl,rfl,alE hd' (ho x A9) (ho y A9) (hc x B6) (hc y B6) h⟩
 | callv d x xs=>
  have hx:=ho x A9;have hcx:=hc x B6;simp only[l0] at h ⊢;rw[aZ hx];generalize hz:val E x=z at h hcx ⊢;cases z with
  | fn f caps=>
   obtain⟨h1,h2,h3⟩:=h;refine⟨h1,h2,ae4 (fun q hq=>hd q ?_) ?_ ?_ h3⟩
   ·cases d with
    | none=>simp at hq
    | some d=>simpa [I.dsts] using hq
   ·intro y hy;rcases lL.1 hy with hy | hy
    ·exact ho y D7
    ·obtain⟨c,_,rfl⟩:=lV2.1 hy;intro t ht; simp[O.tmp] at ht
   ·intro y hy;rcases lL.1 hy with hy | hy
    ·exact hc y (by simp[I.der,hy])
    ·obtain⟨c,hcm,rfl⟩:=lV2.1 hy;exact fun r hr=>hcx r (by simp only[lks]; exact ae1 hcm r hr)
  | _=>exact h.elim
 | _=>exact std h
theorem xJ (i:I) {ms:List M} (h:l0 P i ms E E') (ht:t ∉ wrI E ms i):SameAt E E' t:=by
 cases i with
 | call d f xs=>
  rcases h with h | ⟨x,y,rfl,rfl,h⟩
  ·exact xI ht h
  ·exact agx (by simpa [wrI,mW] using ht) h
 | callv d x xs=>
  simp only[l0] at h;simp only[wrI,lL,not_or] at ht;generalize hz:val E x=z at h;cases z with
  | fn f caps=>
   obtain⟨h1,h2,h3⟩:=h;exact xI (by simp only[lL,not_or]; exact⟨ht.1,apO ms xs caps h1 ht.2⟩) h3
  | _=>exact h.elim
 | _=>exact an6 _ h ht
theorem aoc (i:I) {ms:List M} {K:Env->Prop} (h:l0 P i ms E E') (hK:K E'):qR P i K E:=by
 have mono:∀ {d f xs ms},fE P d f xs ms (fun E1=>E1=E') E->fE P d f xs ms K E:=by
  rintro d f xs ms ⟨pr,hp,ret,outs,hS,hx,E1,hb,rfl⟩;exact⟨pr,hp,ret,outs,hS,hx,E1,hb,hK⟩
 cases i with
 | call d f xs=>
  rcases h with h | ⟨x,y,h1,h2,h⟩
  ·exact .inl ⟨[],ms,mono h⟩
  ·exact .inr ⟨ms,x,y,h1,h2,iS (fun E1 (e:E1=E')=>e ▸ hK) h⟩
 | callv d x xs=>
  simp only[l0] at h;simp only[qR];split at h
  ·rename_i f caps hz
   try rw[hz]
   obtain⟨h1,h2,h3⟩:=h;exact⟨ms,h1,h2,mono h3⟩
  ·exact h.elim
 | _=>exact⟨E',h,hK⟩
theorem aod (i:I) {K:List M->Env->Prop} (h:wQ P i K E):∃ ms E',l0 P i ms E E'/\K ms E':=by
 have sp:∀ {d f xs ms K},fE P d f xs ms K E->∃ E',fE P d f xs ms (fun E1=>E1=E') E/\K E':=by
  rintro d f xs ms K ⟨pr,hp,ret,outs,hS,hx,E1,hb,hK⟩;exact⟨_,⟨pr,hp,ret,outs,hS,hx,E1,hb,rfl⟩,hK⟩
 cases i with
 | call d f xs=>
  obtain⟨ms,h | ⟨x,y,k1,k2,h⟩⟩:=h
  ·obtain⟨E',h1,h2⟩:=sp h;exact⟨ms,E',.inl h1,h2⟩
  ·obtain⟨E',h1,h2⟩:=oN h;exact⟨ms,E',.inr ⟨x,y,k1,k2,h1⟩,h2⟩
 | callv d x xs=>
  simp only[wQ] at h;split at h
  ·rename_i f caps hz;obtain⟨ms,h1,h2,h3⟩:=h;obtain⟨E',h4,h5⟩:=sp h3;refine⟨ms,E',?_,h5⟩;simp only[l0]
   try rw[hz]
   exact⟨h1,h2,h4⟩
  ·exact h.elim
 | _=>obtain⟨E',h1,h2⟩:=h; exact⟨[],E',h1,h2⟩
theorem alG (i:I) (ht:∀ t ∈ aE E i,S t=false):aE (mg S A E) i=aE E i:=by
 unfold aE;congr 1;have ho:∀ x ∈ i.opds,y9 S x:=fun x hx t hm=>ht t (by simp only[aE,lL,lH4]; exact .inl (.inl ⟨x,hx,hm⟩))
 have iu:∀ x ∈ i.der,x ∈ i.opds:=by
  intro x hx;cases i <;> first | exact hx | (simp[I.der] at hx; done) | (simp only[I.der,I.opds,lN,List.not_mem_nil,or_false] at hx ⊢; simp[hx])
 have key:∀ l:List O,(∀ x ∈ l,x ∈ i.opds)->(l.flatMap fun x=>lks (val (mg S A E) x))=l.flatMap fun x=>lks (val E x):=by
  intro l;induction l with
  | nil=>intro _; rfl
  | cons x l ih=>
   intro hl;simp only[List.flatMap_cons];rw[ih fun y hy=>hl y B8,aZ (ho x (hl x A8))]
 exact key i.der iu
end
section
variable {P:Program} {w w':World} {B:Base} {hid hv:Nat->Value} {a:Act} {E:Env} {Fs Xs:Nat->aH} {FP XP:aH} {Q:Exit->Act->World->Prop} {o:Oper}
theorem ac4 (R:Rel B hid w a E Fs Xs) {r e:Nat} {p:bA} {s:Nat} {es:List (List TV)} (hn:aK E r e p=some (s,es)) :
  ∃ hd G,Row w true G [hd] [.sl s es]/\aM w (aI a.tmps hid) E r e p=some (some hd)/\∀ b,G b<=Fs r b:=by
 obtain⟨he,af,hg⟩:=bR hn;obtain⟨hd,Fu,Fr,Xu,Xr,hF,hX,hu,ai,_⟩:=j7 p (R.rep r) hg;exact⟨hd,Fu,(RepA.to_row hu rfl).1,by unfold aM; rw[if_neg A7,if_pos ⟨he,af,by rw[hg]; rfl⟩,ai],fun b=>by have:=hF b; omega⟩
theorem alH {lk:Lk} {F X:aH} {us:List Value} {cs:List AV} (h:RepA w lk F X us cs):∀ {ts:List TV},acG cs=some ts->∃ Y,Row w false Y us ts/\∀ b,Y b<=F b+X b:=by
 induction h with
 | nil F X hF hX=>intro ts e; simp[acG] at e; subst e; exact⟨fun _=>0,.nil _ _ fun _=>rfl,fun b=>lP3 _⟩
 | undef F X v vs as h ih=>
  intro ts e; simp only[acG,tvB,lE] at e;obtain⟨t',h1,rfl⟩:=map_some e;obtain⟨Y,y1,y2⟩:=ih h1;exact⟨Y,.undef _ _ _ _ _ y1,y2⟩
 | bool F X v vs as h ih=>
  intro ts e; simp only[acG,tvB,lE] at e;obtain⟨t',h1,rfl⟩:=map_some e;obtain⟨Y,y1,y2⟩:=ih h1;exact⟨Y,.bool _ _ _ _ _ y1,y2⟩
 | int F X k n vs as h ih=>
  intro ts e; simp only[acG,tvB,lE] at e;obtain⟨t',h1,rfl⟩:=map_some e;obtain⟨Y,y1,y2⟩:=ih h1;exact⟨Y,.int _ _ _ _ _ _ y1,y2⟩
 | str F X s vs as h ih=>
  intro ts e; simp only[acG,tvB,lE] at e;obtain⟨t',h1,rfl⟩:=map_some e;obtain⟨Y,y1,y2⟩:=ih h1;exact⟨Y,.str _ _ _ _ _ y1,y2⟩
 | own F F1 F2 X s es v vs as h1 h hF ih=>
  intro ts e; simp only[acG,tvB,lE] at e;obtain⟨t',h2,rfl⟩:=map_some e;obtain⟨Y,y1,y2⟩:=ih h2;obtain⟨G,g1,g2⟩:=Row.weak h1 rfl;exact⟨fun b=>G b+Y b,Row.cons g1 y1 (fun _=>rfl),fun b=>by have:=g2 b; have:=y2 b; have:=hF b; (try dsimp only); omega⟩
 | ext F X X1 X2 s es v vs as h1 h hX ih=>
  intro ts e; simp only[acG,tvB,lE] at e;obtain⟨t',h2,rfl⟩:=map_some e;obtain⟨Y,y1,y2⟩:=ih h2;exact⟨fun b=>X1 b+Y b,Row.cons h1 y1 (fun _=>rfl),fun b=>by have:=y2 b; have:=hX b; (try dsimp only); omega⟩
 | extv F X X1 X2 s es v vs as h1 h hX ih=>
  intro ts e; simp only[acG,tvB,lE] at e;obtain⟨t',h2,rfl⟩:=map_some e;obtain⟨Y,y1,y2⟩:=ih h2;exact⟨fun b=>X1 b+Y b,Row.cons h1 y1 (fun _=>rfl),fun b=>by have:=y2 b; have:=hX b; (try dsimp only); omega⟩
 | _=>intro ts e; simp[acG,tvB] at e
theorem Row.drop {lo:Bool} {F:aH} {us:List Value} {ts:List TV} (h:Row w lo F us ts) (j:Nat):∃ G,Row w lo G (us.drop j) (ts.drop j)/\∀ b,G b<=F b:=by
 have h':Row w lo F (us.take j++us.drop j) (ts.take j++ts.drop j):=by simpa using h
 obtain⟨G1,G2,g1,g2,e⟩:=Row.split _ _ (by simp[h.length]) h';exact⟨G2,g2,fun b=>by have:=e b; omega⟩
theorem aiJ {lk:Lk} {F X:aH} {ad:Addr} {row:List TV} (h:RepA w lk F X [.pointer (some ad)] [.xbox row]) (j:Nat) :
  ∃ Y,RepA w lk (fun _=>0) Y [.pointer (some (ad.add j))] [.xbox (row.drop j)]/\∀ b,Y b<=X b:=by
 cases h with
 | xbox _ _ X1 X2 _ us _ _ _ hc h1 h hX=>
  obtain⟨G,g1,g2⟩:=Row.drop h1 j;refine⟨fun x=>(if x=ad.block then 1 else 0)+G x,.xbox _ _ G (fun _=>0) (ad.add j) (us.drop j) _ _ _ ?_ g1 RepA.znil (fun x=>by rw[i3]; simp),fun b=>by have:=g2 b; have:=hX b; (try dsimp only); omega⟩;intro k hk;rw[lK1] at hk;rw[i6,hc (j+k) A7,lY]
def aa4 (Fs Xs:Nat->aH) (lr:Option Nat) (F X Y:aH):Prop:=∀ b,Y b≠0->X b≠0\/F b≠0\/∃ t,some t≠lr/\(Fs t b≠0\/Xs t b≠0)
theorem aiK (R:Rel B hid w a E Fs Xs) (lr:Option Nat) (lk':Lk) {F X:aH} {vs:List Value} {xs:List AV} (h:RepA w (aM w (aI a.tmps hid) E) F X vs xs) :
  ∀ {xs':List AV},o9 E lr xs=some xs'->∃ Y,RepA w lk' (fun _=>0) Y vs xs'/\aa4 Fs Xs lr F X Y/\(oB xs=true->∀ b,Y b≠0->X b≠0):=by
 have base:∀ {F X:aH} {vs:List Value} {as xs':List AV} {a1:AV} {v:Value} (z:AV),brw E lr a1=some z->jV a1=true ->
   (∀ {xs':List AV},o9 E lr as=some xs'->∃ Y,RepA w lk' (fun _=>0) Y vs xs'/\aa4 Fs Xs lr F X Y/\(oB as=true->∀ b,Y b≠0->X b≠0)) ->
   (∀ Y l,RepA w lk' (fun _=>0) Y vs l->RepA w lk' (fun _=>0) Y (v::vs) (z::l)) ->
   o9 E lr (a1::as)=some xs'->∃ Y,RepA w lk' (fun _=>0) Y (v::vs) xs'/\aa4 Fs Xs lr F X Y/\(oB (a1::as)=true->∀ b,Y b≠0->X b≠0):=by
  intro F X vs as xs' a1 v z hz hp ih mk e;simp only[o9,hz,lE] at e;obtain⟨l,h1,rfl⟩:=map_some e;obtain⟨Y,y1,y2,y3⟩:=ih h1;exact⟨Y,mk Y l y1,y2,fun hq=>y3 (by simpa [oB,hp] using hq)⟩
 have two:∀ {F X F2 X2:aH} {vs:List Value} {as xs':List AV} {a1:AV} {v:Value} (z:AV) (Y1:aH),brw E lr a1=some z->RepA w lk' (fun _=>0) Y1 [v] [z] ->
   (∀ b,Y1 b≠0->X b≠0\/F b≠0\/∃ t,some t≠lr/\(Fs t b≠0\/Xs t b≠0))->(jV a1=true->∀ b,Y1 b≠0->X b≠0)->(∀ b,F2 b<=F b)->(∀ b,X2 b<=X b) ->
   (∀ {xs':List AV},o9 E lr as=some xs'->∃ Y,RepA w lk' (fun _=>0) Y vs xs'/\aa4 Fs Xs lr F2 X2 Y/\(oB as=true->∀ b,Y b≠0->X2 b≠0)) ->
   o9 E lr (a1::as)=some xs'->∃ Y,RepA w lk' (fun _=>0) Y (v::vs) xs'/\aa4 Fs Xs lr F X Y/\(oB (a1::as)=true->∀ b,Y b≠0->X b≠0):=by
  intro F X F2 X2 vs as xs' a1 v z Y1 hz hr hY hpu hF hX ih e;simp only[o9,hz,lE] at e;obtain⟨l,h1,rfl⟩:=map_some e;obtain⟨Y,y1,y2,y3⟩:=ih h1;refine⟨fun b=>Y1 b+Y b,RepA.cons hr y1 (fun b=>rfl) (fun b=>rfl),?_,?_⟩
  ·intro b hb;by_cases e1:Y1 b=0
   ·rcases y2 b (by (try dsimp only at hb); omega) with h | h | h
    ·left; have:=hX b; omega
    ·right; left; have:=hF b; omega
    ·exact .inr (.inr h)
   ·exact hY b e1
  ·intro hq b hb;simp only[oB,lM] at hq;by_cases e1:Y1 b=0
   ·have:=y3 hq.2 b (by (try dsimp only at hb); omega); have:=hX b; omega
   ·exact hpu hq.1 b e1
 induction h with
 | nil F X hF hX=>intro xs' e; simp[o9] at e; subst e; exact⟨fun _=>0,RepA.znil,fun b hb=>absurd rfl hb,fun _ b hb=>absurd rfl hb⟩
 | undef F X v vs as h ih=>intro xs' e; exact base .undef rfl rfl ih (fun Y l h=>.undef _ _ _ _ _ h) e
 | bool F X v vs as h ih=>intro xs' e; exact base (.bool v) rfl rfl ih (fun Y l h=>.bool _ _ _ _ _ h) e
 | int F X k n vs as h ih=>intro xs' e; exact base (.int k n) rfl rfl ih (fun Y l h=>.int _ _ _ _ _ _ h) e
 | str F X s vs as h ih=>intro xs' e; exact base (.str s) rfl rfl ih (fun Y l h=>.str _ _ _ _ _ h) e
 | own F F1 F2 X s es v vs as h1 h hF ih=>
  intro xs' e;obtain⟨G,g1,g2⟩:=Row.weak h1 rfl;exact two (.ext s es) G rfl (.ext _ _ G (fun _=>0) s es _ _ _ g1 RepA.znil (fun _=>by omega)) (fun b hb=>.inr (.inl (by have:=g2 b; have:=hF b; omega))) (fun hp=>by cases hp)
   (fun b=>by have:=hF b; omega) (fun b=>lE1 _) ih e
 | ext F X X1 X2 s es v vs as h1 h hX ih=>
  intro xs' e;exact two (.ext s es) X1 rfl (.ext _ _ X1 (fun _=>0) s es _ _ _ h1 RepA.znil (fun _=>by omega)) (fun b hb=>.inl (by have:=hX b; omega)) (fun hp b hb=>by have:=hX b; omega)
   (fun b=>lE1 _) (fun b=>by have:=hX b; omega) ih e
 | extv F X X1 X2 s es v vs as h1 h hX ih=>
  intro xs' e;exact two (.extv v s es) X1 rfl (.extv _ _ X1 (fun _=>0) s es _ _ _ h1 RepA.znil (fun _=>by omega)) (fun b hb=>.inl (by have:=hX b; omega)) (fun hp b hb=>by have:=hX b; omega)
   (fun b=>lE1 _) (fun b=>by have:=hX b; omega) ih e
 | box F F1 F2 X X1 X2 b C ty fr cs vs as hb hfr h1 h hF hX ih1 ih=>intro xs' e; simp[o9,brw] at e
 | tup F F1 F2 X X1 X2 us cs vs as h1 h hF hX ih1 ih=>intro xs' e; simp[o9,brw] at e
 | xbox F X X1 X2 ad us cs vs as hc h1 h hX ih=>
  intro xs' e;exact two (.xbox cs) (fun x=>(if x=ad.block then 1 else 0)+X1 x) rfl (.xbox _ _ X1 (fun _=>0) ad us cs _ _ hc h1 RepA.znil (fun _=>by omega)) (fun b hb=>.inl (by have:=hX b; (try dsimp only at hb); omega))
   (fun hp b hb=>by have:=hX b; (try dsimp only at hb); omega) (fun b=>Nat.le_refl _) (fun b=>by have:=hX b; omega) ih e
 | agg F F1 F2 X X1 X2 us cs vs as h1 h hF hX ih1 ih=>
  intro xs' e;have e0:=e;simp only[o9,brw] at e;obtain⟨z,hz,_⟩:=bind_some e;obtain⟨cs',hcs,rfl⟩:=map_some hz;obtain⟨Y1,y1,y2,y3⟩:=ih1 hcs;refine two (.agg cs') Y1 (by simp only[brw,hcs]; rfl) (.agg _ (fun _=>0) (fun _=>0) _ Y1 (fun _=>0) us cs' _ _ y1 RepA.znil (fun _=>rfl) (fun _=>by omega)) (fun b hb=>?_) (fun hp b hb=>?_)
   (fun b=>by have:=hF b; omega) (fun b=>by have:=hX b; omega) ih e0
  ·rcases y2 b hb with h | h | h
   ·left; have:=hX b; omega
   ·right; left; have:=hF b; omega
   ·exact .inr (.inr h)
  ·have:=y3 hp b hb; have:=hX b; omega
 | fn F F1 F2 X X1 X2 f us cs vs as h1 h hF hX ih1 ih=>
  intro xs' e;have e0:=e;simp only[o9,brw] at e;obtain⟨z,hz,_⟩:=bind_some e;obtain⟨cs',hcs,rfl⟩:=map_some hz;obtain⟨Y1,y1,y2,y3⟩:=ih1 hcs;refine two (.fn f cs') Y1 (by simp only[brw,hcs]; rfl) (.fn _ (fun _=>0) (fun _=>0) _ Y1 (fun _=>0) f us cs' _ _ y1 RepA.znil (fun _=>rfl) (fun _=>by omega)) (fun b hb=>?_) (fun hp b hb=>?_)
   (fun b=>by have:=hF b; omega) (fun b=>by have:=hX b; omega) ih e0
  ·rcases y2 b hb with h | h | h
   ·left; have:=hX b; omega
   ·right; left; have:=hF b; omega
   ·exact .inr (.inr h)
  ·have:=y3 hp b hb; have:=hX b; omega
 | lnk F X r e p o v vs as ho hv h ih=>
  intro xs' e1;have e0:=e1;simp only[o9,brw] at e1;obtain⟨z,hz,_⟩:=bind_some e1;have dl:=hz;split at hz
  ·cases hz
  rename_i hr;obtain⟨⟨s,es⟩,hn,rfl⟩:=map_some hz;obtain⟨hd,G,ak,ay,hG⟩:=ac4 R hn;rw[ay] at ho; cases ho;have:=hv hd rfl;subst this;obtain⟨G',g1,g2⟩:=Row.weak ak rfl;exact two (.ext s es) G' C6 (.ext _ _ G' (fun _=>0) s es _ _ _ g1 RepA.znil (fun _=>by omega)) (fun b hb=>.inr (.inr ⟨r,hr,.inl (by have:=g2 b; have:=hG b; omega)⟩)) (fun hp=>by cases hp)
   (fun b=>lE1 _) (fun b=>lE1 _) ih e0
 | sub F X r e p s lo n o v vs as ho hv h ih=>
  intro xs' e1;have e0:=e1;simp only[o9,brw] at e1;obtain⟨z,hz,_⟩:=bind_some e1;have dl:=hz;split at hz
  ·cases hz
  rename_i hr;obtain⟨⟨s',es⟩,hn,hz⟩:=bind_some hz;obtain⟨⟨hs,hle⟩,hz⟩:=aC hz;cases hz;obtain⟨hd,G,ak,ay,hG⟩:=ac4 R hn;rw[ay] at ho; cases ho;obtain⟨base,len,cap,a',rfl,rfl,_,ha⟩:=hv hd rfl;have hs':s'=s:=hs;subst hs';obtain⟨G1,k1,k2⟩:=Row.cut ak lo n hle a' base len cap rfl ha;obtain⟨G',g1,g2⟩:=Row.weak k1 rfl;exact two (.ext s' ((es.drop lo).take n)) G' C6 (.ext _ _ G' (fun _=>0) s' _ _ _ _ g1 RepA.znil (fun _=>by omega)) (fun b hb=>.inr (.inr ⟨r,hr,.inl (by have:=g2 b; have:=hG b; have:=k2 b; omega)⟩)) (fun hp=>by cases hp)
   (fun b=>lE1 _) (fun b=>lE1 _) ih e0
 | ref F X r e p st o v vs as ho hv h ih=>
  intro xs' e1;have e0:=e1;simp only[o9,brw] at e1;obtain⟨z,hz,_⟩:=bind_some e1;have dl:=hz;split at hz
  ·cases hz
  rename_i hr;split at hz
  ·rename_i cs he af hg;obtain⟨⟨cj,hj⟩,hz⟩:=aC hz;obtain⟨ts,hts,rfl⟩:=map_some hz;have he':e=fX (E.ep r) p:=by simpa using he
   obtain⟨hd,Fu,Fr,Xu,Xr,hF,hX,hu,ai,_⟩:=j7 p (R.rep r) hg;have ay:aM w (aI a.tmps hid) E r e p=some (some hd):=by unfold aM; rw[if_neg A7,if_pos ⟨he',af,by rw[hg]; rfl⟩,ai]
   rw[ay] at ho; cases ho;obtain⟨ad,ir,rfl⟩:=hv hd rfl;cases hu with
   | box _ F1 F2 _ X1 X2 b C ty fr _ _ _ hb hfr h1 h2 ki eu=>
    cases ir;rw[cj,lQ4,lL2,gS,lL2];obtain⟨G,Y,q,hG,hY⟩:=h1.part st.j (C.toList.length-st.j);rw[lW1 A8,lW1 (by have:=h1.length; simp at this ⊢; omega)] at q;obtain⟨Z,z1,z2⟩:=alH q hts;have jm:Fs r b≠0:=by have:=hF b; have:=ki b; simp at this; omega
    refine two (.xbox ts) (fun x=>(if x=b then 1 else 0)+Z x) C6 (.xbox _ _ Z (fun _=>0) ⟨b,st.j,none⟩ (C.toList.drop st.j) ts _ _ ?_ z1 RepA.znil (fun _=>by simp)) (fun b' hb'=>.inr (.inr ⟨r,hr,?_⟩)) (fun hp=>by cases hp)
     (fun b=>lE1 _) (fun b=>lE1 _) ih e0
    ·intro k hk;rw[gS,lY,lR1];simp[World.cell?,hb]
    ·by_cases e2:b'=b
     ·subst e2; exact .inl jm
     ·simp only[e2,lN1,lL2] at hb';have:=z2 b'; have:=hG b'; have:=hY b'; have:=ki b'; have:=eu b'; have:=hF b'; have:=hX b';by_cases e3:G b'=0
      ·right; omega
      ·left; omega
  ·rename_i s es he af hg;obtain⟨⟨hs,hj⟩,hz⟩:=aC hz;obtain⟨row,ak,rfl⟩:=map_some hz;have he':e=fX (E.ep r) p:=by simpa using he
   obtain⟨hd,G,hrw,ay,hG⟩:=ac4 R (r:=r) (e:=e) (p:=p) (s:=s) (es:=es) (by unfold aK; rw[if_pos he',af,hg]);rw[ay] at ho; cases ho;obtain⟨ad,ir,rfl⟩:=hv hd rfl;obtain⟨G',g1,g2⟩:=Row.weak hrw rfl;obtain⟨ad',cap,X',k1,k2,k3⟩:=pI (lk:=lk') g1 ak;subst k1;cases ir;obtain⟨X2,q1,q2⟩:=aiJ k2 st.j;have hss:st.s=s:=hs;rw[hss,<-i6];exact two (.xbox (row.drop st.j)) X2 C6 q1 (fun b hb=>.inr (.inr ⟨r,hr,.inl (by have:=q2 b; have:=k3 b; have:=g2 b; have:=hG b; omega)⟩)) (fun hp=>by cases hp)
    (fun b=>lE1 _) (fun b=>lE1 _) ih e0
  ·cases hz
theorem PR.turn0 {vs vs':List Value} {xs xs':List AV} (P1:PR B hid w a E Fs Xs FP XP vs xs) (iv:Grows w w')
  (bm:∀ b,b<w.heap.size->FP b=0->w'.heap[b]?=w.heap[b]?)
  (hw:∀ lk':Lk,∃ FP' XP',(∀ b,FP' b<=1)/\(∀ b,FP' b≠0->FP b≠0\/w.heap.size<=b) /\
   (∀ b,XP' b≠0->FP' b=0/\b<w'.heap.size/\(FP b≠0\/w.heap.size<=b\/(∃ t,Xs t b≠0)\/XP b≠0))/\RepA w' lk' FP' XP' vs' xs') :
  ∃ FP' XP',PR B hid w' a E Fs Xs FP' XP' vs' xs':=by
 have R:=P1.rel;have kt:=iv.size;have samF:∀ t,j6 w w' (Fs t):=fun t b hb=>bm b ((R.rep t).lt b hb) (by have:=P1.dis t b; omega)
 have samX:∀ t,j6 w w' (Xs t):=fun t b hb=>bm b (R.ltx t b hb) (by have:=P1.dx1 t b; omega)
 obtain⟨FP',XP',h1,h2,h3,h4⟩:=hw (aM w' (aI a.tmps hid) E);have ltF:∀ t b,Fs t b≠0->b<w.heap.size:=fun t b hb=>(R.rep t).lt b hb
 refine⟨FP',XP',?_,h4,h1,?_,?_,?_,?_,?_,?_⟩
 ·refine R.change (fun _=>False) R.size R.dfr (fun t _=>⟨rfl,rfl,rfl,rfl,rfl,samF t,samX t⟩) (fun _ h=>h.elim) (fun _ _ h=>h.elim) (fun _ h=>h.elim) (fun _ h=>h.elim) (fun _ h=>h.elim)
   (fun _ h=>h.elim) iv ?_ (fun _ h=>h.elim) (fun _ h=>h.elim)
  intro b hb h0;refine bm b (lJ4 hb R.grow.size) ?_;by_cases e:FP b=0
  ·exact e
  ·have:=P1.org b e; omega
 ·intro t b;by_cases e:FP' b=0
  ·exact .inl e
  ·right;rcases h2 b e with h | h
   ·have:=P1.dis t b; omega
   ·by_cases e2:Fs t b=0
    ·exact e2
    ·have:=ltF t b e2; omega
 ·intro t b;by_cases e:FP' b=0
  ·exact .inl e
  ·right;rcases h2 b e with h | h
   ·have:=P1.dx1 t b; omega
   ·by_cases e2:Xs t b=0
    ·exact e2
    ·have:=R.ltx t b e2; omega
 ·intro t b;by_cases e:XP' b=0
  ·exact .inl e
  ·right;rcases(h3 b e).2.2 with h | h | ⟨t',h⟩ | h
   ·have:=P1.dis t b; omega
   ·by_cases e2:Fs t b=0
    ·exact e2
    ·have:=ltF t b e2; omega
   ·have:=R.disx t t' b; omega
   ·have:=P1.dx2 t b; omega
 ·intro b;by_cases e:XP' b=0
  ·exact .inr e
  ·exact .inl (h3 b e).1
 ·intro b hb;rcases h2 b hb with h | h
  ·exact P1.org b h
  ·right; have:=R.grow.size; omega
 ·intro b hb;obtain⟨k1,k2,k3⟩:=h3 b hb;refine⟨?_,k2⟩;rcases k3 with h | h | ⟨t',h⟩ | h
  ·exact .inr (P1.org b h)
  ·right; right; have:=R.grow.size; omega
  ·exact R.orgx t' b h
  ·exact(P1.orgx b h).1
theorem PR.turn {vs vs':List Value} {xs xs':List AV} (P1:PR B hid w a E Fs Xs FP XP vs xs) {r:Nat} {p:bA} {hd:Value} {Fu Fr Xu Xr:aH} {un:AV}
  (hF:∀ b,Fs r b=Fu b+Fr b) (hX:∀ b,Xs r b=Xu b+Xr b)
  (an:∀ (w':World) (lk':Lk),j6 w w' Fr->j6 w w' Xr->(∀ r e p o,aM w (aI a.tmps hid) E r e p=some o->lk' r e p=some none\/lk' r e p=some o) ->
   ∀ u' G Y,RepA w' lk' G Y [hd] [u']->kV (E.f r) p u'=true->RepA w' lk' (fun b=>G b+Fr b) (fun b=>Y b+Xr b) [aI a.tmps hid r] [cX (E.f r) p u'])
  (cr:kV (E.f r) p un=true) (hroot':(cX (E.f r) p un).isRoot=true) (iv:Grows w w')
  (bm:∀ b,b<w.heap.size->Fu b=0->FP b=0->w'.heap[b]?=w.heap[b]?)
  (hw:∀ lk':Lk,∃ G Y FP' XP',(∀ b,G b+FP' b<=1)/\(∀ b,G b+FP' b≠0->Fu b+FP b≠0\/w.heap.size<=b) /\
   (∀ b,Y b+XP' b≠0->G b+FP' b=0/\b<w'.heap.size/\(Fu b+FP b≠0\/w.heap.size<=b\/(∃ t,Xs t b≠0)\/XP b≠0))/\RepA w' lk' G Y [hd] [un]/\RepA w' lk' FP' XP' vs' xs') :
  ∃ Fs' Xs' FP' XP',PR B hid w' a (E.upd r (cX (E.f r) p un)) Fs' Xs' FP' XP' vs' xs':=by
 have R:=P1.rel;have kt:=iv.size;have mD:∀ b,Fu b+Fr b<=1:=fun b=>by rw[<-hF]; exact R.one r b
 have ltF:∀ t b,Fs t b≠0->b<w.heap.size:=fun t b hb=>(R.rep t).lt b hb
 have samF:∀ t,t≠r->j6 w w' (Fs t):=fun t ht b hb=>bm b (ltF t b hb) (by have:=R.dis t r b ht; have:=hF b; omega) (by have:=P1.dis t b; omega)
 have samX:∀ t,j6 w w' (Xs t):=fun t b hb=>bm b (R.ltx t b hb) (by have:=R.disx r t b; have:=hF b; omega) (by have:=P1.dx1 t b; omega)
 have samFr:j6 w w' Fr:=fun b hb=>bm b (ltF r b (by rw[hF]; omega)) (by have:=mD b; omega) (by have:=P1.dis r b; have:=hF b; omega)
 have samXr:j6 w w' Xr:=fun b hb=>samX r b (by rw[hX]; omega)
 obtain⟨G,Y,FP',XP',h1,h2,h3,h4,h5⟩:=hw (aM w' (aI a.tmps hid) (E.upd r (cX (E.f r) p un)));have ltR:∀ b,Fr b≠0->b<w.heap.size:=fun b hb=>ltF r b (by rw[hF]; omega)
 have nF:∀ b,G b+FP' b≠0->(∀ t,t≠r->Fs t b=0)/\Fr b=0/\(∀ t,Xs t b=0):=by
  intro b hb;rcases h2 b hb with h | h
  ·refine⟨fun t ht=>?_,?_,fun t=>?_⟩
   ·have:=R.dis t r b ht; have:=P1.dis t b; have:=hF b; omega
   ·have:=mD b; have:=P1.dis r b; have:=hF b; omega
   ·have:=R.disx r t b; have:=P1.dx1 t b; have:=hF b; omega
  ·refine⟨fun t ht=>?_,?_,fun t=>?_⟩
   ·by_cases e2:Fs t b=0
    ·exact e2
    ·have:=ltF t b e2; omega
   ·by_cases e2:Fr b=0
    ·exact e2
    ·have:=ltR b e2; omega
   ·by_cases e2:Xs t b=0
    ·exact e2
    ·have:=R.ltx t b e2; omega
 have nX:∀ b,Y b+XP' b≠0->(∀ t,t≠r->Fs t b=0)/\Fr b=0:=by
  intro b hb;rcases(h3 b hb).2.2 with h | h | ⟨t',h⟩ | h
  ·refine⟨fun t ht=>?_,?_⟩
   ·have:=R.dis t r b ht; have:=P1.dis t b; have:=hF b; omega
   ·have:=mD b; have:=P1.dis r b; have:=hF b; omega
  ·refine⟨fun t ht=>?_,?_⟩
   ·by_cases e2:Fs t b=0
    ·exact e2
    ·have:=ltF t b e2; omega
   ·by_cases e2:Fr b=0
    ·exact e2
    ·have:=ltR b e2; omega
  ·refine⟨fun t ht=>?_,?_⟩
   ·have:=R.disx t t' b; omega
   ·have:=R.disx r t' b; have:=hF b; omega
  ·refine⟨fun t ht=>?_,?_⟩
   ·have:=P1.dx2 t b; omega
   ·have:=P1.dx2 r b; have:=hF b; omega
 have orgF:∀ b,G b+FP' b≠0->B.F0 b≠0\/B.w0.heap.size<=b:=by
  intro b hb;rcases h2 b hb with h | h
  ·by_cases e:FP b=0
   ·exact R.org r b (by have:=hF b; omega)
   ·exact P1.org b e
  ·right; have:=R.grow.size; omega
 have orgX:∀ b,Y b+XP' b≠0->(B.X0 b≠0\/B.F0 b≠0\/B.w0.heap.size<=b)/\b<w'.heap.size:=by
  intro b hb;obtain⟨k1,k2,k3⟩:=h3 b hb;refine⟨?_,k2⟩;rcases k3 with h | h | ⟨t',h⟩ | h
  ·by_cases e:FP b=0
   ·exact .inr (R.org r b (by have:=hF b; omega))
   ·exact .inr (P1.org b e)
  ·right; right; have:=R.grow.size; omega
  ·exact R.orgx t' b h
  ·exact(P1.orgx b h).1
 refine⟨fun t=>if t=r then fun b=>G b+Fr b else Fs t,fun t=>if t=r then fun b=>Y b+Xr b else Xs t,FP',XP',?_,h5,?_,?_,?_,?_,?_,?_,?_⟩
 rotate_left
 ·intro b; have:=h1 b; omega
 ·intro t b;by_cases e0:FP' b=0
  ·exact .inl e0
  obtain⟨k1,k2,k3⟩:=nF b A7;right;by_cases e:t=r
  ·subst e; simp only[lQ]; have:=h1 b; omega
  ·simp only[e,lN1]; exact k1 t e
 ·intro t b;by_cases e0:FP' b=0
  ·exact .inl e0
  obtain⟨k1,k2,k3⟩:=nF b A7;right;by_cases e:t=r
  ·subst e; simp only[lQ];have:=k3 t; have:=hX b;by_cases e1:Y b=0
   ·omega
   ·have:=(h3 b A7).1; omega
  ·simp only[e,lN1]; exact k3 t
 ·intro t b;by_cases e0:XP' b=0
  ·exact .inl e0
  obtain⟨k1,k2⟩:=nX b A7;right;by_cases e:t=r
  ·subst e; simp only[lQ]; have:=(h3 b A7).1; omega
  ·simp only[e,lN1]; exact k1 t e
 ·intro b;by_cases e0:XP' b=0
  ·exact .inr e0
  ·left; have:=(h3 b A7).1; omega
 ·intro b hb; exact orgF b A7
 ·intro b hb; exact orgX b A7
 refine R.change (fun t=>t=r) R.size R.dfr ?_ ?_ ?_ ?_ ?_ ?_ ?_ iv ?_ ?_ ?_
 ·intro t ht; exact⟨yU ht,t7 ht,rfl,by simp[ht],by simp[ht],samF t ht,samX t⟩
 ·intro q hq e p' o ho; subst hq; exact t8 rfl pE hroot' rfl ho
 ·intro links t ht; subst ht;rw[pE]; simp only[lQ];exact an w' _ samFr samXr links un G Y h4 cr
 ·intro t ht b; simp only[ht,lQ];by_cases e0:G b=0
  ·have:=mD b; omega
  ·have:=(nF b A7).2.1; have:=h1 b; omega
 ·intro t ht t' am b; subst ht; simp only[lQ,Ne.symm am,lN1];by_cases e0:G b=0
  ·have:=R.dis t t' b am; have:=hF b; omega
  ·right; exact(nF b A7).1 t' (Ne.symm am)
 ·intro t ht t' b; subst ht; simp only[lQ];by_cases e:t'=t
  ·simp only[e,lQ];by_cases e0:G b=0
   ·by_cases e1:Y b=0
    ·have:=R.disx t t b; have:=hF b; have:=hX b; omega
    ·left; have:=(nX b A7).2; omega
   ·right;obtain⟨k1,k2,k3⟩:=nF b A7;have:=k3 t; have:=hX b;by_cases e1:Y b=0
    ·omega
    ·have:=(h3 b A7).1; omega
  ·simp only[e,lN1];by_cases e0:G b=0
   ·have:=R.disx t t' b; have:=hF b; omega
   ·right; exact(nF b A7).2.2 t'
 ·intro t ht t' b; subst ht; simp only[lQ];by_cases e:t'=t
  ·simp only[e,lQ];by_cases e0:G b=0
   ·by_cases e1:Y b=0
    ·have:=R.disx t t b; have:=hF b; have:=hX b; omega
    ·left; have:=(nX b A7).2; omega
   ·right;obtain⟨k1,k2,k3⟩:=nF b A7;have:=k3 t; have:=hX b;by_cases e1:Y b=0
    ·omega
    ·have:=(h3 b A7).1; omega
  ·simp only[e,lN1];by_cases e1:Y b=0
   ·have:=R.disx t' t b; have:=hX b; omega
   ·left; exact(nX b A7).1 t' e
 ·intro b hb h0;refine bm b (lJ4 hb R.grow.size) ?_ ?_
  ·by_cases e:Fu b=0
   ·exact e
   ·have:=R.org r b (by rw[hF]; omega); omega
  ·by_cases e:FP b=0
   ·exact e
   ·have:=P1.org b e; omega
 ·intro t ht b hb; subst ht; simp only[lQ] at hb;by_cases e:Fr b=0
  ·exact orgF b A7
  ·exact R.org t b (by have:=hF b; omega)
 ·intro t ht b hb; subst ht; simp only[lQ] at hb;by_cases e:Xr b=0
  ·exact orgX b A7
  ·have:Xs t b≠0:=by have:=hX b; omega
   exact⟨R.orgx t b this,lJ4 (R.ltx t b this) kt⟩
theorem RepA.noLk {lk:Lk} {F X:aH} {vs:List Value} {xs:List AV} (h:RepA w lk F X vs xs) (lk':Lk):dH xs=true->RepA w lk' F X vs xs:=by
 induction h with
 | nil F X hF hX=>intro _; exact .nil _ _ hF hX
 | undef F X v vs as h ih=>intro e; exact .undef _ _ _ _ _ (ih (by simpa [dH,Awp.noLk] using e))
 | bool F X v vs as h ih=>intro e; exact .bool _ _ _ _ _ (ih (by simpa [dH,Awp.noLk] using e))
 | int F X k n vs as h ih=>intro e; exact .int _ _ _ _ _ _ (ih (by simpa [dH,Awp.noLk] using e))
 | str F X s vs as h ih=>intro e; exact .str _ _ _ _ _ (ih (by simpa [dH,Awp.noLk] using e))
 | own F F1 F2 X s es v vs as h1 h hF ih=>intro e; exact .own _ F1 F2 _ _ _ _ _ _ h1 (ih (by simpa [dH,Awp.noLk] using e)) hF
 | ext F X X1 X2 s es v vs as h1 h hX ih=>intro e; exact .ext _ _ X1 X2 _ _ _ _ _ h1 (ih (by simpa [dH,Awp.noLk] using e)) hX
 | extv F X X1 X2 s es v vs as h1 h hX ih=>intro e; exact .extv _ _ X1 X2 _ _ _ _ _ h1 (ih (by simpa [dH,Awp.noLk] using e)) hX
 | box F F1 F2 X X1 X2 b C ty fr cs vs as hb hfr h1 h hF hX ih1 ih=>
  intro e; simp[dH,Awp.noLk] at e;exact .box _ F1 F2 _ X1 X2 b C ty fr cs _ _ hb hfr (ih1 e.1) (ih e.2) hF hX
 | xbox F X X1 X2 a us cs vs as hc h1 h hX ih=>intro e; exact .xbox _ _ X1 X2 a us cs _ _ hc h1 (ih (by simpa [dH,Awp.noLk] using e)) hX
 | agg F F1 F2 X X1 X2 us cs vs as h1 h hF hX ih1 ih=>
  intro e; simp[dH,Awp.noLk] at e;exact .agg _ F1 F2 _ X1 X2 us cs _ _ (ih1 e.1) (ih e.2) hF hX
 | tup F F1 F2 X X1 X2 us cs vs as h1 h hF hX ih1 ih=>
  intro e; simp[dH,Awp.noLk] at e;exact .tup _ F1 F2 _ X1 X2 us cs _ _ (ih1 e.1) (ih e.2) hF hX
 | fn F F1 F2 X X1 X2 f us cs vs as h1 h hF hX ih1 ih=>
  intro e; simp[dH,Awp.noLk] at e;exact .fn _ F1 F2 _ X1 X2 f us cs _ _ (ih1 e.1) (ih e.2) hF hX
 | lnk F X r e' p o v vs as ho hv h ih=>intro e; simp[dH,Awp.noLk] at e
 | sub F X r e' p s lo n o v vs as ho hv h ih=>intro e; simp[dH,Awp.noLk] at e
 | ref F X r e' p st o v vs as ho hv h ih=>intro e; simp[dH,Awp.noLk] at e
theorem zG {lk:Lk} {F X:aH} {vs:List Value} {xs:List AV} (h:RepA w lk F X vs xs):∀ q ∈ dZ xs,∃ Z,Row w false Z [q.1] [.sl q.2.1 q.2.2]/\∀ b,Z b<=X b:=by
 induction h with
 | nil F X hF hX=>intro q hq; simp[dZ] at hq
 | undef F X v vs as h ih=>intro q hq; exact ih q (by simpa [dZ,vlv] using hq)
 | bool F X v vs as h ih=>intro q hq; exact ih q (by simpa [dZ,vlv] using hq)
 | int F X k n vs as h ih=>intro q hq; exact ih q (by simpa [dZ,vlv] using hq)
 | str F X s vs as h ih=>intro q hq; exact ih q (by simpa [dZ,vlv] using hq)
 | own F F1 F2 X s es v vs as h1 h hF ih=>intro q hq; exact ih q (by simpa [dZ,vlv] using hq)
 | ext F X X1 X2 s es v vs as h1 h hX ih=>
  intro q hq;obtain⟨Z,z1,z2⟩:=ih q (by simpa [dZ,vlv] using hq);exact⟨Z,z1,fun b=>by have:=z2 b; have:=hX b; omega⟩
 | extv F X X1 X2 s es v vs as h1 h hX ih=>
  intro q hq;simp only[dZ,vlv,lD2,lI1,lN] at hq;rcases hq with rfl | hq
  ·exact⟨X1,h1,fun b=>by have:=hX b; omega⟩
  ·obtain⟨Z,z1,z2⟩:=ih q hq;exact⟨Z,z1,fun b=>by have:=z2 b; have:=hX b; omega⟩
 | xbox F X X1 X2 a us cs vs as hc h1 h hX ih=>
  intro q hq;obtain⟨Z,z1,z2⟩:=ih q (by simpa [dZ,vlv] using hq);exact⟨Z,z1,fun b=>by have:=z2 b; have:=hX b; omega⟩
 | lnk F X r e' p o v vs as ho hv h ih=>intro q hq; exact ih q (by simpa [dZ,vlv] using hq)
 | sub F X r e' p s lo n o v vs as ho hv h ih=>intro q hq; exact ih q (by simpa [dZ,vlv] using hq)
 | ref F X r e' p st o v vs as ho hv h ih=>intro q hq; exact ih q (by simpa [dZ,vlv] using hq)
 | box F F1 F2 X X1 X2 b C ty fr cs vs as hb hfr h1 h hF hX ih1 ih=>
  intro q hq; simp only[dZ,vlv,lL] at hq;rcases hq with hq | hq
  ·obtain⟨Z,z1,z2⟩:=ih1 q hq; exact⟨Z,z1,fun b=>by have:=z2 b; have:=hX b; omega⟩
  ·obtain⟨Z,z1,z2⟩:=ih q hq; exact⟨Z,z1,fun b=>by have:=z2 b; have:=hX b; omega⟩
 | agg F F1 F2 X X1 X2 us cs vs as h1 h hF hX ih1 ih=>
  intro q hq; simp only[dZ,vlv,lL] at hq;rcases hq with hq | hq
  ·obtain⟨Z,z1,z2⟩:=ih1 q hq; exact⟨Z,z1,fun b=>by have:=z2 b; have:=hX b; omega⟩
  ·obtain⟨Z,z1,z2⟩:=ih q hq; exact⟨Z,z1,fun b=>by have:=z2 b; have:=hX b; omega⟩
 | tup F F1 F2 X X1 X2 us cs vs as h1 h hF hX ih1 ih=>
  intro q hq; simp only[dZ,vlv,lL] at hq;rcases hq with hq | hq
  ·obtain⟨Z,z1,z2⟩:=ih1 q hq; exact⟨Z,z1,fun b=>by have:=z2 b; have:=hX b; omega⟩
  ·obtain⟨Z,z1,z2⟩:=ih q hq; exact⟨Z,z1,fun b=>by have:=z2 b; have:=hX b; omega⟩
 | fn F F1 F2 X X1 X2 f us cs vs as h1 h hF hX ih1 ih=>
  intro q hq; simp only[dZ,vlv,lL] at hq;rcases hq with hq | hq
  ·obtain⟨Z,z1,z2⟩:=ih1 q hq; exact⟨Z,z1,fun b=>by have:=z2 b; have:=hX b; omega⟩
  ·obtain⟨Z,z1,z2⟩:=ih q hq; exact⟨Z,z1,fun b=>by have:=z2 b; have:=hX b; omega⟩
theorem aiL {lk:Lk} {F X:aH} {vs:List Value} {xs:List AV} (h:RepA w lk F X vs xs) (Pz:Nat->Prop) :
  dY xs=false->(∀ q ∈ dZ xs,∃ Z,Row w false Z [q.1] [.sl q.2.1 q.2.2]/\∀ b,Z b≠0->Pz b)->∃ Y,RepA w lk F Y vs xs/\∀ b,Y b≠0->Pz b:=by
 induction h with
 | nil F X hF hX=>intro _ _; exact⟨fun _=>0,.nil _ _ hF (fun _=>rfl),fun b hb=>absurd rfl hb⟩
 | undef F X v vs as h ih=>intro e q; obtain⟨Y,y1,y2⟩:=ih (by simpa [dY,oG] using e) (by simpa [dZ,vlv] using q); exact⟨Y,.undef _ _ _ _ _ y1,y2⟩
 | bool F X v vs as h ih=>intro e q; obtain⟨Y,y1,y2⟩:=ih (by simpa [dY,oG] using e) (by simpa [dZ,vlv] using q); exact⟨Y,.bool _ _ _ _ _ y1,y2⟩
 | int F X k n vs as h ih=>intro e q; obtain⟨Y,y1,y2⟩:=ih (by simpa [dY,oG] using e) (by simpa [dZ,vlv] using q); exact⟨Y,.int _ _ _ _ _ _ y1,y2⟩
 | str F X s vs as h ih=>intro e q; obtain⟨Y,y1,y2⟩:=ih (by simpa [dY,oG] using e) (by simpa [dZ,vlv] using q); exact⟨Y,.str _ _ _ _ _ y1,y2⟩
 | own F F1 F2 X s es v vs as h1 h hF ih=>intro e q; obtain⟨Y,y1,y2⟩:=ih (by simpa [dY,oG] using e) (by simpa [dZ,vlv] using q); exact⟨Y,.own _ F1 F2 _ _ _ _ _ _ h1 y1 hF,y2⟩
 | ext F X X1 X2 s es v vs as h1 h hX ih=>intro e; simp[dY,oG] at e
 | extv F X X1 X2 s es v vs as h1 h hX ih=>
  intro e q;obtain⟨Y,y1,y2⟩:=ih (by simpa [dY,oG] using e) (fun x hx=>q x B9);obtain⟨Z,z1,z2⟩:=q (v,s,es) (by simp[dZ,vlv]);refine⟨fun b=>Z b+Y b,.extv _ _ Z Y s es _ _ _ z1 y1 (fun _=>rfl),fun b hb=>?_⟩;by_cases e1:Z b=0
  ·exact y2 b (by (try dsimp only at hb); omega)
  ·exact z2 b e1
 | xbox F X X1 X2 a us cs vs as hc h1 h hX ih=>intro e; simp[dY,oG] at e
 | lnk F X r e' p o v vs as ho hv h ih=>intro e q; obtain⟨Y,y1,y2⟩:=ih (by simpa [dY,oG] using e) (by simpa [dZ,vlv] using q); exact⟨Y,.lnk _ _ _ _ _ _ _ _ _ ho hv y1,y2⟩
 | sub F X r e' p s lo n o v vs as ho hv h ih=>intro e q; obtain⟨Y,y1,y2⟩:=ih (by simpa [dY,oG] using e) (by simpa [dZ,vlv] using q); exact⟨Y,.sub _ _ _ _ _ _ _ _ _ _ _ _ ho hv y1,y2⟩
 | ref F X r e' p st o v vs as ho hv h ih=>intro e q; obtain⟨Y,y1,y2⟩:=ih (by simpa [dY,oG] using e) (by simpa [dZ,vlv] using q); exact⟨Y,.ref _ _ _ _ _ _ _ _ _ _ ho hv y1,y2⟩
 | box F F1 F2 X X1 X2 b C ty fr cs vs as hb hfr h1 h hF hX ih1 ih=>
  intro e q; simp only[dY,oG,lO4] at e;obtain⟨Y1,y1,y2⟩:=ih1 e.1 (fun x hx=>q x B9);obtain⟨Y2,y3,y4⟩:=ih e.2 (fun x hx=>q x B9);refine⟨fun b=>Y1 b+Y2 b,.box _ F1 F2 _ Y1 Y2 b C ty fr cs _ _ hb hfr y1 y3 hF (fun _=>rfl),fun b hb=>?_⟩;by_cases e1:Y1 b=0
  ·exact y4 b (by (try dsimp only at hb); omega)
  ·exact y2 b e1
 | agg F F1 F2 X X1 X2 us cs vs as h1 h hF hX ih1 ih=>
  intro e q; simp only[dY,oG,lO4] at e;obtain⟨Y1,y1,y2⟩:=ih1 e.1 (fun x hx=>q x B9);obtain⟨Y2,y3,y4⟩:=ih e.2 (fun x hx=>q x B9);refine⟨fun b=>Y1 b+Y2 b,.agg _ F1 F2 _ Y1 Y2 us cs _ _ y1 y3 hF (fun _=>rfl),fun b hb=>?_⟩;by_cases e1:Y1 b=0
  ·exact y4 b (by (try dsimp only at hb); omega)
  ·exact y2 b e1
 | tup F F1 F2 X X1 X2 us cs vs as h1 h hF hX ih1 ih=>
  intro e q; simp only[dY,oG,lO4] at e;obtain⟨Y1,y1,y2⟩:=ih1 e.1 (fun x hx=>q x B9);obtain⟨Y2,y3,y4⟩:=ih e.2 (fun x hx=>q x B9);refine⟨fun b=>Y1 b+Y2 b,.tup _ F1 F2 _ Y1 Y2 us cs _ _ y1 y3 hF (fun _=>rfl),fun b hb=>?_⟩;by_cases e1:Y1 b=0
  ·exact y4 b (by (try dsimp only at hb); omega)
  ·exact y2 b e1
 | fn F F1 F2 X X1 X2 f us cs vs as h1 h hF hX ih1 ih=>
  intro e q; simp only[dY,oG,lO4] at e;obtain⟨Y1,y1,y2⟩:=ih1 e.1 (fun x hx=>q x B9);obtain⟨Y2,y3,y4⟩:=ih e.2 (fun x hx=>q x B9);refine⟨fun b=>Y1 b+Y2 b,.fn _ F1 F2 _ Y1 Y2 f us cs _ _ y1 y3 hF (fun _=>rfl),fun b hb=>?_⟩;by_cases e1:Y1 b=0
  ·exact y4 b (by (try dsimp only at hb); omega)
  ·exact y2 b e1
mutual
theorem aiM (lr:Option Nat) (x x':AV) (h:brw E lr x=some x'):∀ q ∈ vlv x',q ∈ vlv x:=by
 cases x with
 | agg cs=>
  simp only[brw] at h;obtain⟨cs',h1,rfl⟩:=map_some h;exact fun q hq=>by simpa [vlv] using zH lr cs cs' h1 q (by simpa [vlv] using hq)
 | fn f cs=>
  simp only[brw] at h;obtain⟨cs',h1,rfl⟩:=map_some h;exact fun q hq=>by simpa [vlv] using zH lr cs cs' h1 q (by simpa [vlv] using hq)
 | lnk r e p=>
  simp only[brw] at h;split at h
  ·cases h
  ·obtain⟨y,_,rfl⟩:=map_some h; intro q hq; simp[vlv] at hq
 | sub r e p s lo n=>
  simp only[brw] at h;split at h
  ·cases h
  ·obtain⟨y,_,h⟩:=bind_some h; obtain⟨_,h⟩:=aC h; cases h; intro q hq; simp[vlv] at hq
 | ref r e p st=>
  simp only[brw] at h;split at h
  ·cases h
  ·split at h
   ·obtain⟨_,h⟩:=aC h; obtain⟨y,_,rfl⟩:=map_some h; intro q hq; simp[vlv] at hq
   ·obtain⟨_,h⟩:=aC h; obtain⟨y,_,rfl⟩:=map_some h; intro q hq; simp[vlv] at hq
   ·cases h
 | own s es=>simp only[brw,Option.some.injEq] at h; subst h; intro q hq; simp[vlv] at hq
 | extv v s es=>simp only[brw,Option.some.injEq] at h; subst h; exact fun q hq=>hq
 | box cs=>simp[brw] at h
 | tup cs=>simp[brw] at h
 | undef=>simp only[brw,Option.some.injEq] at h; subst h; exact fun q hq=>hq
 | bool b=>simp only[brw,Option.some.injEq] at h; subst h; exact fun q hq=>hq
 | int k n=>simp only[brw,Option.some.injEq] at h; subst h; exact fun q hq=>hq
 | str s=>simp only[brw,Option.some.injEq] at h; subst h; exact fun q hq=>hq
 | ext s es=>simp only[brw,Option.some.injEq] at h; subst h; exact fun q hq=>hq
 | xbox cs=>simp only[brw,Option.some.injEq] at h; subst h; exact fun q hq=>hq
theorem zH (lr:Option Nat) (xs xs':List AV) (h:o9 E lr xs=some xs'):∀ q ∈ dZ xs',q ∈ dZ xs:=by
 cases xs with
 | nil=>simp[o9] at h; subst h; exact fun q hq=>hq
 | cons x xs=>
  simp only[o9] at h;obtain⟨y,h1,h⟩:=bind_some h;obtain⟨l,h2,rfl⟩:=map_some h;intro q hq;simp only[dZ,lL] at hq ⊢;rcases hq with hq | hq
  ·exact .inl (aiM lr x y h1 q hq)
  ·exact .inr (zH lr xs l h2 q hq)
end
inductive MvOk:List M->List Value->List (Option AV)->List Value->List AV->Prop where
 | nil:MvOk [] [] [] [] []
 | m {ms vs mv us ys v x} (h:MvOk ms vs mv us ys):MvOk (.m::ms) (v::vs) (some x::mv) (v::us) (x::ys)
 | p {ms vs mv us ys v x} (h:MvOk ms vs mv us ys):MvOk (.p::ms) (v::vs) (some x::mv) (v::us) (x::ys)
 | b {ms vs mv us ys v} (h:MvOk ms vs mv us ys):MvOk (.b::ms) (v::vs) (none::mv) us ys
 | l {ms vs mv us ys v} (h:MvOk ms vs mv us ys):MvOk (.l::ms) (v::vs) (none::mv) us ys
inductive CallOk (n:Nat) (a:Act) (caps:List (Value × AV)):List M->List Value->List O->Prop where
 | nil:CallOk n a caps [] [] []
 | opd {ms vs os md x o} (h:OpdOk n x o) (t:CallOk n a caps ms vs os):CallOk n a caps (md::ms) (a.eval x::vs) (o::os)
 | cap {ms vs os v y} (h:(v,y) ∈ caps) (t:CallOk n a caps ms vs os):CallOk n a caps (.b::ms) (v::vs) (.c y::os)
theorem aiN {caps:List (Value × AV)}:∀ {ms:List M} {vs:List Value} {os:List O},CallOk B.n a caps ms vs os->∀ {E:Env} {mv:List (Option AV)} {E1:Env} {Fs Xs:Nat->aH} {FP XP:aH} {zs:List Value} {ys:List AV},
  PR B hid w a E Fs Xs FP XP zs ys->mvP E ms os=some (mv,E1) ->
  ∃ Fs' Xs' FP' XP' us xs,PR B hid w a E1 Fs' Xs' FP' XP' (zs++us) (ys++xs)/\MvOk ms vs mv us xs:=by
 intro ms vs os h;induction h with
 | nil=>
  intro E mv E1 Fs Xs FP XP zs ys P1 h;simp only[mvP,Option.some.injEq,Prod.mk.injEq] at h;obtain⟨rfl,rfl⟩:=h;exact⟨_,_,_,_,[],[],by simpa using P1,.nil⟩
 | @opd ms vs os md x o1 ho _ ih=>
  intro E mv E1 Fs Xs FP XP zs ys P1 h;cases md with
  | m=>
   simp only[mvP] at h;obtain⟨g,hg,h⟩:=bind_some h;obtain⟨y,hy,h⟩:=map_some h;simp only[Prod.mk.injEq] at h;obtain⟨rfl,rfl⟩:=h;obtain⟨Fs1,Xs1,FP1,XP1,P2⟩:=dN (x':=g.1) (E':=g.2) ho P1 hg;obtain⟨Fs2,Xs2,FP2,XP2,us,xs,P3,hm⟩:=ih (mv:=y.1) (E1:=y.2) P2 hy;exact⟨Fs2,Xs2,FP2,XP2,a.eval x::us,g.1::xs,by simpa using P3,.m hm⟩
  | p=>
   simp only[mvP] at h;obtain⟨g,hg,h⟩:=bind_some h;obtain⟨y,hy,h⟩:=map_some h;simp only[Prod.mk.injEq] at h;obtain⟨rfl,rfl⟩:=h;obtain⟨Fs1,Xs1,FP1,XP1,P2⟩:=dN (x':=g.1) (E':=g.2) ho P1 hg;obtain⟨Fs2,Xs2,FP2,XP2,us,xs,P3,hm⟩:=ih (mv:=y.1) (E1:=y.2) P2 hy;exact⟨Fs2,Xs2,FP2,XP2,a.eval x::us,g.1::xs,by simpa using P3,.p hm⟩
  | b=>
   simp only[mvP] at h;obtain⟨y,hy,h⟩:=map_some h;simp only[Prod.mk.injEq] at h;obtain⟨rfl,rfl⟩:=h;obtain⟨Fs2,Xs2,FP2,XP2,us,xs,P3,hm⟩:=ih (mv:=y.1) (E1:=y.2) P1 hy;exact⟨Fs2,Xs2,FP2,XP2,us,xs,P3,.b hm⟩
  | l=>
   simp only[mvP] at h;obtain⟨y,hy,h⟩:=map_some h;simp only[Prod.mk.injEq] at h;obtain⟨rfl,rfl⟩:=h;obtain⟨Fs2,Xs2,FP2,XP2,us,xs,P3,hm⟩:=ih (mv:=y.1) (E1:=y.2) P1 hy;exact⟨Fs2,Xs2,FP2,XP2,us,xs,P3,.l hm⟩
 | cap _ _ ih=>
  intro E mv E1 Fs Xs FP XP zs ys P1 h;simp only[mvP] at h;obtain⟨y,hy,h⟩:=map_some h;simp only[Prod.mk.injEq] at h;obtain⟨rfl,rfl⟩:=h;obtain⟨Fs2,Xs2,FP2,XP2,us,xs,P3,hm⟩:=ih (mv:=y.1) (E1:=y.2) P1 hy;exact⟨Fs2,Xs2,FP2,XP2,us,xs,P3,.b hm⟩
def ae5 (Xs:Nat->aH) (XP:aH) (b:Nat):Prop:=XP b≠0\/∃ t,Xs t b≠0
def ak2:List M->Nat
 | []=>0
 | .l::ms=>ak2 ms+1
 | _::ms=>ak2 ms
inductive ArgOk (w:World) (lk:Lk) (E:Env) (Fs Xs:Nat->aH) (XP:aH) (hd:Value):List M->List Value->List O->Prop where
 | nil:ArgOk w lk E Fs Xs XP hd [] [] []
 | cons {ms vs os md v o} (hb:md=.b->∃ F X,RepA w lk F X [v] [val E o]/\(∀ b,F b≠0->∃ n,o=.t n/\Fs n b≠0)/\∀ b,X b≠0->ae5 Xs XP b) (hl:md=.l->v=hd)
   (t:ArgOk w lk E Fs Xs XP hd ms vs os):ArgOk w lk E Fs Xs XP hd (md::ms) (v::vs) (o::os)
theorem xK (R:Rel B hid w a E Fs Xs) {ln:Option (Nat × bA × AV)} {hd:Value} {Fu Xu XP0:aH}
  (hl:∀ r p x,ln=some (r,p,x)->RepA w (aM w (aI a.tmps hid) E) Fu Xu [hd] [x]/\∀ b,Xu b<=Xs r b) :
  ∀ {ms:List M} {vs:List Value} {mv:List (Option AV)} {us:List Value} {ys:List AV},MvOk ms vs mv us ys->∀ {os:List O} {args:List AV} {F X:aH},
   ArgOk w (aM w (aI a.tmps hid) E) E Fs Xs XP0 hd ms vs os->fL E ln ms os mv=some args->RepA w (aM w (aI a.tmps hid) E) F X us ys->(∀ b,X b≠0->XP0 b≠0) ->
   ∃ G Y,RepA w (aM w (aI a.tmps hid) E) G Y vs args/\(∀ b,G b=F b+ak2 ms*Fu b)/\(∀ b,Y b≠0->ae5 Xs XP0 b\/∃ t,some t≠ln.map (·.1)/\Fs t b≠0) /\
    (gA E ms os=true->∀ b,Y b≠0->ae5 Xs XP0 b)/\∀ q ∈ dZ args,∃ Z,Row w false Z [q.1] [.sl q.2.1 q.2.2]/\∀ b,Z b≠0->ae5 Xs XP0 b:=by
 intro ms vs mv us ys h;induction h with
 | nil=>
  intro os args F X hA h hr hX;cases hA;simp only[fL,Option.some.injEq] at h; subst h;cases hr with
  | nil _ _ h1 h2=>exact⟨_,_,.nil _ _ h1 h2,fun b=>by rw[h1]; simp[ak2],fun b hb=>absurd (h2 b) hb,fun _ b hb=>absurd (h2 b) hb,fun q hq=>by simp[dZ] at hq⟩
 | @m ms vs mv us ys v x _ ih=>
  intro os args F X hA h hr hX;cases hA with
  | cons hb hl' t=>
   simp only[fL] at h;obtain⟨as,h1,rfl⟩:=map_some h;obtain⟨A1,A2,Y1,Y2,q1,q2,eA,eY⟩:=RepA.uncons hr;obtain⟨G,Y,g1,g2,g3,g4,g5⟩:=ih t h1 q2 (fun b hb=>hX b (by have:=eY b; omega));refine⟨fun b=>A1 b+G b,fun b=>Y1 b+Y b,RepA.cons q1 g1 (fun _=>rfl) (fun _=>rfl),fun b=>by (try dsimp only); rw[g2,eA]; simp only[ak2]; omega,?_,?_,?_⟩
   ·intro b hb;by_cases e:Y1 b=0
    ·exact g3 b (by (try dsimp only at hb); omega)
    ·exact .inl (.inl (hX b (by have:=eY b; omega)))
   ·intro hp b hb;by_cases e:Y1 b=0
    ·exact g4 (by simpa [gA] using hp) b (by (try dsimp only at hb); omega)
    ·exact .inl (hX b (by have:=eY b; omega))
   ·intro q hq;simp only[dZ,lL] at hq;rcases hq with hq | hq
    ·obtain⟨Z,z1,z2⟩:=zG q1 q (by simpa [dZ] using hq);exact⟨Z,z1,fun b hb=>.inl (hX b (by have:=z2 b; have:=eY b; omega))⟩
    ·exact g5 q hq
 | @p ms vs mv us ys v x _ ih=>
  intro os args F X hA h hr hX;cases hA with
  | cons hb hl' t=>
   simp only[fL] at h;obtain⟨as,h1,rfl⟩:=map_some h;obtain⟨A1,A2,Y1,Y2,q1,q2,eA,eY⟩:=RepA.uncons hr;obtain⟨G,Y,g1,g2,g3,g4,g5⟩:=ih t h1 q2 (fun b hb=>hX b (by have:=eY b; omega));refine⟨fun b=>A1 b+G b,fun b=>Y1 b+Y b,RepA.cons q1 g1 (fun _=>rfl) (fun _=>rfl),fun b=>by (try dsimp only); rw[g2,eA]; simp only[ak2]; omega,?_,?_,?_⟩
   ·intro b hb;by_cases e:Y1 b=0
    ·exact g3 b (by (try dsimp only at hb); omega)
    ·exact .inl (.inl (hX b (by have:=eY b; omega)))
   ·intro hp b hb;by_cases e:Y1 b=0
    ·exact g4 (by simpa [gA] using hp) b (by (try dsimp only at hb); omega)
    ·exact .inl (hX b (by have:=eY b; omega))
   ·intro q hq;simp only[dZ,lL] at hq;rcases hq with hq | hq
    ·obtain⟨Z,z1,z2⟩:=zG q1 q (by simpa [dZ] using hq);exact⟨Z,z1,fun b hb=>.inl (hX b (by have:=z2 b; have:=eY b; omega))⟩
    ·exact g5 q hq
 | @b ms vs mv us ys v _ ih=>
  intro os args F X hA h hr hX;cases hA with
  | @cons _ _ os _ _ o1 hb hl' t=>
   simp only[fL] at h;split at h
   ·cases h
   rename_i hT;obtain⟨x',hx,h⟩:=bind_some h;obtain⟨as,h1,rfl⟩:=map_some h;obtain⟨G,Y,g1,g2,g3,g4,g5⟩:=ih t h1 hr hX;obtain⟨F1,X1,r1,r2,r3⟩:=hb rfl;obtain⟨Y1,y1,y2,y3⟩:=aiK R (ln.map (·.1)) (aM w (aI a.tmps hid) E) r1 (xs':=[x']) (by simp[o9,hx]);refine⟨G,fun b=>Y1 b+Y b,RepA.cons y1 g1 (fun _=>by simp) (fun _=>rfl),fun b=>by rw[g2]; rfl,?_,?_,?_⟩
   ·intro b hb;by_cases e:Y1 b=0
    ·exact g3 b (by (try dsimp only at hb); omega)
    ·rcases y2 b e with h | h | ⟨t',h',h | h⟩
     ·exact .inl (r3 b h)
     ·obtain⟨n,hn,hf⟩:=r2 b h;right;refine⟨n,?_,hf⟩;intro he;subst hn;cases ln with
      | none=>cases he
      | some ln=>simp at he; subst he; simp[isT] at hT
     ·exact .inr ⟨t',h',h⟩
     ·exact .inl (.inr ⟨t',h⟩)
   ·intro hp b hb;simp only[gA,lM] at hp;by_cases e:Y1 b=0
    ·exact g4 hp.2 b (by (try dsimp only at hb); omega)
    ·exact r3 b (y3 (by simp[oB,hp.1]) b e)
   ·intro q hq;simp only[dZ,lL] at hq;rcases hq with hq | hq
    ·obtain⟨Z,z1,z2⟩:=zG r1 q (by simpa [dZ] using aiM _ _ _ hx q hq);exact⟨Z,z1,fun b hb=>r3 b (by have:=z2 b; omega)⟩
    ·exact g5 q hq
 | @l ms vs mv us ys v _ ih=>
  intro os args F X hA h hr hX;cases hA with
  | @cons _ _ os _ _ o1 hb hl' t=>
   simp only[fL] at h;split at h
   case h_2=>cases h
   rename_i r p x;obtain⟨as,h1,rfl⟩:=map_some h;obtain⟨G,Y,g1,g2,g3,g4,g5⟩:=ih t h1 hr hX;obtain⟨r1,r2⟩:=hl r p x rfl;have:=hl' rfl;subst this;refine⟨fun b=>Fu b+G b,fun b=>Xu b+Y b,RepA.cons r1 g1 (fun _=>rfl) (fun _=>rfl),fun b=>by (try dsimp only); rw[g2]; simp only[ak2,Nat.add_mul,Nat.one_mul]; omega,?_,?_,?_⟩
   ·intro b hb;by_cases e:Xu b=0
    ·exact g3 b (by (try dsimp only at hb); omega)
    ·exact .inl (.inr ⟨r,by have:=r2 b; omega⟩)
   ·intro hp b hb;by_cases e:Xu b=0
    ·exact g4 (by simpa [gA] using hp) b (by (try dsimp only at hb); omega)
    ·exact .inr ⟨r,by have:=r2 b; omega⟩
   ·intro q hq;simp only[dZ,lL] at hq;rcases hq with hq | hq
    ·obtain⟨Z,z1,z2⟩:=zG r1 q (by simpa [dZ] using hq);exact⟨Z,z1,fun b hb=>.inr ⟨r,by have:=z2 b; have:=r2 b; omega⟩⟩
    ·exact g5 q hq
theorem Calls.mono' {f:FuncId} {args:Array Value} {R R':Ending->World->Prop} (h:Calls P f args w R) (hr:∀ e w',R e w'->R' e w'):Calls P f args w R':=
 fun cs=>let ⟨e,w',fr,h1,h2,h3,h4⟩:=h cs; ⟨e,w',fr,hr _ _ h1,h2,h3,h4⟩
structure Lent (w:World) (a:Act) (hid:Nat->Value) (E:Env) (Fs Xs:Nat->aH) (r:Nat) (p:bA) (x:AV) (hd:Value) (Fu Fr Xu Xr:aH):Prop where
 hg:b9 (E.f r) p=some x
 hF:∀ b,Fs r b=Fu b+Fr b
 hX:∀ b,Xs r b=Xu b+Xr b
 rep:RepA w (aM w (aI a.tmps hid) E) Fu Xu [hd] [x]
 res:i4 w (aI a.tmps hid r) p=some hd
 rest:∀ (w':World) (lk':Lk),j6 w w' Fr->j6 w w' Xr->(∀ r e p o,aM w (aI a.tmps hid) E r e p=some o->lk' r e p=some none\/lk' r e p=some o) ->
   ∀ u' G Y,RepA w' lk' G Y [hd] [u']->kV (E.f r) p u'=true->RepA w' lk' (fun b=>G b+Fr b) (fun b=>Y b+Xr b) [aI a.tmps hid r] [cX (E.f r) p u']
theorem aoe (R:Rel B hid w a E Fs Xs) {r:Nat} {p:bA} {x:AV} (hg:b9 (E.f r) p=some x):∃ hd Fu Fr Xu Xr,Lent w a hid E Fs Xs r p x hd Fu Fr Xu Xr:=by
 obtain⟨hd,Fu,Fr,Xu,Xr,hF,hX,hu,ai,an⟩:=j7 p (R.rep r) hg;exact⟨hd,Fu,Fr,Xu,Xr,hg,hF,hX,hu,ai,fun w' lk' s1 s2 s3 u' G Y h hf=>(an w' lk' s1 s2 s3).2 u' G Y h hf⟩
theorem ac5 {v:AV} {r:Nat} {p:bA} {x:AV} (h:cC E v=some (r,p,x)):b9 (E.f r) p=some x/\(E.f r).isRoot=true/\x.isRoot=true:=by
 unfold cC at h;split at h
 ·obtain⟨⟨s,es⟩,hn,h⟩:=map_some h;simp only[Prod.mk.injEq] at h;obtain⟨rfl,rfl,rfl⟩:=h;obtain⟨h1,h2,h3⟩:=bR hn;exact⟨h3,h2,rfl⟩
 ·split at h
  ·rename_i cs hb _;obtain⟨_,h⟩:=aC h;simp only[Option.some.injEq,Prod.mk.injEq] at h;obtain⟨rfl,rfl,rfl⟩:=h;rw[pK,hb];exact⟨rfl,rfl,rfl⟩
  ·cases h
 ·cases h
theorem alI (R:Rel B hid w a E Fs Xs) {v:Value} {y:AV} {F X:aH} (hv:RepA w (aM w (aI a.tmps hid) E) F X [v] [y]) {r:Nat} {p:bA} {x:AV} (h:cC E y=some (r,p,x)) {hd:Value}
  (ai:i4 w (aI a.tmps hid r) p=some hd):v=hd:=by
 unfold cC at h;split at h
 ·obtain⟨⟨s,es⟩,hn,h⟩:=map_some h;simp only[Prod.mk.injEq] at h;obtain⟨rfl,rfl,rfl⟩:=h;obtain⟨h1,h2,h3⟩:=bR hn;cases hv with
  | lnk _ _ _ _ _ o _ _ _ ho hv' _=>
   unfold aM at ho;rw[lO A7,lK ⟨h1,h2,by rw[h3]; rfl⟩,ai] at ho;cases ho;exact hv' _ rfl
 ·rename_i r0 e0 p0 st;split at h
  ·rename_i cs hb he;obtain⟨⟨hi,hj⟩,h⟩:=aC h;simp only[Option.some.injEq,Prod.mk.injEq] at h;obtain⟨rfl,rfl,rfl⟩:=h;have he':e0=fX (E.ep r0) []:=by simpa using he
   have ay:aM w (aI a.tmps hid) E r0 e0 []=some (some hd):=by
    unfold aM;rw[lO A7,lK ⟨he',by rw[hb]; rfl,by rw[hb]; rfl⟩,ai]
   obtain⟨ad,ir,rfl⟩:=acY hv ay;have hr:=R.rep r0;have hvr:aI a.tmps hid r0=hd:=by
    have:i4 w (aI a.tmps hid r0) []=some (aI a.tmps hid r0):=rfl;rw[this] at ai; exact Option.some.inj ai
   rw[hvr,hb] at hr;cases hr with
   | box _ F1 F2 _ X1 X2 b C ty fr _ _ _ hb' hfr h1 h2 ki eu=>
    cases ir;rw[hi,hj,lQ4,add_zero]
  ·cases h
 ·cases h
theorem aiO (R:Rel B hid w a E Fs Xs) (XP:aH) {x:Operand} {y:O} (ho:OpdOk B.n x y) :
  ∃ F X,RepA w (aM w (aI a.tmps hid) E) F X [a.eval x] [val E y]/\(∀ b,F b≠0->∃ n,y=.t n/\Fs n b≠0)/\∀ b,X b≠0->ae5 Xs XP b:=by
 cases ho with
 | const v y h=>exact⟨_,_,h w _,fun b hb=>absurd rfl hb,fun b hb=>absurd rfl hb⟩
 | func f=>exact⟨_,_,.fn _ (fun _=>0) (fun _=>0) _ (fun _=>0) (fun _=>0) f [] [] [] [] RepA.znil RepA.znil (fun _=>rfl) (fun _=>rfl),fun b hb=>absurd rfl hb,fun b hb=>absurd rfl hb⟩
 | tmp t ht=>
  have he:a.eval (.tmp t)=aI a.tmps hid t:=kZ (by rw[R.size]; exact ht);rw[he];exact⟨_,_,R.rep t,fun b hb=>⟨t,rfl,hb⟩,fun b hb=>.inr ⟨t,hb⟩⟩
theorem ant:∀ {ms:List M},noL ms=true->∀ md ∈ ms,md≠.l:=by
 intro ms h md hm e;subst e;unfold noL at h;rw[lP] at h;have:=h _ hm;cases this
theorem ae6 (R:Rel B hid w a E Fs Xs) {XP:aH} {caps:List (Value × AV)} {hd:Value} {ln:Option (Nat × bA × AV)}
  (hcap:∀ v y,(v,y) ∈ caps->∃ X,RepA w (aM w (aI a.tmps hid) E) (fun _=>0) X [v] [y]/\∀ b,X b≠0->ae5 Xs XP b)
  (hln:∀ r p x,ln=some (r,p,x)->i4 w (aI a.tmps hid r) p=some hd) {ms:List M} {vs:List Value} {os:List O} (h:CallOk B.n a caps ms vs os) :
  (noL ms=true\/((c5 ms).isSome=true/\eJ E ms os=ln/\ln≠none))->ArgOk w (aM w (aI a.tmps hid) E) E Fs Xs XP hd ms vs os:=by
 induction h with
 | nil=>intro _; exact .nil
 | @opd ms vs os md x o1 ho t ih=>
  intro hL;refine .cons (fun _=>aiO R XP ho) ?_ ?_
  ·intro e; subst e;rcases hL with hL | ⟨h1,h2,h3⟩
   ·exact absurd rfl (ant hL .l A8)
   ·simp only[eJ] at h2;cases hl:ln with
    | none=>exact absurd hl h3
    | some q=>
     obtain⟨r,p,y⟩:=q;rw[hl] at h2;obtain⟨F,X,hr,_⟩:=aiO R XP ho;exact alI R hr h2 (hln r p y hl)
  ·refine ih ?_;rcases hL with hL | ⟨h1,h2,h3⟩
   ·left;unfold noL at hL ⊢;simp only[lF3,lM] at hL;exact hL.2
   ·cases md with
    | l=>
     left;simp only[c5] at h1;split at h1
     ·cases h1
     ·rename_i mh;unfold noL;rw[lP];intro md hm;cases md with
      | l=>exact absurd (List.any_eq_true.2 ⟨.l,hm,rfl⟩) mh
      | b=>rfl
      | m=>rfl
      | p=>rfl
    | b=>right; simp only[c5,lI3] at h1; exact⟨h1,by simpa [eJ] using h2,h3⟩
    | m=>right; simp only[c5,lI3] at h1; exact⟨h1,by simpa [eJ] using h2,h3⟩
    | p=>right; simp only[c5,lI3] at h1; exact⟨h1,by simpa [eJ] using h2,h3⟩
 | @cap ms vs os v y hm t ih=>
  intro hL;refine .cons (fun _=>?_) (fun e=>by cases e) (ih ?_)
  ·obtain⟨X,h1,h2⟩:=hcap v y hm;exact⟨_,X,h1,fun b hb=>absurd rfl hb,h2⟩
  ·rcases hL with hL | ⟨h1,h2,h3⟩
   ·left;unfold noL at hL ⊢;simp only[lF3,lM] at hL;exact hL.2
   ·right; simp only[c5,lI3] at h1; exact⟨h1,by simpa [eJ] using h2,h3⟩
theorem alJ {lk:Lk} {XP:aH} {hd:Value}:∀ {ms:List M} {vs:List Value} {os:List O},ArgOk w lk E Fs Xs XP hd ms vs os->∀ {k:Nat},c5 ms=some k->vs[k]?=some hd:=by
 intro ms vs os h;induction h with
 | nil=>intro k h; cases h
 | @cons ms vs os md v o1 hb hl t ih=>
  intro k h;cases md with
  | l=>
   simp only[c5] at h;split at h
   ·cases h
   ·cases h; rw[hl rfl]; rfl
  | b=>
   simp only[c5] at h;obtain⟨j,h1,rfl⟩:=map_some h;simpa using ih h1
  | m=>
   simp only[c5] at h;obtain⟨j,h1,rfl⟩:=map_some h;simpa using ih h1
  | p=>
   simp only[c5] at h;obtain⟨j,h1,rfl⟩:=map_some h;simpa using ih h1
theorem cntL_le:∀ {ms:List M},(noL ms=true->ak2 ms=0)/\((c5 ms).isSome=true->ak2 ms=1):=by
 intro ms;induction ms with
 | nil=>exact⟨fun _=>rfl,fun h=>by cases h⟩
 | cons md ms ih=>
  refine⟨fun h=>?_,fun h=>?_⟩
  ·have h2:noL ms=true:=by
    unfold noL at h ⊢;simp only[lF3,lM] at h;exact h.2
   cases md with
   | l=>exact absurd rfl (ant h .l A8)
   | b=>exact ih.1 h2
   | m=>exact ih.1 h2
   | p=>exact ih.1 h2
  ·cases md with
   | l=>
    simp only[c5] at h;split at h
    ·cases h
    ·rename_i mh;have:noL ms=true:=by
      unfold noL;rw[lP];intro md hm;cases md with
      | l=>exact absurd (List.any_eq_true.2 ⟨.l,hm,rfl⟩) mh
      | b=>rfl
      | m=>rfl
      | p=>rfl
     simp[ak2,ih.1 this]
   | b=>simp only[c5,lI3] at h; exact ih.2 h
   | m=>simp only[c5,lI3] at h; exact ih.2 h
   | p=>simp only[c5,lI3] at h; exact ih.2 h
def aa5 (vs:List Value) (k:Nat):Option Nat->Value->Prop
 | none,h=>vs[k]?=some h
 | some j,h=>∃ us,vs[k]?=some (.agg us)/\us[j]?=some h
theorem ae7 {o:Option AV} (h:isU o=true):o=some .undef:=by
 unfold isU at h;split at h
 ·rfl
 ·cases h
theorem RepA.takePart {lk:Lk} {F X:aH} {vs:List Value} {os:List AV} (h:RepA w lk F X vs os) {k:Nat} {j:Option Nat} {g:AV × List AV} (hp:aaI os k j=some g) {hv:Value} (df:aa5 vs k j hv) :
  ∃ F1 F2 X1 X2,RepA w lk F1 X1 [hv] [g.1]/\RepA w lk F2 X2 vs g.2/\(∀ b,F b=F1 b+F2 b)/\∀ b,X b=X1 b+X2 b:=by
 cases j with
 | none=>
  simp only[aaI] at hp;obtain⟨u,hu,rfl⟩:=map_some hp;obtain⟨v,F1,F2,X1,X2,au,h1,hF,hX,hput⟩:=RepA.at h hu;simp only[aa5] at df;rw[au] at df; cases df;have:=hput w lk (fun _ _=>rfl) (fun _ _=>rfl) (fun _ _ _ _ h=>.inr h) hv .undef (fun _=>0) (fun _=>0) (.undef _ _ _ _ _ RepA.znil);rw[fY au] at this;exact⟨F1,F2,X1,X2,h1,this.foot (fun b=>by simp) (fun b=>by simp),hF,hX⟩
 | some j=>
  simp only[aaI] at hp;split at hp
  case h_2=>cases hp
  rename_i cs hcs;obtain⟨u,hu,rfl⟩:=map_some hp;obtain⟨v,F1,F2,X1,X2,au,h1,hF,hX,hput⟩:=RepA.at h hcs;obtain⟨us,hk,hj⟩:=df;rw[au] at hk; cases hk;cases h1 with
  | agg _ A1 A2 _ Y1 Y2 zs _ _ _ g1 g2 hA hY=>
   obtain⟨v2,B1,B2,W1,W2,dg,k1,kF,kX,kput⟩:=RepA.at g1 hu;have e:v2=hv:=by
    have:zs[j]?=some hv:=by simpa using hj
    rw[dg] at this; exact Option.some.inj this
   subst e;have r1:=kput w lk (fun _ _=>rfl) (fun _ _=>rfl) (fun _ _ _ _ h=>.inr h) v2 .undef (fun _=>0) (fun _=>0) (.undef _ _ _ _ _ RepA.znil);rw[fY dg] at r1;cases g2 with
   | nil _ _ hz hzx=>
    have r2:=hput w lk (fun _ _=>rfl) (fun _ _=>rfl) (fun _ _ _ _ h=>.inr h) (.agg zs.toArray) (.agg (cs.set j .undef)) (fun b=>B2 b) (fun b=>W2 b)
     (.agg _ B2 (fun _=>0) _ W2 (fun _=>0) zs _ [] [] (r1.foot (fun b=>by simp) (fun b=>by simp)) RepA.znil (fun _=>by simp) (fun _=>by simp))
    rw[fY au] at r2;exact⟨B1,fun b=>B2 b+F2 b,W1,fun b=>W2 b+X2 b,k1,r2,fun b=>by have:=hF b; have:=hA b; have:=kF b; have:=hz b; dsimp only; omega,fun b=>by have:=hX b; have:=hY b; have:=kX b; have:=hzx b; dsimp only; omega⟩
theorem PR.fit {zs:List Value} {ys ys':List AV} (P1:PR B hid w a E Fs Xs FP XP zs ys) {r:Nat} {p:bA} {h:Value} {u:AV} {F1 F2 X1 X2:aH}
  (r1:RepA w (aM w (aI a.tmps hid) E) F1 X1 [h] [u]) (r2:RepA w (aM w (aI a.tmps hid) E) F2 X2 zs ys') (eF:∀ b,FP b=F1 b+F2 b) (eX:∀ b,XP b=X1 b+X2 b)
  (hg:b9 (E.f r) p=some .undef) (ai:i4 w (aI a.tmps hid r) p=some h) (hu:u.isRoot=true) (cr:kV (E.f r) p u=true) :
  ∃ Fs' Xs' FP' XP',PR B hid w a (aaG E r p u) Fs' Xs' FP' XP' zs ys':=by
 have R:=P1.rel;obtain⟨hd,Fu,Fr,Xu,Xr,hF,hX,hhd,hres',an⟩:=j7 p (R.rep r) hg;rw[ai] at hres'; cases hres';have ed:∀ t,t≠r->(aaG E r p u).f t=E.f t/\(aaG E r p u).ep t=E.ep t:=fun t ht=>aqG ht
 have hR:(aaG E r p u).f r=cX (E.f r) p u:=by
  unfold aaG;split
  ·rename_i hp;have:p=[]:=by simpa using hp
   subst this;rw[cQ]; cases E.f r <;> rfl
  ·exact pE
 have links:∀ r' e p' o,aM w (aI a.tmps hid) E r' e p'=some o->aM w (aI a.tmps hid) (aaG E r p u) r' e p'=some none\/aM w (aI a.tmps hid) (aaG E r p u) r' e p'=some o:=by
  intro r' e p' o ho;by_cases hr:r'=r
  ·subst hr;by_cases hp:p.isEmpty=true
   ·exact .inl (eI (x:=u) (by unfold aaG; rw[if_pos hp]) ho)
   ·have hp':p.isEmpty=false:=by simpa using hp
    have af:(E.f r').isRoot=true:=by
     cases p with
     | nil=>simp at hp
     | cons st p=>
      generalize E.f r'=x at hg;cases x <;> first | rfl | (simp[b9] at hg)
    exact t8 (x:=cX (E.f r') p u) (by unfold aaG; rw[if_neg hp]) hR (xG _ _ _ af hp') rfl ho
  ·exact .inr (by rw[kW (w':=w) (a':=a) (hid':=hid) R (ed r' hr).1 (ed r' hr).2 rfl (fun _ _=>rfl) (fun _ _=>rfl)]; exact ho)
 have nr:=(an w (aM w (aI a.tmps hid) (aaG E r p u)) (fun _ _=>rfl) (fun _ _=>rfl) links).2 u F1 X1 (r1.same links (fun _ _=>rfl) (fun _ _=>rfl)) cr;refine⟨fun t=>if t=r then fun b=>F1 b+Fr b else Fs t,fun t=>if t=r then fun b=>X1 b+Xr b else Xs t,F2,X2,?_,r2.same links (fun _ _=>rfl) (fun _ _=>rfl),?_,?_,?_,?_,?_,?_,?_⟩
 ·refine R.change (fun t=>t=r) R.size R.dfr ?_ ?_ ?_ ?_ ?_ ?_ ?_ (Grows.refl _) (fun _ _ _=>rfl) ?_ ?_
  ·intro t ht; exact⟨(ed t ht).1,(ed t ht).2,rfl,by simp[ht],by simp[ht],fun _ _=>rfl,fun _ _=>rfl⟩
  ·intro r' hr e p' o h; exact links r' e p' o h
  ·intro l t ht; subst ht; rw[hR]; simp only[lQ]; exact nr
  ·intro t ht b; simp only[ht,lQ]; have:=P1.one b; have:=eF b; have:=hF b; have:=R.one r b; have:=P1.dis r b; omega
  ·intro t ht t' hne' b; subst ht; simp only[lQ,Ne.symm hne',lN1]; have:=P1.dis t' b; have:=eF b; have:=R.dis t t' b hne'; have:=hF b; omega
  ·intro t ht t' b; subst ht; simp only[lQ];by_cases e:t'=t
   ·simp only[e,lQ]; have:=P1.dx3 b; have:=eF b; have:=eX b; have:=R.disx t t b; have:=hF b; have:=hX b; have:=P1.dx1 t b; have:=P1.dx2 t b; omega
   ·simp only[e,lN1]; have:=P1.dx1 t' b; have:=eF b; have:=R.disx t t' b; have:=hF b; omega
  ·intro t ht t' b; subst ht; simp only[lQ];by_cases e:t'=t
   ·simp only[e,lQ]; have:=P1.dx3 b; have:=eF b; have:=eX b; have:=R.disx t t b; have:=hF b; have:=hX b; have:=P1.dx1 t b; have:=P1.dx2 t b; omega
   ·simp only[e,lN1]; have:=P1.dx2 t' b; have:=eX b; have:=R.disx t' t b; have:=hX b; omega
  ·intro t ht b hb; subst ht; simp only[lQ] at hb;by_cases e:F1 b=0
   ·exact R.org t b (by have:=hF b; omega)
   ·exact P1.org b (by have:=eF b; omega)
  ·intro t ht b hb; subst ht; simp only[lQ] at hb;by_cases e:X1 b=0
   ·exact⟨R.orgx t b (by have:=hX b; omega),R.ltx t b (by have:=hX b; omega)⟩
   ·exact P1.orgx b (by have:=eX b; omega)
 ·intro b; have:=P1.one b; have:=eF b; omega
 ·intro t b;by_cases e:t=r
  ·simp only[e,lQ]; have:=P1.one b; have:=eF b; have:=hF b; have:=P1.dis r b; omega
  ·simp only[e,lN1]; have:=P1.dis t b; have:=eF b; omega
 ·intro t b;by_cases e:t=r
  ·simp only[e,lQ]; have:=P1.dx3 b; have:=eF b; have:=eX b; have:=hX b; have:=P1.dx1 r b; omega
  ·simp only[e,lN1]; have:=P1.dx1 t b; have:=eF b; omega
 ·intro t b;by_cases e:t=r
  ·simp only[e,lQ]; have:=P1.dx3 b; have:=eF b; have:=eX b; have:=hF b; have:=P1.dx2 r b; omega
  ·simp only[e,lN1]; have:=P1.dx2 t b; have:=eX b; omega
 ·intro b; have:=P1.dx3 b; have:=eF b; have:=eX b; omega
 ·intro b hb; exact P1.org b (by have:=eF b; omega)
 ·intro b hb; exact P1.orgx b (by have:=eX b; omega)
theorem ac6 {vs:List Value} {v:Value} {ret:AV}:∀ (l:List Plc) {E E':Env} {os:List AV} {Fs Xs:Nat->aH} {FP XP:aH},PR B hid w a E Fs Xs FP XP (v::vs) (ret::os)->mT E os l=some E' ->
  (∀ q ∈ l,∃ h,i4 w (aI a.tmps hid q.2.2.1) q.2.2.2=some h/\aa5 vs q.1 q.2.1 h)->∃ os' Fs' Xs' FP' XP',PR B hid w a E' Fs' Xs' FP' XP' (v::vs) (ret::os'):=by
 intro l;induction l with
 | nil=>intro E E' os Fs Xs FP XP P1 h _; simp only[mT,Option.some.injEq] at h; subst h; exact⟨os,Fs,Xs,FP,XP,P1⟩
 | cons q l ih=>
  obtain⟨k,j,r,p⟩:=q;intro E E' os Fs Xs FP XP P1 h hf;simp only[mT] at h;obtain⟨g,hg,h⟩:=bind_some h;obtain⟨⟨h1,h2,h3⟩,h⟩:=aC h;obtain⟨hv,ai,df⟩:=hf (k,j,r,p) A8;obtain⟨A1,A2,Y1,Y2,q1,q2,eA,eY⟩:=RepA.uncons P1.rep;obtain⟨F1,F2,X1,X2,p1,p2,pF,pX⟩:=RepA.takePart q2 hg df;obtain⟨Fs',Xs',FP',XP',P2⟩:=PR.fit P1 (ys':=ret::g.2) p1 (RepA.cons q1 p2 (fun _=>rfl) (fun _=>rfl)) (fun b=>by have:=eA b; have:=pF b; omega) (fun b=>by have:=eY b; have:=pX b; omega)
   (ae7 h1) ai h2 h3
  exact ih P2 h fun q hq=>hf q (by simp[hq])
theorem ae8 (R:Rel B hid w a E Fs Xs) {v:Value} {r e:Nat} {p:bA} {F X:aH} {x:Nat × List (List TV)} (h:RepA w (aM w (aI a.tmps hid) E) F X [v] [.lnk r e p]) (hn:aK E r e p=some x) :
  i4 w (aI a.tmps hid r) p=some v:=by
 obtain⟨s,es⟩:=x;obtain⟨h1,h2,h3⟩:=bR hn;obtain⟨hd,Fu,Fr,Xu,Xr,hF,hX,hhd,ai,an⟩:=j7 p (R.rep r) h3;cases h with
 | lnk _ _ _ _ _ o _ _ _ ho hv' _=>
  unfold aM at ho;rw[lO A7,lK ⟨h1,h2,by rw[h3]; rfl⟩,ai] at ho;cases ho;rw[hv' _ rfl]; exact ai
theorem alK (R:Rel B hid w a E Fs Xs) (k:Nat):∀ (cs:List AV) (j:Nat) (us:List Value) {F X:aH},RepA w (aM w (aI a.tmps hid) E) F X us cs->∀ q ∈ iM E k j cs,∃ i h,q.1=k/\q.2.1=some (j+i)/\us[i]?=some h /\
  i4 w (aI a.tmps hid q.2.2.1) q.2.2.2=some h:=by
 intro cs;induction cs with
 | nil=>intro j us F X _ q hq; simp[iM] at hq
 | cons c cs ih=>
  intro j us F X hr q hq;cases us with
  | nil=>have:=hr.length; simp at this
  | cons u us=>
   obtain⟨A1,A2,Y1,Y2,q1,q2,eA,eY⟩:=RepA.uncons hr;have tl:q ∈ iM E k (j+1) cs->∃ i h,q.1=k/\q.2.1=some (j+i)/\(u::us)[i]?=some h/\i4 w (aI a.tmps hid q.2.2.1) q.2.2.2=some h:=fun hq=>by
    obtain⟨i,h,h1,h2,h3,h4⟩:=ih (j+1) us q2 q hq;exact⟨i+1,h,h1,by rw[h2]; congr 1; omega,by simpa using h3,h4⟩
   cases c with
   | lnk r e p=>
    simp only[iM] at hq;split at hq
    ·rename_i hs;rcases lN.1 hq with rfl | hq
     ·obtain⟨⟨s,es⟩,hn⟩:=lI2.1 hs;exact⟨0,u,rfl,rfl,rfl,ae8 R q1 hn⟩
     ·exact tl hq
    ·exact tl hq
   | _=>simp only[iM] at hq; exact tl hq
theorem alL (R:Rel B hid w a E Fs Xs) {caps:List (Value × AV)} {ms:List M} {vs:List Value} {os:List O} (h:CallOk B.n a caps ms vs os):∀ k,∀ q ∈ j5 E k ms os,∃ i h,q.1=k+i/\aa5 vs i q.2.1 h /\
  i4 w (aI a.tmps hid q.2.2.1) q.2.2.2=some h:=by
 induction h with
 | nil=>intro k q hq; simp[j5] at hq
 | @opd ms vs os md x o1 ho t ih=>
  intro k q hq;have tl:q ∈ j5 E (k+1) ms os->∃ i h,q.1=k+i/\aa5 (a.eval x::vs) i q.2.1 h/\i4 w (aI a.tmps hid q.2.2.1) q.2.2.2=some h:=fun hq=>by
   obtain⟨i,h,h1,h2,h3⟩:=ih (k+1) q hq;refine⟨i+1,h,by omega,?_,h3⟩;cases hj:q.2.1 with
   | none=>rw[hj] at h2; simpa [aa5] using h2
   | some j=>rw[hj] at h2; obtain⟨us,g1,g2⟩:=h2; exact⟨us,by simpa using g1,g2⟩
  cases md with
  | p=>
   simp only[j5,lL] at hq;rcases hq with hq | hq
   ·obtain⟨F,X,hr,_⟩:=bJ R ho;generalize val E o1=y at hr hq;cases y with
    | lnk r e p=>
     simp only[qQ] at hq;split at hq
     ·rename_i hs;simp only[lH1] at hq;subst hq;obtain⟨z,hn⟩:=lI2.1 hs;exact⟨0,a.eval x,by simp,rfl,ae8 R hr hn⟩
     ·simp at hq
    | agg cs=>
     simp only[qQ] at hq;generalize az:a.eval x=v at hr;cases hr with
     | agg _ F1 F2 _ X1 X2 us _ _ _ g1 _ _ _=>
      obtain⟨i,h,h1,h2,h3,h4⟩:=alK R k cs 0 us g1 q hq;refine⟨0,h,by simpa using h1,?_,h4⟩;rw[h2];exact⟨us.toArray,by simp,by simpa using h3⟩
    | _=>simp[qQ] at hq
   ·exact tl hq
  | b=>simp only[j5] at hq; exact tl hq
  | l=>simp only[j5] at hq; exact tl hq
  | m=>simp only[j5] at hq; exact tl hq
 | @cap ms vs os v y hm t ih=>
  intro k q hq;simp only[j5] at hq;obtain⟨i,h,h1,h2,h3⟩:=ih (k+1) q hq;refine⟨i+1,h,by omega,?_,h3⟩;cases hj:q.2.1 with
  | none=>rw[hj] at h2; simpa [aa5] using h2
  | some j=>rw[hj] at h2; obtain⟨us,g1,g2⟩:=h2; exact⟨us,by simpa using g1,g2⟩
theorem RepA.mem {lk:Lk}:∀ {caps:List (Value × AV)} {F X:aH},RepA w lk F X (caps.map (·.1)) (caps.map (·.2))->∀ v y,(v,y) ∈ caps->∃ G Z,RepA w lk G Z [v] [y]/\(∀ b,G b<=F b)/\∀ b,Z b<=X b:=by
 intro caps;induction caps with
 | nil=>intro F X _ v y h; cases h
 | cons c caps ih=>
  intro F X h v y hm;obtain⟨A1,A2,Y1,Y2,q1,q2,eA,eY⟩:=RepA.uncons h;rcases lN.1 hm with rfl | hm
  ·exact⟨A1,Y1,q1,fun b=>by have:=eA b; omega,fun b=>by have:=eY b; omega⟩
  ·obtain⟨G,Z,h1,h2,h3⟩:=ih q2 v y hm;exact⟨G,Z,h1,fun b=>by have:=eA b; have:=h2 b; omega,fun b=>by have:=eY b; have:=h3 b; omega⟩
theorem RepA.lk0 {F X:aH} {vs:List Value} {xs:List AV} (h:RepA w Awp.lk0 F X vs xs) (lk':Lk):RepA w lk' F X vs xs:=
 h.same (fun _ _ _ _ e=>by cases e) (fun _ _=>rfl) (fun _ _=>rfl)
theorem aa6 {f:Nat} {vs:List Value} {args outs:List AV} {ret:AV} {G Y:aH} (hS:mU P f args ret outs) (gRep:RepA w lk0 G Y vs args) (one:∀ b,G b<=1)
  (dis:∀ b,Y b≠0->G b=0/\b<w.heap.size) (src:∀ b,ae5 Xs XP b->G b=0/\b<w.heap.size)
  (ec:(dY (ret::outs)=false/\∀ x ∈ dZ (ret::outs),x ∈ dZ args)\/(∀ b,Y b≠0->ae5 Xs XP b)) (gV:∀ q ∈ dZ args,∃ Z,Row w false Z [q.1] [.sl q.2.1 q.2.2]/\∀ b,Z b≠0->ae5 Xs XP b) :
  Calls P f vs.toArray w fun e w'=>∃ v,e=.returned v/\Grows w w'/\(∀ b,b<w.heap.size->G b=0->w'.heap[b]?=w.heap[b]?) /\
   ∃ F' X',RepA w' lk0 F' X' (v::vs) (ret::outs)/\(∀ b,F' b<=1)/\(∀ b,F' b≠0->G b≠0\/w.heap.size<=b) /\
    (∀ b,X' b≠0->F' b=0/\b<w'.heap.size/\(G b≠0\/w.heap.size<=b\/ae5 Xs XP b)):=by
 obtain⟨_,_,iw⟩:=hS;refine Calls.mono' (iw w vs G Y gRep one (fun b=>by
  by_cases e:Y b=0
  ·exact .inr e
  ·exact .inl (dis b e).1) (fun b hb=>(dis b hb).2)) ?_
 rintro e w' ⟨v,F',X',rfl,hr,h1,h2,h3,h4,h5,h6⟩;have h3':=h3.size;refine⟨v,rfl,h3,h4,?_⟩;rcases ec with ⟨c1,c2⟩ | c
 ·obtain⟨Y',y1,y2⟩:=aiL hr (fun b=>ae5 Xs XP b) c1 (fun q hq=>by
   obtain⟨Z,z1,z2⟩:=gV q (c2 q hq);exact⟨Z,z1.same (fun b hb=>h4 b (src b (z2 b hb)).2 (src b (z2 b hb)).1),z2⟩)
  refine⟨F',Y',y1,h1,h5,fun b hb=>?_⟩;obtain⟨s1,s2⟩:=src b (y2 b hb);refine⟨?_,by omega,.inr (.inr (y2 b hb))⟩;by_cases e:F' b=0
  ·exact e
  ·have:=h5 b e; omega
 ·refine⟨F',X',hr,h1,h5,fun b hb=>⟨?_,(h6 b hb).2,?_⟩⟩
  ·have:=h2 b; omega
  ·rcases(h6 b hb).1 with h | h | h
   ·exact .inr (.inr (c b h))
   ·exact .inl h
   ·exact .inr (.inl h)
theorem zJ {v:Value} {x:AV} (P1:PR B hid w a E Fs Xs FP XP [v] [x]) (hh:∀ t,t<2000->hid t=hv t) {d:Option Nat} (hd:∀ q,d=some q->q<B.n):bC B hv w (a.put d v) (mF E d x):=by
 cases d with
 | some d=>exact bG P1 hh (hd d rfl)
 | none=>exact⟨hid,Fs,Xs,P1.rel,hh⟩
theorem uH {ms:List M} {os:List O} {vs:List Value} {caps:List (Value × AV)} {XP0:aH} {d:Option Nat} {f:Nat} {K:Env->Prop}
  (ae:mE P f->(execOp a.eval o).run P w=.ok (.enter f vs.toArray) w) (hd:o.dst=d) (aj:∀ q,d=some q->q<B.n) (hC:CallOk B.n a caps ms vs os)
  (P0:PR B hid w a E Fs Xs (fun _=>0) XP0 (caps.map (·.1)) (caps.map (·.2))) (ax:bV (caps.map (·.2))=false) (hh:∀ t,t<2000->hid t=hv t) (h:fE P d f os ms K E) :
  o.wp P a w (fun a' w'=>∃ E',K E'/\bC B hv w' a' E') Q:=by
 obtain⟨pr,dx,ret,outs,hS,ec,E',cl,hK⟩:=h;unfold Oper.wp;rw[ae hS.1,Oper.upon_enter,hd];unfold aaF at dx;obtain⟨mv,hmv,dx⟩:=bind_some dx;obtain⟨Fs1,Xs1,FP1,XP1,us,xs,P1,hm⟩:=aiN (mv:=mv.1) (E1:=mv.2) hC P0 hmv;have R1:=P1.rel;obtain⟨C1,C2,Y1,Y2,q1,q2,eC,eY⟩:=RepA.split (caps.map (·.1)) (caps.map (·.2)) A8 P1.rep;have eg:=fI q1 ax;have hcap:∀ v y,(v,y) ∈ caps->∃ X,RepA w (aM w (aI a.tmps hid) mv.2) (fun _=>0) X [v] [y]/\∀ b,X b≠0->ae5 Xs1 XP1 b:=by
  intro v y hm;obtain⟨G,Z,h1,h2,h3⟩:=RepA.mem q1 v y hm;exact⟨Z,h1.foot (fun b=>by have:=h2 b; have:=eg b; omega) (fun _=>rfl),fun b hb=>.inl (by have:=h3 b; have:=eY b; omega)⟩
 have srcLt:∀ b,ae5 Xs1 XP1 b->b<w.heap.size:=by
  rintro b (h | ⟨t,h⟩)
  ·exact(P1.orgx b h).2
  ·exact R1.ltx t b h
 have srcF:∀ b,ae5 Xs1 XP1 b->FP1 b=0/\∀ t,Fs1 t b=0:=by
  rintro b (h | ⟨t,h⟩)
  ·exact⟨by have:=P1.dx3 b; omega,fun t=>by have:=P1.dx2 t b; omega⟩
  ·exact⟨by have:=P1.dx1 t b; omega,fun t'=>by have:=R1.disx t' t b; omega⟩
 split at dx
 ·
  rename_i bp;obtain⟨args,br,dx⟩:=bind_some dx;obtain⟨ay,dx⟩:=aC dx;cases dx;have hA:=ae6 (ln:=none) (hd:=undef) R1 hcap (fun _ _ _ h=>by cases h) hC (.inl bp);obtain⟨G,Y,g1,g2,g3,g4,g5⟩:=xK (ln:=none) (hd:=undef) (Fu:=fun _=>0) (Xu:=fun _=>0) R1 (fun _ _ _ h=>by cases h) hm hA br q2 (fun b hb=>by have:=eY b; omega);have hG:∀ b,G b=FP1 b:=fun b=>by rw[g2,eC,eg]; omega
  have fb:=aa6 (Xs:=Xs1) (XP:=XP1) hS (g1.noLk lk0 ay) (fun b=>by rw[hG]; exact P1.one b)
   (fun b hb=>by
    rw[hG];rcases g3 b hb with h | ⟨t,_,h⟩
    ·exact⟨(srcF b h).1,srcLt b h⟩
    ·exact⟨by have:=P1.dis t b; omega,(R1.rep t).lt b h⟩)
   (fun b hb=>by rw[hG]; exact⟨(srcF b hb).1,srcLt b hb⟩)
   (ec.imp_right (fun hp=>g4 hp)) g5
  refine Calls.mono' fb ?_;rintro e w' ⟨v,rfl,k1,k2,F',X',k3,k4,k5,k6⟩;have k1':=k1.size;simp only[mM] at cl;obtain⟨ku,cl⟩:=aC cl;obtain⟨FP',XP',P2⟩:=PR.turn0 (w':=w') (vs':=v::vs) (xs':=ret::outs) P1 k1 (fun b hb h0=>k2 b hb (by rw[hG]; exact h0)) (fun lk'=>by
   refine⟨F',X',fun b=>k4 b,fun b hb=>?_,fun b hb=>?_,k3.lk0 lk'⟩
   ·have:=k5 b hb; rw[hG] at this; exact this
   ·obtain⟨j1,j2,j3⟩:=k6 b hb;rw[hG] at j3;refine⟨j1,j2,?_⟩;rcases j3 with h | h | h | h
    ·exact .inl h
    ·exact .inr (.inl h)
    ·exact .inr (.inr (.inr h))
    ·exact .inr (.inr (.inl h)))
  have hplc:∀ q ∈ j5 E 0 ms os,∃ h,i4 w' (aI a.tmps hid q.2.2.1) q.2.2.2=some h/\aa5 vs q.1 q.2.1 h:=by
   intro q hq;obtain⟨i,h,h1,h2,h3⟩:=alL P0.rel hC 0 q hq;rw[lP] at ku;have hu:=ae7 (ku q hq);obtain⟨hd0,Fu,Fr,Xu,Xr,hF,hX,_,ai,an⟩:=j7 q.2.2.2 (R1.rep q.2.2.1) hu;rw[h3] at ai;cases ai;have samF:∀ t,j6 w w' (Fs1 t):=fun t b hb=>k2 b ((R1.rep t).lt b hb) (by rw[hG]; have:=P1.dis t b; omega)
   have samX:∀ t,j6 w w' (Xs1 t):=fun t b hb=>k2 b (R1.ltx t b hb) (by rw[hG]; have:=P1.dx1 t b; omega)
   have:=(an w' (aM w (aI a.tmps hid) mv.2) (fun b hb=>samF q.2.2.1 b (by have:=hF b; omega)) (fun b hb=>samX q.2.2.1 b (by have:=hX b; omega)) (fun _ _ _ _ h=>.inr h)).1;exact⟨_,this,by rw[h1,lL2]; exact h2⟩
  obtain⟨os',Fs3,Xs3,FP3,XP3,P3⟩:=ac6 _ P2 cl hplc;obtain⟨A1,A2,Z1,Z2,r1,r2,eA,eZ⟩:=RepA.uncons P3.rep;exact⟨_,hK,zJ (P3.shrink r1 (fun b=>by have:=eA b; omega) (fun b=>by have:=eZ b; omega)) hh aj⟩
 ·
  obtain⟨k,hk,dx⟩:=bind_some dx;obtain⟨ln,hln,dx⟩:=bind_some dx;obtain⟨args,br,dx⟩:=bind_some dx;obtain⟨ay,dx⟩:=aC dx;cases dx;obtain⟨r,p,x⟩:=ln;have oq:∀ {ms:List M} {os:List O},eJ mv.2 ms os=some (r,p,x)->∃ y,cC mv.2 y=some (r,p,x):=by
   intro ms;induction ms with
   | nil=>intro os h; cases os <;> simp[eJ] at h
   | cons md ms ih=>
    intro os h;cases os with
    | nil=>cases md <;> simp[eJ] at h
    | cons o' os=>
     cases md with
     | l=>simp only[eJ] at h; exact⟨_,h⟩
     | b=>simp only[eJ] at h; exact ih h
     | m=>simp only[eJ] at h; exact ih h
     | p=>simp only[eJ] at h; exact ih h
  obtain⟨y,hy⟩:=oq hln;obtain⟨hg,af,hxroot⟩:=ac5 hy;obtain⟨hd0,Fu,Fr,Xu,Xr,L⟩:=aoe R1 hg;have hA:=ae6 (ln:=some (r,p,x)) (hd:=hd0) R1 hcap (fun r' p' x' h=>by cases h; exact L.res) hC (.inr ⟨by rw[hk]; rfl,hln,by simp⟩);obtain⟨G,Y,g1,g2,g3,g4,g5⟩:=xK (ln:=some (r,p,x)) (hd:=hd0) (Fu:=Fu) (Xu:=Xu) R1 (fun r' p' x' h=>by cases h; exact⟨L.rep,fun b=>by have:=L.hX b; omega⟩) hm hA br q2 (fun b hb=>by have:=eY b; omega);have hcnt:=cntL_le.2 (show (c5 ms).isSome=true by rw[hk]; rfl);have hG:∀ b,G b=Fu b+FP1 b:=fun b=>by rw[g2,eC,eg,hcnt]; omega
  have hFu:∀ b,Fu b<=Fs1 r b:=fun b=>by have:=L.hF b; omega
  have one:∀ b,G b<=1:=fun b=>by have:=hG b; have:=hFu b; have:=R1.one r b; have:=P1.one b; have:=P1.dis r b; omega
  have fb:=aa6 (Xs:=Xs1) (XP:=XP1) hS (g1.noLk lk0 ay) one
   (fun b hb=>by
    rcases g3 b hb with h | ⟨t,ht,h⟩
    ·have:=srcF b h; have:=hFu b; have:=this; exact⟨by have h2:=(srcF b h).2 r; have:=hG b; have:=(srcF b h).1; omega,srcLt b h⟩
    ·have htr:t≠r:=fun e=>ht (by rw[e]; rfl)
     exact⟨by have:=P1.dis t b; have:=R1.dis t r b htr; have:=hFu b; have:=hG b; omega,(R1.rep t).lt b h⟩)
   (fun b hb=>⟨by have h2:=(srcF b hb).2 r; have:=hG b; have:=(srcF b hb).1; have:=hFu b; omega,srcLt b hb⟩)
   (ec.imp_right (fun hp=>g4 hp)) g5
  refine Calls.mono' fb ?_;rintro e w' ⟨v,rfl,k1,k2,F',X',k3,k4,k5,k6⟩;have k1':=k1.size;simp only[mM,aaH] at cl;obtain⟨un,hun,cl⟩:=bind_some cl;obtain⟨⟨cr,hur⟩,cl⟩:=aC cl;cases cl;have nz:=alJ hA hk;obtain⟨A1,A2,Z1,Z2,r1,r2,eA,eZ⟩:=RepA.uncons k3;obtain⟨v',B1,B2,W1,W2,j1,j2,eB,eW,_⟩:=RepA.at r2 hun;rw[nz] at j1; cases j1;obtain⟨Fs',Xs',FP',XP',P2⟩:=PR.turn (w':=w') (vs':=[v]) (xs':=[ret]) (un:=un) P1 L.hF L.hX L.rest cr (mY _ _ _ af hur) k1 (fun b hb h0 h1=>k2 b hb (by rw[hG]; omega)) (fun lk'=>by
   refine⟨B1,W1,A1,Z1,fun b=>by have:=eA b; have:=eB b; have:=k4 b; omega,fun b hb=>?_,fun b hb=>?_,j2.lk0 lk',r1.lk0 lk'⟩
   ·have:=k5 b (by have:=eA b; have:=eB b; omega); rw[hG] at this; exact this
   ·obtain⟨j1,j2,j3⟩:=k6 b (by have:=eZ b; have:=eW b; omega);rw[hG] at j3;refine⟨by have:=eA b; have:=eB b; omega,j2,?_⟩;rcases j3 with h | h | h | h
    ·exact .inl h
    ·exact .inr (.inl h)
    ·exact .inr (.inr (.inr h))
    ·exact .inr (.inr (.inl h)))
  exact⟨_,hK,zJ P2 hh aj⟩
theorem aiP:∀ {p q s:bA},ak6 p q=some s->q=p++s:=by
 intro p;induction p with
 | nil=>intro q s h; cases h; rfl
 | cons a p ih=>
  intro q s h;cases q with
  | nil=>cases h
  | cons b q=>
   obtain⟨⟨h1,h2,h3⟩,h4⟩:=aC h;have:a=b:=by cases a; cases b; simp_all
   rw[this,ih h4]; rfl
theorem agy {r e:Nat} {p:bA}:∀ {cs:List AV} {k j:Nat} {p0 q:bA},mN r e p k cs=some (j,p0,q)->k<=j/\cs[j-k]?=some (.lnk r e p0)/\p=p0++q:=by
 intro cs;induction cs with
 | nil=>intro k j p0 q h; cases h
 | cons c cs ih=>
  intro k j p0 q h;have tl:mN r e p (k+1) cs=some (j,p0,q)->k<=j/\(c::cs)[j-k]?=some (.lnk r e p0)/\p=p0++q:=by
   intro h;obtain⟨h1,h2,h3⟩:=ih h;refine⟨by omega,?_,h3⟩;rw[show j-k=(j-(k+1))+1 by omega];simpa using h2
  cases c with
  | lnk r' e' p'=>
   simp only[mN] at h;split at h
   ·rename_i hre;obtain⟨rfl,rfl⟩:=hre;cases hc:ak6 p' p with
    | none=>rw[hc] at h; exact tl h
    | some s=>
     rw[hc] at h;cases h;exact⟨lE1 _,by simp,aiP hc⟩
   ·exact tl h
  | _=>exact tl h
theorem anu (vl:Nat->Value) {r e:Nat} {p:bA} (h:vld E r e p=true):aM w vl E r e p=some (i4 w (vl r) p):=by
 simp only[vld,lM,beq_iff_eq] at h;obtain⟨⟨h1,h2⟩,h3⟩:=h;unfold aM;rw[lO A7,lK ⟨h1,h2,h3⟩]
theorem aof (R:Rel B hid w a E Fs Xs) {us:List Value} {cs cs':List AV} {F X F' X':aH} (rx:RepA w (aM w (aI a.tmps hid) E) F X us cs) {v:Value} {x:AV}
  (ry:RepA w (aM w (aI a.tmps hid) E) F' X' [v] [x]):RepA w (lkK w us cs') (fun _=>0) (fun _=>0) [v] [trC E cs cs' x]:=by
 cases x with
 | bool b=>cases ry with | bool _ _ _ _ _ _=>exact .bool _ _ _ _ _ RepA.znil
 | int k n=>cases ry with | int _ _ _ _ _ _ _=>exact .int _ _ _ _ _ _ RepA.znil
 | str s=>cases ry with | str _ _ _ _ _ _=>exact .str _ _ _ _ _ RepA.znil
 | lnk r e p=>
  simp only[trC];cases hf:mN r e p 0 cs with
  | none=>exact .undef _ _ _ _ _ RepA.znil
  | some t=>
   obtain⟨j,p0,q⟩:=t;simp only[trF];cases hc:cs'[j]? with
   | none=>exact .undef _ _ _ _ _ RepA.znil
   | some c=>
    simp only;split
    case isFalse=>exact .undef _ _ _ _ _ RepA.znil
    rename_i ec;obtain⟨v1,v2,hr,ha⟩:=ec;obtain⟨_,hj,rfl⟩:=agy hf;obtain⟨u,F1,F2,X1,X2,hu,ru,_⟩:=RepA.at rx hj;have l1:=anu (w:=w) (aI a.tmps hid) v1;have l2:=anu (w:=w) (aI a.tmps hid) v2;have hg:(b9 (E.f r) p0).isSome=true:=by
     simp only[vld,lM] at v1; exact v1.2
    obtain⟨z,hz⟩:=lI2.1 hg;obtain⟨hd,Fu,Fr,Xu,Xr,_,_,_,ai,_⟩:=j7 p0 (R.rep r) hz;have hud:u=hd:=by
     cases ru with
     | lnk _ _ _ _ _ o _ _ _ ho hv _=>
      rw[l1,ai] at ho; cases ho; exact hv _ rfl
    subst hud;cases ry with
    | lnk _ _ _ _ _ o _ _ _ ho hv _=>
     rw[l2,uD,ai] at ho;cases ho;refine .lnk _ _ _ _ _ (i4 w u q) _ _ _ ?_ hv RepA.znil;unfold lkK;have e1:(1000+(32*(j+1)+0)-1032)/32=j:=by omega
     rw[lK rfl,e1,hc,show us[j]?=some u by simpa using hu];simp only;rw[lK ⟨trivial,hr,ha⟩]
 | _=>exact .undef _ _ _ _ _ RepA.znil
theorem aog (R:Rel B hid w a E Fs Xs) {us:List Value} {cs cs':List AV} {F X:aH} (rx:RepA w (aM w (aI a.tmps hid) E) F X us cs):∀ {ds:List AV} {zs:List Value} {F' X':aH},
  RepA w (aM w (aI a.tmps hid) E) F' X' zs ds->RepA w (lkK w us cs') (fun _=>0) (fun _=>0) zs (trL E cs cs' ds):=by
 intro ds;induction ds with
 | nil=>
  intro zs F' X' h;have:=h.length;cases zs with
  | nil=>exact RepA.znil
  | cons z zs=>simp at this
 | cons d ds ih=>
  intro zs F' X' h;cases zs with
  | nil=>have:=h.length; simp at this
  | cons z zs=>
   obtain⟨A1,A2,Y1,Y2,q1,q2,eA,eY⟩:=RepA.uncons h;exact RepA.cons (aof R rx q1) (ih q2) (fun _=>rfl) (fun _=>rfl)
theorem ac7 {x' y':Operand} {x y:O} {d:Option Nat} {f:Nat} {K:Env->Prop}
  (ae:mE P f->(execOp a.eval o).run P w=.ok (.enter f ([x',y'].map a.eval).toArray) w) (hd:o.dst=d) (aj:∀ q,d=some q->q<B.n) (ox:OpdOk B.n x' x) (oy:OpdOk B.n y' y)
  (R:Rel B hid w a E Fs Xs) (hh:∀ t,t<2000->hid t=hv t) (h:oM P d f x y K E):o.wp P a w (fun a' w'=>∃ E',K E'/\bC B hv w' a' E') Q:=by
 unfold oM rS at h;split at h
 case h_2=>exact h.elim
 rename_i cs ds cs' E1 e1 e2 e3;obtain⟨ay,ret,outs,hS,⟨kv,mc⟩,hK⟩:=h;unfold Oper.wp;rw[ae hS.1,Oper.upon_enter,hd];obtain⟨Fx,Xx,rx,_⟩:=bJ R ox;obtain⟨Fy,Xy,ry,_⟩:=bJ R oy;obtain⟨Fs1,Xs1,FP1,XP1,P1⟩:=dN ox (PR.nil R) e3;rw[e1] at rx; rw[e2] at ry;simp only[lI1] at P1;obtain⟨us,jp,_,rx'⟩:=RepA.open_agg (us:=[]) (ys:=[]) rfl rx;obtain⟨zs,dw,_,ry'⟩:=RepA.open_agg (us:=[]) (ys:=[]) rfl ry;obtain⟨us',hus',_,rc'⟩:=RepA.open_agg (us:=[]) (ys:=[]) rfl P1.rep;rw[jp] at hus';have:us'=us:=by injection hus' with h; simpa using h.symm
 subst this;simp only[lI1,lX2] at rx' ry' rc';simp only[lR,lW2,jp,dw];have fb:=hS.2.2 w us' zs FP1 XP1 (rc'.noLk lk0 ay) (aog R rx' ry') P1.one P1.dx3 (fun b hb=>(P1.orgx b hb).2);refine Calls.mono' fb ?_;rintro e w' ⟨v,F',X',rfl,hr,h1,h2,h3,h4,h5,h6⟩;obtain⟨Y',y1,y2⟩:=aiL hr (fun _=>False) kv (fun q hq=>by rw[mc] at hq; cases hq);obtain⟨FP',XP',P2⟩:=PR.turn0 (w':=w') (vs':=[v,.agg us'.toArray,.agg zs.toArray]) (xs':=ret::outs) P1 h3 h4 (fun lk'=>
  ⟨F',Y',h1,h5,fun b hb=>(y2 b hb).elim,y1.lk0 lk'⟩)
 obtain⟨A1,A2,Z1,Z2,r1,r2,eA,eZ⟩:=RepA.uncons P2.rep;exact⟨_,hK,zJ (P2.shrink r1 (fun b=>by have:=eA b; omega) (fun b=>by have:=eZ b; omega)) hh aj⟩
theorem ac8 {d:Nat} {op:BinOp} {t:TypeId} {x y:O} {i:I} (h:apH P d op t x y=some i):i.isCall=false:=by
 unfold apH at h;split at h
 ·cases h; rfl
 ·cases h; rfl
 ·cases h; rfl
 ·cases h; rfl
 ·cases h; rfl
 ·cases h; rfl
 ·obtain⟨_,h⟩:=aC h; obtain⟨_,_,rfl⟩:=map_some h; rfl
 ·obtain⟨_,h⟩:=aC h; obtain⟨_,_,rfl⟩:=map_some h; rfl
 ·cases h
def NC (x:Option I):Prop:=∀ i,x=some i->i.isCall=false
theorem apP {α:Type} {x:Option α} {f:α->I} (hf:∀ y,(f y).isCall=false):NC (x.map f):=by
 intro i h; obtain⟨y,_,rfl⟩:=map_some h; exact hf y
theorem aoh {α:Type} {x:Option α} {f:α->Option I} (hf:∀ y,NC (f y)):NC (x.bind f):=by
 intro i h; obtain⟨y,_,h⟩:=bind_some h; exact hf y i h
theorem apQ {c:Prop} [Decidable c] {x y:Option I} (hx:NC x) (hy:NC y):NC (if c then x else y):=by
 split
 ·exact hx
 ·exact hy
theorem aoi:NC none:=fun i h=>by cases h
theorem aoj {i:I} (h:i.isCall=false):NC (some i):=fun j e=>by cases e; exact h
theorem alM {n:Nat} {i:I} (hc:cOp P n o=some i) (hi:i.isCall=true):(∀ q,o.dst=some q->q<n)/\∃ args ts l,
  (∃ f,o.op=.call ⟨.value (.func f),args,ts⟩/\yX P n args.toList ts.toList=some l/\i=.call o.dst f l) \/
  (∃ t,t<n/\o.op=.call ⟨.value (.tmp t),args,ts⟩/\yX P n args.toList ts.toList=some l/\i=.callv o.dst (.t t) l):=by
 unfold cOp at hc;split at hc
 ·cases hc
 rename_i bi;refine⟨fun q hq=>by rw[hq] at bi; simpa using bi,?_⟩;split at hc
 case h_22 c ho=>
  obtain⟨callee,args,ts⟩:=c;simp only at hc;split at hc
  ·obtain⟨_,hc⟩:=aC hc;obtain⟨_,_,hc⟩:=bind_some hc;split at hc <;> first | (cases hc; cases hi) | cases hc
  ·obtain⟨_,_,hc⟩:=bind_some hc;obtain⟨_,_,hc⟩:=bind_some hc;obtain⟨_,_,hc⟩:=bind_some hc;obtain⟨_,_,hc⟩:=bind_some hc;obtain⟨_,hc⟩:=aC hc;cases hc; cases hi
  ·obtain⟨_,_,hc⟩:=bind_some hc;obtain⟨_,_,hc⟩:=bind_some hc;obtain⟨_,_,hc⟩:=bind_some hc;obtain⟨_,_,hc⟩:=bind_some hc;obtain⟨_,hc⟩:=aC hc;cases hc; cases hi
  ·obtain⟨_,_,hc⟩:=bind_some hc;obtain⟨_,_,hc⟩:=bind_some hc;obtain⟨_,_,hc⟩:=bind_some hc;obtain⟨_,_,hc⟩:=bind_some hc;obtain⟨_,hc⟩:=aC hc;cases hc; cases hi
  ·obtain⟨_,_,hc⟩:=bind_some hc;obtain⟨_,_,rfl⟩:=map_some hc;cases hi
  ·obtain⟨_,_,hc⟩:=bind_some hc;obtain⟨_,_,rfl⟩:=map_some hc;cases hi
  ·rename_i f;obtain⟨l,h1,rfl⟩:=map_some hc;exact⟨args,ts,l,.inl ⟨f,ho,h1,rfl⟩⟩
  ·rename_i t;obtain⟨ht,hc⟩:=aC hc;obtain⟨l,h1,rfl⟩:=map_some hc;exact⟨args,ts,l,.inr ⟨t,ht,ho,h1,rfl⟩⟩
  ·cases hc
 all_goals exfalso
 all_goals (
  have jy:=fun (h:NC _)=>h i hc
  have:i.isCall=false:=jy (by
   repeat (first
    | exact aoi
    | exact aoj rfl
    | exact(fun _ h=>ac8 h)
    | (refine apP (fun _=>?_); rfl)
    | (refine aoh (fun _=>?_))
    | (refine apQ ?_ ?_)
    | split))
  rw[this] at hi; cases hi)
theorem aok:∀ {ms:List M} {os:List O} {E:Env} {q:List (Option AV) × Env},mvP E ms os=some q->ms.length=os.length:=by
 intro ms;induction ms with
 | nil=>intro os E q h; cases os <;> simp[mvP] at h ⊢
 | cons md ms ih=>
  intro os E q h;cases os with
  | nil=>cases md <;> simp[mvP] at h
  | cons x os=>
   cases md with
   | m=>simp only[mvP] at h; obtain⟨g,_,h⟩:=bind_some h; obtain⟨y,h,_⟩:=map_some h; simp[ih h]
   | p=>simp only[mvP] at h; obtain⟨g,_,h⟩:=bind_some h; obtain⟨y,h,_⟩:=map_some h; simp[ih h]
   | b=>simp only[mvP] at h; obtain⟨y,h,_⟩:=map_some h; simp[ih h]
   | l=>simp only[mvP] at h; obtain⟨y,h,_⟩:=map_some h; simp[ih h]
theorem uI {n:Nat} {caps:List (Value × AV)}:∀ {xs:List Operand} {os:List O},OpdsOk n xs os->∀ {ms:List M},ms.length=os.length->CallOk n a caps ms (xs.map a.eval) os:=by
 intro xs os h;induction h with
 | nil=>intro ms h; cases ms with | nil=>exact .nil | cons _ _=>cases h
 | cons h _ ih=>intro ms hl; cases ms with | nil=>cases hl | cons md ms=>exact .opd h (ih (by simpa using hl))
theorem ac9 {n:Nat} {caps:List (Value × AV)}:∀ {cs:List (Value × AV)},(∀ c ∈ cs,c ∈ caps)->∀ {ms:List M} {vs:List Value} {os:List O},CallOk n a caps ms vs os ->
  CallOk n a caps (ms++cs.map fun _=>.b) (vs++cs.map (·.1)) (os++cs.map fun c=>.c c.2):=by
 intro cs hcs ms vs os h;induction h with
 | nil=>
  simp only[lI1];induction cs with
  | nil=>exact .nil
  | cons c cs ih=>exact .cap (hcs c A8) (ih fun c hc=>hcs c (by simp[hc]))
 | opd h _ ih=>exact .opd h ih
 | cap h _ ih=>exact .cap h ih
theorem aiQ {ms:List M} {os:List O} {d:Option Nat} {f:Nat} {K:Env->Prop} (h:fE P d f os ms K E):ms.length=os.length:=by
 obtain⟨pr,dx,_⟩:=h;unfold aaF at dx;obtain⟨mv,hmv,_⟩:=bind_some dx;exact aok hmv
theorem alN {n:Nat} {l:List Operand} {x y:O} (h:OpdsOk n l [x,y]):∃ x' y',l=[x',y']/\OpdOk n x' x/\OpdOk n y' y:=by
 cases h with
 | cons h1 t=>cases t with
  | cons h2 t=>cases t with
   | nil=>exact⟨_,_,rfl,h1,h2⟩
theorem uJ {f:Nat} {args:Array Value} (h:mE P f):(callFunc f args).run P w=.ok (.enter f args) w:=by
 obtain⟨fn,h1,h2,h3⟩:=h;have h4:¬ fn.name= "runtime.NumGoroutine":=by simpa using h3
 have h5:¬ fn.body=none:=by intro e; rw[e] at h2; cases h2
 simp[callFunc,h1,h4,h5]
theorem apR {lk:Lk} {F X:aH} {v:Value} {f:Nat} {cs:List AV} (h:RepA w lk F X [v] [.fn f cs]):∃ us,v=.func (.func f) #[] us.toArray/\us.length=cs.length/\∃ F1 X1,RepA w lk F1 X1 us cs/\∀ b,X1 b<=X b:=by
 cases h with
 | fn _ F1 F2 _ X1 X2 f us cs _ _ h1 h hF hX=>exact⟨us,rfl,h1.length,F1,X1,h1,fun b=>by have:=hX b; omega⟩
theorem RepA.blank {lk:Lk}:∀ (cs:List AV) (j:Nat) {F X:aH} {us:List Value},RepA w lk F X us cs->∃ F' X',RepA w lk F' X' us (cs.set j .undef)/\(∀ b,F' b<=F b)/\∀ b,X' b<=X b:=by
 intro cs;induction cs with
 | nil=>intro j F X us h; exact⟨F,X,by simpa using h,fun _=>lE1 _,fun _=>lE1 _⟩
 | cons c cs ih=>
  intro j F X us h;cases us with
  | nil=>have:=h.length; simp at this
  | cons u us=>
   obtain⟨A1,A2,Y1,Y2,q1,q2,eA,eY⟩:=RepA.uncons h;cases j with
   | zero=>
    refine⟨A2,Y2,?_,fun b=>by have:=eA b; omega,fun b=>by have:=eY b; omega⟩;exact .undef _ _ _ _ _ q2
   | succ j=>
    obtain⟨F',X',h',l1,l2⟩:=ih j q2;refine⟨fun b=>A1 b+F' b,fun b=>Y1 b+X' b,RepA.cons q1 h' (fun _=>rfl) (fun _=>rfl),fun b=>by have:=eA b; have:=l1 b; (try dsimp only); omega,fun b=>by have:=eY b; have:=l2 b; (try dsimp only); omega⟩
theorem ada (E:Env) (t:Nat) (x:AV):(E.put t .undef).put t x=E.put t x:=by
 apply Env.ext'
 ·intro q;by_cases h:q=t
  ·subst h; rw[cQ,cQ]
  ·rw[bX h,bX h,bX h]
 ·intro q;by_cases h:q=t
  ·subst h;show (if q=q/\((E.put q .undef).f q).isRoot=true then _ else (E.put q .undef).ep q)=(E.put q x).ep q;rw[cQ];simp[AV.isRoot,Env.put]
  ·rw[cY h,cY h,cY h]
theorem agz:∀ (W:List (Nat × Nat)) {E:Env},bC B hv w a E->bC B hv w a (j9 E W):=by
 intro W;induction W with
 | nil=>intro E G; exact G
 | cons q W ih=>
  obtain⟨t,j⟩:=q;intro E G;refine ih ?_;obtain⟨hid,Fs,Xs,R,hh⟩:=G;obtain⟨Fs',Xs',FP',XP',P1⟩:=(PR.nil R).move t;simp only[lI1] at P1;have key:∃ FP2 XP2,PR B hid w a (E.put t .undef) Fs' Xs' FP2 XP2 [aI a.tmps hid t] [aeO j (E.f t)]:=by
   cases hf:E.f t with
   | agg cs=>
    rw[hf] at P1;obtain⟨zs,hz,mf,hr⟩:=RepA.open_agg (us:=[]) (ys:=[]) (vs:=[]) (xs:=[]) rfl (by simpa using P1.rep);simp only[lI1,lX2] at hr;obtain⟨F',X',h',l1,l2⟩:=RepA.blank cs j hr;have hc:=RepA.close_agg (us:=[]) (ys:=[]) (vs:=[]) (xs:=[]) (zs:=zs) (cs:=cs.set j .undef) rfl (by rw[mf,List.length_set]) (by simpa using h');simp only[lI1] at hc;rw[hz];rw[hz] at P1;exact⟨_,_,P1.shrink hc l1 l2⟩
   | _=>rw[hf] at P1; exact⟨_,_,P1⟩
  obtain⟨FP2,XP2,P2⟩:=key;obtain⟨Fs3,Xs3,FP3,XP3,P3⟩:=P2.back t rfl;rw[ada] at P3;exact⟨hid,Fs3,Xs3,P3.rel,hh⟩
theorem qW {i:I} {K:Env->Prop} (hc:cOp P B.n o=some i) (hn:B.n<=1000) (G:bC B hv w a E) (h:qR P i K E) :
  o.wp P a w (fun a' w'=>∃ E',K E'/\bC B hv w' a' E') Q:=by
 by_cases bk:i.isCall=true
 ·obtain⟨aj,args,ts,l,⟨f,ho,hl,rfl⟩ | ⟨t,en,ho,hl,rfl⟩⟩:=alM hc bk
  ·rcases h with ⟨W,ms,h⟩ | ⟨ms,x,y,rfl,rfl,h⟩
   rotate_left
   ·obtain⟨hid,Fs,Xs,R,hh⟩:=G;have ae:mE P f->(execOp a.eval o).run P w=.ok (.enter f (args.toList.map a.eval).toArray) w:=by
     intro hE;rw[execOp,ho];have e:(args.toList.map a.eval).toArray=args.map a.eval:=by rw[<-lH5]
     rw[e];simp[resolve,invoke,Deferred.ofValue,Act.eval,uJ hE]
    obtain⟨x',y',hxy,ox,oy⟩:=alN (y8 hl);rw[hxy] at ae;exact ac7 ae rfl aj ox oy R hh h
   replace G:=agz W G;generalize j9 E W=E at *;obtain⟨hid,Fs,Xs,R,hh⟩:=G;have ae:mE P f->(execOp a.eval o).run P w=.ok (.enter f (args.toList.map a.eval).toArray) w:=by
    intro hE;rw[execOp,ho];have e:(args.toList.map a.eval).toArray=args.map a.eval:=by rw[<-lH5]
    rw[e];simp[resolve,invoke,Deferred.ofValue,Act.eval,uJ hE]
   exact uH (caps:=[]) ae rfl aj (uI (y8 hl) (aiQ h)) (PR.nil R) rfl hh h
  ·simp only[qR] at h;split at h
   case h_2=>exact h.elim
   rename_i f caps hv';obtain⟨ms,hms,ax,h⟩:=h;obtain⟨hid,Fs,Xs,R,hh⟩:=G;have ht:OpdOk B.n (.tmp t) (.t t):=.tmp t en;obtain⟨F,X,hr,_,hX,_⟩:=bJ R ht;rw[hv'] at hr;obtain⟨us,az,mj,F1,X1,hr1,hX1⟩:=apR hr;have hz:=fI hr1 ax;have P0:∃ XP0,PR B hid w a E Fs Xs (fun _=>0) XP0 us caps:=by
    have nk:=(PR.nil R).copy (v:=.agg us.toArray) (x:=.agg caps) (.agg _ F1 (fun _=>0) _ X1 (fun _=>0) us caps [] [] hr1 RepA.znil (fun _=>rfl) (fun _=>rfl)) (by simpa using hz) (fun b hb=>hX b (by have:=hX1 b; (try dsimp only at hb); omega));obtain⟨XP0,nk⟩:=nk;obtain⟨zs,ca,da,lx⟩:=RepA.open_agg (us:=[]) (ys:=[]) rfl (by simpa using nk.rep);have:zs=us:=by simpa using ca.symm
    subst this;exact⟨XP0,nk.rerep (by simpa using lx)⟩
   obtain⟨XP0,P0⟩:=P0;have ca:(us.zip caps).map (·.1)=us:=by rw[<-List.unzip_fst,List.unzip_zip mj]
   have da:(us.zip caps).map (·.2)=caps:=by rw[<-List.unzip_snd,List.unzip_zip mj]
   have hCO:=ac9 (caps:=us.zip caps) (cs:=us.zip caps) (fun c hc=>hc) (uI (a:=a) (caps:=us.zip caps) (y8 hl) (ms:=ms) hms);have e1:(us.zip caps).map (fun _=>M.b)=caps.map fun _=>M.b:=by
    rw[<-da,lK5]; rw[da]; rfl
   have e2:(us.zip caps).map (fun c=>O.c c.2)=caps.map .c:=by
    conv=>rhs; rw[<-da]
    rw[lK5]; rfl
   rw[e1,e2,ca] at hCO;have ae:mE P f->(execOp a.eval o).run P w=.ok (.enter f (args.toList.map a.eval++us).toArray) w:=by
    intro hE;rw[execOp,ho];have e:(args.toList.map a.eval++us).toArray=args.map a.eval++us.toArray:=by apply Array.ext'; simp
    rw[e];simp[resolve,invoke,Deferred.ofValue,az,uJ hE]
   exact uH (caps:=us.zip caps) ae rfl aj hCO (by rw[ca,da]; exact P0) (by rw[da]; exact ax) hh h
 ·have hcl':i.isCall=false:=by simpa using bk
  have:∃ E',ev E i=some E'/\K E':=by
   cases i <;> first | exact h | cases hcl'
  obtain⟨E',h1,h2⟩:=this;exact Oper.wp_mono (fun a' w' hg=>⟨E',h2,hg⟩) (aiD hc hn hcl' G h1)
theorem alO (E:Env) (ks:Nat):∀ (cs:List AV) (j:Nat),(yW E ks cs)[j]?=(cs[j]?).map (oO E ks):=by
 intro cs;induction cs with
 | nil=>intro j; simp[yW]
 | cons c cs ih=>intro j; cases j <;> simp[yW,ih]
theorem alP (E:Env) (ks:Nat) (x:AV) (h:x.isRoot=true):(oO E ks x).isRoot=true:=by
 cases x <;> first | rfl | cases h
theorem alQ (E:Env) (ks:Nat):∀ (p:bA) (x:AV),(b9 x p).isSome=true->(b9 (oO E ks x) p).isSome=true:=by
 intro p;induction p with
 | nil=>intro x _; rw[pK]; rfl
 | cons st p ih=>
  intro x h;cases x with
  | own s es=>exact h
  | box cs=>
   simp only[b9] at h;split at h
   case isFalse=>cases h
   rename_i hi;simp only[oO,b9,hi,lQ,alO];cases hj:cs[st.j]? with
   | none=>simp[hj] at h
   | some c=>simp[hj] at h; simp; exact ih c h
  | _=>simp[b9] at h
theorem aol {E:Env} {ks:Nat} {lk lk':Lk} (hl:∀ r e p o,oH E ks r e p=true->lk r e p=some o->lk' r 0 p=some o) {F X:aH} {vs:List Value} {xs:List AV} (h:RepA w lk F X vs xs) :
  RepA w lk' F X vs (yW E ks xs):=by
 induction h with
 | nil F X hF hX=>exact .nil _ _ hF hX
 | undef F X v vs as h ih=>exact .undef _ _ _ _ _ ih
 | bool F X v vs as h ih=>exact .bool _ _ _ _ _ ih
 | int F X k n vs as h ih=>exact .int _ _ _ _ _ _ ih
 | str F X s vs as h ih=>exact .str _ _ _ _ _ ih
 | own F F1 F2 X s es v vs as h1 h hF ih=>exact .own _ F1 F2 _ _ _ _ _ _ h1 ih hF
 | ext F X X1 X2 s es v vs as h1 h hX ih=>exact .ext _ _ X1 X2 _ _ _ _ _ h1 ih hX
 | extv F X X1 X2 s es v vs as h1 h hX ih=>exact .extv _ _ X1 X2 _ _ _ _ _ h1 ih hX
 | box F F1 F2 X X1 X2 b C ty fr cs vs as hb hfr h1 h hF hX ih1 ih=>exact .box _ F1 F2 _ X1 X2 b C ty fr _ _ _ hb hfr ih1 ih hF hX
 | xbox F X X1 X2 a us cs vs as hc h1 h hX ih=>exact .xbox _ _ X1 X2 a us cs _ _ hc h1 ih hX
 | agg F F1 F2 X X1 X2 us cs vs as h1 h hF hX ih1 ih=>exact .agg _ F1 F2 _ X1 X2 us _ _ _ ih1 ih hF hX
 | tup F F1 F2 X X1 X2 us cs vs as h1 h hF hX ih1 ih=>exact .tup _ F1 F2 _ X1 X2 us _ _ _ ih1 ih hF hX
 | fn F F1 F2 X X1 X2 f us cs vs as h1 h hF hX ih1 ih=>exact .fn _ F1 F2 _ X1 X2 f us _ _ _ ih1 ih hF hX
 | lnk F X r e p o v vs as ho hv h ih=>
  simp only[yW,oO];split
  ·exact .lnk _ _ _ _ _ _ _ _ _ (hl r e p o (by assumption) ho) hv ih
  ·exact .undef _ _ _ _ _ ih
 | sub F X r e p s lo n o v vs as ho hv h ih=>
  simp only[yW,oO];split
  ·exact .sub _ _ _ _ _ _ _ _ _ _ _ _ (hl r e p o (by assumption) ho) hv ih
  ·exact .undef _ _ _ _ _ ih
 | ref F X r e p st o v vs as ho hv h ih=>
  simp only[yW,oO];split
  ·exact .ref _ _ _ _ _ _ _ _ _ _ (hl r e p o (by assumption) ho) hv ih
  ·exact .undef _ _ _ _ _ ih
theorem gI (ks:Nat) (G:bC B hv w a E):bC B hv w a (E.norm ks):=by
 obtain⟨hid,Fs,Xs,R,hh⟩:=G;have hl:∀ r e p o,oH E ks r e p=true->aM w (aI a.tmps hid) E r e p=some o->aM w (aI a.tmps hid) (E.norm ks) r 0 p=some o:=by
  intro r e p o df ho;unfold oH at df;simp only[lM,beq_iff_eq] at df;obtain⟨⟨⟨hk,he⟩,af⟩,hg⟩:=df;unfold aM at ho ⊢;rw[lO A7,lK ⟨he,af,hg⟩] at ho;have hf:(E.norm ks).f r=oO E ks (E.f r):=by simp[Env.norm,hk]
  have hc:fX ((E.norm ks).ep r) p=0:=by simp[Env.norm,fX]
  rw[hc,lO A7,lK ⟨rfl,by rw[hf]; exact alP E ks _ af,by rw[hf]; exact alQ E ks p _ hg⟩];exact ho
 refine⟨hid,fun t=>if c7 ks t then Fs t else fun _=>0,fun t=>if c7 ks t then Xs t else fun _=>0,⟨R.size,R.dfr,?_,?_,?_,?_,R.grow,R.frame,?_,?_,?_⟩,hh⟩
 ·intro t;by_cases hk:c7 ks t=true
  ·have hf:(E.norm ks).f t=oO E ks (E.f t):=by simp[Env.norm,hk]
   rw[hf];simp only[hk,lQ];exact aol hl (R.rep t)
  ·have hf:(E.norm ks).f t=.undef:=by simp[Env.norm,hk]
   rw[hf];simp only[hk];exact .undef _ _ _ _ _ RepA.znil
 ·intro t b;by_cases hk:c7 ks t=true
  ·simp only[hk,lQ]; exact R.one t b
  ·simp[hk]
 ·intro t t' b am;by_cases hk:c7 ks t=true
  ·by_cases hk':c7 ks t'=true
   ·simp only[hk,hk',lQ]; exact R.dis t t' b am
   ·simp[hk']
  ·simp[hk]
 ·intro t t' b;by_cases hk:c7 ks t=true
  ·by_cases hk':c7 ks t'=true
   ·simp only[hk,hk',lQ]; exact R.disx t t' b
   ·simp[hk']
  ·simp[hk]
 ·intro t b hb;by_cases hk:c7 ks t=true
  ·simp only[hk,lQ] at hb; exact R.org t b hb
  ·simp[hk] at hb
 ·intro t b hb;by_cases hk:c7 ks t=true
  ·simp only[hk,lQ] at hb; exact R.orgx t b hb
  ·simp[hk] at hb
 ·intro t b hb;by_cases hk:c7 ks t=true
  ·simp only[hk,lQ] at hb; exact R.ltx t b hb
  ·simp[hk] at hb
theorem aom (hn:B.n<=1000) {E:Env} (t:Nat) (G:bC B hv w a E):bC B hv w a (ub1 E t):=by
 unfold ub1;unfold ubM;split
 case h_2=>exact G
 rename_i cs h1 h2;obtain⟨hid,Fs,Xs,R,hh⟩:=G;obtain⟨Fs',Xs',FP',XP',P1⟩:=(PR.nil R).move t;simp only[lI1] at P1;rw[h1] at P1;have gp:∃ b,aI a.tmps hid t=.pointer (some ⟨b,0,none⟩):=by
  have:=P1.rep;generalize aI a.tmps hid t=v at this;cases this with
  | box _ _ _ _ _ _ b _ _ _ _ _ _ _ _ _ _ _ _=>exact⟨b,rfl⟩
 obtain⟨b,hb⟩:=gp;rw[hb] at P1;obtain⟨Fs2,Xs2,R'⟩:=P1.hide (q:=5000+t) A7;have ay:aM w (aI a.tmps (fun k=>if k=5000+t then .pointer (some ⟨b,0,none⟩) else hid k)) ((E.put t .undef).put (5000+t) (.box cs)) (5000+t) (fX (((E.put t .undef).put (5000+t) (.box cs)).ep (5000+t)) []) []=some (some (.pointer (some ⟨b,0,none⟩))):=by
  unfold aM;rw[lO A7,lK ⟨rfl,by rw[cQ]; rfl,by rw[cQ]; rfl⟩,pG (by rw[R'.size]; omega)];simp[i4]
 have hr:RepA w (aM w (aI a.tmps (fun k=>if k=5000+t then .pointer (some ⟨b,0,none⟩) else hid k)) ((E.put t .undef).put (5000+t) (.box cs))) (fun _=>0) (fun _=>0) [.pointer (some ⟨b,0,none⟩)]
   [.ref (5000+t) (fX (((E.put t .undef).put (5000+t) (.box cs)).ep (5000+t)) []) [] ⟨0,0,0⟩]:=
  .ref _ _ _ _ _ _ _ _ _ _ ay (fun u hu=>by cases hu; exact⟨⟨b,0,none⟩,rfl,by rw[lQ4,lL2,add_zero]⟩) RepA.znil
 obtain⟨XP2,P2⟩:=PR.ofRel R' hr (fun _=>rfl) (fun b hb=>absurd rfl hb);obtain⟨Fs3,Xs3,FP3,XP3,P3⟩:=P2.back t (by rw[anm A7,hb]);exact⟨_,Fs3,Xs3,P3.rel,fun k hk=>by rw[lO A7]; exact hh k hk⟩
theorem adb (hn:B.n<=1000) (ks:Nat) (U:List Nat) {E:Env} (G:bC B hv w a E):bC B hv w a (rgE ks U E):=by
 have key:∀ (U:List Nat) {E:Env},bC B hv w a E->bC B hv w a (ubE E U):=by
  intro U;induction U with
  | nil=>intro E G; exact G
  | cons t U ih=>intro E G; exact ih (aom hn t G)
 cases U with
 | nil=>exact G
 | cons t U=>exact gI ks (key (t::U) G)
theorem aiR (D:List Nat):∀ {E:Env},bC B hv w a E->bC B hv w a (acO E D):=by
 induction D with
 | nil=>intro E G; exact G
 | cons d D ih=>
  intro E G;obtain⟨hid,Fs,Xs,R,hh⟩:=G;obtain⟨Fs',Xs',FP',XP',P⟩:=(PR.nil R).move d;exact ih ⟨hid,Fs',Xs',P.rel,hh⟩
theorem qX (ks:Nat) (D:List Nat) (G:bC B hv w a E):bC B hv w a (hdL ks D (E.norm ks)):=by
 cases D with
 | nil=>exact gI ks G
 | cons d D=>exact gI ks (aiR (d::D) (gI ks G))
theorem pL (G:bC B hv w a E) {d:Option Nat} (hd:∀ q,d=some q->q<B.n):bC B hv w (a.put d undef) (mF E d (.tup [])):=by
 cases d with
 | none=>exact G
 | some d=>exact fF G (hd d rfl) fun _ _ _ _=>⟨fun _=>0,fun _=>0,.tup _ (fun _=>0) (fun _=>0) _ (fun _=>0) (fun _=>0) [] [] _ _ RepA.znil RepA.znil (fun _=>rfl) (fun _=>rfl),fun _=>rfl,fun _ h=>absurd rfl h⟩
theorem zK {n:Nat} {i:I} (hc:cOp P n o=some i):∀ q,o.dst=some q->q<n:=by
 unfold cOp at hc;split at hc
 ·cases hc
 rename_i bi;intro q hq;rw[hq] at bi;simpa using bi
theorem ae9 (G:bC B hv w a E) {t:Nat} (ht:t<B.n) {c:Bool} (h:E.f t=.bool c):a.tmps[t]?=some (.bool c):=by
 have au:=nQ G (.tmp t ht) (b:=c) h;obtain⟨hid,Fs,Xs,R,hh⟩:=G;have aa:t<a.tmps.size:=by rw[R.size]; exact ht
 simp only[Act.eval,lF1] at au;rw[lA1 aa] at au ⊢;simpa using au
theorem aiS (G:bC B hv w a E) {t:Nat} (ht:t<B.n) (h:E.f t=.tup []):a.tmps[t]?=some undef:=by
 obtain⟨hid,Fs,Xs,R,hh⟩:=G;have aa:t<a.tmps.size:=by rw[R.size]; exact ht
 have hr:=R.rep t;rw[h] at hr;have e:aI a.tmps hid t=a.tmps[t]:=by unfold aI; rw[if_pos aa]; simp[Array.getD_eq_getD_getElem?,aa]
 rw[e] at hr;rw[lA1 aa];generalize a.tmps[t]=v at hr;cases hr with
 | tup _ _ _ _ _ _ us cs _ _ h1 _ _ _=>
  cases h1;rfl
theorem aiT (hn:B.n<=1000) {ops:Array Oper} {K:Env->Prop} (hQ:∀ E' a' w',K E'->bC B hv w' a' E'->Q .normal a' w') :
  ∀ (m k:Nat) (is:List GI) (E:Env) (a:Act) (w:World),k+m=ops.size->aeQ P B.n ops (ops.toList.drop k)=some is->ahR P is K E->bC B hv w a E->wpOps P ops Q (List.range' k m) a w:=by
 intro m;induction m with
 | zero=>
  intro k is E a w hk hc h G;rw[lZ2 B0] at hc;simp only[aeQ,Option.some.injEq] at hc;subst hc;exact hQ E a w h G
 | succ m ih=>
  intro k is E a w hk hc h G;have aa:k<ops.size:=by omega
  have bq:ops[k]?=some ops[k]:=lA1 aa;have hd:ops.toList.drop k=ops[k]::ops.toList.drop (k+1):=by
   rw[lE2 (by simpa using aa)]; simp
  rw[hd] at hc;simp only[aeQ] at hc;obtain⟨i,hi,hc⟩:=bind_some hc;obtain⟨rest,hr,hc⟩:=bind_some hc;have go:qR P i (ahR P rest K) E->ops[k].wp P a w (wpOps P ops Q (List.range' (k+1) m)) Q:=fun hs=>
   Oper.wp_mono (fun a' w' hg=>by obtain⟨E',k1,k2⟩:=hg; exact ih (k+1) rest E' a' w' A7 hr k1 k2) (qW hi hn G hs)
  rw[List.range'_succ];simp only[wpOps,bq];split at hc
  ·rename_i hg;cases hc;have hw:Region.wanted ops[k] (yielded ops a.tmps)=true:=by unfold Region.wanted; rw[hg]
   rw[lK hw];exact .inl (go h)
  ·rename_i j b hg;obtain⟨t,ht,hc⟩:=bind_some hc;obtain⟨en,hc⟩:=aC hc;cases hc;rcases h with ⟨c,gq,h1,h2⟩ | ⟨gq,h2⟩
   ·have hy:yielded ops a.tmps j=some c:=by
     unfold yielded;rw[ht,lE,ae9 G en gq]
    have hw:Region.wanted ops[k] (yielded ops a.tmps)=(some c == some b):=by unfold Region.wanted; rw[hg]; simp[hy]
    by_cases e:c=b
    ·rw[lK (by rw[hw,e]; simp)];exact .inl (go (h1 e))
    ·rw[lO (by rw[hw]; simp[e])];exact ih (k+1) rest _ _ w A7 hr (h2 e) (pL G (zK hi))
   ·have hy:yielded ops a.tmps j=none:=by
     unfold yielded;rw[ht,lE,aiS G en gq];rfl
    have hw:Region.wanted ops[k] (yielded ops a.tmps)=false:=by unfold Region.wanted; rw[hg]; simp[hy]
    rw[lO (by rw[hw]; simp)];exact ih (k+1) rest _ _ w A7 hr h2 (pL G (zK hi))
end
section
variable {P:Program} {w w':World} {B:Base} {hid hv:Nat->Value} {a:Act} {E:Env} {Q:Exit->Act->World->Prop}
abbrev agA:=GI × List M × Rcd
theorem g9 {p:Nat->Prop} (h:∃ n,p n):∃ n,p n/\∀ m,m<n->¬ p m:=by
 classical
 obtain⟨n,hn⟩:=h;induction n using Nat.strongRecOn with
 | _ n ih=>
  by_cases h:∃ m,m<n/\p m
  ·obtain⟨m,h1,h2⟩:=h; exact ih m h1 h2
  ·exact⟨n,hn,fun m hm hp=>h ⟨m,hm,hp⟩⟩
def adc (P:Program) (o:agA) (E E':Env):Prop:=
 (match o.1.g with
  | none=>l0 P o.1.i o.2.1 E E'/\∀ t ∈ aE E o.1.i,t ∈ o.2.2.1
  | some (t,b)=>t ∈ o.2.2.1/\((∃ c,E.f t=.bool c/\(c=b->l0 P o.1.i o.2.1 E E'/\∀ t ∈ aE E o.1.i,t ∈ o.2.2.1) /\
    (c≠b->E'=mF E o.1.d (.tup [])/\∀ q ∈ o.1.d.toList,q ∈ o.2.2.1))\/(E.f t=.tup []/\E'=mF E o.1.d (.tup [])/\∀ q ∈ o.1.d.toList,q ∈ o.2.2.1))) /\
 ∀ t,t ∉ o.2.2.2->SameAt E E' t
theorem aon {S:Nat->Bool} {A E E':Env} {t:Nat} (h:SameAt E E' t):SameAt (mg S A E) (mg S A E') t:=by
 unfold SameAt mg at *;simp only;by_cases hs:S t=true
 ·simp[hs]
 ·simp[hs,h.1,h.2]
theorem afa {S:Nat->Bool} {A E E':Env} {o:agA} (ht:∀ t ∈ o.2.2.1,S t=false) (h:adc P o E E'):adc P o (mg S A E) (mg S A E'):=by
 obtain⟨h1,h2⟩:=h;refine⟨?_,fun t hn=>aon (h2 t hn)⟩;have go:(l0 P o.1.i o.2.1 E E'/\∀ t ∈ aE E o.1.i,t ∈ o.2.2.1)->l0 P o.1.i o.2.1 (mg S A E) (mg S A E')/\∀ t ∈ aE (mg S A E) o.1.i,t ∈ o.2.2.1:=by
  rintro⟨k1,k2⟩;have k3:∀ t ∈ aE E o.1.i,S t=false:=fun t hm=>ht t (k2 t hm)
  exact⟨alF _ k3 k1,by rw[alG _ k3]; exact k2⟩
 cases hg:o.1.g with
 | none=>rw[hg] at h1; exact go h1
 | some q=>
  obtain⟨t,b⟩:=q;rw[hg] at h1;obtain⟨k0,⟨c,k1,k2,k3⟩ | ⟨k1,k4,k5⟩⟩:=h1
  ·refine⟨k0,.inl ⟨c,by rw[tL (ht t k0)]; exact k1,fun e=>go (k2 e),fun e=>?_⟩⟩;obtain⟨k4,k5⟩:=k3 e;exact⟨by rw[k4,zF fun q hq=>ht q (k5 q hq)],k5⟩
  ·exact⟨k0,.inr ⟨by rw[tL (ht t k0)]; exact k1,by rw[k4,zF fun q hq=>ht q (k5 q hq)],k5⟩⟩
def afb (P:Program):List agA->Env->Env->Prop
 | [],E,E'=>E'=E
 | o::l,E,E'=>∃ E1,adc P o E E1/\afb P l E1 E'
def alR (o q:agA):Prop:=(∀ t ∈ o.2.2.2,t ∉ q.2.2.1/\t ∉ q.2.2.2)/\∀ t ∈ q.2.2.2,t ∉ o.2.2.1
def inL (l:List Nat) (t:Nat):Bool:=l.contains t
theorem aoo {l:List Nat} {t:Nat} (h:t ∈ l):inL l t=true:=by unfold inL; simpa using h
theorem alS {l:List Nat} {t:Nat} (h:t ∉ l):inL l t=false:=by unfold inL; simpa using h
theorem aop {S:Nat->Bool} {A E E':Env} (h1:∀ t,S t=true->SameAt A E' t) (h2:∀ t,S t=false->SameAt E E' t):mg S A E=E':=by
 apply Env.ext'
 ·intro t;show (if S t then A.f t else E.f t)=E'.f t;cases h:S t with
  | true=>exact(h1 t h).1.symm
  | false=>exact(h2 t h).1.symm
 ·intro t;show (if S t then A.ep t else E.ep t)=E'.ep t;cases h:S t with
  | true=>exact(h1 t h).2.symm
  | false=>exact(h2 t h).2.symm
theorem alT {o q:agA} (hi:alR o q) {l:List agA} {E E':Env} (h:afb P (o::q::l) E E'):afb P (q::o::l) E E':=by
 obtain⟨E1,h1,E2,h2,h3⟩:=h;have e1:mg (inL o.2.2.2) E E1=E:=aop (fun _ _=>SameAt.rfl') fun t ht=>by
  have:=h1.2 t (fun hm=>by rw[aoo hm] at ht; cases ht);exact⟨this.1.symm,this.2.symm⟩
 have k1:=afa (S:=inL o.2.2.2) (A:=E) (fun t ht=>alS fun hm=>(hi.1 t hm).1 ht) h2;rw[e1] at k1;generalize hF:mg (inL o.2.2.2) E E2=F1 at k1;have e2:mg (inL q.2.2.2) F1 E=F1:=aop (fun _ _=>SameAt.rfl') fun t ht=>k1.2 t (fun hm=>by rw[aoo hm] at ht; cases ht)
 have k2:=afa (S:=inL q.2.2.2) (A:=F1) (fun t ht=>alS fun hm=>hi.2 t hm ht) h1;rw[e2] at k2;have e3:mg (inL q.2.2.2) F1 E1=E2:=aop (fun t ht=>by
  have hq:t ∈ q.2.2.2:=by
   cases Classical.em (t ∈ q.2.2.2) with
   | inl h=>exact h
   | inr h=>rw[alS h] at ht; cases ht
  have ho:t ∉ o.2.2.2:=fun hm=>(hi.1 t hm).2 hq
  rw[<-hF];unfold SameAt mg;simp[alS ho]) fun t ht=>h2.2 t (fun hm=>by rw[aoo hm] at ht; cases ht)
 rw[e3] at k2;exact⟨F1,k1,E2,k2,h3⟩
theorem aoq {o q:agA} (hx:xxG o.1 q.1=true) {E E1 E2:Env} (h1:adc P o E E1) (h2:adc P q E1 E2):∃ F1,adc P q E F1/\adc P o F1 E2:=by
 obtain⟨⟨g1,dd1,i1⟩,m1,r1⟩:=o;obtain⟨⟨g2,dd2,i2⟩,m2,r2⟩:=q;simp only[xxG,lM,Option.isNone_iff_eq_none] at hx;obtain⟨rfl,rfl,hx⟩:=hx;unfold xxI at hx;split at hx
 case h_2=>cases hx
 rename_i d1 n k1 d2 m k2;simp only[lM,beq_iff_eq,bne_iff_ne] at hx;obtain⟨rfl,hk,hd,jr,ix⟩:=hx;obtain⟨⟨e1,t1⟩,s1⟩:=h1;obtain⟨⟨e2,t2⟩,s2⟩:=h2;simp only[l0,ev] at e1 e2;cases hv:E.f n with
 | tup vs=>
  rw[hv] at e1;simp only at e1;obtain⟨c1,cw,rfl⟩:=map_some e1;have kw:(if c1.owns=true then (E.put n (.tup (vs.set k1 .undef))).put d1 c1 else E.put d1 c1).f n=.tup (if c1.owns=true then vs.set k1 .undef else vs):=by
   split
   ·rw[bX jr.symm,cQ]
   ·rw[bX jr.symm,hv]
  rw[kw] at e2;simp only at e2;obtain⟨c2,bx,rfl⟩:=map_some e2;have hc2':vs[k2]?=some c2:=by
   split at bx
   ·rwa [List.getElem?_set_ne hk] at bx
   ·exact bx
  have af:(E.f n).isRoot=false:=by rw[hv]; rfl
  let F1:Env:=if c2.owns=true then (E.put n (.tup (vs.set k2 .undef))).put d2 c2 else E.put d2 c2
  have dp:F1.f n=.tup (if c2.owns=true then vs.set k2 .undef else vs):=by
   show (if c2.owns=true then _ else _:Env).f n=_;split
   ·rw[bX ix.symm,cQ]
   ·rw[bX ix.symm,hv]
  have ot:(vs.set k1 AV.undef).set k2 AV.undef=(vs.set k2 AV.undef).set k1 AV.undef:=List.set_comm _ _ hk;have pne:∀ (E:Env) (d:Nat) (x:AV) (t:Nat),t≠d->(E.put d x).ep t=E.ep t:=fun E d x t h=>cY h
  have peq:∀ (E:Env) (d:Nat) (x:AV),(E.put d x).ep d=if (E.f d).isRoot=true then ((E.ep d).1+1,(E.ep d).2+1) else E.ep d:=by
   intro E d x;simp[Env.put]
  have back:(if c1.owns=true then (F1.put n (.tup ((if c2.owns=true then vs.set k2 AV.undef else vs).set k1 .undef))).put d1 c1 else F1.put d1 c1) =
    (if c2.owns=true then ((if c1.owns=true then (E.put n (.tup (vs.set k1 .undef))).put d1 c1 else E.put d1 c1).put n (.tup ((if c1.owns=true then vs.set k1 AV.undef else vs).set k2 .undef))).put d2 c2
     else (if c1.owns=true then (E.put n (.tup (vs.set k1 .undef))).put d1 c1 else E.put d1 c1).put d2 c2):=by
   have hnr1:∀ x,(AV.tup x).isRoot=false:=fun _=>rfl
   apply Env.ext'
   ·intro t;show _=_;by_cases a1:t=n
    ·subst a1;cases h1:c1.owns <;> cases h2:c2.owns <;> simp[F1,h1,h2,kY,jr.symm,ix.symm,ot]
    ·by_cases a2:t=d1
     ·subst a2;cases h1:c1.owns <;> cases h2:c2.owns <;> simp[F1,h1,h2,kY,a1,hd]
     ·by_cases a3:t=d2
      ·subst a3;cases h1:c1.owns <;> cases h2:c2.owns <;> simp[F1,h1,h2,kY,a1,a2]
      ·cases h1:c1.owns <;> cases h2:c2.owns <;> simp[F1,h1,h2,kY,a1,a2,a3]
   ·intro t;by_cases a1:t=n
    ·subst a1;cases h1:c1.owns <;> cases h2:c2.owns <;> simp[F1,h1,h2,pne,peq,kY,jr.symm,ix.symm,af,hnr1]
    ·by_cases a2:t=d1
     ·subst a2;cases h1:c1.owns <;> cases h2:c2.owns <;> simp[F1,h1,h2,pne,peq,kY,a1,hd]
     ·by_cases a3:t=d2
      ·subst a3;cases h1:c1.owns <;> cases h2:c2.owns <;> simp[F1,h1,h2,pne,peq,kY,a1,a2]
      ·cases h1:c1.owns <;> cases h2:c2.owns <;> simp[F1,h1,h2,pne,a1,a2,a3]
  have noundef:c1.owns=true->vs.set k1 .undef≠vs:=by
   intro h e;have:=congrArg (·[k1]?) e
   try simp only at this
   rw[cw] at this;have aa:k1<vs.length:=by
    cases hq:decide (k1<vs.length) with
    | true=>exact of_decide_eq_true hq
    | false=>rw[lC2 (by have:=of_decide_eq_false hq; omega)] at cw; cases cw
   rw[List.getElem?_set_self aa] at this;cases this; cases h
  have noundef2:c2.owns=true->vs.set k2 .undef≠vs:=by
   intro h e;have:=congrArg (·[k2]?) e
   try simp only at this
   rw[hc2'] at this;have aa:k2<vs.length:=by
    cases hq:decide (k2<vs.length) with
    | true=>exact of_decide_eq_true hq
    | false=>rw[lC2 (by have:=of_decide_eq_false hq; omega)] at hc2'; cases hc2'
   rw[List.getElem?_set_self aa] at this;cases this; cases h
  refine⟨F1,⟨⟨?_,?_⟩,?_⟩,⟨⟨?_,?_⟩,?_⟩⟩
  ·simp only[l0,ev];rw[hv];simp only;rw[hc2'];rfl
  ·exact t2
  ·intro t ht;have hs:=s2 t ht;by_cases a3:t=d2
   ·subst a3;have hf:=hs.1;have ed:=hs.2;refine⟨?_,?_⟩
    ·cases h1:c1.owns <;> cases h2:c2.owns <;> simp[F1,h1,h2,kY,hd.symm,ix] at hf ⊢ <;> exact hf
    ·cases h1:c1.owns <;> cases h2:c2.owns <;> simp[F1,h1,h2,pne,peq,kY,hd.symm,ix] at ed ⊢ <;> exact ed
   ·by_cases a1:t=n
    ·subst a1;cases h2:c2.owns with
     | false=>
      refine⟨?_,?_⟩
      ·simp[F1,h2,kY,ix.symm]
      ·simp[F1,h2,pne,ix.symm]
     | true=>
      exfalso;have hf:=hs.1;rw[kw] at hf;simp only[h2,lQ] at hf;rw[bX ix.symm,cQ] at hf;injection hf with hf
      cases h1:c1.owns with
      | false=>rw[h1] at hf; simp only[lK4,lN1] at hf; exact noundef2 h2 hf
      | true=>
       rw[h1] at hf;simp only[lQ] at hf;have:=congrArg (·[k2]?) hf
       try simp only at this
       rw[List.getElem?_set_ne hk,hc2'] at this;have aa:k2<(vs.set k1 AV.undef).length:=by
        rw[List.length_set];cases hq:decide (k2<vs.length) with
        | true=>exact of_decide_eq_true hq
        | false=>rw[lC2 (by have:=of_decide_eq_false hq; omega)] at hc2'; cases hc2'
       rw[List.getElem?_set_self aa] at this;cases this; cases h2
    ·refine⟨?_,?_⟩
     ·cases h2:c2.owns <;> simp[F1,h2,kY,a1,a3]
     ·cases h2:c2.owns <;> simp[F1,h2,pne,a1,a3]
  ·simp only[l0,ev];rw[dp];simp only;have:(if c2.owns=true then vs.set k2 AV.undef else vs)[k1]?=some c1:=by
    split
    ·rw[List.getElem?_set_ne (Ne.symm hk)]; exact cw
    ·exact cw
   rw[this,lD,back]
  ·exact t1
  ·intro t ht;rw[<-back];have hs:=s1 t ht;by_cases a3:t=d1
   ·subst a3;have hf:=hs.1;have ed:=hs.2;refine⟨?_,?_⟩
    ·cases h1:c1.owns <;> cases h2:c2.owns <;> simp[F1,h1,h2,kY,hd,jr] at hf ⊢ <;> exact hf
    ·cases h1:c1.owns <;> cases h2:c2.owns <;> simp[F1,h1,h2,pne,peq,kY,hd,jr] at ed ⊢ <;> exact ed
   ·by_cases a1:t=n
    ·subst a1;cases h1:c1.owns with
     | false=>
      refine⟨?_,?_⟩
      ·simp[kY,jr.symm]
      ·simp[pne,jr.symm]
     | true=>
      exfalso;have hf:=hs.1;simp only[h1,lQ] at hf;rw[bX jr.symm,cQ,hv] at hf;injection hf with hf
      exact noundef h1 hf
    ·refine⟨?_,?_⟩
     ·cases h1:c1.owns <;> simp[kY,a1,a3]
     ·cases h1:c1.owns <;> simp[pne,a1,a3]
 | _=>rw[hv] at e1; cases e1
theorem aa7 {q:agA}:∀ (pre:List agA) {post:List agA} {E E':Env},(∀ o ∈ pre,alR o q\/xxG o.1 q.1=true)->afb P (pre++q::post) E E'->afb P (q::(pre++post)) E E':=by
 intro pre;induction pre with
 | nil=>intro post E E' _ h; exact h
 | cons o pre ih=>
  intro post E E' hi h;obtain⟨k,h1,h2⟩:=h;have:=ih (fun o ho=>hi o (by simp[ho])) h2;rcases hi o A8 with hi' | hx
  ·exact alT hi' ⟨k,h1,this⟩
  ·obtain⟨k2,g1,g2⟩:=this;obtain⟨F1,f1,f2⟩:=aoq hx h1 g1;exact⟨F1,f1,_,f2,g2⟩
theorem aa8 {bs:List Nat} {K:Env->Prop}:∀ (l:List GI) (acc:List Rcd) (E:Env),mV P bs acc l K E ->
  ∃ its E',its.map (·.1)=l/\afb P its E E'/\aaK bs (acc++its.map (·.2.2))=true/\K E':=by
 intro l;induction l with
 | nil=>intro acc E h; exact⟨[],E,rfl,rfl,by simpa using h.1,h.2⟩
 | cons g l ih=>
  intro acc E h;have go:∀ {ts:List Nat},wQ P g.i (fun ms E'=>mV P bs (acc++[(ts++aE E g.i,wrI E ms g.i)]) l K E') E ->
    ∃ ms E1,l0 P g.i ms E E1/\∃ its E',its.map (·.1)=l/\afb P its E1 E'/\aaK bs (acc++(ts++aE E g.i,wrI E ms g.i)::its.map (·.2.2))=true/\K E':=by
   intro ts hs;obtain⟨ms,E1,h1,h2⟩:=aod _ hs;obtain⟨its,E',k1,k2,k3,k4⟩:=ih _ E1 h2;exact⟨ms,E1,h1,its,E',k1,k2,by simpa using k3,k4⟩
  cases hg:g.g with
  | none=>
   simp only[mV,hg] at h;obtain⟨ms,E1,h1,its,E',k1,k2,k3,k4⟩:=go (ts:=[]) h;refine⟨(g,ms,(aE E g.i,wrI E ms g.i))::its,E',by simp[k1],⟨E1,⟨?_,fun t ht=>xJ _ h1 ht⟩,k2⟩,by simpa using k3,k4⟩;simp only[hg];exact⟨h1,fun t ht=>ht⟩
  | some q=>
   obtain⟨t,b⟩:=q;simp only[mV,hg] at h;have skip:(mV P bs (acc++[(t::g.d.toList,g.d.toList)]) l K (mF E g.d (.tup [])))->((∃ c,E.f t=.bool c/\c≠b)\/E.f t=.tup []) ->
     ∃ its E',its.map (·.1)=g::l/\afb P its E E'/\aaK bs (acc++its.map (·.2.2))=true/\K E':=by
    intro h2 hc;obtain⟨its,E',k1,k2,k3,k4⟩:=ih _ _ h2;refine⟨(g,[],(t::g.d.toList,g.d.toList))::its,E',by simp[k1],⟨mF E g.d (.tup []),⟨?_,fun q hq=>?_⟩,k2⟩,by simpa using k3,k4⟩
    ·simp only[hg];rcases hc with ⟨c,hc,e⟩ | hc
     ·exact⟨by simp,.inl ⟨c,hc,fun n=>absurd n e,fun _=>⟨by trivial,fun q hq=>by simp[hq]⟩⟩⟩
     ·exact⟨by simp,.inr ⟨hc,by trivial,fun q hq=>by simp[hq]⟩⟩
    ·cases hd:g.d with
     | none=>exact SameAt.rfl'
     | some d=>simp only[hd,Option.toList_some,lH1] at hq; exact wP hq
   rcases h with ⟨c,hc,h1,h2⟩ | ⟨hc,h2⟩
   ·by_cases e:c=b
    ·obtain⟨ms,E1,h3,its,E',k1,k2,k3,k4⟩:=go (ts:=[t]) (h1 e);refine⟨(g,ms,(t::aE E g.i,wrI E ms g.i))::its,E',by simp[k1],⟨E1,⟨?_,fun t ht=>xJ _ h3 ht⟩,k2⟩,by simpa using k3,k4⟩;simp only[hg];exact⟨by simp,.inl ⟨c,hc,fun _=>⟨h3,fun q hq=>by simp[hq]⟩,fun n=>absurd e n⟩⟩
    ·exact skip (h2 e) (.inl ⟨c,hc,e⟩)
   ·exact skip h2 (.inr hc)
theorem nS {a b:List Nat} (h:aaJ a b=true):∀ t ∈ a,t ∉ b:=by
 intro t ht;unfold aaJ at h;rw[lP] at h;simpa using h t ht
theorem aiU {bs:List Nat} {rs:List Rcd} (h:aaK bs rs=true) {i j:Nat} (kz:i<j) (hj:j<rs.length) {o q:Rcd} (ho:rs[i]?=some o) (hq:rs[j]?=some q) :
  (bs.getD j 0).testBit i=true\/aeP o q=true:=by
 unfold aaK at h;rw[lP] at h;have:=h j (by simpa using hj);rw[lP] at this;have:=this i (by simpa using kz);simpa [ho,hq] using this
theorem aor {acc:Array Nat} {j:Nat}:∀ (l:List Edge) (s:Nat),(l.foldl (fun s e=>if Region.binds .any e then s ||| 2^e.on ||| acc.getD e.on 0 else s) s).testBit j=true ->
  s.testBit j=true\/∃ e ∈ l,Region.binds .any e=true/\(j=e.on\/(acc.getD e.on 0).testBit j=true):=by
 intro l;induction l with
 | nil=>intro s h; exact .inl h
 | cons e l ih=>
  intro s h;simp only[lG3] at h;rcases ih _ h with h | ⟨e',h1,h2⟩
  ·by_cases hb:Region.binds .any e=true
   ·rw[lK hb] at h;rw[Nat.testBit_or,Nat.testBit_or,Nat.testBit_two_pow] at h;simp only[lA5,decide_eq_true_eq] at h;rcases h with (h | h) | h
    ·exact .inl h
    ·exact .inr ⟨e,by simp,hb,.inl h.symm⟩
    ·exact .inr ⟨e,by simp,hb,.inr h⟩
   ·rw[lO hb] at h; exact .inl h
  ·exact .inr ⟨e',by simp[h1],h2⟩
def jW (acc:Array Nat) (o:Oper):Array Nat:=acc.push (o.after.foldl (fun s e=>if Region.binds .any e then s ||| 2^e.on ||| acc.getD e.on 0 else s) 0)
theorem aa9 (ops:Array Oper):Region.before ops=ops.toList.foldl jW #[]:=by
 unfold Region.before;rw[<-Array.foldl_toList];rfl
theorem aos:∀ (l:List Oper) (acc:Array Nat),(∀ k,k<acc.size->(l.foldl jW acc).getD k 0=acc.getD k 0) /\
  ∀ m o,l[m]?=some o->∀ j,((l.foldl jW acc).getD (acc.size+m) 0).testBit j=true ->
   ∃ e ∈ o.after.toList,Region.binds .any e=true/\(j=e.on\/((l.foldl jW acc).getD e.on 0).testBit j=true):=by
 intro l;induction l with
 | nil=>intro acc; exact⟨fun _ _=>rfl,fun m o h=>by simp at h⟩
 | cons q l ih=>
  intro acc;obtain⟨h1,h2⟩:=ih (jW acc q);have ar:(jW acc q).size=acc.size+1:=by simp[jW]
  have ce:∀ k,k<acc.size->(List.foldl jW acc (q::l)).getD k 0=acc.getD k 0:=by
   intro k hk;simp only[lG3];rw[h1 k A7];simp only[jW,lF1];rw[Array.getElem?_push_lt hk,lA1 hk]
  refine⟨ce,?_⟩;intro m o hm j hj;cases m with
  | zero=>
   simp only[lC4,Option.some.injEq] at hm;subst hm;simp only[lG3,lT3] at hj;rw[h1 acc.size A7] at hj;simp only[jW,lF1,Array.getElem?_push_size,lG2] at hj;rw[<-Array.foldl_toList] at hj;have:=aor (acc:=acc) q.after.toList 0 (by simpa [lF1] using hj);rcases this with h | ⟨e,e1,e2,e3⟩
   ·simp at h
   ·refine⟨e,e1,e2,?_⟩;rcases e3 with e3 | e3
    ·exact .inl e3
    ·right;by_cases aa:e.on<acc.size
     ·rw[ce _ aa]; exact e3
     ·rw[lF1,lY4 A7] at e3;simp at e3
  | succ m=>
   simp only[lT4] at hm;simp only[lG3] at hj ⊢;have:=h2 m o hm j (by rw[ar,show acc.size+1+m=acc.size+(m+1) by omega]; exact hj);exact this
theorem rT (ops:Array Oper) {i:Nat} {o:Oper} (hi:ops[i]?=some o) {j:Nat} (h:((d7 ops).getD i 0).testBit j=true) :
  ∃ e ∈ o.after.toList,Region.binds .any e=true/\(j=e.on\/((d7 ops).getD e.on 0).testBit j=true):=by
 have hq:∀ k,(d7 ops).getD k 0=(Region.before ops).getD k 0:=by
  intro k; simp[d7,lW,lF1]
 rw[hq] at h;rw[aa9] at h;obtain⟨e,h1,h2,h3⟩:=(aos ops.toList #[]).2 i o (by simpa using hi) j (by simpa using h);refine⟨e,h1,h2,?_⟩;rw[hq,aa9]; exact h3
def m0 (n:Nat) (L:Array Bool):List Nat:=(List.range n).filter fun i=>!L.getD i true
theorem pM {L:Array Bool} {i j:Nat} (hi:i<L.size):(L.setIfInBounds i true).getD j true=if j=i then true else L.getD j true:=by
 simp only[lF1];by_cases e:j=i
 ·subst e; simp[hi]
 ·rw[Array.getElem?_setIfInBounds_ne (Ne.symm e)]; simp[e]
theorem afc {n i:Nat} {L:Array Bool} (hi:i<n) (hs:L.size=n) (hu:L.getD i true=false) :
  ∃ pre post,m0 n L=pre++i::post/\m0 n (L.setIfInBounds i true)=pre++post/\(∀ j ∈ pre,j<i/\L.getD j true=false):=by
 have e:List.range n=List.range i++i::List.range' (i+1) (n-(i+1)):=by
  rw[List.range_eq_range',List.range_eq_range'];have:n=i+(n-i):=by omega
  rw[this,<-List.range'_append];congr 1;obtain⟨m,hm⟩:∃ m,n-i=m+1:=⟨n-i-1,by omega⟩
  rw[show i+(n-i)-(i+1)=m by omega,hm,List.range'_succ];simp
 refine⟨(List.range i).filter fun i=>!L.getD i true,(List.range' (i+1) (n-(i+1))).filter fun i=>!L.getD i true,?_,?_,?_⟩
 ·unfold m0; rw[e,List.filter_append,List.filter_cons]; simp[hu]
 ·unfold m0;rw[e,lQ3,List.filter_cons];rw[pM A7];simp only[lQ,Bool.not_true,lK4,lN1];congr 1
  ·apply List.filter_congr;intro j hj;have:j<i:=by simpa using hj
   rw[pM A7,lO A7]
  ·apply List.filter_congr;intro j hj;have:i+1<=j:=(List.mem_range'_1.1 hj).1;rw[pM A7,lO A7]
 ·intro j hj;obtain⟨h1,h2⟩:=lR3.1 hj;exact⟨by simpa using h1,by simpa using h2⟩
theorem afd {n:Nat} {ops:Array Oper}:∀ {l:List Oper} {is:List GI} {i:Nat} {o:Oper},aeQ P n ops l=some is->l[i]?=some o ->
  ∃ g,is[i]?=some g/\cOp P n o=some g.i/\g.d=o.dst/\(match o.guard with
   | none=>g.g=none
   | some (j,b)=>∃ t,((ops[j]?).bind (·.dst))=some t/\t<n/\g.g=some (t,b)):=by
 intro l;induction l with
 | nil=>intro is i o _ h; simp at h
 | cons q l ih=>
  intro is i o hc hi;simp only[aeQ] at hc;obtain⟨x,hx,hc⟩:=bind_some hc;obtain⟨rest,hr,hc⟩:=bind_some hc;cases i with
  | zero=>
   simp only[lC4,Option.some.injEq] at hi;subst hi;split at hc
   ·rename_i hg; cases hc; exact⟨_,rfl,hx,rfl,by rw[hg]⟩
   ·rename_i j b hg;obtain⟨t,ht,hc⟩:=bind_some hc;obtain⟨en,hc⟩:=aC hc;cases hc;exact⟨_,rfl,hx,rfl,by rw[hg]; exact⟨t,ht,en,rfl⟩⟩
  | succ i=>
   simp only[lT4] at hi;obtain⟨g,h1,h2⟩:=ih hr hi;refine⟨g,?_,h2⟩;split at hc
   ·cases hc; simpa using h1
   ·obtain⟨t,ht,hc⟩:=bind_some hc;obtain⟨en,hc⟩:=aC hc;cases hc;simpa using h1
theorem aba (G:bC B hv w a E) (hw:w'.heap=w.heap) (hk:Quiet w w':=by exact⟨rfl,rfl⟩):bC B hv w' a E:=by
 obtain⟨hid,Fs,Xs,R,hh⟩:=G;have sm:∀ F,j6 w w' F:=fun F b _=>by rw[hw]
 refine⟨hid,Fs,Xs,?_,hh⟩;refine R.change (fun _=>False) R.size R.dfr (fun t _=>⟨rfl,rfl,rfl,rfl,rfl,sm _,sm _⟩) (fun _ h=>h.elim) (fun _ _ h=>h.elim) (fun _ h=>h.elim) (fun _ h=>h.elim) (fun _ h=>h.elim)
  (fun _ h=>h.elim) ⟨by rw[hw]; exact lE1 _,hk⟩ (fun b _ _=>by rw[hw]) (fun _ h=>h.elim) (fun _ h=>h.elim)
theorem iT {ops:Array Oper} (h:oP ops=true) {i:Nat} {o:Oper} (hi:ops[i]?=some o) {e:Edge} (he:e ∈ o.after.toList) (hb:Region.binds .any e=true):e.on<i:=by
 unfold oP at h;rw[lP] at h;have:=h (o,i) (by rw[List.mem_zipIdx_iff_getElem?]; simpa using hi);rw[lP] at this;have:=this e he;simpa [hb] using this
theorem aiV (hn:B.n<=1000) {ops:Array Oper} {is:List GI} {os:Nat->agA} (hc:aeQ P B.n ops ops.toList=some is) (hos:∀ i g,is[i]?=some g->(os i).1=g)
  (hind:∀ i j,i<j->j<ops.size->((d7 ops).getD j 0).testBit i=true\/(alR (os i) (os j)\/xxG (os i).1 (os j).1=true)) (cf:oP ops=true) {E':Env}
  (hQ:∀ a' w',bC B hv w' a' E'->Q .normal a' w') :
  ∀ (fuel:Nat) (L:Array Bool) (E:Env) (a:Act) (w:World),L.size=ops.size->(m0 ops.size L).length<=fuel ->
   (∀ i,i<ops.size->L.getD i true=true->∀ j,((d7 ops).getD i 0).testBit j=true->L.getD j true=true) ->
   afb P ((m0 ops.size L).map os) E E'->bC B hv w a E->wpAny P .any ops Q fuel L a w:=by
 have none_left:∀ (L:Array Bool),Region.ready .any ops L=[]->L.size=ops.size->m0 ops.size L=[]:=by
  intro L hr hs;cases ct:m0 ops.size L with
  | nil=>rfl
  | cons x xs=>
   exfalso;have hx:x ∈ m0 ops.size L:=by rw[ct]; simp
   have hex:∃ i,i<ops.size/\L.getD i true=false:=by
    obtain⟨h1,h2⟩:=lR3.1 hx;exact⟨x,by simpa using h1,by simpa using h2⟩
   obtain⟨i,⟨h1,h2⟩,fw⟩:=g9 hex;have:i ∈ Region.ready .any ops L:=by
    unfold Region.ready;rw[lR3];refine⟨by simpa using h1,?_⟩;rw[h2,lA1 h1];simp only[Bool.not_false,lL4,lD,lG2];rw[<-Array.all_toList,lP];intro e he;by_cases hb:Region.binds .any e=true
    ·have aa:=iT cf (lA1 h1) he hb;have:L.getD e.on true=true:=by
      cases hc:L.getD e.on true with
      | true=>rfl
      | false=>exact absurd ⟨by omega,hc⟩ (fw e.on aa)
     rw[lF1,lA1 A7] at this ⊢;simp only[lG2] at this ⊢;simp[this]
    ·simp[hb]
   rw[hr] at this;simp at this
 intro fuel;induction fuel with
 | zero=>
  intro L E a w hs hl bk ae G;have ct:m0 ops.size L=[]:=List.eq_nil_of_length_eq_zero A7;rw[ct] at ae;have hE:E'=E:=ae;subst hE;refine⟨?_,hQ a w G⟩;cases hr:Region.ready .any ops L with
  | nil=>rfl
  | cons i l=>
   exfalso;have hi:i ∈ Region.ready .any ops L:=by rw[hr]; simp
   unfold Region.ready at hi;rw[lR3] at hi;obtain⟨h1,h2⟩:=hi;have:i ∈ m0 ops.size L:=by
    unfold m0; rw[List.mem_filter];refine⟨h1,?_⟩;simp only[lM] at h2;exact h2.1
   rw[ct] at this;simp at this
 | succ fuel ih=>
  intro L E a w hs hl bk ae G;refine⟨?_,?_⟩
  ·intro hr;have ct:=none_left L hr hs;rw[ct] at ae;have hE:E'=E:=ae;subst hE;exact hQ a w G
  ·intro i hi;unfold Region.ready at hi;rw[lR3] at hi;obtain⟨h1,h2⟩:=hi;have aa:i<ops.size:=by simpa using h1
   have bq:ops[i]?=some ops[i]:=lA1 aa;simp only[lM,bq,lD,lG2,lF4] at h2;obtain⟨hu,bi⟩:=h2;rw[<-Array.all_toList,lP] at bi;have dq:∀ e ∈ (ops[i]).after.toList,Region.binds .any e=true->L.getD e.on true=true:=by
    intro e he hb;have h3:=bi e he;simp only[hb,Bool.not_true,lI5] at h3;have gm:=iT cf bq he hb;rw[lF1,lA1 A7] at h3 ⊢;exact h3
   have iy:∀ j,((d7 ops).getD i 0).testBit j=true->L.getD j true=true:=by
    intro j hj;obtain⟨e,e1,e2,e3⟩:=rT ops bq hj;rcases e3 with rfl | e3
    ·exact dq e e1 e2
    ·exact bk e.on (by have:=iT cf bq e1 e2; omega) (dq e e1 e2) j e3
   obtain⟨pre,post,r1,r2,r3⟩:=afc aa hs hu;have hrun':afb P (os i::((pre.map os)++(post.map os))) E E':=by
    refine aa7 (pre.map os) ?_ (by rw[r1] at ae; simpa using ae);intro o ho;obtain⟨j,hj,rfl⟩:=lV2.1 ho;obtain⟨q1,q2⟩:=r3 j hj;rcases hind j i q1 aa with h | h
    ·have:=iy j h;rw[this] at q2; cases q2
    ·exact h
   obtain⟨E1,⟨hk,_⟩,an⟩:=hrun';have hrest':afb P ((m0 ops.size (L.setIfInBounds i true)).map os) E1 E':=by rw[r2,lP2]; exact an
   have ar:(L.setIfInBounds i true).size=ops.size:=by simpa using hs
   have ac:(m0 ops.size (L.setIfInBounds i true)).length<=fuel:=by rw[r2]; rw[r1] at hl; simp at hl ⊢; omega
   have hcl':∀ i',i'<ops.size->(L.setIfInBounds i true).getD i' true=true->∀ j,((d7 ops).getD i' 0).testBit j=true->(L.setIfInBounds i true).getD j true=true:=by
    intro i' hi' hl' j hj;rw[pM A7] at hl' ⊢;split
    ·rfl
    ·by_cases e:i'=i
     ·subst e; exact iy j hj
     ·rw[lO e] at hl'; exact bk i' hi' hl' j hj
   obtain⟨g,g1,g2,g3,g4⟩:=afd hc (i:=i) (o:=ops[i]) A8;rw[hos i g g1] at hk;have go:l0 P g.i (os i).2.1 E E1->(ops[i]).wp P a w (wpAny P .any ops Q fuel (L.setIfInBounds i true)) Q:=fun gg=>
    Oper.wp_mono (fun a' w' hg=>by obtain⟨E2,k1,k2⟩:=hg; exact ih _ E2 a' w' ar ac hcl' k1 k2)
     (qW (K:=fun E1=>afb P ((m0 ops.size (L.setIfInBounds i true)).map os) E1 E') g2 hn G (aoc _ gg hrest'))
   unfold wpOp;rw[bq];simp only;cases jo:(ops[i]).guard with
   | none=>
    rw[jo] at g4;simp only at g4;have hw:Region.wanted ops[i] (yielded ops a.tmps)=true:=by unfold Region.wanted; rw[jo]
    rw[lK hw];rw[g4] at hk;exact .inl (go hk.1)
   | some q=>
    obtain⟨j,b⟩:=q;rw[jo] at g4;obtain⟨t,ht,en,hgg⟩:=g4;rw[hgg] at hk;rcases hk with ⟨_,⟨c,gq,cn,bd⟩ | ⟨gq,dy,_⟩⟩
    rotate_left
    ·have hy:yielded ops a.tmps j=none:=by
      unfold yielded;rw[ht,lE,aiS G en gq];rfl
     have hw:Region.wanted ops[i] (yielded ops a.tmps)=false:=by unfold Region.wanted; rw[jo]; simp[hy]
     rw[lO (by rw[hw]; simp)];rw[dy,g3] at hrest';exact ih _ (mF E (ops[i]).dst (.tup [])) _ w ar ac hcl' hrest' (pL G (zK g2))
    have hy:yielded ops a.tmps j=some c:=by
     unfold yielded;rw[ht,lE,ae9 G en gq]
    have hw:Region.wanted ops[i] (yielded ops a.tmps)=(some c == some b):=by unfold Region.wanted; rw[jo]; simp[hy]
    by_cases e:c=b
    ·rw[lK (by rw[hw,e]; simp)];exact .inl (go (cn e).1)
    ·rw[lO (by rw[hw]; simp[e])];have dy:=(bd e).1;rw[dy,g3] at hrest';exact ih _ (mF E (ops[i]).dst (.tup [])) _ w ar ac hcl' hrest' (pL G (zK g2))
theorem afe {n:Nat} {ops:Array Oper}:∀ {l:List Oper} {is:List GI},aeQ P n ops l=some is->is.length=l.length:=by
 intro l;induction l with
 | nil=>intro is h; simp only[aeQ,Option.some.injEq] at h; subst h; rfl
 | cons q l ih=>
  intro is hc;simp only[aeQ] at hc;obtain⟨x,hx,hc⟩:=bind_some hc;obtain⟨rest,hr,hc⟩:=bind_some hc;split at hc
  ·cases hc; simp[ih hr]
  ·obtain⟨t,ht,hc⟩:=bind_some hc;obtain⟨en,hc⟩:=aC hc;cases hc; simp[ih hr]
theorem tN (n:Nat):m0 n (Array.replicate n false)=List.range n:=by
 unfold m0;rw[lU4];intro i hi;have:i<n:=by simpa using hi
 simp[lF1,this]
theorem aot {l:List GI} {bs:List Nat} {i j:Nat} (h:((xxB l bs).getD j 0).testBit i=true):(bs.getD j 0).testBit i=true\/∃ o q,l[i]?=some o/\l[j]?=some q/\xxG o q=true:=by
 unfold xxB at h;rw[lW,lP1] at h;by_cases hj:j<l.length
 ·rw[List.getElem?_range hj] at h;simp only[lD,lG2] at h;have key:∀ (ks:List Nat) (s:Nat),(∀ k ∈ ks,k<j)->(ks.foldl (fun s i=>if xxG (l.getD i default) (l.getD j default)=true then s ||| 2^i else s) s).testBit i=true ->
    s.testBit i=true\/(i<j/\xxG (l.getD i default) (l.getD j default)=true):=by
   intro ks;induction ks with
   | nil=>intro s _ h; exact .inl h
   | cons k ks ih=>
    intro s ni h;simp only[lG3] at h;rcases ih _ (fun x hx=>ni x D6) h with h | h
    ·split at h
     ·rename_i hx;rw[Nat.testBit_or,Nat.testBit_two_pow] at h;simp only[lA5,decide_eq_true_eq] at h;rcases h with h | h
      ·exact .inl h
      ·subst h; exact .inr ⟨ni k A8,hx⟩
     ·exact .inl h
    ·exact .inr h
  rcases key _ _ (fun k hk=>by simpa using hk) h with h | ⟨hi,hx⟩
  ·exact .inl h
  ·right;refine⟨l.getD i default,l.getD j default,?_,?_,hx⟩
   ·rw[lW,lF (show i<l.length by omega)]; rfl
   ·rw[lW,lF hj]; rfl
 ·rw[lC2 (by simpa using hj)] at h;simp at h
theorem ade (hn:B.n<=1000) (hm:P.follows .mixedOrders=true) {id:Nat} {ops:Array Oper} {is:List GI} {K:Env->Prop} (hc:aeQ P B.n ops ops.toList=some is) (cf:oP ops=true)
  (h:mV P (xxB is (d7 ops)) [] is K E) (G:bC B hv w a E) (hQ:∀ E' a' w',K E'->bC B hv w' a' E'->Q .normal a' w'):(Code.region id ops true).wp P Q a w:=by
 obtain⟨its,E',k1,k2,k3,k4⟩:=aa8 is [] E h;have ac:its.length=ops.size:=by rw[<-lU1 (f:=(·.1)),k1,afe hc]; simp
 refine wp_region_any hm (aiV hn (is:=is) (os:=fun i=>its.getD i default) hc ?_ ?_ cf (E':=E') (fun a' w' G'=>hQ E' a' w' k4 G') ops.size _ E a _ A8 ?_ ?_ ?_ (aba G rfl))
 ·intro i g hg;rw[<-k1,lP1] at hg;obtain⟨x,hx,rfl⟩:=map_some hg;rw[lW,hx];rfl
 ·intro i j kz hj;have hi':i<its.length:=by omega
  have hj':j<its.length:=by omega
  rcases aiU k3 kz B0 (o:=its[i].2.2) (q:=its[j].2.2) (by simp[hi']) (by simp[hj']) with h | h
  ·rcases aot h with h | ⟨o,q,ho,hq,hx⟩
   ·exact .inl h
   ·refine .inr (.inr ?_);rw[<-k1,lP1] at ho hq;obtain⟨x,kv,rfl⟩:=map_some ho;obtain⟨y,hy1,rfl⟩:=map_some hq;rw[lW,lW,kv,hy1];exact hx
  ·right; left;unfold aeP at h;simp only[lM] at h;rw[lW,lW,lF hi',lF hj'];exact⟨fun t ht=>⟨nS h.1.1 t ht,nS h.2 t ht⟩,fun t ht=>nS h.1.2 t ht⟩
 ·rw[tN]; simp
 ·intro i hi hl;simp[lF1,hi] at hl
 ·rw[tN];have:(List.range ops.size).map (fun i=>its.getD i default)=its:=by
   apply lB2;intro i;rw[lP1];by_cases hi:i<ops.size
   ·rw[List.getElem?_range hi,lD,lW,lF A7];rfl
   ·rw[lC2 (by simpa using hi),lC2 A7];rfl
  rw[this]; exact k2
def aff (is:Nat->GI) (lt:Nat->Nat->Bool) (K:Env->Prop):Nat->List Nat->Env->Prop
 | 0,rem,E=>rem=[]/\K E
 | n+1,rem,E=>∀ i ∈ rem,(∀ j ∈ rem,lt j i=false)->∃ E1,ev E (is i).i=some E1/\aff is lt K n (rem.erase i) E1
theorem uK {is:Nat->GI} {lt lt':Nat->Nat->Bool} {K:Env->Prop}:∀ (n:Nat) (rem:List Nat) (E:Env),(∀ x ∈ rem,∀ y ∈ rem,lt x y=lt' x y)->aff is lt K n rem E->aff is lt' K n rem E:=by
 intro n;induction n with
 | zero=>intro rem E _ h; exact h
 | succ n ih=>
  intro rem E he h i hi hr;obtain⟨E1,h1,h2⟩:=h i hi fun j hj=>(he j hj i hi).trans (hr j hj)
  exact⟨E1,h1,ih _ _ (fun x hx y hy=>he x (lB5 hx) y (lB5 hy)) h2⟩
theorem alU {is:Nat->GI} {lt:Nat->Nat->Bool} {K:Env->Prop}:∀ (n:Nat) {rem rem':List Nat} (E:Env),rem.Perm rem'->aff is lt K n rem E->aff is lt K n rem' E:=by
 intro n;induction n with
 | zero=>intro rem rem' E hp h; exact⟨by rw[h.1] at hp; exact List.Perm.nil_eq hp |>.symm,h.2⟩
 | succ n ih=>
  intro rem rem' E hp h i hi hr;obtain⟨E1,h1,h2⟩:=h i (hp.mem_iff.2 hi) fun j hj=>hr j (hp.mem_iff.1 hj)
  exact⟨E1,h1,ih _ (hp.erase i) h2⟩
theorem agB {is:Nat->GI} {lt:Nat->Nat->Bool} {K:Env->Prop} {c d:Nat} (hcd:c≠d):∀ (n:Nat) (rem:List Nat) (E:Env),rem.Nodup->aff is (acH lt c d) K n rem E->aff is (acH lt d c) K n rem E->aff is lt K n rem E:=by
 intro n;induction n with
 | zero=>intro rem E _ h _; exact h
 | succ n ih=>
  intro rem E hn h1 h2 i hi hr;have r1:¬ (i=d/\c ∈ rem)->∀ j ∈ rem,acH lt c d j i=false:=by
   intro bp j hj;simp only[acH,hr j hj,lI5,Bool.and_eq_false_iff,beq_eq_false_iff_ne];by_cases e:j=c
   ·right; intro e2; exact bp ⟨e2,e ▸ hj⟩
   ·exact .inl e
  have r2:¬ (i=c/\d ∈ rem)->∀ j ∈ rem,acH lt d c j i=false:=by
   intro bp j hj;simp only[acH,hr j hj,lI5,Bool.and_eq_false_iff,beq_eq_false_iff_ne];by_cases e:j=d
   ·right; intro e2; exact bp ⟨e2,e ▸ hj⟩
   ·exact .inl e
  by_cases hA:i=d/\c ∈ rem
  ·obtain⟨E1,k1,k2⟩:=h2 i hi (r2 fun h=>hcd (h.1.symm.trans hA.1));refine⟨E1,k1,uK n _ _ (fun x hx y hy=>?_) k2⟩;have hxd:x≠d:=fun e=>by subst e; rw[<-hA.1] at hx; exact(hn.not_mem_erase) hx
   simp[acH,hxd]
  by_cases hB:i=c/\d ∈ rem
  ·obtain⟨E1,k1,k2⟩:=h1 i hi (r1 hA);refine⟨E1,k1,uK n _ _ (fun x hx y hy=>?_) k2⟩;have hxc:x≠c:=fun e=>by subst e; rw[<-hB.1] at hx; exact(hn.not_mem_erase) hx
   simp[acH,hxc]
  obtain⟨E1,k1,k2⟩:=h1 i hi (r1 hA);obtain⟨E2,g1,g2⟩:=h2 i hi (r2 hB);rw[k1] at g1; cases g1;exact⟨E1,k1,ih _ _ (hn.erase i) k2 g2⟩
theorem apS {is:Nat->GI} {lt:Nat->Nat->Bool} {K:Env->Prop} {a b c:Nat} (h1:lt a b=true) (h2:lt b c=true):∀ (n:Nat) (rem:List Nat) (E:Env),(b ∈ rem\/a ∉ rem)->rem.Nodup->aff is (acH lt a c) K n rem E->aff is lt K n rem E:=by
 intro n;induction n with
 | zero=>intro rem E _ _ h; exact h
 | succ n ih=>
  intro rem E hv hn h i hi hr;obtain⟨E1,k1,k2⟩:=h i hi (by
   intro j hj;simp only[acH,hr j hj,lI5,Bool.and_eq_false_iff,beq_eq_false_iff_ne];by_cases e:j=a
   ·right;rintro rfl;subst e;rcases hv with hb | ha
    ·have:=hr b hb; rw[h2] at this; cases this
    ·exact ha hj
   ·exact .inl e)
  refine⟨E1,k1,ih _ _ ?_ (hn.erase i) k2⟩;rcases hv with hb | ha
  ·by_cases e:b=i
   ·subst e;right;intro hm;have:=hr a (lB5 hm); rw[h1] at this; cases this
   ·exact .inl ((List.mem_erase_of_ne e).2 hb)
  ·exact .inr fun hm=>ha (lB5 hm)
theorem aou {i:I} {ms:List M} {E E':Env} (hc:i.isCall=false) (h:l0 P i ms E E'):ev E i=some E':=by
 cases i <;> first | exact h | cases hc
theorem alV {i:I} {K:Env->Prop} {E E':Env} (hc:i.isCall=false) (h:ev E i=some E') (hK:K E'):qR P i K E:=by
 cases i <;> first | exact⟨E',h,hK⟩ | cases hc
theorem alW {is:Nat->GI} {lt:Nat->Nat->Bool} {K:Env->Prop} {os:Nat->agA} (fu:∀ i,plG (is i)=true) (hos:∀ i,(os i).1=is i):∀ (n:Nat) (σ:List Nat) (E E':Env),σ.length=n->σ.Nodup ->
  σ.Pairwise (fun x y=>lt x y=true\/(alR (os x) (os y)\/xxG (os x).1 (os y).1=true))->afb P (σ.map os) E E'->K E'->aff is lt K n σ E:=by
 intro n;induction n with
 | zero=>
  intro σ E E' hl _ _ hr hK;have:σ=[]:=List.eq_nil_of_length_eq_zero hl;subst this;have hE:E'=E:=hr;subst hE;exact⟨rfl,hK⟩
 | succ n ih=>
  intro σ E E' hl hn hp hr hK i hi hrd;obtain⟨pre,post,rfl⟩:=List.append_of_mem hi;have fy:i ∉ pre:=fun h=>by
   rw[List.nodup_append] at hn;exact hn.2.2 i h i A8 rfl
  have hp':=List.pairwise_append.1 hp;have ae:afb P (os i::(pre.map os++post.map os)) E E':=by
   refine aa7 (pre.map os) ?_ (by simpa using hr);intro o ho;obtain⟨x,hx,rfl⟩:=lV2.1 ho;rcases hp'.2.2 x hx i A8 with h | h
   ·have:=hrd x D6; rw[h] at this; cases this
   ·exact h
  obtain⟨E1,⟨hk,_⟩,an⟩:=ae;have hg:=fu i;simp only[plG,lM,Option.isNone_iff_eq_none,lF4] at hg;rw[hos i,hg.1.1] at hk;refine⟨E1,aou hg.1.2 hk.1,?_⟩;rw[List.erase_append_right _ fy,List.erase_cons_head];refine ih (pre++post) E1 E' (by simp at hl ⊢; omega) (by
   rw[List.nodup_append] at hn ⊢;exact⟨hn.1,(List.nodup_cons.1 hn.2.1).2,fun x hx y hy=>hn.2.2 x hx y B8⟩) ?_ (by rw[lP2]; exact an) hK
  exact List.pairwise_append.2 ⟨hp'.1,(lF2.1 hp'.2.1).2,fun x hx y hy=>hp'.2.2 x hx y B8⟩
theorem aov (hn:B.n<=1000) {ops:Array Oper} {is:List GI} (hc:aeQ P B.n ops ops.toList=some is) (fu:∀ (i:Nat) (g:GI),is[i]?=some g->plG g=true) (cf:oP ops=true) {K:Env->Prop}
  (hQ:∀ E' a' w',K E'->bC B hv w' a' E'->Q .normal a' w') :
  ∀ (fuel:Nat) (L:Array Bool) (E:Env) (a:Act) (w:World),L.size=ops.size->(m0 ops.size L).length<=fuel ->
   (∀ i,i<ops.size->L.getD i true=true->∀ j,((d7 ops).getD i 0).testBit j=true->L.getD j true=true) ->
   aff (fun i=>is.getD i default) (fun j i=>((d7 ops).getD i 0).testBit j) K (m0 ops.size L).length (m0 ops.size L) E->bC B hv w a E->wpAny P .any ops Q fuel L a w:=by
 have none_left:∀ (L:Array Bool),Region.ready .any ops L=[]->L.size=ops.size->m0 ops.size L=[]:=by
  intro L hr hs;cases ct:m0 ops.size L with
  | nil=>rfl
  | cons x xs=>
   exfalso;have hx:x ∈ m0 ops.size L:=by rw[ct]; simp
   have hex:∃ i,i<ops.size/\L.getD i true=false:=by
    obtain⟨h1,h2⟩:=lR3.1 hx;exact⟨x,by simpa using h1,by simpa using h2⟩
   obtain⟨i,⟨h1,h2⟩,fw⟩:=g9 hex;have:i ∈ Region.ready .any ops L:=by
    unfold Region.ready;rw[lR3];refine⟨by simpa using h1,?_⟩;rw[h2,lA1 h1];simp only[Bool.not_false,lL4,lD,lG2];rw[<-Array.all_toList,lP];intro e he;by_cases hb:Region.binds .any e=true
    ·have aa:=iT cf (lA1 h1) he hb;have:L.getD e.on true=true:=by
      cases hc:L.getD e.on true with
      | true=>rfl
      | false=>exact absurd ⟨by omega,hc⟩ (fw e.on aa)
     rw[lF1,lA1 A7] at this ⊢;simp only[lG2] at this ⊢;simp[this]
    ·simp[hb]
   rw[hr] at this;simp at this
 intro fuel;induction fuel with
 | zero=>
  intro L E a w hs hl bk ae G;have ct:m0 ops.size L=[]:=List.eq_nil_of_length_eq_zero A7;rw[ct] at ae;refine⟨?_,hQ _ a w ae.2 G⟩;cases hr:Region.ready .any ops L with
  | nil=>rfl
  | cons i l=>
   exfalso;have hi:i ∈ Region.ready .any ops L:=by rw[hr]; simp
   unfold Region.ready at hi;rw[lR3] at hi;obtain⟨h1,h2⟩:=hi;have:i ∈ m0 ops.size L:=by
    unfold m0; rw[List.mem_filter];refine⟨h1,?_⟩;simp only[lM] at h2;exact h2.1
   rw[ct] at this;simp at this
 | succ fuel ih=>
  intro L E a w hs hl bk ae G;refine⟨?_,?_⟩
  ·intro hr;have ct:=none_left L hr hs;rw[ct] at ae;exact hQ _ a w ae.2 G
  ·intro i hi;unfold Region.ready at hi;rw[lR3] at hi;obtain⟨h1,h2⟩:=hi;have aa:i<ops.size:=by simpa using h1
   have bq:ops[i]?=some ops[i]:=lA1 aa;simp only[lM,bq,lD,lG2,lF4] at h2;obtain⟨hu,bi⟩:=h2;rw[<-Array.all_toList,lP] at bi;have dq:∀ e ∈ (ops[i]).after.toList,Region.binds .any e=true->L.getD e.on true=true:=by
    intro e he hb;have h3:=bi e he;simp only[hb,Bool.not_true,lI5] at h3;have gm:=iT cf bq he hb;rw[lF1,lA1 A7] at h3 ⊢;exact h3
   have iy:∀ j,((d7 ops).getD i 0).testBit j=true->L.getD j true=true:=by
    intro j hj;obtain⟨e,e1,e2,e3⟩:=rT ops bq hj;rcases e3 with rfl | e3
    ·exact dq e e1 e2
    ·exact bk e.on (by have:=iT cf bq e1 e2; omega) (dq e e1 e2) j e3
   obtain⟨pre,post,r1,r2,r3⟩:=afc aa hs hu;have jx:(m0 ops.size L).Nodup:=List.nodup_range.filter _;have hir:i ∈ m0 ops.size L:=by rw[r1]; simp
   have fy:i ∉ pre:=fun h=>by
    rw[r1,List.nodup_append] at jx;exact jx.2.2 i h i A8 rfl
   have hera:(m0 ops.size L).erase i=m0 ops.size (L.setIfInBounds i true):=by rw[r1,r2,List.erase_append_right _ fy,List.erase_cons_head]
   have ou:(m0 ops.size L).length=(m0 ops.size (L.setIfInBounds i true)).length+1:=by rw[r1,r2]; simp; omega
   rw[ou] at ae;obtain⟨E1,hev,an⟩:=ae i hir fun j hj=>by
    show ((d7 ops).getD i 0).testBit j=false;cases hb:((d7 ops).getD i 0).testBit j with
    | false=>rfl
    | true=>
     have:=iy j hb;unfold m0 at hj;rw[lR3] at hj;rw[this] at hj;simp at hj
   rw[hera] at an;have ar:(L.setIfInBounds i true).size=ops.size:=by simpa using hs
   have hcl':∀ i',i'<ops.size->(L.setIfInBounds i true).getD i' true=true->∀ j,((d7 ops).getD i' 0).testBit j=true->(L.setIfInBounds i true).getD j true=true:=by
    intro i' hi' hl' j hj;rw[pM A7] at hl' ⊢;split
    ·rfl
    ·by_cases e:i'=i
     ·subst e; exact iy j hj
     ·rw[lO e] at hl'; exact bk i' hi' hl' j hj
   obtain⟨g,g1,g2,g3,g4⟩:=afd hc (i:=i) (o:=ops[i]) A8;have hgi:is.getD i default=g:=by rw[lW,g1]; rfl
   simp only[hgi] at hev;have hg:=fu i g g1;simp only[plG,lM,Option.isNone_iff_eq_none,lF4] at hg;unfold wpOp;rw[bq];simp only;cases jo:(ops[i]).guard with
   | some q=>
    obtain⟨j,b⟩:=q;rw[jo] at g4;obtain⟨t,ht,en,hgg⟩:=g4;rw[hg.1.1] at hgg; cases hgg
   | none=>
    have hw:Region.wanted ops[i] (yielded ops a.tmps)=true:=by unfold Region.wanted; rw[jo]
    rw[lK hw];exact .inl (Oper.wp_mono (fun a' w' hg=>by obtain⟨E2,k1,k2⟩:=hg; exact ih _ E2 a' w' ar A7 hcl' k1 k2)
     (qW (K:=fun E1=>aff (fun i=>is.getD i default) (fun j i=>((d7 ops).getD i 0).testBit j) K (m0 ops.size (L.setIfInBounds i true)).length (m0 ops.size (L.setIfInBounds i true)) E1) g2 hn G (alV hg.1.2 hev an)))
theorem alX {lt:Nat->Nat->Bool} {σ:List Nat} {p q:Nat} (hq:q<σ.length) (h:((apF lt σ).getD q 0).testBit p=true):p<q/\lt (σ.getD p 0) (σ.getD q 0)=true:=by
 unfold apF at h;rw[lW,lP1,List.getElem?_range hq] at h;simp only[lD,lG2] at h;have key:∀ (ks:List Nat) (s:Nat),(∀ k ∈ ks,k<q)->(ks.foldl (fun s p=>if lt (σ.getD p 0) (σ.getD q 0)=true then s ||| 2^p else s) s).testBit p=true ->
   s.testBit p=true\/(p<q/\lt (σ.getD p 0) (σ.getD q 0)=true):=by
  intro ks;induction ks with
  | nil=>intro s _ h; exact .inl h
  | cons k ks ih=>
   intro s ni h;simp only[lG3] at h;rcases ih _ (fun x hx=>ni x D6) h with h | h
   ·split at h
    ·rename_i hx;rw[Nat.testBit_or,Nat.testBit_two_pow] at h;simp only[lA5,decide_eq_true_eq] at h;rcases h with h | h
     ·exact .inl h
     ·subst h; exact .inr ⟨ni k A8,hx⟩
    ·exact .inl h
   ·exact .inr h
 rcases key _ _ (fun k hk=>by simpa using hk) h with h | h
 ·simp at h
 ·exact h
theorem aow {is:List GI} {K:Env->Prop} {E:Env} (fu:∀ (i:Nat) (g:GI),is[i]?=some g->plG g=true):∀ (t:BT) (lt:Nat->Nat->Bool),anS P is K E lt t->aff (fun i=>is.getD i default) lt K is.length (List.range is.length) E:=by
 intro t;induction t with
 | node c d x y ihx ihy=>intro lt h; exact agB h.1 _ _ _ List.nodup_range (ihx _ h.2.1) (ihy _ h.2.2)
 | tr a b c x ih=>
  intro lt h;obtain⟨h1,h2⟩:=h;simp only[lM,decide_eq_true_eq] at h1;exact apS h1.1 h1.2.1 _ _ _ (.inl (by simpa using h1.2.2)) List.nodup_range (ih _ h2)
 | leaf σ=>
  intro lt h;obtain⟨hp,hd⟩:=h;have iz:σ.Perm (List.range is.length):=List.isPerm_iff.1 hp;have jx:σ.Nodup:=iz.nodup_iff.2 List.nodup_range;have jq:σ.length=is.length:=by simpa using iz.length_eq
  obtain⟨its,E',k1,k2,k3,k4⟩:=aa8 _ _ _ hd;have nv:its.length=σ.length:=by rw[<-lU1 (f:=(·.1)),k1]; simp
  let os:Nat->agA:=fun i=>its.getD (σ.idxOf i) (is.getD i default,[],([],[]))
  have ml:∀ (p:Nat) (h:p<σ.length),os σ[p]=its[p]'A7:=by
   intro p h;show its.getD (σ.idxOf σ[p]) _=_;rw[jx.idxOf_getElem p h,lW,lF A7]; rfl
  have hmap:σ.map os=its:=by
   apply List.ext_getElem (by simp[nv]);intro p h1 h2;rw[List.getElem_map]; exact ml p (by simpa using h1)
  refine alU _ _ iz (alW (os:=os) ?_ ?_ is.length σ E E' jq jx ?_ (by rw[hmap]; exact k2) k4)
  ·intro i;rw[lW];cases hi:is[i]? with
   | none=>rfl
   | some g=>exact fu i g hi
  ·intro i;show (its.getD (σ.idxOf i) _).1=_;by_cases h:σ.idxOf i<σ.length
   ·have e1:σ[σ.idxOf i]=i:=List.getElem_idxOf h;have e2:(its.map (·.1))[σ.idxOf i]?=(σ.map fun i=>is.getD i default)[σ.idxOf i]?:=by rw[k1]
    rw[lP1,lP1,lF h,lF A7,lD,lD,e1] at e2;rw[lW,lF A7];exact Option.some.inj e2
   ·rw[lW,lC2 A7]; rfl
  ·rw[lN2];intro p q hp hq fz;rw[ml p hp,ml q hq];rcases aiU k3 fz B0 (o:=(its[p]'A7).2.2) (q:=(its[q]'A7).2.2) (by simp[nv,hp]) (by simp[nv,hq]) with h | h
   ·have:=(alX hq h).2;rw[lW,lW,lF hp,lF hq] at this;exact .inl this
   ·right; left;unfold aeP at h;simp only[lM] at h;exact⟨fun t ht=>⟨nS h.1.1 t ht,nS h.2 t ht⟩,fun t ht=>nS h.1.2 t ht⟩
theorem aox {l:List GI} {bs:List Nat} {j:Nat} (h:∀ (i:Nat) (g:GI),l[i]?=some g->plG g=true) (hj:j<l.length):(xxB l bs).getD j 0=bs.getD j 0:=by
 have hx:∀ i k,xxG (l.getD i default) (l.getD k default)=false:=by
  intro i k;have hi:plG (l.getD i default)=true:=by
   rw[lW];cases hg:l[i]? with
   | none=>rfl
   | some g=>exact h i g hg
  generalize l.getD i default=o at hi;simp only[plG,lM] at hi;have hxi:xxI o.i (l.getD k default).i=false:=by
   have:=hi.2;revert this;cases o.i <;> intro h <;> first | rfl | cases h
  rw[xxG,hxi]; simp
 unfold xxB;rw[lW,lP1,List.getElem?_range hj];simp only[lD,lG2,hx];have key:∀ (ks:List Nat) (s:Nat),ks.foldl (fun s i=>if (false:Bool)=true then s ||| 2^i else s) s=s:=by
  intro ks;induction ks with
  | nil=>intro s; rfl
  | cons k ks ih=>intro s; simp only[lG3]; exact ih s
 exact key _ _
theorem aiW (hn:B.n<=1000) (hm:P.follows .mixedOrders=true) {id:Nat} {ops:Array Oper} {is:List GI} {K:Env->Prop} (hc:aeQ P B.n ops ops.toList=some is) (cf:oP ops=true) (fu:is.all plG=true) {t:BT}
  (h:anS P is K E (ltB (xxB is (d7 ops))) t) (G:bC B hv w a E) (hQ:∀ E' a' w',K E'->bC B hv w' a' E'->Q .normal a' w'):(Code.region id ops true).wp P Q a w:=by
 have hpl':∀ (i:Nat) (g:GI),is[i]?=some g->plG g=true:=fun i g hg=>lP.1 fu g (lE3 hg)
 have ac:is.length=ops.size:=by rw[afe hc]; simp
 have hs:=aow hpl' t _ h;rw[ac] at hs;refine wp_region_any hm (aov hn hc hpl' cf hQ ops.size _ E a _ A8 (by rw[tN]; simp) ?_ ?_ (aba G rfl))
 ·intro i hi hl;simp[lF1,hi] at hl
 ·rw[tN,List.length_range];refine uK _ _ _ (fun x hx y hy=>?_) hs;unfold ltB;rw[aox hpl' (by rw[ac]; simpa using hy)]
end
section
variable {P:Program} {w w':World} {B:Base} {hid hv:Nat->Value} {a:Act} {E:Env} {Fs Xs:Nat->aH} {FP XP:aH} {o:Oper}
def aqx:Ex->Exit
 | .n=>.normal
 | .r=>.ret
 | .e id=>.exit id
def aqL (B:Base) (hv:Nat->Value) (Qe:Ex->Env->Prop) (Q:Exit->Act->World->Prop):Prop:=∀ x E' a' w',Qe x E'->bC B hv w' a' E'->Q (aqx x) a' w'
theorem abb (hn:B.n<=1000) (hD:P.follows .mixedOrders=true) (ks:Nat):∀ (c:Code) (cmd:Cmd) (Qe:Ex->Env->Prop) (Q:Exit->Act->World->Prop) (E:Env) (a:Act) (w:World),
  l3 P B.n c=some cmd->aqL B hv Qe Q->awp P ks cmd Qe E->bC B hv w a E->c.wp P Q a w:=by
 intro c;induction c with
 | skip=>
  intro cmd Qe Q E a w hc hP h G;simp only[l3,Option.some.injEq] at hc; subst hc;exact wp_skip (hP .n E a w h G)
 | region id ops dr=>
  intro cmd Qe Q E a w hc hP h G;simp only[l3] at hc;split at hc
  ·cases hc
  rename_i hed;obtain⟨l,hl,rfl⟩:=map_some hc;have hQ:∀ E' a' w',Qe .n E'->bC B hv w' a' E'->Q .normal a' w':=fun E' a' w' k G'=>hP .n _ a' w' k G'
  cases dr with
  | false=>
   obtain⟨U,h⟩:=h;refine wp_region ?_;rw[List.range_eq_range'];exact aiT hn hQ ops.size 0 l _ a w A7 (by simpa using hl) h (adb hn ks U (gI ks G))
  | true=>
   obtain⟨U,h | ⟨_,hp,t,h⟩⟩:=h
   ·exact ade hn hD hl (by simpa using hed) h (adb hn ks U (gI ks G)) hQ
   ·exact aiW hn hD hl (by simpa using hed) hp h (adb hn ks U (gI ks G)) hQ
 | seq x y ihx ihy=>
  intro cmd Qe Q E a w hc hP h G;simp only[l3] at hc;obtain⟨cx,hx,hc⟩:=bind_some hc;obtain⟨cy,hy,rfl⟩:=map_some hc;refine wp_seq (ihx cx _ _ E a w hx ?_ h G);intro e E' a' w' k G';cases e with
  | n=>exact ihy cy Qe Q E' a' w' hy hP k G'
  | r=>exact hP .r E' a' w' k G'
  | e id=>exact hP (.e id) E' a' w' k G'
 | cond x y z ihy ihz=>
  intro cmd Qe Q E a w hc hP h G;simp only[l3] at hc;obtain⟨ox,hx,hc⟩:=bind_some hc;obtain⟨cy,hy,hc⟩:=bind_some hc;obtain⟨cz,hz,rfl⟩:=map_some hc;obtain⟨t,ht,h1,h2⟩:=h;refine wp_cond_split (nQ G (aQ hx) ht) (fun e=>?_) (fun e=>?_)
  ·exact ihy cy Qe Q E a w hy hP (h1 e) G
  ·exact ihz cz Qe Q E a w hz hP (h2 e) G
 | block id c ih=>
  intro cmd Qe Q E a w hc hP h G;simp only[l3] at hc;obtain⟨cc,gq,rfl⟩:=map_some hc;refine wp_block (ih cc _ _ E a w gq ?_ h G);intro x E' a' w' k G';by_cases e:x=.e id
  ·subst e;simp only[lQ] at k;simp only[aqx,Exit.inBlock,lQ];exact hP .n E' a' w' k G'
  ·simp only[e,lN1] at k;cases x with
   | n=>exact hP .n E' a' w' k G'
   | r=>exact hP .r E' a' w' k G'
   | e id'=>
    have:id'≠id:=fun h=>e (by rw[h])
    simp only[aqx,Exit.inBlock,this,lN1];exact hP (.e id') E' a' w' k G'
 | loop c ih=>
  intro cmd Qe Q E a w hc hP h G;simp only[l3] at hc;obtain⟨cc,gq,rfl⟩:=map_some hc;obtain⟨D,J,⟨n,hJ⟩,mm⟩:=h
  classical
  let p:Act->World->Nat->Prop:=fun a w n=>∃ E,J n E/\bC B hv w a E
  let μ:Act->World->Nat:=fun a w=>if h:∃ n,p a w n then Classical.choose (g9 h) else 0
  have hμ:∀ a w m,p a w m->p a w (μ a w)/\μ a w<=m:=by
   intro a w m hm;have h:∃ n,p a w n:=⟨m,hm⟩
   have hs:=Classical.choose_spec (g9 h);have e:μ a w=Classical.choose (g9 h):=by simp only[μ]; rw[dif_pos h]
   rw[e];exact⟨hs.1,Nat.le_of_not_lt fun aa=>hs.2 m aa hm⟩
  refine wp_loop (fun a w=>∃ n,p a w n) μ ⟨n,_,hJ,qX ks D G⟩ ?_;rintro a w ⟨m,hm⟩;obtain⟨⟨E0,hJ0,G0⟩,_⟩:=hμ a w m hm;refine ih cc _ _ E0 a w gq ?_ (mm _ E0 hJ0) G0;intro x E' a' w' k G';cases x with
  | n=>
   obtain⟨m',aa,hJ'⟩:=k;have:=hμ a' w' m' ⟨_,hJ',qX ks D G'⟩;exact⟨⟨m',_,hJ',qX ks D G'⟩,by omega⟩
  | r=>exact hP .r E' a' w' k G'
  | e id=>exact hP (.e id) E' a' w' k G'
 | exit id=>
  intro cmd Qe Q E a w hc hP h G;simp only[l3,Option.some.injEq] at hc; subst hc;exact wp_exit (hP (.e id) E a w h G)
 | ret=>
  intro cmd Qe Q E a w hc hP h G;simp only[l3,Option.some.injEq] at hc; subst hc;exact wp_ret (hP .r E a w h G)
 | _=>intro cmd Qe Q E a w hc; simp[l3] at hc
theorem PR.place {v:Value} {vs:List Value} {x:AV} {xs:List AV} (P1:PR B hid w a E Fs Xs FP XP (v::vs) (x::xs)) {q:Nat} {hid':Nat->Value}
  (hv':aI a.tmps hid' q=v) (am:∀ t,t≠q->aI a.tmps hid' t=aI a.tmps hid t) :
  ∃ Fs' Xs' FP' XP',PR B hid' w a (E.put q x) Fs' Xs' FP' XP' vs xs:=by
 have R:=P1.rel;obtain⟨A1,A2,Y1,Y2,q1,q2,eA,eY⟩:=RepA.uncons P1.rep;have links:∀ r e p o,aM w (aI a.tmps hid) E r e p=some o->aM w (aI a.tmps hid') (E.put q x) r e p=some none\/aM w (aI a.tmps hid') (E.put q x) r e p=some o:=by
  intro r e p o h;by_cases hr:r=q
  ·subst hr; exact .inl (eI rfl h)
  ·exact .inr (by rw[kW (w':=w) (a':=a) (hid':=hid') R (bX hr) (cY hr) (am r hr) (fun _ _=>rfl) (fun _ _=>rfl)]; exact h)
 refine⟨fun t=>if t=q then A1 else Fs t,fun t=>if t=q then Y1 else Xs t,A2,Y2,?_,q2.same links (fun _ _=>rfl) (fun _ _=>rfl),?_,?_,?_,?_,?_,?_,?_⟩
 ·refine R.change (fun t=>t=q) R.size R.dfr ?_ ?_ ?_ ?_ ?_ ?_ ?_ (Grows.refl _) (fun _ _ _=>rfl) ?_ ?_
  ·intro t ht; exact⟨bX ht,cY ht,am t ht,by simp[ht],by simp[ht],fun _ _=>rfl,fun _ _=>rfl⟩
  ·intro r hr e p o h; subst hr; exact .inl (eI rfl h)
  ·intro l t ht; subst ht; rw[cQ,hv']; simp only[lQ];exact q1.same l (fun _ _=>rfl) (fun _ _=>rfl)
  ·intro t ht b; simp only[ht,lQ]; have:=P1.one b; have:=eA b; omega
  ·intro t ht t' hne' b; subst ht; simp only[lQ,Ne.symm hne',lN1]; have:=P1.dis t' b; have:=eA b; omega
  ·intro t ht t' b; subst ht; simp only[lQ];by_cases e:t'=t
   ·simp only[e,lQ]; have:=P1.dx3 b; have:=eA b; have:=eY b; omega
   ·simp only[e,lN1]; have:=P1.dx1 t' b; have:=eA b; omega
  ·intro t ht t' b; subst ht; simp only[lQ];by_cases e:t'=t
   ·simp only[e,lQ]; have:=P1.dx3 b; have:=eA b; have:=eY b; omega
   ·simp only[e,lN1]; have:=P1.dx2 t' b; have:=eY b; omega
  ·intro t ht b hb; subst ht; simp only[lQ] at hb; exact P1.org b (by have:=eA b; omega)
  ·intro t ht b hb; subst ht; simp only[lQ] at hb; exact P1.orgx b (by have:=eY b; omega)
 ·intro b; have:=P1.one b; have:=eA b; omega
 ·intro t b;by_cases e:t=q
  ·simp only[e,lQ]; have:=P1.one b; have:=eA b; omega
  ·simp only[e,lN1]; have:=P1.dis t b; have:=eA b; omega
 ·intro t b;by_cases e:t=q
  ·simp only[e,lQ]; have:=P1.dx3 b; have:=eA b; have:=eY b; omega
  ·simp only[e,lN1]; have:=P1.dx1 t b; have:=eA b; omega
 ·intro t b;by_cases e:t=q
  ·simp only[e,lQ]; have:=P1.dx3 b; have:=eA b; have:=eY b; omega
  ·simp only[e,lN1]; have:=P1.dx2 t b; have:=eY b; omega
 ·intro b; have:=P1.dx3 b; have:=eA b; have:=eY b; omega
 ·intro b hb; exact P1.org b (by have:=eA b; omega)
 ·intro b hb; exact P1.orgx b (by have:=eY b; omega)
def rt (k j:Nat):Nat:=1000+(32*(j+1)+k)
def uL:AV->AV
 | .bool b=>.bool b
 | .int k n=>.int k n
 | .str s=>.str s
 | _=>.undef
def b6 (k:Nat):Nat->List AV->List (Nat × AV)
 | _,[]=>[]
 | j,.own s es::cs=>(rt k j,.own s es)::b6 k (j+1) cs
 | j,_::cs=>b6 k (j+1) cs
def d8 (k:Nat):Nat->List AV->List AV
 | _,[]=>[]
 | j,.own _ _::cs=>.lnk (rt k j) 0 []::d8 k (j+1) cs
 | j,c::cs=>uL c::d8 k (j+1) cs
def bO:Nat->List Bool->List AV->List (Nat × AV)
 | _,_,[]=>[]
 | k,[],x::xs=>(k,x)::bO (k+1) [] xs
 | k,b::bs,x::xs=>if b then (match x with
   | .agg cs=>b6 k 0 cs++bO (k+1) bs xs
   | x=>(1000+k,x)::bO (k+1) bs xs)
  else (k,x)::bO (k+1) bs xs
def kH (k:Nat):AV->AV
 | .box _=>.ref (1000+k) 0 [] ⟨0,0,0⟩
 | .agg cs=>.agg (d8 k 0 cs)
 | _=>.lnk (1000+k) 0 []
def eN:Nat->List Bool->List AV->List (Nat × AV)
 | _,_,[]=>[]
 | _,[],_::_=>[]
 | k,b::bs,x::xs=>if b then (k,kH k x)::eN (k+1) bs xs else eN (k+1) bs xs
def apw (vs:List Value) (t:Nat):Value:=
 if t-1000<32 then vs.getD (t-1000) undef else match vs[(t-1000)%32]? with
  | some (.agg us)=>us.getD ((t-1000)/32-1) undef
  | _=>undef
theorem zL {vs:List Value} {k:Nat} {v:Value} (hk:k<32) (h:vs[k]?=some v):apw vs (1000+k)=v:=by
 unfold apw;rw[lK A7,Nat.add_sub_cancel_left,lW,h]; rfl
theorem abc {vs:List Value} {k j:Nat} {us:List Value} {v:Value} (hk:k<32) (h:vs[k]?=some (.agg us.toArray)) (hj:us[j]?=some v):apw vs (rt k j)=v:=by
 unfold apw rt;rw[lO A7,show (1000+(32*(j+1)+k)-1000)%32=k by omega,h,show (1000+(32*(j+1)+k)-1000)/32-1=j by omega];simp[lF1,hj]
def pN (l:List (Nat × AV)) (q:Nat):Prop:=∀ p ∈ l,p.1≠q
theorem xL {l:List (Nat × AV)} {q:Nat} (h:pN l q):dC l q=.undef:=by
 induction l with
 | nil=>rfl
 | cons p l ih=>
  obtain⟨k,x⟩:=p;simp only[dC];rw[lO (h (k,x) A8)];exact ih fun p hp=>h p (by simp[hp])
theorem agC {l:List (Nat × AV)} {q:Nat} (h:pN l q) (x:AV):qO l q x=l++[(q,x)]:=by
 induction l with
 | nil=>rfl
 | cons p l ih=>
  obtain⟨k,y⟩:=p;simp only[qO];rw[lO (h (k,y) A8),ih fun p hp=>h p (by simp[hp])];rfl
theorem zM {l:List (Nat × AV)} {q:Nat} (h:pN l q) (x:AV):(mkE l []).put q x=mkE (l++[(q,x)]) []:=by
 rw[anU,xL h,agC h];rfl
theorem adf (k:Nat) (hk:k<32):∀ (cs:List AV) (j:Nat) (zs vs:List Value) (xs:List AV) (l:List (Nat × AV)) {Fs Xs:Nat->aH} {FP XP:aH},zs.length=cs.length ->
  (∀ p ∈ l,∀ i,j<=i->p.1≠rt k i)->(∀ i v,zs[i]?=some v->aI a.tmps hid (rt k (j+i))=v) ->
  PR B hid w a (mkE l []) Fs Xs FP XP (zs++vs) (cs++xs)->∃ Fs' Xs' FP' XP',PR B hid w a (mkE (l++b6 k j cs) []) Fs' Xs' FP' XP' vs xs:=by
 intro cs;induction cs with
 | nil=>
  intro j zs vs xs l Fs Xs FP XP hl _ _ P1;cases zs with
  | nil=>exact⟨Fs,Xs,FP,XP,by simpa [b6] using P1⟩
  | cons z zs=>simp at hl
 | cons c cs ih=>
  intro j zs vs xs l Fs Xs FP XP hl bp hv P1;cases zs with
  | nil=>simp at hl
  | cons z zs=>
   have hl':zs.length=cs.length:=by simpa using hl
   have hv':∀ i v,zs[i]?=some v->aI a.tmps hid (rt k (j+1+i))=v:=fun i v h=>by
    have:=hv (i+1) v (by simpa using h);rw[show j+1+i=j+(i+1) by omega]; exact this
   have drop:∃ Fs' Xs' FP' XP',PR B hid w a (mkE (l++b6 k (j+1) cs) []) Fs' Xs' FP' XP' vs xs:=by
    obtain⟨A1,A2,Y1,Y2,q1,q2,eA,eY⟩:=RepA.uncons P1.rep;exact ih (j+1) zs vs xs l hl' (fun p hp i hi=>bp p hp i A7) hv' (P1.shrink q2 (fun b=>by have:=eA b; omega) (fun b=>by have:=eY b; omega))
   cases c with
   | own s es=>
    obtain⟨Fs1,Xs1,FP1,XP1,P2⟩:=PR.place P1 (q:=rt k j) (hid':=hid) (hv 0 z rfl) (fun _ _=>rfl);rw[zM (fun p hp=>bp p hp j (lE1 _))] at P2;obtain⟨Fs2,Xs2,FP2,XP2,P3⟩:=ih (j+1) zs vs xs (l++[(rt k j,.own s es)]) hl' (fun p hp i hi=>by
     rcases lL.1 hp with hp | hp
     ·exact bp p hp i A7
     ·simp at hp; subst hp; simp only[rt]; omega) hv' P2
    exact⟨Fs2,Xs2,FP2,XP2,by simpa [b6] using P3⟩
   | _=>exact drop
theorem uM:∀ (xs:List AV) (bs:List Bool) (k:Nat) (vs:List Value) (l:List (Nat × AV)) {Fs Xs:Nat->aH} {FP XP:aH},k+xs.length<=32->k+xs.length<=B.n->B.n<=1000 ->
  (∀ p ∈ l,p.1<k\/(1000<=p.1/\(p.1-1000)%32<k))->(∀ j v,vs[j]?=some v->aI a.tmps hid (k+j)=v/\aI a.tmps hid (1000+(k+j))=v) ->
  (∀ j us i v,vs[j]?=some (.agg (us:List Value).toArray)->us[i]?=some v->aI a.tmps hid (rt (k+j) i)=v) ->
  PR B hid w a (mkE l []) Fs Xs FP XP vs xs->∃ Fs' Xs' FP' XP',PR B hid w a (mkE (l++bO k bs xs) []) Fs' Xs' FP' XP' [] []:=by
 intro xs;induction xs with
 | nil=>
  intro bs k vs l Fs Xs FP XP _ _ _ _ _ _ P1;have:=P1.rep.length;cases vs with
  | nil=>exact⟨Fs,Xs,FP,XP,by cases bs <;> simpa [bO] using P1⟩
  | cons v vs=>simp at this
 | cons x xs ih=>
  intro bs k vs l Fs Xs FP XP h1 h2 hn hk hv hc P1;simp only[lZ] at h1 h2;have ac:=P1.rep.length;cases vs with
  | nil=>simp at ac
  | cons v vs=>
   have mo:=hv 0 v rfl;have ip:∀ j v',vs[j]?=some v'->aI a.tmps hid (k+1+j)=v'/\aI a.tmps hid (1000+(k+1+j))=v':=fun j v' hj=>by
    have:=hv (j+1) v' (by simpa using hj);rw[show k+1+j=k+(j+1) by omega]; exact this
   have ib:∀ j us i v',vs[j]?=some (.agg (us:List Value).toArray)->us[i]?=some v'->aI a.tmps hid (rt (k+1+j) i)=v':=fun j us i v' hj hi=>by
    have:=hc (j+1) us i v' (by simpa using hj) hi;rw[show k+1+j=k+(j+1) by omega]; exact this
   have step:∀ (q:Nat) (bs':List Bool),(q=k\/q=1000+k)->aI a.tmps hid q=v->∃ Fs' Xs' FP' XP',PR B hid w a (mkE (l++(q,x)::bO (k+1) bs' xs) []) Fs' Xs' FP' XP' [] []:=by
    intro q bs' hq hqv;have bp:pN l q:=fun p hp=>by have:=hk p hp; omega
    obtain⟨Fs1,Xs1,FP1,XP1,P2⟩:=PR.place P1 (q:=q) (hid':=hid) hqv (fun _ _=>rfl);rw[zM bp] at P2;obtain⟨Fs2,Xs2,FP2,XP2,P3⟩:=ih bs' (k+1) vs (l++[(q,x)]) A7 A7 hn (by
     intro p hp;rcases lL.1 hp with hp | hp
     ·have:=hk p hp; omega
     ·simp at hp; subst hp; (try dsimp only); omega) ip ib P2
    exact⟨Fs2,Xs2,FP2,XP2,by simpa using P3⟩
   cases bs with
   | nil=>exact step k [] (.inl rfl) mo.1
   | cons b bs=>
    cases b with
    | false=>simp only[bO]; exact step k bs (.inl rfl) mo.1
    | true=>
     cases x with
     | agg cs=>
      simp only[bO,lQ];obtain⟨zs,rfl,mf,aq⟩:=RepA.open_agg (us:=[]) (ys:=[]) rfl P1.rep;obtain⟨Fs1,Xs1,FP1,XP1,P2⟩:=adf (B:=B) k A7 cs 0 zs vs xs l mf (fun p hp i _=>by have:=hk p hp; simp only[rt]; omega)
       (fun i v hi=>by have:=hc 0 zs i v rfl hi; rw[lL2]; exact this) (P1.rerep aq)
      obtain⟨Fs2,Xs2,FP2,XP2,P3⟩:=ih bs (k+1) vs (l++b6 k 0 cs) A7 A7 hn (by
       intro p hp;rcases lL.1 hp with hp | hp
       ·have:=hk p hp; omega
       ·have key:∀ (cs:List AV) (j:Nat),∀ p ∈ b6 k j cs,∃ i,p.1=rt k i:=by
         intro cs;induction cs with
         | nil=>intro j p hp; simp[b6] at hp
         | cons c cs ih=>
          intro j p hp;cases c with
          | own s es=>
           simp only[b6,lN] at hp;rcases hp with rfl | hp
           ·exact⟨j,rfl⟩
           ·exact ih _ p hp
          | _=>simp only[b6] at hp; exact ih _ p hp
        obtain⟨i,hi⟩:=key cs 0 p hp;rw[hi]; simp only[rt]; omega) ip ib P2
      exact⟨Fs2,Xs2,FP2,XP2,by simpa using P3⟩
     | _=>simp only[bO,lQ]; exact step (1000+k) bs (.inr rfl) mo.2
def d9:List Bool->List AV->Bool
 | true::bs,x::xs=>(match x with
   | .agg cs=>decide (cs.length<=30)
   | x=>x.isRoot) && d9 bs xs
 | false::bs,_::xs=>d9 bs xs
 | _,_=>true
theorem tO {l m:List (Nat × AV)} {q:Nat} (h:pN m q):dC (l++m) q=dC l q:=by
 induction l with
 | nil=>rw[lI1,xL h]; rfl
 | cons p l ih=>obtain⟨k,x⟩:=p; simp only[lD2,dC,ih]
theorem RepA.prims {lk lk':Lk} {F X:aH} {us:List Value} {cs:List AV} (h:RepA w lk F X us cs):RepA w' lk' (fun _=>0) (fun _=>0) us (cs.map uL):=by
 induction cs generalizing us F X with
 | nil=>
  have:=h.length;cases us with
  | nil=>exact RepA.znil
  | cons u us=>simp at this
 | cons c cs ih=>
  have:=h.length;cases us with
  | nil=>simp at this
  | cons u us=>
   obtain⟨A1,A2,Y1,Y2,q1,q2,eA,eY⟩:=RepA.uncons h;have r:=ih q2;cases c with
   | bool b=>cases q1 with | bool _ _ _ _ _ _=>exact .bool _ _ _ _ _ r
   | int k n=>cases q1 with | int _ _ _ _ _ _ _=>exact .int _ _ _ _ _ _ r
   | str s=>cases q1 with | str _ _ _ _ _ _=>exact .str _ _ _ _ _ r
   | _=>exact .undef _ _ _ _ _ r
theorem aiX (R:Rel B hid w a E Fs Xs) (k:Nat):∀ (cs:List AV) (j:Nat) (zs:List Value),RepA w lk0 (fun _=>0) (fun _=>0) zs (cs.map uL) ->
  (∀ i s es,cs[i]?=some (.own s es)->E.f (rt k (j+i))=.own s es/\E.ep (rt k (j+i))=(0,0))->(∀ i v,zs[i]?=some v->aI a.tmps hid (rt k (j+i))=v) ->
  RepA w (aM w (aI a.tmps hid) E) (fun _=>0) (fun _=>0) zs (d8 k j cs):=by
 intro cs;induction cs with
 | nil=>
  intro j zs h _ _;have:=h.length;cases zs with
  | nil=>exact RepA.znil
  | cons z zs=>simp at this
 | cons c cs ih=>
  intro j zs h ho hv;have:=h.length;cases zs with
  | nil=>simp at this
  | cons z zs=>
   obtain⟨A1,A2,Y1,Y2,q1,q2,eA,eY⟩:=RepA.uncons h;have r:=ih (j+1) zs (q2.foot (fun b=>by have:=eA b; omega) (fun b=>by have:=eY b; omega)) (fun i s es hi=>by
    have:=ho (i+1) s es (by simpa using hi);rw[show j+1+i=j+(i+1) by omega]; exact this) (fun i v hi=>by
    have:=hv (i+1) v (by simpa using hi);rw[show j+1+i=j+(i+1) by omega]; exact this)
   have q1':=q1.lk0 (aM w (aI a.tmps hid) E);have cons:∀ x,RepA w (aM w (aI a.tmps hid) E) A1 Y1 [z] [x]->RepA w (aM w (aI a.tmps hid) E) (fun _=>0) (fun _=>0) (z::zs) (x::d8 k (j+1) cs):=fun x hx=>
    (RepA.cons hx r (fun _=>rfl) (fun _=>rfl)).foot (fun b=>by have:=eA b; first | omega | (dsimp only; omega) | (dsimp only at *; omega)) (fun b=>by have:=eY b; first | omega | (dsimp only; omega) | (dsimp only at *; omega))
   cases c with
   | own s es=>
    obtain⟨g1,g2⟩:=ho 0 s es rfl;have hz:=hv 0 z rfl;have ay:aM w (aI a.tmps hid) E (rt k j) 0 []=some (some z):=by
     unfold aM;rw[lT3] at g1 g2 hz;rw[g2,lO D8,lK ⟨rfl,by rw[g1]; rfl,by rw[pK]; rfl⟩,hz];rfl
    exact .lnk _ _ _ _ _ _ _ _ _ ay (fun u hu=>by cases hu; rfl) r
   | _=>exact cons _ q1'
theorem aiY (R:Rel B hid w a E Fs Xs) {k:Nat} {x:AV} (af:x.isRoot=true->E.f (1000+k)=x/\E.ep (1000+k)=(0,0)/\aI a.tmps hid (1000+k)=aI a.tmps hid k)
  (hagg:∀ cs,x=.agg cs->∃ zs:List Value,aI a.tmps hid k=.agg zs.toArray/\RepA w lk0 (fun _=>0) (fun _=>0) zs (cs.map uL) /\
   (∀ i s es,cs[i]?=some (.own s es)->E.f (rt k i)=.own s es/\E.ep (rt k i)=(0,0))/\∀ i v,zs[i]?=some v->aI a.tmps hid (rt k i)=v)
  (hr:x.isRoot=true\/∃ cs,x=.agg cs) :
  RepA w (aM w (aI a.tmps hid) E) (fun _=>0) (fun _=>0) [aI a.tmps hid k] [kH k x]:=by
 have ay:x.isRoot=true->aM w (aI a.tmps hid) E (1000+k) 0 []=some (some (aI a.tmps hid k)):=by
  intro h;obtain⟨h1,h2,h3⟩:=af h;unfold aM;rw[h2,lO D8,lK ⟨rfl,by rw[h1]; exact h,by rw[pK]; rfl⟩,<-h3];rfl
 cases x with
 | own s es=>exact .lnk _ _ _ _ _ _ _ _ _ (ay rfl) (fun u hu=>by cases hu; rfl) RepA.znil
 | box cs=>
  refine .ref _ _ _ _ _ _ _ _ _ _ (ay rfl) (fun u hu=>?_) RepA.znil;cases hu;obtain⟨h1,h2,h3⟩:=af rfl;have aq:=R.rep (1000+k);rw[h1,h3] at aq;generalize aI a.tmps hid k=v at aq;cases aq with
  | box _ F1 F2 _ X1 X2 b C ty fr _ _ _ hb hfr h1 h2 hF hX=>exact⟨⟨b,0,none⟩,rfl,by simp[add_zero]⟩
 | agg cs=>
  obtain⟨zs,hz,h1,h2,h3⟩:=hagg cs rfl;rw[hz];exact .agg _ (fun _=>0) (fun _=>0) _ (fun _=>0) (fun _=>0) zs _ [] [] (aiX R k cs 0 zs h1 (fun i s es hi=>by rw[lL2]; exact h2 i s es hi) (fun i v hi=>by rw[lL2]; exact h3 i v hi)) RepA.znil (fun _=>rfl) (fun _=>rfl)
 | _=>rcases hr with h | ⟨cs,h⟩ <;> cases h
def apT (a:Act) (w:World) (hid:Nat->Value) (l:List (Nat × AV)) (k:Nat) (x:AV):Prop:=
 (x.isRoot=true->dC l (1000+k)=x/\aI a.tmps hid (1000+k)=aI a.tmps hid k) /\
 (∀ cs,x=.agg cs->∃ zs:List Value,aI a.tmps hid k=.agg zs.toArray/\RepA w lk0 (fun _=>0) (fun _=>0) zs (cs.map uL) /\
   (∀ i s es,cs[i]?=some (.own s es)->dC l (rt k i)=.own s es)/\∀ i v,zs[i]?=some v->aI a.tmps hid (rt k i)=v)/\pN l k
theorem uN:∀ (xs:List AV) (bs:List Bool) (k:Nat) (l:List (Nat × AV)) {Fs Xs:Nat->aH},k+xs.length<=32->k+xs.length<=B.n->B.n<=1000 ->
  (∀ j x,xs[j]?=some x->bs[j]?=some true->apT a w hid l (k+j) x)->d9 bs xs=true ->
  Rel B hid w a (mkE l []) Fs Xs->∃ Fs' Xs',Rel B hid w a (mkE (l++eN k bs xs) []) Fs' Xs':=by
 intro xs;induction xs with
 | nil=>intro bs k l Fs Xs _ _ _ _ _ R; exact⟨Fs,Xs,by cases bs <;> simpa [eN] using R⟩
 | cons x xs ih=>
  intro bs k l Fs Xs h1 h2 hn hl hr R;simp only[lZ] at h1 h2;cases bs with
  | nil=>exact⟨Fs,Xs,by simpa [eN] using R⟩
  | cons b bs=>
   cases b with
   | false=>
    simp only[eN];exact ih bs (k+1) l A7 A7 hn (fun j y hj hb=>by
     have:=hl (j+1) y (by simpa using hj) (by simpa using hb);rw[show k+1+j=k+(j+1) by omega]; exact this) (by simpa [d9] using hr) R
   | true=>
    simp only[d9,lM] at hr;obtain⟨g1,g2,g3⟩:=hl 0 x rfl rfl;rw[lT3] at g1 g2 g3;have hrx:x.isRoot=true\/∃ cs,x=.agg cs:=by
     cases x with
     | agg cs=>exact .inr ⟨cs,rfl⟩
     | _=>exact .inl hr.1
    have aq:=aiY R (k:=k) (x:=x) (fun h=>⟨by rw[anT]; exact(g1 h).1,rfl,(g1 h).2⟩) (fun cs hcs=>by
     obtain⟨zs,z1,z2,z3,z4⟩:=g2 cs hcs;exact⟨zs,z1,z2,fun i s es hi=>⟨by rw[anT]; exact z3 i s es hi,rfl⟩,z4⟩) hrx
    obtain⟨XP',P1⟩:=PR.ofRel R aq (fun _=>rfl) (fun b hb=>absurd rfl hb);obtain⟨Fs1,Xs1,FP1,XP1,P2⟩:=PR.place P1 (q:=k) (hid':=hid) rfl (fun _ _=>rfl);rw[zM g3] at P2;have far:∀ q,1000<=q->pN [(k,kH k x)] q:=by
     intro q hq p hp; simp at hp; subst hp; (try dsimp only); omega
    obtain⟨Fs2,Xs2,R3⟩:=ih bs (k+1) (l++[(k,kH k x)]) A7 A7 hn (fun j y hj hb=>by
     obtain⟨k1,k2,k3⟩:=hl (j+1) y (by simpa using hj) (by simpa using hb);rw[show k+1+j=k+(j+1) by omega];refine⟨fun h=>?_,fun cs hcs=>?_,?_⟩
     ·rw[tO (far _ A7)]; exact k1 h
     ·obtain⟨zs,z1,z2,z3,z4⟩:=k2 cs hcs;exact⟨zs,z1,z2,fun i s es hi=>by rw[tO (far _ B7)]; exact z3 i s es hi,z4⟩
     ·intro p hp;rcases lL.1 hp with hp | hp
      ·exact k3 p hp
      ·simp at hp; subst hp; (try dsimp only); omega) hr.2 P2.rel
    exact⟨Fs2,Xs2,by simpa [eN] using R3⟩
end
end Go.Proofs.YtnfeefcnblondaaGreatDoor.Awp
