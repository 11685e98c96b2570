/- A general law about the translated programs is proved here: what a function's code does to values that are trees of cells (part 4 of 4). Condition: none. -/
import Derived.Test.YtnhdalnfboiooaaGreatDoorAwp3
import Derived.SizedLaws
import Derived.JoinedOf
import Derived.RowKit
import Derived.ChangeSame
import Derived.Handed
import Derived.Lay
namespace Go.Proofs.YtnhdalnfboiooaaGreatDoor.Awp
set_option linter.unusedVariables false
set_option linter.unusedSimpArgs false
variable {H:Type} {enc:TypeId × Value→H} {P:Program} {w w':World} {sp:Nat→Bool}
inductive Ty where
 | bool
 | int (k:IntKind)
 | str
 | sl (s:Nat) (e:List Ty)
inductive Shp:List Ty→List TV→Prop where
 | nil:Shp [] []
 | bool (b:Bool) (ys:List Ty) (ts:List TV) (h:Shp ys ts):Shp (.bool::ys) (.bool b::ts)
 | int (k:IntKind) (n:Int) (ys:List Ty) (ts:List TV) (hn:(Lit.int k n).wf=true) (h:Shp ys ts):Shp (.int k::ys) (.int k n::ts)
 | str (s:List UInt8) (ys:List Ty) (ts:List TV) (hs:s.length≤2^47) (h:Shp ys ts):Shp (.str::ys) (.str s::ts)
 | sl (s:Nat) (e:List Ty) (es:List (List TV)) (ys:List Ty) (ts:List TV) (hl:es.length≤2^47) (he:∀ r ∈ es,Shp e r) (h:Shp ys ts):Shp (.sl s e::ys) (.sl s es::ts)
theorem Shp.length {ys:List Ty} {ts:List TV} (h:Shp ys ts):ts.length=ys.length:=by
 induction h <;> simp_all
theorem Shp.append {ys zs:List Ty} {ts us:List TV} (h:Shp ys ts) (g:Shp zs us):Shp (ys++zs) (ts++us):=by
 induction h with
 | nil=>exact g
 | bool b ys ts h ih=>exact .bool b _ _ ih
 | int k n ys ts hn h ih=>exact .int k n _ _ hn ih
 | str s ys ts hs h ih=>exact .str s _ _ hs ih
 | sl s e es ys ts hl he h ih1 ih=>exact .sl s e es _ _ hl he ih
def shapeF (P:Program) (sh:TypeId→Option (List Ty)):Nat→List Field→Option (List Ty)
 | _,[]=>some []
 | o,f::fs=>if f.offset=o then (sh f.type).bind fun a=>if a.length=P.cellsOf f.type then (shapeF P sh (o+a.length) fs).map (a++·) else none else none
def shapeOf (P:Program):Nat→TypeId→Option (List Ty)
 | 0,_=>none
 | k+1,t=>match P.underlying t with
  | some .bool=>some [.bool]
  | some (.int q)=>some [.int q]
  | some .string=>some [.str]
  | some (.slice e)=>(shapeOf P k e).bind fun sh=>if sh.length=P.cellsOf e∧0<sh.length∧0<P.bytesOf e then some [.sl sh.length sh] else none
  | some (.struct fs)=>(shapeF P (shapeOf P k) 0 fs.toList).bind fun sh=>if sh.length=P.cellsOf t then some sh else none
  | _=>none
theorem trod_bool {fuel:Nat} {t:TypeId} {cs:List Value} {x:DataW H × List MemPlace} (ht:P.underlying t=some .bool) (h:DataW.trod enc P w 0 sp true fuel t cs=some x) :
  ∃ b,cs=[.bool b]:=by
 cases fuel with
 | zero=>simp [DataW.trod] at h
 | succ n=>rw [DataW.trod_step] at h; unfold DataW.trodStep at h; rw [ht] at h; split at h <;> simp_all
theorem trod_int {fuel:Nat} {t:TypeId} {k:IntKind} {cs:List Value} {x:DataW H × List MemPlace} (ht:P.underlying t=some (.int k)) (h:DataW.trod enc P w 0 sp true fuel t cs=some x) :
  ∃ n,cs=[.int k n]∧(Lit.int k n).wf=true:=by
 cases fuel with
 | zero=>simp [DataW.trod] at h
 | succ n=>rw [DataW.trod_step] at h; unfold DataW.trodStep at h; rw [ht] at h; split at h <;> simp_all
theorem trod_str {fuel:Nat} {t:TypeId} {cs:List Value} {x:DataW H × List MemPlace} (ht:P.underlying t=some .string) (h:DataW.trod enc P w 0 sp true fuel t cs=some x) :
  ∃ s:ByteArray,cs=[.string s]∧x.1=.lit (.string s.data.toList):=by
 cases fuel with
 | zero=>simp [DataW.trod] at h
 | succ n=>
  rw [DataW.trod_step] at h; unfold DataW.trodStep at h; rw [ht] at h
  split at h <;> simp_all
  rename_i s _ _
  exact h.2 ▸ rfl
theorem trod_slice {fuel:Nat} {t e:TypeId} {cs:List Value} {x:DataW H × List MemPlace} (ht:P.underlying t=some (.slice e)) (h:DataW.trod enc P w 0 sp true (fuel+1) t cs=some x) :
  (cs=[.slice none 0 0]∧x=(.nil,[]))∨∃ a len cap elems rest,cs=[.slice (some a) len cap]∧len≤cap∧cap≤maxLen ∧
   (List.range len).mapM (fun i=>(w.cells? 0 (a.add (i*P.cellsOf e)) (P.cellsOf e)).bind (DataW.trod enc P w 0 sp true fuel e))=some elems ∧
   (if sp a.block then (List.range (cap-len)).mapM fun j=>(w.cells? 0 (a.add ((len+j)*P.cellsOf e)) (P.cellsOf e)).bind (DataW.trod enc P w 0 sp true fuel e) else some [])=some rest ∧
   x=(.slice (elems.map (·.1)) (rest.map (·.1)),MemPlace.row a ((elems.length+rest.length)*P.cellsOf e)++(elems++rest).flatMap (·.2)):=by
 rw [DataW.trod_step] at h; unfold DataW.trodStep at h; rw [ht] at h
 split at h
 case h_7=>exact .inl ⟨rfl,by simpa using h.symm⟩
 case h_8 e' a len cap heq=>
  cases heq
  simp only at h
  split at h
  ·rename_i hc
   simp only [Option.map_eq_some_iff,Option.bind_eq_some_iff] at h
   obtain ⟨elems,he,rest,hrest,rfl⟩:=h
   exact .inr ⟨a,len,cap,elems,rest,rfl,hc.2.1,hc.2.2,he,hrest,rfl⟩
  ·cases h
 all_goals simp_all
theorem trod_struct {fuel:Nat} {t:TypeId} {fs:Array Field} {cs:List Value} {x:DataW H × List MemPlace} (ht:P.underlying t=some (.struct fs)) (h:DataW.trod enc P w 0 sp true (fuel+1) t cs=some x) :
  cs.length=P.cellsOf t∧∃ xs,(fs.toList.mapM fun f=>DataW.trod enc P w 0 sp true fuel f.type ((cs.drop f.offset).take (P.cellsOf f.type)))=some xs∧x=(.agg (xs.map (·.1)),xs.flatMap (·.2)):=by
 rw [DataW.trod_step] at h; unfold DataW.trodStep at h; rw [ht] at h
 split at h
 case h_9 fs' cs' heq=>
  cases heq
  split at h
  ·rename_i hc
   simp only [Option.map_eq_some_iff] at h
   obtain ⟨xs,hx,rfl⟩:=h
   exact ⟨hc,xs,hx,rfl⟩
  ·cases h
 all_goals simp_all
theorem ext_rows {s:Nat} {a:Addr} {sh:List Ty}:∀ n,(∀ i,i<n→∃ (c:List Value) (t:List TV) (F:Foot),w.cells? 0 (a.add (i*s)) s=some c∧Row w false F c t∧Shp sh t∧∀ b,F b≠0→b<w.heap.size) →
  ∃ (cs:List Value) (es:List (List TV)) (F:Foot),cs.length=n*s∧es.length=n∧Row w false F cs es.flatten∧(∀ e ∈ es,e.length=s∧Shp sh e)∧(∀ k,k<cs.length→w.cell? (a.add k)=cs[k]?)∧∀ b,F b≠0→b<w.heap.size:=by
 intro n
 induction n with
 | zero=>intro _; exact ⟨[],[],fun _=>0,by simp,rfl,.nil _ _ fun _=>rfl,by simp,by simp,fun _ h=>absurd rfl h⟩
 | succ n ih=>
  intro hs
  obtain ⟨cs,es,F,h1,h2,h3,h4,h5,h6⟩:=ih fun i hi=>hs i (by omega)
  obtain ⟨c,t,G,g1,g2,g3,g4⟩:=hs n (by omega)
  obtain ⟨_,hl,hc⟩:=World.cells?_some g1
  refine ⟨cs++c,es++[t],fun b=>F b+G b,by rw [List.length_append,h1,hl,Nat.succ_mul],by simp [h2],?_,?_,?_,?_⟩
  ·rw [List.flatten_append,List.flatten_singleton]; exact Row.append h3 g2 fun _=>rfl
  ·intro e he
   rcases List.mem_append.1 he with he | he
   ·exact h4 e he
   ·simp at he; subst he; exact ⟨by rw [← g2.length,hl],g3⟩
  ·intro k hk
   rw [List.getElem?_append]
   by_cases hk1:k<cs.length
   ·rw [if_pos hk1]; exact h5 k hk1
   ·rw [if_neg hk1]
    rw [List.length_append] at hk
    have:=hc (k-cs.length) (by omega)
    rw [add_add,← h1,show cs.length+(k-cs.length)=k by omega] at this
    exact this
  ·intro b hb
   by_cases e:F b=0
   ·exact g4 b (by (try dsimp only at hb); omega)
   ·exact h6 b e
theorem weightsAll_mem {e:TypeId}:∀ {l:List (DataW H)} {d:DataW H},d ∈ l→∀ n ∈ d.weights P e,n ∈ DataW.weightsAll P e l:=by
 intro l
 induction l with
 | nil=>intro d h; cases h
 | cons y l ih=>
  intro d h n hn
  simp only [DataW.weightsAll,List.mem_append]
  rcases List.mem_cons.1 h with rfl | h
  ·exact .inl hn
  ·exact .inr (ih h n hn)
theorem trod_row:∀ (k:Nat) (t:TypeId) (sh:List Ty) (fuel:Nat) (cs:List Value) (x:DataW H × List MemPlace),shapeOf P k t=some sh→DataW.trod enc P w 0 sp true fuel t cs=some x →
  (∀ n ∈ x.1.weights P t,n≤2^47)→∃ (F:Foot) (ts:List TV),Row w false F cs ts∧Shp sh ts∧∀ b,F b≠0→b<w.heap.size:=by
 intro k
 induction k with
 | zero=>intro t sh fuel cs x h; simp [shapeOf] at h
 | succ k ih=>
  intro t sh fuel cs x hs h hz
  cases fuel with
  | zero=>simp [DataW.trod] at h
  | succ fuel=>
  unfold shapeOf at hs
  split at hs
  ·rename_i ht
   cases hs
   obtain ⟨b,rfl⟩:=trod_bool ht h
   exact ⟨fun _=>0,_,.bool _ _ b _ _ (.nil _ _ fun _=>rfl),.bool b _ _ .nil,fun _ h=>absurd rfl h⟩
  ·rename_i q ht
   cases hs
   obtain ⟨n,rfl,hn⟩:=trod_int ht h
   exact ⟨fun _=>0,_,.int _ _ q n _ _ (.nil _ _ fun _=>rfl),.int q n _ _ hn .nil,fun _ h=>absurd rfl h⟩
  ·rename_i ht
   cases hs
   obtain ⟨s,rfl,hx⟩:=trod_str ht h
   have hl:=hz s.data.toList.length (by rw [hx]; simp [DataW.weights])
   exact ⟨fun _=>0,[.str s.data.toList],.str _ _ s.data.toList _ _ (.nil _ _ fun _=>rfl),.str _ _ _ hl .nil,fun _ h=>absurd rfl h⟩
  ·rename_i e ht
   obtain ⟨she,hse,hs⟩:=Option.bind_eq_some_iff.1 hs
   split at hs
   ·rename_i hc
    obtain ⟨hc1,hc2,hc3⟩:=hc
    cases hs
    rcases trod_slice ht h with ⟨rfl,rfl⟩ | ⟨a,len,cap,elems,rest,rfl,hlc,_,he,hr,rfl⟩
    ·exact ⟨fun _=>0,_,.ext0 _ she.length none 0 _ _ (.nil _ _ fun _=>rfl),.sl _ _ [] _ _ (by simp) (by simp) .nil,fun _ h=>absurd rfl h⟩
    ·have hel:elems.length=len:=by simpa using mapM_some_length he
     have hle:elems.length≤2^47:=by
      have:=hz ((elems.length+rest.length)*P.bytesOf e) (by simp [DataW.weights,ht])
      have h1:(elems.length+rest.length)*1≤(elems.length+rest.length)*P.bytesOf e:=Nat.mul_le_mul_left _ hc3
      omega
     obtain ⟨cs,es,F,h1,h2,h3,h4,h5,h6⟩:=ext_rows (w:=w) (s:=she.length) (a:=a) (sh:=she) len fun i hi=>by
      have hg:=mapM_some_get he i i (by simp [hi])
      rw [List.getElem?_eq_getElem (by omega)] at hg
      simp only [Option.bind_eq_some_iff] at hg
      obtain ⟨c,g1,g2⟩:=hg
      obtain ⟨F,ts,f1,f2,f3⟩:=ih e she fuel c _ hse g2 fun n hn=>hz n (by
       simp only [DataW.weights,ht,List.mem_cons,List.mem_append]
       refine .inr (.inl (weightsAll_mem (List.mem_map.2 ⟨_,List.getElem_mem (by omega),rfl⟩) n hn)))
      exact ⟨c,ts,F,by rw [hc1]; exact g1,f1,f2,f3⟩
     by_cases hn0:len=0
     ·subst hn0
      exact ⟨fun _=>0,_,.ext0 _ she.length (some a) cap _ _ (.nil _ _ fun _=>rfl),.sl _ _ [] _ _ (by simp) (by simp) .nil,fun _ h=>absurd rfl h⟩
     ·have hab:a.block<w.heap.size:=by
       have h0:=h5 0 (by rw [h1]; exact Nat.mul_pos (by omega) hc2)
       rw [List.getElem?_eq_getElem (by rw [h1]; exact Nat.mul_pos (by omega) hc2)] at h0
       have:=World.block_lt_of_cell? w _ h0
       rwa [add_block] at this
      have:=Row.ext (w:=w) (fun x=>(if x=a.block then 1 else 0)+F x+0) F (fun _=>0) she.length es a cap cs [] [] (by omega) (fun e he=>(h4 e he).1) (by rw [h1,h2]) h5 h3 (.nil _ _ fun _=>rfl) (fun _=>rfl)
      rw [h2] at this
      refine ⟨_,_,this,.sl _ _ es _ _ (by omega) (fun r hr=>(h4 r hr).2) .nil,fun b hb=>?_⟩
      by_cases e:b=a.block
      ·omega
      ·exact h6 b (by simp [e] at hb; exact hb)
   ·cases hs
  ·rename_i fs ht
   obtain ⟨shs,hse,hs⟩:=Option.bind_eq_some_iff.1 hs
   split at hs
   ·rename_i hc
    cases hs
    obtain ⟨hcl,xs,hx,rfl⟩:=trod_struct ht h
    have hz':∀ n ∈ DataW.weightsEach P (fs.toList.map (·.type)) (xs.map (·.1)),n≤2^47:=fun n hn=>hz n (by simp only [DataW.weights,ht]; exact hn)
    have key:∀ (l:List Field) (o:Nat) (ss:List Ty) (ys:List (DataW H × List MemPlace)),shapeF P (shapeOf P k) o l=some ss →
      (l.mapM fun f=>DataW.trod enc P w 0 sp true fuel f.type ((cs.drop f.offset).take (P.cellsOf f.type)))=some ys→(∀ n ∈ DataW.weightsEach P (l.map (·.type)) (ys.map (·.1)),n≤2^47) →
      ∃ (F:Foot) (ts:List TV),Row w false F ((cs.drop o).take ss.length) ts∧Shp ss ts∧∀ b,F b≠0→b<w.heap.size:=by
     intro l
     induction l with
     | nil=>intro o ss ys h1 h2 h3; simp [shapeF] at h1; subst h1; exact ⟨fun _=>0,[],by simpa using Row.nil _ _ fun _=>rfl,.nil,fun _ h=>absurd rfl h⟩
     | cons f l ih2=>
      intro o ss ys h1 h2 h3
      unfold shapeF at h1
      split at h1
      ·rename_i ho
       obtain ⟨sa,ha,h1⟩:=Option.bind_eq_some_iff.1 h1
       split at h1
       ·rename_i hal
        obtain ⟨sb,hb,rfl⟩:=Option.map_eq_some_iff.1 h1
        rw [List.mapM_cons] at h2
        simp only [Option.bind_eq_bind,Option.bind_eq_some_iff,Option.pure_def,Option.some.injEq] at h2
        obtain ⟨y,hy,ys',hys,rfl⟩:=h2
        simp only [List.map_cons,DataW.weightsEach,List.mem_append] at h3
        obtain ⟨F,ts,f1,f2,f3⟩:=ih f.type sa fuel _ y ha hy fun n hn=>h3 n (.inl hn)
        obtain ⟨G,us,g1,g2,g3⟩:=ih2 (o+sa.length) sb ys' hb hys fun n hn=>h3 n (.inr hn)
        rw [ho,← hal] at f1
        refine ⟨fun b=>F b+G b,ts++us,?_,f2.append g2,fun b hb=>?_⟩
        ·rw [List.length_append,List.take_add,List.drop_drop]
         exact Row.append f1 g1 fun _=>rfl
        ·by_cases e:F b=0
         ·exact g3 b (by (try dsimp only at hb); omega)
         ·exact f3 b e
       ·cases h1
      ·cases h1
    obtain ⟨F,ts,f1,f2,f3⟩:=key _ 0 _ xs hse hx hz'
    rw [List.drop_zero,List.take_of_length_le (by omega)] at f1
    exact ⟨F,ts,f1,f2,f3⟩
   ·cases hs
  ·cases hs
theorem trod_spare {sq:Nat→Bool}:∀ (k:Nat) (t:TypeId) (sh:List Ty) (fuel:Nat) (cs:List Value) (x:DataW H × List MemPlace),shapeOf P k t=some sh→DataW.trod enc P w 0 (fun _=>true) true fuel t cs=some x →
  (∀ p ∈ x.2,sq p.block=true)→DataW.trod enc P w 0 sq true fuel t cs=some x:=by
 intro k
 induction k with
 | zero=>intro t sh fuel cs x h; simp [shapeOf] at h
 | succ k ih=>
  intro t sh fuel cs x hs h hz
  cases fuel with
  | zero=>simp [DataW.trod] at h
  | succ fuel=>
  unfold shapeOf at hs
  split at hs
  ·rename_i ht
   obtain ⟨b,rfl⟩:=trod_bool ht h
   rw [DataW.trod_step] at h ⊢; unfold DataW.trodStep at h ⊢; rw [ht] at h ⊢; exact h
  ·rename_i q ht
   obtain ⟨n,rfl,hn⟩:=trod_int ht h
   rw [DataW.trod_step] at h ⊢; unfold DataW.trodStep at h ⊢; rw [ht] at h ⊢; exact h
  ·rename_i ht
   obtain ⟨s,rfl,hx⟩:=trod_str ht h
   rw [DataW.trod_step] at h ⊢; unfold DataW.trodStep at h ⊢; rw [ht] at h ⊢; exact h
  ·rename_i e ht
   obtain ⟨she,hse,hs⟩:=Option.bind_eq_some_iff.1 hs
   split at hs
   ·rename_i hc
    obtain ⟨hc1,hc2,hc3⟩:=hc
    rcases trod_slice ht h with ⟨rfl,rfl⟩ | ⟨a,len,cap,elems,rest,rfl,hlc,hcm,he,hr,rfl⟩
    ·rw [DataW.trod_step]; unfold DataW.trodStep; rw [ht]; rfl
    ·simp only [List.mem_append,List.mem_flatMap] at hz
     simp only [if_true] at hr
     have one:∀ i x,x ∈ elems∨x ∈ rest→(w.cells? 0 (a.add (i*P.cellsOf e)) (P.cellsOf e)).bind (DataW.trod enc P w 0 (fun _=>true) true fuel e)=some x →
       (w.cells? 0 (a.add (i*P.cellsOf e)) (P.cellsOf e)).bind (DataW.trod enc P w 0 sq true fuel e)=some x:=by
      intro i x hx h
      obtain ⟨c,h1,h2⟩:=Option.bind_eq_some_iff.1 h
      rw [h1]
      exact ih e she fuel c x hse h2 fun p hp=>hz p (.inr ⟨x,hx,hp⟩)
     have he':=mapM_carry (g:=fun i=>(w.cells? 0 (a.add (i*P.cellsOf e)) (P.cellsOf e)).bind (DataW.trod enc P w 0 sq true fuel e)) he fun i x _ hx h=>one i x (.inl hx) h
     have hr':=mapM_carry (g:=fun j=>(w.cells? 0 (a.add ((len+j)*P.cellsOf e)) (P.cellsOf e)).bind (DataW.trod enc P w 0 sq true fuel e)) hr fun i x _ hx h=>one _ x (.inr hx) h
     have hrl:rest.length=cap-len:=by simpa using mapM_some_length hr
     rw [DataW.trod_step]; unfold DataW.trodStep; rw [ht]
     simp only [Nat.zero_le,true_and,hlc,hcm,and_self,if_true]
     rw [he',Option.bind_some]
     by_cases hq:sq a.block=true
     ·rw [if_pos hq,hr']; rfl
     ·rw [if_neg hq]
      have:(elems.length+rest.length)*P.cellsOf e=0:=by
       rcases Nat.eq_zero_or_pos ((elems.length+rest.length)*P.cellsOf e) with h | h
       ·exact h
       ·exact absurd (hz (.cell a.block (a.off+0)) (.inl (MemPlace.mem_row.2 ⟨0,h,rfl⟩))) hq
      have h0:elems.length+rest.length=0:=by
       rcases Nat.mul_eq_zero.1 this with h | h
       ·exact h
       ·omega
      have:rest=[]:=List.length_eq_zero_iff.1 (by omega)
      subst this
      rfl
   ·cases hs
  ·rename_i fs ht
   obtain ⟨shs,hse,hs⟩:=Option.bind_eq_some_iff.1 hs
   obtain ⟨hcl,xs,hx,rfl⟩:=trod_struct ht h
   have key:∀ (l:List Field) (o:Nat) (ss:List Ty) (ys:List (DataW H × List MemPlace)),shapeF P (shapeOf P k) o l=some ss →
     (l.mapM fun f=>DataW.trod enc P w 0 (fun _=>true) true fuel f.type ((cs.drop f.offset).take (P.cellsOf f.type)))=some ys→(∀ y ∈ ys,∀ p ∈ y.2,sq p.block=true) →
     (l.mapM fun f=>DataW.trod enc P w 0 sq true fuel f.type ((cs.drop f.offset).take (P.cellsOf f.type)))=some ys:=by
    intro l
    induction l with
    | nil=>intro o ss ys h1 h2 h3; simpa using h2
    | cons f l ih2=>
     intro o ss ys h1 h2 h3
     unfold shapeF at h1
     split at h1
     ·obtain ⟨sa,ha,h1⟩:=Option.bind_eq_some_iff.1 h1
      split at h1
      ·obtain ⟨sb,hb,rfl⟩:=Option.map_eq_some_iff.1 h1
       rw [List.mapM_cons] at h2 ⊢
       simp only [Option.bind_eq_bind,Option.bind_eq_some_iff,Option.pure_def,Option.some.injEq] at h2 ⊢
       obtain ⟨y,hy,ys',hys,rfl⟩:=h2
       exact ⟨y,ih f.type sa fuel _ y ha hy (h3 y (by simp)),ys',ih2 _ sb ys' hb hys (fun z hz=>h3 z (by simp [hz])),rfl⟩
      ·cases h1
     ·cases h1
   rw [DataW.trod_step]; unfold DataW.trodStep; rw [ht]
   simp only [hcl,if_true]
   rw [key _ 0 _ xs hse hx fun y hy p hp=>hz p (List.mem_flatMap.2 ⟨y,hy,hp⟩)]
   rfl
  ·cases hs
end Go.Proofs.YtnhdalnfboiooaaGreatDoor.Awp
namespace Go.Proofs.YtnhdalnfboiooaaGreatDoor.Awp
set_option linter.unusedVariables false
set_option linter.unusedSimpArgs false
variable {H:Type} {enc:TypeId × Value→H} {P:Program} {w w':World}
def bv:TV→AV
 | .undef=>.undef
 | .bool b=>.bool b
 | .int k n=>.int k n
 | .str s=>.str s
 | .sl s es=>.ext s es
theorem bv_rep {lk:Lk}:∀ {ts:List TV} {vs:List Value} {F:Foot},Row w false F vs ts→RepA w lk (fun _=>0) F vs (ts.map bv):=by
 intro ts
 induction ts with
 | nil=>
  intro vs F h
  cases h with
  | nil _ _ h=>exact .nil _ _ (fun _=>rfl) h
 | cons t ts ih=>
  intro vs F h
  have hl:=h.length
  cases vs with
  | nil=>simp at hl
  | cons v vs=>
   obtain ⟨F1,F2,h1,h2,e⟩:=Row.uncons h
   have r:=ih h2
   cases t with
   | undef=>
    refine RepA.foot (.undef _ _ _ _ _ r) (fun _=>rfl) fun b=>?_
    cases h1 with
    | undef _ _ _ _ _ h=>cases h with | nil _ _ h=>rw [e,h]; omega
   | bool x=>
    cases h1 with
    | bool _ _ _ _ _ h=>cases h with | nil _ _ h=>exact RepA.foot (.bool _ _ _ _ _ r) (fun _=>rfl) fun b=>by rw [e,h]; omega
   | int k n=>
    cases h1 with
    | int _ _ _ _ _ _ h=>cases h with | nil _ _ h=>exact RepA.foot (.int _ _ _ _ _ _ r) (fun _=>rfl) fun b=>by rw [e,h]; omega
   | str s=>
    cases h1 with
    | str _ _ _ _ _ h=>cases h with | nil _ _ h=>exact RepA.foot (.str _ _ _ _ _ r) (fun _=>rfl) fun b=>by rw [e,h]; omega
   | sl s es=>exact .ext _ _ F1 F2 _ _ _ _ _ h1 r e
def isStruct (P:Program) (t:TypeId):Bool:=match P.underlying t with | some (.struct _)=>true | _=>false
def parOf (P:Program) (t:TypeId):Option (Bool × List Ty):=(shapeOf P 12 t).map fun sh=>(isStruct P t,sh)
def avOf (b:Bool) (ts:List TV):AV:=if b then .agg (ts.map bv) else (ts.map bv).headD .undef
def ArgsShp:List (Bool × List Ty)→List (List TV)→Prop
 | [],[]=>True
 | p::ps,ts::tss=>Shp p.2 ts∧ArgsShp ps tss
 | _,_=>False
def avsOf:List (Bool × List Ty)→List (List TV)→List AV
 | p::ps,ts::tss=>avOf p.1 ts::avsOf ps tss
 | _,_=>[]
theorem par_cells {base:Nat} {t:TypeId} {v:Value} {p:Bool × List Ty} (hp:parOf P t=some p) (hv:Value.okWide P w .any base t v) :
  (p.1=true∧∃ cs,v=.agg cs∧v.cells.toList=cs.toList)∨(p.1=false∧p.2.length=1∧v.cells.toList=[v]):=by
 obtain ⟨sh,hs,rfl⟩:=Option.map_eq_some_iff.1 hp
 unfold shapeOf at hs
 split at hs
 ·rename_i ht
  obtain ⟨b,rfl⟩:=WideShapes.okWide_bool ht hv
  cases hs; exact .inr ⟨by simp [isStruct,ht],rfl,rfl⟩
 ·rename_i q ht
  obtain ⟨b,rfl⟩:=WideShapes.okWide_int ht hv
  cases hs; exact .inr ⟨by simp [isStruct,ht],rfl,rfl⟩
 ·rename_i ht
  obtain ⟨b,rfl⟩:=WideShapes.okWide_string ht hv
  cases hs; exact .inr ⟨by simp [isStruct,ht],rfl,rfl⟩
 ·rename_i e ht
  obtain ⟨a,len,cap,rfl⟩:=WideShapes.okWide_slice ht hv
  obtain ⟨she,hse,hs⟩:=Option.bind_eq_some_iff.1 hs
  split at hs
  ·cases hs; exact .inr ⟨by simp [isStruct,ht],rfl,rfl⟩
  ·cases hs
 ·rename_i fs ht
  obtain ⟨cs,rfl,hc⟩:=WideShapes.okWide_struct ht hv
  exact .inl ⟨by simp [isStruct,ht],cs,rfl,rfl⟩
 ·cases hs
theorem args_rep {base:Nat}:∀ {ts:List TypeId} {vs:List Value} {ds:List (DataW H)} {ps:List MemPlace} {pars:List (Bool × List Ty)},ts.mapM (parOf P)=some pars →
  DataW.TrodAll enc P w 0 (fun _=>true) true ts vs ds ps→(∀ (j:Nat) t v,ts[j]?=some t→vs[j]?=some v→Value.okWide P w .any base t v)→(∀ n ∈ DataW.weightsEach P ts ds,n≤2^47) →
  ∃ X tss,ArgsShp pars tss∧RepA w lk0 (fun _=>0) X vs (avsOf pars tss)∧∀ b,X b≠0→b<w.heap.size:=by
 intro ts
 induction ts with
 | nil=>
  intro vs ds ps pars hp h hv hz
  simp at hp; subst hp
  cases vs with
  | cons _ _=>simp [DataW.TrodAll] at h
  | nil=>exact ⟨fun _=>0,[],trivial,RepA.znil,fun _ h=>absurd rfl h⟩
 | cons t ts ih=>
  intro vs ds ps pars hp h hv hz
  rw [List.mapM_cons] at hp
  simp only [Option.bind_eq_bind,Option.bind_eq_some_iff,Option.pure_def,Option.some.injEq] at hp
  obtain ⟨p,hp1,pars',hps,rfl⟩:=hp
  cases vs with
  | nil=>simp [DataW.TrodAll] at h
  | cons v vs=>
  cases ds with
  | nil=>simp [DataW.TrodAll] at h
  | cons d ds=>
  obtain ⟨p1,q1,⟨fuel,h1⟩,h2,rfl⟩:=h
  simp only [DataW.weightsEach,List.mem_append] at hz
  obtain ⟨X,tss,g1,g2,g3⟩:=ih hps h2 (fun j t v h1 h2=>hv (j+1) t v (by simpa using h1) (by simpa using h2)) (fun n hn=>hz n (.inr hn))
  have hv0:=hv 0 t v rfl rfl
  obtain ⟨sh,hs,rfl⟩:=Option.map_eq_some_iff.1 hp1
  obtain ⟨F,us,f1,f2,f3⟩:=trod_row _ _ _ _ _ _ hs h1 fun n hn=>hz n (.inl hn)
  have r:=bv_rep (lk:=lk0) f1
  have hlt:∀ b,F b+X b≠0→b<w.heap.size:=fun b hb=>by
   by_cases e:F b=0
   ·exact g3 b (by omega)
   ·exact f3 b e
  refine ⟨fun b=>F b+X b,us::tss,⟨f2,g1⟩,?_,hlt⟩
  rcases par_cells hp1 hv0 with ⟨e1,cs,rfl,e2⟩ | ⟨e1,e2,e3⟩
  ·simp only [avsOf,avOf]
   simp only at e1
   rw [e1,if_pos rfl]
   rw [e2] at r
   exact .agg _ (fun _=>0) (fun _=>0) _ F X cs.toList _ _ _ r g2 (fun _=>rfl) (fun _=>rfl)
  ·simp only [avsOf,avOf]
   simp only at e1 e2
   rw [e1,if_neg (by simp)]
   rw [e3] at r
   have hl:=f2.length
   rw [e2] at hl
   match us,hl with
   | [u],_=>exact RepA.append (vs:=[v]) (as:=[bv u]) r g2 (fun _=>rfl) (fun _=>rfl)
theorem keptBut_old {W W':World} {may:MemPlace→Prop} (hg:Grows W W') (hh:∀ b,b<W.heap.size→W'.heap[b]?=W.heap[b]?):W.keptBut W' may:=by
 refine ⟨hg.quiet.os,hg.quiet.out,fun i hi=>?_⟩
 rw [hh i hi]
 cases h:W.heap[i]? with
 | none=>simp
 | some o=>
  cases o with
  | cells c t fr=>exact ⟨rfl,rfl,rfl,fun _ _=>rfl⟩
  | map es clock=>exact .inr ⟨rfl,rfl⟩
  | _=>rfl
theorem trodAll_turn {sq:Nat→Bool} {W W':World} (hh:∀ b,b<W.heap.size→W'.heap[b]?=W.heap[b]?):∀ {ts:List TypeId} {vs:List Value} {ds:List (DataW H)} {ps:List MemPlace} {pars:List (Bool × List Ty)},ts.mapM (parOf P)=some pars →
  DataW.TrodAll enc P W 0 (fun _=>true) true ts vs ds ps→(∀ p ∈ ps,sq p.block=true)→DataW.TrodAll enc P W' 0 sq true ts vs ds ps:=by
 intro ts
 induction ts with
 | nil=>
  intro vs ds ps pars hp h hs
  cases vs <;> cases ds <;> simp_all [DataW.TrodAll]
 | cons t ts ih=>
  intro vs ds ps pars hp h hs
  rw [List.mapM_cons] at hp
  simp only [Option.bind_eq_bind,Option.bind_eq_some_iff,Option.pure_def,Option.some.injEq] at hp
  obtain ⟨p,hp1,pars',hps,rfl⟩:=hp
  cases vs with
  | nil=>simp [DataW.TrodAll] at h
  | cons v vs=>
  cases ds with
  | nil=>simp [DataW.TrodAll] at h
  | cons d ds=>
  obtain ⟨p1,q1,⟨fuel,h1⟩,h2,rfl⟩:=h
  obtain ⟨sh,hsh,rfl⟩:=Option.map_eq_some_iff.1 hp1
  refine ⟨p1,q1,⟨fuel,?_⟩,ih hps h2 (fun p hp=>hs p (List.mem_append.2 (.inr hp))),rfl⟩
  have hlt:=DataW.trod_lt _ _ _ _ h1
  have h3:=DataW.trod_carry (w':=W') _ _ _ _ h1 fun p hp=>by
   have:=hlt p hp
   cases p with
   | cell b off=>exact cell_same (hh b this)
   | map b=>exact hh b this
  exact trod_spare _ _ _ _ _ _ hsh h3 fun p hp=>hs p (List.mem_append.2 (.inl hp))
theorem law_returns {C:Checked} {os:Os} {f:FuncId} {fn:Func} {s:ChangeSpec} {apart fresh handsOn again:Bool} {pars:List (Bool × List Ty)} {tb:TypeId}
  (own:ownKnob C.prog.godebug=none) (started:os.Started) (noInit:C.prog.inits.idxOf? f=none) (hfn:C.prog.funcs[f]?=some fn)
  (witness:∃ (w:World) (tape:Tape) (i:Input),w.os=os∧(w.forCall tape i).Shaped C.prog∧i.vars=[]∧Input.okWide C.prog (w.forCall tape i) .any w.heap.size f i ∧
   s.pre6 enc C.prog fn [] apart (w.forCall tape i).memory i.args∧({}:Assume).holds C.prog (lone (Frame.enter C.prog f i.args .normal) [] (w.forCall tape i)))
  (hv:s.vars=[]) (hp:fn.params.toList.mapM (parOf C.prog)=some pars) (hr:fn.resultTypes=#[tb]) (hb:C.prog.underlying tb=some .bool)
  (hsf:∀ ds:List (DataW H),ds.length=pars.length→s.fn H ds={ results:=[.lit (.bool true)],args:=ds })
  (hspec:∀ tss,ArgsShp pars tss→∃ outs,Spec C.prog f (avsOf pars tss) (.bool true) outs) :
  ReturnsInHanded {} C os f .any (s.pre6 enc C.prog fn [] apart) (s.post enc C.prog fn apart fresh handsOn again):=by
 refine returnsInHanded_of_change_sized own started noInit hfn witness ?_
 intro W base args ds gs before hval hW _ hz _
 have hW':=hW
 obtain ⟨p,q,hA,hV,rfl,hfz,hnd⟩:=hW
 rw [hv] at hV
 have hgs:gs=[]∧q=[]:=by cases gs <;> simp_all [DataW.TrodVars]
 obtain ⟨rfl,rfl⟩:=hgs
 have hvt:s.plain.varTypes C.prog=[]:=by simp [ChangeSpec.plain,DataSpec.varTypes,hv]
 rw [hvt] at hz
 simp only [List.append_nil] at hz hW' hfz hnd
 obtain ⟨X,tss,h1,h2,h3⟩:=args_rep (base:=base) hp hA (fun j t v e1 e2=>hval j t v (by simpa using e1) (by simpa using e2))
  (fun n hn=>Nat.le_of_lt (Nat.lt_of_le_of_lt (by simpa using List.all_eq_true.1 hz n hn) reachBytes_lt))
 obtain ⟨outs,hS⟩:=hspec tss h1
 have hc:=hS.2.2 W args.toList (fun _=>0) X h2 (fun _=>by omega) (fun _=>.inl rfl) h3
 rw [Array.toArray_toList] at hc
 refine hc.mono ?_
 rintro e W' ⟨v,F',X',rfl,hrep,_,_,hg,hfr,_,_⟩
 have hvt:v=.bool true:=by
  obtain ⟨_,_,_,_,r1,_,_⟩:=RepA.uncons hrep
  cases r1; rfl
 subst hvt
 refine ⟨_,rfl,?_⟩
 have hh:∀ b,b<W.heap.size→W'.heap[b]?=W.heap[b]?:=fun b hb=>hfr b hb rfl
 have hdl:ds.length=pars.length:=by
  have e1:=mapM_some_length hp
  have:∀ {ts:List TypeId} {vs:List Value} {ds:List (DataW H)} {ps:List MemPlace},DataW.TrodAll enc C.prog W 0 (fun _=>true) true ts vs ds ps→ds.length=ts.length:=by
   intro ts
   induction ts with
   | nil=>intro vs ds ps h; cases vs <;> cases ds <;> simp_all [DataW.TrodAll]
   | cons t ts ih=>
    intro vs ds ps h
    cases vs with
    | nil=>simp [DataW.TrodAll] at h
    | cons v vs=>
    cases ds with
    | nil=>simp [DataW.TrodAll] at h
    | cons d ds=>obtain ⟨_,_,_,h2,_⟩:=h; simp [ih h2]
  rw [this hA,e1]
 have hsd:=hsf ds hdl
 have hres:∀ (b:Nat) (sp:Nat→Bool) (hd:Bool),DataW.TrodAll enc C.prog W' b sp hd fn.resultTypes.toList (Value.resultList fn.resultTypes.size (.bool true)) [.lit (.bool true)] []:=by
  intro b sp hd
  rw [hr]
  exact ⟨[],[],RowKit.shut_bool hb true,rfl,rfl⟩
 have hlt:∀ x ∈ p,x.block<W.heap.size:=fun x hx=>hW'.lt x hx
 have hTA:∀ sq:Nat→Bool,(∀ x ∈ p,sq x.block=true)→DataW.TrodAll enc C.prog W' 0 sq true fn.params.toList args.toList ds p:=fun sq hsq=>trodAll_turn hh hp hA hsq
 refine ⟨ds,[],p,[],p,[],hW',?_,?_,?_,keptBut_old hg hh,fun _=>⟨?_,.lit (.bool true)::ds,[],p,⟨p,[],?_,?_,by simp,?_,hnd⟩,fun _ h _=>h⟩⟩
 ·rw [List.append_nil,hsd]; exact hres _ _ _
 ·rw [List.append_nil,hsd]; exact hTA _ fun x hx=>by simpa using hlt x hx
 ·rw [List.append_nil,hsd,hv]; rfl
 ·exact RowKit.ok_one hr rfl (RowKit.okWide_bool_mk hb true)
 ·rw [hr]; exact ⟨[],p,RowKit.shut_bool hb true,hTA _ fun _ _=>rfl,rfl⟩
 ·rw [hv]; rfl
 ·intro b off hm
  rw [World.frozen?_of_block (w:=W) (hh b (hlt _ hm))]
  exact hfz b off hm
theorem enter_of {P:Program} {r:List (List Char)} (hr:behindMainWord (wordsSigns P.initOrder.toList)=[Char.ofNat 99,Char.ofNat 117,Char.ofNat 116]::r) (h2:P.laysLater=false) (h3:P.bearsReflect=false) (h4:P.doorFits []=true):P.mayEnter=true:=by
 unfold Program.mayEnter
 rw [hr]
 have h1:stripLifts liftWords ([Char.ofNat 99,Char.ofNat 117,Char.ofNat 116]::r)=([],[Char.ofNat 99,Char.ofNat 117,Char.ofNat 116]::r):=by rfl
 dsimp only
 rw [h1,h2,h3,h4]
 rfl
theorem lifts_of {P:Program} {r:List (List Char)} (hr:behindMainWord (wordsSigns P.initOrder.toList)=[Char.ofNat 99,Char.ofNat 117,Char.ofNat 116]::r):P.liftsFinal=false:=by
 unfold Program.liftsFinal Program.headLifts
 rw [hr]
 have h1:stripLifts liftWords ([Char.ofNat 99,Char.ofNat 117,Char.ofNat 116]::r)=([],[Char.ofNat 99,Char.ofNat 117,Char.ofNat 116]::r):=by rfl
 rw [h1]
 rfl
theorem make_of {P:Program} {r:List (List Char)} (hr:behindMainWord (wordsSigns P.initOrder.toList)=[Char.ofNat 99,Char.ofNat 117,Char.ofNat 116]::r):P.make=some .cut:=by
 unfold Program.make
 rw [hr]
 rfl
theorem andT {a b:Bool} (h:a=true) (g:b=true):(a && b)=true:=by rw [h,g]; rfl
theorem joined_of {P:Program} {f:FuncId} {fn:Func} {s:ChangeSpec} {c:OpenClaim} (h0:(c.wf (OpenSpec.ofChange s))=true) (h1:(laidOutB P)=true) (h2:(mapsRowed P)=true) (h3:(fn.params.all (P.readableRec ·))=true) (h4:(namedTie P c.named s.vars)=true) (h5:((c.stops == []))=true) (h6:((P.stops == []))=true) (h7:((c.knobs == []))=true) (h8:((P.stopKnobs == []))=true) (h9:((c.inPlace == P.inPlace f))=true) (h10:((c.unfollowed == P.unfollowed f))=true) (h11:((c.recurses == P.recurses f))=true) (h12:((c.named == P.varsNamed f))=true) (h13:((c.maps == (fn.params.toList++s.plain.varTypes P).any (P.mapsRec ·)))=true) (h14:((c.ifaces == (fn.params.toList++s.plain.varTypes P).any (P.ifacesRec ·)))=true) (h15:((c.mapsOut == P.mapsAmong fn.resultTypes.toList))=true) (h16:((c.loops == (fn.params.toList++s.plain.varTypes P).any (P.loopsFrom ·)))=true) (h17:((c.wideKeys == (fn.params.toList++s.plain.varTypes P++fn.resultTypes.toList).any (P.wideKeysFrom ·)))=true) (h18:(s.vars.all (P.varReadable ·))=true) (h19:(fn.resultTypes.all (fun t=>P.readableRec t && decide (t<P.types.size)))=true) (h20:((c.ifacesOut == fn.resultTypes.toList.any (P.ifacesRec ·)))=true) (h21:((c.loopsOut == fn.resultTypes.toList.any (P.loopsFrom ·)))=true) (h22:((c.plainKeys == P.plainKeys))=true) (h23:(c.shortTexts.isNone)=true) (h24:(P.stopsHeard)=true) (h25:(P.mayEnter)=true) (h26:((c.lifted == P.liftsFinal))=true) (h27:((P.make == some c.make))=true) (h28:((c.kinds == (if c.domain.isEmpty then [] else fn.params.toList.map fun t=>match P.underlying t with | some (.int k)=>some k | _=>none)))=true) (h29:((c.pinned == c.pinnedBy))=true) (h30:((c.veiled == (fn.params.toList++s.plain.varTypes P++fn.resultTypes.toList).any (P.veiledRec ·)))=true) (h31:(c.veiledFits P fn.params.toList (fn.params.toList++s.plain.varTypes P++fn.resultTypes.toList))=true):joinedFacts P f fn s c=true:=by
 unfold joinedFacts
 exact (andT (andT (andT (andT (andT (andT (andT (andT (andT (andT (andT (andT (andT (andT (andT (andT (andT (andT (andT (andT (andT (andT (andT (andT (andT (andT (andT (andT (andT (andT (andT h0 h1) h2) h3) h4) h5) h6) h7) h8) h9) h10) h11) h12) h13) h14) h15) h16) h17) h18) h19) h20) h21) h22) h23) h24) h25) h26) h27) h28) h29) h30) h31)
end Go.Proofs.YtnhdalnfboiooaaGreatDoor.Awp
namespace Go.Proofs.YtnhdalnfboiooaaGreatDoor.Awp
set_option linter.unusedVariables false
set_option linter.unusedSimpArgs false
theorem spec_extv {P:Program} {f:FuncId} {s:Nat} {es:List (List TV)} {as outs:List AV} {ret:AV}
  (h:∀ (a:Option Addr) (len cap:Nat),(a=none→es=[])→Spec P f (.extv (.slice a len cap) s es::as) ret outs):Spec P f (.ext s es::as) ret outs:=by
 have key:∀ (w:World) (X:Foot) (v:Value),Row w false X [v] [.sl s es]→∃ a len cap,v=.slice a len cap∧(a=none→es=[]):=by
  intro w X v r
  cases r with
  | ext0 _ _ a cap _ _ _=>exact ⟨a,0,cap,rfl,fun _=>rfl⟩
  | ext _ _ _ _ _ a cap cs _ _ _ _ _ _ _ _ _=>exact ⟨some a,_,cap,rfl,fun h=>by cases h⟩
 by_cases hx:es=[]
 ·have h0:=h none 0 0 fun _=>hx
  refine ⟨h0.1,h0.2.1,?_⟩
  intro w vs F X r
  cases r with
  | ext _ _ X1 X2 _ _ v vs _ h1 hr hX=>
   obtain ⟨a,len,cap,rfl,ha⟩:=key w X1 v h1
   exact (h a len cap ha).2.2 w _ F X (.extv _ _ X1 X2 _ _ _ _ _ h1 hr hX)
 ·have h0:=h (some ⟨0,0,none⟩) 0 0 fun e=>by cases e
  refine ⟨h0.1,h0.2.1,?_⟩
  intro w vs F X r
  cases r with
  | ext _ _ X1 X2 _ _ v vs _ h1 hr hX=>
   obtain ⟨a,len,cap,rfl,ha⟩:=key w X1 v h1
   exact (h a len cap ha).2.2 w _ F X (.extv _ _ X1 X2 _ _ _ _ _ h1 hr hX)
end Go.Proofs.YtnhdalnfboiooaaGreatDoor.Awp
namespace Go.Proofs.YtnhdalnfboiooaaGreatDoor.Awp
set_option linter.unusedVariables false
set_option linter.unusedSimpArgs false
mutual
def frzA:AV→AV
 | .own s es=>.ext s es
 | .agg cs=>.agg (frzL cs)
 | .tup cs=>.tup (frzL cs)
 | .undef=>.undef
 | .bool b=>.bool b
 | .int k n=>.int k n
 | .str s=>.str s
 | .ext s es=>.ext s es
 | .extv v s es=>.extv v s es
 | .box cs=>.box cs
 | .xbox cs=>.xbox cs
 | .lnk r e p=>.lnk r e p
 | .sub r e p s lo n=>.sub r e p s lo n
 | .ref r e p st=>.ref r e p st
 | .fn f cs=>.fn f cs
def frzL:List AV→List AV
 | []=>[]
 | a::l=>frzA a::frzL l
end
theorem own_ext {w:World} {F:Foot} {v:Value} {s:Nat} {es:List (List TV)} (h:Row w true F [v] [.sl s es]):∃ X,Row w false X [v] [.sl s es]∧∀ b,X b≤F b:=h.weak rfl
theorem RepA.frz {w:World} {lk:Lk} {F X:Foot} {vs:List Value} {as:List AV} (h:RepA w lk F X vs as) :
  ∃ F2 N X2:Foot,RepA w lk F2 X2 vs (frzL as)∧(∀ b,F b=F2 b+N b)∧∀ b,X2 b≠0→X b≠0∨N b≠0:=by
 induction h with
 | nil F X hF hX=>exact ⟨F,fun _=>0,X,.nil F X hF hX,fun b=>rfl,fun b hb=>.inl hb⟩
 | undef F X v vs as h ih=>obtain ⟨F2,M,X2,r,e1,e2⟩:=ih; exact ⟨F2,M,X2,.undef _ _ _ _ _ r,e1,e2⟩
 | bool F X v vs as h ih=>obtain ⟨F2,M,X2,r,e1,e2⟩:=ih; exact ⟨F2,M,X2,.bool _ _ _ _ _ r,e1,e2⟩
 | int F X k n vs as h ih=>obtain ⟨F2,M,X2,r,e1,e2⟩:=ih; exact ⟨F2,M,X2,.int _ _ _ _ _ _ r,e1,e2⟩
 | str F X s vs as h ih=>obtain ⟨F2,M,X2,r,e1,e2⟩:=ih; exact ⟨F2,M,X2,.str _ _ _ _ _ r,e1,e2⟩
 | own F F1 F2 X s es v vs as h1 h hF ih=>
  obtain ⟨G2,M,X2,r,e1,e2⟩:=ih
  obtain ⟨Y,hy,hle⟩:=own_ext h1
  refine ⟨G2,fun b=>F1 b+M b,fun b=>Y b+X2 b,.ext _ _ Y X2 s es v vs _ hy r (fun _=>rfl),fun b=>by (try dsimp only); rw [hF,e1]; omega,fun b hb=>?_⟩
  have:=hle b
  by_cases hz:Y b=0
  ·rcases e2 b (by (try dsimp only at hb); omega) with h | h
   ·exact .inl h
   ·exact .inr (by (try dsimp only); omega)
  ·exact .inr (by (try dsimp only); omega)
 | ext F X X1 X2 s es v vs as h1 h hX ih=>
  obtain ⟨G2,M,Y2,r,e1,e2⟩:=ih
  refine ⟨G2,M,fun b=>X1 b+Y2 b,.ext _ _ X1 Y2 s es v vs _ h1 r (fun _=>rfl),e1,fun b hb=>?_⟩
  by_cases hz:X1 b=0
  ·rcases e2 b (by (try dsimp only at hb); omega) with h | h
   ·exact .inl (by rw [hX]; omega)
   ·exact .inr h
  ·exact .inl (by rw [hX]; omega)
 | extv F X X1 X2 s es v vs as h1 h hX ih=>
  obtain ⟨G2,M,Y2,r,e1,e2⟩:=ih
  refine ⟨G2,M,fun b=>X1 b+Y2 b,.extv _ _ X1 Y2 s es v vs _ h1 r (fun _=>rfl),e1,fun b hb=>?_⟩
  by_cases hz:X1 b=0
  ·rcases e2 b (by (try dsimp only at hb); omega) with h | h
   ·exact .inl (by rw [hX]; omega)
   ·exact .inr h
  ·exact .inl (by rw [hX]; omega)
 | box F F1 F2 X X1 X2 b C ty fr cs vs as hb hfr h1 h hF hX ih1 ih=>
  obtain ⟨G2,M,Y2,r,e1,e2⟩:=ih
  refine ⟨fun x=>(if x=b then 1 else 0)+F1 x+G2 x,M,fun x=>X1 x+Y2 x,.box _ F1 G2 _ X1 Y2 b C ty fr cs vs _ hb hfr h1 r (fun _=>rfl) (fun _=>rfl),fun x=>by (try dsimp only); rw [hF,e1]; omega,fun x hx=>?_⟩
  by_cases hz:X1 x=0
  ·rcases e2 x (by (try dsimp only at hx); omega) with h | h
   ·exact .inl (by rw [hX]; omega)
   ·exact .inr h
  ·exact .inl (by rw [hX]; omega)
 | xbox F X X1 X2 a us cs vs as hc h1 h hX ih=>
  obtain ⟨G2,M,Y2,r,e1,e2⟩:=ih
  refine ⟨G2,M,fun x=>(if x=a.block then 1 else 0)+X1 x+Y2 x,.xbox _ _ X1 Y2 a us cs vs _ hc h1 r (fun _=>rfl),e1,fun x hx=>?_⟩
  by_cases hz:(if x=a.block then 1 else 0)+X1 x=0
  ·rcases e2 x (by (try dsimp only at hx); omega) with h | h
   ·exact .inl (by rw [hX]; omega)
   ·exact .inr h
  ·exact .inl (by rw [hX]; omega)
 | agg F F1 F2 X X1 X2 us cs vs as h1 h hF hX ih1 ih=>
  obtain ⟨G1,M1,Y1,r1,f1,f2⟩:=ih1
  obtain ⟨G2,M,Y2,r,e1,e2⟩:=ih
  refine ⟨fun x=>G1 x+G2 x,fun x=>M1 x+M x,fun x=>Y1 x+Y2 x,.agg _ G1 G2 _ Y1 Y2 us _ vs _ r1 r (fun _=>rfl) (fun _=>rfl),fun x=>by (try dsimp only); rw [hF,f1,e1]; omega,fun x hx=>?_⟩
  by_cases hz:Y1 x=0
  ·rcases e2 x (by (try dsimp only at hx); omega) with h | h
   ·exact .inl (by rw [hX]; omega)
   ·exact .inr (by (try dsimp only); omega)
  ·rcases f2 x hz with h | h
   ·exact .inl (by rw [hX]; omega)
   ·exact .inr (by (try dsimp only); omega)
 | tup F F1 F2 X X1 X2 us cs vs as h1 h hF hX ih1 ih=>
  obtain ⟨G1,M1,Y1,r1,f1,f2⟩:=ih1
  obtain ⟨G2,M,Y2,r,e1,e2⟩:=ih
  refine ⟨fun x=>G1 x+G2 x,fun x=>M1 x+M x,fun x=>Y1 x+Y2 x,.tup _ G1 G2 _ Y1 Y2 us _ vs _ r1 r (fun _=>rfl) (fun _=>rfl),fun x=>by (try dsimp only); rw [hF,f1,e1]; omega,fun x hx=>?_⟩
  by_cases hz:Y1 x=0
  ·rcases e2 x (by (try dsimp only at hx); omega) with h | h
   ·exact .inl (by rw [hX]; omega)
   ·exact .inr (by (try dsimp only); omega)
  ·rcases f2 x hz with h | h
   ·exact .inl (by rw [hX]; omega)
   ·exact .inr (by (try dsimp only); omega)
 | fn F F1 F2 X X1 X2 f us cs vs as h1 h hF hX ih1 ih=>
  obtain ⟨G2,M,Y2,r,e1,e2⟩:=ih
  refine ⟨fun x=>F1 x+G2 x,M,fun x=>X1 x+Y2 x,.fn _ F1 G2 _ X1 Y2 f us cs vs _ h1 r (fun _=>rfl) (fun _=>rfl),fun x=>by (try dsimp only); rw [hF,e1]; omega,fun x hx=>?_⟩
  by_cases hz:X1 x=0
  ·rcases e2 x (by (try dsimp only at hx); omega) with h | h
   ·exact .inl (by rw [hX]; omega)
   ·exact .inr h
  ·exact .inl (by rw [hX]; omega)
 | lnk F X r e p o v vs as ho hv h ih=>obtain ⟨F2,M,X2,r',e1,e2⟩:=ih; exact ⟨F2,M,X2,.lnk _ _ _ _ _ _ _ _ _ ho hv r',e1,e2⟩
 | sub F X r e p s lo n o v vs as ho hv h ih=>obtain ⟨F2,M,X2,r',e1,e2⟩:=ih; exact ⟨F2,M,X2,.sub _ _ _ _ _ _ _ _ _ _ _ _ ho hv r',e1,e2⟩
 | ref F X r e p st o v vs as ho hv h ih=>obtain ⟨F2,M,X2,r',e1,e2⟩:=ih; exact ⟨F2,M,X2,.ref _ _ _ _ _ _ _ _ _ _ ho hv r',e1,e2⟩
theorem spec_frzR {P:Program} {f:FuncId} {args outs:List AV} {ret:AV} (h:Spec P f args ret outs):Spec P f args (frzA ret) outs:=by
 refine ⟨h.1,h.2.1,?_⟩
 intro w vs F X r h1 h2 h3
 refine (h.2.2 w vs F X r h1 h2 h3).mono ?_
 rintro e w' ⟨v,F',X',he,r',q1,q2,q3,q4,q5,q6⟩
 obtain ⟨A1,A2,Y1,Y2,r1,r2,eA,eY⟩:=RepA.uncons r'
 obtain ⟨F2,M,X2,r3,eF,eX⟩:=RepA.frz r1
 have r4:RepA w' lk0 (fun b=>F2 b+A2 b) (fun b=>X2 b+Y2 b) (v::vs) (frzA ret::outs):=RepA.cons (by simpa [frzL] using r3) r2 (fun _=>rfl) (fun _=>rfl)
 refine ⟨v,_,_,he,r4,fun b=>?_,fun b=>?_,q3,q4,fun b hb=>?_,fun b hb=>?_⟩
 ·have:=q1 b; have:=eF b; have:=eA b; (try dsimp only); omega
 ·have a1:=q1 b; have a2:=q2 b; have a3:=eF b; have a4:=eX b; have a5:=eA b; have a6:=eY b
  by_cases hz:X2 b=0
  ·(try dsimp only); omega
  ·have:=a4 hz; (try dsimp only); omega
 ·exact q5 b (by have:=eF b; have:=eA b; (try dsimp only at hb); omega)
 ·by_cases hz:X2 b=0
  ·exact q6 b (by have:=eY b; (try dsimp only at hb); omega)
  ·rcases eX b hz with hx | hm
   ·exact q6 b (by have:=eY b; omega)
   ·have hF:F' b≠0:=by have:=eF b; have:=eA b; omega
    refine ⟨?_,r'.lt b hF⟩
    rcases q5 b hF with g | g
    ·exact .inr (.inl g)
    ·exact .inr (.inr g)
theorem spec_give {P:Program} {f:FuncId} {as as' outs:List AV} {ret:AV} (h:Spec P f as ret outs) (hl:as'.length=as.length)
  (hw:∀ (w:World) (F X:Foot) (vs:List Value),RepA w lk0 F X vs as'→∃ F2 N X2:Foot,RepA w lk0 F2 X2 vs as∧(∀ b,F b=F2 b+N b)∧∀ b,X2 b≠0→X b≠0∨N b≠0):Spec P f as' ret outs:=by
 refine ⟨h.1,by rw [h.2.1,hl],?_⟩
 intro w vs F X r h1 h2 h3
 obtain ⟨F2,M,X2,r2,eF,eX⟩:=hw w F X vs r
 refine (h.2.2 w vs F2 X2 r2 (fun b=>by have:=h1 b; have:=eF b; omega) (fun b=>?_) (fun b hb=>?_)).mono ?_
 ·have a1:=h1 b; have a2:=h2 b; have a3:=eF b; have a4:=eX b
  by_cases hz:X2 b=0
  ·exact .inr hz
  ·have:=a4 hz; omega
 ·rcases eX b hb with hx | hm
  ·exact h3 b hx
  ·exact r.lt b (by have:=eF b; omega)
 ·rintro e w' ⟨v,F',X',he,r',q1,q2,q3,q4,q5,q6⟩
  refine ⟨v,F',X',he,r',q1,q2,q3,fun b hb h0=>q4 b hb (by have:=eF b; omega),fun b hb=>?_,fun b hb=>?_⟩
  ·rcases q5 b hb with g | g
   ·exact .inl (by have:=eF b; omega)
   ·exact .inr g
  ·obtain ⟨g,g'⟩:=q6 b hb
   refine ⟨?_,g'⟩
   rcases g with g | g | g
   ·rcases eX b g with hx | hm
    ·exact .inl hx
    ·exact .inr (.inl (by have:=eF b; omega))
   ·exact .inr (.inl (by have:=eF b; omega))
   ·exact .inr (.inr g)
theorem spec_give2 {P:Program} {f:FuncId} {x:AV} {s:Nat} {es:List (List TV)} {outs:List AV} {ret:AV} (h:Spec P f [x,.ext s es] ret outs):Spec P f [x,.own s es] ret outs:=by
 refine spec_give h rfl fun w F X vs r=>?_
 cases vs with
 | nil=>have:=r.length; simp at this
 | cons v vs=>
  obtain ⟨A1,A2,Y1,Y2,r1,r2,eA,eY⟩:=RepA.uncons r
  obtain ⟨F2,M,X2,r3,e1,e2⟩:=RepA.frz r2
  refine ⟨fun b=>A1 b+F2 b,M,fun b=>Y1 b+X2 b,RepA.cons r1 (by simpa [frzL,frzA] using r3) (fun _=>rfl) (fun _=>rfl),fun b=>by have:=eA b; have:=e1 b; (try dsimp only); omega,fun b hb=>?_⟩
  by_cases hz:X2 b=0
  ·exact .inl (by have:=eY b; (try dsimp only at hb); omega)
  ·rcases e2 b hz with h | h
   ·exact .inl (by have:=eY b; omega)
   ·exact .inr h
end Go.Proofs.YtnhdalnfboiooaaGreatDoor.Awp
namespace Go.Proofs.YtnhdalnfboiooaaGreatDoor.Awp
set_option linter.unusedVariables false
set_option linter.unusedSimpArgs false
section
variable {w:Wk} {st:List Fr} {E:Env} {is:List GI} {bs:List Nat} {acc:List Rcd}
theorem spec_c {P:Program} {f nt:Nat} {rs:List RV} {cmd:Cmd} (hm:P.follows .mixedOrders=true) (hc:compile P f=some (nt,rs,cmd)) (md:Modes) (ks:Nat) (bs:List Bool) {args outs:List AV} {ret:AV}
  (hlen:args.length≤nt∧args.length≤32) (hol:outs.length=args.length) (hroots:rootsOk bs args=true)
  (h:∀ w:Wk,w.P=P→(w.md=md∧w.ks=ks∧w.Q=Fin rs bs args ret outs)→C w cmd [] (mkV ks (initA 0 bs args++initB 0 bs args) (initA 0 bs args++initB 0 bs args) [])):Spec P f args ret outs:=
 spec_C hm hc md ks bs hlen hol hroots fun w h1 h2 h3 h4=>h w h1 ⟨h2,h3,h4⟩
theorem specEx_c {P:Program} {f nt:Nat} {rs:List RV} {cmd:Cmd} (hm:P.follows .mixedOrders=true) (hc:compile P f=some (nt,rs,cmd)) (md:Modes) (ks:Nat) (hks:ks.testBit 999=false) (bs:List Bool) {args:List AV} {R:AV→List AV→Prop}
  (hlen:args.length≤nt∧args.length≤32) (hroots:rootsOk bs args=true)
  (h:∀ w:Wk,w.P=P→(w.md=md∧w.ks=ks∧w.Q=FinEx rs bs args R)→C w cmd [] (mkV ks (initA 0 bs args++initB 0 bs args) (initA 0 bs args++initB 0 bs args) [])):∃ ret outs,R ret outs∧Spec P f args ret outs:=
 specEx_C hm hc md ks hks bs hlen hroots fun w h1 h2 h3 h4=>h w h1 ⟨h2,h3,h4⟩
theorem loop_e {σ:Type} (D:List Nat) (v:σ→List (Nat × AV)) (J:σ→Prop) (μ:σ→Nat) (s0:σ) {c:Cmd} {P:Program} {md:Modes} {ks:Nat} {q:Ex→Env→Prop} {l:List (Nat × AV)} (hP:w.P=P) (hq:w.md=md∧w.ks=ks∧w.Q=q) (hE:setsL l (v s0)=l) (h0:J s0)
  (step:∀ s,J s→∀ w':Wk,w'.P=P→(w'.md=md∧w'.ks=ks∧w'.Q=LQD D ks l v J μ s (T w st))→C w' c [] (mkV ks (setsL l (v s)) [] [])):LHD w c st D (mkV ks l [] []):=
 loop_d D v J μ s0 hP hq.1 hq.2.1 hE h0 fun s hs w' h1 h2 h3 h4=>step s hs w' h1 ⟨h2,h3,h4⟩
theorem loop_f {σ:Type} (v:σ→List (Nat × AV)) (J:σ→Prop) (μ:σ→Nat) (s0:σ) {c:Cmd} {P:Program} {md:Modes} {ks:Nat} {q:Ex→Env→Prop} {l:List (Nat × AV)} (hP:w.P=P) (hq:w.md=md∧w.ks=ks∧w.Q=q) (hE:setsL l (v s0)=l) (h0:J s0)
  (step:∀ s,J s→∀ w':Wk,w'.P=P→(w'.md=md∧w'.ks=ks∧w'.Q=LQ ks l v J μ s (T w st))→C w' c [] (mkV ks (setsL l (v s)) [] [])):LH w c st (mkV ks l [] []):=
 loop_i v J μ s0 hP hq.1 hq.2.1 hE h0 fun s hs w' h1 h2 h3 h4=>step s hs w' h1 ⟨h2,h3,h4⟩
theorem cI {d:Option Nat} {f:Nat} {ok:Bool} {args outs:List AV} {ret:AV} {ln:Option (Nat × Nat × Path)} {P:Program} (hP:w.P=P) (hS:Spec P f args ret outs)
  (hx:extsL (ret::outs)=false) (hv:vlvL (ret::outs)=[]) {pls:List Plc} (h:B w d ret is st (backA E ln pls outs)):Y0 w d f ok pls is st args E ln:=
 call_i hP hS (.inl ⟨hx,fun x hx'=>by rw [hv] at hx'; cases hx'⟩) h
theorem cH {d:Option Nat} {f:Nat} {ok:Bool} {args outs:List AV} {ret:AV} {ln:Option (Nat × Nat × Path)} {P:Program} (hP:w.P=P) (hS:Spec P f args ret outs)
  (hx:extsL (ret::outs)=false) (hv:vlvL (ret::outs)=[]) {pls:List Plc} (h:BH w d ret bs acc is st (backA E ln pls outs)):YH0 w d f ok pls bs acc is st args E ln:=
 callH_i hP hS (.inl ⟨hx,fun x hx'=>by rw [hv] at hx'; cases hx'⟩) h
theorem cK {d:Option Nat} {f:Nat} {cs ds outs:List AV} {ret:AV} {P:Program} (hP:w.P=P) (hS:SpecK P f cs ds ret outs)
  (hx:extsL (ret::outs)=false) (hv:vlvL (ret::outs)=[]) (h:G w is st (putO E d ret)):YK0 w d f is st cs ds E:=⟨ret,outs,hP ▸ hS,⟨hx,hv⟩,h⟩
theorem cKH {d:Option Nat} {f:Nat} {cs ds outs:List AV} {ret:AV} {P:Program} (hP:w.P=P) (hS:SpecK P f cs ds ret outs)
  (hx:extsL (ret::outs)=false) (hv:vlvL (ret::outs)=[]) (h:H w bs acc is st (putO E d ret)):YKH0 w d f bs acc is st cs ds E:=⟨ret,outs,hP ▸ hS,⟨hx,hv⟩,h⟩
theorem rs_i (hk:w.ks.testBit 999=true) (hp:is.all plG=true) (t:BT) (h:famB w.P w.md is (T w st .n) E (ltB bs) t):RS w bs is st E:=⟨hk,hp,t,h⟩
theorem fam_leaf {lt:Nat→Nat→Bool} {σ:List Nat} {is':List GI} (bs':List Nat) (hp:permOk is.length σ=true) (hb:bsOf lt σ=bs') (hi:(σ.map fun i=>is.getD i default)=is') (h:H w bs' [] is' st E):famB w.P w.md is (T w st .n) E lt (.leaf σ):=
 ⟨hp,by rw [hb,hi]; exact h⟩
end
end Go.Proofs.YtnhdalnfboiooaaGreatDoor.Awp
namespace Go.Proofs.YtnhdalnfboiooaaGreatDoor.Awp
set_option linter.unusedVariables false
set_option linter.unusedSimpArgs false
variable {P:Program}
theorem lkK_of {w:World} {vl:Nat→Value} {E:Env} {us:List Value} {cs:List AV} (hE:∀ (i s:Nat) (es:List (List TV)),cs[i]?=some (.own s es)→E.f (rt 0 i)=.own s es∧E.ep (rt 0 i)=(0,0))
  (hb:∀ (i:Nat) (c:AV),cs[i]?=some c→c.isRoot=true→∃ s es,c=.own s es) (hv:∀ (i:Nat) (u:Value),us[i]?=some u→vl (rt 0 i)=u) (r e:Nat) (p:Path) (o:Option Value) (h:lkK w us cs r e p=some o):lkOf w vl E r e p=some o:=by
 unfold lkK at h
 split at h
 case isFalse=>cases h
 rename_i he
 subst he
 split at h
 case h_2=>cases h
 rename_i c u hc hu
 obtain ⟨⟨h1,h2,h3⟩,h4⟩:=ite_some h
 obtain ⟨s,es,rfl⟩:=hb _ c hc h2
 obtain ⟨g1,g2⟩:=hE _ s es hc
 have g3:=hv _ u hu
 have e1:rt 0 ((r-1032)/32)=r:=h1.symm
 rw [e1] at g1 g2 g3
 unfold lkOf
 rw [g1,g2,g3,if_neg (by simp [curE]),if_pos ⟨by simp [curE],rfl,h3⟩]
 simpa using h4
theorem specK_of_awp {f:Nat} {fn:Func} {c:Code} {cmd:Cmd} {cs ds outs:List AV} {ret:AV} {ks:Nat} {rs:List RV} (hf:P.funcs[f]?=some fn) (hb:fn.body=some c)
  (hnm:(fn.name == "runtime.NumGoroutine")=false) (hn:fn.ntmps≤1000) (hlen:2≤fn.ntmps) (hres:resT P fn.ntmps fn.results.toList=some rs) (hol:outs.length=2)
  (hcs:cs.length≤30) (hbx:cs.all (fun | .box _=>false | _=>true)=true) (hD:P.follows .mixedOrders=true) (hc:cCode P fn.ntmps c=some cmd)
  (h:awp P ks cmd (fun x E'=>(x=.r∨x=.n)∧doneE rs [true,false] [.agg cs,.agg ds] ret outs E') (mkE (initA 0 [true] [.agg cs]++initB 0 [true] [.agg cs]++[(1,.agg ds)]) [])):SpecK P f cs ds ret outs:=by
 refine ⟨⟨fn,hf,by rw [hb]; rfl,hnm⟩,hol,?_⟩
 intro w us zs F X hrep hrep2 hF1 hdis hXlt
 let v0:Value:=.agg us.toArray
 let v1:Value:=.agg zs.toArray
 let B:Base:=⟨w,F,X,fn.ntmps⟩
 let hv:Nat→Value:=hidV [v0,v1]
 let a:Act:={ tmps:=[v0,v1].toArray++Array.replicate (fn.ntmps - [v0,v1].toArray.size) undef,defers:=[] }
 have hsize:a.tmps.size=B.n:=by simp [a,B]; omega
 have hroots:rootsOk [true] [.agg cs]=true:=by simp [rootsOk,hcs]
 have hvl1:∀ j v,[v0,v1][j]?=some v→vlOf a.tmps hv (0+j)=v∧vlOf a.tmps hv (1000+(0+j))=v∧hv (1000+(0+j))=v:=by
  intro j v hj
  have hjl:j<2:=(List.getElem?_eq_some_iff.1 hj).1
  rw [Nat.zero_add]
  have hh:hv (1000+j)=v:=hidV_arg (by omega) hj
  refine ⟨?_,?_,hh⟩
  ·unfold vlOf
   rw [if_pos (by rw [hsize]; show j<fn.ntmps; omega)]
   have hjl':j<[v0,v1].length:=hjl
   have ht:a.tmps=[v0,v1].toArray++Array.replicate (fn.ntmps - [v0,v1].toArray.size) undef:=rfl
   rw [ht,Array.getD_eq_getD_getElem?,Array.getElem?_append_left (by simpa using hjl'),List.getElem?_toArray,hj]
   rfl
  ·rw [vl_hid (by rw [hsize]; show fn.ntmps≤_; omega)]; exact hh
 have hvl2:∀ i v,us[i]?=some v→vlOf a.tmps hv (rt (0+0) i)=v∧hv (rt (0+0) i)=v:=by
  intro i v hi
  have:=hidV_cell (vs:=[v0,v1]) (k:=0) (us:=us) (by omega) rfl hi
  exact ⟨by rw [vl_hid (by rw [hsize]; show fn.ntmps≤_; simp only [rt]; omega)]; exact this,this⟩
 have R0:Rel B hv w a (mkE [] []) (fun _ _=>0) (fun _ _=>0):=
  ⟨hsize,rfl,fun t=>.undef _ _ _ _ _ RepA.znil,fun _ _=>by omega,fun _ _ _ _=>.inl rfl,fun _ _ _=>.inl rfl,Grows.refl _,fun _ _ _=>rfl,fun _ _ h=>absurd rfl h,fun _ _ h=>absurd rfl h,fun _ _ h=>absurd rfl h⟩
 have P0:PR B hv w a (mkE [] []) (fun _ _=>0) (fun _ _=>0) F X [v0] [.agg cs]:=
  ⟨R0,.agg _ F (fun _=>0) _ X (fun _=>0) us cs [] [] (hrep.lk0 _) RepA.znil (fun _=>rfl) (fun _=>rfl),hF1,fun _ _=>.inr rfl,fun _ _=>.inr rfl,fun _ _=>.inr rfl,hdis,fun b hb=>.inl hb,fun b hb=>⟨.inl hb,hXlt b hb⟩⟩
 obtain ⟨Fs1,Xs1,FP1,XP1,P1⟩:=initA_place (B:=B) [.agg cs] [true] 0 [v0] [] (by simp) (by show 0+1≤fn.ntmps; omega) hn (by simp)
  (fun j v hj=>by
   have hj0:j=0:=by have:=(List.getElem?_eq_some_iff.1 hj).1; simp at this; exact this
   subst hj0
   have:=hvl1 0 v (by simpa using hj)
   exact ⟨this.1,this.2.1⟩)
  (fun j us' i v hj hi=>by
   have hj0:j=0:=by have:=(List.getElem?_eq_some_iff.1 hj).1; simp at this; exact this
   subst hj0
   have e:us'=us:=by
    have:v0=.agg us'.toArray:=by simpa using hj
    injection this with h; simpa using h.symm
   subst e
   exact (hvl2 i v hi).1) P0
 obtain ⟨k1,k2,k3⟩:=initA_get [.agg cs] [true] 0 0 (.agg cs) rfl rfl (by simp)
 have hg:∀ i s es,cs[i]?=some (.own s es)→getL (initA 0 [true] [.agg cs]) (rt 0 i)=.own s es:=fun i s es hi=>k2 cs rfl i s es hi
 obtain ⟨Fs2,Xs2,R2⟩:=initB_place (B:=B) (w:=w) [.agg cs] [true] 0 (initA 0 [true] [.agg cs]) (by simp) (by show 0+1≤fn.ntmps; omega) hn (by
  intro j x hj hbj
  have hj0:j=0:=by have:=(List.getElem?_eq_some_iff.1 hj).1; simp at this; exact this
  subst hj0
  have:x=.agg cs:=by simpa using hj.symm
  subst this
  refine ⟨fun hr=>(by cases hr),fun cs' hcs'=>?_,k3⟩
  cases hcs'
  exact ⟨us,(hvl1 0 v0 rfl).1,hrep.prims,fun i s es hi=>hg i s es hi,fun i v hi=>(hvl2 i v hi).1⟩) hroots (by simpa using P1.rel)
 have hfar:noKey (initB 0 [true] [.agg cs]) 1∧∀ q,1000≤q→noKey (initB 0 [true] [.agg cs]) q:=by
  refine ⟨?_,fun q hq=>?_⟩ <;> intro p hp <;> simp [initB] at hp <;> subst hp <;> simp <;> omega
 have hno:noKey (initA 0 [true] [.agg cs]++initB 0 [true] [.agg cs]) 1:=by
  intro p hp
  rcases List.mem_append.1 hp with hp | hp
  ·obtain ⟨i,h1,h2⟩:=initA_keys [.agg cs] [true] 0 p hp
   have hi0:i=0:=by simp at h1; exact h1
   subst hi0
   rcases h2 with ⟨_,h2 | ⟨c,h2⟩⟩ | ⟨h2,_⟩
   ·omega
   ·rw [h2]; simp only [rt]; omega
   ·simp at h2
  ·exact hfar.1 p hp
 have hr1:RepA w (lkOf w (vlOf a.tmps hv) (mkE (initA 0 [true] [.agg cs]++initB 0 [true] [.agg cs]) [])) (fun _=>0) (fun _=>0) [v1] [.agg ds]:=by
  refine .agg _ (fun _=>0) (fun _=>0) _ (fun _=>0) (fun _=>0) zs ds [] [] ?_ RepA.znil (fun _=>rfl) (fun _=>rfl)
  refine hrep2.same (fun r e p o ho=>.inr ?_) (fun _ _=>rfl) (fun _ _=>rfl)
  refine lkK_of (fun i s es hi=>⟨?_,rfl⟩) ?_ (fun i u hu=>(hvl2 i u hu).1) r e p o ho
  ·rw [mkE_f,getL_app (hfar.2 _ (by simp only [rt]; omega))]; exact hg i s es hi
  ·intro i c hc hr
   rw [List.all_eq_true] at hbx
   have:=hbx c (List.mem_of_getElem? hc)
   cases c with
   | own s es=>exact ⟨s,es,rfl⟩
   | box cs=>cases this
   | _=>cases hr
 obtain ⟨XP',P2⟩:=PR.ofRel R2 hr1 (fun _=>rfl) (fun b hb=>absurd rfl hb)
 obtain ⟨Fs3,Xs3,FP3,XP3,P3⟩:=PR.place P2 (q:=1) (hid':=hv) (hvl1 1 v1 rfl).1 (fun _ _=>rfl)
 rw [put_new hno] at P3
 have G:Good B hv w a (mkE (initA 0 [true] [.agg cs]++initB 0 [true] [.agg cs]++[(1,.agg ds)]) []):=⟨hv,Fs3,Xs3,P3.rel,fun _ _=>rfl⟩
 have hcalls:=calls_of_wp (args:=#[v0,v1]) hf hb (awp_sound (B:=B) hn hD ks c cmd _ _ _ a w hc ?_ h G) (R:=fun e w'=>∃ v F' X',e=.returned v∧RepA w' lk0 F' X' (v::[v0,v1]) (ret::outs)∧(∀ b,F' b≤1)∧(∀ b,F' b=0∨X' b=0) ∧
   Grows w w'∧(∀ b,b<w.heap.size→F b=0→w'.heap[b]?=w.heap[b]?)∧(∀ b,F' b≠0→F b≠0∨w.heap.size≤b)∧(∀ b,X' b≠0→(X b≠0∨F b≠0∨w.heap.size≤b)∧b<w'.heap.size))
 ·exact hcalls
 rintro x E' a' w' ⟨hx,hdone⟩ G'
 obtain ⟨⟨l,E2⟩,hq,hret,houts,hlk⟩:=hdone
 obtain ⟨hid,Fs4,Xs4,R4,hh⟩:=G'
 obtain ⟨ts,Fs5,Xs5,FP5,XP5,hrun,hul,P5⟩:=retG_sound (l:=l) (E':=E2) hres (PR.nil R4) hq
 simp only [List.nil_append] at P5
 obtain ⟨E6,Fs6,Xs6,FP6,XP6,P6⟩:=outs_sound [.agg cs,.agg ds] 0 [true,false] (vs:=[v0,v1]) rfl (by simp) hn (by
  intro j v hj
  have hjl:j<2:=(List.getElem?_eq_some_iff.1 hj).1
  rw [hh _ (by omega)]
  exact (hvl1 j v hj).2.2) (by
  intro j cs' hj hbj
  have hj0:j=0:=by
   match j,hbj with
   | 0,_=>rfl
   | 1,h=>simp at h
   | n+2,h=>simp at h
  subst hj0
  have:cs'=cs:=by simpa using hj.symm
  subst this
  refine ⟨us,rfl,hrep.prims,fun i v hi=>?_⟩
  have hil:=(List.getElem?_eq_some_iff.1 hi).1
  have hul:=hrep.length
  rw [hh _ (by simp only [rt]; omega)]
  exact (hvl2 i v hi).2) P5
 have P7:=ret_rep P6 hul
 simp only at hret houts
 rw [hret,houts] at P7
 have fin:a'.defers=[]∧∃ v,(results fn a'.tmps).run P w'=.ok v w'∧∃ v_1 F' X',Ending.returned v=.returned v_1∧RepA w' lk0 F' X' (v_1::[v0,v1]) (ret::outs)∧(∀ b,F' b≤1)∧(∀ b,F' b=0∨X' b=0) ∧
   Grows w w'∧(∀ b,b<w.heap.size→F b=0→w'.heap[b]?=w.heap[b]?)∧(∀ b,F' b≠0→F b≠0∨w.heap.size≤b)∧(∀ b,X' b≠0→(X b≠0∨F b≠0∨w.heap.size≤b)∧b<w'.heap.size):=
  ⟨R4.dfr,_,run_results hrun,_,FP6,XP6,rfl,P7.rep.noLk lk0 hlk,P7.one,P7.dx3,P7.rel.grow,P7.rel.frame,P7.org,P7.orgx⟩
 rcases hx with rfl | rfl
 ·exact fin
 ·exact fin
theorem specK_c {f nt:Nat} {rs:List RV} {cmd:Cmd} (hm:P.follows .mixedOrders=true) (hc:compile P f=some (nt,rs,cmd)) (md:Modes) (ks:Nat) {cs ds outs:List AV} {ret:AV}
  (hlen:2≤nt) (hol:outs.length=2) (hcs:cs.length≤30) (hbx:cs.all (fun | .box _=>false | _=>true)=true)
  (h:∀ w:Wk,w.P=P→(w.md=md∧w.ks=ks∧w.Q=Fin rs [true,false] [.agg cs,.agg ds] ret outs) →
   C w cmd [] (mkV ks (initA 0 [true] [.agg cs]++initB 0 [true] [.agg cs]++[(1,.agg ds)]) (initA 0 [true] [.agg cs]++initB 0 [true] [.agg cs]++[(1,.agg ds)]) [])):SpecK P f cs ds ret outs:=by
 unfold compile at hc
 obtain ⟨fn,hf,hc⟩:=bind_some hc
 obtain ⟨c,hb,hc⟩:=bind_some hc
 obtain ⟨⟨h1,h2⟩,hc⟩:=ite_some hc
 obtain ⟨rs',hr,hc⟩:=bind_some hc
 obtain ⟨cmd',hcmd,hc⟩:=map_some hc
 cases hc
 refine specK_of_awp (ks:=ks) hf hb h1 h2 hlen hr hol hcs hbx hm hcmd (wpB_A (md:=md) cmd ?_ fun x E h=>h)
 rw [mkE_V ks]
 exact wpB_mono cmd (h ⟨P,md,ks,Fin rs [true,false] [.agg cs,.agg ds] ret outs⟩ rfl ⟨rfl,rfl,rfl⟩) fun x E hx=>by rw [T_nil] at hx; exact hx
end Go.Proofs.YtnhdalnfboiooaaGreatDoor.Awp
namespace Go.Proofs.YtnhdalnfboiooaaGreatDoor.Awp
set_option linter.unusedVariables false
set_option linter.unusedSimpArgs false
variable {H:Type} {enc:TypeId × Value→H} {P:Program} {w w':World}
theorem law_laid {X:World→Array Value→Prop} (hX:∀ (w w':World) (args:Array Value),w.heap=w'.heap→X w args→X w' args) {C:Checked} {os:Os} {f:FuncId} {fn:Func} {s:ChangeSpec} {apart fresh handsOn again:Bool} {pars:List (Bool × List Ty)} {tb:TypeId}
  (own:ownKnob C.prog.godebug=none) (started:os.Started) (noInit:C.prog.inits.idxOf? f=none) (hfn:C.prog.funcs[f]?=some fn)
  (witness:∃ (w:World) (tape:Tape) (i:Input),w.os=os∧(w.forCall tape i).Shaped C.prog∧i.vars=[]∧Input.okWide C.prog (w.forCall tape i) .any w.heap.size f i ∧
   ((s.pre enc C.prog fn [] apart (w.forCall tape i).memory i.args∧X (w.forCall tape i).memory i.args)∧sizedMet enc C.prog fn (OpenSpec.ofChange s) apart (w.forCall tape i).memory i.args)∧({}:Assume).holds C.prog (lone (Frame.enter C.prog f i.args .normal) [] (w.forCall tape i)))
  (hv:s.vars=[]) (hp:fn.params.toList.mapM (parOf C.prog)=some pars) (hr:fn.resultTypes=#[tb]) (hb:C.prog.underlying tb=some .bool)
  (hsf:∀ ds:List (DataW H),ds.length=pars.length→s.fn H ds={ results:=[.lit (.bool true)],args:=ds })
  (hspec:∀ tss,ArgsShp pars tss→∃ outs,Spec C.prog f (avsOf pars tss) (.bool true) outs) :
  ReturnsInHanded {} C os f .any (fun w args=>(s.pre enc C.prog fn [] apart w args∧X w args)∧sizedMet enc C.prog fn (OpenSpec.ofChange s) apart w args) (s.post enc C.prog fn apart fresh handsOn again):=by
 refine returnsInHanded_of_change_and hX own started noInit hfn witness ?_
 intro W base args ds gs before hval hW _ hz _ _
 have hW':=hW
 obtain ⟨p,q,hA,hV,rfl,hfz,hnd⟩:=hW
 rw [hv] at hV
 have hgs:gs=[]∧q=[]:=by cases gs <;> simp_all [DataW.TrodVars]
 obtain ⟨rfl,rfl⟩:=hgs
 have hvt:s.plain.varTypes C.prog=[]:=by simp [ChangeSpec.plain,DataSpec.varTypes,hv]
 rw [hvt] at hz
 simp only [List.append_nil] at hz hW' hfz hnd
 obtain ⟨X,tss,h1,h2,h3⟩:=args_rep (base:=base) hp hA (fun j t v e1 e2=>hval j t v (by simpa using e1) (by simpa using e2))
  (fun n hn=>Nat.le_of_lt (Nat.lt_of_le_of_lt (by simpa using List.all_eq_true.1 hz n hn) reachBytes_lt))
 obtain ⟨outs,hS⟩:=hspec tss h1
 have hc:=hS.2.2 W args.toList (fun _=>0) X h2 (fun _=>by omega) (fun _=>.inl rfl) h3
 rw [Array.toArray_toList] at hc
 refine hc.mono ?_
 rintro e W' ⟨v,F',X',rfl,hrep,_,_,hg,hfr,_,_⟩
 have hvt:v=.bool true:=by
  obtain ⟨_,_,_,_,r1,_,_⟩:=RepA.uncons hrep
  cases r1; rfl
 subst hvt
 refine ⟨_,rfl,?_⟩
 have hh:∀ b,b<W.heap.size→W'.heap[b]?=W.heap[b]?:=fun b hb=>hfr b hb rfl
 have hdl:ds.length=pars.length:=by
  have e1:=mapM_some_length hp
  have:∀ {ts:List TypeId} {vs:List Value} {ds:List (DataW H)} {ps:List MemPlace},DataW.TrodAll enc C.prog W 0 (fun _=>true) true ts vs ds ps→ds.length=ts.length:=by
   intro ts
   induction ts with
   | nil=>intro vs ds ps h; cases vs <;> cases ds <;> simp_all [DataW.TrodAll]
   | cons t ts ih=>
    intro vs ds ps h
    cases vs with
    | nil=>simp [DataW.TrodAll] at h
    | cons v vs=>
    cases ds with
    | nil=>simp [DataW.TrodAll] at h
    | cons d ds=>obtain ⟨_,_,_,h2,_⟩:=h; simp [ih h2]
  rw [this hA,e1]
 have hsd:=hsf ds hdl
 have hres:∀ (b:Nat) (sp:Nat→Bool) (hd:Bool),DataW.TrodAll enc C.prog W' b sp hd fn.resultTypes.toList (Value.resultList fn.resultTypes.size (.bool true)) [.lit (.bool true)] []:=by
  intro b sp hd
  rw [hr]
  exact ⟨[],[],RowKit.shut_bool hb true,rfl,rfl⟩
 have hlt:∀ x ∈ p,x.block<W.heap.size:=fun x hx=>hW'.lt x hx
 have hTA:∀ sq:Nat→Bool,(∀ x ∈ p,sq x.block=true)→DataW.TrodAll enc C.prog W' 0 sq true fn.params.toList args.toList ds p:=fun sq hsq=>trodAll_turn hh hp hA hsq
 refine ⟨ds,[],p,[],p,[],hW',?_,?_,?_,keptBut_old hg hh,fun _=>⟨?_,.lit (.bool true)::ds,[],p,⟨p,[],?_,?_,by simp,?_,hnd⟩,fun _ h _=>h⟩⟩
 ·rw [List.append_nil,hsd]; exact hres _ _ _
 ·rw [List.append_nil,hsd]; exact hTA _ fun x hx=>by simpa using hlt x hx
 ·rw [List.append_nil,hsd,hv]; rfl
 ·exact RowKit.ok_one hr rfl (RowKit.okWide_bool_mk hb true)
 ·rw [hr]; exact ⟨[],p,RowKit.shut_bool hb true,hTA _ fun _ _=>rfl,rfl⟩
 ·rw [hv]; rfl
 ·intro b off hm
  rw [World.frozen?_of_block (w:=W) (hh b (hlt _ hm))]
  exact hfz b off hm
theorem laid_all {P:Program} {os:Os} {laid:List (String × DataW Unit)} (args:Array Value) (h:(laid.filter fun x=>x.2.handleName?.isSome).isEmpty=true)
  (hf:(World.holding P os ⟨#[],#[],[]⟩).layFits P laid []=true) (hi:(World.holding P os ⟨#[],#[],[]⟩).layIfaces P laid (World.laidAll P os laid)=true) :
  laidMetH P laid ((World.laidAll P os laid).forCall (fun _ _=>0) ⟨#[],args,[]⟩).memory:=by
 unfold laidMetH
 split
 ·exact laidMet_laidAll args hf hi
 ·rename_i e
  rw [e] at h
  cases h
end Go.Proofs.YtnhdalnfboiooaaGreatDoor.Awp
