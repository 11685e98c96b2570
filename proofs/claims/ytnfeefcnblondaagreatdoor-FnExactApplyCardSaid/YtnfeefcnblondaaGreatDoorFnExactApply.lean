/- The law FnExactApply (the program and the reference do an operation the same) holds for every argument: the given statement is proved. Condition: none. -/
import Derived.Test.YtnfeefcnblondaaGreatDoorFnExactApplyX3
set_option linter.unusedVariables false
set_option linter.unusedSimpArgs false
set_option maxRecDepth 100000
set_option maxHeartbeats 20000000
open Nat (reduceEqDiff reduceAdd reduceMul reduceSub)
open Int (reduceNeg reduceToNat reducePow)
namespace Go.Proofs.YtnfeefcnblondaaGreatDoor.Awp
section
open Go.Proofs Go.Proofs.YtnfeefcnblondaaGreatDoor
theorem wE:(Rows.fnExactApplyRow.wf (OpenSpec.ofChange Rows.fnExactApplySpec))=true:=by kernel_rfl
theorem wF:(Tryz.f4.params.all (Tryz.prog.readableRec ·))=true:=by kernel_rfl
theorem wG:(namedTie Tryz.prog Rows.fnExactApplyRow.named Rows.fnExactApplySpec.vars)=true:=by kernel_rfl
theorem wH:((Rows.fnExactApplyRow.stops == []))=true:=by kernel_rfl
theorem wI:((Rows.fnExactApplyRow.knobs == []))=true:=by kernel_rfl
theorem wJ:((Rows.fnExactApplyRow.inPlace == Tryz.prog.inPlace 4))=true:=by kernel_rfl
theorem sS:((Rows.fnExactApplyRow.unfollowed == Tryz.prog.unfollowed 4))=true:=by kernel_rfl
theorem sU:((Rows.fnExactApplyRow.recurses == Tryz.prog.recurses 4))=true:=by kernel_rfl
theorem sV:((Rows.fnExactApplyRow.named == Tryz.prog.varsNamed 4))=true:=by kernel_rfl
theorem sW:((Rows.fnExactApplyRow.maps == (Tryz.f4.params.toList++Rows.fnExactApplySpec.plain.varTypes Tryz.prog).any (Tryz.prog.mapsRec ·)))=true:=by kernel_rfl
theorem sX:((Rows.fnExactApplyRow.ifaces == (Tryz.f4.params.toList++Rows.fnExactApplySpec.plain.varTypes Tryz.prog).any (Tryz.prog.ifacesRec ·)))=true:=by kernel_rfl
theorem sY:((Rows.fnExactApplyRow.mapsOut == Tryz.prog.mapsAmong Tryz.f4.resultTypes.toList))=true:=by kernel_rfl
theorem sZ:((Rows.fnExactApplyRow.loops == (Tryz.f4.params.toList++Rows.fnExactApplySpec.plain.varTypes Tryz.prog).any (Tryz.prog.loopsFrom ·)))=true:=by kernel_rfl
theorem s5:((Rows.fnExactApplyRow.wideKeys == (Tryz.f4.params.toList++Rows.fnExactApplySpec.plain.varTypes Tryz.prog++Tryz.f4.resultTypes.toList).any (Tryz.prog.wideKeysFrom ·)))=true:=by kernel_rfl
theorem s6:(Rows.fnExactApplySpec.vars.all (Tryz.prog.varReadable ·))=true:=by kernel_rfl
theorem s7:(Tryz.f4.resultTypes.all (fun t=>Tryz.prog.readableRec t && decide (t<Tryz.prog.types.size)))=true:=by kernel_rfl
theorem s8:((Rows.fnExactApplyRow.ifacesOut == Tryz.f4.resultTypes.toList.any (Tryz.prog.ifacesRec ·)))=true:=by kernel_rfl
theorem s9:((Rows.fnExactApplyRow.loopsOut == Tryz.f4.resultTypes.toList.any (Tryz.prog.loopsFrom ·)))=true:=by kernel_rfl
theorem tC:((Rows.fnExactApplyRow.plainKeys == Tryz.prog.plainKeys))=true:=by kernel_rfl
theorem tD:(Rows.fnExactApplyRow.shortTexts.isNone)=true:=by kernel_rfl
theorem tE:((Rows.fnExactApplyRow.kinds == (if Rows.fnExactApplyRow.domain.isEmpty then [] else Tryz.f4.params.toList.map fun t=>match Tryz.prog.underlying t with | some (.int k)=>some k | _=>none)))=true:=by kernel_rfl
theorem tF:((Rows.fnExactApplyRow.pinned == Rows.fnExactApplyRow.pinnedBy))=true:=by kernel_rfl
theorem tG:((Rows.fnExactApplyRow.veiled == (Tryz.f4.params.toList++Rows.fnExactApplySpec.plain.varTypes Tryz.prog++Tryz.f4.resultTypes.toList).any (Tryz.prog.veiledRec ·)))=true:=by kernel_rfl
theorem tH:(Rows.fnExactApplyRow.veiledFits Tryz.prog Tryz.f4.params.toList (Tryz.f4.params.toList++Rows.fnExactApplySpec.plain.varTypes Tryz.prog++Tryz.f4.resultTypes.toList))=true:=by kernel_rfl
theorem wK:joinedFacts Tryz.prog 4 Tryz.f4 Rows.fnExactApplySpec Rows.fnExactApplyRow=true:=
 ajf wE aqo aqp wF wG wH apq wI apr wJ sS sU sV sW sX sY sZ s5 s6 s7 s8 s9 tC tD aps apt apu aqq tE tF tG tH
theorem rQ (os:Os) (started:os.Started) (H:Type) (enc:TypeId × Value->H) :
  ReturnsInHanded {} Tryz.checked os 4 .any (fun w args=>(Rows.fnExactApplySpec.pre enc Tryz.prog Tryz.f4 [] false w args/\laidMetH Tryz.prog Rows.fnExactApplyRow.laid w)/\sizedMet enc Tryz.prog Tryz.f4 (OpenSpec.ofChange Rows.fnExactApplySpec) false w args) (Rows.fnExactApplySpec.post enc Tryz.prog Tryz.f4 false true false false):=by
 refine law_laid (X:=fun w _=>laidMetH Tryz.prog Rows.fnExactApplyRow.laid w) (fun _ _ _ hh h=>h.of_heap hh) (C:=Tryz.checked) (pars:=[(true,Fs.shape),(true,Op.shape)]) own started (by kernel_rfl) Tryz.func4
  (ChangeSpec.witness_shaped (enc:=enc) (C:=Tryz.checked) (os:=os) (X:=fun w _=>laidMetH Tryz.prog Rows.fnExactApplyRow.laid w) false (World.laidAll Tryz.prog os Rows.fnExactApplyRow.laid) #[.agg #[.slice none 0 0,.int .i64 0],.agg #[.int .i64 0,.int .i64 0,.string ⟨#[]⟩,.string ⟨#[]⟩,.int .i64 0,.slice none 0 0]] 8 (World.laidAll_os _ _ _) (World.shaped_of_RefB (by kernel_rfl) (by kernel_rfl)) (by kernel_rfl) (by kernel_rfl) (by kernel_rfl) (amb _ (by kernel_rfl) (by kernel_rfl) (by kernel_rfl)))
  rfl (by kernel_rfl) rfl (by kernel_rfl) ?_ ?_
 ·intro ds hd
  match ds,hd with
  | [d0,d1],_=>rfl
 ·intro tss h
  match tss,h with
  | [t0,t1],⟨h0,h1,_⟩=>
   obtain⟨x0,rfl,et⟩:=Fs.ofShp t0 h0;obtain⟨x1,rfl,jc⟩:=Op.ofShp t1 h1;exact⟨_,xA x0 x1 et jc⟩
theorem wL:Tryz.f4.isWrapper Tryz.prog Rows.fnExactApplyRow.wrapper Rows.fnExactApplyRow.mainSum:=by
 unfold Func.isWrapper; first | (rw[if_pos (by decide +kernel)]; kernel_rfl) | (rw[if_neg (by decide +kernel)]; exact⟨rfl,rfl⟩)
theorem law_FnExactApply:Rows.FnExactApplySaid:=
 OpenClaim.holds_of_wide 4 Tryz.f4 rfl rfl rfl rfl rfl rfl rfl ⟨rfl,rfl,rfl,rfl,rfl⟩ rfl rfl rfl rfl rfl (by kernel_rfl) Tryz.func4 wK
  (of_decide_eq_true (by kernel_rfl)) wL
  (fun os started H enc _=>rQ os started H enc)
theorem wM:Rows.fnExactApplyRow.wfByText (OpenSpec.ofChange Rows.fnExactApplySpec)=true:=by kernel_rfl
theorem k2_FnExactApply:Tryz.prog.funcNamed "loop.example/g00285/laws.FnExactApply"=some 4:=by kernel_rfl
theorem wN:(Tryz.f4.params.toList.all fun u=>!Tryz.prog.wantsStandIn u)=true:=by kernel_rfl
theorem wO:false=Rows.fnExactApplyRow.goesBy Tryz.prog:=by kernel_rfl
theorem card_FnExactApply:Rows.FnExactApplyCardSaid:=
 Claim7.holds_tied_plain_at .later [] [.data,.pinned] true (true, "065b41267c4c5e9090da389464e58b88279cae34746055c8646bd41f1c814ac9") false
  law_FnExactApply (fun _ h=>by cases h) wM (fun _ h=>by cases h) fnExactApply_row_tie rfl ⟨rfl,rfl⟩ aqn rfl
  (fun f fn hf hfn=>by
   obtain rfl:f=4:=Option.some.inj (k2_FnExactApply.symm.trans hf) |>.symm
   obtain rfl:fn=Tryz.f4:=(Option.some.inj (Tryz.func4.symm.trans hfn)).symm;exact⟨apo,fun j t ht=>by
    have:=lP.1 wN t (by simpa using Array.mem_of_getElem? ht);exact show Tryz.prog.wantsStandIn t=false by simpa using this⟩)
  wO
end
end Go.Proofs.YtnfeefcnblondaaGreatDoor.Awp

namespace Go.Proofs.YtnfeefcnblondaaGreatDoor
/-- the given statement -/
theorem provedFnExactApply : Rows.FnExactApplyCardSaid := Awp.card_FnExactApply
end Go.Proofs.YtnfeefcnblondaaGreatDoor
#print axioms Go.Proofs.YtnfeefcnblondaaGreatDoor.provedFnExactApply
