/- For every program, NamesSlots returns true and leaves its argument as it was. It holds wherever the package variables that its row lists begin as the program's text lays them. -/
import Derived.Test.YtoajecnoffhlbaaDoorS6
set_option linter.unusedVariables false
set_option linter.unusedSimpArgs false
namespace Go.Proofs.YtoajecnoffhlbaaDoor.namesSlots
open Go Go.ChangeShapes Go.WideShapes Go.ChangeAt Go.RowKit
set_option maxRecDepth 100000 in
theorem contract (H:Type) (enc:TypeId × Value→H) (W:World) (base:Nat) (args:Array Value) (ds gs:List (DataW H)) (before:List MemPlace)
  (hval : ∀ (j:Nat) t v,Tryd.f4.params[j]?=some t→args[j]?=some v→Value.okWide Tryd.prog W .any base t v)
  (hW:DataW.Whole enc Tryd.prog Tryd.f4.params.toList Rows.namesSlotsSpec.vars false W args.toList ds gs before)
  (hwt:(DataW.weightsEach Tryd.prog (Tryd.f4.params.toList ++ (OpenSpec.ofChange Rows.namesSlotsSpec).bare.plain.varTypes Tryd.prog) (ds ++ gs)).all (·≤reachBytes)=true)
  (hL:laidMetH Tryd.prog Rows.namesSlotsRow.laid W) (hs:W.ShapedOpen Tryd.prog) :
  Calls Tryd.prog 4 args W fun e W'=>∃ v,e=.returned v∧Rows.namesSlotsSpec.post enc Tryd.prog Tryd.f4 false true false false W args v W':=by
 have hW':=hW
 obtain ⟨p,q,hA0,hV,rfl,hfz,hnd⟩:=hW
 have hA:DataW.TrodAll enc Tryd.prog W 0 (fun _=>true) true Tryd.f4.params.toList args.toList ds p:=hA0
 rw [Tryd.params4] at hA hval
 obtain ⟨v0,vs0,d0,ds0,p0,q0,hargs,rfl,rfl,h0,r0⟩:=trodAll_cons hA
 obtain ⟨rfl,rfl,rfl⟩:=trodAll_nil r0
 obtain rfl:args=#[v0]:=by cases args; simp_all
 obtain ⟨rfl,rfl⟩:=trodVars_none hV
 clear hA0 hA
 have hok:okW Tryd.prog 24 d0:=okW_at (ts:=Tryd.f4.params.toList ++ _) (ds:=[d0] ++ []) (fun n hn=>by simpa using List.all_eq_true.1 hwt n hn) 0 (by rw [Tryd.params4]; rfl) rfl
 obtain ⟨x,cs,rfl,hR⟩:=arg_program (hval 0 24 v0 rfl rfl) h0 hok
 have hG:GK (K0 W):=gk_of (laid:=Rows.namesSlotsRow.laid) (by kernel_rfl) (by kernel_rfl) hL hs
 refine (f4_ok (2 * szP x + 2500 + 100)  (f4_eq _ x (by omega) hR.fit) hG hR (Sx.begin W)).mono fun e W' ⟨v,he,K',hv,S⟩=>?_
 have hb:Below W.heap.size W W':=below_of S
 subst he hv
 refine ⟨_,rfl,post_below (pa:=p0 ++ []) (pv:=[]) hW' ?_ ?_ (fun _ _=>rfl) rfl hb (ok_one (by kernel_rfl) rfl (okWide_bool_mk Tryd.underlying4 _))⟩
 ·intro b sp hd
  exact trodAll_cons_mk (shut_bool Tryd.underlying4 _) trodAll_mk0
 ·intro sp hsp
  rw [Tryd.params4]
  exact trodAll_cons_mk (WideElems.Trod_stays laidOut readable24 row24 h0 (fun x hx=>hb.same (hW'.lt x (by simp [hx]))) (fun x hx=>hsp x (by simp [hx]))) trodAll_mk0
theorem laid_met (os:Os):laidMet Tryd.prog Rows.namesSlotsRow.laid ((laidWorld os).forCall (fun _ _=>0) ⟨#[],#[.agg #[.slice none 0 0]],[]⟩).memory :=
 laidMet_of_run' 12 (by kernel_rfl) (by kernel_rfl)
theorem reads (os:Os) {H:Type} (enc:TypeId × Value→H) : ∃ places,DataW.whole enc Tryd.prog ((laidWorld os).forCall (fun _ _=>0) ⟨#[],#[.agg #[.slice none 0 0]],[]⟩).memory Tryd.f4.params.toList Rows.namesSlotsSpec.vars false #[Value.agg #[.slice none 0 0]].toList 8=some ([.agg [.nil]],[],places) :=
 ⟨[],by kernel_rfl⟩
set_option maxRecDepth 100000 in
theorem lifted (os:Os) (started:os.Started) (H:Type) (enc:TypeId × Value→H) (F:Stop.Interp) :
  ReturnsInHanded {} Tryd.checked os 4 .any ((OpenSpec.ofChange Rows.namesSlotsSpec).preRow enc Tryd.prog Tryd.f4 Rows.namesSlotsRow.domain false Rows.namesSlotsRow.laid) (((OpenSpec.ofChange Rows.namesSlotsSpec).at F).post enc Tryd.prog Tryd.f4 false true false false):=by
 obtain ⟨places,hx⟩:=reads os enc
 refine returnsInHanded_of_row (C:=Tryd.checked) (s:=OpenSpec.ofChange Rows.namesSlotsSpec) own started (by kernel_rfl) Tryd.func4
  (witness_row_atRef (enc:=enc) (C:=Tryd.checked) false (laidWorld os) #[.agg #[.slice none 0 0]] rfl (by kernel_rfl) (by kernel_rfl) (by kernel_rfl)
   (OpenSpec.preRow_of_cond 8 hx (by kernel_rfl) (fun k hk=>by cases hk) (by kernel_rfl) (laid_met os))) ?_
 intro W base args ds gs before hval hW _ _ hwt hL hs _
 exact contract H enc W base args ds gs before hval hW hwt hL hs
theorem said:Rows.NamesSlotsSaid :=
 OpenClaim.holds_of_cond 4 Tryd.f4 rfl rfl rfl rfl rfl rfl rfl ⟨rfl,rfl,rfl,rfl,rfl⟩ rfl rfl rfl rfl rfl (by kernel_rfl) Tryd.func4 (by kernel_rfl)
  (of_decide_eq_true (by kernel_rfl)) (by unfold Func.isWrapper; first | (rw [if_pos (by decide +kernel)]; kernel_rfl) | (rw [if_neg (by decide +kernel)]; exact ⟨rfl,rfl⟩))
  (fun os started H enc _ F=>by rw [OpenClaim.pre_eq_preRow]; exact lifted os started H enc F)
theorem plain (f:FuncId) (fn:Func) (hf : Tryd.pinned.checked.prog.funcNamed "seedbed/seedbedlaw04.NamesSlots"=some f) (hfn : Tryd.pinned.checked.prog.funcs[f]?=some fn) :
  true=Tryd.pinned.checked.prog.looks []∧∀ (j:Nat) t,fn.params[j]?=some t→Tryd.pinned.checked.prog.wantsStandIn t=false:=by
 obtain rfl:f=4:=Option.some.inj ((show Tryd.prog.funcNamed "seedbed/seedbedlaw04.NamesSlots"=some 4 by kernel_rfl).symm.trans hf) |>.symm
 obtain rfl:fn=Tryd.f4:=(Option.some.inj (Tryd.func4.symm.trans hfn)).symm
 refine ⟨by kernel_rfl,fun j t ht=>?_⟩
 rw [Tryd.params4] at ht
 obtain rfl:t=24:=by simpa using Array.mem_of_getElem? ht
 exact (show Tryd.prog.wantsStandIn 24=false by kernel_rfl)
theorem card:Rows.NamesSlotsCardSaid :=
 Claim7.holds_tied_plain_at .later [] _ _ _ _ said (fun _ h=>by cases h) (by kernel_rfl) (fun _ h=>by cases h) namesSlots_row_tie rfl ⟨rfl,rfl⟩ (by kernel_rfl) rfl plain (by kernel_rfl)
end Go.Proofs.YtoajecnoffhlbaaDoor.namesSlots
