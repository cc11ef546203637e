/- For every program, int and string, NamesFrees returns true and leaves its arguments as they were. It holds wherever the package variables that its row lists begin as the program's text lays them. -/
import Derived.Test.YtoajecnoffhlbaaGreatDoorF7
import Derived.Deep.DeepLaidRun
set_option linter.unusedVariables false
set_option linter.unusedSimpArgs false
namespace Go.Proofs.YtoajecnoffhlbaaGreatDoor.namesFrees
open Go Go.ChangeShapes Go.WideShapes Go.ChangeAt Go.RowKit
set_option maxRecDepth 100000 in
theorem contract (H:Type) (enc:TypeId × Value→H) (W:World) (base:Nat) (args:Array Value) (ds gs:List (DataW H)) (before:List MemPlace)
  (hval : ∀ (j:Nat) t v,Tryz.f11.params[j]?=some t→args[j]?=some v→Value.okWide Tryz.prog W .any base t v)
  (hW:DataW.Whole enc Tryz.prog Tryz.f11.params.toList Rows.namesFreesSpec.vars false W args.toList ds gs before)
  (hwt:(DataW.weightsEach Tryz.prog (Tryz.f11.params.toList ++ (OpenSpec.ofChange Rows.namesFreesSpec).bare.plain.varTypes Tryz.prog) (ds ++ gs)).all (·≤reachBytes)=true)
  (hL:laidMetH Tryz.prog Rows.namesFreesRow.laid W) (hs:W.ShapedOpen Tryz.prog) :
  Calls Tryz.prog 11 args W fun e W'=>∃ v,e=.returned v∧Rows.namesFreesSpec.post enc Tryz.prog Tryz.f11 false true false false W args v W':=by
 have hW':=hW;obtain ⟨p,q,hA0,hV,rfl,hfz,hnd⟩:=hW;have hA:DataW.TrodAll enc Tryz.prog W 0 (fun _=>true) true Tryz.f11.params.toList args.toList ds p:=hA0;rw [Tryz.params11] at hA hval;obtain ⟨v0,v2,v1,d0,d2,d1,p0,p2,p1,rfl,rfl,rfl,h0,h2,h1⟩:=trodAll_three hA;obtain ⟨rfl,rfl⟩:=trodVars_none hV;clear hA0 hA;have hok:okW Tryz.prog 24 d0:=okW_at (ts:=Tryz.f11.params.toList ++ _) (ds:=[d0,d2,d1] ++ []) (fun n hn=>by simpa using List.all_eq_true.1 hwt n hn) 0 (by rw [Tryz.params11]; rfl) rfl;obtain ⟨x,cs,rfl,hR⟩:=arg_program (hval 0 24 v0 rfl rfl) h0 hok;have hok1:okW Tryz.prog 9 d1:=okW_at (ts:=Tryz.f11.params.toList ++ _) (ds:=[d0,d2,d1] ++ []) (fun n hn=>by simpa using List.all_eq_true.1 hwt n hn) 2 (by rw [Tryz.params11]; rfl) rfl;obtain ⟨s1,rfl,rfl,rfl,hw1⟩:=open_text Tryz.underlying9 (hval 2 9 v1 rfl rfl) h1;have hs1:=okW_str hok1;obtain ⟨n2,rfl,rfl,rfl,hw2⟩:=open_int Tryz.underlying3 (hval 1 3 v2 rfl rfl) h2;have hG:GK (K0 W):=gk_of (laid:=Rows.namesFreesRow.laid) (by kernel_rfl) (by kernel_rfl) hL hs;refine (f11_ok (2 * szP x + 2500 + 100)  (f11_eq _ x n2 s1 (by omega) hR.fit) hG hR hs1 (Sx.begin W)).mono fun e W' ⟨v,he,K',hv,S⟩=>?_
 have hb:Below W.heap.size W W':=below_of S;subst he hv;refine ⟨_,rfl,post_below (pa:=p0 ++ ([] ++ ([] ++ []))) (pv:=[]) hW' ?_ ?_ (fun _ _=>rfl) (by simp) hb (ok_one (by kernel_rfl) rfl (okWide_bool_mk Tryz.underlying4 _))⟩
 ·intro b sp hd;exact trodAll_cons_mk (shut_bool Tryz.underlying4 _) trodAll_mk0
 ·intro sp hsp;rw [Tryz.params11];exact trodAll_cons_mk (WideElems.Trod_stays laidOut readable24 row24 h0 (fun x hx=>hb.same (hW'.lt x (by simp [hx]))) (fun x hx=>hsp x (by simp [hx]))) (trodAll_cons_mk (shut_int Tryz.underlying3 hw2) (trodAll_cons_mk (shut_text Tryz.underlying9 hw1) trodAll_mk0))
noncomputable def laidWorld (os:Os):World :=
 let w:=Go.Proofs.YtoajecnoffhlbaaGreatDoor.laidWorld os
 let put (h:Array Obj) (g:Nat) (vs:List Value):Array Obj:=h.modify g fun | .cells _ t f=>.cells vs.toArray t f | o=>o
 { w with heap:=put (put (put w.heap 1 (litsV (partsV Rows.laid_internal_strconv_uint64pow10))) 3 (litsV (partsV Rows.laid_math_bits_deBruijn32tab))) 4 (litsV (partsV Rows.laid_math_bits_deBruijn64tab)) }
theorem laid_met (os:Os):laidMet Tryz.prog Rows.namesFreesRow.laid ((laidWorld os).forCall (fun _ _=>0) ⟨#[],#[.agg #[.slice none 0 0],.int .i64 0,.string ⟨#[]⟩],[]⟩).memory :=
 laidMet_of_run3 12 (by kernel_rfl) (by kernel_rfl) (by kernel_rfl)
theorem reads (os:Os) {H:Type} (enc:TypeId × Value→H) : ∃ places,DataW.whole enc Tryz.prog ((laidWorld os).forCall (fun _ _=>0) ⟨#[],#[.agg #[.slice none 0 0],.int .i64 0,.string ⟨#[]⟩],[]⟩).memory Tryz.f11.params.toList Rows.namesFreesSpec.vars false #[Value.agg #[.slice none 0 0],.int .i64 0,.string ⟨#[]⟩].toList 8=some ([.agg [.nil],.lit (.int .i64 0),.lit (.string [])],[],places) :=
 ⟨[],by kernel_rfl⟩
set_option maxRecDepth 100000 in
theorem lifted (os:Os) (started:os.Started) (H:Type) (enc:TypeId × Value→H) (F:Stop.Interp) :
  ReturnsInHanded {} Tryz.checked os 11 .any ((OpenSpec.ofChange Rows.namesFreesSpec).preRow enc Tryz.prog Tryz.f11 Rows.namesFreesRow.domain false Rows.namesFreesRow.laid) (((OpenSpec.ofChange Rows.namesFreesSpec).at F).post enc Tryz.prog Tryz.f11 false true false false):=by
 obtain ⟨places,hx⟩:=reads os enc;refine returnsInHanded_of_row (C:=Tryz.checked) (s:=OpenSpec.ofChange Rows.namesFreesSpec) own started (by kernel_rfl) Tryz.func11
  (witness_row_atRef (enc:=enc) (C:=Tryz.checked) false (laidWorld os) #[.agg #[.slice none 0 0],.int .i64 0,.string ⟨#[]⟩] rfl (by kernel_rfl) (by kernel_rfl) (by kernel_rfl)
   (OpenSpec.preRow_of_cond 8 hx (by kernel_rfl) (fun k hk=>by cases hk) (by kernel_rfl) (laid_met os))) ?_
 intro W base args ds gs before hval hW _ _ hwt hL hs _;exact contract H enc W base args ds gs before hval hW hwt hL hs
theorem inPlace_:(Rows.namesFreesRow.inPlace == Tryz.prog.inPlace 11)=true:=by kernel_rfl
theorem unfollowed_:(Rows.namesFreesRow.unfollowed == Tryz.prog.unfollowed 11)=true:=by kernel_rfl
theorem recurses_:(Rows.namesFreesRow.recurses == Tryz.prog.recurses 11)=true:=by kernel_rfl
theorem named_:(Rows.namesFreesRow.named == Tryz.prog.varsNamed 11)=true:=by kernel_rfl
theorem closed:joinedFacts Tryz.prog 11 Tryz.f11 (OpenSpec.ofChange Rows.namesFreesSpec).bare Rows.namesFreesRow=true:=by
 unfold joinedFacts;simp only [Bool.and_eq_true,and_assoc];refine ⟨by kernel_rfl,by kernel_rfl,by kernel_rfl,by kernel_rfl,by kernel_rfl,by kernel_rfl,by kernel_rfl,by kernel_rfl,by kernel_rfl,inPlace_,unfollowed_,recurses_,named_,?_⟩
 repeat' (first | refine ⟨?_,?_⟩ | kernel_rfl)
theorem said:Rows.NamesFreesSaid :=
 OpenClaim.holds_of_cond 11 Tryz.f11 rfl rfl rfl rfl rfl rfl rfl ⟨rfl,rfl,rfl,rfl,rfl⟩ rfl rfl rfl rfl rfl (by kernel_rfl) Tryz.func11 closed
  (of_decide_eq_true (by kernel_rfl)) (by unfold Func.isWrapper; first | (rw [if_pos (by decide +kernel)]; kernel_rfl) | (rw [if_neg (by decide +kernel)]; exact ⟨rfl,rfl⟩))
  (fun os started H enc _ F=>by rw [OpenClaim.pre_eq_preRow]; exact lifted os started H enc F)
theorem plain (f:FuncId) (fn:Func) (hf : Tryz.pinned.checked.prog.funcNamed "seedbed/seedbedlaw04.NamesFrees"=some f) (hfn : Tryz.pinned.checked.prog.funcs[f]?=some fn) :
  true=Tryz.pinned.checked.prog.looks []∧∀ (j:Nat) t,fn.params[j]?=some t→Tryz.pinned.checked.prog.wantsStandIn t=false:=by
 obtain rfl:f=11:=Option.some.inj ((show Tryz.prog.funcNamed "seedbed/seedbedlaw04.NamesFrees"=some 11 by kernel_rfl).symm.trans hf) |>.symm
 obtain rfl:fn=Tryz.f11:=(Option.some.inj (Tryz.func11.symm.trans hfn)).symm;refine ⟨by kernel_rfl,fun j t ht=>?_⟩;rw [Tryz.params11] at ht;rcases (show t=24∨t=3∨t=9 by simpa using Array.mem_of_getElem? ht) with rfl | rfl | rfl
 ·exact (show Tryz.prog.wantsStandIn 24=false by kernel_rfl)
 ·exact (show Tryz.prog.wantsStandIn 3=false by kernel_rfl)
 ·exact (show Tryz.prog.wantsStandIn 9=false by kernel_rfl)
theorem card:Rows.NamesFreesCardSaid :=
 Claim7.holds_tied_plain_at .later [] _ _ _ _ said (fun _ h=>by cases h) (by kernel_rfl) (fun _ h=>by cases h) namesFrees_row_tie rfl ⟨rfl,rfl⟩ (by kernel_rfl) rfl plain (by kernel_rfl)
end Go.Proofs.YtoajecnoffhlbaaGreatDoor.namesFrees
