/- For every program and int, KindsVars returns true and leaves its arguments as they were. It holds wherever the package variables that its row lists begin as the program's text lays them. -/
import Derived.Test.YtphdlngnegjgcaaGreatDoorV8
set_option linter.unusedVariables false
set_option linter.unusedSimpArgs false
namespace Go.Proofs.YtphdlngnegjgcaaGreatDoor.kindsVars
open Go Go.ChangeShapes Go.WideShapes Go.ChangeAt Go.RowKit
set_option maxRecDepth 100000 in
theorem contract(H:Type)(enc:TypeId×Value->H)(W:World)(base:Nat)(args:Array Value)(ds gs:List (DataW H))(before:List MemPlace)
  (hval : ∀(j:Nat) t v,Tryz.f6.params[j]?=some t->args[j]?=some v->Value.okWide Tryz.prog W .any base t v)
  (hW:DataW.Whole enc Tryz.prog Tryz.f6.params.toList Rows.kindsVarsSpec.vars false W args.toList ds gs before)
  (hwt:(DataW.weightsEach Tryz.prog (Tryz.f6.params.toList++(OpenSpec.ofChange Rows.kindsVarsSpec).bare.plain.varTypes Tryz.prog) (ds++gs)).all (·<=reachBytes)=true)
  (hL:laidMetH Tryz.prog Rows.kindsVarsRow.laid W) (hs:W.ShapedOpen Tryz.prog) :
  Calls Tryz.prog 6 args W λe W'=>∃v,e=.returned v/\Rows.kindsVarsSpec.post enc Tryz.prog Tryz.f6 false true false false W args v W':=by
 have hW':=hW;obtain⟨p,q,hA0,hV,rfl,hfz,hnd⟩:=hW;have hA:DataW.TrodAll enc Tryz.prog W 0 (λ_=>true) true Tryz.f6.params.toList args.toList ds p:=hA0;rw[Tryz.params6] at hA hval;obtain⟨v0,v2,d0,d2,p0,p2,rfl,rfl,rfl,h0,h2⟩:=trodAll_two hA;obtain⟨rfl,rfl⟩:=trodVars_none hV;clear hA0 hA;have hok:okW Tryz.prog 24 d0:=abd (ts:=Tryz.f6.params.toList++_) (ds:=[d0,d2]++[]) (λn hn=>by simpa using List.all_eq_true.1 hwt n hn) 0 (by rw[Tryz.params6];rfl) rfl;obtain⟨x,cs,rfl,hR⟩:=amf (hval 0 24 v0 rfl rfl) h0 hok;obtain⟨n2,rfl,rfl,rfl,hw2⟩:=open_int Tryz.underlying3 (hval 1 3 v2 rfl rfl) h2;have hG:GK (K0 W):=ayo (laid:=Rows.kindsVarsRow.laid) (by kernel_rfl) (by kernel_rfl) hL hs;refine (ayR (2*szP x+6500+100)  (ax6 _ x n2 (by omega) hR.fit) hG hR (Sx.begin W)).mono λe W' ⟨v,he,K',hv,S⟩=>?_
 have hb:Below W.heap.size W W':=ar6 S;subst he hv;refine⟨_,rfl,aop (pa:=p0++([]++[])) (pv:=[]) hW' ?_ ?_ (λ_ _=>rfl) (by simp) hb (ok_one (by kernel_rfl) rfl (okWide_bool_mk Tryz.underlying4 _))⟩
 ·intro b sp hd;exact trodAll_cons_mk (shut_bool Tryz.underlying4 _) trodAll_mk0
 ·intro sp hsp;rw[Tryz.params6];exact trodAll_cons_mk (WideElems.Trod_stays avj aoe aye h0 (λx hx=>hb.same (hW'.lt x (by simp[hx]))) (λx hx=>hsp x (by simp[hx]))) (trodAll_cons_mk (shut_int Tryz.underlying3 hw2) trodAll_mk0)
theorem laid_met(os:Os):laidMet Tryz.prog Rows.kindsVarsRow.laid ((ahB os).forCall (λ_ _=>0) ⟨#[],#[.agg #[.slice none 0 0],.int .i64 0],[]⟩).memory :=
 laidMet_of_run' 12 (by kernel_rfl) (by kernel_rfl)
theorem reads(os:Os){H:Type}(enc:TypeId×Value->H) : ∃places,DataW.whole enc Tryz.prog ((ahB os).forCall (λ_ _=>0) ⟨#[],#[.agg #[.slice none 0 0],.int .i64 0],[]⟩).memory Tryz.f6.params.toList Rows.kindsVarsSpec.vars false #[Value.agg #[.slice none 0 0],.int .i64 0].toList 8=some ([.agg [.nil],.lit (.int .i64 0)],[],places) :=
 ⟨[],by kernel_rfl⟩
set_option maxRecDepth 100000 in
theorem lifted(os:Os)(started:os.Started)(H:Type)(enc:TypeId×Value->H)(F:Stop.Interp) :
  ReturnsInHanded {} Tryz.checked os 6 .any ((OpenSpec.ofChange Rows.kindsVarsSpec).preRow enc Tryz.prog Tryz.f6 Rows.kindsVarsRow.domain false Rows.kindsVarsRow.laid) (((OpenSpec.ofChange Rows.kindsVarsSpec).at F).post enc Tryz.prog Tryz.f6 false true false false):=by
 obtain⟨places,hx⟩:=reads os enc;refine returnsInHanded_of_row (C:=Tryz.checked) (s:=OpenSpec.ofChange Rows.kindsVarsSpec) own started (by kernel_rfl) Tryz.func6
  (witness_row_atRef (enc:=enc) (C:=Tryz.checked) false (ahB os) #[.agg #[.slice none 0 0],.int .i64 0] rfl (by kernel_rfl) (by kernel_rfl) (by kernel_rfl)
   (OpenSpec.preRow_of_cond 8 hx (by kernel_rfl) (λk hk=>by cases hk) (by kernel_rfl) (laid_met os))) ?_
 intro W base args ds gs before hval hW _ _ hwt hL hs _;exact contract H enc W base args ds gs before hval hW hwt hL hs
theorem inPlace_:(Rows.kindsVarsRow.inPlace==Tryz.prog.inPlace 6)=true:=by kernel_rfl
theorem unfollowed_:(Rows.kindsVarsRow.unfollowed==Tryz.prog.unfollowed 6)=true:=by kernel_rfl
theorem recurses_:(Rows.kindsVarsRow.recurses==Tryz.prog.recurses 6)=true:=by kernel_rfl
theorem named_:(Rows.kindsVarsRow.named==Tryz.prog.varsNamed 6)=true:=by kernel_rfl
theorem closed:joinedFacts Tryz.prog 6 Tryz.f6 (OpenSpec.ofChange Rows.kindsVarsSpec).bare Rows.kindsVarsRow=true:=by
 unfold joinedFacts;simp only[Bool.and_eq_true,and_assoc];refine⟨by kernel_rfl,by kernel_rfl,by kernel_rfl,by kernel_rfl,by kernel_rfl,by kernel_rfl,by kernel_rfl,by kernel_rfl,by kernel_rfl,inPlace_,unfollowed_,recurses_,named_,?_⟩
 repeat' (first | refine⟨?_,?_⟩ | kernel_rfl)
theorem said:Rows.KindsVarsSaid :=
 OpenClaim.holds_of_cond 6 Tryz.f6 rfl rfl rfl rfl rfl rfl rfl ⟨rfl,rfl,rfl,rfl,rfl⟩ rfl rfl rfl rfl rfl (by kernel_rfl) Tryz.func6 closed
  (of_decide_eq_true (by kernel_rfl)) (by unfold Func.isWrapper;first | (rw[if_pos (by decide +kernel)];kernel_rfl) | (rw[if_neg (by decide +kernel)];exact⟨rfl,rfl⟩))
  (λos started H enc _ F=>by rw[OpenClaim.pre_eq_preRow];exact lifted os started H enc F)
theorem plain(f:FuncId)(fn:Func) (hf : Tryz.pinned.checked.prog.funcNamed "seedbed/seedbedlaw05.KindsVars"=some f) (hfn : Tryz.pinned.checked.prog.funcs[f]?=some fn) :
  true=Tryz.pinned.checked.prog.looks []/\∀(j:Nat) t,fn.params[j]?=some t->Tryz.pinned.checked.prog.wantsStandIn t=false:=by
 obtain rfl:f=6:=Option.some.inj ((show Tryz.prog.funcNamed "seedbed/seedbedlaw05.KindsVars"=some 6 by kernel_rfl).symm.trans hf) |>.symm
 obtain rfl:fn=Tryz.f6:=(Option.some.inj (Tryz.func6.symm.trans hfn)).symm;refine⟨by kernel_rfl,λj t ht=>?_⟩;rw[Tryz.params6] at ht;rcases (show t=24\/t=3 by simpa using Array.mem_of_getElem? ht) with rfl | rfl
 ·exact (show Tryz.prog.wantsStandIn 24=false by kernel_rfl)
 ·exact (show Tryz.prog.wantsStandIn 3=false by kernel_rfl)
theorem card:Rows.KindsVarsCardSaid :=
 Claim7.holds_tied_plain_at .later [] _ _ _ _ said (λ_ h=>by cases h) (by kernel_rfl) (λ_ h=>by cases h) kindsVars_row_tie rfl ⟨rfl,rfl⟩ (by kernel_rfl) rfl plain (by kernel_rfl)
end Go.Proofs.YtphdlngnegjgcaaGreatDoor.kindsVars
