/- For every program, KindsChecks returns true and leaves its arguments as they were. It holds wherever the package variables that its row lists begin as the program's text lays them. -/
import Derived.Test.YtphdlngnegjgcaaGreatDoorC8
set_option linter.unusedVariables false
set_option linter.unusedSimpArgs false
namespace Go.Proofs.YtphdlngnegjgcaaGreatDoor.kindsChecks
open Go Go.ChangeShapes Go.WideShapes Go.ChangeAt Go.RowKit
set_option maxRecDepth 100000 in
theorem contract(H:Type)(enc:TypeId×Value->H)(W:World)(base:Nat)(args:Array Value)(ds gs:List (DataW H))(before:List MemPlace)
  (hval : ∀(j:Nat) t v,Tryz.f3.params[j]?=some t->args[j]?=some v->Value.okWide Tryz.prog W .any base t v)
  (hW:DataW.Whole enc Tryz.prog Tryz.f3.params.toList Rows.kindsChecksSpec.vars false W args.toList ds gs before)
  (hwt:(DataW.weightsEach Tryz.prog (Tryz.f3.params.toList++(OpenSpec.ofChange Rows.kindsChecksSpec).bare.plain.varTypes Tryz.prog) (ds++gs)).all (·<=reachBytes)=true)
  (hL:laidMetH Tryz.prog Rows.kindsChecksRow.laid W) (hs:W.ShapedOpen Tryz.prog) :
  Calls Tryz.prog 3 args W λe W'=>∃v,e=.returned v/\Rows.kindsChecksSpec.post enc Tryz.prog Tryz.f3 false true false false W args v W':=by
 have hW':=hW;obtain⟨p,q,hA0,hV,rfl,hfz,hnd⟩:=hW;have hA:DataW.TrodAll enc Tryz.prog W 0 (λ_=>true) true Tryz.f3.params.toList args.toList ds p:=hA0;rw[Tryz.params3] at hA hval;obtain⟨v0,vs0,d0,ds0,p0,q0,hargs,rfl,rfl,h0,r0⟩:=trodAll_cons hA;obtain⟨rfl,rfl,rfl⟩:=trodAll_nil r0;obtain rfl:args=#[v0]:=by cases args;simp_all
 obtain⟨rfl,rfl⟩:=trodVars_none hV;clear hA0 hA;have hok:okW Tryz.prog 24 d0:=abd (ts:=Tryz.f3.params.toList++_) (ds:=[d0]++[]) (λn hn=>by simpa using List.all_eq_true.1 hwt n hn) 0 (by rw[Tryz.params3];rfl) rfl;obtain⟨x,cs,rfl,hR⟩:=amI (hval 0 24 v0 rfl rfl) h0 hok;have hG:GK (K0 W):=ayR (laid:=Rows.kindsChecksRow.laid) (by kernel_rfl) (by kernel_rfl) hL hs;refine (ayB (2*szP x+6500+100)  (ay0 _ x (by omega) hR.fit) hG hR (Sx.begin W)).mono λe W' ⟨v,he,K',hv,S⟩=>?_
 have hb:Below W.heap.size W W':=ata S;subst he hv;refine⟨_,rfl,aoO (pa:=p0++[]) (pv:=[]) hW' ?_ ?_ (λ_ _=>rfl) rfl hb (ok_one (by kernel_rfl) rfl (okWide_bool_mk Tryz.underlying4 _))⟩
 ·intro b sp hd;exact trodAll_cons_mk (shut_bool Tryz.underlying4 _) trodAll_mk0
 ·intro sp hsp;rw[Tryz.params3];exact trodAll_cons_mk (WideElems.Trod_stays av2 aoz ay6 h0 (λx hx=>hb.same (hW'.lt x (by simp[hx]))) (λx hx=>hsp x (by simp[hx]))) trodAll_mk0
theorem laid_met(os:Os):laidMet Tryz.prog Rows.kindsChecksRow.laid ((ah6 os).forCall (λ_ _=>0) ⟨#[],#[.agg #[.slice none 0 0]],[]⟩).memory :=
 laidMet_of_run' 12 (by kernel_rfl) (by kernel_rfl)
theorem reads(os:Os){H:Type}(enc:TypeId×Value->H) : ∃places,DataW.whole enc Tryz.prog ((ah6 os).forCall (λ_ _=>0) ⟨#[],#[.agg #[.slice none 0 0]],[]⟩).memory Tryz.f3.params.toList Rows.kindsChecksSpec.vars false #[Value.agg #[.slice none 0 0]].toList 8=some ([.agg [.nil]],[],places) :=
 ⟨[],by kernel_rfl⟩
set_option maxRecDepth 100000 in
theorem lifted(os:Os)(started:os.Started)(H:Type)(enc:TypeId×Value->H)(F:Stop.Interp) :
  ReturnsInHanded {} Tryz.checked os 3 .any ((OpenSpec.ofChange Rows.kindsChecksSpec).preRow enc Tryz.prog Tryz.f3 Rows.kindsChecksRow.domain false Rows.kindsChecksRow.laid) (((OpenSpec.ofChange Rows.kindsChecksSpec).at F).post enc Tryz.prog Tryz.f3 false true false false):=by
 obtain⟨places,hx⟩:=reads os enc;refine returnsInHanded_of_row (C:=Tryz.checked) (s:=OpenSpec.ofChange Rows.kindsChecksSpec) own started (by kernel_rfl) Tryz.func3
  (witness_row_atRef (enc:=enc) (C:=Tryz.checked) false (ah6 os) #[.agg #[.slice none 0 0]] rfl (by kernel_rfl) (by kernel_rfl) (by kernel_rfl)
   (OpenSpec.preRow_of_cond 8 hx (by kernel_rfl) (λk hk=>by cases hk) (by kernel_rfl) (laid_met os))) ?_
 intro W base args ds gs before hval hW _ _ hwt hL hs _;exact contract H enc W base args ds gs before hval hW hwt hL hs
theorem inPlace_:(Rows.kindsChecksRow.inPlace==Tryz.prog.inPlace 3)=true:=by kernel_rfl
theorem unfollowed_:(Rows.kindsChecksRow.unfollowed==Tryz.prog.unfollowed 3)=true:=by kernel_rfl
theorem recurses_:(Rows.kindsChecksRow.recurses==Tryz.prog.recurses 3)=true:=by kernel_rfl
theorem named_:(Rows.kindsChecksRow.named==Tryz.prog.varsNamed 3)=true:=by kernel_rfl
theorem closed:joinedFacts Tryz.prog 3 Tryz.f3 (OpenSpec.ofChange Rows.kindsChecksSpec).bare Rows.kindsChecksRow=true:=by
 unfold joinedFacts;simp only[Bool.and_eq_true,and_assoc];refine⟨by kernel_rfl,by kernel_rfl,by kernel_rfl,by kernel_rfl,by kernel_rfl,by kernel_rfl,by kernel_rfl,by kernel_rfl,by kernel_rfl,inPlace_,unfollowed_,recurses_,named_,?_⟩
 repeat' (first | refine⟨?_,?_⟩ | kernel_rfl)
theorem said:Rows.KindsChecksSaid :=
 OpenClaim.holds_of_cond 3 Tryz.f3 rfl rfl rfl rfl rfl rfl rfl ⟨rfl,rfl,rfl,rfl,rfl⟩ rfl rfl rfl rfl rfl (by kernel_rfl) Tryz.func3 closed
  (of_decide_eq_true (by kernel_rfl)) (by unfold Func.isWrapper;first | (rw[if_pos (by decide +kernel)];kernel_rfl) | (rw[if_neg (by decide +kernel)];exact⟨rfl,rfl⟩))
  (λos started H enc _ F=>by rw[OpenClaim.pre_eq_preRow];exact lifted os started H enc F)
theorem plain(f:FuncId)(fn:Func) (hf : Tryz.pinned.checked.prog.funcNamed "seedbed/seedbedlaw05.KindsChecks"=some f) (hfn : Tryz.pinned.checked.prog.funcs[f]?=some fn) :
  true=Tryz.pinned.checked.prog.looks []/\∀(j:Nat) t,fn.params[j]?=some t->Tryz.pinned.checked.prog.wantsStandIn t=false:=by
 obtain rfl:f=3:=Option.some.inj ((show Tryz.prog.funcNamed "seedbed/seedbedlaw05.KindsChecks"=some 3 by kernel_rfl).symm.trans hf) |>.symm
 obtain rfl:fn=Tryz.f3:=(Option.some.inj (Tryz.func3.symm.trans hfn)).symm;refine⟨by kernel_rfl,λj t ht=>?_⟩;rw[Tryz.params3] at ht;obtain rfl:t=24:=by simpa using Array.mem_of_getElem? ht
 exact (show Tryz.prog.wantsStandIn 24=false by kernel_rfl)
theorem card:Rows.KindsChecksCardSaid :=
 Claim7.holds_tied_plain_at .later [] _ _ _ _ said (λ_ h=>by cases h) (by kernel_rfl) (λ_ h=>by cases h) kindsChecks_row_tie rfl ⟨rfl,rfl⟩ (by kernel_rfl) rfl plain (by kernel_rfl)
end Go.Proofs.YtphdlngnegjgcaaGreatDoor.kindsChecks
