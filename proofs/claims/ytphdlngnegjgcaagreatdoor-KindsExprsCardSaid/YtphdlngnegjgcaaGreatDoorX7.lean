/- For every expression and list of ints, KindsExprs returns true and leaves its arguments as they were. It holds wherever the package variables that its row lists begin as the program's text lays them. -/
import Derived.Test.YtphdlngnegjgcaaGreatDoorX6
set_option linter.unusedVariables false
set_option linter.unusedSimpArgs false
namespace Go.Proofs.YtphdlngnegjgcaaGreatDoor.kindsExprs
open Go Go.ChangeShapes Go.WideShapes Go.ChangeAt Go.RowKit
theorem readable35 : Tryz.prog.readableRec 35=true:=by kernel_rfl
theorem row35:(35:TypeId) < Tryz.prog.types.size:=Nat.le_of_ble_eq_true (by kernel_rfl)
theorem readable36 : Tryz.prog.readableRec 36=true:=by kernel_rfl
theorem row36:(36:TypeId) < Tryz.prog.types.size:=Nat.le_of_ble_eq_true (by kernel_rfl)
set_option maxRecDepth 100000 in
theorem arg_expr {H:Type} {enc:TypeId × Value→H} {W:World} {base:Nat} {v:Value} {d:DataW H} {ps:List MemPlace} (hval:Value.okWide Tryz.prog W .any base 35 v) (h:DataW.Trod enc Tryz.prog W 0 (fun _=>true) true 35 v d ps) (hw:okW Tryz.prog 35 d) :
  ∃ (p:DExpr) (cs:List Value),v=.agg cs.toArray∧RDExpr (K0 W) p cs:=by
 unfold Value.okWide at hval;rw [Tryz.underlying35] at hval;obtain ⟨cs,rfl,_,_⟩:=hval;obtain ⟨fuel,h⟩:=h;obtain ⟨y,hy⟩:=(open_all (enc:=enc) (W:=W) (sp:=fun _=>true) fuel).1 fuel cs.toList (d,ps) (Nat.le_refl _) h hw;exact ⟨y,cs.toList,by simp,hy⟩
set_option maxRecDepth 100000 in
theorem arg_ints {H:Type} {enc:TypeId × Value→H} {W:World} {base:Nat} {v:Value} {d:DataW H} {ps:List MemPlace} (hval:Value.okWide Tryz.prog W .any base 36 v) (h:DataW.Trod enc Tryz.prog W 0 (fun _=>true) true 36 v d ps) (hw:okW Tryz.prog 36 d) :
  ∃ (l:List Int) (A:Option Addr) (c:Nat),v=.slice A l.length c∧RSl Int (RInt .i64) 1 8 (K0 W) A c l:=by
 obtain ⟨fuel,hf⟩:=h;obtain ⟨A,c,l,e,r⟩:=open_sl (R:=fun _=>RInt .i64) (size:=1) (bytes:=8) (Tryz.underlying36) (by kernel_rfl) (by decide) (by kernel_rfl) (by decide) (fun m cs x hm h w=>by
  obtain ⟨v,e,_,_⟩:=DataW.trod_int (Tryz.underlying3) h;exact ⟨v,e⟩) hf hw
 have hv : ∃ a n c,v=.slice a n c:=by
  simp only [Value.okWide,Tryz.underlying36,Cell.okWide] at hval;cases v <;> simp_all [Cell.ok]
 obtain ⟨a,n,c',rfl⟩:=hv;simp only [Value.cells,List.cons.injEq,and_true] at e;exact ⟨l,A,c,e,r⟩
set_option maxRecDepth 100000 in
theorem contract (H:Type) (enc:TypeId × Value→H) (W:World) (base:Nat) (args:Array Value) (ds gs:List (DataW H)) (before:List MemPlace)
  (hval : ∀ (j:Nat) t v,Tryz.f4.params[j]?=some t→args[j]?=some v→Value.okWide Tryz.prog W .any base t v)
  (hW:DataW.Whole enc Tryz.prog Tryz.f4.params.toList Rows.kindsExprsSpec.vars false W args.toList ds gs before)
  (hwt:(DataW.weightsEach Tryz.prog (Tryz.f4.params.toList ++ (OpenSpec.ofChange Rows.kindsExprsSpec).bare.plain.varTypes Tryz.prog) (ds ++ gs)).all (·≤reachBytes)=true)
  (hL:laidMetH Tryz.prog Rows.kindsExprsRow.laid W) (hs:W.ShapedOpen Tryz.prog) :
  Calls Tryz.prog 4 args W fun e W'=>∃ v,e=.returned v∧Rows.kindsExprsSpec.post enc Tryz.prog Tryz.f4 false true false false W args v W':=by
 have hW':=hW;obtain ⟨p,q,hA0,hV,rfl,hfz,hnd⟩:=hW;have hA:DataW.TrodAll enc Tryz.prog W 0 (fun _=>true) true Tryz.f4.params.toList args.toList ds p:=hA0;rw [Tryz.params4] at hA hval;obtain ⟨v0,v2,d0,d2,p0,p2,rfl,rfl,rfl,h0,h2⟩:=trodAll_two hA;obtain ⟨rfl,rfl⟩:=trodVars_none hV;clear hA0 hA;have hok:okW Tryz.prog 35 d0:=okW_at (ts:=Tryz.f4.params.toList ++ _) (ds:=[d0,d2] ++ []) (fun n hn=>by simpa using List.all_eq_true.1 hwt n hn) 0 (by rw [Tryz.params4]; rfl) rfl;have hok2:okW Tryz.prog 36 d2:=okW_at (ts:=Tryz.f4.params.toList ++ _) (ds:=[d0,d2] ++ []) (fun n hn=>by simpa using List.all_eq_true.1 hwt n hn) 1 (by rw [Tryz.params4]; rfl) rfl;obtain ⟨x,cs,rfl,hR⟩:=arg_expr (hval 0 35 v0 rfl rfl) h0 hok;obtain ⟨l,A,c,rfl,hR2⟩:=arg_ints (hval 1 36 v2 rfl rfl) h2 hok2;have hG:GK (K0 W):=gk_of (laid:=Rows.kindsExprsRow.laid) (by kernel_rfl) (by kernel_rfl) hL hs;refine (f4_ok (6 * szE x + 6500 + 100)  (f4_eq _ x l (by omega)) hG hR hR2 (Sx.begin W)).mono fun e W' ⟨v,he,K',hv,S⟩=>?_
 have hb:Below W.heap.size W W':=below_of S;subst he hv;refine ⟨_,rfl,post_below (pa:=p0 ++ (p2 ++ [])) (pv:=[]) hW' ?_ ?_ (fun _ _=>rfl) (by simp) hb (ok_one (by kernel_rfl) rfl (okWide_bool_mk Tryz.underlying4 _))⟩
 ·intro b sp hd;exact trodAll_cons_mk (shut_bool Tryz.underlying4 _) trodAll_mk0
 ·intro sp hsp;rw [Tryz.params4];exact trodAll_cons_mk (WideElems.Trod_stays laidOut readable35 row35 h0 (fun x hx=>hb.same (hW'.lt x (by simp [hx]))) (fun x hx=>hsp x (by simp [hx]))) (trodAll_cons_mk (WideElems.Trod_stays laidOut readable36 row36 h2 (fun x hx=>hb.same (hW'.lt x (by simp [hx]))) (fun x hx=>hsp x (by simp [hx]))) trodAll_mk0)
theorem laid_met (os:Os):laidMet Tryz.prog Rows.kindsExprsRow.laid ((laidWorld os).forCall (fun _ _=>0) ⟨#[],#[.agg #[.int .i64 0,.int .i64 0,.string ⟨#[]⟩,.int .i64 0,.slice none 0 0],.slice none 0 0],[]⟩).memory :=
 laidMet_of_run' 12 (by kernel_rfl) (by kernel_rfl)
theorem reads (os:Os) {H:Type} (enc:TypeId × Value→H) : ∃ places,DataW.whole enc Tryz.prog ((laidWorld os).forCall (fun _ _=>0) ⟨#[],#[.agg #[.int .i64 0,.int .i64 0,.string ⟨#[]⟩,.int .i64 0,.slice none 0 0],.slice none 0 0],[]⟩).memory Tryz.f4.params.toList Rows.kindsExprsSpec.vars false #[Value.agg #[.int .i64 0,.int .i64 0,.string ⟨#[]⟩,.int .i64 0,.slice none 0 0],.slice none 0 0].toList 8=some ([.agg [.lit (.int .i64 0),.lit (.int .i64 0),.lit (.string []),.lit (.int .i64 0),.nil],.nil],[],places) :=
 ⟨[],by kernel_rfl⟩
set_option maxRecDepth 100000 in
theorem lifted (os:Os) (started:os.Started) (H:Type) (enc:TypeId × Value→H) (F:Stop.Interp) :
  ReturnsInHanded {} Tryz.checked os 4 .any ((OpenSpec.ofChange Rows.kindsExprsSpec).preRow enc Tryz.prog Tryz.f4 Rows.kindsExprsRow.domain false Rows.kindsExprsRow.laid) (((OpenSpec.ofChange Rows.kindsExprsSpec).at F).post enc Tryz.prog Tryz.f4 false true false false):=by
 obtain ⟨places,hx⟩:=reads os enc;refine returnsInHanded_of_row (C:=Tryz.checked) (s:=OpenSpec.ofChange Rows.kindsExprsSpec) own started (by kernel_rfl) Tryz.func4
  (witness_row_atRef (enc:=enc) (C:=Tryz.checked) false (laidWorld os) #[.agg #[.int .i64 0,.int .i64 0,.string ⟨#[]⟩,.int .i64 0,.slice none 0 0],.slice none 0 0] rfl (by kernel_rfl) (by kernel_rfl) (by kernel_rfl)
   (OpenSpec.preRow_of_cond 8 hx (by kernel_rfl) (fun k hk=>by cases hk) (by kernel_rfl) (laid_met os))) ?_
 intro W base args ds gs before hval hW _ _ hwt hL hs _;exact contract H enc W base args ds gs before hval hW hwt hL hs
theorem inPlace_:(Rows.kindsExprsRow.inPlace == Tryz.prog.inPlace 4)=true:=by kernel_rfl
theorem unfollowed_:(Rows.kindsExprsRow.unfollowed == Tryz.prog.unfollowed 4)=true:=by kernel_rfl
theorem recurses_:(Rows.kindsExprsRow.recurses == Tryz.prog.recurses 4)=true:=by kernel_rfl
theorem named_:(Rows.kindsExprsRow.named == Tryz.prog.varsNamed 4)=true:=by kernel_rfl
theorem closed:joinedFacts Tryz.prog 4 Tryz.f4 (OpenSpec.ofChange Rows.kindsExprsSpec).bare Rows.kindsExprsRow=true:=by
 unfold joinedFacts;simp only [Bool.and_eq_true,and_assoc];refine ⟨by kernel_rfl,by kernel_rfl,by kernel_rfl,by kernel_rfl,by kernel_rfl,by kernel_rfl,by kernel_rfl,by kernel_rfl,by kernel_rfl,inPlace_,unfollowed_,recurses_,named_,?_⟩
 repeat' (first | refine ⟨?_,?_⟩ | kernel_rfl)
theorem said:Rows.KindsExprsSaid :=
 OpenClaim.holds_of_cond 4 Tryz.f4 rfl rfl rfl rfl rfl rfl rfl ⟨rfl,rfl,rfl,rfl,rfl⟩ rfl rfl rfl rfl rfl (by kernel_rfl) Tryz.func4 closed
  (of_decide_eq_true (by kernel_rfl)) (by unfold Func.isWrapper; first | (rw [if_pos (by decide +kernel)]; kernel_rfl) | (rw [if_neg (by decide +kernel)]; exact ⟨rfl,rfl⟩))
  (fun os started H enc _ F=>by rw [OpenClaim.pre_eq_preRow]; exact lifted os started H enc F)
theorem plain (f:FuncId) (fn:Func) (hf : Tryz.pinned.checked.prog.funcNamed "seedbed/seedbedlaw05.KindsExprs"=some f) (hfn : Tryz.pinned.checked.prog.funcs[f]?=some fn) :
  true=Tryz.pinned.checked.prog.looks []∧∀ (j:Nat) t,fn.params[j]?=some t→Tryz.pinned.checked.prog.wantsStandIn t=false:=by
 obtain rfl:f=4:=Option.some.inj ((show Tryz.prog.funcNamed "seedbed/seedbedlaw05.KindsExprs"=some 4 by kernel_rfl).symm.trans hf) |>.symm
 obtain rfl:fn=Tryz.f4:=(Option.some.inj (Tryz.func4.symm.trans hfn)).symm;refine ⟨by kernel_rfl,fun j t ht=>?_⟩;rw [Tryz.params4] at ht;rcases (show t=35∨t=36 by simpa using Array.mem_of_getElem? ht) with rfl | rfl
 ·exact (show Tryz.prog.wantsStandIn 35=false by kernel_rfl)
 ·exact (show Tryz.prog.wantsStandIn 36=false by kernel_rfl)
theorem card:Rows.KindsExprsCardSaid :=
 Claim7.holds_tied_plain_at .later [] _ _ _ _ said (fun _ h=>by cases h) (by kernel_rfl) (fun _ h=>by cases h) kindsExprs_row_tie rfl ⟨rfl,rfl⟩ (by kernel_rfl) rfl plain (by kernel_rfl)
end Go.Proofs.YtphdlngnegjgcaaGreatDoor.kindsExprs
