/- Words of the same proof, part 4: what the last text needs; nothing is claimed here. -/
import Derived.Test.YtoajecnoffhlbaaDoorS3
set_option linter.unusedVariables false
set_option linter.unusedSimpArgs false
set_option maxRecDepth 100000
set_option maxHeartbeats 4000000
namespace Go.Proofs.YtoajecnoffhlbaaDoor
open Go
theorem f1005323_b_ok (k:Nat) (F:Fam1005323) (IH1005323:f1005323_spec F.f1005323) (IH1005923:f1005923_spec F.f1005923):f1005323_spec (f1005323_b k F):=by
 unfold f1005323_spec
 intro K wi y aA aB gr bsr g bs br z ag ah A B ai aj C D G I ak al c l m am d q s an J r_ h hG aE aN aP aQ aR aS aT aU aV hbr aW
 refine enter Tryd.func53 rfl (n:=22) rfl ?_
 unfold f1005323_b at h
 refine sr (m2 nS (wt (sr (m2 nS (wt (wp_seq (sr (m1 (sl aA y aB) (lS y.length Tye44 (m1 (iI 0) (wt (wp_block ?_))))))))))))
 have aX:=aW.row_ (zz wi) 61 5
 refine wp_loopG (fun g_ a w=>∃ aF ap N,∃ (t:Nat),∃ f u x aq,g_=N.length∧a=fr 22 (updL aF [(1,.func (.func 57) #[] #[pp gr 0]),(5,sl u f x),(8,sl aA y aB),(9,iI (y.length:Int)),(10,iI (t:Int))])∧KH.sub K ap∧SR K ap wi w [.box bsr gr #[pp g 0] 80,.box bs g (vR ag z ah A ai B aj C D G ak I al l c m q d s J).toArray 84,.row br (sl l c m) 9 1 c.length am,.stk br (sl q d s) 81 d.length an] [.box bs g (vR ag z ah A ai B aj C D G ak I al l c m q d s J).toArray 84,.box bsr gr #[pp g 0] 80,.row br (sl l c m) 9 1 c.length am,.stk br (sl q d s) 81 d.length an,.row (zz wi) (sl u f x) 61 5 f.length aq]∧y.drop t=N∧Reps (RDExpr ap) 5 f aq∧f.length * 64 ≤ mB∧f1005323_l1 k F z A B C D G I c d J N t f=some r_) y.length ?_ ?_
 ·exact ⟨_,K,y,0,([]:LE),none,0,[],rfl,fR,kr,(aX.sel [2,1,3,4,0]),List.drop_zero,(reps0 (R:=(RDExpr K)) (size:=5)),(by simp),h⟩
 ·rintro _ _ aG ⟨aF,ap,N,t,f,u,x,aq,rfl,rfl,O,ar,ao,aH,aY,h⟩
  rcases N with _ | ⟨⟨S,U,V,W,X⟩,N⟩
  ·unfold f1005323_l1 at h
   refine sr (bcm (r:=false) rfl rfl (congrArg some (drop_nil_lt ao)) (wt (wp_seq (cndF rfl (wp_exit (thenX (thenX (blkX (thenN (sr (m1 (sl u f x) (m2 (sl u f x) (wt (wp_ret ?_))))))))))))))
   obtain ⟨aZ,a1,bp,a2⟩:=shutI (i:=4) (bytes:=64) (R:=fun K=>(RDExpr K)) ar rfl (Nat.le_refl _) aH aY (fun hs=>(fun _ _ h=>RDExpr.mono hs h))
   exact retP (retA1 rfl (resT rfl) ⟨f,aZ,u,x,(oi h).symm,rfl,(a1.sel [1,0,2,3]),a2⟩)
  ·unfold f1005323_l1 at h
   refine sr (bcm (r:=true) rfl rfl (congrArg some (drop_cons_t ao)) (wt (wp_seq (cndT rfl (wp_skip (thenN (wp_seq (wp_block (sr ?_)))))))))
   obtain ⟨a3,a4,bq,a5,bu,a6,a7⟩:=((me aE O)).row.at_ (drop_cons_at ao)
   obtain ⟨Y,Z,rfl,a8,a9⟩:=RDExpr.open a7
   refine idxN (b:=a3) (o:=a4) (i:=t) Tye44 Tys61 rfl a5 rfl (drop_cons_lt ao) (lD (vE S U V W Y X Z) Tya61 Tys61 rfl (fun j v hj=>ar.cell (kr.cell (a6 j v hj))) (aC zE.toArray ar Tyz61 (fun bv ba=>(sI 0 (.agg (vE S U V W Y X Z).toArray) ((vE S U V W Y X Z).toArray) ba Tys61 rfl rfl (fun bb au=>(wt (wp_region_lit (m1 (sl u f x) (lN 0 (vE S U V W Y X Z) au Tya61 Tys61 (m1 (.func (.func 57) #[] #[pp gr 0]) ?_))))))))))
   have av:=p213405 au
   obtain ⟨bw,bd,h⟩:=ob h
   refine cp ([.agg (vE S U V W Y X Z).toArray,.func (.func 57) #[] #[pp gr 0]]) Tyb59 (IH1005923 bd (hG.mono O) (RDExpr.intro a8 a9) (mf aN O) aP (mp aQ O) (ms aR O) (aS.mono (fun _ _ h=>h)) aT (StkR.mono (fun _ _ h=>h) aU) aV (Nat.le_trans hbr au.size) (pt av)) ?_ ?_
   ·rintro _ bx ⟨⟨ab,ac,ad,ae,af⟩,aw,bz,rfl,rfl,ax,aI⟩
    have be:=ca ax av
    obtain ⟨aJ,aK,rfl,bA,bB⟩:=RDExpr.open aI
    refine bsl (e:=61) (cells:=(vE ab ac ad ae aJ af aK).toArray) (vs:=[(0,.agg (vE ab ac ad ae aJ af aK).toArray)]) be rfl (buildSl_one Tye44 Tys61 Tyz61 rfl (by decide) (by decide) rfl) (fun bC bf=>?_)
    obtain ⟨aL,h⟩:=of_guard h
    refine apR (R:=(RDExpr aw)) (p:=(DExpr.mk ab ac ad ae af)) (i:=6) (j:=0) bf rfl rfl Tye44 Tyi61 rfl (by decide) rfl rfl (aH.mono (fun _ _ h=>RDExpr.mono ax.sub h)) aI rfl rfl (Nat.le_refl _) aL (by decide) (fun ay az aM bg bh bi=>?_)
    have bj:=p123456 bh
    exact m2 (.slice ay (f ++ [(DExpr.mk ab ac ad ae af)]).length az) (wpList_nil (blkN (thenN (wp_region_lit (bar (r:=((t + 1:Nat):Int)) rfl rfl (inc_ok (le_big (((me aE O)).len) (by decide) (drop_cons_lt ao))) (m1 (iI ((t + 1:Nat):Int)) (wt (⟨_,Nat.lt_succ_self _,_,aw,N,t + 1,(f ++ [(DExpr.mk ab ac ad ae af)]),ay,az,aM,rfl,fR,(O.trans ax.sub),(bj.sel [1,0,2,3,5]),drop_cons_next ao,bi,(app_bound aL),h⟩))))))))
   ·rintro _ bD ⟨bk,bm,rfl,rfl,bn⟩
    have bo:=ca bn av
    exact blkP (thenP (thenP (blkP (thenP (panE (.inr ⟨_,rfl,bk,bm,(oi h).symm,rfl,bo.sel []⟩))))))
theorem f1005923_b_ok (k:Nat) (F:Fam1005323) (IH1005323:f1005323_spec F.f1005323) (IH1005923:f1005923_spec F.f1005923):f1005923_spec (f1005923_b k F):=by
 unfold f1005923_spec
 intro K wi ar aQ gr bsr g bs br w x y z A B C D G I J N O e p q S f r s U V r_ h hG au ac ad ae af ag ah ai aj hbr av
 obtain ⟨a,b,c,t,W⟩:=ar
 obtain ⟨X,Y,rfl,ak,aw⟩:=RDExpr.open au
 refine enter Tryd.func59 rfl (n:=15) rfl ?_
 unfold f1005923_b at h
 refine sr (bxoC (cs:=(vE a b c t X W Y).toArray) av rfl rfl (fun al ax=>(aC zE.toArray ax Tyz61 (fun ay Z=>(wt (sr (fd 4 Tyf61_4 rfl (l1 1 (sl X W Y) Z Tya44 (m1 (.func (.func 57) #[] #[pp gr 0]) ?_)))))))))
 have ab:=p234501 Z
 obtain ⟨aR,az,h⟩:=ob h
 refine cp ([sl X W Y,.func (.func 57) #[] #[pp gr 0]]) Tyb53 (IH1005323 az (hG.mono kr) aw ac ad ae af ag ah ai aj (Nat.le_trans hbr Z.size) (pt ab)) ?_ ?_
 ·rintro _ aS ⟨d,aT,j,m,rfl,rfl,u,am⟩
  have aA:=ca u ab
  refine fd 4 Tyf61_4 rfl (sI 5 (sl j d m) ((vE a b c t j d m).toArray) aA Tys44 rfl rfl (fun aU v=>(wt (sr (m1 (.func (.func 57) #[] #[pp gr 0]) (lN 5 (vE a b c t j d m) v Tya61 Tys61 ?_))))))
  obtain ⟨aV,aB,h⟩:=ob h
  refine clP (caps:=#[pp gr 0]) (vs:=[.agg (vE a b c t j d m).toArray,pp gr 0]) rfl Tyb57 rfl ((f1005718_ok k) aB (hG.mono u.sub) (RDExpr.intro ak am) (mf ac u.sub) ad (mp ae u.sub) (ms af u.sub) (ag.mono (fun _ _ h=>h)) ah (StkR.mono (fun _ _ h=>h) ai) aj (Nat.le_trans hbr v.size) (pt v)) ?_ ?_
  ·rintro _ aW ⟨o,an,rfl,rfl,ao⟩
   have aE:=ca ao v
   refine fd 3 Tyf61_3 rfl (sI 5 (iI o) ((vE a b c o j d m).toArray) aE Tys3 rfl rfl (fun aX ap=>(wt (sr (lN 5 (vE a b c o j d m) ap Tya61 Tys61 (sI 4 (.agg (vE a b c o j d m).toArray) ((vE a b c o j d m).toArray) ap Tys61 rfl rfl (fun aF aG=>?_)))))))
   have aq:SR K an wi aF [.box bsr gr #[pp g 0] 80,.box bs g (vR x w y z B A C D G I N J O p e q r f s V).toArray 84,.row br (sl p e q) 9 1 e.length S,.stk br (sl r f s) 81 f.length U] [.box bsr gr #[pp g 0] 80,.box bs g (vR x w y z B A C D G I N J O p e q r f s V).toArray 84,.row br (sl p e q) 9 1 e.length S,.stk br (sl r f s) 81 f.length U,.box (zz wi) (zz al) (vE a b c o j d m).toArray 61,.box (zz wi) (zz wi) (vE a b c o j d m).toArray 61]:=aG
   exact wt (wp_ret (retP (retA1 rfl (resN (i:=4) (l:=(vE a b c o j d m)) aq rfl Tya61 Tys61 rfl rfl rfl) ⟨(DExpr.mk a b c o d),an,(vE a b c o j d m),(oi h).symm,rfl,(aq.sel [0,1,2,3]),(RDExpr.intro ak (me am ao.sub))⟩)))
  ·rintro _ aY ⟨aH,aI,rfl,rfl,aJ⟩
   have aK:=ca aJ v
   exact thenP (panE (.inr ⟨_,rfl,aH,aI,(oi h).symm,rfl,aK.sel []⟩))
 ·rintro _ aZ ⟨aL,aM,rfl,rfl,aN⟩
  have aP:=ca aN ab
  exact thenP (panE (.inr ⟨_,rfl,aL,aM,(oi h).symm,rfl,aP.sel []⟩))
theorem fam1005323_ok (k0:Nat) : ∀ k,f1005323_spec (fam1005323 k0 k).f1005323∧f1005923_spec (fam1005323 k0 k).f1005923:=by
 intro k
 induction k with
 | zero=>exact ⟨(by unfold f1005323_spec; intro _ _ _ _ _ _ _ _ _ _ _ _ _ _ _ _ _ _ _ _ _ _ _ _ _ _ _ _ _ _ _ _ _ h_; cases h_),(by unfold f1005923_spec; intro _ _ _ _ _ _ _ _ _ _ _ _ _ _ _ _ _ _ _ _ _ _ _ _ _ _ _ _ _ _ _ _ h_; cases h_)⟩
 | succ k ih=>exact ⟨f1005323_b_ok k0 (fam1005323 k0 k) ih.1 ih.2,f1005923_b_ok k0 (fam1005323 k0 k) ih.1 ih.2⟩
theorem f1005323_ok (k:Nat):f1005323_spec (f1005323 k):=(fam1005323_ok k k).1
theorem f1005923_ok (k:Nat):f1005923_spec (f1005923 k):=(fam1005323_ok k k).2
theorem f47_b_ok (k:Nat):f47_spec (f47_b k):=by
 unfold f47_spec
 intro K wi g bs br D G I J N O S U V W X Y Z ab ac ad ae af ag ah ai aj b c d r_ h hG j l m o p q r s hbr t a
 refine enter Tryd.func47 rfl (n:=8) rfl ?_
 unfold f47_b at h
 refine sr (bxoC (cs:=#[pp g 0]) a rfl rfl (fun ak a=>(m2 nS (wt (sr (m1 (sl c b d) (mkf (us:=[]) (vs:=[pp (zz wi) 0]) rfl rfl ?_)))))))
 obtain ⟨al,u,h⟩:=ob h
 refine cp ([sl c b d,.func (.func 57) #[] #[pp (zz wi) 0]]) Tyb53 ((f1005323_ok k) u (hG.mono kr) t j l m o p q r s (Nat.le_trans hbr a.size) (pt a)) ?_ ?_
 ·rintro _ am ⟨e,v,f,i,rfl,rfl,w,x⟩
  have y:=ca w a
  exact m2 (sl f e i) (wt (wp_ret (retP (retA1 rfl (resT rfl) ⟨e,v,f,i,(oi h).symm,rfl,(y.sel [1,2,3]),x⟩))))
 ·rintro _ an ⟨z,A,rfl,rfl,B⟩
  have C:=ca B a
  exact thenP (panE (.inr ⟨_,rfl,z,A,(oi h).symm,rfl,C.sel []⟩))
theorem f47_ok (k:Nat):f47_spec (f47 k):=f47_b_ok k
theorem f1005844_b_ok (k:Nat):f1005844_spec (f1005844_b k):=by
 unfold f1005844_spec
 intro K wi s ad gr bsr g bs t u x c y z A B C D G I J N O S U V W X Y ae h hG Z af ag ah ai aj ak al ab
 obtain ⟨r_,hr_,h⟩:=rz h
 obtain ⟨b,d,e,f,j,l⟩:=s
 obtain ⟨m,o,p,q,rfl,am,an,ao⟩:=RDFunc.open Z
 refine enter Tryd.func58 rfl (n:=11) rfl ?_
 unfold f1005844_b at h
 refine sr (bxoC (cs:=(vF b m d o e f j p l q).toArray) ab rfl rfl (fun ap ac=>(m2 vN (wt (wp_seq (have a:=ac.drew;(regAny (E:=[]) (F:=FW K [.box (zz wi) (zz wi) (vF b m d o e f j p l q).toArray 34,.box bsr gr #[pp g 0] 101,.box bs g (vS t u x c y z B A C G D I N J O U S V X W Y).toArray 47]) (L:=(lb 8 0)) ymx rfl rfl (tk 0 (pp (zz wi) 0) (lb 8 1) rfl (fun w=>fld_r (o':=0) Tyf34_0 rfl rfl) (heldF (fq [0,1,2] a)) (tf 1 (.string b) ([]) (lb 8 3) rfl (fq [0,1,2] a) (fun w hF=>lb1_r (i:=0) (v:=.string b) hF rfl Tya9 rfl rfl) (tf 2 (pp g 0) ([]) (lb 8 7) rfl (fq [0,1,2] a) (fun w hF=>lb1_r (i:=1) (v:=pp g 0) hF rfl Tya101 rfl rfl) (tk 3 (pp g 0) (lb 8 15) rfl (fun w=>nilc_r rfl) (heldF (fq [0,1,2] a)) (tk 4 (pp g 3) (lb 8 31) rfl (fun w=>fld_r (o':=3) Tyf47_3 rfl rfl) (heldF (fq [0,1,2] a)) (tf 5 (.string c) ([]) (lb 8 63) rfl (fq [0,1,2] a) (fun w hF=>lb1_r (i:=2) (v:=.string c) hF rfl Tya9 rfl rfl) (tk 6 (.bool (seq b c)) (lb 8 127) rfl (fun w=>bsc_r (r:=(seq b c)) rfl rfl rfl) (heldF (fq [0,1,2] a)) (tk 7 (.bool (seq b c)) (lb 8 255) rfl (fun w=>asg_r (v:=.bool (seq b c)) rfl) (heldF (fq [0,1,2] a)) (aD (thenN (wp_ret ?_))))))))))))))))))
 cases (oi h).trans hr_
 exact retA1 rfl (resT rfl) ⟨K,rfl,(a.sel [1,2])⟩
theorem f1005844_ok (k:Nat):f1005844_spec (f1005844 k):=f1005844_b_ok k
theorem f1003670_b_ok (k:Nat):f1003670_spec (f1003670_b k):=by
 unfold f1003670_spec
 intro K wi e X Y gr bsr g bs m p q s t u x D G y I J z N O A S U B V W aL h hG ac av aw ax ay az aA aB aE
 obtain ⟨r_,hr_,h⟩:=rz h
 refine enter Tryd.func36 rfl (n:=19) rfl ?_
 unfold f1003670_b at h
 refine sr (m2 (iI 0) (wt (wp_seq (sr (m1 (sl X e Y) (lS e.length Tye22 (m1 (iI 0) (wt (wp_block (wp_loopG (fun g_ a w=>∃ ad C f,∃ (c:Nat),g_=f.length∧a=fr 19 (updL ad [(0,sl X e Y),(1,.func (.func 58) #[] #[pp gr 0]),(7,iI (e.length:Int)),(8,iI (c:Int))])∧KH.sub K C∧SR K C wi w [.box bsr gr #[pp g 0] 101,.box bs g (vS m p q s t u D x G I y J N z O S A U V B W).toArray 47] [.box bs g (vS m p q s t u D x G I y J N z O S A U V B W).toArray 47,.box bsr gr #[pp g 0] 101]∧e.drop c=f∧f1003670_l1 k m p q s t u x y z A B f c=some r_) e.length ?_ ?_))))))))))
 ·exact ⟨_,K,e,0,rfl,fR,kr,(aE.sel [1,0]),List.drop_zero,h⟩
 ·rintro _ _ aF ⟨ad,C,f,c,rfl,rfl,d,Z,l,h⟩
  rcases f with _ | ⟨⟨ae,af,ag,ah,ai,aj⟩,f⟩
  ·unfold f1003670_l1 at h
   refine sr (bcm (r:=false) rfl rfl (congrArg some (drop_nil_lt l)) (wt (wp_seq (cndF rfl (wp_exit (thenX (thenX (blkX (thenN (sr (m2 (iI (-1)) (wt (wp_ret ?_)))))))))))))
   cases (oi h).trans hr_
   exact retA1 rfl (resT rfl) ⟨C,rfl,(Z.sel [1,0])⟩
  ·unfold f1003670_l1 at h
   refine sr (bcm (r:=true) rfl rfl (congrArg some (drop_cons_t l)) (wt (wp_seq (cndT rfl (wp_skip (thenN (wp_seq (wp_block (sr (m1 (iI (c:Int)) (m2 (iI (c:Int)) (wt (sr (m1 (.func (.func 58) #[] #[pp gr 0]) (m1 (sl X e Y) (m1 (iI (c:Int)) ?_))))))))))))))))
   obtain ⟨aG,aH,aM,aI,aN,aJ,ak⟩:=((mf ac d)).row.at_ (drop_cons_at l)
   obtain ⟨al,am,an,ao,rfl,aP,aQ,aR⟩:=RDFunc.open ak
   refine idxN (b:=aG) (o:=aH) (i:=c) Tye22 Tys34 rfl aI rfl (drop_cons_lt l) (lD (vF ae al af am ag ah ai an aj ao) Tya34 Tys34 rfl (fun j v hj=>Z.cell (kr.cell (aJ j v hj))) ?_)
   have ap:=p10 Z
   obtain ⟨aS,aK,h⟩:=ob h
   refine clV (caps:=#[pp gr 0]) (vs:=[.agg (vF ae al af am ag ah ai an aj ao).toArray,pp gr 0]) rfl Tyb58 rfl ((f1005844_ok k) aK (hG.mono d) ak av aw (me ax d) (ms ay d) (ms az d) (ms aA d) (mc aB d) (pt ap)) ?_
   rintro _ aT ⟨aq,rfl,ar⟩
   have au:=ca ar ap
   refine wt (cd h (fun ab h=>?_) (fun ab h=>?_))
   ·refine cT ab (sr (m1 (iI (c:Int)) (m2 (iI (c:Int)) (wt (wp_ret (blkR (thenR (thenR (blkR (thenR ?_))))))))))
    cases (oi h).trans hr_
    exact retA1 rfl (resT rfl) ⟨aq,rfl,au⟩
   ·exact cF ab (wp_skip (blkN (thenN (wp_region_lit (bar (r:=((c + 1:Nat):Int)) rfl rfl (inc_ok (le_big (((mf ac d)).len) (by decide) (drop_cons_lt l))) (m1 (iI ((c + 1:Nat):Int)) (wt (⟨_,Nat.lt_succ_self _,_,aq,f,c + 1,rfl,fR,(d.trans ar.sub),(au.sel [1,0]),drop_cons_next l,h⟩))))))))
theorem f1003670_ok (k:Nat):f1003670_spec (f1003670 k):=f1003670_b_ok k
theorem f49_b_ok (k:Nat):f49_spec (f49_b k):=by
 unfold f49_spec
 intro K wi g bs br A B C I J N O S U V W X Y a u x Z c y z ab ac gA bsA sA_0 sA_1 sA_2 sA_3 sA_4 sA_5 sA_6 AsA_6 csA_6 sA_7 AsA_7 csA_7 sA_8 AsA_8 csA_8 sA_9 AsA_9 csA_9 sA_10 AsA_10 csA_10 r_ h hG al au av aw ax ay az aA hbr hsA_1 hsA_3 hsA_6 hsA_7 hsA_8 hsA_9 hsA_10 aj
 refine enter Tryd.func49 rfl (n:=47) rfl ?_
 unfold f49_b at h
 refine sr (bxoC (cs:=#[pp gA 0]) aj rfl rfl (fun aB aj=>(wt (sr (m1 (pp g 0) (nilc rfl (fd 0 Tyf84_0 rfl (fd 0 Tyf24_0 rfl (l1 1 (sl B A C) aj Tya22 (mkf (us:=[]) (vs:=[pp (zz wi) 0]) rfl rfl ?_))))))))))
 have aq:=p04123 aj
 obtain ⟨q,aE,h⟩:=ob h
 refine cv ([sl B A C,.func (.func 58) #[] #[pp (zz wi) 0]]) Tyb36 ((f1003670_ok k) aE (hG.mono kr) al hsA_1 hsA_3 hsA_6 hsA_7 hsA_8 hsA_9 hsA_10 (pt aq)) ?_
 rintro _ a6 ⟨a7,rfl,d⟩
 have am:=ca d aq
 refine m2 (iI q) (wt (sr (m1 (iI q) (c0 (decide (q ≥ 0)) ?_))))
 obtain ⟨a8,aF,h⟩:=ob h
 refine cp ([.bool (decide (q ≥ 0)),iI 20]) Tyb25 ((f25_ok k) aF (hG.mono d.sub) (pt am)) ?_ ?_
 ·rintro _ ak ⟨aG,rfl,rfl,e⟩
  have an:=ca e am
  refine wt (sr (m1 (pp g 0) (nilc rfl (fd 0 Tyf84_0 rfl (fd 0 Tyf24_0 rfl (l1 2 (sl B A C) an Tya22 (m1 (iI q) ?_)))))))
  obtain ⟨⟨ad,f,ae,s,af,ag⟩,ao,h⟩:=ob h
  obtain ⟨aH,aI,a9,aJ,ba,aK,aL⟩:=((mf al (d.sub.trans e.sub))).row.at_ (idxO_at ao).1
  obtain ⟨D,G,ah,ai,rfl,bb,bd,be⟩:=RDFunc.open aL
  refine idxG (b:=aH) (o:=aI) (i:=q) Tye22 Tys34 rfl aJ rfl (idxO_at ao).2.1 (idxO_at ao).2.2 (lD (vF ad D f G ae s af ah ag ai) Tya34 Tys34 rfl (fun j v hj=>an.cell (kr.cell (aK j v hj))) (aC zF.toArray an Tyz34 (fun bf aM=>(sI 0 (.agg (vF ad D f G ae s af ah ag ai).toArray) ((vF ad D f G ae s af ah ag ai).toArray) aM Tys34 rfl rfl (fun bg aN=>(wt (wp_seq (have m:=aN.drew;(regAny (E:=[]) (F:=FW aG [.box (zz wi) (zz ak) (vF ad D f G ae s af ah ag ai).toArray 34,.box (zz wi) (zz wi) #[pp gA 0] 101,.box bsA gA (vS sA_0 sA_1 sA_2 sA_3 sA_4 sA_5 AsA_6 sA_6 csA_6 AsA_7 sA_7 csA_7 AsA_8 sA_8 csA_8 AsA_9 sA_9 csA_9 AsA_10 sA_10 csA_10).toArray 47,.box bs g (vR B A C I N J O S U V X W Y u a x y c z ac).toArray 84,.row br (sl u a x) 9 1 a.length Z,.stk br (sl y c z) 81 c.length ab]) (L:=(lb 9 0)) ymx rfl rfl (tk 0 (pp (zz ak) 3) (lb 9 1) rfl (fun w=>fld_r (o':=3) Tyf34_3 rfl rfl) (heldF (fq [0,1,2,3,4,5] m)) (tf 1 (.bool s) ([]) (lb 9 3) rfl (fq [0,1,2,3,4,5] m) (fun w hF=>lb1_r (i:=0) (v:=.bool s) hF rfl Tya4 rfl rfl) (tf 2 (pp gA 0) ([]) (lb 9 7) rfl (fq [0,1,2,3,4,5] m) (fun w hF=>lb1_r (i:=1) (v:=pp gA 0) hF rfl Tya101 rfl rfl) (tk 3 (pp gA 0) (lb 9 15) rfl (fun w=>nilc_r rfl) (heldF (fq [0,1,2,3,4,5] m)) (tk 4 (pp gA 0) (lb 9 31) rfl (fun w=>fld_r (o':=0) Tyf47_0 rfl rfl) (heldF (fq [0,1,2,3,4,5] m)) (tf 5 (iI sA_0) ([]) (lb 9 63) rfl (fq [0,1,2,3,4,5] m) (fun w hF=>lb1_r (i:=2) (v:=iI sA_0) hF rfl Tya3 rfl rfl) (tk 6 (.bool (sA_0 == 28)) (lb 9 127) rfl (fun w=>bcm_r (r:=(sA_0 == 28)) rfl rfl rfl) (heldF (fq [0,1,2,3,4,5] m)) (tk 7 (.bool (s == (sA_0 == 28))) (lb 9 255) rfl (fun w=>bbo_r (r:=(s == (sA_0 == 28))) Tyo4 rfl rfl rfl) (heldF (fq [0,1,2,3,4,5] m)) (aO 8 rfl ?_))))))))))))))))))
  obtain ⟨bh,aP,h⟩:=ob h
  refine cp ([.bool (s == (sA_0 == 28)),iI 25]) Tyb25 ((f25_ok k) aP (hG.mono (d.sub.trans e.sub)) (pt m)) ?_ ?_
  ·rintro _ bi ⟨aQ,rfl,rfl,p⟩
   have ar:=ca p m
   refine wt ⟨heldF (fwOf (is:=[0,1,2,3,4,5]) ar p.sub rfl),aD (thenN (wp_seq (have l:=ar.drew;(regAny (E:=[]) (F:=FW aQ [.box (zz wi) (zz ak) (vF ad D f G ae s af ah ag ai).toArray 34,.box (zz wi) (zz wi) #[pp gA 0] 101,.box bsA gA (vS sA_0 sA_1 sA_2 sA_3 sA_4 sA_5 AsA_6 sA_6 csA_6 AsA_7 sA_7 csA_7 AsA_8 sA_8 csA_8 AsA_9 sA_9 csA_9 AsA_10 sA_10 csA_10).toArray 47,.box bs g (vR B A C I N J O S U V X W Y u a x y c z ac).toArray 84,.row br (sl u a x) 9 1 a.length Z,.stk br (sl y c z) 81 c.length ab]) (L:=(lb 10 0)) ymx rfl rfl (tk 0 (pp (zz ak) 1) (lb 10 1) rfl (fun w=>fld_r (o':=1) Tyf34_1 rfl rfl) (heldF (fq [0,1,2,3,4,5] l)) (tf 1 (sl D f G) ([]) (lb 10 3) rfl (fq [0,1,2,3,4,5] l) (fun w hF=>lb1_r (i:=0) (v:=sl D f G) hF rfl Tya31 rfl rfl) (tk 2 (iI (f.length:Int)) (lb 10 7) rfl (fun w=>lnS_r (len:=f.length) Tye31 rfl) (heldF (fq [0,1,2,3,4,5] l)) (tf 3 (pp gA 0) ([]) (lb 10 15) rfl (fq [0,1,2,3,4,5] l) (fun w hF=>lb1_r (i:=1) (v:=pp gA 0) hF rfl Tya101 rfl rfl) (tk 4 (pp gA 0) (lb 10 31) rfl (fun w=>nilc_r rfl) (heldF (fq [0,1,2,3,4,5] l)) (tk 5 (pp gA 6) (lb 10 63) rfl (fun w=>fld_r (o':=6) Tyf47_6 rfl rfl) (heldF (fq [0,1,2,3,4,5] l)) (tf 6 (sl AsA_6 sA_6 csA_6) ([]) (lb 10 127) rfl (fq [0,1,2,3,4,5] l) (fun w hF=>lb1_r (i:=2) (v:=sl AsA_6 sA_6 csA_6) hF rfl Tya44 rfl rfl) (tk 7 (iI (sA_6.length:Int)) (lb 10 255) rfl (fun w=>lnS_r (len:=sA_6.length) Tye44 rfl) (heldF (fq [0,1,2,3,4,5] l)) (tk 8 (.bool ((f.length:Int) == (sA_6.length:Int))) (lb 10 511) rfl (fun w=>bcm_r (r:=((f.length:Int) == (sA_6.length:Int))) rfl rfl rfl) (heldF (fq [0,1,2,3,4,5] l)) (aO 9 rfl ?_))))))))))))))⟩
   obtain ⟨bj,aR,h⟩:=ob h
   refine cp ([.bool ((f.length:Int) == (sA_6.length:Int)),iI 24]) Tyb25 ((f25_ok k) aR (hG.mono ((d.sub.trans e.sub).trans p.sub)) (pt l)) ?_ ?_
   ·rintro _ bk ⟨aS,rfl,rfl,t⟩
    have ap:=ca t l
    exact wt ⟨heldF (fwOf (is:=[0,1,2,3,4,5]) ap t.sub rfl),aD (thenN (wp_region_lit (l1 1 (pp gA 0) ap Tya101 (m1 (iI q) (nilc rfl (fd 4 Tyf47_4 rfl (sI 2 (iI q) ((vS sA_0 sA_1 sA_2 sA_3 q sA_5 AsA_6 sA_6 csA_6 AsA_7 sA_7 csA_7 AsA_8 sA_8 csA_8 AsA_9 sA_9 csA_9 AsA_10 sA_10 csA_10).toArray) ap Tys3 rfl rfl (fun bm aT=>(wpList_nil (retP (end0 rfl ⟨A,I,J,S,U,V,W,a,c,ac,sA_0,sA_1,sA_2,sA_3,q,sA_5,sA_6,sA_7,sA_8,sA_9,sA_10,aS,B,C,N,O,X,Y,u,x,Z,y,z,ab,AsA_6,csA_6,AsA_7,csA_7,AsA_8,csA_8,AsA_9,csA_9,AsA_10,csA_10,(oi h).symm,rfl,(aT.sel [3,4,5,2]),(mf al (((d.sub.trans e.sub).trans p.sub).trans t.sub)),au,(mp av (((d.sub.trans e.sub).trans p.sub).trans t.sub)),(ms aw (((d.sub.trans e.sub).trans p.sub).trans t.sub)),(ax.mono (fun _ _ h=>h)),ay,(StkR.mono (fun _ _ h=>h) az),aA,hsA_1,hsA_3,(me hsA_6 (((d.sub.trans e.sub).trans p.sub).trans t.sub)),(ms hsA_7 (((d.sub.trans e.sub).trans p.sub).trans t.sub)),(ms hsA_8 (((d.sub.trans e.sub).trans p.sub).trans t.sub)),(ms hsA_9 (((d.sub.trans e.sub).trans p.sub).trans t.sub)),(mc hsA_10 (((d.sub.trans e.sub).trans p.sub).trans t.sub))⟩)))))))))))⟩
   ·rintro _ bn ⟨aU,aV,rfl,rfl,aW⟩
    have aX:=ca aW l
    exact thenP (thenP (panE (.inr ⟨_,rfl,aU,aV,(oi h).symm,rfl,aX.sel []⟩)))
  ·rintro _ bo ⟨aY,aZ,rfl,rfl,a0⟩
   have a1:=ca a0 m
   exact thenP (thenP (panE (.inr ⟨_,rfl,aY,aZ,(oi h).symm,rfl,a1.sel []⟩)))
 ·rintro _ bp ⟨a2,a3,rfl,rfl,a4⟩
  have a5:=ca a4 am
  exact thenP (panE (.inr ⟨_,rfl,a2,a3,(oi h).symm,rfl,a5.sel []⟩))
theorem f49_ok (k:Nat):f49_spec (f49 k):=f49_b_ok k
theorem f39_b_ok (k:Nat) (F:Fam39) (IH39:f39_spec F.f39) (IH1004815:f1004815_spec F.f1004815) (IH1004866:f1004866_spec F.f1004866) (IH1004884:f1004884_spec F.f1004884) (IH1005015:f1005015_spec F.f1005015) (IH1005066:f1005066_spec F.f1005066):f39_spec (f39_b k F):=by
 unfold f39_spec
 intro K wi g bs br an ao ap aq ar au av aw ax ay az aA aB d q s aE f t u aF aG h9 qj r_ h hG d9 ea ec ed ee ef eg eh hbr ia ib
 obtain ⟨aR,a2,a3,aS,a4,a5,ei,a6,a7,a8,bb⟩:=h9
 obtain ⟨ej,ek,be,bf,bg,bh,bi,bj,bL,bM,rfl,e4,e5,ic,e6,e7,e8,el⟩:=RDStmt.open ia
 refine enter Tryd.func39 rfl (n:=184) rfl ?_
 unfold f39_b at h
 refine sr (bxoC (cs:=(vS aR a2 a3 aS a4 a5 ej ei ek be a6 bf bg a7 bh bi a8 bj bL bb bM).toArray) ib rfl rfl (fun ak id=>(aC zS.toArray id Tyz47 (fun ie e9=>(wt (sr (m1 (pp g 0) (fd 6 Tyf47_6 rfl (l1 1 (sl ej ei ek) e9 Tya44 ?_)))))))))
 have fa:=p23401 e9
 obtain ⟨qk,ig,h⟩:=ob h
 refine cp ([pp g 0,sl ej ei ek]) Tyb47 ((f47_ok k) ig (hG.mono kr) d9 ea ec ed ee ef eg eh (Nat.le_trans hbr e9.size) ic (pt fa)) ?_ ?_
 ·rintro _ ql ⟨bd,cZ,bk,bm,rfl,rfl,z,fb⟩
  have ih:=ca z fa
  refine fd 6 Tyf47_6 rfl (sI 4 (sl bk bd bm) ((vS aR a2 a3 aS a4 a5 bk bd bm be a6 bf bg a7 bh bi a8 bj bL bb bM).toArray) ih Tys44 rfl rfl (fun ii cH=>(wt (wp_seq (sr (fd 0 Tyf47_0 rfl (l1 4 (iI aR) cH Tya3 (c0 (aR == 27) (wt (cd h (fun fc h=>?_) (fun fc h=>?_)))))))))))
  ·refine cT fc (sr (m2 nS (wt (wp_seq (sr (fd 10 Tyf47_10 rfl (l1 4 (sl bL bb bM) cH Tya45 (lS bb.length Tye45 (m1 (iI 0) (wt (wp_block ?_)))))))))))
   have ij:=cH.row_ (zz wi) 56 5
   refine wp_loopG (fun g_ a w=>∃ gK bN cI,∃ (co:Nat),∃ c2 dG dH c4 c5 dI dJ dK dL dM c7 dN dO bO c8 da dP bP db dc dQ dR al bn bo dS,g_=cI.length∧a=fr 184 (updL gK [(0,pp g 0),(3,pp (zz wi) 0),(4,pp (zz ak) 0),(5,sl bn al bo),(19,sl bL bb bM),(20,iI (bb.length:Int)),(21,iI (co:Int))])∧KH.sub cZ bN∧SR K bN wi w [.box bs g (vR ao an ap aq au ar av aw ax ay aA az aB q d s t f u aG).toArray 84,.row br (sl q d s) 9 1 d.length aE,.stk br (sl t f u) 81 f.length aF] [.box bs g (vR dG c2 dH c4 dI c5 dJ dK dL dM dN c7 dO c8 bO da db bP dc dR).toArray 84,.box (zz wi) (zz wi) (vS aR a2 a3 aS a4 a5 bk bd bm be a6 bf bg a7 bh bi a8 bj bL bb bM).toArray 47,.box (zz wi) (zz ak) zS.toArray 47,.row br (sl c8 bO da) 9 1 bO.length dP,.stk br (sl db bP dc) 81 bP.length dQ,.row (zz wi) (sl bn al bo) 56 5 al.length dS]∧bb.drop co=cI∧tF bN dG dH c2∧c4.size ≤ mB∧tP bN dI dJ c5∧tS bN dN dO c7∧Reps RStr 1 bO dP∧bO.length * 16 ≤ mB∧StkR kS VInt bP dQ∧bP.length * 8 ≤ mB∧Reps (RDCase bN) 5 al dS∧al.length * 80 ≤ mB∧f39_l1 k F aR a2 a3 aS a4 a5 a6 a7 a8 bd cI co c2 c4 c5 dK dL dM c7 bO bP dR al=some r_) bb.length ?_ ?_
   ·exact ⟨_,cZ,bb,0,an,ao,ap,aq,ar,au,av,aw,ax,ay,az,aA,aB,d,q,s,aE,f,t,u,aF,aG,([]:LC),none,0,[],rfl,fR,kr,(ij.sel [1,5,4,2,3,0]),List.drop_zero,(mf d9 z.sub),ea,(mp ec z.sub),(ms ed z.sub),(ee.mono (fun _ _ h=>h)),ef,(StkR.mono (fun _ _ h=>h) eg),eh,(reps0 (R:=(RDCase cZ)) (size:=5)),(by simp),h⟩
   ·rintro _ _ em ⟨gK,bN,cI,co,c2,dG,dH,c4,c5,dI,dJ,dK,dL,dM,c7,dN,dO,bO,c8,da,dP,bP,db,dc,dQ,dR,al,bn,bo,dS,rfl,rfl,ce,fe,dd,ff,fg,fh,fi,fj,fk,fl,fm,gL,ik,h⟩
    rcases cI with _ | ⟨⟨dT,cJ,dU,de,cK⟩,cI⟩
    ·unfold f39_l1 at h
     refine sr (bcm (r:=false) rfl rfl (congrArg some (drop_nil_lt dd)) (wt (wp_seq (cndF rfl (wp_exit (thenX (thenX (blkX (thenN (sr (m1 (sl bn al bo) (fd 10 Tyf47_10 rfl (sI 1 (sl bn al bo) ((vS aR a2 a3 aS a4 a5 bk bd bm be a6 bf bg a7 bh bi a8 bj bn al bo).toArray) fe Tys45 rfl rfl (fun qm gM=>(wt (sr (lN 1 (vS aR a2 a3 aS a4 a5 bk bd bm be a6 bf bg a7 bh bi a8 bj bn al bo) gM Tya47 Tys47 (sI 2 (.agg (vS aR a2 a3 aS a4 a5 bk bd bm be a6 bf bg a7 bh bi a8 bj bn al bo).toArray) ((vS aR a2 a3 aS a4 a5 bk bd bm be a6 bf bg a7 bh bi a8 bj bn al bo).toArray) gM Tys47 rfl rfl (fun qn gN=>(wt (wp_ret (thenR ?_))))))))))))))))))))))
     obtain ⟨il,im,cL,io⟩:=shutI (i:=5) (bytes:=80) (R:=fun K=>(RDCase K)) gN rfl (Nat.le_refl _) gL ik (fun hs=>(fun _ _ h=>RDCase.mono hs h))
     exact retP (retA1 rfl (resN (i:=2) (l:=(vS aR a2 a3 aS a4 a5 bk bd bm be a6 bf bg a7 bh bi a8 bj bn al bo)) gN rfl Tya47 Tys47 rfl rfl rfl) ⟨c2,c4,c5,dK,dL,dM,c7,bO,bP,dR,(DStmt.mk aR a2 a3 aS a4 a5 bd a6 a7 a8 al),il,dG,dH,dI,dJ,dN,dO,c8,da,dP,db,dc,dQ,(vS aR a2 a3 aS a4 a5 bk bd bm be a6 bf bg a7 bh bi a8 bj bn al bo),(oi h).symm,rfl,(im.sel [0,3,4]),(mf ff cL),fg,(mp fh cL),(ms fi cL),(fj.mono (fun _ _ h=>h)),fk,(StkR.mono (fun _ _ h=>h) fl),fm,(RDStmt.intro e4 e5 (me fb (ce.trans cL)) (ms e6 ((z.sub.trans ce).trans cL)) (ms e7 ((z.sub.trans ce).trans cL)) (ms e8 ((z.sub.trans ce).trans cL)) io)⟩)
    ·unfold f39_l1 at h
     refine sr (bcm (r:=true) rfl rfl (congrArg some (drop_cons_t dd)) (wt (wp_seq (cndT rfl (wp_skip (thenN (wp_seq (wp_block (sr ?_)))))))))
     obtain ⟨ip,iq,qo,ir,qp,it,iu⟩:=((mc el (z.sub.trans ce))).row.at_ (drop_cons_at dd)
     obtain ⟨df,dg,cM,cN,rfl,gO,iv,gP⟩:=RDCase.open iu
     refine idxN (b:=ip) (o:=iq) (i:=co) Tye45 Tys56 rfl ir rfl (drop_cons_lt dd) (lD (vC dT cJ dU df de dg cM cK cN) Tya56 Tys56 rfl (fun j v hj=>fe.cell (kr.cell (it j v hj))) (aC zC.toArray fe Tyz56 (fun qq iw=>(sI 0 (.agg (vC dT cJ dU df de dg cM cK cN).toArray) ((vC dT cJ dU df de dg cM cK cN).toArray) iw Tys56 rfl rfl (fun ix fn=>(wt (sr (m1 (pp g 0) (fd 3 Tyf56_3 rfl (l1 0 (sl df de dg) fn Tya44 ?_))))))))))
     have fo:=p1450236 fn
     obtain ⟨qr,iy,h⟩:=ob h
     refine cp ([pp g 0,sl df de dg]) Tyb47 ((f47_ok k) iy (hG.mono (z.sub.trans ce)) ff fg fh fi fj fk fl fm (Nat.le_trans hbr fn.size) iv (pt fo)) ?_ ?_
     ·rintro _ qs ⟨gQ,qt,gR,gT,rfl,rfl,cf,iz⟩
      have iA:=ca cf fo
      refine fd 3 Tyf56_3 rfl (sI 3 (sl gR gQ gT) ((vC dT cJ dU gR gQ gT cM cK cN).toArray) iA Tys44 rfl rfl (fun qu dh=>(wt (sr (m1 (pp g 0) (fd 1 Tyf56_1 rfl (l1 3 (.string cJ) dh Tya9 (fd 4 Tyf56_4 rfl (l1 3 (sl cM cK cN) dh Tya32 (fd 2 Tyf56_2 rfl ?_))))))))))
      obtain ⟨qv,iB,h⟩:=ob h
      refine cp ([pp g 0,.string cJ,sl cM cK cN,pp (zz em) 2]) Tyb48 (IH1004884 iB (hG.mono ((z.sub.trans ce).trans cf.sub)) (mf ff cf.sub) fg (mp fh cf.sub) (ms fi cf.sub) (fj.mono (fun _ _ h=>h)) fk (StkR.mono (fun _ _ h=>h) fl) fm (Nat.le_trans hbr dh.size) gO (ms gP cf.sub) gO iz (ms gP cf.sub) (pt dh)) ?_ ?_
      ·rintro _ qw ⟨fp,fs,ft,fu,fv,fx,fy,cO,cP,fz,bQ,bR,bS,bT,qx,bw,en,fA,fB,fC,fD,fE,fF,dV,dW,fG,dX,dY,fH,di,dj,qy,qz,cQ,cR,rfl,rfl,fI,iC,iD,iE,iF,iG,iH,iJ,iK,iL,iM,qA,iN⟩
       have iO:=ca fI dh
       refine fd 4 Tyf56_4 rfl (sI 3 (sl cQ bw cR) ((vC bQ bR bS di bT dj cQ bw cR).toArray) iO Tys32 rfl rfl (fun iP iQ=>?_))
       have gU:SR K en wi iP [.box bs g (vR ao an ap aq au ar av aw ax ay aA az aB q d s t f u aG).toArray 84,.row br (sl q d s) 9 1 d.length aE,.stk br (sl t f u) 81 f.length aF] [.box bs g (vR fA fp fB fs fC ft fD fu fv fx fE fy fF dV cO dW dX cP dY fz).toArray 84,.row br (sl dV cO dW) 9 1 cO.length fG,.stk br (sl dX cP dY) 81 cP.length fH,.box (zz wi) (zz em) (vC bQ bR bS di bT dj cQ bw cR).toArray 56,.box (zz wi) (zz wi) (vS aR a2 a3 aS a4 a5 bk bd bm be a6 bf bg a7 bh bi a8 bj bL bb bM).toArray 47,.box (zz wi) (zz ak) zS.toArray 47,.row (zz wi) (sl bn al bo) 56 5 al.length dS]:=iQ
       refine wt (wp_region_lit (m1 (sl bn al bo) (lN 3 (vC bQ bR bS di bT dj cQ bw cR) gU Tya56 Tys56 (bsl (e:=56) (cells:=(vC bQ bR bS di bT dj cQ bw cR).toArray) (vs:=[(0,.agg (vC bQ bR bS di bT dj cQ bw cR).toArray)]) gU rfl (buildSl_one Tye45 Tys56 Tyz56 rfl (by decide) (by decide) rfl) (fun qB iR=>?_)))))
       obtain ⟨gV,h⟩:=of_guard h
       refine apR (R:=(RDCase en)) (p:=(DCase.mk bQ bR bS bT bw)) (i:=7) (j:=0) iR rfl rfl Tye45 Tyi56 rfl (by decide) rfl rfl (gL.mono (fun _ _ h=>RDCase.mono (cf.sub.trans fI.sub) h)) (RDCase.intro iL iM iN) rfl rfl (Nat.le_refl _) gV (by decide) (fun fJ fK gW iS iT iU=>?_)
       have iV:=p1234567 iT
       exact m2 (.slice fJ (al ++ [(DCase.mk bQ bR bS bT bw)]).length fK) (wpList_nil (blkN (thenN (wp_region_lit (bar (r:=((co + 1:Nat):Int)) rfl rfl (inc_ok (le_big (((mc el (z.sub.trans ce))).len) (by decide) (drop_cons_lt dd))) (m1 (iI ((co + 1:Nat):Int)) (wt (⟨_,Nat.lt_succ_self _,_,en,cI,co + 1,fp,fA,fB,fs,ft,fC,fD,fu,fv,fx,fy,fE,fF,cO,dV,dW,fG,cP,dX,dY,fH,fz,(al ++ [(DCase.mk bQ bR bS bT bw)]),fJ,fK,gW,rfl,fR,((ce.trans cf.sub).trans fI.sub),(iV.sel [0,4,5,1,2,6]),drop_cons_next dd,iC,iD,iE,iF,iG,iH,iJ,iK,iU,(app_bound gV),h⟩))))))))
      ·rintro _ qC ⟨iW,iX,rfl,rfl,iY⟩
       have iZ:=ca iY dh
       exact thenP (blkP (thenP (thenP (blkP (thenP (thenP (panE (.inr ⟨_,rfl,iW,iX,(oi h).symm,rfl,iZ.sel []⟩))))))))
     ·rintro _ qD ⟨i0,i1,rfl,rfl,i2⟩
      have i3:=ca i2 fo
      exact thenP (blkP (thenP (thenP (blkP (thenP (thenP (panE (.inr ⟨_,rfl,i0,i1,(oi h).symm,rfl,i3.sel []⟩))))))))
  ·refine cF fc (wp_skip (thenN (wp_cut (fun a w=>∃ gX S aJ aT aU aK aL aV aW ai aI aP aM aX aY x ae af aZ y ag ah a0 aH c m am G U C A V W B I J D X Y N Z ab O ac ad,a=fr 184 (updL gX [(0,pp g 0),(3,pp (zz wi) 0),(4,pp (zz ak) 0)])∧KH.sub cZ S∧SR K S wi w [.box bs g (vR ao an ap aq au ar av aw ax ay aA az aB q d s t f u aG).toArray 84,.row br (sl q d s) 9 1 d.length aE,.stk br (sl t f u) 81 f.length aF] [.box bs g (vR aT aJ aU aK aV aL aW ai aI aP aX aM aY ae x af ag y ah aH).toArray 84,.box (zz wi) (zz wi) (vS c m am G U C V A W I B J X D Y Z N ab ac O ad).toArray 47,.box (zz wi) (zz ak) zS.toArray 47,.row br (sl ae x af) 9 1 x.length aZ,.stk br (sl ag y ah) 81 y.length a0]∧tF S aT aU aJ∧aK.size ≤ mB∧tP S aV aW aL∧tS S aX aY aM∧Reps RStr 1 x aZ∧x.length * 16 ≤ mB∧StkR kS VInt y a0∧y.length * 8 ≤ mB∧m.size ≤ mB∧G.size ≤ mB∧tE S V W A∧tS S I J B∧tS S X Y D∧tS S Z ab N∧tC S ac ad O∧f39_j1 k F aJ aK aL ai aI aP aM x y aH c m am G U C A B D N O=some r_) ?_ ?_)))
   ·refine sr (fd 3 Tyf47_3 rfl (l1 4 (.string aS) cH Tya9 (bsc (r:=(!seq aS ⟨#[]⟩)) rfl rfl rfl (wt (cd h (fun fL h=>?_) (fun fL h=>?_))))))
    ·refine cT fL (wp_region_lit (m1 (pp g 0) ?_))
     have fM:=p01243 cH
     obtain ⟨qE,i4,h⟩:=ob h
     refine cp ([pp g 0,pp (zz wi) 0]) Tyb49 ((f49_ok k) i4 (hG.mono z.sub) (mf d9 z.sub) ea (mp ec z.sub) (ms ed z.sub) (ee.mono (fun _ _ h=>h)) ef (StkR.mono (fun _ _ h=>h) eg) eh (Nat.le_trans hbr cH.size) e4 e5 fb (ms e6 z.sub) (ms e7 z.sub) (ms e8 z.sub) (mc el z.sub) (pt fM)) ?_ ?_
     ·rintro _ qF ⟨i5,i6,i7,i8,i9,ja,jb,jc,jd,je,jf,jg,jh,ji,jj,jk,jl,jm,jn,jo,jp,jq,jr,js,jt,ju,jv,jw,jx,jy,jz,jA,jB,jC,jD,jE,jF,jG,jH,jI,jJ,jK,jL,jM,rfl,rfl,gY,jN,jO,jP,jQ,jR,jS,jT,jU,jV,jW,jX,jY,jZ,j0,j1⟩
      have j2:=ca gY fM
      exact wt (⟨_,jq,i5,jr,js,i6,i7,jt,ju,i8,i9,ja,jb,jv,jw,jc,jx,jy,jz,jd,jA,jB,jC,je,jf,jg,jh,ji,jj,jk,jl,jD,jE,jm,jF,jG,jn,jH,jI,jo,jJ,jK,jp,jL,jM,fR,gY.sub,(j2.sel [0,3,4,1,2]),jN,jO,jP,jQ,jR,jS,jT,jU,jV,jW,jX,jY,jZ,j0,j1,h⟩)
     ·rintro _ qG ⟨j3,j4,rfl,rfl,j5⟩
      have j6:=ca j5 fM
      exact thenP (panE (.inr ⟨_,rfl,j3,j4,(oi h).symm,rfl,j6.sel []⟩))
    ·exact cF fL (wp_skip (thenN (⟨_,cZ,an,ao,ap,aq,ar,au,av,aw,ax,ay,az,aA,aB,d,q,s,aE,f,t,u,aF,aG,aR,a2,a3,aS,a4,a5,bd,bk,bm,a6,be,bf,a7,bg,bh,a8,bi,bj,bb,bL,bM,fR,kr,(cH.sel [0,4,3,1,2]),(mf d9 z.sub),ea,(mp ec z.sub),(ms ed z.sub),(ee.mono (fun _ _ h=>h)),ef,(StkR.mono (fun _ _ h=>h) eg),eh,e4,e5,fb,(ms e6 z.sub),(ms e7 z.sub),(ms e8 z.sub),(mc el z.sub),h⟩)))
   ·rintro _ j7 ⟨gX,S,aJ,aT,aU,aK,aL,aV,aW,ai,aI,aP,aM,aX,aY,x,ae,af,aZ,y,ag,ah,a0,aH,c,m,am,G,U,C,A,V,W,B,I,J,D,X,Y,N,Z,ab,O,ac,ad,rfl,a9,dk,bx,bz,bA,bB,bC,bD,bE,bF,ba,bG,bH,bp,bu,bI,bJ,h⟩
    unfold f39_j1 at h
    refine wp_cut (fun a w=>∃ gZ aQ ch bW ci bX cj ck bY cq cr bZ ct cu b0 cw cx b1 cy cz b2 cA cB dZ eo ep d0 d1 eq es et eu ew d2 ex ey cC ez eA eB cD eC eD eE eF,a=fr 184 (updL gZ [(3,pp (zz wi) 0),(4,pp (zz ak) 0)])∧KH.sub S aQ∧SR K aQ wi w [.box bs g (vR ao an ap aq au ar av aw ax ay aA az aB q d s t f u aG).toArray 84,.row br (sl q d s) 9 1 d.length aE,.stk br (sl t f u) 81 f.length aF] [.box (zz wi) (zz wi) (vS ch bW ci bX cj ck cq bY cr ct bZ cu cw b0 cx cy b1 cz cA b2 cB).toArray 47,.box (zz wi) (zz ak) zS.toArray 47,.box bs g (vR eo dZ ep d0 eq d1 es et eu ew ex d2 ey ez cC eA eC cD eD eF).toArray 84,.row br (sl ez cC eA) 9 1 cC.length eB,.stk br (sl eC cD eD) 81 cD.length eE]∧bW.size ≤ mB∧bX.size ≤ mB∧tE aQ cq cr bY∧tS aQ ct cu bZ∧tS aQ cw cx b0∧tS aQ cy cz b1∧tC aQ cA cB b2∧tF aQ eo ep dZ∧d0.size ≤ mB∧tP aQ eq es d1∧tS aQ ex ey d2∧Reps RStr 1 cC eB∧cC.length * 16 ≤ mB∧StkR kS VInt cD eE∧cD.length * 8 ≤ mB∧f39_j2 k F ch bW ci bX cj ck bY bZ b0 b1 b2 dZ d0 d1 et eu ew d2 cC cD eF=some r_) ?_ ?_
    ·refine sr (fd 0 Tyf47_0 rfl (l1 1 (iI c) dk Tya3 (wt (wp_block (sr (c0 (c == 2) (m2 (.bool (c == 2)) (wt (cd h (fun fN h=>?_) (fun fN h=>?_))))))))))
     ·refine cT fN (sr (m1 (pp g 0) (fd 1 Tyf47_1 rfl (l1 1 (.string m) dk Tya9 ?_))))
      have g0:=p03412 dk
      obtain ⟨⟨cS,d3⟩,j8,h⟩:=ob h
      refine cv ([pp g 0,.string m]) Tyb46 ((f46_ok k) j8 (hG.mono (z.sub.trans a9)) bx bz bA bB bC bD bE bF (Nat.le_trans hbr dk.size) ba (pt g0)) ?_
      rintro _ qH ⟨qJ,rfl,bU⟩
      have fO:=ca bU g0
      refine m1 (.tuple #[iI cS,.bool d3]) (ext (v:=iI cS) rfl rfl (ext (v:=.bool d3) rfl rfl (m2 (iI cS) (m2 (.bool d3) (wt (sr (m1 (.bool d3) ?_)))))))
      obtain ⟨qK,j9,h⟩:=ob h
      refine cp ([.bool d3,iI 20]) Tyb25 ((f25_ok k) j9 (hG.mono ((z.sub.trans a9).trans bU.sub)) (pt fO)) ?_ ?_
      ·rintro _ qL ⟨ka,rfl,rfl,b3⟩
       have kb:=ca b3 fO
       exact wt (wp_region_lit (m1 (iI cS) (fd 2 Tyf47_2 rfl (sI 3 (iI cS) ((vS c m cS G U C V A W I B J X D Y Z N ab ac O ad).toArray) kb Tys3 rfl rfl (fun qM kc=>(wpList_nil (blkN (thenN (⟨_,ka,c,m,cS,G,U,C,A,V,W,B,I,J,D,X,Y,N,Z,ab,O,ac,ad,aJ,aT,aU,aK,aL,aV,aW,ai,aI,aP,aM,aX,aY,x,ae,af,aZ,y,ag,ah,a0,aH,fR,(bU.sub.trans b3.sub),(kc.sel [3,4,0,1,2]),ba,bG,(me bH (bU.sub.trans b3.sub)),(ms bp (bU.sub.trans b3.sub)),(ms bu (bU.sub.trans b3.sub)),(ms bI (bU.sub.trans b3.sub)),(mc bJ (bU.sub.trans b3.sub)),(mf bx (bU.sub.trans b3.sub)),bz,(mp bA (bU.sub.trans b3.sub)),(ms bB (bU.sub.trans b3.sub)),(bC.mono (fun _ _ h=>h)),bD,(StkR.mono (fun _ _ h=>h) bE),bF,h⟩)))))))))
      ·rintro _ qN ⟨kd,ke,rfl,rfl,kf⟩
       have kg:=ca kf fO
       exact thenP (blkP (thenP (panE (.inr ⟨_,rfl,kd,ke,(oi h).symm,rfl,kg.sel []⟩))))
     ·refine cF fN (wp_cut (fun a w=>∃ g1 fP,a=fr 184 (updL g1 [(0,pp g 0),(3,pp (zz wi) 0),(4,pp (zz ak) 0),(52,iI c),(90,.bool fP)])∧SR K S wi w [.box bs g (vR ao an ap aq au ar av aw ax ay aA az aB q d s t f u aG).toArray 84,.row br (sl q d s) 9 1 d.length aE,.stk br (sl t f u) 81 f.length aF] [.box bs g (vR aT aJ aU aK aV aL aW ai aI aP aX aM aY ae x af ag y ah aH).toArray 84,.box (zz wi) (zz wi) (vS c m am G U C V A W I B J X D Y Z N ab ac O ad).toArray 47,.box (zz wi) (zz ak) zS.toArray 47,.row br (sl ae x af) 9 1 x.length aZ,.stk br (sl ag y ah) 81 y.length a0]∧f39_j3 k F aJ aK aL ai aI aP aM x y aH c m am G U C A B D N O fP=some r_) ?_ ?_)
      ·refine sr (c0 (c == 18) (m2 (.bool (c == 18)) (wt (cd h (fun fQ h=>?_) (fun fQ h=>?_)))))
       ·exact cT fQ (wp_skip (thenN (⟨_,(c == 18),fR,dk,h⟩)))
       ·exact cF fQ (wp_region_lit (c0 (c == 19) (m2 (.bool (c == 19)) (wt (⟨_,(c == 19),fR,dk,h⟩)))))
      ·rintro _ eG ⟨g1,fP,rfl,aj,h⟩
       unfold f39_j3 at h
       refine cd h (fun fS h=>?_) (fun fS h=>?_)
       ·refine cT fS (wp_region_lit (m1 (pp g 0) (nilc rfl (fd 9 Tyf84_4 rfl (l1 0 (iI aH) aj Tya3 (c0 (decide (aH > 0)) ?_))))))
        obtain ⟨qO,kh,h⟩:=ob h
        refine cp ([.bool (decide (aH > 0)),iI 22]) Tyb25 ((f25_ok k) kh (hG.mono (z.sub.trans a9)) (pt aj)) ?_ ?_
        ·rintro _ qP ⟨ki,rfl,rfl,b4⟩
         have kj:=ca b4 aj
         exact wpList_nil (blkN (thenN (⟨_,ki,c,m,am,G,U,C,A,V,W,B,I,J,D,X,Y,N,Z,ab,O,ac,ad,aJ,aT,aU,aK,aL,aV,aW,ai,aI,aP,aM,aX,aY,x,ae,af,aZ,y,ag,ah,a0,aH,fR,b4.sub,(kj.sel [1,2,0,3,4]),ba,bG,(me bH b4.sub),(ms bp b4.sub),(ms bu b4.sub),(ms bI b4.sub),(mc bJ b4.sub),(mf bx b4.sub),bz,(mp bA b4.sub),(ms bB b4.sub),(bC.mono (fun _ _ h=>h)),bD,(StkR.mono (fun _ _ h=>h) bE),bF,h⟩)))
        ·rintro _ qQ ⟨kk,kl,rfl,rfl,km⟩
         have kn:=ca km aj
         exact blkP (thenP (panE (.inr ⟨_,rfl,kk,kl,(oi h).symm,rfl,kn.sel []⟩)))
       ·refine cF fS (sr (c0 (c == 29) (m2 (.bool (c == 29)) (wt (cd h (fun fT h=>?_) (fun fT h=>?_))))))
        ·refine cT fT (wp_region_lit (m1 (pp g 0) (nilc rfl (fd 1 Tyf84_1 rfl (fd 4 Tyf34_3 rfl (l1 0 (.bool aI) aj Tya4 ?_))))))
         obtain ⟨qR,ko,h⟩:=ob h
         refine cp ([.bool aI,iI 22]) Tyb25 ((f25_ok k) ko (hG.mono (z.sub.trans a9)) (pt aj)) ?_ ?_
         ·rintro _ qS ⟨kp,rfl,rfl,b5⟩
          have kq:=ca b5 aj
          exact wpList_nil (blkN (thenN (⟨_,kp,c,m,am,G,U,C,A,V,W,B,I,J,D,X,Y,N,Z,ab,O,ac,ad,aJ,aT,aU,aK,aL,aV,aW,ai,aI,aP,aM,aX,aY,x,ae,af,aZ,y,ag,ah,a0,aH,fR,b5.sub,(kq.sel [1,2,0,3,4]),ba,bG,(me bH b5.sub),(ms bp b5.sub),(ms bu b5.sub),(ms bI b5.sub),(mc bJ b5.sub),(mf bx b5.sub),bz,(mp bA b5.sub),(ms bB b5.sub),(bC.mono (fun _ _ h=>h)),bD,(StkR.mono (fun _ _ h=>h) bE),bF,h⟩)))
         ·rintro _ qT ⟨ks,kt,rfl,rfl,ku⟩
          have kv:=ca ku aj
          exact blkP (thenP (panE (.inr ⟨_,rfl,ks,kt,(oi h).symm,rfl,kv.sel []⟩)))
        ·refine cF fT (sr (c0 (c == 17) (m2 (.bool (c == 17)) (wt (cd h (fun fU h=>?_) (fun fU h=>?_))))))
         ·refine cT fU (have bq:=aj.drew;(regAny (E:=[]) (F:=FW S [.box bs g (vR aT aJ aU aK aV aL aW ai aI aP aX aM aY ae x af ag y ah aH).toArray 84,.box (zz wi) (zz wi) (vS c m am G U C V A W I B J X D Y Z N ab ac O ad).toArray 47,.box (zz wi) (zz ak) zS.toArray 47,.row br (sl ae x af) 9 1 x.length aZ,.stk br (sl ag y ah) 81 y.length a0]) (L:=(lb 12 0)) ymx rfl rfl (tk 0 (pp (zz wi) 6) (lb 12 1) rfl (fun w=>fld_r (o':=6) Tyf47_6 rfl rfl) (heldF (fq [0,1,2,3,4] bq)) (tf 1 (sl V A W) ([]) (lb 12 3) rfl (fq [0,1,2,3,4] bq) (fun w hF=>lb1_r (i:=1) (v:=sl V A W) hF rfl Tya44 rfl rfl) (tk 2 (iI (A.length:Int)) (lb 12 7) rfl (fun w=>lnS_r (len:=A.length) Tye44 rfl) (heldF (fq [0,1,2,3,4] bq)) (tk 3 (.bool (decide ((A.length:Int) > 0))) (lb 12 15) rfl (fun w=>bcm_r (r:=(decide ((A.length:Int) > 0))) rfl rfl rfl) (heldF (fq [0,1,2,3,4] bq)) (tk 4 (pp g 0) (lb 12 31) rfl (fun w=>mv_r (v:=pp g 0) rfl) (heldF (fq [0,1,2,3,4] bq)) (tk 5 (pp g 0) (lb 12 63) rfl (fun w=>nilc_r rfl) (heldF (fq [0,1,2,3,4] bq)) (tk 6 (pp g 1) (lb 12 127) rfl (fun w=>fld_r (o':=1) Tyf84_1 rfl rfl) (heldF (fq [0,1,2,3,4] bq)) (tk 7 (pp g 3) (lb 12 255) rfl (fun w=>fld_r (o':=3) Tyf34_2 rfl rfl) (heldF (fq [0,1,2,3,4] bq)) (tf 8 (iI ai) ([]) (lb 12 511) rfl (fq [0,1,2,3,4] bq) (fun w hF=>lb1_r (i:=0) (v:=iI ai) hF rfl Tya3 rfl rfl) (tk 9 (.bool (ai != 0)) (lb 12 1023) rfl (fun w=>bcm_r (r:=(ai != 0)) rfl rfl rfl) (heldF (fq [0,1,2,3,4] bq)) (tk 10 (.bool ((decide ((A.length:Int) > 0)) == (ai != 0))) (lb 12 2047) rfl (fun w=>bbo_r (r:=((decide ((A.length:Int) > 0)) == (ai != 0))) Tyo4 rfl rfl rfl) (heldF (fq [0,1,2,3,4] bq)) (aO 11 rfl ?_))))))))))))))
          obtain ⟨qU,kw,h⟩:=ob h
          refine cp ([.bool ((decide ((A.length:Int) > 0)) == (ai != 0)),iI 22]) Tyb25 ((f25_ok k) kw (hG.mono (z.sub.trans a9)) (pt bq)) ?_ ?_
          ·rintro _ qV ⟨kx,rfl,rfl,bV⟩
           have g2:=ca bV bq
           exact wt ⟨heldF (fwOf (is:=[0,1,2,3,4]) g2 bV.sub rfl),aD (blkN (thenN (⟨_,kx,c,m,am,G,U,C,A,V,W,B,I,J,D,X,Y,N,Z,ab,O,ac,ad,aJ,aT,aU,aK,aL,aV,aW,ai,aI,aP,aM,aX,aY,x,ae,af,aZ,y,ag,ah,a0,aH,fR,bV.sub,(g2.sel [1,2,0,3,4]),ba,bG,(me bH bV.sub),(ms bp bV.sub),(ms bu bV.sub),(ms bI bV.sub),(mc bJ bV.sub),(mf bx bV.sub),bz,(mp bA bV.sub),(ms bB bV.sub),(bC.mono (fun _ _ h=>h)),bD,(StkR.mono (fun _ _ h=>h) bE),bF,h⟩)))⟩
          ·rintro _ qW ⟨ky,kz,rfl,rfl,kA⟩
           have kB:=ca kA bq
           exact thenP (blkP (thenP (panE (.inr ⟨_,rfl,ky,kz,(oi h).symm,rfl,kB.sel []⟩))))
         ·refine cF fU (sr (c0 (c == 21) (m2 (.bool (c == 21)) (wt (cd h (fun fV h=>?_) (fun fV h=>?_))))))
          ·refine cT fV (wp_region_lit (m1 (pp g 0) (fd 7 Tyf47_7 rfl (l1 1 (sl I B J) aj Tya32 ?_))))
           have fW:=p03412 aj
           obtain ⟨qX,kC,h⟩:=ob h
           refine cp ([pp g 0,sE,sl I B J,.pointer none]) Tyb50 (IH1005066 kC (hG.mono (z.sub.trans a9)) bx bz bA bB bC bD bE bF (Nat.le_trans hbr aj.size) (by decide) bp (pt fW)) ?_ ?_
           ·rintro _ qY ⟨kD,kE,kF,kG,kH,kJ,kK,kL,kM,kN,fX,kO,kP,kQ,kR,kT,kU,kV,kW,kX,kY,kZ,k0,k1,fY,fZ,rfl,rfl,dl,k2,k3,k4,k5,k6,k7,k8,k9,la⟩
            have lc:=ca dl fW
            exact fd 7 Tyf47_7 rfl (sI 3 (sl fY fX fZ) ((vS c m am G U C V A W fY fX fZ X D Y Z N ab ac O ad).toArray) lc Tys32 rfl rfl (fun qZ ld=>(wpList_nil (blkN (thenN (⟨_,kO,c,m,am,G,U,C,A,V,W,fX,fY,fZ,D,X,Y,N,Z,ab,O,ac,ad,kD,kP,kQ,kE,kF,kR,kT,kG,kH,kJ,kK,kU,kV,kL,kW,kX,kY,kM,kZ,k0,k1,kN,fR,dl.sub,(ld.sel [3,4,0,1,2]),ba,bG,(me bH dl.sub),la,(ms bu dl.sub),(ms bI dl.sub),(mc bJ dl.sub),k2,k3,k4,k5,k6,k7,k8,k9,h⟩))))))
           ·rintro _ q0 ⟨lf,lg,rfl,rfl,lh⟩
            have li:=ca lh fW
            exact blkP (thenP (panE (.inr ⟨_,rfl,lf,lg,(oi h).symm,rfl,li.sel []⟩)))
          ·refine cF fV (sr (c0 (c == 28) (m2 (.bool (c == 28)) (wt (cd h (fun f0 h=>?_) (fun f0 h=>?_))))))
           ·refine cT f0 (wp_region_lit (m1 (pp g 0) (fd 1 Tyf47_1 rfl (l1 1 (.string m) aj Tya9 (fd 7 Tyf47_7 rfl (l1 1 (sl I B J) aj Tya32 (fd 2 Tyf47_2 rfl ?_)))))))
            have f1:=p03412 aj
            obtain ⟨q1,lj,h⟩:=ob h
            refine cp ([pp g 0,.string m,sl I B J,pp (zz wi) 2]) Tyb50 (IH1005015 lj (hG.mono (z.sub.trans a9)) bx bz bA bB bC bD bE bF (Nat.le_trans hbr aj.size) ba bp ba bG bH bp bu bI bJ (pt f1)) ?_ ?_
            ·rintro _ q2 ⟨lk,ll,lm,ln,lo,lp,lq,lr,ls,lu,g3,g4,g5,g6,g7,g8,g9,q3,ha,hb,hc,f2,lv,lw,lx,ly,lz,lA,lB,lC,lE,lF,lG,lH,lI,hd,he,q4,q5,hf,hg,hh,hi,hk,hl,f3,f8,rfl,rfl,hm,lJ,lK,lL,lM,lO,lP,lQ,lR,lT,lU,lV,q6,lW,lX,lY,lZ⟩
             have l0:=ca hm f1
             exact fd 7 Tyf47_7 rfl (sI 3 (sl f3 f2 f8) ((vS g3 g4 g5 g6 g7 g8 hd g9 he f3 f2 f8 hf ha hg hh hb hi hk hc hl).toArray) l0 Tys32 rfl rfl (fun q7 l2=>(wpList_nil (blkN (thenN (⟨_,lv,g3,g4,g5,g6,g7,g8,g9,hd,he,f2,f3,f8,ha,hf,hg,hb,hh,hi,hc,hk,hl,lk,lw,lx,ll,lm,ly,lz,ln,lo,lp,lq,lA,lB,lr,lC,lE,lF,ls,lG,lH,lI,lu,fR,hm.sub,(l2.sel [3,4,0,1,2]),lT,lU,lV,lZ,lW,lX,lY,lJ,lK,lL,lM,lO,lP,lQ,lR,h⟩))))))
            ·rintro _ q8 ⟨l3,l4,rfl,rfl,l5⟩
             have l6:=ca l5 f1
             exact blkP (thenP (panE (.inr ⟨_,rfl,l3,l4,(oi h).symm,rfl,l6.sel []⟩)))
           ·refine cF f0 (sr (c0 (c == 25) (m2 (.bool (c == 25)) (wt (cd h (fun f9 h=>?_) (fun f9 h=>?_))))))
            ·refine cT f9 (wp_region_lit (m1 (pp g 0) (fd 1 Tyf47_1 rfl (l1 1 (.string m) aj Tya9 (fd 7 Tyf47_7 rfl (l1 1 (sl I B J) aj Tya32 (fd 2 Tyf47_2 rfl ?_)))))))
             have ga:=p03412 aj
             obtain ⟨q9,l7,h⟩:=ob h
             refine cp ([pp g 0,.string m,sl I B J,pp (zz wi) 2]) Tyb48 (IH1004815 l7 (hG.mono (z.sub.trans a9)) bx bz bA bB bC bD bE bF (Nat.le_trans hbr aj.size) ba bp ba bG bH bp bu bI bJ (pt ga)) ?_ ?_
             ·rintro _ ra ⟨l8,l9,ma,mb,md,mg,mh,mi,mj,ml,hn,ho,hp,hq,hr,ht,hu,rb,hv,hw,hx,gb,mm,mn,mo,mq,mr,mt,mu,mw,mx,my,mz,mA,mC,hy,hz,rc,rd,hA,hB,hC,hD,hE,hH,gc,gd,rfl,rfl,hI,mD,mE,mF,mG,mH,mI,mJ,mK,mL,mM,mN,re,mO,mP,mQ,mR⟩
              have mS:=ca hI ga
              exact fd 7 Tyf47_7 rfl (sI 3 (sl gc gb gd) ((vS hn ho hp hq hr ht hy hu hz gc gb gd hA hv hB hC hw hD hE hx hH).toArray) mS Tys32 rfl rfl (fun rf mT=>(wpList_nil (blkN (thenN (⟨_,mm,hn,ho,hp,hq,hr,ht,hu,hy,hz,gb,gc,gd,hv,hA,hB,hw,hC,hD,hx,hE,hH,l8,mn,mo,l9,ma,mq,mr,mb,md,mg,mh,mt,mu,mi,mw,mx,my,mj,mz,mA,mC,ml,fR,hI.sub,(mT.sel [3,4,0,1,2]),mL,mM,mN,mR,mO,mP,mQ,mD,mE,mF,mG,mH,mI,mJ,mK,h⟩))))))
             ·rintro _ rg ⟨mU,mV,rfl,rfl,mW⟩
              have mX:=ca mW ga
              exact blkP (thenP (panE (.inr ⟨_,rfl,mU,mV,(oi h).symm,rfl,mX.sel []⟩)))
            ·refine cF f9 (sr (c0 (c == 24) (m2 (.bool (c == 24)) (wt (cd h (fun ge h=>?_) (fun ge h=>?_))))))
             ·refine cT ge (sr (m1 (pp g 0) (fd 7 Tyf47_7 rfl (l1 1 (sl I B J) aj Tya32 ?_))))
              have gf:=p03412 aj
              obtain ⟨rh,mY,h⟩:=ob h
              refine cp ([pp g 0,sE,sl I B J,.pointer none]) Tyb48 (IH1004866 mY (hG.mono (z.sub.trans a9)) bx bz bA bB bC bD bE bF (Nat.le_trans hbr aj.size) (by decide) bp (pt gf)) ?_ ?_
              ·rintro _ ri ⟨rj,rk,rl,rm,rn,ro,rp,rq,rr,rs,hJ,rt,ru,rv,rw,rx,ry,rA,rB,rC,rD,rF,rG,rH,hK,hL,rfl,rfl,cl,mZ,m0,m4,m5,m6,m7,m8,m9,na⟩
               have nb:=ca cl gf
               refine fd 7 Tyf47_7 rfl (sI 3 (sl hK hJ hL) ((vS c m am G U C V A W hK hJ hL X D Y Z N ab ac O ad).toArray) nb Tys32 rfl rfl (fun rI dm=>(wt (sr (m1 (pp g 0) (fd 1 Tyf47_1 rfl (l1 3 (.string m) dm Tya9 (fd 8 Tyf47_8 rfl (l1 3 (sl X D Y) dm Tya32 (fd 2 Tyf47_2 rfl ?_))))))))))
               obtain ⟨rJ,nc,h⟩:=ob h
               refine cp ([pp g 0,.string m,sl X D Y,pp (zz wi) 2]) Tyb48 (IH1004815 nc (hG.mono ((z.sub.trans a9).trans cl.sub)) mZ m0 m4 m5 m6 m7 m8 m9 (Nat.le_trans hbr dm.size) ba (ms bu cl.sub) ba bG (me bH cl.sub) na (ms bu cl.sub) (ms bI cl.sub) (mc bJ cl.sub) (pt dm)) ?_ ?_
               ·rintro _ rK ⟨rL,rM,rN,rO,rP,rQ,rR,rT,rV,rW,eH,eI,eJ,eK,eL,eM,eN,eO,rX,gg,eP,d4,rY,rZ,r0,r1,r2,r3,r4,r5,r6,r7,r8,r9,sa,eQ,eR,eS,eT,sb,sc,gh,gi,eU,eV,d5,d6,rfl,rfl,gj,nd,ne,nf,ng,nh,ni,nj,nk,nl,nm,nn,np,sd,nq,nr,ns⟩
                have nt:=ca gj dm
                refine fd 8 Tyf47_8 rfl (sI 3 (sl d5 d4 d6) ((vS eH eI eJ eK eL eM eQ eN eR eS eO eT d5 d4 d6 gh gg gi eU eP eV).toArray) nt Tys32 rfl rfl (fun se d7=>(wt (wp_region_lit (m1 (pp g 0) (fd 9 Tyf47_9 rfl (l1 3 (sl gh gg gi) d7 Tya32 ?_)))))))
                obtain ⟨sf,nu,h⟩:=ob h
                refine cp ([pp g 0,sE,sl gh gg gi,.pointer none]) Tyb48 (IH1004866 nu (hG.mono (((z.sub.trans a9).trans cl.sub).trans gj.sub)) nd ne nf ng nh ni nj nk (Nat.le_trans hbr d7.size) (by decide) nq (pt d7)) ?_ ?_
                ·rintro _ sg ⟨hM,hN,hO,hP,hQ,hR,hS,eW,eX,hT,eY,hU,hV,hW,hX,hY,hZ,h0,gk,gl,h1,gm,gn,h2,eZ,e0,rfl,rfl,dn,nv,nw,nx,ny,nz,nA,nB,nC,nD⟩
                 have nF:=ca dn d7
                 refine fd 9 Tyf47_9 rfl (sI 3 (sl eZ eY e0) ((vS eH eI eJ eK eL eM eQ eN eR eS eO eT d5 d4 d6 eZ eY e0 eU eP eV).toArray) nF Tys32 rfl rfl (fun nG nH=>?_))
                 have nI:SR K hU wi nG [.box bs g (vR ao an ap aq au ar av aw ax ay aA az aB q d s t f u aG).toArray 84,.row br (sl q d s) 9 1 d.length aE,.stk br (sl t f u) 81 f.length aF] [.box bs g (vR hV hM hW hN hX hO hY hP hQ hR hZ hS h0 gk eW gl gm eX gn hT).toArray 84,.row br (sl gk eW gl) 9 1 eW.length h1,.stk br (sl gm eX gn) 81 eX.length h2,.box (zz wi) (zz wi) (vS eH eI eJ eK eL eM eQ eN eR eS eO eT d5 d4 d6 eZ eY e0 eU eP eV).toArray 47,.box (zz wi) (zz ak) zS.toArray 47]:=nH
                 exact wpList_nil (blkN (thenN (⟨_,hU,eH,eI,eJ,eK,eL,eM,eN,eQ,eR,eO,eS,eT,d4,d5,d6,eY,eZ,e0,eP,eU,eV,hM,hV,hW,hN,hO,hX,hY,hP,hQ,hR,hS,hZ,h0,eW,gk,gl,h1,eX,gm,gn,h2,hT,fR,((cl.sub.trans gj.sub).trans dn.sub),(nI.sel [3,4,0,1,2]),nl,nm,(me nn dn.sub),(ms np dn.sub),(ms ns dn.sub),nD,(mc nr dn.sub),nv,nw,nx,ny,nz,nA,nB,nC,h⟩)))
                ·rintro _ sh ⟨nJ,nK,rfl,rfl,nL⟩
                 have nM:=ca nL d7
                 exact blkP (thenP (panE (.inr ⟨_,rfl,nJ,nK,(oi h).symm,rfl,nM.sel []⟩)))
               ·rintro _ si ⟨nN,nO,rfl,rfl,nP⟩
                have nQ:=ca nP dm
                exact thenP (blkP (thenP (panE (.inr ⟨_,rfl,nN,nO,(oi h).symm,rfl,nQ.sel []⟩))))
              ·rintro _ sj ⟨nT,nV,rfl,rfl,nW⟩
               have nX:=ca nW gf
               exact thenP (blkP (thenP (panE (.inr ⟨_,rfl,nT,nV,(oi h).symm,rfl,nX.sel []⟩))))
             ·refine cF ge (wp_cut (fun a w=>∃ h3 go,a=fr 184 (updL h3 [(0,pp g 0),(3,pp (zz wi) 0),(4,pp (zz ak) 0),(168,.bool go)])∧SR K S wi w [.box bs g (vR ao an ap aq au ar av aw ax ay aA az aB q d s t f u aG).toArray 84,.row br (sl q d s) 9 1 d.length aE,.stk br (sl t f u) 81 f.length aF] [.box bs g (vR aT aJ aU aK aV aL aW ai aI aP aX aM aY ae x af ag y ah aH).toArray 84,.box (zz wi) (zz wi) (vS c m am G U C V A W I B J X D Y Z N ab ac O ad).toArray 47,.box (zz wi) (zz ak) zS.toArray 47,.row br (sl ae x af) 9 1 x.length aZ,.stk br (sl ag y ah) 81 y.length a0]∧f39_j4 k F aJ aK aL ai aI aP aM x y aH c m am G U C A B D N O go=some r_) ?_ ?_)
              ·refine sr (c0 (c == 20) (m2 (.bool (c == 20)) (wt (cd h (fun gp h=>?_) (fun gp h=>?_)))))
               ·exact cT gp (wp_skip (thenN (⟨_,(c == 20),fR,aj,h⟩)))
               ·refine cF gp (sr (c0 (c == 22) (m2 (.bool (c == 22)) (wt (cd h (fun gq h=>?_) (fun gq h=>?_))))))
                ·exact cT gq (wp_skip (thenN (⟨_,(c == 22),fR,aj,h⟩)))
                ·refine cF gq (sr (c0 (c == 23) (m2 (.bool (c == 23)) (wt (cd h (fun gr h=>?_) (fun gr h=>?_))))))
                 ·exact cT gr (wp_skip (thenN (⟨_,(c == 23),fR,aj,h⟩)))
                 ·exact cF gr (wp_region_lit (c0 (c == 26) (m2 (.bool (c == 26)) (wt (⟨_,(c == 26),fR,aj,h⟩)))))
              ·rintro _ h4 ⟨h3,go,rfl,cG,h⟩
               unfold f39_j4 at h
               refine cd h (fun gs h=>?_) (fun gs h=>?_)
               ·refine cT gs (sr (m1 (pp g 0) (fd 7 Tyf47_7 rfl (l1 1 (sl I B J) cG Tya32 ?_))))
                have gt:=p03412 cG
                obtain ⟨sk,nY,h⟩:=ob h
                refine cp ([pp g 0,sE,sl I B J,.pointer none]) Tyb48 (IH1004866 nY (hG.mono (z.sub.trans a9)) bx bz bA bB bC bD bE bF (Nat.le_trans hbr cG.size) (by decide) bp (pt gt)) ?_ ?_
                ·rintro _ sm ⟨sn,so,sp,sq,ss,st,su,sv,sw,sx,e1,sy,sz,sA,sB,sC,sD,sF,sG,sH,sJ,sK,sL,sM,e2,e3,rfl,rfl,cU,nZ,n2,n3,n4,n5,n6,n7,n8,n9⟩
                 have oa:=ca cU gt
                 refine fd 7 Tyf47_7 rfl (sI 3 (sl e2 e1 e3) ((vS c m am G U C V A W e2 e1 e3 X D Y Z N ab ac O ad).toArray) oa Tys32 rfl rfl (fun sN d8=>(wt (wp_region_lit (m1 (pp g 0) (fd 8 Tyf47_8 rfl (l1 3 (sl X D Y) d8 Tya32 ?_)))))))
                 obtain ⟨sO,oc,h⟩:=ob h
                 refine cp ([pp g 0,sE,sl X D Y,.pointer none]) Tyb48 (IH1004866 oc (hG.mono ((z.sub.trans a9).trans cU.sub)) nZ n2 n3 n4 n5 n6 n7 n8 (Nat.le_trans hbr d8.size) (by decide) (ms bu cU.sub) (pt d8)) ?_ ?_
                 ·rintro _ sP ⟨od,oe,og,oh,oj,ol,om,oo,op,oq,gu,os,ot,ov,ow,ox,oy,oz,oA,oB,oC,oD,oE,oF,gv,gw,rfl,rfl,dp,oG,oH,oI,oJ,oK,oL,oM,oN,oO⟩
                  have oP:=ca dp d8
                  exact fd 8 Tyf47_8 rfl (sI 3 (sl gv gu gw) ((vS c m am G U C V A W e2 e1 e3 gv gu gw Z N ab ac O ad).toArray) oP Tys32 rfl rfl (fun sQ oQ=>(wpList_nil (blkN (thenN (⟨_,os,c,m,am,G,U,C,A,V,W,e1,e2,e3,gu,gv,gw,N,Z,ab,O,ac,ad,od,ot,ov,oe,og,ow,ox,oh,oj,ol,om,oy,oz,oo,oA,oB,oC,op,oD,oE,oF,oq,fR,(cU.sub.trans dp.sub),(oQ.sel [3,4,0,1,2]),ba,bG,(me bH (cU.sub.trans dp.sub)),(ms n9 dp.sub),oO,(ms bI (cU.sub.trans dp.sub)),(mc bJ (cU.sub.trans dp.sub)),oG,oH,oI,oJ,oK,oL,oM,oN,h⟩))))))
                 ·rintro _ sR ⟨oR,oS,rfl,rfl,oT⟩
                  have oU:=ca oT d8
                  exact blkP (thenP (panE (.inr ⟨_,rfl,oR,oS,(oi h).symm,rfl,oU.sel []⟩)))
                ·rintro _ sS ⟨oV,oW,rfl,rfl,oX⟩
                 have oY:=ca oX gt
                 exact thenP (blkP (thenP (panE (.inr ⟨_,rfl,oV,oW,(oi h).symm,rfl,oY.sel []⟩))))
               ·refine cF gs (wp_cut (fun a w=>∃ h5 cm cV dq dr cW cX ds dt du dv dw cY dx dy b6 dz dA dB b7 dC dD dE b8 dF,a=fr 184 (updL h5 [(0,pp g 0),(3,pp (zz wi) 0),(4,pp (zz ak) 0)])∧KH.sub S cm∧SR K cm wi w [.box bs g (vR ao an ap aq au ar av aw ax ay aA az aB q d s t f u aG).toArray 84,.row br (sl q d s) 9 1 d.length aE,.stk br (sl t f u) 81 f.length aF] [.box bs g (vR dq cV dr cW ds cX dt du dv dw dx cY dy dz b6 dA dC b7 dD b8).toArray 84,.box (zz wi) (zz wi) (vS c m dF G U C V A W I B J X D Y Z N ab ac O ad).toArray 47,.box (zz wi) (zz ak) zS.toArray 47,.row br (sl dz b6 dA) 9 1 b6.length dB,.stk br (sl dC b7 dD) 81 b7.length dE]∧tF cm dq dr cV∧cW.size ≤ mB∧tP cm ds dt cX∧tS cm dx dy cY∧Reps RStr 1 b6 dB∧b6.length * 16 ≤ mB∧StkR kS VInt b7 dE∧b7.length * 8 ≤ mB∧f39_j5 k F c m G U C A B D N O cV cW cX du dv dw cY b6 b7 b8 dF=some r_) ?_ ?_)
                ·refine sr (fd 1 Tyf47_1 rfl (l1 1 (.string m) cG Tya9 (bsc (r:=(!seq m ⟨#[]⟩)) rfl rfl rfl (wt (cd h (fun gx h=>?_) (fun gx h=>?_))))))
                 ·refine cT gx (wp_region_lit (m1 (pp g 0) (fd 1 Tyf47_1 rfl (l1 1 (.string m) cG Tya9 ?_))))
                  have gy:=p03412 cG
                  obtain ⟨sT,oZ,h⟩:=ob h
                  refine cp ([pp g 0,.string m]) Tyb37 ((f37_ok k) oZ (hG.mono (z.sub.trans a9)) bx bz bA bB bC bD bE bF (Nat.le_trans hbr cG.size) ba (pt gy)) ?_ ?_
                  ·rintro _ sU ⟨o2,o3,o4,o5,o6,o7,o8,o9,pa,pb,gz,pc,pd,pe,pf,pg,ph,pi,pj,pk,pl,pm,pn,po,rfl,rfl,h6,pq,pr,ps,pu,pv,pw,px,py⟩
                   have pz:=ca h6 gy
                   exact fd 2 Tyf47_2 rfl (sI 3 (iI gz) ((vS c m gz G U C V A W I B J X D Y Z N ab ac O ad).toArray) pz Tys3 rfl rfl (fun sV pA=>(wt (⟨_,pc,o2,pd,pe,o3,o4,pf,pg,o5,o6,o7,o8,ph,pi,o9,pj,pk,pl,pa,pm,pn,po,pb,gz,fR,h6.sub,(pA.sel [0,3,4,1,2]),pq,pr,ps,pu,pv,pw,px,py,h⟩))))
                  ·rintro _ sW ⟨pB,pC,rfl,rfl,pD⟩
                   have pE:=ca pD gy
                   exact thenP (blkP (thenP (panE (.inr ⟨_,rfl,pB,pC,(oi h).symm,rfl,pE.sel []⟩))))
                 ·exact cF gx (wp_skip (thenN (⟨_,S,aJ,aT,aU,aK,aL,aV,aW,ai,aI,aP,aM,aX,aY,x,ae,af,aZ,y,ag,ah,a0,aH,am,fR,kr,cG,bx,bz,bA,bB,bC,bD,bE,bF,h⟩)))
                ·rintro _ sX ⟨h5,cm,cV,dq,dr,cW,cX,ds,dt,du,dv,dw,cY,dx,dy,b6,dz,dA,dB,b7,dC,dD,dE,b8,dF,rfl,aN,bK,gA,gB,gD,gF,gG,gH,gI,gJ,h⟩
                 unfold f39_j5 at h
                 refine wp_region_lit (fd 0 Tyf47_0 rfl (l1 1 (iI c) bK Tya3 (c0 (c != 6) (m1 (.bool (c != 6)) (cd h (fun cn h=>?_) (fun cn h=>?_))))))
                 ·refine o1 64 cn (o1 64 cn (o1 64 cn (m3 true vT (cg cn) (m1 vT (o0 69 (o0 69 (o0 69 (o0 69 (o0 69 (m3 true vT rfl ?_))))))))))
                  obtain ⟨sY,pF,h⟩:=ob h
                  refine cp ([vT,iI 22]) Tyb25 ((f25_ok k) pF (hG.mono ((z.sub.trans a9).trans aN)) (pt bK)) ?_ ?_
                  ·rintro _ sZ ⟨pG,rfl,rfl,b9⟩
                   have pH:=ca b9 bK
                   exact wpList_nil (blkN (thenN (⟨_,pG,c,m,dF,G,U,C,A,V,W,B,I,J,D,X,Y,N,Z,ab,O,ac,ad,cV,dq,dr,cW,cX,ds,dt,du,dv,dw,cY,dx,dy,b6,dz,dA,dB,b7,dC,dD,dE,b8,fR,(aN.trans b9.sub),(pH.sel [1,2,0,3,4]),ba,bG,(me bH (aN.trans b9.sub)),(ms bp (aN.trans b9.sub)),(ms bu (aN.trans b9.sub)),(ms bI (aN.trans b9.sub)),(mc bJ (aN.trans b9.sub)),(mf gA b9.sub),gB,(mp gD b9.sub),(ms gF b9.sub),(gG.mono (fun _ _ h=>h)),gH,(StkR.mono (fun _ _ h=>h) gI),gJ,h⟩)))
                  ·rintro _ s0 ⟨pI,pJ,rfl,rfl,pK⟩
                   have pL:=ca pK bK
                   exact blkP (thenP (panE (.inr ⟨_,rfl,pI,pJ,(oi h).symm,rfl,pL.sel []⟩)))
                 ·refine n1 64 cn (fd 5 Tyf47_5 rfl (n1 64 cn (l1 1 (iI C) bK Tya3 (n1 64 cn (c0 (C == 0) (m3 false (.bool (C == 0)) (cg cn) (m1 (.bool (C == 0)) (cd h (fun bv h=>?_) (fun bv h=>?_)))))))))
                  ·refine o1 69 bv (o1 69 bv (o1 69 bv (o1 69 bv (o1 69 bv (m3 true vT (cg bv) ?_)))))
                   obtain ⟨s1,pM,h⟩:=ob h
                   refine cp ([vT,iI 22]) Tyb25 ((f25_ok k) pM (hG.mono ((z.sub.trans a9).trans aN)) (pt bK)) ?_ ?_
                   ·rintro _ s2 ⟨pN,rfl,rfl,cb⟩
                    have pO:=ca cb bK
                    exact wpList_nil (blkN (thenN (⟨_,pN,c,m,dF,G,U,C,A,V,W,B,I,J,D,X,Y,N,Z,ab,O,ac,ad,cV,dq,dr,cW,cX,ds,dt,du,dv,dw,cY,dx,dy,b6,dz,dA,dB,b7,dC,dD,dE,b8,fR,(aN.trans cb.sub),(pO.sel [1,2,0,3,4]),ba,bG,(me bH (aN.trans cb.sub)),(ms bp (aN.trans cb.sub)),(ms bu (aN.trans cb.sub)),(ms bI (aN.trans cb.sub)),(mc bJ (aN.trans cb.sub)),(mf gA cb.sub),gB,(mp gD cb.sub),(ms gF cb.sub),(gG.mono (fun _ _ h=>h)),gH,(StkR.mono (fun _ _ h=>h) gI),gJ,h⟩)))
                   ·rintro _ s3 ⟨pP,pQ,rfl,rfl,pR⟩
                    have pS:=ca pR bK
                    exact blkP (thenP (panE (.inr ⟨_,rfl,pP,pQ,(oi h).symm,rfl,pS.sel []⟩)))
                  ·refine n1 69 bv (m1 (pp g 0) (n1 69 bv (nilc rfl (n1 69 bv (fd 9 Tyf84_4 rfl (n1 69 bv (l1 0 (iI b8) bK Tya3 (n1 69 bv (c0 (decide (b8 > 0)) (m3 false (.bool (decide (b8 > 0))) (cg bv) ?_))))))))))
                   obtain ⟨s4,pT,h⟩:=ob h
                   refine cp ([.bool (decide (b8 > 0)),iI 22]) Tyb25 ((f25_ok k) pT (hG.mono ((z.sub.trans a9).trans aN)) (pt bK)) ?_ ?_
                   ·rintro _ s5 ⟨pU,rfl,rfl,cc⟩
                    have pV:=ca cc bK
                    exact wpList_nil (blkN (thenN (⟨_,pU,c,m,dF,G,U,C,A,V,W,B,I,J,D,X,Y,N,Z,ab,O,ac,ad,cV,dq,dr,cW,cX,ds,dt,du,dv,dw,cY,dx,dy,b6,dz,dA,dB,b7,dC,dD,dE,b8,fR,(aN.trans cc.sub),(pV.sel [1,2,0,3,4]),ba,bG,(me bH (aN.trans cc.sub)),(ms bp (aN.trans cc.sub)),(ms bu (aN.trans cc.sub)),(ms bI (aN.trans cc.sub)),(mc bJ (aN.trans cc.sub)),(mf gA cc.sub),gB,(mp gD cc.sub),(ms gF cc.sub),(gG.mono (fun _ _ h=>h)),gH,(StkR.mono (fun _ _ h=>h) gI),gJ,h⟩)))
                   ·rintro _ s6 ⟨pW,pX,rfl,rfl,pY⟩
                    have pZ:=ca pY bK
                    exact blkP (thenP (panE (.inr ⟨_,rfl,pW,pX,(oi h).symm,rfl,pZ.sel []⟩)))
    ·rintro _ s7 ⟨gZ,aQ,ch,bW,ci,bX,cj,ck,bY,cq,cr,bZ,ct,cu,b0,cw,cx,b1,cy,cz,b2,cA,cB,dZ,eo,ep,d0,d1,eq,es,et,eu,ew,d2,ex,ey,cC,ez,eA,eB,cD,eC,eD,eE,eF,rfl,s8,h7,p0,p1,p2,p3,p4,p5,p6,p7,p8,p9,qa,qb,qc,qd,qe,h⟩
     unfold f39_j2 at h
     exact sr (lN 0 (vS ch bW ci bX cj ck cq bY cr ct bZ cu cw b0 cx cy b1 cz cA b2 cB) h7 Tya47 Tys47 (sI 1 (.agg (vS ch bW ci bX cj ck cq bY cr ct bZ cu cw b0 cx cy b1 cz cA b2 cB).toArray) ((vS ch bW ci bX cj ck cq bY cr ct bZ cu cw b0 cx cy b1 cz cA b2 cB).toArray) h7 Tys47 rfl rfl (fun s9 h8=>(wt (wp_ret (retP (retA1 rfl (resN (i:=1) (l:=(vS ch bW ci bX cj ck cq bY cr ct bZ cu cw b0 cx cy b1 cz cA b2 cB)) h8 rfl Tya47 Tys47 rfl rfl rfl) ⟨dZ,d0,d1,et,eu,ew,d2,cC,cD,eF,(DStmt.mk ch bW ci bX cj ck bY bZ b0 b1 b2),aQ,eo,ep,eq,es,ex,ey,ez,eA,eB,eC,eD,eE,(vS ch bW ci bX cj ck cq bY cr ct bZ cu cw b0 cx cy b1 cz cA b2 cB),(oi h).symm,rfl,(h8.sel [2,3,4]),p7,p8,p9,qa,qb,qc,qd,qe,(RDStmt.intro p0 p1 p2 p3 p4 p5 p6)⟩)))))))
 ·rintro _ ta ⟨qf,qg,rfl,rfl,qh⟩
  have qi:=ca qh fa
  exact thenP (panE (.inr ⟨_,rfl,qf,qg,(oi h).symm,rfl,qi.sel []⟩))
theorem f1004815_b_ok (k:Nat) (F:Fam39) (IH39:f39_spec F.f39) (IH1004815:f1004815_spec F.f1004815) (IH1004866:f1004866_spec F.f1004866) (IH1004884:f1004884_spec F.f1004884) (IH1005015:f1005015_spec F.f1005015) (IH1005066:f1005066_spec F.f1005066):f1004815_spec (f1004815_b k F):=by
 unfold f1004815_spec
 intro K wi g bs br Y Z ab ac ad ae af ag ah ai aj ak al f q s an d u x aI am bI ao b3 b4 gA bsA sA_0 sA_1 sA_2 sA_3 sA_4 sA_5 sA_6 AsA_6 csA_6 sA_7 AsA_7 csA_7 sA_8 AsA_8 csA_8 sA_9 AsA_9 csA_9 sA_10 AsA_10 csA_10 r_ h hG cq cr cs ct cu cw db eW hbr dc cx hsA_1 hsA_3 hsA_6 hsA_7 hsA_8 hsA_9 hsA_10 bJ
 refine enter Tryd.func48 rfl (n:=59) rfl ?_
 unfold f1004815_b at h
 refine sr (m2 nS (wt (sr (m1 (pp g 0) (m1 (pp g 0) (nilc rfl (fd 8 Tyf84_3 rfl (l1 0 (sl u d x) bJ Tya82 (mkm bJ (fun dd bJ=>(bsl (e:=81) (cells:=#[.map (some (zz wi))]) (vs:=[(0,.map (some (zz wi)))]) bJ rfl (buildSl_one Tye82 Tys81 Tyz81 rfl (by decide) (by decide) rfl) (fun de df=>?_))))))))))))
 have dg:=p401235 df
 obtain ⟨b5,h⟩:=of_guard h
 refine pushM (kv:=kS) (R:=VInt) dg db (mapr0 (kv:=kS) (R:=VInt)) Tye82 Tyi81 rfl rfl rfl hbr hbr b5 (by decide) (fun bB bC cy eX dh cz=>(nilc rfl (fd 8 Tyf84_3 rfl (sI 1 (.slice bB (d ++ [([]:List (BA × Int))]).length bC) ((vR Z Y ab ac ae ad af ag ah ai ak aj al q f s bB (d ++ [([]:List (BA × Int))]) bC am).toArray) dh Tys82 rfl rfl (fun di b6=>(wt (wp_cut (fun a w=>∃ cA B bD bK bL bE bF bM bN bO bP bQ bG bR bS ax bT bU bV ay bW bX bY bZ ap,a=fr 59 (updL cA [(0,pp g 0),(2,sl b3 ao b4)])∧KH.sub K B∧SR K B wi w [.box bs g (vR Z Y ab ac ae ad af ag ah ai ak aj al q f s u d x am).toArray 84,.row br (sl q f s) 9 1 f.length an,.stk br (sl u d x) 81 d.length aI,.box bsA gA (vS sA_0 sA_1 sA_2 sA_3 sA_4 sA_5 AsA_6 sA_6 csA_6 AsA_7 sA_7 csA_7 AsA_8 sA_8 csA_8 AsA_9 sA_9 csA_9 AsA_10 sA_10 csA_10).toArray 47] [.box bs g (vR bK bD bL bE bM bF bN bO bP bQ bR bG bS bT ax bU bW ay bX bZ).toArray 84,.box bsA gA (vS sA_0 sA_1 ap sA_3 sA_4 sA_5 AsA_6 sA_6 csA_6 AsA_7 sA_7 csA_7 AsA_8 sA_8 csA_8 AsA_9 sA_9 csA_9 AsA_10 sA_10 csA_10).toArray 47,.row br (sl bT ax bU) 9 1 ax.length bV,.stk br (sl bW ay bX) 81 ay.length bY]∧tF B bK bL bD∧bE.size ≤ mB∧tP B bM bN bF∧tS B bR bS bG∧Reps RStr 1 ax bV∧ax.length * 16 ≤ mB∧StkR kS VInt ay bY∧ay.length * 8 ≤ mB∧f1004815_j1 k F ao sA_0 sA_1 sA_3 sA_4 sA_5 sA_6 sA_7 sA_8 sA_9 sA_10 bD bE bF bO bP bQ bG ax ay bZ ap=some r_) ?_ ?_)))))))
 ·refine sr (m1 (.string bI) (bsc (r:=(!seq bI ⟨#[]⟩)) rfl rfl rfl (wt (cd h (fun b7 h=>?_) (fun b7 h=>?_)))))
  ·refine cT b7 (wp_region_lit (m1 (pp gA 2) (m1 (pp g 0) (m1 (.string bI) ?_))))
   have b8:=p1203 b6
   obtain ⟨eY,dj,h⟩:=ob h
   refine cp ([pp g 0,.string bI]) Tyb37 ((f37_ok k) dj (hG.mono kr) cq cr cs ct cu cw cz (app_bound b5) (Nat.le_trans hbr b6.size) dc (pt b8)) ?_ ?_
   ·rintro _ eZ ⟨dk,dl,dm,dn,dp,dq,dr,ds,dt,du,b9,dv,dw,dx,dy,dz,dA,dB,dC,dD,dE,dF,dG,dH,rfl,rfl,cB,dI,dJ,dK,dL,dM,dN,dO,dP⟩
    have dQ:=ca cB b8
    exact nilc rfl (sI 3 (iI b9) ((vS sA_0 sA_1 b9 sA_3 sA_4 sA_5 AsA_6 sA_6 csA_6 AsA_7 sA_7 csA_7 AsA_8 sA_8 csA_8 AsA_9 sA_9 csA_9 AsA_10 sA_10 csA_10).toArray) dQ Tys3 rfl rfl (fun e0 dR=>(wt (⟨_,dv,dk,dw,dx,dl,dm,dy,dz,dn,dp,dq,dr,dA,dB,ds,dC,dD,dE,dt,dF,dG,dH,du,b9,fR,cB.sub,(dR.sel [0,3,1,2]),dI,dJ,dK,dL,dM,dN,dO,dP,h⟩))))
   ·rintro _ e1 ⟨dS,dT,rfl,rfl,dU⟩
    have dV:=ca dU b8
    exact thenP (panE (.inr ⟨_,rfl,dS,dT,(oi h).symm,rfl,dV.sel []⟩))
  ·exact cF b7 (wp_skip (thenN (⟨_,K,Y,Z,ab,ac,ad,ae,af,ag,ah,ai,aj,ak,al,f,q,s,an,(d ++ [([]:List (BA × Int))]),bB,bC,cy,am,sA_2,fR,kr,(b6.sel [1,3,2,0]),cq,cr,cs,ct,cu,cw,cz,(app_bound b5),h⟩)))
 ·rintro _ e2 ⟨cA,B,bD,bK,bL,bE,bF,bM,bN,bO,bP,bQ,bG,bR,bS,ax,bT,bU,bV,ay,bW,bX,bY,bZ,ap,rfl,az,dW,dX,dY,dZ,d0,d1,d2,d3,d4,h⟩
  unfold f1004815_j1 at h
  refine sr (m2 nS (wt (wp_seq (sr (m1 (sl b3 ao b4) (lS ao.length Tye32 (m1 (iI 0) (wt (wp_block ?_)))))))))
  have d5:=dW.row_ (zz wi) 47 11
  refine wp_loopG (fun g_ a w=>∃ cC C aJ,∃ (aA:Nat),∃ aB aK aL aE aF aM aN aP aQ aR aG aS aT y aq ar bj c z A bk aU l au av bH,g_=aJ.length∧a=fr 59 (updL cC [(0,pp g 0),(9,sl au l av),(30,sl b3 ao b4),(31,iI (ao.length:Int)),(32,iI (aA:Int))])∧KH.sub B C∧SR K C wi w [.box bs g (vR Z Y ab ac ae ad af ag ah ai ak aj al q f s u d x am).toArray 84,.row br (sl q f s) 9 1 f.length an,.stk br (sl u d x) 81 d.length aI,.box bsA gA (vS sA_0 sA_1 sA_2 sA_3 sA_4 sA_5 AsA_6 sA_6 csA_6 AsA_7 sA_7 csA_7 AsA_8 sA_8 csA_8 AsA_9 sA_9 csA_9 AsA_10 sA_10 csA_10).toArray 47] [.box bs g (vR aK aB aL aE aM aF aN aP aQ aR aS aG aT aq y ar z c A aU).toArray 84,.box bsA gA (vS sA_0 sA_1 ap sA_3 sA_4 sA_5 AsA_6 sA_6 csA_6 AsA_7 sA_7 csA_7 AsA_8 sA_8 csA_8 AsA_9 sA_9 csA_9 AsA_10 sA_10 csA_10).toArray 47,.row br (sl aq y ar) 9 1 y.length bj,.stk br (sl z c A) 81 c.length bk,.row (zz wi) (sl au l av) 47 11 l.length bH]∧ao.drop aA=aJ∧tF C aK aL aB∧aE.size ≤ mB∧tP C aM aN aF∧tS C aS aT aG∧Reps RStr 1 y bj∧y.length * 16 ≤ mB∧StkR kS VInt c bk∧c.length * 8 ≤ mB∧Reps (RDStmt C) 11 l bH∧l.length * 184 ≤ mB∧f1004815_l1 k F sA_0 sA_1 sA_3 sA_4 sA_5 sA_6 sA_7 sA_8 sA_9 sA_10 ap aJ aA aB aE aF aP aQ aR aG y c aU l=some r_) ao.length ?_ ?_
  ·exact ⟨_,B,ao,0,bD,bK,bL,bE,bF,bM,bN,bO,bP,bQ,bG,bR,bS,ax,bT,bU,bV,ay,bW,bX,bY,bZ,([]:LS),none,0,[],rfl,fR,kr,(d5.sel [1,2,3,4,0]),List.drop_zero,dX,dY,dZ,d0,d1,d2,d3,d4,(reps0 (R:=(RDStmt B)) (size:=11)),(by simp),h⟩
  ·rintro _ _ cD ⟨cC,C,aJ,aA,aB,aK,aL,aE,aF,aM,aN,aP,aQ,aR,aG,aS,aT,y,aq,ar,bj,c,z,A,bk,aU,l,au,av,bH,rfl,rfl,aw,cb,bm,cG,cH,cI,cJ,cK,cL,cc,cM,cN,d6,h⟩
   rcases aJ with _ | ⟨⟨aV,aW,aX,aY,aZ,a0,a3,a4,a5,a6,a7⟩,aJ⟩
   ·unfold f1004815_l1 at h
    refine sr (bcm (r:=false) rfl rfl (congrArg some (drop_nil_lt bm)) (wt (wp_seq (cndF rfl (wp_exit (thenX (thenX (blkX (thenN (wp_seq (have t:=cb.drew;(regAny (E:=[14]) (F:=FW C [.box bs g (vR aK aB aL aE aM aF aN aP aQ aR aS aG aT aq y ar z c A aU).toArray 84,.box bsA gA (vS sA_0 sA_1 ap sA_3 sA_4 sA_5 AsA_6 sA_6 csA_6 AsA_7 sA_7 csA_7 AsA_8 sA_8 csA_8 AsA_9 sA_9 csA_9 AsA_10 sA_10 csA_10).toArray 47,.row br (sl aq y ar) 9 1 y.length bj,.stk br (sl z c A) 81 c.length bk,.row (zz wi) (sl au l av) 47 11 l.length bH]) (L:=(lb 15 0)) ymx rfl rfl (tk 0 (pp g 0) (lb 15 1) rfl (fun w=>mv_r (v:=pp g 0) rfl) (heldF (fq [0,1,2,3,4] t)) (tk 1 (pp g 0) (lb 15 3) rfl (fun w=>mv_r (v:=pp g 0) rfl) (heldF (fq [0,1,2,3,4] t)) (tk 2 (pp g 0) (lb 15 7) rfl (fun w=>nilc_r rfl) (heldF (fq [0,1,2,3,4] t)) (tk 3 (pp g 8) (lb 15 15) rfl (fun w=>fld_r (o':=8) Tyf84_3 rfl rfl) (heldF (fq [0,1,2,3,4] t)) (tf 4 (sl z c A) ([[14,4]]) (lb 15 31) rfl (fq [0,1,2,3,4] t) (fun w hF=>lb1_r (i:=0) (v:=sl z c A) hF rfl Tya82 rfl rfl) (tk 5 (pp g 0) (lb 15 63) rfl (fun w=>mv_r (v:=pp g 0) rfl) (heldF (fq [0,1,2,3,4] t)) (tk 6 (pp g 0) (lb 15 127) rfl (fun w=>nilc_r rfl) (heldF (fq [0,1,2,3,4] t)) (tk 7 (pp g 8) (lb 15 255) rfl (fun w=>fld_r (o':=8) Tyf84_3 rfl rfl) (heldF (fq [0,1,2,3,4] t)) (tf 8 (sl z c A) ([[14,8]]) (lb 15 511) rfl (fq [0,1,2,3,4] t) (fun w hF=>lb1_r (i:=0) (v:=sl z c A) hF rfl Tya82 rfl rfl) (tk 9 (iI (c.length:Int)) (lb 15 1023) rfl (fun w=>lnS_r (len:=c.length) Tye82 rfl) (heldF (fq [0,1,2,3,4] t)) (tk 10 (iI (w64 ((c.length:Int) - 1))) (lb 15 2047) rfl (fun w=>bar_r (r:=(w64 ((c.length:Int) - 1))) rfl rfl rfl) (heldF (fq [0,1,2,3,4] t)) ?_)))))))))))))))))))))))
    obtain ⟨b0,h⟩:=of_guard h
    refine tk 11 (.slice z (c.take (w64 ((c.length:Int) - 1)).toNat).length A) (lb 15 4095) rfl (fun w=>slH_r (m:=(c.take (w64 ((c.length:Int) - 1)).toNat).length) Tye82 Tys81 rfl rfl b0.1 (Int.le_trans b0.2 (Int.ofNat_le.2 (stk_cap (i:=3) t rfl))) (take_len b0)) (heldF (fq [0,1,2,3,4] t)) (tk 12 (pp g 0) (lb 15 8191) rfl (fun w=>nilc_r rfl) (heldF (fq [0,1,2,3,4] t)) (tk 13 (pp g 8) (lb 15 16383) rfl (fun w=>fld_r (o':=8) Tyf84_3 rfl rfl) (heldF (fq [0,1,2,3,4] t)) (aO 14 rfl (have d7:=t.cutM (i:=3) (m:=(w64 ((c.length:Int) - 1)).toNat) rfl cc (by have:=b0.2; omega);(sI 0 (.slice z (c.take (w64 ((c.length:Int) - 1)).toNat).length A) ((vR aK aB aL aE aM aF aN aP aQ aR aS aG aT aq y ar z (c.take (w64 ((c.length:Int) - 1)).toNat) A aU).toArray) d7 Tys82 rfl rfl (fun e3 d8=>(wt ⟨heldE (i:=14) rfl rfl,aD (thenN (sr (m1 (sl au l av) (m2 (sl au l av) (wt (wp_ret ?_))))))⟩)))))))
    obtain ⟨d9,ea,aH,ec⟩:=shutI (i:=4) (bytes:=184) (R:=fun K=>(RDStmt K)) d8 rfl (Nat.le_refl _) cN d6 (fun hs=>(fun _ _ h=>RDStmt.mono hs h))
    exact retP (retA1 rfl (resT rfl) ⟨aB,aE,aF,aP,aQ,aR,aG,y,(c.take (w64 ((c.length:Int) - 1)).toNat),aU,sA_0,sA_1,ap,sA_3,sA_4,sA_5,sA_6,sA_7,sA_8,sA_9,sA_10,l,d9,aK,aL,aM,aN,aS,aT,aq,ar,bj,z,A,(bk.take (w64 ((c.length:Int) - 1)).toNat),AsA_6,csA_6,AsA_7,csA_7,AsA_8,csA_8,AsA_9,csA_9,AsA_10,csA_10,au,av,(oi h).symm,rfl,(ea.sel [0,2,3,1]),(mf cG aH),cH,(mp cI aH),(ms cJ aH),(cK.mono (fun _ _ h=>h)),cL,(StkR.mono (fun _ _ h=>h) (StkR.take (w64 ((c.length:Int) - 1)).toNat cc)),(take_bound cM),hsA_1,hsA_3,(me hsA_6 ((az.trans aw).trans aH)),(ms hsA_7 ((az.trans aw).trans aH)),(ms hsA_8 ((az.trans aw).trans aH)),(ms hsA_9 ((az.trans aw).trans aH)),(mc hsA_10 ((az.trans aw).trans aH)),ec⟩)
   ·unfold f1004815_l1 at h
    refine sr (bcm (r:=true) rfl rfl (congrArg some (drop_cons_t bm)) (wt (wp_seq (cndT rfl (wp_skip (thenN (wp_seq (wp_block (sr ?_)))))))))
    obtain ⟨ed,ee,e4,ef,e5,eg,eh⟩:=((ms cx (az.trans aw))).row.at_ (drop_cons_at bm)
    obtain ⟨a8,a9,ba,bb,bd,be,bf,bg,bh,bi,rfl,ei,ej,ek,el,em,en,eo⟩:=RDStmt.open eh
    refine idxN (b:=ed) (o:=ee) (i:=aA) Tye32 Tys47 rfl ef rfl (drop_cons_lt bm) (lD (vS aV aW aX aY aZ a0 a8 a3 a9 ba a4 bb bd a5 be bf a6 bg bh a7 bi) Tya47 Tys47 rfl (fun j v hj=>cb.cell (kr.cell (eg j v hj))) (aC zS.toArray cb Tyz47 (fun e6 ep=>(sI 0 (.agg (vS aV aW aX aY aZ a0 a8 a3 a9 ba a4 bb bd a5 be bf a6 bg bh a7 bi).toArray) ((vS aV aW aX aY aZ a0 a8 a3 a9 ba a4 bb bd a5 be bf a6 bg bh a7 bi).toArray) ep Tys47 rfl rfl (fun eq ce=>(wt (sr (m1 (pp g 0) (lN 0 (vS aV aW aX aY aZ a0 a8 a3 a9 ba a4 bb bd a5 be bf a6 bg bh a7 bi) ce Tya47 Tys47 ?_)))))))))
    have cf:=p134025 ce
    obtain ⟨e7,es,h⟩:=ob h
    refine cp ([pp g 0,.agg (vS aV aW aX aY aZ a0 a8 a3 a9 ba a4 bb bd a5 be bf a6 bg bh a7 bi).toArray]) Tyb39 (IH39 es (hG.mono (az.trans aw)) cG cH cI cJ cK cL cc cM (Nat.le_trans hbr ce.size) (RDStmt.intro ei ej ek el em en eo) (pt cf)) ?_ ?_
    ·rintro _ et ⟨cO,cP,cQ,cR,cS,cU,cV,b1,b2,cW,⟨D,G,I,J,N,O,S,U,V,W,X⟩,ch,cX,cY,cZ,c2,c3,c4,ci,cj,c5,ck,cl,c7,e8,rfl,rfl,cm,eu,ew,ex,ey,ez,eA,eB,eC,eD⟩
     have eE:=ca cm cf
     obtain ⟨bn,bo,bp,bq,bu,bv,bw,bx,bz,bA,rfl,eF,eG,eH,eI,eJ,eK,eL⟩:=RDStmt.open eD
     refine aC zS.toArray eE Tyz47 (fun e9 eM=>(sI 0 (.agg (vS D G I J N O bn S bo bp U bq bu V bv bw W bx bz X bA).toArray) ((vS D G I J N O bn S bo bp U bq bu V bv bw W bx bz X bA).toArray) eM Tys47 rfl rfl (fun fa c8=>(wt (wp_region_lit (m1 (sl au l av) (lN 0 (vS D G I J N O bn S bo bp U bq bu V bv bw W bx bz X bA) c8 Tya47 Tys47 (bsl (e:=47) (cells:=(vS D G I J N O bn S bo bp U bq bu V bv bw W bx bz X bA).toArray) (vs:=[(0,.agg (vS D G I J N O bn S bo bp U bq bu V bv bw W bx bz X bA).toArray)]) c8 rfl (buildSl_one Tye32 Tys47 Tyz47 rfl (by decide) (by decide) rfl) (fun fb eN=>?_)))))))))
     obtain ⟨c9,h⟩:=of_guard h
     refine apR (R:=(RDStmt ch)) (p:=(DStmt.mk D G I J N O S U V W X)) (i:=7) (j:=0) eN rfl rfl Tye32 Tyi47 rfl (by decide) rfl rfl (cN.mono (fun _ _ h=>RDStmt.mono cm.sub h)) (RDStmt.intro eF eG eH eI eJ eK eL) rfl rfl (Nat.le_refl _) c9 (by decide) (fun cn co da eO eP eQ=>?_)
     have eR:=p1234567 eP
     exact m2 (.slice cn (l ++ [(DStmt.mk D G I J N O S U V W X)]).length co) (wpList_nil (blkN (thenN (wp_region_lit (bar (r:=((aA + 1:Nat):Int)) rfl rfl (inc_ok (le_big (((ms cx (az.trans aw))).len) (by decide) (drop_cons_lt bm))) (m1 (iI ((aA + 1:Nat):Int)) (wt (⟨_,Nat.lt_succ_self _,_,ch,aJ,aA + 1,cO,cX,cY,cP,cQ,cZ,c2,cR,cS,cU,cV,c3,c4,b1,ci,cj,c5,b2,ck,cl,c7,cW,(l ++ [(DStmt.mk D G I J N O S U V W X)]),cn,co,da,rfl,fR,(aw.trans cm.sub),(eR.sel [1,5,2,3,6]),drop_cons_next bm,eu,ew,ex,ey,ez,eA,eB,eC,eQ,(app_bound c9),h⟩))))))))
    ·rintro _ fc ⟨eS,eT,rfl,rfl,eU⟩
     have eV:=ca eU cf
     exact thenP (blkP (thenP (thenP (blkP (thenP (panE (.inr ⟨_,rfl,eS,eT,(oi h).symm,rfl,eV.sel []⟩)))))))
theorem f1004866_b_ok (k:Nat) (F:Fam39) (IH39:f39_spec F.f39) (IH1004815:f1004815_spec F.f1004815) (IH1004866:f1004866_spec F.f1004866) (IH1004884:f1004884_spec F.f1004884) (IH1005015:f1005015_spec F.f1005015) (IH1005066:f1005066_spec F.f1005066):f1004866_spec (f1004866_b k F):=by
 unfold f1004866_spec
 intro K wi g bs br X Y Z ab ac ad ae af ag ah ai aj ak f q s aq d z A ba al bw ay bU bV r_ h hG bW bX bY bZ b0 b1 cD dM hbr cG b2 bx
 refine enter Tryd.func48 rfl (n:=59) rfl ?_
 unfold f1004866_b at h
 refine sr (m2 nS (wt (sr (m1 (pp g 0) (m1 (pp g 0) (nilc rfl (fd 8 Tyf84_3 rfl (l1 0 (sl z d A) bx Tya82 (mkm bx (fun cH bx=>(bsl (e:=81) (cells:=#[.map (some (zz wi))]) (vs:=[(0,.map (some (zz wi)))]) bx rfl (buildSl_one Tye82 Tys81 Tyz81 rfl (by decide) (by decide) rfl) (fun cI cJ=>?_))))))))))))
 have cK:=p40123 cJ
 obtain ⟨bD,h⟩:=of_guard h
 refine pushM (kv:=kS) (R:=VInt) cK cD (mapr0 (kv:=kS) (R:=VInt)) Tye82 Tyi81 rfl rfl rfl hbr hbr bD (by decide) (fun bq bu b3 dN cL b4=>(nilc rfl (fd 8 Tyf84_3 rfl (sI 1 (.slice bq (d ++ [([]:List (BA × Int))]).length bu) ((vR Y X Z ab ad ac ae af ag ah aj ai ak q f s bq (d ++ [([]:List (BA × Int))]) bu al).toArray) cL Tys82 rfl rfl (fun cM bE=>(wt (wp_seq (sr (m1 (.string bw) (bsc (r:=(!seq bw ⟨#[]⟩)) rfl rfl rfl (wt (cd h (fun bF h=>?_) (fun bF h=>?_)))))))))))))
 ·refine cT bF (wp_region_lit (m1 (.pointer none) (m1 (pp g 0) (m1 (.string bw) ?_))))
  have bG:=p120 bE
  obtain ⟨dO,cN,h⟩:=ob h
  refine cp ([pp g 0,.string bw]) Tyb37 ((f37_ok k) cN (hG.mono kr) bW bX bY bZ b0 b1 b4 (app_bound bD) (Nat.le_trans hbr bE.size) cG (pt bG)) ?_ ?_
  ·rintro _ dP ⟨dQ,dR,dS,dT,dU,dV,dW,dX,dY,dZ,d0,d1,d2,d3,d4,d5,d6,d7,d8,d9,ea,ec,ed,ee,rfl,rfl,cO,ef,eg,eh,ei,ej,ek,el,em⟩
   have en:=ca cO bG
   cases h
  ·rintro _ eo ⟨cP,cQ,rfl,rfl,cR⟩
   have cS:=ca cR bG
   exact thenP (panE (.inr ⟨_,rfl,cP,cQ,(oi h).symm,rfl,cS.sel []⟩))
 ·refine cF bF (wp_skip (thenN (sr (m2 nS (wt (wp_seq (sr (m1 (sl bU ay bV) (lS ay.length Tye32 (m1 (iI 0) (wt (wp_block ?_))))))))))))
  have cU:=bE.row_ (zz wi) 47 11
  refine wp_loopG (fun g_ a w=>∃ b5 B az,∃ (ar:Nat),∃ au aA aB av aw aE aF aG aH aI ax aJ aK u am an bb c x y bd aL l ao ap bv,g_=az.length∧a=fr 59 (updL b5 [(0,pp g 0),(9,sl ao l ap),(30,sl bU ay bV),(31,iI (ay.length:Int)),(32,iI (ar:Int))])∧KH.sub K B∧SR K B wi w [.box bs g (vR Y X Z ab ad ac ae af ag ah aj ai ak q f s z d A al).toArray 84,.row br (sl q f s) 9 1 f.length aq,.stk br (sl z d A) 81 d.length ba] [.box bs g (vR aA au aB av aE aw aF aG aH aI aJ ax aK am u an x c y aL).toArray 84,.row br (sl am u an) 9 1 u.length bb,.stk br (sl x c y) 81 c.length bd,.row (zz wi) (sl ao l ap) 47 11 l.length bv]∧ay.drop ar=az∧tF B aA aB au∧av.size ≤ mB∧tP B aE aF aw∧tS B aJ aK ax∧Reps RStr 1 u bb∧u.length * 16 ≤ mB∧StkR kS VInt c bd∧c.length * 8 ≤ mB∧Reps (RDStmt B) 11 l bv∧l.length * 184 ≤ mB∧f1004866_l1 k F az ar au av aw aG aH aI ax u c aL l=some r_) ay.length ?_ ?_
  ·exact ⟨_,K,ay,0,X,Y,Z,ab,ac,ad,ae,af,ag,ah,ai,aj,ak,f,q,s,aq,(d ++ [([]:List (BA × Int))]),bq,bu,b3,al,([]:LS),none,0,[],rfl,fR,kr,(cU.sel [2,3,1,0]),List.drop_zero,bW,bX,bY,bZ,b0,b1,b4,(app_bound bD),(reps0 (R:=(RDStmt K)) (size:=11)),(by simp),h⟩
  ·rintro _ _ b6 ⟨b5,B,az,ar,au,aA,aB,av,aw,aE,aF,aG,aH,aI,ax,aJ,aK,u,am,an,bb,c,x,y,bd,aL,l,ao,ap,bv,rfl,rfl,bz,bH,be,b7,b8,b9,cb,cc,ce,bI,cf,ch,cV,h⟩
   rcases az with _ | ⟨⟨aM,aN,aP,aQ,aR,aS,aT,aU,aV,aW,aX⟩,az⟩
   ·unfold f1004866_l1 at h
    refine sr (bcm (r:=false) rfl rfl (congrArg some (drop_nil_lt be)) (wt (wp_seq (cndF rfl (wp_exit (thenX (thenX (blkX (thenN (wp_seq (have t:=bH.drew;(regAny (E:=[14]) (F:=FW B [.box bs g (vR aA au aB av aE aw aF aG aH aI aJ ax aK am u an x c y aL).toArray 84,.row br (sl am u an) 9 1 u.length bb,.stk br (sl x c y) 81 c.length bd,.row (zz wi) (sl ao l ap) 47 11 l.length bv]) (L:=(lb 15 0)) ymx rfl rfl (tk 0 (pp g 0) (lb 15 1) rfl (fun w=>mv_r (v:=pp g 0) rfl) (heldF (fq [0,1,2,3] t)) (tk 1 (pp g 0) (lb 15 3) rfl (fun w=>mv_r (v:=pp g 0) rfl) (heldF (fq [0,1,2,3] t)) (tk 2 (pp g 0) (lb 15 7) rfl (fun w=>nilc_r rfl) (heldF (fq [0,1,2,3] t)) (tk 3 (pp g 8) (lb 15 15) rfl (fun w=>fld_r (o':=8) Tyf84_3 rfl rfl) (heldF (fq [0,1,2,3] t)) (tf 4 (sl x c y) ([[14,4]]) (lb 15 31) rfl (fq [0,1,2,3] t) (fun w hF=>lb1_r (i:=0) (v:=sl x c y) hF rfl Tya82 rfl rfl) (tk 5 (pp g 0) (lb 15 63) rfl (fun w=>mv_r (v:=pp g 0) rfl) (heldF (fq [0,1,2,3] t)) (tk 6 (pp g 0) (lb 15 127) rfl (fun w=>nilc_r rfl) (heldF (fq [0,1,2,3] t)) (tk 7 (pp g 8) (lb 15 255) rfl (fun w=>fld_r (o':=8) Tyf84_3 rfl rfl) (heldF (fq [0,1,2,3] t)) (tf 8 (sl x c y) ([[14,8]]) (lb 15 511) rfl (fq [0,1,2,3] t) (fun w hF=>lb1_r (i:=0) (v:=sl x c y) hF rfl Tya82 rfl rfl) (tk 9 (iI (c.length:Int)) (lb 15 1023) rfl (fun w=>lnS_r (len:=c.length) Tye82 rfl) (heldF (fq [0,1,2,3] t)) (tk 10 (iI (w64 ((c.length:Int) - 1))) (lb 15 2047) rfl (fun w=>bar_r (r:=(w64 ((c.length:Int) - 1))) rfl rfl rfl) (heldF (fq [0,1,2,3] t)) ?_)))))))))))))))))))))))
    obtain ⟨bA,h⟩:=of_guard h
    refine tk 11 (.slice x (c.take (w64 ((c.length:Int) - 1)).toNat).length y) (lb 15 4095) rfl (fun w=>slH_r (m:=(c.take (w64 ((c.length:Int) - 1)).toNat).length) Tye82 Tys81 rfl rfl bA.1 (Int.le_trans bA.2 (Int.ofNat_le.2 (stk_cap (i:=2) t rfl))) (take_len bA)) (heldF (fq [0,1,2,3] t)) (tk 12 (pp g 0) (lb 15 8191) rfl (fun w=>nilc_r rfl) (heldF (fq [0,1,2,3] t)) (tk 13 (pp g 8) (lb 15 16383) rfl (fun w=>fld_r (o':=8) Tyf84_3 rfl rfl) (heldF (fq [0,1,2,3] t)) (aO 14 rfl (have cW:=t.cutM (i:=2) (m:=(w64 ((c.length:Int) - 1)).toNat) rfl bI (by have:=bA.2; omega);(sI 0 (.slice x (c.take (w64 ((c.length:Int) - 1)).toNat).length y) ((vR aA au aB av aE aw aF aG aH aI aJ ax aK am u an x (c.take (w64 ((c.length:Int) - 1)).toNat) y aL).toArray) cW Tys82 rfl rfl (fun ep cX=>(wt ⟨heldE (i:=14) rfl rfl,aD (thenN (sr (m1 (sl ao l ap) (m2 (sl ao l ap) (wt (wp_ret ?_))))))⟩)))))))
    obtain ⟨cY,cZ,bJ,c2⟩:=shutI (i:=3) (bytes:=184) (R:=fun K=>(RDStmt K)) cX rfl (Nat.le_refl _) ch cV (fun hs=>(fun _ _ h=>RDStmt.mono hs h))
    exact retP (retA1 rfl (resT rfl) ⟨au,av,aw,aG,aH,aI,ax,u,(c.take (w64 ((c.length:Int) - 1)).toNat),aL,l,cY,aA,aB,aE,aF,aJ,aK,am,an,bb,x,y,(bd.take (w64 ((c.length:Int) - 1)).toNat),ao,ap,(oi h).symm,rfl,cZ,(mf b7 bJ),b8,(mp b9 bJ),(ms cb bJ),(cc.mono (fun _ _ h=>h)),ce,(StkR.mono (fun _ _ h=>h) (StkR.take (w64 ((c.length:Int) - 1)).toNat bI)),(take_bound cf),c2⟩)
   ·unfold f1004866_l1 at h
    refine sr (bcm (r:=true) rfl rfl (congrArg some (drop_cons_t be)) (wt (wp_seq (cndT rfl (wp_skip (thenN (wp_seq (wp_block (sr ?_)))))))))
    obtain ⟨c3,c4,eq,c5,es,c7,c8⟩:=((ms b2 bz)).row.at_ (drop_cons_at be)
    obtain ⟨aY,aZ,a0,a3,a4,a5,a6,a7,a8,a9,rfl,c9,da,db,dc,dd,de,df⟩:=RDStmt.open c8
    refine idxN (b:=c3) (o:=c4) (i:=ar) Tye32 Tys47 rfl c5 rfl (drop_cons_lt be) (lD (vS aM aN aP aQ aR aS aY aT aZ a0 aU a3 a4 aV a5 a6 aW a7 a8 aX a9) Tya47 Tys47 rfl (fun j v hj=>bH.cell (kr.cell (c7 j v hj))) (aC zS.toArray bH Tyz47 (fun et dg=>(sI 0 (.agg (vS aM aN aP aQ aR aS aY aT aZ a0 aU a3 a4 aV a5 a6 aW a7 a8 aX a9).toArray) ((vS aM aN aP aQ aR aS aY aT aZ a0 aU a3 a4 aV a5 a6 aW a7 a8 aX a9).toArray) dg Tys47 rfl rfl (fun dh bK=>(wt (sr (m1 (pp g 0) (lN 0 (vS aM aN aP aQ aR aS aY aT aZ a0 aU a3 a4 aV a5 a6 aW a7 a8 aX a9) bK Tya47 Tys47 ?_)))))))))
    have bL:=p12304 bK
    obtain ⟨eu,di,h⟩:=ob h
    refine cp ([pp g 0,.agg (vS aM aN aP aQ aR aS aY aT aZ a0 aU a3 a4 aV a5 a6 aW a7 a8 aX a9).toArray]) Tyb39 (IH39 di (hG.mono bz) b7 b8 b9 cb cc ce bI cf (Nat.le_trans hbr bK.size) (RDStmt.intro c9 da db dc dd de df) (pt bL)) ?_ ?_
    ·rintro _ dj ⟨ci,cj,ck,cl,cm,cn,co,bB,bC,cq,⟨C,D,G,I,J,N,O,S,U,V,W⟩,bM,cr,cs,ct,cu,cw,cx,bN,bO,cy,bP,bQ,cz,ew,rfl,rfl,bR,dk,dl,dm,dn,dp,dq,dr,ds,dt⟩
     have du:=ca bR bL
     obtain ⟨bf,bg,bh,bi,bj,bk,bm,bn,bo,bp,rfl,dv,dw,dx,dy,dz,dA,dB⟩:=RDStmt.open dt
     refine aC zS.toArray du Tyz47 (fun ex dC=>(sI 0 (.agg (vS C D G I J N bf O bg bh S bi bj U bk bm V bn bo W bp).toArray) ((vS C D G I J N bf O bg bh S bi bj U bk bm V bn bo W bp).toArray) dC Tys47 rfl rfl (fun ey cA=>(wt (wp_region_lit (m1 (sl ao l ap) (lN 0 (vS C D G I J N bf O bg bh S bi bj U bk bm V bn bo W bp) cA Tya47 Tys47 (bsl (e:=47) (cells:=(vS C D G I J N bf O bg bh S bi bj U bk bm V bn bo W bp).toArray) (vs:=[(0,.agg (vS C D G I J N bf O bg bh S bi bj U bk bm V bn bo W bp).toArray)]) cA rfl (buildSl_one Tye32 Tys47 Tyz47 rfl (by decide) (by decide) rfl) (fun ez dD=>?_)))))))))
     obtain ⟨cB,h⟩:=of_guard h
     refine apR (R:=(RDStmt bM)) (p:=(DStmt.mk C D G I J N O S U V W)) (i:=6) (j:=0) dD rfl rfl Tye32 Tyi47 rfl (by decide) rfl rfl (ch.mono (fun _ _ h=>RDStmt.mono bR.sub h)) (RDStmt.intro dv dw dx dy dz dA dB) rfl rfl (Nat.le_refl _) cB (by decide) (fun bS bT cC dE dF dG=>?_)
     have dH:=p123456 dF
     exact m2 (.slice bS (l ++ [(DStmt.mk C D G I J N O S U V W)]).length bT) (wpList_nil (blkN (thenN (wp_region_lit (bar (r:=((ar + 1:Nat):Int)) rfl rfl (inc_ok (le_big (((ms b2 bz)).len) (by decide) (drop_cons_lt be))) (m1 (iI ((ar + 1:Nat):Int)) (wt (⟨_,Nat.lt_succ_self _,_,bM,az,ar + 1,ci,cr,cs,cj,ck,ct,cu,cl,cm,cn,co,cw,cx,bB,bN,bO,cy,bC,bP,bQ,cz,cq,(l ++ [(DStmt.mk C D G I J N O S U V W)]),bS,bT,cC,rfl,fR,(bz.trans bR.sub),(dH.sel [1,2,3,5]),drop_cons_next be,dk,dl,dm,dn,dp,dq,dr,ds,dG,(app_bound cB),h⟩))))))))
    ·rintro _ eA ⟨dI,dJ,rfl,rfl,dK⟩
     have dL:=ca dK bL
     exact thenP (blkP (thenP (thenP (blkP (thenP (panE (.inr ⟨_,rfl,dI,dJ,(oi h).symm,rfl,dL.sel []⟩)))))))
theorem f1004884_b_ok (k:Nat) (F:Fam39) (IH39:f39_spec F.f39) (IH1004815:f1004815_spec F.f1004815) (IH1004866:f1004866_spec F.f1004866) (IH1004884:f1004884_spec F.f1004884) (IH1005015:f1005015_spec F.f1005015) (IH1005066:f1005066_spec F.f1005066):f1004884_spec (f1004884_b k F):=by
 unfold f1004884_spec
 intro K wi g bs br Y Z ab ac ad ae af ag ah ai aj ak al f q s an d u x aF am bI ao b3 b4 gA bsA sA_0 sA_1 sA_2 sA_3 AsA_3 csA_3 sA_4 AsA_4 csA_4 r_ h hG cq cr cs ct cu cw db eW hbr dc cx hsA_1 hsA_3 hsA_4 bJ
 refine enter Tryd.func48 rfl (n:=59) rfl ?_
 unfold f1004884_b at h
 refine sr (m2 nS (wt (sr (m1 (pp g 0) (m1 (pp g 0) (nilc rfl (fd 8 Tyf84_3 rfl (l1 0 (sl u d x) bJ Tya82 (mkm bJ (fun dd bJ=>(bsl (e:=81) (cells:=#[.map (some (zz wi))]) (vs:=[(0,.map (some (zz wi)))]) bJ rfl (buildSl_one Tye82 Tys81 Tyz81 rfl (by decide) (by decide) rfl) (fun de df=>?_))))))))))))
 have dg:=p401235 df
 obtain ⟨b5,h⟩:=of_guard h
 refine pushM (kv:=kS) (R:=VInt) dg db (mapr0 (kv:=kS) (R:=VInt)) Tye82 Tyi81 rfl rfl rfl hbr hbr b5 (by decide) (fun bz bA cy eX dh cz=>(nilc rfl (fd 8 Tyf84_3 rfl (sI 1 (.slice bz (d ++ [([]:List (BA × Int))]).length bA) ((vR Z Y ab ac ae ad af ag ah ai ak aj al q f s bz (d ++ [([]:List (BA × Int))]) bA am).toArray) dh Tys82 rfl rfl (fun di b6=>(wt (wp_cut (fun a w=>∃ cA B bB bK bL bC bD bM bN bO bP bQ bE bR bS aw bT bU bV ax bW bX bY bZ ap,a=fr 59 (updL cA [(0,pp g 0),(2,sl b3 ao b4)])∧KH.sub K B∧SR K B wi w [.box bs g (vR Z Y ab ac ae ad af ag ah ai ak aj al q f s u d x am).toArray 84,.row br (sl q f s) 9 1 f.length an,.stk br (sl u d x) 81 d.length aF,.box bsA gA (vC sA_0 sA_1 sA_2 AsA_3 sA_3 csA_3 AsA_4 sA_4 csA_4).toArray 56] [.box bs g (vR bK bB bL bC bM bD bN bO bP bQ bR bE bS bT aw bU bW ax bX bZ).toArray 84,.box bsA gA (vC sA_0 sA_1 ap AsA_3 sA_3 csA_3 AsA_4 sA_4 csA_4).toArray 56,.row br (sl bT aw bU) 9 1 aw.length bV,.stk br (sl bW ax bX) 81 ax.length bY]∧tF B bK bL bB∧bC.size ≤ mB∧tP B bM bN bD∧tS B bR bS bE∧Reps RStr 1 aw bV∧aw.length * 16 ≤ mB∧StkR kS VInt ax bY∧ax.length * 8 ≤ mB∧f1004884_j1 k F ao sA_0 sA_1 sA_3 sA_4 bB bC bD bO bP bQ bE aw ax bZ ap=some r_) ?_ ?_)))))))
 ·refine sr (m1 (.string bI) (bsc (r:=(!seq bI ⟨#[]⟩)) rfl rfl rfl (wt (cd h (fun b7 h=>?_) (fun b7 h=>?_)))))
  ·refine cT b7 (wp_region_lit (m1 (pp gA 2) (m1 (pp g 0) (m1 (.string bI) ?_))))
   have b8:=p1203 b6
   obtain ⟨eY,dj,h⟩:=ob h
   refine cp ([pp g 0,.string bI]) Tyb37 ((f37_ok k) dj (hG.mono kr) cq cr cs ct cu cw cz (app_bound b5) (Nat.le_trans hbr b6.size) dc (pt b8)) ?_ ?_
   ·rintro _ eZ ⟨dk,dl,dm,dn,dp,dq,dr,ds,dt,du,b9,dv,dw,dx,dy,dz,dA,dB,dC,dD,dE,dF,dG,dH,rfl,rfl,cB,dI,dJ,dK,dL,dM,dN,dO,dP⟩
    have dQ:=ca cB b8
    exact nilc rfl (sI 3 (iI b9) ((vC sA_0 sA_1 b9 AsA_3 sA_3 csA_3 AsA_4 sA_4 csA_4).toArray) dQ Tys3 rfl rfl (fun e0 dR=>(wt (⟨_,dv,dk,dw,dx,dl,dm,dy,dz,dn,dp,dq,dr,dA,dB,ds,dC,dD,dE,dt,dF,dG,dH,du,b9,fR,cB.sub,(dR.sel [0,3,1,2]),dI,dJ,dK,dL,dM,dN,dO,dP,h⟩))))
   ·rintro _ e1 ⟨dS,dT,rfl,rfl,dU⟩
    have dV:=ca dU b8
    exact thenP (panE (.inr ⟨_,rfl,dS,dT,(oi h).symm,rfl,dV.sel []⟩))
  ·exact cF b7 (wp_skip (thenN (⟨_,K,Y,Z,ab,ac,ad,ae,af,ag,ah,ai,aj,ak,al,f,q,s,an,(d ++ [([]:List (BA × Int))]),bz,bA,cy,am,sA_2,fR,kr,(b6.sel [1,3,2,0]),cq,cr,cs,ct,cu,cw,cz,(app_bound b5),h⟩)))
 ·rintro _ e2 ⟨cA,B,bB,bK,bL,bC,bD,bM,bN,bO,bP,bQ,bE,bR,bS,aw,bT,bU,bV,ax,bW,bX,bY,bZ,ap,rfl,bF,dW,dX,dY,dZ,d0,d1,d2,d3,d4,h⟩
  unfold f1004884_j1 at h
  refine sr (m2 nS (wt (wp_seq (sr (m1 (sl b3 ao b4) (lS ao.length Tye32 (m1 (iI 0) (wt (wp_block ?_)))))))))
  have d5:=dW.row_ (zz wi) 47 11
  refine wp_loopG (fun g_ a w=>∃ cC C aG,∃ (ay:Nat),∃ az aH aI aA aB aJ aK aL aM aN aE aP aQ y aq ar bg c z A bh aR l au av bG,g_=aG.length∧a=fr 59 (updL cC [(0,pp g 0),(9,sl au l av),(30,sl b3 ao b4),(31,iI (ao.length:Int)),(32,iI (ay:Int))])∧KH.sub B C∧SR K C wi w [.box bs g (vR Z Y ab ac ae ad af ag ah ai ak aj al q f s u d x am).toArray 84,.row br (sl q f s) 9 1 f.length an,.stk br (sl u d x) 81 d.length aF,.box bsA gA (vC sA_0 sA_1 sA_2 AsA_3 sA_3 csA_3 AsA_4 sA_4 csA_4).toArray 56] [.box bs g (vR aH az aI aA aJ aB aK aL aM aN aP aE aQ aq y ar z c A aR).toArray 84,.box bsA gA (vC sA_0 sA_1 ap AsA_3 sA_3 csA_3 AsA_4 sA_4 csA_4).toArray 56,.row br (sl aq y ar) 9 1 y.length bg,.stk br (sl z c A) 81 c.length bh,.row (zz wi) (sl au l av) 47 11 l.length bG]∧ao.drop ay=aG∧tF C aH aI az∧aA.size ≤ mB∧tP C aJ aK aB∧tS C aP aQ aE∧Reps RStr 1 y bg∧y.length * 16 ≤ mB∧StkR kS VInt c bh∧c.length * 8 ≤ mB∧Reps (RDStmt C) 11 l bG∧l.length * 184 ≤ mB∧f1004884_l1 k F sA_0 sA_1 sA_3 sA_4 ap aG ay az aA aB aL aM aN aE y c aR l=some r_) ao.length ?_ ?_
  ·exact ⟨_,B,ao,0,bB,bK,bL,bC,bD,bM,bN,bO,bP,bQ,bE,bR,bS,aw,bT,bU,bV,ax,bW,bX,bY,bZ,([]:LS),none,0,[],rfl,fR,kr,(d5.sel [1,2,3,4,0]),List.drop_zero,dX,dY,dZ,d0,d1,d2,d3,d4,(reps0 (R:=(RDStmt B)) (size:=11)),(by simp),h⟩
  ·rintro _ _ cD ⟨cC,C,aG,ay,az,aH,aI,aA,aB,aJ,aK,aL,aM,aN,aE,aP,aQ,y,aq,ar,bg,c,z,A,bh,aR,l,au,av,bG,rfl,rfl,bi,cb,bj,cG,cH,cI,cJ,cK,cL,cc,cM,cN,d6,h⟩
   rcases aG with _ | ⟨⟨aS,aT,aU,aV,aW,aX,aY,aZ,a0,a3,a4⟩,aG⟩
   ·unfold f1004884_l1 at h
    refine sr (bcm (r:=false) rfl rfl (congrArg some (drop_nil_lt bj)) (wt (wp_seq (cndF rfl (wp_exit (thenX (thenX (blkX (thenN (wp_seq (have t:=cb.drew;(regAny (E:=[14]) (F:=FW C [.box bs g (vR aH az aI aA aJ aB aK aL aM aN aP aE aQ aq y ar z c A aR).toArray 84,.box bsA gA (vC sA_0 sA_1 ap AsA_3 sA_3 csA_3 AsA_4 sA_4 csA_4).toArray 56,.row br (sl aq y ar) 9 1 y.length bg,.stk br (sl z c A) 81 c.length bh,.row (zz wi) (sl au l av) 47 11 l.length bG]) (L:=(lb 15 0)) ymx rfl rfl (tk 0 (pp g 0) (lb 15 1) rfl (fun w=>mv_r (v:=pp g 0) rfl) (heldF (fq [0,1,2,3,4] t)) (tk 1 (pp g 0) (lb 15 3) rfl (fun w=>mv_r (v:=pp g 0) rfl) (heldF (fq [0,1,2,3,4] t)) (tk 2 (pp g 0) (lb 15 7) rfl (fun w=>nilc_r rfl) (heldF (fq [0,1,2,3,4] t)) (tk 3 (pp g 8) (lb 15 15) rfl (fun w=>fld_r (o':=8) Tyf84_3 rfl rfl) (heldF (fq [0,1,2,3,4] t)) (tf 4 (sl z c A) ([[14,4]]) (lb 15 31) rfl (fq [0,1,2,3,4] t) (fun w hF=>lb1_r (i:=0) (v:=sl z c A) hF rfl Tya82 rfl rfl) (tk 5 (pp g 0) (lb 15 63) rfl (fun w=>mv_r (v:=pp g 0) rfl) (heldF (fq [0,1,2,3,4] t)) (tk 6 (pp g 0) (lb 15 127) rfl (fun w=>nilc_r rfl) (heldF (fq [0,1,2,3,4] t)) (tk 7 (pp g 8) (lb 15 255) rfl (fun w=>fld_r (o':=8) Tyf84_3 rfl rfl) (heldF (fq [0,1,2,3,4] t)) (tf 8 (sl z c A) ([[14,8]]) (lb 15 511) rfl (fq [0,1,2,3,4] t) (fun w hF=>lb1_r (i:=0) (v:=sl z c A) hF rfl Tya82 rfl rfl) (tk 9 (iI (c.length:Int)) (lb 15 1023) rfl (fun w=>lnS_r (len:=c.length) Tye82 rfl) (heldF (fq [0,1,2,3,4] t)) (tk 10 (iI (w64 ((c.length:Int) - 1))) (lb 15 2047) rfl (fun w=>bar_r (r:=(w64 ((c.length:Int) - 1))) rfl rfl rfl) (heldF (fq [0,1,2,3,4] t)) ?_)))))))))))))))))))))))
    obtain ⟨b0,h⟩:=of_guard h
    refine tk 11 (.slice z (c.take (w64 ((c.length:Int) - 1)).toNat).length A) (lb 15 4095) rfl (fun w=>slH_r (m:=(c.take (w64 ((c.length:Int) - 1)).toNat).length) Tye82 Tys81 rfl rfl b0.1 (Int.le_trans b0.2 (Int.ofNat_le.2 (stk_cap (i:=3) t rfl))) (take_len b0)) (heldF (fq [0,1,2,3,4] t)) (tk 12 (pp g 0) (lb 15 8191) rfl (fun w=>nilc_r rfl) (heldF (fq [0,1,2,3,4] t)) (tk 13 (pp g 8) (lb 15 16383) rfl (fun w=>fld_r (o':=8) Tyf84_3 rfl rfl) (heldF (fq [0,1,2,3,4] t)) (aO 14 rfl (have d7:=t.cutM (i:=3) (m:=(w64 ((c.length:Int) - 1)).toNat) rfl cc (by have:=b0.2; omega);(sI 0 (.slice z (c.take (w64 ((c.length:Int) - 1)).toNat).length A) ((vR aH az aI aA aJ aB aK aL aM aN aP aE aQ aq y ar z (c.take (w64 ((c.length:Int) - 1)).toNat) A aR).toArray) d7 Tys82 rfl rfl (fun e3 d8=>(wt ⟨heldE (i:=14) rfl rfl,aD (thenN (sr (m1 (sl au l av) (m2 (sl au l av) (wt (wp_ret ?_))))))⟩)))))))
    obtain ⟨d9,ea,bH,ec⟩:=shutI (i:=4) (bytes:=184) (R:=fun K=>(RDStmt K)) d8 rfl (Nat.le_refl _) cN d6 (fun hs=>(fun _ _ h=>RDStmt.mono hs h))
    exact retP (retA1 rfl (resT rfl) ⟨az,aA,aB,aL,aM,aN,aE,y,(c.take (w64 ((c.length:Int) - 1)).toNat),aR,sA_0,sA_1,ap,sA_3,sA_4,l,d9,aH,aI,aJ,aK,aP,aQ,aq,ar,bg,z,A,(bh.take (w64 ((c.length:Int) - 1)).toNat),AsA_3,csA_3,AsA_4,csA_4,au,av,(oi h).symm,rfl,(ea.sel [0,2,3,1]),(mf cG bH),cH,(mp cI bH),(ms cJ bH),(cK.mono (fun _ _ h=>h)),cL,(StkR.mono (fun _ _ h=>h) (StkR.take (w64 ((c.length:Int) - 1)).toNat cc)),(take_bound cM),hsA_1,(me hsA_3 ((bF.trans bi).trans bH)),(ms hsA_4 ((bF.trans bi).trans bH)),ec⟩)
   ·unfold f1004884_l1 at h
    refine sr (bcm (r:=true) rfl rfl (congrArg some (drop_cons_t bj)) (wt (wp_seq (cndT rfl (wp_skip (thenN (wp_seq (wp_block (sr ?_)))))))))
    obtain ⟨ed,ee,e4,ef,e5,eg,eh⟩:=((ms cx (bF.trans bi))).row.at_ (drop_cons_at bj)
    obtain ⟨a5,a6,a7,a8,a9,ba,bb,bd,be,bf,rfl,ei,ej,ek,el,em,en,eo⟩:=RDStmt.open eh
    refine idxN (b:=ed) (o:=ee) (i:=ay) Tye32 Tys47 rfl ef rfl (drop_cons_lt bj) (lD (vS aS aT aU aV aW aX a5 aY a6 a7 aZ a8 a9 a0 ba bb a3 bd be a4 bf) Tya47 Tys47 rfl (fun j v hj=>cb.cell (kr.cell (eg j v hj))) (aC zS.toArray cb Tyz47 (fun e6 ep=>(sI 0 (.agg (vS aS aT aU aV aW aX a5 aY a6 a7 aZ a8 a9 a0 ba bb a3 bd be a4 bf).toArray) ((vS aS aT aU aV aW aX a5 aY a6 a7 aZ a8 a9 a0 ba bb a3 bd be a4 bf).toArray) ep Tys47 rfl rfl (fun eq ce=>(wt (sr (m1 (pp g 0) (lN 0 (vS aS aT aU aV aW aX a5 aY a6 a7 aZ a8 a9 a0 ba bb a3 bd be a4 bf) ce Tya47 Tys47 ?_)))))))))
    have cf:=p134025 ce
    obtain ⟨e7,es,h⟩:=ob h
    refine cp ([pp g 0,.agg (vS aS aT aU aV aW aX a5 aY a6 a7 aZ a8 a9 a0 ba bb a3 bd be a4 bf).toArray]) Tyb39 (IH39 es (hG.mono (bF.trans bi)) cG cH cI cJ cK cL cc cM (Nat.le_trans hbr ce.size) (RDStmt.intro ei ej ek el em en eo) (pt cf)) ?_ ?_
    ·rintro _ et ⟨cO,cP,cQ,cR,cS,cU,cV,b1,b2,cW,⟨D,G,I,J,N,O,S,U,V,W,X⟩,ch,cX,cY,cZ,c2,c3,c4,ci,cj,c5,ck,cl,c7,e8,rfl,rfl,cm,eu,ew,ex,ey,ez,eA,eB,eC,eD⟩
     have eE:=ca cm cf
     obtain ⟨bk,bm,bn,bo,bp,bq,bu,bv,bw,bx,rfl,eF,eG,eH,eI,eJ,eK,eL⟩:=RDStmt.open eD
     refine aC zS.toArray eE Tyz47 (fun e9 eM=>(sI 0 (.agg (vS D G I J N O bk S bm bn U bo bp V bq bu W bv bw X bx).toArray) ((vS D G I J N O bk S bm bn U bo bp V bq bu W bv bw X bx).toArray) eM Tys47 rfl rfl (fun fa c8=>(wt (wp_region_lit (m1 (sl au l av) (lN 0 (vS D G I J N O bk S bm bn U bo bp V bq bu W bv bw X bx) c8 Tya47 Tys47 (bsl (e:=47) (cells:=(vS D G I J N O bk S bm bn U bo bp V bq bu W bv bw X bx).toArray) (vs:=[(0,.agg (vS D G I J N O bk S bm bn U bo bp V bq bu W bv bw X bx).toArray)]) c8 rfl (buildSl_one Tye32 Tys47 Tyz47 rfl (by decide) (by decide) rfl) (fun fb eN=>?_)))))))))
     obtain ⟨c9,h⟩:=of_guard h
     refine apR (R:=(RDStmt ch)) (p:=(DStmt.mk D G I J N O S U V W X)) (i:=7) (j:=0) eN rfl rfl Tye32 Tyi47 rfl (by decide) rfl rfl (cN.mono (fun _ _ h=>RDStmt.mono cm.sub h)) (RDStmt.intro eF eG eH eI eJ eK eL) rfl rfl (Nat.le_refl _) c9 (by decide) (fun cn co da eO eP eQ=>?_)
     have eR:=p1234567 eP
     exact m2 (.slice cn (l ++ [(DStmt.mk D G I J N O S U V W X)]).length co) (wpList_nil (blkN (thenN (wp_region_lit (bar (r:=((ay + 1:Nat):Int)) rfl rfl (inc_ok (le_big (((ms cx (bF.trans bi))).len) (by decide) (drop_cons_lt bj))) (m1 (iI ((ay + 1:Nat):Int)) (wt (⟨_,Nat.lt_succ_self _,_,ch,aG,ay + 1,cO,cX,cY,cP,cQ,cZ,c2,cR,cS,cU,cV,c3,c4,b1,ci,cj,c5,b2,ck,cl,c7,cW,(l ++ [(DStmt.mk D G I J N O S U V W X)]),cn,co,da,rfl,fR,(bi.trans cm.sub),(eR.sel [1,5,2,3,6]),drop_cons_next bj,eu,ew,ex,ey,ez,eA,eB,eC,eQ,(app_bound c9),h⟩))))))))
    ·rintro _ fc ⟨eS,eT,rfl,rfl,eU⟩
     have eV:=ca eU cf
     exact thenP (blkP (thenP (thenP (blkP (thenP (panE (.inr ⟨_,rfl,eS,eT,(oi h).symm,rfl,eV.sel []⟩)))))))
theorem f1005015_b_ok (k:Nat) (F:Fam39) (IH39:f39_spec F.f39) (IH1004815:f1004815_spec F.f1004815) (IH1004866:f1004866_spec F.f1004866) (IH1004884:f1004884_spec F.f1004884) (IH1005015:f1005015_spec F.f1005015) (IH1005066:f1005066_spec F.f1005066):f1005015_spec (f1005015_b k F):=by
 unfold f1005015_spec
 intro K wi g bs br S U V W X Y Z ab ac ad ae af ag ah ai aj bu ak al am bv c i j l m gA bsA sA_0 sA_1 sA_2 sA_3 sA_4 sA_5 sA_6 AsA_6 csA_6 sA_7 AsA_7 csA_7 sA_8 AsA_8 csA_8 sA_9 AsA_9 csA_9 sA_10 AsA_10 csA_10 r_ h hG an ao ap aq ar au av aw hbr ax ay hsA_1 hsA_3 hsA_6 hsA_7 hsA_8 hsA_9 hsA_10 a
 refine enter Tryd.func50 rfl (n:=30) rfl ?_
 unfold f1005015_b at h
 refine sr (m2 nS (wt (sr (m1 (pp g 0) (nilc rfl (fd 9 Tyf84_4 rfl (l1 0 (iI c) a Tya3 (bar (r:=(w64 (c + 1))) rfl rfl rfl (nilc rfl (fd 9 Tyf84_4 rfl (sI 0 (iI (w64 (c + 1))) ((vR U S V W Y X Z ab ac ad af ae ag ai ah aj al ak am (w64 (c + 1))).toArray) a Tys3 rfl rfl (fun bw a=>(wt (sr (m1 (pp g 0) (m1 (.string i) (m1 (sl l j m) (m1 (pp gA 2) ?_))))))))))))))))))
 obtain ⟨bx,az,h⟩:=ob h
 refine cp ([pp g 0,.string i,sl l j m,pp gA 2]) Tyb48 (IH1004815 az (hG.mono kr) an ao ap aq ar au av aw (Nat.le_trans hbr a.size) ax ay hsA_1 hsA_3 hsA_6 hsA_7 hsA_8 hsA_9 hsA_10 (pt a)) ?_ ?_
 ·rintro _ bz ⟨o,p,q,s,t,u,v,w,x,b,aA,aB,aE,aF,aG,aH,aI,aJ,aK,aL,aM,d,aN,y,z,A,B,C,D,G,I,aP,J,N,aQ,aR,aS,aT,aU,aV,aW,aX,aY,aZ,a0,e,f,rfl,rfl,a3,a4,a5,a6,a7,a8,a9,ba,bb,bd,be,bf,bg,bh,bi,bj,bk⟩
  have O:=ca a3 a
  exact m2 (sl e d f) (wt (sr (m1 (pp g 0) (nilc rfl (fd 9 Tyf84_4 rfl (l1 0 (iI b) O Tya3 (bar (r:=(w64 (b - 1))) rfl rfl rfl (nilc rfl (fd 9 Tyf84_4 rfl (sI 0 (iI (w64 (b - 1))) ((vR y o z p A q B s t u C v D G w I J x N (w64 (b - 1))).toArray) O Tys3 rfl rfl (fun bA bm=>(wt (sr (m1 (sl e d f) (m2 (sl e d f) (wt (wp_ret (retP (retA1 rfl (resT rfl) ⟨o,p,q,s,t,u,v,w,x,(w64 (b - 1)),aA,aB,aE,aF,aG,aH,aI,aJ,aK,aL,aM,d,aN,y,z,A,B,C,D,G,I,aP,J,N,aQ,aR,aS,aT,aU,aV,aW,aX,aY,aZ,a0,e,f,(oi h).symm,rfl,bm,a4,a5,a6,a7,a8,a9,ba,bb,bd,be,bf,bg,bh,bi,bj,bk⟩)))))))))))))))))))
 ·rintro _ bB ⟨bn,bo,rfl,rfl,bp⟩
  have bq:=ca bp a
  exact thenP (panE (.inr ⟨_,rfl,bn,bo,(oi h).symm,rfl,bq.sel []⟩))
theorem f1005066_b_ok (k:Nat) (F:Fam39) (IH39:f39_spec F.f39) (IH1004815:f1004815_spec F.f1004815) (IH1004866:f1004866_spec F.f1004866) (IH1004884:f1004884_spec F.f1004884) (IH1005015:f1005015_spec F.f1005015) (IH1005066:f1005066_spec F.f1005066):f1005066_spec (f1005066_b k F):=by
 unfold f1005066_spec
 intro K wi g bs br S U V W X Y Z ab ac ad ae af ag ah ai aj aV ak al am aW c i j l m r_ h hG an ao ap aq ar au av aw hbr ax ay a
 refine enter Tryd.func50 rfl (n:=30) rfl ?_
 unfold f1005066_b at h
 refine sr (m2 nS (wt (sr (m1 (pp g 0) (nilc rfl (fd 9 Tyf84_4 rfl (l1 0 (iI c) a Tya3 (bar (r:=(w64 (c + 1))) rfl rfl rfl (nilc rfl (fd 9 Tyf84_4 rfl (sI 0 (iI (w64 (c + 1))) ((vR U S V W Y X Z ab ac ad af ae ag ai ah aj al ak am (w64 (c + 1))).toArray) a Tys3 rfl rfl (fun aX a=>(wt (sr (m1 (pp g 0) (m1 (.string i) (m1 (sl l j m) (m1 (.pointer none) ?_))))))))))))))))))
 obtain ⟨aY,az,h⟩:=ob h
 refine cp ([pp g 0,.string i,sl l j m,.pointer none]) Tyb48 (IH1004866 az (hG.mono kr) an ao ap aq ar au av aw (Nat.le_trans hbr a.size) ax ay (pt a)) ?_ ?_
 ·rintro _ aZ ⟨o,p,q,s,t,u,v,w,x,b,d,aA,y,z,A,B,C,D,G,I,aB,J,N,aE,e,f,rfl,rfl,aF,aG,aH,aI,aJ,aK,aL,aM,aN,aP⟩
  have O:=ca aF a
  exact m2 (sl e d f) (wt (sr (m1 (pp g 0) (nilc rfl (fd 9 Tyf84_4 rfl (l1 0 (iI b) O Tya3 (bar (r:=(w64 (b - 1))) rfl rfl rfl (nilc rfl (fd 9 Tyf84_4 rfl (sI 0 (iI (w64 (b - 1))) ((vR y o z p A q B s t u C v D G w I J x N (w64 (b - 1))).toArray) O Tys3 rfl rfl (fun a0 aQ=>(wt (sr (m1 (sl e d f) (m2 (sl e d f) (wt (wp_ret (retP (retA1 rfl (resT rfl) ⟨o,p,q,s,t,u,v,w,x,(w64 (b - 1)),d,aA,y,z,A,B,C,D,G,I,aB,J,N,aE,e,f,(oi h).symm,rfl,aQ,aG,aH,aI,aJ,aK,aL,aM,aN,aP⟩)))))))))))))))))))
 ·rintro _ a3 ⟨aR,aS,rfl,rfl,aT⟩
  have aU:=ca aT a
  exact thenP (panE (.inr ⟨_,rfl,aR,aS,(oi h).symm,rfl,aU.sel []⟩))
theorem fam39_ok (k0:Nat) : ∀ k,f39_spec (fam39 k0 k).f39∧f1004815_spec (fam39 k0 k).f1004815∧f1004866_spec (fam39 k0 k).f1004866∧f1004884_spec (fam39 k0 k).f1004884∧f1005015_spec (fam39 k0 k).f1005015∧f1005066_spec (fam39 k0 k).f1005066:=by
 intro k
 induction k with
 | zero=>exact ⟨(by unfold f39_spec; intro _ _ _ _ _ _ _ _ _ _ _ _ _ _ _ _ _ _ _ _ _ _ _ _ _ _ _ _ _ _ h_; cases h_),(by unfold f1004815_spec; intro _ _ _ _ _ _ _ _ _ _ _ _ _ _ _ _ _ _ _ _ _ _ _ _ _ _ _ _ _ _ _ _ _ _ _ _ _ _ _ _ _ _ _ _ _ _ _ _ _ _ _ _ _ _ _ h_; cases h_),(by unfold f1004866_spec; intro _ _ _ _ _ _ _ _ _ _ _ _ _ _ _ _ _ _ _ _ _ _ _ _ _ _ _ _ _ _ _ _ h_; cases h_),(by unfold f1004884_spec; intro _ _ _ _ _ _ _ _ _ _ _ _ _ _ _ _ _ _ _ _ _ _ _ _ _ _ _ _ _ _ _ _ _ _ _ _ _ _ _ _ _ _ _ h_; cases h_),(by unfold f1005015_spec; intro _ _ _ _ _ _ _ _ _ _ _ _ _ _ _ _ _ _ _ _ _ _ _ _ _ _ _ _ _ _ _ _ _ _ _ _ _ _ _ _ _ _ _ _ _ _ _ _ _ _ _ _ _ _ _ h_; cases h_),(by unfold f1005066_spec; intro _ _ _ _ _ _ _ _ _ _ _ _ _ _ _ _ _ _ _ _ _ _ _ _ _ _ _ _ _ _ _ _ h_; cases h_)⟩
 | succ k ih=>exact ⟨f39_b_ok k0 (fam39 k0 k) ih.1 ih.2.1 ih.2.2.1 ih.2.2.2.1 ih.2.2.2.2.1 ih.2.2.2.2.2,f1004815_b_ok k0 (fam39 k0 k) ih.1 ih.2.1 ih.2.2.1 ih.2.2.2.1 ih.2.2.2.2.1 ih.2.2.2.2.2,f1004866_b_ok k0 (fam39 k0 k) ih.1 ih.2.1 ih.2.2.1 ih.2.2.2.1 ih.2.2.2.2.1 ih.2.2.2.2.2,f1004884_b_ok k0 (fam39 k0 k) ih.1 ih.2.1 ih.2.2.1 ih.2.2.2.1 ih.2.2.2.2.1 ih.2.2.2.2.2,f1005015_b_ok k0 (fam39 k0 k) ih.1 ih.2.1 ih.2.2.1 ih.2.2.2.1 ih.2.2.2.2.1 ih.2.2.2.2.2,f1005066_b_ok k0 (fam39 k0 k) ih.1 ih.2.1 ih.2.2.1 ih.2.2.2.1 ih.2.2.2.2.1 ih.2.2.2.2.2⟩
theorem f39_ok (k:Nat):f39_spec (f39 k):=(fam39_ok k k).1
theorem f1004815_ok (k:Nat):f1004815_spec (f1004815 k):=(fam39_ok k k).2.1
theorem f1004866_ok (k:Nat):f1004866_spec (f1004866 k):=(fam39_ok k k).2.2.1
theorem f1004884_ok (k:Nat):f1004884_spec (f1004884 k):=(fam39_ok k k).2.2.2.1
theorem f1005015_ok (k:Nat):f1005015_spec (f1005015 k):=(fam39_ok k k).2.2.2.2.1
theorem f1005066_ok (k:Nat):f1005066_spec (f1005066 k):=(fam39_ok k k).2.2.2.2.2
theorem f30_b_ok (k:Nat):f30_spec (f30_b k):=by
 unfold f30_spec
 intro K wi du fH dv fI r_ h hG dw dx dy
 obtain ⟨aE⟩:=du
 obtain ⟨aF,c1,rfl,dz⟩:=RDProgram.open dw
 obtain ⟨f,C,g,m,J,t⟩:=dv
 obtain ⟨N,O,G,I,rfl,ci,b7,cj⟩:=RDFunc.open dx
 refine enter Tryd.func30 rfl (n:=67) rfl ?_
 unfold f30_b at h
 refine sr (bxoC (cs:=#[sl aF aE c1]) dy rfl rfl (fun U dA=>(bxoC (cs:=(vF f N C O g m J G t I).toArray) dA rfl rfl (fun S dB=>(aC zF.toArray dB Tyz34 (fun bN ck=>(m2 nS (wt (sr (lN 2 ([sl aF aE c1]) ck Tya24 Tys24 (lN 1 (vF f N C O g m J G t I) ck Tya34 Tys34 (mkm ck (fun bO dC=>(bsl (e:=81) (cells:=#[.map (some (zz bN))]) (vs:=[(0,.map (some (zz bN)))]) dC rfl (buildSl_one Tye82 Tys81 Tyz81 rfl (by decide) (by decide) rfl) (fun u dD=>?_)))))))))))))))
 have dE:=p01234 dD
 obtain ⟨dF,dG⟩:=dE.oneM (mapr0 (kv:=kS) (R:=VInt))
 refine bld (cells:=#[sl aF aE c1,.string f,sl N C O,iI g,.bool m,iI J,sl G t I,nS,.slice (some ⟨(zz bO),0,none⟩) [([]:List (BA × Int))].length 1,iI 0]) (vs:=[(0,.agg #[sl aF aE c1]),(1,.agg (vF f N C O g m J G t I).toArray),(3,.slice (some ⟨(zz bO),0,none⟩) [([]:List (BA × Int))].length 1)]) rfl (fun w=>by kernel_rfl) (bxoC (cs:=#[sl aF aE c1,.string f,sl N C O,iI g,.bool m,iI J,sl G t I,nS,.slice (some ⟨(zz bO),0,none⟩) [([]:List (BA × Int))].length 1,iI 0]) dF rfl rfl (fun fJ cL=>(m2 (pp (zz u) 0) (wt (wp_seq (sr (fd 1 Tyf34_1 rfl (l1 3 (sl N C O) cL Tya31 (lS C.length Tye31 (m1 (iI 0) (wt (wp_block ?_))))))))))))
 have dH:=cL.row_ (zz wi) 9 1
 refine wp_loopG (fun g_ a w=>∃ cM am aG,∃ (ar:Nat),∃ bn bP bQ bo bp bR bS bT bU bV bq bW bX V br bs bY W bu bv bZ b0,g_=aG.length∧a=fr 67 (updL cM [(3,pp (zz U) 0),(4,pp (zz S) 0),(6,pp (zz u) 0),(20,sl N C O),(21,iI (C.length:Int)),(22,iI (ar:Int))])∧KH.sub K am∧SR K am wi w [] [.box (zz wi) (zz U) (vF f N C O g m J G t I).toArray 34,.box (zz wi) (zz S) zF.toArray 34,.box (zz wi) (zz u) (vR bP bn bQ bo bR bp bS bT bU bV bW bq bX br V bs bu W bv b0).toArray 84,.row (zz wi) (sl br V bs) 9 1 V.length bY,.stk (zz wi) (sl bu W bv) 81 W.length bZ]∧C.drop ar=aG∧tF am bP bQ bn∧bo.size ≤ mB∧tP am bR bS bp∧tS am bW bX bq∧Reps RStr 1 V bY∧V.length * 16 ≤ mB∧StkR kS VInt W bZ∧W.length * 8 ≤ mB∧f30_l1 k f C g m t aG ar bn bo bp bT bU bV bq V W b0=some r_) C.length ?_ ?_
 ·exact ⟨_,K,C,0,aE,aF,c1,f,C,N,O,g,m,J,t,G,I,([]:LB),none,0,[],[([]:List (BA × Int))],(some ⟨(zz bO),0,none⟩),1,[((zz bN),#[],0)],0,rfl,fR,kr,(dH.sel [4,3,1,0,2]),List.drop_zero,dz,ci,b7,cj,(reps0 (R:=RStr) (size:=1)),(by simp),dG,(by decide),h⟩
 ·rintro _ _ dI ⟨cM,am,aG,ar,bn,bP,bQ,bo,bp,bR,bS,bT,bU,bV,bq,bW,bX,V,br,bs,bY,W,bu,bv,bZ,b0,rfl,rfl,an,b1,bw,cN,cO,cP,cQ,cR,cS,cU,cV,h⟩
  rcases aG with _ | ⟨⟨bx,b8⟩,aG⟩
  ·unfold f30_l1 at h
   refine sr (bcm (r:=false) rfl rfl (congrArg some (drop_nil_lt bw)) (wt (wp_seq (cndF rfl (wp_exit (thenX (thenX (blkX (thenN (sr (fd 1 Tyf34_1 rfl (l1 0 (sl N C O) b1 Tya31 ?_))))))))))))
   obtain ⟨x,dJ,h⟩:=ob h
   refine cv ([sl N C O]) Tyb38 ((f38_ok k) dJ (hG.mono an) (mp b7 an) (pt b1)) ?_
   rintro _ fK ⟨cl,y,z,rfl,au,cW⟩
   have dK:=ca au b1
   refine fd 1 Tyf34_1 rfl (sI 0 (sl y x z) ((vF f y x z g m J G t I).toArray) dK Tys31 rfl rfl (fun fL cX=>(wt (sr (m2 nS (wt (wp_seq (sr (fd 5 Tyf34_5 rfl (l1 0 (sl G t I) cX Tya32 (lS t.length Tye32 (m1 (iI 0) (wt (wp_block ?_))))))))))))))
   have dL:=cX.row_ (zz wi) 47 11
   refine wp_loopG (fun g_ a w=>∃ cY X aH,∃ (av:Nat),∃ aw aI aJ ax ay aK aL aM aN aP az aQ aR c A B ap D Y Z aS aT d q s aq,g_=aH.length∧a=fr 67 (updL cY [(3,pp (zz U) 0),(4,pp (zz S) 0),(6,pp (zz u) 0),(9,sl q d s),(36,sl G t I),(37,iI (t.length:Int)),(38,iI (av:Int))])∧KH.sub cl X∧SR K X wi w [] [.box (zz wi) (zz U) (vF f y x z g m J G t I).toArray 34,.box (zz wi) (zz S) zF.toArray 34,.box (zz wi) (zz u) (vR aI aw aJ ax aK ay aL aM aN aP aQ az aR A c B Y D Z aT).toArray 84,.row (zz wi) (sl A c B) 9 1 c.length ap,.stk (zz wi) (sl Y D Z) 81 D.length aS,.row (zz wi) (sl q d s) 47 11 d.length aq]∧t.drop av=aH∧tF X aI aJ aw∧ax.size ≤ mB∧tP X aK aL ay∧tS X aQ aR az∧Reps RStr 1 c ap∧c.length * 16 ≤ mB∧StkR kS VInt D aS∧D.length * 8 ≤ mB∧Reps (RDStmt X) 11 d aq∧d.length * 184 ≤ mB∧f30_l2 k f g m x aH av aw ax ay aM aN aP az c D aT d=some r_) t.length ?_ ?_
   ·exact ⟨_,cl,t,0,bn,bP,bQ,bo,bp,bR,bS,bT,bU,bV,bq,bW,bX,V,br,bs,bY,W,bu,bv,bZ,b0,([]:LS),none,0,[],rfl,fR,kr,(dL.sel [1,2,3,4,5,0]),List.drop_zero,(mf cN au.sub),cO,(mp cP au.sub),(ms cQ au.sub),(cR.mono (fun _ _ h=>h)),cS,(StkR.mono (fun _ _ h=>h) cU),cV,(reps0 (R:=(RDStmt cl)) (size:=11)),(by simp),h⟩
   ·rintro _ _ cZ ⟨cY,X,aH,av,aw,aI,aJ,ax,ay,aK,aL,aM,aN,aP,az,aQ,aR,c,A,B,ap,D,Y,Z,aS,aT,d,q,s,aq,rfl,rfl,aU,cm,bz,dM,dN,dO,dP,cn,co,dQ,dR,cq,c2,h⟩
    rcases aH with _ | ⟨⟨aV,aW,aX,aY,aZ,a2,a3,a4,a5,a6,a7⟩,aH⟩
    ·unfold f30_l2 at h
     refine sr (bcm (r:=false) rfl rfl (congrArg some (drop_nil_lt bz)) (wt (wp_seq (cndF rfl (wp_exit (thenX (thenX (blkX (thenN (sr (m1 (sl q d s) (fd 5 Tyf34_5 rfl (sI 0 (sl q d s) ((vF f y x z g m J q d s).toArray) cm Tys32 rfl rfl (fun fM c3=>(wt (sr (m1 (pp (zz u) 0) (nilc rfl (fd 7 Tyf84_2 rfl (l1 2 (sl A c B) c3 Tya38 (lS c.length Tye38 (fd 4 Tyf34_4 rfl (sI 0 (iI (c.length:Int)) ((vF f y x z g m (c.length:Int) q d s).toArray) c3 Tys3 rfl rfl (fun fN b9=>(wt (sr (fd 4 Tyf34_4 rfl (l1 0 (iI (c.length:Int)) b9 Tya3 (c0 (decide ((c.length:Int) ≤ 32)) ?_)))))))))))))))))))))))))))))
     obtain ⟨fO,dS,h⟩:=ob h
     refine cp ([.bool (decide ((c.length:Int) ≤ 32)),iI 5]) Tyb25 ((f25_ok k) dS (hG.mono ((an.trans au.sub).trans aU)) (pt b9)) ?_ ?_
     ·rintro _ fP ⟨a8,rfl,rfl,b2⟩
      have dT:=ca b2 b9
      refine wt (wp_cut (fun a w=>∃ c4 a9 ba b3 b4 bA bB bC ao b5 b6 cr aA cb cc ct,a=fr 67 (updL c4 [(4,pp (zz S) 0),(5,sl cb aA cc)])∧SR K a8 wi w [] [.box (zz wi) (zz S) (vF a9 b3 ba b4 bA bB bC b5 ao b6).toArray 34,.row (zz wi) (sl b5 ao b6) 47 11 ao.length cr,.row (zz wi) (sl cb aA cc) 9 1 aA.length ct]∧a9.size ≤ mB∧tP a8 b3 b4 ba∧Reps (RDStmt a8) 11 ao cr∧ao.length * 184 ≤ mB∧Reps RStr 1 aA ct∧aA.length * 16 ≤ mB∧f30_j1 k a9 ba bA bB bC ao aA=some r_) ?_ ?_)
      ·have aB:=dT.drew
       refine regAny (E:=[5]) (F:=FW a8 [.box (zz wi) (zz U) (vF f y x z g m (c.length:Int) q d s).toArray 34,.box (zz wi) (zz S) zF.toArray 34,.box (zz wi) (zz u) (vR aI aw aJ ax aK ay aL aM aN aP aQ az aR A c B Y D Z aT).toArray 84,.row (zz wi) (sl A c B) 9 1 c.length ap,.stk (zz wi) (sl Y D Z) 81 D.length aS,.row (zz wi) (sl q d s) 47 11 d.length aq]) (L:=(lb 7 0)) ymx rfl rfl (tf 0 (.agg (vF f y x z g m (c.length:Int) q d s).toArray) ([[5,0]]) (lb 7 1) rfl (fq [0,1,2,3,4,5] aB) (fun w hF=>lbN_r (i:=0) (l:=(vF f y x z g m (c.length:Int) q d s)) hF rfl Tya34 Tys34 rfl rfl rfl) (tk 1 (pp (zz u) 0) (lb 7 3) rfl (fun w=>mv_r (v:=pp (zz u) 0) rfl) (heldF (fq [0,1,2,3,4,5] aB)) (tk 2 (pp (zz u) 0) (lb 7 7) rfl (fun w=>nilc_r rfl) (heldF (fq [0,1,2,3,4,5] aB)) (tk 3 (pp (zz u) 7) (lb 7 15) rfl (fun w=>fld_r (o':=7) Tyf84_2 rfl rfl) (heldF (fq [0,1,2,3,4,5] aB)) (anyAll (rs:=[4,5]) (by kernel_rfl) (by decide) (allC ?_ (allC ?_ allN)))))))
       ·refine opL (i:=4) rfl (l1 2 (sl A c B) aB Tya38 (wt ⟨heldF (fq [0,1,2,3,4,5] aB),aO 5 rfl (sI 1 (.agg (vF f y x z g m (c.length:Int) q d s).toArray) ((vF f y x z g m (c.length:Int) q d s).toArray) aB Tys34 rfl rfl (fun cu cw=>?_))⟩))
        have ce:SR K a8 wi cu [] [.box (zz wi) (zz U) (vF f y x z g m (c.length:Int) q d s).toArray 34,.box (zz wi) (zz S) (vF f y x z g m (c.length:Int) q d s).toArray 34,.box (zz wi) (zz u) (vR aI aw aJ ax aK ay aL aM aN aP aQ az aR A c B Y D Z aT).toArray 84,.row (zz wi) (sl A c B) 9 1 c.length ap,.stk (zz wi) (sl Y D Z) 81 D.length aS,.row (zz wi) (sl q d s) 47 11 d.length aq]:=cw
        exact wt ⟨heldE (i:=5) rfl rfl,tk 6 (sl A c B) (lb 7 127) rfl (fun w=>asg_r (v:=sl A c B) rfl) (heldE (i:=5) rfl rfl) (aD (thenN (⟨_,f,x,y,z,g,m,(c.length:Int),d,q,s,aq,c,A,B,ap,fR,(ce.sel [1,5,3]),ci,(mp cW (aU.trans b2.sub)),(cq.mono (fun _ _ h=>RDStmt.mono b2.sub h)),c2,(cn.mono (fun _ _ h=>h)),co,h⟩)))⟩
       ·refine opL (i:=5) rfl (sI 1 (.agg (vF f y x z g m (c.length:Int) q d s).toArray) ((vF f y x z g m (c.length:Int) q d s).toArray) aB Tys34 rfl rfl (fun cu cw=>?_))
        have ce:SR K a8 wi cu [] [.box (zz wi) (zz U) (vF f y x z g m (c.length:Int) q d s).toArray 34,.box (zz wi) (zz S) (vF f y x z g m (c.length:Int) q d s).toArray 34,.box (zz wi) (zz u) (vR aI aw aJ ax aK ay aL aM aN aP aQ az aR A c B Y D Z aT).toArray 84,.row (zz wi) (sl A c B) 9 1 c.length ap,.stk (zz wi) (sl Y D Z) 81 D.length aS,.row (zz wi) (sl q d s) 47 11 d.length aq]:=cw
        exact wt ⟨heldE (i:=5) rfl rfl,aO 4 rfl (l1 2 (sl A c B) ce Tya38 (wt ⟨heldE (i:=5) rfl rfl,tk 6 (sl A c B) (lb 7 127) rfl (fun w=>asg_r (v:=sl A c B) rfl) (heldE (i:=5) rfl rfl) (aD (thenN (⟨_,f,x,y,z,g,m,(c.length:Int),d,q,s,aq,c,A,B,ap,fR,(ce.sel [1,5,3]),ci,(mp cW (aU.trans b2.sub)),(cq.mono (fun _ _ h=>RDStmt.mono b2.sub h)),c2,(cn.mono (fun _ _ h=>h)),co,h⟩)))⟩))⟩
      ·rintro _ fQ ⟨c4,a9,ba,b3,b4,bA,bB,bC,ao,b5,b6,cr,aA,cb,cc,ct,rfl,c6,dU,dV,dW,dX,dY,dZ,h⟩
       unfold f30_j1 at h
       refine wp_ret ?_
       obtain ⟨fS,d0,d1,d2⟩:=shutI (i:=1) (bytes:=184) (R:=fun K=>(RDStmt K)) c6 rfl (Nat.le_refl _) dW dX (fun hs=>(fun _ _ h=>RDStmt.mono hs h))
       obtain ⟨d3,d4,c7,d5⟩:=shutI (i:=1) (bytes:=16) (R:=fun K=>RStr) d0 rfl (Nat.le_refl _) (dY.mono (fun _ _ h=>h)) dZ (fun hs=>(fun _ _ h=>h))
       exact retP (retA2 rfl (resN (i:=0) (l:=(vF a9 b3 ba b4 bA bB bC b5 ao b6)) c6 rfl Tya34 Tys34 rfl rfl rfl) (resT rfl) ⟨(DFunc.mk a9 ba bA bB bC ao),aA,d3,(vF a9 b3 ba b4 bA bB bC b5 ao b6),cb,cc,(oi h).symm,rfl,(d4.sel []),(RDFunc.intro dU (mp dV (d1.trans c7)) (ms d2 c7)),d5⟩)
     ·rintro _ fT ⟨d6,d7,rfl,rfl,d8⟩
      have d9:=ca d8 b9
      exact thenP (panE (.inr ⟨_,rfl,d6,d7,(oi h).symm,rfl,d9.sel []⟩))
    ·unfold f30_l2 at h
     refine sr (bcm (r:=true) rfl rfl (congrArg some (drop_cons_t bz)) (wt (wp_seq (cndT rfl (wp_skip (thenN (wp_seq (wp_block (sr ?_)))))))))
     obtain ⟨ea,ec,fU,ed,fV,ee,ef⟩:=((ms cj ((an.trans au.sub).trans aU))).row.at_ (drop_cons_at bz)
     obtain ⟨bb,bd,be,bf,bg,bh,bi,bj,bk,bm,rfl,eg,eh,ei,ej,ek,el,em⟩:=RDStmt.open ef
     refine idxN (b:=ea) (o:=ec) (i:=av) Tye32 Tys47 rfl ed rfl (drop_cons_lt bz) (lD (vS aV aW aX aY aZ a2 bb a3 bd be a4 bf bg a5 bh bi a6 bj bk a7 bm) Tya47 Tys47 rfl (fun j v hj=>cm.cell (kr.cell (ee j v hj))) (aC zS.toArray cm Tyz47 (fun fW en=>(sI 0 (.agg (vS aV aW aX aY aZ a2 bb a3 bd be a4 bf bg a5 bh bi a6 bj bk a7 bm).toArray) ((vS aV aW aX aY aZ a2 bb a3 bd be a4 bf bg a5 bh bi a6 bj bk a7 bm).toArray) en Tys47 rfl rfl (fun eo cx=>(wt (sr (m1 (pp (zz u) 0) (lN 0 (vS aV aW aX aY aZ a2 bb a3 bd be a4 bf bg a5 bh bi a6 bj bk a7 bm) cx Tya47 Tys47 ?_)))))))))
     have cy:=p3450126 cx
     obtain ⟨fX,ep,h⟩:=ob h
     refine cp ([pp (zz u) 0,.agg (vS aV aW aX aY aZ a2 bb a3 bd be a4 bf bg a5 bh bi a6 bj bk a7 bm).toArray]) Tyb39 ((f39_ok k) ep (hG.mono ((an.trans au.sub).trans aU)) dM dN dO dP cn co dQ dR (Nat.le_trans (Nat.le_refl _) cx.size) (RDStmt.intro eg eh ei ej ek el em) (pt cy)) ?_ ?_
     ·rintro _ eq ⟨c9,da,db,dc,dd,de,df,cf,ch,dg,⟨ab,ac,ad,ae,af,ag,ah,ai,aj,ak,al⟩,cz,dh,di,dj,dk,dl,dm,cA,cB,dn,cC,cD,dp,fY,rfl,rfl,cG,es,et,eu,ew,ex,ey,ez,eA,eB⟩
      have eC:=ca cG cy
      obtain ⟨bD,bE,bF,bG,bH,bI,bJ,bK,bL,bM,rfl,eD,eE,eF,eG,eH,eI,eJ⟩:=RDStmt.open eB
      refine aC zS.toArray eC Tyz47 (fun fZ eK=>(sI 0 (.agg (vS ab ac ad ae af ag bD ah bE bF ai bG bH aj bI bJ ak bK bL al bM).toArray) ((vS ab ac ad ae af ag bD ah bE bF ai bG bH aj bI bJ ak bK bL al bM).toArray) eK Tys47 rfl rfl (fun f0 dq=>(wt (wp_region_lit (m1 (sl q d s) (lN 0 (vS ab ac ad ae af ag bD ah bE bF ai bG bH aj bI bJ ak bK bL al bM) dq Tya47 Tys47 (bsl (e:=47) (cells:=(vS ab ac ad ae af ag bD ah bE bF ai bG bH aj bI bJ ak bK bL al bM).toArray) (vs:=[(0,.agg (vS ab ac ad ae af ag bD ah bE bF ai bG bH aj bI bJ ak bK bL al bM).toArray)]) dq rfl (buildSl_one Tye32 Tys47 Tyz47 rfl (by decide) (by decide) rfl) (fun f1 eL=>?_)))))))))
      obtain ⟨dr,h⟩:=of_guard h
      refine apR (R:=(RDStmt cz)) (p:=(DStmt.mk ab ac ad ae af ag ah ai aj ak al)) (i:=8) (j:=0) eL rfl rfl Tye32 Tyi47 rfl (by decide) rfl rfl (cq.mono (fun _ _ h=>RDStmt.mono cG.sub h)) (RDStmt.intro eD eE eF eG eH eI eJ) rfl rfl (Nat.le_refl _) dr (by decide) (fun cH cI ds eM eN eO=>?_)
      have eP:=p12345678 eN
      exact m2 (.slice cH (d ++ [(DStmt.mk ab ac ad ae af ag ah ai aj ak al)]).length cI) (wpList_nil (blkN (thenN (wp_region_lit (bar (r:=((av + 1:Nat):Int)) rfl rfl (inc_ok (le_big (((ms cj ((an.trans au.sub).trans aU))).len) (by decide) (drop_cons_lt bz))) (m1 (iI ((av + 1:Nat):Int)) (wt (⟨_,Nat.lt_succ_self _,_,cz,aH,av + 1,c9,dh,di,da,db,dj,dk,dc,dd,de,df,dl,dm,cf,cA,cB,dn,ch,cC,cD,dp,dg,(d ++ [(DStmt.mk ab ac ad ae af ag ah ai aj ak al)]),cH,cI,ds,rfl,fR,(aU.trans cG.sub),(eP.sel [5,6,1,2,3,7]),drop_cons_next bz,es,et,eu,ew,ex,ey,ez,eA,eO,(app_bound dr),h⟩))))))))
     ·rintro _ f2 ⟨eQ,eR,rfl,rfl,eS⟩
      have eT:=ca eS cy
      exact thenP (blkP (thenP (thenP (blkP (thenP (panE (.inr ⟨_,rfl,eQ,eR,(oi h).symm,rfl,eT.sel []⟩)))))))
  ·unfold f30_l1 at h
   refine sr (bcm (r:=true) rfl rfl (congrArg some (drop_cons_t bw)) (wt (wp_seq (cndT rfl (wp_skip (thenN (wp_seq (wp_block (sr ?_)))))))))
   obtain ⟨eU,eV,f3,eW,f8,eX,eY⟩:=((mp b7 an)).row.at_ (drop_cons_at bw)
   obtain ⟨rfl,eZ⟩:=RDParam.open eY
   refine idxN (b:=eU) (o:=eV) (i:=ar) Tye31 Tys42 rfl eW rfl (drop_cons_lt bw) (lD ([.string bx,iI b8]) Tya42 Tys42 rfl (fun j v hj=>b1.cell (kr.cell (eX j v hj))) (aC #[sE,iI 0] b1 Tyz42 (fun f9 e0=>(sI 0 (.agg #[.string bx,iI b8]) #[.string bx,iI b8] e0 Tys42 rfl rfl (fun e1 cJ=>(wt (wp_region_lit (m1 (pp (zz u) 0) (fd 0 Tyf42_0 rfl (l1 0 (.string bx) cJ Tya9 ?_))))))))))
   have cK:=p345012 cJ
   obtain ⟨ga,e2,h⟩:=ob h
   refine cp ([pp (zz u) 0,.string bx]) Tyb37 ((f37_ok k) e2 (hG.mono an) cN cO cP cQ cR cS cU cV (Nat.le_trans (Nat.le_refl _) cJ.size) eZ (pt cK)) ?_ ?_
   ·rintro _ gb ⟨e3,e4,e5,e6,e7,e8,e9,fa,fb,fc,gc,fe,ff,fg,fh,fi,fj,fk,fl,fm,fn,fo,fp,fs,rfl,rfl,dt,ft,fu,fv,fx,fy,fz,fA,fB⟩
    have fC:=ca dt cK
    exact wpList_nil (blkN (thenN (wp_region_lit (bar (r:=((ar + 1:Nat):Int)) rfl rfl (inc_ok (le_big (((mp b7 an)).len) (by decide) (drop_cons_lt bw))) (m1 (iI ((ar + 1:Nat):Int)) (wt (⟨_,Nat.lt_succ_self _,_,fe,aG,ar + 1,e3,ff,fg,e4,e5,fh,fi,e6,e7,e8,e9,fj,fk,fa,fl,fm,fn,fb,fo,fp,fs,fc,rfl,fR,(an.trans dt.sub),(fC.sel [4,5,0,1,2]),drop_cons_next bw,ft,fu,fv,fx,fy,fz,fA,fB,h⟩)))))))
   ·rintro _ gd ⟨fD,fE,rfl,rfl,fF⟩
    have fG:=ca fF cK
    exact blkP (thenP (thenP (blkP (thenP (panE (.inr ⟨_,rfl,fD,fE,(oi h).symm,rfl,fG.sel []⟩))))))
theorem f30_ok (k:Nat):f30_spec (f30 k):=f30_b_ok k
set_option maxRecDepth 100000 in
set_option maxHeartbeats 4000000 in
theorem f16_body (k:Nat) (h78:f26_spec (f26 k)) (h58:f25_spec (f25 k)) (h80:f1002804_spec (f1002804 k)) (h82:f30_spec (f30 k)):f16_spec (f16 k):=by
 unfold f16_spec
 intro K wi a0 csa0 res_ h hG ha0 S0
 obtain ⟨fs⟩:=a0
 obtain ⟨A,c,rfl,hrow⟩:=RDProgram.open ha0
 refine calls_of_wpF Tryd.func16 rfl (m:=66) rfl ?_
 unfold f16 at h
 dsimp only at h
 refine wpF_seq ?_
 refine wpF_of (wp_region_lit ?_)
 refine bxoC (cs:=#[.slice A fs.length c]) S0 rfl rfl ?_
 intro w1 S1
 refine alcC (z:=.agg #[.slice none 0 0]) (cs:=#[.slice none 0 0]) S1 (by kernel_rfl) rfl ?_
 intro w2 S2
 refine asg (v:=.slice none 0 0) rfl ?_
 refine wpList_nil ?_
 refine thenN ?_
 refine wpF_scope ?_
 refine wpF_seq ?_
 refine wpF_of (wp_region_lit ?_)
 refine lbN (i:=1) (l:=[.slice A fs.length c]) S2 rfl (by kernel_rfl) (show SizeB Tryd.prog 24=some 1 by kernel_rfl) rfl rfl rfl ?_
 obtain ⟨ok,hq1,h⟩:=Option.bind_eq_some_iff.1 h
 refine clV (caps:=#[]) (vs:=[.agg #[.slice A fs.length c],.bool false]) rfl (by kernel_rfl) rfl (h78 hq1 hG ha0 (S2.part [] (List.sublist_append_left _ _))) ?_
 rintro _ w3 ⟨K3,rfl,T3⟩
 have S3:=S2.call (H1:=[]) T3
 obtain ⟨q2,hq2,h⟩:=Option.bind_eq_some_iff.1 h
 refine clP (caps:=#[]) (vs:=[.bool ok,.int .i64 2]) rfl (by kernel_rfl) rfl (h58 hq2 (hG.mono S3.sub) (S3.part [] (List.sublist_append_left _ _))) ?_ ?_
 rotate_left
 ·rintro _ w4 ⟨c4,K4,rfl,rfl,T4⟩
  have S4:=S3.call (H1:=[]) T4
  refine thenP ?_
  exact .inr ⟨_,rfl,c4,K4,(Option.some.inj h).symm,rfl,S4.sel []⟩
 rintro _ w4 ⟨K4,rfl,rfl,T4⟩
 have S4:=S3.call (H1:=[]) T4
 dsimp only at h
 refine wpList_nil ?_
 refine thenN ?_
 refine wpF_seq ?_
 refine wpF_seq ?_
 refine wpF_of (wp_region_lit ?_)
 refine lbN (i:=1) (l:=[.slice A fs.length c]) S4 rfl (by kernel_rfl) (show SizeB Tryd.prog 24=some 1 by kernel_rfl) rfl rfl rfl ?_
 refine clV (caps:=#[]) (vs:=[.agg #[.slice A fs.length c]]) rfl (by kernel_rfl) rfl (heads_ok S4) ?_
 rintro _ w5 ⟨b5,rfl,S5⟩
 refine wpList_nil ?_
 refine thenN ?_
 refine wpF_block ?_
 obtain ⟨r1,hq3,h⟩:=Option.bind_eq_some_iff.1 h
 have hr4:tF K4 A c fs:=hrow.mono S4.sub (fun _ _ h=>RDFunc.mono S4.sub h)
 obtain ⟨HH,hHH⟩ : ∃ HH:Ents,HH=[.raw (zz wi) (zz w5) (.deferred (some [])),.box (zz wi) (zz w1) #[.slice none 0 0] 24,.box (zz wi) (zz wi) #[.slice A fs.length c] 24]:=⟨_,rfl⟩
 show wpF _ _ _ _ (wd (fr 66 _) []) _
 refine wpF_heads (D:=[]) (Pi:=fun i _ H'=>H'=HH∧f16_l1 k fs (fs.drop i) i=some r1) (Px:=fun _ _ _=>False) (Pp:=fun v _ H'=>H'=[.raw (zz wi) (zz w5) (.deferred (some []))]∧∃ c,r1=.error c∧v=.iface 63 (.agg #[.int .i64 c]))
  (fun i x K1 H1 σ1=>∃ (bf:Nat) (x0:ByteArray) (x1:List DParam) (x2:Int) (x3:Bool) (x4:Int) (x5:List DStmt) (A1:Option Addr) (c1:Nat) (A2:Option Addr) (c2:Nat),x=.mk x0 x1 x2 x3 x4 x5∧H1=.box (zz wi) bf #[.string x0,.slice A1 x1.length c1,.int .i64 x2,.bool x3,.int .i64 x4,.slice A2 x5.length c2] 34 :: HH ∧
   x0.size≤mB∧tP K1 A1 c1 x1∧tS K1 A2 c2 x5∧σ1 4=.pointer (some ⟨bf,0,none⟩)∧σ1 5=.slice A i c∧f16_l1 k fs (fs.drop i) i=some r1)
  Tryd.func16 S5 hr4 rfl ⟨hHH.symm,hq3⟩ ?_ ?_ ?_ ?_ ?_
 ·rintro l o i x cs K6 H6 w6 hs6 S6 ⟨rfl,hl1⟩ hx hR
  refine wpIn_seq ?_
  refine regR0 rfl ?_
  refine alcC (z:=.agg #[.string ⟨#[]⟩,.slice none 0 0,.int .i64 0,.bool false,.int .i64 0,.slice none 0 0]) (cs:=#[.string ⟨#[]⟩,.slice none 0 0,.int .i64 0,.bool false,.int .i64 0,.slice none 0 0]) S6 (by kernel_rfl) rfl ?_
  intro w7 S7
  obtain ⟨x0,x1,x2,x3,x4,x5⟩:=x
  obtain ⟨A1,c1,A2,c2,rfl,hz,hra,hrb⟩:=RDFunc.open hR
  refine stoI (i:=0) (v:=.agg #[.string x0,.slice A1 x1.length c1,.int .i64 x2,.bool x3,.int .i64 x4,.slice A2 x5.length c2]) (cs':=#[.string x0,.slice A1 x1.length c1,.int .i64 x2,.bool x3,.int .i64 x4,.slice A2 x5.length c2]) S7 rfl (show SizeB Tryd.prog 34=some 6 by kernel_rfl) rfl rfl rfl rfl (Nat.le_of_ble_eq_true rfl) rfl ?_
  intro w8 S8
  refine wpList_nil (QLn0 ?_)
  refine thenN ?_
  refine regR0 rfl ?_
  refine asg (v:=.slice A i c) rfl ?_
  refine wpList_nil (QLn0 ?_)
  refine thenN ?_
  exact ⟨K6,_,_,rfl,hs6,S8.rot3,(zz w6),x0,x1,x2,x3,x4,x5,A1,c1,A2,c2,rfl,rfl,hz,hra,hrb,rfl,rfl,hl1⟩
 ·rintro l o i x K6 H6 σ1 w6 hs6 S6 ⟨bf,x0,x1,x2,x3,x4,x5,A1,c1,A2,c2,rfl,rfl,hz,hra,hrb,hσ4,hσ5,hl1⟩ hx
  have hlt:i < fs.length:=(List.getElem?_eq_some_iff.1 hx).1
  have hdr:fs.drop i=.mk x0 x1 x2 x3 x4 x5 :: fs.drop (i + 1):=by rw [List.drop_eq_getElem_cons hlt]; congr 1; exact (List.getElem?_eq_some_iff.1 hx).2
  rw [hdr] at hl1
  unfold f16_l1 at hl1
  obtain ⟨b,hqb,hl1⟩:=Option.bind_eq_some_iff.1 hl1
  refine wpIn_block ?_
  refine regR0 rfl ?_
  have hti:(fs.take i).length=i:=by simp; omega
  refine mv (v:=.slice A (fs.take i).length c) (by rw [hti]; exact hσ5) ?_
  refine mkf (us:=[]) (vs:=[.pointer (some ⟨bf,0,none⟩)]) rfl (by simp only [List.map]; exact congrArg (· :: []) hσ4) ?_
  have S7:=S6.rot3'
  refine clV (caps:=#[]) (vs:=[.slice A (fs.take i).length c,.func (.func 29) #[] #[.pointer (some ⟨bf,0,none⟩)]]) rfl (by kernel_rfl) rfl (h80 hqb (hG.mono (S4.sub.trans hs6)) ((hr4.take i).mono hs6 (fun _ _ h=>RDFunc.mono hs6 h)) hz hra hrb (S7.part [.box (zz wi) bf #[.string x0,.slice A1 x1.length c1,.int .i64 x2,.bool x3,.int .i64 x4,.slice A2 x5.length c2] 34] (List.Sublist.cons_cons _ (List.nil_sublist _)))) ?_
  rintro _ w8 ⟨K8,rfl,T8⟩
  have S8:=Sx.call (H1:=[_]) S7 T8
  refine unot (a:=b) rfl ?_
  obtain ⟨q4,hq4,hl1⟩:=Option.bind_eq_some_iff.1 hl1
  refine clP (caps:=#[]) (vs:=[.bool (!b),.int .i64 21]) rfl (by kernel_rfl) rfl (h58 hq4 (hG.mono ((S4.sub.trans hs6).trans T8.sub)) (S8.part [] (List.nil_sublist _))) ?_ ?_
  ·rintro _ w9 ⟨K9,rfl,rfl,T9⟩
   have S9:=Sx.call (H1:=[]) S8 T9
   refine wpList_nil (QLn0 ?_)
   refine blkN ?_
   exact ⟨K9,HH,(hs6.trans T8.sub).trans T9.sub,S9.drop (List.sublist_cons_self _ _),rfl,hl1⟩
  ·rintro _ w9 ⟨c9,K9,rfl,rfl,T9⟩
   have S9:=Sx.call (H1:=[]) S8 T9
   refine QLp0 ?_
   refine blkP ?_
   subst hHH
   exact ⟨rfl,_,rfl,K9,_,S9.sel [3],rfl,c9,(Option.some.inj hl1).symm,rfl⟩
 rotate_left
 ·rintro c' w6 K6 H6 hs6 S6 h; exact h.elim
 ·rintro v w6 K6 H6 S6 ⟨rfl,c6,rfl,rfl⟩
  refine blkP ?_
  refine thenP ?_
  refine leave_mark (A:=[]) (B:=[]) (by simp) S6 ?_
  intro w7 S7
  exact .inr ⟨_,rfl,c6,K6,(Option.some.inj h).symm,rfl,S7⟩
 rintro w6 K6 H6 hs6 S6 ⟨rfl,hl1⟩
 rw [List.drop_length] at hl1
 unfold f16_l1 at hl1
 obtain rfl:=Option.some.inj hl1
 dsimp only at h
 subst hHH
 refine blkN ?_
 refine thenN ?_
 obtain ⟨q5,hq5,h⟩:=Option.bind_eq_some_iff.1 h
 refine wpF_seq ?_
 refine wpF_of (regD rfl ?_)
 refine alcC (z:=.int .i64 0) (cs:=#[.int .i64 0]) S6 (by kernel_rfl) rfl ?_
 intro w7 S7
 refine stoI (i:=0) (v:=.int .i64 20) (cs':=#[.int .i64 20]) S7 rfl (show SizeB Tryd.prog 27=some 1 by kernel_rfl) rfl rfl rfl rfl (Nat.le_of_ble_eq_true rfl) rfl ?_
 intro w8 S8
 refine wpList_nil (QLn ?_)
 refine thenN ?_
 refine wpF_seq ?_
 refine wpF_of (wp_label ?_)
 refine thenN ?_
 refine wpF_seq ?_
 refine wpF_seq ?_
 refine wpF_of (regD rfl ?_)
 refine lbN (i:=3) (l:=[.slice A fs.length c]) S8 rfl (by kernel_rfl) (show SizeB Tryd.prog 24=some 1 by kernel_rfl) rfl rfl rfl ?_
 refine clV (caps:=#[]) (vs:=[.agg #[.slice A fs.length c]]) rfl (by kernel_rfl) rfl (heads_ok S8) ?_
 rintro _ w9 ⟨b9,rfl,S9⟩
 refine wpList_nil (QLn ?_)
 refine thenN ?_
 refine wpF_block ?_
 have hr6:tF K6 A c fs:=hr4.mono hs6 (fun _ _ h=>RDFunc.mono hs6 h)
 obtain ⟨HF,hHF⟩ : ∃ HF:Int→Ents,HF=fun x=>[.raw (zz wi) (zz w9) (.deferred (some [])),.box (zz wi) (zz w6) #[.int .i64 x] 27,.raw (zz wi) (zz w5) (.deferred (some [])),.box (zz wi) (zz w1) #[.slice none 0 0] 24,.box (zz wi) (zz wi) #[.slice A fs.length c] 24]:=⟨_,rfl⟩
 refine wpF_join (D':=[mark (zz w9),mark (zz w5)]) (A:=fun w10 K10=>K6.sub K10∧Sx K K10 wi w10 (fun b=>b ∈ Ents.blks []) (HF (f16_l2 fs))) ?_ (fun hgo=>?_)
 rotate_left
 refine wpF_heads (Pi:=fun i _ H'=>H'=HF 20∧f16_l2 fs=f16_l2 (fs.drop i)) (Px:=fun c' _ H'=>c'=.exit 2∧H'=HF (f16_l2 fs)) (Pp:=fun _ _ _=>False)
  (fun i x K1 H1 σ1=>∃ (bf:Nat) (x0:ByteArray) (x1:List DParam) (x2:Int) (x3:Bool) (x4:Int) (x5:List DStmt) (A1:Option Addr) (c1:Nat) (A2:Option Addr) (c2:Nat),x=.mk x0 x1 x2 x3 x4 x5∧H1=.box (zz wi) bf #[.string x0,.slice A1 x1.length c1,.int .i64 x2,.bool x3,.int .i64 x4,.slice A2 x5.length c2] 34 :: HF 20 ∧
   σ1 7=.pointer (some ⟨bf,0,none⟩)∧σ1 6=.pointer (some ⟨(zz w6),0,none⟩)∧f16_l2 fs=f16_l2 (fs.drop i))
  Tryd.func16 S9 hr6 rfl ⟨(by subst hHF; rfl),by rw [List.drop_zero]⟩ ?_ ?_ ?_ ?_ ?_
 ·rintro l o i x cs K10 H10 w10 hs10 S10 ⟨rfl,hl2⟩ hx hR
  refine regR0 rfl ?_
  refine alcC (z:=.agg #[.string ⟨#[]⟩,.slice none 0 0,.int .i64 0,.bool false,.int .i64 0,.slice none 0 0]) (cs:=#[.string ⟨#[]⟩,.slice none 0 0,.int .i64 0,.bool false,.int .i64 0,.slice none 0 0]) S10 (by kernel_rfl) rfl ?_
  intro w11 S11
  obtain ⟨x0,x1,x2,x3,x4,x5⟩:=x
  obtain ⟨A1,c1,A2,c2,rfl,hz,hra,hrb⟩:=RDFunc.open hR
  refine stoI (i:=0) (v:=.agg #[.string x0,.slice A1 x1.length c1,.int .i64 x2,.bool x3,.int .i64 x4,.slice A2 x5.length c2]) (cs':=#[.string x0,.slice A1 x1.length c1,.int .i64 x2,.bool x3,.int .i64 x4,.slice A2 x5.length c2]) S11 rfl (show SizeB Tryd.prog 34=some 6 by kernel_rfl) rfl rfl rfl rfl (Nat.le_of_ble_eq_true rfl) rfl ?_
  intro w12 S12
  refine wpList_nil (QLn0 ?_)
  refine thenN ?_
  exact ⟨K10,_,_,rfl,hs10,S12.rot3,(zz w10),x0,x1,x2,x3,x4,x5,A1,c1,A2,c2,rfl,rfl,rfl,rfl,hl2⟩
 ·rintro l o i x K10 H10 σ1 w10 hs10 S10 ⟨bf,x0,x1,x2,x3,x4,x5,A1,c1,A2,c2,rfl,rfl,hσ7,hσ6,hl2⟩ hx
  have hlt:i < fs.length:=(List.getElem?_eq_some_iff.1 hx).1
  have hdr:fs.drop i=.mk x0 x1 x2 x3 x4 x5 :: fs.drop (i + 1):=by rw [List.drop_eq_getElem_cons hlt]; congr 1; exact (List.getElem?_eq_some_iff.1 hx).2
  have hl3:f16_l2 fs=cond (!(seq x0 ⟨#[109,97,105,110]⟩)) (f16_l2 (fs.drop (i + 1))) (cond x3 25 (cond (decide ((x1.length:Int) > 0)) 24 0)):=by rw [hl2,hdr]; rfl
  clear hl2
  have hdropx : ∀ {K:KH} {w:World} {a b x:Ent} {H:Ents},Sx K K10 wi w (fun b=>b ∈ Ents.blks []) (a :: b :: x :: H)→Sx K K10 wi w (fun b=>b ∈ Ents.blks []) (a :: b :: H):=fun S=>S.drop (List.Sublist.cons_cons _ (List.Sublist.cons_cons _ (List.sublist_cons_self _ _)))
  refine wpIn_block ?_
  refine wpIn_seq ?_
  refine wpIn_seq ?_
  refine regR0 rfl ?_
  refine fld (s:=34) (f:=0) (off:=0) (o':=0) (by kernel_rfl) hσ7 rfl ?_
  refine lb1 (i:=2) (v:=.string x0) S10 rfl (by kernel_rfl) rfl rfl ?_
  refine bsc (r:=!(seq x0 ⟨#[109,97,105,110]⟩)) rfl rfl rfl ?_
  refine wpList_nil (QLn0 ?_)
  refine thenN ?_
  rcases hmain:seq x0 ⟨#[109,97,105,110]⟩ with _ | _
  ·rw [hmain] at hl3
   refine cndTI rfl ?_
   refine wpIn_exit ?_
   refine thenX ?_
   refine blkX ?_
   exact ⟨K10,_,hs10,hdropx S10,rfl,hl3⟩
  ·rw [hmain] at hl3
   refine cndFI rfl ?_
   refine wpIn_skip ?_
   refine thenN ?_
   refine wpIn_seq ?_
   subst hHF
   refine wpIn_block ?_
   refine wpIn_seq ?_
   refine regR0 rfl ?_
   refine fld (s:=34) (f:=3) (off:=3) (o':=3) (by kernel_rfl) hσ7 rfl ?_
   refine lb1 (i:=2) (v:=.bool x3) S10 rfl (by kernel_rfl) rfl rfl ?_
   refine asg (v:=.bool x3) rfl ?_
   refine wpList_nil (QLn0 ?_)
   refine thenN ?_
   rcases x3 with _ | _
   ·refine cndFI rfl ?_
    refine wpIn_seq ?_
    refine regR0 rfl ?_
    refine fld (s:=34) (f:=1) (off:=1) (o':=1) (by kernel_rfl) hσ7 rfl ?_
    refine lb1 (i:=2) (v:=.slice A1 x1.length c1) S10 rfl (by kernel_rfl) rfl rfl ?_
    refine lnS (len:=x1.length) (e:=42) (by kernel_rfl) rfl ?_
    refine bcm (r:=decide ((x1.length:Int) > 0)) rfl rfl rfl ?_
    refine asg (v:=.bool (decide ((x1.length:Int) > 0))) rfl ?_
    refine wpList_nil (QLn0 ?_)
    refine thenN ?_
    rcases hd:decide ((x1.length:Int) > 0) with _ | _
    ·rw [hd] at hl3
     refine cndFI rfl ?_
     refine regR0 rfl ?_
     refine stoI (i:=4) (v:=.int .i64 0) (cs':=#[.int .i64 0]) S10 rfl (show SizeB Tryd.prog 27=some 1 by kernel_rfl) hσ6 rfl rfl rfl (Nat.le_of_ble_eq_true rfl) rfl ?_
     intro w11 S11
     refine wpList_nil (QLn0 ?_)
     refine blkN ?_
     refine thenN ?_
     refine wpIn_exit ?_
     refine blkO (by decide) ?_
     exact ⟨K10,_,hs10,hdropx S11,rfl,by rw [hl3]; rfl⟩
    ·rw [hd] at hl3
     refine cndTI rfl ?_
     refine regR0 rfl ?_
     refine stoI (i:=4) (v:=.int .i64 24) (cs':=#[.int .i64 24]) S10 rfl (show SizeB Tryd.prog 27=some 1 by kernel_rfl) hσ6 rfl rfl rfl (Nat.le_of_ble_eq_true rfl) rfl ?_
     intro w11 S11
     refine wpList_nil (QLn0 ?_)
     refine blkN ?_
     refine thenN ?_
     refine wpIn_exit ?_
     refine blkO (by decide) ?_
     exact ⟨K10,_,hs10,hdropx S11,rfl,by rw [hl3]; rfl⟩
   ·refine cndTI rfl ?_
    refine regR0 rfl ?_
    refine stoI (i:=4) (v:=.int .i64 25) (cs':=#[.int .i64 25]) S10 rfl (show SizeB Tryd.prog 27=some 1 by kernel_rfl) hσ6 rfl rfl rfl (Nat.le_of_ble_eq_true rfl) rfl ?_
    intro w11 S11
    refine wpList_nil (QLn0 ?_)
    refine blkN ?_
    refine thenN ?_
    refine wpIn_exit ?_
    refine blkO (by decide) ?_
    exact ⟨K10,_,hs10,hdropx S11,rfl,by rw [hl3]; rfl⟩
 ·rintro w10 K10 H10 hs10 S10 ⟨rfl,hl2⟩
  refine hgo w10 K10 ⟨hs10,?_⟩
  rw [hl2,List.drop_length]
  exact S10
 ·rintro c' w10 K10 H10 hs10 S10 ⟨rfl,rfl⟩
  refine wpF_of (wp_exit ?_)
  refine blkX ?_
  exact hgo w10 K10 ⟨hs10,S10⟩
 ·rintro v w10 K10 H10 S10 h; exact h.elim
 rintro w10 K10 ⟨hs10,S10⟩
 subst hHF
 obtain ⟨y,hy⟩ : ∃ y,y=f16_l2 fs:=⟨_,rfl⟩
 rw [← hy] at hq5 S10
 have hs410:=hs6.trans hs10
 refine wpF_seq ?_
 refine wpF_of (regD rfl ?_)
 refine lb1 (i:=1) (v:=.int .i64 y) S10 rfl (by kernel_rfl) rfl rfl ?_
 refine bcm (r:=decide (y=0)) rfl rfl rfl ?_
 refine lb1 (i:=1) (v:=.int .i64 y) S10 rfl (by kernel_rfl) rfl rfl ?_
 refine clP (caps:=#[]) (vs:=[.bool (decide (y=0)),.int .i64 y]) rfl (by kernel_rfl) rfl (h58 hq5 (hG.mono (S4.sub.trans hs410)) (S10.part [] (List.nil_sublist _))) ?_ ?_
 rotate_left
 ·rintro _ w11 ⟨c11,K11,rfl,rfl,T11⟩
  have S11:=Sx.call (H1:=[]) S10 T11
  refine QLp ?_
  refine thenP ?_
  refine leave_mark (A:=[]) (by simp) S11 ?_
  intro w12 S12
  refine leave_mark (A:=[_]) (by simp) S12 ?_
  intro w13 S13
  exact .inr ⟨_,rfl,c11,K11,(Option.some.inj h).symm,rfl,S13.sel []⟩
 rintro _ w11 ⟨K11,rfl,rfl,T11⟩
 have S11:=Sx.call (H1:=[]) S10 T11
 dsimp only at h
 have hs411:=hs410.trans T11.sub
 refine wpList_nil (QLn ?_)
 refine thenN ?_
 refine wpF_seq ?_
 refine wpF_of (regD rfl ?_)
 refine alcC (z:=.agg #[.slice none 0 0]) (cs:=#[.slice none 0 0]) S11 (by kernel_rfl) rfl ?_
 intro w12 S12
 refine wpList_nil (QLn ?_)
 refine thenN ?_
 refine wpF_seq ?_
 refine wpF_of (regD rfl ?_)
 refine alcC (z:=.slice none 0 0) (cs:=#[.slice none 0 0]) S12 (by kernel_rfl) rfl ?_
 intro w13 S13
 refine wpList_nil (QLn ?_)
 refine thenN ?_
 refine wpF_seq ?_
 refine wpF_seq ?_
 refine wpF_of (regD rfl ?_)
 have S14:=(S13.row_ (zz wi) 34 6).row_ (zz wi) 38 1
 refine lbN (i:=8) (l:=[.slice A fs.length c]) S14 rfl (by kernel_rfl) (show SizeB Tryd.prog 24=some 1 by kernel_rfl) rfl rfl rfl ?_
 refine clV (caps:=#[]) (vs:=[.agg #[.slice A fs.length c]]) rfl (by kernel_rfl) rfl (heads_ok S14) ?_
 rintro _ w15 ⟨b15,rfl,S15⟩
 refine wpList_nil (QLn ?_)
 refine thenN ?_
 refine wpF_block ?_
 have hr11:tF K11 A c fs:=hr4.mono hs411 (fun _ _ h=>RDFunc.mono hs411 h)
 have hlen:=hr11.len
 obtain ⟨HT,hHT⟩ : ∃ HT:List DFunc→Option Addr→Nat→List Value→List (List ByteArray)→Option Addr→Nat→List Value→Ents,HT=fun out A' c' ys' nms A'' c'' ys''=>[.raw (zz wi) (zz w15) (.deferred (some [])),.row (zz wi) (.slice A'' nms.length c'') 38 1 nms.length ys'',.row (zz wi) (.slice A' out.length c') 34 6 out.length ys',
  .box (zz wi) (zz w12) #[.slice A'' nms.length c''] 49,.box (zz wi) (zz w11) #[.slice A' out.length c'] 24,.raw (zz wi) (zz w9) (.deferred (some [])),.box (zz wi) (zz w6) #[.int .i64 y] 27,.raw (zz wi) (zz w5) (.deferred (some [])),.box (zz wi) (zz w1) #[.slice none 0 0] 24,.box (zz wi) (zz wi) #[.slice A fs.length c] 24]:=⟨_,rfl⟩
 refine wpF_heads (Pi:=fun i K' H'=>∃ out A' c' ys' nms A'' c'' ys'',out.length=i∧nms.length=i∧H'=HT out A' c' ys' nms A'' c'' ys''∧Reps (RDFunc K') 6 out ys'∧Reps (RSlE ByteArray (fun K=>RStr) 1 16 K') 1 nms ys''∧f16_l3 k (.mk fs) (fs.drop i) out nms=some res_) (Px:=fun _ _ _=>False)
  (Pp:=fun v _ H'=>H'=[.raw (zz wi) (zz w15) (.deferred (some [])),.raw (zz wi) (zz w9) (.deferred (some [])),.raw (zz wi) (zz w5) (.deferred (some []))]∧∃ c,res_=.error c∧v=.iface 63 (.agg #[.int .i64 c]))
  (fun i x K1 H1 σ1=>∃ (bf:Nat) (x0:ByteArray) (x1:List DParam) (x2:Int) (x3:Bool) (x4:Int) (x5:List DStmt) (A1:Option Addr) (c1:Nat) (A2:Option Addr) (c2:Nat) (out:List DFunc) (A' : Option Addr) (c' : Nat) (ys' : List Value) (nms:List (List ByteArray)) (A'' : Option Addr) (c'' : Nat) (ys'' : List Value),x=.mk x0 x1 x2 x3 x4 x5∧H1=.box (zz wi) bf #[.string x0,.slice A1 x1.length c1,.int .i64 x2,.bool x3,.int .i64 x4,.slice A2 x5.length c2] 34 :: HT out A' c' ys' nms A'' c'' ys'' ∧
   out.length=i∧nms.length=i∧Reps (RDFunc K1) 6 out ys'∧Reps (RSlE ByteArray (fun K=>RStr) 1 16 K1) 1 nms ys''∧f16_l3 k (.mk fs) (fs.drop i) out nms=some res_ ∧
   x0.size≤mB∧tP K1 A1 c1 x1∧tS K1 A2 c2 x5∧σ1 10=.pointer (some ⟨bf,0,none⟩)∧σ1 1=.pointer (some ⟨(zz wi),0,none⟩)∧σ1 8=.pointer (some ⟨(zz w11),0,none⟩)∧σ1 9=.pointer (some ⟨(zz w12),0,none⟩))
  Tryd.func16 S15 hr11 rfl ⟨[],none,0,[],[],none,0,[],rfl,rfl,(by subst hHT; rfl),reps0,reps0,h⟩ ?_ ?_ ?_ ?_ ?_
 ·rintro l o i x cs K16 H16 w16 hs16 S16 ⟨out,A',c',ys',nms,A'',c'',ys'',ho,hn,rfl,hro,hrn,hl3⟩ hx hR
  refine regR0 rfl ?_
  refine alcC (z:=.agg #[.string ⟨#[]⟩,.slice none 0 0,.int .i64 0,.bool false,.int .i64 0,.slice none 0 0]) (cs:=#[.string ⟨#[]⟩,.slice none 0 0,.int .i64 0,.bool false,.int .i64 0,.slice none 0 0]) S16 (by kernel_rfl) rfl ?_
  intro w17 S17
  obtain ⟨x0,x1,x2,x3,x4,x5⟩:=x
  obtain ⟨A1,c1,A2,c2,rfl,hz,hra,hrb⟩:=RDFunc.open hR
  refine stoI (i:=0) (v:=.agg #[.string x0,.slice A1 x1.length c1,.int .i64 x2,.bool x3,.int .i64 x4,.slice A2 x5.length c2]) (cs':=#[.string x0,.slice A1 x1.length c1,.int .i64 x2,.bool x3,.int .i64 x4,.slice A2 x5.length c2]) S17 rfl (show SizeB Tryd.prog 34=some 6 by kernel_rfl) rfl rfl rfl rfl (Nat.le_of_ble_eq_true rfl) rfl ?_
  intro w18 S18
  refine wpList_nil (QLn0 ?_)
  refine thenN ?_
  exact ⟨K16,_,_,rfl,hs16,S18.rot3,(zz w16),x0,x1,x2,x3,x4,x5,A1,c1,A2,c2,out,A',c',ys',nms,A'',c'',ys'',rfl,rfl,ho,hn,hro,hrn,hl3,hz,hra,hrb,rfl,rfl,rfl,rfl⟩
 ·rintro l o i x K16 H16 σ1 w16 hs16 S16 ⟨bf,x0,x1,x2,x3,x4,x5,A1,c1,A2,c2,out,A',c',ys',nms,A'',c'',ys'',rfl,rfl,ho,hn,hro,hrn,hl3,hz,hra,hrb,hσ10,hσ1,hσ8,hσ9⟩ hx
  have hlt:i < fs.length:=(List.getElem?_eq_some_iff.1 hx).1
  have hdr:fs.drop i=.mk x0 x1 x2 x3 x4 x5 :: fs.drop (i + 1):=by rw [List.drop_eq_getElem_cons hlt]; congr 1; exact (List.getElem?_eq_some_iff.1 hx).2
  rw [hdr] at hl3
  unfold f16_l3 at hl3
  obtain ⟨q17,hq17,hl3⟩:=Option.bind_eq_some_iff.1 hl3
  have hs1116:=hs411.trans hs16
  subst hHT
  refine wpIn_block ?_
  refine wpIn_seq ?_
  refine regR0 rfl ?_
  refine lbN (i:=12) (l:=[.slice A fs.length c]) S16 rfl (by kernel_rfl) (show SizeB Tryd.prog 24=some 1 by kernel_rfl) hσ1 rfl rfl ?_
  refine lbN (i:=2) (l:=[.string x0,.slice A1 x1.length c1,.int .i64 x2,.bool x3,.int .i64 x4,.slice A2 x5.length c2]) S16 rfl (by kernel_rfl) (show SizeB Tryd.prog 34=some 6 by kernel_rfl) hσ10 rfl rfl ?_
  refine clP (caps:=#[]) (vs:=[.agg #[.slice A fs.length c],.agg #[.string x0,.slice A1 x1.length c1,.int .i64 x2,.bool x3,.int .i64 x4,.slice A2 x5.length c2]]) rfl (by kernel_rfl) rfl
   (h82 hq17 (hG.mono (S4.sub.trans hs1116)) (RDProgram.intro (hr4.mono hs1116 (fun _ _ h=>RDFunc.mono hs1116 h))) (RDFunc.intro hz hra hrb) (S16.part [] (List.nil_sublist _))) ?_ ?_
  rotate_left
  ·rintro _ w17 ⟨c17,K17,rfl,rfl,T17⟩
   have S17:=Sx.call (H1:=[]) S16 T17
   refine QLp0 ?_
   refine thenP ?_
   refine blkP ?_
   exact ⟨rfl,_,rfl,K17,_,S17.sel [3,8,10] (by decide),rfl,c17,(Option.some.inj hl3).symm,rfl⟩
  rintro _ w17 ⟨g,ln,K17,csg,Al,cl,rfl,rfl,T17,hrg,hrl⟩
  have S17:=Sx.call (H1:=[]) S16 T17
  dsimp only at hl3
  obtain ⟨g0,g1,g2,g3,g4,g5⟩:=g
  obtain ⟨Ag1,cg1,Ag2,cg2,rfl,hzg,hrg1,hrg2⟩:=RDFunc.open hrg
  refine mv (v:=.tuple #[.agg #[.string g0,.slice Ag1 g1.length cg1,.int .i64 g2,.bool g3,.int .i64 g4,.slice Ag2 g5.length cg2],.slice Al ln.length cl]) rfl ?_
  refine ext (v:=.agg #[.string g0,.slice Ag1 g1.length cg1,.int .i64 g2,.bool g3,.int .i64 g4,.slice Ag2 g5.length cg2]) rfl rfl ?_
  refine ext (v:=.slice Al ln.length cl) rfl rfl ?_
  refine alcC (z:=.agg #[.string ⟨#[]⟩,.slice none 0 0,.int .i64 0,.bool false,.int .i64 0,.slice none 0 0]) (cs:=#[.string ⟨#[]⟩,.slice none 0 0,.int .i64 0,.bool false,.int .i64 0,.slice none 0 0]) S17 (by kernel_rfl) rfl ?_
  intro w18 S18
  refine stoI (i:=0) (v:=.agg #[.string g0,.slice Ag1 g1.length cg1,.int .i64 g2,.bool g3,.int .i64 g4,.slice Ag2 g5.length cg2]) (cs':=#[.string g0,.slice Ag1 g1.length cg1,.int .i64 g2,.bool g3,.int .i64 g4,.slice Ag2 g5.length cg2]) S18 rfl (show SizeB Tryd.prog 34=some 6 by kernel_rfl) rfl rfl rfl rfl (Nat.le_of_ble_eq_true rfl) rfl ?_
  intro w19 S19
  refine asg (v:=.slice Al ln.length cl) rfl ?_
  refine wpList_nil (QLn0 ?_)
  refine thenN ?_
  refine wpIn_seq ?_
  refine regR0 rfl ?_
  refine fld (s:=24) (f:=0) (off:=0) (o':=0) (by kernel_rfl) hσ8 rfl ?_
  refine lb1 (i:=8) (v:=.slice A' out.length c') S19 rfl (by kernel_rfl) rfl rfl ?_
  refine lbN (i:=0) (l:=[.string g0,.slice Ag1 g1.length cg1,.int .i64 g2,.bool g3,.int .i64 g4,.slice Ag2 g5.length cg2]) S19 rfl (by kernel_rfl) (show SizeB Tryd.prog 34=some 6 by kernel_rfl) rfl rfl rfl ?_
  refine bsl (e:=34) (cells:=#[.string g0,.slice Ag1 g1.length cg1,.int .i64 g2,.bool g3,.int .i64 g4,.slice Ag2 g5.length cg2]) (vs:=[(0,.agg #[.string g0,.slice Ag1 g1.length cg1,.int .i64 g2,.bool g3,.int .i64 g4,.slice Ag2 g5.length cg2])]) S19 rfl
   (buildSl_one (show ElemB Tryd.prog 22=some 34 by kernel_rfl) (show SizeB Tryd.prog 34=some 6 by kernel_rfl) (show ZeroB Tryd.prog 34=some (.agg #[.string ⟨#[]⟩,.slice none 0 0,.int .i64 0,.bool false,.int .i64 0,.slice none 0 0]) by kernel_rfl) rfl (by decide) (by decide) rfl) ?_
  intro w20 S20
  refine apR (R:=(RDFunc K17)) (p:=(DFunc.mk g0 g1 g2 g3 g4 g5)) (i:=7) (j:=0) (bytes:=88) S20 rfl rfl (show ElemB Tryd.prog 22=some 34 by kernel_rfl) (show (Tryd.prog.info? 34).map (fun i=>(i.zero,i.size,i.bytes))=some (some (.agg #[.string ⟨#[]⟩,.slice none 0 0,.int .i64 0,.bool false,.int .i64 0,.slice none 0 0]),6,88) by kernel_rfl) rfl (by decide) rfl rfl
   (hro.mono (fun _ _ h=>RDFunc.mono T17.sub h)) (RDFunc.intro hzg hrg1 hrg2) rfl rfl (Nat.le_refl _) (by omega) (by decide) ?_
  intro A21 c21 ys21 w21 S21 hr21
  refine fld (s:=24) (f:=0) (off:=0) (o':=0) (by kernel_rfl) hσ8 rfl ?_
  refine stoI (i:=9) (v:=.slice A21 (out ++ [DFunc.mk g0 g1 g2 g3 g4 g5]).length c21) (cs':=#[.slice A21 (out ++ [DFunc.mk g0 g1 g2 g3 g4 g5]).length c21]) S21 rfl (show SizeB Tryd.prog 22=some 1 by kernel_rfl) rfl rfl rfl rfl (Nat.le_of_ble_eq_true rfl) rfl ?_
  intro w22 S22
  refine wpList_nil (QLn0 ?_)
  refine thenN ?_
  have S23:Sx K K17 wi w22 (fun b=>b ∈ Ents.blks []) [.raw (zz wi) l (.loop o),.box (zz wi) b15 #[.slice A fs.length c] 24,.raw (zz wi) (zz w15) (.deferred (some [])),.row (zz wi) (.slice A'' nms.length c'') 38 1 nms.length ys'',.row (zz wi) (.slice A21 (out ++ [DFunc.mk g0 g1 g2 g3 g4 g5]).length c21) 34 6 (out ++ [DFunc.mk g0 g1 g2 g3 g4 g5]).length ys21,
   .box (zz wi) (zz w12) #[.slice A'' nms.length c''] 49,.box (zz wi) (zz w11) #[.slice A21 (out ++ [DFunc.mk g0 g1 g2 g3 g4 g5]).length c21] 24,.raw (zz wi) (zz w9) (.deferred (some [])),.box (zz wi) (zz w6) #[.int .i64 y] 27,.raw (zz wi) (zz w5) (.deferred (some [])),.box (zz wi) (zz w1) #[.slice none 0 0] 24,.box (zz wi) (zz wi) #[.slice A fs.length c] 24]:=S22.sel [2,3,5,6,7,8,9,10,11,12,13,14] (by decide)
  refine regR0 rfl ?_
  refine lb1 (i:=5) (v:=.slice A'' nms.length c'') S23 rfl (by kernel_rfl) hσ9 rfl ?_
  refine mv (v:=.slice Al ln.length cl) rfl ?_
  refine bsl (e:=38) (cells:=#[.slice Al ln.length cl]) (vs:=[(0,.slice Al ln.length cl)]) S23 rfl
   (buildSl_one (show ElemB Tryd.prog 49=some 38 by kernel_rfl) (show SizeB Tryd.prog 38=some 1 by kernel_rfl) (show ZeroB Tryd.prog 38=some (.slice none 0 0) by kernel_rfl) rfl (by decide) (by decide) rfl) ?_
  intro w24 S24
  refine apR (R:=(RSlE ByteArray (fun K=>RStr) 1 16 K17)) (p:=ln) (i:=4) (j:=0) (bytes:=24) S24 rfl rfl (show ElemB Tryd.prog 49=some 38 by kernel_rfl) (show (Tryd.prog.info? 38).map (fun i=>(i.zero,i.size,i.bytes))=some (some (.slice none 0 0),1,24) by kernel_rfl) rfl (by decide) rfl rfl
   (hrn.mono (fun _ _ h=>RSlE.mono (fun _ _ _ h=>h) T17.sub h)) ⟨Al,cl,rfl,hrl⟩ rfl rfl (Nat.le_refl _) (by omega) (by decide) ?_
  intro A25 c25 ys25 w25 S25 hr25
  refine stoI (i:=6) (v:=.slice A25 (nms ++ [ln]).length c25) (cs':=#[.slice A25 (nms ++ [ln]).length c25]) S25 rfl (show SizeB Tryd.prog 49=some 1 by kernel_rfl) hσ9 rfl rfl rfl (Nat.le_of_ble_eq_true rfl) rfl ?_
  intro w26 S26
  refine wpList_nil (QLn0 ?_)
  refine blkN ?_
  exact ⟨K17,_,hs16.trans T17.sub,S26.sel [1,2,3,4,5,6,7,8,9,10,11,12] (by decide),out ++ [DFunc.mk g0 g1 g2 g3 g4 g5],A21,c21,ys21,nms ++ [ln],A25,c25,ys25,by simp [ho],by simp [hn],rfl,hr21,hr25,hl3⟩
 rotate_left
 ·rintro c' w16 K16 H16 hs16 S16 h; exact h.elim
 ·rintro v w16 K16 H16 S16 ⟨rfl,c16,rfl,rfl⟩
  refine blkP ?_
  refine thenP ?_
  refine leave_mark (A:=[]) (by simp) S16 ?_
  intro w17 S17
  refine leave_mark (A:=[]) (by simp) S17 ?_
  intro w18 S18
  refine leave_mark (A:=[]) (B:=[]) (by simp) S18 ?_
  intro w19 S19
  exact .inr ⟨_,rfl,c16,K16,rfl,rfl,S19⟩
 rintro w16 K16 H16 hs16 S16 ⟨out,A',c',ys',nms,A'',c'',ys'',ho,hn,rfl,hro,hrn,hl3⟩
 rw [List.drop_length] at hl3
 unfold f16_l3 at hl3
 obtain rfl:=Option.some.inj hl3
 subst hHT
 refine blkN ?_
 refine thenN ?_
 have S17:=S16.drew
 have hfin : ∀ (R:Ending→World→Prop) (w' : World) (σ' : Nat→Value),Sx K K16 wi w' (fun b=>b ∈ Ents.blks []) [.raw (zz wi) (zz w15) (.deferred (some [])),.row (zz wi) (.slice A'' nms.length c'') 38 1 nms.length ys'',.row (zz wi) (.slice A' out.length c') 34 6 out.length ys',
   .box (zz wi) (zz w12) #[.slice A'' nms.length c''] 49,.box (zz wi) (zz w11) #[.slice A' out.length c'] 24,.raw (zz wi) (zz w9) (.deferred (some [])),.box (zz wi) (zz w6) #[.int .i64 y] 27,.raw (zz wi) (zz w5) (.deferred (some [])),.box (zz wi) (zz w1) #[.slice A' out.length c'] 24,.box (zz wi) (zz wi) #[.slice A fs.length c] 24] →
   ev 66 σ' (.tmp 2)=.pointer (some ⟨(zz w1),0,none⟩)→ev 66 σ' (.tmp 3)=.slice A'' nms.length c'' →
   (∀ w'' K'',K16.sub K''→tF K'' A' c' out→RSl (List ByteArray) (RSlE ByteArray (fun K=>RStr) 1 16 K'') 1 24 K'' A'' c'' nms→Sx K K'' wi w'' (fun b=>b ∈ Ents.blks []) []→R (.returned (.tuple #[.agg #[.slice A' out.length c'],.slice A'' nms.length c''])) w'') →
   LeavesInM Fence.wide 0 Tryd.prog Tryd.f16 (fr 66 σ').tmps R [mark (zz w15),mark (zz w9),mark (zz w5)] .returning w':=by
  intro R w' σ' S h2 h3 hR
  obtain ⟨K18,S18,hs18,hr18⟩:=shutI (i:=1) (bytes:=24) (R:=fun K=>RSlE ByteArray (fun K=>RStr) 1 16 K) S rfl (Nat.le_refl _) hrn (by rw [hn]; omega) (fun hs _ _ h=>RSlE.mono (fun _ _ _ h=>h) hs h)
  obtain ⟨K19,S19,hs19,hr19⟩:=shutI (i:=1) (bytes:=88) (R:=fun K=>RDFunc K) S18 rfl (Nat.le_refl _) (hro.mono (fun _ _ h=>RDFunc.mono hs18 h)) (by rw [ho]; omega) (fun hs _ _ h=>RDFunc.mono hs h)
  have S20:Sx K K19 wi w' (fun b=>b ∈ Ents.blks []) ([] ++ .raw (zz wi) (zz w15) (.deferred (some [])) :: [.raw (zz wi) (zz w9) (.deferred (some [])),.raw (zz wi) (zz w5) (.deferred (some [])),.box (zz wi) (zz w1) #[.slice A' out.length c'] 24]):=S19.sel [0,3,5,6] (by decide)
  refine leave_mark (by simp) S20 ?_
  intro w21 S21
  refine leave_mark (A:=[]) (by simp) S21 ?_
  intro w22 S22
  refine leave_mark (A:=[]) (by simp) S22 ?_
  intro w23 S23
  exact ⟨_,run_resA2 rfl (resN (i:=0) (l:=[.slice A' out.length c']) S23 rfl (by kernel_rfl) (show SizeB Tryd.prog 24=some 1 by kernel_rfl) h2 rfl rfl) (resT h3),hR w23 K19 (hs18.trans hs19) hr19 (hr18.mono hs19 (fun _ _ h=>RSlE.mono (fun _ _ _ h=>h) hs19 h)) (S23.sel [])⟩
 refine wpF_seq ?_
 refine wpF_of ((wpIn_wide (n:=0)).1 (regAnyR (ro:=none) (E:=[]) (F:=fun _=>True) (by kernel_rfl) rfl rfl rfl ?_))
 refine anyAll (rs:=[0,1]) (by kernel_rfl) (by decide) (allC ?_ (allC ?_ allN))
 ·refine opL (i:=0) rfl ?_
  refine lbN (i:=4) (l:=[.slice A' out.length c']) S17 rfl (by kernel_rfl) (show SizeB Tryd.prog 24=some 1 by kernel_rfl) rfl rfl rfl ?_
  refine wpList_nil ?_
  refine thenN ?_
  refine ⟨fun _=>trivial,?_⟩
  refine anyAll (rs:=[1,2]) (by kernel_rfl) (by decide) (allC ?_ (allC ?_ allN))
  ·refine opL (i:=1) rfl ?_
   refine lb1 (i:=3) (v:=.slice A'' nms.length c'') S17 rfl (by kernel_rfl) rfl rfl ?_
   refine wpList_nil ?_
   refine thenN ?_
   refine ⟨fun _=>trivial,?_⟩
   refine anyAll (rs:=[2]) (by kernel_rfl) (by decide) (allC ?_ allN)
   refine opL (i:=2) rfl ?_
   refine stoI (i:=8) (v:=.agg #[.slice A' out.length c']) (cs':=#[.slice A' out.length c']) S17 rfl (show SizeB Tryd.prog 24=some 1 by kernel_rfl) rfl rfl rfl rfl (Nat.le_of_ble_eq_true rfl) rfl ?_
   intro w18 S18
   refine wpList_nil ?_
   refine thenN ?_
   refine ⟨fun _=>trivial,?_⟩
   refine anyAll (rs:=[3]) (by kernel_rfl) (by decide) (allC ?_ allN)
   refine opL (i:=3) rfl ?_
   refine asg (v:=.slice A'' nms.length c'') rfl ?_
   refine wpList_nil ?_
   refine thenN ?_
   refine ⟨fun _=>trivial,?_⟩
   refine anyDone (by kernel_rfl) (QLn ?_)
   refine thenN ?_
   refine wpF_of (wp_ret ?_)
   exact hfin _ _ _ S18 rfl rfl (fun w' K' hs hr1 hr2 S'=>.inl ⟨_,rfl,.mk out,nms,K',[.slice A' out.length c'],A'',c'',rfl,rfl,S',RDProgram.intro hr1,hr2⟩)
  ·refine opL (i:=2) rfl ?_
   refine stoI (i:=8) (v:=.agg #[.slice A' out.length c']) (cs':=#[.slice A' out.length c']) S17 rfl (show SizeB Tryd.prog 24=some 1 by kernel_rfl) rfl rfl rfl rfl (Nat.le_of_ble_eq_true rfl) rfl ?_
   intro w18 S18
   refine wpList_nil ?_
   refine thenN ?_
   refine ⟨fun _=>trivial,?_⟩
   refine anyAll (rs:=[1]) (by kernel_rfl) (by decide) (allC ?_ allN)
   refine opL (i:=1) rfl ?_
   refine lb1 (i:=3) (v:=.slice A'' nms.length c'') S18 rfl (by kernel_rfl) rfl rfl ?_
   refine wpList_nil ?_
   refine thenN ?_
   refine ⟨fun _=>trivial,?_⟩
   refine anyAll (rs:=[3]) (by kernel_rfl) (by decide) (allC ?_ allN)
   refine opL (i:=3) rfl ?_
   refine asg (v:=.slice A'' nms.length c'') rfl ?_
   refine wpList_nil ?_
   refine thenN ?_
   refine ⟨fun _=>trivial,?_⟩
   refine anyDone (by kernel_rfl) (QLn ?_)
   refine thenN ?_
   refine wpF_of (wp_ret ?_)
   exact hfin _ _ _ S18 rfl rfl (fun w' K' hs hr1 hr2 S'=>.inl ⟨_,rfl,.mk out,nms,K',[.slice A' out.length c'],A'',c'',rfl,rfl,S',RDProgram.intro hr1,hr2⟩)
 ·refine opL (i:=1) rfl ?_
  refine lb1 (i:=3) (v:=.slice A'' nms.length c'') S17 rfl (by kernel_rfl) rfl rfl ?_
  refine wpList_nil ?_
  refine thenN ?_
  refine ⟨fun _=>trivial,?_⟩
  refine anyAll (rs:=[0]) (by kernel_rfl) (by decide) (allC ?_ allN)
  refine opL (i:=0) rfl ?_
  refine lbN (i:=4) (l:=[.slice A' out.length c']) S17 rfl (by kernel_rfl) (show SizeB Tryd.prog 24=some 1 by kernel_rfl) rfl rfl rfl ?_
  refine wpList_nil ?_
  refine thenN ?_
  refine ⟨fun _=>trivial,?_⟩
  refine anyAll (rs:=[2]) (by kernel_rfl) (by decide) (allC ?_ allN)
  refine opL (i:=2) rfl ?_
  refine stoI (i:=8) (v:=.agg #[.slice A' out.length c']) (cs':=#[.slice A' out.length c']) S17 rfl (show SizeB Tryd.prog 24=some 1 by kernel_rfl) rfl rfl rfl rfl (Nat.le_of_ble_eq_true rfl) rfl ?_
  intro w18 S18
  refine wpList_nil ?_
  refine thenN ?_
  refine ⟨fun _=>trivial,?_⟩
  refine anyAll (rs:=[3]) (by kernel_rfl) (by decide) (allC ?_ allN)
  refine opL (i:=3) rfl ?_
  refine asg (v:=.slice A'' nms.length c'') rfl ?_
  refine wpList_nil ?_
  refine thenN ?_
  refine ⟨fun _=>trivial,?_⟩
  refine anyDone (by kernel_rfl) (QLn ?_)
  refine thenN ?_
  refine wpF_of (wp_ret ?_)
  exact hfin _ _ _ S18 rfl rfl (fun w' K' hs hr1 hr2 S'=>.inl ⟨_,rfl,.mk out,nms,K',[.slice A' out.length c'],A'',c'',rfl,rfl,S',RDProgram.intro hr1,hr2⟩)
theorem f16_ok (k:Nat):f16_spec (f16 k):=f16_body k (f26_ok k) (f25_ok k) (f1002804_ok k) (f30_ok k)
theorem f51_b_ok (k:Nat):f51_spec (f51_b k):=by
 unfold f51_spec
 intro K wi a o p h hG b c
 obtain ⟨r_,hr_,h⟩:=rz h
 obtain ⟨d,e,f,g,i⟩:=a
 obtain ⟨j,l,rfl,q,r⟩:=RDExpr.open b
 refine enter Tryd.func51 rfl (n:=3) rfl ?_
 unfold f51_b at h
 refine sr (bxoC (cs:=(vE d e f g j i l).toArray) c rfl rfl (fun s m=>(m2 (iI 0) (wt (sr (m2 (iI 0) (wt (wp_ret ?_))))))))
 cases (oi h).trans hr_
 exact retA1 rfl (resT rfl) ⟨K,rfl,(m.sel [])⟩
theorem f51_ok (k:Nat):f51_spec (f51 k):=f51_b_ok k
theorem f1005331_b_ok (k:Nat) (F:Fam1005331) (IH1005331:f1005331_spec F.f1005331) (IH1005931:f1005931_spec F.f1005931):f1005331_spec (f1005331_b k F):=by
 unfold f1005331_spec
 intro K wi f Z ab aK h hG ac ak
 obtain ⟨r_,hr_,h⟩:=rz h
 refine enter Tryd.func53 rfl (n:=22) rfl ?_
 unfold f1005331_b at h
 refine sr (m2 nS (wt (sr (m2 nS (wt (wp_seq (sr (m1 (sl Z f ab) (lS f.length Tye44 (m1 (iI 0) (wt (wp_block ?_))))))))))))
 have al:=ak.row_ (zz wi) 61 5
 refine wp_loopG (fun g_ a w=>∃ ad J g,∃ (d:Nat),∃ c l m O,g_=g.length∧a=fr 22 (updL ad [(1,.func (.func 51) #[] #[]),(5,sl l c m),(8,sl Z f ab),(9,iI (f.length:Int)),(10,iI (d:Int))])∧KH.sub K J∧SR K J wi w [] [.row (zz wi) (sl l c m) 61 5 c.length O]∧f.drop d=g∧Reps (RDExpr J) 5 c O∧c.length * 64 ≤ mB∧f1005331_l1 k F g d c=some r_) f.length ?_ ?_
 ·exact ⟨_,K,f,0,([]:LE),none,0,[],rfl,fR,kr,al,List.drop_zero,(reps0 (R:=(RDExpr K)) (size:=5)),(by simp),h⟩
 ·rintro _ _ am ⟨ad,J,g,d,c,l,m,O,rfl,rfl,N,S,y,ae,an,h⟩
  rcases g with _ | ⟨⟨z,A,B,C,D⟩,g⟩
  ·unfold f1005331_l1 at h
   refine sr (bcm (r:=false) rfl rfl (congrArg some (drop_nil_lt y)) (wt (wp_seq (cndF rfl (wp_exit (thenX (thenX (blkX (thenN (sr (m1 (sl l c m) (m2 (sl l c m) (wt (wp_ret ?_))))))))))))))
   obtain ⟨ao,ap,aL,aq⟩:=shutI (i:=0) (bytes:=64) (R:=fun K=>(RDExpr K)) S rfl (Nat.le_refl _) ae an (fun hs=>(fun _ _ h=>RDExpr.mono hs h))
   cases (oi h).trans hr_
   exact retA1 rfl (resT rfl) ⟨ao,l,m,rfl,ap,aq⟩
  ·unfold f1005331_l1 at h
   refine sr (bcm (r:=true) rfl rfl (congrArg some (drop_cons_t y)) (wt (wp_seq (cndT rfl (wp_skip (thenN (wp_seq (wp_block (sr ?_)))))))))
   obtain ⟨ar,au,aM,av,aN,aw,ax⟩:=((me ac N)).row.at_ (drop_cons_at y)
   obtain ⟨G,I,rfl,ay,az⟩:=RDExpr.open ax
   refine idxN (b:=ar) (o:=au) (i:=d) Tye44 Tys61 rfl av rfl (drop_cons_lt y) (lD (vE z A B C G D I) Tya61 Tys61 rfl (fun j v hj=>S.cell (kr.cell (aw j v hj))) (aC zE.toArray S Tyz61 (fun aP aA=>(sI 0 (.agg (vE z A B C G D I).toArray) ((vE z A B C G D I).toArray) aA Tys61 rfl rfl (fun aQ U=>(wt (wp_region_lit (m1 (sl l c m) (lN 0 (vE z A B C G D I) U Tya61 Tys61 (m1 (.func (.func 51) #[] #[]) ?_))))))))))
   obtain ⟨⟨q,s,t,u,x⟩,aB,h⟩:=ob h
   refine cv ([.agg (vE z A B C G D I).toArray,.func (.func 51) #[] #[]]) Tyb59 (IH1005931 aB (hG.mono N) (RDExpr.intro ay az) (pt U)) ?_
   rintro _ aR ⟨V,aS,rfl,W,af⟩
   have aE:=ca W U
   obtain ⟨ag,ah,rfl,aT,aU⟩:=RDExpr.open af
   refine bsl (e:=61) (cells:=(vE q s t u ag x ah).toArray) (vs:=[(0,.agg (vE q s t u ag x ah).toArray)]) aE rfl (buildSl_one Tye44 Tys61 Tyz61 rfl (by decide) (by decide) rfl) (fun aV aF=>?_)
   obtain ⟨ai,h⟩:=of_guard h
   refine apR (R:=(RDExpr V)) (p:=(DExpr.mk q s t u x)) (i:=2) (j:=0) aF rfl rfl Tye44 Tyi61 rfl (by decide) rfl rfl (ae.mono (fun _ _ h=>RDExpr.mono W.sub h)) af rfl rfl (Nat.le_refl _) ai (by decide) (fun X Y aj aG aH aI=>?_)
   have aJ:=p12 aH
   exact m2 (.slice X (c ++ [(DExpr.mk q s t u x)]).length Y) (wpList_nil (blkN (thenN (wp_region_lit (bar (r:=((d + 1:Nat):Int)) rfl rfl (inc_ok (le_big (((me ac N)).len) (by decide) (drop_cons_lt y))) (m1 (iI ((d + 1:Nat):Int)) (wt (⟨_,Nat.lt_succ_self _,_,V,g,d + 1,(c ++ [(DExpr.mk q s t u x)]),X,Y,aj,rfl,fR,(N.trans W.sub),(aJ.sel [1]),drop_cons_next y,aI,(app_bound ai),h⟩))))))))
theorem f1005931_b_ok (k:Nat) (F:Fam1005331) (IH1005331:f1005331_spec F.f1005331) (IH1005931:f1005931_spec F.f1005931):f1005931_spec (f1005931_b k F):=by
 unfold f1005931_spec
 intro K wi z V W h hG A B
 obtain ⟨r_,hr_,h⟩:=rz h
 obtain ⟨a,b,c,j,m⟩:=z
 obtain ⟨o,p,rfl,s,C⟩:=RDExpr.open A
 refine enter Tryd.func59 rfl (n:=15) rfl ?_
 unfold f1005931_b at h
 refine sr (bxoC (cs:=(vE a b c j o m p).toArray) B rfl rfl (fun D G=>(aC zE.toArray G Tyz61 (fun X q=>(wt (sr (fd 4 Tyf61_4 rfl (l1 1 (sl o m p) q Tya44 (m1 (.func (.func 51) #[] #[]) ?_)))))))))
 obtain ⟨d,I,h⟩:=ob h
 refine cv ([sl o m p,.func (.func 51) #[] #[]]) Tyb53 (IH1005331 I (hG.mono kr) C (pt q)) ?_
 rintro _ Y ⟨Z,e,f,rfl,t,u⟩
 have J:=ca t q
 refine fd 4 Tyf61_4 rfl (sI 1 (sl e d f) ((vE a b c j e d f).toArray) J Tys44 rfl rfl (fun ab r=>(wt (sr (m1 (.func (.func 51) #[] #[]) (lN 1 (vE a b c j e d f) r Tya61 Tys61 ?_))))))
 obtain ⟨g,N,h⟩:=ob h
 refine cv ([.agg (vE a b c j e d f).toArray]) Tyb51 ((f51_ok k) N (hG.mono t.sub) (RDExpr.intro s u) (pt r)) ?_
 rintro _ ac ⟨v,rfl,w⟩
 have O:=ca w r
 refine fd 3 Tyf61_3 rfl (sI 1 (iI g) ((vE a b c g e d f).toArray) O Tys3 rfl rfl (fun ad x=>(wt (sr (lN 1 (vE a b c g e d f) x Tya61 Tys61 (sI 0 (.agg (vE a b c g e d f).toArray) ((vE a b c g e d f).toArray) x Tys61 rfl rfl (fun S U=>?_)))))))
 have y:SR K v wi S [] [.box (zz wi) (zz D) (vE a b c g e d f).toArray 61,.box (zz wi) (zz wi) (vE a b c g e d f).toArray 61]:=U
 refine wt (wp_ret ?_)
 cases (oi h).trans hr_
 exact retA1 rfl (resN (i:=0) (l:=(vE a b c g e d f)) y rfl Tya61 Tys61 rfl rfl rfl) ⟨v,(vE a b c g e d f),rfl,(y.sel []),(RDExpr.intro s (me u w.sub))⟩
theorem fam1005331_ok (k0:Nat) : ∀ k,f1005331_spec (fam1005331 k0 k).f1005331∧f1005931_spec (fam1005331 k0 k).f1005931:=by
 intro k
 induction k with
 | zero=>exact ⟨(by unfold f1005331_spec; intro _ _ _ _ _ _ h_; cases h_),(by unfold f1005931_spec; intro _ _ _ _ _ h_; cases h_)⟩
 | succ k ih=>exact ⟨f1005331_b_ok k0 (fam1005331 k0 k) ih.1 ih.2,f1005931_b_ok k0 (fam1005331 k0 k) ih.1 ih.2⟩
theorem f1005331_ok (k:Nat):f1005331_spec (f1005331 k):=(fam1005331_ok k k).1
theorem f1005931_ok (k:Nat):f1005931_spec (f1005931 k):=(fam1005331_ok k k).2
theorem f52_b_ok (k:Nat):f52_spec (f52_b k):=by
 unfold f52_spec
 intro K wi c o p h hG d e
 obtain ⟨r_,hr_,h⟩:=rz h
 obtain ⟨f,g,i,a,j⟩:=c
 obtain ⟨l,m,rfl,q,r⟩:=RDExpr.open d
 refine enter Tryd.func52 rfl (n:=5) rfl ?_
 unfold f52_b at h
 refine sr (bxoC (cs:=(vE f g i a l j m).toArray) e rfl rfl (fun s b=>(m2 (iI 0) (wt (sr (fd 3 Tyf61_3 rfl (l1 0 (iI a) b Tya3 (m2 (iI a) (wt (wp_ret ?_))))))))))
 cases (oi h).trans hr_
 exact retA1 rfl (resT rfl) ⟨K,rfl,(b.sel [])⟩
theorem f52_ok (k:Nat):f52_spec (f52 k):=f52_b_ok k
theorem f1005362_b_ok (k:Nat) (F:Fam1005362) (IH1005362:f1005362_spec F.f1005362) (IH1005962:f1005962_spec F.f1005962):f1005362_spec (f1005362_b k F):=by
 unfold f1005362_spec
 intro K wi f Z ab aK h hG ac ak
 obtain ⟨r_,hr_,h⟩:=rz h
 refine enter Tryd.func53 rfl (n:=22) rfl ?_
 unfold f1005362_b at h
 refine sr (m2 nS (wt (sr (m2 nS (wt (wp_seq (sr (m1 (sl Z f ab) (lS f.length Tye44 (m1 (iI 0) (wt (wp_block ?_))))))))))))
 have al:=ak.row_ (zz wi) 61 5
 refine wp_loopG (fun g_ a w=>∃ ad J g,∃ (d:Nat),∃ c l m O,g_=g.length∧a=fr 22 (updL ad [(1,.func (.func 52) #[] #[]),(5,sl l c m),(8,sl Z f ab),(9,iI (f.length:Int)),(10,iI (d:Int))])∧KH.sub K J∧SR K J wi w [] [.row (zz wi) (sl l c m) 61 5 c.length O]∧f.drop d=g∧Reps (RDExpr J) 5 c O∧c.length * 64 ≤ mB∧f1005362_l1 k F g d c=some r_) f.length ?_ ?_
 ·exact ⟨_,K,f,0,([]:LE),none,0,[],rfl,fR,kr,al,List.drop_zero,(reps0 (R:=(RDExpr K)) (size:=5)),(by simp),h⟩
 ·rintro _ _ am ⟨ad,J,g,d,c,l,m,O,rfl,rfl,N,S,y,ae,an,h⟩
  rcases g with _ | ⟨⟨z,A,B,C,D⟩,g⟩
  ·unfold f1005362_l1 at h
   refine sr (bcm (r:=false) rfl rfl (congrArg some (drop_nil_lt y)) (wt (wp_seq (cndF rfl (wp_exit (thenX (thenX (blkX (thenN (sr (m1 (sl l c m) (m2 (sl l c m) (wt (wp_ret ?_))))))))))))))
   obtain ⟨ao,ap,aL,aq⟩:=shutI (i:=0) (bytes:=64) (R:=fun K=>(RDExpr K)) S rfl (Nat.le_refl _) ae an (fun hs=>(fun _ _ h=>RDExpr.mono hs h))
   cases (oi h).trans hr_
   exact retA1 rfl (resT rfl) ⟨ao,l,m,rfl,ap,aq⟩
  ·unfold f1005362_l1 at h
   refine sr (bcm (r:=true) rfl rfl (congrArg some (drop_cons_t y)) (wt (wp_seq (cndT rfl (wp_skip (thenN (wp_seq (wp_block (sr ?_)))))))))
   obtain ⟨ar,au,aM,av,aN,aw,ax⟩:=((me ac N)).row.at_ (drop_cons_at y)
   obtain ⟨G,I,rfl,ay,az⟩:=RDExpr.open ax
   refine idxN (b:=ar) (o:=au) (i:=d) Tye44 Tys61 rfl av rfl (drop_cons_lt y) (lD (vE z A B C G D I) Tya61 Tys61 rfl (fun j v hj=>S.cell (kr.cell (aw j v hj))) (aC zE.toArray S Tyz61 (fun aP aA=>(sI 0 (.agg (vE z A B C G D I).toArray) ((vE z A B C G D I).toArray) aA Tys61 rfl rfl (fun aQ U=>(wt (wp_region_lit (m1 (sl l c m) (lN 0 (vE z A B C G D I) U Tya61 Tys61 (m1 (.func (.func 52) #[] #[]) ?_))))))))))
   obtain ⟨⟨q,s,t,u,x⟩,aB,h⟩:=ob h
   refine cv ([.agg (vE z A B C G D I).toArray,.func (.func 52) #[] #[]]) Tyb59 (IH1005962 aB (hG.mono N) (RDExpr.intro ay az) (pt U)) ?_
   rintro _ aR ⟨V,aS,rfl,W,af⟩
   have aE:=ca W U
   obtain ⟨ag,ah,rfl,aT,aU⟩:=RDExpr.open af
   refine bsl (e:=61) (cells:=(vE q s t u ag x ah).toArray) (vs:=[(0,.agg (vE q s t u ag x ah).toArray)]) aE rfl (buildSl_one Tye44 Tys61 Tyz61 rfl (by decide) (by decide) rfl) (fun aV aF=>?_)
   obtain ⟨ai,h⟩:=of_guard h
   refine apR (R:=(RDExpr V)) (p:=(DExpr.mk q s t u x)) (i:=2) (j:=0) aF rfl rfl Tye44 Tyi61 rfl (by decide) rfl rfl (ae.mono (fun _ _ h=>RDExpr.mono W.sub h)) af rfl rfl (Nat.le_refl _) ai (by decide) (fun X Y aj aG aH aI=>?_)
   have aJ:=p12 aH
   exact m2 (.slice X (c ++ [(DExpr.mk q s t u x)]).length Y) (wpList_nil (blkN (thenN (wp_region_lit (bar (r:=((d + 1:Nat):Int)) rfl rfl (inc_ok (le_big (((me ac N)).len) (by decide) (drop_cons_lt y))) (m1 (iI ((d + 1:Nat):Int)) (wt (⟨_,Nat.lt_succ_self _,_,V,g,d + 1,(c ++ [(DExpr.mk q s t u x)]),X,Y,aj,rfl,fR,(N.trans W.sub),(aJ.sel [1]),drop_cons_next y,aI,(app_bound ai),h⟩))))))))
theorem f1005962_b_ok (k:Nat) (F:Fam1005362) (IH1005362:f1005362_spec F.f1005362) (IH1005962:f1005962_spec F.f1005962):f1005962_spec (f1005962_b k F):=by
 unfold f1005962_spec
 intro K wi z V W h hG A B
 obtain ⟨r_,hr_,h⟩:=rz h
 obtain ⟨a,b,c,j,m⟩:=z
 obtain ⟨o,p,rfl,s,C⟩:=RDExpr.open A
 refine enter Tryd.func59 rfl (n:=15) rfl ?_
 unfold f1005962_b at h
 refine sr (bxoC (cs:=(vE a b c j o m p).toArray) B rfl rfl (fun D G=>(aC zE.toArray G Tyz61 (fun X q=>(wt (sr (fd 4 Tyf61_4 rfl (l1 1 (sl o m p) q Tya44 (m1 (.func (.func 52) #[] #[]) ?_)))))))))
 obtain ⟨d,I,h⟩:=ob h
 refine cv ([sl o m p,.func (.func 52) #[] #[]]) Tyb53 (IH1005362 I (hG.mono kr) C (pt q)) ?_
 rintro _ Y ⟨Z,e,f,rfl,t,u⟩
 have J:=ca t q
 refine fd 4 Tyf61_4 rfl (sI 1 (sl e d f) ((vE a b c j e d f).toArray) J Tys44 rfl rfl (fun ab r=>(wt (sr (m1 (.func (.func 52) #[] #[]) (lN 1 (vE a b c j e d f) r Tya61 Tys61 ?_))))))
 obtain ⟨g,N,h⟩:=ob h
 refine cv ([.agg (vE a b c j e d f).toArray]) Tyb52 ((f52_ok k) N (hG.mono t.sub) (RDExpr.intro s u) (pt r)) ?_
 rintro _ ac ⟨v,rfl,w⟩
 have O:=ca w r
 refine fd 3 Tyf61_3 rfl (sI 1 (iI g) ((vE a b c g e d f).toArray) O Tys3 rfl rfl (fun ad x=>(wt (sr (lN 1 (vE a b c g e d f) x Tya61 Tys61 (sI 0 (.agg (vE a b c g e d f).toArray) ((vE a b c g e d f).toArray) x Tys61 rfl rfl (fun S U=>?_)))))))
 have y:SR K v wi S [] [.box (zz wi) (zz D) (vE a b c g e d f).toArray 61,.box (zz wi) (zz wi) (vE a b c g e d f).toArray 61]:=U
 refine wt (wp_ret ?_)
 cases (oi h).trans hr_
 exact retA1 rfl (resN (i:=0) (l:=(vE a b c g e d f)) y rfl Tya61 Tys61 rfl rfl rfl) ⟨v,(vE a b c g e d f),rfl,(y.sel []),(RDExpr.intro s (me u w.sub))⟩
theorem fam1005362_ok (k0:Nat) : ∀ k,f1005362_spec (fam1005362 k0 k).f1005362∧f1005962_spec (fam1005362 k0 k).f1005962:=by
 intro k
 induction k with
 | zero=>exact ⟨(by unfold f1005362_spec; intro _ _ _ _ _ _ h_; cases h_),(by unfold f1005962_spec; intro _ _ _ _ _ h_; cases h_)⟩
 | succ k ih=>exact ⟨f1005362_b_ok k0 (fam1005362 k0 k) ih.1 ih.2,f1005962_b_ok k0 (fam1005362 k0 k) ih.1 ih.2⟩
theorem f1005362_ok (k:Nat):f1005362_spec (f1005362 k):=(fam1005362_ok k k).1
theorem f1005962_ok (k:Nat):f1005962_spec (f1005962 k):=(fam1005362_ok k k).2
theorem f40_b_ok (k:Nat) (F:Fam40) (IH40:f40_spec F.f40):f40_spec (f40_b k F):=by
 unfold f40_spec
 intro K wi A be bf c f1 h hG cm dd
 obtain ⟨r_,hr_,h⟩:=rz h
 refine enter Tryd.func40 rfl (n:=76) rfl ?_
 unfold f40_b at h
 refine sr (m2 nS (wt (sr (m2 (.func (.func 51) #[] #[]) (wt (wp_seq (sr (m1 (.bool c) (wt (cd h (fun cx h=>?_) (fun cx h=>?_)))))))))))
 ·refine cT cx (wp_region_lit (m2 (.func (.func 52) #[] #[]) (wt (sr (m2 nS (wt (wp_seq (sr (m1 (sl be A bf) (lS A.length Tye32 (m1 (iI 0) (wt (wp_block ?_)))))))))))))
  have dL:=dd.row_ (zz wi) 47 11
  refine wp_loopG (fun g_ a w=>∃ de b1 bg,∃ (am:Nat),∃ d ai aj bB,g_=bg.length∧a=fr 76 (updL de [(1,.bool c),(5,.func (.func 52) #[] #[]),(6,sl ai d aj),(13,sl be A bf),(14,iI (A.length:Int)),(15,iI (am:Int))])∧KH.sub K b1∧SR K b1 wi w [] [.row (zz wi) (sl ai d aj) 47 11 d.length bB]∧A.drop am=bg∧Reps (RDStmt b1) 11 d bB∧d.length * 184 ≤ mB∧f40_l1 k F c bg am d=some r_) A.length ?_ ?_
  ·exact ⟨_,K,A,0,([]:LS),none,0,[],rfl,fR,kr,dL,List.drop_zero,(reps0 (R:=(RDStmt K)) (size:=11)),(by simp),h⟩
  ·rintro _ _ bh ⟨de,b1,bg,am,d,ai,aj,bB,rfl,rfl,bC,cy,b2,df,dM,h⟩
   rcases bg with _ | ⟨⟨g,l,cn,m,cf,q,bi,aZ,aP,an,B⟩,bg⟩
   ·unfold f40_l1 at h
    refine sr (bcm (r:=false) rfl rfl (congrArg some (drop_nil_lt b2)) (wt (wp_seq (cndF rfl (wp_exit (thenX (thenX (blkX (thenN (sr (m1 (sl ai d aj) (m2 (sl ai d aj) (wt (wp_ret ?_))))))))))))))
    obtain ⟨dN,dO,f2,dP⟩:=shutI (i:=0) (bytes:=184) (R:=fun K=>(RDStmt K)) cy rfl (Nat.le_refl _) df dM (fun hs=>(fun _ _ h=>RDStmt.mono hs h))
    cases (oi h).trans hr_
    exact retA1 rfl (resT rfl) ⟨dN,ai,aj,rfl,dO,dP⟩
   ·unfold f40_l1 at h
    refine sr (bcm (r:=true) rfl rfl (congrArg some (drop_cons_t b2)) (wt (wp_seq (cndT rfl (wp_skip (thenN (wp_seq (wp_block (sr ?_)))))))))
    obtain ⟨dQ,dR,f3,dS,f8,dT,dU⟩:=((ms cm bC)).row.at_ (drop_cons_at b2)
    obtain ⟨bD,bE,bj,bk,a2,a3,ay,az,X,Y,rfl,dV,dW,dX,dY,dZ,d0,dg⟩:=RDStmt.open dU
    refine idxN (b:=dQ) (o:=dR) (i:=am) Tye32 Tys47 rfl dS rfl (drop_cons_lt b2) (lD (vS g l cn m cf q bD bi bE bj aZ bk a2 aP a3 ay an az X B Y) Tya47 Tys47 rfl (fun j v hj=>cy.cell (kr.cell (dT j v hj))) (aC zS.toArray cy Tyz47 (fun f9 d1=>(sI 0 (.agg (vS g l cn m cf q bD bi bE bj aZ bk a2 aP a3 ay an az X B Y).toArray) ((vS g l cn m cf q bD bi bE bj aZ bk a2 aP a3 ay an az X B Y).toArray) d1 Tys47 rfl rfl (fun ga dh=>(wt (wp_cut (fun a w=>∃ di D G,a=fr 76 (updL di [(1,.bool c),(5,.func (.func 52) #[] #[]),(6,sl ai d aj),(8,pp (zz bh) 0),(13,sl be A bf),(14,iI (A.length:Int)),(15,iI (am:Int))])∧SR K b1 wi w [] [.box (zz wi) (zz bh) (vS g l D m G q bD bi bE bj aZ bk a2 aP a3 ay an az X B Y).toArray 47,.row (zz wi) (sl ai d aj) 47 11 d.length bB]∧f40_j1 k F c d am g l m q bi aZ aP an B D G (f40_l1 k F c bg)=some r_) ?_ ?_)))))))
    ·refine sr (m1 (.bool c) (uN c (wt (cd h (fun cz h=>?_) (fun cz h=>?_)))))
     ·refine cT cz (wp_region_lit (fd 2 Tyf47_2 rfl (sI 0 (iI 0) ((vS g l 0 m cf q bD bi bE bj aZ bk a2 aP a3 ay an az X B Y).toArray) dh Tys3 rfl rfl (fun gb d2=>(fd 4 Tyf47_4 rfl (sI 0 (iI 0) ((vS g l 0 m 0 q bD bi bE bj aZ bk a2 aP a3 ay an az X B Y).toArray) d2 Tys3 rfl rfl (fun d3 d4=>?_)))))))
      have d5:SR K b1 wi d3 [] [.box (zz wi) (zz bh) (vS g l 0 m 0 q bD bi bE bj aZ bk a2 aP a3 ay an az X B Y).toArray 47,.row (zz wi) (sl ai d aj) 47 11 d.length bB]:=d4
      exact wt (⟨_,0,0,fR,d5,h⟩)
     ·exact cF cz (wp_skip (thenN (⟨_,cn,cf,fR,dh,h⟩)))
    ·rintro _ gc ⟨di,D,G,rfl,cA,h⟩
     unfold f40_j1 at h
     refine sr (fd 6 Tyf47_6 rfl (l1 0 (sl bD bi bE) cA Tya44 (m1 (.func (.func 52) #[] #[]) ?_)))
     obtain ⟨N,d6,h⟩:=ob h
     refine cv ([sl bD bi bE,.func (.func 52) #[] #[]]) Tyb53 ((f1005362_ok k) d6 (hG.mono bC) dX (pt cA)) ?_
     rintro _ gd ⟨ge,ao,ap,rfl,aA,d7⟩
     have d8:=ca aA cA
     refine fd 6 Tyf47_6 rfl (sI 0 (sl ao N ap) ((vS g l D m G q ao N ap bj aZ bk a2 aP a3 ay an az X B Y).toArray) d8 Tys44 rfl rfl (fun gf cB=>(wt (sr (fd 7 Tyf47_7 rfl (l1 0 (sl bj aZ bk) cB Tya32 (m1 (.bool c) ?_)))))))
     obtain ⟨S,d9,h⟩:=ob h
     refine cv ([sl bj aZ bk,.bool c]) Tyb40 (IH40 d9 (hG.mono (bC.trans aA.sub)) (ms dY aA.sub) (pt cB)) ?_
     rintro _ gg ⟨gh,aB,aE,rfl,aQ,ea⟩
     have ec:=ca aQ cB
     refine fd 7 Tyf47_7 rfl (sI 0 (sl aB S aE) ((vS g l D m G q ao N ap aB S aE a2 aP a3 ay an az X B Y).toArray) ec Tys32 rfl rfl (fun gi cC=>(wt (sr (fd 8 Tyf47_8 rfl (l1 0 (sl a2 aP a3) cC Tya32 (m1 (.bool c) ?_)))))))
     obtain ⟨V,ed,h⟩:=ob h
     refine cv ([sl a2 aP a3,.bool c]) Tyb40 (IH40 ed (hG.mono ((bC.trans aA.sub).trans aQ.sub)) (ms dZ (aA.sub.trans aQ.sub)) (pt cC)) ?_
     rintro _ gj ⟨ee,aR,aS,rfl,a4,ef⟩
     have eg:=ca a4 cC
     refine fd 8 Tyf47_8 rfl (sI 0 (sl aR V aS) ((vS g l D m G q ao N ap aB S aE aR V aS ay an az X B Y).toArray) eg Tys32 rfl rfl (fun eh ei=>?_))
     have cD:SR K ee wi eh [] [.box (zz wi) (zz bh) (vS g l D m G q ao N ap aB S aE aR V aS ay an az X B Y).toArray 47,.row (zz wi) (sl ai d aj) 47 11 d.length bB]:=ei
     refine wt (sr (fd 9 Tyf47_9 rfl (l1 0 (sl ay an az) cD Tya32 (m1 (.bool c) ?_))))
     obtain ⟨ac,ej,h⟩:=ob h
     refine cv ([sl ay an az,.bool c]) Tyb40 (IH40 ej (hG.mono (((bC.trans aA.sub).trans aQ.sub).trans a4.sub)) (ms d0 ((aA.sub.trans aQ.sub).trans a4.sub)) (pt cD)) ?_
     rintro _ gk ⟨cG,bm,bn,rfl,bo,ek⟩
     have el:=ca bo cD
     refine fd 9 Tyf47_9 rfl (sI 0 (sl bm ac bn) ((vS g l D m G q ao N ap aB S aE aR V aS bm ac bn X B Y).toArray) el Tys32 rfl rfl (fun gl dj=>(wt (sr (m2 nS (wt (wp_seq (sr (fd 10 Tyf47_10 rfl (l1 0 (sl X B Y) dj Tya45 (lS B.length Tye45 (m1 (iI 0) (wt (wp_block ?_))))))))))))))
     have em:=dj.row_ (zz wi) 56 5
     refine wp_loopG (fun g_ a w=>∃ dk ch bL,∃ (bp:Nat),∃ s aF aG co,g_=bL.length∧a=fr 76 (updL dk [(1,.bool c),(5,.func (.func 52) #[] #[]),(6,sl ai d aj),(8,pp (zz bh) 0),(9,sl aF s aG),(13,sl be A bf),(14,iI (A.length:Int)),(15,iI (am:Int)),(44,sl X B Y),(45,iI (B.length:Int)),(46,iI (bp:Int))])∧KH.sub cG ch∧SR K ch wi w [] [.box (zz wi) (zz bh) (vS g l D m G q ao N ap aB S aE aR V aS bm ac bn X B Y).toArray 47,.row (zz wi) (sl ai d aj) 47 11 d.length bB,.row (zz wi) (sl aF s aG) 56 5 s.length co]∧B.drop bp=bL∧Reps (RDCase ch) 5 s co∧s.length * 80 ≤ mB∧f40_l2 k F c d am g l m q D G N S V ac (f40_l1 k F c bg) bL bp s=some r_) B.length ?_ ?_
     ·exact ⟨_,cG,B,0,([]:LC),none,0,[],rfl,fR,kr,(em.sel [1,2,0]),List.drop_zero,(reps0 (R:=(RDCase cG)) (size:=5)),(by simp),h⟩
     ·rintro _ _ cH ⟨dk,ch,bL,bp,s,aF,aG,co,rfl,rfl,a5,cI,b3,dl,en,h⟩
      rcases bL with _ | ⟨⟨ad,ae,cq,bM,bF⟩,bL⟩
      ·unfold f40_l2 at h
       refine sr (bcm (r:=false) rfl rfl (congrArg some (drop_nil_lt b3)) (wt (wp_seq (cndF rfl (wp_exit (thenX (thenX (blkX (thenN (sr (m1 (sl aF s aG) (fd 10 Tyf47_10 rfl (sI 0 (sl aF s aG) ((vS g l D m G q ao N ap aB S aE aR V aS bm ac bn aF s aG).toArray) cI Tys45 rfl rfl (fun gm dm=>(wt (wp_region_lit (m1 (sl ai d aj) (lN 0 (vS g l D m G q ao N ap aB S aE aR V aS bm ac bn aF s aG) dm Tya47 Tys47 (bsl (e:=47) (cells:=(vS g l D m G q ao N ap aB S aE aR V aS bm ac bn aF s aG).toArray) (vs:=[(0,.agg (vS g l D m G q ao N ap aB S aE aR V aS bm ac bn aF s aG).toArray)]) dm rfl (buildSl_one Tye32 Tys47 Tyz47 rfl (by decide) (by decide) rfl) (fun gn eo=>?_))))))))))))))))))))
       obtain ⟨cJ,ep,b4,eq⟩:=shutI (i:=3) (bytes:=80) (R:=fun K=>(RDCase K)) eo rfl (Nat.le_refl _) dl en (fun hs=>(fun _ _ h=>RDCase.mono hs h))
       obtain ⟨dn,h⟩:=of_guard h
       refine apR (R:=(RDStmt cJ)) (p:=(DStmt.mk g l D m G q N S V ac s)) (i:=2) (j:=0) ep rfl rfl Tye32 Tyi47 rfl (by decide) rfl rfl (df.mono (fun _ _ h=>RDStmt.mono (((((aA.sub.trans aQ.sub).trans a4.sub).trans bo.sub).trans a5).trans b4) h)) (RDStmt.intro dV dW (me d7 ((((aQ.sub.trans a4.sub).trans bo.sub).trans a5).trans b4)) (ms ea (((a4.sub.trans bo.sub).trans a5).trans b4)) (ms ef ((bo.sub.trans a5).trans b4)) (ms ek (a5.trans b4)) eq) rfl rfl (Nat.le_refl _) dn (by decide) (fun cK cL dp es et eu=>?_)
       have ew:=p12 et
       exact m2 (.slice cK (d ++ [(DStmt.mk g l D m G q N S V ac s)]).length cL) (wpList_nil (blkN (thenN (wp_region_lit (bar (r:=((am + 1:Nat):Int)) rfl rfl (inc_ok (le_big (((ms cm bC)).len) (by decide) (drop_cons_lt b2))) (m1 (iI ((am + 1:Nat):Int)) (wt (⟨_,Nat.lt_succ_self _,_,cJ,bg,am + 1,(d ++ [(DStmt.mk g l D m G q N S V ac s)]),cK,cL,dp,rfl,fR,((((((bC.trans aA.sub).trans aQ.sub).trans a4.sub).trans bo.sub).trans a5).trans b4),(ew.sel [1]),drop_cons_next b2,eu,(app_bound dn),h⟩))))))))
      ·unfold f40_l2 at h
       refine sr (bcm (r:=true) rfl rfl (congrArg some (drop_cons_t b3)) (wt (wp_seq (cndT rfl (wp_skip (thenN (wp_seq (wp_block (sr ?_)))))))))
       obtain ⟨ex,ey,go,ez,gp,eA,eB⟩:=((mc dg ((((aA.sub.trans aQ.sub).trans a4.sub).trans bo.sub).trans a5))).row.at_ (drop_cons_at b3)
       obtain ⟨bT,bU,bN,bO,rfl,eC,eD,eE⟩:=RDCase.open eB
       refine idxN (b:=ex) (o:=ey) (i:=bp) Tye45 Tys56 rfl ez rfl (drop_cons_lt b3) (lD (vC ad ae cq bT bM bU bN bF bO) Tya56 Tys56 rfl (fun j v hj=>cI.cell (kr.cell (eA j v hj))) (aC zC.toArray cI Tyz56 (fun gq eF=>(sI 0 (.agg (vC ad ae cq bT bM bU bN bF bO).toArray) ((vC ad ae cq bT bM bU bN bF bO).toArray) eF Tys56 rfl rfl (fun gr dq=>(wt (wp_cut (fun a w=>∃ dr aq,a=fr 76 (updL dr [(1,.bool c),(5,.func (.func 52) #[] #[]),(6,sl ai d aj),(8,pp (zz bh) 0),(9,sl aF s aG),(11,pp (zz cH) 0),(13,sl be A bf),(14,iI (A.length:Int)),(15,iI (am:Int)),(44,sl X B Y),(45,iI (B.length:Int)),(46,iI (bp:Int))])∧SR K ch wi w [] [.box (zz wi) (zz bh) (vS g l D m G q ao N ap aB S aE aR V aS bm ac bn X B Y).toArray 47,.box (zz wi) (zz cH) (vC ad ae aq bT bM bU bN bF bO).toArray 56,.row (zz wi) (sl ai d aj) 47 11 d.length bB,.row (zz wi) (sl aF s aG) 56 5 s.length co]∧f40_j2 k F c s bp ad ae bM bF aq (f40_l2 k F c d am g l m q D G N S V ac (f40_l1 k F c bg) bL)=some r_) ?_ ?_)))))))
       ·refine sr (m1 (.bool c) (uN c (wt (cd h (fun cM h=>?_) (fun cM h=>?_)))))
        ·exact cT cM (wp_region_lit (fd 2 Tyf56_2 rfl (sI 0 (iI 0) ((vC ad ae 0 bT bM bU bN bF bO).toArray) dq Tys3 rfl rfl (fun gs eG=>(wt (⟨_,0,fR,(eG.sel [1,0,2,3]),h⟩))))))
        ·exact cF cM (wp_skip (thenN (⟨_,cq,fR,(dq.sel [1,0,2,3]),h⟩)))
       ·rintro _ gt ⟨dr,aq,rfl,cN,h⟩
        unfold f40_j2 at h
        refine sr (fd 3 Tyf56_3 rfl (l1 1 (sl bT bM bU) cN Tya44 (m1 (.func (.func 52) #[] #[]) ?_)))
        obtain ⟨aT,eH,h⟩:=ob h
        refine cv ([sl bT bM bU,.func (.func 52) #[] #[]]) Tyb53 ((f1005362_ok k) eH (hG.mono (((((bC.trans aA.sub).trans aQ.sub).trans a4.sub).trans bo.sub).trans a5)) eD (pt cN)) ?_
        rintro _ gu ⟨gv,bV,bW,rfl,ci,eI⟩
        have eJ:=ca ci cN
        refine fd 3 Tyf56_3 rfl (sI 1 (sl bV aT bW) ((vC ad ae aq bV aT bW bN bF bO).toArray) eJ Tys44 rfl rfl (fun gw cO=>(wt (sr (fd 4 Tyf56_4 rfl (l1 1 (sl bN bF bO) cO Tya32 (m1 (.bool c) ?_)))))))
        obtain ⟨a6,eK,h⟩:=ob h
        refine cv ([sl bN bF bO,.bool c]) Tyb40 (IH40 eK (hG.mono ((((((bC.trans aA.sub).trans aQ.sub).trans a4.sub).trans bo.sub).trans a5).trans ci.sub)) (ms eE ci.sub) (pt cO)) ?_
        rintro _ gx ⟨cP,b5,b6,rfl,cr,eL⟩
        have eM:=ca cr cO
        refine fd 4 Tyf56_4 rfl (sI 1 (sl b5 a6 b6) ((vC ad ae aq bV aT bW b5 a6 b6).toArray) eM Tys32 rfl rfl (fun gy ds=>(wt (wp_region_lit (m1 (sl aF s aG) (lN 1 (vC ad ae aq bV aT bW b5 a6 b6) ds Tya56 Tys56 (bsl (e:=56) (cells:=(vC ad ae aq bV aT bW b5 a6 b6).toArray) (vs:=[(0,.agg (vC ad ae aq bV aT bW b5 a6 b6).toArray)]) ds rfl (buildSl_one Tye45 Tys56 Tyz56 rfl (by decide) (by decide) rfl) (fun gz eN=>?_))))))))
        obtain ⟨dt,h⟩:=of_guard h
        refine apR (R:=(RDCase cP)) (p:=(DCase.mk ad ae aq aT a6)) (i:=4) (j:=0) eN rfl rfl Tye45 Tyi56 rfl (by decide) rfl rfl (dl.mono (fun _ _ h=>RDCase.mono (ci.sub.trans cr.sub) h)) (RDCase.intro eC (me eI cr.sub) eL) rfl rfl (Nat.le_refl _) dt (by decide) (fun cQ cR du eO eP eQ=>?_)
        have eR:=p1234 eP
        exact m2 (.slice cQ (s ++ [(DCase.mk ad ae aq aT a6)]).length cR) (wpList_nil (blkN (thenN (wp_region_lit (bar (r:=((bp + 1:Nat):Int)) rfl rfl (inc_ok (le_big (((mc dg ((((aA.sub.trans aQ.sub).trans a4.sub).trans bo.sub).trans a5))).len) (by decide) (drop_cons_lt b3))) (m1 (iI ((bp + 1:Nat):Int)) (wt (⟨_,Nat.lt_succ_self _,_,cP,bL,bp + 1,(s ++ [(DCase.mk ad ae aq aT a6)]),cQ,cR,du,rfl,fR,((a5.trans ci.sub).trans cr.sub),(eR.sel [0,2,3]),drop_cons_next b3,eQ,(app_bound dt),h⟩))))))))
 ·refine cF cx (wp_skip (thenN (sr (m2 nS (wt (wp_seq (sr (m1 (sl be A bf) (lS A.length Tye32 (m1 (iI 0) (wt (wp_block ?_))))))))))))
  have eS:=dd.row_ (zz wi) 47 11
  refine wp_loopG (fun g_ a w=>∃ dv b7 bq,∃ (ar:Nat),∃ f ak al bG,g_=bq.length∧a=fr 76 (updL dv [(1,.bool c),(5,.func (.func 51) #[] #[]),(6,sl ak f al),(13,sl be A bf),(14,iI (A.length:Int)),(15,iI (ar:Int))])∧KH.sub K b7∧SR K b7 wi w [] [.row (zz wi) (sl ak f al) 47 11 f.length bG]∧A.drop ar=bq∧Reps (RDStmt b7) 11 f bG∧f.length * 184 ≤ mB∧f40_l3 k F c bq ar f=some r_) A.length ?_ ?_
  ·exact ⟨_,K,A,0,([]:LS),none,0,[],rfl,fR,kr,eS,List.drop_zero,(reps0 (R:=(RDStmt K)) (size:=11)),(by simp),h⟩
  ·rintro _ _ br ⟨dv,b7,bq,ar,f,ak,al,bG,rfl,rfl,bH,cS,b8,dw,eT,h⟩
   rcases bq with _ | ⟨⟨t,u,cs,x,cj,y,bs,a7,aU,au,C⟩,bq⟩
   ·unfold f40_l3 at h
    refine sr (bcm (r:=false) rfl rfl (congrArg some (drop_nil_lt b8)) (wt (wp_seq (cndF rfl (wp_exit (thenX (thenX (blkX (thenN (sr (m1 (sl ak f al) (m2 (sl ak f al) (wt (wp_ret ?_))))))))))))))
    obtain ⟨eU,eV,gA,eW⟩:=shutI (i:=0) (bytes:=184) (R:=fun K=>(RDStmt K)) cS rfl (Nat.le_refl _) dw eT (fun hs=>(fun _ _ h=>RDStmt.mono hs h))
    cases (oi h).trans hr_
    exact retA1 rfl (resT rfl) ⟨eU,ak,al,rfl,eV,eW⟩
   ·unfold f40_l3 at h
    refine sr (bcm (r:=true) rfl rfl (congrArg some (drop_cons_t b8)) (wt (wp_seq (cndT rfl (wp_skip (thenN (wp_seq (wp_block (sr ?_)))))))))
    obtain ⟨eX,eY,gB,eZ,gD,e0,e1⟩:=((ms cm bH)).row.at_ (drop_cons_at b8)
    obtain ⟨bI,bJ,bu,bv,a8,a9,aH,aI,Z,ab,rfl,e2,e3,e4,e5,e6,e7,dx⟩:=RDStmt.open e1
    refine idxN (b:=eX) (o:=eY) (i:=ar) Tye32 Tys47 rfl eZ rfl (drop_cons_lt b8) (lD (vS t u cs x cj y bI bs bJ bu a7 bv a8 aU a9 aH au aI Z C ab) Tya47 Tys47 rfl (fun j v hj=>cS.cell (kr.cell (e0 j v hj))) (aC zS.toArray cS Tyz47 (fun gF e8=>(sI 0 (.agg (vS t u cs x cj y bI bs bJ bu a7 bv a8 aU a9 aH au aI Z C ab).toArray) ((vS t u cs x cj y bI bs bJ bu a7 bv a8 aU a9 aH au aI Z C ab).toArray) e8 Tys47 rfl rfl (fun gG dy=>(wt (wp_cut (fun a w=>∃ dz I J,a=fr 76 (updL dz [(1,.bool c),(5,.func (.func 51) #[] #[]),(6,sl ak f al),(8,pp (zz br) 0),(13,sl be A bf),(14,iI (A.length:Int)),(15,iI (ar:Int))])∧SR K b7 wi w [] [.box (zz wi) (zz br) (vS t u I x J y bI bs bJ bu a7 bv a8 aU a9 aH au aI Z C ab).toArray 47,.row (zz wi) (sl ak f al) 47 11 f.length bG]∧f40_j3 k F c f ar t u x y bs a7 aU au C I J (f40_l3 k F c bq)=some r_) ?_ ?_)))))))
    ·refine sr (m1 (.bool c) (uN c (wt (cd h (fun cU h=>?_) (fun cU h=>?_)))))
     ·refine cT cU (wp_region_lit (fd 2 Tyf47_2 rfl (sI 0 (iI 0) ((vS t u 0 x cj y bI bs bJ bu a7 bv a8 aU a9 aH au aI Z C ab).toArray) dy Tys3 rfl rfl (fun gH e9=>(fd 4 Tyf47_4 rfl (sI 0 (iI 0) ((vS t u 0 x 0 y bI bs bJ bu a7 bv a8 aU a9 aH au aI Z C ab).toArray) e9 Tys3 rfl rfl (fun fa fb=>?_)))))))
      have fc:SR K b7 wi fa [] [.box (zz wi) (zz br) (vS t u 0 x 0 y bI bs bJ bu a7 bv a8 aU a9 aH au aI Z C ab).toArray 47,.row (zz wi) (sl ak f al) 47 11 f.length bG]:=fb
      exact wt (⟨_,0,0,fR,fc,h⟩)
     ·exact cF cU (wp_skip (thenN (⟨_,cs,cj,fR,dy,h⟩)))
    ·rintro _ gI ⟨dz,I,J,rfl,cV,h⟩
     unfold f40_j3 at h
     refine sr (fd 6 Tyf47_6 rfl (l1 0 (sl bI bs bJ) cV Tya44 (m1 (.func (.func 51) #[] #[]) ?_)))
     obtain ⟨O,fe,h⟩:=ob h
     refine cv ([sl bI bs bJ,.func (.func 51) #[] #[]]) Tyb53 ((f1005331_ok k) fe (hG.mono bH) e4 (pt cV)) ?_
     rintro _ gJ ⟨gK,av,aw,rfl,aJ,ff⟩
     have fg:=ca aJ cV
     refine fd 6 Tyf47_6 rfl (sI 0 (sl av O aw) ((vS t u I x J y av O aw bu a7 bv a8 aU a9 aH au aI Z C ab).toArray) fg Tys44 rfl rfl (fun gL cW=>(wt (sr (fd 7 Tyf47_7 rfl (l1 0 (sl bu a7 bv) cW Tya32 (m1 (.bool c) ?_)))))))
     obtain ⟨U,fh,h⟩:=ob h
     refine cv ([sl bu a7 bv,.bool c]) Tyb40 (IH40 fh (hG.mono (bH.trans aJ.sub)) (ms e5 aJ.sub) (pt cW)) ?_
     rintro _ gM ⟨gN,aK,aL,rfl,aV,fi⟩
     have fj:=ca aV cW
     refine fd 7 Tyf47_7 rfl (sI 0 (sl aK U aL) ((vS t u I x J y av O aw aK U aL a8 aU a9 aH au aI Z C ab).toArray) fj Tys32 rfl rfl (fun gO cX=>(wt (sr (fd 8 Tyf47_8 rfl (l1 0 (sl a8 aU a9) cX Tya32 (m1 (.bool c) ?_)))))))
     obtain ⟨W,fk,h⟩:=ob h
     refine cv ([sl a8 aU a9,.bool c]) Tyb40 (IH40 fk (hG.mono ((bH.trans aJ.sub).trans aV.sub)) (ms e6 (aJ.sub.trans aV.sub)) (pt cX)) ?_
     rintro _ gP ⟨fl,aW,aX,rfl,ba,fm⟩
     have fn:=ca ba cX
     refine fd 8 Tyf47_8 rfl (sI 0 (sl aW W aX) ((vS t u I x J y av O aw aK U aL aW W aX aH au aI Z C ab).toArray) fn Tys32 rfl rfl (fun fo fp=>?_))
     have cY:SR K fl wi fo [] [.box (zz wi) (zz br) (vS t u I x J y av O aw aK U aL aW W aX aH au aI Z C ab).toArray 47,.row (zz wi) (sl ak f al) 47 11 f.length bG]:=fp
     refine wt (sr (fd 9 Tyf47_9 rfl (l1 0 (sl aH au aI) cY Tya32 (m1 (.bool c) ?_))))
     obtain ⟨af,fs,h⟩:=ob h
     refine cv ([sl aH au aI,.bool c]) Tyb40 (IH40 fs (hG.mono (((bH.trans aJ.sub).trans aV.sub).trans ba.sub)) (ms e7 ((aJ.sub.trans aV.sub).trans ba.sub)) (pt cY)) ?_
     rintro _ gQ ⟨cZ,bw,bx,rfl,bz,ft⟩
     have fu:=ca bz cY
     refine fd 9 Tyf47_9 rfl (sI 0 (sl bw af bx) ((vS t u I x J y av O aw aK U aL aW W aX bw af bx Z C ab).toArray) fu Tys32 rfl rfl (fun gR dA=>(wt (sr (m2 nS (wt (wp_seq (sr (fd 10 Tyf47_10 rfl (l1 0 (sl Z C ab) dA Tya45 (lS C.length Tye45 (m1 (iI 0) (wt (wp_block ?_))))))))))))))
     have fv:=dA.row_ (zz wi) 56 5
     refine wp_loopG (fun g_ a w=>∃ dB ck bP,∃ (bA:Nat),∃ z aM aN ct,g_=bP.length∧a=fr 76 (updL dB [(1,.bool c),(5,.func (.func 51) #[] #[]),(6,sl ak f al),(8,pp (zz br) 0),(9,sl aM z aN),(13,sl be A bf),(14,iI (A.length:Int)),(15,iI (ar:Int)),(44,sl Z C ab),(45,iI (C.length:Int)),(46,iI (bA:Int))])∧KH.sub cZ ck∧SR K ck wi w [] [.box (zz wi) (zz br) (vS t u I x J y av O aw aK U aL aW W aX bw af bx Z C ab).toArray 47,.row (zz wi) (sl ak f al) 47 11 f.length bG,.row (zz wi) (sl aM z aN) 56 5 z.length ct]∧C.drop bA=bP∧Reps (RDCase ck) 5 z ct∧z.length * 80 ≤ mB∧f40_l4 k F c f ar t u x y I J O U W af (f40_l3 k F c bq) bP bA z=some r_) C.length ?_ ?_
     ·exact ⟨_,cZ,C,0,([]:LC),none,0,[],rfl,fR,kr,(fv.sel [1,2,0]),List.drop_zero,(reps0 (R:=(RDCase cZ)) (size:=5)),(by simp),h⟩
     ·rintro _ _ c2 ⟨dB,ck,bP,bA,z,aM,aN,ct,rfl,rfl,bb,c3,b9,dC,fx,h⟩
      rcases bP with _ | ⟨⟨ag,ah,cu,bQ,bK⟩,bP⟩
      ·unfold f40_l4 at h
       refine sr (bcm (r:=false) rfl rfl (congrArg some (drop_nil_lt b9)) (wt (wp_seq (cndF rfl (wp_exit (thenX (thenX (blkX (thenN (sr (m1 (sl aM z aN) (fd 10 Tyf47_10 rfl (sI 0 (sl aM z aN) ((vS t u I x J y av O aw aK U aL aW W aX bw af bx aM z aN).toArray) c3 Tys45 rfl rfl (fun gT dD=>(wt (wp_region_lit (m1 (sl ak f al) (lN 0 (vS t u I x J y av O aw aK U aL aW W aX bw af bx aM z aN) dD Tya47 Tys47 (bsl (e:=47) (cells:=(vS t u I x J y av O aw aK U aL aW W aX bw af bx aM z aN).toArray) (vs:=[(0,.agg (vS t u I x J y av O aw aK U aL aW W aX bw af bx aM z aN).toArray)]) dD rfl (buildSl_one Tye32 Tys47 Tyz47 rfl (by decide) (by decide) rfl) (fun gU fy=>?_))))))))))))))))))))
       obtain ⟨c4,fz,cb,fA⟩:=shutI (i:=3) (bytes:=80) (R:=fun K=>(RDCase K)) fy rfl (Nat.le_refl _) dC fx (fun hs=>(fun _ _ h=>RDCase.mono hs h))
       obtain ⟨dE,h⟩:=of_guard h
       refine apR (R:=(RDStmt c4)) (p:=(DStmt.mk t u I x J y O U W af z)) (i:=2) (j:=0) fz rfl rfl Tye32 Tyi47 rfl (by decide) rfl rfl (dw.mono (fun _ _ h=>RDStmt.mono (((((aJ.sub.trans aV.sub).trans ba.sub).trans bz.sub).trans bb).trans cb) h)) (RDStmt.intro e2 e3 (me ff ((((aV.sub.trans ba.sub).trans bz.sub).trans bb).trans cb)) (ms fi (((ba.sub.trans bz.sub).trans bb).trans cb)) (ms fm ((bz.sub.trans bb).trans cb)) (ms ft (bb.trans cb)) fA) rfl rfl (Nat.le_refl _) dE (by decide) (fun c5 c6 dF fB fC fD=>?_)
       have fE:=p12 fC
       exact m2 (.slice c5 (f ++ [(DStmt.mk t u I x J y O U W af z)]).length c6) (wpList_nil (blkN (thenN (wp_region_lit (bar (r:=((ar + 1:Nat):Int)) rfl rfl (inc_ok (le_big (((ms cm bH)).len) (by decide) (drop_cons_lt b8))) (m1 (iI ((ar + 1:Nat):Int)) (wt (⟨_,Nat.lt_succ_self _,_,c4,bq,ar + 1,(f ++ [(DStmt.mk t u I x J y O U W af z)]),c5,c6,dF,rfl,fR,((((((bH.trans aJ.sub).trans aV.sub).trans ba.sub).trans bz.sub).trans bb).trans cb),(fE.sel [1]),drop_cons_next b8,fD,(app_bound dE),h⟩))))))))
      ·unfold f40_l4 at h
       refine sr (bcm (r:=true) rfl rfl (congrArg some (drop_cons_t b9)) (wt (wp_seq (cndT rfl (wp_skip (thenN (wp_seq (wp_block (sr ?_)))))))))
       obtain ⟨fF,fG,gV,fH,gW,fI,fJ⟩:=((mc dx ((((aJ.sub.trans aV.sub).trans ba.sub).trans bz.sub).trans bb))).row.at_ (drop_cons_at b9)
       obtain ⟨bX,bY,bR,bS,rfl,fK,fL,fM⟩:=RDCase.open fJ
       refine idxN (b:=fF) (o:=fG) (i:=bA) Tye45 Tys56 rfl fH rfl (drop_cons_lt b9) (lD (vC ag ah cu bX bQ bY bR bK bS) Tya56 Tys56 rfl (fun j v hj=>c3.cell (kr.cell (fI j v hj))) (aC zC.toArray c3 Tyz56 (fun gX fN=>(sI 0 (.agg (vC ag ah cu bX bQ bY bR bK bS).toArray) ((vC ag ah cu bX bQ bY bR bK bS).toArray) fN Tys56 rfl rfl (fun gY dG=>(wt (wp_cut (fun a w=>∃ dH ax,a=fr 76 (updL dH [(1,.bool c),(5,.func (.func 51) #[] #[]),(6,sl ak f al),(8,pp (zz br) 0),(9,sl aM z aN),(11,pp (zz c2) 0),(13,sl be A bf),(14,iI (A.length:Int)),(15,iI (ar:Int)),(44,sl Z C ab),(45,iI (C.length:Int)),(46,iI (bA:Int))])∧SR K ck wi w [] [.box (zz wi) (zz br) (vS t u I x J y av O aw aK U aL aW W aX bw af bx Z C ab).toArray 47,.box (zz wi) (zz c2) (vC ag ah ax bX bQ bY bR bK bS).toArray 56,.row (zz wi) (sl ak f al) 47 11 f.length bG,.row (zz wi) (sl aM z aN) 56 5 z.length ct]∧f40_j4 k F c z bA ag ah bQ bK ax (f40_l4 k F c f ar t u x y I J O U W af (f40_l3 k F c bq) bP)=some r_) ?_ ?_)))))))
       ·refine sr (m1 (.bool c) (uN c (wt (cd h (fun c7 h=>?_) (fun c7 h=>?_)))))
        ·exact cT c7 (wp_region_lit (fd 2 Tyf56_2 rfl (sI 0 (iI 0) ((vC ag ah 0 bX bQ bY bR bK bS).toArray) dG Tys3 rfl rfl (fun gZ fO=>(wt (⟨_,0,fR,(fO.sel [1,0,2,3]),h⟩))))))
        ·exact cF c7 (wp_skip (thenN (⟨_,cu,fR,(dG.sel [1,0,2,3]),h⟩)))
       ·rintro _ g0 ⟨dH,ax,rfl,c8,h⟩
        unfold f40_j4 at h
        refine sr (fd 3 Tyf56_3 rfl (l1 1 (sl bX bQ bY) c8 Tya44 (m1 (.func (.func 51) #[] #[]) ?_)))
        obtain ⟨aY,fP,h⟩:=ob h
        refine cv ([sl bX bQ bY,.func (.func 51) #[] #[]]) Tyb53 ((f1005331_ok k) fP (hG.mono (((((bH.trans aJ.sub).trans aV.sub).trans ba.sub).trans bz.sub).trans bb)) fL (pt c8)) ?_
        rintro _ g1 ⟨g2,bZ,b0,rfl,cl,fQ⟩
        have fS:=ca cl c8
        refine fd 3 Tyf56_3 rfl (sI 1 (sl bZ aY b0) ((vC ag ah ax bZ aY b0 bR bK bS).toArray) fS Tys44 rfl rfl (fun g3 c9=>(wt (sr (fd 4 Tyf56_4 rfl (l1 1 (sl bR bK bS) c9 Tya32 (m1 (.bool c) ?_)))))))
        obtain ⟨bd,fT,h⟩:=ob h
        refine cv ([sl bR bK bS,.bool c]) Tyb40 (IH40 fT (hG.mono ((((((bH.trans aJ.sub).trans aV.sub).trans ba.sub).trans bz.sub).trans bb).trans cl.sub)) (ms fM cl.sub) (pt c9)) ?_
        rintro _ g4 ⟨da,cc,ce,rfl,cw,fU⟩
        have fV:=ca cw c9
        refine fd 4 Tyf56_4 rfl (sI 1 (sl cc bd ce) ((vC ag ah ax bZ aY b0 cc bd ce).toArray) fV Tys32 rfl rfl (fun g5 dI=>(wt (wp_region_lit (m1 (sl aM z aN) (lN 1 (vC ag ah ax bZ aY b0 cc bd ce) dI Tya56 Tys56 (bsl (e:=56) (cells:=(vC ag ah ax bZ aY b0 cc bd ce).toArray) (vs:=[(0,.agg (vC ag ah ax bZ aY b0 cc bd ce).toArray)]) dI rfl (buildSl_one Tye45 Tys56 Tyz56 rfl (by decide) (by decide) rfl) (fun g6 fW=>?_))))))))
        obtain ⟨dJ,h⟩:=of_guard h
        refine apR (R:=(RDCase da)) (p:=(DCase.mk ag ah ax aY bd)) (i:=4) (j:=0) fW rfl rfl Tye45 Tyi56 rfl (by decide) rfl rfl (dC.mono (fun _ _ h=>RDCase.mono (cl.sub.trans cw.sub) h)) (RDCase.intro fK (me fQ cw.sub) fU) rfl rfl (Nat.le_refl _) dJ (by decide) (fun db dc dK fX fY fZ=>?_)
        have f0:=p1234 fY
        exact m2 (.slice db (z ++ [(DCase.mk ag ah ax aY bd)]).length dc) (wpList_nil (blkN (thenN (wp_region_lit (bar (r:=((bA + 1:Nat):Int)) rfl rfl (inc_ok (le_big (((mc dx ((((aJ.sub.trans aV.sub).trans ba.sub).trans bz.sub).trans bb))).len) (by decide) (drop_cons_lt b9))) (m1 (iI ((bA + 1:Nat):Int)) (wt (⟨_,Nat.lt_succ_self _,_,da,bP,bA + 1,(z ++ [(DCase.mk ag ah ax aY bd)]),db,dc,dK,rfl,fR,((bb.trans cl.sub).trans cw.sub),(f0.sel [0,2,3]),drop_cons_next b9,fZ,(app_bound dJ),h⟩))))))))
theorem fam40_ok (k0:Nat) : ∀ k,f40_spec (fam40 k0 k).f40:=by
 intro k
 induction k with
 | zero=>exact (by unfold f40_spec; intro _ _ _ _ _ _ _ h_; cases h_)
 | succ k ih=>exact f40_b_ok k0 (fam40 k0 k) ih
theorem f40_ok (k:Nat):f40_spec (f40 k):=(fam40_ok k k)
theorem f31_b_ok (k:Nat):f31_spec (f31_b k):=by
 unfold f31_spec
 intro K wi aA be z bf h hG aB aE
 obtain ⟨r_,hr_,h⟩:=rz h
 obtain ⟨x⟩:=aA
 obtain ⟨ae,c1,rfl,aq⟩:=RDProgram.open aB
 refine enter Tryd.func31 rfl (n:=35) rfl ?_
 unfold f31_b at h
 refine sr (bxoC (cs:=#[sl ae x c1]) aE rfl rfl (fun V aF=>(aC #[nS] aF Tyz24 (fun W aG=>(wt (sr (aC #[nS] aG Tyz24 (fun bg ar=>(wt (wp_seq (sr (fd 0 Tyf24_0 rfl (l1 2 (sl ae x c1) ar Tya22 (lS x.length Tye22 (m1 (iI 0) (wt (wp_block ?_)))))))))))))))))
 have aH:=ar.row_ (zz wi) 34 6
 refine wp_loopG (fun g_ a w=>∃ au ab B,∃ (y:Nat),∃ c t u af,g_=B.length∧a=fr 35 (updL au [(1,.bool z),(4,pp (zz V) 0),(5,pp (zz W) 0),(9,sl ae x c1),(10,iI (x.length:Int)),(11,iI (y:Int))])∧KH.sub K ab∧SR K ab wi w [] [.box (zz wi) (zz V) #[nS] 24,.box (zz wi) (zz W) #[sl t c u] 24,.row (zz wi) (sl t c u) 34 6 c.length af]∧x.drop y=B∧Reps (RDFunc ab) 6 c af∧c.length * 88 ≤ mB∧f31_l1 k z B y c=some r_) x.length ?_ ?_
 ·exact ⟨_,K,x,0,([]:LF),none,0,[],rfl,fR,kr,(aH.sel [2,1,0]),List.drop_zero,(reps0 (R:=(RDFunc K)) (size:=6)),(by simp),h⟩
 ·rintro _ _ ag ⟨au,ab,B,y,c,t,u,af,rfl,rfl,ac,ah,X,av,aI,h⟩
  rcases B with _ | ⟨⟨d,C,f,g,ai,A⟩,B⟩
  ·unfold f31_l1 at h
   refine sr (bcm (r:=false) rfl rfl (congrArg some (drop_nil_lt X)) (wt (wp_seq (cndF rfl (wp_exit (thenX (thenX (blkX (thenN (sr (lN 1 ([sl t c u]) ah Tya24 Tys24 (sI 0 (.agg #[sl t c u]) #[sl t c u] ah Tys24 rfl rfl (fun bh aw=>(wt (wp_ret ?_)))))))))))))))
   obtain ⟨aJ,aK,bi,aL⟩:=shutI (i:=2) (bytes:=88) (R:=fun K=>(RDFunc K)) aw rfl (Nat.le_refl _) av aI (fun hs=>(fun _ _ h=>RDFunc.mono hs h))
   cases (oi h).trans hr_
   exact retA1 rfl (resN (i:=0) (l:=[sl t c u]) aw rfl Tya24 Tys24 rfl rfl rfl) ⟨aJ,[sl t c u],rfl,(aK.sel []),(RDProgram.intro aL)⟩
  ·unfold f31_l1 at h
   refine sr (bcm (r:=true) rfl rfl (congrArg some (drop_cons_t X)) (wt (wp_seq (cndT rfl (wp_skip (thenN (wp_seq (wp_block (sr ?_)))))))))
   obtain ⟨aM,aN,bj,aP,bk,aQ,aR⟩:=((mf aq ac)).row.at_ (drop_cons_at X)
   obtain ⟨N,O,D,G,rfl,aS,aT,aU⟩:=RDFunc.open aR
   refine idxN (b:=aM) (o:=aN) (i:=y) Tye22 Tys34 rfl aP rfl (drop_cons_lt X) (lD (vF d N C O f g ai D A G) Tya34 Tys34 rfl (fun j v hj=>ah.cell (kr.cell (aQ j v hj))) (aC zF.toArray ah Tyz34 (fun bm aV=>(sI 0 (.agg (vF d N C O f g ai D A G).toArray) ((vF d N C O f g ai D A G).toArray) aV Tys34 rfl rfl (fun bn ax=>(wt (wp_cut (fun a w=>∃ ay m,a=fr 35 (updL ay [(1,.bool z),(4,pp (zz V) 0),(5,pp (zz W) 0),(7,pp (zz ag) 0),(9,sl ae x c1),(10,iI (x.length:Int)),(11,iI (y:Int))])∧SR K ab wi w [] [.box (zz wi) (zz V) #[nS] 24,.box (zz wi) (zz W) #[sl t c u] 24,.box (zz wi) (zz ag) (vF d N C O f g m D A G).toArray 34,.row (zz wi) (sl t c u) 34 6 c.length af]∧f31_j1 k z c y d C f g A m (f31_l1 k z B)=some r_) ?_ ?_)))))))
   ·refine sr (m1 (.bool z) (uN z (wt (cd h (fun al h=>?_) (fun al h=>?_)))))
    ·exact cT al (wp_region_lit (fd 4 Tyf34_4 rfl (sI 0 (iI 0) ((vF d N C O f g 0 D A G).toArray) ax Tys3 rfl rfl (fun bo aW=>(wt (⟨_,0,fR,(aW.sel [1,2,0,3]),h⟩))))))
    ·exact cF al (wp_skip (thenN (⟨_,ai,fR,(ax.sel [1,2,0,3]),h⟩)))
   ·rintro _ bp ⟨ay,m,rfl,am,h⟩
    unfold f31_j1 at h
    refine sr (fd 1 Tyf34_1 rfl (l1 2 (sl N C O) am Tya31 ?_))
    obtain ⟨q,aX,h⟩:=ob h
    refine cv ([sl N C O]) Tyb38 ((f38_ok k) aX (hG.mono ac) aT (pt am)) ?_
    rintro _ bq ⟨br,I,J,rfl,ad,aY⟩
    have aZ:=ca ad am
    refine fd 1 Tyf34_1 rfl (sI 2 (sl I q J) ((vF d I q J f g m D A G).toArray) aZ Tys31 rfl rfl (fun bs an=>(wt (sr (fd 5 Tyf34_5 rfl (l1 2 (sl D A G) an Tya32 (m1 (.bool z) ?_)))))))
    obtain ⟨s,a2,h⟩:=ob h
    refine cv ([sl D A G,.bool z]) Tyb40 ((f40_ok k) a2 (hG.mono (ac.trans ad.sub)) (ms aU ad.sub) (pt an)) ?_
    rintro _ bu ⟨aj,S,U,rfl,ak,a3⟩
    have a4:=ca ak an
    refine fd 5 Tyf34_5 rfl (sI 2 (sl S s U) ((vF d I q J f g m S s U).toArray) a4 Tys32 rfl rfl (fun bv ao=>(wt (wp_region_lit (fd 0 Tyf24_0 rfl (l1 1 (sl t c u) ao Tya22 (lN 2 (vF d I q J f g m S s U) ao Tya34 Tys34 (bsl (e:=34) (cells:=(vF d I q J f g m S s U).toArray) (vs:=[(0,.agg (vF d I q J f g m S s U).toArray)]) ao rfl (buildSl_one Tye22 Tys34 Tyz34 rfl (by decide) (by decide) rfl) (fun bw a5=>?_)))))))))
    obtain ⟨az,h⟩:=of_guard h
    refine apR (R:=(RDFunc aj)) (p:=(DFunc.mk d q f g m s)) (i:=4) (j:=0) a5 rfl rfl Tye22 Tyi34 rfl (by decide) rfl rfl (av.mono (fun _ _ h=>RDFunc.mono (ad.sub.trans ak.sub) h)) (RDFunc.intro aS (mp aY ak.sub) a3) rfl rfl (Nat.le_refl _) az (by decide) (fun Y Z ap a6 a7 a8=>?_)
    have a9:=p1234 a7
    refine fd 0 Tyf24_0 rfl (sI 1 (.slice Y (c ++ [(DFunc.mk d q f g m s)]).length Z) #[.slice Y (c ++ [(DFunc.mk d q f g m s)]).length Z] a9 Tys22 rfl rfl (fun ba bb=>?_))
    have bd:SR K aj wi ba [] [.box (zz wi) (zz V) #[nS] 24,.box (zz wi) (zz W) #[.slice Y (c ++ [(DFunc.mk d q f g m s)]).length Z] 24,.box (zz wi) (zz ag) (vF d I q J f g m S s U).toArray 34,.row (zz wi) (.slice Y (c ++ [(DFunc.mk d q f g m s)]).length Z) 34 6 (c ++ [(DFunc.mk d q f g m s)]).length ap]:=bb
    exact wpList_nil (blkN (thenN (wp_region_lit (bar (r:=((y + 1:Nat):Int)) rfl rfl (inc_ok (le_big (((mf aq ac)).len) (by decide) (drop_cons_lt X))) (m1 (iI ((y + 1:Nat):Int)) (wt (⟨_,Nat.lt_succ_self _,_,aj,B,y + 1,(c ++ [(DFunc.mk d q f g m s)]),Y,Z,ap,rfl,fR,((ac.trans ad.sub).trans ak.sub),(bd.sel [0,1,3]),drop_cons_next X,a8,(app_bound az),h⟩)))))))
theorem f31_ok (k:Nat):f31_spec (f31 k):=f31_b_ok k
theorem f18_b_ok (k:Nat):f18_spec (f18_b k):=by
 unfold f18_spec
 intro K wi r O r_ h hG s t
 obtain ⟨a⟩:=r
 obtain ⟨b,c1,rfl,p⟩:=RDProgram.open s
 refine enter Tryd.func18 rfl (n:=8) rfl ?_
 unfold f18_b at h
 refine sr (bxoC (cs:=#[sl b a c1]) t rfl rfl (fun S u=>(aC #[nS] u Tyz24 (fun U g=>(wt (sr (lN 1 ([sl b a c1]) g Tya24 Tys24 ?_)))))))
 obtain ⟨v,w,h⟩:=ob h
 refine cv ([.agg #[sl b a c1],vT]) Tyb26 ((f26_ok k) w (hG.mono kr) (RDProgram.intro p) (pt g)) ?_
 rintro _ V ⟨W,rfl,d⟩
 have j:=ca d g
 obtain ⟨X,x,h⟩:=ob h
 refine cp ([.bool v,iI 2]) Tyb25 ((f25_ok k) x (hG.mono d.sub) (pt j)) ?_ ?_
 ·rintro _ Y ⟨Z,rfl,rfl,m⟩
  have o:=ca m j
  refine wt (sr (lN 1 ([sl b a c1]) o Tya24 Tys24 ?_))
  obtain ⟨⟨c⟩,y,h⟩:=ob h
  refine cv ([.agg #[sl b a c1],vN]) Tyb31 ((f31_ok k) y (hG.mono (d.sub.trans m.sub)) (RDProgram.intro (mf p (d.sub.trans m.sub))) (pt o)) ?_
  rintro _ ab ⟨z,ac,rfl,A,B⟩
  have C:=ca A o
  obtain ⟨e,f,rfl,D⟩:=RDProgram.open B
  exact sI 0 (.agg #[sl e c f]) #[sl e c f] C Tys24 rfl rfl (fun ad q=>(wt (wp_ret (retP (retA1 rfl (resN (i:=0) (l:=[sl e c f]) q rfl Tya24 Tys24 rfl rfl rfl) ⟨(DProgram.mk c),z,[sl e c f],(oi h).symm,rfl,(q.sel []),(RDProgram.intro D)⟩)))))
 ·rintro _ ae ⟨G,I,rfl,rfl,J⟩
  have N:=ca J j
  exact thenP (panE (.inr ⟨_,rfl,G,I,(oi h).symm,rfl,N.sel []⟩))
theorem f18_ok (k:Nat):f18_spec (f18 k):=f18_b_ok k
theorem f22_b_ok (k:Nat):f22_spec (f22_b k):=by
 unfold f22_spec
 intro K wi an bb f r_ h hG ao ap
 obtain ⟨Y⟩:=an
 obtain ⟨Z,c1,rfl,aq⟩:=RDProgram.open ao
 refine enter Tryd.func22 rfl (n:=30) rfl ?_
 unfold f22_b at h
 refine sr (bxoC (cs:=#[sl Z Y c1]) ap rfl rfl (fun z ar=>(aC #[nS] ar Tyz24 (fun bd G=>(m2 nS (wt (sr (lN 1 ([sl Z Y c1]) G Tya24 Tys24 ?_))))))))
 obtain ⟨be,au,h⟩:=ob h
 refine cp ([.agg #[sl Z Y c1]]) Tyb18 ((f18_ok k) au (hG.mono kr) (RDProgram.intro aq) (pt G)) ?_ ?_
 ·rintro _ ab ⟨⟨c⟩,bf,bg,rfl,rfl,I,av⟩
  have aw:=ca I G
  obtain ⟨d,e,rfl,ac⟩:=RDProgram.open av
  refine aC #[nS] aw Tyz24 (fun bh ax=>(sI 0 (.agg #[sl d c e]) #[sl d c e] ax Tys24 rfl rfl (fun bi J=>(wt (sr (lN 0 ([sl d c e]) J Tya24 Tys24 ?_))))))
  obtain ⟨bj,ay,h⟩:=ob h
  refine cp ([.agg #[sl d c e]]) Tyb16 ((f16_ok k) _ _ _ _ _ ay (hG.mono I.sub) (RDProgram.intro ac) (pt J)) ?_ ?_
  ·rintro _ bk ⟨⟨N⟩,g,az,bm,t,u,rfl,rfl,A,aA,aB⟩
   have aE:=ca A J
   obtain ⟨O,S,rfl,bn⟩:=RDProgram.open aA
   refine m1 (.tuple #[.agg #[sl O N S],sl t g u]) (ext (v:=.agg #[sl O N S]) rfl rfl (ext (v:=sl t g u) rfl rfl (aC #[nS] aE Tyz24 (fun bo aF=>(sI 0 (.agg #[sl O N S]) #[sl O N S] aF Tys24 rfl rfl (fun bp y=>(m2 (sl t g u) (wt (wp_cut (fun a w=>∃ ae m,a=fr 30 (updL ae [(1,iI f),(4,pp (zz z) 0),(6,pp (zz ab) 0),(8,sl t g u)])∧KH.sub az m∧SR K m wi w [] [.box (zz wi) (zz z) #[nS] 24,.box (zz wi) (zz ab) #[sl d c e] 24]∧f22_j1 k f c g=some r_) ?_ ?_)))))))))
   ·refine wp_region_lit (m1 (iI f) (c0 (decide (f ≥ 0)) (m1 (.bool (decide (f ≥ 0))) (cd h (fun j h=>?_) (fun j h=>?_)))))
    ·refine n1 18 j (m1 (iI f) (n1 18 j (m1 (sl t g u) (n1 18 j (lS g.length Tye49 (n1 18 j (c0 (decide (f < (g.length:Int))) (m3 true (.bool (decide (f < (g.length:Int)))) (cg j) ?_))))))))
     obtain ⟨bq,aG,h⟩:=ob h
     refine cp ([.bool (decide (f < (g.length:Int))),iI 2]) Tyb25 ((f25_ok k) aG (hG.mono (I.sub.trans A.sub)) (pt y)) ?_ ?_
     ·rintro _ br ⟨aH,rfl,rfl,af⟩
      have aI:=ca af y
      exact wt (⟨_,aH,fR,af.sub,(aI.sel [2,1]),h⟩)
     ·rintro _ bs ⟨aJ,aK,rfl,rfl,aL⟩
      have aM:=ca aL y
      exact thenP (panE (.inr ⟨_,rfl,aJ,aK,(oi h).symm,rfl,aM.sel []⟩))
    ·refine o1 18 j (o1 18 j (o1 18 j (o1 18 j (m3 false vN (cg j) ?_))))
     obtain ⟨bu,aN,h⟩:=ob h
     refine cp ([vN,iI 2]) Tyb25 ((f25_ok k) aN (hG.mono (I.sub.trans A.sub)) (pt y)) ?_ ?_
     ·rintro _ bv ⟨aP,rfl,rfl,ag⟩
      have aQ:=ca ag y
      exact wt (⟨_,aP,fR,ag.sub,(aQ.sel [2,1]),h⟩)
     ·rintro _ bw ⟨aR,aS,rfl,rfl,aT⟩
      have aU:=ca aT y
      exact thenP (panE (.inr ⟨_,rfl,aR,aS,(oi h).symm,rfl,aU.sel []⟩))
   ·rintro _ bx ⟨ae,m,rfl,U,aV,h⟩
    unfold f22_j1 at h
    refine wp_cut (fun a w=>∃ ah x B C D V W,a=fr 30 (updL ah [(4,pp (zz z) 0),(5,sl V D W)])∧SR K m wi w [] [.box (zz wi) (zz z) #[sl B x C] 24]∧tF m B C x∧RSl BA RStr 1 16 m V W D∧f22_j2 k x D=some r_) ?_ ?_
    ·have p:=aV.drew
     refine regAny (E:=[5]) (F:=FW m [.box (zz wi) (zz z) #[nS] 24,.box (zz wi) (zz ab) #[sl d c e] 24]) (L:=(lb 7 0)) ymx rfl rfl (tf 0 (.agg #[sl d c e]) ([[5,0]]) (lb 7 1) rfl (fq [0,1] p) (fun w hF=>lbN_r (i:=1) (l:=[sl d c e]) hF rfl Tya24 Tys24 rfl rfl rfl) (tk 1 (sl t g u) (lb 7 3) rfl (fun w=>mv_r (v:=sl t g u) rfl) (heldF (fq [0,1] p)) (tk 2 (iI f) (lb 7 7) rfl (fun w=>mv_r (v:=iI f) rfl) (heldF (fq [0,1] p)) ?_)))
     obtain ⟨q,ad,h⟩:=ob h
     obtain ⟨ai,aj,bz,aW,bA,ak,aX⟩:=((aB.mono U (fun _ _ h=>RSlE.mono (fun _ _ _ h=>h) U h))).row.at_ (idxO_at ad).1
     obtain ⟨r,s,rfl,al⟩:=aX
     refine tk 3 (pp ai (aj + f.toNat * 1)) (lb 7 15) rfl (fun w=>idxG_r (b:=ai) (o:=aj) (i:=f) Tye49 Tys38 rfl aW rfl (idxO_at ad).2.1 (idxO_at ad).2.2) (heldF (fq [0,1] p)) (anyAll (rs:=[4,5]) (by kernel_rfl) (by decide) (allC ?_ (allC ?_ allN)))
     ·exact opL (i:=4) rfl (ld1 (v:=sl r q s) Tya38 rfl (p.cell (kr.cell (ak 0 _ rfl))) (wt ⟨heldF (fq [0,1] p),aO 5 rfl (sI 0 (.agg #[sl d c e]) #[sl d c e] p Tys24 rfl rfl (fun aY X=>(wt ⟨heldE (i:=5) rfl rfl,tk 6 (sl r q s) (lb 7 127) rfl (fun w=>asg_r (v:=sl r q s) rfl) (heldE (i:=5) rfl rfl) (aD (thenN (⟨_,c,d,e,q,r,s,fR,(X.sel [0]),(mf ac (A.sub.trans U)),al,h⟩)))⟩)))⟩))
     ·exact opL (i:=5) rfl (sI 0 (.agg #[sl d c e]) #[sl d c e] p Tys24 rfl rfl (fun aY X=>(wt ⟨heldE (i:=5) rfl rfl,aO 4 rfl (ld1 (v:=sl r q s) Tya38 rfl (X.cell (kr.cell (ak 0 _ rfl))) (wt ⟨heldE (i:=5) rfl rfl,tk 6 (sl r q s) (lb 7 127) rfl (fun w=>asg_r (v:=sl r q s) rfl) (heldE (i:=5) rfl rfl) (aD (thenN (⟨_,c,d,e,q,r,s,fR,(X.sel [0]),(mf ac (A.sub.trans U)),al,h⟩)))⟩))⟩)))
    ·rintro _ bB ⟨ah,x,B,C,D,V,W,rfl,am,aZ,a2,h⟩
     unfold f22_j2 at h
     exact wp_ret (retP (retA2 rfl (resN (i:=0) (l:=[sl B x C]) am rfl Tya24 Tys24 rfl rfl rfl) (resT rfl) ⟨(DProgram.mk x),D,m,[sl B x C],V,W,(oi h).symm,rfl,(am.sel []),(RDProgram.intro aZ),a2⟩))
  ·rintro _ bC ⟨a3,a4,rfl,rfl,a5⟩
   have a6:=ca a5 J
   exact thenP (panE (.inr ⟨_,rfl,a3,a4,(oi h).symm,rfl,a6.sel []⟩))
 ·rintro _ bD ⟨a7,a8,rfl,rfl,a9⟩
  have ba:=ca a9 G
  exact thenP (panE (.inr ⟨_,rfl,a7,a8,(oi h).symm,rfl,ba.sel []⟩))
theorem f22_ok (k:Nat):f22_spec (f22 k):=f22_b_ok k
theorem f1002138_b_ok (k:Nat):f1002138_spec (f1002138_b k):=by
 unfold f1002138_spec
 intro K wi g bs e f i gA bsA sA gB bsB sB AsB csB r_ h hG j hsB a
 refine enter Tryd.func21 rfl (n:=9) rfl ?_
 unfold f1002138_b at h
 refine wp_region_lit (lN 0 ([sl f e i]) a Tya24 Tys24 (l1 1 (iI sA) a Tya3 ?_))
 obtain ⟨B,q,h⟩:=ob h
 refine cp ([.agg #[sl f e i],iI sA]) Tyb22 ((f22_ok k) q (hG.mono kr) (RDProgram.intro j) (pt a)) ?_ ?_
 ·rintro _ C ⟨⟨l⟩,b,r,D,c,d,rfl,rfl,m,s,t⟩
  have u:=ca m a
  obtain ⟨o,p,rfl,G⟩:=RDProgram.open s
  exact m1 (.tuple #[.agg #[sl o l p],sl c b d]) (ext (v:=.agg #[sl o l p]) rfl rfl (ext (v:=sl c b d) rfl rfl (sI 2 (sl c b d) #[sl c b d] u Tys38 rfl rfl (fun I w=>(wpList_nil (retP (end0 rfl ⟨e,sA,b,r,f,i,c,d,(oi h).symm,rfl,w,(mf j m.sub),t⟩)))))))
 ·rintro _ J ⟨x,y,rfl,rfl,z⟩
  have A:=ca z a
  exact panE (.inr ⟨_,rfl,x,y,(oi h).symm,rfl,A.sel [0,1,2]⟩)
theorem f1002138_ok (k:Nat):f1002138_spec (f1002138 k):=f1002138_b_ok k
theorem f1001452_ok (k:Nat):f1001452_spec (f1001452 k):=by
 unfold f1001452_spec
 intro K w g bs a c d gA bsA sA gB bsB sB AsB csB oz_0 ozA ozB or0 h hG e hsB j
 unfold f1001452 at h
 obtain ⟨r_,hr_⟩ : ∃ r_,r_=f1002138 k (DProgram.mk a) sA sB:=⟨_,rfl⟩
 rcases r_ with _ | r_
 ·rw [← hr_] at h; cases h
 refine (guard_ok (R:=fun w K_ H_=>∃ uz_0 uzA uzB uAz_0 ucz_0 uAzB uczB,r_=.ok ((DProgram.mk uz_0),uzA,uzB)∧H_=[.box bs g #[sl uAz_0 uz_0 ucz_0] 24,.box bsA gA #[iI uzA] 3,.box bsB gB #[sl uAzB uzB uczB] 38]∧tF K_ uAz_0 ucz_0 uz_0∧RSl BA RStr 1 16 K_ uAzB uczB uzB) (R':=fun c_ K_ H_=>r_=.error c_∧H_=[.box bs g #[sl c a d] 24,.box bsA gA #[iI sA] 3,.box bsB gB #[sl AsB sB csB] 38]) Tyb21 j (fun f l hle=>((f1002138_ok k) hr_.symm hG e hsB l).mono ?_)).mono ?_
 ·rintro e_ w_ (⟨v_,rfl,uz_0,uzA,uzB,K_,uAz_0,ucz_0,uAzB,uczB,b,i,T_,k0,k1⟩ | ⟨v_,rfl,c_,K_,b,i,T_⟩)
  ·exact .inl ⟨v_,rfl,K_,_,T_,uz_0,uzA,uzB,uAz_0,ucz_0,uAzB,uczB,b,rfl,k0,k1⟩
  ·exact .inr ⟨v_,rfl,c_,K_,_,i,T_,b,rfl⟩
 ·rintro e_ w_ ⟨v_,rfl,⟨f,K_,H_,hle,rfl,T_,uz_0,uzA,uzB,uAz_0,ucz_0,uAzB,uczB,rfl,rfl,k0,k1⟩ | ⟨c_,K_,H_,rfl,T_,rfl,rfl⟩⟩
  ·rw [← hr_] at h
   cases h
   exact ⟨_,rfl,K_,uAz_0,ucz_0,uAzB,uczB,rfl,T_,k0,k1⟩
  ·rw [← hr_] at h
   cases h
   exact ⟨_,rfl,K_,_,_,_,_,rfl,T_,(mf e T_.sub),(hsB.mono T_.sub (fun _ _ h=>h))⟩
theorem f11_b_ok (k:Nat):f11_spec (f11_b k):=by
 unfold f11_spec
 intro K wi q I g J N h hG r s
 obtain ⟨r_,hr_,h⟩:=rz h
 obtain ⟨j⟩:=q
 obtain ⟨l,c1,rfl,t⟩:=RDProgram.open r
 refine enter Tryd.func11 rfl (n:=10) rfl ?_
 unfold f11_b at h
 refine sr (bxoC (cs:=#[sl l j c1]) s rfl rfl (fun d u=>(bxoC (cs:=#[iI g]) u rfl rfl (fun e w=>(aC #[nS] w Tyz38 (fun x y=>(m2 (iI 0) (wt (sr (mkf (us:=[]) (vs:=[pp (zz wi) 0,pp (zz d) 0,pp (zz e) 0]) rfl rfl ?_))))))))))
 have m:=p210 y
 obtain ⟨⟨⟨O⟩,S,c,f⟩,z,h⟩:=ob h
 refine cv ([.func (.func 21) #[] #[pp (zz wi) 0,pp (zz d) 0,pp (zz e) 0]]) Tyb14 ((f1001452_ok k) z (hG.mono kr) t (RSl.nil _ _ _ _ _ _) (pt m)) ?_
 rintro _ U ⟨A,V,W,a,b,rfl,B,X,C⟩
 have o:=ca B m
 refine m2 (iI f) (wt (sr (l1 2 (sl a c b) o Tya38 (m1 (iI f) (sI 2 (sl a c b) #[sl a c b] o Tys38 rfl rfl (fun Y p=>(m2 (iI f) (wt (wp_ret ?_)))))))))
 have e_:=(Option.some.inj h).trans hr_
 obtain ⟨D,G⟩:=Prod.mk.inj e_
 subst D
 subst G
 exact retA2 rfl (res1 (i:=2) (v:=sl a c b) p rfl Tya38 rfl rfl) (resT rfl) ⟨A,a,b,rfl,(p.sel []),C⟩
theorem f11_ok (k:Nat):f11_spec (f11 k):=f11_b_ok k
theorem f33_b_ok (k:Nat) (F:Fam33) (IH33:f33_spec F.f33):f33_spec (f33_b k F):=by
 unfold f33_spec
 intro K wi e s t f ad h hG A B
 obtain ⟨r_,hr_,h⟩:=rz h
 refine enter Tryd.func33 rfl (n:=31) rfl ?_
 unfold f33_b at h
 refine sr (m2 (iI 0) (wt (wp_seq (sr (m1 (iI f) (c0 (decide (f > 60)) (wt (cd h (fun x h=>?_) (fun x h=>?_)))))))))
 ·refine cT x (sr (m2 (iI 4000) (wt (wp_ret (thenR ?_)))))
  cases (oi h).trans hr_
  exact retA1 rfl (resT rfl) ⟨K,rfl,B⟩
 ·refine cF x (wp_skip (thenN (sr (m2 (iI 0) (wt (wp_cut (fun a w=>∃ C u m,a=fr 31 (updL C [(5,iI m)])∧KH.sub K u∧SR K u wi w [] []∧f33_j1 k F m=some r_) ?_ ?_))))))
  ·refine sr (m2 (iI 0) (wt (wp_block (wp_loopG (fun g_ a w=>∃ D p g,∃ (c:Nat),∃ d,g_=g.length∧a=fr 31 (updL D [(0,sl s e t),(1,iI f),(5,iI d),(6,iI (c:Int))])∧KH.sub K p∧SR K p wi w [] []∧e.drop c=g∧f33_l1 k F f g c d=some r_) e.length ?_ ?_))))
   ·exact ⟨_,K,e,0,0,rfl,fR,kr,B,List.drop_zero,h⟩
   ·rintro _ _ ae ⟨D,p,g,c,d,rfl,rfl,j,q,l,h⟩
    rcases g with _ | ⟨⟨af,ag,ah,ai,G⟩,g⟩
    ·unfold f33_l1 at h
     exact wp_seq (sr (m1 (iI (c:Int)) (m1 (sl s e t) (lS e.length Tye44 (bcm (r:=false) rfl rfl (congrArg some (drop_nil_lt l)) (m1 vN (o0 13 (o0 13 (m3 false vN rfl (wt (cndF rfl (wp_exit (thenX (thenX (blkX (thenN (⟨_,p,d,fR,j,q,h⟩)))))))))))))))))
    ·unfold f33_l1 at h
     refine wp_seq (sr (m1 (iI (c:Int)) (m1 (sl s e t) (lS e.length Tye44 (bcm (r:=true) rfl rfl (congrArg some (drop_cons_t l)) (m1 vT (n0 13 (m1 (iI d) (n0 13 (c0 (decide (d ≤ 2000)) (m3 true (.bool (decide (d ≤ 2000))) rfl (wt (cd h (fun y h=>?_) (fun y h=>?_))))))))))))))
     ·refine cT y (wp_skip (thenN (wp_seq (wp_block (wp_region_lit (m1 (iI d) (bar (r:=(w64 (d + 1))) rfl rfl rfl (m1 (sl s e t) (m1 (iI (c:Int)) ?_)))))))))
      obtain ⟨S,I,aj,U,ak,V,W⟩:=((me A j)).row.at_ (drop_cons_at l)
      obtain ⟨J,N,rfl,al,X⟩:=RDExpr.open W
      refine idxN (b:=S) (o:=I) (i:=c) Tye44 Tys61 rfl U rfl (drop_cons_lt l) (fd (I + c * 5 + 4) Tyf61_4 rfl (ld1 (v:=sl J G N) Tya44 rfl (q.cell (kr.cell (V 4 _ rfl))) (m1 (iI f) (bar (r:=(w64 (f + 1))) rfl rfl rfl ?_))))
      obtain ⟨z,Y,h⟩:=ob h
      refine cv ([sl J G N,iI (w64 (f + 1))]) Tyb33 (IH33 Y (hG.mono j) X (pt q)) ?_
      rintro _ am ⟨Z,rfl,O⟩
      have ab:=ca O q
      exact bar (r:=(w64 ((w64 (d + 1)) + z))) rfl rfl rfl (m2 (iI (w64 ((w64 (d + 1)) + z))) (wpList_nil (blkN (thenN (wp_region_lit (m1 (iI (c:Int)) (bar (r:=((c + 1:Nat):Int)) rfl rfl (inc_ok (le_big (((me A j)).len) (by decide) (drop_cons_lt l))) (m2 (iI ((c + 1:Nat):Int)) (wt (⟨_,Nat.lt_succ_self _,_,Z,g,c + 1,(w64 ((w64 (d + 1)) + z)),rfl,fR,(j.trans O.sub),ab,drop_cons_next l,h⟩))))))))))
     ·exact cF y (wp_exit (thenX (thenX (blkX (thenN (⟨_,p,d,fR,j,q,h⟩))))))
  ·rintro _ an ⟨C,u,m,rfl,ao,ac,h⟩
   unfold f33_j1 at h
   refine sr (m1 (iI m) (m2 (iI m) (wt (wp_ret ?_))))
   cases (oi h).trans hr_
   exact retA1 rfl (resT rfl) ⟨u,rfl,ac⟩
theorem fam33_ok (k0:Nat) : ∀ k,f33_spec (fam33 k0 k).f33:=by
 intro k
 induction k with
 | zero=>exact (by unfold f33_spec; intro _ _ _ _ _ _ _ h_; cases h_)
 | succ k ih=>exact f33_b_ok k0 (fam33 k0 k) ih
theorem f33_ok (k:Nat):f33_spec (f33 k):=(fam33_ok k k)
theorem f23_b_ok (k:Nat) (F:Fam23) (IH23:f23_spec F.f23):f23_spec (f23_b k F):=by
 unfold f23_spec
 intro K wi y ak al c bC h hG aY aZ
 obtain ⟨r_,hr_,h⟩:=rz h
 refine enter Tryd.func23 rfl (n:=85) rfl ?_
 unfold f23_b at h
 refine sr (m2 (iI 0) (wt (wp_seq (sr (m1 (iI c) (c0 (decide (c > 40)) (wt (cd h (fun aP h=>?_) (fun aP h=>?_)))))))))
 ·refine cT aP (sr (m2 (iI 4000) (wt (wp_ret (thenR ?_)))))
  cases (oi h).trans hr_
  exact retA1 rfl (resT rfl) ⟨K,rfl,aZ⟩
 ·refine cF aP (wp_skip (thenN (sr (m2 (iI 0) (wt (wp_cut (fun a w=>∃ a2 aE ax,a=fr 85 (updL a2 [(5,iI ax)])∧KH.sub K aE∧SR K aE wi w [] []∧f23_j1 k F ax=some r_) ?_ ?_))))))
  ·refine sr (m2 (iI 0) (wt (wp_block (wp_loopG (fun g_ a w=>∃ a3 ae D,∃ (s:Nat),∃ d,g_=D.length∧a=fr 85 (updL a3 [(0,sl ak y al),(1,iI c),(5,iI d),(6,iI (s:Int))])∧KH.sub K ae∧SR K ae wi w [] []∧y.drop s=D∧f23_l1 k F c D s d=some r_) y.length ?_ ?_))))
   ·exact ⟨_,K,y,0,0,rfl,fR,kr,aZ,List.drop_zero,h⟩
   ·rintro _ _ B ⟨a3,ae,D,s,d,rfl,rfl,z,aF,am,h⟩
    rcases D with _ | ⟨⟨an,ao,ap,aq,ar,au,G,I,J,N,q⟩,D⟩
    ·unfold f23_l1 at h
     exact wp_seq (sr (m1 (iI (s:Int)) (m1 (sl ak y al) (lS y.length Tye32 (bcm (r:=false) rfl rfl (congrArg some (drop_nil_lt am)) (m1 vN (o0 15 (o0 15 (m3 false vN rfl (wt (cndF rfl (wp_exit (thenX (thenX (blkX (thenN (⟨_,ae,d,fR,z,aF,h⟩)))))))))))))))))
    ·unfold f23_l1 at h
     refine wp_seq (sr (m1 (iI (s:Int)) (m1 (sl ak y al) (lS y.length Tye32 (bcm (r:=true) rfl rfl (congrArg some (drop_cons_t am)) (m1 vT (n0 15 (m1 (iI d) (n0 15 (c0 (decide (d ≤ 2000)) (m3 true (.bool (decide (d ≤ 2000))) rfl (wt (cd h (fun aQ h=>?_) (fun aQ h=>?_))))))))))))))
     ·refine cT aQ (wp_skip (thenN (wp_cut (fun a w=>∃ a4 aG aH,a=fr 85 (updL a4 [(0,sl ak y al),(1,iI c),(5,iI aH),(6,iI (s:Int))])∧KH.sub ae aG∧SR K aG wi w [] []∧f23_j2 k F s aH (f23_l1 k F c D)=some r_) ?_ ?_)))
      ·refine wp_block (sr (m1 (sl ak y al) (m1 (iI (s:Int)) ?_)))
       obtain ⟨ba,bb,bD,bd,bE,be,bf⟩:=((ms aY z)).row.at_ (drop_cons_at am)
       obtain ⟨O,S,U,V,W,X,Y,Z,u,x,rfl,bF,bG,bg,bh,bi,bj,a5⟩:=RDStmt.open bf
       refine idxN (b:=ba) (o:=bb) (i:=s) Tye32 Tys47 rfl bd rfl (drop_cons_lt am) (lD (vS an ao ap aq ar au O G S U I V W J X Y N Z u q x) Tya47 Tys47 rfl (fun j v hj=>aF.cell (kr.cell (be j v hj))) (aC zS.toArray aF Tyz47 (fun bH bk=>(sI 0 (.agg (vS an ao ap aq ar au O G S U I V W J X Y N Z u q x).toArray) ((vS an ao ap aq ar au O G S U I V W J X Y N Z u q x).toArray) bk Tys47 rfl rfl (fun bI bm=>(wt (wp_seq (have g:=bm.drew;(regAny (E:=[]) (F:=FW ae [.box (zz wi) (zz B) (vS an ao ap aq ar au O G S U I V W J X Y N Z u q x).toArray 47]) (L:=(lb 27 0)) ymx rfl rfl (tk 0 (iI d) (lb 27 1) rfl (fun w=>mv_r (v:=iI d) rfl) (heldF (fq [0] g)) (tk 1 (iI (w64 (d + 1))) (lb 27 3) rfl (fun w=>bar_r (r:=(w64 (d + 1))) rfl rfl rfl) (heldF (fq [0] g)) (tk 2 (pp (zz B) 6) (lb 27 7) rfl (fun w=>fld_r (o':=6) Tyf47_6 rfl rfl) (heldF (fq [0] g)) (tf 3 (sl O G S) ([]) (lb 27 15) rfl (fq [0] g) (fun w hF=>lb1_r (i:=0) (v:=sl O G S) hF rfl Tya44 rfl rfl) (tk 4 (iI c) (lb 27 31) rfl (fun w=>mv_r (v:=iI c) rfl) (heldF (fq [0] g)) (tk 5 (iI (w64 (c + 1))) (lb 27 63) rfl (fun w=>bar_r (r:=(w64 (c + 1))) rfl rfl rfl) (heldF (fq [0] g)) (tk 8 (pp (zz B) 7) (lb 27 319) rfl (fun w=>fld_r (o':=7) Tyf47_7 rfl rfl) (heldF (fq [0] g)) (tf 9 (sl U I V) ([]) (lb 27 831) rfl (fq [0] g) (fun w hF=>lb1_r (i:=0) (v:=sl U I V) hF rfl Tya32 rfl rfl) (tk 10 (iI c) (lb 27 1855) rfl (fun w=>mv_r (v:=iI c) rfl) (heldF (fq [0] g)) (tk 11 (iI (w64 (c + 1))) (lb 27 3903) rfl (fun w=>bar_r (r:=(w64 (c + 1))) rfl rfl rfl) (heldF (fq [0] g)) (tk 14 (pp (zz B) 8) (lb 27 20287) rfl (fun w=>fld_r (o':=8) Tyf47_8 rfl rfl) (heldF (fq [0] g)) (tf 15 (sl W J X) ([]) (lb 27 53055) rfl (fq [0] g) (fun w hF=>lb1_r (i:=0) (v:=sl W J X) hF rfl Tya32 rfl rfl) (tk 16 (iI c) (lb 27 118591) rfl (fun w=>mv_r (v:=iI c) rfl) (heldF (fq [0] g)) (tk 17 (iI (w64 (c + 1))) (lb 27 249663) rfl (fun w=>bar_r (r:=(w64 (c + 1))) rfl rfl rfl) (heldF (fq [0] g)) (tk 20 (pp (zz B) 9) (lb 27 1298239) rfl (fun w=>fld_r (o':=9) Tyf47_9 rfl rfl) (heldF (fq [0] g)) (tf 21 (sl Y N Z) ([]) (lb 27 3395391) rfl (fq [0] g) (fun w hF=>lb1_r (i:=0) (v:=sl Y N Z) hF rfl Tya32 rfl rfl) (tk 22 (iI c) (lb 27 7589695) rfl (fun w=>mv_r (v:=iI c) rfl) (heldF (fq [0] g)) (tk 23 (iI (w64 (c + 1))) (lb 27 15978303) rfl (fun w=>bar_r (r:=(w64 (c + 1))) rfl rfl rfl) (heldF (fq [0] g)) (aO 6 rfl ?_))))))))))))))))))))))))))))
       obtain ⟨A,bn,h⟩:=ob h
       refine cv ([sl O G S,iI (w64 (c + 1))]) Tyb33 ((f33_ok k) bn (hG.mono z) bg (pt g)) ?_
       rintro _ bJ ⟨bK,rfl,e⟩
       have aI:=ca e g
       refine wt ⟨heldF (fwOf (is:=[0]) aI e.sub rfl),tk 7 (iI (w64 ((w64 (d + 1)) + A))) (lb 27 15978495) rfl (fun w=>bar_r (r:=(w64 ((w64 (d + 1)) + A))) rfl rfl rfl) (heldF (fwOf (is:=[0]) aI e.sub rfl)) (aO 12 rfl ?_)⟩
       obtain ⟨ab,bo,h⟩:=ob h
       refine cv ([sl U I V,iI (w64 (c + 1))]) Tyb23 (IH23 bo (hG.mono (z.trans e.sub)) (ms bh e.sub) (pt aI)) ?_
       rintro _ bL ⟨bM,rfl,p⟩
       have aJ:=ca p aI
       refine wt ⟨heldF (fwOf (is:=[0]) aJ (e.sub.trans p.sub) rfl),tk 13 (iI (w64 ((w64 ((w64 (d + 1)) + A)) + ab))) (lb 27 15990783) rfl (fun w=>bar_r (r:=(w64 ((w64 ((w64 (d + 1)) + A)) + ab))) rfl rfl rfl) (heldF (fwOf (is:=[0]) aJ (e.sub.trans p.sub) rfl)) (aO 18 rfl ?_)⟩
       obtain ⟨af,bp,h⟩:=ob h
       refine cv ([sl W J X,iI (w64 (c + 1))]) Tyb23 (IH23 bp (hG.mono ((z.trans e.sub).trans p.sub)) (ms bi (e.sub.trans p.sub)) (pt aJ)) ?_
       rintro _ bN ⟨bO,rfl,t⟩
       have aK:=ca t aJ
       refine wt ⟨heldF (fwOf (is:=[0]) aK ((e.sub.trans p.sub).trans t.sub) rfl),tk 19 (iI (w64 ((w64 ((w64 ((w64 (d + 1)) + A)) + ab)) + af))) (lb 27 16777215) rfl (fun w=>bar_r (r:=(w64 ((w64 ((w64 ((w64 (d + 1)) + A)) + ab)) + af))) rfl rfl rfl) (heldF (fwOf (is:=[0]) aK ((e.sub.trans p.sub).trans t.sub) rfl)) (aO 24 rfl ?_)⟩
       obtain ⟨ay,bq,h⟩:=ob h
       refine cv ([sl Y N Z,iI (w64 (c + 1))]) Tyb23 (IH23 bq (hG.mono (((z.trans e.sub).trans p.sub).trans t.sub)) (ms bj ((e.sub.trans p.sub).trans t.sub)) (pt aK)) ?_
       rintro _ bP ⟨a6,rfl,C⟩
       have aL:=ca C aK
       refine wt ⟨heldF (fwOf (is:=[0]) aL (((e.sub.trans p.sub).trans t.sub).trans C.sub) rfl),tk 25 (iI (w64 ((w64 ((w64 ((w64 ((w64 (d + 1)) + A)) + ab)) + af)) + ay))) (lb 27 67108863) rfl (fun w=>bar_r (r:=(w64 ((w64 ((w64 ((w64 ((w64 (d + 1)) + A)) + ab)) + af)) + ay))) rfl rfl rfl) (heldF (fwOf (is:=[0]) aL (((e.sub.trans p.sub).trans t.sub).trans C.sub) rfl)) (tk 26 (iI (w64 ((w64 ((w64 ((w64 ((w64 (d + 1)) + A)) + ab)) + af)) + ay))) (lb 27 134217727) rfl (fun w=>asg_r (v:=iI (w64 ((w64 ((w64 ((w64 ((w64 (d + 1)) + A)) + ab)) + af)) + ay))) rfl) (heldF (fwOf (is:=[0]) aL (((e.sub.trans p.sub).trans t.sub).trans C.sub) rfl)) (aD (thenN (sr (m2 (iI 0) (wt (wp_block (wp_loopG (fun g_ a w=>∃ a7 av ag,∃ (f:Nat),∃ m,g_=ag.length∧a=fr 85 (updL a7 [(0,sl ak y al),(1,iI c),(5,iI m),(6,iI (s:Int)),(7,pp (zz B) 0),(8,iI (f:Int))])∧KH.sub a6 av∧SR K av wi w [] [.box (zz wi) (zz B) (vS an ao ap aq ar au O G S U I V W J X Y N Z u q x).toArray 47]∧q.drop f=ag∧f23_l2 k F c s (f23_l1 k F c D) ag f m=some r_) q.length ?_ ?_))))))))⟩
       ·exact ⟨_,a6,q,0,(w64 ((w64 ((w64 ((w64 ((w64 (d + 1)) + A)) + ab)) + af)) + ay)),rfl,fR,kr,aL,List.drop_zero,h⟩
       ·rintro _ _ bQ ⟨a7,av,ag,f,m,rfl,rfl,ah,az,ai,h⟩
        rcases ag with _ | ⟨⟨bR,bS,bT,aR,aS⟩,ag⟩
        ·unfold f23_l2 at h
         exact wp_seq (sr (m1 (iI (f:Int)) (fd 10 Tyf47_10 rfl (l1 0 (sl u q x) az Tya45 (lS q.length Tye45 (bcm (r:=false) rfl rfl (congrArg some (drop_nil_lt ai)) (m1 vN (o0 56 (o0 56 (m3 false vN rfl (wt (cndF rfl (wp_exit (thenX (thenX (blkX (blkN (thenN (⟨_,av,m,fR,((((e.sub.trans p.sub).trans t.sub).trans C.sub).trans ah),(az.sel []),h⟩)))))))))))))))))))
        ·unfold f23_l2 at h
         refine wp_seq (sr (m1 (iI (f:Int)) (fd 10 Tyf47_10 rfl (l1 0 (sl u q x) az Tya45 (lS q.length Tye45 (bcm (r:=true) rfl rfl (congrArg some (drop_cons_t ai)) (m1 vT (n0 56 (m1 (iI m) (n0 56 (c0 (decide (m ≤ 2000)) (m3 true (.bool (decide (m ≤ 2000))) rfl (wt (cd h (fun aT h=>?_) (fun aT h=>?_)))))))))))))))
         ·refine cT aT (wp_skip (thenN (wp_seq (wp_block (have l:=az.drew;(regAny (E:=[]) (F:=FW av [.box (zz wi) (zz B) (vS an ao ap aq ar au O G S U I V W J X Y N Z u q x).toArray 47]) (L:=(lb 23 0)) ymx rfl rfl (tk 0 (iI m) (lb 23 1) rfl (fun w=>mv_r (v:=iI m) rfl) (heldF (fq [0] l)) (tk 1 (iI (w64 (m + 1))) (lb 23 3) rfl (fun w=>bar_r (r:=(w64 (m + 1))) rfl rfl rfl) (heldF (fq [0] l)) (tk 2 (pp (zz B) 10) (lb 23 7) rfl (fun w=>fld_r (o':=10) Tyf47_10 rfl rfl) (heldF (fq [0] l)) (tf 3 (sl u q x) ([]) (lb 23 15) rfl (fq [0] l) (fun w hF=>lb1_r (i:=0) (v:=sl u q x) hF rfl Tya45 rfl rfl) (tk 4 (iI (f:Int)) (lb 23 31) rfl (fun w=>mv_r (v:=iI (f:Int)) rfl) (heldF (fq [0] l)) ?_)))))))))))
          obtain ⟨aw,ad,bU,a8,bV,a9,br⟩:=((mc a5 ((((e.sub.trans p.sub).trans t.sub).trans C.sub).trans ah))).row.at_ (drop_cons_at ai)
          obtain ⟨aU,aV,aW,aX,rfl,bW,bs,bu⟩:=RDCase.open br
          refine tk 5 (pp aw (ad + f * 5)) (lb 23 63) rfl (fun w=>idxN_r (b:=aw) (o:=ad) (i:=f) Tye45 Tys56 rfl a8 rfl (drop_cons_lt ai)) (heldF (fq [0] l)) (tk 6 (pp aw (ad + f * 5 + 3)) (lb 23 127) rfl (fun w=>fld_r (o':=ad + f * 5 + 3) Tyf56_3 rfl rfl) (heldF (fq [0] l)) (tf 7 (sl aU aR aV) ([]) (lb 23 255) rfl (fq [0] l) (fun w hF=>ld1_r (v:=sl aU aR aV) Tya44 rfl (hF.cell (kr.cell (a9 3 _ rfl)))) (tk 8 (iI c) (lb 23 511) rfl (fun w=>mv_r (v:=iI c) rfl) (heldF (fq [0] l)) (tk 9 (iI (w64 (c + 1))) (lb 23 1023) rfl (fun w=>bar_r (r:=(w64 (c + 1))) rfl rfl rfl) (heldF (fq [0] l)) (tk 12 (pp (zz B) 10) (lb 23 5119) rfl (fun w=>fld_r (o':=10) Tyf47_10 rfl rfl) (heldF (fq [0] l)) (tf 13 (sl u q x) ([]) (lb 23 13311) rfl (fq [0] l) (fun w hF=>lb1_r (i:=0) (v:=sl u q x) hF rfl Tya45 rfl rfl) (tk 14 (iI (f:Int)) (lb 23 29695) rfl (fun w=>mv_r (v:=iI (f:Int)) rfl) (heldF (fq [0] l)) (tk 15 (pp aw (ad + f * 5)) (lb 23 62463) rfl (fun w=>idxN_r (b:=aw) (o:=ad) (i:=f) Tye45 Tys56 rfl a8 rfl (drop_cons_lt ai)) (heldF (fq [0] l)) (tk 16 (pp aw (ad + f * 5 + 4)) (lb 23 127999) rfl (fun w=>fld_r (o':=ad + f * 5 + 4) Tyf56_4 rfl rfl) (heldF (fq [0] l)) (tf 17 (sl aW aS aX) ([]) (lb 23 259071) rfl (fq [0] l) (fun w hF=>ld1_r (v:=sl aW aS aX) Tya32 rfl (hF.cell (kr.cell (a9 4 _ rfl)))) (tk 18 (iI c) (lb 23 521215) rfl (fun w=>mv_r (v:=iI c) rfl) (heldF (fq [0] l)) (tk 19 (iI (w64 (c + 1))) (lb 23 1045503) rfl (fun w=>bar_r (r:=(w64 (c + 1))) rfl rfl rfl) (heldF (fq [0] l)) (aO 10 rfl ?_)))))))))))))
          obtain ⟨aj,bv,h⟩:=ob h
          refine cv ([sl aU aR aV,iI (w64 (c + 1))]) Tyb33 ((f33_ok k) bv (hG.mono (((((z.trans e.sub).trans p.sub).trans t.sub).trans C.sub).trans ah)) bs (pt l)) ?_
          rintro _ bX ⟨bY,rfl,ac⟩
          have aM:=ca ac l
          refine wt ⟨heldF (fwOf (is:=[0]) aM ac.sub rfl),tk 11 (iI (w64 ((w64 (m + 1)) + aj))) (lb 23 1048575) rfl (fun w=>bar_r (r:=(w64 ((w64 (m + 1)) + aj))) rfl rfl rfl) (heldF (fwOf (is:=[0]) aM ac.sub rfl)) (aO 20 rfl ?_)⟩
          obtain ⟨aA,bw,h⟩:=ob h
          refine cv ([sl aW aS aX,iI (w64 (c + 1))]) Tyb23 (IH23 bw (hG.mono ((((((z.trans e.sub).trans p.sub).trans t.sub).trans C.sub).trans ah).trans ac.sub)) (ms bu ac.sub) (pt aM)) ?_
          rintro _ bZ ⟨bx,rfl,aB⟩
          have aN:=ca aB aM
          exact wt ⟨heldF (fwOf (is:=[0]) aN (ac.sub.trans aB.sub) rfl),tk 21 (iI (w64 ((w64 ((w64 (m + 1)) + aj)) + aA))) (lb 23 4194303) rfl (fun w=>bar_r (r:=(w64 ((w64 ((w64 (m + 1)) + aj)) + aA))) rfl rfl rfl) (heldF (fwOf (is:=[0]) aN (ac.sub.trans aB.sub) rfl)) (tk 22 (iI (w64 ((w64 ((w64 (m + 1)) + aj)) + aA))) (lb 23 8388607) rfl (fun w=>asg_r (v:=iI (w64 ((w64 ((w64 (m + 1)) + aj)) + aA))) rfl) (heldF (fwOf (is:=[0]) aN (ac.sub.trans aB.sub) rfl)) (aD (blkN (thenN (wp_region_lit (m1 (iI (f:Int)) (bar (r:=((f + 1:Nat):Int)) rfl rfl (inc_ok (le_big (((mc a5 ((((e.sub.trans p.sub).trans t.sub).trans C.sub).trans ah))).len) (by decide) (drop_cons_lt ai))) (m2 (iI ((f + 1:Nat):Int)) (wt (⟨_,Nat.lt_succ_self _,_,bx,ag,f + 1,(w64 ((w64 ((w64 (m + 1)) + aj)) + aA)),rfl,fR,((ah.trans ac.sub).trans aB.sub),aN,drop_cons_next ai,h⟩))))))))))⟩
         ·exact cF aT (wp_exit (thenX (thenX (blkX (blkN (thenN (⟨_,av,m,fR,((((e.sub.trans p.sub).trans t.sub).trans C.sub).trans ah),(az.sel []),h⟩)))))))
      ·rintro _ b0 ⟨a4,aG,aH,rfl,bz,bA,h⟩
       unfold f23_j2 at h
       exact wp_region_lit (m1 (iI (s:Int)) (bar (r:=((s + 1:Nat):Int)) rfl rfl (inc_ok (le_big (((ms aY z)).len) (by decide) (drop_cons_lt am))) (m2 (iI ((s + 1:Nat):Int)) (wt (⟨_,Nat.lt_succ_self _,_,aG,D,s + 1,aH,rfl,fR,(z.trans bz),bA,drop_cons_next am,h⟩)))))
     ·exact cF aQ (wp_exit (thenX (thenX (blkX (thenN (⟨_,ae,d,fR,z,aF,h⟩))))))
  ·rintro _ b1 ⟨a2,aE,ax,rfl,b2,bB,h⟩
   unfold f23_j1 at h
   refine sr (m1 (iI ax) (m2 (iI ax) (wt (wp_ret ?_))))
   cases (oi h).trans hr_
   exact retA1 rfl (resT rfl) ⟨aE,rfl,bB⟩
theorem fam23_ok (k0:Nat) : ∀ k,f23_spec (fam23 k0 k).f23:=by
 intro k
 induction k with
 | zero=>exact (by unfold f23_spec; intro _ _ _ _ _ _ _ h_; cases h_)
 | succ k ih=>exact f23_b_ok k0 (fam23 k0 k) ih
theorem f23_ok (k:Nat):f23_spec (f23 k):=(fam23_ok k k)
theorem f12_b_ok (k:Nat):f12_spec (f12_b k):=by
 unfold f12_spec
 intro K wi I ad ae h hG J N
 obtain ⟨r_,hr_,h⟩:=rz h
 obtain ⟨e⟩:=I
 obtain ⟨p,c1,rfl,x⟩:=RDProgram.open J
 refine enter Tryd.func12 rfl (n:=28) rfl ?_
 unfold f12_b at h
 refine sr (bxoC (cs:=#[sl p e c1]) N rfl rfl (fun af O=>(m2 vN (wt (sr (m2 (iI 0) (wt (wp_cut (fun a w=>∃ y s j,a=fr 28 (updL y [(3,iI j)])∧KH.sub K s∧SR K s wi w [] []∧f12_j1 k j=some r_) ?_ ?_))))))))
 ·refine sr (m2 (iI 0) (wt (wp_block (wp_loopG (fun g_ a w=>∃ z q g,∃ (c:Nat),∃ d,g_=g.length∧a=fr 28 (updL z [(1,pp (zz wi) 0),(3,iI d),(4,iI (c:Int))])∧KH.sub K q∧SR K q wi w [] [.box (zz wi) (zz wi) #[sl p e c1] 24]∧e.drop c=g∧f12_l1 k g c d=some r_) e.length ?_ ?_))))
  ·exact ⟨_,K,e,0,0,rfl,fR,kr,O,List.drop_zero,h⟩
  ·rintro _ _ ag ⟨z,q,g,c,d,rfl,rfl,l,f,m,h⟩
   rcases g with _ | ⟨⟨ah,ai,aj,ak,al,A⟩,g⟩
   ·unfold f12_l1 at h
    exact wp_seq (sr (m1 (iI (c:Int)) (fd 0 Tyf24_0 rfl (l1 0 (sl p e c1) f Tya22 (lS e.length Tye22 (bcm (r:=false) rfl rfl (congrArg some (drop_nil_lt m)) (m1 vN (o0 10 (o0 10 (m3 false vN rfl (wt (cndF rfl (wp_exit (thenX (thenX (blkX (thenN (⟨_,q,d,fR,l,(f.sel []),h⟩))))))))))))))))))
   ·unfold f12_l1 at h
    refine wp_seq (sr (m1 (iI (c:Int)) (fd 0 Tyf24_0 rfl (l1 0 (sl p e c1) f Tya22 (lS e.length Tye22 (bcm (r:=true) rfl rfl (congrArg some (drop_cons_t m)) (m1 vT (n0 10 (m1 (iI d) (n0 10 (c0 (decide (d ≤ 2000)) (m3 true (.bool (decide (d ≤ 2000))) rfl (wt (cd h (fun t h=>?_) (fun t h=>?_)))))))))))))))
    ·refine cT t (wp_skip (thenN (wp_seq (wp_block (wp_region_lit (m1 (iI d) (bar (r:=(w64 (d + 1))) rfl rfl rfl (fd 0 Tyf24_0 rfl (l1 0 (sl p e c1) f Tya22 (m1 (iI (c:Int)) ?_))))))))))
     obtain ⟨S,B,am,U,an,V,W⟩:=((mf x l)).row.at_ (drop_cons_at m)
     obtain ⟨ao,ap,C,D,rfl,aq,ar,X⟩:=RDFunc.open W
     refine idxN (b:=S) (o:=B) (i:=c) Tye22 Tys34 rfl U rfl (drop_cons_lt m) (fd (B + c * 6 + 5) Tyf34_5 rfl (ld1 (v:=sl C A D) Tya32 rfl (f.cell (kr.cell (V 5 _ rfl))) ?_))
     obtain ⟨u,Y,h⟩:=ob h
     refine cv ([sl C A D,iI 0]) Tyb23 ((f23_ok k) Y (hG.mono l) X (pt f)) ?_
     rintro _ au ⟨Z,rfl,G⟩
     have ab:=ca G f
     exact bar (r:=(w64 ((w64 (d + 1)) + u))) rfl rfl rfl (m2 (iI (w64 ((w64 (d + 1)) + u))) (wpList_nil (blkN (thenN (wp_region_lit (m1 (iI (c:Int)) (bar (r:=((c + 1:Nat):Int)) rfl rfl (inc_ok (le_big (((mf x l)).len) (by decide) (drop_cons_lt m))) (m2 (iI ((c + 1:Nat):Int)) (wt (⟨_,Nat.lt_succ_self _,_,Z,g,c + 1,(w64 ((w64 (d + 1)) + u)),rfl,fR,(l.trans G.sub),ab,drop_cons_next m,h⟩))))))))))
    ·exact cF t (wp_exit (thenX (thenX (blkX (thenN (⟨_,q,d,fR,l,(f.sel []),h⟩))))))
 ·rintro _ av ⟨y,s,j,rfl,aw,ac,h⟩
  unfold f12_j1 at h
  refine sr (m1 (iI j) (c0 (decide (j ≤ 2000)) (m2 (.bool (decide (j ≤ 2000))) (wt (wp_ret ?_)))))
  cases (oi h).trans hr_
  exact retA1 rfl (resT rfl) ⟨s,rfl,ac⟩
theorem f12_ok (k:Nat):f12_spec (f12 k):=f12_b_ok k
theorem f5_b_ok (k:Nat):f5_spec (f5_b k):=by
 unfold f5_spec
 intro K wi d p q h hG e f
 obtain ⟨r_,hr_,h⟩:=rz h
 obtain ⟨a⟩:=d
 obtain ⟨b,c1,rfl,g⟩:=RDProgram.open e
 refine enter Tryd.func5 rfl (n:=5) rfl ?_
 unfold f5_b at h
 refine sr (bxoC (cs:=#[sl b a c1]) f rfl rfl (fun r c=>(m2 vN (wt (sr (lN 0 ([sl b a c1]) c Tya24 Tys24 ?_))))))
 obtain ⟨i,j,h⟩:=ob h
 refine cv ([.agg #[sl b a c1]]) Tyb12 ((f12_ok k) j (hG.mono kr) (RDProgram.intro g) (pt c)) ?_
 rintro _ s ⟨l,rfl,m⟩
 have o:=ca m c
 refine m2 (.bool i) (wt (wp_ret ?_))
 cases (oi h).trans hr_
 exact retA1 rfl (resT rfl) ⟨l,rfl,(o.sel [])⟩
theorem f5_ok (k:Nat):f5_spec (f5 k):=f5_b_ok k
theorem f1001504_b_ok (k:Nat):f1001504_spec (f1001504_b k):=by
 unfold f1001504_spec
 intro K wi g bs e f i gA bsA sA_0 AsA_0 csA_0 r_ h hG j hsA_0 d
 refine enter Tryd.func15 rfl (n:=7) rfl ?_
 unfold f1001504_b at h
 refine wp_region_lit (lN 0 ([sl f e i]) d Tya24 Tys24 ?_)
 obtain ⟨B,q,h⟩:=ob h
 refine cp ([.agg #[sl f e i]]) Tyb16 ((f16_ok k) _ _ _ _ _ q (hG.mono kr) (RDProgram.intro j) (pt d)) ?_ ?_
 ·rintro _ C ⟨⟨a⟩,l,r,D,m,o,rfl,rfl,p,s,G⟩
  have t:=ca p d
  obtain ⟨b,c,rfl,u⟩:=RDProgram.open s
  exact m1 (.tuple #[.agg #[sl b a c],sl m l o]) (ext (v:=.agg #[sl b a c]) rfl rfl (ext (v:=sl m l o) rfl rfl (sI 1 (.agg #[sl b a c]) #[sl b a c] t Tys24 rfl rfl (fun I w=>(wpList_nil (retP (end0 rfl ⟨e,a,r,f,i,b,c,(oi h).symm,rfl,w,(mf j p.sub),u⟩)))))))
 ·rintro _ J ⟨x,y,rfl,rfl,z⟩
  have A:=ca z d
  exact panE (.inr ⟨_,rfl,x,y,(oi h).symm,rfl,A.sel [0,1]⟩)
theorem f1001504_ok (k:Nat):f1001504_spec (f1001504 k):=f1001504_b_ok k
theorem f1001447_ok (k:Nat):f1001447_spec (f1001447 k):=by
 unfold f1001447_spec
 intro K w g bs s_0 As_0 cs_0 gA bsA sA_0 AsA_0 csA_0 oz_0 ozA_0 or0 h hG hs_0 hsA_0 S0
 unfold f1001447 at h
 obtain ⟨r_,hr_⟩ : ∃ r_,r_=f1001504 k (DProgram.mk s_0) (DProgram.mk sA_0):=⟨_,rfl⟩
 rcases r_ with _ | r_
 ·rw [← hr_] at h; cases h
 refine (guard_ok (R:=fun w K_ H_=>∃ (uz_0:List DFunc) (uzA_0:List DFunc) (uAz_0:Option Addr) (ucz_0:Nat) (uAzA_0:Option Addr) (uczA_0:Nat),r_=.ok ((DProgram.mk uz_0),(DProgram.mk uzA_0))∧H_=[.box bs g #[.slice uAz_0 uz_0.length ucz_0] 24,.box bsA gA #[.slice uAzA_0 uzA_0.length uczA_0] 24]∧tF K_ uAz_0 ucz_0 uz_0∧tF K_ uAzA_0 uczA_0 uzA_0) (R':=fun c_ K_ H_=>r_=.error c_∧H_=[.box bs g #[.slice As_0 s_0.length cs_0] 24,.box bsA gA #[.slice AsA_0 sA_0.length csA_0] 24]) Tyb15 S0 (fun w1 S1 hle=>((f1001504_ok k) hr_.symm hG hs_0 hsA_0 S1).mono ?_)).mono ?_
 ·rintro e_ w_ (⟨v_,rfl,uz_0,uzA_0,K_,uAz_0,ucz_0,uAzA_0,uczA_0,q1,q2,T_,k0,k1⟩ | ⟨v_,rfl,c_,K_,q1,q2,T_⟩)
  ·exact .inl ⟨v_,rfl,K_,_,T_,uz_0,uzA_0,uAz_0,ucz_0,uAzA_0,uczA_0,q1,rfl,k0,k1⟩
  ·exact .inr ⟨v_,rfl,c_,K_,_,q2,T_,q1,rfl⟩
 ·rintro e_ w_ ⟨v_,rfl,⟨w1,K_,H_,hle,rfl,T_,uz_0,uzA_0,uAz_0,ucz_0,uAzA_0,uczA_0,rfl,rfl,k0,k1⟩ | ⟨c_,K_,H_,rfl,T_,rfl,rfl⟩⟩
  ·rw [← hr_] at h
   cases h
   exact ⟨_,rfl,K_,uAz_0,ucz_0,uAzA_0,uczA_0,rfl,T_,k0,k1⟩
  ·rw [← hr_] at h
   cases h
   exact ⟨_,rfl,K_,_,_,_,_,rfl,T_,(hs_0.mono T_.sub (fun _ _ h=>RDFunc.mono T_.sub h)),(hsA_0.mono T_.sub (fun _ _ h=>RDFunc.mono T_.sub h))⟩
theorem f7_b_ok (k:Nat):f7_spec (f7_b k):=by
 unfold f7_spec
 intro K wi p A B C h hG q r
 obtain ⟨r_,hr_,h⟩:=rz h
 obtain ⟨f⟩:=p
 obtain ⟨g,c1,rfl,s⟩:=RDProgram.open q
 refine enter Tryd.func7 rfl (n:=8) rfl ?_
 unfold f7_b at h
 refine sr (bxoC (cs:=#[sl g f c1]) r rfl rfl (fun d t=>(aC #[nS] t Tyz24 (fun u v=>(m2 (iI 0) (wt (sr (mkf (us:=[]) (vs:=[pp (zz wi) 0,pp (zz d) 0]) rfl rfl ?_))))))))
 have j:=p10 v
 obtain ⟨⟨⟨D⟩,⟨a⟩,e⟩,w,h⟩:=ob h
 refine cv ([.func (.func 15) #[] #[pp (zz wi) 0,pp (zz d) 0]]) Tyb14 ((f1001447_ok k) w (hG.mono kr) s (RSl.nil _ _ _ _ _ _) (pt j)) ?_
 rintro _ G ⟨x,I,J,b,c,rfl,y,N,z⟩
 have m:=ca y j
 refine m2 (iI e) (wt (sr (lN 1 ([sl b a c]) m Tya24 Tys24 (m1 (iI e) (sI 1 (.agg #[sl b a c]) #[sl b a c] m Tys24 rfl rfl (fun O o=>(m2 (iI e) (wt (wp_ret ?_)))))))))
 cases (oi h).trans hr_
 exact retA2 rfl (resN (i:=1) (l:=[sl b a c]) o rfl Tya24 Tys24 rfl rfl rfl) (resT rfl) ⟨x,[sl b a c],rfl,(o.sel []),(RDProgram.intro z)⟩
theorem f7_ok (k:Nat):f7_spec (f7 k):=f7_b_ok k
theorem chk6_shape {q:DProgram} (h:chk6 q=true) : ∃ n ps r fl a o1 n1 sl1 f1 ix1 fg1 ar1 b c f2 ix2 fg2 ar2 bo2 ot2 la2 d ot1 la1 e f g f3 ix3 fg3 ar3 bo3 ot3 la3 i,
 q=.mk [.mk n ps r fl 3 [a,.mk o1 n1 sl1 f1 ix1 fg1 ar1 [.mk b c 1 f2 ix2 fg2 ar2 bo2 ot2 la2 d] ot1 la1 e,.mk f g 2 f3 ix3 fg3 ar3 bo3 ot3 la3 i]]:=by
 unfold chk6 at h
 split at h
 ·simp only [Bool.and_eq_true,beq_iff_eq] at h
  obtain ⟨⟨rfl,rfl⟩,rfl⟩:=h
  exact ⟨_,_,_,_,_,_,_,_,_,_,_,_,_,_,_,_,_,_,_,_,_,_,_,_,_,_,_,_,_,_,_,_,_,_,_,rfl⟩
 ·cases h
theorem sample_ok {K:KH} {wi:World} (q:Sx K K wi wi (fun b=>b ∈ Ents.blks []) []) :
 Calls Tryd.prog 13 #[] wi (Ret fun v w=>∃ bF bB bI bC bN k m,v=.agg #[.slice (some ⟨bF,0,none⟩) 1 1]∧SR K K wi w [] [.box (zz wi) bF #[.string ⟨#[109,97,105,110]⟩,nS,iI 0,vN,iI 0,.slice (some ⟨bB,0,none⟩) 3 3] 34,.box (zz wi) bB #[iI 1,.string ⟨#[120]⟩,iI 0,sE,iI 0,iI 0,.slice (some ⟨m,0,none⟩) 1 1,nS,nS,nS,nS,iI 20,sE,iI 0,sE,iI 0,iI 0,.slice (some ⟨bC,0,none⟩) 1 1,.slice (some ⟨bI,0,none⟩) 1 1,nS,nS,nS,iI 1,.string ⟨#[121]⟩,iI 0,sE,iI 0,iI 0,.slice (some ⟨k,0,none⟩) 1 1,nS,nS,nS,nS] 47,.box (zz wi) bI #[iI 1,.string ⟨#[121]⟩,iI 0,sE,iI 0,iI 0,.slice (some ⟨bN,0,none⟩) 1 1,nS,nS,nS,nS] 47,.box (zz wi) bC #[iI 2,iI 1,sE,iI 0,nS] 61,.box (zz wi) bN #[iI 4,iI 0,.string ⟨#[120]⟩,iI 0,nS] 61,.box (zz wi) k #[iI 1,iI 2,sE,iI 0,nS] 61,.box (zz wi) m #[iI 1,iI 1,sE,iI 0,nS] 61]):=by
 refine enter Tryd.func13 rfl (n:=24) rfl ?_
 refine wp_seq ?_
 refine wp_region_lit ?_
 refine alcC (z:=.agg #[nS]) (cs:=#[nS]) q (by kernel_rfl) rfl ?_
 intro c r
 refine wpList_nil ?_
 refine thenN ?_
 refine wp_seq ?_
 refine wp_region_lit ?_
 refine bld (cells:=#[iI 1,iI 1,sE,iI 0,nS]) (vs:=[(0,iI 1),(1,iI 1)]) rfl (fun w=>by kernel_rfl) ?_
 refine bsl (e:=61) (cells:=#[iI 1,iI 1,sE,iI 0,nS]) (vs:=[(0,.agg #[iI 1,iI 1,sE,iI 0,nS])]) r rfl (buildSl_one (show ElemB Tryd.prog 44=some 61 by kernel_rfl) (show SizeB Tryd.prog 61=some 5 by kernel_rfl) (show ZeroB Tryd.prog 61=some (.agg zE.toArray) by kernel_rfl) rfl (by decide) (by decide) rfl) ?_
 intro d s
 refine bld (cells:=#[iI 1,iI 2,sE,iI 0,nS]) (vs:=[(0,iI 1),(1,iI 2)]) rfl (fun w=>by kernel_rfl) ?_
 refine bsl (e:=61) (cells:=#[iI 1,iI 2,sE,iI 0,nS]) (vs:=[(0,.agg #[iI 1,iI 2,sE,iI 0,nS])]) s rfl (buildSl_one (show ElemB Tryd.prog 44=some 61 by kernel_rfl) (show SizeB Tryd.prog 61=some 5 by kernel_rfl) (show ZeroB Tryd.prog 61=some (.agg zE.toArray) by kernel_rfl) rfl (by decide) (by decide) rfl) ?_
 intro a t
 refine asg (v:=.slice (some ⟨(zz c),0,none⟩) 1 1) rfl ?_
 refine asg (v:=.slice (some ⟨(zz d),0,none⟩) 1 1) rfl ?_
 refine wpList_nil ?_
 refine thenN ?_
 refine wp_seq ?_
 refine wp_region_lit ?_
 refine bld (cells:=#[iI 4,iI 0,.string ⟨#[120]⟩,iI 0,nS]) (vs:=[(0,iI 4),(2,.string ⟨#[120]⟩)]) rfl (fun w=>by kernel_rfl) ?_
 refine bsl (e:=61) (cells:=#[iI 4,iI 0,.string ⟨#[120]⟩,iI 0,nS]) (vs:=[(0,.agg #[iI 4,iI 0,.string ⟨#[120]⟩,iI 0,nS])]) t rfl (buildSl_one (show ElemB Tryd.prog 44=some 61 by kernel_rfl) (show SizeB Tryd.prog 61=some 5 by kernel_rfl) (show ZeroB Tryd.prog 61=some (.agg zE.toArray) by kernel_rfl) rfl (by decide) (by decide) rfl) ?_
 intro D u
 refine bld (cells:=#[iI 1,.string ⟨#[121]⟩,iI 0,sE,iI 0,iI 0,.slice (some ⟨(zz a),0,none⟩) 1 1,nS,nS,nS,nS]) (vs:=[(0,iI 1),(1,.string ⟨#[121]⟩),(6,.slice (some ⟨(zz a),0,none⟩) 1 1)]) rfl (fun w=>by kernel_rfl) ?_
 refine alcC (z:=.agg zS.toArray) (cs:=zS.toArray) u (by kernel_rfl) rfl ?_
 intro G x
 refine stoI (i:=0) (v:=.agg #[iI 1,.string ⟨#[121]⟩,iI 0,sE,iI 0,iI 0,.slice (some ⟨(zz a),0,none⟩) 1 1,nS,nS,nS,nS]) (cs':=#[iI 1,.string ⟨#[121]⟩,iI 0,sE,iI 0,iI 0,.slice (some ⟨(zz a),0,none⟩) 1 1,nS,nS,nS,nS]) x rfl (show SizeB Tryd.prog 47=some 11 by kernel_rfl) rfl rfl rfl rfl (Nat.le_of_ble_eq_true rfl) rfl ?_
 intro g y
 refine wpList_nil ?_
 refine thenN ?_
 refine wp_seq ?_
 refine wp_region_lit ?_
 refine mv (v:=.slice (some ⟨(zz c),0,none⟩) 1 1) rfl ?_
 refine bld (cells:=#[iI 1,.string ⟨#[120]⟩,iI 0,sE,iI 0,iI 0,.slice (some ⟨(zz c),0,none⟩) 1 1,nS,nS,nS,nS]) (vs:=[(0,iI 1),(1,.string ⟨#[120]⟩),(6,.slice (some ⟨(zz c),0,none⟩) 1 1)]) rfl (fun w=>by kernel_rfl) ?_
 refine bld (cells:=#[iI 2,iI 1,sE,iI 0,nS]) (vs:=[(0,iI 2),(1,iI 1)]) rfl (fun w=>by kernel_rfl) ?_
 refine bsl (e:=61) (cells:=#[iI 2,iI 1,sE,iI 0,nS]) (vs:=[(0,.agg #[iI 2,iI 1,sE,iI 0,nS])]) y rfl (buildSl_one (show ElemB Tryd.prog 44=some 61 by kernel_rfl) (show SizeB Tryd.prog 61=some 5 by kernel_rfl) (show ZeroB Tryd.prog 61=some (.agg zE.toArray) by kernel_rfl) rfl (by decide) (by decide) rfl) ?_
 intro h o
 refine lbN (i:=1) (l:=[iI 1,.string ⟨#[121]⟩,iI 0,sE,iI 0,iI 0,.slice (some ⟨(zz a),0,none⟩) 1 1,nS,nS,nS,nS]) o rfl (by kernel_rfl) (show SizeB Tryd.prog 47=some 11 by kernel_rfl) rfl rfl rfl ?_
 refine bsl (e:=47) (cells:=#[iI 1,.string ⟨#[121]⟩,iI 0,sE,iI 0,iI 0,.slice (some ⟨(zz a),0,none⟩) 1 1,nS,nS,nS,nS]) (vs:=[(0,.agg #[iI 1,.string ⟨#[121]⟩,iI 0,sE,iI 0,iI 0,.slice (some ⟨(zz a),0,none⟩) 1 1,nS,nS,nS,nS])]) o rfl (buildSl_one (show ElemB Tryd.prog 32=some 47 by kernel_rfl) (show SizeB Tryd.prog 47=some 11 by kernel_rfl) (show ZeroB Tryd.prog 47=some (.agg zS.toArray) by kernel_rfl) rfl (by decide) (by decide) rfl) ?_
 intro j A
 refine bld (cells:=#[iI 20,sE,iI 0,sE,iI 0,iI 0,.slice (some ⟨(zz g),0,none⟩) 1 1,.slice (some ⟨(zz h),0,none⟩) 1 1,nS,nS,nS]) (vs:=[(0,iI 20),(6,.slice (some ⟨(zz g),0,none⟩) 1 1),(7,.slice (some ⟨(zz h),0,none⟩) 1 1)]) rfl (fun w=>by kernel_rfl) ?_
 refine mv (v:=.slice (some ⟨(zz d),0,none⟩) 1 1) rfl ?_
 refine bld (cells:=#[iI 1,.string ⟨#[121]⟩,iI 0,sE,iI 0,iI 0,.slice (some ⟨(zz d),0,none⟩) 1 1,nS,nS,nS,nS]) (vs:=[(0,iI 1),(1,.string ⟨#[121]⟩),(6,.slice (some ⟨(zz d),0,none⟩) 1 1)]) rfl (fun w=>by kernel_rfl) ?_
 refine bsl (e:=47) (cells:=#[iI 1,.string ⟨#[120]⟩,iI 0,sE,iI 0,iI 0,.slice (some ⟨(zz c),0,none⟩) 1 1,nS,nS,nS,nS,iI 20,sE,iI 0,sE,iI 0,iI 0,.slice (some ⟨(zz g),0,none⟩) 1 1,.slice (some ⟨(zz h),0,none⟩) 1 1,nS,nS,nS,iI 1,.string ⟨#[121]⟩,iI 0,sE,iI 0,iI 0,.slice (some ⟨(zz d),0,none⟩) 1 1,nS,nS,nS,nS]) (vs:=[(0,.agg #[iI 1,.string ⟨#[120]⟩,iI 0,sE,iI 0,iI 0,.slice (some ⟨(zz c),0,none⟩) 1 1,nS,nS,nS,nS]),(1,.agg #[iI 20,sE,iI 0,sE,iI 0,iI 0,.slice (some ⟨(zz g),0,none⟩) 1 1,.slice (some ⟨(zz h),0,none⟩) 1 1,nS,nS,nS]),(2,.agg #[iI 1,.string ⟨#[121]⟩,iI 0,sE,iI 0,iI 0,.slice (some ⟨(zz d),0,none⟩) 1 1,nS,nS,nS,nS])]) A rfl (fun w=>by kernel_rfl) ?_
 intro f B
 refine bld (cells:=#[.string ⟨#[109,97,105,110]⟩,nS,iI 0,vN,iI 0,.slice (some ⟨(zz j),0,none⟩) 3 3]) (vs:=[(0,.string ⟨#[109,97,105,110]⟩),(5,.slice (some ⟨(zz j),0,none⟩) 3 3)]) rfl (fun w=>by kernel_rfl) ?_
 refine bsl (e:=34) (cells:=#[.string ⟨#[109,97,105,110]⟩,nS,iI 0,vN,iI 0,.slice (some ⟨(zz j),0,none⟩) 3 3]) (vs:=[(0,.agg #[.string ⟨#[109,97,105,110]⟩,nS,iI 0,vN,iI 0,.slice (some ⟨(zz j),0,none⟩) 3 3])]) B rfl (buildSl_one (show ElemB Tryd.prog 22=some 34 by kernel_rfl) (show SizeB Tryd.prog 34=some 6 by kernel_rfl) (show ZeroB Tryd.prog 34=some (.agg zF.toArray) by kernel_rfl) rfl (by decide) (by decide) rfl) ?_
 intro I C
 refine bld (cells:=#[.slice (some ⟨(zz f),0,none⟩) 1 1]) (vs:=[(0,.slice (some ⟨(zz f),0,none⟩) 1 1)]) rfl (fun w=>by kernel_rfl) ?_
 refine stoI (i:=8) (v:=.agg #[.slice (some ⟨(zz f),0,none⟩) 1 1]) (cs':=#[.slice (some ⟨(zz f),0,none⟩) 1 1]) C rfl (show SizeB Tryd.prog 24=some 1 by kernel_rfl) rfl rfl rfl rfl (Nat.le_of_ble_eq_true rfl) rfl ?_
 intro J p
 refine wpList_nil ?_
 refine thenN ?_
 refine wp_ret ?_
 exact retA1 rfl (resN (i:=8) (l:=[.slice (some ⟨(zz f),0,none⟩) 1 1]) p rfl (by kernel_rfl) (show SizeB Tryd.prog 24=some 1 by kernel_rfl) rfl rfl rfl) ⟨(zz f),(zz j),(zz h),(zz g),(zz a),(zz d),(zz c),rfl,p.sel [0,1,2,3,5,6,7]⟩
theorem sample_shut' {base:Nat} {K0 K:KH} {wi w:World} {M:Nat→Prop} {H:Ents} {nm:ByteArray} {bF bB bI bC bN c d:Nat} (hn:nm.size ≤ mB) (hle:(zz wi) ≤ base) (g:Sx K0 K wi w M (.box base bF #[.string ⟨#[109,97,105,110]⟩,.slice none 0 0,.int .i64 0,.bool false,.int .i64 0,.slice (some ⟨bB,0,none⟩) 3 3] 34 :: .box base bB #[.int .i64 1,.string ⟨#[120]⟩,.int .i64 0,.string ⟨#[]⟩,.int .i64 0,.int .i64 0,.slice (some ⟨d,0,none⟩) 1 1,.slice none 0 0,.slice none 0 0,.slice none 0 0,.slice none 0 0,.int .i64 20,.string ⟨#[]⟩,.int .i64 0,.string ⟨#[]⟩,.int .i64 0,.int .i64 0,.slice (some ⟨bC,0,none⟩) 1 1,.slice (some ⟨bI,0,none⟩) 1 1,.slice none 0 0,.slice none 0 0,.slice none 0 0,.int .i64 1,.string ⟨#[121]⟩,.int .i64 0,.string ⟨#[]⟩,.int .i64 0,.int .i64 0,.slice (some ⟨c,0,none⟩) 1 1,.slice none 0 0,.slice none 0 0,.slice none 0 0,.slice none 0 0] 47 :: .box base bI #[.int .i64 1,.string nm,.int .i64 0,.string ⟨#[]⟩,.int .i64 0,.int .i64 0,.slice (some ⟨bN,0,none⟩) 1 1,.slice none 0 0,.slice none 0 0,.slice none 0 0,.slice none 0 0] 47 :: .box base bC #[.int .i64 2,.int .i64 1,.string ⟨#[]⟩,.int .i64 0,.slice none 0 0] 61 :: .box base bN #[.int .i64 4,.int .i64 0,.string ⟨#[120]⟩,.int .i64 0,.slice none 0 0] 61 :: .box base c #[.int .i64 1,.int .i64 2,.string ⟨#[]⟩,.int .i64 0,.slice none 0 0] 61 :: .box base d #[.int .i64 1,.int .i64 1,.string ⟨#[]⟩,.int .i64 0,.slice none 0 0] 61 :: H)) :
 ∃ K',Sx K0 K' wi w M H∧K.sub K'∧RDProgram K' (sampleP nm) [.slice (some ⟨bF,0,none⟩) 1 1]:=by
 obtain ⟨j,k,l,m⟩:=frzI (i:=6) (bytes:=64) (xs:=([(.mk 1 1 ⟨#[]⟩ 0 [])]:LE)) (R:=fun K=>(RDExpr K)) g rfl hle ⟨[iI 1,iI 1,sE,iI 0,nS],_,rfl,rfl,(RDExpr.intro (by decide) (RSl.nil _ _ _ _ _ _)),(reps0 (R:=(RDExpr K)) (size:=5))⟩ rfl (Nat.le_of_ble_eq_true rfl) (fun hs=>(fun _ _ h=>RDExpr.mono hs h))
 obtain ⟨n,o,f,p⟩:=frzI (i:=5) (bytes:=64) (xs:=([(.mk 1 2 ⟨#[]⟩ 0 [])]:LE)) (R:=fun K=>(RDExpr K)) k rfl hle ⟨[iI 1,iI 2,sE,iI 0,nS],_,rfl,rfl,(RDExpr.intro (by decide) (RSl.nil _ _ _ _ _ _)),(reps0 (R:=(RDExpr j)) (size:=5))⟩ rfl (Nat.le_of_ble_eq_true rfl) (fun hs=>(fun _ _ h=>RDExpr.mono hs h))
 obtain ⟨q,r,e,s⟩:=frzI (i:=4) (bytes:=64) (xs:=([(.mk 4 0 ⟨#[120]⟩ 0 [])]:LE)) (R:=fun K=>(RDExpr K)) o rfl hle ⟨[iI 4,iI 0,.string ⟨#[120]⟩,iI 0,nS],_,rfl,rfl,(RDExpr.intro (by decide) (RSl.nil _ _ _ _ _ _)),(reps0 (R:=(RDExpr n)) (size:=5))⟩ rfl (Nat.le_of_ble_eq_true rfl) (fun hs=>(fun _ _ h=>RDExpr.mono hs h))
 obtain ⟨t,u,a,v⟩:=frzI (i:=3) (bytes:=64) (xs:=([(.mk 2 1 ⟨#[]⟩ 0 [])]:LE)) (R:=fun K=>(RDExpr K)) r rfl hle ⟨[iI 2,iI 1,sE,iI 0,nS],_,rfl,rfl,(RDExpr.intro (by decide) (RSl.nil _ _ _ _ _ _)),(reps0 (R:=(RDExpr q)) (size:=5))⟩ rfl (Nat.le_of_ble_eq_true rfl) (fun hs=>(fun _ _ h=>RDExpr.mono hs h))
 obtain ⟨x,y,b,z⟩:=frzI (i:=2) (bytes:=184) (xs:=([(.mk 1 nm 0 ⟨#[]⟩ 0 0 [(.mk 4 0 ⟨#[120]⟩ 0 [])] [] [] [] [])]:LS)) (R:=fun K=>(RDStmt K)) u rfl hle ⟨[iI 1,.string nm,iI 0,sE,iI 0,iI 0,.slice (some ⟨bN,0,none⟩) 1 1,nS,nS,nS,nS],_,rfl,rfl,(RDStmt.intro hn (by decide) (me s a) (RSl.nil _ _ _ _ _ _) (RSl.nil _ _ _ _ _ _) (RSl.nil _ _ _ _ _ _) (RSl.nil _ _ _ _ _ _)),(reps0 (R:=(RDStmt t)) (size:=11))⟩ rfl (Nat.le_of_ble_eq_true rfl) (fun hs=>(fun _ _ h=>RDStmt.mono hs h))
 obtain ⟨A,B,C,D⟩:=frzI (i:=1) (bytes:=184) (xs:=([(.mk 1 ⟨#[120]⟩ 0 ⟨#[]⟩ 0 0 [(.mk 1 1 ⟨#[]⟩ 0 [])] [] [] [] []),(.mk 20 ⟨#[]⟩ 0 ⟨#[]⟩ 0 0 [(.mk 2 1 ⟨#[]⟩ 0 [])] [(.mk 1 nm 0 ⟨#[]⟩ 0 0 [(.mk 4 0 ⟨#[120]⟩ 0 [])] [] [] [] [])] [] [] []),(.mk 1 ⟨#[121]⟩ 0 ⟨#[]⟩ 0 0 [(.mk 1 2 ⟨#[]⟩ 0 [])] [] [] [] [])]:LS)) (R:=fun K=>(RDStmt K)) y rfl hle ⟨[iI 1,.string ⟨#[120]⟩,iI 0,sE,iI 0,iI 0,.slice (some ⟨d,0,none⟩) 1 1,nS,nS,nS,nS],_,rfl,rfl,(RDStmt.intro (by decide) (by decide) (me m (((f.trans e).trans a).trans b)) (RSl.nil _ _ _ _ _ _) (RSl.nil _ _ _ _ _ _) (RSl.nil _ _ _ _ _ _) (RSl.nil _ _ _ _ _ _)),⟨[iI 20,sE,iI 0,sE,iI 0,iI 0,.slice (some ⟨bC,0,none⟩) 1 1,.slice (some ⟨bI,0,none⟩) 1 1,nS,nS,nS],_,rfl,rfl,(RDStmt.intro (by decide) (by decide) (me v b) z (RSl.nil _ _ _ _ _ _) (RSl.nil _ _ _ _ _ _) (RSl.nil _ _ _ _ _ _)),⟨[iI 1,.string ⟨#[121]⟩,iI 0,sE,iI 0,iI 0,.slice (some ⟨c,0,none⟩) 1 1,nS,nS,nS,nS],_,rfl,rfl,(RDStmt.intro (by decide) (by decide) (me p ((e.trans a).trans b)) (RSl.nil _ _ _ _ _ _) (RSl.nil _ _ _ _ _ _) (RSl.nil _ _ _ _ _ _) (RSl.nil _ _ _ _ _ _)),(reps0 (R:=(RDStmt x)) (size:=11))⟩⟩⟩ rfl (Nat.le_of_ble_eq_true rfl) (fun hs=>(fun _ _ h=>RDStmt.mono hs h))
 obtain ⟨G,I,J,N⟩:=frzI (i:=0) (bytes:=88) (xs:=([.mk ⟨#[109,97,105,110]⟩ [] 0 false 0 [(.mk 1 ⟨#[120]⟩ 0 ⟨#[]⟩ 0 0 [(.mk 1 1 ⟨#[]⟩ 0 [])] [] [] [] []),(.mk 20 ⟨#[]⟩ 0 ⟨#[]⟩ 0 0 [(.mk 2 1 ⟨#[]⟩ 0 [])] [(.mk 1 nm 0 ⟨#[]⟩ 0 0 [(.mk 4 0 ⟨#[120]⟩ 0 [])] [] [] [] [])] [] [] []),(.mk 1 ⟨#[121]⟩ 0 ⟨#[]⟩ 0 0 [(.mk 1 2 ⟨#[]⟩ 0 [])] [] [] [] [])]]:LF)) (R:=fun K=>(RDFunc K)) B rfl hle ⟨[.string ⟨#[109,97,105,110]⟩,nS,iI 0,vN,iI 0,.slice (some ⟨bB,0,none⟩) 3 3],_,rfl,rfl,(RDFunc.intro (by decide) (RSl.nil _ _ _ _ _ _) D),(reps0 (R:=(RDFunc A)) (size:=6))⟩ rfl (Nat.le_of_ble_eq_true rfl) (fun hs=>(fun _ _ h=>RDFunc.mono hs h))
 exact ⟨G,I,(((((l.trans f).trans e).trans a).trans b).trans C).trans J,RDProgram.intro N⟩
theorem sample_shut {K0 K:KH} {wi w:World} {M:Nat→Prop} {H:Ents} {nm:ByteArray} {bF bB bI bC bN a b:Nat} (hn:nm.size ≤ mB) (c:Sx K0 K wi w M (.box (zz wi) bF #[.string ⟨#[109,97,105,110]⟩,.slice none 0 0,.int .i64 0,.bool false,.int .i64 0,.slice (some ⟨bB,0,none⟩) 3 3] 34 :: .box (zz wi) bB #[.int .i64 1,.string ⟨#[120]⟩,.int .i64 0,.string ⟨#[]⟩,.int .i64 0,.int .i64 0,.slice (some ⟨b,0,none⟩) 1 1,.slice none 0 0,.slice none 0 0,.slice none 0 0,.slice none 0 0,.int .i64 20,.string ⟨#[]⟩,.int .i64 0,.string ⟨#[]⟩,.int .i64 0,.int .i64 0,.slice (some ⟨bC,0,none⟩) 1 1,.slice (some ⟨bI,0,none⟩) 1 1,.slice none 0 0,.slice none 0 0,.slice none 0 0,.int .i64 1,.string ⟨#[121]⟩,.int .i64 0,.string ⟨#[]⟩,.int .i64 0,.int .i64 0,.slice (some ⟨a,0,none⟩) 1 1,.slice none 0 0,.slice none 0 0,.slice none 0 0,.slice none 0 0] 47 :: .box (zz wi) bI #[.int .i64 1,.string nm,.int .i64 0,.string ⟨#[]⟩,.int .i64 0,.int .i64 0,.slice (some ⟨bN,0,none⟩) 1 1,.slice none 0 0,.slice none 0 0,.slice none 0 0,.slice none 0 0] 47 :: .box (zz wi) bC #[.int .i64 2,.int .i64 1,.string ⟨#[]⟩,.int .i64 0,.slice none 0 0] 61 :: .box (zz wi) bN #[.int .i64 4,.int .i64 0,.string ⟨#[120]⟩,.int .i64 0,.slice none 0 0] 61 :: .box (zz wi) a #[.int .i64 1,.int .i64 2,.string ⟨#[]⟩,.int .i64 0,.slice none 0 0] 61 :: .box (zz wi) b #[.int .i64 1,.int .i64 1,.string ⟨#[]⟩,.int .i64 0,.slice none 0 0] 61 :: H)) :
 ∃ K',Sx K0 K' wi w M H∧K.sub K'∧RDProgram K' (sampleP nm) [.slice (some ⟨bF,0,none⟩) 1 1]:=sample_shut' hn (Nat.le_refl _) c
theorem f6_body (k:Nat) (h15:f7_spec (f7 k)):f6_spec (f6 k):=by
 unfold f6_spec
 intro K wi ad h hG y
 unfold f6 at h
 obtain ⟨⟨q,e⟩,B,h⟩:=ob h
 obtain ⟨⟨q',e'⟩,C,h⟩:=ob h
 dsimp only at h
 rcases hc:(chk6 q && e == 0 && e' == 21) with _ | _
 ·rw [hc] at h; cases h
 rw [hc] at h
 obtain rfl:=Option.some.inj h
 simp only [Bool.and_eq_true,beq_iff_eq] at hc
 obtain ⟨⟨hc,rfl⟩,rfl⟩:=hc
 obtain ⟨n,ps,r,fl,a,o1,n1,sl1,f1,ix1,fg1,ar1,ae,af,f2,ix2,fg2,ar2,bo2,ot2,la2,ag,ot1,la1,ah,ai,aj,f3,ix3,fg3,ar3,bo3,ot3,la3,ak,rfl⟩:=chk6_shape hc
 refine enter Tryd.func6 rfl (n:=99) rfl ?_
 refine wp_seq ?_
 refine wp_region_lit ?_
 refine asg (v:=vN) rfl ?_
 refine wpList_nil ?_
 refine thenN ?_
 refine wp_seq ?_
 refine wp_region_lit ?_
 refine clV (caps:=#[]) (vs:=[]) rfl (by kernel_rfl) rfl (sample_ok (y.part [] (List.nil_sublist _))) ?_
 rintro _ al ⟨bF,bB,bI,bC,bN,am,an,rfl,D⟩
 obtain ⟨ao,o,p,hp⟩:=sample_shut (by decide) D
 refine clV (caps:=#[]) (vs:=[.agg #[.slice (some ⟨bF,0,none⟩) 1 1]]) rfl (by kernel_rfl) rfl (h15 B (hG.mono p) hp (o.part [] (List.nil_sublist _))) ?_
 rintro _ G ⟨ap,csq,rfl,t,hq⟩
 have I:=Sx.call (H1:=[]) o t
 obtain ⟨A,c,rfl,hrow⟩:=RDProgram.open hq
 refine mv (v:=.tuple #[.agg #[.slice A 1 c],iI 0]) rfl ?_
 refine ext (v:=.agg #[.slice A 1 c]) rfl rfl ?_
 refine ext (v:=iI 0) rfl rfl ?_
 refine alcC (z:=.agg #[nS]) (cs:=#[nS]) I (by kernel_rfl) rfl ?_
 intro aq J
 refine stoI (i:=0) (v:=.agg #[.slice A 1 c]) (cs':=#[.slice A 1 c]) J rfl (show SizeB Tryd.prog 24=some 1 by kernel_rfl) rfl rfl rfl rfl (Nat.le_of_ble_eq_true rfl) rfl ?_
 intro ar g
 refine asg (v:=iI 0) rfl ?_
 refine wpList_nil ?_
 refine thenN ?_
 obtain ⟨bf,of,csf,rfl,hlf,hCf,hRf⟩:=hrow.row.at_ (i:=0) rfl
 obtain ⟨au,c1,av,j,rfl,aw,hf1,hf2⟩:=RDFunc.open hRf
 obtain ⟨bb,ob,csb,rfl,hlb,hCb,hRb⟩:=hf2.row.at_ (i:=1) rfl
 obtain ⟨_,_,ax,u,_,_,_,_,_,_,rfl,_,_,_,N,_,_,_⟩:=RDStmt.open hRb
 obtain ⟨bb',ob',csb',hbe,hlb',hCb',hRb'⟩:=hf2.row.at_ (i:=2) rfl
 obtain ⟨rfl,rfl⟩:bb=bb'∧ob=ob':=by injection hbe with h; injection h with h1 h2; exact ⟨h1,h2⟩
 obtain ⟨_,_,_,_,_,_,_,_,_,_,rfl,_⟩:=RDStmt.open hRb'
 obtain ⟨bi,oi,csi,rfl,hli,hCi,hRi⟩:=N.row.at_ (i:=0) rfl
 obtain ⟨_,_,_,_,_,_,_,_,_,_,rfl,_⟩:=RDStmt.open hRi
 refine wp_seq ?_
 refine wp_seq ?_
 refine wp_region_lit ?_
 refine mv (v:=iI 0) rfl ?_
 refine bcm (r:=false) rfl rfl rfl ?_
 refine mv (v:=vN) rfl ?_
 refine st_on (d:=13) rfl rfl ?_
 refine fld (s:=24) (f:=0) (off:=0) (o':=0) (by kernel_rfl) rfl rfl ?_
 refine st_on (d:=13) rfl rfl ?_
 refine lb1 (i:=0) (v:=.slice (some ⟨bf,of,none⟩) 1 c) g rfl (by kernel_rfl) rfl rfl ?_
 refine st_on (d:=13) rfl rfl ?_
 refine lnS (len:=1) (e:=34) (by kernel_rfl) rfl ?_
 refine st_on (d:=13) rfl rfl ?_
 refine bcm (r:=false) rfl rfl rfl ?_
 refine pick (b:=false) (v:=vN) rfl rfl ?_
 refine mv (v:=vN) rfl ?_
 refine st_on (d:=19) rfl rfl ?_
 refine fld (s:=24) (f:=0) (off:=0) (o':=0) (by kernel_rfl) rfl rfl ?_
 refine st_on (d:=19) rfl rfl ?_
 refine lb1 (i:=0) (v:=.slice (some ⟨bf,of,none⟩) 1 c) g rfl (by kernel_rfl) rfl rfl ?_
 refine st_on (d:=19) rfl rfl ?_
 refine idx (s:=22) (e:=34) (size:=6) (i:=0) (by kernel_rfl) (by kernel_rfl) rfl rfl (by decide) (by decide) ?_
 refine st_on (d:=19) rfl rfl ?_
 refine fld (s:=34) (f:=5) (off:=5) (o':=of + (0:Int).toNat * 6 + 5) (by kernel_rfl) rfl rfl ?_
 refine st_on (d:=19) rfl rfl ?_
 refine ld1 (v:=.slice (some ⟨bb,ob,none⟩) 3 j) (by kernel_rfl) rfl (g.cell (hCf 5 _ rfl)) ?_
 refine st_on (d:=19) rfl rfl ?_
 refine lnS (len:=3) (e:=47) (by kernel_rfl) rfl ?_
 refine st_on (d:=19) rfl rfl ?_
 refine bcm (r:=false) rfl rfl rfl ?_
 refine pick (b:=false) (v:=vN) rfl rfl ?_
 refine mv (v:=vN) rfl ?_
 refine st_on (d:=28) rfl rfl ?_
 refine fld (s:=24) (f:=0) (off:=0) (o':=0) (by kernel_rfl) rfl rfl ?_
 refine st_on (d:=28) rfl rfl ?_
 refine lb1 (i:=0) (v:=.slice (some ⟨bf,of,none⟩) 1 c) g rfl (by kernel_rfl) rfl rfl ?_
 refine st_on (d:=28) rfl rfl ?_
 refine idx (s:=22) (e:=34) (size:=6) (i:=0) (by kernel_rfl) (by kernel_rfl) rfl rfl (by decide) (by decide) ?_
 refine st_on (d:=28) rfl rfl ?_
 refine fld (s:=34) (f:=4) (off:=4) (o':=of + (0:Int).toNat * 6 + 4) (by kernel_rfl) rfl rfl ?_
 refine st_on (d:=28) rfl rfl ?_
 refine ld1 (v:=iI 3) (by kernel_rfl) rfl (g.cell (hCf 4 _ rfl)) ?_
 refine st_on (d:=28) rfl rfl ?_
 refine bcm (r:=false) rfl rfl rfl ?_
 refine pick (b:=false) (v:=vN) rfl rfl ?_
 refine mv (v:=vN) rfl ?_
 refine st_on (d:=36) rfl rfl ?_
 refine fld (s:=24) (f:=0) (off:=0) (o':=0) (by kernel_rfl) rfl rfl ?_
 refine st_on (d:=36) rfl rfl ?_
 refine lb1 (i:=0) (v:=.slice (some ⟨bf,of,none⟩) 1 c) g rfl (by kernel_rfl) rfl rfl ?_
 refine st_on (d:=36) rfl rfl ?_
 refine idx (s:=22) (e:=34) (size:=6) (i:=0) (by kernel_rfl) (by kernel_rfl) rfl rfl (by decide) (by decide) ?_
 refine st_on (d:=36) rfl rfl ?_
 refine fld (s:=34) (f:=5) (off:=5) (o':=of + (0:Int).toNat * 6 + 5) (by kernel_rfl) rfl rfl ?_
 refine st_on (d:=36) rfl rfl ?_
 refine ld1 (v:=.slice (some ⟨bb,ob,none⟩) 3 j) (by kernel_rfl) rfl (g.cell (hCf 5 _ rfl)) ?_
 refine st_on (d:=36) rfl rfl ?_
 refine idx (s:=32) (e:=47) (size:=11) (i:=2) (by kernel_rfl) (by kernel_rfl) rfl rfl (by decide) (by decide) ?_
 refine st_on (d:=36) rfl rfl ?_
 refine fld (s:=47) (f:=2) (off:=2) (o':=ob + (2:Int).toNat * 11 + 2) (by kernel_rfl) rfl rfl ?_
 refine st_on (d:=36) rfl rfl ?_
 refine ld1 (v:=iI 2) (by kernel_rfl) rfl (g.cell (hCb' 2 _ rfl)) ?_
 refine st_on (d:=36) rfl rfl ?_
 refine bcm (r:=false) rfl rfl rfl ?_
 refine pick (b:=false) (v:=vN) rfl rfl ?_
 refine mv (v:=vN) rfl ?_
 refine st_on (d:=47) rfl rfl ?_
 refine fld (s:=24) (f:=0) (off:=0) (o':=0) (by kernel_rfl) rfl rfl ?_
 refine st_on (d:=47) rfl rfl ?_
 refine lb1 (i:=0) (v:=.slice (some ⟨bf,of,none⟩) 1 c) g rfl (by kernel_rfl) rfl rfl ?_
 refine st_on (d:=47) rfl rfl ?_
 refine idx (s:=22) (e:=34) (size:=6) (i:=0) (by kernel_rfl) (by kernel_rfl) rfl rfl (by decide) (by decide) ?_
 refine st_on (d:=47) rfl rfl ?_
 refine fld (s:=34) (f:=5) (off:=5) (o':=of + (0:Int).toNat * 6 + 5) (by kernel_rfl) rfl rfl ?_
 refine st_on (d:=47) rfl rfl ?_
 refine ld1 (v:=.slice (some ⟨bb,ob,none⟩) 3 j) (by kernel_rfl) rfl (g.cell (hCf 5 _ rfl)) ?_
 refine st_on (d:=47) rfl rfl ?_
 refine idx (s:=32) (e:=47) (size:=11) (i:=1) (by kernel_rfl) (by kernel_rfl) rfl rfl (by decide) (by decide) ?_
 refine st_on (d:=47) rfl rfl ?_
 refine fld (s:=47) (f:=7) (off:=7) (o':=ob + (1:Int).toNat * 11 + 7) (by kernel_rfl) rfl rfl ?_
 refine st_on (d:=47) rfl rfl ?_
 refine ld1 (v:=.slice (some ⟨bi,oi,none⟩) 1 u) (by kernel_rfl) rfl (g.cell (hCb 7 _ rfl)) ?_
 refine st_on (d:=47) rfl rfl ?_
 refine lnS (len:=1) (e:=47) (by kernel_rfl) rfl ?_
 refine st_on (d:=47) rfl rfl ?_
 refine bcm (r:=false) rfl rfl rfl ?_
 refine pick (b:=false) (v:=vN) rfl rfl ?_
 refine mv (v:=vN) rfl ?_
 refine st_on (d:=59) rfl rfl ?_
 refine fld (s:=24) (f:=0) (off:=0) (o':=0) (by kernel_rfl) rfl rfl ?_
 refine st_on (d:=59) rfl rfl ?_
 refine lb1 (i:=0) (v:=.slice (some ⟨bf,of,none⟩) 1 c) g rfl (by kernel_rfl) rfl rfl ?_
 refine st_on (d:=59) rfl rfl ?_
 refine idx (s:=22) (e:=34) (size:=6) (i:=0) (by kernel_rfl) (by kernel_rfl) rfl rfl (by decide) (by decide) ?_
 refine st_on (d:=59) rfl rfl ?_
 refine fld (s:=34) (f:=5) (off:=5) (o':=of + (0:Int).toNat * 6 + 5) (by kernel_rfl) rfl rfl ?_
 refine st_on (d:=59) rfl rfl ?_
 refine ld1 (v:=.slice (some ⟨bb,ob,none⟩) 3 j) (by kernel_rfl) rfl (g.cell (hCf 5 _ rfl)) ?_
 refine st_on (d:=59) rfl rfl ?_
 refine idx (s:=32) (e:=47) (size:=11) (i:=1) (by kernel_rfl) (by kernel_rfl) rfl rfl (by decide) (by decide) ?_
 refine st_on (d:=59) rfl rfl ?_
 refine fld (s:=47) (f:=7) (off:=7) (o':=ob + (1:Int).toNat * 11 + 7) (by kernel_rfl) rfl rfl ?_
 refine st_on (d:=59) rfl rfl ?_
 refine ld1 (v:=.slice (some ⟨bi,oi,none⟩) 1 u) (by kernel_rfl) rfl (g.cell (hCb 7 _ rfl)) ?_
 refine st_on (d:=59) rfl rfl ?_
 refine idx (s:=32) (e:=47) (size:=11) (i:=0) (by kernel_rfl) (by kernel_rfl) rfl rfl (by decide) (by decide) ?_
 refine st_on (d:=59) rfl rfl ?_
 refine fld (s:=47) (f:=2) (off:=2) (o':=oi + (0:Int).toNat * 11 + 2) (by kernel_rfl) rfl rfl ?_
 refine st_on (d:=59) rfl rfl ?_
 refine ld1 (v:=iI 1) (by kernel_rfl) rfl (g.cell (hCi 2 _ rfl)) ?_
 refine st_on (d:=59) rfl rfl ?_
 refine bcm (r:=false) rfl rfl rfl ?_
 refine pick (b:=false) (v:=vN) rfl rfl ?_
 refine wpList_nil ?_
 refine thenN ?_
 refine cndF rfl ?_
 refine wp_skip ?_
 refine thenN ?_
 refine wp_seq ?_
 refine wp_region_lit ?_
 refine clV (caps:=#[]) (vs:=[]) rfl (by kernel_rfl) rfl (sample_ok (g.part [] (List.nil_sublist _))) ?_
 rintro _ O ⟨cF,cB,cI,cC,cN,d2,d1,rfl,S⟩
 have U:=Sx.call (H1:=[]) g S
 refine alcC (z:=.agg #[nS]) (cs:=#[nS]) U (by kernel_rfl) rfl ?_
 intro ay V
 refine stoI (i:=0) (v:=.agg #[.slice (some ⟨cF,0,none⟩) 1 1]) (cs':=#[.slice (some ⟨cF,0,none⟩) 1 1]) V rfl (show SizeB Tryd.prog 24=some 1 by kernel_rfl) rfl rfl rfl rfl (Nat.le_of_ble_eq_true rfl) rfl ?_
 intro az m
 refine wpList_nil ?_
 refine thenN ?_
 refine wp_seq ?_
 refine wp_region_lit ?_
 refine fld (s:=24) (f:=0) (off:=0) (o':=0) (by kernel_rfl) rfl rfl ?_
 refine lb1 (i:=0) (v:=.slice (some ⟨cF,0,none⟩) 1 1) m rfl (by kernel_rfl) rfl rfl ?_
 refine idx (s:=22) (e:=34) (size:=6) (i:=0) (by kernel_rfl) (by kernel_rfl) rfl rfl (by decide) (by decide) ?_
 refine fld (s:=34) (f:=5) (off:=5) (o':=5) (by kernel_rfl) rfl rfl ?_
 refine lb1 (i:=1) (v:=.slice (some ⟨cB,0,none⟩) 3 3) m rfl (by kernel_rfl) rfl rfl ?_
 refine idx (s:=32) (e:=47) (size:=11) (i:=1) (by kernel_rfl) (by kernel_rfl) rfl rfl (by decide) (by decide) ?_
 refine fld (s:=47) (f:=7) (off:=7) (o':=18) (by kernel_rfl) rfl rfl ?_
 refine lb1 (i:=2) (v:=.slice (some ⟨cI,0,none⟩) 1 1) m rfl (by kernel_rfl) rfl rfl ?_
 refine idx (s:=32) (e:=47) (size:=11) (i:=0) (by kernel_rfl) (by kernel_rfl) rfl rfl (by decide) (by decide) ?_
 refine fld (s:=47) (f:=1) (off:=1) (o':=1) (by kernel_rfl) rfl rfl ?_
 refine stoI (i:=3) (v:=.string ⟨#[120]⟩) (cs':=#[iI 1,.string ⟨#[120]⟩,iI 0,sE,iI 0,iI 0,.slice (some ⟨cN,0,none⟩) 1 1,nS,nS,nS,nS]) m rfl (show SizeB Tryd.prog 9=some 1 by kernel_rfl) rfl rfl rfl rfl (Nat.le_of_ble_eq_true rfl) rfl ?_
 intro aA w
 refine wpList_nil ?_
 refine thenN ?_
 refine wp_seq ?_
 refine wp_region_lit ?_
 refine lbN (i:=0) (l:=[.slice (some ⟨cF,0,none⟩) 1 1]) w rfl (by kernel_rfl) (show SizeB Tryd.prog 24=some 1 by kernel_rfl) rfl rfl rfl ?_
 obtain ⟨aB,x,W,hp10⟩:=sample_shut' (H:=[.box (zz wi) (zz O) #[.slice (some ⟨cF,0,none⟩) 1 1] 24,.box (zz wi) (zz G) #[.slice (some ⟨bf,of,none⟩) 1 c] 24]) (by decide) g.size (w.sel [1,2,3,4,5,6,7,0,8])
 refine clV (caps:=#[]) (vs:=[.agg #[.slice (some ⟨cF,0,none⟩) 1 1]]) rfl (by kernel_rfl) rfl (h15 C (hG.mono ((p.trans t.sub).trans W)) hp10 (x.part [] (List.nil_sublist _))) ?_
 rintro _ aE ⟨X,csq',rfl,Y,hq'⟩
 have Z:=Sx.call (H1:=[]) x Y
 obtain ⟨fq⟩:=q'
 obtain ⟨A',c',rfl,hrow'⟩:=RDProgram.open hq'
 refine mv (v:=.tuple #[.agg #[sl A' fq c'],iI 21]) rfl ?_
 refine ext (v:=.agg #[sl A' fq c']) rfl rfl ?_
 refine ext (v:=iI 21) rfl rfl ?_
 refine alcC (z:=.agg #[nS]) (cs:=#[nS]) Z (by kernel_rfl) rfl ?_
 intro aF ab
 refine stoI (i:=0) (v:=.agg #[sl A' fq c']) (cs':=#[sl A' fq c']) ab rfl (show SizeB Tryd.prog 24=some 1 by kernel_rfl) rfl rfl rfl rfl (Nat.le_of_ble_eq_true rfl) rfl ?_
 intro aG ac
 refine asg (v:=iI 21) rfl ?_
 refine wpList_nil ?_
 refine thenN ?_
 refine wp_seq ?_
 refine wp_seq ?_
 refine wp_region_lit ?_
 refine mv (v:=iI 21) rfl ?_
 refine bcm (r:=false) rfl rfl rfl ?_
 refine mv (v:=vN) rfl ?_
 refine pick (b:=false) (v:=vN) rfl rfl ?_
 refine mv (v:=vN) rfl ?_
 refine pick (b:=false) (v:=vN) rfl rfl ?_
 refine mv (v:=vN) rfl ?_
 refine pick (b:=false) (v:=vN) rfl rfl ?_
 refine mv (v:=vN) rfl ?_
 refine pick (b:=false) (v:=vN) rfl rfl ?_
 refine wpList_nil ?_
 refine thenN ?_
 refine cndF rfl ?_
 refine wp_skip ?_
 refine thenN ?_
 refine wp_seq ?_
 refine wp_region_lit ?_
 refine asg (v:=vT) rfl ?_
 refine wpList_nil ?_
 refine thenN ?_
 refine wp_ret ?_
 exact retA1 rfl (resT rfl) ⟨X,rfl,ac.sel []⟩
theorem f6_ok (k:Nat):f6_spec (f6 k):=f6_body k (f7_ok k)
theorem f4_b_ok (k:Nat):f4_spec (f4_b k):=by
 unfold f4_spec
 intro K wi a7 bS bT h hG a8 a9
 obtain ⟨r_,hr_,h⟩:=rz h
 obtain ⟨ap⟩:=a7
 obtain ⟨aq,c1,rfl,aS⟩:=RDProgram.open a8
 refine enter Tryd.func4 rfl (n:=115) rfl ?_
 unfold f4_b at h
 refine sr (bxoC (cs:=#[sl aq ap c1]) a9 rfl rfl (fun bU aE=>(m2 vN (wt (wp_seq (sr (lN 0 ([sl aq ap c1]) aE Tya24 Tys24 ?_)))))))
 obtain ⟨ba,bb,h⟩:=ob h
 refine cv ([.agg #[sl aq ap c1]]) Tyb5 ((f5_ok k) bb (hG.mono kr) (RDProgram.intro aS) (pt aE)) ?_
 rintro _ bV ⟨bW,rfl,Y⟩
 have ar:=ca Y aE
 refine uN ba (wt (cd h (fun aF h=>?_) (fun aF h=>?_)))
 ·refine cT aF (sr ?_)
  obtain ⟨bd,be,h⟩:=ob h
  refine cv ([]) Tyb6 ((f6_ok k) be (hG.mono Y.sub) (pt ar)) ?_
  rintro _ bX ⟨bf,rfl,bg⟩
  have bh:=ca bg ar
  refine m2 (.bool bd) (wt (wp_ret (thenR ?_)))
  cases (oi h).trans hr_
  exact retA1 rfl (resT rfl) ⟨bf,rfl,(bh.sel [])⟩
 ·refine cF aF (wp_skip (thenN (sr (lN 0 ([sl aq ap c1]) ar Tya24 Tys24 ?_))))
  obtain ⟨⟨⟨d⟩,au⟩,bi,h⟩:=ob h
  refine cv ([.agg #[sl aq ap c1]]) Tyb7 ((f7_ok k) bi (hG.mono Y.sub) (RDProgram.intro (mf aS Y.sub)) (pt ar)) ?_
  rintro _ B ⟨aT,bY,rfl,av,bj⟩
  have bk:=ca av ar
  obtain ⟨s,t,rfl,aG⟩:=RDProgram.open bj
  refine m1 (.tuple #[.agg #[sl s d t],iI au]) (ext (v:=.agg #[sl s d t]) rfl rfl (ext (v:=iI au) rfl rfl (aC #[nS] bk Tyz24 (fun bZ bm=>(sI 0 (.agg #[sl s d t]) #[sl s d t] bm Tys24 rfl rfl (fun b0 aH=>(m2 (iI au) (wt (wp_seq (sr (m1 (iI au) (c0 (au != 0) (wt (cd h (fun aI h=>?_) (fun aI h=>?_)))))))))))))))
  ·refine cT aI (sr ?_)
   obtain ⟨bn,bo,h⟩:=ob h
   refine cv ([]) Tyb6 ((f6_ok k) bo (hG.mono (Y.sub.trans av.sub)) (pt aH)) ?_
   rintro _ w64 ⟨bp,rfl,bq⟩
   have br:=ca bq aH
   refine m2 (.bool bn) (wt (wp_ret (thenR ?_)))
   cases (oi h).trans hr_
   exact retA1 rfl (resT rfl) ⟨bp,rfl,(br.sel [])⟩
  ·refine cF aI (wp_skip (thenN (wp_seq (sr (m2 (iI 0) (wt (wp_block (wp_loopG (fun g_ a w=>∃ aU aJ C,∃ (l:Nat),g_=C.length∧a=fr 115 (updL aU [(3,pp (zz B) 0),(5,iI (l:Int))])∧KH.sub aT aJ∧SR K aJ wi w [] [.box (zz wi) (zz B) #[sl s d t] 24]∧d.drop l=C∧f4_l1 k d C l=some r_) d.length ?_ ?_))))))))
   ·exact ⟨_,aT,d,0,rfl,fR,kr,(aH.sel [0]),List.drop_zero,h⟩
   ·rintro _ _ D ⟨aU,aJ,C,l,rfl,rfl,ad,ae,aj,h⟩
    rcases C with _ | ⟨⟨Z,c,ab,ac,e,G⟩,C⟩
    ·unfold f4_l1 at h
     refine wp_seq (sr (m1 (iI (l:Int)) (fd 0 Tyf24_0 rfl (l1 0 (sl s d t) ae Tya22 (lS d.length Tye22 (bcm (r:=false) rfl rfl (congrArg some (drop_nil_lt aj)) (wt (cndF rfl (wp_exit (thenX (thenX (blkX (thenN (sr ?_))))))))))))))
     obtain ⟨bs,bu,h⟩:=ob h
     refine cv ([]) Tyb6 ((f6_ok k) bu (hG.mono ((Y.sub.trans av.sub).trans ad)) (pt ae)) ?_
     rintro _ b1 ⟨bv,rfl,bw⟩
     have bx:=ca bw ae
     refine m2 (.bool bs) (wt (wp_ret ?_))
     cases (oi h).trans hr_
     exact retA1 rfl (resT rfl) ⟨bv,rfl,(bx.sel [])⟩
    ·unfold f4_l1 at h
     refine wp_seq (sr (m1 (iI (l:Int)) (fd 0 Tyf24_0 rfl (l1 0 (sl s d t) ae Tya22 (lS d.length Tye22 (bcm (r:=true) rfl rfl (congrArg some (drop_cons_t aj)) (wt (cndT rfl (wp_skip (thenN (wp_seq (wp_block (sr (fd 0 Tyf24_0 rfl (l1 0 (sl s d t) ae Tya22 (m1 (iI (l:Int)) ?_))))))))))))))))
     obtain ⟨bz,bA,b2,bB,b3,bC,bD⟩:=((mf aG ad)).row.at_ (drop_cons_at aj)
     obtain ⟨u,x,I,J,rfl,b4,aV,bE⟩:=RDFunc.open bD
     refine idxN (b:=bz) (o:=bA) (i:=l) Tye22 Tys34 rfl bB rfl (drop_cons_lt aj) (lD (vF Z u c x ab ac e I G J) Tya34 Tys34 rfl (fun j v hj=>ae.cell (kr.cell (bC j v hj))) (aC zF.toArray ae Tyz34 (fun b5 bF=>(sI 0 (.agg (vF Z u c x ab ac e I G J).toArray) ((vF Z u c x ab ac e I G J).toArray) bF Tys34 rfl rfl (fun b6 aw=>(wt (sr (fd 5 Tyf34_5 rfl (l1 0 (sl I G J) aw Tya32 (fd 4 Tyf34_4 rfl (l1 0 (iI e) aw Tya3 ?_)))))))))))
     obtain ⟨⟨f,ak⟩,bG,h⟩:=ob h
     refine cv ([sl I G J,iI e]) Tyb10 ((f10_ok k) bG (hG.mono ((Y.sub.trans av.sub).trans ad)) bE (pt aw)) ?_
     rintro _ b7 ⟨b8,N,O,rfl,al,aW⟩
     have aK:=ca al aw
     refine m1 (.tuple #[sl N f O,.bool ak]) (ext (v:=sl N f O) rfl rfl (ext (v:=.bool ak) rfl rfl (m2 (sl N f O) (m2 (.bool ak) (wt (sr (lN 1 ([sl s d t]) aK Tya24 Tys24 (m1 (iI (l:Int)) ?_))))))))
     obtain ⟨⟨q,af⟩,bH,h⟩:=ob h
     refine cv ([.agg #[sl s d t],iI (l:Int)]) Tyb11 ((f11_ok k) bH (hG.mono (((Y.sub.trans av.sub).trans ad).trans al.sub)) (RDProgram.intro (mf aG (ad.trans al.sub))) (pt aK)) ?_
     rintro _ b9 ⟨S,U,V,rfl,am,bI⟩
     have W:=ca am aK
     refine m1 (.tuple #[sl U q V,iI af]) (ext (v:=sl U q V) rfl rfl (ext (v:=iI af) rfl rfl (m2 (sl U q V) (m2 (iI af) (wt (wp_seq (wp_cut (fun a w=>∃ aX aL,a=fr 115 (updL aX [(3,pp (zz B) 0),(5,iI (l:Int)),(6,pp (zz D) 0),(7,sl N f O),(9,sl U q V),(79,.bool aL)])∧SR K S wi w [] [.box (zz wi) (zz B) #[sl s d t] 24,.box (zz wi) (zz D) (vF Z u c x ab ac e I G J).toArray 34]∧f4_j1 k l c f q aL (f4_l1 k d C)=some r_) ?_ ?_)))))))
     ·refine wp_region_lit (m1 (.bool ak) (uN ak (m1 (.bool (!ak)) (cd h (fun ag h=>?_) (fun ag h=>?_)))))
      ·exact o1 53 ag (o1 53 ag (m3 true vT (cg ag) (m1 vT (o0 57 (o0 57 (o0 57 (o0 57 (o0 57 (m3 true vT rfl (m1 vT (o0 64 (o0 64 (o0 64 (o0 64 (o0 64 (o0 64 (o0 64 (o0 64 (o0 64 (m3 true vT rfl (m1 vT (o0 75 (o0 75 (o0 75 (m3 true vT rfl (wt (⟨_,true,fR,(W.sel [1,0]),h⟩)))))))))))))))))))))))))))
      ·refine n1 53 ag (m1 (iI af) (n1 53 ag (c0 (af != 0) (m3 false (.bool (af != 0)) (cg ag) (m1 (.bool (af != 0)) (cd h (fun y h=>?_) (fun y h=>?_)))))))
       ·exact o1 57 y (o1 57 y (o1 57 y (o1 57 y (o1 57 y (m3 true vT (cg y) (m1 vT (o0 64 (o0 64 (o0 64 (o0 64 (o0 64 (o0 64 (o0 64 (o0 64 (o0 64 (m3 true vT rfl (m1 vT (o0 75 (o0 75 (o0 75 (m3 true vT rfl (wt (⟨_,true,fR,(W.sel [1,0]),h⟩)))))))))))))))))))))))
       ·refine n1 57 y (m1 (sl U q V) (n1 57 y (lS q.length Tye38 (n1 57 y (fd 4 Tyf34_4 rfl (n1 57 y (l1 0 (iI e) W Tya3 (n1 57 y (c0 ((q.length:Int) != e) (m3 false (.bool ((q.length:Int) != e)) (cg y) (m1 (.bool ((q.length:Int) != e)) (cd h (fun g h=>?_) (fun g h=>?_)))))))))))))
        ·exact o1 64 g (o1 64 g (o1 64 g (o1 64 g (o1 64 g (o1 64 g (o1 64 g (o1 64 g (o1 64 g (m3 true vT (cg g) (m1 vT (o0 75 (o0 75 (o0 75 (m3 true vT rfl (wt (⟨_,true,fR,(W.sel [1,0]),h⟩))))))))))))))))
        ·refine n1 64 g (fd 1 Tyf34_1 rfl (n1 64 g (l1 0 (sl u c x) W Tya31 (n1 64 g (lS c.length Tye31 (n1 64 g (m1 (sl N f O) (n1 64 g (lS f.length Tye35 (n1 64 g (bar (r:=(w64 ((c.length:Int) + (f.length:Int)))) rfl rfl rfl (n1 64 g (fd 4 Tyf34_4 rfl (n1 64 g (l1 0 (iI e) W Tya3 (n1 64 g (c0 ((w64 ((c.length:Int) + (f.length:Int))) != e) (m3 false (.bool ((w64 ((c.length:Int) + (f.length:Int))) != e)) (cg g) (m1 (.bool ((w64 ((c.length:Int) + (f.length:Int))) != e)) (cd h (fun X h=>?_) (fun X h=>?_)))))))))))))))))))))
         ·exact o1 75 X (o1 75 X (o1 75 X (m3 true vT (cg X) (wt (⟨_,true,fR,(W.sel [1,0]),h⟩)))))
         ·exact n1 75 X (fd 4 Tyf34_4 rfl (n1 75 X (l1 0 (iI e) W Tya3 (n1 75 X (c0 (decide (e > 32)) (m3 false (.bool (decide (e > 32))) (cg X) (wt (⟨_,(decide (e > 32)),fR,(W.sel [1,0]),h⟩))))))))
     ·rintro _ cb ⟨aX,aL,rfl,aY,h⟩
      unfold f4_j1 at h
      refine cd h (fun aM h=>?_) (fun aM h=>?_)
      ·refine cT aM (sr (m2 vN (wt (wp_ret (thenR (blkR (thenR (thenR (blkR (thenR ?_))))))))))
       cases (oi h).trans hr_
       exact retA1 rfl (resT rfl) ⟨S,rfl,(aY.sel [])⟩
      ·refine cF aM (wp_skip (thenN (wp_seq (sr (m2 (iI 0) (wt (wp_block (wp_loopG (fun g_ a w=>∃ aZ ah,∃ (m:Nat),g_=ah.length∧a=fr 115 (updL aZ [(3,pp (zz B) 0),(5,iI (l:Int)),(6,pp (zz D) 0),(7,sl N f O),(9,sl U q V),(11,iI (m:Int))])∧SR K S wi w [] [.box (zz wi) (zz B) #[sl s d t] 24,.box (zz wi) (zz D) (vF Z u c x ab ac e I G J).toArray 34]∧f.drop m=ah∧f4_l2 k l c q (f4_l1 k d C) ah m=some r_) f.length ?_ ?_))))))))
       ·exact ⟨_,f,0,rfl,fR,aY,List.drop_zero,h⟩
       ·rintro _ _ cc ⟨aZ,ah,m,rfl,rfl,a1,an,h⟩
        rcases ah with _ | ⟨ax,ah⟩
        ·unfold f4_l2 at h
         refine wp_seq (sr (m1 (iI (m:Int)) (m1 (sl N f O) (lS f.length Tye35 (bcm (r:=false) rfl rfl (congrArg some (drop_nil_lt an)) (wt (cndF rfl (wp_exit (thenX (thenX (blkX (thenN (sr (m2 (iI 0) (wt (wp_block (wp_loopG (fun g_ a w=>∃ a2 ai,∃ (p:Nat),g_=ai.length∧a=fr 115 (updL a2 [(3,pp (zz B) 0),(5,iI (l:Int)),(6,pp (zz D) 0),(9,sl U q V),(12,iI (p:Int))])∧SR K S wi w [] [.box (zz wi) (zz B) #[sl s d t] 24,.box (zz wi) (zz D) (vF Z u c x ab ac e I G J).toArray 34]∧c.drop p=ai∧f4_l3 k l q (f4_l1 k d C) ai p=some r_) c.length ?_ ?_)))))))))))))))))
         ·exact ⟨_,c,0,rfl,fR,a1,List.drop_zero,h⟩
         ·rintro _ _ ce ⟨a2,ai,p,rfl,rfl,ay,ao,h⟩
          rcases ai with _ | ⟨⟨az,cf⟩,ai⟩
          ·unfold f4_l3 at h
           exact wp_seq (sr (m1 (iI (p:Int)) (fd 1 Tyf34_1 rfl (l1 1 (sl u c x) ay Tya31 (lS c.length Tye31 (bcm (r:=false) rfl rfl (congrArg some (drop_nil_lt ao)) (wt (cndF rfl (wp_exit (thenX (thenX (blkX (blkN (thenN (wp_region_lit (m1 (iI (l:Int)) (bar (r:=((l + 1:Nat):Int)) rfl rfl (inc_ok (le_big (((mf aG ad)).len) (by decide) (drop_cons_lt aj))) (m2 (iI ((l + 1:Nat):Int)) (wt (⟨_,Nat.lt_succ_self _,_,S,C,l + 1,rfl,fR,((ad.trans al.sub).trans am.sub),(ay.sel [0]),drop_cons_next aj,h⟩))))))))))))))))))))
          ·unfold f4_l3 at h
           refine wp_seq (sr (m1 (iI (p:Int)) (fd 1 Tyf34_1 rfl (l1 1 (sl u c x) ay Tya31 (lS c.length Tye31 (bcm (r:=true) rfl rfl (congrArg some (drop_cons_t ao)) (wt (cndT rfl (wp_skip (thenN (wp_seq (wp_block (wp_seq (have z:=ay.drew;(regAny (E:=[]) (F:=FW S [.box (zz wi) (zz B) #[sl s d t] 24,.box (zz wi) (zz D) (vF Z u c x ab ac e I G J).toArray 34]) (L:=(lb 11 0)) ymx rfl rfl (tk 0 (sl U q V) (lb 11 1) rfl (fun w=>mv_r (v:=sl U q V) rfl) (heldF (fq [0,1] z)) (tk 1 (iI (p:Int)) (lb 11 3) rfl (fun w=>mv_r (v:=iI (p:Int)) rfl) (heldF (fq [0,1] z)) ?_)))))))))))))))))
           obtain ⟨aA,aN,h⟩:=ob h
           obtain ⟨a3,a4,ch,bJ,ci,bK,bL⟩:=(bI).row.at_ (idxO_at aN).1
           obtain ⟨rfl,cj⟩:=bL
           refine tk 2 (.pointer (some ⟨a3,a4 + (p:Int).toNat * 1,none⟩)) (lb 11 7) rfl (fun w=>idxG_r (b:=a3) (o:=a4) (i:=(p:Int)) Tye38 Tys9 rfl bJ rfl (idxO_at aN).2.1 (idxO_at aN).2.2) (heldF (fq [0,1] z)) (tf 3 (.string aA) ([]) (lb 11 15) rfl (fq [0,1] z) (fun w hF=>ld1_r (v:=.string aA) Tya9 rfl (hF.cell (kr.cell (bK 0 _ rfl)))) (tk 4 (pp (zz D) 1) (lb 11 31) rfl (fun w=>fld_r (o':=1) Tyf34_1 rfl rfl) (heldF (fq [0,1] z)) (tf 5 (sl u c x) ([]) (lb 11 63) rfl (fq [0,1] z) (fun w hF=>lb1_r (i:=1) (v:=sl u c x) hF rfl Tya31 rfl rfl) (tk 6 (iI (p:Int)) (lb 11 127) rfl (fun w=>mv_r (v:=iI (p:Int)) rfl) (heldF (fq [0,1] z)) ?_))))
           obtain ⟨aP,aB,ck,bM,cl,bN,bO⟩:=((mp aV (al.sub.trans am.sub))).row.at_ (drop_cons_at ao)
           obtain ⟨rfl,cm⟩:=RDParam.open bO
           refine tk 7 (pp aP (aB + p * 2)) (lb 11 255) rfl (fun w=>idxN_r (b:=aP) (o:=aB) (i:=p) Tye31 Tys42 rfl bM rfl (drop_cons_lt ao)) (heldF (fq [0,1] z)) (tk 8 (pp aP (aB + p * 2 + 0)) (lb 11 511) rfl (fun w=>fld_r (o':=aB + p * 2 + 0) Tyf42_0 rfl rfl) (heldF (fq [0,1] z)) (tf 9 (.string az) ([]) (lb 11 1023) rfl (fq [0,1] z) (fun w hF=>ld1_r (v:=.string az) Tya9 rfl (hF.cell (kr.cell (bN 0 _ rfl)))) (tk 10 (.bool (!seq aA az)) (lb 11 2047) rfl (fun w=>bsc_r (r:=(!seq aA az)) rfl rfl rfl) (heldF (fq [0,1] z)) (aD (thenN (cd h (fun aQ h=>?_) (fun aQ h=>?_)))))))
           ·refine cT aQ (sr (m2 vN (wt (wp_ret (blkR (thenR (thenR (blkR (blkR (thenR (thenR (blkR (thenR ?_)))))))))))))
            cases (oi h).trans hr_
            exact retA1 rfl (resT rfl) ⟨S,rfl,(z.sel [])⟩
           ·exact cF aQ (wp_skip (blkN (thenN (wp_region_lit (m1 (iI (p:Int)) (bar (r:=((p + 1:Nat):Int)) rfl rfl (inc_ok (le_big (((mp aV (al.sub.trans am.sub))).len) (by decide) (drop_cons_lt ao))) (m2 (iI ((p + 1:Nat):Int)) (wt (⟨_,Nat.lt_succ_self _,_,ai,p + 1,rfl,fR,z,drop_cons_next ao,h⟩)))))))))
        ·unfold f4_l2 at h
         refine wp_seq (sr (m1 (iI (m:Int)) (m1 (sl N f O) (lS f.length Tye35 (bcm (r:=true) rfl rfl (congrArg some (drop_cons_t an)) (wt (cndT rfl (wp_skip (thenN (wp_seq (wp_block (wp_seq (have A:=a1.drew;(regAny (E:=[]) (F:=FW S [.box (zz wi) (zz B) #[sl s d t] 24,.box (zz wi) (zz D) (vF Z u c x ab ac e I G J).toArray 34]) (L:=(lb 10 0)) ymx rfl rfl (tk 0 (sl N f O) (lb 10 1) rfl (fun w=>mv_r (v:=sl N f O) rfl) (heldF (fq [0,1] A)) (tk 1 (iI (m:Int)) (lb 10 3) rfl (fun w=>mv_r (v:=iI (m:Int)) rfl) (heldF (fq [0,1] A)) ?_))))))))))))))))
         obtain ⟨a5,a6,cn,bP,co,bQ,bR⟩:=((aW.mono am.sub (fun _ _ h=>h))).row.at_ (drop_cons_at an)
         obtain rfl:=bR
         refine tk 2 (pp a5 (a6 + m * 1)) (lb 10 7) rfl (fun w=>idxN_r (b:=a5) (o:=a6) (i:=m) Tye35 Tys3 rfl bP rfl (drop_cons_lt an)) (heldF (fq [0,1] A)) (tf 3 (iI ax) ([]) (lb 10 15) rfl (fq [0,1] A) (fun w hF=>ld1_r (v:=iI ax) Tya3 rfl (hF.cell (kr.cell (bQ 0 _ rfl)))) (tk 4 (pp (zz D) 1) (lb 10 31) rfl (fun w=>fld_r (o':=1) Tyf34_1 rfl rfl) (heldF (fq [0,1] A)) (tf 5 (sl u c x) ([]) (lb 10 63) rfl (fq [0,1] A) (fun w hF=>lb1_r (i:=1) (v:=sl u c x) hF rfl Tya31 rfl rfl) (tk 6 (iI (c.length:Int)) (lb 10 127) rfl (fun w=>lnS_r (len:=c.length) Tye31 rfl) (heldF (fq [0,1] A)) (tk 7 (iI (m:Int)) (lb 10 255) rfl (fun w=>mv_r (v:=iI (m:Int)) rfl) (heldF (fq [0,1] A)) (tk 8 (iI (w64 ((c.length:Int) + (m:Int)))) (lb 10 511) rfl (fun w=>bar_r (r:=(w64 ((c.length:Int) + (m:Int)))) rfl rfl rfl) (heldF (fq [0,1] A)) (tk 9 (.bool (ax != (w64 ((c.length:Int) + (m:Int))))) (lb 10 1023) rfl (fun w=>bcm_r (r:=(ax != (w64 ((c.length:Int) + (m:Int))))) rfl rfl rfl) (heldF (fq [0,1] A)) (aD (thenN (cd h (fun aR h=>?_) (fun aR h=>?_)))))))))))
         ·refine cT aR (sr (m2 vN (wt (wp_ret (blkR (thenR (thenR (blkR (thenR (blkR (thenR (thenR (blkR (thenR ?_))))))))))))))
          cases (oi h).trans hr_
          exact retA1 rfl (resT rfl) ⟨S,rfl,(A.sel [])⟩
         ·exact cF aR (wp_skip (blkN (thenN (wp_region_lit (m1 (iI (m:Int)) (bar (r:=((m + 1:Nat):Int)) rfl rfl (inc_ok (le_big (((aW.mono am.sub (fun _ _ h=>h))).len) (by decide) (drop_cons_lt an))) (m2 (iI ((m + 1:Nat):Int)) (wt (⟨_,Nat.lt_succ_self _,_,ah,m + 1,rfl,fR,A,drop_cons_next an,h⟩)))))))))
theorem f4_ok (k:Nat):f4_spec (f4 k):=f4_b_ok k
end Go.Proofs.YtoajecnoffhlbaaDoor
set_option maxRecDepth 512
set_option maxHeartbeats 200000
namespace Go.Proofs.YtoajecnoffhlbaaDoor
open Go
mutual
def szE:DExpr→Nat | .mk _ _ _ _ l=>szEs l + 1
def szEs:List DExpr→Nat | []=>0 | e :: l=>szE e + szEs l
end
mutual
def szS:DStmt→Nat | .mk _ _ _ _ _ _ a b c d e=>szEs a + szSs b + szSs c + szSs d + szCs e + 1
def szSs:List DStmt→Nat | []=>0 | s :: l=>szS s + szSs l
def szC:DCase→Nat | .mk _ _ _ a b=>szEs a + szSs b + 1
def szCs:List DCase→Nat | []=>0 | c :: l=>szC c + szCs l
end
def szF:DFunc→Nat | .mk _ ps _ _ _ b=>ps.length + szSs b + 1
def szFs:List DFunc→Nat | []=>0 | f :: l=>szF f + szFs l
def szP:DProgram→Nat | .mk fs=>szFs fs + 1
theorem len_szEs : ∀ l:List DExpr,l.length≤szEs l
 | []=>by simp
 | .mk _ _ _ _ a :: l=>by have:=len_szEs l; simp only [List.length_cons,szEs,szE]; omega
def letterI (c:Int):Bool:=decide (c ≥ 97) && decide (c≤122)
def digitI (c:Int):Bool:=decide (c ≥ 48) && decide (c≤57)
def runL:List UInt8→Nat→Bool
 | [],_=>true
 | e :: r,i=>(letterI e.toNat || (!((i:Int) == 0) && digitI e.toNat)) && runL r (i + 1)
def isN (s:ByteArray):Bool:=runL s.data.toList 0 && !seq s ⟨#[]⟩ && decide ((s.size:Int)≤12) && !wordsL.any (seq s)
theorem f60_eq (k:Nat) (c:Int):f60 k c=some (letterI c):=by
 unfold f60 f60_b f60_j1 letterI
 cases decide (c ≥ 97) <;> rfl
theorem f61_eq (k:Nat) (c:Int):f61 k c=some (digitI c):=by
 unfold f61 f61_b f61_j1 digitI
 cases decide (c ≥ 48) <;> rfl
theorem f54_l1_eq (k:Nat) (a:ByteArray) : ∀ (l:List UInt8) (i:Nat),f54_l1 k a l i=some (runL l i && !seq a ⟨#[]⟩)
 | [],i=>by simp [f54_l1,runL]
 | e :: l,i=>by
  unfold f54_l1 runL
  rw [f60_eq]
  simp only [Option.bind_some,f54_j1,f61_eq,f54_l1_eq k a l]
  cases letterI e.toNat <;> cases ((i:Int) == 0) <;> cases digitI e.toNat <;> simp
theorem f68_l1_eq (k:Nat) (a:ByteArray) : ∀ (l:List ByteArray) (i:Nat),∃ r,f68_l1 k a l i=some r∧decide (r ≥ 0)=l.any (seq a)
 | [],i=>⟨-1,rfl,rfl⟩
 | e :: l,i=>by
  unfold f68_l1
  cases h:seq a e
  ·obtain ⟨r,h1,h2⟩:=f68_l1_eq k a l (i + 1)
   exact ⟨r,h1,by simp [h,h2]⟩
  ·exact ⟨(i:Int),rfl,by simp [h]⟩
theorem f44_eq (k:Nat) (s:ByteArray):f44 k s=some (isN s):=by
 unfold f44 f44_b f54 f54_b isN
 rw [f54_l1_eq]
 simp only [Option.bind_some,f44_j1]
 obtain ⟨r,h1,h2⟩:=f68_l1_eq k s wordsL 0
 have h92:f55 k s=some (wordsL.any (seq s)):=by
  unfold f55 f55_b f63 f62 f62_b f68 f68_b
  simp [h1,h2]
 rw [h92]
 simp only [Option.bind_some]
 cases runL s.data.toList 0 <;> cases seq s ⟨#[]⟩ <;> cases decide ((s.size:Int)≤12) <;> rfl
theorem seq_comm (a b:ByteArray):seq a b=seq b a:=by
 unfold seq
 rw [Bool.eq_iff_iff,beq_iff_eq,beq_iff_eq]
 exact eq_comm
def textL:List UInt8→Bool
 | []=>true
 | e :: l=>!decide ((e.toNat:Int) < 32) && !decide ((e.toNat:Int) > 126) && textL l
def isT (s:ByteArray):Bool:=textL s.data.toList && decide ((s.size:Int)≤60)
theorem f78_l1_eq (k:Nat) (a:ByteArray) : ∀ (l:List UInt8) (i:Nat),f78_l1 k a l i=some (textL l && decide ((a.size:Int)≤60))
 | [],i=>by simp [f78_l1,textL]
 | e :: l,i=>by
  unfold f78_l1 textL
  simp only [f78_j1,f78_l1_eq k a l]
  cases decide ((e.toNat:Int) < 32) <;> cases decide ((e.toNat:Int) > 126) <;> simp
theorem f73_eq (k:Nat) (s:ByteArray):f73 k s=some (isT s):=f78_l1_eq k s _ 0
theorem w64_nat {x:Int} {n:Nat} (h:x=(n:Int)) (h2:n≤4611686018427387904):w64 x=(n:Int):=by
 subst h; unfold w64 IntKind.wrap; simp [IntKind.bits,IntKind.signed]; omega
def nodeE (op num:Int) (txt:ByteArray) (len:Nat):Bool :=
 cond (op == 1) (decide (num ≥ 0) && decide (num≤1000000000000) && seq txt ⟨#[]⟩ && (len:Int) == 0)
 (cond (op == 2) (decide (num ≥ 0) && decide (num≤1) && seq txt ⟨#[]⟩ && (len:Int) == 0)
 (cond (op == 3) (num == 0 && isT txt && (len:Int) == 0)
 (cond (op == 4) (num == 0 && isN txt && (len:Int) == 0)
 (cond (op == 5 || op == 6) (num == 0 && seq txt ⟨#[]⟩ && (len:Int) == 1)
  (decide (op ≥ 7) && decide (op≤19) && num == 0 && seq txt ⟨#[]⟩ && (len:Int) == 2)))))
mutual
def gE (z:Bool):DExpr→Nat→Bool
 | .mk op num txt slot l,a=>decide (a≤16) && (z || slot == 0) && nodeE op num txt l.length && gEs z l (a + 1)
def gEs (z:Bool):List DExpr→Nat→Bool
 | [],_=>true
 | e :: l,a=>gE z e a && gEs z l a
end
def NRes (r:Option (Dcounter × Bool)) (g:Bool) (n sz:Nat) (z:Bool):Prop :=
 ∃ c,r=some (c,g && decide (n + sz≤600))∧((g && decide (n + sz≤600))=true→∃ d,c=.mk ((n + sz:Nat):Int) d z)
theorem f42_eq (k:Nat) (x a b:Int):f42 k x a b=some (decide (x ≥ a) && decide (x≤b)):=by
 unfold f42 f42_b f42_j1; cases decide (x ≥ a) <;> rfl
theorem f43_eq (k:Nat) (n:Nat) (d:Int) (z:Bool) (a:Nat) (h:n≤600) :
  f43 k (.mk n d z) a=some (.mk ((n + 1:Nat):Int) (imax d a) z,decide (n + 1≤600) && decide (a≤16)):=by
 unfold f43 f43_b f43_j1
 simp only
 rw [w64_nat (n:=n + 1) (by omega) (by omega)]
 have e1:decide (((n + 1:Nat):Int)≤600)=decide (n + 1≤600):=by rw [decide_eq_decide]; omega
 have e2:decide ((a:Int)≤16)=decide (a≤16):=by rw [decide_eq_decide]; omega
 rw [e1,e2]
 cases decide (n + 1≤600) <;> rfl
theorem f70_j1_eq (k:Nat) (F:Fam67) (op num:Int) (txt:ByteArray) (l:List DExpr) (a n d:Int) (q:Bool) :
  f70_j1 k F op num txt l a n d q false=cond (nodeE op num txt l.length) (f70_j2 k F l a n d q (l.length:Int) true) (some (.mk n d q,false)):=by
 unfold f70_j1 f70_j4 f70_j5 f70_j6 f70_j2 f70_j3 nodeE
 simp only [f42_eq,f73_eq,f44_eq,Option.bind_some,Bool.cond_eq_ite]
 grind
theorem szE_pos : ∀ e:DExpr,1≤szE e
 | .mk _ _ _ _ _=>by simp only [szE]; omega
theorem NRes.no {r:Option (Dcounter × Bool)} {g:Bool} {n sz:Nat} {z:Bool} {c:Dcounter} (h:r=some (c,false)) (hg:(g && decide (n + sz≤600))=false):NRes r g n sz z :=
 ⟨c,by rw [h,hg],by rw [hg]; intro h; cases h⟩
theorem NRes.yes {r:Option (Dcounter × Bool)} {g:Bool} {n sz:Nat} {z:Bool} {d:Int} (h:r=some (.mk ((n + sz:Nat):Int) d z,true)) (hg:(g && decide (n + sz≤600))=true):NRes r g n sz z :=
 ⟨_,by rw [h,hg],fun _=>⟨d,rfl⟩⟩
theorem nE (k:Nat) (z:Bool) : ∀ m,
  (∀ e,2 * szE e≤m→∀ (n:Nat) (d:Int) (a:Nat),n≤600→a≤17→NRes ((fam67 k m).f70 (.mk n d z) e a) (gE z e a) n (szE e) z) ∧
  (∀ l,2 * szEs l + 1≤m→∀ (n:Nat) (d:Int) (a:Nat),n≤600→a≤17→NRes ((fam67 k m).f67 (.mk n d z) l a) (gEs z l a) n (szEs l) z)
 | 0=>⟨fun e he=>by have:=szE_pos e; omega,fun l hl=>by omega⟩
 | m + 1=>by
  obtain ⟨ihe,ihl⟩:=nE k z m
  constructor
  ·intro e he n d a hn ha
   obtain ⟨op,num,txt,slot,l⟩:=e
   simp only [szE] at he
   show NRes (f70_b k (fam67 k m) (.mk n d z) (.mk op num txt slot l) a) _ _ _ _
   unfold f70_b
   simp only [szE]
   rw [f43_eq k n d z a hn]
   simp only [Option.bind_some]
   have hj : ∀ q:Bool,f70_j1 k (fam67 k m) op num txt l a ((n + 1:Nat):Int) (imax d a) z q=cond q (some (.mk ((n + 1:Nat):Int) (imax d a) z,false)) (cond (nodeE op num txt l.length) (f70_j2 k (fam67 k m) l a ((n + 1:Nat):Int) (imax d a) z (l.length:Int) true) (some (.mk ((n + 1:Nat):Int) (imax d a) z,false))):=by
    intro q; cases q
    ·exact f70_j1_eq _ _ _ _ _ _ _ _ _ _
    ·rfl
   simp only [hj]
   by_cases h1:n + 1≤600∧a≤16
   ·obtain ⟨h1,h2⟩:=h1
    simp only [h1,h2,decide_true,Bool.and_self,Bool.not_true,cond_false]
    by_cases h3:(z || slot == 0)=true
    ·have h3' : (cond (slot != 0) (!z) false)=false:=by cases z <;> simp_all
     have h4 : ∀ (x y:Option (Dcounter × Bool)),cond (slot != 0) (cond (!z) x y) y=y:=by
      intro x y; cases z <;> simp_all
     rw [h4]
     by_cases h5:nodeE op num txt l.length=true
     ·simp only [h5,cond_true]
      unfold f70_j2
      simp only [beq_self_eq_true,cond_true]
      rw [w64_nat (n:=a + 1) (by omega) (by omega)]
      obtain ⟨c,hc,hd⟩:=ihl l (by omega) (n + 1) (imax d a) (a + 1) h1 (by omega)
      rw [hc]
      refine ⟨c,?_,?_⟩
      ·obtain ⟨c0,c1,c2⟩:=c
       have:n + 1 + szEs l=n + (szEs l + 1):=by omega
       simp [f70_j3,gE,h2,h3,h5,this]
      ·intro hg
       have e1:n + (szEs l + 1)=n + 1 + szEs l:=by omega
       rw [e1]
       refine hd ?_
       rw [e1] at hg
       simp [gE,h2,h3,h5] at hg
       simp [hg]
     ·have h5' : nodeE op num txt l.length=false:=by simpa using h5
      simp only [h5',cond_false]
      exact .no rfl (by simp [gE,h5'])
    ·have h3' : (z || slot == 0)=false:=by simpa using h3
     have h4 : ∀ (x y:Option (Dcounter × Bool)),cond (slot != 0) (cond (!z) x y) y=x:=by
      intro x y
      simp only [Bool.or_eq_false_iff,beq_eq_false_iff_ne] at h3'
      have e:(slot != 0)=true:=bne_iff_ne.mpr h3'.2
      rw [e,h3'.1]; rfl
     rw [h4]
     exact .no rfl (by simp [gE,h3'])
   ·have h1' : (decide (n + 1≤600) && decide (a≤16))=false:=by
     simp only [Bool.and_eq_false_iff,decide_eq_false_iff_not]; omega
    simp only [h1',Bool.not_false,cond_true]
    refine .no rfl ?_
    simp only [gE,Bool.and_eq_false_iff,decide_eq_false_iff_not]
    omega
  ·intro l hl n d a hn ha
   show NRes (f67_l1 k (fam67 k m) a l 0 n d z) _ _ _ _
   have loop : ∀ (l:List DExpr) (i:Nat) (n:Nat) (d:Int),2 * szEs l≤m→n≤600→NRes (f67_l1 k (fam67 k m) a l i n d z) (gEs z l a) n (szEs l) z:=by
    intro l
    induction l with
    | nil=>intro i n d _ hn; exact .yes rfl (by simp [gEs,szEs,hn])
    | cons e l ih =>
     intro i n d hm hn
     obtain ⟨e0,e1,e2,e3,e4⟩:=e
     unfold f67_l1
     simp only [szEs] at hm
     obtain ⟨c,hc,hd⟩:=ihe (.mk e0 e1 e2 e3 e4) (by omega) n d a hn ha
     rw [hc]
     by_cases hg:(gE z (.mk e0 e1 e2 e3 e4) a && decide (n + szE (.mk e0 e1 e2 e3 e4)≤600))=true
     ·obtain ⟨d',rfl⟩:=hd hg
      have hg':=hg
      simp only [Bool.and_eq_true,decide_eq_true_eq] at hg'
      simp only [hg,Option.bind_some,Bool.not_true,cond_false]
      obtain ⟨c2,hc2,hd2⟩:=ih (i + 1) _ d' (by omega) hg'.2
      have e1:n + (szE (DExpr.mk e0 e1 e2 e3 e4) + szEs l)=n + szE (DExpr.mk e0 e1 e2 e3 e4) + szEs l:=by omega
      refine ⟨c2,?_,?_⟩
      ·rw [hc2]; simp only [gEs,szEs,hg'.1,Bool.true_and,e1]
      ·simp only [gEs,szEs,hg'.1,Bool.true_and,e1]; exact hd2
     ·have hg' : (gE z (.mk e0 e1 e2 e3 e4) a && decide (n + szE (.mk e0 e1 e2 e3 e4)≤600))=false:=by simpa using hg
      obtain ⟨c0,c1,c2⟩:=c
      simp only [hg',Option.bind_some,Bool.not_false,cond_true]
      refine .no rfl ?_
      simp only [Bool.and_eq_false_iff,decide_eq_false_iff_not,gEs,szEs] at hg' ⊢
      rcases hg' with h | h
      ·exact .inl (.inl h)
      ·exact .inr (decide_eq_false (fun h'=>h (by omega)))
   exact loop l 0 n d (by omega) hn
mutual
def stE:DExpr→DExpr | .mk op num txt _ l=>.mk op num txt 0 (stEs l)
def stEs:List DExpr→List DExpr | []=>[] | e :: l=>stE e :: stEs l
end
theorem stEs_len : ∀ l,(stEs l).length=l.length
 | []=>rfl
 | e :: l=>by simp [stEs,stEs_len l]
mutual
theorem szE_st : ∀ e,szE (stE e)=szE e
 | .mk _ _ _ _ l=>by simp only [stE,szE,szEs_st l]
theorem szEs_st : ∀ l,szEs (stEs l)=szEs l
 | []=>rfl
 | e :: l=>by simp only [stEs,szEs,szE_st e,szEs_st l]
end
mutual
theorem gE_st : ∀ e a,gE false (stE e) a=gE true e a
 | .mk _ _ _ _ l,a=>by simp [stE,gE,gEs_st l,stEs_len]
theorem gEs_st : ∀ l a,gEs false (stEs l) a=gEs true l a
 | [],_=>rfl
 | e :: l,a=>by simp only [stEs,gEs,gE_st e,gEs_st l]
end
end Go.Proofs.YtoajecnoffhlbaaDoor
