/- Words of the same proof, part 5: what the last text needs; nothing is claimed here. -/
import Derived.Test.YtoajecnoffhlbaaGreatDoorV4
set_option linter.unusedVariables false
set_option linter.unusedSimpArgs false
set_option maxRecDepth 100000
set_option maxHeartbeats 4000000
namespace Go.Proofs.YtoajecnoffhlbaaGreatDoor
open Go
theorem f108_b_ok (k:Nat) (F:Fam108) (IH108:f108_spec F.f108):f108_spec (f108_b k F):=by
 unfold f108_spec
 intro K wi A be bf c f1 h hG cm dd
 obtain ⟨r_,hr_,h⟩:=rz h
 refine enter Tryz.func108 rfl (n:=76) rfl ?_
 unfold f108_b at h
 refine sr (m2 nS (wt (sr (m2 (.func (.func 129) #[] #[]) (wt (wp_seq (sr (m1 (.bool c) (wt (cd h (fun cx h=>?_) (fun cx h=>?_)))))))))))
 ·refine cT cx (wp_region_lit (m2 (.func (.func 130) #[] #[]) (wt (sr (m2 nS (wt (wp_seq (sr (m1 (sl be A bf) (lS A.length Tye36 (m1 (iI 0) (wt (wp_block ?_)))))))))))))
  have dL:=dd.row_ (zz wi) 42 11
  refine wp_loopG (fun g_ a w=>∃ de b1 bg,∃ (am:Nat),∃ d ai aj bB,g_=bg.length∧a=fr 76 (updL de [(1,.bool c),(5,.func (.func 130) #[] #[]),(6,sl ai d aj),(13,sl be A bf),(14,iI (A.length:Int)),(15,iI (am:Int))])∧KH.sub K b1∧SR K b1 wi w [] [.row (zz wi) (sl ai d aj) 42 11 d.length bB]∧A.drop am=bg∧Reps (RDStmt b1) 11 d bB∧d.length * 184 ≤ mB∧f108_l1 k F c bg am d=some r_) A.length ?_ ?_
  ·exact ⟨_,K,A,0,([]:LS),none,0,[],rfl,fR,kr,dL,List.drop_zero,(reps0 (R:=(RDStmt K)) (size:=11)),(by simp),h⟩
  ·rintro _ _ bh ⟨de,b1,bg,am,d,ai,aj,bB,rfl,rfl,bC,cy,b2,df,dM,h⟩
   rcases bg with _ | ⟨⟨g,l,cn,m,cf,q,bi,aZ,aP,an,B⟩,bg⟩
   ·unfold f108_l1 at h
    refine sr (bcm (r:=false) rfl rfl (congrArg some (drop_nil_lt b2)) (wt (wp_seq (cndF rfl (wp_exit (thenX (thenX (blkX (thenN (sr (m1 (sl ai d aj) (m2 (sl ai d aj) (wt (wp_ret ?_))))))))))))))
    obtain ⟨dN,dO,f2,dP⟩:=shutI (i:=0) (bytes:=184) (R:=fun K=>(RDStmt K)) cy rfl (Nat.le_refl _) df dM (fun hs=>(fun _ _ h=>RDStmt.mono hs h))
    cases (oi h).trans hr_
    exact retA1 rfl (resT rfl) ⟨dN,ai,aj,rfl,dO,dP⟩
   ·unfold f108_l1 at h
    refine sr (bcm (r:=true) rfl rfl (congrArg some (drop_cons_t b2)) (wt (wp_seq (cndT rfl (wp_skip (thenN (wp_seq (wp_block (sr ?_)))))))))
    obtain ⟨dQ,dR,f3,dS,f4,dT,dU⟩:=((ms cm bC)).row.at_ (drop_cons_at b2)
    obtain ⟨bD,bE,bj,bk,a2,a3,ay,az,X,Y,rfl,dV,dW,dX,dY,dZ,d0,dg⟩:=RDStmt.open dU
    refine idxN (b:=dQ) (o:=dR) (i:=am) Tye36 Tys42 rfl dS rfl (drop_cons_lt b2) (lD (vS g l cn m cf q bD bi bE bj aZ bk a2 aP a3 ay an az X B Y) Tya42 Tys42 rfl (fun j v hj=>cy.cell (kr.cell (dT j v hj))) (aC zS.toArray cy Tyz42 (fun f5 d1=>(sI 0 (.agg (vS g l cn m cf q bD bi bE bj aZ bk a2 aP a3 ay an az X B Y).toArray) ((vS g l cn m cf q bD bi bE bj aZ bk a2 aP a3 ay an az X B Y).toArray) d1 Tys42 rfl rfl (fun f6 dh=>(wt (wp_cut (fun a w=>∃ di D G,a=fr 76 (updL di [(1,.bool c),(5,.func (.func 130) #[] #[]),(6,sl ai d aj),(8,pp (zz bh) 0),(13,sl be A bf),(14,iI (A.length:Int)),(15,iI (am:Int))])∧SR K b1 wi w [] [.box (zz wi) (zz bh) (vS g l D m G q bD bi bE bj aZ bk a2 aP a3 ay an az X B Y).toArray 42,.row (zz wi) (sl ai d aj) 42 11 d.length bB]∧f108_j1 k F c d am g l m q bi aZ aP an B D G (f108_l1 k F c bg)=some r_) ?_ ?_)))))))
    ·refine sr (m1 (.bool c) (uN c (wt (cd h (fun cz h=>?_) (fun cz h=>?_)))))
     ·refine cT cz (wp_region_lit (fd 2 Tyf42_2 rfl (sI 0 (iI 0) ((vS g l 0 m cf q bD bi bE bj aZ bk a2 aP a3 ay an az X B Y).toArray) dh Tys3 rfl rfl (fun f8 d2=>(fd 4 Tyf42_4 rfl (sI 0 (iI 0) ((vS g l 0 m 0 q bD bi bE bj aZ bk a2 aP a3 ay an az X B Y).toArray) d2 Tys3 rfl rfl (fun d3 d4=>?_)))))))
      have d5:=d4
      exact wt (⟨_,0,0,fR,d5,h⟩)
     ·exact cF cz (wp_skip (thenN (⟨_,cn,cf,fR,dh,h⟩)))
    ·rintro _ f9 ⟨di,D,G,rfl,cA,h⟩
     unfold f108_j1 at h
     refine sr (fd 6 Tyf42_6 rfl (l1 0 (sl bD bi bE) cA Tya39 (m1 (.func (.func 130) #[] #[]) ?_)))
     obtain ⟨N,d6,h⟩:=ob h
     refine cv ([sl bD bi bE,.func (.func 130) #[] #[]]) Tyb131 ((f1013118_ok k) d6 (hG.mono bC) dX (pt cA)) ?_
     rintro _ ga ⟨gb,ao,ap,rfl,aA,d7⟩
     have d8:=ca aA cA
     refine fd 6 Tyf42_6 rfl (sI 0 (sl ao N ap) ((vS g l D m G q ao N ap bj aZ bk a2 aP a3 ay an az X B Y).toArray) d8 Tys39 rfl rfl (fun gc cB=>(wt (sr (fd 7 Tyf42_7 rfl (l1 0 (sl bj aZ bk) cB Tya36 (m1 (.bool c) ?_)))))))
     obtain ⟨S,d9,h⟩:=ob h
     refine cv ([sl bj aZ bk,.bool c]) Tyb108 (IH108 d9 (hG.mono (bC.trans aA.sub)) (ms dY aA.sub) (pt cB)) ?_
     rintro _ gd ⟨ge,aB,aE,rfl,aQ,ea⟩
     have ec:=ca aQ cB
     refine fd 7 Tyf42_7 rfl (sI 0 (sl aB S aE) ((vS g l D m G q ao N ap aB S aE a2 aP a3 ay an az X B Y).toArray) ec Tys36 rfl rfl (fun gf cC=>(wt (sr (fd 8 Tyf42_8 rfl (l1 0 (sl a2 aP a3) cC Tya36 (m1 (.bool c) ?_)))))))
     obtain ⟨V,ed,h⟩:=ob h
     refine cv ([sl a2 aP a3,.bool c]) Tyb108 (IH108 ed (hG.mono ((bC.trans aA.sub).trans aQ.sub)) (ms dZ (aA.sub.trans aQ.sub)) (pt cC)) ?_
     rintro _ gg ⟨ee,aR,aS,rfl,a4,ef⟩
     have eg:=ca a4 cC
     refine fd 8 Tyf42_8 rfl (sI 0 (sl aR V aS) ((vS g l D m G q ao N ap aB S aE aR V aS ay an az X B Y).toArray) eg Tys36 rfl rfl (fun eh ei=>?_))
     have cD:=ei
     refine wt (sr (fd 9 Tyf42_9 rfl (l1 0 (sl ay an az) cD Tya36 (m1 (.bool c) ?_))))
     obtain ⟨ac,ej,h⟩:=ob h
     refine cv ([sl ay an az,.bool c]) Tyb108 (IH108 ej (hG.mono (((bC.trans aA.sub).trans aQ.sub).trans a4.sub)) (ms d0 ((aA.sub.trans aQ.sub).trans a4.sub)) (pt cD)) ?_
     rintro _ gh ⟨cG,bm,bn,rfl,bo,ek⟩
     have el:=ca bo cD
     refine fd 9 Tyf42_9 rfl (sI 0 (sl bm ac bn) ((vS g l D m G q ao N ap aB S aE aR V aS bm ac bn X B Y).toArray) el Tys36 rfl rfl (fun gi dj=>(wt (sr (m2 nS (wt (wp_seq (sr (fd 10 Tyf42_10 rfl (l1 0 (sl X B Y) dj Tya40 (lS B.length Tye40 (m1 (iI 0) (wt (wp_block ?_))))))))))))))
     have em:=dj.row_ (zz wi) 87 5
     refine wp_loopG (fun g_ a w=>∃ dk ch bL,∃ (bp:Nat),∃ s aF aG co,g_=bL.length∧a=fr 76 (updL dk [(1,.bool c),(5,.func (.func 130) #[] #[]),(6,sl ai d aj),(8,pp (zz bh) 0),(9,sl aF s aG),(13,sl be A bf),(14,iI (A.length:Int)),(15,iI (am:Int)),(44,sl X B Y),(45,iI (B.length:Int)),(46,iI (bp:Int))])∧KH.sub cG ch∧SR K ch wi w [] [.box (zz wi) (zz bh) (vS g l D m G q ao N ap aB S aE aR V aS bm ac bn X B Y).toArray 42,.row (zz wi) (sl ai d aj) 42 11 d.length bB,.row (zz wi) (sl aF s aG) 87 5 s.length co]∧B.drop bp=bL∧Reps (RDCase ch) 5 s co∧s.length * 80 ≤ mB∧f108_l2 k F c d am g l m q D G N S V ac (f108_l1 k F c bg) bL bp s=some r_) B.length ?_ ?_
     ·exact ⟨_,cG,B,0,([]:LC),none,0,[],rfl,fR,kr,(em.sel [1,2,0]),List.drop_zero,(reps0 (R:=(RDCase cG)) (size:=5)),(by simp),h⟩
     ·rintro _ _ cH ⟨dk,ch,bL,bp,s,aF,aG,co,rfl,rfl,a5,cI,b3,dl,en,h⟩
      rcases bL with _ | ⟨⟨ad,ae,cq,bM,bF⟩,bL⟩
      ·unfold f108_l2 at h
       refine sr (bcm (r:=false) rfl rfl (congrArg some (drop_nil_lt b3)) (wt (wp_seq (cndF rfl (wp_exit (thenX (thenX (blkX (thenN (sr (m1 (sl aF s aG) (fd 10 Tyf42_10 rfl (sI 0 (sl aF s aG) ((vS g l D m G q ao N ap aB S aE aR V aS bm ac bn aF s aG).toArray) cI Tys40 rfl rfl (fun gj dm=>(wt (wp_region_lit (m1 (sl ai d aj) (lN 0 (vS g l D m G q ao N ap aB S aE aR V aS bm ac bn aF s aG) dm Tya42 Tys42 (bsl (e:=42) (cells:=(vS g l D m G q ao N ap aB S aE aR V aS bm ac bn aF s aG).toArray) (vs:=[(0,.agg (vS g l D m G q ao N ap aB S aE aR V aS bm ac bn aF s aG).toArray)]) dm rfl (buildSl_one Tye36 Tys42 Tyz42 rfl (by decide) (by decide) rfl) (fun gk eo=>?_))))))))))))))))))))
       obtain ⟨cJ,ep,b4,eq⟩:=shutI (i:=3) (bytes:=80) (R:=fun K=>(RDCase K)) eo rfl (Nat.le_refl _) dl en (fun hs=>(fun _ _ h=>RDCase.mono hs h))
       obtain ⟨dn,h⟩:=of_guard h
       refine apR (R:=(RDStmt cJ)) (p:=(DStmt.mk g l D m G q N S V ac s)) (i:=2) (j:=0) ep rfl rfl Tye36 Tyi42 rfl (by decide) rfl rfl (df.mono (fun _ _ h=>RDStmt.mono (((((aA.sub.trans aQ.sub).trans a4.sub).trans bo.sub).trans a5).trans b4) h)) (RDStmt.intro dV dW (me d7 ((((aQ.sub.trans a4.sub).trans bo.sub).trans a5).trans b4)) (ms ea (((a4.sub.trans bo.sub).trans a5).trans b4)) (ms ef ((bo.sub.trans a5).trans b4)) (ms ek (a5.trans b4)) eq) rfl rfl (Nat.le_refl _) dn (by decide) (fun cK cL dp es et eu=>?_)
       have ew:=p12 et
       exact m2 (.slice cK (d ++ [(DStmt.mk g l D m G q N S V ac s)]).length cL) (wpList_nil (blkN (thenN (wp_region_lit (bar (r:=((am + 1:Nat):Int)) rfl rfl (inc_ok (le_big (((ms cm bC)).len) (by decide) (drop_cons_lt b2))) (m1 (iI ((am + 1:Nat):Int)) (wt (⟨_,Nat.lt_succ_self _,_,cJ,bg,am + 1,(d ++ [(DStmt.mk g l D m G q N S V ac s)]),cK,cL,dp,rfl,fR,((((((bC.trans aA.sub).trans aQ.sub).trans a4.sub).trans bo.sub).trans a5).trans b4),(ew.sel [1]),drop_cons_next b2,eu,(app_bound dn),h⟩))))))))
      ·unfold f108_l2 at h
       refine sr (bcm (r:=true) rfl rfl (congrArg some (drop_cons_t b3)) (wt (wp_seq (cndT rfl (wp_skip (thenN (wp_seq (wp_block (sr ?_)))))))))
       obtain ⟨ex,ey,gl,ez,gm,eA,eB⟩:=((mc dg ((((aA.sub.trans aQ.sub).trans a4.sub).trans bo.sub).trans a5))).row.at_ (drop_cons_at b3)
       obtain ⟨bT,bU,bN,bO,rfl,eC,eD,eE⟩:=RDCase.open eB
       refine idxN (b:=ex) (o:=ey) (i:=bp) Tye40 Tys87 rfl ez rfl (drop_cons_lt b3) (lD (vC ad ae cq bT bM bU bN bF bO) Tya87 Tys87 rfl (fun j v hj=>cI.cell (kr.cell (eA j v hj))) (aC zC.toArray cI Tyz87 (fun gn eF=>(sI 0 (.agg (vC ad ae cq bT bM bU bN bF bO).toArray) ((vC ad ae cq bT bM bU bN bF bO).toArray) eF Tys87 rfl rfl (fun go dq=>(wt (wp_cut (fun a w=>∃ dr aq,a=fr 76 (updL dr [(1,.bool c),(5,.func (.func 130) #[] #[]),(6,sl ai d aj),(8,pp (zz bh) 0),(9,sl aF s aG),(11,pp (zz cH) 0),(13,sl be A bf),(14,iI (A.length:Int)),(15,iI (am:Int)),(44,sl X B Y),(45,iI (B.length:Int)),(46,iI (bp:Int))])∧SR K ch wi w [] [.box (zz wi) (zz bh) (vS g l D m G q ao N ap aB S aE aR V aS bm ac bn X B Y).toArray 42,.box (zz wi) (zz cH) (vC ad ae aq bT bM bU bN bF bO).toArray 87,.row (zz wi) (sl ai d aj) 42 11 d.length bB,.row (zz wi) (sl aF s aG) 87 5 s.length co]∧f108_j2 k F c s bp ad ae bM bF aq (f108_l2 k F c d am g l m q D G N S V ac (f108_l1 k F c bg) bL)=some r_) ?_ ?_)))))))
       ·refine sr (m1 (.bool c) (uN c (wt (cd h (fun cM h=>?_) (fun cM h=>?_)))))
        ·exact cT cM (wp_region_lit (fd 2 Tyf87_2 rfl (sI 0 (iI 0) ((vC ad ae 0 bT bM bU bN bF bO).toArray) dq Tys3 rfl rfl (fun gp eG=>(wt (⟨_,0,fR,(eG.sel [1,0,2,3]),h⟩))))))
        ·exact cF cM (wp_skip (thenN (⟨_,cq,fR,(dq.sel [1,0,2,3]),h⟩)))
       ·rintro _ gq ⟨dr,aq,rfl,cN,h⟩
        unfold f108_j2 at h
        refine sr (fd 3 Tyf87_3 rfl (l1 1 (sl bT bM bU) cN Tya39 (m1 (.func (.func 130) #[] #[]) ?_)))
        obtain ⟨aT,eH,h⟩:=ob h
        refine cv ([sl bT bM bU,.func (.func 130) #[] #[]]) Tyb131 ((f1013118_ok k) eH (hG.mono (((((bC.trans aA.sub).trans aQ.sub).trans a4.sub).trans bo.sub).trans a5)) eD (pt cN)) ?_
        rintro _ gr ⟨gs,bV,bW,rfl,ci,eI⟩
        have eJ:=ca ci cN
        refine fd 3 Tyf87_3 rfl (sI 1 (sl bV aT bW) ((vC ad ae aq bV aT bW bN bF bO).toArray) eJ Tys39 rfl rfl (fun gt cO=>(wt (sr (fd 4 Tyf87_4 rfl (l1 1 (sl bN bF bO) cO Tya36 (m1 (.bool c) ?_)))))))
        obtain ⟨a6,eK,h⟩:=ob h
        refine cv ([sl bN bF bO,.bool c]) Tyb108 (IH108 eK (hG.mono ((((((bC.trans aA.sub).trans aQ.sub).trans a4.sub).trans bo.sub).trans a5).trans ci.sub)) (ms eE ci.sub) (pt cO)) ?_
        rintro _ gu ⟨cP,b5,b6,rfl,cr,eL⟩
        have eM:=ca cr cO
        refine fd 4 Tyf87_4 rfl (sI 1 (sl b5 a6 b6) ((vC ad ae aq bV aT bW b5 a6 b6).toArray) eM Tys36 rfl rfl (fun gv ds=>(wt (wp_region_lit (m1 (sl aF s aG) (lN 1 (vC ad ae aq bV aT bW b5 a6 b6) ds Tya87 Tys87 (bsl (e:=87) (cells:=(vC ad ae aq bV aT bW b5 a6 b6).toArray) (vs:=[(0,.agg (vC ad ae aq bV aT bW b5 a6 b6).toArray)]) ds rfl (buildSl_one Tye40 Tys87 Tyz87 rfl (by decide) (by decide) rfl) (fun gw eN=>?_))))))))
        obtain ⟨dt,h⟩:=of_guard h
        refine apR (R:=(RDCase cP)) (p:=(DCase.mk ad ae aq aT a6)) (i:=4) (j:=0) eN rfl rfl Tye40 Tyi87 rfl (by decide) rfl rfl (dl.mono (fun _ _ h=>RDCase.mono (ci.sub.trans cr.sub) h)) (RDCase.intro eC (me eI cr.sub) eL) rfl rfl (Nat.le_refl _) dt (by decide) (fun cQ cR du eO eP eQ=>?_)
        have eR:=p1234 eP
        exact m2 (.slice cQ (s ++ [(DCase.mk ad ae aq aT a6)]).length cR) (wpList_nil (blkN (thenN (wp_region_lit (bar (r:=((bp + 1:Nat):Int)) rfl rfl (inc_ok (le_big (((mc dg ((((aA.sub.trans aQ.sub).trans a4.sub).trans bo.sub).trans a5))).len) (by decide) (drop_cons_lt b3))) (m1 (iI ((bp + 1:Nat):Int)) (wt (⟨_,Nat.lt_succ_self _,_,cP,bL,bp + 1,(s ++ [(DCase.mk ad ae aq aT a6)]),cQ,cR,du,rfl,fR,((a5.trans ci.sub).trans cr.sub),(eR.sel [0,2,3]),drop_cons_next b3,eQ,(app_bound dt),h⟩))))))))
 ·refine cF cx (wp_skip (thenN (sr (m2 nS (wt (wp_seq (sr (m1 (sl be A bf) (lS A.length Tye36 (m1 (iI 0) (wt (wp_block ?_))))))))))))
  have eS:=dd.row_ (zz wi) 42 11
  refine wp_loopG (fun g_ a w=>∃ dv b7 bq,∃ (ar:Nat),∃ f ak al bG,g_=bq.length∧a=fr 76 (updL dv [(1,.bool c),(5,.func (.func 129) #[] #[]),(6,sl ak f al),(13,sl be A bf),(14,iI (A.length:Int)),(15,iI (ar:Int))])∧KH.sub K b7∧SR K b7 wi w [] [.row (zz wi) (sl ak f al) 42 11 f.length bG]∧A.drop ar=bq∧Reps (RDStmt b7) 11 f bG∧f.length * 184 ≤ mB∧f108_l3 k F c bq ar f=some r_) A.length ?_ ?_
  ·exact ⟨_,K,A,0,([]:LS),none,0,[],rfl,fR,kr,eS,List.drop_zero,(reps0 (R:=(RDStmt K)) (size:=11)),(by simp),h⟩
  ·rintro _ _ br ⟨dv,b7,bq,ar,f,ak,al,bG,rfl,rfl,bH,cS,b8,dw,eT,h⟩
   rcases bq with _ | ⟨⟨t,u,cs,x,cj,y,bs,a7,aU,au,C⟩,bq⟩
   ·unfold f108_l3 at h
    refine sr (bcm (r:=false) rfl rfl (congrArg some (drop_nil_lt b8)) (wt (wp_seq (cndF rfl (wp_exit (thenX (thenX (blkX (thenN (sr (m1 (sl ak f al) (m2 (sl ak f al) (wt (wp_ret ?_))))))))))))))
    obtain ⟨eU,eV,gx,eW⟩:=shutI (i:=0) (bytes:=184) (R:=fun K=>(RDStmt K)) cS rfl (Nat.le_refl _) dw eT (fun hs=>(fun _ _ h=>RDStmt.mono hs h))
    cases (oi h).trans hr_
    exact retA1 rfl (resT rfl) ⟨eU,ak,al,rfl,eV,eW⟩
   ·unfold f108_l3 at h
    refine sr (bcm (r:=true) rfl rfl (congrArg some (drop_cons_t b8)) (wt (wp_seq (cndT rfl (wp_skip (thenN (wp_seq (wp_block (sr ?_)))))))))
    obtain ⟨eX,eY,gy,eZ,gz,e0,e1⟩:=((ms cm bH)).row.at_ (drop_cons_at b8)
    obtain ⟨bI,bJ,bu,bv,a8,a9,aH,aI,Z,ab,rfl,e2,e3,e4,e5,e6,e7,dx⟩:=RDStmt.open e1
    refine idxN (b:=eX) (o:=eY) (i:=ar) Tye36 Tys42 rfl eZ rfl (drop_cons_lt b8) (lD (vS t u cs x cj y bI bs bJ bu a7 bv a8 aU a9 aH au aI Z C ab) Tya42 Tys42 rfl (fun j v hj=>cS.cell (kr.cell (e0 j v hj))) (aC zS.toArray cS Tyz42 (fun gA e8=>(sI 0 (.agg (vS t u cs x cj y bI bs bJ bu a7 bv a8 aU a9 aH au aI Z C ab).toArray) ((vS t u cs x cj y bI bs bJ bu a7 bv a8 aU a9 aH au aI Z C ab).toArray) e8 Tys42 rfl rfl (fun gB dy=>(wt (wp_cut (fun a w=>∃ dz I J,a=fr 76 (updL dz [(1,.bool c),(5,.func (.func 129) #[] #[]),(6,sl ak f al),(8,pp (zz br) 0),(13,sl be A bf),(14,iI (A.length:Int)),(15,iI (ar:Int))])∧SR K b7 wi w [] [.box (zz wi) (zz br) (vS t u I x J y bI bs bJ bu a7 bv a8 aU a9 aH au aI Z C ab).toArray 42,.row (zz wi) (sl ak f al) 42 11 f.length bG]∧f108_j3 k F c f ar t u x y bs a7 aU au C I J (f108_l3 k F c bq)=some r_) ?_ ?_)))))))
    ·refine sr (m1 (.bool c) (uN c (wt (cd h (fun cU h=>?_) (fun cU h=>?_)))))
     ·refine cT cU (wp_region_lit (fd 2 Tyf42_2 rfl (sI 0 (iI 0) ((vS t u 0 x cj y bI bs bJ bu a7 bv a8 aU a9 aH au aI Z C ab).toArray) dy Tys3 rfl rfl (fun gD e9=>(fd 4 Tyf42_4 rfl (sI 0 (iI 0) ((vS t u 0 x 0 y bI bs bJ bu a7 bv a8 aU a9 aH au aI Z C ab).toArray) e9 Tys3 rfl rfl (fun fa fb=>?_)))))))
      have fc:=fb
      exact wt (⟨_,0,0,fR,fc,h⟩)
     ·exact cF cU (wp_skip (thenN (⟨_,cs,cj,fR,dy,h⟩)))
    ·rintro _ gF ⟨dz,I,J,rfl,cV,h⟩
     unfold f108_j3 at h
     refine sr (fd 6 Tyf42_6 rfl (l1 0 (sl bI bs bJ) cV Tya39 (m1 (.func (.func 129) #[] #[]) ?_)))
     obtain ⟨O,fe,h⟩:=ob h
     refine cv ([sl bI bs bJ,.func (.func 129) #[] #[]]) Tyb131 ((f1013115_ok k) fe (hG.mono bH) e4 (pt cV)) ?_
     rintro _ gG ⟨gH,av,aw,rfl,aJ,ff⟩
     have fg:=ca aJ cV
     refine fd 6 Tyf42_6 rfl (sI 0 (sl av O aw) ((vS t u I x J y av O aw bu a7 bv a8 aU a9 aH au aI Z C ab).toArray) fg Tys39 rfl rfl (fun gI cW=>(wt (sr (fd 7 Tyf42_7 rfl (l1 0 (sl bu a7 bv) cW Tya36 (m1 (.bool c) ?_)))))))
     obtain ⟨U,fh,h⟩:=ob h
     refine cv ([sl bu a7 bv,.bool c]) Tyb108 (IH108 fh (hG.mono (bH.trans aJ.sub)) (ms e5 aJ.sub) (pt cW)) ?_
     rintro _ gJ ⟨gK,aK,aL,rfl,aV,fi⟩
     have fj:=ca aV cW
     refine fd 7 Tyf42_7 rfl (sI 0 (sl aK U aL) ((vS t u I x J y av O aw aK U aL a8 aU a9 aH au aI Z C ab).toArray) fj Tys36 rfl rfl (fun gL cX=>(wt (sr (fd 8 Tyf42_8 rfl (l1 0 (sl a8 aU a9) cX Tya36 (m1 (.bool c) ?_)))))))
     obtain ⟨W,fk,h⟩:=ob h
     refine cv ([sl a8 aU a9,.bool c]) Tyb108 (IH108 fk (hG.mono ((bH.trans aJ.sub).trans aV.sub)) (ms e6 (aJ.sub.trans aV.sub)) (pt cX)) ?_
     rintro _ gM ⟨fl,aW,aX,rfl,ba,fm⟩
     have fn:=ca ba cX
     refine fd 8 Tyf42_8 rfl (sI 0 (sl aW W aX) ((vS t u I x J y av O aw aK U aL aW W aX aH au aI Z C ab).toArray) fn Tys36 rfl rfl (fun fo fp=>?_))
     have cY:=fp
     refine wt (sr (fd 9 Tyf42_9 rfl (l1 0 (sl aH au aI) cY Tya36 (m1 (.bool c) ?_))))
     obtain ⟨af,fs,h⟩:=ob h
     refine cv ([sl aH au aI,.bool c]) Tyb108 (IH108 fs (hG.mono (((bH.trans aJ.sub).trans aV.sub).trans ba.sub)) (ms e7 ((aJ.sub.trans aV.sub).trans ba.sub)) (pt cY)) ?_
     rintro _ gN ⟨cZ,bw,bx,rfl,bz,ft⟩
     have fu:=ca bz cY
     refine fd 9 Tyf42_9 rfl (sI 0 (sl bw af bx) ((vS t u I x J y av O aw aK U aL aW W aX bw af bx Z C ab).toArray) fu Tys36 rfl rfl (fun gO dA=>(wt (sr (m2 nS (wt (wp_seq (sr (fd 10 Tyf42_10 rfl (l1 0 (sl Z C ab) dA Tya40 (lS C.length Tye40 (m1 (iI 0) (wt (wp_block ?_))))))))))))))
     have fv:=dA.row_ (zz wi) 87 5
     refine wp_loopG (fun g_ a w=>∃ dB ck bP,∃ (bA:Nat),∃ z aM aN ct,g_=bP.length∧a=fr 76 (updL dB [(1,.bool c),(5,.func (.func 129) #[] #[]),(6,sl ak f al),(8,pp (zz br) 0),(9,sl aM z aN),(13,sl be A bf),(14,iI (A.length:Int)),(15,iI (ar:Int)),(44,sl Z C ab),(45,iI (C.length:Int)),(46,iI (bA:Int))])∧KH.sub cZ ck∧SR K ck wi w [] [.box (zz wi) (zz br) (vS t u I x J y av O aw aK U aL aW W aX bw af bx Z C ab).toArray 42,.row (zz wi) (sl ak f al) 42 11 f.length bG,.row (zz wi) (sl aM z aN) 87 5 z.length ct]∧C.drop bA=bP∧Reps (RDCase ck) 5 z ct∧z.length * 80 ≤ mB∧f108_l4 k F c f ar t u x y I J O U W af (f108_l3 k F c bq) bP bA z=some r_) C.length ?_ ?_
     ·exact ⟨_,cZ,C,0,([]:LC),none,0,[],rfl,fR,kr,(fv.sel [1,2,0]),List.drop_zero,(reps0 (R:=(RDCase cZ)) (size:=5)),(by simp),h⟩
     ·rintro _ _ c2 ⟨dB,ck,bP,bA,z,aM,aN,ct,rfl,rfl,bb,c3,b9,dC,fx,h⟩
      rcases bP with _ | ⟨⟨ag,ah,cu,bQ,bK⟩,bP⟩
      ·unfold f108_l4 at h
       refine sr (bcm (r:=false) rfl rfl (congrArg some (drop_nil_lt b9)) (wt (wp_seq (cndF rfl (wp_exit (thenX (thenX (blkX (thenN (sr (m1 (sl aM z aN) (fd 10 Tyf42_10 rfl (sI 0 (sl aM z aN) ((vS t u I x J y av O aw aK U aL aW W aX bw af bx aM z aN).toArray) c3 Tys40 rfl rfl (fun gP dD=>(wt (wp_region_lit (m1 (sl ak f al) (lN 0 (vS t u I x J y av O aw aK U aL aW W aX bw af bx aM z aN) dD Tya42 Tys42 (bsl (e:=42) (cells:=(vS t u I x J y av O aw aK U aL aW W aX bw af bx aM z aN).toArray) (vs:=[(0,.agg (vS t u I x J y av O aw aK U aL aW W aX bw af bx aM z aN).toArray)]) dD rfl (buildSl_one Tye36 Tys42 Tyz42 rfl (by decide) (by decide) rfl) (fun gQ fy=>?_))))))))))))))))))))
       obtain ⟨c4,fz,cb,fA⟩:=shutI (i:=3) (bytes:=80) (R:=fun K=>(RDCase K)) fy rfl (Nat.le_refl _) dC fx (fun hs=>(fun _ _ h=>RDCase.mono hs h))
       obtain ⟨dE,h⟩:=of_guard h
       refine apR (R:=(RDStmt c4)) (p:=(DStmt.mk t u I x J y O U W af z)) (i:=2) (j:=0) fz rfl rfl Tye36 Tyi42 rfl (by decide) rfl rfl (dw.mono (fun _ _ h=>RDStmt.mono (((((aJ.sub.trans aV.sub).trans ba.sub).trans bz.sub).trans bb).trans cb) h)) (RDStmt.intro e2 e3 (me ff ((((aV.sub.trans ba.sub).trans bz.sub).trans bb).trans cb)) (ms fi (((ba.sub.trans bz.sub).trans bb).trans cb)) (ms fm ((bz.sub.trans bb).trans cb)) (ms ft (bb.trans cb)) fA) rfl rfl (Nat.le_refl _) dE (by decide) (fun c5 c6 dF fB fC fD=>?_)
       have fE:=p12 fC
       exact m2 (.slice c5 (f ++ [(DStmt.mk t u I x J y O U W af z)]).length c6) (wpList_nil (blkN (thenN (wp_region_lit (bar (r:=((ar + 1:Nat):Int)) rfl rfl (inc_ok (le_big (((ms cm bH)).len) (by decide) (drop_cons_lt b8))) (m1 (iI ((ar + 1:Nat):Int)) (wt (⟨_,Nat.lt_succ_self _,_,c4,bq,ar + 1,(f ++ [(DStmt.mk t u I x J y O U W af z)]),c5,c6,dF,rfl,fR,((((((bH.trans aJ.sub).trans aV.sub).trans ba.sub).trans bz.sub).trans bb).trans cb),(fE.sel [1]),drop_cons_next b8,fD,(app_bound dE),h⟩))))))))
      ·unfold f108_l4 at h
       refine sr (bcm (r:=true) rfl rfl (congrArg some (drop_cons_t b9)) (wt (wp_seq (cndT rfl (wp_skip (thenN (wp_seq (wp_block (sr ?_)))))))))
       obtain ⟨fF,fG,gR,fH,gT,fI,fJ⟩:=((mc dx ((((aJ.sub.trans aV.sub).trans ba.sub).trans bz.sub).trans bb))).row.at_ (drop_cons_at b9)
       obtain ⟨bX,bY,bR,bS,rfl,fK,fL,fM⟩:=RDCase.open fJ
       refine idxN (b:=fF) (o:=fG) (i:=bA) Tye40 Tys87 rfl fH rfl (drop_cons_lt b9) (lD (vC ag ah cu bX bQ bY bR bK bS) Tya87 Tys87 rfl (fun j v hj=>c3.cell (kr.cell (fI j v hj))) (aC zC.toArray c3 Tyz87 (fun gU fN=>(sI 0 (.agg (vC ag ah cu bX bQ bY bR bK bS).toArray) ((vC ag ah cu bX bQ bY bR bK bS).toArray) fN Tys87 rfl rfl (fun gV dG=>(wt (wp_cut (fun a w=>∃ dH ax,a=fr 76 (updL dH [(1,.bool c),(5,.func (.func 129) #[] #[]),(6,sl ak f al),(8,pp (zz br) 0),(9,sl aM z aN),(11,pp (zz c2) 0),(13,sl be A bf),(14,iI (A.length:Int)),(15,iI (ar:Int)),(44,sl Z C ab),(45,iI (C.length:Int)),(46,iI (bA:Int))])∧SR K ck wi w [] [.box (zz wi) (zz br) (vS t u I x J y av O aw aK U aL aW W aX bw af bx Z C ab).toArray 42,.box (zz wi) (zz c2) (vC ag ah ax bX bQ bY bR bK bS).toArray 87,.row (zz wi) (sl ak f al) 42 11 f.length bG,.row (zz wi) (sl aM z aN) 87 5 z.length ct]∧f108_j4 k F c z bA ag ah bQ bK ax (f108_l4 k F c f ar t u x y I J O U W af (f108_l3 k F c bq) bP)=some r_) ?_ ?_)))))))
       ·refine sr (m1 (.bool c) (uN c (wt (cd h (fun c7 h=>?_) (fun c7 h=>?_)))))
        ·exact cT c7 (wp_region_lit (fd 2 Tyf87_2 rfl (sI 0 (iI 0) ((vC ag ah 0 bX bQ bY bR bK bS).toArray) dG Tys3 rfl rfl (fun gW fO=>(wt (⟨_,0,fR,(fO.sel [1,0,2,3]),h⟩))))))
        ·exact cF c7 (wp_skip (thenN (⟨_,cu,fR,(dG.sel [1,0,2,3]),h⟩)))
       ·rintro _ gX ⟨dH,ax,rfl,c8,h⟩
        unfold f108_j4 at h
        refine sr (fd 3 Tyf87_3 rfl (l1 1 (sl bX bQ bY) c8 Tya39 (m1 (.func (.func 129) #[] #[]) ?_)))
        obtain ⟨aY,fP,h⟩:=ob h
        refine cv ([sl bX bQ bY,.func (.func 129) #[] #[]]) Tyb131 ((f1013115_ok k) fP (hG.mono (((((bH.trans aJ.sub).trans aV.sub).trans ba.sub).trans bz.sub).trans bb)) fL (pt c8)) ?_
        rintro _ gY ⟨gZ,bZ,b0,rfl,cl,fQ⟩
        have fS:=ca cl c8
        refine fd 3 Tyf87_3 rfl (sI 1 (sl bZ aY b0) ((vC ag ah ax bZ aY b0 bR bK bS).toArray) fS Tys39 rfl rfl (fun g0 c9=>(wt (sr (fd 4 Tyf87_4 rfl (l1 1 (sl bR bK bS) c9 Tya36 (m1 (.bool c) ?_)))))))
        obtain ⟨bd,fT,h⟩:=ob h
        refine cv ([sl bR bK bS,.bool c]) Tyb108 (IH108 fT (hG.mono ((((((bH.trans aJ.sub).trans aV.sub).trans ba.sub).trans bz.sub).trans bb).trans cl.sub)) (ms fM cl.sub) (pt c9)) ?_
        rintro _ g1 ⟨da,cc,ce,rfl,cw,fU⟩
        have fV:=ca cw c9
        refine fd 4 Tyf87_4 rfl (sI 1 (sl cc bd ce) ((vC ag ah ax bZ aY b0 cc bd ce).toArray) fV Tys36 rfl rfl (fun g2 dI=>(wt (wp_region_lit (m1 (sl aM z aN) (lN 1 (vC ag ah ax bZ aY b0 cc bd ce) dI Tya87 Tys87 (bsl (e:=87) (cells:=(vC ag ah ax bZ aY b0 cc bd ce).toArray) (vs:=[(0,.agg (vC ag ah ax bZ aY b0 cc bd ce).toArray)]) dI rfl (buildSl_one Tye40 Tys87 Tyz87 rfl (by decide) (by decide) rfl) (fun g3 fW=>?_))))))))
        obtain ⟨dJ,h⟩:=of_guard h
        refine apR (R:=(RDCase da)) (p:=(DCase.mk ag ah ax aY bd)) (i:=4) (j:=0) fW rfl rfl Tye40 Tyi87 rfl (by decide) rfl rfl (dC.mono (fun _ _ h=>RDCase.mono (cl.sub.trans cw.sub) h)) (RDCase.intro fK (me fQ cw.sub) fU) rfl rfl (Nat.le_refl _) dJ (by decide) (fun db dc dK fX fY fZ=>?_)
        have f0:=p1234 fY
        exact m2 (.slice db (z ++ [(DCase.mk ag ah ax aY bd)]).length dc) (wpList_nil (blkN (thenN (wp_region_lit (bar (r:=((bA + 1:Nat):Int)) rfl rfl (inc_ok (le_big (((mc dx ((((aJ.sub.trans aV.sub).trans ba.sub).trans bz.sub).trans bb))).len) (by decide) (drop_cons_lt b9))) (m1 (iI ((bA + 1:Nat):Int)) (wt (⟨_,Nat.lt_succ_self _,_,da,bP,bA + 1,(z ++ [(DCase.mk ag ah ax aY bd)]),db,dc,dK,rfl,fR,((bb.trans cl.sub).trans cw.sub),(f0.sel [0,2,3]),drop_cons_next b9,fZ,(app_bound dJ),h⟩))))))))
theorem fam108_ok (k0:Nat) : ∀ k,f108_spec (fam108 k0 k).f108:=by
 intro k
 induction k with
 | zero=>exact (by unfold f108_spec; intro _ _ _ _ _ _ _ h_; cases h_)
 | succ k ih=>exact f108_b_ok k0 (fam108 k0 k) ih
theorem f108_ok (k:Nat):f108_spec (f108 k):=(fam108_ok k k)
theorem f88_b_ok (k:Nat):f88_spec (f88_b k):=by
 unfold f88_spec
 intro K wi aA be z bf h hG aB aE
 obtain ⟨r_,hr_,h⟩:=rz h
 obtain ⟨x⟩:=aA
 obtain ⟨ae,c1,rfl,aq⟩:=RDProgram.open aB
 refine enter Tryz.func88 rfl (n:=35) rfl ?_
 unfold f88_b at h
 refine sr (bxoC (cs:=#[sl ae x c1]) aE rfl rfl (fun V aF=>(aC #[nS] aF Tyz24 (fun W aG=>(wt (sr (aC #[nS] aG Tyz24 (fun bg ar=>(wt (wp_seq (sr (fd 0 Tyf24_0 rfl (l1 2 (sl ae x c1) ar Tya22 (lS x.length Tye22 (m1 (iI 0) (wt (wp_block ?_)))))))))))))))))
 have aH:=ar.row_ (zz wi) 38 6
 refine wp_loopG (fun g_ a w=>∃ au ab B,∃ (y:Nat),∃ c t u af,g_=B.length∧a=fr 35 (updL au [(1,.bool z),(4,pp (zz V) 0),(5,pp (zz W) 0),(9,sl ae x c1),(10,iI (x.length:Int)),(11,iI (y:Int))])∧KH.sub K ab∧SR K ab wi w [] [.box (zz wi) (zz V) #[nS] 24,.box (zz wi) (zz W) #[sl t c u] 24,.row (zz wi) (sl t c u) 38 6 c.length af]∧x.drop y=B∧Reps (RDFunc ab) 6 c af∧c.length * 88 ≤ mB∧f88_l1 k z B y c=some r_) x.length ?_ ?_
 ·exact ⟨_,K,x,0,([]:LF),none,0,[],rfl,fR,kr,(aH.sel [2,1,0]),List.drop_zero,(reps0 (R:=(RDFunc K)) (size:=6)),(by simp),h⟩
 ·rintro _ _ ag ⟨au,ab,B,y,c,t,u,af,rfl,rfl,ac,ah,X,av,aI,h⟩
  rcases B with _ | ⟨⟨d,C,f,g,ai,A⟩,B⟩
  ·unfold f88_l1 at h
   refine sr (bcm (r:=false) rfl rfl (congrArg some (drop_nil_lt X)) (wt (wp_seq (cndF rfl (wp_exit (thenX (thenX (blkX (thenN (sr (lN 1 ([sl t c u]) ah Tya24 Tys24 (sI 0 (.agg #[sl t c u]) #[sl t c u] ah Tys24 rfl rfl (fun bh aw=>(wt (wp_ret ?_)))))))))))))))
   obtain ⟨aJ,aK,bi,aL⟩:=shutI (i:=2) (bytes:=88) (R:=fun K=>(RDFunc K)) aw rfl (Nat.le_refl _) av aI (fun hs=>(fun _ _ h=>RDFunc.mono hs h))
   cases (oi h).trans hr_
   exact retA1 rfl (resN (i:=0) (l:=[sl t c u]) aw rfl Tya24 Tys24 rfl rfl rfl) ⟨aJ,[sl t c u],rfl,(aK.sel []),(RDProgram.intro aL)⟩
  ·unfold f88_l1 at h
   refine sr (bcm (r:=true) rfl rfl (congrArg some (drop_cons_t X)) (wt (wp_seq (cndT rfl (wp_skip (thenN (wp_seq (wp_block (sr ?_)))))))))
   obtain ⟨aM,aN,bj,aP,bk,aQ,aR⟩:=((mf aq ac)).row.at_ (drop_cons_at X)
   obtain ⟨N,O,D,G,rfl,aS,aT,aU⟩:=RDFunc.open aR
   refine idxN (b:=aM) (o:=aN) (i:=y) Tye22 Tys38 rfl aP rfl (drop_cons_lt X) (lD (vF d N C O f g ai D A G) Tya38 Tys38 rfl (fun j v hj=>ah.cell (kr.cell (aQ j v hj))) (aC zF.toArray ah Tyz38 (fun bm aV=>(sI 0 (.agg (vF d N C O f g ai D A G).toArray) ((vF d N C O f g ai D A G).toArray) aV Tys38 rfl rfl (fun bn ax=>(wt (wp_cut (fun a w=>∃ ay m,a=fr 35 (updL ay [(1,.bool z),(4,pp (zz V) 0),(5,pp (zz W) 0),(7,pp (zz ag) 0),(9,sl ae x c1),(10,iI (x.length:Int)),(11,iI (y:Int))])∧SR K ab wi w [] [.box (zz wi) (zz V) #[nS] 24,.box (zz wi) (zz W) #[sl t c u] 24,.box (zz wi) (zz ag) (vF d N C O f g m D A G).toArray 38,.row (zz wi) (sl t c u) 38 6 c.length af]∧f88_j1 k z c y d C f g A m (f88_l1 k z B)=some r_) ?_ ?_)))))))
   ·refine sr (m1 (.bool z) (uN z (wt (cd h (fun al h=>?_) (fun al h=>?_)))))
    ·exact cT al (wp_region_lit (fd 4 Tyf38_4 rfl (sI 0 (iI 0) ((vF d N C O f g 0 D A G).toArray) ax Tys3 rfl rfl (fun bo aW=>(wt (⟨_,0,fR,(aW.sel [1,2,0,3]),h⟩))))))
    ·exact cF al (wp_skip (thenN (⟨_,ai,fR,(ax.sel [1,2,0,3]),h⟩)))
   ·rintro _ bp ⟨ay,m,rfl,am,h⟩
    unfold f88_j1 at h
    refine sr (fd 1 Tyf38_1 rfl (l1 2 (sl N C O) am Tya35 ?_))
    obtain ⟨q,aX,h⟩:=ob h
    refine cv ([sl N C O]) Tyb104 ((f104_ok k) aX (hG.mono ac) aT (pt am)) ?_
    rintro _ bq ⟨br,I,J,rfl,ad,aY⟩
    have aZ:=ca ad am
    refine fd 1 Tyf38_1 rfl (sI 2 (sl I q J) ((vF d I q J f g m D A G).toArray) aZ Tys35 rfl rfl (fun bs an=>(wt (sr (fd 5 Tyf38_5 rfl (l1 2 (sl D A G) an Tya36 (m1 (.bool z) ?_)))))))
    obtain ⟨s,a2,h⟩:=ob h
    refine cv ([sl D A G,.bool z]) Tyb108 ((f108_ok k) a2 (hG.mono (ac.trans ad.sub)) (ms aU ad.sub) (pt an)) ?_
    rintro _ bu ⟨aj,S,U,rfl,ak,a3⟩
    have a4:=ca ak an
    refine fd 5 Tyf38_5 rfl (sI 2 (sl S s U) ((vF d I q J f g m S s U).toArray) a4 Tys36 rfl rfl (fun bv ao=>(wt (wp_region_lit (fd 0 Tyf24_0 rfl (l1 1 (sl t c u) ao Tya22 (lN 2 (vF d I q J f g m S s U) ao Tya38 Tys38 (bsl (e:=38) (cells:=(vF d I q J f g m S s U).toArray) (vs:=[(0,.agg (vF d I q J f g m S s U).toArray)]) ao rfl (buildSl_one Tye22 Tys38 Tyz38 rfl (by decide) (by decide) rfl) (fun bw a5=>?_)))))))))
    obtain ⟨az,h⟩:=of_guard h
    refine apR (R:=(RDFunc aj)) (p:=(DFunc.mk d q f g m s)) (i:=4) (j:=0) a5 rfl rfl Tye22 Tyi38 rfl (by decide) rfl rfl (av.mono (fun _ _ h=>RDFunc.mono (ad.sub.trans ak.sub) h)) (RDFunc.intro aS (mp aY ak.sub) a3) rfl rfl (Nat.le_refl _) az (by decide) (fun Y Z ap a6 a7 a8=>?_)
    have a9:=p1234 a7
    refine fd 0 Tyf24_0 rfl (sI 1 (.slice Y (c ++ [(DFunc.mk d q f g m s)]).length Z) #[.slice Y (c ++ [(DFunc.mk d q f g m s)]).length Z] a9 Tys22 rfl rfl (fun ba bb=>?_))
    have bd:=bb
    exact wpList_nil (blkN (thenN (wp_region_lit (bar (r:=((y + 1:Nat):Int)) rfl rfl (inc_ok (le_big (((mf aq ac)).len) (by decide) (drop_cons_lt X))) (m1 (iI ((y + 1:Nat):Int)) (wt (⟨_,Nat.lt_succ_self _,_,aj,B,y + 1,(c ++ [(DFunc.mk d q f g m s)]),Y,Z,ap,rfl,fR,((ac.trans ad.sub).trans ak.sub),(bd.sel [0,1,3]),drop_cons_next X,a8,(app_bound az),h⟩)))))))
theorem f88_ok (k:Nat):f88_spec (f88 k):=f88_b_ok k
theorem f50_b_ok (k:Nat):f50_spec (f50_b k):=by
 unfold f50_spec
 intro K wi r O r_ h hG s t
 obtain ⟨a⟩:=r
 obtain ⟨b,c1,rfl,p⟩:=RDProgram.open s
 refine enter Tryz.func50 rfl (n:=8) rfl ?_
 unfold f50_b at h
 refine sr (bxoC (cs:=#[sl b a c1]) t rfl rfl (fun S u=>(aC #[nS] u Tyz24 (fun U g=>(wt (sr (lN 1 ([sl b a c1]) g Tya24 Tys24 ?_)))))))
 obtain ⟨v,w,h⟩:=ob h
 refine cv ([.agg #[sl b a c1],vT]) Tyb78 ((f78_ok k) w (hG.mono kr) (RDProgram.intro p) (pt g)) ?_
 rintro _ V ⟨W,rfl,d⟩
 have j:=ca d g
 obtain ⟨X,x,h⟩:=ob h
 refine cp ([.bool v,iI 2]) Tyb58 ((f58_ok k) x (hG.mono d.sub) (pt j)) ?_ ?_
 ·rintro _ Y ⟨Z,rfl,rfl,m⟩
  have o:=ca m j
  refine wt (sr (lN 1 ([sl b a c1]) o Tya24 Tys24 ?_))
  obtain ⟨⟨c⟩,y,h⟩:=ob h
  refine cv ([.agg #[sl b a c1],vN]) Tyb88 ((f88_ok k) y (hG.mono (d.sub.trans m.sub)) (RDProgram.intro (mf p (d.sub.trans m.sub))) (pt o)) ?_
  rintro _ ab ⟨z,ac,rfl,A,B⟩
  have C:=ca A o
  obtain ⟨e,f,rfl,D⟩:=RDProgram.open B
  exact sI 0 (.agg #[sl e c f]) #[sl e c f] C Tys24 rfl rfl (fun ad q=>(wt (wp_ret (retP (retA1 rfl (resN (i:=0) (l:=[sl e c f]) q rfl Tya24 Tys24 rfl rfl rfl) ⟨(DProgram.mk c),z,[sl e c f],(oi h).symm,rfl,(q.sel []),(RDProgram.intro D)⟩)))))
 ·rintro _ ae ⟨G,I,rfl,rfl,J⟩
  have N:=ca J j
  exact thenP (panE (.inr ⟨_,rfl,G,I,(oi h).symm,rfl,N.sel []⟩))
theorem f50_ok (k:Nat):f50_spec (f50 k):=f50_b_ok k
theorem f54_b_ok (k:Nat):f54_spec (f54_b k):=by
 unfold f54_spec
 intro K wi an bb f r_ h hG ao ap
 obtain ⟨Y⟩:=an
 obtain ⟨Z,c1,rfl,aq⟩:=RDProgram.open ao
 refine enter Tryz.func54 rfl (n:=30) rfl ?_
 unfold f54_b at h
 refine sr (bxoC (cs:=#[sl Z Y c1]) ap rfl rfl (fun z ar=>(aC #[nS] ar Tyz24 (fun bd G=>(m2 nS (wt (sr (lN 1 ([sl Z Y c1]) G Tya24 Tys24 ?_))))))))
 obtain ⟨be,au,h⟩:=ob h
 refine cp ([.agg #[sl Z Y c1]]) Tyb50 ((f50_ok k) au (hG.mono kr) (RDProgram.intro aq) (pt G)) ?_ ?_
 ·rintro _ ab ⟨⟨c⟩,bf,bg,rfl,rfl,I,av⟩
  have aw:=ca I G
  obtain ⟨d,e,rfl,ac⟩:=RDProgram.open av
  refine aC #[nS] aw Tyz24 (fun bh ax=>(sI 0 (.agg #[sl d c e]) #[sl d c e] ax Tys24 rfl rfl (fun bi J=>(wt (sr (lN 0 ([sl d c e]) J Tya24 Tys24 ?_))))))
  obtain ⟨bj,ay,h⟩:=ob h
  refine cp ([.agg #[sl d c e]]) Tyb44 ((f44_ok k) _ _ _ _ _ ay (hG.mono I.sub) (RDProgram.intro ac) (pt J)) ?_ ?_
  ·rintro _ bk ⟨⟨N⟩,g,az,bm,t,u,rfl,rfl,A,aA,aB⟩
   have aE:=ca A J
   obtain ⟨O,S,rfl,bn⟩:=RDProgram.open aA
   refine m1 (.tuple #[.agg #[sl O N S],sl t g u]) (ext (v:=.agg #[sl O N S]) rfl rfl (ext (v:=sl t g u) rfl rfl (aC #[nS] aE Tyz24 (fun bo aF=>(sI 0 (.agg #[sl O N S]) #[sl O N S] aF Tys24 rfl rfl (fun bp y=>(m2 (sl t g u) (wt (wp_cut (fun a w=>∃ ae m,a=fr 30 (updL ae [(1,iI f),(4,pp (zz z) 0),(6,pp (zz ab) 0),(8,sl t g u)])∧KH.sub az m∧SR K m wi w [] [.box (zz wi) (zz z) #[nS] 24,.box (zz wi) (zz ab) #[sl d c e] 24]∧f54_j1 k f c g=some r_) ?_ ?_)))))))))
   ·refine wp_region_lit (m1 (iI f) (c0 (decide (f ≥ 0)) (m1 (.bool (decide (f ≥ 0))) (cd h (fun j h=>?_) (fun j h=>?_)))))
    ·refine n1 18 j (m1 (iI f) (n1 18 j (m1 (sl t g u) (n1 18 j (lS g.length Tye73 (n1 18 j (c0 (decide (f < (g.length:Int))) (m3 true (.bool (decide (f < (g.length:Int)))) (cg j) ?_))))))))
     obtain ⟨bq,aG,h⟩:=ob h
     refine cp ([.bool (decide (f < (g.length:Int))),iI 2]) Tyb58 ((f58_ok k) aG (hG.mono (I.sub.trans A.sub)) (pt y)) ?_ ?_
     ·rintro _ br ⟨aH,rfl,rfl,af⟩
      have aI:=ca af y
      exact wt (⟨_,aH,fR,af.sub,(aI.sel [2,1]),h⟩)
     ·rintro _ bs ⟨aJ,aK,rfl,rfl,aL⟩
      have aM:=ca aL y
      exact thenP (panE (.inr ⟨_,rfl,aJ,aK,(oi h).symm,rfl,aM.sel []⟩))
    ·refine o1 18 j (o1 18 j (o1 18 j (o1 18 j (m3 false vN (cg j) ?_))))
     obtain ⟨bu,aN,h⟩:=ob h
     refine cp ([vN,iI 2]) Tyb58 ((f58_ok k) aN (hG.mono (I.sub.trans A.sub)) (pt y)) ?_ ?_
     ·rintro _ bv ⟨aP,rfl,rfl,ag⟩
      have aQ:=ca ag y
      exact wt (⟨_,aP,fR,ag.sub,(aQ.sel [2,1]),h⟩)
     ·rintro _ bw ⟨aR,aS,rfl,rfl,aT⟩
      have aU:=ca aT y
      exact thenP (panE (.inr ⟨_,rfl,aR,aS,(oi h).symm,rfl,aU.sel []⟩))
   ·rintro _ bx ⟨ae,m,rfl,U,aV,h⟩
    unfold f54_j1 at h
    refine wp_cut (fun a w=>∃ ah x B C D V W,a=fr 30 (updL ah [(4,pp (zz z) 0),(5,sl V D W)])∧SR K m wi w [] [.box (zz wi) (zz z) #[sl B x C] 24]∧tF m B C x∧RSl BA RStr 1 16 m V W D∧f54_j2 k x D=some r_) ?_ ?_
    ·have p:=aV.drew
     refine regAny (E:=[5]) (F:=FW m [.box (zz wi) (zz z) #[nS] 24,.box (zz wi) (zz ab) #[sl d c e] 24]) (L:=(lb 7 0)) ymx rfl rfl (tf 0 (.agg #[sl d c e]) ([[5,0]]) (lb 7 1) rfl (fq [0,1] p) (fun w hF=>lbN_r (i:=1) (l:=[sl d c e]) hF rfl Tya24 Tys24 rfl rfl rfl) (tk 1 (sl t g u) (lb 7 3) rfl (fun w=>mv_r (v:=sl t g u) rfl) (heldF (fq [0,1] p)) (tk 2 (iI f) (lb 7 7) rfl (fun w=>mv_r (v:=iI f) rfl) (heldF (fq [0,1] p)) ?_)))
     obtain ⟨q,ad,h⟩:=ob h
     obtain ⟨ai,aj,bz,aW,bA,ak,aX⟩:=((aB.mono U (fun _ _ h=>RSlE.mono (fun _ _ _ h=>h) U h))).row.at_ (idxO_at ad).1
     obtain ⟨r,s,rfl,al⟩:=aX
     refine tk 3 (pp ai (aj + f.toNat * 1)) (lb 7 15) rfl (fun w=>idxG_r (b:=ai) (o:=aj) (i:=f) Tye73 Tys46 rfl aW rfl (idxO_at ad).2.1 (idxO_at ad).2.2) (heldF (fq [0,1] p)) (anyAll (rs:=[4,5]) (by kernel_rfl) (by decide) (allC ?_ (allC ?_ allN)))
     ·exact opL (i:=4) rfl (ld1 (v:=sl r q s) Tya46 rfl (p.cell (kr.cell (ak 0 _ rfl))) (wt ⟨heldF (fq [0,1] p),aO 5 rfl (sI 0 (.agg #[sl d c e]) #[sl d c e] p Tys24 rfl rfl (fun aY X=>(wt ⟨heldE (i:=5) rfl rfl,tk 6 (sl r q s) (lb 7 127) rfl (fun w=>asg_r (v:=sl r q s) rfl) (heldE (i:=5) rfl rfl) (aD (thenN (⟨_,c,d,e,q,r,s,fR,(X.sel [0]),(mf ac (A.sub.trans U)),al,h⟩)))⟩)))⟩))
     ·exact opL (i:=5) rfl (sI 0 (.agg #[sl d c e]) #[sl d c e] p Tys24 rfl rfl (fun aY X=>(wt ⟨heldE (i:=5) rfl rfl,aO 4 rfl (ld1 (v:=sl r q s) Tya46 rfl (X.cell (kr.cell (ak 0 _ rfl))) (wt ⟨heldE (i:=5) rfl rfl,tk 6 (sl r q s) (lb 7 127) rfl (fun w=>asg_r (v:=sl r q s) rfl) (heldE (i:=5) rfl rfl) (aD (thenN (⟨_,c,d,e,q,r,s,fR,(X.sel [0]),(mf ac (A.sub.trans U)),al,h⟩)))⟩))⟩)))
    ·rintro _ bB ⟨ah,x,B,C,D,V,W,rfl,am,aZ,a2,h⟩
     unfold f54_j2 at h
     exact wp_ret (retP (retA2 rfl (resN (i:=0) (l:=[sl B x C]) am rfl Tya24 Tys24 rfl rfl rfl) (resT rfl) ⟨(DProgram.mk x),D,m,[sl B x C],V,W,(oi h).symm,rfl,(am.sel []),(RDProgram.intro aZ),a2⟩))
  ·rintro _ bC ⟨a3,a4,rfl,rfl,a5⟩
   have a6:=ca a5 J
   exact thenP (panE (.inr ⟨_,rfl,a3,a4,(oi h).symm,rfl,a6.sel []⟩))
 ·rintro _ bD ⟨a7,a8,rfl,rfl,a9⟩
  have ba:=ca a9 G
  exact thenP (panE (.inr ⟨_,rfl,a7,a8,(oi h).symm,rfl,ba.sel []⟩))
theorem f54_ok (k:Nat):f54_spec (f54 k):=f54_b_ok k
theorem f1005395_b_ok (k:Nat):f1005395_spec (f1005395_b k):=by
 unfold f1005395_spec
 intro K wi g bs e f i gA bsA sA gB bsB sB AsB csB r_ h hG j hsB a
 refine enter Tryz.func53 rfl (n:=9) rfl ?_
 unfold f1005395_b at h
 refine wp_region_lit (lN 0 ([sl f e i]) a Tya24 Tys24 (l1 1 (iI sA) a Tya3 ?_))
 obtain ⟨B,q,h⟩:=ob h
 refine cp ([.agg #[sl f e i],iI sA]) Tyb54 ((f54_ok k) q (hG.mono kr) (RDProgram.intro j) (pt a)) ?_ ?_
 ·rintro _ C ⟨⟨l⟩,b,r,D,c,d,rfl,rfl,m,s,t⟩
  have u:=ca m a
  obtain ⟨o,p,rfl,G⟩:=RDProgram.open s
  exact m1 (.tuple #[.agg #[sl o l p],sl c b d]) (ext (v:=.agg #[sl o l p]) rfl rfl (ext (v:=sl c b d) rfl rfl (sI 2 (sl c b d) #[sl c b d] u Tys46 rfl rfl (fun I w=>(wpList_nil (retP (end0 rfl ⟨e,sA,b,r,f,i,c,d,(oi h).symm,rfl,w,(mf j m.sub),t⟩)))))))
 ·rintro _ J ⟨x,y,rfl,rfl,z⟩
  have A:=ca z a
  exact panE (.inr ⟨_,rfl,x,y,(oi h).symm,rfl,A.sel [0,1,2]⟩)
theorem f1005395_ok (k:Nat):f1005395_spec (f1005395 k):=f1005395_b_ok k
theorem f1004236_ok (k:Nat):f1004236_spec (f1004236 k):=by
 unfold f1004236_spec
 intro K w g bs a c d gA bsA sA gB bsB sB AsB csB oz_0 ozA ozB or0 h hG e hsB j
 unfold f1004236 at h
 obtain ⟨r_,hr_⟩ : ∃ r_,r_=f1005395 k (DProgram.mk a) sA sB:=⟨_,rfl⟩
 rcases r_ with _ | r_
 ·rw [← hr_] at h; cases h
 refine (guard_ok (R:=fun w K_ H_=>∃ uz_0 uzA uzB uAz_0 ucz_0 uAzB uczB,r_=.ok ((DProgram.mk uz_0),uzA,uzB)∧H_=[.box bs g #[sl uAz_0 uz_0 ucz_0] 24,.box bsA gA #[iI uzA] 3,.box bsB gB #[sl uAzB uzB uczB] 46]∧tF K_ uAz_0 ucz_0 uz_0∧RSl BA RStr 1 16 K_ uAzB uczB uzB) (R':=fun c_ K_ H_=>r_=.error c_∧H_=[.box bs g #[sl c a d] 24,.box bsA gA #[iI sA] 3,.box bsB gB #[sl AsB sB csB] 46]) Tyb53 j (fun f l hle=>((f1005395_ok k) hr_.symm hG e hsB l).mono ?_)).mono ?_
 ·rintro e_ w_ (⟨v_,rfl,uz_0,uzA,uzB,K_,uAz_0,ucz_0,uAzB,uczB,b,i,T_,k0,k1⟩ | ⟨v_,rfl,c_,K_,b,i,T_⟩)
  ·exact .inl ⟨v_,rfl,K_,_,T_,uz_0,uzA,uzB,uAz_0,ucz_0,uAzB,uczB,b,rfl,k0,k1⟩
  ·exact .inr ⟨v_,rfl,c_,K_,_,i,T_,b,rfl⟩
 ·rintro e_ w_ ⟨v_,rfl,⟨f,K_,H_,hle,rfl,T_,uz_0,uzA,uzB,uAz_0,ucz_0,uAzB,uczB,rfl,rfl,k0,k1⟩ | ⟨c_,K_,H_,rfl,T_,rfl,rfl⟩⟩
  ·rw [← hr_] at h
   cases h
   exact ⟨_,rfl,K_,uAz_0,ucz_0,uAzB,uczB,rfl,T_,k0,k1⟩
  ·rw [← hr_] at h
   cases h
   exact ⟨_,rfl,K_,_,_,_,_,rfl,T_,(mf e T_.sub),(hsB.mono T_.sub (fun _ _ h=>h))⟩
theorem f26_b_ok (k:Nat):f26_spec (f26_b k):=by
 unfold f26_spec
 intro K wi q I g J N h hG r s
 obtain ⟨r_,hr_,h⟩:=rz h
 obtain ⟨j⟩:=q
 obtain ⟨l,c1,rfl,t⟩:=RDProgram.open r
 refine enter Tryz.func26 rfl (n:=10) rfl ?_
 unfold f26_b at h
 refine sr (bxoC (cs:=#[sl l j c1]) s rfl rfl (fun d u=>(bxoC (cs:=#[iI g]) u rfl rfl (fun e w=>(aC #[nS] w Tyz46 (fun x y=>(m2 (iI 0) (wt (sr (mkf (us:=[]) (vs:=[pp (zz wi) 0,pp (zz d) 0,pp (zz e) 0]) rfl rfl ?_))))))))))
 have m:=p210 y
 obtain ⟨⟨⟨O⟩,S,c,f⟩,z,h⟩:=ob h
 refine cv ([.func (.func 53) #[] #[pp (zz wi) 0,pp (zz d) 0,pp (zz e) 0]]) Tyb42 ((f1004236_ok k) z (hG.mono kr) t (RSl.nil _ _ _ _ _ _) (pt m)) ?_
 rintro _ U ⟨A,V,W,a,b,rfl,B,X,C⟩
 have o:=ca B m
 refine m2 (iI f) (wt (sr (l1 2 (sl a c b) o Tya46 (m1 (iI f) (sI 2 (sl a c b) #[sl a c b] o Tys46 rfl rfl (fun Y p=>(m2 (iI f) (wt (wp_ret ?_)))))))))
 have e_:=(Option.some.inj h).trans hr_
 obtain ⟨D,G⟩:=Prod.mk.inj e_
 subst D
 subst G
 exact retA2 rfl (res1 (i:=2) (v:=sl a c b) p rfl Tya46 rfl rfl) (resT rfl) ⟨A,a,b,rfl,(p.sel []),C⟩
theorem f26_ok (k:Nat):f26_spec (f26 k):=f26_b_ok k
theorem f66_b_ok (k:Nat):f66_spec (f66_b k):=by
 unfold f66_spec
 intro K wi b i h hG e
 obtain ⟨r_,hr_,h⟩:=rz h
 refine enter Tryz.func66 rfl (n:=9) rfl ?_
 unfold f66_b at h
 refine sr (m2 vN (wt (wp_cut (fun a w=>∃ f d,a=fr 9 (updL f [(2,.bool d)])∧SR K K wi w [] []∧f66_j1 k d=some r_) ?_ ?_)))
 ·refine wp_region_lit (m1 (.int .u8 b) (c0 (decide (b ≥ 97)) (m1 (.bool (decide (b ≥ 97))) (cd h (fun c h=>?_) (fun c h=>?_)))))
  ·exact n1 5 c (m1 (.int .u8 b) (n1 5 c (c0 (decide (b ≤ 122)) (m3 true (.bool (decide (b ≤ 122))) (cg c) (m2 (.bool (decide (b ≤ 122))) (wt (⟨_,(decide (b ≤ 122)),fR,e,h⟩)))))))
  ·exact o1 5 c (o1 5 c (m3 false vN (cg c) (m2 vN (wt (⟨_,false,fR,e,h⟩)))))
 ·rintro _ j ⟨f,d,rfl,g,h⟩
  unfold f66_j1 at h
  refine wp_ret ?_
  cases (oi h).trans hr_
  exact retA1 rfl (resT rfl) ⟨K,rfl,g⟩
theorem f66_ok (k:Nat):f66_spec (f66 k):=f66_b_ok k
theorem f67_b_ok (k:Nat):f67_spec (f67_b k):=by
 unfold f67_spec
 intro K wi b i h hG e
 obtain ⟨r_,hr_,h⟩:=rz h
 refine enter Tryz.func67 rfl (n:=9) rfl ?_
 unfold f67_b at h
 refine sr (m2 vN (wt (wp_cut (fun a w=>∃ f d,a=fr 9 (updL f [(2,.bool d)])∧SR K K wi w [] []∧f67_j1 k d=some r_) ?_ ?_)))
 ·refine wp_region_lit (m1 (.int .u8 b) (c0 (decide (b ≥ 48)) (m1 (.bool (decide (b ≥ 48))) (cd h (fun c h=>?_) (fun c h=>?_)))))
  ·exact n1 5 c (m1 (.int .u8 b) (n1 5 c (c0 (decide (b ≤ 57)) (m3 true (.bool (decide (b ≤ 57))) (cg c) (m2 (.bool (decide (b ≤ 57))) (wt (⟨_,(decide (b ≤ 57)),fR,e,h⟩)))))))
  ·exact o1 5 c (o1 5 c (m3 false vN (cg c) (m2 vN (wt (⟨_,false,fR,e,h⟩)))))
 ·rintro _ j ⟨f,d,rfl,g,h⟩
  unfold f67_j1 at h
  refine wp_ret ?_
  cases (oi h).trans hr_
  exact retA1 rfl (resT rfl) ⟨K,rfl,g⟩
theorem f67_ok (k:Nat):f67_spec (f67 k):=f67_b_ok k
theorem f97_b_ok (k:Nat):f97_spec (f97_b k):=by
 unfold f97_spec
 intro K wi f h hG a
 obtain ⟨r_,hr_,h⟩:=rz h
 refine enter Tryz.func97 rfl (n:=2) rfl ?_
 unfold f97_b at h
 refine sr (m2 nS (wt (sr (bsl (e:=9) (cells:=#[.string ⟨#[97,102,116,101,114]⟩,.string ⟨#[97,119,97,105,116]⟩,.string ⟨#[98,111,111,108]⟩,.string ⟨#[98,114,101,97,107]⟩,.string ⟨#[98,117,102,102,101,114]⟩,.string ⟨#[99,97,110,99,101,108]⟩,.string ⟨#[99,97,116,99,104]⟩,.string ⟨#[99,104,97,110]⟩,.string ⟨#[99,108,111,115,101]⟩,.string ⟨#[99,111,110,116,105,110,117,101]⟩,.string ⟨#[100,114,111,112]⟩,.string ⟨#[101,97,99,104]⟩,.string ⟨#[101,108,115,101]⟩,.string ⟨#[101,109,105,116]⟩,.string ⟨#[102,97,108,115,101]⟩,.string ⟨#[102,105,110,97,108,108,121]⟩,.string ⟨#[102,108,111,119]⟩,.string ⟨#[102,110]⟩,.string ⟨#[102,114,111,109]⟩,.string ⟨#[104,111,108,100]⟩,.string ⟨#[105,102]⟩,.string ⟨#[105,110,116]⟩,.string ⟨#[108,101,116]⟩,.string ⟨#[108,111,99,107]⟩,.string ⟨#[110,101,119]⟩,.string ⟨#[110,111,119]⟩,.string ⟨#[111,108,100]⟩,.string ⟨#[112,114,111,100,117,99,101]⟩,.string ⟨#[114,101,99,101,105,118,101]⟩,.string ⟨#[114,101,116,117,114,110]⟩,.string ⟨#[115,99,111,112,101]⟩,.string ⟨#[115,101,108,101,99,116]⟩,.string ⟨#[115,101,110,100]⟩,.string ⟨#[115,104,105,101,108,100]⟩,.string ⟨#[115,108,101,101,112]⟩,.string ⟨#[115,112,97,119,110]⟩,.string ⟨#[115,117,112,101,114,118,105,115,101,100]⟩,.string ⟨#[116,97,115,107]⟩,.string ⟨#[116,101,120,116]⟩,.string ⟨#[116,104,114,111,119]⟩,.string ⟨#[116,114,117,101]⟩,.string ⟨#[116,114,121]⟩,.string ⟨#[117,115,101]⟩,.string ⟨#[119,104,105,108,101]⟩,.string ⟨#[119,105,116,104,105,110]⟩,.string ⟨#[121,105,101,108,100]⟩]) (vs:=[(0,.string ⟨#[97,102,116,101,114]⟩),(1,.string ⟨#[97,119,97,105,116]⟩),(2,.string ⟨#[98,111,111,108]⟩),(3,.string ⟨#[98,114,101,97,107]⟩),(4,.string ⟨#[98,117,102,102,101,114]⟩),(5,.string ⟨#[99,97,110,99,101,108]⟩),(6,.string ⟨#[99,97,116,99,104]⟩),(7,.string ⟨#[99,104,97,110]⟩),(8,.string ⟨#[99,108,111,115,101]⟩),(9,.string ⟨#[99,111,110,116,105,110,117,101]⟩),(10,.string ⟨#[100,114,111,112]⟩),(11,.string ⟨#[101,97,99,104]⟩),(12,.string ⟨#[101,108,115,101]⟩),(13,.string ⟨#[101,109,105,116]⟩),(14,.string ⟨#[102,97,108,115,101]⟩),(15,.string ⟨#[102,105,110,97,108,108,121]⟩),(16,.string ⟨#[102,108,111,119]⟩),(17,.string ⟨#[102,110]⟩),(18,.string ⟨#[102,114,111,109]⟩),(19,.string ⟨#[104,111,108,100]⟩),(20,.string ⟨#[105,102]⟩),(21,.string ⟨#[105,110,116]⟩),(22,.string ⟨#[108,101,116]⟩),(23,.string ⟨#[108,111,99,107]⟩),(24,.string ⟨#[110,101,119]⟩),(25,.string ⟨#[110,111,119]⟩),(26,.string ⟨#[111,108,100]⟩),(27,.string ⟨#[112,114,111,100,117,99,101]⟩),(28,.string ⟨#[114,101,99,101,105,118,101]⟩),(29,.string ⟨#[114,101,116,117,114,110]⟩),(30,.string ⟨#[115,99,111,112,101]⟩),(31,.string ⟨#[115,101,108,101,99,116]⟩),(32,.string ⟨#[115,101,110,100]⟩),(33,.string ⟨#[115,104,105,101,108,100]⟩),(34,.string ⟨#[115,108,101,101,112]⟩),(35,.string ⟨#[115,112,97,119,110]⟩),(36,.string ⟨#[115,117,112,101,114,118,105,115,101,100]⟩),(37,.string ⟨#[116,97,115,107]⟩),(38,.string ⟨#[116,101,120,116]⟩),(39,.string ⟨#[116,104,114,111,119]⟩),(40,.string ⟨#[116,114,117,101]⟩),(41,.string ⟨#[116,114,121]⟩),(42,.string ⟨#[117,115,101]⟩),(43,.string ⟨#[119,104,105,108,101]⟩),(44,.string ⟨#[119,105,116,104,105,110]⟩),(45,.string ⟨#[121,105,101,108,100]⟩)]) a rfl (fun w=>by kernel_rfl) (fun g a=>(m2 (.slice (some ⟨(zz wi),0,none⟩) 46 46) (wt (wp_ret ?_))))))))
 obtain ⟨b,c,j,d⟩:=frzI (i:=0) (bytes:=16) (xs:=[⟨#[97,102,116,101,114]⟩,⟨#[97,119,97,105,116]⟩,⟨#[98,111,111,108]⟩,⟨#[98,114,101,97,107]⟩,⟨#[98,117,102,102,101,114]⟩,⟨#[99,97,110,99,101,108]⟩,⟨#[99,97,116,99,104]⟩,⟨#[99,104,97,110]⟩,⟨#[99,108,111,115,101]⟩,⟨#[99,111,110,116,105,110,117,101]⟩,⟨#[100,114,111,112]⟩,⟨#[101,97,99,104]⟩,⟨#[101,108,115,101]⟩,⟨#[101,109,105,116]⟩,⟨#[102,97,108,115,101]⟩,⟨#[102,105,110,97,108,108,121]⟩,⟨#[102,108,111,119]⟩,⟨#[102,110]⟩,⟨#[102,114,111,109]⟩,⟨#[104,111,108,100]⟩,⟨#[105,102]⟩,⟨#[105,110,116]⟩,⟨#[108,101,116]⟩,⟨#[108,111,99,107]⟩,⟨#[110,101,119]⟩,⟨#[110,111,119]⟩,⟨#[111,108,100]⟩,⟨#[112,114,111,100,117,99,101]⟩,⟨#[114,101,99,101,105,118,101]⟩,⟨#[114,101,116,117,114,110]⟩,⟨#[115,99,111,112,101]⟩,⟨#[115,101,108,101,99,116]⟩,⟨#[115,101,110,100]⟩,⟨#[115,104,105,101,108,100]⟩,⟨#[115,108,101,101,112]⟩,⟨#[115,112,97,119,110]⟩,⟨#[115,117,112,101,114,118,105,115,101,100]⟩,⟨#[116,97,115,107]⟩,⟨#[116,101,120,116]⟩,⟨#[116,104,114,111,119]⟩,⟨#[116,114,117,101]⟩,⟨#[116,114,121]⟩,⟨#[117,115,101]⟩,⟨#[119,104,105,108,101]⟩,⟨#[119,105,116,104,105,110]⟩,⟨#[121,105,101,108,100]⟩]) (R:=fun K=>RStr) a rfl (Nat.le_refl _) ⟨[.string ⟨#[97,102,116,101,114]⟩],_,rfl,rfl,⟨rfl,(by decide)⟩,⟨[.string ⟨#[97,119,97,105,116]⟩],_,rfl,rfl,⟨rfl,(by decide)⟩,⟨[.string ⟨#[98,111,111,108]⟩],_,rfl,rfl,⟨rfl,(by decide)⟩,⟨[.string ⟨#[98,114,101,97,107]⟩],_,rfl,rfl,⟨rfl,(by decide)⟩,⟨[.string ⟨#[98,117,102,102,101,114]⟩],_,rfl,rfl,⟨rfl,(by decide)⟩,⟨[.string ⟨#[99,97,110,99,101,108]⟩],_,rfl,rfl,⟨rfl,(by decide)⟩,⟨[.string ⟨#[99,97,116,99,104]⟩],_,rfl,rfl,⟨rfl,(by decide)⟩,⟨[.string ⟨#[99,104,97,110]⟩],_,rfl,rfl,⟨rfl,(by decide)⟩,⟨[.string ⟨#[99,108,111,115,101]⟩],_,rfl,rfl,⟨rfl,(by decide)⟩,⟨[.string ⟨#[99,111,110,116,105,110,117,101]⟩],_,rfl,rfl,⟨rfl,(by decide)⟩,⟨[.string ⟨#[100,114,111,112]⟩],_,rfl,rfl,⟨rfl,(by decide)⟩,⟨[.string ⟨#[101,97,99,104]⟩],_,rfl,rfl,⟨rfl,(by decide)⟩,⟨[.string ⟨#[101,108,115,101]⟩],_,rfl,rfl,⟨rfl,(by decide)⟩,⟨[.string ⟨#[101,109,105,116]⟩],_,rfl,rfl,⟨rfl,(by decide)⟩,⟨[.string ⟨#[102,97,108,115,101]⟩],_,rfl,rfl,⟨rfl,(by decide)⟩,⟨[.string ⟨#[102,105,110,97,108,108,121]⟩],_,rfl,rfl,⟨rfl,(by decide)⟩,⟨[.string ⟨#[102,108,111,119]⟩],_,rfl,rfl,⟨rfl,(by decide)⟩,⟨[.string ⟨#[102,110]⟩],_,rfl,rfl,⟨rfl,(by decide)⟩,⟨[.string ⟨#[102,114,111,109]⟩],_,rfl,rfl,⟨rfl,(by decide)⟩,⟨[.string ⟨#[104,111,108,100]⟩],_,rfl,rfl,⟨rfl,(by decide)⟩,⟨[.string ⟨#[105,102]⟩],_,rfl,rfl,⟨rfl,(by decide)⟩,⟨[.string ⟨#[105,110,116]⟩],_,rfl,rfl,⟨rfl,(by decide)⟩,⟨[.string ⟨#[108,101,116]⟩],_,rfl,rfl,⟨rfl,(by decide)⟩,⟨[.string ⟨#[108,111,99,107]⟩],_,rfl,rfl,⟨rfl,(by decide)⟩,⟨[.string ⟨#[110,101,119]⟩],_,rfl,rfl,⟨rfl,(by decide)⟩,⟨[.string ⟨#[110,111,119]⟩],_,rfl,rfl,⟨rfl,(by decide)⟩,⟨[.string ⟨#[111,108,100]⟩],_,rfl,rfl,⟨rfl,(by decide)⟩,⟨[.string ⟨#[112,114,111,100,117,99,101]⟩],_,rfl,rfl,⟨rfl,(by decide)⟩,⟨[.string ⟨#[114,101,99,101,105,118,101]⟩],_,rfl,rfl,⟨rfl,(by decide)⟩,⟨[.string ⟨#[114,101,116,117,114,110]⟩],_,rfl,rfl,⟨rfl,(by decide)⟩,⟨[.string ⟨#[115,99,111,112,101]⟩],_,rfl,rfl,⟨rfl,(by decide)⟩,⟨[.string ⟨#[115,101,108,101,99,116]⟩],_,rfl,rfl,⟨rfl,(by decide)⟩,⟨[.string ⟨#[115,101,110,100]⟩],_,rfl,rfl,⟨rfl,(by decide)⟩,⟨[.string ⟨#[115,104,105,101,108,100]⟩],_,rfl,rfl,⟨rfl,(by decide)⟩,⟨[.string ⟨#[115,108,101,101,112]⟩],_,rfl,rfl,⟨rfl,(by decide)⟩,⟨[.string ⟨#[115,112,97,119,110]⟩],_,rfl,rfl,⟨rfl,(by decide)⟩,⟨[.string ⟨#[115,117,112,101,114,118,105,115,101,100]⟩],_,rfl,rfl,⟨rfl,(by decide)⟩,⟨[.string ⟨#[116,97,115,107]⟩],_,rfl,rfl,⟨rfl,(by decide)⟩,⟨[.string ⟨#[116,101,120,116]⟩],_,rfl,rfl,⟨rfl,(by decide)⟩,⟨[.string ⟨#[116,104,114,111,119]⟩],_,rfl,rfl,⟨rfl,(by decide)⟩,⟨[.string ⟨#[116,114,117,101]⟩],_,rfl,rfl,⟨rfl,(by decide)⟩,⟨[.string ⟨#[116,114,121]⟩],_,rfl,rfl,⟨rfl,(by decide)⟩,⟨[.string ⟨#[117,115,101]⟩],_,rfl,rfl,⟨rfl,(by decide)⟩,⟨[.string ⟨#[119,104,105,108,101]⟩],_,rfl,rfl,⟨rfl,(by decide)⟩,⟨[.string ⟨#[119,105,116,104,105,110]⟩],_,rfl,rfl,⟨rfl,(by decide)⟩,⟨[.string ⟨#[121,105,101,108,100]⟩],_,rfl,rfl,⟨rfl,(by decide)⟩,(reps0 (R:=RStr) (size:=1))⟩⟩⟩⟩⟩⟩⟩⟩⟩⟩⟩⟩⟩⟩⟩⟩⟩⟩⟩⟩⟩⟩⟩⟩⟩⟩⟩⟩⟩⟩⟩⟩⟩⟩⟩⟩⟩⟩⟩⟩⟩⟩⟩⟩⟩⟩ rfl (Nat.le_of_ble_eq_true rfl) (fun hs=>(fun _ _ h=>h))
 cases (oi h).trans hr_
 exact retA1 rfl (resT rfl) ⟨b,(some ⟨(zz wi),0,none⟩),46,rfl,c,d⟩
theorem f97_ok (k:Nat):f97_spec (f97 k):=f97_b_ok k
theorem f68_b_ok (k:Nat):f68_spec (f68_b k):=by
 unfold f68_spec
 intro K wi l d h hG J s
 obtain ⟨r_,hr_,h⟩:=rz h
 refine enter Tryz.func68 rfl (n:=18) rfl ?_
 unfold f68_b at h
 refine sr (m2 vN (wt (sr ?_)))
 obtain ⟨d,y,h⟩:=ob h
 refine cv ([]) Tyb97 ((f97_ok k) y (hG.mono kr) (pt s)) ?_
 rintro _ N ⟨p,g,j,rfl,z,t⟩
 have A:=ca z s
 refine m2 (sl g d j) (wt (wp_seq (sr (m2 (iI 0) (wt (wp_block (wp_loopG (fun g_ a w=>∃ u e,∃ (c:Nat),g_=e.length∧a=fr 18 (updL u [(0,.string l),(3,sl g d j),(4,iI (c:Int))])∧SR K p wi w [] []∧d.drop c=e∧f68_l1 k l e c=some r_) d.length ?_ ?_)))))))
 ·exact ⟨_,d,0,rfl,fR,A,List.drop_zero,h⟩
 ·rintro _ _ O ⟨u,e,c,rfl,rfl,m,f,h⟩
  rcases e with _ | ⟨x,e⟩
  ·unfold f68_l1 at h
   refine wp_seq (sr (m1 (iI (c:Int)) (m1 (sl g d j) (lS d.length Tye46 (bcm (r:=false) rfl rfl (congrArg some (drop_nil_lt f)) (wt (cndF rfl (wp_exit (thenX (thenX (blkX (thenN (sr (m2 vN (wt (wp_ret ?_))))))))))))))))
   cases (oi h).trans hr_
   exact retA1 rfl (resT rfl) ⟨p,rfl,m⟩
  ·unfold f68_l1 at h
   refine wp_seq (sr (m1 (iI (c:Int)) (m1 (sl g d j) (lS d.length Tye46 (bcm (r:=true) rfl rfl (congrArg some (drop_cons_t f)) (wt (cndT rfl (wp_skip (thenN (wp_seq (wp_block (sr (m1 (sl g d j) (m1 (iI (c:Int)) ?_))))))))))))))
   obtain ⟨B,C,S,D,U,G,I⟩:=(t).row.at_ (drop_cons_at f)
   obtain ⟨rfl,V⟩:=I
   refine idxN (b:=B) (o:=C) (i:=c) Tye46 Tys9 rfl D rfl (drop_cons_lt f) (ld1 (v:=.string x) Tya9 rfl (m.cell (kr.cell (G 0 _ rfl))) (m1 (.string l) (bsc (r:=(seq x l)) rfl rfl rfl (wt (cd h (fun q h=>?_) (fun q h=>?_))))))
   ·refine cT q (sr (m2 vT (wt (wp_ret (blkR (thenR (thenR (blkR (thenR ?_)))))))))
    cases (oi h).trans hr_
    exact retA1 rfl (resT rfl) ⟨p,rfl,m⟩
   ·exact cF q (wp_skip (blkN (thenN (wp_region_lit (m1 (iI (c:Int)) (bar (r:=((c + 1:Nat):Int)) rfl rfl (inc_ok (le_big ((t).len) (by decide) (drop_cons_lt f))) (m2 (iI ((c + 1:Nat):Int)) (wt (⟨_,Nat.lt_succ_self _,_,e,c + 1,rfl,fR,m,drop_cons_next f,h⟩)))))))))
theorem f68_ok (k:Nat):f68_spec (f68 k):=f68_b_ok k
theorem f34_b_ok (k:Nat):f34_spec (f34_b k):=by
 unfold f34_spec
 intro K wi b af h hG A U
 obtain ⟨r_,hr_,h⟩:=rz h
 refine enter Tryz.func34 rfl (n:=39) rfl ?_
 unfold f34_b at h
 refine sr (m2 vN (wt (wp_seq (sr (m2 (iI 0) (wt (wp_block (wp_loopG (fun g_ a w=>∃ B j i,∃ (c:Nat),g_=i.length∧a=fr 39 (updL B [(0,.string b),(3,iI (c:Int))])∧KH.sub K j∧SR K j wi w [] []∧b.data.toList.drop c=i∧f34_l1 k b i c=some r_) b.data.toList.length ?_ ?_))))))))
 ·exact ⟨_,K,b.data.toList,0,rfl,fR,kr,U,List.drop_zero,h⟩
 ·rintro _ _ ag ⟨B,j,i,c,rfl,rfl,q,l,m,h⟩
  rcases i with _ | ⟨C,i⟩
  ·unfold f34_l1 at h
   refine wp_seq (sr (m1 (iI (c:Int)) (m1 (.string b) (lnT (a:=b) Tyt9 rfl (bcm (r:=false) rfl rfl (congrArg some (drop_nil_ls m)) (wt (cndF rfl (wp_exit (thenX (thenX (blkX (thenN (wp_cut (fun a w=>∃ D s x,a=fr 39 (updL D [(2,.bool x)])∧KH.sub j s∧SR K s wi w [] []∧f34_j1 k x=some r_) ?_ ?_)))))))))))))
   ·refine wp_region_lit (m1 (.string b) (lnT (a:=b) Tyt9 rfl (c0 (decide ((b.size:Int) ≥ 1)) (m1 (.bool (decide ((b.size:Int) ≥ 1))) (cd h (fun f h=>?_) (fun f h=>?_))))))
    ·refine n1 29 f (m1 (.string b) (n1 29 f (lnT (a:=b) Tyt9 rfl (n1 29 f (c0 (decide ((b.size:Int) ≤ 12)) (m3 true (.bool (decide ((b.size:Int) ≤ 12))) (cg f) (m1 (.bool (decide ((b.size:Int) ≤ 12))) (cd h (fun g h=>?_) (fun g h=>?_)))))))))
     ·refine n1 34 g (m1 (.string b) (n1 34 g ?_))
      obtain ⟨t,V,h⟩:=ob h
      refine cv ([.string b]) Tyb68 ((f68_ok k) V (hG.mono q) A (pt l)) ?_
      rintro _ ah ⟨W,rfl,G⟩
      have X:=ca G l
      exact n1 34 g (uN t (m3 true (.bool (!t)) (cg g) (m2 (.bool (!t)) (wt (⟨_,W,(!t),fR,G.sub,X,h⟩)))))
     ·exact o1 34 g (o1 34 g (o1 34 g (m3 false vN (cg g) (m2 vN (wt (⟨_,j,false,fR,kr,l,h⟩))))))
    ·exact o1 29 f (o1 29 f (o1 29 f (m3 false vN (cg f) (m1 vN (o0 34 (o0 34 (o0 34 (m3 false vN rfl (m2 vN (wt (⟨_,j,false,fR,kr,l,h⟩)))))))))))
   ·rintro _ ai ⟨D,s,x,rfl,aj,Y,h⟩
    unfold f34_j1 at h
    refine wp_ret ?_
    cases (oi h).trans hr_
    exact retA1 rfl (resT rfl) ⟨s,rfl,Y⟩
  ·unfold f34_l1 at h
   refine wp_seq (sr (m1 (iI (c:Int)) (m1 (.string b) (lnT (a:=b) Tyt9 rfl (bcm (r:=true) rfl rfl (congrArg some (drop_cons_ts m)) (wt (cndT rfl (wp_skip (thenN (wp_seq (wp_block (wp_cut (fun a w=>∃ I o y,a=fr 39 (updL I [(0,.string b),(3,iI (c:Int)),(25,.bool y)])∧KH.sub j o∧SR K o wi w [] []∧f34_j2 k c y (f34_l1 k b i)=some r_) ?_ ?_))))))))))))
   ·refine wp_region_lit (m1 (.string b) (m1 (iI (c:Int)) (ixN Tyt9 rfl rfl m ?_)))
    obtain ⟨J,Z,h⟩:=ob h
    refine cv ([.int .u8 (C.toNat:Int)]) Tyb66 ((f66_ok k) Z (hG.mono q) (pt l)) ?_
    rintro _ ak ⟨N,rfl,p⟩
    have u:=ca p l
    refine uN J (m1 (.bool (!J)) (cd h (fun d h=>?_) (fun d h=>?_)))
    ·refine n1 15 d (m1 (iI (c:Int)) (n1 15 d (c0 ((c:Int) == 0) (n1 15 d (m1 (.bool ((c:Int) == 0)) (cd h (fun e h=>?_) (fun e h=>?_)))))))
     ·exact o1 18 e (o1 18 e (o1 18 e (o1 18 e (o1 18 e (n1 15 d (m3 true vT (cg e) (m3 true vT (cg d) (wt (⟨_,N,true,fR,p.sub,u,h⟩)))))))))
     ·refine n1 18 e (m1 (.string b) (n1 18 e (m1 (iI (c:Int)) (n1 18 e (ixN Tyt9 rfl rfl m (n1 18 e ?_))))))
      obtain ⟨v,ab,h⟩:=ob h
      refine cv ([.int .u8 (C.toNat:Int)]) Tyb67 ((f67_ok k) ab (hG.mono (q.trans p.sub)) (pt u)) ?_
      rintro _ al ⟨ac,rfl,O⟩
      have ad:=ca O u
      exact n1 18 e (uN v (n1 15 d (m3 false (.bool (!v)) (cg e) (m3 true (.bool (!v)) (cg d) (wt (⟨_,ac,(!v),fR,(p.sub.trans O.sub),ad,h⟩))))))
    ·exact o1 15 d (o1 15 d (o1 15 d (ou 18 (ou 18 (ou 18 (ou 18 (ou 18 (o1 15 d (m3 false vN (cg d) (wt (⟨_,N,false,fR,p.sub,u,h⟩)))))))))))
   ·rintro _ am ⟨I,o,y,rfl,ae,S,h⟩
    unfold f34_j2 at h
    refine cd h (fun z h=>?_) (fun z h=>?_)
    ·refine cT z (sr (m2 vN (wt (wp_ret (blkR (thenR (thenR (blkR (thenR ?_)))))))))
     cases (oi h).trans hr_
     exact retA1 rfl (resT rfl) ⟨o,rfl,S⟩
    ·exact cF z (wp_skip (blkN (thenN (wp_region_lit (m1 (iI (c:Int)) (bar (r:=((c + 1:Nat):Int)) rfl rfl (inc_ok (le_bigs A m)) (m2 (iI ((c + 1:Nat):Int)) (wt (⟨_,Nat.lt_succ_self _,_,o,i,c + 1,rfl,fR,(q.trans ae),S,drop_cons_next m,h⟩)))))))))
theorem f34_ok (k:Nat):f34_spec (f34 k):=f34_b_ok k
theorem f59_b_ok (k:Nat):f59_spec (f59_b k):=by
 unfold f59_spec
 intro K wi g bs d e i b j l m h hG c
 obtain ⟨r_,hr_,h⟩:=rz h
 refine enter Tryz.func59 rfl (n:=9) rfl ?_
 unfold f59_b at h
 refine sr (m1 (.bool b) (uN b (wt (cd h (fun a h=>?_) (fun a h=>?_)))))
 ·refine cT a (wp_region_lit (m1 (pp g 0) (nilc rfl (fd 2 Tyf56_2 rfl (sI 0 vT #[iI d,iI e,vT] c Tys4 rfl rfl (fun o f=>(wpList_nil ?_)))))))
  cases (oi h).trans hr_
  exact end0 rfl ⟨K,rfl,f⟩
 ·refine cF a (wp_skip ?_)
  cases (oi h).trans hr_
  exact end0 rfl ⟨K,rfl,c⟩
theorem f59_ok (k:Nat):f59_spec (f59 k):=f59_b_ok k
theorem f60_b_ok (k:Nat):f60_spec (f60_b k):=by
 unfold f60_spec
 intro K wi g bs c e i d t u v h hG j
 obtain ⟨r_,hr_,h⟩:=rz h
 refine enter Tryz.func60 rfl (n:=32) rfl ?_
 unfold f60_b at h
 refine sr (m1 (pp g 0) (nilc rfl (fd 0 Tyf56_0 rfl (l1 0 (iI c) j Tya3 (bar (r:=(w64 (c + 1))) rfl rfl rfl (nilc rfl (fd 0 Tyf56_0 rfl (sI 0 (iI (w64 (c + 1))) #[iI (w64 (c + 1)),iI e,.bool i] j Tys3 rfl rfl (fun x j=>(wt (sr (m1 (pp g 0) (m1 (pp g 0) (nilc rfl (fd 1 Tyf56_1 rfl (l1 0 (iI e) j Tya3 (m1 (iI d) (mxb (a:=e) (b:=d) rfl rfl (nilc rfl (fd 1 Tyf56_1 rfl (sI 0 (iI (imax e d)) #[iI (w64 (c + 1)),iI (imax e d),.bool i] j Tys3 rfl rfl (fun y l=>(wt (wp_cut (fun a w=>∃ p m,a=fr 32 (updL p [(0,pp g 0),(28,.bool m)])∧SR K K wi w [.box bs g #[iI c,iI e,.bool i] 56] [.box bs g #[iI (w64 (c + 1)),iI (imax e d),.bool i] 56]∧f60_j1 k c e i d m=some r_) ?_ ?_))))))))))))))))))))))))
 ·refine wp_region_lit (m1 (pp g 0) (nilc rfl (fd 0 Tyf56_0 rfl (l1 0 (iI (w64 (c + 1))) l Tya3 (c0 (decide ((w64 (c + 1)) > 600)) (m1 (.bool (decide ((w64 (c + 1)) > 600))) (cd h (fun f h=>?_) (fun f h=>?_))))))))
  ·exact o1 25 f (o1 25 f (m3 true vT (cg f) (wt (⟨_,true,fR,l,h⟩))))
  ·exact n1 25 f (m1 (iI d) (n1 25 f (c0 (decide (d > 16)) (m3 false (.bool (decide (d > 16))) (cg f) (wt (⟨_,(decide (d > 16)),fR,l,h⟩))))))
 ·rintro _ z ⟨p,m,rfl,q,h⟩
  unfold f60_j1 at h
  refine cd h (fun o h=>?_) (fun o h=>?_)
  ·refine cT o (wp_region_lit (m1 (pp g 0) (nilc rfl (fd 2 Tyf56_2 rfl (sI 0 vT #[iI (w64 (c + 1)),iI (imax e d),vT] q Tys4 rfl rfl (fun A s=>(wpList_nil ?_)))))))
   cases (oi h).trans hr_
   exact end0 rfl ⟨K,rfl,s⟩
  ·refine cF o (wp_skip ?_)
   cases (oi h).trans hr_
   exact end0 rfl ⟨K,rfl,q⟩
theorem f60_ok (k:Nat):f60_spec (f60 k):=f60_b_ok k
theorem f109_b_ok (k:Nat):f109_spec (f109_b k):=by
 unfold f109_spec
 intro K wi b aI aJ h hG e
 obtain ⟨r_,hr_,h⟩:=rz h
 refine enter Tryz.func109 rfl (n:=69) rfl ?_
 unfold f109_b at h
 refine sr (aC #[iI 0,iI 0,iI 0,vN,vN,iI 0] e Tyz143 (fun aK e=>(m2 vN (wt (wp_seq (sr (m1 (iI b) (wt (wp_block (wp_cut (fun a w=>∃ ah m,a=fr 69 (updL ah [(2,pp (zz wi) 0),(4,iI b),(5,.bool m)])∧SR K K wi w [] [.box (zz wi) (zz wi) #[iI 0,iI 0,iI 0,vN,vN,iI 0] 143]∧f109_j1 k b m=some r_) ?_ ?_))))))))))
 ·refine sr (c0 (b == 1) (m2 (.bool (b == 1)) (wt (cd h (fun o h=>?_) (fun o h=>?_)))))
  ·exact cT o (wp_skip (thenN (⟨_,(b == 1),fR,e,h⟩)))
  ·refine cF o (sr (c0 (b == 2) (m2 (.bool (b == 2)) (wt (cd h (fun p h=>?_) (fun p h=>?_))))))
   ·exact cT p (wp_skip (thenN (⟨_,(b == 2),fR,e,h⟩)))
   ·exact cF p (wp_region_lit (c0 (b == 8) (m2 (.bool (b == 8)) (wt (⟨_,(b == 8),fR,e,h⟩)))))
 ·rintro _ aL ⟨ah,m,rfl,f,h⟩
  unfold f109_j1 at h
  refine cd h (fun q h=>?_) (fun q h=>?_)
  ·refine cT q (sr (bld (cells:=#[iI 1,iI 1,iI 1,vN,vN,iI 0]) (vs:=[(0,iI 1),(1,iI 1),(2,iI 1)]) rfl (fun w=>by kernel_rfl) (sI 0 (.agg #[iI 1,iI 1,iI 1,vN,vN,iI 0]) #[iI 1,iI 1,iI 1,vN,vN,iI 0] f Tys143 rfl rfl (fun aM ai=>(m2 vT (wt (wp_ret (blkR (thenR ?_)))))))))
   cases (oi h).trans hr_
   exact retA2 rfl (resN (i:=0) (l:=[iI 1,iI 1,iI 1,vN,vN,iI 0]) ai rfl Tya143 Tys143 rfl rfl rfl) (resT rfl) ⟨K,[iI 1,iI 1,iI 1,vN,vN,iI 0],rfl,(ai.sel []),.mk⟩
  ·refine cF q (sr (c0 (b == 7) (m2 (.bool (b == 7)) (wt (cd h (fun r h=>?_) (fun r h=>?_))))))
   ·refine cT r (sr (bld (cells:=#[iI 1,iI 1,iI 1,vN,vN,iI 2]) (vs:=[(0,iI 1),(1,iI 1),(2,iI 1),(5,iI 2)]) rfl (fun w=>by kernel_rfl) (sI 0 (.agg #[iI 1,iI 1,iI 1,vN,vN,iI 2]) #[iI 1,iI 1,iI 1,vN,vN,iI 2] f Tys143 rfl rfl (fun aN aj=>(m2 vT (wt (wp_ret (blkR (thenR ?_)))))))))
    cases (oi h).trans hr_
    exact retA2 rfl (resN (i:=0) (l:=[iI 1,iI 1,iI 1,vN,vN,iI 2]) aj rfl Tya143 Tys143 rfl rfl rfl) (resT rfl) ⟨K,[iI 1,iI 1,iI 1,vN,vN,iI 2],rfl,(aj.sel []),.mk⟩
   ·refine cF r (sr (c0 (b == 9) (m2 (.bool (b == 9)) (wt (cd h (fun s h=>?_) (fun s h=>?_))))))
    ·refine cT s (sr (bld (cells:=#[iI 0,iI 0,iI 1,vN,vN,iI 0]) (vs:=[(2,iI 1)]) rfl (fun w=>by kernel_rfl) (sI 0 (.agg #[iI 0,iI 0,iI 1,vN,vN,iI 0]) #[iI 0,iI 0,iI 1,vN,vN,iI 0] f Tys143 rfl rfl (fun aP ak=>(m2 vT (wt (wp_ret (blkR (thenR ?_)))))))))
     cases (oi h).trans hr_
     exact retA2 rfl (resN (i:=0) (l:=[iI 0,iI 0,iI 1,vN,vN,iI 0]) ak rfl Tya143 Tys143 rfl rfl rfl) (resT rfl) ⟨K,[iI 0,iI 0,iI 1,vN,vN,iI 0],rfl,(ak.sel []),.mk⟩
    ·refine cF s (wp_cut (fun a w=>∃ al t,a=fr 69 (updL al [(2,pp (zz wi) 0),(4,iI b),(16,.bool t)])∧SR K K wi w [] [.box (zz wi) (zz wi) #[iI 0,iI 0,iI 0,vN,vN,iI 0] 143]∧f109_j2 k b t=some r_) ?_ ?_)
     ·refine sr (c0 (b == 3) (m2 (.bool (b == 3)) (wt (cd h (fun u h=>?_) (fun u h=>?_)))))
      ·exact cT u (wp_skip (thenN (⟨_,(b == 3),fR,f,h⟩)))
      ·exact cF u (wp_region_lit (c0 (b == 4) (m2 (.bool (b == 4)) (wt (⟨_,(b == 4),fR,f,h⟩)))))
     ·rintro _ aQ ⟨al,t,rfl,c,h⟩
      unfold f109_j2 at h
      refine cd h (fun v h=>?_) (fun v h=>?_)
      ·refine cT v (sr (bld (cells:=#[iI 0,iI 600,iI 2,vT,vN,iI 0]) (vs:=[(1,iI 600),(2,iI 2),(3,vT)]) rfl (fun w=>by kernel_rfl) (sI 0 (.agg #[iI 0,iI 600,iI 2,vT,vN,iI 0]) #[iI 0,iI 600,iI 2,vT,vN,iI 0] c Tys143 rfl rfl (fun aR am=>(m2 vT (wt (wp_ret (blkR (thenR ?_)))))))))
       cases (oi h).trans hr_
       exact retA2 rfl (resN (i:=0) (l:=[iI 0,iI 600,iI 2,vT,vN,iI 0]) am rfl Tya143 Tys143 rfl rfl rfl) (resT rfl) ⟨K,[iI 0,iI 600,iI 2,vT,vN,iI 0],rfl,(am.sel []),.mk⟩
      ·refine cF v (sr (c0 (b == 5) (m2 (.bool (b == 5)) (wt (cd h (fun x h=>?_) (fun x h=>?_))))))
       ·refine cT x (sr (bld (cells:=#[iI 1,iI 1,iI 2,vN,vN,iI 0]) (vs:=[(0,iI 1),(1,iI 1),(2,iI 2)]) rfl (fun w=>by kernel_rfl) (sI 0 (.agg #[iI 1,iI 1,iI 2,vN,vN,iI 0]) #[iI 1,iI 1,iI 2,vN,vN,iI 0] c Tys143 rfl rfl (fun aS an=>(m2 vT (wt (wp_ret (blkR (thenR ?_)))))))))
        cases (oi h).trans hr_
        exact retA2 rfl (resN (i:=0) (l:=[iI 1,iI 1,iI 2,vN,vN,iI 0]) an rfl Tya143 Tys143 rfl rfl rfl) (resT rfl) ⟨K,[iI 1,iI 1,iI 2,vN,vN,iI 0],rfl,(an.sel []),.mk⟩
       ·refine cF x (sr (c0 (b == 6) (m2 (.bool (b == 6)) (wt (cd h (fun y h=>?_) (fun y h=>?_))))))
        ·refine cT y (sr (bld (cells:=#[iI 1,iI 1,iI 2,vN,vN,iI 1]) (vs:=[(0,iI 1),(1,iI 1),(2,iI 2),(5,iI 1)]) rfl (fun w=>by kernel_rfl) (sI 0 (.agg #[iI 1,iI 1,iI 2,vN,vN,iI 1]) #[iI 1,iI 1,iI 2,vN,vN,iI 1] c Tys143 rfl rfl (fun aT ao=>(m2 vT (wt (wp_ret (blkR (thenR ?_)))))))))
         cases (oi h).trans hr_
         exact retA2 rfl (resN (i:=0) (l:=[iI 1,iI 1,iI 2,vN,vN,iI 1]) ao rfl Tya143 Tys143 rfl rfl rfl) (resT rfl) ⟨K,[iI 1,iI 1,iI 2,vN,vN,iI 1],rfl,(ao.sel []),.mk⟩
        ·refine cF y (sr (c0 (b == 10) (m2 (.bool (b == 10)) (wt (cd h (fun z h=>?_) (fun z h=>?_))))))
         ·refine cT z (sr (bld (cells:=#[iI 2,iI 2,iI 0,vN,vN,iI 0]) (vs:=[(0,iI 2),(1,iI 2)]) rfl (fun w=>by kernel_rfl) (sI 0 (.agg #[iI 2,iI 2,iI 0,vN,vN,iI 0]) #[iI 2,iI 2,iI 0,vN,vN,iI 0] c Tys143 rfl rfl (fun aU ap=>(m2 vT (wt (wp_ret (blkR (thenR ?_)))))))))
          cases (oi h).trans hr_
          exact retA2 rfl (resN (i:=0) (l:=[iI 2,iI 2,iI 0,vN,vN,iI 0]) ap rfl Tya143 Tys143 rfl rfl rfl) (resT rfl) ⟨K,[iI 2,iI 2,iI 0,vN,vN,iI 0],rfl,(ap.sel []),.mk⟩
         ·refine cF z (wp_cut (fun a w=>∃ aq A,a=fr 69 (updL aq [(2,pp (zz wi) 0),(4,iI b),(29,.bool A)])∧SR K K wi w [] [.box (zz wi) (zz wi) #[iI 0,iI 0,iI 0,vN,vN,iI 0] 143]∧f109_j3 k b A=some r_) ?_ ?_)
          ·refine sr (c0 (b == 11) (m2 (.bool (b == 11)) (wt (cd h (fun B h=>?_) (fun B h=>?_)))))
           ·exact cT B (wp_skip (thenN (⟨_,(b == 11),fR,c,h⟩)))
           ·refine cF B (sr (c0 (b == 12) (m2 (.bool (b == 12)) (wt (cd h (fun C h=>?_) (fun C h=>?_))))))
            ·exact cT C (wp_skip (thenN (⟨_,(b == 12),fR,c,h⟩)))
            ·refine cF C (sr (c0 (b == 14) (m2 (.bool (b == 14)) (wt (cd h (fun D h=>?_) (fun D h=>?_))))))
             ·exact cT D (wp_skip (thenN (⟨_,(b == 14),fR,c,h⟩)))
             ·refine cF D (sr (c0 (b == 15) (m2 (.bool (b == 15)) (wt (cd h (fun G h=>?_) (fun G h=>?_))))))
              ·exact cT G (wp_skip (thenN (⟨_,(b == 15),fR,c,h⟩)))
              ·refine cF G (sr (c0 (b == 16) (m2 (.bool (b == 16)) (wt (cd h (fun I h=>?_) (fun I h=>?_))))))
               ·exact cT I (wp_skip (thenN (⟨_,(b == 16),fR,c,h⟩)))
               ·exact cF I (wp_region_lit (c0 (b == 29) (m2 (.bool (b == 29)) (wt (⟨_,(b == 29),fR,c,h⟩)))))
          ·rintro _ aV ⟨aq,A,rfl,g,h⟩
           unfold f109_j3 at h
           refine cd h (fun J h=>?_) (fun J h=>?_)
           ·refine cT J (sr (bld (cells:=#[iI 1,iI 1,iI 0,vN,vN,iI 0]) (vs:=[(0,iI 1),(1,iI 1)]) rfl (fun w=>by kernel_rfl) (sI 0 (.agg #[iI 1,iI 1,iI 0,vN,vN,iI 0]) #[iI 1,iI 1,iI 0,vN,vN,iI 0] g Tys143 rfl rfl (fun aW ar=>(m2 vT (wt (wp_ret (blkR (thenR ?_)))))))))
            cases (oi h).trans hr_
            exact retA2 rfl (resN (i:=0) (l:=[iI 1,iI 1,iI 0,vN,vN,iI 0]) ar rfl Tya143 Tys143 rfl rfl rfl) (resT rfl) ⟨K,[iI 1,iI 1,iI 0,vN,vN,iI 0],rfl,(ar.sel []),.mk⟩
           ·refine cF J (wp_cut (fun a w=>∃ au N,a=fr 69 (updL au [(2,pp (zz wi) 0),(4,iI b),(37,.bool N)])∧SR K K wi w [] [.box (zz wi) (zz wi) #[iI 0,iI 0,iI 0,vN,vN,iI 0] 143]∧f109_j4 k b N=some r_) ?_ ?_)
            ·refine sr (c0 (b == 13) (m2 (.bool (b == 13)) (wt (cd h (fun O h=>?_) (fun O h=>?_)))))
             ·exact cT O (wp_skip (thenN (⟨_,(b == 13),fR,g,h⟩)))
             ·refine cF O (sr (c0 (b == 18) (m2 (.bool (b == 18)) (wt (cd h (fun S h=>?_) (fun S h=>?_))))))
              ·exact cT S (wp_skip (thenN (⟨_,(b == 18),fR,g,h⟩)))
              ·refine cF S (sr (c0 (b == 19) (m2 (.bool (b == 19)) (wt (cd h (fun U h=>?_) (fun U h=>?_))))))
               ·exact cT U (wp_skip (thenN (⟨_,(b == 19),fR,g,h⟩)))
               ·exact cF U (wp_region_lit (c0 (b == 27) (m2 (.bool (b == 27)) (wt (⟨_,(b == 27),fR,g,h⟩)))))
            ·rintro _ aX ⟨au,N,rfl,j,h⟩
             unfold f109_j4 at h
             refine cd h (fun V h=>?_) (fun V h=>?_)
             ·refine cT V (sr (bld (cells:=#[iI 0,iI 0,iI 0,vN,vN,iI 0]) (vs:=[]) rfl (fun w=>by kernel_rfl) (sI 0 (.agg #[iI 0,iI 0,iI 0,vN,vN,iI 0]) #[iI 0,iI 0,iI 0,vN,vN,iI 0] j Tys143 rfl rfl (fun aY av=>(m2 vT (wt (wp_ret (blkR (thenR ?_)))))))))
              cases (oi h).trans hr_
              exact retA2 rfl (resN (i:=0) (l:=[iI 0,iI 0,iI 0,vN,vN,iI 0]) av rfl Tya143 Tys143 rfl rfl rfl) (resT rfl) ⟨K,[iI 0,iI 0,iI 0,vN,vN,iI 0],rfl,(av.sel []),.mk⟩
             ·refine cF V (sr (c0 (b == 17) (m2 (.bool (b == 17)) (wt (cd h (fun W h=>?_) (fun W h=>?_))))))
              ·refine cT W (sr (bld (cells:=#[iI 0,iI 1,iI 0,vN,vN,iI 0]) (vs:=[(1,iI 1)]) rfl (fun w=>by kernel_rfl) (sI 0 (.agg #[iI 0,iI 1,iI 0,vN,vN,iI 0]) #[iI 0,iI 1,iI 0,vN,vN,iI 0] j Tys143 rfl rfl (fun aZ aw=>(m2 vT (wt (wp_ret (blkR (thenR ?_)))))))))
               cases (oi h).trans hr_
               exact retA2 rfl (resN (i:=0) (l:=[iI 0,iI 1,iI 0,vN,vN,iI 0]) aw rfl Tya143 Tys143 rfl rfl rfl) (resT rfl) ⟨K,[iI 0,iI 1,iI 0,vN,vN,iI 0],rfl,(aw.sel []),.mk⟩
              ·refine cF W (sr (c0 (b == 20) (m2 (.bool (b == 20)) (wt (cd h (fun X h=>?_) (fun X h=>?_))))))
               ·refine cT X (sr (bld (cells:=#[iI 1,iI 1,iI 0,vN,vT,iI 1]) (vs:=[(0,iI 1),(1,iI 1),(4,vT),(5,iI 1)]) rfl (fun w=>by kernel_rfl) (sI 0 (.agg #[iI 1,iI 1,iI 0,vN,vT,iI 1]) #[iI 1,iI 1,iI 0,vN,vT,iI 1] j Tys143 rfl rfl (fun a1 ax=>(m2 vT (wt (wp_ret (blkR (thenR ?_)))))))))
                cases (oi h).trans hr_
                exact retA2 rfl (resN (i:=0) (l:=[iI 1,iI 1,iI 0,vN,vT,iI 1]) ax rfl Tya143 Tys143 rfl rfl rfl) (resT rfl) ⟨K,[iI 1,iI 1,iI 0,vN,vT,iI 1],rfl,(ax.sel []),.mk⟩
               ·refine cF X (wp_cut (fun a w=>∃ ay Y,a=fr 69 (updL ay [(2,pp (zz wi) 0),(4,iI b),(49,.bool Y)])∧SR K K wi w [] [.box (zz wi) (zz wi) #[iI 0,iI 0,iI 0,vN,vN,iI 0] 143]∧f109_j5 k b Y=some r_) ?_ ?_)
                ·refine sr (c0 (b == 21) (m2 (.bool (b == 21)) (wt (cd h (fun Z h=>?_) (fun Z h=>?_)))))
                 ·exact cT Z (wp_skip (thenN (⟨_,(b == 21),fR,j,h⟩)))
                 ·exact cF Z (wp_region_lit (c0 (b == 26) (m2 (.bool (b == 26)) (wt (⟨_,(b == 26),fR,j,h⟩)))))
                ·rintro _ a2 ⟨ay,Y,rfl,d,h⟩
                 unfold f109_j5 at h
                 refine cd h (fun ab h=>?_) (fun ab h=>?_)
                 ·refine cT ab (sr (bld (cells:=#[iI 1,iI 1,iI 0,vN,vT,iI 0]) (vs:=[(0,iI 1),(1,iI 1),(4,vT)]) rfl (fun w=>by kernel_rfl) (sI 0 (.agg #[iI 1,iI 1,iI 0,vN,vT,iI 0]) #[iI 1,iI 1,iI 0,vN,vT,iI 0] d Tys143 rfl rfl (fun a3 az=>(m2 vT (wt (wp_ret (blkR (thenR ?_)))))))))
                  cases (oi h).trans hr_
                  exact retA2 rfl (resN (i:=0) (l:=[iI 1,iI 1,iI 0,vN,vT,iI 0]) az rfl Tya143 Tys143 rfl rfl rfl) (resT rfl) ⟨K,[iI 1,iI 1,iI 0,vN,vT,iI 0],rfl,(az.sel []),.mk⟩
                 ·refine cF ab (sr (c0 (b == 22) (m2 (.bool (b == 22)) (wt (cd h (fun ac h=>?_) (fun ac h=>?_))))))
                  ·refine cT ac (sr (bld (cells:=#[iI 0,iI 1,iI 0,vN,vT,iI 1]) (vs:=[(1,iI 1),(4,vT),(5,iI 1)]) rfl (fun w=>by kernel_rfl) (sI 0 (.agg #[iI 0,iI 1,iI 0,vN,vT,iI 1]) #[iI 0,iI 1,iI 0,vN,vT,iI 1] d Tys143 rfl rfl (fun a4 aA=>(m2 vT (wt (wp_ret (blkR (thenR ?_)))))))))
                   cases (oi h).trans hr_
                   exact retA2 rfl (resN (i:=0) (l:=[iI 0,iI 1,iI 0,vN,vT,iI 1]) aA rfl Tya143 Tys143 rfl rfl rfl) (resT rfl) ⟨K,[iI 0,iI 1,iI 0,vN,vT,iI 1],rfl,(aA.sel []),.mk⟩
                  ·refine cF ac (sr (c0 (b == 23) (m2 (.bool (b == 23)) (wt (cd h (fun ad h=>?_) (fun ad h=>?_))))))
                   ·refine cT ad (sr (bld (cells:=#[iI 0,iI 0,iI 0,vN,vT,iI 0]) (vs:=[(4,vT)]) rfl (fun w=>by kernel_rfl) (sI 0 (.agg #[iI 0,iI 0,iI 0,vN,vT,iI 0]) #[iI 0,iI 0,iI 0,vN,vT,iI 0] d Tys143 rfl rfl (fun a5 aB=>(m2 vT (wt (wp_ret (blkR (thenR ?_)))))))))
                    cases (oi h).trans hr_
                    exact retA2 rfl (resN (i:=0) (l:=[iI 0,iI 0,iI 0,vN,vT,iI 0]) aB rfl Tya143 Tys143 rfl rfl rfl) (resT rfl) ⟨K,[iI 0,iI 0,iI 0,vN,vT,iI 0],rfl,(aB.sel []),.mk⟩
                   ·refine cF ad (sr (c0 (b == 24) (m2 (.bool (b == 24)) (wt (cd h (fun ae h=>?_) (fun ae h=>?_))))))
                    ·refine cT ae (sr (bld (cells:=#[iI 0,iI 0,iI 2,vN,vT,iI 3]) (vs:=[(2,iI 2),(4,vT),(5,iI 3)]) rfl (fun w=>by kernel_rfl) (sI 0 (.agg #[iI 0,iI 0,iI 2,vN,vT,iI 3]) #[iI 0,iI 0,iI 2,vN,vT,iI 3] d Tys143 rfl rfl (fun a6 aE=>(m2 vT (wt (wp_ret (blkR (thenR ?_)))))))))
                     cases (oi h).trans hr_
                     exact retA2 rfl (resN (i:=0) (l:=[iI 0,iI 0,iI 2,vN,vT,iI 3]) aE rfl Tya143 Tys143 rfl rfl rfl) (resT rfl) ⟨K,[iI 0,iI 0,iI 2,vN,vT,iI 3],rfl,(aE.sel []),.mk⟩
                    ·refine cF ae (sr (c0 (b == 25) (m2 (.bool (b == 25)) (wt (cd h (fun af h=>?_) (fun af h=>?_))))))
                     ·refine cT af (sr (bld (cells:=#[iI 1,iI 1,iI 1,vN,vT,iI 0]) (vs:=[(0,iI 1),(1,iI 1),(2,iI 1),(4,vT)]) rfl (fun w=>by kernel_rfl) (sI 0 (.agg #[iI 1,iI 1,iI 1,vN,vT,iI 0]) #[iI 1,iI 1,iI 1,vN,vT,iI 0] d Tys143 rfl rfl (fun a7 aF=>(m2 vT (wt (wp_ret (blkR (thenR ?_)))))))))
                      cases (oi h).trans hr_
                      exact retA2 rfl (resN (i:=0) (l:=[iI 1,iI 1,iI 1,vN,vT,iI 0]) aF rfl Tya143 Tys143 rfl rfl rfl) (resT rfl) ⟨K,[iI 1,iI 1,iI 1,vN,vT,iI 0],rfl,(aF.sel []),.mk⟩
                     ·refine cF af (sr (c0 (b == 28) (m2 (.bool (b == 28)) (wt (cd h (fun ag h=>?_) (fun ag h=>?_))))))
                      ·refine cT ag (sr (bld (cells:=#[iI 0,iI 600,iI 1,vT,vT,iI 66]) (vs:=[(1,iI 600),(2,iI 1),(3,vT),(4,vT),(5,iI 66)]) rfl (fun w=>by kernel_rfl) (sI 0 (.agg #[iI 0,iI 600,iI 1,vT,vT,iI 66]) #[iI 0,iI 600,iI 1,vT,vT,iI 66] d Tys143 rfl rfl (fun a8 aG=>(m2 vT (wt (wp_ret (blkR (thenR ?_)))))))))
                       cases (oi h).trans hr_
                       exact retA2 rfl (resN (i:=0) (l:=[iI 0,iI 600,iI 1,vT,vT,iI 66]) aG rfl Tya143 Tys143 rfl rfl rfl) (resT rfl) ⟨K,[iI 0,iI 600,iI 1,vT,vT,iI 66],rfl,(aG.sel []),.mk⟩
                      ·refine cF ag (wp_skip (blkN (thenN (sr (bld (cells:=#[iI 0,iI 0,iI 0,vN,vN,iI 0]) (vs:=[]) rfl (fun w=>by kernel_rfl) (sI 0 (.agg #[iI 0,iI 0,iI 0,vN,vN,iI 0]) #[iI 0,iI 0,iI 0,vN,vN,iI 0] d Tys143 rfl rfl (fun a9 aH=>(m2 vN (wt (wp_ret ?_))))))))))
                       cases (oi h).trans hr_
                       exact retA2 rfl (resN (i:=0) (l:=[iI 0,iI 0,iI 0,vN,vN,iI 0]) aH rfl Tya143 Tys143 rfl rfl rfl) (resT rfl) ⟨K,[iI 0,iI 0,iI 0,vN,vN,iI 0],rfl,(aH.sel []),.mk⟩
theorem f109_ok (k:Nat):f109_spec (f109 k):=f109_b_ok k
theorem f132_b_ok (k:Nat):f132_spec (f132_b k):=by
 unfold f132_spec
 intro K wi b t h hG q s
 obtain ⟨r_,hr_,h⟩:=rz h
 refine enter Tryz.func132 rfl (n:=23) rfl ?_
 unfold f132_b at h
 refine sr (m2 vN (wt (wp_seq (sr (m2 (iI 0) (wt (wp_block (wp_loopG (fun g_ a w=>∃ m e,∃ (c:Nat),g_=e.length∧a=fr 23 (updL m [(0,.string b),(3,iI (c:Int))])∧SR K K wi w [] []∧b.data.toList.drop c=e∧f132_l1 k b e c=some r_) b.data.toList.length ?_ ?_))))))))
 ·exact ⟨_,b.data.toList,0,rfl,fR,s,List.drop_zero,h⟩
 ·rintro _ _ u ⟨m,e,c,rfl,rfl,i,f,h⟩
  rcases e with _ | ⟨g,e⟩
  ·unfold f132_l1 at h
   refine wp_seq (sr (m1 (iI (c:Int)) (m1 (.string b) (lnT (a:=b) Tyt9 rfl (bcm (r:=false) rfl rfl (congrArg some (drop_nil_ls f)) (wt (cndF rfl (wp_exit (thenX (thenX (blkX (thenN (sr (m1 (.string b) (lnT (a:=b) Tyt9 rfl (c0 (decide ((b.size:Int) ≤ 60)) (m2 (.bool (decide ((b.size:Int) ≤ 60))) (wt (wp_ret ?_)))))))))))))))))))
   cases (oi h).trans hr_
   exact retA1 rfl (resT rfl) ⟨K,rfl,i⟩
  ·unfold f132_l1 at h
   refine wp_seq (sr (m1 (iI (c:Int)) (m1 (.string b) (lnT (a:=b) Tyt9 rfl (bcm (r:=true) rfl rfl (congrArg some (drop_cons_ts f)) (wt (cndT rfl (wp_skip (thenN (wp_seq (wp_block (wp_cut (fun a w=>∃ o j,a=fr 23 (updL o [(0,.string b),(3,iI (c:Int)),(19,.bool j)])∧SR K K wi w [] []∧f132_j1 k c j (f132_l1 k b e)=some r_) ?_ ?_))))))))))))
   ·refine wp_region_lit (m1 (.string b) (m1 (iI (c:Int)) (ixN Tyt9 rfl rfl f (c0 (decide ((g.toNat:Int) < 32)) (m1 (.bool (decide ((g.toNat:Int) < 32))) (cd h (fun d h=>?_) (fun d h=>?_)))))))
    ·exact o1 14 d (o1 14 d (o1 14 d (o1 14 d (m3 true vT (cg d) (wt (⟨_,true,fR,i,h⟩))))))
    ·exact n1 14 d (m1 (.string b) (n1 14 d (m1 (iI (c:Int)) (n1 14 d (ixN Tyt9 rfl rfl f (n1 14 d (c0 (decide ((g.toNat:Int) > 126)) (m3 false (.bool (decide ((g.toNat:Int) > 126))) (cg d) (wt (⟨_,(decide ((g.toNat:Int) > 126)),fR,i,h⟩))))))))))
   ·rintro _ v ⟨o,j,rfl,p,h⟩
    unfold f132_j1 at h
    refine cd h (fun l h=>?_) (fun l h=>?_)
    ·refine cT l (sr (m2 vN (wt (wp_ret (blkR (thenR (thenR (blkR (thenR ?_)))))))))
     cases (oi h).trans hr_
     exact retA1 rfl (resT rfl) ⟨K,rfl,p⟩
    ·exact cF l (wp_skip (blkN (thenN (wp_region_lit (m1 (iI (c:Int)) (bar (r:=((c + 1:Nat):Int)) rfl rfl (inc_ok (le_bigs q f)) (m2 (iI ((c + 1:Nat):Int)) (wt (⟨_,Nat.lt_succ_self _,_,e,c + 1,rfl,fR,p,drop_cons_next f,h⟩)))))))))
theorem f132_ok (k:Nat):f132_spec (f132 k):=f132_b_ok k
theorem f110_b_ok (k:Nat) (F:Fam110) (IH110:f110_spec F.f110):f110_spec (f110_b k F):=by
 unfold f110_spec
 intro K wi g bs Z ab X bv dQ s t dR dS dT h hG bw bx
 obtain ⟨r_,hr_,h⟩:=rz h
 obtain ⟨d,e,f,x,p⟩:=bv
 obtain ⟨y,z,rfl,aK,aL⟩:=RDExpr.open bw
 refine enter Tryz.func110 rfl (n:=161) rfl ?_
 unfold f110_b at h
 refine sr (bxoC (cs:=(vE d e f x y p z).toArray) bx rfl rfl (fun bz ao=>(wt (wp_seq (sr (m1 (pp g 0) (nilc rfl (fd 2 Tyf56_2 rfl (l1 1 (.bool X) ao Tya4 (wt (cd h (fun ap h=>?_) (fun ap h=>?_))))))))))))
 ·refine cT ap (wp_ret (thenR ?_))
  cases (oi h).trans hr_
  exact ret0 rfl ⟨K,rfl,(ao.sel [1])⟩
 ·refine cF ap (wp_skip (thenN (sr (m1 (pp g 0) (m1 (iI s) ?_)))))
  have aM:=p10 ao
  obtain ⟨⟨dU,dV,dW⟩,bA,h⟩:=ob h
  refine cv ([pp g 0,iI s]) Tyb60 ((f60_ok k) bA (hG.mono kr) (pt aM)) ?_
  rintro _ dX ⟨bB,rfl,l⟩
  have af:=ca l aM
  refine wt (wp_cut (fun a w=>∃ aN ag ah ai aj,a=fr 161 (updL aN [(0,pp g 0),(2,iI s),(3,.bool t),(5,pp (zz wi) 0)])∧KH.sub bB ag∧SR K ag wi w [.box bs g #[iI Z,iI ab,.bool X] 56] [.box bs g #[iI ah,iI ai,.bool aj] 56,.box (zz wi) (zz wi) (vE d e f x y p z).toArray 107]∧f110_j1 k F d e f p s t ah ai aj=some r_) ?_ ?_)
  ·refine wp_region_lit (m1 (pp g 0) (m1 (.bool t) (m1 (.bool t) (cd h (fun A h=>?_) (fun A h=>?_)))))
   ·refine o1 19 A (o1 19 A (o1 19 A (m3 true vT (cg A) ?_)))
    obtain ⟨⟨bC,bD,bE⟩,bF,h⟩:=ob h
    refine cv ([pp g 0,vT]) Tyb59 ((f59_ok k) bF (hG.mono l.sub) (pt af)) ?_
    rintro _ dY ⟨bG,rfl,aP⟩
    have bH:=ca aP af
    exact wt (⟨_,bG,bC,bD,bE,fR,aP.sub,bH,h⟩)
   ·refine n1 19 A (fd 3 Tyf107_3 rfl (n1 19 A (l1 1 (iI x) af Tya3 (n1 19 A (c0 (x == 0) (m3 false (.bool (x == 0)) (cg A) ?_))))))
    obtain ⟨⟨bI,bJ,bK⟩,bL,h⟩:=ob h
    refine cv ([pp g 0,.bool (x == 0)]) Tyb59 ((f59_ok k) bL (hG.mono l.sub) (pt af)) ?_
    rintro _ dZ ⟨bM,rfl,aQ⟩
    have bN:=ca aQ af
    exact wt (⟨_,bM,bI,bJ,bK,fR,aQ.sub,bN,h⟩)
  ·rintro _ d0 ⟨aN,ag,ah,ai,aj,rfl,m,c,h⟩
   unfold f110_j1 at h
   refine sr (m2 (iI 0) (wt (wp_cut (fun a w=>∃ aR aq ar au av ac,a=fr 161 (updL aR [(0,pp g 0),(2,iI s),(3,.bool t),(5,pp (zz wi) 0),(8,iI ac)])∧KH.sub ag aq∧SR K aq wi w [.box bs g #[iI Z,iI ab,.bool X] 56] [.box bs g #[iI ar,iI au,.bool av] 56,.box (zz wi) (zz wi) (vE d e f x y p z).toArray 107]∧f110_j2 k F p s t ar au av ac=some r_) ?_ ?_)))
   ·refine wp_block (sr (fd 0 Tyf107_0 rfl (l1 1 (iI d) c Tya3 (c0 (d == 1) (m2 (.bool (d == 1)) (wt (cd h (fun aw h=>?_) (fun aw h=>?_))))))))
    ·refine cT aw (wp_region_lit (m1 (pp g 0) (fd 1 Tyf107_1 rfl (l1 1 (iI e) c Tya3 (c0 (decide (e ≥ 0)) (m1 (.bool (decide (e ≥ 0))) (cd h (fun B h=>?_) (fun B h=>?_))))))))
     ·refine n1 53 B (fd 1 Tyf107_1 rfl (n1 53 B (l1 1 (iI e) c Tya3 (n1 53 B (c0 (decide (e ≤ 1000000000000)) (m3 true (.bool (decide (e ≤ 1000000000000))) (cg B) (m1 (.bool (decide (e ≤ 1000000000000))) (cd h (fun C h=>?_) (fun C h=>?_)))))))))
      ·refine n1 58 C (fd 2 Tyf107_2 rfl (n1 58 C (l1 1 (.string f) c Tya9 (n1 58 C (bsc (r:=(seq f ⟨#[]⟩)) rfl rfl rfl (m3 true (.bool (seq f ⟨#[]⟩)) (cg C) ?_))))))
       obtain ⟨⟨bO,bP,bQ⟩,bR,h⟩:=ob h
       refine cv ([pp g 0,.bool (seq f ⟨#[]⟩)]) Tyb59 ((f59_ok k) bR (hG.mono (l.sub.trans m)) (pt c)) ?_
       rintro _ d1 ⟨bS,rfl,aS⟩
       have bT:=ca aS c
       exact wpList_nil (blkN (thenN (⟨_,bS,bO,bP,bQ,0,fR,aS.sub,bT,h⟩)))
      ·refine o1 58 C (o1 58 C (o1 58 C (m3 false vN (cg C) ?_)))
       obtain ⟨⟨bU,bV,bW⟩,bX,h⟩:=ob h
       refine cv ([pp g 0,vN]) Tyb59 ((f59_ok k) bX (hG.mono (l.sub.trans m)) (pt c)) ?_
       rintro _ d2 ⟨bY,rfl,aT⟩
       have bZ:=ca aT c
       exact wpList_nil (blkN (thenN (⟨_,bY,bU,bV,bW,0,fR,aT.sub,bZ,h⟩)))
     ·refine o1 53 B (o1 53 B (o1 53 B (m3 false vN (cg B) (m1 vN (o0 58 (o0 58 (o0 58 (m3 false vN rfl ?_))))))))
      obtain ⟨⟨b0,b1,b2⟩,b3,h⟩:=ob h
      refine cv ([pp g 0,vN]) Tyb59 ((f59_ok k) b3 (hG.mono (l.sub.trans m)) (pt c)) ?_
      rintro _ d3 ⟨b4,rfl,aU⟩
      have b5:=ca aU c
      exact wpList_nil (blkN (thenN (⟨_,b4,b0,b1,b2,0,fR,aU.sub,b5,h⟩)))
    ·refine cF aw (sr (fd 0 Tyf107_0 rfl (l1 1 (iI d) c Tya3 (c0 (d == 2) (m2 (.bool (d == 2)) (wt (cd h (fun ax h=>?_) (fun ax h=>?_))))))))
     ·refine cT ax (wp_region_lit (m1 (pp g 0) (fd 1 Tyf107_1 rfl (l1 1 (iI e) c Tya3 (c0 (e == 0) (m1 (.bool (e == 0)) (cd h (fun D h=>?_) (fun D h=>?_))))))))
      ·refine o1 72 D (o1 72 D (o1 72 D (m3 true vT (cg D) (m1 vT (n0 77 (fd 2 Tyf107_2 rfl (n0 77 (l1 1 (.string f) c Tya9 (n0 77 (bsc (r:=(seq f ⟨#[]⟩)) rfl rfl rfl (m3 true (.bool (seq f ⟨#[]⟩)) rfl ?_)))))))))))
       obtain ⟨⟨b6,b7,b8⟩,b9,h⟩:=ob h
       refine cv ([pp g 0,.bool (seq f ⟨#[]⟩)]) Tyb59 ((f59_ok k) b9 (hG.mono (l.sub.trans m)) (pt c)) ?_
       rintro _ d4 ⟨cb,rfl,aV⟩
       have cc:=ca aV c
       exact wpList_nil (blkN (thenN (⟨_,cb,b6,b7,b8,0,fR,aV.sub,cc,h⟩)))
      ·refine n1 72 D (fd 1 Tyf107_1 rfl (n1 72 D (l1 1 (iI e) c Tya3 (n1 72 D (c0 (e == 1) (m3 false (.bool (e == 1)) (cg D) (m1 (.bool (e == 1)) (cd h (fun G h=>?_) (fun G h=>?_)))))))))
       ·refine n1 77 G (fd 2 Tyf107_2 rfl (n1 77 G (l1 1 (.string f) c Tya9 (n1 77 G (bsc (r:=(seq f ⟨#[]⟩)) rfl rfl rfl (m3 true (.bool (seq f ⟨#[]⟩)) (cg G) ?_))))))
        obtain ⟨⟨ce,cf,ch⟩,ci,h⟩:=ob h
        refine cv ([pp g 0,.bool (seq f ⟨#[]⟩)]) Tyb59 ((f59_ok k) ci (hG.mono (l.sub.trans m)) (pt c)) ?_
        rintro _ d5 ⟨cj,rfl,aW⟩
        have ck:=ca aW c
        exact wpList_nil (blkN (thenN (⟨_,cj,ce,cf,ch,0,fR,aW.sub,ck,h⟩)))
       ·refine o1 77 G (o1 77 G (o1 77 G (m3 false vN (cg G) ?_)))
        obtain ⟨⟨cl,cm,cn⟩,co,h⟩:=ob h
        refine cv ([pp g 0,vN]) Tyb59 ((f59_ok k) co (hG.mono (l.sub.trans m)) (pt c)) ?_
        rintro _ d6 ⟨cq,rfl,aX⟩
        have cr:=ca aX c
        exact wpList_nil (blkN (thenN (⟨_,cq,cl,cm,cn,0,fR,aX.sub,cr,h⟩)))
     ·refine cF ax (sr (fd 0 Tyf107_0 rfl (l1 1 (iI d) c Tya3 (c0 (d == 3) (m2 (.bool (d == 3)) (wt (cd h (fun ay h=>?_) (fun ay h=>?_))))))))
      ·refine cT ay (wp_region_lit (m1 (pp g 0) (fd 1 Tyf107_1 rfl (l1 1 (iI e) c Tya3 (c0 (e == 0) (m1 (.bool (e == 0)) (cd h (fun I h=>?_) (fun I h=>?_))))))))
       ·refine n1 91 I (fd 2 Tyf107_2 rfl (n1 91 I (l1 1 (.string f) c Tya9 (n1 91 I ?_))))
        obtain ⟨aY,ct,h⟩:=ob h
        refine cv ([.string f]) Tyb132 ((f132_ok k) ct (hG.mono (l.sub.trans m)) aK (pt c)) ?_
        rintro _ d7 ⟨d8,rfl,az⟩
        have aZ:=ca az c
        refine m3 true (.bool aY) (cg I) ?_
        obtain ⟨⟨cu,cw,cx⟩,cy,h⟩:=ob h
        refine cv ([pp g 0,.bool aY]) Tyb59 ((f59_ok k) cy (hG.mono ((l.sub.trans m).trans az.sub)) (pt aZ)) ?_
        rintro _ d9 ⟨cz,rfl,a0⟩
        have cA:=ca a0 aZ
        exact wpList_nil (blkN (thenN (⟨_,cz,cu,cw,cx,0,fR,(az.sub.trans a0.sub),cA,h⟩)))
       ·refine o1 91 I (o1 91 I (o1 91 I (m3 false vN (cg I) ?_)))
        obtain ⟨⟨cB,cC,cD⟩,cG,h⟩:=ob h
        refine cv ([pp g 0,vN]) Tyb59 ((f59_ok k) cG (hG.mono (l.sub.trans m)) (pt c)) ?_
        rintro _ ea ⟨cH,rfl,a4⟩
        have cI:=ca a4 c
        exact wpList_nil (blkN (thenN (⟨_,cH,cB,cC,cD,0,fR,a4.sub,cI,h⟩)))
      ·refine cF ay (sr (fd 0 Tyf107_0 rfl (l1 1 (iI d) c Tya3 (c0 (d == 4) (m2 (.bool (d == 4)) (wt (cd h (fun aA h=>?_) (fun aA h=>?_))))))))
       ·refine cT aA (wp_region_lit (m1 (pp g 0) (fd 1 Tyf107_1 rfl (l1 1 (iI e) c Tya3 (c0 (e == 0) (m1 (.bool (e == 0)) (cd h (fun J h=>?_) (fun J h=>?_))))))))
        ·refine n1 105 J (fd 2 Tyf107_2 rfl (n1 105 J (l1 1 (.string f) c Tya9 (n1 105 J ?_))))
         obtain ⟨a5,cJ,h⟩:=ob h
         refine cv ([.string f]) Tyb34 ((f34_ok k) cJ (hG.mono (l.sub.trans m)) aK (pt c)) ?_
         rintro _ ec ⟨ed,rfl,aB⟩
         have a6:=ca aB c
         refine m3 true (.bool a5) (cg J) ?_
         obtain ⟨⟨cK,cL,cM⟩,cN,h⟩:=ob h
         refine cv ([pp g 0,.bool a5]) Tyb59 ((f59_ok k) cN (hG.mono ((l.sub.trans m).trans aB.sub)) (pt a6)) ?_
         rintro _ ee ⟨cO,rfl,a7⟩
         have cP:=ca a7 a6
         exact wpList_nil (blkN (thenN (⟨_,cO,cK,cL,cM,0,fR,(aB.sub.trans a7.sub),cP,h⟩)))
        ·refine o1 105 J (o1 105 J (o1 105 J (m3 false vN (cg J) ?_)))
         obtain ⟨⟨cQ,cR,cS⟩,cU,h⟩:=ob h
         refine cv ([pp g 0,vN]) Tyb59 ((f59_ok k) cU (hG.mono (l.sub.trans m)) (pt c)) ?_
         rintro _ ef ⟨cV,rfl,a8⟩
         have cW:=ca a8 c
         exact wpList_nil (blkN (thenN (⟨_,cV,cQ,cR,cS,0,fR,a8.sub,cW,h⟩)))
       ·refine cF aA (wp_cut (fun a w=>∃ a9 aE,a=fr 161 (updL a9 [(0,pp g 0),(2,iI s),(3,.bool t),(5,pp (zz wi) 0),(111,.bool aE)])∧SR K ag wi w [.box bs g #[iI Z,iI ab,.bool X] 56] [.box bs g #[iI ah,iI ai,.bool aj] 56,.box (zz wi) (zz wi) (vE d e f x y p z).toArray 107]∧f110_j3 k F d e f p s t ah ai aj aE=some r_) ?_ ?_)
        ·refine wp_region_lit (fd 0 Tyf107_0 rfl (l1 1 (iI d) c Tya3 (c0 (d == 5) (m1 (.bool (d == 5)) (cd h (fun N h=>?_) (fun N h=>?_))))))
         ·exact o1 115 N (o1 115 N (o1 115 N (m3 true vT (cg N) (m2 vT (wt (⟨_,true,fR,c,h⟩))))))
         ·exact n1 115 N (fd 0 Tyf107_0 rfl (n1 115 N (l1 1 (iI d) c Tya3 (n1 115 N (c0 (d == 6) (m3 false (.bool (d == 6)) (cg N) (m2 (.bool (d == 6)) (wt (⟨_,(d == 6),fR,c,h⟩)))))))))
        ·rintro _ eg ⟨a9,aE,rfl,q,h⟩
         unfold f110_j3 at h
         refine cd h (fun aF h=>?_) (fun aF h=>?_)
         ·refine cT aF (sr (m2 (iI 1) (wt (wp_region_lit (m1 (pp g 0) (fd 1 Tyf107_1 rfl (l1 1 (iI e) q Tya3 (c0 (e == 0) (m1 (.bool (e == 0)) (cd h (fun O h=>?_) (fun O h=>?_)))))))))))
          ·refine n1 124 O (fd 2 Tyf107_2 rfl (n1 124 O (l1 1 (.string f) q Tya9 (n1 124 O (bsc (r:=(seq f ⟨#[]⟩)) rfl rfl rfl (m3 true (.bool (seq f ⟨#[]⟩)) (cg O) ?_))))))
           obtain ⟨⟨cX,cY,cZ⟩,c3,h⟩:=ob h
           refine cv ([pp g 0,.bool (seq f ⟨#[]⟩)]) Tyb59 ((f59_ok k) c3 (hG.mono (l.sub.trans m)) (pt q)) ?_
           rintro _ eh ⟨c4,rfl,ba⟩
           have c5:=ca ba q
           exact wpList_nil (blkN (thenN (⟨_,c4,cX,cY,cZ,1,fR,ba.sub,c5,h⟩)))
          ·refine o1 124 O (o1 124 O (o1 124 O (m3 false vN (cg O) ?_)))
           obtain ⟨⟨c6,c7,c8⟩,c9,h⟩:=ob h
           refine cv ([pp g 0,vN]) Tyb59 ((f59_ok k) c9 (hG.mono (l.sub.trans m)) (pt q)) ?_
           rintro _ ei ⟨da,rfl,bb⟩
           have db:=ca bb q
           exact wpList_nil (blkN (thenN (⟨_,da,c6,c7,c8,1,fR,bb.sub,db,h⟩)))
         ·refine cF aF (sr (m2 (iI 2) (wt (wp_region_lit (m1 (pp g 0) (fd 0 Tyf107_0 rfl (l1 1 (iI d) q Tya3 (c0 (decide (d ≥ 7)) (m1 (.bool (decide (d ≥ 7))) (cd h (fun S h=>?_) (fun S h=>?_)))))))))))
          ·refine n1 29 S (fd 0 Tyf107_0 rfl (n1 29 S (l1 1 (iI d) q Tya3 (n1 29 S (c0 (decide (d ≤ 19)) (m3 true (.bool (decide (d ≤ 19))) (cg S) (m1 (.bool (decide (d ≤ 19))) (cd h (fun U h=>?_) (fun U h=>?_)))))))))
           ·refine n1 34 U (fd 1 Tyf107_1 rfl (n1 34 U (l1 1 (iI e) q Tya3 (n1 34 U (c0 (e == 0) (m3 true (.bool (e == 0)) (cg U) (m1 (.bool (e == 0)) (cd h (fun V h=>?_) (fun V h=>?_)))))))))
            ·refine n1 39 V (fd 2 Tyf107_2 rfl (n1 39 V (l1 1 (.string f) q Tya9 (n1 39 V (bsc (r:=(seq f ⟨#[]⟩)) rfl rfl rfl (m3 true (.bool (seq f ⟨#[]⟩)) (cg V) ?_))))))
             obtain ⟨⟨dc,dd,de⟩,df,h⟩:=ob h
             refine cv ([pp g 0,.bool (seq f ⟨#[]⟩)]) Tyb59 ((f59_ok k) df (hG.mono (l.sub.trans m)) (pt q)) ?_
             rintro _ ej ⟨dg,rfl,bd⟩
             have dh:=ca bd q
             exact wpList_nil (blkN (thenN (⟨_,dg,dc,dd,de,2,fR,bd.sub,dh,h⟩)))
            ·refine o1 39 V (o1 39 V (o1 39 V (m3 false vN (cg V) ?_)))
             obtain ⟨⟨di,dj,dk⟩,dl,h⟩:=ob h
             refine cv ([pp g 0,vN]) Tyb59 ((f59_ok k) dl (hG.mono (l.sub.trans m)) (pt q)) ?_
             rintro _ ek ⟨dm,rfl,be⟩
             have dn:=ca be q
             exact wpList_nil (blkN (thenN (⟨_,dm,di,dj,dk,2,fR,be.sub,dn,h⟩)))
           ·refine o1 34 U (o1 34 U (o1 34 U (m3 false vN (cg U) (m1 vN (o0 39 (o0 39 (o0 39 (m3 false vN rfl ?_))))))))
            obtain ⟨⟨dp,dq,dr⟩,ds,h⟩:=ob h
            refine cv ([pp g 0,vN]) Tyb59 ((f59_ok k) ds (hG.mono (l.sub.trans m)) (pt q)) ?_
            rintro _ el ⟨dt,rfl,bf⟩
            have du:=ca bf q
            exact wpList_nil (blkN (thenN (⟨_,dt,dp,dq,dr,2,fR,bf.sub,du,h⟩)))
          ·refine o1 29 S (o1 29 S (o1 29 S (m3 false vN (cg S) (m1 vN (o0 34 (o0 34 (o0 34 (m3 false vN rfl (m1 vN (o0 39 (o0 39 (o0 39 (m3 false vN rfl ?_)))))))))))))
           obtain ⟨⟨dv,dw,dx⟩,dy,h⟩:=ob h
           refine cv ([pp g 0,vN]) Tyb59 ((f59_ok k) dy (hG.mono (l.sub.trans m)) (pt q)) ?_
           rintro _ em ⟨dz,rfl,bg⟩
           have dA:=ca bg q
           exact wpList_nil (blkN (thenN (⟨_,dz,dv,dw,dx,2,fR,bg.sub,dA,h⟩)))
   ·rintro _ en ⟨aR,aq,ar,au,av,ac,rfl,al,aG,h⟩
    unfold f110_j2 at h
    refine sr (m1 (pp g 0) (fd 4 Tyf107_4 rfl (l1 1 (sl y p z) aG Tya39 (lS p.length Tye39 (m1 (iI ac) (c0 ((p.length:Int) == ac) ?_))))))
    obtain ⟨⟨dB,dC,dD⟩,dE,h⟩:=ob h
    refine cv ([pp g 0,.bool ((p.length:Int) == ac)]) Tyb59 ((f59_ok k) dE (hG.mono ((l.sub.trans m).trans al)) (pt aG)) ?_
    rintro _ eo ⟨bh,rfl,am⟩
    have dF:=ca am aG
    refine wt (sr (m2 (iI 0) (wt (wp_block (wp_loopG (fun g_ a w=>∃ bi ak Y,∃ (u:Nat),∃ aH aI ad,g_=Y.length∧a=fr 161 (updL bi [(0,pp g 0),(2,iI s),(3,.bool t),(5,pp (zz wi) 0),(9,iI (u:Int))])∧KH.sub bh ak∧SR K ak wi w [.box bs g #[iI Z,iI ab,.bool X] 56] [.box bs g #[iI aH,iI aI,.bool ad] 56,.box (zz wi) (zz wi) (vE d e f x y p z).toArray 107]∧p.drop u=Y∧f110_l1 k F s t Y u aH aI ad=some r_) p.length ?_ ?_)))))
    ·exact ⟨_,bh,p,0,dB,dC,dD,rfl,fR,kr,dF,List.drop_zero,h⟩
    ·rintro _ _ ep ⟨bi,ak,Y,u,aH,aI,ad,rfl,rfl,an,W,ae,h⟩
     rcases Y with _ | ⟨⟨bj,bk,bm,bn,bo⟩,Y⟩
     ·unfold f110_l1 at h
      refine wp_seq (sr (m1 (iI (u:Int)) (fd 4 Tyf107_4 rfl (l1 1 (sl y p z) W Tya39 (lS p.length Tye39 (bcm (r:=false) rfl rfl (congrArg some (drop_nil_lt ae)) (m1 vN (o0 142 (o0 142 (o0 142 (o0 142 (o0 142 (m3 false vN rfl (wt (cndF rfl (wp_exit (thenX (thenX (blkX ?_)))))))))))))))))))
      cases (oi h).trans hr_
      exact end0 rfl ⟨ak,rfl,(W.sel [0])⟩
     ·unfold f110_l1 at h
      refine wp_seq (sr (m1 (iI (u:Int)) (fd 4 Tyf107_4 rfl (l1 1 (sl y p z) W Tya39 (lS p.length Tye39 (bcm (r:=true) rfl rfl (congrArg some (drop_cons_t ae)) (m1 vT (n0 142 (m1 (pp g 0) (n0 142 (nilc rfl (n0 142 (fd 2 Tyf56_2 rfl (n0 142 (l1 0 (.bool ad) W Tya4 (n0 142 (uN ad (m3 true (.bool (!ad)) rfl (wt (cd h (fun aJ h=>?_) (fun aJ h=>?_)))))))))))))))))))))
      ·refine cT aJ (wp_skip (thenN (wp_seq (wp_block (wp_region_lit (m1 (pp g 0) (fd 4 Tyf107_4 rfl (l1 1 (sl y p z) W Tya39 (m1 (iI (u:Int)) ?_)))))))))
       obtain ⟨dG,dH,eq,dI,es,dJ,bp⟩:=((me aL ((((l.sub.trans m).trans al).trans am.sub).trans an))).row.at_ (drop_cons_at ae)
       obtain ⟨bq,br,rfl,et,eu⟩:=RDExpr.open bp
       refine idxN (b:=dG) (o:=dH) (i:=u) Tye39 Tys107 rfl dI rfl (drop_cons_lt ae) (lD (vE bj bk bm bn bq bo br) Tya107 Tys107 rfl (fun j v hj=>W.cell (kr.cell (dJ j v hj))) (m1 (iI s) (bar (r:=(w64 (s + 1))) rfl rfl rfl (m1 (.bool t) ?_))))
       obtain ⟨⟨dK,dL,dM⟩,dN,h⟩:=ob h
       refine cv ([pp g 0,.agg (vE bj bk bm bn bq bo br).toArray,iI (w64 (s + 1)),.bool t]) Tyb110 (IH110 dN (hG.mono ((((l.sub.trans m).trans al).trans am.sub).trans an)) bp (pt W)) ?_
       rintro _ ew ⟨dO,rfl,bu⟩
       have dP:=ca bu W
       exact wpList_nil (blkN (thenN (wp_region_lit (m1 (iI (u:Int)) (bar (r:=((u + 1:Nat):Int)) rfl rfl (inc_ok (le_big (((me aL ((((l.sub.trans m).trans al).trans am.sub).trans an))).len) (by decide) (drop_cons_lt ae))) (m2 (iI ((u + 1:Nat):Int)) (wt (⟨_,Nat.lt_succ_self _,_,dO,Y,u + 1,dK,dL,dM,rfl,fR,(an.trans bu.sub),dP,drop_cons_next ae,h⟩))))))))
      ·refine cF aJ (wp_exit (thenX (thenX (blkX ?_))))
       cases (oi h).trans hr_
       exact end0 rfl ⟨ak,rfl,(W.sel [0])⟩
theorem fam110_ok (k0:Nat) : ∀ k,f110_spec (fam110 k0 k).f110:=by
 intro k
 induction k with
 | zero=>exact (by unfold f110_spec; intro _ _ _ _ _ _ _ _ _ _ _ _ _ _ h_; cases h_)
 | succ k ih=>exact f110_b_ok k0 (fam110 k0 k) ih
theorem f110_ok (k:Nat):f110_spec (f110 k):=(fam110_ok k k)
theorem f61_b_ok (k:Nat) (F:Fam61) (IH61:f61_spec F.f61) (IH90:f90_spec F.f90) (IH111:f111_spec F.f111):f61_spec (f61_b k F):=by
 unfold f61_spec
 intro K wi g bs A B C d q s t aA aB aE h hG D an
 obtain ⟨r_,hr_,h⟩:=rz h
 refine enter Tryz.func61 rfl (n:=27) rfl ?_
 unfold f61_b at h
 refine sr (m2 (iI 0) (wt (wp_block (wp_loopG (fun g_ a w=>∃ G p e,∃ (c:Nat),∃ x y f,g_=e.length∧a=fr 27 (updL G [(0,pp g 0),(1,sl q d s),(2,iI t),(6,iI (c:Int))])∧KH.sub K p∧SR K p wi w [.box bs g #[iI A,iI B,.bool C] 56] [.box bs g #[iI x,iI y,.bool f] 56]∧d.drop c=e∧f61_l1 k F t e c x y f=some r_) d.length ?_ ?_))))
 ·exact ⟨_,K,d,0,A,B,C,rfl,fR,kr,an,List.drop_zero,h⟩
 ·rintro _ _ aF ⟨G,p,e,c,x,y,f,rfl,rfl,u,l,m,h⟩
  rcases e with _ | ⟨⟨I,J,N,O,S,U,V,W,X,Y,Z⟩,e⟩
  ·unfold f61_l1 at h
   refine wp_seq (sr (m1 (iI (c:Int)) (m1 (sl q d s) (lS d.length Tye36 (bcm (r:=false) rfl rfl (congrArg some (drop_nil_lt m)) (m1 vN (o0 11 (o0 11 (o0 11 (o0 11 (o0 11 (m3 false vN rfl (wt (cndF rfl (wp_exit (thenX (thenX (blkX ?_))))))))))))))))))
   cases (oi h).trans hr_
   exact end0 rfl ⟨p,rfl,l⟩
  ·unfold f61_l1 at h
   refine wp_seq (sr (m1 (iI (c:Int)) (m1 (sl q d s) (lS d.length Tye36 (bcm (r:=true) rfl rfl (congrArg some (drop_cons_t m)) (m1 vT (n0 11 (m1 (pp g 0) (n0 11 (nilc rfl (n0 11 (fd 2 Tyf56_2 rfl (n0 11 (l1 0 (.bool f) l Tya4 (n0 11 (uN f (m3 true (.bool (!f)) rfl (wt (cd h (fun z h=>?_) (fun z h=>?_))))))))))))))))))))
   ·refine cT z (wp_skip (thenN (wp_seq (wp_block (wp_region_lit (m1 (pp g 0) (m1 (sl q d s) (m1 (iI (c:Int)) ?_))))))))
    obtain ⟨ao,ap,aG,aq,aH,ar,ab⟩:=((ms D u)).row.at_ (drop_cons_at m)
    obtain ⟨ac,ad,ae,af,ag,ah,ai,aj,ak,al,rfl,aI,aJ,aK,aL,aM,aN,aP⟩:=RDStmt.open ab
    refine idxN (b:=ao) (o:=ap) (i:=c) Tye36 Tys42 rfl aq rfl (drop_cons_lt m) (lD (vS I J N O S U ac V ad ae W af ag X ah ai Y aj ak Z al) Tya42 Tys42 rfl (fun j v hj=>l.cell (kr.cell (ar j v hj))) (m1 (iI t) ?_))
    obtain ⟨⟨au,av,aw⟩,ax,h⟩:=ob h
    refine cv ([pp g 0,.agg (vS I J N O S U ac V ad ae W af ag X ah ai Y aj ak Z al).toArray,iI t]) Tyb90 (IH90 ax (hG.mono u) ab (pt l)) ?_
    rintro _ aQ ⟨ay,rfl,am⟩
    have az:=ca am l
    exact wpList_nil (blkN (thenN (wp_region_lit (m1 (iI (c:Int)) (bar (r:=((c + 1:Nat):Int)) rfl rfl (inc_ok (le_big (((ms D u)).len) (by decide) (drop_cons_lt m))) (m2 (iI ((c + 1:Nat):Int)) (wt (⟨_,Nat.lt_succ_self _,_,ay,e,c + 1,au,av,aw,rfl,fR,(u.trans am.sub),az,drop_cons_next m,h⟩))))))))
   ·refine cF z (wp_exit (thenX (thenX (blkX ?_))))
    cases (oi h).trans hr_
    exact end0 rfl ⟨p,rfl,l⟩
theorem f90_b_ok (k:Nat) (F:Fam61) (IH61:f61_spec F.f61) (IH90:f90_spec F.f90) (IH111:f111_spec F.f111):f90_spec (f90_b k F):=by
 unfold f90_spec
 intro K wi g bs af ag ae eF jV s jW jX jY h hG eG eH
 obtain ⟨r_,hr_,h⟩:=rz h
 obtain ⟨p,f,O,A,S,c,q,t,x,y,l⟩:=eF
 obtain ⟨J,N,U,V,W,X,Y,Z,D,G,rfl,bB,eI,c2,eJ,eK,eL,c4⟩:=RDStmt.open eG
 refine enter Tryz.func90 rfl (n:=307) rfl ?_
 unfold f90_b at h
 refine sr (bxoC (cs:=(vS p f O A S c J q N U t V W x X Y y Z D l G).toArray) eH rfl rfl (fun eM cc=>(wt (wp_seq (sr (m1 (pp g 0) (nilc rfl (fd 2 Tyf56_2 rfl (l1 1 (.bool ae) cc Tya4 (wt (cd h (fun ce h=>?_) (fun ce h=>?_))))))))))))
 ·refine cT ce (wp_ret (thenR ?_))
  cases (oi h).trans hr_
  exact ret0 rfl ⟨K,rfl,(cc.sel [1])⟩
 ·refine cF ce (wp_skip (thenN (sr (m1 (pp g 0) (m1 (iI s) ?_)))))
  have c5:=p10 cc
  obtain ⟨⟨bp,bq,br⟩,eN,h⟩:=ob h
  refine cv ([pp g 0,iI s]) Tyb60 ((f60_ok k) eN (hG.mono kr) (pt c5)) ?_
  rintro _ jZ ⟨j0,rfl,d⟩
  have cf:=ca d c5
  refine wt (sr (fd 0 Tyf42_0 rfl (l1 1 (iI p) cf Tya3 ?_)))
  obtain ⟨⟨⟨am,an,z,ab,aj,ao⟩,bL⟩,eO,h⟩:=ob h
  refine cv ([iI p]) Tyb109 ((f109_ok k) eO (hG.mono d.sub) (pt cf)) ?_
  rintro _ aI ⟨bi,j1,rfl,e,eP⟩
  have eQ:=ca e cf
  obtain rfl:=RDShape.open eP
  refine m1 (.tuple #[.agg #[iI am,iI an,iI z,.bool ab,.bool aj,iI ao],.bool bL]) (ext (v:=.agg #[iI am,iI an,iI z,.bool ab,.bool aj,iI ao]) rfl rfl (ext (v:=.bool bL) rfl rfl (aC #[iI 0,iI 0,iI 0,vN,vN,iI 0] eQ Tyz143 (fun j2 eR=>(sI 0 (.agg #[iI am,iI an,iI z,.bool ab,.bool aj,iI ao]) #[iI am,iI an,iI z,.bool ab,.bool aj,iI ao] eR Tys143 rfl rfl (fun bu ar=>(m2 (.bool bL) (wt (wp_cut (fun a w=>∃ c7 bR ch ci cj,a=fr 307 (updL c7 [(0,pp g 0),(2,iI s),(4,pp (zz wi) 0),(6,pp (zz aI) 0)])∧KH.sub bi bR∧SR K bR wi w [.box bs g #[iI af,iI ag,.bool ae] 56] [.box bs g #[iI ch,iI ci,.bool cj] 56,.box (zz wi) (zz wi) (vS p f O A S c J q N U t V W x X Y y Z D l G).toArray 42,.box (zz wi) (zz aI) #[iI am,iI an,iI z,.bool ab,.bool aj,iI ao] 143]∧f90_j1 k F p f A c q t x y l s z ab aj ch ci cj=some r_) ?_ ?_)))))))))
  ·refine wp_region_lit (m1 (pp g 0) (m1 (.bool bL) (m1 (.bool bL) (cd h (fun av h=>?_) (fun av h=>?_)))))
   ·refine n1 25 av (fd 6 Tyf42_6 rfl (n1 25 av (l1 2 (sl J q N) ar Tya39 (n1 25 av (lS q.length Tye39 (n1 25 av (fd 0 Tyf143_0 rfl (n1 25 av (l1 0 (iI am) ar Tya3 (n1 25 av (c0 (decide ((q.length:Int) ≥ am)) (m3 true (.bool (decide ((q.length:Int) ≥ am))) (cg av) (m1 (.bool (decide ((q.length:Int) ≥ am))) (cd h (fun aw h=>?_) (fun aw h=>?_)))))))))))))))
    ·refine n1 33 aw (fd 6 Tyf42_6 rfl (n1 33 aw (l1 2 (sl J q N) ar Tya39 (n1 33 aw (lS q.length Tye39 (n1 33 aw (fd 1 Tyf143_1 rfl (n1 33 aw (l1 0 (iI an) ar Tya3 (n1 33 aw (c0 (decide ((q.length:Int) ≤ an)) (m3 true (.bool (decide ((q.length:Int) ≤ an))) (cg aw) (m1 (.bool (decide ((q.length:Int) ≤ an))) (cd h (fun aX h=>?_) (fun aX h=>?_)))))))))))))))
     ·refine n1 41 aX (fd 5 Tyf42_5 rfl (n1 41 aX (l1 2 (iI c) ar Tya3 (n1 41 aX (c0 (decide (c ≥ 0)) (m3 true (.bool (decide (c ≥ 0))) (cg aX) (m1 (.bool (decide (c ≥ 0))) (cd h (fun aJ h=>?_) (fun aJ h=>?_)))))))))
      ·refine n1 46 aJ (fd 5 Tyf42_5 rfl (n1 46 aJ (l1 2 (iI c) ar Tya3 (n1 46 aJ (fd 5 Tyf143_5 rfl (n1 46 aJ (l1 0 (iI ao) ar Tya3 (n1 46 aJ (c0 (decide (c ≤ ao)) (m3 true (.bool (decide (c ≤ ao))) (cg aJ) (m1 (.bool (decide (c ≤ ao))) (cd h (fun aY h=>?_) (fun aY h=>?_)))))))))))))
       ·refine n1 53 aY (fd 2 Tyf42_2 rfl (n1 53 aY (l1 2 (iI O) ar Tya3 (n1 53 aY (c0 (O == 0) (m3 true (.bool (O == 0)) (cg aY) (m1 (.bool (O == 0)) (cd h (fun aZ h=>?_) (fun aZ h=>?_)))))))))
        ·refine n1 58 aZ (fd 4 Tyf42_4 rfl (n1 58 aZ (l1 2 (iI S) ar Tya3 (n1 58 aZ (c0 (S == 0) (m3 true (.bool (S == 0)) (cg aZ) ?_))))))
         have c8:=p102 ar
         obtain ⟨⟨eS,eT,eU⟩,eV,h⟩:=ob h
         refine cv ([pp g 0,.bool (S == 0)]) Tyb59 ((f59_ok k) eV (hG.mono (d.sub.trans e.sub)) (pt c8)) ?_
         rintro _ j3 ⟨eW,rfl,da⟩
         have eX:=ca da c8
         exact wt (⟨_,eW,eS,eT,eU,fR,da.sub,(eX.sel [0,2,1]),h⟩)
        ·refine o1 58 aZ (o1 58 aZ (o1 58 aZ (m3 false vN (cg aZ) ?_)))
         have db:=p102 ar
         obtain ⟨⟨eY,eZ,e0⟩,e1,h⟩:=ob h
         refine cv ([pp g 0,vN]) Tyb59 ((f59_ok k) e1 (hG.mono (d.sub.trans e.sub)) (pt db)) ?_
         rintro _ j4 ⟨e2,rfl,dc⟩
         have e3:=ca dc db
         exact wt (⟨_,e2,eY,eZ,e0,fR,dc.sub,(e3.sel [0,2,1]),h⟩)
       ·refine o1 53 aY (o1 53 aY (o1 53 aY (m3 false vN (cg aY) (m1 vN (o0 58 (o0 58 (o0 58 (m3 false vN rfl ?_))))))))
        have dd:=p102 ar
        obtain ⟨⟨e4,e5,e6⟩,e7,h⟩:=ob h
        refine cv ([pp g 0,vN]) Tyb59 ((f59_ok k) e7 (hG.mono (d.sub.trans e.sub)) (pt dd)) ?_
        rintro _ j5 ⟨e8,rfl,de⟩
        have e9:=ca de dd
        exact wt (⟨_,e8,e4,e5,e6,fR,de.sub,(e9.sel [0,2,1]),h⟩)
      ·refine o1 46 aJ (o1 46 aJ (o1 46 aJ (o1 46 aJ (o1 46 aJ (m3 false vN (cg aJ) (m1 vN (o0 53 (o0 53 (o0 53 (m3 false vN rfl (m1 vN (o0 58 (o0 58 (o0 58 (m3 false vN rfl ?_)))))))))))))))
       have df:=p102 ar
       obtain ⟨⟨fa,fb,fc⟩,fe,h⟩:=ob h
       refine cv ([pp g 0,vN]) Tyb59 ((f59_ok k) fe (hG.mono (d.sub.trans e.sub)) (pt df)) ?_
       rintro _ j6 ⟨ff,rfl,dg⟩
       have fg:=ca dg df
       exact wt (⟨_,ff,fa,fb,fc,fR,dg.sub,(fg.sel [0,2,1]),h⟩)
     ·refine o1 41 aX (o1 41 aX (o1 41 aX (m3 false vN (cg aX) (m1 vN (o0 46 (o0 46 (o0 46 (o0 46 (o0 46 (m3 false vN rfl (m1 vN (o0 53 (o0 53 (o0 53 (m3 false vN rfl (m1 vN (o0 58 (o0 58 (o0 58 (m3 false vN rfl ?_))))))))))))))))))))
      have dh:=p102 ar
      obtain ⟨⟨fh,fi,fj⟩,fk,h⟩:=ob h
      refine cv ([pp g 0,vN]) Tyb59 ((f59_ok k) fk (hG.mono (d.sub.trans e.sub)) (pt dh)) ?_
      rintro _ j7 ⟨fl,rfl,di⟩
      have fm:=ca di dh
      exact wt (⟨_,fl,fh,fi,fj,fR,di.sub,(fm.sel [0,2,1]),h⟩)
    ·refine o1 33 aw (o1 33 aw (o1 33 aw (o1 33 aw (o1 33 aw (o1 33 aw (m3 false vN (cg aw) (m1 vN (o0 41 (o0 41 (o0 41 (m3 false vN rfl (m1 vN (o0 46 (o0 46 (o0 46 (o0 46 (o0 46 (m3 false vN rfl (m1 vN (o0 53 (o0 53 (o0 53 (m3 false vN rfl (m1 vN (o0 58 (o0 58 (o0 58 (m3 false vN rfl ?_))))))))))))))))))))))))))))
     have dj:=p102 ar
     obtain ⟨⟨fn,fo,fp⟩,fs,h⟩:=ob h
     refine cv ([pp g 0,vN]) Tyb59 ((f59_ok k) fs (hG.mono (d.sub.trans e.sub)) (pt dj)) ?_
     rintro _ j8 ⟨ft,rfl,dk⟩
     have fu:=ca dk dj
     exact wt (⟨_,ft,fn,fo,fp,fR,dk.sub,(fu.sel [0,2,1]),h⟩)
   ·refine o1 25 av (o1 25 av (o1 25 av (o1 25 av (o1 25 av (o1 25 av (m3 false vN (cg av) (m1 vN (o0 33 (o0 33 (o0 33 (o0 33 (o0 33 (o0 33 (m3 false vN rfl (m1 vN (o0 41 (o0 41 (o0 41 (m3 false vN rfl (m1 vN (o0 46 (o0 46 (o0 46 (o0 46 (o0 46 (m3 false vN rfl (m1 vN (o0 53 (o0 53 (o0 53 (m3 false vN rfl (m1 vN (o0 58 (o0 58 (o0 58 (m3 false vN rfl ?_))))))))))))))))))))))))))))))))))))
    have dl:=p102 ar
    obtain ⟨⟨fv,fx,fy⟩,fz,h⟩:=ob h
    refine cv ([pp g 0,vN]) Tyb59 ((f59_ok k) fz (hG.mono (d.sub.trans e.sub)) (pt dl)) ?_
    rintro _ j9 ⟨fA,rfl,dm⟩
    have fB:=ca dm dl
    exact wt (⟨_,fA,fv,fx,fy,fR,dm.sub,(fB.sel [0,2,1]),h⟩)
  ·rintro _ ka ⟨c7,bR,ch,ci,cj,rfl,m,I,h⟩
   unfold f90_j1 at h
   refine wp_cut (fun a w=>∃ dn bS ck cl cm,a=fr 307 (updL dn [(0,pp g 0),(2,iI s),(4,pp (zz wi) 0),(6,pp (zz aI) 0)])∧KH.sub bR bS∧SR K bS wi w [.box bs g #[iI af,iI ag,.bool ae] 56] [.box bs g #[iI ck,iI cl,.bool cm] 56,.box (zz wi) (zz wi) (vS p f O A S c J q N U t V W x X Y y Z D l G).toArray 42,.box (zz wi) (zz aI) #[iI am,iI an,iI z,.bool ab,.bool aj,iI ao] 143]∧f90_j2 k F p f A c q t x y l s ab aj ck cl cm=some r_) ?_ ?_
   ·refine wp_region_lit (m1 (pp g 0) (fd 2 Tyf143_2 rfl (l1 2 (iI z) I Tya3 (c0 (z == 0) (m1 (.bool (z == 0)) (cd h (fun a0 h=>?_) (fun a0 h=>?_)))))))
    ·refine n1 68 a0 (fd 1 Tyf42_1 rfl (n1 68 a0 (l1 1 (.string f) I Tya9 (n1 68 a0 (bsc (r:=(seq f ⟨#[]⟩)) rfl rfl rfl (m3 true (.bool (seq f ⟨#[]⟩)) (cg a0) (m1 (.bool (seq f ⟨#[]⟩)) (cd h (fun ad h=>?_) (fun ad h=>?_)))))))))
     ·refine o1 73 ad (o1 73 ad (o1 73 ad (o1 73 ad (ou 77 (ou 77 (ou 77 (o1 73 ad (m3 true vT (cg ad) (m1 vT (o0 83 (o0 83 (o0 83 (o0 83 (ou 87 (ou 87 (ou 87 (ou 87 (ou 91 (ou 91 (ou 91 (ou 87 (o0 83 (m3 true vT rfl ?_)))))))))))))))))))))))
      obtain ⟨⟨fC,fD,fE⟩,fF,h⟩:=ob h
      refine cv ([pp g 0,vT]) Tyb59 ((f59_ok k) fF (hG.mono ((d.sub.trans e.sub).trans m)) (pt I)) ?_
      rintro _ kb ⟨fG,rfl,dp⟩
      have fH:=ca dp I
      exact wt (⟨_,fG,fC,fD,fE,fR,dp.sub,fH,h⟩)
     ·refine n1 73 ad (fd 2 Tyf143_2 rfl (n1 73 ad (l1 2 (iI z) I Tya3 (n1 73 ad (c0 (z == 1) (n1 73 ad (m1 (.bool (z == 1)) (cd h (fun a3 h=>?_) (fun a3 h=>?_)))))))))
      ·refine n1 77 a3 (fd 1 Tyf42_1 rfl (n1 77 a3 (l1 1 (.string f) I Tya9 (n1 77 a3 ?_))))
       obtain ⟨cn,fI,h⟩:=ob h
       refine cv ([.string f]) Tyb34 ((f34_ok k) fI (hG.mono ((d.sub.trans e.sub).trans m)) bB (pt I)) ?_
       rintro _ kc ⟨kd,rfl,bj⟩
       have a4:=ca bj I
       refine n1 73 ad (m3 true (.bool cn) (cg a3) (m3 false (.bool cn) (cg ad) (m1 (.bool cn) (cd h (fun ax h=>?_) (fun ax h=>?_)))))
       ·refine o1 83 ax (o1 83 ax (o1 83 ax (o1 83 ax (ou 87 (ou 87 (ou 87 (ou 87 (ou 91 (ou 91 (ou 91 (ou 87 (o1 83 ax (m3 true vT (cg ax) ?_)))))))))))))
        obtain ⟨⟨fJ,fK,fL⟩,fM,h⟩:=ob h
        refine cv ([pp g 0,vT]) Tyb59 ((f59_ok k) fM (hG.mono (((d.sub.trans e.sub).trans m).trans bj.sub)) (pt a4)) ?_
        rintro _ ke ⟨fN,rfl,dq⟩
        have fO:=ca dq a4
        exact wt (⟨_,fN,fJ,fK,fL,fR,(bj.sub.trans dq.sub),fO,h⟩)
       ·refine n1 83 ax (fd 2 Tyf143_2 rfl (n1 83 ax (l1 2 (iI z) a4 Tya3 (n1 83 ax (c0 (z == 2) (n1 83 ax (m1 (.bool (z == 2)) (cd h (fun aK h=>?_) (fun aK h=>?_)))))))))
        ·refine n1 87 aK (fd 1 Tyf42_1 rfl (n1 87 aK (l1 1 (.string f) a4 Tya9 (n1 87 aK (bsc (r:=(seq f ⟨#[]⟩)) rfl rfl rfl (n1 87 aK (m1 (.bool (seq f ⟨#[]⟩)) (n1 91 ad (fd 1 Tyf42_1 rfl (n1 91 ad (l1 1 (.string f) a4 Tya9 (n1 91 ad ?_))))))))))))
         obtain ⟨bT,fP,h⟩:=ob h
         refine cv ([.string f]) Tyb34 ((f34_ok k) fP (hG.mono (((d.sub.trans e.sub).trans m).trans bj.sub)) bB (pt a4)) ?_
         rintro _ kf ⟨kg,rfl,co⟩
         have dr:=ca co a4
         refine n1 87 aK (m3 false (.bool bT) (cg ad) (n1 83 ax (m3 true (.bool bT) (cg aK) (m3 false (.bool bT) (cg ax) ?_))))
         obtain ⟨⟨fQ,fS,fT⟩,fU,h⟩:=ob h
         refine cv ([pp g 0,.bool bT]) Tyb59 ((f59_ok k) fU (hG.mono ((((d.sub.trans e.sub).trans m).trans bj.sub).trans co.sub)) (pt dr)) ?_
         rintro _ kh ⟨fV,rfl,ds⟩
         have fW:=ca ds dr
         exact wt (⟨_,fV,fQ,fS,fT,fR,((bj.sub.trans co.sub).trans ds.sub),fW,h⟩)
        ·refine o1 87 aK (o1 87 aK (o1 87 aK (o1 87 aK (ou 91 (ou 91 (ou 91 (o1 87 aK (n1 83 ax (m3 false vN (cg aK) (m3 false vN (cg ax) ?_))))))))))
         obtain ⟨⟨fX,fY,fZ⟩,f0,h⟩:=ob h
         refine cv ([pp g 0,vN]) Tyb59 ((f59_ok k) f0 (hG.mono (((d.sub.trans e.sub).trans m).trans bj.sub)) (pt a4)) ?_
         rintro _ ki ⟨f1,rfl,dt⟩
         have f2:=ca dt a4
         exact wt (⟨_,f1,fX,fY,fZ,fR,(bj.sub.trans dt.sub),f2,h⟩)
      ·refine o1 77 a3 (o1 77 a3 (o1 77 a3 (n1 73 ad (m3 false vN (cg a3) (m3 false vN (cg ad) (m1 vN (n0 83 (fd 2 Tyf143_2 rfl (n0 83 (l1 2 (iI z) I Tya3 (n0 83 (c0 (z == 2) (n0 83 (m1 (.bool (z == 2)) (cd h (fun aL h=>?_) (fun aL h=>?_))))))))))))))))
       ·refine n1 87 aL (fd 1 Tyf42_1 rfl (n1 87 aL (l1 1 (.string f) I Tya9 (n1 87 aL (bsc (r:=(seq f ⟨#[]⟩)) rfl rfl rfl (n1 87 aL (m1 (.bool (seq f ⟨#[]⟩)) (n1 91 ad (fd 1 Tyf42_1 rfl (n1 91 ad (l1 1 (.string f) I Tya9 (n1 91 ad ?_))))))))))))
        obtain ⟨bU,f3,h⟩:=ob h
        refine cv ([.string f]) Tyb34 ((f34_ok k) f3 (hG.mono ((d.sub.trans e.sub).trans m)) bB (pt I)) ?_
        rintro _ kj ⟨kk,rfl,cq⟩
        have du:=ca cq I
        refine n1 87 aL (m3 false (.bool bU) (cg ad) (n0 83 (m3 true (.bool bU) (cg aL) (m3 false (.bool bU) rfl ?_))))
        obtain ⟨⟨f4,f5,f6⟩,f8,h⟩:=ob h
        refine cv ([pp g 0,.bool bU]) Tyb59 ((f59_ok k) f8 (hG.mono (((d.sub.trans e.sub).trans m).trans cq.sub)) (pt du)) ?_
        rintro _ kl ⟨f9,rfl,dv⟩
        have ga:=ca dv du
        exact wt (⟨_,f9,f4,f5,f6,fR,(cq.sub.trans dv.sub),ga,h⟩)
       ·refine o1 87 aL (o1 87 aL (o1 87 aL (o1 87 aL (ou 91 (ou 91 (ou 91 (o1 87 aL (n0 83 (m3 false vN (cg aL) (m3 false vN rfl ?_))))))))))
        obtain ⟨⟨gb,gc,gd⟩,ge,h⟩:=ob h
        refine cv ([pp g 0,vN]) Tyb59 ((f59_ok k) ge (hG.mono ((d.sub.trans e.sub).trans m)) (pt I)) ?_
        rintro _ km ⟨gf,rfl,dw⟩
        have gg:=ca dw I
        exact wt (⟨_,gf,gb,gc,gd,fR,dw.sub,gg,h⟩)
    ·refine o1 68 a0 (o1 68 a0 (o1 68 a0 (m3 false vN (cg a0) (m1 vN (n0 73 (fd 2 Tyf143_2 rfl (n0 73 (l1 2 (iI z) I Tya3 (n0 73 (c0 (z == 1) (n0 73 (m1 (.bool (z == 1)) (cd h (fun a5 h=>?_) (fun a5 h=>?_))))))))))))))
     ·refine n1 77 a5 (fd 1 Tyf42_1 rfl (n1 77 a5 (l1 1 (.string f) I Tya9 (n1 77 a5 ?_))))
      obtain ⟨cr,gh,h⟩:=ob h
      refine cv ([.string f]) Tyb34 ((f34_ok k) gh (hG.mono ((d.sub.trans e.sub).trans m)) bB (pt I)) ?_
      rintro _ kn ⟨ko,rfl,aU⟩
      have aN:=ca aU I
      refine n0 73 (m3 true (.bool cr) (cg a5) (m3 false (.bool cr) rfl (m1 (.bool cr) (cd h (fun aq h=>?_) (fun aq h=>?_)))))
      ·refine o1 83 aq (o1 83 aq (o1 83 aq (o1 83 aq (ou 87 (ou 87 (ou 87 (ou 87 (ou 91 (ou 91 (ou 91 (ou 87 (o1 83 aq (m3 true vT (cg aq) ?_)))))))))))))
       obtain ⟨⟨gi,gj,gk⟩,gl,h⟩:=ob h
       refine cv ([pp g 0,vT]) Tyb59 ((f59_ok k) gl (hG.mono (((d.sub.trans e.sub).trans m).trans aU.sub)) (pt aN)) ?_
       rintro _ kp ⟨gm,rfl,dx⟩
       have gn:=ca dx aN
       exact wt (⟨_,gm,gi,gj,gk,fR,(aU.sub.trans dx.sub),gn,h⟩)
      ·refine n1 83 aq (fd 2 Tyf143_2 rfl (n1 83 aq (l1 2 (iI z) aN Tya3 (n1 83 aq (c0 (z == 2) (n1 83 aq (m1 (.bool (z == 2)) (cd h (fun ay h=>?_) (fun ay h=>?_)))))))))
       ·refine n1 87 ay (fd 1 Tyf42_1 rfl (n1 87 ay (l1 1 (.string f) aN Tya9 (n1 87 ay (bsc (r:=(seq f ⟨#[]⟩)) rfl rfl rfl (n1 87 ay (m1 (.bool (seq f ⟨#[]⟩)) (cd h (fun a6 h=>?_) (fun a6 h=>?_)))))))))
        ·refine o1 91 a6 (o1 91 a6 (o1 91 a6 (n1 87 ay (m3 true vT (cg a6) (n1 83 aq (m3 true vT (cg ay) (m3 false vT (cg aq) ?_)))))))
         obtain ⟨⟨go,gp,gq⟩,gr,h⟩:=ob h
         refine cv ([pp g 0,vT]) Tyb59 ((f59_ok k) gr (hG.mono (((d.sub.trans e.sub).trans m).trans aU.sub)) (pt aN)) ?_
         rintro _ kq ⟨gs,rfl,dy⟩
         have gt:=ca dy aN
         exact wt (⟨_,gs,go,gp,gq,fR,(aU.sub.trans dy.sub),gt,h⟩)
        ·refine n1 91 a6 (fd 1 Tyf42_1 rfl (n1 91 a6 (l1 1 (.string f) aN Tya9 (n1 91 a6 ?_))))
         obtain ⟨bV,gu,h⟩:=ob h
         refine cv ([.string f]) Tyb34 ((f34_ok k) gu (hG.mono (((d.sub.trans e.sub).trans m).trans aU.sub)) bB (pt aN)) ?_
         rintro _ ks ⟨kt,rfl,ct⟩
         have dz:=ca ct aN
         refine n1 87 ay (m3 false (.bool bV) (cg a6) (n1 83 aq (m3 true (.bool bV) (cg ay) (m3 false (.bool bV) (cg aq) ?_))))
         obtain ⟨⟨gv,gw,gx⟩,gy,h⟩:=ob h
         refine cv ([pp g 0,.bool bV]) Tyb59 ((f59_ok k) gy (hG.mono ((((d.sub.trans e.sub).trans m).trans aU.sub).trans ct.sub)) (pt dz)) ?_
         rintro _ ku ⟨gz,rfl,dA⟩
         have gA:=ca dA dz
         exact wt (⟨_,gz,gv,gw,gx,fR,((aU.sub.trans ct.sub).trans dA.sub),gA,h⟩)
       ·refine o1 87 ay (o1 87 ay (o1 87 ay (o1 87 ay (ou 91 (ou 91 (ou 91 (o1 87 ay (n1 83 aq (m3 false vN (cg ay) (m3 false vN (cg aq) ?_))))))))))
        obtain ⟨⟨gB,gD,gF⟩,gG,h⟩:=ob h
        refine cv ([pp g 0,vN]) Tyb59 ((f59_ok k) gG (hG.mono (((d.sub.trans e.sub).trans m).trans aU.sub)) (pt aN)) ?_
        rintro _ kv ⟨gH,rfl,dB⟩
        have gI:=ca dB aN
        exact wt (⟨_,gH,gB,gD,gF,fR,(aU.sub.trans dB.sub),gI,h⟩)
     ·refine o1 77 a5 (o1 77 a5 (o1 77 a5 (n0 73 (m3 false vN (cg a5) (m3 false vN rfl (m1 vN (n0 83 (fd 2 Tyf143_2 rfl (n0 83 (l1 2 (iI z) I Tya3 (n0 83 (c0 (z == 2) (n0 83 (m1 (.bool (z == 2)) (cd h (fun az h=>?_) (fun az h=>?_))))))))))))))))
      ·refine n1 87 az (fd 1 Tyf42_1 rfl (n1 87 az (l1 1 (.string f) I Tya9 (n1 87 az (bsc (r:=(seq f ⟨#[]⟩)) rfl rfl rfl (n1 87 az (m1 (.bool (seq f ⟨#[]⟩)) (cd h (fun a7 h=>?_) (fun a7 h=>?_)))))))))
       ·refine o1 91 a7 (o1 91 a7 (o1 91 a7 (n1 87 az (m3 true vT (cg a7) (n0 83 (m3 true vT (cg az) (m3 false vT rfl ?_)))))))
        obtain ⟨⟨gJ,gK,gL⟩,gM,h⟩:=ob h
        refine cv ([pp g 0,vT]) Tyb59 ((f59_ok k) gM (hG.mono ((d.sub.trans e.sub).trans m)) (pt I)) ?_
        rintro _ kw ⟨gN,rfl,dC⟩
        have gO:=ca dC I
        exact wt (⟨_,gN,gJ,gK,gL,fR,dC.sub,gO,h⟩)
       ·refine n1 91 a7 (fd 1 Tyf42_1 rfl (n1 91 a7 (l1 1 (.string f) I Tya9 (n1 91 a7 ?_))))
        obtain ⟨bW,gP,h⟩:=ob h
        refine cv ([.string f]) Tyb34 ((f34_ok k) gP (hG.mono ((d.sub.trans e.sub).trans m)) bB (pt I)) ?_
        rintro _ kx ⟨ky,rfl,cu⟩
        have dD:=ca cu I
        refine n1 87 az (m3 false (.bool bW) (cg a7) (n0 83 (m3 true (.bool bW) (cg az) (m3 false (.bool bW) rfl ?_))))
        obtain ⟨⟨gQ,gR,gT⟩,gU,h⟩:=ob h
        refine cv ([pp g 0,.bool bW]) Tyb59 ((f59_ok k) gU (hG.mono (((d.sub.trans e.sub).trans m).trans cu.sub)) (pt dD)) ?_
        rintro _ kz ⟨gV,rfl,dE⟩
        have gW:=ca dE dD
        exact wt (⟨_,gV,gQ,gR,gT,fR,(cu.sub.trans dE.sub),gW,h⟩)
      ·refine o1 87 az (o1 87 az (o1 87 az (o1 87 az (ou 91 (ou 91 (ou 91 (o1 87 az (n0 83 (m3 false vN (cg az) (m3 false vN rfl ?_))))))))))
       obtain ⟨⟨gX,gY,gZ⟩,g0,h⟩:=ob h
       refine cv ([pp g 0,vN]) Tyb59 ((f59_ok k) g0 (hG.mono ((d.sub.trans e.sub).trans m)) (pt I)) ?_
       rintro _ kA ⟨g1,rfl,dF⟩
       have g2:=ca dF I
       exact wt (⟨_,g1,gX,gY,gZ,fR,dF.sub,g2,h⟩)
   ·rintro _ kB ⟨dn,bS,ck,cl,cm,rfl,u,aV,h⟩
    unfold f90_j2 at h
    refine wp_cut (fun a w=>∃ dG bX cw cx cy,a=fr 307 (updL dG [(0,pp g 0),(2,iI s),(4,pp (zz wi) 0),(6,pp (zz aI) 0)])∧KH.sub bS bX∧SR K bX wi w [.box bs g #[iI af,iI ag,.bool ae] 56] [.box bs g #[iI cw,iI cx,.bool cy] 56,.box (zz wi) (zz wi) (vS p f O A S c J q N U t V W x X Y y Z D l G).toArray 42,.box (zz wi) (zz aI) #[iI am,iI an,iI z,.bool ab,.bool aj,iI ao] 143]∧f90_j3 k F p f c q t x y l s aj cw cx cy=some r_) ?_ ?_
    ·refine wp_region_lit (m1 (pp g 0) (fd 3 Tyf143_3 rfl (l1 2 (.bool ab) aV Tya4 (m1 (.bool ab) (cd h (fun a8 h=>?_) (fun a8 h=>?_))))))
     ·refine n1 102 a8 (fd 3 Tyf42_3 rfl (n1 102 a8 (l1 1 (.string A) aV Tya9 (n1 102 a8 ?_))))
      obtain ⟨dH,g3,h⟩:=ob h
      refine cv ([.string A]) Tyb34 ((f34_ok k) g3 (hG.mono (((d.sub.trans e.sub).trans m).trans u)) eI (pt aV)) ?_
      rintro _ kC ⟨kD,rfl,bv⟩
      have bk:=ca bv aV
      refine m3 true (.bool dH) (cg a8) (m1 (.bool dH) (cd h (fun aA h=>?_) (fun aA h=>?_)))
      ·refine o1 107 aA (o1 107 aA (o1 107 aA (o1 107 aA (ou 111 (ou 111 (ou 111 (o1 107 aA (m3 true vT (cg aA) ?_))))))))
       obtain ⟨⟨g4,g5,g6⟩,g7,h⟩:=ob h
       refine cv ([pp g 0,vT]) Tyb59 ((f59_ok k) g7 (hG.mono ((((d.sub.trans e.sub).trans m).trans u).trans bv.sub)) (pt bk)) ?_
       rintro _ kE ⟨g8,rfl,dI⟩
       have g9:=ca dI bk
       exact wt (⟨_,g8,g4,g5,g6,fR,(bv.sub.trans dI.sub),g9,h⟩)
      ·refine n1 107 aA (fd 3 Tyf143_3 rfl (n1 107 aA (l1 2 (.bool ab) bk Tya4 (n1 107 aA (uN ab (n1 107 aA (m1 (.bool (!ab)) (cd h (fun a9 h=>?_) (fun a9 h=>?_)))))))))
       ·refine n1 111 a9 (fd 3 Tyf42_3 rfl (n1 111 a9 (l1 1 (.string A) bk Tya9 (n1 111 a9 (bsc (r:=(seq A ⟨#[]⟩)) rfl rfl rfl (n1 107 aA (m3 true (.bool (seq A ⟨#[]⟩)) (cg a9) (m3 false (.bool (seq A ⟨#[]⟩)) (cg aA) ?_))))))))
        obtain ⟨⟨ha,hb,hc⟩,hd,h⟩:=ob h
        refine cv ([pp g 0,.bool (seq A ⟨#[]⟩)]) Tyb59 ((f59_ok k) hd (hG.mono ((((d.sub.trans e.sub).trans m).trans u).trans bv.sub)) (pt bk)) ?_
        rintro _ kF ⟨he,rfl,dJ⟩
        have hf:=ca dJ bk
        exact wt (⟨_,he,ha,hb,hc,fR,(bv.sub.trans dJ.sub),hf,h⟩)
       ·refine o1 111 a9 (o1 111 a9 (o1 111 a9 (n1 107 aA (m3 false vN (cg a9) (m3 false vN (cg aA) ?_)))))
        obtain ⟨⟨hg,hh,hi⟩,hk,h⟩:=ob h
        refine cv ([pp g 0,vN]) Tyb59 ((f59_ok k) hk (hG.mono ((((d.sub.trans e.sub).trans m).trans u).trans bv.sub)) (pt bk)) ?_
        rintro _ kG ⟨hl,rfl,dK⟩
        have hm:=ca dK bk
        exact wt (⟨_,hl,hg,hh,hi,fR,(bv.sub.trans dK.sub),hm,h⟩)
     ·refine o1 102 a8 (o1 102 a8 (o1 102 a8 (m3 false vN (cg a8) (m1 vN (n0 107 (fd 3 Tyf143_3 rfl (n0 107 (l1 2 (.bool ab) aV Tya4 (n0 107 (uN ab (n0 107 (m1 (.bool (!ab)) (cd h (fun ba h=>?_) (fun ba h=>?_))))))))))))))
      ·refine n1 111 ba (fd 3 Tyf42_3 rfl (n1 111 ba (l1 1 (.string A) aV Tya9 (n1 111 ba (bsc (r:=(seq A ⟨#[]⟩)) rfl rfl rfl (n0 107 (m3 true (.bool (seq A ⟨#[]⟩)) (cg ba) (m3 false (.bool (seq A ⟨#[]⟩)) rfl ?_))))))))
       obtain ⟨⟨hn,ho,hp⟩,hq,h⟩:=ob h
       refine cv ([pp g 0,.bool (seq A ⟨#[]⟩)]) Tyb59 ((f59_ok k) hq (hG.mono (((d.sub.trans e.sub).trans m).trans u)) (pt aV)) ?_
       rintro _ kH ⟨hr,rfl,dL⟩
       have hs:=ca dL aV
       exact wt (⟨_,hr,hn,ho,hp,fR,dL.sub,hs,h⟩)
      ·refine o1 111 ba (o1 111 ba (o1 111 ba (n0 107 (m3 false vN (cg ba) (m3 false vN rfl ?_)))))
       obtain ⟨⟨ht,hu,hv⟩,hw,h⟩:=ob h
       refine cv ([pp g 0,vN]) Tyb59 ((f59_ok k) hw (hG.mono (((d.sub.trans e.sub).trans m).trans u)) (pt aV)) ?_
       rintro _ kJ ⟨hx,rfl,dM⟩
       have hy:=ca dM aV
       exact wt (⟨_,hx,ht,hu,hv,fR,dM.sub,hy,h⟩)
    ·rintro _ kK ⟨dG,bX,cw,cx,cy,rfl,B,bC,h⟩
     unfold f90_j3 at h
     refine wp_cut (fun a w=>∃ dN bY cz cA cB,a=fr 307 (updL dN [(0,pp g 0),(2,iI s),(4,pp (zz wi) 0)])∧KH.sub bX bY∧SR K bY wi w [.box bs g #[iI af,iI ag,.bool ae] 56] [.box bs g #[iI cz,iI cA,.bool cB] 56,.box (zz wi) (zz wi) (vS p f O A S c J q N U t V W x X Y y Z D l G).toArray 42]∧f90_j4 k F p f c q t x y l s cz cA cB=some r_) ?_ ?_
     ·refine wp_region_lit (m1 (pp g 0) (fd 4 Tyf143_4 rfl (l1 2 (.bool aj) bC Tya4 (m1 (.bool aj) (cd h (fun aP h=>?_) (fun aP h=>?_))))))
      ·refine o1 121 aP (o1 121 aP (o1 121 aP (o1 121 aP (m3 true vT (cg aP) ?_))))
       obtain ⟨⟨hz,hA,hB⟩,hC,h⟩:=ob h
       refine cv ([pp g 0,vT]) Tyb59 ((f59_ok k) hC (hG.mono ((((d.sub.trans e.sub).trans m).trans u).trans B)) (pt bC)) ?_
       rintro _ kL ⟨hD,rfl,dO⟩
       have hE:=ca dO bC
       exact wt (⟨_,hD,hz,hA,hB,fR,dO.sub,(hE.sel [0,1]),h⟩)
      ·refine n1 121 aP (fd 7 Tyf42_7 rfl (n1 121 aP (l1 1 (sl U t V) bC Tya36 (n1 121 aP (lS t.length Tye36 (n1 121 aP (c0 ((t.length:Int) == 0) (m3 false (.bool ((t.length:Int) == 0)) (cg aP) ?_))))))))
       obtain ⟨⟨hF,hH,hI⟩,hJ,h⟩:=ob h
       refine cv ([pp g 0,.bool ((t.length:Int) == 0)]) Tyb59 ((f59_ok k) hJ (hG.mono ((((d.sub.trans e.sub).trans m).trans u).trans B)) (pt bC)) ?_
       rintro _ kM ⟨hK,rfl,dP⟩
       have hL:=ca dP bC
       exact wt (⟨_,hK,hF,hH,hI,fR,dP.sub,(hL.sel [0,1]),h⟩)
     ·rintro _ kN ⟨dN,bY,cz,cA,cB,rfl,C,ak,h⟩
      unfold f90_j4 at h
      refine wp_cut (fun a w=>∃ dQ bZ cC cD cG,a=fr 307 (updL dQ [(0,pp g 0),(2,iI s),(4,pp (zz wi) 0)])∧KH.sub bY bZ∧SR K bZ wi w [.box bs g #[iI af,iI ag,.bool ae] 56] [.box bs g #[iI cC,iI cD,.bool cG] 56,.box (zz wi) (zz wi) (vS p f O A S c J q N U t V W x X Y y Z D l G).toArray 42]∧f90_j5 k F p f c q t x y l s cC cD cG=some r_) ?_ ?_
      ·refine wp_region_lit (m1 (pp g 0) (fd 8 Tyf42_8 rfl (l1 1 (sl W x X) ak Tya36 (lS x.length Tye36 (c0 ((x.length:Int) == 0) (m1 (.bool ((x.length:Int) == 0)) (cd h (fun aB h=>?_) (fun aB h=>?_))))))))
       ·refine o1 133 aB (o1 133 aB (o1 133 aB (o1 133 aB (ou 137 (ou 137 (ou 137 (o1 133 aB (m3 true vT (cg aB) (m1 vT (o0 143 (o0 143 (o0 143 (o0 143 (ou 147 (ou 147 (ou 147 (ou 147 (o0 143 (m3 true vT rfl ?_)))))))))))))))))))
        obtain ⟨⟨hM,hN,hO⟩,hP,h⟩:=ob h
        refine cv ([pp g 0,vT]) Tyb59 ((f59_ok k) hP (hG.mono (((((d.sub.trans e.sub).trans m).trans u).trans B).trans C)) (pt ak)) ?_
        rintro _ kO ⟨hQ,rfl,dR⟩
        have hR:=ca dR ak
        exact wt (⟨_,hQ,hM,hN,hO,fR,dR.sub,hR,h⟩)
       ·refine n1 133 aB (fd 0 Tyf42_0 rfl (n1 133 aB (l1 1 (iI p) ak Tya3 (n1 133 aB (c0 (p == 20) (n1 133 aB (m1 (.bool (p == 20)) (cd h (fun bb h=>?_) (fun bb h=>?_)))))))))
        ·refine n1 137 bb (fd 5 Tyf42_5 rfl (n1 137 bb (l1 1 (iI c) ak Tya3 (n1 137 bb (c0 (c == 1) (n1 133 aB (m3 true (.bool (c == 1)) (cg bb) (m3 false (.bool (c == 1)) (cg aB) (m1 (.bool (c == 1)) (cd h (fun aE h=>?_) (fun aE h=>?_)))))))))))
         ·refine o1 143 aE (o1 143 aE (o1 143 aE (o1 143 aE (ou 147 (ou 147 (ou 147 (ou 147 (o1 143 aE (m3 true vT (cg aE) ?_)))))))))
          obtain ⟨⟨hS,hT,hU⟩,hV,h⟩:=ob h
          refine cv ([pp g 0,vT]) Tyb59 ((f59_ok k) hV (hG.mono (((((d.sub.trans e.sub).trans m).trans u).trans B).trans C)) (pt ak)) ?_
          rintro _ kP ⟨hW,rfl,dS⟩
          have hX:=ca dS ak
          exact wt (⟨_,hW,hS,hT,hU,fR,dS.sub,hX,h⟩)
         ·refine n1 143 aE (fd 0 Tyf42_0 rfl (n1 143 aE (l1 1 (iI p) ak Tya3 (n1 143 aE (c0 (p == 24) (n1 143 aE (m1 (.bool (p == 24)) (cd h (fun aQ h=>?_) (fun aQ h=>?_)))))))))
          ·refine n1 147 aQ (fd 5 Tyf42_5 rfl (n1 147 aQ (l1 1 (iI c) ak Tya3 (n1 147 aQ (bdv (r:=(c.tmod 2)) rfl rfl (by decide) rfl (n1 147 aQ (c0 ((c.tmod 2) == 1) (n1 143 aE (m3 true (.bool ((c.tmod 2) == 1)) (cg aQ) (m3 false (.bool ((c.tmod 2) == 1)) (cg aE) ?_))))))))))
           obtain ⟨⟨hY,hZ,h0⟩,h1,h⟩:=ob h
           refine cv ([pp g 0,.bool ((c.tmod 2) == 1)]) Tyb59 ((f59_ok k) h1 (hG.mono (((((d.sub.trans e.sub).trans m).trans u).trans B).trans C)) (pt ak)) ?_
           rintro _ kQ ⟨h2,rfl,dT⟩
           have h3:=ca dT ak
           exact wt (⟨_,h2,hY,hZ,h0,fR,dT.sub,h3,h⟩)
          ·refine o1 147 aQ (o1 147 aQ (o1 147 aQ (o1 147 aQ (n1 143 aE (m3 false vN (cg aQ) (m3 false vN (cg aE) ?_))))))
           obtain ⟨⟨h4,h5,h6⟩,h7,h⟩:=ob h
           refine cv ([pp g 0,vN]) Tyb59 ((f59_ok k) h7 (hG.mono (((((d.sub.trans e.sub).trans m).trans u).trans B).trans C)) (pt ak)) ?_
           rintro _ kR ⟨h8,rfl,dU⟩
           have h9:=ca dU ak
           exact wt (⟨_,h8,h4,h5,h6,fR,dU.sub,h9,h⟩)
        ·refine o1 137 bb (o1 137 bb (o1 137 bb (n1 133 aB (m3 false vN (cg bb) (m3 false vN (cg aB) (m1 vN (n0 143 (fd 0 Tyf42_0 rfl (n0 143 (l1 1 (iI p) ak Tya3 (n0 143 (c0 (p == 24) (n0 143 (m1 (.bool (p == 24)) (cd h (fun aR h=>?_) (fun aR h=>?_))))))))))))))))
         ·refine n1 147 aR (fd 5 Tyf42_5 rfl (n1 147 aR (l1 1 (iI c) ak Tya3 (n1 147 aR (bdv (r:=(c.tmod 2)) rfl rfl (by decide) rfl (n1 147 aR (c0 ((c.tmod 2) == 1) (n0 143 (m3 true (.bool ((c.tmod 2) == 1)) (cg aR) (m3 false (.bool ((c.tmod 2) == 1)) rfl ?_))))))))))
          obtain ⟨⟨ia,ib,ic⟩,id,h⟩:=ob h
          refine cv ([pp g 0,.bool ((c.tmod 2) == 1)]) Tyb59 ((f59_ok k) id (hG.mono (((((d.sub.trans e.sub).trans m).trans u).trans B).trans C)) (pt ak)) ?_
          rintro _ kT ⟨ie,rfl,dV⟩
          have ig:=ca dV ak
          exact wt (⟨_,ie,ia,ib,ic,fR,dV.sub,ig,h⟩)
         ·refine o1 147 aR (o1 147 aR (o1 147 aR (o1 147 aR (n0 143 (m3 false vN (cg aR) (m3 false vN rfl ?_))))))
          obtain ⟨⟨ih,ii,ij⟩,ik,h⟩:=ob h
          refine cv ([pp g 0,vN]) Tyb59 ((f59_ok k) ik (hG.mono (((((d.sub.trans e.sub).trans m).trans u).trans B).trans C)) (pt ak)) ?_
          rintro _ kU ⟨il,rfl,dW⟩
          have im:=ca dW ak
          exact wt (⟨_,il,ih,ii,ij,fR,dW.sub,im,h⟩)
      ·rintro _ kV ⟨dQ,bZ,cC,cD,cG,rfl,ac,bd,h⟩
       unfold f90_j5 at h
       refine wp_cut (fun a w=>∃ dX bM b0 b1 b2,a=fr 307 (updL dX [(0,pp g 0),(2,iI s),(4,pp (zz wi) 0)])∧KH.sub bZ bM∧SR K bM wi w [.box bs g #[iI af,iI ag,.bool ae] 56] [.box bs g #[iI b0,iI b1,.bool b2] 56,.box (zz wi) (zz wi) (vS p f O A S c J q N U t V W x X Y y Z D l G).toArray 42]∧f90_j6 k F p f c q t x y l s b0 b1 b2=some r_) ?_ ?_
       ·refine wp_region_lit (m1 (pp g 0) (fd 9 Tyf42_9 rfl (l1 1 (sl Y y Z) bd Tya36 (lS y.length Tye36 (c0 ((y.length:Int) == 0) (m1 (.bool ((y.length:Int) == 0)) (cd h (fun aF h=>?_) (fun aF h=>?_))))))))
        ·refine o1 160 aF (o1 160 aF (o1 160 aF (o1 160 aF (ou 164 (ou 164 (ou 164 (o1 160 aF (m3 true vT (cg aF) ?_))))))))
         obtain ⟨⟨io,ip,iq⟩,ir,h⟩:=ob h
         refine cv ([pp g 0,vT]) Tyb59 ((f59_ok k) ir (hG.mono ((((((d.sub.trans e.sub).trans m).trans u).trans B).trans C).trans ac)) (pt bd)) ?_
         rintro _ kW ⟨it,rfl,dY⟩
         have iu:=ca dY bd
         exact wt (⟨_,it,io,ip,iq,fR,dY.sub,iu,h⟩)
        ·refine n1 160 aF (fd 0 Tyf42_0 rfl (n1 160 aF (l1 1 (iI p) bd Tya3 (n1 160 aF (c0 (p == 24) (n1 160 aF (m1 (.bool (p == 24)) (cd h (fun be h=>?_) (fun be h=>?_)))))))))
         ·refine n1 164 be (fd 5 Tyf42_5 rfl (n1 164 be (l1 1 (iI c) bd Tya3 (n1 164 be (c0 (decide (c ≥ 2)) (n1 160 aF (m3 true (.bool (decide (c ≥ 2))) (cg be) (m3 false (.bool (decide (c ≥ 2))) (cg aF) ?_))))))))
          obtain ⟨⟨iv,iw,ix⟩,iy,h⟩:=ob h
          refine cv ([pp g 0,.bool (decide (c ≥ 2))]) Tyb59 ((f59_ok k) iy (hG.mono ((((((d.sub.trans e.sub).trans m).trans u).trans B).trans C).trans ac)) (pt bd)) ?_
          rintro _ kX ⟨iz,rfl,dZ⟩
          have iA:=ca dZ bd
          exact wt (⟨_,iz,iv,iw,ix,fR,dZ.sub,iA,h⟩)
         ·refine o1 164 be (o1 164 be (o1 164 be (n1 160 aF (m3 false vN (cg be) (m3 false vN (cg aF) ?_)))))
          obtain ⟨⟨iB,iC,iD⟩,iE,h⟩:=ob h
          refine cv ([pp g 0,vN]) Tyb59 ((f59_ok k) iE (hG.mono ((((((d.sub.trans e.sub).trans m).trans u).trans B).trans C).trans ac)) (pt bd)) ?_
          rintro _ kY ⟨iF,rfl,d0⟩
          have iG:=ca d0 bd
          exact wt (⟨_,iF,iB,iC,iD,fR,d0.sub,iG,h⟩)
       ·rintro _ kZ ⟨dX,bM,b0,b1,b2,rfl,ah,ap,h⟩
        unfold f90_j6 at h
        refine wp_cut (fun a w=>∃ d1 b3 cH cI cJ,a=fr 307 (updL d1 [(0,pp g 0),(2,iI s),(4,pp (zz wi) 0)])∧KH.sub bM b3∧SR K b3 wi w [.box bs g #[iI af,iI ag,.bool ae] 56] [.box bs g #[iI cH,iI cI,.bool cJ] 56,.box (zz wi) (zz wi) (vS p f O A S c J q N U t V W x X Y y Z D l G).toArray 42]∧f90_j7 k F p q t x y l s cH cI cJ=some r_) ?_ ?_
        ·refine sr (fd 0 Tyf42_0 rfl (l1 1 (iI p) ap Tya3 (wt (wp_block (sr (c0 (p == 6) (m2 (.bool (p == 6)) (wt (cd h (fun cK h=>?_) (fun cK h=>?_))))))))))
         ·refine cT cK (wp_region_lit (m1 (pp g 0) (fd 5 Tyf42_5 rfl (l1 1 (iI c) ap Tya3 (c0 (c == 0) (m1 (.bool (c == 0)) (cd h (fun bf h=>?_) (fun bf h=>?_))))))))
          ·refine o1 179 bf (o1 179 bf (o1 179 bf (m3 true vT (cg bf) ?_)))
           obtain ⟨⟨iH,iJ,iK⟩,iL,h⟩:=ob h
           refine cv ([pp g 0,vT]) Tyb59 ((f59_ok k) iL (hG.mono (((((((d.sub.trans e.sub).trans m).trans u).trans B).trans C).trans ac).trans ah)) (pt ap)) ?_
           rintro _ k0 ⟨iM,rfl,d2⟩
           have iN:=ca d2 ap
           exact wpList_nil (blkN (thenN (⟨_,iM,iH,iJ,iK,fR,d2.sub,iN,h⟩)))
          ·refine n1 179 bf (fd 1 Tyf42_1 rfl (n1 179 bf (l1 1 (.string f) ap Tya9 (n1 179 bf (bsc (r:=(!seq f ⟨#[]⟩)) rfl rfl rfl (m3 false (.bool (!seq f ⟨#[]⟩)) (cg bf) ?_))))))
           obtain ⟨⟨iO,iP,iQ⟩,iR,h⟩:=ob h
           refine cv ([pp g 0,.bool (!seq f ⟨#[]⟩)]) Tyb59 ((f59_ok k) iR (hG.mono (((((((d.sub.trans e.sub).trans m).trans u).trans B).trans C).trans ac).trans ah)) (pt ap)) ?_
           rintro _ k1 ⟨iS,rfl,d3⟩
           have iT:=ca d3 ap
           exact wpList_nil (blkN (thenN (⟨_,iS,iO,iP,iQ,fR,d3.sub,iT,h⟩)))
         ·refine cF cK (sr (c0 (p == 24) (m2 (.bool (p == 24)) (wt (cd h (fun cL h=>?_) (fun cL h=>?_))))))
          ·refine cT cL (wp_region_lit (m1 (pp g 0) (fd 5 Tyf42_5 rfl (l1 1 (iI c) ap Tya3 (c0 (decide (c > 0)) (m1 (.bool (decide (c > 0))) (cd h (fun al h=>?_) (fun al h=>?_))))))))
           ·refine n1 191 al (fd 5 Tyf42_5 rfl (n1 191 al (l1 1 (iI c) ap Tya3 (n1 191 al (bdv (r:=(c.tmod 2)) rfl rfl (by decide) rfl (n1 191 al (c0 ((c.tmod 2) == 1) (n1 191 al (fd 1 Tyf42_1 rfl (n1 191 al (l1 1 (.string f) ap Tya9 (n1 191 al (bsc (r:=(!seq f ⟨#[]⟩)) rfl rfl rfl (n1 191 al (bbo (r:=(((c.tmod 2) == 1) == (!seq f ⟨#[]⟩))) Tyo4 rfl rfl rfl (m3 true (.bool (((c.tmod 2) == 1) == (!seq f ⟨#[]⟩))) (cg al) ?_))))))))))))))))
            obtain ⟨⟨iU,iV,iW⟩,iX,h⟩:=ob h
            refine cv ([pp g 0,.bool (((c.tmod 2) == 1) == (!seq f ⟨#[]⟩))]) Tyb59 ((f59_ok k) iX (hG.mono (((((((d.sub.trans e.sub).trans m).trans u).trans B).trans C).trans ac).trans ah)) (pt ap)) ?_
            rintro _ k2 ⟨iY,rfl,d4⟩
            have iZ:=ca d4 ap
            exact wpList_nil (blkN (thenN (⟨_,iY,iU,iV,iW,fR,d4.sub,iZ,h⟩)))
           ·refine o1 191 al (o1 191 al (o1 191 al (o1 191 al (o1 191 al (o1 191 al (o1 191 al (o1 191 al (m3 false vN (cg al) ?_))))))))
            obtain ⟨⟨i0,i1,i2⟩,i3,h⟩:=ob h
            refine cv ([pp g 0,vN]) Tyb59 ((f59_ok k) i3 (hG.mono (((((((d.sub.trans e.sub).trans m).trans u).trans B).trans C).trans ac).trans ah)) (pt ap)) ?_
            rintro _ k3 ⟨i4,rfl,d5⟩
            have i5:=ca d5 ap
            exact wpList_nil (blkN (thenN (⟨_,i4,i0,i1,i2,fR,d5.sub,i5,h⟩)))
          ·refine cF cL (sr (c0 (p == 28) (m2 (.bool (p == 28)) (wt (cd h (fun cM h=>?_) (fun cM h=>?_))))))
           ·refine cT cM (wp_region_lit (m1 (pp g 0) (fd 5 Tyf42_5 rfl (l1 1 (iI c) ap Tya3 (bdv (r:=(c.tmod 4)) rfl rfl (by decide) rfl (c0 (decide ((c.tmod 4) < 3)) ?_))))))
            obtain ⟨⟨i6,i7,i8⟩,i9,h⟩:=ob h
            refine cv ([pp g 0,.bool (decide ((c.tmod 4) < 3))]) Tyb59 ((f59_ok k) i9 (hG.mono (((((((d.sub.trans e.sub).trans m).trans u).trans B).trans C).trans ac).trans ah)) (pt ap)) ?_
            rintro _ k4 ⟨ja,rfl,d6⟩
            have jb:=ca d6 ap
            exact wpList_nil (blkN (thenN (⟨_,ja,i6,i7,i8,fR,d6.sub,jb,h⟩)))
           ·exact cF cM (wp_skip (blkN (thenN (⟨_,bM,b0,b1,b2,fR,kr,ap,h⟩))))
        ·rintro _ k5 ⟨d1,b3,cH,cI,cJ,rfl,au,bw,h⟩
         unfold f90_j7 at h
         refine wp_cut (fun a w=>∃ d7 bD b4 b5 b6,a=fr 307 (updL d7 [(0,pp g 0),(2,iI s),(4,pp (zz wi) 0)])∧KH.sub b3 bD∧SR K bD wi w [.box bs g #[iI af,iI ag,.bool ae] 56] [.box bs g #[iI b4,iI b5,.bool b6] 56,.box (zz wi) (zz wi) (vS p f O A S c J q N U t V W x X Y y Z D l G).toArray 42]∧f90_j8 k F q t x y l s b4 b5 b6=some r_) ?_ ?_
         ·refine wp_region_lit (m1 (pp g 0) (fd 0 Tyf42_0 rfl (l1 1 (iI p) bw Tya3 (c0 (p == 27) (fd 10 Tyf42_10 rfl (l1 1 (sl D l G) bw Tya40 (lS l.length Tye40 (c0 (decide ((l.length:Int) > 0)) (bbo (r:=((p == 27) == (decide ((l.length:Int) > 0)))) Tyo4 rfl rfl rfl (m1 (.bool ((p == 27) == (decide ((l.length:Int) > 0)))) (cd h (fun aS h=>?_) (fun aS h=>?_))))))))))))
          ·refine n1 219 aS (fd 10 Tyf42_10 rfl (n1 219 aS (l1 1 (sl D l G) bw Tya40 (n1 219 aS (lS l.length Tye40 (n1 219 aS (c0 (decide ((l.length:Int) ≤ 4)) (m3 true (.bool (decide ((l.length:Int) ≤ 4))) (cg aS) ?_))))))))
           obtain ⟨⟨jc,jd,je⟩,jf,h⟩:=ob h
           refine cv ([pp g 0,.bool (decide ((l.length:Int) ≤ 4))]) Tyb59 ((f59_ok k) jf (hG.mono ((((((((d.sub.trans e.sub).trans m).trans u).trans B).trans C).trans ac).trans ah).trans au)) (pt bw)) ?_
           rintro _ k6 ⟨jg,rfl,d8⟩
           have jh:=ca d8 bw
           exact wt (⟨_,jg,jc,jd,je,fR,d8.sub,jh,h⟩)
          ·refine o1 219 aS (o1 219 aS (o1 219 aS (o1 219 aS (m3 false vN (cg aS) ?_))))
           obtain ⟨⟨ji,jj,jk⟩,jl,h⟩:=ob h
           refine cv ([pp g 0,vN]) Tyb59 ((f59_ok k) jl (hG.mono ((((((((d.sub.trans e.sub).trans m).trans u).trans B).trans C).trans ac).trans ah).trans au)) (pt bw)) ?_
           rintro _ k7 ⟨jm,rfl,d9⟩
           have jn:=ca d9 bw
           exact wt (⟨_,jm,ji,jj,jk,fR,d9.sub,jn,h⟩)
         ·rintro _ k8 ⟨d7,bD,b4,b5,b6,rfl,aH,jo,h⟩
          unfold f90_j8 at h
          refine wp_cut (fun a w=>∃ ea cN cO cP cQ,a=fr 307 (updL ea [(0,pp g 0),(2,iI s),(4,pp (zz wi) 0)])∧KH.sub bD cN∧SR K cN wi w [.box bs g #[iI af,iI ag,.bool ae] 56] [.box bs g #[iI cO,iI cP,.bool cQ] 56,.box (zz wi) (zz wi) (vS p f O A S c J q N U t V W x X Y y Z D l G).toArray 42]∧f90_j9 k F t x y l s cO cP cQ=some r_) ?_ ?_
          ·refine sr (m2 (iI 0) (wt (wp_block (wp_loopG (fun g_ a w=>∃ ec bN bx,∃ (aM:Nat),∃ bO bP bm,g_=bx.length∧a=fr 307 (updL ec [(0,pp g 0),(2,iI s),(4,pp (zz wi) 0),(8,iI (aM:Int))])∧KH.sub bD bN∧SR K bN wi w [.box bs g #[iI af,iI ag,.bool ae] 56] [.box bs g #[iI bO,iI bP,.bool bm] 56,.box (zz wi) (zz wi) (vS p f O A S c J q N U t V W x X Y y Z D l G).toArray 42]∧q.drop aM=bx∧f90_l2 k F t x y l s bx aM bO bP bm=some r_) q.length ?_ ?_))))
           ·exact ⟨_,bD,q,0,b4,b5,b6,rfl,fR,kr,jo,List.drop_zero,h⟩
           ·rintro _ _ k9 ⟨ec,bN,bx,aM,bO,bP,bm,rfl,rfl,bE,bg,bF,h⟩
            rcases bx with _ | ⟨⟨ed,ee,ef,eg,eh⟩,bx⟩
            ·unfold f90_l2 at h
             exact wp_seq (sr (m1 (iI (aM:Int)) (fd 6 Tyf42_6 rfl (l1 1 (sl J q N) bg Tya39 (lS q.length Tye39 (bcm (r:=false) rfl rfl (congrArg some (drop_nil_lt bF)) (m1 vN (o0 231 (o0 231 (o0 231 (o0 231 (o0 231 (m3 false vN rfl (wt (cndF rfl (wp_exit (thenX (thenX (blkX (thenN (⟨_,bN,bO,bP,bm,fR,bE,bg,h⟩)))))))))))))))))))))
            ·unfold f90_l2 at h
             refine wp_seq (sr (m1 (iI (aM:Int)) (fd 6 Tyf42_6 rfl (l1 1 (sl J q N) bg Tya39 (lS q.length Tye39 (bcm (r:=true) rfl rfl (congrArg some (drop_cons_t bF)) (m1 vT (n0 231 (m1 (pp g 0) (n0 231 (nilc rfl (n0 231 (fd 2 Tyf56_2 rfl (n0 231 (l1 0 (.bool bm) bg Tya4 (n0 231 (uN bm (m3 true (.bool (!bm)) rfl (wt (cd h (fun cR h=>?_) (fun cR h=>?_)))))))))))))))))))))
             ·refine cT cR (wp_skip (thenN (wp_seq (wp_block (wp_region_lit (m1 (pp g 0) (fd 6 Tyf42_6 rfl (l1 1 (sl J q N) bg Tya39 (m1 (iI (aM:Int)) ?_)))))))))
              obtain ⟨jp,jq,la,jr,lc,js,ei⟩:=((me c2 ((((((((((d.sub.trans e.sub).trans m).trans u).trans B).trans C).trans ac).trans ah).trans au).trans aH).trans bE))).row.at_ (drop_cons_at bF)
              obtain ⟨ej,ek,rfl,ld,lf⟩:=RDExpr.open ei
              refine idxN (b:=jp) (o:=jq) (i:=aM) Tye39 Tys107 rfl jr rfl (drop_cons_lt bF) (lD (vE ed ee ef eg ej eh ek) Tya107 Tys107 rfl (fun j v hj=>bg.cell (kr.cell (js j v hj))) (m1 (iI s) (bar (r:=(w64 (s + 1))) rfl rfl rfl ?_)))
              obtain ⟨⟨jt,ju,jv⟩,jw,h⟩:=ob h
              refine cv ([pp g 0,.agg (vE ed ee ef eg ej eh ek).toArray,iI (w64 (s + 1)),vN]) Tyb110 ((f110_ok k) jw (hG.mono ((((((((((d.sub.trans e.sub).trans m).trans u).trans B).trans C).trans ac).trans ah).trans au).trans aH).trans bE)) ei (pt bg)) ?_
              rintro _ lg ⟨jx,rfl,el⟩
              have jy:=ca el bg
              exact wpList_nil (blkN (thenN (wp_region_lit (m1 (iI (aM:Int)) (bar (r:=((aM + 1:Nat):Int)) rfl rfl (inc_ok (le_big (((me c2 ((((((((((d.sub.trans e.sub).trans m).trans u).trans B).trans C).trans ac).trans ah).trans au).trans aH).trans bE))).len) (by decide) (drop_cons_lt bF))) (m2 (iI ((aM + 1:Nat):Int)) (wt (⟨_,Nat.lt_succ_self _,_,jx,bx,aM + 1,jt,ju,jv,rfl,fR,(bE.trans el.sub),jy,drop_cons_next bF,h⟩))))))))
             ·exact cF cR (wp_exit (thenX (thenX (blkX (thenN (⟨_,bN,bO,bP,bm,fR,bE,bg,h⟩))))))
          ·rintro _ lh ⟨ea,cN,cO,cP,cQ,rfl,aT,cS,h⟩
           unfold f90_j9 at h
           refine sr (m1 (pp g 0) (fd 7 Tyf42_7 rfl (l1 1 (sl U t V) cS Tya36 (m1 (iI s) (bar (r:=(w64 (s + 1))) rfl rfl rfl ?_)))))
           obtain ⟨⟨li,lj,lk⟩,jz,h⟩:=ob h
           refine cv ([pp g 0,sl U t V,iI (w64 (s + 1))]) Tyb61 (IH61 jz (hG.mono ((((((((((d.sub.trans e.sub).trans m).trans u).trans B).trans C).trans ac).trans ah).trans au).trans aH).trans aT)) (ms eJ ((((((((((d.sub.trans e.sub).trans m).trans u).trans B).trans C).trans ac).trans ah).trans au).trans aH).trans aT)) (pt cS)) ?_
           rintro _ ll ⟨lm,rfl,aW⟩
           have cU:=ca aW cS
           refine wt (sr (m1 (pp g 0) (fd 8 Tyf42_8 rfl (l1 1 (sl W x X) cU Tya36 (m1 (iI s) (bar (r:=(w64 (s + 1))) rfl rfl rfl ?_))))))
           obtain ⟨⟨ln,lo,lp⟩,jA,h⟩:=ob h
           refine cv ([pp g 0,sl W x X,iI (w64 (s + 1))]) Tyb61 (IH61 jA (hG.mono (((((((((((d.sub.trans e.sub).trans m).trans u).trans B).trans C).trans ac).trans ah).trans au).trans aH).trans aT).trans aW.sub)) (ms eK (((((((((((d.sub.trans e.sub).trans m).trans u).trans B).trans C).trans ac).trans ah).trans au).trans aH).trans aT).trans aW.sub)) (pt cU)) ?_
           rintro _ lq ⟨lr,rfl,bn⟩
           have cV:=ca bn cU
           refine wt (sr (m1 (pp g 0) (fd 9 Tyf42_9 rfl (l1 1 (sl Y y Z) cV Tya36 (m1 (iI s) (bar (r:=(w64 (s + 1))) rfl rfl rfl ?_))))))
           obtain ⟨⟨jB,jC,jD⟩,jE,h⟩:=ob h
           refine cv ([pp g 0,sl Y y Z,iI (w64 (s + 1))]) Tyb61 (IH61 jE (hG.mono ((((((((((((d.sub.trans e.sub).trans m).trans u).trans B).trans C).trans ac).trans ah).trans au).trans aH).trans aT).trans aW.sub).trans bn.sub)) (ms eL ((((((((((((d.sub.trans e.sub).trans m).trans u).trans B).trans C).trans ac).trans ah).trans au).trans aH).trans aT).trans aW.sub).trans bn.sub)) (pt cV)) ?_
           rintro _ ls ⟨em,rfl,bG⟩
           have jF:=ca bG cV
           refine wt (sr (m2 (iI 0) (wt (wp_block (wp_loopG (fun g_ a w=>∃ en bH bo,∃ (ai:Nat),∃ cW cX bI,g_=bo.length∧a=fr 307 (updL en [(0,pp g 0),(2,iI s),(4,pp (zz wi) 0),(9,iI (ai:Int))])∧KH.sub em bH∧SR K bH wi w [.box bs g #[iI af,iI ag,.bool ae] 56] [.box bs g #[iI cW,iI cX,.bool bI] 56,.box (zz wi) (zz wi) (vS p f O A S c J q N U t V W x X Y y Z D l G).toArray 42]∧l.drop ai=bo∧f90_l1 k F l s bo ai cW cX bI=some r_) l.length ?_ ?_)))))
           ·exact ⟨_,em,l,0,jB,jC,jD,rfl,fR,kr,jF,List.drop_zero,h⟩
           ·rintro _ _ lu ⟨en,bH,bo,ai,cW,cX,bI,rfl,rfl,bJ,bh,bz,h⟩
            rcases bo with _ | ⟨⟨bQ,eo,ep,eq,es⟩,bo⟩
            ·unfold f90_l1 at h
             refine wp_seq (sr (m1 (iI (ai:Int)) (fd 10 Tyf42_10 rfl (l1 1 (sl D l G) bh Tya40 (lS l.length Tye40 (bcm (r:=false) rfl rfl (congrArg some (drop_nil_lt bz)) (m1 vN (o0 272 (o0 272 (o0 272 (o0 272 (o0 272 (m3 false vN rfl (wt (cndF rfl (wp_exit (thenX (thenX (blkX ?_)))))))))))))))))))
             cases (oi h).trans hr_
             exact end0 rfl ⟨bH,rfl,(bh.sel [0])⟩
            ·unfold f90_l1 at h
             refine wp_seq (sr (m1 (iI (ai:Int)) (fd 10 Tyf42_10 rfl (l1 1 (sl D l G) bh Tya40 (lS l.length Tye40 (bcm (r:=true) rfl rfl (congrArg some (drop_cons_t bz)) (m1 vT (n0 272 (m1 (pp g 0) (n0 272 (nilc rfl (n0 272 (fd 2 Tyf56_2 rfl (n0 272 (l1 0 (.bool bI) bh Tya4 (n0 272 (uN bI (m3 true (.bool (!bI)) rfl (wt (cd h (fun cY h=>?_) (fun cY h=>?_)))))))))))))))))))))
             ·refine cT cY (wp_skip (thenN (wp_cut (fun a w=>∃ et b7 b8 b9 cb,a=fr 307 (updL et [(0,pp g 0),(2,iI s),(4,pp (zz wi) 0),(9,iI (ai:Int))])∧KH.sub bH b7∧SR K b7 wi w [.box bs g #[iI af,iI ag,.bool ae] 56] [.box bs g #[iI b8,iI b9,.bool cb] 56,.box (zz wi) (zz wi) (vS p f O A S c J q N U t V W x X Y y Z D l G).toArray 42]∧f90_j10 k F ai b8 b9 cb (f90_l1 k F l s bo)=some r_) ?_ ?_)))
              ·refine wp_block (sr (m1 (pp g 0) (fd 10 Tyf42_10 rfl (l1 1 (sl D l G) bh Tya40 (m1 (iI (ai:Int)) ?_)))))
               obtain ⟨eu,cZ,lv,ew,lw,ex,ey⟩:=((mc c4 ((((((((((((((d.sub.trans e.sub).trans m).trans u).trans B).trans C).trans ac).trans ah).trans au).trans aH).trans aT).trans aW.sub).trans bn.sub).trans bG.sub).trans bJ))).row.at_ (drop_cons_at bz)
               obtain ⟨ez,eA,eB,eC,rfl,lx,ly,lz⟩:=RDCase.open ey
               refine idxN (b:=eu) (o:=cZ) (i:=ai) Tye40 Tys87 rfl ew rfl (drop_cons_lt bz) (lD (vC bQ eo ep ez eq eA eB es eC) Tya87 Tys87 rfl (fun j v hj=>bh.cell (kr.cell (ex j v hj))) (m1 (iI s) (bar (r:=(w64 (s + 1))) rfl rfl rfl ?_)))
               obtain ⟨⟨lA,lB,lC⟩,jG,h⟩:=ob h
               refine cv ([pp g 0,.agg (vC bQ eo ep ez eq eA eB es eC).toArray,iI (w64 (s + 1))]) Tyb111 (IH111 jG (hG.mono ((((((((((((((d.sub.trans e.sub).trans m).trans u).trans B).trans C).trans ac).trans ah).trans au).trans aH).trans aT).trans aW.sub).trans bn.sub).trans bG.sub).trans bJ)) ey (pt bh)) ?_
               rintro _ lE ⟨lF,rfl,bK⟩
               have bA:=ca bK bh
               refine wt (wp_region_lit (m1 (pp g 0) (fd 10 Tyf42_10 rfl (l1 1 (sl D l G) bA Tya40 (m1 (iI (ai:Int)) (idxN (b:=eu) (o:=cZ) (i:=ai) Tye40 Tys87 rfl ew rfl (drop_cons_lt bz) (fd (cZ + ai * 5 + 0) Tyf87_0 rfl (ld1 (v:=iI bQ) Tya3 rfl (bA.cell (bK.sub.cell (ex 0 _ rfl))) (c0 (bQ != 4) (m1 (.bool (bQ != 4)) (cd h (fun aG h=>?_) (fun aG h=>?_))))))))))))
               ·refine o1 298 aG (o1 298 aG (o1 298 aG (o1 298 aG (o1 298 aG (o1 298 aG (m3 true vT (cg aG) ?_))))))
                obtain ⟨⟨jH,jI,jJ⟩,jK,h⟩:=ob h
                refine cv ([pp g 0,vT]) Tyb59 ((f59_ok k) jK (hG.mono (((((((((((((((d.sub.trans e.sub).trans m).trans u).trans B).trans C).trans ac).trans ah).trans au).trans aH).trans aT).trans aW.sub).trans bn.sub).trans bG.sub).trans bJ).trans bK.sub)) (pt bA)) ?_
                rintro _ lG ⟨jL,rfl,eD⟩
                have jM:=ca eD bA
                exact wpList_nil (blkN (thenN (⟨_,jL,jH,jI,jJ,fR,(bK.sub.trans eD.sub),jM,h⟩)))
               ·refine n1 298 aG (m1 (iI (ai:Int)) (n1 298 aG (fd 10 Tyf42_10 rfl (n1 298 aG (l1 1 (sl D l G) bA Tya40 (n1 298 aG (lS l.length Tye40 (n1 298 aG (bar (r:=(w64 ((l.length:Int) - 1))) rfl rfl rfl (n1 298 aG (c0 ((ai:Int) == (w64 ((l.length:Int) - 1))) (m3 false (.bool ((ai:Int) == (w64 ((l.length:Int) - 1)))) (cg aG) ?_))))))))))))
                obtain ⟨⟨jN,jO,jP⟩,jQ,h⟩:=ob h
                refine cv ([pp g 0,.bool ((ai:Int) == (w64 ((l.length:Int) - 1)))]) Tyb59 ((f59_ok k) jQ (hG.mono (((((((((((((((d.sub.trans e.sub).trans m).trans u).trans B).trans C).trans ac).trans ah).trans au).trans aH).trans aT).trans aW.sub).trans bn.sub).trans bG.sub).trans bJ).trans bK.sub)) (pt bA)) ?_
                rintro _ lH ⟨jR,rfl,eE⟩
                have jS:=ca eE bA
                exact wpList_nil (blkN (thenN (⟨_,jR,jN,jO,jP,fR,(bK.sub.trans eE.sub),jS,h⟩)))
              ·rintro _ lI ⟨et,b7,b8,b9,cb,rfl,jT,jU,h⟩
               unfold f90_j10 at h
               exact wp_region_lit (m1 (iI (ai:Int)) (bar (r:=((ai + 1:Nat):Int)) rfl rfl (inc_ok (le_big (((mc c4 ((((((((((((((d.sub.trans e.sub).trans m).trans u).trans B).trans C).trans ac).trans ah).trans au).trans aH).trans aT).trans aW.sub).trans bn.sub).trans bG.sub).trans bJ))).len) (by decide) (drop_cons_lt bz))) (m2 (iI ((ai + 1:Nat):Int)) (wt (⟨_,Nat.lt_succ_self _,_,b7,bo,ai + 1,b8,b9,cb,rfl,fR,(bJ.trans jT),jU,drop_cons_next bz,h⟩)))))
             ·refine cF cY (wp_exit (thenX (thenX (blkX ?_))))
              cases (oi h).trans hr_
              exact end0 rfl ⟨bH,rfl,(bh.sel [0])⟩
theorem f111_b_ok (k:Nat) (F:Fam61) (IH61:f61_spec F.f61) (IH90:f90_spec F.f90) (IH111:f111_spec F.f111):f111_spec (f111_b k F):=by
 unfold f111_spec
 intro K wi g bs V W X bb cC f cD cG cH h hG bd be
 obtain ⟨r_,hr_,h⟩:=rz h
 obtain ⟨c,e,s,d,p⟩:=bb
 obtain ⟨x,y,B,C,rfl,bf,aB,bg⟩:=RDCase.open bd
 refine enter Tryz.func111 rfl (n:=88) rfl ?_
 unfold f111_b at h
 refine sr (bxoC (cs:=(vC c e s x d y B p C).toArray) be rfl rfl (fun bh bi=>(wt (sr (m1 (pp g 0) (m1 (iI f) ?_))))))
 have aE:=p10 bi
 obtain ⟨⟨aF,aG,aH⟩,bj,h⟩:=ob h
 refine cv ([pp g 0,iI f]) Tyb60 ((f60_ok k) bj (hG.mono kr) (pt aE)) ?_
 rintro _ cI ⟨aI,rfl,l⟩
 have aj:=ca l aE
 refine wt (sr (m2 (iI 1) (wt (wp_cut (fun a w=>∃ aJ Y,a=fr 88 (updL aJ [(0,pp g 0),(2,iI f),(4,pp (zz wi) 0),(6,iI Y)])∧SR K aI wi w [.box bs g #[iI V,iI W,.bool X] 56] [.box bs g #[iI aF,iI aG,.bool aH] 56,.box (zz wi) (zz wi) (vC c e s x d y B p C).toArray 87]∧f111_j1 k F c e s d p f aF aG aH Y=some r_) ?_ ?_))))
 ·refine sr (fd 0 Tyf87_0 rfl (l1 1 (iI c) aj Tya3 (wt (wp_block (sr (c0 (c == 2) (m2 (.bool (c == 2)) (wt (cd h (fun ao h=>?_) (fun ao h=>?_))))))))))
  ·exact cT ao (wp_region_lit (m2 (iI 2) (wpList_nil (blkN (thenN (⟨_,2,fR,aj,h⟩))))))
  ·refine cF ao (sr (c0 (c == 4) (m2 (.bool (c == 4)) (wt (cd h (fun ap h=>?_) (fun ap h=>?_))))))
   ·exact cT ap (wp_region_lit (m2 (iI 0) (wpList_nil (blkN (thenN (⟨_,0,fR,aj,h⟩))))))
   ·exact cF ap (wp_skip (blkN (thenN (⟨_,1,fR,aj,h⟩))))
 ·rintro _ cJ ⟨aJ,Y,rfl,t,h⟩
  unfold f111_j1 at h
  refine wp_cut (fun a w=>∃ aK ak aq ar au,a=fr 88 (updL aK [(0,pp g 0),(2,iI f),(4,pp (zz wi) 0)])∧KH.sub aI ak∧SR K ak wi w [.box bs g #[iI V,iI W,.bool X] 56] [.box bs g #[iI aq,iI ar,.bool au] 56,.box (zz wi) (zz wi) (vC c e s x d y B p C).toArray 87]∧f111_j2 k F c e d p f aq ar au=some r_) ?_ ?_
  ·refine wp_region_lit (m1 (pp g 0) (fd 0 Tyf87_0 rfl (l1 1 (iI c) t Tya3 (c0 (decide (c ≥ 1)) (m1 (.bool (decide (c ≥ 1))) (cd h (fun D h=>?_) (fun D h=>?_)))))))
   ·refine n1 21 D (fd 0 Tyf87_0 rfl (n1 21 D (l1 1 (iI c) t Tya3 (n1 21 D (c0 (decide (c ≤ 4)) (m3 true (.bool (decide (c ≤ 4))) (cg D) (m1 (.bool (decide (c ≤ 4))) (cd h (fun q h=>?_) (fun q h=>?_)))))))))
    ·refine n1 26 q (fd 3 Tyf87_3 rfl (n1 26 q (l1 1 (sl x d y) t Tya39 (n1 26 q (lS d.length Tye39 (n1 26 q (m1 (iI Y) (n1 26 q (c0 ((d.length:Int) == Y) (m3 true (.bool ((d.length:Int) == Y)) (cg q) (m1 (.bool ((d.length:Int) == Y)) (cd h (fun G h=>?_) (fun G h=>?_)))))))))))))
     ·refine n1 33 G (fd 2 Tyf87_2 rfl (n1 33 G (l1 1 (iI s) t Tya3 (n1 33 G (c0 (s == 0) (m3 true (.bool (s == 0)) (cg G) ?_))))))
      obtain ⟨⟨bk,bm,bn⟩,bo,h⟩:=ob h
      refine cv ([pp g 0,.bool (s == 0)]) Tyb59 ((f59_ok k) bo (hG.mono l.sub) (pt t)) ?_
      rintro _ cK ⟨bp,rfl,aL⟩
      have bq:=ca aL t
      exact wt (⟨_,bp,bk,bm,bn,fR,aL.sub,bq,h⟩)
     ·refine o1 33 G (o1 33 G (o1 33 G (m3 false vN (cg G) ?_)))
      obtain ⟨⟨br,bu,bv⟩,bw,h⟩:=ob h
      refine cv ([pp g 0,vN]) Tyb59 ((f59_ok k) bw (hG.mono l.sub) (pt t)) ?_
      rintro _ cL ⟨bx,rfl,aM⟩
      have bz:=ca aM t
      exact wt (⟨_,bx,br,bu,bv,fR,aM.sub,bz,h⟩)
    ·refine o1 26 q (o1 26 q (o1 26 q (o1 26 q (o1 26 q (m3 false vN (cg q) (m1 vN (o0 33 (o0 33 (o0 33 (m3 false vN rfl ?_))))))))))
     obtain ⟨⟨bA,bB,bC⟩,bD,h⟩:=ob h
     refine cv ([pp g 0,vN]) Tyb59 ((f59_ok k) bD (hG.mono l.sub) (pt t)) ?_
     rintro _ cM ⟨bE,rfl,aN⟩
     have bF:=ca aN t
     exact wt (⟨_,bE,bA,bB,bC,fR,aN.sub,bF,h⟩)
   ·refine o1 21 D (o1 21 D (o1 21 D (m3 false vN (cg D) (m1 vN (o0 26 (o0 26 (o0 26 (o0 26 (o0 26 (m3 false vN rfl (m1 vN (o0 33 (o0 33 (o0 33 (m3 false vN rfl ?_)))))))))))))))
    obtain ⟨⟨bG,bH,bI⟩,bJ,h⟩:=ob h
    refine cv ([pp g 0,vN]) Tyb59 ((f59_ok k) bJ (hG.mono l.sub) (pt t)) ?_
    rintro _ cN ⟨bK,rfl,aP⟩
    have bL:=ca aP t
    exact wt (⟨_,bK,bG,bH,bI,fR,aP.sub,bL,h⟩)
  ·rintro _ cO ⟨aK,ak,aq,ar,au,rfl,z,A,h⟩
   unfold f111_j2 at h
   refine wp_cut (fun a w=>∃ aQ ac al am an,a=fr 88 (updL aQ [(0,pp g 0),(2,iI f),(4,pp (zz wi) 0)])∧KH.sub ak ac∧SR K ac wi w [.box bs g #[iI V,iI W,.bool X] 56] [.box bs g #[iI al,iI am,.bool an] 56,.box (zz wi) (zz wi) (vC c e s x d y B p C).toArray 87]∧f111_j3 k F d p f al am an=some r_) ?_ ?_
   ·refine wp_region_lit (m1 (pp g 0) (fd 0 Tyf87_0 rfl (l1 1 (iI c) A Tya3 (c0 (c == 1) (m1 (.bool (c == 1)) (cd h (fun I h=>?_) (fun I h=>?_)))))))
    ·refine n1 43 I (fd 1 Tyf87_1 rfl (n1 43 I (l1 1 (.string e) A Tya9 (n1 43 I ?_))))
     obtain ⟨aR,bM,h⟩:=ob h
     refine cv ([.string e]) Tyb34 ((f34_ok k) bM (hG.mono (l.sub.trans z)) bf (pt A)) ?_
     rintro _ cP ⟨cQ,rfl,Z⟩
     have S:=ca Z A
     refine m3 true (.bool aR) (cg I) (m1 (.bool aR) (cd h (fun m h=>?_) (fun m h=>?_)))
     ·refine o1 48 m (o1 48 m (o1 48 m (o1 48 m (ou 52 (ou 52 (ou 52 (o1 48 m (m3 true vT (cg m) ?_))))))))
      obtain ⟨⟨bN,bO,bP⟩,bQ,h⟩:=ob h
      refine cv ([pp g 0,vT]) Tyb59 ((f59_ok k) bQ (hG.mono ((l.sub.trans z).trans Z.sub)) (pt S)) ?_
      rintro _ cR ⟨bR,rfl,aS⟩
      have bS:=ca aS S
      exact wt (⟨_,bR,bN,bO,bP,fR,(Z.sub.trans aS.sub),bS,h⟩)
     ·refine n1 48 m (fd 0 Tyf87_0 rfl (n1 48 m (l1 1 (iI c) S Tya3 (n1 48 m (c0 (c != 1) (n1 48 m (m1 (.bool (c != 1)) (cd h (fun J h=>?_) (fun J h=>?_)))))))))
      ·refine n1 52 J (fd 1 Tyf87_1 rfl (n1 52 J (l1 1 (.string e) S Tya9 (n1 52 J (bsc (r:=(seq e ⟨#[]⟩)) rfl rfl rfl (n1 48 m (m3 true (.bool (seq e ⟨#[]⟩)) (cg J) (m3 false (.bool (seq e ⟨#[]⟩)) (cg m) ?_))))))))
       obtain ⟨⟨bT,bU,bV⟩,bW,h⟩:=ob h
       refine cv ([pp g 0,.bool (seq e ⟨#[]⟩)]) Tyb59 ((f59_ok k) bW (hG.mono ((l.sub.trans z).trans Z.sub)) (pt S)) ?_
       rintro _ cS ⟨bX,rfl,aT⟩
       have bY:=ca aT S
       exact wt (⟨_,bX,bT,bU,bV,fR,(Z.sub.trans aT.sub),bY,h⟩)
      ·refine o1 52 J (o1 52 J (o1 52 J (n1 48 m (m3 false vN (cg J) (m3 false vN (cg m) ?_)))))
       obtain ⟨⟨bZ,b0,b1⟩,b2,h⟩:=ob h
       refine cv ([pp g 0,vN]) Tyb59 ((f59_ok k) b2 (hG.mono ((l.sub.trans z).trans Z.sub)) (pt S)) ?_
       rintro _ cU ⟨b3,rfl,aU⟩
       have b4:=ca aU S
       exact wt (⟨_,b3,bZ,b0,b1,fR,(Z.sub.trans aU.sub),b4,h⟩)
    ·refine o1 43 I (o1 43 I (o1 43 I (m3 false vN (cg I) (m1 vN (n0 48 (fd 0 Tyf87_0 rfl (n0 48 (l1 1 (iI c) A Tya3 (n0 48 (c0 (c != 1) (n0 48 (m1 (.bool (c != 1)) (cd h (fun N h=>?_) (fun N h=>?_))))))))))))))
     ·refine n1 52 N (fd 1 Tyf87_1 rfl (n1 52 N (l1 1 (.string e) A Tya9 (n1 52 N (bsc (r:=(seq e ⟨#[]⟩)) rfl rfl rfl (n0 48 (m3 true (.bool (seq e ⟨#[]⟩)) (cg N) (m3 false (.bool (seq e ⟨#[]⟩)) rfl ?_))))))))
      obtain ⟨⟨b5,b6,b7⟩,b8,h⟩:=ob h
      refine cv ([pp g 0,.bool (seq e ⟨#[]⟩)]) Tyb59 ((f59_ok k) b8 (hG.mono (l.sub.trans z)) (pt A)) ?_
      rintro _ cV ⟨b9,rfl,aV⟩
      have cb:=ca aV A
      exact wt (⟨_,b9,b5,b6,b7,fR,aV.sub,cb,h⟩)
     ·refine o1 52 N (o1 52 N (o1 52 N (n0 48 (m3 false vN (cg N) (m3 false vN rfl ?_)))))
      obtain ⟨⟨cc,ce,cf⟩,ch,h⟩:=ob h
      refine cv ([pp g 0,vN]) Tyb59 ((f59_ok k) ch (hG.mono (l.sub.trans z)) (pt A)) ?_
      rintro _ cW ⟨ci,rfl,aW⟩
      have cj:=ca aW A
      exact wt (⟨_,ci,cc,ce,cf,fR,aW.sub,cj,h⟩)
   ·rintro _ cX ⟨aQ,ac,al,am,an,rfl,af,ck,h⟩
    unfold f111_j3 at h
    refine wp_cut (fun a w=>∃ aX av aw ax ay,a=fr 88 (updL aX [(0,pp g 0),(2,iI f),(4,pp (zz wi) 0)])∧KH.sub ac av∧SR K av wi w [.box bs g #[iI V,iI W,.bool X] 56] [.box bs g #[iI aw,iI ax,.bool ay] 56,.box (zz wi) (zz wi) (vC c e s x d y B p C).toArray 87]∧f111_j4 k F p f aw ax ay=some r_) ?_ ?_
    ·refine sr (m2 (iI 0) (wt (wp_block (wp_loopG (fun g_ a w=>∃ aY ag ab,∃ (u:Nat),∃ ah ai U,g_=ab.length∧a=fr 88 (updL aY [(0,pp g 0),(2,iI f),(4,pp (zz wi) 0),(7,iI (u:Int))])∧KH.sub ac ag∧SR K ag wi w [.box bs g #[iI V,iI W,.bool X] 56] [.box bs g #[iI ah,iI ai,.bool U] 56,.box (zz wi) (zz wi) (vC c e s x d y B p C).toArray 87]∧d.drop u=ab∧f111_l1 k F p f ab u ah ai U=some r_) d.length ?_ ?_))))
     ·exact ⟨_,ac,d,0,al,am,an,rfl,fR,kr,ck,List.drop_zero,h⟩
     ·rintro _ _ cY ⟨aY,ag,ab,u,ah,ai,U,rfl,rfl,ad,O,ae,h⟩
      rcases ab with _ | ⟨⟨aZ,a0,a3,a4,a5⟩,ab⟩
      ·unfold f111_l1 at h
       exact wp_seq (sr (m1 (iI (u:Int)) (fd 3 Tyf87_3 rfl (l1 1 (sl x d y) O Tya39 (lS d.length Tye39 (bcm (r:=false) rfl rfl (congrArg some (drop_nil_lt ae)) (m1 vN (o0 64 (o0 64 (o0 64 (o0 64 (o0 64 (m3 false vN rfl (wt (cndF rfl (wp_exit (thenX (thenX (blkX (thenN (⟨_,ag,ah,ai,U,fR,ad,O,h⟩)))))))))))))))))))))
      ·unfold f111_l1 at h
       refine wp_seq (sr (m1 (iI (u:Int)) (fd 3 Tyf87_3 rfl (l1 1 (sl x d y) O Tya39 (lS d.length Tye39 (bcm (r:=true) rfl rfl (congrArg some (drop_cons_t ae)) (m1 vT (n0 64 (m1 (pp g 0) (n0 64 (nilc rfl (n0 64 (fd 2 Tyf56_2 rfl (n0 64 (l1 0 (.bool U) O Tya4 (n0 64 (uN U (m3 true (.bool (!U)) rfl (wt (cd h (fun az h=>?_) (fun az h=>?_)))))))))))))))))))))
       ·refine cT az (wp_skip (thenN (wp_seq (wp_block (wp_region_lit (m1 (pp g 0) (fd 3 Tyf87_3 rfl (l1 1 (sl x d y) O Tya39 (m1 (iI (u:Int)) ?_)))))))))
        obtain ⟨cl,cm,cZ,cn,c3,co,a6⟩:=((me aB (((l.sub.trans z).trans af).trans ad))).row.at_ (drop_cons_at ae)
        obtain ⟨a7,a8,rfl,c4,c6⟩:=RDExpr.open a6
        refine idxN (b:=cl) (o:=cm) (i:=u) Tye39 Tys107 rfl cn rfl (drop_cons_lt ae) (lD (vE aZ a0 a3 a4 a7 a5 a8) Tya107 Tys107 rfl (fun j v hj=>O.cell (kr.cell (co j v hj))) (m1 (iI f) (bar (r:=(w64 (f + 1))) rfl rfl rfl ?_)))
        obtain ⟨⟨cq,cr,ct⟩,cu,h⟩:=ob h
        refine cv ([pp g 0,.agg (vE aZ a0 a3 a4 a7 a5 a8).toArray,iI (w64 (f + 1)),vN]) Tyb110 ((f110_ok k) cu (hG.mono (((l.sub.trans z).trans af).trans ad)) a6 (pt O)) ?_
        rintro _ c7 ⟨cw,rfl,a9⟩
        have cx:=ca a9 O
        exact wpList_nil (blkN (thenN (wp_region_lit (m1 (iI (u:Int)) (bar (r:=((u + 1:Nat):Int)) rfl rfl (inc_ok (le_big (((me aB (((l.sub.trans z).trans af).trans ad))).len) (by decide) (drop_cons_lt ae))) (m2 (iI ((u + 1:Nat):Int)) (wt (⟨_,Nat.lt_succ_self _,_,cw,ab,u + 1,cq,cr,ct,rfl,fR,(ad.trans a9.sub),cx,drop_cons_next ae,h⟩))))))))
       ·exact cF az (wp_exit (thenX (thenX (blkX (thenN (⟨_,ag,ah,ai,U,fR,ad,O,h⟩))))))
    ·rintro _ c8 ⟨aX,av,aw,ax,ay,rfl,ba,aA,h⟩
     unfold f111_j4 at h
     refine wp_region_lit (m1 (pp g 0) (fd 4 Tyf87_4 rfl (l1 1 (sl B p C) aA Tya36 (m1 (iI f) (bar (r:=(w64 (f + 1))) rfl rfl rfl ?_)))))
     obtain ⟨⟨c9,da,db⟩,cy,h⟩:=ob h
     refine cv ([pp g 0,sl B p C,iI (w64 (f + 1))]) Tyb61 (IH61 cy (hG.mono (((l.sub.trans z).trans af).trans ba)) (ms bg (((l.sub.trans z).trans af).trans ba)) (pt aA)) ?_
     rintro _ dc ⟨cz,rfl,cA⟩
     have cB:=ca cA aA
     refine wpList_nil ?_
     cases (oi h).trans hr_
     exact end0 rfl ⟨cz,rfl,(cB.sel [0])⟩
theorem fam61_ok (k0:Nat) : ∀ k,f61_spec (fam61 k0 k).f61∧f90_spec (fam61 k0 k).f90∧f111_spec (fam61 k0 k).f111:=by
 intro k
 induction k with
 | zero=>exact ⟨(by unfold f61_spec; intro _ _ _ _ _ _ _ _ _ _ _ _ _ _ h_; cases h_),(by unfold f90_spec; intro _ _ _ _ _ _ _ _ _ _ _ _ _ h_; cases h_),(by unfold f111_spec; intro _ _ _ _ _ _ _ _ _ _ _ _ _ h_; cases h_)⟩
 | succ k ih=>exact ⟨f61_b_ok k0 (fam61 k0 k) ih.1 ih.2.1 ih.2.2,f90_b_ok k0 (fam61 k0 k) ih.1 ih.2.1 ih.2.2,f111_b_ok k0 (fam61 k0 k) ih.1 ih.2.1 ih.2.2⟩
theorem f61_ok (k:Nat):f61_spec (f61 k):=(fam61_ok k k).1
theorem f90_ok (k:Nat):f90_spec (f90 k):=(fam61_ok k k).2.1
theorem f111_ok (k:Nat):f111_spec (f111 k):=(fam61_ok k k).2.2
theorem f32_b_ok (k:Nat):f32_spec (f32_b k):=by
 unfold f32_spec
 intro K wi bF dz dA h hG bG bH
 obtain ⟨r_,hr_,h⟩:=rz h
 obtain ⟨d⟩:=bF
 obtain ⟨A,c1,rfl,a6⟩:=RDProgram.open bG
 refine enter Tryz.func32 rfl (n:=126) rfl ?_
 unfold f32_b at h
 refine sr (bxoC (cs:=#[sl A d c1]) bH rfl rfl (fun s bI=>(aC #[iI 0,iI 0,vN] bI Tyz56 (fun c bJ=>(wt (sr (bld (cells:=#[iI 0,iI 0,vN]) (vs:=[]) rfl (fun w=>by kernel_rfl) (bxoC (cs:=#[iI 0,iI 0,vN]) bJ rfl rfl (fun dB av=>(m2 (pp (zz c) 0) (wt (wp_cut (fun a w=>∃ a7 aw aG aH aI,a=fr 126 (updL a7 [(1,pp (zz wi) 0),(2,pp (zz s) 0),(3,pp (zz c) 0)])∧KH.sub K aw∧SR K aw wi w [] [.box (zz wi) (zz wi) #[sl A d c1] 24,.box (zz wi) (zz s) #[iI 0,iI 0,vN] 56,.box (zz wi) (zz c) #[iI aG,iI aH,.bool aI] 56]∧f32_j1 k d aG aH aI=some r_) ?_ ?_))))))))))))
 ·refine wp_region_lit (m1 (pp (zz c) 0) (fd 0 Tyf24_0 rfl (l1 2 (sl A d c1) av Tya22 (lS d.length Tye22 (c0 (decide ((d.length:Int) ≥ 1)) (m1 (.bool (decide ((d.length:Int) ≥ 1))) (cd h (fun V h=>?_) (fun V h=>?_))))))))
  ·refine n1 14 V (fd 0 Tyf24_0 rfl (n1 14 V (l1 2 (sl A d c1) av Tya22 (n1 14 V (lS d.length Tye22 (n1 14 V (c0 (decide ((d.length:Int) ≤ 16)) (m3 true (.bool (decide ((d.length:Int) ≤ 16))) (cg V) ?_))))))))
   obtain ⟨⟨bK,bL,bM⟩,bN,h⟩:=ob h
   refine cv ([pp (zz c) 0,.bool (decide ((d.length:Int) ≤ 16))]) Tyb59 ((f59_ok k) bN (hG.mono kr) (pt av)) ?_
   rintro _ dC ⟨bO,rfl,a8⟩
   have bP:=ca a8 av
   exact wt (⟨_,bO,bK,bL,bM,fR,a8.sub,(bP.sel [2,1,0]),h⟩)
  ·refine o1 14 V (o1 14 V (o1 14 V (o1 14 V (m3 false vN (cg V) ?_))))
   obtain ⟨⟨bQ,bR,bS⟩,bT,h⟩:=ob h
   refine cv ([pp (zz c) 0,vN]) Tyb59 ((f59_ok k) bT (hG.mono kr) (pt av)) ?_
   rintro _ dD ⟨bU,rfl,a9⟩
   have bV:=ca a9 av
   exact wt (⟨_,bU,bQ,bR,bS,fR,a9.sub,(bV.sel [2,1,0]),h⟩)
 ·rintro _ dE ⟨a7,aw,aG,aH,aI,rfl,D,bW,h⟩
  unfold f32_j1 at h
  refine wp_cut (fun a w=>∃ ba aJ aj ak al,a=fr 126 (updL ba [(2,pp (zz s) 0),(3,pp (zz c) 0)])∧KH.sub aw aJ∧SR K aJ wi w [] [.box (zz wi) (zz s) #[iI 0,iI 0,vN] 56,.box (zz wi) (zz c) #[iI aj,iI ak,.bool al] 56]∧f32_j2 k aj ak al=some r_) ?_ ?_
  ·refine sr (m2 (iI 0) (wt (wp_block (wp_loopG (fun g_ a w=>∃ bb ax W,∃ (p:Nat),∃ ay az Z,g_=W.length∧a=fr 126 (updL bb [(1,pp (zz wi) 0),(2,pp (zz s) 0),(3,pp (zz c) 0),(4,iI (p:Int))])∧KH.sub aw ax∧SR K ax wi w [] [.box (zz wi) (zz wi) #[sl A d c1] 24,.box (zz wi) (zz s) #[iI 0,iI 0,vN] 56,.box (zz wi) (zz c) #[iI ay,iI az,.bool Z] 56]∧d.drop p=W∧f32_l1 k W p ay az Z=some r_) d.length ?_ ?_))))
   ·exact ⟨_,aw,d,0,aG,aH,aI,rfl,fR,kr,bW,List.drop_zero,h⟩
   ·rintro _ _ U ⟨bb,ax,W,p,ay,az,Z,rfl,rfl,t,am,aA,h⟩
    rcases W with _ | ⟨⟨N,e,f,G,q,u⟩,W⟩
    ·unfold f32_l1 at h
     exact wp_seq (sr (m1 (iI (p:Int)) (fd 0 Tyf24_0 rfl (l1 0 (sl A d c1) am Tya22 (lS d.length Tye22 (bcm (r:=false) rfl rfl (congrArg some (drop_nil_lt aA)) (m1 vN (o0 26 (o0 26 (o0 26 (o0 26 (o0 26 (m3 false vN rfl (wt (cndF rfl (wp_exit (thenX (thenX (blkX (thenN (⟨_,ax,ay,az,Z,fR,t,(am.sel [1,2]),h⟩)))))))))))))))))))))
    ·unfold f32_l1 at h
     refine wp_seq (sr (m1 (iI (p:Int)) (fd 0 Tyf24_0 rfl (l1 0 (sl A d c1) am Tya22 (lS d.length Tye22 (bcm (r:=true) rfl rfl (congrArg some (drop_cons_t aA)) (m1 vT (n0 26 (m1 (pp (zz c) 0) (n0 26 (nilc rfl (n0 26 (fd 2 Tyf56_2 rfl (n0 26 (l1 2 (.bool Z) am Tya4 (n0 26 (uN Z (m3 true (.bool (!Z)) rfl (wt (cd h (fun aW h=>?_) (fun aW h=>?_)))))))))))))))))))))
     ·refine cT aW (wp_skip (thenN (wp_seq (wp_block (sr (fd 0 Tyf24_0 rfl (l1 0 (sl A d c1) am Tya22 (m1 (iI (p:Int)) ?_))))))))
      obtain ⟨bX,bY,dF,bZ,dG,b0,b1⟩:=((mf a6 (D.trans t))).row.at_ (drop_cons_at aA)
      obtain ⟨x,y,O,S,rfl,b2,bd,b3⟩:=RDFunc.open b1
      refine idxN (b:=bX) (o:=bY) (i:=p) Tye22 Tys38 rfl bZ rfl (drop_cons_lt aA) (lD (vF N x e y f G q O u S) Tya38 Tys38 rfl (fun j v hj=>am.cell (kr.cell (b0 j v hj))) (aC zF.toArray am Tyz38 (fun dH b4=>(sI 0 (.agg (vF N x e y f G q O u S).toArray) ((vF N x e y f G q O u S).toArray) b4 Tys38 rfl rfl (fun b5 b6=>(wt (sr (m1 (pp (zz c) 0) ?_))))))))
      have be:=p3012 b6
      obtain ⟨⟨dI,dJ,dK⟩,b7,h⟩:=ob h
      refine cv ([pp (zz c) 0,iI 0]) Tyb60 ((f60_ok k) b7 (hG.mono (D.trans t)) (pt be)) ?_
      rintro _ dL ⟨b8,rfl,z⟩
      have aX:=ca z be
      refine wt (wp_cut (fun a w=>∃ bf aB aK aL aM,a=fr 126 (updL bf [(1,pp (zz wi) 0),(2,pp (zz s) 0),(3,pp (zz c) 0),(4,iI (p:Int)),(5,pp (zz U) 0)])∧KH.sub b8 aB∧SR K aB wi w [] [.box (zz wi) (zz wi) #[sl A d c1] 24,.box (zz wi) (zz s) #[iI 0,iI 0,vN] 56,.box (zz wi) (zz c) #[iI aK,iI aL,.bool aM] 56,.box (zz wi) (zz U) (vF N x e y f G q O u S).toArray 38]∧f32_j3 k p e u aK aL aM (f32_l1 k W)=some r_) ?_ ?_)
      ·refine wp_region_lit (m1 (pp (zz c) 0) (fd 0 Tyf38_0 rfl (l1 1 (.string N) aX Tya9 ?_)))
       obtain ⟨b9,cb,h⟩:=ob h
       refine cv ([.string N]) Tyb34 ((f34_ok k) cb (hG.mono ((D.trans t).trans z.sub)) b2 (pt aX)) ?_
       rintro _ dM ⟨dN,rfl,I⟩
       have g:=ca I aX
       refine m1 (.bool b9) (cd h (fun X h=>?_) (fun X h=>?_))
       ·refine n1 46 X (fd 1 Tyf38_1 rfl (n1 46 X (l1 1 (sl x e y) g Tya35 (n1 46 X (lS e.length Tye35 (n1 46 X (c0 (decide ((e.length:Int) ≤ 4)) (m3 true (.bool (decide ((e.length:Int) ≤ 4))) (cg X) (m1 (.bool (decide ((e.length:Int) ≤ 4))) (cd h (fun ab h=>?_) (fun ab h=>?_)))))))))))
        ·refine n1 52 ab (fd 2 Tyf38_2 rfl (n1 52 ab (l1 1 (iI f) g Tya3 (n1 52 ab (c0 (decide (f ≥ 0)) (m3 true (.bool (decide (f ≥ 0))) (cg ab) (m1 (.bool (decide (f ≥ 0))) (cd h (fun ac h=>?_) (fun ac h=>?_)))))))))
         ·refine n1 57 ac (fd 2 Tyf38_2 rfl (n1 57 ac (l1 1 (iI f) g Tya3 (n1 57 ac (c0 (decide (f ≤ 6)) (m3 true (.bool (decide (f ≤ 6))) (cg ac) (m1 (.bool (decide (f ≤ 6))) (cd h (fun J h=>?_) (fun J h=>?_)))))))))
          ·refine n1 62 J (fd 3 Tyf38_3 rfl (n1 62 J (l1 1 (.bool G) g Tya4 (n1 62 J (uN G (n1 62 J (m1 (.bool (!G)) (cd h (fun ad h=>?_) (fun ad h=>?_)))))))))
           ·refine o1 66 ad (o1 66 ad (o1 66 ad (n1 62 J (m3 true vT (cg ad) (m3 true vT (cg J) (m1 vT (n0 72 (fd 4 Tyf38_4 rfl (n0 72 (l1 1 (iI q) g Tya3 (n0 72 (c0 (q == 0) (m3 true (.bool (q == 0)) rfl ?_)))))))))))))
            obtain ⟨⟨cc,ce,cf⟩,ch,h⟩:=ob h
            refine cv ([pp (zz c) 0,.bool (q == 0)]) Tyb59 ((f59_ok k) ch (hG.mono (((D.trans t).trans z.sub).trans I.sub)) (pt g)) ?_
            rintro _ dO ⟨ci,rfl,bg⟩
            have cj:=ca bg g
            exact wt (⟨_,ci,cc,ce,cf,fR,(I.sub.trans bg.sub),(cj.sel [2,3,0,1]),h⟩)
           ·refine n1 66 ad (fd 2 Tyf38_2 rfl (n1 66 ad (l1 1 (iI f) g Tya3 (n1 66 ad (c0 (f == 0) (n1 62 J (m3 false (.bool (f == 0)) (cg ad) (m3 true (.bool (f == 0)) (cg J) (m1 (.bool (f == 0)) (cd h (fun ae h=>?_) (fun ae h=>?_)))))))))))
            ·refine n1 72 ae (fd 4 Tyf38_4 rfl (n1 72 ae (l1 1 (iI q) g Tya3 (n1 72 ae (c0 (q == 0) (m3 true (.bool (q == 0)) (cg ae) ?_))))))
             obtain ⟨⟨ck,cl,cm⟩,cn,h⟩:=ob h
             refine cv ([pp (zz c) 0,.bool (q == 0)]) Tyb59 ((f59_ok k) cn (hG.mono (((D.trans t).trans z.sub).trans I.sub)) (pt g)) ?_
             rintro _ dP ⟨co,rfl,bh⟩
             have cq:=ca bh g
             exact wt (⟨_,co,ck,cl,cm,fR,(I.sub.trans bh.sub),(cq.sel [2,3,0,1]),h⟩)
            ·refine o1 72 ae (o1 72 ae (o1 72 ae (m3 false vN (cg ae) ?_)))
             obtain ⟨⟨cr,ct,cu⟩,cw,h⟩:=ob h
             refine cv ([pp (zz c) 0,vN]) Tyb59 ((f59_ok k) cw (hG.mono (((D.trans t).trans z.sub).trans I.sub)) (pt g)) ?_
             rintro _ dQ ⟨cx,rfl,bi⟩
             have cy:=ca bi g
             exact wt (⟨_,cx,cr,ct,cu,fR,(I.sub.trans bi.sub),(cy.sel [2,3,0,1]),h⟩)
          ·refine o1 62 J (o1 62 J (o1 62 J (o1 62 J (ou 66 (ou 66 (ou 66 (o1 62 J (m3 false vN (cg J) (m1 vN (o0 72 (o0 72 (o0 72 (m3 false vN rfl ?_)))))))))))))
           obtain ⟨⟨cz,cA,cB⟩,cC,h⟩:=ob h
           refine cv ([pp (zz c) 0,vN]) Tyb59 ((f59_ok k) cC (hG.mono (((D.trans t).trans z.sub).trans I.sub)) (pt g)) ?_
           rintro _ dR ⟨cD,rfl,bj⟩
           have cG:=ca bj g
           exact wt (⟨_,cD,cz,cA,cB,fR,(I.sub.trans bj.sub),(cG.sel [2,3,0,1]),h⟩)
         ·refine o1 57 ac (o1 57 ac (o1 57 ac (m3 false vN (cg ac) (m1 vN (o0 62 (o0 62 (o0 62 (o0 62 (ou 66 (ou 66 (ou 66 (o0 62 (m3 false vN rfl (m1 vN (o0 72 (o0 72 (o0 72 (m3 false vN rfl ?_))))))))))))))))))
          obtain ⟨⟨cH,cI,cJ⟩,cK,h⟩:=ob h
          refine cv ([pp (zz c) 0,vN]) Tyb59 ((f59_ok k) cK (hG.mono (((D.trans t).trans z.sub).trans I.sub)) (pt g)) ?_
          rintro _ dS ⟨cL,rfl,bk⟩
          have cM:=ca bk g
          exact wt (⟨_,cL,cH,cI,cJ,fR,(I.sub.trans bk.sub),(cM.sel [2,3,0,1]),h⟩)
        ·refine o1 52 ab (o1 52 ab (o1 52 ab (m3 false vN (cg ab) (m1 vN (o0 57 (o0 57 (o0 57 (m3 false vN rfl (m1 vN (o0 62 (o0 62 (o0 62 (o0 62 (ou 66 (ou 66 (ou 66 (o0 62 (m3 false vN rfl (m1 vN (o0 72 (o0 72 (o0 72 (m3 false vN rfl ?_)))))))))))))))))))))))
         obtain ⟨⟨cN,cO,cP⟩,cQ,h⟩:=ob h
         refine cv ([pp (zz c) 0,vN]) Tyb59 ((f59_ok k) cQ (hG.mono (((D.trans t).trans z.sub).trans I.sub)) (pt g)) ?_
         rintro _ dT ⟨cR,rfl,bm⟩
         have cS:=ca bm g
         exact wt (⟨_,cR,cN,cO,cP,fR,(I.sub.trans bm.sub),(cS.sel [2,3,0,1]),h⟩)
       ·refine o1 46 X (o1 46 X (o1 46 X (o1 46 X (m3 false vN (cg X) (m1 vN (o0 52 (o0 52 (o0 52 (m3 false vN rfl (m1 vN (o0 57 (o0 57 (o0 57 (m3 false vN rfl (m1 vN (o0 62 (o0 62 (o0 62 (o0 62 (ou 66 (ou 66 (ou 66 (o0 62 (m3 false vN rfl (m1 vN (o0 72 (o0 72 (o0 72 (m3 false vN rfl ?_)))))))))))))))))))))))))))))
        obtain ⟨⟨cU,cV,cW⟩,cX,h⟩:=ob h
        refine cv ([pp (zz c) 0,vN]) Tyb59 ((f59_ok k) cX (hG.mono (((D.trans t).trans z.sub).trans I.sub)) (pt g)) ?_
        rintro _ dU ⟨cY,rfl,bn⟩
        have cZ:=ca bn g
        exact wt (⟨_,cY,cU,cV,cW,fR,(I.sub.trans bn.sub),(cZ.sel [2,3,0,1]),h⟩)
      ·rintro _ dV ⟨bf,aB,aK,aL,aM,rfl,af,c2,h⟩
       unfold f32_j3 at h
       refine wp_cut (fun a w=>∃ bo aN aP aQ aR,a=fr 126 (updL bo [(1,pp (zz wi) 0),(2,pp (zz s) 0),(3,pp (zz c) 0),(4,iI (p:Int)),(5,pp (zz U) 0)])∧KH.sub aB aN∧SR K aN wi w [] [.box (zz wi) (zz wi) #[sl A d c1] 24,.box (zz wi) (zz s) #[iI 0,iI 0,vN] 56,.box (zz wi) (zz c) #[iI aP,iI aQ,.bool aR] 56,.box (zz wi) (zz U) (vF N x e y f G q O u S).toArray 38]∧f32_j4 k p u aP aQ aR (f32_l1 k W)=some r_) ?_ ?_
       ·refine sr (m2 (iI 0) (wt (wp_block (wp_loopG (fun g_ a w=>∃ bp aE an,∃ (m:Nat),∃ ao ap Y,g_=an.length∧a=fr 126 (updL bp [(1,pp (zz wi) 0),(2,pp (zz s) 0),(3,pp (zz c) 0),(4,iI (p:Int)),(5,pp (zz U) 0),(6,iI (m:Int))])∧KH.sub aB aE∧SR K aE wi w [] [.box (zz wi) (zz wi) #[sl A d c1] 24,.box (zz wi) (zz s) #[iI 0,iI 0,vN] 56,.box (zz wi) (zz c) #[iI ao,iI ap,.bool Y] 56,.box (zz wi) (zz U) (vF N x e y f G q O u S).toArray 38]∧e.drop m=an∧f32_l2 k p u (f32_l1 k W) an m ao ap Y=some r_) e.length ?_ ?_))))
        ·exact ⟨_,aB,e,0,aK,aL,aM,rfl,fR,kr,c2,List.drop_zero,h⟩
        ·rintro _ _ dW ⟨bp,aE,an,m,ao,ap,Y,rfl,rfl,ag,ah,aq,h⟩
         rcases an with _ | ⟨⟨bq,ar⟩,an⟩
         ·unfold f32_l2 at h
          exact wp_seq (sr (m1 (iI (m:Int)) (fd 1 Tyf38_1 rfl (l1 3 (sl x e y) ah Tya35 (lS e.length Tye35 (bcm (r:=false) rfl rfl (congrArg some (drop_nil_lt aq)) (m1 vN (o0 83 (o0 83 (o0 83 (o0 83 (o0 83 (m3 false vN rfl (wt (cndF rfl (wp_exit (thenX (thenX (blkX (thenN (⟨_,aE,ao,ap,Y,fR,ag,ah,h⟩)))))))))))))))))))))
         ·unfold f32_l2 at h
          refine wp_seq (sr (m1 (iI (m:Int)) (fd 1 Tyf38_1 rfl (l1 3 (sl x e y) ah Tya35 (lS e.length Tye35 (bcm (r:=true) rfl rfl (congrArg some (drop_cons_t aq)) (m1 vT (n0 83 (m1 (pp (zz c) 0) (n0 83 (nilc rfl (n0 83 (fd 2 Tyf56_2 rfl (n0 83 (l1 2 (.bool Y) ah Tya4 (n0 83 (uN Y (m3 true (.bool (!Y)) rfl (wt (cd h (fun aY h=>?_) (fun aY h=>?_)))))))))))))))))))))
          ·refine cT aY (wp_skip (thenN (wp_cut (fun a w=>∃ br aS aT aU aV,a=fr 126 (updL br [(1,pp (zz wi) 0),(2,pp (zz s) 0),(3,pp (zz c) 0),(4,iI (p:Int)),(5,pp (zz U) 0),(6,iI (m:Int))])∧KH.sub aE aS∧SR K aS wi w [] [.box (zz wi) (zz wi) #[sl A d c1] 24,.box (zz wi) (zz s) #[iI 0,iI 0,vN] 56,.box (zz wi) (zz c) #[iI aT,iI aU,.bool aV] 56,.box (zz wi) (zz U) (vF N x e y f G q O u S).toArray 38]∧f32_j5 k m aT aU aV (f32_l2 k p u (f32_l1 k W) an)=some r_) ?_ ?_)))
           ·refine wp_block (wp_region_lit (m1 (pp (zz c) 0) (fd 1 Tyf38_1 rfl (l1 3 (sl x e y) ah Tya35 (m1 (iI (m:Int)) ?_)))))
            obtain ⟨aZ,aF,dX,a1,dY,a2,c3⟩:=((mp bd ((z.sub.trans af).trans ag))).row.at_ (drop_cons_at aq)
            obtain ⟨rfl,c4⟩:=RDParam.open c3
            refine idxN (b:=aZ) (o:=aF) (i:=m) Tye35 Tys82 rfl a1 rfl (drop_cons_lt aq) (fd (aF + m * 2 + 0) Tyf82_0 rfl (ld1 (v:=.string bq) Tya9 rfl (ah.cell (kr.cell (a2 0 _ rfl))) ?_))
            obtain ⟨c5,c6,h⟩:=ob h
            refine cv ([.string bq]) Tyb34 ((f34_ok k) c6 (hG.mono ((((D.trans t).trans z.sub).trans af).trans ag)) c4 (pt ah)) ?_
            rintro _ a3 ⟨a4,rfl,ai⟩
            have au:=ca ai ah
            refine m1 (.bool c5) (cd h (fun B h=>?_) (fun B h=>?_))
            ·refine n1 100 B (fd 1 Tyf38_1 rfl (n1 100 B (l1 3 (sl x e y) au Tya35 (n1 100 B (m1 (iI (m:Int)) (n1 100 B (idxN (b:=aZ) (o:=aF) (i:=m) Tye35 Tys82 rfl a1 rfl (drop_cons_lt aq) (n1 100 B (fd (aF + m * 2 + 1) Tyf82_1 rfl (n1 100 B (ld1 (v:=iI ar) Tya3 rfl (au.cell (ai.sub.cell (a2 1 _ rfl))) (n1 100 B (c0 (decide (ar ≥ 1)) (m3 true (.bool (decide (ar ≥ 1))) (cg B) (m1 (.bool (decide (ar ≥ 1))) (cd h (fun C h=>?_) (fun C h=>?_)))))))))))))))))
             ·refine n1 109 C (fd 1 Tyf38_1 rfl (n1 109 C (l1 3 (sl x e y) au Tya35 (n1 109 C (m1 (iI (m:Int)) (n1 109 C (idxN (b:=aZ) (o:=aF) (i:=m) Tye35 Tys82 rfl a1 rfl (drop_cons_lt aq) (n1 109 C (fd (aF + m * 2 + 1) Tyf82_1 rfl (n1 109 C (ld1 (v:=iI ar) Tya3 rfl (au.cell (ai.sub.cell (a2 1 _ rfl))) (n1 109 C (c0 (decide (ar ≤ 6)) (m3 true (.bool (decide (ar ≤ 6))) (cg C) ?_))))))))))))))
              have bs:=p2013 au
              obtain ⟨⟨c7,c8,c9⟩,da,h⟩:=ob h
              refine cv ([pp (zz c) 0,.bool (decide (ar ≤ 6))]) Tyb59 ((f59_ok k) da (hG.mono (((((D.trans t).trans z.sub).trans af).trans ag).trans ai.sub)) (pt bs)) ?_
              rintro _ dZ ⟨db,rfl,bu⟩
              have dc:=ca bu bs
              exact wpList_nil (blkN (thenN (⟨_,db,c7,c8,c9,fR,(ai.sub.trans bu.sub),(dc.sel [1,2,0,3]),h⟩)))
             ·refine o1 109 C (o1 109 C (o1 109 C (o1 109 C (o1 109 C (o1 109 C (o1 109 C (m3 false vN (cg C) ?_)))))))
              have bv:=p2013 au
              obtain ⟨⟨dd,de,df⟩,dg,h⟩:=ob h
              refine cv ([pp (zz c) 0,vN]) Tyb59 ((f59_ok k) dg (hG.mono (((((D.trans t).trans z.sub).trans af).trans ag).trans ai.sub)) (pt bv)) ?_
              rintro _ d0 ⟨dh,rfl,bw⟩
              have di:=ca bw bv
              exact wpList_nil (blkN (thenN (⟨_,dh,dd,de,df,fR,(ai.sub.trans bw.sub),(di.sel [1,2,0,3]),h⟩)))
            ·refine o1 100 B (o1 100 B (o1 100 B (o1 100 B (o1 100 B (o1 100 B (o1 100 B (m3 false vN (cg B) (m1 vN (o0 109 (o0 109 (o0 109 (o0 109 (o0 109 (o0 109 (o0 109 (m3 false vN rfl ?_))))))))))))))))
             have bx:=p2013 au
             obtain ⟨⟨dj,dk,dl⟩,dm,h⟩:=ob h
             refine cv ([pp (zz c) 0,vN]) Tyb59 ((f59_ok k) dm (hG.mono (((((D.trans t).trans z.sub).trans af).trans ag).trans ai.sub)) (pt bx)) ?_
             rintro _ d1 ⟨dn,rfl,bz⟩
             have dp:=ca bz bx
             exact wpList_nil (blkN (thenN (⟨_,dn,dj,dk,dl,fR,(ai.sub.trans bz.sub),(dp.sel [1,2,0,3]),h⟩)))
           ·rintro _ d2 ⟨br,aS,aT,aU,aV,rfl,dq,dr,h⟩
            unfold f32_j5 at h
            exact wp_region_lit (m1 (iI (m:Int)) (bar (r:=((m + 1:Nat):Int)) rfl rfl (inc_ok (le_big (((mp bd ((z.sub.trans af).trans ag))).len) (by decide) (drop_cons_lt aq))) (m2 (iI ((m + 1:Nat):Int)) (wt (⟨_,Nat.lt_succ_self _,_,aS,an,m + 1,aT,aU,aV,rfl,fR,(ag.trans dq),dr,drop_cons_next aq,h⟩)))))
          ·exact cF aY (wp_exit (thenX (thenX (blkX (thenN (⟨_,aE,ao,ap,Y,fR,ag,ah,h⟩))))))
       ·rintro _ ds ⟨bo,aN,aP,aQ,aR,rfl,a5,bA,h⟩
        unfold f32_j4 at h
        refine wp_region_lit (m1 (pp (zz c) 0) (fd 5 Tyf38_5 rfl (l1 3 (sl O u S) bA Tya36 ?_)))
        have bB:=p2013 bA
        obtain ⟨⟨dt,du,dv⟩,dw,h⟩:=ob h
        refine cv ([pp (zz c) 0,sl O u S,iI 1]) Tyb61 ((f61_ok k) dw (hG.mono ((((D.trans t).trans z.sub).trans af).trans a5)) (ms b3 ((z.sub.trans af).trans a5)) (pt bB)) ?_
        rintro _ d3 ⟨dx,rfl,bC⟩
        have dy:=ca bC bB
        exact wpList_nil (blkN (thenN (wp_region_lit (m1 (iI (p:Int)) (bar (r:=((p + 1:Nat):Int)) rfl rfl (inc_ok (le_big (((mf a6 (D.trans t))).len) (by decide) (drop_cons_lt aA))) (m2 (iI ((p + 1:Nat):Int)) (wt (⟨_,Nat.lt_succ_self _,_,dx,W,p + 1,dt,du,dv,rfl,fR,((((t.trans z.sub).trans af).trans a5).trans bC.sub),(dy.sel [1,2,0]),drop_cons_next aA,h⟩))))))))
     ·exact cF aW (wp_exit (thenX (thenX (blkX (thenN (⟨_,ax,ay,az,Z,fR,t,(am.sel [1,2]),h⟩))))))
  ·rintro _ d4 ⟨ba,aJ,aj,ak,al,rfl,d5,bD,h⟩
   unfold f32_j2 at h
   refine sr (m1 (pp (zz c) 0) (nilc rfl (lN 1 ([iI aj,iI ak,.bool al]) bD Tya56 Tys56 (sI 0 (.agg #[iI aj,iI ak,.bool al]) #[iI aj,iI ak,.bool al] bD Tys56 rfl rfl (fun d6 bE=>(wt (wp_ret ?_)))))))
   cases (oi h).trans hr_
   exact retA1 rfl (resN (i:=0) (l:=[iI aj,iI ak,.bool al]) bE rfl Tya56 Tys56 rfl rfl rfl) ⟨aJ,[iI aj,iI ak,.bool al],rfl,(bE.sel []),.mk⟩
theorem f32_ok (k:Nat):f32_spec (f32 k):=f32_b_ok k
theorem f20_b_ok (k:Nat):f20_spec (f20_b k):=by
 unfold f20_spec
 intro K wi e s t h hG f g
 obtain ⟨r_,hr_,h⟩:=rz h
 obtain ⟨b⟩:=e
 obtain ⟨c,c1,rfl,i⟩:=RDProgram.open f
 refine enter Tryz.func20 rfl (n:=7) rfl ?_
 unfold f20_b at h
 refine sr (bxoC (cs:=#[sl c b c1]) g rfl rfl (fun x d=>(m2 vN (wt (sr (lN 0 ([sl c b c1]) d Tya24 Tys24 ?_))))))
 obtain ⟨⟨j,l,a⟩,m,h⟩:=ob h
 refine cv ([.agg #[sl c b c1]]) Tyb32 ((f32_ok k) m (hG.mono kr) (RDProgram.intro i) (pt d)) ?_
 rintro _ y ⟨o,z,rfl,p,q⟩
 have r:=ca p d
 obtain rfl:=RDSize.open q
 refine fva (v:=.agg #[iI j,iI l,.bool a]) (u:=.bool a) rfl (fun w=>by kernel_rfl) (uN a (m2 (.bool (!a)) (wt (wp_ret ?_))))
 cases (oi h).trans hr_
 exact retA1 rfl (resT rfl) ⟨o,rfl,(r.sel [])⟩
theorem f20_ok (k:Nat):f20_spec (f20 k):=f20_b_ok k
theorem f45_b_ok (k:Nat):f45_spec (f45_b k):=by
 unfold f45_spec
 intro K wi d g j l C h hG q D x
 obtain ⟨r_,hr_,h⟩:=rz h
 refine enter Tryz.func45 rfl (n:=20) rfl ?_
 unfold f45_b at h
 refine sr (m2 (iI 0) (wt (wp_seq (sr (m2 (iI 0) (wt (wp_block (wp_loopG (fun g_ a w=>∃ s e,∃ (c:Nat),g_=e.length∧a=fr 20 (updL s [(0,sl g d j),(1,.string l),(5,iI (c:Int))])∧SR K K wi w [] []∧d.drop c=e∧f45_l1 k l e c=some r_) d.length ?_ ?_))))))))
 ·exact ⟨_,d,0,rfl,fR,x,List.drop_zero,h⟩
 ·rintro _ _ G ⟨s,e,c,rfl,rfl,m,f,h⟩
  rcases e with _ | ⟨⟨t,I,J,N,O,S⟩,e⟩
  ·unfold f45_l1 at h
   refine wp_seq (sr (m1 (iI (c:Int)) (m1 (sl g d j) (lS d.length Tye22 (bcm (r:=false) rfl rfl (congrArg some (drop_nil_lt f)) (wt (cndF rfl (wp_exit (thenX (thenX (blkX (thenN (sr (m2 (iI (-1)) (wt (wp_ret ?_))))))))))))))))
   cases (oi h).trans hr_
   exact retA1 rfl (resT rfl) ⟨K,rfl,m⟩
  ·unfold f45_l1 at h
   refine wp_seq (sr (m1 (iI (c:Int)) (m1 (sl g d j) (lS d.length Tye22 (bcm (r:=true) rfl rfl (congrArg some (drop_cons_t f)) (wt (cndT rfl (wp_skip (thenN (wp_seq (wp_block (sr (m1 (sl g d j) (m1 (iI (c:Int)) ?_))))))))))))))
   obtain ⟨y,u,U,z,V,A,B⟩:=(q).row.at_ (drop_cons_at f)
   obtain ⟨W,X,Y,Z,rfl,ab,ac,ad⟩:=RDFunc.open B
   refine idxN (b:=y) (o:=u) (i:=c) Tye22 Tys38 rfl z rfl (drop_cons_lt f) (fd (u + c * 6 + 0) Tyf38_0 rfl (ld1 (v:=.string t) Tya9 rfl (m.cell (kr.cell (A 0 _ rfl))) (m1 (.string l) (bsc (r:=(seq t l)) rfl rfl rfl (wt (cd h (fun p h=>?_) (fun p h=>?_)))))))
   ·refine cT p (sr (m1 (iI (c:Int)) (m2 (iI (c:Int)) (wt (wp_ret (blkR (thenR (thenR (blkR (thenR ?_))))))))))
    cases (oi h).trans hr_
    exact retA1 rfl (resT rfl) ⟨K,rfl,m⟩
   ·exact cF p (wp_skip (blkN (thenN (wp_region_lit (m1 (iI (c:Int)) (bar (r:=((c + 1:Nat):Int)) rfl rfl (inc_ok (le_big ((q).len) (by decide) (drop_cons_lt f))) (m2 (iI ((c + 1:Nat):Int)) (wt (⟨_,Nat.lt_succ_self _,_,e,c + 1,rfl,fR,m,drop_cons_next f,h⟩)))))))))
theorem f45_ok (k:Nat):f45_spec (f45 k):=f45_b_ok k
theorem f106_b_ok (k:Nat):f106_spec (f106_b k):=by
 unfold f106_spec
 intro K wi g bs br I x y J N z A O S U V B C l m p D d f j G W X t a3 a4 a5 a6 a7 a8 a9 ba bb bd be bf h hG ah ai aj ak ab al ac ad hbr bg aq
 obtain ⟨r_,hr_,h⟩:=rz h
 refine enter Tryz.func106 rfl (n:=37) rfl ?_
 unfold f106_b at h
 refine sr (m2 (iI 0) (wt (wp_seq (sr (m2 (iI 0) (wt (wp_block (wp_loopG (fun g_ a w=>∃ am q,∃ (e:Nat),g_=q.length∧a=fr 37 (updL am [(0,pp g 0),(1,.string t),(5,iI (e:Int))])∧SR K K wi w [.box bs g #[sl x I y,.string J,sl z N A,iI O,.bool S,iI U,sl B V C,sl m l p,sl f d j,iI W,iI X] 78,.row br (sl m l p) 9 1 l.length D,.row br (sl f d j) 3 1 d.length G] [.box bs g #[sl x I y,.string J,sl z N A,iI O,.bool S,iI U,sl B V C,sl m l p,sl f d j,iI W,iI X] 78,.row br (sl m l p) 9 1 l.length D,.row br (sl f d j) 3 1 d.length G]∧d.drop e=q∧f106_l1 k I J N O S U V l d W X t q e=some r_) d.length ?_ ?_))))))))
 ·exact ⟨_,d,0,rfl,fR,aq,List.drop_zero,h⟩
 ·rintro _ _ bh ⟨am,q,e,rfl,rfl,Y,s,h⟩
  rcases q with _ | ⟨u,q⟩
  ·unfold f106_l1 at h
   refine wp_seq (sr (m1 (iI (e:Int)) (m1 (pp g 0) (nilc rfl (fd 8 Tyf78_3 rfl (l1 0 (sl f d j) Y Tya67 (lS d.length Tye67 (bcm (r:=false) rfl rfl (congrArg some (drop_nil_lt s)) (wt (cndF rfl (wp_exit (thenX (thenX (blkX (thenN (sr (m2 (iI (-1)) (wt (wp_ret ?_)))))))))))))))))))
   have e_:=(Option.some.inj h).trans hr_
   obtain ⟨ar,au⟩:=Prod.mk.inj e_
   obtain ⟨av,aw,ax,ay,az,aA⟩:=Dlook.mk.inj ar
   subst av
   obtain ⟨aB,aE,aF,aG,aH,aI⟩:=DFunc.mk.inj aw
   subst aB
   subst aE
   subst aF
   subst aG
   subst aH
   subst aI
   subst ax
   subst ay
   subst az
   subst aA
   subst au
   exact retA1 rfl (resT rfl) ⟨K,x,y,z,A,B,C,m,p,D,f,j,G,rfl,Y,ah,ai,aj,ak,ab,al,ac,ad⟩
  ·unfold f106_l1 at h
   refine wp_seq (sr (m1 (iI (e:Int)) (m1 (pp g 0) (nilc rfl (fd 8 Tyf78_3 rfl (l1 0 (sl f d j) Y Tya67 (lS d.length Tye67 (bcm (r:=true) rfl rfl (congrArg some (drop_cons_t s)) (wt (cndT rfl (wp_skip (thenN (wp_seq (wp_block (wp_seq (have c:=Y.drew;(regAny (E:=[]) (F:=FW K [.box bs g #[sl x I y,.string J,sl z N A,iI O,.bool S,iI U,sl B V C,sl m l p,sl f d j,iI W,iI X] 78,.row br (sl m l p) 9 1 l.length D,.row br (sl f d j) 3 1 d.length G]) (L:=(lb 15 0)) ymx rfl rfl (tk 0 (pp g 0) (lb 15 1) rfl (fun w=>mv_r (v:=pp g 0) rfl) (heldF (fq [0,1,2] c)) (tk 1 (pp g 0) (lb 15 3) rfl (fun w=>nilc_r rfl) (heldF (fq [0,1,2] c)) (tk 2 (pp g 7) (lb 15 7) rfl (fun w=>fld_r (o':=7) Tyf78_2 rfl rfl) (heldF (fq [0,1,2] c)) (tf 3 (sl m l p) ([]) (lb 15 15) rfl (fq [0,1,2] c) (fun w hF=>lb1_r (i:=0) (v:=sl m l p) hF rfl Tya46 rfl rfl) (tk 4 (pp g 0) (lb 15 31) rfl (fun w=>mv_r (v:=pp g 0) rfl) (heldF (fq [0,1,2] c)) (tk 5 (pp g 0) (lb 15 63) rfl (fun w=>nilc_r rfl) (heldF (fq [0,1,2] c)) (tk 6 (pp g 8) (lb 15 127) rfl (fun w=>fld_r (o':=8) Tyf78_3 rfl rfl) (heldF (fq [0,1,2] c)) (tf 7 (sl f d j) ([]) (lb 15 255) rfl (fq [0,1,2] c) (fun w hF=>lb1_r (i:=0) (v:=sl f d j) hF rfl Tya67 rfl rfl) (tk 8 (iI (e:Int)) (lb 15 511) rfl (fun w=>mv_r (v:=iI (e:Int)) rfl) (heldF (fq [0,1,2] c)) ?_))))))))))))))))))))))))))
   obtain ⟨ae,bi,an,bj,aJ,ao⟩:=row_at (c.entAt (i:=2) rfl) ac (drop_cons_at s)
   obtain rfl:=aJ
   refine tk 9 (pp ae (0 + e * 1)) (lb 15 1023) rfl (fun w=>idxN_r (b:=ae) (o:=0) (i:=e) Tye67 Tys3 rfl an rfl (drop_cons_lt s)) (heldF (fq [0,1,2] c)) (tf 10 (iI u) ([]) (lb 15 2047) rfl (fq [0,1,2] c) (fun w hF=>ld1_r (v:=iI u) Tya3 rfl (ao _ (hF.entAt (i:=2) rfl) 0 _ rfl)) ?_)
   obtain ⟨Z,af,h⟩:=ob h
   obtain ⟨ap,bk,aK,bm,aL,aM⟩:=row_at (c.entAt (i:=1) rfl) ab (idxO_at af).1
   obtain ⟨rfl,bn⟩:=aL
   refine tk 11 (pp ap (0 + u.toNat * 1)) (lb 15 4095) rfl (fun w=>idxG_r (b:=ap) (o:=0) (i:=u) Tye46 Tys9 rfl aK rfl (idxO_at af).2.1 (idxO_at af).2.2) (heldF (fq [0,1,2] c)) (tf 12 (.string Z) ([]) (lb 15 8191) rfl (fq [0,1,2] c) (fun w hF=>ld1_r (v:=.string Z) Tya9 rfl (aM _ (hF.entAt (i:=1) rfl) 0 _ rfl)) (tk 13 (.string t) (lb 15 16383) rfl (fun w=>mv_r (v:=.string t) rfl) (heldF (fq [0,1,2] c)) (tk 14 (.bool (seq Z t)) (lb 15 32767) rfl (fun w=>bsc_r (r:=(seq Z t)) rfl rfl rfl) (heldF (fq [0,1,2] c)) (aD (thenN (cd h (fun ag h=>?_) (fun ag h=>?_)))))))
   ·refine cT ag (sr (m1 (pp g 0) (nilc rfl (fd 8 Tyf78_3 rfl (l1 0 (sl f d j) c Tya67 (m1 (iI (e:Int)) (idxN (b:=ae) (o:=0) (i:=e) Tye67 Tys3 rfl an rfl (drop_cons_lt s) (ld1 (v:=iI u) Tya3 rfl (ao _ (c.entAt (i:=2) rfl) 0 _ rfl) (m2 (iI u) (wt (wp_ret (blkR (thenR (thenR (blkR (thenR ?_))))))))))))))))
    have e_:=(Option.some.inj h).trans hr_
    obtain ⟨aN,aP⟩:=Prod.mk.inj e_
    obtain ⟨aQ,aR,aS,aT,aU,aV⟩:=Dlook.mk.inj aN
    subst aQ
    obtain ⟨aW,aX,aY,aZ,a0,a2⟩:=DFunc.mk.inj aR
    subst aW
    subst aX
    subst aY
    subst aZ
    subst a0
    subst a2
    subst aS
    subst aT
    subst aU
    subst aV
    subst aP
    exact retA1 rfl (resT rfl) ⟨K,x,y,z,A,B,C,m,p,D,f,j,G,rfl,c,ah,ai,aj,ak,ab,al,ac,ad⟩
   ·exact cF ag (wp_skip (blkN (thenN (wp_region_lit (m1 (iI (e:Int)) (bar (r:=((e + 1:Nat):Int)) rfl rfl (inc_ok (le_big (ad) (by decide) (drop_cons_lt s))) (m2 (iI ((e + 1:Nat):Int)) (wt (⟨_,Nat.lt_succ_self _,_,q,e + 1,rfl,fR,c,drop_cons_next s,h⟩)))))))))
theorem f106_ok (k:Nat):f106_spec (f106 k):=f106_b_ok k
theorem f85_b_ok (k:Nat):f85_spec (f85_b k):=by
 unfold f85_spec
 intro K wi g bs br u m o v x p q y z A B r s c e f C d i j D G l I t aH aI aJ aK aL aM aN aP aQ aR aS h hG S U V W X Y Z ab hbr J
 obtain ⟨r_,hr_,h⟩:=rz h
 refine enter Tryz.func85 rfl (n:=19) rfl ?_
 unfold f85_b at h
 refine wp_cut (fun a w=>∃ ac N,a=fr 19 (updL ac [(0,pp g 0),(2,iI t),(14,.bool N)])∧SR K K wi w [.box bs g #[sl m u o,.string v,sl p x q,iI y,.bool z,iI A,sl r B s,sl e c f,sl i d j,iI G,iI l] 78,.row br (sl e c f) 9 1 c.length C,.row br (sl i d j) 3 1 d.length D] [.box bs g #[sl m u o,.string v,sl p x q,iI y,.bool z,iI A,sl r B s,sl e c f,sl i d j,iI G,iI l] 78,.row br (sl e c f) 9 1 c.length C,.row br (sl i d j) 3 1 d.length D]∧f85_j1 k u v x y z A B c d G l t N=some r_) ?_ ?_
 ·refine wp_region_lit (m1 (.bool I) (uN I (m1 (.bool (!I)) (cd h (fun b h=>?_) (fun b h=>?_)))))
  ·exact n1 8 b (m1 (pp g 0) (n1 8 b (nilc rfl (n1 8 b (fd 10 Tyf78_5 rfl (n1 8 b (l1 0 (iI l) J Tya3 (n1 8 b (c0 (l == 0) (m3 true (.bool (l == 0)) (cg b) (wt (⟨_,(l == 0),fR,J,h⟩))))))))))))
  ·exact o1 8 b (o1 8 b (o1 8 b (o1 8 b (o1 8 b (m3 false vN (cg b) (wt (⟨_,false,fR,J,h⟩)))))))
 ·rintro _ aT ⟨ac,N,rfl,ad,h⟩
  unfold f85_j1 at h
  refine cd h (fun O h=>?_) (fun O h=>?_)
  ·refine cT O (wp_region_lit (m1 (pp g 0) (m1 (iI t) (nilc rfl (fd 10 Tyf78_5 rfl (sI 0 (iI t) #[sl m u o,.string v,sl p x q,iI y,.bool z,iI A,sl r B s,sl e c f,sl i d j,iI G,iI t] ad Tys3 rfl rfl (fun aU ae=>(wpList_nil ?_))))))))
   have e_:=(Option.some.inj h).trans hr_
   obtain ⟨af,ag,ah,ai,aj,ak⟩:=Dlook.mk.inj e_
   subst af
   obtain ⟨al,am,an,ao,ap,aq⟩:=DFunc.mk.inj ag
   subst al
   subst am
   subst an
   subst ao
   subst ap
   subst aq
   subst ah
   subst ai
   subst aj
   subst ak
   exact end0 rfl ⟨K,m,o,p,q,r,s,e,f,C,i,j,D,rfl,ae,S,U,V,W,X,Y,Z,ab⟩
  ·refine cF O (wp_skip ?_)
   have e_:=(Option.some.inj h).trans hr_
   obtain ⟨ar,au,av,aw,ax,ay⟩:=Dlook.mk.inj e_
   subst ar
   obtain ⟨az,aA,aB,aE,aF,aG⟩:=DFunc.mk.inj au
   subst az
   subst aA
   subst aB
   subst aE
   subst aF
   subst aG
   subst av
   subst aw
   subst ax
   subst ay
   exact end0 rfl ⟨K,m,o,p,q,r,s,e,f,C,i,j,D,rfl,ad,S,U,V,W,X,Y,Z,ab⟩
theorem f85_ok (k:Nat):f85_spec (f85 k):=f85_b_ok k
theorem f83_b_ok (k:Nat):f83_spec (f83_b k):=by
 unfold f83_spec
 intro K wi g bs br ag ah ai aj ak al am an ao ap aq ar au q V W av r X Y aw ax ay c bH bI bJ bK bL bM bN bO bP bQ bR bS h hG aJ aK aL aM aN aP aQ aR hbr az ad
 obtain ⟨r_,hr_,h⟩:=rz h
 refine enter Tryz.func83 rfl (n:=42) rfl ?_
 unfold f83_b at h
 refine sr (m2 (iI 0) (wt (sr (m1 (pp g 0) (m1 (pp g 0) (m1 (.string c) ?_))))))
 obtain ⟨⟨⟨bT,⟨bU,bV,bW,bX,bY,bZ⟩,b0,b1,b2,b3⟩,aA⟩,aS,h⟩:=ob h
 refine cv ([pp g 0,.string c]) Tyb106 ((f106_ok k) aS (hG.mono kr) aJ aK aL aM aN aP aQ aR (Nat.le_trans hbr ad.size) az (pt ad)) ?_
 rintro _ b4 ⟨b5,b6,b7,b8,b9,cb,cc,ce,cf,ch,ci,cj,ck,rfl,aB,aT,aU,aV,aW,aX,aY,aZ,a0⟩
 have ae:=ca aB ad
 refine c0 (decide (aA < 0)) ?_
 obtain ⟨⟨C,⟨D,G,I,J,N,O⟩,a,b,S,U⟩,a2,h⟩:=ob h
 refine cv ([pp g 0,.bool (decide (aA < 0)),iI 21]) Tyb85 ((f85_ok k) a2 (hG.mono aB.sub) aT aU aV aW aX aY aZ a0 (Nat.le_trans hbr ae.size) (pt ae)) ?_
 rintro _ cl ⟨Z,s,t,u,x,y,z,m,o,a3,d,f,aE,rfl,a4,a5,a6,a7,a8,a9,cm,ba,cn⟩
 have aF:=ca a4 ae
 refine wt (sr (m1 (pp g 0) (nilc rfl (fd 7 Tyf78_2 rfl (l1 0 (sl m a o) aF Tya46 (lS a.length Tye46 (m2 (iI (a.length:Int)) (wt (wp_seq (have l:=aF.drew;(regAny (E:=[]) (F:=FW Z [.box bs g #[sl s C t,.string D,sl u G x,iI I,.bool J,iI N,sl y O z,sl m a o,sl d b f,iI S,iI U] 78,.row br (sl m a o) 9 1 a.length a3,.row br (sl d b f) 3 1 b.length aE]) (L:=(lb 10 0)) ymx rfl rfl (tk 0 (pp g 0) (lb 10 1) rfl (fun w=>mv_r (v:=pp g 0) rfl) (heldF (fq [0,1,2] l)) (tk 1 (pp g 0) (lb 10 3) rfl (fun w=>nilc_r rfl) (heldF (fq [0,1,2] l)) (tk 2 (pp g 7) (lb 10 7) rfl (fun w=>fld_r (o':=7) Tyf78_2 rfl rfl) (heldF (fq [0,1,2] l)) (tf 3 (sl m a o) ([]) (lb 10 15) rfl (fq [0,1,2] l) (fun w hF=>lb1_r (i:=0) (v:=sl m a o) hF rfl Tya46 rfl rfl) (tk 4 (pp g 0) (lb 10 31) rfl (fun w=>mv_r (v:=pp g 0) rfl) (heldF (fq [0,1,2] l)) (tk 5 (pp g 0) (lb 10 63) rfl (fun w=>nilc_r rfl) (heldF (fq [0,1,2] l)) (tk 6 (pp g 8) (lb 10 127) rfl (fun w=>fld_r (o':=8) Tyf78_3 rfl rfl) (heldF (fq [0,1,2] l)) (tf 7 (sl d b f) ([]) (lb 10 255) rfl (fq [0,1,2] l) (fun w hF=>lb1_r (i:=0) (v:=sl d b f) hF rfl Tya67 rfl rfl) (tk 8 (sl m a o) (lb 10 511) rfl (fun w=>asg_r (v:=sl m a o) rfl) (heldF (fq [0,1,2] l)) (tk 9 (sl d b f) (lb 10 1023) rfl (fun w=>asg_r (v:=sl d b f) rfl) (heldF (fq [0,1,2] l)) (aD (thenN (sr (m1 (pp g 0) (m1 (pp g 0) (m1 (sl m a o) (m1 (.string c) (bsl (e:=9) (cells:=#[.string c]) (vs:=[(0,.string c)]) l rfl (buildSl_one Tye46 Tys9 Tyz9 rfl (by decide) (by decide) rfl) (fun co bb=>?_))))))))))))))))))))))))))))))
 obtain ⟨aG,h⟩:=of_guard h
 refine apR (R:=RStr) (p:=c) (i:=2) (j:=0) bb rfl rfl Tye46 Tyi9 rfl (by decide) rfl rfl a9 ⟨rfl,az⟩ rfl rfl hbr aG (by decide) (fun A B af bd be bf=>?_)
 have bg:=p123 be
 refine m1 (sl d b f) (m1 (iI (a.length:Int)) (bsl (e:=3) (cells:=#[iI (a.length:Int)]) (vs:=[(0,iI (a.length:Int))]) bg rfl (buildSl_one Tye67 Tys3 Tyz3 rfl (by decide) (by decide) rfl) (fun cq bh=>?_)))
 obtain ⟨aH,h⟩:=of_guard h
 refine apR (R:=(RInt .i64)) (p:=(a.length:Int)) (i:=3) (j:=0) bh rfl rfl Tye67 Tyi3 rfl (by decide) rfl rfl ba rfl rfl rfl hbr aH (by decide) (fun ab ac aI bi bj bk=>?_)
 have bm:=p123 bj
 refine nilc rfl (fd 7 Tyf78_2 rfl (sI 0 (.slice A (a ++ [c]).length B) #[sl s C t,.string D,sl u G x,iI I,.bool J,iI N,sl y O z,.slice A (a ++ [c]).length B,sl d b f,iI S,iI U] bm Tys46 rfl rfl (fun cr bn=>(nilc rfl (fd 8 Tyf78_3 rfl (sI 0 (.slice ab (b ++ [(a.length:Int)]).length ac) #[sl s C t,.string D,sl u G x,iI I,.bool J,iI N,sl y O z,.slice A (a ++ [c]).length B,.slice ab (b ++ [(a.length:Int)]).length ac,iI S,iI U] bn Tys67 rfl rfl (fun cs bo=>(wt (sr (m1 (iI (a.length:Int)) (m2 (iI (a.length:Int)) (wt (wp_ret ?_)))))))))))))
 have e_:=(Option.some.inj h).trans hr_
 obtain ⟨bp,bq⟩:=Prod.mk.inj e_
 obtain ⟨bu,bv,bw,bx,bz,bA⟩:=Dlook.mk.inj bp
 subst bu
 obtain ⟨bB,bC,bD,bE,bF,bG⟩:=DFunc.mk.inj bv
 subst bB
 subst bC
 subst bD
 subst bE
 subst bF
 subst bG
 subst bw
 subst bx
 subst bz
 subst bA
 subst bq
 exact retA1 rfl (resT rfl) ⟨Z,s,t,u,x,y,z,A,B,af,ab,ac,aI,rfl,bo,a5,a6,a7,a8,bf,(app_bound aG),bk,(app_bound aH)⟩
theorem f83_ok (k:Nat):f83_spec (f83 k):=f83_b_ok k
theorem f124_b_ok (k:Nat) (F:Fam124) (IH124:f124_spec F.f124) (IH141:f141_spec F.f141):f124_spec (f124_b k F):=by
 unfold f124_spec
 intro K wi g bs br aq ar au av aw ax ay az aA aB aE aF aG m I J aH q N O aI aJ aK l U V cD cG cH cI cJ cK cL cM cN cO cP cQ h hG bN bO bP bQ bR bS bT bU hbr a2 bV
 obtain ⟨r_,hr_,h⟩:=rz h
 refine enter Tryz.func124 rfl (n:=23) rfl ?_
 unfold f124_b at h
 refine sr (m2 nS (wt (sr (m2 nS (wt (wp_seq (sr (m2 (iI 0) (wt (wp_block ?_))))))))))
 have bW:=bV.row_ (zz wi) 107 5
 refine wp_loopG (fun g_ a w=>∃ a3 f s,∃ (d:Nat),∃ W X Y Z ab ac ad aL aM aN ae af ag t ah ai aj u ak al am aP aQ c x y aR,g_=s.length∧a=fr 23 (updL a3 [(0,pp g 0),(1,sl U l V),(5,sl x c y),(6,iI (d:Int))])∧KH.sub K f∧SR K f wi w [.box bs g #[sl ar aq au,.string av,sl ax aw ay,iI az,.bool aA,iI aB,sl aF aE aG,sl I m J,sl N q O,iI aJ,iI aK] 78,.row br (sl I m J) 9 1 m.length aH,.row br (sl N q O) 3 1 q.length aI] [.box bs g #[sl X W Y,.string Z,sl ac ab ad,iI aL,.bool aM,iI aN,sl af ae ag,sl ah t ai,sl ak u al,iI aP,iI aQ] 78,.row br (sl ah t ai) 9 1 t.length aj,.row br (sl ak u al) 3 1 u.length am,.row (zz wi) (sl x c y) 107 5 c.length aR]∧l.drop d=s∧tF f X Y W∧Z.size ≤ mB∧tP f ac ad ab∧tS f af ag ae∧Reps RStr 1 t aj∧t.length * 16 ≤ mB∧Reps (RInt .i64) 1 u am∧u.length * 8 ≤ mB∧Reps (RDExpr f) 5 c aR∧c.length * 64 ≤ mB∧f124_l1 k F s d W Z ab aL aM aN ae t u aP aQ c=some r_) l.length ?_ ?_
 ·exact ⟨_,K,l,0,aq,ar,au,av,aw,ax,ay,az,aA,aB,aE,aF,aG,m,I,J,aH,q,N,O,aI,aJ,aK,([]:LE),none,0,[],rfl,fR,kr,(bW.sel [1,2,3,0]),List.drop_zero,bN,bO,bP,bQ,bR,bS,bT,bU,(reps0 (R:=(RDExpr K)) (size:=5)),(by simp),h⟩
 ·rintro _ _ cR ⟨a3,f,s,d,W,X,Y,Z,ab,ac,ad,aL,aM,aN,ae,af,ag,t,ah,ai,aj,u,ak,al,am,aP,aQ,c,x,y,aR,rfl,rfl,an,S,G,a4,a5,a6,a7,a8,a9,ba,bb,bd,bX,h⟩
  rcases s with _ | ⟨⟨be,bf,bg,bh,bi⟩,s⟩
  ·unfold f124_l1 at h
   refine wp_seq (sr (m1 (iI (d:Int)) (m1 (sl U l V) (lS l.length Tye39 (bcm (r:=false) rfl rfl (congrArg some (drop_nil_lt G)) (wt (cndF rfl (wp_exit (thenX (thenX (blkX (thenN (sr (m1 (sl x c y) (m2 (sl x c y) (wt (wp_ret ?_)))))))))))))))))
   obtain ⟨bY,bZ,aS,b0⟩:=shutI (i:=3) (bytes:=64) (R:=fun K=>(RDExpr K)) S rfl (Nat.le_refl _) bd bX (fun hs=>(fun _ _ h=>RDExpr.mono hs h))
   have e_:=(Option.some.inj h).trans hr_
   obtain ⟨b1,b2⟩:=Prod.mk.inj e_
   obtain ⟨b3,b4,b5,b6,b7,b8⟩:=Dlook.mk.inj b1
   subst b3
   obtain ⟨b9,cb,cc,ce,cf,ch⟩:=DFunc.mk.inj b4
   subst b9
   subst cb
   subst cc
   subst ce
   subst cf
   subst ch
   subst b5
   subst b6
   subst b7
   subst b8
   subst b2
   exact retA1 rfl (resT rfl) ⟨bY,X,Y,ac,ad,af,ag,ah,ai,aj,ak,al,am,x,y,rfl,bZ,(mf a4 aS),a5,(mp a6 aS),(ms a7 aS),(a8.mono (fun _ _ h=>h)),a9,(ba.mono (fun _ _ h=>h)),bb,b0⟩
  ·unfold f124_l1 at h
   refine wp_seq (sr (m1 (iI (d:Int)) (m1 (sl U l V) (lS l.length Tye39 (bcm (r:=true) rfl rfl (congrArg some (drop_cons_t G)) (wt (cndT rfl (wp_skip (thenN (wp_seq (wp_block (wp_region_lit (m1 (sl x c y) (m1 (pp g 0) (m1 (sl U l V) (m1 (iI (d:Int)) ?_))))))))))))))))
   obtain ⟨ci,cj,cS,ck,cU,cl,bj⟩:=((me a2 an)).row.at_ (drop_cons_at G)
   obtain ⟨bk,bm,rfl,cV,cW⟩:=RDExpr.open bj
   refine idxN (b:=ci) (o:=cj) (i:=d) Tye39 Tys107 rfl ck rfl (drop_cons_lt G) (lD (vE be bf bg bh bk bi bm) Tya107 Tys107 rfl (fun j v hj=>S.cell (kr.cell (cl j v hj))) ?_)
   obtain ⟨⟨⟨bn,⟨bo,bp,bq,bu,bv,bw⟩,ao,ap,bx,bz⟩,⟨z,A,B,C,D⟩⟩,cm,h⟩:=ob h
   refine cv ([pp g 0,.agg (vE be bf bg bh bk bi bm).toArray]) Tyb141 (IH141 cm (hG.mono an) a4 a5 a6 a7 a8 a9 ba bb (Nat.le_trans hbr S.size) bj (pt S)) ?_
   rintro _ cX ⟨aT,bA,bB,bC,bD,bE,bF,aU,aV,bG,aW,aX,bH,cY,rfl,aY,cn,co,cq,cr,cs,ct,cu,cw,bI⟩
   have cx:=ca aY S
   obtain ⟨bJ,bK,rfl,cZ,c2⟩:=RDExpr.open bI
   refine bsl (e:=107) (cells:=(vE z A B C bJ D bK).toArray) (vs:=[(0,.agg (vE z A B C bJ D bK).toArray)]) cx rfl (buildSl_one Tye39 Tys107 Tyz107 rfl (by decide) (by decide) rfl) (fun c3 cy=>?_)
   obtain ⟨bL,h⟩:=of_guard h
   refine apR (R:=(RDExpr aT)) (p:=(DExpr.mk z A B C D)) (i:=4) (j:=0) cy rfl rfl Tye39 Tyi107 rfl (by decide) rfl rfl (bd.mono (fun _ _ h=>RDExpr.mono aY.sub h)) bI rfl rfl (Nat.le_refl _) bL (by decide) (fun aZ a0 bM cz cA cB=>?_)
   have cC:=p1234 cA
   exact m2 (.slice aZ (c ++ [(DExpr.mk z A B C D)]).length a0) (wpList_nil (blkN (thenN (wp_region_lit (m1 (iI (d:Int)) (bar (r:=((d + 1:Nat):Int)) rfl rfl (inc_ok (le_big (((me a2 an)).len) (by decide) (drop_cons_lt G))) (m2 (iI ((d + 1:Nat):Int)) (wt (⟨_,Nat.lt_succ_self _,_,aT,s,d + 1,bn,bA,bB,bo,bp,bC,bD,bq,bu,bv,bw,bE,bF,ao,aU,aV,bG,ap,aW,aX,bH,bx,bz,(c ++ [(DExpr.mk z A B C D)]),aZ,a0,bM,rfl,fR,(an.trans aY.sub),cC,drop_cons_next G,cn,co,cq,cr,cs,ct,cu,cw,cB,(app_bound bL),h⟩)))))))))
theorem f141_b_ok (k:Nat) (F:Fam124) (IH124:f124_spec F.f124) (IH141:f141_spec F.f141):f141_spec (f141_b k F):=by
 unfold f141_spec
 intro K wi g bs br C D G I J N O S U V W X Y d q r Z e s t ab ac ad a2 cQ cR cS cU cV cW cX cY cZ c3 c4 c5 c6 h hG aK aL aM aN aP aQ aR aS hbr a3 a4
 obtain ⟨r_,hr_,h⟩:=rz h
 obtain ⟨b,f,c,aG,u⟩:=a2
 obtain ⟨v,x,rfl,aT,a5⟩:=RDExpr.open a3
 refine enter Tryz.func141 rfl (n:=24) rfl ?_
 unfold f141_b at h
 refine sr (bxoC (cs:=(vE b f c aG v u x).toArray) a4 rfl rfl (fun an a6=>(aC zE.toArray a6 Tyz107 (fun a7 ae=>(wt (wp_cut (fun a w=>∃ aU j af ao ap ag ah aq ar au av aw ai ax ay m aj ak az o al am aA aB aE p,a=fr 24 (updL aU [(0,pp g 0),(3,pp (zz wi) 0),(4,pp (zz an) 0)])∧KH.sub K j∧SR K j wi w [.box bs g #[sl D C G,.string I,sl N J O,iI S,.bool U,iI V,sl X W Y,sl q d r,sl s e t,iI ac,iI ad] 78,.row br (sl q d r) 9 1 d.length Z,.row br (sl s e t) 3 1 e.length ab] [.box bs g #[sl ao af ap,.string ag,sl aq ah ar,iI au,.bool av,iI aw,sl ax ai ay,sl aj m ak,sl al o am,iI aB,iI aE] 78,.box (zz wi) (zz wi) (vE b f c p v u x).toArray 107,.box (zz wi) (zz an) zE.toArray 107,.row br (sl aj m ak) 9 1 m.length az,.row br (sl al o am) 3 1 o.length aA]∧tF j ao ap af∧ag.size ≤ mB∧tP j aq ar ah∧tS j ax ay ai∧Reps RStr 1 m az∧m.length * 16 ≤ mB∧Reps (RInt .i64) 1 o aA∧o.length * 8 ≤ mB∧f141_j1 k F b f c u af ag ah au av aw ai m o aB aE p=some r_) ?_ ?_))))))
 ·refine sr (fd 0 Tyf107_0 rfl (l1 1 (iI b) ae Tya3 (c0 (b == 4) (wt (cd h (fun aH h=>?_) (fun aH h=>?_))))))
  ·refine cT aH (sr (m1 (pp g 0) (fd 2 Tyf107_2 rfl (l1 1 (.string c) ae Tya9 ?_))))
   have aV:=p23401 ae
   obtain ⟨⟨⟨c7,⟨c8,c9,da,db,dc,dd⟩,de,df,dg,dh⟩,B⟩,a8,h⟩:=ob h
   refine cv ([pp g 0,.string c]) Tyb106 ((f106_ok k) a8 (hG.mono kr) aK aL aM aN aP aQ aR aS (Nat.le_trans hbr ae.size) aT (pt aV)) ?_
   rintro _ di ⟨dj,dk,dl,dm,dn,dp,dq,dr,ds,dt,du,dv,dw,rfl,aI,a9,ba,bb,bd,be,bf,bg,bh⟩
   have bi:=ca aI aV
   refine fd 3 Tyf107_3 rfl (sI 4 (iI B) ((vE b f c B v u x).toArray) bi Tys3 rfl rfl (fun dx aF=>(wt (wp_region_lit (m1 (pp g 0) (fd 3 Tyf107_3 rfl (l1 4 (iI B) aF Tya3 (c0 (decide (B ≥ 0)) ?_))))))))
   obtain ⟨⟨bj,⟨bk,bm,bn,bo,bp,bq⟩,bu,bv,bw,bx⟩,bz,h⟩:=ob h
   refine cv ([pp g 0,.bool (decide (B ≥ 0)),iI 20]) Tyb85 ((f85_ok k) bz (hG.mono aI.sub) a9 ba bb bd be bf bg bh (Nat.le_trans hbr aF.size) (pt aF)) ?_
   rintro _ dy ⟨bA,bB,bC,bD,bE,bF,bG,bH,bI,bJ,bK,bL,bM,rfl,aW,bN,bO,bP,bQ,bR,bS,bT,bU⟩
   have bV:=ca aW aF
   exact wt (⟨_,bA,bj,bB,bC,bk,bm,bD,bE,bn,bo,bp,bq,bF,bG,bu,bH,bI,bJ,bv,bK,bL,bM,bw,bx,B,fR,(aI.sub.trans aW.sub),(bV.sel [0,4,3,1,2]),bN,bO,bP,bQ,bR,bS,bT,bU,h⟩)
  ·exact cF aH (wp_skip (thenN (⟨_,K,C,D,G,I,J,N,O,S,U,V,W,X,Y,d,q,r,Z,e,s,t,ab,ac,ad,aG,fR,kr,(ae.sel [2,1,0,3,4]),aK,aL,aM,aN,aP,aQ,aR,aS,h⟩)))
 ·rintro _ bW ⟨aU,j,af,ao,ap,ag,ah,aq,ar,au,av,aw,ai,ax,ay,m,aj,ak,az,o,al,am,aA,aB,aE,p,rfl,aX,aJ,bX,bY,bZ,b0,b1,b2,b3,b4,h⟩
  unfold f141_j1 at h
  refine sr (m1 (pp g 0) (fd 4 Tyf107_4 rfl (l1 1 (sl v u x) aJ Tya39 ?_)))
  have aY:=p03412 aJ
  obtain ⟨⟨⟨dz,⟨dA,dB,dC,dD,dE,dF⟩,dG,dH,dI,dJ⟩,y⟩,b5,h⟩:=ob h
  refine cv ([pp g 0,sl v u x]) Tyb124 (IH124 b5 (hG.mono aX) bX bY bZ b0 b1 b2 b3 b4 (Nat.le_trans hbr aJ.size) (me a5 aX) (pt aY)) ?_
  rintro _ dK ⟨b6,b7,b8,b9,cb,cc,ce,cf,ch,ci,cj,ck,cl,z,A,rfl,cm,cn,co,cq,cr,ct,cu,cw,cx,cy⟩
  have cz:=ca cm aY
  refine fd 4 Tyf107_4 rfl (sI 3 (sl z y A) ((vE b f c p z y A).toArray) cz Tys39 rfl rfl (fun dL aZ=>(wt (sr (lN 3 (vE b f c p z y A) aZ Tya107 Tys107 (sI 4 (.agg (vE b f c p z y A).toArray) ((vE b f c p z y A).toArray) aZ Tys107 rfl rfl (fun dM a0=>(wt (wp_ret ?_)))))))))
  have e_:=(Option.some.inj h).trans hr_
  obtain ⟨cA,cB⟩:=Prod.mk.inj e_
  obtain ⟨cC,cD,cG,cH,cI,cJ⟩:=Dlook.mk.inj cA
  subst cC
  obtain ⟨cK,cL,cM,cN,cO,cP⟩:=DFunc.mk.inj cD
  subst cK
  subst cL
  subst cM
  subst cN
  subst cO
  subst cP
  subst cG
  subst cH
  subst cI
  subst cJ
  subst cB
  exact retA1 rfl (resN (i:=4) (l:=(vE b f c p z y A)) a0 rfl Tya107 Tys107 rfl rfl rfl) ⟨b6,b7,b8,b9,cb,cc,ce,cf,ch,ci,cj,ck,cl,(vE b f c p z y A),rfl,(a0.sel [0,1,2]),cn,co,cq,cr,ct,cu,cw,cx,(RDExpr.intro aT cy)⟩
theorem fam124_ok (k0:Nat) : ∀ k,f124_spec (fam124 k0 k).f124∧f141_spec (fam124 k0 k).f141:=by
 intro k
 induction k with
 | zero=>exact ⟨(by unfold f124_spec; intro _ _ _ _ _ _ _ _ _ _ _ _ _ _ _ _ _ _ _ _ _ _ _ _ _ _ _ _ _ _ _ _ _ _ _ _ _ _ _ _ _ _ _ h_; cases h_),(by unfold f141_spec; intro _ _ _ _ _ _ _ _ _ _ _ _ _ _ _ _ _ _ _ _ _ _ _ _ _ _ _ _ _ _ _ _ _ _ _ _ _ _ _ _ _ _ h_; cases h_)⟩
 | succ k ih=>exact ⟨f124_b_ok k0 (fam124 k0 k) ih.1 ih.2,f141_b_ok k0 (fam124 k0 k) ih.1 ih.2⟩
theorem f124_ok (k:Nat):f124_spec (f124 k):=(fam124_ok k k).1
theorem f141_ok (k:Nat):f141_spec (f141 k):=(fam124_ok k k).2
theorem f125_b_ok (k:Nat):f125_spec (f125_b k):=by
 unfold f125_spec
 intro K wi g bs br u x y G I J N O S U V W X a p q Y c s t Z ab ac a7 df dg dh di dj dk dl dm dn dp dq dr ds h hG ax aN aP aQ aR aS aT aU hbr a8 a9
 obtain ⟨r_,hr_,h⟩:=rz h
 obtain ⟨j,ad,ae,z,af,ag,l,ah,ai,aj,ak⟩:=a7
 obtain ⟨A,B,al,am,an,ao,ap,aq,ar,au,rfl,dt,ba,du,dv,dw,dx,dy⟩:=RDStmt.open a8
 refine enter Tryz.func125 rfl (n:=47) rfl ?_
 unfold f125_b at h
 refine sr (bxoC (cs:=(vS j ad ae z af ag A l B al ah am an ai ao ap aj aq ar ak au).toArray) a9 rfl rfl (fun dz bb=>(m2 (iI 0) (wt (wp_seq (have C:=bb.drew;(regAny (E:=[]) (F:=FW K [.box (zz wi) (zz wi) (vS j ad ae z af ag A l B al ah am an ai ao ap aj aq ar ak au).toArray 42,.box bs g #[sl x u y,.string G,sl J I N,iI O,.bool S,iI U,sl W V X,sl p a q,sl s c t,iI ab,iI ac] 78,.row br (sl p a q) 9 1 a.length Y,.row br (sl s c t) 3 1 c.length Z]) (L:=(lb 8 0)) ymx rfl rfl (tk 0 (pp g 0) (lb 8 1) rfl (fun w=>mv_r (v:=pp g 0) rfl) (heldF (fq [0,1,2,3] C)) (tk 1 (pp g 0) (lb 8 3) rfl (fun w=>nilc_r rfl) (heldF (fq [0,1,2,3] C)) (tk 2 (pp g 0) (lb 8 7) rfl (fun w=>fld_r (o':=0) Tyf78_0 rfl rfl) (heldF (fq [0,1,2,3] C)) (tf 3 (sl x u y) ([]) (lb 8 15) rfl (fq [0,1,2,3] C) (fun w hF=>lb1_r (i:=1) (v:=sl x u y) hF rfl Tya22 rfl rfl) (tk 4 (pp (zz wi) 3) (lb 8 31) rfl (fun w=>fld_r (o':=3) Tyf42_3 rfl rfl) (heldF (fq [0,1,2,3] C)) (tf 5 (.string z) ([]) (lb 8 63) rfl (fq [0,1,2,3] C) (fun w hF=>lb1_r (i:=0) (v:=.string z) hF rfl Tya9 rfl rfl) (aO 6 rfl ?_))))))))))))))
 obtain ⟨d,bd,h⟩:=ob h
 refine cv ([sl x u y,.string z]) Tyb45 ((f45_ok k) bd (hG.mono kr) ax ba (pt C)) ?_
 rintro _ aV ⟨aA,rfl,m⟩
 have av:=ca m C
 refine wt ⟨heldF (fwOf (is:=[0,1,2,3]) av m.sub rfl),tk 7 (iI d) (lb 8 255) rfl (fun w=>asg_r (v:=iI d) rfl) (heldF (fwOf (is:=[0,1,2,3]) av m.sub rfl)) (aD (thenN (wp_seq (sr (m1 (iI d) (c0 (decide (d < 0)) (wt (cd h (fun aB h=>?_) (fun aB h=>?_)))))))))⟩
 ·refine cT aB (sr (m1 (pp g 0) ?_))
  have aW:=p1230 av
  obtain ⟨⟨dA,⟨dB,dC,dD,dE,dF,dG⟩,dH,dI,dJ,dK⟩,be,h⟩:=ob h
  refine cv ([pp g 0,vN,iI 20]) Tyb85 ((f85_ok k) be (hG.mono m.sub) (mf ax m.sub) aN (mp aP m.sub) (ms aQ m.sub) (aR.mono (fun _ _ h=>h)) aS (aT.mono (fun _ _ h=>h)) aU (Nat.le_trans hbr av.size) (pt aW)) ?_
  rintro _ dL ⟨bf,bg,bh,bi,bj,bk,bm,bn,bo,bp,bq,bu,bv,rfl,bw,bx,bz,bA,bB,bC,bD,bE,bF⟩
  have bG:=ca bw aW
  refine wt (sr (m2 (iI 0) (wt (wp_ret (thenR ?_)))))
  have e_:=(Option.some.inj h).trans hr_
  obtain ⟨bH,bI⟩:=Prod.mk.inj e_
  obtain ⟨bJ,bK,bL,bM,bN,bO⟩:=Dlook.mk.inj bH
  subst bJ
  obtain ⟨bP,bQ,bR,bS,bT,bU⟩:=DFunc.mk.inj bK
  subst bP
  subst bQ
  subst bR
  subst bS
  subst bT
  subst bU
  subst bL
  subst bM
  subst bN
  subst bO
  subst bI
  exact retA1 rfl (resT rfl) ⟨bf,bg,bh,bi,bj,bk,bm,bn,bo,bp,bq,bu,bv,rfl,(bG.sel [0,1,2]),bx,bz,bA,bB,bC,bD,bE,bF⟩
 ·refine cF aB (wp_skip (thenN (wp_seq (have f:=av.drew;(regAny (E:=[13]) (F:=FW aA [.box (zz wi) (zz wi) (vS j ad ae z af ag A l B al ah am an ai ao ap aj aq ar ak au).toArray 42,.box bs g #[sl x u y,.string G,sl J I N,iI O,.bool S,iI U,sl W V X,sl p a q,sl s c t,iI ab,iI ac] 78,.row br (sl p a q) 9 1 a.length Y,.row br (sl s c t) 3 1 c.length Z]) (L:=(lb 14 0)) ymx rfl rfl (tk 0 (pp g 0) (lb 14 1) rfl (fun w=>mv_r (v:=pp g 0) rfl) (heldF (fq [0,1,2,3] f)) (tk 1 (pp g 0) (lb 14 3) rfl (fun w=>mv_r (v:=pp g 0) rfl) (heldF (fq [0,1,2,3] f)) (tk 2 (pp g 0) (lb 14 7) rfl (fun w=>nilc_r rfl) (heldF (fq [0,1,2,3] f)) (tk 3 (pp g 0) (lb 14 15) rfl (fun w=>fld_r (o':=0) Tyf78_0 rfl rfl) (heldF (fq [0,1,2,3] f)) (tf 4 (sl x u y) ([[13,12,8,7,6,4]]) (lb 14 31) rfl (fq [0,1,2,3] f) (fun w hF=>lb1_r (i:=1) (v:=sl x u y) hF rfl Tya22 rfl rfl) (tk 5 (iI d) (lb 14 63) rfl (fun w=>mv_r (v:=iI d) rfl) (heldF (fq [0,1,2,3] f)) ?_)))))))))))
  obtain ⟨⟨dM,dN,dO,aw,dP,dQ⟩,aE,h⟩:=ob h
  obtain ⟨aF,ay,dR,bV,dS,bW,bX⟩:=((mf ax m.sub)).row.at_ (idxO_at aE).1
  obtain ⟨dT,dU,dV,dW,rfl,dX,dY,dZ⟩:=RDFunc.open bX
  refine tk 6 (pp aF (ay + d.toNat * 6)) (lb 14 127) rfl (fun w=>idxG_r (b:=aF) (o:=ay) (i:=d) Tye22 Tys38 rfl bV rfl (idxO_at aE).2.1 (idxO_at aE).2.2) (heldF (fq [0,1,2,3] f)) (tk 7 (pp aF (ay + d.toNat * 6 + 3)) (lb 14 255) rfl (fun w=>fld_r (o':=ay + d.toNat * 6 + 3) Tyf38_3 rfl rfl) (heldF (fq [0,1,2,3] f)) (tf 8 (.bool aw) ([[13,12,8]]) (lb 14 511) rfl (fq [0,1,2,3] f) (fun w hF=>ld1_r (v:=.bool aw) Tya4 rfl (hF.cell (kr.cell (bW 3 _ rfl)))) (tk 9 (pp (zz wi) 0) (lb 14 1023) rfl (fun w=>fld_r (o':=0) Tyf42_0 rfl rfl) (heldF (fq [0,1,2,3] f)) (tf 10 (iI j) ([[13,12,11,10]]) (lb 14 2047) rfl (fq [0,1,2,3] f) (fun w hF=>lb1_r (i:=0) (v:=iI j) hF rfl Tya3 rfl rfl) (tk 11 (.bool (j == 28)) (lb 14 4095) rfl (fun w=>bcm_r (r:=(j == 28)) rfl rfl rfl) (heldF (fq [0,1,2,3] f)) (tk 12 (.bool (aw == (j == 28))) (lb 14 8191) rfl (fun w=>bbo_r (r:=(aw == (j == 28))) Tyo4 rfl rfl rfl) (heldF (fq [0,1,2,3] f)) (aO 13 rfl ?_)))))))
  have aX:=p1230 f
  obtain ⟨⟨aG,⟨bY,bZ,b0,b1,b2,b3⟩,aH,aI,b4,b5⟩,b6,h⟩:=ob h
  refine cv ([pp g 0,.bool (aw == (j == 28)),iI 25]) Tyb85 ((f85_ok k) b6 (hG.mono m.sub) (mf ax m.sub) aN (mp aP m.sub) (ms aQ m.sub) (aR.mono (fun _ _ h=>h)) aS (aT.mono (fun _ _ h=>h)) aU (Nat.le_trans hbr f.size) (pt aX)) ?_
  rintro _ d0 ⟨b7,aJ,aK,b8,b9,cb,cc,aY,aZ,ce,a0,a2,cf,rfl,a3,a4,ch,ci,cj,ck,cl,cm,cn⟩
  have co:=ca a3 aX
  refine wt ⟨heldE (i:=13) rfl rfl,aD (thenN (wp_seq (have e:=co.drew;(regAny (E:=[14]) (F:=FW b7 [.box bs g #[sl aJ aG aK,.string bY,sl b8 bZ b9,iI b0,.bool b1,iI b2,sl cb b3 cc,sl aY aH aZ,sl a0 aI a2,iI b4,iI b5] 78,.row br (sl aY aH aZ) 9 1 aH.length ce,.row br (sl a0 aI a2) 3 1 aI.length cf,.box (zz wi) (zz wi) (vS j ad ae z af ag A l B al ah am an ai ao ap aj aq ar ak au).toArray 42]) (L:=(lb 15 0)) ymx rfl rfl (tk 0 (pp g 0) (lb 15 1) rfl (fun w=>mv_r (v:=pp g 0) rfl) (heldF (fq [0,1,2,3] e)) (tk 1 (pp (zz wi) 6) (lb 15 3) rfl (fun w=>fld_r (o':=6) Tyf42_6 rfl rfl) (heldF (fq [0,1,2,3] e)) (tf 2 (sl A l B) ([[14,13,3,2]]) (lb 15 7) rfl (fq [0,1,2,3] e) (fun w hF=>lb1_r (i:=3) (v:=sl A l B) hF rfl Tya39 rfl rfl) (tk 3 (iI (l.length:Int)) (lb 15 15) rfl (fun w=>lnS_r (len:=l.length) Tye39 rfl) (heldF (fq [0,1,2,3] e)) (tk 4 (pp g 0) (lb 15 31) rfl (fun w=>mv_r (v:=pp g 0) rfl) (heldF (fq [0,1,2,3] e)) (tk 5 (pp g 0) (lb 15 63) rfl (fun w=>nilc_r rfl) (heldF (fq [0,1,2,3] e)) (tk 6 (pp g 0) (lb 15 127) rfl (fun w=>fld_r (o':=0) Tyf78_0 rfl rfl) (heldF (fq [0,1,2,3] e)) (tf 7 (sl aJ aG aK) ([[14,13,12,11,10,9,7]]) (lb 15 255) rfl (fq [0,1,2,3] e) (fun w hF=>lb1_r (i:=0) (v:=sl aJ aG aK) hF rfl Tya22 rfl rfl) (tk 8 (iI d) (lb 15 511) rfl (fun w=>mv_r (v:=iI d) rfl) (heldF (fq [0,1,2,3] e)) ?_)))))))))))))⟩
  obtain ⟨⟨d1,D,d2,d3,d4,d5⟩,aL,h⟩:=ob h
  obtain ⟨aM,az,d6,cq,d7,cr,ct⟩:=(a4).row.at_ (idxO_at aL).1
  obtain ⟨a5,a6,d8,d9,rfl,ea,ec,ed⟩:=RDFunc.open ct
  refine tk 9 (pp aM (az + d.toNat * 6)) (lb 15 1023) rfl (fun w=>idxG_r (b:=aM) (o:=az) (i:=d) Tye22 Tys38 rfl cq rfl (idxO_at aL).2.1 (idxO_at aL).2.2) (heldF (fq [0,1,2,3] e)) (tk 10 (pp aM (az + d.toNat * 6 + 1)) (lb 15 2047) rfl (fun w=>fld_r (o':=az + d.toNat * 6 + 1) Tyf38_1 rfl rfl) (heldF (fq [0,1,2,3] e)) (tf 11 (sl a5 D a6) ([[14,13,12,11]]) (lb 15 4095) rfl (fq [0,1,2,3] e) (fun w hF=>ld1_r (v:=sl a5 D a6) Tya35 rfl (hF.cell (kr.cell (cr 1 _ rfl)))) (tk 12 (iI (D.length:Int)) (lb 15 8191) rfl (fun w=>lnS_r (len:=D.length) Tye35 rfl) (heldF (fq [0,1,2,3] e)) (tk 13 (.bool ((l.length:Int) == (D.length:Int))) (lb 15 16383) rfl (fun w=>bcm_r (r:=((l.length:Int) == (D.length:Int))) rfl rfl rfl) (heldF (fq [0,1,2,3] e)) (aO 14 rfl ?_)))))
  obtain ⟨⟨ee,⟨ef,eg,eh,ei,ej,ek⟩,el,em,en,eo⟩,cu,h⟩:=ob h
  refine cv ([pp g 0,.bool ((l.length:Int) == (D.length:Int)),iI 24]) Tyb85 ((f85_ok k) cu (hG.mono (m.sub.trans a3.sub)) a4 ch ci cj ck cl cm cn (Nat.le_trans hbr e.size) (pt e)) ?_
  rintro _ ep ⟨cw,cx,cy,cz,cA,cB,cC,cD,cG,cH,cI,cJ,cK,rfl,cL,cM,cN,cO,cP,cQ,cR,cS,cU⟩
  have cV:=ca cL e
  refine wt ⟨heldE (i:=14) rfl rfl,aD (thenN (sr (m1 (iI d) (m2 (iI d) (wt (wp_ret ?_))))))⟩
  have e_:=(Option.some.inj h).trans hr_
  obtain ⟨cW,cX⟩:=Prod.mk.inj e_
  obtain ⟨cY,cZ,c2,c4,c5,c7⟩:=Dlook.mk.inj cW
  subst cY
  obtain ⟨c8,da,db,dc,dd,de⟩:=DFunc.mk.inj cZ
  subst c8
  subst da
  subst db
  subst dc
  subst dd
  subst de
  subst c2
  subst c4
  subst c5
  subst c7
  subst cX
  exact retA1 rfl (resT rfl) ⟨cw,cx,cy,cz,cA,cB,cC,cD,cG,cH,cI,cJ,cK,rfl,(cV.sel [0,1,2]),cM,cN,cO,cP,cQ,cR,cS,cU⟩
theorem f125_ok (k:Nat):f125_spec (f125 k):=f125_b_ok k
theorem f126_b_ok (k:Nat):f126_spec (f126_b k):=by
 unfold f126_spec
 intro K wi b r h hG c
 obtain ⟨r_,hr_,h⟩:=rz h
 refine enter Tryz.func126 rfl (n:=13) rfl ?_
 unfold f126_b at h
 refine sr (m2 vN (wt (wp_seq (sr (m1 (iI b) (wt (wp_block (wp_cut (fun a w=>∃ p d,a=fr 13 (updL p [(4,.bool d)])∧SR K K wi w [] []∧f126_j1 k d=some r_) ?_ ?_))))))))
 ·refine sr (c0 (b == 1) (m2 (.bool (b == 1)) (wt (cd h (fun e h=>?_) (fun e h=>?_)))))
  ·exact cT e (wp_skip (thenN (⟨_,(b == 1),fR,c,h⟩)))
  ·refine cF e (sr (c0 (b == 3) (m2 (.bool (b == 3)) (wt (cd h (fun f h=>?_) (fun f h=>?_))))))
   ·exact cT f (wp_skip (thenN (⟨_,(b == 3),fR,c,h⟩)))
   ·refine cF f (sr (c0 (b == 4) (m2 (.bool (b == 4)) (wt (cd h (fun g h=>?_) (fun g h=>?_))))))
    ·exact cT g (wp_skip (thenN (⟨_,(b == 4),fR,c,h⟩)))
    ·refine cF g (sr (c0 (b == 5) (m2 (.bool (b == 5)) (wt (cd h (fun i h=>?_) (fun i h=>?_))))))
     ·exact cT i (wp_skip (thenN (⟨_,(b == 5),fR,c,h⟩)))
     ·refine cF i (sr (c0 (b == 6) (m2 (.bool (b == 6)) (wt (cd h (fun j h=>?_) (fun j h=>?_))))))
      ·exact cT j (wp_skip (thenN (⟨_,(b == 6),fR,c,h⟩)))
      ·refine cF j (sr (c0 (b == 7) (m2 (.bool (b == 7)) (wt (cd h (fun l h=>?_) (fun l h=>?_))))))
       ·exact cT l (wp_skip (thenN (⟨_,(b == 7),fR,c,h⟩)))
       ·refine cF l (sr (c0 (b == 8) (m2 (.bool (b == 8)) (wt (cd h (fun m h=>?_) (fun m h=>?_))))))
        ·exact cT m (wp_skip (thenN (⟨_,(b == 8),fR,c,h⟩)))
        ·exact cF m (wp_region_lit (c0 (b == 9) (m2 (.bool (b == 9)) (wt (⟨_,(b == 9),fR,c,h⟩)))))
 ·rintro _ s ⟨p,d,rfl,q,h⟩
  unfold f126_j1 at h
  refine cd h (fun o h=>?_) (fun o h=>?_)
  ·refine cT o (sr (m2 vT (wt (wp_ret (blkR (thenR ?_))))))
   cases (oi h).trans hr_
   exact retA1 rfl (resT rfl) ⟨K,rfl,q⟩
  ·refine cF o (wp_skip (blkN (thenN (sr (m2 vN (wt (wp_ret ?_)))))))
   cases (oi h).trans hr_
   exact retA1 rfl (resT rfl) ⟨K,rfl,q⟩
theorem f126_ok (k:Nat):f126_spec (f126 k):=f126_b_ok k
theorem f84_b_ok (k:Nat) (F:Fam84) (IH84:f84_spec F.f84) (IH107:f107_spec F.f107) (IH127:f127_spec F.f127) (IH128:f128_spec F.f128):f84_spec (f84_b k F):=by
 unfold f84_spec
 intro K wi g bs br aA aB aE aF aG aH aI aJ aK aL aM aN aP x ad ae aZ c B C a0 D aQ t aR aS f dh di dj dk dl dm dn dp dq dr ds dt h hG co cq cr cs ct cu cw cx hbr bg av
 obtain ⟨r_,hr_,h⟩:=rz h
 refine enter Tryz.func84 rfl (n:=58) rfl ?_
 unfold f84_b at h
 refine sr (m2 nS (wt (sr (m1 (pp g 0) (nilc rfl (fd 8 Tyf78_3 rfl (l1 0 (sl B c C) av Tya67 (lS c.length Tye67 (m2 (iI (c.length:Int)) (wt (sr (m1 (pp g 0) (m1 (pp g 0) (nilc rfl (fd 9 Tyf78_4 rfl (l1 0 (iI D) av Tya3 (m1 (iI f) (bar (r:=(w64 (D + f))) rfl rfl rfl (nilc rfl (fd 9 Tyf78_4 rfl (sI 0 (iI (w64 (D + f))) #[sl aB aA aE,.string aF,sl aH aG aI,iI aJ,.bool aK,iI aL,sl aN aM aP,sl ad x ae,sl B c C,iI (w64 (D + f)),iI aQ] av Tys3 rfl rfl (fun du av=>(wt (sr (m2 nS (wt (wp_seq (sr (m2 (iI 0) (wt (wp_block ?_)))))))))))))))))))))))))))))))
 have cy:=av.row_ (zz wi) 42 11
 refine wp_loopG (fun g_ a w=>∃ bh s G,∃ (l:Nat),∃ af ag ah ai aj ak al aw ax ay am an ao u ap aq aT q y z aU A az d I J a3,g_=G.length∧a=fr 58 (updL bh [(0,pp g 0),(1,sl aR t aS),(2,iI f),(7,iI (c.length:Int)),(8,sl I d J),(9,iI (l:Int))])∧KH.sub K s∧SR K s wi w [.box bs g #[sl aB aA aE,.string aF,sl aH aG aI,iI aJ,.bool aK,iI aL,sl aN aM aP,sl ad x ae,sl B c C,iI D,iI aQ] 78,.row br (sl ad x ae) 9 1 x.length aZ,.row br (sl B c C) 3 1 c.length a0] [.box bs g #[sl ag af ah,.string ai,sl ak aj al,iI aw,.bool ax,iI ay,sl an am ao,sl ap u aq,sl y q z,iI A,iI az] 78,.row br (sl ap u aq) 9 1 u.length aT,.row br (sl y q z) 3 1 q.length aU,.row (zz wi) (sl I d J) 42 11 d.length a3]∧t.drop l=G∧tF s ag ah af∧ai.size ≤ mB∧tP s ak al aj∧tS s an ao am∧Reps RStr 1 u aT∧u.length * 16 ≤ mB∧Reps (RInt .i64) 1 q aU∧q.length * 8 ≤ mB∧Reps (RDStmt s) 11 d a3∧d.length * 184 ≤ mB∧f84_l1 k F c f G l af ai aj aw ax ay am u q A az d=some r_) t.length ?_ ?_
 ·exact ⟨_,K,t,0,aA,aB,aE,aF,aG,aH,aI,aJ,aK,aL,aM,aN,aP,x,ad,ae,aZ,c,B,C,a0,(w64 (D + f)),aQ,([]:LS),none,0,[],rfl,fR,kr,(cy.sel [1,2,3,0]),List.drop_zero,co,cq,cr,cs,ct,cu,cw,cx,(reps0 (R:=(RDStmt K)) (size:=11)),(by simp),h⟩
 ·rintro _ _ dv ⟨bh,s,G,l,af,ag,ah,ai,aj,ak,al,aw,ax,ay,am,an,ao,u,ap,aq,aT,q,y,z,aU,A,az,d,I,J,a3,rfl,rfl,aV,ar,au,bi,bj,bk,bm,bn,bo,a4,bp,bq,cz,h⟩
  rcases G with _ | ⟨⟨bu,bv,bw,bx,bz,bA,bB,bC,bD,bE,bF⟩,G⟩
  ·unfold f84_l1 at h
   refine wp_seq (sr (m1 (iI (l:Int)) (m1 (sl aR t aS) (lS t.length Tye36 (bcm (r:=false) rfl rfl (congrArg some (drop_nil_lt au)) (wt (cndF rfl (wp_exit (thenX (thenX (blkX (thenN (sr (m1 (pp g 0) (m1 (pp g 0) (nilc rfl (fd 9 Tyf78_4 rfl (l1 0 (iI A) ar Tya3 (m1 (iI f) (bar (r:=(w64 (A - f))) rfl rfl rfl (nilc rfl (fd 9 Tyf78_4 rfl (sI 0 (iI (w64 (A - f))) #[sl ag af ah,.string ai,sl ak aj al,iI aw,.bool ax,iI ay,sl an am ao,sl ap u aq,sl y q z,iI (w64 (A - f)),iI az] ar Tys3 rfl rfl (fun dw a5=>(wt (sr (m1 (pp g 0) (m1 (pp g 0) (nilc rfl (fd 8 Tyf78_3 rfl (l1 0 (sl y q z) a5 Tya67 (m1 (iI (c.length:Int)) ?_))))))))))))))))))))))))))))))))
   obtain ⟨aW,h⟩:=of_guard h
   refine slH (m:=(q.take (c.length:Int).toNat).length) Tye67 Tys3 rfl rfl aW.1 (Int.le_trans aW.2 (Int.ofNat_le.2 (row_cap (i:=2) a5 rfl))) (take_len aW) (have cA:=a5.cut_ (i:=2) (m:=(c.length:Int).toNat) rfl a4 (by have:=aW.2; omega);(nilc rfl (fd 8 Tyf78_3 rfl (sI 0 (.slice y (q.take (c.length:Int).toNat).length z) #[sl ag af ah,.string ai,sl ak aj al,iI aw,.bool ax,iI ay,sl an am ao,sl ap u aq,.slice y (q.take (c.length:Int).toNat).length z,iI (w64 (A - f)),iI az] cA Tys67 rfl rfl (fun dx cB=>(wt (sr (m1 (sl I d J) (m2 (sl I d J) (wt (wp_ret ?_)))))))))))
   obtain ⟨cC,cD,a6,cG⟩:=shutI (i:=3) (bytes:=184) (R:=fun K=>(RDStmt K)) cB rfl (Nat.le_refl _) bq cz (fun hs=>(fun _ _ h=>RDStmt.mono hs h))
   have e_:=(Option.some.inj h).trans hr_
   obtain ⟨cH,cI⟩:=Prod.mk.inj e_
   obtain ⟨cJ,cK,cL,cM,cN,cO⟩:=Dlook.mk.inj cH
   subst cJ
   obtain ⟨cP,cQ,cR,cS,cU,cV⟩:=DFunc.mk.inj cK
   subst cP
   subst cQ
   subst cR
   subst cS
   subst cU
   subst cV
   subst cL
   subst cM
   subst cN
   subst cO
   subst cI
   exact retA1 rfl (resT rfl) ⟨cC,ag,ah,ak,al,an,ao,ap,aq,aT,y,z,(aU.take ((c.length:Int).toNat * 1)),I,J,rfl,cD,(mf bi a6),bj,(mp bk a6),(ms bm a6),(bn.mono (fun _ _ h=>h)),bo,((Reps.take a4 _).mono (fun _ _ h=>h)),(take_bound bp),cG⟩
  ·unfold f84_l1 at h
   refine wp_seq (sr (m1 (iI (l:Int)) (m1 (sl aR t aS) (lS t.length Tye36 (bcm (r:=true) rfl rfl (congrArg some (drop_cons_t au)) (wt (cndT rfl (wp_skip (thenN (wp_seq (wp_block (wp_region_lit (m1 (sl I d J) (m1 (pp g 0) (m1 (sl aR t aS) (m1 (iI (l:Int)) ?_))))))))))))))))
   obtain ⟨cW,cX,dy,cY,dz,cZ,bG⟩:=((ms bg aV)).row.at_ (drop_cons_at au)
   obtain ⟨bH,bI,bJ,bK,bL,bM,bN,bO,bP,bQ,rfl,dA,dB,dC,dD,dE,dF,dG⟩:=RDStmt.open bG
   refine idxN (b:=cW) (o:=cX) (i:=l) Tye36 Tys42 rfl cY rfl (drop_cons_lt au) (lD (vS bu bv bw bx bz bA bH bB bI bJ bC bK bL bD bM bN bE bO bP bF bQ) Tya42 Tys42 rfl (fun j v hj=>ar.cell (kr.cell (cZ j v hj))) ?_)
   obtain ⟨⟨⟨bR,⟨bS,bT,bU,bV,bW,bX⟩,aX,aY,bY,bZ⟩,⟨N,O,S,U,V,W,X,Y,Z,ab,ac⟩⟩,c2,h⟩:=ob h
   refine cv ([pp g 0,.agg (vS bu bv bw bx bz bA bH bB bI bJ bC bK bL bD bM bN bE bO bP bF bQ).toArray]) Tyb107 (IH107 c2 (hG.mono aV) bi bj bk bm bn bo a4 bp (Nat.le_trans hbr ar.size) bG (pt ar)) ?_
   rintro _ dH ⟨a7,b0,b1,b2,b3,b4,b5,a8,a9,b6,ba,bb,b7,dI,rfl,bd,c3,c4,c5,c6,c7,c8,c9,da,b8⟩
   have db:=ca bd ar
   obtain ⟨b9,cb,cc,ce,cf,ch,ci,cj,ck,cl,rfl,dJ,dK,dL,dM,dN,dO,dP⟩:=RDStmt.open b8
   refine bsl (e:=42) (cells:=(vS N O S U V W b9 X cb cc Y ce cf Z ch ci ab cj ck ac cl).toArray) (vs:=[(0,.agg (vS N O S U V W b9 X cb cc Y ce cf Z ch ci ab cj ck ac cl).toArray)]) db rfl (buildSl_one Tye36 Tys42 Tyz42 rfl (by decide) (by decide) rfl) (fun dQ dc=>?_)
   obtain ⟨cm,h⟩:=of_guard h
   refine apR (R:=(RDStmt a7)) (p:=(DStmt.mk N O S U V W X Y Z ab ac)) (i:=4) (j:=0) dc rfl rfl Tye36 Tyi42 rfl (by decide) rfl rfl (bq.mono (fun _ _ h=>RDStmt.mono bd.sub h)) b8 rfl rfl (Nat.le_refl _) cm (by decide) (fun be bf cn dd de df=>?_)
   have dg:=p1234 de
   exact m2 (.slice be (d ++ [(DStmt.mk N O S U V W X Y Z ab ac)]).length bf) (wpList_nil (blkN (thenN (wp_region_lit (m1 (iI (l:Int)) (bar (r:=((l + 1:Nat):Int)) rfl rfl (inc_ok (le_big (((ms bg aV)).len) (by decide) (drop_cons_lt au))) (m2 (iI ((l + 1:Nat):Int)) (wt (⟨_,Nat.lt_succ_self _,_,a7,G,l + 1,bR,b0,b1,bS,bT,b2,b3,bU,bV,bW,bX,b4,b5,aX,a8,a9,b6,aY,ba,bb,b7,bY,bZ,(d ++ [(DStmt.mk N O S U V W X Y Z ab ac)]),be,bf,cn,rfl,fR,(aV.trans bd.sub),dg,drop_cons_next au,c3,c4,c5,c6,c7,c8,c9,da,df,(app_bound cm),h⟩)))))))))
theorem f107_b_ok (k:Nat) (F:Fam84) (IH84:f84_spec F.f84) (IH107:f107_spec F.f107) (IH127:f127_spec F.f127) (IH128:f128_spec F.f128):f107_spec (f107_b k F):=by
 unfold f107_spec
 intro K wi g bs br an ao ap aq ar au av aw ax ay az aA aB d U V aE f W X aF aG aH hk se sf sg sh si sj sk sm sn so sp sq ss h hG hl hm hn ho hp hq hr ht hbr hu hv
 obtain ⟨r_,hr_,h⟩:=rz h
 obtain ⟨c,q,bb,A,cr,y,dK,J,B,z,u⟩:=hk
 obtain ⟨dL,dM,ab,ac,N,O,G,I,C,D,rfl,b3,fi,hw,a8,a5,a9,a6⟩:=RDStmt.open hu
 refine enter Tryz.func107 rfl (n:=186) rfl ?_
 unfold f107_b at h
 refine sr (bxoC (cs:=(vS c q bb A cr y dL dK dM ab J ac N B O G z I C u D).toArray) hv rfl rfl (fun ag hx=>(aC zS.toArray hx Tyz42 (fun hy et=>(wt (sr (m1 (pp g 0) (fd 6 Tyf42_6 rfl (l1 1 (sl dL dK dM) et Tya39 ?_)))))))))
 have fj:=p23401 et
 obtain ⟨⟨⟨hz,⟨hA,hB,hC,hD,hE,hH⟩,hI,hJ,hK,hL⟩,x⟩,hM,h⟩:=ob h
 refine cv ([pp g 0,sl dL dK dM]) Tyb124 ((f124_ok k) hM (hG.mono kr) hl hm hn ho hp hq hr ht (Nat.le_trans hbr et.size) hw (pt fj)) ?_
 rintro _ st ⟨fk,hN,hO,hP,hQ,hR,hS,hT,hU,hV,hW,hX,hY,Y,Z,rfl,m,fl,fm,fn,fo,fp,fs,ft,fu,fv⟩
 have hZ:=ca m fj
 refine fd 6 Tyf42_6 rfl (sI 4 (sl Y x Z) ((vS c q bb A cr y Y x Z ab J ac N B O G z I C u D).toArray) hZ Tys39 rfl rfl (fun su ct=>(wt (wp_cut (fun a w=>∃ fx bo bK cu cw bL bM cx cy b4 b5 b6 bN cz cA a3 bO bP cB a4 bQ bR cC b7 b8 S,a=fr 186 (updL fx [(0,pp g 0),(3,pp (zz wi) 0),(4,pp (zz ag) 0)])∧KH.sub fk bo∧SR K bo wi w [.box bs g #[sl ao an ap,.string aq,sl au ar av,iI aw,.bool ax,iI ay,sl aA az aB,sl U d V,sl W f X,iI aG,iI aH] 78,.row br (sl U d V) 9 1 d.length aE,.row br (sl W f X) 3 1 f.length aF] [.box bs g #[sl cu bK cw,.string bL,sl cx bM cy,iI b4,.bool b5,iI b6,sl cz bN cA,sl bO a3 bP,sl bQ a4 bR,iI b7,iI b8] 78,.box (zz wi) (zz wi) (vS c q bb A S y Y x Z ab J ac N B O G z I C u D).toArray 42,.box (zz wi) (zz ag) zS.toArray 42,.row br (sl bO a3 bP) 9 1 a3.length cB,.row br (sl bQ a4 bR) 3 1 a4.length cC]∧tF bo cu cw bK∧bL.size ≤ mB∧tP bo cx cy bM∧tS bo cz cA bN∧Reps RStr 1 a3 cB∧a3.length * 16 ≤ mB∧Reps (RInt .i64) 1 a4 cC∧a4.length * 8 ≤ mB∧f107_j1 k F c q bb A y J B z u x bK bL bM b4 b5 b6 bN a3 a4 b7 b8 S=some r_) ?_ ?_))))
 ·refine sr (fd 3 Tyf42_3 rfl (l1 4 (.string A) ct Tya9 (bsc (r:=(!seq A ⟨#[]⟩)) rfl rfl rfl (wt (cd h (fun eu h=>?_) (fun eu h=>?_))))))
  ·refine cT eu (wp_region_lit (m1 (pp g 0) (lN 4 (vS c q bb A cr y Y x Z ab J ac N B O G z I C u D) ct Tya42 Tys42 ?_)))
   obtain ⟨⟨⟨h0,⟨h1,h2,h3,h4,h5,h6⟩,h7,h8,h9,ia⟩,ew⟩,ib,h⟩:=ob h
   refine cv ([pp g 0,.agg (vS c q bb A cr y Y x Z ab J ac N B O G z I C u D).toArray]) Tyb125 ((f125_ok k) ib (hG.mono m.sub) fl fm fn fo fp fs ft fu (Nat.le_trans hbr ct.size) (RDStmt.intro b3 fi fv (ms a8 m.sub) (ms a5 m.sub) (ms a9 m.sub) (mc a6 m.sub)) (pt ct)) ?_
   rintro _ sv ⟨ic,id,ie,ig,ih,ii,ij,ik,il,im,io,ip,iq,rfl,fy,ir,it,iu,iv,iw,ix,iy,iz⟩
   have iA:=ca fy ct
   exact fd 4 Tyf42_4 rfl (sI 4 (iI ew) ((vS c q bb A ew y Y x Z ab J ac N B O G z I C u D).toArray) iA Tys3 rfl rfl (fun sw iB=>(wt (⟨_,ic,h0,id,ie,h1,h2,ig,ih,h3,h4,h5,h6,ii,ij,h7,ik,il,im,h8,io,ip,iq,h9,ia,ew,fR,fy.sub,(iB.sel [0,4,3,1,2]),ir,it,iu,iv,iw,ix,iy,iz,h⟩))))
  ·exact cF eu (wp_skip (thenN (⟨_,fk,hz,hN,hO,hA,hB,hP,hQ,hC,hD,hE,hH,hR,hS,hI,hT,hU,hV,hJ,hW,hX,hY,hK,hL,cr,fR,kr,(ct.sel [0,4,3,1,2]),fl,fm,fn,fo,fp,fs,ft,fu,h⟩)))
 ·rintro _ sx ⟨fx,bo,bK,cu,cw,bL,bM,cx,cy,b4,b5,b6,bN,cz,cA,a3,bO,bP,cB,a4,bQ,bR,cC,b7,b8,S,rfl,s,ex,fz,fA,fB,fC,fD,fE,fF,fG,h⟩
  unfold f107_j1 at h
  refine wp_cut (fun a w=>∃ fH am aL aU aV aM aN aW aX aI aK aQ aP aY aZ ad ai aj a0 ae ak al a2 aJ aR af,a=fr 186 (updL fH [(0,pp g 0),(3,pp (zz wi) 0),(4,pp (zz ag) 0)])∧KH.sub bo am∧SR K am wi w [.box bs g #[sl ao an ap,.string aq,sl au ar av,iI aw,.bool ax,iI ay,sl aA az aB,sl U d V,sl W f X,iI aG,iI aH] 78,.row br (sl U d V) 9 1 d.length aE,.row br (sl W f X) 3 1 f.length aF] [.box bs g #[sl aU aL aV,.string aM,sl aW aN aX,iI aI,.bool aK,iI aQ,sl aY aP aZ,sl ai ad aj,sl ak ae al,iI aJ,iI aR] 78,.box (zz wi) (zz wi) (vS c q af A S y Y x Z ab J ac N B O G z I C u D).toArray 42,.box (zz wi) (zz ag) zS.toArray 42,.row br (sl ai ad aj) 9 1 ad.length a0,.row br (sl ak ae al) 3 1 ae.length a2]∧tF am aU aV aL∧aM.size ≤ mB∧tP am aW aX aN∧tS am aY aZ aP∧Reps RStr 1 ad a0∧ad.length * 16 ≤ mB∧Reps (RInt .i64) 1 ae a2∧ae.length * 8 ≤ mB∧f107_j2 k F c q A y J B z u x S aL aM aN aI aK aQ aP ad ae aJ aR af=some r_) ?_ ?_
  ·refine wp_cut (fun a w=>∃ fI db ey,a=fr 186 (updL fI [(0,pp g 0),(3,pp (zz wi) 0),(4,pp (zz ag) 0),(26,.bool ey)])∧KH.sub bo db∧SR K db wi w [.box bs g #[sl ao an ap,.string aq,sl au ar av,iI aw,.bool ax,iI ay,sl aA az aB,sl U d V,sl W f X,iI aG,iI aH] 78,.row br (sl U d V) 9 1 d.length aE,.row br (sl W f X) 3 1 f.length aF] [.box bs g #[sl cu bK cw,.string bL,sl cx bM cy,iI b4,.bool b5,iI b6,sl cz bN cA,sl bO a3 bP,sl bQ a4 bR,iI b7,iI b8] 78,.box (zz wi) (zz wi) (vS c q bb A S y Y x Z ab J ac N B O G z I C u D).toArray 42,.box (zz wi) (zz ag) zS.toArray 42,.row br (sl bO a3 bP) 9 1 a3.length cB,.row br (sl bQ a4 bR) 3 1 a4.length cC]∧f107_j6 k F c q bb A y J B z u x bK bL bM b4 b5 b6 bN a3 a4 b7 b8 S ey=some r_) ?_ ?_
   ·refine wp_region_lit (fd 0 Tyf42_0 rfl (l1 1 (iI c) ex Tya3 ?_))
    obtain ⟨iC,iD,h⟩:=ob h
    refine cv ([iI c]) Tyb126 ((f126_ok k) iD (hG.mono (m.sub.trans s)) (pt ex)) ?_
    rintro _ sy ⟨fJ,rfl,ez⟩
    have eA:=ca ez ex
    refine m1 (.bool iC) (cd h (fun bA h=>?_) (fun bA h=>?_))
    ·exact n1 22 bA (fd 1 Tyf42_1 rfl (n1 22 bA (l1 1 (.string q) eA Tya9 (n1 22 bA (bsc (r:=(!seq q ⟨#[]⟩)) rfl rfl rfl (m3 true (.bool (!seq q ⟨#[]⟩)) (cg bA) (wt (⟨_,fJ,(!seq q ⟨#[]⟩),fR,ez.sub,eA,h⟩))))))))
    ·exact o1 22 bA (o1 22 bA (o1 22 bA (m3 false vN (cg bA) (wt (⟨_,fJ,false,fR,ez.sub,eA,h⟩)))))
   ·rintro _ iE ⟨fI,db,ey,rfl,bB,dN,h⟩
    unfold f107_j6 at h
    refine cd h (fun eB h=>?_) (fun eB h=>?_)
    ·refine cT eB (wp_region_lit (m1 (pp g 0) (fd 1 Tyf42_1 rfl (l1 1 (.string q) dN Tya9 ?_))))
     have fK:=p03412 dN
     obtain ⟨⟨⟨iF,⟨iG,iH,iJ,iK,iL,iM⟩,iN,iO,iP,iQ⟩,eC⟩,iR,h⟩:=ob h
     refine cv ([pp g 0,.string q]) Tyb83 ((f83_ok k) iR (hG.mono ((m.sub.trans s).trans bB)) (mf fz bB) fA (mp fB bB) (ms fC bB) (fD.mono (fun _ _ h=>h)) fE (fF.mono (fun _ _ h=>h)) fG (Nat.le_trans hbr dN.size) b3 (pt fK)) ?_
     rintro _ sz ⟨iS,iT,iU,iV,iW,iX,iY,iZ,i0,i1,i2,i3,i4,rfl,fL,i5,i6,i7,i8,i9,ja,jb,jc⟩
     have jd:=ca fL fK
     exact fd 2 Tyf42_2 rfl (sI 3 (iI eC) ((vS c q eC A S y Y x Z ab J ac N B O G z I C u D).toArray) jd Tys3 rfl rfl (fun sA je=>(wt (⟨_,iS,iF,iT,iU,iG,iH,iV,iW,iJ,iK,iL,iM,iX,iY,iN,iZ,i0,i1,iO,i2,i3,i4,iP,iQ,eC,fR,(bB.trans fL.sub),(je.sel [0,3,4,1,2]),i5,i6,i7,i8,i9,ja,jb,jc,h⟩))))
    ·exact cF eB (wp_skip (thenN (⟨_,db,bK,cu,cw,bL,bM,cx,cy,b4,b5,b6,bN,cz,cA,a3,bO,bP,cB,a4,bQ,bR,cC,b7,b8,bb,fR,bB,dN,(mf fz bB),fA,(mp fB bB),(ms fC bB),(fD.mono (fun _ _ h=>h)),fE,(fF.mono (fun _ _ h=>h)),fG,h⟩)))
  ·rintro _ jf ⟨fH,am,aL,aU,aV,aM,aN,aW,aX,aI,aK,aQ,aP,aY,aZ,ad,ai,aj,a0,ae,ak,al,a2,aJ,aR,af,rfl,t,cD,bd,be,bf,bg,bh,bi,bj,bk,h⟩
   unfold f107_j2 at h
   refine wp_cut (fun a w=>∃ fM aS bS bC bT bU bD bV bW bE bX bY bF bZ b0 dO dP dQ dR dS dT dU eD eE eF dV dW dX b9 dY dZ d0 cb d1 d2 d3 eG eH,a=fr 186 (updL fM [(3,pp (zz wi) 0),(4,pp (zz ag) 0)])∧KH.sub am aS∧SR K aS wi w [.box bs g #[sl ao an ap,.string aq,sl au ar av,iI aw,.bool ax,iI ay,sl aA az aB,sl U d V,sl W f X,iI aG,iI aH] 78,.row br (sl U d V) 9 1 d.length aE,.row br (sl W f X) 3 1 f.length aF] [.box (zz wi) (zz wi) (vS c q bS A S y Y x Z bT bC bU bV bD bW bX bE bY bZ bF b0).toArray 42,.box (zz wi) (zz ag) zS.toArray 42,.box bs g #[sl dP dO dQ,.string dR,sl dT dS dU,iI eD,.bool eE,iI eF,sl dW dV dX,sl dY b9 dZ,sl d1 cb d2,iI eG,iI eH] 78,.row br (sl dY b9 dZ) 9 1 b9.length d0,.row br (sl d1 cb d2) 3 1 cb.length d3]∧tS aS bT bU bC∧tS aS bV bW bD∧tS aS bX bY bE∧tC aS bZ b0 bF∧tF aS dP dQ dO∧dR.size ≤ mB∧tP aS dT dU dS∧tS aS dW dX dV∧Reps RStr 1 b9 d0∧b9.length * 16 ≤ mB∧Reps (RInt .i64) 1 cb d3∧cb.length * 8 ≤ mB∧f107_j3 k F c q A y x S bS bC bD bE bF dO dR dS eD eE eF dV b9 cb eG eH=some r_) ?_ ?_
   ·refine sr (fd 0 Tyf42_0 rfl (l1 1 (iI c) cD Tya3 (wt (wp_block (sr (c0 (c == 2) (m2 (.bool (c == 2)) (wt (cd h (fun eI h=>?_) (fun eI h=>?_))))))))))
    ·refine cT eI (sr (m1 (pp g 0) (fd 1 Tyf42_1 rfl (l1 1 (.string q) cD Tya9 ?_))))
     have fN:=p03412 cD
     obtain ⟨⟨⟨sB,⟨sC,sD,sF,sG,sH,sJ⟩,sK,sL,sM,sN⟩,cG⟩,jg,h⟩:=ob h
     refine cv ([pp g 0,.string q]) Tyb106 ((f106_ok k) jg (hG.mono ((m.sub.trans s).trans t)) bd be bf bg bh bi bj bk (Nat.le_trans hbr cD.size) b3 (pt fN)) ?_
     rintro _ sO ⟨sP,sQ,sR,sS,sT,sU,sV,sW,sX,sY,sZ,s0,s1,rfl,cc,jh,ji,jj,jk,jl,jm,jn,jo⟩
     have jp:=ca cc fN
     refine fd 2 Tyf42_2 rfl (sI 3 (iI cG) ((vS c q cG A S y Y x Z ab J ac N B O G z I C u D).toArray) jp Tys3 rfl rfl (fun s2 d4=>(wt (wp_region_lit (m1 (pp g 0) (fd 2 Tyf42_2 rfl (l1 3 (iI cG) d4 Tya3 (c0 (decide (cG ≥ 0)) ?_))))))))
     obtain ⟨⟨jq,⟨jr,js,jt,ju,jv,jw⟩,jx,jy,jz,jA⟩,jB,h⟩:=ob h
     refine cv ([pp g 0,.bool (decide (cG ≥ 0)),iI 20]) Tyb85 ((f85_ok k) jB (hG.mono (((m.sub.trans s).trans t).trans cc.sub)) jh ji jj jk jl jm jn jo (Nat.le_trans hbr d4.size) (pt d4)) ?_
     rintro _ s3 ⟨jC,jD,jE,jF,jG,jH,jI,jJ,jK,jL,jM,jN,jO,rfl,cH,jP,jQ,jR,jS,jT,jU,jV,jW⟩
     have jX:=ca cH d4
     exact wpList_nil (blkN (thenN (⟨_,jC,cG,J,ab,ac,B,N,O,z,G,I,u,C,D,jq,jD,jE,jr,js,jF,jG,jt,ju,jv,jw,jH,jI,jx,jJ,jK,jL,jy,jM,jN,jO,jz,jA,fR,(cc.sub.trans cH.sub),(jX.sel [3,4,0,1,2]),(ms a8 ((((m.sub.trans s).trans t).trans cc.sub).trans cH.sub)),(ms a5 ((((m.sub.trans s).trans t).trans cc.sub).trans cH.sub)),(ms a9 ((((m.sub.trans s).trans t).trans cc.sub).trans cH.sub)),(mc a6 ((((m.sub.trans s).trans t).trans cc.sub).trans cH.sub)),jP,jQ,jR,jS,jT,jU,jV,jW,h⟩)))
    ·refine cF eI (wp_cut (fun a w=>∃ fO eJ,a=fr 186 (updL fO [(0,pp g 0),(3,pp (zz wi) 0),(4,pp (zz ag) 0),(33,iI c),(56,.bool eJ)])∧SR K am wi w [.box bs g #[sl ao an ap,.string aq,sl au ar av,iI aw,.bool ax,iI ay,sl aA az aB,sl U d V,sl W f X,iI aG,iI aH] 78,.row br (sl U d V) 9 1 d.length aE,.row br (sl W f X) 3 1 f.length aF] [.box bs g #[sl aU aL aV,.string aM,sl aW aN aX,iI aI,.bool aK,iI aQ,sl aY aP aZ,sl ai ad aj,sl ak ae al,iI aJ,iI aR] 78,.box (zz wi) (zz wi) (vS c q af A S y Y x Z ab J ac N B O G z I C u D).toArray 42,.box (zz wi) (zz ag) zS.toArray 42,.row br (sl ai ad aj) 9 1 ad.length a0,.row br (sl ak ae al) 3 1 ae.length a2]∧f107_j4 k F c q A y J B z u x S aL aM aN aI aK aQ aP ad ae aJ aR af eJ=some r_) ?_ ?_)
     ·refine sr (c0 (c == 18) (m2 (.bool (c == 18)) (wt (cd h (fun eK h=>?_) (fun eK h=>?_)))))
      ·exact cT eK (wp_skip (thenN (⟨_,(c == 18),fR,cD,h⟩)))
      ·exact cF eK (wp_region_lit (c0 (c == 19) (m2 (.bool (c == 19)) (wt (⟨_,(c == 19),fR,cD,h⟩)))))
     ·rintro _ bv ⟨fO,eJ,rfl,ah,h⟩
      unfold f107_j4 at h
      refine cd h (fun eL h=>?_) (fun eL h=>?_)
      ·refine cT eL (wp_region_lit (m1 (pp g 0) (m1 (pp g 0) (nilc rfl (fd 9 Tyf78_4 rfl (l1 0 (iI aJ) ah Tya3 (c0 (decide (aJ > 0)) ?_)))))))
       have fP:=p03412 ah
       obtain ⟨⟨jY,⟨jZ,j0,j1,j2,j3,j4⟩,j5,j6,j7,j8⟩,j9,h⟩:=ob h
       refine cv ([pp g 0,.bool (decide (aJ > 0)),iI 22]) Tyb85 ((f85_ok k) j9 (hG.mono ((m.sub.trans s).trans t)) bd be bf bg bh bi bj bk (Nat.le_trans hbr ah.size) (pt fP)) ?_
       rintro _ s4 ⟨ka,kb,kc,kd,ke,kf,kg,kh,ki,kj,kk,kl,km,rfl,cI,kn,ko,kp,kq,ks,kt,ku,kv⟩
       have kw:=ca cI fP
       exact wpList_nil (blkN (thenN (⟨_,ka,af,J,ab,ac,B,N,O,z,G,I,u,C,D,jY,kb,kc,jZ,j0,kd,ke,j1,j2,j3,j4,kf,kg,j5,kh,ki,kj,j6,kk,kl,km,j7,j8,fR,cI.sub,(kw.sel [3,4,0,1,2]),(ms a8 (((m.sub.trans s).trans t).trans cI.sub)),(ms a5 (((m.sub.trans s).trans t).trans cI.sub)),(ms a9 (((m.sub.trans s).trans t).trans cI.sub)),(mc a6 (((m.sub.trans s).trans t).trans cI.sub)),kn,ko,kp,kq,ks,kt,ku,kv,h⟩)))
      ·refine cF eL (sr (c0 (c == 6) (m2 (.bool (c == 6)) (wt (cd h (fun eM h=>?_) (fun eM h=>?_))))))
       ·refine cT eM (wp_region_lit (m1 (pp g 0) (fd 5 Tyf42_5 rfl (l1 1 (iI y) ah Tya3 (c0 (y == 0) (m1 (.bool (y == 0)) (cd h (fun ba h=>?_) (fun ba h=>?_))))))))
        ·refine o1 72 ba (o1 72 ba (o1 72 ba (o1 72 ba (o1 72 ba (m3 true vT (cg ba) ?_)))))
         have fQ:=p03412 ah
         obtain ⟨⟨kx,⟨ky,kz,kA,kB,kC,kD⟩,kE,kF,kG,kH⟩,kJ,h⟩:=ob h
         refine cv ([pp g 0,vT,iI 22]) Tyb85 ((f85_ok k) kJ (hG.mono ((m.sub.trans s).trans t)) bd be bf bg bh bi bj bk (Nat.le_trans hbr ah.size) (pt fQ)) ?_
         rintro _ s5 ⟨kK,kL,kM,kN,kO,kP,kQ,kR,kT,kU,kV,kW,kX,rfl,cJ,kY,kZ,k0,k1,k2,k3,k4,k5⟩
         have k6:=ca cJ fQ
         exact wpList_nil (blkN (thenN (⟨_,kK,af,J,ab,ac,B,N,O,z,G,I,u,C,D,kx,kL,kM,ky,kz,kN,kO,kA,kB,kC,kD,kP,kQ,kE,kR,kT,kU,kF,kV,kW,kX,kG,kH,fR,cJ.sub,(k6.sel [3,4,0,1,2]),(ms a8 (((m.sub.trans s).trans t).trans cJ.sub)),(ms a5 (((m.sub.trans s).trans t).trans cJ.sub)),(ms a9 (((m.sub.trans s).trans t).trans cJ.sub)),(mc a6 (((m.sub.trans s).trans t).trans cJ.sub)),kY,kZ,k0,k1,k2,k3,k4,k5,h⟩)))
        ·refine n1 72 ba (m1 (pp g 0) (n1 72 ba (nilc rfl (n1 72 ba (fd 9 Tyf78_4 rfl (n1 72 ba (l1 0 (iI aJ) ah Tya3 (n1 72 ba (c0 (decide (aJ > 0)) (m3 false (.bool (decide (aJ > 0))) (cg ba) ?_))))))))))
         have fS:=p03412 ah
         obtain ⟨⟨k7,⟨k8,k9,la,lc,ld,lf⟩,lg,lh,li,lj⟩,lk,h⟩:=ob h
         refine cv ([pp g 0,.bool (decide (aJ > 0)),iI 22]) Tyb85 ((f85_ok k) lk (hG.mono ((m.sub.trans s).trans t)) bd be bf bg bh bi bj bk (Nat.le_trans hbr ah.size) (pt fS)) ?_
         rintro _ s6 ⟨ll,lm,ln,lo,lp,lq,lr,ls,lu,lv,lw,lx,ly,rfl,cK,lz,lA,lB,lC,lE,lF,lG,lH⟩
         have lI:=ca cK fS
         exact wpList_nil (blkN (thenN (⟨_,ll,af,J,ab,ac,B,N,O,z,G,I,u,C,D,k7,lm,ln,k8,k9,lo,lp,la,lc,ld,lf,lq,lr,lg,ls,lu,lv,lh,lw,lx,ly,li,lj,fR,cK.sub,(lI.sel [3,4,0,1,2]),(ms a8 (((m.sub.trans s).trans t).trans cK.sub)),(ms a5 (((m.sub.trans s).trans t).trans cK.sub)),(ms a9 (((m.sub.trans s).trans t).trans cK.sub)),(mc a6 (((m.sub.trans s).trans t).trans cK.sub)),lz,lA,lB,lC,lE,lF,lG,lH,h⟩)))
       ·refine cF eM (sr (c0 (c == 29) (m2 (.bool (c == 29)) (wt (cd h (fun eN h=>?_) (fun eN h=>?_))))))
        ·refine cT eN (wp_region_lit (m1 (pp g 0) (m1 (pp g 0) (nilc rfl (fd 1 Tyf78_1 rfl (fd 4 Tyf38_3 rfl (l1 0 (.bool aK) ah Tya4 ?_)))))))
         have fT:=p03412 ah
         obtain ⟨⟨lJ,⟨lK,lL,lM,lO,lP,lQ⟩,lR,lT,lU,lV⟩,lW,h⟩:=ob h
         refine cv ([pp g 0,.bool aK,iI 22]) Tyb85 ((f85_ok k) lW (hG.mono ((m.sub.trans s).trans t)) bd be bf bg bh bi bj bk (Nat.le_trans hbr ah.size) (pt fT)) ?_
         rintro _ s7 ⟨lX,lY,lZ,l0,l2,l3,l4,l5,l6,l7,l8,l9,ma,rfl,cL,mb,md,mg,mh,mi,mj,ml,mm⟩
         have mn:=ca cL fT
         exact wpList_nil (blkN (thenN (⟨_,lX,af,J,ab,ac,B,N,O,z,G,I,u,C,D,lJ,lY,lZ,lK,lL,l0,l2,lM,lO,lP,lQ,l3,l4,lR,l5,l6,l7,lT,l8,l9,ma,lU,lV,fR,cL.sub,(mn.sel [3,4,0,1,2]),(ms a8 (((m.sub.trans s).trans t).trans cL.sub)),(ms a5 (((m.sub.trans s).trans t).trans cL.sub)),(ms a9 (((m.sub.trans s).trans t).trans cL.sub)),(mc a6 (((m.sub.trans s).trans t).trans cL.sub)),mb,md,mg,mh,mi,mj,ml,mm,h⟩)))
        ·refine cF eN (sr (c0 (c == 17) (m2 (.bool (c == 17)) (wt (cd h (fun eO h=>?_) (fun eO h=>?_))))))
         ·refine cT eO (have a7:=ah.drew;(regAny (E:=[12]) (F:=FW am [.box bs g #[sl aU aL aV,.string aM,sl aW aN aX,iI aI,.bool aK,iI aQ,sl aY aP aZ,sl ai ad aj,sl ak ae al,iI aJ,iI aR] 78,.box (zz wi) (zz wi) (vS c q af A S y Y x Z ab J ac N B O G z I C u D).toArray 42,.box (zz wi) (zz ag) zS.toArray 42,.row br (sl ai ad aj) 9 1 ad.length a0,.row br (sl ak ae al) 3 1 ae.length a2]) (L:=(lb 13 0)) ymx rfl rfl (tk 0 (pp g 0) (lb 13 1) rfl (fun w=>mv_r (v:=pp g 0) rfl) (heldF (fq [0,1,2,3,4] a7)) (tk 1 (pp (zz wi) 6) (lb 13 3) rfl (fun w=>fld_r (o':=6) Tyf42_6 rfl rfl) (heldF (fq [0,1,2,3,4] a7)) (tf 2 (sl Y x Z) ([[12,11,4,3,2]]) (lb 13 7) rfl (fq [0,1,2,3,4] a7) (fun w hF=>lb1_r (i:=1) (v:=sl Y x Z) hF rfl Tya39 rfl rfl) (tk 3 (iI (x.length:Int)) (lb 13 15) rfl (fun w=>lnS_r (len:=x.length) Tye39 rfl) (heldF (fq [0,1,2,3,4] a7)) (tk 4 (.bool ((x.length:Int) == 1)) (lb 13 31) rfl (fun w=>bcm_r (r:=((x.length:Int) == 1)) rfl rfl rfl) (heldF (fq [0,1,2,3,4] a7)) (tk 5 (pp g 0) (lb 13 63) rfl (fun w=>mv_r (v:=pp g 0) rfl) (heldF (fq [0,1,2,3,4] a7)) (tk 6 (pp g 0) (lb 13 127) rfl (fun w=>nilc_r rfl) (heldF (fq [0,1,2,3,4] a7)) (tk 7 (pp g 1) (lb 13 255) rfl (fun w=>fld_r (o':=1) Tyf78_1 rfl rfl) (heldF (fq [0,1,2,3,4] a7)) (tk 8 (pp g 3) (lb 13 511) rfl (fun w=>fld_r (o':=3) Tyf38_2 rfl rfl) (heldF (fq [0,1,2,3,4] a7)) (tf 9 (iI aI) ([[12,11,10,9]]) (lb 13 1023) rfl (fq [0,1,2,3,4] a7) (fun w hF=>lb1_r (i:=0) (v:=iI aI) hF rfl Tya3 rfl rfl) (tk 10 (.bool (aI != 0)) (lb 13 2047) rfl (fun w=>bcm_r (r:=(aI != 0)) rfl rfl rfl) (heldF (fq [0,1,2,3,4] a7)) (tk 11 (.bool (((x.length:Int) == 1) == (aI != 0))) (lb 13 4095) rfl (fun w=>bbo_r (r:=(((x.length:Int) == 1) == (aI != 0))) Tyo4 rfl rfl rfl) (heldF (fq [0,1,2,3,4] a7)) (aO 12 rfl ?_)))))))))))))))
          have fU:=p03412 a7
          obtain ⟨⟨mo,⟨mq,mr,mt,mu,mw,mx⟩,my,mz,mA,mC⟩,mD,h⟩:=ob h
          refine cv ([pp g 0,.bool (((x.length:Int) == 1) == (aI != 0)),iI 22]) Tyb85 ((f85_ok k) mD (hG.mono ((m.sub.trans s).trans t)) bd be bf bg bh bi bj bk (Nat.le_trans hbr a7.size) (pt fU)) ?_
          rintro _ s8 ⟨mE,mF,mG,mH,mI,mJ,mK,mL,mM,mN,mO,mP,mQ,rfl,cM,mR,mS,mT,mU,mV,mW,mX,mY⟩
          have mZ:=ca cM fU
          exact wt ⟨heldE (i:=12) rfl rfl,aD (blkN (thenN (⟨_,mE,af,J,ab,ac,B,N,O,z,G,I,u,C,D,mo,mF,mG,mq,mr,mH,mI,mt,mu,mw,mx,mJ,mK,my,mL,mM,mN,mz,mO,mP,mQ,mA,mC,fR,cM.sub,(mZ.sel [3,4,0,1,2]),(ms a8 (((m.sub.trans s).trans t).trans cM.sub)),(ms a5 (((m.sub.trans s).trans t).trans cM.sub)),(ms a9 (((m.sub.trans s).trans t).trans cM.sub)),(mc a6 (((m.sub.trans s).trans t).trans cM.sub)),mR,mS,mT,mU,mV,mW,mX,mY,h⟩)))⟩
         ·refine cF eO (sr (c0 (c == 25) (m2 (.bool (c == 25)) (wt (cd h (fun eP h=>?_) (fun eP h=>?_))))))
          ·refine cT eP (wp_region_lit (m1 (pp g 0) (fd 1 Tyf42_1 rfl (l1 1 (.string q) ah Tya9 (fd 7 Tyf42_7 rfl (l1 1 (sl ab J ac) ah Tya36 ?_))))))
           have fV:=p03412 ah
           obtain ⟨⟨⟨m0,⟨m4,m5,m6,m7,m8,m9⟩,na,nb,nc,nd⟩,cN,dc⟩,ne,h⟩:=ob h
           refine cv ([pp g 0,.string q,sl ab J ac,iI 0]) Tyb127 (IH127 ne (hG.mono ((m.sub.trans s).trans t)) bd be bf bg bh bi bj bk (Nat.le_trans hbr ah.size) b3 (ms a8 ((m.sub.trans s).trans t)) (pt fV)) ?_
           rintro _ s9 ⟨nf,ng,nh,ni,nj,nk,nl,nm,nn,np,nq,nr,ns,dd,de,rfl,df,nt,nu,nv,nw,nx,ny,nz,nA,nB⟩
           have nC:=ca df fV
           exact m1 (.tuple #[iI cN,sl dd dc de]) (ext (v:=iI cN) rfl rfl (ext (v:=sl dd dc de) rfl rfl (fd 2 Tyf42_2 rfl (sI 3 (iI cN) ((vS c q cN A S y Y x Z ab J ac N B O G z I C u D).toArray) nC Tys3 rfl rfl (fun ta nD=>(fd 7 Tyf42_7 rfl (sI 3 (sl dd dc de) ((vS c q cN A S y Y x Z dd dc de N B O G z I C u D).toArray) nD Tys36 rfl rfl (fun tb nF=>(wpList_nil (blkN (thenN (⟨_,nf,cN,dc,dd,de,B,N,O,z,G,I,u,C,D,m0,ng,nh,m4,m5,ni,nj,m6,m7,m8,m9,nk,nl,na,nm,nn,np,nb,nq,nr,ns,nc,nd,fR,df.sub,(nF.sel [3,4,0,1,2]),nB,(ms a5 (((m.sub.trans s).trans t).trans df.sub)),(ms a9 (((m.sub.trans s).trans t).trans df.sub)),(mc a6 (((m.sub.trans s).trans t).trans df.sub)),nt,nu,nv,nw,nx,ny,nz,nA,h⟩))))))))))))
          ·refine cF eP (sr (c0 (c == 28) (m2 (.bool (c == 28)) (wt (cd h (fun eQ h=>?_) (fun eQ h=>?_))))))
           ·refine cT eQ (wp_region_lit (m1 (pp g 0) (fd 1 Tyf42_1 rfl (l1 1 (.string q) ah Tya9 (fd 7 Tyf42_7 rfl (l1 1 (sl ab J ac) ah Tya36 ?_))))))
            have fW:=p03412 ah
            obtain ⟨⟨⟨nG,⟨nH,nI,nJ,nK,nL,nM⟩,nN,nO,nP,nQ⟩,cO,dg⟩,nT,h⟩:=ob h
            refine cv ([pp g 0,.string q,sl ab J ac,iI 1]) Tyb127 (IH127 nT (hG.mono ((m.sub.trans s).trans t)) bd be bf bg bh bi bj bk (Nat.le_trans hbr ah.size) b3 (ms a8 ((m.sub.trans s).trans t)) (pt fW)) ?_
            rintro _ tc ⟨nV,nW,nX,nY,nZ,n2,n3,n4,n5,n6,n7,n8,n9,dh,di,rfl,dj,oa,oc,od,oe,og,oh,oj,ol,om⟩
            have oo:=ca dj fW
            exact m1 (.tuple #[iI cO,sl dh dg di]) (ext (v:=iI cO) rfl rfl (ext (v:=sl dh dg di) rfl rfl (fd 2 Tyf42_2 rfl (sI 3 (iI cO) ((vS c q cO A S y Y x Z ab J ac N B O G z I C u D).toArray) oo Tys3 rfl rfl (fun td op=>(fd 7 Tyf42_7 rfl (sI 3 (sl dh dg di) ((vS c q cO A S y Y x Z dh dg di N B O G z I C u D).toArray) op Tys36 rfl rfl (fun te oq=>(wpList_nil (blkN (thenN (⟨_,nV,cO,dg,dh,di,B,N,O,z,G,I,u,C,D,nG,nW,nX,nH,nI,nY,nZ,nJ,nK,nL,nM,n2,n3,nN,n4,n5,n6,nO,n7,n8,n9,nP,nQ,fR,dj.sub,(oq.sel [3,4,0,1,2]),om,(ms a5 (((m.sub.trans s).trans t).trans dj.sub)),(ms a9 (((m.sub.trans s).trans t).trans dj.sub)),(mc a6 (((m.sub.trans s).trans t).trans dj.sub)),oa,oc,od,oe,og,oh,oj,ol,h⟩))))))))))))
           ·refine cF eQ (sr (c0 (c == 21) (m2 (.bool (c == 21)) (wt (cd h (fun eR h=>?_) (fun eR h=>?_))))))
            ·refine cT eR (wp_region_lit (m1 (pp g 0) (fd 7 Tyf42_7 rfl (l1 1 (sl ab J ac) ah Tya36 ?_))))
             have fX:=p03412 ah
             obtain ⟨⟨⟨os,⟨ot,ov,ow,ox,oy,oz⟩,oA,oB,oC,oD⟩,eS⟩,oE,h⟩:=ob h
             refine cv ([pp g 0,sl ab J ac,iI 1]) Tyb84 (IH84 oE (hG.mono ((m.sub.trans s).trans t)) bd be bf bg bh bi bj bk (Nat.le_trans hbr ah.size) (ms a8 ((m.sub.trans s).trans t)) (pt fX)) ?_
             rintro _ tg ⟨oF,oG,oH,oI,oJ,oK,oL,oM,oN,oO,oP,oQ,oR,eT,eU,rfl,dk,oS,oT,oU,oV,oW,oX,oY,oZ,o2⟩
             have o3:=ca dk fX
             exact fd 7 Tyf42_7 rfl (sI 3 (sl eT eS eU) ((vS c q af A S y Y x Z eT eS eU N B O G z I C u D).toArray) o3 Tys36 rfl rfl (fun th o4=>(wpList_nil (blkN (thenN (⟨_,oF,af,eS,eT,eU,B,N,O,z,G,I,u,C,D,os,oG,oH,ot,ov,oI,oJ,ow,ox,oy,oz,oK,oL,oA,oM,oN,oO,oB,oP,oQ,oR,oC,oD,fR,dk.sub,(o4.sel [3,4,0,1,2]),o2,(ms a5 (((m.sub.trans s).trans t).trans dk.sub)),(ms a9 (((m.sub.trans s).trans t).trans dk.sub)),(mc a6 (((m.sub.trans s).trans t).trans dk.sub)),oS,oT,oU,oV,oW,oX,oY,oZ,h⟩))))))
            ·refine cF eR (sr (c0 (c == 24) (m2 (.bool (c == 24)) (wt (cd h (fun eV h=>?_) (fun eV h=>?_))))))
             ·refine cT eV (sr (m1 (pp g 0) (fd 7 Tyf42_7 rfl (l1 1 (sl ab J ac) ah Tya36 ?_))))
              have fY:=p03412 ah
              obtain ⟨⟨⟨o5,⟨o6,o7,o8,o9,pa,pb⟩,pc,pd,pe,pf⟩,bw⟩,pg,h⟩:=ob h
              refine cv ([pp g 0,sl ab J ac,iI 0]) Tyb84 (IH84 pg (hG.mono ((m.sub.trans s).trans t)) bd be bf bg bh bi bj bk (Nat.le_trans hbr ah.size) (ms a8 ((m.sub.trans s).trans t)) (pt fY)) ?_
              rintro _ ti ⟨fZ,ph,pi,pj,pk,pl,pm,pn,po,pq,pr,ps,pu,bG,bH,rfl,b1,f0,f1,f2,f3,f4,f5,f6,f8,pv⟩
              have pw:=ca b1 fY
              refine fd 7 Tyf42_7 rfl (sI 3 (sl bG bw bH) ((vS c q af A S y Y x Z bG bw bH N B O G z I C u D).toArray) pw Tys36 rfl rfl (fun tj ce=>(wt (wp_cut (fun a w=>∃ f9 bm dl d5 d6 dm dn d7 d8 d9 ea ec dp ed ee bx dq dr ef bz ds dt eg eh ei cP cf cQ cR,a=fr 186 (updL f9 [(0,pp g 0),(3,pp (zz wi) 0),(4,pp (zz ag) 0)])∧KH.sub fZ bm∧SR K bm wi w [.box bs g #[sl ao an ap,.string aq,sl au ar av,iI aw,.bool ax,iI ay,sl aA az aB,sl U d V,sl W f X,iI aG,iI aH] 78,.row br (sl U d V) 9 1 d.length aE,.row br (sl W f X) 3 1 f.length aF] [.box bs g #[sl d5 dl d6,.string dm,sl d7 dn d8,iI d9,.bool ea,iI ec,sl ed dp ee,sl dq bx dr,sl ds bz dt,iI eh,iI ei] 78,.box (zz wi) (zz wi) (vS c q cP A S y Y x Z bG bw bH cQ cf cR G z I C u D).toArray 42,.box (zz wi) (zz ag) zS.toArray 42,.row br (sl dq bx dr) 9 1 bx.length ef,.row br (sl ds bz dt) 3 1 bz.length eg]∧tF bm d5 d6 dl∧dm.size ≤ mB∧tP bm d7 d8 dn∧tS bm ed ee dp∧Reps RStr 1 bx ef∧bx.length * 16 ≤ mB∧Reps (RInt .i64) 1 bz eg∧bz.length * 8 ≤ mB∧tS bm cQ cR cf∧f107_j5 k F c q A y z u x S bw dl dm dn d9 ea ec dp bx bz eh ei cP cf=some r_) ?_ ?_))))
              ·refine sr (fd 5 Tyf42_5 rfl (l1 3 (iI y) ce Tya3 (bdv (r:=(y.tmod 2)) rfl rfl (by decide) rfl (c0 ((y.tmod 2) == 1) (wt (cd h (fun eW h=>?_) (fun eW h=>?_)))))))
               ·refine cT eW (wp_region_lit (m1 (pp g 0) (fd 1 Tyf42_1 rfl (l1 3 (.string q) ce Tya9 (fd 8 Tyf42_8 rfl (l1 3 (sl N B O) ce Tya36 ?_))))))
                obtain ⟨⟨⟨ga,⟨gb,gc,gd,ge,gf,gg⟩,ej,ek,gh,gi⟩,ch,cS⟩,px,h⟩:=ob h
                refine cv ([pp g 0,.string q,sl N B O,iI 0]) Tyb127 (IH127 px (hG.mono (((m.sub.trans s).trans t).trans b1.sub)) f0 f1 f2 f3 f4 f5 f6 f8 (Nat.le_trans hbr ce.size) b3 (ms a5 (((m.sub.trans s).trans t).trans b1.sub)) (pt ce)) ?_
                rintro _ tl ⟨gj,gk,gl,gm,gn,go,gp,eX,eY,gq,eZ,e0,gr,cU,cV,rfl,gs,py,pz,pA,pB,pC,pD,pE,pF,pG⟩
                have pH:=ca gs ce
                refine m1 (.tuple #[iI ch,sl cU cS cV]) (ext (v:=iI ch) rfl rfl (ext (v:=sl cU cS cV) rfl rfl (fd 2 Tyf42_2 rfl (sI 3 (iI ch) ((vS c q ch A S y Y x Z bG bw bH N B O G z I C u D).toArray) pH Tys3 rfl rfl (fun tm pI=>(fd 8 Tyf42_8 rfl (sI 3 (sl cU cS cV) ((vS c q ch A S y Y x Z bG bw bH cU cS cV G z I C u D).toArray) pI Tys36 rfl rfl (fun pJ pK=>?_))))))))
                have pL:=pK
                exact wt (⟨_,gj,ga,gk,gl,gb,gc,gm,gn,gd,ge,gf,gg,go,gp,ej,eX,eY,gq,ek,eZ,e0,gr,gh,gi,ch,cS,cU,cV,fR,gs.sub,(pL.sel [0,3,4,1,2]),py,pz,pA,pB,pC,pD,pE,pF,pG,h⟩)
               ·exact cF eW (wp_skip (thenN (⟨_,fZ,o5,ph,pi,o6,o7,pj,pk,o8,o9,pa,pb,pl,pm,pc,pn,po,pq,pd,pr,ps,pu,pe,pf,af,B,N,O,fR,kr,(ce.sel [0,3,4,1,2]),f0,f1,f2,f3,f4,f5,f6,f8,(ms a5 (((m.sub.trans s).trans t).trans b1.sub)),h⟩)))
              ·rintro _ pM ⟨f9,bm,dl,d5,d6,dm,dn,d7,d8,d9,ea,ec,dp,ed,ee,bx,dq,dr,ef,bz,ds,dt,eg,eh,ei,cP,cf,cQ,cR,rfl,du,e1,pN,pO,pP,pQ,pR,pS,pT,pU,pV,h⟩
               unfold f107_j5 at h
               refine wp_region_lit (m1 (pp g 0) (fd 9 Tyf42_9 rfl (l1 1 (sl G z I) e1 Tya36 ?_)))
               have gt:=p03412 e1
               obtain ⟨⟨⟨pW,⟨pX,pY,pZ,p0,p1,p2⟩,p3,p4,p5,p6⟩,e2⟩,p7,h⟩:=ob h
               refine cv ([pp g 0,sl G z I,iI 0]) Tyb84 (IH84 p7 (hG.mono ((((m.sub.trans s).trans t).trans b1.sub).trans du)) pN pO pP pQ pR pS pT pU (Nat.le_trans hbr e1.size) (ms a9 ((((m.sub.trans s).trans t).trans b1.sub).trans du)) (pt gt)) ?_
               rintro _ tn ⟨p8,p9,qa,qb,qc,qd,qe,qf,qg,qh,qi,qj,qk,e3,e4,rfl,dv,ql,qm,qn,qo,qp,qq,qr,qs,qt⟩
               have qu:=ca dv gt
               exact fd 9 Tyf42_9 rfl (sI 3 (sl e3 e2 e4) ((vS c q cP A S y Y x Z bG bw bH cQ cf cR e3 e2 e4 C u D).toArray) qu Tys36 rfl rfl (fun tp qv=>(wpList_nil (blkN (thenN (⟨_,p8,cP,bw,bG,bH,cf,cQ,cR,e2,e3,e4,u,C,D,pW,p9,qa,pX,pY,qb,qc,pZ,p0,p1,p2,qd,qe,p3,qf,qg,qh,p4,qi,qj,qk,p5,p6,fR,((b1.sub.trans du).trans dv.sub),(qv.sel [3,4,0,1,2]),(ms pv (du.trans dv.sub)),(ms pV dv.sub),qt,(mc a6 (((((m.sub.trans s).trans t).trans b1.sub).trans du).trans dv.sub)),ql,qm,qn,qo,qp,qq,qr,qs,h⟩))))))
             ·refine cF eV (sr (c0 (c == 27) (m2 (.bool (c == 27)) (wt (cd h (fun e5 h=>?_) (fun e5 h=>?_))))))
              ·refine cT e5 (sr (m2 nS (wt (wp_seq (sr (m2 (iI 0) (wt (wp_block ?_))))))))
               have qw:=ah.row_ (zz wi) 87 5
               refine wp_loopG (fun g_ a w=>∃ gu bp ci,∃ (bn:Nat),∃ cW dw dx cX cY dy dz dA dB dC cZ dD dE bq c2 c4 dF bu c5 c7 dG dH dI aT bI bJ el,g_=ci.length∧a=fr 186 (updL gu [(0,pp g 0),(3,pp (zz wi) 0),(4,pp (zz ag) 0),(5,sl bI aT bJ),(6,iI (bn:Int))])∧KH.sub am bp∧SR K bp wi w [.box bs g #[sl ao an ap,.string aq,sl au ar av,iI aw,.bool ax,iI ay,sl aA az aB,sl U d V,sl W f X,iI aG,iI aH] 78,.row br (sl U d V) 9 1 d.length aE,.row br (sl W f X) 3 1 f.length aF] [.box bs g #[sl dw cW dx,.string cX,sl dy cY dz,iI dA,.bool dB,iI dC,sl dD cZ dE,sl c2 bq c4,sl c5 bu c7,iI dH,iI dI] 78,.box (zz wi) (zz wi) (vS c q af A S y Y x Z ab J ac N B O G z I C u D).toArray 42,.box (zz wi) (zz ag) zS.toArray 42,.row br (sl c2 bq c4) 9 1 bq.length dF,.row br (sl c5 bu c7) 3 1 bu.length dG,.row (zz wi) (sl bI aT bJ) 87 5 aT.length el]∧u.drop bn=ci∧tF bp dw dx cW∧cX.size ≤ mB∧tP bp dy dz cY∧tS bp dD dE cZ∧Reps RStr 1 bq dF∧bq.length * 16 ≤ mB∧Reps (RInt .i64) 1 bu dG∧bu.length * 8 ≤ mB∧Reps (RDCase bp) 5 aT el∧aT.length * 80 ≤ mB∧f107_l1 k F c q A y J B z x S af ci bn cW cX cY dA dB dC cZ bq bu dH dI aT=some r_) u.length ?_ ?_
               ·exact ⟨_,am,u,0,aL,aU,aV,aM,aN,aW,aX,aI,aK,aQ,aP,aY,aZ,ad,ai,aj,a0,ae,ak,al,a2,aJ,aR,([]:LC),none,0,[],rfl,fR,kr,(qw.sel [1,2,3,4,5,0]),List.drop_zero,bd,be,bf,bg,bh,bi,bj,bk,(reps0 (R:=(RDCase am)) (size:=5)),(by simp),h⟩
               ·rintro _ _ qx ⟨gu,bp,ci,bn,cW,dw,dx,cX,cY,dy,dz,dA,dB,dC,cZ,dD,dE,bq,c2,c4,dF,bu,c5,c7,dG,dH,dI,aT,bI,bJ,el,rfl,rfl,b2,cj,c8,gv,gw,gx,gy,gz,gA,gB,gD,gF,qy,h⟩
                rcases ci with _ | ⟨⟨gG,gH,gI,gJ,gK⟩,ci⟩
                ·unfold f107_l1 at h
                 refine wp_seq (sr (m1 (iI (bn:Int)) (fd 10 Tyf42_10 rfl (l1 1 (sl C u D) cj Tya40 (lS u.length Tye40 (bcm (r:=false) rfl rfl (congrArg some (drop_nil_lt c8)) (wt (cndF rfl (wp_exit (thenX (thenX (blkX (thenN (wp_region_lit (m1 (sl bI aT bJ) (fd 10 Tyf42_10 rfl (sI 1 (sl bI aT bJ) ((vS c q af A S y Y x Z ab J ac N B O G z I bI aT bJ).toArray) cj Tys40 rfl rfl (fun tq qz=>(wpList_nil (blkN (thenN ?_)))))))))))))))))))))
                 obtain ⟨qA,qB,ck,qC⟩:=shutI (i:=5) (bytes:=80) (R:=fun K=>(RDCase K)) qz rfl (Nat.le_refl _) gF qy (fun hs=>(fun _ _ h=>RDCase.mono hs h))
                 exact ⟨_,qA,af,J,ab,ac,B,N,O,z,G,I,aT,bI,bJ,cW,dw,dx,cX,cY,dy,dz,dA,dB,dC,cZ,dD,dE,bq,c2,c4,dF,bu,c5,c7,dG,dH,dI,fR,(b2.trans ck),(qB.sel [1,2,0,3,4]),(ms a8 ((((m.sub.trans s).trans t).trans b2).trans ck)),(ms a5 ((((m.sub.trans s).trans t).trans b2).trans ck)),(ms a9 ((((m.sub.trans s).trans t).trans b2).trans ck)),qC,(mf gv ck),gw,(mp gx ck),(ms gy ck),(gz.mono (fun _ _ h=>h)),gA,(gB.mono (fun _ _ h=>h)),gD,h⟩
                ·unfold f107_l1 at h
                 refine wp_seq (sr (m1 (iI (bn:Int)) (fd 10 Tyf42_10 rfl (l1 1 (sl C u D) cj Tya40 (lS u.length Tye40 (bcm (r:=true) rfl rfl (congrArg some (drop_cons_t c8)) (wt (cndT rfl (wp_skip (thenN (wp_seq (wp_block (wp_region_lit (m1 (sl bI aT bJ) (m1 (pp g 0) (fd 10 Tyf42_10 rfl (l1 1 (sl C u D) cj Tya40 (m1 (iI (bn:Int)) ?_))))))))))))))))))
                 obtain ⟨qD,qE,tr,qF,ts,qG,gL⟩:=((mc a6 (((m.sub.trans s).trans t).trans b2))).row.at_ (drop_cons_at c8)
                 obtain ⟨gM,gN,gO,gP,rfl,tt,tu,tv⟩:=RDCase.open gL
                 refine idxN (b:=qD) (o:=qE) (i:=bn) Tye40 Tys87 rfl qF rfl (drop_cons_lt c8) (lD (vC gG gH gI gM gJ gN gO gK gP) Tya87 Tys87 rfl (fun j v hj=>cj.cell (kr.cell (qG j v hj))) ?_)
                 have gQ:=p034125 cj
                 obtain ⟨⟨⟨gR,⟨gT,gU,gV,gW,gX,gY⟩,em,en,gZ,g0⟩,⟨cl,cm,cn,co,cq⟩⟩,qH,h⟩:=ob h
                 refine cv ([pp g 0,.agg (vC gG gH gI gM gJ gN gO gK gP).toArray]) Tyb128 (IH128 qH (hG.mono (((m.sub.trans s).trans t).trans b2)) gv gw gx gy gz gA gB gD (Nat.le_trans hbr cj.size) gL (pt gQ)) ?_
                 rintro _ tw ⟨e6,g1,g2,g3,g4,g5,g6,e7,e8,g7,e9,fa,g8,tx,rfl,fb,qJ,qK,qL,qM,qN,qO,qP,qQ,g9⟩
                 have qR:=ca fb gQ
                 obtain ⟨ha,hb,hc,hd,rfl,ty,tz,tA⟩:=RDCase.open g9
                 refine bsl (e:=87) (cells:=(vC cl cm cn ha co hb hc cq hd).toArray) (vs:=[(0,.agg (vC cl cm cn ha co hb hc cq hd).toArray)]) qR rfl (buildSl_one Tye40 Tys87 Tyz87 rfl (by decide) (by decide) rfl) (fun tB qS=>?_)
                 obtain ⟨he,h⟩:=of_guard h
                 refine apR (R:=(RDCase e6)) (p:=(DCase.mk cl cm cn co cq)) (i:=6) (j:=0) qS rfl rfl Tye40 Tyi87 rfl (by decide) rfl rfl (gF.mono (fun _ _ h=>RDCase.mono fb.sub h)) g9 rfl rfl (Nat.le_refl _) he (by decide) (fun fc fe hf qT qU qV=>?_)
                 have qW:=p123456 qU
                 exact m2 (.slice fc (aT ++ [(DCase.mk cl cm cn co cq)]).length fe) (wpList_nil (blkN (thenN (wp_region_lit (m1 (iI (bn:Int)) (bar (r:=((bn + 1:Nat):Int)) rfl rfl (inc_ok (le_big (((mc a6 (((m.sub.trans s).trans t).trans b2))).len) (by decide) (drop_cons_lt c8))) (m2 (iI ((bn + 1:Nat):Int)) (wt (⟨_,Nat.lt_succ_self _,_,e6,ci,bn + 1,gR,g1,g2,gT,gU,g3,g4,gV,gW,gX,gY,g5,g6,em,e7,e8,g7,en,e9,fa,g8,gZ,g0,(aT ++ [(DCase.mk cl cm cn co cq)]),fc,fe,hf,rfl,fR,(b2.trans fb.sub),(qW.sel [0,3,4,1,2,5]),drop_cons_next c8,qJ,qK,qL,qM,qN,qO,qP,qQ,qV,(app_bound he),h⟩)))))))))
              ·refine cF e5 (sr (m1 (pp g 0) (fd 7 Tyf42_7 rfl (l1 1 (sl ab J ac) ah Tya36 ?_))))
               have hg:=p03412 ah
               obtain ⟨⟨⟨tD,⟨tG,tH,tI,tJ,tK,tL⟩,tM,tN,tO,tQ⟩,eo⟩,qX,h⟩:=ob h
               refine cv ([pp g 0,sl ab J ac,iI 0]) Tyb84 (IH84 qX (hG.mono ((m.sub.trans s).trans t)) bd be bf bg bh bi bj bk (Nat.le_trans hbr ah.size) (ms a8 ((m.sub.trans s).trans t)) (pt hg)) ?_
               rintro _ tR ⟨tT,tU,tV,tW,tX,tY,tZ,t0,t1,t2,t3,t4,t5,ep,eq,rfl,da,qY,qZ,q0,q1,q2,q3,q4,q5,q6⟩
               have q7:=ca da hg
               refine fd 7 Tyf42_7 rfl (sI 3 (sl ep eo eq) ((vS c q af A S y Y x Z ep eo eq N B O G z I C u D).toArray) q7 Tys36 rfl rfl (fun t6 es=>(wt (wp_region_lit (m1 (pp g 0) (fd 8 Tyf42_8 rfl (l1 3 (sl N B O) es Tya36 ?_)))))))
               obtain ⟨⟨⟨q8,⟨q9,ra,rb,rc,rd,re⟩,rf,rg,rh,ri⟩,ff⟩,rj,h⟩:=ob h
               refine cv ([pp g 0,sl N B O,iI 0]) Tyb84 (IH84 rj (hG.mono (((m.sub.trans s).trans t).trans da.sub)) qY qZ q0 q1 q2 q3 q4 q5 (Nat.le_trans hbr es.size) (ms a5 (((m.sub.trans s).trans t).trans da.sub)) (pt es)) ?_
               rintro _ t7 ⟨rk,rl,rm,rn,ro,rp,rq,rr,rs,rt,ru,rv,rw,fg,fh,rfl,dJ,rx,ry,rA,rB,rC,rD,rF,rG,rH⟩
               have rI:=ca dJ es
               exact fd 8 Tyf42_8 rfl (sI 3 (sl fg ff fh) ((vS c q af A S y Y x Z ep eo eq fg ff fh G z I C u D).toArray) rI Tys36 rfl rfl (fun t8 rJ=>(wpList_nil (blkN (thenN (⟨_,rk,af,eo,ep,eq,ff,fg,fh,z,G,I,u,C,D,q8,rl,rm,q9,ra,rn,ro,rb,rc,rd,re,rp,rq,rf,rr,rs,rt,rg,ru,rv,rw,rh,ri,fR,(da.sub.trans dJ.sub),(rJ.sel [3,4,0,1,2]),(ms q6 dJ.sub),rH,(ms a9 ((((m.sub.trans s).trans t).trans da.sub).trans dJ.sub)),(mc a6 ((((m.sub.trans s).trans t).trans da.sub).trans dJ.sub)),rx,ry,rA,rB,rC,rD,rF,rG,h⟩))))))
   ·rintro _ t9 ⟨fM,aS,bS,bC,bT,bU,bD,bV,bW,bE,bX,bY,bF,bZ,b0,dO,dP,dQ,dR,dS,dT,dU,eD,eE,eF,dV,dW,dX,b9,dY,dZ,d0,cb,d1,d2,d3,eG,eH,rfl,rK,hh,rL,rM,rN,rO,rP,rQ,rR,rT,rV,rW,rX,rY,h⟩
    unfold f107_j3 at h
    refine sr (lN 0 (vS c q bS A S y Y x Z bT bC bU bV bD bW bX bE bY bZ bF b0) hh Tya42 Tys42 (sI 1 (.agg (vS c q bS A S y Y x Z bT bC bU bV bD bW bX bE bY bZ bF b0).toArray) ((vS c q bS A S y Y x Z bT bC bU bV bD bW bX bE bY bZ bF b0).toArray) hh Tys42 rfl rfl (fun ua hi=>(wt (wp_ret ?_)))))
    have e_:=(Option.some.inj h).trans hr_
    obtain ⟨rZ,r1⟩:=Prod.mk.inj e_
    obtain ⟨r2,r3,r4,r5,r6,r7⟩:=Dlook.mk.inj rZ
    subst r2
    obtain ⟨r8,r9,sa,sb,sc,sd⟩:=DFunc.mk.inj r3
    subst r8
    subst r9
    subst sa
    subst sb
    subst sc
    subst sd
    subst r4
    subst r5
    subst r6
    subst r7
    subst r1
    exact retA1 rfl (resN (i:=1) (l:=(vS c q bS A S y Y x Z bT bC bU bV bD bW bX bE bY bZ bF b0)) hi rfl Tya42 Tys42 rfl rfl rfl) ⟨aS,dP,dQ,dT,dU,dW,dX,dY,dZ,d0,d1,d2,d3,(vS c q bS A S y Y x Z bT bC bU bV bD bW bX bE bY bZ bF b0),rfl,(hi.sel [2,3,4]),rP,rQ,rR,rT,rV,rW,rX,rY,(RDStmt.intro b3 fi (me fv ((s.trans t).trans rK)) rL rM rN rO)⟩
theorem f127_b_ok (k:Nat) (F:Fam84) (IH84:f84_spec F.f84) (IH107:f107_spec F.f107) (IH127:f127_spec F.f127) (IH128:f128_spec F.f128):f127_spec (f127_b k F):=by
 unfold f127_spec
 intro K wi g bs br ba bb bd be bf bg bh bi bj bk bm bn bo bp bq bu bv a N O bw bx bz t u v w x bA bB bC bD bE bF bG bH bI bJ bK bL b h hG S U V W X Y Z ab hbr ac ad c
 obtain ⟨r_,hr_,h⟩:=rz h
 refine enter Tryz.func127 rfl (n:=36) rfl ?_
 unfold f127_b at h
 refine sr (m2 (iI 0) (m2 nS (wt (sr (m1 (pp g 0) (nilc rfl (fd 8 Tyf78_3 rfl (l1 0 (sl N a O) c Tya67 (lS a.length Tye67 (m2 (iI (a.length:Int)) (wt (sr (m1 (pp g 0) (m1 (.string t) ?_))))))))))))))
 obtain ⟨⟨⟨bM,⟨bN,bO,bP,bQ,bR,bS⟩,bT,bU,bV,bW⟩,b⟩,ae,h⟩:=ob h
 refine cv ([pp g 0,.string t]) Tyb83 ((f83_ok k) ae (hG.mono kr) S U V W X Y Z ab (Nat.le_trans hbr c.size) ac (pt c)) ?_
 rintro _ bX ⟨bY,bZ,b0,b1,b2,b3,b4,b5,b6,b7,b8,b9,cb,rfl,p,af,ag,ah,ai,aj,ak,al,am⟩
 have q:=ca p c
 refine m2 (iI b) (wt (sr (m1 (pp g 0) (m1 (sl v u w) (m1 (iI x) ?_)))))
 obtain ⟨⟨⟨an,⟨ao,ap,aq,ar,au,av⟩,aw,d,ax,ay⟩,r⟩,az,h⟩:=ob h
 refine cv ([pp g 0,sl v u w,iI x]) Tyb84 (IH84 az (hG.mono p.sub) af ag ah ai aj ak al am (Nat.le_trans hbr q.size) (ms ad p.sub) (pt q)) ?_
 rintro _ cc ⟨aA,y,z,A,B,C,D,G,I,aB,e,f,aE,j,l,rfl,aF,aG,aH,aI,aJ,aK,aL,J,aM,aN⟩
 have s:=ca aF q
 refine m2 (sl j r l) (wt (sr (m1 (pp g 0) (m1 (pp g 0) (nilc rfl (fd 8 Tyf78_3 rfl (l1 0 (sl e d f) s Tya67 (m1 (iI (a.length:Int)) ?_))))))))
 obtain ⟨o,h⟩:=of_guard h
 refine slH (m:=(d.take (a.length:Int).toNat).length) Tye67 Tys3 rfl rfl o.1 (Int.le_trans o.2 (Int.ofNat_le.2 (row_cap (i:=2) s rfl))) (take_len o) (have aP:=s.cut_ (i:=2) (m:=(a.length:Int).toNat) rfl J (by have:=o.2; omega);(nilc rfl (fd 8 Tyf78_3 rfl (sI 0 (.slice e (d.take (a.length:Int).toNat).length f) #[sl y an z,.string ao,sl A ap B,iI aq,.bool ar,iI au,sl C av D,sl G aw I,.slice e (d.take (a.length:Int).toNat).length f,iI ax,iI ay] aP Tys67 rfl rfl (fun ce aQ=>(wt (sr (m1 (iI b) (m1 (sl j r l) (m2 (iI b) (m2 (sl j r l) (wt (wp_ret ?_)))))))))))))
 have e_:=(Option.some.inj h).trans hr_
 obtain ⟨aR,aS⟩:=Prod.mk.inj e_
 obtain ⟨aT,aU,aV,aW,aX,aY⟩:=Dlook.mk.inj aR
 subst aT
 obtain ⟨aZ,a0,a4,a5,a6,a7⟩:=DFunc.mk.inj aU
 subst aZ
 subst a0
 subst a4
 subst a5
 subst a6
 subst a7
 subst aV
 subst aW
 subst aX
 subst aY
 obtain ⟨a8,a9⟩:=Prod.mk.inj aS
 subst a8
 subst a9
 exact retA2 rfl (resT rfl) (resT rfl) ⟨aA,y,z,A,B,C,D,G,I,aB,e,f,(aE.take ((a.length:Int).toNat * 1)),j,l,rfl,aQ,aG,aH,aI,aJ,aK,aL,(Reps.take J _),(take_bound aM),aN⟩
theorem f128_b_ok (k:Nat) (F:Fam84) (IH84:f84_spec F.f84) (IH107:f107_spec F.f107) (IH127:f127_spec F.f127) (IH128:f128_spec F.f128):f128_spec (f128_b k F):=by
 unfold f128_spec
 intro K wi g bs br I J N O S U V W X Y Z ab ac f x y ad j z A ae af ag bg cV cW cX cY cZ c3 c4 c6 c7 c8 c9 da db h hG bh bi bj bk bm bn bo bp hbr bq bu
 obtain ⟨r_,hr_,h⟩:=rz h
 obtain ⟨a,b,m,ah,B⟩:=bg
 obtain ⟨ai,aj,C,D,rfl,ak,bv,aE⟩:=RDCase.open bq
 refine enter Tryz.func128 rfl (n:=31) rfl ?_
 unfold f128_b at h
 refine sr (bxoC (cs:=(vC a b m ai ah aj C B D).toArray) bu rfl rfl (fun al bw=>(aC zC.toArray bw Tyz87 (fun bx am=>(wt (sr (m1 (pp g 0) (fd 3 Tyf87_3 rfl (l1 1 (sl ai ah aj) am Tya39 ?_)))))))))
 have aF:=p23401 am
 obtain ⟨⟨⟨dc,⟨dd,de,df,dg,dh,di⟩,dj,dk,dl,dm⟩,c⟩,bz,h⟩:=ob h
 refine cv ([pp g 0,sl ai ah aj]) Tyb124 ((f124_ok k) bz (hG.mono kr) bh bi bj bk bm bn bo bp (Nat.le_trans hbr am.size) bv (pt aF)) ?_
 rintro _ dn ⟨dp,dq,dr,ds,dt,du,dv,dw,dx,dy,dz,dA,dB,d,e,rfl,G,aG,aH,aI,aJ,aK,aL,aM,aN,aP⟩
 have bA:=ca G aF
 refine fd 3 Tyf87_3 rfl (sI 4 (sl d c e) ((vC a b m d c e C B D).toArray) bA Tys39 rfl rfl (fun dC p=>(wt (wp_seq (sr (fd 0 Tyf87_0 rfl (l1 4 (iI a) p Tya3 (c0 (a == 1) (wt (cd h (fun an h=>?_) (fun an h=>?_)))))))))))
 ·refine cT an (sr (m1 (pp g 0) (fd 1 Tyf87_1 rfl (l1 4 (.string b) p Tya9 (fd 4 Tyf87_4 rfl (l1 4 (sl C B D) p Tya36 ?_))))))
  obtain ⟨⟨⟨bB,⟨bC,bD,bE,bF,bG,bH⟩,ao,ap,bI,bJ⟩,o,q⟩,bK,h⟩:=ob h
  refine cv ([pp g 0,.string b,sl C B D,iI 0]) Tyb127 (IH127 bK (hG.mono G.sub) aG aH aI aJ aK aL aM aN (Nat.le_trans hbr p.size) ak (ms aE G.sub) (pt p)) ?_
  rintro _ dD ⟨aQ,aR,aS,aT,aU,aV,aW,aq,ar,aX,au,av,aY,r,s,rfl,aZ,bL,bM,bN,bO,bP,bQ,bR,bS,bT⟩
  have bU:=ca aZ p
  refine m1 (.tuple #[iI o,sl r q s]) (ext (v:=iI o) rfl rfl (ext (v:=sl r q s) rfl rfl (fd 2 Tyf87_2 rfl (sI 4 (iI o) ((vC a b o d c e C B D).toArray) bU Tys3 rfl rfl (fun dE bV=>(fd 4 Tyf87_4 rfl (sI 4 (sl r q s) ((vC a b o d c e r q s).toArray) bV Tys36 rfl rfl (fun bW bX=>?_))))))))
  have a0:=bX
  refine wt (sr (lN 4 (vC a b o d c e r q s) a0 Tya87 Tys87 (sI 3 (.agg (vC a b o d c e r q s).toArray) ((vC a b o d c e r q s).toArray) a0 Tys87 rfl rfl (fun dF a2=>(wt (wp_ret (thenR ?_)))))))
  have e_:=(Option.some.inj h).trans hr_
  obtain ⟨bY,bZ⟩:=Prod.mk.inj e_
  obtain ⟨b0,b1,b2,b3,b4,b5⟩:=Dlook.mk.inj bY
  subst b0
  obtain ⟨b6,b7,b8,b9,cb,cc⟩:=DFunc.mk.inj b1
  subst b6
  subst b7
  subst b8
  subst b9
  subst cb
  subst cc
  subst b2
  subst b3
  subst b4
  subst b5
  subst bZ
  exact retA1 rfl (resN (i:=3) (l:=(vC a b o d c e r q s)) a2 rfl Tya87 Tys87 rfl rfl rfl) ⟨aQ,aR,aS,aT,aU,aV,aW,aq,ar,aX,au,av,aY,(vC a b o d c e r q s),rfl,(a2.sel [0,1,2]),bL,bM,bN,bO,bP,bQ,bR,bS,(RDCase.intro ak (me aP aZ.sub) bT)⟩
 ·refine cF an (wp_skip (thenN (sr (m1 (pp g 0) (fd 4 Tyf87_4 rfl (l1 4 (sl C B D) p Tya36 ?_))))))
  obtain ⟨⟨⟨ce,⟨cf,ch,ci,cj,ck,cl⟩,aw,ax,cm,cn⟩,t⟩,co,h⟩:=ob h
  refine cv ([pp g 0,sl C B D,iI 0]) Tyb84 (IH84 co (hG.mono G.sub) aG aH aI aJ aK aL aM aN (Nat.le_trans hbr p.size) (ms aE G.sub) (pt p)) ?_
  rintro _ dG ⟨a3,a4,a5,a6,a7,a8,a9,ay,az,ba,aA,aB,bb,u,w,rfl,bd,cq,cr,ct,cu,cw,cx,cy,cz,cA⟩
  have cB:=ca bd p
  refine fd 4 Tyf87_4 rfl (sI 4 (sl u t w) ((vC a b m d c e u t w).toArray) cB Tys36 rfl rfl (fun dH be=>(wt (sr (lN 4 (vC a b m d c e u t w) be Tya87 Tys87 (sI 3 (.agg (vC a b m d c e u t w).toArray) ((vC a b m d c e u t w).toArray) be Tys87 rfl rfl (fun cC cD=>?_)))))))
  have bf:=cD
  refine wt (wp_ret ?_)
  have e_:=(Option.some.inj h).trans hr_
  obtain ⟨cG,cH⟩:=Prod.mk.inj e_
  obtain ⟨cI,cJ,cK,cL,cM,cN⟩:=Dlook.mk.inj cG
  subst cI
  obtain ⟨cO,cP,cQ,cR,cS,cU⟩:=DFunc.mk.inj cJ
  subst cO
  subst cP
  subst cQ
  subst cR
  subst cS
  subst cU
  subst cK
  subst cL
  subst cM
  subst cN
  subst cH
  exact retA1 rfl (resN (i:=3) (l:=(vC a b m d c e u t w)) bf rfl Tya87 Tys87 rfl rfl rfl) ⟨a3,a4,a5,a6,a7,a8,a9,ay,az,ba,aA,aB,bb,(vC a b m d c e u t w),rfl,(bf.sel [0,1,2]),cq,cr,ct,cu,cw,cx,cy,cz,(RDCase.intro ak (me aP bd.sub) cA)⟩
theorem fam84_ok (k0:Nat) : ∀ k,f84_spec (fam84 k0 k).f84∧f107_spec (fam84 k0 k).f107∧f127_spec (fam84 k0 k).f127∧f128_spec (fam84 k0 k).f128:=by
 intro k
 induction k with
 | zero=>exact ⟨(by unfold f84_spec; intro _ _ _ _ _ _ _ _ _ _ _ _ _ _ _ _ _ _ _ _ _ _ _ _ _ _ _ _ _ _ _ _ _ _ _ _ _ _ _ _ _ _ _ _ h_; cases h_),(by unfold f107_spec; intro _ _ _ _ _ _ _ _ _ _ _ _ _ _ _ _ _ _ _ _ _ _ _ _ _ _ _ _ _ _ _ _ _ _ _ _ _ _ _ _ _ _ h_; cases h_),(by unfold f127_spec; intro _ _ _ _ _ _ _ _ _ _ _ _ _ _ _ _ _ _ _ _ _ _ _ _ _ _ _ _ _ _ _ _ _ _ _ _ _ _ _ _ _ _ _ _ _ _ h_; cases h_),(by unfold f128_spec; intro _ _ _ _ _ _ _ _ _ _ _ _ _ _ _ _ _ _ _ _ _ _ _ _ _ _ _ _ _ _ _ _ _ _ _ _ _ _ _ _ _ _ h_; cases h_)⟩
 | succ k ih=>exact ⟨f84_b_ok k0 (fam84 k0 k) ih.1 ih.2.1 ih.2.2.1 ih.2.2.2,f107_b_ok k0 (fam84 k0 k) ih.1 ih.2.1 ih.2.2.1 ih.2.2.2,f127_b_ok k0 (fam84 k0 k) ih.1 ih.2.1 ih.2.2.1 ih.2.2.2,f128_b_ok k0 (fam84 k0 k) ih.1 ih.2.1 ih.2.2.1 ih.2.2.2⟩
theorem f84_ok (k:Nat):f84_spec (f84 k):=(fam84_ok k k).1
theorem f107_ok (k:Nat):f107_spec (f107 k):=(fam84_ok k k).2.1
theorem f127_ok (k:Nat):f127_spec (f127 k):=(fam84_ok k k).2.2.1
theorem f128_ok (k:Nat):f128_spec (f128 k):=(fam84_ok k k).2.2.2
theorem f46_b_ok (k:Nat):f46_spec (f46_b k):=by
 unfold f46_spec
 intro K wi aP aQ aR ch dJ dK dL h hG ci cj ck
 obtain ⟨r_,hr_,h⟩:=rz h
 obtain ⟨f,c,g,j,ak,ag⟩:=ch
 obtain ⟨d,e,ah,ai,rfl,bF,aS,bM⟩:=RDFunc.open cj
 refine enter Tryz.func46 rfl (n:=47) rfl ?_
 unfold f46_b at h
 refine sr (bxoC (cs:=(vF f d c e g j ak ah ag ai).toArray) ck rfl rfl (fun al cl=>(aC #[nS,sE,nS,iI 0,vN,iI 0,nS,nS,nS,iI 0,iI 0] cl Tyz78 (fun am cm=>(aC zF.toArray cm Tyz38 (fun q bN=>(wt (sr (m1 (sl aQ aP aR) (lN 2 (vF f d c e g j ak ah ag ai) bN Tya38 Tys38 (bld (cells:=#[sl aQ aP aR,.string f,sl d c e,iI g,.bool j,iI ak,sl ah ag ai,nS,nS,iI 0,iI 0]) (vs:=[(0,sl aQ aP aR),(1,.agg (vF f d c e g j ak ah ag ai).toArray)]) rfl (fun w=>by kernel_rfl) (bxoC (cs:=#[sl aQ aP aR,.string f,sl d c e,iI g,.bool j,iI ak,sl ah ag ai,nS,nS,iI 0,iI 0]) bN rfl rfl (fun dM cn=>(m2 (pp (zz q) 0) (wt (wp_seq (sr (m2 (iI 0) (wt (wp_block ?_))))))))))))))))))))
 have co:=cn.row_ (zz wi) 9 1
 have cq:=co.row_ (zz wi) 3 1
 refine wp_loopG (fun g_ a w=>∃ bO aj ar,∃ (D:Nat),∃ az aT aU aA aB aV aW aX aY aZ aE a2 a3 G au av a4 I aw ax a5 a6 a7,g_=ar.length∧a=fr 47 (updL bO [(3,pp (zz wi) 0),(4,pp (zz al) 0),(5,pp (zz am) 0),(6,pp (zz q) 0),(7,iI (D:Int))])∧KH.sub K aj∧SR K aj wi w [] [.box (zz wi) (zz wi) (vF f d c e g j ak ah ag ai).toArray 38,.box (zz wi) (zz al) #[nS,sE,nS,iI 0,vN,iI 0,nS,nS,nS,iI 0,iI 0] 78,.box (zz wi) (zz am) zF.toArray 38,.box (zz wi) (zz q) #[sl aT az aU,.string aA,sl aV aB aW,iI aX,.bool aY,iI aZ,sl a2 aE a3,sl au G av,sl aw I ax,iI a6,iI a7] 78,.row (zz wi) (sl au G av) 9 1 G.length a4,.row (zz wi) (sl aw I ax) 3 1 I.length a5]∧c.drop D=ar∧tF aj aT aU az∧aA.size ≤ mB∧tP aj aV aW aB∧tS aj a2 a3 aE∧Reps RStr 1 G a4∧G.length * 16 ≤ mB∧Reps (RInt .i64) 1 I a5∧I.length * 8 ≤ mB∧f46_l1 k f c g j ag ar D az aA aB aX aY aZ aE G I a6 a7=some r_) c.length ?_ ?_
 ·exact ⟨_,K,c,0,aP,aQ,aR,f,c,d,e,g,j,ak,ag,ah,ai,([]:LB),none,0,[],([]:List Int),none,0,[],0,0,rfl,fR,kr,(cq.sel [5,4,3,2,1,0]),List.drop_zero,ci,bF,aS,bM,(reps0 (R:=RStr) (size:=1)),(by simp),(reps0 (R:=(RInt .i64)) (size:=1)),(by simp),h⟩
 ·rintro _ _ bP ⟨bO,aj,ar,D,az,aT,aU,aA,aB,aV,aW,aX,aY,aZ,aE,a2,a3,G,au,av,a4,I,aw,ax,a5,a6,a7,rfl,rfl,an,ao,aF,bQ,bR,bS,bT,bU,bV,bW,bX,h⟩
  rcases ar with _ | ⟨⟨bY,dN⟩,ar⟩
  ·unfold f46_l1 at h
   refine wp_seq (sr (m1 (iI (D:Int)) (fd 1 Tyf38_1 rfl (l1 0 (sl d c e) ao Tya35 (lS c.length Tye35 (bcm (r:=false) rfl rfl (congrArg some (drop_nil_lt aF)) (wt (cndF rfl (wp_exit (thenX (thenX (blkX (thenN (sr (m1 (pp (zz q) 0) (fd 5 Tyf38_5 rfl (l1 0 (sl ah ag ai) ao Tya36 ?_)))))))))))))))))
   have bZ:=p345012 ao
   obtain ⟨⟨⟨dO,⟨dP,dQ,dR,dS,dT,dU⟩,s,dV,dW,dX⟩,z⟩,cr,h⟩:=ob h
   refine cv ([pp (zz q) 0,sl ah ag ai,iI 0]) Tyb84 ((f84_ok k) cr (hG.mono an) bQ bR bS bT bU bV bW bX (Nat.le_trans (Nat.le_refl _) ao.size) (ms bM an) (pt bZ)) ?_
   rintro _ dY ⟨dZ,d0,d1,d2,d3,d4,d5,ct,cu,d6,d7,d8,d9,A,B,rfl,bC,cw,cx,cy,cz,cA,cB,cC,cD,b0⟩
   have cG:=ca bC bZ
   refine fd 5 Tyf38_5 rfl (sI 3 (sl A z B) ((vF f d c e g j ak A z B).toArray) cG Tys36 rfl rfl (fun ea b1=>(wt (sr (m1 (pp (zz q) 0) (nilc rfl (fd 7 Tyf78_2 rfl (l1 0 (sl ct s cu) b1 Tya46 (lS s.length Tye46 (fd 4 Tyf38_4 rfl (sI 3 (iI (s.length:Int)) ((vF f d c e g j (s.length:Int) A z B).toArray) b1 Tys3 rfl rfl (fun ec bD=>(wt (sr (m1 (pp (zz q) 0) (fd 4 Tyf38_4 rfl (l1 3 (iI (s.length:Int)) bD Tya3 (c0 (decide ((s.length:Int) ≤ 32)) ?_))))))))))))))))))
   obtain ⟨⟨J,⟨N,O,S,U,V,W⟩,m,p,X,Y⟩,cH,h⟩:=ob h
   refine cv ([pp (zz q) 0,.bool (decide ((s.length:Int) ≤ 32)),iI 5]) Tyb85 ((f85_ok k) cH (hG.mono (an.trans bC.sub)) cw cx cy cz cA cB cC cD (Nat.le_trans (Nat.le_refl _) bD.size) (pt bD)) ?_
   rintro _ ed ⟨C,Z,ab,ac,ad,ae,af,t,u,a8,x,y,a9,rfl,ba,b2,b3,b4,b5,b6,b7,b8,b9⟩
   have cI:=ca ba bD
   refine wt (wp_cut (fun a w=>∃ cb aG bb bd aH aI be bf bg bh bi aJ bj bk ap bm bn bG aq bo bp bH bq br aK aL bs bu bv bw bx aM bz bA,a=fr 47 (updL cb [(4,pp (zz al) 0),(5,pp (zz am) 0)])∧SR K C wi w [] [.box (zz wi) (zz al) #[sl bb aG bd,.string aH,sl be aI bf,iI bg,.bool bh,iI bi,sl bj aJ bk,sl bm ap bn,sl bo aq bp,iI bq,iI br] 78,.box (zz wi) (zz am) (vF aK bs aL bu bv bw bx bz aM bA).toArray 38,.row (zz wi) (sl bm ap bn) 9 1 ap.length bG,.row (zz wi) (sl bo aq bp) 3 1 aq.length bH]∧tF C bb bd aG∧aH.size ≤ mB∧tP C be bf aI∧tS C bj bk aJ∧Reps RStr 1 ap bG∧ap.length * 16 ≤ mB∧Reps (RInt .i64) 1 aq bH∧aq.length * 8 ≤ mB∧aK.size ≤ mB∧tP C bs bu aL∧tS C bz bA aM∧f46_j1 k aG aH aI bg bh bi aJ ap aq bq br aK aL bv bw bx aM=some r_) ?_ ?_)
   ·have ay:=cI.drew
    refine regAny (E:=[4,5]) (F:=FW C [.box (zz wi) (zz q) #[sl Z J ab,.string N,sl ac O ad,iI S,.bool U,iI V,sl ae W af,sl t m u,sl x p y,iI X,iI Y] 78,.row (zz wi) (sl t m u) 9 1 m.length a8,.row (zz wi) (sl x p y) 3 1 p.length a9,.box (zz wi) (zz wi) (vF f d c e g j (s.length:Int) A z B).toArray 38,.box (zz wi) (zz al) #[nS,sE,nS,iI 0,vN,iI 0,nS,nS,nS,iI 0,iI 0] 78,.box (zz wi) (zz am) zF.toArray 38]) (L:=(lb 6 0)) ymx rfl rfl (tk 0 (pp (zz q) 0) (lb 6 1) rfl (fun w=>mv_r (v:=pp (zz q) 0) rfl) (heldF (fq [0,1,2,3,4,5] ay)) (tk 1 (pp (zz q) 0) (lb 6 3) rfl (fun w=>nilc_r rfl) (heldF (fq [0,1,2,3,4,5] ay)) (tf 2 (.agg #[sl Z J ab,.string N,sl ac O ad,iI S,.bool U,iI V,sl ae W af,sl t m u,sl x p y,iI X,iI Y]) ([[4,2],[5,2]]) (lb 6 7) rfl (fq [0,1,2,3,4,5] ay) (fun w hF=>lbN_r (i:=0) (l:=[sl Z J ab,.string N,sl ac O ad,iI S,.bool U,iI V,sl ae W af,sl t m u,sl x p y,iI X,iI Y]) hF rfl Tya78 Tys78 rfl rfl rfl) (anyAll (rs:=[3,4]) (by kernel_rfl) (by decide) (allC ?_ (allC ?_ allN))))))
    ·refine opL (i:=3) rfl (lN 3 (vF f d c e g j (s.length:Int) A z B) ay Tya38 Tys38 (wt ⟨heldF (fq [0,1,2,3,4,5] ay),aO 4 rfl (sI 4 (.agg #[sl Z J ab,.string N,sl ac O ad,iI S,.bool U,iI V,sl ae W af,sl t m u,sl x p y,iI X,iI Y]) #[sl Z J ab,.string N,sl ac O ad,iI S,.bool U,iI V,sl ae W af,sl t m u,sl x p y,iI X,iI Y] ay Tys78 rfl rfl (fun bI bJ=>?_))⟩))
     have bE:=bJ
     exact wt ⟨heldE (i:=4) rfl rfl,aO 5 rfl (sI 5 (.agg (vF f d c e g j (s.length:Int) A z B).toArray) ((vF f d c e g j (s.length:Int) A z B).toArray) bE Tys38 rfl rfl (fun cJ bK=>(wt ⟨heldE (i:=5) rfl rfl,aD (thenN (⟨_,J,Z,ab,N,O,ac,ad,S,U,V,W,ae,af,m,t,u,a8,p,x,y,a9,X,Y,f,c,d,e,g,j,(s.length:Int),z,A,B,fR,(bK.sel [4,5,1,2]),b2,b3,b4,b5,b6,b7,b8,b9,bF,(mp aS ((an.trans bC.sub).trans ba.sub)),(ms b0 ba.sub),h⟩))⟩)))⟩
    ·refine opL (i:=4) rfl (sI 4 (.agg #[sl Z J ab,.string N,sl ac O ad,iI S,.bool U,iI V,sl ae W af,sl t m u,sl x p y,iI X,iI Y]) #[sl Z J ab,.string N,sl ac O ad,iI S,.bool U,iI V,sl ae W af,sl t m u,sl x p y,iI X,iI Y] ay Tys78 rfl rfl (fun bI bJ=>?_))
     have bE:=bJ
     exact wt ⟨heldE (i:=4) rfl rfl,aO 3 rfl (lN 3 (vF f d c e g j (s.length:Int) A z B) bE Tya38 Tys38 (wt ⟨heldE (i:=4) rfl rfl,aO 5 rfl (sI 5 (.agg (vF f d c e g j (s.length:Int) A z B).toArray) ((vF f d c e g j (s.length:Int) A z B).toArray) bE Tys38 rfl rfl (fun cJ bK=>(wt ⟨heldE (i:=5) rfl rfl,aD (thenN (⟨_,J,Z,ab,N,O,ac,ad,S,U,V,W,ae,af,m,t,u,a8,p,x,y,a9,X,Y,f,c,d,e,g,j,(s.length:Int),z,A,B,fR,(bK.sel [4,5,1,2]),b2,b3,b4,b5,b6,b7,b8,b9,bF,(mp aS ((an.trans bC.sub).trans ba.sub)),(ms b0 ba.sub),h⟩))⟩)))⟩))⟩
   ·rintro _ ee ⟨cb,aG,bb,bd,aH,aI,be,bf,bg,bh,bi,aJ,bj,bk,ap,bm,bn,bG,aq,bo,bp,bH,bq,br,aK,aL,bs,bu,bv,bw,bx,aM,bz,bA,rfl,bL,cK,cL,cM,cN,cO,cP,cQ,cR,cS,cU,cV,h⟩
    unfold f46_j1 at h
    refine wp_ret ?_
    obtain ⟨ef,cW,bB,cX⟩:=shutI (i:=2) (bytes:=16) (R:=fun K=>RStr) bL rfl (Nat.le_refl _) cO cP (fun hs=>(fun _ _ h=>h))
    obtain ⟨cY,cZ,aN,c3⟩:=shutI (i:=2) (bytes:=8) (R:=fun K=>(RInt .i64)) cW rfl (Nat.le_refl _) (cQ.mono (fun _ _ h=>h)) cR (fun hs=>(fun _ _ h=>h))
    cases (oi h).trans hr_
    exact retA2 rfl (resN (i:=0) (l:=[sl bb aG bd,.string aH,sl be aI bf,iI bg,.bool bh,iI bi,sl bj aJ bk,sl bm ap bn,sl bo aq bp,iI bq,iI br]) bL rfl Tya78 Tys78 rfl rfl rfl) (resN (i:=1) (l:=(vF aK bs aL bu bv bw bx bz aM bA)) bL rfl Tya38 Tys38 rfl rfl rfl) ⟨cY,[sl bb aG bd,.string aH,sl be aI bf,iI bg,.bool bh,iI bi,sl bj aJ bk,sl bm ap bn,sl bo aq bp,iI bq,iI br],(vF aK bs aL bu bv bw bx bz aM bA),rfl,(cZ.sel []),(RDlook.intro (mf cK (bB.trans aN)) cL (mp cM (bB.trans aN)) (ms cN (bB.trans aN)) (cX.mono aN (fun _ _ h=>h)) c3),(RDFunc.intro cS (mp cU (bB.trans aN)) (ms cV (bB.trans aN)))⟩
  ·unfold f46_l1 at h
   refine wp_seq (sr (m1 (iI (D:Int)) (fd 1 Tyf38_1 rfl (l1 0 (sl d c e) ao Tya35 (lS c.length Tye35 (bcm (r:=true) rfl rfl (congrArg some (drop_cons_t aF)) (wt (cndT rfl (wp_skip (thenN (wp_seq (wp_block (wp_region_lit (m1 (pp (zz q) 0) (fd 1 Tyf38_1 rfl (l1 0 (sl d c e) ao Tya35 (m1 (iI (D:Int)) ?_)))))))))))))))))
   obtain ⟨c4,cc,eg,c6,eh,c7,c8⟩:=((mp aS an)).row.at_ (drop_cons_at aF)
   obtain ⟨rfl,c9⟩:=RDParam.open c8
   refine idxN (b:=c4) (o:=cc) (i:=D) Tye35 Tys82 rfl c6 rfl (drop_cons_lt aF) (fd (cc + D * 2 + 0) Tyf82_0 rfl (ld1 (v:=.string bY) Tya9 rfl (ao.cell (kr.cell (c7 0 _ rfl))) ?_))
   have ce:=p345012 ao
   obtain ⟨⟨⟨da,⟨db,dc,dd,de,df,dg⟩,dh,di,dj,dk⟩,ei⟩,dl,h⟩:=ob h
   refine cv ([pp (zz q) 0,.string bY]) Tyb83 ((f83_ok k) dl (hG.mono an) bQ bR bS bT bU bV bW bX (Nat.le_trans (Nat.le_refl _) ao.size) c9 (pt ce)) ?_
   rintro _ ej ⟨dm,dn,dp,dq,dr,ds,dt,du,dv,dw,dx,dy,dz,rfl,cf,dA,dB,dC,dD,dE,dF,dG,dH⟩
   have dI:=ca cf ce
   exact wpList_nil (blkN (thenN (wp_region_lit (m1 (iI (D:Int)) (bar (r:=((D + 1:Nat):Int)) rfl rfl (inc_ok (le_big (((mp aS an)).len) (by decide) (drop_cons_lt aF))) (m2 (iI ((D + 1:Nat):Int)) (wt (⟨_,Nat.lt_succ_self _,_,dm,ar,D + 1,da,dn,dp,db,dc,dq,dr,dd,de,df,dg,ds,dt,dh,du,dv,dw,di,dx,dy,dz,dj,dk,rfl,fR,(an.trans cf.sub),(dI.sel [3,4,5,0,1,2]),drop_cons_next aF,dA,dB,dC,dD,dE,dF,dG,dH,h⟩))))))))
theorem f46_ok (k:Nat):f46_spec (f46 k):=f46_b_ok k
end Go.Proofs.YtoajecnoffhlbaaGreatDoor
