/- Words of the same proof, part 4: what the last text needs; nothing is claimed here. -/
import Derived.Test.YtoajecnoffhlbaaGreatDoorA3
set_option linter.unusedVariables false
set_option linter.unusedSimpArgs false
set_option maxRecDepth 100000
set_option maxHeartbeats 4000000
namespace Go.Proofs.YtoajecnoffhlbaaGreatDoor
open Go
theorem f101_b_ok (k:Nat):f101_spec (f101_b k):=by
 unfold f101_spec
 intro K wi g bs al am an bm cI cJ cK cL cM h hG bn bo
 obtain ⟨r_,hr_,h⟩:=rz h
 obtain ⟨f⟩:=bm
 obtain ⟨ai,c1,rfl,a2⟩:=RDProgram.open bn
 refine enter Tryz.func101 rfl (n:=87) rfl ?_
 unfold f101_b at h
 refine sr (bxoC (cs:=#[sl ai f c1]) bo rfl rfl (fun cN aI=>(m2 vN (wt (wp_seq (sr (fd 0 Tyf24_0 rfl (l1 0 (sl ai f c1) aI Tya22 (lS f.length Tye22 ?_)))))))))
 obtain ⟨bp,bq,h⟩:=ob h
 refine cv ([iI (f.length:Int),iI 1,iI 16]) Tyb116 ((f116_ok k) bq (hG.mono kr) (pt aI)) ?_
 rintro _ cO ⟨aJ,rfl,x⟩
 have aK:=ca x aI
 refine uN bp (wt (cd h (fun aL h=>?_) (fun aL h=>?_)))
 ·refine cT aL (sr (m2 vN (wt (wp_ret (thenR ?_)))))
  have e_:=(Option.some.inj h).trans hr_
  obtain ⟨br,bu⟩:=Prod.mk.inj e_
  obtain ⟨bv,bw,bx⟩:=Dcounter.mk.inj br
  subst bv
  subst bw
  subst bx
  subst bu
  exact retA1 rfl (resT rfl) ⟨aJ,rfl,(aK.sel [1])⟩
 ·refine cF aL (wp_skip (thenN (wp_seq (sr (fd 0 Tyf24_0 rfl (l1 0 (sl ai f c1) aK Tya22 (lS f.length Tye22 (m1 (iI 0) (wt (wp_block (wp_loopG (fun g_ a w=>∃ a3 ao O,∃ (q:Nat),∃ az aA aB,g_=O.length∧a=fr 87 (updL a3 [(0,pp g 0),(15,sl ai f c1),(16,iI (f.length:Int)),(17,iI (q:Int))])∧KH.sub aJ ao∧SR K ao wi w [.box bs g #[iI al,iI am,.bool an] 132] [.box bs g #[iI az,iI aA,.bool aB] 132]∧f.drop q=O∧f101_l1 k O q az aA aB=some r_) f.length ?_ ?_)))))))))))
  ·exact ⟨_,aJ,f,0,al,am,an,rfl,fR,kr,(aK.sel [1]),List.drop_zero,h⟩
  ·rintro _ _ aj ⟨a3,ao,O,q,az,aA,aB,rfl,rfl,y,aM,ap,h⟩
   rcases O with _ | ⟨⟨X,e,c,A,S,z⟩,O⟩
   ·unfold f101_l1 at h
    refine sr (bcm (r:=false) rfl rfl (congrArg some (drop_nil_lt ap)) (wt (wp_seq (cndF rfl (wp_exit (thenX (thenX (blkX (thenN (sr (m2 vT (wt (wp_ret ?_)))))))))))))
    have e_:=(Option.some.inj h).trans hr_
    obtain ⟨bz,bA⟩:=Prod.mk.inj e_
    obtain ⟨bB,bC,bD⟩:=Dcounter.mk.inj bz
    subst bB
    subst bC
    subst bD
    subst bA
    exact retA1 rfl (resT rfl) ⟨ao,rfl,aM⟩
   ·unfold f101_l1 at h
    refine sr (bcm (r:=true) rfl rfl (congrArg some (drop_cons_t ap)) (wt (wp_seq (cndT rfl (wp_skip (thenN (wp_seq (wp_block (sr ?_)))))))))
    obtain ⟨bE,bF,cP,bG,cQ,bH,bI⟩:=((mf a2 (x.sub.trans y))).row.at_ (drop_cons_at ap)
    obtain ⟨B,C,Y,Z,rfl,bJ,a4,bK⟩:=RDFunc.open bI
    refine idxN (b:=bE) (o:=bF) (i:=q) Tye22 Tys38 rfl bG rfl (drop_cons_lt ap) (lD (vF X B e C c A S Y z Z) Tya38 Tys38 rfl (fun j v hj=>aM.cell (kr.cell (bH j v hj))) (aC zF.toArray aM Tyz38 (fun cR bL=>(sI 0 (.agg (vF X B e C c A S Y z Z).toArray) ((vF X B e C c A S Y z Z).toArray) bL Tys38 rfl rfl (fun bM bN=>(wt (wp_seq (wp_cut (fun a w=>∃ a5 aq ad ae af aN,a=fr 87 (updL a5 [(0,pp g 0),(6,pp (zz aj) 0),(15,sl ai f c1),(16,iI (f.length:Int)),(17,iI (q:Int)),(62,.bool aN)])∧KH.sub ao aq∧SR K aq wi w [.box bs g #[iI al,iI am,.bool an] 132] [.box bs g #[iI ad,iI ae,.bool af] 132,.box (zz wi) (zz aj) (vF X B e C c A S Y z Z).toArray 38]∧f101_j1 k q e z ad ae af aN (f101_l1 k O)=some r_) ?_ ?_))))))))
    ·refine wp_region_lit (m1 (pp g 0) ?_)
     have a6:=p10 bN
     obtain ⟨⟨⟨U,V,m⟩,a7⟩,bO,h⟩:=ob h
     refine cv ([pp g 0,iI 0]) Tyb117 ((f117_ok k) bO (hG.mono (x.sub.trans y)) (pt a6)) ?_
     rintro _ cS ⟨bP,rfl,l⟩
     have aE:=ca l a6
     refine uN a7 (m1 (.bool (!a7)) (cd h (fun D h=>?_) (fun D h=>?_)))
     ·exact o1 24 D (o1 24 D (o1 24 D (o1 24 D (m3 true vT (cg D) (m1 vT (o0 30 (o0 30 (o0 30 (o0 30 (m3 true vT rfl (m1 vT (o0 36 (o0 36 (o0 36 (o0 36 (ou 40 (ou 40 (ou 40 (ou 40 (ou 40 (o0 36 (m3 true vT rfl (m1 vT (o0 48 (o0 48 (o0 48 (ou 51 (ou 51 (ou 51 (o0 48 (m3 true vT rfl (m1 vT (o0 57 (o0 57 (o0 57 (o0 57 (m3 true vT rfl (wt (⟨_,bP,U,V,m,true,fR,l.sub,aE,h⟩)))))))))))))))))))))))))))))))))))))))
     ·refine n1 24 D (fd 0 Tyf38_0 rfl (n1 24 D (l1 1 (.string X) aE Tya9 (n1 24 D ?_))))
      obtain ⟨aP,bQ,h⟩:=ob h
      refine cv ([.string X]) Tyb63 ((f63_ok k) bQ (hG.mono ((x.sub.trans y).trans l.sub)) bJ (pt aE)) ?_
      rintro _ cU ⟨au,rfl,s⟩
      have d:=ca s aE
      refine n1 24 D (uN aP (m3 false (.bool (!aP)) (cg D) (m1 (.bool (!aP)) (cd h (fun G h=>?_) (fun G h=>?_)))))
      ·exact o1 30 G (o1 30 G (o1 30 G (o1 30 G (m3 true vT (cg G) (m1 vT (o0 36 (o0 36 (o0 36 (o0 36 (ou 40 (ou 40 (ou 40 (ou 40 (ou 40 (o0 36 (m3 true vT rfl (m1 vT (o0 48 (o0 48 (o0 48 (ou 51 (ou 51 (ou 51 (o0 48 (m3 true vT rfl (m1 vT (o0 57 (o0 57 (o0 57 (o0 57 (m3 true vT rfl (wt (⟨_,au,U,V,m,true,fR,(l.sub.trans s.sub),d,h⟩)))))))))))))))))))))))))))))))))
      ·refine n1 30 G (fd 1 Tyf38_1 rfl (n1 30 G (l1 1 (sl B e C) d Tya35 (n1 30 G (lS e.length Tye35 (n1 30 G (c0 (decide ((e.length:Int) > 4)) (m3 false (.bool (decide ((e.length:Int) > 4))) (cg G) (m1 (.bool (decide ((e.length:Int) > 4))) (cd h (fun p h=>?_) (fun p h=>?_)))))))))))
       ·exact o1 36 p (o1 36 p (o1 36 p (o1 36 p (ou 40 (ou 40 (ou 40 (ou 40 (ou 40 (o1 36 p (m3 true vT (cg p) (m1 vT (o0 48 (o0 48 (o0 48 (ou 51 (ou 51 (ou 51 (o0 48 (m3 true vT rfl (m1 vT (o0 57 (o0 57 (o0 57 (o0 57 (m3 true vT rfl (wt (⟨_,au,U,V,m,true,fR,(l.sub.trans s.sub),d,h⟩)))))))))))))))))))))))))))
       ·refine n1 36 p (fd 4 Tyf38_4 rfl (n1 36 p (l1 1 (iI S) d Tya3 (n1 36 p (c0 (S != 0) (n1 36 p (m1 (.bool (S != 0)) (cd h (fun t h=>?_) (fun t h=>?_)))))))))
        ·refine n1 40 t (m1 (pp g 0) (n1 40 t (nilc rfl (n1 40 t (fd 2 Tyf132_2 rfl (n1 40 t (l1 0 (.bool m) d Tya4 (n1 40 t (uN m (n1 36 p (m3 true (.bool (!m)) (cg t) (m3 false (.bool (!m)) (cg p) (m1 (.bool (!m)) (cd h (fun u h=>?_) (fun u h=>?_)))))))))))))))
         ·exact o1 48 u (o1 48 u (o1 48 u (ou 51 (ou 51 (ou 51 (o1 48 u (m3 true vT (cg u) (m1 vT (o0 57 (o0 57 (o0 57 (o0 57 (m3 true vT rfl (wt (⟨_,au,U,V,m,true,fR,(l.sub.trans s.sub),d,h⟩)))))))))))))))
         ·refine n1 48 u (fd 3 Tyf38_3 rfl (n1 48 u (l1 1 (.bool A) d Tya4 (n1 48 u (m1 (.bool A) (cd h (fun ab h=>?_) (fun ab h=>?_)))))))
          ·refine n1 51 ab (fd 2 Tyf38_2 rfl (n1 51 ab (l1 1 (iI c) d Tya3 (n1 51 ab (c0 (c != 0) (n1 48 u (m3 true (.bool (c != 0)) (cg ab) (m3 false (.bool (c != 0)) (cg u) (m1 (.bool (c != 0)) (cd h (fun I h=>?_) (fun I h=>?_)))))))))))
           ·exact o1 57 I (o1 57 I (o1 57 I (o1 57 I (m3 true vT (cg I) (wt (⟨_,au,U,V,m,true,fR,(l.sub.trans s.sub),d,h⟩))))))
           ·refine n1 57 I (fd 2 Tyf38_2 rfl (n1 57 I (l1 1 (iI c) d Tya3 (n1 57 I ?_))))
            obtain ⟨aQ,bR,h⟩:=ob h
            refine cv ([iI c,iI 0,iI 6]) Tyb116 ((f116_ok k) bR (hG.mono (((x.sub.trans y).trans l.sub).trans s.sub)) (pt d)) ?_
            rintro _ cV ⟨bS,rfl,a8⟩
            have bT:=ca a8 d
            exact n1 57 I (uN aQ (m3 false (.bool (!aQ)) (cg I) (wt (⟨_,bS,U,V,m,(!aQ),fR,((l.sub.trans s.sub).trans a8.sub),bT,h⟩))))
          ·refine o1 51 ab (o1 51 ab (o1 51 ab (n1 48 u (m3 false vN (cg ab) (m3 false vN (cg u) (m1 vN (n0 57 (fd 2 Tyf38_2 rfl (n0 57 (l1 1 (iI c) d Tya3 (n0 57 ?_)))))))))))
           obtain ⟨aR,bU,h⟩:=ob h
           refine cv ([iI c,iI 0,iI 6]) Tyb116 ((f116_ok k) bU (hG.mono (((x.sub.trans y).trans l.sub).trans s.sub)) (pt d)) ?_
           rintro _ cW ⟨bV,rfl,a9⟩
           have bW:=ca a9 d
           exact n0 57 (uN aR (m3 false (.bool (!aR)) rfl (wt (⟨_,bV,U,V,m,(!aR),fR,((l.sub.trans s.sub).trans a9.sub),bW,h⟩))))
        ·refine o1 40 t (o1 40 t (o1 40 t (o1 40 t (o1 40 t (n1 36 p (m3 false vN (cg t) (m3 false vN (cg p) (m1 vN (n0 48 (fd 3 Tyf38_3 rfl (n0 48 (l1 1 (.bool A) d Tya4 (n0 48 (m1 (.bool A) (cd h (fun ac h=>?_) (fun ac h=>?_))))))))))))))))
         ·refine n1 51 ac (fd 2 Tyf38_2 rfl (n1 51 ac (l1 1 (iI c) d Tya3 (n1 51 ac (c0 (c != 0) (n0 48 (m3 true (.bool (c != 0)) (cg ac) (m3 false (.bool (c != 0)) rfl (m1 (.bool (c != 0)) (cd h (fun J h=>?_) (fun J h=>?_)))))))))))
          ·exact o1 57 J (o1 57 J (o1 57 J (o1 57 J (m3 true vT (cg J) (wt (⟨_,au,U,V,m,true,fR,(l.sub.trans s.sub),d,h⟩))))))
          ·refine n1 57 J (fd 2 Tyf38_2 rfl (n1 57 J (l1 1 (iI c) d Tya3 (n1 57 J ?_))))
           obtain ⟨aS,bX,h⟩:=ob h
           refine cv ([iI c,iI 0,iI 6]) Tyb116 ((f116_ok k) bX (hG.mono (((x.sub.trans y).trans l.sub).trans s.sub)) (pt d)) ?_
           rintro _ cX ⟨bY,rfl,ba⟩
           have bZ:=ca ba d
           exact n1 57 J (uN aS (m3 false (.bool (!aS)) (cg J) (wt (⟨_,bY,U,V,m,(!aS),fR,((l.sub.trans s.sub).trans ba.sub),bZ,h⟩))))
         ·refine o1 51 ac (o1 51 ac (o1 51 ac (n0 48 (m3 false vN (cg ac) (m3 false vN rfl (m1 vN (n0 57 (fd 2 Tyf38_2 rfl (n0 57 (l1 1 (iI c) d Tya3 (n0 57 ?_)))))))))))
          obtain ⟨aT,b0,h⟩:=ob h
          refine cv ([iI c,iI 0,iI 6]) Tyb116 ((f116_ok k) b0 (hG.mono (((x.sub.trans y).trans l.sub).trans s.sub)) (pt d)) ?_
          rintro _ cY ⟨b1,rfl,bb⟩
          have b2:=ca bb d
          exact n0 57 (uN aT (m3 false (.bool (!aT)) rfl (wt (⟨_,b1,U,V,m,(!aT),fR,((l.sub.trans s.sub).trans bb.sub),b2,h⟩))))
    ·rintro _ cZ ⟨a5,aq,ad,ae,af,aN,rfl,ak,aU,h⟩
     unfold f101_j1 at h
     refine cd h (fun aV h=>?_) (fun aV h=>?_)
     ·refine cT aV (sr (m2 vN (wt (wp_ret (thenR (blkR (thenR (thenR (blkR (thenR ?_))))))))))
      have e_:=(Option.some.inj h).trans hr_
      obtain ⟨b3,b4⟩:=Prod.mk.inj e_
      obtain ⟨b5,b6,b7⟩:=Dcounter.mk.inj b3
      subst b5
      subst b6
      subst b7
      subst b4
      exact retA1 rfl (resT rfl) ⟨aq,rfl,(aU.sel [0])⟩
     ·refine cF aV (wp_skip (thenN (wp_seq (sr (fd 1 Tyf38_1 rfl (l1 1 (sl B e C) aU Tya35 (lS e.length Tye35 (m1 (iI 0) (wt (wp_block (wp_loopG (fun g_ a w=>∃ bd aF ag,∃ (W:Nat),g_=ag.length∧a=fr 87 (updL bd [(0,pp g 0),(6,pp (zz aj) 0),(15,sl ai f c1),(16,iI (f.length:Int)),(17,iI (q:Int)),(64,sl B e C),(65,iI (e.length:Int)),(66,iI (W:Int))])∧KH.sub aq aF∧SR K aF wi w [.box bs g #[iI al,iI am,.bool an] 132] [.box bs g #[iI ad,iI ae,.bool af] 132,.box (zz wi) (zz aj) (vF X B e C c A S Y z Z).toArray 38]∧e.drop W=ag∧f101_l2 k q z ad ae af (f101_l1 k O) ag W=some r_) e.length ?_ ?_)))))))))))
      ·exact ⟨_,aq,e,0,rfl,fR,kr,aU,List.drop_zero,h⟩
      ·rintro _ _ c2 ⟨bd,aF,ag,W,rfl,rfl,ah,av,ar,h⟩
       rcases ag with _ | ⟨⟨aw,ax⟩,ag⟩
       ·unfold f101_l2 at h
        refine sr (bcm (r:=false) rfl rfl (congrArg some (drop_nil_lt ar)) (wt (wp_seq (cndF rfl (wp_exit (thenX (thenX (blkX (thenN (sr (m1 (pp g 0) (fd 5 Tyf38_5 rfl (l1 1 (sl Y z Z) av Tya36 ?_)))))))))))))
        obtain ⟨⟨⟨b8,b9,cb⟩,cc⟩,ce,h⟩:=ob h
        refine cv ([pp g 0,sl Y z Z,iI 1]) Tyb118 ((f118_ok k) ce (hG.mono (((x.sub.trans y).trans ak).trans ah)) (ms bK (ak.trans ah)) (pt av)) ?_
        rintro _ c3 ⟨be,rfl,bf⟩
        have bg:=ca bf av
        refine uN cc (wt (cd h (fun aW h=>?_) (fun aW h=>?_)))
        ·refine cT aW (sr (m2 vN (wt (wp_ret (blkR (thenR (thenR (blkR (thenR ?_)))))))))
         have e_:=(Option.some.inj h).trans hr_
         obtain ⟨cf,ch⟩:=Prod.mk.inj e_
         obtain ⟨ci,cj,ck⟩:=Dcounter.mk.inj cf
         subst ci
         subst cj
         subst ck
         subst ch
         exact retA1 rfl (resT rfl) ⟨be,rfl,(bg.sel [0])⟩
        ·exact cF aW (wp_skip (blkN (thenN (wp_region_lit (bar (r:=((q + 1:Nat):Int)) rfl rfl (inc_ok (le_big (((mf a2 (x.sub.trans y))).len) (by decide) (drop_cons_lt ap))) (m1 (iI ((q + 1:Nat):Int)) (wt (⟨_,Nat.lt_succ_self _,_,be,O,q + 1,b8,b9,cb,rfl,fR,(((y.trans ak).trans ah).trans bf.sub),(bg.sel [0]),drop_cons_next ap,h⟩))))))))
       ·unfold f101_l2 at h
        refine sr (bcm (r:=true) rfl rfl (congrArg some (drop_cons_t ar)) (wt (wp_seq (cndT rfl (wp_skip (thenN (wp_seq (wp_block (sr ?_)))))))))
        obtain ⟨cl,cm,c4,cn,c5,co,cq⟩:=((mp a4 (ak.trans ah))).row.at_ (drop_cons_at ar)
        obtain ⟨rfl,cr⟩:=RDParam.open cq
        refine idxN (b:=cl) (o:=cm) (i:=W) Tye35 Tys82 rfl cn rfl (drop_cons_lt ar) (lD ([.string aw,iI ax]) Tya82 Tys82 rfl (fun j v hj=>av.cell (kr.cell (co j v hj))) (aC #[sE,iI 0] av Tyz82 (fun c6 ct=>(sI 0 (.agg #[.string aw,iI ax]) #[.string aw,iI ax] ct Tys82 rfl rfl (fun c7 aX=>(wt (wp_cut (fun a w=>∃ bh ay aY,a=fr 87 (updL bh [(0,pp g 0),(6,pp (zz aj) 0),(15,sl ai f c1),(16,iI (f.length:Int)),(17,iI (q:Int)),(64,sl B e C),(65,iI (e.length:Int)),(66,iI (W:Int)),(79,.bool aY)])∧KH.sub aF ay∧SR K ay wi w [.box bs g #[iI al,iI am,.bool an] 132] [.box bs g #[iI ad,iI ae,.bool af] 132,.box (zz wi) (zz aj) (vF X B e C c A S Y z Z).toArray 38]∧f101_j2 k ad ae af W aY (f101_l2 k q z ad ae af (f101_l1 k O) ag)=some r_) ?_ ?_)))))))
        ·refine wp_region_lit (fd 0 Tyf82_0 rfl (l1 0 (.string aw) aX Tya9 ?_))
         obtain ⟨bi,cu,h⟩:=ob h
         refine cv ([.string aw]) Tyb63 ((f63_ok k) cu (hG.mono (((x.sub.trans y).trans ak).trans ah)) cr (pt aX)) ?_
         rintro _ c8 ⟨cw,rfl,aG⟩
         have aH:=ca aG aX
         refine uN bi (m1 (.bool (!bi)) (cd h (fun N h=>?_) (fun N h=>?_)))
         ·exact o1 74 N (o1 74 N (o1 74 N (o1 74 N (m3 true vT (cg N) (wt (⟨_,cw,true,fR,aG.sub,(aH.sel [1,2]),h⟩))))))
         ·refine n1 74 N (fd 1 Tyf82_1 rfl (n1 74 N (l1 0 (iI ax) aH Tya3 (n1 74 N ?_))))
          obtain ⟨aZ,cx,h⟩:=ob h
          refine cv ([iI ax,iI 1,iI 6]) Tyb116 ((f116_ok k) cx (hG.mono ((((x.sub.trans y).trans ak).trans ah).trans aG.sub)) (pt aH)) ?_
          rintro _ c9 ⟨cy,rfl,bj⟩
          have cz:=ca bj aH
          exact n1 74 N (uN aZ (m3 false (.bool (!aZ)) (cg N) (wt (⟨_,cy,(!aZ),fR,(aG.sub.trans bj.sub),(cz.sel [1,2]),h⟩))))
        ·rintro _ da ⟨bh,ay,aY,rfl,cA,bk,h⟩
         unfold f101_j2 at h
         refine cd h (fun a0 h=>?_) (fun a0 h=>?_)
         ·refine cT a0 (sr (m2 vN (wt (wp_ret (blkR (thenR (thenR (blkR (thenR (blkR (thenR (thenR (blkR (thenR ?_))))))))))))))
          have e_:=(Option.some.inj h).trans hr_
          obtain ⟨cB,cC⟩:=Prod.mk.inj e_
          obtain ⟨cD,cG,cH⟩:=Dcounter.mk.inj cB
          subst cD
          subst cG
          subst cH
          subst cC
          exact retA1 rfl (resT rfl) ⟨ay,rfl,(bk.sel [0])⟩
         ·exact cF a0 (wp_skip (blkN (thenN (wp_region_lit (bar (r:=((W + 1:Nat):Int)) rfl rfl (inc_ok (le_big (((mp a4 (ak.trans ah))).len) (by decide) (drop_cons_lt ar))) (m1 (iI ((W + 1:Nat):Int)) (wt (⟨_,Nat.lt_succ_self _,_,ay,ag,W + 1,rfl,fR,(ah.trans cA),bk,drop_cons_next ar,h⟩))))))))
theorem f101_ok (k:Nat):f101_spec (f101 k):=f101_b_ok k
theorem f78_b_ok (k:Nat):f78_spec (f78_b k):=by
 unfold f78_spec
 intro K wi e t a u h hG f g
 obtain ⟨r_,hr_,h⟩:=rz h
 obtain ⟨b⟩:=e
 obtain ⟨c,c1,rfl,i⟩:=RDProgram.open f
 refine enter Tryz.func78 rfl (n:=10) rfl ?_
 unfold f78_b at h
 refine sr (bxoC (cs:=#[sl c b c1]) g rfl rfl (fun j l=>(m2 vN (wt (sr (m1 (.bool a) (bld (cells:=#[iI 0,iI 0,.bool a]) (vs:=[(2,.bool a)]) rfl (fun w=>by kernel_rfl) (aC #[iI 0,iI 0,vN] l Tyz132 (fun v m=>(sI 0 (.agg #[iI 0,iI 0,.bool a]) #[iI 0,iI 0,.bool a] m Tys132 rfl rfl (fun x d=>(wt (sr (lN 1 ([sl c b c1]) d Tya24 Tys24 ?_))))))))))))))
 obtain ⟨⟨⟨y,z,A⟩,o⟩,p,h⟩:=ob h
 refine cv ([pp (zz j) 0,.agg #[sl c b c1]]) Tyb101 ((f101_ok k) p (hG.mono kr) (RDProgram.intro i) (pt d)) ?_
 rintro _ B ⟨q,rfl,r⟩
 have s:=ca r d
 refine m2 (.bool o) (wt (wp_ret ?_))
 cases (oi h).trans hr_
 exact retA1 rfl (resT rfl) ⟨q,rfl,(s.sel [])⟩
theorem f78_ok (k:Nat):f78_spec (f78 k):=f78_b_ok k
theorem f119_b_ok (k:Nat):f119_spec (f119_b k):=by
 unfold f119_spec
 intro K wi g bs br B C D G I J N O S U V W X j u x Y c l m Z ab p ak al h hG am an ao ap aq ar af ag hbr au ac
 obtain ⟨r_,hr_,h⟩:=rz h
 refine enter Tryz.func119 rfl (n:=28) rfl ?_
 unfold f119_b at h
 refine sr (m2 (iI 0) (m2 vN (wt (wp_seq (sr (m1 (pp g 0) (nilc rfl (fd 8 Tyf138_3 rfl (l1 0 (sl l c m) ac Tya136 (lS c.length Tye136 (m1 (iI 0) (wt (wp_block (wp_loopG (fun g_ a w=>∃ ad e,∃ (d:Nat),g_=e.length∧a=fr 28 (updL ad [(1,.string p),(13,sl l c m),(14,iI (c.length:Int)),(15,iI (d:Int))])∧SR K K wi w [.box bs g (vR C B D G J I N O S U W V X u j x l c m ab).toArray 138,.row br (sl u j x) 9 1 j.length Y,.stk br (sl l c m) 135 c.length Z] [.box bs g (vR C B D G J I N O S U W V X u j x l c m ab).toArray 138,.stk br (sl l c m) 135 c.length Z,.row br (sl u j x) 9 1 j.length Y]∧c.drop d=e∧f119_l1 k p e d=some r_) c.length ?_ ?_))))))))))))))
 ·exact ⟨_,c,0,rfl,fR,(ac.sel [0,2,1]),List.drop_zero,h⟩
 ·rintro _ _ av ⟨ad,e,d,rfl,rfl,f,s,h⟩
  rcases e with _ | ⟨z,e⟩
  ·unfold f119_l1 at h
   refine sr (bcm (r:=false) rfl rfl (congrArg some (drop_nil_lt s)) (wt (wp_seq (cndF rfl (wp_exit (thenX (thenX (blkX (thenN (sr (m2 (iI 0) (m2 vN (wt (wp_ret ?_))))))))))))))
   cases (oi h).trans hr_
   exact retA2 rfl (resT rfl) (resT rfl) ⟨K,rfl,(f.sel [0,2,1])⟩
  ·unfold f119_l1 at h
   refine sr (bcm (r:=true) rfl rfl (congrArg some (drop_cons_t s)) (wt (wp_seq (cndT rfl (wp_skip (thenN (wp_seq (wp_block (sr ?_)))))))))
   obtain ⟨ah,m89,ai,aw,ae,A⟩:=stk_at (f.entAt (i:=1) rfl) af (drop_cons_at s)
   refine idxN (b:=ah) (o:=0) (i:=d) Tye136 Tys135 rfl ai rfl (drop_cons_lt s) (ld1 (v:=.map (some m89.1)) Tya135 rfl (A _ (f.entAt (i:=1) rfl)).1 (m2 (.map (some m89.1)) (wt (sr (m1 (.map (some m89.1)) (m1 (.string p) ?_))))))
   rcases y:mget seq p z with _ | t
   ·have h:=of_mcase_n y h
    exact lkN (kv:=kS) (q:=seq) (R:=VInt) (xs:=z) (k:=p) (A _ (f.entAt (i:=1) rfl)).2 Tym135 (und_str Tyt9) keS Tyz3 ae rfl rfl y (m1 (.tuple #[iI 0,vN]) (ext (v:=iI 0) rfl rfl (ext (v:=vN) rfl rfl (m2 (iI 0) (m2 vN (wt (sr (m1 vN (wt (cndF rfl (wp_skip (blkN (thenN (wp_region_lit (bar (r:=((d + 1:Nat):Int)) rfl rfl (inc_ok (le_big (ag) (by decide) (drop_cons_lt s))) (m1 (iI ((d + 1:Nat):Int)) (wt (⟨_,Nat.lt_succ_self _,_,e,d + 1,rfl,fR,f,drop_cons_next s,h⟩))))))))))))))))))
   ·have h:=of_mcase_s y h
    refine lkS (kv:=kS) (q:=seq) (R:=VInt) (xs:=z) (k:=p) (A _ (f.entAt (i:=1) rfl)).2 Tym135 (und_str Tyt9) keS ae rfl rfl y (fun ax aj=>?_)
    obtain rfl:=aj
    refine m1 (.tuple #[iI t,vT]) (ext (v:=iI t) rfl rfl (ext (v:=vT) rfl rfl (m2 (iI t) (m2 vT (wt (sr (m1 vT (wt (cndT rfl (sr (m1 (iI t) (m2 (iI t) (m2 vT (wt (wp_ret (blkR (thenR (thenR (blkR (thenR ?_))))))))))))))))))))
    cases (oi h).trans hr_
    exact retA2 rfl (resT rfl) (resT rfl) ⟨K,rfl,(f.sel [0,2,1])⟩
theorem f119_ok (k:Nat):f119_spec (f119 k):=f119_b_ok k
theorem f103_b_ok (k:Nat):f103_spec (f103_b k):=by
 unfold f103_spec
 intro K wi g bs br y z A B C D G I J N O S U a V W am c f l ac X d r_ h hG an ao ap aq ar az ah au hbr av ai
 refine enter Tryz.func103 rfl (n:=47) rfl ?_
 unfold f103_b at h
 refine sr (m2 (iI 0) (wt (sr (m1 (pp g 0) (m1 (.string d) ?_)))))
 obtain ⟨⟨aj,Y⟩,aA,h⟩:=ob h
 refine cv ([pp g 0,.string d]) Tyb119 ((f119_ok k) aA (hG.mono kr) an ao ap aq ar az ah au (Nat.le_trans hbr ai.size) av (pt ai)) ?_
 rintro _ aX ⟨aY,rfl,Z⟩
 have ak:=ca Z ai
 refine m1 (.tuple #[iI aj,.bool Y]) (ext (v:=iI aj) rfl rfl (ext (v:=.bool Y) rfl rfl (m2 (iI aj) (m2 (.bool Y) (wt (sr (m1 (.bool Y) (uN Y ?_))))))))
 obtain ⟨aZ,aB,h⟩:=ob h
 refine cp ([.bool (!Y),iI 21]) Tyb58 ((f58_ok k) aB (hG.mono Z.sub) (pt ak)) ?_ ?_
 ·rintro _ a0 ⟨ad,rfl,rfl,ae⟩
  have al:=ca ae ak
  refine wt (sr (m1 (pp g 0) (nilc rfl (fd 7 Tyf138_2 rfl (l1 0 (sl V a W) al Tya46 (lS a.length Tye46 (m2 (iI (a.length:Int)) (wt (sr (m1 (pp g 0) (m1 (pp g 0) (nilc rfl (fd 7 Tyf138_2 rfl (l1 0 (sl V a W) al Tya46 (m1 (.string d) (bsl (e:=9) (cells:=#[.string d]) (vs:=[(0,.string d)]) al rfl (buildSl_one Tye46 Tys9 Tyz9 rfl (by decide) (by decide) rfl) (fun a2 aE=>?_)))))))))))))))))
  obtain ⟨aw,h⟩:=of_guard h
  refine apR (R:=RStr) (p:=d) (i:=2) (j:=0) aE rfl rfl Tye46 Tyi9 rfl (by decide) rfl rfl (ar.mono (fun _ _ h=>h)) ⟨rfl,av⟩ rfl rfl hbr aw (by decide) (fun s t af aF aG aH=>?_)
  have aI:=p123 aG
  refine nilc rfl (fd 7 Tyf138_2 rfl (sI 0 (.slice s (a ++ [d]).length t) ((vR z y A B D C G I J N S O U s (a ++ [d]) t f c l X).toArray) aI Tys46 rfl rfl (fun a3 aJ=>(wt (wp_seq (have m:=aJ.drew;(regAny (E:=[14]) (F:=FW ad [.box bs g (vR z y A B D C G I J N S O U s (a ++ [d]) t f c l X).toArray 138,.row br (.slice s (a ++ [d]).length t) 9 1 (a ++ [d]).length af,.stk br (sl f c l) 135 c.length ac]) (L:=(lb 15 0)) ymx rfl rfl (tk 0 (pp g 0) (lb 15 1) rfl (fun w=>mv_r (v:=pp g 0) rfl) (heldF (fq [0,1,2] m)) (tk 1 (pp g 0) (lb 15 3) rfl (fun w=>nilc_r rfl) (heldF (fq [0,1,2] m)) (tk 2 (pp g 8) (lb 15 7) rfl (fun w=>fld_r (o':=8) Tyf138_3 rfl rfl) (heldF (fq [0,1,2] m)) (tf 3 (sl f c l) ([[14,3]]) (lb 15 15) rfl (fq [0,1,2] m) (fun w hF=>lb1_r (i:=0) (v:=sl f c l) hF rfl Tya136 rfl rfl) (tk 4 (pp g 0) (lb 15 31) rfl (fun w=>mv_r (v:=pp g 0) rfl) (heldF (fq [0,1,2] m)) (tk 5 (pp g 0) (lb 15 63) rfl (fun w=>nilc_r rfl) (heldF (fq [0,1,2] m)) (tk 6 (pp g 8) (lb 15 127) rfl (fun w=>fld_r (o':=8) Tyf138_3 rfl rfl) (heldF (fq [0,1,2] m)) (tf 7 (sl f c l) ([[14,7]]) (lb 15 255) rfl (fq [0,1,2] m) (fun w hF=>lb1_r (i:=0) (v:=sl f c l) hF rfl Tya136 rfl rfl) (tk 8 (iI (c.length:Int)) (lb 15 511) rfl (fun w=>lnS_r (len:=c.length) Tye136 rfl) (heldF (fq [0,1,2] m)) (tk 9 (iI (w64 ((c.length:Int) - 1))) (lb 15 1023) rfl (fun w=>bar_r (r:=(w64 ((c.length:Int) - 1))) rfl rfl rfl) (heldF (fq [0,1,2] m)) ?_)))))))))))))))))
  obtain ⟨ab,ag,h⟩:=ob h
  obtain ⟨ax,m49,aK,aL,aM,aN⟩:=stk_at (m.entAt (i:=2) rfl) (StkR.mono (fun _ _ h=>h) ah) (idxO_at ag).1
  refine tk 10 (.pointer (some ⟨ax,0 + (w64 ((c.length:Int) - 1)).toNat * 1,none⟩)) (lb 15 2047) rfl (fun w=>idxG_r (b:=ax) (o:=0) (i:=(w64 ((c.length:Int) - 1))) Tye136 Tys135 rfl aK rfl (idxO_at ag).2.1 (idxO_at ag).2.2) (heldF (fq [0,1,2] m)) (tf 11 (.map (some m49.1)) ([[14,11]]) (lb 15 4095) rfl (fq [0,1,2] m) (fun w hF=>ld1_r (v:=.map (some m49.1)) Tya135 rfl (aN _ (hF.entAt (i:=2) rfl)).1) (tk 12 (.string d) (lb 15 8191) rfl (fun w=>mv_r (v:=.string d) rfl) (heldF (fq [0,1,2] m)) (tk 13 (iI (a.length:Int)) (lb 15 16383) rfl (fun w=>mv_r (v:=iI (a.length:Int)) rfl) (heldF (fq [0,1,2] m)) (aO 14 rfl (updM (kv:=kS) (q:=seq) (R:=VInt) (xs:=c) (x:=ab) (k:=d) (u:=(a.length:Int)) (uv:=iI (a.length:Int)) (i:=2) (.inr rfl) m rfl (StkR.mono (fun _ _ h=>h) ah) (idxO_at ag).1 aL aM Tym135 (und_str Tyt9) keS rfl rfl rfl rfl (fun ay aP aQ aR=>?_))))))
  have aS:SR K ad wi aP [.box bs g #[sl z y A,.string B,sl D C G,iI I,.bool J,iI N,sl S O U,sl V a W,sl f c l,iI X] 138,.row br (sl V a W) 9 1 a.length am,.stk br (sl f c l) 135 c.length ac] [.box bs g #[sl z y A,.string B,sl D C G,iI I,.bool J,iI N,sl S O U,.slice s (a ++ [d]).length t,.slice f (c.set (w64 ((c.length:Int) - 1)).toNat (mput seq d (a.length:Int) ab)).length l,iI X] 138,.row br (.slice s (a ++ [d]).length t) 9 1 (a ++ [d]).length af,.stk br (.slice f (c.set (w64 ((c.length:Int) - 1)).toNat (mput seq d (a.length:Int) ab)).length l) 135 (c.set (w64 ((c.length:Int) - 1)).toNat (mput seq d (a.length:Int) ab)).length ay]:=by simpa only [List.length_set,List.eraseIdx_zero,List.eraseIdx_cons_succ,List.tail_cons,List.set_cons_succ,List.set_cons_zero,List.nil_append,List.cons_append] using aQ
  exact wt ⟨heldE (i:=14) rfl rfl,aD (thenN (sr (m1 (iI (a.length:Int)) (m2 (iI (a.length:Int)) (wt (wp_ret (retP (retA1 rfl (resT rfl) ⟨y,B,C,I,J,N,O,(a ++ [d]),(c.set (w64 ((c.length:Int) - 1)).toNat (mput seq d (a.length:Int) ab)),X,(a.length:Int),ad,z,A,D,G,S,U,s,t,af,f,l,ay,(oi h).symm,rfl,aS,(mf an (Z.sub.trans ae.sub)),ao,(mp ap (Z.sub.trans ae.sub)),(ms aq (Z.sub.trans ae.sub)),aH,(app_bound aw),aR,(set_bound au)⟩))))))))⟩
 ·rintro _ a4 ⟨aT,aU,rfl,rfl,aV⟩
  have aW:=ca aV ak
  exact thenP (panE (.inr ⟨_,rfl,aT,aU,(oi h).symm,rfl,aW.sel []⟩))
theorem f103_ok (k:Nat):f103_spec (f103 k):=f103_b_ok k
theorem f104_ok (k:Nat):f104_spec (f104 k):=by
 unfold f104_spec
 intro K wi a0 Aa0 ca0 r0 h hG ha0 S0
 unfold f104 at h
 obtain ⟨hn,h⟩:=of_guard h
 have e_:=Option.some.inj h
 subst e_
 refine enter Tryz.func104 rfl (n:=8) rfl ?_
 refine wp_seq ?_
 refine wp_region_lit ?_
 refine asg (v:=.slice none 0 0) rfl ?_
 refine wpList_nil ?_
 refine thenN ?_
 refine wp_seq ?_
 refine wp_seq ?_
 refine wp_region_lit ?_
 refine mv (v:=.slice Aa0 a0.length ca0) rfl ?_
 refine bsn (A:=Aa0) Tye35 rfl rfl ?_
 refine wpList_nil ?_
 refine thenN ?_
 rcases Bool.eq_false_or_eq_true Aa0.isNone with hb1 | hb1
 ·have ha:a0=[]:=by
   obtain ⟨b,o,cs,g1,g2,g3⟩:=ha0.row
   cases a0 with
   | nil=>rfl
   | cons x xs=>rw [g1 (by simp)] at hb1; cases hb1
  subst ha
  refine cndT (congrArg Value.bool hb1) ?_
  refine wp_seq ?_
  refine wp_region_lit ?_
  refine asg (v:=.slice none 0 0) rfl ?_
  refine wpList_nil ?_
  refine thenN ?_
  refine wp_ret ?_
  refine thenR ?_
  exact retA1 rfl (resT rfl) ⟨K,none,0,rfl,S0,(RSl.nil _ _ _ _ _ _)⟩
 ·refine cndF (congrArg Value.bool hb1) ?_
  refine wp_skip ?_
  refine thenN ?_
  refine wp_seq ?_
  refine wp_region_lit ?_
  refine bsl (e:=82) (cells:=#[]) (vs:=[]) S0 rfl (fun w=>by kernel_rfl) ?_
  intro w3 S2
  have S4:=S2.boxrow (i:=0) (size:=2) rfl
  refine mv (v:=.slice Aa0 a0.length ca0) rfl ?_
  have hn11:(([]:List DParam).length + a0.length) * 24≤mB:=by simpa using hn
  refine apS (R:=fun K=>(RDParam K)) (zs:=a0) (i:=0) S4 rfl Tye35 Tyi82 rfl (by decide) rfl rfl (reps0 (R:=(RDParam K)) (size:=2)) ha0 (fun _ _ h=>RDParam.one h) (Nat.le_refl _) hn11 (by decide) ?_
  intro A5 c6 ys7 w8 S9 hr10
  refine asg (v:=.slice A5 (([]:List DParam) ++ a0).length c6) rfl ?_
  refine wpList_nil ?_
  refine thenN ?_
  refine wp_ret ?_
  obtain ⟨K12,S13,hs14,hr15⟩:=shutI (i:=0) (bytes:=24) (R:=fun K=>(RDParam K)) S9 rfl (Nat.le_refl _) hr10 (apps_bound hn11) (fun hs=>(fun _ _ h=>RDParam.mono hs h))
  exact retA1 rfl (resT rfl) ⟨K12,A5,c6,rfl,S13,hr15⟩
theorem f1013932_b_ok (k:Nat):f1013932_spec (f1013932_b k):=by
 unfold f1013932_spec
 intro K wi Z ay gr bsr g bs br r s t u w x y z A B C D G a f i I b j l J N r_ h hG ab ac ad ae af ag ah ai aj hbr ak
 obtain ⟨m,O,o,S,U⟩:=Z
 obtain ⟨V,W,rfl,al,az⟩:=RDExpr.open ab
 refine enter Tryz.func139 rfl (n:=19) rfl ?_
 unfold f1013932_b at h
 refine sr (bxoC (cs:=(vE m O o S V U W).toArray) ak rfl rfl (fun am c=>(m2 (iI 0) (wt (wp_seq (sr (fd 0 Tyf107_0 rfl (l1 0 (iI m) c Tya3 (c0 (m != 4) (wt (cd h (fun p h=>?_) (fun p h=>?_))))))))))))
 ·exact cT p (sr (m2 (iI 0) (wt (wp_ret (thenR (retP (retA1 rfl (resT rfl) ⟨0,K,(oi h).symm,rfl,(c.sel [1,2,3,4])⟩)))))))
 ·refine cF p (wp_skip (thenN (sr (l1 1 (pp g 0) c Tya134 (fd 2 Tyf107_2 rfl (l1 0 (.string o) c Tya9 ?_))))))
  have X:=p23401 c
  obtain ⟨⟨d,e⟩,an,h⟩:=ob h
  refine cv ([pp g 0,.string o]) Tyb119 ((f119_ok k) an (hG.mono kr) ac ad ae af ag ah ai aj (Nat.le_trans hbr c.size) al (pt X)) ?_
  rintro _ aA ⟨aB,rfl,Y⟩
  have q:=ca Y X
  refine m1 (.tuple #[iI d,.bool e]) (ext (v:=iI d) rfl rfl (ext (v:=.bool e) rfl rfl (m2 (iI d) (m2 (.bool e) (wt (sr (m1 (.bool e) ?_)))))))
  obtain ⟨aE,ao,h⟩:=ob h
  refine cp ([.bool e,iI 20]) Tyb58 ((f58_ok k) ao (hG.mono Y.sub) (pt q)) ?_ ?_
  ·rintro _ aF ⟨ap,rfl,rfl,aq⟩
   have ar:=ca aq q
   exact wt (sr (m1 (iI d) (m2 (iI d) (wt (wp_ret (retP (retA1 rfl (resT rfl) ⟨d,ap,(oi h).symm,rfl,(ar.sel [4,0,1,2])⟩)))))))
  ·rintro _ aG ⟨au,av,rfl,rfl,aw⟩
   have ax:=ca aw q
   exact thenP (panE (.inr ⟨_,rfl,au,av,(oi h).symm,rfl,ax.sel []⟩))
theorem f1013932_ok (k:Nat):f1013932_spec (f1013932 k):=f1013932_b_ok k
theorem f1013170_b_ok (k:Nat) (F:Fam1013170) (IH1013170:f1013170_spec F.f1013170) (IH1014270:f1014270_spec F.f1014270):f1013170_spec (f1013170_b k F):=by
 unfold f1013170_spec
 intro K wi y aA aB gr bsr g bs br z ag ah A B ai aj C D G I ak al c l m am d q s an J r_ h hG aE aN aP aQ aR aS aT aU aV hbr aW
 refine enter Tryz.func131 rfl (n:=22) rfl ?_
 unfold f1013170_b at h
 refine sr (m2 nS (wt (sr (m2 nS (wt (wp_seq (sr (m1 (sl aA y aB) (lS y.length Tye39 (m1 (iI 0) (wt (wp_block ?_))))))))))))
 have aX:=aW.row_ (zz wi) 107 5
 refine wp_loopG (fun g_ a w=>∃ aF ap N,∃ (t:Nat),∃ f u x aq,g_=N.length∧a=fr 22 (updL aF [(1,.func (.func 139) #[] #[pp gr 0]),(5,sl u f x),(8,sl aA y aB),(9,iI (y.length:Int)),(10,iI (t:Int))])∧KH.sub K ap∧SR K ap wi w [.box bsr gr #[pp g 0] 134,.box bs g (vR ag z ah A ai B aj C D G ak I al l c m q d s J).toArray 138,.row br (sl l c m) 9 1 c.length am,.stk br (sl q d s) 135 d.length an] [.box bs g (vR ag z ah A ai B aj C D G ak I al l c m q d s J).toArray 138,.box bsr gr #[pp g 0] 134,.row br (sl l c m) 9 1 c.length am,.stk br (sl q d s) 135 d.length an,.row (zz wi) (sl u f x) 107 5 f.length aq]∧y.drop t=N∧Reps (RDExpr ap) 5 f aq∧f.length * 64 ≤ mB∧f1013170_l1 k F z A B C D G I c d J N t f=some r_) y.length ?_ ?_
 ·exact ⟨_,K,y,0,([]:LE),none,0,[],rfl,fR,kr,(aX.sel [2,1,3,4,0]),List.drop_zero,(reps0 (R:=(RDExpr K)) (size:=5)),(by simp),h⟩
 ·rintro _ _ aG ⟨aF,ap,N,t,f,u,x,aq,rfl,rfl,O,ar,ao,aH,aY,h⟩
  rcases N with _ | ⟨⟨S,U,V,W,X⟩,N⟩
  ·unfold f1013170_l1 at h
   refine sr (bcm (r:=false) rfl rfl (congrArg some (drop_nil_lt ao)) (wt (wp_seq (cndF rfl (wp_exit (thenX (thenX (blkX (thenN (sr (m1 (sl u f x) (m2 (sl u f x) (wt (wp_ret ?_))))))))))))))
   obtain ⟨aZ,a1,bp,a2⟩:=shutI (i:=4) (bytes:=64) (R:=fun K=>(RDExpr K)) ar rfl (Nat.le_refl _) aH aY (fun hs=>(fun _ _ h=>RDExpr.mono hs h))
   exact retP (retA1 rfl (resT rfl) ⟨f,aZ,u,x,(oi h).symm,rfl,(a1.sel [1,0,2,3]),a2⟩)
  ·unfold f1013170_l1 at h
   refine sr (bcm (r:=true) rfl rfl (congrArg some (drop_cons_t ao)) (wt (wp_seq (cndT rfl (wp_skip (thenN (wp_seq (wp_block (sr ?_)))))))))
   obtain ⟨a3,a4,bq,a5,bu,a6,a7⟩:=((me aE O)).row.at_ (drop_cons_at ao)
   obtain ⟨Y,Z,rfl,a8,a9⟩:=RDExpr.open a7
   refine idxN (b:=a3) (o:=a4) (i:=t) Tye39 Tys107 rfl a5 rfl (drop_cons_lt ao) (lD (vE S U V W Y X Z) Tya107 Tys107 rfl (fun j v hj=>ar.cell (kr.cell (a6 j v hj))) (aC zE.toArray ar Tyz107 (fun bv ba=>(sI 0 (.agg (vE S U V W Y X Z).toArray) ((vE S U V W Y X Z).toArray) ba Tys107 rfl rfl (fun bb au=>(wt (wp_region_lit (m1 (sl u f x) (lN 0 (vE S U V W Y X Z) au Tya107 Tys107 (m1 (.func (.func 139) #[] #[pp gr 0]) ?_))))))))))
   have av:=p213405 au
   obtain ⟨bw,bd,h⟩:=ob h
   refine cp ([.agg (vE S U V W Y X Z).toArray,.func (.func 139) #[] #[pp gr 0]]) Tyb142 (IH1014270 bd (hG.mono O) (RDExpr.intro a8 a9) (mf aN O) aP (mp aQ O) (ms aR O) (aS.mono (fun _ _ h=>h)) aT (StkR.mono (fun _ _ h=>h) aU) aV (Nat.le_trans hbr au.size) (pt av)) ?_ ?_
   ·rintro _ bx ⟨⟨ab,ac,ad,ae,af⟩,aw,bz,rfl,rfl,ax,aI⟩
    have be:=ca ax av
    obtain ⟨aJ,aK,rfl,bA,bB⟩:=RDExpr.open aI
    refine bsl (e:=107) (cells:=(vE ab ac ad ae aJ af aK).toArray) (vs:=[(0,.agg (vE ab ac ad ae aJ af aK).toArray)]) be rfl (buildSl_one Tye39 Tys107 Tyz107 rfl (by decide) (by decide) rfl) (fun bC bf=>?_)
    obtain ⟨aL,h⟩:=of_guard h
    refine apR (R:=(RDExpr aw)) (p:=(DExpr.mk ab ac ad ae af)) (i:=6) (j:=0) bf rfl rfl Tye39 Tyi107 rfl (by decide) rfl rfl (aH.mono (fun _ _ h=>RDExpr.mono ax.sub h)) aI rfl rfl (Nat.le_refl _) aL (by decide) (fun ay az aM bg bh bi=>?_)
    have bj:=p123456 bh
    exact m2 (.slice ay (f ++ [(DExpr.mk ab ac ad ae af)]).length az) (wpList_nil (blkN (thenN (wp_region_lit (bar (r:=((t + 1:Nat):Int)) rfl rfl (inc_ok (le_big (((me aE O)).len) (by decide) (drop_cons_lt ao))) (m1 (iI ((t + 1:Nat):Int)) (wt (⟨_,Nat.lt_succ_self _,_,aw,N,t + 1,(f ++ [(DExpr.mk ab ac ad ae af)]),ay,az,aM,rfl,fR,(O.trans ax.sub),(bj.sel [1,0,2,3,5]),drop_cons_next ao,bi,(app_bound aL),h⟩))))))))
   ·rintro _ bD ⟨bk,bm,rfl,rfl,bn⟩
    have bo:=ca bn av
    exact blkP (thenP (thenP (blkP (thenP (panE (.inr ⟨_,rfl,bk,bm,(oi h).symm,rfl,bo.sel []⟩))))))
theorem f1014270_b_ok (k:Nat) (F:Fam1013170) (IH1013170:f1013170_spec F.f1013170) (IH1014270:f1014270_spec F.f1014270):f1014270_spec (f1014270_b k F):=by
 unfold f1014270_spec
 intro K wi ar aQ gr bsr g bs br w x y z A B C D G I J N O e p q S f r s U V r_ h hG au ac ad ae af ag ah ai aj hbr av
 obtain ⟨a,b,c,t,W⟩:=ar
 obtain ⟨X,Y,rfl,ak,aw⟩:=RDExpr.open au
 refine enter Tryz.func142 rfl (n:=15) rfl ?_
 unfold f1014270_b at h
 refine sr (bxoC (cs:=(vE a b c t X W Y).toArray) av rfl rfl (fun al ax=>(aC zE.toArray ax Tyz107 (fun ay Z=>(wt (sr (fd 4 Tyf107_4 rfl (l1 1 (sl X W Y) Z Tya39 (m1 (.func (.func 139) #[] #[pp gr 0]) ?_)))))))))
 have ab:=p234501 Z
 obtain ⟨aR,az,h⟩:=ob h
 refine cp ([sl X W Y,.func (.func 139) #[] #[pp gr 0]]) Tyb131 (IH1013170 az (hG.mono kr) aw ac ad ae af ag ah ai aj (Nat.le_trans hbr Z.size) (pt ab)) ?_ ?_
 ·rintro _ aS ⟨d,aT,j,m,rfl,rfl,u,am⟩
  have aA:=ca u ab
  refine fd 4 Tyf107_4 rfl (sI 5 (sl j d m) ((vE a b c t j d m).toArray) aA Tys39 rfl rfl (fun aU v=>(wt (sr (m1 (.func (.func 139) #[] #[pp gr 0]) (lN 5 (vE a b c t j d m) v Tya107 Tys107 ?_))))))
  obtain ⟨aV,aB,h⟩:=ob h
  refine clP (caps:=#[pp gr 0]) (vs:=[.agg (vE a b c t j d m).toArray,pp gr 0]) rfl Tyb139 rfl ((f1013932_ok k) aB (hG.mono u.sub) (RDExpr.intro ak am) (mf ac u.sub) ad (mp ae u.sub) (ms af u.sub) (ag.mono (fun _ _ h=>h)) ah (StkR.mono (fun _ _ h=>h) ai) aj (Nat.le_trans hbr v.size) (pt v)) ?_ ?_
  ·rintro _ aW ⟨o,an,rfl,rfl,ao⟩
   have aE:=ca ao v
   refine fd 3 Tyf107_3 rfl (sI 5 (iI o) ((vE a b c o j d m).toArray) aE Tys3 rfl rfl (fun aX ap=>(wt (sr (lN 5 (vE a b c o j d m) ap Tya107 Tys107 (sI 4 (.agg (vE a b c o j d m).toArray) ((vE a b c o j d m).toArray) ap Tys107 rfl rfl (fun aF aG=>?_)))))))
   have aq:SR K an wi aF [.box bsr gr #[pp g 0] 134,.box bs g (vR x w y z B A C D G I N J O p e q r f s V).toArray 138,.row br (sl p e q) 9 1 e.length S,.stk br (sl r f s) 135 f.length U] [.box bsr gr #[pp g 0] 134,.box bs g (vR x w y z B A C D G I N J O p e q r f s V).toArray 138,.row br (sl p e q) 9 1 e.length S,.stk br (sl r f s) 135 f.length U,.box (zz wi) (zz al) (vE a b c o j d m).toArray 107,.box (zz wi) (zz wi) (vE a b c o j d m).toArray 107]:=aG
   exact wt (wp_ret (retP (retA1 rfl (resN (i:=4) (l:=(vE a b c o j d m)) aq rfl Tya107 Tys107 rfl rfl rfl) ⟨(DExpr.mk a b c o d),an,(vE a b c o j d m),(oi h).symm,rfl,(aq.sel [0,1,2,3]),(RDExpr.intro ak (me am ao.sub))⟩)))
  ·rintro _ aY ⟨aH,aI,rfl,rfl,aJ⟩
   have aK:=ca aJ v
   exact thenP (panE (.inr ⟨_,rfl,aH,aI,(oi h).symm,rfl,aK.sel []⟩))
 ·rintro _ aZ ⟨aL,aM,rfl,rfl,aN⟩
  have aP:=ca aN ab
  exact thenP (panE (.inr ⟨_,rfl,aL,aM,(oi h).symm,rfl,aP.sel []⟩))
theorem fam1013170_ok (k0:Nat) : ∀ k,f1013170_spec (fam1013170 k0 k).f1013170∧f1014270_spec (fam1013170 k0 k).f1014270:=by
 intro k
 induction k with
 | zero=>exact ⟨(by unfold f1013170_spec; intro _ _ _ _ _ _ _ _ _ _ _ _ _ _ _ _ _ _ _ _ _ _ _ _ _ _ _ _ _ _ _ _ _ h_; cases h_),(by unfold f1014270_spec; intro _ _ _ _ _ _ _ _ _ _ _ _ _ _ _ _ _ _ _ _ _ _ _ _ _ _ _ _ _ _ _ _ h_; cases h_)⟩
 | succ k ih=>exact ⟨f1013170_b_ok k0 (fam1013170 k0 k) ih.1 ih.2,f1014270_b_ok k0 (fam1013170 k0 k) ih.1 ih.2⟩
theorem f1013170_ok (k:Nat):f1013170_spec (f1013170 k):=(fam1013170_ok k k).1
theorem f1014270_ok (k:Nat):f1014270_spec (f1014270 k):=(fam1013170_ok k k).2
theorem f120_b_ok (k:Nat):f120_spec (f120_b k):=by
 unfold f120_spec
 intro K wi g bs br D G I J N O S U V W X Y Z ab ac ad ae af ag ah ai aj b c d r_ h hG j l m o p q r s hbr t a
 refine enter Tryz.func120 rfl (n:=8) rfl ?_
 unfold f120_b at h
 refine sr (bxoC (cs:=#[pp g 0]) a rfl rfl (fun ak a=>(m2 nS (wt (sr (m1 (sl c b d) (mkf (us:=[]) (vs:=[pp (zz wi) 0]) rfl rfl ?_)))))))
 obtain ⟨al,u,h⟩:=ob h
 refine cp ([sl c b d,.func (.func 139) #[] #[pp (zz wi) 0]]) Tyb131 ((f1013170_ok k) u (hG.mono kr) t j l m o p q r s (Nat.le_trans hbr a.size) (pt a)) ?_ ?_
 ·rintro _ am ⟨e,v,f,i,rfl,rfl,w,x⟩
  have y:=ca w a
  exact m2 (sl f e i) (wt (wp_ret (retP (retA1 rfl (resT rfl) ⟨e,v,f,i,(oi h).symm,rfl,(y.sel [1,2,3]),x⟩))))
 ·rintro _ an ⟨z,A,rfl,rfl,B⟩
  have C:=ca B a
  exact thenP (panE (.inr ⟨_,rfl,z,A,(oi h).symm,rfl,C.sel []⟩))
theorem f120_ok (k:Nat):f120_spec (f120 k):=f120_b_ok k
theorem f1014048_b_ok (k:Nat):f1014048_spec (f1014048_b k):=by
 unfold f1014048_spec
 intro K wi s ad gr bsr g bs t u x c y z A B C D G I J N O S U V W X Y ae h hG Z af ag ah ai aj ak al ab
 obtain ⟨r_,hr_,h⟩:=rz h
 obtain ⟨b,d,e,f,j,l⟩:=s
 obtain ⟨m,o,p,q,rfl,am,an,ao⟩:=RDFunc.open Z
 refine enter Tryz.func140 rfl (n:=11) rfl ?_
 unfold f1014048_b at h
 refine sr (bxoC (cs:=(vF b m d o e f j p l q).toArray) ab rfl rfl (fun ap ac=>(m2 vN (wt (wp_seq (have a:=ac.drew;(regAny (E:=[]) (F:=FW K [.box (zz wi) (zz wi) (vF b m d o e f j p l q).toArray 38,.box bsr gr #[pp g 0] 158,.box bs g (vS t u x c y z B A C G D I N J O U S V X W Y).toArray 42]) (L:=(lb 8 0)) ymx rfl rfl (tk 0 (pp (zz wi) 0) (lb 8 1) rfl (fun w=>fld_r (o':=0) Tyf38_0 rfl rfl) (heldF (fq [0,1,2] a)) (tf 1 (.string b) ([]) (lb 8 3) rfl (fq [0,1,2] a) (fun w hF=>lb1_r (i:=0) (v:=.string b) hF rfl Tya9 rfl rfl) (tf 2 (pp g 0) ([]) (lb 8 7) rfl (fq [0,1,2] a) (fun w hF=>lb1_r (i:=1) (v:=pp g 0) hF rfl Tya158 rfl rfl) (tk 3 (pp g 0) (lb 8 15) rfl (fun w=>nilc_r rfl) (heldF (fq [0,1,2] a)) (tk 4 (pp g 3) (lb 8 31) rfl (fun w=>fld_r (o':=3) Tyf42_3 rfl rfl) (heldF (fq [0,1,2] a)) (tf 5 (.string c) ([]) (lb 8 63) rfl (fq [0,1,2] a) (fun w hF=>lb1_r (i:=2) (v:=.string c) hF rfl Tya9 rfl rfl) (tk 6 (.bool (seq b c)) (lb 8 127) rfl (fun w=>bsc_r (r:=(seq b c)) rfl rfl rfl) (heldF (fq [0,1,2] a)) (tk 7 (.bool (seq b c)) (lb 8 255) rfl (fun w=>asg_r (v:=.bool (seq b c)) rfl) (heldF (fq [0,1,2] a)) (aD (thenN (wp_ret ?_))))))))))))))))))
 cases (oi h).trans hr_
 exact retA1 rfl (resT rfl) ⟨K,rfl,(a.sel [1,2])⟩
theorem f1014048_ok (k:Nat):f1014048_spec (f1014048 k):=f1014048_b_ok k
theorem f1005661_b_ok (k:Nat):f1005661_spec (f1005661_b k):=by
 unfold f1005661_spec
 intro K wi e X Y gr bsr g bs m p q s t u x D G y I J z N O A S U B V W aL h hG ac av aw ax ay az aA aB aE
 obtain ⟨r_,hr_,h⟩:=rz h
 refine enter Tryz.func56 rfl (n:=19) rfl ?_
 unfold f1005661_b at h
 refine sr (m2 (iI 0) (wt (wp_seq (sr (m1 (sl X e Y) (lS e.length Tye22 (m1 (iI 0) (wt (wp_block (wp_loopG (fun g_ a w=>∃ ad C f,∃ (c:Nat),g_=f.length∧a=fr 19 (updL ad [(0,sl X e Y),(1,.func (.func 140) #[] #[pp gr 0]),(7,iI (e.length:Int)),(8,iI (c:Int))])∧KH.sub K C∧SR K C wi w [.box bsr gr #[pp g 0] 158,.box bs g (vS m p q s t u D x G I y J N z O S A U V B W).toArray 42] [.box bs g (vS m p q s t u D x G I y J N z O S A U V B W).toArray 42,.box bsr gr #[pp g 0] 158]∧e.drop c=f∧f1005661_l1 k m p q s t u x y z A B f c=some r_) e.length ?_ ?_))))))))))
 ·exact ⟨_,K,e,0,rfl,fR,kr,(aE.sel [1,0]),List.drop_zero,h⟩
 ·rintro _ _ aF ⟨ad,C,f,c,rfl,rfl,d,Z,l,h⟩
  rcases f with _ | ⟨⟨ae,af,ag,ah,ai,aj⟩,f⟩
  ·unfold f1005661_l1 at h
   refine sr (bcm (r:=false) rfl rfl (congrArg some (drop_nil_lt l)) (wt (wp_seq (cndF rfl (wp_exit (thenX (thenX (blkX (thenN (sr (m2 (iI (-1)) (wt (wp_ret ?_)))))))))))))
   cases (oi h).trans hr_
   exact retA1 rfl (resT rfl) ⟨C,rfl,(Z.sel [1,0])⟩
  ·unfold f1005661_l1 at h
   refine sr (bcm (r:=true) rfl rfl (congrArg some (drop_cons_t l)) (wt (wp_seq (cndT rfl (wp_skip (thenN (wp_seq (wp_block (sr (m1 (iI (c:Int)) (m2 (iI (c:Int)) (wt (sr (m1 (.func (.func 140) #[] #[pp gr 0]) (m1 (sl X e Y) (m1 (iI (c:Int)) ?_))))))))))))))))
   obtain ⟨aG,aH,aM,aI,aN,aJ,ak⟩:=((mf ac d)).row.at_ (drop_cons_at l)
   obtain ⟨al,am,an,ao,rfl,aP,aQ,aR⟩:=RDFunc.open ak
   refine idxN (b:=aG) (o:=aH) (i:=c) Tye22 Tys38 rfl aI rfl (drop_cons_lt l) (lD (vF ae al af am ag ah ai an aj ao) Tya38 Tys38 rfl (fun j v hj=>Z.cell (kr.cell (aJ j v hj))) ?_)
   have ap:=p10 Z
   obtain ⟨aS,aK,h⟩:=ob h
   refine clV (caps:=#[pp gr 0]) (vs:=[.agg (vF ae al af am ag ah ai an aj ao).toArray,pp gr 0]) rfl Tyb140 rfl ((f1014048_ok k) aK (hG.mono d) ak av aw (me ax d) (ms ay d) (ms az d) (ms aA d) (mc aB d) (pt ap)) ?_
   rintro _ aT ⟨aq,rfl,ar⟩
   have au:=ca ar ap
   refine wt (cd h (fun ab h=>?_) (fun ab h=>?_))
   ·refine cT ab (sr (m1 (iI (c:Int)) (m2 (iI (c:Int)) (wt (wp_ret (blkR (thenR (thenR (blkR (thenR ?_))))))))))
    cases (oi h).trans hr_
    exact retA1 rfl (resT rfl) ⟨aq,rfl,au⟩
   ·exact cF ab (wp_skip (blkN (thenN (wp_region_lit (bar (r:=((c + 1:Nat):Int)) rfl rfl (inc_ok (le_big (((mf ac d)).len) (by decide) (drop_cons_lt l))) (m1 (iI ((c + 1:Nat):Int)) (wt (⟨_,Nat.lt_succ_self _,_,aq,f,c + 1,rfl,fR,(d.trans ar.sub),(au.sel [1,0]),drop_cons_next l,h⟩))))))))
theorem f1005661_ok (k:Nat):f1005661_spec (f1005661 k):=f1005661_b_ok k
theorem f122_b_ok (k:Nat):f122_spec (f122_b k):=by
 unfold f122_spec
 intro K wi g bs br A B C I J N O S U V W X Y a u x Z c y z ab ac gA bsA sA_0 sA_1 sA_2 sA_3 sA_4 sA_5 sA_6 AsA_6 csA_6 sA_7 AsA_7 csA_7 sA_8 AsA_8 csA_8 sA_9 AsA_9 csA_9 sA_10 AsA_10 csA_10 r_ h hG al au av aw ax ay az aA hbr hsA_1 hsA_3 hsA_6 hsA_7 hsA_8 hsA_9 hsA_10 aj
 refine enter Tryz.func122 rfl (n:=47) rfl ?_
 unfold f122_b at h
 refine sr (bxoC (cs:=#[pp gA 0]) aj rfl rfl (fun aB aj=>(wt (sr (m1 (pp g 0) (nilc rfl (fd 0 Tyf138_0 rfl (fd 0 Tyf24_0 rfl (l1 1 (sl B A C) aj Tya22 (mkf (us:=[]) (vs:=[pp (zz wi) 0]) rfl rfl ?_))))))))))
 have aq:=p04123 aj
 obtain ⟨q,aE,h⟩:=ob h
 refine cv ([sl B A C,.func (.func 140) #[] #[pp (zz wi) 0]]) Tyb56 ((f1005661_ok k) aE (hG.mono kr) al hsA_1 hsA_3 hsA_6 hsA_7 hsA_8 hsA_9 hsA_10 (pt aq)) ?_
 rintro _ a6 ⟨a7,rfl,d⟩
 have am:=ca d aq
 refine m2 (iI q) (wt (sr (m1 (iI q) (c0 (decide (q ≥ 0)) ?_))))
 obtain ⟨a8,aF,h⟩:=ob h
 refine cp ([.bool (decide (q ≥ 0)),iI 20]) Tyb58 ((f58_ok k) aF (hG.mono d.sub) (pt am)) ?_ ?_
 ·rintro _ ak ⟨aG,rfl,rfl,e⟩
  have an:=ca e am
  refine wt (sr (m1 (pp g 0) (nilc rfl (fd 0 Tyf138_0 rfl (fd 0 Tyf24_0 rfl (l1 2 (sl B A C) an Tya22 (m1 (iI q) ?_)))))))
  obtain ⟨⟨ad,f,ae,s,af,ag⟩,ao,h⟩:=ob h
  obtain ⟨aH,aI,a9,aJ,ba,aK,aL⟩:=((mf al (d.sub.trans e.sub))).row.at_ (idxO_at ao).1
  obtain ⟨D,G,ah,ai,rfl,bb,bd,be⟩:=RDFunc.open aL
  refine idxG (b:=aH) (o:=aI) (i:=q) Tye22 Tys38 rfl aJ rfl (idxO_at ao).2.1 (idxO_at ao).2.2 (lD (vF ad D f G ae s af ah ag ai) Tya38 Tys38 rfl (fun j v hj=>an.cell (kr.cell (aK j v hj))) (aC zF.toArray an Tyz38 (fun bf aM=>(sI 0 (.agg (vF ad D f G ae s af ah ag ai).toArray) ((vF ad D f G ae s af ah ag ai).toArray) aM Tys38 rfl rfl (fun bg aN=>(wt (wp_seq (have m:=aN.drew;(regAny (E:=[]) (F:=FW aG [.box (zz wi) (zz ak) (vF ad D f G ae s af ah ag ai).toArray 38,.box (zz wi) (zz wi) #[pp gA 0] 158,.box bsA gA (vS sA_0 sA_1 sA_2 sA_3 sA_4 sA_5 AsA_6 sA_6 csA_6 AsA_7 sA_7 csA_7 AsA_8 sA_8 csA_8 AsA_9 sA_9 csA_9 AsA_10 sA_10 csA_10).toArray 42,.box bs g (vR B A C I N J O S U V X W Y u a x y c z ac).toArray 138,.row br (sl u a x) 9 1 a.length Z,.stk br (sl y c z) 135 c.length ab]) (L:=(lb 9 0)) ymx rfl rfl (tk 0 (pp (zz ak) 3) (lb 9 1) rfl (fun w=>fld_r (o':=3) Tyf38_3 rfl rfl) (heldF (fq [0,1,2,3,4,5] m)) (tf 1 (.bool s) ([]) (lb 9 3) rfl (fq [0,1,2,3,4,5] m) (fun w hF=>lb1_r (i:=0) (v:=.bool s) hF rfl Tya4 rfl rfl) (tf 2 (pp gA 0) ([]) (lb 9 7) rfl (fq [0,1,2,3,4,5] m) (fun w hF=>lb1_r (i:=1) (v:=pp gA 0) hF rfl Tya158 rfl rfl) (tk 3 (pp gA 0) (lb 9 15) rfl (fun w=>nilc_r rfl) (heldF (fq [0,1,2,3,4,5] m)) (tk 4 (pp gA 0) (lb 9 31) rfl (fun w=>fld_r (o':=0) Tyf42_0 rfl rfl) (heldF (fq [0,1,2,3,4,5] m)) (tf 5 (iI sA_0) ([]) (lb 9 63) rfl (fq [0,1,2,3,4,5] m) (fun w hF=>lb1_r (i:=2) (v:=iI sA_0) hF rfl Tya3 rfl rfl) (tk 6 (.bool (sA_0 == 28)) (lb 9 127) rfl (fun w=>bcm_r (r:=(sA_0 == 28)) rfl rfl rfl) (heldF (fq [0,1,2,3,4,5] m)) (tk 7 (.bool (s == (sA_0 == 28))) (lb 9 255) rfl (fun w=>bbo_r (r:=(s == (sA_0 == 28))) Tyo4 rfl rfl rfl) (heldF (fq [0,1,2,3,4,5] m)) (aO 8 rfl ?_))))))))))))))))))
  obtain ⟨bh,aP,h⟩:=ob h
  refine cp ([.bool (s == (sA_0 == 28)),iI 25]) Tyb58 ((f58_ok k) aP (hG.mono (d.sub.trans e.sub)) (pt m)) ?_ ?_
  ·rintro _ bi ⟨aQ,rfl,rfl,p⟩
   have ar:=ca p m
   refine wt ⟨heldF (fwOf (is:=[0,1,2,3,4,5]) ar p.sub rfl),aD (thenN (wp_seq (have l:=ar.drew;(regAny (E:=[]) (F:=FW aQ [.box (zz wi) (zz ak) (vF ad D f G ae s af ah ag ai).toArray 38,.box (zz wi) (zz wi) #[pp gA 0] 158,.box bsA gA (vS sA_0 sA_1 sA_2 sA_3 sA_4 sA_5 AsA_6 sA_6 csA_6 AsA_7 sA_7 csA_7 AsA_8 sA_8 csA_8 AsA_9 sA_9 csA_9 AsA_10 sA_10 csA_10).toArray 42,.box bs g (vR B A C I N J O S U V X W Y u a x y c z ac).toArray 138,.row br (sl u a x) 9 1 a.length Z,.stk br (sl y c z) 135 c.length ab]) (L:=(lb 10 0)) ymx rfl rfl (tk 0 (pp (zz ak) 1) (lb 10 1) rfl (fun w=>fld_r (o':=1) Tyf38_1 rfl rfl) (heldF (fq [0,1,2,3,4,5] l)) (tf 1 (sl D f G) ([]) (lb 10 3) rfl (fq [0,1,2,3,4,5] l) (fun w hF=>lb1_r (i:=0) (v:=sl D f G) hF rfl Tya35 rfl rfl) (tk 2 (iI (f.length:Int)) (lb 10 7) rfl (fun w=>lnS_r (len:=f.length) Tye35 rfl) (heldF (fq [0,1,2,3,4,5] l)) (tf 3 (pp gA 0) ([]) (lb 10 15) rfl (fq [0,1,2,3,4,5] l) (fun w hF=>lb1_r (i:=1) (v:=pp gA 0) hF rfl Tya158 rfl rfl) (tk 4 (pp gA 0) (lb 10 31) rfl (fun w=>nilc_r rfl) (heldF (fq [0,1,2,3,4,5] l)) (tk 5 (pp gA 6) (lb 10 63) rfl (fun w=>fld_r (o':=6) Tyf42_6 rfl rfl) (heldF (fq [0,1,2,3,4,5] l)) (tf 6 (sl AsA_6 sA_6 csA_6) ([]) (lb 10 127) rfl (fq [0,1,2,3,4,5] l) (fun w hF=>lb1_r (i:=2) (v:=sl AsA_6 sA_6 csA_6) hF rfl Tya39 rfl rfl) (tk 7 (iI (sA_6.length:Int)) (lb 10 255) rfl (fun w=>lnS_r (len:=sA_6.length) Tye39 rfl) (heldF (fq [0,1,2,3,4,5] l)) (tk 8 (.bool ((f.length:Int) == (sA_6.length:Int))) (lb 10 511) rfl (fun w=>bcm_r (r:=((f.length:Int) == (sA_6.length:Int))) rfl rfl rfl) (heldF (fq [0,1,2,3,4,5] l)) (aO 9 rfl ?_))))))))))))))⟩
   obtain ⟨bj,aR,h⟩:=ob h
   refine cp ([.bool ((f.length:Int) == (sA_6.length:Int)),iI 24]) Tyb58 ((f58_ok k) aR (hG.mono ((d.sub.trans e.sub).trans p.sub)) (pt l)) ?_ ?_
   ·rintro _ bk ⟨aS,rfl,rfl,t⟩
    have ap:=ca t l
    exact wt ⟨heldF (fwOf (is:=[0,1,2,3,4,5]) ap t.sub rfl),aD (thenN (wp_region_lit (l1 1 (pp gA 0) ap Tya158 (m1 (iI q) (nilc rfl (fd 4 Tyf42_4 rfl (sI 2 (iI q) ((vS sA_0 sA_1 sA_2 sA_3 q sA_5 AsA_6 sA_6 csA_6 AsA_7 sA_7 csA_7 AsA_8 sA_8 csA_8 AsA_9 sA_9 csA_9 AsA_10 sA_10 csA_10).toArray) ap Tys3 rfl rfl (fun bm aT=>(wpList_nil (retP (end0 rfl ⟨A,I,J,S,U,V,W,a,c,ac,sA_0,sA_1,sA_2,sA_3,q,sA_5,sA_6,sA_7,sA_8,sA_9,sA_10,aS,B,C,N,O,X,Y,u,x,Z,y,z,ab,AsA_6,csA_6,AsA_7,csA_7,AsA_8,csA_8,AsA_9,csA_9,AsA_10,csA_10,(oi h).symm,rfl,(aT.sel [3,4,5,2]),(mf al (((d.sub.trans e.sub).trans p.sub).trans t.sub)),au,(mp av (((d.sub.trans e.sub).trans p.sub).trans t.sub)),(ms aw (((d.sub.trans e.sub).trans p.sub).trans t.sub)),(ax.mono (fun _ _ h=>h)),ay,(StkR.mono (fun _ _ h=>h) az),aA,hsA_1,hsA_3,(me hsA_6 (((d.sub.trans e.sub).trans p.sub).trans t.sub)),(ms hsA_7 (((d.sub.trans e.sub).trans p.sub).trans t.sub)),(ms hsA_8 (((d.sub.trans e.sub).trans p.sub).trans t.sub)),(ms hsA_9 (((d.sub.trans e.sub).trans p.sub).trans t.sub)),(mc hsA_10 (((d.sub.trans e.sub).trans p.sub).trans t.sub))⟩)))))))))))⟩
   ·rintro _ bn ⟨aU,aV,rfl,rfl,aW⟩
    have aX:=ca aW l
    exact thenP (thenP (panE (.inr ⟨_,rfl,aU,aV,(oi h).symm,rfl,aX.sel []⟩)))
  ·rintro _ bo ⟨aY,aZ,rfl,rfl,a0⟩
   have a1:=ca a0 m
   exact thenP (thenP (panE (.inr ⟨_,rfl,aY,aZ,(oi h).symm,rfl,a1.sel []⟩)))
 ·rintro _ bp ⟨a2,a3,rfl,rfl,a4⟩
  have a5:=ca a4 am
  exact thenP (panE (.inr ⟨_,rfl,a2,a3,(oi h).symm,rfl,a5.sel []⟩))
theorem f122_ok (k:Nat):f122_spec (f122 k):=f122_b_ok k
theorem f105_b_ok (k:Nat) (F:Fam105) (IH105:f105_spec F.f105) (IH1012148:f1012148_spec F.f1012148) (IH1012152:f1012152_spec F.f1012152) (IH1012166:f1012166_spec F.f1012166) (IH1012352:f1012352_spec F.f1012352) (IH1012366:f1012366_spec F.f1012366):f105_spec (f105_b k F):=by
 unfold f105_spec
 intro K wi g bs br an ao ap aq ar au av aw ax ay az aA aB d q s aE f t u aF aG h6 qg r_ h hG d9 ea ec ed ee ef eg eh hbr h7 h8
 obtain ⟨aR,a2,a3,aS,a4,a5,ei,a6,a7,a8,bb⟩:=h6
 obtain ⟨ej,ek,be,bf,bg,bh,bi,bj,bL,bM,rfl,e4,e5,h9,e6,e7,e8,el⟩:=RDStmt.open h7
 refine enter Tryz.func105 rfl (n:=184) rfl ?_
 unfold f105_b at h
 refine sr (bxoC (cs:=(vS aR a2 a3 aS a4 a5 ej ei ek be a6 bf bg a7 bh bi a8 bj bL bb bM).toArray) h8 rfl rfl (fun ak ia=>(aC zS.toArray ia Tyz42 (fun ib e9=>(wt (sr (m1 (pp g 0) (fd 6 Tyf42_6 rfl (l1 1 (sl ej ei ek) e9 Tya39 ?_)))))))))
 have fa:=p23401 e9
 obtain ⟨qh,ic,h⟩:=ob h
 refine cp ([pp g 0,sl ej ei ek]) Tyb120 ((f120_ok k) ic (hG.mono kr) d9 ea ec ed ee ef eg eh (Nat.le_trans hbr e9.size) h9 (pt fa)) ?_ ?_
 ·rintro _ qi ⟨bd,cZ,bk,bm,rfl,rfl,z,fb⟩
  have id:=ca z fa
  refine fd 6 Tyf42_6 rfl (sI 4 (sl bk bd bm) ((vS aR a2 a3 aS a4 a5 bk bd bm be a6 bf bg a7 bh bi a8 bj bL bb bM).toArray) id Tys39 rfl rfl (fun ie cH=>(wt (wp_seq (sr (fd 0 Tyf42_0 rfl (l1 4 (iI aR) cH Tya3 (c0 (aR == 27) (wt (cd h (fun fc h=>?_) (fun fc h=>?_)))))))))))
  ·refine cT fc (sr (m2 nS (wt (wp_seq (sr (fd 10 Tyf42_10 rfl (l1 4 (sl bL bb bM) cH Tya40 (lS bb.length Tye40 (m1 (iI 0) (wt (wp_block ?_)))))))))))
   have ig:=cH.row_ (zz wi) 87 5
   refine wp_loopG (fun g_ a w=>∃ gH bN cI,∃ (co:Nat),∃ c2 dG dH c4 c5 dI dJ dK dL dM c7 dN dO bO c8 da dP bP db dc dQ dR al bn bo dS,g_=cI.length∧a=fr 184 (updL gH [(0,pp g 0),(3,pp (zz wi) 0),(4,pp (zz ak) 0),(5,sl bn al bo),(19,sl bL bb bM),(20,iI (bb.length:Int)),(21,iI (co:Int))])∧KH.sub cZ bN∧SR K bN wi w [.box bs g (vR ao an ap aq au ar av aw ax ay aA az aB q d s t f u aG).toArray 138,.row br (sl q d s) 9 1 d.length aE,.stk br (sl t f u) 135 f.length aF] [.box bs g (vR dG c2 dH c4 dI c5 dJ dK dL dM dN c7 dO c8 bO da db bP dc dR).toArray 138,.box (zz wi) (zz wi) (vS aR a2 a3 aS a4 a5 bk bd bm be a6 bf bg a7 bh bi a8 bj bL bb bM).toArray 42,.box (zz wi) (zz ak) zS.toArray 42,.row br (sl c8 bO da) 9 1 bO.length dP,.stk br (sl db bP dc) 135 bP.length dQ,.row (zz wi) (sl bn al bo) 87 5 al.length dS]∧bb.drop co=cI∧tF bN dG dH c2∧c4.size ≤ mB∧tP bN dI dJ c5∧tS bN dN dO c7∧Reps RStr 1 bO dP∧bO.length * 16 ≤ mB∧StkR kS VInt bP dQ∧bP.length * 8 ≤ mB∧Reps (RDCase bN) 5 al dS∧al.length * 80 ≤ mB∧f105_l1 k F aR a2 a3 aS a4 a5 a6 a7 a8 bd cI co c2 c4 c5 dK dL dM c7 bO bP dR al=some r_) bb.length ?_ ?_
   ·exact ⟨_,cZ,bb,0,an,ao,ap,aq,ar,au,av,aw,ax,ay,az,aA,aB,d,q,s,aE,f,t,u,aF,aG,([]:LC),none,0,[],rfl,fR,kr,(ig.sel [1,5,4,2,3,0]),List.drop_zero,(mf d9 z.sub),ea,(mp ec z.sub),(ms ed z.sub),(ee.mono (fun _ _ h=>h)),ef,(StkR.mono (fun _ _ h=>h) eg),eh,(reps0 (R:=(RDCase cZ)) (size:=5)),(by simp),h⟩
   ·rintro _ _ em ⟨gH,bN,cI,co,c2,dG,dH,c4,c5,dI,dJ,dK,dL,dM,c7,dN,dO,bO,c8,da,dP,bP,db,dc,dQ,dR,al,bn,bo,dS,rfl,rfl,ce,fe,dd,ff,fg,fh,fi,fj,fk,fl,fm,gI,ih,h⟩
    rcases cI with _ | ⟨⟨dT,cJ,dU,de,cK⟩,cI⟩
    ·unfold f105_l1 at h
     refine sr (bcm (r:=false) rfl rfl (congrArg some (drop_nil_lt dd)) (wt (wp_seq (cndF rfl (wp_exit (thenX (thenX (blkX (thenN (sr (m1 (sl bn al bo) (fd 10 Tyf42_10 rfl (sI 1 (sl bn al bo) ((vS aR a2 a3 aS a4 a5 bk bd bm be a6 bf bg a7 bh bi a8 bj bn al bo).toArray) fe Tys40 rfl rfl (fun qj gJ=>(wt (sr (lN 1 (vS aR a2 a3 aS a4 a5 bk bd bm be a6 bf bg a7 bh bi a8 bj bn al bo) gJ Tya42 Tys42 (sI 2 (.agg (vS aR a2 a3 aS a4 a5 bk bd bm be a6 bf bg a7 bh bi a8 bj bn al bo).toArray) ((vS aR a2 a3 aS a4 a5 bk bd bm be a6 bf bg a7 bh bi a8 bj bn al bo).toArray) gJ Tys42 rfl rfl (fun qk gK=>(wt (wp_ret (thenR ?_))))))))))))))))))))))
     obtain ⟨ii,ij,cL,ik⟩:=shutI (i:=5) (bytes:=80) (R:=fun K=>(RDCase K)) gK rfl (Nat.le_refl _) gI ih (fun hs=>(fun _ _ h=>RDCase.mono hs h))
     exact retP (retA1 rfl (resN (i:=2) (l:=(vS aR a2 a3 aS a4 a5 bk bd bm be a6 bf bg a7 bh bi a8 bj bn al bo)) gK rfl Tya42 Tys42 rfl rfl rfl) ⟨c2,c4,c5,dK,dL,dM,c7,bO,bP,dR,(DStmt.mk aR a2 a3 aS a4 a5 bd a6 a7 a8 al),ii,dG,dH,dI,dJ,dN,dO,c8,da,dP,db,dc,dQ,(vS aR a2 a3 aS a4 a5 bk bd bm be a6 bf bg a7 bh bi a8 bj bn al bo),(oi h).symm,rfl,(ij.sel [0,3,4]),(mf ff cL),fg,(mp fh cL),(ms fi cL),(fj.mono (fun _ _ h=>h)),fk,(StkR.mono (fun _ _ h=>h) fl),fm,(RDStmt.intro e4 e5 (me fb (ce.trans cL)) (ms e6 ((z.sub.trans ce).trans cL)) (ms e7 ((z.sub.trans ce).trans cL)) (ms e8 ((z.sub.trans ce).trans cL)) ik)⟩)
    ·unfold f105_l1 at h
     refine sr (bcm (r:=true) rfl rfl (congrArg some (drop_cons_t dd)) (wt (wp_seq (cndT rfl (wp_skip (thenN (wp_seq (wp_block (sr ?_)))))))))
     obtain ⟨il,im,ql,io,qm,ip,iq⟩:=((mc el (z.sub.trans ce))).row.at_ (drop_cons_at dd)
     obtain ⟨df,dg,cM,cN,rfl,gL,ir,gM⟩:=RDCase.open iq
     refine idxN (b:=il) (o:=im) (i:=co) Tye40 Tys87 rfl io rfl (drop_cons_lt dd) (lD (vC dT cJ dU df de dg cM cK cN) Tya87 Tys87 rfl (fun j v hj=>fe.cell (kr.cell (ip j v hj))) (aC zC.toArray fe Tyz87 (fun qn it=>(sI 0 (.agg (vC dT cJ dU df de dg cM cK cN).toArray) ((vC dT cJ dU df de dg cM cK cN).toArray) it Tys87 rfl rfl (fun iu fn=>(wt (sr (m1 (pp g 0) (fd 3 Tyf87_3 rfl (l1 0 (sl df de dg) fn Tya39 ?_))))))))))
     have fo:=p1450236 fn
     obtain ⟨qo,iv,h⟩:=ob h
     refine cp ([pp g 0,sl df de dg]) Tyb120 ((f120_ok k) iv (hG.mono (z.sub.trans ce)) ff fg fh fi fj fk fl fm (Nat.le_trans hbr fn.size) ir (pt fo)) ?_ ?_
     ·rintro _ qp ⟨gN,qq,gO,gP,rfl,rfl,cf,iw⟩
      have ix:=ca cf fo
      refine fd 3 Tyf87_3 rfl (sI 3 (sl gO gN gP) ((vC dT cJ dU gO gN gP cM cK cN).toArray) ix Tys39 rfl rfl (fun qr dh=>(wt (sr (m1 (pp g 0) (fd 1 Tyf87_1 rfl (l1 3 (.string cJ) dh Tya9 (fd 4 Tyf87_4 rfl (l1 3 (sl cM cK cN) dh Tya36 (fd 2 Tyf87_2 rfl ?_))))))))))
      obtain ⟨qs,iy,h⟩:=ob h
      refine cp ([pp g 0,.string cJ,sl cM cK cN,pp (zz em) 2]) Tyb121 (IH1012148 iy (hG.mono ((z.sub.trans ce).trans cf.sub)) (mf ff cf.sub) fg (mp fh cf.sub) (ms fi cf.sub) (fj.mono (fun _ _ h=>h)) fk (StkR.mono (fun _ _ h=>h) fl) fm (Nat.le_trans hbr dh.size) gL (ms gM cf.sub) gL iw (ms gM cf.sub) (pt dh)) ?_ ?_
      ·rintro _ qt ⟨fp,fs,ft,fu,fv,fx,fy,cO,cP,fz,bQ,bR,bS,bT,qu,bw,en,fA,fB,fC,fD,fE,fF,dV,dW,fG,dX,dY,fH,di,dj,qv,qw,cQ,cR,rfl,rfl,fI,iz,iA,iB,iC,iD,iE,iF,iG,iH,iJ,qx,iK⟩
       have iL:=ca fI dh
       refine fd 4 Tyf87_4 rfl (sI 3 (sl cQ bw cR) ((vC bQ bR bS di bT dj cQ bw cR).toArray) iL Tys36 rfl rfl (fun iM iN=>?_))
       have gQ:SR K en wi iM [.box bs g (vR ao an ap aq au ar av aw ax ay aA az aB q d s t f u aG).toArray 138,.row br (sl q d s) 9 1 d.length aE,.stk br (sl t f u) 135 f.length aF] [.box bs g (vR fA fp fB fs fC ft fD fu fv fx fE fy fF dV cO dW dX cP dY fz).toArray 138,.row br (sl dV cO dW) 9 1 cO.length fG,.stk br (sl dX cP dY) 135 cP.length fH,.box (zz wi) (zz em) (vC bQ bR bS di bT dj cQ bw cR).toArray 87,.box (zz wi) (zz wi) (vS aR a2 a3 aS a4 a5 bk bd bm be a6 bf bg a7 bh bi a8 bj bL bb bM).toArray 42,.box (zz wi) (zz ak) zS.toArray 42,.row (zz wi) (sl bn al bo) 87 5 al.length dS]:=iN
       refine wt (wp_region_lit (m1 (sl bn al bo) (lN 3 (vC bQ bR bS di bT dj cQ bw cR) gQ Tya87 Tys87 (bsl (e:=87) (cells:=(vC bQ bR bS di bT dj cQ bw cR).toArray) (vs:=[(0,.agg (vC bQ bR bS di bT dj cQ bw cR).toArray)]) gQ rfl (buildSl_one Tye40 Tys87 Tyz87 rfl (by decide) (by decide) rfl) (fun qy iO=>?_)))))
       obtain ⟨gR,h⟩:=of_guard h
       refine apR (R:=(RDCase en)) (p:=(DCase.mk bQ bR bS bT bw)) (i:=7) (j:=0) iO rfl rfl Tye40 Tyi87 rfl (by decide) rfl rfl (gI.mono (fun _ _ h=>RDCase.mono (cf.sub.trans fI.sub) h)) (RDCase.intro iH iJ iK) rfl rfl (Nat.le_refl _) gR (by decide) (fun fJ fK gT iP iQ iR=>?_)
       have iS:=p1234567 iQ
       exact m2 (.slice fJ (al ++ [(DCase.mk bQ bR bS bT bw)]).length fK) (wpList_nil (blkN (thenN (wp_region_lit (bar (r:=((co + 1:Nat):Int)) rfl rfl (inc_ok (le_big (((mc el (z.sub.trans ce))).len) (by decide) (drop_cons_lt dd))) (m1 (iI ((co + 1:Nat):Int)) (wt (⟨_,Nat.lt_succ_self _,_,en,cI,co + 1,fp,fA,fB,fs,ft,fC,fD,fu,fv,fx,fy,fE,fF,cO,dV,dW,fG,cP,dX,dY,fH,fz,(al ++ [(DCase.mk bQ bR bS bT bw)]),fJ,fK,gT,rfl,fR,((ce.trans cf.sub).trans fI.sub),(iS.sel [0,4,5,1,2,6]),drop_cons_next dd,iz,iA,iB,iC,iD,iE,iF,iG,iR,(app_bound gR),h⟩))))))))
      ·rintro _ qz ⟨iT,iU,rfl,rfl,iV⟩
       have iW:=ca iV dh
       exact thenP (blkP (thenP (thenP (blkP (thenP (thenP (panE (.inr ⟨_,rfl,iT,iU,(oi h).symm,rfl,iW.sel []⟩))))))))
     ·rintro _ qA ⟨iX,iY,rfl,rfl,iZ⟩
      have i0:=ca iZ fo
      exact thenP (blkP (thenP (thenP (blkP (thenP (thenP (panE (.inr ⟨_,rfl,iX,iY,(oi h).symm,rfl,i0.sel []⟩))))))))
  ·refine cF fc (wp_skip (thenN (wp_cut (fun a w=>∃ gU S aJ aT aU aK aL aV aW ai aI aP aM aX aY x ae af aZ y ag ah a0 aH c m am G U C A V W B I J D X Y N Z ab O ac ad,a=fr 184 (updL gU [(0,pp g 0),(3,pp (zz wi) 0),(4,pp (zz ak) 0)])∧KH.sub cZ S∧SR K S wi w [.box bs g (vR ao an ap aq au ar av aw ax ay aA az aB q d s t f u aG).toArray 138,.row br (sl q d s) 9 1 d.length aE,.stk br (sl t f u) 135 f.length aF] [.box bs g (vR aT aJ aU aK aV aL aW ai aI aP aX aM aY ae x af ag y ah aH).toArray 138,.box (zz wi) (zz wi) (vS c m am G U C V A W I B J X D Y Z N ab ac O ad).toArray 42,.box (zz wi) (zz ak) zS.toArray 42,.row br (sl ae x af) 9 1 x.length aZ,.stk br (sl ag y ah) 135 y.length a0]∧tF S aT aU aJ∧aK.size ≤ mB∧tP S aV aW aL∧tS S aX aY aM∧Reps RStr 1 x aZ∧x.length * 16 ≤ mB∧StkR kS VInt y a0∧y.length * 8 ≤ mB∧m.size ≤ mB∧G.size ≤ mB∧tE S V W A∧tS S I J B∧tS S X Y D∧tS S Z ab N∧tC S ac ad O∧f105_j1 k F aJ aK aL ai aI aP aM x y aH c m am G U C A B D N O=some r_) ?_ ?_)))
   ·refine sr (fd 3 Tyf42_3 rfl (l1 4 (.string aS) cH Tya9 (bsc (r:=(!seq aS ⟨#[]⟩)) rfl rfl rfl (wt (cd h (fun fL h=>?_) (fun fL h=>?_))))))
    ·refine cT fL (wp_region_lit (m1 (pp g 0) ?_))
     have fM:=p01243 cH
     obtain ⟨qB,i1,h⟩:=ob h
     refine cp ([pp g 0,pp (zz wi) 0]) Tyb122 ((f122_ok k) i1 (hG.mono z.sub) (mf d9 z.sub) ea (mp ec z.sub) (ms ed z.sub) (ee.mono (fun _ _ h=>h)) ef (StkR.mono (fun _ _ h=>h) eg) eh (Nat.le_trans hbr cH.size) e4 e5 fb (ms e6 z.sub) (ms e7 z.sub) (ms e8 z.sub) (mc el z.sub) (pt fM)) ?_ ?_
     ·rintro _ qC ⟨i2,i3,i4,i5,i6,i7,i8,i9,ja,jb,jc,jd,je,jf,jg,jh,ji,jj,jk,jl,jm,jn,jo,jp,jq,jr,js,jt,ju,jv,jw,jx,jy,jz,jA,jB,jC,jD,jE,jF,jG,jH,jI,jJ,rfl,rfl,gV,jK,jL,jM,jN,jO,jP,jQ,jR,jS,jT,jU,jV,jW,jX,jY⟩
      have jZ:=ca gV fM
      exact wt (⟨_,jn,i2,jo,jp,i3,i4,jq,jr,i5,i6,i7,i8,js,jt,i9,ju,jv,jw,ja,jx,jy,jz,jb,jc,jd,je,jf,jg,jh,ji,jA,jB,jj,jC,jD,jk,jE,jF,jl,jG,jH,jm,jI,jJ,fR,gV.sub,(jZ.sel [0,3,4,1,2]),jK,jL,jM,jN,jO,jP,jQ,jR,jS,jT,jU,jV,jW,jX,jY,h⟩)
     ·rintro _ qD ⟨j0,j1,rfl,rfl,j2⟩
      have j3:=ca j2 fM
      exact thenP (panE (.inr ⟨_,rfl,j0,j1,(oi h).symm,rfl,j3.sel []⟩))
    ·exact cF fL (wp_skip (thenN (⟨_,cZ,an,ao,ap,aq,ar,au,av,aw,ax,ay,az,aA,aB,d,q,s,aE,f,t,u,aF,aG,aR,a2,a3,aS,a4,a5,bd,bk,bm,a6,be,bf,a7,bg,bh,a8,bi,bj,bb,bL,bM,fR,kr,(cH.sel [0,4,3,1,2]),(mf d9 z.sub),ea,(mp ec z.sub),(ms ed z.sub),(ee.mono (fun _ _ h=>h)),ef,(StkR.mono (fun _ _ h=>h) eg),eh,e4,e5,fb,(ms e6 z.sub),(ms e7 z.sub),(ms e8 z.sub),(mc el z.sub),h⟩)))
   ·rintro _ j4 ⟨gU,S,aJ,aT,aU,aK,aL,aV,aW,ai,aI,aP,aM,aX,aY,x,ae,af,aZ,y,ag,ah,a0,aH,c,m,am,G,U,C,A,V,W,B,I,J,D,X,Y,N,Z,ab,O,ac,ad,rfl,a9,dk,bx,bz,bA,bB,bC,bD,bE,bF,ba,bG,bH,bp,bu,bI,bJ,h⟩
    unfold f105_j1 at h
    refine wp_cut (fun a w=>∃ gW aQ ch bW ci bX cj ck bY cq cr bZ ct cu b0 cw cx b1 cy cz b2 cA cB dZ eo ep d0 d1 eq es et eu ew d2 ex ey cC ez eA eB cD eC eD eE eF,a=fr 184 (updL gW [(3,pp (zz wi) 0),(4,pp (zz ak) 0)])∧KH.sub S aQ∧SR K aQ wi w [.box bs g (vR ao an ap aq au ar av aw ax ay aA az aB q d s t f u aG).toArray 138,.row br (sl q d s) 9 1 d.length aE,.stk br (sl t f u) 135 f.length aF] [.box (zz wi) (zz wi) (vS ch bW ci bX cj ck cq bY cr ct bZ cu cw b0 cx cy b1 cz cA b2 cB).toArray 42,.box (zz wi) (zz ak) zS.toArray 42,.box bs g (vR eo dZ ep d0 eq d1 es et eu ew ex d2 ey ez cC eA eC cD eD eF).toArray 138,.row br (sl ez cC eA) 9 1 cC.length eB,.stk br (sl eC cD eD) 135 cD.length eE]∧bW.size ≤ mB∧bX.size ≤ mB∧tE aQ cq cr bY∧tS aQ ct cu bZ∧tS aQ cw cx b0∧tS aQ cy cz b1∧tC aQ cA cB b2∧tF aQ eo ep dZ∧d0.size ≤ mB∧tP aQ eq es d1∧tS aQ ex ey d2∧Reps RStr 1 cC eB∧cC.length * 16 ≤ mB∧StkR kS VInt cD eE∧cD.length * 8 ≤ mB∧f105_j2 k F ch bW ci bX cj ck bY bZ b0 b1 b2 dZ d0 d1 et eu ew d2 cC cD eF=some r_) ?_ ?_
    ·refine sr (fd 0 Tyf42_0 rfl (l1 1 (iI c) dk Tya3 (wt (wp_block (sr (c0 (c == 2) (m2 (.bool (c == 2)) (wt (cd h (fun fN h=>?_) (fun fN h=>?_))))))))))
     ·refine cT fN (sr (m1 (pp g 0) (fd 1 Tyf42_1 rfl (l1 1 (.string m) dk Tya9 ?_))))
      have gX:=p03412 dk
      obtain ⟨⟨cS,d3⟩,j5,h⟩:=ob h
      refine cv ([pp g 0,.string m]) Tyb119 ((f119_ok k) j5 (hG.mono (z.sub.trans a9)) bx bz bA bB bC bD bE bF (Nat.le_trans hbr dk.size) ba (pt gX)) ?_
      rintro _ qE ⟨qF,rfl,bU⟩
      have fO:=ca bU gX
      refine m1 (.tuple #[iI cS,.bool d3]) (ext (v:=iI cS) rfl rfl (ext (v:=.bool d3) rfl rfl (m2 (iI cS) (m2 (.bool d3) (wt (sr (m1 (.bool d3) ?_)))))))
      obtain ⟨qG,j6,h⟩:=ob h
      refine cp ([.bool d3,iI 20]) Tyb58 ((f58_ok k) j6 (hG.mono ((z.sub.trans a9).trans bU.sub)) (pt fO)) ?_ ?_
      ·rintro _ qH ⟨j7,rfl,rfl,b3⟩
       have j8:=ca b3 fO
       exact wt (wp_region_lit (m1 (iI cS) (fd 2 Tyf42_2 rfl (sI 3 (iI cS) ((vS c m cS G U C V A W I B J X D Y Z N ab ac O ad).toArray) j8 Tys3 rfl rfl (fun qJ j9=>(wpList_nil (blkN (thenN (⟨_,j7,c,m,cS,G,U,C,A,V,W,B,I,J,D,X,Y,N,Z,ab,O,ac,ad,aJ,aT,aU,aK,aL,aV,aW,ai,aI,aP,aM,aX,aY,x,ae,af,aZ,y,ag,ah,a0,aH,fR,(bU.sub.trans b3.sub),(j9.sel [3,4,0,1,2]),ba,bG,(me bH (bU.sub.trans b3.sub)),(ms bp (bU.sub.trans b3.sub)),(ms bu (bU.sub.trans b3.sub)),(ms bI (bU.sub.trans b3.sub)),(mc bJ (bU.sub.trans b3.sub)),(mf bx (bU.sub.trans b3.sub)),bz,(mp bA (bU.sub.trans b3.sub)),(ms bB (bU.sub.trans b3.sub)),(bC.mono (fun _ _ h=>h)),bD,(StkR.mono (fun _ _ h=>h) bE),bF,h⟩)))))))))
      ·rintro _ qK ⟨ka,kb,rfl,rfl,kc⟩
       have kd:=ca kc fO
       exact thenP (blkP (thenP (panE (.inr ⟨_,rfl,ka,kb,(oi h).symm,rfl,kd.sel []⟩))))
     ·refine cF fN (wp_cut (fun a w=>∃ gY fP,a=fr 184 (updL gY [(0,pp g 0),(3,pp (zz wi) 0),(4,pp (zz ak) 0),(52,iI c),(90,.bool fP)])∧SR K S wi w [.box bs g (vR ao an ap aq au ar av aw ax ay aA az aB q d s t f u aG).toArray 138,.row br (sl q d s) 9 1 d.length aE,.stk br (sl t f u) 135 f.length aF] [.box bs g (vR aT aJ aU aK aV aL aW ai aI aP aX aM aY ae x af ag y ah aH).toArray 138,.box (zz wi) (zz wi) (vS c m am G U C V A W I B J X D Y Z N ab ac O ad).toArray 42,.box (zz wi) (zz ak) zS.toArray 42,.row br (sl ae x af) 9 1 x.length aZ,.stk br (sl ag y ah) 135 y.length a0]∧f105_j3 k F aJ aK aL ai aI aP aM x y aH c m am G U C A B D N O fP=some r_) ?_ ?_)
      ·refine sr (c0 (c == 18) (m2 (.bool (c == 18)) (wt (cd h (fun fQ h=>?_) (fun fQ h=>?_)))))
       ·exact cT fQ (wp_skip (thenN (⟨_,(c == 18),fR,dk,h⟩)))
       ·exact cF fQ (wp_region_lit (c0 (c == 19) (m2 (.bool (c == 19)) (wt (⟨_,(c == 19),fR,dk,h⟩)))))
      ·rintro _ eG ⟨gY,fP,rfl,aj,h⟩
       unfold f105_j3 at h
       refine cd h (fun fS h=>?_) (fun fS h=>?_)
       ·refine cT fS (wp_region_lit (m1 (pp g 0) (nilc rfl (fd 9 Tyf138_4 rfl (l1 0 (iI aH) aj Tya3 (c0 (decide (aH > 0)) ?_))))))
        obtain ⟨qL,ke,h⟩:=ob h
        refine cp ([.bool (decide (aH > 0)),iI 22]) Tyb58 ((f58_ok k) ke (hG.mono (z.sub.trans a9)) (pt aj)) ?_ ?_
        ·rintro _ qM ⟨kf,rfl,rfl,b4⟩
         have kg:=ca b4 aj
         exact wpList_nil (blkN (thenN (⟨_,kf,c,m,am,G,U,C,A,V,W,B,I,J,D,X,Y,N,Z,ab,O,ac,ad,aJ,aT,aU,aK,aL,aV,aW,ai,aI,aP,aM,aX,aY,x,ae,af,aZ,y,ag,ah,a0,aH,fR,b4.sub,(kg.sel [1,2,0,3,4]),ba,bG,(me bH b4.sub),(ms bp b4.sub),(ms bu b4.sub),(ms bI b4.sub),(mc bJ b4.sub),(mf bx b4.sub),bz,(mp bA b4.sub),(ms bB b4.sub),(bC.mono (fun _ _ h=>h)),bD,(StkR.mono (fun _ _ h=>h) bE),bF,h⟩)))
        ·rintro _ qN ⟨kh,ki,rfl,rfl,kj⟩
         have kk:=ca kj aj
         exact blkP (thenP (panE (.inr ⟨_,rfl,kh,ki,(oi h).symm,rfl,kk.sel []⟩)))
       ·refine cF fS (sr (c0 (c == 29) (m2 (.bool (c == 29)) (wt (cd h (fun fT h=>?_) (fun fT h=>?_))))))
        ·refine cT fT (wp_region_lit (m1 (pp g 0) (nilc rfl (fd 1 Tyf138_1 rfl (fd 4 Tyf38_3 rfl (l1 0 (.bool aI) aj Tya4 ?_))))))
         obtain ⟨qO,kl,h⟩:=ob h
         refine cp ([.bool aI,iI 22]) Tyb58 ((f58_ok k) kl (hG.mono (z.sub.trans a9)) (pt aj)) ?_ ?_
         ·rintro _ qP ⟨km,rfl,rfl,b5⟩
          have kn:=ca b5 aj
          exact wpList_nil (blkN (thenN (⟨_,km,c,m,am,G,U,C,A,V,W,B,I,J,D,X,Y,N,Z,ab,O,ac,ad,aJ,aT,aU,aK,aL,aV,aW,ai,aI,aP,aM,aX,aY,x,ae,af,aZ,y,ag,ah,a0,aH,fR,b5.sub,(kn.sel [1,2,0,3,4]),ba,bG,(me bH b5.sub),(ms bp b5.sub),(ms bu b5.sub),(ms bI b5.sub),(mc bJ b5.sub),(mf bx b5.sub),bz,(mp bA b5.sub),(ms bB b5.sub),(bC.mono (fun _ _ h=>h)),bD,(StkR.mono (fun _ _ h=>h) bE),bF,h⟩)))
         ·rintro _ qQ ⟨ko,kp,rfl,rfl,kq⟩
          have ks:=ca kq aj
          exact blkP (thenP (panE (.inr ⟨_,rfl,ko,kp,(oi h).symm,rfl,ks.sel []⟩)))
        ·refine cF fT (sr (c0 (c == 17) (m2 (.bool (c == 17)) (wt (cd h (fun fU h=>?_) (fun fU h=>?_))))))
         ·refine cT fU (have bq:=aj.drew;(regAny (E:=[]) (F:=FW S [.box bs g (vR aT aJ aU aK aV aL aW ai aI aP aX aM aY ae x af ag y ah aH).toArray 138,.box (zz wi) (zz wi) (vS c m am G U C V A W I B J X D Y Z N ab ac O ad).toArray 42,.box (zz wi) (zz ak) zS.toArray 42,.row br (sl ae x af) 9 1 x.length aZ,.stk br (sl ag y ah) 135 y.length a0]) (L:=(lb 12 0)) ymx rfl rfl (tk 0 (pp (zz wi) 6) (lb 12 1) rfl (fun w=>fld_r (o':=6) Tyf42_6 rfl rfl) (heldF (fq [0,1,2,3,4] bq)) (tf 1 (sl V A W) ([]) (lb 12 3) rfl (fq [0,1,2,3,4] bq) (fun w hF=>lb1_r (i:=1) (v:=sl V A W) hF rfl Tya39 rfl rfl) (tk 2 (iI (A.length:Int)) (lb 12 7) rfl (fun w=>lnS_r (len:=A.length) Tye39 rfl) (heldF (fq [0,1,2,3,4] bq)) (tk 3 (.bool (decide ((A.length:Int) > 0))) (lb 12 15) rfl (fun w=>bcm_r (r:=(decide ((A.length:Int) > 0))) rfl rfl rfl) (heldF (fq [0,1,2,3,4] bq)) (tk 4 (pp g 0) (lb 12 31) rfl (fun w=>mv_r (v:=pp g 0) rfl) (heldF (fq [0,1,2,3,4] bq)) (tk 5 (pp g 0) (lb 12 63) rfl (fun w=>nilc_r rfl) (heldF (fq [0,1,2,3,4] bq)) (tk 6 (pp g 1) (lb 12 127) rfl (fun w=>fld_r (o':=1) Tyf138_1 rfl rfl) (heldF (fq [0,1,2,3,4] bq)) (tk 7 (pp g 3) (lb 12 255) rfl (fun w=>fld_r (o':=3) Tyf38_2 rfl rfl) (heldF (fq [0,1,2,3,4] bq)) (tf 8 (iI ai) ([]) (lb 12 511) rfl (fq [0,1,2,3,4] bq) (fun w hF=>lb1_r (i:=0) (v:=iI ai) hF rfl Tya3 rfl rfl) (tk 9 (.bool (ai != 0)) (lb 12 1023) rfl (fun w=>bcm_r (r:=(ai != 0)) rfl rfl rfl) (heldF (fq [0,1,2,3,4] bq)) (tk 10 (.bool ((decide ((A.length:Int) > 0)) == (ai != 0))) (lb 12 2047) rfl (fun w=>bbo_r (r:=((decide ((A.length:Int) > 0)) == (ai != 0))) Tyo4 rfl rfl rfl) (heldF (fq [0,1,2,3,4] bq)) (aO 11 rfl ?_))))))))))))))
          obtain ⟨qR,kt,h⟩:=ob h
          refine cp ([.bool ((decide ((A.length:Int) > 0)) == (ai != 0)),iI 22]) Tyb58 ((f58_ok k) kt (hG.mono (z.sub.trans a9)) (pt bq)) ?_ ?_
          ·rintro _ qS ⟨ku,rfl,rfl,bV⟩
           have gZ:=ca bV bq
           exact wt ⟨heldF (fwOf (is:=[0,1,2,3,4]) gZ bV.sub rfl),aD (blkN (thenN (⟨_,ku,c,m,am,G,U,C,A,V,W,B,I,J,D,X,Y,N,Z,ab,O,ac,ad,aJ,aT,aU,aK,aL,aV,aW,ai,aI,aP,aM,aX,aY,x,ae,af,aZ,y,ag,ah,a0,aH,fR,bV.sub,(gZ.sel [1,2,0,3,4]),ba,bG,(me bH bV.sub),(ms bp bV.sub),(ms bu bV.sub),(ms bI bV.sub),(mc bJ bV.sub),(mf bx bV.sub),bz,(mp bA bV.sub),(ms bB bV.sub),(bC.mono (fun _ _ h=>h)),bD,(StkR.mono (fun _ _ h=>h) bE),bF,h⟩)))⟩
          ·rintro _ qT ⟨kv,kw,rfl,rfl,kx⟩
           have ky:=ca kx bq
           exact thenP (blkP (thenP (panE (.inr ⟨_,rfl,kv,kw,(oi h).symm,rfl,ky.sel []⟩))))
         ·refine cF fU (sr (c0 (c == 21) (m2 (.bool (c == 21)) (wt (cd h (fun fV h=>?_) (fun fV h=>?_))))))
          ·refine cT fV (wp_region_lit (m1 (pp g 0) (fd 7 Tyf42_7 rfl (l1 1 (sl I B J) aj Tya36 ?_))))
           have fW:=p03412 aj
           obtain ⟨qU,kz,h⟩:=ob h
           refine cp ([pp g 0,sE,sl I B J,.pointer none]) Tyb123 (IH1012366 kz (hG.mono (z.sub.trans a9)) bx bz bA bB bC bD bE bF (Nat.le_trans hbr aj.size) (by decide) bp (pt fW)) ?_ ?_
           ·rintro _ qV ⟨kA,kB,kC,kD,kE,kF,kG,kH,kJ,kK,fX,kL,kM,kN,kO,kP,kQ,kR,kT,kU,kV,kW,kX,kY,fY,fZ,rfl,rfl,dl,kZ,k0,k1,k2,k3,k4,k5,k6,k7⟩
            have k8:=ca dl fW
            exact fd 7 Tyf42_7 rfl (sI 3 (sl fY fX fZ) ((vS c m am G U C V A W fY fX fZ X D Y Z N ab ac O ad).toArray) k8 Tys36 rfl rfl (fun qW k9=>(wpList_nil (blkN (thenN (⟨_,kL,c,m,am,G,U,C,A,V,W,fX,fY,fZ,D,X,Y,N,Z,ab,O,ac,ad,kA,kM,kN,kB,kC,kO,kP,kD,kE,kF,kG,kQ,kR,kH,kT,kU,kV,kJ,kW,kX,kY,kK,fR,dl.sub,(k9.sel [3,4,0,1,2]),ba,bG,(me bH dl.sub),k7,(ms bu dl.sub),(ms bI dl.sub),(mc bJ dl.sub),kZ,k0,k1,k2,k3,k4,k5,k6,h⟩))))))
           ·rintro _ qX ⟨la,lc,rfl,rfl,ld⟩
            have lf:=ca ld fW
            exact blkP (thenP (panE (.inr ⟨_,rfl,la,lc,(oi h).symm,rfl,lf.sel []⟩)))
          ·refine cF fV (sr (c0 (c == 28) (m2 (.bool (c == 28)) (wt (cd h (fun f0 h=>?_) (fun f0 h=>?_))))))
           ·refine cT f0 (wp_region_lit (m1 (pp g 0) (fd 1 Tyf42_1 rfl (l1 1 (.string m) aj Tya9 (fd 7 Tyf42_7 rfl (l1 1 (sl I B J) aj Tya36 (fd 2 Tyf42_2 rfl ?_)))))))
            have f1:=p03412 aj
            obtain ⟨qY,lg,h⟩:=ob h
            refine cp ([pp g 0,.string m,sl I B J,pp (zz wi) 2]) Tyb123 (IH1012352 lg (hG.mono (z.sub.trans a9)) bx bz bA bB bC bD bE bF (Nat.le_trans hbr aj.size) ba bp ba bG bH bp bu bI bJ (pt f1)) ?_ ?_
            ·rintro _ qZ ⟨lh,li,lj,lk,ll,lm,ln,lo,lp,lq,g0,g1,g2,g3,g4,g5,g6,q0,g7,g8,g9,f2,lr,ls,lu,lv,lw,lx,ly,lz,lA,lB,lC,lE,lF,ha,hb,q1,q2,hc,hd,he,hf,hg,hh,f3,f4,rfl,rfl,hi,lG,lH,lI,lJ,lK,lL,lM,lO,lP,lQ,lR,q3,lT,lU,lV,lW⟩
             have lX:=ca hi f1
             exact fd 7 Tyf42_7 rfl (sI 3 (sl f3 f2 f4) ((vS g0 g1 g2 g3 g4 g5 ha g6 hb f3 f2 f4 hc g7 hd he g8 hf hg g9 hh).toArray) lX Tys36 rfl rfl (fun q4 lY=>(wpList_nil (blkN (thenN (⟨_,lr,g0,g1,g2,g3,g4,g5,g6,ha,hb,f2,f3,f4,g7,hc,hd,g8,he,hf,g9,hg,hh,lh,ls,lu,li,lj,lv,lw,lk,ll,lm,ln,lx,ly,lo,lz,lA,lB,lp,lC,lE,lF,lq,fR,hi.sub,(lY.sel [3,4,0,1,2]),lP,lQ,lR,lW,lT,lU,lV,lG,lH,lI,lJ,lK,lL,lM,lO,h⟩))))))
            ·rintro _ q5 ⟨lZ,l0,rfl,rfl,l2⟩
             have l3:=ca l2 f1
             exact blkP (thenP (panE (.inr ⟨_,rfl,lZ,l0,(oi h).symm,rfl,l3.sel []⟩)))
           ·refine cF f0 (sr (c0 (c == 25) (m2 (.bool (c == 25)) (wt (cd h (fun f5 h=>?_) (fun f5 h=>?_))))))
            ·refine cT f5 (wp_region_lit (m1 (pp g 0) (fd 1 Tyf42_1 rfl (l1 1 (.string m) aj Tya9 (fd 7 Tyf42_7 rfl (l1 1 (sl I B J) aj Tya36 (fd 2 Tyf42_2 rfl ?_)))))))
             have f6:=p03412 aj
             obtain ⟨q6,l4,h⟩:=ob h
             refine cp ([pp g 0,.string m,sl I B J,pp (zz wi) 2]) Tyb121 (IH1012152 l4 (hG.mono (z.sub.trans a9)) bx bz bA bB bC bD bE bF (Nat.le_trans hbr aj.size) ba bp ba bG bH bp bu bI bJ (pt f6)) ?_ ?_
             ·rintro _ q7 ⟨l5,l6,l7,l8,l9,ma,mb,md,mg,mh,hk,hl,hm,hn,ho,hp,hq,q8,hr,ht,hu,f7,mi,mj,ml,mm,mn,mo,mq,mr,mt,mu,mw,mx,my,hv,hw,q9,ra,hx,hy,hz,hA,hB,hC,f8,ga,rfl,rfl,hD,mz,mA,mC,mD,mE,mF,mG,mH,mI,mJ,mK,rb,mL,mM,mN,mO⟩
              have mP:=ca hD f6
              exact fd 7 Tyf42_7 rfl (sI 3 (sl f8 f7 ga) ((vS hk hl hm hn ho hp hv hq hw f8 f7 ga hx hr hy hz ht hA hB hu hC).toArray) mP Tys36 rfl rfl (fun rc mQ=>(wpList_nil (blkN (thenN (⟨_,mi,hk,hl,hm,hn,ho,hp,hq,hv,hw,f7,f8,ga,hr,hx,hy,ht,hz,hA,hu,hB,hC,l5,mj,ml,l6,l7,mm,mn,l8,l9,ma,mb,mo,mq,md,mr,mt,mu,mg,mw,mx,my,mh,fR,hD.sub,(mQ.sel [3,4,0,1,2]),mI,mJ,mK,mO,mL,mM,mN,mz,mA,mC,mD,mE,mF,mG,mH,h⟩))))))
             ·rintro _ rd ⟨mR,mS,rfl,rfl,mT⟩
              have mU:=ca mT f6
              exact blkP (thenP (panE (.inr ⟨_,rfl,mR,mS,(oi h).symm,rfl,mU.sel []⟩)))
            ·refine cF f5 (sr (c0 (c == 24) (m2 (.bool (c == 24)) (wt (cd h (fun gb h=>?_) (fun gb h=>?_))))))
             ·refine cT gb (sr (m1 (pp g 0) (fd 7 Tyf42_7 rfl (l1 1 (sl I B J) aj Tya36 ?_))))
              have gc:=p03412 aj
              obtain ⟨re,mV,h⟩:=ob h
              refine cp ([pp g 0,sE,sl I B J,.pointer none]) Tyb121 (IH1012166 mV (hG.mono (z.sub.trans a9)) bx bz bA bB bC bD bE bF (Nat.le_trans hbr aj.size) (by decide) bp (pt gc)) ?_ ?_
              ·rintro _ rf ⟨rg,rh,ri,rj,rk,rl,rm,rn,ro,rp,hE,rq,rr,rs,rt,ru,rv,rw,rx,ry,rA,rB,rC,rD,hH,hI,rfl,rfl,cl,mW,mX,mY,mZ,m0,m4,m5,m6,m7⟩
               have m8:=ca cl gc
               refine fd 7 Tyf42_7 rfl (sI 3 (sl hH hE hI) ((vS c m am G U C V A W hH hE hI X D Y Z N ab ac O ad).toArray) m8 Tys36 rfl rfl (fun rF dm=>(wt (sr (m1 (pp g 0) (fd 1 Tyf42_1 rfl (l1 3 (.string m) dm Tya9 (fd 8 Tyf42_8 rfl (l1 3 (sl X D Y) dm Tya36 (fd 2 Tyf42_2 rfl ?_))))))))))
               obtain ⟨rG,m9,h⟩:=ob h
               refine cp ([pp g 0,.string m,sl X D Y,pp (zz wi) 2]) Tyb121 (IH1012152 m9 (hG.mono ((z.sub.trans a9).trans cl.sub)) mW mX mY mZ m0 m4 m5 m6 (Nat.le_trans hbr dm.size) ba (ms bu cl.sub) ba bG (me bH cl.sub) m7 (ms bu cl.sub) (ms bI cl.sub) (mc bJ cl.sub) (pt dm)) ?_ ?_
               ·rintro _ rH ⟨rI,rJ,rK,rL,rM,rN,rO,rP,rQ,rR,eH,eI,eJ,eK,eL,eM,eN,eO,rT,gd,eP,d4,rV,rW,rX,rY,rZ,r0,r1,r2,r3,r4,r5,r6,r7,eQ,eR,eS,eT,r8,r9,ge,gf,eU,eV,d5,d6,rfl,rfl,gg,na,nb,nc,nd,ne,nf,ng,nh,ni,nj,nk,nl,sa,nm,nn,np⟩
                have nq:=ca gg dm
                refine fd 8 Tyf42_8 rfl (sI 3 (sl d5 d4 d6) ((vS eH eI eJ eK eL eM eQ eN eR eS eO eT d5 d4 d6 ge gd gf eU eP eV).toArray) nq Tys36 rfl rfl (fun sb d7=>(wt (wp_region_lit (m1 (pp g 0) (fd 9 Tyf42_9 rfl (l1 3 (sl ge gd gf) d7 Tya36 ?_)))))))
                obtain ⟨sc,nr,h⟩:=ob h
                refine cp ([pp g 0,sE,sl ge gd gf,.pointer none]) Tyb121 (IH1012166 nr (hG.mono (((z.sub.trans a9).trans cl.sub).trans gg.sub)) na nb nc nd ne nf ng nh (Nat.le_trans hbr d7.size) (by decide) nm (pt d7)) ?_ ?_
                ·rintro _ sd ⟨hJ,hK,hL,hM,hN,hO,hP,eW,eX,hQ,eY,hR,hS,hT,hU,hV,hW,hX,gh,gi,hY,gj,gk,hZ,eZ,e0,rfl,rfl,dn,ns,nt,nu,nv,nw,nx,ny,nz,nA⟩
                 have nB:=ca dn d7
                 refine fd 9 Tyf42_9 rfl (sI 3 (sl eZ eY e0) ((vS eH eI eJ eK eL eM eQ eN eR eS eO eT d5 d4 d6 eZ eY e0 eU eP eV).toArray) nB Tys36 rfl rfl (fun nC nD=>?_))
                 have nF:SR K hR wi nC [.box bs g (vR ao an ap aq au ar av aw ax ay aA az aB q d s t f u aG).toArray 138,.row br (sl q d s) 9 1 d.length aE,.stk br (sl t f u) 135 f.length aF] [.box bs g (vR hS hJ hT hK hU hL hV hM hN hO hW hP hX gh eW gi gj eX gk hQ).toArray 138,.row br (sl gh eW gi) 9 1 eW.length hY,.stk br (sl gj eX gk) 135 eX.length hZ,.box (zz wi) (zz wi) (vS eH eI eJ eK eL eM eQ eN eR eS eO eT d5 d4 d6 eZ eY e0 eU eP eV).toArray 42,.box (zz wi) (zz ak) zS.toArray 42]:=nD
                 exact wpList_nil (blkN (thenN (⟨_,hR,eH,eI,eJ,eK,eL,eM,eN,eQ,eR,eO,eS,eT,d4,d5,d6,eY,eZ,e0,eP,eU,eV,hJ,hS,hT,hK,hL,hU,hV,hM,hN,hO,hP,hW,hX,eW,gh,gi,hY,eX,gj,gk,hZ,hQ,fR,((cl.sub.trans gg.sub).trans dn.sub),(nF.sel [3,4,0,1,2]),ni,nj,(me nk dn.sub),(ms nl dn.sub),(ms np dn.sub),nA,(mc nn dn.sub),ns,nt,nu,nv,nw,nx,ny,nz,h⟩)))
                ·rintro _ se ⟨nG,nH,rfl,rfl,nI⟩
                 have nJ:=ca nI d7
                 exact blkP (thenP (panE (.inr ⟨_,rfl,nG,nH,(oi h).symm,rfl,nJ.sel []⟩)))
               ·rintro _ sf ⟨nK,nL,rfl,rfl,nM⟩
                have nN:=ca nM dm
                exact thenP (blkP (thenP (panE (.inr ⟨_,rfl,nK,nL,(oi h).symm,rfl,nN.sel []⟩))))
              ·rintro _ sg ⟨nO,nP,rfl,rfl,nQ⟩
               have nT:=ca nQ gc
               exact thenP (blkP (thenP (panE (.inr ⟨_,rfl,nO,nP,(oi h).symm,rfl,nT.sel []⟩))))
             ·refine cF gb (wp_cut (fun a w=>∃ h0 gl,a=fr 184 (updL h0 [(0,pp g 0),(3,pp (zz wi) 0),(4,pp (zz ak) 0),(168,.bool gl)])∧SR K S wi w [.box bs g (vR ao an ap aq au ar av aw ax ay aA az aB q d s t f u aG).toArray 138,.row br (sl q d s) 9 1 d.length aE,.stk br (sl t f u) 135 f.length aF] [.box bs g (vR aT aJ aU aK aV aL aW ai aI aP aX aM aY ae x af ag y ah aH).toArray 138,.box (zz wi) (zz wi) (vS c m am G U C V A W I B J X D Y Z N ab ac O ad).toArray 42,.box (zz wi) (zz ak) zS.toArray 42,.row br (sl ae x af) 9 1 x.length aZ,.stk br (sl ag y ah) 135 y.length a0]∧f105_j4 k F aJ aK aL ai aI aP aM x y aH c m am G U C A B D N O gl=some r_) ?_ ?_)
              ·refine sr (c0 (c == 20) (m2 (.bool (c == 20)) (wt (cd h (fun gm h=>?_) (fun gm h=>?_)))))
               ·exact cT gm (wp_skip (thenN (⟨_,(c == 20),fR,aj,h⟩)))
               ·refine cF gm (sr (c0 (c == 22) (m2 (.bool (c == 22)) (wt (cd h (fun gn h=>?_) (fun gn h=>?_))))))
                ·exact cT gn (wp_skip (thenN (⟨_,(c == 22),fR,aj,h⟩)))
                ·refine cF gn (sr (c0 (c == 23) (m2 (.bool (c == 23)) (wt (cd h (fun go h=>?_) (fun go h=>?_))))))
                 ·exact cT go (wp_skip (thenN (⟨_,(c == 23),fR,aj,h⟩)))
                 ·exact cF go (wp_region_lit (c0 (c == 26) (m2 (.bool (c == 26)) (wt (⟨_,(c == 26),fR,aj,h⟩)))))
              ·rintro _ h1 ⟨h0,gl,rfl,cG,h⟩
               unfold f105_j4 at h
               refine cd h (fun gp h=>?_) (fun gp h=>?_)
               ·refine cT gp (sr (m1 (pp g 0) (fd 7 Tyf42_7 rfl (l1 1 (sl I B J) cG Tya36 ?_))))
                have gq:=p03412 cG
                obtain ⟨sh,nV,h⟩:=ob h
                refine cp ([pp g 0,sE,sl I B J,.pointer none]) Tyb121 (IH1012166 nV (hG.mono (z.sub.trans a9)) bx bz bA bB bC bD bE bF (Nat.le_trans hbr cG.size) (by decide) bp (pt gq)) ?_ ?_
                ·rintro _ si ⟨sj,sk,sm,sn,so,sp,sq,ss,st,su,e1,sv,sw,sx,sy,sz,sA,sB,sC,sD,sF,sG,sH,sJ,e2,e3,rfl,rfl,cU,nW,nX,nY,nZ,n2,n3,n4,n5,n6⟩
                 have n7:=ca cU gq
                 refine fd 7 Tyf42_7 rfl (sI 3 (sl e2 e1 e3) ((vS c m am G U C V A W e2 e1 e3 X D Y Z N ab ac O ad).toArray) n7 Tys36 rfl rfl (fun sK d8=>(wt (wp_region_lit (m1 (pp g 0) (fd 8 Tyf42_8 rfl (l1 3 (sl X D Y) d8 Tya36 ?_)))))))
                 obtain ⟨sL,n8,h⟩:=ob h
                 refine cp ([pp g 0,sE,sl X D Y,.pointer none]) Tyb121 (IH1012166 n8 (hG.mono ((z.sub.trans a9).trans cU.sub)) nW nX nY nZ n2 n3 n4 n5 (Nat.le_trans hbr d8.size) (by decide) (ms bu cU.sub) (pt d8)) ?_ ?_
                 ·rintro _ sM ⟨n9,oa,oc,od,oe,og,oh,oj,ol,om,gr,oo,op,oq,os,ot,ov,ow,ox,oy,oz,oA,oB,oC,gs,gt,rfl,rfl,dp,oD,oE,oF,oG,oH,oI,oJ,oK,oL⟩
                  have oM:=ca dp d8
                  exact fd 8 Tyf42_8 rfl (sI 3 (sl gs gr gt) ((vS c m am G U C V A W e2 e1 e3 gs gr gt Z N ab ac O ad).toArray) oM Tys36 rfl rfl (fun sN oN=>(wpList_nil (blkN (thenN (⟨_,oo,c,m,am,G,U,C,A,V,W,e1,e2,e3,gr,gs,gt,N,Z,ab,O,ac,ad,n9,op,oq,oa,oc,os,ot,od,oe,og,oh,ov,ow,oj,ox,oy,oz,ol,oA,oB,oC,om,fR,(cU.sub.trans dp.sub),(oN.sel [3,4,0,1,2]),ba,bG,(me bH (cU.sub.trans dp.sub)),(ms n6 dp.sub),oL,(ms bI (cU.sub.trans dp.sub)),(mc bJ (cU.sub.trans dp.sub)),oD,oE,oF,oG,oH,oI,oJ,oK,h⟩))))))
                 ·rintro _ sO ⟨oO,oP,rfl,rfl,oQ⟩
                  have oR:=ca oQ d8
                  exact blkP (thenP (panE (.inr ⟨_,rfl,oO,oP,(oi h).symm,rfl,oR.sel []⟩)))
                ·rintro _ sP ⟨oS,oT,rfl,rfl,oU⟩
                 have oV:=ca oU gq
                 exact thenP (blkP (thenP (panE (.inr ⟨_,rfl,oS,oT,(oi h).symm,rfl,oV.sel []⟩))))
               ·refine cF gp (wp_cut (fun a w=>∃ h2 cm cV dq dr cW cX ds dt du dv dw cY dx dy b6 dz dA dB b7 dC dD dE b8 dF,a=fr 184 (updL h2 [(0,pp g 0),(3,pp (zz wi) 0),(4,pp (zz ak) 0)])∧KH.sub S cm∧SR K cm wi w [.box bs g (vR ao an ap aq au ar av aw ax ay aA az aB q d s t f u aG).toArray 138,.row br (sl q d s) 9 1 d.length aE,.stk br (sl t f u) 135 f.length aF] [.box bs g (vR dq cV dr cW ds cX dt du dv dw dx cY dy dz b6 dA dC b7 dD b8).toArray 138,.box (zz wi) (zz wi) (vS c m dF G U C V A W I B J X D Y Z N ab ac O ad).toArray 42,.box (zz wi) (zz ak) zS.toArray 42,.row br (sl dz b6 dA) 9 1 b6.length dB,.stk br (sl dC b7 dD) 135 b7.length dE]∧tF cm dq dr cV∧cW.size ≤ mB∧tP cm ds dt cX∧tS cm dx dy cY∧Reps RStr 1 b6 dB∧b6.length * 16 ≤ mB∧StkR kS VInt b7 dE∧b7.length * 8 ≤ mB∧f105_j5 k F c m G U C A B D N O cV cW cX du dv dw cY b6 b7 b8 dF=some r_) ?_ ?_)
                ·refine sr (fd 1 Tyf42_1 rfl (l1 1 (.string m) cG Tya9 (bsc (r:=(!seq m ⟨#[]⟩)) rfl rfl rfl (wt (cd h (fun gu h=>?_) (fun gu h=>?_))))))
                 ·refine cT gu (wp_region_lit (m1 (pp g 0) (fd 1 Tyf42_1 rfl (l1 1 (.string m) cG Tya9 ?_))))
                  have gv:=p03412 cG
                  obtain ⟨sQ,oW,h⟩:=ob h
                  refine cp ([pp g 0,.string m]) Tyb103 ((f103_ok k) oW (hG.mono (z.sub.trans a9)) bx bz bA bB bC bD bE bF (Nat.le_trans hbr cG.size) ba (pt gv)) ?_ ?_
                  ·rintro _ sR ⟨oX,oY,oZ,o2,o3,o4,o5,o6,o7,o8,gw,o9,pa,pb,pc,pd,pe,pf,pg,ph,pi,pj,pk,pl,rfl,rfl,h3,pm,pn,po,pq,pr,ps,pu,pv⟩
                   have pw:=ca h3 gv
                   exact fd 2 Tyf42_2 rfl (sI 3 (iI gw) ((vS c m gw G U C V A W I B J X D Y Z N ab ac O ad).toArray) pw Tys3 rfl rfl (fun sS px=>(wt (⟨_,o9,oX,pa,pb,oY,oZ,pc,pd,o2,o3,o4,o5,pe,pf,o6,pg,ph,pi,o7,pj,pk,pl,o8,gw,fR,h3.sub,(px.sel [0,3,4,1,2]),pm,pn,po,pq,pr,ps,pu,pv,h⟩))))
                  ·rintro _ sT ⟨py,pz,rfl,rfl,pA⟩
                   have pB:=ca pA gv
                   exact thenP (blkP (thenP (panE (.inr ⟨_,rfl,py,pz,(oi h).symm,rfl,pB.sel []⟩))))
                 ·exact cF gu (wp_skip (thenN (⟨_,S,aJ,aT,aU,aK,aL,aV,aW,ai,aI,aP,aM,aX,aY,x,ae,af,aZ,y,ag,ah,a0,aH,am,fR,kr,cG,bx,bz,bA,bB,bC,bD,bE,bF,h⟩)))
                ·rintro _ sU ⟨h2,cm,cV,dq,dr,cW,cX,ds,dt,du,dv,dw,cY,dx,dy,b6,dz,dA,dB,b7,dC,dD,dE,b8,dF,rfl,aN,bK,gx,gy,gz,gA,gB,gD,gF,gG,h⟩
                 unfold f105_j5 at h
                 refine wp_region_lit (fd 0 Tyf42_0 rfl (l1 1 (iI c) bK Tya3 (c0 (c != 6) (m1 (.bool (c != 6)) (cd h (fun cn h=>?_) (fun cn h=>?_))))))
                 ·refine o1 64 cn (o1 64 cn (o1 64 cn (m3 true vT (cg cn) (m1 vT (o0 69 (o0 69 (o0 69 (o0 69 (o0 69 (m3 true vT rfl ?_))))))))))
                  obtain ⟨sV,pC,h⟩:=ob h
                  refine cp ([vT,iI 22]) Tyb58 ((f58_ok k) pC (hG.mono ((z.sub.trans a9).trans aN)) (pt bK)) ?_ ?_
                  ·rintro _ sW ⟨pD,rfl,rfl,b9⟩
                   have pE:=ca b9 bK
                   exact wpList_nil (blkN (thenN (⟨_,pD,c,m,dF,G,U,C,A,V,W,B,I,J,D,X,Y,N,Z,ab,O,ac,ad,cV,dq,dr,cW,cX,ds,dt,du,dv,dw,cY,dx,dy,b6,dz,dA,dB,b7,dC,dD,dE,b8,fR,(aN.trans b9.sub),(pE.sel [1,2,0,3,4]),ba,bG,(me bH (aN.trans b9.sub)),(ms bp (aN.trans b9.sub)),(ms bu (aN.trans b9.sub)),(ms bI (aN.trans b9.sub)),(mc bJ (aN.trans b9.sub)),(mf gx b9.sub),gy,(mp gz b9.sub),(ms gA b9.sub),(gB.mono (fun _ _ h=>h)),gD,(StkR.mono (fun _ _ h=>h) gF),gG,h⟩)))
                  ·rintro _ sX ⟨pF,pG,rfl,rfl,pH⟩
                   have pI:=ca pH bK
                   exact blkP (thenP (panE (.inr ⟨_,rfl,pF,pG,(oi h).symm,rfl,pI.sel []⟩)))
                 ·refine n1 64 cn (fd 5 Tyf42_5 rfl (n1 64 cn (l1 1 (iI C) bK Tya3 (n1 64 cn (c0 (C == 0) (m3 false (.bool (C == 0)) (cg cn) (m1 (.bool (C == 0)) (cd h (fun bv h=>?_) (fun bv h=>?_)))))))))
                  ·refine o1 69 bv (o1 69 bv (o1 69 bv (o1 69 bv (o1 69 bv (m3 true vT (cg bv) ?_)))))
                   obtain ⟨sY,pJ,h⟩:=ob h
                   refine cp ([vT,iI 22]) Tyb58 ((f58_ok k) pJ (hG.mono ((z.sub.trans a9).trans aN)) (pt bK)) ?_ ?_
                   ·rintro _ sZ ⟨pK,rfl,rfl,cb⟩
                    have pL:=ca cb bK
                    exact wpList_nil (blkN (thenN (⟨_,pK,c,m,dF,G,U,C,A,V,W,B,I,J,D,X,Y,N,Z,ab,O,ac,ad,cV,dq,dr,cW,cX,ds,dt,du,dv,dw,cY,dx,dy,b6,dz,dA,dB,b7,dC,dD,dE,b8,fR,(aN.trans cb.sub),(pL.sel [1,2,0,3,4]),ba,bG,(me bH (aN.trans cb.sub)),(ms bp (aN.trans cb.sub)),(ms bu (aN.trans cb.sub)),(ms bI (aN.trans cb.sub)),(mc bJ (aN.trans cb.sub)),(mf gx cb.sub),gy,(mp gz cb.sub),(ms gA cb.sub),(gB.mono (fun _ _ h=>h)),gD,(StkR.mono (fun _ _ h=>h) gF),gG,h⟩)))
                   ·rintro _ s0 ⟨pM,pN,rfl,rfl,pO⟩
                    have pP:=ca pO bK
                    exact blkP (thenP (panE (.inr ⟨_,rfl,pM,pN,(oi h).symm,rfl,pP.sel []⟩)))
                  ·refine n1 69 bv (m1 (pp g 0) (n1 69 bv (nilc rfl (n1 69 bv (fd 9 Tyf138_4 rfl (n1 69 bv (l1 0 (iI b8) bK Tya3 (n1 69 bv (c0 (decide (b8 > 0)) (m3 false (.bool (decide (b8 > 0))) (cg bv) ?_))))))))))
                   obtain ⟨s1,pQ,h⟩:=ob h
                   refine cp ([.bool (decide (b8 > 0)),iI 22]) Tyb58 ((f58_ok k) pQ (hG.mono ((z.sub.trans a9).trans aN)) (pt bK)) ?_ ?_
                   ·rintro _ s2 ⟨pR,rfl,rfl,cc⟩
                    have pS:=ca cc bK
                    exact wpList_nil (blkN (thenN (⟨_,pR,c,m,dF,G,U,C,A,V,W,B,I,J,D,X,Y,N,Z,ab,O,ac,ad,cV,dq,dr,cW,cX,ds,dt,du,dv,dw,cY,dx,dy,b6,dz,dA,dB,b7,dC,dD,dE,b8,fR,(aN.trans cc.sub),(pS.sel [1,2,0,3,4]),ba,bG,(me bH (aN.trans cc.sub)),(ms bp (aN.trans cc.sub)),(ms bu (aN.trans cc.sub)),(ms bI (aN.trans cc.sub)),(mc bJ (aN.trans cc.sub)),(mf gx cc.sub),gy,(mp gz cc.sub),(ms gA cc.sub),(gB.mono (fun _ _ h=>h)),gD,(StkR.mono (fun _ _ h=>h) gF),gG,h⟩)))
                   ·rintro _ s3 ⟨pT,pU,rfl,rfl,pV⟩
                    have pW:=ca pV bK
                    exact blkP (thenP (panE (.inr ⟨_,rfl,pT,pU,(oi h).symm,rfl,pW.sel []⟩)))
    ·rintro _ s4 ⟨gW,aQ,ch,bW,ci,bX,cj,ck,bY,cq,cr,bZ,ct,cu,b0,cw,cx,b1,cy,cz,b2,cA,cB,dZ,eo,ep,d0,d1,eq,es,et,eu,ew,d2,ex,ey,cC,ez,eA,eB,cD,eC,eD,eE,eF,rfl,s5,h4,pX,pY,pZ,p0,p1,p2,p3,p4,p5,p6,p7,p8,p9,qa,qb,h⟩
     unfold f105_j2 at h
     exact sr (lN 0 (vS ch bW ci bX cj ck cq bY cr ct bZ cu cw b0 cx cy b1 cz cA b2 cB) h4 Tya42 Tys42 (sI 1 (.agg (vS ch bW ci bX cj ck cq bY cr ct bZ cu cw b0 cx cy b1 cz cA b2 cB).toArray) ((vS ch bW ci bX cj ck cq bY cr ct bZ cu cw b0 cx cy b1 cz cA b2 cB).toArray) h4 Tys42 rfl rfl (fun s6 h5=>(wt (wp_ret (retP (retA1 rfl (resN (i:=1) (l:=(vS ch bW ci bX cj ck cq bY cr ct bZ cu cw b0 cx cy b1 cz cA b2 cB)) h5 rfl Tya42 Tys42 rfl rfl rfl) ⟨dZ,d0,d1,et,eu,ew,d2,cC,cD,eF,(DStmt.mk ch bW ci bX cj ck bY bZ b0 b1 b2),aQ,eo,ep,eq,es,ex,ey,ez,eA,eB,eC,eD,eE,(vS ch bW ci bX cj ck cq bY cr ct bZ cu cw b0 cx cy b1 cz cA b2 cB),(oi h).symm,rfl,(h5.sel [2,3,4]),p4,p5,p6,p7,p8,p9,qa,qb,(RDStmt.intro pX pY pZ p0 p1 p2 p3)⟩)))))))
 ·rintro _ s7 ⟨qc,qd,rfl,rfl,qe⟩
  have qf:=ca qe fa
  exact thenP (panE (.inr ⟨_,rfl,qc,qd,(oi h).symm,rfl,qf.sel []⟩))
theorem f1012148_b_ok (k:Nat) (F:Fam105) (IH105:f105_spec F.f105) (IH1012148:f1012148_spec F.f1012148) (IH1012152:f1012152_spec F.f1012152) (IH1012166:f1012166_spec F.f1012166) (IH1012352:f1012352_spec F.f1012352) (IH1012366:f1012366_spec F.f1012366):f1012148_spec (f1012148_b k F):=by
 unfold f1012148_spec
 intro K wi g bs br Y Z ab ac ad ae af ag ah ai aj ak al f q s an d u x aF am bI ao b3 b4 gA bsA sA_0 sA_1 sA_2 sA_3 AsA_3 csA_3 sA_4 AsA_4 csA_4 r_ h hG cq cr cs ct cu cw db eW hbr dc cx hsA_1 hsA_3 hsA_4 bJ
 refine enter Tryz.func121 rfl (n:=59) rfl ?_
 unfold f1012148_b at h
 refine sr (m2 nS (wt (sr (m1 (pp g 0) (m1 (pp g 0) (nilc rfl (fd 8 Tyf138_3 rfl (l1 0 (sl u d x) bJ Tya136 (mkm bJ (fun dd bJ=>(bsl (e:=135) (cells:=#[.map (some (zz wi))]) (vs:=[(0,.map (some (zz wi)))]) bJ rfl (buildSl_one Tye136 Tys135 Tyz135 rfl (by decide) (by decide) rfl) (fun de df=>?_))))))))))))
 have dg:=p401235 df
 obtain ⟨b5,h⟩:=of_guard h
 refine pushM (kv:=kS) (R:=VInt) dg db (mapr0 (kv:=kS) (R:=VInt)) Tye136 Tyi135 rfl rfl rfl hbr hbr b5 (by decide) (fun bz bA cy eX dh cz=>(nilc rfl (fd 8 Tyf138_3 rfl (sI 1 (.slice bz (d ++ [([]:List (BA × Int))]).length bA) ((vR Z Y ab ac ae ad af ag ah ai ak aj al q f s bz (d ++ [([]:List (BA × Int))]) bA am).toArray) dh Tys136 rfl rfl (fun di b6=>(wt (wp_cut (fun a w=>∃ cA B bB bK bL bC bD bM bN bO bP bQ bE bR bS aw bT bU bV ax bW bX bY bZ ap,a=fr 59 (updL cA [(0,pp g 0),(2,sl b3 ao b4)])∧KH.sub K B∧SR K B wi w [.box bs g (vR Z Y ab ac ae ad af ag ah ai ak aj al q f s u d x am).toArray 138,.row br (sl q f s) 9 1 f.length an,.stk br (sl u d x) 135 d.length aF,.box bsA gA (vC sA_0 sA_1 sA_2 AsA_3 sA_3 csA_3 AsA_4 sA_4 csA_4).toArray 87] [.box bs g (vR bK bB bL bC bM bD bN bO bP bQ bR bE bS bT aw bU bW ax bX bZ).toArray 138,.box bsA gA (vC sA_0 sA_1 ap AsA_3 sA_3 csA_3 AsA_4 sA_4 csA_4).toArray 87,.row br (sl bT aw bU) 9 1 aw.length bV,.stk br (sl bW ax bX) 135 ax.length bY]∧tF B bK bL bB∧bC.size ≤ mB∧tP B bM bN bD∧tS B bR bS bE∧Reps RStr 1 aw bV∧aw.length * 16 ≤ mB∧StkR kS VInt ax bY∧ax.length * 8 ≤ mB∧f1012148_j1 k F ao sA_0 sA_1 sA_3 sA_4 bB bC bD bO bP bQ bE aw ax bZ ap=some r_) ?_ ?_)))))))
 ·refine sr (m1 (.string bI) (bsc (r:=(!seq bI ⟨#[]⟩)) rfl rfl rfl (wt (cd h (fun b7 h=>?_) (fun b7 h=>?_)))))
  ·refine cT b7 (wp_region_lit (m1 (pp gA 2) (m1 (pp g 0) (m1 (.string bI) ?_))))
   have b8:=p1203 b6
   obtain ⟨eY,dj,h⟩:=ob h
   refine cp ([pp g 0,.string bI]) Tyb103 ((f103_ok k) dj (hG.mono kr) cq cr cs ct cu cw cz (app_bound b5) (Nat.le_trans hbr b6.size) dc (pt b8)) ?_ ?_
   ·rintro _ eZ ⟨dk,dl,dm,dn,dp,dq,dr,ds,dt,du,b9,dv,dw,dx,dy,dz,dA,dB,dC,dD,dE,dF,dG,dH,rfl,rfl,cB,dI,dJ,dK,dL,dM,dN,dO,dP⟩
    have dQ:=ca cB b8
    exact nilc rfl (sI 3 (iI b9) ((vC sA_0 sA_1 b9 AsA_3 sA_3 csA_3 AsA_4 sA_4 csA_4).toArray) dQ Tys3 rfl rfl (fun e0 dR=>(wt (⟨_,dv,dk,dw,dx,dl,dm,dy,dz,dn,dp,dq,dr,dA,dB,ds,dC,dD,dE,dt,dF,dG,dH,du,b9,fR,cB.sub,(dR.sel [0,3,1,2]),dI,dJ,dK,dL,dM,dN,dO,dP,h⟩))))
   ·rintro _ e1 ⟨dS,dT,rfl,rfl,dU⟩
    have dV:=ca dU b8
    exact thenP (panE (.inr ⟨_,rfl,dS,dT,(oi h).symm,rfl,dV.sel []⟩))
  ·exact cF b7 (wp_skip (thenN (⟨_,K,Y,Z,ab,ac,ad,ae,af,ag,ah,ai,aj,ak,al,f,q,s,an,(d ++ [([]:List (BA × Int))]),bz,bA,cy,am,sA_2,fR,kr,(b6.sel [1,3,2,0]),cq,cr,cs,ct,cu,cw,cz,(app_bound b5),h⟩)))
 ·rintro _ e2 ⟨cA,B,bB,bK,bL,bC,bD,bM,bN,bO,bP,bQ,bE,bR,bS,aw,bT,bU,bV,ax,bW,bX,bY,bZ,ap,rfl,bF,dW,dX,dY,dZ,d0,d1,d2,d3,d4,h⟩
  unfold f1012148_j1 at h
  refine sr (m2 nS (wt (wp_seq (sr (m1 (sl b3 ao b4) (lS ao.length Tye36 (m1 (iI 0) (wt (wp_block ?_)))))))))
  have d5:=dW.row_ (zz wi) 42 11
  refine wp_loopG (fun g_ a w=>∃ cC C aG,∃ (ay:Nat),∃ az aH aI aA aB aJ aK aL aM aN aE aP aQ y aq ar bg c z A bh aR l au av bG,g_=aG.length∧a=fr 59 (updL cC [(0,pp g 0),(9,sl au l av),(30,sl b3 ao b4),(31,iI (ao.length:Int)),(32,iI (ay:Int))])∧KH.sub B C∧SR K C wi w [.box bs g (vR Z Y ab ac ae ad af ag ah ai ak aj al q f s u d x am).toArray 138,.row br (sl q f s) 9 1 f.length an,.stk br (sl u d x) 135 d.length aF,.box bsA gA (vC sA_0 sA_1 sA_2 AsA_3 sA_3 csA_3 AsA_4 sA_4 csA_4).toArray 87] [.box bs g (vR aH az aI aA aJ aB aK aL aM aN aP aE aQ aq y ar z c A aR).toArray 138,.box bsA gA (vC sA_0 sA_1 ap AsA_3 sA_3 csA_3 AsA_4 sA_4 csA_4).toArray 87,.row br (sl aq y ar) 9 1 y.length bg,.stk br (sl z c A) 135 c.length bh,.row (zz wi) (sl au l av) 42 11 l.length bG]∧ao.drop ay=aG∧tF C aH aI az∧aA.size ≤ mB∧tP C aJ aK aB∧tS C aP aQ aE∧Reps RStr 1 y bg∧y.length * 16 ≤ mB∧StkR kS VInt c bh∧c.length * 8 ≤ mB∧Reps (RDStmt C) 11 l bG∧l.length * 184 ≤ mB∧f1012148_l1 k F sA_0 sA_1 sA_3 sA_4 ap aG ay az aA aB aL aM aN aE y c aR l=some r_) ao.length ?_ ?_
  ·exact ⟨_,B,ao,0,bB,bK,bL,bC,bD,bM,bN,bO,bP,bQ,bE,bR,bS,aw,bT,bU,bV,ax,bW,bX,bY,bZ,([]:LS),none,0,[],rfl,fR,kr,(d5.sel [1,2,3,4,0]),List.drop_zero,dX,dY,dZ,d0,d1,d2,d3,d4,(reps0 (R:=(RDStmt B)) (size:=11)),(by simp),h⟩
  ·rintro _ _ cD ⟨cC,C,aG,ay,az,aH,aI,aA,aB,aJ,aK,aL,aM,aN,aE,aP,aQ,y,aq,ar,bg,c,z,A,bh,aR,l,au,av,bG,rfl,rfl,bi,cb,bj,cG,cH,cI,cJ,cK,cL,cc,cM,cN,d6,h⟩
   rcases aG with _ | ⟨⟨aS,aT,aU,aV,aW,aX,aY,aZ,a0,a3,a4⟩,aG⟩
   ·unfold f1012148_l1 at h
    refine sr (bcm (r:=false) rfl rfl (congrArg some (drop_nil_lt bj)) (wt (wp_seq (cndF rfl (wp_exit (thenX (thenX (blkX (thenN (wp_seq (have t:=cb.drew;(regAny (E:=[14]) (F:=FW C [.box bs g (vR aH az aI aA aJ aB aK aL aM aN aP aE aQ aq y ar z c A aR).toArray 138,.box bsA gA (vC sA_0 sA_1 ap AsA_3 sA_3 csA_3 AsA_4 sA_4 csA_4).toArray 87,.row br (sl aq y ar) 9 1 y.length bg,.stk br (sl z c A) 135 c.length bh,.row (zz wi) (sl au l av) 42 11 l.length bG]) (L:=(lb 15 0)) ymx rfl rfl (tk 0 (pp g 0) (lb 15 1) rfl (fun w=>mv_r (v:=pp g 0) rfl) (heldF (fq [0,1,2,3,4] t)) (tk 1 (pp g 0) (lb 15 3) rfl (fun w=>mv_r (v:=pp g 0) rfl) (heldF (fq [0,1,2,3,4] t)) (tk 2 (pp g 0) (lb 15 7) rfl (fun w=>nilc_r rfl) (heldF (fq [0,1,2,3,4] t)) (tk 3 (pp g 8) (lb 15 15) rfl (fun w=>fld_r (o':=8) Tyf138_3 rfl rfl) (heldF (fq [0,1,2,3,4] t)) (tf 4 (sl z c A) ([[14,4]]) (lb 15 31) rfl (fq [0,1,2,3,4] t) (fun w hF=>lb1_r (i:=0) (v:=sl z c A) hF rfl Tya136 rfl rfl) (tk 5 (pp g 0) (lb 15 63) rfl (fun w=>mv_r (v:=pp g 0) rfl) (heldF (fq [0,1,2,3,4] t)) (tk 6 (pp g 0) (lb 15 127) rfl (fun w=>nilc_r rfl) (heldF (fq [0,1,2,3,4] t)) (tk 7 (pp g 8) (lb 15 255) rfl (fun w=>fld_r (o':=8) Tyf138_3 rfl rfl) (heldF (fq [0,1,2,3,4] t)) (tf 8 (sl z c A) ([[14,8]]) (lb 15 511) rfl (fq [0,1,2,3,4] t) (fun w hF=>lb1_r (i:=0) (v:=sl z c A) hF rfl Tya136 rfl rfl) (tk 9 (iI (c.length:Int)) (lb 15 1023) rfl (fun w=>lnS_r (len:=c.length) Tye136 rfl) (heldF (fq [0,1,2,3,4] t)) (tk 10 (iI (w64 ((c.length:Int) - 1))) (lb 15 2047) rfl (fun w=>bar_r (r:=(w64 ((c.length:Int) - 1))) rfl rfl rfl) (heldF (fq [0,1,2,3,4] t)) ?_)))))))))))))))))))))))
    obtain ⟨b0,h⟩:=of_guard h
    refine tk 11 (.slice z (c.take (w64 ((c.length:Int) - 1)).toNat).length A) (lb 15 4095) rfl (fun w=>slH_r (m:=(c.take (w64 ((c.length:Int) - 1)).toNat).length) Tye136 Tys135 rfl rfl b0.1 (Int.le_trans b0.2 (Int.ofNat_le.2 (stk_cap (i:=3) t rfl))) (take_len b0)) (heldF (fq [0,1,2,3,4] t)) (tk 12 (pp g 0) (lb 15 8191) rfl (fun w=>nilc_r rfl) (heldF (fq [0,1,2,3,4] t)) (tk 13 (pp g 8) (lb 15 16383) rfl (fun w=>fld_r (o':=8) Tyf138_3 rfl rfl) (heldF (fq [0,1,2,3,4] t)) (aO 14 rfl (have d7:=t.cutM (i:=3) (m:=(w64 ((c.length:Int) - 1)).toNat) rfl cc (by have:=b0.2; omega);(sI 0 (.slice z (c.take (w64 ((c.length:Int) - 1)).toNat).length A) ((vR aH az aI aA aJ aB aK aL aM aN aP aE aQ aq y ar z (c.take (w64 ((c.length:Int) - 1)).toNat) A aR).toArray) d7 Tys136 rfl rfl (fun e3 d8=>(wt ⟨heldE (i:=14) rfl rfl,aD (thenN (sr (m1 (sl au l av) (m2 (sl au l av) (wt (wp_ret ?_))))))⟩)))))))
    obtain ⟨d9,ea,bH,ec⟩:=shutI (i:=4) (bytes:=184) (R:=fun K=>(RDStmt K)) d8 rfl (Nat.le_refl _) cN d6 (fun hs=>(fun _ _ h=>RDStmt.mono hs h))
    exact retP (retA1 rfl (resT rfl) ⟨az,aA,aB,aL,aM,aN,aE,y,(c.take (w64 ((c.length:Int) - 1)).toNat),aR,sA_0,sA_1,ap,sA_3,sA_4,l,d9,aH,aI,aJ,aK,aP,aQ,aq,ar,bg,z,A,(bh.take (w64 ((c.length:Int) - 1)).toNat),AsA_3,csA_3,AsA_4,csA_4,au,av,(oi h).symm,rfl,(ea.sel [0,2,3,1]),(mf cG bH),cH,(mp cI bH),(ms cJ bH),(cK.mono (fun _ _ h=>h)),cL,(StkR.mono (fun _ _ h=>h) (StkR.take (w64 ((c.length:Int) - 1)).toNat cc)),(take_bound cM),hsA_1,(me hsA_3 ((bF.trans bi).trans bH)),(ms hsA_4 ((bF.trans bi).trans bH)),ec⟩)
   ·unfold f1012148_l1 at h
    refine sr (bcm (r:=true) rfl rfl (congrArg some (drop_cons_t bj)) (wt (wp_seq (cndT rfl (wp_skip (thenN (wp_seq (wp_block (sr ?_)))))))))
    obtain ⟨ed,ee,e4,ef,e5,eg,eh⟩:=((ms cx (bF.trans bi))).row.at_ (drop_cons_at bj)
    obtain ⟨a5,a6,a7,a8,a9,ba,bb,bd,be,bf,rfl,ei,ej,ek,el,em,en,eo⟩:=RDStmt.open eh
    refine idxN (b:=ed) (o:=ee) (i:=ay) Tye36 Tys42 rfl ef rfl (drop_cons_lt bj) (lD (vS aS aT aU aV aW aX a5 aY a6 a7 aZ a8 a9 a0 ba bb a3 bd be a4 bf) Tya42 Tys42 rfl (fun j v hj=>cb.cell (kr.cell (eg j v hj))) (aC zS.toArray cb Tyz42 (fun e6 ep=>(sI 0 (.agg (vS aS aT aU aV aW aX a5 aY a6 a7 aZ a8 a9 a0 ba bb a3 bd be a4 bf).toArray) ((vS aS aT aU aV aW aX a5 aY a6 a7 aZ a8 a9 a0 ba bb a3 bd be a4 bf).toArray) ep Tys42 rfl rfl (fun eq ce=>(wt (sr (m1 (pp g 0) (lN 0 (vS aS aT aU aV aW aX a5 aY a6 a7 aZ a8 a9 a0 ba bb a3 bd be a4 bf) ce Tya42 Tys42 ?_)))))))))
    have cf:=p134025 ce
    obtain ⟨e7,es,h⟩:=ob h
    refine cp ([pp g 0,.agg (vS aS aT aU aV aW aX a5 aY a6 a7 aZ a8 a9 a0 ba bb a3 bd be a4 bf).toArray]) Tyb105 (IH105 es (hG.mono (bF.trans bi)) cG cH cI cJ cK cL cc cM (Nat.le_trans hbr ce.size) (RDStmt.intro ei ej ek el em en eo) (pt cf)) ?_ ?_
    ·rintro _ et ⟨cO,cP,cQ,cR,cS,cU,cV,b1,b2,cW,⟨D,G,I,J,N,O,S,U,V,W,X⟩,ch,cX,cY,cZ,c2,c3,c4,ci,cj,c5,ck,cl,c7,e8,rfl,rfl,cm,eu,ew,ex,ey,ez,eA,eB,eC,eD⟩
     have eE:=ca cm cf
     obtain ⟨bk,bm,bn,bo,bp,bq,bu,bv,bw,bx,rfl,eF,eG,eH,eI,eJ,eK,eL⟩:=RDStmt.open eD
     refine aC zS.toArray eE Tyz42 (fun e9 eM=>(sI 0 (.agg (vS D G I J N O bk S bm bn U bo bp V bq bu W bv bw X bx).toArray) ((vS D G I J N O bk S bm bn U bo bp V bq bu W bv bw X bx).toArray) eM Tys42 rfl rfl (fun fa c8=>(wt (wp_region_lit (m1 (sl au l av) (lN 0 (vS D G I J N O bk S bm bn U bo bp V bq bu W bv bw X bx) c8 Tya42 Tys42 (bsl (e:=42) (cells:=(vS D G I J N O bk S bm bn U bo bp V bq bu W bv bw X bx).toArray) (vs:=[(0,.agg (vS D G I J N O bk S bm bn U bo bp V bq bu W bv bw X bx).toArray)]) c8 rfl (buildSl_one Tye36 Tys42 Tyz42 rfl (by decide) (by decide) rfl) (fun fb eN=>?_)))))))))
     obtain ⟨c9,h⟩:=of_guard h
     refine apR (R:=(RDStmt ch)) (p:=(DStmt.mk D G I J N O S U V W X)) (i:=7) (j:=0) eN rfl rfl Tye36 Tyi42 rfl (by decide) rfl rfl (cN.mono (fun _ _ h=>RDStmt.mono cm.sub h)) (RDStmt.intro eF eG eH eI eJ eK eL) rfl rfl (Nat.le_refl _) c9 (by decide) (fun cn co da eO eP eQ=>?_)
     have eR:=p1234567 eP
     exact m2 (.slice cn (l ++ [(DStmt.mk D G I J N O S U V W X)]).length co) (wpList_nil (blkN (thenN (wp_region_lit (bar (r:=((ay + 1:Nat):Int)) rfl rfl (inc_ok (le_big (((ms cx (bF.trans bi))).len) (by decide) (drop_cons_lt bj))) (m1 (iI ((ay + 1:Nat):Int)) (wt (⟨_,Nat.lt_succ_self _,_,ch,aG,ay + 1,cO,cX,cY,cP,cQ,cZ,c2,cR,cS,cU,cV,c3,c4,b1,ci,cj,c5,b2,ck,cl,c7,cW,(l ++ [(DStmt.mk D G I J N O S U V W X)]),cn,co,da,rfl,fR,(bi.trans cm.sub),(eR.sel [1,5,2,3,6]),drop_cons_next bj,eu,ew,ex,ey,ez,eA,eB,eC,eQ,(app_bound c9),h⟩))))))))
    ·rintro _ fc ⟨eS,eT,rfl,rfl,eU⟩
     have eV:=ca eU cf
     exact thenP (blkP (thenP (thenP (blkP (thenP (panE (.inr ⟨_,rfl,eS,eT,(oi h).symm,rfl,eV.sel []⟩)))))))
theorem f1012152_b_ok (k:Nat) (F:Fam105) (IH105:f105_spec F.f105) (IH1012148:f1012148_spec F.f1012148) (IH1012152:f1012152_spec F.f1012152) (IH1012166:f1012166_spec F.f1012166) (IH1012352:f1012352_spec F.f1012352) (IH1012366:f1012366_spec F.f1012366):f1012152_spec (f1012152_b k F):=by
 unfold f1012152_spec
 intro K wi g bs br Y Z ab ac ad ae af ag ah ai aj ak al f q s an d u x aI am bI ao b3 b4 gA bsA sA_0 sA_1 sA_2 sA_3 sA_4 sA_5 sA_6 AsA_6 csA_6 sA_7 AsA_7 csA_7 sA_8 AsA_8 csA_8 sA_9 AsA_9 csA_9 sA_10 AsA_10 csA_10 r_ h hG cq cr cs ct cu cw db eW hbr dc cx hsA_1 hsA_3 hsA_6 hsA_7 hsA_8 hsA_9 hsA_10 bJ
 refine enter Tryz.func121 rfl (n:=59) rfl ?_
 unfold f1012152_b at h
 refine sr (m2 nS (wt (sr (m1 (pp g 0) (m1 (pp g 0) (nilc rfl (fd 8 Tyf138_3 rfl (l1 0 (sl u d x) bJ Tya136 (mkm bJ (fun dd bJ=>(bsl (e:=135) (cells:=#[.map (some (zz wi))]) (vs:=[(0,.map (some (zz wi)))]) bJ rfl (buildSl_one Tye136 Tys135 Tyz135 rfl (by decide) (by decide) rfl) (fun de df=>?_))))))))))))
 have dg:=p401235 df
 obtain ⟨b5,h⟩:=of_guard h
 refine pushM (kv:=kS) (R:=VInt) dg db (mapr0 (kv:=kS) (R:=VInt)) Tye136 Tyi135 rfl rfl rfl hbr hbr b5 (by decide) (fun bB bC cy eX dh cz=>(nilc rfl (fd 8 Tyf138_3 rfl (sI 1 (.slice bB (d ++ [([]:List (BA × Int))]).length bC) ((vR Z Y ab ac ae ad af ag ah ai ak aj al q f s bB (d ++ [([]:List (BA × Int))]) bC am).toArray) dh Tys136 rfl rfl (fun di b6=>(wt (wp_cut (fun a w=>∃ cA B bD bK bL bE bF bM bN bO bP bQ bG bR bS ax bT bU bV ay bW bX bY bZ ap,a=fr 59 (updL cA [(0,pp g 0),(2,sl b3 ao b4)])∧KH.sub K B∧SR K B wi w [.box bs g (vR Z Y ab ac ae ad af ag ah ai ak aj al q f s u d x am).toArray 138,.row br (sl q f s) 9 1 f.length an,.stk br (sl u d x) 135 d.length aI,.box bsA gA (vS sA_0 sA_1 sA_2 sA_3 sA_4 sA_5 AsA_6 sA_6 csA_6 AsA_7 sA_7 csA_7 AsA_8 sA_8 csA_8 AsA_9 sA_9 csA_9 AsA_10 sA_10 csA_10).toArray 42] [.box bs g (vR bK bD bL bE bM bF bN bO bP bQ bR bG bS bT ax bU bW ay bX bZ).toArray 138,.box bsA gA (vS sA_0 sA_1 ap sA_3 sA_4 sA_5 AsA_6 sA_6 csA_6 AsA_7 sA_7 csA_7 AsA_8 sA_8 csA_8 AsA_9 sA_9 csA_9 AsA_10 sA_10 csA_10).toArray 42,.row br (sl bT ax bU) 9 1 ax.length bV,.stk br (sl bW ay bX) 135 ay.length bY]∧tF B bK bL bD∧bE.size ≤ mB∧tP B bM bN bF∧tS B bR bS bG∧Reps RStr 1 ax bV∧ax.length * 16 ≤ mB∧StkR kS VInt ay bY∧ay.length * 8 ≤ mB∧f1012152_j1 k F ao sA_0 sA_1 sA_3 sA_4 sA_5 sA_6 sA_7 sA_8 sA_9 sA_10 bD bE bF bO bP bQ bG ax ay bZ ap=some r_) ?_ ?_)))))))
 ·refine sr (m1 (.string bI) (bsc (r:=(!seq bI ⟨#[]⟩)) rfl rfl rfl (wt (cd h (fun b7 h=>?_) (fun b7 h=>?_)))))
  ·refine cT b7 (wp_region_lit (m1 (pp gA 2) (m1 (pp g 0) (m1 (.string bI) ?_))))
   have b8:=p1203 b6
   obtain ⟨eY,dj,h⟩:=ob h
   refine cp ([pp g 0,.string bI]) Tyb103 ((f103_ok k) dj (hG.mono kr) cq cr cs ct cu cw cz (app_bound b5) (Nat.le_trans hbr b6.size) dc (pt b8)) ?_ ?_
   ·rintro _ eZ ⟨dk,dl,dm,dn,dp,dq,dr,ds,dt,du,b9,dv,dw,dx,dy,dz,dA,dB,dC,dD,dE,dF,dG,dH,rfl,rfl,cB,dI,dJ,dK,dL,dM,dN,dO,dP⟩
    have dQ:=ca cB b8
    exact nilc rfl (sI 3 (iI b9) ((vS sA_0 sA_1 b9 sA_3 sA_4 sA_5 AsA_6 sA_6 csA_6 AsA_7 sA_7 csA_7 AsA_8 sA_8 csA_8 AsA_9 sA_9 csA_9 AsA_10 sA_10 csA_10).toArray) dQ Tys3 rfl rfl (fun e0 dR=>(wt (⟨_,dv,dk,dw,dx,dl,dm,dy,dz,dn,dp,dq,dr,dA,dB,ds,dC,dD,dE,dt,dF,dG,dH,du,b9,fR,cB.sub,(dR.sel [0,3,1,2]),dI,dJ,dK,dL,dM,dN,dO,dP,h⟩))))
   ·rintro _ e1 ⟨dS,dT,rfl,rfl,dU⟩
    have dV:=ca dU b8
    exact thenP (panE (.inr ⟨_,rfl,dS,dT,(oi h).symm,rfl,dV.sel []⟩))
  ·exact cF b7 (wp_skip (thenN (⟨_,K,Y,Z,ab,ac,ad,ae,af,ag,ah,ai,aj,ak,al,f,q,s,an,(d ++ [([]:List (BA × Int))]),bB,bC,cy,am,sA_2,fR,kr,(b6.sel [1,3,2,0]),cq,cr,cs,ct,cu,cw,cz,(app_bound b5),h⟩)))
 ·rintro _ e2 ⟨cA,B,bD,bK,bL,bE,bF,bM,bN,bO,bP,bQ,bG,bR,bS,ax,bT,bU,bV,ay,bW,bX,bY,bZ,ap,rfl,az,dW,dX,dY,dZ,d0,d1,d2,d3,d4,h⟩
  unfold f1012152_j1 at h
  refine sr (m2 nS (wt (wp_seq (sr (m1 (sl b3 ao b4) (lS ao.length Tye36 (m1 (iI 0) (wt (wp_block ?_)))))))))
  have d5:=dW.row_ (zz wi) 42 11
  refine wp_loopG (fun g_ a w=>∃ cC C aJ,∃ (aA:Nat),∃ aB aK aL aE aF aM aN aP aQ aR aG aS aT y aq ar bj c z A bk aU l au av bH,g_=aJ.length∧a=fr 59 (updL cC [(0,pp g 0),(9,sl au l av),(30,sl b3 ao b4),(31,iI (ao.length:Int)),(32,iI (aA:Int))])∧KH.sub B C∧SR K C wi w [.box bs g (vR Z Y ab ac ae ad af ag ah ai ak aj al q f s u d x am).toArray 138,.row br (sl q f s) 9 1 f.length an,.stk br (sl u d x) 135 d.length aI,.box bsA gA (vS sA_0 sA_1 sA_2 sA_3 sA_4 sA_5 AsA_6 sA_6 csA_6 AsA_7 sA_7 csA_7 AsA_8 sA_8 csA_8 AsA_9 sA_9 csA_9 AsA_10 sA_10 csA_10).toArray 42] [.box bs g (vR aK aB aL aE aM aF aN aP aQ aR aS aG aT aq y ar z c A aU).toArray 138,.box bsA gA (vS sA_0 sA_1 ap sA_3 sA_4 sA_5 AsA_6 sA_6 csA_6 AsA_7 sA_7 csA_7 AsA_8 sA_8 csA_8 AsA_9 sA_9 csA_9 AsA_10 sA_10 csA_10).toArray 42,.row br (sl aq y ar) 9 1 y.length bj,.stk br (sl z c A) 135 c.length bk,.row (zz wi) (sl au l av) 42 11 l.length bH]∧ao.drop aA=aJ∧tF C aK aL aB∧aE.size ≤ mB∧tP C aM aN aF∧tS C aS aT aG∧Reps RStr 1 y bj∧y.length * 16 ≤ mB∧StkR kS VInt c bk∧c.length * 8 ≤ mB∧Reps (RDStmt C) 11 l bH∧l.length * 184 ≤ mB∧f1012152_l1 k F sA_0 sA_1 sA_3 sA_4 sA_5 sA_6 sA_7 sA_8 sA_9 sA_10 ap aJ aA aB aE aF aP aQ aR aG y c aU l=some r_) ao.length ?_ ?_
  ·exact ⟨_,B,ao,0,bD,bK,bL,bE,bF,bM,bN,bO,bP,bQ,bG,bR,bS,ax,bT,bU,bV,ay,bW,bX,bY,bZ,([]:LS),none,0,[],rfl,fR,kr,(d5.sel [1,2,3,4,0]),List.drop_zero,dX,dY,dZ,d0,d1,d2,d3,d4,(reps0 (R:=(RDStmt B)) (size:=11)),(by simp),h⟩
  ·rintro _ _ cD ⟨cC,C,aJ,aA,aB,aK,aL,aE,aF,aM,aN,aP,aQ,aR,aG,aS,aT,y,aq,ar,bj,c,z,A,bk,aU,l,au,av,bH,rfl,rfl,aw,cb,bm,cG,cH,cI,cJ,cK,cL,cc,cM,cN,d6,h⟩
   rcases aJ with _ | ⟨⟨aV,aW,aX,aY,aZ,a0,a3,a4,a5,a6,a7⟩,aJ⟩
   ·unfold f1012152_l1 at h
    refine sr (bcm (r:=false) rfl rfl (congrArg some (drop_nil_lt bm)) (wt (wp_seq (cndF rfl (wp_exit (thenX (thenX (blkX (thenN (wp_seq (have t:=cb.drew;(regAny (E:=[14]) (F:=FW C [.box bs g (vR aK aB aL aE aM aF aN aP aQ aR aS aG aT aq y ar z c A aU).toArray 138,.box bsA gA (vS sA_0 sA_1 ap sA_3 sA_4 sA_5 AsA_6 sA_6 csA_6 AsA_7 sA_7 csA_7 AsA_8 sA_8 csA_8 AsA_9 sA_9 csA_9 AsA_10 sA_10 csA_10).toArray 42,.row br (sl aq y ar) 9 1 y.length bj,.stk br (sl z c A) 135 c.length bk,.row (zz wi) (sl au l av) 42 11 l.length bH]) (L:=(lb 15 0)) ymx rfl rfl (tk 0 (pp g 0) (lb 15 1) rfl (fun w=>mv_r (v:=pp g 0) rfl) (heldF (fq [0,1,2,3,4] t)) (tk 1 (pp g 0) (lb 15 3) rfl (fun w=>mv_r (v:=pp g 0) rfl) (heldF (fq [0,1,2,3,4] t)) (tk 2 (pp g 0) (lb 15 7) rfl (fun w=>nilc_r rfl) (heldF (fq [0,1,2,3,4] t)) (tk 3 (pp g 8) (lb 15 15) rfl (fun w=>fld_r (o':=8) Tyf138_3 rfl rfl) (heldF (fq [0,1,2,3,4] t)) (tf 4 (sl z c A) ([[14,4]]) (lb 15 31) rfl (fq [0,1,2,3,4] t) (fun w hF=>lb1_r (i:=0) (v:=sl z c A) hF rfl Tya136 rfl rfl) (tk 5 (pp g 0) (lb 15 63) rfl (fun w=>mv_r (v:=pp g 0) rfl) (heldF (fq [0,1,2,3,4] t)) (tk 6 (pp g 0) (lb 15 127) rfl (fun w=>nilc_r rfl) (heldF (fq [0,1,2,3,4] t)) (tk 7 (pp g 8) (lb 15 255) rfl (fun w=>fld_r (o':=8) Tyf138_3 rfl rfl) (heldF (fq [0,1,2,3,4] t)) (tf 8 (sl z c A) ([[14,8]]) (lb 15 511) rfl (fq [0,1,2,3,4] t) (fun w hF=>lb1_r (i:=0) (v:=sl z c A) hF rfl Tya136 rfl rfl) (tk 9 (iI (c.length:Int)) (lb 15 1023) rfl (fun w=>lnS_r (len:=c.length) Tye136 rfl) (heldF (fq [0,1,2,3,4] t)) (tk 10 (iI (w64 ((c.length:Int) - 1))) (lb 15 2047) rfl (fun w=>bar_r (r:=(w64 ((c.length:Int) - 1))) rfl rfl rfl) (heldF (fq [0,1,2,3,4] t)) ?_)))))))))))))))))))))))
    obtain ⟨b0,h⟩:=of_guard h
    refine tk 11 (.slice z (c.take (w64 ((c.length:Int) - 1)).toNat).length A) (lb 15 4095) rfl (fun w=>slH_r (m:=(c.take (w64 ((c.length:Int) - 1)).toNat).length) Tye136 Tys135 rfl rfl b0.1 (Int.le_trans b0.2 (Int.ofNat_le.2 (stk_cap (i:=3) t rfl))) (take_len b0)) (heldF (fq [0,1,2,3,4] t)) (tk 12 (pp g 0) (lb 15 8191) rfl (fun w=>nilc_r rfl) (heldF (fq [0,1,2,3,4] t)) (tk 13 (pp g 8) (lb 15 16383) rfl (fun w=>fld_r (o':=8) Tyf138_3 rfl rfl) (heldF (fq [0,1,2,3,4] t)) (aO 14 rfl (have d7:=t.cutM (i:=3) (m:=(w64 ((c.length:Int) - 1)).toNat) rfl cc (by have:=b0.2; omega);(sI 0 (.slice z (c.take (w64 ((c.length:Int) - 1)).toNat).length A) ((vR aK aB aL aE aM aF aN aP aQ aR aS aG aT aq y ar z (c.take (w64 ((c.length:Int) - 1)).toNat) A aU).toArray) d7 Tys136 rfl rfl (fun e3 d8=>(wt ⟨heldE (i:=14) rfl rfl,aD (thenN (sr (m1 (sl au l av) (m2 (sl au l av) (wt (wp_ret ?_))))))⟩)))))))
    obtain ⟨d9,ea,aH,ec⟩:=shutI (i:=4) (bytes:=184) (R:=fun K=>(RDStmt K)) d8 rfl (Nat.le_refl _) cN d6 (fun hs=>(fun _ _ h=>RDStmt.mono hs h))
    exact retP (retA1 rfl (resT rfl) ⟨aB,aE,aF,aP,aQ,aR,aG,y,(c.take (w64 ((c.length:Int) - 1)).toNat),aU,sA_0,sA_1,ap,sA_3,sA_4,sA_5,sA_6,sA_7,sA_8,sA_9,sA_10,l,d9,aK,aL,aM,aN,aS,aT,aq,ar,bj,z,A,(bk.take (w64 ((c.length:Int) - 1)).toNat),AsA_6,csA_6,AsA_7,csA_7,AsA_8,csA_8,AsA_9,csA_9,AsA_10,csA_10,au,av,(oi h).symm,rfl,(ea.sel [0,2,3,1]),(mf cG aH),cH,(mp cI aH),(ms cJ aH),(cK.mono (fun _ _ h=>h)),cL,(StkR.mono (fun _ _ h=>h) (StkR.take (w64 ((c.length:Int) - 1)).toNat cc)),(take_bound cM),hsA_1,hsA_3,(me hsA_6 ((az.trans aw).trans aH)),(ms hsA_7 ((az.trans aw).trans aH)),(ms hsA_8 ((az.trans aw).trans aH)),(ms hsA_9 ((az.trans aw).trans aH)),(mc hsA_10 ((az.trans aw).trans aH)),ec⟩)
   ·unfold f1012152_l1 at h
    refine sr (bcm (r:=true) rfl rfl (congrArg some (drop_cons_t bm)) (wt (wp_seq (cndT rfl (wp_skip (thenN (wp_seq (wp_block (sr ?_)))))))))
    obtain ⟨ed,ee,e4,ef,e5,eg,eh⟩:=((ms cx (az.trans aw))).row.at_ (drop_cons_at bm)
    obtain ⟨a8,a9,ba,bb,bd,be,bf,bg,bh,bi,rfl,ei,ej,ek,el,em,en,eo⟩:=RDStmt.open eh
    refine idxN (b:=ed) (o:=ee) (i:=aA) Tye36 Tys42 rfl ef rfl (drop_cons_lt bm) (lD (vS aV aW aX aY aZ a0 a8 a3 a9 ba a4 bb bd a5 be bf a6 bg bh a7 bi) Tya42 Tys42 rfl (fun j v hj=>cb.cell (kr.cell (eg j v hj))) (aC zS.toArray cb Tyz42 (fun e6 ep=>(sI 0 (.agg (vS aV aW aX aY aZ a0 a8 a3 a9 ba a4 bb bd a5 be bf a6 bg bh a7 bi).toArray) ((vS aV aW aX aY aZ a0 a8 a3 a9 ba a4 bb bd a5 be bf a6 bg bh a7 bi).toArray) ep Tys42 rfl rfl (fun eq ce=>(wt (sr (m1 (pp g 0) (lN 0 (vS aV aW aX aY aZ a0 a8 a3 a9 ba a4 bb bd a5 be bf a6 bg bh a7 bi) ce Tya42 Tys42 ?_)))))))))
    have cf:=p134025 ce
    obtain ⟨e7,es,h⟩:=ob h
    refine cp ([pp g 0,.agg (vS aV aW aX aY aZ a0 a8 a3 a9 ba a4 bb bd a5 be bf a6 bg bh a7 bi).toArray]) Tyb105 (IH105 es (hG.mono (az.trans aw)) cG cH cI cJ cK cL cc cM (Nat.le_trans hbr ce.size) (RDStmt.intro ei ej ek el em en eo) (pt cf)) ?_ ?_
    ·rintro _ et ⟨cO,cP,cQ,cR,cS,cU,cV,b1,b2,cW,⟨D,G,I,J,N,O,S,U,V,W,X⟩,ch,cX,cY,cZ,c2,c3,c4,ci,cj,c5,ck,cl,c7,e8,rfl,rfl,cm,eu,ew,ex,ey,ez,eA,eB,eC,eD⟩
     have eE:=ca cm cf
     obtain ⟨bn,bo,bp,bq,bu,bv,bw,bx,bz,bA,rfl,eF,eG,eH,eI,eJ,eK,eL⟩:=RDStmt.open eD
     refine aC zS.toArray eE Tyz42 (fun e9 eM=>(sI 0 (.agg (vS D G I J N O bn S bo bp U bq bu V bv bw W bx bz X bA).toArray) ((vS D G I J N O bn S bo bp U bq bu V bv bw W bx bz X bA).toArray) eM Tys42 rfl rfl (fun fa c8=>(wt (wp_region_lit (m1 (sl au l av) (lN 0 (vS D G I J N O bn S bo bp U bq bu V bv bw W bx bz X bA) c8 Tya42 Tys42 (bsl (e:=42) (cells:=(vS D G I J N O bn S bo bp U bq bu V bv bw W bx bz X bA).toArray) (vs:=[(0,.agg (vS D G I J N O bn S bo bp U bq bu V bv bw W bx bz X bA).toArray)]) c8 rfl (buildSl_one Tye36 Tys42 Tyz42 rfl (by decide) (by decide) rfl) (fun fb eN=>?_)))))))))
     obtain ⟨c9,h⟩:=of_guard h
     refine apR (R:=(RDStmt ch)) (p:=(DStmt.mk D G I J N O S U V W X)) (i:=7) (j:=0) eN rfl rfl Tye36 Tyi42 rfl (by decide) rfl rfl (cN.mono (fun _ _ h=>RDStmt.mono cm.sub h)) (RDStmt.intro eF eG eH eI eJ eK eL) rfl rfl (Nat.le_refl _) c9 (by decide) (fun cn co da eO eP eQ=>?_)
     have eR:=p1234567 eP
     exact m2 (.slice cn (l ++ [(DStmt.mk D G I J N O S U V W X)]).length co) (wpList_nil (blkN (thenN (wp_region_lit (bar (r:=((aA + 1:Nat):Int)) rfl rfl (inc_ok (le_big (((ms cx (az.trans aw))).len) (by decide) (drop_cons_lt bm))) (m1 (iI ((aA + 1:Nat):Int)) (wt (⟨_,Nat.lt_succ_self _,_,ch,aJ,aA + 1,cO,cX,cY,cP,cQ,cZ,c2,cR,cS,cU,cV,c3,c4,b1,ci,cj,c5,b2,ck,cl,c7,cW,(l ++ [(DStmt.mk D G I J N O S U V W X)]),cn,co,da,rfl,fR,(aw.trans cm.sub),(eR.sel [1,5,2,3,6]),drop_cons_next bm,eu,ew,ex,ey,ez,eA,eB,eC,eQ,(app_bound c9),h⟩))))))))
    ·rintro _ fc ⟨eS,eT,rfl,rfl,eU⟩
     have eV:=ca eU cf
     exact thenP (blkP (thenP (thenP (blkP (thenP (panE (.inr ⟨_,rfl,eS,eT,(oi h).symm,rfl,eV.sel []⟩)))))))
theorem f1012166_b_ok (k:Nat) (F:Fam105) (IH105:f105_spec F.f105) (IH1012148:f1012148_spec F.f1012148) (IH1012152:f1012152_spec F.f1012152) (IH1012166:f1012166_spec F.f1012166) (IH1012352:f1012352_spec F.f1012352) (IH1012366:f1012366_spec F.f1012366):f1012166_spec (f1012166_b k F):=by
 unfold f1012166_spec
 intro K wi g bs br X Y Z ab ac ad ae af ag ah ai aj ak f q s aq d z A ba al bw ay bU bV r_ h hG bW bX bY bZ b0 b1 cD dM hbr cG b2 bx
 refine enter Tryz.func121 rfl (n:=59) rfl ?_
 unfold f1012166_b at h
 refine sr (m2 nS (wt (sr (m1 (pp g 0) (m1 (pp g 0) (nilc rfl (fd 8 Tyf138_3 rfl (l1 0 (sl z d A) bx Tya136 (mkm bx (fun cH bx=>(bsl (e:=135) (cells:=#[.map (some (zz wi))]) (vs:=[(0,.map (some (zz wi)))]) bx rfl (buildSl_one Tye136 Tys135 Tyz135 rfl (by decide) (by decide) rfl) (fun cI cJ=>?_))))))))))))
 have cK:=p40123 cJ
 obtain ⟨bD,h⟩:=of_guard h
 refine pushM (kv:=kS) (R:=VInt) cK cD (mapr0 (kv:=kS) (R:=VInt)) Tye136 Tyi135 rfl rfl rfl hbr hbr bD (by decide) (fun bq bu b3 dN cL b4=>(nilc rfl (fd 8 Tyf138_3 rfl (sI 1 (.slice bq (d ++ [([]:List (BA × Int))]).length bu) ((vR Y X Z ab ad ac ae af ag ah aj ai ak q f s bq (d ++ [([]:List (BA × Int))]) bu al).toArray) cL Tys136 rfl rfl (fun cM bE=>(wt (wp_seq (sr (m1 (.string bw) (bsc (r:=(!seq bw ⟨#[]⟩)) rfl rfl rfl (wt (cd h (fun bF h=>?_) (fun bF h=>?_)))))))))))))
 ·refine cT bF (wp_region_lit (m1 (.pointer none) (m1 (pp g 0) (m1 (.string bw) ?_))))
  have bG:=p120 bE
  obtain ⟨dO,cN,h⟩:=ob h
  refine cp ([pp g 0,.string bw]) Tyb103 ((f103_ok k) cN (hG.mono kr) bW bX bY bZ b0 b1 b4 (app_bound bD) (Nat.le_trans hbr bE.size) cG (pt bG)) ?_ ?_
  ·rintro _ dP ⟨dQ,dR,dS,dT,dU,dV,dW,dX,dY,dZ,d0,d1,d2,d3,d4,d5,d6,d7,d8,d9,ea,ec,ed,ee,rfl,rfl,cO,ef,eg,eh,ei,ej,ek,el,em⟩
   have en:=ca cO bG
   cases h
  ·rintro _ eo ⟨cP,cQ,rfl,rfl,cR⟩
   have cS:=ca cR bG
   exact thenP (panE (.inr ⟨_,rfl,cP,cQ,(oi h).symm,rfl,cS.sel []⟩))
 ·refine cF bF (wp_skip (thenN (sr (m2 nS (wt (wp_seq (sr (m1 (sl bU ay bV) (lS ay.length Tye36 (m1 (iI 0) (wt (wp_block ?_))))))))))))
  have cU:=bE.row_ (zz wi) 42 11
  refine wp_loopG (fun g_ a w=>∃ b5 B az,∃ (ar:Nat),∃ au aA aB av aw aE aF aG aH aI ax aJ aK u am an bb c x y bd aL l ao ap bv,g_=az.length∧a=fr 59 (updL b5 [(0,pp g 0),(9,sl ao l ap),(30,sl bU ay bV),(31,iI (ay.length:Int)),(32,iI (ar:Int))])∧KH.sub K B∧SR K B wi w [.box bs g (vR Y X Z ab ad ac ae af ag ah aj ai ak q f s z d A al).toArray 138,.row br (sl q f s) 9 1 f.length aq,.stk br (sl z d A) 135 d.length ba] [.box bs g (vR aA au aB av aE aw aF aG aH aI aJ ax aK am u an x c y aL).toArray 138,.row br (sl am u an) 9 1 u.length bb,.stk br (sl x c y) 135 c.length bd,.row (zz wi) (sl ao l ap) 42 11 l.length bv]∧ay.drop ar=az∧tF B aA aB au∧av.size ≤ mB∧tP B aE aF aw∧tS B aJ aK ax∧Reps RStr 1 u bb∧u.length * 16 ≤ mB∧StkR kS VInt c bd∧c.length * 8 ≤ mB∧Reps (RDStmt B) 11 l bv∧l.length * 184 ≤ mB∧f1012166_l1 k F az ar au av aw aG aH aI ax u c aL l=some r_) ay.length ?_ ?_
  ·exact ⟨_,K,ay,0,X,Y,Z,ab,ac,ad,ae,af,ag,ah,ai,aj,ak,f,q,s,aq,(d ++ [([]:List (BA × Int))]),bq,bu,b3,al,([]:LS),none,0,[],rfl,fR,kr,(cU.sel [2,3,1,0]),List.drop_zero,bW,bX,bY,bZ,b0,b1,b4,(app_bound bD),(reps0 (R:=(RDStmt K)) (size:=11)),(by simp),h⟩
  ·rintro _ _ b6 ⟨b5,B,az,ar,au,aA,aB,av,aw,aE,aF,aG,aH,aI,ax,aJ,aK,u,am,an,bb,c,x,y,bd,aL,l,ao,ap,bv,rfl,rfl,bz,bH,be,b7,b8,b9,cb,cc,ce,bI,cf,ch,cV,h⟩
   rcases az with _ | ⟨⟨aM,aN,aP,aQ,aR,aS,aT,aU,aV,aW,aX⟩,az⟩
   ·unfold f1012166_l1 at h
    refine sr (bcm (r:=false) rfl rfl (congrArg some (drop_nil_lt be)) (wt (wp_seq (cndF rfl (wp_exit (thenX (thenX (blkX (thenN (wp_seq (have t:=bH.drew;(regAny (E:=[14]) (F:=FW B [.box bs g (vR aA au aB av aE aw aF aG aH aI aJ ax aK am u an x c y aL).toArray 138,.row br (sl am u an) 9 1 u.length bb,.stk br (sl x c y) 135 c.length bd,.row (zz wi) (sl ao l ap) 42 11 l.length bv]) (L:=(lb 15 0)) ymx rfl rfl (tk 0 (pp g 0) (lb 15 1) rfl (fun w=>mv_r (v:=pp g 0) rfl) (heldF (fq [0,1,2,3] t)) (tk 1 (pp g 0) (lb 15 3) rfl (fun w=>mv_r (v:=pp g 0) rfl) (heldF (fq [0,1,2,3] t)) (tk 2 (pp g 0) (lb 15 7) rfl (fun w=>nilc_r rfl) (heldF (fq [0,1,2,3] t)) (tk 3 (pp g 8) (lb 15 15) rfl (fun w=>fld_r (o':=8) Tyf138_3 rfl rfl) (heldF (fq [0,1,2,3] t)) (tf 4 (sl x c y) ([[14,4]]) (lb 15 31) rfl (fq [0,1,2,3] t) (fun w hF=>lb1_r (i:=0) (v:=sl x c y) hF rfl Tya136 rfl rfl) (tk 5 (pp g 0) (lb 15 63) rfl (fun w=>mv_r (v:=pp g 0) rfl) (heldF (fq [0,1,2,3] t)) (tk 6 (pp g 0) (lb 15 127) rfl (fun w=>nilc_r rfl) (heldF (fq [0,1,2,3] t)) (tk 7 (pp g 8) (lb 15 255) rfl (fun w=>fld_r (o':=8) Tyf138_3 rfl rfl) (heldF (fq [0,1,2,3] t)) (tf 8 (sl x c y) ([[14,8]]) (lb 15 511) rfl (fq [0,1,2,3] t) (fun w hF=>lb1_r (i:=0) (v:=sl x c y) hF rfl Tya136 rfl rfl) (tk 9 (iI (c.length:Int)) (lb 15 1023) rfl (fun w=>lnS_r (len:=c.length) Tye136 rfl) (heldF (fq [0,1,2,3] t)) (tk 10 (iI (w64 ((c.length:Int) - 1))) (lb 15 2047) rfl (fun w=>bar_r (r:=(w64 ((c.length:Int) - 1))) rfl rfl rfl) (heldF (fq [0,1,2,3] t)) ?_)))))))))))))))))))))))
    obtain ⟨bA,h⟩:=of_guard h
    refine tk 11 (.slice x (c.take (w64 ((c.length:Int) - 1)).toNat).length y) (lb 15 4095) rfl (fun w=>slH_r (m:=(c.take (w64 ((c.length:Int) - 1)).toNat).length) Tye136 Tys135 rfl rfl bA.1 (Int.le_trans bA.2 (Int.ofNat_le.2 (stk_cap (i:=2) t rfl))) (take_len bA)) (heldF (fq [0,1,2,3] t)) (tk 12 (pp g 0) (lb 15 8191) rfl (fun w=>nilc_r rfl) (heldF (fq [0,1,2,3] t)) (tk 13 (pp g 8) (lb 15 16383) rfl (fun w=>fld_r (o':=8) Tyf138_3 rfl rfl) (heldF (fq [0,1,2,3] t)) (aO 14 rfl (have cW:=t.cutM (i:=2) (m:=(w64 ((c.length:Int) - 1)).toNat) rfl bI (by have:=bA.2; omega);(sI 0 (.slice x (c.take (w64 ((c.length:Int) - 1)).toNat).length y) ((vR aA au aB av aE aw aF aG aH aI aJ ax aK am u an x (c.take (w64 ((c.length:Int) - 1)).toNat) y aL).toArray) cW Tys136 rfl rfl (fun ep cX=>(wt ⟨heldE (i:=14) rfl rfl,aD (thenN (sr (m1 (sl ao l ap) (m2 (sl ao l ap) (wt (wp_ret ?_))))))⟩)))))))
    obtain ⟨cY,cZ,bJ,c2⟩:=shutI (i:=3) (bytes:=184) (R:=fun K=>(RDStmt K)) cX rfl (Nat.le_refl _) ch cV (fun hs=>(fun _ _ h=>RDStmt.mono hs h))
    exact retP (retA1 rfl (resT rfl) ⟨au,av,aw,aG,aH,aI,ax,u,(c.take (w64 ((c.length:Int) - 1)).toNat),aL,l,cY,aA,aB,aE,aF,aJ,aK,am,an,bb,x,y,(bd.take (w64 ((c.length:Int) - 1)).toNat),ao,ap,(oi h).symm,rfl,cZ,(mf b7 bJ),b8,(mp b9 bJ),(ms cb bJ),(cc.mono (fun _ _ h=>h)),ce,(StkR.mono (fun _ _ h=>h) (StkR.take (w64 ((c.length:Int) - 1)).toNat bI)),(take_bound cf),c2⟩)
   ·unfold f1012166_l1 at h
    refine sr (bcm (r:=true) rfl rfl (congrArg some (drop_cons_t be)) (wt (wp_seq (cndT rfl (wp_skip (thenN (wp_seq (wp_block (sr ?_)))))))))
    obtain ⟨c3,c4,eq,c5,es,c7,c8⟩:=((ms b2 bz)).row.at_ (drop_cons_at be)
    obtain ⟨aY,aZ,a0,a3,a4,a5,a6,a7,a8,a9,rfl,c9,da,db,dc,dd,de,df⟩:=RDStmt.open c8
    refine idxN (b:=c3) (o:=c4) (i:=ar) Tye36 Tys42 rfl c5 rfl (drop_cons_lt be) (lD (vS aM aN aP aQ aR aS aY aT aZ a0 aU a3 a4 aV a5 a6 aW a7 a8 aX a9) Tya42 Tys42 rfl (fun j v hj=>bH.cell (kr.cell (c7 j v hj))) (aC zS.toArray bH Tyz42 (fun et dg=>(sI 0 (.agg (vS aM aN aP aQ aR aS aY aT aZ a0 aU a3 a4 aV a5 a6 aW a7 a8 aX a9).toArray) ((vS aM aN aP aQ aR aS aY aT aZ a0 aU a3 a4 aV a5 a6 aW a7 a8 aX a9).toArray) dg Tys42 rfl rfl (fun dh bK=>(wt (sr (m1 (pp g 0) (lN 0 (vS aM aN aP aQ aR aS aY aT aZ a0 aU a3 a4 aV a5 a6 aW a7 a8 aX a9) bK Tya42 Tys42 ?_)))))))))
    have bL:=p12304 bK
    obtain ⟨eu,di,h⟩:=ob h
    refine cp ([pp g 0,.agg (vS aM aN aP aQ aR aS aY aT aZ a0 aU a3 a4 aV a5 a6 aW a7 a8 aX a9).toArray]) Tyb105 (IH105 di (hG.mono bz) b7 b8 b9 cb cc ce bI cf (Nat.le_trans hbr bK.size) (RDStmt.intro c9 da db dc dd de df) (pt bL)) ?_ ?_
    ·rintro _ dj ⟨ci,cj,ck,cl,cm,cn,co,bB,bC,cq,⟨C,D,G,I,J,N,O,S,U,V,W⟩,bM,cr,cs,ct,cu,cw,cx,bN,bO,cy,bP,bQ,cz,ew,rfl,rfl,bR,dk,dl,dm,dn,dp,dq,dr,ds,dt⟩
     have du:=ca bR bL
     obtain ⟨bf,bg,bh,bi,bj,bk,bm,bn,bo,bp,rfl,dv,dw,dx,dy,dz,dA,dB⟩:=RDStmt.open dt
     refine aC zS.toArray du Tyz42 (fun ex dC=>(sI 0 (.agg (vS C D G I J N bf O bg bh S bi bj U bk bm V bn bo W bp).toArray) ((vS C D G I J N bf O bg bh S bi bj U bk bm V bn bo W bp).toArray) dC Tys42 rfl rfl (fun ey cA=>(wt (wp_region_lit (m1 (sl ao l ap) (lN 0 (vS C D G I J N bf O bg bh S bi bj U bk bm V bn bo W bp) cA Tya42 Tys42 (bsl (e:=42) (cells:=(vS C D G I J N bf O bg bh S bi bj U bk bm V bn bo W bp).toArray) (vs:=[(0,.agg (vS C D G I J N bf O bg bh S bi bj U bk bm V bn bo W bp).toArray)]) cA rfl (buildSl_one Tye36 Tys42 Tyz42 rfl (by decide) (by decide) rfl) (fun ez dD=>?_)))))))))
     obtain ⟨cB,h⟩:=of_guard h
     refine apR (R:=(RDStmt bM)) (p:=(DStmt.mk C D G I J N O S U V W)) (i:=6) (j:=0) dD rfl rfl Tye36 Tyi42 rfl (by decide) rfl rfl (ch.mono (fun _ _ h=>RDStmt.mono bR.sub h)) (RDStmt.intro dv dw dx dy dz dA dB) rfl rfl (Nat.le_refl _) cB (by decide) (fun bS bT cC dE dF dG=>?_)
     have dH:=p123456 dF
     exact m2 (.slice bS (l ++ [(DStmt.mk C D G I J N O S U V W)]).length bT) (wpList_nil (blkN (thenN (wp_region_lit (bar (r:=((ar + 1:Nat):Int)) rfl rfl (inc_ok (le_big (((ms b2 bz)).len) (by decide) (drop_cons_lt be))) (m1 (iI ((ar + 1:Nat):Int)) (wt (⟨_,Nat.lt_succ_self _,_,bM,az,ar + 1,ci,cr,cs,cj,ck,ct,cu,cl,cm,cn,co,cw,cx,bB,bN,bO,cy,bC,bP,bQ,cz,cq,(l ++ [(DStmt.mk C D G I J N O S U V W)]),bS,bT,cC,rfl,fR,(bz.trans bR.sub),(dH.sel [1,2,3,5]),drop_cons_next be,dk,dl,dm,dn,dp,dq,dr,ds,dG,(app_bound cB),h⟩))))))))
    ·rintro _ eA ⟨dI,dJ,rfl,rfl,dK⟩
     have dL:=ca dK bL
     exact thenP (blkP (thenP (thenP (blkP (thenP (panE (.inr ⟨_,rfl,dI,dJ,(oi h).symm,rfl,dL.sel []⟩)))))))
theorem f1012352_b_ok (k:Nat) (F:Fam105) (IH105:f105_spec F.f105) (IH1012148:f1012148_spec F.f1012148) (IH1012152:f1012152_spec F.f1012152) (IH1012166:f1012166_spec F.f1012166) (IH1012352:f1012352_spec F.f1012352) (IH1012366:f1012366_spec F.f1012366):f1012352_spec (f1012352_b k F):=by
 unfold f1012352_spec
 intro K wi g bs br S U V W X Y Z ab ac ad ae af ag ah ai aj bu ak al am bv c i j l m gA bsA sA_0 sA_1 sA_2 sA_3 sA_4 sA_5 sA_6 AsA_6 csA_6 sA_7 AsA_7 csA_7 sA_8 AsA_8 csA_8 sA_9 AsA_9 csA_9 sA_10 AsA_10 csA_10 r_ h hG an ao ap aq ar au av aw hbr ax ay hsA_1 hsA_3 hsA_6 hsA_7 hsA_8 hsA_9 hsA_10 a
 refine enter Tryz.func123 rfl (n:=30) rfl ?_
 unfold f1012352_b at h
 refine sr (m2 nS (wt (sr (m1 (pp g 0) (nilc rfl (fd 9 Tyf138_4 rfl (l1 0 (iI c) a Tya3 (bar (r:=(w64 (c + 1))) rfl rfl rfl (nilc rfl (fd 9 Tyf138_4 rfl (sI 0 (iI (w64 (c + 1))) ((vR U S V W Y X Z ab ac ad af ae ag ai ah aj al ak am (w64 (c + 1))).toArray) a Tys3 rfl rfl (fun bw a=>(wt (sr (m1 (pp g 0) (m1 (.string i) (m1 (sl l j m) (m1 (pp gA 2) ?_))))))))))))))))))
 obtain ⟨bx,az,h⟩:=ob h
 refine cp ([pp g 0,.string i,sl l j m,pp gA 2]) Tyb121 (IH1012152 az (hG.mono kr) an ao ap aq ar au av aw (Nat.le_trans hbr a.size) ax ay hsA_1 hsA_3 hsA_6 hsA_7 hsA_8 hsA_9 hsA_10 (pt a)) ?_ ?_
 ·rintro _ bz ⟨o,p,q,s,t,u,v,w,x,b,aA,aB,aE,aF,aG,aH,aI,aJ,aK,aL,aM,d,aN,y,z,A,B,C,D,G,I,aP,J,N,aQ,aR,aS,aT,aU,aV,aW,aX,aY,aZ,a0,e,f,rfl,rfl,a3,a4,a5,a6,a7,a8,a9,ba,bb,bd,be,bf,bg,bh,bi,bj,bk⟩
  have O:=ca a3 a
  exact m2 (sl e d f) (wt (sr (m1 (pp g 0) (nilc rfl (fd 9 Tyf138_4 rfl (l1 0 (iI b) O Tya3 (bar (r:=(w64 (b - 1))) rfl rfl rfl (nilc rfl (fd 9 Tyf138_4 rfl (sI 0 (iI (w64 (b - 1))) ((vR y o z p A q B s t u C v D G w I J x N (w64 (b - 1))).toArray) O Tys3 rfl rfl (fun bA bm=>(wt (sr (m1 (sl e d f) (m2 (sl e d f) (wt (wp_ret (retP (retA1 rfl (resT rfl) ⟨o,p,q,s,t,u,v,w,x,(w64 (b - 1)),aA,aB,aE,aF,aG,aH,aI,aJ,aK,aL,aM,d,aN,y,z,A,B,C,D,G,I,aP,J,N,aQ,aR,aS,aT,aU,aV,aW,aX,aY,aZ,a0,e,f,(oi h).symm,rfl,bm,a4,a5,a6,a7,a8,a9,ba,bb,bd,be,bf,bg,bh,bi,bj,bk⟩)))))))))))))))))))
 ·rintro _ bB ⟨bn,bo,rfl,rfl,bp⟩
  have bq:=ca bp a
  exact thenP (panE (.inr ⟨_,rfl,bn,bo,(oi h).symm,rfl,bq.sel []⟩))
theorem f1012366_b_ok (k:Nat) (F:Fam105) (IH105:f105_spec F.f105) (IH1012148:f1012148_spec F.f1012148) (IH1012152:f1012152_spec F.f1012152) (IH1012166:f1012166_spec F.f1012166) (IH1012352:f1012352_spec F.f1012352) (IH1012366:f1012366_spec F.f1012366):f1012366_spec (f1012366_b k F):=by
 unfold f1012366_spec
 intro K wi g bs br S U V W X Y Z ab ac ad ae af ag ah ai aj aV ak al am aW c i j l m r_ h hG an ao ap aq ar au av aw hbr ax ay a
 refine enter Tryz.func123 rfl (n:=30) rfl ?_
 unfold f1012366_b at h
 refine sr (m2 nS (wt (sr (m1 (pp g 0) (nilc rfl (fd 9 Tyf138_4 rfl (l1 0 (iI c) a Tya3 (bar (r:=(w64 (c + 1))) rfl rfl rfl (nilc rfl (fd 9 Tyf138_4 rfl (sI 0 (iI (w64 (c + 1))) ((vR U S V W Y X Z ab ac ad af ae ag ai ah aj al ak am (w64 (c + 1))).toArray) a Tys3 rfl rfl (fun aX a=>(wt (sr (m1 (pp g 0) (m1 (.string i) (m1 (sl l j m) (m1 (.pointer none) ?_))))))))))))))))))
 obtain ⟨aY,az,h⟩:=ob h
 refine cp ([pp g 0,.string i,sl l j m,.pointer none]) Tyb121 (IH1012166 az (hG.mono kr) an ao ap aq ar au av aw (Nat.le_trans hbr a.size) ax ay (pt a)) ?_ ?_
 ·rintro _ aZ ⟨o,p,q,s,t,u,v,w,x,b,d,aA,y,z,A,B,C,D,G,I,aB,J,N,aE,e,f,rfl,rfl,aF,aG,aH,aI,aJ,aK,aL,aM,aN,aP⟩
  have O:=ca aF a
  exact m2 (sl e d f) (wt (sr (m1 (pp g 0) (nilc rfl (fd 9 Tyf138_4 rfl (l1 0 (iI b) O Tya3 (bar (r:=(w64 (b - 1))) rfl rfl rfl (nilc rfl (fd 9 Tyf138_4 rfl (sI 0 (iI (w64 (b - 1))) ((vR y o z p A q B s t u C v D G w I J x N (w64 (b - 1))).toArray) O Tys3 rfl rfl (fun a0 aQ=>(wt (sr (m1 (sl e d f) (m2 (sl e d f) (wt (wp_ret (retP (retA1 rfl (resT rfl) ⟨o,p,q,s,t,u,v,w,x,(w64 (b - 1)),d,aA,y,z,A,B,C,D,G,I,aB,J,N,aE,e,f,(oi h).symm,rfl,aQ,aG,aH,aI,aJ,aK,aL,aM,aN,aP⟩)))))))))))))))))))
 ·rintro _ a3 ⟨aR,aS,rfl,rfl,aT⟩
  have aU:=ca aT a
  exact thenP (panE (.inr ⟨_,rfl,aR,aS,(oi h).symm,rfl,aU.sel []⟩))
theorem fam105_ok (k0:Nat) : ∀ k,f105_spec (fam105 k0 k).f105∧f1012148_spec (fam105 k0 k).f1012148∧f1012152_spec (fam105 k0 k).f1012152∧f1012166_spec (fam105 k0 k).f1012166∧f1012352_spec (fam105 k0 k).f1012352∧f1012366_spec (fam105 k0 k).f1012366:=by
 intro k
 induction k with
 | zero=>exact ⟨(by unfold f105_spec; intro _ _ _ _ _ _ _ _ _ _ _ _ _ _ _ _ _ _ _ _ _ _ _ _ _ _ _ _ _ _ h_; cases h_),(by unfold f1012148_spec; intro _ _ _ _ _ _ _ _ _ _ _ _ _ _ _ _ _ _ _ _ _ _ _ _ _ _ _ _ _ _ _ _ _ _ _ _ _ _ _ _ _ _ _ h_; cases h_),(by unfold f1012152_spec; intro _ _ _ _ _ _ _ _ _ _ _ _ _ _ _ _ _ _ _ _ _ _ _ _ _ _ _ _ _ _ _ _ _ _ _ _ _ _ _ _ _ _ _ _ _ _ _ _ _ _ _ _ _ _ _ h_; cases h_),(by unfold f1012166_spec; intro _ _ _ _ _ _ _ _ _ _ _ _ _ _ _ _ _ _ _ _ _ _ _ _ _ _ _ _ _ _ _ _ h_; cases h_),(by unfold f1012352_spec; intro _ _ _ _ _ _ _ _ _ _ _ _ _ _ _ _ _ _ _ _ _ _ _ _ _ _ _ _ _ _ _ _ _ _ _ _ _ _ _ _ _ _ _ _ _ _ _ _ _ _ _ _ _ _ _ h_; cases h_),(by unfold f1012366_spec; intro _ _ _ _ _ _ _ _ _ _ _ _ _ _ _ _ _ _ _ _ _ _ _ _ _ _ _ _ _ _ _ _ h_; cases h_)⟩
 | succ k ih=>exact ⟨f105_b_ok k0 (fam105 k0 k) ih.1 ih.2.1 ih.2.2.1 ih.2.2.2.1 ih.2.2.2.2.1 ih.2.2.2.2.2,f1012148_b_ok k0 (fam105 k0 k) ih.1 ih.2.1 ih.2.2.1 ih.2.2.2.1 ih.2.2.2.2.1 ih.2.2.2.2.2,f1012152_b_ok k0 (fam105 k0 k) ih.1 ih.2.1 ih.2.2.1 ih.2.2.2.1 ih.2.2.2.2.1 ih.2.2.2.2.2,f1012166_b_ok k0 (fam105 k0 k) ih.1 ih.2.1 ih.2.2.1 ih.2.2.2.1 ih.2.2.2.2.1 ih.2.2.2.2.2,f1012352_b_ok k0 (fam105 k0 k) ih.1 ih.2.1 ih.2.2.1 ih.2.2.2.1 ih.2.2.2.2.1 ih.2.2.2.2.2,f1012366_b_ok k0 (fam105 k0 k) ih.1 ih.2.1 ih.2.2.1 ih.2.2.2.1 ih.2.2.2.2.1 ih.2.2.2.2.2⟩
theorem f105_ok (k:Nat):f105_spec (f105 k):=(fam105_ok k k).1
theorem f1012148_ok (k:Nat):f1012148_spec (f1012148 k):=(fam105_ok k k).2.1
theorem f1012152_ok (k:Nat):f1012152_spec (f1012152 k):=(fam105_ok k k).2.2.1
theorem f1012166_ok (k:Nat):f1012166_spec (f1012166 k):=(fam105_ok k k).2.2.2.1
theorem f1012352_ok (k:Nat):f1012352_spec (f1012352 k):=(fam105_ok k k).2.2.2.2.1
theorem f1012366_ok (k:Nat):f1012366_spec (f1012366 k):=(fam105_ok k k).2.2.2.2.2
theorem f82_b_ok (k:Nat):f82_spec (f82_b k):=by
 unfold f82_spec
 intro K wi du fH dv fI r_ h hG dw dx dy
 obtain ⟨aE⟩:=du
 obtain ⟨aF,c1,rfl,dz⟩:=RDProgram.open dw
 obtain ⟨f,C,g,m,J,t⟩:=dv
 obtain ⟨N,O,G,I,rfl,ci,b7,cj⟩:=RDFunc.open dx
 refine enter Tryz.func82 rfl (n:=67) rfl ?_
 unfold f82_b at h
 refine sr (bxoC (cs:=#[sl aF aE c1]) dy rfl rfl (fun U dA=>(bxoC (cs:=(vF f N C O g m J G t I).toArray) dA rfl rfl (fun S dB=>(aC zF.toArray dB Tyz38 (fun bN ck=>(m2 nS (wt (sr (lN 2 ([sl aF aE c1]) ck Tya24 Tys24 (lN 1 (vF f N C O g m J G t I) ck Tya38 Tys38 (mkm ck (fun bO dC=>(bsl (e:=135) (cells:=#[.map (some (zz bN))]) (vs:=[(0,.map (some (zz bN)))]) dC rfl (buildSl_one Tye136 Tys135 Tyz135 rfl (by decide) (by decide) rfl) (fun u dD=>?_)))))))))))))))
 have dE:=p01234 dD
 obtain ⟨dF,dG⟩:=dE.oneM (mapr0 (kv:=kS) (R:=VInt))
 refine bld (cells:=#[sl aF aE c1,.string f,sl N C O,iI g,.bool m,iI J,sl G t I,nS,.slice (some ⟨(zz bO),0,none⟩) [([]:List (BA × Int))].length 1,iI 0]) (vs:=[(0,.agg #[sl aF aE c1]),(1,.agg (vF f N C O g m J G t I).toArray),(3,.slice (some ⟨(zz bO),0,none⟩) [([]:List (BA × Int))].length 1)]) rfl (fun w=>by kernel_rfl) (bxoC (cs:=#[sl aF aE c1,.string f,sl N C O,iI g,.bool m,iI J,sl G t I,nS,.slice (some ⟨(zz bO),0,none⟩) [([]:List (BA × Int))].length 1,iI 0]) dF rfl rfl (fun fJ cL=>(m2 (pp (zz u) 0) (wt (wp_seq (sr (fd 1 Tyf38_1 rfl (l1 3 (sl N C O) cL Tya35 (lS C.length Tye35 (m1 (iI 0) (wt (wp_block ?_))))))))))))
 have dH:=cL.row_ (zz wi) 9 1
 refine wp_loopG (fun g_ a w=>∃ cM am aG,∃ (ar:Nat),∃ bn bP bQ bo bp bR bS bT bU bV bq bW bX V br bs bY W bu bv bZ b0,g_=aG.length∧a=fr 67 (updL cM [(3,pp (zz U) 0),(4,pp (zz S) 0),(6,pp (zz u) 0),(20,sl N C O),(21,iI (C.length:Int)),(22,iI (ar:Int))])∧KH.sub K am∧SR K am wi w [] [.box (zz wi) (zz U) (vF f N C O g m J G t I).toArray 38,.box (zz wi) (zz S) zF.toArray 38,.box (zz wi) (zz u) (vR bP bn bQ bo bR bp bS bT bU bV bW bq bX br V bs bu W bv b0).toArray 138,.row (zz wi) (sl br V bs) 9 1 V.length bY,.stk (zz wi) (sl bu W bv) 135 W.length bZ]∧C.drop ar=aG∧tF am bP bQ bn∧bo.size ≤ mB∧tP am bR bS bp∧tS am bW bX bq∧Reps RStr 1 V bY∧V.length * 16 ≤ mB∧StkR kS VInt W bZ∧W.length * 8 ≤ mB∧f82_l1 k f C g m t aG ar bn bo bp bT bU bV bq V W b0=some r_) C.length ?_ ?_
 ·exact ⟨_,K,C,0,aE,aF,c1,f,C,N,O,g,m,J,t,G,I,([]:LB),none,0,[],[([]:List (BA × Int))],(some ⟨(zz bO),0,none⟩),1,[((zz bN),#[],0)],0,rfl,fR,kr,(dH.sel [4,3,1,0,2]),List.drop_zero,dz,ci,b7,cj,(reps0 (R:=RStr) (size:=1)),(by simp),dG,(by decide),h⟩
 ·rintro _ _ dI ⟨cM,am,aG,ar,bn,bP,bQ,bo,bp,bR,bS,bT,bU,bV,bq,bW,bX,V,br,bs,bY,W,bu,bv,bZ,b0,rfl,rfl,an,b1,bw,cN,cO,cP,cQ,cR,cS,cU,cV,h⟩
  rcases aG with _ | ⟨⟨bx,b8⟩,aG⟩
  ·unfold f82_l1 at h
   refine sr (bcm (r:=false) rfl rfl (congrArg some (drop_nil_lt bw)) (wt (wp_seq (cndF rfl (wp_exit (thenX (thenX (blkX (thenN (sr (fd 1 Tyf38_1 rfl (l1 0 (sl N C O) b1 Tya35 ?_))))))))))))
   obtain ⟨x,dJ,h⟩:=ob h
   refine cv ([sl N C O]) Tyb104 ((f104_ok k) dJ (hG.mono an) (mp b7 an) (pt b1)) ?_
   rintro _ fK ⟨cl,y,z,rfl,au,cW⟩
   have dK:=ca au b1
   refine fd 1 Tyf38_1 rfl (sI 0 (sl y x z) ((vF f y x z g m J G t I).toArray) dK Tys35 rfl rfl (fun fL cX=>(wt (sr (m2 nS (wt (wp_seq (sr (fd 5 Tyf38_5 rfl (l1 0 (sl G t I) cX Tya36 (lS t.length Tye36 (m1 (iI 0) (wt (wp_block ?_))))))))))))))
   have dL:=cX.row_ (zz wi) 42 11
   refine wp_loopG (fun g_ a w=>∃ cY X aH,∃ (av:Nat),∃ aw aI aJ ax ay aK aL aM aN aP az aQ aR c A B ap D Y Z aS aT d q s aq,g_=aH.length∧a=fr 67 (updL cY [(3,pp (zz U) 0),(4,pp (zz S) 0),(6,pp (zz u) 0),(9,sl q d s),(36,sl G t I),(37,iI (t.length:Int)),(38,iI (av:Int))])∧KH.sub cl X∧SR K X wi w [] [.box (zz wi) (zz U) (vF f y x z g m J G t I).toArray 38,.box (zz wi) (zz S) zF.toArray 38,.box (zz wi) (zz u) (vR aI aw aJ ax aK ay aL aM aN aP aQ az aR A c B Y D Z aT).toArray 138,.row (zz wi) (sl A c B) 9 1 c.length ap,.stk (zz wi) (sl Y D Z) 135 D.length aS,.row (zz wi) (sl q d s) 42 11 d.length aq]∧t.drop av=aH∧tF X aI aJ aw∧ax.size ≤ mB∧tP X aK aL ay∧tS X aQ aR az∧Reps RStr 1 c ap∧c.length * 16 ≤ mB∧StkR kS VInt D aS∧D.length * 8 ≤ mB∧Reps (RDStmt X) 11 d aq∧d.length * 184 ≤ mB∧f82_l2 k f g m x aH av aw ax ay aM aN aP az c D aT d=some r_) t.length ?_ ?_
   ·exact ⟨_,cl,t,0,bn,bP,bQ,bo,bp,bR,bS,bT,bU,bV,bq,bW,bX,V,br,bs,bY,W,bu,bv,bZ,b0,([]:LS),none,0,[],rfl,fR,kr,(dL.sel [1,2,3,4,5,0]),List.drop_zero,(mf cN au.sub),cO,(mp cP au.sub),(ms cQ au.sub),(cR.mono (fun _ _ h=>h)),cS,(StkR.mono (fun _ _ h=>h) cU),cV,(reps0 (R:=(RDStmt cl)) (size:=11)),(by simp),h⟩
   ·rintro _ _ cZ ⟨cY,X,aH,av,aw,aI,aJ,ax,ay,aK,aL,aM,aN,aP,az,aQ,aR,c,A,B,ap,D,Y,Z,aS,aT,d,q,s,aq,rfl,rfl,aU,cm,bz,dM,dN,dO,dP,cn,co,dQ,dR,cq,c2,h⟩
    rcases aH with _ | ⟨⟨aV,aW,aX,aY,aZ,a2,a3,a4,a5,a6,a7⟩,aH⟩
    ·unfold f82_l2 at h
     refine sr (bcm (r:=false) rfl rfl (congrArg some (drop_nil_lt bz)) (wt (wp_seq (cndF rfl (wp_exit (thenX (thenX (blkX (thenN (sr (m1 (sl q d s) (fd 5 Tyf38_5 rfl (sI 0 (sl q d s) ((vF f y x z g m J q d s).toArray) cm Tys36 rfl rfl (fun fM c3=>(wt (sr (m1 (pp (zz u) 0) (nilc rfl (fd 7 Tyf138_2 rfl (l1 2 (sl A c B) c3 Tya46 (lS c.length Tye46 (fd 4 Tyf38_4 rfl (sI 0 (iI (c.length:Int)) ((vF f y x z g m (c.length:Int) q d s).toArray) c3 Tys3 rfl rfl (fun fN b9=>(wt (sr (fd 4 Tyf38_4 rfl (l1 0 (iI (c.length:Int)) b9 Tya3 (c0 (decide ((c.length:Int) ≤ 32)) ?_)))))))))))))))))))))))))))))
     obtain ⟨fO,dS,h⟩:=ob h
     refine cp ([.bool (decide ((c.length:Int) ≤ 32)),iI 5]) Tyb58 ((f58_ok k) dS (hG.mono ((an.trans au.sub).trans aU)) (pt b9)) ?_ ?_
     ·rintro _ fP ⟨a8,rfl,rfl,b2⟩
      have dT:=ca b2 b9
      refine wt (wp_cut (fun a w=>∃ c4 a9 ba b3 b4 bA bB bC ao b5 b6 cr aA cb cc ct,a=fr 67 (updL c4 [(4,pp (zz S) 0),(5,sl cb aA cc)])∧SR K a8 wi w [] [.box (zz wi) (zz S) (vF a9 b3 ba b4 bA bB bC b5 ao b6).toArray 38,.row (zz wi) (sl b5 ao b6) 42 11 ao.length cr,.row (zz wi) (sl cb aA cc) 9 1 aA.length ct]∧a9.size ≤ mB∧tP a8 b3 b4 ba∧Reps (RDStmt a8) 11 ao cr∧ao.length * 184 ≤ mB∧Reps RStr 1 aA ct∧aA.length * 16 ≤ mB∧f82_j1 k a9 ba bA bB bC ao aA=some r_) ?_ ?_)
      ·have aB:=dT.drew
       refine regAny (E:=[5]) (F:=FW a8 [.box (zz wi) (zz U) (vF f y x z g m (c.length:Int) q d s).toArray 38,.box (zz wi) (zz S) zF.toArray 38,.box (zz wi) (zz u) (vR aI aw aJ ax aK ay aL aM aN aP aQ az aR A c B Y D Z aT).toArray 138,.row (zz wi) (sl A c B) 9 1 c.length ap,.stk (zz wi) (sl Y D Z) 135 D.length aS,.row (zz wi) (sl q d s) 42 11 d.length aq]) (L:=(lb 7 0)) ymx rfl rfl (tf 0 (.agg (vF f y x z g m (c.length:Int) q d s).toArray) ([[5,0]]) (lb 7 1) rfl (fq [0,1,2,3,4,5] aB) (fun w hF=>lbN_r (i:=0) (l:=(vF f y x z g m (c.length:Int) q d s)) hF rfl Tya38 Tys38 rfl rfl rfl) (tk 1 (pp (zz u) 0) (lb 7 3) rfl (fun w=>mv_r (v:=pp (zz u) 0) rfl) (heldF (fq [0,1,2,3,4,5] aB)) (tk 2 (pp (zz u) 0) (lb 7 7) rfl (fun w=>nilc_r rfl) (heldF (fq [0,1,2,3,4,5] aB)) (tk 3 (pp (zz u) 7) (lb 7 15) rfl (fun w=>fld_r (o':=7) Tyf138_2 rfl rfl) (heldF (fq [0,1,2,3,4,5] aB)) (anyAll (rs:=[4,5]) (by kernel_rfl) (by decide) (allC ?_ (allC ?_ allN)))))))
       ·refine opL (i:=4) rfl (l1 2 (sl A c B) aB Tya46 (wt ⟨heldF (fq [0,1,2,3,4,5] aB),aO 5 rfl (sI 1 (.agg (vF f y x z g m (c.length:Int) q d s).toArray) ((vF f y x z g m (c.length:Int) q d s).toArray) aB Tys38 rfl rfl (fun cu cw=>?_))⟩))
        have ce:SR K a8 wi cu [] [.box (zz wi) (zz U) (vF f y x z g m (c.length:Int) q d s).toArray 38,.box (zz wi) (zz S) (vF f y x z g m (c.length:Int) q d s).toArray 38,.box (zz wi) (zz u) (vR aI aw aJ ax aK ay aL aM aN aP aQ az aR A c B Y D Z aT).toArray 138,.row (zz wi) (sl A c B) 9 1 c.length ap,.stk (zz wi) (sl Y D Z) 135 D.length aS,.row (zz wi) (sl q d s) 42 11 d.length aq]:=cw
        exact wt ⟨heldE (i:=5) rfl rfl,tk 6 (sl A c B) (lb 7 127) rfl (fun w=>asg_r (v:=sl A c B) rfl) (heldE (i:=5) rfl rfl) (aD (thenN (⟨_,f,x,y,z,g,m,(c.length:Int),d,q,s,aq,c,A,B,ap,fR,(ce.sel [1,5,3]),ci,(mp cW (aU.trans b2.sub)),(cq.mono (fun _ _ h=>RDStmt.mono b2.sub h)),c2,(cn.mono (fun _ _ h=>h)),co,h⟩)))⟩
       ·refine opL (i:=5) rfl (sI 1 (.agg (vF f y x z g m (c.length:Int) q d s).toArray) ((vF f y x z g m (c.length:Int) q d s).toArray) aB Tys38 rfl rfl (fun cu cw=>?_))
        have ce:SR K a8 wi cu [] [.box (zz wi) (zz U) (vF f y x z g m (c.length:Int) q d s).toArray 38,.box (zz wi) (zz S) (vF f y x z g m (c.length:Int) q d s).toArray 38,.box (zz wi) (zz u) (vR aI aw aJ ax aK ay aL aM aN aP aQ az aR A c B Y D Z aT).toArray 138,.row (zz wi) (sl A c B) 9 1 c.length ap,.stk (zz wi) (sl Y D Z) 135 D.length aS,.row (zz wi) (sl q d s) 42 11 d.length aq]:=cw
        exact wt ⟨heldE (i:=5) rfl rfl,aO 4 rfl (l1 2 (sl A c B) ce Tya46 (wt ⟨heldE (i:=5) rfl rfl,tk 6 (sl A c B) (lb 7 127) rfl (fun w=>asg_r (v:=sl A c B) rfl) (heldE (i:=5) rfl rfl) (aD (thenN (⟨_,f,x,y,z,g,m,(c.length:Int),d,q,s,aq,c,A,B,ap,fR,(ce.sel [1,5,3]),ci,(mp cW (aU.trans b2.sub)),(cq.mono (fun _ _ h=>RDStmt.mono b2.sub h)),c2,(cn.mono (fun _ _ h=>h)),co,h⟩)))⟩))⟩
      ·rintro _ fQ ⟨c4,a9,ba,b3,b4,bA,bB,bC,ao,b5,b6,cr,aA,cb,cc,ct,rfl,c6,dU,dV,dW,dX,dY,dZ,h⟩
       unfold f82_j1 at h
       refine wp_ret ?_
       obtain ⟨fS,d0,d1,d2⟩:=shutI (i:=1) (bytes:=184) (R:=fun K=>(RDStmt K)) c6 rfl (Nat.le_refl _) dW dX (fun hs=>(fun _ _ h=>RDStmt.mono hs h))
       obtain ⟨d3,d4,c7,d5⟩:=shutI (i:=1) (bytes:=16) (R:=fun K=>RStr) d0 rfl (Nat.le_refl _) (dY.mono (fun _ _ h=>h)) dZ (fun hs=>(fun _ _ h=>h))
       exact retP (retA2 rfl (resN (i:=0) (l:=(vF a9 b3 ba b4 bA bB bC b5 ao b6)) c6 rfl Tya38 Tys38 rfl rfl rfl) (resT rfl) ⟨(DFunc.mk a9 ba bA bB bC ao),aA,d3,(vF a9 b3 ba b4 bA bB bC b5 ao b6),cb,cc,(oi h).symm,rfl,(d4.sel []),(RDFunc.intro dU (mp dV (d1.trans c7)) (ms d2 c7)),d5⟩)
     ·rintro _ fT ⟨d6,d7,rfl,rfl,d8⟩
      have d9:=ca d8 b9
      exact thenP (panE (.inr ⟨_,rfl,d6,d7,(oi h).symm,rfl,d9.sel []⟩))
    ·unfold f82_l2 at h
     refine sr (bcm (r:=true) rfl rfl (congrArg some (drop_cons_t bz)) (wt (wp_seq (cndT rfl (wp_skip (thenN (wp_seq (wp_block (sr ?_)))))))))
     obtain ⟨ea,ec,fU,ed,fV,ee,ef⟩:=((ms cj ((an.trans au.sub).trans aU))).row.at_ (drop_cons_at bz)
     obtain ⟨bb,bd,be,bf,bg,bh,bi,bj,bk,bm,rfl,eg,eh,ei,ej,ek,el,em⟩:=RDStmt.open ef
     refine idxN (b:=ea) (o:=ec) (i:=av) Tye36 Tys42 rfl ed rfl (drop_cons_lt bz) (lD (vS aV aW aX aY aZ a2 bb a3 bd be a4 bf bg a5 bh bi a6 bj bk a7 bm) Tya42 Tys42 rfl (fun j v hj=>cm.cell (kr.cell (ee j v hj))) (aC zS.toArray cm Tyz42 (fun fW en=>(sI 0 (.agg (vS aV aW aX aY aZ a2 bb a3 bd be a4 bf bg a5 bh bi a6 bj bk a7 bm).toArray) ((vS aV aW aX aY aZ a2 bb a3 bd be a4 bf bg a5 bh bi a6 bj bk a7 bm).toArray) en Tys42 rfl rfl (fun eo cx=>(wt (sr (m1 (pp (zz u) 0) (lN 0 (vS aV aW aX aY aZ a2 bb a3 bd be a4 bf bg a5 bh bi a6 bj bk a7 bm) cx Tya42 Tys42 ?_)))))))))
     have cy:=p3450126 cx
     obtain ⟨fX,ep,h⟩:=ob h
     refine cp ([pp (zz u) 0,.agg (vS aV aW aX aY aZ a2 bb a3 bd be a4 bf bg a5 bh bi a6 bj bk a7 bm).toArray]) Tyb105 ((f105_ok k) ep (hG.mono ((an.trans au.sub).trans aU)) dM dN dO dP cn co dQ dR (Nat.le_trans (Nat.le_refl _) cx.size) (RDStmt.intro eg eh ei ej ek el em) (pt cy)) ?_ ?_
     ·rintro _ eq ⟨c9,da,db,dc,dd,de,df,cf,ch,dg,⟨ab,ac,ad,ae,af,ag,ah,ai,aj,ak,al⟩,cz,dh,di,dj,dk,dl,dm,cA,cB,dn,cC,cD,dp,fY,rfl,rfl,cG,es,et,eu,ew,ex,ey,ez,eA,eB⟩
      have eC:=ca cG cy
      obtain ⟨bD,bE,bF,bG,bH,bI,bJ,bK,bL,bM,rfl,eD,eE,eF,eG,eH,eI,eJ⟩:=RDStmt.open eB
      refine aC zS.toArray eC Tyz42 (fun fZ eK=>(sI 0 (.agg (vS ab ac ad ae af ag bD ah bE bF ai bG bH aj bI bJ ak bK bL al bM).toArray) ((vS ab ac ad ae af ag bD ah bE bF ai bG bH aj bI bJ ak bK bL al bM).toArray) eK Tys42 rfl rfl (fun f0 dq=>(wt (wp_region_lit (m1 (sl q d s) (lN 0 (vS ab ac ad ae af ag bD ah bE bF ai bG bH aj bI bJ ak bK bL al bM) dq Tya42 Tys42 (bsl (e:=42) (cells:=(vS ab ac ad ae af ag bD ah bE bF ai bG bH aj bI bJ ak bK bL al bM).toArray) (vs:=[(0,.agg (vS ab ac ad ae af ag bD ah bE bF ai bG bH aj bI bJ ak bK bL al bM).toArray)]) dq rfl (buildSl_one Tye36 Tys42 Tyz42 rfl (by decide) (by decide) rfl) (fun f1 eL=>?_)))))))))
      obtain ⟨dr,h⟩:=of_guard h
      refine apR (R:=(RDStmt cz)) (p:=(DStmt.mk ab ac ad ae af ag ah ai aj ak al)) (i:=8) (j:=0) eL rfl rfl Tye36 Tyi42 rfl (by decide) rfl rfl (cq.mono (fun _ _ h=>RDStmt.mono cG.sub h)) (RDStmt.intro eD eE eF eG eH eI eJ) rfl rfl (Nat.le_refl _) dr (by decide) (fun cH cI ds eM eN eO=>?_)
      have eP:=p12345678 eN
      exact m2 (.slice cH (d ++ [(DStmt.mk ab ac ad ae af ag ah ai aj ak al)]).length cI) (wpList_nil (blkN (thenN (wp_region_lit (bar (r:=((av + 1:Nat):Int)) rfl rfl (inc_ok (le_big (((ms cj ((an.trans au.sub).trans aU))).len) (by decide) (drop_cons_lt bz))) (m1 (iI ((av + 1:Nat):Int)) (wt (⟨_,Nat.lt_succ_self _,_,cz,aH,av + 1,c9,dh,di,da,db,dj,dk,dc,dd,de,df,dl,dm,cf,cA,cB,dn,ch,cC,cD,dp,dg,(d ++ [(DStmt.mk ab ac ad ae af ag ah ai aj ak al)]),cH,cI,ds,rfl,fR,(aU.trans cG.sub),(eP.sel [5,6,1,2,3,7]),drop_cons_next bz,es,et,eu,ew,ex,ey,ez,eA,eO,(app_bound dr),h⟩))))))))
     ·rintro _ f2 ⟨eQ,eR,rfl,rfl,eS⟩
      have eT:=ca eS cy
      exact thenP (blkP (thenP (thenP (blkP (thenP (panE (.inr ⟨_,rfl,eQ,eR,(oi h).symm,rfl,eT.sel []⟩)))))))
  ·unfold f82_l1 at h
   refine sr (bcm (r:=true) rfl rfl (congrArg some (drop_cons_t bw)) (wt (wp_seq (cndT rfl (wp_skip (thenN (wp_seq (wp_block (sr ?_)))))))))
   obtain ⟨eU,eV,f3,eW,f4,eX,eY⟩:=((mp b7 an)).row.at_ (drop_cons_at bw)
   obtain ⟨rfl,eZ⟩:=RDParam.open eY
   refine idxN (b:=eU) (o:=eV) (i:=ar) Tye35 Tys82 rfl eW rfl (drop_cons_lt bw) (lD ([.string bx,iI b8]) Tya82 Tys82 rfl (fun j v hj=>b1.cell (kr.cell (eX j v hj))) (aC #[sE,iI 0] b1 Tyz82 (fun f5 e0=>(sI 0 (.agg #[.string bx,iI b8]) #[.string bx,iI b8] e0 Tys82 rfl rfl (fun e1 cJ=>(wt (wp_region_lit (m1 (pp (zz u) 0) (fd 0 Tyf82_0 rfl (l1 0 (.string bx) cJ Tya9 ?_))))))))))
   have cK:=p345012 cJ
   obtain ⟨f6,e2,h⟩:=ob h
   refine cp ([pp (zz u) 0,.string bx]) Tyb103 ((f103_ok k) e2 (hG.mono an) cN cO cP cQ cR cS cU cV (Nat.le_trans (Nat.le_refl _) cJ.size) eZ (pt cK)) ?_ ?_
   ·rintro _ f7 ⟨e3,e4,e5,e6,e7,e8,e9,fa,fb,fc,f8,fe,ff,fg,fh,fi,fj,fk,fl,fm,fn,fo,fp,fs,rfl,rfl,dt,ft,fu,fv,fx,fy,fz,fA,fB⟩
    have fC:=ca dt cK
    exact wpList_nil (blkN (thenN (wp_region_lit (bar (r:=((ar + 1:Nat):Int)) rfl rfl (inc_ok (le_big (((mp b7 an)).len) (by decide) (drop_cons_lt bw))) (m1 (iI ((ar + 1:Nat):Int)) (wt (⟨_,Nat.lt_succ_self _,_,fe,aG,ar + 1,e3,ff,fg,e4,e5,fh,fi,e6,e7,e8,e9,fj,fk,fa,fl,fm,fn,fb,fo,fp,fs,fc,rfl,fR,(an.trans dt.sub),(fC.sel [4,5,0,1,2]),drop_cons_next bw,ft,fu,fv,fx,fy,fz,fA,fB,h⟩)))))))
   ·rintro _ ga ⟨fD,fE,rfl,rfl,fF⟩
    have fG:=ca fF cK
    exact blkP (thenP (thenP (blkP (thenP (panE (.inr ⟨_,rfl,fD,fE,(oi h).symm,rfl,fG.sel []⟩))))))
theorem f82_ok (k:Nat):f82_spec (f82 k):=f82_b_ok k
set_option maxRecDepth 100000 in
set_option maxHeartbeats 4000000 in
theorem f44_body (k:Nat) (h78:f78_spec (f78 k)) (h58:f58_spec (f58 k)) (h80:f1008056_spec (f1008056 k)) (h82:f82_spec (f82 k)):f44_spec (f44 k):=by
 unfold f44_spec
 intro K wi a0 csa0 res_ h hG ha0 S0
 obtain ⟨fs⟩:=a0
 obtain ⟨A,c,rfl,hrow⟩:=RDProgram.open ha0
 refine calls_of_wpF Tryz.func44 rfl (m:=66) rfl ?_
 unfold f44 at h
 dsimp only at h
 refine wpF_seq ?_
 refine wpF_of (wp_region_lit ?_)
 refine bxoC (cs:=#[.slice A fs.length c]) S0 rfl rfl ?_
 intro w1 S1
 refine alcC (z:=.agg #[.slice none 0 0]) (cs:=#[.slice none 0 0]) S1 (by kernel_rfl) rfl ?_
 intro w2 S2
 refine asg (v:=.slice none 0 0) rfl ?_
 refine wpList_nil ?_
 refine thenN ?_
 refine wpF_scope ?_
 refine wpF_seq ?_
 refine wpF_of (wp_region_lit ?_)
 refine lbN (i:=1) (l:=[.slice A fs.length c]) S2 rfl (by kernel_rfl) (show SizeB Tryz.prog 24=some 1 by kernel_rfl) rfl rfl rfl ?_
 obtain ⟨ok,hq1,h⟩:=Option.bind_eq_some_iff.1 h
 refine clV (caps:=#[]) (vs:=[.agg #[.slice A fs.length c],.bool false]) rfl (by kernel_rfl) rfl (h78 hq1 hG ha0 (S2.part [] (List.sublist_append_left _ _))) ?_
 rintro _ w3 ⟨K3,rfl,T3⟩
 have S3:=S2.call (H1:=[]) T3
 obtain ⟨q2,hq2,h⟩:=Option.bind_eq_some_iff.1 h
 refine clP (caps:=#[]) (vs:=[.bool ok,.int .i64 2]) rfl (by kernel_rfl) rfl (h58 hq2 (hG.mono S3.sub) (S3.part [] (List.sublist_append_left _ _))) ?_ ?_
 rotate_left
 ·rintro _ w4 ⟨c4,K4,rfl,rfl,T4⟩
  have S4:=S3.call (H1:=[]) T4
  refine thenP ?_
  exact .inr ⟨_,rfl,c4,K4,(Option.some.inj h).symm,rfl,S4.sel []⟩
 rintro _ w4 ⟨K4,rfl,rfl,T4⟩
 have S4:=S3.call (H1:=[]) T4
 dsimp only at h
 refine wpList_nil ?_
 refine thenN ?_
 refine wpF_seq ?_
 refine wpF_seq ?_
 refine wpF_of (wp_region_lit ?_)
 refine lbN (i:=1) (l:=[.slice A fs.length c]) S4 rfl (by kernel_rfl) (show SizeB Tryz.prog 24=some 1 by kernel_rfl) rfl rfl rfl ?_
 refine clV (caps:=#[]) (vs:=[.agg #[.slice A fs.length c]]) rfl (by kernel_rfl) rfl (heads_ok S4) ?_
 rintro _ w5 ⟨b5,rfl,S5⟩
 refine wpList_nil ?_
 refine thenN ?_
 refine wpF_block ?_
 obtain ⟨r1,hq3,h⟩:=Option.bind_eq_some_iff.1 h
 have hr4:tF K4 A c fs:=hrow.mono S4.sub (fun _ _ h=>RDFunc.mono S4.sub h)
 obtain ⟨HH,hHH⟩ : ∃ HH:Ents,HH=[.raw (zz wi) (zz w5) (.deferred (some [])),.box (zz wi) (zz w1) #[.slice none 0 0] 24,.box (zz wi) (zz wi) #[.slice A fs.length c] 24]:=⟨_,rfl⟩
 show wpF _ _ _ _ (wd (fr 66 _) []) _
 refine wpF_heads (D:=[]) (Pi:=fun i _ H'=>H'=HH∧f44_l1 k fs (fs.drop i) i=some r1) (Px:=fun _ _ _=>False) (Pp:=fun v _ H'=>H'=[.raw (zz wi) (zz w5) (.deferred (some []))]∧∃ c,r1=.error c∧v=.iface 109 (.agg #[.int .i64 c]))
  (fun i x K1 H1 σ1=>∃ (bf:Nat) (x0:ByteArray) (x1:List DParam) (x2:Int) (x3:Bool) (x4:Int) (x5:List DStmt) (A1:Option Addr) (c1:Nat) (A2:Option Addr) (c2:Nat),x=.mk x0 x1 x2 x3 x4 x5∧H1=.box (zz wi) bf #[.string x0,.slice A1 x1.length c1,.int .i64 x2,.bool x3,.int .i64 x4,.slice A2 x5.length c2] 38 :: HH ∧
   x0.size≤mB∧tP K1 A1 c1 x1∧tS K1 A2 c2 x5∧σ1 4=.pointer (some ⟨bf,0,none⟩)∧σ1 5=.slice A i c∧f44_l1 k fs (fs.drop i) i=some r1)
  Tryz.func44 S5 hr4 rfl ⟨hHH.symm,hq3⟩ ?_ ?_ ?_ ?_ ?_
 ·rintro l o i x cs K6 H6 w6 hs6 S6 ⟨rfl,hl1⟩ hx hR
  refine wpIn_seq ?_
  refine regR0 rfl ?_
  refine alcC (z:=.agg #[.string ⟨#[]⟩,.slice none 0 0,.int .i64 0,.bool false,.int .i64 0,.slice none 0 0]) (cs:=#[.string ⟨#[]⟩,.slice none 0 0,.int .i64 0,.bool false,.int .i64 0,.slice none 0 0]) S6 (by kernel_rfl) rfl ?_
  intro w7 S7
  obtain ⟨x0,x1,x2,x3,x4,x5⟩:=x
  obtain ⟨A1,c1,A2,c2,rfl,hz,hra,hrb⟩:=RDFunc.open hR
  refine stoI (i:=0) (v:=.agg #[.string x0,.slice A1 x1.length c1,.int .i64 x2,.bool x3,.int .i64 x4,.slice A2 x5.length c2]) (cs':=#[.string x0,.slice A1 x1.length c1,.int .i64 x2,.bool x3,.int .i64 x4,.slice A2 x5.length c2]) S7 rfl (show SizeB Tryz.prog 38=some 6 by kernel_rfl) rfl rfl rfl rfl (Nat.le_of_ble_eq_true rfl) rfl ?_
  intro w8 S8
  refine wpList_nil (QLn0 ?_)
  refine thenN ?_
  refine regR0 rfl ?_
  refine asg (v:=.slice A i c) rfl ?_
  refine wpList_nil (QLn0 ?_)
  refine thenN ?_
  exact ⟨K6,_,_,rfl,hs6,S8.rot3,(zz w6),x0,x1,x2,x3,x4,x5,A1,c1,A2,c2,rfl,rfl,hz,hra,hrb,rfl,rfl,hl1⟩
 ·rintro l o i x K6 H6 σ1 w6 hs6 S6 ⟨bf,x0,x1,x2,x3,x4,x5,A1,c1,A2,c2,rfl,rfl,hz,hra,hrb,hσ4,hσ5,hl1⟩ hx
  have hlt:i < fs.length:=(List.getElem?_eq_some_iff.1 hx).1
  have hdr:fs.drop i=.mk x0 x1 x2 x3 x4 x5 :: fs.drop (i + 1):=by rw [List.drop_eq_getElem_cons hlt]; congr 1; exact (List.getElem?_eq_some_iff.1 hx).2
  rw [hdr] at hl1
  unfold f44_l1 at hl1
  obtain ⟨b,hqb,hl1⟩:=Option.bind_eq_some_iff.1 hl1
  refine wpIn_block ?_
  refine regR0 rfl ?_
  have hti:(fs.take i).length=i:=by simp; omega
  refine mv (v:=.slice A (fs.take i).length c) (by rw [hti]; exact hσ5) ?_
  refine mkf (us:=[]) (vs:=[.pointer (some ⟨bf,0,none⟩)]) rfl (by simp only [List.map]; exact congrArg (· :: []) hσ4) ?_
  have S7:=S6.rot3'
  refine clV (caps:=#[]) (vs:=[.slice A (fs.take i).length c,.func (.func 81) #[] #[.pointer (some ⟨bf,0,none⟩)]]) rfl (by kernel_rfl) rfl (h80 hqb (hG.mono (S4.sub.trans hs6)) ((hr4.take i).mono hs6 (fun _ _ h=>RDFunc.mono hs6 h)) hz hra hrb (S7.part [.box (zz wi) bf #[.string x0,.slice A1 x1.length c1,.int .i64 x2,.bool x3,.int .i64 x4,.slice A2 x5.length c2] 38] (List.Sublist.cons_cons _ (List.nil_sublist _)))) ?_
  rintro _ w8 ⟨K8,rfl,T8⟩
  have S8:=Sx.call (H1:=[_]) S7 T8
  refine unot (a:=b) rfl ?_
  obtain ⟨q4,hq4,hl1⟩:=Option.bind_eq_some_iff.1 hl1
  refine clP (caps:=#[]) (vs:=[.bool (!b),.int .i64 21]) rfl (by kernel_rfl) rfl (h58 hq4 (hG.mono ((S4.sub.trans hs6).trans T8.sub)) (S8.part [] (List.nil_sublist _))) ?_ ?_
  ·rintro _ w9 ⟨K9,rfl,rfl,T9⟩
   have S9:=Sx.call (H1:=[]) S8 T9
   refine wpList_nil (QLn0 ?_)
   refine blkN ?_
   exact ⟨K9,HH,(hs6.trans T8.sub).trans T9.sub,S9.drop (List.sublist_cons_self _ _),rfl,hl1⟩
  ·rintro _ w9 ⟨c9,K9,rfl,rfl,T9⟩
   have S9:=Sx.call (H1:=[]) S8 T9
   refine QLp0 ?_
   refine blkP ?_
   subst hHH
   exact ⟨rfl,_,rfl,K9,_,S9.sel [3],rfl,c9,(Option.some.inj hl1).symm,rfl⟩
 rotate_left
 ·rintro c' w6 K6 H6 hs6 S6 h; exact h.elim
 ·rintro v w6 K6 H6 S6 ⟨rfl,c6,rfl,rfl⟩
  refine blkP ?_
  refine thenP ?_
  refine leave_mark (A:=[]) (B:=[]) (by simp) S6 ?_
  intro w7 S7
  exact .inr ⟨_,rfl,c6,K6,(Option.some.inj h).symm,rfl,S7⟩
 rintro w6 K6 H6 hs6 S6 ⟨rfl,hl1⟩
 rw [List.drop_length] at hl1
 unfold f44_l1 at hl1
 obtain rfl:=Option.some.inj hl1
 dsimp only at h
 subst hHH
 refine blkN ?_
 refine thenN ?_
 obtain ⟨q5,hq5,h⟩:=Option.bind_eq_some_iff.1 h
 refine wpF_seq ?_
 refine wpF_of (regD rfl ?_)
 refine alcC (z:=.int .i64 0) (cs:=#[.int .i64 0]) S6 (by kernel_rfl) rfl ?_
 intro w7 S7
 refine stoI (i:=0) (v:=.int .i64 20) (cs':=#[.int .i64 20]) S7 rfl (show SizeB Tryz.prog 27=some 1 by kernel_rfl) rfl rfl rfl rfl (Nat.le_of_ble_eq_true rfl) rfl ?_
 intro w8 S8
 refine wpList_nil (QLn ?_)
 refine thenN ?_
 refine wpF_seq ?_
 refine wpF_of (wp_label ?_)
 refine thenN ?_
 refine wpF_seq ?_
 refine wpF_seq ?_
 refine wpF_of (regD rfl ?_)
 refine lbN (i:=3) (l:=[.slice A fs.length c]) S8 rfl (by kernel_rfl) (show SizeB Tryz.prog 24=some 1 by kernel_rfl) rfl rfl rfl ?_
 refine clV (caps:=#[]) (vs:=[.agg #[.slice A fs.length c]]) rfl (by kernel_rfl) rfl (heads_ok S8) ?_
 rintro _ w9 ⟨b9,rfl,S9⟩
 refine wpList_nil (QLn ?_)
 refine thenN ?_
 refine wpF_block ?_
 have hr6:tF K6 A c fs:=hr4.mono hs6 (fun _ _ h=>RDFunc.mono hs6 h)
 obtain ⟨HF,hHF⟩ : ∃ HF:Int→Ents,HF=fun x=>[.raw (zz wi) (zz w9) (.deferred (some [])),.box (zz wi) (zz w6) #[.int .i64 x] 27,.raw (zz wi) (zz w5) (.deferred (some [])),.box (zz wi) (zz w1) #[.slice none 0 0] 24,.box (zz wi) (zz wi) #[.slice A fs.length c] 24]:=⟨_,rfl⟩
 refine wpF_join (D':=[mark (zz w9),mark (zz w5)]) (A:=fun w10 K10=>K6.sub K10∧Sx K K10 wi w10 (fun b=>b ∈ Ents.blks []) (HF (f44_l2 fs))) ?_ (fun hgo=>?_)
 rotate_left
 refine wpF_heads (Pi:=fun i _ H'=>H'=HF 20∧f44_l2 fs=f44_l2 (fs.drop i)) (Px:=fun c' _ H'=>c'=.exit 2∧H'=HF (f44_l2 fs)) (Pp:=fun _ _ _=>False)
  (fun i x K1 H1 σ1=>∃ (bf:Nat) (x0:ByteArray) (x1:List DParam) (x2:Int) (x3:Bool) (x4:Int) (x5:List DStmt) (A1:Option Addr) (c1:Nat) (A2:Option Addr) (c2:Nat),x=.mk x0 x1 x2 x3 x4 x5∧H1=.box (zz wi) bf #[.string x0,.slice A1 x1.length c1,.int .i64 x2,.bool x3,.int .i64 x4,.slice A2 x5.length c2] 38 :: HF 20 ∧
   σ1 7=.pointer (some ⟨bf,0,none⟩)∧σ1 6=.pointer (some ⟨(zz w6),0,none⟩)∧f44_l2 fs=f44_l2 (fs.drop i))
  Tryz.func44 S9 hr6 rfl ⟨(by subst hHF; rfl),by rw [List.drop_zero]⟩ ?_ ?_ ?_ ?_ ?_
 ·rintro l o i x cs K10 H10 w10 hs10 S10 ⟨rfl,hl2⟩ hx hR
  refine regR0 rfl ?_
  refine alcC (z:=.agg #[.string ⟨#[]⟩,.slice none 0 0,.int .i64 0,.bool false,.int .i64 0,.slice none 0 0]) (cs:=#[.string ⟨#[]⟩,.slice none 0 0,.int .i64 0,.bool false,.int .i64 0,.slice none 0 0]) S10 (by kernel_rfl) rfl ?_
  intro w11 S11
  obtain ⟨x0,x1,x2,x3,x4,x5⟩:=x
  obtain ⟨A1,c1,A2,c2,rfl,hz,hra,hrb⟩:=RDFunc.open hR
  refine stoI (i:=0) (v:=.agg #[.string x0,.slice A1 x1.length c1,.int .i64 x2,.bool x3,.int .i64 x4,.slice A2 x5.length c2]) (cs':=#[.string x0,.slice A1 x1.length c1,.int .i64 x2,.bool x3,.int .i64 x4,.slice A2 x5.length c2]) S11 rfl (show SizeB Tryz.prog 38=some 6 by kernel_rfl) rfl rfl rfl rfl (Nat.le_of_ble_eq_true rfl) rfl ?_
  intro w12 S12
  refine wpList_nil (QLn0 ?_)
  refine thenN ?_
  exact ⟨K10,_,_,rfl,hs10,S12.rot3,(zz w10),x0,x1,x2,x3,x4,x5,A1,c1,A2,c2,rfl,rfl,rfl,rfl,hl2⟩
 ·rintro l o i x K10 H10 σ1 w10 hs10 S10 ⟨bf,x0,x1,x2,x3,x4,x5,A1,c1,A2,c2,rfl,rfl,hσ7,hσ6,hl2⟩ hx
  have hlt:i < fs.length:=(List.getElem?_eq_some_iff.1 hx).1
  have hdr:fs.drop i=.mk x0 x1 x2 x3 x4 x5 :: fs.drop (i + 1):=by rw [List.drop_eq_getElem_cons hlt]; congr 1; exact (List.getElem?_eq_some_iff.1 hx).2
  have hl3:f44_l2 fs=cond (!(seq x0 ⟨#[109,97,105,110]⟩)) (f44_l2 (fs.drop (i + 1))) (cond x3 25 (cond (decide ((x1.length:Int) > 0)) 24 0)):=by rw [hl2,hdr]; rfl
  clear hl2
  have hdropx : ∀ {K:KH} {w:World} {a b x:Ent} {H:Ents},Sx K K10 wi w (fun b=>b ∈ Ents.blks []) (a :: b :: x :: H)→Sx K K10 wi w (fun b=>b ∈ Ents.blks []) (a :: b :: H):=fun S=>S.drop (List.Sublist.cons_cons _ (List.Sublist.cons_cons _ (List.sublist_cons_self _ _)))
  refine wpIn_block ?_
  refine wpIn_seq ?_
  refine wpIn_seq ?_
  refine regR0 rfl ?_
  refine fld (s:=38) (f:=0) (off:=0) (o':=0) (by kernel_rfl) hσ7 rfl ?_
  refine lb1 (i:=2) (v:=.string x0) S10 rfl (by kernel_rfl) rfl rfl ?_
  refine bsc (r:=!(seq x0 ⟨#[109,97,105,110]⟩)) rfl rfl rfl ?_
  refine wpList_nil (QLn0 ?_)
  refine thenN ?_
  rcases hmain:seq x0 ⟨#[109,97,105,110]⟩ with _ | _
  ·rw [hmain] at hl3
   refine cndTI rfl ?_
   refine wpIn_exit ?_
   refine thenX ?_
   refine blkX ?_
   exact ⟨K10,_,hs10,hdropx S10,rfl,hl3⟩
  ·rw [hmain] at hl3
   refine cndFI rfl ?_
   refine wpIn_skip ?_
   refine thenN ?_
   refine wpIn_seq ?_
   subst hHF
   refine wpIn_block ?_
   refine wpIn_seq ?_
   refine regR0 rfl ?_
   refine fld (s:=38) (f:=3) (off:=3) (o':=3) (by kernel_rfl) hσ7 rfl ?_
   refine lb1 (i:=2) (v:=.bool x3) S10 rfl (by kernel_rfl) rfl rfl ?_
   refine asg (v:=.bool x3) rfl ?_
   refine wpList_nil (QLn0 ?_)
   refine thenN ?_
   rcases x3 with _ | _
   ·refine cndFI rfl ?_
    refine wpIn_seq ?_
    refine regR0 rfl ?_
    refine fld (s:=38) (f:=1) (off:=1) (o':=1) (by kernel_rfl) hσ7 rfl ?_
    refine lb1 (i:=2) (v:=.slice A1 x1.length c1) S10 rfl (by kernel_rfl) rfl rfl ?_
    refine lnS (len:=x1.length) (e:=82) (by kernel_rfl) rfl ?_
    refine bcm (r:=decide ((x1.length:Int) > 0)) rfl rfl rfl ?_
    refine asg (v:=.bool (decide ((x1.length:Int) > 0))) rfl ?_
    refine wpList_nil (QLn0 ?_)
    refine thenN ?_
    rcases hd:decide ((x1.length:Int) > 0) with _ | _
    ·rw [hd] at hl3
     refine cndFI rfl ?_
     refine regR0 rfl ?_
     refine stoI (i:=4) (v:=.int .i64 0) (cs':=#[.int .i64 0]) S10 rfl (show SizeB Tryz.prog 27=some 1 by kernel_rfl) hσ6 rfl rfl rfl (Nat.le_of_ble_eq_true rfl) rfl ?_
     intro w11 S11
     refine wpList_nil (QLn0 ?_)
     refine blkN ?_
     refine thenN ?_
     refine wpIn_exit ?_
     refine blkO (by decide) ?_
     exact ⟨K10,_,hs10,hdropx S11,rfl,by rw [hl3]; rfl⟩
    ·rw [hd] at hl3
     refine cndTI rfl ?_
     refine regR0 rfl ?_
     refine stoI (i:=4) (v:=.int .i64 24) (cs':=#[.int .i64 24]) S10 rfl (show SizeB Tryz.prog 27=some 1 by kernel_rfl) hσ6 rfl rfl rfl (Nat.le_of_ble_eq_true rfl) rfl ?_
     intro w11 S11
     refine wpList_nil (QLn0 ?_)
     refine blkN ?_
     refine thenN ?_
     refine wpIn_exit ?_
     refine blkO (by decide) ?_
     exact ⟨K10,_,hs10,hdropx S11,rfl,by rw [hl3]; rfl⟩
   ·refine cndTI rfl ?_
    refine regR0 rfl ?_
    refine stoI (i:=4) (v:=.int .i64 25) (cs':=#[.int .i64 25]) S10 rfl (show SizeB Tryz.prog 27=some 1 by kernel_rfl) hσ6 rfl rfl rfl (Nat.le_of_ble_eq_true rfl) rfl ?_
    intro w11 S11
    refine wpList_nil (QLn0 ?_)
    refine blkN ?_
    refine thenN ?_
    refine wpIn_exit ?_
    refine blkO (by decide) ?_
    exact ⟨K10,_,hs10,hdropx S11,rfl,by rw [hl3]; rfl⟩
 ·rintro w10 K10 H10 hs10 S10 ⟨rfl,hl2⟩
  refine hgo w10 K10 ⟨hs10,?_⟩
  rw [hl2,List.drop_length]
  exact S10
 ·rintro c' w10 K10 H10 hs10 S10 ⟨rfl,rfl⟩
  refine wpF_of (wp_exit ?_)
  refine blkX ?_
  exact hgo w10 K10 ⟨hs10,S10⟩
 ·rintro v w10 K10 H10 S10 h; exact h.elim
 rintro w10 K10 ⟨hs10,S10⟩
 subst hHF
 obtain ⟨y,hy⟩ : ∃ y,y=f44_l2 fs:=⟨_,rfl⟩
 rw [← hy] at hq5 S10
 have hs410:=hs6.trans hs10
 refine wpF_seq ?_
 refine wpF_of (regD rfl ?_)
 refine lb1 (i:=1) (v:=.int .i64 y) S10 rfl (by kernel_rfl) rfl rfl ?_
 refine bcm (r:=decide (y=0)) rfl rfl rfl ?_
 refine lb1 (i:=1) (v:=.int .i64 y) S10 rfl (by kernel_rfl) rfl rfl ?_
 refine clP (caps:=#[]) (vs:=[.bool (decide (y=0)),.int .i64 y]) rfl (by kernel_rfl) rfl (h58 hq5 (hG.mono (S4.sub.trans hs410)) (S10.part [] (List.nil_sublist _))) ?_ ?_
 rotate_left
 ·rintro _ w11 ⟨c11,K11,rfl,rfl,T11⟩
  have S11:=Sx.call (H1:=[]) S10 T11
  refine QLp ?_
  refine thenP ?_
  refine leave_mark (A:=[]) (by simp) S11 ?_
  intro w12 S12
  refine leave_mark (A:=[_]) (by simp) S12 ?_
  intro w13 S13
  exact .inr ⟨_,rfl,c11,K11,(Option.some.inj h).symm,rfl,S13.sel []⟩
 rintro _ w11 ⟨K11,rfl,rfl,T11⟩
 have S11:=Sx.call (H1:=[]) S10 T11
 dsimp only at h
 have hs411:=hs410.trans T11.sub
 refine wpList_nil (QLn ?_)
 refine thenN ?_
 refine wpF_seq ?_
 refine wpF_of (regD rfl ?_)
 refine alcC (z:=.agg #[.slice none 0 0]) (cs:=#[.slice none 0 0]) S11 (by kernel_rfl) rfl ?_
 intro w12 S12
 refine wpList_nil (QLn ?_)
 refine thenN ?_
 refine wpF_seq ?_
 refine wpF_of (regD rfl ?_)
 refine alcC (z:=.slice none 0 0) (cs:=#[.slice none 0 0]) S12 (by kernel_rfl) rfl ?_
 intro w13 S13
 refine wpList_nil (QLn ?_)
 refine thenN ?_
 refine wpF_seq ?_
 refine wpF_seq ?_
 refine wpF_of (regD rfl ?_)
 have S14:=(S13.row_ (zz wi) 38 6).row_ (zz wi) 46 1
 refine lbN (i:=8) (l:=[.slice A fs.length c]) S14 rfl (by kernel_rfl) (show SizeB Tryz.prog 24=some 1 by kernel_rfl) rfl rfl rfl ?_
 refine clV (caps:=#[]) (vs:=[.agg #[.slice A fs.length c]]) rfl (by kernel_rfl) rfl (heads_ok S14) ?_
 rintro _ w15 ⟨b15,rfl,S15⟩
 refine wpList_nil (QLn ?_)
 refine thenN ?_
 refine wpF_block ?_
 have hr11:tF K11 A c fs:=hr4.mono hs411 (fun _ _ h=>RDFunc.mono hs411 h)
 have hlen:=hr11.len
 obtain ⟨HT,hHT⟩ : ∃ HT:List DFunc→Option Addr→Nat→List Value→List (List ByteArray)→Option Addr→Nat→List Value→Ents,HT=fun out A' c' ys' nms A'' c'' ys''=>[.raw (zz wi) (zz w15) (.deferred (some [])),.row (zz wi) (.slice A'' nms.length c'') 46 1 nms.length ys'',.row (zz wi) (.slice A' out.length c') 38 6 out.length ys',
  .box (zz wi) (zz w12) #[.slice A'' nms.length c''] 73,.box (zz wi) (zz w11) #[.slice A' out.length c'] 24,.raw (zz wi) (zz w9) (.deferred (some [])),.box (zz wi) (zz w6) #[.int .i64 y] 27,.raw (zz wi) (zz w5) (.deferred (some [])),.box (zz wi) (zz w1) #[.slice none 0 0] 24,.box (zz wi) (zz wi) #[.slice A fs.length c] 24]:=⟨_,rfl⟩
 refine wpF_heads (Pi:=fun i K' H'=>∃ out A' c' ys' nms A'' c'' ys'',out.length=i∧nms.length=i∧H'=HT out A' c' ys' nms A'' c'' ys''∧Reps (RDFunc K') 6 out ys'∧Reps (RSlE ByteArray (fun K=>RStr) 1 16 K') 1 nms ys''∧f44_l3 k (.mk fs) (fs.drop i) out nms=some res_) (Px:=fun _ _ _=>False)
  (Pp:=fun v _ H'=>H'=[.raw (zz wi) (zz w15) (.deferred (some [])),.raw (zz wi) (zz w9) (.deferred (some [])),.raw (zz wi) (zz w5) (.deferred (some []))]∧∃ c,res_=.error c∧v=.iface 109 (.agg #[.int .i64 c]))
  (fun i x K1 H1 σ1=>∃ (bf:Nat) (x0:ByteArray) (x1:List DParam) (x2:Int) (x3:Bool) (x4:Int) (x5:List DStmt) (A1:Option Addr) (c1:Nat) (A2:Option Addr) (c2:Nat) (out:List DFunc) (A' : Option Addr) (c' : Nat) (ys' : List Value) (nms:List (List ByteArray)) (A'' : Option Addr) (c'' : Nat) (ys'' : List Value),x=.mk x0 x1 x2 x3 x4 x5∧H1=.box (zz wi) bf #[.string x0,.slice A1 x1.length c1,.int .i64 x2,.bool x3,.int .i64 x4,.slice A2 x5.length c2] 38 :: HT out A' c' ys' nms A'' c'' ys'' ∧
   out.length=i∧nms.length=i∧Reps (RDFunc K1) 6 out ys'∧Reps (RSlE ByteArray (fun K=>RStr) 1 16 K1) 1 nms ys''∧f44_l3 k (.mk fs) (fs.drop i) out nms=some res_ ∧
   x0.size≤mB∧tP K1 A1 c1 x1∧tS K1 A2 c2 x5∧σ1 10=.pointer (some ⟨bf,0,none⟩)∧σ1 1=.pointer (some ⟨(zz wi),0,none⟩)∧σ1 8=.pointer (some ⟨(zz w11),0,none⟩)∧σ1 9=.pointer (some ⟨(zz w12),0,none⟩))
  Tryz.func44 S15 hr11 rfl ⟨[],none,0,[],[],none,0,[],rfl,rfl,(by subst hHT; rfl),reps0,reps0,h⟩ ?_ ?_ ?_ ?_ ?_
 ·rintro l o i x cs K16 H16 w16 hs16 S16 ⟨out,A',c',ys',nms,A'',c'',ys'',ho,hn,rfl,hro,hrn,hl3⟩ hx hR
  refine regR0 rfl ?_
  refine alcC (z:=.agg #[.string ⟨#[]⟩,.slice none 0 0,.int .i64 0,.bool false,.int .i64 0,.slice none 0 0]) (cs:=#[.string ⟨#[]⟩,.slice none 0 0,.int .i64 0,.bool false,.int .i64 0,.slice none 0 0]) S16 (by kernel_rfl) rfl ?_
  intro w17 S17
  obtain ⟨x0,x1,x2,x3,x4,x5⟩:=x
  obtain ⟨A1,c1,A2,c2,rfl,hz,hra,hrb⟩:=RDFunc.open hR
  refine stoI (i:=0) (v:=.agg #[.string x0,.slice A1 x1.length c1,.int .i64 x2,.bool x3,.int .i64 x4,.slice A2 x5.length c2]) (cs':=#[.string x0,.slice A1 x1.length c1,.int .i64 x2,.bool x3,.int .i64 x4,.slice A2 x5.length c2]) S17 rfl (show SizeB Tryz.prog 38=some 6 by kernel_rfl) rfl rfl rfl rfl (Nat.le_of_ble_eq_true rfl) rfl ?_
  intro w18 S18
  refine wpList_nil (QLn0 ?_)
  refine thenN ?_
  exact ⟨K16,_,_,rfl,hs16,S18.rot3,(zz w16),x0,x1,x2,x3,x4,x5,A1,c1,A2,c2,out,A',c',ys',nms,A'',c'',ys'',rfl,rfl,ho,hn,hro,hrn,hl3,hz,hra,hrb,rfl,rfl,rfl,rfl⟩
 ·rintro l o i x K16 H16 σ1 w16 hs16 S16 ⟨bf,x0,x1,x2,x3,x4,x5,A1,c1,A2,c2,out,A',c',ys',nms,A'',c'',ys'',rfl,rfl,ho,hn,hro,hrn,hl3,hz,hra,hrb,hσ10,hσ1,hσ8,hσ9⟩ hx
  have hlt:i < fs.length:=(List.getElem?_eq_some_iff.1 hx).1
  have hdr:fs.drop i=.mk x0 x1 x2 x3 x4 x5 :: fs.drop (i + 1):=by rw [List.drop_eq_getElem_cons hlt]; congr 1; exact (List.getElem?_eq_some_iff.1 hx).2
  rw [hdr] at hl3
  unfold f44_l3 at hl3
  obtain ⟨q17,hq17,hl3⟩:=Option.bind_eq_some_iff.1 hl3
  have hs1116:=hs411.trans hs16
  subst hHT
  refine wpIn_block ?_
  refine wpIn_seq ?_
  refine regR0 rfl ?_
  refine lbN (i:=12) (l:=[.slice A fs.length c]) S16 rfl (by kernel_rfl) (show SizeB Tryz.prog 24=some 1 by kernel_rfl) hσ1 rfl rfl ?_
  refine lbN (i:=2) (l:=[.string x0,.slice A1 x1.length c1,.int .i64 x2,.bool x3,.int .i64 x4,.slice A2 x5.length c2]) S16 rfl (by kernel_rfl) (show SizeB Tryz.prog 38=some 6 by kernel_rfl) hσ10 rfl rfl ?_
  refine clP (caps:=#[]) (vs:=[.agg #[.slice A fs.length c],.agg #[.string x0,.slice A1 x1.length c1,.int .i64 x2,.bool x3,.int .i64 x4,.slice A2 x5.length c2]]) rfl (by kernel_rfl) rfl
   (h82 hq17 (hG.mono (S4.sub.trans hs1116)) (RDProgram.intro (hr4.mono hs1116 (fun _ _ h=>RDFunc.mono hs1116 h))) (RDFunc.intro hz hra hrb) (S16.part [] (List.nil_sublist _))) ?_ ?_
  rotate_left
  ·rintro _ w17 ⟨c17,K17,rfl,rfl,T17⟩
   have S17:=Sx.call (H1:=[]) S16 T17
   refine QLp0 ?_
   refine thenP ?_
   refine blkP ?_
   exact ⟨rfl,_,rfl,K17,_,S17.sel [3,8,10] (by decide),rfl,c17,(Option.some.inj hl3).symm,rfl⟩
  rintro _ w17 ⟨g,ln,K17,csg,Al,cl,rfl,rfl,T17,hrg,hrl⟩
  have S17:=Sx.call (H1:=[]) S16 T17
  dsimp only at hl3
  obtain ⟨g0,g1,g2,g3,g4,g5⟩:=g
  obtain ⟨Ag1,cg1,Ag2,cg2,rfl,hzg,hrg1,hrg2⟩:=RDFunc.open hrg
  refine mv (v:=.tuple #[.agg #[.string g0,.slice Ag1 g1.length cg1,.int .i64 g2,.bool g3,.int .i64 g4,.slice Ag2 g5.length cg2],.slice Al ln.length cl]) rfl ?_
  refine ext (v:=.agg #[.string g0,.slice Ag1 g1.length cg1,.int .i64 g2,.bool g3,.int .i64 g4,.slice Ag2 g5.length cg2]) rfl rfl ?_
  refine ext (v:=.slice Al ln.length cl) rfl rfl ?_
  refine alcC (z:=.agg #[.string ⟨#[]⟩,.slice none 0 0,.int .i64 0,.bool false,.int .i64 0,.slice none 0 0]) (cs:=#[.string ⟨#[]⟩,.slice none 0 0,.int .i64 0,.bool false,.int .i64 0,.slice none 0 0]) S17 (by kernel_rfl) rfl ?_
  intro w18 S18
  refine stoI (i:=0) (v:=.agg #[.string g0,.slice Ag1 g1.length cg1,.int .i64 g2,.bool g3,.int .i64 g4,.slice Ag2 g5.length cg2]) (cs':=#[.string g0,.slice Ag1 g1.length cg1,.int .i64 g2,.bool g3,.int .i64 g4,.slice Ag2 g5.length cg2]) S18 rfl (show SizeB Tryz.prog 38=some 6 by kernel_rfl) rfl rfl rfl rfl (Nat.le_of_ble_eq_true rfl) rfl ?_
  intro w19 S19
  refine asg (v:=.slice Al ln.length cl) rfl ?_
  refine wpList_nil (QLn0 ?_)
  refine thenN ?_
  refine wpIn_seq ?_
  refine regR0 rfl ?_
  refine fld (s:=24) (f:=0) (off:=0) (o':=0) (by kernel_rfl) hσ8 rfl ?_
  refine lb1 (i:=8) (v:=.slice A' out.length c') S19 rfl (by kernel_rfl) rfl rfl ?_
  refine lbN (i:=0) (l:=[.string g0,.slice Ag1 g1.length cg1,.int .i64 g2,.bool g3,.int .i64 g4,.slice Ag2 g5.length cg2]) S19 rfl (by kernel_rfl) (show SizeB Tryz.prog 38=some 6 by kernel_rfl) rfl rfl rfl ?_
  refine bsl (e:=38) (cells:=#[.string g0,.slice Ag1 g1.length cg1,.int .i64 g2,.bool g3,.int .i64 g4,.slice Ag2 g5.length cg2]) (vs:=[(0,.agg #[.string g0,.slice Ag1 g1.length cg1,.int .i64 g2,.bool g3,.int .i64 g4,.slice Ag2 g5.length cg2])]) S19 rfl
   (buildSl_one (show ElemB Tryz.prog 22=some 38 by kernel_rfl) (show SizeB Tryz.prog 38=some 6 by kernel_rfl) (show ZeroB Tryz.prog 38=some (.agg #[.string ⟨#[]⟩,.slice none 0 0,.int .i64 0,.bool false,.int .i64 0,.slice none 0 0]) by kernel_rfl) rfl (by decide) (by decide) rfl) ?_
  intro w20 S20
  refine apR (R:=(RDFunc K17)) (p:=(DFunc.mk g0 g1 g2 g3 g4 g5)) (i:=7) (j:=0) (bytes:=88) S20 rfl rfl (show ElemB Tryz.prog 22=some 38 by kernel_rfl) (show (Tryz.prog.info? 38).map (fun i=>(i.zero,i.size,i.bytes))=some (some (.agg #[.string ⟨#[]⟩,.slice none 0 0,.int .i64 0,.bool false,.int .i64 0,.slice none 0 0]),6,88) by kernel_rfl) rfl (by decide) rfl rfl
   (hro.mono (fun _ _ h=>RDFunc.mono T17.sub h)) (RDFunc.intro hzg hrg1 hrg2) rfl rfl (Nat.le_refl _) (by omega) (by decide) ?_
  intro A21 c21 ys21 w21 S21 hr21
  refine fld (s:=24) (f:=0) (off:=0) (o':=0) (by kernel_rfl) hσ8 rfl ?_
  refine stoI (i:=9) (v:=.slice A21 (out ++ [DFunc.mk g0 g1 g2 g3 g4 g5]).length c21) (cs':=#[.slice A21 (out ++ [DFunc.mk g0 g1 g2 g3 g4 g5]).length c21]) S21 rfl (show SizeB Tryz.prog 22=some 1 by kernel_rfl) rfl rfl rfl rfl (Nat.le_of_ble_eq_true rfl) rfl ?_
  intro w22 S22
  refine wpList_nil (QLn0 ?_)
  refine thenN ?_
  have S23:Sx K K17 wi w22 (fun b=>b ∈ Ents.blks []) [.raw (zz wi) l (.loop o),.box (zz wi) b15 #[.slice A fs.length c] 24,.raw (zz wi) (zz w15) (.deferred (some [])),.row (zz wi) (.slice A'' nms.length c'') 46 1 nms.length ys'',.row (zz wi) (.slice A21 (out ++ [DFunc.mk g0 g1 g2 g3 g4 g5]).length c21) 38 6 (out ++ [DFunc.mk g0 g1 g2 g3 g4 g5]).length ys21,
   .box (zz wi) (zz w12) #[.slice A'' nms.length c''] 73,.box (zz wi) (zz w11) #[.slice A21 (out ++ [DFunc.mk g0 g1 g2 g3 g4 g5]).length c21] 24,.raw (zz wi) (zz w9) (.deferred (some [])),.box (zz wi) (zz w6) #[.int .i64 y] 27,.raw (zz wi) (zz w5) (.deferred (some [])),.box (zz wi) (zz w1) #[.slice none 0 0] 24,.box (zz wi) (zz wi) #[.slice A fs.length c] 24]:=S22.sel [2,3,5,6,7,8,9,10,11,12,13,14] (by decide)
  refine regR0 rfl ?_
  refine lb1 (i:=5) (v:=.slice A'' nms.length c'') S23 rfl (by kernel_rfl) hσ9 rfl ?_
  refine mv (v:=.slice Al ln.length cl) rfl ?_
  refine bsl (e:=46) (cells:=#[.slice Al ln.length cl]) (vs:=[(0,.slice Al ln.length cl)]) S23 rfl
   (buildSl_one (show ElemB Tryz.prog 73=some 46 by kernel_rfl) (show SizeB Tryz.prog 46=some 1 by kernel_rfl) (show ZeroB Tryz.prog 46=some (.slice none 0 0) by kernel_rfl) rfl (by decide) (by decide) rfl) ?_
  intro w24 S24
  refine apR (R:=(RSlE ByteArray (fun K=>RStr) 1 16 K17)) (p:=ln) (i:=4) (j:=0) (bytes:=24) S24 rfl rfl (show ElemB Tryz.prog 73=some 46 by kernel_rfl) (show (Tryz.prog.info? 46).map (fun i=>(i.zero,i.size,i.bytes))=some (some (.slice none 0 0),1,24) by kernel_rfl) rfl (by decide) rfl rfl
   (hrn.mono (fun _ _ h=>RSlE.mono (fun _ _ _ h=>h) T17.sub h)) ⟨Al,cl,rfl,hrl⟩ rfl rfl (Nat.le_refl _) (by omega) (by decide) ?_
  intro A25 c25 ys25 w25 S25 hr25
  refine stoI (i:=6) (v:=.slice A25 (nms ++ [ln]).length c25) (cs':=#[.slice A25 (nms ++ [ln]).length c25]) S25 rfl (show SizeB Tryz.prog 73=some 1 by kernel_rfl) hσ9 rfl rfl rfl (Nat.le_of_ble_eq_true rfl) rfl ?_
  intro w26 S26
  refine wpList_nil (QLn0 ?_)
  refine blkN ?_
  exact ⟨K17,_,hs16.trans T17.sub,S26.sel [1,2,3,4,5,6,7,8,9,10,11,12] (by decide),out ++ [DFunc.mk g0 g1 g2 g3 g4 g5],A21,c21,ys21,nms ++ [ln],A25,c25,ys25,by simp [ho],by simp [hn],rfl,hr21,hr25,hl3⟩
 rotate_left
 ·rintro c' w16 K16 H16 hs16 S16 h; exact h.elim
 ·rintro v w16 K16 H16 S16 ⟨rfl,c16,rfl,rfl⟩
  refine blkP ?_
  refine thenP ?_
  refine leave_mark (A:=[]) (by simp) S16 ?_
  intro w17 S17
  refine leave_mark (A:=[]) (by simp) S17 ?_
  intro w18 S18
  refine leave_mark (A:=[]) (B:=[]) (by simp) S18 ?_
  intro w19 S19
  exact .inr ⟨_,rfl,c16,K16,rfl,rfl,S19⟩
 rintro w16 K16 H16 hs16 S16 ⟨out,A',c',ys',nms,A'',c'',ys'',ho,hn,rfl,hro,hrn,hl3⟩
 rw [List.drop_length] at hl3
 unfold f44_l3 at hl3
 obtain rfl:=Option.some.inj hl3
 subst hHT
 refine blkN ?_
 refine thenN ?_
 have S17:=S16.drew
 have hfin : ∀ (R:Ending→World→Prop) (w' : World) (σ' : Nat→Value),Sx K K16 wi w' (fun b=>b ∈ Ents.blks []) [.raw (zz wi) (zz w15) (.deferred (some [])),.row (zz wi) (.slice A'' nms.length c'') 46 1 nms.length ys'',.row (zz wi) (.slice A' out.length c') 38 6 out.length ys',
   .box (zz wi) (zz w12) #[.slice A'' nms.length c''] 73,.box (zz wi) (zz w11) #[.slice A' out.length c'] 24,.raw (zz wi) (zz w9) (.deferred (some [])),.box (zz wi) (zz w6) #[.int .i64 y] 27,.raw (zz wi) (zz w5) (.deferred (some [])),.box (zz wi) (zz w1) #[.slice A' out.length c'] 24,.box (zz wi) (zz wi) #[.slice A fs.length c] 24] →
   ev 66 σ' (.tmp 2)=.pointer (some ⟨(zz w1),0,none⟩)→ev 66 σ' (.tmp 3)=.slice A'' nms.length c'' →
   (∀ w'' K'',K16.sub K''→tF K'' A' c' out→RSl (List ByteArray) (RSlE ByteArray (fun K=>RStr) 1 16 K'') 1 24 K'' A'' c'' nms→Sx K K'' wi w'' (fun b=>b ∈ Ents.blks []) []→R (.returned (.tuple #[.agg #[.slice A' out.length c'],.slice A'' nms.length c''])) w'') →
   LeavesInM Fence.wide 0 Tryz.prog Tryz.f44 (fr 66 σ').tmps R [mark (zz w15),mark (zz w9),mark (zz w5)] .returning w':=by
  intro R w' σ' S h2 h3 hR
  obtain ⟨K18,S18,hs18,hr18⟩:=shutI (i:=1) (bytes:=24) (R:=fun K=>RSlE ByteArray (fun K=>RStr) 1 16 K) S rfl (Nat.le_refl _) hrn (by rw [hn]; omega) (fun hs _ _ h=>RSlE.mono (fun _ _ _ h=>h) hs h)
  obtain ⟨K19,S19,hs19,hr19⟩:=shutI (i:=1) (bytes:=88) (R:=fun K=>RDFunc K) S18 rfl (Nat.le_refl _) (hro.mono (fun _ _ h=>RDFunc.mono hs18 h)) (by rw [ho]; omega) (fun hs _ _ h=>RDFunc.mono hs h)
  have S20:Sx K K19 wi w' (fun b=>b ∈ Ents.blks []) ([] ++ .raw (zz wi) (zz w15) (.deferred (some [])) :: [.raw (zz wi) (zz w9) (.deferred (some [])),.raw (zz wi) (zz w5) (.deferred (some [])),.box (zz wi) (zz w1) #[.slice A' out.length c'] 24]):=S19.sel [0,3,5,6] (by decide)
  refine leave_mark (by simp) S20 ?_
  intro w21 S21
  refine leave_mark (A:=[]) (by simp) S21 ?_
  intro w22 S22
  refine leave_mark (A:=[]) (by simp) S22 ?_
  intro w23 S23
  exact ⟨_,run_resA2 rfl (resN (i:=0) (l:=[.slice A' out.length c']) S23 rfl (by kernel_rfl) (show SizeB Tryz.prog 24=some 1 by kernel_rfl) h2 rfl rfl) (resT h3),hR w23 K19 (hs18.trans hs19) hr19 (hr18.mono hs19 (fun _ _ h=>RSlE.mono (fun _ _ _ h=>h) hs19 h)) (S23.sel [])⟩
 refine wpF_seq ?_
 refine wpF_of ((wpIn_wide (n:=0)).1 (regAnyR (ro:=none) (E:=[]) (F:=fun _=>True) (by kernel_rfl) rfl rfl rfl ?_))
 refine anyAll (rs:=[0,1]) (by kernel_rfl) (by decide) (allC ?_ (allC ?_ allN))
 ·refine opL (i:=0) rfl ?_
  refine lbN (i:=4) (l:=[.slice A' out.length c']) S17 rfl (by kernel_rfl) (show SizeB Tryz.prog 24=some 1 by kernel_rfl) rfl rfl rfl ?_
  refine wpList_nil ?_
  refine thenN ?_
  refine ⟨fun _=>trivial,?_⟩
  refine anyAll (rs:=[1,2]) (by kernel_rfl) (by decide) (allC ?_ (allC ?_ allN))
  ·refine opL (i:=1) rfl ?_
   refine lb1 (i:=3) (v:=.slice A'' nms.length c'') S17 rfl (by kernel_rfl) rfl rfl ?_
   refine wpList_nil ?_
   refine thenN ?_
   refine ⟨fun _=>trivial,?_⟩
   refine anyAll (rs:=[2]) (by kernel_rfl) (by decide) (allC ?_ allN)
   refine opL (i:=2) rfl ?_
   refine stoI (i:=8) (v:=.agg #[.slice A' out.length c']) (cs':=#[.slice A' out.length c']) S17 rfl (show SizeB Tryz.prog 24=some 1 by kernel_rfl) rfl rfl rfl rfl (Nat.le_of_ble_eq_true rfl) rfl ?_
   intro w18 S18
   refine wpList_nil ?_
   refine thenN ?_
   refine ⟨fun _=>trivial,?_⟩
   refine anyAll (rs:=[3]) (by kernel_rfl) (by decide) (allC ?_ allN)
   refine opL (i:=3) rfl ?_
   refine asg (v:=.slice A'' nms.length c'') rfl ?_
   refine wpList_nil ?_
   refine thenN ?_
   refine ⟨fun _=>trivial,?_⟩
   refine anyDone (by kernel_rfl) (QLn ?_)
   refine thenN ?_
   refine wpF_of (wp_ret ?_)
   exact hfin _ _ _ S18 rfl rfl (fun w' K' hs hr1 hr2 S'=>.inl ⟨_,rfl,.mk out,nms,K',[.slice A' out.length c'],A'',c'',rfl,rfl,S',RDProgram.intro hr1,hr2⟩)
  ·refine opL (i:=2) rfl ?_
   refine stoI (i:=8) (v:=.agg #[.slice A' out.length c']) (cs':=#[.slice A' out.length c']) S17 rfl (show SizeB Tryz.prog 24=some 1 by kernel_rfl) rfl rfl rfl rfl (Nat.le_of_ble_eq_true rfl) rfl ?_
   intro w18 S18
   refine wpList_nil ?_
   refine thenN ?_
   refine ⟨fun _=>trivial,?_⟩
   refine anyAll (rs:=[1]) (by kernel_rfl) (by decide) (allC ?_ allN)
   refine opL (i:=1) rfl ?_
   refine lb1 (i:=3) (v:=.slice A'' nms.length c'') S18 rfl (by kernel_rfl) rfl rfl ?_
   refine wpList_nil ?_
   refine thenN ?_
   refine ⟨fun _=>trivial,?_⟩
   refine anyAll (rs:=[3]) (by kernel_rfl) (by decide) (allC ?_ allN)
   refine opL (i:=3) rfl ?_
   refine asg (v:=.slice A'' nms.length c'') rfl ?_
   refine wpList_nil ?_
   refine thenN ?_
   refine ⟨fun _=>trivial,?_⟩
   refine anyDone (by kernel_rfl) (QLn ?_)
   refine thenN ?_
   refine wpF_of (wp_ret ?_)
   exact hfin _ _ _ S18 rfl rfl (fun w' K' hs hr1 hr2 S'=>.inl ⟨_,rfl,.mk out,nms,K',[.slice A' out.length c'],A'',c'',rfl,rfl,S',RDProgram.intro hr1,hr2⟩)
 ·refine opL (i:=1) rfl ?_
  refine lb1 (i:=3) (v:=.slice A'' nms.length c'') S17 rfl (by kernel_rfl) rfl rfl ?_
  refine wpList_nil ?_
  refine thenN ?_
  refine ⟨fun _=>trivial,?_⟩
  refine anyAll (rs:=[0]) (by kernel_rfl) (by decide) (allC ?_ allN)
  refine opL (i:=0) rfl ?_
  refine lbN (i:=4) (l:=[.slice A' out.length c']) S17 rfl (by kernel_rfl) (show SizeB Tryz.prog 24=some 1 by kernel_rfl) rfl rfl rfl ?_
  refine wpList_nil ?_
  refine thenN ?_
  refine ⟨fun _=>trivial,?_⟩
  refine anyAll (rs:=[2]) (by kernel_rfl) (by decide) (allC ?_ allN)
  refine opL (i:=2) rfl ?_
  refine stoI (i:=8) (v:=.agg #[.slice A' out.length c']) (cs':=#[.slice A' out.length c']) S17 rfl (show SizeB Tryz.prog 24=some 1 by kernel_rfl) rfl rfl rfl rfl (Nat.le_of_ble_eq_true rfl) rfl ?_
  intro w18 S18
  refine wpList_nil ?_
  refine thenN ?_
  refine ⟨fun _=>trivial,?_⟩
  refine anyAll (rs:=[3]) (by kernel_rfl) (by decide) (allC ?_ allN)
  refine opL (i:=3) rfl ?_
  refine asg (v:=.slice A'' nms.length c'') rfl ?_
  refine wpList_nil ?_
  refine thenN ?_
  refine ⟨fun _=>trivial,?_⟩
  refine anyDone (by kernel_rfl) (QLn ?_)
  refine thenN ?_
  refine wpF_of (wp_ret ?_)
  exact hfin _ _ _ S18 rfl rfl (fun w' K' hs hr1 hr2 S'=>.inl ⟨_,rfl,.mk out,nms,K',[.slice A' out.length c'],A'',c'',rfl,rfl,S',RDProgram.intro hr1,hr2⟩)
theorem f44_ok (k:Nat):f44_spec (f44 k):=f44_body k (f78_ok k) (f58_ok k) (f1008056_ok k) (f82_ok k)
theorem f1004304_b_ok (k:Nat):f1004304_spec (f1004304_b k):=by
 unfold f1004304_spec
 intro K wi g bs e f i gA bsA sA_0 AsA_0 csA_0 r_ h hG j hsA_0 d
 refine enter Tryz.func43 rfl (n:=7) rfl ?_
 unfold f1004304_b at h
 refine wp_region_lit (lN 0 ([sl f e i]) d Tya24 Tys24 ?_)
 obtain ⟨B,q,h⟩:=ob h
 refine cp ([.agg #[sl f e i]]) Tyb44 ((f44_ok k) _ _ _ _ _ q (hG.mono kr) (RDProgram.intro j) (pt d)) ?_ ?_
 ·rintro _ C ⟨⟨a⟩,l,r,D,m,o,rfl,rfl,p,s,G⟩
  have t:=ca p d
  obtain ⟨b,c,rfl,u⟩:=RDProgram.open s
  exact m1 (.tuple #[.agg #[sl b a c],sl m l o]) (ext (v:=.agg #[sl b a c]) rfl rfl (ext (v:=sl m l o) rfl rfl (sI 1 (.agg #[sl b a c]) #[sl b a c] t Tys24 rfl rfl (fun I w=>(wpList_nil (retP (end0 rfl ⟨e,a,r,f,i,b,c,(oi h).symm,rfl,w,(mf j p.sub),u⟩)))))))
 ·rintro _ J ⟨x,y,rfl,rfl,z⟩
  have A:=ca z d
  exact panE (.inr ⟨_,rfl,x,y,(oi h).symm,rfl,A.sel [0,1]⟩)
theorem f1004304_ok (k:Nat):f1004304_spec (f1004304 k):=f1004304_b_ok k
theorem f1004220_ok (k:Nat):f1004220_spec (f1004220 k):=by
 unfold f1004220_spec
 intro K w g bs s_0 As_0 cs_0 gA bsA sA_0 AsA_0 csA_0 oz_0 ozA_0 or0 h hG hs_0 hsA_0 S0
 unfold f1004220 at h
 obtain ⟨r_,hr_⟩ : ∃ r_,r_=f1004304 k (DProgram.mk s_0) (DProgram.mk sA_0):=⟨_,rfl⟩
 rcases r_ with _ | r_
 ·rw [← hr_] at h; cases h
 refine (guard_ok (R:=fun w K_ H_=>∃ (uz_0:List DFunc) (uzA_0:List DFunc) (uAz_0:Option Addr) (ucz_0:Nat) (uAzA_0:Option Addr) (uczA_0:Nat),r_=.ok ((DProgram.mk uz_0),(DProgram.mk uzA_0))∧H_=[.box bs g #[.slice uAz_0 uz_0.length ucz_0] 24,.box bsA gA #[.slice uAzA_0 uzA_0.length uczA_0] 24]∧tF K_ uAz_0 ucz_0 uz_0∧tF K_ uAzA_0 uczA_0 uzA_0) (R':=fun c_ K_ H_=>r_=.error c_∧H_=[.box bs g #[.slice As_0 s_0.length cs_0] 24,.box bsA gA #[.slice AsA_0 sA_0.length csA_0] 24]) Tyb43 S0 (fun w1 S1 hle=>((f1004304_ok k) hr_.symm hG hs_0 hsA_0 S1).mono ?_)).mono ?_
 ·rintro e_ w_ (⟨v_,rfl,uz_0,uzA_0,K_,uAz_0,ucz_0,uAzA_0,uczA_0,q1,q2,T_,k0,k1⟩ | ⟨v_,rfl,c_,K_,q1,q2,T_⟩)
  ·exact .inl ⟨v_,rfl,K_,_,T_,uz_0,uzA_0,uAz_0,ucz_0,uAzA_0,uczA_0,q1,rfl,k0,k1⟩
  ·exact .inr ⟨v_,rfl,c_,K_,_,q2,T_,q1,rfl⟩
 ·rintro e_ w_ ⟨v_,rfl,⟨w1,K_,H_,hle,rfl,T_,uz_0,uzA_0,uAz_0,ucz_0,uAzA_0,uczA_0,rfl,rfl,k0,k1⟩ | ⟨c_,K_,H_,rfl,T_,rfl,rfl⟩⟩
  ·rw [← hr_] at h
   cases h
   exact ⟨_,rfl,K_,uAz_0,ucz_0,uAzA_0,uczA_0,rfl,T_,k0,k1⟩
  ·rw [← hr_] at h
   cases h
   exact ⟨_,rfl,K_,_,_,_,_,rfl,T_,(hs_0.mono T_.sub (fun _ _ h=>RDFunc.mono T_.sub h)),(hsA_0.mono T_.sub (fun _ _ h=>RDFunc.mono T_.sub h))⟩
theorem f15_b_ok (k:Nat):f15_spec (f15_b k):=by
 unfold f15_spec
 intro K wi p A B C h hG q r
 obtain ⟨r_,hr_,h⟩:=rz h
 obtain ⟨f⟩:=p
 obtain ⟨g,c1,rfl,s⟩:=RDProgram.open q
 refine enter Tryz.func15 rfl (n:=8) rfl ?_
 unfold f15_b at h
 refine sr (bxoC (cs:=#[sl g f c1]) r rfl rfl (fun d t=>(aC #[nS] t Tyz24 (fun u v=>(m2 (iI 0) (wt (sr (mkf (us:=[]) (vs:=[pp (zz wi) 0,pp (zz d) 0]) rfl rfl ?_))))))))
 have j:=p10 v
 obtain ⟨⟨⟨D⟩,⟨a⟩,e⟩,w,h⟩:=ob h
 refine cv ([.func (.func 43) #[] #[pp (zz wi) 0,pp (zz d) 0]]) Tyb42 ((f1004220_ok k) w (hG.mono kr) s (RSl.nil _ _ _ _ _ _) (pt j)) ?_
 rintro _ G ⟨x,I,J,b,c,rfl,y,N,z⟩
 have m:=ca y j
 refine m2 (iI e) (wt (sr (lN 1 ([sl b a c]) m Tya24 Tys24 (m1 (iI e) (sI 1 (.agg #[sl b a c]) #[sl b a c] m Tys24 rfl rfl (fun O o=>(m2 (iI e) (wt (wp_ret ?_)))))))))
 cases (oi h).trans hr_
 exact retA2 rfl (resN (i:=1) (l:=[sl b a c]) o rfl Tya24 Tys24 rfl rfl rfl) (resT rfl) ⟨x,[sl b a c],rfl,(o.sel []),(RDProgram.intro z)⟩
theorem f15_ok (k:Nat):f15_spec (f15 k):=f15_b_ok k
theorem chk14_shape {q:DProgram} (h:chk14 q=true) : ∃ n ps r fl a o1 n1 sl1 f1 ix1 fg1 ar1 b c f2 ix2 fg2 ar2 bo2 ot2 la2 d ot1 la1 e f g f3 ix3 fg3 ar3 bo3 ot3 la3 i,
 q=.mk [.mk n ps r fl 3 [a,.mk o1 n1 sl1 f1 ix1 fg1 ar1 [.mk b c 1 f2 ix2 fg2 ar2 bo2 ot2 la2 d] ot1 la1 e,.mk f g 2 f3 ix3 fg3 ar3 bo3 ot3 la3 i]]:=by
 unfold chk14 at h
 split at h
 ·simp only [Bool.and_eq_true,beq_iff_eq] at h
  obtain ⟨⟨rfl,rfl⟩,rfl⟩:=h
  exact ⟨_,_,_,_,_,_,_,_,_,_,_,_,_,_,_,_,_,_,_,_,_,_,_,_,_,_,_,_,_,_,_,_,_,_,_,rfl⟩
 ·cases h
theorem sample_ok {K:KH} {wi:World} (q:Sx K K wi wi (fun b=>b ∈ Ents.blks []) []) :
 Calls Tryz.prog 41 #[] wi (Ret fun v w=>∃ bF bB bI bC bN k m,v=.agg #[.slice (some ⟨bF,0,none⟩) 1 1]∧SR K K wi w [] [.box (zz wi) bF #[.string ⟨#[109,97,105,110]⟩,nS,iI 0,vN,iI 0,.slice (some ⟨bB,0,none⟩) 3 3] 38,.box (zz wi) bB #[iI 1,.string ⟨#[120]⟩,iI 0,sE,iI 0,iI 0,.slice (some ⟨m,0,none⟩) 1 1,nS,nS,nS,nS,iI 20,sE,iI 0,sE,iI 0,iI 0,.slice (some ⟨bC,0,none⟩) 1 1,.slice (some ⟨bI,0,none⟩) 1 1,nS,nS,nS,iI 1,.string ⟨#[121]⟩,iI 0,sE,iI 0,iI 0,.slice (some ⟨k,0,none⟩) 1 1,nS,nS,nS,nS] 42,.box (zz wi) bI #[iI 1,.string ⟨#[121]⟩,iI 0,sE,iI 0,iI 0,.slice (some ⟨bN,0,none⟩) 1 1,nS,nS,nS,nS] 42,.box (zz wi) bC #[iI 2,iI 1,sE,iI 0,nS] 107,.box (zz wi) bN #[iI 4,iI 0,.string ⟨#[120]⟩,iI 0,nS] 107,.box (zz wi) k #[iI 1,iI 2,sE,iI 0,nS] 107,.box (zz wi) m #[iI 1,iI 1,sE,iI 0,nS] 107]):=by
 refine enter Tryz.func41 rfl (n:=24) rfl ?_
 refine wp_seq ?_
 refine wp_region_lit ?_
 refine alcC (z:=.agg #[nS]) (cs:=#[nS]) q (by kernel_rfl) rfl ?_
 intro c r
 refine wpList_nil ?_
 refine thenN ?_
 refine wp_seq ?_
 refine wp_region_lit ?_
 refine bld (cells:=#[iI 1,iI 1,sE,iI 0,nS]) (vs:=[(0,iI 1),(1,iI 1)]) rfl (fun w=>by kernel_rfl) ?_
 refine bsl (e:=107) (cells:=#[iI 1,iI 1,sE,iI 0,nS]) (vs:=[(0,.agg #[iI 1,iI 1,sE,iI 0,nS])]) r rfl (buildSl_one (show ElemB Tryz.prog 39=some 107 by kernel_rfl) (show SizeB Tryz.prog 107=some 5 by kernel_rfl) (show ZeroB Tryz.prog 107=some (.agg zE.toArray) by kernel_rfl) rfl (by decide) (by decide) rfl) ?_
 intro d s
 refine bld (cells:=#[iI 1,iI 2,sE,iI 0,nS]) (vs:=[(0,iI 1),(1,iI 2)]) rfl (fun w=>by kernel_rfl) ?_
 refine bsl (e:=107) (cells:=#[iI 1,iI 2,sE,iI 0,nS]) (vs:=[(0,.agg #[iI 1,iI 2,sE,iI 0,nS])]) s rfl (buildSl_one (show ElemB Tryz.prog 39=some 107 by kernel_rfl) (show SizeB Tryz.prog 107=some 5 by kernel_rfl) (show ZeroB Tryz.prog 107=some (.agg zE.toArray) by kernel_rfl) rfl (by decide) (by decide) rfl) ?_
 intro a t
 refine asg (v:=.slice (some ⟨(zz c),0,none⟩) 1 1) rfl ?_
 refine asg (v:=.slice (some ⟨(zz d),0,none⟩) 1 1) rfl ?_
 refine wpList_nil ?_
 refine thenN ?_
 refine wp_seq ?_
 refine wp_region_lit ?_
 refine bld (cells:=#[iI 4,iI 0,.string ⟨#[120]⟩,iI 0,nS]) (vs:=[(0,iI 4),(2,.string ⟨#[120]⟩)]) rfl (fun w=>by kernel_rfl) ?_
 refine bsl (e:=107) (cells:=#[iI 4,iI 0,.string ⟨#[120]⟩,iI 0,nS]) (vs:=[(0,.agg #[iI 4,iI 0,.string ⟨#[120]⟩,iI 0,nS])]) t rfl (buildSl_one (show ElemB Tryz.prog 39=some 107 by kernel_rfl) (show SizeB Tryz.prog 107=some 5 by kernel_rfl) (show ZeroB Tryz.prog 107=some (.agg zE.toArray) by kernel_rfl) rfl (by decide) (by decide) rfl) ?_
 intro D u
 refine bld (cells:=#[iI 1,.string ⟨#[121]⟩,iI 0,sE,iI 0,iI 0,.slice (some ⟨(zz a),0,none⟩) 1 1,nS,nS,nS,nS]) (vs:=[(0,iI 1),(1,.string ⟨#[121]⟩),(6,.slice (some ⟨(zz a),0,none⟩) 1 1)]) rfl (fun w=>by kernel_rfl) ?_
 refine alcC (z:=.agg zS.toArray) (cs:=zS.toArray) u (by kernel_rfl) rfl ?_
 intro G x
 refine stoI (i:=0) (v:=.agg #[iI 1,.string ⟨#[121]⟩,iI 0,sE,iI 0,iI 0,.slice (some ⟨(zz a),0,none⟩) 1 1,nS,nS,nS,nS]) (cs':=#[iI 1,.string ⟨#[121]⟩,iI 0,sE,iI 0,iI 0,.slice (some ⟨(zz a),0,none⟩) 1 1,nS,nS,nS,nS]) x rfl (show SizeB Tryz.prog 42=some 11 by kernel_rfl) rfl rfl rfl rfl (Nat.le_of_ble_eq_true rfl) rfl ?_
 intro g y
 refine wpList_nil ?_
 refine thenN ?_
 refine wp_seq ?_
 refine wp_region_lit ?_
 refine mv (v:=.slice (some ⟨(zz c),0,none⟩) 1 1) rfl ?_
 refine bld (cells:=#[iI 1,.string ⟨#[120]⟩,iI 0,sE,iI 0,iI 0,.slice (some ⟨(zz c),0,none⟩) 1 1,nS,nS,nS,nS]) (vs:=[(0,iI 1),(1,.string ⟨#[120]⟩),(6,.slice (some ⟨(zz c),0,none⟩) 1 1)]) rfl (fun w=>by kernel_rfl) ?_
 refine bld (cells:=#[iI 2,iI 1,sE,iI 0,nS]) (vs:=[(0,iI 2),(1,iI 1)]) rfl (fun w=>by kernel_rfl) ?_
 refine bsl (e:=107) (cells:=#[iI 2,iI 1,sE,iI 0,nS]) (vs:=[(0,.agg #[iI 2,iI 1,sE,iI 0,nS])]) y rfl (buildSl_one (show ElemB Tryz.prog 39=some 107 by kernel_rfl) (show SizeB Tryz.prog 107=some 5 by kernel_rfl) (show ZeroB Tryz.prog 107=some (.agg zE.toArray) by kernel_rfl) rfl (by decide) (by decide) rfl) ?_
 intro h o
 refine lbN (i:=1) (l:=[iI 1,.string ⟨#[121]⟩,iI 0,sE,iI 0,iI 0,.slice (some ⟨(zz a),0,none⟩) 1 1,nS,nS,nS,nS]) o rfl (by kernel_rfl) (show SizeB Tryz.prog 42=some 11 by kernel_rfl) rfl rfl rfl ?_
 refine bsl (e:=42) (cells:=#[iI 1,.string ⟨#[121]⟩,iI 0,sE,iI 0,iI 0,.slice (some ⟨(zz a),0,none⟩) 1 1,nS,nS,nS,nS]) (vs:=[(0,.agg #[iI 1,.string ⟨#[121]⟩,iI 0,sE,iI 0,iI 0,.slice (some ⟨(zz a),0,none⟩) 1 1,nS,nS,nS,nS])]) o rfl (buildSl_one (show ElemB Tryz.prog 36=some 42 by kernel_rfl) (show SizeB Tryz.prog 42=some 11 by kernel_rfl) (show ZeroB Tryz.prog 42=some (.agg zS.toArray) by kernel_rfl) rfl (by decide) (by decide) rfl) ?_
 intro j A
 refine bld (cells:=#[iI 20,sE,iI 0,sE,iI 0,iI 0,.slice (some ⟨(zz g),0,none⟩) 1 1,.slice (some ⟨(zz h),0,none⟩) 1 1,nS,nS,nS]) (vs:=[(0,iI 20),(6,.slice (some ⟨(zz g),0,none⟩) 1 1),(7,.slice (some ⟨(zz h),0,none⟩) 1 1)]) rfl (fun w=>by kernel_rfl) ?_
 refine mv (v:=.slice (some ⟨(zz d),0,none⟩) 1 1) rfl ?_
 refine bld (cells:=#[iI 1,.string ⟨#[121]⟩,iI 0,sE,iI 0,iI 0,.slice (some ⟨(zz d),0,none⟩) 1 1,nS,nS,nS,nS]) (vs:=[(0,iI 1),(1,.string ⟨#[121]⟩),(6,.slice (some ⟨(zz d),0,none⟩) 1 1)]) rfl (fun w=>by kernel_rfl) ?_
 refine bsl (e:=42) (cells:=#[iI 1,.string ⟨#[120]⟩,iI 0,sE,iI 0,iI 0,.slice (some ⟨(zz c),0,none⟩) 1 1,nS,nS,nS,nS,iI 20,sE,iI 0,sE,iI 0,iI 0,.slice (some ⟨(zz g),0,none⟩) 1 1,.slice (some ⟨(zz h),0,none⟩) 1 1,nS,nS,nS,iI 1,.string ⟨#[121]⟩,iI 0,sE,iI 0,iI 0,.slice (some ⟨(zz d),0,none⟩) 1 1,nS,nS,nS,nS]) (vs:=[(0,.agg #[iI 1,.string ⟨#[120]⟩,iI 0,sE,iI 0,iI 0,.slice (some ⟨(zz c),0,none⟩) 1 1,nS,nS,nS,nS]),(1,.agg #[iI 20,sE,iI 0,sE,iI 0,iI 0,.slice (some ⟨(zz g),0,none⟩) 1 1,.slice (some ⟨(zz h),0,none⟩) 1 1,nS,nS,nS]),(2,.agg #[iI 1,.string ⟨#[121]⟩,iI 0,sE,iI 0,iI 0,.slice (some ⟨(zz d),0,none⟩) 1 1,nS,nS,nS,nS])]) A rfl (fun w=>by kernel_rfl) ?_
 intro f B
 refine bld (cells:=#[.string ⟨#[109,97,105,110]⟩,nS,iI 0,vN,iI 0,.slice (some ⟨(zz j),0,none⟩) 3 3]) (vs:=[(0,.string ⟨#[109,97,105,110]⟩),(5,.slice (some ⟨(zz j),0,none⟩) 3 3)]) rfl (fun w=>by kernel_rfl) ?_
 refine bsl (e:=38) (cells:=#[.string ⟨#[109,97,105,110]⟩,nS,iI 0,vN,iI 0,.slice (some ⟨(zz j),0,none⟩) 3 3]) (vs:=[(0,.agg #[.string ⟨#[109,97,105,110]⟩,nS,iI 0,vN,iI 0,.slice (some ⟨(zz j),0,none⟩) 3 3])]) B rfl (buildSl_one (show ElemB Tryz.prog 22=some 38 by kernel_rfl) (show SizeB Tryz.prog 38=some 6 by kernel_rfl) (show ZeroB Tryz.prog 38=some (.agg zF.toArray) by kernel_rfl) rfl (by decide) (by decide) rfl) ?_
 intro I C
 refine bld (cells:=#[.slice (some ⟨(zz f),0,none⟩) 1 1]) (vs:=[(0,.slice (some ⟨(zz f),0,none⟩) 1 1)]) rfl (fun w=>by kernel_rfl) ?_
 refine stoI (i:=8) (v:=.agg #[.slice (some ⟨(zz f),0,none⟩) 1 1]) (cs':=#[.slice (some ⟨(zz f),0,none⟩) 1 1]) C rfl (show SizeB Tryz.prog 24=some 1 by kernel_rfl) rfl rfl rfl rfl (Nat.le_of_ble_eq_true rfl) rfl ?_
 intro J p
 refine wpList_nil ?_
 refine thenN ?_
 refine wp_ret ?_
 exact retA1 rfl (resN (i:=8) (l:=[.slice (some ⟨(zz f),0,none⟩) 1 1]) p rfl (by kernel_rfl) (show SizeB Tryz.prog 24=some 1 by kernel_rfl) rfl rfl rfl) ⟨(zz f),(zz j),(zz h),(zz g),(zz a),(zz d),(zz c),rfl,p.sel [0,1,2,3,5,6,7]⟩
theorem sample_shut' {base:Nat} {K0 K:KH} {wi w:World} {M:Nat→Prop} {H:Ents} {nm:ByteArray} {bF bB bI bC bN c d:Nat} (hn:nm.size ≤ mB) (hle:(zz wi) ≤ base) (g:Sx K0 K wi w M (.box base bF #[.string ⟨#[109,97,105,110]⟩,.slice none 0 0,.int .i64 0,.bool false,.int .i64 0,.slice (some ⟨bB,0,none⟩) 3 3] 38 :: .box base bB #[.int .i64 1,.string ⟨#[120]⟩,.int .i64 0,.string ⟨#[]⟩,.int .i64 0,.int .i64 0,.slice (some ⟨d,0,none⟩) 1 1,.slice none 0 0,.slice none 0 0,.slice none 0 0,.slice none 0 0,.int .i64 20,.string ⟨#[]⟩,.int .i64 0,.string ⟨#[]⟩,.int .i64 0,.int .i64 0,.slice (some ⟨bC,0,none⟩) 1 1,.slice (some ⟨bI,0,none⟩) 1 1,.slice none 0 0,.slice none 0 0,.slice none 0 0,.int .i64 1,.string ⟨#[121]⟩,.int .i64 0,.string ⟨#[]⟩,.int .i64 0,.int .i64 0,.slice (some ⟨c,0,none⟩) 1 1,.slice none 0 0,.slice none 0 0,.slice none 0 0,.slice none 0 0] 42 :: .box base bI #[.int .i64 1,.string nm,.int .i64 0,.string ⟨#[]⟩,.int .i64 0,.int .i64 0,.slice (some ⟨bN,0,none⟩) 1 1,.slice none 0 0,.slice none 0 0,.slice none 0 0,.slice none 0 0] 42 :: .box base bC #[.int .i64 2,.int .i64 1,.string ⟨#[]⟩,.int .i64 0,.slice none 0 0] 107 :: .box base bN #[.int .i64 4,.int .i64 0,.string ⟨#[120]⟩,.int .i64 0,.slice none 0 0] 107 :: .box base c #[.int .i64 1,.int .i64 2,.string ⟨#[]⟩,.int .i64 0,.slice none 0 0] 107 :: .box base d #[.int .i64 1,.int .i64 1,.string ⟨#[]⟩,.int .i64 0,.slice none 0 0] 107 :: H)) :
 ∃ K',Sx K0 K' wi w M H∧K.sub K'∧RDProgram K' (sampleP nm) [.slice (some ⟨bF,0,none⟩) 1 1]:=by
 obtain ⟨j,k,l,m⟩:=frzI (i:=6) (bytes:=64) (xs:=([(.mk 1 1 ⟨#[]⟩ 0 [])]:LE)) (R:=fun K=>(RDExpr K)) g rfl hle ⟨[iI 1,iI 1,sE,iI 0,nS],_,rfl,rfl,(RDExpr.intro (by decide) (RSl.nil _ _ _ _ _ _)),(reps0 (R:=(RDExpr K)) (size:=5))⟩ rfl (Nat.le_of_ble_eq_true rfl) (fun hs=>(fun _ _ h=>RDExpr.mono hs h))
 obtain ⟨n,o,f,p⟩:=frzI (i:=5) (bytes:=64) (xs:=([(.mk 1 2 ⟨#[]⟩ 0 [])]:LE)) (R:=fun K=>(RDExpr K)) k rfl hle ⟨[iI 1,iI 2,sE,iI 0,nS],_,rfl,rfl,(RDExpr.intro (by decide) (RSl.nil _ _ _ _ _ _)),(reps0 (R:=(RDExpr j)) (size:=5))⟩ rfl (Nat.le_of_ble_eq_true rfl) (fun hs=>(fun _ _ h=>RDExpr.mono hs h))
 obtain ⟨q,r,e,s⟩:=frzI (i:=4) (bytes:=64) (xs:=([(.mk 4 0 ⟨#[120]⟩ 0 [])]:LE)) (R:=fun K=>(RDExpr K)) o rfl hle ⟨[iI 4,iI 0,.string ⟨#[120]⟩,iI 0,nS],_,rfl,rfl,(RDExpr.intro (by decide) (RSl.nil _ _ _ _ _ _)),(reps0 (R:=(RDExpr n)) (size:=5))⟩ rfl (Nat.le_of_ble_eq_true rfl) (fun hs=>(fun _ _ h=>RDExpr.mono hs h))
 obtain ⟨t,u,a,v⟩:=frzI (i:=3) (bytes:=64) (xs:=([(.mk 2 1 ⟨#[]⟩ 0 [])]:LE)) (R:=fun K=>(RDExpr K)) r rfl hle ⟨[iI 2,iI 1,sE,iI 0,nS],_,rfl,rfl,(RDExpr.intro (by decide) (RSl.nil _ _ _ _ _ _)),(reps0 (R:=(RDExpr q)) (size:=5))⟩ rfl (Nat.le_of_ble_eq_true rfl) (fun hs=>(fun _ _ h=>RDExpr.mono hs h))
 obtain ⟨x,y,b,z⟩:=frzI (i:=2) (bytes:=184) (xs:=([(.mk 1 nm 0 ⟨#[]⟩ 0 0 [(.mk 4 0 ⟨#[120]⟩ 0 [])] [] [] [] [])]:LS)) (R:=fun K=>(RDStmt K)) u rfl hle ⟨[iI 1,.string nm,iI 0,sE,iI 0,iI 0,.slice (some ⟨bN,0,none⟩) 1 1,nS,nS,nS,nS],_,rfl,rfl,(RDStmt.intro hn (by decide) (me s a) (RSl.nil _ _ _ _ _ _) (RSl.nil _ _ _ _ _ _) (RSl.nil _ _ _ _ _ _) (RSl.nil _ _ _ _ _ _)),(reps0 (R:=(RDStmt t)) (size:=11))⟩ rfl (Nat.le_of_ble_eq_true rfl) (fun hs=>(fun _ _ h=>RDStmt.mono hs h))
 obtain ⟨A,B,C,D⟩:=frzI (i:=1) (bytes:=184) (xs:=([(.mk 1 ⟨#[120]⟩ 0 ⟨#[]⟩ 0 0 [(.mk 1 1 ⟨#[]⟩ 0 [])] [] [] [] []),(.mk 20 ⟨#[]⟩ 0 ⟨#[]⟩ 0 0 [(.mk 2 1 ⟨#[]⟩ 0 [])] [(.mk 1 nm 0 ⟨#[]⟩ 0 0 [(.mk 4 0 ⟨#[120]⟩ 0 [])] [] [] [] [])] [] [] []),(.mk 1 ⟨#[121]⟩ 0 ⟨#[]⟩ 0 0 [(.mk 1 2 ⟨#[]⟩ 0 [])] [] [] [] [])]:LS)) (R:=fun K=>(RDStmt K)) y rfl hle ⟨[iI 1,.string ⟨#[120]⟩,iI 0,sE,iI 0,iI 0,.slice (some ⟨d,0,none⟩) 1 1,nS,nS,nS,nS],_,rfl,rfl,(RDStmt.intro (by decide) (by decide) (me m (((f.trans e).trans a).trans b)) (RSl.nil _ _ _ _ _ _) (RSl.nil _ _ _ _ _ _) (RSl.nil _ _ _ _ _ _) (RSl.nil _ _ _ _ _ _)),⟨[iI 20,sE,iI 0,sE,iI 0,iI 0,.slice (some ⟨bC,0,none⟩) 1 1,.slice (some ⟨bI,0,none⟩) 1 1,nS,nS,nS],_,rfl,rfl,(RDStmt.intro (by decide) (by decide) (me v b) z (RSl.nil _ _ _ _ _ _) (RSl.nil _ _ _ _ _ _) (RSl.nil _ _ _ _ _ _)),⟨[iI 1,.string ⟨#[121]⟩,iI 0,sE,iI 0,iI 0,.slice (some ⟨c,0,none⟩) 1 1,nS,nS,nS,nS],_,rfl,rfl,(RDStmt.intro (by decide) (by decide) (me p ((e.trans a).trans b)) (RSl.nil _ _ _ _ _ _) (RSl.nil _ _ _ _ _ _) (RSl.nil _ _ _ _ _ _) (RSl.nil _ _ _ _ _ _)),(reps0 (R:=(RDStmt x)) (size:=11))⟩⟩⟩ rfl (Nat.le_of_ble_eq_true rfl) (fun hs=>(fun _ _ h=>RDStmt.mono hs h))
 obtain ⟨G,I,J,N⟩:=frzI (i:=0) (bytes:=88) (xs:=([.mk ⟨#[109,97,105,110]⟩ [] 0 false 0 [(.mk 1 ⟨#[120]⟩ 0 ⟨#[]⟩ 0 0 [(.mk 1 1 ⟨#[]⟩ 0 [])] [] [] [] []),(.mk 20 ⟨#[]⟩ 0 ⟨#[]⟩ 0 0 [(.mk 2 1 ⟨#[]⟩ 0 [])] [(.mk 1 nm 0 ⟨#[]⟩ 0 0 [(.mk 4 0 ⟨#[120]⟩ 0 [])] [] [] [] [])] [] [] []),(.mk 1 ⟨#[121]⟩ 0 ⟨#[]⟩ 0 0 [(.mk 1 2 ⟨#[]⟩ 0 [])] [] [] [] [])]]:LF)) (R:=fun K=>(RDFunc K)) B rfl hle ⟨[.string ⟨#[109,97,105,110]⟩,nS,iI 0,vN,iI 0,.slice (some ⟨bB,0,none⟩) 3 3],_,rfl,rfl,(RDFunc.intro (by decide) (RSl.nil _ _ _ _ _ _) D),(reps0 (R:=(RDFunc A)) (size:=6))⟩ rfl (Nat.le_of_ble_eq_true rfl) (fun hs=>(fun _ _ h=>RDFunc.mono hs h))
 exact ⟨G,I,(((((l.trans f).trans e).trans a).trans b).trans C).trans J,RDProgram.intro N⟩
theorem sample_shut {K0 K:KH} {wi w:World} {M:Nat→Prop} {H:Ents} {nm:ByteArray} {bF bB bI bC bN a b:Nat} (hn:nm.size ≤ mB) (c:Sx K0 K wi w M (.box (zz wi) bF #[.string ⟨#[109,97,105,110]⟩,.slice none 0 0,.int .i64 0,.bool false,.int .i64 0,.slice (some ⟨bB,0,none⟩) 3 3] 38 :: .box (zz wi) bB #[.int .i64 1,.string ⟨#[120]⟩,.int .i64 0,.string ⟨#[]⟩,.int .i64 0,.int .i64 0,.slice (some ⟨b,0,none⟩) 1 1,.slice none 0 0,.slice none 0 0,.slice none 0 0,.slice none 0 0,.int .i64 20,.string ⟨#[]⟩,.int .i64 0,.string ⟨#[]⟩,.int .i64 0,.int .i64 0,.slice (some ⟨bC,0,none⟩) 1 1,.slice (some ⟨bI,0,none⟩) 1 1,.slice none 0 0,.slice none 0 0,.slice none 0 0,.int .i64 1,.string ⟨#[121]⟩,.int .i64 0,.string ⟨#[]⟩,.int .i64 0,.int .i64 0,.slice (some ⟨a,0,none⟩) 1 1,.slice none 0 0,.slice none 0 0,.slice none 0 0,.slice none 0 0] 42 :: .box (zz wi) bI #[.int .i64 1,.string nm,.int .i64 0,.string ⟨#[]⟩,.int .i64 0,.int .i64 0,.slice (some ⟨bN,0,none⟩) 1 1,.slice none 0 0,.slice none 0 0,.slice none 0 0,.slice none 0 0] 42 :: .box (zz wi) bC #[.int .i64 2,.int .i64 1,.string ⟨#[]⟩,.int .i64 0,.slice none 0 0] 107 :: .box (zz wi) bN #[.int .i64 4,.int .i64 0,.string ⟨#[120]⟩,.int .i64 0,.slice none 0 0] 107 :: .box (zz wi) a #[.int .i64 1,.int .i64 2,.string ⟨#[]⟩,.int .i64 0,.slice none 0 0] 107 :: .box (zz wi) b #[.int .i64 1,.int .i64 1,.string ⟨#[]⟩,.int .i64 0,.slice none 0 0] 107 :: H)) :
 ∃ K',Sx K0 K' wi w M H∧K.sub K'∧RDProgram K' (sampleP nm) [.slice (some ⟨bF,0,none⟩) 1 1]:=sample_shut' hn (Nat.le_refl _) c
theorem f14_body (k:Nat) (h15:f15_spec (f15 k)):f14_spec (f14 k):=by
 unfold f14_spec
 intro K wi ad h hG y
 unfold f14 at h
 obtain ⟨⟨q,e⟩,B,h⟩:=ob h
 obtain ⟨⟨q',e'⟩,C,h⟩:=ob h
 dsimp only at h
 rcases hc:(chk14 q && e == 0 && e' == 21) with _ | _
 ·rw [hc] at h; cases h
 rw [hc] at h
 obtain rfl:=Option.some.inj h
 simp only [Bool.and_eq_true,beq_iff_eq] at hc
 obtain ⟨⟨hc,rfl⟩,rfl⟩:=hc
 obtain ⟨n,ps,r,fl,a,o1,n1,sl1,f1,ix1,fg1,ar1,ae,af,f2,ix2,fg2,ar2,bo2,ot2,la2,ag,ot1,la1,ah,ai,aj,f3,ix3,fg3,ar3,bo3,ot3,la3,ak,rfl⟩:=chk14_shape hc
 refine enter Tryz.func14 rfl (n:=99) rfl ?_
 refine wp_seq ?_
 refine wp_region_lit ?_
 refine asg (v:=vN) rfl ?_
 refine wpList_nil ?_
 refine thenN ?_
 refine wp_seq ?_
 refine wp_region_lit ?_
 refine clV (caps:=#[]) (vs:=[]) rfl (by kernel_rfl) rfl (sample_ok (y.part [] (List.nil_sublist _))) ?_
 rintro _ al ⟨bF,bB,bI,bC,bN,am,an,rfl,D⟩
 obtain ⟨ao,o,p,hp⟩:=sample_shut (by decide) D
 refine clV (caps:=#[]) (vs:=[.agg #[.slice (some ⟨bF,0,none⟩) 1 1]]) rfl (by kernel_rfl) rfl (h15 B (hG.mono p) hp (o.part [] (List.nil_sublist _))) ?_
 rintro _ G ⟨ap,csq,rfl,t,hq⟩
 have I:=Sx.call (H1:=[]) o t
 obtain ⟨A,c,rfl,hrow⟩:=RDProgram.open hq
 refine mv (v:=.tuple #[.agg #[.slice A 1 c],iI 0]) rfl ?_
 refine ext (v:=.agg #[.slice A 1 c]) rfl rfl ?_
 refine ext (v:=iI 0) rfl rfl ?_
 refine alcC (z:=.agg #[nS]) (cs:=#[nS]) I (by kernel_rfl) rfl ?_
 intro aq J
 refine stoI (i:=0) (v:=.agg #[.slice A 1 c]) (cs':=#[.slice A 1 c]) J rfl (show SizeB Tryz.prog 24=some 1 by kernel_rfl) rfl rfl rfl rfl (Nat.le_of_ble_eq_true rfl) rfl ?_
 intro ar g
 refine asg (v:=iI 0) rfl ?_
 refine wpList_nil ?_
 refine thenN ?_
 obtain ⟨bf,of,csf,rfl,hlf,hCf,hRf⟩:=hrow.row.at_ (i:=0) rfl
 obtain ⟨au,c1,av,j,rfl,aw,hf1,hf2⟩:=RDFunc.open hRf
 obtain ⟨bb,ob,csb,rfl,hlb,hCb,hRb⟩:=hf2.row.at_ (i:=1) rfl
 obtain ⟨_,_,ax,u,_,_,_,_,_,_,rfl,_,_,_,N,_,_,_⟩:=RDStmt.open hRb
 obtain ⟨bb',ob',csb',hbe,hlb',hCb',hRb'⟩:=hf2.row.at_ (i:=2) rfl
 obtain ⟨rfl,rfl⟩:bb=bb'∧ob=ob':=by injection hbe with h; injection h with h1 h2; exact ⟨h1,h2⟩
 obtain ⟨_,_,_,_,_,_,_,_,_,_,rfl,_⟩:=RDStmt.open hRb'
 obtain ⟨bi,oi,csi,rfl,hli,hCi,hRi⟩:=N.row.at_ (i:=0) rfl
 obtain ⟨_,_,_,_,_,_,_,_,_,_,rfl,_⟩:=RDStmt.open hRi
 refine wp_seq ?_
 refine wp_seq ?_
 refine wp_region_lit ?_
 refine mv (v:=iI 0) rfl ?_
 refine bcm (r:=false) rfl rfl rfl ?_
 refine mv (v:=vN) rfl ?_
 refine st_on (d:=13) rfl rfl ?_
 refine fld (s:=24) (f:=0) (off:=0) (o':=0) (by kernel_rfl) rfl rfl ?_
 refine st_on (d:=13) rfl rfl ?_
 refine lb1 (i:=0) (v:=.slice (some ⟨bf,of,none⟩) 1 c) g rfl (by kernel_rfl) rfl rfl ?_
 refine st_on (d:=13) rfl rfl ?_
 refine lnS (len:=1) (e:=38) (by kernel_rfl) rfl ?_
 refine st_on (d:=13) rfl rfl ?_
 refine bcm (r:=false) rfl rfl rfl ?_
 refine pick (b:=false) (v:=vN) rfl rfl ?_
 refine mv (v:=vN) rfl ?_
 refine st_on (d:=19) rfl rfl ?_
 refine fld (s:=24) (f:=0) (off:=0) (o':=0) (by kernel_rfl) rfl rfl ?_
 refine st_on (d:=19) rfl rfl ?_
 refine lb1 (i:=0) (v:=.slice (some ⟨bf,of,none⟩) 1 c) g rfl (by kernel_rfl) rfl rfl ?_
 refine st_on (d:=19) rfl rfl ?_
 refine idx (s:=22) (e:=38) (size:=6) (i:=0) (by kernel_rfl) (by kernel_rfl) rfl rfl (by decide) (by decide) ?_
 refine st_on (d:=19) rfl rfl ?_
 refine fld (s:=38) (f:=5) (off:=5) (o':=of + (0:Int).toNat * 6 + 5) (by kernel_rfl) rfl rfl ?_
 refine st_on (d:=19) rfl rfl ?_
 refine ld1 (v:=.slice (some ⟨bb,ob,none⟩) 3 j) (by kernel_rfl) rfl (g.cell (hCf 5 _ rfl)) ?_
 refine st_on (d:=19) rfl rfl ?_
 refine lnS (len:=3) (e:=42) (by kernel_rfl) rfl ?_
 refine st_on (d:=19) rfl rfl ?_
 refine bcm (r:=false) rfl rfl rfl ?_
 refine pick (b:=false) (v:=vN) rfl rfl ?_
 refine mv (v:=vN) rfl ?_
 refine st_on (d:=28) rfl rfl ?_
 refine fld (s:=24) (f:=0) (off:=0) (o':=0) (by kernel_rfl) rfl rfl ?_
 refine st_on (d:=28) rfl rfl ?_
 refine lb1 (i:=0) (v:=.slice (some ⟨bf,of,none⟩) 1 c) g rfl (by kernel_rfl) rfl rfl ?_
 refine st_on (d:=28) rfl rfl ?_
 refine idx (s:=22) (e:=38) (size:=6) (i:=0) (by kernel_rfl) (by kernel_rfl) rfl rfl (by decide) (by decide) ?_
 refine st_on (d:=28) rfl rfl ?_
 refine fld (s:=38) (f:=4) (off:=4) (o':=of + (0:Int).toNat * 6 + 4) (by kernel_rfl) rfl rfl ?_
 refine st_on (d:=28) rfl rfl ?_
 refine ld1 (v:=iI 3) (by kernel_rfl) rfl (g.cell (hCf 4 _ rfl)) ?_
 refine st_on (d:=28) rfl rfl ?_
 refine bcm (r:=false) rfl rfl rfl ?_
 refine pick (b:=false) (v:=vN) rfl rfl ?_
 refine mv (v:=vN) rfl ?_
 refine st_on (d:=36) rfl rfl ?_
 refine fld (s:=24) (f:=0) (off:=0) (o':=0) (by kernel_rfl) rfl rfl ?_
 refine st_on (d:=36) rfl rfl ?_
 refine lb1 (i:=0) (v:=.slice (some ⟨bf,of,none⟩) 1 c) g rfl (by kernel_rfl) rfl rfl ?_
 refine st_on (d:=36) rfl rfl ?_
 refine idx (s:=22) (e:=38) (size:=6) (i:=0) (by kernel_rfl) (by kernel_rfl) rfl rfl (by decide) (by decide) ?_
 refine st_on (d:=36) rfl rfl ?_
 refine fld (s:=38) (f:=5) (off:=5) (o':=of + (0:Int).toNat * 6 + 5) (by kernel_rfl) rfl rfl ?_
 refine st_on (d:=36) rfl rfl ?_
 refine ld1 (v:=.slice (some ⟨bb,ob,none⟩) 3 j) (by kernel_rfl) rfl (g.cell (hCf 5 _ rfl)) ?_
 refine st_on (d:=36) rfl rfl ?_
 refine idx (s:=36) (e:=42) (size:=11) (i:=2) (by kernel_rfl) (by kernel_rfl) rfl rfl (by decide) (by decide) ?_
 refine st_on (d:=36) rfl rfl ?_
 refine fld (s:=42) (f:=2) (off:=2) (o':=ob + (2:Int).toNat * 11 + 2) (by kernel_rfl) rfl rfl ?_
 refine st_on (d:=36) rfl rfl ?_
 refine ld1 (v:=iI 2) (by kernel_rfl) rfl (g.cell (hCb' 2 _ rfl)) ?_
 refine st_on (d:=36) rfl rfl ?_
 refine bcm (r:=false) rfl rfl rfl ?_
 refine pick (b:=false) (v:=vN) rfl rfl ?_
 refine mv (v:=vN) rfl ?_
 refine st_on (d:=47) rfl rfl ?_
 refine fld (s:=24) (f:=0) (off:=0) (o':=0) (by kernel_rfl) rfl rfl ?_
 refine st_on (d:=47) rfl rfl ?_
 refine lb1 (i:=0) (v:=.slice (some ⟨bf,of,none⟩) 1 c) g rfl (by kernel_rfl) rfl rfl ?_
 refine st_on (d:=47) rfl rfl ?_
 refine idx (s:=22) (e:=38) (size:=6) (i:=0) (by kernel_rfl) (by kernel_rfl) rfl rfl (by decide) (by decide) ?_
 refine st_on (d:=47) rfl rfl ?_
 refine fld (s:=38) (f:=5) (off:=5) (o':=of + (0:Int).toNat * 6 + 5) (by kernel_rfl) rfl rfl ?_
 refine st_on (d:=47) rfl rfl ?_
 refine ld1 (v:=.slice (some ⟨bb,ob,none⟩) 3 j) (by kernel_rfl) rfl (g.cell (hCf 5 _ rfl)) ?_
 refine st_on (d:=47) rfl rfl ?_
 refine idx (s:=36) (e:=42) (size:=11) (i:=1) (by kernel_rfl) (by kernel_rfl) rfl rfl (by decide) (by decide) ?_
 refine st_on (d:=47) rfl rfl ?_
 refine fld (s:=42) (f:=7) (off:=7) (o':=ob + (1:Int).toNat * 11 + 7) (by kernel_rfl) rfl rfl ?_
 refine st_on (d:=47) rfl rfl ?_
 refine ld1 (v:=.slice (some ⟨bi,oi,none⟩) 1 u) (by kernel_rfl) rfl (g.cell (hCb 7 _ rfl)) ?_
 refine st_on (d:=47) rfl rfl ?_
 refine lnS (len:=1) (e:=42) (by kernel_rfl) rfl ?_
 refine st_on (d:=47) rfl rfl ?_
 refine bcm (r:=false) rfl rfl rfl ?_
 refine pick (b:=false) (v:=vN) rfl rfl ?_
 refine mv (v:=vN) rfl ?_
 refine st_on (d:=59) rfl rfl ?_
 refine fld (s:=24) (f:=0) (off:=0) (o':=0) (by kernel_rfl) rfl rfl ?_
 refine st_on (d:=59) rfl rfl ?_
 refine lb1 (i:=0) (v:=.slice (some ⟨bf,of,none⟩) 1 c) g rfl (by kernel_rfl) rfl rfl ?_
 refine st_on (d:=59) rfl rfl ?_
 refine idx (s:=22) (e:=38) (size:=6) (i:=0) (by kernel_rfl) (by kernel_rfl) rfl rfl (by decide) (by decide) ?_
 refine st_on (d:=59) rfl rfl ?_
 refine fld (s:=38) (f:=5) (off:=5) (o':=of + (0:Int).toNat * 6 + 5) (by kernel_rfl) rfl rfl ?_
 refine st_on (d:=59) rfl rfl ?_
 refine ld1 (v:=.slice (some ⟨bb,ob,none⟩) 3 j) (by kernel_rfl) rfl (g.cell (hCf 5 _ rfl)) ?_
 refine st_on (d:=59) rfl rfl ?_
 refine idx (s:=36) (e:=42) (size:=11) (i:=1) (by kernel_rfl) (by kernel_rfl) rfl rfl (by decide) (by decide) ?_
 refine st_on (d:=59) rfl rfl ?_
 refine fld (s:=42) (f:=7) (off:=7) (o':=ob + (1:Int).toNat * 11 + 7) (by kernel_rfl) rfl rfl ?_
 refine st_on (d:=59) rfl rfl ?_
 refine ld1 (v:=.slice (some ⟨bi,oi,none⟩) 1 u) (by kernel_rfl) rfl (g.cell (hCb 7 _ rfl)) ?_
 refine st_on (d:=59) rfl rfl ?_
 refine idx (s:=36) (e:=42) (size:=11) (i:=0) (by kernel_rfl) (by kernel_rfl) rfl rfl (by decide) (by decide) ?_
 refine st_on (d:=59) rfl rfl ?_
 refine fld (s:=42) (f:=2) (off:=2) (o':=oi + (0:Int).toNat * 11 + 2) (by kernel_rfl) rfl rfl ?_
 refine st_on (d:=59) rfl rfl ?_
 refine ld1 (v:=iI 1) (by kernel_rfl) rfl (g.cell (hCi 2 _ rfl)) ?_
 refine st_on (d:=59) rfl rfl ?_
 refine bcm (r:=false) rfl rfl rfl ?_
 refine pick (b:=false) (v:=vN) rfl rfl ?_
 refine wpList_nil ?_
 refine thenN ?_
 refine cndF rfl ?_
 refine wp_skip ?_
 refine thenN ?_
 refine wp_seq ?_
 refine wp_region_lit ?_
 refine clV (caps:=#[]) (vs:=[]) rfl (by kernel_rfl) rfl (sample_ok (g.part [] (List.nil_sublist _))) ?_
 rintro _ O ⟨cF,cB,cI,cC,cN,d2,d1,rfl,S⟩
 have U:=Sx.call (H1:=[]) g S
 refine alcC (z:=.agg #[nS]) (cs:=#[nS]) U (by kernel_rfl) rfl ?_
 intro ay V
 refine stoI (i:=0) (v:=.agg #[.slice (some ⟨cF,0,none⟩) 1 1]) (cs':=#[.slice (some ⟨cF,0,none⟩) 1 1]) V rfl (show SizeB Tryz.prog 24=some 1 by kernel_rfl) rfl rfl rfl rfl (Nat.le_of_ble_eq_true rfl) rfl ?_
 intro az m
 refine wpList_nil ?_
 refine thenN ?_
 refine wp_seq ?_
 refine wp_region_lit ?_
 refine fld (s:=24) (f:=0) (off:=0) (o':=0) (by kernel_rfl) rfl rfl ?_
 refine lb1 (i:=0) (v:=.slice (some ⟨cF,0,none⟩) 1 1) m rfl (by kernel_rfl) rfl rfl ?_
 refine idx (s:=22) (e:=38) (size:=6) (i:=0) (by kernel_rfl) (by kernel_rfl) rfl rfl (by decide) (by decide) ?_
 refine fld (s:=38) (f:=5) (off:=5) (o':=5) (by kernel_rfl) rfl rfl ?_
 refine lb1 (i:=1) (v:=.slice (some ⟨cB,0,none⟩) 3 3) m rfl (by kernel_rfl) rfl rfl ?_
 refine idx (s:=36) (e:=42) (size:=11) (i:=1) (by kernel_rfl) (by kernel_rfl) rfl rfl (by decide) (by decide) ?_
 refine fld (s:=42) (f:=7) (off:=7) (o':=18) (by kernel_rfl) rfl rfl ?_
 refine lb1 (i:=2) (v:=.slice (some ⟨cI,0,none⟩) 1 1) m rfl (by kernel_rfl) rfl rfl ?_
 refine idx (s:=36) (e:=42) (size:=11) (i:=0) (by kernel_rfl) (by kernel_rfl) rfl rfl (by decide) (by decide) ?_
 refine fld (s:=42) (f:=1) (off:=1) (o':=1) (by kernel_rfl) rfl rfl ?_
 refine stoI (i:=3) (v:=.string ⟨#[120]⟩) (cs':=#[iI 1,.string ⟨#[120]⟩,iI 0,sE,iI 0,iI 0,.slice (some ⟨cN,0,none⟩) 1 1,nS,nS,nS,nS]) m rfl (show SizeB Tryz.prog 9=some 1 by kernel_rfl) rfl rfl rfl rfl (Nat.le_of_ble_eq_true rfl) rfl ?_
 intro aA w
 refine wpList_nil ?_
 refine thenN ?_
 refine wp_seq ?_
 refine wp_region_lit ?_
 refine lbN (i:=0) (l:=[.slice (some ⟨cF,0,none⟩) 1 1]) w rfl (by kernel_rfl) (show SizeB Tryz.prog 24=some 1 by kernel_rfl) rfl rfl rfl ?_
 obtain ⟨aB,x,W,hp10⟩:=sample_shut' (H:=[.box (zz wi) (zz O) #[.slice (some ⟨cF,0,none⟩) 1 1] 24,.box (zz wi) (zz G) #[.slice (some ⟨bf,of,none⟩) 1 c] 24]) (by decide) g.size (w.sel [1,2,3,4,5,6,7,0,8])
 refine clV (caps:=#[]) (vs:=[.agg #[.slice (some ⟨cF,0,none⟩) 1 1]]) rfl (by kernel_rfl) rfl (h15 C (hG.mono ((p.trans t.sub).trans W)) hp10 (x.part [] (List.nil_sublist _))) ?_
 rintro _ aE ⟨X,csq',rfl,Y,hq'⟩
 have Z:=Sx.call (H1:=[]) x Y
 obtain ⟨fq⟩:=q'
 obtain ⟨A',c',rfl,hrow'⟩:=RDProgram.open hq'
 refine mv (v:=.tuple #[.agg #[sl A' fq c'],iI 21]) rfl ?_
 refine ext (v:=.agg #[sl A' fq c']) rfl rfl ?_
 refine ext (v:=iI 21) rfl rfl ?_
 refine alcC (z:=.agg #[nS]) (cs:=#[nS]) Z (by kernel_rfl) rfl ?_
 intro aF ab
 refine stoI (i:=0) (v:=.agg #[sl A' fq c']) (cs':=#[sl A' fq c']) ab rfl (show SizeB Tryz.prog 24=some 1 by kernel_rfl) rfl rfl rfl rfl (Nat.le_of_ble_eq_true rfl) rfl ?_
 intro aG ac
 refine asg (v:=iI 21) rfl ?_
 refine wpList_nil ?_
 refine thenN ?_
 refine wp_seq ?_
 refine wp_seq ?_
 refine wp_region_lit ?_
 refine mv (v:=iI 21) rfl ?_
 refine bcm (r:=false) rfl rfl rfl ?_
 refine mv (v:=vN) rfl ?_
 refine pick (b:=false) (v:=vN) rfl rfl ?_
 refine mv (v:=vN) rfl ?_
 refine pick (b:=false) (v:=vN) rfl rfl ?_
 refine mv (v:=vN) rfl ?_
 refine pick (b:=false) (v:=vN) rfl rfl ?_
 refine mv (v:=vN) rfl ?_
 refine pick (b:=false) (v:=vN) rfl rfl ?_
 refine wpList_nil ?_
 refine thenN ?_
 refine cndF rfl ?_
 refine wp_skip ?_
 refine thenN ?_
 refine wp_seq ?_
 refine wp_region_lit ?_
 refine asg (v:=vT) rfl ?_
 refine wpList_nil ?_
 refine thenN ?_
 refine wp_ret ?_
 exact retA1 rfl (resT rfl) ⟨X,rfl,ac.sel []⟩
theorem f14_ok (k:Nat):f14_spec (f14 k):=f14_body k (f15_ok k)
theorem f48_b_ok (k:Nat) (F:Fam48) (IH48:f48_spec F.f48) (IH87:f87_spec F.f87):f48_spec (f48_b k F):=by
 unfold f48_spec
 intro K wi d l m f t u av h hG ab an ac
 obtain ⟨r_,hr_,h⟩:=rz h
 refine enter Tryz.func48 rfl (n:=27) rfl ?_
 unfold f48_b at h
 refine sr (m2 vN (wt (wp_seq (sr (m1 (sl l d m) (lS d.length Tye39 (m1 (sl t f u) (lS f.length Tye39 (c0 ((d.length:Int) != (f.length:Int)) (wt (cd h (fun z h=>?_) (fun z h=>?_))))))))))))
 ·refine cT z (sr (m2 vN (wt (wp_ret (thenR ?_)))))
  cases (oi h).trans hr_
  exact retA1 rfl (resT rfl) ⟨K,rfl,ac⟩
 ·refine cF z (wp_skip (thenN (wp_seq (sr (m2 (iI 0) (wt (wp_block (wp_loopG (fun g_ a w=>∃ ad q g,∃ (c:Nat),g_=g.length∧a=fr 27 (updL ad [(0,sl l d m),(1,sl t f u),(5,iI (c:Int))])∧KH.sub K q∧SR K q wi w [] []∧d.drop c=g∧f48_l1 k F f g c=some r_) d.length ?_ ?_))))))))
  ·exact ⟨_,K,d,0,rfl,fR,kr,ac,List.drop_zero,h⟩
  ·rintro _ _ aw ⟨ad,q,g,c,rfl,rfl,s,ae,p,h⟩
   rcases g with _ | ⟨⟨A,B,C,D,G⟩,g⟩
   ·unfold f48_l1 at h
    refine wp_seq (sr (m1 (iI (c:Int)) (m1 (sl l d m) (lS d.length Tye39 (bcm (r:=false) rfl rfl (congrArg some (drop_nil_lt p)) (wt (cndF rfl (wp_exit (thenX (thenX (blkX (thenN (sr (m2 vT (wt (wp_ret ?_))))))))))))))))
    cases (oi h).trans hr_
    exact retA1 rfl (resT rfl) ⟨q,rfl,ae⟩
   ·unfold f48_l1 at h
    refine wp_seq (sr (m1 (iI (c:Int)) (m1 (sl l d m) (lS d.length Tye39 (bcm (r:=true) rfl rfl (congrArg some (drop_cons_t p)) (wt (cndT rfl (wp_skip (thenN (wp_seq (wp_block (wp_seq (have e:=ae.drew;(regAny (E:=[]) (F:=FW q []) (L:=(lb 10 0)) ymx rfl rfl (tk 0 (sl l d m) (lb 10 1) rfl (fun w=>mv_r (v:=sl l d m) rfl) (heldF (fq [] e)) (tk 1 (iI (c:Int)) (lb 10 3) rfl (fun w=>mv_r (v:=iI (c:Int)) rfl) (heldF (fq [] e)) ?_))))))))))))))))
    obtain ⟨af,ag,ax,ao,ay,ap,ah⟩:=((me ab s)).row.at_ (drop_cons_at p)
    obtain ⟨I,J,rfl,az,aA⟩:=RDExpr.open ah
    refine tk 2 (pp af (ag + c * 5)) (lb 10 7) rfl (fun w=>idxN_r (b:=af) (o:=ag) (i:=c) Tye39 Tys107 rfl ao rfl (drop_cons_lt p)) (heldF (fq [] e)) (tf 3 (.agg (vE A B C D I G J).toArray) ([]) (lb 10 15) rfl (fq [] e) (fun w hF=>ldN_r (cs:=(vE A B C D I G J)) Tya107 Tys107 rfl rfl (fun j v hj=>hF.cell (kr.cell (ap j v hj)))) (tk 4 (sl t f u) (lb 10 31) rfl (fun w=>mv_r (v:=sl t f u) rfl) (heldF (fq [] e)) (tk 5 (iI (c:Int)) (lb 10 63) rfl (fun w=>mv_r (v:=iI (c:Int)) rfl) (heldF (fq [] e)) ?_)))
    obtain ⟨⟨N,O,S,U,V⟩,W,h⟩:=ob h
    obtain ⟨ai,aj,aB,aq,aE,ar,ak⟩:=((me an s)).row.at_ (idxO_at W).1
    obtain ⟨X,Y,rfl,aF,aG⟩:=RDExpr.open ak
    refine tk 6 (.pointer (some ⟨ai,aj + (c:Int).toNat * 5,none⟩)) (lb 10 127) rfl (fun w=>idxG_r (b:=ai) (o:=aj) (i:=(c:Int)) Tye39 Tys107 rfl aq rfl (idxO_at W).2.1 (idxO_at W).2.2) (heldF (fq [] e)) (tf 7 (.agg (vE N O S U X V Y).toArray) ([]) (lb 10 255) rfl (fq [] e) (fun w hF=>ldN_r (cs:=(vE N O S U X V Y)) Tya107 Tys107 rfl rfl (fun j v hj=>hF.cell (kr.cell (ar j v hj)))) (aO 8 rfl ?_))
    obtain ⟨al,au,h⟩:=ob h
    refine cv ([.agg (vE A B C D I G J).toArray,.agg (vE N O S U X V Y).toArray]) Tyb87 (IH87 au (hG.mono s) ah ak (pt e)) ?_
    rintro _ aH ⟨am,rfl,x⟩
    have y:=ca x e
    refine wt ⟨heldF (fwOf (is:=[]) y x.sub rfl),tk 9 (.bool (!al)) (lb 10 1023) rfl (fun w=>unot_r (a:=al) rfl) (heldF (fwOf (is:=[]) y x.sub rfl)) (aD (thenN (cd h (fun Z h=>?_) (fun Z h=>?_))))⟩
    ·refine cT Z (sr (m2 vN (wt (wp_ret (blkR (thenR (thenR (blkR (thenR ?_)))))))))
     cases (oi h).trans hr_
     exact retA1 rfl (resT rfl) ⟨am,rfl,y⟩
    ·exact cF Z (wp_skip (blkN (thenN (wp_region_lit (m1 (iI (c:Int)) (bar (r:=((c + 1:Nat):Int)) rfl rfl (inc_ok (le_big (((me ab s)).len) (by decide) (drop_cons_lt p))) (m2 (iI ((c + 1:Nat):Int)) (wt (⟨_,Nat.lt_succ_self _,_,am,g,c + 1,rfl,fR,(s.trans x.sub),y,drop_cons_next p,h⟩)))))))))
theorem f87_b_ok (k:Nat) (F:Fam48) (IH48:f48_spec F.f48) (IH87:f87_spec F.f87):f87_spec (f87_b k F):=by
 unfold f87_spec
 intro K wi G ab I ac ad h hG J N O
 obtain ⟨r_,hr_,h⟩:=rz h
 obtain ⟨p,g,i,j,t⟩:=G
 obtain ⟨u,v,rfl,ae,S⟩:=RDExpr.open J
 obtain ⟨q,l,m,o,x⟩:=I
 obtain ⟨y,z,rfl,af,U⟩:=RDExpr.open N
 refine enter Tryz.func87 rfl (n:=38) rfl ?_
 unfold f87_b at h
 refine sr (bxoC (cs:=(vE p g i j u t v).toArray) O rfl rfl (fun ag V=>(bxoC (cs:=(vE q l m o y x z).toArray) V rfl rfl (fun ah b=>(m2 vN (wt (wp_cut (fun a w=>∃ C s A,a=fr 38 (updL C [(4,.bool A)])∧KH.sub K s∧SR K s wi w [] []∧f87_j1 k F A=some r_) ?_ ?_)))))))
 ·refine wp_region_lit (fd 0 Tyf107_0 rfl (l1 1 (iI p) b Tya3 (fd 0 Tyf107_0 rfl (l1 0 (iI q) b Tya3 (c0 (p == q) (m1 (.bool (p == q)) (cd h (fun c h=>?_) (fun c h=>?_))))))))
  ·refine n1 10 c (fd 1 Tyf107_1 rfl (n1 10 c (l1 1 (iI g) b Tya3 (n1 10 c (fd 1 Tyf107_1 rfl (n1 10 c (l1 0 (iI l) b Tya3 (n1 10 c (c0 (g == l) (m3 true (.bool (g == l)) (cg c) (m1 (.bool (g == l)) (cd h (fun d h=>?_) (fun d h=>?_)))))))))))))
   ·refine n1 17 d (fd 2 Tyf107_2 rfl (n1 17 d (l1 1 (.string i) b Tya9 (n1 17 d (fd 2 Tyf107_2 rfl (n1 17 d (l1 0 (.string m) b Tya9 (n1 17 d (bsc (r:=(seq i m)) rfl rfl rfl (m3 true (.bool (seq i m)) (cg d) (m1 (.bool (seq i m)) (cd h (fun e h=>?_) (fun e h=>?_)))))))))))))
    ·refine n1 24 e (fd 3 Tyf107_3 rfl (n1 24 e (l1 1 (iI j) b Tya3 (n1 24 e (fd 3 Tyf107_3 rfl (n1 24 e (l1 0 (iI o) b Tya3 (n1 24 e (c0 (j == o) (m3 true (.bool (j == o)) (cg e) (m1 (.bool (j == o)) (cd h (fun f h=>?_) (fun f h=>?_)))))))))))))
     ·refine n1 31 f (fd 4 Tyf107_4 rfl (n1 31 f (l1 1 (sl u t v) b Tya39 (n1 31 f (fd 4 Tyf107_4 rfl (n1 31 f (l1 0 (sl y x z) b Tya39 (n1 31 f ?_))))))))
      obtain ⟨B,W,h⟩:=ob h
      refine cv ([sl u t v,sl y x z]) Tyb48 (IH48 W (hG.mono kr) S U (pt b)) ?_
      rintro _ ai ⟨X,rfl,D⟩
      have Y:=ca D b
      exact m3 true (.bool B) (cg f) (m2 (.bool B) (wt (⟨_,X,B,fR,D.sub,(Y.sel []),h⟩)))
     ·exact o1 31 f (o1 31 f (o1 31 f (o1 31 f (o1 31 f (m3 false vN (cg f) (m2 vN (wt (⟨_,K,false,fR,kr,(b.sel []),h⟩))))))))
    ·exact o1 24 e (o1 24 e (o1 24 e (o1 24 e (o1 24 e (m3 false vN (cg e) (m1 vN (o0 31 (o0 31 (o0 31 (o0 31 (o0 31 (m3 false vN rfl (m2 vN (wt (⟨_,K,false,fR,kr,(b.sel []),h⟩)))))))))))))))
   ·exact o1 17 d (o1 17 d (o1 17 d (o1 17 d (o1 17 d (m3 false vN (cg d) (m1 vN (o0 24 (o0 24 (o0 24 (o0 24 (o0 24 (m3 false vN rfl (m1 vN (o0 31 (o0 31 (o0 31 (o0 31 (o0 31 (m3 false vN rfl (m2 vN (wt (⟨_,K,false,fR,kr,(b.sel []),h⟩))))))))))))))))))))))
  ·exact o1 10 c (o1 10 c (o1 10 c (o1 10 c (o1 10 c (m3 false vN (cg c) (m1 vN (o0 17 (o0 17 (o0 17 (o0 17 (o0 17 (m3 false vN rfl (m1 vN (o0 24 (o0 24 (o0 24 (o0 24 (o0 24 (m3 false vN rfl (m1 vN (o0 31 (o0 31 (o0 31 (o0 31 (o0 31 (m3 false vN rfl (m2 vN (wt (⟨_,K,false,fR,kr,(b.sel []),h⟩)))))))))))))))))))))))))))))
 ·rintro _ aj ⟨C,s,A,rfl,ak,Z,h⟩
  unfold f87_j1 at h
  refine wp_ret ?_
  cases (oi h).trans hr_
  exact retA1 rfl (resT rfl) ⟨s,rfl,Z⟩
theorem fam48_ok (k0:Nat) : ∀ k,f48_spec (fam48 k0 k).f48∧f87_spec (fam48 k0 k).f87:=by
 intro k
 induction k with
 | zero=>exact ⟨(by unfold f48_spec; intro _ _ _ _ _ _ _ _ _ h_; cases h_),(by unfold f87_spec; intro _ _ _ _ _ _ _ h_; cases h_)⟩
 | succ k ih=>exact ⟨f48_b_ok k0 (fam48 k0 k) ih.1 ih.2,f87_b_ok k0 (fam48 k0 k) ih.1 ih.2⟩
theorem f48_ok (k:Nat):f48_spec (f48 k):=(fam48_ok k k).1
theorem f87_ok (k:Nat):f87_spec (f87 k):=(fam48_ok k k).2
theorem f21_b_ok (k:Nat) (F:Fam21) (IH21:f21_spec F.f21):f21_spec (f21_b k F):=by
 unfold f21_spec
 intro K wi a4 b2 b3 a5 cy cz fE h hG eq eR es
 obtain ⟨r_,hr_,h⟩:=rz h
 refine enter Tryz.func21 rfl (n:=161) rfl ?_
 unfold f21_b at h
 refine sr (m2 vN (wt (wp_seq (sr (m1 (sl b2 a4 b3) (lS a4.length Tye36 (m1 (sl cy a5 cz) (lS a5.length Tye36 (c0 ((a4.length:Int) != (a5.length:Int)) (wt (cd h (fun dY h=>?_) (fun dY h=>?_))))))))))))
 ·refine cT dY (sr (m2 vN (wt (wp_ret (thenR ?_)))))
  cases (oi h).trans hr_
  exact retA1 rfl (resT rfl) ⟨K,rfl,es⟩
 ·refine cF dY (wp_skip (thenN (wp_seq (sr (m2 (iI 0) (wt (wp_block (wp_loopG (fun g_ a w=>∃ et D bE,∃ (ao:Nat),g_=bE.length∧a=fr 161 (updL et [(0,sl b2 a4 b3),(1,sl cy a5 cz),(5,iI (ao:Int))])∧KH.sub K D∧SR K D wi w [] []∧a4.drop ao=bE∧f21_l1 k F a5 bE ao=some r_) a4.length ?_ ?_))))))))
  ·exact ⟨_,K,a4,0,rfl,fR,kr,es,List.drop_zero,h⟩
  ·rintro _ _ cJ ⟨et,D,bE,ao,rfl,rfl,cA,eu,dm,h⟩
   rcases bE with _ | ⟨⟨aq,ar,au,av,aw,ax,ay,az,aA,aB,aE⟩,bE⟩
   ·unfold f21_l1 at h
    refine wp_seq (sr (m1 (iI (ao:Int)) (m1 (sl b2 a4 b3) (lS a4.length Tye36 (bcm (r:=false) rfl rfl (congrArg some (drop_nil_lt dm)) (wt (cndF rfl (wp_exit (thenX (thenX (blkX (thenN (sr (m2 vT (wt (wp_ret ?_))))))))))))))))
    cases (oi h).trans hr_
    exact retA1 rfl (resT rfl) ⟨D,rfl,eu⟩
   ·unfold f21_l1 at h
    refine wp_seq (sr (m1 (iI (ao:Int)) (m1 (sl b2 a4 b3) (lS a4.length Tye36 (bcm (r:=true) rfl rfl (congrArg some (drop_cons_t dm)) (wt (cndT rfl (wp_skip (thenN (wp_seq (wp_block (wp_cut (fun a w=>∃ ew bo b4 bx bF bz bG bH b5 b9 cb bI cc ce bJ cf ch bK ci cj aF bA bB bp b6 bC bL bD bM bN b7 ck cl bO cm cn bP co cq bQ cr ct ap bb bd,a=fr 161 (updL ew [(0,sl b2 a4 b3),(1,sl cy a5 cz),(5,iI (ao:Int)),(6,pp bo 0),(7,pp bp 0)])∧SR K D wi w [] [.box (zz wi) bo (vS b4 bx bF bz bG bH b9 b5 cb cc bI ce cf bJ ch ci bK cj bA aF bB).toArray 42,.box (zz wi) bp (vS b6 bC bL bD bM bN ck b7 cl cm bO cn co bP cq cr bQ ct bb ap bd).toArray 42]∧bx.size ≤ mB∧bz.size ≤ mB∧tE D b9 cb b5∧tS D cc ce bI∧tS D cf ch bJ∧tS D ci cj bK∧tC D bA bB aF∧bC.size ≤ mB∧bD.size ≤ mB∧tE D ck cl b7∧tS D cm cn bO∧tS D co cq bP∧tS D cr ct bQ∧tC D bb bd ap∧f21_j1 k F ao b4 bx bF bz bG bH b5 bI bJ bK aF b6 bC bL bD bM bN b7 bO bP bQ ap (f21_l1 k F a5 bE)=some r_) ?_ ?_))))))))))))
    ·have bR:=eu.drew
     refine regAny (E:=[10,11]) (F:=FW D []) (L:=(lb 12 0)) ymx rfl rfl (tk 0 (sl b2 a4 b3) (lb 12 1) rfl (fun w=>mv_r (v:=sl b2 a4 b3) rfl) (heldF (fq [] bR)) (tk 1 (iI (ao:Int)) (lb 12 3) rfl (fun w=>mv_r (v:=iI (ao:Int)) rfl) (heldF (fq [] bR)) ?_))
     obtain ⟨ex,ey,fF,eS,fG,eT,eU⟩:=((ms eq cA)).row.at_ (drop_cons_at dm)
     obtain ⟨aG,aH,aI,aJ,aK,aL,aM,aN,aP,aQ,rfl,cK,cL,cM,cN,cO,cP,cQ⟩:=RDStmt.open eU
     refine tk 2 (pp ex (ey + ao * 11)) (lb 12 7) rfl (fun w=>idxN_r (b:=ex) (o:=ey) (i:=ao) Tye36 Tys42 rfl eS rfl (drop_cons_lt dm)) (heldF (fq [] bR)) (tf 3 (.agg (vS aq ar au av aw ax aG ay aH aI az aJ aK aA aL aM aB aN aP aE aQ).toArray) ([[10,3],[11,3]]) (lb 12 15) rfl (fq [] bR) (fun w hF=>ldN_r (cs:=(vS aq ar au av aw ax aG ay aH aI az aJ aK aA aL aM aB aN aP aE aQ)) Tya42 Tys42 rfl rfl (fun j v hj=>hF.cell (kr.cell (eT j v hj)))) (tk 4 (sl cy a5 cz) (lb 12 31) rfl (fun w=>mv_r (v:=sl cy a5 cz) rfl) (heldF (fq [] bR)) (tk 5 (iI (ao:Int)) (lb 12 63) rfl (fun w=>mv_r (v:=iI (ao:Int)) rfl) (heldF (fq [] bR)) ?_)))
     obtain ⟨⟨G,I,J,N,O,S,U,V,W,X,Y⟩,dZ,h⟩:=ob h
     obtain ⟨ez,eA,fH,eV,fI,c6,eW⟩:=((ms eR cA)).row.at_ (idxO_at dZ).1
     obtain ⟨Z,ab,ac,ad,ae,af,ag,ah,ai,aj,rfl,cR,cS,cU,cV,cW,cX,cY⟩:=RDStmt.open eW
     refine tk 6 (.pointer (some ⟨ez,eA + (ao:Int).toNat * 11,none⟩)) (lb 12 127) rfl (fun w=>idxG_r (b:=ez) (o:=eA) (i:=(ao:Int)) Tye36 Tys42 rfl eV rfl (idxO_at dZ).2.1 (idxO_at dZ).2.2) (heldF (fq [] bR)) (anyAll (rs:=[7,8,9]) (by kernel_rfl) (by decide) (allC ?_ (allC ?_ (allC ?_ allN))))
     ·refine opL (i:=7) rfl (lD (vS G I J N O S Z U ab ac V ad ae W af ag X ah ai Y aj) Tya42 Tys42 rfl (fun j v hj=>bR.cell (kr.cell (c6 j v hj))) (wt ⟨heldF (fq [] bR),anyAll (rs:=[8,9]) (by kernel_rfl) (by decide) (allC ?_ (allC ?_ allN))⟩))
      ·exact opL (i:=8) rfl (aC zS.toArray bR Tyz42 (fun cu be=>(wt ⟨heldF (fq [] be),aO 9 rfl (aC zS.toArray be Tyz42 (fun dx aV=>(wt ⟨heldF (fq [] aV),aO 10 rfl (sI 1 (.agg (vS aq ar au av aw ax aG ay aH aI az aJ aK aA aL aM aB aN aP aE aQ).toArray) ((vS aq ar au av aw ax aG ay aH aI az aJ aK aA aL aM aB aN aP aE aQ).toArray) aV Tys42 rfl rfl (fun c7 bf=>(wt ⟨heldE (i:=10) rfl rfl,aO 11 rfl (sI 0 (.agg (vS G I J N O S Z U ab ac V ad ae W af ag X ah ai Y aj).toArray) ((vS G I J N O S Z U ab ac V ad ae W af ag X ah ai Y aj).toArray) bf Tys42 rfl rfl (fun c8 bq=>(wt ⟨heldE (i:=11) rfl rfl,aD (thenN (⟨_,(zz cJ.drew),aq,ar,au,av,aw,ax,ay,aG,aH,az,aI,aJ,aA,aK,aL,aB,aM,aN,aE,aP,aQ,(zz cu),G,I,J,N,O,S,U,Z,ab,V,ac,ad,W,ae,af,X,ag,ah,Y,ai,aj,fR,(bq.sel [1,0]),cK,cL,cM,cN,cO,cP,cQ,cR,cS,cU,cV,cW,cX,cY,h⟩))⟩)))⟩)))⟩)))⟩)))
      ·exact opL (i:=9) rfl (aC zS.toArray bR Tyz42 (fun cu be=>(wt ⟨heldF (fq [] be),aO 8 rfl (aC zS.toArray be Tyz42 (fun dx aV=>(wt ⟨heldF (fq [] aV),aO 10 rfl (sI 0 (.agg (vS aq ar au av aw ax aG ay aH aI az aJ aK aA aL aM aB aN aP aE aQ).toArray) ((vS aq ar au av aw ax aG ay aH aI az aJ aK aA aL aM aB aN aP aE aQ).toArray) aV Tys42 rfl rfl (fun c7 bf=>(wt ⟨heldE (i:=10) rfl rfl,aO 11 rfl (sI 1 (.agg (vS G I J N O S Z U ab ac V ad ae W af ag X ah ai Y aj).toArray) ((vS G I J N O S Z U ab ac V ad ae W af ag X ah ai Y aj).toArray) bf Tys42 rfl rfl (fun c8 bq=>(wt ⟨heldE (i:=11) rfl rfl,aD (thenN (⟨_,(zz cu),aq,ar,au,av,aw,ax,ay,aG,aH,az,aI,aJ,aA,aK,aL,aB,aM,aN,aE,aP,aQ,(zz cJ.drew),G,I,J,N,O,S,U,Z,ab,V,ac,ad,W,ae,af,X,ag,ah,Y,ai,aj,fR,bq,cK,cL,cM,cN,cO,cP,cQ,cR,cS,cU,cV,cW,cX,cY,h⟩))⟩)))⟩)))⟩)))⟩)))
     ·refine opL (i:=8) rfl (aC zS.toArray bR Tyz42 (fun cu be=>(wt ⟨heldF (fq [] be),anyAll (rs:=[7,9]) (by kernel_rfl) (by decide) (allC ?_ (allC ?_ allN))⟩)))
      ·exact opL (i:=7) rfl (lD (vS G I J N O S Z U ab ac V ad ae W af ag X ah ai Y aj) Tya42 Tys42 rfl (fun j v hj=>be.cell (kr.cell (c6 j v hj))) (wt ⟨heldF (fq [] be),aO 9 rfl (aC zS.toArray be Tyz42 (fun dx aV=>(wt ⟨heldF (fq [] aV),aO 10 rfl (sI 1 (.agg (vS aq ar au av aw ax aG ay aH aI az aJ aK aA aL aM aB aN aP aE aQ).toArray) ((vS aq ar au av aw ax aG ay aH aI az aJ aK aA aL aM aB aN aP aE aQ).toArray) aV Tys42 rfl rfl (fun c7 bf=>(wt ⟨heldE (i:=10) rfl rfl,aO 11 rfl (sI 0 (.agg (vS G I J N O S Z U ab ac V ad ae W af ag X ah ai Y aj).toArray) ((vS G I J N O S Z U ab ac V ad ae W af ag X ah ai Y aj).toArray) bf Tys42 rfl rfl (fun c8 bq=>(wt ⟨heldE (i:=11) rfl rfl,aD (thenN (⟨_,(zz cJ.drew),aq,ar,au,av,aw,ax,ay,aG,aH,az,aI,aJ,aA,aK,aL,aB,aM,aN,aE,aP,aQ,(zz cu),G,I,J,N,O,S,U,Z,ab,V,ac,ad,W,ae,af,X,ag,ah,Y,ai,aj,fR,(bq.sel [1,0]),cK,cL,cM,cN,cO,cP,cQ,cR,cS,cU,cV,cW,cX,cY,h⟩))⟩)))⟩)))⟩)))⟩))
      ·refine opL (i:=9) rfl (aC zS.toArray be Tyz42 (fun dx aV=>(wt ⟨heldF (fq [] aV),anyAll (rs:=[7,10]) (by kernel_rfl) (by decide) (allC ?_ (allC ?_ allN))⟩)))
       ·exact opL (i:=7) rfl (lD (vS G I J N O S Z U ab ac V ad ae W af ag X ah ai Y aj) Tya42 Tys42 rfl (fun j v hj=>aV.cell (kr.cell (c6 j v hj))) (wt ⟨heldF (fq [] aV),aO 10 rfl (sI 1 (.agg (vS aq ar au av aw ax aG ay aH aI az aJ aK aA aL aM aB aN aP aE aQ).toArray) ((vS aq ar au av aw ax aG ay aH aI az aJ aK aA aL aM aB aN aP aE aQ).toArray) aV Tys42 rfl rfl (fun c7 bf=>(wt ⟨heldE (i:=10) rfl rfl,aO 11 rfl (sI 0 (.agg (vS G I J N O S Z U ab ac V ad ae W af ag X ah ai Y aj).toArray) ((vS G I J N O S Z U ab ac V ad ae W af ag X ah ai Y aj).toArray) bf Tys42 rfl rfl (fun c8 bq=>(wt ⟨heldE (i:=11) rfl rfl,aD (thenN (⟨_,(zz cJ.drew),aq,ar,au,av,aw,ax,ay,aG,aH,az,aI,aJ,aA,aK,aL,aB,aM,aN,aE,aP,aQ,(zz cu),G,I,J,N,O,S,U,Z,ab,V,ac,ad,W,ae,af,X,ag,ah,Y,ai,aj,fR,(bq.sel [1,0]),cK,cL,cM,cN,cO,cP,cQ,cR,cS,cU,cV,cW,cX,cY,h⟩))⟩)))⟩)))⟩))
       ·exact opL (i:=10) rfl (sI 1 (.agg (vS aq ar au av aw ax aG ay aH aI az aJ aK aA aL aM aB aN aP aE aQ).toArray) ((vS aq ar au av aw ax aG ay aH aI az aJ aK aA aL aM aB aN aP aE aQ).toArray) aV Tys42 rfl rfl (fun c7 bf=>(wt ⟨heldE (i:=10) rfl rfl,aO 7 rfl (lD (vS G I J N O S Z U ab ac V ad ae W af ag X ah ai Y aj) Tya42 Tys42 rfl (fun j v hj=>bf.cell (kr.cell (c6 j v hj))) (wt ⟨heldE (i:=10) rfl rfl,aO 11 rfl (sI 0 (.agg (vS G I J N O S Z U ab ac V ad ae W af ag X ah ai Y aj).toArray) ((vS G I J N O S Z U ab ac V ad ae W af ag X ah ai Y aj).toArray) bf Tys42 rfl rfl (fun c8 bq=>(wt ⟨heldE (i:=11) rfl rfl,aD (thenN (⟨_,(zz cJ.drew),aq,ar,au,av,aw,ax,ay,aG,aH,az,aI,aJ,aA,aK,aL,aB,aM,aN,aE,aP,aQ,(zz cu),G,I,J,N,O,S,U,Z,ab,V,ac,ad,W,ae,af,X,ag,ah,Y,ai,aj,fR,(bq.sel [1,0]),cK,cL,cM,cN,cO,cP,cQ,cR,cS,cU,cV,cW,cX,cY,h⟩))⟩)))⟩))⟩)))
     ·refine opL (i:=9) rfl (aC zS.toArray bR Tyz42 (fun cu be=>(wt ⟨heldF (fq [] be),anyAll (rs:=[7,8]) (by kernel_rfl) (by decide) (allC ?_ (allC ?_ allN))⟩)))
      ·exact opL (i:=7) rfl (lD (vS G I J N O S Z U ab ac V ad ae W af ag X ah ai Y aj) Tya42 Tys42 rfl (fun j v hj=>be.cell (kr.cell (c6 j v hj))) (wt ⟨heldF (fq [] be),aO 8 rfl (aC zS.toArray be Tyz42 (fun dx aV=>(wt ⟨heldF (fq [] aV),aO 10 rfl (sI 0 (.agg (vS aq ar au av aw ax aG ay aH aI az aJ aK aA aL aM aB aN aP aE aQ).toArray) ((vS aq ar au av aw ax aG ay aH aI az aJ aK aA aL aM aB aN aP aE aQ).toArray) aV Tys42 rfl rfl (fun c7 bf=>(wt ⟨heldE (i:=10) rfl rfl,aO 11 rfl (sI 1 (.agg (vS G I J N O S Z U ab ac V ad ae W af ag X ah ai Y aj).toArray) ((vS G I J N O S Z U ab ac V ad ae W af ag X ah ai Y aj).toArray) bf Tys42 rfl rfl (fun c8 bq=>(wt ⟨heldE (i:=11) rfl rfl,aD (thenN (⟨_,(zz cu),aq,ar,au,av,aw,ax,ay,aG,aH,az,aI,aJ,aA,aK,aL,aB,aM,aN,aE,aP,aQ,(zz cJ.drew),G,I,J,N,O,S,U,Z,ab,V,ac,ad,W,ae,af,X,ag,ah,Y,ai,aj,fR,bq,cK,cL,cM,cN,cO,cP,cQ,cR,cS,cU,cV,cW,cX,cY,h⟩))⟩)))⟩)))⟩)))⟩))
      ·refine opL (i:=8) rfl (aC zS.toArray be Tyz42 (fun dx aV=>(wt ⟨heldF (fq [] aV),anyAll (rs:=[7,10]) (by kernel_rfl) (by decide) (allC ?_ (allC ?_ allN))⟩)))
       ·exact opL (i:=7) rfl (lD (vS G I J N O S Z U ab ac V ad ae W af ag X ah ai Y aj) Tya42 Tys42 rfl (fun j v hj=>aV.cell (kr.cell (c6 j v hj))) (wt ⟨heldF (fq [] aV),aO 10 rfl (sI 0 (.agg (vS aq ar au av aw ax aG ay aH aI az aJ aK aA aL aM aB aN aP aE aQ).toArray) ((vS aq ar au av aw ax aG ay aH aI az aJ aK aA aL aM aB aN aP aE aQ).toArray) aV Tys42 rfl rfl (fun c7 bf=>(wt ⟨heldE (i:=10) rfl rfl,aO 11 rfl (sI 1 (.agg (vS G I J N O S Z U ab ac V ad ae W af ag X ah ai Y aj).toArray) ((vS G I J N O S Z U ab ac V ad ae W af ag X ah ai Y aj).toArray) bf Tys42 rfl rfl (fun c8 bq=>(wt ⟨heldE (i:=11) rfl rfl,aD (thenN (⟨_,(zz cu),aq,ar,au,av,aw,ax,ay,aG,aH,az,aI,aJ,aA,aK,aL,aB,aM,aN,aE,aP,aQ,(zz cJ.drew),G,I,J,N,O,S,U,Z,ab,V,ac,ad,W,ae,af,X,ag,ah,Y,ai,aj,fR,bq,cK,cL,cM,cN,cO,cP,cQ,cR,cS,cU,cV,cW,cX,cY,h⟩))⟩)))⟩)))⟩))
       ·exact opL (i:=10) rfl (sI 0 (.agg (vS aq ar au av aw ax aG ay aH aI az aJ aK aA aL aM aB aN aP aE aQ).toArray) ((vS aq ar au av aw ax aG ay aH aI az aJ aK aA aL aM aB aN aP aE aQ).toArray) aV Tys42 rfl rfl (fun c7 bf=>(wt ⟨heldE (i:=10) rfl rfl,aO 7 rfl (lD (vS G I J N O S Z U ab ac V ad ae W af ag X ah ai Y aj) Tya42 Tys42 rfl (fun j v hj=>bf.cell (kr.cell (c6 j v hj))) (wt ⟨heldE (i:=10) rfl rfl,aO 11 rfl (sI 1 (.agg (vS G I J N O S Z U ab ac V ad ae W af ag X ah ai Y aj).toArray) ((vS G I J N O S Z U ab ac V ad ae W af ag X ah ai Y aj).toArray) bf Tys42 rfl rfl (fun c8 bq=>(wt ⟨heldE (i:=11) rfl rfl,aD (thenN (⟨_,(zz cu),aq,ar,au,av,aw,ax,ay,aG,aH,az,aI,aJ,aA,aK,aL,aB,aM,aN,aE,aP,aQ,(zz cJ.drew),G,I,J,N,O,S,U,Z,ab,V,ac,ad,W,ae,af,X,ag,ah,Y,ai,aj,fR,bq,cK,cL,cM,cN,cO,cP,cQ,cR,cS,cU,cV,cW,cX,cY,h⟩))⟩)))⟩))⟩)))
    ·rintro _ fJ ⟨ew,bo,b4,bx,bF,bz,bG,bH,b5,b9,cb,bI,cc,ce,bJ,cf,ch,bK,ci,cj,aF,bA,bB,bp,b6,bC,bL,bD,bM,bN,b7,ck,cl,bO,cm,cn,bP,co,cq,bQ,cr,ct,ap,bb,bd,rfl,aW,fK,fL,eX,eY,eZ,e0,eB,fM,fN,e1,e2,e3,e4,c9,h⟩
     unfold f21_j1 at h
     refine wp_seq (wp_cut (fun a w=>∃ eC dy d0,a=fr 161 (updL eC [(0,sl b2 a4 b3),(1,sl cy a5 cz),(5,iI (ao:Int)),(6,pp bo 0),(7,pp bp 0),(77,.bool d0)])∧KH.sub D dy∧SR K dy wi w [] [.box (zz wi) bo (vS b4 bx bF bz bG bH b9 b5 cb cc bI ce cf bJ ch ci bK cj bA aF bB).toArray 42,.box (zz wi) bp (vS b6 bC bL bD bM bN ck b7 cl cm bO cn co bP cq cr bQ ct bb ap bd).toArray 42]∧f21_j2 k F ao bI bJ bK aF bO bP bQ ap d0 (f21_l1 k F a5 bE)=some r_) ?_ ?_)
     ·refine wp_region_lit (fd 0 Tyf42_0 rfl (l1 0 (iI b4) aW Tya3 (fd 0 Tyf42_0 rfl (l1 1 (iI b6) aW Tya3 (c0 (b4 != b6) (m1 (.bool (b4 != b6)) (cd h (fun bS h=>?_) (fun bS h=>?_))))))))
      ·exact o1 35 bS (o1 35 bS (o1 35 bS (o1 35 bS (o1 35 bS (m3 true vT (cg bS) (m1 vT (o0 42 (o0 42 (o0 42 (o0 42 (o0 42 (m3 true vT rfl (m1 vT (o0 49 (o0 49 (o0 49 (o0 49 (o0 49 (m3 true vT rfl (m1 vT (o0 56 (o0 56 (o0 56 (o0 56 (o0 56 (m3 true vT rfl (m1 vT (o0 63 (o0 63 (o0 63 (o0 63 (o0 63 (m3 true vT rfl (m1 vT (o0 70 (o0 70 (o0 70 (o0 70 (o0 70 (o0 70 (m3 true vT rfl (wt (⟨_,D,true,fR,kr,aW,h⟩)))))))))))))))))))))))))))))))))))))))))))
      ·refine n1 35 bS (fd 1 Tyf42_1 rfl (n1 35 bS (l1 0 (.string bx) aW Tya9 (n1 35 bS (fd 1 Tyf42_1 rfl (n1 35 bS (l1 1 (.string bC) aW Tya9 (n1 35 bS (bsc (r:=(!seq bx bC)) rfl rfl rfl (m3 false (.bool (!seq bx bC)) (cg bS) (m1 (.bool (!seq bx bC)) (cd h (fun bT h=>?_) (fun bT h=>?_)))))))))))))
       ·exact o1 42 bT (o1 42 bT (o1 42 bT (o1 42 bT (o1 42 bT (m3 true vT (cg bT) (m1 vT (o0 49 (o0 49 (o0 49 (o0 49 (o0 49 (m3 true vT rfl (m1 vT (o0 56 (o0 56 (o0 56 (o0 56 (o0 56 (m3 true vT rfl (m1 vT (o0 63 (o0 63 (o0 63 (o0 63 (o0 63 (m3 true vT rfl (m1 vT (o0 70 (o0 70 (o0 70 (o0 70 (o0 70 (o0 70 (m3 true vT rfl (wt (⟨_,D,true,fR,kr,aW,h⟩))))))))))))))))))))))))))))))))))))
       ·refine n1 42 bT (fd 2 Tyf42_2 rfl (n1 42 bT (l1 0 (iI bF) aW Tya3 (n1 42 bT (fd 2 Tyf42_2 rfl (n1 42 bT (l1 1 (iI bL) aW Tya3 (n1 42 bT (c0 (bF != bL) (m3 false (.bool (bF != bL)) (cg bT) (m1 (.bool (bF != bL)) (cd h (fun bU h=>?_) (fun bU h=>?_)))))))))))))
        ·exact o1 49 bU (o1 49 bU (o1 49 bU (o1 49 bU (o1 49 bU (m3 true vT (cg bU) (m1 vT (o0 56 (o0 56 (o0 56 (o0 56 (o0 56 (m3 true vT rfl (m1 vT (o0 63 (o0 63 (o0 63 (o0 63 (o0 63 (m3 true vT rfl (m1 vT (o0 70 (o0 70 (o0 70 (o0 70 (o0 70 (o0 70 (m3 true vT rfl (wt (⟨_,D,true,fR,kr,aW,h⟩)))))))))))))))))))))))))))))
        ·refine n1 49 bU (fd 3 Tyf42_3 rfl (n1 49 bU (l1 0 (.string bz) aW Tya9 (n1 49 bU (fd 3 Tyf42_3 rfl (n1 49 bU (l1 1 (.string bD) aW Tya9 (n1 49 bU (bsc (r:=(!seq bz bD)) rfl rfl rfl (m3 false (.bool (!seq bz bD)) (cg bU) (m1 (.bool (!seq bz bD)) (cd h (fun bV h=>?_) (fun bV h=>?_)))))))))))))
         ·exact o1 56 bV (o1 56 bV (o1 56 bV (o1 56 bV (o1 56 bV (m3 true vT (cg bV) (m1 vT (o0 63 (o0 63 (o0 63 (o0 63 (o0 63 (m3 true vT rfl (m1 vT (o0 70 (o0 70 (o0 70 (o0 70 (o0 70 (o0 70 (m3 true vT rfl (wt (⟨_,D,true,fR,kr,aW,h⟩))))))))))))))))))))))
         ·refine n1 56 bV (fd 4 Tyf42_4 rfl (n1 56 bV (l1 0 (iI bG) aW Tya3 (n1 56 bV (fd 4 Tyf42_4 rfl (n1 56 bV (l1 1 (iI bM) aW Tya3 (n1 56 bV (c0 (bG != bM) (m3 false (.bool (bG != bM)) (cg bV) (m1 (.bool (bG != bM)) (cd h (fun bW h=>?_) (fun bW h=>?_)))))))))))))
          ·exact o1 63 bW (o1 63 bW (o1 63 bW (o1 63 bW (o1 63 bW (m3 true vT (cg bW) (m1 vT (o0 70 (o0 70 (o0 70 (o0 70 (o0 70 (o0 70 (m3 true vT rfl (wt (⟨_,D,true,fR,kr,aW,h⟩)))))))))))))))
          ·refine n1 63 bW (fd 5 Tyf42_5 rfl (n1 63 bW (l1 0 (iI bH) aW Tya3 (n1 63 bW (fd 5 Tyf42_5 rfl (n1 63 bW (l1 1 (iI bN) aW Tya3 (n1 63 bW (c0 (bH != bN) (m3 false (.bool (bH != bN)) (cg bW) (m1 (.bool (bH != bN)) (cd h (fun br h=>?_) (fun br h=>?_)))))))))))))
           ·exact o1 70 br (o1 70 br (o1 70 br (o1 70 br (o1 70 br (o1 70 br (m3 true vT (cg br) (wt (⟨_,D,true,fR,kr,aW,h⟩))))))))
           ·refine n1 70 br (fd 6 Tyf42_6 rfl (n1 70 br (l1 0 (sl b9 b5 cb) aW Tya39 (n1 70 br (fd 6 Tyf42_6 rfl (n1 70 br (l1 1 (sl ck b7 cl) aW Tya39 (n1 70 br ?_))))))))
            obtain ⟨d1,e5,h⟩:=ob h
            refine cv ([sl b9 b5 cb,sl ck b7 cl]) Tyb48 ((f48_ok k) e5 (hG.mono cA) eX e1 (pt aW)) ?_
            rintro _ fO ⟨e6,rfl,eD⟩
            have e7:=ca eD aW
            exact n1 70 br (uN d1 (m3 false (.bool (!d1)) (cg br) (wt (⟨_,e6,(!d1),fR,eD.sub,e7,h⟩))))
     ·rintro _ fP ⟨eC,dy,d0,rfl,aX,dz,h⟩
      unfold f21_j2 at h
      refine cd h (fun d2 h=>?_) (fun d2 h=>?_)
      ·refine cT d2 (sr (m2 vN (wt (wp_ret (thenR (blkR (thenR (thenR (blkR (thenR ?_))))))))))
       cases (oi h).trans hr_
       exact retA1 rfl (resT rfl) ⟨dy,rfl,(dz.sel [])⟩
      ·refine cF d2 (wp_skip (thenN (wp_seq (wp_cut (fun a w=>∃ eE dn d3,a=fr 161 (updL eE [(0,sl b2 a4 b3),(1,sl cy a5 cz),(5,iI (ao:Int)),(6,pp bo 0),(7,pp bp 0),(108,.bool d3)])∧KH.sub dy dn∧SR K dn wi w [] [.box (zz wi) bo (vS b4 bx bF bz bG bH b9 b5 cb cc bI ce cf bJ ch ci bK cj bA aF bB).toArray 42,.box (zz wi) bp (vS b6 bC bL bD bM bN ck b7 cl cm bO cn co bP cq cr bQ ct bb ap bd).toArray 42]∧f21_j3 k F ao aF ap d3 (f21_l1 k F a5 bE)=some r_) ?_ ?_))))
       ·refine wp_region_lit (fd 7 Tyf42_7 rfl (l1 0 (sl cc bI ce) dz Tya36 (fd 7 Tyf42_7 rfl (l1 1 (sl cm bO cn) dz Tya36 ?_))))
        obtain ⟨eF,e8,h⟩:=ob h
        refine cv ([sl cc bI ce,sl cm bO cn]) Tyb21 (IH21 e8 (hG.mono (cA.trans aX)) (ms eY aX) (ms e2 aX) (pt dz)) ?_
        rintro _ fQ ⟨e9,rfl,cw⟩
        have dA:=ca cw dz
        refine uN eF (m1 (.bool (!eF)) (cd h (fun bs h=>?_) (fun bs h=>?_)))
        ·exact o1 84 bs (o1 84 bs (o1 84 bs (o1 84 bs (o1 84 bs (o1 84 bs (m3 true vT (cg bs) (m1 vT (o0 92 (o0 92 (o0 92 (o0 92 (o0 92 (o0 92 (m3 true vT rfl (m1 vT (o0 100 (o0 100 (o0 100 (o0 100 (o0 100 (o0 100 (o0 100 (m3 true vT rfl (wt (⟨_,e9,true,fR,cw.sub,dA,h⟩)))))))))))))))))))))))))
        ·refine n1 84 bs (fd 8 Tyf42_8 rfl (n1 84 bs (l1 0 (sl cf bJ ch) dA Tya36 (n1 84 bs (fd 8 Tyf42_8 rfl (n1 84 bs (l1 1 (sl co bP cq) dA Tya36 (n1 84 bs ?_))))))))
         obtain ⟨d4,fa,h⟩:=ob h
         refine cv ([sl cf bJ ch,sl co bP cq]) Tyb21 (IH21 fa (hG.mono ((cA.trans aX).trans cw.sub)) (ms eZ (aX.trans cw.sub)) (ms e3 (aX.trans cw.sub)) (pt dA)) ?_
         rintro _ fS ⟨fb,rfl,da⟩
         have dB:=ca da dA
         refine n1 84 bs (uN d4 (m3 false (.bool (!d4)) (cg bs) (m1 (.bool (!d4)) (cd h (fun bu h=>?_) (fun bu h=>?_)))))
         ·exact o1 92 bu (o1 92 bu (o1 92 bu (o1 92 bu (o1 92 bu (o1 92 bu (m3 true vT (cg bu) (m1 vT (o0 100 (o0 100 (o0 100 (o0 100 (o0 100 (o0 100 (o0 100 (m3 true vT rfl (wt (⟨_,fb,true,fR,(cw.sub.trans da.sub),dB,h⟩)))))))))))))))))
         ·refine n1 92 bu (fd 9 Tyf42_9 rfl (n1 92 bu (l1 0 (sl ci bK cj) dB Tya36 (n1 92 bu (fd 9 Tyf42_9 rfl (n1 92 bu (l1 1 (sl cr bQ ct) dB Tya36 (n1 92 bu ?_))))))))
          obtain ⟨d5,fc,h⟩:=ob h
          refine cv ([sl ci bK cj,sl cr bQ ct]) Tyb21 (IH21 fc (hG.mono (((cA.trans aX).trans cw.sub).trans da.sub)) (ms e0 ((aX.trans cw.sub).trans da.sub)) (ms e4 ((aX.trans cw.sub).trans da.sub)) (pt dB)) ?_
          rintro _ fT ⟨eG,rfl,d6⟩
          have dW:=ca d6 dB
          refine n1 92 bu (uN d5 (m3 false (.bool (!d5)) (cg bu) (m1 (.bool (!d5)) (cd h (fun bg h=>?_) (fun bg h=>?_)))))
          ·exact o1 100 bg (o1 100 bg (o1 100 bg (o1 100 bg (o1 100 bg (o1 100 bg (o1 100 bg (m3 true vT (cg bg) (wt (⟨_,eG,true,fR,((cw.sub.trans da.sub).trans d6.sub),dW,h⟩)))))))))
          ·exact n1 100 bg (fd 10 Tyf42_10 rfl (n1 100 bg (l1 0 (sl bA aF bB) dW Tya40 (n1 100 bg (lS aF.length Tye40 (n1 100 bg (fd 10 Tyf42_10 rfl (n1 100 bg (l1 1 (sl bb ap bd) dW Tya40 (n1 100 bg (lS ap.length Tye40 (n1 100 bg (c0 ((aF.length:Int) != (ap.length:Int)) (m3 false (.bool ((aF.length:Int) != (ap.length:Int))) (cg bg) (wt (⟨_,eG,((aF.length:Int) != (ap.length:Int)),fR,((cw.sub.trans da.sub).trans d6.sub),dW,h⟩))))))))))))))))
       ·rintro _ fU ⟨eE,dn,d3,rfl,b8,eH,h⟩
        unfold f21_j3 at h
        refine cd h (fun d7 h=>?_) (fun d7 h=>?_)
        ·refine cT d7 (sr (m2 vN (wt (wp_ret (thenR (blkR (thenR (thenR (blkR (thenR ?_))))))))))
         cases (oi h).trans hr_
         exact retA1 rfl (resT rfl) ⟨dn,rfl,(eH.sel [])⟩
        ·refine cF d7 (wp_skip (thenN (sr (m2 (iI 0) (wt (wp_block (wp_loopG (fun g_ a w=>∃ eI a9 cB,∃ (C:Nat),g_=cB.length∧a=fr 161 (updL eI [(0,sl b2 a4 b3),(1,sl cy a5 cz),(5,iI (ao:Int)),(6,pp bo 0),(7,pp bp 0),(8,iI (C:Int))])∧KH.sub dn a9∧SR K a9 wi w [] [.box (zz wi) bo (vS b4 bx bF bz bG bH b9 b5 cb cc bI ce cf bJ ch ci bK cj bA aF bB).toArray 42,.box (zz wi) bp (vS b6 bC bL bD bM bN ck b7 cl cm bO cn co bP cq cr bQ ct bb ap bd).toArray 42]∧aF.drop C=cB∧f21_l2 k F ao ap (f21_l1 k F a5 bE) cB C=some r_) aF.length ?_ ?_)))))))
         ·exact ⟨_,dn,aF,0,rfl,fR,kr,eH,List.drop_zero,h⟩
         ·rintro _ _ aY ⟨eI,a9,cB,C,rfl,rfl,bX,dX,dp,h⟩
          rcases cB with _ | ⟨⟨l,m,p,q,s⟩,cB⟩
          ·unfold f21_l2 at h
           exact wp_seq (sr (m1 (iI (C:Int)) (fd 10 Tyf42_10 rfl (l1 0 (sl bA aF bB) dX Tya40 (lS aF.length Tye40 (bcm (r:=false) rfl rfl (congrArg some (drop_nil_lt dp)) (wt (cndF rfl (wp_exit (thenX (thenX (blkX (blkN (thenN (wp_region_lit (m1 (iI (ao:Int)) (bar (r:=((ao + 1:Nat):Int)) rfl rfl (inc_ok (le_big (((ms eq cA)).len) (by decide) (drop_cons_lt dm))) (m2 (iI ((ao + 1:Nat):Int)) (wt (⟨_,Nat.lt_succ_self _,_,a9,bE,ao + 1,rfl,fR,(((cA.trans aX).trans b8).trans bX),(dX.sel []),drop_cons_next dm,h⟩))))))))))))))))))))
          ·unfold f21_l2 at h
           refine wp_seq (sr (m1 (iI (C:Int)) (fd 10 Tyf42_10 rfl (l1 0 (sl bA aF bB) dX Tya40 (lS aF.length Tye40 (bcm (r:=true) rfl rfl (congrArg some (drop_cons_t dp)) (wt (cndT rfl (wp_skip (thenN (wp_seq (wp_block (wp_cut (fun a w=>∃ eJ d8 dq cZ db dr dC dD ds dE dF d9 dt c2 dc du dG dH dv dI dJ,a=fr 161 (updL eJ [(0,sl b2 a4 b3),(1,sl cy a5 cz),(5,iI (ao:Int)),(6,pp bo 0),(7,pp bp 0),(8,iI (C:Int)),(9,pp d8 0),(10,pp d9 0)])∧SR K a9 wi w [] [.box (zz wi) bo (vS b4 bx bF bz bG bH b9 b5 cb cc bI ce cf bJ ch ci bK cj bA aF bB).toArray 42,.box (zz wi) bp (vS b6 bC bL bD bM bN ck b7 cl cm bO cn co bP cq cr bQ ct bb ap bd).toArray 42,.box (zz wi) d8 (vC dq cZ db dC dr dD dE ds dF).toArray 87,.box (zz wi) d9 (vC dt c2 dc dG du dH dI dv dJ).toArray 87]∧cZ.size ≤ mB∧tE a9 dC dD dr∧tS a9 dE dF ds∧c2.size ≤ mB∧tE a9 dG dH du∧tS a9 dI dJ dv∧f21_j4 k F C dq cZ db dr ds dt c2 dc du dv (f21_l2 k F ao ap (f21_l1 k F a5 bE) cB)=some r_) ?_ ?_)))))))))))))
           ·have ba:=dX.drew
            refine regAny (E:=[12,13]) (F:=FW a9 [.box (zz wi) bo (vS b4 bx bF bz bG bH b9 b5 cb cc bI ce cf bJ ch ci bK cj bA aF bB).toArray 42,.box (zz wi) bp (vS b6 bC bL bD bM bN ck b7 cl cm bO cn co bP cq cr bQ ct bb ap bd).toArray 42]) (L:=(lb 14 0)) ymx rfl rfl (tk 0 (pp bo 10) (lb 14 1) rfl (fun w=>fld_r (o':=10) Tyf42_10 rfl rfl) (heldF (fq [0,1] ba)) (tf 1 (sl bA aF bB) ([[12,1],[13,1]]) (lb 14 3) rfl (fq [0,1] ba) (fun w hF=>lb1_r (i:=0) (v:=sl bA aF bB) hF rfl Tya40 rfl rfl) (tk 2 (iI (C:Int)) (lb 14 7) rfl (fun w=>mv_r (v:=iI (C:Int)) rfl) (heldF (fq [0,1] ba)) ?_)))
            obtain ⟨eK,eL,fV,fe,fW,ff,fg⟩:=((mc eB ((aX.trans b8).trans bX))).row.at_ (drop_cons_at dp)
            obtain ⟨t,u,x,y,rfl,aZ,a2,a3⟩:=RDCase.open fg
            refine tk 3 (pp eK (eL + C * 5)) (lb 14 15) rfl (fun w=>idxN_r (b:=eK) (o:=eL) (i:=C) Tye40 Tys87 rfl fe rfl (drop_cons_lt dp)) (heldF (fq [0,1] ba)) (tf 4 (.agg (vC l m p t q u x s y).toArray) ([[12,4],[13,4]]) (lb 14 31) rfl (fq [0,1] ba) (fun w hF=>ldN_r (cs:=(vC l m p t q u x s y)) Tya87 Tys87 rfl rfl (fun j v hj=>hF.cell (kr.cell (ff j v hj)))) (tk 5 (pp bp 10) (lb 14 63) rfl (fun w=>fld_r (o':=10) Tyf42_10 rfl rfl) (heldF (fq [0,1] ba)) (tk 7 (iI (C:Int)) (lb 14 191) rfl (fun w=>mv_r (v:=iI (C:Int)) rfl) (heldF (fq [0,1] ba)) (anyAll (rs:=[6,10,11]) (by kernel_rfl) (by decide) (allC ?_ (allC ?_ (allC ?_ allN)))))))
            ·refine opL (i:=6) rfl (l1 1 (sl bb ap bd) ba Tya40 (wt ⟨heldF (fq [0,1] ba),?_⟩))
             obtain ⟨⟨c,d,e,f,g⟩,ea,h⟩:=ob h
             obtain ⟨eM,eN,fX,fh,fY,dd,fi⟩:=((mc c9 ((aX.trans b8).trans bX))).row.at_ (idxO_at ea).1
             obtain ⟨ak,al,am,an,rfl,c3,c4,c5⟩:=RDCase.open fi
             refine tk 8 (.pointer (some ⟨eM,eN + (C:Int).toNat * 5,none⟩)) (lb 14 511) rfl (fun w=>idxG_r (b:=eM) (o:=eN) (i:=(C:Int)) Tye40 Tys87 rfl fh rfl (idxO_at ea).2.1 (idxO_at ea).2.2) (heldF (fq [0,1] ba)) (anyAll (rs:=[9,10,11]) (by kernel_rfl) (by decide) (allC ?_ (allC ?_ (allC ?_ allN))))
             ·refine opL (i:=9) rfl (lD (vC c d e ak f al am g an) Tya87 Tys87 rfl (fun j v hj=>ba.cell (kr.cell (dd j v hj))) (wt ⟨heldF (fq [0,1] ba),anyAll (rs:=[10,11]) (by kernel_rfl) (by decide) (allC ?_ (allC ?_ allN))⟩))
              ·exact opL (i:=10) rfl (aC zC.toArray ba Tyz87 (fun cx bh=>(wt ⟨heldF (fq [1,2] bh),aO 11 rfl (aC zC.toArray bh Tyz87 (fun cC z=>(wt ⟨heldF (fq [2,3] z),aO 12 rfl (sI 1 (.agg (vC l m p t q u x s y).toArray) ((vC l m p t q u x s y).toArray) z Tys87 rfl rfl (fun bi A=>(wt ⟨heldE (i:=12) rfl rfl,aO 13 rfl (sI 0 (.agg (vC c d e ak f al am g an).toArray) ((vC c d e ak f al am g an).toArray) A Tys87 rfl rfl (fun a6 B=>(wt ⟨heldE (i:=13) rfl rfl,aD (thenN (⟨_,(zz aY.drew),l,m,p,q,t,u,s,x,y,(zz cx),c,d,e,f,ak,al,g,am,an,fR,(B.sel [2,3,1,0]),aZ,a2,a3,c3,c4,c5,h⟩))⟩)))⟩)))⟩)))⟩)))
              ·exact opL (i:=11) rfl (aC zC.toArray ba Tyz87 (fun cx bh=>(wt ⟨heldF (fq [1,2] bh),aO 10 rfl (aC zC.toArray bh Tyz87 (fun cC z=>(wt ⟨heldF (fq [2,3] z),aO 12 rfl (sI 0 (.agg (vC l m p t q u x s y).toArray) ((vC l m p t q u x s y).toArray) z Tys87 rfl rfl (fun bi A=>(wt ⟨heldE (i:=12) rfl rfl,aO 13 rfl (sI 1 (.agg (vC c d e ak f al am g an).toArray) ((vC c d e ak f al am g an).toArray) A Tys87 rfl rfl (fun a6 B=>(wt ⟨heldE (i:=13) rfl rfl,aD (thenN (⟨_,(zz cx),l,m,p,q,t,u,s,x,y,(zz aY.drew),c,d,e,f,ak,al,g,am,an,fR,(B.sel [2,3,0,1]),aZ,a2,a3,c3,c4,c5,h⟩))⟩)))⟩)))⟩)))⟩)))
             ·refine opL (i:=10) rfl (aC zC.toArray ba Tyz87 (fun cx bh=>(wt ⟨heldF (fq [1,2] bh),anyAll (rs:=[9,11]) (by kernel_rfl) (by decide) (allC ?_ (allC ?_ allN))⟩)))
              ·exact opL (i:=9) rfl (lD (vC c d e ak f al am g an) Tya87 Tys87 rfl (fun j v hj=>bh.cell (kr.cell (dd j v hj))) (wt ⟨heldF (fq [1,2] bh),aO 11 rfl (aC zC.toArray bh Tyz87 (fun cC z=>(wt ⟨heldF (fq [2,3] z),aO 12 rfl (sI 1 (.agg (vC l m p t q u x s y).toArray) ((vC l m p t q u x s y).toArray) z Tys87 rfl rfl (fun bi A=>(wt ⟨heldE (i:=12) rfl rfl,aO 13 rfl (sI 0 (.agg (vC c d e ak f al am g an).toArray) ((vC c d e ak f al am g an).toArray) A Tys87 rfl rfl (fun a6 B=>(wt ⟨heldE (i:=13) rfl rfl,aD (thenN (⟨_,(zz aY.drew),l,m,p,q,t,u,s,x,y,(zz cx),c,d,e,f,ak,al,g,am,an,fR,(B.sel [2,3,1,0]),aZ,a2,a3,c3,c4,c5,h⟩))⟩)))⟩)))⟩)))⟩))
              ·refine opL (i:=11) rfl (aC zC.toArray bh Tyz87 (fun cC z=>(wt ⟨heldF (fq [2,3] z),anyAll (rs:=[9,12]) (by kernel_rfl) (by decide) (allC ?_ (allC ?_ allN))⟩)))
               ·exact opL (i:=9) rfl (lD (vC c d e ak f al am g an) Tya87 Tys87 rfl (fun j v hj=>z.cell (kr.cell (dd j v hj))) (wt ⟨heldF (fq [2,3] z),aO 12 rfl (sI 1 (.agg (vC l m p t q u x s y).toArray) ((vC l m p t q u x s y).toArray) z Tys87 rfl rfl (fun bi A=>(wt ⟨heldE (i:=12) rfl rfl,aO 13 rfl (sI 0 (.agg (vC c d e ak f al am g an).toArray) ((vC c d e ak f al am g an).toArray) A Tys87 rfl rfl (fun a6 B=>(wt ⟨heldE (i:=13) rfl rfl,aD (thenN (⟨_,(zz aY.drew),l,m,p,q,t,u,s,x,y,(zz cx),c,d,e,f,ak,al,g,am,an,fR,(B.sel [2,3,1,0]),aZ,a2,a3,c3,c4,c5,h⟩))⟩)))⟩)))⟩))
               ·exact opL (i:=12) rfl (sI 1 (.agg (vC l m p t q u x s y).toArray) ((vC l m p t q u x s y).toArray) z Tys87 rfl rfl (fun bi A=>(wt ⟨heldE (i:=12) rfl rfl,aO 9 rfl (lD (vC c d e ak f al am g an) Tya87 Tys87 rfl (fun j v hj=>A.cell (kr.cell (dd j v hj))) (wt ⟨heldE (i:=12) rfl rfl,aO 13 rfl (sI 0 (.agg (vC c d e ak f al am g an).toArray) ((vC c d e ak f al am g an).toArray) A Tys87 rfl rfl (fun a6 B=>(wt ⟨heldE (i:=13) rfl rfl,aD (thenN (⟨_,(zz aY.drew),l,m,p,q,t,u,s,x,y,(zz cx),c,d,e,f,ak,al,g,am,an,fR,(B.sel [2,3,1,0]),aZ,a2,a3,c3,c4,c5,h⟩))⟩)))⟩))⟩)))
             ·refine opL (i:=11) rfl (aC zC.toArray ba Tyz87 (fun cx bh=>(wt ⟨heldF (fq [1,2] bh),anyAll (rs:=[9,10]) (by kernel_rfl) (by decide) (allC ?_ (allC ?_ allN))⟩)))
              ·exact opL (i:=9) rfl (lD (vC c d e ak f al am g an) Tya87 Tys87 rfl (fun j v hj=>bh.cell (kr.cell (dd j v hj))) (wt ⟨heldF (fq [1,2] bh),aO 10 rfl (aC zC.toArray bh Tyz87 (fun cC z=>(wt ⟨heldF (fq [2,3] z),aO 12 rfl (sI 0 (.agg (vC l m p t q u x s y).toArray) ((vC l m p t q u x s y).toArray) z Tys87 rfl rfl (fun bi A=>(wt ⟨heldE (i:=12) rfl rfl,aO 13 rfl (sI 1 (.agg (vC c d e ak f al am g an).toArray) ((vC c d e ak f al am g an).toArray) A Tys87 rfl rfl (fun a6 B=>(wt ⟨heldE (i:=13) rfl rfl,aD (thenN (⟨_,(zz cx),l,m,p,q,t,u,s,x,y,(zz aY.drew),c,d,e,f,ak,al,g,am,an,fR,(B.sel [2,3,0,1]),aZ,a2,a3,c3,c4,c5,h⟩))⟩)))⟩)))⟩)))⟩))
              ·refine opL (i:=10) rfl (aC zC.toArray bh Tyz87 (fun cC z=>(wt ⟨heldF (fq [2,3] z),anyAll (rs:=[9,12]) (by kernel_rfl) (by decide) (allC ?_ (allC ?_ allN))⟩)))
               ·exact opL (i:=9) rfl (lD (vC c d e ak f al am g an) Tya87 Tys87 rfl (fun j v hj=>z.cell (kr.cell (dd j v hj))) (wt ⟨heldF (fq [2,3] z),aO 12 rfl (sI 0 (.agg (vC l m p t q u x s y).toArray) ((vC l m p t q u x s y).toArray) z Tys87 rfl rfl (fun bi A=>(wt ⟨heldE (i:=12) rfl rfl,aO 13 rfl (sI 1 (.agg (vC c d e ak f al am g an).toArray) ((vC c d e ak f al am g an).toArray) A Tys87 rfl rfl (fun a6 B=>(wt ⟨heldE (i:=13) rfl rfl,aD (thenN (⟨_,(zz cx),l,m,p,q,t,u,s,x,y,(zz aY.drew),c,d,e,f,ak,al,g,am,an,fR,(B.sel [2,3,0,1]),aZ,a2,a3,c3,c4,c5,h⟩))⟩)))⟩)))⟩))
               ·exact opL (i:=12) rfl (sI 0 (.agg (vC l m p t q u x s y).toArray) ((vC l m p t q u x s y).toArray) z Tys87 rfl rfl (fun bi A=>(wt ⟨heldE (i:=12) rfl rfl,aO 9 rfl (lD (vC c d e ak f al am g an) Tya87 Tys87 rfl (fun j v hj=>A.cell (kr.cell (dd j v hj))) (wt ⟨heldE (i:=12) rfl rfl,aO 13 rfl (sI 1 (.agg (vC c d e ak f al am g an).toArray) ((vC c d e ak f al am g an).toArray) A Tys87 rfl rfl (fun a6 B=>(wt ⟨heldE (i:=13) rfl rfl,aD (thenN (⟨_,(zz cx),l,m,p,q,t,u,s,x,y,(zz aY.drew),c,d,e,f,ak,al,g,am,an,fR,(B.sel [2,3,0,1]),aZ,a2,a3,c3,c4,c5,h⟩))⟩)))⟩))⟩)))
            ·refine opL (i:=10) rfl (aC zC.toArray ba Tyz87 (fun bY a7=>(wt ⟨heldF (fq [1,2] a7),anyAll (rs:=[6,11]) (by kernel_rfl) (by decide) (allC ?_ (allC ?_ allN))⟩)))
             ·refine opL (i:=6) rfl (l1 2 (sl bb ap bd) a7 Tya40 (wt ⟨heldF (fq [1,2] a7),?_⟩))
              obtain ⟨⟨c,d,e,f,g⟩,de,h⟩:=ob h
              obtain ⟨dK,dL,fj,ec,fk,df,ed⟩:=((mc c9 ((aX.trans b8).trans bX))).row.at_ (idxO_at de).1
              obtain ⟨aR,aS,aT,aU,rfl,dg,dh,di⟩:=RDCase.open ed
              refine tk 8 (.pointer (some ⟨dK,dL + (C:Int).toNat * 5,none⟩)) (lb 14 1535) rfl (fun w=>idxG_r (b:=dK) (o:=dL) (i:=(C:Int)) Tye40 Tys87 rfl ec rfl (idxO_at de).2.1 (idxO_at de).2.2) (heldF (fq [1,2] a7)) (anyAll (rs:=[9,11]) (by kernel_rfl) (by decide) (allC ?_ (allC ?_ allN)))
              ·exact opL (i:=9) rfl (lD (vC c d e aR f aS aT g aU) Tya87 Tys87 rfl (fun j v hj=>a7.cell (kr.cell (df j v hj))) (wt ⟨heldF (fq [1,2] a7),aO 11 rfl (aC zC.toArray a7 Tyz87 (fun cC z=>(wt ⟨heldF (fq [2,3] z),aO 12 rfl (sI 1 (.agg (vC l m p t q u x s y).toArray) ((vC l m p t q u x s y).toArray) z Tys87 rfl rfl (fun bi A=>(wt ⟨heldE (i:=12) rfl rfl,aO 13 rfl (sI 0 (.agg (vC c d e aR f aS aT g aU).toArray) ((vC c d e aR f aS aT g aU).toArray) A Tys87 rfl rfl (fun a6 B=>(wt ⟨heldE (i:=13) rfl rfl,aD (thenN (⟨_,(zz aY.drew),l,m,p,q,t,u,s,x,y,(zz bY),c,d,e,f,aR,aS,g,aT,aU,fR,(B.sel [2,3,1,0]),aZ,a2,a3,dg,dh,di,h⟩))⟩)))⟩)))⟩)))⟩))
              ·refine opL (i:=11) rfl (aC zC.toArray a7 Tyz87 (fun cC z=>(wt ⟨heldF (fq [2,3] z),anyAll (rs:=[9,12]) (by kernel_rfl) (by decide) (allC ?_ (allC ?_ allN))⟩)))
               ·exact opL (i:=9) rfl (lD (vC c d e aR f aS aT g aU) Tya87 Tys87 rfl (fun j v hj=>z.cell (kr.cell (df j v hj))) (wt ⟨heldF (fq [2,3] z),aO 12 rfl (sI 1 (.agg (vC l m p t q u x s y).toArray) ((vC l m p t q u x s y).toArray) z Tys87 rfl rfl (fun bi A=>(wt ⟨heldE (i:=12) rfl rfl,aO 13 rfl (sI 0 (.agg (vC c d e aR f aS aT g aU).toArray) ((vC c d e aR f aS aT g aU).toArray) A Tys87 rfl rfl (fun a6 B=>(wt ⟨heldE (i:=13) rfl rfl,aD (thenN (⟨_,(zz aY.drew),l,m,p,q,t,u,s,x,y,(zz bY),c,d,e,f,aR,aS,g,aT,aU,fR,(B.sel [2,3,1,0]),aZ,a2,a3,dg,dh,di,h⟩))⟩)))⟩)))⟩))
               ·exact opL (i:=12) rfl (sI 1 (.agg (vC l m p t q u x s y).toArray) ((vC l m p t q u x s y).toArray) z Tys87 rfl rfl (fun bi A=>(wt ⟨heldE (i:=12) rfl rfl,aO 9 rfl (lD (vC c d e aR f aS aT g aU) Tya87 Tys87 rfl (fun j v hj=>A.cell (kr.cell (df j v hj))) (wt ⟨heldE (i:=12) rfl rfl,aO 13 rfl (sI 0 (.agg (vC c d e aR f aS aT g aU).toArray) ((vC c d e aR f aS aT g aU).toArray) A Tys87 rfl rfl (fun a6 B=>(wt ⟨heldE (i:=13) rfl rfl,aD (thenN (⟨_,(zz aY.drew),l,m,p,q,t,u,s,x,y,(zz bY),c,d,e,f,aR,aS,g,aT,aU,fR,(B.sel [2,3,1,0]),aZ,a2,a3,dg,dh,di,h⟩))⟩)))⟩))⟩)))
             ·refine opL (i:=11) rfl (aC zC.toArray a7 Tyz87 (fun fl a8=>(wt ⟨heldF (fq [2,3] a8),anyAll (rs:=[6,12]) (by kernel_rfl) (by decide) (allC ?_ (allC ?_ allN))⟩)))
              ·refine opL (i:=6) rfl (l1 3 (sl bb ap bd) a8 Tya40 (wt ⟨heldF (fq [2,3] a8),?_⟩))
               obtain ⟨⟨c,d,e,f,g⟩,dj,h⟩:=ob h
               obtain ⟨dM,dN,fm,ee,fn,dO,ef⟩:=((mc c9 ((aX.trans b8).trans bX))).row.at_ (idxO_at dj).1
               obtain ⟨bj,bk,bm,bn,rfl,dP,dQ,dR⟩:=RDCase.open ef
               refine tk 8 (.pointer (some ⟨dM,dN + (C:Int).toNat * 5,none⟩)) (lb 14 3583) rfl (fun w=>idxG_r (b:=dM) (o:=dN) (i:=(C:Int)) Tye40 Tys87 rfl ee rfl (idxO_at dj).2.1 (idxO_at dj).2.2) (heldF (fq [2,3] a8)) (anyAll (rs:=[9,12]) (by kernel_rfl) (by decide) (allC ?_ (allC ?_ allN)))
               ·exact opL (i:=9) rfl (lD (vC c d e bj f bk bm g bn) Tya87 Tys87 rfl (fun j v hj=>a8.cell (kr.cell (dO j v hj))) (wt ⟨heldF (fq [2,3] a8),aO 12 rfl (sI 1 (.agg (vC l m p t q u x s y).toArray) ((vC l m p t q u x s y).toArray) a8 Tys87 rfl rfl (fun bi A=>(wt ⟨heldE (i:=12) rfl rfl,aO 13 rfl (sI 0 (.agg (vC c d e bj f bk bm g bn).toArray) ((vC c d e bj f bk bm g bn).toArray) A Tys87 rfl rfl (fun a6 B=>(wt ⟨heldE (i:=13) rfl rfl,aD (thenN (⟨_,(zz aY.drew),l,m,p,q,t,u,s,x,y,(zz bY),c,d,e,f,bj,bk,g,bm,bn,fR,(B.sel [2,3,1,0]),aZ,a2,a3,dP,dQ,dR,h⟩))⟩)))⟩)))⟩))
               ·exact opL (i:=12) rfl (sI 1 (.agg (vC l m p t q u x s y).toArray) ((vC l m p t q u x s y).toArray) a8 Tys87 rfl rfl (fun bi A=>(wt ⟨heldE (i:=12) rfl rfl,aO 9 rfl (lD (vC c d e bj f bk bm g bn) Tya87 Tys87 rfl (fun j v hj=>A.cell (kr.cell (dO j v hj))) (wt ⟨heldE (i:=12) rfl rfl,aO 13 rfl (sI 0 (.agg (vC c d e bj f bk bm g bn).toArray) ((vC c d e bj f bk bm g bn).toArray) A Tys87 rfl rfl (fun a6 B=>(wt ⟨heldE (i:=13) rfl rfl,aD (thenN (⟨_,(zz aY.drew),l,m,p,q,t,u,s,x,y,(zz bY),c,d,e,f,bj,bk,g,bm,bn,fR,(B.sel [2,3,1,0]),aZ,a2,a3,dP,dQ,dR,h⟩))⟩)))⟩))⟩)))
              ·refine opL (i:=12) rfl (sI 1 (.agg (vC l m p t q u x s y).toArray) ((vC l m p t q u x s y).toArray) a8 Tys87 rfl rfl (fun fo dk=>(wt ⟨heldE (i:=12) rfl rfl,aO 6 rfl (l1 3 (sl bb ap bd) dk Tya40 (wt ⟨heldE (i:=12) rfl rfl,?_⟩))⟩)))
               obtain ⟨⟨c,d,e,f,g⟩,dl,h⟩:=ob h
               obtain ⟨dS,dT,fp,eg,fs,eh,ei⟩:=((mc c9 ((aX.trans b8).trans bX))).row.at_ (idxO_at dl).1
               obtain ⟨cD,cG,cH,cI,rfl,ej,ek,el⟩:=RDCase.open ei
               exact tk 8 (.pointer (some ⟨dS,dT + (C:Int).toNat * 5,none⟩)) (lb 14 7679) rfl (fun w=>idxG_r (b:=dS) (o:=dT) (i:=(C:Int)) Tye40 Tys87 rfl eg rfl (idxO_at dl).2.1 (idxO_at dl).2.2) (heldE (i:=12) rfl rfl) (aO 9 rfl (lD (vC c d e cD f cG cH g cI) Tya87 Tys87 rfl (fun j v hj=>dk.cell (kr.cell (eh j v hj))) (wt ⟨heldE (i:=12) rfl rfl,aO 13 rfl (sI 0 (.agg (vC c d e cD f cG cH g cI).toArray) ((vC c d e cD f cG cH g cI).toArray) dk Tys87 rfl rfl (fun a6 B=>(wt ⟨heldE (i:=13) rfl rfl,aD (thenN (⟨_,(zz aY.drew),l,m,p,q,t,u,s,x,y,(zz bY),c,d,e,f,cD,cG,g,cH,cI,fR,(B.sel [2,3,1,0]),aZ,a2,a3,ej,ek,el,h⟩))⟩)))⟩)))
            ·refine opL (i:=11) rfl (aC zC.toArray ba Tyz87 (fun bY a7=>(wt ⟨heldF (fq [1,2] a7),anyAll (rs:=[6,10]) (by kernel_rfl) (by decide) (allC ?_ (allC ?_ allN))⟩)))
             ·refine opL (i:=6) rfl (l1 2 (sl bb ap bd) a7 Tya40 (wt ⟨heldF (fq [1,2] a7),?_⟩))
              obtain ⟨⟨c,d,e,f,g⟩,de,h⟩:=ob h
              obtain ⟨dK,dL,fj,ec,fk,df,ed⟩:=((mc c9 ((aX.trans b8).trans bX))).row.at_ (idxO_at de).1
              obtain ⟨aR,aS,aT,aU,rfl,dg,dh,di⟩:=RDCase.open ed
              refine tk 8 (.pointer (some ⟨dK,dL + (C:Int).toNat * 5,none⟩)) (lb 14 2559) rfl (fun w=>idxG_r (b:=dK) (o:=dL) (i:=(C:Int)) Tye40 Tys87 rfl ec rfl (idxO_at de).2.1 (idxO_at de).2.2) (heldF (fq [1,2] a7)) (anyAll (rs:=[9,10]) (by kernel_rfl) (by decide) (allC ?_ (allC ?_ allN)))
              ·exact opL (i:=9) rfl (lD (vC c d e aR f aS aT g aU) Tya87 Tys87 rfl (fun j v hj=>a7.cell (kr.cell (df j v hj))) (wt ⟨heldF (fq [1,2] a7),aO 10 rfl (aC zC.toArray a7 Tyz87 (fun cC z=>(wt ⟨heldF (fq [2,3] z),aO 12 rfl (sI 0 (.agg (vC l m p t q u x s y).toArray) ((vC l m p t q u x s y).toArray) z Tys87 rfl rfl (fun bi A=>(wt ⟨heldE (i:=12) rfl rfl,aO 13 rfl (sI 1 (.agg (vC c d e aR f aS aT g aU).toArray) ((vC c d e aR f aS aT g aU).toArray) A Tys87 rfl rfl (fun a6 B=>(wt ⟨heldE (i:=13) rfl rfl,aD (thenN (⟨_,(zz bY),l,m,p,q,t,u,s,x,y,(zz aY.drew),c,d,e,f,aR,aS,g,aT,aU,fR,(B.sel [2,3,0,1]),aZ,a2,a3,dg,dh,di,h⟩))⟩)))⟩)))⟩)))⟩))
              ·refine opL (i:=10) rfl (aC zC.toArray a7 Tyz87 (fun cC z=>(wt ⟨heldF (fq [2,3] z),anyAll (rs:=[9,12]) (by kernel_rfl) (by decide) (allC ?_ (allC ?_ allN))⟩)))
               ·exact opL (i:=9) rfl (lD (vC c d e aR f aS aT g aU) Tya87 Tys87 rfl (fun j v hj=>z.cell (kr.cell (df j v hj))) (wt ⟨heldF (fq [2,3] z),aO 12 rfl (sI 0 (.agg (vC l m p t q u x s y).toArray) ((vC l m p t q u x s y).toArray) z Tys87 rfl rfl (fun bi A=>(wt ⟨heldE (i:=12) rfl rfl,aO 13 rfl (sI 1 (.agg (vC c d e aR f aS aT g aU).toArray) ((vC c d e aR f aS aT g aU).toArray) A Tys87 rfl rfl (fun a6 B=>(wt ⟨heldE (i:=13) rfl rfl,aD (thenN (⟨_,(zz bY),l,m,p,q,t,u,s,x,y,(zz aY.drew),c,d,e,f,aR,aS,g,aT,aU,fR,(B.sel [2,3,0,1]),aZ,a2,a3,dg,dh,di,h⟩))⟩)))⟩)))⟩))
               ·exact opL (i:=12) rfl (sI 0 (.agg (vC l m p t q u x s y).toArray) ((vC l m p t q u x s y).toArray) z Tys87 rfl rfl (fun bi A=>(wt ⟨heldE (i:=12) rfl rfl,aO 9 rfl (lD (vC c d e aR f aS aT g aU) Tya87 Tys87 rfl (fun j v hj=>A.cell (kr.cell (df j v hj))) (wt ⟨heldE (i:=12) rfl rfl,aO 13 rfl (sI 1 (.agg (vC c d e aR f aS aT g aU).toArray) ((vC c d e aR f aS aT g aU).toArray) A Tys87 rfl rfl (fun a6 B=>(wt ⟨heldE (i:=13) rfl rfl,aD (thenN (⟨_,(zz bY),l,m,p,q,t,u,s,x,y,(zz aY.drew),c,d,e,f,aR,aS,g,aT,aU,fR,(B.sel [2,3,0,1]),aZ,a2,a3,dg,dh,di,h⟩))⟩)))⟩))⟩)))
             ·refine opL (i:=10) rfl (aC zC.toArray a7 Tyz87 (fun fl a8=>(wt ⟨heldF (fq [2,3] a8),anyAll (rs:=[6,12]) (by kernel_rfl) (by decide) (allC ?_ (allC ?_ allN))⟩)))
              ·refine opL (i:=6) rfl (l1 3 (sl bb ap bd) a8 Tya40 (wt ⟨heldF (fq [2,3] a8),?_⟩))
               obtain ⟨⟨c,d,e,f,g⟩,dj,h⟩:=ob h
               obtain ⟨dM,dN,fm,ee,fn,dO,ef⟩:=((mc c9 ((aX.trans b8).trans bX))).row.at_ (idxO_at dj).1
               obtain ⟨bj,bk,bm,bn,rfl,dP,dQ,dR⟩:=RDCase.open ef
               refine tk 8 (.pointer (some ⟨dM,dN + (C:Int).toNat * 5,none⟩)) (lb 14 3583) rfl (fun w=>idxG_r (b:=dM) (o:=dN) (i:=(C:Int)) Tye40 Tys87 rfl ee rfl (idxO_at dj).2.1 (idxO_at dj).2.2) (heldF (fq [2,3] a8)) (anyAll (rs:=[9,12]) (by kernel_rfl) (by decide) (allC ?_ (allC ?_ allN)))
               ·exact opL (i:=9) rfl (lD (vC c d e bj f bk bm g bn) Tya87 Tys87 rfl (fun j v hj=>a8.cell (kr.cell (dO j v hj))) (wt ⟨heldF (fq [2,3] a8),aO 12 rfl (sI 0 (.agg (vC l m p t q u x s y).toArray) ((vC l m p t q u x s y).toArray) a8 Tys87 rfl rfl (fun bi A=>(wt ⟨heldE (i:=12) rfl rfl,aO 13 rfl (sI 1 (.agg (vC c d e bj f bk bm g bn).toArray) ((vC c d e bj f bk bm g bn).toArray) A Tys87 rfl rfl (fun a6 B=>(wt ⟨heldE (i:=13) rfl rfl,aD (thenN (⟨_,(zz bY),l,m,p,q,t,u,s,x,y,(zz aY.drew),c,d,e,f,bj,bk,g,bm,bn,fR,(B.sel [2,3,0,1]),aZ,a2,a3,dP,dQ,dR,h⟩))⟩)))⟩)))⟩))
               ·exact opL (i:=12) rfl (sI 0 (.agg (vC l m p t q u x s y).toArray) ((vC l m p t q u x s y).toArray) a8 Tys87 rfl rfl (fun bi A=>(wt ⟨heldE (i:=12) rfl rfl,aO 9 rfl (lD (vC c d e bj f bk bm g bn) Tya87 Tys87 rfl (fun j v hj=>A.cell (kr.cell (dO j v hj))) (wt ⟨heldE (i:=12) rfl rfl,aO 13 rfl (sI 1 (.agg (vC c d e bj f bk bm g bn).toArray) ((vC c d e bj f bk bm g bn).toArray) A Tys87 rfl rfl (fun a6 B=>(wt ⟨heldE (i:=13) rfl rfl,aD (thenN (⟨_,(zz bY),l,m,p,q,t,u,s,x,y,(zz aY.drew),c,d,e,f,bj,bk,g,bm,bn,fR,(B.sel [2,3,0,1]),aZ,a2,a3,dP,dQ,dR,h⟩))⟩)))⟩))⟩)))
              ·refine opL (i:=12) rfl (sI 0 (.agg (vC l m p t q u x s y).toArray) ((vC l m p t q u x s y).toArray) a8 Tys87 rfl rfl (fun fo dk=>(wt ⟨heldE (i:=12) rfl rfl,aO 6 rfl (l1 3 (sl bb ap bd) dk Tya40 (wt ⟨heldE (i:=12) rfl rfl,?_⟩))⟩)))
               obtain ⟨⟨c,d,e,f,g⟩,dl,h⟩:=ob h
               obtain ⟨dS,dT,fp,eg,fs,eh,ei⟩:=((mc c9 ((aX.trans b8).trans bX))).row.at_ (idxO_at dl).1
               obtain ⟨cD,cG,cH,cI,rfl,ej,ek,el⟩:=RDCase.open ei
               exact tk 8 (.pointer (some ⟨dS,dT + (C:Int).toNat * 5,none⟩)) (lb 14 7679) rfl (fun w=>idxG_r (b:=dS) (o:=dT) (i:=(C:Int)) Tye40 Tys87 rfl eg rfl (idxO_at dl).2.1 (idxO_at dl).2.2) (heldE (i:=12) rfl rfl) (aO 9 rfl (lD (vC c d e cD f cG cH g cI) Tya87 Tys87 rfl (fun j v hj=>dk.cell (kr.cell (eh j v hj))) (wt ⟨heldE (i:=12) rfl rfl,aO 13 rfl (sI 1 (.agg (vC c d e cD f cG cH g cI).toArray) ((vC c d e cD f cG cH g cI).toArray) dk Tys87 rfl rfl (fun a6 B=>(wt ⟨heldE (i:=13) rfl rfl,aD (thenN (⟨_,(zz bY),l,m,p,q,t,u,s,x,y,(zz aY.drew),c,d,e,f,cD,cG,g,cH,cI,fR,(B.sel [2,3,0,1]),aZ,a2,a3,ej,ek,el,h⟩))⟩)))⟩)))
           ·rintro _ fZ ⟨eJ,d8,dq,cZ,db,dr,dC,dD,ds,dE,dF,d9,dt,c2,dc,du,dG,dH,dv,dI,dJ,rfl,bZ,f0,ft,fu,f1,fv,fx,h⟩
            unfold f21_j4 at h
            refine wp_cut (fun a w=>∃ eO dU em,a=fr 161 (updL eO [(0,sl b2 a4 b3),(1,sl cy a5 cz),(5,iI (ao:Int)),(6,pp bo 0),(7,pp bp 0),(8,iI (C:Int)),(160,.bool em)])∧KH.sub a9 dU∧SR K dU wi w [] [.box (zz wi) bo (vS b4 bx bF bz bG bH b9 b5 cb cc bI ce cf bJ ch ci bK cj bA aF bB).toArray 42,.box (zz wi) bp (vS b6 bC bL bD bM bN ck b7 cl cm bO cn co bP cq cr bQ ct bb ap bd).toArray 42]∧f21_j5 k F C em (f21_l2 k F ao ap (f21_l1 k F a5 bE) cB)=some r_) ?_ ?_
            ·refine wp_region_lit (fd 0 Tyf87_0 rfl (l1 2 (iI dq) bZ Tya3 (fd 0 Tyf87_0 rfl (l1 3 (iI dt) bZ Tya3 (c0 (dq != dt) (m1 (.bool (dq != dt)) (cd h (fun b0 h=>?_) (fun b0 h=>?_))))))))
             ·exact o1 131 b0 (o1 131 b0 (o1 131 b0 (o1 131 b0 (o1 131 b0 (m3 true vT (cg b0) (m1 vT (o0 138 (o0 138 (o0 138 (o0 138 (o0 138 (m3 true vT rfl (m1 vT (o0 145 (o0 145 (o0 145 (o0 145 (o0 145 (o0 145 (m3 true vT rfl (m1 vT (o0 153 (o0 153 (o0 153 (o0 153 (o0 153 (o0 153 (m3 true vT rfl (wt (⟨_,a9,true,fR,kr,(bZ.sel [0,1]),h⟩))))))))))))))))))))))))))))))
             ·refine n1 131 b0 (fd 1 Tyf87_1 rfl (n1 131 b0 (l1 2 (.string cZ) bZ Tya9 (n1 131 b0 (fd 1 Tyf87_1 rfl (n1 131 b0 (l1 3 (.string c2) bZ Tya9 (n1 131 b0 (bsc (r:=(!seq cZ c2)) rfl rfl rfl (m3 false (.bool (!seq cZ c2)) (cg b0) (m1 (.bool (!seq cZ c2)) (cd h (fun b1 h=>?_) (fun b1 h=>?_)))))))))))))
              ·exact o1 138 b1 (o1 138 b1 (o1 138 b1 (o1 138 b1 (o1 138 b1 (m3 true vT (cg b1) (m1 vT (o0 145 (o0 145 (o0 145 (o0 145 (o0 145 (o0 145 (m3 true vT rfl (m1 vT (o0 153 (o0 153 (o0 153 (o0 153 (o0 153 (o0 153 (m3 true vT rfl (wt (⟨_,a9,true,fR,kr,(bZ.sel [0,1]),h⟩)))))))))))))))))))))))
              ·refine n1 138 b1 (fd 2 Tyf87_2 rfl (n1 138 b1 (l1 2 (iI db) bZ Tya3 (n1 138 b1 (fd 2 Tyf87_2 rfl (n1 138 b1 (l1 3 (iI dc) bZ Tya3 (n1 138 b1 (c0 (db != dc) (m3 false (.bool (db != dc)) (cg b1) (m1 (.bool (db != dc)) (cd h (fun bv h=>?_) (fun bv h=>?_)))))))))))))
               ·exact o1 145 bv (o1 145 bv (o1 145 bv (o1 145 bv (o1 145 bv (o1 145 bv (m3 true vT (cg bv) (m1 vT (o0 153 (o0 153 (o0 153 (o0 153 (o0 153 (o0 153 (m3 true vT rfl (wt (⟨_,a9,true,fR,kr,(bZ.sel [0,1]),h⟩))))))))))))))))
               ·refine n1 145 bv (fd 3 Tyf87_3 rfl (n1 145 bv (l1 2 (sl dC dr dD) bZ Tya39 (n1 145 bv (fd 3 Tyf87_3 rfl (n1 145 bv (l1 3 (sl dG du dH) bZ Tya39 (n1 145 bv ?_))))))))
                obtain ⟨en,fy,h⟩:=ob h
                refine cv ([sl dC dr dD,sl dG du dH]) Tyb48 ((f48_ok k) fy (hG.mono (((cA.trans aX).trans b8).trans bX)) ft fv (pt bZ)) ?_
                rintro _ f2 ⟨fz,rfl,dw⟩
                have dV:=ca dw bZ
                refine n1 145 bv (uN en (m3 false (.bool (!en)) (cg bv) (m1 (.bool (!en)) (cd h (fun bw h=>?_) (fun bw h=>?_)))))
                ·exact o1 153 bw (o1 153 bw (o1 153 bw (o1 153 bw (o1 153 bw (o1 153 bw (m3 true vT (cg bw) (wt (⟨_,fz,true,fR,dw.sub,(dV.sel [0,1]),h⟩))))))))
                ·refine n1 153 bw (fd 4 Tyf87_4 rfl (n1 153 bw (l1 2 (sl dE ds dF) dV Tya36 (n1 153 bw (fd 4 Tyf87_4 rfl (n1 153 bw (l1 3 (sl dI dv dJ) dV Tya36 (n1 153 bw ?_))))))))
                 obtain ⟨eo,fA,h⟩:=ob h
                 refine cv ([sl dE ds dF,sl dI dv dJ]) Tyb21 (IH21 fA (hG.mono ((((cA.trans aX).trans b8).trans bX).trans dw.sub)) (ms fu dw.sub) (ms fx dw.sub) (pt dV)) ?_
                 rintro _ f3 ⟨fB,rfl,eP⟩
                 have fC:=ca eP dV
                 exact n1 153 bw (uN eo (m3 false (.bool (!eo)) (cg bw) (wt (⟨_,fB,(!eo),fR,(dw.sub.trans eP.sub),(fC.sel [0,1]),h⟩))))
            ·rintro _ f4 ⟨eO,dU,em,rfl,fD,eQ,h⟩
             unfold f21_j5 at h
             refine cd h (fun ep h=>?_) (fun ep h=>?_)
             ·refine cT ep (sr (m2 vN (wt (wp_ret (blkR (thenR (thenR (blkR (blkR (thenR (thenR (blkR (thenR ?_)))))))))))))
              cases (oi h).trans hr_
              exact retA1 rfl (resT rfl) ⟨dU,rfl,(eQ.sel [])⟩
             ·exact cF ep (wp_skip (blkN (thenN (wp_region_lit (m1 (iI (C:Int)) (bar (r:=((C + 1:Nat):Int)) rfl rfl (inc_ok (le_big (((mc eB ((aX.trans b8).trans bX))).len) (by decide) (drop_cons_lt dp))) (m2 (iI ((C + 1:Nat):Int)) (wt (⟨_,Nat.lt_succ_self _,_,dU,cB,C + 1,rfl,fR,(bX.trans fD),eQ,drop_cons_next dp,h⟩)))))))))
theorem fam21_ok (k0:Nat) : ∀ k,f21_spec (fam21 k0 k).f21:=by
 intro k
 induction k with
 | zero=>exact (by unfold f21_spec; intro _ _ _ _ _ _ _ _ _ h_; cases h_)
 | succ k ih=>exact f21_b_ok k0 (fam21 k0 k) ih
theorem f21_ok (k:Nat):f21_spec (f21 k):=(fam21_ok k k)
end Go.Proofs.YtoajecnoffhlbaaGreatDoor
