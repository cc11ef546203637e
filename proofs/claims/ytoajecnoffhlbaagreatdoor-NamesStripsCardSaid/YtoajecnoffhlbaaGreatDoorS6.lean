/- Words of the same proof, part 6: what the last text needs; nothing is claimed here. -/
import Derived.Test.YtoajecnoffhlbaaGreatDoorS5
import Derived.ProofKit
set_option linter.unusedVariables false
set_option linter.unusedSimpArgs false
set_option maxRecDepth 100000
set_option maxHeartbeats 4000000
namespace Go.Proofs.YtoajecnoffhlbaaGreatDoor
open Go
theorem f111_b_ok (k:Nat) (F:Fam61) (IH61:f61_spec F.f61) (IH90:f90_spec F.f90) (IH111:f111_spec F.f111):f111_spec (f111_b k F):=by
 unfold f111_spec
 intro K wi g bs V W X bb cC f cD cG cH h hG bd be
 obtain ⟨r_,hr_,h⟩:=rz h
 obtain ⟨c,e,s,d,p⟩:=bb
 obtain ⟨x,y,B,C,rfl,bf,aB,bg⟩:=RDCase.open bd
 refine enter Tryz.func111 rfl (n:=88) rfl ?_
 unfold f111_b at h
 refine sr (bxoC (cs:=(vC c e s x d y B p C).toArray) be rfl rfl (fun bh bi=>(wt (sr (m1 (pp g 0) (m1 (iI f) ?_))))))
 have aE:SR K K wi bh [.box bs g #[iI V,iI W,.bool X] 56] [.box bs g #[iI V,iI W,.bool X] 56,.box wi.heap.size wi.heap.size (vC c e s x d y B p C).toArray 87]:=bi.sel [1,0] (by decide)
 obtain ⟨⟨aF,aG,aH⟩,bj,h⟩:=ob h
 refine cv ([pp g 0,iI f]) Tyb60 ((f60_ok k) _ _ _ _ _ _ _ _ _ _ _ bj (hG.mono kr) (pt aE)) ?_
 rintro _ cI ⟨aI,rfl,l⟩
 have aj:=ca l aE
 refine wt (sr (m2 (iI 1) (wt (wp_cut (fun a w=>∃ (aJ:Nat→Value) (Y:Int),a=fr 88 (updL aJ [(0,pp g 0),(2,iI f),(4,pp wi.heap.size 0),(6,iI Y)])∧SR K aI wi w [.box bs g #[iI V,iI W,.bool X] 56] [.box bs g #[iI aF,iI aG,.bool aH] 56,.box wi.heap.size wi.heap.size (vC c e s x d y B p C).toArray 87]∧f111_j1 k F c e s d p f aF aG aH Y=some r_) ?_ ?_))))
 ·refine sr (fd 0 Tyf87_0 rfl (l1 1 (iI c) aj Tya3 (wt (wp_block (sr (c0 (c == 2) (m2 (.bool (c == 2)) (wt (cd h (fun ao h=>?_) (fun ao h=>?_))))))))))
  ·exact cT ao (wp_region_lit (m2 (iI 2) (wpList_nil (blkN (thenN (⟨_,2,fR,aj,h⟩))))))
  ·refine cF ao (sr (c0 (c == 4) (m2 (.bool (c == 4)) (wt (cd h (fun ap h=>?_) (fun ap h=>?_))))))
   ·exact cT ap (wp_region_lit (m2 (iI 0) (wpList_nil (blkN (thenN (⟨_,0,fR,aj,h⟩))))))
   ·exact cF ap (wp_skip (blkN (thenN (⟨_,1,fR,aj,h⟩))))
 ·rintro _ cJ ⟨aJ,Y,rfl,t,h⟩
  unfold f111_j1 at h
  refine wp_cut (fun a w=>∃ (aK:Nat→Value) (ak:KH) (aq:Int) (ar:Int) (au:Bool),a=fr 88 (updL aK [(0,pp g 0),(2,iI f),(4,pp wi.heap.size 0)])∧KH.sub aI ak∧SR K ak wi w [.box bs g #[iI V,iI W,.bool X] 56] [.box bs g #[iI aq,iI ar,.bool au] 56,.box wi.heap.size wi.heap.size (vC c e s x d y B p C).toArray 87]∧f111_j2 k F c e d p f aq ar au=some r_) ?_ ?_
  ·refine wp_region_lit (m1 (pp g 0) (fd 0 Tyf87_0 rfl (l1 1 (iI c) t Tya3 (c0 (decide (c ≥ 1)) (m1 (.bool (decide (c ≥ 1))) (cd h (fun D h=>?_) (fun D h=>?_)))))))
   ·refine n1 21 D (fd 0 Tyf87_0 rfl (n1 21 D (l1 1 (iI c) t Tya3 (n1 21 D (c0 (decide (c ≤ 4)) (m3 true (.bool (decide (c ≤ 4))) (cg D) (m1 (.bool (decide (c ≤ 4))) (cd h (fun q h=>?_) (fun q h=>?_)))))))))
    ·refine n1 26 q (fd 3 Tyf87_3 rfl (n1 26 q (l1 1 (sl x d y) t Tya39 (n1 26 q (lS d.length Tye39 (n1 26 q (m1 (iI Y) (n1 26 q (c0 ((d.length:Int) == Y) (m3 true (.bool ((d.length:Int) == Y)) (cg q) (m1 (.bool ((d.length:Int) == Y)) (cd h (fun G h=>?_) (fun G h=>?_)))))))))))))
     ·refine n1 33 G (fd 2 Tyf87_2 rfl (n1 33 G (l1 1 (iI s) t Tya3 (n1 33 G (c0 (s == 0) (m3 true (.bool (s == 0)) (cg G) ?_))))))
      obtain ⟨⟨bk,bm,bn⟩,bo,h⟩:=ob h
      refine cv ([pp g 0,.bool (s == 0)]) Tyb59 ((f59_ok k) _ _ _ _ _ _ _ _ _ _ _ bo (hG.mono l.sub) (pt t)) ?_
      rintro _ cK ⟨bp,rfl,aL⟩
      have bq:=ca aL t
      exact wt (⟨_,bp,bk,bm,bn,fR,aL.sub,bq,h⟩)
     ·refine o1 33 G (o1 33 G (o1 33 G (m3 false vN (cg G) ?_)))
      obtain ⟨⟨br,bu,bv⟩,bw,h⟩:=ob h
      refine cv ([pp g 0,vN]) Tyb59 ((f59_ok k) _ _ _ _ _ _ _ _ _ _ _ bw (hG.mono l.sub) (pt t)) ?_
      rintro _ cL ⟨bx,rfl,aM⟩
      have bz:=ca aM t
      exact wt (⟨_,bx,br,bu,bv,fR,aM.sub,bz,h⟩)
    ·refine o1 26 q (o1 26 q (o1 26 q (o1 26 q (o1 26 q (m3 false vN (cg q) (m1 vN (o0 33 (o0 33 (o0 33 (m3 false vN rfl ?_))))))))))
     obtain ⟨⟨bA,bB,bC⟩,bD,h⟩:=ob h
     refine cv ([pp g 0,vN]) Tyb59 ((f59_ok k) _ _ _ _ _ _ _ _ _ _ _ bD (hG.mono l.sub) (pt t)) ?_
     rintro _ cM ⟨bE,rfl,aN⟩
     have bF:=ca aN t
     exact wt (⟨_,bE,bA,bB,bC,fR,aN.sub,bF,h⟩)
   ·refine o1 21 D (o1 21 D (o1 21 D (m3 false vN (cg D) (m1 vN (o0 26 (o0 26 (o0 26 (o0 26 (o0 26 (m3 false vN rfl (m1 vN (o0 33 (o0 33 (o0 33 (m3 false vN rfl ?_)))))))))))))))
    obtain ⟨⟨bG,bH,bI⟩,bJ,h⟩:=ob h
    refine cv ([pp g 0,vN]) Tyb59 ((f59_ok k) _ _ _ _ _ _ _ _ _ _ _ bJ (hG.mono l.sub) (pt t)) ?_
    rintro _ cN ⟨bK,rfl,aP⟩
    have bL:=ca aP t
    exact wt (⟨_,bK,bG,bH,bI,fR,aP.sub,bL,h⟩)
  ·rintro _ cO ⟨aK,ak,aq,ar,au,rfl,z,A,h⟩
   unfold f111_j2 at h
   refine wp_cut (fun a w=>∃ (aQ:Nat→Value) (ac:KH) (al:Int) (am:Int) (an:Bool),a=fr 88 (updL aQ [(0,pp g 0),(2,iI f),(4,pp wi.heap.size 0)])∧KH.sub ak ac∧SR K ac wi w [.box bs g #[iI V,iI W,.bool X] 56] [.box bs g #[iI al,iI am,.bool an] 56,.box wi.heap.size wi.heap.size (vC c e s x d y B p C).toArray 87]∧f111_j3 k F d p f al am an=some r_) ?_ ?_
   ·refine wp_region_lit (m1 (pp g 0) (fd 0 Tyf87_0 rfl (l1 1 (iI c) A Tya3 (c0 (c == 1) (m1 (.bool (c == 1)) (cd h (fun I h=>?_) (fun I h=>?_)))))))
    ·refine n1 43 I (fd 1 Tyf87_1 rfl (n1 43 I (l1 1 (.string e) A Tya9 (n1 43 I ?_))))
     obtain ⟨aR,bM,h⟩:=ob h
     refine cv ([.string e]) Tyb34 ((f34_ok k) _ _ _ _ bM (hG.mono (l.sub.trans z)) bf (pt A)) ?_
     rintro _ cP ⟨cQ,rfl,Z⟩
     have S:=ca Z A
     refine m3 true (.bool aR) (cg I) (m1 (.bool aR) (cd h (fun m h=>?_) (fun m h=>?_)))
     ·refine o1 48 m (o1 48 m (o1 48 m (o1 48 m (ou 52 (ou 52 (ou 52 (o1 48 m (m3 true vT (cg m) ?_))))))))
      obtain ⟨⟨bN,bO,bP⟩,bQ,h⟩:=ob h
      refine cv ([pp g 0,vT]) Tyb59 ((f59_ok k) _ _ _ _ _ _ _ _ _ _ _ bQ (hG.mono ((l.sub.trans z).trans Z.sub)) (pt S)) ?_
      rintro _ cR ⟨bR,rfl,aS⟩
      have bS:=ca aS S
      exact wt (⟨_,bR,bN,bO,bP,fR,(Z.sub.trans aS.sub),bS,h⟩)
     ·refine n1 48 m (fd 0 Tyf87_0 rfl (n1 48 m (l1 1 (iI c) S Tya3 (n1 48 m (c0 (c != 1) (n1 48 m (m1 (.bool (c != 1)) (cd h (fun J h=>?_) (fun J h=>?_)))))))))
      ·refine n1 52 J (fd 1 Tyf87_1 rfl (n1 52 J (l1 1 (.string e) S Tya9 (n1 52 J (bsc (r:=(seq e ⟨#[]⟩)) rfl rfl rfl (n1 48 m (m3 true (.bool (seq e ⟨#[]⟩)) (cg J) (m3 false (.bool (seq e ⟨#[]⟩)) (cg m) ?_))))))))
       obtain ⟨⟨bT,bU,bV⟩,bW,h⟩:=ob h
       refine cv ([pp g 0,.bool (seq e ⟨#[]⟩)]) Tyb59 ((f59_ok k) _ _ _ _ _ _ _ _ _ _ _ bW (hG.mono ((l.sub.trans z).trans Z.sub)) (pt S)) ?_
       rintro _ cS ⟨bX,rfl,aT⟩
       have bY:=ca aT S
       exact wt (⟨_,bX,bT,bU,bV,fR,(Z.sub.trans aT.sub),bY,h⟩)
      ·refine o1 52 J (o1 52 J (o1 52 J (n1 48 m (m3 false vN (cg J) (m3 false vN (cg m) ?_)))))
       obtain ⟨⟨bZ,b0,b1⟩,b2,h⟩:=ob h
       refine cv ([pp g 0,vN]) Tyb59 ((f59_ok k) _ _ _ _ _ _ _ _ _ _ _ b2 (hG.mono ((l.sub.trans z).trans Z.sub)) (pt S)) ?_
       rintro _ cU ⟨b3,rfl,aU⟩
       have b4:=ca aU S
       exact wt (⟨_,b3,bZ,b0,b1,fR,(Z.sub.trans aU.sub),b4,h⟩)
    ·refine o1 43 I (o1 43 I (o1 43 I (m3 false vN (cg I) (m1 vN (n0 48 (fd 0 Tyf87_0 rfl (n0 48 (l1 1 (iI c) A Tya3 (n0 48 (c0 (c != 1) (n0 48 (m1 (.bool (c != 1)) (cd h (fun N h=>?_) (fun N h=>?_))))))))))))))
     ·refine n1 52 N (fd 1 Tyf87_1 rfl (n1 52 N (l1 1 (.string e) A Tya9 (n1 52 N (bsc (r:=(seq e ⟨#[]⟩)) rfl rfl rfl (n0 48 (m3 true (.bool (seq e ⟨#[]⟩)) (cg N) (m3 false (.bool (seq e ⟨#[]⟩)) rfl ?_))))))))
      obtain ⟨⟨b5,b6,b7⟩,b8,h⟩:=ob h
      refine cv ([pp g 0,.bool (seq e ⟨#[]⟩)]) Tyb59 ((f59_ok k) _ _ _ _ _ _ _ _ _ _ _ b8 (hG.mono (l.sub.trans z)) (pt A)) ?_
      rintro _ cV ⟨b9,rfl,aV⟩
      have cb:=ca aV A
      exact wt (⟨_,b9,b5,b6,b7,fR,aV.sub,cb,h⟩)
     ·refine o1 52 N (o1 52 N (o1 52 N (n0 48 (m3 false vN (cg N) (m3 false vN rfl ?_)))))
      obtain ⟨⟨cc,ce,cf⟩,ch,h⟩:=ob h
      refine cv ([pp g 0,vN]) Tyb59 ((f59_ok k) _ _ _ _ _ _ _ _ _ _ _ ch (hG.mono (l.sub.trans z)) (pt A)) ?_
      rintro _ cW ⟨ci,rfl,aW⟩
      have cj:=ca aW A
      exact wt (⟨_,ci,cc,ce,cf,fR,aW.sub,cj,h⟩)
   ·rintro _ cX ⟨aQ,ac,al,am,an,rfl,af,ck,h⟩
    unfold f111_j3 at h
    refine wp_cut (fun a w=>∃ (aX:Nat→Value) (av:KH) (aw:Int) (ax:Int) (ay:Bool),a=fr 88 (updL aX [(0,pp g 0),(2,iI f),(4,pp wi.heap.size 0)])∧KH.sub ac av∧SR K av wi w [.box bs g #[iI V,iI W,.bool X] 56] [.box bs g #[iI aw,iI ax,.bool ay] 56,.box wi.heap.size wi.heap.size (vC c e s x d y B p C).toArray 87]∧f111_j4 k F p f aw ax ay=some r_) ?_ ?_
    ·refine sr (m2 (iI 0) (wt (wp_block (wp_loopG (fun g_ a w=>∃ (aY:Nat→Value) (ag:KH) (ab:LE) (u:Nat) (ah:Int) (ai:Int) (U:Bool),g_=ab.length∧a=fr 88 (updL aY [(0,pp g 0),(2,iI f),(4,pp wi.heap.size 0),(7,iI (u:Int))])∧KH.sub ac ag∧SR K ag wi w [.box bs g #[iI V,iI W,.bool X] 56] [.box bs g #[iI ah,iI ai,.bool U] 56,.box wi.heap.size wi.heap.size (vC c e s x d y B p C).toArray 87]∧d.drop u=ab∧f111_l1 k F p f ab u ah ai U=some r_) d.length ?_ ?_))))
     ·exact ⟨_,ac,d,0,al,am,an,rfl,fR,kr,ck,List.drop_zero,h⟩
     ·rintro _ _ cY ⟨aY,ag,ab,u,ah,ai,U,rfl,rfl,ad,O,ae,h⟩
      rcases ab with _ | ⟨⟨aZ,a0,a3,a4,a5⟩,ab⟩
      ·unfold f111_l1 at h
       exact wp_seq (sr (m1 (iI (u:Int)) (fd 3 Tyf87_3 rfl (l1 1 (sl x d y) O Tya39 (lS d.length Tye39 (bcm (r:=false) rfl rfl (congrArg some (drop_nil_lt ae)) (m1 vN (o0 64 (o0 64 (o0 64 (o0 64 (o0 64 (m3 false vN rfl (wt (cndF rfl (wp_exit (thenX (thenX (blkX (thenN (⟨_,ag,ah,ai,U,fR,ad,O,h⟩)))))))))))))))))))))
      ·unfold f111_l1 at h
       refine wp_seq (sr (m1 (iI (u:Int)) (fd 3 Tyf87_3 rfl (l1 1 (sl x d y) O Tya39 (lS d.length Tye39 (bcm (r:=true) rfl rfl (congrArg some (drop_cons_t ae)) (m1 vT (n0 64 (m1 (pp g 0) (n0 64 (nilc rfl (n0 64 (fd 2 Tyf56_2 rfl (n0 64 (l1 0 (.bool U) O Tya4 (n0 64 (uN U (m3 true (.bool (!U)) rfl (wt (cd h (fun az h=>?_) (fun az h=>?_)))))))))))))))))))))
       ·refine cT az (wp_skip (thenN (wp_seq (wp_block (wp_region_lit (m1 (pp g 0) (fd 3 Tyf87_3 rfl (l1 1 (sl x d y) O Tya39 (m1 (iI (u:Int)) ?_)))))))))
        obtain ⟨cl,cm,cZ,cn,c3,co,a6⟩:=((me aB (((l.sub.trans z).trans af).trans ad))).row.at_ (drop_cons_at ae)
        obtain ⟨a7,a8,rfl,c4,c6⟩:=RDExpr.open a6
        refine idxN (b:=cl) (o:=cm) (i:=u) Tye39 Tys107 rfl cn rfl (drop_cons_lt ae) (lD (vE aZ a0 a3 a4 a7 a5 a8) Tya107 Tys107 rfl (fun j v hj=>O.cell (kr.cell (co j v hj))) (m1 (iI f) (bar (r:=(w64 (f + 1))) rfl rfl rfl ?_)))
        obtain ⟨⟨cq,cr,ct⟩,cu,h⟩:=ob h
        refine cv ([pp g 0,.agg (vE aZ a0 a3 a4 a7 a5 a8).toArray,iI (w64 (f + 1)),vN]) Tyb110 ((f110_ok k) _ _ _ _ _ _ _ _ _ _ _ _ _ _ cu (hG.mono (((l.sub.trans z).trans af).trans ad)) a6 (pt O)) ?_
        rintro _ c7 ⟨cw,rfl,a9⟩
        have cx:=ca a9 O
        exact wpList_nil (blkN (thenN (wp_region_lit (m1 (iI (u:Int)) (bar (r:=((u + 1:Nat):Int)) rfl rfl (inc_ok (le_big (((me aB (((l.sub.trans z).trans af).trans ad))).len) (by decide) (drop_cons_lt ae))) (m2 (iI ((u + 1:Nat):Int)) (wt (⟨_,Nat.lt_succ_self _,_,cw,ab,u + 1,cq,cr,ct,rfl,fR,(ad.trans a9.sub),cx,drop_cons_next ae,h⟩))))))))
       ·exact cF az (wp_exit (thenX (thenX (blkX (thenN (⟨_,ag,ah,ai,U,fR,ad,O,h⟩))))))
    ·rintro _ c8 ⟨aX,av,aw,ax,ay,rfl,ba,aA,h⟩
     unfold f111_j4 at h
     refine wp_region_lit (m1 (pp g 0) (fd 4 Tyf87_4 rfl (l1 1 (sl B p C) aA Tya36 (m1 (iI f) (bar (r:=(w64 (f + 1))) rfl rfl rfl ?_)))))
     obtain ⟨⟨c9,da,db⟩,cy,h⟩:=ob h
     refine cv ([pp g 0,sl B p C,iI (w64 (f + 1))]) Tyb61 (IH61 _ _ _ _ _ _ _ _ _ _ _ _ _ _ cy (hG.mono (((l.sub.trans z).trans af).trans ba)) (ms bg (((l.sub.trans z).trans af).trans ba)) (pt aA)) ?_
     rintro _ dc ⟨cz,rfl,cA⟩
     have cB:=ca cA aA
     refine wpList_nil ?_
     cases (oi h).trans hr_
     exact end0 rfl ⟨cz,rfl,(cB.sel [0] (by decide))⟩
theorem fam61_ok (k0:Nat) : ∀ k,f61_spec (fam61 k0 k).f61∧f90_spec (fam61 k0 k).f90∧f111_spec (fam61 k0 k).f111:=by
 intro k
 induction k with
 | zero=>exact ⟨(by unfold f61_spec; intro _ _ _ _ _ _ _ _ _ _ _ _ _ _ h_; cases h_),(by unfold f90_spec; intro _ _ _ _ _ _ _ _ _ _ _ _ _ h_; cases h_),(by unfold f111_spec; intro _ _ _ _ _ _ _ _ _ _ _ _ _ h_; cases h_)⟩
 | succ k ih=>exact ⟨f61_b_ok k0 (fam61 k0 k) ih.1 ih.2.1 ih.2.2,f90_b_ok k0 (fam61 k0 k) ih.1 ih.2.1 ih.2.2,f111_b_ok k0 (fam61 k0 k) ih.1 ih.2.1 ih.2.2⟩
theorem f61_ok (k:Nat):f61_spec (f61 k):=(fam61_ok k k).1
theorem f90_ok (k:Nat):f90_spec (f90 k):=(fam61_ok k k).2.1
theorem f111_ok (k:Nat):f111_spec (f111 k):=(fam61_ok k k).2.2
theorem f32_b_ok (k:Nat):f32_spec (f32_b k):=by
 unfold f32_spec
 intro K wi bF dz dA h hG bG bH
 obtain ⟨r_,hr_,h⟩:=rz h
 obtain ⟨d⟩:=bF
 obtain ⟨A,c1,rfl,a6⟩:=RDProgram.open bG
 refine enter Tryz.func32 rfl (n:=126) rfl ?_
 unfold f32_b at h
 refine sr (bxoC (cs:=#[sl A d c1]) bH rfl rfl (fun s bI=>(aC #[iI 0,iI 0,vN] bI Tyz56 (fun c bJ=>(wt (sr (bld (cells:=#[iI 0,iI 0,vN]) (vs:=[]) rfl (fun w=>by kernel_rfl) (bxoC (cs:=#[iI 0,iI 0,vN]) bJ rfl rfl (fun dB av=>(m2 (pp c.heap.size 0) (wt (wp_cut (fun a w=>∃ (a7:Nat→Value) (aw:KH) (aG:Int) (aH:Int) (aI:Bool),a=fr 126 (updL a7 [(1,pp wi.heap.size 0),(2,pp s.heap.size 0),(3,pp c.heap.size 0)])∧KH.sub K aw∧SR K aw wi w [] [.box wi.heap.size wi.heap.size #[sl A d c1] 24,.box wi.heap.size s.heap.size #[iI 0,iI 0,vN] 56,.box wi.heap.size c.heap.size #[iI aG,iI aH,.bool aI] 56]∧f32_j1 k d aG aH aI=some r_) ?_ ?_))))))))))))
 ·refine wp_region_lit (m1 (pp c.heap.size 0) (fd 0 Tyf24_0 rfl (l1 2 (sl A d c1) av Tya22 (lS d.length Tye22 (c0 (decide ((d.length:Int) ≥ 1)) (m1 (.bool (decide ((d.length:Int) ≥ 1))) (cd h (fun V h=>?_) (fun V h=>?_))))))))
  ·refine n1 14 V (fd 0 Tyf24_0 rfl (n1 14 V (l1 2 (sl A d c1) av Tya22 (n1 14 V (lS d.length Tye22 (n1 14 V (c0 (decide ((d.length:Int) ≤ 16)) (m3 true (.bool (decide ((d.length:Int) ≤ 16))) (cg V) ?_))))))))
   obtain ⟨⟨bK,bL,bM⟩,bN,h⟩:=ob h
   refine cv ([pp c.heap.size 0,.bool (decide ((d.length:Int) ≤ 16))]) Tyb59 ((f59_ok k) _ _ _ _ _ _ _ _ _ _ _ bN (hG.mono kr) (pt av)) ?_
   rintro _ dC ⟨bO,rfl,a8⟩
   have bP:=ca a8 av
   exact wt (⟨_,bO,bK,bL,bM,fR,a8.sub,(bP.sel [2,1,0] (by decide)),h⟩)
  ·refine o1 14 V (o1 14 V (o1 14 V (o1 14 V (m3 false vN (cg V) ?_))))
   obtain ⟨⟨bQ,bR,bS⟩,bT,h⟩:=ob h
   refine cv ([pp c.heap.size 0,vN]) Tyb59 ((f59_ok k) _ _ _ _ _ _ _ _ _ _ _ bT (hG.mono kr) (pt av)) ?_
   rintro _ dD ⟨bU,rfl,a9⟩
   have bV:=ca a9 av
   exact wt (⟨_,bU,bQ,bR,bS,fR,a9.sub,(bV.sel [2,1,0] (by decide)),h⟩)
 ·rintro _ dE ⟨a7,aw,aG,aH,aI,rfl,D,bW,h⟩
  unfold f32_j1 at h
  refine wp_cut (fun a w=>∃ (ba:Nat→Value) (aJ:KH) (aj:Int) (ak:Int) (al:Bool),a=fr 126 (updL ba [(2,pp s.heap.size 0),(3,pp c.heap.size 0)])∧KH.sub aw aJ∧SR K aJ wi w [] [.box wi.heap.size s.heap.size #[iI 0,iI 0,vN] 56,.box wi.heap.size c.heap.size #[iI aj,iI ak,.bool al] 56]∧f32_j2 k aj ak al=some r_) ?_ ?_
  ·refine sr (m2 (iI 0) (wt (wp_block (wp_loopG (fun g_ a w=>∃ (bb:Nat→Value) (ax:KH) (W:LF) (p:Nat) (ay:Int) (az:Int) (Z:Bool),g_=W.length∧a=fr 126 (updL bb [(1,pp wi.heap.size 0),(2,pp s.heap.size 0),(3,pp c.heap.size 0),(4,iI (p:Int))])∧KH.sub aw ax∧SR K ax wi w [] [.box wi.heap.size wi.heap.size #[sl A d c1] 24,.box wi.heap.size s.heap.size #[iI 0,iI 0,vN] 56,.box wi.heap.size c.heap.size #[iI ay,iI az,.bool Z] 56]∧d.drop p=W∧f32_l1 k W p ay az Z=some r_) d.length ?_ ?_))))
   ·exact ⟨_,aw,d,0,aG,aH,aI,rfl,fR,kr,bW,List.drop_zero,h⟩
   ·rintro _ _ U ⟨bb,ax,W,p,ay,az,Z,rfl,rfl,t,am,aA,h⟩
    rcases W with _ | ⟨⟨N,e,f,G,q,u⟩,W⟩
    ·unfold f32_l1 at h
     exact wp_seq (sr (m1 (iI (p:Int)) (fd 0 Tyf24_0 rfl (l1 0 (sl A d c1) am Tya22 (lS d.length Tye22 (bcm (r:=false) rfl rfl (congrArg some (drop_nil_lt aA)) (m1 vN (o0 26 (o0 26 (o0 26 (o0 26 (o0 26 (m3 false vN rfl (wt (cndF rfl (wp_exit (thenX (thenX (blkX (thenN (⟨_,ax,ay,az,Z,fR,t,(am.sel [1,2] (by decide)),h⟩)))))))))))))))))))))
    ·unfold f32_l1 at h
     refine wp_seq (sr (m1 (iI (p:Int)) (fd 0 Tyf24_0 rfl (l1 0 (sl A d c1) am Tya22 (lS d.length Tye22 (bcm (r:=true) rfl rfl (congrArg some (drop_cons_t aA)) (m1 vT (n0 26 (m1 (pp c.heap.size 0) (n0 26 (nilc rfl (n0 26 (fd 2 Tyf56_2 rfl (n0 26 (l1 2 (.bool Z) am Tya4 (n0 26 (uN Z (m3 true (.bool (!Z)) rfl (wt (cd h (fun aW h=>?_) (fun aW h=>?_)))))))))))))))))))))
     ·refine cT aW (wp_skip (thenN (wp_seq (wp_block (sr (fd 0 Tyf24_0 rfl (l1 0 (sl A d c1) am Tya22 (m1 (iI (p:Int)) ?_))))))))
      obtain ⟨bX,bY,dF,bZ,dG,b0,b1⟩:=((mf a6 (D.trans t))).row.at_ (drop_cons_at aA)
      obtain ⟨x,y,O,S,rfl,b2,bd,b3⟩:=RDFunc.open b1
      refine idxN (b:=bX) (o:=bY) (i:=p) Tye22 Tys38 rfl bZ rfl (drop_cons_lt aA) (lD (vF N x e y f G q O u S) Tya38 Tys38 rfl (fun j v hj=>am.cell (kr.cell (b0 j v hj))) (aC zF.toArray am Tyz38 (fun dH b4=>(sI 0 (.agg (vF N x e y f G q O u S).toArray) ((vF N x e y f G q O u S).toArray) b4 Tys38 rfl rfl (fun b5 b6=>(wt (sr (m1 (pp c.heap.size 0) ?_))))))))
      have be:SR K ax wi b5 [] [.box wi.heap.size c.heap.size #[iI ay,iI az,.bool Z] 56,.box wi.heap.size U.heap.size (vF N x e y f G q O u S).toArray 38,.box wi.heap.size wi.heap.size #[sl A d c1] 24,.box wi.heap.size s.heap.size #[iI 0,iI 0,vN] 56]:=b6.sel [3,0,1,2] (by decide)
      obtain ⟨⟨dI,dJ,dK⟩,b7,h⟩:=ob h
      refine cv ([pp c.heap.size 0,iI 0]) Tyb60 ((f60_ok k) _ _ _ _ _ _ _ _ _ _ _ b7 (hG.mono (D.trans t)) (pt be)) ?_
      rintro _ dL ⟨b8,rfl,z⟩
      have aX:=ca z be
      refine wt (wp_cut (fun a w=>∃ (bf:Nat→Value) (aB:KH) (aK:Int) (aL:Int) (aM:Bool),a=fr 126 (updL bf [(1,pp wi.heap.size 0),(2,pp s.heap.size 0),(3,pp c.heap.size 0),(4,iI (p:Int)),(5,pp U.heap.size 0)])∧KH.sub b8 aB∧SR K aB wi w [] [.box wi.heap.size wi.heap.size #[sl A d c1] 24,.box wi.heap.size s.heap.size #[iI 0,iI 0,vN] 56,.box wi.heap.size c.heap.size #[iI aK,iI aL,.bool aM] 56,.box wi.heap.size U.heap.size (vF N x e y f G q O u S).toArray 38]∧f32_j3 k p e u aK aL aM (f32_l1 k W)=some r_) ?_ ?_)
      ·refine wp_region_lit (m1 (pp c.heap.size 0) (fd 0 Tyf38_0 rfl (l1 1 (.string N) aX Tya9 ?_)))
       obtain ⟨b9,cb,h⟩:=ob h
       refine cv ([.string N]) Tyb34 ((f34_ok k) _ _ _ _ cb (hG.mono ((D.trans t).trans z.sub)) b2 (pt aX)) ?_
       rintro _ dM ⟨dN,rfl,I⟩
       have g:=ca I aX
       refine m1 (.bool b9) (cd h (fun X h=>?_) (fun X h=>?_))
       ·refine n1 46 X (fd 1 Tyf38_1 rfl (n1 46 X (l1 1 (sl x e y) g Tya35 (n1 46 X (lS e.length Tye35 (n1 46 X (c0 (decide ((e.length:Int) ≤ 4)) (m3 true (.bool (decide ((e.length:Int) ≤ 4))) (cg X) (m1 (.bool (decide ((e.length:Int) ≤ 4))) (cd h (fun ab h=>?_) (fun ab h=>?_)))))))))))
        ·refine n1 52 ab (fd 2 Tyf38_2 rfl (n1 52 ab (l1 1 (iI f) g Tya3 (n1 52 ab (c0 (decide (f ≥ 0)) (m3 true (.bool (decide (f ≥ 0))) (cg ab) (m1 (.bool (decide (f ≥ 0))) (cd h (fun ac h=>?_) (fun ac h=>?_)))))))))
         ·refine n1 57 ac (fd 2 Tyf38_2 rfl (n1 57 ac (l1 1 (iI f) g Tya3 (n1 57 ac (c0 (decide (f ≤ 6)) (m3 true (.bool (decide (f ≤ 6))) (cg ac) (m1 (.bool (decide (f ≤ 6))) (cd h (fun J h=>?_) (fun J h=>?_)))))))))
          ·refine n1 62 J (fd 3 Tyf38_3 rfl (n1 62 J (l1 1 (.bool G) g Tya4 (n1 62 J (uN G (n1 62 J (m1 (.bool (!G)) (cd h (fun ad h=>?_) (fun ad h=>?_)))))))))
           ·refine o1 66 ad (o1 66 ad (o1 66 ad (n1 62 J (m3 true vT (cg ad) (m3 true vT (cg J) (m1 vT (n0 72 (fd 4 Tyf38_4 rfl (n0 72 (l1 1 (iI q) g Tya3 (n0 72 (c0 (q == 0) (m3 true (.bool (q == 0)) rfl ?_)))))))))))))
            obtain ⟨⟨cc,ce,cf⟩,ch,h⟩:=ob h
            refine cv ([pp c.heap.size 0,.bool (q == 0)]) Tyb59 ((f59_ok k) _ _ _ _ _ _ _ _ _ _ _ ch (hG.mono (((D.trans t).trans z.sub).trans I.sub)) (pt g)) ?_
            rintro _ dO ⟨ci,rfl,bg⟩
            have cj:=ca bg g
            exact wt (⟨_,ci,cc,ce,cf,fR,(I.sub.trans bg.sub),(cj.sel [2,3,0,1] (by decide)),h⟩)
           ·refine n1 66 ad (fd 2 Tyf38_2 rfl (n1 66 ad (l1 1 (iI f) g Tya3 (n1 66 ad (c0 (f == 0) (n1 62 J (m3 false (.bool (f == 0)) (cg ad) (m3 true (.bool (f == 0)) (cg J) (m1 (.bool (f == 0)) (cd h (fun ae h=>?_) (fun ae h=>?_)))))))))))
            ·refine n1 72 ae (fd 4 Tyf38_4 rfl (n1 72 ae (l1 1 (iI q) g Tya3 (n1 72 ae (c0 (q == 0) (m3 true (.bool (q == 0)) (cg ae) ?_))))))
             obtain ⟨⟨ck,cl,cm⟩,cn,h⟩:=ob h
             refine cv ([pp c.heap.size 0,.bool (q == 0)]) Tyb59 ((f59_ok k) _ _ _ _ _ _ _ _ _ _ _ cn (hG.mono (((D.trans t).trans z.sub).trans I.sub)) (pt g)) ?_
             rintro _ dP ⟨co,rfl,bh⟩
             have cq:=ca bh g
             exact wt (⟨_,co,ck,cl,cm,fR,(I.sub.trans bh.sub),(cq.sel [2,3,0,1] (by decide)),h⟩)
            ·refine o1 72 ae (o1 72 ae (o1 72 ae (m3 false vN (cg ae) ?_)))
             obtain ⟨⟨cr,ct,cu⟩,cw,h⟩:=ob h
             refine cv ([pp c.heap.size 0,vN]) Tyb59 ((f59_ok k) _ _ _ _ _ _ _ _ _ _ _ cw (hG.mono (((D.trans t).trans z.sub).trans I.sub)) (pt g)) ?_
             rintro _ dQ ⟨cx,rfl,bi⟩
             have cy:=ca bi g
             exact wt (⟨_,cx,cr,ct,cu,fR,(I.sub.trans bi.sub),(cy.sel [2,3,0,1] (by decide)),h⟩)
          ·refine o1 62 J (o1 62 J (o1 62 J (o1 62 J (ou 66 (ou 66 (ou 66 (o1 62 J (m3 false vN (cg J) (m1 vN (o0 72 (o0 72 (o0 72 (m3 false vN rfl ?_)))))))))))))
           obtain ⟨⟨cz,cA,cB⟩,cC,h⟩:=ob h
           refine cv ([pp c.heap.size 0,vN]) Tyb59 ((f59_ok k) _ _ _ _ _ _ _ _ _ _ _ cC (hG.mono (((D.trans t).trans z.sub).trans I.sub)) (pt g)) ?_
           rintro _ dR ⟨cD,rfl,bj⟩
           have cG:=ca bj g
           exact wt (⟨_,cD,cz,cA,cB,fR,(I.sub.trans bj.sub),(cG.sel [2,3,0,1] (by decide)),h⟩)
         ·refine o1 57 ac (o1 57 ac (o1 57 ac (m3 false vN (cg ac) (m1 vN (o0 62 (o0 62 (o0 62 (o0 62 (ou 66 (ou 66 (ou 66 (o0 62 (m3 false vN rfl (m1 vN (o0 72 (o0 72 (o0 72 (m3 false vN rfl ?_))))))))))))))))))
          obtain ⟨⟨cH,cI,cJ⟩,cK,h⟩:=ob h
          refine cv ([pp c.heap.size 0,vN]) Tyb59 ((f59_ok k) _ _ _ _ _ _ _ _ _ _ _ cK (hG.mono (((D.trans t).trans z.sub).trans I.sub)) (pt g)) ?_
          rintro _ dS ⟨cL,rfl,bk⟩
          have cM:=ca bk g
          exact wt (⟨_,cL,cH,cI,cJ,fR,(I.sub.trans bk.sub),(cM.sel [2,3,0,1] (by decide)),h⟩)
        ·refine o1 52 ab (o1 52 ab (o1 52 ab (m3 false vN (cg ab) (m1 vN (o0 57 (o0 57 (o0 57 (m3 false vN rfl (m1 vN (o0 62 (o0 62 (o0 62 (o0 62 (ou 66 (ou 66 (ou 66 (o0 62 (m3 false vN rfl (m1 vN (o0 72 (o0 72 (o0 72 (m3 false vN rfl ?_)))))))))))))))))))))))
         obtain ⟨⟨cN,cO,cP⟩,cQ,h⟩:=ob h
         refine cv ([pp c.heap.size 0,vN]) Tyb59 ((f59_ok k) _ _ _ _ _ _ _ _ _ _ _ cQ (hG.mono (((D.trans t).trans z.sub).trans I.sub)) (pt g)) ?_
         rintro _ dT ⟨cR,rfl,bm⟩
         have cS:=ca bm g
         exact wt (⟨_,cR,cN,cO,cP,fR,(I.sub.trans bm.sub),(cS.sel [2,3,0,1] (by decide)),h⟩)
       ·refine o1 46 X (o1 46 X (o1 46 X (o1 46 X (m3 false vN (cg X) (m1 vN (o0 52 (o0 52 (o0 52 (m3 false vN rfl (m1 vN (o0 57 (o0 57 (o0 57 (m3 false vN rfl (m1 vN (o0 62 (o0 62 (o0 62 (o0 62 (ou 66 (ou 66 (ou 66 (o0 62 (m3 false vN rfl (m1 vN (o0 72 (o0 72 (o0 72 (m3 false vN rfl ?_)))))))))))))))))))))))))))))
        obtain ⟨⟨cU,cV,cW⟩,cX,h⟩:=ob h
        refine cv ([pp c.heap.size 0,vN]) Tyb59 ((f59_ok k) _ _ _ _ _ _ _ _ _ _ _ cX (hG.mono (((D.trans t).trans z.sub).trans I.sub)) (pt g)) ?_
        rintro _ dU ⟨cY,rfl,bn⟩
        have cZ:=ca bn g
        exact wt (⟨_,cY,cU,cV,cW,fR,(I.sub.trans bn.sub),(cZ.sel [2,3,0,1] (by decide)),h⟩)
      ·rintro _ dV ⟨bf,aB,aK,aL,aM,rfl,af,c2,h⟩
       unfold f32_j3 at h
       refine wp_cut (fun a w=>∃ (bo:Nat→Value) (aN:KH) (aP:Int) (aQ:Int) (aR:Bool),a=fr 126 (updL bo [(1,pp wi.heap.size 0),(2,pp s.heap.size 0),(3,pp c.heap.size 0),(4,iI (p:Int)),(5,pp U.heap.size 0)])∧KH.sub aB aN∧SR K aN wi w [] [.box wi.heap.size wi.heap.size #[sl A d c1] 24,.box wi.heap.size s.heap.size #[iI 0,iI 0,vN] 56,.box wi.heap.size c.heap.size #[iI aP,iI aQ,.bool aR] 56,.box wi.heap.size U.heap.size (vF N x e y f G q O u S).toArray 38]∧f32_j4 k p u aP aQ aR (f32_l1 k W)=some r_) ?_ ?_
       ·refine sr (m2 (iI 0) (wt (wp_block (wp_loopG (fun g_ a w=>∃ (bp:Nat→Value) (aE:KH) (an:LP) (m:Nat) (ao:Int) (ap:Int) (Y:Bool),g_=an.length∧a=fr 126 (updL bp [(1,pp wi.heap.size 0),(2,pp s.heap.size 0),(3,pp c.heap.size 0),(4,iI (p:Int)),(5,pp U.heap.size 0),(6,iI (m:Int))])∧KH.sub aB aE∧SR K aE wi w [] [.box wi.heap.size wi.heap.size #[sl A d c1] 24,.box wi.heap.size s.heap.size #[iI 0,iI 0,vN] 56,.box wi.heap.size c.heap.size #[iI ao,iI ap,.bool Y] 56,.box wi.heap.size U.heap.size (vF N x e y f G q O u S).toArray 38]∧e.drop m=an∧f32_l2 k p u (f32_l1 k W) an m ao ap Y=some r_) e.length ?_ ?_))))
        ·exact ⟨_,aB,e,0,aK,aL,aM,rfl,fR,kr,c2,List.drop_zero,h⟩
        ·rintro _ _ dW ⟨bp,aE,an,m,ao,ap,Y,rfl,rfl,ag,ah,aq,h⟩
         rcases an with _ | ⟨⟨bq,ar⟩,an⟩
         ·unfold f32_l2 at h
          exact wp_seq (sr (m1 (iI (m:Int)) (fd 1 Tyf38_1 rfl (l1 3 (sl x e y) ah Tya35 (lS e.length Tye35 (bcm (r:=false) rfl rfl (congrArg some (drop_nil_lt aq)) (m1 vN (o0 83 (o0 83 (o0 83 (o0 83 (o0 83 (m3 false vN rfl (wt (cndF rfl (wp_exit (thenX (thenX (blkX (thenN (⟨_,aE,ao,ap,Y,fR,ag,ah,h⟩)))))))))))))))))))))
         ·unfold f32_l2 at h
          refine wp_seq (sr (m1 (iI (m:Int)) (fd 1 Tyf38_1 rfl (l1 3 (sl x e y) ah Tya35 (lS e.length Tye35 (bcm (r:=true) rfl rfl (congrArg some (drop_cons_t aq)) (m1 vT (n0 83 (m1 (pp c.heap.size 0) (n0 83 (nilc rfl (n0 83 (fd 2 Tyf56_2 rfl (n0 83 (l1 2 (.bool Y) ah Tya4 (n0 83 (uN Y (m3 true (.bool (!Y)) rfl (wt (cd h (fun aY h=>?_) (fun aY h=>?_)))))))))))))))))))))
          ·refine cT aY (wp_skip (thenN (wp_cut (fun a w=>∃ (br:Nat→Value) (aS:KH) (aT:Int) (aU:Int) (aV:Bool),a=fr 126 (updL br [(1,pp wi.heap.size 0),(2,pp s.heap.size 0),(3,pp c.heap.size 0),(4,iI (p:Int)),(5,pp U.heap.size 0),(6,iI (m:Int))])∧KH.sub aE aS∧SR K aS wi w [] [.box wi.heap.size wi.heap.size #[sl A d c1] 24,.box wi.heap.size s.heap.size #[iI 0,iI 0,vN] 56,.box wi.heap.size c.heap.size #[iI aT,iI aU,.bool aV] 56,.box wi.heap.size U.heap.size (vF N x e y f G q O u S).toArray 38]∧f32_j5 k m aT aU aV (f32_l2 k p u (f32_l1 k W) an)=some r_) ?_ ?_)))
           ·refine wp_block (wp_region_lit (m1 (pp c.heap.size 0) (fd 1 Tyf38_1 rfl (l1 3 (sl x e y) ah Tya35 (m1 (iI (m:Int)) ?_)))))
            obtain ⟨aZ,aF,dX,a1,dY,a2,c3⟩:=((mp bd ((z.sub.trans af).trans ag))).row.at_ (drop_cons_at aq)
            obtain ⟨rfl,c4⟩:=RDParam.open c3
            refine idxN (b:=aZ) (o:=aF) (i:=m) Tye35 Tys82 rfl a1 rfl (drop_cons_lt aq) (fd (aF + m * 2 + 0) Tyf82_0 rfl (ld1 (v:=.string bq) Tya9 rfl (ah.cell (kr.cell (a2 0 _ rfl))) ?_))
            obtain ⟨c5,c6,h⟩:=ob h
            refine cv ([.string bq]) Tyb34 ((f34_ok k) _ _ _ _ c6 (hG.mono ((((D.trans t).trans z.sub).trans af).trans ag)) c4 (pt ah)) ?_
            rintro _ a3 ⟨a4,rfl,ai⟩
            have au:=ca ai ah
            refine m1 (.bool c5) (cd h (fun B h=>?_) (fun B h=>?_))
            ·refine n1 100 B (fd 1 Tyf38_1 rfl (n1 100 B (l1 3 (sl x e y) au Tya35 (n1 100 B (m1 (iI (m:Int)) (n1 100 B (idxN (b:=aZ) (o:=aF) (i:=m) Tye35 Tys82 rfl a1 rfl (drop_cons_lt aq) (n1 100 B (fd (aF + m * 2 + 1) Tyf82_1 rfl (n1 100 B (ld1 (v:=iI ar) Tya3 rfl (au.cell (ai.sub.cell (a2 1 _ rfl))) (n1 100 B (c0 (decide (ar ≥ 1)) (m3 true (.bool (decide (ar ≥ 1))) (cg B) (m1 (.bool (decide (ar ≥ 1))) (cd h (fun C h=>?_) (fun C h=>?_)))))))))))))))))
             ·refine n1 109 C (fd 1 Tyf38_1 rfl (n1 109 C (l1 3 (sl x e y) au Tya35 (n1 109 C (m1 (iI (m:Int)) (n1 109 C (idxN (b:=aZ) (o:=aF) (i:=m) Tye35 Tys82 rfl a1 rfl (drop_cons_lt aq) (n1 109 C (fd (aF + m * 2 + 1) Tyf82_1 rfl (n1 109 C (ld1 (v:=iI ar) Tya3 rfl (au.cell (ai.sub.cell (a2 1 _ rfl))) (n1 109 C (c0 (decide (ar ≤ 6)) (m3 true (.bool (decide (ar ≤ 6))) (cg C) ?_))))))))))))))
              have bs:SR K a4 wi a3 [] [.box wi.heap.size c.heap.size #[iI ao,iI ap,.bool Y] 56,.box wi.heap.size wi.heap.size #[sl A d c1] 24,.box wi.heap.size s.heap.size #[iI 0,iI 0,vN] 56,.box wi.heap.size U.heap.size (vF N x e y f G q O u S).toArray 38]:=au.sel [2,0,1,3] (by decide)
              obtain ⟨⟨c7,c8,c9⟩,da,h⟩:=ob h
              refine cv ([pp c.heap.size 0,.bool (decide (ar ≤ 6))]) Tyb59 ((f59_ok k) _ _ _ _ _ _ _ _ _ _ _ da (hG.mono (((((D.trans t).trans z.sub).trans af).trans ag).trans ai.sub)) (pt bs)) ?_
              rintro _ dZ ⟨db,rfl,bu⟩
              have dc:=ca bu bs
              exact wpList_nil (blkN (thenN (⟨_,db,c7,c8,c9,fR,(ai.sub.trans bu.sub),(dc.sel [1,2,0,3] (by decide)),h⟩)))
             ·refine o1 109 C (o1 109 C (o1 109 C (o1 109 C (o1 109 C (o1 109 C (o1 109 C (m3 false vN (cg C) ?_)))))))
              have bv:SR K a4 wi a3 [] [.box wi.heap.size c.heap.size #[iI ao,iI ap,.bool Y] 56,.box wi.heap.size wi.heap.size #[sl A d c1] 24,.box wi.heap.size s.heap.size #[iI 0,iI 0,vN] 56,.box wi.heap.size U.heap.size (vF N x e y f G q O u S).toArray 38]:=au.sel [2,0,1,3] (by decide)
              obtain ⟨⟨dd,de,df⟩,dg,h⟩:=ob h
              refine cv ([pp c.heap.size 0,vN]) Tyb59 ((f59_ok k) _ _ _ _ _ _ _ _ _ _ _ dg (hG.mono (((((D.trans t).trans z.sub).trans af).trans ag).trans ai.sub)) (pt bv)) ?_
              rintro _ d0 ⟨dh,rfl,bw⟩
              have di:=ca bw bv
              exact wpList_nil (blkN (thenN (⟨_,dh,dd,de,df,fR,(ai.sub.trans bw.sub),(di.sel [1,2,0,3] (by decide)),h⟩)))
            ·refine o1 100 B (o1 100 B (o1 100 B (o1 100 B (o1 100 B (o1 100 B (o1 100 B (m3 false vN (cg B) (m1 vN (o0 109 (o0 109 (o0 109 (o0 109 (o0 109 (o0 109 (o0 109 (m3 false vN rfl ?_))))))))))))))))
             have bx:SR K a4 wi a3 [] [.box wi.heap.size c.heap.size #[iI ao,iI ap,.bool Y] 56,.box wi.heap.size wi.heap.size #[sl A d c1] 24,.box wi.heap.size s.heap.size #[iI 0,iI 0,vN] 56,.box wi.heap.size U.heap.size (vF N x e y f G q O u S).toArray 38]:=au.sel [2,0,1,3] (by decide)
             obtain ⟨⟨dj,dk,dl⟩,dm,h⟩:=ob h
             refine cv ([pp c.heap.size 0,vN]) Tyb59 ((f59_ok k) _ _ _ _ _ _ _ _ _ _ _ dm (hG.mono (((((D.trans t).trans z.sub).trans af).trans ag).trans ai.sub)) (pt bx)) ?_
             rintro _ d1 ⟨dn,rfl,bz⟩
             have dp:=ca bz bx
             exact wpList_nil (blkN (thenN (⟨_,dn,dj,dk,dl,fR,(ai.sub.trans bz.sub),(dp.sel [1,2,0,3] (by decide)),h⟩)))
           ·rintro _ d2 ⟨br,aS,aT,aU,aV,rfl,dq,dr,h⟩
            unfold f32_j5 at h
            exact wp_region_lit (m1 (iI (m:Int)) (bar (r:=((m + 1:Nat):Int)) rfl rfl (inc_ok (le_big (((mp bd ((z.sub.trans af).trans ag))).len) (by decide) (drop_cons_lt aq))) (m2 (iI ((m + 1:Nat):Int)) (wt (⟨_,Nat.lt_succ_self _,_,aS,an,m + 1,aT,aU,aV,rfl,fR,(ag.trans dq),dr,drop_cons_next aq,h⟩)))))
          ·exact cF aY (wp_exit (thenX (thenX (blkX (thenN (⟨_,aE,ao,ap,Y,fR,ag,ah,h⟩))))))
       ·rintro _ ds ⟨bo,aN,aP,aQ,aR,rfl,a5,bA,h⟩
        unfold f32_j4 at h
        refine wp_region_lit (m1 (pp c.heap.size 0) (fd 5 Tyf38_5 rfl (l1 3 (sl O u S) bA Tya36 ?_)))
        have bB:SR K aN wi ds [] [.box wi.heap.size c.heap.size #[iI aP,iI aQ,.bool aR] 56,.box wi.heap.size wi.heap.size #[sl A d c1] 24,.box wi.heap.size s.heap.size #[iI 0,iI 0,vN] 56,.box wi.heap.size U.heap.size (vF N x e y f G q O u S).toArray 38]:=bA.sel [2,0,1,3] (by decide)
        obtain ⟨⟨dt,du,dv⟩,dw,h⟩:=ob h
        refine cv ([pp c.heap.size 0,sl O u S,iI 1]) Tyb61 ((f61_ok k) _ _ _ _ _ _ _ _ _ _ _ _ _ _ dw (hG.mono ((((D.trans t).trans z.sub).trans af).trans a5)) (ms b3 ((z.sub.trans af).trans a5)) (pt bB)) ?_
        rintro _ d3 ⟨dx,rfl,bC⟩
        have dy:=ca bC bB
        exact wpList_nil (blkN (thenN (wp_region_lit (m1 (iI (p:Int)) (bar (r:=((p + 1:Nat):Int)) rfl rfl (inc_ok (le_big (((mf a6 (D.trans t))).len) (by decide) (drop_cons_lt aA))) (m2 (iI ((p + 1:Nat):Int)) (wt (⟨_,Nat.lt_succ_self _,_,dx,W,p + 1,dt,du,dv,rfl,fR,((((t.trans z.sub).trans af).trans a5).trans bC.sub),(dy.sel [1,2,0] (by decide)),drop_cons_next aA,h⟩))))))))
     ·exact cF aW (wp_exit (thenX (thenX (blkX (thenN (⟨_,ax,ay,az,Z,fR,t,(am.sel [1,2] (by decide)),h⟩))))))
  ·rintro _ d4 ⟨ba,aJ,aj,ak,al,rfl,d5,bD,h⟩
   unfold f32_j2 at h
   refine sr (m1 (pp c.heap.size 0) (nilc rfl (lN 1 ([iI aj,iI ak,.bool al]) bD Tya56 Tys56 (sI 0 (.agg #[iI aj,iI ak,.bool al]) #[iI aj,iI ak,.bool al] bD Tys56 rfl rfl (fun d6 bE=>(wt (wp_ret ?_)))))))
   cases (oi h).trans hr_
   exact retA1 rfl (resN (i:=0) (l:=[iI aj,iI ak,.bool al]) bE rfl Tya56 Tys56 rfl rfl rfl) ⟨aJ,[iI aj,iI ak,.bool al],rfl,(bE.sel [] (by decide)),.mk⟩
theorem f32_ok (k:Nat):f32_spec (f32 k):=f32_b_ok k
theorem f20_b_ok (k:Nat):f20_spec (f20_b k):=by
 unfold f20_spec
 intro K wi e s t h hG f g
 obtain ⟨r_,hr_,h⟩:=rz h
 obtain ⟨b⟩:=e
 obtain ⟨c,c1,rfl,i⟩:=RDProgram.open f
 refine enter Tryz.func20 rfl (n:=7) rfl ?_
 unfold f20_b at h
 refine sr (bxoC (cs:=#[sl c b c1]) g rfl rfl (fun x d=>(m2 vN (wt (sr (lN 0 ([sl c b c1]) d Tya24 Tys24 ?_))))))
 obtain ⟨⟨j,l,a⟩,m,h⟩:=ob h
 refine cv ([.agg #[sl c b c1]]) Tyb32 ((f32_ok k) _ _ _ _ _ m (hG.mono kr) (RDProgram.intro i) (pt d)) ?_
 rintro _ y ⟨o,z,rfl,p,q⟩
 have r:=ca p d
 obtain rfl:=RDSize.open q
 refine fva (v:=.agg #[iI j,iI l,.bool a]) (u:=.bool a) rfl (fun w=>by kernel_rfl) (uN a (m2 (.bool (!a)) (wt (wp_ret ?_))))
 cases (oi h).trans hr_
 exact retA1 rfl (resT rfl) ⟨o,rfl,(r.sel [] (by decide))⟩
theorem f20_ok (k:Nat):f20_spec (f20 k):=f20_b_ok k
theorem f86_b_ok (k:Nat) (F:Fam86) (IH86:f86_spec F.f86):f86_spec (f86_b k F):=by
 unfold f86_spec
 intro K wi s G I aH h hG Z ag
 obtain ⟨r_,hr_,h⟩:=rz h
 refine enter Tryz.func86 rfl (n:=25) rfl ?_
 unfold f86_b at h
 refine sr (m2 nS (wt (sr (m2 nS (wt (wp_seq (sr (m2 (iI 0) (wt (wp_block ?_))))))))))
 have ah:=ag.row_ wi.heap.size 107 5
 refine wp_loopG (fun g_ a w=>∃ (ab:Nat→Value) (J:KH) (t:LE) (m:Nat) (c:LE) (u:OA) (x:Nat) (O:List Value),g_=t.length∧a=fr 25 (updL ab [(0,sl G s I),(3,sl u c x),(4,iI (m:Int))])∧KH.sub K J∧SR K J wi w [] [.row wi.heap.size (sl u c x) 107 5 c.length O]∧s.drop m=t∧Reps (RDExpr J) 5 c O∧c.length * 64 ≤ 140737488355328∧f86_l1 k F t m c=some r_) s.length ?_ ?_
 ·exact ⟨_,K,s,0,([]:LE),none,0,[],rfl,fR,kr,ah,List.drop_zero,(reps0 (R:=(RDExpr K)) (size:=5)),(by simp),h⟩
 ·rintro _ _ ai ⟨ab,J,t,m,c,u,x,O,rfl,rfl,N,S,y,ac,aj,h⟩
  rcases t with _ | ⟨⟨d,f,g,l,B⟩,t⟩
  ·unfold f86_l1 at h
   refine wp_seq (sr (m1 (iI (m:Int)) (m1 (sl G s I) (lS s.length Tye39 (bcm (r:=false) rfl rfl (congrArg some (drop_nil_lt y)) (wt (cndF rfl (wp_exit (thenX (thenX (blkX (thenN (sr (m1 (sl u c x) (m2 (sl u c x) (wt (wp_ret ?_)))))))))))))))))
   obtain ⟨ak,al,aI,am⟩:=shutI (i:=0) (bytes:=64) (R:=fun K=>(RDExpr K)) S rfl (Nat.le_refl _) ac aj (fun hs=>(fun _ _ h=>RDExpr.mono hs h))
   cases (oi h).trans hr_
   exact retA1 rfl (resT rfl) ⟨ak,u,x,rfl,al,am⟩
  ·unfold f86_l1 at h
   refine wp_seq (sr (m1 (iI (m:Int)) (m1 (sl G s I) (lS s.length Tye39 (bcm (r:=true) rfl rfl (congrArg some (drop_cons_t y)) (wt (cndT rfl (wp_skip (thenN (wp_seq (wp_block (sr (m1 (sl G s I) (m1 (iI (m:Int)) ?_))))))))))))))
   obtain ⟨an,ao,aJ,ap,aK,aq,ar⟩:=((me Z N)).row.at_ (drop_cons_at y)
   obtain ⟨C,D,rfl,au,av⟩:=RDExpr.open ar
   refine idxN (b:=an) (o:=ao) (i:=m) Tye39 Tys107 rfl ap rfl (drop_cons_lt y) (lD (vE d f g l C B D) Tya107 Tys107 rfl (fun j v hj=>S.cell (kr.cell (aq j v hj))) (aC zE.toArray S Tyz107 (fun aL aw=>(sI 0 (.agg (vE d f g l C B D).toArray) ((vE d f g l C B D).toArray) aw Tys107 rfl rfl (fun aM U=>(wt (sr (fd 4 Tyf107_4 rfl (l1 0 (sl C B D) U Tya39 ?_)))))))))
   obtain ⟨q,ax,h⟩:=ob h
   refine cv ([sl C B D]) Tyb86 (IH86 _ _ _ _ _ _ ax (hG.mono N) av (pt U)) ?_
   rintro _ aN ⟨V,z,A,rfl,W,ay⟩
   have az:=ca W U
   refine fd 4 Tyf107_4 rfl (sI 0 (sl z q A) ((vE d f g l z q A).toArray) az Tys39 rfl rfl (fun aP ad=>(wt (wp_region_lit (m1 (sl u c x) (lN 0 (vE d f g l z q A) ad Tya107 Tys107 (bsl (e:=107) (cells:=(vE d f g l z q A).toArray) (vs:=[(0,.agg (vE d f g l z q A).toArray)]) ad rfl (buildSl_one Tye39 Tys107 Tyz107 rfl (by decide) (by decide) rfl) (fun aQ aA=>?_))))))))
   obtain ⟨ae,h⟩:=of_guard h
   refine apR (R:=(RDExpr V)) (p:=(DExpr.mk d f g l q)) (i:=2) (j:=0) aA rfl rfl Tye39 Tyi107 rfl (by decide) rfl rfl (ac.mono (fun _ _ h=>RDExpr.mono W.sub h)) (RDExpr.intro au ay) rfl rfl (Nat.le_refl _) ae (by decide) (fun X Y af aB aE aF=>?_)
   have aG:SR K V wi aB [] [.box wi.heap.size ai.heap.size (vE d f g l z q A).toArray 107,.row wi.heap.size (.slice X (c ++ [(DExpr.mk d f g l q)]).length Y) 107 5 (c ++ [(DExpr.mk d f g l q)]).length af]:=aE.sel [1,2] (by decide)
   exact m2 (.slice X (c ++ [(DExpr.mk d f g l q)]).length Y) (wpList_nil (blkN (thenN (wp_region_lit (m1 (iI (m:Int)) (bar (r:=((m + 1:Nat):Int)) rfl rfl (inc_ok (le_big (((me Z N)).len) (by decide) (drop_cons_lt y))) (m2 (iI ((m + 1:Nat):Int)) (wt (⟨_,Nat.lt_succ_self _,_,V,t,m + 1,(c ++ [(DExpr.mk d f g l q)]),X,Y,af,rfl,fR,(N.trans W.sub),(aG.sel [1] (by decide)),drop_cons_next y,aF,(app_bound ae),h⟩)))))))))
theorem fam86_ok (k0:Nat) : ∀ k,f86_spec (fam86 k0 k).f86:=by
 intro k
 induction k with
 | zero=>exact (by unfold f86_spec; intro _ _ _ _ _ _ h_; cases h_)
 | succ k ih=>exact f86_b_ok k0 (fam86 k0 k) ih
theorem f86_ok (k:Nat):f86_spec (f86 k):=(fam86_ok k k)
theorem f47_b_ok (k:Nat) (F:Fam47) (IH47:f47_spec F.f47):f47_spec (f47_b k F):=by
 unfold f47_spec
 intro K wi ai aQ aR cJ h hG bj bz
 obtain ⟨r_,hr_,h⟩:=rz h
 refine enter Tryz.func47 rfl (n:=66) rfl ?_
 unfold f47_b at h
 refine sr (m2 nS (wt (sr (m2 nS (wt (wp_seq (sr (m2 (iI 0) (wt (wp_block ?_))))))))))
 have bA:=bz.row_ wi.heap.size 42 11
 refine wp_loopG (fun g_ a w=>∃ (bk:Nat→Value) (aZ:KH) (aq:LS) (D:Nat) (d:LS) (W:OA) (X:Nat) (ay:List Value),g_=aq.length∧a=fr 66 (updL bk [(0,sl aQ ai aR),(3,sl W d X),(4,iI (D:Int))])∧KH.sub K aZ∧SR K aZ wi w [] [.row wi.heap.size (sl W d X) 42 11 d.length ay]∧ai.drop D=aq∧Reps (RDStmt aZ) 11 d ay∧d.length * 184 ≤ 140737488355328∧f47_l1 k F aq D d=some r_) ai.length ?_ ?_
 ·exact ⟨_,K,ai,0,([]:LS),none,0,[],rfl,fR,kr,bA,List.drop_zero,(reps0 (R:=(RDStmt K)) (size:=11)),(by simp),h⟩
 ·rintro _ _ aE ⟨bk,aZ,aq,D,d,W,X,ay,rfl,rfl,am,a5,aF,bm,bB,h⟩
  rcases aq with _ | ⟨⟨f,g,l,m,q,s,aS,aG,ar,an,u⟩,aq⟩
  ·unfold f47_l1 at h
   refine wp_seq (sr (m1 (iI (D:Int)) (m1 (sl aQ ai aR) (lS ai.length Tye36 (bcm (r:=false) rfl rfl (congrArg some (drop_nil_lt aF)) (wt (cndF rfl (wp_exit (thenX (thenX (blkX (thenN (sr (m1 (sl W d X) (m2 (sl W d X) (wt (wp_ret ?_)))))))))))))))))
   obtain ⟨bC,bD,cK,bE⟩:=shutI (i:=0) (bytes:=184) (R:=fun K=>(RDStmt K)) a5 rfl (Nat.le_refl _) bm bB (fun hs=>(fun _ _ h=>RDStmt.mono hs h))
   cases (oi h).trans hr_
   exact retA1 rfl (resT rfl) ⟨bC,W,X,rfl,bD,bE⟩
  ·unfold f47_l1 at h
   refine wp_seq (sr (m1 (iI (D:Int)) (m1 (sl aQ ai aR) (lS ai.length Tye36 (bcm (r:=true) rfl rfl (congrArg some (drop_cons_t aF)) (wt (cndT rfl (wp_skip (thenN (wp_seq (wp_block (sr (m1 (sl aQ ai aR) (m1 (iI (D:Int)) ?_))))))))))))))
   obtain ⟨bF,bG,cL,bH,cM,bI,bJ⟩:=((ms bj am)).row.at_ (drop_cons_at aF)
   obtain ⟨aT,aU,aH,aI,au,av,ao,ap,G,I,rfl,bK,bL,bM,bN,bO,bP,bn⟩:=RDStmt.open bJ
   refine idxN (b:=bF) (o:=bG) (i:=D) Tye36 Tys42 rfl bH rfl (drop_cons_lt aF) (lD (vS f g l m q s aT aS aU aH aG aI au ar av ao an ap G u I) Tya42 Tys42 rfl (fun j v hj=>a5.cell (kr.cell (bI j v hj))) (aC zS.toArray a5 Tyz42 (fun cN bQ=>(sI 0 (.agg (vS f g l m q s aT aS aU aH aG aI au ar av ao an ap G u I).toArray) ((vS f g l m q s aT aS aU aH aG aI au ar av ao an ap G u I).toArray) bQ Tys42 rfl rfl (fun cO a6=>(wt (sr (fd 6 Tyf42_6 rfl (l1 0 (sl aT aS aU) a6 Tya39 ?_)))))))))
   obtain ⟨t,bR,h⟩:=ob h
   refine cv ([sl aT aS aU]) Tyb86 ((f86_ok k) _ _ _ _ _ _ bR (hG.mono am) bM (pt a6)) ?_
   rintro _ cP ⟨cQ,J,N,rfl,O,bS⟩
   have bT:=ca O a6
   refine fd 6 Tyf42_6 rfl (sI 0 (sl J t N) ((vS f g l m q s J t N aH aG aI au ar av ao an ap G u I).toArray) bT Tys39 rfl rfl (fun cR a7=>(wt (sr (fd 7 Tyf42_7 rfl (l1 0 (sl aH aG aI) a7 Tya36 ?_))))))
   obtain ⟨x,bU,h⟩:=ob h
   refine cv ([sl aH aG aI]) Tyb47 (IH47 _ _ _ _ _ _ bU (hG.mono (am.trans O.sub)) (ms bN O.sub) (pt a7)) ?_
   rintro _ cS ⟨bV,S,U,rfl,Y,bW⟩
   have bX:=ca Y a7
   refine fd 7 Tyf42_7 rfl (sI 0 (sl S x U) ((vS f g l m q s J t N S x U au ar av ao an ap G u I).toArray) bX Tys36 rfl rfl (fun bY bZ=>?_))
   have a8:SR K bV wi bY [] [.box wi.heap.size aE.heap.size (vS f g l m q s J t N S x U au ar av ao an ap G u I).toArray 42,.row wi.heap.size (sl W d X) 42 11 d.length ay]:=bZ
   refine wt (sr (fd 8 Tyf42_8 rfl (l1 0 (sl au ar av) a8 Tya36 ?_)))
   obtain ⟨y,b0,h⟩:=ob h
   refine cv ([sl au ar av]) Tyb47 (IH47 _ _ _ _ _ _ b0 (hG.mono ((am.trans O.sub).trans Y.sub)) (ms bO (O.sub.trans Y.sub)) (pt a8)) ?_
   rintro _ cU ⟨cV,ae,af,rfl,ag,b1⟩
   have b2:=ca ag a8
   refine fd 8 Tyf42_8 rfl (sI 0 (sl ae y af) ((vS f g l m q s J t N S x U ae y af ao an ap G u I).toArray) b2 Tys36 rfl rfl (fun cW a9=>(wt (sr (fd 9 Tyf42_9 rfl (l1 0 (sl ao an ap) a9 Tya36 ?_))))))
   obtain ⟨z,b3,h⟩:=ob h
   refine cv ([sl ao an ap]) Tyb47 (IH47 _ _ _ _ _ _ b3 (hG.mono (((am.trans O.sub).trans Y.sub).trans ag.sub)) (ms bP ((O.sub.trans Y.sub).trans ag.sub)) (pt a9)) ?_
   rintro _ cX ⟨ba,aj,ak,rfl,al,b4⟩
   have b5:=ca al a9
   refine fd 9 Tyf42_9 rfl (sI 0 (sl aj z ak) ((vS f g l m q s J t N S x U ae y af aj z ak G u I).toArray) b5 Tys36 rfl rfl (fun cY b6=>(wt (sr (m2 nS (wt (wp_seq (sr (m2 (iI 0) (wt (wp_block ?_)))))))))))
   have b7:=b6.row_ wi.heap.size 87 5
   refine wp_loopG (fun g_ a w=>∃ (bo:Nat→Value) (a1:KH) (az:LC) (Z:Nat) (c:LC) (ab:OA) (ac:Nat) (a2:List Value),g_=az.length∧a=fr 66 (updL bo [(0,sl aQ ai aR),(3,sl W d X),(4,iI (D:Int)),(5,pp aE.heap.size 0),(6,sl ab c ac),(7,iI (Z:Int))])∧KH.sub ba a1∧SR K a1 wi w [] [.box wi.heap.size aE.heap.size (vS f g l m q s J t N S x U ae y af aj z ak G u I).toArray 42,.row wi.heap.size (sl W d X) 42 11 d.length ay,.row wi.heap.size (sl ab c ac) 87 5 c.length a2]∧u.drop Z=az∧Reps (RDCase a1) 5 c a2∧c.length * 80 ≤ 140737488355328∧f47_l2 k F d D f g l m q s t x y z (f47_l1 k F aq) az Z c=some r_) u.length ?_ ?_
   ·exact ⟨_,ba,u,0,([]:LC),none,0,[],rfl,fR,kr,(b7.sel [1,2,0] (by decide)),List.drop_zero,(reps0 (R:=(RDCase ba)) (size:=5)),(by simp),h⟩
   ·rintro _ _ bp ⟨bo,a1,az,Z,c,ab,ac,a2,rfl,rfl,ah,aJ,aK,bq,b8,h⟩
    rcases az with _ | ⟨⟨A,B,C,aV,aL⟩,az⟩
    ·unfold f47_l2 at h
     refine wp_seq (sr (m1 (iI (Z:Int)) (fd 10 Tyf42_10 rfl (l1 0 (sl G u I) aJ Tya40 (lS u.length Tye40 (bcm (r:=false) rfl rfl (congrArg some (drop_nil_lt aK)) (wt (cndF rfl (wp_exit (thenX (thenX (blkX (thenN (sr (m1 (sl ab c ac) (fd 10 Tyf42_10 rfl (sI 0 (sl ab c ac) ((vS f g l m q s J t N S x U ae y af aj z ak ab c ac).toArray) aJ Tys40 rfl rfl (fun cZ br=>(wt (wp_region_lit (m1 (sl W d X) (lN 0 (vS f g l m q s J t N S x U ae y af aj z ak ab c ac) br Tya42 Tys42 (bsl (e:=42) (cells:=(vS f g l m q s J t N S x U ae y af aj z ak ab c ac).toArray) (vs:=[(0,.agg (vS f g l m q s J t N S x U ae y af aj z ak ab c ac).toArray)]) br rfl (buildSl_one Tye36 Tys42 Tyz42 rfl (by decide) (by decide) rfl) (fun c2 b9=>?_))))))))))))))))))))))))
     obtain ⟨bb,cb,aM,cc⟩:=shutI (i:=3) (bytes:=80) (R:=fun K=>(RDCase K)) b9 rfl (Nat.le_refl _) bq b8 (fun hs=>(fun _ _ h=>RDCase.mono hs h))
     obtain ⟨bs,h⟩:=of_guard h
     refine apR (R:=(RDStmt bb)) (p:=(DStmt.mk f g l m q s t x y z c)) (i:=2) (j:=0) cb rfl rfl Tye36 Tyi42 rfl (by decide) rfl rfl (bm.mono (fun _ _ h=>RDStmt.mono (((((O.sub.trans Y.sub).trans ag.sub).trans al.sub).trans ah).trans aM) h)) (RDStmt.intro bK bL (me bS ((((Y.sub.trans ag.sub).trans al.sub).trans ah).trans aM)) (ms bW (((ag.sub.trans al.sub).trans ah).trans aM)) (ms b1 ((al.sub.trans ah).trans aM)) (ms b4 (ah.trans aM)) cc) rfl rfl (Nat.le_refl _) bs (by decide) (fun bd be bu ce cf ch=>?_)
     have ci:SR K bb wi ce [] [.box wi.heap.size aE.heap.size (vS f g l m q s J t N S x U ae y af aj z ak ab c ac).toArray 42,.row wi.heap.size (.slice bd (d ++ [(DStmt.mk f g l m q s t x y z c)]).length be) 42 11 (d ++ [(DStmt.mk f g l m q s t x y z c)]).length bu]:=cf.sel [1,2] (by decide)
     exact m2 (.slice bd (d ++ [(DStmt.mk f g l m q s t x y z c)]).length be) (wpList_nil (blkN (thenN (wp_region_lit (m1 (iI (D:Int)) (bar (r:=((D + 1:Nat):Int)) rfl rfl (inc_ok (le_big (((ms bj am)).len) (by decide) (drop_cons_lt aF))) (m2 (iI ((D + 1:Nat):Int)) (wt (⟨_,Nat.lt_succ_self _,_,bb,aq,D + 1,(d ++ [(DStmt.mk f g l m q s t x y z c)]),bd,be,bu,rfl,fR,((((((am.trans O.sub).trans Y.sub).trans ag.sub).trans al.sub).trans ah).trans aM),(ci.sel [1] (by decide)),drop_cons_next aF,ch,(app_bound bs),h⟩)))))))))
    ·unfold f47_l2 at h
     refine wp_seq (sr (m1 (iI (Z:Int)) (fd 10 Tyf42_10 rfl (l1 0 (sl G u I) aJ Tya40 (lS u.length Tye40 (bcm (r:=true) rfl rfl (congrArg some (drop_cons_t aK)) (wt (cndT rfl (wp_skip (thenN (wp_seq (wp_block (sr (fd 10 Tyf42_10 rfl (l1 0 (sl G u I) aJ Tya40 (m1 (iI (Z:Int)) ?_))))))))))))))))
     obtain ⟨cj,ck,c3,cl,c4,cm,cn⟩:=((mc bn ((((O.sub.trans Y.sub).trans ag.sub).trans al.sub).trans ah))).row.at_ (drop_cons_at aK)
     obtain ⟨aW,aX,aN,aP,rfl,co,cq,cr⟩:=RDCase.open cn
     refine idxN (b:=cj) (o:=ck) (i:=Z) Tye40 Tys87 rfl cl rfl (drop_cons_lt aK) (lD (vC A B C aW aV aX aN aL aP) Tya87 Tys87 rfl (fun j v hj=>aJ.cell (kr.cell (cm j v hj))) (aC zC.toArray aJ Tyz87 (fun c5 cs=>(sI 0 (.agg (vC A B C aW aV aX aN aL aP).toArray) ((vC A B C aW aV aX aN aL aP).toArray) cs Tys87 rfl rfl (fun c6 bf=>(wt (sr (fd 3 Tyf87_3 rfl (l1 0 (sl aW aV aX) bf Tya39 ?_)))))))))
     obtain ⟨V,ct,h⟩:=ob h
     refine cv ([sl aW aV aX]) Tyb86 ((f86_ok k) _ _ _ _ _ _ ct (hG.mono (((((am.trans O.sub).trans Y.sub).trans ag.sub).trans al.sub).trans ah)) cq (pt bf)) ?_
     rintro _ c7 ⟨c8,aw,ax,rfl,aY,cu⟩
     have cw:=ca aY bf
     refine fd 3 Tyf87_3 rfl (sI 0 (sl aw V ax) ((vC A B C aw V ax aN aL aP).toArray) cw Tys39 rfl rfl (fun c9 bg=>(wt (sr (fd 4 Tyf87_4 rfl (l1 0 (sl aN aL aP) bg Tya36 ?_))))))
     obtain ⟨ad,cx,h⟩:=ob h
     refine cv ([sl aN aL aP]) Tyb47 (IH47 _ _ _ _ _ _ cx (hG.mono ((((((am.trans O.sub).trans Y.sub).trans ag.sub).trans al.sub).trans ah).trans aY.sub)) (ms cr aY.sub) (pt bg)) ?_
     rintro _ da ⟨a3,aA,aB,rfl,a4,cy⟩
     have cz:=ca a4 bg
     refine fd 4 Tyf87_4 rfl (sI 0 (sl aA ad aB) ((vC A B C aw V ax aA ad aB).toArray) cz Tys36 rfl rfl (fun cA cB=>?_))
     have bv:SR K a3 wi cA [] [.box wi.heap.size bp.heap.size (vC A B C aw V ax aA ad aB).toArray 87,.box wi.heap.size aE.heap.size (vS f g l m q s J t N S x U ae y af aj z ak G u I).toArray 42,.row wi.heap.size (sl W d X) 42 11 d.length ay,.row wi.heap.size (sl ab c ac) 87 5 c.length a2]:=cB
     refine wt (wp_region_lit (m1 (sl ab c ac) (lN 0 (vC A B C aw V ax aA ad aB) bv Tya87 Tys87 (bsl (e:=87) (cells:=(vC A B C aw V ax aA ad aB).toArray) (vs:=[(0,.agg (vC A B C aw V ax aA ad aB).toArray)]) bv rfl (buildSl_one Tye40 Tys87 Tyz87 rfl (by decide) (by decide) rfl) (fun db cC=>?_)))))
     obtain ⟨bw,h⟩:=of_guard h
     refine apR (R:=(RDCase a3)) (p:=(DCase.mk A B C V ad)) (i:=4) (j:=0) cC rfl rfl Tye40 Tyi87 rfl (by decide) rfl rfl (bq.mono (fun _ _ h=>RDCase.mono (aY.sub.trans a4.sub) h)) (RDCase.intro co (me cu a4.sub) cy) rfl rfl (Nat.le_refl _) bw (by decide) (fun bh bi bx cD cG cH=>?_)
     have cI:SR K a3 wi cD [] [.box wi.heap.size bp.heap.size (vC A B C aw V ax aA ad aB).toArray 87,.box wi.heap.size aE.heap.size (vS f g l m q s J t N S x U ae y af aj z ak G u I).toArray 42,.row wi.heap.size (sl W d X) 42 11 d.length ay,.row wi.heap.size (.slice bh (c ++ [(DCase.mk A B C V ad)]).length bi) 87 5 (c ++ [(DCase.mk A B C V ad)]).length bx]:=cG.sel [1,2,3,4] (by decide)
     exact m2 (.slice bh (c ++ [(DCase.mk A B C V ad)]).length bi) (wpList_nil (blkN (thenN (wp_region_lit (m1 (iI (Z:Int)) (bar (r:=((Z + 1:Nat):Int)) rfl rfl (inc_ok (le_big (((mc bn ((((O.sub.trans Y.sub).trans ag.sub).trans al.sub).trans ah))).len) (by decide) (drop_cons_lt aK))) (m2 (iI ((Z + 1:Nat):Int)) (wt (⟨_,Nat.lt_succ_self _,_,a3,az,Z + 1,(c ++ [(DCase.mk A B C V ad)]),bh,bi,bx,rfl,fR,((ah.trans aY.sub).trans a4.sub),(cI.sel [1,2,3] (by decide)),drop_cons_next aK,cH,(app_bound bw),h⟩)))))))))
theorem fam47_ok (k0:Nat) : ∀ k,f47_spec (fam47 k0 k).f47:=by
 intro k
 induction k with
 | zero=>exact (by unfold f47_spec; intro _ _ _ _ _ _ h_; cases h_)
 | succ k ih=>exact f47_b_ok k0 (fam47 k0 k) ih
theorem f47_ok (k:Nat):f47_spec (f47 k):=(fam47_ok k k)
theorem f19_b_ok (k:Nat):f19_spec (f19_b k):=by
 unfold f19_spec
 intro K wi au a8 a9 h hG av aw
 obtain ⟨r_,hr_,h⟩:=rz h
 obtain ⟨x⟩:=au
 obtain ⟨B,c1,rfl,aj⟩:=RDProgram.open av
 refine enter Tryz.func19 rfl (n:=37) rfl ?_
 unfold f19_b at h
 refine sr (bxoC (cs:=#[sl B x c1]) aw rfl rfl (fun W ax=>(aC #[nS] ax Tyz24 (fun X ay=>(wt (sr (aC #[nS] ay Tyz24 (fun ba az=>(wt (wp_seq (sr (m2 (iI 0) (wt (wp_block ?_))))))))))))))
 have aA:=az.row_ wi.heap.size 38 6
 refine wp_loopG (fun g_ a w=>∃ (ak:Nat→Value) (J:KH) (C:LF) (y:Nat) (c:LF) (s:OA) (t:Nat) (V:List Value),g_=C.length∧a=fr 37 (updL ak [(1,pp wi.heap.size 0),(2,pp W.heap.size 0),(3,pp X.heap.size 0),(4,iI (y:Int))])∧KH.sub K J∧SR K J wi w [] [.box wi.heap.size wi.heap.size #[sl B x c1] 24,.box wi.heap.size W.heap.size #[nS] 24,.box wi.heap.size X.heap.size #[sl s c t] 24,.row wi.heap.size (sl s c t) 38 6 c.length V]∧x.drop y=C∧Reps (RDFunc J) 6 c V∧c.length * 88 ≤ 140737488355328∧f19_l1 k C y c=some r_) x.length ?_ ?_
 ·exact ⟨_,K,x,0,([]:LF),none,0,[],rfl,fR,kr,(aA.sel [3,2,1,0] (by decide)),List.drop_zero,(reps0 (R:=(RDFunc K)) (size:=6)),(by simp),h⟩
 ·rintro _ _ al ⟨ak,J,C,y,c,s,t,V,rfl,rfl,Y,D,N,am,aB,h⟩
  rcases C with _ | ⟨⟨f,d,g,m,q,O⟩,C⟩
  ·unfold f19_l1 at h
   refine wp_seq (sr (m1 (iI (y:Int)) (fd 0 Tyf24_0 rfl (l1 0 (sl B x c1) D Tya22 (lS x.length Tye22 (bcm (r:=false) rfl rfl (congrArg some (drop_nil_lt N)) (wt (cndF rfl (wp_exit (thenX (thenX (blkX (thenN (sr (lN 2 ([sl s c t]) D Tya24 Tys24 (sI 1 (.agg #[sl s c t]) #[sl s c t] D Tys24 rfl rfl (fun bb an=>(wt (wp_ret ?_)))))))))))))))))))
   have e_:=(Option.some.inj h).trans hr_
   have aE:=DProgram.mk.inj e_
   subst aE
   exact retA1 rfl (resN (i:=1) (l:=[sl s c t]) an rfl Tya24 Tys24 rfl rfl rfl) ⟨J,s,t,V,rfl,(an.sel [3] (by decide)),am,aB⟩
  ·unfold f19_l1 at h
   refine wp_seq (sr (m1 (iI (y:Int)) (fd 0 Tyf24_0 rfl (l1 0 (sl B x c1) D Tya22 (lS x.length Tye22 (bcm (r:=true) rfl rfl (congrArg some (drop_cons_t N)) (wt (cndT rfl (wp_skip (thenN (wp_seq (wp_block (sr (fd 0 Tyf24_0 rfl (l1 0 (sl B x c1) D Tya22 (m1 (iI (y:Int)) ?_))))))))))))))))
   obtain ⟨aF,aG,bd,aH,be,aI,aJ⟩:=((mf aj Y)).row.at_ (drop_cons_at N)
   obtain ⟨Z,ab,S,U,rfl,aK,aL,aM⟩:=RDFunc.open aJ
   refine idxN (b:=aF) (o:=aG) (i:=y) Tye22 Tys38 rfl aH rfl (drop_cons_lt N) (lD (vF f Z d ab g m q S O U) Tya38 Tys38 rfl (fun j v hj=>D.cell (kr.cell (aI j v hj))) (aC zF.toArray D Tyz38 (fun bf aN=>(sI 0 (.agg (vF f Z d ab g m q S O U).toArray) ((vF f Z d ab g m q S O U).toArray) aN Tys38 rfl rfl (fun bg ao=>(wt (sr (m2 nS (wt (sr (m1 nS (fd 1 Tyf38_1 rfl (l1 0 (sl Z d ab) ao Tya35 ?_)))))))))))))
   have aP:=ao.row_ wi.heap.size 82 2
   obtain ⟨ap,h⟩:=of_guard h
   refine apS (R:=fun K=>(RDParam K)) (zs:=d) (i:=0) aP rfl Tye35 Tyi82 rfl (by decide) rfl rfl (reps0 (R:=(RDParam J)) (size:=2)) aL (fun _ _ h=>RDParam.one h) (Nat.le_refl _) ap (by decide) (fun z A aQ bh aR aS=>(fd 1 Tyf38_1 rfl (sI 1 (.slice z (([]:LP) ++ d).length A) ((vF f z (([]:LP) ++ d) A g m q S O U).toArray) aR Tys35 rfl rfl (fun bi af=>(wt (sr (fd 5 Tyf38_5 rfl (l1 1 (sl S O U) af Tya36 ?_))))))))
   obtain ⟨u,aT,h⟩:=ob h
   refine cv ([sl S O U]) Tyb47 ((f47_ok k) _ _ _ _ _ _ aT (hG.mono Y) aM (pt af)) ?_
   rintro _ bj ⟨aU,G,I,rfl,ac,aV⟩
   have aW:=ca ac af
   refine fd 5 Tyf38_5 rfl (sI 1 (sl G u I) ((vF f z (([]:LP) ++ d) A g m q G u I).toArray) aW Tys36 rfl rfl (fun aX aY=>?_))
   have ag:SR K aU wi aX [] [.row wi.heap.size (.slice z (([]:LP) ++ d).length A) 82 2 (([]:LP) ++ d).length aQ,.box wi.heap.size al.heap.size (vF f z (([]:LP) ++ d) A g m q G u I).toArray 38,.box wi.heap.size wi.heap.size #[sl B x c1] 24,.box wi.heap.size W.heap.size #[nS] 24,.box wi.heap.size X.heap.size #[sl s c t] 24,.row wi.heap.size (sl s c t) 38 6 c.length V]:=aY
   refine wt (sr (fd 0 Tyf24_0 rfl (l1 4 (sl s c t) ag Tya22 (m2 (sl s c t) (wt (wp_region_lit (m1 (sl s c t) (lN 1 (vF f z (([]:LP) ++ d) A g m q G u I) ag Tya38 Tys38 (bsl (e:=38) (cells:=(vF f z (([]:LP) ++ d) A g m q G u I).toArray) (vs:=[(0,.agg (vF f z (([]:LP) ++ d) A g m q G u I).toArray)]) ag rfl (buildSl_one Tye22 Tys38 Tyz38 rfl (by decide) (by decide) rfl) (fun bk aZ=>?_))))))))))
   obtain ⟨ah,a1,ai,a2⟩:=shutI (i:=1) (bytes:=24) (R:=fun K=>(RDParam K)) aZ rfl (Nat.le_refl _) (aS.mono (fun _ _ h=>RDParam.mono ac.sub h)) (apps_bound ap) (fun hs=>(fun _ _ h=>RDParam.mono hs h))
   obtain ⟨aq,h⟩:=of_guard h
   refine apR (R:=(RDFunc ah)) (p:=(DFunc.mk f (([]:LP) ++ d) g m q u)) (i:=5) (j:=0) a1 rfl rfl Tye22 Tyi38 rfl (by decide) rfl rfl (am.mono (fun _ _ h=>RDFunc.mono (ac.sub.trans ai) h)) (RDFunc.intro aK a2 (ms aV ai)) rfl rfl (Nat.le_refl _) aq (by decide) (fun ad ae ar a3 a4 a5=>?_)
   have a6:SR K ah wi a3 [] [.box wi.heap.size al.heap.size (vF f z (([]:LP) ++ d) A g m q G u I).toArray 38,.box wi.heap.size wi.heap.size #[sl B x c1] 24,.box wi.heap.size W.heap.size #[nS] 24,.box wi.heap.size X.heap.size #[sl s c t] 24,.row wi.heap.size (.slice ad (c ++ [(DFunc.mk f (([]:LP) ++ d) g m q u)]).length ae) 38 6 (c ++ [(DFunc.mk f (([]:LP) ++ d) g m q u)]).length ar]:=a4.sel [1,2,3,4,5] (by decide)
   exact fd 0 Tyf24_0 rfl (sI 3 (.slice ad (c ++ [(DFunc.mk f (([]:LP) ++ d) g m q u)]).length ae) #[.slice ad (c ++ [(DFunc.mk f (([]:LP) ++ d) g m q u)]).length ae] a6 Tys22 rfl rfl (fun bm a7=>(wpList_nil (blkN (thenN (wp_region_lit (m1 (iI (y:Int)) (bar (r:=((y + 1:Nat):Int)) rfl rfl (inc_ok (le_big (((mf aj Y)).len) (by decide) (drop_cons_lt N))) (m2 (iI ((y + 1:Nat):Int)) (wt (⟨_,Nat.lt_succ_self _,_,ah,C,y + 1,(c ++ [(DFunc.mk f (([]:LP) ++ d) g m q u)]),ad,ae,ar,rfl,fR,((Y.trans ac.sub).trans ai),(a7.sel [1,2,3,4] (by decide)),drop_cons_next N,a5,(app_bound aq),h⟩)))))))))))
theorem f19_ok (k:Nat):f19_spec (f19 k):=f19_b_ok k
theorem f89_b_ok (k:Nat) (F:Fam89) (IH89:f89_spec F.f89):f89_spec (f89_b k F):=by
 unfold f89_spec
 intro K wi q D G aK h hG Z ah
 obtain ⟨r_,hr_,h⟩:=rz h
 refine enter Tryz.func89 rfl (n:=26) rfl ?_
 unfold f89_b at h
 refine sr (m2 nS (wt (sr (m2 nS (wt (wp_seq (sr (m2 (iI 0) (wt (wp_block ?_))))))))))
 have ai:=ah.row_ wi.heap.size 107 5
 refine wp_loopG (fun g_ a w=>∃ (ab:Nat→Value) (I:KH) (u:LE) (l:Nat) (c:LE) (s:OA) (t:Nat) (J:List Value),g_=u.length∧a=fr 26 (updL ab [(0,sl D q G),(3,sl s c t),(4,iI (l:Int))])∧KH.sub K I∧SR K I wi w [] [.row wi.heap.size (sl s c t) 107 5 c.length J]∧q.drop l=u∧Reps (RDExpr I) 5 c J∧c.length * 64 ≤ 140737488355328∧f89_l1 k F u l c=some r_) q.length ?_ ?_
 ·exact ⟨_,K,q,0,([]:LE),none,0,[],rfl,fR,kr,ai,List.drop_zero,(reps0 (R:=(RDExpr K)) (size:=5)),(by simp),h⟩
 ·rintro _ _ ac ⟨ab,I,u,l,c,s,t,J,rfl,rfl,N,S,z,ad,aj,h⟩
  rcases u with _ | ⟨⟨d,f,g,U,A⟩,u⟩
  ·unfold f89_l1 at h
   refine wp_seq (sr (m1 (iI (l:Int)) (m1 (sl D q G) (lS q.length Tye39 (bcm (r:=false) rfl rfl (congrArg some (drop_nil_lt z)) (wt (cndF rfl (wp_exit (thenX (thenX (blkX (thenN (sr (m1 (sl s c t) (m2 (sl s c t) (wt (wp_ret ?_)))))))))))))))))
   obtain ⟨ak,al,aL,am⟩:=shutI (i:=0) (bytes:=64) (R:=fun K=>(RDExpr K)) S rfl (Nat.le_refl _) ad aj (fun hs=>(fun _ _ h=>RDExpr.mono hs h))
   cases (oi h).trans hr_
   exact retA1 rfl (resT rfl) ⟨ak,s,t,rfl,al,am⟩
  ·unfold f89_l1 at h
   refine wp_seq (sr (m1 (iI (l:Int)) (m1 (sl D q G) (lS q.length Tye39 (bcm (r:=true) rfl rfl (congrArg some (drop_cons_t z)) (wt (cndT rfl (wp_skip (thenN (wp_seq (wp_block (sr (m1 (sl D q G) (m1 (iI (l:Int)) ?_))))))))))))))
   obtain ⟨an,ao,aM,ap,aN,aq,ar⟩:=((me Z N)).row.at_ (drop_cons_at z)
   obtain ⟨B,C,rfl,au,av⟩:=RDExpr.open ar
   refine idxN (b:=an) (o:=ao) (i:=l) Tye39 Tys107 rfl ap rfl (drop_cons_lt z) (lD (vE d f g U B A C) Tya107 Tys107 rfl (fun j v hj=>S.cell (kr.cell (aq j v hj))) (aC zE.toArray S Tyz107 (fun aP aw=>(sI 0 (.agg (vE d f g U B A C).toArray) ((vE d f g U B A C).toArray) aw Tys107 rfl rfl (fun aQ ax=>(wt (sr (fd 3 Tyf107_3 rfl (sI 0 (iI 0) ((vE d f g 0 B A C).toArray) ax Tys3 rfl rfl (fun aR V=>(wt (sr (fd 4 Tyf107_4 rfl (l1 0 (sl B A C) V Tya39 ?_))))))))))))))
   obtain ⟨m,ay,h⟩:=ob h
   refine cv ([sl B A C]) Tyb89 (IH89 _ _ _ _ _ _ ay (hG.mono N) av (pt V)) ?_
   rintro _ aS ⟨O,x,y,rfl,W,az⟩
   have aA:=ca W V
   refine fd 4 Tyf107_4 rfl (sI 0 (sl x m y) ((vE d f g 0 x m y).toArray) aA Tys39 rfl rfl (fun aB aE=>?_))
   have ae:SR K O wi aB [] [.box wi.heap.size ac.heap.size (vE d f g 0 x m y).toArray 107,.row wi.heap.size (sl s c t) 107 5 c.length J]:=aE
   refine wt (wp_region_lit (m1 (sl s c t) (lN 0 (vE d f g 0 x m y) ae Tya107 Tys107 (bsl (e:=107) (cells:=(vE d f g 0 x m y).toArray) (vs:=[(0,.agg (vE d f g 0 x m y).toArray)]) ae rfl (buildSl_one Tye39 Tys107 Tyz107 rfl (by decide) (by decide) rfl) (fun aT aF=>?_)))))
   obtain ⟨af,h⟩:=of_guard h
   refine apR (R:=(RDExpr O)) (p:=(DExpr.mk d f g 0 m)) (i:=2) (j:=0) aF rfl rfl Tye39 Tyi107 rfl (by decide) rfl rfl (ad.mono (fun _ _ h=>RDExpr.mono W.sub h)) (RDExpr.intro au az) rfl rfl (Nat.le_refl _) af (by decide) (fun X Y ag aG aH aI=>?_)
   have aJ:SR K O wi aG [] [.box wi.heap.size ac.heap.size (vE d f g 0 x m y).toArray 107,.row wi.heap.size (.slice X (c ++ [(DExpr.mk d f g 0 m)]).length Y) 107 5 (c ++ [(DExpr.mk d f g 0 m)]).length ag]:=aH.sel [1,2] (by decide)
   exact m2 (.slice X (c ++ [(DExpr.mk d f g 0 m)]).length Y) (wpList_nil (blkN (thenN (wp_region_lit (m1 (iI (l:Int)) (bar (r:=((l + 1:Nat):Int)) rfl rfl (inc_ok (le_big (((me Z N)).len) (by decide) (drop_cons_lt z))) (m2 (iI ((l + 1:Nat):Int)) (wt (⟨_,Nat.lt_succ_self _,_,O,u,l + 1,(c ++ [(DExpr.mk d f g 0 m)]),X,Y,ag,rfl,fR,(N.trans W.sub),(aJ.sel [1] (by decide)),drop_cons_next z,aI,(app_bound af),h⟩)))))))))
theorem fam89_ok (k0:Nat) : ∀ k,f89_spec (fam89 k0 k).f89:=by
 intro k
 induction k with
 | zero=>exact (by unfold f89_spec; intro _ _ _ _ _ _ h_; cases h_)
 | succ k ih=>exact f89_b_ok k0 (fam89 k0 k) ih
theorem f89_ok (k:Nat):f89_spec (f89 k):=(fam89_ok k k)
theorem f51_b_ok (k:Nat) (F:Fam51) (IH51:f51_spec F.f51):f51_spec (f51_b k F):=by
 unfold f51_spec
 intro K wi aq aU aV cQ h hG bj bA
 obtain ⟨r_,hr_,h⟩:=rz h
 refine enter Tryz.func51 rfl (n:=69) rfl ?_
 unfold f51_b at h
 refine sr (m2 nS (wt (sr (m2 nS (wt (wp_seq (sr (m2 (iI 0) (wt (wp_block ?_))))))))))
 have bB:=bA.row_ wi.heap.size 42 11
 refine wp_loopG (fun g_ a w=>∃ (bk:Nat→Value) (aW:KH) (ax:LS) (I:Nat) (c:LS) (J:OA) (N:Nat) (av:List Value),g_=ax.length∧a=fr 69 (updL bk [(0,sl aU aq aV),(3,sl J c N),(4,iI (I:Int))])∧KH.sub K aW∧SR K aW wi w [] [.row wi.heap.size (sl J c N) 42 11 c.length av]∧aq.drop I=ax∧Reps (RDStmt aW) 11 c av∧c.length * 184 ≤ 140737488355328∧f51_l1 k F ax I c=some r_) aq.length ?_ ?_
 ·exact ⟨_,K,aq,0,([]:LS),none,0,[],rfl,fR,kr,bB,List.drop_zero,(reps0 (R:=(RDStmt K)) (size:=11)),(by simp),h⟩
 ·rintro _ _ O ⟨bk,aW,ax,I,c,J,N,av,rfl,rfl,aw,a5,aK,bm,bC,h⟩
  rcases ax with _ | ⟨⟨d,f,a6,g,aY,l,ay,ak,ac,S,q⟩,ax⟩
  ·unfold f51_l1 at h
   refine wp_seq (sr (m1 (iI (I:Int)) (m1 (sl aU aq aV) (lS aq.length Tye36 (bcm (r:=false) rfl rfl (congrArg some (drop_nil_lt aK)) (wt (cndF rfl (wp_exit (thenX (thenX (blkX (thenN (sr (m1 (sl J c N) (m2 (sl J c N) (wt (wp_ret ?_)))))))))))))))))
   obtain ⟨bD,bE,cR,bF⟩:=shutI (i:=0) (bytes:=184) (R:=fun K=>(RDStmt K)) a5 rfl (Nat.le_refl _) bm bC (fun hs=>(fun _ _ h=>RDStmt.mono hs h))
   cases (oi h).trans hr_
   exact retA1 rfl (resT rfl) ⟨bD,J,N,rfl,bE,bF⟩
  ·unfold f51_l1 at h
   refine wp_seq (sr (m1 (iI (I:Int)) (m1 (sl aU aq aV) (lS aq.length Tye36 (bcm (r:=true) rfl rfl (congrArg some (drop_cons_t aK)) (wt (cndT rfl (wp_skip (thenN (wp_seq (wp_block (sr (m1 (sl aU aq aV) (m1 (iI (I:Int)) ?_))))))))))))))
   obtain ⟨bG,bH,cS,bI,cU,bJ,bK⟩:=((ms bj aw)).row.at_ (drop_cons_at aK)
   obtain ⟨az,aA,al,am,ad,ae,U,V,u,x,rfl,bL,bM,bN,bO,bP,bQ,bn⟩:=RDStmt.open bK
   refine idxN (b:=bG) (o:=bH) (i:=I) Tye36 Tys42 rfl bI rfl (drop_cons_lt aK) (lD (vS d f a6 g aY l az ay aA al ak am ad ac ae U S V u q x) Tya42 Tys42 rfl (fun j v hj=>a5.cell (kr.cell (bJ j v hj))) (aC zS.toArray a5 Tyz42 (fun cV bR=>(sI 0 (.agg (vS d f a6 g aY l az ay aA al ak am ad ac ae U S V u q x).toArray) ((vS d f a6 g aY l az ay aA al ak am ad ac ae U S V u q x).toArray) bR Tys42 rfl rfl (fun cW bS=>(wt (sr (fd 2 Tyf42_2 rfl (sI 0 (iI 0) ((vS d f 0 g aY l az ay aA al ak am ad ac ae U S V u q x).toArray) bS Tys3 rfl rfl (fun cX bT=>(fd 4 Tyf42_4 rfl (sI 0 (iI 0) ((vS d f 0 g 0 l az ay aA al ak am ad ac ae U S V u q x).toArray) bT Tys3 rfl rfl (fun bU bV=>?_)))))))))))))
   have a7:SR K aW wi bU [] [.box wi.heap.size O.heap.size (vS d f 0 g 0 l az ay aA al ak am ad ac ae U S V u q x).toArray 42,.row wi.heap.size (sl J c N) 42 11 c.length av]:=bV
   refine wt (sr (fd 6 Tyf42_6 rfl (l1 0 (sl az ay aA) a7 Tya39 ?_)))
   obtain ⟨s,bW,h⟩:=ob h
   refine cv ([sl az ay aA]) Tyb89 ((f89_ok k) _ _ _ _ _ _ bW (hG.mono aw) bN (pt a7)) ?_
   rintro _ cY ⟨bX,D,G,rfl,W,bY⟩
   have bZ:=ca W a7
   refine fd 6 Tyf42_6 rfl (sI 0 (sl D s G) ((vS d f 0 g 0 l D s G al ak am ad ac ae U S V u q x).toArray) bZ Tys39 rfl rfl (fun cZ b0=>(wt (wp_seq (have aB:=b0.drew;(regAny (E:=[10,12,14]) (F:=FW bX [.box wi.heap.size O.heap.size (vS d f 0 g 0 l D s G al ak am ad ac ae U S V u q x).toArray 42,.row wi.heap.size (sl J c N) 42 11 c.length av]) (L:=(lb 15 0)) ymx rfl rfl (tk 0 (pp O.heap.size 7) (lb 15 1) rfl (fun w=>fld_r (o':=7) Tyf42_7 rfl rfl) (heldF (fwOf (is:=[0,1]) aB kr rfl)) (tf 1 (sl al ak am) ([[10,1],[12,1],[14,1]]) (lb 15 3) rfl (fwOf (is:=[0,1]) aB kr rfl) (fun w hF=>lb1_r (i:=0) (v:=sl al ak am) hF rfl Tya36 rfl rfl) (tk 3 (pp O.heap.size 8) (lb 15 11) rfl (fun w=>fld_r (o':=8) Tyf42_8 rfl rfl) (heldF (fwOf (is:=[0,1]) aB kr rfl)) (tf 4 (sl ad ac ae) ([[10,4],[12,4],[14,4]]) (lb 15 27) rfl (fwOf (is:=[0,1]) aB kr rfl) (fun w hF=>lb1_r (i:=0) (v:=sl ad ac ae) hF rfl Tya36 rfl rfl) (tk 6 (pp O.heap.size 9) (lb 15 91) rfl (fun w=>fld_r (o':=9) Tyf42_9 rfl rfl) (heldF (fwOf (is:=[0,1]) aB kr rfl)) (tf 7 (sl U S V) ([[10,7],[12,7],[14,7]]) (lb 15 219) rfl (fwOf (is:=[0,1]) aB kr rfl) (fun w hF=>lb1_r (i:=0) (v:=sl U S V) hF rfl Tya36 rfl rfl) (aO 2 rfl ?_)))))))))))))
   obtain ⟨t,b1,h⟩:=ob h
   refine cv ([sl al ak am]) Tyb51 (IH51 _ _ _ _ _ _ b1 (hG.mono (aw.trans W.sub)) (ms bO W.sub) (pt aB)) ?_
   rintro _ c2 ⟨c3,X,Y,rfl,z,b2⟩
   have aZ:=ca z aB
   refine wt ⟨heldF (fwOf (is:=[0,1]) aZ z.sub rfl),tk 9 (pp O.heap.size 7) (lb 15 735) rfl (fun w=>fld_r (o':=7) Tyf42_7 rfl rfl) (heldF (fwOf (is:=[0,1]) aZ z.sub rfl)) (aO 5 rfl ?_)⟩
   obtain ⟨y,b3,h⟩:=ob h
   refine cv ([sl ad ac ae]) Tyb51 (IH51 _ _ _ _ _ _ b3 (hG.mono ((aw.trans W.sub).trans z.sub)) (ms bP (W.sub.trans z.sub)) (pt aZ)) ?_
   rintro _ c4 ⟨c5,af,ag,rfl,Z,b4⟩
   have a8:=ca Z aZ
   refine wt ⟨heldF (fwOf (is:=[0,1]) a8 (z.sub.trans Z.sub) rfl),aO 8 rfl ?_⟩
   obtain ⟨A,b5,h⟩:=ob h
   refine cv ([sl U S V]) Tyb51 (IH51 _ _ _ _ _ _ b5 (hG.mono (((aw.trans W.sub).trans z.sub).trans Z.sub)) (ms bQ ((W.sub.trans z.sub).trans Z.sub)) (pt a8)) ?_
   rintro _ c6 ⟨a1,ar,au,rfl,an,b6⟩
   have bo:=ca an a8
   refine wt ⟨heldF (fwOf (is:=[0,1]) bo ((z.sub.trans Z.sub).trans an.sub) rfl),aO 10 rfl (sI 0 (sl X t Y) ((vS d f 0 g 0 l D s G X t Y ad ac ae U S V u q x).toArray) bo Tys36 rfl rfl (fun c7 b7=>(wt ⟨heldE (i:=10) rfl rfl,tk 11 (pp O.heap.size 8) (lb 15 4095) rfl (fun w=>fld_r (o':=8) Tyf42_8 rfl rfl) (heldE (i:=10) rfl rfl) (aO 12 rfl (sI 0 (sl af y ag) ((vS d f 0 g 0 l D s G X t Y af y ag U S V u q x).toArray) b7 Tys36 rfl rfl (fun b8 b9=>?_)))⟩)))⟩
   have cb:SR K a1 wi b8 [] [.box wi.heap.size O.heap.size (vS d f 0 g 0 l D s G X t Y af y ag U S V u q x).toArray 42,.row wi.heap.size (sl J c N) 42 11 c.length av]:=b9
   refine wt ⟨heldE (i:=12) rfl rfl,tk 13 (pp O.heap.size 9) (lb 15 16383) rfl (fun w=>fld_r (o':=9) Tyf42_9 rfl rfl) (heldE (i:=10) rfl rfl) (aO 14 rfl (sI 0 (sl ar A au) ((vS d f 0 g 0 l D s G X t Y af y ag ar A au u q x).toArray) cb Tys36 rfl rfl (fun c8 cc=>(wt ⟨heldE (i:=14) rfl rfl,aD (thenN (sr (m2 nS (wt (wp_seq (sr (m2 (iI 0) (wt (wp_block ?_)))))))))⟩))))⟩
   have ce:=cc.row_ wi.heap.size 87 5
   refine wp_loopG (fun g_ a w=>∃ (bp:Nat→Value) (a2:KH) (aJ:LC) (ah:Nat) (m:LC) (ai:OA) (aj:Nat) (a3:List Value),g_=aJ.length∧a=fr 69 (updL bp [(0,sl aU aq aV),(3,sl J c N),(4,iI (I:Int)),(5,pp O.heap.size 0),(6,sl ai m aj),(7,iI (ah:Int))])∧KH.sub a1 a2∧SR K a2 wi w [] [.box wi.heap.size O.heap.size (vS d f 0 g 0 l D s G X t Y af y ag ar A au u q x).toArray 42,.row wi.heap.size (sl J c N) 42 11 c.length av,.row wi.heap.size (sl ai m aj) 87 5 m.length a3]∧q.drop ah=aJ∧Reps (RDCase a2) 5 m a3∧m.length * 80 ≤ 140737488355328∧f51_l2 k F c I d f g l s t y A (f51_l1 k F ax) aJ ah m=some r_) q.length ?_ ?_
   ·exact ⟨_,a1,q,0,([]:LC),none,0,[],rfl,fR,kr,(ce.sel [1,2,0] (by decide)),List.drop_zero,(reps0 (R:=(RDCase a1)) (size:=5)),(by simp),h⟩
   ·rintro _ _ bq ⟨bp,a2,aJ,ah,m,ai,aj,a3,rfl,rfl,ao,aL,aM,br,cf,h⟩
    rcases aJ with _ | ⟨⟨B,C,a9,aN,aE⟩,aJ⟩
    ·unfold f51_l2 at h
     refine wp_seq (sr (m1 (iI (ah:Int)) (fd 10 Tyf42_10 rfl (l1 0 (sl u q x) aL Tya40 (lS q.length Tye40 (bcm (r:=false) rfl rfl (congrArg some (drop_nil_lt aM)) (wt (cndF rfl (wp_exit (thenX (thenX (blkX (thenN (sr (m1 (sl ai m aj) (fd 10 Tyf42_10 rfl (sI 0 (sl ai m aj) ((vS d f 0 g 0 l D s G X t Y af y ag ar A au ai m aj).toArray) aL Tys40 rfl rfl (fun c9 bs=>(wt (wp_region_lit (m1 (sl J c N) (lN 0 (vS d f 0 g 0 l D s G X t Y af y ag ar A au ai m aj) bs Tya42 Tys42 (bsl (e:=42) (cells:=(vS d f 0 g 0 l D s G X t Y af y ag ar A au ai m aj).toArray) (vs:=[(0,.agg (vS d f 0 g 0 l D s G X t Y af y ag ar A au ai m aj).toArray)]) bs rfl (buildSl_one Tye36 Tys42 Tyz42 rfl (by decide) (by decide) rfl) (fun da ch=>?_))))))))))))))))))))))))
     obtain ⟨ba,ci,aP,cj⟩:=shutI (i:=3) (bytes:=80) (R:=fun K=>(RDCase K)) ch rfl (Nat.le_refl _) br cf (fun hs=>(fun _ _ h=>RDCase.mono hs h))
     obtain ⟨bu,h⟩:=of_guard h
     refine apR (R:=(RDStmt ba)) (p:=(DStmt.mk d f 0 g 0 l s t y A m)) (i:=2) (j:=0) ci rfl rfl Tye36 Tyi42 rfl (by decide) rfl rfl (bm.mono (fun _ _ h=>RDStmt.mono (((((W.sub.trans z.sub).trans Z.sub).trans an.sub).trans ao).trans aP) h)) (RDStmt.intro bL bM (me bY ((((z.sub.trans Z.sub).trans an.sub).trans ao).trans aP)) (ms b2 (((Z.sub.trans an.sub).trans ao).trans aP)) (ms b4 ((an.sub.trans ao).trans aP)) (ms b6 (ao.trans aP)) cj) rfl rfl (Nat.le_refl _) bu (by decide) (fun bb bd bv ck cl cm=>?_)
     have cn:SR K ba wi ck [] [.box wi.heap.size O.heap.size (vS d f 0 g 0 l D s G X t Y af y ag ar A au ai m aj).toArray 42,.row wi.heap.size (.slice bb (c ++ [(DStmt.mk d f 0 g 0 l s t y A m)]).length bd) 42 11 (c ++ [(DStmt.mk d f 0 g 0 l s t y A m)]).length bv]:=cl.sel [1,2] (by decide)
     exact m2 (.slice bb (c ++ [(DStmt.mk d f 0 g 0 l s t y A m)]).length bd) (wpList_nil (blkN (thenN (wp_region_lit (m1 (iI (I:Int)) (bar (r:=((I + 1:Nat):Int)) rfl rfl (inc_ok (le_big (((ms bj aw)).len) (by decide) (drop_cons_lt aK))) (m2 (iI ((I + 1:Nat):Int)) (wt (⟨_,Nat.lt_succ_self _,_,ba,ax,I + 1,(c ++ [(DStmt.mk d f 0 g 0 l s t y A m)]),bb,bd,bv,rfl,fR,((((((aw.trans W.sub).trans z.sub).trans Z.sub).trans an.sub).trans ao).trans aP),(cn.sel [1] (by decide)),drop_cons_next aK,cm,(app_bound bu),h⟩)))))))))
    ·unfold f51_l2 at h
     refine wp_seq (sr (m1 (iI (ah:Int)) (fd 10 Tyf42_10 rfl (l1 0 (sl u q x) aL Tya40 (lS q.length Tye40 (bcm (r:=true) rfl rfl (congrArg some (drop_cons_t aM)) (wt (cndT rfl (wp_skip (thenN (wp_seq (wp_block (sr (fd 10 Tyf42_10 rfl (l1 0 (sl u q x) aL Tya40 (m1 (iI (ah:Int)) ?_))))))))))))))))
     obtain ⟨co,cq,db,cr,dc,cs,ct⟩:=((mc bn ((((W.sub.trans z.sub).trans Z.sub).trans an.sub).trans ao))).row.at_ (drop_cons_at aM)
     obtain ⟨aQ,aR,aF,aG,rfl,cu,cw,cx⟩:=RDCase.open ct
     refine idxN (b:=co) (o:=cq) (i:=ah) Tye40 Tys87 rfl cr rfl (drop_cons_lt aM) (lD (vC B C a9 aQ aN aR aF aE aG) Tya87 Tys87 rfl (fun j v hj=>aL.cell (kr.cell (cs j v hj))) (aC zC.toArray aL Tyz87 (fun dd cy=>(sI 0 (.agg (vC B C a9 aQ aN aR aF aE aG).toArray) ((vC B C a9 aQ aN aR aF aE aG).toArray) cy Tys87 rfl rfl (fun de cz=>(wt (sr (fd 2 Tyf87_2 rfl (sI 0 (iI 0) ((vC B C 0 aQ aN aR aF aE aG).toArray) cz Tys3 rfl rfl (fun df be=>(wt (sr (fd 3 Tyf87_3 rfl (l1 0 (sl aQ aN aR) be Tya39 ?_))))))))))))))
     obtain ⟨ab,cA,h⟩:=ob h
     refine cv ([sl aQ aN aR]) Tyb89 ((f89_ok k) _ _ _ _ _ _ cA (hG.mono (((((aw.trans W.sub).trans z.sub).trans Z.sub).trans an.sub).trans ao)) cw (pt be)) ?_
     rintro _ dg ⟨cB,aH,aI,rfl,aX,cC⟩
     have cD:=ca aX be
     refine fd 3 Tyf87_3 rfl (sI 0 (sl aH ab aI) ((vC B C 0 aH ab aI aF aE aG).toArray) cD Tys39 rfl rfl (fun cG cH=>?_))
     have bf:SR K cB wi cG [] [.box wi.heap.size bq.heap.size (vC B C 0 aH ab aI aF aE aG).toArray 87,.box wi.heap.size O.heap.size (vS d f 0 g 0 l D s G X t Y af y ag ar A au u q x).toArray 42,.row wi.heap.size (sl J c N) 42 11 c.length av,.row wi.heap.size (sl ai m aj) 87 5 m.length a3]:=cH
     refine wt (sr (fd 4 Tyf87_4 rfl (l1 0 (sl aF aE aG) bf Tya36 ?_)))
     obtain ⟨ap,cI,h⟩:=ob h
     refine cv ([sl aF aE aG]) Tyb51 (IH51 _ _ _ _ _ _ cI (hG.mono ((((((aw.trans W.sub).trans z.sub).trans Z.sub).trans an.sub).trans ao).trans aX.sub)) (ms cx aX.sub) (pt bf)) ?_
     rintro _ dh ⟨bg,aS,aT,rfl,a4,cJ⟩
     have cK:=ca a4 bf
     refine fd 4 Tyf87_4 rfl (sI 0 (sl aS ap aT) ((vC B C 0 aH ab aI aS ap aT).toArray) cK Tys36 rfl rfl (fun di bw=>(wt (wp_region_lit (m1 (sl ai m aj) (lN 0 (vC B C 0 aH ab aI aS ap aT) bw Tya87 Tys87 (bsl (e:=87) (cells:=(vC B C 0 aH ab aI aS ap aT).toArray) (vs:=[(0,.agg (vC B C 0 aH ab aI aS ap aT).toArray)]) bw rfl (buildSl_one Tye40 Tys87 Tyz87 rfl (by decide) (by decide) rfl) (fun dj cL=>?_))))))))
     obtain ⟨bx,h⟩:=of_guard h
     refine apR (R:=(RDCase bg)) (p:=(DCase.mk B C 0 ab ap)) (i:=4) (j:=0) cL rfl rfl Tye40 Tyi87 rfl (by decide) rfl rfl (br.mono (fun _ _ h=>RDCase.mono (aX.sub.trans a4.sub) h)) (RDCase.intro cu (me cC a4.sub) cJ) rfl rfl (Nat.le_refl _) bx (by decide) (fun bh bi bz cM cN cO=>?_)
     have cP:SR K bg wi cM [] [.box wi.heap.size bq.heap.size (vC B C 0 aH ab aI aS ap aT).toArray 87,.box wi.heap.size O.heap.size (vS d f 0 g 0 l D s G X t Y af y ag ar A au u q x).toArray 42,.row wi.heap.size (sl J c N) 42 11 c.length av,.row wi.heap.size (.slice bh (m ++ [(DCase.mk B C 0 ab ap)]).length bi) 87 5 (m ++ [(DCase.mk B C 0 ab ap)]).length bz]:=cN.sel [1,2,3,4] (by decide)
     exact m2 (.slice bh (m ++ [(DCase.mk B C 0 ab ap)]).length bi) (wpList_nil (blkN (thenN (wp_region_lit (m1 (iI (ah:Int)) (bar (r:=((ah + 1:Nat):Int)) rfl rfl (inc_ok (le_big (((mc bn ((((W.sub.trans z.sub).trans Z.sub).trans an.sub).trans ao))).len) (by decide) (drop_cons_lt aM))) (m2 (iI ((ah + 1:Nat):Int)) (wt (⟨_,Nat.lt_succ_self _,_,bg,aJ,ah + 1,(m ++ [(DCase.mk B C 0 ab ap)]),bh,bi,bz,rfl,fR,((ao.trans aX.sub).trans a4.sub),(cP.sel [1,2,3] (by decide)),drop_cons_next aM,cO,(app_bound bx),h⟩)))))))))
theorem fam51_ok (k0:Nat) : ∀ k,f51_spec (fam51 k0 k).f51:=by
 intro k
 induction k with
 | zero=>exact (by unfold f51_spec; intro _ _ _ _ _ _ h_; cases h_)
 | succ k ih=>exact f51_b_ok k0 (fam51 k0 k) ih
theorem f51_ok (k:Nat):f51_spec (f51 k):=(fam51_ok k k)
theorem f24_b_ok (k:Nat):f24_spec (f24_b k):=by
 unfold f24_spec
 intro K wi ao a6 a7 h hG ap aq
 obtain ⟨r_,hr_,h⟩:=rz h
 obtain ⟨N⟩:=ao
 obtain ⟨O,c1,rfl,ar⟩:=RDProgram.open ap
 refine enter Tryz.func24 rfl (n:=32) rfl ?_
 unfold f24_b at h
 refine sr (bxoC (cs:=#[sl O N c1]) aq rfl rfl (fun G au=>(aC #[nS] au Tyz24 (fun a8 I=>(wt (sr (lN 1 ([sl O N c1]) I Tya24 Tys24 ?_)))))))
 obtain ⟨⟨S⟩,av,h⟩:=ob h
 refine cv ([.agg #[sl O N c1]]) Tyb19 ((f19_ok k) _ _ _ _ _ av (hG.mono kr) (RDProgram.intro ar) (pt I)) ?_
 rintro _ x ⟨ae,U,V,aw,rfl,af,ax,ay⟩
 have az:=ca af I
 have aA:=az.lower_ (i:=0) rfl I.size
 refine aC #[nS] aA Tyz24 (fun a9 aB=>(sI 0 (.agg #[sl U S V]) #[sl U S V] aB Tys24 rfl rfl (fun ba aE=>(wt (wp_seq (sr (m2 (iI 0) (wt (wp_block (wp_loopG (fun g_ a w=>∃ (ag:Nat→Value) (z:KH) (d:LF) (q:OA) (s:Nat) (W:List Value) (c:Int),a=fr 32 (updL ag [(2,pp G.heap.size 0),(3,pp x.heap.size 0),(4,iI c)])∧KH.sub ae z∧SR K z wi w [] [.box wi.heap.size G.heap.size #[nS] 24,.box wi.heap.size x.heap.size #[sl q d s] 24,.row wi.heap.size (sl q d s) 38 6 d.length W]∧Reps (RDFunc z) 6 d W∧d.length * 88 ≤ 140737488355328∧f24_w1 k g_ d c=some r_) k ?_ ?_))))))))))
 ·exact ⟨_,ae,S,U,V,aw,0,fR,kr,(aE.sel [2,0,1] (by decide)),ax,ay,h⟩
 ·rintro g_ _ bb ⟨ag,z,d,q,s,W,c,rfl,ah,A,X,ai,h⟩
  rcases g_ with _ | j720
  ·unfold f24_w1 at h
   cases h
  ·unfold f24_w1 at h
   refine wp_seq (sr (m1 (iI c) (fd 0 Tyf24_0 rfl (l1 1 (sl q d s) A Tya22 (lS d.length Tye22 (c0 (decide (c < (d.length:Int))) (wt (cd h (fun Y h=>?_) (fun Y h=>?_)))))))))
   ·refine cT Y (wp_skip (thenN (wp_seq (wp_block (sr (fd 0 Tyf24_0 rfl (l1 1 (sl q d s) A Tya22 (m1 (iI c) ?_))))))))
    obtain ⟨⟨e,f,g,j,aF,m⟩,u,h⟩:=ob h
    obtain ⟨aG,bd,aj,be,aH,bf⟩:=row_at (A.entAt (i:=2) rfl) X (idxO_at u).1
    obtain ⟨bg,bh,bi,bj,rfl,bk,bm,bn⟩:=RDFunc.open aH
    refine idxG (b:=aG) (o:=0) (i:=c) Tye22 Tys38 rfl aj rfl (idxO_at u).2.1 (idxO_at u).2.2 (fd (0 + c.toNat * 6 + 4) Tyf38_4 rfl (stR (R:=(RDFunc z)) (i:=2) (off:=4) (p:=(DFunc.mk e f g j aF m)) (p':=(DFunc.mk e f g j 0 m)) (v:=iI 0) A rfl X (idxO_at u).1 Tys3 aj rfl rfl rfl rfl (by decide) (fun cs_ h_=>by obtain ⟨bo,bp,bq,br,rfl,aI,aJ,aK⟩:=RDFunc.open h_; exact RDFunc.intro aI aJ aK) (fun ak aL aM al=>?_)))
    have aN:SR K z wi aL [] [.box wi.heap.size G.heap.size #[nS] 24,.box wi.heap.size x.heap.size #[.slice q (d.set c.toNat (DFunc.mk e f g j 0 m)).length s] 24,.row wi.heap.size (.slice q (d.set c.toNat (DFunc.mk e f g j 0 m)).length s) 38 6 (d.set c.toNat (DFunc.mk e f g j 0 m)).length ak]:=by simpa only [List.length_set,List.set_cons_succ,List.set_cons_zero,List.nil_append,List.cons_append] using aM
    refine wt (have t:=aN.drew;(regAny (E:=[12]) (F:=FW z [.box wi.heap.size G.heap.size #[nS] 24,.box wi.heap.size x.heap.size #[.slice q (d.set c.toNat (DFunc.mk e f g j 0 m)).length s] 24,.row wi.heap.size (.slice q (d.set c.toNat (DFunc.mk e f g j 0 m)).length s) 38 6 (d.set c.toNat (DFunc.mk e f g j 0 m)).length ak]) (L:=(lb 13 0)) ymx rfl rfl (tk 0 (pp x.heap.size 0) (lb 13 1) rfl (fun w=>fld_r (o':=0) Tyf24_0 rfl rfl) (heldF (fwOf (is:=[0,1,2]) t kr rfl)) (tf 1 (.slice q (d.set c.toNat (DFunc.mk e f g j 0 m)).length s) ([[12,1]]) (lb 13 3) rfl (fwOf (is:=[0,1,2]) t kr rfl) (fun w hF=>lb1_r (i:=1) (v:=.slice q (d.set c.toNat (DFunc.mk e f g j 0 m)).length s) hF rfl Tya22 rfl rfl) (tk 2 (iI c) (lb 13 7) rfl (fun w=>mv_r (v:=iI c) rfl) (heldF (fwOf (is:=[0,1,2]) t kr rfl)) (tk 3 (pp x.heap.size 0) (lb 13 15) rfl (fun w=>fld_r (o':=0) Tyf24_0 rfl rfl) (heldF (fwOf (is:=[0,1,2]) t kr rfl)) (tf 4 (.slice q (d.set c.toNat (DFunc.mk e f g j 0 m)).length s) ([[12,4]]) (lb 13 31) rfl (fwOf (is:=[0,1,2]) t kr rfl) (fun w hF=>lb1_r (i:=1) (v:=.slice q (d.set c.toNat (DFunc.mk e f g j 0 m)).length s) hF rfl Tya22 rfl rfl) (tk 5 (iI c) (lb 13 63) rfl (fun w=>mv_r (v:=iI c) rfl) (heldF (fwOf (is:=[0,1,2]) t kr rfl)) ?_))))))))
    obtain ⟨B,bs,Z,bu,aP,aQ⟩:=row_at (t.entAt (i:=2) rfl) al (idxO_at (idxO_set (y:=(DFunc.mk e f g j 0 m)) u)).1
    obtain ⟨bv,bw,ab,ac,rfl,bx,bz,aR⟩:=RDFunc.open aP
    refine tk 6 (pp B (0 + c.toNat * 6)) (lb 13 127) rfl (fun w=>idxG_r (b:=B) (o:=0) (i:=c) Tye22 Tys38 rfl Z rfl (idxO_at (idxO_set (y:=(DFunc.mk e f g j 0 m)) u)).2.1 (idxO_at (idxO_set (y:=(DFunc.mk e f g j 0 m)) u)).2.2) (heldF (fwOf (is:=[0,1,2]) t kr rfl)) (tk 7 (pp B (0 + c.toNat * 6 + 5)) (lb 13 255) rfl (fun w=>fld_r (o':=0 + c.toNat * 6 + 5) Tyf38_5 rfl rfl) (heldF (fwOf (is:=[0,1,2]) t kr rfl)) (tf 8 (sl ab m ac) ([[12,8]]) (lb 13 511) rfl (fwOf (is:=[0,1,2]) t kr rfl) (fun w hF=>ld1_r (v:=sl ab m ac) Tya36 rfl (aQ _ (hF.entAt (i:=2) rfl) 5 _ rfl)) (aO 9 rfl ?_)))
    obtain ⟨C,aS,h⟩:=ob h
    refine cv ([sl ab m ac]) Tyb51 ((f51_ok k) _ _ _ _ _ _ aS (hG.mono (af.sub.trans ah)) aR (pt t)) ?_
    rintro _ bA ⟨ad,aT,aU,rfl,D,aV⟩
    have J:=ca D t
    refine wt ⟨heldF (fwOf (is:=[0,1,2]) J D.sub rfl),tk 10 (pp B (0 + c.toNat * 6)) (lb 13 2047) rfl (fun w=>idxG_r (b:=B) (o:=0) (i:=c) Tye22 Tys38 rfl Z rfl (idxO_at (idxO_set (y:=(DFunc.mk e f g j 0 m)) u)).2.1 (idxO_at (idxO_set (y:=(DFunc.mk e f g j 0 m)) u)).2.2) (heldF (fwOf (is:=[0,1,2]) J D.sub rfl)) (tk 11 (pp B (0 + c.toNat * 6 + 5)) (lb 13 4095) rfl (fun w=>fld_r (o':=0 + c.toNat * 6 + 5) Tyf38_5 rfl rfl) (heldF (fwOf (is:=[0,1,2]) J D.sub rfl)) (aO 12 rfl (stR (R:=(RDFunc ad)) (i:=2) (off:=5) (p:=(DFunc.mk e f g j 0 m)) (p':=(DFunc.mk e f g j 0 C)) (v:=sl aT C aU) J rfl (al.mono (fun _ _ h=>RDFunc.mono D.sub h)) (idxO_at (idxO_set (y:=(DFunc.mk e f g j 0 m)) u)).1 Tys36 Z rfl rfl rfl rfl (by decide) (fun cs_ h_=>by obtain ⟨bB,bC,bD,bE,rfl,aW,aX,bF⟩:=RDFunc.open h_; exact RDFunc.intro aW aX aV) (fun am aY aZ a1=>?_))))⟩
    have a2:SR K ad wi aY [] [.box wi.heap.size G.heap.size #[nS] 24,.box wi.heap.size x.heap.size #[.slice q ((d.set c.toNat (DFunc.mk e f g j 0 m)).set c.toNat (DFunc.mk e f g j 0 C)).length s] 24,.row wi.heap.size (.slice q ((d.set c.toNat (DFunc.mk e f g j 0 m)).set c.toNat (DFunc.mk e f g j 0 C)).length s) 38 6 ((d.set c.toNat (DFunc.mk e f g j 0 m)).set c.toNat (DFunc.mk e f g j 0 C)).length am]:=by simpa only [List.length_set,List.set_cons_succ,List.set_cons_zero,List.nil_append,List.cons_append] using aZ
    exact wt ⟨heldE (i:=12) rfl rfl,aD (blkN (thenN (wp_region_lit (m1 (iI c) (bar (r:=(w64 (c + 1))) rfl rfl rfl (m2 (iI (w64 (c + 1))) (wt (⟨_,Nat.lt_succ_self _,_,ad,((d.set c.toNat (DFunc.mk e f g j 0 m)).set c.toNat (DFunc.mk e f g j 0 C)),q,s,am,(w64 (c + 1)),fR,(ah.trans D.sub),a2,a1,(set_bound (set_bound ai)),h⟩))))))))⟩
   ·refine cF Y (wp_exit (thenX (thenX (blkX (thenN (sr (lN 1 ([sl q d s]) A Tya24 Tys24 (sI 0 (.agg #[sl q d s]) #[sl q d s] A Tys24 rfl rfl (fun bG an=>(wt (wp_ret ?_)))))))))))
    obtain ⟨a3,a4,bH,a5⟩:=shutI (i:=2) (bytes:=88) (R:=fun K=>(RDFunc K)) an rfl (Nat.le_refl _) X ai (fun hs=>(fun _ _ h=>RDFunc.mono hs h))
    cases (oi h).trans hr_
    exact retA1 rfl (resN (i:=0) (l:=[sl q d s]) an rfl Tya24 Tys24 rfl rfl rfl) ⟨a3,[sl q d s],rfl,(a4.sel [] (by decide)),(RDProgram.intro a5)⟩
theorem f24_ok (k:Nat):f24_spec (f24 k):=f24_b_ok k
theorem f23_b_ok (k:Nat):f23_spec (f23_b k):=by
 unfold f23_spec
 intro K wi q D G h hG r s
 obtain ⟨r_,hr_,h⟩:=rz h
 obtain ⟨c⟩:=q
 obtain ⟨e,c1,rfl,t⟩:=RDProgram.open r
 refine enter Tryz.func23 rfl (n:=12) rfl ?_
 unfold f23_b at h
 refine sr (bxoC (cs:=#[sl e c c1]) s rfl rfl (fun I d=>(m2 vN (wt (wp_cut (fun a w=>∃ (l:Nat→Value) (f:KH) (g:Bool),a=fr 12 (updL l [(2,.bool g)])∧KH.sub K f∧SR K f wi w [] []∧f23_j1 k g=some r_) ?_ ?_)))))
 ·refine wp_region_lit (fd 0 Tyf24_0 rfl (l1 0 (sl e c c1) d Tya22 (lS c.length Tye22 (c0 (decide ((c.length:Int) ≤ 16)) (m1 (.bool (decide ((c.length:Int) ≤ 16))) (cd h (fun b h=>?_) (fun b h=>?_)))))))
  ·refine n1 7 b (lN 0 ([sl e c c1]) d Tya24 Tys24 (n1 7 b ?_))
   obtain ⟨⟨u⟩,v,h⟩:=ob h
   refine cv ([.agg #[sl e c c1]]) Tyb24 ((f24_ok k) _ _ _ _ _ v (hG.mono kr) (RDProgram.intro t) (pt d)) ?_
   rintro _ J ⟨N,O,rfl,i,m⟩
   have o:=ca i d
   obtain ⟨x,y,rfl,S⟩:=RDProgram.open m
   refine n1 7 b ?_
   obtain ⟨j,z,h⟩:=ob h
   refine cv ([.agg #[sl x u y]]) Tyb20 ((f20_ok k) _ _ _ _ _ z (hG.mono i.sub) m (pt o)) ?_
   rintro _ U ⟨A,rfl,p⟩
   have B:=ca p o
   exact m3 true (.bool j) (cg b) (m2 (.bool j) (wt (⟨_,A,j,fR,(i.sub.trans p.sub),(B.sel [] (by decide)),h⟩)))
  ·exact o1 7 b (o1 7 b (o1 7 b (m3 false vN (cg b) (m2 vN (wt (⟨_,K,false,fR,kr,(d.sel [] (by decide)),h⟩))))))
 ·rintro _ V ⟨l,f,g,rfl,W,C,h⟩
  unfold f23_j1 at h
  refine wp_ret ?_
  cases (oi h).trans hr_
  exact retA1 rfl (resT rfl) ⟨f,rfl,C⟩
theorem f23_ok (k:Nat):f23_spec (f23 k):=f23_b_ok k
theorem f5_b_ok (k:Nat):f5_spec (f5_b k):=by
 unfold f5_spec
 intro K wi ak aT aU h hG al am
 obtain ⟨r_,hr_,h⟩:=rz h
 obtain ⟨m⟩:=ak
 obtain ⟨o,c1,rfl,J⟩:=RDProgram.open al
 refine enter Tryz.func5 rfl (n:=39) rfl ?_
 unfold f5_b at h
 refine sr (bxoC (cs:=#[sl o m c1]) am rfl rfl (fun aV V=>(m2 vN (wt (wp_seq (sr (lN 0 ([sl o m c1]) V Tya24 Tys24 ?_)))))))
 obtain ⟨an,ao,h⟩:=ob h
 refine cv ([.agg #[sl o m c1]]) Tyb13 ((f13_ok k) _ _ _ _ _ ao (hG.mono kr) (RDProgram.intro J) (pt V)) ?_
 rintro _ aW ⟨aX,rfl,p⟩
 have A:=ca p V
 refine uN an (wt (cd h (fun W h=>?_) (fun W h=>?_)))
 ·refine cT W (sr ?_)
  obtain ⟨ap,aq,h⟩:=ob h
  refine cv ([]) Tyb14 ((f14_ok k) _ _ _ aq (hG.mono p.sub) (pt A)) ?_
  rintro _ aY ⟨ar,rfl,au⟩
  have av:=ca au A
  refine m2 (.bool ap) (wt (wp_ret (thenR ?_)))
  cases (oi h).trans hr_
  exact retA1 rfl (resT rfl) ⟨ar,rfl,(av.sel [] (by decide))⟩
 ·refine cF W (wp_skip (thenN (sr (lN 0 ([sl o m c1]) A Tya24 Tys24 ?_))))
  obtain ⟨⟨⟨j⟩,g⟩,aw,h⟩:=ob h
  refine cv ([.agg #[sl o m c1]]) Tyb22 ((f22_ok k) _ _ _ _ _ _ aw (hG.mono p.sub) (RDProgram.intro (mf J p.sub)) (pt A)) ?_
  rintro _ ax ⟨aZ,a1,rfl,t,ay⟩
  have az:=ca t A
  obtain ⟨q,s,rfl,aA⟩:=RDProgram.open ay
  refine m1 (.tuple #[.agg #[sl q j s],iI g]) (ext (v:=.agg #[sl q j s]) rfl rfl (ext (v:=iI g) rfl rfl (aC #[nS] az Tyz24 (fun a2 aB=>(sI 0 (.agg #[sl q j s]) #[sl q j s] aB Tys24 rfl rfl (fun a3 X=>(m2 (iI g) (wt (wp_seq (sr (lN 1 ([sl o m c1]) X Tya24 Tys24 ?_)))))))))))
  obtain ⟨aE,aF,h⟩:=ob h
  refine cv ([.agg #[sl o m c1]]) Tyb23 ((f23_ok k) _ _ _ _ _ aF (hG.mono (p.sub.trans t.sub)) (RDProgram.intro (mf J (p.sub.trans t.sub))) (pt X)) ?_
  rintro _ a4 ⟨B,rfl,u⟩
  have z:=ca u X
  refine uN aE (wt (cd h (fun Y h=>?_) (fun Y h=>?_)))
  ·refine cT Y (wp_cut (fun a w=>∃ (ae:Nat→Value) (N:KH) (Z:Bool),a=fr 39 (updL ae [(2,.bool Z)])∧KH.sub B N∧SR K N wi w [] []∧f5_j1 k Z=some r_) ?_ ?_)
   ·refine wp_region_lit (fd 0 Tyf24_0 rfl (l1 0 (sl q j s) z Tya22 (lS j.length Tye22 (c0 ((j.length:Int) == 0) (m1 (.bool ((j.length:Int) == 0)) (cd h (fun x h=>?_) (fun x h=>?_)))))))
    ·refine n1 21 x (m1 (iI g) (n1 21 x (c0 (g == 2) (m3 true (.bool (g == 2)) (cg x) (m1 (.bool (g == 2)) (cd h (fun C h=>?_) (fun C h=>?_)))))))
     ·refine n1 25 C ?_
      obtain ⟨ab,aG,h⟩:=ob h
      refine cv ([]) Tyb14 ((f14_ok k) _ _ _ aG (hG.mono ((p.sub.trans t.sub).trans u.sub)) (pt z)) ?_
      rintro _ a5 ⟨aH,rfl,af⟩
      have aI:=ca af z
      exact m3 true (.bool ab) (cg C) (m2 (.bool ab) (wt (⟨_,aH,ab,fR,af.sub,(aI.sel [] (by decide)),h⟩)))
     ·exact o1 25 C (m3 false vN (cg C) (m2 vN (wt (⟨_,B,false,fR,kr,(z.sel [] (by decide)),h⟩))))
    ·exact o1 21 x (o1 21 x (m3 false vN (cg x) (m1 vN (o0 25 (m3 false vN rfl (m2 vN (wt (⟨_,B,false,fR,kr,(z.sel [] (by decide)),h⟩))))))))
   ·rintro _ a6 ⟨ae,N,Z,rfl,a7,aJ,h⟩
    unfold f5_j1 at h
    refine wp_ret (thenR ?_)
    cases (oi h).trans hr_
    exact retA1 rfl (resT rfl) ⟨N,rfl,aJ⟩
  ·refine cF Y (wp_skip (thenN (wp_cut (fun a w=>∃ (ag:Nat→Value) (O:KH) (ac:Bool),a=fr 39 (updL ag [(2,.bool ac)])∧KH.sub B O∧SR K O wi w [] []∧f5_j2 k ac=some r_) ?_ ?_)))
   ·have S:=z.drew
    refine regAny (E:=[]) (F:=FW B [.box wi.heap.size ax.heap.size #[sl q j s] 24,.box wi.heap.size wi.heap.size #[sl o m c1] 24]) (L:=(lb 12 0)) ymx rfl rfl (tf 0 (.agg #[sl q j s]) ([]) (lb 12 1) rfl (fwOf (is:=[0,1]) S kr rfl) (fun w hF=>lbN_r (i:=0) (l:=[sl q j s]) hF rfl Tya24 Tys24 rfl rfl rfl) (tf 1 (.agg #[sl o m c1]) ([]) (lb 12 3) rfl (fwOf (is:=[0,1]) S kr rfl) (fun w hF=>lbN_r (i:=1) (l:=[sl o m c1]) hF rfl Tya24 Tys24 rfl rfl rfl) (aO 2 rfl ?_)))
    obtain ⟨⟨aK⟩,aL,h⟩:=ob h
    refine cv ([.agg #[sl o m c1]]) Tyb24 ((f24_ok k) _ _ _ _ _ aL (hG.mono ((p.sub.trans t.sub).trans u.sub)) (RDProgram.intro (mf J ((p.sub.trans t.sub).trans u.sub))) (pt S)) ?_
    rintro _ a8 ⟨a9,ba,rfl,c,ah⟩
    have ad:=ca c S
    obtain ⟨aM,aN,rfl,bb⟩:=RDProgram.open ah
    refine wt ⟨heldF (fwOf (is:=[0,1]) ad c.sub rfl),aO 3 rfl ?_⟩
    obtain ⟨ai,aP,h⟩:=ob h
    refine cv ([.agg #[sl q j s],.agg #[sl aM aK aN]]) Tyb17 ((f17_ok k) _ _ _ _ _ _ _ aP (hG.mono (((p.sub.trans t.sub).trans u.sub).trans c.sub)) (RDProgram.intro (mf aA (u.sub.trans c.sub))) ah (pt ad)) ?_
    rintro _ bd ⟨aj,rfl,e⟩
    have f:=ca e ad
    refine wt ⟨heldF (fwOf (is:=[0,1]) f (c.sub.trans e.sub) rfl),tk 4 (.bool ai) (lb 12 31) rfl (fun w=>mv_r (v:=.bool ai) rfl) (heldF (fwOf (is:=[0,1]) f (c.sub.trans e.sub) rfl)) (cd h (fun y h=>?_) (fun y h=>?_))⟩
    ·refine tkPG (i:=5) (d:=32) (v:=iI g) (L':=(lb 12 63)) rfl (by kernel_rfl) (by kernel_rfl) (fun _ _ d _ _ h=>by cases d<;>exact h) rfl (cg y) (fun w=>mv_r (v:=iI g) rfl) (heldF (fwOf (is:=[0,1]) f (c.sub.trans e.sub) rfl)) rfl (tkPG (i:=6) (d:=32) (v:=.bool (g == 0)) (L':=(lb 12 127)) rfl (by kernel_rfl) (by kernel_rfl) (fun _ _ d _ _ h=>by cases d<;>exact h) rfl (cg y) (fun w=>bcm_r (r:=(g == 0)) rfl rfl rfl) (heldF (fwOf (is:=[0,1]) f (c.sub.trans e.sub) rfl)) rfl (tk 7 (.bool (g == 0)) (lb 12 255) rfl (fun w=>pick_r (b:=true) (v:=.bool (g == 0)) (cg y) rfl) (heldF (fwOf (is:=[0,1]) f (c.sub.trans e.sub) rfl)) (tk 8 (.bool (g == 0)) (lb 12 511) rfl (fun w=>mv_r (v:=.bool (g == 0)) rfl) (heldF (fwOf (is:=[0,1]) f (c.sub.trans e.sub) rfl)) (cd h (fun D h=>?_) (fun D h=>?_)))))
     ·refine aO 9 rfl (n1 36 D ?_)
      obtain ⟨G,aQ,h⟩:=ob h
      refine cv ([]) Tyb14 ((f14_ok k) _ _ _ aQ (hG.mono ((((p.sub.trans t.sub).trans u.sub).trans c.sub).trans e.sub)) (pt f)) ?_
      rintro _ be ⟨aR,rfl,I⟩
      have U:=ca I f
      exact wt ⟨heldF (fwOf (is:=[0,1]) U ((c.sub.trans e.sub).trans I.sub) rfl),tk 10 (.bool G) (lb 12 2047) rfl (fun w=>pick_r (b:=true) (v:=.bool G) (cg D) rfl) (heldF (fwOf (is:=[0,1]) U ((c.sub.trans e.sub).trans I.sub) rfl)) (tk 11 (.bool G) (lb 12 4095) rfl (fun w=>asg_r (v:=.bool G) rfl) (heldF (fwOf (is:=[0,1]) U ((c.sub.trans e.sub).trans I.sub) rfl)) (aD (thenN (⟨_,aR,G,fR,((c.sub.trans e.sub).trans I.sub),(U.sel [] (by decide)),h⟩))))⟩
     ·exact tkO (i:=9) (d:=36) (L':=(lb 12 1023)) rfl rfl rfl (by kernel_rfl) (by kernel_rfl) (fun _ _ d _ _ h=>by cases d<;>exact h) rfl (.inl (cg D)) (heldF (fwOf (is:=[0,1]) f (c.sub.trans e.sub) rfl)) rfl (tk 10 vN (lb 12 2047) rfl (fun w=>pick_r (b:=false) (v:=vN) (cg D) rfl) (heldF (fwOf (is:=[0,1]) f (c.sub.trans e.sub) rfl)) (tk 11 vN (lb 12 4095) rfl (fun w=>asg_r (v:=vN) rfl) (heldF (fwOf (is:=[0,1]) f (c.sub.trans e.sub) rfl)) (aD (thenN (⟨_,aj,false,fR,(c.sub.trans e.sub),(f.sel [] (by decide)),h⟩)))))
    ·exact tkO (i:=5) (d:=32) (L':=(lb 12 63)) rfl rfl rfl (by kernel_rfl) (by kernel_rfl) (fun _ _ d _ _ h=>by cases d<;>exact h) rfl (.inl (cg y)) (heldF (fwOf (is:=[0,1]) f (c.sub.trans e.sub) rfl)) rfl (tkO (i:=6) (d:=32) (L':=(lb 12 127)) rfl rfl rfl (by kernel_rfl) (by kernel_rfl) (fun _ _ d _ _ h=>by cases d<;>exact h) rfl (.inl (cg y)) (heldF (fwOf (is:=[0,1]) f (c.sub.trans e.sub) rfl)) rfl (tk 7 vN (lb 12 255) rfl (fun w=>pick_r (b:=false) (v:=vN) (cg y) rfl) (heldF (fwOf (is:=[0,1]) f (c.sub.trans e.sub) rfl)) (tk 8 vN (lb 12 511) rfl (fun w=>mv_r (v:=vN) rfl) (heldF (fwOf (is:=[0,1]) f (c.sub.trans e.sub) rfl)) (tkO (i:=9) (d:=36) (L':=(lb 12 1023)) rfl rfl rfl (by kernel_rfl) (by kernel_rfl) (fun _ _ d _ _ h=>by cases d<;>exact h) rfl (.inl rfl) (heldF (fwOf (is:=[0,1]) f (c.sub.trans e.sub) rfl)) rfl (tk 10 vN (lb 12 2047) rfl (fun w=>pick_r (b:=false) (v:=vN) rfl rfl) (heldF (fwOf (is:=[0,1]) f (c.sub.trans e.sub) rfl)) (tk 11 vN (lb 12 4095) rfl (fun w=>asg_r (v:=vN) rfl) (heldF (fwOf (is:=[0,1]) f (c.sub.trans e.sub) rfl)) (aD (thenN (⟨_,aj,false,fR,(c.sub.trans e.sub),(f.sel [] (by decide)),h⟩)))))))))
   ·rintro _ bf ⟨ag,O,ac,rfl,bg,aS,h⟩
    unfold f5_j2 at h
    refine wp_ret ?_
    cases (oi h).trans hr_
    exact retA1 rfl (resT rfl) ⟨O,rfl,aS⟩
theorem f5_ok (k:Nat):f5_spec (f5 k):=f5_b_ok k
end Go.Proofs.YtoajecnoffhlbaaGreatDoor
set_option maxRecDepth 512
set_option maxHeartbeats 200000
namespace Go.Proofs.YtoajecnoffhlbaaGreatDoor
open Go
mutual
def szE:DExpr→Nat | .mk _ _ _ _ l=>szEs l + 1
def szEs:List DExpr→Nat | []=>0 | e :: l=>szE e + szEs l
end
mutual
def szS:DStmt→Nat | .mk _ _ _ _ _ _ a b c d e=>szEs a + szSs b + szSs c + szSs d + szCs e + 1
def szSs:List DStmt→Nat | []=>0 | s :: l=>szS s + szSs l
def szC:DCase→Nat | .mk _ _ _ a b=>szEs a + szSs b + 1
def szCs:List DCase→Nat | []=>0 | c :: l=>szC c + szCs l
end
def szF:DFunc→Nat | .mk _ ps _ _ _ b=>ps.length + szSs b + 1
def szFs:List DFunc→Nat | []=>0 | f :: l=>szF f + szFs l
def szP:DProgram→Nat | .mk fs=>szFs fs + 1
theorem len_szEs : ∀ l:List DExpr,l.length≤szEs l
  | []=>by simp
  | .mk _ _ _ _ a :: l=>by have:=len_szEs l; simp only [List.length_cons,szEs,szE]; omega
theorem len_szSs : ∀ l:List DStmt,l.length≤szSs l
  | []=>by simp
  | .mk _ _ _ _ _ _ _ _ _ _ _ :: l=>by have:=len_szSs l; simp only [List.length_cons,szSs,szS]; omega
theorem len_szCs : ∀ l:List DCase,l.length≤szCs l
  | []=>by simp
  | .mk _ _ _ _ _ :: l=>by have:=len_szCs l; simp only [List.length_cons,szCs,szC]; omega
theorem len_szFs : ∀ l:List DFunc,l.length≤szFs l
  | []=>by simp
  | .mk _ _ _ _ _ _ :: l=>by have:=len_szFs l; simp only [List.length_cons,szFs,szF]; omega
def letterI (c:Int):Bool:=decide (c ≥ 97) && decide (c≤122)
def digitI (c:Int):Bool:=decide (c ≥ 48) && decide (c≤57)
def runL:List UInt8→Nat→Bool
  | [],_=>true
  | e :: r,i=>(letterI e.toNat || (!((i:Int) == 0) && digitI e.toNat)) && runL r (i + 1)
def isN (s:ByteArray):Bool:=runL s.data.toList 0 && !seq s ⟨#[]⟩ && decide ((s.size:Int)≤12) && !wordsL.any (seq s)
theorem f66_eq (k:Nat) (c:Int):f66 k c=some (letterI c):=by
  unfold f66 f66_b f66_j1 letterI
  cases decide (c ≥ 97) <;> rfl
theorem f67_eq (k:Nat) (c:Int):f67 k c=some (digitI c):=by
  unfold f67 f67_b f67_j1 digitI
  cases decide (c ≥ 48) <;> rfl
theorem f112_eq (k:Nat) (c:Int):f112 k c=some (letterI c):=by
  unfold f112 f112_b f112_j1 letterI
  cases decide (c ≥ 97) <;> rfl
theorem f113_eq (k:Nat) (c:Int):f113 k c=some (digitI c):=by
  unfold f113 f113_b f113_j1 digitI
  cases decide (c ≥ 48) <;> rfl
theorem f91_l1_eq (k:Nat) (a:ByteArray) : ∀ (l:List UInt8) (i:Nat),f91_l1 k a l i=some (runL l i && !seq a ⟨#[]⟩)
  | [],i=>by simp [f91_l1,runL]
  | e :: l,i=>by
    unfold f91_l1 runL
    rw [f112_eq]
    simp only [Option.bind_some,f91_j1,f113_eq,f91_l1_eq k a l]
    cases letterI e.toNat <;> cases ((i:Int) == 0) <;> cases digitI e.toNat <;> simp
theorem f93_l1_eq (k:Nat) (a:ByteArray) : ∀ (l:List ByteArray) (i:Nat),∃ r,f93_l1 k a l i=some r∧decide (r ≥ 0)=l.any (seq a)
  | [],i=>⟨-1,rfl,rfl⟩
  | e :: l,i=>by
    unfold f93_l1
    cases h:seq a e
    · obtain ⟨r,h1,h2⟩:=f93_l1_eq k a l (i + 1)
      exact ⟨r,h1,by simp [h,h2]⟩
    · exact ⟨(i:Int),rfl,by simp [h]⟩
theorem f63_eq (k:Nat) (s:ByteArray):f63 k s=some (isN s):=by
  unfold f63 f63_b f91 f91_b isN
  rw [f91_l1_eq]
  simp only [Option.bind_some,f63_j1]
  obtain ⟨r,h1,h2⟩:=f93_l1_eq k s wordsL 0
  have h92:f92 k s=some (wordsL.any (seq s)):=by
    unfold f92 f92_b f114 f64 f64_b f93 f93_b
    simp [h1,h2]
  rw [h92]
  simp only [Option.bind_some]
  cases runL s.data.toList 0 <;> cases seq s ⟨#[]⟩ <;> cases decide ((s.size:Int)≤12) <;> rfl
theorem seq_comm (a b:ByteArray):seq a b=seq b a:=by
  unfold seq
  rw [Bool.eq_iff_iff,beq_iff_eq,beq_iff_eq]
  exact eq_comm
theorem f68_l1_eq (k:Nat) (a:ByteArray) : ∀ (l:List ByteArray) (i:Nat),f68_l1 k a l i=some (l.any (seq a))
  | [],i=>rfl
  | e :: l,i=>by
    unfold f68_l1
    rw [seq_comm e a]
    cases h:seq a e
    · simp [h,f68_l1_eq k a l]
    · simp [h]
theorem words_eq (k:Nat):f97 k=some wordsL:=rfl
theorem f68_eq (k:Nat) (a:ByteArray):f68 k a=some (wordsL.any (seq a)):=by
  unfold f68 f68_b
  rw [words_eq]
  exact f68_l1_eq k a wordsL 0
theorem size_seq (a:ByteArray):decide ((a.size:Int) ≥ 1)=!seq a ⟨#[]⟩:=by
  unfold seq
  rw [ByteArray.toList_eq,ByteArray.toList_eq]
  obtain ⟨⟨l⟩⟩:=a
  cases l with
  | nil=>rfl
  | cons x l =>
    have h2:((⟨⟨x :: l⟩⟩:ByteArray).size:Int) ≥ 1:=by
      show ((l.length + 1:Nat):Int) ≥ 1
      omega
    rw [decide_eq_true h2]
    rfl
theorem f34_l1_eq (k:Nat) (a:ByteArray) : ∀ (l:List UInt8) (i:Nat),f34_l1 k a l i=some (runL l i && !seq a ⟨#[]⟩ && decide ((a.size:Int)≤12) && !wordsL.any (seq a))
  | [],i=>by
    unfold f34_l1 runL
    rw [f68_eq,size_seq]
    simp only [Option.bind_some,f34_j1]
    cases seq a ⟨#[]⟩ <;> cases decide ((a.size:Int)≤12) <;> rfl
  | e :: l,i=>by
    unfold f34_l1 runL
    rw [f66_eq]
    simp only [Option.bind_some,f34_j2,f67_eq,f34_l1_eq k a l]
    cases letterI e.toNat <;> cases ((i:Int) == 0) <;> cases digitI e.toNat <;> simp
theorem f34_eq (k:Nat) (s:ByteArray):f34 k s=some (isN s):=f34_l1_eq k s _ 0
def textL:List UInt8→Bool
  | []=>true
  | e :: l=>!decide ((e.toNat:Int) < 32) && !decide ((e.toNat:Int) > 126) && textL l
def isT (s:ByteArray):Bool:=textL s.data.toList && decide ((s.size:Int)≤60)
theorem f162_l1_eq (k:Nat) (a:ByteArray) : ∀ (l:List UInt8) (i:Nat),f162_l1 k a l i=some (textL l && decide ((a.size:Int)≤60))
  | [],i=>by simp [f162_l1,textL]
  | e :: l,i=>by
    unfold f162_l1 textL
    simp only [f162_j1,f162_l1_eq k a l]
    cases decide ((e.toNat:Int) < 32) <;> cases decide ((e.toNat:Int) > 126) <;> simp
theorem f132_l1_eq (k:Nat) (a:ByteArray) : ∀ (l:List UInt8) (i:Nat),f132_l1 k a l i=some (textL l && decide ((a.size:Int)≤60))
  | [],i=>by simp [f132_l1,textL]
  | e :: l,i=>by
    unfold f132_l1 textL
    simp only [f132_j1,f132_l1_eq k a l]
    cases decide ((e.toNat:Int) < 32) <;> cases decide ((e.toNat:Int) > 126) <;> simp
theorem f160_eq (k:Nat) (s:ByteArray):f160 k s=some (isT s):=f162_l1_eq k s _ 0
theorem f132_eq (k:Nat) (s:ByteArray):f132 k s=some (isT s):=f132_l1_eq k s _ 0
end Go.Proofs.YtoajecnoffhlbaaGreatDoor
namespace Go.Proofs.YtoajecnoffhlbaaGreatDoor
open Go
theorem w64_nat {x:Int} {n:Nat} (h:x=(n:Int)) (h2:n≤4611686018427387904):w64 x=(n:Int):=by
  subst h; unfold w64 IntKind.wrap; simp [IntKind.bits,IntKind.signed]; omega
def nodeE (op num:Int) (txt:ByteArray) (len:Nat):Bool :=
  cond (op == 1) (decide (num ≥ 0) && decide (num≤1000000000000) && seq txt ⟨#[]⟩ && (len:Int) == 0)
  (cond (op == 2) (decide (num ≥ 0) && decide (num≤1) && seq txt ⟨#[]⟩ && (len:Int) == 0)
  (cond (op == 3) (num == 0 && isT txt && (len:Int) == 0)
  (cond (op == 4) (num == 0 && isN txt && (len:Int) == 0)
  (cond (op == 5 || op == 6) (num == 0 && seq txt ⟨#[]⟩ && (len:Int) == 1)
    (decide (op ≥ 7) && decide (op≤19) && num == 0 && seq txt ⟨#[]⟩ && (len:Int) == 2)))))
mutual
def gE (z:Bool):DExpr→Nat→Bool
  | .mk op num txt slot l,a=>decide (a≤16) && (z || slot == 0) && nodeE op num txt l.length && gEs z l (a + 1)
def gEs (z:Bool):List DExpr→Nat→Bool
  | [],_=>true
  | e :: l,a=>gE z e a && gEs z l a
end
def NRes (r:Option (Dcounter × Bool)) (g:Bool) (n sz:Nat) (z:Bool):Prop :=
  ∃ c,r=some (c,g && decide (n + sz≤600))∧((g && decide (n + sz≤600))=true→∃ d,c=.mk ((n + sz:Nat):Int) d z)
theorem f116_eq (k:Nat) (x a b:Int):f116 k x a b=some (decide (x ≥ a) && decide (x≤b)):=by
  unfold f116 f116_b f116_j1; cases decide (x ≥ a) <;> rfl
theorem f117_eq (k:Nat) (n:Nat) (d:Int) (z:Bool) (a:Nat) (h:n≤600) :
    f117 k (.mk n d z) a=some (.mk ((n + 1:Nat):Int) (imax d a) z,decide (n + 1≤600) && decide (a≤16)):=by
  unfold f117 f117_b f117_j1
  simp only
  rw [w64_nat (n:=n + 1) (by omega) (by omega)]
  have e1:decide (((n + 1:Nat):Int)≤600)=decide (n + 1≤600):=by rw [decide_eq_decide]; omega
  have e2:decide ((a:Int)≤16)=decide (a≤16):=by rw [decide_eq_decide]; omega
  rw [e1,e2]
  cases decide (n + 1≤600) <;> rfl
theorem f157_j1_eq (k:Nat) (F:Fam153) (op num:Int) (txt:ByteArray) (l:List DExpr) (a n d:Int) (q:Bool) :
    f157_j1 k F op num txt l a n d q false=cond (nodeE op num txt l.length) (f157_j2 k F l a n d q (l.length:Int) true) (some (.mk n d q,false)):=by
  unfold f157_j1 f157_j4 f157_j5 f157_j6 f157_j2 f157_j3 nodeE
  simp only [f116_eq,f160_eq,f63_eq,Option.bind_some,Bool.cond_eq_ite]
  grind
theorem szE_pos : ∀ e:DExpr,1≤szE e
  | .mk _ _ _ _ _=>by simp only [szE]; omega
theorem NRes.no {r:Option (Dcounter × Bool)} {g:Bool} {n sz:Nat} {z:Bool} {c:Dcounter} (h:r=some (c,false)) (hg:(g && decide (n + sz≤600))=false):NRes r g n sz z :=
  ⟨c,by rw [h,hg],by rw [hg]; intro h; cases h⟩
theorem NRes.yes {r:Option (Dcounter × Bool)} {g:Bool} {n sz:Nat} {z:Bool} {d:Int} (h:r=some (.mk ((n + sz:Nat):Int) d z,true)) (hg:(g && decide (n + sz≤600))=true):NRes r g n sz z :=
  ⟨_,by rw [h,hg],fun _=>⟨d,rfl⟩⟩
theorem nE (k:Nat) (z:Bool) : ∀ m,
    (∀ e,2 * szE e≤m→∀ (n:Nat) (d:Int) (a:Nat),n≤600→a≤17→NRes ((fam153 k m).f157 (.mk n d z) e a) (gE z e a) n (szE e) z) ∧
    (∀ l,2 * szEs l + 1≤m→∀ (n:Nat) (d:Int) (a:Nat),n≤600→a≤17→NRes ((fam153 k m).f153 (.mk n d z) l a) (gEs z l a) n (szEs l) z)
  | 0=>⟨fun e he=>by have:=szE_pos e; omega,fun l hl=>by omega⟩
  | m + 1=>by
    obtain ⟨ihe,ihl⟩:=nE k z m
    constructor
    · intro e he n d a hn ha
      obtain ⟨op,num,txt,slot,l⟩:=e
      simp only [szE] at he
      show NRes (f157_b k (fam153 k m) (.mk n d z) (.mk op num txt slot l) a) _ _ _ _
      unfold f157_b
      simp only [szE]
      rw [f117_eq k n d z a hn]
      simp only [Option.bind_some]
      have hj : ∀ q:Bool,f157_j1 k (fam153 k m) op num txt l a ((n + 1:Nat):Int) (imax d a) z q=cond q (some (.mk ((n + 1:Nat):Int) (imax d a) z,false)) (cond (nodeE op num txt l.length) (f157_j2 k (fam153 k m) l a ((n + 1:Nat):Int) (imax d a) z (l.length:Int) true) (some (.mk ((n + 1:Nat):Int) (imax d a) z,false))):=by
        intro q; cases q
        · exact f157_j1_eq _ _ _ _ _ _ _ _ _ _
        · rfl
      simp only [hj]
      by_cases h1:n + 1≤600∧a≤16
      · obtain ⟨h1,h2⟩:=h1
        simp only [h1,h2,decide_true,Bool.and_self,Bool.not_true,cond_false]
        by_cases h3:(z || slot == 0)=true
        · have h3' : (cond (slot != 0) (!z) false)=false:=by cases z <;> simp_all
          have h4 : ∀ (x y:Option (Dcounter × Bool)),cond (slot != 0) (cond (!z) x y) y=y:=by
            intro x y; cases z <;> simp_all
          rw [h4]
          by_cases h5:nodeE op num txt l.length=true
          · simp only [h5,cond_true]
            unfold f157_j2
            simp only [beq_self_eq_true,cond_true]
            rw [w64_nat (n:=a + 1) (by omega) (by omega)]
            obtain ⟨c,hc,hd⟩:=ihl l (by omega) (n + 1) (imax d a) (a + 1) h1 (by omega)
            rw [hc]
            refine ⟨c,?_,?_⟩
            · obtain ⟨c0,c1,c2⟩:=c
              have:n + 1 + szEs l=n + (szEs l + 1):=by omega
              simp [f157_j3,gE,h2,h3,h5,this]
            · intro hg
              have e1:n + (szEs l + 1)=n + 1 + szEs l:=by omega
              rw [e1]
              refine hd ?_
              rw [e1] at hg
              simp [gE,h2,h3,h5] at hg
              simp [hg]
          · have h5' : nodeE op num txt l.length=false:=by simpa using h5
            simp only [h5',cond_false]
            exact .no rfl (by simp [gE,h5'])
        · have h3' : (z || slot == 0)=false:=by simpa using h3
          have h4 : ∀ (x y:Option (Dcounter × Bool)),cond (slot != 0) (cond (!z) x y) y=x:=by
            intro x y
            simp only [Bool.or_eq_false_iff,beq_eq_false_iff_ne] at h3'
            have e:(slot != 0)=true:=bne_iff_ne.mpr h3'.2
            rw [e,h3'.1]; rfl
          rw [h4]
          exact .no rfl (by simp [gE,h3'])
      · have h1' : (decide (n + 1≤600) && decide (a≤16))=false:=by
          simp only [Bool.and_eq_false_iff,decide_eq_false_iff_not]; omega
        simp only [h1',Bool.not_false,cond_true]
        refine .no rfl ?_
        simp only [gE,Bool.and_eq_false_iff,decide_eq_false_iff_not]
        omega
    · intro l hl n d a hn ha
      show NRes (f153_l1 k (fam153 k m) a l 0 n d z) _ _ _ _
      have loop : ∀ (l:List DExpr) (i:Nat) (n:Nat) (d:Int),2 * szEs l≤m→n≤600→NRes (f153_l1 k (fam153 k m) a l i n d z) (gEs z l a) n (szEs l) z:=by
        intro l
        induction l with
        | nil=>intro i n d _ hn; exact .yes rfl (by simp [gEs,szEs,hn])
        | cons e l ih =>
          intro i n d hm hn
          obtain ⟨e0,e1,e2,e3,e4⟩:=e
          unfold f153_l1
          simp only [szEs] at hm
          obtain ⟨c,hc,hd⟩:=ihe (.mk e0 e1 e2 e3 e4) (by omega) n d a hn ha
          rw [hc]
          by_cases hg:(gE z (.mk e0 e1 e2 e3 e4) a && decide (n + szE (.mk e0 e1 e2 e3 e4)≤600))=true
          · obtain ⟨d',rfl⟩:=hd hg
            have hg':=hg
            simp only [Bool.and_eq_true,decide_eq_true_eq] at hg'
            simp only [hg,Option.bind_some,Bool.not_true,cond_false]
            obtain ⟨c2,hc2,hd2⟩:=ih (i + 1) _ d' (by omega) hg'.2
            have e1:n + (szE (DExpr.mk e0 e1 e2 e3 e4) + szEs l)=n + szE (DExpr.mk e0 e1 e2 e3 e4) + szEs l:=by omega
            refine ⟨c2,?_,?_⟩
            · rw [hc2]; simp only [gEs,szEs,hg'.1,Bool.true_and,e1]
            · simp only [gEs,szEs,hg'.1,Bool.true_and,e1]; exact hd2
          · have hg' : (gE z (.mk e0 e1 e2 e3 e4) a && decide (n + szE (.mk e0 e1 e2 e3 e4)≤600))=false:=by simpa using hg
            obtain ⟨c0,c1,c2⟩:=c
            simp only [hg',Option.bind_some,Bool.not_false,cond_true]
            refine .no rfl ?_
            simp only [Bool.and_eq_false_iff,decide_eq_false_iff_not,gEs,szEs] at hg' ⊢
            rcases hg' with h | h
            · exact .inl (.inl h)
            · exact .inr (decide_eq_false (fun h'=>h (by omega)))
      exact loop l 0 n d (by omega) hn
theorem f59_eq (k:Nat) (n d:Int) (q b:Bool):f59 k (.mk n d q) b=some (.mk n d (q || !b)):=by
  unfold f59 f59_b; cases b <;> cases q <;> rfl
theorem f60_eq (k:Nat) (n:Nat) (d:Int) (q:Bool) (a:Nat) (h:n≤600) :
    f60 k (.mk n d q) a=some (.mk ((n + 1:Nat):Int) (imax d a) (q || !(decide (n + 1≤600) && decide (a≤16)))):=by
  unfold f60 f60_b f60_j1
  simp only
  rw [w64_nat (n:=n + 1) (by omega) (by omega)]
  have e1:decide (((n + 1:Nat):Int) > 600)=!decide (n + 1≤600):=by rw [← decide_not,decide_eq_decide]; omega
  have e2:decide ((a:Int) > 16)=!decide (a≤16):=by rw [← decide_not,decide_eq_decide]; omega
  rw [e1,e2]
  cases decide (n + 1≤600) <;> cases decide (a≤16) <;> cases q <;> rfl
theorem bfun {α:Type} (Q:Bool→α) : ∃ A B,Q=fun b=>if b=true then A else B :=
  ⟨Q true,Q false,funext fun b=>by cases b <;> rfl⟩
theorem f110_j1_eq (k:Nat) (F:Fam110) (op num:Int) (txt:ByteArray) (l:List DExpr) (a:Int) (x:Bool) (n d:Int) (q:Bool) :
    f110_j1 k F op num txt l a x n d q=f110_l1 k F a x l 0 n d (q || !nodeE op num txt l.length):=by
  unfold f110_j1 f110_j3 f110_j2 nodeE
  have h01:(decide (num ≥ 0) && decide (num≤1))=(num == 0 || num == 1):=by
    rw [Bool.eq_iff_iff]; simp only [Bool.and_eq_true,Bool.or_eq_true,decide_eq_true_eq,beq_iff_eq]; omega
  rw [h01]
  simp only [f59_eq,f132_eq,f34_eq,Option.bind_some,Bool.cond_eq_ite]
  generalize f110_l1 k F a x l 0 n d=Q
  obtain ⟨A,B,rfl⟩:=bfun Q
  grind (splits:=40)
def RRes (r:Option DSize) (g:Bool) (n sz:Nat) (q:Bool):Prop :=
  ∃ x d q',r=some (.mk x d q')∧q'=(q || !(g && decide (n + sz≤600)))∧(q'=false→x=((n + sz:Nat):Int))
theorem RRes.wrong {r:Option DSize} {g:Bool} {n sz:Nat} {x d:Int} (h:r=some (.mk x d true)):RRes r g n sz true :=
  ⟨x,d,true,h,rfl,fun h=>by cases h⟩
theorem RRes.bad {r:Option DSize} {g:Bool} {n sz:Nat} {q:Bool} {x d:Int} (h:r=some (.mk x d true)) (hg:(g && decide (n + sz≤600))=false):RRes r g n sz q :=
  ⟨x,d,true,h,by rw [hg]; cases q <;> rfl,fun h=>by cases h⟩
theorem bcomb (g1 g2:Bool) (n s1 s2:Nat):(!(g1 && decide (n + s1≤600)) || !(g2 && decide (n + s1 + s2≤600)))=!(g1 && g2 && decide (n + (s1 + s2)≤600)):=by
  rw [← Nat.add_assoc]
  by_cases hh:n + s1 + s2≤600
  · have:n + s1≤600:=by omega
    simp only [hh,this,decide_true]; cases g1 <;> cases g2 <;> rfl
  · simp only [hh,decide_false]; cases g1 <;> cases g2 <;> simp
theorem RRes.bind {r:Option DSize} {f:DSize→Option DSize} {g1 g2:Bool} {n s1 s2:Nat} {q:Bool} (h1:RRes r g1 n s1 q)
    (h2 : ∀ x d q',(q'=false→x=((n + s1:Nat):Int)∧n + s1≤600)→RRes (f (.mk x d q')) g2 (n + s1) s2 q'):RRes (r.bind f) (g1 && g2) n (s1 + s2) q:=by
  obtain ⟨x,d,q',rfl,hq,hx⟩:=h1
  obtain ⟨x2,d2,q2,h4,h5,h6⟩:=h2 x d q' (fun h=>⟨hx h,by rw [h] at hq; cases q <;> simp at hq; exact hq.2⟩)
  refine ⟨x2,d2,q2,h4,?_,?_⟩
  · rw [h5,hq,Bool.or_assoc,bcomb]
  · rw [← Nat.add_assoc]; exact h6
theorem RRes.done {n:Nat} {q:Bool} {x d:Int} (hx:q=false→x=(n:Int)∧n≤600):RRes (some (.mk x d q)) true n 0 q :=
  ⟨x,d,q,rfl,by cases q <;> simp; exact (hx rfl).2,fun h=>(hx h).1⟩
theorem RRes.cast {r:Option DSize} {g g' : Bool} {n s s' : Nat} {q:Bool} (h:RRes r g n s q) (hg:g=g') (hs:s=s'):RRes r g' n s' q:=by
  subst hg; subst hs; exact h
theorem RRes.check {r:Option DSize} {g b:Bool} {n s:Nat} {q:Bool} (h:RRes r g n s (q || !b)):RRes r (b && g) n s q:=by
  obtain ⟨x,d,q',h1,h2,h3⟩:=h
  exact ⟨x,d,q',h1,by rw [h2]; cases q <;> cases b <;> rfl,h3⟩
theorem rE (k:Nat) : ∀ m,
    ∀ e,szE e≤m→∀ (n:Nat) (d:Int) (a:Nat),n≤600→a≤17→RRes ((fam110 k m).f110 (.mk n d false) e a false) (gE false e a) n (szE e) false
  | 0=>fun e he=>by have:=szE_pos e; omega
  | m + 1=>by
    have ihe:=rE k m
    intro e he n d a hn ha
    have loop:a≤16→∀ (l:List DExpr) (i:Nat) (x:Int) (n:Nat) (d:Int) (q:Bool),szEs l≤m→(q=false→x=(n:Int)∧n≤600)→RRes (f110_l1 k (fam110 k m) a false l i x d q) (gEs false l (a + 1)) n (szEs l) q:=by
      intro ha l
      induction l with
      | nil=>intro i x n d q _ hx; exact .done hx
      | cons e l ih =>
        intro i x n d q hm hx
        obtain ⟨e0,e1,e2,e3,e4⟩:=e
        unfold f110_l1
        cases q with
        | true=>exact .wrong rfl
        | false =>
          obtain ⟨rfl,hn⟩:=hx rfl
          simp only [szEs] at hm
          simp only [Bool.not_false,cond_true]
          rw [w64_nat (n:=a + 1) (by omega) (by omega)]
          exact (ihe (.mk e0 e1 e2 e3 e4) (by omega) n d (a + 1) hn (by omega)).bind fun x1 d1 q1 h1=>ih (i + 1) x1 _ d1 q1 (by omega) h1
    obtain ⟨op,num,txt,slot,l⟩:=e
    simp only [szE] at he
    show RRes (f110_b k (fam110 k m) (.mk n d false) (.mk op num txt slot l) a false) _ _ _ _
    unfold f110_b
    simp only [szE,cond_false,f59_eq,f110_j1_eq,Option.bind_some]
    rw [f60_eq k n d false a hn]
    simp only [Option.bind_some,Bool.false_or]
    by_cases ha' : a≤16
    · obtain ⟨x2,d2,q2,h4,h5,h6⟩:=loop ha' l 0 ((n + 1:Nat):Int) (n + 1) (imax d a) (!(decide (n + 1≤600) && decide (a≤16)) || !(slot == 0) || !nodeE op num txt l.length) (by omega) (fun hq=>⟨rfl,by simp at hq; omega⟩)
      have e1:n + (szEs l + 1)=n + 1 + szEs l:=by omega
      refine ⟨x2,d2,q2,h4,?_,?_⟩
      · rw [h5,e1]
        simp only [gE,ha',decide_true,Bool.false_or,Bool.true_and,Bool.and_true]
        by_cases hh:n + 1 + szEs l≤600
        · have:n + 1≤600:=by omega
          simp only [hh,this,decide_true]
          cases (slot == 0) <;> cases nodeE op num txt l.length <;> simp
        · simp [hh]
      · rw [e1]; exact h6
    · have loopw : ∀ (l:List DExpr) (i:Nat) (x d:Int),∃ x' d',f110_l1 k (fam110 k m) a false l i x d true=some (.mk x' d' true):=by
        intro l i x d
        cases l with
        | nil=>exact ⟨_,_,rfl⟩
        | cons e l=>obtain ⟨_,_,_,_,_⟩:=e; exact ⟨_,_,rfl⟩
      have:(!(decide (n + 1≤600) && decide (a≤16)) || !(slot == 0) || !nodeE op num txt l.length)=true:=by simp [ha']
      rw [this]
      obtain ⟨x',d',h⟩:=loopw l 0 ((n + 1:Nat):Int) (imax d a)
      exact .bad h (by simp [gE,ha'])
mutual
def stE:DExpr→DExpr | .mk op num txt _ l=>.mk op num txt 0 (stEs l)
def stEs:List DExpr→List DExpr | []=>[] | e :: l=>stE e :: stEs l
end
theorem stEs_len : ∀ l,(stEs l).length=l.length
  | []=>rfl
  | e :: l=>by simp [stEs,stEs_len l]
mutual
theorem szE_st : ∀ e,szE (stE e)=szE e
  | .mk _ _ _ _ l=>by simp only [stE,szE,szEs_st l]
theorem szEs_st : ∀ l,szEs (stEs l)=szEs l
  | []=>rfl
  | e :: l=>by simp only [stEs,szEs,szE_st e,szEs_st l]
end
mutual
theorem gE_st : ∀ e a,gE false (stE e) a=gE true e a
  | .mk _ _ _ _ l,a=>by simp [stE,gE,gEs_st l,stEs_len]
theorem gEs_st : ∀ l a,gEs false (stEs l) a=gEs true l a
  | [],_=>rfl
  | e :: l,a=>by simp only [stEs,gEs,gE_st e,gEs_st l]
end
end Go.Proofs.YtoajecnoffhlbaaGreatDoor
namespace Go.Proofs.YtoajecnoffhlbaaGreatDoor
open Go
def shp (op:Int):Option (Int × Bool × Int × Int × Bool × Int) :=
  match op with
  | 1=>some (1,false,1,1,false,0) | 2=>some (1,false,1,1,false,0) | 3=>some (2,true,0,600,false,0) | 4=>some (2,true,0,600,false,0)
  | 5=>some (2,false,1,1,false,0) | 6=>some (2,false,1,1,false,1) | 7=>some (1,false,1,1,false,2) | 8=>some (1,false,1,1,false,0)
  | 9=>some (1,false,0,0,false,0) | 10=>some (0,false,2,2,false,0) | 11=>some (0,false,1,1,false,0) | 12=>some (0,false,1,1,false,0)
  | 13=>some (0,false,0,0,false,0) | 14=>some (0,false,1,1,false,0) | 15=>some (0,false,1,1,false,0) | 16=>some (0,false,1,1,false,0)
  | 17=>some (0,false,0,1,false,0) | 18=>some (0,false,0,0,false,0) | 19=>some (0,false,0,0,false,0) | 20=>some (0,false,1,1,true,1)
  | 21=>some (0,false,1,1,true,0) | 22=>some (0,false,0,1,true,1) | 23=>some (0,false,0,0,true,0) | 24=>some (2,false,0,0,true,3)
  | 25=>some (1,false,1,1,true,0) | 26=>some (0,false,1,1,true,0) | 27=>some (0,false,0,0,false,0) | 28=>some (1,true,0,600,true,66)
  | 29=>some (0,false,1,1,false,0) | _=>none
theorem op_cases {P:Int→Prop} (op:Int) (h : ∀ n:Nat,n < 29→P ((n + 1:Nat):Int)) (h0:op < 1∨op > 29→P op):P op:=by
  by_cases h1:op < 1∨op > 29
  · exact h0 h1
  · obtain ⟨n,rfl⟩ : ∃ n:Nat,op=((n + 1:Nat):Int):=⟨(op - 1).toNat,by omega⟩
    exact h n (by omega)
theorem shp_none {op:Int} (h:op < 1∨op > 29):shp op=none:=by
  unfold shp
  split <;> first | rfl | (exfalso; omega)
def toR:Option (Int × Bool × Int × Int × Bool × Int)→DShape × Bool
  | none=>(.mk 0 0 0 false false 0,false)
  | some (nm,fr,lo,hi,bd,fl)=>(.mk lo hi nm fr bd fl,true)
theorem f109_eq (k:Nat) (op:Int):f109 k op=some (toR (shp op)):=by
  refine op_cases (P:=fun op=>f109 k op=some (toR (shp op))) op ?_ ?_
  · intro n hn
    match n,hn with
    | 0,_=>rfl | 1,_=>rfl | 2,_=>rfl | 3,_=>rfl | 4,_=>rfl | 5,_=>rfl | 6,_=>rfl | 7,_=>rfl | 8,_=>rfl | 9,_=>rfl
    | 10,_=>rfl | 11,_=>rfl | 12,_=>rfl | 13,_=>rfl | 14,_=>rfl | 15,_=>rfl | 16,_=>rfl | 17,_=>rfl | 18,_=>rfl | 19,_=>rfl
    | 20,_=>rfl | 21,_=>rfl | 22,_=>rfl | 23,_=>rfl | 24,_=>rfl | 25,_=>rfl | 26,_=>rfl | 27,_=>rfl | 28,_=>rfl
    | n + 29,h=>omega
  · intro h
    rw [shp_none h]
    have e : ∀ c:Int,1≤c→c≤29→(op == c)=false:=fun c h1 h2=>by rw [beq_eq_false_iff_ne]; omega
    unfold f109 f109_b f109_j1 f109_j2 f109_j3 f109_j4 f109_j5
    simp [e,toR]
def toN:Option (Int × Bool × Int × Int × Bool × Int)→Option Dshape
  | none=>none
  | some (nm,fr,lo,hi,bd,fl)=>some (.mk nm fr lo (if hi=600 then 601 else hi) bd)
theorem mget_none (op:Int) : ∀ L:List (Int × Dshape),(∀ x ∈ L,qI op x.1=false)→mget qI op L=none
  | [],_=>rfl
  | (a,v) :: L,h=>by
    unfold mget
    rw [if_neg (by rw [h (a,v) (by simp)]; simp)]
    exact mget_none op L fun x hx=>h x (by simp [hx])
theorem f150_eq (k:Nat) (op:Int):(f150 k).bind (fun r=>some (mget qI op r))=some (toN (shp op)):=by
  refine op_cases (P:=fun op=>(f150 k).bind (fun r=>some (mget qI op r))=some (toN (shp op))) op ?_ ?_
  · intro n hn
    match n,hn with
    | 0,_=>rfl | 1,_=>rfl | 2,_=>rfl | 3,_=>rfl | 4,_=>rfl | 5,_=>rfl | 6,_=>rfl | 7,_=>rfl | 8,_=>rfl | 9,_=>rfl
    | 10,_=>rfl | 11,_=>rfl | 12,_=>rfl | 13,_=>rfl | 14,_=>rfl | 15,_=>rfl | 16,_=>rfl | 17,_=>rfl | 18,_=>rfl | 19,_=>rfl
    | 20,_=>rfl | 21,_=>rfl | 22,_=>rfl | 23,_=>rfl | 24,_=>rfl | 25,_=>rfl | 26,_=>rfl | 27,_=>rfl | 28,_=>rfl
    | n + 29,h=>omega
  · intro h
    rw [shp_none h]
    obtain ⟨L,hL,hA⟩ : ∃ L,f150 k=some L∧(L.all fun x=>decide (1≤x.1) && decide (x.1≤29))=true:=⟨_,rfl,rfl⟩
    rw [hL]
    simp only [Option.bind_some]
    rw [mget_none op L]
    · rfl
    · intro x hx
      have:=List.all_eq_true.mp hA x hx
      simp only [Bool.and_eq_true,decide_eq_true_eq] at this
      unfold qI; rw [beq_eq_false_iff_ne]; omega
def flagN (op:Int) (name:ByteArray) (flag:Int) (l8 l9:Int):Bool :=
  let b0:=(IntKind.i64.wrap (BitVec.ofInt IntKind.i64.bits flag &&& BitVec.ofInt IntKind.i64.bits 1).toNat) == 1
  let b1:=(IntKind.i64.wrap (BitVec.ofInt IntKind.i64.bits flag &&& BitVec.ofInt IntKind.i64.bits 2).toNat) == 2
  cond (op == 6) (decide (flag ≥ 0) && decide (flag≤1) && (flag == 0 || !seq name ⟨#[]⟩) && l8 == 0 && l9 == 0)
  (cond (op == 7) (decide (flag ≥ 0) && decide (flag≤2) && l8 == 0 && l9 == 0)
  (cond (op == 22) (decide (flag ≥ 0) && decide (flag≤1) && l8 == 0 && l9 == 0)
  (cond (op == 20) (decide (flag ≥ 0) && decide (flag≤1) && (flag == 1 || l8 == 0) && l9 == 0)
  (cond (op == 24) (decide (flag ≥ 1) && decide (flag≤3) && ((!seq name ⟨#[]⟩) == b0) && (b0 || l8 == 0) && (b1 || l9 == 0))
  (cond (op == 28) (decide (flag ≥ 0) && decide (flag≤66) && decide (flag.tmod 4 < 3) && l8 == 0 && l9 == 0)
    (flag == 0 && l8 == 0 && l9 == 0))))))
theorem f151_eq (k:Nat) (op:Int) (name:ByteArray) (s2:Int) (fr:ByteArray) (s4 flag:Int) (l6:List DExpr) (l7 l8 l9:List DStmt) (l10:List DCase) :
    f151 k (.mk op name s2 fr s4 flag l6 l7 l8 l9 l10)=some (flagN op name flag l8.length l9.length):=by
  unfold f151 f151_b f151_j3 f151_j1 f151_j2 flagN
  simp only [f116_eq,Option.bind_some,Bool.cond_eq_ite]
  generalize (IntKind.i64.wrap (BitVec.ofInt IntKind.i64.bits flag &&& BitVec.ofInt IntKind.i64.bits 1).toNat == 1)=b0
  generalize (IntKind.i64.wrap (BitVec.ofInt IntKind.i64.bits flag &&& BitVec.ofInt IntKind.i64.bits 2).toNat == 2)=b1
  generalize ((l8.length:Int) == 0)=c8
  generalize ((l9.length:Int) == 0)=c9
  generalize seq name ⟨#[]⟩=e
  grind (splits:=20)
def nameN (nm:Int) (fr:Bool) (name from_:ByteArray):Bool :=
  (seq name ⟨#[]⟩ || (!(nm == 0) && isN name)) && (!seq name ⟨#[]⟩ || !(nm == 1)) && ((!seq from_ ⟨#[]⟩) == fr) && (!fr || isN from_)
def argsN (op lo hi:Int) (bd:Bool) (l6 l7 l10:Int):Bool :=
  decide (l6 ≥ lo) && decide (l6≤hi) && (bd || !decide (l7 > 0)) && (cond (op == 27) (decide (l10 ≥ 1) && decide (l10≤4)) (!decide (l10 > 0)))
section
variable (k:Nat) (F:Fam118) (op:Int) (name:ByteArray) (s2:Int) (from_:ByteArray) (s4 flag:Int) (l6:List DExpr) (l7 l8 l9:List DStmt) (l10:List DCase) (a nm:Int) (fr:Bool) (lo hi:Int) (bd:Bool) (n d:Int) (z q:Bool)
theorem f138_j3_eq:f138_j3 k F op l6 l7 l8 l9 l10 a lo hi bd n d z q =
    cond (!q && argsN op lo hi bd l6.length l7.length l10.length) (f138_l1 k F l6 l7 l8 l9 l10 a l10 0 n d z) (some (.mk n d z,false)):=by
  unfold f138_j3 f138_j4 argsN
  simp only [f116_eq,Option.bind_some,Bool.cond_eq_ite]
  grind (splits:=20)
theorem f138_j2_eq:f138_j2 k F op name from_ l6 l7 l8 l9 l10 a nm fr lo hi bd n d z q =
    cond (!q && nameN nm fr name from_ && argsN op lo hi bd l6.length l7.length l10.length) (f138_l1 k F l6 l7 l8 l9 l10 a l10 0 n d z) (some (.mk n d z,false)):=by
  unfold f138_j2 nameN
  simp only [f63_eq,f138_j3_eq,Option.bind_some,Bool.cond_eq_ite]
  grind (splits:=20)
theorem f138_j1_eq:f138_j1 k F n d z op name s2 from_ s4 flag l6 l7 l8 l9 l10 a nm fr lo hi bd true =
    (f117 k (.mk n d z) a).bind fun x=>match x with
      | (.mk n1 d1 z1,ok)=>cond (ok && ((s2 == 0 && s4 == 0) || z1) && flagN op name flag l8.length l9.length && nameN nm fr name from_ && argsN op lo hi bd l6.length l7.length l10.length)
          (f138_l1 k F l6 l7 l8 l9 l10 a l10 0 n1 d1 z1) (some (.mk n1 d1 z1,false)):=by
  unfold f138_j1
  simp only [Bool.not_true,cond_false]
  congr 1
  funext x
  obtain ⟨⟨n1,d1,z1⟩,ok⟩:=x
  simp only [f151_eq,f138_j2_eq,Option.bind_some,Bool.cond_eq_ite]
  grind (splits:=20)
end
def nameR (nm:Int) (name:ByteArray):Bool:=(nm == 0 && seq name ⟨#[]⟩) || (nm == 1 && isN name) || (nm == 2 && (seq name ⟨#[]⟩ || isN name))
def fromR (fr:Bool) (from_:ByteArray):Bool:=cond fr (isN from_) (seq from_ ⟨#[]⟩)
def flagR (op:Int) (name:ByteArray) (flag:Int) (l8 l9:Int):Bool :=
  (l8 == 0 || (op == 20 && flag == 1) || (op == 24 && flag.tmod 2 == 1)) && (l9 == 0 || (op == 24 && decide (flag ≥ 2))) &&
  cond (op == 6) (flag == 0 || !seq name ⟨#[]⟩) (cond (op == 24) (decide (flag > 0) && ((flag.tmod 2 == 1) == !seq name ⟨#[]⟩)) (cond (op == 28) (decide (flag.tmod 4 < 3)) true))
def casesR (op l10:Int):Bool:=((op == 27) == decide (l10 > 0)) && decide (l10≤4)
section
variable (k:Nat) (F:Fam61) (op:Int) (name:ByteArray) (s2:Int) (from_:ByteArray) (s4 flag:Int) (l6:List DExpr) (l7 l8 l9:List DStmt) (l10:List DCase) (a nm:Int) (fr:Bool) (lo hi:Int) (bd:Bool) (n d:Int) (z q:Bool)
theorem f90_j7_eq:f90_j7 k F op l6 l7 l8 l9 l10 a n d q=f90_l2 k F l7 l8 l9 l10 a l6 0 n d (q || !casesR op l10.length):=by
  unfold f90_j7 f90_j8 casesR
  simp only [f59_eq,Option.bind_some,Bool.cond_eq_ite]
  generalize f90_l2 k F l7 l8 l9 l10 a l6 0 n d=Q
  obtain ⟨A,B,rfl⟩:=bfun Q
  grind (splits:=20)
theorem f90_j4_eq:f90_j4 k F op name flag l6 l7 l8 l9 l10 a n d q=f90_l2 k F l7 l8 l9 l10 a l6 0 n d (q || !(flagR op name flag l8.length l9.length && casesR op l10.length)):=by
  unfold f90_j4 f90_j5 f90_j6 flagR
  simp only [f59_eq,f90_j7_eq,Option.bind_some,Bool.cond_eq_ite]
  generalize f90_l2 k F l7 l8 l9 l10 a l6 0 n d=Q
  generalize casesR op l10.length=c
  generalize (flag.tmod 2 == 1)=b0
  obtain ⟨A,B,rfl⟩:=bfun Q
  grind (splits:=30)
theorem f90_j1_eq:f90_j1 k F op name from_ flag l6 l7 l8 l9 l10 a nm fr bd n d q=f90_l2 k F l7 l8 l9 l10 a l6 0 n d (q || !(nameR nm name && fromR fr from_ && (bd || (l7.length:Int) == 0) && flagR op name flag l8.length l9.length && casesR op l10.length)):=by
  unfold f90_j1 f90_j2 f90_j3 nameR fromR
  simp only [f59_eq,f34_eq,f90_j4_eq,Option.bind_some,Bool.cond_eq_ite]
  generalize f90_l2 k F l7 l8 l9 l10 a l6 0 n d=Q
  generalize casesR op l10.length=c
  generalize flagR op name flag l8.length l9.length=c2
  generalize ((l7.length:Int) == 0)=c7
  obtain ⟨A,B,rfl⟩:=bfun Q
  generalize isN name=n1
  generalize isN from_=n2
  generalize seq name ⟨#[]⟩=e1
  generalize seq from_ ⟨#[]⟩=e2
  grind (splits:=30)
end
def nodeN (op:Int) (name from_:ByteArray) (flag:Int) (l6 l7 l8 l9 l10:Nat):Bool :=
  match shp op with
  | none=>false
  | some (nm,fr,lo,hi,bd,fl)=>flagN op name flag l8 l9 && nameN nm fr name from_ && argsN op lo (if hi=600 then 601 else hi) bd l6 l7 l10
def nodeS (op:Int) (name from_:ByteArray) (flag:Int) (l6 l7 l8 l9 l10:Nat):Bool :=
  match shp op with
  | none=>false
  | some (nm,fr,lo,hi,bd,fl)=>decide ((l6:Int) ≥ lo) && decide ((l6:Int)≤hi) && decide (flag ≥ 0) && decide (flag≤fl) && (nameR nm name && fromR fr from_ && (bd || (l7:Int) == 0) && flagR op name flag l8 l9 && casesR op l10)
theorem isN_ne {s:ByteArray} (h:isN s=true):seq s ⟨#[]⟩=false:=by
  unfold isN at h; cases hs:seq s ⟨#[]⟩ with
  | false=>rfl
  | true=>rw [hs] at h; simp at h
theorem bits (flag:Int) (h1:1≤flag) (h2:flag≤3):(IntKind.i64.wrap (BitVec.ofInt IntKind.i64.bits flag &&& BitVec.ofInt IntKind.i64.bits 1).toNat == 1)=(flag.tmod 2 == 1) ∧
    (IntKind.i64.wrap (BitVec.ofInt IntKind.i64.bits flag &&& BitVec.ofInt IntKind.i64.bits 2).toNat == 2)=decide (flag ≥ 2):=by
  rcases (by omega:flag=1∨flag=2∨flag=3) with rfl | rfl | rfl <;> exact ⟨rfl,rfl⟩
theorem nodeNS (op:Int) (name from_:ByteArray) (flag:Int) (l6 l7 l8 l9 l10:Nat) (h6:l6≤600):nodeN op name from_ flag l6 l7 l8 l9 l10=nodeS op name from_ flag l6 l7 l8 l9 l10:=by
  have hn:=@isN_ne name
  have hf:=@isN_ne from_
  have hb:=bits flag
  unfold nodeN nodeS flagN nameN argsN nameR fromR flagR casesR
  generalize (IntKind.i64.wrap (BitVec.ofInt IntKind.i64.bits flag &&& BitVec.ofInt IntKind.i64.bits 1).toNat == 1)=b0 at hb ⊢
  generalize (IntKind.i64.wrap (BitVec.ofInt IntKind.i64.bits flag &&& BitVec.ofInt IntKind.i64.bits 2).toNat == 2)=b1 at hb ⊢
  generalize isN name=n1 at hn ⊢
  generalize isN from_=n2 at hf ⊢
  generalize seq name ⟨#[]⟩=e1 at hn ⊢
  generalize seq from_ ⟨#[]⟩=e2 at hf ⊢
  generalize flag.tmod 2=t2 at hb ⊢
  generalize flag.tmod 4=t4
  by_cases hop:op < 1∨op > 29
  · rw [shp_none hop]
  rcases (by omega:op=1∨op=2∨op=3∨op=4∨op=5∨op=6∨op=7∨op=8∨op=9∨op=10∨op=11∨op=12∨op=13∨op=14∨op=15∨op=16∨op=17∨op=18∨op=19∨op=20∨op=21∨op=22∨op=23∨op=24∨op=25∨op=26∨op=27∨op=28∨op=29) with rfl | rfl | rfl | rfl | rfl | rfl | rfl | rfl | rfl | rfl | rfl | rfl | rfl | rfl | rfl | rfl | rfl | rfl | rfl | rfl | rfl | rfl | rfl | rfl | rfl | rfl | rfl | rfl | rfl <;>
    simp only [shp,Int.reduceBEq,cond_true,cond_false,Int.reduceEq,if_true,if_false] <;> grind (splits:=20)
end Go.Proofs.YtoajecnoffhlbaaGreatDoor
namespace Go.Proofs.YtoajecnoffhlbaaGreatDoor
open Go
def nodeC (kind:Int) (name:ByteArray) (len:Int):Bool :=
  decide (kind ≥ 1) && decide (kind≤4) && len == (cond (kind == 2) 2 (cond (kind == 4) 0 1)) && cond (kind == 1) (isN name) (seq name ⟨#[]⟩)
mutual
def gS (z:Bool):DStmt→Nat→Bool
  | .mk op name s2 fr s4 flag l6 l7 l8 l9 l10,a=>decide (a≤16) && (z || (s2 == 0 && s4 == 0)) && nodeS op name fr flag l6.length l7.length l8.length l9.length l10.length &&
      (gEs z l6 (a + 1) && (gSs z l7 (a + 1) && (gSs z l8 (a + 1) && (gSs z l9 (a + 1) && gCs z l10 (a + 1)))))
def gSs (z:Bool):List DStmt→Nat→Bool
  | [],_=>true
  | s :: l,a=>gS z s a && gSs z l a
def gC (z:Bool):DCase→Nat→Bool
  | .mk kind name slot es b,a=>decide (a≤16) && (z || slot == 0) && nodeC kind name es.length && (gEs z es (a + 1) && gSs z b (a + 1))
def gCs (z:Bool):List DCase→Nat→Bool
  | [],_=>true
  | .mk kind name slot es b :: l,a=>(!(kind == 4) || l.isEmpty) && gC z (.mk kind name slot es b) a && gCs z l a
end
theorem szS_pos : ∀ e:DStmt,1≤szS e
  | .mk _ _ _ _ _ _ _ _ _ _ _=>by simp only [szS]; omega
theorem szC_pos : ∀ e:DCase,1≤szC e
  | .mk _ _ _ _ _=>by simp only [szC]; omega
theorem NRes.bind {r:Option (Dcounter × Bool)} {f:Dcounter × Bool→Option (Dcounter × Bool)} {g1 g2:Bool} {n s1 s2:Nat} {z:Bool} (h1:NRes r g1 n s1 z)
    (hf : ∀ c,∃ c',f (c,false)=some (c',false)) (h2 : ∀ d,n + s1≤600→NRes (f (.mk ((n + s1:Nat):Int) d z,true)) g2 (n + s1) s2 z):NRes (r.bind f) (g1 && g2) n (s1 + s2) z:=by
  obtain ⟨c,rfl,hc⟩:=h1
  by_cases hg:(g1 && decide (n + s1≤600))=true
  · obtain ⟨d,rfl⟩:=hc hg
    rw [Bool.and_eq_true,decide_eq_true_eq] at hg
    obtain ⟨h3,h4⟩:=hg
    subst h3
    simp only [h4,decide_true,Bool.and_self,Bool.true_and,Option.bind_some]
    obtain ⟨c,h5,h6⟩:=h2 d h4
    rw [Nat.add_assoc] at h5 h6
    exact ⟨c,h5,h6⟩
  · have hg' : (g1 && decide (n + s1≤600))=false:=by simpa using hg
    rw [hg']
    obtain ⟨c',h⟩:=hf c
    refine .no h ?_
    rw [Bool.and_eq_false_iff,decide_eq_false_iff_not] at hg' ⊢
    rcases hg' with h | h
    · left; rw [h]; rfl
    · right; omega
theorem NRes.conv {r:Option (Dcounter × Bool)} {g g' : Bool} {n s n' s' : Nat} {z:Bool} (h:NRes r g n s z) (hs:n + s=n' + s') (hg:n + s≤600→g=g'):NRes r g' n' s' z:=by
  unfold NRes at h ⊢
  rw [← hs]
  have:(g && decide (n + s≤600))=(g' && decide (n + s≤600)):=by
    by_cases h:n + s≤600
    · rw [hg h]
    · simp [h]
  rwa [← this]
theorem f118_nil (k:Nat) (F:Fam118) (a:Int) (i:Nat) (n d:Int) (z:Bool):f118_l1 k F a [] i n d z=some (.mk n d z,true):=rfl
theorem f153_res (k:Nat) (z:Bool) (l:List DExpr) (hk:2 * szEs l + 1≤k) (n:Nat) (d:Int) (a:Nat) (hn:n≤600) (ha:a≤17):NRes (f153 k (.mk n d z) l a) (gEs z l a) n (szEs l) z :=
  (nE k z k).2 l hk n d a hn ha
theorem f152_j1_eq (k:Nat) (F:Fam118) (es:List DExpr) (b:List DStmt) (a n d:Int) (z q:Bool) :
    f152_j1 k F es b a n d z q=cond q (some (.mk n d z,false)) (f152_j1 k F es b a n d z false):=by cases q <;> rfl
theorem mget4 (kind:Int):mget qI kind (mput qI 4 0 (mput qI 3 1 (mput qI 2 2 (mput qI 1 1 ([]:List (Int × Int)))))) =
    cond (decide (kind ≥ 1) && decide (kind≤4)) (some (cond (kind == 2) 2 (cond (kind == 4) 0 1))) none:=by
  have e:mput qI 4 0 (mput qI 3 1 (mput qI 2 2 (mput qI 1 1 ([]:List (Int × Int)))))=[(1,1),(2,2),(3,1),(4,0)]:=rfl
  rw [e]
  unfold mget mget mget mget mget qI
  simp only [Bool.cond_eq_ite]
  grind
theorem f152_b_eq (k:Nat) (F:Fam118) (kind:Int) (name:ByteArray) (slot:Int) (es:List DExpr) (b:List DStmt) (a n d:Int) (z:Bool) :
    f152_b k F (.mk n d z) (.mk kind name slot es b) a=cond (decide (kind ≥ 1) && decide (kind≤4)) ((f117 k (.mk n d z) a).bind fun x=>match x with
      | (.mk n1 d1 z1,ok)=>cond (ok && (z1 || slot == 0) && nodeC kind name es.length) (f152_j1 k F es b a n1 d1 z1 false) (some (.mk n1 d1 z1,false))) (some (.mk n d z,false)):=by
  unfold f152_b
  simp only [mget4]
  by_cases hk:(decide (kind ≥ 1) && decide (kind≤4))=true
  · simp only [hk,cond_true,mcase]
    congr 1
    funext x
    obtain ⟨⟨n1,d1,z1⟩,ok⟩:=x
    unfold f152_j1
    have hn:=@isN_ne name
    simp only [f63_eq,Option.bind_some,nodeC,hk,Bool.true_and]
    generalize (cond (kind == 2) (2:Int) (cond (kind == 4) 0 1))=e
    generalize isN name=n1 at hn ⊢
    generalize seq name ⟨#[]⟩=e1 at hn ⊢
    simp only [Bool.cond_eq_ite]
    grind (splits:=20)
  · have hk' : (decide (kind ≥ 1) && decide (kind≤4))=false:=by simpa using hk
    simp only [hk',cond_false,mcase]
theorem argsN_len {op lo hi:Int} {bd:Bool} {l6 l7:Int} {l10:Nat} (h:argsN op lo hi bd l6 l7 l10=true):l10≤4:=by
  unfold argsN at h
  cases hop:(op == 27) <;> simp only [hop,cond_true,cond_false,Bool.and_eq_true,Bool.not_eq_true',decide_eq_true_eq,decide_eq_false_iff_not] at h <;> omega
theorem nSt (k:Nat) (z:Bool) : ∀ m,m≤k →
    (∀ s,2 * szS s≤m→∀ (n:Nat) (d:Int) (a:Nat),n≤600→a≤17→NRes ((fam118 k m).f138 (.mk n d z) s a) (gS z s a) n (szS s) z) ∧
    (∀ l,2 * szSs l + 1≤m→∀ (n:Nat) (d:Int) (a:Nat),n≤600→a≤17→NRes ((fam118 k m).f118 (.mk n d z) l a) (gSs z l a) n (szSs l) z) ∧
    (∀ c,2 * szC c≤m→∀ (n:Nat) (d:Int) (a:Nat),n≤600→a≤17→NRes ((fam118 k m).f152 (.mk n d z) c a) (gC z c a) n (szC c) z)
  | 0,_=>⟨fun e he=>by have:=szS_pos e; omega,fun l hl=>by omega,fun c hc=>by have:=szC_pos c; omega⟩
  | m + 1,hmk=>by
    obtain ⟨ihs,ihl,ihc⟩:=nSt k z m (by omega)
    refine ⟨?_,?_,?_⟩
    · intro s hs n d a hn ha
      obtain ⟨op,name,s2,fr,s4,flag,l6,l7,l8,l9,l10⟩:=s
      simp only [szS] at hs
      show NRes (f138_b k (fam118 k m) (.mk n d z) (.mk op name s2 fr s4 flag l6 l7 l8 l9 l10) a) _ _ _ _
      have tail : ∀ (n:Nat) (d:Int),a≤16→n≤600→NRes (f138_l1 k (fam118 k m) l6 l7 l8 l9 l10 a [] l10.length n d z) (gEs z l6 (a + 1) && (gSs z l7 (a + 1) && (gSs z l8 (a + 1) && gSs z l9 (a + 1)))) n (szEs l6 + (szSs l7 + (szSs l8 + szSs l9))) z:=by
        intro n d ha hn
        unfold f138_l1
        rw [w64_nat (n:=a + 1) (by omega) (by omega)]
        refine (f153_res k z l6 (by omega) n d (a + 1) hn (by omega)).bind (fun c=>by obtain ⟨_,_,_⟩:=c; exact ⟨_,rfl⟩) fun d hn=>?_
        refine (ihl l7 (by omega) _ d (a + 1) hn (by omega)).bind (fun c=>by obtain ⟨_,_,_⟩:=c; exact ⟨_,rfl⟩) fun d hn=>?_
        refine (ihl l8 (by omega) _ d (a + 1) hn (by omega)).bind (fun c=>by obtain ⟨_,_,_⟩:=c; exact ⟨_,rfl⟩) fun d hn=>?_
        refine ((ihl l9 (by omega) _ d (a + 1) hn (by omega)).bind (g2:=true) (s2:=0) (fun c=>by obtain ⟨_,_,_⟩:=c; exact ⟨_,rfl⟩) fun d hn=>?_).conv (by omega) (fun _=>by simp)
        exact .yes rfl (by simp [hn])
      have loop:a≤16→l10.length≤4→∀ (rest:List DCase) (i:Nat) (n:Nat) (d:Int),2 * szCs rest≤m→i + rest.length=l10.length→n≤600 →
          NRes (f138_l1 k (fam118 k m) l6 l7 l8 l9 l10 a rest i n d z) (gCs z rest (a + 1) && (gEs z l6 (a + 1) && (gSs z l7 (a + 1) && (gSs z l8 (a + 1) && gSs z l9 (a + 1))))) n (szCs rest + (szEs l6 + (szSs l7 + (szSs l8 + szSs l9)))) z:=by
        intro ha h10 rest
        induction rest with
        | nil =>
          intro i n d _ hi hn
          obtain rfl:i=l10.length:=by simpa using hi
          exact (tail n d ha hn).conv (by simp [szCs]) (fun _=>by simp [gCs])
        | cons c rest ih =>
          intro i n d hm hi hn
          obtain ⟨e0,e1,e2,e3,e4⟩:=c
          simp only [szCs,List.length_cons] at hm hi
          unfold f138_l1
          rw [w64_nat (x:=(a:Int) + 1) (n:=a + 1) (by omega) (by omega),w64_nat (x:=(l10.length:Int) - 1) (n:=l10.length - 1) (by omega) (by omega)]
          have step:NRes (((fam118 k m).f152 (.mk n d z) (.mk e0 e1 e2 e3 e4) ((a + 1:Nat):Int)).bind fun q_=>match q_ with | (.mk z1467_0 z1467_1 z1467_2,r1468)=>(f138_j6 k (fam118 k m) i z1467_0 z1467_1 z1467_2 (!r1468) (f138_l1 k (fam118 k m) l6 l7 l8 l9 l10 a rest)))
              (gC z (.mk e0 e1 e2 e3 e4) (a + 1) && (gCs z rest (a + 1) && (gEs z l6 (a + 1) && (gSs z l7 (a + 1) && (gSs z l8 (a + 1) && gSs z l9 (a + 1)))))) n (szC (.mk e0 e1 e2 e3 e4) + (szCs rest + (szEs l6 + (szSs l7 + (szSs l8 + szSs l9))))) z :=
            (ihc (.mk e0 e1 e2 e3 e4) (by omega) n d (a + 1) hn (by omega)).bind (fun c=>by obtain ⟨_,_,_⟩:=c; exact ⟨_,rfl⟩) fun d hn=>ih (i + 1) _ d (by omega) (by omega) hn
          by_cases h4:(e0 == 4)=true
          · simp only [h4,cond_true]
            by_cases hl:i < l10.length - 1
            · have:((i:Int) < ((l10.length - 1:Nat):Int)):=by omega
              simp only [this,decide_true,cond_true]
              refine .no rfl ?_
              have:rest.isEmpty=false:=by cases rest with
                | nil=>simp at hi; omega
                | cons=>rfl
              simp [gCs,h4,this]
            · have : ¬ ((i:Int) < ((l10.length - 1:Nat):Int)):=by omega
              simp only [this,decide_false,cond_false]
              have:rest.isEmpty=true:=by cases rest with
                | nil=>rfl
                | cons=>simp at hi; omega
              exact step.conv (by simp only [szCs]; omega) (fun _=>by simp [gCs,this,Bool.and_assoc])
          · have h4' : (e0 == 4)=false:=by simpa using h4
            simp only [h4',cond_false]
            exact step.conv (by simp only [szCs]; omega) (fun _=>by simp [gCs,h4',Bool.and_assoc])
      unfold f138_b
      obtain ⟨L,hL⟩ : ∃ L,f150 k=some L:=⟨_,rfl⟩
      have hg:=f150_eq k op
      rw [hL] at hg ⊢
      simp only [Option.bind_some,Option.some.injEq] at hg ⊢
      rw [hg]
      cases hsh:shp op with
      | none =>
        have:nodeS op name fr flag l6.length l7.length l8.length l9.length l10.length=false:=by unfold nodeS; rw [hsh]
        refine .no (c:=.mk n d z) ?_ (by simp [gS,this])
        simp only [toN,mcase]
        unfold f138_j1
        simp only [Bool.not_false,cond_true,f138_j2_eq]
        rfl
      | some t =>
        obtain ⟨nm,frm,lo,hi,bd,fl⟩:=t
        simp only [toN,mcase,f138_j1_eq,f117_eq k n d z a hn,Option.bind_some]
        have hN:nodeN op name fr flag l6.length l7.length l8.length l9.length l10.length=(flagN op name flag l8.length l9.length && nameN nm frm name fr && argsN op lo (if hi=600 then 601 else hi) bd l6.length l7.length l10.length):=by unfold nodeN; rw [hsh]
        rw [Bool.and_assoc,Bool.and_assoc,← Bool.and_assoc (flagN _ _ _ _ _),← hN]
        have hl6:=len_szEs l6
        by_cases h1:n + 1≤600∧a≤16
        · obtain ⟨h1,h2⟩:=h1
          by_cases h3:((s2 == 0 && s4 == 0) || z)=true
          · by_cases h4:nodeN op name fr flag l6.length l7.length l8.length l9.length l10.length=true
            · have h10:l10.length≤4:=by
                rw [hN] at h4
                rw [Bool.and_eq_true] at h4
                exact argsN_len h4.2
              simp only [h1,h2,h3,h4,decide_true,Bool.and_self,cond_true]
              refine (loop h2 h10 l10 0 (n + 1) (imax d a) (by omega) (by omega) h1).conv (by simp only [szS]; omega) (fun hh=>?_)
              have h5:nodeS op name fr flag l6.length l7.length l8.length l9.length l10.length=true:=by rw [← nodeNS _ _ _ _ _ _ _ _ _ (by omega)]; exact h4
              simp only [gS,h2,decide_true,h5]
              rw [Bool.or_comm] at h3
              simp only [h3,Bool.and_self,Bool.true_and]
              cases gCs z l10 (a + 1) <;> cases gEs z l6 (a + 1) <;> cases gSs z l7 (a + 1) <;> cases gSs z l8 (a + 1) <;> cases gSs z l9 (a + 1) <;> rfl
            · have h4' : nodeN op name fr flag l6.length l7.length l8.length l9.length l10.length=false:=by simpa using h4
              simp only [h4',Bool.and_false,cond_false]
              refine .no rfl ?_
              by_cases hh:n + szS (.mk op name s2 fr s4 flag l6 l7 l8 l9 l10)≤600
              · have h5:nodeS op name fr flag l6.length l7.length l8.length l9.length l10.length=false:=by
                  rw [← nodeNS _ _ _ _ _ _ _ _ _ (by simp only [szS] at hh; omega)]; exact h4'
                simp [gS,h5]
              · simp [hh]
          · have h3' : ((s2 == 0 && s4 == 0) || z)=false:=by simpa using h3
            simp only [h3',Bool.false_and,Bool.and_false,cond_false]
            refine .no rfl ?_
            rw [Bool.or_comm] at h3'
            simp only [gS,h3',Bool.false_and,Bool.and_false]
        · have h1' : (decide (n + 1≤600) && decide (a≤16))=false:=by
            simp only [Bool.and_eq_false_iff,decide_eq_false_iff_not]; omega
          simp only [h1',Bool.false_and,cond_false]
          refine .no rfl ?_
          rw [Bool.and_eq_false_iff,decide_eq_false_iff_not]
          by_cases h2:a≤16
          · right; simp only [szS]; omega
          · left; simp [gS,h2]
    · intro l hl n d a hn ha
      show NRes (f118_l1 k (fam118 k m) a l 0 n d z) _ _ _ _
      have loop : ∀ (l:List DStmt) (i:Nat) (n:Nat) (d:Int),2 * szSs l≤m→n≤600→NRes (f118_l1 k (fam118 k m) a l i n d z) (gSs z l a) n (szSs l) z:=by
        intro l
        induction l with
        | nil=>intro i n d _ hn; exact .yes rfl (by simp [gSs,szSs,hn])
        | cons e l ih =>
          intro i n d hm hn
          obtain ⟨e0,e1,e2,e3,e4,e5,e6,e7,e8,e9,e10⟩:=e
          unfold f118_l1
          simp only [szSs] at hm
          exact (ihs (.mk e0 e1 e2 e3 e4 e5 e6 e7 e8 e9 e10) (by omega) n d a hn ha).bind (fun c=>by obtain ⟨_,_,_⟩:=c; exact ⟨_,rfl⟩) fun d hn=>ih (i + 1) _ d (by omega) hn
      exact loop l 0 n d (by omega) hn
    · intro c hc n d a hn ha
      obtain ⟨kind,name,slot,es,b⟩:=c
      simp only [szC] at hc
      show NRes (f152_b k (fam118 k m) (.mk n d z) (.mk kind name slot es b) a) _ _ _ _
      rw [f152_b_eq]
      by_cases hk:(decide (kind ≥ 1) && decide (kind≤4))=true
      · simp only [hk,cond_true]
        rw [f117_eq k n d z a hn]
        simp only [Option.bind_some]
        by_cases h1:n + 1≤600∧a≤16
        · obtain ⟨h1,h2⟩:=h1
          by_cases h3:((z || slot == 0) && nodeC kind name es.length)=true
          · rw [Bool.and_assoc,h3]
            simp only [h1,h2,decide_true,Bool.and_self,cond_true]
            unfold f152_j1
            simp only [cond_false]
            rw [w64_nat (x:=(a:Int) + 1) (n:=a + 1) (by omega) (by omega)]
            refine NRes.conv (g:=gEs z es (a + 1) && (gSs z b (a + 1) && true)) (n:=n + 1) (s:=szEs es + (szSs b + 0)) ?_ (by simp only [szC]; omega) (fun _=>?_)
            · refine (f153_res k z es (by omega) (n + 1) _ (a + 1) h1 (by omega)).bind (fun c=>by obtain ⟨_,_,_⟩:=c; exact ⟨_,rfl⟩) fun d hn=>?_
              refine (ihl b (by omega) _ d (a + 1) hn (by omega)).bind (fun c=>by obtain ⟨_,_,_⟩:=c; exact ⟨_,rfl⟩) fun d hn=>?_
              exact .yes rfl (by simp [hn])
            · simp only [gC,h2,decide_true,Bool.true_and,Bool.and_true,h3]
          · have h3' : ((z || slot == 0) && nodeC kind name es.length)=false:=by simpa using h3
            rw [Bool.and_assoc,h3',Bool.and_false]
            refine .no rfl ?_
            rw [gC,Bool.and_assoc (decide (a≤16)),h3']
            simp
        · have h1' : (decide (n + 1≤600) && decide (a≤16))=false:=by
            simp only [Bool.and_eq_false_iff,decide_eq_false_iff_not]; omega
          simp only [h1',Bool.false_and,cond_false]
          refine .no rfl ?_
          rw [Bool.and_eq_false_iff,decide_eq_false_iff_not]
          by_cases h2:a≤16
          · right; simp only [szC]; omega
          · left; simp [gC,h2]
      · have hk' : (decide (kind ≥ 1) && decide (kind≤4))=false:=by simpa using hk
        simp only [hk',cond_false]
        exact .no rfl (by simp only [gC,nodeC,hk',Bool.false_and,Bool.and_false])
end Go.Proofs.YtoajecnoffhlbaaGreatDoor
namespace Go.Proofs.YtoajecnoffhlbaaGreatDoor
open Go
section
variable (k:Nat) (F:Fam61) (op:Int) (name:ByteArray) (s2:Int) (from_:ByteArray) (s4 flag:Int) (l6:List DExpr) (l7 l8 l9:List DStmt) (l10:List DCase) (a nm:Int) (fr:Bool) (lo hi:Int) (bd:Bool) (n d:Int) (z q:Bool)
theorem f90_b_eq:f90_b k F (.mk n d false) (.mk op name s2 from_ s4 flag l6 l7 l8 l9 l10) a=(f60 k (.mk n d false) a).bind fun x=>match x with
    | .mk n1 d1 q1=>f90_l2 k F l7 l8 l9 l10 a l6 0 n1 d1 (q1 || !((s2 == 0 && s4 == 0) && nodeS op name from_ flag l6.length l7.length l8.length l9.length l10.length)):=by
  unfold f90_b
  simp only [cond_false]
  congr 1
  funext x
  obtain ⟨n1,d1,q1⟩:=x
  simp only [f109_eq,Option.bind_some,f59_eq,f90_j1_eq,nodeS]
  cases shp op with
  | none =>
    simp only [toR,cond_false,Bool.and_false,Bool.not_false,Bool.or_true,Bool.true_or]
  | some t =>
    obtain ⟨nm,frm,lo,hi,bd,fl⟩:=t
    simp only [toR,cond_true]
    generalize (nameR nm name && fromR frm from_ && (bd || ((l7.length:Int) == 0)) && flagR op name flag l8.length l9.length && casesR op l10.length)=g
    generalize f90_l2 k F l7 l8 l9 l10 a l6 0 n1 d1=Q
    obtain ⟨A,B,rfl⟩:=bfun Q
    simp only [Bool.cond_eq_ite]
    grind (splits:=20)
theorem f111_b_eq (kind:Int) (slot:Int) (es:List DExpr) (b:List DStmt):f111_b k F (.mk n d q) (.mk kind name slot es b) a=(f60 k (.mk n d q) a).bind fun x=>match x with
    | .mk n1 d1 q1=>f111_l1 k F b a es 0 n1 d1 (q1 || !((slot == 0) && nodeC kind name es.length)):=by
  unfold f111_b
  simp only
  congr 1
  funext x
  obtain ⟨n1,d1,q1⟩:=x
  unfold f111_j1 f111_j2 f111_j3
  simp only [Option.bind_some,f59_eq,f34_eq,nodeC]
  generalize f111_l1 k F b a es 0 n1 d1=Q
  obtain ⟨A,B,rfl⟩:=bfun Q
  generalize (slot == 0)=b5
  generalize isN name=b6
  generalize seq name ⟨#[]⟩=b7
  simp only [Bool.cond_eq_ite]
  grind (splits:=20)
end
theorem f61_wrong (k:Nat) (F:Fam61) (a:Int) (l:List DStmt) (i:Nat) (x d:Int):f61_l1 k F a l i x d true=some (.mk x d true):=by
  cases l with
  | nil=>rfl
  | cons e l=>obtain ⟨_,_,_,_,_,_,_,_,_,_,_⟩:=e; rfl
theorem RRes.conv {r:Option DSize} {g g' : Bool} {n s n' s' : Nat} {q q' : Bool} (h:RRes r g n s q) (hs:n + s=n' + s') (hg:(q || !(g && decide (n + s≤600)))=(q' || !(g' && decide (n' + s'≤600)))):RRes r g' n' s' q':=by
  obtain ⟨x,d,q1,h1,h2,h3⟩:=h
  exact ⟨x,d,q1,h1,by rw [h2,hg],by rw [← hs]; exact h3⟩
theorem RRes.node {r:Option DSize} {g b:Bool} {n s a:Nat} (h:RRes r g (n + 1) s (!(decide (n + 1≤600) && decide (a≤16)) || !b)):RRes r (decide (a≤16) && b && g) n (s + 1) false:=by
  refine h.conv (by omega) ?_
  have e:n + (s + 1)=n + 1 + s:=by omega
  rw [e]
  by_cases hh:n + 1 + s≤600
  · have:n + 1≤600:=by omega
    simp only [hh,this,decide_true]
    cases decide (a≤16) <;> cases b <;> cases g <;> rfl
  · simp [hh]
theorem f110_res (k:Nat) (e:DExpr) (hk:szE e≤k) (n:Nat) (d:Int) (a:Nat) (hn:n≤600) (ha:a≤17):RRes (f110 k (.mk n d false) e a false) (gE false e a) n (szE e) false :=
  rE k k e hk n d a hn ha
theorem node_hx {n a:Nat} {b:Bool}:(!(decide (n + 1≤600) && decide (a≤16)) || !b)=false→((n + 1:Nat):Int)=((n + 1:Nat):Int)∧n + 1≤600:=by
  intro h; simp at h; exact ⟨rfl,by omega⟩
theorem nodeS_len {op flag:Int} {name fr:ByteArray} {l6 l7 l8 l9 l10:Nat} (h:nodeS op name fr flag l6 l7 l8 l9 l10=true):l10≤1000:=by
  unfold nodeS at h
  cases hs:shp op with
  | none=>rw [hs] at h; cases h
  | some t =>
    obtain ⟨nm,frm,lo,hi,bd,fl⟩:=t
    rw [hs] at h
    simp only [Bool.and_eq_true,casesR,decide_eq_true_eq] at h
    have:=h.2.2.2
    omega
theorem rS (k:Nat) : ∀ m,m≤k →
    (∀ s,2 * szS s≤m→∀ (n:Nat) (d:Int) (a:Nat),n≤600→a≤17→RRes ((fam61 k m).f90 (.mk n d false) s a) (gS false s a) n (szS s) false) ∧
    (∀ l,2 * szSs l + 1≤m→∀ (x:Int) (n:Nat) (d:Int) (q:Bool) (a:Nat),(q=false→x=(n:Int)∧n≤600)→a≤17→RRes ((fam61 k m).f61 (.mk x d q) l a) (gSs false l a) n (szSs l) q) ∧
    (∀ c,2 * szC c≤m→∀ (n:Nat) (d:Int) (a:Nat),n≤600→a≤17→RRes ((fam61 k m).f111 (.mk n d false) c a) (gC false c a) n (szC c) false)
  | 0,_=>⟨fun e he=>by have:=szS_pos e; omega,fun l hl=>by omega,fun c hc=>by have:=szC_pos c; omega⟩
  | m + 1,hmk=>by
    obtain ⟨ihs,ihl,ihc⟩:=rS k m (by omega)
    refine ⟨?_,?_,?_⟩
    · intro s hs n d a hn ha
      obtain ⟨op,name,s2,fr,s4,flag,l6,l7,l8,l9,l10⟩:=s
      simp only [szS] at hs
      show RRes (f90_b k (fam61 k m) (.mk n d false) (.mk op name s2 fr s4 flag l6 l7 l8 l9 l10) a) _ _ _ _
      rw [f90_b_eq,f60_eq k n d false a hn]
      simp only [Option.bind_some,Bool.false_or]
      have cs:a≤16→l10.length≤1000→∀ (rest:List DCase) (i:Nat) (x:Int) (n:Nat) (d:Int) (q:Bool),2 * szCs rest≤m→i + rest.length=l10.length→(q=false→x=(n:Int)∧n≤600) →
          RRes (f90_l1 k (fam61 k m) l10 a rest i x d q) (gCs false rest (a + 1)) n (szCs rest) q:=by
        intro ha h10 rest
        induction rest with
        | nil=>intro i x n d q _ _ hx; exact .done hx
        | cons c rest ih =>
          intro i x n d q hm hi hx
          obtain ⟨e0,e1,e2,e3,e4⟩:=c
          simp only [szCs,List.length_cons] at hm hi
          unfold f90_l1
          cases q with
          | true=>exact .wrong rfl
          | false =>
            obtain ⟨rfl,hn⟩:=hx rfl
            simp only [Bool.not_false,cond_true]
            rw [w64_nat (x:=(a:Int) + 1) (n:=a + 1) (by omega) (by omega),w64_nat (x:=(l10.length:Int) - 1) (n:=l10.length - 1) (by omega) (by omega)]
            refine ((ihc (.mk e0 e1 e2 e3 e4) (by omega) n d (a + 1) hn (by omega)).bind (g2:=(!(e0 == 4) || rest.isEmpty) && gCs false rest (a + 1)) (s2:=szCs rest) fun x1 d1 q1 h1=>?_).cast ?_ (by simp only [szCs])
            · have hb:(cond (e0 != 4) ((f59 k (DSize.mk x1 d1 q1) true).bind fun q_=>match q_ with | .mk z931_0 z931_1 z931_2=>(f90_j10 k (fam61 k m) i z931_0 z931_1 z931_2 (f90_l1 k (fam61 k m) l10 a rest))) ((f59 k (DSize.mk x1 d1 q1) ((i:Int) == ((l10.length - 1:Nat):Int))).bind fun q_=>match q_ with | .mk z938_0 z938_1 z938_2=>(f90_j10 k (fam61 k m) i z938_0 z938_1 z938_2 (f90_l1 k (fam61 k m) l10 a rest)))) =
                  f90_l1 k (fam61 k m) l10 a rest (i + 1) x1 d1 (q1 || !(!(e0 == 4) || rest.isEmpty)):=by
                have hl:((i:Int) == ((l10.length - 1:Nat):Int))=rest.isEmpty:=by
                  cases rest with
                  | nil=>simp at hi ⊢; omega
                  | cons _ _=>simp at hi ⊢; omega
                simp only [f59_eq,Option.bind_some,hl,bne]
                unfold f90_j10
                cases (e0 == 4) <;> cases rest.isEmpty <;> simp
              rw [hb]
              refine (ih (i + 1) x1 _ d1 _ (by omega) (by omega) (fun h=>h1 ?_)).check
              simp at h; exact h.1
            · simp only [gCs]
              cases (!(e0 == 4) || rest.isEmpty) <;> cases gC false (.mk e0 e1 e2 e3 e4) (a + 1) <;> rfl
      have fw : ∀ (x d:Int) (l:List DStmt) (a:Int),(fam61 k m).f61 (.mk x d true) l a=some (.mk x d true):=by
        intro x d l a
        cases m with
        | zero=>omega
        | succ m=>exact f61_wrong _ _ _ _ _ _ _
      have w1 : ∀ (x d:Int) (rest:List DCase) (i:Nat),f90_l1 k (fam61 k m) l10 a rest i x d true=some (.mk x d true):=by
        intro x d rest i
        cases rest with
        | nil=>rfl
        | cons c l=>obtain ⟨_,_,_,_,_⟩:=c; rfl
      have w2 : ∀ (x d:Int) (l:List DExpr) (i:Nat),f90_l2 k (fam61 k m) l7 l8 l9 l10 a l i x d true=some (.mk x d true):=by
        intro x d l i
        cases l with
        | nil=>unfold f90_l2 f90_j9; simp only [fw,Option.bind_some,w1]
        | cons c l=>obtain ⟨_,_,_,_,_⟩:=c; unfold f90_l2 f90_j9; simp only [fw,Option.bind_some,w1,Bool.not_true,cond_false]
      have tail:a≤16→l10.length≤1000→∀ (x:Int) (n:Nat) (d:Int) (q:Bool),(q=false→x=(n:Int)∧n≤600) →
          RRes (f90_j9 k (fam61 k m) l7 l8 l9 l10 a x d q) (gSs false l7 (a + 1) && (gSs false l8 (a + 1) && (gSs false l9 (a + 1) && gCs false l10 (a + 1)))) n (szSs l7 + (szSs l8 + (szSs l9 + szCs l10))) q:=by
        intro ha h10 x n d q hx
        unfold f90_j9
        rw [w64_nat (x:=(a:Int) + 1) (n:=a + 1) (by omega) (by omega)]
        refine (ihl l7 (by omega) x n d q (a + 1) hx (by omega)).bind fun x d q hx=>?_
        refine (ihl l8 (by omega) x _ d q (a + 1) hx (by omega)).bind fun x d q hx=>?_
        refine (ihl l9 (by omega) x _ d q (a + 1) hx (by omega)).bind fun x d q hx=>?_
        exact cs ha h10 l10 0 x _ d q (by omega) (by omega) hx
      have loop:a≤16→l10.length≤1000→∀ (l:List DExpr) (i:Nat) (x:Int) (n:Nat) (d:Int) (q:Bool),szEs l≤m→(q=false→x=(n:Int)∧n≤600) →
          RRes (f90_l2 k (fam61 k m) l7 l8 l9 l10 a l i x d q) (gEs false l (a + 1) && (gSs false l7 (a + 1) && (gSs false l8 (a + 1) && (gSs false l9 (a + 1) && gCs false l10 (a + 1))))) n (szEs l + (szSs l7 + (szSs l8 + (szSs l9 + szCs l10)))) q:=by
        intro ha h10 l
        induction l with
        | nil =>
          intro i x n d q _ hx
          unfold f90_l2
          exact (tail ha h10 x n d q hx).cast (by simp [gEs]) (by simp [szEs])
        | cons e l ih =>
          intro i x n d q hm hx
          cases q with
          | true=>rw [w2]; exact .wrong rfl
          | false =>
            obtain ⟨rfl,hn⟩:=hx rfl
            obtain ⟨e0,e1,e2,e3,e4⟩:=e
            unfold f90_l2
            simp only [szEs] at hm
            simp only [Bool.not_false,cond_true]
            rw [w64_nat (x:=(a:Int) + 1) (n:=a + 1) (by omega) (by omega)]
            refine ((f110_res k (.mk e0 e1 e2 e3 e4) (by omega) n d (a + 1) hn (by omega)).bind fun x1 d1 q1 h1=>ih (i + 1) x1 _ d1 q1 (by omega) h1).cast ?_ ?_
            · simp only [gEs,Bool.and_assoc]
            · simp only [szEs]; omega
      by_cases hq:(decide (n + 1≤600) && decide (a≤16))=true∧((s2 == 0 && s4 == 0) && nodeS op name fr flag l6.length l7.length l8.length l9.length l10.length)=true
      · have ha' : a≤16:=by have:=hq.1; simp at this; exact this.2
        have h10:l10.length≤1000:=by
          have h:=hq.2
          rw [Bool.and_eq_true] at h
          exact nodeS_len h.2
        refine RRes.cast (RRes.node (a:=a) (loop ha' h10 l6 0 _ (n + 1) _ _ (by omega) node_hx)) ?_ ?_
        · simp only [gS,Bool.false_or,← Bool.and_assoc]
        · simp only [szS]; omega
      · have hq' : (!(decide (n + 1≤600) && decide (a≤16)) || !((s2 == 0 && s4 == 0) && nodeS op name fr flag l6.length l7.length l8.length l9.length l10.length))=true:=by
          rw [← Bool.not_and,Bool.not_eq_true']; rw [← Bool.and_eq_true] at hq; simpa using hq
        rw [hq',w2]
        refine .bad rfl ?_
        simp only [gS,szS,Bool.false_or]
        by_cases h1:n + 1≤600
        · by_cases h2:a≤16
          · have:((s2 == 0 && s4 == 0) && nodeS op name fr flag l6.length l7.length l8.length l9.length l10.length)=false:=by
              cases h:((s2 == 0 && s4 == 0) && nodeS op name fr flag l6.length l7.length l8.length l9.length l10.length) with
              | false=>rfl
              | true=>exact absurd ⟨by simp [h1,h2],h⟩ hq
            rw [Bool.and_assoc (decide (a≤16)),this]; simp
          · simp [h2]
        · have : ¬ (n + (szEs l6 + szSs l7 + szSs l8 + szSs l9 + szCs l10 + 1)≤600):=by omega
          simp [this]
    · intro l hl x n d q a hx ha
      show RRes (f61_l1 k (fam61 k m) a l 0 x d q) _ _ _ _
      have loop : ∀ (l:List DStmt) (i:Nat) (x:Int) (n:Nat) (d:Int) (q:Bool),2 * szSs l≤m→(q=false→x=(n:Int)∧n≤600)→RRes (f61_l1 k (fam61 k m) a l i x d q) (gSs false l a) n (szSs l) q:=by
        intro l
        induction l with
        | nil=>intro i x n d q _ hx; exact .done hx
        | cons e l ih =>
          intro i x n d q hm hx
          obtain ⟨e0,e1,e2,e3,e4,e5,e6,e7,e8,e9,e10⟩:=e
          unfold f61_l1
          cases q with
          | true=>exact .wrong rfl
          | false =>
            obtain ⟨rfl,hn⟩:=hx rfl
            simp only [szSs] at hm
            simp only [Bool.not_false,cond_true]
            exact (ihs (.mk e0 e1 e2 e3 e4 e5 e6 e7 e8 e9 e10) (by omega) n d a hn ha).bind fun x1 d1 q1 h1=>ih (i + 1) x1 _ d1 q1 (by omega) h1
      exact loop l 0 x n d q (by omega) hx
    · intro c hc n d a hn ha
      obtain ⟨kind,name,slot,es,b⟩:=c
      simp only [szC] at hc
      show RRes (f111_b k (fam61 k m) (.mk n d false) (.mk kind name slot es b) a) _ _ _ _
      rw [f111_b_eq,f60_eq k n d false a hn]
      simp only [Option.bind_some,Bool.false_or]
      have loop:a≤16→∀ (l:List DExpr) (i:Nat) (x:Int) (n:Nat) (d:Int) (q:Bool),szEs l≤m→(q=false→x=(n:Int)∧n≤600)→RRes (f111_l1 k (fam61 k m) b a l i x d q) (gEs false l (a + 1) && gSs false b (a + 1)) n (szEs l + szSs b) q:=by
        intro ha l
        induction l with
        | nil =>
          intro i x n d q _ hx
          unfold f111_l1 f111_j4
          rw [w64_nat (x:=(a:Int) + 1) (n:=a + 1) (by omega) (by omega)]
          refine ((ihl b (by omega) x n d q (a + 1) hx (by omega)).bind (g2:=true) (s2:=0) fun x1 d1 q1 h1=>.done h1).cast ?_ ?_
          · simp [gEs]
          · simp [szEs]
        | cons e l ih =>
          intro i x n d q hm hx
          obtain ⟨e0,e1,e2,e3,e4⟩:=e
          unfold f111_l1
          simp only [szEs] at hm
          cases q with
          | true =>
            unfold f111_j4
            simp only [Bool.not_true,cond_false]
            obtain ⟨x1,d1,q1,h1,h2,h3⟩:=ihl b (by omega) x n d true ((a + 1)) hx (by omega)
            rw [w64_nat (x:=(a:Int) + 1) (n:=a + 1) (by omega) (by omega),h1]
            simp at h2; subst h2
            exact .wrong rfl
          | false =>
            obtain ⟨rfl,hn⟩:=hx rfl
            simp only [Bool.not_false,cond_true]
            rw [w64_nat (x:=(a:Int) + 1) (n:=a + 1) (by omega) (by omega)]
            refine ((f110_res k (.mk e0 e1 e2 e3 e4) (by omega) n d (a + 1) hn (by omega)).bind fun x1 d1 q1 h1=>ih (i + 1) x1 _ d1 q1 (by omega) h1).cast ?_ ?_
            · simp only [gEs,Bool.and_assoc]
            · simp only [szEs]; omega
      have fw : ∀ (x d:Int) (l:List DStmt) (a:Int),(fam61 k m).f61 (.mk x d true) l a=some (.mk x d true):=by
        intro x d l a
        cases m with
        | zero=>omega
        | succ m=>exact f61_wrong _ _ _ _ _ _ _
      have w2 : ∀ (x d:Int) (l:List DExpr) (i:Nat),f111_l1 k (fam61 k m) b a l i x d true=some (.mk x d true):=by
        intro x d l i
        cases l with
        | nil=>unfold f111_l1 f111_j4; simp only [fw,Option.bind_some]
        | cons c l=>obtain ⟨_,_,_,_,_⟩:=c; unfold f111_l1 f111_j4; simp only [fw,Option.bind_some,Bool.not_true,cond_false]
      by_cases ha' : a≤16
      · refine RRes.cast (RRes.node (a:=a) (loop ha' es 0 _ (n + 1) _ _ (by omega) node_hx)) ?_ ?_
        · simp only [gC,Bool.false_or,← Bool.and_assoc]
        · simp only [szC]
      · have hq' : (!(decide (n + 1≤600) && decide (a≤16)) || !((slot == 0) && nodeC kind name es.length))=true:=by simp [ha']
        rw [hq',w2]
        exact .bad rfl (by simp [gC,ha'])
end Go.Proofs.YtoajecnoffhlbaaGreatDoor
namespace Go.Proofs.YtoajecnoffhlbaaGreatDoor
open Go
def okP:List DParam→Bool
  | []=>true
  | .mk nm kd :: l=>isN nm && decide (kd ≥ 1) && decide (kd≤6) && okP l
def headF (z:Bool) (name:ByteArray) (np:Nat) (res:Int) (f3:Bool) (s4:Int):Bool :=
  isN name && decide (np≤4) && (z || s4 == 0) && (!f3 || res == 0) && decide (res ≥ 0) && decide (res≤6)
def gFs (z:Bool):List DFunc→Bool
  | []=>true
  | .mk name ps res f3 s4 b :: l=>headF z name ps.length res f3 s4 && (okP ps && (gSs z b 1 && gFs z l))
def cnF:DFunc→Nat | .mk _ _ _ _ _ b=>szSs b + 1
def cnFs:List DFunc→Nat | []=>0 | f :: l=>cnF f + cnFs l
def wf (z:Bool):DProgram→Bool
  | .mk fs=>decide (1≤fs.length) && decide (fs.length≤16) && gFs z fs && decide (cnFs fs≤600)
section
variable (k i:Nat) (body:List DStmt) (n d:Int) (z q:Bool) (nx:Nat→Int→Int→Bool→Option (Dcounter × Bool))
theorem f101_l2_eq : ∀ (ps:List DParam) (j:Nat),f101_l2 k i body n d z nx ps j=cond (okP ps) (f101_l2 k i body n d z nx [] 0) (some (.mk n d z,false))
  | [],j=>rfl
  | .mk nm kd :: ps,j=>by
    have ih:=f101_l2_eq ps
    generalize f101_l2 k i body n d z nx [] 0=A at ih ⊢
    rw [f101_l2]
    simp only [f63_eq,f116_eq,Option.bind_some,f101_j2,ih,okP]
    cases isN nm <;> cases decide (kd ≥ 1) <;> cases decide (kd≤6) <;> rfl
theorem f101_j1_eq (ps:List DParam):f101_j1 k i ps body n d z q nx=cond (!q && okP ps) (f101_l2 k i body n d z nx [] 0) (some (.mk n d z,false)):=by
  unfold f101_j1
  rw [f101_l2_eq]
  cases q <;> rfl
end
theorem f118_res (k:Nat) (z:Bool) (l:List DStmt) (hk:2 * szSs l + 1≤k) (n:Nat) (d:Int) (a:Nat) (hn:n≤600) (ha:a≤17):NRes (f118 k (.mk n d z) l a) (gSs z l a) n (szSs l) z :=
  (nSt k z k (Nat.le_refl k)).2.1 l hk n d a hn ha
theorem f61_res (k:Nat) (l:List DStmt) (hk:2 * szSs l + 1≤k) (x:Int) (n:Nat) (d:Int) (q:Bool) (a:Nat) (hx:q=false→x=(n:Int)∧n≤600) (ha:a≤17):RRes (f61 k (.mk x d q) l a) (gSs false l a) n (szSs l) q :=
  (rS k k (Nat.le_refl k)).2.1 l hk x n d q a hx ha
theorem f101_l1_eq (k:Nat) (name:ByteArray) (ps:List DParam) (res:Int) (f3:Bool) (s4:Int) (b:List DStmt) (l:List DFunc) (i:Nat) (n d:Int) (z:Bool) :
    f101_l1 k (.mk name ps res f3 s4 b :: l) i n d z=(f117 k (.mk n d z) 0).bind fun x=>match x with
      | (.mk n1 d1 z1,ok)=>cond (ok && headF z1 name ps.length res f3 s4 && okP ps) (f101_l2 k i b n1 d1 z1 (f101_l1 k l) [] 0) (some (.mk n1 d1 z1,false)):=by
  rw [f101_l1]
  congr 1
  funext x
  obtain ⟨⟨n1,d1,z1⟩,ok⟩:=x
  simp only [f63_eq,f116_eq,Option.bind_some,f101_j1_eq,headF]
  have e:decide ((ps.length:Int) > 4)=!decide (ps.length≤4):=by rw [← decide_not,decide_eq_decide]; omega
  rw [e]
  simp only [Bool.cond_eq_ite]
  grind (splits:=20)
theorem nFs (k:Nat) (z:Bool) : ∀ (l:List DFunc) (i:Nat) (n:Nat) (d:Int),2 * szFs l + 1≤k→n≤600→NRes (f101_l1 k l i n d z) (gFs z l) n (cnFs l) z
  | [],i,n,d,hk,hn=>.yes rfl (by simp [gFs,cnFs,hn])
  | .mk name ps res f3 s4 b :: l,i,n,d,hk,hn=>by
    simp only [szFs,szF] at hk
    rw [f101_l1_eq]
    have e0:((0:Nat):Int)=0:=rfl
    rw [← e0,f117_eq k n d z 0 hn,e0]
    simp only [Option.bind_some,Nat.zero_le,decide_true,Bool.and_true]
    by_cases h1:n + 1≤600
    · by_cases h2:(headF z name ps.length res f3 s4 && okP ps)=true
      · rw [Bool.and_assoc,h2]
        simp only [h1,decide_true,Bool.and_self,cond_true]
        rw [f101_l2]
        refine ((f118_res k z b (by omega) (n + 1) (imax d 0) 1 h1 (by omega)).bind (f:=fun q_=>match q_ with | (.mk z10628_0 z10628_1 z10628_2,r10629)=>(cond (!r10629) (some ((Dcounter.mk z10628_0 z10628_1 z10628_2),false)) (f101_l1 k l (i + 1) z10628_0 z10628_1 z10628_2)))
          (fun c=>by obtain ⟨_,_,_⟩:=c; exact ⟨_,rfl⟩) fun d hn=>nFs k z l (i + 1) _ d (by omega) hn).conv (by simp only [cnFs,cnF]; omega) (fun _=>?_)
        rw [Bool.and_eq_true] at h2
        simp only [gFs,h2.1,h2.2,Bool.true_and]
      · have h2' : (headF z name ps.length res f3 s4 && okP ps)=false:=by simpa using h2
        rw [Bool.and_assoc,h2',Bool.and_false]
        refine .no rfl ?_
        rw [gFs,← Bool.and_assoc,h2']
        simp
    · simp only [h1,decide_false,Bool.false_and,cond_false]
      refine .no rfl ?_
      have : ¬ (n + (szSs b + 1 + cnFs l)≤600):=by omega
      simp [cnFs,cnF,this]
theorem f78_eq (k:Nat) (p:DProgram) (z:Bool) (hk:2 * szP p + 1≤k):f78 k p z=some (wf z p):=by
  obtain ⟨fs⟩:=p
  simp only [szP] at hk
  unfold f78 f78_b f101 f101_b
  simp only [f116_eq,Option.bind_some]
  have e1:(decide ((fs.length:Int) ≥ 1) && decide ((fs.length:Int)≤16))=(decide (1≤fs.length) && decide (fs.length≤16)):=by
    congr 1
    · rw [decide_eq_decide]; omega
    · rw [decide_eq_decide]; omega
  rw [e1]
  by_cases h:(decide (1≤fs.length) && decide (fs.length≤16))=true
  · rw [h]
    simp only [Bool.not_true,cond_false]
    obtain ⟨c,h1,h2⟩:=nFs k z fs 0 0 0 (by omega) (by omega)
    have e0:((0:Nat):Int)=0:=rfl
    rw [e0] at h1
    rw [h1]
    obtain ⟨_,_,_⟩:=c
    simp only [Option.bind_some,wf,h,Nat.zero_add,Bool.true_and]
  · have h' : (decide (1≤fs.length) && decide (fs.length≤16))=false:=by simpa using h
    rw [h']
    simp only [Bool.not_false,cond_true,Option.bind_some,wf,h',Bool.false_and]
section
variable (k i:Nat) (body:List DStmt) (d:Int) (nx:Nat→Int→Int→Bool→Option DSize)
theorem f32_l2_eq : ∀ (ps:List DParam) (j:Nat) (x d:Int) (q:Bool),f32_l2 k i body nx ps j x d q=f32_j4 k i body x d (q || !okP ps) nx
  | [],j,x,d,q=>by simp [f32_l2,okP]
  | .mk nm kd :: ps,j,x,d,q=>by
    unfold f32_l2
    simp only [f34_eq,f59_eq,Option.bind_some,f32_j5,f32_l2_eq ps,okP]
    cases q <;> cases isN nm <;> cases decide (kd ≥ 1) <;> cases decide (kd≤6) <;> rfl
end
theorem f32_l1_eq (k:Nat) (name:ByteArray) (ps:List DParam) (res:Int) (f3:Bool) (s4:Int) (b:List DStmt) (l:List DFunc) (i:Nat) (n d:Int) :
    f32_l1 k (.mk name ps res f3 s4 b :: l) i n d false=(f60 k (.mk n d false) 0).bind fun x=>match x with
      | .mk n1 d1 q1=>f32_j4 k i b n1 d1 (q1 || !(headF false name ps.length res f3 s4 && okP ps)) (f32_l1 k l):=by
  rw [f32_l1]
  simp only [Bool.not_false,cond_true]
  congr 1
  funext x
  obtain ⟨n1,d1,q1⟩:=x
  simp only [f34_eq,f59_eq,Option.bind_some,f32_j3,f32_l2_eq,headF]
  have e:decide ((ps.length:Int)≤4)=decide (ps.length≤4):=by rw [decide_eq_decide]; omega
  rw [e]
  have hQ : ∃ A B,(fun q=>f32_j4 k i b n1 d1 q (f32_l1 k l))=fun b=>if b=true then A else B:=bfun _
  obtain ⟨A,B,hQ⟩:=hQ
  have hQ' : ∀ q,f32_j4 k i b n1 d1 q (f32_l1 k l)=if q=true then A else B:=fun q=>congrFun hQ q
  simp only [hQ']
  generalize decide (ps.length≤4)=b2
  generalize isN name=b1
  generalize okP ps=b3
  generalize (s4 == 0)=b4
  generalize (res == 0)=b5
  simp only [Bool.cond_eq_ite]
  grind (splits:=20)
theorem rFs (k:Nat) : ∀ (l:List DFunc) (i:Nat) (x:Int) (n:Nat) (d:Int) (q:Bool),2 * szFs l + 1≤k→(q=false→x=(n:Int)∧n≤600)→RRes (f32_l1 k l i x d q) (gFs false l) n (cnFs l) q
  | [],i,x,n,d,q,hk,hx=>.done hx
  | .mk name ps res f3 s4 b :: l,i,x,n,d,q,hk,hx=>by
    simp only [szFs,szF] at hk
    cases q with
    | true=>exact .wrong rfl
    | false =>
      obtain ⟨rfl,hn⟩:=hx rfl
      rw [f32_l1_eq]
      have e0:((0:Nat):Int)=0:=rfl
      rw [← e0,f60_eq k n d false 0 hn,e0]
      simp only [Option.bind_some,Bool.false_or]
      unfold f32_j4
      refine RRes.cast (RRes.node (a:=0) (b:=headF false name ps.length res f3 s4 && okP ps) (g:=gSs false b 1 && gFs false l) (s:=szSs b + cnFs l) ?_) ?_ ?_
      · exact (f61_res k b (by omega) _ (n + 1) _ _ 1 (fun h=>by simp at h; exact ⟨rfl,by omega⟩) (by omega)).bind fun x d q hx=>rFs k l (i + 1) x _ d q (by omega) hx
      · simp only [gFs,Nat.zero_le,decide_true,Bool.true_and,Bool.and_assoc]
      · simp only [cnFs,cnF]; omega
theorem f20_eq (k:Nat) (p:DProgram) (hk:2 * szP p + 1≤k):f20 k p=some (wf false p):=by
  obtain ⟨fs⟩:=p
  simp only [szP] at hk
  unfold f20 f20_b f32 f32_b
  simp only [f59_eq,Option.bind_some,f32_j1]
  have e:(cond (decide ((fs.length:Int) ≥ 1)) (f32_l1 k fs 0 0 0 (false || !decide ((fs.length:Int)≤16))) (f32_l1 k fs 0 0 0 (false || !false)))=f32_l1 k fs 0 0 0 (!(decide (1≤fs.length) && decide (fs.length≤16))):=by
    have e1:decide ((fs.length:Int) ≥ 1)=decide (1≤fs.length):=by rw [decide_eq_decide]; omega
    have e2:decide ((fs.length:Int)≤16)=decide (fs.length≤16):=by rw [decide_eq_decide]; omega
    rw [e1,e2]
    cases decide (1≤fs.length) <;> rfl
  rw [e]
  have e0:((0:Nat):Int)=0:=rfl
  obtain ⟨x,d,q',h1,h2,h3⟩:=rFs k fs 0 0 0 0 (!(decide (1≤fs.length) && decide (fs.length≤16))) (by omega) (fun _=>⟨rfl,by omega⟩)
  rw [h1]
  simp only [Option.bind_some,wf,h2,Nat.zero_add]
  cases decide (1≤fs.length) <;> cases decide (fs.length≤16) <;> cases gFs false fs <;> cases decide (cnFs fs≤600) <;> rfl
mutual
def stS:DStmt→DStmt | .mk op name _ fr _ flag l6 l7 l8 l9 l10=>.mk op name 0 fr 0 flag (stEs l6) (stSs l7) (stSs l8) (stSs l9) (stCs l10)
def stSs:List DStmt→List DStmt | []=>[] | s :: l=>stS s :: stSs l
def stC:DCase→DCase | .mk kind name _ es b=>.mk kind name 0 (stEs es) (stSs b)
def stCs:List DCase→List DCase | []=>[] | c :: l=>stC c :: stCs l
end
def stF:DFunc→DFunc | .mk name ps res f3 _ b=>.mk name ps res f3 0 (stSs b)
def stFs:List DFunc→List DFunc | []=>[] | f :: l=>stF f :: stFs l
def stP:DProgram→DProgram | .mk fs=>.mk (stFs fs)
theorem stSs_len : ∀ l,(stSs l).length=l.length
  | []=>rfl
  | e :: l=>by simp [stSs,stSs_len l]
theorem stCs_len : ∀ l,(stCs l).length=l.length
  | []=>rfl
  | e :: l=>by simp [stCs,stCs_len l]
theorem stFs_len : ∀ l,(stFs l).length=l.length
  | []=>rfl
  | e :: l=>by simp [stFs,stFs_len l]
mutual
theorem szS_st : ∀ e,szS (stS e)=szS e
  | .mk _ _ _ _ _ _ _ l7 l8 l9 l10=>by simp only [stS,szS,szEs_st,szSs_st l7,szSs_st l8,szSs_st l9,szCs_st l10]
theorem szSs_st : ∀ l,szSs (stSs l)=szSs l
  | []=>rfl
  | e :: l=>by simp only [stSs,szSs,szS_st e,szSs_st l]
theorem szC_st : ∀ e,szC (stC e)=szC e
  | .mk _ _ _ _ b=>by simp only [stC,szC,szEs_st,szSs_st b]
theorem szCs_st : ∀ l,szCs (stCs l)=szCs l
  | []=>rfl
  | e :: l=>by simp only [stCs,szCs,szC_st e,szCs_st l]
end
mutual
theorem gS_st : ∀ e a,gS false (stS e) a=gS true e a
  | .mk _ _ _ _ _ _ _ l7 l8 l9 l10,a=>by simp [stS,gS,gEs_st,gSs_st l7,gSs_st l8,gSs_st l9,gCs_st l10,stEs_len,stSs_len,stCs_len]
theorem gSs_st : ∀ l a,gSs false (stSs l) a=gSs true l a
  | [],_=>rfl
  | e :: l,a=>by simp only [stSs,gSs,gS_st e,gSs_st l]
theorem gC_st : ∀ e a,gC false (stC e) a=gC true e a
  | .mk _ _ _ _ b,a=>by simp [stC,gC,gEs_st,gSs_st b,stEs_len]
theorem gCs_st : ∀ l a,gCs false (stCs l) a=gCs true l a
  | [],_=>rfl
  | .mk k nm s es b :: l,a=>by
    have h:=gC_st (.mk k nm s es b) a
    simp only [stC] at h
    have e:(stCs l).isEmpty=l.isEmpty:=by cases l <;> rfl
    simp only [stCs,stC,gCs,h,gCs_st l,e]
end
theorem szFs_st : ∀ l,szFs (stFs l)=szFs l
  | []=>rfl
  | .mk _ _ _ _ _ b :: l=>by simp only [stFs,stF,szFs,szF,szSs_st,szFs_st l]
theorem cnFs_st : ∀ l,cnFs (stFs l)=cnFs l
  | []=>rfl
  | .mk _ _ _ _ _ b :: l=>by simp only [stFs,stF,cnFs,cnF,szSs_st,cnFs_st l]
theorem gFs_st : ∀ l,gFs false (stFs l)=gFs true l
  | []=>rfl
  | .mk _ _ _ _ _ b :: l=>by simp [stFs,stF,gFs,gSs_st,gFs_st l,headF]
theorem szP_st : ∀ p,szP (stP p)=szP p
  | .mk fs=>by simp only [stP,szP,szFs_st]
theorem wf_st : ∀ p,wf false (stP p)=wf true p
  | .mk fs=>by simp only [stP,wf,gFs_st,stFs_len,cnFs_st]
end Go.Proofs.YtoajecnoffhlbaaGreatDoor
namespace Go.Proofs.YtoajecnoffhlbaaGreatDoor
open Go
def maxB:Nat:=140737488355328
mutual
def fitE:DExpr→Prop | .mk _ _ _ _ l=>l.length * 64≤maxB∧fitEs l
def fitEs:List DExpr→Prop | []=>True | e :: l=>fitE e∧fitEs l
end
mutual
def fitS:DStmt→Prop | .mk _ _ _ _ _ _ l6 l7 l8 l9 l10=>(l6.length * 64≤maxB∧fitEs l6)∧(l7.length * 184≤maxB∧fitSs l7)∧(l8.length * 184≤maxB∧fitSs l8)∧(l9.length * 184≤maxB∧fitSs l9)∧(l10.length * 80≤maxB∧fitCs l10)
def fitSs:List DStmt→Prop | []=>True | e :: l=>fitS e∧fitSs l
def fitC:DCase→Prop | .mk _ _ _ l b=>(l.length * 64≤maxB∧fitEs l)∧(b.length * 184≤maxB∧fitSs b)
def fitCs:List DCase→Prop | []=>True | e :: l=>fitC e∧fitCs l
end
def fitF:DFunc→Prop | .mk _ ps _ _ _ b=>ps.length * 24≤maxB∧(b.length * 184≤maxB∧fitSs b)
def fitFs:List DFunc→Prop | []=>True | e :: l=>fitF e∧fitFs l
def fitP:DProgram→Prop | .mk fs=>fs.length * 88≤maxB∧fitFs fs
theorem guard_le {α:Type} {a:Nat} {x:Option α} (h:a≤maxB):guardB (decide (a≤140737488355328)) x=x:=by
  unfold maxB at h; unfold guardB; rw [decide_eq_true h]; rfl
theorem app_len {α:Type} (xs:List α) (e:α):(xs ++ [e]).length=xs.length + 1:=by simp
theorem f86_eq (k:Nat) : ∀ m l,szEs l + 1≤m→l.length * 64≤maxB→fitEs l→(fam86 k m).f86 l=some l
  | 0,l,h,_,_=>by omega
  | m + 1,l,h,hl,hf=>by
    show f86_l1 k (fam86 k m) l 0 []=some l
    have loop : ∀ (l:List DExpr) (i:Nat) (xs:List DExpr),szEs l≤m→(xs.length + l.length) * 64≤maxB→fitEs l→f86_l1 k (fam86 k m) l i xs=some (xs ++ l):=by
      intro l
      induction l with
      | nil=>intro i xs _ _ _; simp [f86_l1]
      | cons e l ih =>
        intro i xs hm hl hf
        obtain ⟨e0,e1,e2,e3,e4⟩:=e
        simp only [szEs,szE,fitEs,fitE,List.length_cons] at hm hl hf
        unfold f86_l1
        rw [f86_eq k m e4 (by omega) hf.1.1 hf.1.2]
        simp only [Option.bind_some]
        rw [guard_le (by omega),ih (i + 1) _ (by omega) (by rw [app_len]; omega) hf.2]
        simp
    exact loop l 0 [] (by omega) (by simpa using hl) hf
theorem f89_eq (k:Nat) : ∀ m l,szEs l + 1≤m→l.length * 64≤maxB→fitEs l→(fam89 k m).f89 l=some (stEs l)
  | 0,l,h,_,_=>by omega
  | m + 1,l,h,hl,hf=>by
    show f89_l1 k (fam89 k m) l 0 []=some (stEs l)
    have loop : ∀ (l:List DExpr) (i:Nat) (xs:List DExpr),szEs l≤m→(xs.length + l.length) * 64≤maxB→fitEs l→f89_l1 k (fam89 k m) l i xs=some (xs ++ stEs l):=by
      intro l
      induction l with
      | nil=>intro i xs _ _ _; simp [f89_l1,stEs]
      | cons e l ih =>
        intro i xs hm hl hf
        obtain ⟨e0,e1,e2,e3,e4⟩:=e
        simp only [szEs,szE,fitEs,fitE,List.length_cons] at hm hl hf
        unfold f89_l1
        rw [f89_eq k m e4 (by omega) hf.1.1 hf.1.2]
        simp only [Option.bind_some]
        rw [guard_le (by omega),ih (i + 1) _ (by omega) (by rw [app_len]; omega) hf.2]
        simp [stEs,stE]
    exact loop l 0 [] (by omega) (by simpa using hl) hf
theorem cE (k:Nat) : ∀ m,(∀ e,2 * szE e≤m→fitE e→(fam1013115 k m).f1014215 e=some (stE e)) ∧
    (∀ l,2 * szEs l + 1≤m→l.length * 64≤maxB→fitEs l→(fam1013115 k m).f1013115 l=some (stEs l))
  | 0=>⟨fun e h=>by have:=szE_pos e; omega,fun l h=>by omega⟩
  | m + 1=>by
    obtain ⟨ihe,ihl⟩:=cE k m
    constructor
    · intro e h hf
      obtain ⟨e0,e1,e2,e3,e4⟩:=e
      simp only [szE,fitE] at h hf
      show f1014215_b k (fam1013115 k m) (.mk e0 e1 e2 e3 e4)=_
      unfold f1014215_b
      simp only
      rw [ihl e4 (by omega) hf.1 hf.2]
      simp [f129,f129_b,stE]
    · intro l h hl hf
      show f1013115_l1 k (fam1013115 k m) l 0 []=_
      have loop : ∀ (l:List DExpr) (i:Nat) (xs:List DExpr),2 * szEs l≤m→(xs.length + l.length) * 64≤maxB→fitEs l→f1013115_l1 k (fam1013115 k m) l i xs=some (xs ++ stEs l):=by
        intro l
        induction l with
        | nil=>intro i xs _ _ _; simp [f1013115_l1,stEs]
        | cons e l ih =>
          intro i xs hm hl hf
          obtain ⟨e0,e1,e2,e3,e4⟩:=e
          simp only [szEs,fitEs,List.length_cons] at hm hl hf
          unfold f1013115_l1
          rw [ihe (.mk e0 e1 e2 e3 e4) (by omega) hf.1]
          simp only [Option.bind_some,stE]
          rw [guard_le (by omega),ih (i + 1) _ (by omega) (by rw [app_len]; omega) hf.2]
          simp [stEs,stE]
      exact loop l 0 [] (by omega) (by simpa using hl) hf
theorem f47_eq (k:Nat) : ∀ m l,szSs l + 1≤m→szSs l + 1≤k→l.length * 184≤maxB→fitSs l→(fam47 k m).f47 l=some l
  | 0,l,h,_,_,_=>by omega
  | m + 1,l,h,hk,hl,hf=>by
    show f47_l1 k (fam47 k m) l 0 []=some l
    have cs : ∀ (xs:List DStmt) (i:Nat) (e0:Int) (e1:ByteArray) (e2:Int) (e3:ByteArray) (e4 e5:Int) (r6:List DExpr) (r7 r8 r9:List DStmt) (nx:Nat→List DStmt→Option (List DStmt)) (l:List DCase) (j:Nat) (ys:List DCase),szCs l≤m→szCs l≤k →
        (ys.length + l.length) * 80≤maxB→(xs.length + 1) * 184≤maxB→fitCs l→f47_l2 k (fam47 k m) xs i e0 e1 e2 e3 e4 e5 r6 r7 r8 r9 nx l j ys=nx (i + 1) (xs ++ [.mk e0 e1 e2 e3 e4 e5 r6 r7 r8 r9 (ys ++ l)]):=by
      intro xs i e0 e1 e2 e3 e4 e5 r6 r7 r8 r9 nx l
      induction l with
      | nil=>intro j ys _ _ _ hx _; unfold f47_l2; rw [guard_le hx]; simp
      | cons c l ih =>
        intro j ys hm hk hl hx hf
        obtain ⟨c0,c1,c2,c3,c4⟩:=c
        simp only [szCs,szC,fitCs,fitC,List.length_cons] at hm hl hf hk
        unfold f47_l2 f86
        rw [f86_eq k k c3 (by omega) hf.1.1.1 hf.1.1.2]
        simp only [Option.bind_some]
        rw [f47_eq k m c4 (by omega) (by omega) hf.1.2.1 hf.1.2.2]
        simp only [Option.bind_some]
        rw [guard_le (by omega),ih (j + 1) _ (by omega) (by omega) (by rw [app_len]; omega) hx hf.2]
        simp
    have loop : ∀ (l:List DStmt) (i:Nat) (xs:List DStmt),szSs l≤m→szSs l≤k→(xs.length + l.length) * 184≤maxB→fitSs l→f47_l1 k (fam47 k m) l i xs=some (xs ++ l):=by
      intro l
      induction l with
      | nil=>intro i xs _ _ _ _; simp [f47_l1]
      | cons e l ih =>
        intro i xs hm hk hl hf
        obtain ⟨e0,e1,e2,e3,e4,e5,e6,e7,e8,e9,e10⟩:=e
        simp only [szSs,szS,fitSs,fitS,List.length_cons] at hm hl hf hk
        obtain ⟨⟨⟨h6,h6'⟩,⟨h7,h7'⟩,⟨h8,h8'⟩,⟨h9,h9'⟩,h10,h10'⟩,hf⟩:=hf
        unfold f47_l1 f86
        rw [f86_eq k k e6 (by omega) h6 h6',f47_eq k m e7 (by omega) (by omega) h7 h7',f47_eq k m e8 (by omega) (by omega) h8 h8',f47_eq k m e9 (by omega) (by omega) h9 h9']
        simp only [Option.bind_some]
        rw [cs xs i e0 e1 e2 e3 e4 e5 e6 e7 e8 e9 _ e10 0 [] (by omega) (by omega) (by simpa using h10) (by omega) h10',ih (i + 1) _ (by omega) (by omega) (by rw [app_len]; omega) hf]
        simp
    exact loop l 0 [] (by omega) (by omega) (by simpa using hl) hf
theorem f51_eq (k:Nat) : ∀ m l,szSs l + 1≤m→szSs l + 1≤k→l.length * 184≤maxB→fitSs l→(fam51 k m).f51 l=some (stSs l)
  | 0,l,h,_,_,_=>by omega
  | m + 1,l,h,hk,hl,hf=>by
    show f51_l1 k (fam51 k m) l 0 []=some (stSs l)
    have cs : ∀ (xs:List DStmt) (i:Nat) (e0:Int) (e1:ByteArray) (e3:ByteArray) (e5:Int) (r6:List DExpr) (r7 r8 r9:List DStmt) (nx:Nat→List DStmt→Option (List DStmt)) (l:List DCase) (j:Nat) (ys:List DCase),szCs l≤m→szCs l≤k →
        (ys.length + l.length) * 80≤maxB→(xs.length + 1) * 184≤maxB→fitCs l→f51_l2 k (fam51 k m) xs i e0 e1 e3 e5 r6 r7 r8 r9 nx l j ys=nx (i + 1) (xs ++ [.mk e0 e1 0 e3 0 e5 r6 r7 r8 r9 (ys ++ stCs l)]):=by
      intro xs i e0 e1 e3 e5 r6 r7 r8 r9 nx l
      induction l with
      | nil=>intro j ys _ _ _ hx _; unfold f51_l2; rw [guard_le hx]; simp [stCs]
      | cons c l ih =>
        intro j ys hm hk hl hx hf
        obtain ⟨c0,c1,c2,c3,c4⟩:=c
        simp only [szCs,szC,fitCs,fitC,List.length_cons] at hm hl hf hk
        unfold f51_l2 f89
        rw [f89_eq k k c3 (by omega) hf.1.1.1 hf.1.1.2]
        simp only [Option.bind_some]
        rw [f51_eq k m c4 (by omega) (by omega) hf.1.2.1 hf.1.2.2]
        simp only [Option.bind_some]
        rw [guard_le (by omega),ih (j + 1) _ (by omega) (by omega) (by rw [app_len]; omega) hx hf.2]
        simp [stCs,stC]
    have loop : ∀ (l:List DStmt) (i:Nat) (xs:List DStmt),szSs l≤m→szSs l≤k→(xs.length + l.length) * 184≤maxB→fitSs l→f51_l1 k (fam51 k m) l i xs=some (xs ++ stSs l):=by
      intro l
      induction l with
      | nil=>intro i xs _ _ _ _; simp [f51_l1,stSs]
      | cons e l ih =>
        intro i xs hm hk hl hf
        obtain ⟨e0,e1,e2,e3,e4,e5,e6,e7,e8,e9,e10⟩:=e
        simp only [szSs,szS,fitSs,fitS,List.length_cons] at hm hl hf hk
        obtain ⟨⟨⟨h6,h6'⟩,⟨h7,h7'⟩,⟨h8,h8'⟩,⟨h9,h9'⟩,h10,h10'⟩,hf⟩:=hf
        unfold f51_l1 f89
        rw [f89_eq k k e6 (by omega) h6 h6',f51_eq k m e7 (by omega) (by omega) h7 h7',f51_eq k m e8 (by omega) (by omega) h8 h8',f51_eq k m e9 (by omega) (by omega) h9 h9']
        simp only [Option.bind_some]
        rw [cs xs i e0 e1 e3 e5 _ _ _ _ _ e10 0 [] (by omega) (by omega) (by simpa using h10) (by omega) h10',ih (i + 1) _ (by omega) (by omega) (by rw [app_len]; omega) hf]
        simp [stSs,stS]
    exact loop l 0 [] (by omega) (by omega) (by simpa using hl) hf
theorem f108_eq (k:Nat) : ∀ m l,szSs l + 1≤m→2 * szSs l + 1≤k→l.length * 184≤maxB→fitSs l→(fam108 k m).f108 l false=some (stSs l)
  | 0,l,h,_,_,_=>by omega
  | m + 1,l,h,hk,hl,hf=>by
    show f108_l3 k (fam108 k m) false l 0 []=some (stSs l)
    have cs : ∀ (xs:List DStmt) (i:Nat) (e0:Int) (e1:ByteArray) (e3:ByteArray) (e5 n1 n2:Int) (r6:List DExpr) (r7 r8 r9:List DStmt) (nx:Nat→List DStmt→Option (List DStmt)) (l:List DCase) (j:Nat) (ys:List DCase),szCs l≤m→2 * szCs l≤k →
        (ys.length + l.length) * 80≤maxB→(xs.length + 1) * 184≤maxB→fitCs l→f108_l4 k (fam108 k m) false xs i e0 e1 e3 e5 n1 n2 r6 r7 r8 r9 nx l j ys=nx (i + 1) (xs ++ [.mk e0 e1 n1 e3 n2 e5 r6 r7 r8 r9 (ys ++ stCs l)]):=by
      intro xs i e0 e1 e3 e5 n1 n2 r6 r7 r8 r9 nx l
      induction l with
      | nil=>intro j ys _ _ _ hx _; unfold f108_l4; rw [guard_le hx]; simp [stCs]
      | cons c l ih =>
        intro j ys hm hk hl hx hf
        obtain ⟨c0,c1,c2,c3,c4⟩:=c
        simp only [szCs,szC,fitCs,fitC,List.length_cons] at hm hl hf hk
        unfold f108_l4 f108_j4 f1013115
        rw [(cE k k).2 c3 (by omega) hf.1.1.1 hf.1.1.2]
        simp only [Bool.not_false,cond_true,Option.bind_some]
        rw [f108_eq k m c4 (by omega) (by omega) hf.1.2.1 hf.1.2.2]
        simp only [Option.bind_some]
        rw [guard_le (by omega),ih (j + 1) _ (by omega) (by omega) (by rw [app_len]; omega) hx hf.2]
        simp [stCs,stC]
    have loop : ∀ (l:List DStmt) (i:Nat) (xs:List DStmt),szSs l≤m→2 * szSs l≤k→(xs.length + l.length) * 184≤maxB→fitSs l→f108_l3 k (fam108 k m) false l i xs=some (xs ++ stSs l):=by
      intro l
      induction l with
      | nil=>intro i xs _ _ _ _; simp [f108_l3,stSs]
      | cons e l ih =>
        intro i xs hm hk hl hf
        obtain ⟨e0,e1,e2,e3,e4,e5,e6,e7,e8,e9,e10⟩:=e
        simp only [szSs,szS,fitSs,fitS,List.length_cons] at hm hl hf hk
        obtain ⟨⟨⟨h6,h6'⟩,⟨h7,h7'⟩,⟨h8,h8'⟩,⟨h9,h9'⟩,h10,h10'⟩,hf⟩:=hf
        unfold f108_l3 f108_j3 f1013115
        rw [(cE k k).2 e6 (by omega) h6 h6',f108_eq k m e7 (by omega) (by omega) h7 h7',f108_eq k m e8 (by omega) (by omega) h8 h8',f108_eq k m e9 (by omega) (by omega) h9 h9']
        simp only [Bool.not_false,cond_true,Option.bind_some]
        rw [cs xs i e0 e1 e3 e5 _ _ _ _ _ _ _ e10 0 [] (by omega) (by omega) (by simpa using h10) (by omega) h10',ih (i + 1) _ (by omega) (by omega) (by rw [app_len]; omega) hf]
        simp [stSs,stS]
    exact loop l 0 [] (by omega) (by omega) (by simpa using hl) hf
theorem f88_eq (k:Nat) (p:DProgram) (hk:2 * szP p + 1≤k) (hf:fitP p):f88 k p false=some (stP p):=by
  obtain ⟨fs⟩:=p
  simp only [szP,fitP] at hk hf
  show f88_l1 k false fs 0 []=some (.mk (stFs fs))
  have loop : ∀ (l:List DFunc) (i:Nat) (xs:List DFunc),2 * szFs l + 1≤k→(xs.length + l.length) * 88≤maxB→fitFs l→f88_l1 k false l i xs=some (.mk (xs ++ stFs l)):=by
    intro l
    induction l with
    | nil=>intro i xs _ _ _; simp [f88_l1,stFs]
    | cons e l ih =>
      intro i xs hk hl hf
      obtain ⟨e0,e1,e2,e3,e4,e5⟩:=e
      simp only [szFs,szF,fitFs,fitF,List.length_cons] at hk hl hf
      unfold f88_l1 f88_j1 f104 f108
      rw [guard_le hf.1.1,f108_eq k k e5 (by omega) (by omega) hf.1.2.1 hf.1.2.2]
      simp only [Bool.not_false,cond_true,Option.bind_some]
      rw [guard_le (by omega),ih (i + 1) _ (by omega) (by rw [app_len]; omega) hf.2]
      simp [stFs,stF]
  exact loop fs 0 [] (by omega) (by simpa using hf.1) hf.2
theorem f19_eq (k:Nat) (p:DProgram) (hk:2 * szP p + 1≤k) (hf:fitP p):f19 k p=some p:=by
  obtain ⟨fs⟩:=p
  simp only [szP,fitP] at hk hf
  show f19_l1 k fs 0 []=some (.mk fs)
  have loop : ∀ (l:List DFunc) (i:Nat) (xs:List DFunc),2 * szFs l + 1≤k→(xs.length + l.length) * 88≤maxB→fitFs l→f19_l1 k l i xs=some (.mk (xs ++ l)):=by
    intro l
    induction l with
    | nil=>intro i xs _ _ _; simp [f19_l1]
    | cons e l ih =>
      intro i xs hk hl hf
      obtain ⟨e0,e1,e2,e3,e4,e5⟩:=e
      simp only [szFs,szF,fitFs,fitF,List.length_cons] at hk hl hf
      unfold f19_l1 f47
      rw [guard_le (by simpa using hf.1.1),f47_eq k k e5 (by omega) (by omega) hf.1.2.1 hf.1.2.2]
      simp only [Option.bind_some]
      rw [guard_le (by omega),ih (i + 1) _ (by omega) (by rw [app_len]; omega) hf.2]
      simp
  exact loop fs 0 [] (by omega) (by simpa using hf.1) hf.2
theorem idxO_mid {α:Type} (xs:List α) (e:α) (l:List α) (i:Int) (hi:i=(xs.length:Int)):idxO (xs ++ e :: l) i=some e:=by
  subst hi
  unfold idxO
  rw [if_pos (by omega)]
  simp
theorem set_mid {α:Type} (xs:List α) (e e' : α) (l:List α):(xs ++ e :: l).set xs.length e'=xs ++ e' :: l:=by
  simp
theorem f24_eq (k:Nat) (p:DProgram) (hk:2 * szP p + 1≤k) (hf:fitP p):f24 k p=some (stP p):=by
  have h19:=f19_eq k p hk hf
  obtain ⟨fs⟩:=p
  unfold f24 f24_b
  simp only
  rw [h19]
  simp only [szP,fitP] at hk hf
  simp only [Option.bind_some]
  have loop : ∀ (l:List DFunc) (j:Nat) (xs:List DFunc),l.length < j→2 * szFs l + 1≤k→(xs.length + l.length) * 88≤maxB→fitFs l→f24_w1 k j (xs ++ l) (xs.length:Int)=some (.mk (xs ++ stFs l)):=by
    intro l
    induction l with
    | nil =>
      intro j xs hj _ _ _
      obtain ⟨j,rfl⟩ : ∃ j',j=j' + 1:=⟨j - 1,by simp at hj; omega⟩
      unfold f24_w1
      simp [stFs]
    | cons e l ih =>
      intro j xs hj hk hl hf
      simp only [szFs,fitFs,List.length_cons] at hk hl hf hj
      obtain ⟨j,rfl⟩ : ∃ j',j=j' + 1:=⟨j - 1,by omega⟩
      unfold f24_w1
      have h1:decide ((xs.length:Int) < ((xs ++ e :: l).length:Int))=true:=by simp; omega
      rw [h1,idxO_mid xs e l _ rfl]
      obtain ⟨e0,e1,e2,e3,e4,e5⟩:=e
      simp only [szF,fitF] at hk hf
      simp only [cond_true,Option.bind_some]
      unfold f51
      rw [f51_eq k k e5 (by omega) (by omega) hf.1.2.1 hf.1.2.2]
      simp only [Option.bind_some,Int.toNat_natCast,set_mid]
      unfold maxB at hl
      rw [w64_nat (x:=(xs.length:Int) + 1) (n:=xs.length + 1) (by omega) (by omega)]
      have:=ih j (xs ++ [.mk e0 e1 e2 e3 0 (stSs e5)]) (by omega) (by omega) (by rw [app_len]; unfold maxB; omega) hf.2
      rw [app_len] at this
      simp only [List.append_assoc,List.singleton_append] at this
      rw [this]
      rfl
  have hlen:=len_szFs fs
  exact loop fs k [] (by omega) (by omega) (by simpa using hf.1) hf.2
end Go.Proofs.YtoajecnoffhlbaaGreatDoor
namespace Go.Proofs.YtoajecnoffhlbaaGreatDoor
open Go
theorem seq_refl (a:ByteArray):seq a a=true:=by unfold seq; simp
theorem sameE (k:Nat) : ∀ m,(∀ e,2 * szE e≤m→(fam48 k m).f87 e e=some true)∧(∀ l,2 * szEs l + 1≤m→(fam48 k m).f48 l l=some true)
  | 0=>⟨fun e h=>by have:=szE_pos e; omega,fun l h=>by omega⟩
  | m + 1=>by
    obtain ⟨ihe,ihl⟩:=sameE k m
    constructor
    · intro e h
      obtain ⟨e0,e1,e2,e3,e4⟩:=e
      simp only [szE] at h
      show f87_b k (fam48 k m) (.mk e0 e1 e2 e3 e4) (.mk e0 e1 e2 e3 e4)=_
      unfold f87_b f87_j1
      simp only
      rw [ihl e4 (by omega)]
      simp [seq_refl]
    · intro l h
      show f48_b k (fam48 k m) l l=_
      unfold f48_b
      have loop : ∀ (l:List DExpr) (xs:List DExpr),2 * szEs l≤m→f48_l1 k (fam48 k m) (xs ++ l) l xs.length=some true:=by
        intro l
        induction l with
        | nil=>intro xs _; rfl
        | cons e l ih =>
          intro xs hm
          simp only [szEs] at hm
          obtain ⟨e0,e1,e2,e3,e4⟩:=e
          unfold f48_l1
          rw [idxO_mid xs (.mk e0 e1 e2 e3 e4) l _ rfl]
          simp only [Option.bind_some]
          rw [ihe _ (by omega)]
          have:=ih (xs ++ [.mk e0 e1 e2 e3 e4]) (by omega)
          rw [app_len,List.append_assoc,List.singleton_append] at this
          simp only [Option.bind_some,Bool.not_true,cond_false]
          exact this
      have:=loop l [] (by omega)
      simp only [List.nil_append,List.length_nil] at this
      simp [this]
theorem sameS (k:Nat) : ∀ m l,szSs l + 1≤m→2 * szSs l + 1≤k→(fam21 k m).f21 l l=some true
  | 0,l,h,_=>by omega
  | m + 1,l,h,hk=>by
    show f21_b k (fam21 k m) l l=_
    unfold f21_b
    have cs : ∀ (i:Nat) (nx:Nat→Option Bool) (l:List DCase) (xs:List DCase),szCs l≤m→2 * szCs l≤k→f21_l2 k (fam21 k m) i (xs ++ l) nx l xs.length=nx (i + 1):=by
      intro i nx l
      induction l with
      | nil=>intro xs _ _; rfl
      | cons e l ih =>
        intro xs hm hk
        obtain ⟨e0,e1,e2,e3,e4⟩:=e
        simp only [szCs,szC] at hm hk
        unfold f21_l2
        rw [idxO_mid xs (.mk e0 e1 e2 e3 e4) l _ rfl]
        simp only [Option.bind_some]
        unfold f21_j4 f21_j5 f48
        rw [(sameE k k).2 e3 (by omega),sameS k m e4 (by omega) (by omega)]
        have:=ih (xs ++ [.mk e0 e1 e2 e3 e4]) (by omega) (by omega)
        rw [app_len,List.append_assoc,List.singleton_append] at this
        simp [seq_refl,this]
    have loop : ∀ (l:List DStmt) (xs:List DStmt),szSs l≤m→2 * szSs l≤k→f21_l1 k (fam21 k m) (xs ++ l) l xs.length=some true:=by
      intro l
      induction l with
      | nil=>intro xs _ _; rfl
      | cons e l ih =>
        intro xs hm hk
        obtain ⟨e0,e1,e2,e3,e4,e5,e6,e7,e8,e9,e10⟩:=e
        simp only [szSs,szS] at hm hk
        unfold f21_l1
        rw [idxO_mid xs (.mk e0 e1 e2 e3 e4 e5 e6 e7 e8 e9 e10) l _ rfl]
        simp only [Option.bind_some]
        unfold f21_j1 f21_j2 f21_j3 f48
        rw [(sameE k k).2 e6 (by omega),sameS k m e7 (by omega) (by omega),sameS k m e8 (by omega) (by omega),sameS k m e9 (by omega) (by omega)]
        have:=ih (xs ++ [.mk e0 e1 e2 e3 e4 e5 e6 e7 e8 e9 e10]) (by omega) (by omega)
        rw [app_len,List.append_assoc,List.singleton_append] at this
        have hc:=cs xs.length (f21_l1 k (fam21 k m) (xs ++ .mk e0 e1 e2 e3 e4 e5 e6 e7 e8 e9 e10 :: l) l) e10 [] (by omega) (by omega)
        simp only [List.nil_append,List.length_nil] at hc
        simp [seq_refl,hc,this]
    have:=loop l [] (by omega) (by omega)
    simp only [List.nil_append,List.length_nil] at this
    simp [this]
theorem f17_eq (k:Nat) (p:DProgram) (hk:2 * szP p + 1≤k):f17 k p p=some true:=by
  obtain ⟨fs⟩:=p
  simp only [szP] at hk
  unfold f17 f17_b
  simp only
  have ps : ∀ (i:Nat) (nx:Nat→Option Bool) (l:List DParam) (xs:List DParam),f17_l2 k i (xs ++ l) nx l xs.length=nx (i + 1):=by
    intro i nx l
    induction l with
    | nil=>intro xs; rfl
    | cons e l ih =>
      intro xs
      obtain ⟨e0,e1⟩:=e
      unfold f17_l2
      rw [idxO_mid xs (.mk e0 e1) l _ rfl]
      have:=ih (xs ++ [.mk e0 e1])
      rw [app_len,List.append_assoc,List.singleton_append] at this
      simp [seq_refl,this]
  have loop : ∀ (l:List DFunc) (xs:List DFunc),2 * szFs l + 1≤k→f17_l1 k (xs ++ l) l xs.length=some true:=by
    intro l
    induction l with
    | nil=>intro xs _; rfl
    | cons e l ih =>
      intro xs hk
      obtain ⟨e0,e1,e2,e3,e4,e5⟩:=e
      simp only [szFs,szF] at hk
      unfold f17_l1
      rw [idxO_mid xs (.mk e0 e1 e2 e3 e4 e5) l _ rfl]
      simp only [Option.bind_some]
      unfold f17_j1 f17_j2 f21
      rw [sameS k k e5 (by omega) (by omega)]
      have:=ih (xs ++ [.mk e0 e1 e2 e3 e4 e5]) (by omega)
      rw [app_len,List.append_assoc,List.singleton_append] at this
      have hp:=ps xs.length (f17_l1 k (xs ++ .mk e0 e1 e2 e3 e4 e5 :: l) l) e1 []
      simp only [List.nil_append,List.length_nil] at hp
      simp [seq_refl,hp,this]
  have:=loop fs [] (by omega)
  simp only [List.nil_append,List.length_nil] at this
  simp [this]
theorem f100_tot (k:Nat) : ∀ m l (a:Int),szEs l + 1≤m→∃ r,(fam100 k m).f100 l a=some r
  | 0,l,a,h=>by omega
  | m + 1,l,a,h=>by
    show ∃ r,f100_b k (fam100 k m) l a=some r
    unfold f100_b
    have loop : ∀ (l:List DExpr) (i:Nat) (n:Int),szEs l≤m→∃ r,f100_l1 k (fam100 k m) a l i n=some r:=by
      intro l
      induction l with
      | nil=>intro i n _; exact ⟨_,rfl⟩
      | cons e l ih =>
        intro i n hm
        obtain ⟨e0,e1,e2,e3,e4⟩:=e
        simp only [szEs,szE] at hm
        unfold f100_l1
        cases decide (n≤2000)
        · exact ⟨_,rfl⟩
        · obtain ⟨r,hr⟩:=f100_tot k m e4 (w64 (a + 1)) (by omega)
          rw [hr]
          exact ih _ _ (by omega)
    cases decide (a > 60)
    · exact loop l 0 0 (by omega)
    · exact ⟨_,rfl⟩
theorem f76_tot (k:Nat) : ∀ m l (a:Int),szSs l + 1≤m→szSs l + 1≤k→∃ r,(fam76 k m).f76 l a=some r
  | 0,l,a,h,_=>by omega
  | m + 1,l,a,h,hk=>by
    show ∃ r,f76_b k (fam76 k m) l a=some r
    unfold f76_b
    have cs : ∀ (i:Nat) (nx:Nat→Int→Option Int) (hnx : ∀ n,∃ r,nx (i + 1) n=some r) (l:List DCase) (j:Nat) (n:Int),szCs l≤m→szCs l≤k→∃ r,f76_l2 k (fam76 k m) a i nx l j n=some r:=by
      intro i nx hnx l
      induction l with
      | nil=>intro j n _ _; exact hnx _
      | cons e l ih =>
        intro j n hm hk
        obtain ⟨e0,e1,e2,e3,e4⟩:=e
        simp only [szCs,szC] at hm hk
        unfold f76_l2 f100
        cases decide (n≤2000)
        · exact hnx _
        · obtain ⟨r,hr⟩:=f100_tot k k e3 (w64 (a + 1)) (by omega)
          obtain ⟨r2,hr2⟩:=f76_tot k m e4 (w64 (a + 1)) (by omega) (by omega)
          rw [hr,cond_true,Option.bind_some,hr2]
          exact ih _ _ (by omega) (by omega)
    have loop : ∀ (l:List DStmt) (i:Nat) (n:Int),szSs l≤m→szSs l≤k→∃ r,f76_l1 k (fam76 k m) a l i n=some r:=by
      intro l
      induction l with
      | nil=>intro i n _ _; exact ⟨_,rfl⟩
      | cons e l ih =>
        intro i n hm hk
        obtain ⟨e0,e1,e2,e3,e4,e5,e6,e7,e8,e9,e10⟩:=e
        simp only [szSs,szS] at hm hk
        unfold f76_l1 f100
        cases decide (n≤2000)
        · exact ⟨_,rfl⟩
        · obtain ⟨r,hr⟩:=f100_tot k k e6 (w64 (a + 1)) (by omega)
          obtain ⟨r7,hr7⟩:=f76_tot k m e7 (w64 (a + 1)) (by omega) (by omega)
          obtain ⟨r8,hr8⟩:=f76_tot k m e8 (w64 (a + 1)) (by omega) (by omega)
          obtain ⟨r9,hr9⟩:=f76_tot k m e9 (w64 (a + 1)) (by omega) (by omega)
          rw [hr,cond_true,Option.bind_some,hr7,Option.bind_some,hr8,Option.bind_some,hr9]
          exact cs i _ (fun n=>ih _ _ (by omega) (by omega)) e10 0 _ (by omega) (by omega)
    cases decide (a > 40)
    · exact loop l 0 0 (by omega) (by omega)
    · exact ⟨_,rfl⟩
theorem f13_tot (k:Nat) (p:DProgram) (hk:2 * szP p + 1≤k) : ∃ b,f13 k p=some b:=by
  obtain ⟨fs⟩:=p
  simp only [szP] at hk
  have loop : ∀ (l:List DFunc) (i:Nat) (n:Int),szFs l + 1≤k→∃ r,f40_l1 k l i n=some r:=by
    intro l
    induction l with
    | nil=>intro i n _; exact ⟨_,rfl⟩
    | cons e l ih =>
      intro i n hk
      obtain ⟨e0,e1,e2,e3,e4,e5⟩:=e
      simp only [szFs,szF] at hk
      unfold f40_l1 f76
      cases decide (n≤2000)
      · exact ⟨_,rfl⟩
      · obtain ⟨r,hr⟩:=f76_tot k k e5 0 (by omega) (by omega)
        rw [hr]
        exact ih _ _ (by omega)
  obtain ⟨r,hr⟩:=loop fs 0 0 (by omega)
  exact ⟨r,by unfold f13 f13_b f40 f40_b; simp [hr]⟩
theorem f14_eq (k:Nat):f14 (k + 100)=some true:=by kernel_rfl
theorem f22_eq (k:Nat) (p:DProgram) (hk:2 * szP p + 1≤k) (hf:fitP p):f22 k p=some (cond (wf true p) (stP p,0) (.mk [],2)):=by
  have h78:=f78_eq k p true hk
  have h88:=f88_eq k p hk hf
  obtain ⟨fs⟩:=p
  unfold f22 f22_b f1004247 f1004904 f1004904_b f50 f50_b
  simp only [h78,h88,Option.bind_some]
  cases hw:wf true (.mk fs) <;> rfl
theorem f23_eq (k:Nat) (p:DProgram) (hk:2 * szP p + 1≤k) (hf:fitP p):f23 k p=some (wf true p):=by
  have h24:=f24_eq k p hk hf
  have h20:=f20_eq k (stP p) (by rw [szP_st]; exact hk)
  rw [wf_st] at h20
  obtain ⟨fs⟩:=p
  unfold f23 f23_b f23_j1
  simp only [h24,Option.bind_some]
  have e:decide ((fs.length:Int)≤16)=decide (fs.length≤16):=by rw [decide_eq_decide]; omega
  rw [e]
  simp only [stP] at h20 ⊢
  rw [h20]
  by_cases h:fs.length≤16
  · simp [h]
  · simp [h,wf]
theorem f5_eq (k:Nat) (p:DProgram) (hk:2 * szP p + 1≤k + 100) (hf:fitP p):f5 (k + 100) p=some true:=by
  have h22:=f22_eq (k + 100) p hk hf
  have h23:=f23_eq (k + 100) p hk hf
  have h24:=f24_eq (k + 100) p hk hf
  have h17:=f17_eq (k + 100) (stP p) (by rw [szP_st]; exact hk)
  obtain ⟨b,h13⟩:=f13_tot (k + 100) p hk
  obtain ⟨fs⟩:=p
  unfold f5 f5_b f5_j1 f5_j2
  simp only [h13,f14_eq,h22,h23,h24,Option.bind_some]
  simp only [stP] at h17 ⊢
  cases b
  · rfl
  · cases hw:wf true (.mk fs)
    · rfl
    · simp [h17]
end Go.Proofs.YtoajecnoffhlbaaGreatDoor
