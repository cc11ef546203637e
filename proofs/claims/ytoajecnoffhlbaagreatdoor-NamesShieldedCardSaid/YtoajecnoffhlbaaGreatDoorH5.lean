/- Words of the same proof, part 5: what the last text needs; nothing is claimed here. -/
import Derived.Test.YtoajecnoffhlbaaGreatDoorH4
import Derived.ProofKit
set_option linter.unusedVariables false
set_option linter.unusedSimpArgs false
set_option maxRecDepth 100000
set_option maxHeartbeats 4000000
namespace Go.Proofs.YtoajecnoffhlbaaGreatDoor
open Go
theorem f90_b_ok (k:Nat) (F:Fam61) (IH61:f61_spec F.f61) (IH90:f90_spec F.f90) (IH111:f111_spec F.f111):f90_spec (f90_b k F):=by
 unfold f90_spec
 intro K wi g bs af ag ae eF jV s jW jX jY h hG eG eH
 obtain ⟨r_,hr_,h⟩:=rz h
 obtain ⟨p,f,O,A,S,c,q,t,x,y,l⟩:=eF
 obtain ⟨J,N,U,V,W,X,Y,Z,D,G,rfl,bB,eI,c2,eJ,eK,eL,c4⟩:=RDStmt.open eG
 refine enter Tryz.func90 rfl (n:=307) rfl ?_
 unfold f90_b at h
 refine sr (bxoC (cs:=(vS p f O A S c J q N U t V W x X Y y Z D l G).toArray) eH rfl rfl (fun eM cc=>(wt (wp_seq (sr (m1 (pp g 0) (nilc rfl (fd 2 Tyf56_2 rfl (l1 1 (.bool ae) cc Tya4 (wt (cd h (fun ce h=>?_) (fun ce h=>?_))))))))))))
 ·refine cT ce (wp_ret (thenR ?_))
  cases (oi h).trans hr_
  exact ret0 rfl ⟨K,rfl,(cc.sel [1])⟩
 ·refine cF ce (wp_skip (thenN (sr (m1 (pp g 0) (m1 (iI s) ?_)))))
  have c5:=p10 cc
  obtain ⟨⟨bp,bq,br⟩,eN,h⟩:=ob h
  refine cv ([pp g 0,iI s]) Tyb60 ((f60_ok k) eN (hG.mono kr) (pt c5)) ?_
  rintro _ jZ ⟨j0,rfl,d⟩
  have cf:=ca d c5
  refine wt (sr (fd 0 Tyf42_0 rfl (l1 1 (iI p) cf Tya3 ?_)))
  obtain ⟨⟨⟨am,an,z,ab,aj,ao⟩,bL⟩,eO,h⟩:=ob h
  refine cv ([iI p]) Tyb109 ((f109_ok k) eO (hG.mono d.sub) (pt cf)) ?_
  rintro _ aI ⟨bi,j1,rfl,e,eP⟩
  have eQ:=ca e cf
  obtain rfl:=RDShape.open eP
  refine m1 (.tuple #[.agg #[iI am,iI an,iI z,.bool ab,.bool aj,iI ao],.bool bL]) (ext (v:=.agg #[iI am,iI an,iI z,.bool ab,.bool aj,iI ao]) rfl rfl (ext (v:=.bool bL) rfl rfl (aC #[iI 0,iI 0,iI 0,vN,vN,iI 0] eQ Tyz143 (fun j2 eR=>(sI 0 (.agg #[iI am,iI an,iI z,.bool ab,.bool aj,iI ao]) #[iI am,iI an,iI z,.bool ab,.bool aj,iI ao] eR Tys143 rfl rfl (fun bu ar=>(m2 (.bool bL) (wt (wp_cut (fun a w=>∃ c7 bR ch ci cj,a=fr 307 (updL c7 [(0,pp g 0),(2,iI s),(4,pp (zz wi) 0),(6,pp (zz aI) 0)])∧KH.sub bi bR∧SR K bR wi w [.box bs g #[iI af,iI ag,.bool ae] 56] [.box bs g #[iI ch,iI ci,.bool cj] 56,.box (zz wi) (zz wi) (vS p f O A S c J q N U t V W x X Y y Z D l G).toArray 42,.box (zz wi) (zz aI) #[iI am,iI an,iI z,.bool ab,.bool aj,iI ao] 143]∧f90_j1 k F p f A c q t x y l s z ab aj ch ci cj=some r_) ?_ ?_)))))))))
  ·refine wp_region_lit (m1 (pp g 0) (m1 (.bool bL) (m1 (.bool bL) (cd h (fun av h=>?_) (fun av h=>?_)))))
   ·refine n1 25 av (fd 6 Tyf42_6 rfl (n1 25 av (l1 2 (sl J q N) ar Tya39 (n1 25 av (lS q.length Tye39 (n1 25 av (fd 0 Tyf143_0 rfl (n1 25 av (l1 0 (iI am) ar Tya3 (n1 25 av (c0 (decide ((q.length:Int) ≥ am)) (m3 true (.bool (decide ((q.length:Int) ≥ am))) (cg av) (m1 (.bool (decide ((q.length:Int) ≥ am))) (cd h (fun aw h=>?_) (fun aw h=>?_)))))))))))))))
    ·refine n1 33 aw (fd 6 Tyf42_6 rfl (n1 33 aw (l1 2 (sl J q N) ar Tya39 (n1 33 aw (lS q.length Tye39 (n1 33 aw (fd 1 Tyf143_1 rfl (n1 33 aw (l1 0 (iI an) ar Tya3 (n1 33 aw (c0 (decide ((q.length:Int) ≤ an)) (m3 true (.bool (decide ((q.length:Int) ≤ an))) (cg aw) (m1 (.bool (decide ((q.length:Int) ≤ an))) (cd h (fun aX h=>?_) (fun aX h=>?_)))))))))))))))
     ·refine n1 41 aX (fd 5 Tyf42_5 rfl (n1 41 aX (l1 2 (iI c) ar Tya3 (n1 41 aX (c0 (decide (c ≥ 0)) (m3 true (.bool (decide (c ≥ 0))) (cg aX) (m1 (.bool (decide (c ≥ 0))) (cd h (fun aJ h=>?_) (fun aJ h=>?_)))))))))
      ·refine n1 46 aJ (fd 5 Tyf42_5 rfl (n1 46 aJ (l1 2 (iI c) ar Tya3 (n1 46 aJ (fd 5 Tyf143_5 rfl (n1 46 aJ (l1 0 (iI ao) ar Tya3 (n1 46 aJ (c0 (decide (c ≤ ao)) (m3 true (.bool (decide (c ≤ ao))) (cg aJ) (m1 (.bool (decide (c ≤ ao))) (cd h (fun aY h=>?_) (fun aY h=>?_)))))))))))))
       ·refine n1 53 aY (fd 2 Tyf42_2 rfl (n1 53 aY (l1 2 (iI O) ar Tya3 (n1 53 aY (c0 (O == 0) (m3 true (.bool (O == 0)) (cg aY) (m1 (.bool (O == 0)) (cd h (fun aZ h=>?_) (fun aZ h=>?_)))))))))
        ·refine n1 58 aZ (fd 4 Tyf42_4 rfl (n1 58 aZ (l1 2 (iI S) ar Tya3 (n1 58 aZ (c0 (S == 0) (m3 true (.bool (S == 0)) (cg aZ) ?_))))))
         have c8:=p102 ar
         obtain ⟨⟨eS,eT,eU⟩,eV,h⟩:=ob h
         refine cv ([pp g 0,.bool (S == 0)]) Tyb59 ((f59_ok k) eV (hG.mono (d.sub.trans e.sub)) (pt c8)) ?_
         rintro _ j3 ⟨eW,rfl,da⟩
         have eX:=ca da c8
         exact wt (⟨_,eW,eS,eT,eU,fR,da.sub,(eX.sel [0,2,1]),h⟩)
        ·refine o1 58 aZ (o1 58 aZ (o1 58 aZ (m3 false vN (cg aZ) ?_)))
         have db:=p102 ar
         obtain ⟨⟨eY,eZ,e0⟩,e1,h⟩:=ob h
         refine cv ([pp g 0,vN]) Tyb59 ((f59_ok k) e1 (hG.mono (d.sub.trans e.sub)) (pt db)) ?_
         rintro _ j4 ⟨e2,rfl,dc⟩
         have e3:=ca dc db
         exact wt (⟨_,e2,eY,eZ,e0,fR,dc.sub,(e3.sel [0,2,1]),h⟩)
       ·refine o1 53 aY (o1 53 aY (o1 53 aY (m3 false vN (cg aY) (m1 vN (o0 58 (o0 58 (o0 58 (m3 false vN rfl ?_))))))))
        have dd:=p102 ar
        obtain ⟨⟨e4,e5,e6⟩,e7,h⟩:=ob h
        refine cv ([pp g 0,vN]) Tyb59 ((f59_ok k) e7 (hG.mono (d.sub.trans e.sub)) (pt dd)) ?_
        rintro _ j5 ⟨e8,rfl,de⟩
        have e9:=ca de dd
        exact wt (⟨_,e8,e4,e5,e6,fR,de.sub,(e9.sel [0,2,1]),h⟩)
      ·refine o1 46 aJ (o1 46 aJ (o1 46 aJ (o1 46 aJ (o1 46 aJ (m3 false vN (cg aJ) (m1 vN (o0 53 (o0 53 (o0 53 (m3 false vN rfl (m1 vN (o0 58 (o0 58 (o0 58 (m3 false vN rfl ?_)))))))))))))))
       have df:=p102 ar
       obtain ⟨⟨fa,fb,fc⟩,fe,h⟩:=ob h
       refine cv ([pp g 0,vN]) Tyb59 ((f59_ok k) fe (hG.mono (d.sub.trans e.sub)) (pt df)) ?_
       rintro _ j6 ⟨ff,rfl,dg⟩
       have fg:=ca dg df
       exact wt (⟨_,ff,fa,fb,fc,fR,dg.sub,(fg.sel [0,2,1]),h⟩)
     ·refine o1 41 aX (o1 41 aX (o1 41 aX (m3 false vN (cg aX) (m1 vN (o0 46 (o0 46 (o0 46 (o0 46 (o0 46 (m3 false vN rfl (m1 vN (o0 53 (o0 53 (o0 53 (m3 false vN rfl (m1 vN (o0 58 (o0 58 (o0 58 (m3 false vN rfl ?_))))))))))))))))))))
      have dh:=p102 ar
      obtain ⟨⟨fh,fi,fj⟩,fk,h⟩:=ob h
      refine cv ([pp g 0,vN]) Tyb59 ((f59_ok k) fk (hG.mono (d.sub.trans e.sub)) (pt dh)) ?_
      rintro _ j7 ⟨fl,rfl,di⟩
      have fm:=ca di dh
      exact wt (⟨_,fl,fh,fi,fj,fR,di.sub,(fm.sel [0,2,1]),h⟩)
    ·refine o1 33 aw (o1 33 aw (o1 33 aw (o1 33 aw (o1 33 aw (o1 33 aw (m3 false vN (cg aw) (m1 vN (o0 41 (o0 41 (o0 41 (m3 false vN rfl (m1 vN (o0 46 (o0 46 (o0 46 (o0 46 (o0 46 (m3 false vN rfl (m1 vN (o0 53 (o0 53 (o0 53 (m3 false vN rfl (m1 vN (o0 58 (o0 58 (o0 58 (m3 false vN rfl ?_))))))))))))))))))))))))))))
     have dj:=p102 ar
     obtain ⟨⟨fn,fo,fp⟩,fs,h⟩:=ob h
     refine cv ([pp g 0,vN]) Tyb59 ((f59_ok k) fs (hG.mono (d.sub.trans e.sub)) (pt dj)) ?_
     rintro _ j8 ⟨ft,rfl,dk⟩
     have fu:=ca dk dj
     exact wt (⟨_,ft,fn,fo,fp,fR,dk.sub,(fu.sel [0,2,1]),h⟩)
   ·refine o1 25 av (o1 25 av (o1 25 av (o1 25 av (o1 25 av (o1 25 av (m3 false vN (cg av) (m1 vN (o0 33 (o0 33 (o0 33 (o0 33 (o0 33 (o0 33 (m3 false vN rfl (m1 vN (o0 41 (o0 41 (o0 41 (m3 false vN rfl (m1 vN (o0 46 (o0 46 (o0 46 (o0 46 (o0 46 (m3 false vN rfl (m1 vN (o0 53 (o0 53 (o0 53 (m3 false vN rfl (m1 vN (o0 58 (o0 58 (o0 58 (m3 false vN rfl ?_))))))))))))))))))))))))))))))))))))
    have dl:=p102 ar
    obtain ⟨⟨fv,fx,fy⟩,fz,h⟩:=ob h
    refine cv ([pp g 0,vN]) Tyb59 ((f59_ok k) fz (hG.mono (d.sub.trans e.sub)) (pt dl)) ?_
    rintro _ j9 ⟨fA,rfl,dm⟩
    have fB:=ca dm dl
    exact wt (⟨_,fA,fv,fx,fy,fR,dm.sub,(fB.sel [0,2,1]),h⟩)
  ·rintro _ ka ⟨c7,bR,ch,ci,cj,rfl,m,I,h⟩
   unfold f90_j1 at h
   refine wp_cut (fun a w=>∃ dn bS ck cl cm,a=fr 307 (updL dn [(0,pp g 0),(2,iI s),(4,pp (zz wi) 0),(6,pp (zz aI) 0)])∧KH.sub bR bS∧SR K bS wi w [.box bs g #[iI af,iI ag,.bool ae] 56] [.box bs g #[iI ck,iI cl,.bool cm] 56,.box (zz wi) (zz wi) (vS p f O A S c J q N U t V W x X Y y Z D l G).toArray 42,.box (zz wi) (zz aI) #[iI am,iI an,iI z,.bool ab,.bool aj,iI ao] 143]∧f90_j2 k F p f A c q t x y l s ab aj ck cl cm=some r_) ?_ ?_
   ·refine wp_region_lit (m1 (pp g 0) (fd 2 Tyf143_2 rfl (l1 2 (iI z) I Tya3 (c0 (z == 0) (m1 (.bool (z == 0)) (cd h (fun a0 h=>?_) (fun a0 h=>?_)))))))
    ·refine n1 68 a0 (fd 1 Tyf42_1 rfl (n1 68 a0 (l1 1 (.string f) I Tya9 (n1 68 a0 (bsc (r:=(seq f ⟨#[]⟩)) rfl rfl rfl (m3 true (.bool (seq f ⟨#[]⟩)) (cg a0) (m1 (.bool (seq f ⟨#[]⟩)) (cd h (fun ad h=>?_) (fun ad h=>?_)))))))))
     ·refine o1 73 ad (o1 73 ad (o1 73 ad (o1 73 ad (ou 77 (ou 77 (ou 77 (o1 73 ad (m3 true vT (cg ad) (m1 vT (o0 83 (o0 83 (o0 83 (o0 83 (ou 87 (ou 87 (ou 87 (ou 87 (ou 91 (ou 91 (ou 91 (ou 87 (o0 83 (m3 true vT rfl ?_)))))))))))))))))))))))
      obtain ⟨⟨fC,fD,fE⟩,fF,h⟩:=ob h
      refine cv ([pp g 0,vT]) Tyb59 ((f59_ok k) fF (hG.mono ((d.sub.trans e.sub).trans m)) (pt I)) ?_
      rintro _ kb ⟨fG,rfl,dp⟩
      have fH:=ca dp I
      exact wt (⟨_,fG,fC,fD,fE,fR,dp.sub,fH,h⟩)
     ·refine n1 73 ad (fd 2 Tyf143_2 rfl (n1 73 ad (l1 2 (iI z) I Tya3 (n1 73 ad (c0 (z == 1) (n1 73 ad (m1 (.bool (z == 1)) (cd h (fun a3 h=>?_) (fun a3 h=>?_)))))))))
      ·refine n1 77 a3 (fd 1 Tyf42_1 rfl (n1 77 a3 (l1 1 (.string f) I Tya9 (n1 77 a3 ?_))))
       obtain ⟨cn,fI,h⟩:=ob h
       refine cv ([.string f]) Tyb34 ((f34_ok k) fI (hG.mono ((d.sub.trans e.sub).trans m)) bB (pt I)) ?_
       rintro _ kc ⟨kd,rfl,bj⟩
       have a4:=ca bj I
       refine n1 73 ad (m3 true (.bool cn) (cg a3) (m3 false (.bool cn) (cg ad) (m1 (.bool cn) (cd h (fun ax h=>?_) (fun ax h=>?_)))))
       ·refine o1 83 ax (o1 83 ax (o1 83 ax (o1 83 ax (ou 87 (ou 87 (ou 87 (ou 87 (ou 91 (ou 91 (ou 91 (ou 87 (o1 83 ax (m3 true vT (cg ax) ?_)))))))))))))
        obtain ⟨⟨fJ,fK,fL⟩,fM,h⟩:=ob h
        refine cv ([pp g 0,vT]) Tyb59 ((f59_ok k) fM (hG.mono (((d.sub.trans e.sub).trans m).trans bj.sub)) (pt a4)) ?_
        rintro _ ke ⟨fN,rfl,dq⟩
        have fO:=ca dq a4
        exact wt (⟨_,fN,fJ,fK,fL,fR,(bj.sub.trans dq.sub),fO,h⟩)
       ·refine n1 83 ax (fd 2 Tyf143_2 rfl (n1 83 ax (l1 2 (iI z) a4 Tya3 (n1 83 ax (c0 (z == 2) (n1 83 ax (m1 (.bool (z == 2)) (cd h (fun aK h=>?_) (fun aK h=>?_)))))))))
        ·refine n1 87 aK (fd 1 Tyf42_1 rfl (n1 87 aK (l1 1 (.string f) a4 Tya9 (n1 87 aK (bsc (r:=(seq f ⟨#[]⟩)) rfl rfl rfl (n1 87 aK (m1 (.bool (seq f ⟨#[]⟩)) (n1 91 ad (fd 1 Tyf42_1 rfl (n1 91 ad (l1 1 (.string f) a4 Tya9 (n1 91 ad ?_))))))))))))
         obtain ⟨bT,fP,h⟩:=ob h
         refine cv ([.string f]) Tyb34 ((f34_ok k) fP (hG.mono (((d.sub.trans e.sub).trans m).trans bj.sub)) bB (pt a4)) ?_
         rintro _ kf ⟨kg,rfl,co⟩
         have dr:=ca co a4
         refine n1 87 aK (m3 false (.bool bT) (cg ad) (n1 83 ax (m3 true (.bool bT) (cg aK) (m3 false (.bool bT) (cg ax) ?_))))
         obtain ⟨⟨fQ,fS,fT⟩,fU,h⟩:=ob h
         refine cv ([pp g 0,.bool bT]) Tyb59 ((f59_ok k) fU (hG.mono ((((d.sub.trans e.sub).trans m).trans bj.sub).trans co.sub)) (pt dr)) ?_
         rintro _ kh ⟨fV,rfl,ds⟩
         have fW:=ca ds dr
         exact wt (⟨_,fV,fQ,fS,fT,fR,((bj.sub.trans co.sub).trans ds.sub),fW,h⟩)
        ·refine o1 87 aK (o1 87 aK (o1 87 aK (o1 87 aK (ou 91 (ou 91 (ou 91 (o1 87 aK (n1 83 ax (m3 false vN (cg aK) (m3 false vN (cg ax) ?_))))))))))
         obtain ⟨⟨fX,fY,fZ⟩,f0,h⟩:=ob h
         refine cv ([pp g 0,vN]) Tyb59 ((f59_ok k) f0 (hG.mono (((d.sub.trans e.sub).trans m).trans bj.sub)) (pt a4)) ?_
         rintro _ ki ⟨f1,rfl,dt⟩
         have f2:=ca dt a4
         exact wt (⟨_,f1,fX,fY,fZ,fR,(bj.sub.trans dt.sub),f2,h⟩)
      ·refine o1 77 a3 (o1 77 a3 (o1 77 a3 (n1 73 ad (m3 false vN (cg a3) (m3 false vN (cg ad) (m1 vN (n0 83 (fd 2 Tyf143_2 rfl (n0 83 (l1 2 (iI z) I Tya3 (n0 83 (c0 (z == 2) (n0 83 (m1 (.bool (z == 2)) (cd h (fun aL h=>?_) (fun aL h=>?_))))))))))))))))
       ·refine n1 87 aL (fd 1 Tyf42_1 rfl (n1 87 aL (l1 1 (.string f) I Tya9 (n1 87 aL (bsc (r:=(seq f ⟨#[]⟩)) rfl rfl rfl (n1 87 aL (m1 (.bool (seq f ⟨#[]⟩)) (n1 91 ad (fd 1 Tyf42_1 rfl (n1 91 ad (l1 1 (.string f) I Tya9 (n1 91 ad ?_))))))))))))
        obtain ⟨bU,f3,h⟩:=ob h
        refine cv ([.string f]) Tyb34 ((f34_ok k) f3 (hG.mono ((d.sub.trans e.sub).trans m)) bB (pt I)) ?_
        rintro _ kj ⟨kk,rfl,cq⟩
        have du:=ca cq I
        refine n1 87 aL (m3 false (.bool bU) (cg ad) (n0 83 (m3 true (.bool bU) (cg aL) (m3 false (.bool bU) rfl ?_))))
        obtain ⟨⟨f5,f6,f7⟩,f8,h⟩:=ob h
        refine cv ([pp g 0,.bool bU]) Tyb59 ((f59_ok k) f8 (hG.mono (((d.sub.trans e.sub).trans m).trans cq.sub)) (pt du)) ?_
        rintro _ kl ⟨f9,rfl,dv⟩
        have ga:=ca dv du
        exact wt (⟨_,f9,f5,f6,f7,fR,(cq.sub.trans dv.sub),ga,h⟩)
       ·refine o1 87 aL (o1 87 aL (o1 87 aL (o1 87 aL (ou 91 (ou 91 (ou 91 (o1 87 aL (n0 83 (m3 false vN (cg aL) (m3 false vN rfl ?_))))))))))
        obtain ⟨⟨gb,gc,gd⟩,ge,h⟩:=ob h
        refine cv ([pp g 0,vN]) Tyb59 ((f59_ok k) ge (hG.mono ((d.sub.trans e.sub).trans m)) (pt I)) ?_
        rintro _ km ⟨gf,rfl,dw⟩
        have gg:=ca dw I
        exact wt (⟨_,gf,gb,gc,gd,fR,dw.sub,gg,h⟩)
    ·refine o1 68 a0 (o1 68 a0 (o1 68 a0 (m3 false vN (cg a0) (m1 vN (n0 73 (fd 2 Tyf143_2 rfl (n0 73 (l1 2 (iI z) I Tya3 (n0 73 (c0 (z == 1) (n0 73 (m1 (.bool (z == 1)) (cd h (fun a5 h=>?_) (fun a5 h=>?_))))))))))))))
     ·refine n1 77 a5 (fd 1 Tyf42_1 rfl (n1 77 a5 (l1 1 (.string f) I Tya9 (n1 77 a5 ?_))))
      obtain ⟨cr,gh,h⟩:=ob h
      refine cv ([.string f]) Tyb34 ((f34_ok k) gh (hG.mono ((d.sub.trans e.sub).trans m)) bB (pt I)) ?_
      rintro _ kn ⟨ko,rfl,aU⟩
      have aN:=ca aU I
      refine n0 73 (m3 true (.bool cr) (cg a5) (m3 false (.bool cr) rfl (m1 (.bool cr) (cd h (fun aq h=>?_) (fun aq h=>?_)))))
      ·refine o1 83 aq (o1 83 aq (o1 83 aq (o1 83 aq (ou 87 (ou 87 (ou 87 (ou 87 (ou 91 (ou 91 (ou 91 (ou 87 (o1 83 aq (m3 true vT (cg aq) ?_)))))))))))))
       obtain ⟨⟨gi,gj,gk⟩,gl,h⟩:=ob h
       refine cv ([pp g 0,vT]) Tyb59 ((f59_ok k) gl (hG.mono (((d.sub.trans e.sub).trans m).trans aU.sub)) (pt aN)) ?_
       rintro _ kp ⟨gm,rfl,dx⟩
       have gn:=ca dx aN
       exact wt (⟨_,gm,gi,gj,gk,fR,(aU.sub.trans dx.sub),gn,h⟩)
      ·refine n1 83 aq (fd 2 Tyf143_2 rfl (n1 83 aq (l1 2 (iI z) aN Tya3 (n1 83 aq (c0 (z == 2) (n1 83 aq (m1 (.bool (z == 2)) (cd h (fun ay h=>?_) (fun ay h=>?_)))))))))
       ·refine n1 87 ay (fd 1 Tyf42_1 rfl (n1 87 ay (l1 1 (.string f) aN Tya9 (n1 87 ay (bsc (r:=(seq f ⟨#[]⟩)) rfl rfl rfl (n1 87 ay (m1 (.bool (seq f ⟨#[]⟩)) (cd h (fun a6 h=>?_) (fun a6 h=>?_)))))))))
        ·refine o1 91 a6 (o1 91 a6 (o1 91 a6 (n1 87 ay (m3 true vT (cg a6) (n1 83 aq (m3 true vT (cg ay) (m3 false vT (cg aq) ?_)))))))
         obtain ⟨⟨go,gp,gq⟩,gr,h⟩:=ob h
         refine cv ([pp g 0,vT]) Tyb59 ((f59_ok k) gr (hG.mono (((d.sub.trans e.sub).trans m).trans aU.sub)) (pt aN)) ?_
         rintro _ kq ⟨gs,rfl,dy⟩
         have gt:=ca dy aN
         exact wt (⟨_,gs,go,gp,gq,fR,(aU.sub.trans dy.sub),gt,h⟩)
        ·refine n1 91 a6 (fd 1 Tyf42_1 rfl (n1 91 a6 (l1 1 (.string f) aN Tya9 (n1 91 a6 ?_))))
         obtain ⟨bV,gu,h⟩:=ob h
         refine cv ([.string f]) Tyb34 ((f34_ok k) gu (hG.mono (((d.sub.trans e.sub).trans m).trans aU.sub)) bB (pt aN)) ?_
         rintro _ ks ⟨kt,rfl,ct⟩
         have dz:=ca ct aN
         refine n1 87 ay (m3 false (.bool bV) (cg a6) (n1 83 aq (m3 true (.bool bV) (cg ay) (m3 false (.bool bV) (cg aq) ?_))))
         obtain ⟨⟨gv,gw,gx⟩,gy,h⟩:=ob h
         refine cv ([pp g 0,.bool bV]) Tyb59 ((f59_ok k) gy (hG.mono ((((d.sub.trans e.sub).trans m).trans aU.sub).trans ct.sub)) (pt dz)) ?_
         rintro _ ku ⟨gz,rfl,dA⟩
         have gA:=ca dA dz
         exact wt (⟨_,gz,gv,gw,gx,fR,((aU.sub.trans ct.sub).trans dA.sub),gA,h⟩)
       ·refine o1 87 ay (o1 87 ay (o1 87 ay (o1 87 ay (ou 91 (ou 91 (ou 91 (o1 87 ay (n1 83 aq (m3 false vN (cg ay) (m3 false vN (cg aq) ?_))))))))))
        obtain ⟨⟨gB,gD,gF⟩,gG,h⟩:=ob h
        refine cv ([pp g 0,vN]) Tyb59 ((f59_ok k) gG (hG.mono (((d.sub.trans e.sub).trans m).trans aU.sub)) (pt aN)) ?_
        rintro _ kv ⟨gH,rfl,dB⟩
        have gI:=ca dB aN
        exact wt (⟨_,gH,gB,gD,gF,fR,(aU.sub.trans dB.sub),gI,h⟩)
     ·refine o1 77 a5 (o1 77 a5 (o1 77 a5 (n0 73 (m3 false vN (cg a5) (m3 false vN rfl (m1 vN (n0 83 (fd 2 Tyf143_2 rfl (n0 83 (l1 2 (iI z) I Tya3 (n0 83 (c0 (z == 2) (n0 83 (m1 (.bool (z == 2)) (cd h (fun az h=>?_) (fun az h=>?_))))))))))))))))
      ·refine n1 87 az (fd 1 Tyf42_1 rfl (n1 87 az (l1 1 (.string f) I Tya9 (n1 87 az (bsc (r:=(seq f ⟨#[]⟩)) rfl rfl rfl (n1 87 az (m1 (.bool (seq f ⟨#[]⟩)) (cd h (fun a7 h=>?_) (fun a7 h=>?_)))))))))
       ·refine o1 91 a7 (o1 91 a7 (o1 91 a7 (n1 87 az (m3 true vT (cg a7) (n0 83 (m3 true vT (cg az) (m3 false vT rfl ?_)))))))
        obtain ⟨⟨gJ,gK,gL⟩,gM,h⟩:=ob h
        refine cv ([pp g 0,vT]) Tyb59 ((f59_ok k) gM (hG.mono ((d.sub.trans e.sub).trans m)) (pt I)) ?_
        rintro _ kw ⟨gN,rfl,dC⟩
        have gO:=ca dC I
        exact wt (⟨_,gN,gJ,gK,gL,fR,dC.sub,gO,h⟩)
       ·refine n1 91 a7 (fd 1 Tyf42_1 rfl (n1 91 a7 (l1 1 (.string f) I Tya9 (n1 91 a7 ?_))))
        obtain ⟨bW,gP,h⟩:=ob h
        refine cv ([.string f]) Tyb34 ((f34_ok k) gP (hG.mono ((d.sub.trans e.sub).trans m)) bB (pt I)) ?_
        rintro _ kx ⟨ky,rfl,cu⟩
        have dD:=ca cu I
        refine n1 87 az (m3 false (.bool bW) (cg a7) (n0 83 (m3 true (.bool bW) (cg az) (m3 false (.bool bW) rfl ?_))))
        obtain ⟨⟨gQ,gR,gT⟩,gU,h⟩:=ob h
        refine cv ([pp g 0,.bool bW]) Tyb59 ((f59_ok k) gU (hG.mono (((d.sub.trans e.sub).trans m).trans cu.sub)) (pt dD)) ?_
        rintro _ kz ⟨gV,rfl,dE⟩
        have gW:=ca dE dD
        exact wt (⟨_,gV,gQ,gR,gT,fR,(cu.sub.trans dE.sub),gW,h⟩)
      ·refine o1 87 az (o1 87 az (o1 87 az (o1 87 az (ou 91 (ou 91 (ou 91 (o1 87 az (n0 83 (m3 false vN (cg az) (m3 false vN rfl ?_))))))))))
       obtain ⟨⟨gX,gY,gZ⟩,g0,h⟩:=ob h
       refine cv ([pp g 0,vN]) Tyb59 ((f59_ok k) g0 (hG.mono ((d.sub.trans e.sub).trans m)) (pt I)) ?_
       rintro _ kA ⟨g1,rfl,dF⟩
       have g2:=ca dF I
       exact wt (⟨_,g1,gX,gY,gZ,fR,dF.sub,g2,h⟩)
   ·rintro _ kB ⟨dn,bS,ck,cl,cm,rfl,u,aV,h⟩
    unfold f90_j2 at h
    refine wp_cut (fun a w=>∃ dG bX cw cx cy,a=fr 307 (updL dG [(0,pp g 0),(2,iI s),(4,pp (zz wi) 0),(6,pp (zz aI) 0)])∧KH.sub bS bX∧SR K bX wi w [.box bs g #[iI af,iI ag,.bool ae] 56] [.box bs g #[iI cw,iI cx,.bool cy] 56,.box (zz wi) (zz wi) (vS p f O A S c J q N U t V W x X Y y Z D l G).toArray 42,.box (zz wi) (zz aI) #[iI am,iI an,iI z,.bool ab,.bool aj,iI ao] 143]∧f90_j3 k F p f c q t x y l s aj cw cx cy=some r_) ?_ ?_
    ·refine wp_region_lit (m1 (pp g 0) (fd 3 Tyf143_3 rfl (l1 2 (.bool ab) aV Tya4 (m1 (.bool ab) (cd h (fun a8 h=>?_) (fun a8 h=>?_))))))
     ·refine n1 102 a8 (fd 3 Tyf42_3 rfl (n1 102 a8 (l1 1 (.string A) aV Tya9 (n1 102 a8 ?_))))
      obtain ⟨dH,g3,h⟩:=ob h
      refine cv ([.string A]) Tyb34 ((f34_ok k) g3 (hG.mono (((d.sub.trans e.sub).trans m).trans u)) eI (pt aV)) ?_
      rintro _ kC ⟨kD,rfl,bv⟩
      have bk:=ca bv aV
      refine m3 true (.bool dH) (cg a8) (m1 (.bool dH) (cd h (fun aA h=>?_) (fun aA h=>?_)))
      ·refine o1 107 aA (o1 107 aA (o1 107 aA (o1 107 aA (ou 111 (ou 111 (ou 111 (o1 107 aA (m3 true vT (cg aA) ?_))))))))
       obtain ⟨⟨g4,g5,g6⟩,g7,h⟩:=ob h
       refine cv ([pp g 0,vT]) Tyb59 ((f59_ok k) g7 (hG.mono ((((d.sub.trans e.sub).trans m).trans u).trans bv.sub)) (pt bk)) ?_
       rintro _ kE ⟨g8,rfl,dI⟩
       have g9:=ca dI bk
       exact wt (⟨_,g8,g4,g5,g6,fR,(bv.sub.trans dI.sub),g9,h⟩)
      ·refine n1 107 aA (fd 3 Tyf143_3 rfl (n1 107 aA (l1 2 (.bool ab) bk Tya4 (n1 107 aA (uN ab (n1 107 aA (m1 (.bool (!ab)) (cd h (fun a9 h=>?_) (fun a9 h=>?_)))))))))
       ·refine n1 111 a9 (fd 3 Tyf42_3 rfl (n1 111 a9 (l1 1 (.string A) bk Tya9 (n1 111 a9 (bsc (r:=(seq A ⟨#[]⟩)) rfl rfl rfl (n1 107 aA (m3 true (.bool (seq A ⟨#[]⟩)) (cg a9) (m3 false (.bool (seq A ⟨#[]⟩)) (cg aA) ?_))))))))
        obtain ⟨⟨ha,hb,hc⟩,hd,h⟩:=ob h
        refine cv ([pp g 0,.bool (seq A ⟨#[]⟩)]) Tyb59 ((f59_ok k) hd (hG.mono ((((d.sub.trans e.sub).trans m).trans u).trans bv.sub)) (pt bk)) ?_
        rintro _ kF ⟨he,rfl,dJ⟩
        have hf:=ca dJ bk
        exact wt (⟨_,he,ha,hb,hc,fR,(bv.sub.trans dJ.sub),hf,h⟩)
       ·refine o1 111 a9 (o1 111 a9 (o1 111 a9 (n1 107 aA (m3 false vN (cg a9) (m3 false vN (cg aA) ?_)))))
        obtain ⟨⟨hg,hh,hi⟩,hk,h⟩:=ob h
        refine cv ([pp g 0,vN]) Tyb59 ((f59_ok k) hk (hG.mono ((((d.sub.trans e.sub).trans m).trans u).trans bv.sub)) (pt bk)) ?_
        rintro _ kG ⟨hl,rfl,dK⟩
        have hm:=ca dK bk
        exact wt (⟨_,hl,hg,hh,hi,fR,(bv.sub.trans dK.sub),hm,h⟩)
     ·refine o1 102 a8 (o1 102 a8 (o1 102 a8 (m3 false vN (cg a8) (m1 vN (n0 107 (fd 3 Tyf143_3 rfl (n0 107 (l1 2 (.bool ab) aV Tya4 (n0 107 (uN ab (n0 107 (m1 (.bool (!ab)) (cd h (fun ba h=>?_) (fun ba h=>?_))))))))))))))
      ·refine n1 111 ba (fd 3 Tyf42_3 rfl (n1 111 ba (l1 1 (.string A) aV Tya9 (n1 111 ba (bsc (r:=(seq A ⟨#[]⟩)) rfl rfl rfl (n0 107 (m3 true (.bool (seq A ⟨#[]⟩)) (cg ba) (m3 false (.bool (seq A ⟨#[]⟩)) rfl ?_))))))))
       obtain ⟨⟨hn,ho,hp⟩,hq,h⟩:=ob h
       refine cv ([pp g 0,.bool (seq A ⟨#[]⟩)]) Tyb59 ((f59_ok k) hq (hG.mono (((d.sub.trans e.sub).trans m).trans u)) (pt aV)) ?_
       rintro _ kH ⟨hr,rfl,dL⟩
       have hs:=ca dL aV
       exact wt (⟨_,hr,hn,ho,hp,fR,dL.sub,hs,h⟩)
      ·refine o1 111 ba (o1 111 ba (o1 111 ba (n0 107 (m3 false vN (cg ba) (m3 false vN rfl ?_)))))
       obtain ⟨⟨ht,hu,hv⟩,hw,h⟩:=ob h
       refine cv ([pp g 0,vN]) Tyb59 ((f59_ok k) hw (hG.mono (((d.sub.trans e.sub).trans m).trans u)) (pt aV)) ?_
       rintro _ kJ ⟨hx,rfl,dM⟩
       have hy:=ca dM aV
       exact wt (⟨_,hx,ht,hu,hv,fR,dM.sub,hy,h⟩)
    ·rintro _ kK ⟨dG,bX,cw,cx,cy,rfl,B,bC,h⟩
     unfold f90_j3 at h
     refine wp_cut (fun a w=>∃ dN bY cz cA cB,a=fr 307 (updL dN [(0,pp g 0),(2,iI s),(4,pp (zz wi) 0)])∧KH.sub bX bY∧SR K bY wi w [.box bs g #[iI af,iI ag,.bool ae] 56] [.box bs g #[iI cz,iI cA,.bool cB] 56,.box (zz wi) (zz wi) (vS p f O A S c J q N U t V W x X Y y Z D l G).toArray 42]∧f90_j4 k F p f c q t x y l s cz cA cB=some r_) ?_ ?_
     ·refine wp_region_lit (m1 (pp g 0) (fd 4 Tyf143_4 rfl (l1 2 (.bool aj) bC Tya4 (m1 (.bool aj) (cd h (fun aP h=>?_) (fun aP h=>?_))))))
      ·refine o1 121 aP (o1 121 aP (o1 121 aP (o1 121 aP (m3 true vT (cg aP) ?_))))
       obtain ⟨⟨hz,hA,hB⟩,hC,h⟩:=ob h
       refine cv ([pp g 0,vT]) Tyb59 ((f59_ok k) hC (hG.mono ((((d.sub.trans e.sub).trans m).trans u).trans B)) (pt bC)) ?_
       rintro _ kL ⟨hD,rfl,dO⟩
       have hE:=ca dO bC
       exact wt (⟨_,hD,hz,hA,hB,fR,dO.sub,(hE.sel [0,1]),h⟩)
      ·refine n1 121 aP (fd 7 Tyf42_7 rfl (n1 121 aP (l1 1 (sl U t V) bC Tya36 (n1 121 aP (lS t.length Tye36 (n1 121 aP (c0 ((t.length:Int) == 0) (m3 false (.bool ((t.length:Int) == 0)) (cg aP) ?_))))))))
       obtain ⟨⟨hF,hH,hI⟩,hJ,h⟩:=ob h
       refine cv ([pp g 0,.bool ((t.length:Int) == 0)]) Tyb59 ((f59_ok k) hJ (hG.mono ((((d.sub.trans e.sub).trans m).trans u).trans B)) (pt bC)) ?_
       rintro _ kM ⟨hK,rfl,dP⟩
       have hL:=ca dP bC
       exact wt (⟨_,hK,hF,hH,hI,fR,dP.sub,(hL.sel [0,1]),h⟩)
     ·rintro _ kN ⟨dN,bY,cz,cA,cB,rfl,C,ak,h⟩
      unfold f90_j4 at h
      refine wp_cut (fun a w=>∃ dQ bZ cC cD cG,a=fr 307 (updL dQ [(0,pp g 0),(2,iI s),(4,pp (zz wi) 0)])∧KH.sub bY bZ∧SR K bZ wi w [.box bs g #[iI af,iI ag,.bool ae] 56] [.box bs g #[iI cC,iI cD,.bool cG] 56,.box (zz wi) (zz wi) (vS p f O A S c J q N U t V W x X Y y Z D l G).toArray 42]∧f90_j5 k F p f c q t x y l s cC cD cG=some r_) ?_ ?_
      ·refine wp_region_lit (m1 (pp g 0) (fd 8 Tyf42_8 rfl (l1 1 (sl W x X) ak Tya36 (lS x.length Tye36 (c0 ((x.length:Int) == 0) (m1 (.bool ((x.length:Int) == 0)) (cd h (fun aB h=>?_) (fun aB h=>?_))))))))
       ·refine o1 133 aB (o1 133 aB (o1 133 aB (o1 133 aB (ou 137 (ou 137 (ou 137 (o1 133 aB (m3 true vT (cg aB) (m1 vT (o0 143 (o0 143 (o0 143 (o0 143 (ou 147 (ou 147 (ou 147 (ou 147 (o0 143 (m3 true vT rfl ?_)))))))))))))))))))
        obtain ⟨⟨hM,hN,hO⟩,hP,h⟩:=ob h
        refine cv ([pp g 0,vT]) Tyb59 ((f59_ok k) hP (hG.mono (((((d.sub.trans e.sub).trans m).trans u).trans B).trans C)) (pt ak)) ?_
        rintro _ kO ⟨hQ,rfl,dR⟩
        have hR:=ca dR ak
        exact wt (⟨_,hQ,hM,hN,hO,fR,dR.sub,hR,h⟩)
       ·refine n1 133 aB (fd 0 Tyf42_0 rfl (n1 133 aB (l1 1 (iI p) ak Tya3 (n1 133 aB (c0 (p == 20) (n1 133 aB (m1 (.bool (p == 20)) (cd h (fun bb h=>?_) (fun bb h=>?_)))))))))
        ·refine n1 137 bb (fd 5 Tyf42_5 rfl (n1 137 bb (l1 1 (iI c) ak Tya3 (n1 137 bb (c0 (c == 1) (n1 133 aB (m3 true (.bool (c == 1)) (cg bb) (m3 false (.bool (c == 1)) (cg aB) (m1 (.bool (c == 1)) (cd h (fun aE h=>?_) (fun aE h=>?_)))))))))))
         ·refine o1 143 aE (o1 143 aE (o1 143 aE (o1 143 aE (ou 147 (ou 147 (ou 147 (ou 147 (o1 143 aE (m3 true vT (cg aE) ?_)))))))))
          obtain ⟨⟨hS,hT,hU⟩,hV,h⟩:=ob h
          refine cv ([pp g 0,vT]) Tyb59 ((f59_ok k) hV (hG.mono (((((d.sub.trans e.sub).trans m).trans u).trans B).trans C)) (pt ak)) ?_
          rintro _ kP ⟨hW,rfl,dS⟩
          have hX:=ca dS ak
          exact wt (⟨_,hW,hS,hT,hU,fR,dS.sub,hX,h⟩)
         ·refine n1 143 aE (fd 0 Tyf42_0 rfl (n1 143 aE (l1 1 (iI p) ak Tya3 (n1 143 aE (c0 (p == 24) (n1 143 aE (m1 (.bool (p == 24)) (cd h (fun aQ h=>?_) (fun aQ h=>?_)))))))))
          ·refine n1 147 aQ (fd 5 Tyf42_5 rfl (n1 147 aQ (l1 1 (iI c) ak Tya3 (n1 147 aQ (bdv (r:=(c.tmod 2)) rfl rfl (by decide) rfl (n1 147 aQ (c0 ((c.tmod 2) == 1) (n1 143 aE (m3 true (.bool ((c.tmod 2) == 1)) (cg aQ) (m3 false (.bool ((c.tmod 2) == 1)) (cg aE) ?_))))))))))
           obtain ⟨⟨hY,hZ,h0⟩,h1,h⟩:=ob h
           refine cv ([pp g 0,.bool ((c.tmod 2) == 1)]) Tyb59 ((f59_ok k) h1 (hG.mono (((((d.sub.trans e.sub).trans m).trans u).trans B).trans C)) (pt ak)) ?_
           rintro _ kQ ⟨h2,rfl,dT⟩
           have h3:=ca dT ak
           exact wt (⟨_,h2,hY,hZ,h0,fR,dT.sub,h3,h⟩)
          ·refine o1 147 aQ (o1 147 aQ (o1 147 aQ (o1 147 aQ (n1 143 aE (m3 false vN (cg aQ) (m3 false vN (cg aE) ?_))))))
           obtain ⟨⟨h4,h5,h6⟩,h7,h⟩:=ob h
           refine cv ([pp g 0,vN]) Tyb59 ((f59_ok k) h7 (hG.mono (((((d.sub.trans e.sub).trans m).trans u).trans B).trans C)) (pt ak)) ?_
           rintro _ kR ⟨h8,rfl,dU⟩
           have h9:=ca dU ak
           exact wt (⟨_,h8,h4,h5,h6,fR,dU.sub,h9,h⟩)
        ·refine o1 137 bb (o1 137 bb (o1 137 bb (n1 133 aB (m3 false vN (cg bb) (m3 false vN (cg aB) (m1 vN (n0 143 (fd 0 Tyf42_0 rfl (n0 143 (l1 1 (iI p) ak Tya3 (n0 143 (c0 (p == 24) (n0 143 (m1 (.bool (p == 24)) (cd h (fun aR h=>?_) (fun aR h=>?_))))))))))))))))
         ·refine n1 147 aR (fd 5 Tyf42_5 rfl (n1 147 aR (l1 1 (iI c) ak Tya3 (n1 147 aR (bdv (r:=(c.tmod 2)) rfl rfl (by decide) rfl (n1 147 aR (c0 ((c.tmod 2) == 1) (n0 143 (m3 true (.bool ((c.tmod 2) == 1)) (cg aR) (m3 false (.bool ((c.tmod 2) == 1)) rfl ?_))))))))))
          obtain ⟨⟨ia,ib,ic⟩,id,h⟩:=ob h
          refine cv ([pp g 0,.bool ((c.tmod 2) == 1)]) Tyb59 ((f59_ok k) id (hG.mono (((((d.sub.trans e.sub).trans m).trans u).trans B).trans C)) (pt ak)) ?_
          rintro _ kT ⟨ie,rfl,dV⟩
          have ig:=ca dV ak
          exact wt (⟨_,ie,ia,ib,ic,fR,dV.sub,ig,h⟩)
         ·refine o1 147 aR (o1 147 aR (o1 147 aR (o1 147 aR (n0 143 (m3 false vN (cg aR) (m3 false vN rfl ?_))))))
          obtain ⟨⟨ih,ii,ij⟩,ik,h⟩:=ob h
          refine cv ([pp g 0,vN]) Tyb59 ((f59_ok k) ik (hG.mono (((((d.sub.trans e.sub).trans m).trans u).trans B).trans C)) (pt ak)) ?_
          rintro _ kU ⟨il,rfl,dW⟩
          have im:=ca dW ak
          exact wt (⟨_,il,ih,ii,ij,fR,dW.sub,im,h⟩)
      ·rintro _ kV ⟨dQ,bZ,cC,cD,cG,rfl,ac,bd,h⟩
       unfold f90_j5 at h
       refine wp_cut (fun a w=>∃ dX bM b0 b1 b2,a=fr 307 (updL dX [(0,pp g 0),(2,iI s),(4,pp (zz wi) 0)])∧KH.sub bZ bM∧SR K bM wi w [.box bs g #[iI af,iI ag,.bool ae] 56] [.box bs g #[iI b0,iI b1,.bool b2] 56,.box (zz wi) (zz wi) (vS p f O A S c J q N U t V W x X Y y Z D l G).toArray 42]∧f90_j6 k F p f c q t x y l s b0 b1 b2=some r_) ?_ ?_
       ·refine wp_region_lit (m1 (pp g 0) (fd 9 Tyf42_9 rfl (l1 1 (sl Y y Z) bd Tya36 (lS y.length Tye36 (c0 ((y.length:Int) == 0) (m1 (.bool ((y.length:Int) == 0)) (cd h (fun aF h=>?_) (fun aF h=>?_))))))))
        ·refine o1 160 aF (o1 160 aF (o1 160 aF (o1 160 aF (ou 164 (ou 164 (ou 164 (o1 160 aF (m3 true vT (cg aF) ?_))))))))
         obtain ⟨⟨io,ip,iq⟩,ir,h⟩:=ob h
         refine cv ([pp g 0,vT]) Tyb59 ((f59_ok k) ir (hG.mono ((((((d.sub.trans e.sub).trans m).trans u).trans B).trans C).trans ac)) (pt bd)) ?_
         rintro _ kW ⟨it,rfl,dY⟩
         have iu:=ca dY bd
         exact wt (⟨_,it,io,ip,iq,fR,dY.sub,iu,h⟩)
        ·refine n1 160 aF (fd 0 Tyf42_0 rfl (n1 160 aF (l1 1 (iI p) bd Tya3 (n1 160 aF (c0 (p == 24) (n1 160 aF (m1 (.bool (p == 24)) (cd h (fun be h=>?_) (fun be h=>?_)))))))))
         ·refine n1 164 be (fd 5 Tyf42_5 rfl (n1 164 be (l1 1 (iI c) bd Tya3 (n1 164 be (c0 (decide (c ≥ 2)) (n1 160 aF (m3 true (.bool (decide (c ≥ 2))) (cg be) (m3 false (.bool (decide (c ≥ 2))) (cg aF) ?_))))))))
          obtain ⟨⟨iv,iw,ix⟩,iy,h⟩:=ob h
          refine cv ([pp g 0,.bool (decide (c ≥ 2))]) Tyb59 ((f59_ok k) iy (hG.mono ((((((d.sub.trans e.sub).trans m).trans u).trans B).trans C).trans ac)) (pt bd)) ?_
          rintro _ kX ⟨iz,rfl,dZ⟩
          have iA:=ca dZ bd
          exact wt (⟨_,iz,iv,iw,ix,fR,dZ.sub,iA,h⟩)
         ·refine o1 164 be (o1 164 be (o1 164 be (n1 160 aF (m3 false vN (cg be) (m3 false vN (cg aF) ?_)))))
          obtain ⟨⟨iB,iC,iD⟩,iE,h⟩:=ob h
          refine cv ([pp g 0,vN]) Tyb59 ((f59_ok k) iE (hG.mono ((((((d.sub.trans e.sub).trans m).trans u).trans B).trans C).trans ac)) (pt bd)) ?_
          rintro _ kY ⟨iF,rfl,d0⟩
          have iG:=ca d0 bd
          exact wt (⟨_,iF,iB,iC,iD,fR,d0.sub,iG,h⟩)
       ·rintro _ kZ ⟨dX,bM,b0,b1,b2,rfl,ah,ap,h⟩
        unfold f90_j6 at h
        refine wp_cut (fun a w=>∃ d1 b3 cH cI cJ,a=fr 307 (updL d1 [(0,pp g 0),(2,iI s),(4,pp (zz wi) 0)])∧KH.sub bM b3∧SR K b3 wi w [.box bs g #[iI af,iI ag,.bool ae] 56] [.box bs g #[iI cH,iI cI,.bool cJ] 56,.box (zz wi) (zz wi) (vS p f O A S c J q N U t V W x X Y y Z D l G).toArray 42]∧f90_j7 k F p q t x y l s cH cI cJ=some r_) ?_ ?_
        ·refine sr (fd 0 Tyf42_0 rfl (l1 1 (iI p) ap Tya3 (wt (wp_block (sr (c0 (p == 6) (m2 (.bool (p == 6)) (wt (cd h (fun cK h=>?_) (fun cK h=>?_))))))))))
         ·refine cT cK (wp_region_lit (m1 (pp g 0) (fd 5 Tyf42_5 rfl (l1 1 (iI c) ap Tya3 (c0 (c == 0) (m1 (.bool (c == 0)) (cd h (fun bf h=>?_) (fun bf h=>?_))))))))
          ·refine o1 179 bf (o1 179 bf (o1 179 bf (m3 true vT (cg bf) ?_)))
           obtain ⟨⟨iH,iJ,iK⟩,iL,h⟩:=ob h
           refine cv ([pp g 0,vT]) Tyb59 ((f59_ok k) iL (hG.mono (((((((d.sub.trans e.sub).trans m).trans u).trans B).trans C).trans ac).trans ah)) (pt ap)) ?_
           rintro _ k0 ⟨iM,rfl,d2⟩
           have iN:=ca d2 ap
           exact wpList_nil (blkN (thenN (⟨_,iM,iH,iJ,iK,fR,d2.sub,iN,h⟩)))
          ·refine n1 179 bf (fd 1 Tyf42_1 rfl (n1 179 bf (l1 1 (.string f) ap Tya9 (n1 179 bf (bsc (r:=(!seq f ⟨#[]⟩)) rfl rfl rfl (m3 false (.bool (!seq f ⟨#[]⟩)) (cg bf) ?_))))))
           obtain ⟨⟨iO,iP,iQ⟩,iR,h⟩:=ob h
           refine cv ([pp g 0,.bool (!seq f ⟨#[]⟩)]) Tyb59 ((f59_ok k) iR (hG.mono (((((((d.sub.trans e.sub).trans m).trans u).trans B).trans C).trans ac).trans ah)) (pt ap)) ?_
           rintro _ k1 ⟨iS,rfl,d3⟩
           have iT:=ca d3 ap
           exact wpList_nil (blkN (thenN (⟨_,iS,iO,iP,iQ,fR,d3.sub,iT,h⟩)))
         ·refine cF cK (sr (c0 (p == 24) (m2 (.bool (p == 24)) (wt (cd h (fun cL h=>?_) (fun cL h=>?_))))))
          ·refine cT cL (wp_region_lit (m1 (pp g 0) (fd 5 Tyf42_5 rfl (l1 1 (iI c) ap Tya3 (c0 (decide (c > 0)) (m1 (.bool (decide (c > 0))) (cd h (fun al h=>?_) (fun al h=>?_))))))))
           ·refine n1 191 al (fd 5 Tyf42_5 rfl (n1 191 al (l1 1 (iI c) ap Tya3 (n1 191 al (bdv (r:=(c.tmod 2)) rfl rfl (by decide) rfl (n1 191 al (c0 ((c.tmod 2) == 1) (n1 191 al (fd 1 Tyf42_1 rfl (n1 191 al (l1 1 (.string f) ap Tya9 (n1 191 al (bsc (r:=(!seq f ⟨#[]⟩)) rfl rfl rfl (n1 191 al (bbo (r:=(((c.tmod 2) == 1) == (!seq f ⟨#[]⟩))) Tyo4 rfl rfl rfl (m3 true (.bool (((c.tmod 2) == 1) == (!seq f ⟨#[]⟩))) (cg al) ?_))))))))))))))))
            obtain ⟨⟨iU,iV,iW⟩,iX,h⟩:=ob h
            refine cv ([pp g 0,.bool (((c.tmod 2) == 1) == (!seq f ⟨#[]⟩))]) Tyb59 ((f59_ok k) iX (hG.mono (((((((d.sub.trans e.sub).trans m).trans u).trans B).trans C).trans ac).trans ah)) (pt ap)) ?_
            rintro _ k2 ⟨iY,rfl,d4⟩
            have iZ:=ca d4 ap
            exact wpList_nil (blkN (thenN (⟨_,iY,iU,iV,iW,fR,d4.sub,iZ,h⟩)))
           ·refine o1 191 al (o1 191 al (o1 191 al (o1 191 al (o1 191 al (o1 191 al (o1 191 al (o1 191 al (m3 false vN (cg al) ?_))))))))
            obtain ⟨⟨i0,i1,i2⟩,i3,h⟩:=ob h
            refine cv ([pp g 0,vN]) Tyb59 ((f59_ok k) i3 (hG.mono (((((((d.sub.trans e.sub).trans m).trans u).trans B).trans C).trans ac).trans ah)) (pt ap)) ?_
            rintro _ k3 ⟨i4,rfl,d5⟩
            have i5:=ca d5 ap
            exact wpList_nil (blkN (thenN (⟨_,i4,i0,i1,i2,fR,d5.sub,i5,h⟩)))
          ·refine cF cL (sr (c0 (p == 28) (m2 (.bool (p == 28)) (wt (cd h (fun cM h=>?_) (fun cM h=>?_))))))
           ·refine cT cM (wp_region_lit (m1 (pp g 0) (fd 5 Tyf42_5 rfl (l1 1 (iI c) ap Tya3 (bdv (r:=(c.tmod 4)) rfl rfl (by decide) rfl (c0 (decide ((c.tmod 4) < 3)) ?_))))))
            obtain ⟨⟨i6,i7,i8⟩,i9,h⟩:=ob h
            refine cv ([pp g 0,.bool (decide ((c.tmod 4) < 3))]) Tyb59 ((f59_ok k) i9 (hG.mono (((((((d.sub.trans e.sub).trans m).trans u).trans B).trans C).trans ac).trans ah)) (pt ap)) ?_
            rintro _ k4 ⟨ja,rfl,d6⟩
            have jb:=ca d6 ap
            exact wpList_nil (blkN (thenN (⟨_,ja,i6,i7,i8,fR,d6.sub,jb,h⟩)))
           ·exact cF cM (wp_skip (blkN (thenN (⟨_,bM,b0,b1,b2,fR,kr,ap,h⟩))))
        ·rintro _ k5 ⟨d1,b3,cH,cI,cJ,rfl,au,bw,h⟩
         unfold f90_j7 at h
         refine wp_cut (fun a w=>∃ d7 bD b4 b5 b6,a=fr 307 (updL d7 [(0,pp g 0),(2,iI s),(4,pp (zz wi) 0)])∧KH.sub b3 bD∧SR K bD wi w [.box bs g #[iI af,iI ag,.bool ae] 56] [.box bs g #[iI b4,iI b5,.bool b6] 56,.box (zz wi) (zz wi) (vS p f O A S c J q N U t V W x X Y y Z D l G).toArray 42]∧f90_j8 k F q t x y l s b4 b5 b6=some r_) ?_ ?_
         ·refine wp_region_lit (m1 (pp g 0) (fd 0 Tyf42_0 rfl (l1 1 (iI p) bw Tya3 (c0 (p == 27) (fd 10 Tyf42_10 rfl (l1 1 (sl D l G) bw Tya40 (lS l.length Tye40 (c0 (decide ((l.length:Int) > 0)) (bbo (r:=((p == 27) == (decide ((l.length:Int) > 0)))) Tyo4 rfl rfl rfl (m1 (.bool ((p == 27) == (decide ((l.length:Int) > 0)))) (cd h (fun aS h=>?_) (fun aS h=>?_))))))))))))
          ·refine n1 219 aS (fd 10 Tyf42_10 rfl (n1 219 aS (l1 1 (sl D l G) bw Tya40 (n1 219 aS (lS l.length Tye40 (n1 219 aS (c0 (decide ((l.length:Int) ≤ 4)) (m3 true (.bool (decide ((l.length:Int) ≤ 4))) (cg aS) ?_))))))))
           obtain ⟨⟨jc,jd,je⟩,jf,h⟩:=ob h
           refine cv ([pp g 0,.bool (decide ((l.length:Int) ≤ 4))]) Tyb59 ((f59_ok k) jf (hG.mono ((((((((d.sub.trans e.sub).trans m).trans u).trans B).trans C).trans ac).trans ah).trans au)) (pt bw)) ?_
           rintro _ k6 ⟨jg,rfl,d8⟩
           have jh:=ca d8 bw
           exact wt (⟨_,jg,jc,jd,je,fR,d8.sub,jh,h⟩)
          ·refine o1 219 aS (o1 219 aS (o1 219 aS (o1 219 aS (m3 false vN (cg aS) ?_))))
           obtain ⟨⟨ji,jj,jk⟩,jl,h⟩:=ob h
           refine cv ([pp g 0,vN]) Tyb59 ((f59_ok k) jl (hG.mono ((((((((d.sub.trans e.sub).trans m).trans u).trans B).trans C).trans ac).trans ah).trans au)) (pt bw)) ?_
           rintro _ k7 ⟨jm,rfl,d9⟩
           have jn:=ca d9 bw
           exact wt (⟨_,jm,ji,jj,jk,fR,d9.sub,jn,h⟩)
         ·rintro _ k8 ⟨d7,bD,b4,b5,b6,rfl,aH,jo,h⟩
          unfold f90_j8 at h
          refine wp_cut (fun a w=>∃ ea cN cO cP cQ,a=fr 307 (updL ea [(0,pp g 0),(2,iI s),(4,pp (zz wi) 0)])∧KH.sub bD cN∧SR K cN wi w [.box bs g #[iI af,iI ag,.bool ae] 56] [.box bs g #[iI cO,iI cP,.bool cQ] 56,.box (zz wi) (zz wi) (vS p f O A S c J q N U t V W x X Y y Z D l G).toArray 42]∧f90_j9 k F t x y l s cO cP cQ=some r_) ?_ ?_
          ·refine sr (m2 (iI 0) (wt (wp_block (wp_loopG (fun g_ a w=>∃ ec bN bx,∃ (aM:Nat),∃ bO bP bm,g_=bx.length∧a=fr 307 (updL ec [(0,pp g 0),(2,iI s),(4,pp (zz wi) 0),(8,iI (aM:Int))])∧KH.sub bD bN∧SR K bN wi w [.box bs g #[iI af,iI ag,.bool ae] 56] [.box bs g #[iI bO,iI bP,.bool bm] 56,.box (zz wi) (zz wi) (vS p f O A S c J q N U t V W x X Y y Z D l G).toArray 42]∧q.drop aM=bx∧f90_l2 k F t x y l s bx aM bO bP bm=some r_) q.length ?_ ?_))))
           ·exact ⟨_,bD,q,0,b4,b5,b6,rfl,fR,kr,jo,List.drop_zero,h⟩
           ·rintro _ _ k9 ⟨ec,bN,bx,aM,bO,bP,bm,rfl,rfl,bE,bg,bF,h⟩
            rcases bx with _ | ⟨⟨ed,ee,ef,eg,eh⟩,bx⟩
            ·unfold f90_l2 at h
             exact wp_seq (sr (m1 (iI (aM:Int)) (fd 6 Tyf42_6 rfl (l1 1 (sl J q N) bg Tya39 (lS q.length Tye39 (bcm (r:=false) rfl rfl (congrArg some (drop_nil_lt bF)) (m1 vN (o0 231 (o0 231 (o0 231 (o0 231 (o0 231 (m3 false vN rfl (wt (cndF rfl (wp_exit (thenX (thenX (blkX (thenN (⟨_,bN,bO,bP,bm,fR,bE,bg,h⟩)))))))))))))))))))))
            ·unfold f90_l2 at h
             refine wp_seq (sr (m1 (iI (aM:Int)) (fd 6 Tyf42_6 rfl (l1 1 (sl J q N) bg Tya39 (lS q.length Tye39 (bcm (r:=true) rfl rfl (congrArg some (drop_cons_t bF)) (m1 vT (n0 231 (m1 (pp g 0) (n0 231 (nilc rfl (n0 231 (fd 2 Tyf56_2 rfl (n0 231 (l1 0 (.bool bm) bg Tya4 (n0 231 (uN bm (m3 true (.bool (!bm)) rfl (wt (cd h (fun cR h=>?_) (fun cR h=>?_)))))))))))))))))))))
             ·refine cT cR (wp_skip (thenN (wp_seq (wp_block (wp_region_lit (m1 (pp g 0) (fd 6 Tyf42_6 rfl (l1 1 (sl J q N) bg Tya39 (m1 (iI (aM:Int)) ?_)))))))))
              obtain ⟨jp,jq,la,jr,lc,js,ei⟩:=((me c2 ((((((((((d.sub.trans e.sub).trans m).trans u).trans B).trans C).trans ac).trans ah).trans au).trans aH).trans bE))).row.at_ (drop_cons_at bF)
              obtain ⟨ej,ek,rfl,ld,lf⟩:=RDExpr.open ei
              refine idxN (b:=jp) (o:=jq) (i:=aM) Tye39 Tys107 rfl jr rfl (drop_cons_lt bF) (lD (vE ed ee ef eg ej eh ek) Tya107 Tys107 rfl (fun j v hj=>bg.cell (kr.cell (js j v hj))) (m1 (iI s) (bar (r:=(w64 (s + 1))) rfl rfl rfl ?_)))
              obtain ⟨⟨jt,ju,jv⟩,jw,h⟩:=ob h
              refine cv ([pp g 0,.agg (vE ed ee ef eg ej eh ek).toArray,iI (w64 (s + 1)),vN]) Tyb110 ((f110_ok k) jw (hG.mono ((((((((((d.sub.trans e.sub).trans m).trans u).trans B).trans C).trans ac).trans ah).trans au).trans aH).trans bE)) ei (pt bg)) ?_
              rintro _ lg ⟨jx,rfl,el⟩
              have jy:=ca el bg
              exact wpList_nil (blkN (thenN (wp_region_lit (m1 (iI (aM:Int)) (bar (r:=((aM + 1:Nat):Int)) rfl rfl (inc_ok (le_big (((me c2 ((((((((((d.sub.trans e.sub).trans m).trans u).trans B).trans C).trans ac).trans ah).trans au).trans aH).trans bE))).len) (by decide) (drop_cons_lt bF))) (m2 (iI ((aM + 1:Nat):Int)) (wt (⟨_,Nat.lt_succ_self _,_,jx,bx,aM + 1,jt,ju,jv,rfl,fR,(bE.trans el.sub),jy,drop_cons_next bF,h⟩))))))))
             ·exact cF cR (wp_exit (thenX (thenX (blkX (thenN (⟨_,bN,bO,bP,bm,fR,bE,bg,h⟩))))))
          ·rintro _ lh ⟨ea,cN,cO,cP,cQ,rfl,aT,cS,h⟩
           unfold f90_j9 at h
           refine sr (m1 (pp g 0) (fd 7 Tyf42_7 rfl (l1 1 (sl U t V) cS Tya36 (m1 (iI s) (bar (r:=(w64 (s + 1))) rfl rfl rfl ?_)))))
           obtain ⟨⟨li,lj,lk⟩,jz,h⟩:=ob h
           refine cv ([pp g 0,sl U t V,iI (w64 (s + 1))]) Tyb61 (IH61 jz (hG.mono ((((((((((d.sub.trans e.sub).trans m).trans u).trans B).trans C).trans ac).trans ah).trans au).trans aH).trans aT)) (ms eJ ((((((((((d.sub.trans e.sub).trans m).trans u).trans B).trans C).trans ac).trans ah).trans au).trans aH).trans aT)) (pt cS)) ?_
           rintro _ ll ⟨lm,rfl,aW⟩
           have cU:=ca aW cS
           refine wt (sr (m1 (pp g 0) (fd 8 Tyf42_8 rfl (l1 1 (sl W x X) cU Tya36 (m1 (iI s) (bar (r:=(w64 (s + 1))) rfl rfl rfl ?_))))))
           obtain ⟨⟨ln,lo,lp⟩,jA,h⟩:=ob h
           refine cv ([pp g 0,sl W x X,iI (w64 (s + 1))]) Tyb61 (IH61 jA (hG.mono (((((((((((d.sub.trans e.sub).trans m).trans u).trans B).trans C).trans ac).trans ah).trans au).trans aH).trans aT).trans aW.sub)) (ms eK (((((((((((d.sub.trans e.sub).trans m).trans u).trans B).trans C).trans ac).trans ah).trans au).trans aH).trans aT).trans aW.sub)) (pt cU)) ?_
           rintro _ lq ⟨lr,rfl,bn⟩
           have cV:=ca bn cU
           refine wt (sr (m1 (pp g 0) (fd 9 Tyf42_9 rfl (l1 1 (sl Y y Z) cV Tya36 (m1 (iI s) (bar (r:=(w64 (s + 1))) rfl rfl rfl ?_))))))
           obtain ⟨⟨jB,jC,jD⟩,jE,h⟩:=ob h
           refine cv ([pp g 0,sl Y y Z,iI (w64 (s + 1))]) Tyb61 (IH61 jE (hG.mono ((((((((((((d.sub.trans e.sub).trans m).trans u).trans B).trans C).trans ac).trans ah).trans au).trans aH).trans aT).trans aW.sub).trans bn.sub)) (ms eL ((((((((((((d.sub.trans e.sub).trans m).trans u).trans B).trans C).trans ac).trans ah).trans au).trans aH).trans aT).trans aW.sub).trans bn.sub)) (pt cV)) ?_
           rintro _ ls ⟨em,rfl,bG⟩
           have jF:=ca bG cV
           refine wt (sr (m2 (iI 0) (wt (wp_block (wp_loopG (fun g_ a w=>∃ en bH bo,∃ (ai:Nat),∃ cW cX bI,g_=bo.length∧a=fr 307 (updL en [(0,pp g 0),(2,iI s),(4,pp (zz wi) 0),(9,iI (ai:Int))])∧KH.sub em bH∧SR K bH wi w [.box bs g #[iI af,iI ag,.bool ae] 56] [.box bs g #[iI cW,iI cX,.bool bI] 56,.box (zz wi) (zz wi) (vS p f O A S c J q N U t V W x X Y y Z D l G).toArray 42]∧l.drop ai=bo∧f90_l1 k F l s bo ai cW cX bI=some r_) l.length ?_ ?_)))))
           ·exact ⟨_,em,l,0,jB,jC,jD,rfl,fR,kr,jF,List.drop_zero,h⟩
           ·rintro _ _ lu ⟨en,bH,bo,ai,cW,cX,bI,rfl,rfl,bJ,bh,bz,h⟩
            rcases bo with _ | ⟨⟨bQ,eo,ep,eq,es⟩,bo⟩
            ·unfold f90_l1 at h
             refine wp_seq (sr (m1 (iI (ai:Int)) (fd 10 Tyf42_10 rfl (l1 1 (sl D l G) bh Tya40 (lS l.length Tye40 (bcm (r:=false) rfl rfl (congrArg some (drop_nil_lt bz)) (m1 vN (o0 272 (o0 272 (o0 272 (o0 272 (o0 272 (m3 false vN rfl (wt (cndF rfl (wp_exit (thenX (thenX (blkX ?_)))))))))))))))))))
             cases (oi h).trans hr_
             exact end0 rfl ⟨bH,rfl,(bh.sel [0])⟩
            ·unfold f90_l1 at h
             refine wp_seq (sr (m1 (iI (ai:Int)) (fd 10 Tyf42_10 rfl (l1 1 (sl D l G) bh Tya40 (lS l.length Tye40 (bcm (r:=true) rfl rfl (congrArg some (drop_cons_t bz)) (m1 vT (n0 272 (m1 (pp g 0) (n0 272 (nilc rfl (n0 272 (fd 2 Tyf56_2 rfl (n0 272 (l1 0 (.bool bI) bh Tya4 (n0 272 (uN bI (m3 true (.bool (!bI)) rfl (wt (cd h (fun cY h=>?_) (fun cY h=>?_)))))))))))))))))))))
             ·refine cT cY (wp_skip (thenN (wp_cut (fun a w=>∃ et b7 b8 b9 cb,a=fr 307 (updL et [(0,pp g 0),(2,iI s),(4,pp (zz wi) 0),(9,iI (ai:Int))])∧KH.sub bH b7∧SR K b7 wi w [.box bs g #[iI af,iI ag,.bool ae] 56] [.box bs g #[iI b8,iI b9,.bool cb] 56,.box (zz wi) (zz wi) (vS p f O A S c J q N U t V W x X Y y Z D l G).toArray 42]∧f90_j10 k F ai b8 b9 cb (f90_l1 k F l s bo)=some r_) ?_ ?_)))
              ·refine wp_block (sr (m1 (pp g 0) (fd 10 Tyf42_10 rfl (l1 1 (sl D l G) bh Tya40 (m1 (iI (ai:Int)) ?_)))))
               obtain ⟨eu,cZ,lv,ew,lw,ex,ey⟩:=((mc c4 ((((((((((((((d.sub.trans e.sub).trans m).trans u).trans B).trans C).trans ac).trans ah).trans au).trans aH).trans aT).trans aW.sub).trans bn.sub).trans bG.sub).trans bJ))).row.at_ (drop_cons_at bz)
               obtain ⟨ez,eA,eB,eC,rfl,lx,ly,lz⟩:=RDCase.open ey
               refine idxN (b:=eu) (o:=cZ) (i:=ai) Tye40 Tys87 rfl ew rfl (drop_cons_lt bz) (lD (vC bQ eo ep ez eq eA eB es eC) Tya87 Tys87 rfl (fun j v hj=>bh.cell (kr.cell (ex j v hj))) (m1 (iI s) (bar (r:=(w64 (s + 1))) rfl rfl rfl ?_)))
               obtain ⟨⟨lA,lB,lC⟩,jG,h⟩:=ob h
               refine cv ([pp g 0,.agg (vC bQ eo ep ez eq eA eB es eC).toArray,iI (w64 (s + 1))]) Tyb111 (IH111 jG (hG.mono ((((((((((((((d.sub.trans e.sub).trans m).trans u).trans B).trans C).trans ac).trans ah).trans au).trans aH).trans aT).trans aW.sub).trans bn.sub).trans bG.sub).trans bJ)) ey (pt bh)) ?_
               rintro _ lE ⟨lF,rfl,bK⟩
               have bA:=ca bK bh
               refine wt (wp_region_lit (m1 (pp g 0) (fd 10 Tyf42_10 rfl (l1 1 (sl D l G) bA Tya40 (m1 (iI (ai:Int)) (idxN (b:=eu) (o:=cZ) (i:=ai) Tye40 Tys87 rfl ew rfl (drop_cons_lt bz) (fd (cZ + ai * 5 + 0) Tyf87_0 rfl (ld1 (v:=iI bQ) Tya3 rfl (bA.cell (bK.sub.cell (ex 0 _ rfl))) (c0 (bQ != 4) (m1 (.bool (bQ != 4)) (cd h (fun aG h=>?_) (fun aG h=>?_))))))))))))
               ·refine o1 298 aG (o1 298 aG (o1 298 aG (o1 298 aG (o1 298 aG (o1 298 aG (m3 true vT (cg aG) ?_))))))
                obtain ⟨⟨jH,jI,jJ⟩,jK,h⟩:=ob h
                refine cv ([pp g 0,vT]) Tyb59 ((f59_ok k) jK (hG.mono (((((((((((((((d.sub.trans e.sub).trans m).trans u).trans B).trans C).trans ac).trans ah).trans au).trans aH).trans aT).trans aW.sub).trans bn.sub).trans bG.sub).trans bJ).trans bK.sub)) (pt bA)) ?_
                rintro _ lG ⟨jL,rfl,eD⟩
                have jM:=ca eD bA
                exact wpList_nil (blkN (thenN (⟨_,jL,jH,jI,jJ,fR,(bK.sub.trans eD.sub),jM,h⟩)))
               ·refine n1 298 aG (m1 (iI (ai:Int)) (n1 298 aG (fd 10 Tyf42_10 rfl (n1 298 aG (l1 1 (sl D l G) bA Tya40 (n1 298 aG (lS l.length Tye40 (n1 298 aG (bar (r:=(w64 ((l.length:Int) - 1))) rfl rfl rfl (n1 298 aG (c0 ((ai:Int) == (w64 ((l.length:Int) - 1))) (m3 false (.bool ((ai:Int) == (w64 ((l.length:Int) - 1)))) (cg aG) ?_))))))))))))
                obtain ⟨⟨jN,jO,jP⟩,jQ,h⟩:=ob h
                refine cv ([pp g 0,.bool ((ai:Int) == (w64 ((l.length:Int) - 1)))]) Tyb59 ((f59_ok k) jQ (hG.mono (((((((((((((((d.sub.trans e.sub).trans m).trans u).trans B).trans C).trans ac).trans ah).trans au).trans aH).trans aT).trans aW.sub).trans bn.sub).trans bG.sub).trans bJ).trans bK.sub)) (pt bA)) ?_
                rintro _ lH ⟨jR,rfl,eE⟩
                have jS:=ca eE bA
                exact wpList_nil (blkN (thenN (⟨_,jR,jN,jO,jP,fR,(bK.sub.trans eE.sub),jS,h⟩)))
              ·rintro _ lI ⟨et,b7,b8,b9,cb,rfl,jT,jU,h⟩
               unfold f90_j10 at h
               exact wp_region_lit (m1 (iI (ai:Int)) (bar (r:=((ai + 1:Nat):Int)) rfl rfl (inc_ok (le_big (((mc c4 ((((((((((((((d.sub.trans e.sub).trans m).trans u).trans B).trans C).trans ac).trans ah).trans au).trans aH).trans aT).trans aW.sub).trans bn.sub).trans bG.sub).trans bJ))).len) (by decide) (drop_cons_lt bz))) (m2 (iI ((ai + 1:Nat):Int)) (wt (⟨_,Nat.lt_succ_self _,_,b7,bo,ai + 1,b8,b9,cb,rfl,fR,(bJ.trans jT),jU,drop_cons_next bz,h⟩)))))
             ·refine cF cY (wp_exit (thenX (thenX (blkX ?_))))
              cases (oi h).trans hr_
              exact end0 rfl ⟨bH,rfl,(bh.sel [0])⟩
theorem f111_b_ok (k:Nat) (F:Fam61) (IH61:f61_spec F.f61) (IH90:f90_spec F.f90) (IH111:f111_spec F.f111):f111_spec (f111_b k F):=by
 unfold f111_spec
 intro K wi g bs V W X bb cC f cD cG cH h hG bd be
 obtain ⟨r_,hr_,h⟩:=rz h
 obtain ⟨c,e,s,d,p⟩:=bb
 obtain ⟨x,y,B,C,rfl,bf,aB,bg⟩:=RDCase.open bd
 refine enter Tryz.func111 rfl (n:=88) rfl ?_
 unfold f111_b at h
 refine sr (bxoC (cs:=(vC c e s x d y B p C).toArray) be rfl rfl (fun bh bi=>(wt (sr (m1 (pp g 0) (m1 (iI f) ?_))))))
 have aE:=p10 bi
 obtain ⟨⟨aF,aG,aH⟩,bj,h⟩:=ob h
 refine cv ([pp g 0,iI f]) Tyb60 ((f60_ok k) bj (hG.mono kr) (pt aE)) ?_
 rintro _ cI ⟨aI,rfl,l⟩
 have aj:=ca l aE
 refine wt (sr (m2 (iI 1) (wt (wp_cut (fun a w=>∃ aJ Y,a=fr 88 (updL aJ [(0,pp g 0),(2,iI f),(4,pp (zz wi) 0),(6,iI Y)])∧SR K aI wi w [.box bs g #[iI V,iI W,.bool X] 56] [.box bs g #[iI aF,iI aG,.bool aH] 56,.box (zz wi) (zz wi) (vC c e s x d y B p C).toArray 87]∧f111_j1 k F c e s d p f aF aG aH Y=some r_) ?_ ?_))))
 ·refine sr (fd 0 Tyf87_0 rfl (l1 1 (iI c) aj Tya3 (wt (wp_block (sr (c0 (c == 2) (m2 (.bool (c == 2)) (wt (cd h (fun ao h=>?_) (fun ao h=>?_))))))))))
  ·exact cT ao (wp_region_lit (m2 (iI 2) (wpList_nil (blkN (thenN (⟨_,2,fR,aj,h⟩))))))
  ·refine cF ao (sr (c0 (c == 4) (m2 (.bool (c == 4)) (wt (cd h (fun ap h=>?_) (fun ap h=>?_))))))
   ·exact cT ap (wp_region_lit (m2 (iI 0) (wpList_nil (blkN (thenN (⟨_,0,fR,aj,h⟩))))))
   ·exact cF ap (wp_skip (blkN (thenN (⟨_,1,fR,aj,h⟩))))
 ·rintro _ cJ ⟨aJ,Y,rfl,t,h⟩
  unfold f111_j1 at h
  refine wp_cut (fun a w=>∃ aK ak aq ar au,a=fr 88 (updL aK [(0,pp g 0),(2,iI f),(4,pp (zz wi) 0)])∧KH.sub aI ak∧SR K ak wi w [.box bs g #[iI V,iI W,.bool X] 56] [.box bs g #[iI aq,iI ar,.bool au] 56,.box (zz wi) (zz wi) (vC c e s x d y B p C).toArray 87]∧f111_j2 k F c e d p f aq ar au=some r_) ?_ ?_
  ·refine wp_region_lit (m1 (pp g 0) (fd 0 Tyf87_0 rfl (l1 1 (iI c) t Tya3 (c0 (decide (c ≥ 1)) (m1 (.bool (decide (c ≥ 1))) (cd h (fun D h=>?_) (fun D h=>?_)))))))
   ·refine n1 21 D (fd 0 Tyf87_0 rfl (n1 21 D (l1 1 (iI c) t Tya3 (n1 21 D (c0 (decide (c ≤ 4)) (m3 true (.bool (decide (c ≤ 4))) (cg D) (m1 (.bool (decide (c ≤ 4))) (cd h (fun q h=>?_) (fun q h=>?_)))))))))
    ·refine n1 26 q (fd 3 Tyf87_3 rfl (n1 26 q (l1 1 (sl x d y) t Tya39 (n1 26 q (lS d.length Tye39 (n1 26 q (m1 (iI Y) (n1 26 q (c0 ((d.length:Int) == Y) (m3 true (.bool ((d.length:Int) == Y)) (cg q) (m1 (.bool ((d.length:Int) == Y)) (cd h (fun G h=>?_) (fun G h=>?_)))))))))))))
     ·refine n1 33 G (fd 2 Tyf87_2 rfl (n1 33 G (l1 1 (iI s) t Tya3 (n1 33 G (c0 (s == 0) (m3 true (.bool (s == 0)) (cg G) ?_))))))
      obtain ⟨⟨bk,bm,bn⟩,bo,h⟩:=ob h
      refine cv ([pp g 0,.bool (s == 0)]) Tyb59 ((f59_ok k) bo (hG.mono l.sub) (pt t)) ?_
      rintro _ cK ⟨bp,rfl,aL⟩
      have bq:=ca aL t
      exact wt (⟨_,bp,bk,bm,bn,fR,aL.sub,bq,h⟩)
     ·refine o1 33 G (o1 33 G (o1 33 G (m3 false vN (cg G) ?_)))
      obtain ⟨⟨br,bu,bv⟩,bw,h⟩:=ob h
      refine cv ([pp g 0,vN]) Tyb59 ((f59_ok k) bw (hG.mono l.sub) (pt t)) ?_
      rintro _ cL ⟨bx,rfl,aM⟩
      have bz:=ca aM t
      exact wt (⟨_,bx,br,bu,bv,fR,aM.sub,bz,h⟩)
    ·refine o1 26 q (o1 26 q (o1 26 q (o1 26 q (o1 26 q (m3 false vN (cg q) (m1 vN (o0 33 (o0 33 (o0 33 (m3 false vN rfl ?_))))))))))
     obtain ⟨⟨bA,bB,bC⟩,bD,h⟩:=ob h
     refine cv ([pp g 0,vN]) Tyb59 ((f59_ok k) bD (hG.mono l.sub) (pt t)) ?_
     rintro _ cM ⟨bE,rfl,aN⟩
     have bF:=ca aN t
     exact wt (⟨_,bE,bA,bB,bC,fR,aN.sub,bF,h⟩)
   ·refine o1 21 D (o1 21 D (o1 21 D (m3 false vN (cg D) (m1 vN (o0 26 (o0 26 (o0 26 (o0 26 (o0 26 (m3 false vN rfl (m1 vN (o0 33 (o0 33 (o0 33 (m3 false vN rfl ?_)))))))))))))))
    obtain ⟨⟨bG,bH,bI⟩,bJ,h⟩:=ob h
    refine cv ([pp g 0,vN]) Tyb59 ((f59_ok k) bJ (hG.mono l.sub) (pt t)) ?_
    rintro _ cN ⟨bK,rfl,aP⟩
    have bL:=ca aP t
    exact wt (⟨_,bK,bG,bH,bI,fR,aP.sub,bL,h⟩)
  ·rintro _ cO ⟨aK,ak,aq,ar,au,rfl,z,A,h⟩
   unfold f111_j2 at h
   refine wp_cut (fun a w=>∃ aQ ac al am an,a=fr 88 (updL aQ [(0,pp g 0),(2,iI f),(4,pp (zz wi) 0)])∧KH.sub ak ac∧SR K ac wi w [.box bs g #[iI V,iI W,.bool X] 56] [.box bs g #[iI al,iI am,.bool an] 56,.box (zz wi) (zz wi) (vC c e s x d y B p C).toArray 87]∧f111_j3 k F d p f al am an=some r_) ?_ ?_
   ·refine wp_region_lit (m1 (pp g 0) (fd 0 Tyf87_0 rfl (l1 1 (iI c) A Tya3 (c0 (c == 1) (m1 (.bool (c == 1)) (cd h (fun I h=>?_) (fun I h=>?_)))))))
    ·refine n1 43 I (fd 1 Tyf87_1 rfl (n1 43 I (l1 1 (.string e) A Tya9 (n1 43 I ?_))))
     obtain ⟨aR,bM,h⟩:=ob h
     refine cv ([.string e]) Tyb34 ((f34_ok k) bM (hG.mono (l.sub.trans z)) bf (pt A)) ?_
     rintro _ cP ⟨cQ,rfl,Z⟩
     have S:=ca Z A
     refine m3 true (.bool aR) (cg I) (m1 (.bool aR) (cd h (fun m h=>?_) (fun m h=>?_)))
     ·refine o1 48 m (o1 48 m (o1 48 m (o1 48 m (ou 52 (ou 52 (ou 52 (o1 48 m (m3 true vT (cg m) ?_))))))))
      obtain ⟨⟨bN,bO,bP⟩,bQ,h⟩:=ob h
      refine cv ([pp g 0,vT]) Tyb59 ((f59_ok k) bQ (hG.mono ((l.sub.trans z).trans Z.sub)) (pt S)) ?_
      rintro _ cR ⟨bR,rfl,aS⟩
      have bS:=ca aS S
      exact wt (⟨_,bR,bN,bO,bP,fR,(Z.sub.trans aS.sub),bS,h⟩)
     ·refine n1 48 m (fd 0 Tyf87_0 rfl (n1 48 m (l1 1 (iI c) S Tya3 (n1 48 m (c0 (c != 1) (n1 48 m (m1 (.bool (c != 1)) (cd h (fun J h=>?_) (fun J h=>?_)))))))))
      ·refine n1 52 J (fd 1 Tyf87_1 rfl (n1 52 J (l1 1 (.string e) S Tya9 (n1 52 J (bsc (r:=(seq e ⟨#[]⟩)) rfl rfl rfl (n1 48 m (m3 true (.bool (seq e ⟨#[]⟩)) (cg J) (m3 false (.bool (seq e ⟨#[]⟩)) (cg m) ?_))))))))
       obtain ⟨⟨bT,bU,bV⟩,bW,h⟩:=ob h
       refine cv ([pp g 0,.bool (seq e ⟨#[]⟩)]) Tyb59 ((f59_ok k) bW (hG.mono ((l.sub.trans z).trans Z.sub)) (pt S)) ?_
       rintro _ cS ⟨bX,rfl,aT⟩
       have bY:=ca aT S
       exact wt (⟨_,bX,bT,bU,bV,fR,(Z.sub.trans aT.sub),bY,h⟩)
      ·refine o1 52 J (o1 52 J (o1 52 J (n1 48 m (m3 false vN (cg J) (m3 false vN (cg m) ?_)))))
       obtain ⟨⟨bZ,b0,b1⟩,b2,h⟩:=ob h
       refine cv ([pp g 0,vN]) Tyb59 ((f59_ok k) b2 (hG.mono ((l.sub.trans z).trans Z.sub)) (pt S)) ?_
       rintro _ cU ⟨b3,rfl,aU⟩
       have b4:=ca aU S
       exact wt (⟨_,b3,bZ,b0,b1,fR,(Z.sub.trans aU.sub),b4,h⟩)
    ·refine o1 43 I (o1 43 I (o1 43 I (m3 false vN (cg I) (m1 vN (n0 48 (fd 0 Tyf87_0 rfl (n0 48 (l1 1 (iI c) A Tya3 (n0 48 (c0 (c != 1) (n0 48 (m1 (.bool (c != 1)) (cd h (fun N h=>?_) (fun N h=>?_))))))))))))))
     ·refine n1 52 N (fd 1 Tyf87_1 rfl (n1 52 N (l1 1 (.string e) A Tya9 (n1 52 N (bsc (r:=(seq e ⟨#[]⟩)) rfl rfl rfl (n0 48 (m3 true (.bool (seq e ⟨#[]⟩)) (cg N) (m3 false (.bool (seq e ⟨#[]⟩)) rfl ?_))))))))
      obtain ⟨⟨b5,b6,b7⟩,b8,h⟩:=ob h
      refine cv ([pp g 0,.bool (seq e ⟨#[]⟩)]) Tyb59 ((f59_ok k) b8 (hG.mono (l.sub.trans z)) (pt A)) ?_
      rintro _ cV ⟨b9,rfl,aV⟩
      have cb:=ca aV A
      exact wt (⟨_,b9,b5,b6,b7,fR,aV.sub,cb,h⟩)
     ·refine o1 52 N (o1 52 N (o1 52 N (n0 48 (m3 false vN (cg N) (m3 false vN rfl ?_)))))
      obtain ⟨⟨cc,ce,cf⟩,ch,h⟩:=ob h
      refine cv ([pp g 0,vN]) Tyb59 ((f59_ok k) ch (hG.mono (l.sub.trans z)) (pt A)) ?_
      rintro _ cW ⟨ci,rfl,aW⟩
      have cj:=ca aW A
      exact wt (⟨_,ci,cc,ce,cf,fR,aW.sub,cj,h⟩)
   ·rintro _ cX ⟨aQ,ac,al,am,an,rfl,af,ck,h⟩
    unfold f111_j3 at h
    refine wp_cut (fun a w=>∃ aX av aw ax ay,a=fr 88 (updL aX [(0,pp g 0),(2,iI f),(4,pp (zz wi) 0)])∧KH.sub ac av∧SR K av wi w [.box bs g #[iI V,iI W,.bool X] 56] [.box bs g #[iI aw,iI ax,.bool ay] 56,.box (zz wi) (zz wi) (vC c e s x d y B p C).toArray 87]∧f111_j4 k F p f aw ax ay=some r_) ?_ ?_
    ·refine sr (m2 (iI 0) (wt (wp_block (wp_loopG (fun g_ a w=>∃ aY ag ab,∃ (u:Nat),∃ ah ai U,g_=ab.length∧a=fr 88 (updL aY [(0,pp g 0),(2,iI f),(4,pp (zz wi) 0),(7,iI (u:Int))])∧KH.sub ac ag∧SR K ag wi w [.box bs g #[iI V,iI W,.bool X] 56] [.box bs g #[iI ah,iI ai,.bool U] 56,.box (zz wi) (zz wi) (vC c e s x d y B p C).toArray 87]∧d.drop u=ab∧f111_l1 k F p f ab u ah ai U=some r_) d.length ?_ ?_))))
     ·exact ⟨_,ac,d,0,al,am,an,rfl,fR,kr,ck,List.drop_zero,h⟩
     ·rintro _ _ cY ⟨aY,ag,ab,u,ah,ai,U,rfl,rfl,ad,O,ae,h⟩
      rcases ab with _ | ⟨⟨aZ,a0,a3,a4,a5⟩,ab⟩
      ·unfold f111_l1 at h
       exact wp_seq (sr (m1 (iI (u:Int)) (fd 3 Tyf87_3 rfl (l1 1 (sl x d y) O Tya39 (lS d.length Tye39 (bcm (r:=false) rfl rfl (congrArg some (drop_nil_lt ae)) (m1 vN (o0 64 (o0 64 (o0 64 (o0 64 (o0 64 (m3 false vN rfl (wt (cndF rfl (wp_exit (thenX (thenX (blkX (thenN (⟨_,ag,ah,ai,U,fR,ad,O,h⟩)))))))))))))))))))))
      ·unfold f111_l1 at h
       refine wp_seq (sr (m1 (iI (u:Int)) (fd 3 Tyf87_3 rfl (l1 1 (sl x d y) O Tya39 (lS d.length Tye39 (bcm (r:=true) rfl rfl (congrArg some (drop_cons_t ae)) (m1 vT (n0 64 (m1 (pp g 0) (n0 64 (nilc rfl (n0 64 (fd 2 Tyf56_2 rfl (n0 64 (l1 0 (.bool U) O Tya4 (n0 64 (uN U (m3 true (.bool (!U)) rfl (wt (cd h (fun az h=>?_) (fun az h=>?_)))))))))))))))))))))
       ·refine cT az (wp_skip (thenN (wp_seq (wp_block (wp_region_lit (m1 (pp g 0) (fd 3 Tyf87_3 rfl (l1 1 (sl x d y) O Tya39 (m1 (iI (u:Int)) ?_)))))))))
        obtain ⟨cl,cm,cZ,cn,c3,co,a6⟩:=((me aB (((l.sub.trans z).trans af).trans ad))).row.at_ (drop_cons_at ae)
        obtain ⟨a7,a8,rfl,c4,c6⟩:=RDExpr.open a6
        refine idxN (b:=cl) (o:=cm) (i:=u) Tye39 Tys107 rfl cn rfl (drop_cons_lt ae) (lD (vE aZ a0 a3 a4 a7 a5 a8) Tya107 Tys107 rfl (fun j v hj=>O.cell (kr.cell (co j v hj))) (m1 (iI f) (bar (r:=(w64 (f + 1))) rfl rfl rfl ?_)))
        obtain ⟨⟨cq,cr,ct⟩,cu,h⟩:=ob h
        refine cv ([pp g 0,.agg (vE aZ a0 a3 a4 a7 a5 a8).toArray,iI (w64 (f + 1)),vN]) Tyb110 ((f110_ok k) cu (hG.mono (((l.sub.trans z).trans af).trans ad)) a6 (pt O)) ?_
        rintro _ c7 ⟨cw,rfl,a9⟩
        have cx:=ca a9 O
        exact wpList_nil (blkN (thenN (wp_region_lit (m1 (iI (u:Int)) (bar (r:=((u + 1:Nat):Int)) rfl rfl (inc_ok (le_big (((me aB (((l.sub.trans z).trans af).trans ad))).len) (by decide) (drop_cons_lt ae))) (m2 (iI ((u + 1:Nat):Int)) (wt (⟨_,Nat.lt_succ_self _,_,cw,ab,u + 1,cq,cr,ct,rfl,fR,(ad.trans a9.sub),cx,drop_cons_next ae,h⟩))))))))
       ·exact cF az (wp_exit (thenX (thenX (blkX (thenN (⟨_,ag,ah,ai,U,fR,ad,O,h⟩))))))
    ·rintro _ c8 ⟨aX,av,aw,ax,ay,rfl,ba,aA,h⟩
     unfold f111_j4 at h
     refine wp_region_lit (m1 (pp g 0) (fd 4 Tyf87_4 rfl (l1 1 (sl B p C) aA Tya36 (m1 (iI f) (bar (r:=(w64 (f + 1))) rfl rfl rfl ?_)))))
     obtain ⟨⟨c9,da,db⟩,cy,h⟩:=ob h
     refine cv ([pp g 0,sl B p C,iI (w64 (f + 1))]) Tyb61 (IH61 cy (hG.mono (((l.sub.trans z).trans af).trans ba)) (ms bg (((l.sub.trans z).trans af).trans ba)) (pt aA)) ?_
     rintro _ dc ⟨cz,rfl,cA⟩
     have cB:=ca cA aA
     refine wpList_nil ?_
     cases (oi h).trans hr_
     exact end0 rfl ⟨cz,rfl,(cB.sel [0])⟩
theorem fam61_ok (k0:Nat) : ∀ k,f61_spec (fam61 k0 k).f61∧f90_spec (fam61 k0 k).f90∧f111_spec (fam61 k0 k).f111:=by
 intro k
 induction k with
 | zero=>exact ⟨(by unfold f61_spec; intro _ _ _ _ _ _ _ _ _ _ _ _ _ _ h_; cases h_),(by unfold f90_spec; intro _ _ _ _ _ _ _ _ _ _ _ _ _ h_; cases h_),(by unfold f111_spec; intro _ _ _ _ _ _ _ _ _ _ _ _ _ h_; cases h_)⟩
 | succ k ih=>exact ⟨f61_b_ok k0 (fam61 k0 k) ih.1 ih.2.1 ih.2.2,f90_b_ok k0 (fam61 k0 k) ih.1 ih.2.1 ih.2.2,f111_b_ok k0 (fam61 k0 k) ih.1 ih.2.1 ih.2.2⟩
theorem f61_ok (k:Nat):f61_spec (f61 k):=(fam61_ok k k).1
theorem f90_ok (k:Nat):f90_spec (f90 k):=(fam61_ok k k).2.1
theorem f111_ok (k:Nat):f111_spec (f111 k):=(fam61_ok k k).2.2
theorem f32_b_ok (k:Nat):f32_spec (f32_b k):=by
 unfold f32_spec
 intro K wi bF dz dA h hG bG bH
 obtain ⟨r_,hr_,h⟩:=rz h
 obtain ⟨d⟩:=bF
 obtain ⟨A,c1,rfl,a6⟩:=RDProgram.open bG
 refine enter Tryz.func32 rfl (n:=126) rfl ?_
 unfold f32_b at h
 refine sr (bxoC (cs:=#[sl A d c1]) bH rfl rfl (fun s bI=>(aC #[iI 0,iI 0,vN] bI Tyz56 (fun c bJ=>(wt (sr (bld (cells:=#[iI 0,iI 0,vN]) (vs:=[]) rfl (fun w=>by kernel_rfl) (bxoC (cs:=#[iI 0,iI 0,vN]) bJ rfl rfl (fun dB av=>(m2 (pp (zz c) 0) (wt (wp_cut (fun a w=>∃ a7 aw aG aH aI,a=fr 126 (updL a7 [(1,pp (zz wi) 0),(2,pp (zz s) 0),(3,pp (zz c) 0)])∧KH.sub K aw∧SR K aw wi w [] [.box (zz wi) (zz wi) #[sl A d c1] 24,.box (zz wi) (zz s) #[iI 0,iI 0,vN] 56,.box (zz wi) (zz c) #[iI aG,iI aH,.bool aI] 56]∧f32_j1 k d aG aH aI=some r_) ?_ ?_))))))))))))
 ·refine wp_region_lit (m1 (pp (zz c) 0) (fd 0 Tyf24_0 rfl (l1 2 (sl A d c1) av Tya22 (lS d.length Tye22 (c0 (decide ((d.length:Int) ≥ 1)) (m1 (.bool (decide ((d.length:Int) ≥ 1))) (cd h (fun V h=>?_) (fun V h=>?_))))))))
  ·refine n1 14 V (fd 0 Tyf24_0 rfl (n1 14 V (l1 2 (sl A d c1) av Tya22 (n1 14 V (lS d.length Tye22 (n1 14 V (c0 (decide ((d.length:Int) ≤ 16)) (m3 true (.bool (decide ((d.length:Int) ≤ 16))) (cg V) ?_))))))))
   obtain ⟨⟨bK,bL,bM⟩,bN,h⟩:=ob h
   refine cv ([pp (zz c) 0,.bool (decide ((d.length:Int) ≤ 16))]) Tyb59 ((f59_ok k) bN (hG.mono kr) (pt av)) ?_
   rintro _ dC ⟨bO,rfl,a8⟩
   have bP:=ca a8 av
   exact wt (⟨_,bO,bK,bL,bM,fR,a8.sub,(bP.sel [2,1,0]),h⟩)
  ·refine o1 14 V (o1 14 V (o1 14 V (o1 14 V (m3 false vN (cg V) ?_))))
   obtain ⟨⟨bQ,bR,bS⟩,bT,h⟩:=ob h
   refine cv ([pp (zz c) 0,vN]) Tyb59 ((f59_ok k) bT (hG.mono kr) (pt av)) ?_
   rintro _ dD ⟨bU,rfl,a9⟩
   have bV:=ca a9 av
   exact wt (⟨_,bU,bQ,bR,bS,fR,a9.sub,(bV.sel [2,1,0]),h⟩)
 ·rintro _ dE ⟨a7,aw,aG,aH,aI,rfl,D,bW,h⟩
  unfold f32_j1 at h
  refine wp_cut (fun a w=>∃ ba aJ aj ak al,a=fr 126 (updL ba [(2,pp (zz s) 0),(3,pp (zz c) 0)])∧KH.sub aw aJ∧SR K aJ wi w [] [.box (zz wi) (zz s) #[iI 0,iI 0,vN] 56,.box (zz wi) (zz c) #[iI aj,iI ak,.bool al] 56]∧f32_j2 k aj ak al=some r_) ?_ ?_
  ·refine sr (m2 (iI 0) (wt (wp_block (wp_loopG (fun g_ a w=>∃ bb ax W,∃ (p:Nat),∃ ay az Z,g_=W.length∧a=fr 126 (updL bb [(1,pp (zz wi) 0),(2,pp (zz s) 0),(3,pp (zz c) 0),(4,iI (p:Int))])∧KH.sub aw ax∧SR K ax wi w [] [.box (zz wi) (zz wi) #[sl A d c1] 24,.box (zz wi) (zz s) #[iI 0,iI 0,vN] 56,.box (zz wi) (zz c) #[iI ay,iI az,.bool Z] 56]∧d.drop p=W∧f32_l1 k W p ay az Z=some r_) d.length ?_ ?_))))
   ·exact ⟨_,aw,d,0,aG,aH,aI,rfl,fR,kr,bW,List.drop_zero,h⟩
   ·rintro _ _ U ⟨bb,ax,W,p,ay,az,Z,rfl,rfl,t,am,aA,h⟩
    rcases W with _ | ⟨⟨N,e,f,G,q,u⟩,W⟩
    ·unfold f32_l1 at h
     exact wp_seq (sr (m1 (iI (p:Int)) (fd 0 Tyf24_0 rfl (l1 0 (sl A d c1) am Tya22 (lS d.length Tye22 (bcm (r:=false) rfl rfl (congrArg some (drop_nil_lt aA)) (m1 vN (o0 26 (o0 26 (o0 26 (o0 26 (o0 26 (m3 false vN rfl (wt (cndF rfl (wp_exit (thenX (thenX (blkX (thenN (⟨_,ax,ay,az,Z,fR,t,(am.sel [1,2]),h⟩)))))))))))))))))))))
    ·unfold f32_l1 at h
     refine wp_seq (sr (m1 (iI (p:Int)) (fd 0 Tyf24_0 rfl (l1 0 (sl A d c1) am Tya22 (lS d.length Tye22 (bcm (r:=true) rfl rfl (congrArg some (drop_cons_t aA)) (m1 vT (n0 26 (m1 (pp (zz c) 0) (n0 26 (nilc rfl (n0 26 (fd 2 Tyf56_2 rfl (n0 26 (l1 2 (.bool Z) am Tya4 (n0 26 (uN Z (m3 true (.bool (!Z)) rfl (wt (cd h (fun aW h=>?_) (fun aW h=>?_)))))))))))))))))))))
     ·refine cT aW (wp_skip (thenN (wp_seq (wp_block (sr (fd 0 Tyf24_0 rfl (l1 0 (sl A d c1) am Tya22 (m1 (iI (p:Int)) ?_))))))))
      obtain ⟨bX,bY,dF,bZ,dG,b0,b1⟩:=((mf a6 (D.trans t))).row.at_ (drop_cons_at aA)
      obtain ⟨x,y,O,S,rfl,b2,bd,b3⟩:=RDFunc.open b1
      refine idxN (b:=bX) (o:=bY) (i:=p) Tye22 Tys38 rfl bZ rfl (drop_cons_lt aA) (lD (vF N x e y f G q O u S) Tya38 Tys38 rfl (fun j v hj=>am.cell (kr.cell (b0 j v hj))) (aC zF.toArray am Tyz38 (fun dH b4=>(sI 0 (.agg (vF N x e y f G q O u S).toArray) ((vF N x e y f G q O u S).toArray) b4 Tys38 rfl rfl (fun b5 b6=>(wt (sr (m1 (pp (zz c) 0) ?_))))))))
      have be:=p3012 b6
      obtain ⟨⟨dI,dJ,dK⟩,b7,h⟩:=ob h
      refine cv ([pp (zz c) 0,iI 0]) Tyb60 ((f60_ok k) b7 (hG.mono (D.trans t)) (pt be)) ?_
      rintro _ dL ⟨b8,rfl,z⟩
      have aX:=ca z be
      refine wt (wp_cut (fun a w=>∃ bf aB aK aL aM,a=fr 126 (updL bf [(1,pp (zz wi) 0),(2,pp (zz s) 0),(3,pp (zz c) 0),(4,iI (p:Int)),(5,pp (zz U) 0)])∧KH.sub b8 aB∧SR K aB wi w [] [.box (zz wi) (zz wi) #[sl A d c1] 24,.box (zz wi) (zz s) #[iI 0,iI 0,vN] 56,.box (zz wi) (zz c) #[iI aK,iI aL,.bool aM] 56,.box (zz wi) (zz U) (vF N x e y f G q O u S).toArray 38]∧f32_j3 k p e u aK aL aM (f32_l1 k W)=some r_) ?_ ?_)
      ·refine wp_region_lit (m1 (pp (zz c) 0) (fd 0 Tyf38_0 rfl (l1 1 (.string N) aX Tya9 ?_)))
       obtain ⟨b9,cb,h⟩:=ob h
       refine cv ([.string N]) Tyb34 ((f34_ok k) cb (hG.mono ((D.trans t).trans z.sub)) b2 (pt aX)) ?_
       rintro _ dM ⟨dN,rfl,I⟩
       have g:=ca I aX
       refine m1 (.bool b9) (cd h (fun X h=>?_) (fun X h=>?_))
       ·refine n1 46 X (fd 1 Tyf38_1 rfl (n1 46 X (l1 1 (sl x e y) g Tya35 (n1 46 X (lS e.length Tye35 (n1 46 X (c0 (decide ((e.length:Int) ≤ 4)) (m3 true (.bool (decide ((e.length:Int) ≤ 4))) (cg X) (m1 (.bool (decide ((e.length:Int) ≤ 4))) (cd h (fun ab h=>?_) (fun ab h=>?_)))))))))))
        ·refine n1 52 ab (fd 2 Tyf38_2 rfl (n1 52 ab (l1 1 (iI f) g Tya3 (n1 52 ab (c0 (decide (f ≥ 0)) (m3 true (.bool (decide (f ≥ 0))) (cg ab) (m1 (.bool (decide (f ≥ 0))) (cd h (fun ac h=>?_) (fun ac h=>?_)))))))))
         ·refine n1 57 ac (fd 2 Tyf38_2 rfl (n1 57 ac (l1 1 (iI f) g Tya3 (n1 57 ac (c0 (decide (f ≤ 6)) (m3 true (.bool (decide (f ≤ 6))) (cg ac) (m1 (.bool (decide (f ≤ 6))) (cd h (fun J h=>?_) (fun J h=>?_)))))))))
          ·refine n1 62 J (fd 3 Tyf38_3 rfl (n1 62 J (l1 1 (.bool G) g Tya4 (n1 62 J (uN G (n1 62 J (m1 (.bool (!G)) (cd h (fun ad h=>?_) (fun ad h=>?_)))))))))
           ·refine o1 66 ad (o1 66 ad (o1 66 ad (n1 62 J (m3 true vT (cg ad) (m3 true vT (cg J) (m1 vT (n0 72 (fd 4 Tyf38_4 rfl (n0 72 (l1 1 (iI q) g Tya3 (n0 72 (c0 (q == 0) (m3 true (.bool (q == 0)) rfl ?_)))))))))))))
            obtain ⟨⟨cc,ce,cf⟩,ch,h⟩:=ob h
            refine cv ([pp (zz c) 0,.bool (q == 0)]) Tyb59 ((f59_ok k) ch (hG.mono (((D.trans t).trans z.sub).trans I.sub)) (pt g)) ?_
            rintro _ dO ⟨ci,rfl,bg⟩
            have cj:=ca bg g
            exact wt (⟨_,ci,cc,ce,cf,fR,(I.sub.trans bg.sub),(cj.sel [2,3,0,1]),h⟩)
           ·refine n1 66 ad (fd 2 Tyf38_2 rfl (n1 66 ad (l1 1 (iI f) g Tya3 (n1 66 ad (c0 (f == 0) (n1 62 J (m3 false (.bool (f == 0)) (cg ad) (m3 true (.bool (f == 0)) (cg J) (m1 (.bool (f == 0)) (cd h (fun ae h=>?_) (fun ae h=>?_)))))))))))
            ·refine n1 72 ae (fd 4 Tyf38_4 rfl (n1 72 ae (l1 1 (iI q) g Tya3 (n1 72 ae (c0 (q == 0) (m3 true (.bool (q == 0)) (cg ae) ?_))))))
             obtain ⟨⟨ck,cl,cm⟩,cn,h⟩:=ob h
             refine cv ([pp (zz c) 0,.bool (q == 0)]) Tyb59 ((f59_ok k) cn (hG.mono (((D.trans t).trans z.sub).trans I.sub)) (pt g)) ?_
             rintro _ dP ⟨co,rfl,bh⟩
             have cq:=ca bh g
             exact wt (⟨_,co,ck,cl,cm,fR,(I.sub.trans bh.sub),(cq.sel [2,3,0,1]),h⟩)
            ·refine o1 72 ae (o1 72 ae (o1 72 ae (m3 false vN (cg ae) ?_)))
             obtain ⟨⟨cr,ct,cu⟩,cw,h⟩:=ob h
             refine cv ([pp (zz c) 0,vN]) Tyb59 ((f59_ok k) cw (hG.mono (((D.trans t).trans z.sub).trans I.sub)) (pt g)) ?_
             rintro _ dQ ⟨cx,rfl,bi⟩
             have cy:=ca bi g
             exact wt (⟨_,cx,cr,ct,cu,fR,(I.sub.trans bi.sub),(cy.sel [2,3,0,1]),h⟩)
          ·refine o1 62 J (o1 62 J (o1 62 J (o1 62 J (ou 66 (ou 66 (ou 66 (o1 62 J (m3 false vN (cg J) (m1 vN (o0 72 (o0 72 (o0 72 (m3 false vN rfl ?_)))))))))))))
           obtain ⟨⟨cz,cA,cB⟩,cC,h⟩:=ob h
           refine cv ([pp (zz c) 0,vN]) Tyb59 ((f59_ok k) cC (hG.mono (((D.trans t).trans z.sub).trans I.sub)) (pt g)) ?_
           rintro _ dR ⟨cD,rfl,bj⟩
           have cG:=ca bj g
           exact wt (⟨_,cD,cz,cA,cB,fR,(I.sub.trans bj.sub),(cG.sel [2,3,0,1]),h⟩)
         ·refine o1 57 ac (o1 57 ac (o1 57 ac (m3 false vN (cg ac) (m1 vN (o0 62 (o0 62 (o0 62 (o0 62 (ou 66 (ou 66 (ou 66 (o0 62 (m3 false vN rfl (m1 vN (o0 72 (o0 72 (o0 72 (m3 false vN rfl ?_))))))))))))))))))
          obtain ⟨⟨cH,cI,cJ⟩,cK,h⟩:=ob h
          refine cv ([pp (zz c) 0,vN]) Tyb59 ((f59_ok k) cK (hG.mono (((D.trans t).trans z.sub).trans I.sub)) (pt g)) ?_
          rintro _ dS ⟨cL,rfl,bk⟩
          have cM:=ca bk g
          exact wt (⟨_,cL,cH,cI,cJ,fR,(I.sub.trans bk.sub),(cM.sel [2,3,0,1]),h⟩)
        ·refine o1 52 ab (o1 52 ab (o1 52 ab (m3 false vN (cg ab) (m1 vN (o0 57 (o0 57 (o0 57 (m3 false vN rfl (m1 vN (o0 62 (o0 62 (o0 62 (o0 62 (ou 66 (ou 66 (ou 66 (o0 62 (m3 false vN rfl (m1 vN (o0 72 (o0 72 (o0 72 (m3 false vN rfl ?_)))))))))))))))))))))))
         obtain ⟨⟨cN,cO,cP⟩,cQ,h⟩:=ob h
         refine cv ([pp (zz c) 0,vN]) Tyb59 ((f59_ok k) cQ (hG.mono (((D.trans t).trans z.sub).trans I.sub)) (pt g)) ?_
         rintro _ dT ⟨cR,rfl,bm⟩
         have cS:=ca bm g
         exact wt (⟨_,cR,cN,cO,cP,fR,(I.sub.trans bm.sub),(cS.sel [2,3,0,1]),h⟩)
       ·refine o1 46 X (o1 46 X (o1 46 X (o1 46 X (m3 false vN (cg X) (m1 vN (o0 52 (o0 52 (o0 52 (m3 false vN rfl (m1 vN (o0 57 (o0 57 (o0 57 (m3 false vN rfl (m1 vN (o0 62 (o0 62 (o0 62 (o0 62 (ou 66 (ou 66 (ou 66 (o0 62 (m3 false vN rfl (m1 vN (o0 72 (o0 72 (o0 72 (m3 false vN rfl ?_)))))))))))))))))))))))))))))
        obtain ⟨⟨cU,cV,cW⟩,cX,h⟩:=ob h
        refine cv ([pp (zz c) 0,vN]) Tyb59 ((f59_ok k) cX (hG.mono (((D.trans t).trans z.sub).trans I.sub)) (pt g)) ?_
        rintro _ dU ⟨cY,rfl,bn⟩
        have cZ:=ca bn g
        exact wt (⟨_,cY,cU,cV,cW,fR,(I.sub.trans bn.sub),(cZ.sel [2,3,0,1]),h⟩)
      ·rintro _ dV ⟨bf,aB,aK,aL,aM,rfl,af,c2,h⟩
       unfold f32_j3 at h
       refine wp_cut (fun a w=>∃ bo aN aP aQ aR,a=fr 126 (updL bo [(1,pp (zz wi) 0),(2,pp (zz s) 0),(3,pp (zz c) 0),(4,iI (p:Int)),(5,pp (zz U) 0)])∧KH.sub aB aN∧SR K aN wi w [] [.box (zz wi) (zz wi) #[sl A d c1] 24,.box (zz wi) (zz s) #[iI 0,iI 0,vN] 56,.box (zz wi) (zz c) #[iI aP,iI aQ,.bool aR] 56,.box (zz wi) (zz U) (vF N x e y f G q O u S).toArray 38]∧f32_j4 k p u aP aQ aR (f32_l1 k W)=some r_) ?_ ?_
       ·refine sr (m2 (iI 0) (wt (wp_block (wp_loopG (fun g_ a w=>∃ bp aE an,∃ (m:Nat),∃ ao ap Y,g_=an.length∧a=fr 126 (updL bp [(1,pp (zz wi) 0),(2,pp (zz s) 0),(3,pp (zz c) 0),(4,iI (p:Int)),(5,pp (zz U) 0),(6,iI (m:Int))])∧KH.sub aB aE∧SR K aE wi w [] [.box (zz wi) (zz wi) #[sl A d c1] 24,.box (zz wi) (zz s) #[iI 0,iI 0,vN] 56,.box (zz wi) (zz c) #[iI ao,iI ap,.bool Y] 56,.box (zz wi) (zz U) (vF N x e y f G q O u S).toArray 38]∧e.drop m=an∧f32_l2 k p u (f32_l1 k W) an m ao ap Y=some r_) e.length ?_ ?_))))
        ·exact ⟨_,aB,e,0,aK,aL,aM,rfl,fR,kr,c2,List.drop_zero,h⟩
        ·rintro _ _ dW ⟨bp,aE,an,m,ao,ap,Y,rfl,rfl,ag,ah,aq,h⟩
         rcases an with _ | ⟨⟨bq,ar⟩,an⟩
         ·unfold f32_l2 at h
          exact wp_seq (sr (m1 (iI (m:Int)) (fd 1 Tyf38_1 rfl (l1 3 (sl x e y) ah Tya35 (lS e.length Tye35 (bcm (r:=false) rfl rfl (congrArg some (drop_nil_lt aq)) (m1 vN (o0 83 (o0 83 (o0 83 (o0 83 (o0 83 (m3 false vN rfl (wt (cndF rfl (wp_exit (thenX (thenX (blkX (thenN (⟨_,aE,ao,ap,Y,fR,ag,ah,h⟩)))))))))))))))))))))
         ·unfold f32_l2 at h
          refine wp_seq (sr (m1 (iI (m:Int)) (fd 1 Tyf38_1 rfl (l1 3 (sl x e y) ah Tya35 (lS e.length Tye35 (bcm (r:=true) rfl rfl (congrArg some (drop_cons_t aq)) (m1 vT (n0 83 (m1 (pp (zz c) 0) (n0 83 (nilc rfl (n0 83 (fd 2 Tyf56_2 rfl (n0 83 (l1 2 (.bool Y) ah Tya4 (n0 83 (uN Y (m3 true (.bool (!Y)) rfl (wt (cd h (fun aY h=>?_) (fun aY h=>?_)))))))))))))))))))))
          ·refine cT aY (wp_skip (thenN (wp_cut (fun a w=>∃ br aS aT aU aV,a=fr 126 (updL br [(1,pp (zz wi) 0),(2,pp (zz s) 0),(3,pp (zz c) 0),(4,iI (p:Int)),(5,pp (zz U) 0),(6,iI (m:Int))])∧KH.sub aE aS∧SR K aS wi w [] [.box (zz wi) (zz wi) #[sl A d c1] 24,.box (zz wi) (zz s) #[iI 0,iI 0,vN] 56,.box (zz wi) (zz c) #[iI aT,iI aU,.bool aV] 56,.box (zz wi) (zz U) (vF N x e y f G q O u S).toArray 38]∧f32_j5 k m aT aU aV (f32_l2 k p u (f32_l1 k W) an)=some r_) ?_ ?_)))
           ·refine wp_block (wp_region_lit (m1 (pp (zz c) 0) (fd 1 Tyf38_1 rfl (l1 3 (sl x e y) ah Tya35 (m1 (iI (m:Int)) ?_)))))
            obtain ⟨aZ,aF,dX,a1,dY,a2,c3⟩:=((mp bd ((z.sub.trans af).trans ag))).row.at_ (drop_cons_at aq)
            obtain ⟨rfl,c4⟩:=RDParam.open c3
            refine idxN (b:=aZ) (o:=aF) (i:=m) Tye35 Tys82 rfl a1 rfl (drop_cons_lt aq) (fd (aF + m * 2 + 0) Tyf82_0 rfl (ld1 (v:=.string bq) Tya9 rfl (ah.cell (kr.cell (a2 0 _ rfl))) ?_))
            obtain ⟨c5,c6,h⟩:=ob h
            refine cv ([.string bq]) Tyb34 ((f34_ok k) c6 (hG.mono ((((D.trans t).trans z.sub).trans af).trans ag)) c4 (pt ah)) ?_
            rintro _ a3 ⟨a4,rfl,ai⟩
            have au:=ca ai ah
            refine m1 (.bool c5) (cd h (fun B h=>?_) (fun B h=>?_))
            ·refine n1 100 B (fd 1 Tyf38_1 rfl (n1 100 B (l1 3 (sl x e y) au Tya35 (n1 100 B (m1 (iI (m:Int)) (n1 100 B (idxN (b:=aZ) (o:=aF) (i:=m) Tye35 Tys82 rfl a1 rfl (drop_cons_lt aq) (n1 100 B (fd (aF + m * 2 + 1) Tyf82_1 rfl (n1 100 B (ld1 (v:=iI ar) Tya3 rfl (au.cell (ai.sub.cell (a2 1 _ rfl))) (n1 100 B (c0 (decide (ar ≥ 1)) (m3 true (.bool (decide (ar ≥ 1))) (cg B) (m1 (.bool (decide (ar ≥ 1))) (cd h (fun C h=>?_) (fun C h=>?_)))))))))))))))))
             ·refine n1 109 C (fd 1 Tyf38_1 rfl (n1 109 C (l1 3 (sl x e y) au Tya35 (n1 109 C (m1 (iI (m:Int)) (n1 109 C (idxN (b:=aZ) (o:=aF) (i:=m) Tye35 Tys82 rfl a1 rfl (drop_cons_lt aq) (n1 109 C (fd (aF + m * 2 + 1) Tyf82_1 rfl (n1 109 C (ld1 (v:=iI ar) Tya3 rfl (au.cell (ai.sub.cell (a2 1 _ rfl))) (n1 109 C (c0 (decide (ar ≤ 6)) (m3 true (.bool (decide (ar ≤ 6))) (cg C) ?_))))))))))))))
              have bs:=p2013 au
              obtain ⟨⟨c7,c8,c9⟩,da,h⟩:=ob h
              refine cv ([pp (zz c) 0,.bool (decide (ar ≤ 6))]) Tyb59 ((f59_ok k) da (hG.mono (((((D.trans t).trans z.sub).trans af).trans ag).trans ai.sub)) (pt bs)) ?_
              rintro _ dZ ⟨db,rfl,bu⟩
              have dc:=ca bu bs
              exact wpList_nil (blkN (thenN (⟨_,db,c7,c8,c9,fR,(ai.sub.trans bu.sub),(dc.sel [1,2,0,3]),h⟩)))
             ·refine o1 109 C (o1 109 C (o1 109 C (o1 109 C (o1 109 C (o1 109 C (o1 109 C (m3 false vN (cg C) ?_)))))))
              have bv:=p2013 au
              obtain ⟨⟨dd,de,df⟩,dg,h⟩:=ob h
              refine cv ([pp (zz c) 0,vN]) Tyb59 ((f59_ok k) dg (hG.mono (((((D.trans t).trans z.sub).trans af).trans ag).trans ai.sub)) (pt bv)) ?_
              rintro _ d0 ⟨dh,rfl,bw⟩
              have di:=ca bw bv
              exact wpList_nil (blkN (thenN (⟨_,dh,dd,de,df,fR,(ai.sub.trans bw.sub),(di.sel [1,2,0,3]),h⟩)))
            ·refine o1 100 B (o1 100 B (o1 100 B (o1 100 B (o1 100 B (o1 100 B (o1 100 B (m3 false vN (cg B) (m1 vN (o0 109 (o0 109 (o0 109 (o0 109 (o0 109 (o0 109 (o0 109 (m3 false vN rfl ?_))))))))))))))))
             have bx:=p2013 au
             obtain ⟨⟨dj,dk,dl⟩,dm,h⟩:=ob h
             refine cv ([pp (zz c) 0,vN]) Tyb59 ((f59_ok k) dm (hG.mono (((((D.trans t).trans z.sub).trans af).trans ag).trans ai.sub)) (pt bx)) ?_
             rintro _ d1 ⟨dn,rfl,bz⟩
             have dp:=ca bz bx
             exact wpList_nil (blkN (thenN (⟨_,dn,dj,dk,dl,fR,(ai.sub.trans bz.sub),(dp.sel [1,2,0,3]),h⟩)))
           ·rintro _ d2 ⟨br,aS,aT,aU,aV,rfl,dq,dr,h⟩
            unfold f32_j5 at h
            exact wp_region_lit (m1 (iI (m:Int)) (bar (r:=((m + 1:Nat):Int)) rfl rfl (inc_ok (le_big (((mp bd ((z.sub.trans af).trans ag))).len) (by decide) (drop_cons_lt aq))) (m2 (iI ((m + 1:Nat):Int)) (wt (⟨_,Nat.lt_succ_self _,_,aS,an,m + 1,aT,aU,aV,rfl,fR,(ag.trans dq),dr,drop_cons_next aq,h⟩)))))
          ·exact cF aY (wp_exit (thenX (thenX (blkX (thenN (⟨_,aE,ao,ap,Y,fR,ag,ah,h⟩))))))
       ·rintro _ ds ⟨bo,aN,aP,aQ,aR,rfl,a5,bA,h⟩
        unfold f32_j4 at h
        refine wp_region_lit (m1 (pp (zz c) 0) (fd 5 Tyf38_5 rfl (l1 3 (sl O u S) bA Tya36 ?_)))
        have bB:=p2013 bA
        obtain ⟨⟨dt,du,dv⟩,dw,h⟩:=ob h
        refine cv ([pp (zz c) 0,sl O u S,iI 1]) Tyb61 ((f61_ok k) dw (hG.mono ((((D.trans t).trans z.sub).trans af).trans a5)) (ms b3 ((z.sub.trans af).trans a5)) (pt bB)) ?_
        rintro _ d3 ⟨dx,rfl,bC⟩
        have dy:=ca bC bB
        exact wpList_nil (blkN (thenN (wp_region_lit (m1 (iI (p:Int)) (bar (r:=((p + 1:Nat):Int)) rfl rfl (inc_ok (le_big (((mf a6 (D.trans t))).len) (by decide) (drop_cons_lt aA))) (m2 (iI ((p + 1:Nat):Int)) (wt (⟨_,Nat.lt_succ_self _,_,dx,W,p + 1,dt,du,dv,rfl,fR,((((t.trans z.sub).trans af).trans a5).trans bC.sub),(dy.sel [1,2,0]),drop_cons_next aA,h⟩))))))))
     ·exact cF aW (wp_exit (thenX (thenX (blkX (thenN (⟨_,ax,ay,az,Z,fR,t,(am.sel [1,2]),h⟩))))))
  ·rintro _ d4 ⟨ba,aJ,aj,ak,al,rfl,d5,bD,h⟩
   unfold f32_j2 at h
   refine sr (m1 (pp (zz c) 0) (nilc rfl (lN 1 ([iI aj,iI ak,.bool al]) bD Tya56 Tys56 (sI 0 (.agg #[iI aj,iI ak,.bool al]) #[iI aj,iI ak,.bool al] bD Tys56 rfl rfl (fun d6 bE=>(wt (wp_ret ?_)))))))
   cases (oi h).trans hr_
   exact retA1 rfl (resN (i:=0) (l:=[iI aj,iI ak,.bool al]) bE rfl Tya56 Tys56 rfl rfl rfl) ⟨aJ,[iI aj,iI ak,.bool al],rfl,(bE.sel []),.mk⟩
theorem f32_ok (k:Nat):f32_spec (f32 k):=f32_b_ok k
theorem f20_b_ok (k:Nat):f20_spec (f20_b k):=by
 unfold f20_spec
 intro K wi e s t h hG f g
 obtain ⟨r_,hr_,h⟩:=rz h
 obtain ⟨b⟩:=e
 obtain ⟨c,c1,rfl,i⟩:=RDProgram.open f
 refine enter Tryz.func20 rfl (n:=7) rfl ?_
 unfold f20_b at h
 refine sr (bxoC (cs:=#[sl c b c1]) g rfl rfl (fun x d=>(m2 vN (wt (sr (lN 0 ([sl c b c1]) d Tya24 Tys24 ?_))))))
 obtain ⟨⟨j,l,a⟩,m,h⟩:=ob h
 refine cv ([.agg #[sl c b c1]]) Tyb32 ((f32_ok k) m (hG.mono kr) (RDProgram.intro i) (pt d)) ?_
 rintro _ y ⟨o,z,rfl,p,q⟩
 have r:=ca p d
 obtain rfl:=RDSize.open q
 refine fva (v:=.agg #[iI j,iI l,.bool a]) (u:=.bool a) rfl (fun w=>by kernel_rfl) (uN a (m2 (.bool (!a)) (wt (wp_ret ?_))))
 cases (oi h).trans hr_
 exact retA1 rfl (resT rfl) ⟨o,rfl,(r.sel [])⟩
theorem f20_ok (k:Nat):f20_spec (f20 k):=f20_b_ok k
theorem f48_b_ok (k:Nat) (F:Fam48) (IH48:f48_spec F.f48) (IH87:f87_spec F.f87):f48_spec (f48_b k F):=by
 unfold f48_spec
 intro K wi d l m f t u av h hG ab an ac
 obtain ⟨r_,hr_,h⟩:=rz h
 refine enter Tryz.func48 rfl (n:=27) rfl ?_
 unfold f48_b at h
 refine sr (m2 vN (wt (wp_seq (sr (m1 (sl l d m) (lS d.length Tye39 (m1 (sl t f u) (lS f.length Tye39 (c0 ((d.length:Int) != (f.length:Int)) (wt (cd h (fun z h=>?_) (fun z h=>?_))))))))))))
 ·refine cT z (sr (m2 vN (wt (wp_ret (thenR ?_)))))
  cases (oi h).trans hr_
  exact retA1 rfl (resT rfl) ⟨K,rfl,ac⟩
 ·refine cF z (wp_skip (thenN (wp_seq (sr (m2 (iI 0) (wt (wp_block (wp_loopG (fun g_ a w=>∃ ad q g,∃ (c:Nat),g_=g.length∧a=fr 27 (updL ad [(0,sl l d m),(1,sl t f u),(5,iI (c:Int))])∧KH.sub K q∧SR K q wi w [] []∧d.drop c=g∧f48_l1 k F f g c=some r_) d.length ?_ ?_))))))))
  ·exact ⟨_,K,d,0,rfl,fR,kr,ac,List.drop_zero,h⟩
  ·rintro _ _ aw ⟨ad,q,g,c,rfl,rfl,s,ae,p,h⟩
   rcases g with _ | ⟨⟨A,B,C,D,G⟩,g⟩
   ·unfold f48_l1 at h
    refine wp_seq (sr (m1 (iI (c:Int)) (m1 (sl l d m) (lS d.length Tye39 (bcm (r:=false) rfl rfl (congrArg some (drop_nil_lt p)) (wt (cndF rfl (wp_exit (thenX (thenX (blkX (thenN (sr (m2 vT (wt (wp_ret ?_))))))))))))))))
    cases (oi h).trans hr_
    exact retA1 rfl (resT rfl) ⟨q,rfl,ae⟩
   ·unfold f48_l1 at h
    refine wp_seq (sr (m1 (iI (c:Int)) (m1 (sl l d m) (lS d.length Tye39 (bcm (r:=true) rfl rfl (congrArg some (drop_cons_t p)) (wt (cndT rfl (wp_skip (thenN (wp_seq (wp_block (wp_seq (have e:=ae.drew;(regAny (E:=[]) (F:=FW q []) (L:=(lb 10 0)) ymx rfl rfl (tk 0 (sl l d m) (lb 10 1) rfl (fun w=>mv_r (v:=sl l d m) rfl) (heldF (fq [] e)) (tk 1 (iI (c:Int)) (lb 10 3) rfl (fun w=>mv_r (v:=iI (c:Int)) rfl) (heldF (fq [] e)) ?_))))))))))))))))
    obtain ⟨af,ag,ax,ao,ay,ap,ah⟩:=((me ab s)).row.at_ (drop_cons_at p)
    obtain ⟨I,J,rfl,az,aA⟩:=RDExpr.open ah
    refine tk 2 (pp af (ag + c * 5)) (lb 10 7) rfl (fun w=>idxN_r (b:=af) (o:=ag) (i:=c) Tye39 Tys107 rfl ao rfl (drop_cons_lt p)) (heldF (fq [] e)) (tf 3 (.agg (vE A B C D I G J).toArray) ([]) (lb 10 15) rfl (fq [] e) (fun w hF=>ldN_r (cs:=(vE A B C D I G J)) Tya107 Tys107 rfl rfl (fun j v hj=>hF.cell (kr.cell (ap j v hj)))) (tk 4 (sl t f u) (lb 10 31) rfl (fun w=>mv_r (v:=sl t f u) rfl) (heldF (fq [] e)) (tk 5 (iI (c:Int)) (lb 10 63) rfl (fun w=>mv_r (v:=iI (c:Int)) rfl) (heldF (fq [] e)) ?_)))
    obtain ⟨⟨N,O,S,U,V⟩,W,h⟩:=ob h
    obtain ⟨ai,aj,aB,aq,aE,ar,ak⟩:=((me an s)).row.at_ (idxO_at W).1
    obtain ⟨X,Y,rfl,aF,aG⟩:=RDExpr.open ak
    refine tk 6 (.pointer (some ⟨ai,aj + (c:Int).toNat * 5,none⟩)) (lb 10 127) rfl (fun w=>idxG_r (b:=ai) (o:=aj) (i:=(c:Int)) Tye39 Tys107 rfl aq rfl (idxO_at W).2.1 (idxO_at W).2.2) (heldF (fq [] e)) (tf 7 (.agg (vE N O S U X V Y).toArray) ([]) (lb 10 255) rfl (fq [] e) (fun w hF=>ldN_r (cs:=(vE N O S U X V Y)) Tya107 Tys107 rfl rfl (fun j v hj=>hF.cell (kr.cell (ar j v hj)))) (aO 8 rfl ?_))
    obtain ⟨al,au,h⟩:=ob h
    refine cv ([.agg (vE A B C D I G J).toArray,.agg (vE N O S U X V Y).toArray]) Tyb87 (IH87 au (hG.mono s) ah ak (pt e)) ?_
    rintro _ aH ⟨am,rfl,x⟩
    have y:=ca x e
    refine wt ⟨heldF (fwOf (is:=[]) y x.sub rfl),tk 9 (.bool (!al)) (lb 10 1023) rfl (fun w=>unot_r (a:=al) rfl) (heldF (fwOf (is:=[]) y x.sub rfl)) (aD (thenN (cd h (fun Z h=>?_) (fun Z h=>?_))))⟩
    ·refine cT Z (sr (m2 vN (wt (wp_ret (blkR (thenR (thenR (blkR (thenR ?_)))))))))
     cases (oi h).trans hr_
     exact retA1 rfl (resT rfl) ⟨am,rfl,y⟩
    ·exact cF Z (wp_skip (blkN (thenN (wp_region_lit (m1 (iI (c:Int)) (bar (r:=((c + 1:Nat):Int)) rfl rfl (inc_ok (le_big (((me ab s)).len) (by decide) (drop_cons_lt p))) (m2 (iI ((c + 1:Nat):Int)) (wt (⟨_,Nat.lt_succ_self _,_,am,g,c + 1,rfl,fR,(s.trans x.sub),y,drop_cons_next p,h⟩)))))))))
theorem f87_b_ok (k:Nat) (F:Fam48) (IH48:f48_spec F.f48) (IH87:f87_spec F.f87):f87_spec (f87_b k F):=by
 unfold f87_spec
 intro K wi G ab I ac ad h hG J N O
 obtain ⟨r_,hr_,h⟩:=rz h
 obtain ⟨p,g,i,j,t⟩:=G
 obtain ⟨u,v,rfl,ae,S⟩:=RDExpr.open J
 obtain ⟨q,l,m,o,x⟩:=I
 obtain ⟨y,z,rfl,af,U⟩:=RDExpr.open N
 refine enter Tryz.func87 rfl (n:=38) rfl ?_
 unfold f87_b at h
 refine sr (bxoC (cs:=(vE p g i j u t v).toArray) O rfl rfl (fun ag V=>(bxoC (cs:=(vE q l m o y x z).toArray) V rfl rfl (fun ah b=>(m2 vN (wt (wp_cut (fun a w=>∃ C s A,a=fr 38 (updL C [(4,.bool A)])∧KH.sub K s∧SR K s wi w [] []∧f87_j1 k F A=some r_) ?_ ?_)))))))
 ·refine wp_region_lit (fd 0 Tyf107_0 rfl (l1 1 (iI p) b Tya3 (fd 0 Tyf107_0 rfl (l1 0 (iI q) b Tya3 (c0 (p == q) (m1 (.bool (p == q)) (cd h (fun c h=>?_) (fun c h=>?_))))))))
  ·refine n1 10 c (fd 1 Tyf107_1 rfl (n1 10 c (l1 1 (iI g) b Tya3 (n1 10 c (fd 1 Tyf107_1 rfl (n1 10 c (l1 0 (iI l) b Tya3 (n1 10 c (c0 (g == l) (m3 true (.bool (g == l)) (cg c) (m1 (.bool (g == l)) (cd h (fun d h=>?_) (fun d h=>?_)))))))))))))
   ·refine n1 17 d (fd 2 Tyf107_2 rfl (n1 17 d (l1 1 (.string i) b Tya9 (n1 17 d (fd 2 Tyf107_2 rfl (n1 17 d (l1 0 (.string m) b Tya9 (n1 17 d (bsc (r:=(seq i m)) rfl rfl rfl (m3 true (.bool (seq i m)) (cg d) (m1 (.bool (seq i m)) (cd h (fun e h=>?_) (fun e h=>?_)))))))))))))
    ·refine n1 24 e (fd 3 Tyf107_3 rfl (n1 24 e (l1 1 (iI j) b Tya3 (n1 24 e (fd 3 Tyf107_3 rfl (n1 24 e (l1 0 (iI o) b Tya3 (n1 24 e (c0 (j == o) (m3 true (.bool (j == o)) (cg e) (m1 (.bool (j == o)) (cd h (fun f h=>?_) (fun f h=>?_)))))))))))))
     ·refine n1 31 f (fd 4 Tyf107_4 rfl (n1 31 f (l1 1 (sl u t v) b Tya39 (n1 31 f (fd 4 Tyf107_4 rfl (n1 31 f (l1 0 (sl y x z) b Tya39 (n1 31 f ?_))))))))
      obtain ⟨B,W,h⟩:=ob h
      refine cv ([sl u t v,sl y x z]) Tyb48 (IH48 W (hG.mono kr) S U (pt b)) ?_
      rintro _ ai ⟨X,rfl,D⟩
      have Y:=ca D b
      exact m3 true (.bool B) (cg f) (m2 (.bool B) (wt (⟨_,X,B,fR,D.sub,(Y.sel []),h⟩)))
     ·exact o1 31 f (o1 31 f (o1 31 f (o1 31 f (o1 31 f (m3 false vN (cg f) (m2 vN (wt (⟨_,K,false,fR,kr,(b.sel []),h⟩))))))))
    ·exact o1 24 e (o1 24 e (o1 24 e (o1 24 e (o1 24 e (m3 false vN (cg e) (m1 vN (o0 31 (o0 31 (o0 31 (o0 31 (o0 31 (m3 false vN rfl (m2 vN (wt (⟨_,K,false,fR,kr,(b.sel []),h⟩)))))))))))))))
   ·exact o1 17 d (o1 17 d (o1 17 d (o1 17 d (o1 17 d (m3 false vN (cg d) (m1 vN (o0 24 (o0 24 (o0 24 (o0 24 (o0 24 (m3 false vN rfl (m1 vN (o0 31 (o0 31 (o0 31 (o0 31 (o0 31 (m3 false vN rfl (m2 vN (wt (⟨_,K,false,fR,kr,(b.sel []),h⟩))))))))))))))))))))))
  ·exact o1 10 c (o1 10 c (o1 10 c (o1 10 c (o1 10 c (m3 false vN (cg c) (m1 vN (o0 17 (o0 17 (o0 17 (o0 17 (o0 17 (m3 false vN rfl (m1 vN (o0 24 (o0 24 (o0 24 (o0 24 (o0 24 (m3 false vN rfl (m1 vN (o0 31 (o0 31 (o0 31 (o0 31 (o0 31 (m3 false vN rfl (m2 vN (wt (⟨_,K,false,fR,kr,(b.sel []),h⟩)))))))))))))))))))))))))))))
 ·rintro _ aj ⟨C,s,A,rfl,ak,Z,h⟩
  unfold f87_j1 at h
  refine wp_ret ?_
  cases (oi h).trans hr_
  exact retA1 rfl (resT rfl) ⟨s,rfl,Z⟩
theorem fam48_ok (k0:Nat) : ∀ k,f48_spec (fam48 k0 k).f48∧f87_spec (fam48 k0 k).f87:=by
 intro k
 induction k with
 | zero=>exact ⟨(by unfold f48_spec; intro _ _ _ _ _ _ _ _ _ h_; cases h_),(by unfold f87_spec; intro _ _ _ _ _ _ _ h_; cases h_)⟩
 | succ k ih=>exact ⟨f48_b_ok k0 (fam48 k0 k) ih.1 ih.2,f87_b_ok k0 (fam48 k0 k) ih.1 ih.2⟩
theorem f48_ok (k:Nat):f48_spec (f48 k):=(fam48_ok k k).1
theorem f87_ok (k:Nat):f87_spec (f87 k):=(fam48_ok k k).2
theorem f21_b_ok (k:Nat) (F:Fam21) (IH21:f21_spec F.f21):f21_spec (f21_b k F):=by
 unfold f21_spec
 intro K wi a4 b2 b3 a5 cy cz fE h hG eq eR es
 obtain ⟨r_,hr_,h⟩:=rz h
 refine enter Tryz.func21 rfl (n:=161) rfl ?_
 unfold f21_b at h
 refine sr (m2 vN (wt (wp_seq (sr (m1 (sl b2 a4 b3) (lS a4.length Tye36 (m1 (sl cy a5 cz) (lS a5.length Tye36 (c0 ((a4.length:Int) != (a5.length:Int)) (wt (cd h (fun dY h=>?_) (fun dY h=>?_))))))))))))
 ·refine cT dY (sr (m2 vN (wt (wp_ret (thenR ?_)))))
  cases (oi h).trans hr_
  exact retA1 rfl (resT rfl) ⟨K,rfl,es⟩
 ·refine cF dY (wp_skip (thenN (wp_seq (sr (m2 (iI 0) (wt (wp_block (wp_loopG (fun g_ a w=>∃ et D bE,∃ (ao:Nat),g_=bE.length∧a=fr 161 (updL et [(0,sl b2 a4 b3),(1,sl cy a5 cz),(5,iI (ao:Int))])∧KH.sub K D∧SR K D wi w [] []∧a4.drop ao=bE∧f21_l1 k F a5 bE ao=some r_) a4.length ?_ ?_))))))))
  ·exact ⟨_,K,a4,0,rfl,fR,kr,es,List.drop_zero,h⟩
  ·rintro _ _ cJ ⟨et,D,bE,ao,rfl,rfl,cA,eu,dm,h⟩
   rcases bE with _ | ⟨⟨aq,ar,au,av,aw,ax,ay,az,aA,aB,aE⟩,bE⟩
   ·unfold f21_l1 at h
    refine wp_seq (sr (m1 (iI (ao:Int)) (m1 (sl b2 a4 b3) (lS a4.length Tye36 (bcm (r:=false) rfl rfl (congrArg some (drop_nil_lt dm)) (wt (cndF rfl (wp_exit (thenX (thenX (blkX (thenN (sr (m2 vT (wt (wp_ret ?_))))))))))))))))
    cases (oi h).trans hr_
    exact retA1 rfl (resT rfl) ⟨D,rfl,eu⟩
   ·unfold f21_l1 at h
    refine wp_seq (sr (m1 (iI (ao:Int)) (m1 (sl b2 a4 b3) (lS a4.length Tye36 (bcm (r:=true) rfl rfl (congrArg some (drop_cons_t dm)) (wt (cndT rfl (wp_skip (thenN (wp_seq (wp_block (wp_cut (fun a w=>∃ ew bo b4 bx bF bz bG bH b5 b9 cb bI cc ce bJ cf ch bK ci cj aF bA bB bp b6 bC bL bD bM bN b7 ck cl bO cm cn bP co cq bQ cr ct ap bb bd,a=fr 161 (updL ew [(0,sl b2 a4 b3),(1,sl cy a5 cz),(5,iI (ao:Int)),(6,pp bo 0),(7,pp bp 0)])∧SR K D wi w [] [.box (zz wi) bo (vS b4 bx bF bz bG bH b9 b5 cb cc bI ce cf bJ ch ci bK cj bA aF bB).toArray 42,.box (zz wi) bp (vS b6 bC bL bD bM bN ck b7 cl cm bO cn co bP cq cr bQ ct bb ap bd).toArray 42]∧bx.size ≤ mB∧bz.size ≤ mB∧tE D b9 cb b5∧tS D cc ce bI∧tS D cf ch bJ∧tS D ci cj bK∧tC D bA bB aF∧bC.size ≤ mB∧bD.size ≤ mB∧tE D ck cl b7∧tS D cm cn bO∧tS D co cq bP∧tS D cr ct bQ∧tC D bb bd ap∧f21_j1 k F ao b4 bx bF bz bG bH b5 bI bJ bK aF b6 bC bL bD bM bN b7 bO bP bQ ap (f21_l1 k F a5 bE)=some r_) ?_ ?_))))))))))))
    ·have bR:=eu.drew
     refine regAny (E:=[10,11]) (F:=FW D []) (L:=(lb 12 0)) ymx rfl rfl (tk 0 (sl b2 a4 b3) (lb 12 1) rfl (fun w=>mv_r (v:=sl b2 a4 b3) rfl) (heldF (fq [] bR)) (tk 1 (iI (ao:Int)) (lb 12 3) rfl (fun w=>mv_r (v:=iI (ao:Int)) rfl) (heldF (fq [] bR)) ?_))
     obtain ⟨ex,ey,fF,eS,fG,eT,eU⟩:=((ms eq cA)).row.at_ (drop_cons_at dm)
     obtain ⟨aG,aH,aI,aJ,aK,aL,aM,aN,aP,aQ,rfl,cK,cL,cM,cN,cO,cP,cQ⟩:=RDStmt.open eU
     refine tk 2 (pp ex (ey + ao * 11)) (lb 12 7) rfl (fun w=>idxN_r (b:=ex) (o:=ey) (i:=ao) Tye36 Tys42 rfl eS rfl (drop_cons_lt dm)) (heldF (fq [] bR)) (tf 3 (.agg (vS aq ar au av aw ax aG ay aH aI az aJ aK aA aL aM aB aN aP aE aQ).toArray) ([[10,3],[11,3]]) (lb 12 15) rfl (fq [] bR) (fun w hF=>ldN_r (cs:=(vS aq ar au av aw ax aG ay aH aI az aJ aK aA aL aM aB aN aP aE aQ)) Tya42 Tys42 rfl rfl (fun j v hj=>hF.cell (kr.cell (eT j v hj)))) (tk 4 (sl cy a5 cz) (lb 12 31) rfl (fun w=>mv_r (v:=sl cy a5 cz) rfl) (heldF (fq [] bR)) (tk 5 (iI (ao:Int)) (lb 12 63) rfl (fun w=>mv_r (v:=iI (ao:Int)) rfl) (heldF (fq [] bR)) ?_)))
     obtain ⟨⟨G,I,J,N,O,S,U,V,W,X,Y⟩,dZ,h⟩:=ob h
     obtain ⟨ez,eA,fH,eV,fI,c6,eW⟩:=((ms eR cA)).row.at_ (idxO_at dZ).1
     obtain ⟨Z,ab,ac,ad,ae,af,ag,ah,ai,aj,rfl,cR,cS,cU,cV,cW,cX,cY⟩:=RDStmt.open eW
     refine tk 6 (.pointer (some ⟨ez,eA + (ao:Int).toNat * 11,none⟩)) (lb 12 127) rfl (fun w=>idxG_r (b:=ez) (o:=eA) (i:=(ao:Int)) Tye36 Tys42 rfl eV rfl (idxO_at dZ).2.1 (idxO_at dZ).2.2) (heldF (fq [] bR)) (anyAll (rs:=[7,8,9]) (by kernel_rfl) (by decide) (allC ?_ (allC ?_ (allC ?_ allN))))
     ·refine opL (i:=7) rfl (lD (vS G I J N O S Z U ab ac V ad ae W af ag X ah ai Y aj) Tya42 Tys42 rfl (fun j v hj=>bR.cell (kr.cell (c6 j v hj))) (wt ⟨heldF (fq [] bR),anyAll (rs:=[8,9]) (by kernel_rfl) (by decide) (allC ?_ (allC ?_ allN))⟩))
      ·exact opL (i:=8) rfl (aC zS.toArray bR Tyz42 (fun cu be=>(wt ⟨heldF (fq [] be),aO 9 rfl (aC zS.toArray be Tyz42 (fun dx aV=>(wt ⟨heldF (fq [] aV),aO 10 rfl (sI 1 (.agg (vS aq ar au av aw ax aG ay aH aI az aJ aK aA aL aM aB aN aP aE aQ).toArray) ((vS aq ar au av aw ax aG ay aH aI az aJ aK aA aL aM aB aN aP aE aQ).toArray) aV Tys42 rfl rfl (fun c7 bf=>(wt ⟨heldE (i:=10) rfl rfl,aO 11 rfl (sI 0 (.agg (vS G I J N O S Z U ab ac V ad ae W af ag X ah ai Y aj).toArray) ((vS G I J N O S Z U ab ac V ad ae W af ag X ah ai Y aj).toArray) bf Tys42 rfl rfl (fun c8 bq=>(wt ⟨heldE (i:=11) rfl rfl,aD (thenN (⟨_,(zz cJ.drew),aq,ar,au,av,aw,ax,ay,aG,aH,az,aI,aJ,aA,aK,aL,aB,aM,aN,aE,aP,aQ,(zz cu),G,I,J,N,O,S,U,Z,ab,V,ac,ad,W,ae,af,X,ag,ah,Y,ai,aj,fR,(bq.sel [1,0]),cK,cL,cM,cN,cO,cP,cQ,cR,cS,cU,cV,cW,cX,cY,h⟩))⟩)))⟩)))⟩)))⟩)))
      ·exact opL (i:=9) rfl (aC zS.toArray bR Tyz42 (fun cu be=>(wt ⟨heldF (fq [] be),aO 8 rfl (aC zS.toArray be Tyz42 (fun dx aV=>(wt ⟨heldF (fq [] aV),aO 10 rfl (sI 0 (.agg (vS aq ar au av aw ax aG ay aH aI az aJ aK aA aL aM aB aN aP aE aQ).toArray) ((vS aq ar au av aw ax aG ay aH aI az aJ aK aA aL aM aB aN aP aE aQ).toArray) aV Tys42 rfl rfl (fun c7 bf=>(wt ⟨heldE (i:=10) rfl rfl,aO 11 rfl (sI 1 (.agg (vS G I J N O S Z U ab ac V ad ae W af ag X ah ai Y aj).toArray) ((vS G I J N O S Z U ab ac V ad ae W af ag X ah ai Y aj).toArray) bf Tys42 rfl rfl (fun c8 bq=>(wt ⟨heldE (i:=11) rfl rfl,aD (thenN (⟨_,(zz cu),aq,ar,au,av,aw,ax,ay,aG,aH,az,aI,aJ,aA,aK,aL,aB,aM,aN,aE,aP,aQ,(zz cJ.drew),G,I,J,N,O,S,U,Z,ab,V,ac,ad,W,ae,af,X,ag,ah,Y,ai,aj,fR,bq,cK,cL,cM,cN,cO,cP,cQ,cR,cS,cU,cV,cW,cX,cY,h⟩))⟩)))⟩)))⟩)))⟩)))
     ·refine opL (i:=8) rfl (aC zS.toArray bR Tyz42 (fun cu be=>(wt ⟨heldF (fq [] be),anyAll (rs:=[7,9]) (by kernel_rfl) (by decide) (allC ?_ (allC ?_ allN))⟩)))
      ·exact opL (i:=7) rfl (lD (vS G I J N O S Z U ab ac V ad ae W af ag X ah ai Y aj) Tya42 Tys42 rfl (fun j v hj=>be.cell (kr.cell (c6 j v hj))) (wt ⟨heldF (fq [] be),aO 9 rfl (aC zS.toArray be Tyz42 (fun dx aV=>(wt ⟨heldF (fq [] aV),aO 10 rfl (sI 1 (.agg (vS aq ar au av aw ax aG ay aH aI az aJ aK aA aL aM aB aN aP aE aQ).toArray) ((vS aq ar au av aw ax aG ay aH aI az aJ aK aA aL aM aB aN aP aE aQ).toArray) aV Tys42 rfl rfl (fun c7 bf=>(wt ⟨heldE (i:=10) rfl rfl,aO 11 rfl (sI 0 (.agg (vS G I J N O S Z U ab ac V ad ae W af ag X ah ai Y aj).toArray) ((vS G I J N O S Z U ab ac V ad ae W af ag X ah ai Y aj).toArray) bf Tys42 rfl rfl (fun c8 bq=>(wt ⟨heldE (i:=11) rfl rfl,aD (thenN (⟨_,(zz cJ.drew),aq,ar,au,av,aw,ax,ay,aG,aH,az,aI,aJ,aA,aK,aL,aB,aM,aN,aE,aP,aQ,(zz cu),G,I,J,N,O,S,U,Z,ab,V,ac,ad,W,ae,af,X,ag,ah,Y,ai,aj,fR,(bq.sel [1,0]),cK,cL,cM,cN,cO,cP,cQ,cR,cS,cU,cV,cW,cX,cY,h⟩))⟩)))⟩)))⟩)))⟩))
      ·refine opL (i:=9) rfl (aC zS.toArray be Tyz42 (fun dx aV=>(wt ⟨heldF (fq [] aV),anyAll (rs:=[7,10]) (by kernel_rfl) (by decide) (allC ?_ (allC ?_ allN))⟩)))
       ·exact opL (i:=7) rfl (lD (vS G I J N O S Z U ab ac V ad ae W af ag X ah ai Y aj) Tya42 Tys42 rfl (fun j v hj=>aV.cell (kr.cell (c6 j v hj))) (wt ⟨heldF (fq [] aV),aO 10 rfl (sI 1 (.agg (vS aq ar au av aw ax aG ay aH aI az aJ aK aA aL aM aB aN aP aE aQ).toArray) ((vS aq ar au av aw ax aG ay aH aI az aJ aK aA aL aM aB aN aP aE aQ).toArray) aV Tys42 rfl rfl (fun c7 bf=>(wt ⟨heldE (i:=10) rfl rfl,aO 11 rfl (sI 0 (.agg (vS G I J N O S Z U ab ac V ad ae W af ag X ah ai Y aj).toArray) ((vS G I J N O S Z U ab ac V ad ae W af ag X ah ai Y aj).toArray) bf Tys42 rfl rfl (fun c8 bq=>(wt ⟨heldE (i:=11) rfl rfl,aD (thenN (⟨_,(zz cJ.drew),aq,ar,au,av,aw,ax,ay,aG,aH,az,aI,aJ,aA,aK,aL,aB,aM,aN,aE,aP,aQ,(zz cu),G,I,J,N,O,S,U,Z,ab,V,ac,ad,W,ae,af,X,ag,ah,Y,ai,aj,fR,(bq.sel [1,0]),cK,cL,cM,cN,cO,cP,cQ,cR,cS,cU,cV,cW,cX,cY,h⟩))⟩)))⟩)))⟩))
       ·exact opL (i:=10) rfl (sI 1 (.agg (vS aq ar au av aw ax aG ay aH aI az aJ aK aA aL aM aB aN aP aE aQ).toArray) ((vS aq ar au av aw ax aG ay aH aI az aJ aK aA aL aM aB aN aP aE aQ).toArray) aV Tys42 rfl rfl (fun c7 bf=>(wt ⟨heldE (i:=10) rfl rfl,aO 7 rfl (lD (vS G I J N O S Z U ab ac V ad ae W af ag X ah ai Y aj) Tya42 Tys42 rfl (fun j v hj=>bf.cell (kr.cell (c6 j v hj))) (wt ⟨heldE (i:=10) rfl rfl,aO 11 rfl (sI 0 (.agg (vS G I J N O S Z U ab ac V ad ae W af ag X ah ai Y aj).toArray) ((vS G I J N O S Z U ab ac V ad ae W af ag X ah ai Y aj).toArray) bf Tys42 rfl rfl (fun c8 bq=>(wt ⟨heldE (i:=11) rfl rfl,aD (thenN (⟨_,(zz cJ.drew),aq,ar,au,av,aw,ax,ay,aG,aH,az,aI,aJ,aA,aK,aL,aB,aM,aN,aE,aP,aQ,(zz cu),G,I,J,N,O,S,U,Z,ab,V,ac,ad,W,ae,af,X,ag,ah,Y,ai,aj,fR,(bq.sel [1,0]),cK,cL,cM,cN,cO,cP,cQ,cR,cS,cU,cV,cW,cX,cY,h⟩))⟩)))⟩))⟩)))
     ·refine opL (i:=9) rfl (aC zS.toArray bR Tyz42 (fun cu be=>(wt ⟨heldF (fq [] be),anyAll (rs:=[7,8]) (by kernel_rfl) (by decide) (allC ?_ (allC ?_ allN))⟩)))
      ·exact opL (i:=7) rfl (lD (vS G I J N O S Z U ab ac V ad ae W af ag X ah ai Y aj) Tya42 Tys42 rfl (fun j v hj=>be.cell (kr.cell (c6 j v hj))) (wt ⟨heldF (fq [] be),aO 8 rfl (aC zS.toArray be Tyz42 (fun dx aV=>(wt ⟨heldF (fq [] aV),aO 10 rfl (sI 0 (.agg (vS aq ar au av aw ax aG ay aH aI az aJ aK aA aL aM aB aN aP aE aQ).toArray) ((vS aq ar au av aw ax aG ay aH aI az aJ aK aA aL aM aB aN aP aE aQ).toArray) aV Tys42 rfl rfl (fun c7 bf=>(wt ⟨heldE (i:=10) rfl rfl,aO 11 rfl (sI 1 (.agg (vS G I J N O S Z U ab ac V ad ae W af ag X ah ai Y aj).toArray) ((vS G I J N O S Z U ab ac V ad ae W af ag X ah ai Y aj).toArray) bf Tys42 rfl rfl (fun c8 bq=>(wt ⟨heldE (i:=11) rfl rfl,aD (thenN (⟨_,(zz cu),aq,ar,au,av,aw,ax,ay,aG,aH,az,aI,aJ,aA,aK,aL,aB,aM,aN,aE,aP,aQ,(zz cJ.drew),G,I,J,N,O,S,U,Z,ab,V,ac,ad,W,ae,af,X,ag,ah,Y,ai,aj,fR,bq,cK,cL,cM,cN,cO,cP,cQ,cR,cS,cU,cV,cW,cX,cY,h⟩))⟩)))⟩)))⟩)))⟩))
      ·refine opL (i:=8) rfl (aC zS.toArray be Tyz42 (fun dx aV=>(wt ⟨heldF (fq [] aV),anyAll (rs:=[7,10]) (by kernel_rfl) (by decide) (allC ?_ (allC ?_ allN))⟩)))
       ·exact opL (i:=7) rfl (lD (vS G I J N O S Z U ab ac V ad ae W af ag X ah ai Y aj) Tya42 Tys42 rfl (fun j v hj=>aV.cell (kr.cell (c6 j v hj))) (wt ⟨heldF (fq [] aV),aO 10 rfl (sI 0 (.agg (vS aq ar au av aw ax aG ay aH aI az aJ aK aA aL aM aB aN aP aE aQ).toArray) ((vS aq ar au av aw ax aG ay aH aI az aJ aK aA aL aM aB aN aP aE aQ).toArray) aV Tys42 rfl rfl (fun c7 bf=>(wt ⟨heldE (i:=10) rfl rfl,aO 11 rfl (sI 1 (.agg (vS G I J N O S Z U ab ac V ad ae W af ag X ah ai Y aj).toArray) ((vS G I J N O S Z U ab ac V ad ae W af ag X ah ai Y aj).toArray) bf Tys42 rfl rfl (fun c8 bq=>(wt ⟨heldE (i:=11) rfl rfl,aD (thenN (⟨_,(zz cu),aq,ar,au,av,aw,ax,ay,aG,aH,az,aI,aJ,aA,aK,aL,aB,aM,aN,aE,aP,aQ,(zz cJ.drew),G,I,J,N,O,S,U,Z,ab,V,ac,ad,W,ae,af,X,ag,ah,Y,ai,aj,fR,bq,cK,cL,cM,cN,cO,cP,cQ,cR,cS,cU,cV,cW,cX,cY,h⟩))⟩)))⟩)))⟩))
       ·exact opL (i:=10) rfl (sI 0 (.agg (vS aq ar au av aw ax aG ay aH aI az aJ aK aA aL aM aB aN aP aE aQ).toArray) ((vS aq ar au av aw ax aG ay aH aI az aJ aK aA aL aM aB aN aP aE aQ).toArray) aV Tys42 rfl rfl (fun c7 bf=>(wt ⟨heldE (i:=10) rfl rfl,aO 7 rfl (lD (vS G I J N O S Z U ab ac V ad ae W af ag X ah ai Y aj) Tya42 Tys42 rfl (fun j v hj=>bf.cell (kr.cell (c6 j v hj))) (wt ⟨heldE (i:=10) rfl rfl,aO 11 rfl (sI 1 (.agg (vS G I J N O S Z U ab ac V ad ae W af ag X ah ai Y aj).toArray) ((vS G I J N O S Z U ab ac V ad ae W af ag X ah ai Y aj).toArray) bf Tys42 rfl rfl (fun c8 bq=>(wt ⟨heldE (i:=11) rfl rfl,aD (thenN (⟨_,(zz cu),aq,ar,au,av,aw,ax,ay,aG,aH,az,aI,aJ,aA,aK,aL,aB,aM,aN,aE,aP,aQ,(zz cJ.drew),G,I,J,N,O,S,U,Z,ab,V,ac,ad,W,ae,af,X,ag,ah,Y,ai,aj,fR,bq,cK,cL,cM,cN,cO,cP,cQ,cR,cS,cU,cV,cW,cX,cY,h⟩))⟩)))⟩))⟩)))
    ·rintro _ fJ ⟨ew,bo,b4,bx,bF,bz,bG,bH,b5,b9,cb,bI,cc,ce,bJ,cf,ch,bK,ci,cj,aF,bA,bB,bp,b6,bC,bL,bD,bM,bN,b7,ck,cl,bO,cm,cn,bP,co,cq,bQ,cr,ct,ap,bb,bd,rfl,aW,fK,fL,eX,eY,eZ,e0,eB,fM,fN,e1,e2,e3,e4,c9,h⟩
     unfold f21_j1 at h
     refine wp_seq (wp_cut (fun a w=>∃ eC dy d0,a=fr 161 (updL eC [(0,sl b2 a4 b3),(1,sl cy a5 cz),(5,iI (ao:Int)),(6,pp bo 0),(7,pp bp 0),(77,.bool d0)])∧KH.sub D dy∧SR K dy wi w [] [.box (zz wi) bo (vS b4 bx bF bz bG bH b9 b5 cb cc bI ce cf bJ ch ci bK cj bA aF bB).toArray 42,.box (zz wi) bp (vS b6 bC bL bD bM bN ck b7 cl cm bO cn co bP cq cr bQ ct bb ap bd).toArray 42]∧f21_j2 k F ao bI bJ bK aF bO bP bQ ap d0 (f21_l1 k F a5 bE)=some r_) ?_ ?_)
     ·refine wp_region_lit (fd 0 Tyf42_0 rfl (l1 0 (iI b4) aW Tya3 (fd 0 Tyf42_0 rfl (l1 1 (iI b6) aW Tya3 (c0 (b4 != b6) (m1 (.bool (b4 != b6)) (cd h (fun bS h=>?_) (fun bS h=>?_))))))))
      ·exact o1 35 bS (o1 35 bS (o1 35 bS (o1 35 bS (o1 35 bS (m3 true vT (cg bS) (m1 vT (o0 42 (o0 42 (o0 42 (o0 42 (o0 42 (m3 true vT rfl (m1 vT (o0 49 (o0 49 (o0 49 (o0 49 (o0 49 (m3 true vT rfl (m1 vT (o0 56 (o0 56 (o0 56 (o0 56 (o0 56 (m3 true vT rfl (m1 vT (o0 63 (o0 63 (o0 63 (o0 63 (o0 63 (m3 true vT rfl (m1 vT (o0 70 (o0 70 (o0 70 (o0 70 (o0 70 (o0 70 (m3 true vT rfl (wt (⟨_,D,true,fR,kr,aW,h⟩)))))))))))))))))))))))))))))))))))))))))))
      ·refine n1 35 bS (fd 1 Tyf42_1 rfl (n1 35 bS (l1 0 (.string bx) aW Tya9 (n1 35 bS (fd 1 Tyf42_1 rfl (n1 35 bS (l1 1 (.string bC) aW Tya9 (n1 35 bS (bsc (r:=(!seq bx bC)) rfl rfl rfl (m3 false (.bool (!seq bx bC)) (cg bS) (m1 (.bool (!seq bx bC)) (cd h (fun bT h=>?_) (fun bT h=>?_)))))))))))))
       ·exact o1 42 bT (o1 42 bT (o1 42 bT (o1 42 bT (o1 42 bT (m3 true vT (cg bT) (m1 vT (o0 49 (o0 49 (o0 49 (o0 49 (o0 49 (m3 true vT rfl (m1 vT (o0 56 (o0 56 (o0 56 (o0 56 (o0 56 (m3 true vT rfl (m1 vT (o0 63 (o0 63 (o0 63 (o0 63 (o0 63 (m3 true vT rfl (m1 vT (o0 70 (o0 70 (o0 70 (o0 70 (o0 70 (o0 70 (m3 true vT rfl (wt (⟨_,D,true,fR,kr,aW,h⟩))))))))))))))))))))))))))))))))))))
       ·refine n1 42 bT (fd 2 Tyf42_2 rfl (n1 42 bT (l1 0 (iI bF) aW Tya3 (n1 42 bT (fd 2 Tyf42_2 rfl (n1 42 bT (l1 1 (iI bL) aW Tya3 (n1 42 bT (c0 (bF != bL) (m3 false (.bool (bF != bL)) (cg bT) (m1 (.bool (bF != bL)) (cd h (fun bU h=>?_) (fun bU h=>?_)))))))))))))
        ·exact o1 49 bU (o1 49 bU (o1 49 bU (o1 49 bU (o1 49 bU (m3 true vT (cg bU) (m1 vT (o0 56 (o0 56 (o0 56 (o0 56 (o0 56 (m3 true vT rfl (m1 vT (o0 63 (o0 63 (o0 63 (o0 63 (o0 63 (m3 true vT rfl (m1 vT (o0 70 (o0 70 (o0 70 (o0 70 (o0 70 (o0 70 (m3 true vT rfl (wt (⟨_,D,true,fR,kr,aW,h⟩)))))))))))))))))))))))))))))
        ·refine n1 49 bU (fd 3 Tyf42_3 rfl (n1 49 bU (l1 0 (.string bz) aW Tya9 (n1 49 bU (fd 3 Tyf42_3 rfl (n1 49 bU (l1 1 (.string bD) aW Tya9 (n1 49 bU (bsc (r:=(!seq bz bD)) rfl rfl rfl (m3 false (.bool (!seq bz bD)) (cg bU) (m1 (.bool (!seq bz bD)) (cd h (fun bV h=>?_) (fun bV h=>?_)))))))))))))
         ·exact o1 56 bV (o1 56 bV (o1 56 bV (o1 56 bV (o1 56 bV (m3 true vT (cg bV) (m1 vT (o0 63 (o0 63 (o0 63 (o0 63 (o0 63 (m3 true vT rfl (m1 vT (o0 70 (o0 70 (o0 70 (o0 70 (o0 70 (o0 70 (m3 true vT rfl (wt (⟨_,D,true,fR,kr,aW,h⟩))))))))))))))))))))))
         ·refine n1 56 bV (fd 4 Tyf42_4 rfl (n1 56 bV (l1 0 (iI bG) aW Tya3 (n1 56 bV (fd 4 Tyf42_4 rfl (n1 56 bV (l1 1 (iI bM) aW Tya3 (n1 56 bV (c0 (bG != bM) (m3 false (.bool (bG != bM)) (cg bV) (m1 (.bool (bG != bM)) (cd h (fun bW h=>?_) (fun bW h=>?_)))))))))))))
          ·exact o1 63 bW (o1 63 bW (o1 63 bW (o1 63 bW (o1 63 bW (m3 true vT (cg bW) (m1 vT (o0 70 (o0 70 (o0 70 (o0 70 (o0 70 (o0 70 (m3 true vT rfl (wt (⟨_,D,true,fR,kr,aW,h⟩)))))))))))))))
          ·refine n1 63 bW (fd 5 Tyf42_5 rfl (n1 63 bW (l1 0 (iI bH) aW Tya3 (n1 63 bW (fd 5 Tyf42_5 rfl (n1 63 bW (l1 1 (iI bN) aW Tya3 (n1 63 bW (c0 (bH != bN) (m3 false (.bool (bH != bN)) (cg bW) (m1 (.bool (bH != bN)) (cd h (fun br h=>?_) (fun br h=>?_)))))))))))))
           ·exact o1 70 br (o1 70 br (o1 70 br (o1 70 br (o1 70 br (o1 70 br (m3 true vT (cg br) (wt (⟨_,D,true,fR,kr,aW,h⟩))))))))
           ·refine n1 70 br (fd 6 Tyf42_6 rfl (n1 70 br (l1 0 (sl b9 b5 cb) aW Tya39 (n1 70 br (fd 6 Tyf42_6 rfl (n1 70 br (l1 1 (sl ck b7 cl) aW Tya39 (n1 70 br ?_))))))))
            obtain ⟨d1,e5,h⟩:=ob h
            refine cv ([sl b9 b5 cb,sl ck b7 cl]) Tyb48 ((f48_ok k) e5 (hG.mono cA) eX e1 (pt aW)) ?_
            rintro _ fO ⟨e6,rfl,eD⟩
            have e7:=ca eD aW
            exact n1 70 br (uN d1 (m3 false (.bool (!d1)) (cg br) (wt (⟨_,e6,(!d1),fR,eD.sub,e7,h⟩))))
     ·rintro _ fP ⟨eC,dy,d0,rfl,aX,dz,h⟩
      unfold f21_j2 at h
      refine cd h (fun d2 h=>?_) (fun d2 h=>?_)
      ·refine cT d2 (sr (m2 vN (wt (wp_ret (thenR (blkR (thenR (thenR (blkR (thenR ?_))))))))))
       cases (oi h).trans hr_
       exact retA1 rfl (resT rfl) ⟨dy,rfl,(dz.sel [])⟩
      ·refine cF d2 (wp_skip (thenN (wp_seq (wp_cut (fun a w=>∃ eE dn d3,a=fr 161 (updL eE [(0,sl b2 a4 b3),(1,sl cy a5 cz),(5,iI (ao:Int)),(6,pp bo 0),(7,pp bp 0),(108,.bool d3)])∧KH.sub dy dn∧SR K dn wi w [] [.box (zz wi) bo (vS b4 bx bF bz bG bH b9 b5 cb cc bI ce cf bJ ch ci bK cj bA aF bB).toArray 42,.box (zz wi) bp (vS b6 bC bL bD bM bN ck b7 cl cm bO cn co bP cq cr bQ ct bb ap bd).toArray 42]∧f21_j3 k F ao aF ap d3 (f21_l1 k F a5 bE)=some r_) ?_ ?_))))
       ·refine wp_region_lit (fd 7 Tyf42_7 rfl (l1 0 (sl cc bI ce) dz Tya36 (fd 7 Tyf42_7 rfl (l1 1 (sl cm bO cn) dz Tya36 ?_))))
        obtain ⟨eF,e8,h⟩:=ob h
        refine cv ([sl cc bI ce,sl cm bO cn]) Tyb21 (IH21 e8 (hG.mono (cA.trans aX)) (ms eY aX) (ms e2 aX) (pt dz)) ?_
        rintro _ fQ ⟨e9,rfl,cw⟩
        have dA:=ca cw dz
        refine uN eF (m1 (.bool (!eF)) (cd h (fun bs h=>?_) (fun bs h=>?_)))
        ·exact o1 84 bs (o1 84 bs (o1 84 bs (o1 84 bs (o1 84 bs (o1 84 bs (m3 true vT (cg bs) (m1 vT (o0 92 (o0 92 (o0 92 (o0 92 (o0 92 (o0 92 (m3 true vT rfl (m1 vT (o0 100 (o0 100 (o0 100 (o0 100 (o0 100 (o0 100 (o0 100 (m3 true vT rfl (wt (⟨_,e9,true,fR,cw.sub,dA,h⟩)))))))))))))))))))))))))
        ·refine n1 84 bs (fd 8 Tyf42_8 rfl (n1 84 bs (l1 0 (sl cf bJ ch) dA Tya36 (n1 84 bs (fd 8 Tyf42_8 rfl (n1 84 bs (l1 1 (sl co bP cq) dA Tya36 (n1 84 bs ?_))))))))
         obtain ⟨d4,fa,h⟩:=ob h
         refine cv ([sl cf bJ ch,sl co bP cq]) Tyb21 (IH21 fa (hG.mono ((cA.trans aX).trans cw.sub)) (ms eZ (aX.trans cw.sub)) (ms e3 (aX.trans cw.sub)) (pt dA)) ?_
         rintro _ fS ⟨fb,rfl,da⟩
         have dB:=ca da dA
         refine n1 84 bs (uN d4 (m3 false (.bool (!d4)) (cg bs) (m1 (.bool (!d4)) (cd h (fun bu h=>?_) (fun bu h=>?_)))))
         ·exact o1 92 bu (o1 92 bu (o1 92 bu (o1 92 bu (o1 92 bu (o1 92 bu (m3 true vT (cg bu) (m1 vT (o0 100 (o0 100 (o0 100 (o0 100 (o0 100 (o0 100 (o0 100 (m3 true vT rfl (wt (⟨_,fb,true,fR,(cw.sub.trans da.sub),dB,h⟩)))))))))))))))))
         ·refine n1 92 bu (fd 9 Tyf42_9 rfl (n1 92 bu (l1 0 (sl ci bK cj) dB Tya36 (n1 92 bu (fd 9 Tyf42_9 rfl (n1 92 bu (l1 1 (sl cr bQ ct) dB Tya36 (n1 92 bu ?_))))))))
          obtain ⟨d5,fc,h⟩:=ob h
          refine cv ([sl ci bK cj,sl cr bQ ct]) Tyb21 (IH21 fc (hG.mono (((cA.trans aX).trans cw.sub).trans da.sub)) (ms e0 ((aX.trans cw.sub).trans da.sub)) (ms e4 ((aX.trans cw.sub).trans da.sub)) (pt dB)) ?_
          rintro _ fT ⟨eG,rfl,d6⟩
          have dW:=ca d6 dB
          refine n1 92 bu (uN d5 (m3 false (.bool (!d5)) (cg bu) (m1 (.bool (!d5)) (cd h (fun bg h=>?_) (fun bg h=>?_)))))
          ·exact o1 100 bg (o1 100 bg (o1 100 bg (o1 100 bg (o1 100 bg (o1 100 bg (o1 100 bg (m3 true vT (cg bg) (wt (⟨_,eG,true,fR,((cw.sub.trans da.sub).trans d6.sub),dW,h⟩)))))))))
          ·exact n1 100 bg (fd 10 Tyf42_10 rfl (n1 100 bg (l1 0 (sl bA aF bB) dW Tya40 (n1 100 bg (lS aF.length Tye40 (n1 100 bg (fd 10 Tyf42_10 rfl (n1 100 bg (l1 1 (sl bb ap bd) dW Tya40 (n1 100 bg (lS ap.length Tye40 (n1 100 bg (c0 ((aF.length:Int) != (ap.length:Int)) (m3 false (.bool ((aF.length:Int) != (ap.length:Int))) (cg bg) (wt (⟨_,eG,((aF.length:Int) != (ap.length:Int)),fR,((cw.sub.trans da.sub).trans d6.sub),dW,h⟩))))))))))))))))
       ·rintro _ fU ⟨eE,dn,d3,rfl,b8,eH,h⟩
        unfold f21_j3 at h
        refine cd h (fun d7 h=>?_) (fun d7 h=>?_)
        ·refine cT d7 (sr (m2 vN (wt (wp_ret (thenR (blkR (thenR (thenR (blkR (thenR ?_))))))))))
         cases (oi h).trans hr_
         exact retA1 rfl (resT rfl) ⟨dn,rfl,(eH.sel [])⟩
        ·refine cF d7 (wp_skip (thenN (sr (m2 (iI 0) (wt (wp_block (wp_loopG (fun g_ a w=>∃ eI a9 cB,∃ (C:Nat),g_=cB.length∧a=fr 161 (updL eI [(0,sl b2 a4 b3),(1,sl cy a5 cz),(5,iI (ao:Int)),(6,pp bo 0),(7,pp bp 0),(8,iI (C:Int))])∧KH.sub dn a9∧SR K a9 wi w [] [.box (zz wi) bo (vS b4 bx bF bz bG bH b9 b5 cb cc bI ce cf bJ ch ci bK cj bA aF bB).toArray 42,.box (zz wi) bp (vS b6 bC bL bD bM bN ck b7 cl cm bO cn co bP cq cr bQ ct bb ap bd).toArray 42]∧aF.drop C=cB∧f21_l2 k F ao ap (f21_l1 k F a5 bE) cB C=some r_) aF.length ?_ ?_)))))))
         ·exact ⟨_,dn,aF,0,rfl,fR,kr,eH,List.drop_zero,h⟩
         ·rintro _ _ aY ⟨eI,a9,cB,C,rfl,rfl,bX,dX,dp,h⟩
          rcases cB with _ | ⟨⟨l,m,p,q,s⟩,cB⟩
          ·unfold f21_l2 at h
           exact wp_seq (sr (m1 (iI (C:Int)) (fd 10 Tyf42_10 rfl (l1 0 (sl bA aF bB) dX Tya40 (lS aF.length Tye40 (bcm (r:=false) rfl rfl (congrArg some (drop_nil_lt dp)) (wt (cndF rfl (wp_exit (thenX (thenX (blkX (blkN (thenN (wp_region_lit (m1 (iI (ao:Int)) (bar (r:=((ao + 1:Nat):Int)) rfl rfl (inc_ok (le_big (((ms eq cA)).len) (by decide) (drop_cons_lt dm))) (m2 (iI ((ao + 1:Nat):Int)) (wt (⟨_,Nat.lt_succ_self _,_,a9,bE,ao + 1,rfl,fR,(((cA.trans aX).trans b8).trans bX),(dX.sel []),drop_cons_next dm,h⟩))))))))))))))))))))
          ·unfold f21_l2 at h
           refine wp_seq (sr (m1 (iI (C:Int)) (fd 10 Tyf42_10 rfl (l1 0 (sl bA aF bB) dX Tya40 (lS aF.length Tye40 (bcm (r:=true) rfl rfl (congrArg some (drop_cons_t dp)) (wt (cndT rfl (wp_skip (thenN (wp_seq (wp_block (wp_cut (fun a w=>∃ eJ d8 dq cZ db dr dC dD ds dE dF d9 dt c2 dc du dG dH dv dI dJ,a=fr 161 (updL eJ [(0,sl b2 a4 b3),(1,sl cy a5 cz),(5,iI (ao:Int)),(6,pp bo 0),(7,pp bp 0),(8,iI (C:Int)),(9,pp d8 0),(10,pp d9 0)])∧SR K a9 wi w [] [.box (zz wi) bo (vS b4 bx bF bz bG bH b9 b5 cb cc bI ce cf bJ ch ci bK cj bA aF bB).toArray 42,.box (zz wi) bp (vS b6 bC bL bD bM bN ck b7 cl cm bO cn co bP cq cr bQ ct bb ap bd).toArray 42,.box (zz wi) d8 (vC dq cZ db dC dr dD dE ds dF).toArray 87,.box (zz wi) d9 (vC dt c2 dc dG du dH dI dv dJ).toArray 87]∧cZ.size ≤ mB∧tE a9 dC dD dr∧tS a9 dE dF ds∧c2.size ≤ mB∧tE a9 dG dH du∧tS a9 dI dJ dv∧f21_j4 k F C dq cZ db dr ds dt c2 dc du dv (f21_l2 k F ao ap (f21_l1 k F a5 bE) cB)=some r_) ?_ ?_)))))))))))))
           ·have ba:=dX.drew
            refine regAny (E:=[12,13]) (F:=FW a9 [.box (zz wi) bo (vS b4 bx bF bz bG bH b9 b5 cb cc bI ce cf bJ ch ci bK cj bA aF bB).toArray 42,.box (zz wi) bp (vS b6 bC bL bD bM bN ck b7 cl cm bO cn co bP cq cr bQ ct bb ap bd).toArray 42]) (L:=(lb 14 0)) ymx rfl rfl (tk 0 (pp bo 10) (lb 14 1) rfl (fun w=>fld_r (o':=10) Tyf42_10 rfl rfl) (heldF (fq [0,1] ba)) (tf 1 (sl bA aF bB) ([[12,1],[13,1]]) (lb 14 3) rfl (fq [0,1] ba) (fun w hF=>lb1_r (i:=0) (v:=sl bA aF bB) hF rfl Tya40 rfl rfl) (tk 2 (iI (C:Int)) (lb 14 7) rfl (fun w=>mv_r (v:=iI (C:Int)) rfl) (heldF (fq [0,1] ba)) ?_)))
            obtain ⟨eK,eL,fV,fe,fW,ff,fg⟩:=((mc eB ((aX.trans b8).trans bX))).row.at_ (drop_cons_at dp)
            obtain ⟨t,u,x,y,rfl,aZ,a2,a3⟩:=RDCase.open fg
            refine tk 3 (pp eK (eL + C * 5)) (lb 14 15) rfl (fun w=>idxN_r (b:=eK) (o:=eL) (i:=C) Tye40 Tys87 rfl fe rfl (drop_cons_lt dp)) (heldF (fq [0,1] ba)) (tf 4 (.agg (vC l m p t q u x s y).toArray) ([[12,4],[13,4]]) (lb 14 31) rfl (fq [0,1] ba) (fun w hF=>ldN_r (cs:=(vC l m p t q u x s y)) Tya87 Tys87 rfl rfl (fun j v hj=>hF.cell (kr.cell (ff j v hj)))) (tk 5 (pp bp 10) (lb 14 63) rfl (fun w=>fld_r (o':=10) Tyf42_10 rfl rfl) (heldF (fq [0,1] ba)) (tk 7 (iI (C:Int)) (lb 14 191) rfl (fun w=>mv_r (v:=iI (C:Int)) rfl) (heldF (fq [0,1] ba)) (anyAll (rs:=[6,10,11]) (by kernel_rfl) (by decide) (allC ?_ (allC ?_ (allC ?_ allN)))))))
            ·refine opL (i:=6) rfl (l1 1 (sl bb ap bd) ba Tya40 (wt ⟨heldF (fq [0,1] ba),?_⟩))
             obtain ⟨⟨c,d,e,f,g⟩,ea,h⟩:=ob h
             obtain ⟨eM,eN,fX,fh,fY,dd,fi⟩:=((mc c9 ((aX.trans b8).trans bX))).row.at_ (idxO_at ea).1
             obtain ⟨ak,al,am,an,rfl,c3,c4,c5⟩:=RDCase.open fi
             refine tk 8 (.pointer (some ⟨eM,eN + (C:Int).toNat * 5,none⟩)) (lb 14 511) rfl (fun w=>idxG_r (b:=eM) (o:=eN) (i:=(C:Int)) Tye40 Tys87 rfl fh rfl (idxO_at ea).2.1 (idxO_at ea).2.2) (heldF (fq [0,1] ba)) (anyAll (rs:=[9,10,11]) (by kernel_rfl) (by decide) (allC ?_ (allC ?_ (allC ?_ allN))))
             ·refine opL (i:=9) rfl (lD (vC c d e ak f al am g an) Tya87 Tys87 rfl (fun j v hj=>ba.cell (kr.cell (dd j v hj))) (wt ⟨heldF (fq [0,1] ba),anyAll (rs:=[10,11]) (by kernel_rfl) (by decide) (allC ?_ (allC ?_ allN))⟩))
              ·exact opL (i:=10) rfl (aC zC.toArray ba Tyz87 (fun cx bh=>(wt ⟨heldF (fq [1,2] bh),aO 11 rfl (aC zC.toArray bh Tyz87 (fun cC z=>(wt ⟨heldF (fq [2,3] z),aO 12 rfl (sI 1 (.agg (vC l m p t q u x s y).toArray) ((vC l m p t q u x s y).toArray) z Tys87 rfl rfl (fun bi A=>(wt ⟨heldE (i:=12) rfl rfl,aO 13 rfl (sI 0 (.agg (vC c d e ak f al am g an).toArray) ((vC c d e ak f al am g an).toArray) A Tys87 rfl rfl (fun a6 B=>(wt ⟨heldE (i:=13) rfl rfl,aD (thenN (⟨_,(zz aY.drew),l,m,p,q,t,u,s,x,y,(zz cx),c,d,e,f,ak,al,g,am,an,fR,(B.sel [2,3,1,0]),aZ,a2,a3,c3,c4,c5,h⟩))⟩)))⟩)))⟩)))⟩)))
              ·exact opL (i:=11) rfl (aC zC.toArray ba Tyz87 (fun cx bh=>(wt ⟨heldF (fq [1,2] bh),aO 10 rfl (aC zC.toArray bh Tyz87 (fun cC z=>(wt ⟨heldF (fq [2,3] z),aO 12 rfl (sI 0 (.agg (vC l m p t q u x s y).toArray) ((vC l m p t q u x s y).toArray) z Tys87 rfl rfl (fun bi A=>(wt ⟨heldE (i:=12) rfl rfl,aO 13 rfl (sI 1 (.agg (vC c d e ak f al am g an).toArray) ((vC c d e ak f al am g an).toArray) A Tys87 rfl rfl (fun a6 B=>(wt ⟨heldE (i:=13) rfl rfl,aD (thenN (⟨_,(zz cx),l,m,p,q,t,u,s,x,y,(zz aY.drew),c,d,e,f,ak,al,g,am,an,fR,(B.sel [2,3,0,1]),aZ,a2,a3,c3,c4,c5,h⟩))⟩)))⟩)))⟩)))⟩)))
             ·refine opL (i:=10) rfl (aC zC.toArray ba Tyz87 (fun cx bh=>(wt ⟨heldF (fq [1,2] bh),anyAll (rs:=[9,11]) (by kernel_rfl) (by decide) (allC ?_ (allC ?_ allN))⟩)))
              ·exact opL (i:=9) rfl (lD (vC c d e ak f al am g an) Tya87 Tys87 rfl (fun j v hj=>bh.cell (kr.cell (dd j v hj))) (wt ⟨heldF (fq [1,2] bh),aO 11 rfl (aC zC.toArray bh Tyz87 (fun cC z=>(wt ⟨heldF (fq [2,3] z),aO 12 rfl (sI 1 (.agg (vC l m p t q u x s y).toArray) ((vC l m p t q u x s y).toArray) z Tys87 rfl rfl (fun bi A=>(wt ⟨heldE (i:=12) rfl rfl,aO 13 rfl (sI 0 (.agg (vC c d e ak f al am g an).toArray) ((vC c d e ak f al am g an).toArray) A Tys87 rfl rfl (fun a6 B=>(wt ⟨heldE (i:=13) rfl rfl,aD (thenN (⟨_,(zz aY.drew),l,m,p,q,t,u,s,x,y,(zz cx),c,d,e,f,ak,al,g,am,an,fR,(B.sel [2,3,1,0]),aZ,a2,a3,c3,c4,c5,h⟩))⟩)))⟩)))⟩)))⟩))
              ·refine opL (i:=11) rfl (aC zC.toArray bh Tyz87 (fun cC z=>(wt ⟨heldF (fq [2,3] z),anyAll (rs:=[9,12]) (by kernel_rfl) (by decide) (allC ?_ (allC ?_ allN))⟩)))
               ·exact opL (i:=9) rfl (lD (vC c d e ak f al am g an) Tya87 Tys87 rfl (fun j v hj=>z.cell (kr.cell (dd j v hj))) (wt ⟨heldF (fq [2,3] z),aO 12 rfl (sI 1 (.agg (vC l m p t q u x s y).toArray) ((vC l m p t q u x s y).toArray) z Tys87 rfl rfl (fun bi A=>(wt ⟨heldE (i:=12) rfl rfl,aO 13 rfl (sI 0 (.agg (vC c d e ak f al am g an).toArray) ((vC c d e ak f al am g an).toArray) A Tys87 rfl rfl (fun a6 B=>(wt ⟨heldE (i:=13) rfl rfl,aD (thenN (⟨_,(zz aY.drew),l,m,p,q,t,u,s,x,y,(zz cx),c,d,e,f,ak,al,g,am,an,fR,(B.sel [2,3,1,0]),aZ,a2,a3,c3,c4,c5,h⟩))⟩)))⟩)))⟩))
               ·exact opL (i:=12) rfl (sI 1 (.agg (vC l m p t q u x s y).toArray) ((vC l m p t q u x s y).toArray) z Tys87 rfl rfl (fun bi A=>(wt ⟨heldE (i:=12) rfl rfl,aO 9 rfl (lD (vC c d e ak f al am g an) Tya87 Tys87 rfl (fun j v hj=>A.cell (kr.cell (dd j v hj))) (wt ⟨heldE (i:=12) rfl rfl,aO 13 rfl (sI 0 (.agg (vC c d e ak f al am g an).toArray) ((vC c d e ak f al am g an).toArray) A Tys87 rfl rfl (fun a6 B=>(wt ⟨heldE (i:=13) rfl rfl,aD (thenN (⟨_,(zz aY.drew),l,m,p,q,t,u,s,x,y,(zz cx),c,d,e,f,ak,al,g,am,an,fR,(B.sel [2,3,1,0]),aZ,a2,a3,c3,c4,c5,h⟩))⟩)))⟩))⟩)))
             ·refine opL (i:=11) rfl (aC zC.toArray ba Tyz87 (fun cx bh=>(wt ⟨heldF (fq [1,2] bh),anyAll (rs:=[9,10]) (by kernel_rfl) (by decide) (allC ?_ (allC ?_ allN))⟩)))
              ·exact opL (i:=9) rfl (lD (vC c d e ak f al am g an) Tya87 Tys87 rfl (fun j v hj=>bh.cell (kr.cell (dd j v hj))) (wt ⟨heldF (fq [1,2] bh),aO 10 rfl (aC zC.toArray bh Tyz87 (fun cC z=>(wt ⟨heldF (fq [2,3] z),aO 12 rfl (sI 0 (.agg (vC l m p t q u x s y).toArray) ((vC l m p t q u x s y).toArray) z Tys87 rfl rfl (fun bi A=>(wt ⟨heldE (i:=12) rfl rfl,aO 13 rfl (sI 1 (.agg (vC c d e ak f al am g an).toArray) ((vC c d e ak f al am g an).toArray) A Tys87 rfl rfl (fun a6 B=>(wt ⟨heldE (i:=13) rfl rfl,aD (thenN (⟨_,(zz cx),l,m,p,q,t,u,s,x,y,(zz aY.drew),c,d,e,f,ak,al,g,am,an,fR,(B.sel [2,3,0,1]),aZ,a2,a3,c3,c4,c5,h⟩))⟩)))⟩)))⟩)))⟩))
              ·refine opL (i:=10) rfl (aC zC.toArray bh Tyz87 (fun cC z=>(wt ⟨heldF (fq [2,3] z),anyAll (rs:=[9,12]) (by kernel_rfl) (by decide) (allC ?_ (allC ?_ allN))⟩)))
               ·exact opL (i:=9) rfl (lD (vC c d e ak f al am g an) Tya87 Tys87 rfl (fun j v hj=>z.cell (kr.cell (dd j v hj))) (wt ⟨heldF (fq [2,3] z),aO 12 rfl (sI 0 (.agg (vC l m p t q u x s y).toArray) ((vC l m p t q u x s y).toArray) z Tys87 rfl rfl (fun bi A=>(wt ⟨heldE (i:=12) rfl rfl,aO 13 rfl (sI 1 (.agg (vC c d e ak f al am g an).toArray) ((vC c d e ak f al am g an).toArray) A Tys87 rfl rfl (fun a6 B=>(wt ⟨heldE (i:=13) rfl rfl,aD (thenN (⟨_,(zz cx),l,m,p,q,t,u,s,x,y,(zz aY.drew),c,d,e,f,ak,al,g,am,an,fR,(B.sel [2,3,0,1]),aZ,a2,a3,c3,c4,c5,h⟩))⟩)))⟩)))⟩))
               ·exact opL (i:=12) rfl (sI 0 (.agg (vC l m p t q u x s y).toArray) ((vC l m p t q u x s y).toArray) z Tys87 rfl rfl (fun bi A=>(wt ⟨heldE (i:=12) rfl rfl,aO 9 rfl (lD (vC c d e ak f al am g an) Tya87 Tys87 rfl (fun j v hj=>A.cell (kr.cell (dd j v hj))) (wt ⟨heldE (i:=12) rfl rfl,aO 13 rfl (sI 1 (.agg (vC c d e ak f al am g an).toArray) ((vC c d e ak f al am g an).toArray) A Tys87 rfl rfl (fun a6 B=>(wt ⟨heldE (i:=13) rfl rfl,aD (thenN (⟨_,(zz cx),l,m,p,q,t,u,s,x,y,(zz aY.drew),c,d,e,f,ak,al,g,am,an,fR,(B.sel [2,3,0,1]),aZ,a2,a3,c3,c4,c5,h⟩))⟩)))⟩))⟩)))
            ·refine opL (i:=10) rfl (aC zC.toArray ba Tyz87 (fun bY a7=>(wt ⟨heldF (fq [1,2] a7),anyAll (rs:=[6,11]) (by kernel_rfl) (by decide) (allC ?_ (allC ?_ allN))⟩)))
             ·refine opL (i:=6) rfl (l1 2 (sl bb ap bd) a7 Tya40 (wt ⟨heldF (fq [1,2] a7),?_⟩))
              obtain ⟨⟨c,d,e,f,g⟩,de,h⟩:=ob h
              obtain ⟨dK,dL,fj,ec,fk,df,ed⟩:=((mc c9 ((aX.trans b8).trans bX))).row.at_ (idxO_at de).1
              obtain ⟨aR,aS,aT,aU,rfl,dg,dh,di⟩:=RDCase.open ed
              refine tk 8 (.pointer (some ⟨dK,dL + (C:Int).toNat * 5,none⟩)) (lb 14 1535) rfl (fun w=>idxG_r (b:=dK) (o:=dL) (i:=(C:Int)) Tye40 Tys87 rfl ec rfl (idxO_at de).2.1 (idxO_at de).2.2) (heldF (fq [1,2] a7)) (anyAll (rs:=[9,11]) (by kernel_rfl) (by decide) (allC ?_ (allC ?_ allN)))
              ·exact opL (i:=9) rfl (lD (vC c d e aR f aS aT g aU) Tya87 Tys87 rfl (fun j v hj=>a7.cell (kr.cell (df j v hj))) (wt ⟨heldF (fq [1,2] a7),aO 11 rfl (aC zC.toArray a7 Tyz87 (fun cC z=>(wt ⟨heldF (fq [2,3] z),aO 12 rfl (sI 1 (.agg (vC l m p t q u x s y).toArray) ((vC l m p t q u x s y).toArray) z Tys87 rfl rfl (fun bi A=>(wt ⟨heldE (i:=12) rfl rfl,aO 13 rfl (sI 0 (.agg (vC c d e aR f aS aT g aU).toArray) ((vC c d e aR f aS aT g aU).toArray) A Tys87 rfl rfl (fun a6 B=>(wt ⟨heldE (i:=13) rfl rfl,aD (thenN (⟨_,(zz aY.drew),l,m,p,q,t,u,s,x,y,(zz bY),c,d,e,f,aR,aS,g,aT,aU,fR,(B.sel [2,3,1,0]),aZ,a2,a3,dg,dh,di,h⟩))⟩)))⟩)))⟩)))⟩))
              ·refine opL (i:=11) rfl (aC zC.toArray a7 Tyz87 (fun cC z=>(wt ⟨heldF (fq [2,3] z),anyAll (rs:=[9,12]) (by kernel_rfl) (by decide) (allC ?_ (allC ?_ allN))⟩)))
               ·exact opL (i:=9) rfl (lD (vC c d e aR f aS aT g aU) Tya87 Tys87 rfl (fun j v hj=>z.cell (kr.cell (df j v hj))) (wt ⟨heldF (fq [2,3] z),aO 12 rfl (sI 1 (.agg (vC l m p t q u x s y).toArray) ((vC l m p t q u x s y).toArray) z Tys87 rfl rfl (fun bi A=>(wt ⟨heldE (i:=12) rfl rfl,aO 13 rfl (sI 0 (.agg (vC c d e aR f aS aT g aU).toArray) ((vC c d e aR f aS aT g aU).toArray) A Tys87 rfl rfl (fun a6 B=>(wt ⟨heldE (i:=13) rfl rfl,aD (thenN (⟨_,(zz aY.drew),l,m,p,q,t,u,s,x,y,(zz bY),c,d,e,f,aR,aS,g,aT,aU,fR,(B.sel [2,3,1,0]),aZ,a2,a3,dg,dh,di,h⟩))⟩)))⟩)))⟩))
               ·exact opL (i:=12) rfl (sI 1 (.agg (vC l m p t q u x s y).toArray) ((vC l m p t q u x s y).toArray) z Tys87 rfl rfl (fun bi A=>(wt ⟨heldE (i:=12) rfl rfl,aO 9 rfl (lD (vC c d e aR f aS aT g aU) Tya87 Tys87 rfl (fun j v hj=>A.cell (kr.cell (df j v hj))) (wt ⟨heldE (i:=12) rfl rfl,aO 13 rfl (sI 0 (.agg (vC c d e aR f aS aT g aU).toArray) ((vC c d e aR f aS aT g aU).toArray) A Tys87 rfl rfl (fun a6 B=>(wt ⟨heldE (i:=13) rfl rfl,aD (thenN (⟨_,(zz aY.drew),l,m,p,q,t,u,s,x,y,(zz bY),c,d,e,f,aR,aS,g,aT,aU,fR,(B.sel [2,3,1,0]),aZ,a2,a3,dg,dh,di,h⟩))⟩)))⟩))⟩)))
             ·refine opL (i:=11) rfl (aC zC.toArray a7 Tyz87 (fun fl a8=>(wt ⟨heldF (fq [2,3] a8),anyAll (rs:=[6,12]) (by kernel_rfl) (by decide) (allC ?_ (allC ?_ allN))⟩)))
              ·refine opL (i:=6) rfl (l1 3 (sl bb ap bd) a8 Tya40 (wt ⟨heldF (fq [2,3] a8),?_⟩))
               obtain ⟨⟨c,d,e,f,g⟩,dj,h⟩:=ob h
               obtain ⟨dM,dN,fm,ee,fn,dO,ef⟩:=((mc c9 ((aX.trans b8).trans bX))).row.at_ (idxO_at dj).1
               obtain ⟨bj,bk,bm,bn,rfl,dP,dQ,dR⟩:=RDCase.open ef
               refine tk 8 (.pointer (some ⟨dM,dN + (C:Int).toNat * 5,none⟩)) (lb 14 3583) rfl (fun w=>idxG_r (b:=dM) (o:=dN) (i:=(C:Int)) Tye40 Tys87 rfl ee rfl (idxO_at dj).2.1 (idxO_at dj).2.2) (heldF (fq [2,3] a8)) (anyAll (rs:=[9,12]) (by kernel_rfl) (by decide) (allC ?_ (allC ?_ allN)))
               ·exact opL (i:=9) rfl (lD (vC c d e bj f bk bm g bn) Tya87 Tys87 rfl (fun j v hj=>a8.cell (kr.cell (dO j v hj))) (wt ⟨heldF (fq [2,3] a8),aO 12 rfl (sI 1 (.agg (vC l m p t q u x s y).toArray) ((vC l m p t q u x s y).toArray) a8 Tys87 rfl rfl (fun bi A=>(wt ⟨heldE (i:=12) rfl rfl,aO 13 rfl (sI 0 (.agg (vC c d e bj f bk bm g bn).toArray) ((vC c d e bj f bk bm g bn).toArray) A Tys87 rfl rfl (fun a6 B=>(wt ⟨heldE (i:=13) rfl rfl,aD (thenN (⟨_,(zz aY.drew),l,m,p,q,t,u,s,x,y,(zz bY),c,d,e,f,bj,bk,g,bm,bn,fR,(B.sel [2,3,1,0]),aZ,a2,a3,dP,dQ,dR,h⟩))⟩)))⟩)))⟩))
               ·exact opL (i:=12) rfl (sI 1 (.agg (vC l m p t q u x s y).toArray) ((vC l m p t q u x s y).toArray) a8 Tys87 rfl rfl (fun bi A=>(wt ⟨heldE (i:=12) rfl rfl,aO 9 rfl (lD (vC c d e bj f bk bm g bn) Tya87 Tys87 rfl (fun j v hj=>A.cell (kr.cell (dO j v hj))) (wt ⟨heldE (i:=12) rfl rfl,aO 13 rfl (sI 0 (.agg (vC c d e bj f bk bm g bn).toArray) ((vC c d e bj f bk bm g bn).toArray) A Tys87 rfl rfl (fun a6 B=>(wt ⟨heldE (i:=13) rfl rfl,aD (thenN (⟨_,(zz aY.drew),l,m,p,q,t,u,s,x,y,(zz bY),c,d,e,f,bj,bk,g,bm,bn,fR,(B.sel [2,3,1,0]),aZ,a2,a3,dP,dQ,dR,h⟩))⟩)))⟩))⟩)))
              ·refine opL (i:=12) rfl (sI 1 (.agg (vC l m p t q u x s y).toArray) ((vC l m p t q u x s y).toArray) a8 Tys87 rfl rfl (fun fo dk=>(wt ⟨heldE (i:=12) rfl rfl,aO 6 rfl (l1 3 (sl bb ap bd) dk Tya40 (wt ⟨heldE (i:=12) rfl rfl,?_⟩))⟩)))
               obtain ⟨⟨c,d,e,f,g⟩,dl,h⟩:=ob h
               obtain ⟨dS,dT,fp,eg,fs,eh,ei⟩:=((mc c9 ((aX.trans b8).trans bX))).row.at_ (idxO_at dl).1
               obtain ⟨cD,cG,cH,cI,rfl,ej,ek,el⟩:=RDCase.open ei
               exact tk 8 (.pointer (some ⟨dS,dT + (C:Int).toNat * 5,none⟩)) (lb 14 7679) rfl (fun w=>idxG_r (b:=dS) (o:=dT) (i:=(C:Int)) Tye40 Tys87 rfl eg rfl (idxO_at dl).2.1 (idxO_at dl).2.2) (heldE (i:=12) rfl rfl) (aO 9 rfl (lD (vC c d e cD f cG cH g cI) Tya87 Tys87 rfl (fun j v hj=>dk.cell (kr.cell (eh j v hj))) (wt ⟨heldE (i:=12) rfl rfl,aO 13 rfl (sI 0 (.agg (vC c d e cD f cG cH g cI).toArray) ((vC c d e cD f cG cH g cI).toArray) dk Tys87 rfl rfl (fun a6 B=>(wt ⟨heldE (i:=13) rfl rfl,aD (thenN (⟨_,(zz aY.drew),l,m,p,q,t,u,s,x,y,(zz bY),c,d,e,f,cD,cG,g,cH,cI,fR,(B.sel [2,3,1,0]),aZ,a2,a3,ej,ek,el,h⟩))⟩)))⟩)))
            ·refine opL (i:=11) rfl (aC zC.toArray ba Tyz87 (fun bY a7=>(wt ⟨heldF (fq [1,2] a7),anyAll (rs:=[6,10]) (by kernel_rfl) (by decide) (allC ?_ (allC ?_ allN))⟩)))
             ·refine opL (i:=6) rfl (l1 2 (sl bb ap bd) a7 Tya40 (wt ⟨heldF (fq [1,2] a7),?_⟩))
              obtain ⟨⟨c,d,e,f,g⟩,de,h⟩:=ob h
              obtain ⟨dK,dL,fj,ec,fk,df,ed⟩:=((mc c9 ((aX.trans b8).trans bX))).row.at_ (idxO_at de).1
              obtain ⟨aR,aS,aT,aU,rfl,dg,dh,di⟩:=RDCase.open ed
              refine tk 8 (.pointer (some ⟨dK,dL + (C:Int).toNat * 5,none⟩)) (lb 14 2559) rfl (fun w=>idxG_r (b:=dK) (o:=dL) (i:=(C:Int)) Tye40 Tys87 rfl ec rfl (idxO_at de).2.1 (idxO_at de).2.2) (heldF (fq [1,2] a7)) (anyAll (rs:=[9,10]) (by kernel_rfl) (by decide) (allC ?_ (allC ?_ allN)))
              ·exact opL (i:=9) rfl (lD (vC c d e aR f aS aT g aU) Tya87 Tys87 rfl (fun j v hj=>a7.cell (kr.cell (df j v hj))) (wt ⟨heldF (fq [1,2] a7),aO 10 rfl (aC zC.toArray a7 Tyz87 (fun cC z=>(wt ⟨heldF (fq [2,3] z),aO 12 rfl (sI 0 (.agg (vC l m p t q u x s y).toArray) ((vC l m p t q u x s y).toArray) z Tys87 rfl rfl (fun bi A=>(wt ⟨heldE (i:=12) rfl rfl,aO 13 rfl (sI 1 (.agg (vC c d e aR f aS aT g aU).toArray) ((vC c d e aR f aS aT g aU).toArray) A Tys87 rfl rfl (fun a6 B=>(wt ⟨heldE (i:=13) rfl rfl,aD (thenN (⟨_,(zz bY),l,m,p,q,t,u,s,x,y,(zz aY.drew),c,d,e,f,aR,aS,g,aT,aU,fR,(B.sel [2,3,0,1]),aZ,a2,a3,dg,dh,di,h⟩))⟩)))⟩)))⟩)))⟩))
              ·refine opL (i:=10) rfl (aC zC.toArray a7 Tyz87 (fun cC z=>(wt ⟨heldF (fq [2,3] z),anyAll (rs:=[9,12]) (by kernel_rfl) (by decide) (allC ?_ (allC ?_ allN))⟩)))
               ·exact opL (i:=9) rfl (lD (vC c d e aR f aS aT g aU) Tya87 Tys87 rfl (fun j v hj=>z.cell (kr.cell (df j v hj))) (wt ⟨heldF (fq [2,3] z),aO 12 rfl (sI 0 (.agg (vC l m p t q u x s y).toArray) ((vC l m p t q u x s y).toArray) z Tys87 rfl rfl (fun bi A=>(wt ⟨heldE (i:=12) rfl rfl,aO 13 rfl (sI 1 (.agg (vC c d e aR f aS aT g aU).toArray) ((vC c d e aR f aS aT g aU).toArray) A Tys87 rfl rfl (fun a6 B=>(wt ⟨heldE (i:=13) rfl rfl,aD (thenN (⟨_,(zz bY),l,m,p,q,t,u,s,x,y,(zz aY.drew),c,d,e,f,aR,aS,g,aT,aU,fR,(B.sel [2,3,0,1]),aZ,a2,a3,dg,dh,di,h⟩))⟩)))⟩)))⟩))
               ·exact opL (i:=12) rfl (sI 0 (.agg (vC l m p t q u x s y).toArray) ((vC l m p t q u x s y).toArray) z Tys87 rfl rfl (fun bi A=>(wt ⟨heldE (i:=12) rfl rfl,aO 9 rfl (lD (vC c d e aR f aS aT g aU) Tya87 Tys87 rfl (fun j v hj=>A.cell (kr.cell (df j v hj))) (wt ⟨heldE (i:=12) rfl rfl,aO 13 rfl (sI 1 (.agg (vC c d e aR f aS aT g aU).toArray) ((vC c d e aR f aS aT g aU).toArray) A Tys87 rfl rfl (fun a6 B=>(wt ⟨heldE (i:=13) rfl rfl,aD (thenN (⟨_,(zz bY),l,m,p,q,t,u,s,x,y,(zz aY.drew),c,d,e,f,aR,aS,g,aT,aU,fR,(B.sel [2,3,0,1]),aZ,a2,a3,dg,dh,di,h⟩))⟩)))⟩))⟩)))
             ·refine opL (i:=10) rfl (aC zC.toArray a7 Tyz87 (fun fl a8=>(wt ⟨heldF (fq [2,3] a8),anyAll (rs:=[6,12]) (by kernel_rfl) (by decide) (allC ?_ (allC ?_ allN))⟩)))
              ·refine opL (i:=6) rfl (l1 3 (sl bb ap bd) a8 Tya40 (wt ⟨heldF (fq [2,3] a8),?_⟩))
               obtain ⟨⟨c,d,e,f,g⟩,dj,h⟩:=ob h
               obtain ⟨dM,dN,fm,ee,fn,dO,ef⟩:=((mc c9 ((aX.trans b8).trans bX))).row.at_ (idxO_at dj).1
               obtain ⟨bj,bk,bm,bn,rfl,dP,dQ,dR⟩:=RDCase.open ef
               refine tk 8 (.pointer (some ⟨dM,dN + (C:Int).toNat * 5,none⟩)) (lb 14 3583) rfl (fun w=>idxG_r (b:=dM) (o:=dN) (i:=(C:Int)) Tye40 Tys87 rfl ee rfl (idxO_at dj).2.1 (idxO_at dj).2.2) (heldF (fq [2,3] a8)) (anyAll (rs:=[9,12]) (by kernel_rfl) (by decide) (allC ?_ (allC ?_ allN)))
               ·exact opL (i:=9) rfl (lD (vC c d e bj f bk bm g bn) Tya87 Tys87 rfl (fun j v hj=>a8.cell (kr.cell (dO j v hj))) (wt ⟨heldF (fq [2,3] a8),aO 12 rfl (sI 0 (.agg (vC l m p t q u x s y).toArray) ((vC l m p t q u x s y).toArray) a8 Tys87 rfl rfl (fun bi A=>(wt ⟨heldE (i:=12) rfl rfl,aO 13 rfl (sI 1 (.agg (vC c d e bj f bk bm g bn).toArray) ((vC c d e bj f bk bm g bn).toArray) A Tys87 rfl rfl (fun a6 B=>(wt ⟨heldE (i:=13) rfl rfl,aD (thenN (⟨_,(zz bY),l,m,p,q,t,u,s,x,y,(zz aY.drew),c,d,e,f,bj,bk,g,bm,bn,fR,(B.sel [2,3,0,1]),aZ,a2,a3,dP,dQ,dR,h⟩))⟩)))⟩)))⟩))
               ·exact opL (i:=12) rfl (sI 0 (.agg (vC l m p t q u x s y).toArray) ((vC l m p t q u x s y).toArray) a8 Tys87 rfl rfl (fun bi A=>(wt ⟨heldE (i:=12) rfl rfl,aO 9 rfl (lD (vC c d e bj f bk bm g bn) Tya87 Tys87 rfl (fun j v hj=>A.cell (kr.cell (dO j v hj))) (wt ⟨heldE (i:=12) rfl rfl,aO 13 rfl (sI 1 (.agg (vC c d e bj f bk bm g bn).toArray) ((vC c d e bj f bk bm g bn).toArray) A Tys87 rfl rfl (fun a6 B=>(wt ⟨heldE (i:=13) rfl rfl,aD (thenN (⟨_,(zz bY),l,m,p,q,t,u,s,x,y,(zz aY.drew),c,d,e,f,bj,bk,g,bm,bn,fR,(B.sel [2,3,0,1]),aZ,a2,a3,dP,dQ,dR,h⟩))⟩)))⟩))⟩)))
              ·refine opL (i:=12) rfl (sI 0 (.agg (vC l m p t q u x s y).toArray) ((vC l m p t q u x s y).toArray) a8 Tys87 rfl rfl (fun fo dk=>(wt ⟨heldE (i:=12) rfl rfl,aO 6 rfl (l1 3 (sl bb ap bd) dk Tya40 (wt ⟨heldE (i:=12) rfl rfl,?_⟩))⟩)))
               obtain ⟨⟨c,d,e,f,g⟩,dl,h⟩:=ob h
               obtain ⟨dS,dT,fp,eg,fs,eh,ei⟩:=((mc c9 ((aX.trans b8).trans bX))).row.at_ (idxO_at dl).1
               obtain ⟨cD,cG,cH,cI,rfl,ej,ek,el⟩:=RDCase.open ei
               exact tk 8 (.pointer (some ⟨dS,dT + (C:Int).toNat * 5,none⟩)) (lb 14 7679) rfl (fun w=>idxG_r (b:=dS) (o:=dT) (i:=(C:Int)) Tye40 Tys87 rfl eg rfl (idxO_at dl).2.1 (idxO_at dl).2.2) (heldE (i:=12) rfl rfl) (aO 9 rfl (lD (vC c d e cD f cG cH g cI) Tya87 Tys87 rfl (fun j v hj=>dk.cell (kr.cell (eh j v hj))) (wt ⟨heldE (i:=12) rfl rfl,aO 13 rfl (sI 1 (.agg (vC c d e cD f cG cH g cI).toArray) ((vC c d e cD f cG cH g cI).toArray) dk Tys87 rfl rfl (fun a6 B=>(wt ⟨heldE (i:=13) rfl rfl,aD (thenN (⟨_,(zz bY),l,m,p,q,t,u,s,x,y,(zz aY.drew),c,d,e,f,cD,cG,g,cH,cI,fR,(B.sel [2,3,0,1]),aZ,a2,a3,ej,ek,el,h⟩))⟩)))⟩)))
           ·rintro _ fZ ⟨eJ,d8,dq,cZ,db,dr,dC,dD,ds,dE,dF,d9,dt,c2,dc,du,dG,dH,dv,dI,dJ,rfl,bZ,f0,ft,fu,f1,fv,fx,h⟩
            unfold f21_j4 at h
            refine wp_cut (fun a w=>∃ eO dU em,a=fr 161 (updL eO [(0,sl b2 a4 b3),(1,sl cy a5 cz),(5,iI (ao:Int)),(6,pp bo 0),(7,pp bp 0),(8,iI (C:Int)),(160,.bool em)])∧KH.sub a9 dU∧SR K dU wi w [] [.box (zz wi) bo (vS b4 bx bF bz bG bH b9 b5 cb cc bI ce cf bJ ch ci bK cj bA aF bB).toArray 42,.box (zz wi) bp (vS b6 bC bL bD bM bN ck b7 cl cm bO cn co bP cq cr bQ ct bb ap bd).toArray 42]∧f21_j5 k F C em (f21_l2 k F ao ap (f21_l1 k F a5 bE) cB)=some r_) ?_ ?_
            ·refine wp_region_lit (fd 0 Tyf87_0 rfl (l1 2 (iI dq) bZ Tya3 (fd 0 Tyf87_0 rfl (l1 3 (iI dt) bZ Tya3 (c0 (dq != dt) (m1 (.bool (dq != dt)) (cd h (fun b0 h=>?_) (fun b0 h=>?_))))))))
             ·exact o1 131 b0 (o1 131 b0 (o1 131 b0 (o1 131 b0 (o1 131 b0 (m3 true vT (cg b0) (m1 vT (o0 138 (o0 138 (o0 138 (o0 138 (o0 138 (m3 true vT rfl (m1 vT (o0 145 (o0 145 (o0 145 (o0 145 (o0 145 (o0 145 (m3 true vT rfl (m1 vT (o0 153 (o0 153 (o0 153 (o0 153 (o0 153 (o0 153 (m3 true vT rfl (wt (⟨_,a9,true,fR,kr,(bZ.sel [0,1]),h⟩))))))))))))))))))))))))))))))
             ·refine n1 131 b0 (fd 1 Tyf87_1 rfl (n1 131 b0 (l1 2 (.string cZ) bZ Tya9 (n1 131 b0 (fd 1 Tyf87_1 rfl (n1 131 b0 (l1 3 (.string c2) bZ Tya9 (n1 131 b0 (bsc (r:=(!seq cZ c2)) rfl rfl rfl (m3 false (.bool (!seq cZ c2)) (cg b0) (m1 (.bool (!seq cZ c2)) (cd h (fun b1 h=>?_) (fun b1 h=>?_)))))))))))))
              ·exact o1 138 b1 (o1 138 b1 (o1 138 b1 (o1 138 b1 (o1 138 b1 (m3 true vT (cg b1) (m1 vT (o0 145 (o0 145 (o0 145 (o0 145 (o0 145 (o0 145 (m3 true vT rfl (m1 vT (o0 153 (o0 153 (o0 153 (o0 153 (o0 153 (o0 153 (m3 true vT rfl (wt (⟨_,a9,true,fR,kr,(bZ.sel [0,1]),h⟩)))))))))))))))))))))))
              ·refine n1 138 b1 (fd 2 Tyf87_2 rfl (n1 138 b1 (l1 2 (iI db) bZ Tya3 (n1 138 b1 (fd 2 Tyf87_2 rfl (n1 138 b1 (l1 3 (iI dc) bZ Tya3 (n1 138 b1 (c0 (db != dc) (m3 false (.bool (db != dc)) (cg b1) (m1 (.bool (db != dc)) (cd h (fun bv h=>?_) (fun bv h=>?_)))))))))))))
               ·exact o1 145 bv (o1 145 bv (o1 145 bv (o1 145 bv (o1 145 bv (o1 145 bv (m3 true vT (cg bv) (m1 vT (o0 153 (o0 153 (o0 153 (o0 153 (o0 153 (o0 153 (m3 true vT rfl (wt (⟨_,a9,true,fR,kr,(bZ.sel [0,1]),h⟩))))))))))))))))
               ·refine n1 145 bv (fd 3 Tyf87_3 rfl (n1 145 bv (l1 2 (sl dC dr dD) bZ Tya39 (n1 145 bv (fd 3 Tyf87_3 rfl (n1 145 bv (l1 3 (sl dG du dH) bZ Tya39 (n1 145 bv ?_))))))))
                obtain ⟨en,fy,h⟩:=ob h
                refine cv ([sl dC dr dD,sl dG du dH]) Tyb48 ((f48_ok k) fy (hG.mono (((cA.trans aX).trans b8).trans bX)) ft fv (pt bZ)) ?_
                rintro _ f2 ⟨fz,rfl,dw⟩
                have dV:=ca dw bZ
                refine n1 145 bv (uN en (m3 false (.bool (!en)) (cg bv) (m1 (.bool (!en)) (cd h (fun bw h=>?_) (fun bw h=>?_)))))
                ·exact o1 153 bw (o1 153 bw (o1 153 bw (o1 153 bw (o1 153 bw (o1 153 bw (m3 true vT (cg bw) (wt (⟨_,fz,true,fR,dw.sub,(dV.sel [0,1]),h⟩))))))))
                ·refine n1 153 bw (fd 4 Tyf87_4 rfl (n1 153 bw (l1 2 (sl dE ds dF) dV Tya36 (n1 153 bw (fd 4 Tyf87_4 rfl (n1 153 bw (l1 3 (sl dI dv dJ) dV Tya36 (n1 153 bw ?_))))))))
                 obtain ⟨eo,fA,h⟩:=ob h
                 refine cv ([sl dE ds dF,sl dI dv dJ]) Tyb21 (IH21 fA (hG.mono ((((cA.trans aX).trans b8).trans bX).trans dw.sub)) (ms fu dw.sub) (ms fx dw.sub) (pt dV)) ?_
                 rintro _ f3 ⟨fB,rfl,eP⟩
                 have fC:=ca eP dV
                 exact n1 153 bw (uN eo (m3 false (.bool (!eo)) (cg bw) (wt (⟨_,fB,(!eo),fR,(dw.sub.trans eP.sub),(fC.sel [0,1]),h⟩))))
            ·rintro _ f5 ⟨eO,dU,em,rfl,fD,eQ,h⟩
             unfold f21_j5 at h
             refine cd h (fun ep h=>?_) (fun ep h=>?_)
             ·refine cT ep (sr (m2 vN (wt (wp_ret (blkR (thenR (thenR (blkR (blkR (thenR (thenR (blkR (thenR ?_)))))))))))))
              cases (oi h).trans hr_
              exact retA1 rfl (resT rfl) ⟨dU,rfl,(eQ.sel [])⟩
             ·exact cF ep (wp_skip (blkN (thenN (wp_region_lit (m1 (iI (C:Int)) (bar (r:=((C + 1:Nat):Int)) rfl rfl (inc_ok (le_big (((mc eB ((aX.trans b8).trans bX))).len) (by decide) (drop_cons_lt dp))) (m2 (iI ((C + 1:Nat):Int)) (wt (⟨_,Nat.lt_succ_self _,_,dU,cB,C + 1,rfl,fR,(bX.trans fD),eQ,drop_cons_next dp,h⟩)))))))))
theorem fam21_ok (k0:Nat) : ∀ k,f21_spec (fam21 k0 k).f21:=by
 intro k
 induction k with
 | zero=>exact (by unfold f21_spec; intro _ _ _ _ _ _ _ _ _ h_; cases h_)
 | succ k ih=>exact f21_b_ok k0 (fam21 k0 k) ih
theorem f21_ok (k:Nat):f21_spec (f21 k):=(fam21_ok k k)
theorem f4_b_ok (k:Nat):f4_spec (f4_b k):=by
 unfold f4_spec
 intro K wi bE cQ aK cR h hG bF bG
 obtain ⟨r_,hr_,h⟩:=rz h
 obtain ⟨q⟩:=bE
 obtain ⟨A,c1,rfl,aW⟩:=RDProgram.open bF
 refine enter Tryz.func4 rfl (n:=118) rfl ?_
 unfold f4_b at h
 refine sr (bxoC (cs:=#[sl A q c1]) bG rfl rfl (fun cS aX=>(m2 vN (wt (wp_seq (wp_cut (fun a w=>∃ bo aY aZ,a=fr 118 (updL bo [(1,iI aK),(2,pp (zz wi) 0),(18,.bool aZ)])∧KH.sub K aY∧SR K aY wi w [] [.box (zz wi) (zz wi) #[sl A q c1] 24]∧f4_j1 k q aK aZ=some r_) ?_ ?_))))))
 ·refine wp_region_lit (lN 0 ([sl A q c1]) aX Tya24 Tys24 ?_)
  obtain ⟨bp,bH,h⟩:=ob h
  refine cv ([.agg #[sl A q c1]]) Tyb13 ((f13_ok k) bH (hG.mono kr) (RDProgram.intro aW) (pt aX)) ?_
  rintro _ cU ⟨bq,rfl,a2⟩
  have a3:=ca a2 aX
  refine uN bp (m1 (.bool (!bp)) (cd h (fun V h=>?_) (fun V h=>?_)))
  ·exact o1 13 V (o1 13 V (o1 13 V (o1 13 V (m3 true vT (cg V) (wt (⟨_,bq,true,fR,a2.sub,a3,h⟩))))))
  ·exact n1 13 V (fd 0 Tyf24_0 rfl (n1 13 V (l1 0 (sl A q c1) a3 Tya22 (n1 13 V (lS q.length Tye22 (n1 13 V (c0 ((q.length:Int) == 0) (m3 false (.bool ((q.length:Int) == 0)) (cg V) (wt (⟨_,bq,((q.length:Int) == 0),fR,a2.sub,a3,h⟩))))))))))
 ·rintro _ cV ⟨bo,aY,aZ,rfl,J,aA,h⟩
  unfold f4_j1 at h
  refine cd h (fun a4 h=>?_) (fun a4 h=>?_)
  ·refine cT a4 (sr ?_)
   obtain ⟨bI,bJ,h⟩:=ob h
   refine cv ([]) Tyb14 ((f14_ok k) bJ (hG.mono J) (pt aA)) ?_
   rintro _ cW ⟨bK,rfl,bL⟩
   have bM:=ca bL aA
   refine m2 (.bool bI) (wt (wp_ret (thenR ?_)))
   cases (oi h).trans hr_
   exact retA1 rfl (resT rfl) ⟨bK,rfl,(bM.sel [])⟩
  ·refine cF a4 (wp_skip (thenN (sr (lN 0 ([sl A q c1]) aA Tya24 Tys24 ?_))))
   obtain ⟨⟨⟨l⟩,aB⟩,bN,h⟩:=ob h
   refine cv ([.agg #[sl A q c1]]) Tyb15 ((f15_ok k) bN (hG.mono J) (RDProgram.intro (mf aW J)) (pt aA)) ?_
   rintro _ am ⟨cX,cY,rfl,ac,bO⟩
   have bP:=ca ac aA
   obtain ⟨B,C,rfl,bQ⟩:=RDProgram.open bO
   refine m1 (.tuple #[.agg #[sl B l C],iI aB]) (ext (v:=.agg #[sl B l C]) rfl rfl (ext (v:=iI aB) rfl rfl (aC #[nS] bP Tyz24 (fun cZ bR=>(sI 0 (.agg #[sl B l C]) #[sl B l C] bR Tys24 rfl rfl (fun c2 aE=>(m2 (iI aB) (wt (wp_seq (sr (m1 (iI aB) (c0 (aB != 0) (wt (cd h (fun a5 h=>?_) (fun a5 h=>?_)))))))))))))))
   ·refine cT a5 (sr ?_)
    obtain ⟨bS,bT,h⟩:=ob h
    refine cv ([]) Tyb14 ((f14_ok k) bT (hG.mono (J.trans ac.sub)) (pt aE)) ?_
    rintro _ c3 ⟨bU,rfl,bV⟩
    have bW:=ca bV aE
    refine m2 (.bool bS) (wt (wp_ret (thenR ?_)))
    cases (oi h).trans hr_
    exact retA1 rfl (resT rfl) ⟨bU,rfl,(bW.sel [])⟩
   ·refine cF a5 (wp_skip (thenN (sr (m1 (iI aK) (fd 0 Tyf24_0 rfl (l1 1 (sl A q c1) aE Tya22 (lS q.length Tye22 ?_)))))))
    obtain ⟨f,bX,h⟩:=ob h
    refine cv ([iI aK,iI (q.length:Int)]) Tyb18 ((f18_ok k) bX (hG.mono (J.trans ac.sub)) (pt aE)) ?_
    rintro _ c4 ⟨c5,rfl,ad⟩
    have aL:=ca ad aE
    refine m2 (iI f) (wt (sr (lN 1 ([sl A q c1]) aL Tya24 Tys24 ?_)))
    obtain ⟨⟨u⟩,bY,h⟩:=ob h
    refine cv ([.agg #[sl A q c1]]) Tyb19 ((f19_ok k) bY (hG.mono ((J.trans ac.sub).trans ad.sub)) (RDProgram.intro (mf aW ((J.trans ac.sub).trans ad.sub))) (pt aL)) ?_
    rintro _ ar ⟨br,y,z,bZ,rfl,an,bs,b0⟩
    have b1:=ca an aL
    have b2:=b1.lower_ (i:=0) rfl aL.size
    refine aC #[nS] b2 Tyz24 (fun c6 b3=>(sI 0 (.agg #[sl y u z]) #[sl y u z] b3 Tys24 rfl rfl (fun b4 b5=>(wt (wp_seq (have N:=b5.drew;(regAny (E:=[13]) (F:=FW br [.box (zz wi) (zz ar) #[sl y u z] 24,.row (zz wi) (sl y u z) 38 6 u.length bZ,.box (zz wi) (zz am) #[sl B l C] 24,.box (zz wi) (zz wi) #[sl A q c1] 24]) (L:=(lb 14 0)) ymx rfl rfl (tk 0 (pp (zz ar) 0) (lb 14 1) rfl (fun w=>fld_r (o':=0) Tyf24_0 rfl rfl) (heldF (fq [0,1,2,3] N)) (tf 1 (sl y u z) ([[13,1]]) (lb 14 3) rfl (fq [0,1,2,3] N) (fun w hF=>lb1_r (i:=0) (v:=sl y u z) hF rfl Tya22 rfl rfl) (tk 2 (iI f) (lb 14 7) rfl (fun w=>mv_r (v:=iI f) rfl) (heldF (fq [0,1,2,3] N)) (tk 3 (pp (zz ar) 0) (lb 14 15) rfl (fun w=>fld_r (o':=0) Tyf24_0 rfl rfl) (heldF (fq [0,1,2,3] N)) (tf 4 (sl y u z) ([[13,4]]) (lb 14 31) rfl (fq [0,1,2,3] N) (fun w hF=>lb1_r (i:=0) (v:=sl y u z) hF rfl Tya22 rfl rfl) (tk 5 (iI f) (lb 14 63) rfl (fun w=>mv_r (v:=iI f) rfl) (heldF (fq [0,1,2,3] N)) ?_)))))))))))))
    obtain ⟨⟨W,X,Y,Z,ab,s⟩,au,h⟩:=ob h
    obtain ⟨av,c7,a6,c8,b6,b7⟩:=row_at (N.entAt (i:=1) rfl) bs (idxO_at au).1
    obtain ⟨c9,da,ag,ah,rfl,db,dc,b8⟩:=RDFunc.open b6
    refine tk 6 (pp av (0 + f.toNat * 6)) (lb 14 127) rfl (fun w=>idxG_r (b:=av) (o:=0) (i:=f) Tye22 Tys38 rfl a6 rfl (idxO_at au).2.1 (idxO_at au).2.2) (heldF (fq [0,1,2,3] N)) (tk 7 (pp av (0 + f.toNat * 6 + 5)) (lb 14 255) rfl (fun w=>fld_r (o':=0 + f.toNat * 6 + 5) Tyf38_5 rfl rfl) (heldF (fq [0,1,2,3] N)) (tf 8 (sl ag s ah) ([[13,8]]) (lb 14 511) rfl (fq [0,1,2,3] N) (fun w hF=>ld1_r (v:=sl ag s ah) Tya36 rfl (b7 _ (hF.entAt (i:=1) rfl) 5 _ rfl)) (tk 9 (.agg #[iI 23,sE,iI 0,sE,iI 0,iI 0,nS,sl ag s ah,nS,nS,nS]) (lb 14 1023) rfl (fun w=>bld_r (cells:=#[iI 23,sE,iI 0,sE,iI 0,iI 0,nS,sl ag s ah,nS,nS,nS]) (vs:=[(0,iI 23),(7,sl ag s ah)]) rfl (fun w=>by kernel_rfl)) (heldF (fq [0,1,2,3] N)) (aO 10 rfl (bsl (e:=42) (cells:=#[iI 23,sE,iI 0,sE,iI 0,iI 0,nS,sl ag s ah,nS,nS,nS]) (vs:=[(0,.agg #[iI 23,sE,iI 0,sE,iI 0,iI 0,nS,sl ag s ah,nS,nS,nS])]) N rfl (buildSl_one Tye36 Tys42 Tyz42 rfl (by decide) (by decide) rfl) (fun dd aM=>(wt ⟨heldF (fq [1,2,3,4] aM),tk 11 (pp av (0 + f.toNat * 6)) (lb 14 4095) rfl (fun w=>idxG_r (b:=av) (o:=0) (i:=f) Tye22 Tys38 rfl a6 rfl (idxO_at au).2.1 (idxO_at au).2.2) (heldF (fq [1,2,3,4] aM)) (tk 12 (pp av (0 + f.toNat * 6 + 5)) (lb 14 8191) rfl (fun w=>fld_r (o':=0 + f.toNat * 6 + 5) Tyf38_5 rfl rfl) (heldF (fq [1,2,3,4] aM)) (aO 13 rfl ?_))⟩)))))))
    obtain ⟨bu,b9,ao,cb⟩:=frzI (i:=0) (bytes:=184) (xs:=[(DStmt.mk 23 ⟨#[]⟩ 0 ⟨#[]⟩ 0 0 [] s [] [] [])]) (R:=fun K=>(RDStmt K)) aM rfl (Nat.le_refl _) ⟨[iI 23,sE,iI 0,sE,iI 0,iI 0,nS,sl ag s ah,nS,nS,nS],_,rfl,rfl,(RDStmt.intro (by decide) (by decide) (RSl.nil _ _ _ _ _ _) b8 (RSl.nil _ _ _ _ _ _) (RSl.nil _ _ _ _ _ _) (RSl.nil _ _ _ _ _ _)),(reps0 (R:=(RDStmt br)) (size:=11))⟩ rfl (Nat.le_of_ble_eq_true rfl) (fun hs=>(fun _ _ h=>RDStmt.mono hs h))
    refine stR (R:=(RDFunc bu)) (i:=1) (off:=5) (p:=(DFunc.mk W X Y Z ab s)) (p':=(DFunc.mk W X Y Z ab [(DStmt.mk 23 ⟨#[]⟩ 0 ⟨#[]⟩ 0 0 [] s [] [] [])])) (v:=.slice (some ⟨(zz b4.drew),0,none⟩) [(DStmt.mk 23 ⟨#[]⟩ 0 ⟨#[]⟩ 0 0 [] s [] [] [])].length 1) b9 rfl (bs.mono (fun _ _ h=>RDFunc.mono ao h)) (idxO_at au).1 Tys36 a6 rfl rfl rfl rfl (by decide) (fun cs_ h_=>by obtain ⟨de,df,dg,dh,rfl,cc,ce,di⟩:=RDFunc.open h_; exact RDFunc.intro cc ce cb) (fun cf ch ci cj=>?_)
    have bv:SR K bu wi ch [] [.box (zz wi) (zz ar) #[.slice y (u.set f.toNat (DFunc.mk W X Y Z ab [(DStmt.mk 23 ⟨#[]⟩ 0 ⟨#[]⟩ 0 0 [] s [] [] [])])).length z] 24,.row (zz wi) (.slice y (u.set f.toNat (DFunc.mk W X Y Z ab [(DStmt.mk 23 ⟨#[]⟩ 0 ⟨#[]⟩ 0 0 [] s [] [] [])])).length z) 38 6 (u.set f.toNat (DFunc.mk W X Y Z ab [(DStmt.mk 23 ⟨#[]⟩ 0 ⟨#[]⟩ 0 0 [] s [] [] [])])).length cf,.box (zz wi) (zz am) #[sl B l C] 24,.box (zz wi) (zz wi) #[sl A q c1] 24]:=by simpa only [List.length_set,List.eraseIdx_zero,List.eraseIdx_cons_succ,List.tail_cons,List.set_cons_succ,List.set_cons_zero,List.nil_append,List.cons_append] using ci
    refine wt ⟨heldE (i:=13) rfl rfl,aD (thenN (sr (lN 0 ([.slice y (u.set f.toNat (DFunc.mk W X Y Z ab [(DStmt.mk 23 ⟨#[]⟩ 0 ⟨#[]⟩ 0 0 [] s [] [] [])])).length z]) bv Tya24 Tys24 ?_)))⟩
    obtain ⟨dj,bw,aw,bx⟩:=shutI (i:=1) (bytes:=88) (R:=fun K=>(RDFunc K)) bv rfl (Nat.le_refl _) cj (set_bound b0) (fun hs=>(fun _ _ h=>RDFunc.mono hs h))
    obtain ⟨⟨⟨m⟩,O⟩,ck,h⟩:=ob h
    refine cv ([.agg #[.slice y (u.set f.toNat (DFunc.mk W X Y Z ab [(DStmt.mk 23 ⟨#[]⟩ 0 ⟨#[]⟩ 0 0 [] s [] [] [])])).length z]]) Tyb15 ((f15_ok k) ck (hG.mono (((((J.trans ac.sub).trans ad.sub).trans an.sub).trans ao).trans aw)) (RDProgram.intro bx) (pt bw)) ?_
    rintro _ ax ⟨cl,dk,rfl,ap,cm⟩
    have cn:=ca ap bw
    obtain ⟨D,G,rfl,co⟩:=RDProgram.open cm
    refine m1 (.tuple #[.agg #[sl D m G],iI O]) (ext (v:=.agg #[sl D m G]) rfl rfl (ext (v:=iI O) rfl rfl (aC #[nS] cn Tyz24 (fun dl cq=>(sI 0 (.agg #[sl D m G]) #[sl D m G] cq Tys24 rfl rfl (fun cr ct=>?_))))))
    have a7:SR K cl wi cr [] [.box (zz wi) (zz ax) #[sl D m G] 24,.box (zz wi) (zz ar) #[.slice y (u.set f.toNat (DFunc.mk W X Y Z ab [(DStmt.mk 23 ⟨#[]⟩ 0 ⟨#[]⟩ 0 0 [] s [] [] [])])).length z] 24,.box (zz wi) (zz am) #[sl B l C] 24,.box (zz wi) (zz wi) #[sl A q c1] 24]:=ct
    refine m2 (iI O) (wt (wp_seq (sr (lN 1 ([.slice y (u.set f.toNat (DFunc.mk W X Y Z ab [(DStmt.mk 23 ⟨#[]⟩ 0 ⟨#[]⟩ 0 0 [] s [] [] [])])).length z]) a7 Tya24 Tys24 ?_))))
    obtain ⟨cu,cw,h⟩:=ob h
    refine cv ([.agg #[.slice y (u.set f.toNat (DFunc.mk W X Y Z ab [(DStmt.mk 23 ⟨#[]⟩ 0 ⟨#[]⟩ 0 0 [] s [] [] [])])).length z]]) Tyb20 ((f20_ok k) cw (hG.mono ((((((J.trans ac.sub).trans ad.sub).trans an.sub).trans ao).trans aw).trans ap.sub)) (RDProgram.intro (mf bx ap.sub)) (pt a7)) ?_
    rintro _ dm ⟨ai,rfl,ay⟩
    have aN:=ca ay a7
    refine uN cu (wt (cd h (fun a8 h=>?_) (fun a8 h=>?_)))
    ·refine cT a8 (wp_cut (fun a w=>∃ bz aP a9,a=fr 118 (updL bz [(4,.bool a9)])∧KH.sub ai aP∧SR K aP wi w [] []∧f4_j2 k a9=some r_) ?_ ?_)
     ·refine wp_region_lit (m1 (iI O) (c0 (O == 2) (m1 (.bool (O == 2)) (cd h (fun aF h=>?_) (fun aF h=>?_)))))
      ·refine n1 58 aF ?_
       obtain ⟨ba,cx,h⟩:=ob h
       refine cv ([]) Tyb14 ((f14_ok k) cx (hG.mono (((((((J.trans ac.sub).trans ad.sub).trans an.sub).trans ao).trans aw).trans ap.sub).trans ay.sub)) (pt aN)) ?_
       rintro _ dn ⟨cy,rfl,bA⟩
       have cz:=ca bA aN
       exact m3 true (.bool ba) (cg aF) (m2 (.bool ba) (wt (⟨_,cy,ba,fR,bA.sub,(cz.sel []),h⟩)))
      ·exact o1 58 aF (m3 false vN (cg aF) (m2 vN (wt (⟨_,ai,false,fR,kr,(aN.sel []),h⟩))))
     ·rintro _ dp ⟨bz,aP,a9,rfl,dq,cA,h⟩
      unfold f4_j2 at h
      refine wp_ret (thenR ?_)
      cases (oi h).trans hr_
      exact retA1 rfl (resT rfl) ⟨aP,rfl,cA⟩
    ·refine cF a8 (wp_skip (thenN (wp_cut (fun a w=>∃ bB aQ bb,a=fr 118 (updL bB [(4,.bool bb)])∧KH.sub ai aQ∧SR K aQ wi w [] []∧f4_j3 k bb=some r_) ?_ ?_)))
     ·have c:=aN.drew
      refine regAny (E:=[]) (F:=FW ai [.box (zz wi) (zz ax) #[sl D m G] 24,.box (zz wi) (zz ar) #[.slice y (u.set f.toNat (DFunc.mk W X Y Z ab [(DStmt.mk 23 ⟨#[]⟩ 0 ⟨#[]⟩ 0 0 [] s [] [] [])])).length z] 24,.box (zz wi) (zz am) #[sl B l C] 24,.box (zz wi) (zz wi) #[sl A q c1] 24]) (L:=(lb 58 0)) ymx rfl rfl (tk 0 (iI O) (lb 58 1) rfl (fun w=>mv_r (v:=iI O) rfl) (heldF (fq [0,1,2,3] c)) (tk 1 (.bool (O == 0)) (lb 58 3) rfl (fun w=>bcm_r (r:=(O == 0)) rfl rfl rfl) (heldF (fq [0,1,2,3] c)) (tk 2 (.bool (O == 0)) (lb 58 7) rfl (fun w=>mv_r (v:=.bool (O == 0)) rfl) (heldF (fq [0,1,2,3] c)) (cd h (fun x h=>?_) (fun x h=>?_)))))
      ·refine tkPG (i:=3) (d:=63) (v:=pp (zz ax) 0) (L':=(lb 58 15)) rfl (by kernel_rfl) (by kernel_rfl) (fun _ _ d _ _ h=>by cases d<;>exact h) rfl (cg x) (fun w=>fld_r (o':=0) Tyf24_0 rfl rfl) (heldF (fq [0,1,2,3] c)) rfl (tkFG (i:=4) (d:=63) (v:=sl D m G) (ps:=[]) (L':=(lb 58 31)) rfl (by kernel_rfl) (by kernel_rfl) (by kernel_rfl) (by kernel_rfl) (fun _ _ d _ _ h=>by cases d<;>exact h) rfl (cg x) (fq [0,1,2,3] c) (fun w hF=>lb1_r (i:=0) (v:=sl D m G) hF rfl Tya22 rfl rfl) rfl (tkPG (i:=5) (d:=63) (v:=iI (m.length:Int)) (L':=(lb 58 63)) rfl (by kernel_rfl) (by kernel_rfl) (fun _ _ d _ _ h=>by cases d<;>exact h) rfl (cg x) (fun w=>lnS_r (len:=m.length) Tye22 rfl) (heldF (fq [0,1,2,3] c)) rfl (tkPG (i:=6) (d:=63) (v:=pp (zz am) 0) (L':=(lb 58 127)) rfl (by kernel_rfl) (by kernel_rfl) (fun _ _ d _ _ h=>by cases d<;>exact h) rfl (cg x) (fun w=>fld_r (o':=0) Tyf24_0 rfl rfl) (heldF (fq [0,1,2,3] c)) rfl (tkFG (i:=7) (d:=63) (v:=sl B l C) (ps:=[]) (L':=(lb 58 255)) rfl (by kernel_rfl) (by kernel_rfl) (by kernel_rfl) (by kernel_rfl) (fun _ _ d _ _ h=>by cases d<;>exact h) rfl (cg x) (fq [0,1,2,3] c) (fun w hF=>lb1_r (i:=2) (v:=sl B l C) hF rfl Tya22 rfl rfl) rfl (tkPG (i:=8) (d:=63) (v:=iI (l.length:Int)) (L':=(lb 58 511)) rfl (by kernel_rfl) (by kernel_rfl) (fun _ _ d _ _ h=>by cases d<;>exact h) rfl (cg x) (fun w=>lnS_r (len:=l.length) Tye22 rfl) (heldF (fq [0,1,2,3] c)) rfl (tkPG (i:=9) (d:=63) (v:=.bool ((m.length:Int) == (l.length:Int))) (L':=(lb 58 1023)) rfl (by kernel_rfl) (by kernel_rfl) (fun _ _ d _ _ h=>by cases d<;>exact h) rfl (cg x) (fun w=>bcm_r (r:=((m.length:Int) == (l.length:Int))) rfl rfl rfl) (heldF (fq [0,1,2,3] c)) rfl (tk 10 (.bool ((m.length:Int) == (l.length:Int))) (lb 58 2047) rfl (fun w=>pick_r (b:=true) (v:=.bool ((m.length:Int) == (l.length:Int))) (cg x) rfl) (heldF (fq [0,1,2,3] c)) (tk 11 (.bool ((m.length:Int) == (l.length:Int))) (lb 58 4095) rfl (fun w=>mv_r (v:=.bool ((m.length:Int) == (l.length:Int))) rfl) (heldF (fq [0,1,2,3] c)) (cd h (fun j h=>?_) (fun j h=>?_))))))))))
       ·refine tkPG (i:=12) (d:=72) (v:=pp (zz ax) 0) (L':=(lb 58 8191)) rfl (by kernel_rfl) (by kernel_rfl) (fun _ _ d _ _ h=>by cases d<;>exact h) rfl (cg j) (fun w=>fld_r (o':=0) Tyf24_0 rfl rfl) (heldF (fq [0,1,2,3] c)) rfl (tkFG (i:=13) (d:=72) (v:=sl D m G) (ps:=[]) (L':=(lb 58 16383)) rfl (by kernel_rfl) (by kernel_rfl) (by kernel_rfl) (by kernel_rfl) (fun _ _ d _ _ h=>by cases d<;>exact h) rfl (cg j) (fq [0,1,2,3] c) (fun w hF=>lb1_r (i:=0) (v:=sl D m G) hF rfl Tya22 rfl rfl) rfl (tkPG (i:=14) (d:=72) (v:=iI f) (L':=(lb 58 32767)) rfl (by kernel_rfl) (by kernel_rfl) (fun _ _ d _ _ h=>by cases d<;>exact h) rfl (cg j) (fun w=>mv_r (v:=iI f) rfl) (heldF (fq [0,1,2,3] c)) rfl ?_))
        obtain ⟨⟨dr,ds,dt,du,aj,S⟩,aq,h⟩:=ob h
        obtain ⟨ae,U,dv,bd,dw,be,cB⟩:=((mf co ay.sub)).row.at_ (idxO_at aq).1
        obtain ⟨dx,dy,aR,aS,rfl,dz,dA,cC⟩:=RDFunc.open cB
        refine tkPG (i:=15) (d:=72) (v:=pp ae (U + f.toNat * 6)) (L':=(lb 58 65535)) rfl (by kernel_rfl) (by kernel_rfl) (fun _ _ d _ _ h=>by cases d<;>exact h) rfl (cg j) (fun w=>idxG_r (b:=ae) (o:=U) (i:=f) Tye22 Tys38 rfl bd rfl (idxO_at aq).2.1 (idxO_at aq).2.2) (heldF (fq [0,1,2,3] c)) rfl (tkPG (i:=16) (d:=72) (v:=pp ae (U + f.toNat * 6 + 4)) (L':=(lb 58 131071)) rfl (by kernel_rfl) (by kernel_rfl) (fun _ _ d _ _ h=>by cases d<;>exact h) rfl (cg j) (fun w=>fld_r (o':=U + f.toNat * 6 + 4) Tyf38_4 rfl rfl) (heldF (fq [0,1,2,3] c)) rfl (tkFG (i:=17) (d:=72) (v:=iI aj) (ps:=[]) (L':=(lb 58 262143)) rfl (by kernel_rfl) (by kernel_rfl) (by kernel_rfl) (by kernel_rfl) (fun _ _ d _ _ h=>by cases d<;>exact h) rfl (cg j) (fq [0,1,2,3] c) (fun w hF=>ld1_r (v:=iI aj) Tya3 rfl (hF.cell (kr.cell (be 4 _ rfl)))) rfl (tkPG (i:=18) (d:=72) (v:=pp (zz am) 0) (L':=(lb 58 524287)) rfl (by kernel_rfl) (by kernel_rfl) (fun _ _ d _ _ h=>by cases d<;>exact h) rfl (cg j) (fun w=>fld_r (o':=0) Tyf24_0 rfl rfl) (heldF (fq [0,1,2,3] c)) rfl (tkFG (i:=19) (d:=72) (v:=sl B l C) (ps:=[]) (L':=(lb 58 1048575)) rfl (by kernel_rfl) (by kernel_rfl) (by kernel_rfl) (by kernel_rfl) (fun _ _ d _ _ h=>by cases d<;>exact h) rfl (cg j) (fq [0,1,2,3] c) (fun w hF=>lb1_r (i:=2) (v:=sl B l C) hF rfl Tya22 rfl rfl) rfl (tkPG (i:=20) (d:=72) (v:=iI f) (L':=(lb 58 2097151)) rfl (by kernel_rfl) (by kernel_rfl) (fun _ _ d _ _ h=>by cases d<;>exact h) rfl (cg j) (fun w=>mv_r (v:=iI f) rfl) (heldF (fq [0,1,2,3] c)) rfl ?_)))))
        obtain ⟨⟨dB,dC,dD,dE,ak,bf⟩,aG,h⟩:=ob h
        obtain ⟨az,al,dF,bC,dG,bD,cD⟩:=((mf bQ (((((ad.sub.trans an.sub).trans ao).trans aw).trans ap.sub).trans ay.sub))).row.at_ (idxO_at aG).1
        obtain ⟨dH,dI,bg,bh,rfl,dJ,dK,cG⟩:=RDFunc.open cD
        refine tkPG (i:=21) (d:=72) (v:=pp az (al + f.toNat * 6)) (L':=(lb 58 4194303)) rfl (by kernel_rfl) (by kernel_rfl) (fun _ _ d _ _ h=>by cases d<;>exact h) rfl (cg j) (fun w=>idxG_r (b:=az) (o:=al) (i:=f) Tye22 Tys38 rfl bC rfl (idxO_at aG).2.1 (idxO_at aG).2.2) (heldF (fq [0,1,2,3] c)) rfl (tkPG (i:=22) (d:=72) (v:=pp az (al + f.toNat * 6 + 4)) (L':=(lb 58 8388607)) rfl (by kernel_rfl) (by kernel_rfl) (fun _ _ d _ _ h=>by cases d<;>exact h) rfl (cg j) (fun w=>fld_r (o':=al + f.toNat * 6 + 4) Tyf38_4 rfl rfl) (heldF (fq [0,1,2,3] c)) rfl (tkFG (i:=23) (d:=72) (v:=iI ak) (ps:=[]) (L':=(lb 58 16777215)) rfl (by kernel_rfl) (by kernel_rfl) (by kernel_rfl) (by kernel_rfl) (fun _ _ d _ _ h=>by cases d<;>exact h) rfl (cg j) (fq [0,1,2,3] c) (fun w hF=>ld1_r (v:=iI ak) Tya3 rfl (hF.cell (kr.cell (bD 4 _ rfl)))) rfl (tkPG (i:=24) (d:=72) (v:=.bool (aj == ak)) (L':=(lb 58 33554431)) rfl (by kernel_rfl) (by kernel_rfl) (fun _ _ d _ _ h=>by cases d<;>exact h) rfl (cg j) (fun w=>bcm_r (r:=(aj == ak)) rfl rfl rfl) (heldF (fq [0,1,2,3] c)) rfl (tk 25 (.bool (aj == ak)) (lb 58 67108863) rfl (fun w=>pick_r (b:=true) (v:=.bool (aj == ak)) (cg j) rfl) (heldF (fq [0,1,2,3] c)) (tk 26 (.bool (aj == ak)) (lb 58 134217727) rfl (fun w=>mv_r (v:=.bool (aj == ak)) rfl) (heldF (fq [0,1,2,3] c)) (cd h (fun t h=>?_) (fun t h=>?_)))))))
        ·refine tkPG (i:=27) (d:=87) (v:=pp (zz ax) 0) (L':=(lb 58 268435455)) rfl (by kernel_rfl) (by kernel_rfl) (fun _ _ d _ _ h=>by cases d<;>exact h) rfl (cg t) (fun w=>fld_r (o':=0) Tyf24_0 rfl rfl) (heldF (fq [0,1,2,3] c)) rfl (tkFG (i:=28) (d:=87) (v:=sl D m G) (ps:=[]) (L':=(lb 58 536870911)) rfl (by kernel_rfl) (by kernel_rfl) (by kernel_rfl) (by kernel_rfl) (fun _ _ d _ _ h=>by cases d<;>exact h) rfl (cg t) (fq [0,1,2,3] c) (fun w hF=>lb1_r (i:=0) (v:=sl D m G) hF rfl Tya22 rfl rfl) rfl (tkPG (i:=29) (d:=87) (v:=iI f) (L':=(lb 58 1073741823)) rfl (by kernel_rfl) (by kernel_rfl) (fun _ _ d _ _ h=>by cases d<;>exact h) rfl (cg t) (fun w=>mv_r (v:=iI f) rfl) (heldF (fq [0,1,2,3] c)) rfl (tkPG (i:=30) (d:=87) (v:=pp ae (U + f.toNat * 6)) (L':=(lb 58 2147483647)) rfl (by kernel_rfl) (by kernel_rfl) (fun _ _ d _ _ h=>by cases d<;>exact h) rfl (cg t) (fun w=>idxG_r (b:=ae) (o:=U) (i:=f) Tye22 Tys38 rfl bd rfl (idxO_at aq).2.1 (idxO_at aq).2.2) (heldF (fq [0,1,2,3] c)) rfl (tkPG (i:=31) (d:=87) (v:=pp ae (U + f.toNat * 6 + 5)) (L':=(lb 58 4294967295)) rfl (by kernel_rfl) (by kernel_rfl) (fun _ _ d _ _ h=>by cases d<;>exact h) rfl (cg t) (fun w=>fld_r (o':=U + f.toNat * 6 + 5) Tyf38_5 rfl rfl) (heldF (fq [0,1,2,3] c)) rfl (tkFG (i:=32) (d:=87) (v:=sl aR S aS) (ps:=[]) (L':=(lb 58 8589934591)) rfl (by kernel_rfl) (by kernel_rfl) (by kernel_rfl) (by kernel_rfl) (fun _ _ d _ _ h=>by cases d<;>exact h) rfl (cg t) (fq [0,1,2,3] c) (fun w hF=>ld1_r (v:=sl aR S aS) Tya36 rfl (hF.cell (kr.cell (be 5 _ rfl)))) rfl (tkPG (i:=33) (d:=87) (v:=iI (S.length:Int)) (L':=(lb 58 17179869183)) rfl (by kernel_rfl) (by kernel_rfl) (fun _ _ d _ _ h=>by cases d<;>exact h) rfl (cg t) (fun w=>lnS_r (len:=S.length) Tye36 rfl) (heldF (fq [0,1,2,3] c)) rfl (tkPG (i:=34) (d:=87) (v:=.bool ((S.length:Int) == 1)) (L':=(lb 58 34359738367)) rfl (by kernel_rfl) (by kernel_rfl) (fun _ _ d _ _ h=>by cases d<;>exact h) rfl (cg t) (fun w=>bcm_r (r:=((S.length:Int) == 1)) rfl rfl rfl) (heldF (fq [0,1,2,3] c)) rfl (tk 35 (.bool ((S.length:Int) == 1)) (lb 58 68719476735) rfl (fun w=>pick_r (b:=true) (v:=.bool ((S.length:Int) == 1)) (cg t) rfl) (heldF (fq [0,1,2,3] c)) (tk 36 (.bool ((S.length:Int) == 1)) (lb 58 137438953471) rfl (fun w=>mv_r (v:=.bool ((S.length:Int) == 1)) rfl) (heldF (fq [0,1,2,3] c)) (cd h (fun g h=>?_) (fun g h=>?_)))))))))))
         ·refine tkPG (i:=37) (d:=97) (v:=pp (zz ax) 0) (L':=(lb 58 274877906943)) rfl (by kernel_rfl) (by kernel_rfl) (fun _ _ d _ _ h=>by cases d<;>exact h) rfl (cg g) (fun w=>fld_r (o':=0) Tyf24_0 rfl rfl) (heldF (fq [0,1,2,3] c)) rfl (tkFG (i:=38) (d:=97) (v:=sl D m G) (ps:=[]) (L':=(lb 58 549755813887)) rfl (by kernel_rfl) (by kernel_rfl) (by kernel_rfl) (by kernel_rfl) (fun _ _ d _ _ h=>by cases d<;>exact h) rfl (cg g) (fq [0,1,2,3] c) (fun w hF=>lb1_r (i:=0) (v:=sl D m G) hF rfl Tya22 rfl rfl) rfl (tkPG (i:=39) (d:=97) (v:=iI f) (L':=(lb 58 1099511627775)) rfl (by kernel_rfl) (by kernel_rfl) (fun _ _ d _ _ h=>by cases d<;>exact h) rfl (cg g) (fun w=>mv_r (v:=iI f) rfl) (heldF (fq [0,1,2,3] c)) rfl (tkPG (i:=40) (d:=97) (v:=pp ae (U + f.toNat * 6)) (L':=(lb 58 2199023255551)) rfl (by kernel_rfl) (by kernel_rfl) (fun _ _ d _ _ h=>by cases d<;>exact h) rfl (cg g) (fun w=>idxG_r (b:=ae) (o:=U) (i:=f) Tye22 Tys38 rfl bd rfl (idxO_at aq).2.1 (idxO_at aq).2.2) (heldF (fq [0,1,2,3] c)) rfl (tkPG (i:=41) (d:=97) (v:=pp ae (U + f.toNat * 6 + 5)) (L':=(lb 58 4398046511103)) rfl (by kernel_rfl) (by kernel_rfl) (fun _ _ d _ _ h=>by cases d<;>exact h) rfl (cg g) (fun w=>fld_r (o':=U + f.toNat * 6 + 5) Tyf38_5 rfl rfl) (heldF (fq [0,1,2,3] c)) rfl (tkFG (i:=42) (d:=97) (v:=sl aR S aS) (ps:=[]) (L':=(lb 58 8796093022207)) rfl (by kernel_rfl) (by kernel_rfl) (by kernel_rfl) (by kernel_rfl) (fun _ _ d _ _ h=>by cases d<;>exact h) rfl (cg g) (fq [0,1,2,3] c) (fun w hF=>ld1_r (v:=sl aR S aS) Tya36 rfl (hF.cell (kr.cell (be 5 _ rfl)))) rfl ?_)))))
          obtain ⟨⟨dL,dM,dN,dO,dP,dQ,dR,bi,dS,dT,dU⟩,bj,h⟩:=ob h
          obtain ⟨bk,aT,dV,cH,dW,cI,cJ⟩:=(cC).row.at_ (idxO_at bj).1
          obtain ⟨dX,dY,bm,bn,dZ,d0,d1,d2,d3,d4,rfl,d5,d6,d7,cK,d8,d9,ea⟩:=RDStmt.open cJ
          refine tkPG (i:=43) (d:=97) (v:=.pointer (some ⟨bk,aT + (0:Int).toNat * 11,none⟩)) (L':=(lb 58 17592186044415)) rfl (by kernel_rfl) (by kernel_rfl) (fun _ _ d _ _ h=>by cases d<;>exact h) rfl (cg g) (fun w=>idxG_r (b:=bk) (o:=aT) (i:=0) Tye36 Tys42 rfl cH rfl (idxO_at bj).2.1 (idxO_at bj).2.2) (heldF (fq [0,1,2,3] c)) rfl (tkPG (i:=44) (d:=97) (v:=.pointer (some ⟨bk,aT + (0:Int).toNat * 11 + 7,none⟩)) (L':=(lb 58 35184372088831)) rfl (by kernel_rfl) (by kernel_rfl) (fun _ _ d _ _ h=>by cases d<;>exact h) rfl (cg g) (fun w=>fld_r (o':=aT + (0:Int).toNat * 11 + 7) Tyf42_7 rfl rfl) (heldF (fq [0,1,2,3] c)) rfl (tkFG (i:=45) (d:=97) (v:=sl bm bi bn) (ps:=[]) (L':=(lb 58 70368744177663)) rfl (by kernel_rfl) (by kernel_rfl) (by kernel_rfl) (by kernel_rfl) (fun _ _ d _ _ h=>by cases d<;>exact h) rfl (cg g) (fq [0,1,2,3] c) (fun w hF=>ld1_r (v:=sl bm bi bn) Tya36 rfl (hF.cell (kr.cell (cI 7 _ rfl)))) rfl (tkPG (i:=46) (d:=97) (v:=pp (zz am) 0) (L':=(lb 58 140737488355327)) rfl (by kernel_rfl) (by kernel_rfl) (fun _ _ d _ _ h=>by cases d<;>exact h) rfl (cg g) (fun w=>fld_r (o':=0) Tyf24_0 rfl rfl) (heldF (fq [0,1,2,3] c)) rfl (tkFG (i:=47) (d:=97) (v:=sl B l C) (ps:=[]) (L':=(lb 58 281474976710655)) rfl (by kernel_rfl) (by kernel_rfl) (by kernel_rfl) (by kernel_rfl) (fun _ _ d _ _ h=>by cases d<;>exact h) rfl (cg g) (fq [0,1,2,3] c) (fun w hF=>lb1_r (i:=2) (v:=sl B l C) hF rfl Tya22 rfl rfl) rfl (tkPG (i:=48) (d:=97) (v:=iI f) (L':=(lb 58 562949953421311)) rfl (by kernel_rfl) (by kernel_rfl) (fun _ _ d _ _ h=>by cases d<;>exact h) rfl (cg g) (fun w=>mv_r (v:=iI f) rfl) (heldF (fq [0,1,2,3] c)) rfl (tkPG (i:=49) (d:=97) (v:=pp az (al + f.toNat * 6)) (L':=(lb 58 1125899906842623)) rfl (by kernel_rfl) (by kernel_rfl) (fun _ _ d _ _ h=>by cases d<;>exact h) rfl (cg g) (fun w=>idxG_r (b:=az) (o:=al) (i:=f) Tye22 Tys38 rfl bC rfl (idxO_at aG).2.1 (idxO_at aG).2.2) (heldF (fq [0,1,2,3] c)) rfl (tkPG (i:=50) (d:=97) (v:=pp az (al + f.toNat * 6 + 5)) (L':=(lb 58 2251799813685247)) rfl (by kernel_rfl) (by kernel_rfl) (fun _ _ d _ _ h=>by cases d<;>exact h) rfl (cg g) (fun w=>fld_r (o':=al + f.toNat * 6 + 5) Tyf38_5 rfl rfl) (heldF (fq [0,1,2,3] c)) rfl (tkFG (i:=51) (d:=97) (v:=sl bg bf bh) (ps:=[]) (L':=(lb 58 4503599627370495)) rfl (by kernel_rfl) (by kernel_rfl) (by kernel_rfl) (by kernel_rfl) (fun _ _ d _ _ h=>by cases d<;>exact h) rfl (cg g) (fq [0,1,2,3] c) (fun w hF=>ld1_r (v:=sl bg bf bh) Tya36 rfl (hF.cell (kr.cell (bD 5 _ rfl)))) rfl (aO 52 rfl (n1 97 g ?_))))))))))
          obtain ⟨aU,cL,h⟩:=ob h
          refine cv ([sl bm bi bn,sl bg bf bh]) Tyb21 ((f21_ok k) cL (hG.mono (((((((J.trans ac.sub).trans ad.sub).trans an.sub).trans ao).trans aw).trans ap.sub).trans ay.sub)) cK cG (pt c)) ?_
          rintro _ ec ⟨cM,rfl,I⟩
          have af:=ca I c
          refine wt ⟨heldF (fwOf (is:=[0,1,2,3]) af I.sub rfl),tk 53 (.bool aU) (lb 58 18014398509481983) rfl (fun w=>pick_r (b:=true) (v:=.bool aU) (cg g) rfl) (heldF (fwOf (is:=[0,1,2,3]) af I.sub rfl)) (tk 54 (.bool aU) (lb 58 36028797018963967) rfl (fun w=>mv_r (v:=.bool aU) rfl) (heldF (fwOf (is:=[0,1,2,3]) af I.sub rfl)) (cd h (fun aH h=>?_) (fun aH h=>?_)))⟩
          ·refine aO 55 rfl (n1 115 aH ?_)
           obtain ⟨aI,cN,h⟩:=ob h
           refine cv ([]) Tyb14 ((f14_ok k) cN (hG.mono ((((((((J.trans ac.sub).trans ad.sub).trans an.sub).trans ao).trans aw).trans ap.sub).trans ay.sub).trans I.sub)) (pt af)) ?_
           rintro _ ed ⟨cO,rfl,aJ⟩
           have aV:=ca aJ af
           exact wt ⟨heldF (fwOf (is:=[0,1,2,3]) aV (I.sub.trans aJ.sub) rfl),tk 56 (.bool aI) (lb 58 144115188075855871) rfl (fun w=>pick_r (b:=true) (v:=.bool aI) (cg aH) rfl) (heldF (fwOf (is:=[0,1,2,3]) aV (I.sub.trans aJ.sub) rfl)) (tk 57 (.bool aI) (lb 58 288230376151711743) rfl (fun w=>asg_r (v:=.bool aI) rfl) (heldF (fwOf (is:=[0,1,2,3]) aV (I.sub.trans aJ.sub) rfl)) (aD (thenN (⟨_,cO,aI,fR,(I.sub.trans aJ.sub),(aV.sel []),h⟩))))⟩
          ·exact tkO (i:=55) (d:=115) (L':=(lb 58 72057594037927935)) rfl rfl rfl (by kernel_rfl) (by kernel_rfl) (fun _ _ d _ _ h=>by cases d<;>exact h) rfl (.inl (cg aH)) (heldF (fwOf (is:=[0,1,2,3]) af I.sub rfl)) rfl (tk 56 vN (lb 58 144115188075855871) rfl (fun w=>pick_r (b:=false) (v:=vN) (cg aH) rfl) (heldF (fwOf (is:=[0,1,2,3]) af I.sub rfl)) (tk 57 vN (lb 58 288230376151711743) rfl (fun w=>asg_r (v:=vN) rfl) (heldF (fwOf (is:=[0,1,2,3]) af I.sub rfl)) (aD (thenN (⟨_,cM,false,fR,I.sub,(af.sel []),h⟩)))))
         ·exact tkO (i:=37) (d:=97) (L':=(lb 58 274877906943)) rfl rfl rfl (by kernel_rfl) (by kernel_rfl) (fun _ _ d _ _ h=>by cases d<;>exact h) rfl (.inl (cg g)) (heldF (fq [0,1,2,3] c)) rfl (tkO (i:=38) (d:=97) (L':=(lb 58 549755813887)) rfl rfl rfl (by kernel_rfl) (by kernel_rfl) (fun _ _ d _ _ h=>by cases d<;>exact h) rfl (.inl (cg g)) (heldF (fq [0,1,2,3] c)) rfl (tkO (i:=39) (d:=97) (L':=(lb 58 1099511627775)) rfl rfl rfl (by kernel_rfl) (by kernel_rfl) (fun _ _ d _ _ h=>by cases d<;>exact h) rfl (.inl (cg g)) (heldF (fq [0,1,2,3] c)) rfl (tkO (i:=40) (d:=97) (L':=(lb 58 2199023255551)) rfl rfl rfl (by kernel_rfl) (by kernel_rfl) (fun _ _ d _ _ h=>by cases d<;>exact h) rfl (.inl (cg g)) (heldF (fq [0,1,2,3] c)) rfl (tkO (i:=41) (d:=97) (L':=(lb 58 4398046511103)) rfl rfl rfl (by kernel_rfl) (by kernel_rfl) (fun _ _ d _ _ h=>by cases d<;>exact h) rfl (.inl (cg g)) (heldF (fq [0,1,2,3] c)) rfl (tkO (i:=42) (d:=97) (L':=(lb 58 8796093022207)) rfl rfl rfl (by kernel_rfl) (by kernel_rfl) (fun _ _ d _ _ h=>by cases d<;>exact h) rfl (.inl (cg g)) (heldF (fq [0,1,2,3] c)) rfl (tkO (i:=43) (d:=97) (L':=(lb 58 17592186044415)) rfl rfl rfl (by kernel_rfl) (by kernel_rfl) (fun _ _ d _ _ h=>by cases d<;>exact h) rfl (.inl (cg g)) (heldF (fq [0,1,2,3] c)) rfl (tkO (i:=44) (d:=97) (L':=(lb 58 35184372088831)) rfl rfl rfl (by kernel_rfl) (by kernel_rfl) (fun _ _ d _ _ h=>by cases d<;>exact h) rfl (.inl (cg g)) (heldF (fq [0,1,2,3] c)) rfl (tkO (i:=45) (d:=97) (L':=(lb 58 70368744177663)) rfl rfl rfl (by kernel_rfl) (by kernel_rfl) (fun _ _ d _ _ h=>by cases d<;>exact h) rfl (.inl (cg g)) (heldF (fq [0,1,2,3] c)) rfl (tkO (i:=46) (d:=97) (L':=(lb 58 140737488355327)) rfl rfl rfl (by kernel_rfl) (by kernel_rfl) (fun _ _ d _ _ h=>by cases d<;>exact h) rfl (.inl (cg g)) (heldF (fq [0,1,2,3] c)) rfl (tkO (i:=47) (d:=97) (L':=(lb 58 281474976710655)) rfl rfl rfl (by kernel_rfl) (by kernel_rfl) (fun _ _ d _ _ h=>by cases d<;>exact h) rfl (.inl (cg g)) (heldF (fq [0,1,2,3] c)) rfl (tkO (i:=48) (d:=97) (L':=(lb 58 562949953421311)) rfl rfl rfl (by kernel_rfl) (by kernel_rfl) (fun _ _ d _ _ h=>by cases d<;>exact h) rfl (.inl (cg g)) (heldF (fq [0,1,2,3] c)) rfl (tkO (i:=49) (d:=97) (L':=(lb 58 1125899906842623)) rfl rfl rfl (by kernel_rfl) (by kernel_rfl) (fun _ _ d _ _ h=>by cases d<;>exact h) rfl (.inl (cg g)) (heldF (fq [0,1,2,3] c)) rfl (tkO (i:=50) (d:=97) (L':=(lb 58 2251799813685247)) rfl rfl rfl (by kernel_rfl) (by kernel_rfl) (fun _ _ d _ _ h=>by cases d<;>exact h) rfl (.inl (cg g)) (heldF (fq [0,1,2,3] c)) rfl (tkO (i:=51) (d:=97) (L':=(lb 58 4503599627370495)) rfl rfl rfl (by kernel_rfl) (by kernel_rfl) (fun _ _ d _ _ h=>by cases d<;>exact h) rfl (.inl (cg g)) (heldF (fq [0,1,2,3] c)) rfl (tkO (i:=52) (d:=97) (L':=(lb 58 9007199254740991)) rfl rfl rfl (by kernel_rfl) (by kernel_rfl) (fun _ _ d _ _ h=>by cases d<;>exact h) rfl (.inl (cg g)) (heldF (fq [0,1,2,3] c)) rfl (tk 53 vN (lb 58 18014398509481983) rfl (fun w=>pick_r (b:=false) (v:=vN) (cg g) rfl) (heldF (fq [0,1,2,3] c)) (tk 54 vN (lb 58 36028797018963967) rfl (fun w=>mv_r (v:=vN) rfl) (heldF (fq [0,1,2,3] c)) (tkO (i:=55) (d:=115) (L':=(lb 58 72057594037927935)) rfl rfl rfl (by kernel_rfl) (by kernel_rfl) (fun _ _ d _ _ h=>by cases d<;>exact h) rfl (.inl rfl) (heldF (fq [0,1,2,3] c)) rfl (tk 56 vN (lb 58 144115188075855871) rfl (fun w=>pick_r (b:=false) (v:=vN) rfl rfl) (heldF (fq [0,1,2,3] c)) (tk 57 vN (lb 58 288230376151711743) rfl (fun w=>asg_r (v:=vN) rfl) (heldF (fq [0,1,2,3] c)) (aD (thenN (⟨_,ai,false,fR,kr,(c.sel []),h⟩)))))))))))))))))))))))
        ·exact tkO (i:=27) (d:=87) (L':=(lb 58 268435455)) rfl rfl rfl (by kernel_rfl) (by kernel_rfl) (fun _ _ d _ _ h=>by cases d<;>exact h) rfl (.inl (cg t)) (heldF (fq [0,1,2,3] c)) rfl (tkO (i:=28) (d:=87) (L':=(lb 58 536870911)) rfl rfl rfl (by kernel_rfl) (by kernel_rfl) (fun _ _ d _ _ h=>by cases d<;>exact h) rfl (.inl (cg t)) (heldF (fq [0,1,2,3] c)) rfl (tkO (i:=29) (d:=87) (L':=(lb 58 1073741823)) rfl rfl rfl (by kernel_rfl) (by kernel_rfl) (fun _ _ d _ _ h=>by cases d<;>exact h) rfl (.inl (cg t)) (heldF (fq [0,1,2,3] c)) rfl (tkO (i:=30) (d:=87) (L':=(lb 58 2147483647)) rfl rfl rfl (by kernel_rfl) (by kernel_rfl) (fun _ _ d _ _ h=>by cases d<;>exact h) rfl (.inl (cg t)) (heldF (fq [0,1,2,3] c)) rfl (tkO (i:=31) (d:=87) (L':=(lb 58 4294967295)) rfl rfl rfl (by kernel_rfl) (by kernel_rfl) (fun _ _ d _ _ h=>by cases d<;>exact h) rfl (.inl (cg t)) (heldF (fq [0,1,2,3] c)) rfl (tkO (i:=32) (d:=87) (L':=(lb 58 8589934591)) rfl rfl rfl (by kernel_rfl) (by kernel_rfl) (fun _ _ d _ _ h=>by cases d<;>exact h) rfl (.inl (cg t)) (heldF (fq [0,1,2,3] c)) rfl (tkO (i:=33) (d:=87) (L':=(lb 58 17179869183)) rfl rfl rfl (by kernel_rfl) (by kernel_rfl) (fun _ _ d _ _ h=>by cases d<;>exact h) rfl (.inl (cg t)) (heldF (fq [0,1,2,3] c)) rfl (tkO (i:=34) (d:=87) (L':=(lb 58 34359738367)) rfl rfl rfl (by kernel_rfl) (by kernel_rfl) (fun _ _ d _ _ h=>by cases d<;>exact h) rfl (.inl (cg t)) (heldF (fq [0,1,2,3] c)) rfl (tk 35 vN (lb 58 68719476735) rfl (fun w=>pick_r (b:=false) (v:=vN) (cg t) rfl) (heldF (fq [0,1,2,3] c)) (tk 36 vN (lb 58 137438953471) rfl (fun w=>mv_r (v:=vN) rfl) (heldF (fq [0,1,2,3] c)) (tkO (i:=37) (d:=97) (L':=(lb 58 274877906943)) rfl rfl rfl (by kernel_rfl) (by kernel_rfl) (fun _ _ d _ _ h=>by cases d<;>exact h) rfl (.inl rfl) (heldF (fq [0,1,2,3] c)) rfl (tkO (i:=38) (d:=97) (L':=(lb 58 549755813887)) rfl rfl rfl (by kernel_rfl) (by kernel_rfl) (fun _ _ d _ _ h=>by cases d<;>exact h) rfl (.inl rfl) (heldF (fq [0,1,2,3] c)) rfl (tkO (i:=39) (d:=97) (L':=(lb 58 1099511627775)) rfl rfl rfl (by kernel_rfl) (by kernel_rfl) (fun _ _ d _ _ h=>by cases d<;>exact h) rfl (.inl rfl) (heldF (fq [0,1,2,3] c)) rfl (tkO (i:=40) (d:=97) (L':=(lb 58 2199023255551)) rfl rfl rfl (by kernel_rfl) (by kernel_rfl) (fun _ _ d _ _ h=>by cases d<;>exact h) rfl (.inl rfl) (heldF (fq [0,1,2,3] c)) rfl (tkO (i:=41) (d:=97) (L':=(lb 58 4398046511103)) rfl rfl rfl (by kernel_rfl) (by kernel_rfl) (fun _ _ d _ _ h=>by cases d<;>exact h) rfl (.inl rfl) (heldF (fq [0,1,2,3] c)) rfl (tkO (i:=42) (d:=97) (L':=(lb 58 8796093022207)) rfl rfl rfl (by kernel_rfl) (by kernel_rfl) (fun _ _ d _ _ h=>by cases d<;>exact h) rfl (.inl rfl) (heldF (fq [0,1,2,3] c)) rfl (tkO (i:=43) (d:=97) (L':=(lb 58 17592186044415)) rfl rfl rfl (by kernel_rfl) (by kernel_rfl) (fun _ _ d _ _ h=>by cases d<;>exact h) rfl (.inl rfl) (heldF (fq [0,1,2,3] c)) rfl (tkO (i:=44) (d:=97) (L':=(lb 58 35184372088831)) rfl rfl rfl (by kernel_rfl) (by kernel_rfl) (fun _ _ d _ _ h=>by cases d<;>exact h) rfl (.inl rfl) (heldF (fq [0,1,2,3] c)) rfl (tkO (i:=45) (d:=97) (L':=(lb 58 70368744177663)) rfl rfl rfl (by kernel_rfl) (by kernel_rfl) (fun _ _ d _ _ h=>by cases d<;>exact h) rfl (.inl rfl) (heldF (fq [0,1,2,3] c)) rfl (tkO (i:=46) (d:=97) (L':=(lb 58 140737488355327)) rfl rfl rfl (by kernel_rfl) (by kernel_rfl) (fun _ _ d _ _ h=>by cases d<;>exact h) rfl (.inl rfl) (heldF (fq [0,1,2,3] c)) rfl (tkO (i:=47) (d:=97) (L':=(lb 58 281474976710655)) rfl rfl rfl (by kernel_rfl) (by kernel_rfl) (fun _ _ d _ _ h=>by cases d<;>exact h) rfl (.inl rfl) (heldF (fq [0,1,2,3] c)) rfl (tkO (i:=48) (d:=97) (L':=(lb 58 562949953421311)) rfl rfl rfl (by kernel_rfl) (by kernel_rfl) (fun _ _ d _ _ h=>by cases d<;>exact h) rfl (.inl rfl) (heldF (fq [0,1,2,3] c)) rfl (tkO (i:=49) (d:=97) (L':=(lb 58 1125899906842623)) rfl rfl rfl (by kernel_rfl) (by kernel_rfl) (fun _ _ d _ _ h=>by cases d<;>exact h) rfl (.inl rfl) (heldF (fq [0,1,2,3] c)) rfl (tkO (i:=50) (d:=97) (L':=(lb 58 2251799813685247)) rfl rfl rfl (by kernel_rfl) (by kernel_rfl) (fun _ _ d _ _ h=>by cases d<;>exact h) rfl (.inl rfl) (heldF (fq [0,1,2,3] c)) rfl (tkO (i:=51) (d:=97) (L':=(lb 58 4503599627370495)) rfl rfl rfl (by kernel_rfl) (by kernel_rfl) (fun _ _ d _ _ h=>by cases d<;>exact h) rfl (.inl rfl) (heldF (fq [0,1,2,3] c)) rfl (tkO (i:=52) (d:=97) (L':=(lb 58 9007199254740991)) rfl rfl rfl (by kernel_rfl) (by kernel_rfl) (fun _ _ d _ _ h=>by cases d<;>exact h) rfl (.inl rfl) (heldF (fq [0,1,2,3] c)) rfl (tk 53 vN (lb 58 18014398509481983) rfl (fun w=>pick_r (b:=false) (v:=vN) rfl rfl) (heldF (fq [0,1,2,3] c)) (tk 54 vN (lb 58 36028797018963967) rfl (fun w=>mv_r (v:=vN) rfl) (heldF (fq [0,1,2,3] c)) (tkO (i:=55) (d:=115) (L':=(lb 58 72057594037927935)) rfl rfl rfl (by kernel_rfl) (by kernel_rfl) (fun _ _ d _ _ h=>by cases d<;>exact h) rfl (.inl rfl) (heldF (fq [0,1,2,3] c)) rfl (tk 56 vN (lb 58 144115188075855871) rfl (fun w=>pick_r (b:=false) (v:=vN) rfl rfl) (heldF (fq [0,1,2,3] c)) (tk 57 vN (lb 58 288230376151711743) rfl (fun w=>asg_r (v:=vN) rfl) (heldF (fq [0,1,2,3] c)) (aD (thenN (⟨_,ai,false,fR,kr,(c.sel []),h⟩)))))))))))))))))))))))))))))))))
       ·exact tkO (i:=12) (d:=72) (L':=(lb 58 8191)) rfl rfl rfl (by kernel_rfl) (by kernel_rfl) (fun _ _ d _ _ h=>by cases d<;>exact h) rfl (.inl (cg j)) (heldF (fq [0,1,2,3] c)) rfl (tkO (i:=13) (d:=72) (L':=(lb 58 16383)) rfl rfl rfl (by kernel_rfl) (by kernel_rfl) (fun _ _ d _ _ h=>by cases d<;>exact h) rfl (.inl (cg j)) (heldF (fq [0,1,2,3] c)) rfl (tkO (i:=14) (d:=72) (L':=(lb 58 32767)) rfl rfl rfl (by kernel_rfl) (by kernel_rfl) (fun _ _ d _ _ h=>by cases d<;>exact h) rfl (.inl (cg j)) (heldF (fq [0,1,2,3] c)) rfl (tkO (i:=15) (d:=72) (L':=(lb 58 65535)) rfl rfl rfl (by kernel_rfl) (by kernel_rfl) (fun _ _ d _ _ h=>by cases d<;>exact h) rfl (.inl (cg j)) (heldF (fq [0,1,2,3] c)) rfl (tkO (i:=16) (d:=72) (L':=(lb 58 131071)) rfl rfl rfl (by kernel_rfl) (by kernel_rfl) (fun _ _ d _ _ h=>by cases d<;>exact h) rfl (.inl (cg j)) (heldF (fq [0,1,2,3] c)) rfl (tkO (i:=17) (d:=72) (L':=(lb 58 262143)) rfl rfl rfl (by kernel_rfl) (by kernel_rfl) (fun _ _ d _ _ h=>by cases d<;>exact h) rfl (.inl (cg j)) (heldF (fq [0,1,2,3] c)) rfl (tkO (i:=18) (d:=72) (L':=(lb 58 524287)) rfl rfl rfl (by kernel_rfl) (by kernel_rfl) (fun _ _ d _ _ h=>by cases d<;>exact h) rfl (.inl (cg j)) (heldF (fq [0,1,2,3] c)) rfl (tkO (i:=19) (d:=72) (L':=(lb 58 1048575)) rfl rfl rfl (by kernel_rfl) (by kernel_rfl) (fun _ _ d _ _ h=>by cases d<;>exact h) rfl (.inl (cg j)) (heldF (fq [0,1,2,3] c)) rfl (tkO (i:=20) (d:=72) (L':=(lb 58 2097151)) rfl rfl rfl (by kernel_rfl) (by kernel_rfl) (fun _ _ d _ _ h=>by cases d<;>exact h) rfl (.inl (cg j)) (heldF (fq [0,1,2,3] c)) rfl (tkO (i:=21) (d:=72) (L':=(lb 58 4194303)) rfl rfl rfl (by kernel_rfl) (by kernel_rfl) (fun _ _ d _ _ h=>by cases d<;>exact h) rfl (.inl (cg j)) (heldF (fq [0,1,2,3] c)) rfl (tkO (i:=22) (d:=72) (L':=(lb 58 8388607)) rfl rfl rfl (by kernel_rfl) (by kernel_rfl) (fun _ _ d _ _ h=>by cases d<;>exact h) rfl (.inl (cg j)) (heldF (fq [0,1,2,3] c)) rfl (tkO (i:=23) (d:=72) (L':=(lb 58 16777215)) rfl rfl rfl (by kernel_rfl) (by kernel_rfl) (fun _ _ d _ _ h=>by cases d<;>exact h) rfl (.inl (cg j)) (heldF (fq [0,1,2,3] c)) rfl (tkO (i:=24) (d:=72) (L':=(lb 58 33554431)) rfl rfl rfl (by kernel_rfl) (by kernel_rfl) (fun _ _ d _ _ h=>by cases d<;>exact h) rfl (.inl (cg j)) (heldF (fq [0,1,2,3] c)) rfl (tk 25 vN (lb 58 67108863) rfl (fun w=>pick_r (b:=false) (v:=vN) (cg j) rfl) (heldF (fq [0,1,2,3] c)) (tk 26 vN (lb 58 134217727) rfl (fun w=>mv_r (v:=vN) rfl) (heldF (fq [0,1,2,3] c)) (tkO (i:=27) (d:=87) (L':=(lb 58 268435455)) rfl rfl rfl (by kernel_rfl) (by kernel_rfl) (fun _ _ d _ _ h=>by cases d<;>exact h) rfl (.inl rfl) (heldF (fq [0,1,2,3] c)) rfl (tkO (i:=28) (d:=87) (L':=(lb 58 536870911)) rfl rfl rfl (by kernel_rfl) (by kernel_rfl) (fun _ _ d _ _ h=>by cases d<;>exact h) rfl (.inl rfl) (heldF (fq [0,1,2,3] c)) rfl (tkO (i:=29) (d:=87) (L':=(lb 58 1073741823)) rfl rfl rfl (by kernel_rfl) (by kernel_rfl) (fun _ _ d _ _ h=>by cases d<;>exact h) rfl (.inl rfl) (heldF (fq [0,1,2,3] c)) rfl (tkO (i:=30) (d:=87) (L':=(lb 58 2147483647)) rfl rfl rfl (by kernel_rfl) (by kernel_rfl) (fun _ _ d _ _ h=>by cases d<;>exact h) rfl (.inl rfl) (heldF (fq [0,1,2,3] c)) rfl (tkO (i:=31) (d:=87) (L':=(lb 58 4294967295)) rfl rfl rfl (by kernel_rfl) (by kernel_rfl) (fun _ _ d _ _ h=>by cases d<;>exact h) rfl (.inl rfl) (heldF (fq [0,1,2,3] c)) rfl (tkO (i:=32) (d:=87) (L':=(lb 58 8589934591)) rfl rfl rfl (by kernel_rfl) (by kernel_rfl) (fun _ _ d _ _ h=>by cases d<;>exact h) rfl (.inl rfl) (heldF (fq [0,1,2,3] c)) rfl (tkO (i:=33) (d:=87) (L':=(lb 58 17179869183)) rfl rfl rfl (by kernel_rfl) (by kernel_rfl) (fun _ _ d _ _ h=>by cases d<;>exact h) rfl (.inl rfl) (heldF (fq [0,1,2,3] c)) rfl (tkO (i:=34) (d:=87) (L':=(lb 58 34359738367)) rfl rfl rfl (by kernel_rfl) (by kernel_rfl) (fun _ _ d _ _ h=>by cases d<;>exact h) rfl (.inl rfl) (heldF (fq [0,1,2,3] c)) rfl (tk 35 vN (lb 58 68719476735) rfl (fun w=>pick_r (b:=false) (v:=vN) rfl rfl) (heldF (fq [0,1,2,3] c)) (tk 36 vN (lb 58 137438953471) rfl (fun w=>mv_r (v:=vN) rfl) (heldF (fq [0,1,2,3] c)) (tkO (i:=37) (d:=97) (L':=(lb 58 274877906943)) rfl rfl rfl (by kernel_rfl) (by kernel_rfl) (fun _ _ d _ _ h=>by cases d<;>exact h) rfl (.inl rfl) (heldF (fq [0,1,2,3] c)) rfl (tkO (i:=38) (d:=97) (L':=(lb 58 549755813887)) rfl rfl rfl (by kernel_rfl) (by kernel_rfl) (fun _ _ d _ _ h=>by cases d<;>exact h) rfl (.inl rfl) (heldF (fq [0,1,2,3] c)) rfl (tkO (i:=39) (d:=97) (L':=(lb 58 1099511627775)) rfl rfl rfl (by kernel_rfl) (by kernel_rfl) (fun _ _ d _ _ h=>by cases d<;>exact h) rfl (.inl rfl) (heldF (fq [0,1,2,3] c)) rfl (tkO (i:=40) (d:=97) (L':=(lb 58 2199023255551)) rfl rfl rfl (by kernel_rfl) (by kernel_rfl) (fun _ _ d _ _ h=>by cases d<;>exact h) rfl (.inl rfl) (heldF (fq [0,1,2,3] c)) rfl (tkO (i:=41) (d:=97) (L':=(lb 58 4398046511103)) rfl rfl rfl (by kernel_rfl) (by kernel_rfl) (fun _ _ d _ _ h=>by cases d<;>exact h) rfl (.inl rfl) (heldF (fq [0,1,2,3] c)) rfl (tkO (i:=42) (d:=97) (L':=(lb 58 8796093022207)) rfl rfl rfl (by kernel_rfl) (by kernel_rfl) (fun _ _ d _ _ h=>by cases d<;>exact h) rfl (.inl rfl) (heldF (fq [0,1,2,3] c)) rfl (tkO (i:=43) (d:=97) (L':=(lb 58 17592186044415)) rfl rfl rfl (by kernel_rfl) (by kernel_rfl) (fun _ _ d _ _ h=>by cases d<;>exact h) rfl (.inl rfl) (heldF (fq [0,1,2,3] c)) rfl (tkO (i:=44) (d:=97) (L':=(lb 58 35184372088831)) rfl rfl rfl (by kernel_rfl) (by kernel_rfl) (fun _ _ d _ _ h=>by cases d<;>exact h) rfl (.inl rfl) (heldF (fq [0,1,2,3] c)) rfl (tkO (i:=45) (d:=97) (L':=(lb 58 70368744177663)) rfl rfl rfl (by kernel_rfl) (by kernel_rfl) (fun _ _ d _ _ h=>by cases d<;>exact h) rfl (.inl rfl) (heldF (fq [0,1,2,3] c)) rfl (tkO (i:=46) (d:=97) (L':=(lb 58 140737488355327)) rfl rfl rfl (by kernel_rfl) (by kernel_rfl) (fun _ _ d _ _ h=>by cases d<;>exact h) rfl (.inl rfl) (heldF (fq [0,1,2,3] c)) rfl (tkO (i:=47) (d:=97) (L':=(lb 58 281474976710655)) rfl rfl rfl (by kernel_rfl) (by kernel_rfl) (fun _ _ d _ _ h=>by cases d<;>exact h) rfl (.inl rfl) (heldF (fq [0,1,2,3] c)) rfl (tkO (i:=48) (d:=97) (L':=(lb 58 562949953421311)) rfl rfl rfl (by kernel_rfl) (by kernel_rfl) (fun _ _ d _ _ h=>by cases d<;>exact h) rfl (.inl rfl) (heldF (fq [0,1,2,3] c)) rfl (tkO (i:=49) (d:=97) (L':=(lb 58 1125899906842623)) rfl rfl rfl (by kernel_rfl) (by kernel_rfl) (fun _ _ d _ _ h=>by cases d<;>exact h) rfl (.inl rfl) (heldF (fq [0,1,2,3] c)) rfl (tkO (i:=50) (d:=97) (L':=(lb 58 2251799813685247)) rfl rfl rfl (by kernel_rfl) (by kernel_rfl) (fun _ _ d _ _ h=>by cases d<;>exact h) rfl (.inl rfl) (heldF (fq [0,1,2,3] c)) rfl (tkO (i:=51) (d:=97) (L':=(lb 58 4503599627370495)) rfl rfl rfl (by kernel_rfl) (by kernel_rfl) (fun _ _ d _ _ h=>by cases d<;>exact h) rfl (.inl rfl) (heldF (fq [0,1,2,3] c)) rfl (tkO (i:=52) (d:=97) (L':=(lb 58 9007199254740991)) rfl rfl rfl (by kernel_rfl) (by kernel_rfl) (fun _ _ d _ _ h=>by cases d<;>exact h) rfl (.inl rfl) (heldF (fq [0,1,2,3] c)) rfl (tk 53 vN (lb 58 18014398509481983) rfl (fun w=>pick_r (b:=false) (v:=vN) rfl rfl) (heldF (fq [0,1,2,3] c)) (tk 54 vN (lb 58 36028797018963967) rfl (fun w=>mv_r (v:=vN) rfl) (heldF (fq [0,1,2,3] c)) (tkO (i:=55) (d:=115) (L':=(lb 58 72057594037927935)) rfl rfl rfl (by kernel_rfl) (by kernel_rfl) (fun _ _ d _ _ h=>by cases d<;>exact h) rfl (.inl rfl) (heldF (fq [0,1,2,3] c)) rfl (tk 56 vN (lb 58 144115188075855871) rfl (fun w=>pick_r (b:=false) (v:=vN) rfl rfl) (heldF (fq [0,1,2,3] c)) (tk 57 vN (lb 58 288230376151711743) rfl (fun w=>asg_r (v:=vN) rfl) (heldF (fq [0,1,2,3] c)) (aD (thenN (⟨_,ai,false,fR,kr,(c.sel []),h⟩))))))))))))))))))))))))))))))))))))))))))))))))
      ·exact tkO (i:=3) (d:=63) (L':=(lb 58 15)) rfl rfl rfl (by kernel_rfl) (by kernel_rfl) (fun _ _ d _ _ h=>by cases d<;>exact h) rfl (.inl (cg x)) (heldF (fq [0,1,2,3] c)) rfl (tkO (i:=4) (d:=63) (L':=(lb 58 31)) rfl rfl rfl (by kernel_rfl) (by kernel_rfl) (fun _ _ d _ _ h=>by cases d<;>exact h) rfl (.inl (cg x)) (heldF (fq [0,1,2,3] c)) rfl (tkO (i:=5) (d:=63) (L':=(lb 58 63)) rfl rfl rfl (by kernel_rfl) (by kernel_rfl) (fun _ _ d _ _ h=>by cases d<;>exact h) rfl (.inl (cg x)) (heldF (fq [0,1,2,3] c)) rfl (tkO (i:=6) (d:=63) (L':=(lb 58 127)) rfl rfl rfl (by kernel_rfl) (by kernel_rfl) (fun _ _ d _ _ h=>by cases d<;>exact h) rfl (.inl (cg x)) (heldF (fq [0,1,2,3] c)) rfl (tkO (i:=7) (d:=63) (L':=(lb 58 255)) rfl rfl rfl (by kernel_rfl) (by kernel_rfl) (fun _ _ d _ _ h=>by cases d<;>exact h) rfl (.inl (cg x)) (heldF (fq [0,1,2,3] c)) rfl (tkO (i:=8) (d:=63) (L':=(lb 58 511)) rfl rfl rfl (by kernel_rfl) (by kernel_rfl) (fun _ _ d _ _ h=>by cases d<;>exact h) rfl (.inl (cg x)) (heldF (fq [0,1,2,3] c)) rfl (tkO (i:=9) (d:=63) (L':=(lb 58 1023)) rfl rfl rfl (by kernel_rfl) (by kernel_rfl) (fun _ _ d _ _ h=>by cases d<;>exact h) rfl (.inl (cg x)) (heldF (fq [0,1,2,3] c)) rfl (tk 10 vN (lb 58 2047) rfl (fun w=>pick_r (b:=false) (v:=vN) (cg x) rfl) (heldF (fq [0,1,2,3] c)) (tk 11 vN (lb 58 4095) rfl (fun w=>mv_r (v:=vN) rfl) (heldF (fq [0,1,2,3] c)) (tkO (i:=12) (d:=72) (L':=(lb 58 8191)) rfl rfl rfl (by kernel_rfl) (by kernel_rfl) (fun _ _ d _ _ h=>by cases d<;>exact h) rfl (.inl rfl) (heldF (fq [0,1,2,3] c)) rfl (tkO (i:=13) (d:=72) (L':=(lb 58 16383)) rfl rfl rfl (by kernel_rfl) (by kernel_rfl) (fun _ _ d _ _ h=>by cases d<;>exact h) rfl (.inl rfl) (heldF (fq [0,1,2,3] c)) rfl (tkO (i:=14) (d:=72) (L':=(lb 58 32767)) rfl rfl rfl (by kernel_rfl) (by kernel_rfl) (fun _ _ d _ _ h=>by cases d<;>exact h) rfl (.inl rfl) (heldF (fq [0,1,2,3] c)) rfl (tkO (i:=15) (d:=72) (L':=(lb 58 65535)) rfl rfl rfl (by kernel_rfl) (by kernel_rfl) (fun _ _ d _ _ h=>by cases d<;>exact h) rfl (.inl rfl) (heldF (fq [0,1,2,3] c)) rfl (tkO (i:=16) (d:=72) (L':=(lb 58 131071)) rfl rfl rfl (by kernel_rfl) (by kernel_rfl) (fun _ _ d _ _ h=>by cases d<;>exact h) rfl (.inl rfl) (heldF (fq [0,1,2,3] c)) rfl (tkO (i:=17) (d:=72) (L':=(lb 58 262143)) rfl rfl rfl (by kernel_rfl) (by kernel_rfl) (fun _ _ d _ _ h=>by cases d<;>exact h) rfl (.inl rfl) (heldF (fq [0,1,2,3] c)) rfl (tkO (i:=18) (d:=72) (L':=(lb 58 524287)) rfl rfl rfl (by kernel_rfl) (by kernel_rfl) (fun _ _ d _ _ h=>by cases d<;>exact h) rfl (.inl rfl) (heldF (fq [0,1,2,3] c)) rfl (tkO (i:=19) (d:=72) (L':=(lb 58 1048575)) rfl rfl rfl (by kernel_rfl) (by kernel_rfl) (fun _ _ d _ _ h=>by cases d<;>exact h) rfl (.inl rfl) (heldF (fq [0,1,2,3] c)) rfl (tkO (i:=20) (d:=72) (L':=(lb 58 2097151)) rfl rfl rfl (by kernel_rfl) (by kernel_rfl) (fun _ _ d _ _ h=>by cases d<;>exact h) rfl (.inl rfl) (heldF (fq [0,1,2,3] c)) rfl (tkO (i:=21) (d:=72) (L':=(lb 58 4194303)) rfl rfl rfl (by kernel_rfl) (by kernel_rfl) (fun _ _ d _ _ h=>by cases d<;>exact h) rfl (.inl rfl) (heldF (fq [0,1,2,3] c)) rfl (tkO (i:=22) (d:=72) (L':=(lb 58 8388607)) rfl rfl rfl (by kernel_rfl) (by kernel_rfl) (fun _ _ d _ _ h=>by cases d<;>exact h) rfl (.inl rfl) (heldF (fq [0,1,2,3] c)) rfl (tkO (i:=23) (d:=72) (L':=(lb 58 16777215)) rfl rfl rfl (by kernel_rfl) (by kernel_rfl) (fun _ _ d _ _ h=>by cases d<;>exact h) rfl (.inl rfl) (heldF (fq [0,1,2,3] c)) rfl (tkO (i:=24) (d:=72) (L':=(lb 58 33554431)) rfl rfl rfl (by kernel_rfl) (by kernel_rfl) (fun _ _ d _ _ h=>by cases d<;>exact h) rfl (.inl rfl) (heldF (fq [0,1,2,3] c)) rfl (tk 25 vN (lb 58 67108863) rfl (fun w=>pick_r (b:=false) (v:=vN) rfl rfl) (heldF (fq [0,1,2,3] c)) (tk 26 vN (lb 58 134217727) rfl (fun w=>mv_r (v:=vN) rfl) (heldF (fq [0,1,2,3] c)) (tkO (i:=27) (d:=87) (L':=(lb 58 268435455)) rfl rfl rfl (by kernel_rfl) (by kernel_rfl) (fun _ _ d _ _ h=>by cases d<;>exact h) rfl (.inl rfl) (heldF (fq [0,1,2,3] c)) rfl (tkO (i:=28) (d:=87) (L':=(lb 58 536870911)) rfl rfl rfl (by kernel_rfl) (by kernel_rfl) (fun _ _ d _ _ h=>by cases d<;>exact h) rfl (.inl rfl) (heldF (fq [0,1,2,3] c)) rfl (tkO (i:=29) (d:=87) (L':=(lb 58 1073741823)) rfl rfl rfl (by kernel_rfl) (by kernel_rfl) (fun _ _ d _ _ h=>by cases d<;>exact h) rfl (.inl rfl) (heldF (fq [0,1,2,3] c)) rfl (tkO (i:=30) (d:=87) (L':=(lb 58 2147483647)) rfl rfl rfl (by kernel_rfl) (by kernel_rfl) (fun _ _ d _ _ h=>by cases d<;>exact h) rfl (.inl rfl) (heldF (fq [0,1,2,3] c)) rfl (tkO (i:=31) (d:=87) (L':=(lb 58 4294967295)) rfl rfl rfl (by kernel_rfl) (by kernel_rfl) (fun _ _ d _ _ h=>by cases d<;>exact h) rfl (.inl rfl) (heldF (fq [0,1,2,3] c)) rfl (tkO (i:=32) (d:=87) (L':=(lb 58 8589934591)) rfl rfl rfl (by kernel_rfl) (by kernel_rfl) (fun _ _ d _ _ h=>by cases d<;>exact h) rfl (.inl rfl) (heldF (fq [0,1,2,3] c)) rfl (tkO (i:=33) (d:=87) (L':=(lb 58 17179869183)) rfl rfl rfl (by kernel_rfl) (by kernel_rfl) (fun _ _ d _ _ h=>by cases d<;>exact h) rfl (.inl rfl) (heldF (fq [0,1,2,3] c)) rfl (tkO (i:=34) (d:=87) (L':=(lb 58 34359738367)) rfl rfl rfl (by kernel_rfl) (by kernel_rfl) (fun _ _ d _ _ h=>by cases d<;>exact h) rfl (.inl rfl) (heldF (fq [0,1,2,3] c)) rfl (tk 35 vN (lb 58 68719476735) rfl (fun w=>pick_r (b:=false) (v:=vN) rfl rfl) (heldF (fq [0,1,2,3] c)) (tk 36 vN (lb 58 137438953471) rfl (fun w=>mv_r (v:=vN) rfl) (heldF (fq [0,1,2,3] c)) (tkO (i:=37) (d:=97) (L':=(lb 58 274877906943)) rfl rfl rfl (by kernel_rfl) (by kernel_rfl) (fun _ _ d _ _ h=>by cases d<;>exact h) rfl (.inl rfl) (heldF (fq [0,1,2,3] c)) rfl (tkO (i:=38) (d:=97) (L':=(lb 58 549755813887)) rfl rfl rfl (by kernel_rfl) (by kernel_rfl) (fun _ _ d _ _ h=>by cases d<;>exact h) rfl (.inl rfl) (heldF (fq [0,1,2,3] c)) rfl (tkO (i:=39) (d:=97) (L':=(lb 58 1099511627775)) rfl rfl rfl (by kernel_rfl) (by kernel_rfl) (fun _ _ d _ _ h=>by cases d<;>exact h) rfl (.inl rfl) (heldF (fq [0,1,2,3] c)) rfl (tkO (i:=40) (d:=97) (L':=(lb 58 2199023255551)) rfl rfl rfl (by kernel_rfl) (by kernel_rfl) (fun _ _ d _ _ h=>by cases d<;>exact h) rfl (.inl rfl) (heldF (fq [0,1,2,3] c)) rfl (tkO (i:=41) (d:=97) (L':=(lb 58 4398046511103)) rfl rfl rfl (by kernel_rfl) (by kernel_rfl) (fun _ _ d _ _ h=>by cases d<;>exact h) rfl (.inl rfl) (heldF (fq [0,1,2,3] c)) rfl (tkO (i:=42) (d:=97) (L':=(lb 58 8796093022207)) rfl rfl rfl (by kernel_rfl) (by kernel_rfl) (fun _ _ d _ _ h=>by cases d<;>exact h) rfl (.inl rfl) (heldF (fq [0,1,2,3] c)) rfl (tkO (i:=43) (d:=97) (L':=(lb 58 17592186044415)) rfl rfl rfl (by kernel_rfl) (by kernel_rfl) (fun _ _ d _ _ h=>by cases d<;>exact h) rfl (.inl rfl) (heldF (fq [0,1,2,3] c)) rfl (tkO (i:=44) (d:=97) (L':=(lb 58 35184372088831)) rfl rfl rfl (by kernel_rfl) (by kernel_rfl) (fun _ _ d _ _ h=>by cases d<;>exact h) rfl (.inl rfl) (heldF (fq [0,1,2,3] c)) rfl (tkO (i:=45) (d:=97) (L':=(lb 58 70368744177663)) rfl rfl rfl (by kernel_rfl) (by kernel_rfl) (fun _ _ d _ _ h=>by cases d<;>exact h) rfl (.inl rfl) (heldF (fq [0,1,2,3] c)) rfl (tkO (i:=46) (d:=97) (L':=(lb 58 140737488355327)) rfl rfl rfl (by kernel_rfl) (by kernel_rfl) (fun _ _ d _ _ h=>by cases d<;>exact h) rfl (.inl rfl) (heldF (fq [0,1,2,3] c)) rfl (tkO (i:=47) (d:=97) (L':=(lb 58 281474976710655)) rfl rfl rfl (by kernel_rfl) (by kernel_rfl) (fun _ _ d _ _ h=>by cases d<;>exact h) rfl (.inl rfl) (heldF (fq [0,1,2,3] c)) rfl (tkO (i:=48) (d:=97) (L':=(lb 58 562949953421311)) rfl rfl rfl (by kernel_rfl) (by kernel_rfl) (fun _ _ d _ _ h=>by cases d<;>exact h) rfl (.inl rfl) (heldF (fq [0,1,2,3] c)) rfl (tkO (i:=49) (d:=97) (L':=(lb 58 1125899906842623)) rfl rfl rfl (by kernel_rfl) (by kernel_rfl) (fun _ _ d _ _ h=>by cases d<;>exact h) rfl (.inl rfl) (heldF (fq [0,1,2,3] c)) rfl (tkO (i:=50) (d:=97) (L':=(lb 58 2251799813685247)) rfl rfl rfl (by kernel_rfl) (by kernel_rfl) (fun _ _ d _ _ h=>by cases d<;>exact h) rfl (.inl rfl) (heldF (fq [0,1,2,3] c)) rfl (tkO (i:=51) (d:=97) (L':=(lb 58 4503599627370495)) rfl rfl rfl (by kernel_rfl) (by kernel_rfl) (fun _ _ d _ _ h=>by cases d<;>exact h) rfl (.inl rfl) (heldF (fq [0,1,2,3] c)) rfl (tkO (i:=52) (d:=97) (L':=(lb 58 9007199254740991)) rfl rfl rfl (by kernel_rfl) (by kernel_rfl) (fun _ _ d _ _ h=>by cases d<;>exact h) rfl (.inl rfl) (heldF (fq [0,1,2,3] c)) rfl (tk 53 vN (lb 58 18014398509481983) rfl (fun w=>pick_r (b:=false) (v:=vN) rfl rfl) (heldF (fq [0,1,2,3] c)) (tk 54 vN (lb 58 36028797018963967) rfl (fun w=>mv_r (v:=vN) rfl) (heldF (fq [0,1,2,3] c)) (tkO (i:=55) (d:=115) (L':=(lb 58 72057594037927935)) rfl rfl rfl (by kernel_rfl) (by kernel_rfl) (fun _ _ d _ _ h=>by cases d<;>exact h) rfl (.inl rfl) (heldF (fq [0,1,2,3] c)) rfl (tk 56 vN (lb 58 144115188075855871) rfl (fun w=>pick_r (b:=false) (v:=vN) rfl rfl) (heldF (fq [0,1,2,3] c)) (tk 57 vN (lb 58 288230376151711743) rfl (fun w=>asg_r (v:=vN) rfl) (heldF (fq [0,1,2,3] c)) (aD (thenN (⟨_,ai,false,fR,kr,(c.sel []),h⟩)))))))))))))))))))))))))))))))))))))))))))))))))))))))))
     ·rintro _ ee ⟨bB,aQ,bb,rfl,ef,cP,h⟩
      unfold f4_j3 at h
      refine wp_ret ?_
      cases (oi h).trans hr_
      exact retA1 rfl (resT rfl) ⟨aQ,rfl,cP⟩
theorem f4_ok (k:Nat):f4_spec (f4 k):=f4_b_ok k
end Go.Proofs.YtoajecnoffhlbaaGreatDoor
set_option maxRecDepth 512
set_option maxHeartbeats 200000
namespace Go.Proofs.YtoajecnoffhlbaaGreatDoor
open Go
mutual
def szE:DExpr→Nat | .mk _ _ _ _ l=>szEs l + 1
def szEs:List DExpr→Nat | []=>0 | e :: l=>szE e + szEs l
end
mutual
def szS:DStmt→Nat | .mk _ _ _ _ _ _ a b c d e=>szEs a + szSs b + szSs c + szSs d + szCs e + 1
def szSs:List DStmt→Nat | []=>0 | s :: l=>szS s + szSs l
def szC:DCase→Nat | .mk _ _ _ a b=>szEs a + szSs b + 1
def szCs:List DCase→Nat | []=>0 | c :: l=>szC c + szCs l
end
def szF:DFunc→Nat | .mk _ ps _ _ _ b=>ps.length + szSs b + 1
def szFs:List DFunc→Nat | []=>0 | f :: l=>szF f + szFs l
def szP:DProgram→Nat | .mk fs=>szFs fs + 1
theorem len_szEs : ∀ l:List DExpr,l.length≤szEs l
 | []=>by simp
 | .mk _ _ _ _ a :: l=>by have:=len_szEs l; simp only [List.length_cons,szEs,szE]; omega
def letterI (c:Int):Bool:=decide (c ≥ 97) && decide (c≤122)
def digitI (c:Int):Bool:=decide (c ≥ 48) && decide (c≤57)
def runL:List UInt8→Nat→Bool
 | [],_=>true
 | e :: r,i=>(letterI e.toNat || (!((i:Int) == 0) && digitI e.toNat)) && runL r (i + 1)
def isN (s:ByteArray):Bool:=runL s.data.toList 0 && !seq s ⟨#[]⟩ && decide ((s.size:Int)≤12) && !wordsL.any (seq s)
theorem f66_eq (k:Nat) (c:Int):f66 k c=some (letterI c):=by
 unfold f66 f66_b f66_j1 letterI
 cases decide (c ≥ 97) <;> rfl
theorem f67_eq (k:Nat) (c:Int):f67 k c=some (digitI c):=by
 unfold f67 f67_b f67_j1 digitI
 cases decide (c ≥ 48) <;> rfl
theorem f112_eq (k:Nat) (c:Int):f112 k c=some (letterI c):=by
 unfold f112 f112_b f112_j1 letterI
 cases decide (c ≥ 97) <;> rfl
theorem f113_eq (k:Nat) (c:Int):f113 k c=some (digitI c):=by
 unfold f113 f113_b f113_j1 digitI
 cases decide (c ≥ 48) <;> rfl
theorem f91_l1_eq (k:Nat) (a:ByteArray) : ∀ (l:List UInt8) (i:Nat),f91_l1 k a l i=some (runL l i && !seq a ⟨#[]⟩)
 | [],i=>by simp [f91_l1,runL]
 | e :: l,i=>by
  unfold f91_l1 runL
  rw [f112_eq]
  simp only [Option.bind_some,f91_j1,f113_eq,f91_l1_eq k a l]
  cases letterI e.toNat <;> cases ((i:Int) == 0) <;> cases digitI e.toNat <;> simp
theorem f93_l1_eq (k:Nat) (a:ByteArray) : ∀ (l:List ByteArray) (i:Nat),∃ r,f93_l1 k a l i=some r∧decide (r ≥ 0)=l.any (seq a)
 | [],i=>⟨-1,rfl,rfl⟩
 | e :: l,i=>by
  unfold f93_l1
  cases h:seq a e
  ·obtain ⟨r,h1,h2⟩:=f93_l1_eq k a l (i + 1)
   exact ⟨r,h1,by simp [h,h2]⟩
  ·exact ⟨(i:Int),rfl,by simp [h]⟩
theorem f63_eq (k:Nat) (s:ByteArray):f63 k s=some (isN s):=by
 unfold f63 f63_b f91 f91_b isN
 rw [f91_l1_eq]
 simp only [Option.bind_some,f63_j1]
 obtain ⟨r,h1,h2⟩:=f93_l1_eq k s wordsL 0
 have h92:f92 k s=some (wordsL.any (seq s)):=by
  unfold f92 f92_b f114 f64 f64_b f93 f93_b
  simp [h1,h2]
 rw [h92]
 simp only [Option.bind_some]
 cases runL s.data.toList 0 <;> cases seq s ⟨#[]⟩ <;> cases decide ((s.size:Int)≤12) <;> rfl
theorem seq_comm (a b:ByteArray):seq a b=seq b a:=by
 unfold seq
 rw [Bool.eq_iff_iff,beq_iff_eq,beq_iff_eq]
 exact eq_comm
theorem f68_l1_eq (k:Nat) (a:ByteArray) : ∀ (l:List ByteArray) (i:Nat),f68_l1 k a l i=some (l.any (seq a))
 | [],i=>rfl
 | e :: l,i=>by
  unfold f68_l1
  rw [seq_comm e a]
  cases h:seq a e
  ·simp [h,f68_l1_eq k a l]
  ·simp [h]
theorem words_eq (k:Nat):f97 k=some wordsL:=rfl
theorem f68_eq (k:Nat) (a:ByteArray):f68 k a=some (wordsL.any (seq a)):=by
 unfold f68 f68_b
 rw [words_eq]
 exact f68_l1_eq k a wordsL 0
theorem size_seq (a:ByteArray):decide ((a.size:Int) ≥ 1)=!seq a ⟨#[]⟩:=by
 unfold seq
 rw [ByteArray.toList_eq,ByteArray.toList_eq]
 obtain ⟨⟨l⟩⟩:=a
 cases l with
 | nil=>rfl
 | cons x l =>
  have h2:((⟨⟨x :: l⟩⟩:ByteArray).size:Int) ≥ 1:=by
   show ((l.length + 1:Nat):Int) ≥ 1
   omega
  rw [decide_eq_true h2]
  rfl
theorem f34_l1_eq (k:Nat) (a:ByteArray) : ∀ (l:List UInt8) (i:Nat),f34_l1 k a l i=some (runL l i && !seq a ⟨#[]⟩ && decide ((a.size:Int)≤12) && !wordsL.any (seq a))
 | [],i=>by
  unfold f34_l1 runL
  rw [f68_eq,size_seq]
  simp only [Option.bind_some,f34_j1]
  cases seq a ⟨#[]⟩ <;> cases decide ((a.size:Int)≤12) <;> rfl
 | e :: l,i=>by
  unfold f34_l1 runL
  rw [f66_eq]
  simp only [Option.bind_some,f34_j2,f67_eq,f34_l1_eq k a l]
  cases letterI e.toNat <;> cases ((i:Int) == 0) <;> cases digitI e.toNat <;> simp
theorem f34_eq (k:Nat) (s:ByteArray):f34 k s=some (isN s):=f34_l1_eq k s _ 0
def textL:List UInt8→Bool
 | []=>true
 | e :: l=>!decide ((e.toNat:Int) < 32) && !decide ((e.toNat:Int) > 126) && textL l
def isT (s:ByteArray):Bool:=textL s.data.toList && decide ((s.size:Int)≤60)
theorem f162_l1_eq (k:Nat) (a:ByteArray) : ∀ (l:List UInt8) (i:Nat),f162_l1 k a l i=some (textL l && decide ((a.size:Int)≤60))
 | [],i=>by simp [f162_l1,textL]
 | e :: l,i=>by
  unfold f162_l1 textL
  simp only [f162_j1,f162_l1_eq k a l]
  cases decide ((e.toNat:Int) < 32) <;> cases decide ((e.toNat:Int) > 126) <;> simp
theorem f132_l1_eq (k:Nat) (a:ByteArray) : ∀ (l:List UInt8) (i:Nat),f132_l1 k a l i=some (textL l && decide ((a.size:Int)≤60))
 | [],i=>by simp [f132_l1,textL]
 | e :: l,i=>by
  unfold f132_l1 textL
  simp only [f132_j1,f132_l1_eq k a l]
  cases decide ((e.toNat:Int) < 32) <;> cases decide ((e.toNat:Int) > 126) <;> simp
theorem f160_eq (k:Nat) (s:ByteArray):f160 k s=some (isT s):=f162_l1_eq k s _ 0
theorem f132_eq (k:Nat) (s:ByteArray):f132 k s=some (isT s):=f132_l1_eq k s _ 0
end Go.Proofs.YtoajecnoffhlbaaGreatDoor
namespace Go.Proofs.YtoajecnoffhlbaaGreatDoor
open Go
theorem w64_nat {x:Int} {n:Nat} (h:x=(n:Int)) (h2:n≤4611686018427387904):w64 x=(n:Int):=by
 subst h; unfold w64 IntKind.wrap; simp [IntKind.bits,IntKind.signed]; omega
def nodeE (op num:Int) (txt:ByteArray) (len:Nat):Bool :=
 cond (op == 1) (decide (num ≥ 0) && decide (num≤1000000000000) && seq txt ⟨#[]⟩ && (len:Int) == 0)
 (cond (op == 2) (decide (num ≥ 0) && decide (num≤1) && seq txt ⟨#[]⟩ && (len:Int) == 0)
 (cond (op == 3) (num == 0 && isT txt && (len:Int) == 0)
 (cond (op == 4) (num == 0 && isN txt && (len:Int) == 0)
 (cond (op == 5 || op == 6) (num == 0 && seq txt ⟨#[]⟩ && (len:Int) == 1)
  (decide (op ≥ 7) && decide (op≤19) && num == 0 && seq txt ⟨#[]⟩ && (len:Int) == 2)))))
mutual
def gE (z:Bool):DExpr→Nat→Bool
 | .mk op num txt slot l,a=>decide (a≤16) && (z || slot == 0) && nodeE op num txt l.length && gEs z l (a + 1)
def gEs (z:Bool):List DExpr→Nat→Bool
 | [],_=>true
 | e :: l,a=>gE z e a && gEs z l a
end
def NRes (r:Option (Dcounter × Bool)) (g:Bool) (n sz:Nat) (z:Bool):Prop :=
 ∃ c,r=some (c,g && decide (n + sz≤600))∧((g && decide (n + sz≤600))=true→∃ d,c=.mk ((n + sz:Nat):Int) d z)
theorem f116_eq (k:Nat) (x a b:Int):f116 k x a b=some (decide (x ≥ a) && decide (x≤b)):=by
 unfold f116 f116_b f116_j1; cases decide (x ≥ a) <;> rfl
theorem f117_eq (k:Nat) (n:Nat) (d:Int) (z:Bool) (a:Nat) (h:n≤600) :
  f117 k (.mk n d z) a=some (.mk ((n + 1:Nat):Int) (imax d a) z,decide (n + 1≤600) && decide (a≤16)):=by
 unfold f117 f117_b f117_j1
 simp only
 rw [w64_nat (n:=n + 1) (by omega) (by omega)]
 have e1:decide (((n + 1:Nat):Int)≤600)=decide (n + 1≤600):=by rw [decide_eq_decide]; omega
 have e2:decide ((a:Int)≤16)=decide (a≤16):=by rw [decide_eq_decide]; omega
 rw [e1,e2]
 cases decide (n + 1≤600) <;> rfl
theorem f157_j1_eq (k:Nat) (F:Fam153) (op num:Int) (txt:ByteArray) (l:List DExpr) (a n d:Int) (q:Bool) :
  f157_j1 k F op num txt l a n d q false=cond (nodeE op num txt l.length) (f157_j2 k F l a n d q (l.length:Int) true) (some (.mk n d q,false)):=by
 unfold f157_j1 f157_j4 f157_j5 f157_j6 f157_j2 f157_j3 nodeE
 simp only [f116_eq,f160_eq,f63_eq,Option.bind_some,Bool.cond_eq_ite]
 grind
theorem szE_pos : ∀ e:DExpr,1≤szE e
 | .mk _ _ _ _ _=>by simp only [szE]; omega
theorem NRes.no {r:Option (Dcounter × Bool)} {g:Bool} {n sz:Nat} {z:Bool} {c:Dcounter} (h:r=some (c,false)) (hg:(g && decide (n + sz≤600))=false):NRes r g n sz z :=
 ⟨c,by rw [h,hg],by rw [hg]; intro h; cases h⟩
theorem NRes.yes {r:Option (Dcounter × Bool)} {g:Bool} {n sz:Nat} {z:Bool} {d:Int} (h:r=some (.mk ((n + sz:Nat):Int) d z,true)) (hg:(g && decide (n + sz≤600))=true):NRes r g n sz z :=
 ⟨_,by rw [h,hg],fun _=>⟨d,rfl⟩⟩
theorem nE (k:Nat) (z:Bool) : ∀ m,
  (∀ e,2 * szE e≤m→∀ (n:Nat) (d:Int) (a:Nat),n≤600→a≤17→NRes ((fam153 k m).f157 (.mk n d z) e a) (gE z e a) n (szE e) z) ∧
  (∀ l,2 * szEs l + 1≤m→∀ (n:Nat) (d:Int) (a:Nat),n≤600→a≤17→NRes ((fam153 k m).f153 (.mk n d z) l a) (gEs z l a) n (szEs l) z)
 | 0=>⟨fun e he=>by have:=szE_pos e; omega,fun l hl=>by omega⟩
 | m + 1=>by
  obtain ⟨ihe,ihl⟩:=nE k z m
  constructor
  ·intro e he n d a hn ha
   obtain ⟨op,num,txt,slot,l⟩:=e
   simp only [szE] at he
   show NRes (f157_b k (fam153 k m) (.mk n d z) (.mk op num txt slot l) a) _ _ _ _
   unfold f157_b
   simp only [szE]
   rw [f117_eq k n d z a hn]
   simp only [Option.bind_some]
   have hj : ∀ q:Bool,f157_j1 k (fam153 k m) op num txt l a ((n + 1:Nat):Int) (imax d a) z q=cond q (some (.mk ((n + 1:Nat):Int) (imax d a) z,false)) (cond (nodeE op num txt l.length) (f157_j2 k (fam153 k m) l a ((n + 1:Nat):Int) (imax d a) z (l.length:Int) true) (some (.mk ((n + 1:Nat):Int) (imax d a) z,false))):=by
    intro q; cases q
    ·exact f157_j1_eq _ _ _ _ _ _ _ _ _ _
    ·rfl
   simp only [hj]
   by_cases h1:n + 1≤600∧a≤16
   ·obtain ⟨h1,h2⟩:=h1
    simp only [h1,h2,decide_true,Bool.and_self,Bool.not_true,cond_false]
    by_cases h3:(z || slot == 0)=true
    ·have h3' : (cond (slot != 0) (!z) false)=false:=by cases z <;> simp_all
     have h4 : ∀ (x y:Option (Dcounter × Bool)),cond (slot != 0) (cond (!z) x y) y=y:=by
      intro x y; cases z <;> simp_all
     rw [h4]
     by_cases h5:nodeE op num txt l.length=true
     ·simp only [h5,cond_true]
      unfold f157_j2
      simp only [beq_self_eq_true,cond_true]
      rw [w64_nat (n:=a + 1) (by omega) (by omega)]
      obtain ⟨c,hc,hd⟩:=ihl l (by omega) (n + 1) (imax d a) (a + 1) h1 (by omega)
      rw [hc]
      refine ⟨c,?_,?_⟩
      ·obtain ⟨c0,c1,c2⟩:=c
       have:n + 1 + szEs l=n + (szEs l + 1):=by omega
       simp [f157_j3,gE,h2,h3,h5,this]
      ·intro hg
       have e1:n + (szEs l + 1)=n + 1 + szEs l:=by omega
       rw [e1]
       refine hd ?_
       rw [e1] at hg
       simp [gE,h2,h3,h5] at hg
       simp [hg]
     ·have h5' : nodeE op num txt l.length=false:=by simpa using h5
      simp only [h5',cond_false]
      exact .no rfl (by simp [gE,h5'])
    ·have h3' : (z || slot == 0)=false:=by simpa using h3
     have h4 : ∀ (x y:Option (Dcounter × Bool)),cond (slot != 0) (cond (!z) x y) y=x:=by
      intro x y
      simp only [Bool.or_eq_false_iff,beq_eq_false_iff_ne] at h3'
      have e:(slot != 0)=true:=bne_iff_ne.mpr h3'.2
      rw [e,h3'.1]; rfl
     rw [h4]
     exact .no rfl (by simp [gE,h3'])
   ·have h1' : (decide (n + 1≤600) && decide (a≤16))=false:=by
     simp only [Bool.and_eq_false_iff,decide_eq_false_iff_not]; omega
    simp only [h1',Bool.not_false,cond_true]
    refine .no rfl ?_
    simp only [gE,Bool.and_eq_false_iff,decide_eq_false_iff_not]
    omega
  ·intro l hl n d a hn ha
   show NRes (f153_l1 k (fam153 k m) a l 0 n d z) _ _ _ _
   have loop : ∀ (l:List DExpr) (i:Nat) (n:Nat) (d:Int),2 * szEs l≤m→n≤600→NRes (f153_l1 k (fam153 k m) a l i n d z) (gEs z l a) n (szEs l) z:=by
    intro l
    induction l with
    | nil=>intro i n d _ hn; exact .yes rfl (by simp [gEs,szEs,hn])
    | cons e l ih =>
     intro i n d hm hn
     obtain ⟨e0,e1,e2,e3,e4⟩:=e
     unfold f153_l1
     simp only [szEs] at hm
     obtain ⟨c,hc,hd⟩:=ihe (.mk e0 e1 e2 e3 e4) (by omega) n d a hn ha
     rw [hc]
     by_cases hg:(gE z (.mk e0 e1 e2 e3 e4) a && decide (n + szE (.mk e0 e1 e2 e3 e4)≤600))=true
     ·obtain ⟨d',rfl⟩:=hd hg
      have hg':=hg
      simp only [Bool.and_eq_true,decide_eq_true_eq] at hg'
      simp only [hg,Option.bind_some,Bool.not_true,cond_false]
      obtain ⟨c2,hc2,hd2⟩:=ih (i + 1) _ d' (by omega) hg'.2
      have e1:n + (szE (DExpr.mk e0 e1 e2 e3 e4) + szEs l)=n + szE (DExpr.mk e0 e1 e2 e3 e4) + szEs l:=by omega
      refine ⟨c2,?_,?_⟩
      ·rw [hc2]; simp only [gEs,szEs,hg'.1,Bool.true_and,e1]
      ·simp only [gEs,szEs,hg'.1,Bool.true_and,e1]; exact hd2
     ·have hg' : (gE z (.mk e0 e1 e2 e3 e4) a && decide (n + szE (.mk e0 e1 e2 e3 e4)≤600))=false:=by simpa using hg
      obtain ⟨c0,c1,c2⟩:=c
      simp only [hg',Option.bind_some,Bool.not_false,cond_true]
      refine .no rfl ?_
      simp only [Bool.and_eq_false_iff,decide_eq_false_iff_not,gEs,szEs] at hg' ⊢
      rcases hg' with h | h
      ·exact .inl (.inl h)
      ·exact .inr (decide_eq_false (fun h'=>h (by omega)))
   exact loop l 0 n d (by omega) hn
theorem f59_eq (k:Nat) (n d:Int) (q b:Bool):f59 k (.mk n d q) b=some (.mk n d (q || !b)):=by
 unfold f59 f59_b; cases b <;> cases q <;> rfl
theorem f60_eq (k:Nat) (n:Nat) (d:Int) (q:Bool) (a:Nat) (h:n≤600) :
  f60 k (.mk n d q) a=some (.mk ((n + 1:Nat):Int) (imax d a) (q || !(decide (n + 1≤600) && decide (a≤16)))):=by
 unfold f60 f60_b f60_j1
 simp only
 rw [w64_nat (n:=n + 1) (by omega) (by omega)]
 have e1:decide (((n + 1:Nat):Int) > 600)=!decide (n + 1≤600):=by rw [← decide_not,decide_eq_decide]; omega
 have e2:decide ((a:Int) > 16)=!decide (a≤16):=by rw [← decide_not,decide_eq_decide]; omega
 rw [e1,e2]
 cases decide (n + 1≤600) <;> cases decide (a≤16) <;> cases q <;> rfl
theorem bfun {α:Type} (Q:Bool→α) : ∃ A B,Q=fun b=>if b=true then A else B :=
 ⟨Q true,Q false,funext fun b=>by cases b <;> rfl⟩
theorem f110_j1_eq (k:Nat) (F:Fam110) (op num:Int) (txt:ByteArray) (l:List DExpr) (a:Int) (x:Bool) (n d:Int) (q:Bool) :
  f110_j1 k F op num txt l a x n d q=f110_l1 k F a x l 0 n d (q || !nodeE op num txt l.length):=by
 unfold f110_j1 f110_j3 f110_j2 nodeE
 have h01:(decide (num ≥ 0) && decide (num≤1))=(num == 0 || num == 1):=by
  rw [Bool.eq_iff_iff]; simp only [Bool.and_eq_true,Bool.or_eq_true,decide_eq_true_eq,beq_iff_eq]; omega
 rw [h01]
 simp only [f59_eq,f132_eq,f34_eq,Option.bind_some,Bool.cond_eq_ite]
 generalize f110_l1 k F a x l 0 n d=Q
 obtain ⟨A,B,rfl⟩:=bfun Q
 grind (splits:=40)
def RRes (r:Option DSize) (g:Bool) (n sz:Nat) (q:Bool):Prop :=
 ∃ x d q',r=some (.mk x d q')∧q'=(q || !(g && decide (n + sz≤600)))∧(q'=false→x=((n + sz:Nat):Int))
theorem RRes.wrong {r:Option DSize} {g:Bool} {n sz:Nat} {x d:Int} (h:r=some (.mk x d true)):RRes r g n sz true :=
 ⟨x,d,true,h,rfl,fun h=>by cases h⟩
theorem RRes.bad {r:Option DSize} {g:Bool} {n sz:Nat} {q:Bool} {x d:Int} (h:r=some (.mk x d true)) (hg:(g && decide (n + sz≤600))=false):RRes r g n sz q :=
 ⟨x,d,true,h,by rw [hg]; cases q <;> rfl,fun h=>by cases h⟩
theorem bcomb (g1 g2:Bool) (n s1 s2:Nat):(!(g1 && decide (n + s1≤600)) || !(g2 && decide (n + s1 + s2≤600)))=!(g1 && g2 && decide (n + (s1 + s2)≤600)):=by
 rw [← Nat.add_assoc]
 by_cases hh:n + s1 + s2≤600
 ·have:n + s1≤600:=by omega
  simp only [hh,this,decide_true]; cases g1 <;> cases g2 <;> rfl
 ·simp only [hh,decide_false]; cases g1 <;> cases g2 <;> simp
theorem RRes.bind {r:Option DSize} {f:DSize→Option DSize} {g1 g2:Bool} {n s1 s2:Nat} {q:Bool} (h1:RRes r g1 n s1 q)
  (h2 : ∀ x d q',(q'=false→x=((n + s1:Nat):Int)∧n + s1≤600)→RRes (f (.mk x d q')) g2 (n + s1) s2 q'):RRes (r.bind f) (g1 && g2) n (s1 + s2) q:=by
 obtain ⟨x,d,q',rfl,hq,hx⟩:=h1
 obtain ⟨x2,d2,q2,h4,h5,h6⟩:=h2 x d q' (fun h=>⟨hx h,by rw [h] at hq; cases q <;> simp at hq; exact hq.2⟩)
 refine ⟨x2,d2,q2,h4,?_,?_⟩
 ·rw [h5,hq,Bool.or_assoc,bcomb]
 ·rw [← Nat.add_assoc]; exact h6
theorem RRes.done {n:Nat} {q:Bool} {x d:Int} (hx:q=false→x=(n:Int)∧n≤600):RRes (some (.mk x d q)) true n 0 q :=
 ⟨x,d,q,rfl,by cases q <;> simp; exact (hx rfl).2,fun h=>(hx h).1⟩
theorem RRes.cast {r:Option DSize} {g g' : Bool} {n s s' : Nat} {q:Bool} (h:RRes r g n s q) (hg:g=g') (hs:s=s'):RRes r g' n s' q:=by
 subst hg; subst hs; exact h
theorem RRes.check {r:Option DSize} {g b:Bool} {n s:Nat} {q:Bool} (h:RRes r g n s (q || !b)):RRes r (b && g) n s q:=by
 obtain ⟨x,d,q',h1,h2,h3⟩:=h
 exact ⟨x,d,q',h1,by rw [h2]; cases q <;> cases b <;> rfl,h3⟩
theorem rE (k:Nat) : ∀ m,
  ∀ e,szE e≤m→∀ (n:Nat) (d:Int) (a:Nat),n≤600→a≤17→RRes ((fam110 k m).f110 (.mk n d false) e a false) (gE false e a) n (szE e) false
 | 0=>fun e he=>by have:=szE_pos e; omega
 | m + 1=>by
  have ihe:=rE k m
  intro e he n d a hn ha
  have loop:a≤16→∀ (l:List DExpr) (i:Nat) (x:Int) (n:Nat) (d:Int) (q:Bool),szEs l≤m→(q=false→x=(n:Int)∧n≤600)→RRes (f110_l1 k (fam110 k m) a false l i x d q) (gEs false l (a + 1)) n (szEs l) q:=by
   intro ha l
   induction l with
   | nil=>intro i x n d q _ hx; exact .done hx
   | cons e l ih =>
    intro i x n d q hm hx
    obtain ⟨e0,e1,e2,e3,e4⟩:=e
    unfold f110_l1
    cases q with
    | true=>exact .wrong rfl
    | false =>
     obtain ⟨rfl,hn⟩:=hx rfl
     simp only [szEs] at hm
     simp only [Bool.not_false,cond_true]
     rw [w64_nat (n:=a + 1) (by omega) (by omega)]
     exact (ihe (.mk e0 e1 e2 e3 e4) (by omega) n d (a + 1) hn (by omega)).bind fun x1 d1 q1 h1=>ih (i + 1) x1 _ d1 q1 (by omega) h1
  obtain ⟨op,num,txt,slot,l⟩:=e
  simp only [szE] at he
  show RRes (f110_b k (fam110 k m) (.mk n d false) (.mk op num txt slot l) a false) _ _ _ _
  unfold f110_b
  simp only [szE,cond_false,f59_eq,f110_j1_eq,Option.bind_some]
  rw [f60_eq k n d false a hn]
  simp only [Option.bind_some,Bool.false_or]
  by_cases ha' : a≤16
  ·obtain ⟨x2,d2,q2,h4,h5,h6⟩:=loop ha' l 0 ((n + 1:Nat):Int) (n + 1) (imax d a) (!(decide (n + 1≤600) && decide (a≤16)) || !(slot == 0) || !nodeE op num txt l.length) (by omega) (fun hq=>⟨rfl,by simp at hq; omega⟩)
   have e1:n + (szEs l + 1)=n + 1 + szEs l:=by omega
   refine ⟨x2,d2,q2,h4,?_,?_⟩
   ·rw [h5,e1]
    simp only [gE,ha',decide_true,Bool.false_or,Bool.true_and,Bool.and_true]
    by_cases hh:n + 1 + szEs l≤600
    ·have:n + 1≤600:=by omega
     simp only [hh,this,decide_true]
     cases (slot == 0) <;> cases nodeE op num txt l.length <;> simp
    ·simp [hh]
   ·rw [e1]; exact h6
  ·have loopw : ∀ (l:List DExpr) (i:Nat) (x d:Int),∃ x' d',f110_l1 k (fam110 k m) a false l i x d true=some (.mk x' d' true):=by
    intro l i x d
    cases l with
    | nil=>exact ⟨_,_,rfl⟩
    | cons e l=>obtain ⟨_,_,_,_,_⟩:=e; exact ⟨_,_,rfl⟩
   have:(!(decide (n + 1≤600) && decide (a≤16)) || !(slot == 0) || !nodeE op num txt l.length)=true:=by simp [ha']
   rw [this]
   obtain ⟨x',d',h⟩:=loopw l 0 ((n + 1:Nat):Int) (imax d a)
   exact .bad h (by simp [gE,ha'])
end Go.Proofs.YtoajecnoffhlbaaGreatDoor
namespace Go.Proofs.YtoajecnoffhlbaaGreatDoor
open Go
def shp (op:Int):Option (Int × Bool × Int × Int × Bool × Int) :=
 match op with
 | 1=>some (1,false,1,1,false,0) | 2=>some (1,false,1,1,false,0) | 3=>some (2,true,0,600,false,0) | 4=>some (2,true,0,600,false,0)
 | 5=>some (2,false,1,1,false,0) | 6=>some (2,false,1,1,false,1) | 7=>some (1,false,1,1,false,2) | 8=>some (1,false,1,1,false,0)
 | 9=>some (1,false,0,0,false,0) | 10=>some (0,false,2,2,false,0) | 11=>some (0,false,1,1,false,0) | 12=>some (0,false,1,1,false,0)
 | 13=>some (0,false,0,0,false,0) | 14=>some (0,false,1,1,false,0) | 15=>some (0,false,1,1,false,0) | 16=>some (0,false,1,1,false,0)
 | 17=>some (0,false,0,1,false,0) | 18=>some (0,false,0,0,false,0) | 19=>some (0,false,0,0,false,0) | 20=>some (0,false,1,1,true,1)
 | 21=>some (0,false,1,1,true,0) | 22=>some (0,false,0,1,true,1) | 23=>some (0,false,0,0,true,0) | 24=>some (2,false,0,0,true,3)
 | 25=>some (1,false,1,1,true,0) | 26=>some (0,false,1,1,true,0) | 27=>some (0,false,0,0,false,0) | 28=>some (1,true,0,600,true,66)
 | 29=>some (0,false,1,1,false,0) | _=>none
theorem op_cases {P:Int→Prop} (op:Int) (h : ∀ n:Nat,n < 29→P ((n + 1:Nat):Int)) (h0:op < 1∨op > 29→P op):P op:=by
 by_cases h1:op < 1∨op > 29
 ·exact h0 h1
 ·obtain ⟨n,rfl⟩ : ∃ n:Nat,op=((n + 1:Nat):Int):=⟨(op - 1).toNat,by omega⟩
  exact h n (by omega)
theorem shp_none {op:Int} (h:op < 1∨op > 29):shp op=none:=by
 unfold shp
 split <;> first | rfl | (exfalso; omega)
def toR:Option (Int × Bool × Int × Int × Bool × Int)→DShape × Bool
 | none=>(.mk 0 0 0 false false 0,false)
 | some (nm,fr,lo,hi,bd,fl)=>(.mk lo hi nm fr bd fl,true)
theorem f109_eq (k:Nat) (op:Int):f109 k op=some (toR (shp op)):=by
 refine op_cases (P:=fun op=>f109 k op=some (toR (shp op))) op ?_ ?_
 ·intro n hn
  match n,hn with
  | 0,_=>rfl | 1,_=>rfl | 2,_=>rfl | 3,_=>rfl | 4,_=>rfl | 5,_=>rfl | 6,_=>rfl | 7,_=>rfl | 8,_=>rfl | 9,_=>rfl
  | 10,_=>rfl | 11,_=>rfl | 12,_=>rfl | 13,_=>rfl | 14,_=>rfl | 15,_=>rfl | 16,_=>rfl | 17,_=>rfl | 18,_=>rfl | 19,_=>rfl
  | 20,_=>rfl | 21,_=>rfl | 22,_=>rfl | 23,_=>rfl | 24,_=>rfl | 25,_=>rfl | 26,_=>rfl | 27,_=>rfl | 28,_=>rfl
  | n + 29,h=>omega
 ·intro h
  rw [shp_none h]
  have e : ∀ c:Int,1≤c→c≤29→(op == c)=false:=fun c h1 h2=>by rw [beq_eq_false_iff_ne]; omega
  unfold f109 f109_b f109_j1 f109_j2 f109_j3 f109_j4 f109_j5
  simp [e,toR]
def toN:Option (Int × Bool × Int × Int × Bool × Int)→Option Dshape
 | none=>none
 | some (nm,fr,lo,hi,bd,fl)=>some (.mk nm fr lo (if hi=600 then 601 else hi) bd)
theorem mget_none (op:Int) : ∀ L:List (Int × Dshape),(∀ x ∈ L,qI op x.1=false)→mget qI op L=none
 | [],_=>rfl
 | (a,v) :: L,h=>by
  unfold mget
  rw [if_neg (by rw [h (a,v) (by simp)]; simp)]
  exact mget_none op L fun x hx=>h x (by simp [hx])
theorem f150_eq (k:Nat) (op:Int):(f150 k).bind (fun r=>some (mget qI op r))=some (toN (shp op)):=by
 refine op_cases (P:=fun op=>(f150 k).bind (fun r=>some (mget qI op r))=some (toN (shp op))) op ?_ ?_
 ·intro n hn
  match n,hn with
  | 0,_=>rfl | 1,_=>rfl | 2,_=>rfl | 3,_=>rfl | 4,_=>rfl | 5,_=>rfl | 6,_=>rfl | 7,_=>rfl | 8,_=>rfl | 9,_=>rfl
  | 10,_=>rfl | 11,_=>rfl | 12,_=>rfl | 13,_=>rfl | 14,_=>rfl | 15,_=>rfl | 16,_=>rfl | 17,_=>rfl | 18,_=>rfl | 19,_=>rfl
  | 20,_=>rfl | 21,_=>rfl | 22,_=>rfl | 23,_=>rfl | 24,_=>rfl | 25,_=>rfl | 26,_=>rfl | 27,_=>rfl | 28,_=>rfl
  | n + 29,h=>omega
 ·intro h
  rw [shp_none h]
  obtain ⟨L,hL,hA⟩ : ∃ L,f150 k=some L∧(L.all fun x=>decide (1≤x.1) && decide (x.1≤29))=true:=⟨_,rfl,rfl⟩
  rw [hL]
  simp only [Option.bind_some]
  rw [mget_none op L]
  ·rfl
  ·intro x hx
   have:=List.all_eq_true.mp hA x hx
   simp only [Bool.and_eq_true,decide_eq_true_eq] at this
   unfold qI; rw [beq_eq_false_iff_ne]; omega
def flagN (op:Int) (name:ByteArray) (flag:Int) (l8 l9:Int):Bool :=
 let b0:=(IntKind.i64.wrap (BitVec.ofInt IntKind.i64.bits flag &&& BitVec.ofInt IntKind.i64.bits 1).toNat) == 1
 let b1:=(IntKind.i64.wrap (BitVec.ofInt IntKind.i64.bits flag &&& BitVec.ofInt IntKind.i64.bits 2).toNat) == 2
 cond (op == 6) (decide (flag ≥ 0) && decide (flag≤1) && (flag == 0 || !seq name ⟨#[]⟩) && l8 == 0 && l9 == 0)
 (cond (op == 7) (decide (flag ≥ 0) && decide (flag≤2) && l8 == 0 && l9 == 0)
 (cond (op == 22) (decide (flag ≥ 0) && decide (flag≤1) && l8 == 0 && l9 == 0)
 (cond (op == 20) (decide (flag ≥ 0) && decide (flag≤1) && (flag == 1 || l8 == 0) && l9 == 0)
 (cond (op == 24) (decide (flag ≥ 1) && decide (flag≤3) && ((!seq name ⟨#[]⟩) == b0) && (b0 || l8 == 0) && (b1 || l9 == 0))
 (cond (op == 28) (decide (flag ≥ 0) && decide (flag≤66) && decide (flag.tmod 4 < 3) && l8 == 0 && l9 == 0)
  (flag == 0 && l8 == 0 && l9 == 0))))))
theorem f151_eq (k:Nat) (op:Int) (name:ByteArray) (s2:Int) (fr:ByteArray) (s4 flag:Int) (l6:List DExpr) (l7 l8 l9:List DStmt) (l10:List DCase) :
  f151 k (.mk op name s2 fr s4 flag l6 l7 l8 l9 l10)=some (flagN op name flag l8.length l9.length):=by
 unfold f151 f151_b f151_j3 f151_j1 f151_j2 flagN
 simp only [f116_eq,Option.bind_some,Bool.cond_eq_ite]
 generalize (IntKind.i64.wrap (BitVec.ofInt IntKind.i64.bits flag &&& BitVec.ofInt IntKind.i64.bits 1).toNat == 1)=b0
 generalize (IntKind.i64.wrap (BitVec.ofInt IntKind.i64.bits flag &&& BitVec.ofInt IntKind.i64.bits 2).toNat == 2)=b1
 generalize ((l8.length:Int) == 0)=c8
 generalize ((l9.length:Int) == 0)=c9
 generalize seq name ⟨#[]⟩=e
 grind (splits:=20)
def nameN (nm:Int) (fr:Bool) (name from_:ByteArray):Bool :=
 (seq name ⟨#[]⟩ || (!(nm == 0) && isN name)) && (!seq name ⟨#[]⟩ || !(nm == 1)) && ((!seq from_ ⟨#[]⟩) == fr) && (!fr || isN from_)
def argsN (op lo hi:Int) (bd:Bool) (l6 l7 l10:Int):Bool :=
 decide (l6 ≥ lo) && decide (l6≤hi) && (bd || !decide (l7 > 0)) && (cond (op == 27) (decide (l10 ≥ 1) && decide (l10≤4)) (!decide (l10 > 0)))
section
variable (k:Nat) (F:Fam118) (op:Int) (name:ByteArray) (s2:Int) (from_:ByteArray) (s4 flag:Int) (l6:List DExpr) (l7 l8 l9:List DStmt) (l10:List DCase) (a nm:Int) (fr:Bool) (lo hi:Int) (bd:Bool) (n d:Int) (z q:Bool)
theorem f138_j3_eq:f138_j3 k F op l6 l7 l8 l9 l10 a lo hi bd n d z q =
  cond (!q && argsN op lo hi bd l6.length l7.length l10.length) (f138_l1 k F l6 l7 l8 l9 l10 a l10 0 n d z) (some (.mk n d z,false)):=by
 unfold f138_j3 f138_j4 argsN
 simp only [f116_eq,Option.bind_some,Bool.cond_eq_ite]
 grind (splits:=20)
theorem f138_j2_eq:f138_j2 k F op name from_ l6 l7 l8 l9 l10 a nm fr lo hi bd n d z q =
  cond (!q && nameN nm fr name from_ && argsN op lo hi bd l6.length l7.length l10.length) (f138_l1 k F l6 l7 l8 l9 l10 a l10 0 n d z) (some (.mk n d z,false)):=by
 unfold f138_j2 nameN
 simp only [f63_eq,f138_j3_eq,Option.bind_some,Bool.cond_eq_ite]
 grind (splits:=20)
theorem f138_j1_eq:f138_j1 k F n d z op name s2 from_ s4 flag l6 l7 l8 l9 l10 a nm fr lo hi bd true =
  (f117 k (.mk n d z) a).bind fun x=>match x with
   | (.mk n1 d1 z1,ok)=>cond (ok && ((s2 == 0 && s4 == 0) || z1) && flagN op name flag l8.length l9.length && nameN nm fr name from_ && argsN op lo hi bd l6.length l7.length l10.length)
    (f138_l1 k F l6 l7 l8 l9 l10 a l10 0 n1 d1 z1) (some (.mk n1 d1 z1,false)):=by
 unfold f138_j1
 simp only [Bool.not_true,cond_false]
 congr 1
 funext x
 obtain ⟨⟨n1,d1,z1⟩,ok⟩:=x
 simp only [f151_eq,f138_j2_eq,Option.bind_some,Bool.cond_eq_ite]
 grind (splits:=20)
end
def nameR (nm:Int) (name:ByteArray):Bool:=(nm == 0 && seq name ⟨#[]⟩) || (nm == 1 && isN name) || (nm == 2 && (seq name ⟨#[]⟩ || isN name))
def fromR (fr:Bool) (from_:ByteArray):Bool:=cond fr (isN from_) (seq from_ ⟨#[]⟩)
def flagR (op:Int) (name:ByteArray) (flag:Int) (l8 l9:Int):Bool :=
 (l8 == 0 || (op == 20 && flag == 1) || (op == 24 && flag.tmod 2 == 1)) && (l9 == 0 || (op == 24 && decide (flag ≥ 2))) &&
 cond (op == 6) (flag == 0 || !seq name ⟨#[]⟩) (cond (op == 24) (decide (flag > 0) && ((flag.tmod 2 == 1) == !seq name ⟨#[]⟩)) (cond (op == 28) (decide (flag.tmod 4 < 3)) true))
def casesR (op l10:Int):Bool:=((op == 27) == decide (l10 > 0)) && decide (l10≤4)
section
variable (k:Nat) (F:Fam61) (op:Int) (name:ByteArray) (s2:Int) (from_:ByteArray) (s4 flag:Int) (l6:List DExpr) (l7 l8 l9:List DStmt) (l10:List DCase) (a nm:Int) (fr:Bool) (lo hi:Int) (bd:Bool) (n d:Int) (z q:Bool)
theorem f90_j7_eq:f90_j7 k F op l6 l7 l8 l9 l10 a n d q=f90_l2 k F l7 l8 l9 l10 a l6 0 n d (q || !casesR op l10.length):=by
 unfold f90_j7 f90_j8 casesR
 simp only [f59_eq,Option.bind_some,Bool.cond_eq_ite]
 generalize f90_l2 k F l7 l8 l9 l10 a l6 0 n d=Q
 obtain ⟨A,B,rfl⟩:=bfun Q
 grind (splits:=20)
theorem f90_j4_eq:f90_j4 k F op name flag l6 l7 l8 l9 l10 a n d q=f90_l2 k F l7 l8 l9 l10 a l6 0 n d (q || !(flagR op name flag l8.length l9.length && casesR op l10.length)):=by
 unfold f90_j4 f90_j5 f90_j6 flagR
 simp only [f59_eq,f90_j7_eq,Option.bind_some,Bool.cond_eq_ite]
 generalize f90_l2 k F l7 l8 l9 l10 a l6 0 n d=Q
 generalize casesR op l10.length=c
 generalize (flag.tmod 2 == 1)=b0
 obtain ⟨A,B,rfl⟩:=bfun Q
 grind (splits:=30)
theorem f90_j1_eq:f90_j1 k F op name from_ flag l6 l7 l8 l9 l10 a nm fr bd n d q=f90_l2 k F l7 l8 l9 l10 a l6 0 n d (q || !(nameR nm name && fromR fr from_ && (bd || (l7.length:Int) == 0) && flagR op name flag l8.length l9.length && casesR op l10.length)):=by
 unfold f90_j1 f90_j2 f90_j3 nameR fromR
 simp only [f59_eq,f34_eq,f90_j4_eq,Option.bind_some,Bool.cond_eq_ite]
 generalize f90_l2 k F l7 l8 l9 l10 a l6 0 n d=Q
 generalize casesR op l10.length=c
 generalize flagR op name flag l8.length l9.length=c2
 generalize ((l7.length:Int) == 0)=c7
 obtain ⟨A,B,rfl⟩:=bfun Q
 generalize isN name=n1
 generalize isN from_=n2
 generalize seq name ⟨#[]⟩=e1
 generalize seq from_ ⟨#[]⟩=e2
 grind (splits:=30)
end
def nodeN (op:Int) (name from_:ByteArray) (flag:Int) (l6 l7 l8 l9 l10:Nat):Bool :=
 match shp op with
 | none=>false
 | some (nm,fr,lo,hi,bd,fl)=>flagN op name flag l8 l9 && nameN nm fr name from_ && argsN op lo (if hi=600 then 601 else hi) bd l6 l7 l10
def nodeS (op:Int) (name from_:ByteArray) (flag:Int) (l6 l7 l8 l9 l10:Nat):Bool :=
 match shp op with
 | none=>false
 | some (nm,fr,lo,hi,bd,fl)=>decide ((l6:Int) ≥ lo) && decide ((l6:Int)≤hi) && decide (flag ≥ 0) && decide (flag≤fl) && (nameR nm name && fromR fr from_ && (bd || (l7:Int) == 0) && flagR op name flag l8 l9 && casesR op l10)
theorem isN_ne {s:ByteArray} (h:isN s=true):seq s ⟨#[]⟩=false:=by
 unfold isN at h; cases hs:seq s ⟨#[]⟩ with
 | false=>rfl
 | true=>rw [hs] at h; simp at h
theorem bits (flag:Int) (h1:1≤flag) (h2:flag≤3):(IntKind.i64.wrap (BitVec.ofInt IntKind.i64.bits flag &&& BitVec.ofInt IntKind.i64.bits 1).toNat == 1)=(flag.tmod 2 == 1) ∧
  (IntKind.i64.wrap (BitVec.ofInt IntKind.i64.bits flag &&& BitVec.ofInt IntKind.i64.bits 2).toNat == 2)=decide (flag ≥ 2):=by
 rcases (by omega:flag=1∨flag=2∨flag=3) with rfl | rfl | rfl <;> exact ⟨rfl,rfl⟩
theorem nodeNS (op:Int) (name from_:ByteArray) (flag:Int) (l6 l7 l8 l9 l10:Nat) (h6:l6≤600):nodeN op name from_ flag l6 l7 l8 l9 l10=nodeS op name from_ flag l6 l7 l8 l9 l10:=by
 have hn:=@isN_ne name
 have hf:=@isN_ne from_
 have hb:=bits flag
 unfold nodeN nodeS flagN nameN argsN nameR fromR flagR casesR
 generalize (IntKind.i64.wrap (BitVec.ofInt IntKind.i64.bits flag &&& BitVec.ofInt IntKind.i64.bits 1).toNat == 1)=b0 at hb ⊢
 generalize (IntKind.i64.wrap (BitVec.ofInt IntKind.i64.bits flag &&& BitVec.ofInt IntKind.i64.bits 2).toNat == 2)=b1 at hb ⊢
 generalize isN name=n1 at hn ⊢
 generalize isN from_=n2 at hf ⊢
 generalize seq name ⟨#[]⟩=e1 at hn ⊢
 generalize seq from_ ⟨#[]⟩=e2 at hf ⊢
 generalize flag.tmod 2=t2 at hb ⊢
 generalize flag.tmod 4=t4
 by_cases hop:op < 1∨op > 29
 ·rw [shp_none hop]
 rcases (by omega:op=1∨op=2∨op=3∨op=4∨op=5∨op=6∨op=7∨op=8∨op=9∨op=10∨op=11∨op=12∨op=13∨op=14∨op=15∨op=16∨op=17∨op=18∨op=19∨op=20∨op=21∨op=22∨op=23∨op=24∨op=25∨op=26∨op=27∨op=28∨op=29) with rfl | rfl | rfl | rfl | rfl | rfl | rfl | rfl | rfl | rfl | rfl | rfl | rfl | rfl | rfl | rfl | rfl | rfl | rfl | rfl | rfl | rfl | rfl | rfl | rfl | rfl | rfl | rfl | rfl <;>
  simp only [shp,Int.reduceBEq,cond_true,cond_false,Int.reduceEq,if_true,if_false] <;> grind (splits:=20)
end Go.Proofs.YtoajecnoffhlbaaGreatDoor
namespace Go.Proofs.YtoajecnoffhlbaaGreatDoor
open Go
def nodeC (kind:Int) (name:ByteArray) (len:Int):Bool :=
 decide (kind ≥ 1) && decide (kind≤4) && len == (cond (kind == 2) 2 (cond (kind == 4) 0 1)) && cond (kind == 1) (isN name) (seq name ⟨#[]⟩)
mutual
def gS (z:Bool):DStmt→Nat→Bool
 | .mk op name s2 fr s4 flag l6 l7 l8 l9 l10,a=>decide (a≤16) && (z || (s2 == 0 && s4 == 0)) && nodeS op name fr flag l6.length l7.length l8.length l9.length l10.length &&
  (gEs z l6 (a + 1) && (gSs z l7 (a + 1) && (gSs z l8 (a + 1) && (gSs z l9 (a + 1) && gCs z l10 (a + 1)))))
def gSs (z:Bool):List DStmt→Nat→Bool
 | [],_=>true
 | s :: l,a=>gS z s a && gSs z l a
def gC (z:Bool):DCase→Nat→Bool
 | .mk kind name slot es b,a=>decide (a≤16) && (z || slot == 0) && nodeC kind name es.length && (gEs z es (a + 1) && gSs z b (a + 1))
def gCs (z:Bool):List DCase→Nat→Bool
 | [],_=>true
 | .mk kind name slot es b :: l,a=>(!(kind == 4) || l.isEmpty) && gC z (.mk kind name slot es b) a && gCs z l a
end
theorem szS_pos : ∀ e:DStmt,1≤szS e
 | .mk _ _ _ _ _ _ _ _ _ _ _=>by simp only [szS]; omega
theorem szC_pos : ∀ e:DCase,1≤szC e
 | .mk _ _ _ _ _=>by simp only [szC]; omega
theorem NRes.bind {r:Option (Dcounter × Bool)} {f:Dcounter × Bool→Option (Dcounter × Bool)} {g1 g2:Bool} {n s1 s2:Nat} {z:Bool} (h1:NRes r g1 n s1 z)
  (hf : ∀ c,∃ c',f (c,false)=some (c',false)) (h2 : ∀ d,n + s1≤600→NRes (f (.mk ((n + s1:Nat):Int) d z,true)) g2 (n + s1) s2 z):NRes (r.bind f) (g1 && g2) n (s1 + s2) z:=by
 obtain ⟨c,rfl,hc⟩:=h1
 by_cases hg:(g1 && decide (n + s1≤600))=true
 ·obtain ⟨d,rfl⟩:=hc hg
  rw [Bool.and_eq_true,decide_eq_true_eq] at hg
  obtain ⟨h3,h4⟩:=hg
  subst h3
  simp only [h4,decide_true,Bool.and_self,Bool.true_and,Option.bind_some]
  obtain ⟨c,h5,h6⟩:=h2 d h4
  rw [Nat.add_assoc] at h5 h6
  exact ⟨c,h5,h6⟩
 ·have hg' : (g1 && decide (n + s1≤600))=false:=by simpa using hg
  rw [hg']
  obtain ⟨c',h⟩:=hf c
  refine .no h ?_
  rw [Bool.and_eq_false_iff,decide_eq_false_iff_not] at hg' ⊢
  rcases hg' with h | h
  ·left; rw [h]; rfl
  ·right; omega
theorem NRes.conv {r:Option (Dcounter × Bool)} {g g' : Bool} {n s n' s' : Nat} {z:Bool} (h:NRes r g n s z) (hs:n + s=n' + s') (hg:n + s≤600→g=g'):NRes r g' n' s' z:=by
 unfold NRes at h ⊢
 rw [← hs]
 have:(g && decide (n + s≤600))=(g' && decide (n + s≤600)):=by
  by_cases h:n + s≤600
  ·rw [hg h]
  ·simp [h]
 rwa [← this]
theorem f153_res (k:Nat) (z:Bool) (l:List DExpr) (hk:2 * szEs l + 1≤k) (n:Nat) (d:Int) (a:Nat) (hn:n≤600) (ha:a≤17):NRes (f153 k (.mk n d z) l a) (gEs z l a) n (szEs l) z :=
 (nE k z k).2 l hk n d a hn ha
theorem mget4 (kind:Int):mget qI kind (mput qI 4 0 (mput qI 3 1 (mput qI 2 2 (mput qI 1 1 ([]:List (Int × Int)))))) =
  cond (decide (kind ≥ 1) && decide (kind≤4)) (some (cond (kind == 2) 2 (cond (kind == 4) 0 1))) none:=by
 have e:mput qI 4 0 (mput qI 3 1 (mput qI 2 2 (mput qI 1 1 ([]:List (Int × Int)))))=[(1,1),(2,2),(3,1),(4,0)]:=rfl
 rw [e]
 unfold mget mget mget mget mget qI
 simp only [Bool.cond_eq_ite]
 grind
theorem f152_b_eq (k:Nat) (F:Fam118) (kind:Int) (name:ByteArray) (slot:Int) (es:List DExpr) (b:List DStmt) (a n d:Int) (z:Bool) :
  f152_b k F (.mk n d z) (.mk kind name slot es b) a=cond (decide (kind ≥ 1) && decide (kind≤4)) ((f117 k (.mk n d z) a).bind fun x=>match x with
   | (.mk n1 d1 z1,ok)=>cond (ok && (z1 || slot == 0) && nodeC kind name es.length) (f152_j1 k F es b a n1 d1 z1 false) (some (.mk n1 d1 z1,false))) (some (.mk n d z,false)):=by
 unfold f152_b
 simp only [mget4]
 by_cases hk:(decide (kind ≥ 1) && decide (kind≤4))=true
 ·simp only [hk,cond_true,mcase]
  congr 1
  funext x
  obtain ⟨⟨n1,d1,z1⟩,ok⟩:=x
  unfold f152_j1
  have hn:=@isN_ne name
  simp only [f63_eq,Option.bind_some,nodeC,hk,Bool.true_and]
  generalize (cond (kind == 2) (2:Int) (cond (kind == 4) 0 1))=e
  generalize isN name=n1 at hn ⊢
  generalize seq name ⟨#[]⟩=e1 at hn ⊢
  simp only [Bool.cond_eq_ite]
  grind (splits:=20)
 ·have hk' : (decide (kind ≥ 1) && decide (kind≤4))=false:=by simpa using hk
  simp only [hk',cond_false,mcase]
theorem argsN_len {op lo hi:Int} {bd:Bool} {l6 l7:Int} {l10:Nat} (h:argsN op lo hi bd l6 l7 l10=true):l10≤4:=by
 unfold argsN at h
 cases hop:(op == 27) <;> simp only [hop,cond_true,cond_false,Bool.and_eq_true,Bool.not_eq_true',decide_eq_true_eq,decide_eq_false_iff_not] at h <;> omega
theorem nSt (k:Nat) (z:Bool) : ∀ m,m≤k →
  (∀ s,2 * szS s≤m→∀ (n:Nat) (d:Int) (a:Nat),n≤600→a≤17→NRes ((fam118 k m).f138 (.mk n d z) s a) (gS z s a) n (szS s) z) ∧
  (∀ l,2 * szSs l + 1≤m→∀ (n:Nat) (d:Int) (a:Nat),n≤600→a≤17→NRes ((fam118 k m).f118 (.mk n d z) l a) (gSs z l a) n (szSs l) z) ∧
  (∀ c,2 * szC c≤m→∀ (n:Nat) (d:Int) (a:Nat),n≤600→a≤17→NRes ((fam118 k m).f152 (.mk n d z) c a) (gC z c a) n (szC c) z)
 | 0,_=>⟨fun e he=>by have:=szS_pos e; omega,fun l hl=>by omega,fun c hc=>by have:=szC_pos c; omega⟩
 | m + 1,hmk=>by
  obtain ⟨ihs,ihl,ihc⟩:=nSt k z m (by omega)
  refine ⟨?_,?_,?_⟩
  ·intro s hs n d a hn ha
   obtain ⟨op,name,s2,fr,s4,flag,l6,l7,l8,l9,l10⟩:=s
   simp only [szS] at hs
   show NRes (f138_b k (fam118 k m) (.mk n d z) (.mk op name s2 fr s4 flag l6 l7 l8 l9 l10) a) _ _ _ _
   have tail : ∀ (n:Nat) (d:Int),a≤16→n≤600→NRes (f138_l1 k (fam118 k m) l6 l7 l8 l9 l10 a [] l10.length n d z) (gEs z l6 (a + 1) && (gSs z l7 (a + 1) && (gSs z l8 (a + 1) && gSs z l9 (a + 1)))) n (szEs l6 + (szSs l7 + (szSs l8 + szSs l9))) z:=by
    intro n d ha hn
    unfold f138_l1
    rw [w64_nat (n:=a + 1) (by omega) (by omega)]
    refine (f153_res k z l6 (by omega) n d (a + 1) hn (by omega)).bind (fun c=>by obtain ⟨_,_,_⟩:=c; exact ⟨_,rfl⟩) fun d hn=>?_
    refine (ihl l7 (by omega) _ d (a + 1) hn (by omega)).bind (fun c=>by obtain ⟨_,_,_⟩:=c; exact ⟨_,rfl⟩) fun d hn=>?_
    refine (ihl l8 (by omega) _ d (a + 1) hn (by omega)).bind (fun c=>by obtain ⟨_,_,_⟩:=c; exact ⟨_,rfl⟩) fun d hn=>?_
    refine ((ihl l9 (by omega) _ d (a + 1) hn (by omega)).bind (g2:=true) (s2:=0) (fun c=>by obtain ⟨_,_,_⟩:=c; exact ⟨_,rfl⟩) fun d hn=>?_).conv (by omega) (fun _=>by simp)
    exact .yes rfl (by simp [hn])
   have loop:a≤16→l10.length≤4→∀ (rest:List DCase) (i:Nat) (n:Nat) (d:Int),2 * szCs rest≤m→i + rest.length=l10.length→n≤600 →
     NRes (f138_l1 k (fam118 k m) l6 l7 l8 l9 l10 a rest i n d z) (gCs z rest (a + 1) && (gEs z l6 (a + 1) && (gSs z l7 (a + 1) && (gSs z l8 (a + 1) && gSs z l9 (a + 1))))) n (szCs rest + (szEs l6 + (szSs l7 + (szSs l8 + szSs l9)))) z:=by
    intro ha h10 rest
    induction rest with
    | nil =>
     intro i n d _ hi hn
     obtain rfl:i=l10.length:=by simpa using hi
     exact (tail n d ha hn).conv (by simp [szCs]) (fun _=>by simp [gCs])
    | cons c rest ih =>
     intro i n d hm hi hn
     obtain ⟨e0,e1,e2,e3,e4⟩:=c
     simp only [szCs,List.length_cons] at hm hi
     unfold f138_l1
     rw [w64_nat (x:=(a:Int) + 1) (n:=a + 1) (by omega) (by omega),w64_nat (x:=(l10.length:Int) - 1) (n:=l10.length - 1) (by omega) (by omega)]
     have step:NRes (((fam118 k m).f152 (.mk n d z) (.mk e0 e1 e2 e3 e4) ((a + 1:Nat):Int)).bind fun q_=>match q_ with | (.mk z1467_0 z1467_1 z1467_2,r1468)=>(f138_j6 k (fam118 k m) i z1467_0 z1467_1 z1467_2 (!r1468) (f138_l1 k (fam118 k m) l6 l7 l8 l9 l10 a rest)))
       (gC z (.mk e0 e1 e2 e3 e4) (a + 1) && (gCs z rest (a + 1) && (gEs z l6 (a + 1) && (gSs z l7 (a + 1) && (gSs z l8 (a + 1) && gSs z l9 (a + 1)))))) n (szC (.mk e0 e1 e2 e3 e4) + (szCs rest + (szEs l6 + (szSs l7 + (szSs l8 + szSs l9))))) z :=
      (ihc (.mk e0 e1 e2 e3 e4) (by omega) n d (a + 1) hn (by omega)).bind (fun c=>by obtain ⟨_,_,_⟩:=c; exact ⟨_,rfl⟩) fun d hn=>ih (i + 1) _ d (by omega) (by omega) hn
     by_cases h4:(e0 == 4)=true
     ·simp only [h4,cond_true]
      by_cases hl:i < l10.length - 1
      ·have:((i:Int) < ((l10.length - 1:Nat):Int)):=by omega
       simp only [this,decide_true,cond_true]
       refine .no rfl ?_
       have:rest.isEmpty=false:=by cases rest with
        | nil=>simp at hi; omega
        | cons=>rfl
       simp [gCs,h4,this]
      ·have : ¬ ((i:Int) < ((l10.length - 1:Nat):Int)):=by omega
       simp only [this,decide_false,cond_false]
       have:rest.isEmpty=true:=by cases rest with
        | nil=>rfl
        | cons=>simp at hi; omega
       exact step.conv (by simp only [szCs]; omega) (fun _=>by simp [gCs,this,Bool.and_assoc])
     ·have h4' : (e0 == 4)=false:=by simpa using h4
      simp only [h4',cond_false]
      exact step.conv (by simp only [szCs]; omega) (fun _=>by simp [gCs,h4',Bool.and_assoc])
   unfold f138_b
   obtain ⟨L,hL⟩ : ∃ L,f150 k=some L:=⟨_,rfl⟩
   have hg:=f150_eq k op
   rw [hL] at hg ⊢
   simp only [Option.bind_some,Option.some.injEq] at hg ⊢
   rw [hg]
   cases hsh:shp op with
   | none =>
    have:nodeS op name fr flag l6.length l7.length l8.length l9.length l10.length=false:=by unfold nodeS; rw [hsh]
    refine .no (c:=.mk n d z) ?_ (by simp [gS,this])
    simp only [toN,mcase]
    unfold f138_j1
    simp only [Bool.not_false,cond_true,f138_j2_eq]
    rfl
   | some t =>
    obtain ⟨nm,frm,lo,hi,bd,fl⟩:=t
    simp only [toN,mcase,f138_j1_eq,f117_eq k n d z a hn,Option.bind_some]
    have hN:nodeN op name fr flag l6.length l7.length l8.length l9.length l10.length=(flagN op name flag l8.length l9.length && nameN nm frm name fr && argsN op lo (if hi=600 then 601 else hi) bd l6.length l7.length l10.length):=by unfold nodeN; rw [hsh]
    rw [Bool.and_assoc,Bool.and_assoc,← Bool.and_assoc (flagN _ _ _ _ _),← hN]
    have hl6:=len_szEs l6
    by_cases h1:n + 1≤600∧a≤16
    ·obtain ⟨h1,h2⟩:=h1
     by_cases h3:((s2 == 0 && s4 == 0) || z)=true
     ·by_cases h4:nodeN op name fr flag l6.length l7.length l8.length l9.length l10.length=true
      ·have h10:l10.length≤4:=by
        rw [hN] at h4
        rw [Bool.and_eq_true] at h4
        exact argsN_len h4.2
       simp only [h1,h2,h3,h4,decide_true,Bool.and_self,cond_true]
       refine (loop h2 h10 l10 0 (n + 1) (imax d a) (by omega) (by omega) h1).conv (by simp only [szS]; omega) (fun hh=>?_)
       have h5:nodeS op name fr flag l6.length l7.length l8.length l9.length l10.length=true:=by rw [← nodeNS _ _ _ _ _ _ _ _ _ (by omega)]; exact h4
       simp only [gS,h2,decide_true,h5]
       rw [Bool.or_comm] at h3
       simp only [h3,Bool.and_self,Bool.true_and]
       cases gCs z l10 (a + 1) <;> cases gEs z l6 (a + 1) <;> cases gSs z l7 (a + 1) <;> cases gSs z l8 (a + 1) <;> cases gSs z l9 (a + 1) <;> rfl
      ·have h4' : nodeN op name fr flag l6.length l7.length l8.length l9.length l10.length=false:=by simpa using h4
       simp only [h4',Bool.and_false,cond_false]
       refine .no rfl ?_
       by_cases hh:n + szS (.mk op name s2 fr s4 flag l6 l7 l8 l9 l10)≤600
       ·have h5:nodeS op name fr flag l6.length l7.length l8.length l9.length l10.length=false:=by
         rw [← nodeNS _ _ _ _ _ _ _ _ _ (by simp only [szS] at hh; omega)]; exact h4'
        simp [gS,h5]
       ·simp [hh]
     ·have h3' : ((s2 == 0 && s4 == 0) || z)=false:=by simpa using h3
      simp only [h3',Bool.false_and,Bool.and_false,cond_false]
      refine .no rfl ?_
      rw [Bool.or_comm] at h3'
      simp only [gS,h3',Bool.false_and,Bool.and_false]
    ·have h1' : (decide (n + 1≤600) && decide (a≤16))=false:=by
      simp only [Bool.and_eq_false_iff,decide_eq_false_iff_not]; omega
     simp only [h1',Bool.false_and,cond_false]
     refine .no rfl ?_
     rw [Bool.and_eq_false_iff,decide_eq_false_iff_not]
     by_cases h2:a≤16
     ·right; simp only [szS]; omega
     ·left; simp [gS,h2]
  ·intro l hl n d a hn ha
   show NRes (f118_l1 k (fam118 k m) a l 0 n d z) _ _ _ _
   have loop : ∀ (l:List DStmt) (i:Nat) (n:Nat) (d:Int),2 * szSs l≤m→n≤600→NRes (f118_l1 k (fam118 k m) a l i n d z) (gSs z l a) n (szSs l) z:=by
    intro l
    induction l with
    | nil=>intro i n d _ hn; exact .yes rfl (by simp [gSs,szSs,hn])
    | cons e l ih =>
     intro i n d hm hn
     obtain ⟨e0,e1,e2,e3,e4,e5,e6,e7,e8,e9,e10⟩:=e
     unfold f118_l1
     simp only [szSs] at hm
     exact (ihs (.mk e0 e1 e2 e3 e4 e5 e6 e7 e8 e9 e10) (by omega) n d a hn ha).bind (fun c=>by obtain ⟨_,_,_⟩:=c; exact ⟨_,rfl⟩) fun d hn=>ih (i + 1) _ d (by omega) hn
   exact loop l 0 n d (by omega) hn
  ·intro c hc n d a hn ha
   obtain ⟨kind,name,slot,es,b⟩:=c
   simp only [szC] at hc
   show NRes (f152_b k (fam118 k m) (.mk n d z) (.mk kind name slot es b) a) _ _ _ _
   rw [f152_b_eq]
   by_cases hk:(decide (kind ≥ 1) && decide (kind≤4))=true
   ·simp only [hk,cond_true]
    rw [f117_eq k n d z a hn]
    simp only [Option.bind_some]
    by_cases h1:n + 1≤600∧a≤16
    ·obtain ⟨h1,h2⟩:=h1
     by_cases h3:((z || slot == 0) && nodeC kind name es.length)=true
     ·rw [Bool.and_assoc,h3]
      simp only [h1,h2,decide_true,Bool.and_self,cond_true]
      unfold f152_j1
      simp only [cond_false]
      rw [w64_nat (x:=(a:Int) + 1) (n:=a + 1) (by omega) (by omega)]
      refine NRes.conv (g:=gEs z es (a + 1) && (gSs z b (a + 1) && true)) (n:=n + 1) (s:=szEs es + (szSs b + 0)) ?_ (by simp only [szC]; omega) (fun _=>?_)
      ·refine (f153_res k z es (by omega) (n + 1) _ (a + 1) h1 (by omega)).bind (fun c=>by obtain ⟨_,_,_⟩:=c; exact ⟨_,rfl⟩) fun d hn=>?_
       refine (ihl b (by omega) _ d (a + 1) hn (by omega)).bind (fun c=>by obtain ⟨_,_,_⟩:=c; exact ⟨_,rfl⟩) fun d hn=>?_
       exact .yes rfl (by simp [hn])
      ·simp only [gC,h2,decide_true,Bool.true_and,Bool.and_true,h3]
     ·have h3' : ((z || slot == 0) && nodeC kind name es.length)=false:=by simpa using h3
      rw [Bool.and_assoc,h3',Bool.and_false]
      refine .no rfl ?_
      rw [gC,Bool.and_assoc (decide (a≤16)),h3']
      simp
    ·have h1' : (decide (n + 1≤600) && decide (a≤16))=false:=by
      simp only [Bool.and_eq_false_iff,decide_eq_false_iff_not]; omega
     simp only [h1',Bool.false_and,cond_false]
     refine .no rfl ?_
     rw [Bool.and_eq_false_iff,decide_eq_false_iff_not]
     by_cases h2:a≤16
     ·right; simp only [szC]; omega
     ·left; simp [gC,h2]
   ·have hk' : (decide (kind ≥ 1) && decide (kind≤4))=false:=by simpa using hk
    simp only [hk',cond_false]
    exact .no rfl (by simp only [gC,nodeC,hk',Bool.false_and,Bool.and_false])
end Go.Proofs.YtoajecnoffhlbaaGreatDoor
namespace Go.Proofs.YtoajecnoffhlbaaGreatDoor
open Go
section
variable (k:Nat) (F:Fam61) (op:Int) (name:ByteArray) (s2:Int) (from_:ByteArray) (s4 flag:Int) (l6:List DExpr) (l7 l8 l9:List DStmt) (l10:List DCase) (a nm:Int) (fr:Bool) (lo hi:Int) (bd:Bool) (n d:Int) (z q:Bool)
theorem f90_b_eq:f90_b k F (.mk n d false) (.mk op name s2 from_ s4 flag l6 l7 l8 l9 l10) a=(f60 k (.mk n d false) a).bind fun x=>match x with
  | .mk n1 d1 q1=>f90_l2 k F l7 l8 l9 l10 a l6 0 n1 d1 (q1 || !((s2 == 0 && s4 == 0) && nodeS op name from_ flag l6.length l7.length l8.length l9.length l10.length)):=by
 unfold f90_b
 simp only [cond_false]
 congr 1
 funext x
 obtain ⟨n1,d1,q1⟩:=x
 simp only [f109_eq,Option.bind_some,f59_eq,f90_j1_eq,nodeS]
 cases shp op with
 | none =>
  simp only [toR,cond_false,Bool.and_false,Bool.not_false,Bool.or_true,Bool.true_or]
 | some t =>
  obtain ⟨nm,frm,lo,hi,bd,fl⟩:=t
  simp only [toR,cond_true]
  generalize (nameR nm name && fromR frm from_ && (bd || ((l7.length:Int) == 0)) && flagR op name flag l8.length l9.length && casesR op l10.length)=g
  generalize f90_l2 k F l7 l8 l9 l10 a l6 0 n1 d1=Q
  obtain ⟨A,B,rfl⟩:=bfun Q
  simp only [Bool.cond_eq_ite]
  grind (splits:=20)
theorem f111_b_eq (kind:Int) (slot:Int) (es:List DExpr) (b:List DStmt):f111_b k F (.mk n d q) (.mk kind name slot es b) a=(f60 k (.mk n d q) a).bind fun x=>match x with
  | .mk n1 d1 q1=>f111_l1 k F b a es 0 n1 d1 (q1 || !((slot == 0) && nodeC kind name es.length)):=by
 unfold f111_b
 simp only
 congr 1
 funext x
 obtain ⟨n1,d1,q1⟩:=x
 unfold f111_j1 f111_j2 f111_j3
 simp only [Option.bind_some,f59_eq,f34_eq,nodeC]
 generalize f111_l1 k F b a es 0 n1 d1=Q
 obtain ⟨A,B,rfl⟩:=bfun Q
 generalize (slot == 0)=b5
 generalize isN name=b6
 generalize seq name ⟨#[]⟩=b7
 simp only [Bool.cond_eq_ite]
 grind (splits:=20)
end
theorem f61_wrong (k:Nat) (F:Fam61) (a:Int) (l:List DStmt) (i:Nat) (x d:Int):f61_l1 k F a l i x d true=some (.mk x d true):=by
 cases l with
 | nil=>rfl
 | cons e l=>obtain ⟨_,_,_,_,_,_,_,_,_,_,_⟩:=e; rfl
theorem RRes.conv {r:Option DSize} {g g' : Bool} {n s n' s' : Nat} {q q' : Bool} (h:RRes r g n s q) (hs:n + s=n' + s') (hg:(q || !(g && decide (n + s≤600)))=(q' || !(g' && decide (n' + s'≤600)))):RRes r g' n' s' q':=by
 obtain ⟨x,d,q1,h1,h2,h3⟩:=h
 exact ⟨x,d,q1,h1,by rw [h2,hg],by rw [← hs]; exact h3⟩
theorem RRes.node {r:Option DSize} {g b:Bool} {n s a:Nat} (h:RRes r g (n + 1) s (!(decide (n + 1≤600) && decide (a≤16)) || !b)):RRes r (decide (a≤16) && b && g) n (s + 1) false:=by
 refine h.conv (by omega) ?_
 have e:n + (s + 1)=n + 1 + s:=by omega
 rw [e]
 by_cases hh:n + 1 + s≤600
 ·have:n + 1≤600:=by omega
  simp only [hh,this,decide_true]
  cases decide (a≤16) <;> cases b <;> cases g <;> rfl
 ·simp [hh]
theorem f110_res (k:Nat) (e:DExpr) (hk:szE e≤k) (n:Nat) (d:Int) (a:Nat) (hn:n≤600) (ha:a≤17):RRes (f110 k (.mk n d false) e a false) (gE false e a) n (szE e) false :=
 rE k k e hk n d a hn ha
theorem node_hx {n a:Nat} {b:Bool}:(!(decide (n + 1≤600) && decide (a≤16)) || !b)=false→((n + 1:Nat):Int)=((n + 1:Nat):Int)∧n + 1≤600:=by
 intro h; simp at h; exact ⟨rfl,by omega⟩
theorem nodeS_len {op flag:Int} {name fr:ByteArray} {l6 l7 l8 l9 l10:Nat} (h:nodeS op name fr flag l6 l7 l8 l9 l10=true):l10≤1000:=by
 unfold nodeS at h
 cases hs:shp op with
 | none=>rw [hs] at h; cases h
 | some t =>
  obtain ⟨nm,frm,lo,hi,bd,fl⟩:=t
  rw [hs] at h
  simp only [Bool.and_eq_true,casesR,decide_eq_true_eq] at h
  have:=h.2.2.2
  omega
theorem rS (k:Nat) : ∀ m,m≤k →
  (∀ s,2 * szS s≤m→∀ (n:Nat) (d:Int) (a:Nat),n≤600→a≤17→RRes ((fam61 k m).f90 (.mk n d false) s a) (gS false s a) n (szS s) false) ∧
  (∀ l,2 * szSs l + 1≤m→∀ (x:Int) (n:Nat) (d:Int) (q:Bool) (a:Nat),(q=false→x=(n:Int)∧n≤600)→a≤17→RRes ((fam61 k m).f61 (.mk x d q) l a) (gSs false l a) n (szSs l) q) ∧
  (∀ c,2 * szC c≤m→∀ (n:Nat) (d:Int) (a:Nat),n≤600→a≤17→RRes ((fam61 k m).f111 (.mk n d false) c a) (gC false c a) n (szC c) false)
 | 0,_=>⟨fun e he=>by have:=szS_pos e; omega,fun l hl=>by omega,fun c hc=>by have:=szC_pos c; omega⟩
 | m + 1,hmk=>by
  obtain ⟨ihs,ihl,ihc⟩:=rS k m (by omega)
  refine ⟨?_,?_,?_⟩
  ·intro s hs n d a hn ha
   obtain ⟨op,name,s2,fr,s4,flag,l6,l7,l8,l9,l10⟩:=s
   simp only [szS] at hs
   show RRes (f90_b k (fam61 k m) (.mk n d false) (.mk op name s2 fr s4 flag l6 l7 l8 l9 l10) a) _ _ _ _
   rw [f90_b_eq,f60_eq k n d false a hn]
   simp only [Option.bind_some,Bool.false_or]
   have cs:a≤16→l10.length≤1000→∀ (rest:List DCase) (i:Nat) (x:Int) (n:Nat) (d:Int) (q:Bool),2 * szCs rest≤m→i + rest.length=l10.length→(q=false→x=(n:Int)∧n≤600) →
     RRes (f90_l1 k (fam61 k m) l10 a rest i x d q) (gCs false rest (a + 1)) n (szCs rest) q:=by
    intro ha h10 rest
    induction rest with
    | nil=>intro i x n d q _ _ hx; exact .done hx
    | cons c rest ih =>
     intro i x n d q hm hi hx
     obtain ⟨e0,e1,e2,e3,e4⟩:=c
     simp only [szCs,List.length_cons] at hm hi
     unfold f90_l1
     cases q with
     | true=>exact .wrong rfl
     | false =>
      obtain ⟨rfl,hn⟩:=hx rfl
      simp only [Bool.not_false,cond_true]
      rw [w64_nat (x:=(a:Int) + 1) (n:=a + 1) (by omega) (by omega),w64_nat (x:=(l10.length:Int) - 1) (n:=l10.length - 1) (by omega) (by omega)]
      refine ((ihc (.mk e0 e1 e2 e3 e4) (by omega) n d (a + 1) hn (by omega)).bind (g2:=(!(e0 == 4) || rest.isEmpty) && gCs false rest (a + 1)) (s2:=szCs rest) fun x1 d1 q1 h1=>?_).cast ?_ (by simp only [szCs])
      ·have hb:(cond (e0 != 4) ((f59 k (DSize.mk x1 d1 q1) true).bind fun q_=>match q_ with | .mk z931_0 z931_1 z931_2=>(f90_j10 k (fam61 k m) i z931_0 z931_1 z931_2 (f90_l1 k (fam61 k m) l10 a rest))) ((f59 k (DSize.mk x1 d1 q1) ((i:Int) == ((l10.length - 1:Nat):Int))).bind fun q_=>match q_ with | .mk z938_0 z938_1 z938_2=>(f90_j10 k (fam61 k m) i z938_0 z938_1 z938_2 (f90_l1 k (fam61 k m) l10 a rest)))) =
         f90_l1 k (fam61 k m) l10 a rest (i + 1) x1 d1 (q1 || !(!(e0 == 4) || rest.isEmpty)):=by
        have hl:((i:Int) == ((l10.length - 1:Nat):Int))=rest.isEmpty:=by
         cases rest with
         | nil=>simp at hi ⊢; omega
         | cons _ _=>simp at hi ⊢; omega
        simp only [f59_eq,Option.bind_some,hl,bne]
        unfold f90_j10
        cases (e0 == 4) <;> cases rest.isEmpty <;> simp
       rw [hb]
       refine (ih (i + 1) x1 _ d1 _ (by omega) (by omega) (fun h=>h1 ?_)).check
       simp at h; exact h.1
      ·simp only [gCs]
       cases (!(e0 == 4) || rest.isEmpty) <;> cases gC false (.mk e0 e1 e2 e3 e4) (a + 1) <;> rfl
   have fw : ∀ (x d:Int) (l:List DStmt) (a:Int),(fam61 k m).f61 (.mk x d true) l a=some (.mk x d true):=by
    intro x d l a
    cases m with
    | zero=>omega
    | succ m=>exact f61_wrong _ _ _ _ _ _ _
   have w1 : ∀ (x d:Int) (rest:List DCase) (i:Nat),f90_l1 k (fam61 k m) l10 a rest i x d true=some (.mk x d true):=by
    intro x d rest i
    cases rest with
    | nil=>rfl
    | cons c l=>obtain ⟨_,_,_,_,_⟩:=c; rfl
   have w2 : ∀ (x d:Int) (l:List DExpr) (i:Nat),f90_l2 k (fam61 k m) l7 l8 l9 l10 a l i x d true=some (.mk x d true):=by
    intro x d l i
    cases l with
    | nil=>unfold f90_l2 f90_j9; simp only [fw,Option.bind_some,w1]
    | cons c l=>obtain ⟨_,_,_,_,_⟩:=c; unfold f90_l2 f90_j9; simp only [fw,Option.bind_some,w1,Bool.not_true,cond_false]
   have tail:a≤16→l10.length≤1000→∀ (x:Int) (n:Nat) (d:Int) (q:Bool),(q=false→x=(n:Int)∧n≤600) →
     RRes (f90_j9 k (fam61 k m) l7 l8 l9 l10 a x d q) (gSs false l7 (a + 1) && (gSs false l8 (a + 1) && (gSs false l9 (a + 1) && gCs false l10 (a + 1)))) n (szSs l7 + (szSs l8 + (szSs l9 + szCs l10))) q:=by
    intro ha h10 x n d q hx
    unfold f90_j9
    rw [w64_nat (x:=(a:Int) + 1) (n:=a + 1) (by omega) (by omega)]
    refine (ihl l7 (by omega) x n d q (a + 1) hx (by omega)).bind fun x d q hx=>?_
    refine (ihl l8 (by omega) x _ d q (a + 1) hx (by omega)).bind fun x d q hx=>?_
    refine (ihl l9 (by omega) x _ d q (a + 1) hx (by omega)).bind fun x d q hx=>?_
    exact cs ha h10 l10 0 x _ d q (by omega) (by omega) hx
   have loop:a≤16→l10.length≤1000→∀ (l:List DExpr) (i:Nat) (x:Int) (n:Nat) (d:Int) (q:Bool),szEs l≤m→(q=false→x=(n:Int)∧n≤600) →
     RRes (f90_l2 k (fam61 k m) l7 l8 l9 l10 a l i x d q) (gEs false l (a + 1) && (gSs false l7 (a + 1) && (gSs false l8 (a + 1) && (gSs false l9 (a + 1) && gCs false l10 (a + 1))))) n (szEs l + (szSs l7 + (szSs l8 + (szSs l9 + szCs l10)))) q:=by
    intro ha h10 l
    induction l with
    | nil =>
     intro i x n d q _ hx
     unfold f90_l2
     exact (tail ha h10 x n d q hx).cast (by simp [gEs]) (by simp [szEs])
    | cons e l ih =>
     intro i x n d q hm hx
     cases q with
     | true=>rw [w2]; exact .wrong rfl
     | false =>
      obtain ⟨rfl,hn⟩:=hx rfl
      obtain ⟨e0,e1,e2,e3,e4⟩:=e
      unfold f90_l2
      simp only [szEs] at hm
      simp only [Bool.not_false,cond_true]
      rw [w64_nat (x:=(a:Int) + 1) (n:=a + 1) (by omega) (by omega)]
      refine ((f110_res k (.mk e0 e1 e2 e3 e4) (by omega) n d (a + 1) hn (by omega)).bind fun x1 d1 q1 h1=>ih (i + 1) x1 _ d1 q1 (by omega) h1).cast ?_ ?_
      ·simp only [gEs,Bool.and_assoc]
      ·simp only [szEs]; omega
   by_cases hq:(decide (n + 1≤600) && decide (a≤16))=true∧((s2 == 0 && s4 == 0) && nodeS op name fr flag l6.length l7.length l8.length l9.length l10.length)=true
   ·have ha' : a≤16:=by have:=hq.1; simp at this; exact this.2
    have h10:l10.length≤1000:=by
     have h:=hq.2
     rw [Bool.and_eq_true] at h
     exact nodeS_len h.2
    refine RRes.cast (RRes.node (a:=a) (loop ha' h10 l6 0 _ (n + 1) _ _ (by omega) node_hx)) ?_ ?_
    ·simp only [gS,Bool.false_or,← Bool.and_assoc]
    ·simp only [szS]; omega
   ·have hq' : (!(decide (n + 1≤600) && decide (a≤16)) || !((s2 == 0 && s4 == 0) && nodeS op name fr flag l6.length l7.length l8.length l9.length l10.length))=true:=by
     rw [← Bool.not_and,Bool.not_eq_true']; rw [← Bool.and_eq_true] at hq; simpa using hq
    rw [hq',w2]
    refine .bad rfl ?_
    simp only [gS,szS,Bool.false_or]
    by_cases h1:n + 1≤600
    ·by_cases h2:a≤16
     ·have:((s2 == 0 && s4 == 0) && nodeS op name fr flag l6.length l7.length l8.length l9.length l10.length)=false:=by
       cases h:((s2 == 0 && s4 == 0) && nodeS op name fr flag l6.length l7.length l8.length l9.length l10.length) with
       | false=>rfl
       | true=>exact absurd ⟨by simp [h1,h2],h⟩ hq
      rw [Bool.and_assoc (decide (a≤16)),this]; simp
     ·simp [h2]
    ·have : ¬ (n + (szEs l6 + szSs l7 + szSs l8 + szSs l9 + szCs l10 + 1)≤600):=by omega
     simp [this]
  ·intro l hl x n d q a hx ha
   show RRes (f61_l1 k (fam61 k m) a l 0 x d q) _ _ _ _
   have loop : ∀ (l:List DStmt) (i:Nat) (x:Int) (n:Nat) (d:Int) (q:Bool),2 * szSs l≤m→(q=false→x=(n:Int)∧n≤600)→RRes (f61_l1 k (fam61 k m) a l i x d q) (gSs false l a) n (szSs l) q:=by
    intro l
    induction l with
    | nil=>intro i x n d q _ hx; exact .done hx
    | cons e l ih =>
     intro i x n d q hm hx
     obtain ⟨e0,e1,e2,e3,e4,e5,e6,e7,e8,e9,e10⟩:=e
     unfold f61_l1
     cases q with
     | true=>exact .wrong rfl
     | false =>
      obtain ⟨rfl,hn⟩:=hx rfl
      simp only [szSs] at hm
      simp only [Bool.not_false,cond_true]
      exact (ihs (.mk e0 e1 e2 e3 e4 e5 e6 e7 e8 e9 e10) (by omega) n d a hn ha).bind fun x1 d1 q1 h1=>ih (i + 1) x1 _ d1 q1 (by omega) h1
   exact loop l 0 x n d q (by omega) hx
  ·intro c hc n d a hn ha
   obtain ⟨kind,name,slot,es,b⟩:=c
   simp only [szC] at hc
   show RRes (f111_b k (fam61 k m) (.mk n d false) (.mk kind name slot es b) a) _ _ _ _
   rw [f111_b_eq,f60_eq k n d false a hn]
   simp only [Option.bind_some,Bool.false_or]
   have loop:a≤16→∀ (l:List DExpr) (i:Nat) (x:Int) (n:Nat) (d:Int) (q:Bool),szEs l≤m→(q=false→x=(n:Int)∧n≤600)→RRes (f111_l1 k (fam61 k m) b a l i x d q) (gEs false l (a + 1) && gSs false b (a + 1)) n (szEs l + szSs b) q:=by
    intro ha l
    induction l with
    | nil =>
     intro i x n d q _ hx
     unfold f111_l1 f111_j4
     rw [w64_nat (x:=(a:Int) + 1) (n:=a + 1) (by omega) (by omega)]
     refine ((ihl b (by omega) x n d q (a + 1) hx (by omega)).bind (g2:=true) (s2:=0) fun x1 d1 q1 h1=>.done h1).cast ?_ ?_
     ·simp [gEs]
     ·simp [szEs]
    | cons e l ih =>
     intro i x n d q hm hx
     obtain ⟨e0,e1,e2,e3,e4⟩:=e
     unfold f111_l1
     simp only [szEs] at hm
     cases q with
     | true =>
      unfold f111_j4
      simp only [Bool.not_true,cond_false]
      obtain ⟨x1,d1,q1,h1,h2,h3⟩:=ihl b (by omega) x n d true ((a + 1)) hx (by omega)
      rw [w64_nat (x:=(a:Int) + 1) (n:=a + 1) (by omega) (by omega),h1]
      simp at h2; subst h2
      exact .wrong rfl
     | false =>
      obtain ⟨rfl,hn⟩:=hx rfl
      simp only [Bool.not_false,cond_true]
      rw [w64_nat (x:=(a:Int) + 1) (n:=a + 1) (by omega) (by omega)]
      refine ((f110_res k (.mk e0 e1 e2 e3 e4) (by omega) n d (a + 1) hn (by omega)).bind fun x1 d1 q1 h1=>ih (i + 1) x1 _ d1 q1 (by omega) h1).cast ?_ ?_
      ·simp only [gEs,Bool.and_assoc]
      ·simp only [szEs]; omega
   have fw : ∀ (x d:Int) (l:List DStmt) (a:Int),(fam61 k m).f61 (.mk x d true) l a=some (.mk x d true):=by
    intro x d l a
    cases m with
    | zero=>omega
    | succ m=>exact f61_wrong _ _ _ _ _ _ _
   have w2 : ∀ (x d:Int) (l:List DExpr) (i:Nat),f111_l1 k (fam61 k m) b a l i x d true=some (.mk x d true):=by
    intro x d l i
    cases l with
    | nil=>unfold f111_l1 f111_j4; simp only [fw,Option.bind_some]
    | cons c l=>obtain ⟨_,_,_,_,_⟩:=c; unfold f111_l1 f111_j4; simp only [fw,Option.bind_some,Bool.not_true,cond_false]
   by_cases ha' : a≤16
   ·refine RRes.cast (RRes.node (a:=a) (loop ha' es 0 _ (n + 1) _ _ (by omega) node_hx)) ?_ ?_
    ·simp only [gC,Bool.false_or,← Bool.and_assoc]
    ·simp only [szC]
   ·have hq' : (!(decide (n + 1≤600) && decide (a≤16)) || !((slot == 0) && nodeC kind name es.length))=true:=by simp [ha']
    rw [hq',w2]
    exact .bad rfl (by simp [gC,ha'])
end Go.Proofs.YtoajecnoffhlbaaGreatDoor
namespace Go.Proofs.YtoajecnoffhlbaaGreatDoor
open Go
def okP:List DParam→Bool
 | []=>true
 | .mk nm kd :: l=>isN nm && decide (kd ≥ 1) && decide (kd≤6) && okP l
def headF (z:Bool) (name:ByteArray) (np:Nat) (res:Int) (f3:Bool) (s4:Int):Bool :=
 isN name && decide (np≤4) && (z || s4 == 0) && (!f3 || res == 0) && decide (res ≥ 0) && decide (res≤6)
def gFs (z:Bool):List DFunc→Bool
 | []=>true
 | .mk name ps res f3 s4 b :: l=>headF z name ps.length res f3 s4 && (okP ps && (gSs z b 1 && gFs z l))
def cnF:DFunc→Nat | .mk _ _ _ _ _ b=>szSs b + 1
def cnFs:List DFunc→Nat | []=>0 | f :: l=>cnF f + cnFs l
def wf (z:Bool):DProgram→Bool
 | .mk fs=>decide (1≤fs.length) && decide (fs.length≤16) && gFs z fs && decide (cnFs fs≤600)
section
variable (k i:Nat) (body:List DStmt) (n d:Int) (z q:Bool) (nx:Nat→Int→Int→Bool→Option (Dcounter × Bool))
theorem f101_l2_eq : ∀ (ps:List DParam) (j:Nat),f101_l2 k i body n d z nx ps j=cond (okP ps) (f101_l2 k i body n d z nx [] 0) (some (.mk n d z,false))
 | [],j=>rfl
 | .mk nm kd :: ps,j=>by
  have ih:=f101_l2_eq ps
  generalize f101_l2 k i body n d z nx [] 0=A at ih ⊢
  rw [f101_l2]
  simp only [f63_eq,f116_eq,Option.bind_some,f101_j2,ih,okP]
  cases isN nm <;> cases decide (kd ≥ 1) <;> cases decide (kd≤6) <;> rfl
theorem f101_j1_eq (ps:List DParam):f101_j1 k i ps body n d z q nx=cond (!q && okP ps) (f101_l2 k i body n d z nx [] 0) (some (.mk n d z,false)):=by
 unfold f101_j1
 rw [f101_l2_eq]
 cases q <;> rfl
end
theorem f118_res (k:Nat) (z:Bool) (l:List DStmt) (hk:2 * szSs l + 1≤k) (n:Nat) (d:Int) (a:Nat) (hn:n≤600) (ha:a≤17):NRes (f118 k (.mk n d z) l a) (gSs z l a) n (szSs l) z :=
 (nSt k z k (Nat.le_refl k)).2.1 l hk n d a hn ha
theorem f61_res (k:Nat) (l:List DStmt) (hk:2 * szSs l + 1≤k) (x:Int) (n:Nat) (d:Int) (q:Bool) (a:Nat) (hx:q=false→x=(n:Int)∧n≤600) (ha:a≤17):RRes (f61 k (.mk x d q) l a) (gSs false l a) n (szSs l) q :=
 (rS k k (Nat.le_refl k)).2.1 l hk x n d q a hx ha
theorem f101_l1_eq (k:Nat) (name:ByteArray) (ps:List DParam) (res:Int) (f3:Bool) (s4:Int) (b:List DStmt) (l:List DFunc) (i:Nat) (n d:Int) (z:Bool) :
  f101_l1 k (.mk name ps res f3 s4 b :: l) i n d z=(f117 k (.mk n d z) 0).bind fun x=>match x with
   | (.mk n1 d1 z1,ok)=>cond (ok && headF z1 name ps.length res f3 s4 && okP ps) (f101_l2 k i b n1 d1 z1 (f101_l1 k l) [] 0) (some (.mk n1 d1 z1,false)):=by
 rw [f101_l1]
 congr 1
 funext x
 obtain ⟨⟨n1,d1,z1⟩,ok⟩:=x
 simp only [f63_eq,f116_eq,Option.bind_some,f101_j1_eq,headF]
 have e:decide ((ps.length:Int) > 4)=!decide (ps.length≤4):=by rw [← decide_not,decide_eq_decide]; omega
 rw [e]
 simp only [Bool.cond_eq_ite]
 grind (splits:=20)
theorem nFs (k:Nat) (z:Bool) : ∀ (l:List DFunc) (i:Nat) (n:Nat) (d:Int),2 * szFs l + 1≤k→n≤600→NRes (f101_l1 k l i n d z) (gFs z l) n (cnFs l) z
 | [],i,n,d,hk,hn=>.yes rfl (by simp [gFs,cnFs,hn])
 | .mk name ps res f3 s4 b :: l,i,n,d,hk,hn=>by
  simp only [szFs,szF] at hk
  rw [f101_l1_eq]
  have e0:((0:Nat):Int)=0:=rfl
  rw [← e0,f117_eq k n d z 0 hn,e0]
  simp only [Option.bind_some,Nat.zero_le,decide_true,Bool.and_true]
  by_cases h1:n + 1≤600
  ·by_cases h2:(headF z name ps.length res f3 s4 && okP ps)=true
   ·rw [Bool.and_assoc,h2]
    simp only [h1,decide_true,Bool.and_self,cond_true]
    rw [f101_l2]
    refine ((f118_res k z b (by omega) (n + 1) (imax d 0) 1 h1 (by omega)).bind (f:=fun q_=>match q_ with | (.mk z10628_0 z10628_1 z10628_2,r10629)=>(cond (!r10629) (some ((Dcounter.mk z10628_0 z10628_1 z10628_2),false)) (f101_l1 k l (i + 1) z10628_0 z10628_1 z10628_2)))
     (fun c=>by obtain ⟨_,_,_⟩:=c; exact ⟨_,rfl⟩) fun d hn=>nFs k z l (i + 1) _ d (by omega) hn).conv (by simp only [cnFs,cnF]; omega) (fun _=>?_)
    rw [Bool.and_eq_true] at h2
    simp only [gFs,h2.1,h2.2,Bool.true_and]
   ·have h2' : (headF z name ps.length res f3 s4 && okP ps)=false:=by simpa using h2
    rw [Bool.and_assoc,h2',Bool.and_false]
    refine .no rfl ?_
    rw [gFs,← Bool.and_assoc,h2']
    simp
  ·simp only [h1,decide_false,Bool.false_and,cond_false]
   refine .no rfl ?_
   have : ¬ (n + (szSs b + 1 + cnFs l)≤600):=by omega
   simp [cnFs,cnF,this]
theorem f78_eq (k:Nat) (p:DProgram) (z:Bool) (hk:2 * szP p + 1≤k):f78 k p z=some (wf z p):=by
 obtain ⟨fs⟩:=p
 simp only [szP] at hk
 unfold f78 f78_b f101 f101_b
 simp only [f116_eq,Option.bind_some]
 have e1:(decide ((fs.length:Int) ≥ 1) && decide ((fs.length:Int)≤16))=(decide (1≤fs.length) && decide (fs.length≤16)):=by
  congr 1
  ·rw [decide_eq_decide]; omega
  ·rw [decide_eq_decide]; omega
 rw [e1]
 by_cases h:(decide (1≤fs.length) && decide (fs.length≤16))=true
 ·rw [h]
  simp only [Bool.not_true,cond_false]
  obtain ⟨c,h1,h2⟩:=nFs k z fs 0 0 0 (by omega) (by omega)
  have e0:((0:Nat):Int)=0:=rfl
  rw [e0] at h1
  rw [h1]
  obtain ⟨_,_,_⟩:=c
  simp only [Option.bind_some,wf,h,Nat.zero_add,Bool.true_and]
 ·have h' : (decide (1≤fs.length) && decide (fs.length≤16))=false:=by simpa using h
  rw [h']
  simp only [Bool.not_false,cond_true,Option.bind_some,wf,h',Bool.false_and]
section
variable (k i:Nat) (body:List DStmt) (d:Int) (nx:Nat→Int→Int→Bool→Option DSize)
theorem f32_l2_eq : ∀ (ps:List DParam) (j:Nat) (x d:Int) (q:Bool),f32_l2 k i body nx ps j x d q=f32_j4 k i body x d (q || !okP ps) nx
 | [],j,x,d,q=>by simp [f32_l2,okP]
 | .mk nm kd :: ps,j,x,d,q=>by
  unfold f32_l2
  simp only [f34_eq,f59_eq,Option.bind_some,f32_j5,f32_l2_eq ps,okP]
  cases q <;> cases isN nm <;> cases decide (kd ≥ 1) <;> cases decide (kd≤6) <;> rfl
end
theorem f32_l1_eq (k:Nat) (name:ByteArray) (ps:List DParam) (res:Int) (f3:Bool) (s4:Int) (b:List DStmt) (l:List DFunc) (i:Nat) (n d:Int) :
  f32_l1 k (.mk name ps res f3 s4 b :: l) i n d false=(f60 k (.mk n d false) 0).bind fun x=>match x with
   | .mk n1 d1 q1=>f32_j4 k i b n1 d1 (q1 || !(headF false name ps.length res f3 s4 && okP ps)) (f32_l1 k l):=by
 rw [f32_l1]
 simp only [Bool.not_false,cond_true]
 congr 1
 funext x
 obtain ⟨n1,d1,q1⟩:=x
 simp only [f34_eq,f59_eq,Option.bind_some,f32_j3,f32_l2_eq,headF]
 have e:decide ((ps.length:Int)≤4)=decide (ps.length≤4):=by rw [decide_eq_decide]; omega
 rw [e]
 have hQ : ∃ A B,(fun q=>f32_j4 k i b n1 d1 q (f32_l1 k l))=fun b=>if b=true then A else B:=bfun _
 obtain ⟨A,B,hQ⟩:=hQ
 have hQ' : ∀ q,f32_j4 k i b n1 d1 q (f32_l1 k l)=if q=true then A else B:=fun q=>congrFun hQ q
 simp only [hQ']
 generalize decide (ps.length≤4)=b2
 generalize isN name=b1
 generalize okP ps=b3
 generalize (s4 == 0)=b4
 generalize (res == 0)=b5
 simp only [Bool.cond_eq_ite]
 grind (splits:=20)
theorem rFs (k:Nat) : ∀ (l:List DFunc) (i:Nat) (x:Int) (n:Nat) (d:Int) (q:Bool),2 * szFs l + 1≤k→(q=false→x=(n:Int)∧n≤600)→RRes (f32_l1 k l i x d q) (gFs false l) n (cnFs l) q
 | [],i,x,n,d,q,hk,hx=>.done hx
 | .mk name ps res f3 s4 b :: l,i,x,n,d,q,hk,hx=>by
  simp only [szFs,szF] at hk
  cases q with
  | true=>exact .wrong rfl
  | false =>
   obtain ⟨rfl,hn⟩:=hx rfl
   rw [f32_l1_eq]
   have e0:((0:Nat):Int)=0:=rfl
   rw [← e0,f60_eq k n d false 0 hn,e0]
   simp only [Option.bind_some,Bool.false_or]
   unfold f32_j4
   refine RRes.cast (RRes.node (a:=0) (b:=headF false name ps.length res f3 s4 && okP ps) (g:=gSs false b 1 && gFs false l) (s:=szSs b + cnFs l) ?_) ?_ ?_
   ·exact (f61_res k b (by omega) _ (n + 1) _ _ 1 (fun h=>by simp at h; exact ⟨rfl,by omega⟩) (by omega)).bind fun x d q hx=>rFs k l (i + 1) x _ d q (by omega) hx
   ·simp only [gFs,Nat.zero_le,decide_true,Bool.true_and,Bool.and_assoc]
   ·simp only [cnFs,cnF]; omega
theorem f20_eq (k:Nat) (p:DProgram) (hk:2 * szP p + 1≤k):f20 k p=some (wf false p):=by
 obtain ⟨fs⟩:=p
 simp only [szP] at hk
 unfold f20 f20_b f32 f32_b
 simp only [f59_eq,Option.bind_some,f32_j1]
 have e:(cond (decide ((fs.length:Int) ≥ 1)) (f32_l1 k fs 0 0 0 (false || !decide ((fs.length:Int)≤16))) (f32_l1 k fs 0 0 0 (false || !false)))=f32_l1 k fs 0 0 0 (!(decide (1≤fs.length) && decide (fs.length≤16))):=by
  have e1:decide ((fs.length:Int) ≥ 1)=decide (1≤fs.length):=by rw [decide_eq_decide]; omega
  have e2:decide ((fs.length:Int)≤16)=decide (fs.length≤16):=by rw [decide_eq_decide]; omega
  rw [e1,e2]
  cases decide (1≤fs.length) <;> rfl
 rw [e]
 have e0:((0:Nat):Int)=0:=rfl
 obtain ⟨x,d,q',h1,h2,h3⟩:=rFs k fs 0 0 0 0 (!(decide (1≤fs.length) && decide (fs.length≤16))) (by omega) (fun _=>⟨rfl,by omega⟩)
 rw [h1]
 simp only [Option.bind_some,wf,h2,Nat.zero_add]
 cases decide (1≤fs.length) <;> cases decide (fs.length≤16) <;> cases gFs false fs <;> cases decide (cnFs fs≤600) <;> rfl
end Go.Proofs.YtoajecnoffhlbaaGreatDoor
namespace Go.Proofs.YtoajecnoffhlbaaGreatDoor
open Go
def maxB:Nat:=140737488355328
mutual
def fitE:DExpr→Prop | .mk _ _ _ _ l=>l.length * 64≤maxB∧fitEs l
def fitEs:List DExpr→Prop | []=>True | e :: l=>fitE e∧fitEs l
end
mutual
def fitS:DStmt→Prop | .mk _ _ _ _ _ _ l6 l7 l8 l9 l10=>(l6.length * 64≤maxB∧fitEs l6)∧(l7.length * 184≤maxB∧fitSs l7)∧(l8.length * 184≤maxB∧fitSs l8)∧(l9.length * 184≤maxB∧fitSs l9)∧(l10.length * 80≤maxB∧fitCs l10)
def fitSs:List DStmt→Prop | []=>True | e :: l=>fitS e∧fitSs l
def fitC:DCase→Prop | .mk _ _ _ l b=>(l.length * 64≤maxB∧fitEs l)∧(b.length * 184≤maxB∧fitSs b)
def fitCs:List DCase→Prop | []=>True | e :: l=>fitC e∧fitCs l
end
def fitF:DFunc→Prop | .mk _ ps _ _ _ b=>ps.length * 24≤maxB∧(b.length * 184≤maxB∧fitSs b)
def fitFs:List DFunc→Prop | []=>True | e :: l=>fitF e∧fitFs l
def fitP:DProgram→Prop | .mk fs=>fs.length * 88≤maxB∧fitFs fs
theorem guard_le {α:Type} {a:Nat} {x:Option α} (h:a≤maxB):guardB (decide (a≤140737488355328)) x=x:=by
 unfold maxB at h; unfold guardB; rw [decide_eq_true h]; rfl
theorem app_len {α:Type} (xs:List α) (e:α):(xs ++ [e]).length=xs.length + 1:=by simp
theorem f86_eq (k:Nat) : ∀ m l,szEs l + 1≤m→l.length * 64≤maxB→fitEs l→(fam86 k m).f86 l=some l
 | 0,l,h,_,_=>by omega
 | m + 1,l,h,hl,hf=>by
  show f86_l1 k (fam86 k m) l 0 []=some l
  have loop : ∀ (l:List DExpr) (i:Nat) (xs:List DExpr),szEs l≤m→(xs.length + l.length) * 64≤maxB→fitEs l→f86_l1 k (fam86 k m) l i xs=some (xs ++ l):=by
   intro l
   induction l with
   | nil=>intro i xs _ _ _; simp [f86_l1]
   | cons e l ih =>
    intro i xs hm hl hf
    obtain ⟨e0,e1,e2,e3,e4⟩:=e
    simp only [szEs,szE,fitEs,fitE,List.length_cons] at hm hl hf
    unfold f86_l1
    rw [f86_eq k m e4 (by omega) hf.1.1 hf.1.2]
    simp only [Option.bind_some]
    rw [guard_le (by omega),ih (i + 1) _ (by omega) (by rw [app_len]; omega) hf.2]
    simp
  exact loop l 0 [] (by omega) (by simpa using hl) hf
theorem f47_eq (k:Nat) : ∀ m l,szSs l + 1≤m→szSs l + 1≤k→l.length * 184≤maxB→fitSs l→(fam47 k m).f47 l=some l
 | 0,l,h,_,_,_=>by omega
 | m + 1,l,h,hk,hl,hf=>by
  show f47_l1 k (fam47 k m) l 0 []=some l
  have cs : ∀ (xs:List DStmt) (i:Nat) (e0:Int) (e1:ByteArray) (e2:Int) (e3:ByteArray) (e4 e5:Int) (r6:List DExpr) (r7 r8 r9:List DStmt) (nx:Nat→List DStmt→Option (List DStmt)) (l:List DCase) (j:Nat) (ys:List DCase),szCs l≤m→szCs l≤k →
    (ys.length + l.length) * 80≤maxB→(xs.length + 1) * 184≤maxB→fitCs l→f47_l2 k (fam47 k m) xs i e0 e1 e2 e3 e4 e5 r6 r7 r8 r9 nx l j ys=nx (i + 1) (xs ++ [.mk e0 e1 e2 e3 e4 e5 r6 r7 r8 r9 (ys ++ l)]):=by
   intro xs i e0 e1 e2 e3 e4 e5 r6 r7 r8 r9 nx l
   induction l with
   | nil=>intro j ys _ _ _ hx _; unfold f47_l2; rw [guard_le hx]; simp
   | cons c l ih =>
    intro j ys hm hk hl hx hf
    obtain ⟨c0,c1,c2,c3,c4⟩:=c
    simp only [szCs,szC,fitCs,fitC,List.length_cons] at hm hl hf hk
    unfold f47_l2 f86
    rw [f86_eq k k c3 (by omega) hf.1.1.1 hf.1.1.2]
    simp only [Option.bind_some]
    rw [f47_eq k m c4 (by omega) (by omega) hf.1.2.1 hf.1.2.2]
    simp only [Option.bind_some]
    rw [guard_le (by omega),ih (j + 1) _ (by omega) (by omega) (by rw [app_len]; omega) hx hf.2]
    simp
  have loop : ∀ (l:List DStmt) (i:Nat) (xs:List DStmt),szSs l≤m→szSs l≤k→(xs.length + l.length) * 184≤maxB→fitSs l→f47_l1 k (fam47 k m) l i xs=some (xs ++ l):=by
   intro l
   induction l with
   | nil=>intro i xs _ _ _ _; simp [f47_l1]
   | cons e l ih =>
    intro i xs hm hk hl hf
    obtain ⟨e0,e1,e2,e3,e4,e5,e6,e7,e8,e9,e10⟩:=e
    simp only [szSs,szS,fitSs,fitS,List.length_cons] at hm hl hf hk
    obtain ⟨⟨⟨h6,h6'⟩,⟨h7,h7'⟩,⟨h8,h8'⟩,⟨h9,h9'⟩,h10,h10'⟩,hf⟩:=hf
    unfold f47_l1 f86
    rw [f86_eq k k e6 (by omega) h6 h6',f47_eq k m e7 (by omega) (by omega) h7 h7',f47_eq k m e8 (by omega) (by omega) h8 h8',f47_eq k m e9 (by omega) (by omega) h9 h9']
    simp only [Option.bind_some]
    rw [cs xs i e0 e1 e2 e3 e4 e5 e6 e7 e8 e9 _ e10 0 [] (by omega) (by omega) (by simpa using h10) (by omega) h10',ih (i + 1) _ (by omega) (by omega) (by rw [app_len]; omega) hf]
    simp
  exact loop l 0 [] (by omega) (by omega) (by simpa using hl) hf
theorem f19_eq (k:Nat) (p:DProgram) (hk:2 * szP p + 1≤k) (hf:fitP p):f19 k p=some p:=by
 obtain ⟨fs⟩:=p
 simp only [szP,fitP] at hk hf
 show f19_l1 k fs 0 []=some (.mk fs)
 have loop : ∀ (l:List DFunc) (i:Nat) (xs:List DFunc),2 * szFs l + 1≤k→(xs.length + l.length) * 88≤maxB→fitFs l→f19_l1 k l i xs=some (.mk (xs ++ l)):=by
  intro l
  induction l with
  | nil=>intro i xs _ _ _; simp [f19_l1]
  | cons e l ih =>
   intro i xs hk hl hf
   obtain ⟨e0,e1,e2,e3,e4,e5⟩:=e
   simp only [szFs,szF,fitFs,fitF,List.length_cons] at hk hl hf
   unfold f19_l1 f47
   rw [guard_le (by simpa using hf.1.1),f47_eq k k e5 (by omega) (by omega) hf.1.2.1 hf.1.2.2]
   simp only [Option.bind_some]
   rw [guard_le (by omega),ih (i + 1) _ (by omega) (by rw [app_len]; omega) hf.2]
   simp
 exact loop fs 0 [] (by omega) (by simpa using hf.1) hf.2
theorem idxO_mid {α:Type} (xs:List α) (e:α) (l:List α) (i:Int) (hi:i=(xs.length:Int)):idxO (xs ++ e :: l) i=some e:=by
 subst hi
 unfold idxO
 rw [if_pos (by omega)]
 simp
end Go.Proofs.YtoajecnoffhlbaaGreatDoor
namespace Go.Proofs.YtoajecnoffhlbaaGreatDoor
open Go
theorem seq_refl (a:ByteArray):seq a a=true:=by unfold seq; simp
theorem sameE (k:Nat) : ∀ m,(∀ e,2 * szE e≤m→(fam48 k m).f87 e e=some true)∧(∀ l,2 * szEs l + 1≤m→(fam48 k m).f48 l l=some true)
 | 0=>⟨fun e h=>by have:=szE_pos e; omega,fun l h=>by omega⟩
 | m + 1=>by
  obtain ⟨ihe,ihl⟩:=sameE k m
  constructor
  ·intro e h
   obtain ⟨e0,e1,e2,e3,e4⟩:=e
   simp only [szE] at h
   show f87_b k (fam48 k m) (.mk e0 e1 e2 e3 e4) (.mk e0 e1 e2 e3 e4)=_
   unfold f87_b f87_j1
   simp only
   rw [ihl e4 (by omega)]
   simp [seq_refl]
  ·intro l h
   show f48_b k (fam48 k m) l l=_
   unfold f48_b
   have loop : ∀ (l:List DExpr) (xs:List DExpr),2 * szEs l≤m→f48_l1 k (fam48 k m) (xs ++ l) l xs.length=some true:=by
    intro l
    induction l with
    | nil=>intro xs _; rfl
    | cons e l ih =>
     intro xs hm
     simp only [szEs] at hm
     obtain ⟨e0,e1,e2,e3,e4⟩:=e
     unfold f48_l1
     rw [idxO_mid xs (.mk e0 e1 e2 e3 e4) l _ rfl]
     simp only [Option.bind_some]
     rw [ihe _ (by omega)]
     have:=ih (xs ++ [.mk e0 e1 e2 e3 e4]) (by omega)
     rw [app_len,List.append_assoc,List.singleton_append] at this
     simp only [Option.bind_some,Bool.not_true,cond_false]
     exact this
   have:=loop l [] (by omega)
   simp only [List.nil_append,List.length_nil] at this
   simp [this]
theorem sameS (k:Nat) : ∀ m l,szSs l + 1≤m→2 * szSs l + 1≤k→(fam21 k m).f21 l l=some true
 | 0,l,h,_=>by omega
 | m + 1,l,h,hk=>by
  show f21_b k (fam21 k m) l l=_
  unfold f21_b
  have cs : ∀ (i:Nat) (nx:Nat→Option Bool) (l:List DCase) (xs:List DCase),szCs l≤m→2 * szCs l≤k→f21_l2 k (fam21 k m) i (xs ++ l) nx l xs.length=nx (i + 1):=by
   intro i nx l
   induction l with
   | nil=>intro xs _ _; rfl
   | cons e l ih =>
    intro xs hm hk
    obtain ⟨e0,e1,e2,e3,e4⟩:=e
    simp only [szCs,szC] at hm hk
    unfold f21_l2
    rw [idxO_mid xs (.mk e0 e1 e2 e3 e4) l _ rfl]
    simp only [Option.bind_some]
    unfold f21_j4 f21_j5 f48
    rw [(sameE k k).2 e3 (by omega),sameS k m e4 (by omega) (by omega)]
    have:=ih (xs ++ [.mk e0 e1 e2 e3 e4]) (by omega) (by omega)
    rw [app_len,List.append_assoc,List.singleton_append] at this
    simp [seq_refl,this]
  have loop : ∀ (l:List DStmt) (xs:List DStmt),szSs l≤m→2 * szSs l≤k→f21_l1 k (fam21 k m) (xs ++ l) l xs.length=some true:=by
   intro l
   induction l with
   | nil=>intro xs _ _; rfl
   | cons e l ih =>
    intro xs hm hk
    obtain ⟨e0,e1,e2,e3,e4,e5,e6,e7,e8,e9,e10⟩:=e
    simp only [szSs,szS] at hm hk
    unfold f21_l1
    rw [idxO_mid xs (.mk e0 e1 e2 e3 e4 e5 e6 e7 e8 e9 e10) l _ rfl]
    simp only [Option.bind_some]
    unfold f21_j1 f21_j2 f21_j3 f48
    rw [(sameE k k).2 e6 (by omega),sameS k m e7 (by omega) (by omega),sameS k m e8 (by omega) (by omega),sameS k m e9 (by omega) (by omega)]
    have:=ih (xs ++ [.mk e0 e1 e2 e3 e4 e5 e6 e7 e8 e9 e10]) (by omega) (by omega)
    rw [app_len,List.append_assoc,List.singleton_append] at this
    have hc:=cs xs.length (f21_l1 k (fam21 k m) (xs ++ .mk e0 e1 e2 e3 e4 e5 e6 e7 e8 e9 e10 :: l) l) e10 [] (by omega) (by omega)
    simp only [List.nil_append,List.length_nil] at hc
    simp [seq_refl,hc,this]
  have:=loop l [] (by omega) (by omega)
  simp only [List.nil_append,List.length_nil] at this
  simp [this]
theorem f100_tot (k:Nat) : ∀ m l (a:Int),szEs l + 1≤m→∃ r,(fam100 k m).f100 l a=some r
 | 0,l,a,h=>by omega
 | m + 1,l,a,h=>by
  show ∃ r,f100_b k (fam100 k m) l a=some r
  unfold f100_b
  have loop : ∀ (l:List DExpr) (i:Nat) (n:Int),szEs l≤m→∃ r,f100_l1 k (fam100 k m) a l i n=some r:=by
   intro l
   induction l with
   | nil=>intro i n _; exact ⟨_,rfl⟩
   | cons e l ih =>
    intro i n hm
    obtain ⟨e0,e1,e2,e3,e4⟩:=e
    simp only [szEs,szE] at hm
    unfold f100_l1
    cases decide (n≤2000)
    ·exact ⟨_,rfl⟩
    ·obtain ⟨r,hr⟩:=f100_tot k m e4 (w64 (a + 1)) (by omega)
     rw [hr]
     exact ih _ _ (by omega)
  cases decide (a > 60)
  ·exact loop l 0 0 (by omega)
  ·exact ⟨_,rfl⟩
theorem f76_tot (k:Nat) : ∀ m l (a:Int),szSs l + 1≤m→szSs l + 1≤k→∃ r,(fam76 k m).f76 l a=some r
 | 0,l,a,h,_=>by omega
 | m + 1,l,a,h,hk=>by
  show ∃ r,f76_b k (fam76 k m) l a=some r
  unfold f76_b
  have cs : ∀ (i:Nat) (nx:Nat→Int→Option Int) (hnx : ∀ n,∃ r,nx (i + 1) n=some r) (l:List DCase) (j:Nat) (n:Int),szCs l≤m→szCs l≤k→∃ r,f76_l2 k (fam76 k m) a i nx l j n=some r:=by
   intro i nx hnx l
   induction l with
   | nil=>intro j n _ _; exact hnx _
   | cons e l ih =>
    intro j n hm hk
    obtain ⟨e0,e1,e2,e3,e4⟩:=e
    simp only [szCs,szC] at hm hk
    unfold f76_l2 f100
    cases decide (n≤2000)
    ·exact hnx _
    ·obtain ⟨r,hr⟩:=f100_tot k k e3 (w64 (a + 1)) (by omega)
     obtain ⟨r2,hr2⟩:=f76_tot k m e4 (w64 (a + 1)) (by omega) (by omega)
     rw [hr,cond_true,Option.bind_some,hr2]
     exact ih _ _ (by omega) (by omega)
  have loop : ∀ (l:List DStmt) (i:Nat) (n:Int),szSs l≤m→szSs l≤k→∃ r,f76_l1 k (fam76 k m) a l i n=some r:=by
   intro l
   induction l with
   | nil=>intro i n _ _; exact ⟨_,rfl⟩
   | cons e l ih =>
    intro i n hm hk
    obtain ⟨e0,e1,e2,e3,e4,e5,e6,e7,e8,e9,e10⟩:=e
    simp only [szSs,szS] at hm hk
    unfold f76_l1 f100
    cases decide (n≤2000)
    ·exact ⟨_,rfl⟩
    ·obtain ⟨r,hr⟩:=f100_tot k k e6 (w64 (a + 1)) (by omega)
     obtain ⟨r7,hr7⟩:=f76_tot k m e7 (w64 (a + 1)) (by omega) (by omega)
     obtain ⟨r8,hr8⟩:=f76_tot k m e8 (w64 (a + 1)) (by omega) (by omega)
     obtain ⟨r9,hr9⟩:=f76_tot k m e9 (w64 (a + 1)) (by omega) (by omega)
     rw [hr,cond_true,Option.bind_some,hr7,Option.bind_some,hr8,Option.bind_some,hr9]
     exact cs i _ (fun n=>ih _ _ (by omega) (by omega)) e10 0 _ (by omega) (by omega)
  cases decide (a > 40)
  ·exact loop l 0 0 (by omega) (by omega)
  ·exact ⟨_,rfl⟩
theorem f13_tot (k:Nat) (p:DProgram) (hk:2 * szP p + 1≤k) : ∃ b,f13 k p=some b:=by
 obtain ⟨fs⟩:=p
 simp only [szP] at hk
 have loop : ∀ (l:List DFunc) (i:Nat) (n:Int),szFs l + 1≤k→∃ r,f40_l1 k l i n=some r:=by
  intro l
  induction l with
  | nil=>intro i n _; exact ⟨_,rfl⟩
  | cons e l ih =>
   intro i n hk
   obtain ⟨e0,e1,e2,e3,e4,e5⟩:=e
   simp only [szFs,szF] at hk
   unfold f40_l1 f76
   cases decide (n≤2000)
   ·exact ⟨_,rfl⟩
   ·obtain ⟨r,hr⟩:=f76_tot k k e5 0 (by omega) (by omega)
    rw [hr]
    exact ih _ _ (by omega)
 obtain ⟨r,hr⟩:=loop fs 0 0 (by omega)
 exact ⟨r,by unfold f13 f13_b f40 f40_b; simp [hr]⟩
theorem f14_eq (k:Nat):f14 (k + 100)=some true:=by kernel_rfl
end Go.Proofs.YtoajecnoffhlbaaGreatDoor
namespace Go.Proofs.YtoajecnoffhlbaaGreatDoor
open Go
abbrev Ex (α:Type):=Except Int α
def slotOf (nm:List ByteArray) (vis:List Nat) (a:ByteArray):Option Nat :=
 vis.find? fun v=>match nm[v]? with | some b=>seq b a | none=>false
mutual
def uE (nm:List ByteArray) (vis:List Nat):DExpr→Ex DExpr
 | .mk op num txt slot l=>match uEs nm vis l with
  | .error c=>.error c
  | .ok l'=>cond (op == 4) (match slotOf nm vis txt with | none=>.error 20 | some v=>.ok (.mk op num txt (v:Int) l')) (.ok (.mk op num txt 0 l'))
def uEs (nm:List ByteArray) (vis:List Nat):List DExpr→Ex (List DExpr)
 | []=>.ok []
 | e :: l=>match uE nm vis e with
  | .error c=>.error c
  | .ok e'=>match uEs nm vis l with
   | .error c=>.error c
   | .ok l'=>.ok (e' :: l')
end
def lkU (a:ByteArray):List (List (ByteArray × Int))→Option Int
 | []=>none
 | d :: sc=>match mget seq a d with
  | some v=>some v
  | none=>lkU a sc
def okV (nm:List ByteArray) (vis:List Nat):Prop:=∀ v ∈ vis,v < nm.length
structure Rel (sc:List (List (ByteArray × Int))) (vis:List Nat) (nm:List ByteArray):Prop where
 look : ∀ a,lkU a sc=(slotOf nm vis a).map (fun (v:Nat)=>(v:Int))
 ok:okV nm vis
theorem f119_eq (k:Nat) (p:List DFunc) (f:DFunc) (nm:List ByteArray) (sc:List (List (ByteArray × Int))) (lo:Int) (a:ByteArray) :
  f119 k (.mk (.mk p) f nm sc lo) a=some (match lkU a sc with | some v=>(v,true) | none=>(0,false)):=by
 obtain ⟨f0,f1,f2,f3,f4,f5⟩:=f
 have h : ∀ (sc:List (List (ByteArray × Int))) (i:Nat),f119_l1 k a sc i=some (match lkU a sc with | some v=>(v,true) | none=>(0,false)):=by
  intro sc
  induction sc with
  | nil=>intro i; rfl
  | cons d sc ih =>
   intro i
   unfold f119_l1 lkU
   rw [ih]
   cases mget seq a d <;> rfl
 exact h sc 0
theorem Rel.f119 {k:Nat} {p:List DFunc} {f:DFunc} {nm:List ByteArray} {sc:List (List (ByteArray × Int))} {lo:Int} {vis:List Nat} (R:Rel sc vis nm) (a:ByteArray) :
  Go.Proofs.YtoajecnoffhlbaaGreatDoor.f119 k (.mk (.mk p) f nm sc lo) a=some (match slotOf nm vis a with | some v=>((v:Int),true) | none=>(0,false)):=by
 rw [f119_eq,R.look]
 cases slotOf nm vis a <;> rfl
theorem f58_eq (k:Nat) (b:Bool) (c:Int):f58 k b c=some (cond b (.ok ()) (.error c)):=by cases b <;> rfl
theorem nU (k:Nat) (p:List DFunc) (f:DFunc) {nm:List ByteArray} {sc:List (List (ByteArray × Int))} (lo:Int) {vis:List Nat} (R:Rel sc vis nm) : ∀ m,
  (∀ e,2 * szE e≤m→szE e≤100000→(fam1013170 k m).f1014270 e (.mk (.mk p) f nm sc lo)=some (uE nm vis e)) ∧
  (∀ l,2 * szEs l + 1≤m→szEs l≤100000→(fam1013170 k m).f1013170 l (.mk (.mk p) f nm sc lo)=some (uEs nm vis l))
 | 0=>⟨fun e h=>by have:=szE_pos e; omega,fun l h=>by omega⟩
 | m + 1=>by
  obtain ⟨ihe,ihl⟩:=nU k p f lo R m
  constructor
  ·intro e h hb
   obtain ⟨op,num,txt,slot,l⟩:=e
   obtain ⟨f0,f1,f2,f3,f4,f5⟩:=f
   simp only [szE] at h hb
   show f1014270_b k (fam1013170 k m) (.mk op num txt slot l) (.mk (.mk p) (.mk f0 f1 f2 f3 f4 f5) nm sc lo)=_
   unfold f1014270_b uE
   simp only
   rw [ihl l (by omega) (by omega)]
   simp only [Option.bind_some]
   cases uEs nm vis l with
   | error c=>rfl
   | ok l' =>
    simp only
    unfold f1013932 f1013932_b
    simp only
    rw [R.f119]
    simp only [Option.bind_some,f58_eq,bne]
    cases (op == 4) <;> cases slotOf nm vis txt <;> rfl
  ·intro l h hb
   obtain ⟨f0,f1,f2,f3,f4,f5⟩:=f
   show f1013170_l1 k (fam1013170 k m) p f0 f1 f2 f3 f4 f5 nm sc lo l 0 []=_
   have loop : ∀ (l:List DExpr) (i:Nat) (xs:List DExpr),2 * szEs l≤m→xs.length + szEs l≤100000→f1013170_l1 k (fam1013170 k m) p f0 f1 f2 f3 f4 f5 nm sc lo l i xs=some (match uEs nm vis l with | .error c=>.error c | .ok l'=>.ok (xs ++ l')):=by
    intro l
    induction l with
    | nil=>intro i xs _ _; simp [f1013170_l1,uEs]
    | cons e l ih =>
     intro i xs hm hx
     obtain ⟨e0,e1,e2,e3,e4⟩:=e
     simp only [szEs] at hm hx
     have hp:=szE_pos (.mk e0 e1 e2 e3 e4)
     unfold f1013170_l1 uEs
     rw [ihe (.mk e0 e1 e2 e3 e4) (by omega) (by omega)]
     simp only [Option.bind_some]
     cases uE nm vis (.mk e0 e1 e2 e3 e4) with
     | error c=>rfl
     | ok e' =>
      obtain ⟨r0,r1,r2,r3,r4⟩:=e'
      simp only
      rw [guard_le (by unfold maxB; omega),ih (i + 1) _ (by omega) (by rw [app_len]; omega)]
      cases uEs nm vis l with
      | error c=>rfl
      | ok l'=>simp
   rw [loop l 0 [] (by omega) (by simpa using hb)]
   cases uEs nm vis l <;> simp
theorem f120_eq (k:Nat) (p:List DFunc) (f:DFunc) {nm:List ByteArray} {sc:List (List (ByteArray × Int))} (lo:Int) {vis:List Nat} (R:Rel sc vis nm) (l:List DExpr) (hk:2 * szEs l + 1≤k) (hb:szEs l≤100000) :
  f120 k (.mk (.mk p) f nm sc lo) l=some (uEs nm vis l):=by
 have h:=(nU k p f lo R k).2 l hk hb
 obtain ⟨f0,f1,f2,f3,f4,f5⟩:=f
 unfold f120 f120_b f1013170
 simp only
 rw [h]
 cases uEs nm vis l <;> rfl
def vI (vis:List Nat):List Int:=vis.map fun (v:Nat)=>(v:Int)
theorem uE_err {nm:List ByteArray} {vis:List Nat} : ∀ m,(∀ e c,szE e≤m→uE nm vis e=.error c→c=20)∧(∀ l c,szEs l≤m→uEs nm vis l=.error c→c=20)
 | 0=>⟨fun e c h=>by have:=szE_pos e; omega,fun l c h hu=>by
   cases l with
   | nil=>cases hu
   | cons e l=>have:=szE_pos e; simp only [szEs] at h; omega⟩
 | m + 1=>by
  obtain ⟨ihe,ihl⟩:=uE_err (nm:=nm) (vis:=vis) m
  have he : ∀ e c,szE e≤m + 1→uE nm vis e=.error c→c=20:=by
   intro e c h hu
   obtain ⟨op,num,txt,slot,l⟩:=e
   simp only [szE] at h
   unfold uE at hu
   cases hl:uEs nm vis l with
   | error c'=>rw [hl] at hu; have:=ihl l c' (by omega) hl; cases hu; exact this
   | ok l' =>
    rw [hl] at hu
    cases h4:(op == 4) <;> rw [h4] at hu
    ·cases hu
    ·cases hs:slotOf nm vis txt <;> simp only [hs,cond_true] at hu <;> cases hu
     rfl
  refine ⟨he,?_⟩
  intro l
  induction l with
  | nil=>intro c _ hu; cases hu
  | cons e l ih =>
   intro c h hu
   simp only [szEs] at h
   unfold uEs at hu
   cases he' : uE nm vis e with
   | error c'=>rw [he'] at hu; have:=he e c' (by omega) he'; cases hu; exact this
   | ok e' =>
    rw [he'] at hu
    cases hl:uEs nm vis l with
    | error c'=>rw [hl] at hu; have:=ih c' (by omega) hl; cases hu; exact this
    | ok l'=>rw [hl] at hu; cases hu
theorem uEs_20 {nm:List ByteArray} {vis:List Nat} {e:List DExpr} {c:Int} (h:uEs nm vis e=.error c):c=20:=(uE_err _).2 e c (Nat.le_refl _) h
end Go.Proofs.YtoajecnoffhlbaaGreatDoor
namespace Go.Proofs.YtoajecnoffhlbaaGreatDoor
open Go
def eb {α β:Type} (u:Ex α) (f:α→Ex β):Ex β:=match u with | .error c=>.error c | .ok x=>f x
def eb3 {α β:Type} (u:Ex (List ByteArray × List Nat × α)) (f:List ByteArray→List Nat→α→Ex β):Ex β:=match u with | .error c=>.error c | .ok (a,b,x)=>f a b x
def uMk (nm:List ByteArray) (vis:List Nat) (a:ByteArray):Ex (List ByteArray × List Nat × Int) :=
 match slotOf nm vis a with | some _=>.error 21 | none=>.ok (nm ++ [a],vis ++ [nm.length],(nm.length:Int))
def uCall (op:Int) (fr:ByteArray) (na:Nat):List DFunc→Nat→Ex Int
 | [],_=>.error 20
 | .mk nm ps _ fl _ _ :: l,i=>cond (seq nm fr) (cond (fl == (op == 28)) (cond ((ps.length:Int) == (na:Int)) (.ok (i:Int)) (.error 24)) (.error 25)) (uCall op fr na l (i + 1))
def uD {α:Type} (b:Bool) (c:Int) (x:Ex α):Ex α:=cond b x (.error c)
section
variable (fs:List DFunc) (f2:Int) (f3:Bool)
mutual
def uS:Nat→List ByteArray→List Nat→DStmt→Ex (List ByteArray × List Nat × DStmt)
 | lo,nm,vis,.mk op name s2 fr s4 flag l6 l7 l8 l9 l10 =>
  eb (uEs nm vis l6) fun r6 =>
  cond (op == 27) (eb3 (uCs lo nm vis l10) fun nm1 _ cs=>.ok (nm1,vis,.mk op name s2 fr s4 flag r6 l7 l8 l9 cs))
  (eb (cond (seq fr ⟨#[]⟩) (.ok s4) (uCall op fr r6.length fs 0)) fun ix =>
  cond (op == 2) (match slotOf nm vis name with | none=>.error 20 | some v=>.ok (nm,vis,.mk op name (v:Int) fr ix flag r6 l7 l8 l9 l10))
  (cond (op == 18 || op == 19) (uD (decide (lo > 0)) 22 (.ok (nm,vis,.mk op name s2 fr ix flag r6 l7 l8 l9 l10)))
  (cond (op == 29) (uD f3 22 (.ok (nm,vis,.mk op name s2 fr ix flag r6 l7 l8 l9 l10)))
  (cond (op == 17) (uD ((decide (r6.length > 0)) == (f2 != 0)) 22 (.ok (nm,vis,.mk op name s2 fr ix flag r6 l7 l8 l9 l10)))
  (cond (op == 21) (eb3 (uB (lo + 1) nm vis l7) fun nm1 _ b=>.ok (nm1,vis,.mk op name s2 fr ix flag r6 b l8 l9 l10))
  (cond (op == 28) (eb3 (uI (lo + 1) nm vis name s2 l7) fun nm1 _ vb=>.ok (nm1,vis,.mk op name vb.1 fr ix flag r6 vb.2 l8 l9 l10))
  (cond (op == 25) (eb3 (uI lo nm vis name s2 l7) fun nm1 _ vb=>.ok (nm1,vis,.mk op name vb.1 fr ix flag r6 vb.2 l8 l9 l10))
  (cond (op == 24) (eb3 (uB lo nm vis l7) fun nm1 _ b7=>eb3 (uI lo nm1 vis name s2 l8) fun nm2 _ vb=>eb3 (uB lo nm2 vis l9) fun nm3 _ b9=>.ok (nm3,vis,.mk op name vb.1 fr ix flag r6 b7 vb.2 b9 l10))
  (cond (op == 20 || op == 22 || op == 23 || op == 26) (eb3 (uB lo nm vis l7) fun nm1 _ b7=>eb3 (uB lo nm1 vis l8) fun nm2 _ b8=>.ok (nm2,vis,.mk op name s2 fr ix flag r6 b7 b8 l9 l10))
   (eb3 (cond (seq name ⟨#[]⟩) (.ok (nm,vis,s2)) (uMk nm vis name)) fun nm1 vis1 v=>uD (op != 6 || flag == 0 || decide (lo > 0)) 22 (.ok (nm1,vis1,.mk op name v fr ix flag r6 l7 l8 l9 l10))))))))))))
def uSs:Nat→List ByteArray→List Nat→List DStmt→Ex (List ByteArray × List Nat × List DStmt)
 | _,nm,vis,[]=>.ok (nm,vis,[])
 | lo,nm,vis,s :: l=>eb3 (uS lo nm vis s) fun nm1 vis1 s'=>eb3 (uSs lo nm1 vis1 l) fun nm2 vis2 l'=>.ok (nm2,vis2,s' :: l')
def uB:Nat→List ByteArray→List Nat→List DStmt→Ex (List ByteArray × List Nat × List DStmt)
 | _,nm,vis,[]=>.ok (nm,vis,[])
 | lo,nm,vis,s :: l=>eb3 (uS lo nm vis s) fun nm1 vis1 s'=>eb3 (uSs lo nm1 vis1 l) fun nm2 vis2 l'=>.ok (nm2,vis,s' :: l')
def uI:Nat→List ByteArray→List Nat→ByteArray→Int→List DStmt→Ex (List ByteArray × List Nat × (Int × List DStmt))
 | lo,nm,vis,name,s2,[]=>eb3 (cond (seq name ⟨#[]⟩) (.ok (nm,vis,s2)) (uMk nm vis name)) fun nm1 _ v=>.ok (nm1,vis,(v,[]))
 | lo,nm,vis,name,s2,s :: l=>eb3 (cond (seq name ⟨#[]⟩) (.ok (nm,vis,s2)) (uMk nm vis name)) fun nm1 vis1 v=>eb3 (uS lo nm1 vis1 s) fun nm2 vis2 s'=>eb3 (uSs lo nm2 vis2 l) fun nm3 _ l'=>.ok (nm3,vis,(v,s' :: l'))
def uC:Nat→List ByteArray→List Nat→DCase→Ex (List ByteArray × List Nat × DCase)
 | lo,nm,vis,.mk kind name slot es b=>eb (uEs nm vis es) fun r=>eb3 (uI lo nm vis name slot b) fun nm1 _ vb=>.ok (nm1,vis,.mk kind name vb.1 r vb.2)
def uCs:Nat→List ByteArray→List Nat→List DCase→Ex (List ByteArray × List Nat × List DCase)
 | _,nm,vis,[]=>.ok (nm,vis,[])
 | lo,nm,vis,c :: l=>eb3 (uC lo nm vis c) fun nm1 _ c'=>eb3 (uCs lo nm1 vis l) fun nm2 _ l'=>.ok (nm2,vis,c' :: l')
end
theorem uB_eq (lo:Nat) (nm:List ByteArray) (vis:List Nat) (l:List DStmt):uB fs f2 f3 lo nm vis l=eb3 (uSs fs f2 f3 lo nm vis l) fun nm1 _ l'=>.ok (nm1,vis,l'):=by
 cases l with
 | nil=>simp [uB,uSs,eb3]
 | cons s l =>
  rw [uB,uSs]
  cases uS fs f2 f3 lo nm vis s with
  | error c=>rfl
  | ok x =>
   simp only [eb3]
   cases uSs fs f2 f3 lo x.1 x.2.1 l <;> rfl
theorem uI_eq (lo:Nat) (nm:List ByteArray) (vis:List Nat) (name:ByteArray) (s2:Int) (l:List DStmt):uI fs f2 f3 lo nm vis name s2 l =
  eb3 (cond (seq name ⟨#[]⟩) (.ok (nm,vis,s2)) (uMk nm vis name)) fun nm1 vis1 v=>eb3 (uSs fs f2 f3 lo nm1 vis1 l) fun nm2 _ l'=>.ok (nm2,vis,(v,l')):=by
 cases l with
 | nil=>simp [uI,uSs,eb3]
 | cons s l =>
  rw [uI]
  congr 1
  funext nm1 vis1 v
  rw [uSs]
  cases uS fs f2 f3 lo nm1 vis1 s with
  | error c=>rfl
  | ok x =>
   simp only [eb3]
   cases uSs fs f2 f3 lo x.1 x.2.1 l <;> rfl
end
theorem slotOf_ext {nm nm' : List ByteArray} {vis:List Nat} (hv:okV nm vis) (hn:nm <+: nm') (a:ByteArray):slotOf nm' vis a=slotOf nm vis a:=by
 obtain ⟨t,rfl⟩:=hn
 unfold slotOf
 induction vis with
 | nil=>rfl
 | cons v vis ih =>
  have h:v < nm.length:=hv v (by simp)
  rw [List.find?_cons,List.find?_cons,List.getElem?_append_left h,ih (fun w hw=>hv w (by simp [hw]))]
theorem slotOf_new {nm:List ByteArray} {vis:List Nat} (hv:okV nm vis) (a b:ByteArray) (hn:slotOf nm vis a=none):slotOf (nm ++ [a]) (vis ++ [nm.length]) b=match slotOf nm vis b with | some v=>some v | none=>cond (seq a b) (some nm.length) none:=by
 have h1:=slotOf_ext (nm':=nm ++ [a]) hv ⟨[a],rfl⟩ b
 unfold slotOf at h1 ⊢
 rw [List.find?_append,h1]
 cases List.find? (fun v=>match nm[v]? with | some b_1=>seq b_1 b | none=>false) vis with
 | some v=>rfl
 | none =>
  simp only [Option.none_or,List.find?_cons,List.find?_nil]
  have:(nm ++ [a])[nm.length]?=some a:=by simp
  rw [this]
  dsimp only
  cases seq a b <;> rfl
theorem seq_eq {a b:ByteArray} (h:seq a b=true):a=b:=by
 unfold seq at h
 rw [ByteArray.toList_eq,ByteArray.toList_eq] at h
 have h:=eq_of_beq h
 obtain ⟨⟨a⟩⟩:=a; obtain ⟨⟨b⟩⟩:=b
 exact congrArg (fun l=>(⟨⟨l⟩⟩:ByteArray)) h
theorem mget_put (a:ByteArray) (k:Int) (b:ByteArray) : ∀ d:List (ByteArray × Int),mget seq b (mput seq a k d)=cond (seq a b) (some k) (mget seq b d)
 | []=>by
  unfold mput mget
  rw [seq_comm b a]
  cases seq a b <;> rfl
 | (x,v) :: d=>by
  unfold mput
  cases h:seq a x with
  | true =>
   obtain rfl:=seq_eq h
   simp only [if_true,mget]
   rw [seq_comm b a]
   cases seq a b <;> rfl
  | false =>
   rw [if_neg (by simp)]
   simp only [mget,mget_put a k b d]
   cases hb:seq b x with
   | false=>simp
   | true =>
    obtain rfl:=seq_eq hb
    simp [h]
theorem lkU_app (a:ByteArray) : ∀ (x y:List (List (ByteArray × Int))),lkU a (x ++ y)=match lkU a x with | some v=>some v | none=>lkU a y
 | [],y=>rfl
 | d :: x,y=>by
  simp only [List.cons_append,lkU,lkU_app a x y]
  cases mget seq a d <;> rfl
theorem lkU_one (a:ByteArray) (d:List (ByteArray × Int)):lkU a [d]=mget seq a d:=by
 unfold lkU; cases mget seq a d <;> rfl
theorem Rel.push {sc:List (List (ByteArray × Int))} {vis:List Nat} {nm:List ByteArray} (R:Rel sc vis nm):Rel (sc ++ [[]]) vis nm :=
 ⟨fun a=>by rw [lkU_app,lkU_one,← R.look a]; cases lkU a sc <;> rfl,R.ok⟩
theorem Rel.ext {sc:List (List (ByteArray × Int))} {vis:List Nat} {nm nm' : List ByteArray} (R:Rel sc vis nm) (h:nm <+: nm'):Rel sc vis nm' :=
 ⟨fun a=>by rw [R.look,slotOf_ext R.ok h],fun v hv=>Nat.lt_of_lt_of_le (R.ok v hv) h.length_le⟩
theorem Rel.make {pre:List (List (ByteArray × Int))} {d:List (ByteArray × Int)} {vis:List Nat} {nm:List ByteArray} {a:ByteArray} (R:Rel (pre ++ [d]) vis nm) (hn:slotOf nm vis a=none) :
  Rel (pre ++ [mput seq a (nm.length:Int) d]) (vis ++ [nm.length]) (nm ++ [a]):=by
 refine ⟨fun b=>?_,fun v hv=>?_⟩
 ·rw [slotOf_new R.ok a b hn,lkU_app,lkU_one,mget_put]
  have h:=R.look b
  rw [lkU_app,lkU_one] at h
  cases hs:seq a b with
  | false =>
   simp only [cond_false]
   rw [h]
   cases slotOf nm vis b <;> rfl
  | true =>
   obtain rfl:=seq_eq hs
   rw [hn] at h ⊢
   simp only [Option.map_none] at h
   cases hp:lkU a pre with
   | some v=>rw [hp] at h; cases h
   | none=>rfl
 ·rcases List.mem_append.1 hv with hv | hv
  ·have:=R.ok v hv; simp; omega
  ·simp at hv; simp; omega
theorem f103_eq (k:Nat) (p:List DFunc) (f:DFunc) {nm:List ByteArray} {pre:List (List (ByteArray × Int))} {d:List (ByteArray × Int)} (lo:Int) {vis:List Nat} (R:Rel (pre ++ [d]) vis nm) (a:ByteArray) (hb:nm.length≤1000000) (hp:pre.length≤1000000) :
  f103 k (.mk (.mk p) f nm (pre ++ [d]) lo) a=some (match uMk nm vis a with | .error c=>.error c | .ok (nm',_,v)=>.ok (.mk (.mk p) f nm' (pre ++ [mput seq a (nm.length:Int) d]) lo,v)):=by
 have h119:=R.f119 (k:=k) (p:=p) (f:=f) (lo:=lo) a
 obtain ⟨f0,f1,f2,f3,f4,f5⟩:=f
 unfold f103 f103_b uMk
 simp only
 rw [h119]
 cases slotOf nm vis a with
 | some v=>rfl
 | none =>
  simp only [Option.bind_some,f58_eq,Bool.not_false,cond_true]
  rw [guard_le (by unfold maxB; omega)]
  have e1:w64 (((pre ++ [d]).length:Int) - 1)=(pre.length:Int):=w64_nat (n:=pre.length) (by simp) (by omega)
  rw [e1,idxO_mid pre d [] _ rfl]
  simp
def fdL (fr:ByteArray):List DFunc→Nat→Option Int
 | [],_=>some (-1)
 | .mk nm _ _ _ _ _ :: l,i=>cond (seq nm fr) (some (i:Int)) (fdL fr l (i + 1))
theorem f1005661_eq (k:Nat) (s0:Int) (s1:ByteArray) (s2:Int) (fr:ByteArray) (s4 s5:Int) (s6:List DExpr) (s7 s8 s9:List DStmt) (s10:List DCase) : ∀ (l:List DFunc) (i:Nat),
  f1005661_l1 k s0 s1 s2 fr s4 s5 s6 s7 s8 s9 s10 l i=fdL fr l i
 | [],i=>rfl
 | .mk e0 e1 e2 e3 e4 e5 :: l,i=>by
  unfold f1005661_l1 fdL f1014048 f1014048_b
  simp only [Option.bind_some]
  rw [f1005661_eq k s0 s1 s2 fr s4 s5 s6 s7 s8 s9 s10 l (i + 1)]
theorem fd_spec (op:Int) (fr:ByteArray) (na:Nat) : ∀ (l:List DFunc) (pre:List DFunc),∃ r,fdL fr l pre.length=some r ∧
  ((r=-1∧uCall op fr na l pre.length=.error 20)∨(∃ (j:Nat) (g0:ByteArray) (g1:List DParam) (g2:Int) (g3:Bool) (g4:Int) (g5:List DStmt),r=(j:Int)∧(pre ++ l)[j]?=some (.mk g0 g1 g2 g3 g4 g5) ∧
   uCall op fr na l pre.length=cond (g3 == (op == 28)) (cond ((g1.length:Int) == (na:Int)) (.ok (j:Int)) (.error 24)) (.error 25)))
 | [],pre=>⟨-1,rfl,.inl ⟨rfl,rfl⟩⟩
 | .mk g0 g1 g2 g3 g4 g5 :: l,pre=>by
  unfold fdL uCall
  cases h:seq g0 fr with
  | true=>exact ⟨_,rfl,.inr ⟨pre.length,g0,g1,g2,g3,g4,g5,rfl,by simp,rfl⟩⟩
  | false =>
   obtain ⟨r,h1,h2⟩:=fd_spec op fr na l (pre ++ [.mk g0 g1 g2 g3 g4 g5])
   rw [app_len] at h1 h2
   rw [List.append_assoc,List.singleton_append] at h2
   exact ⟨r,h1,h2⟩
theorem f122_eq (k:Nat) (p:List DFunc) (f:DFunc) (nm:List ByteArray) (sc:List (List (ByteArray × Int))) (lo:Int) (op:Int) (name:ByteArray) (s2:Int) (fr:ByteArray) (s4 flag:Int) (l6:List DExpr) (l7 l8 l9:List DStmt) (l10:List DCase) :
  f122 k (.mk (.mk p) f nm sc lo) (.mk op name s2 fr s4 flag l6 l7 l8 l9 l10)=some (match uCall op fr l6.length p 0 with | .error c=>.error c | .ok ix=>.ok (.mk (.mk p) f nm sc lo,.mk op name s2 fr ix flag l6 l7 l8 l9 l10)):=by
 obtain ⟨f0,f1,f2,f3,f4,f5⟩:=f
 unfold f122 f122_b f1005661 f1005661_b
 simp only
 rw [f1005661_eq]
 obtain ⟨r,h1,h2⟩:=fd_spec op fr l6.length p []
 simp only [List.length_nil,List.nil_append] at h1 h2
 rw [h1]
 simp only [Option.bind_some,f58_eq]
 rcases h2 with ⟨rfl,h2⟩ | ⟨j,g0,g1,g2,g3,g4,g5,rfl,h3,h2⟩
 ·rw [h2]; rfl
 ·rw [h2]
  have:idxO p (j:Int)=some (.mk g0 g1 g2 g3 g4 g5):=by unfold idxO; rw [if_pos (by omega)]; simpa using h3
  have hj:decide ((j:Int) ≥ 0)=true:=by simp
  rw [this,hj]
  simp only [cond_true,Option.bind_some]
  cases (g3 == (op == 28)) <;> cases ((g1.length:Int) == (l6.length:Int)) <;> rfl
end Go.Proofs.YtoajecnoffhlbaaGreatDoor
