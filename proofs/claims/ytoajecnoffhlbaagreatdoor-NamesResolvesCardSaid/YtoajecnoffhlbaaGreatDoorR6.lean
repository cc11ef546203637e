/- Words of the same proof, part 6: what the last text needs; nothing is claimed here. -/
import Derived.Test.YtoajecnoffhlbaaGreatDoorR5
import Derived.ProofKit
set_option linter.unusedVariables false
set_option linter.unusedSimpArgs false
set_option maxRecDepth 100000
set_option maxHeartbeats 4000000
namespace Go.Proofs.YtoajecnoffhlbaaGreatDoor
open Go
theorem f21_b_ok (k:Nat) (F:Fam21) (IH21:f21_spec F.f21):f21_spec (f21_b k F):=by
 unfold f21_spec
 intro K wi a4 b2 b3 a5 cy cz fD h hG eq eQ er
 obtain ⟨r_,hr_,h⟩:=rz h
 refine enter Tryz.func21 rfl (n:=161) rfl ?_
 unfold f21_b at h
 refine sr (m2 vN (wt (wp_seq (sr (m1 (sl b2 a4 b3) (lS a4.length Tye36 (m1 (sl cy a5 cz) (lS a5.length Tye36 (c0 ((a4.length:Int) != (a5.length:Int)) (wt (cd h (fun dY h=>?_) (fun dY h=>?_))))))))))))
 ·refine cT dY (sr (m2 vN (wt (wp_ret (thenR ?_)))))
  cases (oi h).trans hr_
  exact retA1 rfl (resT rfl) ⟨K,rfl,er⟩
 ·refine cF dY (wp_skip (thenN (wp_seq (sr (m2 (iI 0) (wt (wp_block (wp_loopG (fun g_ a w=>∃ es D bE,∃ (ao:Nat),g_=bE.length∧a=fr 161 (updL es [(0,sl b2 a4 b3),(1,sl cy a5 cz),(5,iI (ao:Int))])∧KH.sub K D∧SR K D wi w [] []∧a4.drop ao=bE∧f21_l1 k F a5 bE ao=some r_) a4.length ?_ ?_))))))))
  ·exact ⟨_,K,a4,0,rfl,fR,kr,er,List.drop_zero,h⟩
  ·rintro _ _ cJ ⟨es,D,bE,ao,rfl,rfl,cA,et,dm,h⟩
   rcases bE with _ | ⟨⟨aq,ar,au,av,aw,ax,ay,az,aA,aB,aE⟩,bE⟩
   ·unfold f21_l1 at h
    refine wp_seq (sr (m1 (iI (ao:Int)) (m1 (sl b2 a4 b3) (lS a4.length Tye36 (bcm (r:=false) rfl rfl (congrArg some (drop_nil_lt dm)) (wt (cndF rfl (wp_exit (thenX (thenX (blkX (thenN (sr (m2 vT (wt (wp_ret ?_))))))))))))))))
    cases (oi h).trans hr_
    exact retA1 rfl (resT rfl) ⟨D,rfl,et⟩
   ·unfold f21_l1 at h
    refine wp_seq (sr (m1 (iI (ao:Int)) (m1 (sl b2 a4 b3) (lS a4.length Tye36 (bcm (r:=true) rfl rfl (congrArg some (drop_cons_t dm)) (wt (cndT rfl (wp_skip (thenN (wp_seq (wp_block (wp_cut (fun a w=>∃ eu bo b4 bx bF bz bG bH b5 b9 cb bI cc ce bJ cf ch bK ci cj aF bA bB bp b6 bC bL bD bM bN b7 ck cl bO cm cn bP co cq bQ cr ct ap bb bd,a=fr 161 (updL eu [(0,sl b2 a4 b3),(1,sl cy a5 cz),(5,iI (ao:Int)),(6,pp bo 0),(7,pp bp 0)])∧SR K D wi w [] [.box (zz wi) bo (vS b4 bx bF bz bG bH b9 b5 cb cc bI ce cf bJ ch ci bK cj bA aF bB).toArray 42,.box (zz wi) bp (vS b6 bC bL bD bM bN ck b7 cl cm bO cn co bP cq cr bQ ct bb ap bd).toArray 42]∧bx.size ≤ mB∧bz.size ≤ mB∧tE D b9 cb b5∧tS D cc ce bI∧tS D cf ch bJ∧tS D ci cj bK∧tC D bA bB aF∧bC.size ≤ mB∧bD.size ≤ mB∧tE D ck cl b7∧tS D cm cn bO∧tS D co cq bP∧tS D cr ct bQ∧tC D bb bd ap∧f21_j1 k F ao b4 bx bF bz bG bH b5 bI bJ bK aF b6 bC bL bD bM bN b7 bO bP bQ ap (f21_l1 k F a5 bE)=some r_) ?_ ?_))))))))))))
    ·have bR:=et.drew
     refine regAny (E:=[10,11]) (F:=FW D []) (L:=(lb 12 0)) ymx rfl rfl (tk 0 (sl b2 a4 b3) (lb 12 1) rfl (fun w=>mv_r (v:=sl b2 a4 b3) rfl) (heldF (fq [] bR)) (tk 1 (iI (ao:Int)) (lb 12 3) rfl (fun w=>mv_r (v:=iI (ao:Int)) rfl) (heldF (fq [] bR)) ?_))
     obtain ⟨ew,ex,fE,eR,fF,eS,eT⟩:=((ms eq cA)).row.at_ (drop_cons_at dm)
     obtain ⟨aG,aH,aI,aJ,aK,aL,aM,aN,aP,aQ,rfl,cK,cL,cM,cN,cO,cP,cQ⟩:=RDStmt.open eT
     refine tk 2 (pp ew (ex + ao * 11)) (lb 12 7) rfl (fun w=>idxN_r (b:=ew) (o:=ex) (i:=ao) Tye36 Tys42 rfl eR rfl (drop_cons_lt dm)) (heldF (fq [] bR)) (tf 3 (.agg (vS aq ar au av aw ax aG ay aH aI az aJ aK aA aL aM aB aN aP aE aQ).toArray) ([[10,3],[11,3]]) (lb 12 15) rfl (fq [] bR) (fun w hF=>ldN_r (cs:=(vS aq ar au av aw ax aG ay aH aI az aJ aK aA aL aM aB aN aP aE aQ)) Tya42 Tys42 rfl rfl (fun j v hj=>hF.cell (kr.cell (eS j v hj)))) (tk 4 (sl cy a5 cz) (lb 12 31) rfl (fun w=>mv_r (v:=sl cy a5 cz) rfl) (heldF (fq [] bR)) (tk 5 (iI (ao:Int)) (lb 12 63) rfl (fun w=>mv_r (v:=iI (ao:Int)) rfl) (heldF (fq [] bR)) ?_)))
     obtain ⟨⟨G,I,J,N,O,S,U,V,W,X,Y⟩,dZ,h⟩:=ob h
     obtain ⟨ey,ez,fG,eU,fH,c6,eV⟩:=((ms eQ cA)).row.at_ (idxO_at dZ).1
     obtain ⟨Z,ab,ac,ad,ae,af,ag,ah,ai,aj,rfl,cR,cS,cU,cV,cW,cX,cY⟩:=RDStmt.open eV
     refine tk 6 (.pointer (some ⟨ey,ez + (ao:Int).toNat * 11,none⟩)) (lb 12 127) rfl (fun w=>idxG_r (b:=ey) (o:=ez) (i:=(ao:Int)) Tye36 Tys42 rfl eU rfl (idxO_at dZ).2.1 (idxO_at dZ).2.2) (heldF (fq [] bR)) (anyAll (rs:=[7,8,9]) (by kernel_rfl) (by decide) (allC ?_ (allC ?_ (allC ?_ allN))))
     ·refine opL (i:=7) rfl (lD (vS G I J N O S Z U ab ac V ad ae W af ag X ah ai Y aj) Tya42 Tys42 rfl (fun j v hj=>bR.cell (kr.cell (c6 j v hj))) (wt ⟨heldF (fq [] bR),anyAll (rs:=[8,9]) (by kernel_rfl) (by decide) (allC ?_ (allC ?_ allN))⟩))
      ·exact opL (i:=8) rfl (aC zS.toArray bR Tyz42 (fun cu be=>(wt ⟨heldF (fq [] be),aO 9 rfl (aC zS.toArray be Tyz42 (fun dx aV=>(wt ⟨heldF (fq [] aV),aO 10 rfl (sI 1 (.agg (vS aq ar au av aw ax aG ay aH aI az aJ aK aA aL aM aB aN aP aE aQ).toArray) ((vS aq ar au av aw ax aG ay aH aI az aJ aK aA aL aM aB aN aP aE aQ).toArray) aV Tys42 rfl rfl (fun c7 bf=>(wt ⟨heldE (i:=10) rfl rfl,aO 11 rfl (sI 0 (.agg (vS G I J N O S Z U ab ac V ad ae W af ag X ah ai Y aj).toArray) ((vS G I J N O S Z U ab ac V ad ae W af ag X ah ai Y aj).toArray) bf Tys42 rfl rfl (fun c8 bq=>(wt ⟨heldE (i:=11) rfl rfl,aD (thenN (⟨_,(zz cJ.drew),aq,ar,au,av,aw,ax,ay,aG,aH,az,aI,aJ,aA,aK,aL,aB,aM,aN,aE,aP,aQ,(zz cu),G,I,J,N,O,S,U,Z,ab,V,ac,ad,W,ae,af,X,ag,ah,Y,ai,aj,fR,(bq.sel [1,0]),cK,cL,cM,cN,cO,cP,cQ,cR,cS,cU,cV,cW,cX,cY,h⟩))⟩)))⟩)))⟩)))⟩)))
      ·exact opL (i:=9) rfl (aC zS.toArray bR Tyz42 (fun cu be=>(wt ⟨heldF (fq [] be),aO 8 rfl (aC zS.toArray be Tyz42 (fun dx aV=>(wt ⟨heldF (fq [] aV),aO 10 rfl (sI 0 (.agg (vS aq ar au av aw ax aG ay aH aI az aJ aK aA aL aM aB aN aP aE aQ).toArray) ((vS aq ar au av aw ax aG ay aH aI az aJ aK aA aL aM aB aN aP aE aQ).toArray) aV Tys42 rfl rfl (fun c7 bf=>(wt ⟨heldE (i:=10) rfl rfl,aO 11 rfl (sI 1 (.agg (vS G I J N O S Z U ab ac V ad ae W af ag X ah ai Y aj).toArray) ((vS G I J N O S Z U ab ac V ad ae W af ag X ah ai Y aj).toArray) bf Tys42 rfl rfl (fun c8 bq=>(wt ⟨heldE (i:=11) rfl rfl,aD (thenN (⟨_,(zz cu),aq,ar,au,av,aw,ax,ay,aG,aH,az,aI,aJ,aA,aK,aL,aB,aM,aN,aE,aP,aQ,(zz cJ.drew),G,I,J,N,O,S,U,Z,ab,V,ac,ad,W,ae,af,X,ag,ah,Y,ai,aj,fR,bq,cK,cL,cM,cN,cO,cP,cQ,cR,cS,cU,cV,cW,cX,cY,h⟩))⟩)))⟩)))⟩)))⟩)))
     ·refine opL (i:=8) rfl (aC zS.toArray bR Tyz42 (fun cu be=>(wt ⟨heldF (fq [] be),anyAll (rs:=[7,9]) (by kernel_rfl) (by decide) (allC ?_ (allC ?_ allN))⟩)))
      ·exact opL (i:=7) rfl (lD (vS G I J N O S Z U ab ac V ad ae W af ag X ah ai Y aj) Tya42 Tys42 rfl (fun j v hj=>be.cell (kr.cell (c6 j v hj))) (wt ⟨heldF (fq [] be),aO 9 rfl (aC zS.toArray be Tyz42 (fun dx aV=>(wt ⟨heldF (fq [] aV),aO 10 rfl (sI 1 (.agg (vS aq ar au av aw ax aG ay aH aI az aJ aK aA aL aM aB aN aP aE aQ).toArray) ((vS aq ar au av aw ax aG ay aH aI az aJ aK aA aL aM aB aN aP aE aQ).toArray) aV Tys42 rfl rfl (fun c7 bf=>(wt ⟨heldE (i:=10) rfl rfl,aO 11 rfl (sI 0 (.agg (vS G I J N O S Z U ab ac V ad ae W af ag X ah ai Y aj).toArray) ((vS G I J N O S Z U ab ac V ad ae W af ag X ah ai Y aj).toArray) bf Tys42 rfl rfl (fun c8 bq=>(wt ⟨heldE (i:=11) rfl rfl,aD (thenN (⟨_,(zz cJ.drew),aq,ar,au,av,aw,ax,ay,aG,aH,az,aI,aJ,aA,aK,aL,aB,aM,aN,aE,aP,aQ,(zz cu),G,I,J,N,O,S,U,Z,ab,V,ac,ad,W,ae,af,X,ag,ah,Y,ai,aj,fR,(bq.sel [1,0]),cK,cL,cM,cN,cO,cP,cQ,cR,cS,cU,cV,cW,cX,cY,h⟩))⟩)))⟩)))⟩)))⟩))
      ·refine opL (i:=9) rfl (aC zS.toArray be Tyz42 (fun dx aV=>(wt ⟨heldF (fq [] aV),anyAll (rs:=[7,10]) (by kernel_rfl) (by decide) (allC ?_ (allC ?_ allN))⟩)))
       ·exact opL (i:=7) rfl (lD (vS G I J N O S Z U ab ac V ad ae W af ag X ah ai Y aj) Tya42 Tys42 rfl (fun j v hj=>aV.cell (kr.cell (c6 j v hj))) (wt ⟨heldF (fq [] aV),aO 10 rfl (sI 1 (.agg (vS aq ar au av aw ax aG ay aH aI az aJ aK aA aL aM aB aN aP aE aQ).toArray) ((vS aq ar au av aw ax aG ay aH aI az aJ aK aA aL aM aB aN aP aE aQ).toArray) aV Tys42 rfl rfl (fun c7 bf=>(wt ⟨heldE (i:=10) rfl rfl,aO 11 rfl (sI 0 (.agg (vS G I J N O S Z U ab ac V ad ae W af ag X ah ai Y aj).toArray) ((vS G I J N O S Z U ab ac V ad ae W af ag X ah ai Y aj).toArray) bf Tys42 rfl rfl (fun c8 bq=>(wt ⟨heldE (i:=11) rfl rfl,aD (thenN (⟨_,(zz cJ.drew),aq,ar,au,av,aw,ax,ay,aG,aH,az,aI,aJ,aA,aK,aL,aB,aM,aN,aE,aP,aQ,(zz cu),G,I,J,N,O,S,U,Z,ab,V,ac,ad,W,ae,af,X,ag,ah,Y,ai,aj,fR,(bq.sel [1,0]),cK,cL,cM,cN,cO,cP,cQ,cR,cS,cU,cV,cW,cX,cY,h⟩))⟩)))⟩)))⟩))
       ·exact opL (i:=10) rfl (sI 1 (.agg (vS aq ar au av aw ax aG ay aH aI az aJ aK aA aL aM aB aN aP aE aQ).toArray) ((vS aq ar au av aw ax aG ay aH aI az aJ aK aA aL aM aB aN aP aE aQ).toArray) aV Tys42 rfl rfl (fun c7 bf=>(wt ⟨heldE (i:=10) rfl rfl,aO 7 rfl (lD (vS G I J N O S Z U ab ac V ad ae W af ag X ah ai Y aj) Tya42 Tys42 rfl (fun j v hj=>bf.cell (kr.cell (c6 j v hj))) (wt ⟨heldE (i:=10) rfl rfl,aO 11 rfl (sI 0 (.agg (vS G I J N O S Z U ab ac V ad ae W af ag X ah ai Y aj).toArray) ((vS G I J N O S Z U ab ac V ad ae W af ag X ah ai Y aj).toArray) bf Tys42 rfl rfl (fun c8 bq=>(wt ⟨heldE (i:=11) rfl rfl,aD (thenN (⟨_,(zz cJ.drew),aq,ar,au,av,aw,ax,ay,aG,aH,az,aI,aJ,aA,aK,aL,aB,aM,aN,aE,aP,aQ,(zz cu),G,I,J,N,O,S,U,Z,ab,V,ac,ad,W,ae,af,X,ag,ah,Y,ai,aj,fR,(bq.sel [1,0]),cK,cL,cM,cN,cO,cP,cQ,cR,cS,cU,cV,cW,cX,cY,h⟩))⟩)))⟩))⟩)))
     ·refine opL (i:=9) rfl (aC zS.toArray bR Tyz42 (fun cu be=>(wt ⟨heldF (fq [] be),anyAll (rs:=[7,8]) (by kernel_rfl) (by decide) (allC ?_ (allC ?_ allN))⟩)))
      ·exact opL (i:=7) rfl (lD (vS G I J N O S Z U ab ac V ad ae W af ag X ah ai Y aj) Tya42 Tys42 rfl (fun j v hj=>be.cell (kr.cell (c6 j v hj))) (wt ⟨heldF (fq [] be),aO 8 rfl (aC zS.toArray be Tyz42 (fun dx aV=>(wt ⟨heldF (fq [] aV),aO 10 rfl (sI 0 (.agg (vS aq ar au av aw ax aG ay aH aI az aJ aK aA aL aM aB aN aP aE aQ).toArray) ((vS aq ar au av aw ax aG ay aH aI az aJ aK aA aL aM aB aN aP aE aQ).toArray) aV Tys42 rfl rfl (fun c7 bf=>(wt ⟨heldE (i:=10) rfl rfl,aO 11 rfl (sI 1 (.agg (vS G I J N O S Z U ab ac V ad ae W af ag X ah ai Y aj).toArray) ((vS G I J N O S Z U ab ac V ad ae W af ag X ah ai Y aj).toArray) bf Tys42 rfl rfl (fun c8 bq=>(wt ⟨heldE (i:=11) rfl rfl,aD (thenN (⟨_,(zz cu),aq,ar,au,av,aw,ax,ay,aG,aH,az,aI,aJ,aA,aK,aL,aB,aM,aN,aE,aP,aQ,(zz cJ.drew),G,I,J,N,O,S,U,Z,ab,V,ac,ad,W,ae,af,X,ag,ah,Y,ai,aj,fR,bq,cK,cL,cM,cN,cO,cP,cQ,cR,cS,cU,cV,cW,cX,cY,h⟩))⟩)))⟩)))⟩)))⟩))
      ·refine opL (i:=8) rfl (aC zS.toArray be Tyz42 (fun dx aV=>(wt ⟨heldF (fq [] aV),anyAll (rs:=[7,10]) (by kernel_rfl) (by decide) (allC ?_ (allC ?_ allN))⟩)))
       ·exact opL (i:=7) rfl (lD (vS G I J N O S Z U ab ac V ad ae W af ag X ah ai Y aj) Tya42 Tys42 rfl (fun j v hj=>aV.cell (kr.cell (c6 j v hj))) (wt ⟨heldF (fq [] aV),aO 10 rfl (sI 0 (.agg (vS aq ar au av aw ax aG ay aH aI az aJ aK aA aL aM aB aN aP aE aQ).toArray) ((vS aq ar au av aw ax aG ay aH aI az aJ aK aA aL aM aB aN aP aE aQ).toArray) aV Tys42 rfl rfl (fun c7 bf=>(wt ⟨heldE (i:=10) rfl rfl,aO 11 rfl (sI 1 (.agg (vS G I J N O S Z U ab ac V ad ae W af ag X ah ai Y aj).toArray) ((vS G I J N O S Z U ab ac V ad ae W af ag X ah ai Y aj).toArray) bf Tys42 rfl rfl (fun c8 bq=>(wt ⟨heldE (i:=11) rfl rfl,aD (thenN (⟨_,(zz cu),aq,ar,au,av,aw,ax,ay,aG,aH,az,aI,aJ,aA,aK,aL,aB,aM,aN,aE,aP,aQ,(zz cJ.drew),G,I,J,N,O,S,U,Z,ab,V,ac,ad,W,ae,af,X,ag,ah,Y,ai,aj,fR,bq,cK,cL,cM,cN,cO,cP,cQ,cR,cS,cU,cV,cW,cX,cY,h⟩))⟩)))⟩)))⟩))
       ·exact opL (i:=10) rfl (sI 0 (.agg (vS aq ar au av aw ax aG ay aH aI az aJ aK aA aL aM aB aN aP aE aQ).toArray) ((vS aq ar au av aw ax aG ay aH aI az aJ aK aA aL aM aB aN aP aE aQ).toArray) aV Tys42 rfl rfl (fun c7 bf=>(wt ⟨heldE (i:=10) rfl rfl,aO 7 rfl (lD (vS G I J N O S Z U ab ac V ad ae W af ag X ah ai Y aj) Tya42 Tys42 rfl (fun j v hj=>bf.cell (kr.cell (c6 j v hj))) (wt ⟨heldE (i:=10) rfl rfl,aO 11 rfl (sI 1 (.agg (vS G I J N O S Z U ab ac V ad ae W af ag X ah ai Y aj).toArray) ((vS G I J N O S Z U ab ac V ad ae W af ag X ah ai Y aj).toArray) bf Tys42 rfl rfl (fun c8 bq=>(wt ⟨heldE (i:=11) rfl rfl,aD (thenN (⟨_,(zz cu),aq,ar,au,av,aw,ax,ay,aG,aH,az,aI,aJ,aA,aK,aL,aB,aM,aN,aE,aP,aQ,(zz cJ.drew),G,I,J,N,O,S,U,Z,ab,V,ac,ad,W,ae,af,X,ag,ah,Y,ai,aj,fR,bq,cK,cL,cM,cN,cO,cP,cQ,cR,cS,cU,cV,cW,cX,cY,h⟩))⟩)))⟩))⟩)))
    ·rintro _ fI ⟨eu,bo,b4,bx,bF,bz,bG,bH,b5,b9,cb,bI,cc,ce,bJ,cf,ch,bK,ci,cj,aF,bA,bB,bp,b6,bC,bL,bD,bM,bN,b7,ck,cl,bO,cm,cn,bP,co,cq,bQ,cr,ct,ap,bb,bd,rfl,aW,fJ,fK,eW,eX,eY,eZ,eA,fL,fM,e0,e1,e2,e3,c9,h⟩
     unfold f21_j1 at h
     refine wp_seq (wp_cut (fun a w=>∃ eB dy d0,a=fr 161 (updL eB [(0,sl b2 a4 b3),(1,sl cy a5 cz),(5,iI (ao:Int)),(6,pp bo 0),(7,pp bp 0),(77,.bool d0)])∧KH.sub D dy∧SR K dy wi w [] [.box (zz wi) bo (vS b4 bx bF bz bG bH b9 b5 cb cc bI ce cf bJ ch ci bK cj bA aF bB).toArray 42,.box (zz wi) bp (vS b6 bC bL bD bM bN ck b7 cl cm bO cn co bP cq cr bQ ct bb ap bd).toArray 42]∧f21_j2 k F ao bI bJ bK aF bO bP bQ ap d0 (f21_l1 k F a5 bE)=some r_) ?_ ?_)
     ·refine wp_region_lit (fd 0 Tyf42_0 rfl (l1 0 (iI b4) aW Tya3 (fd 0 Tyf42_0 rfl (l1 1 (iI b6) aW Tya3 (c0 (b4 != b6) (m1 (.bool (b4 != b6)) (cd h (fun bS h=>?_) (fun bS h=>?_))))))))
      ·exact o1 35 bS (o1 35 bS (o1 35 bS (o1 35 bS (o1 35 bS (m3 true vT (cg bS) (m1 vT (o0 42 (o0 42 (o0 42 (o0 42 (o0 42 (m3 true vT rfl (m1 vT (o0 49 (o0 49 (o0 49 (o0 49 (o0 49 (m3 true vT rfl (m1 vT (o0 56 (o0 56 (o0 56 (o0 56 (o0 56 (m3 true vT rfl (m1 vT (o0 63 (o0 63 (o0 63 (o0 63 (o0 63 (m3 true vT rfl (m1 vT (o0 70 (o0 70 (o0 70 (o0 70 (o0 70 (o0 70 (m3 true vT rfl (wt (⟨_,D,true,fR,kr,aW,h⟩)))))))))))))))))))))))))))))))))))))))))))
      ·refine n1 35 bS (fd 1 Tyf42_1 rfl (n1 35 bS (l1 0 (.string bx) aW Tya9 (n1 35 bS (fd 1 Tyf42_1 rfl (n1 35 bS (l1 1 (.string bC) aW Tya9 (n1 35 bS (bsc (r:=(!seq bx bC)) rfl rfl rfl (m3 false (.bool (!seq bx bC)) (cg bS) (m1 (.bool (!seq bx bC)) (cd h (fun bT h=>?_) (fun bT h=>?_)))))))))))))
       ·exact o1 42 bT (o1 42 bT (o1 42 bT (o1 42 bT (o1 42 bT (m3 true vT (cg bT) (m1 vT (o0 49 (o0 49 (o0 49 (o0 49 (o0 49 (m3 true vT rfl (m1 vT (o0 56 (o0 56 (o0 56 (o0 56 (o0 56 (m3 true vT rfl (m1 vT (o0 63 (o0 63 (o0 63 (o0 63 (o0 63 (m3 true vT rfl (m1 vT (o0 70 (o0 70 (o0 70 (o0 70 (o0 70 (o0 70 (m3 true vT rfl (wt (⟨_,D,true,fR,kr,aW,h⟩))))))))))))))))))))))))))))))))))))
       ·refine n1 42 bT (fd 2 Tyf42_2 rfl (n1 42 bT (l1 0 (iI bF) aW Tya3 (n1 42 bT (fd 2 Tyf42_2 rfl (n1 42 bT (l1 1 (iI bL) aW Tya3 (n1 42 bT (c0 (bF != bL) (m3 false (.bool (bF != bL)) (cg bT) (m1 (.bool (bF != bL)) (cd h (fun bU h=>?_) (fun bU h=>?_)))))))))))))
        ·exact o1 49 bU (o1 49 bU (o1 49 bU (o1 49 bU (o1 49 bU (m3 true vT (cg bU) (m1 vT (o0 56 (o0 56 (o0 56 (o0 56 (o0 56 (m3 true vT rfl (m1 vT (o0 63 (o0 63 (o0 63 (o0 63 (o0 63 (m3 true vT rfl (m1 vT (o0 70 (o0 70 (o0 70 (o0 70 (o0 70 (o0 70 (m3 true vT rfl (wt (⟨_,D,true,fR,kr,aW,h⟩)))))))))))))))))))))))))))))
        ·refine n1 49 bU (fd 3 Tyf42_3 rfl (n1 49 bU (l1 0 (.string bz) aW Tya9 (n1 49 bU (fd 3 Tyf42_3 rfl (n1 49 bU (l1 1 (.string bD) aW Tya9 (n1 49 bU (bsc (r:=(!seq bz bD)) rfl rfl rfl (m3 false (.bool (!seq bz bD)) (cg bU) (m1 (.bool (!seq bz bD)) (cd h (fun bV h=>?_) (fun bV h=>?_)))))))))))))
         ·exact o1 56 bV (o1 56 bV (o1 56 bV (o1 56 bV (o1 56 bV (m3 true vT (cg bV) (m1 vT (o0 63 (o0 63 (o0 63 (o0 63 (o0 63 (m3 true vT rfl (m1 vT (o0 70 (o0 70 (o0 70 (o0 70 (o0 70 (o0 70 (m3 true vT rfl (wt (⟨_,D,true,fR,kr,aW,h⟩))))))))))))))))))))))
         ·refine n1 56 bV (fd 4 Tyf42_4 rfl (n1 56 bV (l1 0 (iI bG) aW Tya3 (n1 56 bV (fd 4 Tyf42_4 rfl (n1 56 bV (l1 1 (iI bM) aW Tya3 (n1 56 bV (c0 (bG != bM) (m3 false (.bool (bG != bM)) (cg bV) (m1 (.bool (bG != bM)) (cd h (fun bW h=>?_) (fun bW h=>?_)))))))))))))
          ·exact o1 63 bW (o1 63 bW (o1 63 bW (o1 63 bW (o1 63 bW (m3 true vT (cg bW) (m1 vT (o0 70 (o0 70 (o0 70 (o0 70 (o0 70 (o0 70 (m3 true vT rfl (wt (⟨_,D,true,fR,kr,aW,h⟩)))))))))))))))
          ·refine n1 63 bW (fd 5 Tyf42_5 rfl (n1 63 bW (l1 0 (iI bH) aW Tya3 (n1 63 bW (fd 5 Tyf42_5 rfl (n1 63 bW (l1 1 (iI bN) aW Tya3 (n1 63 bW (c0 (bH != bN) (m3 false (.bool (bH != bN)) (cg bW) (m1 (.bool (bH != bN)) (cd h (fun br h=>?_) (fun br h=>?_)))))))))))))
           ·exact o1 70 br (o1 70 br (o1 70 br (o1 70 br (o1 70 br (o1 70 br (m3 true vT (cg br) (wt (⟨_,D,true,fR,kr,aW,h⟩))))))))
           ·refine n1 70 br (fd 6 Tyf42_6 rfl (n1 70 br (l1 0 (sl b9 b5 cb) aW Tya39 (n1 70 br (fd 6 Tyf42_6 rfl (n1 70 br (l1 1 (sl ck b7 cl) aW Tya39 (n1 70 br ?_))))))))
            obtain ⟨d1,e4,h⟩:=ob h
            refine cv ([sl b9 b5 cb,sl ck b7 cl]) Tyb48 ((f48_ok k) e4 (hG.mono cA) eW e0 (pt aW)) ?_
            rintro _ fN ⟨e5,rfl,eC⟩
            have e6:=ca eC aW
            exact n1 70 br (uN d1 (m3 false (.bool (!d1)) (cg br) (wt (⟨_,e5,(!d1),fR,eC.sub,e6,h⟩))))
     ·rintro _ fO ⟨eB,dy,d0,rfl,aX,dz,h⟩
      unfold f21_j2 at h
      refine cd h (fun d2 h=>?_) (fun d2 h=>?_)
      ·refine cT d2 (sr (m2 vN (wt (wp_ret (thenR (blkR (thenR (thenR (blkR (thenR ?_))))))))))
       cases (oi h).trans hr_
       exact retA1 rfl (resT rfl) ⟨dy,rfl,(dz.sel [])⟩
      ·refine cF d2 (wp_skip (thenN (wp_seq (wp_cut (fun a w=>∃ eD dn d3,a=fr 161 (updL eD [(0,sl b2 a4 b3),(1,sl cy a5 cz),(5,iI (ao:Int)),(6,pp bo 0),(7,pp bp 0),(108,.bool d3)])∧KH.sub dy dn∧SR K dn wi w [] [.box (zz wi) bo (vS b4 bx bF bz bG bH b9 b5 cb cc bI ce cf bJ ch ci bK cj bA aF bB).toArray 42,.box (zz wi) bp (vS b6 bC bL bD bM bN ck b7 cl cm bO cn co bP cq cr bQ ct bb ap bd).toArray 42]∧f21_j3 k F ao aF ap d3 (f21_l1 k F a5 bE)=some r_) ?_ ?_))))
       ·refine wp_region_lit (fd 7 Tyf42_7 rfl (l1 0 (sl cc bI ce) dz Tya36 (fd 7 Tyf42_7 rfl (l1 1 (sl cm bO cn) dz Tya36 ?_))))
        obtain ⟨eE,e7,h⟩:=ob h
        refine cv ([sl cc bI ce,sl cm bO cn]) Tyb21 (IH21 e7 (hG.mono (cA.trans aX)) (ms eX aX) (ms e1 aX) (pt dz)) ?_
        rintro _ fP ⟨e8,rfl,cw⟩
        have dA:=ca cw dz
        refine uN eE (m1 (.bool (!eE)) (cd h (fun bs h=>?_) (fun bs h=>?_)))
        ·exact o1 84 bs (o1 84 bs (o1 84 bs (o1 84 bs (o1 84 bs (o1 84 bs (m3 true vT (cg bs) (m1 vT (o0 92 (o0 92 (o0 92 (o0 92 (o0 92 (o0 92 (m3 true vT rfl (m1 vT (o0 100 (o0 100 (o0 100 (o0 100 (o0 100 (o0 100 (o0 100 (m3 true vT rfl (wt (⟨_,e8,true,fR,cw.sub,dA,h⟩)))))))))))))))))))))))))
        ·refine n1 84 bs (fd 8 Tyf42_8 rfl (n1 84 bs (l1 0 (sl cf bJ ch) dA Tya36 (n1 84 bs (fd 8 Tyf42_8 rfl (n1 84 bs (l1 1 (sl co bP cq) dA Tya36 (n1 84 bs ?_))))))))
         obtain ⟨d4,e9,h⟩:=ob h
         refine cv ([sl cf bJ ch,sl co bP cq]) Tyb21 (IH21 e9 (hG.mono ((cA.trans aX).trans cw.sub)) (ms eY (aX.trans cw.sub)) (ms e2 (aX.trans cw.sub)) (pt dA)) ?_
         rintro _ fQ ⟨fa,rfl,da⟩
         have dB:=ca da dA
         refine n1 84 bs (uN d4 (m3 false (.bool (!d4)) (cg bs) (m1 (.bool (!d4)) (cd h (fun bu h=>?_) (fun bu h=>?_)))))
         ·exact o1 92 bu (o1 92 bu (o1 92 bu (o1 92 bu (o1 92 bu (o1 92 bu (m3 true vT (cg bu) (m1 vT (o0 100 (o0 100 (o0 100 (o0 100 (o0 100 (o0 100 (o0 100 (m3 true vT rfl (wt (⟨_,fa,true,fR,(cw.sub.trans da.sub),dB,h⟩)))))))))))))))))
         ·refine n1 92 bu (fd 9 Tyf42_9 rfl (n1 92 bu (l1 0 (sl ci bK cj) dB Tya36 (n1 92 bu (fd 9 Tyf42_9 rfl (n1 92 bu (l1 1 (sl cr bQ ct) dB Tya36 (n1 92 bu ?_))))))))
          obtain ⟨d5,fb,h⟩:=ob h
          refine cv ([sl ci bK cj,sl cr bQ ct]) Tyb21 (IH21 fb (hG.mono (((cA.trans aX).trans cw.sub).trans da.sub)) (ms eZ ((aX.trans cw.sub).trans da.sub)) (ms e3 ((aX.trans cw.sub).trans da.sub)) (pt dB)) ?_
          rintro _ fS ⟨eF,rfl,d6⟩
          have dW:=ca d6 dB
          refine n1 92 bu (uN d5 (m3 false (.bool (!d5)) (cg bu) (m1 (.bool (!d5)) (cd h (fun bg h=>?_) (fun bg h=>?_)))))
          ·exact o1 100 bg (o1 100 bg (o1 100 bg (o1 100 bg (o1 100 bg (o1 100 bg (o1 100 bg (m3 true vT (cg bg) (wt (⟨_,eF,true,fR,((cw.sub.trans da.sub).trans d6.sub),dW,h⟩)))))))))
          ·exact n1 100 bg (fd 10 Tyf42_10 rfl (n1 100 bg (l1 0 (sl bA aF bB) dW Tya40 (n1 100 bg (lS aF.length Tye40 (n1 100 bg (fd 10 Tyf42_10 rfl (n1 100 bg (l1 1 (sl bb ap bd) dW Tya40 (n1 100 bg (lS ap.length Tye40 (n1 100 bg (c0 ((aF.length:Int) != (ap.length:Int)) (m3 false (.bool ((aF.length:Int) != (ap.length:Int))) (cg bg) (wt (⟨_,eF,((aF.length:Int) != (ap.length:Int)),fR,((cw.sub.trans da.sub).trans d6.sub),dW,h⟩))))))))))))))))
       ·rintro _ fT ⟨eD,dn,d3,rfl,b8,eG,h⟩
        unfold f21_j3 at h
        refine cd h (fun d7 h=>?_) (fun d7 h=>?_)
        ·refine cT d7 (sr (m2 vN (wt (wp_ret (thenR (blkR (thenR (thenR (blkR (thenR ?_))))))))))
         cases (oi h).trans hr_
         exact retA1 rfl (resT rfl) ⟨dn,rfl,(eG.sel [])⟩
        ·refine cF d7 (wp_skip (thenN (sr (m2 (iI 0) (wt (wp_block (wp_loopG (fun g_ a w=>∃ eH a9 cB,∃ (C:Nat),g_=cB.length∧a=fr 161 (updL eH [(0,sl b2 a4 b3),(1,sl cy a5 cz),(5,iI (ao:Int)),(6,pp bo 0),(7,pp bp 0),(8,iI (C:Int))])∧KH.sub dn a9∧SR K a9 wi w [] [.box (zz wi) bo (vS b4 bx bF bz bG bH b9 b5 cb cc bI ce cf bJ ch ci bK cj bA aF bB).toArray 42,.box (zz wi) bp (vS b6 bC bL bD bM bN ck b7 cl cm bO cn co bP cq cr bQ ct bb ap bd).toArray 42]∧aF.drop C=cB∧f21_l2 k F ao ap (f21_l1 k F a5 bE) cB C=some r_) aF.length ?_ ?_)))))))
         ·exact ⟨_,dn,aF,0,rfl,fR,kr,eG,List.drop_zero,h⟩
         ·rintro _ _ aY ⟨eH,a9,cB,C,rfl,rfl,bX,dX,dp,h⟩
          rcases cB with _ | ⟨⟨l,m,p,q,s⟩,cB⟩
          ·unfold f21_l2 at h
           exact wp_seq (sr (m1 (iI (C:Int)) (fd 10 Tyf42_10 rfl (l1 0 (sl bA aF bB) dX Tya40 (lS aF.length Tye40 (bcm (r:=false) rfl rfl (congrArg some (drop_nil_lt dp)) (wt (cndF rfl (wp_exit (thenX (thenX (blkX (blkN (thenN (wp_region_lit (m1 (iI (ao:Int)) (bar (r:=((ao + 1:Nat):Int)) rfl rfl (inc_ok (le_big (((ms eq cA)).len) (by decide) (drop_cons_lt dm))) (m2 (iI ((ao + 1:Nat):Int)) (wt (⟨_,Nat.lt_succ_self _,_,a9,bE,ao + 1,rfl,fR,(((cA.trans aX).trans b8).trans bX),(dX.sel []),drop_cons_next dm,h⟩))))))))))))))))))))
          ·unfold f21_l2 at h
           refine wp_seq (sr (m1 (iI (C:Int)) (fd 10 Tyf42_10 rfl (l1 0 (sl bA aF bB) dX Tya40 (lS aF.length Tye40 (bcm (r:=true) rfl rfl (congrArg some (drop_cons_t dp)) (wt (cndT rfl (wp_skip (thenN (wp_seq (wp_block (wp_cut (fun a w=>∃ eI d8 dq cZ db dr dC dD ds dE dF d9 dt c2 dc du dG dH dv dI dJ,a=fr 161 (updL eI [(0,sl b2 a4 b3),(1,sl cy a5 cz),(5,iI (ao:Int)),(6,pp bo 0),(7,pp bp 0),(8,iI (C:Int)),(9,pp d8 0),(10,pp d9 0)])∧SR K a9 wi w [] [.box (zz wi) bo (vS b4 bx bF bz bG bH b9 b5 cb cc bI ce cf bJ ch ci bK cj bA aF bB).toArray 42,.box (zz wi) bp (vS b6 bC bL bD bM bN ck b7 cl cm bO cn co bP cq cr bQ ct bb ap bd).toArray 42,.box (zz wi) d8 (vC dq cZ db dC dr dD dE ds dF).toArray 87,.box (zz wi) d9 (vC dt c2 dc dG du dH dI dv dJ).toArray 87]∧cZ.size ≤ mB∧tE a9 dC dD dr∧tS a9 dE dF ds∧c2.size ≤ mB∧tE a9 dG dH du∧tS a9 dI dJ dv∧f21_j4 k F C dq cZ db dr ds dt c2 dc du dv (f21_l2 k F ao ap (f21_l1 k F a5 bE) cB)=some r_) ?_ ?_)))))))))))))
           ·have ba:=dX.drew
            refine regAny (E:=[12,13]) (F:=FW a9 [.box (zz wi) bo (vS b4 bx bF bz bG bH b9 b5 cb cc bI ce cf bJ ch ci bK cj bA aF bB).toArray 42,.box (zz wi) bp (vS b6 bC bL bD bM bN ck b7 cl cm bO cn co bP cq cr bQ ct bb ap bd).toArray 42]) (L:=(lb 14 0)) ymx rfl rfl (tk 0 (pp bo 10) (lb 14 1) rfl (fun w=>fld_r (o':=10) Tyf42_10 rfl rfl) (heldF (fq [0,1] ba)) (tf 1 (sl bA aF bB) ([[12,1],[13,1]]) (lb 14 3) rfl (fq [0,1] ba) (fun w hF=>lb1_r (i:=0) (v:=sl bA aF bB) hF rfl Tya40 rfl rfl) (tk 2 (iI (C:Int)) (lb 14 7) rfl (fun w=>mv_r (v:=iI (C:Int)) rfl) (heldF (fq [0,1] ba)) ?_)))
            obtain ⟨eJ,eK,fU,fc,fV,fe,ff⟩:=((mc eA ((aX.trans b8).trans bX))).row.at_ (drop_cons_at dp)
            obtain ⟨t,u,x,y,rfl,aZ,a2,a3⟩:=RDCase.open ff
            refine tk 3 (pp eJ (eK + C * 5)) (lb 14 15) rfl (fun w=>idxN_r (b:=eJ) (o:=eK) (i:=C) Tye40 Tys87 rfl fc rfl (drop_cons_lt dp)) (heldF (fq [0,1] ba)) (tf 4 (.agg (vC l m p t q u x s y).toArray) ([[12,4],[13,4]]) (lb 14 31) rfl (fq [0,1] ba) (fun w hF=>ldN_r (cs:=(vC l m p t q u x s y)) Tya87 Tys87 rfl rfl (fun j v hj=>hF.cell (kr.cell (fe j v hj)))) (tk 5 (pp bp 10) (lb 14 63) rfl (fun w=>fld_r (o':=10) Tyf42_10 rfl rfl) (heldF (fq [0,1] ba)) (tk 7 (iI (C:Int)) (lb 14 191) rfl (fun w=>mv_r (v:=iI (C:Int)) rfl) (heldF (fq [0,1] ba)) (anyAll (rs:=[6,10,11]) (by kernel_rfl) (by decide) (allC ?_ (allC ?_ (allC ?_ allN)))))))
            ·refine opL (i:=6) rfl (l1 1 (sl bb ap bd) ba Tya40 (wt ⟨heldF (fq [0,1] ba),?_⟩))
             obtain ⟨⟨c,d,e,f,g⟩,ea,h⟩:=ob h
             obtain ⟨eL,eM,fW,fg,fX,dd,fh⟩:=((mc c9 ((aX.trans b8).trans bX))).row.at_ (idxO_at ea).1
             obtain ⟨ak,al,am,an,rfl,c3,c4,c5⟩:=RDCase.open fh
             refine tk 8 (.pointer (some ⟨eL,eM + (C:Int).toNat * 5,none⟩)) (lb 14 511) rfl (fun w=>idxG_r (b:=eL) (o:=eM) (i:=(C:Int)) Tye40 Tys87 rfl fg rfl (idxO_at ea).2.1 (idxO_at ea).2.2) (heldF (fq [0,1] ba)) (anyAll (rs:=[9,10,11]) (by kernel_rfl) (by decide) (allC ?_ (allC ?_ (allC ?_ allN))))
             ·refine opL (i:=9) rfl (lD (vC c d e ak f al am g an) Tya87 Tys87 rfl (fun j v hj=>ba.cell (kr.cell (dd j v hj))) (wt ⟨heldF (fq [0,1] ba),anyAll (rs:=[10,11]) (by kernel_rfl) (by decide) (allC ?_ (allC ?_ allN))⟩))
              ·exact opL (i:=10) rfl (aC zC.toArray ba Tyz87 (fun cx bh=>(wt ⟨heldF (fq [1,2] bh),aO 11 rfl (aC zC.toArray bh Tyz87 (fun cC z=>(wt ⟨heldF (fq [2,3] z),aO 12 rfl (sI 1 (.agg (vC l m p t q u x s y).toArray) ((vC l m p t q u x s y).toArray) z Tys87 rfl rfl (fun bi A=>(wt ⟨heldE (i:=12) rfl rfl,aO 13 rfl (sI 0 (.agg (vC c d e ak f al am g an).toArray) ((vC c d e ak f al am g an).toArray) A Tys87 rfl rfl (fun a6 B=>(wt ⟨heldE (i:=13) rfl rfl,aD (thenN (⟨_,(zz aY.drew),l,m,p,q,t,u,s,x,y,(zz cx),c,d,e,f,ak,al,g,am,an,fR,(B.sel [2,3,1,0]),aZ,a2,a3,c3,c4,c5,h⟩))⟩)))⟩)))⟩)))⟩)))
              ·exact opL (i:=11) rfl (aC zC.toArray ba Tyz87 (fun cx bh=>(wt ⟨heldF (fq [1,2] bh),aO 10 rfl (aC zC.toArray bh Tyz87 (fun cC z=>(wt ⟨heldF (fq [2,3] z),aO 12 rfl (sI 0 (.agg (vC l m p t q u x s y).toArray) ((vC l m p t q u x s y).toArray) z Tys87 rfl rfl (fun bi A=>(wt ⟨heldE (i:=12) rfl rfl,aO 13 rfl (sI 1 (.agg (vC c d e ak f al am g an).toArray) ((vC c d e ak f al am g an).toArray) A Tys87 rfl rfl (fun a6 B=>(wt ⟨heldE (i:=13) rfl rfl,aD (thenN (⟨_,(zz cx),l,m,p,q,t,u,s,x,y,(zz aY.drew),c,d,e,f,ak,al,g,am,an,fR,(B.sel [2,3,0,1]),aZ,a2,a3,c3,c4,c5,h⟩))⟩)))⟩)))⟩)))⟩)))
             ·refine opL (i:=10) rfl (aC zC.toArray ba Tyz87 (fun cx bh=>(wt ⟨heldF (fq [1,2] bh),anyAll (rs:=[9,11]) (by kernel_rfl) (by decide) (allC ?_ (allC ?_ allN))⟩)))
              ·exact opL (i:=9) rfl (lD (vC c d e ak f al am g an) Tya87 Tys87 rfl (fun j v hj=>bh.cell (kr.cell (dd j v hj))) (wt ⟨heldF (fq [1,2] bh),aO 11 rfl (aC zC.toArray bh Tyz87 (fun cC z=>(wt ⟨heldF (fq [2,3] z),aO 12 rfl (sI 1 (.agg (vC l m p t q u x s y).toArray) ((vC l m p t q u x s y).toArray) z Tys87 rfl rfl (fun bi A=>(wt ⟨heldE (i:=12) rfl rfl,aO 13 rfl (sI 0 (.agg (vC c d e ak f al am g an).toArray) ((vC c d e ak f al am g an).toArray) A Tys87 rfl rfl (fun a6 B=>(wt ⟨heldE (i:=13) rfl rfl,aD (thenN (⟨_,(zz aY.drew),l,m,p,q,t,u,s,x,y,(zz cx),c,d,e,f,ak,al,g,am,an,fR,(B.sel [2,3,1,0]),aZ,a2,a3,c3,c4,c5,h⟩))⟩)))⟩)))⟩)))⟩))
              ·refine opL (i:=11) rfl (aC zC.toArray bh Tyz87 (fun cC z=>(wt ⟨heldF (fq [2,3] z),anyAll (rs:=[9,12]) (by kernel_rfl) (by decide) (allC ?_ (allC ?_ allN))⟩)))
               ·exact opL (i:=9) rfl (lD (vC c d e ak f al am g an) Tya87 Tys87 rfl (fun j v hj=>z.cell (kr.cell (dd j v hj))) (wt ⟨heldF (fq [2,3] z),aO 12 rfl (sI 1 (.agg (vC l m p t q u x s y).toArray) ((vC l m p t q u x s y).toArray) z Tys87 rfl rfl (fun bi A=>(wt ⟨heldE (i:=12) rfl rfl,aO 13 rfl (sI 0 (.agg (vC c d e ak f al am g an).toArray) ((vC c d e ak f al am g an).toArray) A Tys87 rfl rfl (fun a6 B=>(wt ⟨heldE (i:=13) rfl rfl,aD (thenN (⟨_,(zz aY.drew),l,m,p,q,t,u,s,x,y,(zz cx),c,d,e,f,ak,al,g,am,an,fR,(B.sel [2,3,1,0]),aZ,a2,a3,c3,c4,c5,h⟩))⟩)))⟩)))⟩))
               ·exact opL (i:=12) rfl (sI 1 (.agg (vC l m p t q u x s y).toArray) ((vC l m p t q u x s y).toArray) z Tys87 rfl rfl (fun bi A=>(wt ⟨heldE (i:=12) rfl rfl,aO 9 rfl (lD (vC c d e ak f al am g an) Tya87 Tys87 rfl (fun j v hj=>A.cell (kr.cell (dd j v hj))) (wt ⟨heldE (i:=12) rfl rfl,aO 13 rfl (sI 0 (.agg (vC c d e ak f al am g an).toArray) ((vC c d e ak f al am g an).toArray) A Tys87 rfl rfl (fun a6 B=>(wt ⟨heldE (i:=13) rfl rfl,aD (thenN (⟨_,(zz aY.drew),l,m,p,q,t,u,s,x,y,(zz cx),c,d,e,f,ak,al,g,am,an,fR,(B.sel [2,3,1,0]),aZ,a2,a3,c3,c4,c5,h⟩))⟩)))⟩))⟩)))
             ·refine opL (i:=11) rfl (aC zC.toArray ba Tyz87 (fun cx bh=>(wt ⟨heldF (fq [1,2] bh),anyAll (rs:=[9,10]) (by kernel_rfl) (by decide) (allC ?_ (allC ?_ allN))⟩)))
              ·exact opL (i:=9) rfl (lD (vC c d e ak f al am g an) Tya87 Tys87 rfl (fun j v hj=>bh.cell (kr.cell (dd j v hj))) (wt ⟨heldF (fq [1,2] bh),aO 10 rfl (aC zC.toArray bh Tyz87 (fun cC z=>(wt ⟨heldF (fq [2,3] z),aO 12 rfl (sI 0 (.agg (vC l m p t q u x s y).toArray) ((vC l m p t q u x s y).toArray) z Tys87 rfl rfl (fun bi A=>(wt ⟨heldE (i:=12) rfl rfl,aO 13 rfl (sI 1 (.agg (vC c d e ak f al am g an).toArray) ((vC c d e ak f al am g an).toArray) A Tys87 rfl rfl (fun a6 B=>(wt ⟨heldE (i:=13) rfl rfl,aD (thenN (⟨_,(zz cx),l,m,p,q,t,u,s,x,y,(zz aY.drew),c,d,e,f,ak,al,g,am,an,fR,(B.sel [2,3,0,1]),aZ,a2,a3,c3,c4,c5,h⟩))⟩)))⟩)))⟩)))⟩))
              ·refine opL (i:=10) rfl (aC zC.toArray bh Tyz87 (fun cC z=>(wt ⟨heldF (fq [2,3] z),anyAll (rs:=[9,12]) (by kernel_rfl) (by decide) (allC ?_ (allC ?_ allN))⟩)))
               ·exact opL (i:=9) rfl (lD (vC c d e ak f al am g an) Tya87 Tys87 rfl (fun j v hj=>z.cell (kr.cell (dd j v hj))) (wt ⟨heldF (fq [2,3] z),aO 12 rfl (sI 0 (.agg (vC l m p t q u x s y).toArray) ((vC l m p t q u x s y).toArray) z Tys87 rfl rfl (fun bi A=>(wt ⟨heldE (i:=12) rfl rfl,aO 13 rfl (sI 1 (.agg (vC c d e ak f al am g an).toArray) ((vC c d e ak f al am g an).toArray) A Tys87 rfl rfl (fun a6 B=>(wt ⟨heldE (i:=13) rfl rfl,aD (thenN (⟨_,(zz cx),l,m,p,q,t,u,s,x,y,(zz aY.drew),c,d,e,f,ak,al,g,am,an,fR,(B.sel [2,3,0,1]),aZ,a2,a3,c3,c4,c5,h⟩))⟩)))⟩)))⟩))
               ·exact opL (i:=12) rfl (sI 0 (.agg (vC l m p t q u x s y).toArray) ((vC l m p t q u x s y).toArray) z Tys87 rfl rfl (fun bi A=>(wt ⟨heldE (i:=12) rfl rfl,aO 9 rfl (lD (vC c d e ak f al am g an) Tya87 Tys87 rfl (fun j v hj=>A.cell (kr.cell (dd j v hj))) (wt ⟨heldE (i:=12) rfl rfl,aO 13 rfl (sI 1 (.agg (vC c d e ak f al am g an).toArray) ((vC c d e ak f al am g an).toArray) A Tys87 rfl rfl (fun a6 B=>(wt ⟨heldE (i:=13) rfl rfl,aD (thenN (⟨_,(zz cx),l,m,p,q,t,u,s,x,y,(zz aY.drew),c,d,e,f,ak,al,g,am,an,fR,(B.sel [2,3,0,1]),aZ,a2,a3,c3,c4,c5,h⟩))⟩)))⟩))⟩)))
            ·refine opL (i:=10) rfl (aC zC.toArray ba Tyz87 (fun bY a7=>(wt ⟨heldF (fq [1,2] a7),anyAll (rs:=[6,11]) (by kernel_rfl) (by decide) (allC ?_ (allC ?_ allN))⟩)))
             ·refine opL (i:=6) rfl (l1 2 (sl bb ap bd) a7 Tya40 (wt ⟨heldF (fq [1,2] a7),?_⟩))
              obtain ⟨⟨c,d,e,f,g⟩,de,h⟩:=ob h
              obtain ⟨dK,dL,fi,ec,fj,df,ed⟩:=((mc c9 ((aX.trans b8).trans bX))).row.at_ (idxO_at de).1
              obtain ⟨aR,aS,aT,aU,rfl,dg,dh,di⟩:=RDCase.open ed
              refine tk 8 (.pointer (some ⟨dK,dL + (C:Int).toNat * 5,none⟩)) (lb 14 1535) rfl (fun w=>idxG_r (b:=dK) (o:=dL) (i:=(C:Int)) Tye40 Tys87 rfl ec rfl (idxO_at de).2.1 (idxO_at de).2.2) (heldF (fq [1,2] a7)) (anyAll (rs:=[9,11]) (by kernel_rfl) (by decide) (allC ?_ (allC ?_ allN)))
              ·exact opL (i:=9) rfl (lD (vC c d e aR f aS aT g aU) Tya87 Tys87 rfl (fun j v hj=>a7.cell (kr.cell (df j v hj))) (wt ⟨heldF (fq [1,2] a7),aO 11 rfl (aC zC.toArray a7 Tyz87 (fun cC z=>(wt ⟨heldF (fq [2,3] z),aO 12 rfl (sI 1 (.agg (vC l m p t q u x s y).toArray) ((vC l m p t q u x s y).toArray) z Tys87 rfl rfl (fun bi A=>(wt ⟨heldE (i:=12) rfl rfl,aO 13 rfl (sI 0 (.agg (vC c d e aR f aS aT g aU).toArray) ((vC c d e aR f aS aT g aU).toArray) A Tys87 rfl rfl (fun a6 B=>(wt ⟨heldE (i:=13) rfl rfl,aD (thenN (⟨_,(zz aY.drew),l,m,p,q,t,u,s,x,y,(zz bY),c,d,e,f,aR,aS,g,aT,aU,fR,(B.sel [2,3,1,0]),aZ,a2,a3,dg,dh,di,h⟩))⟩)))⟩)))⟩)))⟩))
              ·refine opL (i:=11) rfl (aC zC.toArray a7 Tyz87 (fun cC z=>(wt ⟨heldF (fq [2,3] z),anyAll (rs:=[9,12]) (by kernel_rfl) (by decide) (allC ?_ (allC ?_ allN))⟩)))
               ·exact opL (i:=9) rfl (lD (vC c d e aR f aS aT g aU) Tya87 Tys87 rfl (fun j v hj=>z.cell (kr.cell (df j v hj))) (wt ⟨heldF (fq [2,3] z),aO 12 rfl (sI 1 (.agg (vC l m p t q u x s y).toArray) ((vC l m p t q u x s y).toArray) z Tys87 rfl rfl (fun bi A=>(wt ⟨heldE (i:=12) rfl rfl,aO 13 rfl (sI 0 (.agg (vC c d e aR f aS aT g aU).toArray) ((vC c d e aR f aS aT g aU).toArray) A Tys87 rfl rfl (fun a6 B=>(wt ⟨heldE (i:=13) rfl rfl,aD (thenN (⟨_,(zz aY.drew),l,m,p,q,t,u,s,x,y,(zz bY),c,d,e,f,aR,aS,g,aT,aU,fR,(B.sel [2,3,1,0]),aZ,a2,a3,dg,dh,di,h⟩))⟩)))⟩)))⟩))
               ·exact opL (i:=12) rfl (sI 1 (.agg (vC l m p t q u x s y).toArray) ((vC l m p t q u x s y).toArray) z Tys87 rfl rfl (fun bi A=>(wt ⟨heldE (i:=12) rfl rfl,aO 9 rfl (lD (vC c d e aR f aS aT g aU) Tya87 Tys87 rfl (fun j v hj=>A.cell (kr.cell (df j v hj))) (wt ⟨heldE (i:=12) rfl rfl,aO 13 rfl (sI 0 (.agg (vC c d e aR f aS aT g aU).toArray) ((vC c d e aR f aS aT g aU).toArray) A Tys87 rfl rfl (fun a6 B=>(wt ⟨heldE (i:=13) rfl rfl,aD (thenN (⟨_,(zz aY.drew),l,m,p,q,t,u,s,x,y,(zz bY),c,d,e,f,aR,aS,g,aT,aU,fR,(B.sel [2,3,1,0]),aZ,a2,a3,dg,dh,di,h⟩))⟩)))⟩))⟩)))
             ·refine opL (i:=11) rfl (aC zC.toArray a7 Tyz87 (fun fk a8=>(wt ⟨heldF (fq [2,3] a8),anyAll (rs:=[6,12]) (by kernel_rfl) (by decide) (allC ?_ (allC ?_ allN))⟩)))
              ·refine opL (i:=6) rfl (l1 3 (sl bb ap bd) a8 Tya40 (wt ⟨heldF (fq [2,3] a8),?_⟩))
               obtain ⟨⟨c,d,e,f,g⟩,dj,h⟩:=ob h
               obtain ⟨dM,dN,fl,ee,fm,dO,ef⟩:=((mc c9 ((aX.trans b8).trans bX))).row.at_ (idxO_at dj).1
               obtain ⟨bj,bk,bm,bn,rfl,dP,dQ,dR⟩:=RDCase.open ef
               refine tk 8 (.pointer (some ⟨dM,dN + (C:Int).toNat * 5,none⟩)) (lb 14 3583) rfl (fun w=>idxG_r (b:=dM) (o:=dN) (i:=(C:Int)) Tye40 Tys87 rfl ee rfl (idxO_at dj).2.1 (idxO_at dj).2.2) (heldF (fq [2,3] a8)) (anyAll (rs:=[9,12]) (by kernel_rfl) (by decide) (allC ?_ (allC ?_ allN)))
               ·exact opL (i:=9) rfl (lD (vC c d e bj f bk bm g bn) Tya87 Tys87 rfl (fun j v hj=>a8.cell (kr.cell (dO j v hj))) (wt ⟨heldF (fq [2,3] a8),aO 12 rfl (sI 1 (.agg (vC l m p t q u x s y).toArray) ((vC l m p t q u x s y).toArray) a8 Tys87 rfl rfl (fun bi A=>(wt ⟨heldE (i:=12) rfl rfl,aO 13 rfl (sI 0 (.agg (vC c d e bj f bk bm g bn).toArray) ((vC c d e bj f bk bm g bn).toArray) A Tys87 rfl rfl (fun a6 B=>(wt ⟨heldE (i:=13) rfl rfl,aD (thenN (⟨_,(zz aY.drew),l,m,p,q,t,u,s,x,y,(zz bY),c,d,e,f,bj,bk,g,bm,bn,fR,(B.sel [2,3,1,0]),aZ,a2,a3,dP,dQ,dR,h⟩))⟩)))⟩)))⟩))
               ·exact opL (i:=12) rfl (sI 1 (.agg (vC l m p t q u x s y).toArray) ((vC l m p t q u x s y).toArray) a8 Tys87 rfl rfl (fun bi A=>(wt ⟨heldE (i:=12) rfl rfl,aO 9 rfl (lD (vC c d e bj f bk bm g bn) Tya87 Tys87 rfl (fun j v hj=>A.cell (kr.cell (dO j v hj))) (wt ⟨heldE (i:=12) rfl rfl,aO 13 rfl (sI 0 (.agg (vC c d e bj f bk bm g bn).toArray) ((vC c d e bj f bk bm g bn).toArray) A Tys87 rfl rfl (fun a6 B=>(wt ⟨heldE (i:=13) rfl rfl,aD (thenN (⟨_,(zz aY.drew),l,m,p,q,t,u,s,x,y,(zz bY),c,d,e,f,bj,bk,g,bm,bn,fR,(B.sel [2,3,1,0]),aZ,a2,a3,dP,dQ,dR,h⟩))⟩)))⟩))⟩)))
              ·refine opL (i:=12) rfl (sI 1 (.agg (vC l m p t q u x s y).toArray) ((vC l m p t q u x s y).toArray) a8 Tys87 rfl rfl (fun fn dk=>(wt ⟨heldE (i:=12) rfl rfl,aO 6 rfl (l1 3 (sl bb ap bd) dk Tya40 (wt ⟨heldE (i:=12) rfl rfl,?_⟩))⟩)))
               obtain ⟨⟨c,d,e,f,g⟩,dl,h⟩:=ob h
               obtain ⟨dS,dT,fo,eg,fp,eh,ei⟩:=((mc c9 ((aX.trans b8).trans bX))).row.at_ (idxO_at dl).1
               obtain ⟨cD,cG,cH,cI,rfl,ej,ek,el⟩:=RDCase.open ei
               exact tk 8 (.pointer (some ⟨dS,dT + (C:Int).toNat * 5,none⟩)) (lb 14 7679) rfl (fun w=>idxG_r (b:=dS) (o:=dT) (i:=(C:Int)) Tye40 Tys87 rfl eg rfl (idxO_at dl).2.1 (idxO_at dl).2.2) (heldE (i:=12) rfl rfl) (aO 9 rfl (lD (vC c d e cD f cG cH g cI) Tya87 Tys87 rfl (fun j v hj=>dk.cell (kr.cell (eh j v hj))) (wt ⟨heldE (i:=12) rfl rfl,aO 13 rfl (sI 0 (.agg (vC c d e cD f cG cH g cI).toArray) ((vC c d e cD f cG cH g cI).toArray) dk Tys87 rfl rfl (fun a6 B=>(wt ⟨heldE (i:=13) rfl rfl,aD (thenN (⟨_,(zz aY.drew),l,m,p,q,t,u,s,x,y,(zz bY),c,d,e,f,cD,cG,g,cH,cI,fR,(B.sel [2,3,1,0]),aZ,a2,a3,ej,ek,el,h⟩))⟩)))⟩)))
            ·refine opL (i:=11) rfl (aC zC.toArray ba Tyz87 (fun bY a7=>(wt ⟨heldF (fq [1,2] a7),anyAll (rs:=[6,10]) (by kernel_rfl) (by decide) (allC ?_ (allC ?_ allN))⟩)))
             ·refine opL (i:=6) rfl (l1 2 (sl bb ap bd) a7 Tya40 (wt ⟨heldF (fq [1,2] a7),?_⟩))
              obtain ⟨⟨c,d,e,f,g⟩,de,h⟩:=ob h
              obtain ⟨dK,dL,fi,ec,fj,df,ed⟩:=((mc c9 ((aX.trans b8).trans bX))).row.at_ (idxO_at de).1
              obtain ⟨aR,aS,aT,aU,rfl,dg,dh,di⟩:=RDCase.open ed
              refine tk 8 (.pointer (some ⟨dK,dL + (C:Int).toNat * 5,none⟩)) (lb 14 2559) rfl (fun w=>idxG_r (b:=dK) (o:=dL) (i:=(C:Int)) Tye40 Tys87 rfl ec rfl (idxO_at de).2.1 (idxO_at de).2.2) (heldF (fq [1,2] a7)) (anyAll (rs:=[9,10]) (by kernel_rfl) (by decide) (allC ?_ (allC ?_ allN)))
              ·exact opL (i:=9) rfl (lD (vC c d e aR f aS aT g aU) Tya87 Tys87 rfl (fun j v hj=>a7.cell (kr.cell (df j v hj))) (wt ⟨heldF (fq [1,2] a7),aO 10 rfl (aC zC.toArray a7 Tyz87 (fun cC z=>(wt ⟨heldF (fq [2,3] z),aO 12 rfl (sI 0 (.agg (vC l m p t q u x s y).toArray) ((vC l m p t q u x s y).toArray) z Tys87 rfl rfl (fun bi A=>(wt ⟨heldE (i:=12) rfl rfl,aO 13 rfl (sI 1 (.agg (vC c d e aR f aS aT g aU).toArray) ((vC c d e aR f aS aT g aU).toArray) A Tys87 rfl rfl (fun a6 B=>(wt ⟨heldE (i:=13) rfl rfl,aD (thenN (⟨_,(zz bY),l,m,p,q,t,u,s,x,y,(zz aY.drew),c,d,e,f,aR,aS,g,aT,aU,fR,(B.sel [2,3,0,1]),aZ,a2,a3,dg,dh,di,h⟩))⟩)))⟩)))⟩)))⟩))
              ·refine opL (i:=10) rfl (aC zC.toArray a7 Tyz87 (fun cC z=>(wt ⟨heldF (fq [2,3] z),anyAll (rs:=[9,12]) (by kernel_rfl) (by decide) (allC ?_ (allC ?_ allN))⟩)))
               ·exact opL (i:=9) rfl (lD (vC c d e aR f aS aT g aU) Tya87 Tys87 rfl (fun j v hj=>z.cell (kr.cell (df j v hj))) (wt ⟨heldF (fq [2,3] z),aO 12 rfl (sI 0 (.agg (vC l m p t q u x s y).toArray) ((vC l m p t q u x s y).toArray) z Tys87 rfl rfl (fun bi A=>(wt ⟨heldE (i:=12) rfl rfl,aO 13 rfl (sI 1 (.agg (vC c d e aR f aS aT g aU).toArray) ((vC c d e aR f aS aT g aU).toArray) A Tys87 rfl rfl (fun a6 B=>(wt ⟨heldE (i:=13) rfl rfl,aD (thenN (⟨_,(zz bY),l,m,p,q,t,u,s,x,y,(zz aY.drew),c,d,e,f,aR,aS,g,aT,aU,fR,(B.sel [2,3,0,1]),aZ,a2,a3,dg,dh,di,h⟩))⟩)))⟩)))⟩))
               ·exact opL (i:=12) rfl (sI 0 (.agg (vC l m p t q u x s y).toArray) ((vC l m p t q u x s y).toArray) z Tys87 rfl rfl (fun bi A=>(wt ⟨heldE (i:=12) rfl rfl,aO 9 rfl (lD (vC c d e aR f aS aT g aU) Tya87 Tys87 rfl (fun j v hj=>A.cell (kr.cell (df j v hj))) (wt ⟨heldE (i:=12) rfl rfl,aO 13 rfl (sI 1 (.agg (vC c d e aR f aS aT g aU).toArray) ((vC c d e aR f aS aT g aU).toArray) A Tys87 rfl rfl (fun a6 B=>(wt ⟨heldE (i:=13) rfl rfl,aD (thenN (⟨_,(zz bY),l,m,p,q,t,u,s,x,y,(zz aY.drew),c,d,e,f,aR,aS,g,aT,aU,fR,(B.sel [2,3,0,1]),aZ,a2,a3,dg,dh,di,h⟩))⟩)))⟩))⟩)))
             ·refine opL (i:=10) rfl (aC zC.toArray a7 Tyz87 (fun fk a8=>(wt ⟨heldF (fq [2,3] a8),anyAll (rs:=[6,12]) (by kernel_rfl) (by decide) (allC ?_ (allC ?_ allN))⟩)))
              ·refine opL (i:=6) rfl (l1 3 (sl bb ap bd) a8 Tya40 (wt ⟨heldF (fq [2,3] a8),?_⟩))
               obtain ⟨⟨c,d,e,f,g⟩,dj,h⟩:=ob h
               obtain ⟨dM,dN,fl,ee,fm,dO,ef⟩:=((mc c9 ((aX.trans b8).trans bX))).row.at_ (idxO_at dj).1
               obtain ⟨bj,bk,bm,bn,rfl,dP,dQ,dR⟩:=RDCase.open ef
               refine tk 8 (.pointer (some ⟨dM,dN + (C:Int).toNat * 5,none⟩)) (lb 14 3583) rfl (fun w=>idxG_r (b:=dM) (o:=dN) (i:=(C:Int)) Tye40 Tys87 rfl ee rfl (idxO_at dj).2.1 (idxO_at dj).2.2) (heldF (fq [2,3] a8)) (anyAll (rs:=[9,12]) (by kernel_rfl) (by decide) (allC ?_ (allC ?_ allN)))
               ·exact opL (i:=9) rfl (lD (vC c d e bj f bk bm g bn) Tya87 Tys87 rfl (fun j v hj=>a8.cell (kr.cell (dO j v hj))) (wt ⟨heldF (fq [2,3] a8),aO 12 rfl (sI 0 (.agg (vC l m p t q u x s y).toArray) ((vC l m p t q u x s y).toArray) a8 Tys87 rfl rfl (fun bi A=>(wt ⟨heldE (i:=12) rfl rfl,aO 13 rfl (sI 1 (.agg (vC c d e bj f bk bm g bn).toArray) ((vC c d e bj f bk bm g bn).toArray) A Tys87 rfl rfl (fun a6 B=>(wt ⟨heldE (i:=13) rfl rfl,aD (thenN (⟨_,(zz bY),l,m,p,q,t,u,s,x,y,(zz aY.drew),c,d,e,f,bj,bk,g,bm,bn,fR,(B.sel [2,3,0,1]),aZ,a2,a3,dP,dQ,dR,h⟩))⟩)))⟩)))⟩))
               ·exact opL (i:=12) rfl (sI 0 (.agg (vC l m p t q u x s y).toArray) ((vC l m p t q u x s y).toArray) a8 Tys87 rfl rfl (fun bi A=>(wt ⟨heldE (i:=12) rfl rfl,aO 9 rfl (lD (vC c d e bj f bk bm g bn) Tya87 Tys87 rfl (fun j v hj=>A.cell (kr.cell (dO j v hj))) (wt ⟨heldE (i:=12) rfl rfl,aO 13 rfl (sI 1 (.agg (vC c d e bj f bk bm g bn).toArray) ((vC c d e bj f bk bm g bn).toArray) A Tys87 rfl rfl (fun a6 B=>(wt ⟨heldE (i:=13) rfl rfl,aD (thenN (⟨_,(zz bY),l,m,p,q,t,u,s,x,y,(zz aY.drew),c,d,e,f,bj,bk,g,bm,bn,fR,(B.sel [2,3,0,1]),aZ,a2,a3,dP,dQ,dR,h⟩))⟩)))⟩))⟩)))
              ·refine opL (i:=12) rfl (sI 0 (.agg (vC l m p t q u x s y).toArray) ((vC l m p t q u x s y).toArray) a8 Tys87 rfl rfl (fun fn dk=>(wt ⟨heldE (i:=12) rfl rfl,aO 6 rfl (l1 3 (sl bb ap bd) dk Tya40 (wt ⟨heldE (i:=12) rfl rfl,?_⟩))⟩)))
               obtain ⟨⟨c,d,e,f,g⟩,dl,h⟩:=ob h
               obtain ⟨dS,dT,fo,eg,fp,eh,ei⟩:=((mc c9 ((aX.trans b8).trans bX))).row.at_ (idxO_at dl).1
               obtain ⟨cD,cG,cH,cI,rfl,ej,ek,el⟩:=RDCase.open ei
               exact tk 8 (.pointer (some ⟨dS,dT + (C:Int).toNat * 5,none⟩)) (lb 14 7679) rfl (fun w=>idxG_r (b:=dS) (o:=dT) (i:=(C:Int)) Tye40 Tys87 rfl eg rfl (idxO_at dl).2.1 (idxO_at dl).2.2) (heldE (i:=12) rfl rfl) (aO 9 rfl (lD (vC c d e cD f cG cH g cI) Tya87 Tys87 rfl (fun j v hj=>dk.cell (kr.cell (eh j v hj))) (wt ⟨heldE (i:=12) rfl rfl,aO 13 rfl (sI 1 (.agg (vC c d e cD f cG cH g cI).toArray) ((vC c d e cD f cG cH g cI).toArray) dk Tys87 rfl rfl (fun a6 B=>(wt ⟨heldE (i:=13) rfl rfl,aD (thenN (⟨_,(zz bY),l,m,p,q,t,u,s,x,y,(zz aY.drew),c,d,e,f,cD,cG,g,cH,cI,fR,(B.sel [2,3,0,1]),aZ,a2,a3,ej,ek,el,h⟩))⟩)))⟩)))
           ·rintro _ fY ⟨eI,d8,dq,cZ,db,dr,dC,dD,ds,dE,dF,d9,dt,c2,dc,du,dG,dH,dv,dI,dJ,rfl,bZ,fZ,fs,ft,f0,fu,fv,h⟩
            unfold f21_j4 at h
            refine wp_cut (fun a w=>∃ eN dU em,a=fr 161 (updL eN [(0,sl b2 a4 b3),(1,sl cy a5 cz),(5,iI (ao:Int)),(6,pp bo 0),(7,pp bp 0),(8,iI (C:Int)),(160,.bool em)])∧KH.sub a9 dU∧SR K dU wi w [] [.box (zz wi) bo (vS b4 bx bF bz bG bH b9 b5 cb cc bI ce cf bJ ch ci bK cj bA aF bB).toArray 42,.box (zz wi) bp (vS b6 bC bL bD bM bN ck b7 cl cm bO cn co bP cq cr bQ ct bb ap bd).toArray 42]∧f21_j5 k F C em (f21_l2 k F ao ap (f21_l1 k F a5 bE) cB)=some r_) ?_ ?_
            ·refine wp_region_lit (fd 0 Tyf87_0 rfl (l1 2 (iI dq) bZ Tya3 (fd 0 Tyf87_0 rfl (l1 3 (iI dt) bZ Tya3 (c0 (dq != dt) (m1 (.bool (dq != dt)) (cd h (fun b0 h=>?_) (fun b0 h=>?_))))))))
             ·exact o1 131 b0 (o1 131 b0 (o1 131 b0 (o1 131 b0 (o1 131 b0 (m3 true vT (cg b0) (m1 vT (o0 138 (o0 138 (o0 138 (o0 138 (o0 138 (m3 true vT rfl (m1 vT (o0 145 (o0 145 (o0 145 (o0 145 (o0 145 (o0 145 (m3 true vT rfl (m1 vT (o0 153 (o0 153 (o0 153 (o0 153 (o0 153 (o0 153 (m3 true vT rfl (wt (⟨_,a9,true,fR,kr,(bZ.sel [0,1]),h⟩))))))))))))))))))))))))))))))
             ·refine n1 131 b0 (fd 1 Tyf87_1 rfl (n1 131 b0 (l1 2 (.string cZ) bZ Tya9 (n1 131 b0 (fd 1 Tyf87_1 rfl (n1 131 b0 (l1 3 (.string c2) bZ Tya9 (n1 131 b0 (bsc (r:=(!seq cZ c2)) rfl rfl rfl (m3 false (.bool (!seq cZ c2)) (cg b0) (m1 (.bool (!seq cZ c2)) (cd h (fun b1 h=>?_) (fun b1 h=>?_)))))))))))))
              ·exact o1 138 b1 (o1 138 b1 (o1 138 b1 (o1 138 b1 (o1 138 b1 (m3 true vT (cg b1) (m1 vT (o0 145 (o0 145 (o0 145 (o0 145 (o0 145 (o0 145 (m3 true vT rfl (m1 vT (o0 153 (o0 153 (o0 153 (o0 153 (o0 153 (o0 153 (m3 true vT rfl (wt (⟨_,a9,true,fR,kr,(bZ.sel [0,1]),h⟩)))))))))))))))))))))))
              ·refine n1 138 b1 (fd 2 Tyf87_2 rfl (n1 138 b1 (l1 2 (iI db) bZ Tya3 (n1 138 b1 (fd 2 Tyf87_2 rfl (n1 138 b1 (l1 3 (iI dc) bZ Tya3 (n1 138 b1 (c0 (db != dc) (m3 false (.bool (db != dc)) (cg b1) (m1 (.bool (db != dc)) (cd h (fun bv h=>?_) (fun bv h=>?_)))))))))))))
               ·exact o1 145 bv (o1 145 bv (o1 145 bv (o1 145 bv (o1 145 bv (o1 145 bv (m3 true vT (cg bv) (m1 vT (o0 153 (o0 153 (o0 153 (o0 153 (o0 153 (o0 153 (m3 true vT rfl (wt (⟨_,a9,true,fR,kr,(bZ.sel [0,1]),h⟩))))))))))))))))
               ·refine n1 145 bv (fd 3 Tyf87_3 rfl (n1 145 bv (l1 2 (sl dC dr dD) bZ Tya39 (n1 145 bv (fd 3 Tyf87_3 rfl (n1 145 bv (l1 3 (sl dG du dH) bZ Tya39 (n1 145 bv ?_))))))))
                obtain ⟨en,fx,h⟩:=ob h
                refine cv ([sl dC dr dD,sl dG du dH]) Tyb48 ((f48_ok k) fx (hG.mono (((cA.trans aX).trans b8).trans bX)) fs fu (pt bZ)) ?_
                rintro _ f1 ⟨fy,rfl,dw⟩
                have dV:=ca dw bZ
                refine n1 145 bv (uN en (m3 false (.bool (!en)) (cg bv) (m1 (.bool (!en)) (cd h (fun bw h=>?_) (fun bw h=>?_)))))
                ·exact o1 153 bw (o1 153 bw (o1 153 bw (o1 153 bw (o1 153 bw (o1 153 bw (m3 true vT (cg bw) (wt (⟨_,fy,true,fR,dw.sub,(dV.sel [0,1]),h⟩))))))))
                ·refine n1 153 bw (fd 4 Tyf87_4 rfl (n1 153 bw (l1 2 (sl dE ds dF) dV Tya36 (n1 153 bw (fd 4 Tyf87_4 rfl (n1 153 bw (l1 3 (sl dI dv dJ) dV Tya36 (n1 153 bw ?_))))))))
                 obtain ⟨eo,fz,h⟩:=ob h
                 refine cv ([sl dE ds dF,sl dI dv dJ]) Tyb21 (IH21 fz (hG.mono ((((cA.trans aX).trans b8).trans bX).trans dw.sub)) (ms ft dw.sub) (ms fv dw.sub) (pt dV)) ?_
                 rintro _ f2 ⟨fA,rfl,eO⟩
                 have fB:=ca eO dV
                 exact n1 153 bw (uN eo (m3 false (.bool (!eo)) (cg bw) (wt (⟨_,fA,(!eo),fR,(dw.sub.trans eO.sub),(fB.sel [0,1]),h⟩))))
            ·rintro _ f4 ⟨eN,dU,em,rfl,fC,eP,h⟩
             unfold f21_j5 at h
             refine cd h (fun ep h=>?_) (fun ep h=>?_)
             ·refine cT ep (sr (m2 vN (wt (wp_ret (blkR (thenR (thenR (blkR (blkR (thenR (thenR (blkR (thenR ?_)))))))))))))
              cases (oi h).trans hr_
              exact retA1 rfl (resT rfl) ⟨dU,rfl,(eP.sel [])⟩
             ·exact cF ep (wp_skip (blkN (thenN (wp_region_lit (m1 (iI (C:Int)) (bar (r:=((C + 1:Nat):Int)) rfl rfl (inc_ok (le_big (((mc eA ((aX.trans b8).trans bX))).len) (by decide) (drop_cons_lt dp))) (m2 (iI ((C + 1:Nat):Int)) (wt (⟨_,Nat.lt_succ_self _,_,dU,cB,C + 1,rfl,fR,(bX.trans fC),eP,drop_cons_next dp,h⟩)))))))))
theorem fam21_ok (k0:Nat) : ∀ k,f21_spec (fam21 k0 k).f21:=by
 intro k
 induction k with
 | zero=>exact (by unfold f21_spec; intro _ _ _ _ _ _ _ _ _ h_; cases h_)
 | succ k ih=>exact f21_b_ok k0 (fam21 k0 k) ih
theorem f21_ok (k:Nat):f21_spec (f21 k):=(fam21_ok k k)
theorem f17_b_ok (k:Nat):f17_spec (f17_b k):=by
 unfold f17_spec
 intro K wi cr c3 ct c5 c6 h hG cu cw cx
 obtain ⟨r_,hr_,h⟩:=rz h
 obtain ⟨af⟩:=cr
 obtain ⟨aG,c1,rfl,b7⟩:=RDProgram.open cu
 obtain ⟨Y⟩:=ct
 obtain ⟨aw,ax,rfl,bi⟩:=RDProgram.open cw
 refine enter Tryz.func17 rfl (n:=94) rfl ?_
 unfold f17_b at h
 refine sr (bxoC (cs:=#[sl aG af c1]) cx rfl rfl (fun aH cy=>(bxoC (cs:=#[sl aw Y ax]) cy rfl rfl (fun c7 bI=>(m2 vN (wt (wp_seq (sr (fd 0 Tyf24_0 rfl (l1 1 (sl aG af c1) bI Tya22 (lS af.length Tye22 (fd 0 Tyf24_0 rfl (l1 0 (sl aw Y ax) bI Tya22 (lS Y.length Tye22 (c0 ((af.length:Int) != (Y.length:Int)) (wt (cd h (fun bQ h=>?_) (fun bQ h=>?_))))))))))))))))))
 ·refine cT bQ (sr (m2 vN (wt (wp_ret (thenR ?_)))))
  cases (oi h).trans hr_
  exact retA1 rfl (resT rfl) ⟨K,rfl,(bI.sel [])⟩
 ·refine cF bQ (wp_skip (thenN (wp_seq (sr (m2 (iI 0) (wt (wp_block (wp_loopG (fun g_ a w=>∃ b8 Z aM,∃ (G:Nat),g_=aM.length∧a=fr 94 (updL b8 [(2,pp (zz wi) 0),(3,pp (zz aH) 0),(5,iI (G:Int))])∧KH.sub K Z∧SR K Z wi w [] [.box (zz wi) (zz wi) #[sl aG af c1] 24,.box (zz wi) (zz aH) #[sl aw Y ax] 24]∧af.drop G=aM∧f17_l1 k Y aM G=some r_) af.length ?_ ?_))))))))
  ·exact ⟨_,K,af,0,rfl,fR,kr,(bI.sel [1,0]),List.drop_zero,h⟩
  ·rintro _ _ ab ⟨b8,Z,aM,G,rfl,rfl,aI,bJ,bv,h⟩
   rcases aM with _ | ⟨⟨m,p,q,s,t,u⟩,aM⟩
   ·unfold f17_l1 at h
    refine wp_seq (sr (m1 (iI (G:Int)) (fd 0 Tyf24_0 rfl (l1 0 (sl aG af c1) bJ Tya22 (lS af.length Tye22 (bcm (r:=false) rfl rfl (congrArg some (drop_nil_lt bv)) (wt (cndF rfl (wp_exit (thenX (thenX (blkX (thenN (sr (m2 vT (wt (wp_ret ?_)))))))))))))))))
    cases (oi h).trans hr_
    exact retA1 rfl (resT rfl) ⟨Z,rfl,(bJ.sel [])⟩
   ·unfold f17_l1 at h
    refine wp_seq (sr (m1 (iI (G:Int)) (fd 0 Tyf24_0 rfl (l1 0 (sl aG af c1) bJ Tya22 (lS af.length Tye22 (bcm (r:=true) rfl rfl (congrArg some (drop_cons_t bv)) (wt (cndT rfl (wp_skip (thenN (wp_seq (wp_block (wp_cut (fun a w=>∃ b9 aW aN X aJ aK aP aQ aR aX a9 ba aY aS av aZ a2 aT aU aV a3 bb bd,a=fr 94 (updL b9 [(2,pp (zz wi) 0),(3,pp (zz aH) 0),(5,iI (G:Int)),(6,pp aW 0),(7,pp aY 0)])∧SR K Z wi w [] [.box (zz wi) (zz wi) #[sl aG af c1] 24,.box (zz wi) (zz aH) #[sl aw Y ax] 24,.box (zz wi) aW (vF aN aJ X aK aP aQ aR a9 aX ba).toArray 38,.box (zz wi) aY (vF aS aZ av a2 aT aU aV bb a3 bd).toArray 38]∧aN.size ≤ mB∧tP Z aJ aK X∧tS Z a9 ba aX∧aS.size ≤ mB∧tP Z aZ a2 av∧tS Z bb bd a3∧f17_j1 k G aN X aP aQ aR aX aS av aT aU aV a3 (f17_l1 k Y aM)=some r_) ?_ ?_)))))))))))))
    ·have ak:=bJ.drew
     refine regAny (E:=[12,13]) (F:=FW Z [.box (zz wi) (zz wi) #[sl aG af c1] 24,.box (zz wi) (zz aH) #[sl aw Y ax] 24]) (L:=(lb 14 0)) ymx rfl rfl (tk 0 (pp (zz wi) 0) (lb 14 1) rfl (fun w=>fld_r (o':=0) Tyf24_0 rfl rfl) (heldF (fq [0,1] ak)) (tf 1 (sl aG af c1) ([[12,1],[13,1]]) (lb 14 3) rfl (fq [0,1] ak) (fun w hF=>lb1_r (i:=0) (v:=sl aG af c1) hF rfl Tya22 rfl rfl) (tk 2 (iI (G:Int)) (lb 14 7) rfl (fun w=>mv_r (v:=iI (G:Int)) rfl) (heldF (fq [0,1] ak)) ?_)))
     obtain ⟨cb,cc,c8,cz,c9,cA,cB⟩:=((mf b7 aI)).row.at_ (drop_cons_at bv)
     obtain ⟨x,y,z,A,rfl,ac,ad,ae⟩:=RDFunc.open cB
     refine tk 3 (pp cb (cc + G * 6)) (lb 14 15) rfl (fun w=>idxN_r (b:=cb) (o:=cc) (i:=G) Tye22 Tys38 rfl cz rfl (drop_cons_lt bv)) (heldF (fq [0,1] ak)) (tf 4 (.agg (vF m x p y q s t z u A).toArray) ([[12,4],[13,4]]) (lb 14 31) rfl (fq [0,1] ak) (fun w hF=>ldN_r (cs:=(vF m x p y q s t z u A)) Tya38 Tys38 rfl rfl (fun j v hj=>hF.cell (kr.cell (cA j v hj)))) (tk 5 (pp (zz aH) 0) (lb 14 63) rfl (fun w=>fld_r (o':=0) Tyf24_0 rfl rfl) (heldF (fq [0,1] ak)) (tk 7 (iI (G:Int)) (lb 14 191) rfl (fun w=>mv_r (v:=iI (G:Int)) rfl) (heldF (fq [0,1] ak)) (anyAll (rs:=[6,10,11]) (by kernel_rfl) (by decide) (allC ?_ (allC ?_ (allC ?_ allN)))))))
     ·refine opL (i:=6) rfl (l1 1 (sl aw Y ax) ak Tya22 (wt ⟨heldF (fq [0,1] ak),?_⟩))
      obtain ⟨⟨c,d,e,f,g,l⟩,bR,h⟩:=ob h
      obtain ⟨ce,cf,da,cC,db,bj,cD⟩:=((mf bi aI)).row.at_ (idxO_at bR).1
      obtain ⟨I,J,N,O,rfl,be,bf,bg⟩:=RDFunc.open cD
      refine tk 8 (.pointer (some ⟨ce,cf + (G:Int).toNat * 6,none⟩)) (lb 14 511) rfl (fun w=>idxG_r (b:=ce) (o:=cf) (i:=(G:Int)) Tye22 Tys38 rfl cC rfl (idxO_at bR).2.1 (idxO_at bR).2.2) (heldF (fq [0,1] ak)) (anyAll (rs:=[9,10,11]) (by kernel_rfl) (by decide) (allC ?_ (allC ?_ (allC ?_ allN))))
      ·refine opL (i:=9) rfl (lD (vF c I d J e f g N l O) Tya38 Tys38 rfl (fun j v hj=>ak.cell (kr.cell (bj j v hj))) (wt ⟨heldF (fq [0,1] ak),anyAll (rs:=[10,11]) (by kernel_rfl) (by decide) (allC ?_ (allC ?_ allN))⟩))
       ·exact opL (i:=10) rfl (aC zF.toArray ak Tyz38 (fun aL am=>(wt ⟨heldF (fq [1,2] am),aO 11 rfl (aC zF.toArray am Tyz38 (fun a4 B=>(wt ⟨heldF (fq [2,3] B),aO 12 rfl (sI 1 (.agg (vF m x p y q s t z u A).toArray) ((vF m x p y q s t z u A).toArray) B Tys38 rfl rfl (fun an C=>(wt ⟨heldE (i:=12) rfl rfl,aO 13 rfl (sI 0 (.agg (vF c I d J e f g N l O).toArray) ((vF c I d J e f g N l O).toArray) C Tys38 rfl rfl (fun ag D=>(wt ⟨heldE (i:=13) rfl rfl,aD (thenN (⟨_,(zz ab.drew),m,p,x,y,q,s,t,u,z,A,(zz aL),c,d,I,J,e,f,g,l,N,O,fR,(D.sel [2,3,1,0]),ac,ad,ae,be,bf,bg,h⟩))⟩)))⟩)))⟩)))⟩)))
       ·exact opL (i:=11) rfl (aC zF.toArray ak Tyz38 (fun aL am=>(wt ⟨heldF (fq [1,2] am),aO 10 rfl (aC zF.toArray am Tyz38 (fun a4 B=>(wt ⟨heldF (fq [2,3] B),aO 12 rfl (sI 0 (.agg (vF m x p y q s t z u A).toArray) ((vF m x p y q s t z u A).toArray) B Tys38 rfl rfl (fun an C=>(wt ⟨heldE (i:=12) rfl rfl,aO 13 rfl (sI 1 (.agg (vF c I d J e f g N l O).toArray) ((vF c I d J e f g N l O).toArray) C Tys38 rfl rfl (fun ag D=>(wt ⟨heldE (i:=13) rfl rfl,aD (thenN (⟨_,(zz aL),m,p,x,y,q,s,t,u,z,A,(zz ab.drew),c,d,I,J,e,f,g,l,N,O,fR,(D.sel [2,3,0,1]),ac,ad,ae,be,bf,bg,h⟩))⟩)))⟩)))⟩)))⟩)))
      ·refine opL (i:=10) rfl (aC zF.toArray ak Tyz38 (fun aL am=>(wt ⟨heldF (fq [1,2] am),anyAll (rs:=[9,11]) (by kernel_rfl) (by decide) (allC ?_ (allC ?_ allN))⟩)))
       ·exact opL (i:=9) rfl (lD (vF c I d J e f g N l O) Tya38 Tys38 rfl (fun j v hj=>am.cell (kr.cell (bj j v hj))) (wt ⟨heldF (fq [1,2] am),aO 11 rfl (aC zF.toArray am Tyz38 (fun a4 B=>(wt ⟨heldF (fq [2,3] B),aO 12 rfl (sI 1 (.agg (vF m x p y q s t z u A).toArray) ((vF m x p y q s t z u A).toArray) B Tys38 rfl rfl (fun an C=>(wt ⟨heldE (i:=12) rfl rfl,aO 13 rfl (sI 0 (.agg (vF c I d J e f g N l O).toArray) ((vF c I d J e f g N l O).toArray) C Tys38 rfl rfl (fun ag D=>(wt ⟨heldE (i:=13) rfl rfl,aD (thenN (⟨_,(zz ab.drew),m,p,x,y,q,s,t,u,z,A,(zz aL),c,d,I,J,e,f,g,l,N,O,fR,(D.sel [2,3,1,0]),ac,ad,ae,be,bf,bg,h⟩))⟩)))⟩)))⟩)))⟩))
       ·refine opL (i:=11) rfl (aC zF.toArray am Tyz38 (fun a4 B=>(wt ⟨heldF (fq [2,3] B),anyAll (rs:=[9,12]) (by kernel_rfl) (by decide) (allC ?_ (allC ?_ allN))⟩)))
        ·exact opL (i:=9) rfl (lD (vF c I d J e f g N l O) Tya38 Tys38 rfl (fun j v hj=>B.cell (kr.cell (bj j v hj))) (wt ⟨heldF (fq [2,3] B),aO 12 rfl (sI 1 (.agg (vF m x p y q s t z u A).toArray) ((vF m x p y q s t z u A).toArray) B Tys38 rfl rfl (fun an C=>(wt ⟨heldE (i:=12) rfl rfl,aO 13 rfl (sI 0 (.agg (vF c I d J e f g N l O).toArray) ((vF c I d J e f g N l O).toArray) C Tys38 rfl rfl (fun ag D=>(wt ⟨heldE (i:=13) rfl rfl,aD (thenN (⟨_,(zz ab.drew),m,p,x,y,q,s,t,u,z,A,(zz aL),c,d,I,J,e,f,g,l,N,O,fR,(D.sel [2,3,1,0]),ac,ad,ae,be,bf,bg,h⟩))⟩)))⟩)))⟩))
        ·exact opL (i:=12) rfl (sI 1 (.agg (vF m x p y q s t z u A).toArray) ((vF m x p y q s t z u A).toArray) B Tys38 rfl rfl (fun an C=>(wt ⟨heldE (i:=12) rfl rfl,aO 9 rfl (lD (vF c I d J e f g N l O) Tya38 Tys38 rfl (fun j v hj=>C.cell (kr.cell (bj j v hj))) (wt ⟨heldE (i:=12) rfl rfl,aO 13 rfl (sI 0 (.agg (vF c I d J e f g N l O).toArray) ((vF c I d J e f g N l O).toArray) C Tys38 rfl rfl (fun ag D=>(wt ⟨heldE (i:=13) rfl rfl,aD (thenN (⟨_,(zz ab.drew),m,p,x,y,q,s,t,u,z,A,(zz aL),c,d,I,J,e,f,g,l,N,O,fR,(D.sel [2,3,1,0]),ac,ad,ae,be,bf,bg,h⟩))⟩)))⟩))⟩)))
      ·refine opL (i:=11) rfl (aC zF.toArray ak Tyz38 (fun aL am=>(wt ⟨heldF (fq [1,2] am),anyAll (rs:=[9,10]) (by kernel_rfl) (by decide) (allC ?_ (allC ?_ allN))⟩)))
       ·exact opL (i:=9) rfl (lD (vF c I d J e f g N l O) Tya38 Tys38 rfl (fun j v hj=>am.cell (kr.cell (bj j v hj))) (wt ⟨heldF (fq [1,2] am),aO 10 rfl (aC zF.toArray am Tyz38 (fun a4 B=>(wt ⟨heldF (fq [2,3] B),aO 12 rfl (sI 0 (.agg (vF m x p y q s t z u A).toArray) ((vF m x p y q s t z u A).toArray) B Tys38 rfl rfl (fun an C=>(wt ⟨heldE (i:=12) rfl rfl,aO 13 rfl (sI 1 (.agg (vF c I d J e f g N l O).toArray) ((vF c I d J e f g N l O).toArray) C Tys38 rfl rfl (fun ag D=>(wt ⟨heldE (i:=13) rfl rfl,aD (thenN (⟨_,(zz aL),m,p,x,y,q,s,t,u,z,A,(zz ab.drew),c,d,I,J,e,f,g,l,N,O,fR,(D.sel [2,3,0,1]),ac,ad,ae,be,bf,bg,h⟩))⟩)))⟩)))⟩)))⟩))
       ·refine opL (i:=10) rfl (aC zF.toArray am Tyz38 (fun a4 B=>(wt ⟨heldF (fq [2,3] B),anyAll (rs:=[9,12]) (by kernel_rfl) (by decide) (allC ?_ (allC ?_ allN))⟩)))
        ·exact opL (i:=9) rfl (lD (vF c I d J e f g N l O) Tya38 Tys38 rfl (fun j v hj=>B.cell (kr.cell (bj j v hj))) (wt ⟨heldF (fq [2,3] B),aO 12 rfl (sI 0 (.agg (vF m x p y q s t z u A).toArray) ((vF m x p y q s t z u A).toArray) B Tys38 rfl rfl (fun an C=>(wt ⟨heldE (i:=12) rfl rfl,aO 13 rfl (sI 1 (.agg (vF c I d J e f g N l O).toArray) ((vF c I d J e f g N l O).toArray) C Tys38 rfl rfl (fun ag D=>(wt ⟨heldE (i:=13) rfl rfl,aD (thenN (⟨_,(zz aL),m,p,x,y,q,s,t,u,z,A,(zz ab.drew),c,d,I,J,e,f,g,l,N,O,fR,(D.sel [2,3,0,1]),ac,ad,ae,be,bf,bg,h⟩))⟩)))⟩)))⟩))
        ·exact opL (i:=12) rfl (sI 0 (.agg (vF m x p y q s t z u A).toArray) ((vF m x p y q s t z u A).toArray) B Tys38 rfl rfl (fun an C=>(wt ⟨heldE (i:=12) rfl rfl,aO 9 rfl (lD (vF c I d J e f g N l O) Tya38 Tys38 rfl (fun j v hj=>C.cell (kr.cell (bj j v hj))) (wt ⟨heldE (i:=12) rfl rfl,aO 13 rfl (sI 1 (.agg (vF c I d J e f g N l O).toArray) ((vF c I d J e f g N l O).toArray) C Tys38 rfl rfl (fun ag D=>(wt ⟨heldE (i:=13) rfl rfl,aD (thenN (⟨_,(zz aL),m,p,x,y,q,s,t,u,z,A,(zz ab.drew),c,d,I,J,e,f,g,l,N,O,fR,(D.sel [2,3,0,1]),ac,ad,ae,be,bf,bg,h⟩))⟩)))⟩))⟩)))
     ·refine opL (i:=10) rfl (aC zF.toArray ak Tyz38 (fun az ah=>(wt ⟨heldF (fq [1,2] ah),anyAll (rs:=[6,11]) (by kernel_rfl) (by decide) (allC ?_ (allC ?_ allN))⟩)))
      ·refine opL (i:=6) rfl (l1 2 (sl aw Y ax) ah Tya22 (wt ⟨heldF (fq [1,2] ah),?_⟩))
       obtain ⟨⟨c,d,e,f,g,l⟩,bk,h⟩:=ob h
       obtain ⟨bx,bz,cG,bS,cH,bm,bT⟩:=((mf bi aI)).row.at_ (idxO_at bk).1
       obtain ⟨S,U,V,W,rfl,bn,bo,bp⟩:=RDFunc.open bT
       refine tk 8 (.pointer (some ⟨bx,bz + (G:Int).toNat * 6,none⟩)) (lb 14 1535) rfl (fun w=>idxG_r (b:=bx) (o:=bz) (i:=(G:Int)) Tye22 Tys38 rfl bS rfl (idxO_at bk).2.1 (idxO_at bk).2.2) (heldF (fq [1,2] ah)) (anyAll (rs:=[9,11]) (by kernel_rfl) (by decide) (allC ?_ (allC ?_ allN)))
       ·exact opL (i:=9) rfl (lD (vF c S d U e f g V l W) Tya38 Tys38 rfl (fun j v hj=>ah.cell (kr.cell (bm j v hj))) (wt ⟨heldF (fq [1,2] ah),aO 11 rfl (aC zF.toArray ah Tyz38 (fun a4 B=>(wt ⟨heldF (fq [2,3] B),aO 12 rfl (sI 1 (.agg (vF m x p y q s t z u A).toArray) ((vF m x p y q s t z u A).toArray) B Tys38 rfl rfl (fun an C=>(wt ⟨heldE (i:=12) rfl rfl,aO 13 rfl (sI 0 (.agg (vF c S d U e f g V l W).toArray) ((vF c S d U e f g V l W).toArray) C Tys38 rfl rfl (fun ag D=>(wt ⟨heldE (i:=13) rfl rfl,aD (thenN (⟨_,(zz ab.drew),m,p,x,y,q,s,t,u,z,A,(zz az),c,d,S,U,e,f,g,l,V,W,fR,(D.sel [2,3,1,0]),ac,ad,ae,bn,bo,bp,h⟩))⟩)))⟩)))⟩)))⟩))
       ·refine opL (i:=11) rfl (aC zF.toArray ah Tyz38 (fun a4 B=>(wt ⟨heldF (fq [2,3] B),anyAll (rs:=[9,12]) (by kernel_rfl) (by decide) (allC ?_ (allC ?_ allN))⟩)))
        ·exact opL (i:=9) rfl (lD (vF c S d U e f g V l W) Tya38 Tys38 rfl (fun j v hj=>B.cell (kr.cell (bm j v hj))) (wt ⟨heldF (fq [2,3] B),aO 12 rfl (sI 1 (.agg (vF m x p y q s t z u A).toArray) ((vF m x p y q s t z u A).toArray) B Tys38 rfl rfl (fun an C=>(wt ⟨heldE (i:=12) rfl rfl,aO 13 rfl (sI 0 (.agg (vF c S d U e f g V l W).toArray) ((vF c S d U e f g V l W).toArray) C Tys38 rfl rfl (fun ag D=>(wt ⟨heldE (i:=13) rfl rfl,aD (thenN (⟨_,(zz ab.drew),m,p,x,y,q,s,t,u,z,A,(zz az),c,d,S,U,e,f,g,l,V,W,fR,(D.sel [2,3,1,0]),ac,ad,ae,bn,bo,bp,h⟩))⟩)))⟩)))⟩))
        ·exact opL (i:=12) rfl (sI 1 (.agg (vF m x p y q s t z u A).toArray) ((vF m x p y q s t z u A).toArray) B Tys38 rfl rfl (fun an C=>(wt ⟨heldE (i:=12) rfl rfl,aO 9 rfl (lD (vF c S d U e f g V l W) Tya38 Tys38 rfl (fun j v hj=>C.cell (kr.cell (bm j v hj))) (wt ⟨heldE (i:=12) rfl rfl,aO 13 rfl (sI 0 (.agg (vF c S d U e f g V l W).toArray) ((vF c S d U e f g V l W).toArray) C Tys38 rfl rfl (fun ag D=>(wt ⟨heldE (i:=13) rfl rfl,aD (thenN (⟨_,(zz ab.drew),m,p,x,y,q,s,t,u,z,A,(zz az),c,d,S,U,e,f,g,l,V,W,fR,(D.sel [2,3,1,0]),ac,ad,ae,bn,bo,bp,h⟩))⟩)))⟩))⟩)))
      ·refine opL (i:=11) rfl (aC zF.toArray ah Tyz38 (fun cI ai=>(wt ⟨heldF (fq [2,3] ai),anyAll (rs:=[6,12]) (by kernel_rfl) (by decide) (allC ?_ (allC ?_ allN))⟩)))
       ·refine opL (i:=6) rfl (l1 3 (sl aw Y ax) ai Tya22 (wt ⟨heldF (fq [2,3] ai),?_⟩))
        obtain ⟨⟨c,d,e,f,g,l⟩,bq,h⟩:=ob h
        obtain ⟨bA,bB,cJ,bU,cK,bC,bV⟩:=((mf bi aI)).row.at_ (idxO_at bq).1
        obtain ⟨ao,ap,aq,ar,rfl,bD,bE,bF⟩:=RDFunc.open bV
        refine tk 8 (.pointer (some ⟨bA,bB + (G:Int).toNat * 6,none⟩)) (lb 14 3583) rfl (fun w=>idxG_r (b:=bA) (o:=bB) (i:=(G:Int)) Tye22 Tys38 rfl bU rfl (idxO_at bq).2.1 (idxO_at bq).2.2) (heldF (fq [2,3] ai)) (anyAll (rs:=[9,12]) (by kernel_rfl) (by decide) (allC ?_ (allC ?_ allN)))
        ·exact opL (i:=9) rfl (lD (vF c ao d ap e f g aq l ar) Tya38 Tys38 rfl (fun j v hj=>ai.cell (kr.cell (bC j v hj))) (wt ⟨heldF (fq [2,3] ai),aO 12 rfl (sI 1 (.agg (vF m x p y q s t z u A).toArray) ((vF m x p y q s t z u A).toArray) ai Tys38 rfl rfl (fun an C=>(wt ⟨heldE (i:=12) rfl rfl,aO 13 rfl (sI 0 (.agg (vF c ao d ap e f g aq l ar).toArray) ((vF c ao d ap e f g aq l ar).toArray) C Tys38 rfl rfl (fun ag D=>(wt ⟨heldE (i:=13) rfl rfl,aD (thenN (⟨_,(zz ab.drew),m,p,x,y,q,s,t,u,z,A,(zz az),c,d,ao,ap,e,f,g,l,aq,ar,fR,(D.sel [2,3,1,0]),ac,ad,ae,bD,bE,bF,h⟩))⟩)))⟩)))⟩))
        ·exact opL (i:=12) rfl (sI 1 (.agg (vF m x p y q s t z u A).toArray) ((vF m x p y q s t z u A).toArray) ai Tys38 rfl rfl (fun an C=>(wt ⟨heldE (i:=12) rfl rfl,aO 9 rfl (lD (vF c ao d ap e f g aq l ar) Tya38 Tys38 rfl (fun j v hj=>C.cell (kr.cell (bC j v hj))) (wt ⟨heldE (i:=12) rfl rfl,aO 13 rfl (sI 0 (.agg (vF c ao d ap e f g aq l ar).toArray) ((vF c ao d ap e f g aq l ar).toArray) C Tys38 rfl rfl (fun ag D=>(wt ⟨heldE (i:=13) rfl rfl,aD (thenN (⟨_,(zz ab.drew),m,p,x,y,q,s,t,u,z,A,(zz az),c,d,ao,ap,e,f,g,l,aq,ar,fR,(D.sel [2,3,1,0]),ac,ad,ae,bD,bE,bF,h⟩))⟩)))⟩))⟩)))
       ·refine opL (i:=12) rfl (sI 1 (.agg (vF m x p y q s t z u A).toArray) ((vF m x p y q s t z u A).toArray) ai Tys38 rfl rfl (fun cL br=>(wt ⟨heldE (i:=12) rfl rfl,aO 6 rfl (l1 3 (sl aw Y ax) br Tya22 (wt ⟨heldE (i:=12) rfl rfl,?_⟩))⟩)))
        obtain ⟨⟨c,d,e,f,g,l⟩,bs,h⟩:=ob h
        obtain ⟨bG,bH,cM,bW,cN,bX,bY⟩:=((mf bi aI)).row.at_ (idxO_at bs).1
        obtain ⟨a5,a6,a7,a8,rfl,bZ,b0,b1⟩:=RDFunc.open bY
        exact tk 8 (.pointer (some ⟨bG,bH + (G:Int).toNat * 6,none⟩)) (lb 14 7679) rfl (fun w=>idxG_r (b:=bG) (o:=bH) (i:=(G:Int)) Tye22 Tys38 rfl bW rfl (idxO_at bs).2.1 (idxO_at bs).2.2) (heldE (i:=12) rfl rfl) (aO 9 rfl (lD (vF c a5 d a6 e f g a7 l a8) Tya38 Tys38 rfl (fun j v hj=>br.cell (kr.cell (bX j v hj))) (wt ⟨heldE (i:=12) rfl rfl,aO 13 rfl (sI 0 (.agg (vF c a5 d a6 e f g a7 l a8).toArray) ((vF c a5 d a6 e f g a7 l a8).toArray) br Tys38 rfl rfl (fun ag D=>(wt ⟨heldE (i:=13) rfl rfl,aD (thenN (⟨_,(zz ab.drew),m,p,x,y,q,s,t,u,z,A,(zz az),c,d,a5,a6,e,f,g,l,a7,a8,fR,(D.sel [2,3,1,0]),ac,ad,ae,bZ,b0,b1,h⟩))⟩)))⟩)))
     ·refine opL (i:=11) rfl (aC zF.toArray ak Tyz38 (fun az ah=>(wt ⟨heldF (fq [1,2] ah),anyAll (rs:=[6,10]) (by kernel_rfl) (by decide) (allC ?_ (allC ?_ allN))⟩)))
      ·refine opL (i:=6) rfl (l1 2 (sl aw Y ax) ah Tya22 (wt ⟨heldF (fq [1,2] ah),?_⟩))
       obtain ⟨⟨c,d,e,f,g,l⟩,bk,h⟩:=ob h
       obtain ⟨bx,bz,cG,bS,cH,bm,bT⟩:=((mf bi aI)).row.at_ (idxO_at bk).1
       obtain ⟨S,U,V,W,rfl,bn,bo,bp⟩:=RDFunc.open bT
       refine tk 8 (.pointer (some ⟨bx,bz + (G:Int).toNat * 6,none⟩)) (lb 14 2559) rfl (fun w=>idxG_r (b:=bx) (o:=bz) (i:=(G:Int)) Tye22 Tys38 rfl bS rfl (idxO_at bk).2.1 (idxO_at bk).2.2) (heldF (fq [1,2] ah)) (anyAll (rs:=[9,10]) (by kernel_rfl) (by decide) (allC ?_ (allC ?_ allN)))
       ·exact opL (i:=9) rfl (lD (vF c S d U e f g V l W) Tya38 Tys38 rfl (fun j v hj=>ah.cell (kr.cell (bm j v hj))) (wt ⟨heldF (fq [1,2] ah),aO 10 rfl (aC zF.toArray ah Tyz38 (fun a4 B=>(wt ⟨heldF (fq [2,3] B),aO 12 rfl (sI 0 (.agg (vF m x p y q s t z u A).toArray) ((vF m x p y q s t z u A).toArray) B Tys38 rfl rfl (fun an C=>(wt ⟨heldE (i:=12) rfl rfl,aO 13 rfl (sI 1 (.agg (vF c S d U e f g V l W).toArray) ((vF c S d U e f g V l W).toArray) C Tys38 rfl rfl (fun ag D=>(wt ⟨heldE (i:=13) rfl rfl,aD (thenN (⟨_,(zz az),m,p,x,y,q,s,t,u,z,A,(zz ab.drew),c,d,S,U,e,f,g,l,V,W,fR,(D.sel [2,3,0,1]),ac,ad,ae,bn,bo,bp,h⟩))⟩)))⟩)))⟩)))⟩))
       ·refine opL (i:=10) rfl (aC zF.toArray ah Tyz38 (fun a4 B=>(wt ⟨heldF (fq [2,3] B),anyAll (rs:=[9,12]) (by kernel_rfl) (by decide) (allC ?_ (allC ?_ allN))⟩)))
        ·exact opL (i:=9) rfl (lD (vF c S d U e f g V l W) Tya38 Tys38 rfl (fun j v hj=>B.cell (kr.cell (bm j v hj))) (wt ⟨heldF (fq [2,3] B),aO 12 rfl (sI 0 (.agg (vF m x p y q s t z u A).toArray) ((vF m x p y q s t z u A).toArray) B Tys38 rfl rfl (fun an C=>(wt ⟨heldE (i:=12) rfl rfl,aO 13 rfl (sI 1 (.agg (vF c S d U e f g V l W).toArray) ((vF c S d U e f g V l W).toArray) C Tys38 rfl rfl (fun ag D=>(wt ⟨heldE (i:=13) rfl rfl,aD (thenN (⟨_,(zz az),m,p,x,y,q,s,t,u,z,A,(zz ab.drew),c,d,S,U,e,f,g,l,V,W,fR,(D.sel [2,3,0,1]),ac,ad,ae,bn,bo,bp,h⟩))⟩)))⟩)))⟩))
        ·exact opL (i:=12) rfl (sI 0 (.agg (vF m x p y q s t z u A).toArray) ((vF m x p y q s t z u A).toArray) B Tys38 rfl rfl (fun an C=>(wt ⟨heldE (i:=12) rfl rfl,aO 9 rfl (lD (vF c S d U e f g V l W) Tya38 Tys38 rfl (fun j v hj=>C.cell (kr.cell (bm j v hj))) (wt ⟨heldE (i:=12) rfl rfl,aO 13 rfl (sI 1 (.agg (vF c S d U e f g V l W).toArray) ((vF c S d U e f g V l W).toArray) C Tys38 rfl rfl (fun ag D=>(wt ⟨heldE (i:=13) rfl rfl,aD (thenN (⟨_,(zz az),m,p,x,y,q,s,t,u,z,A,(zz ab.drew),c,d,S,U,e,f,g,l,V,W,fR,(D.sel [2,3,0,1]),ac,ad,ae,bn,bo,bp,h⟩))⟩)))⟩))⟩)))
      ·refine opL (i:=10) rfl (aC zF.toArray ah Tyz38 (fun cI ai=>(wt ⟨heldF (fq [2,3] ai),anyAll (rs:=[6,12]) (by kernel_rfl) (by decide) (allC ?_ (allC ?_ allN))⟩)))
       ·refine opL (i:=6) rfl (l1 3 (sl aw Y ax) ai Tya22 (wt ⟨heldF (fq [2,3] ai),?_⟩))
        obtain ⟨⟨c,d,e,f,g,l⟩,bq,h⟩:=ob h
        obtain ⟨bA,bB,cJ,bU,cK,bC,bV⟩:=((mf bi aI)).row.at_ (idxO_at bq).1
        obtain ⟨ao,ap,aq,ar,rfl,bD,bE,bF⟩:=RDFunc.open bV
        refine tk 8 (.pointer (some ⟨bA,bB + (G:Int).toNat * 6,none⟩)) (lb 14 3583) rfl (fun w=>idxG_r (b:=bA) (o:=bB) (i:=(G:Int)) Tye22 Tys38 rfl bU rfl (idxO_at bq).2.1 (idxO_at bq).2.2) (heldF (fq [2,3] ai)) (anyAll (rs:=[9,12]) (by kernel_rfl) (by decide) (allC ?_ (allC ?_ allN)))
        ·exact opL (i:=9) rfl (lD (vF c ao d ap e f g aq l ar) Tya38 Tys38 rfl (fun j v hj=>ai.cell (kr.cell (bC j v hj))) (wt ⟨heldF (fq [2,3] ai),aO 12 rfl (sI 0 (.agg (vF m x p y q s t z u A).toArray) ((vF m x p y q s t z u A).toArray) ai Tys38 rfl rfl (fun an C=>(wt ⟨heldE (i:=12) rfl rfl,aO 13 rfl (sI 1 (.agg (vF c ao d ap e f g aq l ar).toArray) ((vF c ao d ap e f g aq l ar).toArray) C Tys38 rfl rfl (fun ag D=>(wt ⟨heldE (i:=13) rfl rfl,aD (thenN (⟨_,(zz az),m,p,x,y,q,s,t,u,z,A,(zz ab.drew),c,d,ao,ap,e,f,g,l,aq,ar,fR,(D.sel [2,3,0,1]),ac,ad,ae,bD,bE,bF,h⟩))⟩)))⟩)))⟩))
        ·exact opL (i:=12) rfl (sI 0 (.agg (vF m x p y q s t z u A).toArray) ((vF m x p y q s t z u A).toArray) ai Tys38 rfl rfl (fun an C=>(wt ⟨heldE (i:=12) rfl rfl,aO 9 rfl (lD (vF c ao d ap e f g aq l ar) Tya38 Tys38 rfl (fun j v hj=>C.cell (kr.cell (bC j v hj))) (wt ⟨heldE (i:=12) rfl rfl,aO 13 rfl (sI 1 (.agg (vF c ao d ap e f g aq l ar).toArray) ((vF c ao d ap e f g aq l ar).toArray) C Tys38 rfl rfl (fun ag D=>(wt ⟨heldE (i:=13) rfl rfl,aD (thenN (⟨_,(zz az),m,p,x,y,q,s,t,u,z,A,(zz ab.drew),c,d,ao,ap,e,f,g,l,aq,ar,fR,(D.sel [2,3,0,1]),ac,ad,ae,bD,bE,bF,h⟩))⟩)))⟩))⟩)))
       ·refine opL (i:=12) rfl (sI 0 (.agg (vF m x p y q s t z u A).toArray) ((vF m x p y q s t z u A).toArray) ai Tys38 rfl rfl (fun cL br=>(wt ⟨heldE (i:=12) rfl rfl,aO 6 rfl (l1 3 (sl aw Y ax) br Tya22 (wt ⟨heldE (i:=12) rfl rfl,?_⟩))⟩)))
        obtain ⟨⟨c,d,e,f,g,l⟩,bs,h⟩:=ob h
        obtain ⟨bG,bH,cM,bW,cN,bX,bY⟩:=((mf bi aI)).row.at_ (idxO_at bs).1
        obtain ⟨a5,a6,a7,a8,rfl,bZ,b0,b1⟩:=RDFunc.open bY
        exact tk 8 (.pointer (some ⟨bG,bH + (G:Int).toNat * 6,none⟩)) (lb 14 7679) rfl (fun w=>idxG_r (b:=bG) (o:=bH) (i:=(G:Int)) Tye22 Tys38 rfl bW rfl (idxO_at bs).2.1 (idxO_at bs).2.2) (heldE (i:=12) rfl rfl) (aO 9 rfl (lD (vF c a5 d a6 e f g a7 l a8) Tya38 Tys38 rfl (fun j v hj=>br.cell (kr.cell (bX j v hj))) (wt ⟨heldE (i:=12) rfl rfl,aO 13 rfl (sI 1 (.agg (vF c a5 d a6 e f g a7 l a8).toArray) ((vF c a5 d a6 e f g a7 l a8).toArray) br Tys38 rfl rfl (fun ag D=>(wt ⟨heldE (i:=13) rfl rfl,aD (thenN (⟨_,(zz az),m,p,x,y,q,s,t,u,z,A,(zz ab.drew),c,d,a5,a6,e,f,g,l,a7,a8,fR,(D.sel [2,3,0,1]),ac,ad,ae,bZ,b0,b1,h⟩))⟩)))⟩)))
    ·rintro _ dc ⟨b9,aW,aN,X,aJ,aK,aP,aQ,aR,aX,a9,ba,aY,aS,av,aZ,a2,aT,aU,aV,a3,bb,bd,rfl,aj,dd,ch,cO,de,cP,cQ,h⟩
     unfold f17_j1 at h
     refine wp_seq (wp_cut (fun a w=>∃ ci bh b2,a=fr 94 (updL ci [(2,pp (zz wi) 0),(3,pp (zz aH) 0),(5,iI (G:Int)),(6,pp aW 0),(7,pp aY 0),(75,.bool b2)])∧KH.sub Z bh∧SR K bh wi w [] [.box (zz wi) (zz wi) #[sl aG af c1] 24,.box (zz wi) (zz aH) #[sl aw Y ax] 24,.box (zz wi) aW (vF aN aJ X aK aP aQ aR a9 aX ba).toArray 38,.box (zz wi) aY (vF aS aZ av a2 aT aU aV bb a3 bd).toArray 38]∧f17_j2 k G X av b2 (f17_l1 k Y aM)=some r_) ?_ ?_)
     ·refine wp_region_lit (fd 0 Tyf38_0 rfl (l1 2 (.string aN) aj Tya9 (fd 0 Tyf38_0 rfl (l1 3 (.string aS) aj Tya9 (bsc (r:=(!seq aN aS)) rfl rfl rfl (m1 (.bool (!seq aN aS)) (cd h (fun au h=>?_) (fun au h=>?_))))))))
      ·exact o1 38 au (o1 38 au (o1 38 au (o1 38 au (o1 38 au (o1 38 au (o1 38 au (m3 true vT (cg au) (m1 vT (o0 47 (o0 47 (o0 47 (o0 47 (o0 47 (m3 true vT rfl (m1 vT (o0 54 (o0 54 (o0 54 (o0 54 (o0 54 (m3 true vT rfl (m1 vT (o0 61 (o0 61 (o0 61 (o0 61 (o0 61 (m3 true vT rfl (m1 vT (o0 68 (o0 68 (o0 68 (o0 68 (o0 68 (o0 68 (m3 true vT rfl (wt (⟨_,Z,true,fR,kr,aj,h⟩))))))))))))))))))))))))))))))))))))))
      ·refine n1 38 au (fd 1 Tyf38_1 rfl (n1 38 au (l1 2 (sl aJ X aK) aj Tya35 (n1 38 au (lS X.length Tye35 (n1 38 au (fd 1 Tyf38_1 rfl (n1 38 au (l1 3 (sl aZ av a2) aj Tya35 (n1 38 au (lS av.length Tye35 (n1 38 au (c0 ((X.length:Int) != (av.length:Int)) (m3 false (.bool ((X.length:Int) != (av.length:Int))) (cg au) (m1 (.bool ((X.length:Int) != (av.length:Int))) (cd h (fun aA h=>?_) (fun aA h=>?_)))))))))))))))))
       ·exact o1 47 aA (o1 47 aA (o1 47 aA (o1 47 aA (o1 47 aA (m3 true vT (cg aA) (m1 vT (o0 54 (o0 54 (o0 54 (o0 54 (o0 54 (m3 true vT rfl (m1 vT (o0 61 (o0 61 (o0 61 (o0 61 (o0 61 (m3 true vT rfl (m1 vT (o0 68 (o0 68 (o0 68 (o0 68 (o0 68 (o0 68 (m3 true vT rfl (wt (⟨_,Z,true,fR,kr,aj,h⟩)))))))))))))))))))))))))))))
       ·refine n1 47 aA (fd 2 Tyf38_2 rfl (n1 47 aA (l1 2 (iI aP) aj Tya3 (n1 47 aA (fd 2 Tyf38_2 rfl (n1 47 aA (l1 3 (iI aT) aj Tya3 (n1 47 aA (c0 (aP != aT) (m3 false (.bool (aP != aT)) (cg aA) (m1 (.bool (aP != aT)) (cd h (fun aB h=>?_) (fun aB h=>?_)))))))))))))
        ·exact o1 54 aB (o1 54 aB (o1 54 aB (o1 54 aB (o1 54 aB (m3 true vT (cg aB) (m1 vT (o0 61 (o0 61 (o0 61 (o0 61 (o0 61 (m3 true vT rfl (m1 vT (o0 68 (o0 68 (o0 68 (o0 68 (o0 68 (o0 68 (m3 true vT rfl (wt (⟨_,Z,true,fR,kr,aj,h⟩))))))))))))))))))))))
        ·refine n1 54 aB (fd 3 Tyf38_3 rfl (n1 54 aB (l1 2 (.bool aQ) aj Tya4 (n1 54 aB (fd 3 Tyf38_3 rfl (n1 54 aB (l1 3 (.bool aU) aj Tya4 (n1 54 aB (bbo (r:=(!(aQ == aU))) Tyo4 rfl rfl rfl (m3 false (.bool (!(aQ == aU))) (cg aB) (m1 (.bool (!(aQ == aU))) (cd h (fun aE h=>?_) (fun aE h=>?_)))))))))))))
         ·exact o1 61 aE (o1 61 aE (o1 61 aE (o1 61 aE (o1 61 aE (m3 true vT (cg aE) (m1 vT (o0 68 (o0 68 (o0 68 (o0 68 (o0 68 (o0 68 (m3 true vT rfl (wt (⟨_,Z,true,fR,kr,aj,h⟩)))))))))))))))
         ·refine n1 61 aE (fd 4 Tyf38_4 rfl (n1 61 aE (l1 2 (iI aR) aj Tya3 (n1 61 aE (fd 4 Tyf38_4 rfl (n1 61 aE (l1 3 (iI aV) aj Tya3 (n1 61 aE (c0 (aR != aV) (m3 false (.bool (aR != aV)) (cg aE) (m1 (.bool (aR != aV)) (cd h (fun ay h=>?_) (fun ay h=>?_)))))))))))))
          ·exact o1 68 ay (o1 68 ay (o1 68 ay (o1 68 ay (o1 68 ay (o1 68 ay (m3 true vT (cg ay) (wt (⟨_,Z,true,fR,kr,aj,h⟩))))))))
          ·refine n1 68 ay (fd 5 Tyf38_5 rfl (n1 68 ay (l1 2 (sl a9 aX ba) aj Tya36 (n1 68 ay (fd 5 Tyf38_5 rfl (n1 68 ay (l1 3 (sl bb a3 bd) aj Tya36 (n1 68 ay ?_))))))))
           obtain ⟨b3,cR,h⟩:=ob h
           refine cv ([sl a9 aX ba,sl bb a3 bd]) Tyb21 ((f21_ok k) cR (hG.mono aI) cO cQ (pt aj)) ?_
           rintro _ df ⟨cS,rfl,cj⟩
           have cU:=ca cj aj
           exact n1 68 ay (uN b3 (m3 false (.bool (!b3)) (cg ay) (wt (⟨_,cS,(!b3),fR,cj.sub,cU,h⟩))))
     ·rintro _ dg ⟨ci,bh,b2,rfl,bK,ck,h⟩
      unfold f17_j2 at h
      refine cd h (fun b4 h=>?_) (fun b4 h=>?_)
      ·refine cT b4 (sr (m2 vN (wt (wp_ret (thenR (blkR (thenR (thenR (blkR (thenR ?_))))))))))
       cases (oi h).trans hr_
       exact retA1 rfl (resT rfl) ⟨bh,rfl,(ck.sel [])⟩
      ·refine cF b4 (wp_skip (thenN (sr (m2 (iI 0) (wt (wp_block (wp_loopG (fun g_ a w=>∃ cl bu,∃ (al:Nat),g_=bu.length∧a=fr 94 (updL cl [(2,pp (zz wi) 0),(3,pp (zz aH) 0),(5,iI (G:Int)),(6,pp aW 0),(7,pp aY 0),(8,iI (al:Int))])∧SR K bh wi w [] [.box (zz wi) (zz wi) #[sl aG af c1] 24,.box (zz wi) (zz aH) #[sl aw Y ax] 24,.box (zz wi) aW (vF aN aJ X aK aP aQ aR a9 aX ba).toArray 38,.box (zz wi) aY (vF aS aZ av a2 aT aU aV bb a3 bd).toArray 38]∧X.drop al=bu∧f17_l2 k G av (f17_l1 k Y aM) bu al=some r_) X.length ?_ ?_)))))))
       ·exact ⟨_,X,0,rfl,fR,ck,List.drop_zero,h⟩
       ·rintro _ _ dh ⟨cl,bu,al,rfl,rfl,bL,bw,h⟩
        rcases bu with _ | ⟨⟨bM,bN⟩,bu⟩
        ·unfold f17_l2 at h
         exact wp_seq (sr (m1 (iI (al:Int)) (fd 1 Tyf38_1 rfl (l1 2 (sl aJ X aK) bL Tya35 (lS X.length Tye35 (bcm (r:=false) rfl rfl (congrArg some (drop_nil_lt bw)) (wt (cndF rfl (wp_exit (thenX (thenX (blkX (blkN (thenN (wp_region_lit (m1 (iI (G:Int)) (bar (r:=((G + 1:Nat):Int)) rfl rfl (inc_ok (le_big (((mf b7 aI)).len) (by decide) (drop_cons_lt bv))) (m2 (iI ((G + 1:Nat):Int)) (wt (⟨_,Nat.lt_succ_self _,_,bh,aM,G + 1,rfl,fR,(aI.trans bK),(bL.sel [0,1]),drop_cons_next bv,h⟩))))))))))))))))))))
        ·unfold f17_l2 at h
         refine wp_seq (sr (m1 (iI (al:Int)) (fd 1 Tyf38_1 rfl (l1 2 (sl aJ X aK) bL Tya35 (lS X.length Tye35 (bcm (r:=true) rfl rfl (congrArg some (drop_cons_t bw)) (wt (cndT rfl (wp_skip (thenN (wp_seq (wp_block (wp_seq (have aF:=bL.drew;(regAny (E:=[]) (F:=FW bh [.box (zz wi) (zz wi) #[sl aG af c1] 24,.box (zz wi) (zz aH) #[sl aw Y ax] 24,.box (zz wi) aW (vF aN aJ X aK aP aQ aR a9 aX ba).toArray 38,.box (zz wi) aY (vF aS aZ av a2 aT aU aV bb a3 bd).toArray 38]) (L:=(lb 11 0)) ymx rfl rfl (tk 0 (pp aW 1) (lb 11 1) rfl (fun w=>fld_r (o':=1) Tyf38_1 rfl rfl) (heldF (fq [0,1,2,3] aF)) (tf 1 (sl aJ X aK) ([]) (lb 11 3) rfl (fq [0,1,2,3] aF) (fun w hF=>lb1_r (i:=2) (v:=sl aJ X aK) hF rfl Tya35 rfl rfl) (tk 2 (iI (al:Int)) (lb 11 7) rfl (fun w=>mv_r (v:=iI (al:Int)) rfl) (heldF (fq [0,1,2,3] aF)) ?_))))))))))))))))))
         obtain ⟨cm,cn,di,cV,dj,cW,cX⟩:=((mp ch bK)).row.at_ (drop_cons_at bw)
         obtain ⟨rfl,dk⟩:=RDParam.open cX
         refine tk 3 (pp cm (cn + al * 2)) (lb 11 15) rfl (fun w=>idxN_r (b:=cm) (o:=cn) (i:=al) Tye35 Tys82 rfl cV rfl (drop_cons_lt bw)) (heldF (fq [0,1,2,3] aF)) (tf 4 (.agg #[.string bM,iI bN]) ([]) (lb 11 31) rfl (fq [0,1,2,3] aF) (fun w hF=>ldN_r (cs:=[.string bM,iI bN]) Tya82 Tys82 rfl rfl (fun j v hj=>hF.cell (kr.cell (cW j v hj)))) (tk 5 (pp aY 1) (lb 11 63) rfl (fun w=>fld_r (o':=1) Tyf38_1 rfl rfl) (heldF (fq [0,1,2,3] aF)) (tf 6 (sl aZ av a2) ([]) (lb 11 127) rfl (fq [0,1,2,3] aF) (fun w hF=>lb1_r (i:=3) (v:=sl aZ av a2) hF rfl Tya35 rfl rfl) (tk 7 (iI (al:Int)) (lb 11 255) rfl (fun w=>mv_r (v:=iI (al:Int)) rfl) (heldF (fq [0,1,2,3] aF)) ?_))))
         obtain ⟨⟨bO,bP⟩,b5,h⟩:=ob h
         obtain ⟨co,cq,dl,cY,dm,cZ,c2⟩:=((mp cP bK)).row.at_ (idxO_at b5).1
         obtain ⟨rfl,dn⟩:=RDParam.open c2
         refine tk 8 (.pointer (some ⟨co,cq + (al:Int).toNat * 2,none⟩)) (lb 11 511) rfl (fun w=>idxG_r (b:=co) (o:=cq) (i:=(al:Int)) Tye35 Tys82 rfl cY rfl (idxO_at b5).2.1 (idxO_at b5).2.2) (heldF (fq [0,1,2,3] aF)) (tf 9 (.agg #[.string bO,iI bP]) ([]) (lb 11 1023) rfl (fq [0,1,2,3] aF) (fun w hF=>ldN_r (cs:=[.string bO,iI bP]) Tya82 Tys82 rfl rfl (fun j v hj=>hF.cell (kr.cell (cZ j v hj)))) (tk 10 (.bool (!(((seq bM bO && bN == bP)) == true))) (lb 11 2047) rfl (fun w=>bsi_r (r:=(!(((seq bM bO && bN == bP)) == true))) (.of Tyq82) rfl rfl rfl) (heldF (fq [0,1,2,3] aF)) (aD (thenN (cd h (fun b6 h=>?_) (fun b6 h=>?_))))))
         ·refine cT b6 (sr (m2 vN (wt (wp_ret (blkR (thenR (thenR (blkR (blkR (thenR (thenR (blkR (thenR ?_)))))))))))))
          cases (oi h).trans hr_
          exact retA1 rfl (resT rfl) ⟨bh,rfl,(aF.sel [])⟩
         ·exact cF b6 (wp_skip (blkN (thenN (wp_region_lit (m1 (iI (al:Int)) (bar (r:=((al + 1:Nat):Int)) rfl rfl (inc_ok (le_big (((mp ch bK)).len) (by decide) (drop_cons_lt bw))) (m2 (iI ((al + 1:Nat):Int)) (wt (⟨_,Nat.lt_succ_self _,_,bu,al + 1,rfl,fR,aF,drop_cons_next bw,h⟩)))))))))
theorem f17_ok (k:Nat):f17_spec (f17 k):=f17_b_ok k
theorem f3_b_ok (k:Nat):f3_spec (f3_b k):=by
 unfold f3_spec
 intro K wi S ax ay h hG U V
 obtain ⟨r_,hr_,h⟩:=rz h
 obtain ⟨d⟩:=S
 obtain ⟨e,c1,rfl,A⟩:=RDProgram.open U
 refine enter Tryz.func3 rfl (n:=32) rfl ?_
 unfold f3_b at h
 refine sr (bxoC (cs:=#[sl e d c1]) V rfl rfl (fun az B=>(m2 vN (wt (wp_seq (sr (lN 0 ([sl e d c1]) B Tya24 Tys24 ?_)))))))
 obtain ⟨W,X,h⟩:=ob h
 refine cv ([.agg #[sl e d c1]]) Tyb13 ((f13_ok k) X (hG.mono kr) (RDProgram.intro A) (pt B)) ?_
 rintro _ aA ⟨aB,rfl,c⟩
 have q:=ca c B
 refine uN W (wt (cd h (fun C h=>?_) (fun C h=>?_)))
 ·refine cT C (sr ?_)
  obtain ⟨Y,Z,h⟩:=ob h
  refine cv ([]) Tyb14 ((f14_ok k) Z (hG.mono c.sub) (pt q)) ?_
  rintro _ aE ⟨ab,rfl,ac⟩
  have ad:=ca ac q
  refine m2 (.bool Y) (wt (wp_ret (thenR ?_)))
  cases (oi h).trans hr_
  exact retA1 rfl (resT rfl) ⟨ab,rfl,(ad.sel [])⟩
 ·refine cF C (wp_skip (thenN (sr (lN 0 ([sl e d c1]) q Tya24 Tys24 ?_))))
  obtain ⟨⟨⟨i⟩,f⟩,ae,h⟩:=ob h
  refine cv ([.agg #[sl e d c1]]) Tyb15 ((f15_ok k) ae (hG.mono c.sub) (RDProgram.intro (mf A c.sub)) (pt q)) ?_
  rintro _ aF ⟨aG,aH,rfl,r,af⟩
  have ag:=ca r q
  obtain ⟨j,l,rfl,ah⟩:=RDProgram.open af
  refine m1 (.tuple #[.agg #[sl j i l],iI f]) (ext (v:=.agg #[sl j i l]) rfl rfl (ext (v:=iI f) rfl rfl (aC #[nS] ag Tyz24 (fun aI ai=>(sI 0 (.agg #[sl j i l]) #[sl j i l] ai Tys24 rfl rfl (fun aJ D=>(m2 (iI f) (wt (sr (lN 1 ([sl e d c1]) D Tya24 Tys24 ?_))))))))))
  obtain ⟨⟨⟨m⟩,g⟩,aj,h⟩:=ob h
  refine cv ([.agg #[sl e d c1]]) Tyb16 ((f16_ok k) aj (hG.mono (c.sub.trans r.sub)) (RDProgram.intro (mf A (c.sub.trans r.sub))) (pt D)) ?_
  rintro _ aK ⟨ak,aL,rfl,u,al⟩
  have am:=ca u D
  obtain ⟨o,p,rfl,an⟩:=RDProgram.open al
  refine m1 (.tuple #[.agg #[sl o m p],iI g]) (ext (v:=.agg #[sl o m p]) rfl rfl (ext (v:=iI g) rfl rfl (aC #[nS] am Tyz24 (fun aM ao=>(sI 0 (.agg #[sl o m p]) #[sl o m p] ao Tys24 rfl rfl (fun aN x=>(m2 (iI g) (wt (wp_cut (fun a w=>∃ J y G,a=fr 32 (updL J [(2,.bool G)])∧KH.sub ak y∧SR K y wi w [] []∧f3_j1 k G=some r_) ?_ ?_)))))))))
  ·refine wp_region_lit (lN 1 ([sl j i l]) x Tya24 Tys24 (lN 0 ([sl o m p]) x Tya24 Tys24 ?_))
   obtain ⟨ap,aq,h⟩:=ob h
   refine cv ([.agg #[sl j i l],.agg #[sl o m p]]) Tyb17 ((f17_ok k) aq (hG.mono ((c.sub.trans r.sub).trans u.sub)) (RDProgram.intro (mf ah u.sub)) (RDProgram.intro an) (pt x)) ?_
   rintro _ aP ⟨N,rfl,s⟩
   have z:=ca s x
   refine m1 (.bool ap) (cd h (fun b h=>?_) (fun b h=>?_))
   ·refine n1 24 b (m1 (iI f) (n1 24 b (m1 (iI g) (n1 24 b (c0 (f == g) (m3 true (.bool (f == g)) (cg b) (m1 (.bool (f == g)) (cd h (fun t h=>?_) (fun t h=>?_)))))))))
    ·refine n1 29 t ?_
     obtain ⟨I,ar,h⟩:=ob h
     refine cv ([]) Tyb14 ((f14_ok k) ar (hG.mono (((c.sub.trans r.sub).trans u.sub).trans s.sub)) (pt z)) ?_
     rintro _ aQ ⟨au,rfl,O⟩
     have av:=ca O z
     exact m3 true (.bool I) (cg t) (m2 (.bool I) (wt (⟨_,au,I,fR,(s.sub.trans O.sub),(av.sel []),h⟩)))
    ·exact o1 29 t (m3 false vN (cg t) (m2 vN (wt (⟨_,N,false,fR,s.sub,(z.sel []),h⟩))))
   ·exact o1 24 b (o1 24 b (o1 24 b (m3 false vN (cg b) (m1 vN (o0 29 (m3 false vN rfl (m2 vN (wt (⟨_,N,false,fR,s.sub,(z.sel []),h⟩)))))))))
  ·rintro _ aR ⟨J,y,G,rfl,aS,aw,h⟩
   unfold f3_j1 at h
   refine wp_ret ?_
   cases (oi h).trans hr_
   exact retA1 rfl (resT rfl) ⟨y,rfl,aw⟩
theorem f3_ok (k:Nat):f3_spec (f3 k):=f3_b_ok k
end Go.Proofs.YtoajecnoffhlbaaGreatDoor
set_option maxRecDepth 512
set_option maxHeartbeats 200000
namespace Go.Proofs.YtoajecnoffhlbaaGreatDoor
open Go
mutual
def szE:DExpr→Nat | .mk _ _ _ _ l=>szEs l + 1
def szEs:List DExpr→Nat | []=>0 | e :: l=>szE e + szEs l
end
mutual
def szS:DStmt→Nat | .mk _ _ _ _ _ _ a b c d e=>szEs a + szSs b + szSs c + szSs d + szCs e + 1
def szSs:List DStmt→Nat | []=>0 | s :: l=>szS s + szSs l
def szC:DCase→Nat | .mk _ _ _ a b=>szEs a + szSs b + 1
def szCs:List DCase→Nat | []=>0 | c :: l=>szC c + szCs l
end
def szF:DFunc→Nat | .mk _ ps _ _ _ b=>ps.length + szSs b + 1
def szFs:List DFunc→Nat | []=>0 | f :: l=>szF f + szFs l
def szP:DProgram→Nat | .mk fs=>szFs fs + 1
theorem len_szEs : ∀ l:List DExpr,l.length≤szEs l
 | []=>by simp
 | .mk _ _ _ _ a :: l=>by have:=len_szEs l; simp only [List.length_cons,szEs,szE]; omega
def letterI (c:Int):Bool:=decide (c ≥ 97) && decide (c≤122)
def digitI (c:Int):Bool:=decide (c ≥ 48) && decide (c≤57)
def runL:List UInt8→Nat→Bool
 | [],_=>true
 | e :: r,i=>(letterI e.toNat || (!((i:Int) == 0) && digitI e.toNat)) && runL r (i + 1)
def isN (s:ByteArray):Bool:=runL s.data.toList 0 && !seq s ⟨#[]⟩ && decide ((s.size:Int)≤12) && !wordsL.any (seq s)
theorem f66_eq (k:Nat) (c:Int):f66 k c=some (letterI c):=by
 unfold f66 f66_b f66_j1 letterI
 cases decide (c ≥ 97) <;> rfl
theorem f67_eq (k:Nat) (c:Int):f67 k c=some (digitI c):=by
 unfold f67 f67_b f67_j1 digitI
 cases decide (c ≥ 48) <;> rfl
theorem f112_eq (k:Nat) (c:Int):f112 k c=some (letterI c):=by
 unfold f112 f112_b f112_j1 letterI
 cases decide (c ≥ 97) <;> rfl
theorem f113_eq (k:Nat) (c:Int):f113 k c=some (digitI c):=by
 unfold f113 f113_b f113_j1 digitI
 cases decide (c ≥ 48) <;> rfl
theorem f91_l1_eq (k:Nat) (a:ByteArray) : ∀ (l:List UInt8) (i:Nat),f91_l1 k a l i=some (runL l i && !seq a ⟨#[]⟩)
 | [],i=>by simp [f91_l1,runL]
 | e :: l,i=>by
  unfold f91_l1 runL
  rw [f112_eq]
  simp only [Option.bind_some,f91_j1,f113_eq,f91_l1_eq k a l]
  cases letterI e.toNat <;> cases ((i:Int) == 0) <;> cases digitI e.toNat <;> simp
theorem f93_l1_eq (k:Nat) (a:ByteArray) : ∀ (l:List ByteArray) (i:Nat),∃ r,f93_l1 k a l i=some r∧decide (r ≥ 0)=l.any (seq a)
 | [],i=>⟨-1,rfl,rfl⟩
 | e :: l,i=>by
  unfold f93_l1
  cases h:seq a e
  ·obtain ⟨r,h1,h2⟩:=f93_l1_eq k a l (i + 1)
   exact ⟨r,h1,by simp [h,h2]⟩
  ·exact ⟨(i:Int),rfl,by simp [h]⟩
theorem f63_eq (k:Nat) (s:ByteArray):f63 k s=some (isN s):=by
 unfold f63 f63_b f91 f91_b isN
 rw [f91_l1_eq]
 simp only [Option.bind_some,f63_j1]
 obtain ⟨r,h1,h2⟩:=f93_l1_eq k s wordsL 0
 have h92:f92 k s=some (wordsL.any (seq s)):=by
  unfold f92 f92_b f114 f64 f64_b f93 f93_b
  simp [h1,h2]
 rw [h92]
 simp only [Option.bind_some]
 cases runL s.data.toList 0 <;> cases seq s ⟨#[]⟩ <;> cases decide ((s.size:Int)≤12) <;> rfl
theorem seq_comm (a b:ByteArray):seq a b=seq b a:=by
 unfold seq
 rw [Bool.eq_iff_iff,beq_iff_eq,beq_iff_eq]
 exact eq_comm
theorem f68_l1_eq (k:Nat) (a:ByteArray) : ∀ (l:List ByteArray) (i:Nat),f68_l1 k a l i=some (l.any (seq a))
 | [],i=>rfl
 | e :: l,i=>by
  unfold f68_l1
  rw [seq_comm e a]
  cases h:seq a e
  ·simp [h,f68_l1_eq k a l]
  ·simp [h]
theorem words_eq (k:Nat):f97 k=some wordsL:=rfl
theorem f68_eq (k:Nat) (a:ByteArray):f68 k a=some (wordsL.any (seq a)):=by
 unfold f68 f68_b
 rw [words_eq]
 exact f68_l1_eq k a wordsL 0
theorem size_seq (a:ByteArray):decide ((a.size:Int) ≥ 1)=!seq a ⟨#[]⟩:=by
 unfold seq
 rw [ByteArray.toList_eq,ByteArray.toList_eq]
 obtain ⟨⟨l⟩⟩:=a
 cases l with
 | nil=>rfl
 | cons x l =>
  have h2:((⟨⟨x :: l⟩⟩:ByteArray).size:Int) ≥ 1:=by
   show ((l.length + 1:Nat):Int) ≥ 1
   omega
  rw [decide_eq_true h2]
  rfl
theorem f34_l1_eq (k:Nat) (a:ByteArray) : ∀ (l:List UInt8) (i:Nat),f34_l1 k a l i=some (runL l i && !seq a ⟨#[]⟩ && decide ((a.size:Int)≤12) && !wordsL.any (seq a))
 | [],i=>by
  unfold f34_l1 runL
  rw [f68_eq,size_seq]
  simp only [Option.bind_some,f34_j1]
  cases seq a ⟨#[]⟩ <;> cases decide ((a.size:Int)≤12) <;> rfl
 | e :: l,i=>by
  unfold f34_l1 runL
  rw [f66_eq]
  simp only [Option.bind_some,f34_j2,f67_eq,f34_l1_eq k a l]
  cases letterI e.toNat <;> cases ((i:Int) == 0) <;> cases digitI e.toNat <;> simp
theorem f34_eq (k:Nat) (s:ByteArray):f34 k s=some (isN s):=f34_l1_eq k s _ 0
def textL:List UInt8→Bool
 | []=>true
 | e :: l=>!decide ((e.toNat:Int) < 32) && !decide ((e.toNat:Int) > 126) && textL l
def isT (s:ByteArray):Bool:=textL s.data.toList && decide ((s.size:Int)≤60)
theorem f162_l1_eq (k:Nat) (a:ByteArray) : ∀ (l:List UInt8) (i:Nat),f162_l1 k a l i=some (textL l && decide ((a.size:Int)≤60))
 | [],i=>by simp [f162_l1,textL]
 | e :: l,i=>by
  unfold f162_l1 textL
  simp only [f162_j1,f162_l1_eq k a l]
  cases decide ((e.toNat:Int) < 32) <;> cases decide ((e.toNat:Int) > 126) <;> simp
theorem f132_l1_eq (k:Nat) (a:ByteArray) : ∀ (l:List UInt8) (i:Nat),f132_l1 k a l i=some (textL l && decide ((a.size:Int)≤60))
 | [],i=>by simp [f132_l1,textL]
 | e :: l,i=>by
  unfold f132_l1 textL
  simp only [f132_j1,f132_l1_eq k a l]
  cases decide ((e.toNat:Int) < 32) <;> cases decide ((e.toNat:Int) > 126) <;> simp
theorem f160_eq (k:Nat) (s:ByteArray):f160 k s=some (isT s):=f162_l1_eq k s _ 0
theorem f132_eq (k:Nat) (s:ByteArray):f132 k s=some (isT s):=f132_l1_eq k s _ 0
end Go.Proofs.YtoajecnoffhlbaaGreatDoor
namespace Go.Proofs.YtoajecnoffhlbaaGreatDoor
open Go
theorem w64_nat {x:Int} {n:Nat} (h:x=(n:Int)) (h2:n≤4611686018427387904):w64 x=(n:Int):=by
 subst h; unfold w64 IntKind.wrap; simp [IntKind.bits,IntKind.signed]; omega
def nodeE (op num:Int) (txt:ByteArray) (len:Nat):Bool :=
 cond (op == 1) (decide (num ≥ 0) && decide (num≤1000000000000) && seq txt ⟨#[]⟩ && (len:Int) == 0)
 (cond (op == 2) (decide (num ≥ 0) && decide (num≤1) && seq txt ⟨#[]⟩ && (len:Int) == 0)
 (cond (op == 3) (num == 0 && isT txt && (len:Int) == 0)
 (cond (op == 4) (num == 0 && isN txt && (len:Int) == 0)
 (cond (op == 5 || op == 6) (num == 0 && seq txt ⟨#[]⟩ && (len:Int) == 1)
  (decide (op ≥ 7) && decide (op≤19) && num == 0 && seq txt ⟨#[]⟩ && (len:Int) == 2)))))
mutual
def gE (z:Bool):DExpr→Nat→Bool
 | .mk op num txt slot l,a=>decide (a≤16) && (z || slot == 0) && nodeE op num txt l.length && gEs z l (a + 1)
def gEs (z:Bool):List DExpr→Nat→Bool
 | [],_=>true
 | e :: l,a=>gE z e a && gEs z l a
end
def NRes (r:Option (Dcounter × Bool)) (g:Bool) (n sz:Nat) (z:Bool):Prop :=
 ∃ c,r=some (c,g && decide (n + sz≤600))∧((g && decide (n + sz≤600))=true→∃ d,c=.mk ((n + sz:Nat):Int) d z)
theorem f116_eq (k:Nat) (x a b:Int):f116 k x a b=some (decide (x ≥ a) && decide (x≤b)):=by
 unfold f116 f116_b f116_j1; cases decide (x ≥ a) <;> rfl
theorem f117_eq (k:Nat) (n:Nat) (d:Int) (z:Bool) (a:Nat) (h:n≤600) :
  f117 k (.mk n d z) a=some (.mk ((n + 1:Nat):Int) (imax d a) z,decide (n + 1≤600) && decide (a≤16)):=by
 unfold f117 f117_b f117_j1
 simp only
 rw [w64_nat (n:=n + 1) (by omega) (by omega)]
 have e1:decide (((n + 1:Nat):Int)≤600)=decide (n + 1≤600):=by rw [decide_eq_decide]; omega
 have e2:decide ((a:Int)≤16)=decide (a≤16):=by rw [decide_eq_decide]; omega
 rw [e1,e2]
 cases decide (n + 1≤600) <;> rfl
theorem f157_j1_eq (k:Nat) (F:Fam153) (op num:Int) (txt:ByteArray) (l:List DExpr) (a n d:Int) (q:Bool) :
  f157_j1 k F op num txt l a n d q false=cond (nodeE op num txt l.length) (f157_j2 k F l a n d q (l.length:Int) true) (some (.mk n d q,false)):=by
 unfold f157_j1 f157_j4 f157_j5 f157_j6 f157_j2 f157_j3 nodeE
 simp only [f116_eq,f160_eq,f63_eq,Option.bind_some,Bool.cond_eq_ite]
 grind
theorem szE_pos : ∀ e:DExpr,1≤szE e
 | .mk _ _ _ _ _=>by simp only [szE]; omega
theorem NRes.no {r:Option (Dcounter × Bool)} {g:Bool} {n sz:Nat} {z:Bool} {c:Dcounter} (h:r=some (c,false)) (hg:(g && decide (n + sz≤600))=false):NRes r g n sz z :=
 ⟨c,by rw [h,hg],by rw [hg]; intro h; cases h⟩
theorem NRes.yes {r:Option (Dcounter × Bool)} {g:Bool} {n sz:Nat} {z:Bool} {d:Int} (h:r=some (.mk ((n + sz:Nat):Int) d z,true)) (hg:(g && decide (n + sz≤600))=true):NRes r g n sz z :=
 ⟨_,by rw [h,hg],fun _=>⟨d,rfl⟩⟩
theorem nE (k:Nat) (z:Bool) : ∀ m,
  (∀ e,2 * szE e≤m→∀ (n:Nat) (d:Int) (a:Nat),n≤600→a≤17→NRes ((fam153 k m).f157 (.mk n d z) e a) (gE z e a) n (szE e) z) ∧
  (∀ l,2 * szEs l + 1≤m→∀ (n:Nat) (d:Int) (a:Nat),n≤600→a≤17→NRes ((fam153 k m).f153 (.mk n d z) l a) (gEs z l a) n (szEs l) z)
 | 0=>⟨fun e he=>by have:=szE_pos e; omega,fun l hl=>by omega⟩
 | m + 1=>by
  obtain ⟨ihe,ihl⟩:=nE k z m
  constructor
  ·intro e he n d a hn ha
   obtain ⟨op,num,txt,slot,l⟩:=e
   simp only [szE] at he
   show NRes (f157_b k (fam153 k m) (.mk n d z) (.mk op num txt slot l) a) _ _ _ _
   unfold f157_b
   simp only [szE]
   rw [f117_eq k n d z a hn]
   simp only [Option.bind_some]
   have hj : ∀ q:Bool,f157_j1 k (fam153 k m) op num txt l a ((n + 1:Nat):Int) (imax d a) z q=cond q (some (.mk ((n + 1:Nat):Int) (imax d a) z,false)) (cond (nodeE op num txt l.length) (f157_j2 k (fam153 k m) l a ((n + 1:Nat):Int) (imax d a) z (l.length:Int) true) (some (.mk ((n + 1:Nat):Int) (imax d a) z,false))):=by
    intro q; cases q
    ·exact f157_j1_eq _ _ _ _ _ _ _ _ _ _
    ·rfl
   simp only [hj]
   by_cases h1:n + 1≤600∧a≤16
   ·obtain ⟨h1,h2⟩:=h1
    simp only [h1,h2,decide_true,Bool.and_self,Bool.not_true,cond_false]
    by_cases h3:(z || slot == 0)=true
    ·have h3' : (cond (slot != 0) (!z) false)=false:=by cases z <;> simp_all
     have h4 : ∀ (x y:Option (Dcounter × Bool)),cond (slot != 0) (cond (!z) x y) y=y:=by
      intro x y; cases z <;> simp_all
     rw [h4]
     by_cases h5:nodeE op num txt l.length=true
     ·simp only [h5,cond_true]
      unfold f157_j2
      simp only [beq_self_eq_true,cond_true]
      rw [w64_nat (n:=a + 1) (by omega) (by omega)]
      obtain ⟨c,hc,hd⟩:=ihl l (by omega) (n + 1) (imax d a) (a + 1) h1 (by omega)
      rw [hc]
      refine ⟨c,?_,?_⟩
      ·obtain ⟨c0,c1,c2⟩:=c
       have:n + 1 + szEs l=n + (szEs l + 1):=by omega
       simp [f157_j3,gE,h2,h3,h5,this]
      ·intro hg
       have e1:n + (szEs l + 1)=n + 1 + szEs l:=by omega
       rw [e1]
       refine hd ?_
       rw [e1] at hg
       simp [gE,h2,h3,h5] at hg
       simp [hg]
     ·have h5' : nodeE op num txt l.length=false:=by simpa using h5
      simp only [h5',cond_false]
      exact .no rfl (by simp [gE,h5'])
    ·have h3' : (z || slot == 0)=false:=by simpa using h3
     have h4 : ∀ (x y:Option (Dcounter × Bool)),cond (slot != 0) (cond (!z) x y) y=x:=by
      intro x y
      simp only [Bool.or_eq_false_iff,beq_eq_false_iff_ne] at h3'
      have e:(slot != 0)=true:=bne_iff_ne.mpr h3'.2
      rw [e,h3'.1]; rfl
     rw [h4]
     exact .no rfl (by simp [gE,h3'])
   ·have h1' : (decide (n + 1≤600) && decide (a≤16))=false:=by
     simp only [Bool.and_eq_false_iff,decide_eq_false_iff_not]; omega
    simp only [h1',Bool.not_false,cond_true]
    refine .no rfl ?_
    simp only [gE,Bool.and_eq_false_iff,decide_eq_false_iff_not]
    omega
  ·intro l hl n d a hn ha
   show NRes (f153_l1 k (fam153 k m) a l 0 n d z) _ _ _ _
   have loop : ∀ (l:List DExpr) (i:Nat) (n:Nat) (d:Int),2 * szEs l≤m→n≤600→NRes (f153_l1 k (fam153 k m) a l i n d z) (gEs z l a) n (szEs l) z:=by
    intro l
    induction l with
    | nil=>intro i n d _ hn; exact .yes rfl (by simp [gEs,szEs,hn])
    | cons e l ih =>
     intro i n d hm hn
     obtain ⟨e0,e1,e2,e3,e4⟩:=e
     unfold f153_l1
     simp only [szEs] at hm
     obtain ⟨c,hc,hd⟩:=ihe (.mk e0 e1 e2 e3 e4) (by omega) n d a hn ha
     rw [hc]
     by_cases hg:(gE z (.mk e0 e1 e2 e3 e4) a && decide (n + szE (.mk e0 e1 e2 e3 e4)≤600))=true
     ·obtain ⟨d',rfl⟩:=hd hg
      have hg':=hg
      simp only [Bool.and_eq_true,decide_eq_true_eq] at hg'
      simp only [hg,Option.bind_some,Bool.not_true,cond_false]
      obtain ⟨c2,hc2,hd2⟩:=ih (i + 1) _ d' (by omega) hg'.2
      have e1:n + (szE (DExpr.mk e0 e1 e2 e3 e4) + szEs l)=n + szE (DExpr.mk e0 e1 e2 e3 e4) + szEs l:=by omega
      refine ⟨c2,?_,?_⟩
      ·rw [hc2]; simp only [gEs,szEs,hg'.1,Bool.true_and,e1]
      ·simp only [gEs,szEs,hg'.1,Bool.true_and,e1]; exact hd2
     ·have hg' : (gE z (.mk e0 e1 e2 e3 e4) a && decide (n + szE (.mk e0 e1 e2 e3 e4)≤600))=false:=by simpa using hg
      obtain ⟨c0,c1,c2⟩:=c
      simp only [hg',Option.bind_some,Bool.not_false,cond_true]
      refine .no rfl ?_
      simp only [Bool.and_eq_false_iff,decide_eq_false_iff_not,gEs,szEs] at hg' ⊢
      rcases hg' with h | h
      ·exact .inl (.inl h)
      ·exact .inr (decide_eq_false (fun h'=>h (by omega)))
   exact loop l 0 n d (by omega) hn
theorem f59_eq (k:Nat) (n d:Int) (q b:Bool):f59 k (.mk n d q) b=some (.mk n d (q || !b)):=by
 unfold f59 f59_b; cases b <;> cases q <;> rfl
theorem f60_eq (k:Nat) (n:Nat) (d:Int) (q:Bool) (a:Nat) (h:n≤600) :
  f60 k (.mk n d q) a=some (.mk ((n + 1:Nat):Int) (imax d a) (q || !(decide (n + 1≤600) && decide (a≤16)))):=by
 unfold f60 f60_b f60_j1
 simp only
 rw [w64_nat (n:=n + 1) (by omega) (by omega)]
 have e1:decide (((n + 1:Nat):Int) > 600)=!decide (n + 1≤600):=by rw [← decide_not,decide_eq_decide]; omega
 have e2:decide ((a:Int) > 16)=!decide (a≤16):=by rw [← decide_not,decide_eq_decide]; omega
 rw [e1,e2]
 cases decide (n + 1≤600) <;> cases decide (a≤16) <;> cases q <;> rfl
theorem bfun {α:Type} (Q:Bool→α) : ∃ A B,Q=fun b=>if b=true then A else B :=
 ⟨Q true,Q false,funext fun b=>by cases b <;> rfl⟩
theorem f110_j1_eq (k:Nat) (F:Fam110) (op num:Int) (txt:ByteArray) (l:List DExpr) (a:Int) (x:Bool) (n d:Int) (q:Bool) :
  f110_j1 k F op num txt l a x n d q=f110_l1 k F a x l 0 n d (q || !nodeE op num txt l.length):=by
 unfold f110_j1 f110_j3 f110_j2 nodeE
 have h01:(decide (num ≥ 0) && decide (num≤1))=(num == 0 || num == 1):=by
  rw [Bool.eq_iff_iff]; simp only [Bool.and_eq_true,Bool.or_eq_true,decide_eq_true_eq,beq_iff_eq]; omega
 rw [h01]
 simp only [f59_eq,f132_eq,f34_eq,Option.bind_some,Bool.cond_eq_ite]
 generalize f110_l1 k F a x l 0 n d=Q
 obtain ⟨A,B,rfl⟩:=bfun Q
 grind (splits:=40)
def RRes (r:Option DSize) (g:Bool) (n sz:Nat) (q:Bool):Prop :=
 ∃ x d q',r=some (.mk x d q')∧q'=(q || !(g && decide (n + sz≤600)))∧(q'=false→x=((n + sz:Nat):Int))
theorem RRes.wrong {r:Option DSize} {g:Bool} {n sz:Nat} {x d:Int} (h:r=some (.mk x d true)):RRes r g n sz true :=
 ⟨x,d,true,h,rfl,fun h=>by cases h⟩
theorem RRes.bad {r:Option DSize} {g:Bool} {n sz:Nat} {q:Bool} {x d:Int} (h:r=some (.mk x d true)) (hg:(g && decide (n + sz≤600))=false):RRes r g n sz q :=
 ⟨x,d,true,h,by rw [hg]; cases q <;> rfl,fun h=>by cases h⟩
theorem bcomb (g1 g2:Bool) (n s1 s2:Nat):(!(g1 && decide (n + s1≤600)) || !(g2 && decide (n + s1 + s2≤600)))=!(g1 && g2 && decide (n + (s1 + s2)≤600)):=by
 rw [← Nat.add_assoc]
 by_cases hh:n + s1 + s2≤600
 ·have:n + s1≤600:=by omega
  simp only [hh,this,decide_true]; cases g1 <;> cases g2 <;> rfl
 ·simp only [hh,decide_false]; cases g1 <;> cases g2 <;> simp
theorem RRes.bind {r:Option DSize} {f:DSize→Option DSize} {g1 g2:Bool} {n s1 s2:Nat} {q:Bool} (h1:RRes r g1 n s1 q)
  (h2 : ∀ x d q',(q'=false→x=((n + s1:Nat):Int)∧n + s1≤600)→RRes (f (.mk x d q')) g2 (n + s1) s2 q'):RRes (r.bind f) (g1 && g2) n (s1 + s2) q:=by
 obtain ⟨x,d,q',rfl,hq,hx⟩:=h1
 obtain ⟨x2,d2,q2,h4,h5,h6⟩:=h2 x d q' (fun h=>⟨hx h,by rw [h] at hq; cases q <;> simp at hq; exact hq.2⟩)
 refine ⟨x2,d2,q2,h4,?_,?_⟩
 ·rw [h5,hq,Bool.or_assoc,bcomb]
 ·rw [← Nat.add_assoc]; exact h6
theorem RRes.done {n:Nat} {q:Bool} {x d:Int} (hx:q=false→x=(n:Int)∧n≤600):RRes (some (.mk x d q)) true n 0 q :=
 ⟨x,d,q,rfl,by cases q <;> simp; exact (hx rfl).2,fun h=>(hx h).1⟩
theorem RRes.cast {r:Option DSize} {g g' : Bool} {n s s' : Nat} {q:Bool} (h:RRes r g n s q) (hg:g=g') (hs:s=s'):RRes r g' n s' q:=by
 subst hg; subst hs; exact h
theorem RRes.check {r:Option DSize} {g b:Bool} {n s:Nat} {q:Bool} (h:RRes r g n s (q || !b)):RRes r (b && g) n s q:=by
 obtain ⟨x,d,q',h1,h2,h3⟩:=h
 exact ⟨x,d,q',h1,by rw [h2]; cases q <;> cases b <;> rfl,h3⟩
theorem rE (k:Nat) : ∀ m,
  ∀ e,szE e≤m→∀ (n:Nat) (d:Int) (a:Nat),n≤600→a≤17→RRes ((fam110 k m).f110 (.mk n d false) e a false) (gE false e a) n (szE e) false
 | 0=>fun e he=>by have:=szE_pos e; omega
 | m + 1=>by
  have ihe:=rE k m
  intro e he n d a hn ha
  have loop:a≤16→∀ (l:List DExpr) (i:Nat) (x:Int) (n:Nat) (d:Int) (q:Bool),szEs l≤m→(q=false→x=(n:Int)∧n≤600)→RRes (f110_l1 k (fam110 k m) a false l i x d q) (gEs false l (a + 1)) n (szEs l) q:=by
   intro ha l
   induction l with
   | nil=>intro i x n d q _ hx; exact .done hx
   | cons e l ih =>
    intro i x n d q hm hx
    obtain ⟨e0,e1,e2,e3,e4⟩:=e
    unfold f110_l1
    cases q with
    | true=>exact .wrong rfl
    | false =>
     obtain ⟨rfl,hn⟩:=hx rfl
     simp only [szEs] at hm
     simp only [Bool.not_false,cond_true]
     rw [w64_nat (n:=a + 1) (by omega) (by omega)]
     exact (ihe (.mk e0 e1 e2 e3 e4) (by omega) n d (a + 1) hn (by omega)).bind fun x1 d1 q1 h1=>ih (i + 1) x1 _ d1 q1 (by omega) h1
  obtain ⟨op,num,txt,slot,l⟩:=e
  simp only [szE] at he
  show RRes (f110_b k (fam110 k m) (.mk n d false) (.mk op num txt slot l) a false) _ _ _ _
  unfold f110_b
  simp only [szE,cond_false,f59_eq,f110_j1_eq,Option.bind_some]
  rw [f60_eq k n d false a hn]
  simp only [Option.bind_some,Bool.false_or]
  by_cases ha' : a≤16
  ·obtain ⟨x2,d2,q2,h4,h5,h6⟩:=loop ha' l 0 ((n + 1:Nat):Int) (n + 1) (imax d a) (!(decide (n + 1≤600) && decide (a≤16)) || !(slot == 0) || !nodeE op num txt l.length) (by omega) (fun hq=>⟨rfl,by simp at hq; omega⟩)
   have e1:n + (szEs l + 1)=n + 1 + szEs l:=by omega
   refine ⟨x2,d2,q2,h4,?_,?_⟩
   ·rw [h5,e1]
    simp only [gE,ha',decide_true,Bool.false_or,Bool.true_and,Bool.and_true]
    by_cases hh:n + 1 + szEs l≤600
    ·have:n + 1≤600:=by omega
     simp only [hh,this,decide_true]
     cases (slot == 0) <;> cases nodeE op num txt l.length <;> simp
    ·simp [hh]
   ·rw [e1]; exact h6
  ·have loopw : ∀ (l:List DExpr) (i:Nat) (x d:Int),∃ x' d',f110_l1 k (fam110 k m) a false l i x d true=some (.mk x' d' true):=by
    intro l i x d
    cases l with
    | nil=>exact ⟨_,_,rfl⟩
    | cons e l=>obtain ⟨_,_,_,_,_⟩:=e; exact ⟨_,_,rfl⟩
   have:(!(decide (n + 1≤600) && decide (a≤16)) || !(slot == 0) || !nodeE op num txt l.length)=true:=by simp [ha']
   rw [this]
   obtain ⟨x',d',h⟩:=loopw l 0 ((n + 1:Nat):Int) (imax d a)
   exact .bad h (by simp [gE,ha'])
end Go.Proofs.YtoajecnoffhlbaaGreatDoor
namespace Go.Proofs.YtoajecnoffhlbaaGreatDoor
open Go
def shp (op:Int):Option (Int × Bool × Int × Int × Bool × Int) :=
 match op with
 | 1=>some (1,false,1,1,false,0) | 2=>some (1,false,1,1,false,0) | 3=>some (2,true,0,600,false,0) | 4=>some (2,true,0,600,false,0)
 | 5=>some (2,false,1,1,false,0) | 6=>some (2,false,1,1,false,1) | 7=>some (1,false,1,1,false,2) | 8=>some (1,false,1,1,false,0)
 | 9=>some (1,false,0,0,false,0) | 10=>some (0,false,2,2,false,0) | 11=>some (0,false,1,1,false,0) | 12=>some (0,false,1,1,false,0)
 | 13=>some (0,false,0,0,false,0) | 14=>some (0,false,1,1,false,0) | 15=>some (0,false,1,1,false,0) | 16=>some (0,false,1,1,false,0)
 | 17=>some (0,false,0,1,false,0) | 18=>some (0,false,0,0,false,0) | 19=>some (0,false,0,0,false,0) | 20=>some (0,false,1,1,true,1)
 | 21=>some (0,false,1,1,true,0) | 22=>some (0,false,0,1,true,1) | 23=>some (0,false,0,0,true,0) | 24=>some (2,false,0,0,true,3)
 | 25=>some (1,false,1,1,true,0) | 26=>some (0,false,1,1,true,0) | 27=>some (0,false,0,0,false,0) | 28=>some (1,true,0,600,true,66)
 | 29=>some (0,false,1,1,false,0) | _=>none
theorem op_cases {P:Int→Prop} (op:Int) (h : ∀ n:Nat,n < 29→P ((n + 1:Nat):Int)) (h0:op < 1∨op > 29→P op):P op:=by
 by_cases h1:op < 1∨op > 29
 ·exact h0 h1
 ·obtain ⟨n,rfl⟩ : ∃ n:Nat,op=((n + 1:Nat):Int):=⟨(op - 1).toNat,by omega⟩
  exact h n (by omega)
theorem shp_none {op:Int} (h:op < 1∨op > 29):shp op=none:=by
 unfold shp
 split <;> first | rfl | (exfalso; omega)
def toR:Option (Int × Bool × Int × Int × Bool × Int)→DShape × Bool
 | none=>(.mk 0 0 0 false false 0,false)
 | some (nm,fr,lo,hi,bd,fl)=>(.mk lo hi nm fr bd fl,true)
theorem f109_eq (k:Nat) (op:Int):f109 k op=some (toR (shp op)):=by
 refine op_cases (P:=fun op=>f109 k op=some (toR (shp op))) op ?_ ?_
 ·intro n hn
  match n,hn with
  | 0,_=>rfl | 1,_=>rfl | 2,_=>rfl | 3,_=>rfl | 4,_=>rfl | 5,_=>rfl | 6,_=>rfl | 7,_=>rfl | 8,_=>rfl | 9,_=>rfl
  | 10,_=>rfl | 11,_=>rfl | 12,_=>rfl | 13,_=>rfl | 14,_=>rfl | 15,_=>rfl | 16,_=>rfl | 17,_=>rfl | 18,_=>rfl | 19,_=>rfl
  | 20,_=>rfl | 21,_=>rfl | 22,_=>rfl | 23,_=>rfl | 24,_=>rfl | 25,_=>rfl | 26,_=>rfl | 27,_=>rfl | 28,_=>rfl
  | n + 29,h=>omega
 ·intro h
  rw [shp_none h]
  have e : ∀ c:Int,1≤c→c≤29→(op == c)=false:=fun c h1 h2=>by rw [beq_eq_false_iff_ne]; omega
  unfold f109 f109_b f109_j1 f109_j2 f109_j3 f109_j4 f109_j5
  simp [e,toR]
def toN:Option (Int × Bool × Int × Int × Bool × Int)→Option Dshape
 | none=>none
 | some (nm,fr,lo,hi,bd,fl)=>some (.mk nm fr lo (if hi=600 then 601 else hi) bd)
theorem mget_none (op:Int) : ∀ L:List (Int × Dshape),(∀ x ∈ L,qI op x.1=false)→mget qI op L=none
 | [],_=>rfl
 | (a,v) :: L,h=>by
  unfold mget
  rw [if_neg (by rw [h (a,v) (by simp)]; simp)]
  exact mget_none op L fun x hx=>h x (by simp [hx])
theorem f150_eq (k:Nat) (op:Int):(f150 k).bind (fun r=>some (mget qI op r))=some (toN (shp op)):=by
 refine op_cases (P:=fun op=>(f150 k).bind (fun r=>some (mget qI op r))=some (toN (shp op))) op ?_ ?_
 ·intro n hn
  match n,hn with
  | 0,_=>rfl | 1,_=>rfl | 2,_=>rfl | 3,_=>rfl | 4,_=>rfl | 5,_=>rfl | 6,_=>rfl | 7,_=>rfl | 8,_=>rfl | 9,_=>rfl
  | 10,_=>rfl | 11,_=>rfl | 12,_=>rfl | 13,_=>rfl | 14,_=>rfl | 15,_=>rfl | 16,_=>rfl | 17,_=>rfl | 18,_=>rfl | 19,_=>rfl
  | 20,_=>rfl | 21,_=>rfl | 22,_=>rfl | 23,_=>rfl | 24,_=>rfl | 25,_=>rfl | 26,_=>rfl | 27,_=>rfl | 28,_=>rfl
  | n + 29,h=>omega
 ·intro h
  rw [shp_none h]
  obtain ⟨L,hL,hA⟩ : ∃ L,f150 k=some L∧(L.all fun x=>decide (1≤x.1) && decide (x.1≤29))=true:=⟨_,rfl,rfl⟩
  rw [hL]
  simp only [Option.bind_some]
  rw [mget_none op L]
  ·rfl
  ·intro x hx
   have:=List.all_eq_true.mp hA x hx
   simp only [Bool.and_eq_true,decide_eq_true_eq] at this
   unfold qI; rw [beq_eq_false_iff_ne]; omega
def flagN (op:Int) (name:ByteArray) (flag:Int) (l8 l9:Int):Bool :=
 let b0:=(IntKind.i64.wrap (BitVec.ofInt IntKind.i64.bits flag &&& BitVec.ofInt IntKind.i64.bits 1).toNat) == 1
 let b1:=(IntKind.i64.wrap (BitVec.ofInt IntKind.i64.bits flag &&& BitVec.ofInt IntKind.i64.bits 2).toNat) == 2
 cond (op == 6) (decide (flag ≥ 0) && decide (flag≤1) && (flag == 0 || !seq name ⟨#[]⟩) && l8 == 0 && l9 == 0)
 (cond (op == 7) (decide (flag ≥ 0) && decide (flag≤2) && l8 == 0 && l9 == 0)
 (cond (op == 22) (decide (flag ≥ 0) && decide (flag≤1) && l8 == 0 && l9 == 0)
 (cond (op == 20) (decide (flag ≥ 0) && decide (flag≤1) && (flag == 1 || l8 == 0) && l9 == 0)
 (cond (op == 24) (decide (flag ≥ 1) && decide (flag≤3) && ((!seq name ⟨#[]⟩) == b0) && (b0 || l8 == 0) && (b1 || l9 == 0))
 (cond (op == 28) (decide (flag ≥ 0) && decide (flag≤66) && decide (flag.tmod 4 < 3) && l8 == 0 && l9 == 0)
  (flag == 0 && l8 == 0 && l9 == 0))))))
theorem f151_eq (k:Nat) (op:Int) (name:ByteArray) (s2:Int) (fr:ByteArray) (s4 flag:Int) (l6:List DExpr) (l7 l8 l9:List DStmt) (l10:List DCase) :
  f151 k (.mk op name s2 fr s4 flag l6 l7 l8 l9 l10)=some (flagN op name flag l8.length l9.length):=by
 unfold f151 f151_b f151_j3 f151_j1 f151_j2 flagN
 simp only [f116_eq,Option.bind_some,Bool.cond_eq_ite]
 generalize (IntKind.i64.wrap (BitVec.ofInt IntKind.i64.bits flag &&& BitVec.ofInt IntKind.i64.bits 1).toNat == 1)=b0
 generalize (IntKind.i64.wrap (BitVec.ofInt IntKind.i64.bits flag &&& BitVec.ofInt IntKind.i64.bits 2).toNat == 2)=b1
 generalize ((l8.length:Int) == 0)=c8
 generalize ((l9.length:Int) == 0)=c9
 generalize seq name ⟨#[]⟩=e
 grind (splits:=20)
def nameN (nm:Int) (fr:Bool) (name from_:ByteArray):Bool :=
 (seq name ⟨#[]⟩ || (!(nm == 0) && isN name)) && (!seq name ⟨#[]⟩ || !(nm == 1)) && ((!seq from_ ⟨#[]⟩) == fr) && (!fr || isN from_)
def argsN (op lo hi:Int) (bd:Bool) (l6 l7 l10:Int):Bool :=
 decide (l6 ≥ lo) && decide (l6≤hi) && (bd || !decide (l7 > 0)) && (cond (op == 27) (decide (l10 ≥ 1) && decide (l10≤4)) (!decide (l10 > 0)))
section
variable (k:Nat) (F:Fam118) (op:Int) (name:ByteArray) (s2:Int) (from_:ByteArray) (s4 flag:Int) (l6:List DExpr) (l7 l8 l9:List DStmt) (l10:List DCase) (a nm:Int) (fr:Bool) (lo hi:Int) (bd:Bool) (n d:Int) (z q:Bool)
theorem f138_j3_eq:f138_j3 k F op l6 l7 l8 l9 l10 a lo hi bd n d z q =
  cond (!q && argsN op lo hi bd l6.length l7.length l10.length) (f138_l1 k F l6 l7 l8 l9 l10 a l10 0 n d z) (some (.mk n d z,false)):=by
 unfold f138_j3 f138_j4 argsN
 simp only [f116_eq,Option.bind_some,Bool.cond_eq_ite]
 grind (splits:=20)
theorem f138_j2_eq:f138_j2 k F op name from_ l6 l7 l8 l9 l10 a nm fr lo hi bd n d z q =
  cond (!q && nameN nm fr name from_ && argsN op lo hi bd l6.length l7.length l10.length) (f138_l1 k F l6 l7 l8 l9 l10 a l10 0 n d z) (some (.mk n d z,false)):=by
 unfold f138_j2 nameN
 simp only [f63_eq,f138_j3_eq,Option.bind_some,Bool.cond_eq_ite]
 grind (splits:=20)
theorem f138_j1_eq:f138_j1 k F n d z op name s2 from_ s4 flag l6 l7 l8 l9 l10 a nm fr lo hi bd true =
  (f117 k (.mk n d z) a).bind fun x=>match x with
   | (.mk n1 d1 z1,ok)=>cond (ok && ((s2 == 0 && s4 == 0) || z1) && flagN op name flag l8.length l9.length && nameN nm fr name from_ && argsN op lo hi bd l6.length l7.length l10.length)
    (f138_l1 k F l6 l7 l8 l9 l10 a l10 0 n1 d1 z1) (some (.mk n1 d1 z1,false)):=by
 unfold f138_j1
 simp only [Bool.not_true,cond_false]
 congr 1
 funext x
 obtain ⟨⟨n1,d1,z1⟩,ok⟩:=x
 simp only [f151_eq,f138_j2_eq,Option.bind_some,Bool.cond_eq_ite]
 grind (splits:=20)
end
def nameR (nm:Int) (name:ByteArray):Bool:=(nm == 0 && seq name ⟨#[]⟩) || (nm == 1 && isN name) || (nm == 2 && (seq name ⟨#[]⟩ || isN name))
def fromR (fr:Bool) (from_:ByteArray):Bool:=cond fr (isN from_) (seq from_ ⟨#[]⟩)
def flagR (op:Int) (name:ByteArray) (flag:Int) (l8 l9:Int):Bool :=
 (l8 == 0 || (op == 20 && flag == 1) || (op == 24 && flag.tmod 2 == 1)) && (l9 == 0 || (op == 24 && decide (flag ≥ 2))) &&
 cond (op == 6) (flag == 0 || !seq name ⟨#[]⟩) (cond (op == 24) (decide (flag > 0) && ((flag.tmod 2 == 1) == !seq name ⟨#[]⟩)) (cond (op == 28) (decide (flag.tmod 4 < 3)) true))
def casesR (op l10:Int):Bool:=((op == 27) == decide (l10 > 0)) && decide (l10≤4)
section
variable (k:Nat) (F:Fam61) (op:Int) (name:ByteArray) (s2:Int) (from_:ByteArray) (s4 flag:Int) (l6:List DExpr) (l7 l8 l9:List DStmt) (l10:List DCase) (a nm:Int) (fr:Bool) (lo hi:Int) (bd:Bool) (n d:Int) (z q:Bool)
theorem f90_j7_eq:f90_j7 k F op l6 l7 l8 l9 l10 a n d q=f90_l2 k F l7 l8 l9 l10 a l6 0 n d (q || !casesR op l10.length):=by
 unfold f90_j7 f90_j8 casesR
 simp only [f59_eq,Option.bind_some,Bool.cond_eq_ite]
 generalize f90_l2 k F l7 l8 l9 l10 a l6 0 n d=Q
 obtain ⟨A,B,rfl⟩:=bfun Q
 grind (splits:=20)
theorem f90_j4_eq:f90_j4 k F op name flag l6 l7 l8 l9 l10 a n d q=f90_l2 k F l7 l8 l9 l10 a l6 0 n d (q || !(flagR op name flag l8.length l9.length && casesR op l10.length)):=by
 unfold f90_j4 f90_j5 f90_j6 flagR
 simp only [f59_eq,f90_j7_eq,Option.bind_some,Bool.cond_eq_ite]
 generalize f90_l2 k F l7 l8 l9 l10 a l6 0 n d=Q
 generalize casesR op l10.length=c
 generalize (flag.tmod 2 == 1)=b0
 obtain ⟨A,B,rfl⟩:=bfun Q
 grind (splits:=30)
theorem f90_j1_eq:f90_j1 k F op name from_ flag l6 l7 l8 l9 l10 a nm fr bd n d q=f90_l2 k F l7 l8 l9 l10 a l6 0 n d (q || !(nameR nm name && fromR fr from_ && (bd || (l7.length:Int) == 0) && flagR op name flag l8.length l9.length && casesR op l10.length)):=by
 unfold f90_j1 f90_j2 f90_j3 nameR fromR
 simp only [f59_eq,f34_eq,f90_j4_eq,Option.bind_some,Bool.cond_eq_ite]
 generalize f90_l2 k F l7 l8 l9 l10 a l6 0 n d=Q
 generalize casesR op l10.length=c
 generalize flagR op name flag l8.length l9.length=c2
 generalize ((l7.length:Int) == 0)=c7
 obtain ⟨A,B,rfl⟩:=bfun Q
 generalize isN name=n1
 generalize isN from_=n2
 generalize seq name ⟨#[]⟩=e1
 generalize seq from_ ⟨#[]⟩=e2
 grind (splits:=30)
end
def nodeN (op:Int) (name from_:ByteArray) (flag:Int) (l6 l7 l8 l9 l10:Nat):Bool :=
 match shp op with
 | none=>false
 | some (nm,fr,lo,hi,bd,fl)=>flagN op name flag l8 l9 && nameN nm fr name from_ && argsN op lo (if hi=600 then 601 else hi) bd l6 l7 l10
def nodeS (op:Int) (name from_:ByteArray) (flag:Int) (l6 l7 l8 l9 l10:Nat):Bool :=
 match shp op with
 | none=>false
 | some (nm,fr,lo,hi,bd,fl)=>decide ((l6:Int) ≥ lo) && decide ((l6:Int)≤hi) && decide (flag ≥ 0) && decide (flag≤fl) && (nameR nm name && fromR fr from_ && (bd || (l7:Int) == 0) && flagR op name flag l8 l9 && casesR op l10)
theorem isN_ne {s:ByteArray} (h:isN s=true):seq s ⟨#[]⟩=false:=by
 unfold isN at h; cases hs:seq s ⟨#[]⟩ with
 | false=>rfl
 | true=>rw [hs] at h; simp at h
theorem bits (flag:Int) (h1:1≤flag) (h2:flag≤3):(IntKind.i64.wrap (BitVec.ofInt IntKind.i64.bits flag &&& BitVec.ofInt IntKind.i64.bits 1).toNat == 1)=(flag.tmod 2 == 1) ∧
  (IntKind.i64.wrap (BitVec.ofInt IntKind.i64.bits flag &&& BitVec.ofInt IntKind.i64.bits 2).toNat == 2)=decide (flag ≥ 2):=by
 rcases (by omega:flag=1∨flag=2∨flag=3) with rfl | rfl | rfl <;> exact ⟨rfl,rfl⟩
theorem nodeNS (op:Int) (name from_:ByteArray) (flag:Int) (l6 l7 l8 l9 l10:Nat) (h6:l6≤600):nodeN op name from_ flag l6 l7 l8 l9 l10=nodeS op name from_ flag l6 l7 l8 l9 l10:=by
 have hn:=@isN_ne name
 have hf:=@isN_ne from_
 have hb:=bits flag
 unfold nodeN nodeS flagN nameN argsN nameR fromR flagR casesR
 generalize (IntKind.i64.wrap (BitVec.ofInt IntKind.i64.bits flag &&& BitVec.ofInt IntKind.i64.bits 1).toNat == 1)=b0 at hb ⊢
 generalize (IntKind.i64.wrap (BitVec.ofInt IntKind.i64.bits flag &&& BitVec.ofInt IntKind.i64.bits 2).toNat == 2)=b1 at hb ⊢
 generalize isN name=n1 at hn ⊢
 generalize isN from_=n2 at hf ⊢
 generalize seq name ⟨#[]⟩=e1 at hn ⊢
 generalize seq from_ ⟨#[]⟩=e2 at hf ⊢
 generalize flag.tmod 2=t2 at hb ⊢
 generalize flag.tmod 4=t4
 by_cases hop:op < 1∨op > 29
 ·rw [shp_none hop]
 rcases (by omega:op=1∨op=2∨op=3∨op=4∨op=5∨op=6∨op=7∨op=8∨op=9∨op=10∨op=11∨op=12∨op=13∨op=14∨op=15∨op=16∨op=17∨op=18∨op=19∨op=20∨op=21∨op=22∨op=23∨op=24∨op=25∨op=26∨op=27∨op=28∨op=29) with rfl | rfl | rfl | rfl | rfl | rfl | rfl | rfl | rfl | rfl | rfl | rfl | rfl | rfl | rfl | rfl | rfl | rfl | rfl | rfl | rfl | rfl | rfl | rfl | rfl | rfl | rfl | rfl | rfl <;>
  simp only [shp,Int.reduceBEq,cond_true,cond_false,Int.reduceEq,if_true,if_false] <;> grind (splits:=20)
end Go.Proofs.YtoajecnoffhlbaaGreatDoor
namespace Go.Proofs.YtoajecnoffhlbaaGreatDoor
open Go
def nodeC (kind:Int) (name:ByteArray) (len:Int):Bool :=
 decide (kind ≥ 1) && decide (kind≤4) && len == (cond (kind == 2) 2 (cond (kind == 4) 0 1)) && cond (kind == 1) (isN name) (seq name ⟨#[]⟩)
mutual
def gS (z:Bool):DStmt→Nat→Bool
 | .mk op name s2 fr s4 flag l6 l7 l8 l9 l10,a=>decide (a≤16) && (z || (s2 == 0 && s4 == 0)) && nodeS op name fr flag l6.length l7.length l8.length l9.length l10.length &&
  (gEs z l6 (a + 1) && (gSs z l7 (a + 1) && (gSs z l8 (a + 1) && (gSs z l9 (a + 1) && gCs z l10 (a + 1)))))
def gSs (z:Bool):List DStmt→Nat→Bool
 | [],_=>true
 | s :: l,a=>gS z s a && gSs z l a
def gC (z:Bool):DCase→Nat→Bool
 | .mk kind name slot es b,a=>decide (a≤16) && (z || slot == 0) && nodeC kind name es.length && (gEs z es (a + 1) && gSs z b (a + 1))
def gCs (z:Bool):List DCase→Nat→Bool
 | [],_=>true
 | .mk kind name slot es b :: l,a=>(!(kind == 4) || l.isEmpty) && gC z (.mk kind name slot es b) a && gCs z l a
end
theorem szS_pos : ∀ e:DStmt,1≤szS e
 | .mk _ _ _ _ _ _ _ _ _ _ _=>by simp only [szS]; omega
theorem szC_pos : ∀ e:DCase,1≤szC e
 | .mk _ _ _ _ _=>by simp only [szC]; omega
theorem NRes.bind {r:Option (Dcounter × Bool)} {f:Dcounter × Bool→Option (Dcounter × Bool)} {g1 g2:Bool} {n s1 s2:Nat} {z:Bool} (h1:NRes r g1 n s1 z)
  (hf : ∀ c,∃ c',f (c,false)=some (c',false)) (h2 : ∀ d,n + s1≤600→NRes (f (.mk ((n + s1:Nat):Int) d z,true)) g2 (n + s1) s2 z):NRes (r.bind f) (g1 && g2) n (s1 + s2) z:=by
 obtain ⟨c,rfl,hc⟩:=h1
 by_cases hg:(g1 && decide (n + s1≤600))=true
 ·obtain ⟨d,rfl⟩:=hc hg
  rw [Bool.and_eq_true,decide_eq_true_eq] at hg
  obtain ⟨h3,h4⟩:=hg
  subst h3
  simp only [h4,decide_true,Bool.and_self,Bool.true_and,Option.bind_some]
  obtain ⟨c,h5,h6⟩:=h2 d h4
  rw [Nat.add_assoc] at h5 h6
  exact ⟨c,h5,h6⟩
 ·have hg' : (g1 && decide (n + s1≤600))=false:=by simpa using hg
  rw [hg']
  obtain ⟨c',h⟩:=hf c
  refine .no h ?_
  rw [Bool.and_eq_false_iff,decide_eq_false_iff_not] at hg' ⊢
  rcases hg' with h | h
  ·left; rw [h]; rfl
  ·right; omega
theorem NRes.conv {r:Option (Dcounter × Bool)} {g g' : Bool} {n s n' s' : Nat} {z:Bool} (h:NRes r g n s z) (hs:n + s=n' + s') (hg:n + s≤600→g=g'):NRes r g' n' s' z:=by
 unfold NRes at h ⊢
 rw [← hs]
 have:(g && decide (n + s≤600))=(g' && decide (n + s≤600)):=by
  by_cases h:n + s≤600
  ·rw [hg h]
  ·simp [h]
 rwa [← this]
theorem f153_res (k:Nat) (z:Bool) (l:List DExpr) (hk:2 * szEs l + 1≤k) (n:Nat) (d:Int) (a:Nat) (hn:n≤600) (ha:a≤17):NRes (f153 k (.mk n d z) l a) (gEs z l a) n (szEs l) z :=
 (nE k z k).2 l hk n d a hn ha
theorem mget4 (kind:Int):mget qI kind (mput qI 4 0 (mput qI 3 1 (mput qI 2 2 (mput qI 1 1 ([]:List (Int × Int)))))) =
  cond (decide (kind ≥ 1) && decide (kind≤4)) (some (cond (kind == 2) 2 (cond (kind == 4) 0 1))) none:=by
 have e:mput qI 4 0 (mput qI 3 1 (mput qI 2 2 (mput qI 1 1 ([]:List (Int × Int)))))=[(1,1),(2,2),(3,1),(4,0)]:=rfl
 rw [e]
 unfold mget mget mget mget mget qI
 simp only [Bool.cond_eq_ite]
 grind
theorem f152_b_eq (k:Nat) (F:Fam118) (kind:Int) (name:ByteArray) (slot:Int) (es:List DExpr) (b:List DStmt) (a n d:Int) (z:Bool) :
  f152_b k F (.mk n d z) (.mk kind name slot es b) a=cond (decide (kind ≥ 1) && decide (kind≤4)) ((f117 k (.mk n d z) a).bind fun x=>match x with
   | (.mk n1 d1 z1,ok)=>cond (ok && (z1 || slot == 0) && nodeC kind name es.length) (f152_j1 k F es b a n1 d1 z1 false) (some (.mk n1 d1 z1,false))) (some (.mk n d z,false)):=by
 unfold f152_b
 simp only [mget4]
 by_cases hk:(decide (kind ≥ 1) && decide (kind≤4))=true
 ·simp only [hk,cond_true,mcase]
  congr 1
  funext x
  obtain ⟨⟨n1,d1,z1⟩,ok⟩:=x
  unfold f152_j1
  have hn:=@isN_ne name
  simp only [f63_eq,Option.bind_some,nodeC,hk,Bool.true_and]
  generalize (cond (kind == 2) (2:Int) (cond (kind == 4) 0 1))=e
  generalize isN name=n1 at hn ⊢
  generalize seq name ⟨#[]⟩=e1 at hn ⊢
  simp only [Bool.cond_eq_ite]
  grind (splits:=20)
 ·have hk' : (decide (kind ≥ 1) && decide (kind≤4))=false:=by simpa using hk
  simp only [hk',cond_false,mcase]
theorem argsN_len {op lo hi:Int} {bd:Bool} {l6 l7:Int} {l10:Nat} (h:argsN op lo hi bd l6 l7 l10=true):l10≤4:=by
 unfold argsN at h
 cases hop:(op == 27) <;> simp only [hop,cond_true,cond_false,Bool.and_eq_true,Bool.not_eq_true',decide_eq_true_eq,decide_eq_false_iff_not] at h <;> omega
theorem nSt (k:Nat) (z:Bool) : ∀ m,m≤k →
  (∀ s,2 * szS s≤m→∀ (n:Nat) (d:Int) (a:Nat),n≤600→a≤17→NRes ((fam118 k m).f138 (.mk n d z) s a) (gS z s a) n (szS s) z) ∧
  (∀ l,2 * szSs l + 1≤m→∀ (n:Nat) (d:Int) (a:Nat),n≤600→a≤17→NRes ((fam118 k m).f118 (.mk n d z) l a) (gSs z l a) n (szSs l) z) ∧
  (∀ c,2 * szC c≤m→∀ (n:Nat) (d:Int) (a:Nat),n≤600→a≤17→NRes ((fam118 k m).f152 (.mk n d z) c a) (gC z c a) n (szC c) z)
 | 0,_=>⟨fun e he=>by have:=szS_pos e; omega,fun l hl=>by omega,fun c hc=>by have:=szC_pos c; omega⟩
 | m + 1,hmk=>by
  obtain ⟨ihs,ihl,ihc⟩:=nSt k z m (by omega)
  refine ⟨?_,?_,?_⟩
  ·intro s hs n d a hn ha
   obtain ⟨op,name,s2,fr,s4,flag,l6,l7,l8,l9,l10⟩:=s
   simp only [szS] at hs
   show NRes (f138_b k (fam118 k m) (.mk n d z) (.mk op name s2 fr s4 flag l6 l7 l8 l9 l10) a) _ _ _ _
   have tail : ∀ (n:Nat) (d:Int),a≤16→n≤600→NRes (f138_l1 k (fam118 k m) l6 l7 l8 l9 l10 a [] l10.length n d z) (gEs z l6 (a + 1) && (gSs z l7 (a + 1) && (gSs z l8 (a + 1) && gSs z l9 (a + 1)))) n (szEs l6 + (szSs l7 + (szSs l8 + szSs l9))) z:=by
    intro n d ha hn
    unfold f138_l1
    rw [w64_nat (n:=a + 1) (by omega) (by omega)]
    refine (f153_res k z l6 (by omega) n d (a + 1) hn (by omega)).bind (fun c=>by obtain ⟨_,_,_⟩:=c; exact ⟨_,rfl⟩) fun d hn=>?_
    refine (ihl l7 (by omega) _ d (a + 1) hn (by omega)).bind (fun c=>by obtain ⟨_,_,_⟩:=c; exact ⟨_,rfl⟩) fun d hn=>?_
    refine (ihl l8 (by omega) _ d (a + 1) hn (by omega)).bind (fun c=>by obtain ⟨_,_,_⟩:=c; exact ⟨_,rfl⟩) fun d hn=>?_
    refine ((ihl l9 (by omega) _ d (a + 1) hn (by omega)).bind (g2:=true) (s2:=0) (fun c=>by obtain ⟨_,_,_⟩:=c; exact ⟨_,rfl⟩) fun d hn=>?_).conv (by omega) (fun _=>by simp)
    exact .yes rfl (by simp [hn])
   have loop:a≤16→l10.length≤4→∀ (rest:List DCase) (i:Nat) (n:Nat) (d:Int),2 * szCs rest≤m→i + rest.length=l10.length→n≤600 →
     NRes (f138_l1 k (fam118 k m) l6 l7 l8 l9 l10 a rest i n d z) (gCs z rest (a + 1) && (gEs z l6 (a + 1) && (gSs z l7 (a + 1) && (gSs z l8 (a + 1) && gSs z l9 (a + 1))))) n (szCs rest + (szEs l6 + (szSs l7 + (szSs l8 + szSs l9)))) z:=by
    intro ha h10 rest
    induction rest with
    | nil =>
     intro i n d _ hi hn
     obtain rfl:i=l10.length:=by simpa using hi
     exact (tail n d ha hn).conv (by simp [szCs]) (fun _=>by simp [gCs])
    | cons c rest ih =>
     intro i n d hm hi hn
     obtain ⟨e0,e1,e2,e3,e4⟩:=c
     simp only [szCs,List.length_cons] at hm hi
     unfold f138_l1
     rw [w64_nat (x:=(a:Int) + 1) (n:=a + 1) (by omega) (by omega),w64_nat (x:=(l10.length:Int) - 1) (n:=l10.length - 1) (by omega) (by omega)]
     have step:NRes (((fam118 k m).f152 (.mk n d z) (.mk e0 e1 e2 e3 e4) ((a + 1:Nat):Int)).bind fun q_=>match q_ with | (.mk z1467_0 z1467_1 z1467_2,r1468)=>(f138_j6 k (fam118 k m) i z1467_0 z1467_1 z1467_2 (!r1468) (f138_l1 k (fam118 k m) l6 l7 l8 l9 l10 a rest)))
       (gC z (.mk e0 e1 e2 e3 e4) (a + 1) && (gCs z rest (a + 1) && (gEs z l6 (a + 1) && (gSs z l7 (a + 1) && (gSs z l8 (a + 1) && gSs z l9 (a + 1)))))) n (szC (.mk e0 e1 e2 e3 e4) + (szCs rest + (szEs l6 + (szSs l7 + (szSs l8 + szSs l9))))) z :=
      (ihc (.mk e0 e1 e2 e3 e4) (by omega) n d (a + 1) hn (by omega)).bind (fun c=>by obtain ⟨_,_,_⟩:=c; exact ⟨_,rfl⟩) fun d hn=>ih (i + 1) _ d (by omega) (by omega) hn
     by_cases h4:(e0 == 4)=true
     ·simp only [h4,cond_true]
      by_cases hl:i < l10.length - 1
      ·have:((i:Int) < ((l10.length - 1:Nat):Int)):=by omega
       simp only [this,decide_true,cond_true]
       refine .no rfl ?_
       have:rest.isEmpty=false:=by cases rest with
        | nil=>simp at hi; omega
        | cons=>rfl
       simp [gCs,h4,this]
      ·have : ¬ ((i:Int) < ((l10.length - 1:Nat):Int)):=by omega
       simp only [this,decide_false,cond_false]
       have:rest.isEmpty=true:=by cases rest with
        | nil=>rfl
        | cons=>simp at hi; omega
       exact step.conv (by simp only [szCs]; omega) (fun _=>by simp [gCs,this,Bool.and_assoc])
     ·have h4' : (e0 == 4)=false:=by simpa using h4
      simp only [h4',cond_false]
      exact step.conv (by simp only [szCs]; omega) (fun _=>by simp [gCs,h4',Bool.and_assoc])
   unfold f138_b
   obtain ⟨L,hL⟩ : ∃ L,f150 k=some L:=⟨_,rfl⟩
   have hg:=f150_eq k op
   rw [hL] at hg ⊢
   simp only [Option.bind_some,Option.some.injEq] at hg ⊢
   rw [hg]
   cases hsh:shp op with
   | none =>
    have:nodeS op name fr flag l6.length l7.length l8.length l9.length l10.length=false:=by unfold nodeS; rw [hsh]
    refine .no (c:=.mk n d z) ?_ (by simp [gS,this])
    simp only [toN,mcase]
    unfold f138_j1
    simp only [Bool.not_false,cond_true,f138_j2_eq]
    rfl
   | some t =>
    obtain ⟨nm,frm,lo,hi,bd,fl⟩:=t
    simp only [toN,mcase,f138_j1_eq,f117_eq k n d z a hn,Option.bind_some]
    have hN:nodeN op name fr flag l6.length l7.length l8.length l9.length l10.length=(flagN op name flag l8.length l9.length && nameN nm frm name fr && argsN op lo (if hi=600 then 601 else hi) bd l6.length l7.length l10.length):=by unfold nodeN; rw [hsh]
    rw [Bool.and_assoc,Bool.and_assoc,← Bool.and_assoc (flagN _ _ _ _ _),← hN]
    have hl6:=len_szEs l6
    by_cases h1:n + 1≤600∧a≤16
    ·obtain ⟨h1,h2⟩:=h1
     by_cases h3:((s2 == 0 && s4 == 0) || z)=true
     ·by_cases h4:nodeN op name fr flag l6.length l7.length l8.length l9.length l10.length=true
      ·have h10:l10.length≤4:=by
        rw [hN] at h4
        rw [Bool.and_eq_true] at h4
        exact argsN_len h4.2
       simp only [h1,h2,h3,h4,decide_true,Bool.and_self,cond_true]
       refine (loop h2 h10 l10 0 (n + 1) (imax d a) (by omega) (by omega) h1).conv (by simp only [szS]; omega) (fun hh=>?_)
       have h5:nodeS op name fr flag l6.length l7.length l8.length l9.length l10.length=true:=by rw [← nodeNS _ _ _ _ _ _ _ _ _ (by omega)]; exact h4
       simp only [gS,h2,decide_true,h5]
       rw [Bool.or_comm] at h3
       simp only [h3,Bool.and_self,Bool.true_and]
       cases gCs z l10 (a + 1) <;> cases gEs z l6 (a + 1) <;> cases gSs z l7 (a + 1) <;> cases gSs z l8 (a + 1) <;> cases gSs z l9 (a + 1) <;> rfl
      ·have h4' : nodeN op name fr flag l6.length l7.length l8.length l9.length l10.length=false:=by simpa using h4
       simp only [h4',Bool.and_false,cond_false]
       refine .no rfl ?_
       by_cases hh:n + szS (.mk op name s2 fr s4 flag l6 l7 l8 l9 l10)≤600
       ·have h5:nodeS op name fr flag l6.length l7.length l8.length l9.length l10.length=false:=by
         rw [← nodeNS _ _ _ _ _ _ _ _ _ (by simp only [szS] at hh; omega)]; exact h4'
        simp [gS,h5]
       ·simp [hh]
     ·have h3' : ((s2 == 0 && s4 == 0) || z)=false:=by simpa using h3
      simp only [h3',Bool.false_and,Bool.and_false,cond_false]
      refine .no rfl ?_
      rw [Bool.or_comm] at h3'
      simp only [gS,h3',Bool.false_and,Bool.and_false]
    ·have h1' : (decide (n + 1≤600) && decide (a≤16))=false:=by
      simp only [Bool.and_eq_false_iff,decide_eq_false_iff_not]; omega
     simp only [h1',Bool.false_and,cond_false]
     refine .no rfl ?_
     rw [Bool.and_eq_false_iff,decide_eq_false_iff_not]
     by_cases h2:a≤16
     ·right; simp only [szS]; omega
     ·left; simp [gS,h2]
  ·intro l hl n d a hn ha
   show NRes (f118_l1 k (fam118 k m) a l 0 n d z) _ _ _ _
   have loop : ∀ (l:List DStmt) (i:Nat) (n:Nat) (d:Int),2 * szSs l≤m→n≤600→NRes (f118_l1 k (fam118 k m) a l i n d z) (gSs z l a) n (szSs l) z:=by
    intro l
    induction l with
    | nil=>intro i n d _ hn; exact .yes rfl (by simp [gSs,szSs,hn])
    | cons e l ih =>
     intro i n d hm hn
     obtain ⟨e0,e1,e2,e3,e4,e5,e6,e7,e8,e9,e10⟩:=e
     unfold f118_l1
     simp only [szSs] at hm
     exact (ihs (.mk e0 e1 e2 e3 e4 e5 e6 e7 e8 e9 e10) (by omega) n d a hn ha).bind (fun c=>by obtain ⟨_,_,_⟩:=c; exact ⟨_,rfl⟩) fun d hn=>ih (i + 1) _ d (by omega) hn
   exact loop l 0 n d (by omega) hn
  ·intro c hc n d a hn ha
   obtain ⟨kind,name,slot,es,b⟩:=c
   simp only [szC] at hc
   show NRes (f152_b k (fam118 k m) (.mk n d z) (.mk kind name slot es b) a) _ _ _ _
   rw [f152_b_eq]
   by_cases hk:(decide (kind ≥ 1) && decide (kind≤4))=true
   ·simp only [hk,cond_true]
    rw [f117_eq k n d z a hn]
    simp only [Option.bind_some]
    by_cases h1:n + 1≤600∧a≤16
    ·obtain ⟨h1,h2⟩:=h1
     by_cases h3:((z || slot == 0) && nodeC kind name es.length)=true
     ·rw [Bool.and_assoc,h3]
      simp only [h1,h2,decide_true,Bool.and_self,cond_true]
      unfold f152_j1
      simp only [cond_false]
      rw [w64_nat (x:=(a:Int) + 1) (n:=a + 1) (by omega) (by omega)]
      refine NRes.conv (g:=gEs z es (a + 1) && (gSs z b (a + 1) && true)) (n:=n + 1) (s:=szEs es + (szSs b + 0)) ?_ (by simp only [szC]; omega) (fun _=>?_)
      ·refine (f153_res k z es (by omega) (n + 1) _ (a + 1) h1 (by omega)).bind (fun c=>by obtain ⟨_,_,_⟩:=c; exact ⟨_,rfl⟩) fun d hn=>?_
       refine (ihl b (by omega) _ d (a + 1) hn (by omega)).bind (fun c=>by obtain ⟨_,_,_⟩:=c; exact ⟨_,rfl⟩) fun d hn=>?_
       exact .yes rfl (by simp [hn])
      ·simp only [gC,h2,decide_true,Bool.true_and,Bool.and_true,h3]
     ·have h3' : ((z || slot == 0) && nodeC kind name es.length)=false:=by simpa using h3
      rw [Bool.and_assoc,h3',Bool.and_false]
      refine .no rfl ?_
      rw [gC,Bool.and_assoc (decide (a≤16)),h3']
      simp
    ·have h1' : (decide (n + 1≤600) && decide (a≤16))=false:=by
      simp only [Bool.and_eq_false_iff,decide_eq_false_iff_not]; omega
     simp only [h1',Bool.false_and,cond_false]
     refine .no rfl ?_
     rw [Bool.and_eq_false_iff,decide_eq_false_iff_not]
     by_cases h2:a≤16
     ·right; simp only [szC]; omega
     ·left; simp [gC,h2]
   ·have hk' : (decide (kind ≥ 1) && decide (kind≤4))=false:=by simpa using hk
    simp only [hk',cond_false]
    exact .no rfl (by simp only [gC,nodeC,hk',Bool.false_and,Bool.and_false])
end Go.Proofs.YtoajecnoffhlbaaGreatDoor
namespace Go.Proofs.YtoajecnoffhlbaaGreatDoor
open Go
section
variable (k:Nat) (F:Fam61) (op:Int) (name:ByteArray) (s2:Int) (from_:ByteArray) (s4 flag:Int) (l6:List DExpr) (l7 l8 l9:List DStmt) (l10:List DCase) (a nm:Int) (fr:Bool) (lo hi:Int) (bd:Bool) (n d:Int) (z q:Bool)
theorem f90_b_eq:f90_b k F (.mk n d false) (.mk op name s2 from_ s4 flag l6 l7 l8 l9 l10) a=(f60 k (.mk n d false) a).bind fun x=>match x with
  | .mk n1 d1 q1=>f90_l2 k F l7 l8 l9 l10 a l6 0 n1 d1 (q1 || !((s2 == 0 && s4 == 0) && nodeS op name from_ flag l6.length l7.length l8.length l9.length l10.length)):=by
 unfold f90_b
 simp only [cond_false]
 congr 1
 funext x
 obtain ⟨n1,d1,q1⟩:=x
 simp only [f109_eq,Option.bind_some,f59_eq,f90_j1_eq,nodeS]
 cases shp op with
 | none =>
  simp only [toR,cond_false,Bool.and_false,Bool.not_false,Bool.or_true,Bool.true_or]
 | some t =>
  obtain ⟨nm,frm,lo,hi,bd,fl⟩:=t
  simp only [toR,cond_true]
  generalize (nameR nm name && fromR frm from_ && (bd || ((l7.length:Int) == 0)) && flagR op name flag l8.length l9.length && casesR op l10.length)=g
  generalize f90_l2 k F l7 l8 l9 l10 a l6 0 n1 d1=Q
  obtain ⟨A,B,rfl⟩:=bfun Q
  simp only [Bool.cond_eq_ite]
  grind (splits:=20)
theorem f111_b_eq (kind:Int) (slot:Int) (es:List DExpr) (b:List DStmt):f111_b k F (.mk n d q) (.mk kind name slot es b) a=(f60 k (.mk n d q) a).bind fun x=>match x with
  | .mk n1 d1 q1=>f111_l1 k F b a es 0 n1 d1 (q1 || !((slot == 0) && nodeC kind name es.length)):=by
 unfold f111_b
 simp only
 congr 1
 funext x
 obtain ⟨n1,d1,q1⟩:=x
 unfold f111_j1 f111_j2 f111_j3
 simp only [Option.bind_some,f59_eq,f34_eq,nodeC]
 generalize f111_l1 k F b a es 0 n1 d1=Q
 obtain ⟨A,B,rfl⟩:=bfun Q
 generalize (slot == 0)=b5
 generalize isN name=b6
 generalize seq name ⟨#[]⟩=b7
 simp only [Bool.cond_eq_ite]
 grind (splits:=20)
end
theorem f61_wrong (k:Nat) (F:Fam61) (a:Int) (l:List DStmt) (i:Nat) (x d:Int):f61_l1 k F a l i x d true=some (.mk x d true):=by
 cases l with
 | nil=>rfl
 | cons e l=>obtain ⟨_,_,_,_,_,_,_,_,_,_,_⟩:=e; rfl
theorem RRes.conv {r:Option DSize} {g g' : Bool} {n s n' s' : Nat} {q q' : Bool} (h:RRes r g n s q) (hs:n + s=n' + s') (hg:(q || !(g && decide (n + s≤600)))=(q' || !(g' && decide (n' + s'≤600)))):RRes r g' n' s' q':=by
 obtain ⟨x,d,q1,h1,h2,h3⟩:=h
 exact ⟨x,d,q1,h1,by rw [h2,hg],by rw [← hs]; exact h3⟩
theorem RRes.node {r:Option DSize} {g b:Bool} {n s a:Nat} (h:RRes r g (n + 1) s (!(decide (n + 1≤600) && decide (a≤16)) || !b)):RRes r (decide (a≤16) && b && g) n (s + 1) false:=by
 refine h.conv (by omega) ?_
 have e:n + (s + 1)=n + 1 + s:=by omega
 rw [e]
 by_cases hh:n + 1 + s≤600
 ·have:n + 1≤600:=by omega
  simp only [hh,this,decide_true]
  cases decide (a≤16) <;> cases b <;> cases g <;> rfl
 ·simp [hh]
theorem f110_res (k:Nat) (e:DExpr) (hk:szE e≤k) (n:Nat) (d:Int) (a:Nat) (hn:n≤600) (ha:a≤17):RRes (f110 k (.mk n d false) e a false) (gE false e a) n (szE e) false :=
 rE k k e hk n d a hn ha
theorem node_hx {n a:Nat} {b:Bool}:(!(decide (n + 1≤600) && decide (a≤16)) || !b)=false→((n + 1:Nat):Int)=((n + 1:Nat):Int)∧n + 1≤600:=by
 intro h; simp at h; exact ⟨rfl,by omega⟩
theorem nodeS_len {op flag:Int} {name fr:ByteArray} {l6 l7 l8 l9 l10:Nat} (h:nodeS op name fr flag l6 l7 l8 l9 l10=true):l10≤1000:=by
 unfold nodeS at h
 cases hs:shp op with
 | none=>rw [hs] at h; cases h
 | some t =>
  obtain ⟨nm,frm,lo,hi,bd,fl⟩:=t
  rw [hs] at h
  simp only [Bool.and_eq_true,casesR,decide_eq_true_eq] at h
  have:=h.2.2.2
  omega
theorem rS (k:Nat) : ∀ m,m≤k →
  (∀ s,2 * szS s≤m→∀ (n:Nat) (d:Int) (a:Nat),n≤600→a≤17→RRes ((fam61 k m).f90 (.mk n d false) s a) (gS false s a) n (szS s) false) ∧
  (∀ l,2 * szSs l + 1≤m→∀ (x:Int) (n:Nat) (d:Int) (q:Bool) (a:Nat),(q=false→x=(n:Int)∧n≤600)→a≤17→RRes ((fam61 k m).f61 (.mk x d q) l a) (gSs false l a) n (szSs l) q) ∧
  (∀ c,2 * szC c≤m→∀ (n:Nat) (d:Int) (a:Nat),n≤600→a≤17→RRes ((fam61 k m).f111 (.mk n d false) c a) (gC false c a) n (szC c) false)
 | 0,_=>⟨fun e he=>by have:=szS_pos e; omega,fun l hl=>by omega,fun c hc=>by have:=szC_pos c; omega⟩
 | m + 1,hmk=>by
  obtain ⟨ihs,ihl,ihc⟩:=rS k m (by omega)
  refine ⟨?_,?_,?_⟩
  ·intro s hs n d a hn ha
   obtain ⟨op,name,s2,fr,s4,flag,l6,l7,l8,l9,l10⟩:=s
   simp only [szS] at hs
   show RRes (f90_b k (fam61 k m) (.mk n d false) (.mk op name s2 fr s4 flag l6 l7 l8 l9 l10) a) _ _ _ _
   rw [f90_b_eq,f60_eq k n d false a hn]
   simp only [Option.bind_some,Bool.false_or]
   have cs:a≤16→l10.length≤1000→∀ (rest:List DCase) (i:Nat) (x:Int) (n:Nat) (d:Int) (q:Bool),2 * szCs rest≤m→i + rest.length=l10.length→(q=false→x=(n:Int)∧n≤600) →
     RRes (f90_l1 k (fam61 k m) l10 a rest i x d q) (gCs false rest (a + 1)) n (szCs rest) q:=by
    intro ha h10 rest
    induction rest with
    | nil=>intro i x n d q _ _ hx; exact .done hx
    | cons c rest ih =>
     intro i x n d q hm hi hx
     obtain ⟨e0,e1,e2,e3,e4⟩:=c
     simp only [szCs,List.length_cons] at hm hi
     unfold f90_l1
     cases q with
     | true=>exact .wrong rfl
     | false =>
      obtain ⟨rfl,hn⟩:=hx rfl
      simp only [Bool.not_false,cond_true]
      rw [w64_nat (x:=(a:Int) + 1) (n:=a + 1) (by omega) (by omega),w64_nat (x:=(l10.length:Int) - 1) (n:=l10.length - 1) (by omega) (by omega)]
      refine ((ihc (.mk e0 e1 e2 e3 e4) (by omega) n d (a + 1) hn (by omega)).bind (g2:=(!(e0 == 4) || rest.isEmpty) && gCs false rest (a + 1)) (s2:=szCs rest) fun x1 d1 q1 h1=>?_).cast ?_ (by simp only [szCs])
      ·have hb:(cond (e0 != 4) ((f59 k (DSize.mk x1 d1 q1) true).bind fun q_=>match q_ with | .mk z931_0 z931_1 z931_2=>(f90_j10 k (fam61 k m) i z931_0 z931_1 z931_2 (f90_l1 k (fam61 k m) l10 a rest))) ((f59 k (DSize.mk x1 d1 q1) ((i:Int) == ((l10.length - 1:Nat):Int))).bind fun q_=>match q_ with | .mk z938_0 z938_1 z938_2=>(f90_j10 k (fam61 k m) i z938_0 z938_1 z938_2 (f90_l1 k (fam61 k m) l10 a rest)))) =
         f90_l1 k (fam61 k m) l10 a rest (i + 1) x1 d1 (q1 || !(!(e0 == 4) || rest.isEmpty)):=by
        have hl:((i:Int) == ((l10.length - 1:Nat):Int))=rest.isEmpty:=by
         cases rest with
         | nil=>simp at hi ⊢; omega
         | cons _ _=>simp at hi ⊢; omega
        simp only [f59_eq,Option.bind_some,hl,bne]
        unfold f90_j10
        cases (e0 == 4) <;> cases rest.isEmpty <;> simp
       rw [hb]
       refine (ih (i + 1) x1 _ d1 _ (by omega) (by omega) (fun h=>h1 ?_)).check
       simp at h; exact h.1
      ·simp only [gCs]
       cases (!(e0 == 4) || rest.isEmpty) <;> cases gC false (.mk e0 e1 e2 e3 e4) (a + 1) <;> rfl
   have fw : ∀ (x d:Int) (l:List DStmt) (a:Int),(fam61 k m).f61 (.mk x d true) l a=some (.mk x d true):=by
    intro x d l a
    cases m with
    | zero=>omega
    | succ m=>exact f61_wrong _ _ _ _ _ _ _
   have w1 : ∀ (x d:Int) (rest:List DCase) (i:Nat),f90_l1 k (fam61 k m) l10 a rest i x d true=some (.mk x d true):=by
    intro x d rest i
    cases rest with
    | nil=>rfl
    | cons c l=>obtain ⟨_,_,_,_,_⟩:=c; rfl
   have w2 : ∀ (x d:Int) (l:List DExpr) (i:Nat),f90_l2 k (fam61 k m) l7 l8 l9 l10 a l i x d true=some (.mk x d true):=by
    intro x d l i
    cases l with
    | nil=>unfold f90_l2 f90_j9; simp only [fw,Option.bind_some,w1]
    | cons c l=>obtain ⟨_,_,_,_,_⟩:=c; unfold f90_l2 f90_j9; simp only [fw,Option.bind_some,w1,Bool.not_true,cond_false]
   have tail:a≤16→l10.length≤1000→∀ (x:Int) (n:Nat) (d:Int) (q:Bool),(q=false→x=(n:Int)∧n≤600) →
     RRes (f90_j9 k (fam61 k m) l7 l8 l9 l10 a x d q) (gSs false l7 (a + 1) && (gSs false l8 (a + 1) && (gSs false l9 (a + 1) && gCs false l10 (a + 1)))) n (szSs l7 + (szSs l8 + (szSs l9 + szCs l10))) q:=by
    intro ha h10 x n d q hx
    unfold f90_j9
    rw [w64_nat (x:=(a:Int) + 1) (n:=a + 1) (by omega) (by omega)]
    refine (ihl l7 (by omega) x n d q (a + 1) hx (by omega)).bind fun x d q hx=>?_
    refine (ihl l8 (by omega) x _ d q (a + 1) hx (by omega)).bind fun x d q hx=>?_
    refine (ihl l9 (by omega) x _ d q (a + 1) hx (by omega)).bind fun x d q hx=>?_
    exact cs ha h10 l10 0 x _ d q (by omega) (by omega) hx
   have loop:a≤16→l10.length≤1000→∀ (l:List DExpr) (i:Nat) (x:Int) (n:Nat) (d:Int) (q:Bool),szEs l≤m→(q=false→x=(n:Int)∧n≤600) →
     RRes (f90_l2 k (fam61 k m) l7 l8 l9 l10 a l i x d q) (gEs false l (a + 1) && (gSs false l7 (a + 1) && (gSs false l8 (a + 1) && (gSs false l9 (a + 1) && gCs false l10 (a + 1))))) n (szEs l + (szSs l7 + (szSs l8 + (szSs l9 + szCs l10)))) q:=by
    intro ha h10 l
    induction l with
    | nil =>
     intro i x n d q _ hx
     unfold f90_l2
     exact (tail ha h10 x n d q hx).cast (by simp [gEs]) (by simp [szEs])
    | cons e l ih =>
     intro i x n d q hm hx
     cases q with
     | true=>rw [w2]; exact .wrong rfl
     | false =>
      obtain ⟨rfl,hn⟩:=hx rfl
      obtain ⟨e0,e1,e2,e3,e4⟩:=e
      unfold f90_l2
      simp only [szEs] at hm
      simp only [Bool.not_false,cond_true]
      rw [w64_nat (x:=(a:Int) + 1) (n:=a + 1) (by omega) (by omega)]
      refine ((f110_res k (.mk e0 e1 e2 e3 e4) (by omega) n d (a + 1) hn (by omega)).bind fun x1 d1 q1 h1=>ih (i + 1) x1 _ d1 q1 (by omega) h1).cast ?_ ?_
      ·simp only [gEs,Bool.and_assoc]
      ·simp only [szEs]; omega
   by_cases hq:(decide (n + 1≤600) && decide (a≤16))=true∧((s2 == 0 && s4 == 0) && nodeS op name fr flag l6.length l7.length l8.length l9.length l10.length)=true
   ·have ha' : a≤16:=by have:=hq.1; simp at this; exact this.2
    have h10:l10.length≤1000:=by
     have h:=hq.2
     rw [Bool.and_eq_true] at h
     exact nodeS_len h.2
    refine RRes.cast (RRes.node (a:=a) (loop ha' h10 l6 0 _ (n + 1) _ _ (by omega) node_hx)) ?_ ?_
    ·simp only [gS,Bool.false_or,← Bool.and_assoc]
    ·simp only [szS]; omega
   ·have hq' : (!(decide (n + 1≤600) && decide (a≤16)) || !((s2 == 0 && s4 == 0) && nodeS op name fr flag l6.length l7.length l8.length l9.length l10.length))=true:=by
     rw [← Bool.not_and,Bool.not_eq_true']; rw [← Bool.and_eq_true] at hq; simpa using hq
    rw [hq',w2]
    refine .bad rfl ?_
    simp only [gS,szS,Bool.false_or]
    by_cases h1:n + 1≤600
    ·by_cases h2:a≤16
     ·have:((s2 == 0 && s4 == 0) && nodeS op name fr flag l6.length l7.length l8.length l9.length l10.length)=false:=by
       cases h:((s2 == 0 && s4 == 0) && nodeS op name fr flag l6.length l7.length l8.length l9.length l10.length) with
       | false=>rfl
       | true=>exact absurd ⟨by simp [h1,h2],h⟩ hq
      rw [Bool.and_assoc (decide (a≤16)),this]; simp
     ·simp [h2]
    ·have : ¬ (n + (szEs l6 + szSs l7 + szSs l8 + szSs l9 + szCs l10 + 1)≤600):=by omega
     simp [this]
  ·intro l hl x n d q a hx ha
   show RRes (f61_l1 k (fam61 k m) a l 0 x d q) _ _ _ _
   have loop : ∀ (l:List DStmt) (i:Nat) (x:Int) (n:Nat) (d:Int) (q:Bool),2 * szSs l≤m→(q=false→x=(n:Int)∧n≤600)→RRes (f61_l1 k (fam61 k m) a l i x d q) (gSs false l a) n (szSs l) q:=by
    intro l
    induction l with
    | nil=>intro i x n d q _ hx; exact .done hx
    | cons e l ih =>
     intro i x n d q hm hx
     obtain ⟨e0,e1,e2,e3,e4,e5,e6,e7,e8,e9,e10⟩:=e
     unfold f61_l1
     cases q with
     | true=>exact .wrong rfl
     | false =>
      obtain ⟨rfl,hn⟩:=hx rfl
      simp only [szSs] at hm
      simp only [Bool.not_false,cond_true]
      exact (ihs (.mk e0 e1 e2 e3 e4 e5 e6 e7 e8 e9 e10) (by omega) n d a hn ha).bind fun x1 d1 q1 h1=>ih (i + 1) x1 _ d1 q1 (by omega) h1
   exact loop l 0 x n d q (by omega) hx
  ·intro c hc n d a hn ha
   obtain ⟨kind,name,slot,es,b⟩:=c
   simp only [szC] at hc
   show RRes (f111_b k (fam61 k m) (.mk n d false) (.mk kind name slot es b) a) _ _ _ _
   rw [f111_b_eq,f60_eq k n d false a hn]
   simp only [Option.bind_some,Bool.false_or]
   have loop:a≤16→∀ (l:List DExpr) (i:Nat) (x:Int) (n:Nat) (d:Int) (q:Bool),szEs l≤m→(q=false→x=(n:Int)∧n≤600)→RRes (f111_l1 k (fam61 k m) b a l i x d q) (gEs false l (a + 1) && gSs false b (a + 1)) n (szEs l + szSs b) q:=by
    intro ha l
    induction l with
    | nil =>
     intro i x n d q _ hx
     unfold f111_l1 f111_j4
     rw [w64_nat (x:=(a:Int) + 1) (n:=a + 1) (by omega) (by omega)]
     refine ((ihl b (by omega) x n d q (a + 1) hx (by omega)).bind (g2:=true) (s2:=0) fun x1 d1 q1 h1=>.done h1).cast ?_ ?_
     ·simp [gEs]
     ·simp [szEs]
    | cons e l ih =>
     intro i x n d q hm hx
     obtain ⟨e0,e1,e2,e3,e4⟩:=e
     unfold f111_l1
     simp only [szEs] at hm
     cases q with
     | true =>
      unfold f111_j4
      simp only [Bool.not_true,cond_false]
      obtain ⟨x1,d1,q1,h1,h2,h3⟩:=ihl b (by omega) x n d true ((a + 1)) hx (by omega)
      rw [w64_nat (x:=(a:Int) + 1) (n:=a + 1) (by omega) (by omega),h1]
      simp at h2; subst h2
      exact .wrong rfl
     | false =>
      obtain ⟨rfl,hn⟩:=hx rfl
      simp only [Bool.not_false,cond_true]
      rw [w64_nat (x:=(a:Int) + 1) (n:=a + 1) (by omega) (by omega)]
      refine ((f110_res k (.mk e0 e1 e2 e3 e4) (by omega) n d (a + 1) hn (by omega)).bind fun x1 d1 q1 h1=>ih (i + 1) x1 _ d1 q1 (by omega) h1).cast ?_ ?_
      ·simp only [gEs,Bool.and_assoc]
      ·simp only [szEs]; omega
   have fw : ∀ (x d:Int) (l:List DStmt) (a:Int),(fam61 k m).f61 (.mk x d true) l a=some (.mk x d true):=by
    intro x d l a
    cases m with
    | zero=>omega
    | succ m=>exact f61_wrong _ _ _ _ _ _ _
   have w2 : ∀ (x d:Int) (l:List DExpr) (i:Nat),f111_l1 k (fam61 k m) b a l i x d true=some (.mk x d true):=by
    intro x d l i
    cases l with
    | nil=>unfold f111_l1 f111_j4; simp only [fw,Option.bind_some]
    | cons c l=>obtain ⟨_,_,_,_,_⟩:=c; unfold f111_l1 f111_j4; simp only [fw,Option.bind_some,Bool.not_true,cond_false]
   by_cases ha' : a≤16
   ·refine RRes.cast (RRes.node (a:=a) (loop ha' es 0 _ (n + 1) _ _ (by omega) node_hx)) ?_ ?_
    ·simp only [gC,Bool.false_or,← Bool.and_assoc]
    ·simp only [szC]
   ·have hq' : (!(decide (n + 1≤600) && decide (a≤16)) || !((slot == 0) && nodeC kind name es.length))=true:=by simp [ha']
    rw [hq',w2]
    exact .bad rfl (by simp [gC,ha'])
end Go.Proofs.YtoajecnoffhlbaaGreatDoor
namespace Go.Proofs.YtoajecnoffhlbaaGreatDoor
open Go
def okP:List DParam→Bool
 | []=>true
 | .mk nm kd :: l=>isN nm && decide (kd ≥ 1) && decide (kd≤6) && okP l
def headF (z:Bool) (name:ByteArray) (np:Nat) (res:Int) (f3:Bool) (s4:Int):Bool :=
 isN name && decide (np≤4) && (z || s4 == 0) && (!f3 || res == 0) && decide (res ≥ 0) && decide (res≤6)
def gFs (z:Bool):List DFunc→Bool
 | []=>true
 | .mk name ps res f3 s4 b :: l=>headF z name ps.length res f3 s4 && (okP ps && (gSs z b 1 && gFs z l))
def cnF:DFunc→Nat | .mk _ _ _ _ _ b=>szSs b + 1
def cnFs:List DFunc→Nat | []=>0 | f :: l=>cnF f + cnFs l
def wf (z:Bool):DProgram→Bool
 | .mk fs=>decide (1≤fs.length) && decide (fs.length≤16) && gFs z fs && decide (cnFs fs≤600)
section
variable (k i:Nat) (body:List DStmt) (n d:Int) (z q:Bool) (nx:Nat→Int→Int→Bool→Option (Dcounter × Bool))
theorem f101_l2_eq : ∀ (ps:List DParam) (j:Nat),f101_l2 k i body n d z nx ps j=cond (okP ps) (f101_l2 k i body n d z nx [] 0) (some (.mk n d z,false))
 | [],j=>rfl
 | .mk nm kd :: ps,j=>by
  have ih:=f101_l2_eq ps
  generalize f101_l2 k i body n d z nx [] 0=A at ih ⊢
  rw [f101_l2]
  simp only [f63_eq,f116_eq,Option.bind_some,f101_j2,ih,okP]
  cases isN nm <;> cases decide (kd ≥ 1) <;> cases decide (kd≤6) <;> rfl
theorem f101_j1_eq (ps:List DParam):f101_j1 k i ps body n d z q nx=cond (!q && okP ps) (f101_l2 k i body n d z nx [] 0) (some (.mk n d z,false)):=by
 unfold f101_j1
 rw [f101_l2_eq]
 cases q <;> rfl
end
theorem f118_res (k:Nat) (z:Bool) (l:List DStmt) (hk:2 * szSs l + 1≤k) (n:Nat) (d:Int) (a:Nat) (hn:n≤600) (ha:a≤17):NRes (f118 k (.mk n d z) l a) (gSs z l a) n (szSs l) z :=
 (nSt k z k (Nat.le_refl k)).2.1 l hk n d a hn ha
theorem f61_res (k:Nat) (l:List DStmt) (hk:2 * szSs l + 1≤k) (x:Int) (n:Nat) (d:Int) (q:Bool) (a:Nat) (hx:q=false→x=(n:Int)∧n≤600) (ha:a≤17):RRes (f61 k (.mk x d q) l a) (gSs false l a) n (szSs l) q :=
 (rS k k (Nat.le_refl k)).2.1 l hk x n d q a hx ha
theorem f101_l1_eq (k:Nat) (name:ByteArray) (ps:List DParam) (res:Int) (f3:Bool) (s4:Int) (b:List DStmt) (l:List DFunc) (i:Nat) (n d:Int) (z:Bool) :
  f101_l1 k (.mk name ps res f3 s4 b :: l) i n d z=(f117 k (.mk n d z) 0).bind fun x=>match x with
   | (.mk n1 d1 z1,ok)=>cond (ok && headF z1 name ps.length res f3 s4 && okP ps) (f101_l2 k i b n1 d1 z1 (f101_l1 k l) [] 0) (some (.mk n1 d1 z1,false)):=by
 rw [f101_l1]
 congr 1
 funext x
 obtain ⟨⟨n1,d1,z1⟩,ok⟩:=x
 simp only [f63_eq,f116_eq,Option.bind_some,f101_j1_eq,headF]
 have e:decide ((ps.length:Int) > 4)=!decide (ps.length≤4):=by rw [← decide_not,decide_eq_decide]; omega
 rw [e]
 simp only [Bool.cond_eq_ite]
 grind (splits:=20)
theorem nFs (k:Nat) (z:Bool) : ∀ (l:List DFunc) (i:Nat) (n:Nat) (d:Int),2 * szFs l + 1≤k→n≤600→NRes (f101_l1 k l i n d z) (gFs z l) n (cnFs l) z
 | [],i,n,d,hk,hn=>.yes rfl (by simp [gFs,cnFs,hn])
 | .mk name ps res f3 s4 b :: l,i,n,d,hk,hn=>by
  simp only [szFs,szF] at hk
  rw [f101_l1_eq]
  have e0:((0:Nat):Int)=0:=rfl
  rw [← e0,f117_eq k n d z 0 hn,e0]
  simp only [Option.bind_some,Nat.zero_le,decide_true,Bool.and_true]
  by_cases h1:n + 1≤600
  ·by_cases h2:(headF z name ps.length res f3 s4 && okP ps)=true
   ·rw [Bool.and_assoc,h2]
    simp only [h1,decide_true,Bool.and_self,cond_true]
    rw [f101_l2]
    refine ((f118_res k z b (by omega) (n + 1) (imax d 0) 1 h1 (by omega)).bind (f:=fun q_=>match q_ with | (.mk z10628_0 z10628_1 z10628_2,r10629)=>(cond (!r10629) (some ((Dcounter.mk z10628_0 z10628_1 z10628_2),false)) (f101_l1 k l (i + 1) z10628_0 z10628_1 z10628_2)))
     (fun c=>by obtain ⟨_,_,_⟩:=c; exact ⟨_,rfl⟩) fun d hn=>nFs k z l (i + 1) _ d (by omega) hn).conv (by simp only [cnFs,cnF]; omega) (fun _=>?_)
    rw [Bool.and_eq_true] at h2
    simp only [gFs,h2.1,h2.2,Bool.true_and]
   ·have h2' : (headF z name ps.length res f3 s4 && okP ps)=false:=by simpa using h2
    rw [Bool.and_assoc,h2',Bool.and_false]
    refine .no rfl ?_
    rw [gFs,← Bool.and_assoc,h2']
    simp
  ·simp only [h1,decide_false,Bool.false_and,cond_false]
   refine .no rfl ?_
   have : ¬ (n + (szSs b + 1 + cnFs l)≤600):=by omega
   simp [cnFs,cnF,this]
theorem f78_eq (k:Nat) (p:DProgram) (z:Bool) (hk:2 * szP p + 1≤k):f78 k p z=some (wf z p):=by
 obtain ⟨fs⟩:=p
 simp only [szP] at hk
 unfold f78 f78_b f101 f101_b
 simp only [f116_eq,Option.bind_some]
 have e1:(decide ((fs.length:Int) ≥ 1) && decide ((fs.length:Int)≤16))=(decide (1≤fs.length) && decide (fs.length≤16)):=by
  congr 1
  ·rw [decide_eq_decide]; omega
  ·rw [decide_eq_decide]; omega
 rw [e1]
 by_cases h:(decide (1≤fs.length) && decide (fs.length≤16))=true
 ·rw [h]
  simp only [Bool.not_true,cond_false]
  obtain ⟨c,h1,h2⟩:=nFs k z fs 0 0 0 (by omega) (by omega)
  have e0:((0:Nat):Int)=0:=rfl
  rw [e0] at h1
  rw [h1]
  obtain ⟨_,_,_⟩:=c
  simp only [Option.bind_some,wf,h,Nat.zero_add,Bool.true_and]
 ·have h' : (decide (1≤fs.length) && decide (fs.length≤16))=false:=by simpa using h
  rw [h']
  simp only [Bool.not_false,cond_true,Option.bind_some,wf,h',Bool.false_and]
section
variable (k i:Nat) (body:List DStmt) (d:Int) (nx:Nat→Int→Int→Bool→Option DSize)
theorem f32_l2_eq : ∀ (ps:List DParam) (j:Nat) (x d:Int) (q:Bool),f32_l2 k i body nx ps j x d q=f32_j4 k i body x d (q || !okP ps) nx
 | [],j,x,d,q=>by simp [f32_l2,okP]
 | .mk nm kd :: ps,j,x,d,q=>by
  unfold f32_l2
  simp only [f34_eq,f59_eq,Option.bind_some,f32_j5,f32_l2_eq ps,okP]
  cases q <;> cases isN nm <;> cases decide (kd ≥ 1) <;> cases decide (kd≤6) <;> rfl
end
theorem f32_l1_eq (k:Nat) (name:ByteArray) (ps:List DParam) (res:Int) (f3:Bool) (s4:Int) (b:List DStmt) (l:List DFunc) (i:Nat) (n d:Int) :
  f32_l1 k (.mk name ps res f3 s4 b :: l) i n d false=(f60 k (.mk n d false) 0).bind fun x=>match x with
   | .mk n1 d1 q1=>f32_j4 k i b n1 d1 (q1 || !(headF false name ps.length res f3 s4 && okP ps)) (f32_l1 k l):=by
 rw [f32_l1]
 simp only [Bool.not_false,cond_true]
 congr 1
 funext x
 obtain ⟨n1,d1,q1⟩:=x
 simp only [f34_eq,f59_eq,Option.bind_some,f32_j3,f32_l2_eq,headF]
 have e:decide ((ps.length:Int)≤4)=decide (ps.length≤4):=by rw [decide_eq_decide]; omega
 rw [e]
 have hQ : ∃ A B,(fun q=>f32_j4 k i b n1 d1 q (f32_l1 k l))=fun b=>if b=true then A else B:=bfun _
 obtain ⟨A,B,hQ⟩:=hQ
 have hQ' : ∀ q,f32_j4 k i b n1 d1 q (f32_l1 k l)=if q=true then A else B:=fun q=>congrFun hQ q
 simp only [hQ']
 generalize decide (ps.length≤4)=b2
 generalize isN name=b1
 generalize okP ps=b3
 generalize (s4 == 0)=b4
 generalize (res == 0)=b5
 simp only [Bool.cond_eq_ite]
 grind (splits:=20)
theorem rFs (k:Nat) : ∀ (l:List DFunc) (i:Nat) (x:Int) (n:Nat) (d:Int) (q:Bool),2 * szFs l + 1≤k→(q=false→x=(n:Int)∧n≤600)→RRes (f32_l1 k l i x d q) (gFs false l) n (cnFs l) q
 | [],i,x,n,d,q,hk,hx=>.done hx
 | .mk name ps res f3 s4 b :: l,i,x,n,d,q,hk,hx=>by
  simp only [szFs,szF] at hk
  cases q with
  | true=>exact .wrong rfl
  | false =>
   obtain ⟨rfl,hn⟩:=hx rfl
   rw [f32_l1_eq]
   have e0:((0:Nat):Int)=0:=rfl
   rw [← e0,f60_eq k n d false 0 hn,e0]
   simp only [Option.bind_some,Bool.false_or]
   unfold f32_j4
   refine RRes.cast (RRes.node (a:=0) (b:=headF false name ps.length res f3 s4 && okP ps) (g:=gSs false b 1 && gFs false l) (s:=szSs b + cnFs l) ?_) ?_ ?_
   ·exact (f61_res k b (by omega) _ (n + 1) _ _ 1 (fun h=>by simp at h; exact ⟨rfl,by omega⟩) (by omega)).bind fun x d q hx=>rFs k l (i + 1) x _ d q (by omega) hx
   ·simp only [gFs,Nat.zero_le,decide_true,Bool.true_and,Bool.and_assoc]
   ·simp only [cnFs,cnF]; omega
theorem f20_eq (k:Nat) (p:DProgram) (hk:2 * szP p + 1≤k):f20 k p=some (wf false p):=by
 obtain ⟨fs⟩:=p
 simp only [szP] at hk
 unfold f20 f20_b f32 f32_b
 simp only [f59_eq,Option.bind_some,f32_j1]
 have e:(cond (decide ((fs.length:Int) ≥ 1)) (f32_l1 k fs 0 0 0 (false || !decide ((fs.length:Int)≤16))) (f32_l1 k fs 0 0 0 (false || !false)))=f32_l1 k fs 0 0 0 (!(decide (1≤fs.length) && decide (fs.length≤16))):=by
  have e1:decide ((fs.length:Int) ≥ 1)=decide (1≤fs.length):=by rw [decide_eq_decide]; omega
  have e2:decide ((fs.length:Int)≤16)=decide (fs.length≤16):=by rw [decide_eq_decide]; omega
  rw [e1,e2]
  cases decide (1≤fs.length) <;> rfl
 rw [e]
 have e0:((0:Nat):Int)=0:=rfl
 obtain ⟨x,d,q',h1,h2,h3⟩:=rFs k fs 0 0 0 0 (!(decide (1≤fs.length) && decide (fs.length≤16))) (by omega) (fun _=>⟨rfl,by omega⟩)
 rw [h1]
 simp only [Option.bind_some,wf,h2,Nat.zero_add]
 cases decide (1≤fs.length) <;> cases decide (fs.length≤16) <;> cases gFs false fs <;> cases decide (cnFs fs≤600) <;> rfl
end Go.Proofs.YtoajecnoffhlbaaGreatDoor
namespace Go.Proofs.YtoajecnoffhlbaaGreatDoor
open Go
def maxB:Nat:=140737488355328
theorem guard_le {α:Type} {a:Nat} {x:Option α} (h:a≤maxB):guardB (decide (a≤140737488355328)) x=x:=by
 unfold maxB at h; unfold guardB; rw [decide_eq_true h]; rfl
theorem app_len {α:Type} (xs:List α) (e:α):(xs ++ [e]).length=xs.length + 1:=by simp
theorem idxO_mid {α:Type} (xs:List α) (e:α) (l:List α) (i:Int) (hi:i=(xs.length:Int)):idxO (xs ++ e :: l) i=some e:=by
 subst hi
 unfold idxO
 rw [if_pos (by omega)]
 simp
end Go.Proofs.YtoajecnoffhlbaaGreatDoor
namespace Go.Proofs.YtoajecnoffhlbaaGreatDoor
open Go
theorem seq_refl (a:ByteArray):seq a a=true:=by unfold seq; simp
theorem sameE (k:Nat) : ∀ m,(∀ e,2 * szE e≤m→(fam48 k m).f87 e e=some true)∧(∀ l,2 * szEs l + 1≤m→(fam48 k m).f48 l l=some true)
 | 0=>⟨fun e h=>by have:=szE_pos e; omega,fun l h=>by omega⟩
 | m + 1=>by
  obtain ⟨ihe,ihl⟩:=sameE k m
  constructor
  ·intro e h
   obtain ⟨e0,e1,e2,e3,e4⟩:=e
   simp only [szE] at h
   show f87_b k (fam48 k m) (.mk e0 e1 e2 e3 e4) (.mk e0 e1 e2 e3 e4)=_
   unfold f87_b f87_j1
   simp only
   rw [ihl e4 (by omega)]
   simp [seq_refl]
  ·intro l h
   show f48_b k (fam48 k m) l l=_
   unfold f48_b
   have loop : ∀ (l:List DExpr) (xs:List DExpr),2 * szEs l≤m→f48_l1 k (fam48 k m) (xs ++ l) l xs.length=some true:=by
    intro l
    induction l with
    | nil=>intro xs _; rfl
    | cons e l ih =>
     intro xs hm
     simp only [szEs] at hm
     obtain ⟨e0,e1,e2,e3,e4⟩:=e
     unfold f48_l1
     rw [idxO_mid xs (.mk e0 e1 e2 e3 e4) l _ rfl]
     simp only [Option.bind_some]
     rw [ihe _ (by omega)]
     have:=ih (xs ++ [.mk e0 e1 e2 e3 e4]) (by omega)
     rw [app_len,List.append_assoc,List.singleton_append] at this
     simp only [Option.bind_some,Bool.not_true,cond_false]
     exact this
   have:=loop l [] (by omega)
   simp only [List.nil_append,List.length_nil] at this
   simp [this]
theorem sameS (k:Nat) : ∀ m l,szSs l + 1≤m→2 * szSs l + 1≤k→(fam21 k m).f21 l l=some true
 | 0,l,h,_=>by omega
 | m + 1,l,h,hk=>by
  show f21_b k (fam21 k m) l l=_
  unfold f21_b
  have cs : ∀ (i:Nat) (nx:Nat→Option Bool) (l:List DCase) (xs:List DCase),szCs l≤m→2 * szCs l≤k→f21_l2 k (fam21 k m) i (xs ++ l) nx l xs.length=nx (i + 1):=by
   intro i nx l
   induction l with
   | nil=>intro xs _ _; rfl
   | cons e l ih =>
    intro xs hm hk
    obtain ⟨e0,e1,e2,e3,e4⟩:=e
    simp only [szCs,szC] at hm hk
    unfold f21_l2
    rw [idxO_mid xs (.mk e0 e1 e2 e3 e4) l _ rfl]
    simp only [Option.bind_some]
    unfold f21_j4 f21_j5 f48
    rw [(sameE k k).2 e3 (by omega),sameS k m e4 (by omega) (by omega)]
    have:=ih (xs ++ [.mk e0 e1 e2 e3 e4]) (by omega) (by omega)
    rw [app_len,List.append_assoc,List.singleton_append] at this
    simp [seq_refl,this]
  have loop : ∀ (l:List DStmt) (xs:List DStmt),szSs l≤m→2 * szSs l≤k→f21_l1 k (fam21 k m) (xs ++ l) l xs.length=some true:=by
   intro l
   induction l with
   | nil=>intro xs _ _; rfl
   | cons e l ih =>
    intro xs hm hk
    obtain ⟨e0,e1,e2,e3,e4,e5,e6,e7,e8,e9,e10⟩:=e
    simp only [szSs,szS] at hm hk
    unfold f21_l1
    rw [idxO_mid xs (.mk e0 e1 e2 e3 e4 e5 e6 e7 e8 e9 e10) l _ rfl]
    simp only [Option.bind_some]
    unfold f21_j1 f21_j2 f21_j3 f48
    rw [(sameE k k).2 e6 (by omega),sameS k m e7 (by omega) (by omega),sameS k m e8 (by omega) (by omega),sameS k m e9 (by omega) (by omega)]
    have:=ih (xs ++ [.mk e0 e1 e2 e3 e4 e5 e6 e7 e8 e9 e10]) (by omega) (by omega)
    rw [app_len,List.append_assoc,List.singleton_append] at this
    have hc:=cs xs.length (f21_l1 k (fam21 k m) (xs ++ .mk e0 e1 e2 e3 e4 e5 e6 e7 e8 e9 e10 :: l) l) e10 [] (by omega) (by omega)
    simp only [List.nil_append,List.length_nil] at hc
    simp [seq_refl,hc,this]
  have:=loop l [] (by omega) (by omega)
  simp only [List.nil_append,List.length_nil] at this
  simp [this]
theorem f17_eq (k:Nat) (p:DProgram) (hk:2 * szP p + 1≤k):f17 k p p=some true:=by
 obtain ⟨fs⟩:=p
 simp only [szP] at hk
 unfold f17 f17_b
 simp only
 have ps : ∀ (i:Nat) (nx:Nat→Option Bool) (l:List DParam) (xs:List DParam),f17_l2 k i (xs ++ l) nx l xs.length=nx (i + 1):=by
  intro i nx l
  induction l with
  | nil=>intro xs; rfl
  | cons e l ih =>
   intro xs
   obtain ⟨e0,e1⟩:=e
   unfold f17_l2
   rw [idxO_mid xs (.mk e0 e1) l _ rfl]
   have:=ih (xs ++ [.mk e0 e1])
   rw [app_len,List.append_assoc,List.singleton_append] at this
   simp [seq_refl,this]
 have loop : ∀ (l:List DFunc) (xs:List DFunc),2 * szFs l + 1≤k→f17_l1 k (xs ++ l) l xs.length=some true:=by
  intro l
  induction l with
  | nil=>intro xs _; rfl
  | cons e l ih =>
   intro xs hk
   obtain ⟨e0,e1,e2,e3,e4,e5⟩:=e
   simp only [szFs,szF] at hk
   unfold f17_l1
   rw [idxO_mid xs (.mk e0 e1 e2 e3 e4 e5) l _ rfl]
   simp only [Option.bind_some]
   unfold f17_j1 f17_j2 f21
   rw [sameS k k e5 (by omega) (by omega)]
   have:=ih (xs ++ [.mk e0 e1 e2 e3 e4 e5]) (by omega)
   rw [app_len,List.append_assoc,List.singleton_append] at this
   have hp:=ps xs.length (f17_l1 k (xs ++ .mk e0 e1 e2 e3 e4 e5 :: l) l) e1 []
   simp only [List.nil_append,List.length_nil] at hp
   simp [seq_refl,hp,this]
 have:=loop fs [] (by omega)
 simp only [List.nil_append,List.length_nil] at this
 simp [this]
theorem f100_tot (k:Nat) : ∀ m l (a:Int),szEs l + 1≤m→∃ r,(fam100 k m).f100 l a=some r
 | 0,l,a,h=>by omega
 | m + 1,l,a,h=>by
  show ∃ r,f100_b k (fam100 k m) l a=some r
  unfold f100_b
  have loop : ∀ (l:List DExpr) (i:Nat) (n:Int),szEs l≤m→∃ r,f100_l1 k (fam100 k m) a l i n=some r:=by
   intro l
   induction l with
   | nil=>intro i n _; exact ⟨_,rfl⟩
   | cons e l ih =>
    intro i n hm
    obtain ⟨e0,e1,e2,e3,e4⟩:=e
    simp only [szEs,szE] at hm
    unfold f100_l1
    cases decide (n≤2000)
    ·exact ⟨_,rfl⟩
    ·obtain ⟨r,hr⟩:=f100_tot k m e4 (w64 (a + 1)) (by omega)
     rw [hr]
     exact ih _ _ (by omega)
  cases decide (a > 60)
  ·exact loop l 0 0 (by omega)
  ·exact ⟨_,rfl⟩
theorem f76_tot (k:Nat) : ∀ m l (a:Int),szSs l + 1≤m→szSs l + 1≤k→∃ r,(fam76 k m).f76 l a=some r
 | 0,l,a,h,_=>by omega
 | m + 1,l,a,h,hk=>by
  show ∃ r,f76_b k (fam76 k m) l a=some r
  unfold f76_b
  have cs : ∀ (i:Nat) (nx:Nat→Int→Option Int) (hnx : ∀ n,∃ r,nx (i + 1) n=some r) (l:List DCase) (j:Nat) (n:Int),szCs l≤m→szCs l≤k→∃ r,f76_l2 k (fam76 k m) a i nx l j n=some r:=by
   intro i nx hnx l
   induction l with
   | nil=>intro j n _ _; exact hnx _
   | cons e l ih =>
    intro j n hm hk
    obtain ⟨e0,e1,e2,e3,e4⟩:=e
    simp only [szCs,szC] at hm hk
    unfold f76_l2 f100
    cases decide (n≤2000)
    ·exact hnx _
    ·obtain ⟨r,hr⟩:=f100_tot k k e3 (w64 (a + 1)) (by omega)
     obtain ⟨r2,hr2⟩:=f76_tot k m e4 (w64 (a + 1)) (by omega) (by omega)
     rw [hr,cond_true,Option.bind_some,hr2]
     exact ih _ _ (by omega) (by omega)
  have loop : ∀ (l:List DStmt) (i:Nat) (n:Int),szSs l≤m→szSs l≤k→∃ r,f76_l1 k (fam76 k m) a l i n=some r:=by
   intro l
   induction l with
   | nil=>intro i n _ _; exact ⟨_,rfl⟩
   | cons e l ih =>
    intro i n hm hk
    obtain ⟨e0,e1,e2,e3,e4,e5,e6,e7,e8,e9,e10⟩:=e
    simp only [szSs,szS] at hm hk
    unfold f76_l1 f100
    cases decide (n≤2000)
    ·exact ⟨_,rfl⟩
    ·obtain ⟨r,hr⟩:=f100_tot k k e6 (w64 (a + 1)) (by omega)
     obtain ⟨r7,hr7⟩:=f76_tot k m e7 (w64 (a + 1)) (by omega) (by omega)
     obtain ⟨r8,hr8⟩:=f76_tot k m e8 (w64 (a + 1)) (by omega) (by omega)
     obtain ⟨r9,hr9⟩:=f76_tot k m e9 (w64 (a + 1)) (by omega) (by omega)
     rw [hr,cond_true,Option.bind_some,hr7,Option.bind_some,hr8,Option.bind_some,hr9]
     exact cs i _ (fun n=>ih _ _ (by omega) (by omega)) e10 0 _ (by omega) (by omega)
  cases decide (a > 40)
  ·exact loop l 0 0 (by omega) (by omega)
  ·exact ⟨_,rfl⟩
theorem f13_tot (k:Nat) (p:DProgram) (hk:2 * szP p + 1≤k) : ∃ b,f13 k p=some b:=by
 obtain ⟨fs⟩:=p
 simp only [szP] at hk
 have loop : ∀ (l:List DFunc) (i:Nat) (n:Int),szFs l + 1≤k→∃ r,f40_l1 k l i n=some r:=by
  intro l
  induction l with
  | nil=>intro i n _; exact ⟨_,rfl⟩
  | cons e l ih =>
   intro i n hk
   obtain ⟨e0,e1,e2,e3,e4,e5⟩:=e
   simp only [szFs,szF] at hk
   unfold f40_l1 f76
   cases decide (n≤2000)
   ·exact ⟨_,rfl⟩
   ·obtain ⟨r,hr⟩:=f76_tot k k e5 0 (by omega) (by omega)
    rw [hr]
    exact ih _ _ (by omega)
 obtain ⟨r,hr⟩:=loop fs 0 0 (by omega)
 exact ⟨r,by unfold f13 f13_b f40 f40_b; simp [hr]⟩
theorem f14_eq (k:Nat):f14 (k + 100)=some true:=by kernel_rfl
end Go.Proofs.YtoajecnoffhlbaaGreatDoor
namespace Go.Proofs.YtoajecnoffhlbaaGreatDoor
open Go
abbrev Ex (α:Type):=Except Int α
def slotOf (nm:List ByteArray) (vis:List Nat) (a:ByteArray):Option Nat :=
 vis.find? fun v=>match nm[v]? with | some b=>seq b a | none=>false
mutual
def uE (nm:List ByteArray) (vis:List Nat):DExpr→Ex DExpr
 | .mk op num txt slot l=>match uEs nm vis l with
  | .error c=>.error c
  | .ok l'=>cond (op == 4) (match slotOf nm vis txt with | none=>.error 20 | some v=>.ok (.mk op num txt (v:Int) l')) (.ok (.mk op num txt 0 l'))
def uEs (nm:List ByteArray) (vis:List Nat):List DExpr→Ex (List DExpr)
 | []=>.ok []
 | e :: l=>match uE nm vis e with
  | .error c=>.error c
  | .ok e'=>match uEs nm vis l with
   | .error c=>.error c
   | .ok l'=>.ok (e' :: l')
end
def lkU (a:ByteArray):List (List (ByteArray × Int))→Option Int
 | []=>none
 | d :: sc=>match mget seq a d with
  | some v=>some v
  | none=>lkU a sc
def okV (nm:List ByteArray) (vis:List Nat):Prop:=∀ v ∈ vis,v < nm.length
structure Rel (sc:List (List (ByteArray × Int))) (vis:List Nat) (nm:List ByteArray):Prop where
 look : ∀ a,lkU a sc=(slotOf nm vis a).map (fun (v:Nat)=>(v:Int))
 ok:okV nm vis
theorem f119_eq (k:Nat) (p:List DFunc) (f:DFunc) (nm:List ByteArray) (sc:List (List (ByteArray × Int))) (lo:Int) (a:ByteArray) :
  f119 k (.mk (.mk p) f nm sc lo) a=some (match lkU a sc with | some v=>(v,true) | none=>(0,false)):=by
 obtain ⟨f0,f1,f2,f3,f4,f5⟩:=f
 have h : ∀ (sc:List (List (ByteArray × Int))) (i:Nat),f119_l1 k a sc i=some (match lkU a sc with | some v=>(v,true) | none=>(0,false)):=by
  intro sc
  induction sc with
  | nil=>intro i; rfl
  | cons d sc ih =>
   intro i
   unfold f119_l1 lkU
   rw [ih]
   cases mget seq a d <;> rfl
 exact h sc 0
theorem Rel.f119 {k:Nat} {p:List DFunc} {f:DFunc} {nm:List ByteArray} {sc:List (List (ByteArray × Int))} {lo:Int} {vis:List Nat} (R:Rel sc vis nm) (a:ByteArray) :
  Go.Proofs.YtoajecnoffhlbaaGreatDoor.f119 k (.mk (.mk p) f nm sc lo) a=some (match slotOf nm vis a with | some v=>((v:Int),true) | none=>(0,false)):=by
 rw [f119_eq,R.look]
 cases slotOf nm vis a <;> rfl
theorem f58_eq (k:Nat) (b:Bool) (c:Int):f58 k b c=some (cond b (.ok ()) (.error c)):=by cases b <;> rfl
theorem nU (k:Nat) (p:List DFunc) (f:DFunc) {nm:List ByteArray} {sc:List (List (ByteArray × Int))} (lo:Int) {vis:List Nat} (R:Rel sc vis nm) : ∀ m,
  (∀ e,2 * szE e≤m→szE e≤100000→(fam1013170 k m).f1014270 e (.mk (.mk p) f nm sc lo)=some (uE nm vis e)) ∧
  (∀ l,2 * szEs l + 1≤m→szEs l≤100000→(fam1013170 k m).f1013170 l (.mk (.mk p) f nm sc lo)=some (uEs nm vis l))
 | 0=>⟨fun e h=>by have:=szE_pos e; omega,fun l h=>by omega⟩
 | m + 1=>by
  obtain ⟨ihe,ihl⟩:=nU k p f lo R m
  constructor
  ·intro e h hb
   obtain ⟨op,num,txt,slot,l⟩:=e
   obtain ⟨f0,f1,f2,f3,f4,f5⟩:=f
   simp only [szE] at h hb
   show f1014270_b k (fam1013170 k m) (.mk op num txt slot l) (.mk (.mk p) (.mk f0 f1 f2 f3 f4 f5) nm sc lo)=_
   unfold f1014270_b uE
   simp only
   rw [ihl l (by omega) (by omega)]
   simp only [Option.bind_some]
   cases uEs nm vis l with
   | error c=>rfl
   | ok l' =>
    simp only
    unfold f1013932 f1013932_b
    simp only
    rw [R.f119]
    simp only [Option.bind_some,f58_eq,bne]
    cases (op == 4) <;> cases slotOf nm vis txt <;> rfl
  ·intro l h hb
   obtain ⟨f0,f1,f2,f3,f4,f5⟩:=f
   show f1013170_l1 k (fam1013170 k m) p f0 f1 f2 f3 f4 f5 nm sc lo l 0 []=_
   have loop : ∀ (l:List DExpr) (i:Nat) (xs:List DExpr),2 * szEs l≤m→xs.length + szEs l≤100000→f1013170_l1 k (fam1013170 k m) p f0 f1 f2 f3 f4 f5 nm sc lo l i xs=some (match uEs nm vis l with | .error c=>.error c | .ok l'=>.ok (xs ++ l')):=by
    intro l
    induction l with
    | nil=>intro i xs _ _; simp [f1013170_l1,uEs]
    | cons e l ih =>
     intro i xs hm hx
     obtain ⟨e0,e1,e2,e3,e4⟩:=e
     simp only [szEs] at hm hx
     have hp:=szE_pos (.mk e0 e1 e2 e3 e4)
     unfold f1013170_l1 uEs
     rw [ihe (.mk e0 e1 e2 e3 e4) (by omega) (by omega)]
     simp only [Option.bind_some]
     cases uE nm vis (.mk e0 e1 e2 e3 e4) with
     | error c=>rfl
     | ok e' =>
      obtain ⟨r0,r1,r2,r3,r4⟩:=e'
      simp only
      rw [guard_le (by unfold maxB; omega),ih (i + 1) _ (by omega) (by rw [app_len]; omega)]
      cases uEs nm vis l with
      | error c=>rfl
      | ok l'=>simp
   rw [loop l 0 [] (by omega) (by simpa using hb)]
   cases uEs nm vis l <;> simp
theorem f120_eq (k:Nat) (p:List DFunc) (f:DFunc) {nm:List ByteArray} {sc:List (List (ByteArray × Int))} (lo:Int) {vis:List Nat} (R:Rel sc vis nm) (l:List DExpr) (hk:2 * szEs l + 1≤k) (hb:szEs l≤100000) :
  f120 k (.mk (.mk p) f nm sc lo) l=some (uEs nm vis l):=by
 have h:=(nU k p f lo R k).2 l hk hb
 obtain ⟨f0,f1,f2,f3,f4,f5⟩:=f
 unfold f120 f120_b f1013170
 simp only
 rw [h]
 cases uEs nm vis l <;> rfl
def vI (vis:List Nat):List Int:=vis.map fun (v:Nat)=>(v:Int)
abbrev slotI (o:Option Nat):Int:=match o with | some v=>(v:Int) | none=>-1
theorem f106_eq (k:Nat) (p:List DFunc) (f:DFunc) (nm:List ByteArray) (vis:List Nat) (lo er:Int) (a:ByteArray) (hv:okV nm vis) :
  f106 k (.mk p f nm (vI vis) lo er) a=some (.mk p f nm (vI vis) lo er,slotI (slotOf nm vis a)):=by
 obtain ⟨f0,f1,f2,f3,f4,f5⟩:=f
 have h : ∀ (l:List Nat) (i:Nat),okV nm l→f106_l1 k p f0 f1 f2 f3 f4 f5 nm (vI vis) lo er a (vI l) i=some (.mk p (.mk f0 f1 f2 f3 f4 f5) nm (vI vis) lo er,slotI (slotOf nm l a)):=by
  intro l
  induction l with
  | nil=>intro i _; rfl
  | cons v l ih =>
   intro i hl
   have hv:v < nm.length:=hl v (by simp)
   show f106_l1 k p f0 f1 f2 f3 f4 f5 nm (vI vis) lo er a ((v:Int) :: vI l) i=_
   unfold f106_l1
   have:idxO nm (v:Int)=some nm[v]:=by unfold idxO; rw [if_pos (by omega)]; simp [hv]
   rw [this,ih (i + 1) (fun w hw=>hl w (by simp [hw]))]
   simp only [Option.bind_some]
   unfold slotOf
   rw [List.find?_cons]
   simp only [List.getElem?_eq_getElem hv]
   cases seq nm[v] a <;> rfl
 exact h vis 0 hv
def failI (er:Int) (b:Bool) (c:Int):Int:=cond (!b && er == 0) c er
theorem f85_eq (k:Nat) (p:List DFunc) (f:DFunc) (nm:List ByteArray) (vis:List Int) (lo er:Int) (b:Bool) (c:Int) :
  f85 k (.mk p f nm vis lo er) b c=some (.mk p f nm vis lo (failI er b c)):=by
 obtain ⟨f0,f1,f2,f3,f4,f5⟩:=f
 unfold f85 f85_b f85_j1 failI
 simp only
 cases b <;> cases (er == 0) <;> rfl
def errI {α:Type} (er:Int) (u:Ex α):Int:=cond (er == 0) (match u with | .error c=>c | .ok _=>0) er
theorem uE_err {nm:List ByteArray} {vis:List Nat} : ∀ m,(∀ e c,szE e≤m→uE nm vis e=.error c→c=20)∧(∀ l c,szEs l≤m→uEs nm vis l=.error c→c=20)
 | 0=>⟨fun e c h=>by have:=szE_pos e; omega,fun l c h hu=>by
   cases l with
   | nil=>cases hu
   | cons e l=>have:=szE_pos e; simp only [szEs] at h; omega⟩
 | m + 1=>by
  obtain ⟨ihe,ihl⟩:=uE_err (nm:=nm) (vis:=vis) m
  have he : ∀ e c,szE e≤m + 1→uE nm vis e=.error c→c=20:=by
   intro e c h hu
   obtain ⟨op,num,txt,slot,l⟩:=e
   simp only [szE] at h
   unfold uE at hu
   cases hl:uEs nm vis l with
   | error c'=>rw [hl] at hu; have:=ihl l c' (by omega) hl; cases hu; exact this
   | ok l' =>
    rw [hl] at hu
    cases h4:(op == 4) <;> rw [h4] at hu
    ·cases hu
    ·cases hs:slotOf nm vis txt <;> simp only [hs,cond_true] at hu <;> cases hu
     rfl
  refine ⟨he,?_⟩
  intro l
  induction l with
  | nil=>intro c _ hu; cases hu
  | cons e l ih =>
   intro c h hu
   simp only [szEs] at h
   unfold uEs at hu
   cases he' : uE nm vis e with
   | error c'=>rw [he'] at hu; have:=he e c' (by omega) he'; cases hu; exact this
   | ok e' =>
    rw [he'] at hu
    cases hl:uEs nm vis l with
    | error c'=>rw [hl] at hu; have:=ih c' (by omega) hl; cases hu; exact this
    | ok l'=>rw [hl] at hu; cases hu
theorem uE_20 {nm:List ByteArray} {vis:List Nat} {e:DExpr} {c:Int} (h:uE nm vis e=.error c):c=20:=(uE_err _).1 e c (Nat.le_refl _) h
theorem uEs_20 {nm:List ByteArray} {vis:List Nat} {e:List DExpr} {c:Int} (h:uEs nm vis e=.error c):c=20:=(uE_err _).2 e c (Nat.le_refl _) h
theorem rU (k:Nat) (p:List DFunc) (f:DFunc) {nm:List ByteArray} (lo:Int) {vis:List Nat} (hv:okV nm vis) : ∀ m,
  (∀ e a er,2 * szE e≤m→szE e≤100000→gE false e a=true→∃ e',(fam124 k m).f141 (.mk p f nm (vI vis) lo er) e=some (.mk p f nm (vI vis) lo (errI er (uE nm vis e)),e')∧(∀ x,uE nm vis e=.ok x→e'=x)) ∧
  (∀ l a er,2 * szEs l + 1≤m→szEs l≤100000→gEs false l a=true→∃ l',(fam124 k m).f124 (.mk p f nm (vI vis) lo er) l=some (.mk p f nm (vI vis) lo (errI er (uEs nm vis l)),l')∧(∀ x,uEs nm vis l=.ok x→l'=x))
 | 0=>⟨fun e a er h=>by have:=szE_pos e; omega,fun l a er h=>by omega⟩
 | m + 1=>by
  obtain ⟨ihe,ihl⟩:=rU k p f lo hv m
  constructor
  ·intro e a er h hb hg
   obtain ⟨op,num,txt,slot,l⟩:=e
   obtain ⟨f0,f1,f2,f3,f4,f5⟩:=f
   simp only [szE] at h hb
   simp only [gE,Bool.false_or,Bool.and_eq_true] at hg
   obtain ⟨⟨⟨_,hs⟩,_⟩,hgl⟩:=hg
   obtain rfl:slot=0:=by simpa using hs
   show ∃ e',f141_b k (fam124 k m) (.mk p (.mk f0 f1 f2 f3 f4 f5) nm (vI vis) lo er) (.mk op num txt 0 l)=some (_,e')∧_
   unfold f141_b f141_j1 uE
   simp only
   rw [f106_eq k p (.mk f0 f1 f2 f3 f4 f5) nm vis lo er txt hv]
   simp only [Option.bind_some,f85_eq]
   cases h4:(op == 4) with
   | false =>
    simp only [cond_false]
    obtain ⟨l',h1,h2⟩:=ihl l (a + 1) er (by omega) (by omega) hgl
    rw [h1]
    refine ⟨.mk op num txt 0 l',?_,?_⟩
    ·simp only [Option.bind_some]
     cases uEs nm vis l <;> rfl
    ·intro x hx
     cases hu:uEs nm vis l with
     | error c=>rw [hu] at hx; cases hx
     | ok y=>rw [hu] at hx; cases hx; rw [h2 y hu]
   | true =>
    simp only [cond_true]
    obtain ⟨l',h1,h2⟩:=ihl l (a + 1) (failI er (decide (slotI (slotOf nm vis txt) ≥ 0)) 20) (by omega) (by omega) hgl
    rw [h1]
    refine ⟨.mk op num txt (slotI (slotOf nm vis txt)) l',?_,?_⟩
    ·simp only [Option.bind_some,Option.some.injEq,Prod.mk.injEq,and_true,Dlook.mk.injEq,true_and]
     cases hu:uEs nm vis l with
     | error c =>
      obtain rfl:=uEs_20 hu
      cases hsl:slotOf nm vis txt <;> unfold errI failI <;> cases her:(er == 0) <;> simp [slotI,her]
     | ok y =>
      cases hsl:slotOf nm vis txt <;> unfold errI failI <;> cases her:(er == 0) <;> simp [slotI,her]
      all_goals simp [show er=0 by simpa using her]
    ·intro x hx
     cases hu:uEs nm vis l with
     | error c=>rw [hu] at hx; cases hx
     | ok y =>
      rw [hu] at hx
      cases hsl:slotOf nm vis txt <;> simp only [hsl] at hx <;> cases hx
      rw [h2 y hu]
  ·intro l a er h hb hg
   obtain ⟨f0,f1,f2,f3,f4,f5⟩:=f
   show ∃ l',f124_l1 k (fam124 k m) l 0 p f0 f1 f2 f3 f4 f5 nm (vI vis) lo er []=some (_,l')∧_
   have loop : ∀ (l:List DExpr) (i:Nat) (er:Int) (xs:List DExpr),2 * szEs l≤m→xs.length + szEs l≤100000→gEs false l a=true →
     ∃ l',f124_l1 k (fam124 k m) l i p f0 f1 f2 f3 f4 f5 nm (vI vis) lo er xs=some (.mk p (.mk f0 f1 f2 f3 f4 f5) nm (vI vis) lo (errI er (uEs nm vis l)),l')∧(∀ x,uEs nm vis l=.ok x→l'=xs ++ x):=by
    intro l
    induction l with
    | nil =>
     intro i er xs _ _ _
     refine ⟨xs,?_,fun x hx=>by cases hx; simp⟩
     unfold f124_l1 errI uEs
     cases her:(er == 0)
     ·rfl
     ·have:er=0:=by simpa using her
      simp [this]
    | cons e l ih =>
     intro i er xs hm hx hg
     obtain ⟨e0,e1,e2,e3,e4⟩:=e
     simp only [szEs] at hm hx
     simp only [gEs,Bool.and_eq_true] at hg
     have hp:=szE_pos (.mk e0 e1 e2 e3 e4)
     unfold f124_l1
     obtain ⟨e',h1,h2⟩:=ihe (.mk e0 e1 e2 e3 e4) a er (by omega) (by omega) hg.1
     rw [h1]
     obtain ⟨r0,r1,r2,r3,r4⟩:=e'
     simp only [Option.bind_some]
     rw [guard_le (by unfold maxB; omega)]
     obtain ⟨l',h3,h4⟩:=ih (i + 1) (errI er (uE nm vis (.mk e0 e1 e2 e3 e4))) (xs ++ [.mk r0 r1 r2 r3 r4]) (by omega) (by rw [app_len]; omega) hg.2
     refine ⟨l',?_,?_⟩
     ·rw [h3]
      simp only [Option.some.injEq,Prod.mk.injEq,and_true,Dlook.mk.injEq,true_and,uEs]
      cases hu:uE nm vis (.mk e0 e1 e2 e3 e4) with
      | error c =>
       obtain rfl:=uE_20 hu
       unfold errI; cases her:(er == 0) <;> simp [her]
      | ok y =>
       cases hl:uEs nm vis l <;> unfold errI <;> cases her:(er == 0) <;> simp [her]
     ·intro x hx
      unfold uEs at hx
      cases hu:uE nm vis (.mk e0 e1 e2 e3 e4) with
      | error c=>rw [hu] at hx; cases hx
      | ok y =>
       rw [hu] at hx
       cases hl:uEs nm vis l with
       | error c=>rw [hl] at hx; cases hx
       | ok z =>
        rw [hl] at hx; cases hx
        rw [h4 z hl,h2 y hu]
        simp
   exact (loop l 0 er [] (by omega) (by simpa using hb) hg).imp fun l' h=>⟨h.1,fun x hx=>by simpa using h.2 x hx⟩
theorem f124_eq (k:Nat) (p:List DFunc) (f:DFunc) {nm:List ByteArray} (lo er:Int) {vis:List Nat} (hv:okV nm vis) (l:List DExpr) (a:Nat) (hk:2 * szEs l + 1≤k) (hb:szEs l≤100000) (hg:gEs false l a=true) :
 ∃ l',f124 k (.mk p f nm (vI vis) lo er) l=some (.mk p f nm (vI vis) lo (errI er (uEs nm vis l)),l')∧(∀ x,uEs nm vis l=.ok x→l'=x):=(rU k p f lo hv k).2 l a er hk hb hg
end Go.Proofs.YtoajecnoffhlbaaGreatDoor
namespace Go.Proofs.YtoajecnoffhlbaaGreatDoor
open Go
def eb {α β:Type} (u:Ex α) (f:α→Ex β):Ex β:=match u with | .error c=>.error c | .ok x=>f x
def eb3 {α β:Type} (u:Ex (List ByteArray × List Nat × α)) (f:List ByteArray→List Nat→α→Ex β):Ex β:=match u with | .error c=>.error c | .ok (a,b,x)=>f a b x
def uMk (nm:List ByteArray) (vis:List Nat) (a:ByteArray):Ex (List ByteArray × List Nat × Int) :=
 match slotOf nm vis a with | some _=>.error 21 | none=>.ok (nm ++ [a],vis ++ [nm.length],(nm.length:Int))
def uCall (op:Int) (fr:ByteArray) (na:Nat):List DFunc→Nat→Ex Int
 | [],_=>.error 20
 | .mk nm ps _ fl _ _ :: l,i=>cond (seq nm fr) (cond (fl == (op == 28)) (cond ((ps.length:Int) == (na:Int)) (.ok (i:Int)) (.error 24)) (.error 25)) (uCall op fr na l (i + 1))
def uD {α:Type} (b:Bool) (c:Int) (x:Ex α):Ex α:=cond b x (.error c)
section
variable (fs:List DFunc) (f2:Int) (f3:Bool)
mutual
def uS:Nat→List ByteArray→List Nat→DStmt→Ex (List ByteArray × List Nat × DStmt)
 | lo,nm,vis,.mk op name s2 fr s4 flag l6 l7 l8 l9 l10 =>
  eb (uEs nm vis l6) fun r6 =>
  cond (op == 27) (eb3 (uCs lo nm vis l10) fun nm1 _ cs=>.ok (nm1,vis,.mk op name s2 fr s4 flag r6 l7 l8 l9 cs))
  (eb (cond (seq fr ⟨#[]⟩) (.ok s4) (uCall op fr r6.length fs 0)) fun ix =>
  cond (op == 2) (match slotOf nm vis name with | none=>.error 20 | some v=>.ok (nm,vis,.mk op name (v:Int) fr ix flag r6 l7 l8 l9 l10))
  (cond (op == 18 || op == 19) (uD (decide (lo > 0)) 22 (.ok (nm,vis,.mk op name s2 fr ix flag r6 l7 l8 l9 l10)))
  (cond (op == 29) (uD f3 22 (.ok (nm,vis,.mk op name s2 fr ix flag r6 l7 l8 l9 l10)))
  (cond (op == 17) (uD ((decide (r6.length > 0)) == (f2 != 0)) 22 (.ok (nm,vis,.mk op name s2 fr ix flag r6 l7 l8 l9 l10)))
  (cond (op == 21) (eb3 (uB (lo + 1) nm vis l7) fun nm1 _ b=>.ok (nm1,vis,.mk op name s2 fr ix flag r6 b l8 l9 l10))
  (cond (op == 28) (eb3 (uI (lo + 1) nm vis name s2 l7) fun nm1 _ vb=>.ok (nm1,vis,.mk op name vb.1 fr ix flag r6 vb.2 l8 l9 l10))
  (cond (op == 25) (eb3 (uI lo nm vis name s2 l7) fun nm1 _ vb=>.ok (nm1,vis,.mk op name vb.1 fr ix flag r6 vb.2 l8 l9 l10))
  (cond (op == 24) (eb3 (uB lo nm vis l7) fun nm1 _ b7=>eb3 (uI lo nm1 vis name s2 l8) fun nm2 _ vb=>eb3 (uB lo nm2 vis l9) fun nm3 _ b9=>.ok (nm3,vis,.mk op name vb.1 fr ix flag r6 b7 vb.2 b9 l10))
  (cond (op == 20 || op == 22 || op == 23 || op == 26) (eb3 (uB lo nm vis l7) fun nm1 _ b7=>eb3 (uB lo nm1 vis l8) fun nm2 _ b8=>.ok (nm2,vis,.mk op name s2 fr ix flag r6 b7 b8 l9 l10))
   (eb3 (cond (seq name ⟨#[]⟩) (.ok (nm,vis,s2)) (uMk nm vis name)) fun nm1 vis1 v=>uD (op != 6 || flag == 0 || decide (lo > 0)) 22 (.ok (nm1,vis1,.mk op name v fr ix flag r6 l7 l8 l9 l10))))))))))))
def uSs:Nat→List ByteArray→List Nat→List DStmt→Ex (List ByteArray × List Nat × List DStmt)
 | _,nm,vis,[]=>.ok (nm,vis,[])
 | lo,nm,vis,s :: l=>eb3 (uS lo nm vis s) fun nm1 vis1 s'=>eb3 (uSs lo nm1 vis1 l) fun nm2 vis2 l'=>.ok (nm2,vis2,s' :: l')
def uB:Nat→List ByteArray→List Nat→List DStmt→Ex (List ByteArray × List Nat × List DStmt)
 | _,nm,vis,[]=>.ok (nm,vis,[])
 | lo,nm,vis,s :: l=>eb3 (uS lo nm vis s) fun nm1 vis1 s'=>eb3 (uSs lo nm1 vis1 l) fun nm2 vis2 l'=>.ok (nm2,vis,s' :: l')
def uI:Nat→List ByteArray→List Nat→ByteArray→Int→List DStmt→Ex (List ByteArray × List Nat × (Int × List DStmt))
 | lo,nm,vis,name,s2,[]=>eb3 (cond (seq name ⟨#[]⟩) (.ok (nm,vis,s2)) (uMk nm vis name)) fun nm1 _ v=>.ok (nm1,vis,(v,[]))
 | lo,nm,vis,name,s2,s :: l=>eb3 (cond (seq name ⟨#[]⟩) (.ok (nm,vis,s2)) (uMk nm vis name)) fun nm1 vis1 v=>eb3 (uS lo nm1 vis1 s) fun nm2 vis2 s'=>eb3 (uSs lo nm2 vis2 l) fun nm3 _ l'=>.ok (nm3,vis,(v,s' :: l'))
def uC:Nat→List ByteArray→List Nat→DCase→Ex (List ByteArray × List Nat × DCase)
 | lo,nm,vis,.mk kind name slot es b=>eb (uEs nm vis es) fun r=>eb3 (uI lo nm vis name slot b) fun nm1 _ vb=>.ok (nm1,vis,.mk kind name vb.1 r vb.2)
def uCs:Nat→List ByteArray→List Nat→List DCase→Ex (List ByteArray × List Nat × List DCase)
 | _,nm,vis,[]=>.ok (nm,vis,[])
 | lo,nm,vis,c :: l=>eb3 (uC lo nm vis c) fun nm1 _ c'=>eb3 (uCs lo nm1 vis l) fun nm2 _ l'=>.ok (nm2,vis,c' :: l')
end
theorem uB_eq (lo:Nat) (nm:List ByteArray) (vis:List Nat) (l:List DStmt):uB fs f2 f3 lo nm vis l=eb3 (uSs fs f2 f3 lo nm vis l) fun nm1 _ l'=>.ok (nm1,vis,l'):=by
 cases l with
 | nil=>simp [uB,uSs,eb3]
 | cons s l =>
  rw [uB,uSs]
  cases uS fs f2 f3 lo nm vis s with
  | error c=>rfl
  | ok x =>
   simp only [eb3]
   cases uSs fs f2 f3 lo x.1 x.2.1 l <;> rfl
theorem uI_eq (lo:Nat) (nm:List ByteArray) (vis:List Nat) (name:ByteArray) (s2:Int) (l:List DStmt):uI fs f2 f3 lo nm vis name s2 l =
  eb3 (cond (seq name ⟨#[]⟩) (.ok (nm,vis,s2)) (uMk nm vis name)) fun nm1 vis1 v=>eb3 (uSs fs f2 f3 lo nm1 vis1 l) fun nm2 _ l'=>.ok (nm2,vis,(v,l')):=by
 cases l with
 | nil=>simp [uI,uSs,eb3]
 | cons s l =>
  rw [uI]
  congr 1
  funext nm1 vis1 v
  rw [uSs]
  cases uS fs f2 f3 lo nm1 vis1 s with
  | error c=>rfl
  | ok x =>
   simp only [eb3]
   cases uSs fs f2 f3 lo x.1 x.2.1 l <;> rfl
end
theorem slotOf_ext {nm nm' : List ByteArray} {vis:List Nat} (hv:okV nm vis) (hn:nm <+: nm') (a:ByteArray):slotOf nm' vis a=slotOf nm vis a:=by
 obtain ⟨t,rfl⟩:=hn
 unfold slotOf
 induction vis with
 | nil=>rfl
 | cons v vis ih =>
  have h:v < nm.length:=hv v (by simp)
  rw [List.find?_cons,List.find?_cons,List.getElem?_append_left h,ih (fun w hw=>hv w (by simp [hw]))]
theorem slotOf_new {nm:List ByteArray} {vis:List Nat} (hv:okV nm vis) (a b:ByteArray) (hn:slotOf nm vis a=none):slotOf (nm ++ [a]) (vis ++ [nm.length]) b=match slotOf nm vis b with | some v=>some v | none=>cond (seq a b) (some nm.length) none:=by
 have h1:=slotOf_ext (nm':=nm ++ [a]) hv ⟨[a],rfl⟩ b
 unfold slotOf at h1 ⊢
 rw [List.find?_append,h1]
 cases List.find? (fun v=>match nm[v]? with | some b_1=>seq b_1 b | none=>false) vis with
 | some v=>rfl
 | none =>
  simp only [Option.none_or,List.find?_cons,List.find?_nil]
  have:(nm ++ [a])[nm.length]?=some a:=by simp
  rw [this]
  dsimp only
  cases seq a b <;> rfl
theorem seq_eq {a b:ByteArray} (h:seq a b=true):a=b:=by
 unfold seq at h
 rw [ByteArray.toList_eq,ByteArray.toList_eq] at h
 have h:=eq_of_beq h
 obtain ⟨⟨a⟩⟩:=a; obtain ⟨⟨b⟩⟩:=b
 exact congrArg (fun l=>(⟨⟨l⟩⟩:ByteArray)) h
theorem mget_put (a:ByteArray) (k:Int) (b:ByteArray) : ∀ d:List (ByteArray × Int),mget seq b (mput seq a k d)=cond (seq a b) (some k) (mget seq b d)
 | []=>by
  unfold mput mget
  rw [seq_comm b a]
  cases seq a b <;> rfl
 | (x,v) :: d=>by
  unfold mput
  cases h:seq a x with
  | true =>
   obtain rfl:=seq_eq h
   simp only [if_true,mget]
   rw [seq_comm b a]
   cases seq a b <;> rfl
  | false =>
   rw [if_neg (by simp)]
   simp only [mget,mget_put a k b d]
   cases hb:seq b x with
   | false=>simp
   | true =>
    obtain rfl:=seq_eq hb
    simp [h]
theorem lkU_app (a:ByteArray) : ∀ (x y:List (List (ByteArray × Int))),lkU a (x ++ y)=match lkU a x with | some v=>some v | none=>lkU a y
 | [],y=>rfl
 | d :: x,y=>by
  simp only [List.cons_append,lkU,lkU_app a x y]
  cases mget seq a d <;> rfl
theorem lkU_one (a:ByteArray) (d:List (ByteArray × Int)):lkU a [d]=mget seq a d:=by
 unfold lkU; cases mget seq a d <;> rfl
theorem Rel.push {sc:List (List (ByteArray × Int))} {vis:List Nat} {nm:List ByteArray} (R:Rel sc vis nm):Rel (sc ++ [[]]) vis nm :=
 ⟨fun a=>by rw [lkU_app,lkU_one,← R.look a]; cases lkU a sc <;> rfl,R.ok⟩
theorem Rel.ext {sc:List (List (ByteArray × Int))} {vis:List Nat} {nm nm' : List ByteArray} (R:Rel sc vis nm) (h:nm <+: nm'):Rel sc vis nm' :=
 ⟨fun a=>by rw [R.look,slotOf_ext R.ok h],fun v hv=>Nat.lt_of_lt_of_le (R.ok v hv) h.length_le⟩
theorem Rel.make {pre:List (List (ByteArray × Int))} {d:List (ByteArray × Int)} {vis:List Nat} {nm:List ByteArray} {a:ByteArray} (R:Rel (pre ++ [d]) vis nm) (hn:slotOf nm vis a=none) :
  Rel (pre ++ [mput seq a (nm.length:Int) d]) (vis ++ [nm.length]) (nm ++ [a]):=by
 refine ⟨fun b=>?_,fun v hv=>?_⟩
 ·rw [slotOf_new R.ok a b hn,lkU_app,lkU_one,mget_put]
  have h:=R.look b
  rw [lkU_app,lkU_one] at h
  cases hs:seq a b with
  | false =>
   simp only [cond_false]
   rw [h]
   cases slotOf nm vis b <;> rfl
  | true =>
   obtain rfl:=seq_eq hs
   rw [hn] at h ⊢
   simp only [Option.map_none] at h
   cases hp:lkU a pre with
   | some v=>rw [hp] at h; cases h
   | none=>rfl
 ·rcases List.mem_append.1 hv with hv | hv
  ·have:=R.ok v hv; simp; omega
  ·simp at hv; simp; omega
theorem f103_eq (k:Nat) (p:List DFunc) (f:DFunc) {nm:List ByteArray} {pre:List (List (ByteArray × Int))} {d:List (ByteArray × Int)} (lo:Int) {vis:List Nat} (R:Rel (pre ++ [d]) vis nm) (a:ByteArray) (hb:nm.length≤1000000) (hp:pre.length≤1000000) :
  f103 k (.mk (.mk p) f nm (pre ++ [d]) lo) a=some (match uMk nm vis a with | .error c=>.error c | .ok (nm',_,v)=>.ok (.mk (.mk p) f nm' (pre ++ [mput seq a (nm.length:Int) d]) lo,v)):=by
 have h119:=R.f119 (k:=k) (p:=p) (f:=f) (lo:=lo) a
 obtain ⟨f0,f1,f2,f3,f4,f5⟩:=f
 unfold f103 f103_b uMk
 simp only
 rw [h119]
 cases slotOf nm vis a with
 | some v=>rfl
 | none =>
  simp only [Option.bind_some,f58_eq,Bool.not_false,cond_true]
  rw [guard_le (by unfold maxB; omega)]
  have e1:w64 (((pre ++ [d]).length:Int) - 1)=(pre.length:Int):=w64_nat (n:=pre.length) (by simp) (by omega)
  rw [e1,idxO_mid pre d [] _ rfl]
  simp
theorem f1005661_eq (k:Nat) (s0:Int) (s1:ByteArray) (s2:Int) (fr:ByteArray) (s4 s5:Int) (s6:List DExpr) (s7 s8 s9:List DStmt) (s10:List DCase) : ∀ (l:List DFunc) (i:Nat),
  f1005661_l1 k s0 s1 s2 fr s4 s5 s6 s7 s8 s9 s10 l i=f45_l1 k fr l i
 | [],i=>rfl
 | .mk e0 e1 e2 e3 e4 e5 :: l,i=>by
  unfold f1005661_l1 f45_l1 f1014048 f1014048_b
  simp only [Option.bind_some]
  rw [f1005661_eq k s0 s1 s2 fr s4 s5 s6 s7 s8 s9 s10 l (i + 1)]
theorem f45_spec' (k:Nat) (op:Int) (fr:ByteArray) (na:Nat) : ∀ (l:List DFunc) (pre:List DFunc),∃ r,f45_l1 k fr l pre.length=some r ∧
  ((r=-1∧uCall op fr na l pre.length=.error 20)∨(∃ (j:Nat) (g0:ByteArray) (g1:List DParam) (g2:Int) (g3:Bool) (g4:Int) (g5:List DStmt),r=(j:Int)∧(pre ++ l)[j]?=some (.mk g0 g1 g2 g3 g4 g5) ∧
   uCall op fr na l pre.length=cond (g3 == (op == 28)) (cond ((g1.length:Int) == (na:Int)) (.ok (j:Int)) (.error 24)) (.error 25)))
 | [],pre=>⟨-1,rfl,.inl ⟨rfl,rfl⟩⟩
 | .mk g0 g1 g2 g3 g4 g5 :: l,pre=>by
  unfold f45_l1 uCall
  cases h:seq g0 fr with
  | true=>exact ⟨_,rfl,.inr ⟨pre.length,g0,g1,g2,g3,g4,g5,rfl,by simp,rfl⟩⟩
  | false =>
   obtain ⟨r,h1,h2⟩:=f45_spec' k op fr na l (pre ++ [.mk g0 g1 g2 g3 g4 g5])
   rw [app_len] at h1 h2
   rw [List.append_assoc,List.singleton_append] at h2
   exact ⟨r,h1,h2⟩
theorem f122_eq (k:Nat) (p:List DFunc) (f:DFunc) (nm:List ByteArray) (sc:List (List (ByteArray × Int))) (lo:Int) (op:Int) (name:ByteArray) (s2:Int) (fr:ByteArray) (s4 flag:Int) (l6:List DExpr) (l7 l8 l9:List DStmt) (l10:List DCase) :
  f122 k (.mk (.mk p) f nm sc lo) (.mk op name s2 fr s4 flag l6 l7 l8 l9 l10)=some (match uCall op fr l6.length p 0 with | .error c=>.error c | .ok ix=>.ok (.mk (.mk p) f nm sc lo,.mk op name s2 fr ix flag l6 l7 l8 l9 l10)):=by
 obtain ⟨f0,f1,f2,f3,f4,f5⟩:=f
 unfold f122 f122_b f1005661 f1005661_b
 simp only
 rw [f1005661_eq]
 obtain ⟨r,h1,h2⟩:=f45_spec' k op fr l6.length p []
 simp only [List.length_nil,List.nil_append] at h1 h2
 rw [h1]
 simp only [Option.bind_some,f58_eq]
 rcases h2 with ⟨rfl,h2⟩ | ⟨j,g0,g1,g2,g3,g4,g5,rfl,h3,h2⟩
 ·rw [h2]; rfl
 ·rw [h2]
  have:idxO p (j:Int)=some (.mk g0 g1 g2 g3 g4 g5):=by unfold idxO; rw [if_pos (by omega)]; simpa using h3
  have hj:decide ((j:Int) ≥ 0)=true:=by simp
  rw [this,hj]
  simp only [cond_true,Option.bind_some]
  cases (g3 == (op == 28)) <;> cases ((g1.length:Int) == (l6.length:Int)) <;> rfl
end Go.Proofs.YtoajecnoffhlbaaGreatDoor
namespace Go.Proofs.YtoajecnoffhlbaaGreatDoor
open Go
abbrev Sc:=List (List (ByteArray × Int))
def NN {α:Type} (r:Option (Ex (Dresolver × α))) (p:List DFunc) (f:DFunc) (lo:Nat) (pre:Sc) (nm:List ByteArray) (u:Ex (List ByteArray × List Nat × α)) (n:Nat):Prop :=
 match u with
 | .error c=>r=some (.error c)
 | .ok (nm',vis',y)=>∃ d',r=some (.ok (.mk (.mk p) f nm' (pre ++ [d']) lo,y))∧Rel (pre ++ [d']) vis' nm'∧nm <+: nm'∧nm'.length≤nm.length + n
def NB {α β:Type} (r:Option (Ex (Dresolver × β))) (p:List DFunc) (f:DFunc) (lo:Nat) (sc:Sc) (nm:List ByteArray) (u:Ex (List ByteArray × List Nat × α)) (g:α→β) (n:Nat):Prop :=
 match u with
 | .error c=>r=some (.error c)
 | .ok (nm',_,y)=>r=some (.ok (.mk (.mk p) f nm' sc lo,g y))∧nm <+: nm'∧nm'.length≤nm.length + n
theorem opt_make (k:Nat) (p:List DFunc) (f:DFunc) {nm:List ByteArray} {pre:Sc} {d:List (ByteArray × Int)} (lo:Nat) {vis:List Nat} (R:Rel (pre ++ [d]) vis nm) (a:ByteArray) (hb:nm.length≤1000000) (hp:pre.length≤1000000) :
  NN (f103 k (.mk (.mk p) f nm (pre ++ [d]) lo) a) p f lo pre nm (uMk nm vis a) 1:=by
 rw [f103_eq k p f lo R a hb hp]
 unfold uMk NN
 cases hs:slotOf nm vis a with
 | some v=>rfl
 | none=>exact ⟨_,rfl,R.make hs,⟨[a],rfl⟩,by simp⟩
theorem gt_nat (lo:Nat):decide ((lo:Int) > 0)=decide (lo > 0):=by rw [decide_eq_decide]; omega
theorem cut_guard {α:Type} (sc:Sc) (d:List (ByteArray × Int)) (h:sc.length≤1000000) (x:Option α):guardB (decide (0≤(w64 (((sc ++ [d]).length:Int) - 1))∧(w64 (((sc ++ [d]).length:Int) - 1))≤((sc ++ [d]).length:Int))) x=x:=by
 have e1:w64 (((sc ++ [d]).length:Int) - 1)=(sc.length:Int):=w64_nat (n:=sc.length) (by simp) (by omega)
 rw [e1]
 have:(0≤(sc.length:Int)∧(sc.length:Int)≤((sc ++ [d]).length:Int)):=⟨by omega,by simp; omega⟩
 rw [decide_eq_true this]; rfl
theorem cut_take (sc:Sc) (d:List (ByteArray × Int)) (h:sc.length≤1000000):(sc ++ [d]).take (w64 (((sc ++ [d]).length:Int) - 1)).toNat=sc:=by
 have e1:w64 (((sc ++ [d]).length:Int) - 1)=(sc.length:Int):=w64_nat (n:=sc.length) (by simp) (by omega)
 rw [e1]; simp
section
variable (k:Nat) (p:List DFunc) (f0:ByteArray) (f1:List DParam) (f2:Int) (f3:Bool) (f4:Int) (f5:List DStmt)
end
theorem nR (k:Nat) (p:List DFunc) (f0:ByteArray) (f1:List DParam) (f2:Int) (f3:Bool) (f4:Int) (f5:List DStmt) : ∀ m,m≤k →
  (∀ s,4 * szS s≤m→∀ (nm:List ByteArray) (vis:List Nat) (pre:Sc) (d:List (ByteArray × Int)) (lo:Nat),nm.length + szS s≤100000→pre.length + szS s≤100000→lo + szS s≤100000→Rel (pre ++ [d]) vis nm →
   NN ((fam105 k m).f105 (.mk (.mk p) (.mk f0 f1 f2 f3 f4 f5) nm (pre ++ [d]) lo) s) p (.mk f0 f1 f2 f3 f4 f5) lo pre nm (uS p f2 f3 lo nm vis s) (szS s)) ∧
  (∀ l,4 * szSs l + 1≤m→∀ (nm:List ByteArray) (vis:List Nat) (sc:Sc) (lo:Nat),nm.length + szSs l≤100000→sc.length + szSs l≤100000→lo + szSs l≤100000→Rel sc vis nm →
   NB ((fam105 k m).f1012166 (.mk (.mk p) (.mk f0 f1 f2 f3 f4 f5) nm sc lo) ⟨#[]⟩ l) p (.mk f0 f1 f2 f3 f4 f5) lo sc nm (uB p f2 f3 lo nm vis l) id (szSs l)) ∧
  (∀ l,4 * szSs l + 1≤m→∀ (name:ByteArray) (s0:Int) (s1:ByteArray) (s2:Int) (s3:ByteArray) (s4 s5:Int) (s6:List DExpr) (s7 s8 s9:List DStmt) (s10:List DCase) (nm:List ByteArray) (vis:List Nat) (sc:Sc) (lo:Nat),nm.length + szSs l + 1≤100000→sc.length + szSs l≤100000→lo + szSs l≤100000→Rel sc vis nm →
   NB ((fam105 k m).f1012152 (.mk (.mk p) (.mk f0 f1 f2 f3 f4 f5) nm sc lo) name l (.mk s0 s1 s2 s3 s4 s5 s6 s7 s8 s9 s10)) p (.mk f0 f1 f2 f3 f4 f5) lo sc nm (uI p f2 f3 lo nm vis name s2 l) (fun vb=>(DStmt.mk s0 s1 vb.1 s3 s4 s5 s6 s7 s8 s9 s10,vb.2)) (szSs l + 1)) ∧
  (∀ l,4 * szSs l + 1≤m→∀ (name:ByteArray) (s0:Int) (s1:ByteArray) (s2:Int) (s3:List DExpr) (s4:List DStmt) (nm:List ByteArray) (vis:List Nat) (sc:Sc) (lo:Nat),nm.length + szSs l + 1≤100000→sc.length + szSs l≤100000→lo + szSs l≤100000→Rel sc vis nm →
   NB ((fam105 k m).f1012148 (.mk (.mk p) (.mk f0 f1 f2 f3 f4 f5) nm sc lo) name l (.mk s0 s1 s2 s3 s4)) p (.mk f0 f1 f2 f3 f4 f5) lo sc nm (uI p f2 f3 lo nm vis name s2 l) (fun vb=>(DCase.mk s0 s1 vb.1 s3 s4,vb.2)) (szSs l + 1)) ∧
  (∀ l,4 * szSs l + 2≤m→∀ (nm:List ByteArray) (vis:List Nat) (sc:Sc) (lo:Nat),nm.length + szSs l≤100000→sc.length + szSs l≤100000→lo + szSs l + 1≤100000→Rel sc vis nm →
   NB ((fam105 k m).f1012366 (.mk (.mk p) (.mk f0 f1 f2 f3 f4 f5) nm sc lo) ⟨#[]⟩ l) p (.mk f0 f1 f2 f3 f4 f5) lo sc nm (uB p f2 f3 (lo + 1) nm vis l) id (szSs l)) ∧
  (∀ l,4 * szSs l + 2≤m→∀ (name:ByteArray) (s0:Int) (s1:ByteArray) (s2:Int) (s3:ByteArray) (s4 s5:Int) (s6:List DExpr) (s7 s8 s9:List DStmt) (s10:List DCase) (nm:List ByteArray) (vis:List Nat) (sc:Sc) (lo:Nat),nm.length + szSs l + 1≤100000→sc.length + szSs l≤100000→lo + szSs l + 1≤100000→Rel sc vis nm →
   NB ((fam105 k m).f1012352 (.mk (.mk p) (.mk f0 f1 f2 f3 f4 f5) nm sc lo) name l (.mk s0 s1 s2 s3 s4 s5 s6 s7 s8 s9 s10)) p (.mk f0 f1 f2 f3 f4 f5) lo sc nm (uI p f2 f3 (lo + 1) nm vis name s2 l) (fun vb=>(DStmt.mk s0 s1 vb.1 s3 s4 s5 s6 s7 s8 s9 s10,vb.2)) (szSs l + 1))
 | 0,_=>⟨fun e he=>by have:=szS_pos e; omega,fun l hl=>by omega,fun l hl=>by omega,fun l hl=>by omega,fun l hl=>by omega,fun l hl=>by omega⟩
 | m + 1,hmk=>by
  obtain ⟨ihs,ihb,ihi,ihc,ihlb,ihli⟩:=nR k p f0 f1 f2 f3 f4 f5 m (by omega)
  have loopB : ∀ (l:List DStmt) (i:Nat) (xs:List DStmt) (nm:List ByteArray) (vis:List Nat) (sc:Sc) (d:List (ByteArray × Int)) (lo:Nat),4 * szSs l≤m→xs.length + szSs l≤100000→nm.length + szSs l≤100000→sc.length + szSs l≤100000→lo + szSs l≤100000→Rel (sc ++ [d]) vis nm →
    NB (f1012166_l1 k (fam105 k m) l i p f0 f1 f2 f3 f4 f5 nm (sc ++ [d]) lo xs) p (.mk f0 f1 f2 f3 f4 f5) lo sc nm (uSs p f2 f3 lo nm vis l) (fun l'=>xs ++ l') (szSs l):=by
   intro l
   induction l with
   | nil =>
    intro i xs nm vis sc d lo _ _ _ hsc _ R
    unfold f1012166_l1
    rw [cut_guard sc d (by omega),cut_take sc d (by omega),uSs]
    exact ⟨by simp,List.prefix_refl _,by simp⟩
   | cons s l ih =>
    intro i xs nm vis sc d lo hm hxs hnm hsc hlo R
    obtain ⟨e0,e1,e2,e3,e4,e5,e6,e7,e8,e9,e10⟩:=s
    simp only [szSs] at hm hxs hnm hsc hlo
    have hp:=szS_pos (.mk e0 e1 e2 e3 e4 e5 e6 e7 e8 e9 e10)
    unfold f1012166_l1
    rw [uSs]
    have h:=ihs (.mk e0 e1 e2 e3 e4 e5 e6 e7 e8 e9 e10) (by omega) nm vis sc d lo (by omega) (by omega) (by omega) R
    revert h
    cases uS p f2 f3 lo nm vis (.mk e0 e1 e2 e3 e4 e5 e6 e7 e8 e9 e10) with
    | error c=>intro h; simp only [NN] at h; rw [h]; rfl
    | ok x =>
     obtain ⟨nm1,vis1,s'⟩:=x
     rintro ⟨d1,h,R1,hp1,hl1⟩
     rw [h]
     obtain ⟨r0,r1,r2,r3,r4,r5,r6,r7,r8,r9,r10⟩:=s'
     simp only [Option.bind_some,eb3]
     rw [guard_le (by unfold maxB; omega)]
     have h2:=ih (i + 1) (xs ++ [.mk r0 r1 r2 r3 r4 r5 r6 r7 r8 r9 r10]) nm1 vis1 sc d1 lo (by omega) (by rw [app_len]; omega) (by omega) (by omega) (by omega) R1
     revert h2
     cases uSs p f2 f3 lo nm1 vis1 l with
     | error c=>intro h2; exact h2
     | ok x =>
      obtain ⟨nm2,vis2,l'⟩:=x
      rintro ⟨h3,hp2,hl2⟩
      refine ⟨by rw [h3]; simp,hp1.trans hp2,by simp only [szSs]; omega⟩
  have loopS : ∀ (s0:Int) (s1:ByteArray) (s3:ByteArray) (s4 s5:Int) (s6:List DExpr) (s7 s8 s9:List DStmt) (s10:List DCase) (v:Int) (l:List DStmt) (i:Nat) (xs:List DStmt) (nm:List ByteArray) (vis:List Nat) (sc:Sc) (d:List (ByteArray × Int)) (lo:Nat),4 * szSs l≤m→xs.length + szSs l≤100000→nm.length + szSs l≤100000→sc.length + szSs l≤100000→lo + szSs l≤100000→Rel (sc ++ [d]) vis nm →
    NB (f1012152_l1 k (fam105 k m) s0 s1 s3 s4 s5 s6 s7 s8 s9 s10 v l i p f0 f1 f2 f3 f4 f5 nm (sc ++ [d]) lo xs) p (.mk f0 f1 f2 f3 f4 f5) lo sc nm (uSs p f2 f3 lo nm vis l) (fun l'=>(DStmt.mk s0 s1 v s3 s4 s5 s6 s7 s8 s9 s10,xs ++ l')) (szSs l):=by
   intro s0 s1 s3 s4 s5 s6 s7 s8 s9 s10 v l
   induction l with
   | nil =>
    intro i xs nm vis sc d lo _ _ _ hsc _ R
    unfold f1012152_l1
    rw [cut_guard sc d (by omega),cut_take sc d (by omega),uSs]
    exact ⟨by simp,List.prefix_refl _,by simp⟩
   | cons s l ih =>
    intro i xs nm vis sc d lo hm hxs hnm hsc hlo R
    obtain ⟨e0,e1,e2,e3,e4,e5,e6,e7,e8,e9,e10⟩:=s
    simp only [szSs] at hm hxs hnm hsc hlo
    have hp:=szS_pos (.mk e0 e1 e2 e3 e4 e5 e6 e7 e8 e9 e10)
    unfold f1012152_l1
    rw [uSs]
    have h:=ihs (.mk e0 e1 e2 e3 e4 e5 e6 e7 e8 e9 e10) (by omega) nm vis sc d lo (by omega) (by omega) (by omega) R
    revert h
    cases uS p f2 f3 lo nm vis (.mk e0 e1 e2 e3 e4 e5 e6 e7 e8 e9 e10) with
    | error c=>intro h; simp only [NN] at h; rw [h]; rfl
    | ok x =>
     obtain ⟨nm1,vis1,s'⟩:=x
     rintro ⟨d1,h,R1,hp1,hl1⟩
     rw [h]
     obtain ⟨r0,r1,r2,r3,r4,r5,r6,r7,r8,r9,r10⟩:=s'
     simp only [Option.bind_some,eb3]
     rw [guard_le (by unfold maxB; omega)]
     have h2:=ih (i + 1) (xs ++ [.mk r0 r1 r2 r3 r4 r5 r6 r7 r8 r9 r10]) nm1 vis1 sc d1 lo (by omega) (by rw [app_len]; omega) (by omega) (by omega) (by omega) R1
     revert h2
     cases uSs p f2 f3 lo nm1 vis1 l with
     | error c=>intro h2; exact h2
     | ok x =>
      obtain ⟨nm2,vis2,l'⟩:=x
      rintro ⟨h3,hp2,hl2⟩
      refine ⟨by rw [h3]; simp,hp1.trans hp2,by simp only [szSs]; omega⟩
  have loopC : ∀ (s0:Int) (s1:ByteArray) (s3:List DExpr) (s4:List DStmt) (v:Int) (l:List DStmt) (i:Nat) (xs:List DStmt) (nm:List ByteArray) (vis:List Nat) (sc:Sc) (d:List (ByteArray × Int)) (lo:Nat),4 * szSs l≤m→xs.length + szSs l≤100000→nm.length + szSs l≤100000→sc.length + szSs l≤100000→lo + szSs l≤100000→Rel (sc ++ [d]) vis nm →
    NB (f1012148_l1 k (fam105 k m) s0 s1 s3 s4 v l i p f0 f1 f2 f3 f4 f5 nm (sc ++ [d]) lo xs) p (.mk f0 f1 f2 f3 f4 f5) lo sc nm (uSs p f2 f3 lo nm vis l) (fun l'=>(DCase.mk s0 s1 v s3 s4,xs ++ l')) (szSs l):=by
   intro s0 s1 s3 s4 v l
   induction l with
   | nil =>
    intro i xs nm vis sc d lo _ _ _ hsc _ R
    unfold f1012148_l1
    rw [cut_guard sc d (by omega),cut_take sc d (by omega),uSs]
    exact ⟨by simp,List.prefix_refl _,by simp⟩
   | cons s l ih =>
    intro i xs nm vis sc d lo hm hxs hnm hsc hlo R
    obtain ⟨e0,e1,e2,e3,e4,e5,e6,e7,e8,e9,e10⟩:=s
    simp only [szSs] at hm hxs hnm hsc hlo
    have hp:=szS_pos (.mk e0 e1 e2 e3 e4 e5 e6 e7 e8 e9 e10)
    unfold f1012148_l1
    rw [uSs]
    have h:=ihs (.mk e0 e1 e2 e3 e4 e5 e6 e7 e8 e9 e10) (by omega) nm vis sc d lo (by omega) (by omega) (by omega) R
    revert h
    cases uS p f2 f3 lo nm vis (.mk e0 e1 e2 e3 e4 e5 e6 e7 e8 e9 e10) with
    | error c=>intro h; simp only [NN] at h; rw [h]; rfl
    | ok x =>
     obtain ⟨nm1,vis1,s'⟩:=x
     rintro ⟨d1,h,R1,hp1,hl1⟩
     rw [h]
     obtain ⟨r0,r1,r2,r3,r4,r5,r6,r7,r8,r9,r10⟩:=s'
     simp only [Option.bind_some,eb3]
     rw [guard_le (by unfold maxB; omega)]
     have h2:=ih (i + 1) (xs ++ [.mk r0 r1 r2 r3 r4 r5 r6 r7 r8 r9 r10]) nm1 vis1 sc d1 lo (by omega) (by rw [app_len]; omega) (by omega) (by omega) (by omega) R1
     revert h2
     cases uSs p f2 f3 lo nm1 vis1 l with
     | error c=>intro h2; exact h2
     | ok x =>
      obtain ⟨nm2,vis2,l'⟩:=x
      rintro ⟨h3,hp2,hl2⟩
      refine ⟨by rw [h3]; simp,hp1.trans hp2,by simp only [szSs]; omega⟩
  have loopK : ∀ (s0:Int) (s1:ByteArray) (s2:Int) (s3:ByteArray) (s4 s5:Int) (s7 s8 s9:List DStmt) (r:List DExpr) (l:List DCase) (i:Nat) (xs:List DCase) (nm:List ByteArray) (vis:List Nat) (pre:Sc) (d:List (ByteArray × Int)) (lo:Nat),4 * szCs l≤m + 1→xs.length + szCs l≤100000→nm.length + szCs l≤100000→pre.length + szCs l≤100000→lo + szCs l≤100000→Rel (pre ++ [d]) vis nm →
    NB (f105_l1 k (fam105 k m) s0 s1 s2 s3 s4 s5 s7 s8 s9 r l i p f0 f1 f2 f3 f4 f5 nm (pre ++ [d]) lo xs) p (.mk f0 f1 f2 f3 f4 f5) lo (pre ++ [d]) nm (uCs p f2 f3 lo nm vis l) (fun l'=>DStmt.mk s0 s1 s2 s3 s4 s5 r s7 s8 s9 (xs ++ l')) (szCs l):=by
   intro s0 s1 s2 s3 s4 s5 s7 s8 s9 r l
   induction l with
   | nil =>
    intro i xs nm vis pre d lo _ _ _ hsc _ R
    unfold f105_l1
    rw [uCs]
    exact ⟨by simp,List.prefix_refl _,by simp⟩
   | cons c l ih =>
    intro i xs nm vis pre d lo hm hxs hnm hsc hlo R
    obtain ⟨e0,e1,e2,e3,e4⟩:=c
    simp only [szCs,szC] at hm hxs hnm hsc hlo
    unfold f105_l1
    rw [uCs,uC]
    rw [f120_eq k p (.mk f0 f1 f2 f3 f4 f5) lo R e3 (by omega) (by omega)]
    cases uEs nm vis e3 with
    | error c=>exact rfl
    | ok r3 =>
     simp only [Option.bind_some,eb]
     have h:=ihc e4 (by omega) e1 e0 e1 e2 r3 e4 nm vis (pre ++ [d]) lo (by omega) (by simp; omega) (by omega) R
     revert h
     cases uI p f2 f3 lo nm vis e1 e2 e4 with
     | error c=>intro h; simp only [NB] at h; rw [h]; exact rfl
     | ok x =>
      obtain ⟨nm1,vis1,v,b⟩:=x
      rintro ⟨h,hp1,hl1⟩
      rw [h]
      simp only [Option.bind_some,eb3]
      rw [guard_le (by unfold maxB; omega)]
      have h2:=ih (i + 1) (xs ++ [.mk e0 e1 v r3 b]) nm1 vis pre d lo (by omega) (by rw [app_len]; omega) (by omega) (by omega) (by omega) (R.ext hp1)
      revert h2
      cases uCs p f2 f3 lo nm1 vis l with
      | error c=>intro h2; exact h2
      | ok x =>
       obtain ⟨nm2,vis2,l'⟩:=x
       rintro ⟨h3,hp2,hl2⟩
       refine ⟨by rw [h3]; simp,hp1.trans hp2,by simp only [szCs,szC]; omega⟩
  refine ⟨?_,?_,?_,?_,?_,?_⟩
  ·intro s hs nm vis pre d lo hnm hpre hlo R
   obtain ⟨op,name,s2,fr,s4,flag,l6,l7,l8,l9,l10⟩:=s
   simp only [szS] at hs hnm hpre hlo
   show NN (f105_b k (fam105 k m) (.mk (.mk p) (.mk f0 f1 f2 f3 f4 f5) nm (pre ++ [d]) lo) (.mk op name s2 fr s4 flag l6 l7 l8 l9 l10)) p _ lo pre nm _ _
   rw [uS]
   unfold f105_b
   simp only
   rw [f120_eq k p (.mk f0 f1 f2 f3 f4 f5) lo R l6 (by omega) (by omega)]
   cases uEs nm vis l6 with
   | error c=>exact rfl
   | ok r6 =>
    simp only [Option.bind_some,eb]
    have stay : ∀ y:DStmt,NN (some (.ok (Dresolver.mk (DProgram.mk p) (.mk f0 f1 f2 f3 f4 f5) nm (pre ++ [d]) lo,y))) p (.mk f0 f1 f2 f3 f4 f5) lo pre nm (.ok (nm,vis,y)) (szS (.mk op name s2 fr s4 flag l6 l7 l8 l9 l10)) :=
     fun y=>⟨d,rfl,R,List.prefix_refl _,by omega⟩
    cases h27:(op == 27) with
    | true =>
     simp only [cond_true]
     have h:=loopK op name s2 fr s4 flag l7 l8 l9 r6 l10 0 [] nm vis pre d lo (by omega) (by simp; omega) (by omega) (by omega) (by omega) R
     revert h
     cases uCs p f2 f3 lo nm vis l10 with
     | error c=>intro h; exact h
     | ok x =>
      obtain ⟨nm1,vis1,cs⟩:=x
      rintro ⟨h,hp1,hl1⟩
      exact ⟨d,by rw [h]; simp,R.ext hp1,hp1,by simp only [szS]; omega⟩
    | false =>
     simp only [cond_false]
     have tail : ∀ ix:Int,NN (f105_j1 k (fam105 k m) p f0 f1 f2 f3 f4 f5 nm (pre ++ [d]) lo op name s2 fr ix flag r6 l7 l8 l9 l10) p (.mk f0 f1 f2 f3 f4 f5) lo pre nm
       (cond (op == 2) (match slotOf nm vis name with | none=>.error 20 | some v=>.ok (nm,vis,.mk op name (v:Int) fr ix flag r6 l7 l8 l9 l10))
       (cond (op == 18 || op == 19) (uD (decide (lo > 0)) 22 (.ok (nm,vis,.mk op name s2 fr ix flag r6 l7 l8 l9 l10)))
       (cond (op == 29) (uD f3 22 (.ok (nm,vis,.mk op name s2 fr ix flag r6 l7 l8 l9 l10)))
       (cond (op == 17) (uD ((decide (r6.length > 0)) == (f2 != 0)) 22 (.ok (nm,vis,.mk op name s2 fr ix flag r6 l7 l8 l9 l10)))
       (cond (op == 21) (eb3 (uB p f2 f3 (lo + 1) nm vis l7) fun nm1 _ b=>.ok (nm1,vis,.mk op name s2 fr ix flag r6 b l8 l9 l10))
       (cond (op == 28) (eb3 (uI p f2 f3 (lo + 1) nm vis name s2 l7) fun nm1 _ vb=>.ok (nm1,vis,.mk op name vb.1 fr ix flag r6 vb.2 l8 l9 l10))
       (cond (op == 25) (eb3 (uI p f2 f3 lo nm vis name s2 l7) fun nm1 _ vb=>.ok (nm1,vis,.mk op name vb.1 fr ix flag r6 vb.2 l8 l9 l10))
       (cond (op == 24) (eb3 (uB p f2 f3 lo nm vis l7) fun nm1 _ b7=>eb3 (uI p f2 f3 lo nm1 vis name s2 l8) fun nm2 _ vb=>eb3 (uB p f2 f3 lo nm2 vis l9) fun nm3 _ b9=>.ok (nm3,vis,.mk op name vb.1 fr ix flag r6 b7 vb.2 b9 l10))
       (cond (op == 20 || op == 22 || op == 23 || op == 26) (eb3 (uB p f2 f3 lo nm vis l7) fun nm1 _ b7=>eb3 (uB p f2 f3 lo nm1 vis l8) fun nm2 _ b8=>.ok (nm2,vis,.mk op name s2 fr ix flag r6 b7 b8 l9 l10))
        (eb3 (cond (seq name ⟨#[]⟩) (.ok (nm,vis,s2)) (uMk nm vis name)) fun nm1 vis1 v=>uD (op != 6 || flag == 0 || decide (lo > 0)) 22 (.ok (nm1,vis1,.mk op name v fr ix flag r6 l7 l8 l9 l10)))))))))))) (szS (.mk op name s2 fr s4 flag l6 l7 l8 l9 l10)):=by
      intro ix
      unfold f105_j1
      cases h2:(op == 2) with
      | true =>
       simp only [cond_true]
       rw [R.f119]
       cases slotOf nm vis name with
       | none=>simp only [Option.bind_some,f58_eq]; exact rfl
       | some v=>simp only [Option.bind_some,f58_eq,cond_true]; exact stay _
      | false =>
       simp only [cond_false]
       have tail2 : ∀ q,q=(op == 18 || op == 19)→NN (f105_j3 k (fam105 k m) p f0 f1 f2 f3 f4 f5 nm (pre ++ [d]) lo op name s2 fr ix flag r6 l7 l8 l9 l10 q) p (.mk f0 f1 f2 f3 f4 f5) lo pre nm
         (cond (op == 18 || op == 19) (uD (decide (lo > 0)) 22 (.ok (nm,vis,.mk op name s2 fr ix flag r6 l7 l8 l9 l10)))
         (cond (op == 29) (uD f3 22 (.ok (nm,vis,.mk op name s2 fr ix flag r6 l7 l8 l9 l10)))
         (cond (op == 17) (uD ((decide (r6.length > 0)) == (f2 != 0)) 22 (.ok (nm,vis,.mk op name s2 fr ix flag r6 l7 l8 l9 l10)))
         (cond (op == 21) (eb3 (uB p f2 f3 (lo + 1) nm vis l7) fun nm1 _ b=>.ok (nm1,vis,.mk op name s2 fr ix flag r6 b l8 l9 l10))
         (cond (op == 28) (eb3 (uI p f2 f3 (lo + 1) nm vis name s2 l7) fun nm1 _ vb=>.ok (nm1,vis,.mk op name vb.1 fr ix flag r6 vb.2 l8 l9 l10))
         (cond (op == 25) (eb3 (uI p f2 f3 lo nm vis name s2 l7) fun nm1 _ vb=>.ok (nm1,vis,.mk op name vb.1 fr ix flag r6 vb.2 l8 l9 l10))
         (cond (op == 24) (eb3 (uB p f2 f3 lo nm vis l7) fun nm1 _ b7=>eb3 (uI p f2 f3 lo nm1 vis name s2 l8) fun nm2 _ vb=>eb3 (uB p f2 f3 lo nm2 vis l9) fun nm3 _ b9=>.ok (nm3,vis,.mk op name vb.1 fr ix flag r6 b7 vb.2 b9 l10))
         (cond (op == 20 || op == 22 || op == 23 || op == 26) (eb3 (uB p f2 f3 lo nm vis l7) fun nm1 _ b7=>eb3 (uB p f2 f3 lo nm1 vis l8) fun nm2 _ b8=>.ok (nm2,vis,.mk op name s2 fr ix flag r6 b7 b8 l9 l10))
          (eb3 (cond (seq name ⟨#[]⟩) (.ok (nm,vis,s2)) (uMk nm vis name)) fun nm1 vis1 v=>uD (op != 6 || flag == 0 || decide (lo > 0)) 22 (.ok (nm1,vis1,.mk op name v fr ix flag r6 l7 l8 l9 l10))))))))))) (szS (.mk op name s2 fr s4 flag l6 l7 l8 l9 l10)):=by
        rintro _ rfl
        unfold f105_j3
        cases (op == 18 || op == 19) with
        | true =>
         simp only [cond_true,f58_eq,Option.bind_some,gt_nat,uD]
         cases decide (lo > 0)
         ·exact rfl
         ·exact stay _
        | false =>
        simp only [cond_false]
        cases (op == 29) with
        | true =>
         simp only [cond_true,f58_eq,Option.bind_some,uD]
         cases f3
         ·exact rfl
         ·exact stay _
        | false =>
        simp only [cond_false]
        cases (op == 17) with
        | true =>
         simp only [cond_true,f58_eq,Option.bind_some,uD,gt_nat]
         cases (decide (r6.length > 0) == (f2 != 0))
         ·exact rfl
         ·exact stay _
        | false =>
        simp only [cond_false]
        cases (op == 21) with
        | true =>
         simp only [cond_true]
         have h:=ihlb l7 (by omega) nm vis (pre ++ [d]) lo (by omega) (by simp; omega) (by omega) R
         revert h
         cases uB p f2 f3 (lo + 1) nm vis l7 with
         | error c=>intro h; simp only [NB] at h; rw [h]; exact rfl
         | ok x =>
          obtain ⟨nm1,vis1,b⟩:=x
          rintro ⟨h,hp1,hl1⟩
          rw [h]
          exact ⟨d,rfl,R.ext hp1,hp1,by simp only [szS]; omega⟩
        | false =>
        simp only [cond_false]
        cases (op == 28) with
        | true =>
         simp only [cond_true]
         have h:=ihli l7 (by omega) name op name s2 fr ix flag r6 l7 l8 l9 l10 nm vis (pre ++ [d]) lo (by omega) (by simp; omega) (by omega) R
         revert h
         cases uI p f2 f3 (lo + 1) nm vis name s2 l7 with
         | error c=>intro h; simp only [NB] at h; rw [h]; exact rfl
         | ok x =>
          obtain ⟨nm1,vis1,v,b⟩:=x
          rintro ⟨h,hp1,hl1⟩
          rw [h]
          exact ⟨d,rfl,R.ext hp1,hp1,by simp only [szS]; omega⟩
        | false =>
        simp only [cond_false]
        cases (op == 25) with
        | true =>
         simp only [cond_true]
         have h:=ihi l7 (by omega) name op name s2 fr ix flag r6 l7 l8 l9 l10 nm vis (pre ++ [d]) lo (by omega) (by simp; omega) (by omega) R
         revert h
         cases uI p f2 f3 lo nm vis name s2 l7 with
         | error c=>intro h; simp only [NB] at h; rw [h]; exact rfl
         | ok x =>
          obtain ⟨nm1,vis1,v,b⟩:=x
          rintro ⟨h,hp1,hl1⟩
          rw [h]
          exact ⟨d,rfl,R.ext hp1,hp1,by simp only [szS]; omega⟩
        | false =>
        simp only [cond_false]
        cases (op == 24) with
        | true =>
         simp only [cond_true]
         have h:=ihb l7 (by omega) nm vis (pre ++ [d]) lo (by omega) (by simp; omega) (by omega) R
         revert h
         cases uB p f2 f3 lo nm vis l7 with
         | error c=>intro h; simp only [NB] at h; rw [h]; exact rfl
         | ok x =>
          obtain ⟨nm1,vis1,b⟩:=x
          rintro ⟨h,hp1,hl1⟩
          rw [h]
          simp only [Option.bind_some,eb3,id]
          have h:=ihi l8 (by omega) name op name s2 fr ix flag r6 b l8 l9 l10 nm1 vis (pre ++ [d]) lo (by omega) (by simp; omega) (by omega) (R.ext hp1)
          revert h
          cases uI p f2 f3 lo nm1 vis name s2 l8 with
          | error c=>intro h; simp only [NB] at h; rw [h]; exact rfl
          | ok x =>
           obtain ⟨nm2,vis2,v,b8⟩:=x
           rintro ⟨h,hp2,hl2⟩
           rw [h]
           simp only [Option.bind_some]
           have h:=ihb l9 (by omega) nm2 vis (pre ++ [d]) lo (by omega) (by simp; omega) (by omega) ((R.ext hp1).ext hp2)
           revert h
           cases uB p f2 f3 lo nm2 vis l9 with
           | error c=>intro h; simp only [NB] at h; rw [h]; exact rfl
           | ok x =>
            obtain ⟨nm3,vis3,b9⟩:=x
            rintro ⟨h,hp3,hl3⟩
            rw [h]
            exact ⟨d,rfl,((R.ext hp1).ext hp2).ext hp3,(hp1.trans hp2).trans hp3,by simp only [szS]; omega⟩
        | false =>
        simp only [cond_false]
        have tail3 : ∀ q,q=(op == 20 || op == 22 || op == 23 || op == 26)→NN (f105_j4 k (fam105 k m) p f0 f1 f2 f3 f4 f5 nm (pre ++ [d]) lo op name s2 fr ix flag r6 l7 l8 l9 l10 q) p (.mk f0 f1 f2 f3 f4 f5) lo pre nm
          (cond (op == 20 || op == 22 || op == 23 || op == 26) (eb3 (uB p f2 f3 lo nm vis l7) fun nm1 _ b7=>eb3 (uB p f2 f3 lo nm1 vis l8) fun nm2 _ b8=>.ok (nm2,vis,.mk op name s2 fr ix flag r6 b7 b8 l9 l10))
           (eb3 (cond (seq name ⟨#[]⟩) (.ok (nm,vis,s2)) (uMk nm vis name)) fun nm1 vis1 v=>uD (op != 6 || flag == 0 || decide (lo > 0)) 22 (.ok (nm1,vis1,.mk op name v fr ix flag r6 l7 l8 l9 l10)))) (szS (.mk op name s2 fr s4 flag l6 l7 l8 l9 l10)):=by
         rintro _ rfl
         unfold f105_j4
         cases (op == 20 || op == 22 || op == 23 || op == 26) with
         | true =>
          simp only [cond_true]
          have h:=ihb l7 (by omega) nm vis (pre ++ [d]) lo (by omega) (by simp; omega) (by omega) R
          revert h
          cases uB p f2 f3 lo nm vis l7 with
          | error c=>intro h; simp only [NB] at h; rw [h]; exact rfl
          | ok x =>
           obtain ⟨nm1,vis1,b⟩:=x
           rintro ⟨h,hp1,hl1⟩
           rw [h]
           simp only [Option.bind_some,eb3,id]
           have h:=ihb l8 (by omega) nm1 vis (pre ++ [d]) lo (by omega) (by simp; omega) (by omega) (R.ext hp1)
           revert h
           cases uB p f2 f3 lo nm1 vis l8 with
           | error c=>intro h; simp only [NB] at h; rw [h]; exact rfl
           | ok x =>
            obtain ⟨nm2,vis2,b8⟩:=x
            rintro ⟨h,hp2,hl2⟩
            rw [h]
            exact ⟨d,rfl,(R.ext hp1).ext hp2,hp1.trans hp2,by simp only [szS]; omega⟩
         | false =>
          simp only [cond_false]
          have fin : ∀ (nm1:List ByteArray) (vis1:List Nat) (d1:List (ByteArray × Int)) (v:Int),Rel (pre ++ [d1]) vis1 nm1→nm <+: nm1→nm1.length≤nm.length + 1 →
            NN (f105_j5 k (fam105 k m) op name fr ix flag r6 l7 l8 l9 l10 p f0 f1 f2 f3 f4 f5 nm1 (pre ++ [d1]) lo v) p (.mk f0 f1 f2 f3 f4 f5) lo pre nm
             (uD (op != 6 || flag == 0 || decide (lo > 0)) 22 (.ok (nm1,vis1,.mk op name v fr ix flag r6 l7 l8 l9 l10))) (szS (.mk op name s2 fr s4 flag l6 l7 l8 l9 l10)):=by
           intro nm1 vis1 d1 v R1 hp1 hl1
           unfold f105_j5
           simp only [f58_eq,Option.bind_some,gt_nat,uD,cond_true]
           cases (op != 6) <;> cases (flag == 0) <;> cases decide (lo > 0) <;> first | exact rfl | exact ⟨d1,rfl,R1,hp1,by simp only [szS]; omega⟩
          cases seq name ⟨#[]⟩ with
          | true =>
           simp only [Bool.not_true,cond_false,cond_true,eb3]
           exact fin nm vis d s2 R (List.prefix_refl _) (by omega)
          | false =>
           simp only [Bool.not_false,cond_true,cond_false]
           have h:=opt_make k p (.mk f0 f1 f2 f3 f4 f5) lo R name (by omega) (by omega)
           revert h
           cases uMk nm vis name with
           | error c=>intro h; simp only [NN] at h; rw [h]; exact rfl
           | ok x =>
            obtain ⟨nm1,vis1,v⟩:=x
            rintro ⟨d1,h,R1,hp1,hl1⟩
            rw [h]
            exact fin nm1 vis1 d1 v R1 hp1 hl1
        cases h20:(op == 20) <;> cases h22:(op == 22) <;> cases h23:(op == 23) <;> (have h:=tail3 _ rfl; simp only [h20,h22,h23,Bool.true_or,Bool.or_true,Bool.false_or,cond_true,cond_false] at h ⊢; exact h)
       cases h18:(op == 18) with
       | true=>simp only [cond_true,Bool.true_or]; have h:=tail2 true (by simp [h18]); simpa only [h18,Bool.true_or,cond_true] using h
       | false=>simp only [cond_false,Bool.false_or]; have h:=tail2 (op == 19) (by simp [h18]); simpa only [h18,Bool.false_or] using h
     cases hfr:seq fr ⟨#[]⟩ with
     | true =>
      simp only [Bool.not_true,cond_false,cond_true]
      exact tail s4
     | false =>
      simp only [Bool.not_false,cond_true,cond_false]
      rw [f122_eq]
      cases uCall op fr r6.length p 0 with
      | error c=>exact rfl
      | ok ix=>exact tail ix
  ·intro l hl nm vis sc lo hnm hsc hlo R
   show NB (f1012166_b k (fam105 k m) (.mk (.mk p) (.mk f0 f1 f2 f3 f4 f5) nm sc lo) ⟨#[]⟩ l) _ _ _ _ _ _ _ _
   rw [uB_eq]
   unfold f1012166_b
   simp only
   rw [guard_le (by unfold maxB; omega)]
   have hs:seq ⟨#[]⟩ ⟨#[]⟩=true:=seq_refl _
   rw [hs]
   simp only [Bool.not_true,cond_false]
   have h:=loopB l 0 [] nm vis sc [] lo (by omega) (by simp; omega) (by omega) (by omega) (by omega) R.push
   revert h
   cases uSs p f2 f3 lo nm vis l with
   | error c=>intro h; exact h
   | ok x =>
    obtain ⟨nm1,vis1,l'⟩:=x
    rintro ⟨h,hp1,hl1⟩
    exact ⟨by rw [h]; simp,hp1,by omega⟩
  ·intro l hl name s0 s1 s2 s3 s4 s5 s6 s7 s8 s9 s10 nm vis sc lo hnm hsc hlo R
   show NB (f1012152_b k (fam105 k m) (.mk (.mk p) (.mk f0 f1 f2 f3 f4 f5) nm sc lo) name l (.mk s0 s1 s2 s3 s4 s5 s6 s7 s8 s9 s10)) _ _ _ _ _ _ _ _
   rw [uI_eq]
   unfold f1012152_b f1012152_j1
   simp only
   rw [guard_le (by unfold maxB; omega)]
   cases hn:seq name ⟨#[]⟩ with
   | true =>
    simp only [Bool.not_true,cond_false,cond_true,eb3]
    have h:=loopS s0 s1 s3 s4 s5 s6 s7 s8 s9 s10 s2 l 0 [] nm vis sc [] lo (by omega) (by simp; omega) (by omega) (by omega) (by omega) R.push
    revert h
    cases uSs p f2 f3 lo nm vis l with
    | error c=>intro h; exact h
    | ok x =>
     obtain ⟨nm1,vis1,l'⟩:=x
     rintro ⟨h,hp1,hl1⟩
     exact ⟨by rw [h]; simp,hp1,by omega⟩
   | false =>
    simp only [Bool.not_false,cond_true,cond_false]
    have h:=opt_make k p (.mk f0 f1 f2 f3 f4 f5) lo R.push name (by omega) (by omega)
    revert h
    cases hu:uMk nm vis name with
    | error c=>intro h; simp only [NN] at h; rw [h]; rfl
    | ok x =>
     obtain ⟨nm1,vis1,v⟩:=x
     rintro ⟨d1,h,R1,hp1,hl1⟩
     rw [h]
     simp only [Option.bind_some,eb3]
     have h2:=loopS s0 s1 s3 s4 s5 s6 s7 s8 s9 s10 v l 0 [] nm1 vis1 sc d1 lo (by omega) (by simp; omega) (by omega) (by omega) (by omega) R1
     revert h2
     cases uSs p f2 f3 lo nm1 vis1 l with
     | error c=>intro h2; exact h2
     | ok x =>
      obtain ⟨nm2,vis2,l'⟩:=x
      rintro ⟨h2,hp2,hl2⟩
      exact ⟨by rw [h2]; simp,hp1.trans hp2,by omega⟩
  ·intro l hl name s0 s1 s2 s3 s4 nm vis sc lo hnm hsc hlo R
   show NB (f1012148_b k (fam105 k m) (.mk (.mk p) (.mk f0 f1 f2 f3 f4 f5) nm sc lo) name l (.mk s0 s1 s2 s3 s4)) _ _ _ _ _ _ _ _
   rw [uI_eq]
   unfold f1012148_b f1012148_j1
   simp only
   rw [guard_le (by unfold maxB; omega)]
   cases hn:seq name ⟨#[]⟩ with
   | true =>
    simp only [Bool.not_true,cond_false,cond_true,eb3]
    have h:=loopC s0 s1 s3 s4 s2 l 0 [] nm vis sc [] lo (by omega) (by simp; omega) (by omega) (by omega) (by omega) R.push
    revert h
    cases uSs p f2 f3 lo nm vis l with
    | error c=>intro h; exact h
    | ok x =>
     obtain ⟨nm1,vis1,l'⟩:=x
     rintro ⟨h,hp1,hl1⟩
     exact ⟨by rw [h]; simp,hp1,by omega⟩
   | false =>
    simp only [Bool.not_false,cond_true,cond_false]
    have h:=opt_make k p (.mk f0 f1 f2 f3 f4 f5) lo R.push name (by omega) (by omega)
    revert h
    cases hu:uMk nm vis name with
    | error c=>intro h; simp only [NN] at h; rw [h]; rfl
    | ok x =>
     obtain ⟨nm1,vis1,v⟩:=x
     rintro ⟨d1,h,R1,hp1,hl1⟩
     rw [h]
     simp only [Option.bind_some,eb3]
     have h2:=loopC s0 s1 s3 s4 v l 0 [] nm1 vis1 sc d1 lo (by omega) (by simp; omega) (by omega) (by omega) (by omega) R1
     revert h2
     cases uSs p f2 f3 lo nm1 vis1 l with
     | error c=>intro h2; exact h2
     | ok x =>
      obtain ⟨nm2,vis2,l'⟩:=x
      rintro ⟨h2,hp2,hl2⟩
      exact ⟨by rw [h2]; simp,hp1.trans hp2,by omega⟩
  ·intro l hl nm vis sc lo hnm hsc hlo R
   show NB (f1012366_b k (fam105 k m) (.mk (.mk p) (.mk f0 f1 f2 f3 f4 f5) nm sc lo) ⟨#[]⟩ l) _ _ _ _ _ _ _ _
   unfold f1012366_b
   simp only
   rw [w64_nat (x:=(lo:Int) + 1) (n:=lo + 1) (by omega) (by omega)]
   have h:=ihb l (by omega) nm vis sc (lo + 1) (by omega) (by omega) (by omega) R
   revert h
   cases uB p f2 f3 (lo + 1) nm vis l with
   | error c=>intro h; simp only [NB] at h; rw [h]; rfl
   | ok x =>
    obtain ⟨nm1,vis1,l'⟩:=x
    rintro ⟨h,hp1,hl1⟩
    rw [h]
    simp only [Option.bind_some]
    rw [w64_nat (x:=((lo + 1:Nat):Int) - 1) (n:=lo) (by omega) (by omega)]
    exact ⟨rfl,hp1,hl1⟩
  ·intro l hl name s0 s1 s2 s3 s4 s5 s6 s7 s8 s9 s10 nm vis sc lo hnm hsc hlo R
   show NB (f1012352_b k (fam105 k m) (.mk (.mk p) (.mk f0 f1 f2 f3 f4 f5) nm sc lo) name l (.mk s0 s1 s2 s3 s4 s5 s6 s7 s8 s9 s10)) _ _ _ _ _ _ _ _
   unfold f1012352_b
   simp only
   rw [w64_nat (x:=(lo:Int) + 1) (n:=lo + 1) (by omega) (by omega)]
   have h:=ihi l (by omega) name s0 s1 s2 s3 s4 s5 s6 s7 s8 s9 s10 nm vis sc (lo + 1) (by omega) (by omega) (by omega) R
   revert h
   cases uI p f2 f3 (lo + 1) nm vis name s2 l with
   | error c=>intro h; simp only [NB] at h; rw [h]; rfl
   | ok x =>
    obtain ⟨nm1,vis1,l'⟩:=x
    rintro ⟨h,hp1,hl1⟩
    rw [h]
    simp only [Option.bind_some]
    rw [w64_nat (x:=((lo + 1:Nat):Int) - 1) (n:=lo) (by omega) (by omega)]
    exact ⟨rfl,hp1,hl1⟩
end Go.Proofs.YtoajecnoffhlbaaGreatDoor
namespace Go.Proofs.YtoajecnoffhlbaaGreatDoor
open Go
def RR {β:Type} (r:Option (Dlook × β)) (p:List DFunc) (f:DFunc) (lo:Nat) (er:Int) (nm:List ByteArray) (vis:List Nat) (u:Ex (List ByteArray × List Nat × β)) (n:Nat):Prop :=
 ∃ nm' vis' er' y,r=some (.mk p f nm' (vI vis') lo er',y)∧nm <+: nm'∧vis <+: vis'∧okV nm' vis'∧nm'.length≤nm.length + n∧vis'.length≤vis.length + n∧(er ≠ 0→er'=er) ∧
  (er=0→match u with | .error c=>er'=c∧c ≠ 0 | .ok (a,b,x)=>er'=0∧nm'=a∧vis'=b∧y=x)
def RB {β:Type} (r:Option (Dlook × β)) (p:List DFunc) (f:DFunc) (lo:Nat) (er:Int) (nm:List ByteArray) (vis:List Nat) (u:Ex (List ByteArray × List Nat × β)) (n:Nat):Prop :=
 ∃ nm' er' y,r=some (.mk p f nm' (vI vis) lo er',y)∧nm <+: nm'∧okV nm' vis∧nm'.length≤nm.length + n∧(er ≠ 0→er'=er) ∧
  (er=0→match u with | .error c=>er'=c∧c ≠ 0 | .ok (a,_,x)=>er'=0∧nm'=a∧y=x)
section
variable {β γ:Type} {p:List DFunc} {f:DFunc} {lo:Nat} {er:Int} {nm:List ByteArray} {vis:List Nat}
theorem RR.bind {r:Option (Dlook × β)} {F:Dlook × β→Option (Dlook × γ)} {u:Ex (List ByteArray × List Nat × β)} {n1 n2:Nat} {K:List ByteArray→List Nat→β→Ex (List ByteArray × List Nat × γ)}
  (h1:RR r p f lo er nm vis u n1)
  (h2 : ∀ nm1 vis1 er1 y,nm <+: nm1→vis <+: vis1→okV nm1 vis1→nm1.length≤nm.length + n1→vis1.length≤vis.length + n1→RR (F (.mk p f nm1 (vI vis1) lo er1,y)) p f lo er1 nm1 vis1 (K nm1 vis1 y) n2) :
  RR (r.bind F) p f lo er nm vis (eb3 u K) (n1 + n2):=by
 obtain ⟨nm1,vis1,er1,y,rfl,hp,hv,hok,hl,hl2,he,h0⟩:=h1
 obtain ⟨nm2,vis2,er2,z,hz,hp',hv',hok',hl',hl2',he',h0'⟩:=h2 nm1 vis1 er1 y hp hv hok hl hl2
 refine ⟨nm2,vis2,er2,z,hz,hp.trans hp',hv.trans hv',hok',by omega,by omega,fun h=>?_,fun h=>?_⟩
 ·rw [he' (by rw [he h]; exact h),he h]
 ·have h0:=h0 h
  cases u with
  | error c =>
   obtain ⟨rfl,hc⟩:=h0
   exact ⟨he' hc,hc⟩
  | ok x =>
   obtain ⟨a,b,x⟩:=x
   obtain ⟨rfl,rfl,rfl,rfl⟩:=h0
   exact h0' rfl
theorem RB.bind {r:Option (Dlook × β)} {F:Dlook × β→Option (Dlook × γ)} {u:Ex (List ByteArray × List Nat × β)} {n1 n2:Nat} {K:List ByteArray→β→Ex (List ByteArray × List Nat × γ)}
  (h1:RB r p f lo er nm vis u n1)
  (h2 : ∀ nm1 er1 y,nm <+: nm1→okV nm1 vis→nm1.length≤nm.length + n1→RR (F (.mk p f nm1 (vI vis) lo er1,y)) p f lo er1 nm1 vis (K nm1 y) n2) :
  RR (r.bind F) p f lo er nm vis (eb3 u fun a _ x=>K a x) (n1 + n2):=by
 obtain ⟨nm1,er1,y,rfl,hp,hok,hl,he,h0⟩:=h1
 obtain ⟨nm2,vis2,er2,z,hz,hp',hv',hok',hl',hl2',he',h0'⟩:=h2 nm1 er1 y hp hok hl
 refine ⟨nm2,vis2,er2,z,hz,hp.trans hp',hv',hok',by omega,by omega,fun h=>?_,fun h=>?_⟩
 ·rw [he' (by rw [he h]; exact h),he h]
 ·have h0:=h0 h
  cases u with
  | error c =>
   obtain ⟨rfl,hc⟩:=h0
   exact ⟨he' hc,hc⟩
  | ok x =>
   obtain ⟨a,b,x⟩:=x
   obtain ⟨rfl,rfl,rfl⟩:=h0
   exact h0' rfl
theorem RR.done (hv:okV nm vis) (y:β) (n:Nat):RR (some (.mk p f nm (vI vis) lo er,y)) p f lo er nm vis (.ok (nm,vis,y)) n :=
 ⟨nm,vis,er,y,rfl,List.prefix_refl _,List.prefix_refl _,hv,by omega,by omega,fun _=>rfl,fun h=>⟨h,rfl,rfl,rfl⟩⟩
theorem RR.le {r:Option (Dlook × β)} {u:Ex (List ByteArray × List Nat × β)} {n m:Nat} (h:RR r p f lo er nm vis u n) (hn:n≤m):RR r p f lo er nm vis u m:=by
 obtain ⟨nm1,vis1,er1,y,hr,hp,hv,hok,hl,hl2,he,h0⟩:=h
 exact ⟨nm1,vis1,er1,y,hr,hp,hv,hok,by omega,by omega,he,h0⟩
theorem RR.fail {r:Option (Dlook × β)} {u:Ex (List ByteArray × List Nat × β)} {n:Nat} {b:Bool} {c:Int} (hc:c ≠ 0) (h:RR r p f lo (failI er b c) nm vis u n):RR r p f lo er nm vis (uD b c u) n:=by
 obtain ⟨nm1,vis1,er1,y,hr,hp,hv,hok,hl,hl2,he,h0⟩:=h
 refine ⟨nm1,vis1,er1,y,hr,hp,hv,hok,hl,hl2,fun h=>?_,fun h=>?_⟩
 ·have e:failI er b c=er:=by unfold failI; rw [show (er == 0)=false by simpa using h]; simp only [Bool.and_false,cond_false]
  rw [e] at he; exact he h
 ·subst h
  cases b with
  | true=>exact h0 rfl
  | false=>exact ⟨he hc,hc⟩
end
theorem vI_snoc (vis:List Nat) (n:Nat):vI vis ++ [(n:Int)]=vI (vis ++ [n]):=by simp [vI]
theorem vI_take (vis vis' : List Nat) (h:vis <+: vis'):(vI vis').take ((vI vis).length:Int).toNat=vI vis:=by
 obtain ⟨t,rfl⟩:=h
 simp [vI]
theorem vI_len (vis:List Nat):(vI vis).length=vis.length:=by simp [vI]
theorem slotI_neg (o:Option Nat):decide (slotI o < 0)=o.isNone:=by cases o <;> simp [slotI]
theorem make_ref (k:Nat) (p:List DFunc) (f:DFunc) (lo:Nat) (er:Int) {nm:List ByteArray} {vis:List Nat} (hv:okV nm vis) (a:ByteArray) (h1:nm.length≤1000000) (h2:vis.length≤1000000) :
  RR (f83 k (.mk p f nm (vI vis) lo er) a) p f lo er nm vis (uMk nm vis a) 1:=by
 obtain ⟨f0,f1,f2,f3,f4,f5⟩:=f
 unfold f83 f83_b
 simp only
 rw [f106_eq k p (.mk f0 f1 f2 f3 f4 f5) nm vis lo er a hv]
 simp only [Option.bind_some,f85_eq]
 rw [guard_le (by unfold maxB; omega),guard_le (by unfold maxB; rw [vI_len]; omega),vI_snoc,slotI_neg]
 refine ⟨nm ++ [a],vis ++ [nm.length],_,_,rfl,⟨[a],rfl⟩,⟨[nm.length],rfl⟩,?_,by simp,by simp,fun h=>?_,fun h=>?_⟩
 ·intro v hv'
  rcases List.mem_append.1 hv' with h | h
  ·have:=hv v h; simp; omega
  ·simp at h; subst h; simp
 ·unfold failI; rw [show (er == 0)=false by simpa using h,Bool.and_false]; rfl
 ·subst h
  unfold uMk
  cases slotOf nm vis a with
  | some v=>exact ⟨rfl,by decide⟩
  | none=>exact ⟨rfl,rfl,rfl,rfl⟩
theorem int_beq_comm (a b:Int):(a == b)=(b == a):=by rw [Bool.eq_iff_iff,beq_iff_eq,beq_iff_eq]; exact eq_comm
end Go.Proofs.YtoajecnoffhlbaaGreatDoor
namespace Go.Proofs.YtoajecnoffhlbaaGreatDoor
open Go
def okE {α:Type} (u:Ex α) (er:Int) (y:α):Prop:=match u with | .error c=>er=c∧c ≠ 0 | .ok x=>er=0∧y=x
section
variable {α β γ:Type} {p:List DFunc} {f:DFunc} {lo:Nat} {er:Int} {nm:List ByteArray} {vis:List Nat}
theorem RR.eb {r:Option (Dlook × γ)} {u:Ex α} {T:α→Ex (List ByteArray × List Nat × γ)} {n:Nat} {er1:Int} {y:α} (he:er ≠ 0→er1=er) (h0:er=0→okE u er1 y)
  (h:RR r p f lo er1 nm vis (T y) n):RR r p f lo er nm vis (Go.Proofs.YtoajecnoffhlbaaGreatDoor.eb u T) n:=by
 obtain ⟨nm2,vis2,er2,z,hz,hp',hv',hok',hl',hl2',he',h0'⟩:=h
 refine ⟨nm2,vis2,er2,z,hz,hp',hv',hok',hl',hl2',fun h=>?_,fun h=>?_⟩
 ·rw [he' (by rw [he h]; exact h),he h]
 ·have h0:=h0 h
  cases u with
  | error c =>
   obtain ⟨rfl,hc⟩:=h0
   exact ⟨he' hc,hc⟩
  | ok x =>
   obtain ⟨rfl,rfl⟩:=h0
   exact h0' rfl
theorem RR.any {r:Option (Dlook × γ)} {u u' : Ex (List ByteArray × List Nat × γ)} {n:Nat} (h:RR r p f lo er nm vis u n) (he:er ≠ 0):RR r p f lo er nm vis u' n:=by
 obtain ⟨nm2,vis2,er2,z,hz,hp',hv',hok',hl',hl2',he',h0'⟩:=h
 exact ⟨nm2,vis2,er2,z,hz,hp',hv',hok',hl',hl2',he',fun h=>absurd h he⟩
theorem RR.congr {r r' : Option (Dlook × γ)} {u:Ex (List ByteArray × List Nat × γ)} {n:Nat} (e:r=r') (h:RR r' p f lo er nm vis u n):RR r p f lo er nm vis u n:=e ▸ h
end
theorem uEs_len {nm:List ByteArray} {vis:List Nat} : ∀ {l x:List DExpr},uEs nm vis l=.ok x→x.length=l.length
 | [],x,h=>by cases h; rfl
 | e :: l,x,h=>by
  unfold uEs at h
  cases he:uE nm vis e with
  | error c=>rw [he] at h; cases h
  | ok e' =>
   rw [he] at h
   cases hl:uEs nm vis l with
   | error c=>rw [hl] at h; cases h
   | ok y=>rw [hl] at h; cases h; simp [uEs_len hl]
theorem f126_eq (k:Nat) (op:Int):f126 k op=some (op == 1 || op == 3 || op == 4 || op == 5 || op == 6 || op == 7 || op == 8 || op == 9):=by
 unfold f126 f126_b f126_j1
 cases (op == 1) <;> cases (op == 3) <;> cases (op == 4) <;> cases (op == 5) <;> cases (op == 6) <;> cases (op == 7) <;> cases (op == 8) <;> cases (op == 9) <;> rfl
theorem optcall (k:Nat) (p:List DFunc) (f:DFunc) (lo:Nat) (er:Int) {nm:List ByteArray} {vis:List Nat} (hv:okV nm vis) (op:Int) (name:ByteArray) (s2:Int) (fr:ByteArray) (s4 flag:Int) (l6:List DExpr) (l7 l8 l9:List DStmt) (l10:List DCase) :
  ∃ er1 ix,(∀ {γ:Type} (J:Dlook × Int→Option γ),cond (!seq fr ⟨#[]⟩) ((f125 k (.mk p f nm (vI vis) lo er) (.mk op name s2 fr s4 flag l6 l7 l8 l9 l10)).bind J) (J (.mk p f nm (vI vis) lo er,s4))=J (.mk p f nm (vI vis) lo er1,ix)) ∧
   (er ≠ 0→er1=er)∧(er=0→okE (cond (seq fr ⟨#[]⟩) (.ok s4) (uCall op fr l6.length p 0)) er1 ix):=by
 cases seq fr ⟨#[]⟩ with
 | true=>exact ⟨er,s4,fun J=>rfl,fun _=>rfl,fun h=>⟨h,rfl⟩⟩
 | false =>
  obtain ⟨f0,f1,f2,f3,f4,f5⟩:=f
  have hc : ∃ er1 ix,f125 k (.mk p (.mk f0 f1 f2 f3 f4 f5) nm (vI vis) lo er) (.mk op name s2 fr s4 flag l6 l7 l8 l9 l10)=some (.mk p (.mk f0 f1 f2 f3 f4 f5) nm (vI vis) lo er1,ix)∧(er ≠ 0→er1=er) ∧
    (er=0→okE (uCall op fr l6.length p 0) er1 ix):=by
   unfold f125 f125_b f45 f45_b
   simp only
   obtain ⟨r,h1,h2⟩:=f45_spec' k op fr l6.length p []
   simp only [List.length_nil,List.nil_append] at h1 h2
   rw [h1]
   simp only [Option.bind_some,f85_eq]
   rcases h2 with ⟨rfl,h2⟩ | ⟨j,g0,g1,g2,g3,g4,g5,rfl,h3,h2⟩
   ·rw [h2]
    refine ⟨failI er false 20,0,rfl,fun h=>?_,fun h=>?_⟩
    ·unfold failI; rw [show (er == 0)=false by simpa using h]; rfl
    ·subst h; exact ⟨rfl,by decide⟩
   ·rw [h2]
    have:idxO p (j:Int)=some (.mk g0 g1 g2 g3 g4 g5):=by unfold idxO; rw [if_pos (by omega)]; simpa using h3
    have hj:decide ((j:Int) < 0)=false:=by simp
    rw [this,hj,int_beq_comm (g1.length:Int)]
    simp only [cond_false,Option.bind_some,f85_eq,this]
    refine ⟨_,_,rfl,fun h=>?_,fun h=>?_⟩
    ·unfold failI
     rw [show (er == 0)=false by simpa using h]; simp only [Bool.and_false,cond_false]
     rw [show (er == 0)=false by simpa using h]; simp only [Bool.and_false,cond_false]
    ·subst h
     cases (g3 == (op == 28)) <;> cases ((l6.length:Int) == (g1.length:Int)) <;> first | exact ⟨rfl,by decide⟩ | exact ⟨rfl,rfl⟩
  obtain ⟨er1,ix,h1,h2,h3⟩:=hc
  exact ⟨er1,ix,fun J=>by rw [h1]; rfl,h2,h3⟩
theorem node_plain {op:Int} {name fr:ByteArray} {flag:Int} {n6 n7 n8 n9 n10:Nat} (h:nodeS op name fr flag n6 n7 n8 n9 n10=true) (h1:1≤op) (h2:op≤16) (h3:op ≠ 2) :
  n7=0∧n8=0∧((op == 1 || op == 3 || op == 4 || op == 5 || op == 6 || op == 7 || op == 8 || op == 9)=true∨seq name ⟨#[]⟩=true):=by
 have:op=1∨op=3∨op=4∨op=5∨op=6∨op=7∨op=8∨op=9∨op=10∨op=11∨op=12∨op=13∨op=14∨op=15∨op=16:=by omega
 rcases this with rfl | rfl | rfl | rfl | rfl | rfl | rfl | rfl | rfl | rfl | rfl | rfl | rfl | rfl | rfl <;>
  simp [nodeS,shp,nameR,fromR,flagR,casesR] at h ⊢ <;> simp_all <;> omega
theorem node_range {op:Int} {name fr:ByteArray} {flag:Int} {n6 n7 n8 n9 n10:Nat} (h:nodeS op name fr flag n6 n7 n8 n9 n10=true):1≤op∧op≤29:=by
 refine Decidable.byContradiction fun hc=>?_
 rw [nodeS,shp_none (by omega)] at h
 cases h
end Go.Proofs.YtoajecnoffhlbaaGreatDoor
namespace Go.Proofs.YtoajecnoffhlbaaGreatDoor
open Go
theorem rRS (k:Nat) (p:List DFunc) (f0:ByteArray) (f1:List DParam) (f2:Int) (f3:Bool) (f4:Int) (f5:List DStmt) : ∀ m,m≤k →
  (∀ s a,4 * szS s≤m→gS false s a=true→∀ (nm:List ByteArray) (vis:List Nat) (lo:Nat) (er:Int),okV nm vis→nm.length + szS s≤100000→vis.length + szS s≤100000→lo + szS s≤100000 →
   RR ((fam84 k m).f107 (.mk p (.mk f0 f1 f2 f3 f4 f5) nm (vI vis) lo er) s) p (.mk f0 f1 f2 f3 f4 f5) lo er nm vis (uS p f2 f3 lo nm vis s) (szS s)) ∧
  (∀ l a,4 * szSs l + 1≤m→gSs false l a=true→∀ (lp:Int) (ln:Nat),lp=(ln:Int)→∀ (nm:List ByteArray) (vis:List Nat) (lo:Nat) (er:Int),okV nm vis→nm.length + szSs l≤100000→vis.length + szSs l≤100000→lo + ln + szSs l≤100000 →
   RB ((fam84 k m).f84 (.mk p (.mk f0 f1 f2 f3 f4 f5) nm (vI vis) lo er) l lp) p (.mk f0 f1 f2 f3 f4 f5) lo er nm vis (uB p f2 f3 (lo + ln) nm vis l) (szSs l)) ∧
  (∀ l a,4 * szSs l + 2≤m→gSs false l a=true→∀ (name:ByteArray) (s2:Int),seq name ⟨#[]⟩=false→∀ (lp:Int) (ln:Nat),lp=(ln:Int)→∀ (nm:List ByteArray) (vis:List Nat) (lo:Nat) (er:Int),okV nm vis→nm.length + szSs l + 1≤100000→vis.length + szSs l + 1≤100000→lo + ln + szSs l≤100000 →
   RB ((fam84 k m).f127 (.mk p (.mk f0 f1 f2 f3 f4 f5) nm (vI vis) lo er) name l lp) p (.mk f0 f1 f2 f3 f4 f5) lo er nm vis (uI p f2 f3 (lo + ln) nm vis name s2 l) (szSs l + 1)) ∧
  (∀ c a,4 * szC c≤m + 1→gC false c a=true→∀ (nm:List ByteArray) (vis:List Nat) (lo:Nat) (er:Int),okV nm vis→nm.length + szC c≤100000→vis.length + szC c≤100000→lo + szC c≤100000 →
   RB ((fam84 k m).f128 (.mk p (.mk f0 f1 f2 f3 f4 f5) nm (vI vis) lo er) c) p (.mk f0 f1 f2 f3 f4 f5) lo er nm vis (uC p f2 f3 lo nm vis c) (szC c))
 | 0,_=>⟨fun e a he=>by have:=szS_pos e; omega,fun l a hl=>by omega,fun l a hl=>by omega,fun c a hc=>by have:=szC_pos c; omega⟩
 | m + 1,hmk=>by
  obtain ⟨ihs,ihb,ihi,ihc⟩:=rRS k p f0 f1 f2 f3 f4 f5 m (by omega)
  refine ⟨?_,?_,?_,?_⟩
  ·intro s a hm hg nm vis lo er hv hnm hvis hlo
   obtain ⟨op,name,s2,fr,s4,flag,l6,l7,l8,l9,l10⟩:=s
   simp only [szS] at hm hnm hvis hlo ⊢
   simp only [gS,Bool.and_eq_true,Bool.false_or] at hg
   obtain ⟨⟨⟨_,hslot⟩,hnode⟩,hg6,hg7,hg8,hg9,hg10⟩:=hg
   have hrange:=node_range hnode
   show RR (f107_b k (fam84 k m) (.mk p (.mk f0 f1 f2 f3 f4 f5) nm (vI vis) lo er) (.mk op name s2 fr s4 flag l6 l7 l8 l9 l10)) p _ lo er nm vis _ _
   unfold f107_b
   simp only
   rw [uS]
   obtain ⟨r6,h1,h2⟩:=f124_eq k p (.mk f0 f1 f2 f3 f4 f5) lo er hv l6 (a + 1) (by omega) (by omega) hg6
   rw [h1]
   simp only [Option.bind_some]
   have hen:er ≠ 0→errI er (uEs nm vis l6)=er:=fun h=>by unfold errI; rw [show (er == 0)=false by simpa using h]; rfl
   have hez:er=0→okE (uEs nm vis l6) (errI er (uEs nm vis l6)) r6:=by
    intro h; subst h
    cases hu:uEs nm vis l6 with
    | error c=>obtain rfl:=uEs_20 hu; exact ⟨rfl,by decide⟩
    | ok x=>exact ⟨rfl,h2 x hu⟩
   have hlen:errI er (uEs nm vis l6)=0→r6.length=l6.length:=by
    intro h
    by_cases her:er=0
    ·have h0:=hez her
     revert h0
     cases hu:uEs nm vis l6 with
     | error c=>rw [hu] at h; rintro ⟨h',hc⟩; exact absurd (h'.symm.trans h) hc
     | ok x=>rintro ⟨_,rfl⟩; exact uEs_len hu
    ·exact absurd (hen her ▸ h) her
   refine RR.eb (y:=r6) hen hez ?_
   generalize errI er (uEs nm vis l6)=er1 at hlen
   obtain ⟨er2,ix,hc,hec,hcz⟩:=optcall k p (.mk f0 f1 f2 f3 f4 f5) lo er1 hv op name s2 fr s4 flag r6 l7 l8 l9 l10
   refine RR.congr (hc fun q_=>match q_ with | (.mk z0 (.mk z10 z11 z12 z13 z14 z15) z2 z3 z4 z5,r)=>f107_j1 k (fam84 k m) op name s2 fr flag l7 l8 l9 l10 r6 z0 z10 z11 z12 z13 z14 z15 z2 z3 z4 z5 r) ?_
   have hlen2:er2=0→r6.length=l6.length:=by
    intro h
    by_cases her:er1=0
    ·exact hlen her
    ·exact absurd (hec her ▸ h) her
   by_cases h27:op=27
   ·subst h27
    have hn:=hnode
    unfold nodeS at hn
    rw [show shp 27=some (0,false,0,0,false,0) from rfl] at hn
    simp only [fromR,cond_false,Bool.and_eq_true] at hn
    have hfr:=hn.2.1.1.1.2
    rw [hfr] at hcz
    obtain rfl:er2=er1:=by
     by_cases h:er1=0
     ·rw [(hcz h).1,h]
     ·exact hec h
    have loop : ∀ (l:List DCase) (i:Nat) (xs:List DCase) (nm:List ByteArray) (er:Int),4 * szCs l≤m + 1→gCs false l (a + 1)=true→okV nm vis→xs.length + szCs l≤100000→nm.length + szCs l≤100000→vis.length + szCs l≤100000→lo + szCs l≤100000 →
      ∃ nm' er' y,f107_l1 k (fam84 k m) 27 name fr flag l7 l8 l9 r6 ix s2 l i p f0 f1 f2 f3 f4 f5 nm (vI vis) lo er xs=some (.mk p (.mk f0 f1 f2 f3 f4 f5) nm' (vI vis) lo er',.mk 27 name s2 fr ix flag r6 l7 l8 l9 y)∧nm <+: nm'∧okV nm' vis∧nm'.length≤nm.length + szCs l∧(er ≠ 0→er'=er) ∧
       (er=0→match uCs p f2 f3 lo nm vis l with | .error c=>er'=c∧c ≠ 0 | .ok (b,_,x)=>er'=0∧nm'=b∧y=xs ++ x):=by
     intro l
     induction l with
     | nil =>
      intro i xs nm er _ _ hv _ _ _ _
      exact ⟨nm,er,xs,rfl,List.prefix_refl _,hv,by omega,fun _=>rfl,fun h=>by rw [uCs]; exact ⟨h,rfl,by simp⟩⟩
     | cons c l ih =>
      intro i xs nm er hm hg hv hxs hnm hvis hlo
      obtain ⟨e0,e1,e2,e3,e4⟩:=c
      have hp0:=szC_pos (.mk e0 e1 e2 e3 e4)
      simp only [szCs] at hm hxs hnm hvis hlo ⊢
      simp only [gCs,Bool.and_eq_true] at hg
      unfold f107_l1
      rw [uCs]
      obtain ⟨nm1,er1,y,hr,hp1,hok1,hl1,he,h0⟩:=ihc (.mk e0 e1 e2 e3 e4) (a + 1) (by omega) hg.1.2 nm vis lo er hv (by omega) (by omega) (by omega)
      rw [hr]
      obtain ⟨r0,r1,r2,r3,r4⟩:=y
      simp only [Option.bind_some]
      rw [guard_le (by unfold maxB; omega)]
      obtain ⟨nm2,er2,z,hr2,hp2,hok2,hl3,he2,h02⟩:=ih (i + 1) (xs ++ [.mk r0 r1 r2 r3 r4]) nm1 er1 (by omega) hg.2 hok1 (by rw [app_len]; omega) (by omega) (by omega) (by omega)
      refine ⟨nm2,er2,z,hr2,hp1.trans hp2,hok2,by omega,fun h=>?_,fun h=>?_⟩
      ·rw [he2 (by rw [he h]; exact h),he h]
      ·have h0:=h0 h
       revert h0
       cases uC p f2 f3 lo nm vis (.mk e0 e1 e2 e3 e4) with
       | error c =>
        rintro ⟨rfl,hc⟩
        exact ⟨he2 hc,hc⟩
       | ok x =>
        obtain ⟨b,v,x⟩:=x
        rintro ⟨rfl,rfl,rfl⟩
        have h02:=h02 rfl
        revert h02
        simp only [eb3]
        cases uCs p f2 f3 lo nm1 vis l with
        | error c=>exact id
        | ok x =>
         obtain ⟨b,v,x⟩:=x
         rintro ⟨rfl,rfl,rfl⟩
         exact ⟨rfl,rfl,by simp⟩
    obtain ⟨nm',er',y,hr,hp,hok,hl,he,h0⟩:=loop l10 0 [] nm er2 (by omega) hg10 hv (by simp; omega) (by omega) (by omega) (by omega)
    unfold f107_j1 f107_j6 f107_j2 f107_j4
    simp only [f126_eq,Int.reduceBEq,Bool.or_false,cond_false,cond_true,Option.bind_some]
    refine ⟨nm',vis,er',_,hr,hp,List.prefix_refl _,hok,by omega,by omega,he,fun h=>?_⟩
    have h0:=h0 h
    revert h0
    cases uCs p f2 f3 lo nm vis l10 with
    | error c=>exact id
    | ok x =>
     obtain ⟨b,v,x⟩:=x
     rintro ⟨rfl,rfl,rfl⟩
     refine ⟨rfl,rfl,rfl,?_⟩
     rw [(hcz h).2]
   ·rw [show (op == 27)=false by simpa using h27]
    simp only [cond_false]
    refine RR.eb (y:=ix) hec hcz ?_
    generalize er2=er3 at hlen2
    unfold f107_j1 f107_j6
    simp only [f126_eq,Option.bind_some]
    by_cases h2' : op=2
    ·subst h2'
     unfold f107_j2 f107_j3
     simp only [Int.reduceBEq,Bool.or_false,cond_false,cond_true]
     rw [f106_eq k p (.mk f0 f1 f2 f3 f4 f5) nm vis lo er3 name hv]
     simp only [Option.bind_some,f85_eq]
     cases slotOf nm vis name with
     | none=>exact RR.fail (u:=.ok (nm,vis,_)) (b:=false) (by decide) (RR.done hv _ _)
     | some v=>exact RR.fail (u:=.ok (nm,vis,_)) (b:=true) (c:=20) (by decide) (RR.done hv _ _)
    ·rw [show (op == 2)=false by simpa using h2']
     simp only [cond_false]
     have rest : ∀ (o:Int),o=op→17≤o→RR (f107_j2 k (fam84 k m) o name fr flag l7 l8 l9 l10 r6 ix p f0 f1 f2 f3 f4 f5 nm (vI vis) lo er3 s2) p (.mk f0 f1 f2 f3 f4 f5) lo er3 nm vis
       (cond (o == 18 || o == 19) (uD (decide (lo > 0)) 22 (.ok (nm,vis,.mk o name s2 fr ix flag r6 l7 l8 l9 l10)))
       (cond (o == 29) (uD f3 22 (.ok (nm,vis,.mk o name s2 fr ix flag r6 l7 l8 l9 l10)))
       (cond (o == 17) (uD ((decide (r6.length > 0)) == (f2 != 0)) 22 (.ok (nm,vis,.mk o name s2 fr ix flag r6 l7 l8 l9 l10)))
       (cond (o == 21) (eb3 (uB p f2 f3 (lo + 1) nm vis l7) fun nm1 _ b=>.ok (nm1,vis,.mk o name s2 fr ix flag r6 b l8 l9 l10))
       (cond (o == 28) (eb3 (uI p f2 f3 (lo + 1) nm vis name s2 l7) fun nm1 _ vb=>.ok (nm1,vis,.mk o name vb.1 fr ix flag r6 vb.2 l8 l9 l10))
       (cond (o == 25) (eb3 (uI p f2 f3 lo nm vis name s2 l7) fun nm1 _ vb=>.ok (nm1,vis,.mk o name vb.1 fr ix flag r6 vb.2 l8 l9 l10))
       (cond (o == 24) (eb3 (uB p f2 f3 lo nm vis l7) fun nm1 _ b7=>eb3 (uI p f2 f3 lo nm1 vis name s2 l8) fun nm2 _ vb=>eb3 (uB p f2 f3 lo nm2 vis l9) fun nm3 _ b9=>.ok (nm3,vis,.mk o name vb.1 fr ix flag r6 b7 vb.2 b9 l10))
       (cond (o == 20 || o == 22 || o == 23 || o == 26) (eb3 (uB p f2 f3 lo nm vis l7) fun nm1 _ b7=>eb3 (uB p f2 f3 lo nm1 vis l8) fun nm2 _ b8=>.ok (nm2,vis,.mk o name s2 fr ix flag r6 b7 b8 l9 l10))
        (eb3 (cond (seq name ⟨#[]⟩) (.ok (nm,vis,s2)) (uMk nm vis name)) fun nm1 vis1 v=>uD (o != 6 || flag == 0 || decide (lo > 0)) 22 (.ok (nm1,vis1,.mk o name v fr ix flag r6 l7 l8 l9 l10)))))))))))
       (szEs l6 + szSs l7 + szSs l8 + szSs l9 + szCs l10 + 1):=by
      intro o ho hge
      have hoe:o=17∨o=18∨o=19∨o=20∨o=21∨o=22∨o=23∨o=24∨o=25∨o=26∨o=28∨o=29:=by omega
      rw [← ho] at hnode
      clear ho h27 h2' hrange hcz hc hslot
      have blocks : ∀ (P:Option (Dlook × DStmt)),P=((fam84 k m).f84 (.mk p (.mk f0 f1 f2 f3 f4 f5) nm (vI vis) lo er3) l7 0).bind (fun q_=>match q_ with | (.mk z3118_0 (.mk z3118_1_0 z3118_1_1 z3118_1_2 z3118_1_3 z3118_1_4 z3118_1_5) z3118_2 z3118_3 z3118_4 z3118_5,r3119)=>(((fam84 k m).f84 (Dlook.mk z3118_0 (DFunc.mk z3118_1_0 z3118_1_1 z3118_1_2 z3118_1_3 z3118_1_4 z3118_1_5) z3118_2 z3118_3 z3118_4 z3118_5) l8 0).bind fun q_=>match q_ with | (.mk z3151_0 (.mk z3151_1_0 z3151_1_1 z3151_1_2 z3151_1_3 z3151_1_4 z3151_1_5) z3151_2 z3151_3 z3151_4 z3151_5,r3152)=>(f107_j3 k (fam84 k m) o name fr flag r6 ix s2 r3119 r3152 l9 l10 z3151_0 z3151_1_0 z3151_1_1 z3151_1_2 z3151_1_3 z3151_1_4 z3151_1_5 z3151_2 z3151_3 z3151_4 z3151_5))) →
        RR P p (.mk f0 f1 f2 f3 f4 f5) lo er3 nm vis (eb3 (uB p f2 f3 lo nm vis l7) fun nm1 _ b7=>eb3 (uB p f2 f3 lo nm1 vis l8) fun nm2 _ b8=>.ok (nm2,vis,.mk o name s2 fr ix flag r6 b7 b8 l9 l10)) (szEs l6 + szSs l7 + szSs l8 + szSs l9 + szCs l10 + 1):=by
       rintro _ rfl
       refine RR.le (RB.bind (n2:=szSs l8 + 0) (ihb l7 (a + 1) (by omega) hg7 0 0 rfl nm vis lo er3 hv (by omega) (by omega) (by omega)) fun nm1 er1 y hp1 hok1 hl1=>?_) (by omega)
       exact RB.bind (ihb l8 (a + 1) (by omega) hg8 0 0 rfl nm1 vis lo er1 hok1 (by omega) (by omega) (by omega)) fun nm2 er2 z hp2 hok2 hl2=>RR.done hok2 _ _
      rcases hoe with rfl | rfl | rfl | rfl | rfl | rfl | rfl | rfl | rfl | rfl | rfl | rfl <;> unfold f107_j2 f107_j4 <;> simp only [Int.reduceBEq,Bool.or_false,Bool.or_true,Bool.true_or,Bool.false_or,cond_false,cond_true,f85_eq,Option.bind_some,gt_nat]
      ·
       have hn:=hnode
       unfold nodeS at hn
       rw [show shp 17=some (0,false,0,1,false,0) from rfl] at hn
       simp only [Bool.and_eq_true,decide_eq_true_eq] at hn
       by_cases he3:er3=0
       ·have hl:=hlen2 he3
        rw [show (decide (r6.length > 0))=((r6.length:Int) == 1) by rw [Bool.eq_iff_iff]; simp; omega]
        exact RR.fail (by decide) (RR.done hv _ _)
       ·exact RR.any (RR.fail (u:=.ok (nm,vis,_)) (by decide) (RR.done hv _ _)) he3
      ·exact RR.fail (by decide) (RR.done hv _ _)
      ·exact RR.fail (by decide) (RR.done hv _ _)
      ·exact blocks _ rfl
      ·refine RR.le (RB.bind (n2:=0) (ihb l7 (a + 1) (by omega) hg7 1 1 rfl nm vis lo er3 hv (by omega) (by omega) (by omega)) fun nm1 er1 y hp1 hok1 hl1=>RR.done hok1 _ _) (by omega)
      ·exact blocks _ rfl
      ·exact blocks _ rfl
      ·
       have hn:=hnode
       unfold nodeS at hn
       rw [show shp 24=some (2,false,0,0,true,3) from rfl] at hn
       simp only [Bool.and_eq_true,flagR,Int.reduceBEq,cond_true,cond_false,Bool.false_and,Bool.true_and,Bool.false_or] at hn
       obtain ⟨_,⟨_,⟨⟨hn8,_⟩,_,hnf⟩⟩,_⟩:=hn
       refine RR.le (RB.bind (n2:=szSs l8 + 1 + (szSs l9 + 0)) (ihb l7 (a + 1) (by omega) hg7 0 0 rfl nm vis lo er3 hv (by omega) (by omega) (by omega)) fun nm1 er1 y hp1 hok1 hl1=>?_) (by omega)
       unfold f107_j5
       cases hf:(flag.tmod 2 == 1) with
       | true =>
        rw [hf] at hnf
        simp only [cond_true]
        refine RB.bind (K:=fun nm2 vb=>eb3 (uB p f2 f3 lo nm2 vis l9) fun nm3 _ b9=>.ok (nm3,vis,DStmt.mk 24 name vb.1 fr ix flag r6 y vb.2 b9 l10)) (ihi l8 (a + 1) (by omega) hg8 name s2 (by simpa using hnf) 0 0 rfl nm1 vis lo er1 hok1 (by omega) (by omega) (by omega)) fun nm2 er2 z hp2 hok2 hl2=>?_
        obtain ⟨v,b⟩:=z
        exact RB.bind (ihb l9 (a + 1) (by omega) hg9 0 0 rfl nm2 vis lo er2 hok2 (by omega) (by omega) (by omega)) fun nm3 er3 w hp3 hok3 hl3=>RR.done hok3 _ _
       | false =>
        rw [hf] at hnf hn8
        obtain rfl:l8=[]:=by simpa using hn8
        have hne:seq name ⟨#[]⟩=true:=by simpa using hnf
        simp only [cond_false]
        rw [uI,hne]
        simp only [cond_true,eb3]
        exact RR.le (RB.bind (n2:=0) (ihb l9 (a + 1) (by omega) hg9 0 0 rfl nm1 vis lo er1 hok1 (by omega) (by omega) (by omega)) fun nm3 er3 w hp3 hok3 hl3=>RR.done hok3 _ _) (by omega)
      ·
       have hn:=hnode
       unfold nodeS at hn
       rw [show shp 25=some (1,false,1,1,true,0) from rfl] at hn
       simp only [Bool.and_eq_true,nameR,Int.reduceBEq,Bool.false_and,Bool.true_and,Bool.false_or,Bool.or_false] at hn
       refine RR.le (RB.bind (n2:=0) (K:=fun nm1 vb=>.ok (nm1,vis,DStmt.mk 25 name vb.1 fr ix flag r6 vb.2 l8 l9 l10)) (ihi l7 (a + 1) (by omega) hg7 name s2 (isN_ne hn.2.1.1.1.1) 0 0 rfl nm vis lo er3 hv (by omega) (by omega) (by omega)) fun nm2 er2 z hp2 hok2 hl2=>?_) (by omega)
       obtain ⟨v,b⟩:=z
       exact RR.done hok2 _ _
      ·exact blocks _ rfl
      ·
       have hn:=hnode
       unfold nodeS at hn
       rw [show shp 28=some (1,true,0,600,true,66) from rfl] at hn
       simp only [Bool.and_eq_true,nameR,Int.reduceBEq,Bool.false_and,Bool.true_and,Bool.false_or,Bool.or_false] at hn
       refine RR.le (RB.bind (n2:=0) (K:=fun nm1 vb=>.ok (nm1,vis,DStmt.mk 28 name vb.1 fr ix flag r6 vb.2 l8 l9 l10)) (ihi l7 (a + 1) (by omega) hg7 name s2 (isN_ne hn.2.1.1.1.1) 1 1 rfl nm vis lo er3 hv (by omega) (by omega) (by omega)) fun nm2 er2 z hp2 hok2 hl2=>?_) (by omega)
       obtain ⟨v,b⟩:=z
       exact RR.done hok2 _ _
      ·exact RR.fail (by decide) (RR.done hv _ _)
     by_cases hge:17≤op
     ·have hmk0:(op == 1 || op == 3 || op == 4 || op == 5 || op == 6 || op == 7 || op == 8 || op == 9)=false:=by
       rw [← Bool.not_eq_true]; simp; omega
      rw [hmk0]
      exact rest op rfl hge
     ·obtain ⟨hn7,hn8,hnm'⟩:=node_plain hnode hrange.1 (by omega) h2'
      obtain rfl:l7=[]:=by simpa using hn7
      obtain rfl:l8=[]:=by simpa using hn8
      have e : ∀ c:Int,17≤c→(op == c)=false:=fun c hc=>by simp; omega
      have e2:(op == 2)=false:=by simpa using h2'
      simp only [e 18 (by decide),e 19 (by decide),e 29 (by decide),e 17 (by decide),e 21 (by decide),e 28 (by decide),e 25 (by decide),e 24 (by decide),e 20 (by decide),e 22 (by decide),e 23 (by decide),e 26 (by decide),Bool.or_false,cond_false]
      have fin : ∀ (nm1:List ByteArray) (vis1:List Nat) (er1 v:Int),okV nm1 vis1→nm1.length≤nm.length + 1→vis1.length≤vis.length + 1→RR (f107_j2 k (fam84 k m) op name fr flag [] [] l9 l10 r6 ix p f0 f1 f2 f3 f4 f5 nm1 (vI vis1) lo er1 v) p (.mk f0 f1 f2 f3 f4 f5) lo er1 nm1 vis1
        (uD (op != 6 || flag == 0 || decide (lo > 0)) 22 (.ok (nm1,vis1,.mk op name v fr ix flag r6 [] [] l9 l10))) 0:=by
       intro nm1 vis1 er1 v hok1 hl1 hl2
       unfold f107_j2 f107_j4 f107_j3
       simp only [e2,e 18 (by decide),e 19 (by decide),e 29 (by decide),e 17 (by decide),e 21 (by decide),e 28 (by decide),e 25 (by decide),e 24 (by decide),e 27 (by decide),cond_false,f85_eq,Option.bind_some,gt_nat]
       cases h6:(op == 6) with
       | true =>
        have:(op != 6)=false:=by simp [bne,h6]
        rw [this,Bool.false_or]
        cases hfl:(flag == 0) with
        | true=>exact RR.fail (b:=true) (by decide) (RR.done hok1 _ _)
        | false=>exact RR.fail (by decide) (RR.done hok1 _ _)
       | false =>
        have:(op != 6)=true:=by simp [bne,h6]
        rw [this,Bool.true_or,Bool.true_or]
        simp only [cond_false]
        obtain ⟨nm2,er2,y,hr2,hp2,hok2,hl3,he2,h02⟩:=ihb [] (a + 1) (by simp only [szSs]; omega) rfl 0 0 rfl nm1 vis1 lo er1 hok1 (by simp only [szSs]; omega) (by simp only [szSs]; omega) (by simp only [szSs]; omega)
        rw [hr2]
        simp only [Option.bind_some]
        obtain ⟨nm3,er3,z,hr3,hp3,hok3,hl3',he3,h03⟩:=ihb [] (a + 1) (by simp only [szSs]; omega) rfl 0 0 rfl nm2 vis1 lo er2 hok2 (by simp only [szSs] at hl3 ⊢; omega) (by simp only [szSs]; omega) (by simp only [szSs]; omega)
        rw [hr3]
        simp only [Option.bind_some]
        simp only [szSs] at hl3 hl3'
        refine ⟨nm3,vis1,er3,_,rfl,hp2.trans hp3,List.prefix_refl _,hok3,by omega,by omega,fun h=>?_,fun h=>?_⟩
        ·rw [he3 (by rw [he2 h]; exact h),he2 h]
        ·obtain ⟨rfl,rfl,rfl⟩:=h02 h
         obtain ⟨rfl,rfl,rfl⟩:=h03 rfl
         exact ⟨rfl,rfl,rfl,rfl⟩
      cases hne:seq name ⟨#[]⟩ with
      | true =>
       simp only [Bool.not_true,cond_false,cond_true,eb3]
       have:=fin nm vis er3 s2 hv (by omega) (by omega)
       cases (op == 1 || op == 3 || op == 4 || op == 5 || op == 6 || op == 7 || op == 8 || op == 9) <;> exact RR.le this (by omega)
      | false =>
       rw [hne] at hnm'
       rw [hnm'.resolve_right (by simp)]
       simp only [Bool.not_false,cond_true,cond_false]
       refine RR.le (RR.bind (n2:=0) (make_ref k p (.mk f0 f1 f2 f3 f4 f5) lo er3 hv name (by omega) (by omega)) fun nm1 vis1 er1 v hp1 hv1 hok1 hl1 hl2=>?_) (by omega)
       exact fin nm1 vis1 er1 v hok1 hl1 hl2
  ·intro l a hm hg lp ln hlp nm vis0 lo er hv0 hnm hvis hlo
   subst hlp
   show RB (f84_b k (fam84 k m) (.mk p (.mk f0 f1 f2 f3 f4 f5) nm (vI vis0) lo er) l ln) p _ lo er nm vis0 _ _
   unfold f84_b
   simp only
   rw [w64_nat (x:=(lo:Int) + (ln:Int)) (n:=lo + ln) (by omega) (by omega),uB_eq]
   have loop : ∀ (l:List DStmt) (i:Nat) (xs:List DStmt) (nm:List ByteArray) (vis:List Nat) (er:Int),4 * szSs l≤m→gSs false l a=true→vis0 <+: vis→okV nm vis→xs.length + szSs l≤100000→nm.length + szSs l≤100000→vis.length + szSs l≤100000→lo + ln + szSs l≤100000 →
     ∃ nm' er' y,f84_l1 k (fam84 k m) (vI vis0) (ln:Int) l i p f0 f1 f2 f3 f4 f5 nm (vI vis) ((lo + ln:Nat):Int) er xs=some (.mk p (.mk f0 f1 f2 f3 f4 f5) nm' (vI vis0) lo er',y)∧nm <+: nm'∧okV nm' vis0∧nm'.length≤nm.length + szSs l∧(er ≠ 0→er'=er) ∧
      (er=0→match uSs p f2 f3 (lo + ln) nm vis l with | .error c=>er'=c∧c ≠ 0 | .ok (b,_,x)=>er'=0∧nm'=b∧y=xs ++ x):=by
    intro l
    induction l with
    | nil =>
     intro i xs nm vis er _ _ hp hv _ _ _ _
     unfold f84_l1
     have hle:vis0.length≤vis.length:=hp.length_le
     rw [show guardB (decide (0≤((vI vis0).length:Int)∧((vI vis0).length:Int)≤((vI vis).length:Int)))=fun (x:Option (Dlook × List DStmt))=>x from by
      rw [decide_eq_true (by rw [vI_len,vI_len]; omega)]; rfl]
     simp only
     rw [vI_take vis0 vis hp,w64_nat (x:=((lo + ln:Nat):Int) - (ln:Int)) (n:=lo) (by omega) (by omega)]
     exact ⟨nm,er,xs,rfl,List.prefix_refl _,fun v hv'=>hv v (hp.subset hv'),by omega,fun _=>rfl,fun h=>by rw [uSs]; exact ⟨h,rfl,by simp⟩⟩
    | cons s l ih =>
     intro i xs nm vis er hm hg hp hv hxs hnm hvis hlo
     obtain ⟨e0,e1,e2,e3,e4,e5,e6,e7,e8,e9,e10⟩:=s
     simp only [szSs] at hm hxs hnm hvis hlo ⊢
     simp only [gSs,Bool.and_eq_true] at hg
     have hp0:=szS_pos (.mk e0 e1 e2 e3 e4 e5 e6 e7 e8 e9 e10)
     unfold f84_l1
     rw [uSs]
     obtain ⟨nm1,vis1,er1,y,hr,hp1,hv1,hok1,hl1,hl2,he,h0⟩:=ihs (.mk e0 e1 e2 e3 e4 e5 e6 e7 e8 e9 e10) a (by omega) hg.1 nm vis (lo + ln) er hv (by omega) (by omega) (by omega)
     rw [hr]
     obtain ⟨r0,r1,r2,r3,r4,r5,r6,r7,r8,r9,r10⟩:=y
     simp only [Option.bind_some]
     rw [guard_le (by unfold maxB; omega)]
     obtain ⟨nm2,er2,z,hr2,hp2,hok2,hl3,he2,h02⟩:=ih (i + 1) (xs ++ [.mk r0 r1 r2 r3 r4 r5 r6 r7 r8 r9 r10]) nm1 vis1 er1 (by omega) hg.2 (hp.trans hv1) hok1 (by rw [app_len]; omega) (by omega) (by omega) (by omega)
     refine ⟨nm2,er2,z,hr2,hp1.trans hp2,hok2,by omega,fun h=>?_,fun h=>?_⟩
     ·rw [he2 (by rw [he h]; exact h),he h]
     ·have h0:=h0 h
      revert h0
      cases uS p f2 f3 (lo + ln) nm vis (.mk e0 e1 e2 e3 e4 e5 e6 e7 e8 e9 e10) with
      | error c =>
       rintro ⟨rfl,hc⟩
       exact ⟨he2 hc,hc⟩
      | ok x =>
       obtain ⟨b,v,x⟩:=x
       rintro ⟨rfl,rfl,rfl,rfl⟩
       have h02:=h02 rfl
       revert h02
       simp only [eb3]
       cases uSs p f2 f3 (lo + ln) nm1 vis1 l with
       | error c=>exact id
       | ok x =>
        obtain ⟨b,v,x⟩:=x
        rintro ⟨rfl,rfl,rfl⟩
        exact ⟨rfl,rfl,by simp⟩
   obtain ⟨nm',er',y,hr,hp,hok,hl,he,h0⟩:=loop l 0 [] nm vis0 er (by omega) hg (List.prefix_refl _) hv0 (by simp; omega) hnm hvis hlo
   refine ⟨nm',er',y,hr,hp,hok,hl,he,fun h=>?_⟩
   have h0:=h0 h
   revert h0
   cases uSs p f2 f3 (lo + ln) nm vis0 l with
   | error c=>exact id
   | ok x =>
    obtain ⟨b,v,x⟩:=x
    rintro ⟨rfl,rfl,rfl⟩
    exact ⟨rfl,rfl,rfl⟩
  ·intro l a hm hg name s2 hname lp ln hlp nm vis lo er hv hnm hvis hlo
   show RB (f127_b k (fam84 k m) (.mk p (.mk f0 f1 f2 f3 f4 f5) nm (vI vis) lo er) name l lp) p _ lo er nm vis _ _
   unfold f127_b
   simp only
   rw [uI_eq,hname]
   simp only [cond_false]
   obtain ⟨nm1,vis1,er1,v,hr,hp1,hv1,hok1,hl1,hl2,he,h0⟩:=make_ref k p (.mk f0 f1 f2 f3 f4 f5) lo er hv name (by omega) (by omega)
   rw [hr]
   simp only [Option.bind_some]
   obtain ⟨nm2,er2,y,hr2,hp2,hok2,hl3,he2,h02⟩:=ihb l a (by omega) hg lp ln hlp nm1 vis1 lo er1 hok1 (by omega) (by omega) (by omega)
   rw [hr2]
   simp only [Option.bind_some]
   have hle:vis.length≤vis1.length:=hv1.length_le
   rw [show guardB (decide (0≤((vI vis).length:Int)∧((vI vis).length:Int)≤((vI vis1).length:Int)))=fun (x:Option (Dlook × Int × List DStmt))=>x from by
    rw [decide_eq_true (by rw [vI_len,vI_len]; omega)]; rfl]
   simp only
   rw [vI_take vis vis1 hv1]
   refine ⟨nm2,er2,(v,y),rfl,hp1.trans hp2,fun w hw=>hok2 w (hv1.subset hw),by omega,fun h=>?_,fun h=>?_⟩
   ·rw [he2 (by rw [he h]; exact h),he h]
   ·have h0:=h0 h
    revert h0
    cases uMk nm vis name with
    | error c =>
     rintro ⟨rfl,hc⟩
     exact ⟨he2 hc,hc⟩
    | ok x =>
     obtain ⟨b,w,x⟩:=x
     rintro ⟨rfl,rfl,rfl,rfl⟩
     have h02:=h02 rfl
     revert h02
     simp only [eb3]
     rw [uB_eq]
     cases uSs p f2 f3 (lo + ln) nm1 vis1 l with
     | error c=>exact id
     | ok x =>
      obtain ⟨b,v,x⟩:=x
      rintro ⟨rfl,rfl,rfl⟩
      exact ⟨rfl,rfl,rfl⟩
  ·intro c a hm hg nm vis lo er hv hnm hvis hlo
   obtain ⟨kind,name,slot,es,b⟩:=c
   simp only [szC] at hm hnm hvis hlo ⊢
   simp only [gC,Bool.and_eq_true,Bool.false_or] at hg
   obtain ⟨⟨⟨_,hslot⟩,hnode⟩,hges,hgb⟩:=hg
   show RB (f128_b k (fam84 k m) (.mk p (.mk f0 f1 f2 f3 f4 f5) nm (vI vis) lo er) (.mk kind name slot es b)) p _ lo er nm vis _ _
   unfold f128_b
   simp only
   rw [uC]
   obtain ⟨l',h1,h2⟩:=f124_eq k p (.mk f0 f1 f2 f3 f4 f5) lo er hv es (a + 1) (by omega) (by omega) hges
   rw [h1]
   simp only [Option.bind_some]
   have hen:er ≠ 0→errI er (uEs nm vis es)=er:=fun h=>by unfold errI; rw [show (er == 0)=false by simpa using h]; rfl
   simp only [nodeC,Bool.and_eq_true] at hnode
   have hnm1:=hnode.2
   have key : ∀ (r:Option (Dlook × DCase)) (g:Int × List DStmt→DCase),RB r p (.mk f0 f1 f2 f3 f4 f5) lo (errI er (uEs nm vis es)) nm vis (eb3 (uI p f2 f3 lo nm vis name slot b) fun nm1 _ vb=>.ok (nm1,vis,.mk kind name vb.1 l' vb.2)) (szEs es + szSs b + 1) →
     RB r p (.mk f0 f1 f2 f3 f4 f5) lo er nm vis (eb (uEs nm vis es) fun r=>eb3 (uI p f2 f3 lo nm vis name slot b) fun nm1 _ vb=>.ok (nm1,vis,.mk kind name vb.1 r vb.2)) (szEs es + szSs b + 1):=by
    rintro r g ⟨nm2,er2,y,hr2,hp2,hok2,hl3,he2,h02⟩
    refine ⟨nm2,er2,y,hr2,hp2,hok2,hl3,fun h=>?_,fun h=>?_⟩
    ·rw [he2 (by rw [hen h]; exact h),hen h]
    ·subst h
     cases hu:uEs nm vis es with
     | error c =>
      obtain rfl:=uEs_20 hu
      rw [hu] at he2
      exact ⟨he2 (by unfold errI; decide),by decide⟩
     | ok x =>
      rw [hu] at h02
      obtain rfl:=h2 x hu
      exact h02 rfl
   generalize errI er (uEs nm vis es)=er1 at key ⊢
   cases hk:(kind == 1) with
   | true =>
    simp only [cond_true]
    rw [hk] at hnm1
    obtain ⟨nm2,er2,y,hr2,hp2,hok2,hl3,he2,h02⟩:=ihi b (a + 1) (by omega) hgb name slot (isN_ne hnm1) 0 0 rfl nm vis lo er1 hv (by omega) (by omega) (by omega)
    refine key _ (fun vb=>.mk kind name vb.1 l' vb.2) ?_
    rw [hr2]
    obtain ⟨v,y⟩:=y
    refine ⟨nm2,er2,_,rfl,hp2,hok2,by omega,he2,fun h=>?_⟩
    have h02:=h02 h
    revert h02
    rw [Nat.add_zero]
    cases uI p f2 f3 lo nm vis name slot b with
    | error c=>exact id
    | ok x =>
     obtain ⟨b,w,x⟩:=x
     rintro ⟨rfl,rfl,rfl⟩
     exact ⟨rfl,rfl,rfl⟩
   | false =>
    simp only [cond_false]
    rw [hk] at hnm1
    obtain ⟨nm2,er2,y,hr2,hp2,hok2,hl3,he2,h02⟩:=ihb b (a + 1) (by omega) hgb 0 0 rfl nm vis lo er1 hv (by omega) (by omega) (by omega)
    refine key _ (fun vb=>.mk kind name vb.1 l' vb.2) ?_
    rw [hr2]
    refine ⟨nm2,er2,_,rfl,hp2,hok2,by omega,he2,fun h=>?_⟩
    have h02:=h02 h
    revert h02
    rw [Nat.add_zero,uB_eq,uI_eq,show seq name ⟨#[]⟩=true from hnm1]
    simp only [cond_true,eb3]
    cases uSs p f2 f3 lo nm vis b with
    | error c=>exact id
    | ok x =>
     obtain ⟨b,w,x⟩:=x
     rintro ⟨rfl,rfl,rfl⟩
     exact ⟨rfl,rfl,rfl⟩
end Go.Proofs.YtoajecnoffhlbaaGreatDoor
namespace Go.Proofs.YtoajecnoffhlbaaGreatDoor
open Go
def uPs:List ByteArray→List Nat→List DParam→Ex (List ByteArray × List Nat × Unit)
 | nm,vis,[]=>.ok (nm,vis,())
 | nm,vis,.mk a _ :: l=>eb3 (uMk nm vis a) fun nm1 vis1 _=>uPs nm1 vis1 l
def uF (fs:List DFunc):DFunc→Ex (DFunc × List ByteArray)
 | .mk n ps res fl _ b=>eb3 (uPs [] [] ps) fun nm vis _=>eb3 (uSs fs res fl 0 nm vis b) fun nm1 _ b'=>uD (decide (nm1.length≤32)) 5 (.ok (.mk n ps res fl (nm1.length:Int) b',nm1))
def uFs (fs:List DFunc):List DFunc→Ex (List DFunc × List (List ByteArray))
 | []=>.ok ([],[])
 | f :: l=>eb (uF fs f) fun x=>eb (uFs fs l) fun y=>.ok (x.1 :: y.1,x.2 :: y.2)
def nameF:DFunc→ByteArray | .mk n _ _ _ _ _=>n
def hasF (a:ByteArray):List DFunc→Bool
 | []=>false
 | f :: l=>seq (nameF f) a || hasF a l
def dupF:List DFunc→List DFunc→Bool
 | _,[]=>false
 | pre,f :: l=>hasF (nameF f) pre || dupF (pre ++ [f]) l
def uP:DProgram→Ex (DProgram × List (List ByteArray))
 | .mk fs=>uD (wf false (.mk fs)) 2 (uD (!dupF [] fs) 21 (uD (decide (f44_l2 fs=0)) (f44_l2 fs) (eb (uFs fs fs) fun x=>.ok (.mk x.1,x.2))))
theorem szSs_bound {z:Bool} : ∀ {l:List DFunc} {f:DFunc},f ∈ l→cnFs l≤600→gFs z l=true→(match f with | .mk n ps res fl v b=>szSs b≤600∧ps.length≤4∧gSs z b 1=true)
 | .mk n ps res fl v b :: l,f,hf,hc,hg=>by
  simp only [cnFs,cnF] at hc
  simp only [gFs,headF,Bool.and_eq_true,decide_eq_true_eq] at hg
  rcases List.mem_cons.1 hf with rfl | h
  ·exact ⟨by omega,hg.1.1.1.1.1.2,hg.2.2.1⟩
  ·exact szSs_bound h (by omega) hg.2.2.2
theorem f82_l1_eq (k:Nat) (p:List DFunc) (n:ByteArray) (ps0:List DParam) (res:Int) (fl:Bool) (v:Int) (b0 b:List DStmt) (g1:List DParam) : ∀ (ps:List DParam) (i:Nat) (nm:List ByteArray) (vis:List Nat) (d:List (ByteArray × Int)),nm.length + ps.length≤1000→Rel ([] ++ [d]) vis nm →
  match uPs nm vis ps with
  | .error c=>f82_l1 k n g1 res fl b ps i p n ps0 res fl v b0 nm ([] ++ [d]) 0=some (.error c)
  | .ok (nm',vis',_)=>∃ d' j,f82_l1 k n g1 res fl b ps i p n ps0 res fl v b0 nm ([] ++ [d]) 0=f82_l1 k n g1 res fl b [] j p n ps0 res fl v b0 nm' ([] ++ [d']) 0∧Rel ([] ++ [d']) vis' nm'∧nm'.length≤nm.length + ps.length
 | [],i,nm,vis,d,hn,R=>⟨d,i,rfl,R,by simp⟩
 | .mk a kd :: ps,i,nm,vis,d,hn,R=>by
  simp only [List.length_cons] at hn
  have h:=opt_make k p (.mk n ps0 res fl v b0) 0 R a (by omega) (by simp)
  unfold uPs
  revert h
  cases uMk nm vis a with
  | error c =>
   intro h
   simp only [NN] at h
   unfold f82_l1
   simp only [eb3]
   rw [show f103 k (.mk (.mk p) (.mk n ps0 res fl v b0) nm ([] ++ [d]) 0) a=some (.error c) from h]
   rfl
  | ok x =>
   obtain ⟨nm1,vis1,w⟩:=x
   rintro ⟨d1,h,R1,hp,hl⟩
   simp only [eb3]
   have ih:=f82_l1_eq k p n ps0 res fl v b0 b g1 ps (i + 1) nm1 vis1 d1 (by omega) R1
   have e:f82_l1 k n g1 res fl b (.mk a kd :: ps) i p n ps0 res fl v b0 nm ([] ++ [d]) 0=f82_l1 k n g1 res fl b ps (i + 1) p n ps0 res fl v b0 nm1 ([] ++ [d1]) 0:=by
    conv=>lhs; unfold f82_l1
    rw [show f103 k (.mk (.mk p) (.mk n ps0 res fl v b0) nm ([] ++ [d]) 0) a=some (.ok (.mk (.mk p) (.mk n ps0 res fl v b0) nm1 ([] ++ [d1]) 0,w)) from h]
    rfl
   revert ih
   cases uPs nm1 vis1 ps with
   | error c=>intro ih; rw [e]; exact ih
   | ok x =>
    obtain ⟨nm2,vis2,u⟩:=x
    rintro ⟨d2,j,h2,R2,hl2⟩
    exact ⟨d2,j,by rw [e]; exact h2,R2,by simp only [List.length_cons]; omega⟩
theorem f82_l2_eq (k:Nat) (p:List DFunc) (n:ByteArray) (ps0:List DParam) (res:Int) (fl:Bool) (v:Int) (b0:List DStmt) (g1:List DParam) : ∀ (l:List DStmt) (i:Nat) (xs:List DStmt) (nm:List ByteArray) (vis:List Nat) (d:List (ByteArray × Int)),4 * szSs l≤k→xs.length + szSs l≤100000→nm.length + szSs l≤100000→Rel ([] ++ [d]) vis nm →
  f82_l2 k n res fl g1 l i p n ps0 res fl v b0 nm ([] ++ [d]) 0 xs=some (eb3 (uSs p res fl 0 nm vis l) fun nm1 _ b'=>uD (decide (nm1.length≤32)) 5 (.ok (.mk n g1 res fl (nm1.length:Int) (xs ++ b'),nm1)))
 | [],i,xs,nm,vis,d,hm,hx,hn,R=>by
  unfold f82_l2 f82_j1
  rw [uSs]
  have e:decide ((nm.length:Int)≤32)=decide (nm.length≤32):=by rw [decide_eq_decide]; omega
  simp only [f58_eq,Option.bind_some,eb3,e,uD,List.append_nil]
  cases decide (nm.length≤32) <;> rfl
 | s :: l,i,xs,nm,vis,d,hm,hx,hn,R=>by
  simp only [szSs] at hm hx hn
  have hp0:=szS_pos s
  obtain ⟨e0,e1,e2,e3,e4,e5,e6,e7,e8,e9,e10⟩:=s
  unfold f82_l2
  rw [uSs]
  have h:=(nR k p n ps0 res fl v b0 k (Nat.le_refl k)).1 (.mk e0 e1 e2 e3 e4 e5 e6 e7 e8 e9 e10) (by omega) nm vis [] d 0 (by omega) (by simp; omega) (by omega) R
  rw [show (fam105 k k).f105=f105 k from rfl,show (((0:Nat):Int))=0 from rfl] at h
  revert h
  cases uS p res fl 0 nm vis (.mk e0 e1 e2 e3 e4 e5 e6 e7 e8 e9 e10) with
  | error c=>intro h; simp only [NN] at h; rw [h]; rfl
  | ok x =>
   obtain ⟨nm1,vis1,s'⟩:=x
   rintro ⟨d1,h,R1,hp,hl⟩
   rw [h]
   obtain ⟨r0,r1,r2,r3,r4,r5,r6,r7,r8,r9,r10⟩:=s'
   simp only [Option.bind_some,eb3]
   rw [guard_le (by unfold maxB; omega)]
   refine (f82_l2_eq k p n ps0 res fl v b0 g1 l (i + 1) (xs ++ [.mk r0 r1 r2 r3 r4 r5 r6 r7 r8 r9 r10]) nm1 vis1 d1 (by omega) (by rw [app_len]; omega) (by omega) R1).trans ?_
   cases uSs p res fl 0 nm1 vis1 l with
   | error c=>rfl
   | ok x=>simp [eb3]
theorem f82_eq (k:Nat) (p:List DFunc) (f:DFunc) (h:match f with | .mk n ps res fl v b=>szSs b≤600∧ps.length≤4∧gSs false b 1=true) (hk:4 * 600≤k):f82 k (.mk p) f=some (uF p f):=by
 obtain ⟨n,ps,res,fl,v,b⟩:=f
 obtain ⟨h1,h2,h3⟩:=h
 unfold f82 f82_b uF
 simp only
 have R0:Rel ([] ++ [[]]) [] []:=⟨fun a=>rfl,fun v hv=>by cases hv⟩
 have h:=f82_l1_eq k p n ps res fl v b b ps ps 0 [] [] [] (by simp; omega) R0
 revert h
 cases uPs [] [] ps with
 | error c=>intro h; exact h
 | ok x =>
  obtain ⟨nm,vis,u⟩:=x
  rintro ⟨d,j,h,R,hl⟩
  refine (h:f82_l1 k n ps res fl b ps 0 p n ps res fl v b [] [[]] 0=_).trans ?_
  unfold f82_l1 f104
  rw [guard_le (by unfold maxB; omega)]
  simp only [Option.bind_some,eb3]
  exact f82_l2_eq k p n ps res fl v b ps b 0 [] nm vis d (by omega) (by simp; omega) (by simp at hl; omega) R
theorem f1008056_eq (k:Nat) (l:List DFunc) (f:DFunc):f1008056 k l f=some (hasF (nameF f) l):=by
 obtain ⟨n,ps,res,fl,v,b⟩:=f
 have h : ∀ (l:List DFunc) (i:Nat),(f1005656_l1 k n ps res fl v b l i).bind (fun r=>some (decide (r ≥ 0)))=some (hasF n l):=by
  intro l
  induction l with
  | nil=>intro i; rfl
  | cons e l ih =>
   intro i
   obtain ⟨e0,e1,e2,e3,e4,e5⟩:=e
   unfold f1005656_l1 f1008100 f1008100_b hasF
   simp only [Option.bind_some,nameF]
   rw [seq_comm n e0]
   cases seq e0 n with
   | true=>simp
   | false=>simpa using ih (i + 1)
 unfold f1008056 f1008056_b f1005656 f1005656_b
 exact h l 0
theorem f44_l1_eq (k:Nat) : ∀ (rest pre:List DFunc),f44_l1 k (pre ++ rest) rest pre.length=some (cond (dupF pre rest) (.error 21) (.ok ()))
 | [],pre=>rfl
 | f :: rest,pre=>by
  unfold f44_l1 dupF
  have e:(pre ++ f :: rest).take pre.length=pre:=by simp
  rw [e,f1008056_eq]
  simp only [Option.bind_some,f58_eq]
  cases hasF (nameF f) pre with
  | true=>rfl
  | false =>
   have ih:=f44_l1_eq k rest (pre ++ [f])
   rw [app_len,List.append_assoc,List.singleton_append] at ih
   simpa using ih
theorem f44_l3_eq (k:Nat) (p:List DFunc) (hk:4 * 600≤k) : ∀ (rest:List DFunc) (out:List DFunc) (names:List (List ByteArray)),(∀ f ∈ rest,match f with | .mk n ps res fl v b=>szSs b≤600∧ps.length≤4∧gSs false b 1=true) →
  f44_l3 k (.mk p) rest out names=some (eb (uFs p rest) fun x=>.ok (.mk (out ++ x.1),names ++ x.2))
 | [],out,names,h=>by simp [f44_l3,uFs,eb]
 | f :: rest,out,names,h=>by
  unfold f44_l3 uFs
  rw [f82_eq k p f (h f (by simp)) hk]
  cases uF p f with
  | error c=>rfl
  | ok x =>
   simp only [Option.bind_some,eb]
   rw [f44_l3_eq k p hk rest (out ++ [x.1]) (names ++ [x.2]) (fun g hg=>h g (by simp [hg]))]
   cases uFs p rest with
   | error c=>rfl
   | ok y=>simp [eb]
theorem f44_eq (k:Nat) (p:DProgram) (hk:2 * szP p + 1≤k) (hk2:4 * 600≤k):f44 k p=some (uP p):=by
 have h78:=f78_eq k p false hk
 obtain ⟨fs⟩:=p
 unfold f44 uP
 simp only [h78,Option.bind_some,f58_eq]
 cases hw:wf false (.mk fs) with
 | false=>rfl
 | true =>
  simp only [wf,Bool.and_eq_true,decide_eq_true_eq] at hw
  have h1:=f44_l1_eq k fs []
  simp only [List.nil_append,List.length_nil] at h1
  simp only [cond_true,h1,Option.bind_some,uD]
  cases dupF [] fs with
  | true=>rfl
  | false =>
   simp only [cond_false,cond_true,Bool.not_false,f58_eq,Option.bind_some]
   cases decide (f44_l2 fs=0) with
   | false=>rfl
   | true =>
    simp only [cond_true]
    rw [f44_l3_eq k fs hk2 fs [] [] (fun f hf=>szSs_bound hf hw.2 hw.1.2)]
    rfl
end Go.Proofs.YtoajecnoffhlbaaGreatDoor
namespace Go.Proofs.YtoajecnoffhlbaaGreatDoor
open Go
theorem f46_l1_eq (k:Nat) (p:List DFunc) (n:ByteArray) (ps0:List DParam) (res:Int) (fl:Bool) (v:Int) (b0 b:List DStmt) (g1:List DParam) : ∀ (ps:List DParam) (i:Nat) (nm:List ByteArray) (vis:List Nat) (er:Int),nm.length + ps.length≤1000→vis.length + ps.length≤1000→okV nm vis →
  ∃ nm' vis' er' j,f46_l1 k n g1 res fl b ps i p n ps0 res fl v b0 nm (vI vis) 0 er=f46_l1 k n g1 res fl b [] j p n ps0 res fl v b0 nm' (vI vis') 0 er'∧okV nm' vis'∧nm'.length≤nm.length + ps.length∧vis'.length≤vis.length + ps.length∧(er ≠ 0→er'=er) ∧
   (er=0→match uPs nm vis ps with | .error c=>er'=c∧c ≠ 0 | .ok (a,b,_)=>er'=0∧nm'=a∧vis'=b)
 | [],i,nm,vis,er,hn,hn2,hv=>⟨nm,vis,er,i,rfl,hv,by simp,by simp,fun _=>rfl,fun h=>⟨h,rfl,rfl⟩⟩
 | .mk a kd :: ps,i,nm,vis,er,hn,hn2,hv=>by
  simp only [List.length_cons] at hn hn2
  obtain ⟨nm1,vis1,er1,w,hr,hp1,hv1,hok1,hl1,hl2,he,h0⟩:=make_ref k p (.mk n ps0 res fl v b0) 0 er hv a (by omega) (by omega)
  obtain ⟨nm2,vis2,er2,j,hr2,hok2,hl3,hl4,he2,h02⟩:=f46_l1_eq k p n ps0 res fl v b0 b g1 ps (i + 1) nm1 vis1 er1 (by omega) (by omega) hok1
  refine ⟨nm2,vis2,er2,j,?_,hok2,by simp only [List.length_cons]; omega,by simp only [List.length_cons]; omega,fun h=>?_,fun h=>?_⟩
  ·rw [← hr2]
   conv=>lhs; unfold f46_l1
   rw [show f83 k (.mk p (.mk n ps0 res fl v b0) nm (vI vis) 0 er) a=_ from hr]
   rfl
  ·rw [he2 (by rw [he h]; exact h),he h]
  ·have h0:=h0 h
   unfold uPs
   revert h0
   cases uMk nm vis a with
   | error c =>
    rintro ⟨rfl,hc⟩
    exact ⟨he2 hc,hc⟩
   | ok x =>
    obtain ⟨b,v,x⟩:=x
    rintro ⟨rfl,rfl,rfl,rfl⟩
    have h02:=h02 rfl
    simp only [eb3]
    revert h02
    cases uPs nm1 vis1 ps with
    | error c=>exact id
    | ok x=>obtain ⟨b,v,x⟩:=x; exact id
theorem f46_eq (k:Nat) (p:List DFunc) (f:DFunc) (h:match f with | .mk n ps res fl v b=>szSs b≤600∧ps.length≤4∧gSs false b 1=true) (hk:4 * 600 + 1≤k) :
  ∃ nm vis er y z,f46 k p f=some (.mk p z nm vis 0 er,y)∧match uF p f with | .error c=>er=c∧c ≠ 0 | .ok (g,l)=>er=0∧y=g∧nm=l:=by
 obtain ⟨n,ps,res,fl,v,b⟩:=f
 obtain ⟨h1,h2,h3⟩:=h
 unfold f46 f46_b
 simp only
 obtain ⟨nm1,vis1,er1,j,hr,hok1,hl1,hl2,he,h0⟩:=f46_l1_eq k p n ps res fl v b b ps ps 0 [] [] 0 (by simp; omega) (by simp; omega) (fun v hv=>by cases hv)
 have h0:=h0 rfl
 rw [show f46_l1 k n ps res fl b ps 0 p n ps res fl v b [] [] 0 0=_ from hr]
 unfold f46_l1
 simp only [List.length_nil,Nat.zero_add] at hl1 hl2
 obtain ⟨nm2,er2,z,hr2,hp2,hok2,hl3,he2,h02⟩:=(rRS k p n ps res fl v b k (Nat.le_refl k)).2.1 b 1 (by omega) h3 0 0 rfl nm1 vis1 0 er1 hok1 (by omega) (by omega) (by omega)
 rw [show (fam84 k k).f84=f84 k from rfl] at hr2
 rw [show f84 k (.mk p (.mk n ps res fl v b) nm1 (vI vis1) 0 er1) b 0=_ from hr2]
 simp only [Option.bind_some,f85_eq]
 unfold f46_j1
 refine ⟨nm2,_,_,_,_,rfl,?_⟩
 simp only [uF]
 revert h0
 cases uPs [] [] ps with
 | error c =>
  rintro ⟨rfl,hc⟩
  have:=he2 hc
  refine ⟨?_,hc⟩
  unfold failI
  rw [this,show (er1 == 0)=false by simpa using hc,Bool.and_false]; rfl
 | ok x =>
  obtain ⟨b',v',x⟩:=x
  rintro ⟨rfl,rfl,rfl⟩
  have h02:=h02 rfl
  simp only [eb3]
  rw [uB_eq,Nat.add_zero] at h02
  revert h02
  cases uSs p res fl 0 nm1 vis1 b with
  | error c =>
   rintro ⟨rfl,hc⟩
   refine ⟨?_,hc⟩
   unfold failI
   rw [show (er2 == 0)=false by simpa using hc,Bool.and_false]; rfl
  | ok x =>
   obtain ⟨b',v',x⟩:=x
   rintro ⟨rfl,rfl,rfl⟩
   have e:decide ((nm2.length:Int)≤32)=decide (nm2.length≤32):=by rw [decide_eq_decide]; omega
   rw [e]
   simp only [uD]
   cases decide (nm2.length≤32) with
   | true=>exact ⟨rfl,rfl,rfl⟩
   | false=>exact ⟨rfl,by decide⟩
theorem f45_pre (k:Nat) (a:ByteArray) (f:DFunc) (hf:seq (nameF f) a=true) (rest:List DFunc) : ∀ (pre:List DFunc) (i:Nat),∃ r,f45_l1 k a (pre ++ f :: rest) i=some r∧decide (r < ((i + pre.length:Nat):Int))=hasF a pre
 | [],i=>by
  obtain ⟨n,ps,res,fl,v,b⟩:=f
  simp only [nameF] at hf
  refine ⟨i,?_,by simp [hasF]⟩
  simp only [List.nil_append]
  unfold f45_l1
  rw [hf]; rfl
 | .mk n ps res fl v b :: pre,i=>by
  simp only [List.cons_append]
  unfold f45_l1 hasF
  simp only [nameF]
  cases seq n a with
  | true=>exact ⟨i,rfl,by simp; omega⟩
  | false =>
   obtain ⟨r,h1,h2⟩:=f45_pre k a f hf rest pre (i + 1)
   exact ⟨r,h1,by rw [← h2,Bool.false_or]; simp only [List.length_cons]; rw [decide_eq_decide]; omega⟩
theorem nameF_seq (f:DFunc):seq (nameF f) (nameF f)=true:=seq_refl _
theorem f16_l1_eq (k:Nat) (fs:List DFunc) : ∀ (rest pre:List DFunc),fs=pre ++ rest→f16_l1 k fs rest pre.length=cond (dupF pre rest) (some (.mk [],21)) (f16_l1 k fs [] 0)
 | [],pre,h=>rfl
 | f :: rest,pre,h=>by
  obtain ⟨r,h1,h2⟩:=f45_pre k (nameF f) f (nameF_seq f) rest pre 0
  rw [← h] at h1
  rw [Nat.zero_add] at h2
  conv=>lhs; unfold f16_l1
  unfold dupF
  obtain ⟨n,ps,res,fl,v,b⟩:=f
  simp only [nameF] at h1 h2 ⊢
  unfold f45 f45_b
  rw [h1]
  simp only [Option.bind_some,h2]
  cases hasF n pre with
  | true=>rfl
  | false =>
   have ih:=f16_l1_eq k fs rest (pre ++ [.mk n ps res fl v b]) (by rw [h]; simp)
   rw [app_len] at ih
   simpa using ih
theorem main_eq (k:Nat) (F:Option (DProgram × Int)) : ∀ (l pre:List DFunc),∃ r,f45_l1 k ⟨#[109,97,105,110]⟩ l pre.length=some r ∧
  (cond (decide (r < 0)) (some (DProgram.mk [],(20:Int))) ((idxO (pre ++ l) r).bind fun q_=>match q_ with | .mk _ e1 _ e3 _ _=>cond e3 (some (DProgram.mk [],25)) (cond (decide ((e1.length:Int) > 0)) (some (DProgram.mk [],24)) F))) =
   cond (decide (f44_l2 l=0)) F (some (.mk [],f44_l2 l))
 | [],pre=>⟨-1,rfl,rfl⟩
 | .mk n ps res fl v b :: l,pre=>by
  unfold f45_l1 f44_l2
  cases hs:seq n ⟨#[109,97,105,110]⟩ with
  | true =>
   refine ⟨pre.length,rfl,?_⟩
   have hj:decide ((pre.length:Int) < 0)=false:=by simp
   rw [idxO_mid pre (.mk n ps res fl v b) l _ rfl,hj]
   simp only [cond_false,cond_true,Option.bind_some,Bool.not_true]
   cases fl <;> cases decide ((ps.length:Int) > 0) <;> simp
  | false =>
   obtain ⟨r,h1,h2⟩:=main_eq k F l (pre ++ [.mk n ps res fl v b])
   rw [app_len] at h1
   rw [List.append_assoc,List.singleton_append] at h2
   exact ⟨r,h1,h2⟩
theorem f16_l2_eq (k:Nat) (p:List DFunc) (hk:4 * 600 + 1≤k) : ∀ (rest:List DFunc) (i:Nat) (out:List DFunc),out.length + rest.length≤1000→(∀ f ∈ rest,match f with | .mk n ps res fl v b=>szSs b≤600∧ps.length≤4∧gSs false b 1=true) →
  f16_l2 k p rest i out=some (match uFs p rest with | .error c=>(.mk [],c) | .ok x=>(.mk (out ++ x.1),0))
 | [],i,out,hn,h=>by simp [f16_l2,uFs]
 | f :: rest,i,out,hn,h=>by
  simp only [List.length_cons] at hn
  obtain ⟨nm,vis,er,y,z,h1,h2⟩:=f46_eq k p f (h f (by simp)) hk
  have ih:=fun o ho=>f16_l2_eq k p hk rest (i + 1) o ho (fun g hg=>h g (by simp [hg]))
  obtain ⟨e0,e1,e2,e3,e4,e5⟩:=f
  obtain ⟨g0,g1,g2,g3,g4,g5⟩:=y
  obtain ⟨z0,z1,z2,z3,z4,z5⟩:=z
  unfold f16_l2 uFs
  rw [h1]
  simp only [Option.bind_some]
  unfold f16_j1 f16_j2
  revert h2
  cases uF p (.mk e0 e1 e2 e3 e4 e5) with
  | error c =>
   rintro ⟨rfl,hc⟩
   rw [show (er != 0)=true by simpa using hc]
   rfl
  | ok x =>
   obtain ⟨g,l⟩:=x
   rintro ⟨rfl,rfl,rfl⟩
   rw [show ((0:Int) != 0)=false from rfl]
   simp only [cond_false,eb]
   rw [guard_le (by unfold maxB; omega),ih _ (by rw [app_len]; omega)]
   cases uFs p rest with
   | error c=>rfl
   | ok y=>simp
theorem f16_eq (k:Nat) (p:DProgram) (hk:2 * szP p + 1≤k) (hk2:4 * 600 + 1≤k):f16 k p=some (match uP p with | .error c=>(.mk [],c) | .ok x=>(x.1,0)):=by
 have h20:=f20_eq k p hk
 obtain ⟨fs⟩:=p
 unfold f16 f16_b uP
 simp only [h20,Option.bind_some]
 cases hw:wf false (.mk fs) with
 | false=>rfl
 | true =>
  simp only [wf,Bool.and_eq_true,decide_eq_true_eq] at hw
  simp only [Bool.not_true,cond_false,uD,cond_true]
  have h1:=f16_l1_eq k fs fs [] rfl
  rw [List.length_nil] at h1
  rw [h1]
  cases dupF [] fs with
  | true=>rfl
  | false =>
   simp only [cond_false,Bool.not_false,cond_true]
   obtain ⟨r,h2,h3⟩:=main_eq k (f16_l2 k fs fs 0 []) fs []
   rw [List.length_nil] at h2
   conv=>lhs; unfold f16_l1 f45 f45_b
   rw [h2]
   simp only [Option.bind_some]
   refine Eq.trans h3 ?_
   cases decide (f44_l2 fs=0) with
   | false=>rfl
   | true =>
    simp only [cond_true]
    rw [f16_l2_eq k fs hk2 fs 0 [] (by simp; omega) (fun f hf=>szSs_bound hf hw.2 hw.1.2)]
    cases uFs fs fs <;> rfl
theorem f15_eq (k:Nat) (p:DProgram) (hk:2 * szP p + 1≤k) (hk2:4 * 600 + 1≤k):f15 k p=some (match uP p with | .error c=>(.mk [],c) | .ok x=>(x.1,0)):=by
 have h:=f44_eq k p hk (by omega)
 obtain ⟨fs⟩:=p
 unfold f15 f15_b f1004220 f1004304 f1004304_b
 simp only [h,Option.bind_some]
 cases uP (.mk fs) with
 | error c=>rfl
 | ok x=>obtain ⟨⟨q⟩,l⟩:=x; rfl
theorem f3_eq (k:Nat) (p:DProgram) (hk:2 * szP p + 2500≤k) (hs : ∀ q l,uP p=.ok (q,l)→2 * szP q + 1≤k + 100):f3 (k + 100) p=some true:=by
 have h15:=f15_eq (k + 100) p (by omega) (by omega)
 have h16:=f16_eq (k + 100) p (by omega) (by omega)
 obtain ⟨b,h13⟩:=f13_tot (k + 100) p (by omega)
 obtain ⟨fs⟩:=p
 unfold f3 f3_b f3_j1
 simp only [h13,f14_eq,h15,h16,Option.bind_some]
 cases b
 ·rfl
 ·revert hs
  cases uP (.mk fs) with
  | error c =>
   intro _
   have h17:=f17_eq (k + 100) (.mk []) (by simp only [szP,szFs]; omega)
   simp [h17]
  | ok x =>
   obtain ⟨⟨q⟩,l⟩:=x
   intro hs
   have h17:=f17_eq (k + 100) (.mk q) (hs _ _ rfl)
   simp [h17]
end Go.Proofs.YtoajecnoffhlbaaGreatDoor
