/- Words of the same proof, part 5: what the last text needs; nothing is claimed here. -/
import Derived.Test.YtoajecnoffhlbaaGreatDoorA4
set_option linter.unusedVariables false
set_option linter.unusedSimpArgs false
set_option maxRecDepth 100000
set_option maxHeartbeats 4000000
namespace Go.Proofs.YtoajecnoffhlbaaGreatDoor
open Go
theorem f17_b_ok (k:Nat):f17_spec (f17_b k):=by
 unfold f17_spec
 intro K wi cr c3 ct c5 c6 h hG cu cw cx
 obtain ⟨r_,hr_,h⟩:=rz h
 obtain ⟨af⟩:=cr
 obtain ⟨aG,c1,rfl,b7⟩:=RDProgram.open cu
 obtain ⟨Y⟩:=ct
 obtain ⟨aw,ax,rfl,bi⟩:=RDProgram.open cw
 refine enter Tryz.func17 rfl (n:=94) rfl ?_
 unfold f17_b at h
 refine sr (bxoC (cs:=#[sl aG af c1]) cx rfl rfl (fun aH cy=>(bxoC (cs:=#[sl aw Y ax]) cy rfl rfl (fun c7 bI=>(m2 vN (wt (wp_seq (sr (fd 0 Tyf24_0 rfl (l1 1 (sl aG af c1) bI Tya22 (lS af.length Tye22 (fd 0 Tyf24_0 rfl (l1 0 (sl aw Y ax) bI Tya22 (lS Y.length Tye22 (c0 ((af.length:Int) != (Y.length:Int)) (wt (cd h (fun bQ h=>?_) (fun bQ h=>?_))))))))))))))))))
 ·refine cT bQ (sr (m2 vN (wt (wp_ret (thenR ?_)))))
  cases (oi h).trans hr_
  exact retA1 rfl (resT rfl) ⟨K,rfl,(bI.sel [])⟩
 ·refine cF bQ (wp_skip (thenN (wp_seq (sr (m2 (iI 0) (wt (wp_block (wp_loopG (fun g_ a w=>∃ b8 Z aM,∃ (G:Nat),g_=aM.length∧a=fr 94 (updL b8 [(2,pp (zz wi) 0),(3,pp (zz aH) 0),(5,iI (G:Int))])∧KH.sub K Z∧SR K Z wi w [] [.box (zz wi) (zz wi) #[sl aG af c1] 24,.box (zz wi) (zz aH) #[sl aw Y ax] 24]∧af.drop G=aM∧f17_l1 k Y aM G=some r_) af.length ?_ ?_))))))))
  ·exact ⟨_,K,af,0,rfl,fR,kr,(bI.sel [1,0]),List.drop_zero,h⟩
  ·rintro _ _ ab ⟨b8,Z,aM,G,rfl,rfl,aI,bJ,bv,h⟩
   rcases aM with _ | ⟨⟨m,p,q,s,t,u⟩,aM⟩
   ·unfold f17_l1 at h
    refine wp_seq (sr (m1 (iI (G:Int)) (fd 0 Tyf24_0 rfl (l1 0 (sl aG af c1) bJ Tya22 (lS af.length Tye22 (bcm (r:=false) rfl rfl (congrArg some (drop_nil_lt bv)) (wt (cndF rfl (wp_exit (thenX (thenX (blkX (thenN (sr (m2 vT (wt (wp_ret ?_)))))))))))))))))
    cases (oi h).trans hr_
    exact retA1 rfl (resT rfl) ⟨Z,rfl,(bJ.sel [])⟩
   ·unfold f17_l1 at h
    refine wp_seq (sr (m1 (iI (G:Int)) (fd 0 Tyf24_0 rfl (l1 0 (sl aG af c1) bJ Tya22 (lS af.length Tye22 (bcm (r:=true) rfl rfl (congrArg some (drop_cons_t bv)) (wt (cndT rfl (wp_skip (thenN (wp_seq (wp_block (wp_cut (fun a w=>∃ b9 aW aN X aJ aK aP aQ aR aX a9 ba aY aS av aZ a2 aT aU aV a3 bb bd,a=fr 94 (updL b9 [(2,pp (zz wi) 0),(3,pp (zz aH) 0),(5,iI (G:Int)),(6,pp aW 0),(7,pp aY 0)])∧SR K Z wi w [] [.box (zz wi) (zz wi) #[sl aG af c1] 24,.box (zz wi) (zz aH) #[sl aw Y ax] 24,.box (zz wi) aW (vF aN aJ X aK aP aQ aR a9 aX ba).toArray 38,.box (zz wi) aY (vF aS aZ av a2 aT aU aV bb a3 bd).toArray 38]∧aN.size ≤ mB∧tP Z aJ aK X∧tS Z a9 ba aX∧aS.size ≤ mB∧tP Z aZ a2 av∧tS Z bb bd a3∧f17_j1 k G aN X aP aQ aR aX aS av aT aU aV a3 (f17_l1 k Y aM)=some r_) ?_ ?_)))))))))))))
    ·have ak:=bJ.drew
     refine regAny (E:=[12,13]) (F:=FW Z [.box (zz wi) (zz wi) #[sl aG af c1] 24,.box (zz wi) (zz aH) #[sl aw Y ax] 24]) (L:=(lb 14 0)) ymx rfl rfl (tk 0 (pp (zz wi) 0) (lb 14 1) rfl (fun w=>fld_r (o':=0) Tyf24_0 rfl rfl) (heldF (fq [0,1] ak)) (tf 1 (sl aG af c1) ([[12,1],[13,1]]) (lb 14 3) rfl (fq [0,1] ak) (fun w hF=>lb1_r (i:=0) (v:=sl aG af c1) hF rfl Tya22 rfl rfl) (tk 2 (iI (G:Int)) (lb 14 7) rfl (fun w=>mv_r (v:=iI (G:Int)) rfl) (heldF (fq [0,1] ak)) ?_)))
     obtain ⟨cb,cc,c8,cz,c9,cA,cB⟩:=((mf b7 aI)).row.at_ (drop_cons_at bv)
     obtain ⟨x,y,z,A,rfl,ac,ad,ae⟩:=RDFunc.open cB
     refine tk 3 (pp cb (cc + G * 6)) (lb 14 15) rfl (fun w=>idxN_r (b:=cb) (o:=cc) (i:=G) Tye22 Tys38 rfl cz rfl (drop_cons_lt bv)) (heldF (fq [0,1] ak)) (tf 4 (.agg (vF m x p y q s t z u A).toArray) ([[12,4],[13,4]]) (lb 14 31) rfl (fq [0,1] ak) (fun w hF=>ldN_r (cs:=(vF m x p y q s t z u A)) Tya38 Tys38 rfl rfl (fun j v hj=>hF.cell (kr.cell (cA j v hj)))) (tk 5 (pp (zz aH) 0) (lb 14 63) rfl (fun w=>fld_r (o':=0) Tyf24_0 rfl rfl) (heldF (fq [0,1] ak)) (tk 7 (iI (G:Int)) (lb 14 191) rfl (fun w=>mv_r (v:=iI (G:Int)) rfl) (heldF (fq [0,1] ak)) (anyAll (rs:=[6,10,11]) (by kernel_rfl) (by decide) (allC ?_ (allC ?_ (allC ?_ allN)))))))
     ·refine opL (i:=6) rfl (l1 1 (sl aw Y ax) ak Tya22 (wt ⟨heldF (fq [0,1] ak),?_⟩))
      obtain ⟨⟨c,d,e,f,g,l⟩,bR,h⟩:=ob h
      obtain ⟨ce,cf,da,cC,db,bj,cD⟩:=((mf bi aI)).row.at_ (idxO_at bR).1
      obtain ⟨I,J,N,O,rfl,be,bf,bg⟩:=RDFunc.open cD
      refine tk 8 (.pointer (some ⟨ce,cf + (G:Int).toNat * 6,none⟩)) (lb 14 511) rfl (fun w=>idxG_r (b:=ce) (o:=cf) (i:=(G:Int)) Tye22 Tys38 rfl cC rfl (idxO_at bR).2.1 (idxO_at bR).2.2) (heldF (fq [0,1] ak)) (anyAll (rs:=[9,10,11]) (by kernel_rfl) (by decide) (allC ?_ (allC ?_ (allC ?_ allN))))
      ·refine opL (i:=9) rfl (lD (vF c I d J e f g N l O) Tya38 Tys38 rfl (fun j v hj=>ak.cell (kr.cell (bj j v hj))) (wt ⟨heldF (fq [0,1] ak),anyAll (rs:=[10,11]) (by kernel_rfl) (by decide) (allC ?_ (allC ?_ allN))⟩))
       ·exact opL (i:=10) rfl (aC zF.toArray ak Tyz38 (fun aL am=>(wt ⟨heldF (fq [1,2] am),aO 11 rfl (aC zF.toArray am Tyz38 (fun a4 B=>(wt ⟨heldF (fq [2,3] B),aO 12 rfl (sI 1 (.agg (vF m x p y q s t z u A).toArray) ((vF m x p y q s t z u A).toArray) B Tys38 rfl rfl (fun an C=>(wt ⟨heldE (i:=12) rfl rfl,aO 13 rfl (sI 0 (.agg (vF c I d J e f g N l O).toArray) ((vF c I d J e f g N l O).toArray) C Tys38 rfl rfl (fun ag D=>(wt ⟨heldE (i:=13) rfl rfl,aD (thenN (⟨_,(zz ab.drew),m,p,x,y,q,s,t,u,z,A,(zz aL),c,d,I,J,e,f,g,l,N,O,fR,(D.sel [2,3,1,0]),ac,ad,ae,be,bf,bg,h⟩))⟩)))⟩)))⟩)))⟩)))
       ·exact opL (i:=11) rfl (aC zF.toArray ak Tyz38 (fun aL am=>(wt ⟨heldF (fq [1,2] am),aO 10 rfl (aC zF.toArray am Tyz38 (fun a4 B=>(wt ⟨heldF (fq [2,3] B),aO 12 rfl (sI 0 (.agg (vF m x p y q s t z u A).toArray) ((vF m x p y q s t z u A).toArray) B Tys38 rfl rfl (fun an C=>(wt ⟨heldE (i:=12) rfl rfl,aO 13 rfl (sI 1 (.agg (vF c I d J e f g N l O).toArray) ((vF c I d J e f g N l O).toArray) C Tys38 rfl rfl (fun ag D=>(wt ⟨heldE (i:=13) rfl rfl,aD (thenN (⟨_,(zz aL),m,p,x,y,q,s,t,u,z,A,(zz ab.drew),c,d,I,J,e,f,g,l,N,O,fR,(D.sel [2,3,0,1]),ac,ad,ae,be,bf,bg,h⟩))⟩)))⟩)))⟩)))⟩)))
      ·refine opL (i:=10) rfl (aC zF.toArray ak Tyz38 (fun aL am=>(wt ⟨heldF (fq [1,2] am),anyAll (rs:=[9,11]) (by kernel_rfl) (by decide) (allC ?_ (allC ?_ allN))⟩)))
       ·exact opL (i:=9) rfl (lD (vF c I d J e f g N l O) Tya38 Tys38 rfl (fun j v hj=>am.cell (kr.cell (bj j v hj))) (wt ⟨heldF (fq [1,2] am),aO 11 rfl (aC zF.toArray am Tyz38 (fun a4 B=>(wt ⟨heldF (fq [2,3] B),aO 12 rfl (sI 1 (.agg (vF m x p y q s t z u A).toArray) ((vF m x p y q s t z u A).toArray) B Tys38 rfl rfl (fun an C=>(wt ⟨heldE (i:=12) rfl rfl,aO 13 rfl (sI 0 (.agg (vF c I d J e f g N l O).toArray) ((vF c I d J e f g N l O).toArray) C Tys38 rfl rfl (fun ag D=>(wt ⟨heldE (i:=13) rfl rfl,aD (thenN (⟨_,(zz ab.drew),m,p,x,y,q,s,t,u,z,A,(zz aL),c,d,I,J,e,f,g,l,N,O,fR,(D.sel [2,3,1,0]),ac,ad,ae,be,bf,bg,h⟩))⟩)))⟩)))⟩)))⟩))
       ·refine opL (i:=11) rfl (aC zF.toArray am Tyz38 (fun a4 B=>(wt ⟨heldF (fq [2,3] B),anyAll (rs:=[9,12]) (by kernel_rfl) (by decide) (allC ?_ (allC ?_ allN))⟩)))
        ·exact opL (i:=9) rfl (lD (vF c I d J e f g N l O) Tya38 Tys38 rfl (fun j v hj=>B.cell (kr.cell (bj j v hj))) (wt ⟨heldF (fq [2,3] B),aO 12 rfl (sI 1 (.agg (vF m x p y q s t z u A).toArray) ((vF m x p y q s t z u A).toArray) B Tys38 rfl rfl (fun an C=>(wt ⟨heldE (i:=12) rfl rfl,aO 13 rfl (sI 0 (.agg (vF c I d J e f g N l O).toArray) ((vF c I d J e f g N l O).toArray) C Tys38 rfl rfl (fun ag D=>(wt ⟨heldE (i:=13) rfl rfl,aD (thenN (⟨_,(zz ab.drew),m,p,x,y,q,s,t,u,z,A,(zz aL),c,d,I,J,e,f,g,l,N,O,fR,(D.sel [2,3,1,0]),ac,ad,ae,be,bf,bg,h⟩))⟩)))⟩)))⟩))
        ·exact opL (i:=12) rfl (sI 1 (.agg (vF m x p y q s t z u A).toArray) ((vF m x p y q s t z u A).toArray) B Tys38 rfl rfl (fun an C=>(wt ⟨heldE (i:=12) rfl rfl,aO 9 rfl (lD (vF c I d J e f g N l O) Tya38 Tys38 rfl (fun j v hj=>C.cell (kr.cell (bj j v hj))) (wt ⟨heldE (i:=12) rfl rfl,aO 13 rfl (sI 0 (.agg (vF c I d J e f g N l O).toArray) ((vF c I d J e f g N l O).toArray) C Tys38 rfl rfl (fun ag D=>(wt ⟨heldE (i:=13) rfl rfl,aD (thenN (⟨_,(zz ab.drew),m,p,x,y,q,s,t,u,z,A,(zz aL),c,d,I,J,e,f,g,l,N,O,fR,(D.sel [2,3,1,0]),ac,ad,ae,be,bf,bg,h⟩))⟩)))⟩))⟩)))
      ·refine opL (i:=11) rfl (aC zF.toArray ak Tyz38 (fun aL am=>(wt ⟨heldF (fq [1,2] am),anyAll (rs:=[9,10]) (by kernel_rfl) (by decide) (allC ?_ (allC ?_ allN))⟩)))
       ·exact opL (i:=9) rfl (lD (vF c I d J e f g N l O) Tya38 Tys38 rfl (fun j v hj=>am.cell (kr.cell (bj j v hj))) (wt ⟨heldF (fq [1,2] am),aO 10 rfl (aC zF.toArray am Tyz38 (fun a4 B=>(wt ⟨heldF (fq [2,3] B),aO 12 rfl (sI 0 (.agg (vF m x p y q s t z u A).toArray) ((vF m x p y q s t z u A).toArray) B Tys38 rfl rfl (fun an C=>(wt ⟨heldE (i:=12) rfl rfl,aO 13 rfl (sI 1 (.agg (vF c I d J e f g N l O).toArray) ((vF c I d J e f g N l O).toArray) C Tys38 rfl rfl (fun ag D=>(wt ⟨heldE (i:=13) rfl rfl,aD (thenN (⟨_,(zz aL),m,p,x,y,q,s,t,u,z,A,(zz ab.drew),c,d,I,J,e,f,g,l,N,O,fR,(D.sel [2,3,0,1]),ac,ad,ae,be,bf,bg,h⟩))⟩)))⟩)))⟩)))⟩))
       ·refine opL (i:=10) rfl (aC zF.toArray am Tyz38 (fun a4 B=>(wt ⟨heldF (fq [2,3] B),anyAll (rs:=[9,12]) (by kernel_rfl) (by decide) (allC ?_ (allC ?_ allN))⟩)))
        ·exact opL (i:=9) rfl (lD (vF c I d J e f g N l O) Tya38 Tys38 rfl (fun j v hj=>B.cell (kr.cell (bj j v hj))) (wt ⟨heldF (fq [2,3] B),aO 12 rfl (sI 0 (.agg (vF m x p y q s t z u A).toArray) ((vF m x p y q s t z u A).toArray) B Tys38 rfl rfl (fun an C=>(wt ⟨heldE (i:=12) rfl rfl,aO 13 rfl (sI 1 (.agg (vF c I d J e f g N l O).toArray) ((vF c I d J e f g N l O).toArray) C Tys38 rfl rfl (fun ag D=>(wt ⟨heldE (i:=13) rfl rfl,aD (thenN (⟨_,(zz aL),m,p,x,y,q,s,t,u,z,A,(zz ab.drew),c,d,I,J,e,f,g,l,N,O,fR,(D.sel [2,3,0,1]),ac,ad,ae,be,bf,bg,h⟩))⟩)))⟩)))⟩))
        ·exact opL (i:=12) rfl (sI 0 (.agg (vF m x p y q s t z u A).toArray) ((vF m x p y q s t z u A).toArray) B Tys38 rfl rfl (fun an C=>(wt ⟨heldE (i:=12) rfl rfl,aO 9 rfl (lD (vF c I d J e f g N l O) Tya38 Tys38 rfl (fun j v hj=>C.cell (kr.cell (bj j v hj))) (wt ⟨heldE (i:=12) rfl rfl,aO 13 rfl (sI 1 (.agg (vF c I d J e f g N l O).toArray) ((vF c I d J e f g N l O).toArray) C Tys38 rfl rfl (fun ag D=>(wt ⟨heldE (i:=13) rfl rfl,aD (thenN (⟨_,(zz aL),m,p,x,y,q,s,t,u,z,A,(zz ab.drew),c,d,I,J,e,f,g,l,N,O,fR,(D.sel [2,3,0,1]),ac,ad,ae,be,bf,bg,h⟩))⟩)))⟩))⟩)))
     ·refine opL (i:=10) rfl (aC zF.toArray ak Tyz38 (fun az ah=>(wt ⟨heldF (fq [1,2] ah),anyAll (rs:=[6,11]) (by kernel_rfl) (by decide) (allC ?_ (allC ?_ allN))⟩)))
      ·refine opL (i:=6) rfl (l1 2 (sl aw Y ax) ah Tya22 (wt ⟨heldF (fq [1,2] ah),?_⟩))
       obtain ⟨⟨c,d,e,f,g,l⟩,bk,h⟩:=ob h
       obtain ⟨bx,bz,cG,bS,cH,bm,bT⟩:=((mf bi aI)).row.at_ (idxO_at bk).1
       obtain ⟨S,U,V,W,rfl,bn,bo,bp⟩:=RDFunc.open bT
       refine tk 8 (.pointer (some ⟨bx,bz + (G:Int).toNat * 6,none⟩)) (lb 14 1535) rfl (fun w=>idxG_r (b:=bx) (o:=bz) (i:=(G:Int)) Tye22 Tys38 rfl bS rfl (idxO_at bk).2.1 (idxO_at bk).2.2) (heldF (fq [1,2] ah)) (anyAll (rs:=[9,11]) (by kernel_rfl) (by decide) (allC ?_ (allC ?_ allN)))
       ·exact opL (i:=9) rfl (lD (vF c S d U e f g V l W) Tya38 Tys38 rfl (fun j v hj=>ah.cell (kr.cell (bm j v hj))) (wt ⟨heldF (fq [1,2] ah),aO 11 rfl (aC zF.toArray ah Tyz38 (fun a4 B=>(wt ⟨heldF (fq [2,3] B),aO 12 rfl (sI 1 (.agg (vF m x p y q s t z u A).toArray) ((vF m x p y q s t z u A).toArray) B Tys38 rfl rfl (fun an C=>(wt ⟨heldE (i:=12) rfl rfl,aO 13 rfl (sI 0 (.agg (vF c S d U e f g V l W).toArray) ((vF c S d U e f g V l W).toArray) C Tys38 rfl rfl (fun ag D=>(wt ⟨heldE (i:=13) rfl rfl,aD (thenN (⟨_,(zz ab.drew),m,p,x,y,q,s,t,u,z,A,(zz az),c,d,S,U,e,f,g,l,V,W,fR,(D.sel [2,3,1,0]),ac,ad,ae,bn,bo,bp,h⟩))⟩)))⟩)))⟩)))⟩))
       ·refine opL (i:=11) rfl (aC zF.toArray ah Tyz38 (fun a4 B=>(wt ⟨heldF (fq [2,3] B),anyAll (rs:=[9,12]) (by kernel_rfl) (by decide) (allC ?_ (allC ?_ allN))⟩)))
        ·exact opL (i:=9) rfl (lD (vF c S d U e f g V l W) Tya38 Tys38 rfl (fun j v hj=>B.cell (kr.cell (bm j v hj))) (wt ⟨heldF (fq [2,3] B),aO 12 rfl (sI 1 (.agg (vF m x p y q s t z u A).toArray) ((vF m x p y q s t z u A).toArray) B Tys38 rfl rfl (fun an C=>(wt ⟨heldE (i:=12) rfl rfl,aO 13 rfl (sI 0 (.agg (vF c S d U e f g V l W).toArray) ((vF c S d U e f g V l W).toArray) C Tys38 rfl rfl (fun ag D=>(wt ⟨heldE (i:=13) rfl rfl,aD (thenN (⟨_,(zz ab.drew),m,p,x,y,q,s,t,u,z,A,(zz az),c,d,S,U,e,f,g,l,V,W,fR,(D.sel [2,3,1,0]),ac,ad,ae,bn,bo,bp,h⟩))⟩)))⟩)))⟩))
        ·exact opL (i:=12) rfl (sI 1 (.agg (vF m x p y q s t z u A).toArray) ((vF m x p y q s t z u A).toArray) B Tys38 rfl rfl (fun an C=>(wt ⟨heldE (i:=12) rfl rfl,aO 9 rfl (lD (vF c S d U e f g V l W) Tya38 Tys38 rfl (fun j v hj=>C.cell (kr.cell (bm j v hj))) (wt ⟨heldE (i:=12) rfl rfl,aO 13 rfl (sI 0 (.agg (vF c S d U e f g V l W).toArray) ((vF c S d U e f g V l W).toArray) C Tys38 rfl rfl (fun ag D=>(wt ⟨heldE (i:=13) rfl rfl,aD (thenN (⟨_,(zz ab.drew),m,p,x,y,q,s,t,u,z,A,(zz az),c,d,S,U,e,f,g,l,V,W,fR,(D.sel [2,3,1,0]),ac,ad,ae,bn,bo,bp,h⟩))⟩)))⟩))⟩)))
      ·refine opL (i:=11) rfl (aC zF.toArray ah Tyz38 (fun cI ai=>(wt ⟨heldF (fq [2,3] ai),anyAll (rs:=[6,12]) (by kernel_rfl) (by decide) (allC ?_ (allC ?_ allN))⟩)))
       ·refine opL (i:=6) rfl (l1 3 (sl aw Y ax) ai Tya22 (wt ⟨heldF (fq [2,3] ai),?_⟩))
        obtain ⟨⟨c,d,e,f,g,l⟩,bq,h⟩:=ob h
        obtain ⟨bA,bB,cJ,bU,cK,bC,bV⟩:=((mf bi aI)).row.at_ (idxO_at bq).1
        obtain ⟨ao,ap,aq,ar,rfl,bD,bE,bF⟩:=RDFunc.open bV
        refine tk 8 (.pointer (some ⟨bA,bB + (G:Int).toNat * 6,none⟩)) (lb 14 3583) rfl (fun w=>idxG_r (b:=bA) (o:=bB) (i:=(G:Int)) Tye22 Tys38 rfl bU rfl (idxO_at bq).2.1 (idxO_at bq).2.2) (heldF (fq [2,3] ai)) (anyAll (rs:=[9,12]) (by kernel_rfl) (by decide) (allC ?_ (allC ?_ allN)))
        ·exact opL (i:=9) rfl (lD (vF c ao d ap e f g aq l ar) Tya38 Tys38 rfl (fun j v hj=>ai.cell (kr.cell (bC j v hj))) (wt ⟨heldF (fq [2,3] ai),aO 12 rfl (sI 1 (.agg (vF m x p y q s t z u A).toArray) ((vF m x p y q s t z u A).toArray) ai Tys38 rfl rfl (fun an C=>(wt ⟨heldE (i:=12) rfl rfl,aO 13 rfl (sI 0 (.agg (vF c ao d ap e f g aq l ar).toArray) ((vF c ao d ap e f g aq l ar).toArray) C Tys38 rfl rfl (fun ag D=>(wt ⟨heldE (i:=13) rfl rfl,aD (thenN (⟨_,(zz ab.drew),m,p,x,y,q,s,t,u,z,A,(zz az),c,d,ao,ap,e,f,g,l,aq,ar,fR,(D.sel [2,3,1,0]),ac,ad,ae,bD,bE,bF,h⟩))⟩)))⟩)))⟩))
        ·exact opL (i:=12) rfl (sI 1 (.agg (vF m x p y q s t z u A).toArray) ((vF m x p y q s t z u A).toArray) ai Tys38 rfl rfl (fun an C=>(wt ⟨heldE (i:=12) rfl rfl,aO 9 rfl (lD (vF c ao d ap e f g aq l ar) Tya38 Tys38 rfl (fun j v hj=>C.cell (kr.cell (bC j v hj))) (wt ⟨heldE (i:=12) rfl rfl,aO 13 rfl (sI 0 (.agg (vF c ao d ap e f g aq l ar).toArray) ((vF c ao d ap e f g aq l ar).toArray) C Tys38 rfl rfl (fun ag D=>(wt ⟨heldE (i:=13) rfl rfl,aD (thenN (⟨_,(zz ab.drew),m,p,x,y,q,s,t,u,z,A,(zz az),c,d,ao,ap,e,f,g,l,aq,ar,fR,(D.sel [2,3,1,0]),ac,ad,ae,bD,bE,bF,h⟩))⟩)))⟩))⟩)))
       ·refine opL (i:=12) rfl (sI 1 (.agg (vF m x p y q s t z u A).toArray) ((vF m x p y q s t z u A).toArray) ai Tys38 rfl rfl (fun cL br=>(wt ⟨heldE (i:=12) rfl rfl,aO 6 rfl (l1 3 (sl aw Y ax) br Tya22 (wt ⟨heldE (i:=12) rfl rfl,?_⟩))⟩)))
        obtain ⟨⟨c,d,e,f,g,l⟩,bs,h⟩:=ob h
        obtain ⟨bG,bH,cM,bW,cN,bX,bY⟩:=((mf bi aI)).row.at_ (idxO_at bs).1
        obtain ⟨a5,a6,a7,a8,rfl,bZ,b0,b1⟩:=RDFunc.open bY
        exact tk 8 (.pointer (some ⟨bG,bH + (G:Int).toNat * 6,none⟩)) (lb 14 7679) rfl (fun w=>idxG_r (b:=bG) (o:=bH) (i:=(G:Int)) Tye22 Tys38 rfl bW rfl (idxO_at bs).2.1 (idxO_at bs).2.2) (heldE (i:=12) rfl rfl) (aO 9 rfl (lD (vF c a5 d a6 e f g a7 l a8) Tya38 Tys38 rfl (fun j v hj=>br.cell (kr.cell (bX j v hj))) (wt ⟨heldE (i:=12) rfl rfl,aO 13 rfl (sI 0 (.agg (vF c a5 d a6 e f g a7 l a8).toArray) ((vF c a5 d a6 e f g a7 l a8).toArray) br Tys38 rfl rfl (fun ag D=>(wt ⟨heldE (i:=13) rfl rfl,aD (thenN (⟨_,(zz ab.drew),m,p,x,y,q,s,t,u,z,A,(zz az),c,d,a5,a6,e,f,g,l,a7,a8,fR,(D.sel [2,3,1,0]),ac,ad,ae,bZ,b0,b1,h⟩))⟩)))⟩)))
     ·refine opL (i:=11) rfl (aC zF.toArray ak Tyz38 (fun az ah=>(wt ⟨heldF (fq [1,2] ah),anyAll (rs:=[6,10]) (by kernel_rfl) (by decide) (allC ?_ (allC ?_ allN))⟩)))
      ·refine opL (i:=6) rfl (l1 2 (sl aw Y ax) ah Tya22 (wt ⟨heldF (fq [1,2] ah),?_⟩))
       obtain ⟨⟨c,d,e,f,g,l⟩,bk,h⟩:=ob h
       obtain ⟨bx,bz,cG,bS,cH,bm,bT⟩:=((mf bi aI)).row.at_ (idxO_at bk).1
       obtain ⟨S,U,V,W,rfl,bn,bo,bp⟩:=RDFunc.open bT
       refine tk 8 (.pointer (some ⟨bx,bz + (G:Int).toNat * 6,none⟩)) (lb 14 2559) rfl (fun w=>idxG_r (b:=bx) (o:=bz) (i:=(G:Int)) Tye22 Tys38 rfl bS rfl (idxO_at bk).2.1 (idxO_at bk).2.2) (heldF (fq [1,2] ah)) (anyAll (rs:=[9,10]) (by kernel_rfl) (by decide) (allC ?_ (allC ?_ allN)))
       ·exact opL (i:=9) rfl (lD (vF c S d U e f g V l W) Tya38 Tys38 rfl (fun j v hj=>ah.cell (kr.cell (bm j v hj))) (wt ⟨heldF (fq [1,2] ah),aO 10 rfl (aC zF.toArray ah Tyz38 (fun a4 B=>(wt ⟨heldF (fq [2,3] B),aO 12 rfl (sI 0 (.agg (vF m x p y q s t z u A).toArray) ((vF m x p y q s t z u A).toArray) B Tys38 rfl rfl (fun an C=>(wt ⟨heldE (i:=12) rfl rfl,aO 13 rfl (sI 1 (.agg (vF c S d U e f g V l W).toArray) ((vF c S d U e f g V l W).toArray) C Tys38 rfl rfl (fun ag D=>(wt ⟨heldE (i:=13) rfl rfl,aD (thenN (⟨_,(zz az),m,p,x,y,q,s,t,u,z,A,(zz ab.drew),c,d,S,U,e,f,g,l,V,W,fR,(D.sel [2,3,0,1]),ac,ad,ae,bn,bo,bp,h⟩))⟩)))⟩)))⟩)))⟩))
       ·refine opL (i:=10) rfl (aC zF.toArray ah Tyz38 (fun a4 B=>(wt ⟨heldF (fq [2,3] B),anyAll (rs:=[9,12]) (by kernel_rfl) (by decide) (allC ?_ (allC ?_ allN))⟩)))
        ·exact opL (i:=9) rfl (lD (vF c S d U e f g V l W) Tya38 Tys38 rfl (fun j v hj=>B.cell (kr.cell (bm j v hj))) (wt ⟨heldF (fq [2,3] B),aO 12 rfl (sI 0 (.agg (vF m x p y q s t z u A).toArray) ((vF m x p y q s t z u A).toArray) B Tys38 rfl rfl (fun an C=>(wt ⟨heldE (i:=12) rfl rfl,aO 13 rfl (sI 1 (.agg (vF c S d U e f g V l W).toArray) ((vF c S d U e f g V l W).toArray) C Tys38 rfl rfl (fun ag D=>(wt ⟨heldE (i:=13) rfl rfl,aD (thenN (⟨_,(zz az),m,p,x,y,q,s,t,u,z,A,(zz ab.drew),c,d,S,U,e,f,g,l,V,W,fR,(D.sel [2,3,0,1]),ac,ad,ae,bn,bo,bp,h⟩))⟩)))⟩)))⟩))
        ·exact opL (i:=12) rfl (sI 0 (.agg (vF m x p y q s t z u A).toArray) ((vF m x p y q s t z u A).toArray) B Tys38 rfl rfl (fun an C=>(wt ⟨heldE (i:=12) rfl rfl,aO 9 rfl (lD (vF c S d U e f g V l W) Tya38 Tys38 rfl (fun j v hj=>C.cell (kr.cell (bm j v hj))) (wt ⟨heldE (i:=12) rfl rfl,aO 13 rfl (sI 1 (.agg (vF c S d U e f g V l W).toArray) ((vF c S d U e f g V l W).toArray) C Tys38 rfl rfl (fun ag D=>(wt ⟨heldE (i:=13) rfl rfl,aD (thenN (⟨_,(zz az),m,p,x,y,q,s,t,u,z,A,(zz ab.drew),c,d,S,U,e,f,g,l,V,W,fR,(D.sel [2,3,0,1]),ac,ad,ae,bn,bo,bp,h⟩))⟩)))⟩))⟩)))
      ·refine opL (i:=10) rfl (aC zF.toArray ah Tyz38 (fun cI ai=>(wt ⟨heldF (fq [2,3] ai),anyAll (rs:=[6,12]) (by kernel_rfl) (by decide) (allC ?_ (allC ?_ allN))⟩)))
       ·refine opL (i:=6) rfl (l1 3 (sl aw Y ax) ai Tya22 (wt ⟨heldF (fq [2,3] ai),?_⟩))
        obtain ⟨⟨c,d,e,f,g,l⟩,bq,h⟩:=ob h
        obtain ⟨bA,bB,cJ,bU,cK,bC,bV⟩:=((mf bi aI)).row.at_ (idxO_at bq).1
        obtain ⟨ao,ap,aq,ar,rfl,bD,bE,bF⟩:=RDFunc.open bV
        refine tk 8 (.pointer (some ⟨bA,bB + (G:Int).toNat * 6,none⟩)) (lb 14 3583) rfl (fun w=>idxG_r (b:=bA) (o:=bB) (i:=(G:Int)) Tye22 Tys38 rfl bU rfl (idxO_at bq).2.1 (idxO_at bq).2.2) (heldF (fq [2,3] ai)) (anyAll (rs:=[9,12]) (by kernel_rfl) (by decide) (allC ?_ (allC ?_ allN)))
        ·exact opL (i:=9) rfl (lD (vF c ao d ap e f g aq l ar) Tya38 Tys38 rfl (fun j v hj=>ai.cell (kr.cell (bC j v hj))) (wt ⟨heldF (fq [2,3] ai),aO 12 rfl (sI 0 (.agg (vF m x p y q s t z u A).toArray) ((vF m x p y q s t z u A).toArray) ai Tys38 rfl rfl (fun an C=>(wt ⟨heldE (i:=12) rfl rfl,aO 13 rfl (sI 1 (.agg (vF c ao d ap e f g aq l ar).toArray) ((vF c ao d ap e f g aq l ar).toArray) C Tys38 rfl rfl (fun ag D=>(wt ⟨heldE (i:=13) rfl rfl,aD (thenN (⟨_,(zz az),m,p,x,y,q,s,t,u,z,A,(zz ab.drew),c,d,ao,ap,e,f,g,l,aq,ar,fR,(D.sel [2,3,0,1]),ac,ad,ae,bD,bE,bF,h⟩))⟩)))⟩)))⟩))
        ·exact opL (i:=12) rfl (sI 0 (.agg (vF m x p y q s t z u A).toArray) ((vF m x p y q s t z u A).toArray) ai Tys38 rfl rfl (fun an C=>(wt ⟨heldE (i:=12) rfl rfl,aO 9 rfl (lD (vF c ao d ap e f g aq l ar) Tya38 Tys38 rfl (fun j v hj=>C.cell (kr.cell (bC j v hj))) (wt ⟨heldE (i:=12) rfl rfl,aO 13 rfl (sI 1 (.agg (vF c ao d ap e f g aq l ar).toArray) ((vF c ao d ap e f g aq l ar).toArray) C Tys38 rfl rfl (fun ag D=>(wt ⟨heldE (i:=13) rfl rfl,aD (thenN (⟨_,(zz az),m,p,x,y,q,s,t,u,z,A,(zz ab.drew),c,d,ao,ap,e,f,g,l,aq,ar,fR,(D.sel [2,3,0,1]),ac,ad,ae,bD,bE,bF,h⟩))⟩)))⟩))⟩)))
       ·refine opL (i:=12) rfl (sI 0 (.agg (vF m x p y q s t z u A).toArray) ((vF m x p y q s t z u A).toArray) ai Tys38 rfl rfl (fun cL br=>(wt ⟨heldE (i:=12) rfl rfl,aO 6 rfl (l1 3 (sl aw Y ax) br Tya22 (wt ⟨heldE (i:=12) rfl rfl,?_⟩))⟩)))
        obtain ⟨⟨c,d,e,f,g,l⟩,bs,h⟩:=ob h
        obtain ⟨bG,bH,cM,bW,cN,bX,bY⟩:=((mf bi aI)).row.at_ (idxO_at bs).1
        obtain ⟨a5,a6,a7,a8,rfl,bZ,b0,b1⟩:=RDFunc.open bY
        exact tk 8 (.pointer (some ⟨bG,bH + (G:Int).toNat * 6,none⟩)) (lb 14 7679) rfl (fun w=>idxG_r (b:=bG) (o:=bH) (i:=(G:Int)) Tye22 Tys38 rfl bW rfl (idxO_at bs).2.1 (idxO_at bs).2.2) (heldE (i:=12) rfl rfl) (aO 9 rfl (lD (vF c a5 d a6 e f g a7 l a8) Tya38 Tys38 rfl (fun j v hj=>br.cell (kr.cell (bX j v hj))) (wt ⟨heldE (i:=12) rfl rfl,aO 13 rfl (sI 1 (.agg (vF c a5 d a6 e f g a7 l a8).toArray) ((vF c a5 d a6 e f g a7 l a8).toArray) br Tys38 rfl rfl (fun ag D=>(wt ⟨heldE (i:=13) rfl rfl,aD (thenN (⟨_,(zz az),m,p,x,y,q,s,t,u,z,A,(zz ab.drew),c,d,a5,a6,e,f,g,l,a7,a8,fR,(D.sel [2,3,0,1]),ac,ad,ae,bZ,b0,b1,h⟩))⟩)))⟩)))
    ·rintro _ dc ⟨b9,aW,aN,X,aJ,aK,aP,aQ,aR,aX,a9,ba,aY,aS,av,aZ,a2,aT,aU,aV,a3,bb,bd,rfl,aj,dd,ch,cO,de,cP,cQ,h⟩
     unfold f17_j1 at h
     refine wp_seq (wp_cut (fun a w=>∃ ci bh b2,a=fr 94 (updL ci [(2,pp (zz wi) 0),(3,pp (zz aH) 0),(5,iI (G:Int)),(6,pp aW 0),(7,pp aY 0),(75,.bool b2)])∧KH.sub Z bh∧SR K bh wi w [] [.box (zz wi) (zz wi) #[sl aG af c1] 24,.box (zz wi) (zz aH) #[sl aw Y ax] 24,.box (zz wi) aW (vF aN aJ X aK aP aQ aR a9 aX ba).toArray 38,.box (zz wi) aY (vF aS aZ av a2 aT aU aV bb a3 bd).toArray 38]∧f17_j2 k G X av b2 (f17_l1 k Y aM)=some r_) ?_ ?_)
     ·refine wp_region_lit (fd 0 Tyf38_0 rfl (l1 2 (.string aN) aj Tya9 (fd 0 Tyf38_0 rfl (l1 3 (.string aS) aj Tya9 (bsc (r:=(!seq aN aS)) rfl rfl rfl (m1 (.bool (!seq aN aS)) (cd h (fun au h=>?_) (fun au h=>?_))))))))
      ·exact o1 38 au (o1 38 au (o1 38 au (o1 38 au (o1 38 au (o1 38 au (o1 38 au (m3 true vT (cg au) (m1 vT (o0 47 (o0 47 (o0 47 (o0 47 (o0 47 (m3 true vT rfl (m1 vT (o0 54 (o0 54 (o0 54 (o0 54 (o0 54 (m3 true vT rfl (m1 vT (o0 61 (o0 61 (o0 61 (o0 61 (o0 61 (m3 true vT rfl (m1 vT (o0 68 (o0 68 (o0 68 (o0 68 (o0 68 (o0 68 (m3 true vT rfl (wt (⟨_,Z,true,fR,kr,aj,h⟩))))))))))))))))))))))))))))))))))))))
      ·refine n1 38 au (fd 1 Tyf38_1 rfl (n1 38 au (l1 2 (sl aJ X aK) aj Tya35 (n1 38 au (lS X.length Tye35 (n1 38 au (fd 1 Tyf38_1 rfl (n1 38 au (l1 3 (sl aZ av a2) aj Tya35 (n1 38 au (lS av.length Tye35 (n1 38 au (c0 ((X.length:Int) != (av.length:Int)) (m3 false (.bool ((X.length:Int) != (av.length:Int))) (cg au) (m1 (.bool ((X.length:Int) != (av.length:Int))) (cd h (fun aA h=>?_) (fun aA h=>?_)))))))))))))))))
       ·exact o1 47 aA (o1 47 aA (o1 47 aA (o1 47 aA (o1 47 aA (m3 true vT (cg aA) (m1 vT (o0 54 (o0 54 (o0 54 (o0 54 (o0 54 (m3 true vT rfl (m1 vT (o0 61 (o0 61 (o0 61 (o0 61 (o0 61 (m3 true vT rfl (m1 vT (o0 68 (o0 68 (o0 68 (o0 68 (o0 68 (o0 68 (m3 true vT rfl (wt (⟨_,Z,true,fR,kr,aj,h⟩)))))))))))))))))))))))))))))
       ·refine n1 47 aA (fd 2 Tyf38_2 rfl (n1 47 aA (l1 2 (iI aP) aj Tya3 (n1 47 aA (fd 2 Tyf38_2 rfl (n1 47 aA (l1 3 (iI aT) aj Tya3 (n1 47 aA (c0 (aP != aT) (m3 false (.bool (aP != aT)) (cg aA) (m1 (.bool (aP != aT)) (cd h (fun aB h=>?_) (fun aB h=>?_)))))))))))))
        ·exact o1 54 aB (o1 54 aB (o1 54 aB (o1 54 aB (o1 54 aB (m3 true vT (cg aB) (m1 vT (o0 61 (o0 61 (o0 61 (o0 61 (o0 61 (m3 true vT rfl (m1 vT (o0 68 (o0 68 (o0 68 (o0 68 (o0 68 (o0 68 (m3 true vT rfl (wt (⟨_,Z,true,fR,kr,aj,h⟩))))))))))))))))))))))
        ·refine n1 54 aB (fd 3 Tyf38_3 rfl (n1 54 aB (l1 2 (.bool aQ) aj Tya4 (n1 54 aB (fd 3 Tyf38_3 rfl (n1 54 aB (l1 3 (.bool aU) aj Tya4 (n1 54 aB (bbo (r:=(!(aQ == aU))) Tyo4 rfl rfl rfl (m3 false (.bool (!(aQ == aU))) (cg aB) (m1 (.bool (!(aQ == aU))) (cd h (fun aE h=>?_) (fun aE h=>?_)))))))))))))
         ·exact o1 61 aE (o1 61 aE (o1 61 aE (o1 61 aE (o1 61 aE (m3 true vT (cg aE) (m1 vT (o0 68 (o0 68 (o0 68 (o0 68 (o0 68 (o0 68 (m3 true vT rfl (wt (⟨_,Z,true,fR,kr,aj,h⟩)))))))))))))))
         ·refine n1 61 aE (fd 4 Tyf38_4 rfl (n1 61 aE (l1 2 (iI aR) aj Tya3 (n1 61 aE (fd 4 Tyf38_4 rfl (n1 61 aE (l1 3 (iI aV) aj Tya3 (n1 61 aE (c0 (aR != aV) (m3 false (.bool (aR != aV)) (cg aE) (m1 (.bool (aR != aV)) (cd h (fun ay h=>?_) (fun ay h=>?_)))))))))))))
          ·exact o1 68 ay (o1 68 ay (o1 68 ay (o1 68 ay (o1 68 ay (o1 68 ay (m3 true vT (cg ay) (wt (⟨_,Z,true,fR,kr,aj,h⟩))))))))
          ·refine n1 68 ay (fd 5 Tyf38_5 rfl (n1 68 ay (l1 2 (sl a9 aX ba) aj Tya36 (n1 68 ay (fd 5 Tyf38_5 rfl (n1 68 ay (l1 3 (sl bb a3 bd) aj Tya36 (n1 68 ay ?_))))))))
           obtain ⟨b3,cR,h⟩:=ob h
           refine cv ([sl a9 aX ba,sl bb a3 bd]) Tyb21 ((f21_ok k) cR (hG.mono aI) cO cQ (pt aj)) ?_
           rintro _ df ⟨cS,rfl,cj⟩
           have cU:=ca cj aj
           exact n1 68 ay (uN b3 (m3 false (.bool (!b3)) (cg ay) (wt (⟨_,cS,(!b3),fR,cj.sub,cU,h⟩))))
     ·rintro _ dg ⟨ci,bh,b2,rfl,bK,ck,h⟩
      unfold f17_j2 at h
      refine cd h (fun b4 h=>?_) (fun b4 h=>?_)
      ·refine cT b4 (sr (m2 vN (wt (wp_ret (thenR (blkR (thenR (thenR (blkR (thenR ?_))))))))))
       cases (oi h).trans hr_
       exact retA1 rfl (resT rfl) ⟨bh,rfl,(ck.sel [])⟩
      ·refine cF b4 (wp_skip (thenN (sr (m2 (iI 0) (wt (wp_block (wp_loopG (fun g_ a w=>∃ cl bu,∃ (al:Nat),g_=bu.length∧a=fr 94 (updL cl [(2,pp (zz wi) 0),(3,pp (zz aH) 0),(5,iI (G:Int)),(6,pp aW 0),(7,pp aY 0),(8,iI (al:Int))])∧SR K bh wi w [] [.box (zz wi) (zz wi) #[sl aG af c1] 24,.box (zz wi) (zz aH) #[sl aw Y ax] 24,.box (zz wi) aW (vF aN aJ X aK aP aQ aR a9 aX ba).toArray 38,.box (zz wi) aY (vF aS aZ av a2 aT aU aV bb a3 bd).toArray 38]∧X.drop al=bu∧f17_l2 k G av (f17_l1 k Y aM) bu al=some r_) X.length ?_ ?_)))))))
       ·exact ⟨_,X,0,rfl,fR,ck,List.drop_zero,h⟩
       ·rintro _ _ dh ⟨cl,bu,al,rfl,rfl,bL,bw,h⟩
        rcases bu with _ | ⟨⟨bM,bN⟩,bu⟩
        ·unfold f17_l2 at h
         exact wp_seq (sr (m1 (iI (al:Int)) (fd 1 Tyf38_1 rfl (l1 2 (sl aJ X aK) bL Tya35 (lS X.length Tye35 (bcm (r:=false) rfl rfl (congrArg some (drop_nil_lt bw)) (wt (cndF rfl (wp_exit (thenX (thenX (blkX (blkN (thenN (wp_region_lit (m1 (iI (G:Int)) (bar (r:=((G + 1:Nat):Int)) rfl rfl (inc_ok (le_big (((mf b7 aI)).len) (by decide) (drop_cons_lt bv))) (m2 (iI ((G + 1:Nat):Int)) (wt (⟨_,Nat.lt_succ_self _,_,bh,aM,G + 1,rfl,fR,(aI.trans bK),(bL.sel [0,1]),drop_cons_next bv,h⟩))))))))))))))))))))
        ·unfold f17_l2 at h
         refine wp_seq (sr (m1 (iI (al:Int)) (fd 1 Tyf38_1 rfl (l1 2 (sl aJ X aK) bL Tya35 (lS X.length Tye35 (bcm (r:=true) rfl rfl (congrArg some (drop_cons_t bw)) (wt (cndT rfl (wp_skip (thenN (wp_seq (wp_block (wp_seq (have aF:=bL.drew;(regAny (E:=[]) (F:=FW bh [.box (zz wi) (zz wi) #[sl aG af c1] 24,.box (zz wi) (zz aH) #[sl aw Y ax] 24,.box (zz wi) aW (vF aN aJ X aK aP aQ aR a9 aX ba).toArray 38,.box (zz wi) aY (vF aS aZ av a2 aT aU aV bb a3 bd).toArray 38]) (L:=(lb 11 0)) ymx rfl rfl (tk 0 (pp aW 1) (lb 11 1) rfl (fun w=>fld_r (o':=1) Tyf38_1 rfl rfl) (heldF (fq [0,1,2,3] aF)) (tf 1 (sl aJ X aK) ([]) (lb 11 3) rfl (fq [0,1,2,3] aF) (fun w hF=>lb1_r (i:=2) (v:=sl aJ X aK) hF rfl Tya35 rfl rfl) (tk 2 (iI (al:Int)) (lb 11 7) rfl (fun w=>mv_r (v:=iI (al:Int)) rfl) (heldF (fq [0,1,2,3] aF)) ?_))))))))))))))))))
         obtain ⟨cm,cn,di,cV,dj,cW,cX⟩:=((mp ch bK)).row.at_ (drop_cons_at bw)
         obtain ⟨rfl,dk⟩:=RDParam.open cX
         refine tk 3 (pp cm (cn + al * 2)) (lb 11 15) rfl (fun w=>idxN_r (b:=cm) (o:=cn) (i:=al) Tye35 Tys82 rfl cV rfl (drop_cons_lt bw)) (heldF (fq [0,1,2,3] aF)) (tf 4 (.agg #[.string bM,iI bN]) ([]) (lb 11 31) rfl (fq [0,1,2,3] aF) (fun w hF=>ldN_r (cs:=[.string bM,iI bN]) Tya82 Tys82 rfl rfl (fun j v hj=>hF.cell (kr.cell (cW j v hj)))) (tk 5 (pp aY 1) (lb 11 63) rfl (fun w=>fld_r (o':=1) Tyf38_1 rfl rfl) (heldF (fq [0,1,2,3] aF)) (tf 6 (sl aZ av a2) ([]) (lb 11 127) rfl (fq [0,1,2,3] aF) (fun w hF=>lb1_r (i:=3) (v:=sl aZ av a2) hF rfl Tya35 rfl rfl) (tk 7 (iI (al:Int)) (lb 11 255) rfl (fun w=>mv_r (v:=iI (al:Int)) rfl) (heldF (fq [0,1,2,3] aF)) ?_))))
         obtain ⟨⟨bO,bP⟩,b5,h⟩:=ob h
         obtain ⟨co,cq,dl,cY,dm,cZ,c2⟩:=((mp cP bK)).row.at_ (idxO_at b5).1
         obtain ⟨rfl,dn⟩:=RDParam.open c2
         refine tk 8 (.pointer (some ⟨co,cq + (al:Int).toNat * 2,none⟩)) (lb 11 511) rfl (fun w=>idxG_r (b:=co) (o:=cq) (i:=(al:Int)) Tye35 Tys82 rfl cY rfl (idxO_at b5).2.1 (idxO_at b5).2.2) (heldF (fq [0,1,2,3] aF)) (tf 9 (.agg #[.string bO,iI bP]) ([]) (lb 11 1023) rfl (fq [0,1,2,3] aF) (fun w hF=>ldN_r (cs:=[.string bO,iI bP]) Tya82 Tys82 rfl rfl (fun j v hj=>hF.cell (kr.cell (cZ j v hj)))) (tk 10 (.bool (!(((seq bM bO && bN == bP)) == true))) (lb 11 2047) rfl (fun w=>bsi_r (r:=(!(((seq bM bO && bN == bP)) == true))) (.of Tyq82) rfl rfl rfl) (heldF (fq [0,1,2,3] aF)) (aD (thenN (cd h (fun b6 h=>?_) (fun b6 h=>?_))))))
         ·refine cT b6 (sr (m2 vN (wt (wp_ret (blkR (thenR (thenR (blkR (blkR (thenR (thenR (blkR (thenR ?_)))))))))))))
          cases (oi h).trans hr_
          exact retA1 rfl (resT rfl) ⟨bh,rfl,(aF.sel [])⟩
         ·exact cF b6 (wp_skip (blkN (thenN (wp_region_lit (m1 (iI (al:Int)) (bar (r:=((al + 1:Nat):Int)) rfl rfl (inc_ok (le_big (((mp ch bK)).len) (by decide) (drop_cons_lt bw))) (m2 (iI ((al + 1:Nat):Int)) (wt (⟨_,Nat.lt_succ_self _,_,bu,al + 1,rfl,fR,aF,drop_cons_next bw,h⟩)))))))))
theorem f17_ok (k:Nat):f17_spec (f17 k):=f17_b_ok k
theorem f18_b_ok (k:Nat):f18_spec (f18_b k):=by
 unfold f18_spec
 intro K wi b c f h hG d
 obtain ⟨r_,hr_,h⟩:=rz h
 refine enter Tryz.func18 rfl (n:=11) rfl ?_
 unfold f18_b at h
 refine sr (m2 (iI 0) (wt (sr (m1 (iI b) (cvi (a:=b) (k:=.i64) (k':=.u64) Tyk3 Tyk83 rfl (m1 (iI c) (cvi (a:=c) (k:=.i64) (k':=.u64) Tyk3 Tyk83 rfl ?_)))))))
 obtain ⟨e,h⟩:=of_guard h
 refine brm rfl rfl e (cvi (a:=((IntKind.u64.wrap b).tmod (IntKind.u64.wrap c))) (k:=.u64) (k':=.i64) Tyk83 Tyk3 rfl (m2 (iI (w64 ((IntKind.u64.wrap b).tmod (IntKind.u64.wrap c)))) (wt (wp_ret ?_))))
 cases (oi h).trans hr_
 exact retA1 rfl (resT rfl) ⟨K,rfl,d⟩
theorem f18_ok (k:Nat):f18_spec (f18 k):=f18_b_ok k
theorem f1005707_b_ok (k:Nat):f1005707_spec (f1005707_b k):=by
 unfold f1005707_spec
 intro K wi c u g bs s v h hG d hs e
 obtain ⟨r_,hr_,h⟩:=rz h
 obtain ⟨a,f,i,j,l,m⟩:=c
 obtain ⟨o,p,q,t,rfl,w,x,y⟩:=RDFunc.open d
 refine enter Tryz.func57 rfl (n:=8) rfl ?_
 unfold f1005707_b at h
 refine sr (bxoC (cs:=(vF a o f p i j l q m t).toArray) e rfl rfl (fun z b=>(m2 vN (wt (sr (fd 0 Tyf38_0 rfl (l1 0 (.string a) b Tya9 (l1 1 (.string s) b Tya9 (bsc (r:=(seq a s)) rfl rfl rfl (m2 (.bool (seq a s)) (wt (wp_ret ?_))))))))))))
 cases (oi h).trans hr_
 exact retA1 rfl (resT rfl) ⟨K,rfl,(b.sel [1])⟩
theorem f1005707_ok (k:Nat):f1005707_spec (f1005707 k):=f1005707_b_ok k
theorem f1005676_b_ok (k:Nat):f1005676_spec (f1005676_b k):=by
 unfold f1005676_spec
 intro K wi d q t g bs s ae h hG x hs X
 obtain ⟨r_,hr_,h⟩:=rz h
 refine enter Tryz.func56 rfl (n:=19) rfl ?_
 unfold f1005676_b at h
 refine sr (m2 (iI 0) (wt (wp_seq (sr (m1 (sl q d t) (lS d.length Tye22 (m1 (iI 0) (wt (wp_block (wp_loopG (fun g_ a w=>∃ y l e,∃ (c:Nat),g_=e.length∧a=fr 19 (updL y [(0,sl q d t),(1,.func (.func 57) #[] #[pp g 0]),(7,iI (d.length:Int)),(8,iI (c:Int))])∧KH.sub K l∧SR K l wi w [.box bs g #[.string s] 9] [.box bs g #[.string s] 9]∧d.drop c=e∧f1005676_l1 k s e c=some r_) d.length ?_ ?_))))))))))
 ·exact ⟨_,K,d,0,rfl,fR,kr,X,List.drop_zero,h⟩
 ·rintro _ _ af ⟨y,l,e,c,rfl,rfl,m,p,f,h⟩
  rcases e with _ | ⟨⟨z,A,B,C,D,G⟩,e⟩
  ·unfold f1005676_l1 at h
   refine sr (bcm (r:=false) rfl rfl (congrArg some (drop_nil_lt f)) (wt (wp_seq (cndF rfl (wp_exit (thenX (thenX (blkX (thenN (sr (m2 (iI (-1)) (wt (wp_ret ?_)))))))))))))
   cases (oi h).trans hr_
   exact retA1 rfl (resT rfl) ⟨l,rfl,p⟩
  ·unfold f1005676_l1 at h
   refine sr (bcm (r:=true) rfl rfl (congrArg some (drop_cons_t f)) (wt (wp_seq (cndT rfl (wp_skip (thenN (wp_seq (wp_block (sr (m1 (iI (c:Int)) (m2 (iI (c:Int)) (wt (sr (m1 (.func (.func 57) #[] #[pp g 0]) (m1 (sl q d t) (m1 (iI (c:Int)) ?_))))))))))))))))
   obtain ⟨Y,Z,ag,ab,ah,ac,I⟩:=((mf x m)).row.at_ (drop_cons_at f)
   obtain ⟨J,N,O,S,rfl,ai,aj,ak⟩:=RDFunc.open I
   refine idxN (b:=Y) (o:=Z) (i:=c) Tye22 Tys38 rfl ab rfl (drop_cons_lt f) (lD (vF z J A N B C D O G S) Tya38 Tys38 rfl (fun j v hj=>p.cell (kr.cell (ac j v hj))) ?_)
   obtain ⟨al,ad,h⟩:=ob h
   refine clV (caps:=#[pp g 0]) (vs:=[.agg (vF z J A N B C D O G S).toArray,pp g 0]) rfl Tyb57 rfl ((f1005707_ok k) ad (hG.mono m) I hs (pt p)) ?_
   rintro _ am ⟨U,rfl,V⟩
   have W:=ca V p
   refine wt (cd h (fun u h=>?_) (fun u h=>?_))
   ·refine cT u (sr (m1 (iI (c:Int)) (m2 (iI (c:Int)) (wt (wp_ret (blkR (thenR (thenR (blkR (thenR ?_))))))))))
    cases (oi h).trans hr_
    exact retA1 rfl (resT rfl) ⟨U,rfl,W⟩
   ·exact cF u (wp_skip (blkN (thenN (wp_region_lit (bar (r:=((c + 1:Nat):Int)) rfl rfl (inc_ok (le_big (((mf x m)).len) (by decide) (drop_cons_lt f))) (m1 (iI ((c + 1:Nat):Int)) (wt (⟨_,Nat.lt_succ_self _,_,U,e,c + 1,rfl,fR,(m.trans V.sub),W,drop_cons_next f,h⟩))))))))
theorem f1005676_ok (k:Nat):f1005676_spec (f1005676 k):=f1005676_b_ok k
theorem f129_b_ok (k:Nat):f129_spec (f129_b k):=by
 unfold f129_spec
 intro K wi a o p h hG b c
 obtain ⟨r_,hr_,h⟩:=rz h
 obtain ⟨d,e,f,g,i⟩:=a
 obtain ⟨j,l,rfl,q,r⟩:=RDExpr.open b
 refine enter Tryz.func129 rfl (n:=3) rfl ?_
 unfold f129_b at h
 refine sr (bxoC (cs:=(vE d e f g j i l).toArray) c rfl rfl (fun s m=>(m2 (iI 0) (wt (sr (m2 (iI 0) (wt (wp_ret ?_))))))))
 cases (oi h).trans hr_
 exact retA1 rfl (resT rfl) ⟨K,rfl,(m.sel [])⟩
theorem f129_ok (k:Nat):f129_spec (f129 k):=f129_b_ok k
theorem f1013115_b_ok (k:Nat) (F:Fam1013115) (IH1013115:f1013115_spec F.f1013115) (IH1014215:f1014215_spec F.f1014215):f1013115_spec (f1013115_b k F):=by
 unfold f1013115_spec
 intro K wi f Z ab aK h hG ac ak
 obtain ⟨r_,hr_,h⟩:=rz h
 refine enter Tryz.func131 rfl (n:=22) rfl ?_
 unfold f1013115_b at h
 refine sr (m2 nS (wt (sr (m2 nS (wt (wp_seq (sr (m1 (sl Z f ab) (lS f.length Tye39 (m1 (iI 0) (wt (wp_block ?_))))))))))))
 have al:=ak.row_ (zz wi) 107 5
 refine wp_loopG (fun g_ a w=>∃ ad J g,∃ (d:Nat),∃ c l m O,g_=g.length∧a=fr 22 (updL ad [(1,.func (.func 129) #[] #[]),(5,sl l c m),(8,sl Z f ab),(9,iI (f.length:Int)),(10,iI (d:Int))])∧KH.sub K J∧SR K J wi w [] [.row (zz wi) (sl l c m) 107 5 c.length O]∧f.drop d=g∧Reps (RDExpr J) 5 c O∧c.length * 64 ≤ mB∧f1013115_l1 k F g d c=some r_) f.length ?_ ?_
 ·exact ⟨_,K,f,0,([]:LE),none,0,[],rfl,fR,kr,al,List.drop_zero,(reps0 (R:=(RDExpr K)) (size:=5)),(by simp),h⟩
 ·rintro _ _ am ⟨ad,J,g,d,c,l,m,O,rfl,rfl,N,S,y,ae,an,h⟩
  rcases g with _ | ⟨⟨z,A,B,C,D⟩,g⟩
  ·unfold f1013115_l1 at h
   refine sr (bcm (r:=false) rfl rfl (congrArg some (drop_nil_lt y)) (wt (wp_seq (cndF rfl (wp_exit (thenX (thenX (blkX (thenN (sr (m1 (sl l c m) (m2 (sl l c m) (wt (wp_ret ?_))))))))))))))
   obtain ⟨ao,ap,aL,aq⟩:=shutI (i:=0) (bytes:=64) (R:=fun K=>(RDExpr K)) S rfl (Nat.le_refl _) ae an (fun hs=>(fun _ _ h=>RDExpr.mono hs h))
   cases (oi h).trans hr_
   exact retA1 rfl (resT rfl) ⟨ao,l,m,rfl,ap,aq⟩
  ·unfold f1013115_l1 at h
   refine sr (bcm (r:=true) rfl rfl (congrArg some (drop_cons_t y)) (wt (wp_seq (cndT rfl (wp_skip (thenN (wp_seq (wp_block (sr ?_)))))))))
   obtain ⟨ar,au,aM,av,aN,aw,ax⟩:=((me ac N)).row.at_ (drop_cons_at y)
   obtain ⟨G,I,rfl,ay,az⟩:=RDExpr.open ax
   refine idxN (b:=ar) (o:=au) (i:=d) Tye39 Tys107 rfl av rfl (drop_cons_lt y) (lD (vE z A B C G D I) Tya107 Tys107 rfl (fun j v hj=>S.cell (kr.cell (aw j v hj))) (aC zE.toArray S Tyz107 (fun aP aA=>(sI 0 (.agg (vE z A B C G D I).toArray) ((vE z A B C G D I).toArray) aA Tys107 rfl rfl (fun aQ U=>(wt (wp_region_lit (m1 (sl l c m) (lN 0 (vE z A B C G D I) U Tya107 Tys107 (m1 (.func (.func 129) #[] #[]) ?_))))))))))
   obtain ⟨⟨q,s,t,u,x⟩,aB,h⟩:=ob h
   refine cv ([.agg (vE z A B C G D I).toArray,.func (.func 129) #[] #[]]) Tyb142 (IH1014215 aB (hG.mono N) (RDExpr.intro ay az) (pt U)) ?_
   rintro _ aR ⟨V,aS,rfl,W,af⟩
   have aE:=ca W U
   obtain ⟨ag,ah,rfl,aT,aU⟩:=RDExpr.open af
   refine bsl (e:=107) (cells:=(vE q s t u ag x ah).toArray) (vs:=[(0,.agg (vE q s t u ag x ah).toArray)]) aE rfl (buildSl_one Tye39 Tys107 Tyz107 rfl (by decide) (by decide) rfl) (fun aV aF=>?_)
   obtain ⟨ai,h⟩:=of_guard h
   refine apR (R:=(RDExpr V)) (p:=(DExpr.mk q s t u x)) (i:=2) (j:=0) aF rfl rfl Tye39 Tyi107 rfl (by decide) rfl rfl (ae.mono (fun _ _ h=>RDExpr.mono W.sub h)) af rfl rfl (Nat.le_refl _) ai (by decide) (fun X Y aj aG aH aI=>?_)
   have aJ:=p12 aH
   exact m2 (.slice X (c ++ [(DExpr.mk q s t u x)]).length Y) (wpList_nil (blkN (thenN (wp_region_lit (bar (r:=((d + 1:Nat):Int)) rfl rfl (inc_ok (le_big (((me ac N)).len) (by decide) (drop_cons_lt y))) (m1 (iI ((d + 1:Nat):Int)) (wt (⟨_,Nat.lt_succ_self _,_,V,g,d + 1,(c ++ [(DExpr.mk q s t u x)]),X,Y,aj,rfl,fR,(N.trans W.sub),(aJ.sel [1]),drop_cons_next y,aI,(app_bound ai),h⟩))))))))
theorem f1014215_b_ok (k:Nat) (F:Fam1013115) (IH1013115:f1013115_spec F.f1013115) (IH1014215:f1014215_spec F.f1014215):f1014215_spec (f1014215_b k F):=by
 unfold f1014215_spec
 intro K wi z V W h hG A B
 obtain ⟨r_,hr_,h⟩:=rz h
 obtain ⟨a,b,c,j,m⟩:=z
 obtain ⟨o,p,rfl,s,C⟩:=RDExpr.open A
 refine enter Tryz.func142 rfl (n:=15) rfl ?_
 unfold f1014215_b at h
 refine sr (bxoC (cs:=(vE a b c j o m p).toArray) B rfl rfl (fun D G=>(aC zE.toArray G Tyz107 (fun X q=>(wt (sr (fd 4 Tyf107_4 rfl (l1 1 (sl o m p) q Tya39 (m1 (.func (.func 129) #[] #[]) ?_)))))))))
 obtain ⟨d,I,h⟩:=ob h
 refine cv ([sl o m p,.func (.func 129) #[] #[]]) Tyb131 (IH1013115 I (hG.mono kr) C (pt q)) ?_
 rintro _ Y ⟨Z,e,f,rfl,t,u⟩
 have J:=ca t q
 refine fd 4 Tyf107_4 rfl (sI 1 (sl e d f) ((vE a b c j e d f).toArray) J Tys39 rfl rfl (fun ab r=>(wt (sr (m1 (.func (.func 129) #[] #[]) (lN 1 (vE a b c j e d f) r Tya107 Tys107 ?_))))))
 obtain ⟨g,N,h⟩:=ob h
 refine cv ([.agg (vE a b c j e d f).toArray]) Tyb129 ((f129_ok k) N (hG.mono t.sub) (RDExpr.intro s u) (pt r)) ?_
 rintro _ ac ⟨v,rfl,w⟩
 have O:=ca w r
 refine fd 3 Tyf107_3 rfl (sI 1 (iI g) ((vE a b c g e d f).toArray) O Tys3 rfl rfl (fun ad x=>(wt (sr (lN 1 (vE a b c g e d f) x Tya107 Tys107 (sI 0 (.agg (vE a b c g e d f).toArray) ((vE a b c g e d f).toArray) x Tys107 rfl rfl (fun S U=>?_)))))))
 have y:SR K v wi S [] [.box (zz wi) (zz D) (vE a b c g e d f).toArray 107,.box (zz wi) (zz wi) (vE a b c g e d f).toArray 107]:=U
 refine wt (wp_ret ?_)
 cases (oi h).trans hr_
 exact retA1 rfl (resN (i:=0) (l:=(vE a b c g e d f)) y rfl Tya107 Tys107 rfl rfl rfl) ⟨v,(vE a b c g e d f),rfl,(y.sel []),(RDExpr.intro s (me u w.sub))⟩
theorem fam1013115_ok (k0:Nat) : ∀ k,f1013115_spec (fam1013115 k0 k).f1013115∧f1014215_spec (fam1013115 k0 k).f1014215:=by
 intro k
 induction k with
 | zero=>exact ⟨(by unfold f1013115_spec; intro _ _ _ _ _ _ h_; cases h_),(by unfold f1014215_spec; intro _ _ _ _ _ h_; cases h_)⟩
 | succ k ih=>exact ⟨f1013115_b_ok k0 (fam1013115 k0 k) ih.1 ih.2,f1014215_b_ok k0 (fam1013115 k0 k) ih.1 ih.2⟩
theorem f1013115_ok (k:Nat):f1013115_spec (f1013115 k):=(fam1013115_ok k k).1
theorem f1014215_ok (k:Nat):f1014215_spec (f1014215 k):=(fam1013115_ok k k).2
theorem f130_b_ok (k:Nat):f130_spec (f130_b k):=by
 unfold f130_spec
 intro K wi c o p h hG d e
 obtain ⟨r_,hr_,h⟩:=rz h
 obtain ⟨f,g,i,a,j⟩:=c
 obtain ⟨l,m,rfl,q,r⟩:=RDExpr.open d
 refine enter Tryz.func130 rfl (n:=5) rfl ?_
 unfold f130_b at h
 refine sr (bxoC (cs:=(vE f g i a l j m).toArray) e rfl rfl (fun s b=>(m2 (iI 0) (wt (sr (fd 3 Tyf107_3 rfl (l1 0 (iI a) b Tya3 (m2 (iI a) (wt (wp_ret ?_))))))))))
 cases (oi h).trans hr_
 exact retA1 rfl (resT rfl) ⟨K,rfl,(b.sel [])⟩
theorem f130_ok (k:Nat):f130_spec (f130 k):=f130_b_ok k
theorem f1013118_b_ok (k:Nat) (F:Fam1013118) (IH1013118:f1013118_spec F.f1013118) (IH1014218:f1014218_spec F.f1014218):f1013118_spec (f1013118_b k F):=by
 unfold f1013118_spec
 intro K wi f Z ab aK h hG ac ak
 obtain ⟨r_,hr_,h⟩:=rz h
 refine enter Tryz.func131 rfl (n:=22) rfl ?_
 unfold f1013118_b at h
 refine sr (m2 nS (wt (sr (m2 nS (wt (wp_seq (sr (m1 (sl Z f ab) (lS f.length Tye39 (m1 (iI 0) (wt (wp_block ?_))))))))))))
 have al:=ak.row_ (zz wi) 107 5
 refine wp_loopG (fun g_ a w=>∃ ad J g,∃ (d:Nat),∃ c l m O,g_=g.length∧a=fr 22 (updL ad [(1,.func (.func 130) #[] #[]),(5,sl l c m),(8,sl Z f ab),(9,iI (f.length:Int)),(10,iI (d:Int))])∧KH.sub K J∧SR K J wi w [] [.row (zz wi) (sl l c m) 107 5 c.length O]∧f.drop d=g∧Reps (RDExpr J) 5 c O∧c.length * 64 ≤ mB∧f1013118_l1 k F g d c=some r_) f.length ?_ ?_
 ·exact ⟨_,K,f,0,([]:LE),none,0,[],rfl,fR,kr,al,List.drop_zero,(reps0 (R:=(RDExpr K)) (size:=5)),(by simp),h⟩
 ·rintro _ _ am ⟨ad,J,g,d,c,l,m,O,rfl,rfl,N,S,y,ae,an,h⟩
  rcases g with _ | ⟨⟨z,A,B,C,D⟩,g⟩
  ·unfold f1013118_l1 at h
   refine sr (bcm (r:=false) rfl rfl (congrArg some (drop_nil_lt y)) (wt (wp_seq (cndF rfl (wp_exit (thenX (thenX (blkX (thenN (sr (m1 (sl l c m) (m2 (sl l c m) (wt (wp_ret ?_))))))))))))))
   obtain ⟨ao,ap,aL,aq⟩:=shutI (i:=0) (bytes:=64) (R:=fun K=>(RDExpr K)) S rfl (Nat.le_refl _) ae an (fun hs=>(fun _ _ h=>RDExpr.mono hs h))
   cases (oi h).trans hr_
   exact retA1 rfl (resT rfl) ⟨ao,l,m,rfl,ap,aq⟩
  ·unfold f1013118_l1 at h
   refine sr (bcm (r:=true) rfl rfl (congrArg some (drop_cons_t y)) (wt (wp_seq (cndT rfl (wp_skip (thenN (wp_seq (wp_block (sr ?_)))))))))
   obtain ⟨ar,au,aM,av,aN,aw,ax⟩:=((me ac N)).row.at_ (drop_cons_at y)
   obtain ⟨G,I,rfl,ay,az⟩:=RDExpr.open ax
   refine idxN (b:=ar) (o:=au) (i:=d) Tye39 Tys107 rfl av rfl (drop_cons_lt y) (lD (vE z A B C G D I) Tya107 Tys107 rfl (fun j v hj=>S.cell (kr.cell (aw j v hj))) (aC zE.toArray S Tyz107 (fun aP aA=>(sI 0 (.agg (vE z A B C G D I).toArray) ((vE z A B C G D I).toArray) aA Tys107 rfl rfl (fun aQ U=>(wt (wp_region_lit (m1 (sl l c m) (lN 0 (vE z A B C G D I) U Tya107 Tys107 (m1 (.func (.func 130) #[] #[]) ?_))))))))))
   obtain ⟨⟨q,s,t,u,x⟩,aB,h⟩:=ob h
   refine cv ([.agg (vE z A B C G D I).toArray,.func (.func 130) #[] #[]]) Tyb142 (IH1014218 aB (hG.mono N) (RDExpr.intro ay az) (pt U)) ?_
   rintro _ aR ⟨V,aS,rfl,W,af⟩
   have aE:=ca W U
   obtain ⟨ag,ah,rfl,aT,aU⟩:=RDExpr.open af
   refine bsl (e:=107) (cells:=(vE q s t u ag x ah).toArray) (vs:=[(0,.agg (vE q s t u ag x ah).toArray)]) aE rfl (buildSl_one Tye39 Tys107 Tyz107 rfl (by decide) (by decide) rfl) (fun aV aF=>?_)
   obtain ⟨ai,h⟩:=of_guard h
   refine apR (R:=(RDExpr V)) (p:=(DExpr.mk q s t u x)) (i:=2) (j:=0) aF rfl rfl Tye39 Tyi107 rfl (by decide) rfl rfl (ae.mono (fun _ _ h=>RDExpr.mono W.sub h)) af rfl rfl (Nat.le_refl _) ai (by decide) (fun X Y aj aG aH aI=>?_)
   have aJ:=p12 aH
   exact m2 (.slice X (c ++ [(DExpr.mk q s t u x)]).length Y) (wpList_nil (blkN (thenN (wp_region_lit (bar (r:=((d + 1:Nat):Int)) rfl rfl (inc_ok (le_big (((me ac N)).len) (by decide) (drop_cons_lt y))) (m1 (iI ((d + 1:Nat):Int)) (wt (⟨_,Nat.lt_succ_self _,_,V,g,d + 1,(c ++ [(DExpr.mk q s t u x)]),X,Y,aj,rfl,fR,(N.trans W.sub),(aJ.sel [1]),drop_cons_next y,aI,(app_bound ai),h⟩))))))))
theorem f1014218_b_ok (k:Nat) (F:Fam1013118) (IH1013118:f1013118_spec F.f1013118) (IH1014218:f1014218_spec F.f1014218):f1014218_spec (f1014218_b k F):=by
 unfold f1014218_spec
 intro K wi z V W h hG A B
 obtain ⟨r_,hr_,h⟩:=rz h
 obtain ⟨a,b,c,j,m⟩:=z
 obtain ⟨o,p,rfl,s,C⟩:=RDExpr.open A
 refine enter Tryz.func142 rfl (n:=15) rfl ?_
 unfold f1014218_b at h
 refine sr (bxoC (cs:=(vE a b c j o m p).toArray) B rfl rfl (fun D G=>(aC zE.toArray G Tyz107 (fun X q=>(wt (sr (fd 4 Tyf107_4 rfl (l1 1 (sl o m p) q Tya39 (m1 (.func (.func 130) #[] #[]) ?_)))))))))
 obtain ⟨d,I,h⟩:=ob h
 refine cv ([sl o m p,.func (.func 130) #[] #[]]) Tyb131 (IH1013118 I (hG.mono kr) C (pt q)) ?_
 rintro _ Y ⟨Z,e,f,rfl,t,u⟩
 have J:=ca t q
 refine fd 4 Tyf107_4 rfl (sI 1 (sl e d f) ((vE a b c j e d f).toArray) J Tys39 rfl rfl (fun ab r=>(wt (sr (m1 (.func (.func 130) #[] #[]) (lN 1 (vE a b c j e d f) r Tya107 Tys107 ?_))))))
 obtain ⟨g,N,h⟩:=ob h
 refine cv ([.agg (vE a b c j e d f).toArray]) Tyb130 ((f130_ok k) N (hG.mono t.sub) (RDExpr.intro s u) (pt r)) ?_
 rintro _ ac ⟨v,rfl,w⟩
 have O:=ca w r
 refine fd 3 Tyf107_3 rfl (sI 1 (iI g) ((vE a b c g e d f).toArray) O Tys3 rfl rfl (fun ad x=>(wt (sr (lN 1 (vE a b c g e d f) x Tya107 Tys107 (sI 0 (.agg (vE a b c g e d f).toArray) ((vE a b c g e d f).toArray) x Tys107 rfl rfl (fun S U=>?_)))))))
 have y:SR K v wi S [] [.box (zz wi) (zz D) (vE a b c g e d f).toArray 107,.box (zz wi) (zz wi) (vE a b c g e d f).toArray 107]:=U
 refine wt (wp_ret ?_)
 cases (oi h).trans hr_
 exact retA1 rfl (resN (i:=0) (l:=(vE a b c g e d f)) y rfl Tya107 Tys107 rfl rfl rfl) ⟨v,(vE a b c g e d f),rfl,(y.sel []),(RDExpr.intro s (me u w.sub))⟩
theorem fam1013118_ok (k0:Nat) : ∀ k,f1013118_spec (fam1013118 k0 k).f1013118∧f1014218_spec (fam1013118 k0 k).f1014218:=by
 intro k
 induction k with
 | zero=>exact ⟨(by unfold f1013118_spec; intro _ _ _ _ _ _ h_; cases h_),(by unfold f1014218_spec; intro _ _ _ _ _ h_; cases h_)⟩
 | succ k ih=>exact ⟨f1013118_b_ok k0 (fam1013118 k0 k) ih.1 ih.2,f1014218_b_ok k0 (fam1013118 k0 k) ih.1 ih.2⟩
theorem f1013118_ok (k:Nat):f1013118_spec (f1013118 k):=(fam1013118_ok k k).1
theorem f1014218_ok (k:Nat):f1014218_spec (f1014218 k):=(fam1013118_ok k k).2
theorem f108_b_ok (k:Nat) (F:Fam108) (IH108:f108_spec F.f108):f108_spec (f108_b k F):=by
 unfold f108_spec
 intro K wi A be bf c f1 h hG cm dd
 obtain ⟨r_,hr_,h⟩:=rz h
 refine enter Tryz.func108 rfl (n:=76) rfl ?_
 unfold f108_b at h
 refine sr (m2 nS (wt (sr (m2 (.func (.func 129) #[] #[]) (wt (wp_seq (sr (m1 (.bool c) (wt (cd h (fun cx h=>?_) (fun cx h=>?_)))))))))))
 ·refine cT cx (wp_region_lit (m2 (.func (.func 130) #[] #[]) (wt (sr (m2 nS (wt (wp_seq (sr (m1 (sl be A bf) (lS A.length Tye36 (m1 (iI 0) (wt (wp_block ?_)))))))))))))
  have dL:=dd.row_ (zz wi) 42 11
  refine wp_loopG (fun g_ a w=>∃ de b1 bg,∃ (am:Nat),∃ d ai aj bB,g_=bg.length∧a=fr 76 (updL de [(1,.bool c),(5,.func (.func 130) #[] #[]),(6,sl ai d aj),(13,sl be A bf),(14,iI (A.length:Int)),(15,iI (am:Int))])∧KH.sub K b1∧SR K b1 wi w [] [.row (zz wi) (sl ai d aj) 42 11 d.length bB]∧A.drop am=bg∧Reps (RDStmt b1) 11 d bB∧d.length * 184 ≤ mB∧f108_l1 k F c bg am d=some r_) A.length ?_ ?_
  ·exact ⟨_,K,A,0,([]:LS),none,0,[],rfl,fR,kr,dL,List.drop_zero,(reps0 (R:=(RDStmt K)) (size:=11)),(by simp),h⟩
  ·rintro _ _ bh ⟨de,b1,bg,am,d,ai,aj,bB,rfl,rfl,bC,cy,b2,df,dM,h⟩
   rcases bg with _ | ⟨⟨g,l,cn,m,cf,q,bi,aZ,aP,an,B⟩,bg⟩
   ·unfold f108_l1 at h
    refine sr (bcm (r:=false) rfl rfl (congrArg some (drop_nil_lt b2)) (wt (wp_seq (cndF rfl (wp_exit (thenX (thenX (blkX (thenN (sr (m1 (sl ai d aj) (m2 (sl ai d aj) (wt (wp_ret ?_))))))))))))))
    obtain ⟨dN,dO,f2,dP⟩:=shutI (i:=0) (bytes:=184) (R:=fun K=>(RDStmt K)) cy rfl (Nat.le_refl _) df dM (fun hs=>(fun _ _ h=>RDStmt.mono hs h))
    cases (oi h).trans hr_
    exact retA1 rfl (resT rfl) ⟨dN,ai,aj,rfl,dO,dP⟩
   ·unfold f108_l1 at h
    refine sr (bcm (r:=true) rfl rfl (congrArg some (drop_cons_t b2)) (wt (wp_seq (cndT rfl (wp_skip (thenN (wp_seq (wp_block (sr ?_)))))))))
    obtain ⟨dQ,dR,f3,dS,f4,dT,dU⟩:=((ms cm bC)).row.at_ (drop_cons_at b2)
    obtain ⟨bD,bE,bj,bk,a2,a3,ay,az,X,Y,rfl,dV,dW,dX,dY,dZ,d0,dg⟩:=RDStmt.open dU
    refine idxN (b:=dQ) (o:=dR) (i:=am) Tye36 Tys42 rfl dS rfl (drop_cons_lt b2) (lD (vS g l cn m cf q bD bi bE bj aZ bk a2 aP a3 ay an az X B Y) Tya42 Tys42 rfl (fun j v hj=>cy.cell (kr.cell (dT j v hj))) (aC zS.toArray cy Tyz42 (fun f5 d1=>(sI 0 (.agg (vS g l cn m cf q bD bi bE bj aZ bk a2 aP a3 ay an az X B Y).toArray) ((vS g l cn m cf q bD bi bE bj aZ bk a2 aP a3 ay an az X B Y).toArray) d1 Tys42 rfl rfl (fun f6 dh=>(wt (wp_cut (fun a w=>∃ di D G,a=fr 76 (updL di [(1,.bool c),(5,.func (.func 130) #[] #[]),(6,sl ai d aj),(8,pp (zz bh) 0),(13,sl be A bf),(14,iI (A.length:Int)),(15,iI (am:Int))])∧SR K b1 wi w [] [.box (zz wi) (zz bh) (vS g l D m G q bD bi bE bj aZ bk a2 aP a3 ay an az X B Y).toArray 42,.row (zz wi) (sl ai d aj) 42 11 d.length bB]∧f108_j1 k F c d am g l m q bi aZ aP an B D G (f108_l1 k F c bg)=some r_) ?_ ?_)))))))
    ·refine sr (m1 (.bool c) (uN c (wt (cd h (fun cz h=>?_) (fun cz h=>?_)))))
     ·refine cT cz (wp_region_lit (fd 2 Tyf42_2 rfl (sI 0 (iI 0) ((vS g l 0 m cf q bD bi bE bj aZ bk a2 aP a3 ay an az X B Y).toArray) dh Tys3 rfl rfl (fun f7 d2=>(fd 4 Tyf42_4 rfl (sI 0 (iI 0) ((vS g l 0 m 0 q bD bi bE bj aZ bk a2 aP a3 ay an az X B Y).toArray) d2 Tys3 rfl rfl (fun d3 d4=>?_)))))))
      have d5:SR K b1 wi d3 [] [.box (zz wi) (zz bh) (vS g l 0 m 0 q bD bi bE bj aZ bk a2 aP a3 ay an az X B Y).toArray 42,.row (zz wi) (sl ai d aj) 42 11 d.length bB]:=d4
      exact wt (⟨_,0,0,fR,d5,h⟩)
     ·exact cF cz (wp_skip (thenN (⟨_,cn,cf,fR,dh,h⟩)))
    ·rintro _ f8 ⟨di,D,G,rfl,cA,h⟩
     unfold f108_j1 at h
     refine sr (fd 6 Tyf42_6 rfl (l1 0 (sl bD bi bE) cA Tya39 (m1 (.func (.func 130) #[] #[]) ?_)))
     obtain ⟨N,d6,h⟩:=ob h
     refine cv ([sl bD bi bE,.func (.func 130) #[] #[]]) Tyb131 ((f1013118_ok k) d6 (hG.mono bC) dX (pt cA)) ?_
     rintro _ ga ⟨gb,ao,ap,rfl,aA,d7⟩
     have d8:=ca aA cA
     refine fd 6 Tyf42_6 rfl (sI 0 (sl ao N ap) ((vS g l D m G q ao N ap bj aZ bk a2 aP a3 ay an az X B Y).toArray) d8 Tys39 rfl rfl (fun gc cB=>(wt (sr (fd 7 Tyf42_7 rfl (l1 0 (sl bj aZ bk) cB Tya36 (m1 (.bool c) ?_)))))))
     obtain ⟨S,d9,h⟩:=ob h
     refine cv ([sl bj aZ bk,.bool c]) Tyb108 (IH108 d9 (hG.mono (bC.trans aA.sub)) (ms dY aA.sub) (pt cB)) ?_
     rintro _ gd ⟨ge,aB,aE,rfl,aQ,ea⟩
     have ec:=ca aQ cB
     refine fd 7 Tyf42_7 rfl (sI 0 (sl aB S aE) ((vS g l D m G q ao N ap aB S aE a2 aP a3 ay an az X B Y).toArray) ec Tys36 rfl rfl (fun gf cC=>(wt (sr (fd 8 Tyf42_8 rfl (l1 0 (sl a2 aP a3) cC Tya36 (m1 (.bool c) ?_)))))))
     obtain ⟨V,ed,h⟩:=ob h
     refine cv ([sl a2 aP a3,.bool c]) Tyb108 (IH108 ed (hG.mono ((bC.trans aA.sub).trans aQ.sub)) (ms dZ (aA.sub.trans aQ.sub)) (pt cC)) ?_
     rintro _ gg ⟨ee,aR,aS,rfl,a4,ef⟩
     have eg:=ca a4 cC
     refine fd 8 Tyf42_8 rfl (sI 0 (sl aR V aS) ((vS g l D m G q ao N ap aB S aE aR V aS ay an az X B Y).toArray) eg Tys36 rfl rfl (fun eh ei=>?_))
     have cD:SR K ee wi eh [] [.box (zz wi) (zz bh) (vS g l D m G q ao N ap aB S aE aR V aS ay an az X B Y).toArray 42,.row (zz wi) (sl ai d aj) 42 11 d.length bB]:=ei
     refine wt (sr (fd 9 Tyf42_9 rfl (l1 0 (sl ay an az) cD Tya36 (m1 (.bool c) ?_))))
     obtain ⟨ac,ej,h⟩:=ob h
     refine cv ([sl ay an az,.bool c]) Tyb108 (IH108 ej (hG.mono (((bC.trans aA.sub).trans aQ.sub).trans a4.sub)) (ms d0 ((aA.sub.trans aQ.sub).trans a4.sub)) (pt cD)) ?_
     rintro _ gh ⟨cG,bm,bn,rfl,bo,ek⟩
     have el:=ca bo cD
     refine fd 9 Tyf42_9 rfl (sI 0 (sl bm ac bn) ((vS g l D m G q ao N ap aB S aE aR V aS bm ac bn X B Y).toArray) el Tys36 rfl rfl (fun gi dj=>(wt (sr (m2 nS (wt (wp_seq (sr (fd 10 Tyf42_10 rfl (l1 0 (sl X B Y) dj Tya40 (lS B.length Tye40 (m1 (iI 0) (wt (wp_block ?_))))))))))))))
     have em:=dj.row_ (zz wi) 87 5
     refine wp_loopG (fun g_ a w=>∃ dk ch bL,∃ (bp:Nat),∃ s aF aG co,g_=bL.length∧a=fr 76 (updL dk [(1,.bool c),(5,.func (.func 130) #[] #[]),(6,sl ai d aj),(8,pp (zz bh) 0),(9,sl aF s aG),(13,sl be A bf),(14,iI (A.length:Int)),(15,iI (am:Int)),(44,sl X B Y),(45,iI (B.length:Int)),(46,iI (bp:Int))])∧KH.sub cG ch∧SR K ch wi w [] [.box (zz wi) (zz bh) (vS g l D m G q ao N ap aB S aE aR V aS bm ac bn X B Y).toArray 42,.row (zz wi) (sl ai d aj) 42 11 d.length bB,.row (zz wi) (sl aF s aG) 87 5 s.length co]∧B.drop bp=bL∧Reps (RDCase ch) 5 s co∧s.length * 80 ≤ mB∧f108_l2 k F c d am g l m q D G N S V ac (f108_l1 k F c bg) bL bp s=some r_) B.length ?_ ?_
     ·exact ⟨_,cG,B,0,([]:LC),none,0,[],rfl,fR,kr,(em.sel [1,2,0]),List.drop_zero,(reps0 (R:=(RDCase cG)) (size:=5)),(by simp),h⟩
     ·rintro _ _ cH ⟨dk,ch,bL,bp,s,aF,aG,co,rfl,rfl,a5,cI,b3,dl,en,h⟩
      rcases bL with _ | ⟨⟨ad,ae,cq,bM,bF⟩,bL⟩
      ·unfold f108_l2 at h
       refine sr (bcm (r:=false) rfl rfl (congrArg some (drop_nil_lt b3)) (wt (wp_seq (cndF rfl (wp_exit (thenX (thenX (blkX (thenN (sr (m1 (sl aF s aG) (fd 10 Tyf42_10 rfl (sI 0 (sl aF s aG) ((vS g l D m G q ao N ap aB S aE aR V aS bm ac bn aF s aG).toArray) cI Tys40 rfl rfl (fun gj dm=>(wt (wp_region_lit (m1 (sl ai d aj) (lN 0 (vS g l D m G q ao N ap aB S aE aR V aS bm ac bn aF s aG) dm Tya42 Tys42 (bsl (e:=42) (cells:=(vS g l D m G q ao N ap aB S aE aR V aS bm ac bn aF s aG).toArray) (vs:=[(0,.agg (vS g l D m G q ao N ap aB S aE aR V aS bm ac bn aF s aG).toArray)]) dm rfl (buildSl_one Tye36 Tys42 Tyz42 rfl (by decide) (by decide) rfl) (fun gk eo=>?_))))))))))))))))))))
       obtain ⟨cJ,ep,b4,eq⟩:=shutI (i:=3) (bytes:=80) (R:=fun K=>(RDCase K)) eo rfl (Nat.le_refl _) dl en (fun hs=>(fun _ _ h=>RDCase.mono hs h))
       obtain ⟨dn,h⟩:=of_guard h
       refine apR (R:=(RDStmt cJ)) (p:=(DStmt.mk g l D m G q N S V ac s)) (i:=2) (j:=0) ep rfl rfl Tye36 Tyi42 rfl (by decide) rfl rfl (df.mono (fun _ _ h=>RDStmt.mono (((((aA.sub.trans aQ.sub).trans a4.sub).trans bo.sub).trans a5).trans b4) h)) (RDStmt.intro dV dW (me d7 ((((aQ.sub.trans a4.sub).trans bo.sub).trans a5).trans b4)) (ms ea (((a4.sub.trans bo.sub).trans a5).trans b4)) (ms ef ((bo.sub.trans a5).trans b4)) (ms ek (a5.trans b4)) eq) rfl rfl (Nat.le_refl _) dn (by decide) (fun cK cL dp es et eu=>?_)
       have ew:=p12 et
       exact m2 (.slice cK (d ++ [(DStmt.mk g l D m G q N S V ac s)]).length cL) (wpList_nil (blkN (thenN (wp_region_lit (bar (r:=((am + 1:Nat):Int)) rfl rfl (inc_ok (le_big (((ms cm bC)).len) (by decide) (drop_cons_lt b2))) (m1 (iI ((am + 1:Nat):Int)) (wt (⟨_,Nat.lt_succ_self _,_,cJ,bg,am + 1,(d ++ [(DStmt.mk g l D m G q N S V ac s)]),cK,cL,dp,rfl,fR,((((((bC.trans aA.sub).trans aQ.sub).trans a4.sub).trans bo.sub).trans a5).trans b4),(ew.sel [1]),drop_cons_next b2,eu,(app_bound dn),h⟩))))))))
      ·unfold f108_l2 at h
       refine sr (bcm (r:=true) rfl rfl (congrArg some (drop_cons_t b3)) (wt (wp_seq (cndT rfl (wp_skip (thenN (wp_seq (wp_block (sr ?_)))))))))
       obtain ⟨ex,ey,gl,ez,gm,eA,eB⟩:=((mc dg ((((aA.sub.trans aQ.sub).trans a4.sub).trans bo.sub).trans a5))).row.at_ (drop_cons_at b3)
       obtain ⟨bT,bU,bN,bO,rfl,eC,eD,eE⟩:=RDCase.open eB
       refine idxN (b:=ex) (o:=ey) (i:=bp) Tye40 Tys87 rfl ez rfl (drop_cons_lt b3) (lD (vC ad ae cq bT bM bU bN bF bO) Tya87 Tys87 rfl (fun j v hj=>cI.cell (kr.cell (eA j v hj))) (aC zC.toArray cI Tyz87 (fun gn eF=>(sI 0 (.agg (vC ad ae cq bT bM bU bN bF bO).toArray) ((vC ad ae cq bT bM bU bN bF bO).toArray) eF Tys87 rfl rfl (fun go dq=>(wt (wp_cut (fun a w=>∃ dr aq,a=fr 76 (updL dr [(1,.bool c),(5,.func (.func 130) #[] #[]),(6,sl ai d aj),(8,pp (zz bh) 0),(9,sl aF s aG),(11,pp (zz cH) 0),(13,sl be A bf),(14,iI (A.length:Int)),(15,iI (am:Int)),(44,sl X B Y),(45,iI (B.length:Int)),(46,iI (bp:Int))])∧SR K ch wi w [] [.box (zz wi) (zz bh) (vS g l D m G q ao N ap aB S aE aR V aS bm ac bn X B Y).toArray 42,.box (zz wi) (zz cH) (vC ad ae aq bT bM bU bN bF bO).toArray 87,.row (zz wi) (sl ai d aj) 42 11 d.length bB,.row (zz wi) (sl aF s aG) 87 5 s.length co]∧f108_j2 k F c s bp ad ae bM bF aq (f108_l2 k F c d am g l m q D G N S V ac (f108_l1 k F c bg) bL)=some r_) ?_ ?_)))))))
       ·refine sr (m1 (.bool c) (uN c (wt (cd h (fun cM h=>?_) (fun cM h=>?_)))))
        ·exact cT cM (wp_region_lit (fd 2 Tyf87_2 rfl (sI 0 (iI 0) ((vC ad ae 0 bT bM bU bN bF bO).toArray) dq Tys3 rfl rfl (fun gp eG=>(wt (⟨_,0,fR,(eG.sel [1,0,2,3]),h⟩))))))
        ·exact cF cM (wp_skip (thenN (⟨_,cq,fR,(dq.sel [1,0,2,3]),h⟩)))
       ·rintro _ gq ⟨dr,aq,rfl,cN,h⟩
        unfold f108_j2 at h
        refine sr (fd 3 Tyf87_3 rfl (l1 1 (sl bT bM bU) cN Tya39 (m1 (.func (.func 130) #[] #[]) ?_)))
        obtain ⟨aT,eH,h⟩:=ob h
        refine cv ([sl bT bM bU,.func (.func 130) #[] #[]]) Tyb131 ((f1013118_ok k) eH (hG.mono (((((bC.trans aA.sub).trans aQ.sub).trans a4.sub).trans bo.sub).trans a5)) eD (pt cN)) ?_
        rintro _ gr ⟨gs,bV,bW,rfl,ci,eI⟩
        have eJ:=ca ci cN
        refine fd 3 Tyf87_3 rfl (sI 1 (sl bV aT bW) ((vC ad ae aq bV aT bW bN bF bO).toArray) eJ Tys39 rfl rfl (fun gt cO=>(wt (sr (fd 4 Tyf87_4 rfl (l1 1 (sl bN bF bO) cO Tya36 (m1 (.bool c) ?_)))))))
        obtain ⟨a6,eK,h⟩:=ob h
        refine cv ([sl bN bF bO,.bool c]) Tyb108 (IH108 eK (hG.mono ((((((bC.trans aA.sub).trans aQ.sub).trans a4.sub).trans bo.sub).trans a5).trans ci.sub)) (ms eE ci.sub) (pt cO)) ?_
        rintro _ gu ⟨cP,b5,b6,rfl,cr,eL⟩
        have eM:=ca cr cO
        refine fd 4 Tyf87_4 rfl (sI 1 (sl b5 a6 b6) ((vC ad ae aq bV aT bW b5 a6 b6).toArray) eM Tys36 rfl rfl (fun gv ds=>(wt (wp_region_lit (m1 (sl aF s aG) (lN 1 (vC ad ae aq bV aT bW b5 a6 b6) ds Tya87 Tys87 (bsl (e:=87) (cells:=(vC ad ae aq bV aT bW b5 a6 b6).toArray) (vs:=[(0,.agg (vC ad ae aq bV aT bW b5 a6 b6).toArray)]) ds rfl (buildSl_one Tye40 Tys87 Tyz87 rfl (by decide) (by decide) rfl) (fun gw eN=>?_))))))))
        obtain ⟨dt,h⟩:=of_guard h
        refine apR (R:=(RDCase cP)) (p:=(DCase.mk ad ae aq aT a6)) (i:=4) (j:=0) eN rfl rfl Tye40 Tyi87 rfl (by decide) rfl rfl (dl.mono (fun _ _ h=>RDCase.mono (ci.sub.trans cr.sub) h)) (RDCase.intro eC (me eI cr.sub) eL) rfl rfl (Nat.le_refl _) dt (by decide) (fun cQ cR du eO eP eQ=>?_)
        have eR:=p1234 eP
        exact m2 (.slice cQ (s ++ [(DCase.mk ad ae aq aT a6)]).length cR) (wpList_nil (blkN (thenN (wp_region_lit (bar (r:=((bp + 1:Nat):Int)) rfl rfl (inc_ok (le_big (((mc dg ((((aA.sub.trans aQ.sub).trans a4.sub).trans bo.sub).trans a5))).len) (by decide) (drop_cons_lt b3))) (m1 (iI ((bp + 1:Nat):Int)) (wt (⟨_,Nat.lt_succ_self _,_,cP,bL,bp + 1,(s ++ [(DCase.mk ad ae aq aT a6)]),cQ,cR,du,rfl,fR,((a5.trans ci.sub).trans cr.sub),(eR.sel [0,2,3]),drop_cons_next b3,eQ,(app_bound dt),h⟩))))))))
 ·refine cF cx (wp_skip (thenN (sr (m2 nS (wt (wp_seq (sr (m1 (sl be A bf) (lS A.length Tye36 (m1 (iI 0) (wt (wp_block ?_))))))))))))
  have eS:=dd.row_ (zz wi) 42 11
  refine wp_loopG (fun g_ a w=>∃ dv b7 bq,∃ (ar:Nat),∃ f ak al bG,g_=bq.length∧a=fr 76 (updL dv [(1,.bool c),(5,.func (.func 129) #[] #[]),(6,sl ak f al),(13,sl be A bf),(14,iI (A.length:Int)),(15,iI (ar:Int))])∧KH.sub K b7∧SR K b7 wi w [] [.row (zz wi) (sl ak f al) 42 11 f.length bG]∧A.drop ar=bq∧Reps (RDStmt b7) 11 f bG∧f.length * 184 ≤ mB∧f108_l3 k F c bq ar f=some r_) A.length ?_ ?_
  ·exact ⟨_,K,A,0,([]:LS),none,0,[],rfl,fR,kr,eS,List.drop_zero,(reps0 (R:=(RDStmt K)) (size:=11)),(by simp),h⟩
  ·rintro _ _ br ⟨dv,b7,bq,ar,f,ak,al,bG,rfl,rfl,bH,cS,b8,dw,eT,h⟩
   rcases bq with _ | ⟨⟨t,u,cs,x,cj,y,bs,a7,aU,au,C⟩,bq⟩
   ·unfold f108_l3 at h
    refine sr (bcm (r:=false) rfl rfl (congrArg some (drop_nil_lt b8)) (wt (wp_seq (cndF rfl (wp_exit (thenX (thenX (blkX (thenN (sr (m1 (sl ak f al) (m2 (sl ak f al) (wt (wp_ret ?_))))))))))))))
    obtain ⟨eU,eV,gx,eW⟩:=shutI (i:=0) (bytes:=184) (R:=fun K=>(RDStmt K)) cS rfl (Nat.le_refl _) dw eT (fun hs=>(fun _ _ h=>RDStmt.mono hs h))
    cases (oi h).trans hr_
    exact retA1 rfl (resT rfl) ⟨eU,ak,al,rfl,eV,eW⟩
   ·unfold f108_l3 at h
    refine sr (bcm (r:=true) rfl rfl (congrArg some (drop_cons_t b8)) (wt (wp_seq (cndT rfl (wp_skip (thenN (wp_seq (wp_block (sr ?_)))))))))
    obtain ⟨eX,eY,gy,eZ,gz,e0,e1⟩:=((ms cm bH)).row.at_ (drop_cons_at b8)
    obtain ⟨bI,bJ,bu,bv,a8,a9,aH,aI,Z,ab,rfl,e2,e3,e4,e5,e6,e7,dx⟩:=RDStmt.open e1
    refine idxN (b:=eX) (o:=eY) (i:=ar) Tye36 Tys42 rfl eZ rfl (drop_cons_lt b8) (lD (vS t u cs x cj y bI bs bJ bu a7 bv a8 aU a9 aH au aI Z C ab) Tya42 Tys42 rfl (fun j v hj=>cS.cell (kr.cell (e0 j v hj))) (aC zS.toArray cS Tyz42 (fun gA e8=>(sI 0 (.agg (vS t u cs x cj y bI bs bJ bu a7 bv a8 aU a9 aH au aI Z C ab).toArray) ((vS t u cs x cj y bI bs bJ bu a7 bv a8 aU a9 aH au aI Z C ab).toArray) e8 Tys42 rfl rfl (fun gB dy=>(wt (wp_cut (fun a w=>∃ dz I J,a=fr 76 (updL dz [(1,.bool c),(5,.func (.func 129) #[] #[]),(6,sl ak f al),(8,pp (zz br) 0),(13,sl be A bf),(14,iI (A.length:Int)),(15,iI (ar:Int))])∧SR K b7 wi w [] [.box (zz wi) (zz br) (vS t u I x J y bI bs bJ bu a7 bv a8 aU a9 aH au aI Z C ab).toArray 42,.row (zz wi) (sl ak f al) 42 11 f.length bG]∧f108_j3 k F c f ar t u x y bs a7 aU au C I J (f108_l3 k F c bq)=some r_) ?_ ?_)))))))
    ·refine sr (m1 (.bool c) (uN c (wt (cd h (fun cU h=>?_) (fun cU h=>?_)))))
     ·refine cT cU (wp_region_lit (fd 2 Tyf42_2 rfl (sI 0 (iI 0) ((vS t u 0 x cj y bI bs bJ bu a7 bv a8 aU a9 aH au aI Z C ab).toArray) dy Tys3 rfl rfl (fun gD e9=>(fd 4 Tyf42_4 rfl (sI 0 (iI 0) ((vS t u 0 x 0 y bI bs bJ bu a7 bv a8 aU a9 aH au aI Z C ab).toArray) e9 Tys3 rfl rfl (fun fa fb=>?_)))))))
      have fc:SR K b7 wi fa [] [.box (zz wi) (zz br) (vS t u 0 x 0 y bI bs bJ bu a7 bv a8 aU a9 aH au aI Z C ab).toArray 42,.row (zz wi) (sl ak f al) 42 11 f.length bG]:=fb
      exact wt (⟨_,0,0,fR,fc,h⟩)
     ·exact cF cU (wp_skip (thenN (⟨_,cs,cj,fR,dy,h⟩)))
    ·rintro _ gF ⟨dz,I,J,rfl,cV,h⟩
     unfold f108_j3 at h
     refine sr (fd 6 Tyf42_6 rfl (l1 0 (sl bI bs bJ) cV Tya39 (m1 (.func (.func 129) #[] #[]) ?_)))
     obtain ⟨O,fe,h⟩:=ob h
     refine cv ([sl bI bs bJ,.func (.func 129) #[] #[]]) Tyb131 ((f1013115_ok k) fe (hG.mono bH) e4 (pt cV)) ?_
     rintro _ gG ⟨gH,av,aw,rfl,aJ,ff⟩
     have fg:=ca aJ cV
     refine fd 6 Tyf42_6 rfl (sI 0 (sl av O aw) ((vS t u I x J y av O aw bu a7 bv a8 aU a9 aH au aI Z C ab).toArray) fg Tys39 rfl rfl (fun gI cW=>(wt (sr (fd 7 Tyf42_7 rfl (l1 0 (sl bu a7 bv) cW Tya36 (m1 (.bool c) ?_)))))))
     obtain ⟨U,fh,h⟩:=ob h
     refine cv ([sl bu a7 bv,.bool c]) Tyb108 (IH108 fh (hG.mono (bH.trans aJ.sub)) (ms e5 aJ.sub) (pt cW)) ?_
     rintro _ gJ ⟨gK,aK,aL,rfl,aV,fi⟩
     have fj:=ca aV cW
     refine fd 7 Tyf42_7 rfl (sI 0 (sl aK U aL) ((vS t u I x J y av O aw aK U aL a8 aU a9 aH au aI Z C ab).toArray) fj Tys36 rfl rfl (fun gL cX=>(wt (sr (fd 8 Tyf42_8 rfl (l1 0 (sl a8 aU a9) cX Tya36 (m1 (.bool c) ?_)))))))
     obtain ⟨W,fk,h⟩:=ob h
     refine cv ([sl a8 aU a9,.bool c]) Tyb108 (IH108 fk (hG.mono ((bH.trans aJ.sub).trans aV.sub)) (ms e6 (aJ.sub.trans aV.sub)) (pt cX)) ?_
     rintro _ gM ⟨fl,aW,aX,rfl,ba,fm⟩
     have fn:=ca ba cX
     refine fd 8 Tyf42_8 rfl (sI 0 (sl aW W aX) ((vS t u I x J y av O aw aK U aL aW W aX aH au aI Z C ab).toArray) fn Tys36 rfl rfl (fun fo fp=>?_))
     have cY:SR K fl wi fo [] [.box (zz wi) (zz br) (vS t u I x J y av O aw aK U aL aW W aX aH au aI Z C ab).toArray 42,.row (zz wi) (sl ak f al) 42 11 f.length bG]:=fp
     refine wt (sr (fd 9 Tyf42_9 rfl (l1 0 (sl aH au aI) cY Tya36 (m1 (.bool c) ?_))))
     obtain ⟨af,fs,h⟩:=ob h
     refine cv ([sl aH au aI,.bool c]) Tyb108 (IH108 fs (hG.mono (((bH.trans aJ.sub).trans aV.sub).trans ba.sub)) (ms e7 ((aJ.sub.trans aV.sub).trans ba.sub)) (pt cY)) ?_
     rintro _ gN ⟨cZ,bw,bx,rfl,bz,ft⟩
     have fu:=ca bz cY
     refine fd 9 Tyf42_9 rfl (sI 0 (sl bw af bx) ((vS t u I x J y av O aw aK U aL aW W aX bw af bx Z C ab).toArray) fu Tys36 rfl rfl (fun gO dA=>(wt (sr (m2 nS (wt (wp_seq (sr (fd 10 Tyf42_10 rfl (l1 0 (sl Z C ab) dA Tya40 (lS C.length Tye40 (m1 (iI 0) (wt (wp_block ?_))))))))))))))
     have fv:=dA.row_ (zz wi) 87 5
     refine wp_loopG (fun g_ a w=>∃ dB ck bP,∃ (bA:Nat),∃ z aM aN ct,g_=bP.length∧a=fr 76 (updL dB [(1,.bool c),(5,.func (.func 129) #[] #[]),(6,sl ak f al),(8,pp (zz br) 0),(9,sl aM z aN),(13,sl be A bf),(14,iI (A.length:Int)),(15,iI (ar:Int)),(44,sl Z C ab),(45,iI (C.length:Int)),(46,iI (bA:Int))])∧KH.sub cZ ck∧SR K ck wi w [] [.box (zz wi) (zz br) (vS t u I x J y av O aw aK U aL aW W aX bw af bx Z C ab).toArray 42,.row (zz wi) (sl ak f al) 42 11 f.length bG,.row (zz wi) (sl aM z aN) 87 5 z.length ct]∧C.drop bA=bP∧Reps (RDCase ck) 5 z ct∧z.length * 80 ≤ mB∧f108_l4 k F c f ar t u x y I J O U W af (f108_l3 k F c bq) bP bA z=some r_) C.length ?_ ?_
     ·exact ⟨_,cZ,C,0,([]:LC),none,0,[],rfl,fR,kr,(fv.sel [1,2,0]),List.drop_zero,(reps0 (R:=(RDCase cZ)) (size:=5)),(by simp),h⟩
     ·rintro _ _ c2 ⟨dB,ck,bP,bA,z,aM,aN,ct,rfl,rfl,bb,c3,b9,dC,fx,h⟩
      rcases bP with _ | ⟨⟨ag,ah,cu,bQ,bK⟩,bP⟩
      ·unfold f108_l4 at h
       refine sr (bcm (r:=false) rfl rfl (congrArg some (drop_nil_lt b9)) (wt (wp_seq (cndF rfl (wp_exit (thenX (thenX (blkX (thenN (sr (m1 (sl aM z aN) (fd 10 Tyf42_10 rfl (sI 0 (sl aM z aN) ((vS t u I x J y av O aw aK U aL aW W aX bw af bx aM z aN).toArray) c3 Tys40 rfl rfl (fun gP dD=>(wt (wp_region_lit (m1 (sl ak f al) (lN 0 (vS t u I x J y av O aw aK U aL aW W aX bw af bx aM z aN) dD Tya42 Tys42 (bsl (e:=42) (cells:=(vS t u I x J y av O aw aK U aL aW W aX bw af bx aM z aN).toArray) (vs:=[(0,.agg (vS t u I x J y av O aw aK U aL aW W aX bw af bx aM z aN).toArray)]) dD rfl (buildSl_one Tye36 Tys42 Tyz42 rfl (by decide) (by decide) rfl) (fun gQ fy=>?_))))))))))))))))))))
       obtain ⟨c4,fz,cb,fA⟩:=shutI (i:=3) (bytes:=80) (R:=fun K=>(RDCase K)) fy rfl (Nat.le_refl _) dC fx (fun hs=>(fun _ _ h=>RDCase.mono hs h))
       obtain ⟨dE,h⟩:=of_guard h
       refine apR (R:=(RDStmt c4)) (p:=(DStmt.mk t u I x J y O U W af z)) (i:=2) (j:=0) fz rfl rfl Tye36 Tyi42 rfl (by decide) rfl rfl (dw.mono (fun _ _ h=>RDStmt.mono (((((aJ.sub.trans aV.sub).trans ba.sub).trans bz.sub).trans bb).trans cb) h)) (RDStmt.intro e2 e3 (me ff ((((aV.sub.trans ba.sub).trans bz.sub).trans bb).trans cb)) (ms fi (((ba.sub.trans bz.sub).trans bb).trans cb)) (ms fm ((bz.sub.trans bb).trans cb)) (ms ft (bb.trans cb)) fA) rfl rfl (Nat.le_refl _) dE (by decide) (fun c5 c6 dF fB fC fD=>?_)
       have fE:=p12 fC
       exact m2 (.slice c5 (f ++ [(DStmt.mk t u I x J y O U W af z)]).length c6) (wpList_nil (blkN (thenN (wp_region_lit (bar (r:=((ar + 1:Nat):Int)) rfl rfl (inc_ok (le_big (((ms cm bH)).len) (by decide) (drop_cons_lt b8))) (m1 (iI ((ar + 1:Nat):Int)) (wt (⟨_,Nat.lt_succ_self _,_,c4,bq,ar + 1,(f ++ [(DStmt.mk t u I x J y O U W af z)]),c5,c6,dF,rfl,fR,((((((bH.trans aJ.sub).trans aV.sub).trans ba.sub).trans bz.sub).trans bb).trans cb),(fE.sel [1]),drop_cons_next b8,fD,(app_bound dE),h⟩))))))))
      ·unfold f108_l4 at h
       refine sr (bcm (r:=true) rfl rfl (congrArg some (drop_cons_t b9)) (wt (wp_seq (cndT rfl (wp_skip (thenN (wp_seq (wp_block (sr ?_)))))))))
       obtain ⟨fF,fG,gR,fH,gT,fI,fJ⟩:=((mc dx ((((aJ.sub.trans aV.sub).trans ba.sub).trans bz.sub).trans bb))).row.at_ (drop_cons_at b9)
       obtain ⟨bX,bY,bR,bS,rfl,fK,fL,fM⟩:=RDCase.open fJ
       refine idxN (b:=fF) (o:=fG) (i:=bA) Tye40 Tys87 rfl fH rfl (drop_cons_lt b9) (lD (vC ag ah cu bX bQ bY bR bK bS) Tya87 Tys87 rfl (fun j v hj=>c3.cell (kr.cell (fI j v hj))) (aC zC.toArray c3 Tyz87 (fun gU fN=>(sI 0 (.agg (vC ag ah cu bX bQ bY bR bK bS).toArray) ((vC ag ah cu bX bQ bY bR bK bS).toArray) fN Tys87 rfl rfl (fun gV dG=>(wt (wp_cut (fun a w=>∃ dH ax,a=fr 76 (updL dH [(1,.bool c),(5,.func (.func 129) #[] #[]),(6,sl ak f al),(8,pp (zz br) 0),(9,sl aM z aN),(11,pp (zz c2) 0),(13,sl be A bf),(14,iI (A.length:Int)),(15,iI (ar:Int)),(44,sl Z C ab),(45,iI (C.length:Int)),(46,iI (bA:Int))])∧SR K ck wi w [] [.box (zz wi) (zz br) (vS t u I x J y av O aw aK U aL aW W aX bw af bx Z C ab).toArray 42,.box (zz wi) (zz c2) (vC ag ah ax bX bQ bY bR bK bS).toArray 87,.row (zz wi) (sl ak f al) 42 11 f.length bG,.row (zz wi) (sl aM z aN) 87 5 z.length ct]∧f108_j4 k F c z bA ag ah bQ bK ax (f108_l4 k F c f ar t u x y I J O U W af (f108_l3 k F c bq) bP)=some r_) ?_ ?_)))))))
       ·refine sr (m1 (.bool c) (uN c (wt (cd h (fun c7 h=>?_) (fun c7 h=>?_)))))
        ·exact cT c7 (wp_region_lit (fd 2 Tyf87_2 rfl (sI 0 (iI 0) ((vC ag ah 0 bX bQ bY bR bK bS).toArray) dG Tys3 rfl rfl (fun gW fO=>(wt (⟨_,0,fR,(fO.sel [1,0,2,3]),h⟩))))))
        ·exact cF c7 (wp_skip (thenN (⟨_,cu,fR,(dG.sel [1,0,2,3]),h⟩)))
       ·rintro _ gX ⟨dH,ax,rfl,c8,h⟩
        unfold f108_j4 at h
        refine sr (fd 3 Tyf87_3 rfl (l1 1 (sl bX bQ bY) c8 Tya39 (m1 (.func (.func 129) #[] #[]) ?_)))
        obtain ⟨aY,fP,h⟩:=ob h
        refine cv ([sl bX bQ bY,.func (.func 129) #[] #[]]) Tyb131 ((f1013115_ok k) fP (hG.mono (((((bH.trans aJ.sub).trans aV.sub).trans ba.sub).trans bz.sub).trans bb)) fL (pt c8)) ?_
        rintro _ gY ⟨gZ,bZ,b0,rfl,cl,fQ⟩
        have fS:=ca cl c8
        refine fd 3 Tyf87_3 rfl (sI 1 (sl bZ aY b0) ((vC ag ah ax bZ aY b0 bR bK bS).toArray) fS Tys39 rfl rfl (fun g0 c9=>(wt (sr (fd 4 Tyf87_4 rfl (l1 1 (sl bR bK bS) c9 Tya36 (m1 (.bool c) ?_)))))))
        obtain ⟨bd,fT,h⟩:=ob h
        refine cv ([sl bR bK bS,.bool c]) Tyb108 (IH108 fT (hG.mono ((((((bH.trans aJ.sub).trans aV.sub).trans ba.sub).trans bz.sub).trans bb).trans cl.sub)) (ms fM cl.sub) (pt c9)) ?_
        rintro _ g1 ⟨da,cc,ce,rfl,cw,fU⟩
        have fV:=ca cw c9
        refine fd 4 Tyf87_4 rfl (sI 1 (sl cc bd ce) ((vC ag ah ax bZ aY b0 cc bd ce).toArray) fV Tys36 rfl rfl (fun g2 dI=>(wt (wp_region_lit (m1 (sl aM z aN) (lN 1 (vC ag ah ax bZ aY b0 cc bd ce) dI Tya87 Tys87 (bsl (e:=87) (cells:=(vC ag ah ax bZ aY b0 cc bd ce).toArray) (vs:=[(0,.agg (vC ag ah ax bZ aY b0 cc bd ce).toArray)]) dI rfl (buildSl_one Tye40 Tys87 Tyz87 rfl (by decide) (by decide) rfl) (fun g3 fW=>?_))))))))
        obtain ⟨dJ,h⟩:=of_guard h
        refine apR (R:=(RDCase da)) (p:=(DCase.mk ag ah ax aY bd)) (i:=4) (j:=0) fW rfl rfl Tye40 Tyi87 rfl (by decide) rfl rfl (dC.mono (fun _ _ h=>RDCase.mono (cl.sub.trans cw.sub) h)) (RDCase.intro fK (me fQ cw.sub) fU) rfl rfl (Nat.le_refl _) dJ (by decide) (fun db dc dK fX fY fZ=>?_)
        have f0:=p1234 fY
        exact m2 (.slice db (z ++ [(DCase.mk ag ah ax aY bd)]).length dc) (wpList_nil (blkN (thenN (wp_region_lit (bar (r:=((bA + 1:Nat):Int)) rfl rfl (inc_ok (le_big (((mc dx ((((aJ.sub.trans aV.sub).trans ba.sub).trans bz.sub).trans bb))).len) (by decide) (drop_cons_lt b9))) (m1 (iI ((bA + 1:Nat):Int)) (wt (⟨_,Nat.lt_succ_self _,_,da,bP,bA + 1,(z ++ [(DCase.mk ag ah ax aY bd)]),db,dc,dK,rfl,fR,((bb.trans cl.sub).trans cw.sub),(f0.sel [0,2,3]),drop_cons_next b9,fZ,(app_bound dJ),h⟩))))))))
theorem fam108_ok (k0:Nat) : ∀ k,f108_spec (fam108 k0 k).f108:=by
 intro k
 induction k with
 | zero=>exact (by unfold f108_spec; intro _ _ _ _ _ _ _ h_; cases h_)
 | succ k ih=>exact f108_b_ok k0 (fam108 k0 k) ih
theorem f108_ok (k:Nat):f108_spec (f108 k):=(fam108_ok k k)
theorem f88_b_ok (k:Nat):f88_spec (f88_b k):=by
 unfold f88_spec
 intro K wi aA be z bf h hG aB aE
 obtain ⟨r_,hr_,h⟩:=rz h
 obtain ⟨x⟩:=aA
 obtain ⟨ae,c1,rfl,aq⟩:=RDProgram.open aB
 refine enter Tryz.func88 rfl (n:=35) rfl ?_
 unfold f88_b at h
 refine sr (bxoC (cs:=#[sl ae x c1]) aE rfl rfl (fun V aF=>(aC #[nS] aF Tyz24 (fun W aG=>(wt (sr (aC #[nS] aG Tyz24 (fun bg ar=>(wt (wp_seq (sr (fd 0 Tyf24_0 rfl (l1 2 (sl ae x c1) ar Tya22 (lS x.length Tye22 (m1 (iI 0) (wt (wp_block ?_)))))))))))))))))
 have aH:=ar.row_ (zz wi) 38 6
 refine wp_loopG (fun g_ a w=>∃ au ab B,∃ (y:Nat),∃ c t u af,g_=B.length∧a=fr 35 (updL au [(1,.bool z),(4,pp (zz V) 0),(5,pp (zz W) 0),(9,sl ae x c1),(10,iI (x.length:Int)),(11,iI (y:Int))])∧KH.sub K ab∧SR K ab wi w [] [.box (zz wi) (zz V) #[nS] 24,.box (zz wi) (zz W) #[sl t c u] 24,.row (zz wi) (sl t c u) 38 6 c.length af]∧x.drop y=B∧Reps (RDFunc ab) 6 c af∧c.length * 88 ≤ mB∧f88_l1 k z B y c=some r_) x.length ?_ ?_
 ·exact ⟨_,K,x,0,([]:LF),none,0,[],rfl,fR,kr,(aH.sel [2,1,0]),List.drop_zero,(reps0 (R:=(RDFunc K)) (size:=6)),(by simp),h⟩
 ·rintro _ _ ag ⟨au,ab,B,y,c,t,u,af,rfl,rfl,ac,ah,X,av,aI,h⟩
  rcases B with _ | ⟨⟨d,C,f,g,ai,A⟩,B⟩
  ·unfold f88_l1 at h
   refine sr (bcm (r:=false) rfl rfl (congrArg some (drop_nil_lt X)) (wt (wp_seq (cndF rfl (wp_exit (thenX (thenX (blkX (thenN (sr (lN 1 ([sl t c u]) ah Tya24 Tys24 (sI 0 (.agg #[sl t c u]) #[sl t c u] ah Tys24 rfl rfl (fun bh aw=>(wt (wp_ret ?_)))))))))))))))
   obtain ⟨aJ,aK,bi,aL⟩:=shutI (i:=2) (bytes:=88) (R:=fun K=>(RDFunc K)) aw rfl (Nat.le_refl _) av aI (fun hs=>(fun _ _ h=>RDFunc.mono hs h))
   cases (oi h).trans hr_
   exact retA1 rfl (resN (i:=0) (l:=[sl t c u]) aw rfl Tya24 Tys24 rfl rfl rfl) ⟨aJ,[sl t c u],rfl,(aK.sel []),(RDProgram.intro aL)⟩
  ·unfold f88_l1 at h
   refine sr (bcm (r:=true) rfl rfl (congrArg some (drop_cons_t X)) (wt (wp_seq (cndT rfl (wp_skip (thenN (wp_seq (wp_block (sr ?_)))))))))
   obtain ⟨aM,aN,bj,aP,bk,aQ,aR⟩:=((mf aq ac)).row.at_ (drop_cons_at X)
   obtain ⟨N,O,D,G,rfl,aS,aT,aU⟩:=RDFunc.open aR
   refine idxN (b:=aM) (o:=aN) (i:=y) Tye22 Tys38 rfl aP rfl (drop_cons_lt X) (lD (vF d N C O f g ai D A G) Tya38 Tys38 rfl (fun j v hj=>ah.cell (kr.cell (aQ j v hj))) (aC zF.toArray ah Tyz38 (fun bm aV=>(sI 0 (.agg (vF d N C O f g ai D A G).toArray) ((vF d N C O f g ai D A G).toArray) aV Tys38 rfl rfl (fun bn ax=>(wt (wp_cut (fun a w=>∃ ay m,a=fr 35 (updL ay [(1,.bool z),(4,pp (zz V) 0),(5,pp (zz W) 0),(7,pp (zz ag) 0),(9,sl ae x c1),(10,iI (x.length:Int)),(11,iI (y:Int))])∧SR K ab wi w [] [.box (zz wi) (zz V) #[nS] 24,.box (zz wi) (zz W) #[sl t c u] 24,.box (zz wi) (zz ag) (vF d N C O f g m D A G).toArray 38,.row (zz wi) (sl t c u) 38 6 c.length af]∧f88_j1 k z c y d C f g A m (f88_l1 k z B)=some r_) ?_ ?_)))))))
   ·refine sr (m1 (.bool z) (uN z (wt (cd h (fun al h=>?_) (fun al h=>?_)))))
    ·exact cT al (wp_region_lit (fd 4 Tyf38_4 rfl (sI 0 (iI 0) ((vF d N C O f g 0 D A G).toArray) ax Tys3 rfl rfl (fun bo aW=>(wt (⟨_,0,fR,(aW.sel [1,2,0,3]),h⟩))))))
    ·exact cF al (wp_skip (thenN (⟨_,ai,fR,(ax.sel [1,2,0,3]),h⟩)))
   ·rintro _ bp ⟨ay,m,rfl,am,h⟩
    unfold f88_j1 at h
    refine sr (fd 1 Tyf38_1 rfl (l1 2 (sl N C O) am Tya35 ?_))
    obtain ⟨q,aX,h⟩:=ob h
    refine cv ([sl N C O]) Tyb104 ((f104_ok k) aX (hG.mono ac) aT (pt am)) ?_
    rintro _ bq ⟨br,I,J,rfl,ad,aY⟩
    have aZ:=ca ad am
    refine fd 1 Tyf38_1 rfl (sI 2 (sl I q J) ((vF d I q J f g m D A G).toArray) aZ Tys35 rfl rfl (fun bs an=>(wt (sr (fd 5 Tyf38_5 rfl (l1 2 (sl D A G) an Tya36 (m1 (.bool z) ?_)))))))
    obtain ⟨s,a2,h⟩:=ob h
    refine cv ([sl D A G,.bool z]) Tyb108 ((f108_ok k) a2 (hG.mono (ac.trans ad.sub)) (ms aU ad.sub) (pt an)) ?_
    rintro _ bu ⟨aj,S,U,rfl,ak,a3⟩
    have a4:=ca ak an
    refine fd 5 Tyf38_5 rfl (sI 2 (sl S s U) ((vF d I q J f g m S s U).toArray) a4 Tys36 rfl rfl (fun bv ao=>(wt (wp_region_lit (fd 0 Tyf24_0 rfl (l1 1 (sl t c u) ao Tya22 (lN 2 (vF d I q J f g m S s U) ao Tya38 Tys38 (bsl (e:=38) (cells:=(vF d I q J f g m S s U).toArray) (vs:=[(0,.agg (vF d I q J f g m S s U).toArray)]) ao rfl (buildSl_one Tye22 Tys38 Tyz38 rfl (by decide) (by decide) rfl) (fun bw a5=>?_)))))))))
    obtain ⟨az,h⟩:=of_guard h
    refine apR (R:=(RDFunc aj)) (p:=(DFunc.mk d q f g m s)) (i:=4) (j:=0) a5 rfl rfl Tye22 Tyi38 rfl (by decide) rfl rfl (av.mono (fun _ _ h=>RDFunc.mono (ad.sub.trans ak.sub) h)) (RDFunc.intro aS (mp aY ak.sub) a3) rfl rfl (Nat.le_refl _) az (by decide) (fun Y Z ap a6 a7 a8=>?_)
    have a9:=p1234 a7
    refine fd 0 Tyf24_0 rfl (sI 1 (.slice Y (c ++ [(DFunc.mk d q f g m s)]).length Z) #[.slice Y (c ++ [(DFunc.mk d q f g m s)]).length Z] a9 Tys22 rfl rfl (fun ba bb=>?_))
    have bd:SR K aj wi ba [] [.box (zz wi) (zz V) #[nS] 24,.box (zz wi) (zz W) #[.slice Y (c ++ [(DFunc.mk d q f g m s)]).length Z] 24,.box (zz wi) (zz ag) (vF d I q J f g m S s U).toArray 38,.row (zz wi) (.slice Y (c ++ [(DFunc.mk d q f g m s)]).length Z) 38 6 (c ++ [(DFunc.mk d q f g m s)]).length ap]:=bb
    exact wpList_nil (blkN (thenN (wp_region_lit (bar (r:=((y + 1:Nat):Int)) rfl rfl (inc_ok (le_big (((mf aq ac)).len) (by decide) (drop_cons_lt X))) (m1 (iI ((y + 1:Nat):Int)) (wt (⟨_,Nat.lt_succ_self _,_,aj,B,y + 1,(c ++ [(DFunc.mk d q f g m s)]),Y,Z,ap,rfl,fR,((ac.trans ad.sub).trans ak.sub),(bd.sel [0,1,3]),drop_cons_next X,a8,(app_bound az),h⟩)))))))
theorem f88_ok (k:Nat):f88_spec (f88 k):=f88_b_ok k
theorem f50_b_ok (k:Nat):f50_spec (f50_b k):=by
 unfold f50_spec
 intro K wi r O r_ h hG s t
 obtain ⟨a⟩:=r
 obtain ⟨b,c1,rfl,p⟩:=RDProgram.open s
 refine enter Tryz.func50 rfl (n:=8) rfl ?_
 unfold f50_b at h
 refine sr (bxoC (cs:=#[sl b a c1]) t rfl rfl (fun S u=>(aC #[nS] u Tyz24 (fun U g=>(wt (sr (lN 1 ([sl b a c1]) g Tya24 Tys24 ?_)))))))
 obtain ⟨v,w,h⟩:=ob h
 refine cv ([.agg #[sl b a c1],vT]) Tyb78 ((f78_ok k) w (hG.mono kr) (RDProgram.intro p) (pt g)) ?_
 rintro _ V ⟨W,rfl,d⟩
 have j:=ca d g
 obtain ⟨X,x,h⟩:=ob h
 refine cp ([.bool v,iI 2]) Tyb58 ((f58_ok k) x (hG.mono d.sub) (pt j)) ?_ ?_
 ·rintro _ Y ⟨Z,rfl,rfl,m⟩
  have o:=ca m j
  refine wt (sr (lN 1 ([sl b a c1]) o Tya24 Tys24 ?_))
  obtain ⟨⟨c⟩,y,h⟩:=ob h
  refine cv ([.agg #[sl b a c1],vN]) Tyb88 ((f88_ok k) y (hG.mono (d.sub.trans m.sub)) (RDProgram.intro (mf p (d.sub.trans m.sub))) (pt o)) ?_
  rintro _ ab ⟨z,ac,rfl,A,B⟩
  have C:=ca A o
  obtain ⟨e,f,rfl,D⟩:=RDProgram.open B
  exact sI 0 (.agg #[sl e c f]) #[sl e c f] C Tys24 rfl rfl (fun ad q=>(wt (wp_ret (retP (retA1 rfl (resN (i:=0) (l:=[sl e c f]) q rfl Tya24 Tys24 rfl rfl rfl) ⟨(DProgram.mk c),z,[sl e c f],(oi h).symm,rfl,(q.sel []),(RDProgram.intro D)⟩)))))
 ·rintro _ ae ⟨G,I,rfl,rfl,J⟩
  have N:=ca J j
  exact thenP (panE (.inr ⟨_,rfl,G,I,(oi h).symm,rfl,N.sel []⟩))
theorem f50_ok (k:Nat):f50_spec (f50 k):=f50_b_ok k
theorem f1005554_b_ok (k:Nat):f1005554_spec (f1005554_b k):=by
 unfold f1005554_spec
 intro K wi g bs e f i gA bsA sA gB bsB sB r_ h hG r hsA m
 refine enter Tryz.func55 rfl (n:=17) rfl ?_
 unfold f1005554_b at h
 refine sr (lN 0 ([sl f e i]) m Tya24 Tys24 ?_)
 obtain ⟨ah,w,h⟩:=ob h
 refine cp ([.agg #[sl f e i]]) Tyb50 ((f50_ok k) w (hG.mono kr) (RDProgram.intro r) (pt m)) ?_ ?_
 ·rintro _ x ⟨⟨b⟩,ai,aj,rfl,rfl,j,y⟩
  have z:=ca j m
  obtain ⟨c,d,rfl,s⟩:=RDProgram.open y
  refine aC #[nS] z Tyz24 (fun ak A=>(sI 0 (.agg #[sl c b d]) #[sl c b d] A Tys24 rfl rfl (fun al o=>(wt (sr (lN 0 ([sl c b d]) o Tya24 Tys24 ?_))))))
  obtain ⟨am,B,h⟩:=ob h
  refine cp ([.agg #[sl c b d]]) Tyb44 ((f44_ok k) _ _ _ _ _ B (hG.mono j.sub) (RDProgram.intro s) (pt o)) ?_ ?_
  ·rintro _ C ⟨⟨an⟩,ao,D,ap,aq,ar,rfl,rfl,l,G,au⟩
   have t:=ca l o
   obtain ⟨av,aw,rfl,ax⟩:=RDProgram.open G
   refine wt (sr (fd 0 Tyf24_0 rfl (l1 0 (sl c b d) t Tya22 (mkf (us:=[]) (vs:=[pp gA 0]) rfl rfl ?_))))
   have u:=p2013 t
   obtain ⟨a,I,h⟩:=ob h
   refine cv ([sl c b d,.func (.func 57) #[] #[pp gA 0]]) Tyb56 ((f1005676_ok k) I (hG.mono (j.sub.trans l.sub)) (mf s l.sub) hsA (pt u)) ?_
   rintro _ ay ⟨az,rfl,p⟩
   have q:=ca p u
   refine m2 (iI a) (wt (sr (m1 (iI a) (c0 (decide (a ≥ 0)) ?_))))
   obtain ⟨aA,J,h⟩:=ob h
   refine cp ([.bool (decide (a ≥ 0)),iI 6]) Tyb58 ((f58_ok k) J (hG.mono ((j.sub.trans l.sub).trans p.sub)) (pt q)) ?_ ?_
   ·rintro _ aB ⟨N,rfl,rfl,v⟩
    have O:=ca v q
    exact wt (wp_region_lit (m1 (iI a) (sI 3 (iI a) #[iI a] O Tys3 rfl rfl (fun aE S=>(wpList_nil (retP (end0 rfl ⟨e,sA,a,N,f,i,(oi h).symm,rfl,(S.sel [2,0,3]),(mf r (((j.sub.trans l.sub).trans p.sub).trans v.sub)),hsA⟩)))))))
   ·rintro _ aF ⟨U,V,rfl,rfl,W⟩
    have X:=ca W q
    exact thenP (panE (.inr ⟨_,rfl,U,V,(oi h).symm,rfl,X.sel [2,0,3]⟩))
  ·rintro _ aG ⟨Y,Z,rfl,rfl,ab⟩
   have ac:=ca ab o
   exact thenP (panE (.inr ⟨_,rfl,Y,Z,(oi h).symm,rfl,ac.sel [1,2,3]⟩))
 ·rintro _ aH ⟨ad,ae,rfl,rfl,af⟩
  have ag:=ca af m
  exact thenP (panE (.inr ⟨_,rfl,ad,ae,(oi h).symm,rfl,ag.sel [0,1,2]⟩))
theorem f1005554_ok (k:Nat):f1005554_spec (f1005554 k):=f1005554_b_ok k
theorem f1004292_ok (k:Nat):f1004292_spec (f1004292 k):=by
 unfold f1004292_spec
 intro K w g bs a c d gA bsA sA gB bsB sB oz_0 ozA ozB or0 h hG e hsA j
 unfold f1004292 at h
 obtain ⟨r_,hr_⟩ : ∃ r_,r_=f1005554 k (DProgram.mk a) sA sB:=⟨_,rfl⟩
 rcases r_ with _ | r_
 ·rw [← hr_] at h; cases h
 refine (guard_ok (R:=fun w K_ H_=>∃ uz_0 uzA uzB uAz_0 ucz_0,r_=.ok ((DProgram.mk uz_0),uzA,uzB)∧H_=[.box bs g #[sl uAz_0 uz_0 ucz_0] 24,.box bsA gA #[.string uzA] 9,.box bsB gB #[iI uzB] 3]∧tF K_ uAz_0 ucz_0 uz_0∧uzA.size ≤ mB) (R':=fun c_ K_ H_=>r_=.error c_∧H_=[.box bs g #[sl c a d] 24,.box bsA gA #[.string sA] 9,.box bsB gB #[iI sB] 3]) Tyb55 j (fun f l hle=>((f1005554_ok k) hr_.symm hG e hsA l).mono ?_)).mono ?_
 ·rintro e_ w_ (⟨v_,rfl,uz_0,uzA,uzB,K_,uAz_0,ucz_0,b,i,T_,k0,k1⟩ | ⟨v_,rfl,c_,K_,b,i,T_⟩)
  ·exact .inl ⟨v_,rfl,K_,_,T_,uz_0,uzA,uzB,uAz_0,ucz_0,b,rfl,k0,k1⟩
  ·exact .inr ⟨v_,rfl,c_,K_,_,i,T_,b,rfl⟩
 ·rintro e_ w_ ⟨v_,rfl,⟨f,K_,H_,hle,rfl,T_,uz_0,uzA,uzB,uAz_0,ucz_0,rfl,rfl,k0,k1⟩ | ⟨c_,K_,H_,rfl,T_,rfl,rfl⟩⟩
  ·rw [← hr_] at h
   cases h
   exact ⟨_,rfl,K_,uAz_0,ucz_0,rfl,T_,k0,k1⟩
  ·rw [← hr_] at h
   cases h
   exact ⟨_,rfl,K_,_,_,rfl,T_,(mf e T_.sub),hsA⟩
theorem f30_b_ok (k:Nat):f30_spec (f30_b k):=by
 unfold f30_spec
 intro K wi o D e G I h hG p q r
 obtain ⟨r_,hr_,h⟩:=rz h
 obtain ⟨f⟩:=o
 obtain ⟨g,c1,rfl,s⟩:=RDProgram.open p
 refine enter Tryz.func30 rfl (n:=10) rfl ?_
 unfold f30_b at h
 refine sr (bxoC (cs:=#[sl g f c1]) r rfl rfl (fun b t=>(bxoC (cs:=#[.string e]) t rfl rfl (fun c u=>(aC #[iI 0] u Tyz3 (fun w x=>(m2 (iI 0) (wt (sr (mkf (us:=[]) (vs:=[pp (zz wi) 0,pp (zz b) 0,pp (zz c) 0]) rfl rfl ?_))))))))))
 have j:=p210 x
 obtain ⟨⟨⟨J⟩,N,a,d⟩,y,h⟩:=ob h
 refine cv ([.func (.func 55) #[] #[pp (zz wi) 0,pp (zz b) 0,pp (zz c) 0]]) Tyb42 ((f1004292_ok k) y (hG.mono kr) s q (pt j)) ?_
 rintro _ O ⟨z,S,U,rfl,A,V,W⟩
 have l:=ca A j
 refine m2 (iI d) (wt (sr (l1 2 (iI a) l Tya3 (m1 (iI d) (sI 2 (iI a) #[iI a] l Tys3 rfl rfl (fun X m=>(m2 (iI d) (wt (wp_ret ?_)))))))))
 have e_:=(Option.some.inj h).trans hr_
 obtain ⟨B,C⟩:=Prod.mk.inj e_
 subst B
 subst C
 exact retA2 rfl (res1 (i:=2) (v:=iI a) m rfl Tya3 rfl rfl) (resT rfl) ⟨z,rfl,(m.sel [])⟩
theorem f30_ok (k:Nat):f30_spec (f30 k):=f30_b_ok k
theorem f45_b_ok (k:Nat):f45_spec (f45_b k):=by
 unfold f45_spec
 intro K wi d g j l C h hG q D x
 obtain ⟨r_,hr_,h⟩:=rz h
 refine enter Tryz.func45 rfl (n:=20) rfl ?_
 unfold f45_b at h
 refine sr (m2 (iI 0) (wt (wp_seq (sr (m2 (iI 0) (wt (wp_block (wp_loopG (fun g_ a w=>∃ s e,∃ (c:Nat),g_=e.length∧a=fr 20 (updL s [(0,sl g d j),(1,.string l),(5,iI (c:Int))])∧SR K K wi w [] []∧d.drop c=e∧f45_l1 k l e c=some r_) d.length ?_ ?_))))))))
 ·exact ⟨_,d,0,rfl,fR,x,List.drop_zero,h⟩
 ·rintro _ _ G ⟨s,e,c,rfl,rfl,m,f,h⟩
  rcases e with _ | ⟨⟨t,I,J,N,O,S⟩,e⟩
  ·unfold f45_l1 at h
   refine wp_seq (sr (m1 (iI (c:Int)) (m1 (sl g d j) (lS d.length Tye22 (bcm (r:=false) rfl rfl (congrArg some (drop_nil_lt f)) (wt (cndF rfl (wp_exit (thenX (thenX (blkX (thenN (sr (m2 (iI (-1)) (wt (wp_ret ?_))))))))))))))))
   cases (oi h).trans hr_
   exact retA1 rfl (resT rfl) ⟨K,rfl,m⟩
  ·unfold f45_l1 at h
   refine wp_seq (sr (m1 (iI (c:Int)) (m1 (sl g d j) (lS d.length Tye22 (bcm (r:=true) rfl rfl (congrArg some (drop_cons_t f)) (wt (cndT rfl (wp_skip (thenN (wp_seq (wp_block (sr (m1 (sl g d j) (m1 (iI (c:Int)) ?_))))))))))))))
   obtain ⟨y,u,U,z,V,A,B⟩:=(q).row.at_ (drop_cons_at f)
   obtain ⟨W,X,Y,Z,rfl,ab,ac,ad⟩:=RDFunc.open B
   refine idxN (b:=y) (o:=u) (i:=c) Tye22 Tys38 rfl z rfl (drop_cons_lt f) (fd (u + c * 6 + 0) Tyf38_0 rfl (ld1 (v:=.string t) Tya9 rfl (m.cell (kr.cell (A 0 _ rfl))) (m1 (.string l) (bsc (r:=(seq t l)) rfl rfl rfl (wt (cd h (fun p h=>?_) (fun p h=>?_)))))))
   ·refine cT p (sr (m1 (iI (c:Int)) (m2 (iI (c:Int)) (wt (wp_ret (blkR (thenR (thenR (blkR (thenR ?_))))))))))
    cases (oi h).trans hr_
    exact retA1 rfl (resT rfl) ⟨K,rfl,m⟩
   ·exact cF p (wp_skip (blkN (thenN (wp_region_lit (m1 (iI (c:Int)) (bar (r:=((c + 1:Nat):Int)) rfl rfl (inc_ok (le_big ((q).len) (by decide) (drop_cons_lt f))) (m2 (iI ((c + 1:Nat):Int)) (wt (⟨_,Nat.lt_succ_self _,_,e,c + 1,rfl,fR,m,drop_cons_next f,h⟩)))))))))
theorem f45_ok (k:Nat):f45_spec (f45 k):=f45_b_ok k
theorem f31_b_ok (k:Nat):f31_spec (f31_b k):=by
 unfold f31_spec
 intro K wi e r d s h hG f g i
 obtain ⟨r_,hr_,h⟩:=rz h
 obtain ⟨a⟩:=e
 obtain ⟨b,c1,rfl,j⟩:=RDProgram.open f
 refine enter Tryz.func31 rfl (n:=9) rfl ?_
 unfold f31_b at h
 refine sr (bxoC (cs:=#[sl b a c1]) i rfl rfl (fun t c=>(m2 (iI 0) (wt (sr (fd 0 Tyf24_0 rfl (l1 0 (sl b a c1) c Tya22 (m1 (.string d) ?_))))))))
 obtain ⟨l,m,h⟩:=ob h
 refine cv ([sl b a c1,.string d]) Tyb45 ((f45_ok k) m (hG.mono kr) j g (pt c)) ?_
 rintro _ u ⟨o,rfl,p⟩
 have q:=ca p c
 refine m2 (iI l) (wt (wp_ret ?_))
 cases (oi h).trans hr_
 exact retA1 rfl (resT rfl) ⟨o,rfl,(q.sel [])⟩
theorem f31_ok (k:Nat):f31_spec (f31 k):=f31_b_ok k
theorem f66_b_ok (k:Nat):f66_spec (f66_b k):=by
 unfold f66_spec
 intro K wi b i h hG e
 obtain ⟨r_,hr_,h⟩:=rz h
 refine enter Tryz.func66 rfl (n:=9) rfl ?_
 unfold f66_b at h
 refine sr (m2 vN (wt (wp_cut (fun a w=>∃ f d,a=fr 9 (updL f [(2,.bool d)])∧SR K K wi w [] []∧f66_j1 k d=some r_) ?_ ?_)))
 ·refine wp_region_lit (m1 (.int .u8 b) (c0 (decide (b ≥ 97)) (m1 (.bool (decide (b ≥ 97))) (cd h (fun c h=>?_) (fun c h=>?_)))))
  ·exact n1 5 c (m1 (.int .u8 b) (n1 5 c (c0 (decide (b ≤ 122)) (m3 true (.bool (decide (b ≤ 122))) (cg c) (m2 (.bool (decide (b ≤ 122))) (wt (⟨_,(decide (b ≤ 122)),fR,e,h⟩)))))))
  ·exact o1 5 c (o1 5 c (m3 false vN (cg c) (m2 vN (wt (⟨_,false,fR,e,h⟩)))))
 ·rintro _ j ⟨f,d,rfl,g,h⟩
  unfold f66_j1 at h
  refine wp_ret ?_
  cases (oi h).trans hr_
  exact retA1 rfl (resT rfl) ⟨K,rfl,g⟩
theorem f66_ok (k:Nat):f66_spec (f66 k):=f66_b_ok k
theorem f67_b_ok (k:Nat):f67_spec (f67_b k):=by
 unfold f67_spec
 intro K wi b i h hG e
 obtain ⟨r_,hr_,h⟩:=rz h
 refine enter Tryz.func67 rfl (n:=9) rfl ?_
 unfold f67_b at h
 refine sr (m2 vN (wt (wp_cut (fun a w=>∃ f d,a=fr 9 (updL f [(2,.bool d)])∧SR K K wi w [] []∧f67_j1 k d=some r_) ?_ ?_)))
 ·refine wp_region_lit (m1 (.int .u8 b) (c0 (decide (b ≥ 48)) (m1 (.bool (decide (b ≥ 48))) (cd h (fun c h=>?_) (fun c h=>?_)))))
  ·exact n1 5 c (m1 (.int .u8 b) (n1 5 c (c0 (decide (b ≤ 57)) (m3 true (.bool (decide (b ≤ 57))) (cg c) (m2 (.bool (decide (b ≤ 57))) (wt (⟨_,(decide (b ≤ 57)),fR,e,h⟩)))))))
  ·exact o1 5 c (o1 5 c (m3 false vN (cg c) (m2 vN (wt (⟨_,false,fR,e,h⟩)))))
 ·rintro _ j ⟨f,d,rfl,g,h⟩
  unfold f67_j1 at h
  refine wp_ret ?_
  cases (oi h).trans hr_
  exact retA1 rfl (resT rfl) ⟨K,rfl,g⟩
theorem f67_ok (k:Nat):f67_spec (f67 k):=f67_b_ok k
theorem f97_b_ok (k:Nat):f97_spec (f97_b k):=by
 unfold f97_spec
 intro K wi f h hG a
 obtain ⟨r_,hr_,h⟩:=rz h
 refine enter Tryz.func97 rfl (n:=2) rfl ?_
 unfold f97_b at h
 refine sr (m2 nS (wt (sr (bsl (e:=9) (cells:=#[.string ⟨#[97,102,116,101,114]⟩,.string ⟨#[97,119,97,105,116]⟩,.string ⟨#[98,111,111,108]⟩,.string ⟨#[98,114,101,97,107]⟩,.string ⟨#[98,117,102,102,101,114]⟩,.string ⟨#[99,97,110,99,101,108]⟩,.string ⟨#[99,97,116,99,104]⟩,.string ⟨#[99,104,97,110]⟩,.string ⟨#[99,108,111,115,101]⟩,.string ⟨#[99,111,110,116,105,110,117,101]⟩,.string ⟨#[100,114,111,112]⟩,.string ⟨#[101,97,99,104]⟩,.string ⟨#[101,108,115,101]⟩,.string ⟨#[101,109,105,116]⟩,.string ⟨#[102,97,108,115,101]⟩,.string ⟨#[102,105,110,97,108,108,121]⟩,.string ⟨#[102,108,111,119]⟩,.string ⟨#[102,110]⟩,.string ⟨#[102,114,111,109]⟩,.string ⟨#[104,111,108,100]⟩,.string ⟨#[105,102]⟩,.string ⟨#[105,110,116]⟩,.string ⟨#[108,101,116]⟩,.string ⟨#[108,111,99,107]⟩,.string ⟨#[110,101,119]⟩,.string ⟨#[110,111,119]⟩,.string ⟨#[111,108,100]⟩,.string ⟨#[112,114,111,100,117,99,101]⟩,.string ⟨#[114,101,99,101,105,118,101]⟩,.string ⟨#[114,101,116,117,114,110]⟩,.string ⟨#[115,99,111,112,101]⟩,.string ⟨#[115,101,108,101,99,116]⟩,.string ⟨#[115,101,110,100]⟩,.string ⟨#[115,104,105,101,108,100]⟩,.string ⟨#[115,108,101,101,112]⟩,.string ⟨#[115,112,97,119,110]⟩,.string ⟨#[115,117,112,101,114,118,105,115,101,100]⟩,.string ⟨#[116,97,115,107]⟩,.string ⟨#[116,101,120,116]⟩,.string ⟨#[116,104,114,111,119]⟩,.string ⟨#[116,114,117,101]⟩,.string ⟨#[116,114,121]⟩,.string ⟨#[117,115,101]⟩,.string ⟨#[119,104,105,108,101]⟩,.string ⟨#[119,105,116,104,105,110]⟩,.string ⟨#[121,105,101,108,100]⟩]) (vs:=[(0,.string ⟨#[97,102,116,101,114]⟩),(1,.string ⟨#[97,119,97,105,116]⟩),(2,.string ⟨#[98,111,111,108]⟩),(3,.string ⟨#[98,114,101,97,107]⟩),(4,.string ⟨#[98,117,102,102,101,114]⟩),(5,.string ⟨#[99,97,110,99,101,108]⟩),(6,.string ⟨#[99,97,116,99,104]⟩),(7,.string ⟨#[99,104,97,110]⟩),(8,.string ⟨#[99,108,111,115,101]⟩),(9,.string ⟨#[99,111,110,116,105,110,117,101]⟩),(10,.string ⟨#[100,114,111,112]⟩),(11,.string ⟨#[101,97,99,104]⟩),(12,.string ⟨#[101,108,115,101]⟩),(13,.string ⟨#[101,109,105,116]⟩),(14,.string ⟨#[102,97,108,115,101]⟩),(15,.string ⟨#[102,105,110,97,108,108,121]⟩),(16,.string ⟨#[102,108,111,119]⟩),(17,.string ⟨#[102,110]⟩),(18,.string ⟨#[102,114,111,109]⟩),(19,.string ⟨#[104,111,108,100]⟩),(20,.string ⟨#[105,102]⟩),(21,.string ⟨#[105,110,116]⟩),(22,.string ⟨#[108,101,116]⟩),(23,.string ⟨#[108,111,99,107]⟩),(24,.string ⟨#[110,101,119]⟩),(25,.string ⟨#[110,111,119]⟩),(26,.string ⟨#[111,108,100]⟩),(27,.string ⟨#[112,114,111,100,117,99,101]⟩),(28,.string ⟨#[114,101,99,101,105,118,101]⟩),(29,.string ⟨#[114,101,116,117,114,110]⟩),(30,.string ⟨#[115,99,111,112,101]⟩),(31,.string ⟨#[115,101,108,101,99,116]⟩),(32,.string ⟨#[115,101,110,100]⟩),(33,.string ⟨#[115,104,105,101,108,100]⟩),(34,.string ⟨#[115,108,101,101,112]⟩),(35,.string ⟨#[115,112,97,119,110]⟩),(36,.string ⟨#[115,117,112,101,114,118,105,115,101,100]⟩),(37,.string ⟨#[116,97,115,107]⟩),(38,.string ⟨#[116,101,120,116]⟩),(39,.string ⟨#[116,104,114,111,119]⟩),(40,.string ⟨#[116,114,117,101]⟩),(41,.string ⟨#[116,114,121]⟩),(42,.string ⟨#[117,115,101]⟩),(43,.string ⟨#[119,104,105,108,101]⟩),(44,.string ⟨#[119,105,116,104,105,110]⟩),(45,.string ⟨#[121,105,101,108,100]⟩)]) a rfl (fun w=>by kernel_rfl) (fun g a=>(m2 (.slice (some ⟨(zz wi),0,none⟩) 46 46) (wt (wp_ret ?_))))))))
 obtain ⟨b,c,j,d⟩:=frzI (i:=0) (bytes:=16) (xs:=[⟨#[97,102,116,101,114]⟩,⟨#[97,119,97,105,116]⟩,⟨#[98,111,111,108]⟩,⟨#[98,114,101,97,107]⟩,⟨#[98,117,102,102,101,114]⟩,⟨#[99,97,110,99,101,108]⟩,⟨#[99,97,116,99,104]⟩,⟨#[99,104,97,110]⟩,⟨#[99,108,111,115,101]⟩,⟨#[99,111,110,116,105,110,117,101]⟩,⟨#[100,114,111,112]⟩,⟨#[101,97,99,104]⟩,⟨#[101,108,115,101]⟩,⟨#[101,109,105,116]⟩,⟨#[102,97,108,115,101]⟩,⟨#[102,105,110,97,108,108,121]⟩,⟨#[102,108,111,119]⟩,⟨#[102,110]⟩,⟨#[102,114,111,109]⟩,⟨#[104,111,108,100]⟩,⟨#[105,102]⟩,⟨#[105,110,116]⟩,⟨#[108,101,116]⟩,⟨#[108,111,99,107]⟩,⟨#[110,101,119]⟩,⟨#[110,111,119]⟩,⟨#[111,108,100]⟩,⟨#[112,114,111,100,117,99,101]⟩,⟨#[114,101,99,101,105,118,101]⟩,⟨#[114,101,116,117,114,110]⟩,⟨#[115,99,111,112,101]⟩,⟨#[115,101,108,101,99,116]⟩,⟨#[115,101,110,100]⟩,⟨#[115,104,105,101,108,100]⟩,⟨#[115,108,101,101,112]⟩,⟨#[115,112,97,119,110]⟩,⟨#[115,117,112,101,114,118,105,115,101,100]⟩,⟨#[116,97,115,107]⟩,⟨#[116,101,120,116]⟩,⟨#[116,104,114,111,119]⟩,⟨#[116,114,117,101]⟩,⟨#[116,114,121]⟩,⟨#[117,115,101]⟩,⟨#[119,104,105,108,101]⟩,⟨#[119,105,116,104,105,110]⟩,⟨#[121,105,101,108,100]⟩]) (R:=fun K=>RStr) a rfl (Nat.le_refl _) ⟨[.string ⟨#[97,102,116,101,114]⟩],_,rfl,rfl,⟨rfl,(by decide)⟩,⟨[.string ⟨#[97,119,97,105,116]⟩],_,rfl,rfl,⟨rfl,(by decide)⟩,⟨[.string ⟨#[98,111,111,108]⟩],_,rfl,rfl,⟨rfl,(by decide)⟩,⟨[.string ⟨#[98,114,101,97,107]⟩],_,rfl,rfl,⟨rfl,(by decide)⟩,⟨[.string ⟨#[98,117,102,102,101,114]⟩],_,rfl,rfl,⟨rfl,(by decide)⟩,⟨[.string ⟨#[99,97,110,99,101,108]⟩],_,rfl,rfl,⟨rfl,(by decide)⟩,⟨[.string ⟨#[99,97,116,99,104]⟩],_,rfl,rfl,⟨rfl,(by decide)⟩,⟨[.string ⟨#[99,104,97,110]⟩],_,rfl,rfl,⟨rfl,(by decide)⟩,⟨[.string ⟨#[99,108,111,115,101]⟩],_,rfl,rfl,⟨rfl,(by decide)⟩,⟨[.string ⟨#[99,111,110,116,105,110,117,101]⟩],_,rfl,rfl,⟨rfl,(by decide)⟩,⟨[.string ⟨#[100,114,111,112]⟩],_,rfl,rfl,⟨rfl,(by decide)⟩,⟨[.string ⟨#[101,97,99,104]⟩],_,rfl,rfl,⟨rfl,(by decide)⟩,⟨[.string ⟨#[101,108,115,101]⟩],_,rfl,rfl,⟨rfl,(by decide)⟩,⟨[.string ⟨#[101,109,105,116]⟩],_,rfl,rfl,⟨rfl,(by decide)⟩,⟨[.string ⟨#[102,97,108,115,101]⟩],_,rfl,rfl,⟨rfl,(by decide)⟩,⟨[.string ⟨#[102,105,110,97,108,108,121]⟩],_,rfl,rfl,⟨rfl,(by decide)⟩,⟨[.string ⟨#[102,108,111,119]⟩],_,rfl,rfl,⟨rfl,(by decide)⟩,⟨[.string ⟨#[102,110]⟩],_,rfl,rfl,⟨rfl,(by decide)⟩,⟨[.string ⟨#[102,114,111,109]⟩],_,rfl,rfl,⟨rfl,(by decide)⟩,⟨[.string ⟨#[104,111,108,100]⟩],_,rfl,rfl,⟨rfl,(by decide)⟩,⟨[.string ⟨#[105,102]⟩],_,rfl,rfl,⟨rfl,(by decide)⟩,⟨[.string ⟨#[105,110,116]⟩],_,rfl,rfl,⟨rfl,(by decide)⟩,⟨[.string ⟨#[108,101,116]⟩],_,rfl,rfl,⟨rfl,(by decide)⟩,⟨[.string ⟨#[108,111,99,107]⟩],_,rfl,rfl,⟨rfl,(by decide)⟩,⟨[.string ⟨#[110,101,119]⟩],_,rfl,rfl,⟨rfl,(by decide)⟩,⟨[.string ⟨#[110,111,119]⟩],_,rfl,rfl,⟨rfl,(by decide)⟩,⟨[.string ⟨#[111,108,100]⟩],_,rfl,rfl,⟨rfl,(by decide)⟩,⟨[.string ⟨#[112,114,111,100,117,99,101]⟩],_,rfl,rfl,⟨rfl,(by decide)⟩,⟨[.string ⟨#[114,101,99,101,105,118,101]⟩],_,rfl,rfl,⟨rfl,(by decide)⟩,⟨[.string ⟨#[114,101,116,117,114,110]⟩],_,rfl,rfl,⟨rfl,(by decide)⟩,⟨[.string ⟨#[115,99,111,112,101]⟩],_,rfl,rfl,⟨rfl,(by decide)⟩,⟨[.string ⟨#[115,101,108,101,99,116]⟩],_,rfl,rfl,⟨rfl,(by decide)⟩,⟨[.string ⟨#[115,101,110,100]⟩],_,rfl,rfl,⟨rfl,(by decide)⟩,⟨[.string ⟨#[115,104,105,101,108,100]⟩],_,rfl,rfl,⟨rfl,(by decide)⟩,⟨[.string ⟨#[115,108,101,101,112]⟩],_,rfl,rfl,⟨rfl,(by decide)⟩,⟨[.string ⟨#[115,112,97,119,110]⟩],_,rfl,rfl,⟨rfl,(by decide)⟩,⟨[.string ⟨#[115,117,112,101,114,118,105,115,101,100]⟩],_,rfl,rfl,⟨rfl,(by decide)⟩,⟨[.string ⟨#[116,97,115,107]⟩],_,rfl,rfl,⟨rfl,(by decide)⟩,⟨[.string ⟨#[116,101,120,116]⟩],_,rfl,rfl,⟨rfl,(by decide)⟩,⟨[.string ⟨#[116,104,114,111,119]⟩],_,rfl,rfl,⟨rfl,(by decide)⟩,⟨[.string ⟨#[116,114,117,101]⟩],_,rfl,rfl,⟨rfl,(by decide)⟩,⟨[.string ⟨#[116,114,121]⟩],_,rfl,rfl,⟨rfl,(by decide)⟩,⟨[.string ⟨#[117,115,101]⟩],_,rfl,rfl,⟨rfl,(by decide)⟩,⟨[.string ⟨#[119,104,105,108,101]⟩],_,rfl,rfl,⟨rfl,(by decide)⟩,⟨[.string ⟨#[119,105,116,104,105,110]⟩],_,rfl,rfl,⟨rfl,(by decide)⟩,⟨[.string ⟨#[121,105,101,108,100]⟩],_,rfl,rfl,⟨rfl,(by decide)⟩,(reps0 (R:=RStr) (size:=1))⟩⟩⟩⟩⟩⟩⟩⟩⟩⟩⟩⟩⟩⟩⟩⟩⟩⟩⟩⟩⟩⟩⟩⟩⟩⟩⟩⟩⟩⟩⟩⟩⟩⟩⟩⟩⟩⟩⟩⟩⟩⟩⟩⟩⟩⟩ rfl (Nat.le_of_ble_eq_true rfl) (fun hs=>(fun _ _ h=>h))
 cases (oi h).trans hr_
 exact retA1 rfl (resT rfl) ⟨b,(some ⟨(zz wi),0,none⟩),46,rfl,c,d⟩
theorem f97_ok (k:Nat):f97_spec (f97 k):=f97_b_ok k
theorem f68_b_ok (k:Nat):f68_spec (f68_b k):=by
 unfold f68_spec
 intro K wi l d h hG J s
 obtain ⟨r_,hr_,h⟩:=rz h
 refine enter Tryz.func68 rfl (n:=18) rfl ?_
 unfold f68_b at h
 refine sr (m2 vN (wt (sr ?_)))
 obtain ⟨d,y,h⟩:=ob h
 refine cv ([]) Tyb97 ((f97_ok k) y (hG.mono kr) (pt s)) ?_
 rintro _ N ⟨p,g,j,rfl,z,t⟩
 have A:=ca z s
 refine m2 (sl g d j) (wt (wp_seq (sr (m2 (iI 0) (wt (wp_block (wp_loopG (fun g_ a w=>∃ u e,∃ (c:Nat),g_=e.length∧a=fr 18 (updL u [(0,.string l),(3,sl g d j),(4,iI (c:Int))])∧SR K p wi w [] []∧d.drop c=e∧f68_l1 k l e c=some r_) d.length ?_ ?_)))))))
 ·exact ⟨_,d,0,rfl,fR,A,List.drop_zero,h⟩
 ·rintro _ _ O ⟨u,e,c,rfl,rfl,m,f,h⟩
  rcases e with _ | ⟨x,e⟩
  ·unfold f68_l1 at h
   refine wp_seq (sr (m1 (iI (c:Int)) (m1 (sl g d j) (lS d.length Tye46 (bcm (r:=false) rfl rfl (congrArg some (drop_nil_lt f)) (wt (cndF rfl (wp_exit (thenX (thenX (blkX (thenN (sr (m2 vN (wt (wp_ret ?_))))))))))))))))
   cases (oi h).trans hr_
   exact retA1 rfl (resT rfl) ⟨p,rfl,m⟩
  ·unfold f68_l1 at h
   refine wp_seq (sr (m1 (iI (c:Int)) (m1 (sl g d j) (lS d.length Tye46 (bcm (r:=true) rfl rfl (congrArg some (drop_cons_t f)) (wt (cndT rfl (wp_skip (thenN (wp_seq (wp_block (sr (m1 (sl g d j) (m1 (iI (c:Int)) ?_))))))))))))))
   obtain ⟨B,C,S,D,U,G,I⟩:=(t).row.at_ (drop_cons_at f)
   obtain ⟨rfl,V⟩:=I
   refine idxN (b:=B) (o:=C) (i:=c) Tye46 Tys9 rfl D rfl (drop_cons_lt f) (ld1 (v:=.string x) Tya9 rfl (m.cell (kr.cell (G 0 _ rfl))) (m1 (.string l) (bsc (r:=(seq x l)) rfl rfl rfl (wt (cd h (fun q h=>?_) (fun q h=>?_))))))
   ·refine cT q (sr (m2 vT (wt (wp_ret (blkR (thenR (thenR (blkR (thenR ?_)))))))))
    cases (oi h).trans hr_
    exact retA1 rfl (resT rfl) ⟨p,rfl,m⟩
   ·exact cF q (wp_skip (blkN (thenN (wp_region_lit (m1 (iI (c:Int)) (bar (r:=((c + 1:Nat):Int)) rfl rfl (inc_ok (le_big ((t).len) (by decide) (drop_cons_lt f))) (m2 (iI ((c + 1:Nat):Int)) (wt (⟨_,Nat.lt_succ_self _,_,e,c + 1,rfl,fR,m,drop_cons_next f,h⟩)))))))))
theorem f68_ok (k:Nat):f68_spec (f68 k):=f68_b_ok k
theorem f34_b_ok (k:Nat):f34_spec (f34_b k):=by
 unfold f34_spec
 intro K wi b af h hG A U
 obtain ⟨r_,hr_,h⟩:=rz h
 refine enter Tryz.func34 rfl (n:=39) rfl ?_
 unfold f34_b at h
 refine sr (m2 vN (wt (wp_seq (sr (m2 (iI 0) (wt (wp_block (wp_loopG (fun g_ a w=>∃ B j i,∃ (c:Nat),g_=i.length∧a=fr 39 (updL B [(0,.string b),(3,iI (c:Int))])∧KH.sub K j∧SR K j wi w [] []∧b.data.toList.drop c=i∧f34_l1 k b i c=some r_) b.data.toList.length ?_ ?_))))))))
 ·exact ⟨_,K,b.data.toList,0,rfl,fR,kr,U,List.drop_zero,h⟩
 ·rintro _ _ ag ⟨B,j,i,c,rfl,rfl,q,l,m,h⟩
  rcases i with _ | ⟨C,i⟩
  ·unfold f34_l1 at h
   refine wp_seq (sr (m1 (iI (c:Int)) (m1 (.string b) (lnT (a:=b) Tyt9 rfl (bcm (r:=false) rfl rfl (congrArg some (drop_nil_ls m)) (wt (cndF rfl (wp_exit (thenX (thenX (blkX (thenN (wp_cut (fun a w=>∃ D s x,a=fr 39 (updL D [(2,.bool x)])∧KH.sub j s∧SR K s wi w [] []∧f34_j1 k x=some r_) ?_ ?_)))))))))))))
   ·refine wp_region_lit (m1 (.string b) (lnT (a:=b) Tyt9 rfl (c0 (decide ((b.size:Int) ≥ 1)) (m1 (.bool (decide ((b.size:Int) ≥ 1))) (cd h (fun f h=>?_) (fun f h=>?_))))))
    ·refine n1 29 f (m1 (.string b) (n1 29 f (lnT (a:=b) Tyt9 rfl (n1 29 f (c0 (decide ((b.size:Int) ≤ 12)) (m3 true (.bool (decide ((b.size:Int) ≤ 12))) (cg f) (m1 (.bool (decide ((b.size:Int) ≤ 12))) (cd h (fun g h=>?_) (fun g h=>?_)))))))))
     ·refine n1 34 g (m1 (.string b) (n1 34 g ?_))
      obtain ⟨t,V,h⟩:=ob h
      refine cv ([.string b]) Tyb68 ((f68_ok k) V (hG.mono q) A (pt l)) ?_
      rintro _ ah ⟨W,rfl,G⟩
      have X:=ca G l
      exact n1 34 g (uN t (m3 true (.bool (!t)) (cg g) (m2 (.bool (!t)) (wt (⟨_,W,(!t),fR,G.sub,X,h⟩)))))
     ·exact o1 34 g (o1 34 g (o1 34 g (m3 false vN (cg g) (m2 vN (wt (⟨_,j,false,fR,kr,l,h⟩))))))
    ·exact o1 29 f (o1 29 f (o1 29 f (m3 false vN (cg f) (m1 vN (o0 34 (o0 34 (o0 34 (m3 false vN rfl (m2 vN (wt (⟨_,j,false,fR,kr,l,h⟩)))))))))))
   ·rintro _ ai ⟨D,s,x,rfl,aj,Y,h⟩
    unfold f34_j1 at h
    refine wp_ret ?_
    cases (oi h).trans hr_
    exact retA1 rfl (resT rfl) ⟨s,rfl,Y⟩
  ·unfold f34_l1 at h
   refine wp_seq (sr (m1 (iI (c:Int)) (m1 (.string b) (lnT (a:=b) Tyt9 rfl (bcm (r:=true) rfl rfl (congrArg some (drop_cons_ts m)) (wt (cndT rfl (wp_skip (thenN (wp_seq (wp_block (wp_cut (fun a w=>∃ I o y,a=fr 39 (updL I [(0,.string b),(3,iI (c:Int)),(25,.bool y)])∧KH.sub j o∧SR K o wi w [] []∧f34_j2 k c y (f34_l1 k b i)=some r_) ?_ ?_))))))))))))
   ·refine wp_region_lit (m1 (.string b) (m1 (iI (c:Int)) (ixN Tyt9 rfl rfl m ?_)))
    obtain ⟨J,Z,h⟩:=ob h
    refine cv ([.int .u8 (C.toNat:Int)]) Tyb66 ((f66_ok k) Z (hG.mono q) (pt l)) ?_
    rintro _ ak ⟨N,rfl,p⟩
    have u:=ca p l
    refine uN J (m1 (.bool (!J)) (cd h (fun d h=>?_) (fun d h=>?_)))
    ·refine n1 15 d (m1 (iI (c:Int)) (n1 15 d (c0 ((c:Int) == 0) (n1 15 d (m1 (.bool ((c:Int) == 0)) (cd h (fun e h=>?_) (fun e h=>?_)))))))
     ·exact o1 18 e (o1 18 e (o1 18 e (o1 18 e (o1 18 e (n1 15 d (m3 true vT (cg e) (m3 true vT (cg d) (wt (⟨_,N,true,fR,p.sub,u,h⟩)))))))))
     ·refine n1 18 e (m1 (.string b) (n1 18 e (m1 (iI (c:Int)) (n1 18 e (ixN Tyt9 rfl rfl m (n1 18 e ?_))))))
      obtain ⟨v,ab,h⟩:=ob h
      refine cv ([.int .u8 (C.toNat:Int)]) Tyb67 ((f67_ok k) ab (hG.mono (q.trans p.sub)) (pt u)) ?_
      rintro _ al ⟨ac,rfl,O⟩
      have ad:=ca O u
      exact n1 18 e (uN v (n1 15 d (m3 false (.bool (!v)) (cg e) (m3 true (.bool (!v)) (cg d) (wt (⟨_,ac,(!v),fR,(p.sub.trans O.sub),ad,h⟩))))))
    ·exact o1 15 d (o1 15 d (o1 15 d (ou 18 (ou 18 (ou 18 (ou 18 (ou 18 (o1 15 d (m3 false vN (cg d) (wt (⟨_,N,false,fR,p.sub,u,h⟩)))))))))))
   ·rintro _ am ⟨I,o,y,rfl,ae,S,h⟩
    unfold f34_j2 at h
    refine cd h (fun z h=>?_) (fun z h=>?_)
    ·refine cT z (sr (m2 vN (wt (wp_ret (blkR (thenR (thenR (blkR (thenR ?_)))))))))
     cases (oi h).trans hr_
     exact retA1 rfl (resT rfl) ⟨o,rfl,S⟩
    ·exact cF z (wp_skip (blkN (thenN (wp_region_lit (m1 (iI (c:Int)) (bar (r:=((c + 1:Nat):Int)) rfl rfl (inc_ok (le_bigs A m)) (m2 (iI ((c + 1:Nat):Int)) (wt (⟨_,Nat.lt_succ_self _,_,o,i,c + 1,rfl,fR,(q.trans ae),S,drop_cons_next m,h⟩)))))))))
theorem f34_ok (k:Nat):f34_spec (f34 k):=f34_b_ok k
theorem f59_b_ok (k:Nat):f59_spec (f59_b k):=by
 unfold f59_spec
 intro K wi g bs d e i b j l m h hG c
 obtain ⟨r_,hr_,h⟩:=rz h
 refine enter Tryz.func59 rfl (n:=9) rfl ?_
 unfold f59_b at h
 refine sr (m1 (.bool b) (uN b (wt (cd h (fun a h=>?_) (fun a h=>?_)))))
 ·refine cT a (wp_region_lit (m1 (pp g 0) (nilc rfl (fd 2 Tyf56_2 rfl (sI 0 vT #[iI d,iI e,vT] c Tys4 rfl rfl (fun o f=>(wpList_nil ?_)))))))
  cases (oi h).trans hr_
  exact end0 rfl ⟨K,rfl,f⟩
 ·refine cF a (wp_skip ?_)
  cases (oi h).trans hr_
  exact end0 rfl ⟨K,rfl,c⟩
theorem f59_ok (k:Nat):f59_spec (f59 k):=f59_b_ok k
theorem f60_b_ok (k:Nat):f60_spec (f60_b k):=by
 unfold f60_spec
 intro K wi g bs c e i d t u v h hG j
 obtain ⟨r_,hr_,h⟩:=rz h
 refine enter Tryz.func60 rfl (n:=32) rfl ?_
 unfold f60_b at h
 refine sr (m1 (pp g 0) (nilc rfl (fd 0 Tyf56_0 rfl (l1 0 (iI c) j Tya3 (bar (r:=(w64 (c + 1))) rfl rfl rfl (nilc rfl (fd 0 Tyf56_0 rfl (sI 0 (iI (w64 (c + 1))) #[iI (w64 (c + 1)),iI e,.bool i] j Tys3 rfl rfl (fun x j=>(wt (sr (m1 (pp g 0) (m1 (pp g 0) (nilc rfl (fd 1 Tyf56_1 rfl (l1 0 (iI e) j Tya3 (m1 (iI d) (mxb (a:=e) (b:=d) rfl rfl (nilc rfl (fd 1 Tyf56_1 rfl (sI 0 (iI (imax e d)) #[iI (w64 (c + 1)),iI (imax e d),.bool i] j Tys3 rfl rfl (fun y l=>(wt (wp_cut (fun a w=>∃ p m,a=fr 32 (updL p [(0,pp g 0),(28,.bool m)])∧SR K K wi w [.box bs g #[iI c,iI e,.bool i] 56] [.box bs g #[iI (w64 (c + 1)),iI (imax e d),.bool i] 56]∧f60_j1 k c e i d m=some r_) ?_ ?_))))))))))))))))))))))))
 ·refine wp_region_lit (m1 (pp g 0) (nilc rfl (fd 0 Tyf56_0 rfl (l1 0 (iI (w64 (c + 1))) l Tya3 (c0 (decide ((w64 (c + 1)) > 600)) (m1 (.bool (decide ((w64 (c + 1)) > 600))) (cd h (fun f h=>?_) (fun f h=>?_))))))))
  ·exact o1 25 f (o1 25 f (m3 true vT (cg f) (wt (⟨_,true,fR,l,h⟩))))
  ·exact n1 25 f (m1 (iI d) (n1 25 f (c0 (decide (d > 16)) (m3 false (.bool (decide (d > 16))) (cg f) (wt (⟨_,(decide (d > 16)),fR,l,h⟩))))))
 ·rintro _ z ⟨p,m,rfl,q,h⟩
  unfold f60_j1 at h
  refine cd h (fun o h=>?_) (fun o h=>?_)
  ·refine cT o (wp_region_lit (m1 (pp g 0) (nilc rfl (fd 2 Tyf56_2 rfl (sI 0 vT #[iI (w64 (c + 1)),iI (imax e d),vT] q Tys4 rfl rfl (fun A s=>(wpList_nil ?_)))))))
   cases (oi h).trans hr_
   exact end0 rfl ⟨K,rfl,s⟩
  ·refine cF o (wp_skip ?_)
   cases (oi h).trans hr_
   exact end0 rfl ⟨K,rfl,q⟩
theorem f60_ok (k:Nat):f60_spec (f60 k):=f60_b_ok k
theorem f109_b_ok (k:Nat):f109_spec (f109_b k):=by
 unfold f109_spec
 intro K wi b aI aJ h hG e
 obtain ⟨r_,hr_,h⟩:=rz h
 refine enter Tryz.func109 rfl (n:=69) rfl ?_
 unfold f109_b at h
 refine sr (aC #[iI 0,iI 0,iI 0,vN,vN,iI 0] e Tyz143 (fun aK e=>(m2 vN (wt (wp_seq (sr (m1 (iI b) (wt (wp_block (wp_cut (fun a w=>∃ ah m,a=fr 69 (updL ah [(2,pp (zz wi) 0),(4,iI b),(5,.bool m)])∧SR K K wi w [] [.box (zz wi) (zz wi) #[iI 0,iI 0,iI 0,vN,vN,iI 0] 143]∧f109_j1 k b m=some r_) ?_ ?_))))))))))
 ·refine sr (c0 (b == 1) (m2 (.bool (b == 1)) (wt (cd h (fun o h=>?_) (fun o h=>?_)))))
  ·exact cT o (wp_skip (thenN (⟨_,(b == 1),fR,e,h⟩)))
  ·refine cF o (sr (c0 (b == 2) (m2 (.bool (b == 2)) (wt (cd h (fun p h=>?_) (fun p h=>?_))))))
   ·exact cT p (wp_skip (thenN (⟨_,(b == 2),fR,e,h⟩)))
   ·exact cF p (wp_region_lit (c0 (b == 8) (m2 (.bool (b == 8)) (wt (⟨_,(b == 8),fR,e,h⟩)))))
 ·rintro _ aL ⟨ah,m,rfl,f,h⟩
  unfold f109_j1 at h
  refine cd h (fun q h=>?_) (fun q h=>?_)
  ·refine cT q (sr (bld (cells:=#[iI 1,iI 1,iI 1,vN,vN,iI 0]) (vs:=[(0,iI 1),(1,iI 1),(2,iI 1)]) rfl (fun w=>by kernel_rfl) (sI 0 (.agg #[iI 1,iI 1,iI 1,vN,vN,iI 0]) #[iI 1,iI 1,iI 1,vN,vN,iI 0] f Tys143 rfl rfl (fun aM ai=>(m2 vT (wt (wp_ret (blkR (thenR ?_)))))))))
   cases (oi h).trans hr_
   exact retA2 rfl (resN (i:=0) (l:=[iI 1,iI 1,iI 1,vN,vN,iI 0]) ai rfl Tya143 Tys143 rfl rfl rfl) (resT rfl) ⟨K,[iI 1,iI 1,iI 1,vN,vN,iI 0],rfl,(ai.sel []),.mk⟩
  ·refine cF q (sr (c0 (b == 7) (m2 (.bool (b == 7)) (wt (cd h (fun r h=>?_) (fun r h=>?_))))))
   ·refine cT r (sr (bld (cells:=#[iI 1,iI 1,iI 1,vN,vN,iI 2]) (vs:=[(0,iI 1),(1,iI 1),(2,iI 1),(5,iI 2)]) rfl (fun w=>by kernel_rfl) (sI 0 (.agg #[iI 1,iI 1,iI 1,vN,vN,iI 2]) #[iI 1,iI 1,iI 1,vN,vN,iI 2] f Tys143 rfl rfl (fun aN aj=>(m2 vT (wt (wp_ret (blkR (thenR ?_)))))))))
    cases (oi h).trans hr_
    exact retA2 rfl (resN (i:=0) (l:=[iI 1,iI 1,iI 1,vN,vN,iI 2]) aj rfl Tya143 Tys143 rfl rfl rfl) (resT rfl) ⟨K,[iI 1,iI 1,iI 1,vN,vN,iI 2],rfl,(aj.sel []),.mk⟩
   ·refine cF r (sr (c0 (b == 9) (m2 (.bool (b == 9)) (wt (cd h (fun s h=>?_) (fun s h=>?_))))))
    ·refine cT s (sr (bld (cells:=#[iI 0,iI 0,iI 1,vN,vN,iI 0]) (vs:=[(2,iI 1)]) rfl (fun w=>by kernel_rfl) (sI 0 (.agg #[iI 0,iI 0,iI 1,vN,vN,iI 0]) #[iI 0,iI 0,iI 1,vN,vN,iI 0] f Tys143 rfl rfl (fun aP ak=>(m2 vT (wt (wp_ret (blkR (thenR ?_)))))))))
     cases (oi h).trans hr_
     exact retA2 rfl (resN (i:=0) (l:=[iI 0,iI 0,iI 1,vN,vN,iI 0]) ak rfl Tya143 Tys143 rfl rfl rfl) (resT rfl) ⟨K,[iI 0,iI 0,iI 1,vN,vN,iI 0],rfl,(ak.sel []),.mk⟩
    ·refine cF s (wp_cut (fun a w=>∃ al t,a=fr 69 (updL al [(2,pp (zz wi) 0),(4,iI b),(16,.bool t)])∧SR K K wi w [] [.box (zz wi) (zz wi) #[iI 0,iI 0,iI 0,vN,vN,iI 0] 143]∧f109_j2 k b t=some r_) ?_ ?_)
     ·refine sr (c0 (b == 3) (m2 (.bool (b == 3)) (wt (cd h (fun u h=>?_) (fun u h=>?_)))))
      ·exact cT u (wp_skip (thenN (⟨_,(b == 3),fR,f,h⟩)))
      ·exact cF u (wp_region_lit (c0 (b == 4) (m2 (.bool (b == 4)) (wt (⟨_,(b == 4),fR,f,h⟩)))))
     ·rintro _ aQ ⟨al,t,rfl,c,h⟩
      unfold f109_j2 at h
      refine cd h (fun v h=>?_) (fun v h=>?_)
      ·refine cT v (sr (bld (cells:=#[iI 0,iI 600,iI 2,vT,vN,iI 0]) (vs:=[(1,iI 600),(2,iI 2),(3,vT)]) rfl (fun w=>by kernel_rfl) (sI 0 (.agg #[iI 0,iI 600,iI 2,vT,vN,iI 0]) #[iI 0,iI 600,iI 2,vT,vN,iI 0] c Tys143 rfl rfl (fun aR am=>(m2 vT (wt (wp_ret (blkR (thenR ?_)))))))))
       cases (oi h).trans hr_
       exact retA2 rfl (resN (i:=0) (l:=[iI 0,iI 600,iI 2,vT,vN,iI 0]) am rfl Tya143 Tys143 rfl rfl rfl) (resT rfl) ⟨K,[iI 0,iI 600,iI 2,vT,vN,iI 0],rfl,(am.sel []),.mk⟩
      ·refine cF v (sr (c0 (b == 5) (m2 (.bool (b == 5)) (wt (cd h (fun x h=>?_) (fun x h=>?_))))))
       ·refine cT x (sr (bld (cells:=#[iI 1,iI 1,iI 2,vN,vN,iI 0]) (vs:=[(0,iI 1),(1,iI 1),(2,iI 2)]) rfl (fun w=>by kernel_rfl) (sI 0 (.agg #[iI 1,iI 1,iI 2,vN,vN,iI 0]) #[iI 1,iI 1,iI 2,vN,vN,iI 0] c Tys143 rfl rfl (fun aS an=>(m2 vT (wt (wp_ret (blkR (thenR ?_)))))))))
        cases (oi h).trans hr_
        exact retA2 rfl (resN (i:=0) (l:=[iI 1,iI 1,iI 2,vN,vN,iI 0]) an rfl Tya143 Tys143 rfl rfl rfl) (resT rfl) ⟨K,[iI 1,iI 1,iI 2,vN,vN,iI 0],rfl,(an.sel []),.mk⟩
       ·refine cF x (sr (c0 (b == 6) (m2 (.bool (b == 6)) (wt (cd h (fun y h=>?_) (fun y h=>?_))))))
        ·refine cT y (sr (bld (cells:=#[iI 1,iI 1,iI 2,vN,vN,iI 1]) (vs:=[(0,iI 1),(1,iI 1),(2,iI 2),(5,iI 1)]) rfl (fun w=>by kernel_rfl) (sI 0 (.agg #[iI 1,iI 1,iI 2,vN,vN,iI 1]) #[iI 1,iI 1,iI 2,vN,vN,iI 1] c Tys143 rfl rfl (fun aT ao=>(m2 vT (wt (wp_ret (blkR (thenR ?_)))))))))
         cases (oi h).trans hr_
         exact retA2 rfl (resN (i:=0) (l:=[iI 1,iI 1,iI 2,vN,vN,iI 1]) ao rfl Tya143 Tys143 rfl rfl rfl) (resT rfl) ⟨K,[iI 1,iI 1,iI 2,vN,vN,iI 1],rfl,(ao.sel []),.mk⟩
        ·refine cF y (sr (c0 (b == 10) (m2 (.bool (b == 10)) (wt (cd h (fun z h=>?_) (fun z h=>?_))))))
         ·refine cT z (sr (bld (cells:=#[iI 2,iI 2,iI 0,vN,vN,iI 0]) (vs:=[(0,iI 2),(1,iI 2)]) rfl (fun w=>by kernel_rfl) (sI 0 (.agg #[iI 2,iI 2,iI 0,vN,vN,iI 0]) #[iI 2,iI 2,iI 0,vN,vN,iI 0] c Tys143 rfl rfl (fun aU ap=>(m2 vT (wt (wp_ret (blkR (thenR ?_)))))))))
          cases (oi h).trans hr_
          exact retA2 rfl (resN (i:=0) (l:=[iI 2,iI 2,iI 0,vN,vN,iI 0]) ap rfl Tya143 Tys143 rfl rfl rfl) (resT rfl) ⟨K,[iI 2,iI 2,iI 0,vN,vN,iI 0],rfl,(ap.sel []),.mk⟩
         ·refine cF z (wp_cut (fun a w=>∃ aq A,a=fr 69 (updL aq [(2,pp (zz wi) 0),(4,iI b),(29,.bool A)])∧SR K K wi w [] [.box (zz wi) (zz wi) #[iI 0,iI 0,iI 0,vN,vN,iI 0] 143]∧f109_j3 k b A=some r_) ?_ ?_)
          ·refine sr (c0 (b == 11) (m2 (.bool (b == 11)) (wt (cd h (fun B h=>?_) (fun B h=>?_)))))
           ·exact cT B (wp_skip (thenN (⟨_,(b == 11),fR,c,h⟩)))
           ·refine cF B (sr (c0 (b == 12) (m2 (.bool (b == 12)) (wt (cd h (fun C h=>?_) (fun C h=>?_))))))
            ·exact cT C (wp_skip (thenN (⟨_,(b == 12),fR,c,h⟩)))
            ·refine cF C (sr (c0 (b == 14) (m2 (.bool (b == 14)) (wt (cd h (fun D h=>?_) (fun D h=>?_))))))
             ·exact cT D (wp_skip (thenN (⟨_,(b == 14),fR,c,h⟩)))
             ·refine cF D (sr (c0 (b == 15) (m2 (.bool (b == 15)) (wt (cd h (fun G h=>?_) (fun G h=>?_))))))
              ·exact cT G (wp_skip (thenN (⟨_,(b == 15),fR,c,h⟩)))
              ·refine cF G (sr (c0 (b == 16) (m2 (.bool (b == 16)) (wt (cd h (fun I h=>?_) (fun I h=>?_))))))
               ·exact cT I (wp_skip (thenN (⟨_,(b == 16),fR,c,h⟩)))
               ·exact cF I (wp_region_lit (c0 (b == 29) (m2 (.bool (b == 29)) (wt (⟨_,(b == 29),fR,c,h⟩)))))
          ·rintro _ aV ⟨aq,A,rfl,g,h⟩
           unfold f109_j3 at h
           refine cd h (fun J h=>?_) (fun J h=>?_)
           ·refine cT J (sr (bld (cells:=#[iI 1,iI 1,iI 0,vN,vN,iI 0]) (vs:=[(0,iI 1),(1,iI 1)]) rfl (fun w=>by kernel_rfl) (sI 0 (.agg #[iI 1,iI 1,iI 0,vN,vN,iI 0]) #[iI 1,iI 1,iI 0,vN,vN,iI 0] g Tys143 rfl rfl (fun aW ar=>(m2 vT (wt (wp_ret (blkR (thenR ?_)))))))))
            cases (oi h).trans hr_
            exact retA2 rfl (resN (i:=0) (l:=[iI 1,iI 1,iI 0,vN,vN,iI 0]) ar rfl Tya143 Tys143 rfl rfl rfl) (resT rfl) ⟨K,[iI 1,iI 1,iI 0,vN,vN,iI 0],rfl,(ar.sel []),.mk⟩
           ·refine cF J (wp_cut (fun a w=>∃ au N,a=fr 69 (updL au [(2,pp (zz wi) 0),(4,iI b),(37,.bool N)])∧SR K K wi w [] [.box (zz wi) (zz wi) #[iI 0,iI 0,iI 0,vN,vN,iI 0] 143]∧f109_j4 k b N=some r_) ?_ ?_)
            ·refine sr (c0 (b == 13) (m2 (.bool (b == 13)) (wt (cd h (fun O h=>?_) (fun O h=>?_)))))
             ·exact cT O (wp_skip (thenN (⟨_,(b == 13),fR,g,h⟩)))
             ·refine cF O (sr (c0 (b == 18) (m2 (.bool (b == 18)) (wt (cd h (fun S h=>?_) (fun S h=>?_))))))
              ·exact cT S (wp_skip (thenN (⟨_,(b == 18),fR,g,h⟩)))
              ·refine cF S (sr (c0 (b == 19) (m2 (.bool (b == 19)) (wt (cd h (fun U h=>?_) (fun U h=>?_))))))
               ·exact cT U (wp_skip (thenN (⟨_,(b == 19),fR,g,h⟩)))
               ·exact cF U (wp_region_lit (c0 (b == 27) (m2 (.bool (b == 27)) (wt (⟨_,(b == 27),fR,g,h⟩)))))
            ·rintro _ aX ⟨au,N,rfl,j,h⟩
             unfold f109_j4 at h
             refine cd h (fun V h=>?_) (fun V h=>?_)
             ·refine cT V (sr (bld (cells:=#[iI 0,iI 0,iI 0,vN,vN,iI 0]) (vs:=[]) rfl (fun w=>by kernel_rfl) (sI 0 (.agg #[iI 0,iI 0,iI 0,vN,vN,iI 0]) #[iI 0,iI 0,iI 0,vN,vN,iI 0] j Tys143 rfl rfl (fun aY av=>(m2 vT (wt (wp_ret (blkR (thenR ?_)))))))))
              cases (oi h).trans hr_
              exact retA2 rfl (resN (i:=0) (l:=[iI 0,iI 0,iI 0,vN,vN,iI 0]) av rfl Tya143 Tys143 rfl rfl rfl) (resT rfl) ⟨K,[iI 0,iI 0,iI 0,vN,vN,iI 0],rfl,(av.sel []),.mk⟩
             ·refine cF V (sr (c0 (b == 17) (m2 (.bool (b == 17)) (wt (cd h (fun W h=>?_) (fun W h=>?_))))))
              ·refine cT W (sr (bld (cells:=#[iI 0,iI 1,iI 0,vN,vN,iI 0]) (vs:=[(1,iI 1)]) rfl (fun w=>by kernel_rfl) (sI 0 (.agg #[iI 0,iI 1,iI 0,vN,vN,iI 0]) #[iI 0,iI 1,iI 0,vN,vN,iI 0] j Tys143 rfl rfl (fun aZ aw=>(m2 vT (wt (wp_ret (blkR (thenR ?_)))))))))
               cases (oi h).trans hr_
               exact retA2 rfl (resN (i:=0) (l:=[iI 0,iI 1,iI 0,vN,vN,iI 0]) aw rfl Tya143 Tys143 rfl rfl rfl) (resT rfl) ⟨K,[iI 0,iI 1,iI 0,vN,vN,iI 0],rfl,(aw.sel []),.mk⟩
              ·refine cF W (sr (c0 (b == 20) (m2 (.bool (b == 20)) (wt (cd h (fun X h=>?_) (fun X h=>?_))))))
               ·refine cT X (sr (bld (cells:=#[iI 1,iI 1,iI 0,vN,vT,iI 1]) (vs:=[(0,iI 1),(1,iI 1),(4,vT),(5,iI 1)]) rfl (fun w=>by kernel_rfl) (sI 0 (.agg #[iI 1,iI 1,iI 0,vN,vT,iI 1]) #[iI 1,iI 1,iI 0,vN,vT,iI 1] j Tys143 rfl rfl (fun a1 ax=>(m2 vT (wt (wp_ret (blkR (thenR ?_)))))))))
                cases (oi h).trans hr_
                exact retA2 rfl (resN (i:=0) (l:=[iI 1,iI 1,iI 0,vN,vT,iI 1]) ax rfl Tya143 Tys143 rfl rfl rfl) (resT rfl) ⟨K,[iI 1,iI 1,iI 0,vN,vT,iI 1],rfl,(ax.sel []),.mk⟩
               ·refine cF X (wp_cut (fun a w=>∃ ay Y,a=fr 69 (updL ay [(2,pp (zz wi) 0),(4,iI b),(49,.bool Y)])∧SR K K wi w [] [.box (zz wi) (zz wi) #[iI 0,iI 0,iI 0,vN,vN,iI 0] 143]∧f109_j5 k b Y=some r_) ?_ ?_)
                ·refine sr (c0 (b == 21) (m2 (.bool (b == 21)) (wt (cd h (fun Z h=>?_) (fun Z h=>?_)))))
                 ·exact cT Z (wp_skip (thenN (⟨_,(b == 21),fR,j,h⟩)))
                 ·exact cF Z (wp_region_lit (c0 (b == 26) (m2 (.bool (b == 26)) (wt (⟨_,(b == 26),fR,j,h⟩)))))
                ·rintro _ a2 ⟨ay,Y,rfl,d,h⟩
                 unfold f109_j5 at h
                 refine cd h (fun ab h=>?_) (fun ab h=>?_)
                 ·refine cT ab (sr (bld (cells:=#[iI 1,iI 1,iI 0,vN,vT,iI 0]) (vs:=[(0,iI 1),(1,iI 1),(4,vT)]) rfl (fun w=>by kernel_rfl) (sI 0 (.agg #[iI 1,iI 1,iI 0,vN,vT,iI 0]) #[iI 1,iI 1,iI 0,vN,vT,iI 0] d Tys143 rfl rfl (fun a3 az=>(m2 vT (wt (wp_ret (blkR (thenR ?_)))))))))
                  cases (oi h).trans hr_
                  exact retA2 rfl (resN (i:=0) (l:=[iI 1,iI 1,iI 0,vN,vT,iI 0]) az rfl Tya143 Tys143 rfl rfl rfl) (resT rfl) ⟨K,[iI 1,iI 1,iI 0,vN,vT,iI 0],rfl,(az.sel []),.mk⟩
                 ·refine cF ab (sr (c0 (b == 22) (m2 (.bool (b == 22)) (wt (cd h (fun ac h=>?_) (fun ac h=>?_))))))
                  ·refine cT ac (sr (bld (cells:=#[iI 0,iI 1,iI 0,vN,vT,iI 1]) (vs:=[(1,iI 1),(4,vT),(5,iI 1)]) rfl (fun w=>by kernel_rfl) (sI 0 (.agg #[iI 0,iI 1,iI 0,vN,vT,iI 1]) #[iI 0,iI 1,iI 0,vN,vT,iI 1] d Tys143 rfl rfl (fun a4 aA=>(m2 vT (wt (wp_ret (blkR (thenR ?_)))))))))
                   cases (oi h).trans hr_
                   exact retA2 rfl (resN (i:=0) (l:=[iI 0,iI 1,iI 0,vN,vT,iI 1]) aA rfl Tya143 Tys143 rfl rfl rfl) (resT rfl) ⟨K,[iI 0,iI 1,iI 0,vN,vT,iI 1],rfl,(aA.sel []),.mk⟩
                  ·refine cF ac (sr (c0 (b == 23) (m2 (.bool (b == 23)) (wt (cd h (fun ad h=>?_) (fun ad h=>?_))))))
                   ·refine cT ad (sr (bld (cells:=#[iI 0,iI 0,iI 0,vN,vT,iI 0]) (vs:=[(4,vT)]) rfl (fun w=>by kernel_rfl) (sI 0 (.agg #[iI 0,iI 0,iI 0,vN,vT,iI 0]) #[iI 0,iI 0,iI 0,vN,vT,iI 0] d Tys143 rfl rfl (fun a5 aB=>(m2 vT (wt (wp_ret (blkR (thenR ?_)))))))))
                    cases (oi h).trans hr_
                    exact retA2 rfl (resN (i:=0) (l:=[iI 0,iI 0,iI 0,vN,vT,iI 0]) aB rfl Tya143 Tys143 rfl rfl rfl) (resT rfl) ⟨K,[iI 0,iI 0,iI 0,vN,vT,iI 0],rfl,(aB.sel []),.mk⟩
                   ·refine cF ad (sr (c0 (b == 24) (m2 (.bool (b == 24)) (wt (cd h (fun ae h=>?_) (fun ae h=>?_))))))
                    ·refine cT ae (sr (bld (cells:=#[iI 0,iI 0,iI 2,vN,vT,iI 3]) (vs:=[(2,iI 2),(4,vT),(5,iI 3)]) rfl (fun w=>by kernel_rfl) (sI 0 (.agg #[iI 0,iI 0,iI 2,vN,vT,iI 3]) #[iI 0,iI 0,iI 2,vN,vT,iI 3] d Tys143 rfl rfl (fun a6 aE=>(m2 vT (wt (wp_ret (blkR (thenR ?_)))))))))
                     cases (oi h).trans hr_
                     exact retA2 rfl (resN (i:=0) (l:=[iI 0,iI 0,iI 2,vN,vT,iI 3]) aE rfl Tya143 Tys143 rfl rfl rfl) (resT rfl) ⟨K,[iI 0,iI 0,iI 2,vN,vT,iI 3],rfl,(aE.sel []),.mk⟩
                    ·refine cF ae (sr (c0 (b == 25) (m2 (.bool (b == 25)) (wt (cd h (fun af h=>?_) (fun af h=>?_))))))
                     ·refine cT af (sr (bld (cells:=#[iI 1,iI 1,iI 1,vN,vT,iI 0]) (vs:=[(0,iI 1),(1,iI 1),(2,iI 1),(4,vT)]) rfl (fun w=>by kernel_rfl) (sI 0 (.agg #[iI 1,iI 1,iI 1,vN,vT,iI 0]) #[iI 1,iI 1,iI 1,vN,vT,iI 0] d Tys143 rfl rfl (fun a7 aF=>(m2 vT (wt (wp_ret (blkR (thenR ?_)))))))))
                      cases (oi h).trans hr_
                      exact retA2 rfl (resN (i:=0) (l:=[iI 1,iI 1,iI 1,vN,vT,iI 0]) aF rfl Tya143 Tys143 rfl rfl rfl) (resT rfl) ⟨K,[iI 1,iI 1,iI 1,vN,vT,iI 0],rfl,(aF.sel []),.mk⟩
                     ·refine cF af (sr (c0 (b == 28) (m2 (.bool (b == 28)) (wt (cd h (fun ag h=>?_) (fun ag h=>?_))))))
                      ·refine cT ag (sr (bld (cells:=#[iI 0,iI 600,iI 1,vT,vT,iI 66]) (vs:=[(1,iI 600),(2,iI 1),(3,vT),(4,vT),(5,iI 66)]) rfl (fun w=>by kernel_rfl) (sI 0 (.agg #[iI 0,iI 600,iI 1,vT,vT,iI 66]) #[iI 0,iI 600,iI 1,vT,vT,iI 66] d Tys143 rfl rfl (fun a8 aG=>(m2 vT (wt (wp_ret (blkR (thenR ?_)))))))))
                       cases (oi h).trans hr_
                       exact retA2 rfl (resN (i:=0) (l:=[iI 0,iI 600,iI 1,vT,vT,iI 66]) aG rfl Tya143 Tys143 rfl rfl rfl) (resT rfl) ⟨K,[iI 0,iI 600,iI 1,vT,vT,iI 66],rfl,(aG.sel []),.mk⟩
                      ·refine cF ag (wp_skip (blkN (thenN (sr (bld (cells:=#[iI 0,iI 0,iI 0,vN,vN,iI 0]) (vs:=[]) rfl (fun w=>by kernel_rfl) (sI 0 (.agg #[iI 0,iI 0,iI 0,vN,vN,iI 0]) #[iI 0,iI 0,iI 0,vN,vN,iI 0] d Tys143 rfl rfl (fun a9 aH=>(m2 vN (wt (wp_ret ?_))))))))))
                       cases (oi h).trans hr_
                       exact retA2 rfl (resN (i:=0) (l:=[iI 0,iI 0,iI 0,vN,vN,iI 0]) aH rfl Tya143 Tys143 rfl rfl rfl) (resT rfl) ⟨K,[iI 0,iI 0,iI 0,vN,vN,iI 0],rfl,(aH.sel []),.mk⟩
theorem f109_ok (k:Nat):f109_spec (f109 k):=f109_b_ok k
theorem f132_b_ok (k:Nat):f132_spec (f132_b k):=by
 unfold f132_spec
 intro K wi b t h hG q s
 obtain ⟨r_,hr_,h⟩:=rz h
 refine enter Tryz.func132 rfl (n:=23) rfl ?_
 unfold f132_b at h
 refine sr (m2 vN (wt (wp_seq (sr (m2 (iI 0) (wt (wp_block (wp_loopG (fun g_ a w=>∃ m e,∃ (c:Nat),g_=e.length∧a=fr 23 (updL m [(0,.string b),(3,iI (c:Int))])∧SR K K wi w [] []∧b.data.toList.drop c=e∧f132_l1 k b e c=some r_) b.data.toList.length ?_ ?_))))))))
 ·exact ⟨_,b.data.toList,0,rfl,fR,s,List.drop_zero,h⟩
 ·rintro _ _ u ⟨m,e,c,rfl,rfl,i,f,h⟩
  rcases e with _ | ⟨g,e⟩
  ·unfold f132_l1 at h
   refine wp_seq (sr (m1 (iI (c:Int)) (m1 (.string b) (lnT (a:=b) Tyt9 rfl (bcm (r:=false) rfl rfl (congrArg some (drop_nil_ls f)) (wt (cndF rfl (wp_exit (thenX (thenX (blkX (thenN (sr (m1 (.string b) (lnT (a:=b) Tyt9 rfl (c0 (decide ((b.size:Int) ≤ 60)) (m2 (.bool (decide ((b.size:Int) ≤ 60))) (wt (wp_ret ?_)))))))))))))))))))
   cases (oi h).trans hr_
   exact retA1 rfl (resT rfl) ⟨K,rfl,i⟩
  ·unfold f132_l1 at h
   refine wp_seq (sr (m1 (iI (c:Int)) (m1 (.string b) (lnT (a:=b) Tyt9 rfl (bcm (r:=true) rfl rfl (congrArg some (drop_cons_ts f)) (wt (cndT rfl (wp_skip (thenN (wp_seq (wp_block (wp_cut (fun a w=>∃ o j,a=fr 23 (updL o [(0,.string b),(3,iI (c:Int)),(19,.bool j)])∧SR K K wi w [] []∧f132_j1 k c j (f132_l1 k b e)=some r_) ?_ ?_))))))))))))
   ·refine wp_region_lit (m1 (.string b) (m1 (iI (c:Int)) (ixN Tyt9 rfl rfl f (c0 (decide ((g.toNat:Int) < 32)) (m1 (.bool (decide ((g.toNat:Int) < 32))) (cd h (fun d h=>?_) (fun d h=>?_)))))))
    ·exact o1 14 d (o1 14 d (o1 14 d (o1 14 d (m3 true vT (cg d) (wt (⟨_,true,fR,i,h⟩))))))
    ·exact n1 14 d (m1 (.string b) (n1 14 d (m1 (iI (c:Int)) (n1 14 d (ixN Tyt9 rfl rfl f (n1 14 d (c0 (decide ((g.toNat:Int) > 126)) (m3 false (.bool (decide ((g.toNat:Int) > 126))) (cg d) (wt (⟨_,(decide ((g.toNat:Int) > 126)),fR,i,h⟩))))))))))
   ·rintro _ v ⟨o,j,rfl,p,h⟩
    unfold f132_j1 at h
    refine cd h (fun l h=>?_) (fun l h=>?_)
    ·refine cT l (sr (m2 vN (wt (wp_ret (blkR (thenR (thenR (blkR (thenR ?_)))))))))
     cases (oi h).trans hr_
     exact retA1 rfl (resT rfl) ⟨K,rfl,p⟩
    ·exact cF l (wp_skip (blkN (thenN (wp_region_lit (m1 (iI (c:Int)) (bar (r:=((c + 1:Nat):Int)) rfl rfl (inc_ok (le_bigs q f)) (m2 (iI ((c + 1:Nat):Int)) (wt (⟨_,Nat.lt_succ_self _,_,e,c + 1,rfl,fR,p,drop_cons_next f,h⟩)))))))))
theorem f132_ok (k:Nat):f132_spec (f132 k):=f132_b_ok k
theorem f110_b_ok (k:Nat) (F:Fam110) (IH110:f110_spec F.f110):f110_spec (f110_b k F):=by
 unfold f110_spec
 intro K wi g bs Z ab X bv dQ s t dR dS dT h hG bw bx
 obtain ⟨r_,hr_,h⟩:=rz h
 obtain ⟨d,e,f,x,p⟩:=bv
 obtain ⟨y,z,rfl,aK,aL⟩:=RDExpr.open bw
 refine enter Tryz.func110 rfl (n:=161) rfl ?_
 unfold f110_b at h
 refine sr (bxoC (cs:=(vE d e f x y p z).toArray) bx rfl rfl (fun bz ao=>(wt (wp_seq (sr (m1 (pp g 0) (nilc rfl (fd 2 Tyf56_2 rfl (l1 1 (.bool X) ao Tya4 (wt (cd h (fun ap h=>?_) (fun ap h=>?_))))))))))))
 ·refine cT ap (wp_ret (thenR ?_))
  cases (oi h).trans hr_
  exact ret0 rfl ⟨K,rfl,(ao.sel [1])⟩
 ·refine cF ap (wp_skip (thenN (sr (m1 (pp g 0) (m1 (iI s) ?_)))))
  have aM:=p10 ao
  obtain ⟨⟨dU,dV,dW⟩,bA,h⟩:=ob h
  refine cv ([pp g 0,iI s]) Tyb60 ((f60_ok k) bA (hG.mono kr) (pt aM)) ?_
  rintro _ dX ⟨bB,rfl,l⟩
  have af:=ca l aM
  refine wt (wp_cut (fun a w=>∃ aN ag ah ai aj,a=fr 161 (updL aN [(0,pp g 0),(2,iI s),(3,.bool t),(5,pp (zz wi) 0)])∧KH.sub bB ag∧SR K ag wi w [.box bs g #[iI Z,iI ab,.bool X] 56] [.box bs g #[iI ah,iI ai,.bool aj] 56,.box (zz wi) (zz wi) (vE d e f x y p z).toArray 107]∧f110_j1 k F d e f p s t ah ai aj=some r_) ?_ ?_)
  ·refine wp_region_lit (m1 (pp g 0) (m1 (.bool t) (m1 (.bool t) (cd h (fun A h=>?_) (fun A h=>?_)))))
   ·refine o1 19 A (o1 19 A (o1 19 A (m3 true vT (cg A) ?_)))
    obtain ⟨⟨bC,bD,bE⟩,bF,h⟩:=ob h
    refine cv ([pp g 0,vT]) Tyb59 ((f59_ok k) bF (hG.mono l.sub) (pt af)) ?_
    rintro _ dY ⟨bG,rfl,aP⟩
    have bH:=ca aP af
    exact wt (⟨_,bG,bC,bD,bE,fR,aP.sub,bH,h⟩)
   ·refine n1 19 A (fd 3 Tyf107_3 rfl (n1 19 A (l1 1 (iI x) af Tya3 (n1 19 A (c0 (x == 0) (m3 false (.bool (x == 0)) (cg A) ?_))))))
    obtain ⟨⟨bI,bJ,bK⟩,bL,h⟩:=ob h
    refine cv ([pp g 0,.bool (x == 0)]) Tyb59 ((f59_ok k) bL (hG.mono l.sub) (pt af)) ?_
    rintro _ dZ ⟨bM,rfl,aQ⟩
    have bN:=ca aQ af
    exact wt (⟨_,bM,bI,bJ,bK,fR,aQ.sub,bN,h⟩)
  ·rintro _ d0 ⟨aN,ag,ah,ai,aj,rfl,m,c,h⟩
   unfold f110_j1 at h
   refine sr (m2 (iI 0) (wt (wp_cut (fun a w=>∃ aR aq ar au av ac,a=fr 161 (updL aR [(0,pp g 0),(2,iI s),(3,.bool t),(5,pp (zz wi) 0),(8,iI ac)])∧KH.sub ag aq∧SR K aq wi w [.box bs g #[iI Z,iI ab,.bool X] 56] [.box bs g #[iI ar,iI au,.bool av] 56,.box (zz wi) (zz wi) (vE d e f x y p z).toArray 107]∧f110_j2 k F p s t ar au av ac=some r_) ?_ ?_)))
   ·refine wp_block (sr (fd 0 Tyf107_0 rfl (l1 1 (iI d) c Tya3 (c0 (d == 1) (m2 (.bool (d == 1)) (wt (cd h (fun aw h=>?_) (fun aw h=>?_))))))))
    ·refine cT aw (wp_region_lit (m1 (pp g 0) (fd 1 Tyf107_1 rfl (l1 1 (iI e) c Tya3 (c0 (decide (e ≥ 0)) (m1 (.bool (decide (e ≥ 0))) (cd h (fun B h=>?_) (fun B h=>?_))))))))
     ·refine n1 53 B (fd 1 Tyf107_1 rfl (n1 53 B (l1 1 (iI e) c Tya3 (n1 53 B (c0 (decide (e ≤ 1000000000000)) (m3 true (.bool (decide (e ≤ 1000000000000))) (cg B) (m1 (.bool (decide (e ≤ 1000000000000))) (cd h (fun C h=>?_) (fun C h=>?_)))))))))
      ·refine n1 58 C (fd 2 Tyf107_2 rfl (n1 58 C (l1 1 (.string f) c Tya9 (n1 58 C (bsc (r:=(seq f ⟨#[]⟩)) rfl rfl rfl (m3 true (.bool (seq f ⟨#[]⟩)) (cg C) ?_))))))
       obtain ⟨⟨bO,bP,bQ⟩,bR,h⟩:=ob h
       refine cv ([pp g 0,.bool (seq f ⟨#[]⟩)]) Tyb59 ((f59_ok k) bR (hG.mono (l.sub.trans m)) (pt c)) ?_
       rintro _ d1 ⟨bS,rfl,aS⟩
       have bT:=ca aS c
       exact wpList_nil (blkN (thenN (⟨_,bS,bO,bP,bQ,0,fR,aS.sub,bT,h⟩)))
      ·refine o1 58 C (o1 58 C (o1 58 C (m3 false vN (cg C) ?_)))
       obtain ⟨⟨bU,bV,bW⟩,bX,h⟩:=ob h
       refine cv ([pp g 0,vN]) Tyb59 ((f59_ok k) bX (hG.mono (l.sub.trans m)) (pt c)) ?_
       rintro _ d2 ⟨bY,rfl,aT⟩
       have bZ:=ca aT c
       exact wpList_nil (blkN (thenN (⟨_,bY,bU,bV,bW,0,fR,aT.sub,bZ,h⟩)))
     ·refine o1 53 B (o1 53 B (o1 53 B (m3 false vN (cg B) (m1 vN (o0 58 (o0 58 (o0 58 (m3 false vN rfl ?_))))))))
      obtain ⟨⟨b0,b1,b2⟩,b3,h⟩:=ob h
      refine cv ([pp g 0,vN]) Tyb59 ((f59_ok k) b3 (hG.mono (l.sub.trans m)) (pt c)) ?_
      rintro _ d3 ⟨b4,rfl,aU⟩
      have b5:=ca aU c
      exact wpList_nil (blkN (thenN (⟨_,b4,b0,b1,b2,0,fR,aU.sub,b5,h⟩)))
    ·refine cF aw (sr (fd 0 Tyf107_0 rfl (l1 1 (iI d) c Tya3 (c0 (d == 2) (m2 (.bool (d == 2)) (wt (cd h (fun ax h=>?_) (fun ax h=>?_))))))))
     ·refine cT ax (wp_region_lit (m1 (pp g 0) (fd 1 Tyf107_1 rfl (l1 1 (iI e) c Tya3 (c0 (e == 0) (m1 (.bool (e == 0)) (cd h (fun D h=>?_) (fun D h=>?_))))))))
      ·refine o1 72 D (o1 72 D (o1 72 D (m3 true vT (cg D) (m1 vT (n0 77 (fd 2 Tyf107_2 rfl (n0 77 (l1 1 (.string f) c Tya9 (n0 77 (bsc (r:=(seq f ⟨#[]⟩)) rfl rfl rfl (m3 true (.bool (seq f ⟨#[]⟩)) rfl ?_)))))))))))
       obtain ⟨⟨b6,b7,b8⟩,b9,h⟩:=ob h
       refine cv ([pp g 0,.bool (seq f ⟨#[]⟩)]) Tyb59 ((f59_ok k) b9 (hG.mono (l.sub.trans m)) (pt c)) ?_
       rintro _ d4 ⟨cb,rfl,aV⟩
       have cc:=ca aV c
       exact wpList_nil (blkN (thenN (⟨_,cb,b6,b7,b8,0,fR,aV.sub,cc,h⟩)))
      ·refine n1 72 D (fd 1 Tyf107_1 rfl (n1 72 D (l1 1 (iI e) c Tya3 (n1 72 D (c0 (e == 1) (m3 false (.bool (e == 1)) (cg D) (m1 (.bool (e == 1)) (cd h (fun G h=>?_) (fun G h=>?_)))))))))
       ·refine n1 77 G (fd 2 Tyf107_2 rfl (n1 77 G (l1 1 (.string f) c Tya9 (n1 77 G (bsc (r:=(seq f ⟨#[]⟩)) rfl rfl rfl (m3 true (.bool (seq f ⟨#[]⟩)) (cg G) ?_))))))
        obtain ⟨⟨ce,cf,ch⟩,ci,h⟩:=ob h
        refine cv ([pp g 0,.bool (seq f ⟨#[]⟩)]) Tyb59 ((f59_ok k) ci (hG.mono (l.sub.trans m)) (pt c)) ?_
        rintro _ d5 ⟨cj,rfl,aW⟩
        have ck:=ca aW c
        exact wpList_nil (blkN (thenN (⟨_,cj,ce,cf,ch,0,fR,aW.sub,ck,h⟩)))
       ·refine o1 77 G (o1 77 G (o1 77 G (m3 false vN (cg G) ?_)))
        obtain ⟨⟨cl,cm,cn⟩,co,h⟩:=ob h
        refine cv ([pp g 0,vN]) Tyb59 ((f59_ok k) co (hG.mono (l.sub.trans m)) (pt c)) ?_
        rintro _ d6 ⟨cq,rfl,aX⟩
        have cr:=ca aX c
        exact wpList_nil (blkN (thenN (⟨_,cq,cl,cm,cn,0,fR,aX.sub,cr,h⟩)))
     ·refine cF ax (sr (fd 0 Tyf107_0 rfl (l1 1 (iI d) c Tya3 (c0 (d == 3) (m2 (.bool (d == 3)) (wt (cd h (fun ay h=>?_) (fun ay h=>?_))))))))
      ·refine cT ay (wp_region_lit (m1 (pp g 0) (fd 1 Tyf107_1 rfl (l1 1 (iI e) c Tya3 (c0 (e == 0) (m1 (.bool (e == 0)) (cd h (fun I h=>?_) (fun I h=>?_))))))))
       ·refine n1 91 I (fd 2 Tyf107_2 rfl (n1 91 I (l1 1 (.string f) c Tya9 (n1 91 I ?_))))
        obtain ⟨aY,ct,h⟩:=ob h
        refine cv ([.string f]) Tyb132 ((f132_ok k) ct (hG.mono (l.sub.trans m)) aK (pt c)) ?_
        rintro _ d7 ⟨d8,rfl,az⟩
        have aZ:=ca az c
        refine m3 true (.bool aY) (cg I) ?_
        obtain ⟨⟨cu,cw,cx⟩,cy,h⟩:=ob h
        refine cv ([pp g 0,.bool aY]) Tyb59 ((f59_ok k) cy (hG.mono ((l.sub.trans m).trans az.sub)) (pt aZ)) ?_
        rintro _ d9 ⟨cz,rfl,a0⟩
        have cA:=ca a0 aZ
        exact wpList_nil (blkN (thenN (⟨_,cz,cu,cw,cx,0,fR,(az.sub.trans a0.sub),cA,h⟩)))
       ·refine o1 91 I (o1 91 I (o1 91 I (m3 false vN (cg I) ?_)))
        obtain ⟨⟨cB,cC,cD⟩,cG,h⟩:=ob h
        refine cv ([pp g 0,vN]) Tyb59 ((f59_ok k) cG (hG.mono (l.sub.trans m)) (pt c)) ?_
        rintro _ ea ⟨cH,rfl,a4⟩
        have cI:=ca a4 c
        exact wpList_nil (blkN (thenN (⟨_,cH,cB,cC,cD,0,fR,a4.sub,cI,h⟩)))
      ·refine cF ay (sr (fd 0 Tyf107_0 rfl (l1 1 (iI d) c Tya3 (c0 (d == 4) (m2 (.bool (d == 4)) (wt (cd h (fun aA h=>?_) (fun aA h=>?_))))))))
       ·refine cT aA (wp_region_lit (m1 (pp g 0) (fd 1 Tyf107_1 rfl (l1 1 (iI e) c Tya3 (c0 (e == 0) (m1 (.bool (e == 0)) (cd h (fun J h=>?_) (fun J h=>?_))))))))
        ·refine n1 105 J (fd 2 Tyf107_2 rfl (n1 105 J (l1 1 (.string f) c Tya9 (n1 105 J ?_))))
         obtain ⟨a5,cJ,h⟩:=ob h
         refine cv ([.string f]) Tyb34 ((f34_ok k) cJ (hG.mono (l.sub.trans m)) aK (pt c)) ?_
         rintro _ ec ⟨ed,rfl,aB⟩
         have a6:=ca aB c
         refine m3 true (.bool a5) (cg J) ?_
         obtain ⟨⟨cK,cL,cM⟩,cN,h⟩:=ob h
         refine cv ([pp g 0,.bool a5]) Tyb59 ((f59_ok k) cN (hG.mono ((l.sub.trans m).trans aB.sub)) (pt a6)) ?_
         rintro _ ee ⟨cO,rfl,a7⟩
         have cP:=ca a7 a6
         exact wpList_nil (blkN (thenN (⟨_,cO,cK,cL,cM,0,fR,(aB.sub.trans a7.sub),cP,h⟩)))
        ·refine o1 105 J (o1 105 J (o1 105 J (m3 false vN (cg J) ?_)))
         obtain ⟨⟨cQ,cR,cS⟩,cU,h⟩:=ob h
         refine cv ([pp g 0,vN]) Tyb59 ((f59_ok k) cU (hG.mono (l.sub.trans m)) (pt c)) ?_
         rintro _ ef ⟨cV,rfl,a8⟩
         have cW:=ca a8 c
         exact wpList_nil (blkN (thenN (⟨_,cV,cQ,cR,cS,0,fR,a8.sub,cW,h⟩)))
       ·refine cF aA (wp_cut (fun a w=>∃ a9 aE,a=fr 161 (updL a9 [(0,pp g 0),(2,iI s),(3,.bool t),(5,pp (zz wi) 0),(111,.bool aE)])∧SR K ag wi w [.box bs g #[iI Z,iI ab,.bool X] 56] [.box bs g #[iI ah,iI ai,.bool aj] 56,.box (zz wi) (zz wi) (vE d e f x y p z).toArray 107]∧f110_j3 k F d e f p s t ah ai aj aE=some r_) ?_ ?_)
        ·refine wp_region_lit (fd 0 Tyf107_0 rfl (l1 1 (iI d) c Tya3 (c0 (d == 5) (m1 (.bool (d == 5)) (cd h (fun N h=>?_) (fun N h=>?_))))))
         ·exact o1 115 N (o1 115 N (o1 115 N (m3 true vT (cg N) (m2 vT (wt (⟨_,true,fR,c,h⟩))))))
         ·exact n1 115 N (fd 0 Tyf107_0 rfl (n1 115 N (l1 1 (iI d) c Tya3 (n1 115 N (c0 (d == 6) (m3 false (.bool (d == 6)) (cg N) (m2 (.bool (d == 6)) (wt (⟨_,(d == 6),fR,c,h⟩)))))))))
        ·rintro _ eg ⟨a9,aE,rfl,q,h⟩
         unfold f110_j3 at h
         refine cd h (fun aF h=>?_) (fun aF h=>?_)
         ·refine cT aF (sr (m2 (iI 1) (wt (wp_region_lit (m1 (pp g 0) (fd 1 Tyf107_1 rfl (l1 1 (iI e) q Tya3 (c0 (e == 0) (m1 (.bool (e == 0)) (cd h (fun O h=>?_) (fun O h=>?_)))))))))))
          ·refine n1 124 O (fd 2 Tyf107_2 rfl (n1 124 O (l1 1 (.string f) q Tya9 (n1 124 O (bsc (r:=(seq f ⟨#[]⟩)) rfl rfl rfl (m3 true (.bool (seq f ⟨#[]⟩)) (cg O) ?_))))))
           obtain ⟨⟨cX,cY,cZ⟩,c3,h⟩:=ob h
           refine cv ([pp g 0,.bool (seq f ⟨#[]⟩)]) Tyb59 ((f59_ok k) c3 (hG.mono (l.sub.trans m)) (pt q)) ?_
           rintro _ eh ⟨c4,rfl,ba⟩
           have c5:=ca ba q
           exact wpList_nil (blkN (thenN (⟨_,c4,cX,cY,cZ,1,fR,ba.sub,c5,h⟩)))
          ·refine o1 124 O (o1 124 O (o1 124 O (m3 false vN (cg O) ?_)))
           obtain ⟨⟨c6,c7,c8⟩,c9,h⟩:=ob h
           refine cv ([pp g 0,vN]) Tyb59 ((f59_ok k) c9 (hG.mono (l.sub.trans m)) (pt q)) ?_
           rintro _ ei ⟨da,rfl,bb⟩
           have db:=ca bb q
           exact wpList_nil (blkN (thenN (⟨_,da,c6,c7,c8,1,fR,bb.sub,db,h⟩)))
         ·refine cF aF (sr (m2 (iI 2) (wt (wp_region_lit (m1 (pp g 0) (fd 0 Tyf107_0 rfl (l1 1 (iI d) q Tya3 (c0 (decide (d ≥ 7)) (m1 (.bool (decide (d ≥ 7))) (cd h (fun S h=>?_) (fun S h=>?_)))))))))))
          ·refine n1 29 S (fd 0 Tyf107_0 rfl (n1 29 S (l1 1 (iI d) q Tya3 (n1 29 S (c0 (decide (d ≤ 19)) (m3 true (.bool (decide (d ≤ 19))) (cg S) (m1 (.bool (decide (d ≤ 19))) (cd h (fun U h=>?_) (fun U h=>?_)))))))))
           ·refine n1 34 U (fd 1 Tyf107_1 rfl (n1 34 U (l1 1 (iI e) q Tya3 (n1 34 U (c0 (e == 0) (m3 true (.bool (e == 0)) (cg U) (m1 (.bool (e == 0)) (cd h (fun V h=>?_) (fun V h=>?_)))))))))
            ·refine n1 39 V (fd 2 Tyf107_2 rfl (n1 39 V (l1 1 (.string f) q Tya9 (n1 39 V (bsc (r:=(seq f ⟨#[]⟩)) rfl rfl rfl (m3 true (.bool (seq f ⟨#[]⟩)) (cg V) ?_))))))
             obtain ⟨⟨dc,dd,de⟩,df,h⟩:=ob h
             refine cv ([pp g 0,.bool (seq f ⟨#[]⟩)]) Tyb59 ((f59_ok k) df (hG.mono (l.sub.trans m)) (pt q)) ?_
             rintro _ ej ⟨dg,rfl,bd⟩
             have dh:=ca bd q
             exact wpList_nil (blkN (thenN (⟨_,dg,dc,dd,de,2,fR,bd.sub,dh,h⟩)))
            ·refine o1 39 V (o1 39 V (o1 39 V (m3 false vN (cg V) ?_)))
             obtain ⟨⟨di,dj,dk⟩,dl,h⟩:=ob h
             refine cv ([pp g 0,vN]) Tyb59 ((f59_ok k) dl (hG.mono (l.sub.trans m)) (pt q)) ?_
             rintro _ ek ⟨dm,rfl,be⟩
             have dn:=ca be q
             exact wpList_nil (blkN (thenN (⟨_,dm,di,dj,dk,2,fR,be.sub,dn,h⟩)))
           ·refine o1 34 U (o1 34 U (o1 34 U (m3 false vN (cg U) (m1 vN (o0 39 (o0 39 (o0 39 (m3 false vN rfl ?_))))))))
            obtain ⟨⟨dp,dq,dr⟩,ds,h⟩:=ob h
            refine cv ([pp g 0,vN]) Tyb59 ((f59_ok k) ds (hG.mono (l.sub.trans m)) (pt q)) ?_
            rintro _ el ⟨dt,rfl,bf⟩
            have du:=ca bf q
            exact wpList_nil (blkN (thenN (⟨_,dt,dp,dq,dr,2,fR,bf.sub,du,h⟩)))
          ·refine o1 29 S (o1 29 S (o1 29 S (m3 false vN (cg S) (m1 vN (o0 34 (o0 34 (o0 34 (m3 false vN rfl (m1 vN (o0 39 (o0 39 (o0 39 (m3 false vN rfl ?_)))))))))))))
           obtain ⟨⟨dv,dw,dx⟩,dy,h⟩:=ob h
           refine cv ([pp g 0,vN]) Tyb59 ((f59_ok k) dy (hG.mono (l.sub.trans m)) (pt q)) ?_
           rintro _ em ⟨dz,rfl,bg⟩
           have dA:=ca bg q
           exact wpList_nil (blkN (thenN (⟨_,dz,dv,dw,dx,2,fR,bg.sub,dA,h⟩)))
   ·rintro _ en ⟨aR,aq,ar,au,av,ac,rfl,al,aG,h⟩
    unfold f110_j2 at h
    refine sr (m1 (pp g 0) (fd 4 Tyf107_4 rfl (l1 1 (sl y p z) aG Tya39 (lS p.length Tye39 (m1 (iI ac) (c0 ((p.length:Int) == ac) ?_))))))
    obtain ⟨⟨dB,dC,dD⟩,dE,h⟩:=ob h
    refine cv ([pp g 0,.bool ((p.length:Int) == ac)]) Tyb59 ((f59_ok k) dE (hG.mono ((l.sub.trans m).trans al)) (pt aG)) ?_
    rintro _ eo ⟨bh,rfl,am⟩
    have dF:=ca am aG
    refine wt (sr (m2 (iI 0) (wt (wp_block (wp_loopG (fun g_ a w=>∃ bi ak Y,∃ (u:Nat),∃ aH aI ad,g_=Y.length∧a=fr 161 (updL bi [(0,pp g 0),(2,iI s),(3,.bool t),(5,pp (zz wi) 0),(9,iI (u:Int))])∧KH.sub bh ak∧SR K ak wi w [.box bs g #[iI Z,iI ab,.bool X] 56] [.box bs g #[iI aH,iI aI,.bool ad] 56,.box (zz wi) (zz wi) (vE d e f x y p z).toArray 107]∧p.drop u=Y∧f110_l1 k F s t Y u aH aI ad=some r_) p.length ?_ ?_)))))
    ·exact ⟨_,bh,p,0,dB,dC,dD,rfl,fR,kr,dF,List.drop_zero,h⟩
    ·rintro _ _ ep ⟨bi,ak,Y,u,aH,aI,ad,rfl,rfl,an,W,ae,h⟩
     rcases Y with _ | ⟨⟨bj,bk,bm,bn,bo⟩,Y⟩
     ·unfold f110_l1 at h
      refine wp_seq (sr (m1 (iI (u:Int)) (fd 4 Tyf107_4 rfl (l1 1 (sl y p z) W Tya39 (lS p.length Tye39 (bcm (r:=false) rfl rfl (congrArg some (drop_nil_lt ae)) (m1 vN (o0 142 (o0 142 (o0 142 (o0 142 (o0 142 (m3 false vN rfl (wt (cndF rfl (wp_exit (thenX (thenX (blkX ?_)))))))))))))))))))
      cases (oi h).trans hr_
      exact end0 rfl ⟨ak,rfl,(W.sel [0])⟩
     ·unfold f110_l1 at h
      refine wp_seq (sr (m1 (iI (u:Int)) (fd 4 Tyf107_4 rfl (l1 1 (sl y p z) W Tya39 (lS p.length Tye39 (bcm (r:=true) rfl rfl (congrArg some (drop_cons_t ae)) (m1 vT (n0 142 (m1 (pp g 0) (n0 142 (nilc rfl (n0 142 (fd 2 Tyf56_2 rfl (n0 142 (l1 0 (.bool ad) W Tya4 (n0 142 (uN ad (m3 true (.bool (!ad)) rfl (wt (cd h (fun aJ h=>?_) (fun aJ h=>?_)))))))))))))))))))))
      ·refine cT aJ (wp_skip (thenN (wp_seq (wp_block (wp_region_lit (m1 (pp g 0) (fd 4 Tyf107_4 rfl (l1 1 (sl y p z) W Tya39 (m1 (iI (u:Int)) ?_)))))))))
       obtain ⟨dG,dH,eq,dI,es,dJ,bp⟩:=((me aL ((((l.sub.trans m).trans al).trans am.sub).trans an))).row.at_ (drop_cons_at ae)
       obtain ⟨bq,br,rfl,et,eu⟩:=RDExpr.open bp
       refine idxN (b:=dG) (o:=dH) (i:=u) Tye39 Tys107 rfl dI rfl (drop_cons_lt ae) (lD (vE bj bk bm bn bq bo br) Tya107 Tys107 rfl (fun j v hj=>W.cell (kr.cell (dJ j v hj))) (m1 (iI s) (bar (r:=(w64 (s + 1))) rfl rfl rfl (m1 (.bool t) ?_))))
       obtain ⟨⟨dK,dL,dM⟩,dN,h⟩:=ob h
       refine cv ([pp g 0,.agg (vE bj bk bm bn bq bo br).toArray,iI (w64 (s + 1)),.bool t]) Tyb110 (IH110 dN (hG.mono ((((l.sub.trans m).trans al).trans am.sub).trans an)) bp (pt W)) ?_
       rintro _ ew ⟨dO,rfl,bu⟩
       have dP:=ca bu W
       exact wpList_nil (blkN (thenN (wp_region_lit (m1 (iI (u:Int)) (bar (r:=((u + 1:Nat):Int)) rfl rfl (inc_ok (le_big (((me aL ((((l.sub.trans m).trans al).trans am.sub).trans an))).len) (by decide) (drop_cons_lt ae))) (m2 (iI ((u + 1:Nat):Int)) (wt (⟨_,Nat.lt_succ_self _,_,dO,Y,u + 1,dK,dL,dM,rfl,fR,(an.trans bu.sub),dP,drop_cons_next ae,h⟩))))))))
      ·refine cF aJ (wp_exit (thenX (thenX (blkX ?_))))
       cases (oi h).trans hr_
       exact end0 rfl ⟨ak,rfl,(W.sel [0])⟩
theorem fam110_ok (k0:Nat) : ∀ k,f110_spec (fam110 k0 k).f110:=by
 intro k
 induction k with
 | zero=>exact (by unfold f110_spec; intro _ _ _ _ _ _ _ _ _ _ _ _ _ _ h_; cases h_)
 | succ k ih=>exact f110_b_ok k0 (fam110 k0 k) ih
theorem f110_ok (k:Nat):f110_spec (f110 k):=(fam110_ok k k)
theorem f61_b_ok (k:Nat) (F:Fam61) (IH61:f61_spec F.f61) (IH90:f90_spec F.f90) (IH111:f111_spec F.f111):f61_spec (f61_b k F):=by
 unfold f61_spec
 intro K wi g bs A B C d q s t aA aB aE h hG D an
 obtain ⟨r_,hr_,h⟩:=rz h
 refine enter Tryz.func61 rfl (n:=27) rfl ?_
 unfold f61_b at h
 refine sr (m2 (iI 0) (wt (wp_block (wp_loopG (fun g_ a w=>∃ G p e,∃ (c:Nat),∃ x y f,g_=e.length∧a=fr 27 (updL G [(0,pp g 0),(1,sl q d s),(2,iI t),(6,iI (c:Int))])∧KH.sub K p∧SR K p wi w [.box bs g #[iI A,iI B,.bool C] 56] [.box bs g #[iI x,iI y,.bool f] 56]∧d.drop c=e∧f61_l1 k F t e c x y f=some r_) d.length ?_ ?_))))
 ·exact ⟨_,K,d,0,A,B,C,rfl,fR,kr,an,List.drop_zero,h⟩
 ·rintro _ _ aF ⟨G,p,e,c,x,y,f,rfl,rfl,u,l,m,h⟩
  rcases e with _ | ⟨⟨I,J,N,O,S,U,V,W,X,Y,Z⟩,e⟩
  ·unfold f61_l1 at h
   refine wp_seq (sr (m1 (iI (c:Int)) (m1 (sl q d s) (lS d.length Tye36 (bcm (r:=false) rfl rfl (congrArg some (drop_nil_lt m)) (m1 vN (o0 11 (o0 11 (o0 11 (o0 11 (o0 11 (m3 false vN rfl (wt (cndF rfl (wp_exit (thenX (thenX (blkX ?_))))))))))))))))))
   cases (oi h).trans hr_
   exact end0 rfl ⟨p,rfl,l⟩
  ·unfold f61_l1 at h
   refine wp_seq (sr (m1 (iI (c:Int)) (m1 (sl q d s) (lS d.length Tye36 (bcm (r:=true) rfl rfl (congrArg some (drop_cons_t m)) (m1 vT (n0 11 (m1 (pp g 0) (n0 11 (nilc rfl (n0 11 (fd 2 Tyf56_2 rfl (n0 11 (l1 0 (.bool f) l Tya4 (n0 11 (uN f (m3 true (.bool (!f)) rfl (wt (cd h (fun z h=>?_) (fun z h=>?_))))))))))))))))))))
   ·refine cT z (wp_skip (thenN (wp_seq (wp_block (wp_region_lit (m1 (pp g 0) (m1 (sl q d s) (m1 (iI (c:Int)) ?_))))))))
    obtain ⟨ao,ap,aG,aq,aH,ar,ab⟩:=((ms D u)).row.at_ (drop_cons_at m)
    obtain ⟨ac,ad,ae,af,ag,ah,ai,aj,ak,al,rfl,aI,aJ,aK,aL,aM,aN,aP⟩:=RDStmt.open ab
    refine idxN (b:=ao) (o:=ap) (i:=c) Tye36 Tys42 rfl aq rfl (drop_cons_lt m) (lD (vS I J N O S U ac V ad ae W af ag X ah ai Y aj ak Z al) Tya42 Tys42 rfl (fun j v hj=>l.cell (kr.cell (ar j v hj))) (m1 (iI t) ?_))
    obtain ⟨⟨au,av,aw⟩,ax,h⟩:=ob h
    refine cv ([pp g 0,.agg (vS I J N O S U ac V ad ae W af ag X ah ai Y aj ak Z al).toArray,iI t]) Tyb90 (IH90 ax (hG.mono u) ab (pt l)) ?_
    rintro _ aQ ⟨ay,rfl,am⟩
    have az:=ca am l
    exact wpList_nil (blkN (thenN (wp_region_lit (m1 (iI (c:Int)) (bar (r:=((c + 1:Nat):Int)) rfl rfl (inc_ok (le_big (((ms D u)).len) (by decide) (drop_cons_lt m))) (m2 (iI ((c + 1:Nat):Int)) (wt (⟨_,Nat.lt_succ_self _,_,ay,e,c + 1,au,av,aw,rfl,fR,(u.trans am.sub),az,drop_cons_next m,h⟩))))))))
   ·refine cF z (wp_exit (thenX (thenX (blkX ?_))))
    cases (oi h).trans hr_
    exact end0 rfl ⟨p,rfl,l⟩
theorem f90_b_ok (k:Nat) (F:Fam61) (IH61:f61_spec F.f61) (IH90:f90_spec F.f90) (IH111:f111_spec F.f111):f90_spec (f90_b k F):=by
 unfold f90_spec
 intro K wi g bs af ag ae eF jV s jW jX jY h hG eG eH
 obtain ⟨r_,hr_,h⟩:=rz h
 obtain ⟨p,f,O,A,S,c,q,t,x,y,l⟩:=eF
 obtain ⟨J,N,U,V,W,X,Y,Z,D,G,rfl,bB,eI,c2,eJ,eK,eL,c4⟩:=RDStmt.open eG
 refine enter Tryz.func90 rfl (n:=307) rfl ?_
 unfold f90_b at h
 refine sr (bxoC (cs:=(vS p f O A S c J q N U t V W x X Y y Z D l G).toArray) eH rfl rfl (fun eM cc=>(wt (wp_seq (sr (m1 (pp g 0) (nilc rfl (fd 2 Tyf56_2 rfl (l1 1 (.bool ae) cc Tya4 (wt (cd h (fun ce h=>?_) (fun ce h=>?_))))))))))))
 ·refine cT ce (wp_ret (thenR ?_))
  cases (oi h).trans hr_
  exact ret0 rfl ⟨K,rfl,(cc.sel [1])⟩
 ·refine cF ce (wp_skip (thenN (sr (m1 (pp g 0) (m1 (iI s) ?_)))))
  have c5:=p10 cc
  obtain ⟨⟨bp,bq,br⟩,eN,h⟩:=ob h
  refine cv ([pp g 0,iI s]) Tyb60 ((f60_ok k) eN (hG.mono kr) (pt c5)) ?_
  rintro _ jZ ⟨j0,rfl,d⟩
  have cf:=ca d c5
  refine wt (sr (fd 0 Tyf42_0 rfl (l1 1 (iI p) cf Tya3 ?_)))
  obtain ⟨⟨⟨am,an,z,ab,aj,ao⟩,bL⟩,eO,h⟩:=ob h
  refine cv ([iI p]) Tyb109 ((f109_ok k) eO (hG.mono d.sub) (pt cf)) ?_
  rintro _ aI ⟨bi,j1,rfl,e,eP⟩
  have eQ:=ca e cf
  obtain rfl:=RDShape.open eP
  refine m1 (.tuple #[.agg #[iI am,iI an,iI z,.bool ab,.bool aj,iI ao],.bool bL]) (ext (v:=.agg #[iI am,iI an,iI z,.bool ab,.bool aj,iI ao]) rfl rfl (ext (v:=.bool bL) rfl rfl (aC #[iI 0,iI 0,iI 0,vN,vN,iI 0] eQ Tyz143 (fun j2 eR=>(sI 0 (.agg #[iI am,iI an,iI z,.bool ab,.bool aj,iI ao]) #[iI am,iI an,iI z,.bool ab,.bool aj,iI ao] eR Tys143 rfl rfl (fun bu ar=>(m2 (.bool bL) (wt (wp_cut (fun a w=>∃ c7 bR ch ci cj,a=fr 307 (updL c7 [(0,pp g 0),(2,iI s),(4,pp (zz wi) 0),(6,pp (zz aI) 0)])∧KH.sub bi bR∧SR K bR wi w [.box bs g #[iI af,iI ag,.bool ae] 56] [.box bs g #[iI ch,iI ci,.bool cj] 56,.box (zz wi) (zz wi) (vS p f O A S c J q N U t V W x X Y y Z D l G).toArray 42,.box (zz wi) (zz aI) #[iI am,iI an,iI z,.bool ab,.bool aj,iI ao] 143]∧f90_j1 k F p f A c q t x y l s z ab aj ch ci cj=some r_) ?_ ?_)))))))))
  ·refine wp_region_lit (m1 (pp g 0) (m1 (.bool bL) (m1 (.bool bL) (cd h (fun av h=>?_) (fun av h=>?_)))))
   ·refine n1 25 av (fd 6 Tyf42_6 rfl (n1 25 av (l1 2 (sl J q N) ar Tya39 (n1 25 av (lS q.length Tye39 (n1 25 av (fd 0 Tyf143_0 rfl (n1 25 av (l1 0 (iI am) ar Tya3 (n1 25 av (c0 (decide ((q.length:Int) ≥ am)) (m3 true (.bool (decide ((q.length:Int) ≥ am))) (cg av) (m1 (.bool (decide ((q.length:Int) ≥ am))) (cd h (fun aw h=>?_) (fun aw h=>?_)))))))))))))))
    ·refine n1 33 aw (fd 6 Tyf42_6 rfl (n1 33 aw (l1 2 (sl J q N) ar Tya39 (n1 33 aw (lS q.length Tye39 (n1 33 aw (fd 1 Tyf143_1 rfl (n1 33 aw (l1 0 (iI an) ar Tya3 (n1 33 aw (c0 (decide ((q.length:Int) ≤ an)) (m3 true (.bool (decide ((q.length:Int) ≤ an))) (cg aw) (m1 (.bool (decide ((q.length:Int) ≤ an))) (cd h (fun aX h=>?_) (fun aX h=>?_)))))))))))))))
     ·refine n1 41 aX (fd 5 Tyf42_5 rfl (n1 41 aX (l1 2 (iI c) ar Tya3 (n1 41 aX (c0 (decide (c ≥ 0)) (m3 true (.bool (decide (c ≥ 0))) (cg aX) (m1 (.bool (decide (c ≥ 0))) (cd h (fun aJ h=>?_) (fun aJ h=>?_)))))))))
      ·refine n1 46 aJ (fd 5 Tyf42_5 rfl (n1 46 aJ (l1 2 (iI c) ar Tya3 (n1 46 aJ (fd 5 Tyf143_5 rfl (n1 46 aJ (l1 0 (iI ao) ar Tya3 (n1 46 aJ (c0 (decide (c ≤ ao)) (m3 true (.bool (decide (c ≤ ao))) (cg aJ) (m1 (.bool (decide (c ≤ ao))) (cd h (fun aY h=>?_) (fun aY h=>?_)))))))))))))
       ·refine n1 53 aY (fd 2 Tyf42_2 rfl (n1 53 aY (l1 2 (iI O) ar Tya3 (n1 53 aY (c0 (O == 0) (m3 true (.bool (O == 0)) (cg aY) (m1 (.bool (O == 0)) (cd h (fun aZ h=>?_) (fun aZ h=>?_)))))))))
        ·refine n1 58 aZ (fd 4 Tyf42_4 rfl (n1 58 aZ (l1 2 (iI S) ar Tya3 (n1 58 aZ (c0 (S == 0) (m3 true (.bool (S == 0)) (cg aZ) ?_))))))
         have c8:=p102 ar
         obtain ⟨⟨eS,eT,eU⟩,eV,h⟩:=ob h
         refine cv ([pp g 0,.bool (S == 0)]) Tyb59 ((f59_ok k) eV (hG.mono (d.sub.trans e.sub)) (pt c8)) ?_
         rintro _ j3 ⟨eW,rfl,da⟩
         have eX:=ca da c8
         exact wt (⟨_,eW,eS,eT,eU,fR,da.sub,(eX.sel [0,2,1]),h⟩)
        ·refine o1 58 aZ (o1 58 aZ (o1 58 aZ (m3 false vN (cg aZ) ?_)))
         have db:=p102 ar
         obtain ⟨⟨eY,eZ,e0⟩,e1,h⟩:=ob h
         refine cv ([pp g 0,vN]) Tyb59 ((f59_ok k) e1 (hG.mono (d.sub.trans e.sub)) (pt db)) ?_
         rintro _ j4 ⟨e2,rfl,dc⟩
         have e3:=ca dc db
         exact wt (⟨_,e2,eY,eZ,e0,fR,dc.sub,(e3.sel [0,2,1]),h⟩)
       ·refine o1 53 aY (o1 53 aY (o1 53 aY (m3 false vN (cg aY) (m1 vN (o0 58 (o0 58 (o0 58 (m3 false vN rfl ?_))))))))
        have dd:=p102 ar
        obtain ⟨⟨e4,e5,e6⟩,e7,h⟩:=ob h
        refine cv ([pp g 0,vN]) Tyb59 ((f59_ok k) e7 (hG.mono (d.sub.trans e.sub)) (pt dd)) ?_
        rintro _ j5 ⟨e8,rfl,de⟩
        have e9:=ca de dd
        exact wt (⟨_,e8,e4,e5,e6,fR,de.sub,(e9.sel [0,2,1]),h⟩)
      ·refine o1 46 aJ (o1 46 aJ (o1 46 aJ (o1 46 aJ (o1 46 aJ (m3 false vN (cg aJ) (m1 vN (o0 53 (o0 53 (o0 53 (m3 false vN rfl (m1 vN (o0 58 (o0 58 (o0 58 (m3 false vN rfl ?_)))))))))))))))
       have df:=p102 ar
       obtain ⟨⟨fa,fb,fc⟩,fe,h⟩:=ob h
       refine cv ([pp g 0,vN]) Tyb59 ((f59_ok k) fe (hG.mono (d.sub.trans e.sub)) (pt df)) ?_
       rintro _ j6 ⟨ff,rfl,dg⟩
       have fg:=ca dg df
       exact wt (⟨_,ff,fa,fb,fc,fR,dg.sub,(fg.sel [0,2,1]),h⟩)
     ·refine o1 41 aX (o1 41 aX (o1 41 aX (m3 false vN (cg aX) (m1 vN (o0 46 (o0 46 (o0 46 (o0 46 (o0 46 (m3 false vN rfl (m1 vN (o0 53 (o0 53 (o0 53 (m3 false vN rfl (m1 vN (o0 58 (o0 58 (o0 58 (m3 false vN rfl ?_))))))))))))))))))))
      have dh:=p102 ar
      obtain ⟨⟨fh,fi,fj⟩,fk,h⟩:=ob h
      refine cv ([pp g 0,vN]) Tyb59 ((f59_ok k) fk (hG.mono (d.sub.trans e.sub)) (pt dh)) ?_
      rintro _ j7 ⟨fl,rfl,di⟩
      have fm:=ca di dh
      exact wt (⟨_,fl,fh,fi,fj,fR,di.sub,(fm.sel [0,2,1]),h⟩)
    ·refine o1 33 aw (o1 33 aw (o1 33 aw (o1 33 aw (o1 33 aw (o1 33 aw (m3 false vN (cg aw) (m1 vN (o0 41 (o0 41 (o0 41 (m3 false vN rfl (m1 vN (o0 46 (o0 46 (o0 46 (o0 46 (o0 46 (m3 false vN rfl (m1 vN (o0 53 (o0 53 (o0 53 (m3 false vN rfl (m1 vN (o0 58 (o0 58 (o0 58 (m3 false vN rfl ?_))))))))))))))))))))))))))))
     have dj:=p102 ar
     obtain ⟨⟨fn,fo,fp⟩,fs,h⟩:=ob h
     refine cv ([pp g 0,vN]) Tyb59 ((f59_ok k) fs (hG.mono (d.sub.trans e.sub)) (pt dj)) ?_
     rintro _ j8 ⟨ft,rfl,dk⟩
     have fu:=ca dk dj
     exact wt (⟨_,ft,fn,fo,fp,fR,dk.sub,(fu.sel [0,2,1]),h⟩)
   ·refine o1 25 av (o1 25 av (o1 25 av (o1 25 av (o1 25 av (o1 25 av (m3 false vN (cg av) (m1 vN (o0 33 (o0 33 (o0 33 (o0 33 (o0 33 (o0 33 (m3 false vN rfl (m1 vN (o0 41 (o0 41 (o0 41 (m3 false vN rfl (m1 vN (o0 46 (o0 46 (o0 46 (o0 46 (o0 46 (m3 false vN rfl (m1 vN (o0 53 (o0 53 (o0 53 (m3 false vN rfl (m1 vN (o0 58 (o0 58 (o0 58 (m3 false vN rfl ?_))))))))))))))))))))))))))))))))))))
    have dl:=p102 ar
    obtain ⟨⟨fv,fx,fy⟩,fz,h⟩:=ob h
    refine cv ([pp g 0,vN]) Tyb59 ((f59_ok k) fz (hG.mono (d.sub.trans e.sub)) (pt dl)) ?_
    rintro _ j9 ⟨fA,rfl,dm⟩
    have fB:=ca dm dl
    exact wt (⟨_,fA,fv,fx,fy,fR,dm.sub,(fB.sel [0,2,1]),h⟩)
  ·rintro _ ka ⟨c7,bR,ch,ci,cj,rfl,m,I,h⟩
   unfold f90_j1 at h
   refine wp_cut (fun a w=>∃ dn bS ck cl cm,a=fr 307 (updL dn [(0,pp g 0),(2,iI s),(4,pp (zz wi) 0),(6,pp (zz aI) 0)])∧KH.sub bR bS∧SR K bS wi w [.box bs g #[iI af,iI ag,.bool ae] 56] [.box bs g #[iI ck,iI cl,.bool cm] 56,.box (zz wi) (zz wi) (vS p f O A S c J q N U t V W x X Y y Z D l G).toArray 42,.box (zz wi) (zz aI) #[iI am,iI an,iI z,.bool ab,.bool aj,iI ao] 143]∧f90_j2 k F p f A c q t x y l s ab aj ck cl cm=some r_) ?_ ?_
   ·refine wp_region_lit (m1 (pp g 0) (fd 2 Tyf143_2 rfl (l1 2 (iI z) I Tya3 (c0 (z == 0) (m1 (.bool (z == 0)) (cd h (fun a0 h=>?_) (fun a0 h=>?_)))))))
    ·refine n1 68 a0 (fd 1 Tyf42_1 rfl (n1 68 a0 (l1 1 (.string f) I Tya9 (n1 68 a0 (bsc (r:=(seq f ⟨#[]⟩)) rfl rfl rfl (m3 true (.bool (seq f ⟨#[]⟩)) (cg a0) (m1 (.bool (seq f ⟨#[]⟩)) (cd h (fun ad h=>?_) (fun ad h=>?_)))))))))
     ·refine o1 73 ad (o1 73 ad (o1 73 ad (o1 73 ad (ou 77 (ou 77 (ou 77 (o1 73 ad (m3 true vT (cg ad) (m1 vT (o0 83 (o0 83 (o0 83 (o0 83 (ou 87 (ou 87 (ou 87 (ou 87 (ou 91 (ou 91 (ou 91 (ou 87 (o0 83 (m3 true vT rfl ?_)))))))))))))))))))))))
      obtain ⟨⟨fC,fD,fE⟩,fF,h⟩:=ob h
      refine cv ([pp g 0,vT]) Tyb59 ((f59_ok k) fF (hG.mono ((d.sub.trans e.sub).trans m)) (pt I)) ?_
      rintro _ kb ⟨fG,rfl,dp⟩
      have fH:=ca dp I
      exact wt (⟨_,fG,fC,fD,fE,fR,dp.sub,fH,h⟩)
     ·refine n1 73 ad (fd 2 Tyf143_2 rfl (n1 73 ad (l1 2 (iI z) I Tya3 (n1 73 ad (c0 (z == 1) (n1 73 ad (m1 (.bool (z == 1)) (cd h (fun a3 h=>?_) (fun a3 h=>?_)))))))))
      ·refine n1 77 a3 (fd 1 Tyf42_1 rfl (n1 77 a3 (l1 1 (.string f) I Tya9 (n1 77 a3 ?_))))
       obtain ⟨cn,fI,h⟩:=ob h
       refine cv ([.string f]) Tyb34 ((f34_ok k) fI (hG.mono ((d.sub.trans e.sub).trans m)) bB (pt I)) ?_
       rintro _ kc ⟨kd,rfl,bj⟩
       have a4:=ca bj I
       refine n1 73 ad (m3 true (.bool cn) (cg a3) (m3 false (.bool cn) (cg ad) (m1 (.bool cn) (cd h (fun ax h=>?_) (fun ax h=>?_)))))
       ·refine o1 83 ax (o1 83 ax (o1 83 ax (o1 83 ax (ou 87 (ou 87 (ou 87 (ou 87 (ou 91 (ou 91 (ou 91 (ou 87 (o1 83 ax (m3 true vT (cg ax) ?_)))))))))))))
        obtain ⟨⟨fJ,fK,fL⟩,fM,h⟩:=ob h
        refine cv ([pp g 0,vT]) Tyb59 ((f59_ok k) fM (hG.mono (((d.sub.trans e.sub).trans m).trans bj.sub)) (pt a4)) ?_
        rintro _ ke ⟨fN,rfl,dq⟩
        have fO:=ca dq a4
        exact wt (⟨_,fN,fJ,fK,fL,fR,(bj.sub.trans dq.sub),fO,h⟩)
       ·refine n1 83 ax (fd 2 Tyf143_2 rfl (n1 83 ax (l1 2 (iI z) a4 Tya3 (n1 83 ax (c0 (z == 2) (n1 83 ax (m1 (.bool (z == 2)) (cd h (fun aK h=>?_) (fun aK h=>?_)))))))))
        ·refine n1 87 aK (fd 1 Tyf42_1 rfl (n1 87 aK (l1 1 (.string f) a4 Tya9 (n1 87 aK (bsc (r:=(seq f ⟨#[]⟩)) rfl rfl rfl (n1 87 aK (m1 (.bool (seq f ⟨#[]⟩)) (n1 91 ad (fd 1 Tyf42_1 rfl (n1 91 ad (l1 1 (.string f) a4 Tya9 (n1 91 ad ?_))))))))))))
         obtain ⟨bT,fP,h⟩:=ob h
         refine cv ([.string f]) Tyb34 ((f34_ok k) fP (hG.mono (((d.sub.trans e.sub).trans m).trans bj.sub)) bB (pt a4)) ?_
         rintro _ kf ⟨kg,rfl,co⟩
         have dr:=ca co a4
         refine n1 87 aK (m3 false (.bool bT) (cg ad) (n1 83 ax (m3 true (.bool bT) (cg aK) (m3 false (.bool bT) (cg ax) ?_))))
         obtain ⟨⟨fQ,fS,fT⟩,fU,h⟩:=ob h
         refine cv ([pp g 0,.bool bT]) Tyb59 ((f59_ok k) fU (hG.mono ((((d.sub.trans e.sub).trans m).trans bj.sub).trans co.sub)) (pt dr)) ?_
         rintro _ kh ⟨fV,rfl,ds⟩
         have fW:=ca ds dr
         exact wt (⟨_,fV,fQ,fS,fT,fR,((bj.sub.trans co.sub).trans ds.sub),fW,h⟩)
        ·refine o1 87 aK (o1 87 aK (o1 87 aK (o1 87 aK (ou 91 (ou 91 (ou 91 (o1 87 aK (n1 83 ax (m3 false vN (cg aK) (m3 false vN (cg ax) ?_))))))))))
         obtain ⟨⟨fX,fY,fZ⟩,f0,h⟩:=ob h
         refine cv ([pp g 0,vN]) Tyb59 ((f59_ok k) f0 (hG.mono (((d.sub.trans e.sub).trans m).trans bj.sub)) (pt a4)) ?_
         rintro _ ki ⟨f1,rfl,dt⟩
         have f2:=ca dt a4
         exact wt (⟨_,f1,fX,fY,fZ,fR,(bj.sub.trans dt.sub),f2,h⟩)
      ·refine o1 77 a3 (o1 77 a3 (o1 77 a3 (n1 73 ad (m3 false vN (cg a3) (m3 false vN (cg ad) (m1 vN (n0 83 (fd 2 Tyf143_2 rfl (n0 83 (l1 2 (iI z) I Tya3 (n0 83 (c0 (z == 2) (n0 83 (m1 (.bool (z == 2)) (cd h (fun aL h=>?_) (fun aL h=>?_))))))))))))))))
       ·refine n1 87 aL (fd 1 Tyf42_1 rfl (n1 87 aL (l1 1 (.string f) I Tya9 (n1 87 aL (bsc (r:=(seq f ⟨#[]⟩)) rfl rfl rfl (n1 87 aL (m1 (.bool (seq f ⟨#[]⟩)) (n1 91 ad (fd 1 Tyf42_1 rfl (n1 91 ad (l1 1 (.string f) I Tya9 (n1 91 ad ?_))))))))))))
        obtain ⟨bU,f3,h⟩:=ob h
        refine cv ([.string f]) Tyb34 ((f34_ok k) f3 (hG.mono ((d.sub.trans e.sub).trans m)) bB (pt I)) ?_
        rintro _ kj ⟨kk,rfl,cq⟩
        have du:=ca cq I
        refine n1 87 aL (m3 false (.bool bU) (cg ad) (n0 83 (m3 true (.bool bU) (cg aL) (m3 false (.bool bU) rfl ?_))))
        obtain ⟨⟨f4,f5,f6⟩,f7,h⟩:=ob h
        refine cv ([pp g 0,.bool bU]) Tyb59 ((f59_ok k) f7 (hG.mono (((d.sub.trans e.sub).trans m).trans cq.sub)) (pt du)) ?_
        rintro _ kl ⟨f8,rfl,dv⟩
        have ga:=ca dv du
        exact wt (⟨_,f8,f4,f5,f6,fR,(cq.sub.trans dv.sub),ga,h⟩)
       ·refine o1 87 aL (o1 87 aL (o1 87 aL (o1 87 aL (ou 91 (ou 91 (ou 91 (o1 87 aL (n0 83 (m3 false vN (cg aL) (m3 false vN rfl ?_))))))))))
        obtain ⟨⟨gb,gc,gd⟩,ge,h⟩:=ob h
        refine cv ([pp g 0,vN]) Tyb59 ((f59_ok k) ge (hG.mono ((d.sub.trans e.sub).trans m)) (pt I)) ?_
        rintro _ km ⟨gf,rfl,dw⟩
        have gg:=ca dw I
        exact wt (⟨_,gf,gb,gc,gd,fR,dw.sub,gg,h⟩)
    ·refine o1 68 a0 (o1 68 a0 (o1 68 a0 (m3 false vN (cg a0) (m1 vN (n0 73 (fd 2 Tyf143_2 rfl (n0 73 (l1 2 (iI z) I Tya3 (n0 73 (c0 (z == 1) (n0 73 (m1 (.bool (z == 1)) (cd h (fun a5 h=>?_) (fun a5 h=>?_))))))))))))))
     ·refine n1 77 a5 (fd 1 Tyf42_1 rfl (n1 77 a5 (l1 1 (.string f) I Tya9 (n1 77 a5 ?_))))
      obtain ⟨cr,gh,h⟩:=ob h
      refine cv ([.string f]) Tyb34 ((f34_ok k) gh (hG.mono ((d.sub.trans e.sub).trans m)) bB (pt I)) ?_
      rintro _ kn ⟨ko,rfl,aU⟩
      have aN:=ca aU I
      refine n0 73 (m3 true (.bool cr) (cg a5) (m3 false (.bool cr) rfl (m1 (.bool cr) (cd h (fun aq h=>?_) (fun aq h=>?_)))))
      ·refine o1 83 aq (o1 83 aq (o1 83 aq (o1 83 aq (ou 87 (ou 87 (ou 87 (ou 87 (ou 91 (ou 91 (ou 91 (ou 87 (o1 83 aq (m3 true vT (cg aq) ?_)))))))))))))
       obtain ⟨⟨gi,gj,gk⟩,gl,h⟩:=ob h
       refine cv ([pp g 0,vT]) Tyb59 ((f59_ok k) gl (hG.mono (((d.sub.trans e.sub).trans m).trans aU.sub)) (pt aN)) ?_
       rintro _ kp ⟨gm,rfl,dx⟩
       have gn:=ca dx aN
       exact wt (⟨_,gm,gi,gj,gk,fR,(aU.sub.trans dx.sub),gn,h⟩)
      ·refine n1 83 aq (fd 2 Tyf143_2 rfl (n1 83 aq (l1 2 (iI z) aN Tya3 (n1 83 aq (c0 (z == 2) (n1 83 aq (m1 (.bool (z == 2)) (cd h (fun ay h=>?_) (fun ay h=>?_)))))))))
       ·refine n1 87 ay (fd 1 Tyf42_1 rfl (n1 87 ay (l1 1 (.string f) aN Tya9 (n1 87 ay (bsc (r:=(seq f ⟨#[]⟩)) rfl rfl rfl (n1 87 ay (m1 (.bool (seq f ⟨#[]⟩)) (cd h (fun a6 h=>?_) (fun a6 h=>?_)))))))))
        ·refine o1 91 a6 (o1 91 a6 (o1 91 a6 (n1 87 ay (m3 true vT (cg a6) (n1 83 aq (m3 true vT (cg ay) (m3 false vT (cg aq) ?_)))))))
         obtain ⟨⟨go,gp,gq⟩,gr,h⟩:=ob h
         refine cv ([pp g 0,vT]) Tyb59 ((f59_ok k) gr (hG.mono (((d.sub.trans e.sub).trans m).trans aU.sub)) (pt aN)) ?_
         rintro _ kq ⟨gs,rfl,dy⟩
         have gt:=ca dy aN
         exact wt (⟨_,gs,go,gp,gq,fR,(aU.sub.trans dy.sub),gt,h⟩)
        ·refine n1 91 a6 (fd 1 Tyf42_1 rfl (n1 91 a6 (l1 1 (.string f) aN Tya9 (n1 91 a6 ?_))))
         obtain ⟨bV,gu,h⟩:=ob h
         refine cv ([.string f]) Tyb34 ((f34_ok k) gu (hG.mono (((d.sub.trans e.sub).trans m).trans aU.sub)) bB (pt aN)) ?_
         rintro _ ks ⟨kt,rfl,ct⟩
         have dz:=ca ct aN
         refine n1 87 ay (m3 false (.bool bV) (cg a6) (n1 83 aq (m3 true (.bool bV) (cg ay) (m3 false (.bool bV) (cg aq) ?_))))
         obtain ⟨⟨gv,gw,gx⟩,gy,h⟩:=ob h
         refine cv ([pp g 0,.bool bV]) Tyb59 ((f59_ok k) gy (hG.mono ((((d.sub.trans e.sub).trans m).trans aU.sub).trans ct.sub)) (pt dz)) ?_
         rintro _ ku ⟨gz,rfl,dA⟩
         have gA:=ca dA dz
         exact wt (⟨_,gz,gv,gw,gx,fR,((aU.sub.trans ct.sub).trans dA.sub),gA,h⟩)
       ·refine o1 87 ay (o1 87 ay (o1 87 ay (o1 87 ay (ou 91 (ou 91 (ou 91 (o1 87 ay (n1 83 aq (m3 false vN (cg ay) (m3 false vN (cg aq) ?_))))))))))
        obtain ⟨⟨gB,gD,gF⟩,gG,h⟩:=ob h
        refine cv ([pp g 0,vN]) Tyb59 ((f59_ok k) gG (hG.mono (((d.sub.trans e.sub).trans m).trans aU.sub)) (pt aN)) ?_
        rintro _ kv ⟨gH,rfl,dB⟩
        have gI:=ca dB aN
        exact wt (⟨_,gH,gB,gD,gF,fR,(aU.sub.trans dB.sub),gI,h⟩)
     ·refine o1 77 a5 (o1 77 a5 (o1 77 a5 (n0 73 (m3 false vN (cg a5) (m3 false vN rfl (m1 vN (n0 83 (fd 2 Tyf143_2 rfl (n0 83 (l1 2 (iI z) I Tya3 (n0 83 (c0 (z == 2) (n0 83 (m1 (.bool (z == 2)) (cd h (fun az h=>?_) (fun az h=>?_))))))))))))))))
      ·refine n1 87 az (fd 1 Tyf42_1 rfl (n1 87 az (l1 1 (.string f) I Tya9 (n1 87 az (bsc (r:=(seq f ⟨#[]⟩)) rfl rfl rfl (n1 87 az (m1 (.bool (seq f ⟨#[]⟩)) (cd h (fun a7 h=>?_) (fun a7 h=>?_)))))))))
       ·refine o1 91 a7 (o1 91 a7 (o1 91 a7 (n1 87 az (m3 true vT (cg a7) (n0 83 (m3 true vT (cg az) (m3 false vT rfl ?_)))))))
        obtain ⟨⟨gJ,gK,gL⟩,gM,h⟩:=ob h
        refine cv ([pp g 0,vT]) Tyb59 ((f59_ok k) gM (hG.mono ((d.sub.trans e.sub).trans m)) (pt I)) ?_
        rintro _ kw ⟨gN,rfl,dC⟩
        have gO:=ca dC I
        exact wt (⟨_,gN,gJ,gK,gL,fR,dC.sub,gO,h⟩)
       ·refine n1 91 a7 (fd 1 Tyf42_1 rfl (n1 91 a7 (l1 1 (.string f) I Tya9 (n1 91 a7 ?_))))
        obtain ⟨bW,gP,h⟩:=ob h
        refine cv ([.string f]) Tyb34 ((f34_ok k) gP (hG.mono ((d.sub.trans e.sub).trans m)) bB (pt I)) ?_
        rintro _ kx ⟨ky,rfl,cu⟩
        have dD:=ca cu I
        refine n1 87 az (m3 false (.bool bW) (cg a7) (n0 83 (m3 true (.bool bW) (cg az) (m3 false (.bool bW) rfl ?_))))
        obtain ⟨⟨gQ,gR,gT⟩,gU,h⟩:=ob h
        refine cv ([pp g 0,.bool bW]) Tyb59 ((f59_ok k) gU (hG.mono (((d.sub.trans e.sub).trans m).trans cu.sub)) (pt dD)) ?_
        rintro _ kz ⟨gV,rfl,dE⟩
        have gW:=ca dE dD
        exact wt (⟨_,gV,gQ,gR,gT,fR,(cu.sub.trans dE.sub),gW,h⟩)
      ·refine o1 87 az (o1 87 az (o1 87 az (o1 87 az (ou 91 (ou 91 (ou 91 (o1 87 az (n0 83 (m3 false vN (cg az) (m3 false vN rfl ?_))))))))))
       obtain ⟨⟨gX,gY,gZ⟩,g0,h⟩:=ob h
       refine cv ([pp g 0,vN]) Tyb59 ((f59_ok k) g0 (hG.mono ((d.sub.trans e.sub).trans m)) (pt I)) ?_
       rintro _ kA ⟨g1,rfl,dF⟩
       have g2:=ca dF I
       exact wt (⟨_,g1,gX,gY,gZ,fR,dF.sub,g2,h⟩)
   ·rintro _ kB ⟨dn,bS,ck,cl,cm,rfl,u,aV,h⟩
    unfold f90_j2 at h
    refine wp_cut (fun a w=>∃ dG bX cw cx cy,a=fr 307 (updL dG [(0,pp g 0),(2,iI s),(4,pp (zz wi) 0),(6,pp (zz aI) 0)])∧KH.sub bS bX∧SR K bX wi w [.box bs g #[iI af,iI ag,.bool ae] 56] [.box bs g #[iI cw,iI cx,.bool cy] 56,.box (zz wi) (zz wi) (vS p f O A S c J q N U t V W x X Y y Z D l G).toArray 42,.box (zz wi) (zz aI) #[iI am,iI an,iI z,.bool ab,.bool aj,iI ao] 143]∧f90_j3 k F p f c q t x y l s aj cw cx cy=some r_) ?_ ?_
    ·refine wp_region_lit (m1 (pp g 0) (fd 3 Tyf143_3 rfl (l1 2 (.bool ab) aV Tya4 (m1 (.bool ab) (cd h (fun a8 h=>?_) (fun a8 h=>?_))))))
     ·refine n1 102 a8 (fd 3 Tyf42_3 rfl (n1 102 a8 (l1 1 (.string A) aV Tya9 (n1 102 a8 ?_))))
      obtain ⟨dH,g3,h⟩:=ob h
      refine cv ([.string A]) Tyb34 ((f34_ok k) g3 (hG.mono (((d.sub.trans e.sub).trans m).trans u)) eI (pt aV)) ?_
      rintro _ kC ⟨kD,rfl,bv⟩
      have bk:=ca bv aV
      refine m3 true (.bool dH) (cg a8) (m1 (.bool dH) (cd h (fun aA h=>?_) (fun aA h=>?_)))
      ·refine o1 107 aA (o1 107 aA (o1 107 aA (o1 107 aA (ou 111 (ou 111 (ou 111 (o1 107 aA (m3 true vT (cg aA) ?_))))))))
       obtain ⟨⟨g4,g5,g6⟩,g7,h⟩:=ob h
       refine cv ([pp g 0,vT]) Tyb59 ((f59_ok k) g7 (hG.mono ((((d.sub.trans e.sub).trans m).trans u).trans bv.sub)) (pt bk)) ?_
       rintro _ kE ⟨g8,rfl,dI⟩
       have g9:=ca dI bk
       exact wt (⟨_,g8,g4,g5,g6,fR,(bv.sub.trans dI.sub),g9,h⟩)
      ·refine n1 107 aA (fd 3 Tyf143_3 rfl (n1 107 aA (l1 2 (.bool ab) bk Tya4 (n1 107 aA (uN ab (n1 107 aA (m1 (.bool (!ab)) (cd h (fun a9 h=>?_) (fun a9 h=>?_)))))))))
       ·refine n1 111 a9 (fd 3 Tyf42_3 rfl (n1 111 a9 (l1 1 (.string A) bk Tya9 (n1 111 a9 (bsc (r:=(seq A ⟨#[]⟩)) rfl rfl rfl (n1 107 aA (m3 true (.bool (seq A ⟨#[]⟩)) (cg a9) (m3 false (.bool (seq A ⟨#[]⟩)) (cg aA) ?_))))))))
        obtain ⟨⟨ha,hb,hc⟩,hd,h⟩:=ob h
        refine cv ([pp g 0,.bool (seq A ⟨#[]⟩)]) Tyb59 ((f59_ok k) hd (hG.mono ((((d.sub.trans e.sub).trans m).trans u).trans bv.sub)) (pt bk)) ?_
        rintro _ kF ⟨he,rfl,dJ⟩
        have hf:=ca dJ bk
        exact wt (⟨_,he,ha,hb,hc,fR,(bv.sub.trans dJ.sub),hf,h⟩)
       ·refine o1 111 a9 (o1 111 a9 (o1 111 a9 (n1 107 aA (m3 false vN (cg a9) (m3 false vN (cg aA) ?_)))))
        obtain ⟨⟨hg,hh,hi⟩,hk,h⟩:=ob h
        refine cv ([pp g 0,vN]) Tyb59 ((f59_ok k) hk (hG.mono ((((d.sub.trans e.sub).trans m).trans u).trans bv.sub)) (pt bk)) ?_
        rintro _ kG ⟨hl,rfl,dK⟩
        have hm:=ca dK bk
        exact wt (⟨_,hl,hg,hh,hi,fR,(bv.sub.trans dK.sub),hm,h⟩)
     ·refine o1 102 a8 (o1 102 a8 (o1 102 a8 (m3 false vN (cg a8) (m1 vN (n0 107 (fd 3 Tyf143_3 rfl (n0 107 (l1 2 (.bool ab) aV Tya4 (n0 107 (uN ab (n0 107 (m1 (.bool (!ab)) (cd h (fun ba h=>?_) (fun ba h=>?_))))))))))))))
      ·refine n1 111 ba (fd 3 Tyf42_3 rfl (n1 111 ba (l1 1 (.string A) aV Tya9 (n1 111 ba (bsc (r:=(seq A ⟨#[]⟩)) rfl rfl rfl (n0 107 (m3 true (.bool (seq A ⟨#[]⟩)) (cg ba) (m3 false (.bool (seq A ⟨#[]⟩)) rfl ?_))))))))
       obtain ⟨⟨hn,ho,hp⟩,hq,h⟩:=ob h
       refine cv ([pp g 0,.bool (seq A ⟨#[]⟩)]) Tyb59 ((f59_ok k) hq (hG.mono (((d.sub.trans e.sub).trans m).trans u)) (pt aV)) ?_
       rintro _ kH ⟨hr,rfl,dL⟩
       have hs:=ca dL aV
       exact wt (⟨_,hr,hn,ho,hp,fR,dL.sub,hs,h⟩)
      ·refine o1 111 ba (o1 111 ba (o1 111 ba (n0 107 (m3 false vN (cg ba) (m3 false vN rfl ?_)))))
       obtain ⟨⟨ht,hu,hv⟩,hw,h⟩:=ob h
       refine cv ([pp g 0,vN]) Tyb59 ((f59_ok k) hw (hG.mono (((d.sub.trans e.sub).trans m).trans u)) (pt aV)) ?_
       rintro _ kJ ⟨hx,rfl,dM⟩
       have hy:=ca dM aV
       exact wt (⟨_,hx,ht,hu,hv,fR,dM.sub,hy,h⟩)
    ·rintro _ kK ⟨dG,bX,cw,cx,cy,rfl,B,bC,h⟩
     unfold f90_j3 at h
     refine wp_cut (fun a w=>∃ dN bY cz cA cB,a=fr 307 (updL dN [(0,pp g 0),(2,iI s),(4,pp (zz wi) 0)])∧KH.sub bX bY∧SR K bY wi w [.box bs g #[iI af,iI ag,.bool ae] 56] [.box bs g #[iI cz,iI cA,.bool cB] 56,.box (zz wi) (zz wi) (vS p f O A S c J q N U t V W x X Y y Z D l G).toArray 42]∧f90_j4 k F p f c q t x y l s cz cA cB=some r_) ?_ ?_
     ·refine wp_region_lit (m1 (pp g 0) (fd 4 Tyf143_4 rfl (l1 2 (.bool aj) bC Tya4 (m1 (.bool aj) (cd h (fun aP h=>?_) (fun aP h=>?_))))))
      ·refine o1 121 aP (o1 121 aP (o1 121 aP (o1 121 aP (m3 true vT (cg aP) ?_))))
       obtain ⟨⟨hz,hA,hB⟩,hC,h⟩:=ob h
       refine cv ([pp g 0,vT]) Tyb59 ((f59_ok k) hC (hG.mono ((((d.sub.trans e.sub).trans m).trans u).trans B)) (pt bC)) ?_
       rintro _ kL ⟨hD,rfl,dO⟩
       have hE:=ca dO bC
       exact wt (⟨_,hD,hz,hA,hB,fR,dO.sub,(hE.sel [0,1]),h⟩)
      ·refine n1 121 aP (fd 7 Tyf42_7 rfl (n1 121 aP (l1 1 (sl U t V) bC Tya36 (n1 121 aP (lS t.length Tye36 (n1 121 aP (c0 ((t.length:Int) == 0) (m3 false (.bool ((t.length:Int) == 0)) (cg aP) ?_))))))))
       obtain ⟨⟨hF,hH,hI⟩,hJ,h⟩:=ob h
       refine cv ([pp g 0,.bool ((t.length:Int) == 0)]) Tyb59 ((f59_ok k) hJ (hG.mono ((((d.sub.trans e.sub).trans m).trans u).trans B)) (pt bC)) ?_
       rintro _ kM ⟨hK,rfl,dP⟩
       have hL:=ca dP bC
       exact wt (⟨_,hK,hF,hH,hI,fR,dP.sub,(hL.sel [0,1]),h⟩)
     ·rintro _ kN ⟨dN,bY,cz,cA,cB,rfl,C,ak,h⟩
      unfold f90_j4 at h
      refine wp_cut (fun a w=>∃ dQ bZ cC cD cG,a=fr 307 (updL dQ [(0,pp g 0),(2,iI s),(4,pp (zz wi) 0)])∧KH.sub bY bZ∧SR K bZ wi w [.box bs g #[iI af,iI ag,.bool ae] 56] [.box bs g #[iI cC,iI cD,.bool cG] 56,.box (zz wi) (zz wi) (vS p f O A S c J q N U t V W x X Y y Z D l G).toArray 42]∧f90_j5 k F p f c q t x y l s cC cD cG=some r_) ?_ ?_
      ·refine wp_region_lit (m1 (pp g 0) (fd 8 Tyf42_8 rfl (l1 1 (sl W x X) ak Tya36 (lS x.length Tye36 (c0 ((x.length:Int) == 0) (m1 (.bool ((x.length:Int) == 0)) (cd h (fun aB h=>?_) (fun aB h=>?_))))))))
       ·refine o1 133 aB (o1 133 aB (o1 133 aB (o1 133 aB (ou 137 (ou 137 (ou 137 (o1 133 aB (m3 true vT (cg aB) (m1 vT (o0 143 (o0 143 (o0 143 (o0 143 (ou 147 (ou 147 (ou 147 (ou 147 (o0 143 (m3 true vT rfl ?_)))))))))))))))))))
        obtain ⟨⟨hM,hN,hO⟩,hP,h⟩:=ob h
        refine cv ([pp g 0,vT]) Tyb59 ((f59_ok k) hP (hG.mono (((((d.sub.trans e.sub).trans m).trans u).trans B).trans C)) (pt ak)) ?_
        rintro _ kO ⟨hQ,rfl,dR⟩
        have hR:=ca dR ak
        exact wt (⟨_,hQ,hM,hN,hO,fR,dR.sub,hR,h⟩)
       ·refine n1 133 aB (fd 0 Tyf42_0 rfl (n1 133 aB (l1 1 (iI p) ak Tya3 (n1 133 aB (c0 (p == 20) (n1 133 aB (m1 (.bool (p == 20)) (cd h (fun bb h=>?_) (fun bb h=>?_)))))))))
        ·refine n1 137 bb (fd 5 Tyf42_5 rfl (n1 137 bb (l1 1 (iI c) ak Tya3 (n1 137 bb (c0 (c == 1) (n1 133 aB (m3 true (.bool (c == 1)) (cg bb) (m3 false (.bool (c == 1)) (cg aB) (m1 (.bool (c == 1)) (cd h (fun aE h=>?_) (fun aE h=>?_)))))))))))
         ·refine o1 143 aE (o1 143 aE (o1 143 aE (o1 143 aE (ou 147 (ou 147 (ou 147 (ou 147 (o1 143 aE (m3 true vT (cg aE) ?_)))))))))
          obtain ⟨⟨hS,hT,hU⟩,hV,h⟩:=ob h
          refine cv ([pp g 0,vT]) Tyb59 ((f59_ok k) hV (hG.mono (((((d.sub.trans e.sub).trans m).trans u).trans B).trans C)) (pt ak)) ?_
          rintro _ kP ⟨hW,rfl,dS⟩
          have hX:=ca dS ak
          exact wt (⟨_,hW,hS,hT,hU,fR,dS.sub,hX,h⟩)
         ·refine n1 143 aE (fd 0 Tyf42_0 rfl (n1 143 aE (l1 1 (iI p) ak Tya3 (n1 143 aE (c0 (p == 24) (n1 143 aE (m1 (.bool (p == 24)) (cd h (fun aQ h=>?_) (fun aQ h=>?_)))))))))
          ·refine n1 147 aQ (fd 5 Tyf42_5 rfl (n1 147 aQ (l1 1 (iI c) ak Tya3 (n1 147 aQ (bdv (r:=(c.tmod 2)) rfl rfl (by decide) rfl (n1 147 aQ (c0 ((c.tmod 2) == 1) (n1 143 aE (m3 true (.bool ((c.tmod 2) == 1)) (cg aQ) (m3 false (.bool ((c.tmod 2) == 1)) (cg aE) ?_))))))))))
           obtain ⟨⟨hY,hZ,h0⟩,h1,h⟩:=ob h
           refine cv ([pp g 0,.bool ((c.tmod 2) == 1)]) Tyb59 ((f59_ok k) h1 (hG.mono (((((d.sub.trans e.sub).trans m).trans u).trans B).trans C)) (pt ak)) ?_
           rintro _ kQ ⟨h2,rfl,dT⟩
           have h3:=ca dT ak
           exact wt (⟨_,h2,hY,hZ,h0,fR,dT.sub,h3,h⟩)
          ·refine o1 147 aQ (o1 147 aQ (o1 147 aQ (o1 147 aQ (n1 143 aE (m3 false vN (cg aQ) (m3 false vN (cg aE) ?_))))))
           obtain ⟨⟨h4,h5,h6⟩,h7,h⟩:=ob h
           refine cv ([pp g 0,vN]) Tyb59 ((f59_ok k) h7 (hG.mono (((((d.sub.trans e.sub).trans m).trans u).trans B).trans C)) (pt ak)) ?_
           rintro _ kR ⟨h8,rfl,dU⟩
           have h9:=ca dU ak
           exact wt (⟨_,h8,h4,h5,h6,fR,dU.sub,h9,h⟩)
        ·refine o1 137 bb (o1 137 bb (o1 137 bb (n1 133 aB (m3 false vN (cg bb) (m3 false vN (cg aB) (m1 vN (n0 143 (fd 0 Tyf42_0 rfl (n0 143 (l1 1 (iI p) ak Tya3 (n0 143 (c0 (p == 24) (n0 143 (m1 (.bool (p == 24)) (cd h (fun aR h=>?_) (fun aR h=>?_))))))))))))))))
         ·refine n1 147 aR (fd 5 Tyf42_5 rfl (n1 147 aR (l1 1 (iI c) ak Tya3 (n1 147 aR (bdv (r:=(c.tmod 2)) rfl rfl (by decide) rfl (n1 147 aR (c0 ((c.tmod 2) == 1) (n0 143 (m3 true (.bool ((c.tmod 2) == 1)) (cg aR) (m3 false (.bool ((c.tmod 2) == 1)) rfl ?_))))))))))
          obtain ⟨⟨ia,ib,ic⟩,id,h⟩:=ob h
          refine cv ([pp g 0,.bool ((c.tmod 2) == 1)]) Tyb59 ((f59_ok k) id (hG.mono (((((d.sub.trans e.sub).trans m).trans u).trans B).trans C)) (pt ak)) ?_
          rintro _ kT ⟨ie,rfl,dV⟩
          have ig:=ca dV ak
          exact wt (⟨_,ie,ia,ib,ic,fR,dV.sub,ig,h⟩)
         ·refine o1 147 aR (o1 147 aR (o1 147 aR (o1 147 aR (n0 143 (m3 false vN (cg aR) (m3 false vN rfl ?_))))))
          obtain ⟨⟨ih,ii,ij⟩,ik,h⟩:=ob h
          refine cv ([pp g 0,vN]) Tyb59 ((f59_ok k) ik (hG.mono (((((d.sub.trans e.sub).trans m).trans u).trans B).trans C)) (pt ak)) ?_
          rintro _ kU ⟨il,rfl,dW⟩
          have im:=ca dW ak
          exact wt (⟨_,il,ih,ii,ij,fR,dW.sub,im,h⟩)
      ·rintro _ kV ⟨dQ,bZ,cC,cD,cG,rfl,ac,bd,h⟩
       unfold f90_j5 at h
       refine wp_cut (fun a w=>∃ dX bM b0 b1 b2,a=fr 307 (updL dX [(0,pp g 0),(2,iI s),(4,pp (zz wi) 0)])∧KH.sub bZ bM∧SR K bM wi w [.box bs g #[iI af,iI ag,.bool ae] 56] [.box bs g #[iI b0,iI b1,.bool b2] 56,.box (zz wi) (zz wi) (vS p f O A S c J q N U t V W x X Y y Z D l G).toArray 42]∧f90_j6 k F p f c q t x y l s b0 b1 b2=some r_) ?_ ?_
       ·refine wp_region_lit (m1 (pp g 0) (fd 9 Tyf42_9 rfl (l1 1 (sl Y y Z) bd Tya36 (lS y.length Tye36 (c0 ((y.length:Int) == 0) (m1 (.bool ((y.length:Int) == 0)) (cd h (fun aF h=>?_) (fun aF h=>?_))))))))
        ·refine o1 160 aF (o1 160 aF (o1 160 aF (o1 160 aF (ou 164 (ou 164 (ou 164 (o1 160 aF (m3 true vT (cg aF) ?_))))))))
         obtain ⟨⟨io,ip,iq⟩,ir,h⟩:=ob h
         refine cv ([pp g 0,vT]) Tyb59 ((f59_ok k) ir (hG.mono ((((((d.sub.trans e.sub).trans m).trans u).trans B).trans C).trans ac)) (pt bd)) ?_
         rintro _ kW ⟨it,rfl,dY⟩
         have iu:=ca dY bd
         exact wt (⟨_,it,io,ip,iq,fR,dY.sub,iu,h⟩)
        ·refine n1 160 aF (fd 0 Tyf42_0 rfl (n1 160 aF (l1 1 (iI p) bd Tya3 (n1 160 aF (c0 (p == 24) (n1 160 aF (m1 (.bool (p == 24)) (cd h (fun be h=>?_) (fun be h=>?_)))))))))
         ·refine n1 164 be (fd 5 Tyf42_5 rfl (n1 164 be (l1 1 (iI c) bd Tya3 (n1 164 be (c0 (decide (c ≥ 2)) (n1 160 aF (m3 true (.bool (decide (c ≥ 2))) (cg be) (m3 false (.bool (decide (c ≥ 2))) (cg aF) ?_))))))))
          obtain ⟨⟨iv,iw,ix⟩,iy,h⟩:=ob h
          refine cv ([pp g 0,.bool (decide (c ≥ 2))]) Tyb59 ((f59_ok k) iy (hG.mono ((((((d.sub.trans e.sub).trans m).trans u).trans B).trans C).trans ac)) (pt bd)) ?_
          rintro _ kX ⟨iz,rfl,dZ⟩
          have iA:=ca dZ bd
          exact wt (⟨_,iz,iv,iw,ix,fR,dZ.sub,iA,h⟩)
         ·refine o1 164 be (o1 164 be (o1 164 be (n1 160 aF (m3 false vN (cg be) (m3 false vN (cg aF) ?_)))))
          obtain ⟨⟨iB,iC,iD⟩,iE,h⟩:=ob h
          refine cv ([pp g 0,vN]) Tyb59 ((f59_ok k) iE (hG.mono ((((((d.sub.trans e.sub).trans m).trans u).trans B).trans C).trans ac)) (pt bd)) ?_
          rintro _ kY ⟨iF,rfl,d0⟩
          have iG:=ca d0 bd
          exact wt (⟨_,iF,iB,iC,iD,fR,d0.sub,iG,h⟩)
       ·rintro _ kZ ⟨dX,bM,b0,b1,b2,rfl,ah,ap,h⟩
        unfold f90_j6 at h
        refine wp_cut (fun a w=>∃ d1 b3 cH cI cJ,a=fr 307 (updL d1 [(0,pp g 0),(2,iI s),(4,pp (zz wi) 0)])∧KH.sub bM b3∧SR K b3 wi w [.box bs g #[iI af,iI ag,.bool ae] 56] [.box bs g #[iI cH,iI cI,.bool cJ] 56,.box (zz wi) (zz wi) (vS p f O A S c J q N U t V W x X Y y Z D l G).toArray 42]∧f90_j7 k F p q t x y l s cH cI cJ=some r_) ?_ ?_
        ·refine sr (fd 0 Tyf42_0 rfl (l1 1 (iI p) ap Tya3 (wt (wp_block (sr (c0 (p == 6) (m2 (.bool (p == 6)) (wt (cd h (fun cK h=>?_) (fun cK h=>?_))))))))))
         ·refine cT cK (wp_region_lit (m1 (pp g 0) (fd 5 Tyf42_5 rfl (l1 1 (iI c) ap Tya3 (c0 (c == 0) (m1 (.bool (c == 0)) (cd h (fun bf h=>?_) (fun bf h=>?_))))))))
          ·refine o1 179 bf (o1 179 bf (o1 179 bf (m3 true vT (cg bf) ?_)))
           obtain ⟨⟨iH,iJ,iK⟩,iL,h⟩:=ob h
           refine cv ([pp g 0,vT]) Tyb59 ((f59_ok k) iL (hG.mono (((((((d.sub.trans e.sub).trans m).trans u).trans B).trans C).trans ac).trans ah)) (pt ap)) ?_
           rintro _ k0 ⟨iM,rfl,d2⟩
           have iN:=ca d2 ap
           exact wpList_nil (blkN (thenN (⟨_,iM,iH,iJ,iK,fR,d2.sub,iN,h⟩)))
          ·refine n1 179 bf (fd 1 Tyf42_1 rfl (n1 179 bf (l1 1 (.string f) ap Tya9 (n1 179 bf (bsc (r:=(!seq f ⟨#[]⟩)) rfl rfl rfl (m3 false (.bool (!seq f ⟨#[]⟩)) (cg bf) ?_))))))
           obtain ⟨⟨iO,iP,iQ⟩,iR,h⟩:=ob h
           refine cv ([pp g 0,.bool (!seq f ⟨#[]⟩)]) Tyb59 ((f59_ok k) iR (hG.mono (((((((d.sub.trans e.sub).trans m).trans u).trans B).trans C).trans ac).trans ah)) (pt ap)) ?_
           rintro _ k1 ⟨iS,rfl,d3⟩
           have iT:=ca d3 ap
           exact wpList_nil (blkN (thenN (⟨_,iS,iO,iP,iQ,fR,d3.sub,iT,h⟩)))
         ·refine cF cK (sr (c0 (p == 24) (m2 (.bool (p == 24)) (wt (cd h (fun cL h=>?_) (fun cL h=>?_))))))
          ·refine cT cL (wp_region_lit (m1 (pp g 0) (fd 5 Tyf42_5 rfl (l1 1 (iI c) ap Tya3 (c0 (decide (c > 0)) (m1 (.bool (decide (c > 0))) (cd h (fun al h=>?_) (fun al h=>?_))))))))
           ·refine n1 191 al (fd 5 Tyf42_5 rfl (n1 191 al (l1 1 (iI c) ap Tya3 (n1 191 al (bdv (r:=(c.tmod 2)) rfl rfl (by decide) rfl (n1 191 al (c0 ((c.tmod 2) == 1) (n1 191 al (fd 1 Tyf42_1 rfl (n1 191 al (l1 1 (.string f) ap Tya9 (n1 191 al (bsc (r:=(!seq f ⟨#[]⟩)) rfl rfl rfl (n1 191 al (bbo (r:=(((c.tmod 2) == 1) == (!seq f ⟨#[]⟩))) Tyo4 rfl rfl rfl (m3 true (.bool (((c.tmod 2) == 1) == (!seq f ⟨#[]⟩))) (cg al) ?_))))))))))))))))
            obtain ⟨⟨iU,iV,iW⟩,iX,h⟩:=ob h
            refine cv ([pp g 0,.bool (((c.tmod 2) == 1) == (!seq f ⟨#[]⟩))]) Tyb59 ((f59_ok k) iX (hG.mono (((((((d.sub.trans e.sub).trans m).trans u).trans B).trans C).trans ac).trans ah)) (pt ap)) ?_
            rintro _ k2 ⟨iY,rfl,d4⟩
            have iZ:=ca d4 ap
            exact wpList_nil (blkN (thenN (⟨_,iY,iU,iV,iW,fR,d4.sub,iZ,h⟩)))
           ·refine o1 191 al (o1 191 al (o1 191 al (o1 191 al (o1 191 al (o1 191 al (o1 191 al (o1 191 al (m3 false vN (cg al) ?_))))))))
            obtain ⟨⟨i0,i1,i2⟩,i3,h⟩:=ob h
            refine cv ([pp g 0,vN]) Tyb59 ((f59_ok k) i3 (hG.mono (((((((d.sub.trans e.sub).trans m).trans u).trans B).trans C).trans ac).trans ah)) (pt ap)) ?_
            rintro _ k3 ⟨i4,rfl,d5⟩
            have i5:=ca d5 ap
            exact wpList_nil (blkN (thenN (⟨_,i4,i0,i1,i2,fR,d5.sub,i5,h⟩)))
          ·refine cF cL (sr (c0 (p == 28) (m2 (.bool (p == 28)) (wt (cd h (fun cM h=>?_) (fun cM h=>?_))))))
           ·refine cT cM (wp_region_lit (m1 (pp g 0) (fd 5 Tyf42_5 rfl (l1 1 (iI c) ap Tya3 (bdv (r:=(c.tmod 4)) rfl rfl (by decide) rfl (c0 (decide ((c.tmod 4) < 3)) ?_))))))
            obtain ⟨⟨i6,i7,i8⟩,i9,h⟩:=ob h
            refine cv ([pp g 0,.bool (decide ((c.tmod 4) < 3))]) Tyb59 ((f59_ok k) i9 (hG.mono (((((((d.sub.trans e.sub).trans m).trans u).trans B).trans C).trans ac).trans ah)) (pt ap)) ?_
            rintro _ k4 ⟨ja,rfl,d6⟩
            have jb:=ca d6 ap
            exact wpList_nil (blkN (thenN (⟨_,ja,i6,i7,i8,fR,d6.sub,jb,h⟩)))
           ·exact cF cM (wp_skip (blkN (thenN (⟨_,bM,b0,b1,b2,fR,kr,ap,h⟩))))
        ·rintro _ k5 ⟨d1,b3,cH,cI,cJ,rfl,au,bw,h⟩
         unfold f90_j7 at h
         refine wp_cut (fun a w=>∃ d7 bD b4 b5 b6,a=fr 307 (updL d7 [(0,pp g 0),(2,iI s),(4,pp (zz wi) 0)])∧KH.sub b3 bD∧SR K bD wi w [.box bs g #[iI af,iI ag,.bool ae] 56] [.box bs g #[iI b4,iI b5,.bool b6] 56,.box (zz wi) (zz wi) (vS p f O A S c J q N U t V W x X Y y Z D l G).toArray 42]∧f90_j8 k F q t x y l s b4 b5 b6=some r_) ?_ ?_
         ·refine wp_region_lit (m1 (pp g 0) (fd 0 Tyf42_0 rfl (l1 1 (iI p) bw Tya3 (c0 (p == 27) (fd 10 Tyf42_10 rfl (l1 1 (sl D l G) bw Tya40 (lS l.length Tye40 (c0 (decide ((l.length:Int) > 0)) (bbo (r:=((p == 27) == (decide ((l.length:Int) > 0)))) Tyo4 rfl rfl rfl (m1 (.bool ((p == 27) == (decide ((l.length:Int) > 0)))) (cd h (fun aS h=>?_) (fun aS h=>?_))))))))))))
          ·refine n1 219 aS (fd 10 Tyf42_10 rfl (n1 219 aS (l1 1 (sl D l G) bw Tya40 (n1 219 aS (lS l.length Tye40 (n1 219 aS (c0 (decide ((l.length:Int) ≤ 4)) (m3 true (.bool (decide ((l.length:Int) ≤ 4))) (cg aS) ?_))))))))
           obtain ⟨⟨jc,jd,je⟩,jf,h⟩:=ob h
           refine cv ([pp g 0,.bool (decide ((l.length:Int) ≤ 4))]) Tyb59 ((f59_ok k) jf (hG.mono ((((((((d.sub.trans e.sub).trans m).trans u).trans B).trans C).trans ac).trans ah).trans au)) (pt bw)) ?_
           rintro _ k6 ⟨jg,rfl,d8⟩
           have jh:=ca d8 bw
           exact wt (⟨_,jg,jc,jd,je,fR,d8.sub,jh,h⟩)
          ·refine o1 219 aS (o1 219 aS (o1 219 aS (o1 219 aS (m3 false vN (cg aS) ?_))))
           obtain ⟨⟨ji,jj,jk⟩,jl,h⟩:=ob h
           refine cv ([pp g 0,vN]) Tyb59 ((f59_ok k) jl (hG.mono ((((((((d.sub.trans e.sub).trans m).trans u).trans B).trans C).trans ac).trans ah).trans au)) (pt bw)) ?_
           rintro _ k7 ⟨jm,rfl,d9⟩
           have jn:=ca d9 bw
           exact wt (⟨_,jm,ji,jj,jk,fR,d9.sub,jn,h⟩)
         ·rintro _ k8 ⟨d7,bD,b4,b5,b6,rfl,aH,jo,h⟩
          unfold f90_j8 at h
          refine wp_cut (fun a w=>∃ ea cN cO cP cQ,a=fr 307 (updL ea [(0,pp g 0),(2,iI s),(4,pp (zz wi) 0)])∧KH.sub bD cN∧SR K cN wi w [.box bs g #[iI af,iI ag,.bool ae] 56] [.box bs g #[iI cO,iI cP,.bool cQ] 56,.box (zz wi) (zz wi) (vS p f O A S c J q N U t V W x X Y y Z D l G).toArray 42]∧f90_j9 k F t x y l s cO cP cQ=some r_) ?_ ?_
          ·refine sr (m2 (iI 0) (wt (wp_block (wp_loopG (fun g_ a w=>∃ ec bN bx,∃ (aM:Nat),∃ bO bP bm,g_=bx.length∧a=fr 307 (updL ec [(0,pp g 0),(2,iI s),(4,pp (zz wi) 0),(8,iI (aM:Int))])∧KH.sub bD bN∧SR K bN wi w [.box bs g #[iI af,iI ag,.bool ae] 56] [.box bs g #[iI bO,iI bP,.bool bm] 56,.box (zz wi) (zz wi) (vS p f O A S c J q N U t V W x X Y y Z D l G).toArray 42]∧q.drop aM=bx∧f90_l2 k F t x y l s bx aM bO bP bm=some r_) q.length ?_ ?_))))
           ·exact ⟨_,bD,q,0,b4,b5,b6,rfl,fR,kr,jo,List.drop_zero,h⟩
           ·rintro _ _ k9 ⟨ec,bN,bx,aM,bO,bP,bm,rfl,rfl,bE,bg,bF,h⟩
            rcases bx with _ | ⟨⟨ed,ee,ef,eg,eh⟩,bx⟩
            ·unfold f90_l2 at h
             exact wp_seq (sr (m1 (iI (aM:Int)) (fd 6 Tyf42_6 rfl (l1 1 (sl J q N) bg Tya39 (lS q.length Tye39 (bcm (r:=false) rfl rfl (congrArg some (drop_nil_lt bF)) (m1 vN (o0 231 (o0 231 (o0 231 (o0 231 (o0 231 (m3 false vN rfl (wt (cndF rfl (wp_exit (thenX (thenX (blkX (thenN (⟨_,bN,bO,bP,bm,fR,bE,bg,h⟩)))))))))))))))))))))
            ·unfold f90_l2 at h
             refine wp_seq (sr (m1 (iI (aM:Int)) (fd 6 Tyf42_6 rfl (l1 1 (sl J q N) bg Tya39 (lS q.length Tye39 (bcm (r:=true) rfl rfl (congrArg some (drop_cons_t bF)) (m1 vT (n0 231 (m1 (pp g 0) (n0 231 (nilc rfl (n0 231 (fd 2 Tyf56_2 rfl (n0 231 (l1 0 (.bool bm) bg Tya4 (n0 231 (uN bm (m3 true (.bool (!bm)) rfl (wt (cd h (fun cR h=>?_) (fun cR h=>?_)))))))))))))))))))))
             ·refine cT cR (wp_skip (thenN (wp_seq (wp_block (wp_region_lit (m1 (pp g 0) (fd 6 Tyf42_6 rfl (l1 1 (sl J q N) bg Tya39 (m1 (iI (aM:Int)) ?_)))))))))
              obtain ⟨jp,jq,la,jr,lc,js,ei⟩:=((me c2 ((((((((((d.sub.trans e.sub).trans m).trans u).trans B).trans C).trans ac).trans ah).trans au).trans aH).trans bE))).row.at_ (drop_cons_at bF)
              obtain ⟨ej,ek,rfl,ld,lf⟩:=RDExpr.open ei
              refine idxN (b:=jp) (o:=jq) (i:=aM) Tye39 Tys107 rfl jr rfl (drop_cons_lt bF) (lD (vE ed ee ef eg ej eh ek) Tya107 Tys107 rfl (fun j v hj=>bg.cell (kr.cell (js j v hj))) (m1 (iI s) (bar (r:=(w64 (s + 1))) rfl rfl rfl ?_)))
              obtain ⟨⟨jt,ju,jv⟩,jw,h⟩:=ob h
              refine cv ([pp g 0,.agg (vE ed ee ef eg ej eh ek).toArray,iI (w64 (s + 1)),vN]) Tyb110 ((f110_ok k) jw (hG.mono ((((((((((d.sub.trans e.sub).trans m).trans u).trans B).trans C).trans ac).trans ah).trans au).trans aH).trans bE)) ei (pt bg)) ?_
              rintro _ lg ⟨jx,rfl,el⟩
              have jy:=ca el bg
              exact wpList_nil (blkN (thenN (wp_region_lit (m1 (iI (aM:Int)) (bar (r:=((aM + 1:Nat):Int)) rfl rfl (inc_ok (le_big (((me c2 ((((((((((d.sub.trans e.sub).trans m).trans u).trans B).trans C).trans ac).trans ah).trans au).trans aH).trans bE))).len) (by decide) (drop_cons_lt bF))) (m2 (iI ((aM + 1:Nat):Int)) (wt (⟨_,Nat.lt_succ_self _,_,jx,bx,aM + 1,jt,ju,jv,rfl,fR,(bE.trans el.sub),jy,drop_cons_next bF,h⟩))))))))
             ·exact cF cR (wp_exit (thenX (thenX (blkX (thenN (⟨_,bN,bO,bP,bm,fR,bE,bg,h⟩))))))
          ·rintro _ lh ⟨ea,cN,cO,cP,cQ,rfl,aT,cS,h⟩
           unfold f90_j9 at h
           refine sr (m1 (pp g 0) (fd 7 Tyf42_7 rfl (l1 1 (sl U t V) cS Tya36 (m1 (iI s) (bar (r:=(w64 (s + 1))) rfl rfl rfl ?_)))))
           obtain ⟨⟨li,lj,lk⟩,jz,h⟩:=ob h
           refine cv ([pp g 0,sl U t V,iI (w64 (s + 1))]) Tyb61 (IH61 jz (hG.mono ((((((((((d.sub.trans e.sub).trans m).trans u).trans B).trans C).trans ac).trans ah).trans au).trans aH).trans aT)) (ms eJ ((((((((((d.sub.trans e.sub).trans m).trans u).trans B).trans C).trans ac).trans ah).trans au).trans aH).trans aT)) (pt cS)) ?_
           rintro _ ll ⟨lm,rfl,aW⟩
           have cU:=ca aW cS
           refine wt (sr (m1 (pp g 0) (fd 8 Tyf42_8 rfl (l1 1 (sl W x X) cU Tya36 (m1 (iI s) (bar (r:=(w64 (s + 1))) rfl rfl rfl ?_))))))
           obtain ⟨⟨ln,lo,lp⟩,jA,h⟩:=ob h
           refine cv ([pp g 0,sl W x X,iI (w64 (s + 1))]) Tyb61 (IH61 jA (hG.mono (((((((((((d.sub.trans e.sub).trans m).trans u).trans B).trans C).trans ac).trans ah).trans au).trans aH).trans aT).trans aW.sub)) (ms eK (((((((((((d.sub.trans e.sub).trans m).trans u).trans B).trans C).trans ac).trans ah).trans au).trans aH).trans aT).trans aW.sub)) (pt cU)) ?_
           rintro _ lq ⟨lr,rfl,bn⟩
           have cV:=ca bn cU
           refine wt (sr (m1 (pp g 0) (fd 9 Tyf42_9 rfl (l1 1 (sl Y y Z) cV Tya36 (m1 (iI s) (bar (r:=(w64 (s + 1))) rfl rfl rfl ?_))))))
           obtain ⟨⟨jB,jC,jD⟩,jE,h⟩:=ob h
           refine cv ([pp g 0,sl Y y Z,iI (w64 (s + 1))]) Tyb61 (IH61 jE (hG.mono ((((((((((((d.sub.trans e.sub).trans m).trans u).trans B).trans C).trans ac).trans ah).trans au).trans aH).trans aT).trans aW.sub).trans bn.sub)) (ms eL ((((((((((((d.sub.trans e.sub).trans m).trans u).trans B).trans C).trans ac).trans ah).trans au).trans aH).trans aT).trans aW.sub).trans bn.sub)) (pt cV)) ?_
           rintro _ ls ⟨em,rfl,bG⟩
           have jF:=ca bG cV
           refine wt (sr (m2 (iI 0) (wt (wp_block (wp_loopG (fun g_ a w=>∃ en bH bo,∃ (ai:Nat),∃ cW cX bI,g_=bo.length∧a=fr 307 (updL en [(0,pp g 0),(2,iI s),(4,pp (zz wi) 0),(9,iI (ai:Int))])∧KH.sub em bH∧SR K bH wi w [.box bs g #[iI af,iI ag,.bool ae] 56] [.box bs g #[iI cW,iI cX,.bool bI] 56,.box (zz wi) (zz wi) (vS p f O A S c J q N U t V W x X Y y Z D l G).toArray 42]∧l.drop ai=bo∧f90_l1 k F l s bo ai cW cX bI=some r_) l.length ?_ ?_)))))
           ·exact ⟨_,em,l,0,jB,jC,jD,rfl,fR,kr,jF,List.drop_zero,h⟩
           ·rintro _ _ lu ⟨en,bH,bo,ai,cW,cX,bI,rfl,rfl,bJ,bh,bz,h⟩
            rcases bo with _ | ⟨⟨bQ,eo,ep,eq,es⟩,bo⟩
            ·unfold f90_l1 at h
             refine wp_seq (sr (m1 (iI (ai:Int)) (fd 10 Tyf42_10 rfl (l1 1 (sl D l G) bh Tya40 (lS l.length Tye40 (bcm (r:=false) rfl rfl (congrArg some (drop_nil_lt bz)) (m1 vN (o0 272 (o0 272 (o0 272 (o0 272 (o0 272 (m3 false vN rfl (wt (cndF rfl (wp_exit (thenX (thenX (blkX ?_)))))))))))))))))))
             cases (oi h).trans hr_
             exact end0 rfl ⟨bH,rfl,(bh.sel [0])⟩
            ·unfold f90_l1 at h
             refine wp_seq (sr (m1 (iI (ai:Int)) (fd 10 Tyf42_10 rfl (l1 1 (sl D l G) bh Tya40 (lS l.length Tye40 (bcm (r:=true) rfl rfl (congrArg some (drop_cons_t bz)) (m1 vT (n0 272 (m1 (pp g 0) (n0 272 (nilc rfl (n0 272 (fd 2 Tyf56_2 rfl (n0 272 (l1 0 (.bool bI) bh Tya4 (n0 272 (uN bI (m3 true (.bool (!bI)) rfl (wt (cd h (fun cY h=>?_) (fun cY h=>?_)))))))))))))))))))))
             ·refine cT cY (wp_skip (thenN (wp_cut (fun a w=>∃ et b7 b8 b9 cb,a=fr 307 (updL et [(0,pp g 0),(2,iI s),(4,pp (zz wi) 0),(9,iI (ai:Int))])∧KH.sub bH b7∧SR K b7 wi w [.box bs g #[iI af,iI ag,.bool ae] 56] [.box bs g #[iI b8,iI b9,.bool cb] 56,.box (zz wi) (zz wi) (vS p f O A S c J q N U t V W x X Y y Z D l G).toArray 42]∧f90_j10 k F ai b8 b9 cb (f90_l1 k F l s bo)=some r_) ?_ ?_)))
              ·refine wp_block (sr (m1 (pp g 0) (fd 10 Tyf42_10 rfl (l1 1 (sl D l G) bh Tya40 (m1 (iI (ai:Int)) ?_)))))
               obtain ⟨eu,cZ,lv,ew,lw,ex,ey⟩:=((mc c4 ((((((((((((((d.sub.trans e.sub).trans m).trans u).trans B).trans C).trans ac).trans ah).trans au).trans aH).trans aT).trans aW.sub).trans bn.sub).trans bG.sub).trans bJ))).row.at_ (drop_cons_at bz)
               obtain ⟨ez,eA,eB,eC,rfl,lx,ly,lz⟩:=RDCase.open ey
               refine idxN (b:=eu) (o:=cZ) (i:=ai) Tye40 Tys87 rfl ew rfl (drop_cons_lt bz) (lD (vC bQ eo ep ez eq eA eB es eC) Tya87 Tys87 rfl (fun j v hj=>bh.cell (kr.cell (ex j v hj))) (m1 (iI s) (bar (r:=(w64 (s + 1))) rfl rfl rfl ?_)))
               obtain ⟨⟨lA,lB,lC⟩,jG,h⟩:=ob h
               refine cv ([pp g 0,.agg (vC bQ eo ep ez eq eA eB es eC).toArray,iI (w64 (s + 1))]) Tyb111 (IH111 jG (hG.mono ((((((((((((((d.sub.trans e.sub).trans m).trans u).trans B).trans C).trans ac).trans ah).trans au).trans aH).trans aT).trans aW.sub).trans bn.sub).trans bG.sub).trans bJ)) ey (pt bh)) ?_
               rintro _ lE ⟨lF,rfl,bK⟩
               have bA:=ca bK bh
               refine wt (wp_region_lit (m1 (pp g 0) (fd 10 Tyf42_10 rfl (l1 1 (sl D l G) bA Tya40 (m1 (iI (ai:Int)) (idxN (b:=eu) (o:=cZ) (i:=ai) Tye40 Tys87 rfl ew rfl (drop_cons_lt bz) (fd (cZ + ai * 5 + 0) Tyf87_0 rfl (ld1 (v:=iI bQ) Tya3 rfl (bA.cell (bK.sub.cell (ex 0 _ rfl))) (c0 (bQ != 4) (m1 (.bool (bQ != 4)) (cd h (fun aG h=>?_) (fun aG h=>?_))))))))))))
               ·refine o1 298 aG (o1 298 aG (o1 298 aG (o1 298 aG (o1 298 aG (o1 298 aG (m3 true vT (cg aG) ?_))))))
                obtain ⟨⟨jH,jI,jJ⟩,jK,h⟩:=ob h
                refine cv ([pp g 0,vT]) Tyb59 ((f59_ok k) jK (hG.mono (((((((((((((((d.sub.trans e.sub).trans m).trans u).trans B).trans C).trans ac).trans ah).trans au).trans aH).trans aT).trans aW.sub).trans bn.sub).trans bG.sub).trans bJ).trans bK.sub)) (pt bA)) ?_
                rintro _ lG ⟨jL,rfl,eD⟩
                have jM:=ca eD bA
                exact wpList_nil (blkN (thenN (⟨_,jL,jH,jI,jJ,fR,(bK.sub.trans eD.sub),jM,h⟩)))
               ·refine n1 298 aG (m1 (iI (ai:Int)) (n1 298 aG (fd 10 Tyf42_10 rfl (n1 298 aG (l1 1 (sl D l G) bA Tya40 (n1 298 aG (lS l.length Tye40 (n1 298 aG (bar (r:=(w64 ((l.length:Int) - 1))) rfl rfl rfl (n1 298 aG (c0 ((ai:Int) == (w64 ((l.length:Int) - 1))) (m3 false (.bool ((ai:Int) == (w64 ((l.length:Int) - 1)))) (cg aG) ?_))))))))))))
                obtain ⟨⟨jN,jO,jP⟩,jQ,h⟩:=ob h
                refine cv ([pp g 0,.bool ((ai:Int) == (w64 ((l.length:Int) - 1)))]) Tyb59 ((f59_ok k) jQ (hG.mono (((((((((((((((d.sub.trans e.sub).trans m).trans u).trans B).trans C).trans ac).trans ah).trans au).trans aH).trans aT).trans aW.sub).trans bn.sub).trans bG.sub).trans bJ).trans bK.sub)) (pt bA)) ?_
                rintro _ lH ⟨jR,rfl,eE⟩
                have jS:=ca eE bA
                exact wpList_nil (blkN (thenN (⟨_,jR,jN,jO,jP,fR,(bK.sub.trans eE.sub),jS,h⟩)))
              ·rintro _ lI ⟨et,b7,b8,b9,cb,rfl,jT,jU,h⟩
               unfold f90_j10 at h
               exact wp_region_lit (m1 (iI (ai:Int)) (bar (r:=((ai + 1:Nat):Int)) rfl rfl (inc_ok (le_big (((mc c4 ((((((((((((((d.sub.trans e.sub).trans m).trans u).trans B).trans C).trans ac).trans ah).trans au).trans aH).trans aT).trans aW.sub).trans bn.sub).trans bG.sub).trans bJ))).len) (by decide) (drop_cons_lt bz))) (m2 (iI ((ai + 1:Nat):Int)) (wt (⟨_,Nat.lt_succ_self _,_,b7,bo,ai + 1,b8,b9,cb,rfl,fR,(bJ.trans jT),jU,drop_cons_next bz,h⟩)))))
             ·refine cF cY (wp_exit (thenX (thenX (blkX ?_))))
              cases (oi h).trans hr_
              exact end0 rfl ⟨bH,rfl,(bh.sel [0])⟩
theorem f111_b_ok (k:Nat) (F:Fam61) (IH61:f61_spec F.f61) (IH90:f90_spec F.f90) (IH111:f111_spec F.f111):f111_spec (f111_b k F):=by
 unfold f111_spec
 intro K wi g bs V W X bb cC f cD cG cH h hG bd be
 obtain ⟨r_,hr_,h⟩:=rz h
 obtain ⟨c,e,s,d,p⟩:=bb
 obtain ⟨x,y,B,C,rfl,bf,aB,bg⟩:=RDCase.open bd
 refine enter Tryz.func111 rfl (n:=88) rfl ?_
 unfold f111_b at h
 refine sr (bxoC (cs:=(vC c e s x d y B p C).toArray) be rfl rfl (fun bh bi=>(wt (sr (m1 (pp g 0) (m1 (iI f) ?_))))))
 have aE:=p10 bi
 obtain ⟨⟨aF,aG,aH⟩,bj,h⟩:=ob h
 refine cv ([pp g 0,iI f]) Tyb60 ((f60_ok k) bj (hG.mono kr) (pt aE)) ?_
 rintro _ cI ⟨aI,rfl,l⟩
 have aj:=ca l aE
 refine wt (sr (m2 (iI 1) (wt (wp_cut (fun a w=>∃ aJ Y,a=fr 88 (updL aJ [(0,pp g 0),(2,iI f),(4,pp (zz wi) 0),(6,iI Y)])∧SR K aI wi w [.box bs g #[iI V,iI W,.bool X] 56] [.box bs g #[iI aF,iI aG,.bool aH] 56,.box (zz wi) (zz wi) (vC c e s x d y B p C).toArray 87]∧f111_j1 k F c e s d p f aF aG aH Y=some r_) ?_ ?_))))
 ·refine sr (fd 0 Tyf87_0 rfl (l1 1 (iI c) aj Tya3 (wt (wp_block (sr (c0 (c == 2) (m2 (.bool (c == 2)) (wt (cd h (fun ao h=>?_) (fun ao h=>?_))))))))))
  ·exact cT ao (wp_region_lit (m2 (iI 2) (wpList_nil (blkN (thenN (⟨_,2,fR,aj,h⟩))))))
  ·refine cF ao (sr (c0 (c == 4) (m2 (.bool (c == 4)) (wt (cd h (fun ap h=>?_) (fun ap h=>?_))))))
   ·exact cT ap (wp_region_lit (m2 (iI 0) (wpList_nil (blkN (thenN (⟨_,0,fR,aj,h⟩))))))
   ·exact cF ap (wp_skip (blkN (thenN (⟨_,1,fR,aj,h⟩))))
 ·rintro _ cJ ⟨aJ,Y,rfl,t,h⟩
  unfold f111_j1 at h
  refine wp_cut (fun a w=>∃ aK ak aq ar au,a=fr 88 (updL aK [(0,pp g 0),(2,iI f),(4,pp (zz wi) 0)])∧KH.sub aI ak∧SR K ak wi w [.box bs g #[iI V,iI W,.bool X] 56] [.box bs g #[iI aq,iI ar,.bool au] 56,.box (zz wi) (zz wi) (vC c e s x d y B p C).toArray 87]∧f111_j2 k F c e d p f aq ar au=some r_) ?_ ?_
  ·refine wp_region_lit (m1 (pp g 0) (fd 0 Tyf87_0 rfl (l1 1 (iI c) t Tya3 (c0 (decide (c ≥ 1)) (m1 (.bool (decide (c ≥ 1))) (cd h (fun D h=>?_) (fun D h=>?_)))))))
   ·refine n1 21 D (fd 0 Tyf87_0 rfl (n1 21 D (l1 1 (iI c) t Tya3 (n1 21 D (c0 (decide (c ≤ 4)) (m3 true (.bool (decide (c ≤ 4))) (cg D) (m1 (.bool (decide (c ≤ 4))) (cd h (fun q h=>?_) (fun q h=>?_)))))))))
    ·refine n1 26 q (fd 3 Tyf87_3 rfl (n1 26 q (l1 1 (sl x d y) t Tya39 (n1 26 q (lS d.length Tye39 (n1 26 q (m1 (iI Y) (n1 26 q (c0 ((d.length:Int) == Y) (m3 true (.bool ((d.length:Int) == Y)) (cg q) (m1 (.bool ((d.length:Int) == Y)) (cd h (fun G h=>?_) (fun G h=>?_)))))))))))))
     ·refine n1 33 G (fd 2 Tyf87_2 rfl (n1 33 G (l1 1 (iI s) t Tya3 (n1 33 G (c0 (s == 0) (m3 true (.bool (s == 0)) (cg G) ?_))))))
      obtain ⟨⟨bk,bm,bn⟩,bo,h⟩:=ob h
      refine cv ([pp g 0,.bool (s == 0)]) Tyb59 ((f59_ok k) bo (hG.mono l.sub) (pt t)) ?_
      rintro _ cK ⟨bp,rfl,aL⟩
      have bq:=ca aL t
      exact wt (⟨_,bp,bk,bm,bn,fR,aL.sub,bq,h⟩)
     ·refine o1 33 G (o1 33 G (o1 33 G (m3 false vN (cg G) ?_)))
      obtain ⟨⟨br,bu,bv⟩,bw,h⟩:=ob h
      refine cv ([pp g 0,vN]) Tyb59 ((f59_ok k) bw (hG.mono l.sub) (pt t)) ?_
      rintro _ cL ⟨bx,rfl,aM⟩
      have bz:=ca aM t
      exact wt (⟨_,bx,br,bu,bv,fR,aM.sub,bz,h⟩)
    ·refine o1 26 q (o1 26 q (o1 26 q (o1 26 q (o1 26 q (m3 false vN (cg q) (m1 vN (o0 33 (o0 33 (o0 33 (m3 false vN rfl ?_))))))))))
     obtain ⟨⟨bA,bB,bC⟩,bD,h⟩:=ob h
     refine cv ([pp g 0,vN]) Tyb59 ((f59_ok k) bD (hG.mono l.sub) (pt t)) ?_
     rintro _ cM ⟨bE,rfl,aN⟩
     have bF:=ca aN t
     exact wt (⟨_,bE,bA,bB,bC,fR,aN.sub,bF,h⟩)
   ·refine o1 21 D (o1 21 D (o1 21 D (m3 false vN (cg D) (m1 vN (o0 26 (o0 26 (o0 26 (o0 26 (o0 26 (m3 false vN rfl (m1 vN (o0 33 (o0 33 (o0 33 (m3 false vN rfl ?_)))))))))))))))
    obtain ⟨⟨bG,bH,bI⟩,bJ,h⟩:=ob h
    refine cv ([pp g 0,vN]) Tyb59 ((f59_ok k) bJ (hG.mono l.sub) (pt t)) ?_
    rintro _ cN ⟨bK,rfl,aP⟩
    have bL:=ca aP t
    exact wt (⟨_,bK,bG,bH,bI,fR,aP.sub,bL,h⟩)
  ·rintro _ cO ⟨aK,ak,aq,ar,au,rfl,z,A,h⟩
   unfold f111_j2 at h
   refine wp_cut (fun a w=>∃ aQ ac al am an,a=fr 88 (updL aQ [(0,pp g 0),(2,iI f),(4,pp (zz wi) 0)])∧KH.sub ak ac∧SR K ac wi w [.box bs g #[iI V,iI W,.bool X] 56] [.box bs g #[iI al,iI am,.bool an] 56,.box (zz wi) (zz wi) (vC c e s x d y B p C).toArray 87]∧f111_j3 k F d p f al am an=some r_) ?_ ?_
   ·refine wp_region_lit (m1 (pp g 0) (fd 0 Tyf87_0 rfl (l1 1 (iI c) A Tya3 (c0 (c == 1) (m1 (.bool (c == 1)) (cd h (fun I h=>?_) (fun I h=>?_)))))))
    ·refine n1 43 I (fd 1 Tyf87_1 rfl (n1 43 I (l1 1 (.string e) A Tya9 (n1 43 I ?_))))
     obtain ⟨aR,bM,h⟩:=ob h
     refine cv ([.string e]) Tyb34 ((f34_ok k) bM (hG.mono (l.sub.trans z)) bf (pt A)) ?_
     rintro _ cP ⟨cQ,rfl,Z⟩
     have S:=ca Z A
     refine m3 true (.bool aR) (cg I) (m1 (.bool aR) (cd h (fun m h=>?_) (fun m h=>?_)))
     ·refine o1 48 m (o1 48 m (o1 48 m (o1 48 m (ou 52 (ou 52 (ou 52 (o1 48 m (m3 true vT (cg m) ?_))))))))
      obtain ⟨⟨bN,bO,bP⟩,bQ,h⟩:=ob h
      refine cv ([pp g 0,vT]) Tyb59 ((f59_ok k) bQ (hG.mono ((l.sub.trans z).trans Z.sub)) (pt S)) ?_
      rintro _ cR ⟨bR,rfl,aS⟩
      have bS:=ca aS S
      exact wt (⟨_,bR,bN,bO,bP,fR,(Z.sub.trans aS.sub),bS,h⟩)
     ·refine n1 48 m (fd 0 Tyf87_0 rfl (n1 48 m (l1 1 (iI c) S Tya3 (n1 48 m (c0 (c != 1) (n1 48 m (m1 (.bool (c != 1)) (cd h (fun J h=>?_) (fun J h=>?_)))))))))
      ·refine n1 52 J (fd 1 Tyf87_1 rfl (n1 52 J (l1 1 (.string e) S Tya9 (n1 52 J (bsc (r:=(seq e ⟨#[]⟩)) rfl rfl rfl (n1 48 m (m3 true (.bool (seq e ⟨#[]⟩)) (cg J) (m3 false (.bool (seq e ⟨#[]⟩)) (cg m) ?_))))))))
       obtain ⟨⟨bT,bU,bV⟩,bW,h⟩:=ob h
       refine cv ([pp g 0,.bool (seq e ⟨#[]⟩)]) Tyb59 ((f59_ok k) bW (hG.mono ((l.sub.trans z).trans Z.sub)) (pt S)) ?_
       rintro _ cS ⟨bX,rfl,aT⟩
       have bY:=ca aT S
       exact wt (⟨_,bX,bT,bU,bV,fR,(Z.sub.trans aT.sub),bY,h⟩)
      ·refine o1 52 J (o1 52 J (o1 52 J (n1 48 m (m3 false vN (cg J) (m3 false vN (cg m) ?_)))))
       obtain ⟨⟨bZ,b0,b1⟩,b2,h⟩:=ob h
       refine cv ([pp g 0,vN]) Tyb59 ((f59_ok k) b2 (hG.mono ((l.sub.trans z).trans Z.sub)) (pt S)) ?_
       rintro _ cU ⟨b3,rfl,aU⟩
       have b4:=ca aU S
       exact wt (⟨_,b3,bZ,b0,b1,fR,(Z.sub.trans aU.sub),b4,h⟩)
    ·refine o1 43 I (o1 43 I (o1 43 I (m3 false vN (cg I) (m1 vN (n0 48 (fd 0 Tyf87_0 rfl (n0 48 (l1 1 (iI c) A Tya3 (n0 48 (c0 (c != 1) (n0 48 (m1 (.bool (c != 1)) (cd h (fun N h=>?_) (fun N h=>?_))))))))))))))
     ·refine n1 52 N (fd 1 Tyf87_1 rfl (n1 52 N (l1 1 (.string e) A Tya9 (n1 52 N (bsc (r:=(seq e ⟨#[]⟩)) rfl rfl rfl (n0 48 (m3 true (.bool (seq e ⟨#[]⟩)) (cg N) (m3 false (.bool (seq e ⟨#[]⟩)) rfl ?_))))))))
      obtain ⟨⟨b5,b6,b7⟩,b8,h⟩:=ob h
      refine cv ([pp g 0,.bool (seq e ⟨#[]⟩)]) Tyb59 ((f59_ok k) b8 (hG.mono (l.sub.trans z)) (pt A)) ?_
      rintro _ cV ⟨b9,rfl,aV⟩
      have cb:=ca aV A
      exact wt (⟨_,b9,b5,b6,b7,fR,aV.sub,cb,h⟩)
     ·refine o1 52 N (o1 52 N (o1 52 N (n0 48 (m3 false vN (cg N) (m3 false vN rfl ?_)))))
      obtain ⟨⟨cc,ce,cf⟩,ch,h⟩:=ob h
      refine cv ([pp g 0,vN]) Tyb59 ((f59_ok k) ch (hG.mono (l.sub.trans z)) (pt A)) ?_
      rintro _ cW ⟨ci,rfl,aW⟩
      have cj:=ca aW A
      exact wt (⟨_,ci,cc,ce,cf,fR,aW.sub,cj,h⟩)
   ·rintro _ cX ⟨aQ,ac,al,am,an,rfl,af,ck,h⟩
    unfold f111_j3 at h
    refine wp_cut (fun a w=>∃ aX av aw ax ay,a=fr 88 (updL aX [(0,pp g 0),(2,iI f),(4,pp (zz wi) 0)])∧KH.sub ac av∧SR K av wi w [.box bs g #[iI V,iI W,.bool X] 56] [.box bs g #[iI aw,iI ax,.bool ay] 56,.box (zz wi) (zz wi) (vC c e s x d y B p C).toArray 87]∧f111_j4 k F p f aw ax ay=some r_) ?_ ?_
    ·refine sr (m2 (iI 0) (wt (wp_block (wp_loopG (fun g_ a w=>∃ aY ag ab,∃ (u:Nat),∃ ah ai U,g_=ab.length∧a=fr 88 (updL aY [(0,pp g 0),(2,iI f),(4,pp (zz wi) 0),(7,iI (u:Int))])∧KH.sub ac ag∧SR K ag wi w [.box bs g #[iI V,iI W,.bool X] 56] [.box bs g #[iI ah,iI ai,.bool U] 56,.box (zz wi) (zz wi) (vC c e s x d y B p C).toArray 87]∧d.drop u=ab∧f111_l1 k F p f ab u ah ai U=some r_) d.length ?_ ?_))))
     ·exact ⟨_,ac,d,0,al,am,an,rfl,fR,kr,ck,List.drop_zero,h⟩
     ·rintro _ _ cY ⟨aY,ag,ab,u,ah,ai,U,rfl,rfl,ad,O,ae,h⟩
      rcases ab with _ | ⟨⟨aZ,a0,a3,a4,a5⟩,ab⟩
      ·unfold f111_l1 at h
       exact wp_seq (sr (m1 (iI (u:Int)) (fd 3 Tyf87_3 rfl (l1 1 (sl x d y) O Tya39 (lS d.length Tye39 (bcm (r:=false) rfl rfl (congrArg some (drop_nil_lt ae)) (m1 vN (o0 64 (o0 64 (o0 64 (o0 64 (o0 64 (m3 false vN rfl (wt (cndF rfl (wp_exit (thenX (thenX (blkX (thenN (⟨_,ag,ah,ai,U,fR,ad,O,h⟩)))))))))))))))))))))
      ·unfold f111_l1 at h
       refine wp_seq (sr (m1 (iI (u:Int)) (fd 3 Tyf87_3 rfl (l1 1 (sl x d y) O Tya39 (lS d.length Tye39 (bcm (r:=true) rfl rfl (congrArg some (drop_cons_t ae)) (m1 vT (n0 64 (m1 (pp g 0) (n0 64 (nilc rfl (n0 64 (fd 2 Tyf56_2 rfl (n0 64 (l1 0 (.bool U) O Tya4 (n0 64 (uN U (m3 true (.bool (!U)) rfl (wt (cd h (fun az h=>?_) (fun az h=>?_)))))))))))))))))))))
       ·refine cT az (wp_skip (thenN (wp_seq (wp_block (wp_region_lit (m1 (pp g 0) (fd 3 Tyf87_3 rfl (l1 1 (sl x d y) O Tya39 (m1 (iI (u:Int)) ?_)))))))))
        obtain ⟨cl,cm,cZ,cn,c3,co,a6⟩:=((me aB (((l.sub.trans z).trans af).trans ad))).row.at_ (drop_cons_at ae)
        obtain ⟨a7,a8,rfl,c4,c6⟩:=RDExpr.open a6
        refine idxN (b:=cl) (o:=cm) (i:=u) Tye39 Tys107 rfl cn rfl (drop_cons_lt ae) (lD (vE aZ a0 a3 a4 a7 a5 a8) Tya107 Tys107 rfl (fun j v hj=>O.cell (kr.cell (co j v hj))) (m1 (iI f) (bar (r:=(w64 (f + 1))) rfl rfl rfl ?_)))
        obtain ⟨⟨cq,cr,ct⟩,cu,h⟩:=ob h
        refine cv ([pp g 0,.agg (vE aZ a0 a3 a4 a7 a5 a8).toArray,iI (w64 (f + 1)),vN]) Tyb110 ((f110_ok k) cu (hG.mono (((l.sub.trans z).trans af).trans ad)) a6 (pt O)) ?_
        rintro _ c7 ⟨cw,rfl,a9⟩
        have cx:=ca a9 O
        exact wpList_nil (blkN (thenN (wp_region_lit (m1 (iI (u:Int)) (bar (r:=((u + 1:Nat):Int)) rfl rfl (inc_ok (le_big (((me aB (((l.sub.trans z).trans af).trans ad))).len) (by decide) (drop_cons_lt ae))) (m2 (iI ((u + 1:Nat):Int)) (wt (⟨_,Nat.lt_succ_self _,_,cw,ab,u + 1,cq,cr,ct,rfl,fR,(ad.trans a9.sub),cx,drop_cons_next ae,h⟩))))))))
       ·exact cF az (wp_exit (thenX (thenX (blkX (thenN (⟨_,ag,ah,ai,U,fR,ad,O,h⟩))))))
    ·rintro _ c8 ⟨aX,av,aw,ax,ay,rfl,ba,aA,h⟩
     unfold f111_j4 at h
     refine wp_region_lit (m1 (pp g 0) (fd 4 Tyf87_4 rfl (l1 1 (sl B p C) aA Tya36 (m1 (iI f) (bar (r:=(w64 (f + 1))) rfl rfl rfl ?_)))))
     obtain ⟨⟨c9,da,db⟩,cy,h⟩:=ob h
     refine cv ([pp g 0,sl B p C,iI (w64 (f + 1))]) Tyb61 (IH61 cy (hG.mono (((l.sub.trans z).trans af).trans ba)) (ms bg (((l.sub.trans z).trans af).trans ba)) (pt aA)) ?_
     rintro _ dc ⟨cz,rfl,cA⟩
     have cB:=ca cA aA
     refine wpList_nil ?_
     cases (oi h).trans hr_
     exact end0 rfl ⟨cz,rfl,(cB.sel [0])⟩
theorem fam61_ok (k0:Nat) : ∀ k,f61_spec (fam61 k0 k).f61∧f90_spec (fam61 k0 k).f90∧f111_spec (fam61 k0 k).f111:=by
 intro k
 induction k with
 | zero=>exact ⟨(by unfold f61_spec; intro _ _ _ _ _ _ _ _ _ _ _ _ _ _ h_; cases h_),(by unfold f90_spec; intro _ _ _ _ _ _ _ _ _ _ _ _ _ h_; cases h_),(by unfold f111_spec; intro _ _ _ _ _ _ _ _ _ _ _ _ _ h_; cases h_)⟩
 | succ k ih=>exact ⟨f61_b_ok k0 (fam61 k0 k) ih.1 ih.2.1 ih.2.2,f90_b_ok k0 (fam61 k0 k) ih.1 ih.2.1 ih.2.2,f111_b_ok k0 (fam61 k0 k) ih.1 ih.2.1 ih.2.2⟩
theorem f61_ok (k:Nat):f61_spec (f61 k):=(fam61_ok k k).1
theorem f90_ok (k:Nat):f90_spec (f90 k):=(fam61_ok k k).2.1
theorem f111_ok (k:Nat):f111_spec (f111 k):=(fam61_ok k k).2.2
theorem f32_b_ok (k:Nat):f32_spec (f32_b k):=by
 unfold f32_spec
 intro K wi bF dz dA h hG bG bH
 obtain ⟨r_,hr_,h⟩:=rz h
 obtain ⟨d⟩:=bF
 obtain ⟨A,c1,rfl,a6⟩:=RDProgram.open bG
 refine enter Tryz.func32 rfl (n:=126) rfl ?_
 unfold f32_b at h
 refine sr (bxoC (cs:=#[sl A d c1]) bH rfl rfl (fun s bI=>(aC #[iI 0,iI 0,vN] bI Tyz56 (fun c bJ=>(wt (sr (bld (cells:=#[iI 0,iI 0,vN]) (vs:=[]) rfl (fun w=>by kernel_rfl) (bxoC (cs:=#[iI 0,iI 0,vN]) bJ rfl rfl (fun dB av=>(m2 (pp (zz c) 0) (wt (wp_cut (fun a w=>∃ a7 aw aG aH aI,a=fr 126 (updL a7 [(1,pp (zz wi) 0),(2,pp (zz s) 0),(3,pp (zz c) 0)])∧KH.sub K aw∧SR K aw wi w [] [.box (zz wi) (zz wi) #[sl A d c1] 24,.box (zz wi) (zz s) #[iI 0,iI 0,vN] 56,.box (zz wi) (zz c) #[iI aG,iI aH,.bool aI] 56]∧f32_j1 k d aG aH aI=some r_) ?_ ?_))))))))))))
 ·refine wp_region_lit (m1 (pp (zz c) 0) (fd 0 Tyf24_0 rfl (l1 2 (sl A d c1) av Tya22 (lS d.length Tye22 (c0 (decide ((d.length:Int) ≥ 1)) (m1 (.bool (decide ((d.length:Int) ≥ 1))) (cd h (fun V h=>?_) (fun V h=>?_))))))))
  ·refine n1 14 V (fd 0 Tyf24_0 rfl (n1 14 V (l1 2 (sl A d c1) av Tya22 (n1 14 V (lS d.length Tye22 (n1 14 V (c0 (decide ((d.length:Int) ≤ 16)) (m3 true (.bool (decide ((d.length:Int) ≤ 16))) (cg V) ?_))))))))
   obtain ⟨⟨bK,bL,bM⟩,bN,h⟩:=ob h
   refine cv ([pp (zz c) 0,.bool (decide ((d.length:Int) ≤ 16))]) Tyb59 ((f59_ok k) bN (hG.mono kr) (pt av)) ?_
   rintro _ dC ⟨bO,rfl,a8⟩
   have bP:=ca a8 av
   exact wt (⟨_,bO,bK,bL,bM,fR,a8.sub,(bP.sel [2,1,0]),h⟩)
  ·refine o1 14 V (o1 14 V (o1 14 V (o1 14 V (m3 false vN (cg V) ?_))))
   obtain ⟨⟨bQ,bR,bS⟩,bT,h⟩:=ob h
   refine cv ([pp (zz c) 0,vN]) Tyb59 ((f59_ok k) bT (hG.mono kr) (pt av)) ?_
   rintro _ dD ⟨bU,rfl,a9⟩
   have bV:=ca a9 av
   exact wt (⟨_,bU,bQ,bR,bS,fR,a9.sub,(bV.sel [2,1,0]),h⟩)
 ·rintro _ dE ⟨a7,aw,aG,aH,aI,rfl,D,bW,h⟩
  unfold f32_j1 at h
  refine wp_cut (fun a w=>∃ ba aJ aj ak al,a=fr 126 (updL ba [(2,pp (zz s) 0),(3,pp (zz c) 0)])∧KH.sub aw aJ∧SR K aJ wi w [] [.box (zz wi) (zz s) #[iI 0,iI 0,vN] 56,.box (zz wi) (zz c) #[iI aj,iI ak,.bool al] 56]∧f32_j2 k aj ak al=some r_) ?_ ?_
  ·refine sr (m2 (iI 0) (wt (wp_block (wp_loopG (fun g_ a w=>∃ bb ax W,∃ (p:Nat),∃ ay az Z,g_=W.length∧a=fr 126 (updL bb [(1,pp (zz wi) 0),(2,pp (zz s) 0),(3,pp (zz c) 0),(4,iI (p:Int))])∧KH.sub aw ax∧SR K ax wi w [] [.box (zz wi) (zz wi) #[sl A d c1] 24,.box (zz wi) (zz s) #[iI 0,iI 0,vN] 56,.box (zz wi) (zz c) #[iI ay,iI az,.bool Z] 56]∧d.drop p=W∧f32_l1 k W p ay az Z=some r_) d.length ?_ ?_))))
   ·exact ⟨_,aw,d,0,aG,aH,aI,rfl,fR,kr,bW,List.drop_zero,h⟩
   ·rintro _ _ U ⟨bb,ax,W,p,ay,az,Z,rfl,rfl,t,am,aA,h⟩
    rcases W with _ | ⟨⟨N,e,f,G,q,u⟩,W⟩
    ·unfold f32_l1 at h
     exact wp_seq (sr (m1 (iI (p:Int)) (fd 0 Tyf24_0 rfl (l1 0 (sl A d c1) am Tya22 (lS d.length Tye22 (bcm (r:=false) rfl rfl (congrArg some (drop_nil_lt aA)) (m1 vN (o0 26 (o0 26 (o0 26 (o0 26 (o0 26 (m3 false vN rfl (wt (cndF rfl (wp_exit (thenX (thenX (blkX (thenN (⟨_,ax,ay,az,Z,fR,t,(am.sel [1,2]),h⟩)))))))))))))))))))))
    ·unfold f32_l1 at h
     refine wp_seq (sr (m1 (iI (p:Int)) (fd 0 Tyf24_0 rfl (l1 0 (sl A d c1) am Tya22 (lS d.length Tye22 (bcm (r:=true) rfl rfl (congrArg some (drop_cons_t aA)) (m1 vT (n0 26 (m1 (pp (zz c) 0) (n0 26 (nilc rfl (n0 26 (fd 2 Tyf56_2 rfl (n0 26 (l1 2 (.bool Z) am Tya4 (n0 26 (uN Z (m3 true (.bool (!Z)) rfl (wt (cd h (fun aW h=>?_) (fun aW h=>?_)))))))))))))))))))))
     ·refine cT aW (wp_skip (thenN (wp_seq (wp_block (sr (fd 0 Tyf24_0 rfl (l1 0 (sl A d c1) am Tya22 (m1 (iI (p:Int)) ?_))))))))
      obtain ⟨bX,bY,dF,bZ,dG,b0,b1⟩:=((mf a6 (D.trans t))).row.at_ (drop_cons_at aA)
      obtain ⟨x,y,O,S,rfl,b2,bd,b3⟩:=RDFunc.open b1
      refine idxN (b:=bX) (o:=bY) (i:=p) Tye22 Tys38 rfl bZ rfl (drop_cons_lt aA) (lD (vF N x e y f G q O u S) Tya38 Tys38 rfl (fun j v hj=>am.cell (kr.cell (b0 j v hj))) (aC zF.toArray am Tyz38 (fun dH b4=>(sI 0 (.agg (vF N x e y f G q O u S).toArray) ((vF N x e y f G q O u S).toArray) b4 Tys38 rfl rfl (fun b5 b6=>(wt (sr (m1 (pp (zz c) 0) ?_))))))))
      have be:=p3012 b6
      obtain ⟨⟨dI,dJ,dK⟩,b7,h⟩:=ob h
      refine cv ([pp (zz c) 0,iI 0]) Tyb60 ((f60_ok k) b7 (hG.mono (D.trans t)) (pt be)) ?_
      rintro _ dL ⟨b8,rfl,z⟩
      have aX:=ca z be
      refine wt (wp_cut (fun a w=>∃ bf aB aK aL aM,a=fr 126 (updL bf [(1,pp (zz wi) 0),(2,pp (zz s) 0),(3,pp (zz c) 0),(4,iI (p:Int)),(5,pp (zz U) 0)])∧KH.sub b8 aB∧SR K aB wi w [] [.box (zz wi) (zz wi) #[sl A d c1] 24,.box (zz wi) (zz s) #[iI 0,iI 0,vN] 56,.box (zz wi) (zz c) #[iI aK,iI aL,.bool aM] 56,.box (zz wi) (zz U) (vF N x e y f G q O u S).toArray 38]∧f32_j3 k p e u aK aL aM (f32_l1 k W)=some r_) ?_ ?_)
      ·refine wp_region_lit (m1 (pp (zz c) 0) (fd 0 Tyf38_0 rfl (l1 1 (.string N) aX Tya9 ?_)))
       obtain ⟨b9,cb,h⟩:=ob h
       refine cv ([.string N]) Tyb34 ((f34_ok k) cb (hG.mono ((D.trans t).trans z.sub)) b2 (pt aX)) ?_
       rintro _ dM ⟨dN,rfl,I⟩
       have g:=ca I aX
       refine m1 (.bool b9) (cd h (fun X h=>?_) (fun X h=>?_))
       ·refine n1 46 X (fd 1 Tyf38_1 rfl (n1 46 X (l1 1 (sl x e y) g Tya35 (n1 46 X (lS e.length Tye35 (n1 46 X (c0 (decide ((e.length:Int) ≤ 4)) (m3 true (.bool (decide ((e.length:Int) ≤ 4))) (cg X) (m1 (.bool (decide ((e.length:Int) ≤ 4))) (cd h (fun ab h=>?_) (fun ab h=>?_)))))))))))
        ·refine n1 52 ab (fd 2 Tyf38_2 rfl (n1 52 ab (l1 1 (iI f) g Tya3 (n1 52 ab (c0 (decide (f ≥ 0)) (m3 true (.bool (decide (f ≥ 0))) (cg ab) (m1 (.bool (decide (f ≥ 0))) (cd h (fun ac h=>?_) (fun ac h=>?_)))))))))
         ·refine n1 57 ac (fd 2 Tyf38_2 rfl (n1 57 ac (l1 1 (iI f) g Tya3 (n1 57 ac (c0 (decide (f ≤ 6)) (m3 true (.bool (decide (f ≤ 6))) (cg ac) (m1 (.bool (decide (f ≤ 6))) (cd h (fun J h=>?_) (fun J h=>?_)))))))))
          ·refine n1 62 J (fd 3 Tyf38_3 rfl (n1 62 J (l1 1 (.bool G) g Tya4 (n1 62 J (uN G (n1 62 J (m1 (.bool (!G)) (cd h (fun ad h=>?_) (fun ad h=>?_)))))))))
           ·refine o1 66 ad (o1 66 ad (o1 66 ad (n1 62 J (m3 true vT (cg ad) (m3 true vT (cg J) (m1 vT (n0 72 (fd 4 Tyf38_4 rfl (n0 72 (l1 1 (iI q) g Tya3 (n0 72 (c0 (q == 0) (m3 true (.bool (q == 0)) rfl ?_)))))))))))))
            obtain ⟨⟨cc,ce,cf⟩,ch,h⟩:=ob h
            refine cv ([pp (zz c) 0,.bool (q == 0)]) Tyb59 ((f59_ok k) ch (hG.mono (((D.trans t).trans z.sub).trans I.sub)) (pt g)) ?_
            rintro _ dO ⟨ci,rfl,bg⟩
            have cj:=ca bg g
            exact wt (⟨_,ci,cc,ce,cf,fR,(I.sub.trans bg.sub),(cj.sel [2,3,0,1]),h⟩)
           ·refine n1 66 ad (fd 2 Tyf38_2 rfl (n1 66 ad (l1 1 (iI f) g Tya3 (n1 66 ad (c0 (f == 0) (n1 62 J (m3 false (.bool (f == 0)) (cg ad) (m3 true (.bool (f == 0)) (cg J) (m1 (.bool (f == 0)) (cd h (fun ae h=>?_) (fun ae h=>?_)))))))))))
            ·refine n1 72 ae (fd 4 Tyf38_4 rfl (n1 72 ae (l1 1 (iI q) g Tya3 (n1 72 ae (c0 (q == 0) (m3 true (.bool (q == 0)) (cg ae) ?_))))))
             obtain ⟨⟨ck,cl,cm⟩,cn,h⟩:=ob h
             refine cv ([pp (zz c) 0,.bool (q == 0)]) Tyb59 ((f59_ok k) cn (hG.mono (((D.trans t).trans z.sub).trans I.sub)) (pt g)) ?_
             rintro _ dP ⟨co,rfl,bh⟩
             have cq:=ca bh g
             exact wt (⟨_,co,ck,cl,cm,fR,(I.sub.trans bh.sub),(cq.sel [2,3,0,1]),h⟩)
            ·refine o1 72 ae (o1 72 ae (o1 72 ae (m3 false vN (cg ae) ?_)))
             obtain ⟨⟨cr,ct,cu⟩,cw,h⟩:=ob h
             refine cv ([pp (zz c) 0,vN]) Tyb59 ((f59_ok k) cw (hG.mono (((D.trans t).trans z.sub).trans I.sub)) (pt g)) ?_
             rintro _ dQ ⟨cx,rfl,bi⟩
             have cy:=ca bi g
             exact wt (⟨_,cx,cr,ct,cu,fR,(I.sub.trans bi.sub),(cy.sel [2,3,0,1]),h⟩)
          ·refine o1 62 J (o1 62 J (o1 62 J (o1 62 J (ou 66 (ou 66 (ou 66 (o1 62 J (m3 false vN (cg J) (m1 vN (o0 72 (o0 72 (o0 72 (m3 false vN rfl ?_)))))))))))))
           obtain ⟨⟨cz,cA,cB⟩,cC,h⟩:=ob h
           refine cv ([pp (zz c) 0,vN]) Tyb59 ((f59_ok k) cC (hG.mono (((D.trans t).trans z.sub).trans I.sub)) (pt g)) ?_
           rintro _ dR ⟨cD,rfl,bj⟩
           have cG:=ca bj g
           exact wt (⟨_,cD,cz,cA,cB,fR,(I.sub.trans bj.sub),(cG.sel [2,3,0,1]),h⟩)
         ·refine o1 57 ac (o1 57 ac (o1 57 ac (m3 false vN (cg ac) (m1 vN (o0 62 (o0 62 (o0 62 (o0 62 (ou 66 (ou 66 (ou 66 (o0 62 (m3 false vN rfl (m1 vN (o0 72 (o0 72 (o0 72 (m3 false vN rfl ?_))))))))))))))))))
          obtain ⟨⟨cH,cI,cJ⟩,cK,h⟩:=ob h
          refine cv ([pp (zz c) 0,vN]) Tyb59 ((f59_ok k) cK (hG.mono (((D.trans t).trans z.sub).trans I.sub)) (pt g)) ?_
          rintro _ dS ⟨cL,rfl,bk⟩
          have cM:=ca bk g
          exact wt (⟨_,cL,cH,cI,cJ,fR,(I.sub.trans bk.sub),(cM.sel [2,3,0,1]),h⟩)
        ·refine o1 52 ab (o1 52 ab (o1 52 ab (m3 false vN (cg ab) (m1 vN (o0 57 (o0 57 (o0 57 (m3 false vN rfl (m1 vN (o0 62 (o0 62 (o0 62 (o0 62 (ou 66 (ou 66 (ou 66 (o0 62 (m3 false vN rfl (m1 vN (o0 72 (o0 72 (o0 72 (m3 false vN rfl ?_)))))))))))))))))))))))
         obtain ⟨⟨cN,cO,cP⟩,cQ,h⟩:=ob h
         refine cv ([pp (zz c) 0,vN]) Tyb59 ((f59_ok k) cQ (hG.mono (((D.trans t).trans z.sub).trans I.sub)) (pt g)) ?_
         rintro _ dT ⟨cR,rfl,bm⟩
         have cS:=ca bm g
         exact wt (⟨_,cR,cN,cO,cP,fR,(I.sub.trans bm.sub),(cS.sel [2,3,0,1]),h⟩)
       ·refine o1 46 X (o1 46 X (o1 46 X (o1 46 X (m3 false vN (cg X) (m1 vN (o0 52 (o0 52 (o0 52 (m3 false vN rfl (m1 vN (o0 57 (o0 57 (o0 57 (m3 false vN rfl (m1 vN (o0 62 (o0 62 (o0 62 (o0 62 (ou 66 (ou 66 (ou 66 (o0 62 (m3 false vN rfl (m1 vN (o0 72 (o0 72 (o0 72 (m3 false vN rfl ?_)))))))))))))))))))))))))))))
        obtain ⟨⟨cU,cV,cW⟩,cX,h⟩:=ob h
        refine cv ([pp (zz c) 0,vN]) Tyb59 ((f59_ok k) cX (hG.mono (((D.trans t).trans z.sub).trans I.sub)) (pt g)) ?_
        rintro _ dU ⟨cY,rfl,bn⟩
        have cZ:=ca bn g
        exact wt (⟨_,cY,cU,cV,cW,fR,(I.sub.trans bn.sub),(cZ.sel [2,3,0,1]),h⟩)
      ·rintro _ dV ⟨bf,aB,aK,aL,aM,rfl,af,c2,h⟩
       unfold f32_j3 at h
       refine wp_cut (fun a w=>∃ bo aN aP aQ aR,a=fr 126 (updL bo [(1,pp (zz wi) 0),(2,pp (zz s) 0),(3,pp (zz c) 0),(4,iI (p:Int)),(5,pp (zz U) 0)])∧KH.sub aB aN∧SR K aN wi w [] [.box (zz wi) (zz wi) #[sl A d c1] 24,.box (zz wi) (zz s) #[iI 0,iI 0,vN] 56,.box (zz wi) (zz c) #[iI aP,iI aQ,.bool aR] 56,.box (zz wi) (zz U) (vF N x e y f G q O u S).toArray 38]∧f32_j4 k p u aP aQ aR (f32_l1 k W)=some r_) ?_ ?_
       ·refine sr (m2 (iI 0) (wt (wp_block (wp_loopG (fun g_ a w=>∃ bp aE an,∃ (m:Nat),∃ ao ap Y,g_=an.length∧a=fr 126 (updL bp [(1,pp (zz wi) 0),(2,pp (zz s) 0),(3,pp (zz c) 0),(4,iI (p:Int)),(5,pp (zz U) 0),(6,iI (m:Int))])∧KH.sub aB aE∧SR K aE wi w [] [.box (zz wi) (zz wi) #[sl A d c1] 24,.box (zz wi) (zz s) #[iI 0,iI 0,vN] 56,.box (zz wi) (zz c) #[iI ao,iI ap,.bool Y] 56,.box (zz wi) (zz U) (vF N x e y f G q O u S).toArray 38]∧e.drop m=an∧f32_l2 k p u (f32_l1 k W) an m ao ap Y=some r_) e.length ?_ ?_))))
        ·exact ⟨_,aB,e,0,aK,aL,aM,rfl,fR,kr,c2,List.drop_zero,h⟩
        ·rintro _ _ dW ⟨bp,aE,an,m,ao,ap,Y,rfl,rfl,ag,ah,aq,h⟩
         rcases an with _ | ⟨⟨bq,ar⟩,an⟩
         ·unfold f32_l2 at h
          exact wp_seq (sr (m1 (iI (m:Int)) (fd 1 Tyf38_1 rfl (l1 3 (sl x e y) ah Tya35 (lS e.length Tye35 (bcm (r:=false) rfl rfl (congrArg some (drop_nil_lt aq)) (m1 vN (o0 83 (o0 83 (o0 83 (o0 83 (o0 83 (m3 false vN rfl (wt (cndF rfl (wp_exit (thenX (thenX (blkX (thenN (⟨_,aE,ao,ap,Y,fR,ag,ah,h⟩)))))))))))))))))))))
         ·unfold f32_l2 at h
          refine wp_seq (sr (m1 (iI (m:Int)) (fd 1 Tyf38_1 rfl (l1 3 (sl x e y) ah Tya35 (lS e.length Tye35 (bcm (r:=true) rfl rfl (congrArg some (drop_cons_t aq)) (m1 vT (n0 83 (m1 (pp (zz c) 0) (n0 83 (nilc rfl (n0 83 (fd 2 Tyf56_2 rfl (n0 83 (l1 2 (.bool Y) ah Tya4 (n0 83 (uN Y (m3 true (.bool (!Y)) rfl (wt (cd h (fun aY h=>?_) (fun aY h=>?_)))))))))))))))))))))
          ·refine cT aY (wp_skip (thenN (wp_cut (fun a w=>∃ br aS aT aU aV,a=fr 126 (updL br [(1,pp (zz wi) 0),(2,pp (zz s) 0),(3,pp (zz c) 0),(4,iI (p:Int)),(5,pp (zz U) 0),(6,iI (m:Int))])∧KH.sub aE aS∧SR K aS wi w [] [.box (zz wi) (zz wi) #[sl A d c1] 24,.box (zz wi) (zz s) #[iI 0,iI 0,vN] 56,.box (zz wi) (zz c) #[iI aT,iI aU,.bool aV] 56,.box (zz wi) (zz U) (vF N x e y f G q O u S).toArray 38]∧f32_j5 k m aT aU aV (f32_l2 k p u (f32_l1 k W) an)=some r_) ?_ ?_)))
           ·refine wp_block (wp_region_lit (m1 (pp (zz c) 0) (fd 1 Tyf38_1 rfl (l1 3 (sl x e y) ah Tya35 (m1 (iI (m:Int)) ?_)))))
            obtain ⟨aZ,aF,dX,a1,dY,a2,c3⟩:=((mp bd ((z.sub.trans af).trans ag))).row.at_ (drop_cons_at aq)
            obtain ⟨rfl,c4⟩:=RDParam.open c3
            refine idxN (b:=aZ) (o:=aF) (i:=m) Tye35 Tys82 rfl a1 rfl (drop_cons_lt aq) (fd (aF + m * 2 + 0) Tyf82_0 rfl (ld1 (v:=.string bq) Tya9 rfl (ah.cell (kr.cell (a2 0 _ rfl))) ?_))
            obtain ⟨c5,c6,h⟩:=ob h
            refine cv ([.string bq]) Tyb34 ((f34_ok k) c6 (hG.mono ((((D.trans t).trans z.sub).trans af).trans ag)) c4 (pt ah)) ?_
            rintro _ a3 ⟨a4,rfl,ai⟩
            have au:=ca ai ah
            refine m1 (.bool c5) (cd h (fun B h=>?_) (fun B h=>?_))
            ·refine n1 100 B (fd 1 Tyf38_1 rfl (n1 100 B (l1 3 (sl x e y) au Tya35 (n1 100 B (m1 (iI (m:Int)) (n1 100 B (idxN (b:=aZ) (o:=aF) (i:=m) Tye35 Tys82 rfl a1 rfl (drop_cons_lt aq) (n1 100 B (fd (aF + m * 2 + 1) Tyf82_1 rfl (n1 100 B (ld1 (v:=iI ar) Tya3 rfl (au.cell (ai.sub.cell (a2 1 _ rfl))) (n1 100 B (c0 (decide (ar ≥ 1)) (m3 true (.bool (decide (ar ≥ 1))) (cg B) (m1 (.bool (decide (ar ≥ 1))) (cd h (fun C h=>?_) (fun C h=>?_)))))))))))))))))
             ·refine n1 109 C (fd 1 Tyf38_1 rfl (n1 109 C (l1 3 (sl x e y) au Tya35 (n1 109 C (m1 (iI (m:Int)) (n1 109 C (idxN (b:=aZ) (o:=aF) (i:=m) Tye35 Tys82 rfl a1 rfl (drop_cons_lt aq) (n1 109 C (fd (aF + m * 2 + 1) Tyf82_1 rfl (n1 109 C (ld1 (v:=iI ar) Tya3 rfl (au.cell (ai.sub.cell (a2 1 _ rfl))) (n1 109 C (c0 (decide (ar ≤ 6)) (m3 true (.bool (decide (ar ≤ 6))) (cg C) ?_))))))))))))))
              have bs:=p2013 au
              obtain ⟨⟨c7,c8,c9⟩,da,h⟩:=ob h
              refine cv ([pp (zz c) 0,.bool (decide (ar ≤ 6))]) Tyb59 ((f59_ok k) da (hG.mono (((((D.trans t).trans z.sub).trans af).trans ag).trans ai.sub)) (pt bs)) ?_
              rintro _ dZ ⟨db,rfl,bu⟩
              have dc:=ca bu bs
              exact wpList_nil (blkN (thenN (⟨_,db,c7,c8,c9,fR,(ai.sub.trans bu.sub),(dc.sel [1,2,0,3]),h⟩)))
             ·refine o1 109 C (o1 109 C (o1 109 C (o1 109 C (o1 109 C (o1 109 C (o1 109 C (m3 false vN (cg C) ?_)))))))
              have bv:=p2013 au
              obtain ⟨⟨dd,de,df⟩,dg,h⟩:=ob h
              refine cv ([pp (zz c) 0,vN]) Tyb59 ((f59_ok k) dg (hG.mono (((((D.trans t).trans z.sub).trans af).trans ag).trans ai.sub)) (pt bv)) ?_
              rintro _ d0 ⟨dh,rfl,bw⟩
              have di:=ca bw bv
              exact wpList_nil (blkN (thenN (⟨_,dh,dd,de,df,fR,(ai.sub.trans bw.sub),(di.sel [1,2,0,3]),h⟩)))
            ·refine o1 100 B (o1 100 B (o1 100 B (o1 100 B (o1 100 B (o1 100 B (o1 100 B (m3 false vN (cg B) (m1 vN (o0 109 (o0 109 (o0 109 (o0 109 (o0 109 (o0 109 (o0 109 (m3 false vN rfl ?_))))))))))))))))
             have bx:=p2013 au
             obtain ⟨⟨dj,dk,dl⟩,dm,h⟩:=ob h
             refine cv ([pp (zz c) 0,vN]) Tyb59 ((f59_ok k) dm (hG.mono (((((D.trans t).trans z.sub).trans af).trans ag).trans ai.sub)) (pt bx)) ?_
             rintro _ d1 ⟨dn,rfl,bz⟩
             have dp:=ca bz bx
             exact wpList_nil (blkN (thenN (⟨_,dn,dj,dk,dl,fR,(ai.sub.trans bz.sub),(dp.sel [1,2,0,3]),h⟩)))
           ·rintro _ d2 ⟨br,aS,aT,aU,aV,rfl,dq,dr,h⟩
            unfold f32_j5 at h
            exact wp_region_lit (m1 (iI (m:Int)) (bar (r:=((m + 1:Nat):Int)) rfl rfl (inc_ok (le_big (((mp bd ((z.sub.trans af).trans ag))).len) (by decide) (drop_cons_lt aq))) (m2 (iI ((m + 1:Nat):Int)) (wt (⟨_,Nat.lt_succ_self _,_,aS,an,m + 1,aT,aU,aV,rfl,fR,(ag.trans dq),dr,drop_cons_next aq,h⟩)))))
          ·exact cF aY (wp_exit (thenX (thenX (blkX (thenN (⟨_,aE,ao,ap,Y,fR,ag,ah,h⟩))))))
       ·rintro _ ds ⟨bo,aN,aP,aQ,aR,rfl,a5,bA,h⟩
        unfold f32_j4 at h
        refine wp_region_lit (m1 (pp (zz c) 0) (fd 5 Tyf38_5 rfl (l1 3 (sl O u S) bA Tya36 ?_)))
        have bB:=p2013 bA
        obtain ⟨⟨dt,du,dv⟩,dw,h⟩:=ob h
        refine cv ([pp (zz c) 0,sl O u S,iI 1]) Tyb61 ((f61_ok k) dw (hG.mono ((((D.trans t).trans z.sub).trans af).trans a5)) (ms b3 ((z.sub.trans af).trans a5)) (pt bB)) ?_
        rintro _ d3 ⟨dx,rfl,bC⟩
        have dy:=ca bC bB
        exact wpList_nil (blkN (thenN (wp_region_lit (m1 (iI (p:Int)) (bar (r:=((p + 1:Nat):Int)) rfl rfl (inc_ok (le_big (((mf a6 (D.trans t))).len) (by decide) (drop_cons_lt aA))) (m2 (iI ((p + 1:Nat):Int)) (wt (⟨_,Nat.lt_succ_self _,_,dx,W,p + 1,dt,du,dv,rfl,fR,((((t.trans z.sub).trans af).trans a5).trans bC.sub),(dy.sel [1,2,0]),drop_cons_next aA,h⟩))))))))
     ·exact cF aW (wp_exit (thenX (thenX (blkX (thenN (⟨_,ax,ay,az,Z,fR,t,(am.sel [1,2]),h⟩))))))
  ·rintro _ d4 ⟨ba,aJ,aj,ak,al,rfl,d5,bD,h⟩
   unfold f32_j2 at h
   refine sr (m1 (pp (zz c) 0) (nilc rfl (lN 1 ([iI aj,iI ak,.bool al]) bD Tya56 Tys56 (sI 0 (.agg #[iI aj,iI ak,.bool al]) #[iI aj,iI ak,.bool al] bD Tys56 rfl rfl (fun d6 bE=>(wt (wp_ret ?_)))))))
   cases (oi h).trans hr_
   exact retA1 rfl (resN (i:=0) (l:=[iI aj,iI ak,.bool al]) bE rfl Tya56 Tys56 rfl rfl rfl) ⟨aJ,[iI aj,iI ak,.bool al],rfl,(bE.sel []),.mk⟩
theorem f32_ok (k:Nat):f32_spec (f32 k):=f32_b_ok k
theorem f9_b_ok (k:Nat):f9_spec (f9_b k):=by
 unfold f9_spec
 intro K wi cV d9 ae ea h hG cW cX
 obtain ⟨r_,hr_,h⟩:=rz h
 obtain ⟨c⟩:=cV
 obtain ⟨z,c1,rfl,an⟩:=RDProgram.open cW
 refine enter Tryz.func9 rfl (n:=133) rfl ?_
 unfold f9_b at h
 refine sr (bxoC (cs:=#[sl z c c1]) cX rfl rfl (fun ec bw=>(m2 vN (wt (wp_seq (wp_cut (fun a w=>∃ b7 bx bz,a=fr 133 (updL b7 [(1,iI ae),(2,pp (zz wi) 0),(24,.bool bz)])∧KH.sub K bx∧SR K bx wi w [] [.box (zz wi) (zz wi) #[sl z c c1] 24]∧f9_j1 k c ae bz=some r_) ?_ ?_))))))
 ·refine wp_region_lit (lN 0 ([sl z c c1]) bw Tya24 Tys24 ?_)
  obtain ⟨b8,cY,h⟩:=ob h
  refine cv ([.agg #[sl z c c1]]) Tyb13 ((f13_ok k) cY (hG.mono kr) (RDProgram.intro an) (pt bw)) ?_
  rintro _ ed ⟨b9,rfl,bA⟩
  have bB:=ca bA bw
  refine uN b8 (m1 (.bool (!b8)) (cd h (fun ao h=>?_) (fun ao h=>?_)))
  ·exact o1 19 ao (o1 19 ao (o1 19 ao (o1 19 ao (m3 true vT (cg ao) (wt (⟨_,b9,true,fR,bA.sub,bB,h⟩))))))
  ·exact n1 19 ao (fd 0 Tyf24_0 rfl (n1 19 ao (l1 0 (sl z c c1) bB Tya22 (n1 19 ao (lS c.length Tye22 (n1 19 ao (c0 (decide ((c.length:Int) ≥ 16)) (m3 false (.bool (decide ((c.length:Int) ≥ 16))) (cg ao) (wt (⟨_,b9,(decide ((c.length:Int) ≥ 16)),fR,bA.sub,bB,h⟩))))))))))
 ·rintro _ ee ⟨b7,bx,bz,rfl,A,aT,h⟩
  unfold f9_j1 at h
  refine cd h (fun bC h=>?_) (fun bC h=>?_)
  ·refine cT bC (sr ?_)
   obtain ⟨cZ,c2,h⟩:=ob h
   refine cv ([]) Tyb14 ((f14_ok k) c2 (hG.mono A) (pt aT)) ?_
   rintro _ ef ⟨c3,rfl,c4⟩
   have c5:=ca c4 aT
   refine m2 (.bool cZ) (wt (wp_ret (thenR ?_)))
   cases (oi h).trans hr_
   exact retA1 rfl (resT rfl) ⟨c3,rfl,(c5.sel [])⟩
  ·refine cF bC (wp_skip (thenN (sr (lN 0 ([sl z c c1]) aT Tya24 Tys24 ?_))))
   obtain ⟨⟨⟨x⟩,aQ⟩,c6,h⟩:=ob h
   refine cv ([.agg #[sl z c c1]]) Tyb15 ((f15_ok k) c6 (hG.mono A) (RDProgram.intro (mf an A)) (pt aT)) ?_
   rintro _ aH ⟨cb,eg,rfl,B,c7⟩
   have c8:=ca B aT
   obtain ⟨ab,ac,rfl,c9⟩:=RDProgram.open c7
   refine m1 (.tuple #[.agg #[sl ab x ac],iI aQ]) (ext (v:=.agg #[sl ab x ac]) rfl rfl (ext (v:=iI aQ) rfl rfl (aC #[nS] c8 Tyz24 (fun eh da=>(sI 0 (.agg #[sl ab x ac]) #[sl ab x ac] da Tys24 rfl rfl (fun ei bb=>(m2 (iI aQ) (wt (wp_seq (wp_cut (fun a w=>∃ cc aU bD,a=fr 133 (updL cc [(1,iI ae),(2,pp (zz wi) 0),(5,pp (zz aH) 0),(38,.bool bD)])∧KH.sub cb aU∧SR K aU wi w [] [.box (zz wi) (zz wi) #[sl z c c1] 24,.box (zz wi) (zz aH) #[sl ab x ac] 24]∧f9_j2 k c ae x bD=some r_) ?_ ?_))))))))))
   ·refine wp_region_lit (m1 (iI aQ) (c0 (aQ != 0) (m1 (.bool (aQ != 0)) (cd h (fun ap h=>?_) (fun ap h=>?_)))))
    ·exact o1 33 ap (o1 33 ap (o1 33 ap (o1 33 ap (m3 true vT (cg ap) (wt (⟨_,cb,true,fR,kr,(bb.sel [1,0]),h⟩))))))
    ·refine n1 33 ap (lN 1 ([sl z c c1]) bb Tya24 Tys24 (n1 33 ap ?_))
     obtain ⟨⟨aV,db,dc⟩,dd,h⟩:=ob h
     refine cv ([.agg #[sl z c c1]]) Tyb32 ((f32_ok k) dd (hG.mono (A.trans B.sub)) (RDProgram.intro (mf an (A.trans B.sub))) (pt bb)) ?_
     rintro _ ej ⟨de,ek,rfl,ce,df⟩
     have dg:=ca ce bb
     obtain rfl:=RDSize.open df
     exact n1 33 ap (fva (v:=.agg #[iI aV,iI db,.bool dc]) (u:=iI aV) rfl (fun w=>by kernel_rfl) (n1 33 ap (c0 (decide (aV ≥ 600)) (m3 false (.bool (decide (aV ≥ 600))) (cg ap) (wt (⟨_,de,(decide (aV ≥ 600)),fR,ce.sub,(dg.sel [1,0]),h⟩))))))
   ·rintro _ el ⟨cc,aU,bD,rfl,I,bE,h⟩
    unfold f9_j2 at h
    refine cd h (fun bF h=>?_) (fun bF h=>?_)
    ·refine cT bF (sr ?_)
     obtain ⟨dh,di,h⟩:=ob h
     refine cv ([]) Tyb14 ((f14_ok k) di (hG.mono ((A.trans B.sub).trans I)) (pt bE)) ?_
     rintro _ em ⟨dj,rfl,dk⟩
     have dl:=ca dk bE
     refine m2 (.bool dh) (wt (wp_ret (thenR ?_)))
     cases (oi h).trans hr_
     exact retA1 rfl (resT rfl) ⟨dj,rfl,(dl.sel [])⟩
    ·refine cF bF (wp_skip (thenN (sr (m2 (.string ⟨#[122]⟩) (wt (wp_seq (wp_block (wp_loopG (fun g_ a w=>∃ cf bG q,a=fr 133 (updL cf [(1,iI ae),(2,pp (zz wi) 0),(5,pp (zz aH) 0),(7,.string q)])∧KH.sub aU bG∧SR K bG wi w [] [.box (zz wi) (zz wi) #[sl z c c1] 24,.box (zz wi) (zz aH) #[sl ab x ac] 24]∧q.size ≤ mB∧f9_w1 k c ae x g_ q=some r_) k ?_ ?_))))))))
     ·exact ⟨_,aU,⟨#[122]⟩,fR,kr,bE,(by decide),h⟩
     ·rintro g_ _ en ⟨cf,bG,q,rfl,J,bH,bI,h⟩
      rcases g_ with _ | j253
      ·unfold f9_w1 at h
       cases h
      ·unfold f9_w1 at h
       refine wp_seq (sr (lN 0 ([sl z c c1]) bH Tya24 Tys24 (m1 (.string q) ?_)))
       obtain ⟨dm,dn,h⟩:=ob h
       refine cv ([.agg #[sl z c c1],.string q]) Tyb31 ((f31_ok k) dn (hG.mono (((A.trans B.sub).trans I).trans J)) (RDProgram.intro (mf an (((A.trans B.sub).trans I).trans J))) bI (pt bH)) ?_
       rintro _ eo ⟨bd,rfl,N⟩
       have be:=ca N bH
       refine c0 (decide (dm ≥ 0)) (wt (cd h (fun bJ h=>?_) (fun bJ h=>?_)))
       ·refine cT bJ (wp_skip (thenN (wp_block (wp_region_lit (m1 (.string q) ?_)))))
        obtain ⟨ch,h⟩:=of_guard h
        exact bsj rfl rfl ch (m2 (.string (q ++ ⟨#[122]⟩)) (wpList_nil (blkN (thenN (⟨_,Nat.lt_succ_self _,_,bd,(q ++ ⟨#[122]⟩),fR,(J.trans N.sub),be,ch,h⟩)))))
       ·refine cF bJ (wp_exit (thenX (thenX (blkX (thenN (wp_seq (sr (m1 (.string q) (lnT (a:=q) Tyt9 rfl (c0 (decide ((q.size:Int) > 12)) (wt (cd h (fun bK h=>?_) (fun bK h=>?_)))))))))))))
        ·refine cT bK (sr ?_)
         obtain ⟨dp,dq,h⟩:=ob h
         refine cv ([]) Tyb14 ((f14_ok k) dq (hG.mono ((((A.trans B.sub).trans I).trans J).trans N.sub)) (pt be)) ?_
         rintro _ ep ⟨dr,rfl,ds⟩
         have dt:=ca ds be
         refine m2 (.bool dp) (wt (wp_ret (thenR ?_)))
         cases (oi h).trans hr_
         exact retA1 rfl (resT rfl) ⟨dr,rfl,(dt.sel [])⟩
        ·refine cF bK (wp_skip (thenN (sr (bsl (e:=38) (cells:=#[]) (vs:=[]) be rfl (fun w=>by kernel_rfl) (fun eq du=>(have ci:=du.boxrow (i:=0) (size:=6) rfl;(fd 0 Tyf24_0 rfl (l1 1 (sl z c c1) ci Tya22 ?_))))))))
         obtain ⟨dv,h⟩:=of_guard h
         refine apS (R:=fun K=>(RDFunc K)) (zs:=c) (i:=0) ci rfl Tye22 Tyi38 rfl (by decide) rfl rfl (reps0 (R:=(RDFunc bd)) (size:=6)) (mf an ((((A.trans B.sub).trans I).trans J).trans N.sub)) (fun _ _ h=>RDFunc.one h) (Nat.le_refl _) dv (by decide) (fun es et eu ew dw dx=>(m1 (.string q) (bld (cells:=#[.string q,nS,iI 0,vN,iI 0,nS]) (vs:=[(0,.string q)]) rfl (fun w=>by kernel_rfl) (bsl (e:=38) (cells:=#[.string q,nS,iI 0,vN,iI 0,nS]) (vs:=[(0,.agg #[.string q,nS,iI 0,vN,iI 0,nS])]) dw rfl (buildSl_one Tye22 Tys38 Tyz38 rfl (by decide) (by decide) rfl) (fun ex dy=>?_)))))
         obtain ⟨cj,h⟩:=of_guard h
         refine apR (R:=(RDFunc bd)) (p:=(DFunc.mk q [] 0 false 0 [])) (i:=1) (j:=0) dy rfl rfl Tye22 Tyi38 rfl (by decide) rfl rfl dx (RDFunc.intro bI (RSl.nil _ _ _ _ _ _) (RSl.nil _ _ _ _ _ _)) rfl rfl (Nat.le_refl _) cj (by decide) (fun W X dz aq dA dB=>?_)
         have dC:=p123 dA
         refine bld (cells:=#[.slice W ((([]:LF) ++ c) ++ [(DFunc.mk q [] 0 false 0 [])]).length X]) (vs:=[(0,.slice W ((([]:LF) ++ c) ++ [(DFunc.mk q [] 0 false 0 [])]).length X)]) rfl (fun w=>by kernel_rfl) (aC #[nS] dC Tyz24 (fun ey dD=>(sI 0 (.agg #[.slice W ((([]:LF) ++ c) ++ [(DFunc.mk q [] 0 false 0 [])]).length X]) #[.slice W ((([]:LF) ++ c) ++ [(DFunc.mk q [] 0 false 0 [])]).length X] dD Tys24 rfl rfl (fun ez ck=>(wt (sr (lN 0 ([.slice W ((([]:LF) ++ c) ++ [(DFunc.mk q [] 0 false 0 [])]).length X]) ck Tya24 Tys24 ?_)))))))
         obtain ⟨eA,cl,Z,cm⟩:=shutI (i:=1) (bytes:=88) (R:=fun K=>(RDFunc K)) ck rfl (Nat.le_refl _) dB (app_bound cj) (fun hs=>(fun _ _ h=>RDFunc.mono hs h))
         obtain ⟨⟨⟨C⟩,ay⟩,dE,h⟩:=ob h
         refine cv ([.agg #[.slice W ((([]:LF) ++ c) ++ [(DFunc.mk q [] 0 false 0 [])]).length X]]) Tyb15 ((f15_ok k) dE (hG.mono (((((A.trans B.sub).trans I).trans J).trans N.sub).trans Z)) (RDProgram.intro cm) (pt cl)) ?_
         rintro _ bL ⟨bf,eB,rfl,Y,dF⟩
         have dG:=ca Y cl
         obtain ⟨af,ag,rfl,cn⟩:=RDProgram.open dF
         refine m1 (.tuple #[.agg #[sl af C ag],iI ay]) (ext (v:=.agg #[sl af C ag]) rfl rfl (ext (v:=iI ay) rfl rfl (aC #[nS] dG Tyz24 (fun eC dH=>(sI 0 (.agg #[sl af C ag]) #[sl af C ag] dH Tys24 rfl rfl (fun eD dI=>(m2 (iI ay) (wt (wp_seq (wp_cut (fun a w=>∃ co bg bM,a=fr 133 (updL co [(1,iI ae),(2,pp (zz wi) 0),(7,.string q),(8,pp (zz aq) 0),(87,.bool bM)])∧KH.sub bf bg∧SR K bg wi w [] [.box (zz wi) (zz wi) #[sl z c c1] 24,.box (zz wi) (zz aq) #[.slice W ((([]:LF) ++ c) ++ [(DFunc.mk q [] 0 false 0 [])]).length X] 24]∧f9_j3 k c ae q bM=some r_) ?_ ?_))))))))))
         ·have g:=dI.drew
          refine regAny (E:=[]) (F:=FW bf [.box (zz wi) (zz bL) #[sl af C ag] 24,.box (zz wi) (zz aq) #[.slice W ((([]:LF) ++ c) ++ [(DFunc.mk q [] 0 false 0 [])]).length X] 24,.box (zz wi) (zz wi) #[sl z c c1] 24,.box (zz wi) (zz aH) #[sl ab x ac] 24]) (L:=(lb 24 0)) ymx rfl rfl (tk 0 (iI ay) (lb 24 1) rfl (fun w=>mv_r (v:=iI ay) rfl) (heldF (fq [0,1,2,3] g)) (tk 1 (.bool (ay != 0)) (lb 24 3) rfl (fun w=>bcm_r (r:=(ay != 0)) rfl rfl rfl) (heldF (fq [0,1,2,3] g)) (tk 2 (.bool (ay != 0)) (lb 24 7) rfl (fun w=>mv_r (v:=.bool (ay != 0)) rfl) (heldF (fq [0,1,2,3] g)) (cd h (fun S h=>?_) (fun S h=>?_)))))
          ·exact tkO (i:=3) (d:=66) (L':=(lb 24 15)) rfl rfl rfl (by kernel_rfl) (by kernel_rfl) (fun _ _ d _ _ h=>by cases d<;>exact h) rfl (.inl (cg S)) (heldF (fq [0,1,2,3] g)) rfl (tkO (i:=4) (d:=66) (L':=(lb 24 31)) rfl rfl rfl (by kernel_rfl) (by kernel_rfl) (fun _ _ d _ _ h=>by cases d<;>exact h) rfl (.inl (cg S)) (heldF (fq [0,1,2,3] g)) rfl (tkO (i:=5) (d:=66) (L':=(lb 24 63)) rfl rfl rfl (by kernel_rfl) (by kernel_rfl) (fun _ _ d _ _ h=>by cases d<;>exact h) rfl (.inl (cg S)) (heldF (fq [0,1,2,3] g)) rfl (tkO (i:=6) (d:=66) (L':=(lb 24 127)) rfl rfl rfl (by kernel_rfl) (by kernel_rfl) (fun _ _ d _ _ h=>by cases d<;>exact h) rfl (.inl (cg S)) (heldF (fq [0,1,2,3] g)) rfl (tkO (i:=7) (d:=66) (L':=(lb 24 255)) rfl rfl rfl (by kernel_rfl) (by kernel_rfl) (fun _ _ d _ _ h=>by cases d<;>exact h) rfl (.inl (cg S)) (heldF (fq [0,1,2,3] g)) rfl (tkO (i:=8) (d:=66) (L':=(lb 24 511)) rfl rfl rfl (by kernel_rfl) (by kernel_rfl) (fun _ _ d _ _ h=>by cases d<;>exact h) rfl (.inl (cg S)) (heldF (fq [0,1,2,3] g)) rfl (tkO (i:=9) (d:=66) (L':=(lb 24 1023)) rfl rfl rfl (by kernel_rfl) (by kernel_rfl) (fun _ _ d _ _ h=>by cases d<;>exact h) rfl (.inl (cg S)) (heldF (fq [0,1,2,3] g)) rfl (tkO (i:=10) (d:=66) (L':=(lb 24 2047)) rfl rfl rfl (by kernel_rfl) (by kernel_rfl) (fun _ _ d _ _ h=>by cases d<;>exact h) rfl (.inl (cg S)) (heldF (fq [0,1,2,3] g)) rfl (tk 11 vT (lb 24 4095) rfl (fun w=>pick_r (b:=true) (v:=vT) (cg S) rfl) (heldF (fq [0,1,2,3] g)) (tk 12 vT (lb 24 8191) rfl (fun w=>mv_r (v:=vT) rfl) (heldF (fq [0,1,2,3] g)) (tkO (i:=13) (d:=76) (L':=(lb 24 16383)) rfl rfl rfl (by kernel_rfl) (by kernel_rfl) (fun _ _ d _ _ h=>by cases d<;>exact h) rfl (.inl rfl) (heldF (fq [0,1,2,3] g)) rfl (tkO (i:=14) (d:=76) (L':=(lb 24 32767)) rfl rfl rfl (by kernel_rfl) (by kernel_rfl) (fun _ _ d _ _ h=>by cases d<;>exact h) rfl (.inl rfl) (heldF (fq [0,1,2,3] g)) rfl (tkO (i:=15) (d:=76) (L':=(lb 24 65535)) rfl rfl rfl (by kernel_rfl) (by kernel_rfl) (fun _ _ d _ _ h=>by cases d<;>exact h) rfl (.inl rfl) (heldF (fq [0,1,2,3] g)) rfl (tkO (i:=16) (d:=76) (L':=(lb 24 131071)) rfl rfl rfl (by kernel_rfl) (by kernel_rfl) (fun _ _ d _ _ h=>by cases d<;>exact h) rfl (.inl rfl) (heldF (fq [0,1,2,3] g)) rfl (tkO (i:=17) (d:=76) (L':=(lb 24 262143)) rfl rfl rfl (by kernel_rfl) (by kernel_rfl) (fun _ _ d _ _ h=>by cases d<;>exact h) rfl (.inl rfl) (heldF (fq [0,1,2,3] g)) rfl (tkO (i:=18) (d:=76) (L':=(lb 24 524287)) rfl rfl rfl (by kernel_rfl) (by kernel_rfl) (fun _ _ d _ _ h=>by cases d<;>exact h) rfl (.inl rfl) (heldF (fq [0,1,2,3] g)) rfl (tkO (i:=19) (d:=76) (L':=(lb 24 1048575)) rfl rfl rfl (by kernel_rfl) (by kernel_rfl) (fun _ _ d _ _ h=>by cases d<;>exact h) rfl (.inl rfl) (heldF (fq [0,1,2,3] g)) rfl (tkO (i:=20) (d:=76) (L':=(lb 24 2097151)) rfl rfl rfl (by kernel_rfl) (by kernel_rfl) (fun _ _ d _ _ h=>by cases d<;>exact h) rfl (.inl rfl) (heldF (fq [0,1,2,3] g)) rfl (tkO (i:=21) (d:=76) (L':=(lb 24 4194303)) rfl rfl rfl (by kernel_rfl) (by kernel_rfl) (fun _ _ d _ _ h=>by cases d<;>exact h) rfl (.inl rfl) (heldF (fq [0,1,2,3] g)) rfl (tkO (i:=22) (d:=76) (L':=(lb 24 8388607)) rfl rfl rfl (by kernel_rfl) (by kernel_rfl) (fun _ _ d _ _ h=>by cases d<;>exact h) rfl (.inl rfl) (heldF (fq [0,1,2,3] g)) rfl (tk 23 vT (lb 24 16777215) rfl (fun w=>pick_r (b:=true) (v:=vT) rfl rfl) (heldF (fq [0,1,2,3] g)) (aD (thenN (⟨_,bf,true,fR,kr,(g.sel [2,1]),h⟩)))))))))))))))))))))))
          ·refine tkPG (i:=3) (d:=66) (v:=pp (zz bL) 0) (L':=(lb 24 15)) rfl (by kernel_rfl) (by kernel_rfl) (fun _ _ d _ _ h=>by cases d<;>exact h) rfl (cg S) (fun w=>fld_r (o':=0) Tyf24_0 rfl rfl) (heldF (fq [0,1,2,3] g)) rfl (tkFG (i:=4) (d:=66) (v:=sl af C ag) (ps:=[]) (L':=(lb 24 31)) rfl (by kernel_rfl) (by kernel_rfl) (by kernel_rfl) (by kernel_rfl) (fun _ _ d _ _ h=>by cases d<;>exact h) rfl (cg S) (fq [0,1,2,3] g) (fun w hF=>lb1_r (i:=0) (v:=sl af C ag) hF rfl Tya22 rfl rfl) rfl (tkPG (i:=5) (d:=66) (v:=iI (C.length:Int)) (L':=(lb 24 63)) rfl (by kernel_rfl) (by kernel_rfl) (fun _ _ d _ _ h=>by cases d<;>exact h) rfl (cg S) (fun w=>lnS_r (len:=C.length) Tye22 rfl) (heldF (fq [0,1,2,3] g)) rfl (tkPG (i:=6) (d:=66) (v:=pp (zz aH) 0) (L':=(lb 24 127)) rfl (by kernel_rfl) (by kernel_rfl) (fun _ _ d _ _ h=>by cases d<;>exact h) rfl (cg S) (fun w=>fld_r (o':=0) Tyf24_0 rfl rfl) (heldF (fq [0,1,2,3] g)) rfl (tkFG (i:=7) (d:=66) (v:=sl ab x ac) (ps:=[]) (L':=(lb 24 255)) rfl (by kernel_rfl) (by kernel_rfl) (by kernel_rfl) (by kernel_rfl) (fun _ _ d _ _ h=>by cases d<;>exact h) rfl (cg S) (fq [0,1,2,3] g) (fun w hF=>lb1_r (i:=3) (v:=sl ab x ac) hF rfl Tya22 rfl rfl) rfl (tkPG (i:=8) (d:=66) (v:=iI (x.length:Int)) (L':=(lb 24 511)) rfl (by kernel_rfl) (by kernel_rfl) (fun _ _ d _ _ h=>by cases d<;>exact h) rfl (cg S) (fun w=>lnS_r (len:=x.length) Tye22 rfl) (heldF (fq [0,1,2,3] g)) rfl (tkPG (i:=9) (d:=66) (v:=iI (w64 ((x.length:Int) + 1))) (L':=(lb 24 1023)) rfl (by kernel_rfl) (by kernel_rfl) (fun _ _ d _ _ h=>by cases d<;>exact h) rfl (cg S) (fun w=>bar_r (r:=(w64 ((x.length:Int) + 1))) rfl rfl rfl) (heldF (fq [0,1,2,3] g)) rfl (tkPG (i:=10) (d:=66) (v:=.bool ((C.length:Int) != (w64 ((x.length:Int) + 1)))) (L':=(lb 24 2047)) rfl (by kernel_rfl) (by kernel_rfl) (fun _ _ d _ _ h=>by cases d<;>exact h) rfl (cg S) (fun w=>bcm_r (r:=((C.length:Int) != (w64 ((x.length:Int) + 1)))) rfl rfl rfl) (heldF (fq [0,1,2,3] g)) rfl (tk 11 (.bool ((C.length:Int) != (w64 ((x.length:Int) + 1)))) (lb 24 4095) rfl (fun w=>pick_r (b:=false) (v:=.bool ((C.length:Int) != (w64 ((x.length:Int) + 1)))) (cg S) rfl) (heldF (fq [0,1,2,3] g)) (tk 12 (.bool ((C.length:Int) != (w64 ((x.length:Int) + 1)))) (lb 24 8191) rfl (fun w=>mv_r (v:=.bool ((C.length:Int) != (w64 ((x.length:Int) + 1)))) rfl) (heldF (fq [0,1,2,3] g)) (cd h (fun D h=>?_) (fun D h=>?_)))))))))))
           ·exact tkO (i:=13) (d:=76) (L':=(lb 24 16383)) rfl rfl rfl (by kernel_rfl) (by kernel_rfl) (fun _ _ d _ _ h=>by cases d<;>exact h) rfl (.inl (cg D)) (heldF (fq [0,1,2,3] g)) rfl (tkO (i:=14) (d:=76) (L':=(lb 24 32767)) rfl rfl rfl (by kernel_rfl) (by kernel_rfl) (fun _ _ d _ _ h=>by cases d<;>exact h) rfl (.inl (cg D)) (heldF (fq [0,1,2,3] g)) rfl (tkO (i:=15) (d:=76) (L':=(lb 24 65535)) rfl rfl rfl (by kernel_rfl) (by kernel_rfl) (fun _ _ d _ _ h=>by cases d<;>exact h) rfl (.inl (cg D)) (heldF (fq [0,1,2,3] g)) rfl (tkO (i:=16) (d:=76) (L':=(lb 24 131071)) rfl rfl rfl (by kernel_rfl) (by kernel_rfl) (fun _ _ d _ _ h=>by cases d<;>exact h) rfl (.inl (cg D)) (heldF (fq [0,1,2,3] g)) rfl (tkO (i:=17) (d:=76) (L':=(lb 24 262143)) rfl rfl rfl (by kernel_rfl) (by kernel_rfl) (fun _ _ d _ _ h=>by cases d<;>exact h) rfl (.inl (cg D)) (heldF (fq [0,1,2,3] g)) rfl (tkO (i:=18) (d:=76) (L':=(lb 24 524287)) rfl rfl rfl (by kernel_rfl) (by kernel_rfl) (fun _ _ d _ _ h=>by cases d<;>exact h) rfl (.inl (cg D)) (heldF (fq [0,1,2,3] g)) rfl (tkO (i:=19) (d:=76) (L':=(lb 24 1048575)) rfl rfl rfl (by kernel_rfl) (by kernel_rfl) (fun _ _ d _ _ h=>by cases d<;>exact h) rfl (.inl (cg D)) (heldF (fq [0,1,2,3] g)) rfl (tkO (i:=20) (d:=76) (L':=(lb 24 2097151)) rfl rfl rfl (by kernel_rfl) (by kernel_rfl) (fun _ _ d _ _ h=>by cases d<;>exact h) rfl (.inl (cg D)) (heldF (fq [0,1,2,3] g)) rfl (tkO (i:=21) (d:=76) (L':=(lb 24 4194303)) rfl rfl rfl (by kernel_rfl) (by kernel_rfl) (fun _ _ d _ _ h=>by cases d<;>exact h) rfl (.inl (cg D)) (heldF (fq [0,1,2,3] g)) rfl (tkO (i:=22) (d:=76) (L':=(lb 24 8388607)) rfl rfl rfl (by kernel_rfl) (by kernel_rfl) (fun _ _ d _ _ h=>by cases d<;>exact h) rfl (.inl (cg D)) (heldF (fq [0,1,2,3] g)) rfl (tk 23 vT (lb 24 16777215) rfl (fun w=>pick_r (b:=true) (v:=vT) (cg D) rfl) (heldF (fq [0,1,2,3] g)) (aD (thenN (⟨_,bf,true,fR,kr,(g.sel [2,1]),h⟩)))))))))))))
           ·refine tkPG (i:=13) (d:=76) (v:=pp (zz bL) 0) (L':=(lb 24 16383)) rfl (by kernel_rfl) (by kernel_rfl) (fun _ _ d _ _ h=>by cases d<;>exact h) rfl (cg D) (fun w=>fld_r (o':=0) Tyf24_0 rfl rfl) (heldF (fq [0,1,2,3] g)) rfl (tkFG (i:=14) (d:=76) (v:=sl af C ag) (ps:=[]) (L':=(lb 24 32767)) rfl (by kernel_rfl) (by kernel_rfl) (by kernel_rfl) (by kernel_rfl) (fun _ _ d _ _ h=>by cases d<;>exact h) rfl (cg D) (fq [0,1,2,3] g) (fun w hF=>lb1_r (i:=0) (v:=sl af C ag) hF rfl Tya22 rfl rfl) rfl (tkPG (i:=15) (d:=76) (v:=pp (zz aH) 0) (L':=(lb 24 65535)) rfl (by kernel_rfl) (by kernel_rfl) (fun _ _ d _ _ h=>by cases d<;>exact h) rfl (cg D) (fun w=>fld_r (o':=0) Tyf24_0 rfl rfl) (heldF (fq [0,1,2,3] g)) rfl (tkFG (i:=16) (d:=76) (v:=sl ab x ac) (ps:=[]) (L':=(lb 24 131071)) rfl (by kernel_rfl) (by kernel_rfl) (by kernel_rfl) (by kernel_rfl) (fun _ _ d _ _ h=>by cases d<;>exact h) rfl (cg D) (fq [0,1,2,3] g) (fun w hF=>lb1_r (i:=3) (v:=sl ab x ac) hF rfl Tya22 rfl rfl) rfl (tkPG (i:=17) (d:=76) (v:=iI (x.length:Int)) (L':=(lb 24 262143)) rfl (by kernel_rfl) (by kernel_rfl) (fun _ _ d _ _ h=>by cases d<;>exact h) rfl (cg D) (fun w=>lnS_r (len:=x.length) Tye22 rfl) (heldF (fq [0,1,2,3] g)) rfl ?_))))
            obtain ⟨bN,h⟩:=of_guard h
            refine tkPG (i:=18) (d:=76) (v:=.slice af (C.take (x.length:Int).toNat).length ag) (L':=(lb 24 524287)) rfl (by kernel_rfl) (by kernel_rfl) (fun _ _ d _ _ h=>by cases d<;>exact h) rfl (cg D) (fun w=>slH_r (m:=(C.take (x.length:Int).toNat).length) Tye22 Tys38 rfl rfl bN.1 (Int.le_trans bN.2 (Int.ofNat_le.2 (cn).cap)) (take_len bN)) (heldF (fq [0,1,2,3] g)) rfl (tkPG (i:=19) (d:=76) (v:=.agg #[.slice af (C.take (x.length:Int).toNat).length ag]) (L':=(lb 24 1048575)) rfl (by kernel_rfl) (by kernel_rfl) (fun _ _ d _ _ h=>by cases d<;>exact h) rfl (cg D) (fun w=>bld_r (cells:=#[.slice af (C.take (x.length:Int).toNat).length ag]) (vs:=[(0,.slice af (C.take (x.length:Int).toNat).length ag)]) rfl (fun w=>by kernel_rfl)) (heldF (fq [0,1,2,3] g)) rfl (tkFG (i:=20) (d:=76) (v:=.agg #[sl ab x ac]) (ps:=[]) (L':=(lb 24 2097151)) rfl (by kernel_rfl) (by kernel_rfl) (by kernel_rfl) (by kernel_rfl) (fun _ _ d _ _ h=>by cases d<;>exact h) rfl (cg D) (fq [0,1,2,3] g) (fun w hF=>lbN_r (i:=3) (l:=[sl ab x ac]) hF rfl Tya24 Tys24 rfl rfl rfl) rfl (aO 21 rfl (n1 76 D ?_))))
            obtain ⟨aW,dJ,h⟩:=ob h
            refine cv ([.agg #[.slice af (C.take (x.length:Int).toNat).length ag],.agg #[sl ab x ac]]) Tyb17 ((f17_ok k) dJ (hG.mono ((((((A.trans B.sub).trans I).trans J).trans N.sub).trans Z).trans Y.sub)) (RDProgram.intro (RSl.take cn _)) (RDProgram.intro (mf c9 ((((I.trans J).trans N.sub).trans Z).trans Y.sub))) (pt g)) ?_
            rintro _ eE ⟨dK,rfl,aX⟩
            have bh:=ca aX g
            exact wt ⟨heldF (fwOf (is:=[0,1,2,3]) bh aX.sub rfl),tkPG (i:=22) (d:=76) (v:=.bool (!aW)) (L':=(lb 24 8388607)) rfl (by kernel_rfl) (by kernel_rfl) (fun _ _ d _ _ h=>by cases d<;>exact h) rfl (cg D) (fun w=>unot_r (a:=aW) rfl) (heldF (fwOf (is:=[0,1,2,3]) bh aX.sub rfl)) rfl (tk 23 (.bool (!aW)) (lb 24 16777215) rfl (fun w=>pick_r (b:=false) (v:=.bool (!aW)) (cg D) rfl) (heldF (fwOf (is:=[0,1,2,3]) bh aX.sub rfl)) (aD (thenN (⟨_,dK,(!aW),fR,aX.sub,(bh.sel [2,1]),h⟩))))⟩
         ·rintro _ eF ⟨co,bg,bM,rfl,ad,bi,h⟩
          unfold f9_j3 at h
          refine cd h (fun bO h=>?_) (fun bO h=>?_)
          ·refine cT bO (sr (m2 vN (wt (wp_ret (thenR ?_)))))
           cases (oi h).trans hr_
           exact retA1 rfl (resT rfl) ⟨bg,rfl,(bi.sel [])⟩
          ·refine cF bO (wp_skip (thenN (sr (lN 1 ([.slice W ((([]:LF) ++ c) ++ [(DFunc.mk q [] 0 false 0 [])]).length X]) bi Tya24 Tys24 (m1 (.string q) ?_)))))
           obtain ⟨⟨az,aI⟩,dL,h⟩:=ob h
           refine cv ([.agg #[.slice W ((([]:LF) ++ c) ++ [(DFunc.mk q [] 0 false 0 [])]).length X],.string q]) Tyb30 ((f30_ok k) dL (hG.mono (((((((A.trans B.sub).trans I).trans J).trans N.sub).trans Z).trans Y.sub).trans ad)) (RDProgram.intro (mf cm (Y.sub.trans ad))) bI (pt bi)) ?_
           rintro _ cq ⟨aY,rfl,ah⟩
           have dM:=ca ah bi
           refine m1 (.tuple #[iI az,iI aI]) (ext (v:=iI az) rfl rfl (ext (v:=iI aI) rfl rfl (m2 (iI az) (m2 (iI aI) (wt (wp_cut (fun a w=>∃ cr bj bP aA aZ a2 bQ,a=fr 133 (updL cr [(2,pp (zz wi) 0),(11,iI az),(12,iI aI),(13,pp bP 0)])∧KH.sub aY bj∧SR K bj wi w [] [.box (zz wi) (zz wi) #[sl z c c1] 24,.box (zz wi) bP #[sl aZ aA a2] 24,.row (zz wi) (sl aZ aA a2) 38 6 aA.length bQ]∧Reps (RDFunc bj) 6 aA bQ∧aA.length * 88 ≤ mB∧f9_j4 k c az aI aA=some r_) ?_ ?_))))))
           ·have ax:=dM.drew
            refine regAny (E:=[19]) (F:=FW aY [.box (zz wi) (zz wi) #[sl z c c1] 24,.box (zz wi) (zz aq) #[.slice W ((([]:LF) ++ c) ++ [(DFunc.mk q [] 0 false 0 [])]).length X] 24]) (L:=(lb 20 0)) ymx rfl rfl (tk 1 (pp (zz wi) 0) (lb 20 2) rfl (fun w=>fld_r (o':=0) Tyf24_0 rfl rfl) (heldF (fq [0,1] ax)) (tf 2 (sl z c c1) ([[19,2]]) (lb 20 6) rfl (fq [0,1] ax) (fun w hF=>lb1_r (i:=0) (v:=sl z c c1) hF rfl Tya22 rfl rfl) (tk 4 (pp (zz wi) 0) (lb 20 22) rfl (fun w=>fld_r (o':=0) Tyf24_0 rfl rfl) (heldF (fq [0,1] ax)) (tf 5 (sl z c c1) ([[19,5]]) (lb 20 54) rfl (fq [0,1] ax) (fun w hF=>lb1_r (i:=0) (v:=sl z c c1) hF rfl Tya22 rfl rfl) (tk 6 (iI ae) (lb 20 118) rfl (fun w=>mv_r (v:=iI ae) rfl) (heldF (fq [0,1] ax)) (tk 7 (pp (zz wi) 0) (lb 20 246) rfl (fun w=>fld_r (o':=0) Tyf24_0 rfl rfl) (heldF (fq [0,1] ax)) (tf 8 (sl z c c1) ([[19,8]]) (lb 20 502) rfl (fq [0,1] ax) (fun w hF=>lb1_r (i:=0) (v:=sl z c c1) hF rfl Tya22 rfl rfl) (tk 9 (iI (c.length:Int)) (lb 20 1014) rfl (fun w=>lnS_r (len:=c.length) Tye22 rfl) (heldF (fq [0,1] ax)) (anyAll (rs:=[0,18]) (by kernel_rfl) (by decide) (allC ?_ (allC ?_ allN)))))))))))
            ·refine opL (i:=0) rfl (bsl (e:=38) (cells:=#[]) (vs:=[]) ax rfl (fun w=>by kernel_rfl) (fun bR bk=>(have a3:=bk.boxrow (i:=0) (size:=6) rfl;(wt ⟨heldF (fq [1,2] a3),anyAll (rs:=[3,18]) (by kernel_rfl) (by decide) (allC ?_ (allC ?_ allN))⟩))))
             ·refine opL (i:=3) rfl ?_
              obtain ⟨dN,h⟩:=of_guard h
              refine apS (R:=fun K=>(RDFunc K)) (zs:=c) (i:=0) a3 rfl Tye22 Tyi38 rfl (by decide) rfl rfl (reps0 (R:=(RDFunc aY)) (size:=6)) (mf an ((((((((A.trans B.sub).trans I).trans J).trans N.sub).trans Z).trans Y.sub).trans ad).trans ah.sub)) (fun _ _ h=>RDFunc.one h) (Nat.le_refl _) dN (by decide) (fun eG eH eI ct bm bn=>(wt ⟨heldF (fq [1,2] bm),anyAll (rs:=[10,18]) (by kernel_rfl) (by decide) (allC ?_ (allC ?_ allN))⟩))
              ·refine opL (i:=10) rfl ?_
               obtain ⟨U,dO,h⟩:=ob h
               refine cv ([iI ae,iI (c.length:Int)]) Tyb18 ((f18_ok k) dO (hG.mono ((((((((A.trans B.sub).trans I).trans J).trans N.sub).trans Z).trans Y.sub).trans ad).trans ah.sub)) (pt bm)) ?_
               rintro _ cu ⟨aB,rfl,G⟩
               have aJ:=ca G bm
               refine wt ⟨heldF (fwOf (is:=[1,2]) aJ G.sub rfl),?_⟩
               obtain ⟨⟨f,bS,bT,bU,bV,bW⟩,bX,h⟩:=ob h
               obtain ⟨bY,bo,eJ,dP,eK,dQ,dR⟩:=(an).row.at_ (idxO_at bX).1
               obtain ⟨eL,eM,eN,eO,rfl,bZ,eP,eQ⟩:=RDFunc.open dR
               refine tk 11 (pp bY (bo + U.toNat * 6)) (lb 20 4095) rfl (fun w=>idxG_r (b:=bY) (o:=bo) (i:=U) Tye22 Tys38 rfl dP rfl (idxO_at bX).2.1 (idxO_at bX).2.2) (heldF (fwOf (is:=[1,2]) aJ G.sub rfl)) (tk 12 (pp bY (bo + U.toNat * 6 + 0)) (lb 20 8191) rfl (fun w=>fld_r (o':=bo + U.toNat * 6 + 0) Tyf38_0 rfl rfl) (heldF (fwOf (is:=[1,2]) aJ G.sub rfl)) (tf 13 (.string f) ([[19,13]]) (lb 20 16383) rfl (fwOf (is:=[1,2]) aJ G.sub rfl) (fun w hF=>ld1_r (v:=.string f) Tya9 rfl (hF.cell (((((((((A.trans B.sub).trans I).trans J).trans N.sub).trans Z).trans Y.sub).trans ad).trans ah.sub).cell (dQ 0 _ rfl)))) (tk 14 (.agg #[.string f,nS,iI 0,vN,iI 0,nS]) (lb 20 32767) rfl (fun w=>bld_r (cells:=#[.string f,nS,iI 0,vN,iI 0,nS]) (vs:=[(0,.string f)]) rfl (fun w=>by kernel_rfl)) (heldF (fwOf (is:=[1,2]) aJ G.sub rfl)) (anyAll (rs:=[15,18]) (by kernel_rfl) (by decide) (allC ?_ (allC ?_ allN))))))
               ·refine opL (i:=15) rfl (bsl (e:=38) (cells:=#[.string f,nS,iI 0,vN,iI 0,nS]) (vs:=[(0,.agg #[.string f,nS,iI 0,vN,iI 0,nS])]) aJ rfl (buildSl_one Tye22 Tys38 Tyz38 rfl (by decide) (by decide) rfl) (fun b0 aR=>(wt ⟨heldF (fwOf (is:=[2,3]) aR G.sub rfl),anyAll (rs:=[16,18]) (by kernel_rfl) (by decide) (allC ?_ (allC ?_ allN))⟩)))
                ·refine opL (i:=16) rfl ?_
                 obtain ⟨cw,h⟩:=of_guard h
                 refine apR (R:=(RDFunc aB)) (p:=(DFunc.mk f [] 0 false 0 [])) (i:=1) (j:=0) aR rfl rfl Tye22 Tyi38 rfl (by decide) rfl rfl (bn.mono (fun _ _ h=>RDFunc.mono G.sub h)) (RDFunc.intro bZ (RSl.nil _ _ _ _ _ _) (RSl.nil _ _ _ _ _ _)) rfl rfl (Nat.le_refl _) cw (by decide) (fun aK aL cx cy dS dT=>?_)
                 have b1:=p123 dS
                 exact wt ⟨heldF (fwOf (is:=[1,2]) b1 G.sub rfl),tk 17 (.agg #[.slice aK ((([]:LF) ++ c) ++ [(DFunc.mk f [] 0 false 0 [])]).length aL]) (lb 20 262143) rfl (fun w=>bld_r (cells:=#[.slice aK ((([]:LF) ++ c) ++ [(DFunc.mk f [] 0 false 0 [])]).length aL]) (vs:=[(0,.slice aK ((([]:LF) ++ c) ++ [(DFunc.mk f [] 0 false 0 [])]).length aL)]) rfl (fun w=>by kernel_rfl)) (heldF (fwOf (is:=[1,2]) b1 G.sub rfl)) (aO 18 rfl (aC #[nS] b1 Tyz24 (fun eR cz=>(wt ⟨heldF (fwOf (is:=[2,3]) cz G.sub rfl),aO 19 rfl (sI 0 (.agg #[.slice aK ((([]:LF) ++ c) ++ [(DFunc.mk f [] 0 false 0 [])]).length aL]) #[.slice aK ((([]:LF) ++ c) ++ [(DFunc.mk f [] 0 false 0 [])]).length aL] cz Tys24 rfl rfl (fun a4 ar=>(wt ⟨heldE (i:=19) rfl rfl,aD (thenN (⟨_,aB,(zz cy),((([]:LF) ++ c) ++ [(DFunc.mk f [] 0 false 0 [])]),aK,aL,cx,fR,G.sub,(ar.sel [2,0,1]),dT,(app_bound cw),h⟩))⟩)))⟩))))⟩
                ·refine opL (i:=18) rfl (aC #[nS] aR Tyz24 (fun bp ai=>(wt ⟨heldF (fwOf (is:=[3,4]) ai G.sub rfl),aO 16 rfl ?_⟩)))
                 obtain ⟨aj,h⟩:=of_guard h
                 refine apR (R:=(RDFunc aB)) (p:=(DFunc.mk f [] 0 false 0 [])) (i:=2) (j:=1) ai rfl rfl Tye22 Tyi38 rfl (by decide) rfl rfl (bn.mono (fun _ _ h=>RDFunc.mono G.sub h)) (RDFunc.intro bZ (RSl.nil _ _ _ _ _ _) (RSl.nil _ _ _ _ _ _)) rfl rfl (Nat.le_refl _) aj (by decide) (fun s t ak aE aF aG=>?_)
                 have V:=p0234 aF
                 exact wt ⟨heldF (fwOf (is:=[2,3]) V G.sub rfl),tk 17 (.agg #[.slice s ((([]:LF) ++ c) ++ [(DFunc.mk f [] 0 false 0 [])]).length t]) (lb 20 524287) rfl (fun w=>bld_r (cells:=#[.slice s ((([]:LF) ++ c) ++ [(DFunc.mk f [] 0 false 0 [])]).length t]) (vs:=[(0,.slice s ((([]:LF) ++ c) ++ [(DFunc.mk f [] 0 false 0 [])]).length t)]) rfl (fun w=>by kernel_rfl)) (heldF (fwOf (is:=[2,3]) V G.sub rfl)) (aO 19 rfl (sI 0 (.agg #[.slice s ((([]:LF) ++ c) ++ [(DFunc.mk f [] 0 false 0 [])]).length t]) #[.slice s ((([]:LF) ++ c) ++ [(DFunc.mk f [] 0 false 0 [])]).length t] V Tys24 rfl rfl (fun a4 ar=>(wt ⟨heldE (i:=19) rfl rfl,aD (thenN (⟨_,aB,(zz b0),((([]:LF) ++ c) ++ [(DFunc.mk f [] 0 false 0 [])]),s,t,ak,fR,G.sub,(ar.sel [2,0,1]),aG,(app_bound aj),h⟩))⟩))))⟩
               ·refine opL (i:=18) rfl (aC #[nS] aJ Tyz24 (fun b0 aR=>(wt ⟨heldF (fwOf (is:=[2,3]) aR G.sub rfl),aO 15 rfl (bsl (e:=38) (cells:=#[.string f,nS,iI 0,vN,iI 0,nS]) (vs:=[(0,.agg #[.string f,nS,iI 0,vN,iI 0,nS])]) aR rfl (buildSl_one Tye22 Tys38 Tyz38 rfl (by decide) (by decide) rfl) (fun bp ai=>(wt ⟨heldF (fwOf (is:=[3,4]) ai G.sub rfl),aO 16 rfl ?_⟩)))⟩)))
                obtain ⟨aj,h⟩:=of_guard h
                refine apR (R:=(RDFunc aB)) (p:=(DFunc.mk f [] 0 false 0 [])) (i:=2) (j:=0) ai rfl rfl Tye22 Tyi38 rfl (by decide) rfl rfl (bn.mono (fun _ _ h=>RDFunc.mono G.sub h)) (RDFunc.intro bZ (RSl.nil _ _ _ _ _ _) (RSl.nil _ _ _ _ _ _)) rfl rfl (Nat.le_refl _) aj (by decide) (fun s t ak aE aF aG=>?_)
                have V:=p1234 aF
                exact wt ⟨heldF (fwOf (is:=[2,3]) V G.sub rfl),tk 17 (.agg #[.slice s ((([]:LF) ++ c) ++ [(DFunc.mk f [] 0 false 0 [])]).length t]) (lb 20 524287) rfl (fun w=>bld_r (cells:=#[.slice s ((([]:LF) ++ c) ++ [(DFunc.mk f [] 0 false 0 [])]).length t]) (vs:=[(0,.slice s ((([]:LF) ++ c) ++ [(DFunc.mk f [] 0 false 0 [])]).length t)]) rfl (fun w=>by kernel_rfl)) (heldF (fwOf (is:=[2,3]) V G.sub rfl)) (aO 19 rfl (sI 0 (.agg #[.slice s ((([]:LF) ++ c) ++ [(DFunc.mk f [] 0 false 0 [])]).length t]) #[.slice s ((([]:LF) ++ c) ++ [(DFunc.mk f [] 0 false 0 [])]).length t] V Tys24 rfl rfl (fun a4 ar=>(wt ⟨heldE (i:=19) rfl rfl,aD (thenN (⟨_,aB,(zz cu),((([]:LF) ++ c) ++ [(DFunc.mk f [] 0 false 0 [])]),s,t,ak,fR,G.sub,(ar.sel [2,0,1]),aG,(app_bound aj),h⟩))⟩))))⟩
              ·refine opL (i:=18) rfl (aC #[nS] bm Tyz24 (fun eS b2=>(wt ⟨heldF (fq [2,3] b2),aO 10 rfl ?_⟩)))
               obtain ⟨U,a5,h⟩:=ob h
               refine cv ([iI ae,iI (c.length:Int)]) Tyb18 ((f18_ok k) a5 (hG.mono ((((((((A.trans B.sub).trans I).trans J).trans N.sub).trans Z).trans Y.sub).trans ad).trans ah.sub)) (pt b2)) ?_
               rintro _ cA ⟨au,rfl,y⟩
               have O:=ca y b2
               refine wt ⟨heldF (fwOf (is:=[2,3]) O y.sub rfl),?_⟩
               obtain ⟨⟨f,bS,bT,bU,bV,bW⟩,av,h⟩:=ob h
               obtain ⟨aw,al,cB,a6,cC,a7,a8⟩:=(an).row.at_ (idxO_at av).1
               obtain ⟨cD,cG,cH,cI,rfl,a9,cJ,cK⟩:=RDFunc.open a8
               refine tk 11 (pp aw (al + U.toNat * 6)) (lb 20 266239) rfl (fun w=>idxG_r (b:=aw) (o:=al) (i:=U) Tye22 Tys38 rfl a6 rfl (idxO_at av).2.1 (idxO_at av).2.2) (heldF (fwOf (is:=[2,3]) O y.sub rfl)) (tk 12 (pp aw (al + U.toNat * 6 + 0)) (lb 20 270335) rfl (fun w=>fld_r (o':=al + U.toNat * 6 + 0) Tyf38_0 rfl rfl) (heldF (fwOf (is:=[2,3]) O y.sub rfl)) (tf 13 (.string f) ([[19,13]]) (lb 20 278527) rfl (fwOf (is:=[2,3]) O y.sub rfl) (fun w hF=>ld1_r (v:=.string f) Tya9 rfl (hF.cell (((((((((A.trans B.sub).trans I).trans J).trans N.sub).trans Z).trans Y.sub).trans ad).trans ah.sub).cell (a7 0 _ rfl)))) (tk 14 (.agg #[.string f,nS,iI 0,vN,iI 0,nS]) (lb 20 294911) rfl (fun w=>bld_r (cells:=#[.string f,nS,iI 0,vN,iI 0,nS]) (vs:=[(0,.string f)]) rfl (fun w=>by kernel_rfl)) (heldF (fwOf (is:=[2,3]) O y.sub rfl)) (aO 15 rfl (bsl (e:=38) (cells:=#[.string f,nS,iI 0,vN,iI 0,nS]) (vs:=[(0,.agg #[.string f,nS,iI 0,vN,iI 0,nS])]) O rfl (buildSl_one Tye22 Tys38 Tyz38 rfl (by decide) (by decide) rfl) (fun bp ai=>(wt ⟨heldF (fwOf (is:=[3,4]) ai y.sub rfl),aO 16 rfl ?_⟩)))))))
               obtain ⟨aj,h⟩:=of_guard h
               refine apR (R:=(RDFunc au)) (p:=(DFunc.mk f [] 0 false 0 [])) (i:=2) (j:=0) ai rfl rfl Tye22 Tyi38 rfl (by decide) rfl rfl (bn.mono (fun _ _ h=>RDFunc.mono y.sub h)) (RDFunc.intro a9 (RSl.nil _ _ _ _ _ _) (RSl.nil _ _ _ _ _ _)) rfl rfl (Nat.le_refl _) aj (by decide) (fun s t ak aE aF aG=>?_)
               have V:=p1234 aF
               exact wt ⟨heldF (fwOf (is:=[2,3]) V y.sub rfl),tk 17 (.agg #[.slice s ((([]:LF) ++ c) ++ [(DFunc.mk f [] 0 false 0 [])]).length t]) (lb 20 524287) rfl (fun w=>bld_r (cells:=#[.slice s ((([]:LF) ++ c) ++ [(DFunc.mk f [] 0 false 0 [])]).length t]) (vs:=[(0,.slice s ((([]:LF) ++ c) ++ [(DFunc.mk f [] 0 false 0 [])]).length t)]) rfl (fun w=>by kernel_rfl)) (heldF (fwOf (is:=[2,3]) V y.sub rfl)) (aO 19 rfl (sI 0 (.agg #[.slice s ((([]:LF) ++ c) ++ [(DFunc.mk f [] 0 false 0 [])]).length t]) #[.slice s ((([]:LF) ++ c) ++ [(DFunc.mk f [] 0 false 0 [])]).length t] V Tys24 rfl rfl (fun a4 ar=>(wt ⟨heldE (i:=19) rfl rfl,aD (thenN (⟨_,au,(zz ct),((([]:LF) ++ c) ++ [(DFunc.mk f [] 0 false 0 [])]),s,t,ak,fR,y.sub,(ar.sel [2,0,1]),aG,(app_bound aj),h⟩))⟩))))⟩
             ·refine opL (i:=18) rfl (aC #[nS] a3 Tyz24 (fun eT cL=>(wt ⟨heldF (fq [2,3] cL),aO 3 rfl ?_⟩)))
              obtain ⟨b3,h⟩:=of_guard h
              refine apS (R:=fun K=>(RDFunc K)) (zs:=c) (i:=1) cL rfl Tye22 Tyi38 rfl (by decide) rfl rfl (reps0 (R:=(RDFunc aY)) (size:=6)) (mf an ((((((((A.trans B.sub).trans I).trans J).trans N.sub).trans Z).trans Y.sub).trans ad).trans ah.sub)) (fun _ _ h=>RDFunc.one h) (Nat.le_refl _) b3 (by decide) (fun dU dV dW dX aM b4=>(wt ⟨heldF (fq [2,3] aM),aO 10 rfl ?_⟩))
              obtain ⟨U,a5,h⟩:=ob h
              refine cv ([iI ae,iI (c.length:Int)]) Tyb18 ((f18_ok k) a5 (hG.mono ((((((((A.trans B.sub).trans I).trans J).trans N.sub).trans Z).trans Y.sub).trans ad).trans ah.sub)) (pt aM)) ?_
              rintro _ cA ⟨au,rfl,y⟩
              have O:=ca y aM
              refine wt ⟨heldF (fwOf (is:=[2,3]) O y.sub rfl),?_⟩
              obtain ⟨⟨f,bS,bT,bU,bV,bW⟩,av,h⟩:=ob h
              obtain ⟨aw,al,cB,a6,cC,a7,a8⟩:=(an).row.at_ (idxO_at av).1
              obtain ⟨cD,cG,cH,cI,rfl,a9,cJ,cK⟩:=RDFunc.open a8
              refine tk 11 (pp aw (al + U.toNat * 6)) (lb 20 266239) rfl (fun w=>idxG_r (b:=aw) (o:=al) (i:=U) Tye22 Tys38 rfl a6 rfl (idxO_at av).2.1 (idxO_at av).2.2) (heldF (fwOf (is:=[2,3]) O y.sub rfl)) (tk 12 (pp aw (al + U.toNat * 6 + 0)) (lb 20 270335) rfl (fun w=>fld_r (o':=al + U.toNat * 6 + 0) Tyf38_0 rfl rfl) (heldF (fwOf (is:=[2,3]) O y.sub rfl)) (tf 13 (.string f) ([[19,13]]) (lb 20 278527) rfl (fwOf (is:=[2,3]) O y.sub rfl) (fun w hF=>ld1_r (v:=.string f) Tya9 rfl (hF.cell (((((((((A.trans B.sub).trans I).trans J).trans N.sub).trans Z).trans Y.sub).trans ad).trans ah.sub).cell (a7 0 _ rfl)))) (tk 14 (.agg #[.string f,nS,iI 0,vN,iI 0,nS]) (lb 20 294911) rfl (fun w=>bld_r (cells:=#[.string f,nS,iI 0,vN,iI 0,nS]) (vs:=[(0,.string f)]) rfl (fun w=>by kernel_rfl)) (heldF (fwOf (is:=[2,3]) O y.sub rfl)) (aO 15 rfl (bsl (e:=38) (cells:=#[.string f,nS,iI 0,vN,iI 0,nS]) (vs:=[(0,.agg #[.string f,nS,iI 0,vN,iI 0,nS])]) O rfl (buildSl_one Tye22 Tys38 Tyz38 rfl (by decide) (by decide) rfl) (fun bp ai=>(wt ⟨heldF (fwOf (is:=[3,4]) ai y.sub rfl),aO 16 rfl ?_⟩)))))))
              obtain ⟨aj,h⟩:=of_guard h
              refine apR (R:=(RDFunc au)) (p:=(DFunc.mk f [] 0 false 0 [])) (i:=2) (j:=0) ai rfl rfl Tye22 Tyi38 rfl (by decide) rfl rfl (b4.mono (fun _ _ h=>RDFunc.mono y.sub h)) (RDFunc.intro a9 (RSl.nil _ _ _ _ _ _) (RSl.nil _ _ _ _ _ _)) rfl rfl (Nat.le_refl _) aj (by decide) (fun s t ak aE aF aG=>?_)
              have V:=p1234 aF
              exact wt ⟨heldF (fwOf (is:=[2,3]) V y.sub rfl),tk 17 (.agg #[.slice s ((([]:LF) ++ c) ++ [(DFunc.mk f [] 0 false 0 [])]).length t]) (lb 20 524287) rfl (fun w=>bld_r (cells:=#[.slice s ((([]:LF) ++ c) ++ [(DFunc.mk f [] 0 false 0 [])]).length t]) (vs:=[(0,.slice s ((([]:LF) ++ c) ++ [(DFunc.mk f [] 0 false 0 [])]).length t)]) rfl (fun w=>by kernel_rfl)) (heldF (fwOf (is:=[2,3]) V y.sub rfl)) (aO 19 rfl (sI 0 (.agg #[.slice s ((([]:LF) ++ c) ++ [(DFunc.mk f [] 0 false 0 [])]).length t]) #[.slice s ((([]:LF) ++ c) ++ [(DFunc.mk f [] 0 false 0 [])]).length t] V Tys24 rfl rfl (fun a4 ar=>(wt ⟨heldE (i:=19) rfl rfl,aD (thenN (⟨_,au,(zz bR),((([]:LF) ++ c) ++ [(DFunc.mk f [] 0 false 0 [])]),s,t,ak,fR,y.sub,(ar.sel [2,0,1]),aG,(app_bound aj),h⟩))⟩))))⟩
            ·refine opL (i:=18) rfl (aC #[nS] ax Tyz24 (fun bR bk=>(wt ⟨heldF (fq [1,2] bk),aO 0 rfl (bsl (e:=38) (cells:=#[]) (vs:=[]) bk rfl (fun w=>by kernel_rfl) (fun eU a3=>(have cM:=a3.boxrow (i:=0) (size:=6) rfl;(wt ⟨heldF (fq [2,3] cM),aO 3 rfl ?_⟩))))⟩)))
             obtain ⟨b3,h⟩:=of_guard h
             refine apS (R:=fun K=>(RDFunc K)) (zs:=c) (i:=0) cM rfl Tye22 Tyi38 rfl (by decide) rfl rfl (reps0 (R:=(RDFunc aY)) (size:=6)) (mf an ((((((((A.trans B.sub).trans I).trans J).trans N.sub).trans Z).trans Y.sub).trans ad).trans ah.sub)) (fun _ _ h=>RDFunc.one h) (Nat.le_refl _) b3 (by decide) (fun dU dV dW dX aM b4=>(wt ⟨heldF (fq [2,3] aM),aO 10 rfl ?_⟩))
             obtain ⟨U,a5,h⟩:=ob h
             refine cv ([iI ae,iI (c.length:Int)]) Tyb18 ((f18_ok k) a5 (hG.mono ((((((((A.trans B.sub).trans I).trans J).trans N.sub).trans Z).trans Y.sub).trans ad).trans ah.sub)) (pt aM)) ?_
             rintro _ cA ⟨au,rfl,y⟩
             have O:=ca y aM
             refine wt ⟨heldF (fwOf (is:=[2,3]) O y.sub rfl),?_⟩
             obtain ⟨⟨f,bS,bT,bU,bV,bW⟩,av,h⟩:=ob h
             obtain ⟨aw,al,cB,a6,cC,a7,a8⟩:=(an).row.at_ (idxO_at av).1
             obtain ⟨cD,cG,cH,cI,rfl,a9,cJ,cK⟩:=RDFunc.open a8
             refine tk 11 (pp aw (al + U.toNat * 6)) (lb 20 266239) rfl (fun w=>idxG_r (b:=aw) (o:=al) (i:=U) Tye22 Tys38 rfl a6 rfl (idxO_at av).2.1 (idxO_at av).2.2) (heldF (fwOf (is:=[2,3]) O y.sub rfl)) (tk 12 (pp aw (al + U.toNat * 6 + 0)) (lb 20 270335) rfl (fun w=>fld_r (o':=al + U.toNat * 6 + 0) Tyf38_0 rfl rfl) (heldF (fwOf (is:=[2,3]) O y.sub rfl)) (tf 13 (.string f) ([[19,13]]) (lb 20 278527) rfl (fwOf (is:=[2,3]) O y.sub rfl) (fun w hF=>ld1_r (v:=.string f) Tya9 rfl (hF.cell (((((((((A.trans B.sub).trans I).trans J).trans N.sub).trans Z).trans Y.sub).trans ad).trans ah.sub).cell (a7 0 _ rfl)))) (tk 14 (.agg #[.string f,nS,iI 0,vN,iI 0,nS]) (lb 20 294911) rfl (fun w=>bld_r (cells:=#[.string f,nS,iI 0,vN,iI 0,nS]) (vs:=[(0,.string f)]) rfl (fun w=>by kernel_rfl)) (heldF (fwOf (is:=[2,3]) O y.sub rfl)) (aO 15 rfl (bsl (e:=38) (cells:=#[.string f,nS,iI 0,vN,iI 0,nS]) (vs:=[(0,.agg #[.string f,nS,iI 0,vN,iI 0,nS])]) O rfl (buildSl_one Tye22 Tys38 Tyz38 rfl (by decide) (by decide) rfl) (fun bp ai=>(wt ⟨heldF (fwOf (is:=[3,4]) ai y.sub rfl),aO 16 rfl ?_⟩)))))))
             obtain ⟨aj,h⟩:=of_guard h
             refine apR (R:=(RDFunc au)) (p:=(DFunc.mk f [] 0 false 0 [])) (i:=1) (j:=0) ai rfl rfl Tye22 Tyi38 rfl (by decide) rfl rfl (b4.mono (fun _ _ h=>RDFunc.mono y.sub h)) (RDFunc.intro a9 (RSl.nil _ _ _ _ _ _) (RSl.nil _ _ _ _ _ _)) rfl rfl (Nat.le_refl _) aj (by decide) (fun s t ak aE aF aG=>?_)
             have V:=p1234 aF
             exact wt ⟨heldF (fwOf (is:=[2,3]) V y.sub rfl),tk 17 (.agg #[.slice s ((([]:LF) ++ c) ++ [(DFunc.mk f [] 0 false 0 [])]).length t]) (lb 20 524287) rfl (fun w=>bld_r (cells:=#[.slice s ((([]:LF) ++ c) ++ [(DFunc.mk f [] 0 false 0 [])]).length t]) (vs:=[(0,.slice s ((([]:LF) ++ c) ++ [(DFunc.mk f [] 0 false 0 [])]).length t)]) rfl (fun w=>by kernel_rfl)) (heldF (fwOf (is:=[2,3]) V y.sub rfl)) (aO 19 rfl (sI 1 (.agg #[.slice s ((([]:LF) ++ c) ++ [(DFunc.mk f [] 0 false 0 [])]).length t]) #[.slice s ((([]:LF) ++ c) ++ [(DFunc.mk f [] 0 false 0 [])]).length t] V Tys24 rfl rfl (fun a4 ar=>(wt ⟨heldE (i:=19) rfl rfl,aD (thenN (⟨_,au,(zz cq.drew),((([]:LF) ++ c) ++ [(DFunc.mk f [] 0 false 0 [])]),s,t,ak,fR,y.sub,(ar.sel [2,1,0]),aG,(app_bound aj),h⟩))⟩))))⟩
           ·rintro _ eV ⟨cr,bj,bP,aA,aZ,a2,bQ,rfl,cN,cO,dY,dZ,h⟩
            unfold f9_j4 at h
            refine sr (lN 1 ([sl aZ aA a2]) cO Tya24 Tys24 ?_)
            obtain ⟨eW,cP,cQ,d0⟩:=shutI (i:=2) (bytes:=88) (R:=fun K=>(RDFunc K)) cO rfl (Nat.le_refl _) dY dZ (fun hs=>(fun _ _ h=>RDFunc.mono hs h))
            obtain ⟨⟨⟨bq⟩,aN⟩,d1,h⟩:=ob h
            refine cv ([.agg #[sl aZ aA a2]]) Tyb15 ((f15_ok k) d1 (hG.mono ((((((((((A.trans B.sub).trans I).trans J).trans N.sub).trans Z).trans Y.sub).trans ad).trans ah.sub).trans cN).trans cQ)) (RDProgram.intro d0) (pt cP)) ?_
            rintro _ eX ⟨br,eY,rfl,cR,d2⟩
            have d3:=ca cR cP
            obtain ⟨bs,bu,rfl,eZ⟩:=RDProgram.open d2
            refine m1 (.tuple #[.agg #[sl bs bq bu],iI aN]) (ext (v:=.agg #[sl bs bq bu]) rfl rfl (ext (v:=iI aN) rfl rfl (aC #[nS] d3 Tyz24 (fun e0 d4=>(sI 0 (.agg #[sl bs bq bu]) #[sl bs bq bu] d4 Tys24 rfl rfl (fun e1 aS=>(m2 (iI aN) (wt (wp_cut (fun a w=>∃ cS bv b5,a=fr 133 (updL cS [(4,.bool b5)])∧KH.sub br bv∧SR K bv wi w [] []∧f9_j5 k b5=some r_) ?_ ?_)))))))))
            ·refine wp_region_lit (m1 (iI aI) (c0 (aI == 0) (m1 (.bool (aI == 0)) (cd h (fun am h=>?_) (fun am h=>?_)))))
             ·refine n1 119 am (m1 (iI az) (n1 119 am (fd 0 Tyf24_0 rfl (n1 119 am (l1 1 (sl z c c1) aS Tya22 (n1 119 am (lS c.length Tye22 (n1 119 am (c0 (az == (c.length:Int)) (m3 true (.bool (az == (c.length:Int))) (cg am) (m1 (.bool (az == (c.length:Int))) (cd h (fun aP h=>?_) (fun aP h=>?_)))))))))))))
              ·refine n1 126 aP (m1 (iI aN) (n1 126 aP (c0 (aN == 21) (m3 true (.bool (aN == 21)) (cg aP) (m1 (.bool (aN == 21)) (cd h (fun ba h=>?_) (fun ba h=>?_)))))))
               ·refine n1 130 ba ?_
                obtain ⟨b6,d5,h⟩:=ob h
                refine cv ([]) Tyb14 ((f14_ok k) d5 (hG.mono (((((((((((A.trans B.sub).trans I).trans J).trans N.sub).trans Z).trans Y.sub).trans ad).trans ah.sub).trans cN).trans cQ).trans cR.sub)) (pt aS)) ?_
                rintro _ e2 ⟨d6,rfl,cU⟩
                have d7:=ca cU aS
                exact m3 true (.bool b6) (cg ba) (m2 (.bool b6) (wt (⟨_,d6,b6,fR,cU.sub,(d7.sel []),h⟩)))
               ·exact o1 130 ba (m3 false vN (cg ba) (m2 vN (wt (⟨_,br,false,fR,kr,(aS.sel []),h⟩))))
              ·exact o1 126 aP (o1 126 aP (m3 false vN (cg aP) (m1 vN (o0 130 (m3 false vN rfl (m2 vN (wt (⟨_,br,false,fR,kr,(aS.sel []),h⟩))))))))
             ·exact o1 119 am (o1 119 am (o1 119 am (o1 119 am (o1 119 am (m3 false vN (cg am) (m1 vN (o0 126 (o0 126 (m3 false vN rfl (m1 vN (o0 130 (m3 false vN rfl (m2 vN (wt (⟨_,br,false,fR,kr,(aS.sel []),h⟩)))))))))))))))
            ·rintro _ e3 ⟨cS,bv,b5,rfl,e4,d8,h⟩
             unfold f9_j5 at h
             refine wp_ret ?_
             cases (oi h).trans hr_
             exact retA1 rfl (resT rfl) ⟨bv,rfl,d8⟩
theorem f9_ok (k:Nat):f9_spec (f9 k):=f9_b_ok k
end Go.Proofs.YtoajecnoffhlbaaGreatDoor
set_option maxRecDepth 512
set_option maxHeartbeats 200000
namespace Go.Proofs.YtoajecnoffhlbaaGreatDoor
open Go
mutual
def szE:DExpr→Nat | .mk _ _ _ _ l=>szEs l + 1
def szEs:List DExpr→Nat | []=>0 | e :: l=>szE e + szEs l
end
mutual
def szS:DStmt→Nat | .mk _ _ _ _ _ _ a b c d e=>szEs a + szSs b + szSs c + szSs d + szCs e + 1
def szSs:List DStmt→Nat | []=>0 | s :: l=>szS s + szSs l
def szC:DCase→Nat | .mk _ _ _ a b=>szEs a + szSs b + 1
def szCs:List DCase→Nat | []=>0 | c :: l=>szC c + szCs l
end
def szF:DFunc→Nat | .mk _ ps _ _ _ b=>ps.length + szSs b + 1
def szFs:List DFunc→Nat | []=>0 | f :: l=>szF f + szFs l
def szP:DProgram→Nat | .mk fs=>szFs fs + 1
theorem len_szEs : ∀ l:List DExpr,l.length≤szEs l
 | []=>by simp
 | .mk _ _ _ _ a :: l=>by have:=len_szEs l; simp only [List.length_cons,szEs,szE]; omega
def letterI (c:Int):Bool:=decide (c ≥ 97) && decide (c≤122)
def digitI (c:Int):Bool:=decide (c ≥ 48) && decide (c≤57)
def runL:List UInt8→Nat→Bool
 | [],_=>true
 | e :: r,i=>(letterI e.toNat || (!((i:Int) == 0) && digitI e.toNat)) && runL r (i + 1)
def isN (s:ByteArray):Bool:=runL s.data.toList 0 && !seq s ⟨#[]⟩ && decide ((s.size:Int)≤12) && !wordsL.any (seq s)
theorem f66_eq (k:Nat) (c:Int):f66 k c=some (letterI c):=by
 unfold f66 f66_b f66_j1 letterI
 cases decide (c ≥ 97) <;> rfl
theorem f67_eq (k:Nat) (c:Int):f67 k c=some (digitI c):=by
 unfold f67 f67_b f67_j1 digitI
 cases decide (c ≥ 48) <;> rfl
theorem f112_eq (k:Nat) (c:Int):f112 k c=some (letterI c):=by
 unfold f112 f112_b f112_j1 letterI
 cases decide (c ≥ 97) <;> rfl
theorem f113_eq (k:Nat) (c:Int):f113 k c=some (digitI c):=by
 unfold f113 f113_b f113_j1 digitI
 cases decide (c ≥ 48) <;> rfl
theorem f91_l1_eq (k:Nat) (a:ByteArray) : ∀ (l:List UInt8) (i:Nat),f91_l1 k a l i=some (runL l i && !seq a ⟨#[]⟩)
 | [],i=>by simp [f91_l1,runL]
 | e :: l,i=>by
  unfold f91_l1 runL
  rw [f112_eq]
  simp only [Option.bind_some,f91_j1,f113_eq,f91_l1_eq k a l]
  cases letterI e.toNat <;> cases ((i:Int) == 0) <;> cases digitI e.toNat <;> simp
theorem f93_l1_eq (k:Nat) (a:ByteArray) : ∀ (l:List ByteArray) (i:Nat),∃ r,f93_l1 k a l i=some r∧decide (r ≥ 0)=l.any (seq a)
 | [],i=>⟨-1,rfl,rfl⟩
 | e :: l,i=>by
  unfold f93_l1
  cases h:seq a e
  ·obtain ⟨r,h1,h2⟩:=f93_l1_eq k a l (i + 1)
   exact ⟨r,h1,by simp [h,h2]⟩
  ·exact ⟨(i:Int),rfl,by simp [h]⟩
theorem f63_eq (k:Nat) (s:ByteArray):f63 k s=some (isN s):=by
 unfold f63 f63_b f91 f91_b isN
 rw [f91_l1_eq]
 simp only [Option.bind_some,f63_j1]
 obtain ⟨r,h1,h2⟩:=f93_l1_eq k s wordsL 0
 have h92:f92 k s=some (wordsL.any (seq s)):=by
  unfold f92 f92_b f114 f64 f64_b f93 f93_b
  simp [h1,h2]
 rw [h92]
 simp only [Option.bind_some]
 cases runL s.data.toList 0 <;> cases seq s ⟨#[]⟩ <;> cases decide ((s.size:Int)≤12) <;> rfl
theorem seq_comm (a b:ByteArray):seq a b=seq b a:=by
 unfold seq
 rw [Bool.eq_iff_iff,beq_iff_eq,beq_iff_eq]
 exact eq_comm
theorem f68_l1_eq (k:Nat) (a:ByteArray) : ∀ (l:List ByteArray) (i:Nat),f68_l1 k a l i=some (l.any (seq a))
 | [],i=>rfl
 | e :: l,i=>by
  unfold f68_l1
  rw [seq_comm e a]
  cases h:seq a e
  ·simp [h,f68_l1_eq k a l]
  ·simp [h]
theorem words_eq (k:Nat):f97 k=some wordsL:=rfl
theorem f68_eq (k:Nat) (a:ByteArray):f68 k a=some (wordsL.any (seq a)):=by
 unfold f68 f68_b
 rw [words_eq]
 exact f68_l1_eq k a wordsL 0
theorem size_seq (a:ByteArray):decide ((a.size:Int) ≥ 1)=!seq a ⟨#[]⟩:=by
 unfold seq
 rw [ByteArray.toList_eq,ByteArray.toList_eq]
 obtain ⟨⟨l⟩⟩:=a
 cases l with
 | nil=>rfl
 | cons x l =>
  have h2:((⟨⟨x :: l⟩⟩:ByteArray).size:Int) ≥ 1:=by
   show ((l.length + 1:Nat):Int) ≥ 1
   omega
  rw [decide_eq_true h2]
  rfl
theorem f34_l1_eq (k:Nat) (a:ByteArray) : ∀ (l:List UInt8) (i:Nat),f34_l1 k a l i=some (runL l i && !seq a ⟨#[]⟩ && decide ((a.size:Int)≤12) && !wordsL.any (seq a))
 | [],i=>by
  unfold f34_l1 runL
  rw [f68_eq,size_seq]
  simp only [Option.bind_some,f34_j1]
  cases seq a ⟨#[]⟩ <;> cases decide ((a.size:Int)≤12) <;> rfl
 | e :: l,i=>by
  unfold f34_l1 runL
  rw [f66_eq]
  simp only [Option.bind_some,f34_j2,f67_eq,f34_l1_eq k a l]
  cases letterI e.toNat <;> cases ((i:Int) == 0) <;> cases digitI e.toNat <;> simp
theorem f34_eq (k:Nat) (s:ByteArray):f34 k s=some (isN s):=f34_l1_eq k s _ 0
def textL:List UInt8→Bool
 | []=>true
 | e :: l=>!decide ((e.toNat:Int) < 32) && !decide ((e.toNat:Int) > 126) && textL l
def isT (s:ByteArray):Bool:=textL s.data.toList && decide ((s.size:Int)≤60)
theorem f162_l1_eq (k:Nat) (a:ByteArray) : ∀ (l:List UInt8) (i:Nat),f162_l1 k a l i=some (textL l && decide ((a.size:Int)≤60))
 | [],i=>by simp [f162_l1,textL]
 | e :: l,i=>by
  unfold f162_l1 textL
  simp only [f162_j1,f162_l1_eq k a l]
  cases decide ((e.toNat:Int) < 32) <;> cases decide ((e.toNat:Int) > 126) <;> simp
theorem f132_l1_eq (k:Nat) (a:ByteArray) : ∀ (l:List UInt8) (i:Nat),f132_l1 k a l i=some (textL l && decide ((a.size:Int)≤60))
 | [],i=>by simp [f132_l1,textL]
 | e :: l,i=>by
  unfold f132_l1 textL
  simp only [f132_j1,f132_l1_eq k a l]
  cases decide ((e.toNat:Int) < 32) <;> cases decide ((e.toNat:Int) > 126) <;> simp
theorem f160_eq (k:Nat) (s:ByteArray):f160 k s=some (isT s):=f162_l1_eq k s _ 0
theorem f132_eq (k:Nat) (s:ByteArray):f132 k s=some (isT s):=f132_l1_eq k s _ 0
theorem w64_nat {x:Int} {n:Nat} (h:x=(n:Int)) (h2:n≤4611686018427387904):w64 x=(n:Int):=by
 subst h; unfold w64 IntKind.wrap; simp [IntKind.bits,IntKind.signed]; omega
def nodeE (op num:Int) (txt:ByteArray) (len:Nat):Bool :=
 cond (op == 1) (decide (num ≥ 0) && decide (num≤1000000000000) && seq txt ⟨#[]⟩ && (len:Int) == 0)
 (cond (op == 2) (decide (num ≥ 0) && decide (num≤1) && seq txt ⟨#[]⟩ && (len:Int) == 0)
 (cond (op == 3) (num == 0 && isT txt && (len:Int) == 0)
 (cond (op == 4) (num == 0 && isN txt && (len:Int) == 0)
 (cond (op == 5 || op == 6) (num == 0 && seq txt ⟨#[]⟩ && (len:Int) == 1)
  (decide (op ≥ 7) && decide (op≤19) && num == 0 && seq txt ⟨#[]⟩ && (len:Int) == 2)))))
mutual
def gE (z:Bool):DExpr→Nat→Bool
 | .mk op num txt slot l,a=>decide (a≤16) && (z || slot == 0) && nodeE op num txt l.length && gEs z l (a + 1)
def gEs (z:Bool):List DExpr→Nat→Bool
 | [],_=>true
 | e :: l,a=>gE z e a && gEs z l a
end
def NRes (r:Option (Dcounter × Bool)) (g:Bool) (n sz:Nat) (z:Bool):Prop :=
 ∃ c,r=some (c,g && decide (n + sz≤600))∧((g && decide (n + sz≤600))=true→∃ d,c=.mk ((n + sz:Nat):Int) d z)
theorem f116_eq (k:Nat) (x a b:Int):f116 k x a b=some (decide (x ≥ a) && decide (x≤b)):=by
 unfold f116 f116_b f116_j1; cases decide (x ≥ a) <;> rfl
theorem f117_eq (k:Nat) (n:Nat) (d:Int) (z:Bool) (a:Nat) (h:n≤600) :
  f117 k (.mk n d z) a=some (.mk ((n + 1:Nat):Int) (imax d a) z,decide (n + 1≤600) && decide (a≤16)):=by
 unfold f117 f117_b f117_j1
 simp only
 rw [w64_nat (n:=n + 1) (by omega) (by omega)]
 have e1:decide (((n + 1:Nat):Int)≤600)=decide (n + 1≤600):=by rw [decide_eq_decide]; omega
 have e2:decide ((a:Int)≤16)=decide (a≤16):=by rw [decide_eq_decide]; omega
 rw [e1,e2]
 cases decide (n + 1≤600) <;> rfl
theorem f157_j1_eq (k:Nat) (F:Fam153) (op num:Int) (txt:ByteArray) (l:List DExpr) (a n d:Int) (q:Bool) :
  f157_j1 k F op num txt l a n d q false=cond (nodeE op num txt l.length) (f157_j2 k F l a n d q (l.length:Int) true) (some (.mk n d q,false)):=by
 unfold f157_j1 f157_j4 f157_j5 f157_j6 f157_j2 f157_j3 nodeE
 simp only [f116_eq,f160_eq,f63_eq,Option.bind_some,Bool.cond_eq_ite]
 grind
theorem szE_pos : ∀ e:DExpr,1≤szE e
 | .mk _ _ _ _ _=>by simp only [szE]; omega
theorem NRes.no {r:Option (Dcounter × Bool)} {g:Bool} {n sz:Nat} {z:Bool} {c:Dcounter} (h:r=some (c,false)) (hg:(g && decide (n + sz≤600))=false):NRes r g n sz z :=
 ⟨c,by rw [h,hg],by rw [hg]; intro h; cases h⟩
theorem NRes.yes {r:Option (Dcounter × Bool)} {g:Bool} {n sz:Nat} {z:Bool} {d:Int} (h:r=some (.mk ((n + sz:Nat):Int) d z,true)) (hg:(g && decide (n + sz≤600))=true):NRes r g n sz z :=
 ⟨_,by rw [h,hg],fun _=>⟨d,rfl⟩⟩
theorem nE (k:Nat) (z:Bool) : ∀ m,
  (∀ e,2 * szE e≤m→∀ (n:Nat) (d:Int) (a:Nat),n≤600→a≤17→NRes ((fam153 k m).f157 (.mk n d z) e a) (gE z e a) n (szE e) z) ∧
  (∀ l,2 * szEs l + 1≤m→∀ (n:Nat) (d:Int) (a:Nat),n≤600→a≤17→NRes ((fam153 k m).f153 (.mk n d z) l a) (gEs z l a) n (szEs l) z)
 | 0=>⟨fun e he=>by have:=szE_pos e; omega,fun l hl=>by omega⟩
 | m + 1=>by
  obtain ⟨ihe,ihl⟩:=nE k z m
  constructor
  ·intro e he n d a hn ha
   obtain ⟨op,num,txt,slot,l⟩:=e
   simp only [szE] at he
   show NRes (f157_b k (fam153 k m) (.mk n d z) (.mk op num txt slot l) a) _ _ _ _
   unfold f157_b
   simp only [szE]
   rw [f117_eq k n d z a hn]
   simp only [Option.bind_some]
   have hj : ∀ q:Bool,f157_j1 k (fam153 k m) op num txt l a ((n + 1:Nat):Int) (imax d a) z q=cond q (some (.mk ((n + 1:Nat):Int) (imax d a) z,false)) (cond (nodeE op num txt l.length) (f157_j2 k (fam153 k m) l a ((n + 1:Nat):Int) (imax d a) z (l.length:Int) true) (some (.mk ((n + 1:Nat):Int) (imax d a) z,false))):=by
    intro q; cases q
    ·exact f157_j1_eq _ _ _ _ _ _ _ _ _ _
    ·rfl
   simp only [hj]
   by_cases h1:n + 1≤600∧a≤16
   ·obtain ⟨h1,h2⟩:=h1
    simp only [h1,h2,decide_true,Bool.and_self,Bool.not_true,cond_false]
    by_cases h3:(z || slot == 0)=true
    ·have h3' : (cond (slot != 0) (!z) false)=false:=by cases z <;> simp_all
     have h4 : ∀ (x y:Option (Dcounter × Bool)),cond (slot != 0) (cond (!z) x y) y=y:=by
      intro x y; cases z <;> simp_all
     rw [h4]
     by_cases h5:nodeE op num txt l.length=true
     ·simp only [h5,cond_true]
      unfold f157_j2
      simp only [beq_self_eq_true,cond_true]
      rw [w64_nat (n:=a + 1) (by omega) (by omega)]
      obtain ⟨c,hc,hd⟩:=ihl l (by omega) (n + 1) (imax d a) (a + 1) h1 (by omega)
      rw [hc]
      refine ⟨c,?_,?_⟩
      ·obtain ⟨c0,c1,c2⟩:=c
       have:n + 1 + szEs l=n + (szEs l + 1):=by omega
       simp [f157_j3,gE,h2,h3,h5,this]
      ·intro hg
       have e1:n + (szEs l + 1)=n + 1 + szEs l:=by omega
       rw [e1]
       refine hd ?_
       rw [e1] at hg
       simp [gE,h2,h3,h5] at hg
       simp [hg]
     ·have h5' : nodeE op num txt l.length=false:=by simpa using h5
      simp only [h5',cond_false]
      exact .no rfl (by simp [gE,h5'])
    ·have h3' : (z || slot == 0)=false:=by simpa using h3
     have h4 : ∀ (x y:Option (Dcounter × Bool)),cond (slot != 0) (cond (!z) x y) y=x:=by
      intro x y
      simp only [Bool.or_eq_false_iff,beq_eq_false_iff_ne] at h3'
      have e:(slot != 0)=true:=bne_iff_ne.mpr h3'.2
      rw [e,h3'.1]; rfl
     rw [h4]
     exact .no rfl (by simp [gE,h3'])
   ·have h1' : (decide (n + 1≤600) && decide (a≤16))=false:=by
     simp only [Bool.and_eq_false_iff,decide_eq_false_iff_not]; omega
    simp only [h1',Bool.not_false,cond_true]
    refine .no rfl ?_
    simp only [gE,Bool.and_eq_false_iff,decide_eq_false_iff_not]
    omega
  ·intro l hl n d a hn ha
   show NRes (f153_l1 k (fam153 k m) a l 0 n d z) _ _ _ _
   have loop : ∀ (l:List DExpr) (i:Nat) (n:Nat) (d:Int),2 * szEs l≤m→n≤600→NRes (f153_l1 k (fam153 k m) a l i n d z) (gEs z l a) n (szEs l) z:=by
    intro l
    induction l with
    | nil=>intro i n d _ hn; exact .yes rfl (by simp [gEs,szEs,hn])
    | cons e l ih =>
     intro i n d hm hn
     obtain ⟨e0,e1,e2,e3,e4⟩:=e
     unfold f153_l1
     simp only [szEs] at hm
     obtain ⟨c,hc,hd⟩:=ihe (.mk e0 e1 e2 e3 e4) (by omega) n d a hn ha
     rw [hc]
     by_cases hg:(gE z (.mk e0 e1 e2 e3 e4) a && decide (n + szE (.mk e0 e1 e2 e3 e4)≤600))=true
     ·obtain ⟨d',rfl⟩:=hd hg
      have hg':=hg
      simp only [Bool.and_eq_true,decide_eq_true_eq] at hg'
      simp only [hg,Option.bind_some,Bool.not_true,cond_false]
      obtain ⟨c2,hc2,hd2⟩:=ih (i + 1) _ d' (by omega) hg'.2
      have e1:n + (szE (DExpr.mk e0 e1 e2 e3 e4) + szEs l)=n + szE (DExpr.mk e0 e1 e2 e3 e4) + szEs l:=by omega
      refine ⟨c2,?_,?_⟩
      ·rw [hc2]; simp only [gEs,szEs,hg'.1,Bool.true_and,e1]
      ·simp only [gEs,szEs,hg'.1,Bool.true_and,e1]; exact hd2
     ·have hg' : (gE z (.mk e0 e1 e2 e3 e4) a && decide (n + szE (.mk e0 e1 e2 e3 e4)≤600))=false:=by simpa using hg
      obtain ⟨c0,c1,c2⟩:=c
      simp only [hg',Option.bind_some,Bool.not_false,cond_true]
      refine .no rfl ?_
      simp only [Bool.and_eq_false_iff,decide_eq_false_iff_not,gEs,szEs] at hg' ⊢
      rcases hg' with h | h
      ·exact .inl (.inl h)
      ·exact .inr (decide_eq_false (fun h'=>h (by omega)))
   exact loop l 0 n d (by omega) hn
theorem f59_eq (k:Nat) (n d:Int) (q b:Bool):f59 k (.mk n d q) b=some (.mk n d (q || !b)):=by
 unfold f59 f59_b; cases b <;> cases q <;> rfl
theorem f60_eq (k:Nat) (n:Nat) (d:Int) (q:Bool) (a:Nat) (h:n≤600) :
  f60 k (.mk n d q) a=some (.mk ((n + 1:Nat):Int) (imax d a) (q || !(decide (n + 1≤600) && decide (a≤16)))):=by
 unfold f60 f60_b f60_j1
 simp only
 rw [w64_nat (n:=n + 1) (by omega) (by omega)]
 have e1:decide (((n + 1:Nat):Int) > 600)=!decide (n + 1≤600):=by rw [← decide_not,decide_eq_decide]; omega
 have e2:decide ((a:Int) > 16)=!decide (a≤16):=by rw [← decide_not,decide_eq_decide]; omega
 rw [e1,e2]
 cases decide (n + 1≤600) <;> cases decide (a≤16) <;> cases q <;> rfl
theorem bfun {α:Type} (Q:Bool→α) : ∃ A B,Q=fun b=>if b=true then A else B :=
 ⟨Q true,Q false,funext fun b=>by cases b <;> rfl⟩
theorem f110_j1_eq (k:Nat) (F:Fam110) (op num:Int) (txt:ByteArray) (l:List DExpr) (a:Int) (x:Bool) (n d:Int) (q:Bool) :
  f110_j1 k F op num txt l a x n d q=f110_l1 k F a x l 0 n d (q || !nodeE op num txt l.length):=by
 unfold f110_j1 f110_j3 f110_j2 nodeE
 have h01:(decide (num ≥ 0) && decide (num≤1))=(num == 0 || num == 1):=by
  rw [Bool.eq_iff_iff]; simp only [Bool.and_eq_true,Bool.or_eq_true,decide_eq_true_eq,beq_iff_eq]; omega
 rw [h01]
 simp only [f59_eq,f132_eq,f34_eq,Option.bind_some,Bool.cond_eq_ite]
 generalize f110_l1 k F a x l 0 n d=Q
 obtain ⟨A,B,rfl⟩:=bfun Q
 grind (splits:=40)
def RRes (r:Option DSize) (g:Bool) (n sz:Nat) (q:Bool):Prop :=
 ∃ x d q',r=some (.mk x d q')∧q'=(q || !(g && decide (n + sz≤600)))∧(q'=false→x=((n + sz:Nat):Int))
theorem RRes.wrong {r:Option DSize} {g:Bool} {n sz:Nat} {x d:Int} (h:r=some (.mk x d true)):RRes r g n sz true :=
 ⟨x,d,true,h,rfl,fun h=>by cases h⟩
theorem RRes.bad {r:Option DSize} {g:Bool} {n sz:Nat} {q:Bool} {x d:Int} (h:r=some (.mk x d true)) (hg:(g && decide (n + sz≤600))=false):RRes r g n sz q :=
 ⟨x,d,true,h,by rw [hg]; cases q <;> rfl,fun h=>by cases h⟩
theorem bcomb (g1 g2:Bool) (n s1 s2:Nat):(!(g1 && decide (n + s1≤600)) || !(g2 && decide (n + s1 + s2≤600)))=!(g1 && g2 && decide (n + (s1 + s2)≤600)):=by
 rw [← Nat.add_assoc]
 by_cases hh:n + s1 + s2≤600
 ·have:n + s1≤600:=by omega
  simp only [hh,this,decide_true]; cases g1 <;> cases g2 <;> rfl
 ·simp only [hh,decide_false]; cases g1 <;> cases g2 <;> simp
theorem RRes.bind {r:Option DSize} {f:DSize→Option DSize} {g1 g2:Bool} {n s1 s2:Nat} {q:Bool} (h1:RRes r g1 n s1 q)
  (h2 : ∀ x d q',(q'=false→x=((n + s1:Nat):Int)∧n + s1≤600)→RRes (f (.mk x d q')) g2 (n + s1) s2 q'):RRes (r.bind f) (g1 && g2) n (s1 + s2) q:=by
 obtain ⟨x,d,q',rfl,hq,hx⟩:=h1
 obtain ⟨x2,d2,q2,h4,h5,h6⟩:=h2 x d q' (fun h=>⟨hx h,by rw [h] at hq; cases q <;> simp at hq; exact hq.2⟩)
 refine ⟨x2,d2,q2,h4,?_,?_⟩
 ·rw [h5,hq,Bool.or_assoc,bcomb]
 ·rw [← Nat.add_assoc]; exact h6
theorem RRes.done {n:Nat} {q:Bool} {x d:Int} (hx:q=false→x=(n:Int)∧n≤600):RRes (some (.mk x d q)) true n 0 q :=
 ⟨x,d,q,rfl,by cases q <;> simp; exact (hx rfl).2,fun h=>(hx h).1⟩
theorem RRes.cast {r:Option DSize} {g g' : Bool} {n s s' : Nat} {q:Bool} (h:RRes r g n s q) (hg:g=g') (hs:s=s'):RRes r g' n s' q:=by
 subst hg; subst hs; exact h
theorem RRes.check {r:Option DSize} {g b:Bool} {n s:Nat} {q:Bool} (h:RRes r g n s (q || !b)):RRes r (b && g) n s q:=by
 obtain ⟨x,d,q',h1,h2,h3⟩:=h
 exact ⟨x,d,q',h1,by rw [h2]; cases q <;> cases b <;> rfl,h3⟩
theorem rE (k:Nat) : ∀ m,
  ∀ e,szE e≤m→∀ (n:Nat) (d:Int) (a:Nat),n≤600→a≤17→RRes ((fam110 k m).f110 (.mk n d false) e a false) (gE false e a) n (szE e) false
 | 0=>fun e he=>by have:=szE_pos e; omega
 | m + 1=>by
  have ihe:=rE k m
  intro e he n d a hn ha
  have loop:a≤16→∀ (l:List DExpr) (i:Nat) (x:Int) (n:Nat) (d:Int) (q:Bool),szEs l≤m→(q=false→x=(n:Int)∧n≤600)→RRes (f110_l1 k (fam110 k m) a false l i x d q) (gEs false l (a + 1)) n (szEs l) q:=by
   intro ha l
   induction l with
   | nil=>intro i x n d q _ hx; exact .done hx
   | cons e l ih =>
    intro i x n d q hm hx
    obtain ⟨e0,e1,e2,e3,e4⟩:=e
    unfold f110_l1
    cases q with
    | true=>exact .wrong rfl
    | false =>
     obtain ⟨rfl,hn⟩:=hx rfl
     simp only [szEs] at hm
     simp only [Bool.not_false,cond_true]
     rw [w64_nat (n:=a + 1) (by omega) (by omega)]
     exact (ihe (.mk e0 e1 e2 e3 e4) (by omega) n d (a + 1) hn (by omega)).bind fun x1 d1 q1 h1=>ih (i + 1) x1 _ d1 q1 (by omega) h1
  obtain ⟨op,num,txt,slot,l⟩:=e
  simp only [szE] at he
  show RRes (f110_b k (fam110 k m) (.mk n d false) (.mk op num txt slot l) a false) _ _ _ _
  unfold f110_b
  simp only [szE,cond_false,f59_eq,f110_j1_eq,Option.bind_some]
  rw [f60_eq k n d false a hn]
  simp only [Option.bind_some,Bool.false_or]
  by_cases ha' : a≤16
  ·obtain ⟨x2,d2,q2,h4,h5,h6⟩:=loop ha' l 0 ((n + 1:Nat):Int) (n + 1) (imax d a) (!(decide (n + 1≤600) && decide (a≤16)) || !(slot == 0) || !nodeE op num txt l.length) (by omega) (fun hq=>⟨rfl,by simp at hq; omega⟩)
   have e1:n + (szEs l + 1)=n + 1 + szEs l:=by omega
   refine ⟨x2,d2,q2,h4,?_,?_⟩
   ·rw [h5,e1]
    simp only [gE,ha',decide_true,Bool.false_or,Bool.true_and,Bool.and_true]
    by_cases hh:n + 1 + szEs l≤600
    ·have:n + 1≤600:=by omega
     simp only [hh,this,decide_true]
     cases (slot == 0) <;> cases nodeE op num txt l.length <;> simp
    ·simp [hh]
   ·rw [e1]; exact h6
  ·have loopw : ∀ (l:List DExpr) (i:Nat) (x d:Int),∃ x' d',f110_l1 k (fam110 k m) a false l i x d true=some (.mk x' d' true):=by
    intro l i x d
    cases l with
    | nil=>exact ⟨_,_,rfl⟩
    | cons e l=>obtain ⟨_,_,_,_,_⟩:=e; exact ⟨_,_,rfl⟩
   have:(!(decide (n + 1≤600) && decide (a≤16)) || !(slot == 0) || !nodeE op num txt l.length)=true:=by simp [ha']
   rw [this]
   obtain ⟨x',d',h⟩:=loopw l 0 ((n + 1:Nat):Int) (imax d a)
   exact .bad h (by simp [gE,ha'])
mutual
def stE:DExpr→DExpr | .mk op num txt _ l=>.mk op num txt 0 (stEs l)
def stEs:List DExpr→List DExpr | []=>[] | e :: l=>stE e :: stEs l
end
theorem stEs_len : ∀ l,(stEs l).length=l.length
 | []=>rfl
 | e :: l=>by simp [stEs,stEs_len l]
mutual
theorem szE_st : ∀ e,szE (stE e)=szE e
 | .mk _ _ _ _ l=>by simp only [stE,szE,szEs_st l]
theorem szEs_st : ∀ l,szEs (stEs l)=szEs l
 | []=>rfl
 | e :: l=>by simp only [stEs,szEs,szE_st e,szEs_st l]
end
mutual
theorem gE_st : ∀ e a,gE false (stE e) a=gE true e a
 | .mk _ _ _ _ l,a=>by simp [stE,gE,gEs_st l,stEs_len]
theorem gEs_st : ∀ l a,gEs false (stEs l) a=gEs true l a
 | [],_=>rfl
 | e :: l,a=>by simp only [stEs,gEs,gE_st e,gEs_st l]
end
end Go.Proofs.YtoajecnoffhlbaaGreatDoor
