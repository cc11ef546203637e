/- Words of the same proof, part 5: what the last text needs; nothing is claimed here. -/
import Derived.Test.YtoajecnoffhlbaaDoorG4
import Derived.ProofKit
set_option linter.unusedVariables false
set_option linter.unusedSimpArgs false
set_option maxRecDepth 100000
set_option maxHeartbeats 4000000
namespace Go.Proofs.YtoajecnoffhlbaaDoor
open Go
theorem f9_b_ok (k:Nat):f9_spec (f9_b k):=by
 unfold f9_spec
 intro K wi cr c3 ct c5 c6 h hG cu cw cx
 obtain ⟨r_,hr_,h⟩:=rz h
 obtain ⟨af⟩:=cr
 obtain ⟨aG,c1,rfl,b7⟩:=RDProgram.open cu
 obtain ⟨Y⟩:=ct
 obtain ⟨aw,ax,rfl,bi⟩:=RDProgram.open cw
 refine enter Tryd.func9 rfl (n:=94) rfl ?_
 unfold f9_b at h
 refine sr (bxoC (cs:=#[sl aG af c1]) cx rfl rfl (fun aH cy=>(bxoC (cs:=#[sl aw Y ax]) cy rfl rfl (fun c7 bI=>(m2 vN (wt (wp_seq (sr (fd 0 Tyf24_0 rfl (l1 1 (sl aG af c1) bI Tya22 (lS af.length Tye22 (fd 0 Tyf24_0 rfl (l1 0 (sl aw Y ax) bI Tya22 (lS Y.length Tye22 (c0 ((af.length:Int) != (Y.length:Int)) (wt (cd h (fun bQ h=>?_) (fun bQ h=>?_))))))))))))))))))
 ·refine cT bQ (sr (m2 vN (wt (wp_ret (thenR ?_)))))
  cases (oi h).trans hr_
  exact retA1 rfl (resT rfl) ⟨K,rfl,(bI.sel [])⟩
 ·refine cF bQ (wp_skip (thenN (wp_seq (sr (m2 (iI 0) (wt (wp_block (wp_loopG (fun g_ a w=>∃ b8 Z aM,∃ (G:Nat),g_=aM.length∧a=fr 94 (updL b8 [(2,pp (zz wi) 0),(3,pp (zz aH) 0),(5,iI (G:Int))])∧KH.sub K Z∧SR K Z wi w [] [.box (zz wi) (zz wi) #[sl aG af c1] 24,.box (zz wi) (zz aH) #[sl aw Y ax] 24]∧af.drop G=aM∧f9_l1 k Y aM G=some r_) af.length ?_ ?_))))))))
  ·exact ⟨_,K,af,0,rfl,fR,kr,(bI.sel [1,0]),List.drop_zero,h⟩
  ·rintro _ _ ab ⟨b8,Z,aM,G,rfl,rfl,aI,bJ,bv,h⟩
   rcases aM with _ | ⟨⟨m,p,q,s,t,u⟩,aM⟩
   ·unfold f9_l1 at h
    refine wp_seq (sr (m1 (iI (G:Int)) (fd 0 Tyf24_0 rfl (l1 0 (sl aG af c1) bJ Tya22 (lS af.length Tye22 (bcm (r:=false) rfl rfl (congrArg some (drop_nil_lt bv)) (wt (cndF rfl (wp_exit (thenX (thenX (blkX (thenN (sr (m2 vT (wt (wp_ret ?_)))))))))))))))))
    cases (oi h).trans hr_
    exact retA1 rfl (resT rfl) ⟨Z,rfl,(bJ.sel [])⟩
   ·unfold f9_l1 at h
    refine wp_seq (sr (m1 (iI (G:Int)) (fd 0 Tyf24_0 rfl (l1 0 (sl aG af c1) bJ Tya22 (lS af.length Tye22 (bcm (r:=true) rfl rfl (congrArg some (drop_cons_t bv)) (wt (cndT rfl (wp_skip (thenN (wp_seq (wp_block (wp_cut (fun a w=>∃ b9 aW aN X aJ aK aP aQ aR aX a9 ba aY aS av aZ a2 aT aU aV a3 bb bd,a=fr 94 (updL b9 [(2,pp (zz wi) 0),(3,pp (zz aH) 0),(5,iI (G:Int)),(6,pp aW 0),(7,pp aY 0)])∧SR K Z wi w [] [.box (zz wi) (zz wi) #[sl aG af c1] 24,.box (zz wi) (zz aH) #[sl aw Y ax] 24,.box (zz wi) aW (vF aN aJ X aK aP aQ aR a9 aX ba).toArray 34,.box (zz wi) aY (vF aS aZ av a2 aT aU aV bb a3 bd).toArray 34]∧aN.size ≤ mB∧tP Z aJ aK X∧tS Z a9 ba aX∧aS.size ≤ mB∧tP Z aZ a2 av∧tS Z bb bd a3∧f9_j1 k G aN X aP aQ aR aX aS av aT aU aV a3 (f9_l1 k Y aM)=some r_) ?_ ?_)))))))))))))
    ·have ak:=bJ.drew
     refine regAny (E:=[12,13]) (F:=FW Z [.box (zz wi) (zz wi) #[sl aG af c1] 24,.box (zz wi) (zz aH) #[sl aw Y ax] 24]) (L:=(lb 14 0)) ymx rfl rfl (tk 0 (pp (zz wi) 0) (lb 14 1) rfl (fun w=>fld_r (o':=0) Tyf24_0 rfl rfl) (heldF (fq [0,1] ak)) (tf 1 (sl aG af c1) ([[12,1],[13,1]]) (lb 14 3) rfl (fq [0,1] ak) (fun w hF=>lb1_r (i:=0) (v:=sl aG af c1) hF rfl Tya22 rfl rfl) (tk 2 (iI (G:Int)) (lb 14 7) rfl (fun w=>mv_r (v:=iI (G:Int)) rfl) (heldF (fq [0,1] ak)) ?_)))
     obtain ⟨cb,cc,c8,cz,c9,cA,cB⟩:=((mf b7 aI)).row.at_ (drop_cons_at bv)
     obtain ⟨x,y,z,A,rfl,ac,ad,ae⟩:=RDFunc.open cB
     refine tk 3 (pp cb (cc + G * 6)) (lb 14 15) rfl (fun w=>idxN_r (b:=cb) (o:=cc) (i:=G) Tye22 Tys34 rfl cz rfl (drop_cons_lt bv)) (heldF (fq [0,1] ak)) (tf 4 (.agg (vF m x p y q s t z u A).toArray) ([[12,4],[13,4]]) (lb 14 31) rfl (fq [0,1] ak) (fun w hF=>ldN_r (cs:=(vF m x p y q s t z u A)) Tya34 Tys34 rfl rfl (fun j v hj=>hF.cell (kr.cell (cA j v hj)))) (tk 5 (pp (zz aH) 0) (lb 14 63) rfl (fun w=>fld_r (o':=0) Tyf24_0 rfl rfl) (heldF (fq [0,1] ak)) (tk 7 (iI (G:Int)) (lb 14 191) rfl (fun w=>mv_r (v:=iI (G:Int)) rfl) (heldF (fq [0,1] ak)) (anyAll (rs:=[6,10,11]) (by kernel_rfl) (by decide) (allC ?_ (allC ?_ (allC ?_ allN)))))))
     ·refine opL (i:=6) rfl (l1 1 (sl aw Y ax) ak Tya22 (wt ⟨heldF (fq [0,1] ak),?_⟩))
      obtain ⟨⟨c,d,e,f,g,l⟩,bR,h⟩:=ob h
      obtain ⟨ce,cf,da,cC,db,bj,cD⟩:=((mf bi aI)).row.at_ (idxO_at bR).1
      obtain ⟨I,J,N,O,rfl,be,bf,bg⟩:=RDFunc.open cD
      refine tk 8 (.pointer (some ⟨ce,cf + (G:Int).toNat * 6,none⟩)) (lb 14 511) rfl (fun w=>idxG_r (b:=ce) (o:=cf) (i:=(G:Int)) Tye22 Tys34 rfl cC rfl (idxO_at bR).2.1 (idxO_at bR).2.2) (heldF (fq [0,1] ak)) (anyAll (rs:=[9,10,11]) (by kernel_rfl) (by decide) (allC ?_ (allC ?_ (allC ?_ allN))))
      ·refine opL (i:=9) rfl (lD (vF c I d J e f g N l O) Tya34 Tys34 rfl (fun j v hj=>ak.cell (kr.cell (bj j v hj))) (wt ⟨heldF (fq [0,1] ak),anyAll (rs:=[10,11]) (by kernel_rfl) (by decide) (allC ?_ (allC ?_ allN))⟩))
       ·exact opL (i:=10) rfl (aC zF.toArray ak Tyz34 (fun aL am=>(wt ⟨heldF (fq [1,2] am),aO 11 rfl (aC zF.toArray am Tyz34 (fun a4 B=>(wt ⟨heldF (fq [2,3] B),aO 12 rfl (sI 1 (.agg (vF m x p y q s t z u A).toArray) ((vF m x p y q s t z u A).toArray) B Tys34 rfl rfl (fun an C=>(wt ⟨heldE (i:=12) rfl rfl,aO 13 rfl (sI 0 (.agg (vF c I d J e f g N l O).toArray) ((vF c I d J e f g N l O).toArray) C Tys34 rfl rfl (fun ag D=>(wt ⟨heldE (i:=13) rfl rfl,aD (thenN (⟨_,(zz ab.drew),m,p,x,y,q,s,t,u,z,A,(zz aL),c,d,I,J,e,f,g,l,N,O,fR,(D.sel [2,3,1,0]),ac,ad,ae,be,bf,bg,h⟩))⟩)))⟩)))⟩)))⟩)))
       ·exact opL (i:=11) rfl (aC zF.toArray ak Tyz34 (fun aL am=>(wt ⟨heldF (fq [1,2] am),aO 10 rfl (aC zF.toArray am Tyz34 (fun a4 B=>(wt ⟨heldF (fq [2,3] B),aO 12 rfl (sI 0 (.agg (vF m x p y q s t z u A).toArray) ((vF m x p y q s t z u A).toArray) B Tys34 rfl rfl (fun an C=>(wt ⟨heldE (i:=12) rfl rfl,aO 13 rfl (sI 1 (.agg (vF c I d J e f g N l O).toArray) ((vF c I d J e f g N l O).toArray) C Tys34 rfl rfl (fun ag D=>(wt ⟨heldE (i:=13) rfl rfl,aD (thenN (⟨_,(zz aL),m,p,x,y,q,s,t,u,z,A,(zz ab.drew),c,d,I,J,e,f,g,l,N,O,fR,(D.sel [2,3,0,1]),ac,ad,ae,be,bf,bg,h⟩))⟩)))⟩)))⟩)))⟩)))
      ·refine opL (i:=10) rfl (aC zF.toArray ak Tyz34 (fun aL am=>(wt ⟨heldF (fq [1,2] am),anyAll (rs:=[9,11]) (by kernel_rfl) (by decide) (allC ?_ (allC ?_ allN))⟩)))
       ·exact opL (i:=9) rfl (lD (vF c I d J e f g N l O) Tya34 Tys34 rfl (fun j v hj=>am.cell (kr.cell (bj j v hj))) (wt ⟨heldF (fq [1,2] am),aO 11 rfl (aC zF.toArray am Tyz34 (fun a4 B=>(wt ⟨heldF (fq [2,3] B),aO 12 rfl (sI 1 (.agg (vF m x p y q s t z u A).toArray) ((vF m x p y q s t z u A).toArray) B Tys34 rfl rfl (fun an C=>(wt ⟨heldE (i:=12) rfl rfl,aO 13 rfl (sI 0 (.agg (vF c I d J e f g N l O).toArray) ((vF c I d J e f g N l O).toArray) C Tys34 rfl rfl (fun ag D=>(wt ⟨heldE (i:=13) rfl rfl,aD (thenN (⟨_,(zz ab.drew),m,p,x,y,q,s,t,u,z,A,(zz aL),c,d,I,J,e,f,g,l,N,O,fR,(D.sel [2,3,1,0]),ac,ad,ae,be,bf,bg,h⟩))⟩)))⟩)))⟩)))⟩))
       ·refine opL (i:=11) rfl (aC zF.toArray am Tyz34 (fun a4 B=>(wt ⟨heldF (fq [2,3] B),anyAll (rs:=[9,12]) (by kernel_rfl) (by decide) (allC ?_ (allC ?_ allN))⟩)))
        ·exact opL (i:=9) rfl (lD (vF c I d J e f g N l O) Tya34 Tys34 rfl (fun j v hj=>B.cell (kr.cell (bj j v hj))) (wt ⟨heldF (fq [2,3] B),aO 12 rfl (sI 1 (.agg (vF m x p y q s t z u A).toArray) ((vF m x p y q s t z u A).toArray) B Tys34 rfl rfl (fun an C=>(wt ⟨heldE (i:=12) rfl rfl,aO 13 rfl (sI 0 (.agg (vF c I d J e f g N l O).toArray) ((vF c I d J e f g N l O).toArray) C Tys34 rfl rfl (fun ag D=>(wt ⟨heldE (i:=13) rfl rfl,aD (thenN (⟨_,(zz ab.drew),m,p,x,y,q,s,t,u,z,A,(zz aL),c,d,I,J,e,f,g,l,N,O,fR,(D.sel [2,3,1,0]),ac,ad,ae,be,bf,bg,h⟩))⟩)))⟩)))⟩))
        ·exact opL (i:=12) rfl (sI 1 (.agg (vF m x p y q s t z u A).toArray) ((vF m x p y q s t z u A).toArray) B Tys34 rfl rfl (fun an C=>(wt ⟨heldE (i:=12) rfl rfl,aO 9 rfl (lD (vF c I d J e f g N l O) Tya34 Tys34 rfl (fun j v hj=>C.cell (kr.cell (bj j v hj))) (wt ⟨heldE (i:=12) rfl rfl,aO 13 rfl (sI 0 (.agg (vF c I d J e f g N l O).toArray) ((vF c I d J e f g N l O).toArray) C Tys34 rfl rfl (fun ag D=>(wt ⟨heldE (i:=13) rfl rfl,aD (thenN (⟨_,(zz ab.drew),m,p,x,y,q,s,t,u,z,A,(zz aL),c,d,I,J,e,f,g,l,N,O,fR,(D.sel [2,3,1,0]),ac,ad,ae,be,bf,bg,h⟩))⟩)))⟩))⟩)))
      ·refine opL (i:=11) rfl (aC zF.toArray ak Tyz34 (fun aL am=>(wt ⟨heldF (fq [1,2] am),anyAll (rs:=[9,10]) (by kernel_rfl) (by decide) (allC ?_ (allC ?_ allN))⟩)))
       ·exact opL (i:=9) rfl (lD (vF c I d J e f g N l O) Tya34 Tys34 rfl (fun j v hj=>am.cell (kr.cell (bj j v hj))) (wt ⟨heldF (fq [1,2] am),aO 10 rfl (aC zF.toArray am Tyz34 (fun a4 B=>(wt ⟨heldF (fq [2,3] B),aO 12 rfl (sI 0 (.agg (vF m x p y q s t z u A).toArray) ((vF m x p y q s t z u A).toArray) B Tys34 rfl rfl (fun an C=>(wt ⟨heldE (i:=12) rfl rfl,aO 13 rfl (sI 1 (.agg (vF c I d J e f g N l O).toArray) ((vF c I d J e f g N l O).toArray) C Tys34 rfl rfl (fun ag D=>(wt ⟨heldE (i:=13) rfl rfl,aD (thenN (⟨_,(zz aL),m,p,x,y,q,s,t,u,z,A,(zz ab.drew),c,d,I,J,e,f,g,l,N,O,fR,(D.sel [2,3,0,1]),ac,ad,ae,be,bf,bg,h⟩))⟩)))⟩)))⟩)))⟩))
       ·refine opL (i:=10) rfl (aC zF.toArray am Tyz34 (fun a4 B=>(wt ⟨heldF (fq [2,3] B),anyAll (rs:=[9,12]) (by kernel_rfl) (by decide) (allC ?_ (allC ?_ allN))⟩)))
        ·exact opL (i:=9) rfl (lD (vF c I d J e f g N l O) Tya34 Tys34 rfl (fun j v hj=>B.cell (kr.cell (bj j v hj))) (wt ⟨heldF (fq [2,3] B),aO 12 rfl (sI 0 (.agg (vF m x p y q s t z u A).toArray) ((vF m x p y q s t z u A).toArray) B Tys34 rfl rfl (fun an C=>(wt ⟨heldE (i:=12) rfl rfl,aO 13 rfl (sI 1 (.agg (vF c I d J e f g N l O).toArray) ((vF c I d J e f g N l O).toArray) C Tys34 rfl rfl (fun ag D=>(wt ⟨heldE (i:=13) rfl rfl,aD (thenN (⟨_,(zz aL),m,p,x,y,q,s,t,u,z,A,(zz ab.drew),c,d,I,J,e,f,g,l,N,O,fR,(D.sel [2,3,0,1]),ac,ad,ae,be,bf,bg,h⟩))⟩)))⟩)))⟩))
        ·exact opL (i:=12) rfl (sI 0 (.agg (vF m x p y q s t z u A).toArray) ((vF m x p y q s t z u A).toArray) B Tys34 rfl rfl (fun an C=>(wt ⟨heldE (i:=12) rfl rfl,aO 9 rfl (lD (vF c I d J e f g N l O) Tya34 Tys34 rfl (fun j v hj=>C.cell (kr.cell (bj j v hj))) (wt ⟨heldE (i:=12) rfl rfl,aO 13 rfl (sI 1 (.agg (vF c I d J e f g N l O).toArray) ((vF c I d J e f g N l O).toArray) C Tys34 rfl rfl (fun ag D=>(wt ⟨heldE (i:=13) rfl rfl,aD (thenN (⟨_,(zz aL),m,p,x,y,q,s,t,u,z,A,(zz ab.drew),c,d,I,J,e,f,g,l,N,O,fR,(D.sel [2,3,0,1]),ac,ad,ae,be,bf,bg,h⟩))⟩)))⟩))⟩)))
     ·refine opL (i:=10) rfl (aC zF.toArray ak Tyz34 (fun az ah=>(wt ⟨heldF (fq [1,2] ah),anyAll (rs:=[6,11]) (by kernel_rfl) (by decide) (allC ?_ (allC ?_ allN))⟩)))
      ·refine opL (i:=6) rfl (l1 2 (sl aw Y ax) ah Tya22 (wt ⟨heldF (fq [1,2] ah),?_⟩))
       obtain ⟨⟨c,d,e,f,g,l⟩,bk,h⟩:=ob h
       obtain ⟨bx,bz,cG,bS,cH,bm,bT⟩:=((mf bi aI)).row.at_ (idxO_at bk).1
       obtain ⟨S,U,V,W,rfl,bn,bo,bp⟩:=RDFunc.open bT
       refine tk 8 (.pointer (some ⟨bx,bz + (G:Int).toNat * 6,none⟩)) (lb 14 1535) rfl (fun w=>idxG_r (b:=bx) (o:=bz) (i:=(G:Int)) Tye22 Tys34 rfl bS rfl (idxO_at bk).2.1 (idxO_at bk).2.2) (heldF (fq [1,2] ah)) (anyAll (rs:=[9,11]) (by kernel_rfl) (by decide) (allC ?_ (allC ?_ allN)))
       ·exact opL (i:=9) rfl (lD (vF c S d U e f g V l W) Tya34 Tys34 rfl (fun j v hj=>ah.cell (kr.cell (bm j v hj))) (wt ⟨heldF (fq [1,2] ah),aO 11 rfl (aC zF.toArray ah Tyz34 (fun a4 B=>(wt ⟨heldF (fq [2,3] B),aO 12 rfl (sI 1 (.agg (vF m x p y q s t z u A).toArray) ((vF m x p y q s t z u A).toArray) B Tys34 rfl rfl (fun an C=>(wt ⟨heldE (i:=12) rfl rfl,aO 13 rfl (sI 0 (.agg (vF c S d U e f g V l W).toArray) ((vF c S d U e f g V l W).toArray) C Tys34 rfl rfl (fun ag D=>(wt ⟨heldE (i:=13) rfl rfl,aD (thenN (⟨_,(zz ab.drew),m,p,x,y,q,s,t,u,z,A,(zz az),c,d,S,U,e,f,g,l,V,W,fR,(D.sel [2,3,1,0]),ac,ad,ae,bn,bo,bp,h⟩))⟩)))⟩)))⟩)))⟩))
       ·refine opL (i:=11) rfl (aC zF.toArray ah Tyz34 (fun a4 B=>(wt ⟨heldF (fq [2,3] B),anyAll (rs:=[9,12]) (by kernel_rfl) (by decide) (allC ?_ (allC ?_ allN))⟩)))
        ·exact opL (i:=9) rfl (lD (vF c S d U e f g V l W) Tya34 Tys34 rfl (fun j v hj=>B.cell (kr.cell (bm j v hj))) (wt ⟨heldF (fq [2,3] B),aO 12 rfl (sI 1 (.agg (vF m x p y q s t z u A).toArray) ((vF m x p y q s t z u A).toArray) B Tys34 rfl rfl (fun an C=>(wt ⟨heldE (i:=12) rfl rfl,aO 13 rfl (sI 0 (.agg (vF c S d U e f g V l W).toArray) ((vF c S d U e f g V l W).toArray) C Tys34 rfl rfl (fun ag D=>(wt ⟨heldE (i:=13) rfl rfl,aD (thenN (⟨_,(zz ab.drew),m,p,x,y,q,s,t,u,z,A,(zz az),c,d,S,U,e,f,g,l,V,W,fR,(D.sel [2,3,1,0]),ac,ad,ae,bn,bo,bp,h⟩))⟩)))⟩)))⟩))
        ·exact opL (i:=12) rfl (sI 1 (.agg (vF m x p y q s t z u A).toArray) ((vF m x p y q s t z u A).toArray) B Tys34 rfl rfl (fun an C=>(wt ⟨heldE (i:=12) rfl rfl,aO 9 rfl (lD (vF c S d U e f g V l W) Tya34 Tys34 rfl (fun j v hj=>C.cell (kr.cell (bm j v hj))) (wt ⟨heldE (i:=12) rfl rfl,aO 13 rfl (sI 0 (.agg (vF c S d U e f g V l W).toArray) ((vF c S d U e f g V l W).toArray) C Tys34 rfl rfl (fun ag D=>(wt ⟨heldE (i:=13) rfl rfl,aD (thenN (⟨_,(zz ab.drew),m,p,x,y,q,s,t,u,z,A,(zz az),c,d,S,U,e,f,g,l,V,W,fR,(D.sel [2,3,1,0]),ac,ad,ae,bn,bo,bp,h⟩))⟩)))⟩))⟩)))
      ·refine opL (i:=11) rfl (aC zF.toArray ah Tyz34 (fun cI ai=>(wt ⟨heldF (fq [2,3] ai),anyAll (rs:=[6,12]) (by kernel_rfl) (by decide) (allC ?_ (allC ?_ allN))⟩)))
       ·refine opL (i:=6) rfl (l1 3 (sl aw Y ax) ai Tya22 (wt ⟨heldF (fq [2,3] ai),?_⟩))
        obtain ⟨⟨c,d,e,f,g,l⟩,bq,h⟩:=ob h
        obtain ⟨bA,bB,cJ,bU,cK,bC,bV⟩:=((mf bi aI)).row.at_ (idxO_at bq).1
        obtain ⟨ao,ap,aq,ar,rfl,bD,bE,bF⟩:=RDFunc.open bV
        refine tk 8 (.pointer (some ⟨bA,bB + (G:Int).toNat * 6,none⟩)) (lb 14 3583) rfl (fun w=>idxG_r (b:=bA) (o:=bB) (i:=(G:Int)) Tye22 Tys34 rfl bU rfl (idxO_at bq).2.1 (idxO_at bq).2.2) (heldF (fq [2,3] ai)) (anyAll (rs:=[9,12]) (by kernel_rfl) (by decide) (allC ?_ (allC ?_ allN)))
        ·exact opL (i:=9) rfl (lD (vF c ao d ap e f g aq l ar) Tya34 Tys34 rfl (fun j v hj=>ai.cell (kr.cell (bC j v hj))) (wt ⟨heldF (fq [2,3] ai),aO 12 rfl (sI 1 (.agg (vF m x p y q s t z u A).toArray) ((vF m x p y q s t z u A).toArray) ai Tys34 rfl rfl (fun an C=>(wt ⟨heldE (i:=12) rfl rfl,aO 13 rfl (sI 0 (.agg (vF c ao d ap e f g aq l ar).toArray) ((vF c ao d ap e f g aq l ar).toArray) C Tys34 rfl rfl (fun ag D=>(wt ⟨heldE (i:=13) rfl rfl,aD (thenN (⟨_,(zz ab.drew),m,p,x,y,q,s,t,u,z,A,(zz az),c,d,ao,ap,e,f,g,l,aq,ar,fR,(D.sel [2,3,1,0]),ac,ad,ae,bD,bE,bF,h⟩))⟩)))⟩)))⟩))
        ·exact opL (i:=12) rfl (sI 1 (.agg (vF m x p y q s t z u A).toArray) ((vF m x p y q s t z u A).toArray) ai Tys34 rfl rfl (fun an C=>(wt ⟨heldE (i:=12) rfl rfl,aO 9 rfl (lD (vF c ao d ap e f g aq l ar) Tya34 Tys34 rfl (fun j v hj=>C.cell (kr.cell (bC j v hj))) (wt ⟨heldE (i:=12) rfl rfl,aO 13 rfl (sI 0 (.agg (vF c ao d ap e f g aq l ar).toArray) ((vF c ao d ap e f g aq l ar).toArray) C Tys34 rfl rfl (fun ag D=>(wt ⟨heldE (i:=13) rfl rfl,aD (thenN (⟨_,(zz ab.drew),m,p,x,y,q,s,t,u,z,A,(zz az),c,d,ao,ap,e,f,g,l,aq,ar,fR,(D.sel [2,3,1,0]),ac,ad,ae,bD,bE,bF,h⟩))⟩)))⟩))⟩)))
       ·refine opL (i:=12) rfl (sI 1 (.agg (vF m x p y q s t z u A).toArray) ((vF m x p y q s t z u A).toArray) ai Tys34 rfl rfl (fun cL br=>(wt ⟨heldE (i:=12) rfl rfl,aO 6 rfl (l1 3 (sl aw Y ax) br Tya22 (wt ⟨heldE (i:=12) rfl rfl,?_⟩))⟩)))
        obtain ⟨⟨c,d,e,f,g,l⟩,bs,h⟩:=ob h
        obtain ⟨bG,bH,cM,bW,cN,bX,bY⟩:=((mf bi aI)).row.at_ (idxO_at bs).1
        obtain ⟨a5,a6,a7,a8,rfl,bZ,b0,b1⟩:=RDFunc.open bY
        exact tk 8 (.pointer (some ⟨bG,bH + (G:Int).toNat * 6,none⟩)) (lb 14 7679) rfl (fun w=>idxG_r (b:=bG) (o:=bH) (i:=(G:Int)) Tye22 Tys34 rfl bW rfl (idxO_at bs).2.1 (idxO_at bs).2.2) (heldE (i:=12) rfl rfl) (aO 9 rfl (lD (vF c a5 d a6 e f g a7 l a8) Tya34 Tys34 rfl (fun j v hj=>br.cell (kr.cell (bX j v hj))) (wt ⟨heldE (i:=12) rfl rfl,aO 13 rfl (sI 0 (.agg (vF c a5 d a6 e f g a7 l a8).toArray) ((vF c a5 d a6 e f g a7 l a8).toArray) br Tys34 rfl rfl (fun ag D=>(wt ⟨heldE (i:=13) rfl rfl,aD (thenN (⟨_,(zz ab.drew),m,p,x,y,q,s,t,u,z,A,(zz az),c,d,a5,a6,e,f,g,l,a7,a8,fR,(D.sel [2,3,1,0]),ac,ad,ae,bZ,b0,b1,h⟩))⟩)))⟩)))
     ·refine opL (i:=11) rfl (aC zF.toArray ak Tyz34 (fun az ah=>(wt ⟨heldF (fq [1,2] ah),anyAll (rs:=[6,10]) (by kernel_rfl) (by decide) (allC ?_ (allC ?_ allN))⟩)))
      ·refine opL (i:=6) rfl (l1 2 (sl aw Y ax) ah Tya22 (wt ⟨heldF (fq [1,2] ah),?_⟩))
       obtain ⟨⟨c,d,e,f,g,l⟩,bk,h⟩:=ob h
       obtain ⟨bx,bz,cG,bS,cH,bm,bT⟩:=((mf bi aI)).row.at_ (idxO_at bk).1
       obtain ⟨S,U,V,W,rfl,bn,bo,bp⟩:=RDFunc.open bT
       refine tk 8 (.pointer (some ⟨bx,bz + (G:Int).toNat * 6,none⟩)) (lb 14 2559) rfl (fun w=>idxG_r (b:=bx) (o:=bz) (i:=(G:Int)) Tye22 Tys34 rfl bS rfl (idxO_at bk).2.1 (idxO_at bk).2.2) (heldF (fq [1,2] ah)) (anyAll (rs:=[9,10]) (by kernel_rfl) (by decide) (allC ?_ (allC ?_ allN)))
       ·exact opL (i:=9) rfl (lD (vF c S d U e f g V l W) Tya34 Tys34 rfl (fun j v hj=>ah.cell (kr.cell (bm j v hj))) (wt ⟨heldF (fq [1,2] ah),aO 10 rfl (aC zF.toArray ah Tyz34 (fun a4 B=>(wt ⟨heldF (fq [2,3] B),aO 12 rfl (sI 0 (.agg (vF m x p y q s t z u A).toArray) ((vF m x p y q s t z u A).toArray) B Tys34 rfl rfl (fun an C=>(wt ⟨heldE (i:=12) rfl rfl,aO 13 rfl (sI 1 (.agg (vF c S d U e f g V l W).toArray) ((vF c S d U e f g V l W).toArray) C Tys34 rfl rfl (fun ag D=>(wt ⟨heldE (i:=13) rfl rfl,aD (thenN (⟨_,(zz az),m,p,x,y,q,s,t,u,z,A,(zz ab.drew),c,d,S,U,e,f,g,l,V,W,fR,(D.sel [2,3,0,1]),ac,ad,ae,bn,bo,bp,h⟩))⟩)))⟩)))⟩)))⟩))
       ·refine opL (i:=10) rfl (aC zF.toArray ah Tyz34 (fun a4 B=>(wt ⟨heldF (fq [2,3] B),anyAll (rs:=[9,12]) (by kernel_rfl) (by decide) (allC ?_ (allC ?_ allN))⟩)))
        ·exact opL (i:=9) rfl (lD (vF c S d U e f g V l W) Tya34 Tys34 rfl (fun j v hj=>B.cell (kr.cell (bm j v hj))) (wt ⟨heldF (fq [2,3] B),aO 12 rfl (sI 0 (.agg (vF m x p y q s t z u A).toArray) ((vF m x p y q s t z u A).toArray) B Tys34 rfl rfl (fun an C=>(wt ⟨heldE (i:=12) rfl rfl,aO 13 rfl (sI 1 (.agg (vF c S d U e f g V l W).toArray) ((vF c S d U e f g V l W).toArray) C Tys34 rfl rfl (fun ag D=>(wt ⟨heldE (i:=13) rfl rfl,aD (thenN (⟨_,(zz az),m,p,x,y,q,s,t,u,z,A,(zz ab.drew),c,d,S,U,e,f,g,l,V,W,fR,(D.sel [2,3,0,1]),ac,ad,ae,bn,bo,bp,h⟩))⟩)))⟩)))⟩))
        ·exact opL (i:=12) rfl (sI 0 (.agg (vF m x p y q s t z u A).toArray) ((vF m x p y q s t z u A).toArray) B Tys34 rfl rfl (fun an C=>(wt ⟨heldE (i:=12) rfl rfl,aO 9 rfl (lD (vF c S d U e f g V l W) Tya34 Tys34 rfl (fun j v hj=>C.cell (kr.cell (bm j v hj))) (wt ⟨heldE (i:=12) rfl rfl,aO 13 rfl (sI 1 (.agg (vF c S d U e f g V l W).toArray) ((vF c S d U e f g V l W).toArray) C Tys34 rfl rfl (fun ag D=>(wt ⟨heldE (i:=13) rfl rfl,aD (thenN (⟨_,(zz az),m,p,x,y,q,s,t,u,z,A,(zz ab.drew),c,d,S,U,e,f,g,l,V,W,fR,(D.sel [2,3,0,1]),ac,ad,ae,bn,bo,bp,h⟩))⟩)))⟩))⟩)))
      ·refine opL (i:=10) rfl (aC zF.toArray ah Tyz34 (fun cI ai=>(wt ⟨heldF (fq [2,3] ai),anyAll (rs:=[6,12]) (by kernel_rfl) (by decide) (allC ?_ (allC ?_ allN))⟩)))
       ·refine opL (i:=6) rfl (l1 3 (sl aw Y ax) ai Tya22 (wt ⟨heldF (fq [2,3] ai),?_⟩))
        obtain ⟨⟨c,d,e,f,g,l⟩,bq,h⟩:=ob h
        obtain ⟨bA,bB,cJ,bU,cK,bC,bV⟩:=((mf bi aI)).row.at_ (idxO_at bq).1
        obtain ⟨ao,ap,aq,ar,rfl,bD,bE,bF⟩:=RDFunc.open bV
        refine tk 8 (.pointer (some ⟨bA,bB + (G:Int).toNat * 6,none⟩)) (lb 14 3583) rfl (fun w=>idxG_r (b:=bA) (o:=bB) (i:=(G:Int)) Tye22 Tys34 rfl bU rfl (idxO_at bq).2.1 (idxO_at bq).2.2) (heldF (fq [2,3] ai)) (anyAll (rs:=[9,12]) (by kernel_rfl) (by decide) (allC ?_ (allC ?_ allN)))
        ·exact opL (i:=9) rfl (lD (vF c ao d ap e f g aq l ar) Tya34 Tys34 rfl (fun j v hj=>ai.cell (kr.cell (bC j v hj))) (wt ⟨heldF (fq [2,3] ai),aO 12 rfl (sI 0 (.agg (vF m x p y q s t z u A).toArray) ((vF m x p y q s t z u A).toArray) ai Tys34 rfl rfl (fun an C=>(wt ⟨heldE (i:=12) rfl rfl,aO 13 rfl (sI 1 (.agg (vF c ao d ap e f g aq l ar).toArray) ((vF c ao d ap e f g aq l ar).toArray) C Tys34 rfl rfl (fun ag D=>(wt ⟨heldE (i:=13) rfl rfl,aD (thenN (⟨_,(zz az),m,p,x,y,q,s,t,u,z,A,(zz ab.drew),c,d,ao,ap,e,f,g,l,aq,ar,fR,(D.sel [2,3,0,1]),ac,ad,ae,bD,bE,bF,h⟩))⟩)))⟩)))⟩))
        ·exact opL (i:=12) rfl (sI 0 (.agg (vF m x p y q s t z u A).toArray) ((vF m x p y q s t z u A).toArray) ai Tys34 rfl rfl (fun an C=>(wt ⟨heldE (i:=12) rfl rfl,aO 9 rfl (lD (vF c ao d ap e f g aq l ar) Tya34 Tys34 rfl (fun j v hj=>C.cell (kr.cell (bC j v hj))) (wt ⟨heldE (i:=12) rfl rfl,aO 13 rfl (sI 1 (.agg (vF c ao d ap e f g aq l ar).toArray) ((vF c ao d ap e f g aq l ar).toArray) C Tys34 rfl rfl (fun ag D=>(wt ⟨heldE (i:=13) rfl rfl,aD (thenN (⟨_,(zz az),m,p,x,y,q,s,t,u,z,A,(zz ab.drew),c,d,ao,ap,e,f,g,l,aq,ar,fR,(D.sel [2,3,0,1]),ac,ad,ae,bD,bE,bF,h⟩))⟩)))⟩))⟩)))
       ·refine opL (i:=12) rfl (sI 0 (.agg (vF m x p y q s t z u A).toArray) ((vF m x p y q s t z u A).toArray) ai Tys34 rfl rfl (fun cL br=>(wt ⟨heldE (i:=12) rfl rfl,aO 6 rfl (l1 3 (sl aw Y ax) br Tya22 (wt ⟨heldE (i:=12) rfl rfl,?_⟩))⟩)))
        obtain ⟨⟨c,d,e,f,g,l⟩,bs,h⟩:=ob h
        obtain ⟨bG,bH,cM,bW,cN,bX,bY⟩:=((mf bi aI)).row.at_ (idxO_at bs).1
        obtain ⟨a5,a6,a7,a8,rfl,bZ,b0,b1⟩:=RDFunc.open bY
        exact tk 8 (.pointer (some ⟨bG,bH + (G:Int).toNat * 6,none⟩)) (lb 14 7679) rfl (fun w=>idxG_r (b:=bG) (o:=bH) (i:=(G:Int)) Tye22 Tys34 rfl bW rfl (idxO_at bs).2.1 (idxO_at bs).2.2) (heldE (i:=12) rfl rfl) (aO 9 rfl (lD (vF c a5 d a6 e f g a7 l a8) Tya34 Tys34 rfl (fun j v hj=>br.cell (kr.cell (bX j v hj))) (wt ⟨heldE (i:=12) rfl rfl,aO 13 rfl (sI 1 (.agg (vF c a5 d a6 e f g a7 l a8).toArray) ((vF c a5 d a6 e f g a7 l a8).toArray) br Tys34 rfl rfl (fun ag D=>(wt ⟨heldE (i:=13) rfl rfl,aD (thenN (⟨_,(zz az),m,p,x,y,q,s,t,u,z,A,(zz ab.drew),c,d,a5,a6,e,f,g,l,a7,a8,fR,(D.sel [2,3,0,1]),ac,ad,ae,bZ,b0,b1,h⟩))⟩)))⟩)))
    ·rintro _ dc ⟨b9,aW,aN,X,aJ,aK,aP,aQ,aR,aX,a9,ba,aY,aS,av,aZ,a2,aT,aU,aV,a3,bb,bd,rfl,aj,dd,ch,cO,de,cP,cQ,h⟩
     unfold f9_j1 at h
     refine wp_seq (wp_cut (fun a w=>∃ ci bh b2,a=fr 94 (updL ci [(2,pp (zz wi) 0),(3,pp (zz aH) 0),(5,iI (G:Int)),(6,pp aW 0),(7,pp aY 0),(75,.bool b2)])∧KH.sub Z bh∧SR K bh wi w [] [.box (zz wi) (zz wi) #[sl aG af c1] 24,.box (zz wi) (zz aH) #[sl aw Y ax] 24,.box (zz wi) aW (vF aN aJ X aK aP aQ aR a9 aX ba).toArray 34,.box (zz wi) aY (vF aS aZ av a2 aT aU aV bb a3 bd).toArray 34]∧f9_j2 k G X av b2 (f9_l1 k Y aM)=some r_) ?_ ?_)
     ·refine wp_region_lit (fd 0 Tyf34_0 rfl (l1 2 (.string aN) aj Tya9 (fd 0 Tyf34_0 rfl (l1 3 (.string aS) aj Tya9 (bsc (r:=(!seq aN aS)) rfl rfl rfl (m1 (.bool (!seq aN aS)) (cd h (fun au h=>?_) (fun au h=>?_))))))))
      ·exact o1 38 au (o1 38 au (o1 38 au (o1 38 au (o1 38 au (o1 38 au (o1 38 au (m3 true vT (cg au) (m1 vT (o0 47 (o0 47 (o0 47 (o0 47 (o0 47 (m3 true vT rfl (m1 vT (o0 54 (o0 54 (o0 54 (o0 54 (o0 54 (m3 true vT rfl (m1 vT (o0 61 (o0 61 (o0 61 (o0 61 (o0 61 (m3 true vT rfl (m1 vT (o0 68 (o0 68 (o0 68 (o0 68 (o0 68 (o0 68 (m3 true vT rfl (wt (⟨_,Z,true,fR,kr,aj,h⟩))))))))))))))))))))))))))))))))))))))
      ·refine n1 38 au (fd 1 Tyf34_1 rfl (n1 38 au (l1 2 (sl aJ X aK) aj Tya31 (n1 38 au (lS X.length Tye31 (n1 38 au (fd 1 Tyf34_1 rfl (n1 38 au (l1 3 (sl aZ av a2) aj Tya31 (n1 38 au (lS av.length Tye31 (n1 38 au (c0 ((X.length:Int) != (av.length:Int)) (m3 false (.bool ((X.length:Int) != (av.length:Int))) (cg au) (m1 (.bool ((X.length:Int) != (av.length:Int))) (cd h (fun aA h=>?_) (fun aA h=>?_)))))))))))))))))
       ·exact o1 47 aA (o1 47 aA (o1 47 aA (o1 47 aA (o1 47 aA (m3 true vT (cg aA) (m1 vT (o0 54 (o0 54 (o0 54 (o0 54 (o0 54 (m3 true vT rfl (m1 vT (o0 61 (o0 61 (o0 61 (o0 61 (o0 61 (m3 true vT rfl (m1 vT (o0 68 (o0 68 (o0 68 (o0 68 (o0 68 (o0 68 (m3 true vT rfl (wt (⟨_,Z,true,fR,kr,aj,h⟩)))))))))))))))))))))))))))))
       ·refine n1 47 aA (fd 2 Tyf34_2 rfl (n1 47 aA (l1 2 (iI aP) aj Tya3 (n1 47 aA (fd 2 Tyf34_2 rfl (n1 47 aA (l1 3 (iI aT) aj Tya3 (n1 47 aA (c0 (aP != aT) (m3 false (.bool (aP != aT)) (cg aA) (m1 (.bool (aP != aT)) (cd h (fun aB h=>?_) (fun aB h=>?_)))))))))))))
        ·exact o1 54 aB (o1 54 aB (o1 54 aB (o1 54 aB (o1 54 aB (m3 true vT (cg aB) (m1 vT (o0 61 (o0 61 (o0 61 (o0 61 (o0 61 (m3 true vT rfl (m1 vT (o0 68 (o0 68 (o0 68 (o0 68 (o0 68 (o0 68 (m3 true vT rfl (wt (⟨_,Z,true,fR,kr,aj,h⟩))))))))))))))))))))))
        ·refine n1 54 aB (fd 3 Tyf34_3 rfl (n1 54 aB (l1 2 (.bool aQ) aj Tya4 (n1 54 aB (fd 3 Tyf34_3 rfl (n1 54 aB (l1 3 (.bool aU) aj Tya4 (n1 54 aB (bbo (r:=(!(aQ == aU))) Tyo4 rfl rfl rfl (m3 false (.bool (!(aQ == aU))) (cg aB) (m1 (.bool (!(aQ == aU))) (cd h (fun aE h=>?_) (fun aE h=>?_)))))))))))))
         ·exact o1 61 aE (o1 61 aE (o1 61 aE (o1 61 aE (o1 61 aE (m3 true vT (cg aE) (m1 vT (o0 68 (o0 68 (o0 68 (o0 68 (o0 68 (o0 68 (m3 true vT rfl (wt (⟨_,Z,true,fR,kr,aj,h⟩)))))))))))))))
         ·refine n1 61 aE (fd 4 Tyf34_4 rfl (n1 61 aE (l1 2 (iI aR) aj Tya3 (n1 61 aE (fd 4 Tyf34_4 rfl (n1 61 aE (l1 3 (iI aV) aj Tya3 (n1 61 aE (c0 (aR != aV) (m3 false (.bool (aR != aV)) (cg aE) (m1 (.bool (aR != aV)) (cd h (fun ay h=>?_) (fun ay h=>?_)))))))))))))
          ·exact o1 68 ay (o1 68 ay (o1 68 ay (o1 68 ay (o1 68 ay (o1 68 ay (m3 true vT (cg ay) (wt (⟨_,Z,true,fR,kr,aj,h⟩))))))))
          ·refine n1 68 ay (fd 5 Tyf34_5 rfl (n1 68 ay (l1 2 (sl a9 aX ba) aj Tya32 (n1 68 ay (fd 5 Tyf34_5 rfl (n1 68 ay (l1 3 (sl bb a3 bd) aj Tya32 (n1 68 ay ?_))))))))
           obtain ⟨b3,cR,h⟩:=ob h
           refine cv ([sl a9 aX ba,sl bb a3 bd]) Tyb19 ((f19_ok k) cR (hG.mono aI) cO cQ (pt aj)) ?_
           rintro _ df ⟨cS,rfl,cj⟩
           have cU:=ca cj aj
           exact n1 68 ay (uN b3 (m3 false (.bool (!b3)) (cg ay) (wt (⟨_,cS,(!b3),fR,cj.sub,cU,h⟩))))
     ·rintro _ dg ⟨ci,bh,b2,rfl,bK,ck,h⟩
      unfold f9_j2 at h
      refine cd h (fun b4 h=>?_) (fun b4 h=>?_)
      ·refine cT b4 (sr (m2 vN (wt (wp_ret (thenR (blkR (thenR (thenR (blkR (thenR ?_))))))))))
       cases (oi h).trans hr_
       exact retA1 rfl (resT rfl) ⟨bh,rfl,(ck.sel [])⟩
      ·refine cF b4 (wp_skip (thenN (sr (m2 (iI 0) (wt (wp_block (wp_loopG (fun g_ a w=>∃ cl bu,∃ (al:Nat),g_=bu.length∧a=fr 94 (updL cl [(2,pp (zz wi) 0),(3,pp (zz aH) 0),(5,iI (G:Int)),(6,pp aW 0),(7,pp aY 0),(8,iI (al:Int))])∧SR K bh wi w [] [.box (zz wi) (zz wi) #[sl aG af c1] 24,.box (zz wi) (zz aH) #[sl aw Y ax] 24,.box (zz wi) aW (vF aN aJ X aK aP aQ aR a9 aX ba).toArray 34,.box (zz wi) aY (vF aS aZ av a2 aT aU aV bb a3 bd).toArray 34]∧X.drop al=bu∧f9_l2 k G av (f9_l1 k Y aM) bu al=some r_) X.length ?_ ?_)))))))
       ·exact ⟨_,X,0,rfl,fR,ck,List.drop_zero,h⟩
       ·rintro _ _ dh ⟨cl,bu,al,rfl,rfl,bL,bw,h⟩
        rcases bu with _ | ⟨⟨bM,bN⟩,bu⟩
        ·unfold f9_l2 at h
         exact wp_seq (sr (m1 (iI (al:Int)) (fd 1 Tyf34_1 rfl (l1 2 (sl aJ X aK) bL Tya31 (lS X.length Tye31 (bcm (r:=false) rfl rfl (congrArg some (drop_nil_lt bw)) (wt (cndF rfl (wp_exit (thenX (thenX (blkX (blkN (thenN (wp_region_lit (m1 (iI (G:Int)) (bar (r:=((G + 1:Nat):Int)) rfl rfl (inc_ok (le_big (((mf b7 aI)).len) (by decide) (drop_cons_lt bv))) (m2 (iI ((G + 1:Nat):Int)) (wt (⟨_,Nat.lt_succ_self _,_,bh,aM,G + 1,rfl,fR,(aI.trans bK),(bL.sel [0,1]),drop_cons_next bv,h⟩))))))))))))))))))))
        ·unfold f9_l2 at h
         refine wp_seq (sr (m1 (iI (al:Int)) (fd 1 Tyf34_1 rfl (l1 2 (sl aJ X aK) bL Tya31 (lS X.length Tye31 (bcm (r:=true) rfl rfl (congrArg some (drop_cons_t bw)) (wt (cndT rfl (wp_skip (thenN (wp_seq (wp_block (wp_seq (have aF:=bL.drew;(regAny (E:=[]) (F:=FW bh [.box (zz wi) (zz wi) #[sl aG af c1] 24,.box (zz wi) (zz aH) #[sl aw Y ax] 24,.box (zz wi) aW (vF aN aJ X aK aP aQ aR a9 aX ba).toArray 34,.box (zz wi) aY (vF aS aZ av a2 aT aU aV bb a3 bd).toArray 34]) (L:=(lb 11 0)) ymx rfl rfl (tk 0 (pp aW 1) (lb 11 1) rfl (fun w=>fld_r (o':=1) Tyf34_1 rfl rfl) (heldF (fq [0,1,2,3] aF)) (tf 1 (sl aJ X aK) ([]) (lb 11 3) rfl (fq [0,1,2,3] aF) (fun w hF=>lb1_r (i:=2) (v:=sl aJ X aK) hF rfl Tya31 rfl rfl) (tk 2 (iI (al:Int)) (lb 11 7) rfl (fun w=>mv_r (v:=iI (al:Int)) rfl) (heldF (fq [0,1,2,3] aF)) ?_))))))))))))))))))
         obtain ⟨cm,cn,di,cV,dj,cW,cX⟩:=((mp ch bK)).row.at_ (drop_cons_at bw)
         obtain ⟨rfl,dk⟩:=RDParam.open cX
         refine tk 3 (pp cm (cn + al * 2)) (lb 11 15) rfl (fun w=>idxN_r (b:=cm) (o:=cn) (i:=al) Tye31 Tys42 rfl cV rfl (drop_cons_lt bw)) (heldF (fq [0,1,2,3] aF)) (tf 4 (.agg #[.string bM,iI bN]) ([]) (lb 11 31) rfl (fq [0,1,2,3] aF) (fun w hF=>ldN_r (cs:=[.string bM,iI bN]) Tya42 Tys42 rfl rfl (fun j v hj=>hF.cell (kr.cell (cW j v hj)))) (tk 5 (pp aY 1) (lb 11 63) rfl (fun w=>fld_r (o':=1) Tyf34_1 rfl rfl) (heldF (fq [0,1,2,3] aF)) (tf 6 (sl aZ av a2) ([]) (lb 11 127) rfl (fq [0,1,2,3] aF) (fun w hF=>lb1_r (i:=3) (v:=sl aZ av a2) hF rfl Tya31 rfl rfl) (tk 7 (iI (al:Int)) (lb 11 255) rfl (fun w=>mv_r (v:=iI (al:Int)) rfl) (heldF (fq [0,1,2,3] aF)) ?_))))
         obtain ⟨⟨bO,bP⟩,b5,h⟩:=ob h
         obtain ⟨co,cq,dl,cY,dm,cZ,c2⟩:=((mp cP bK)).row.at_ (idxO_at b5).1
         obtain ⟨rfl,dn⟩:=RDParam.open c2
         refine tk 8 (.pointer (some ⟨co,cq + (al:Int).toNat * 2,none⟩)) (lb 11 511) rfl (fun w=>idxG_r (b:=co) (o:=cq) (i:=(al:Int)) Tye31 Tys42 rfl cY rfl (idxO_at b5).2.1 (idxO_at b5).2.2) (heldF (fq [0,1,2,3] aF)) (tf 9 (.agg #[.string bO,iI bP]) ([]) (lb 11 1023) rfl (fq [0,1,2,3] aF) (fun w hF=>ldN_r (cs:=[.string bO,iI bP]) Tya42 Tys42 rfl rfl (fun j v hj=>hF.cell (kr.cell (cZ j v hj)))) (tk 10 (.bool (!(((seq bM bO && bN == bP)) == true))) (lb 11 2047) rfl (fun w=>bsi_r (r:=(!(((seq bM bO && bN == bP)) == true))) (.of Tyq42) rfl rfl rfl) (heldF (fq [0,1,2,3] aF)) (aD (thenN (cd h (fun b6 h=>?_) (fun b6 h=>?_))))))
         ·refine cT b6 (sr (m2 vN (wt (wp_ret (blkR (thenR (thenR (blkR (blkR (thenR (thenR (blkR (thenR ?_)))))))))))))
          cases (oi h).trans hr_
          exact retA1 rfl (resT rfl) ⟨bh,rfl,(aF.sel [])⟩
         ·exact cF b6 (wp_skip (blkN (thenN (wp_region_lit (m1 (iI (al:Int)) (bar (r:=((al + 1:Nat):Int)) rfl rfl (inc_ok (le_big (((mp ch bK)).len) (by decide) (drop_cons_lt bw))) (m2 (iI ((al + 1:Nat):Int)) (wt (⟨_,Nat.lt_succ_self _,_,bu,al + 1,rfl,fR,aF,drop_cons_next bw,h⟩)))))))))
theorem f9_ok (k:Nat):f9_spec (f9 k):=f9_b_ok k
theorem f3_b_ok (k:Nat):f3_spec (f3_b k):=by
 unfold f3_spec
 intro K wi aI bq br h hG aJ aK
 obtain ⟨r_,hr_,h⟩:=rz h
 obtain ⟨d⟩:=aI
 obtain ⟨f,c1,rfl,U⟩:=RDProgram.open aJ
 refine enter Tryd.func3 rfl (n:=66) rfl ?_
 unfold f3_b at h
 refine sr (bxoC (cs:=#[sl f d c1]) aK rfl rfl (fun bs ae=>(m2 vN (wt (wp_seq (sr (lN 0 ([sl f d c1]) ae Tya24 Tys24 ?_)))))))
 obtain ⟨aL,aM,h⟩:=ob h
 refine cv ([.agg #[sl f d c1]]) Tyb5 ((f5_ok k) aM (hG.mono kr) (RDProgram.intro U) (pt ae)) ?_
 rintro _ bu ⟨bv,rfl,c⟩
 have G:=ca c ae
 refine uN aL (wt (cd h (fun af h=>?_) (fun af h=>?_)))
 ·refine cT af (sr ?_)
  obtain ⟨aN,aP,h⟩:=ob h
  refine cv ([]) Tyb6 ((f6_ok k) aP (hG.mono c.sub) (pt G)) ?_
  rintro _ bw ⟨aQ,rfl,aR⟩
  have aS:=ca aR G
  refine m2 (.bool aN) (wt (wp_ret (thenR ?_)))
  cases (oi h).trans hr_
  exact retA1 rfl (resT rfl) ⟨aQ,rfl,(aS.sel [])⟩
 ·refine cF af (wp_skip (thenN (sr (lN 0 ([sl f d c1]) G Tya24 Tys24 ?_))))
  obtain ⟨⟨⟨b⟩,I⟩,aT,h⟩:=ob h
  refine cv ([.agg #[sl f d c1]]) Tyb7 ((f7_ok k) aT (hG.mono c.sub) (RDProgram.intro (mf U c.sub)) (pt G)) ?_
  rintro _ ar ⟨au,bx,rfl,g,aU⟩
  have aV:=ca g G
  obtain ⟨i,j,rfl,av⟩:=RDProgram.open aU
  refine m1 (.tuple #[.agg #[sl i b j],iI I]) (ext (v:=.agg #[sl i b j]) rfl rfl (ext (v:=iI I) rfl rfl (aC #[nS] aV Tyz24 (fun bz aW=>(sI 0 (.agg #[sl i b j]) #[sl i b j] aW Tys24 rfl rfl (fun bA r=>(m2 (iI I) (wt (wp_seq (sr (m1 (iI I) (c0 (I != 0) (wt (cd h (fun ag h=>?_) (fun ag h=>?_)))))))))))))))
  ·refine cT ag (wp_cut (fun a w=>∃ aw V ah,a=fr 66 (updL aw [(2,.bool ah)])∧KH.sub au V∧SR K V wi w [] []∧f3_j1 k ah=some r_) ?_ ?_)
   ·refine wp_region_lit (fd 0 Tyf24_0 rfl (l1 0 (sl i b j) r Tya22 (lS b.length Tye22 (c0 ((b.length:Int) == 0) (m1 (.bool ((b.length:Int) == 0)) (cd h (fun J h=>?_) (fun J h=>?_)))))))
    ·refine n1 26 J ?_
     obtain ⟨ai,aX,h⟩:=ob h
     refine cv ([]) Tyb6 ((f6_ok k) aX (hG.mono (c.sub.trans g.sub)) (pt r)) ?_
     rintro _ bB ⟨aY,rfl,ax⟩
     have aZ:=ca ax r
     exact m3 true (.bool ai) (cg J) (m2 (.bool ai) (wt (⟨_,aY,ai,fR,ax.sub,(aZ.sel []),h⟩)))
    ·exact o1 26 J (m3 false vN (cg J) (m2 vN (wt (⟨_,au,false,fR,kr,(r.sel []),h⟩))))
   ·rintro _ bC ⟨aw,V,ah,rfl,bD,a1,h⟩
    unfold f3_j1 at h
    refine wp_ret (thenR ?_)
    cases (oi h).trans hr_
    exact retA1 rfl (resT rfl) ⟨V,rfl,a1⟩
  ·refine cF ag (wp_skip (thenN (sr (lN 0 ([sl i b j]) r Tya24 Tys24 ?_))))
   obtain ⟨⟨⟨l⟩,x⟩,a2,h⟩:=ob h
   refine cv ([.agg #[sl i b j]]) Tyb8 ((f8_ok k) a2 (hG.mono (c.sub.trans g.sub)) (RDProgram.intro av) (pt r)) ?_
   rintro _ ay ⟨az,bE,rfl,m,a3⟩
   have a4:=ca m r
   obtain ⟨o,p,rfl,aA⟩:=RDProgram.open a3
   refine m1 (.tuple #[.agg #[sl o l p],iI x]) (ext (v:=.agg #[sl o l p]) rfl rfl (ext (v:=iI x) rfl rfl (aC #[nS] a4 Tyz24 (fun bF a5=>(sI 0 (.agg #[sl o l p]) #[sl o l p] a5 Tys24 rfl rfl (fun bG N=>(m2 (iI x) (wt (wp_seq (wp_cut (fun a w=>∃ aB W aj,a=fr 66 (updL aB [(1,pp (zz wi) 0),(3,pp (zz ar) 0),(5,pp (zz ay) 0),(41,.bool aj)])∧KH.sub az W∧SR K W wi w [] [.box (zz wi) (zz wi) #[sl f d c1] 24,.box (zz wi) (zz ar) #[sl i b j] 24,.box (zz wi) (zz ay) #[sl o l p] 24]∧f3_j2 k d b l aj=some r_) ?_ ?_))))))))))
   ·refine wp_region_lit (m1 (iI x) (c0 (x != 0) (m1 (.bool (x != 0)) (cd h (fun e h=>?_) (fun e h=>?_)))))
    ·exact o1 36 e (o1 36 e (o1 36 e (o1 36 e (m3 true vT (cg e) (wt (⟨_,az,true,fR,kr,(N.sel [2,1,0]),h⟩))))))
    ·refine n1 36 e (lN 0 ([sl o l p]) N Tya24 Tys24 (n1 36 e (lN 2 ([sl f d c1]) N Tya24 Tys24 (n1 36 e ?_))))
     obtain ⟨ak,a6,h⟩:=ob h
     refine cv ([.agg #[sl o l p],.agg #[sl f d c1]]) Tyb9 ((f9_ok k) a6 (hG.mono ((c.sub.trans g.sub).trans m.sub)) (RDProgram.intro aA) (RDProgram.intro (mf U ((c.sub.trans g.sub).trans m.sub))) (pt N)) ?_
     rintro _ bH ⟨a7,rfl,aE⟩
     have a8:=ca aE N
     exact n1 36 e (uN ak (m3 false (.bool (!ak)) (cg e) (wt (⟨_,a7,(!ak),fR,aE.sub,(a8.sel [2,1,0]),h⟩))))
   ·rintro _ bI ⟨aB,W,aj,rfl,s,X,h⟩
    unfold f3_j2 at h
    refine cd h (fun al h=>?_) (fun al h=>?_)
    ·refine cT al (sr (m2 vN (wt (wp_ret (thenR ?_)))))
     cases (oi h).trans hr_
     exact retA1 rfl (resT rfl) ⟨W,rfl,(X.sel [])⟩
    ·refine cF al (wp_skip (thenN (sr (lN 2 ([sl o l p]) X Tya24 Tys24 ?_))))
     obtain ⟨⟨⟨y⟩,z⟩,a9,h⟩:=ob h
     refine cv ([.agg #[sl o l p]]) Tyb7 ((f7_ok k) a9 (hG.mono (((c.sub.trans g.sub).trans m.sub).trans s)) (RDProgram.intro (mf aA s)) (pt X)) ?_
     rintro _ bJ ⟨bK,bL,rfl,A,ba⟩
     have bb:=ca A X
     obtain ⟨B,C,rfl,bd⟩:=RDProgram.open ba
     refine m1 (.tuple #[.agg #[sl B y C],iI z]) (ext (v:=.agg #[sl B y C]) rfl rfl (ext (v:=iI z) rfl rfl (aC #[nS] bb Tyz24 (fun bM be=>(sI 0 (.agg #[sl B y C]) #[sl B y C] be Tys24 rfl rfl (fun bN am=>(m2 (iI z) (wt (sr (lN 1 ([sl f d c1]) am Tya24 Tys24 ?_))))))))))
     obtain ⟨⟨⟨Y⟩,t⟩,bf,h⟩:=ob h
     refine cv ([.agg #[sl f d c1]]) Tyb8 ((f8_ok k) bf (hG.mono ((((c.sub.trans g.sub).trans m.sub).trans s).trans A.sub)) (RDProgram.intro (mf U ((((c.sub.trans g.sub).trans m.sub).trans s).trans A.sub))) (pt am)) ?_
     rintro _ bO ⟨an,bP,rfl,O,bg⟩
     have bh:=ca O am
     obtain ⟨Z,ab,rfl,bQ⟩:=RDProgram.open bg
     refine m1 (.tuple #[.agg #[sl Z Y ab],iI t]) (ext (v:=.agg #[sl Z Y ab]) rfl rfl (ext (v:=iI t) rfl rfl (aC #[nS] bh Tyz24 (fun bR bi=>(sI 0 (.agg #[sl Z Y ab]) #[sl Z Y ab] bi Tys24 rfl rfl (fun bS D=>(m2 (iI t) (wt (wp_cut (fun a w=>∃ aF ac ao,a=fr 66 (updL aF [(2,.bool ao)])∧KH.sub an ac∧SR K ac wi w [] []∧f3_j3 k ao=some r_) ?_ ?_)))))))))
     ·refine wp_region_lit (m1 (iI z) (c0 (z == 0) (m1 (.bool (z == 0)) (cd h (fun u h=>?_) (fun u h=>?_)))))
      ·refine n1 54 u (m1 (iI t) (n1 54 u (c0 (t == 0) (m3 true (.bool (t == 0)) (cg u) (m1 (.bool (t == 0)) (cd h (fun q h=>?_) (fun q h=>?_)))))))
       ·refine n1 58 q (lN 1 ([sl B y C]) D Tya24 Tys24 (n1 58 q (lN 3 ([sl i b j]) D Tya24 Tys24 (n1 58 q ?_))))
        obtain ⟨aG,bj,h⟩:=ob h
        refine cv ([.agg #[sl B y C],.agg #[sl i b j]]) Tyb9 ((f9_ok k) bj (hG.mono (((((c.sub.trans g.sub).trans m.sub).trans s).trans A.sub).trans O.sub)) (RDProgram.intro (mf bd O.sub)) (RDProgram.intro (mf av (((m.sub.trans s).trans A.sub).trans O.sub))) (pt D)) ?_
        rintro _ bT ⟨bk,rfl,ad⟩
        have ap:=ca ad D
        refine m3 true (.bool aG) (cg q) (m1 (.bool aG) (cd h (fun S h=>?_) (fun S h=>?_)))
        ·refine n1 63 S ?_
         obtain ⟨aq,bm,h⟩:=ob h
         refine cv ([]) Tyb6 ((f6_ok k) bm (hG.mono ((((((c.sub.trans g.sub).trans m.sub).trans s).trans A.sub).trans O.sub).trans ad.sub)) (pt ap)) ?_
         rintro _ bU ⟨bn,rfl,aH⟩
         have bo:=ca aH ap
         exact m3 true (.bool aq) (cg S) (m2 (.bool aq) (wt (⟨_,bn,aq,fR,(ad.sub.trans aH.sub),(bo.sel []),h⟩)))
        ·exact o1 63 S (m3 false vN (cg S) (m2 vN (wt (⟨_,bk,false,fR,ad.sub,(ap.sel []),h⟩))))
       ·exact o1 58 q (o1 58 q (o1 58 q (m3 false vN (cg q) (m1 vN (o0 63 (m3 false vN rfl (m2 vN (wt (⟨_,an,false,fR,kr,(D.sel []),h⟩)))))))))
      ·exact o1 54 u (o1 54 u (m3 false vN (cg u) (m1 vN (o0 58 (o0 58 (o0 58 (m3 false vN rfl (m1 vN (o0 63 (m3 false vN rfl (m2 vN (wt (⟨_,an,false,fR,kr,(D.sel []),h⟩)))))))))))))
     ·rintro _ bV ⟨aF,ac,ao,rfl,bW,bp,h⟩
      unfold f3_j3 at h
      refine wp_ret ?_
      cases (oi h).trans hr_
      exact retA1 rfl (resT rfl) ⟨ac,rfl,bp⟩
theorem f3_ok (k:Nat):f3_spec (f3 k):=f3_b_ok k
end Go.Proofs.YtoajecnoffhlbaaDoor
set_option maxRecDepth 512
set_option maxHeartbeats 200000
namespace Go.Proofs.YtoajecnoffhlbaaDoor
open Go
mutual
def szE:DExpr→Nat | .mk _ _ _ _ l=>szEs l + 1
def szEs:List DExpr→Nat | []=>0 | e :: l=>szE e + szEs l
end
mutual
def szS:DStmt→Nat | .mk _ _ _ _ _ _ a b c d e=>szEs a + szSs b + szSs c + szSs d + szCs e + 1
def szSs:List DStmt→Nat | []=>0 | s :: l=>szS s + szSs l
def szC:DCase→Nat | .mk _ _ _ a b=>szEs a + szSs b + 1
def szCs:List DCase→Nat | []=>0 | c :: l=>szC c + szCs l
end
def szF:DFunc→Nat | .mk _ ps _ _ _ b=>ps.length + szSs b + 1
def szFs:List DFunc→Nat | []=>0 | f :: l=>szF f + szFs l
def szP:DProgram→Nat | .mk fs=>szFs fs + 1
theorem len_szEs : ∀ l:List DExpr,l.length≤szEs l
 | []=>by simp
 | .mk _ _ _ _ a :: l=>by have:=len_szEs l; simp only [List.length_cons,szEs,szE]; omega
def letterI (c:Int):Bool:=decide (c ≥ 97) && decide (c≤122)
def digitI (c:Int):Bool:=decide (c ≥ 48) && decide (c≤57)
def runL:List UInt8→Nat→Bool
 | [],_=>true
 | e :: r,i=>(letterI e.toNat || (!((i:Int) == 0) && digitI e.toNat)) && runL r (i + 1)
def isN (s:ByteArray):Bool:=runL s.data.toList 0 && !seq s ⟨#[]⟩ && decide ((s.size:Int)≤12) && !wordsL.any (seq s)
theorem f60_eq (k:Nat) (c:Int):f60 k c=some (letterI c):=by
 unfold f60 f60_b f60_j1 letterI
 cases decide (c ≥ 97) <;> rfl
theorem f61_eq (k:Nat) (c:Int):f61 k c=some (digitI c):=by
 unfold f61 f61_b f61_j1 digitI
 cases decide (c ≥ 48) <;> rfl
theorem f54_l1_eq (k:Nat) (a:ByteArray) : ∀ (l:List UInt8) (i:Nat),f54_l1 k a l i=some (runL l i && !seq a ⟨#[]⟩)
 | [],i=>by simp [f54_l1,runL]
 | e :: l,i=>by
  unfold f54_l1 runL
  rw [f60_eq]
  simp only [Option.bind_some,f54_j1,f61_eq,f54_l1_eq k a l]
  cases letterI e.toNat <;> cases ((i:Int) == 0) <;> cases digitI e.toNat <;> simp
theorem f68_l1_eq (k:Nat) (a:ByteArray) : ∀ (l:List ByteArray) (i:Nat),∃ r,f68_l1 k a l i=some r∧decide (r ≥ 0)=l.any (seq a)
 | [],i=>⟨-1,rfl,rfl⟩
 | e :: l,i=>by
  unfold f68_l1
  cases h:seq a e
  ·obtain ⟨r,h1,h2⟩:=f68_l1_eq k a l (i + 1)
   exact ⟨r,h1,by simp [h,h2]⟩
  ·exact ⟨(i:Int),rfl,by simp [h]⟩
theorem f44_eq (k:Nat) (s:ByteArray):f44 k s=some (isN s):=by
 unfold f44 f44_b f54 f54_b isN
 rw [f54_l1_eq]
 simp only [Option.bind_some,f44_j1]
 obtain ⟨r,h1,h2⟩:=f68_l1_eq k s wordsL 0
 have h92:f55 k s=some (wordsL.any (seq s)):=by
  unfold f55 f55_b f63 f62 f62_b f68 f68_b
  simp [h1,h2]
 rw [h92]
 simp only [Option.bind_some]
 cases runL s.data.toList 0 <;> cases seq s ⟨#[]⟩ <;> cases decide ((s.size:Int)≤12) <;> rfl
theorem seq_comm (a b:ByteArray):seq a b=seq b a:=by
 unfold seq
 rw [Bool.eq_iff_iff,beq_iff_eq,beq_iff_eq]
 exact eq_comm
def textL:List UInt8→Bool
 | []=>true
 | e :: l=>!decide ((e.toNat:Int) < 32) && !decide ((e.toNat:Int) > 126) && textL l
def isT (s:ByteArray):Bool:=textL s.data.toList && decide ((s.size:Int)≤60)
theorem f78_l1_eq (k:Nat) (a:ByteArray) : ∀ (l:List UInt8) (i:Nat),f78_l1 k a l i=some (textL l && decide ((a.size:Int)≤60))
 | [],i=>by simp [f78_l1,textL]
 | e :: l,i=>by
  unfold f78_l1 textL
  simp only [f78_j1,f78_l1_eq k a l]
  cases decide ((e.toNat:Int) < 32) <;> cases decide ((e.toNat:Int) > 126) <;> simp
theorem f73_eq (k:Nat) (s:ByteArray):f73 k s=some (isT s):=f78_l1_eq k s _ 0
end Go.Proofs.YtoajecnoffhlbaaDoor
namespace Go.Proofs.YtoajecnoffhlbaaDoor
open Go
theorem w64_nat {x:Int} {n:Nat} (h:x=(n:Int)) (h2:n≤4611686018427387904):w64 x=(n:Int):=by
 subst h; unfold w64 IntKind.wrap; simp [IntKind.bits,IntKind.signed]; omega
def nodeE (op num:Int) (txt:ByteArray) (len:Nat):Bool :=
 cond (op == 1) (decide (num ≥ 0) && decide (num≤1000000000000) && seq txt ⟨#[]⟩ && (len:Int) == 0)
 (cond (op == 2) (decide (num ≥ 0) && decide (num≤1) && seq txt ⟨#[]⟩ && (len:Int) == 0)
 (cond (op == 3) (num == 0 && isT txt && (len:Int) == 0)
 (cond (op == 4) (num == 0 && isN txt && (len:Int) == 0)
 (cond (op == 5 || op == 6) (num == 0 && seq txt ⟨#[]⟩ && (len:Int) == 1)
  (decide (op ≥ 7) && decide (op≤19) && num == 0 && seq txt ⟨#[]⟩ && (len:Int) == 2)))))
mutual
def gE (z:Bool):DExpr→Nat→Bool
 | .mk op num txt slot l,a=>decide (a≤16) && (z || slot == 0) && nodeE op num txt l.length && gEs z l (a + 1)
def gEs (z:Bool):List DExpr→Nat→Bool
 | [],_=>true
 | e :: l,a=>gE z e a && gEs z l a
end
def NRes (r:Option (Dcounter × Bool)) (g:Bool) (n sz:Nat) (z:Bool):Prop :=
 ∃ c,r=some (c,g && decide (n + sz≤600))∧((g && decide (n + sz≤600))=true→∃ d,c=.mk ((n + sz:Nat):Int) d z)
theorem f42_eq (k:Nat) (x a b:Int):f42 k x a b=some (decide (x ≥ a) && decide (x≤b)):=by
 unfold f42 f42_b f42_j1; cases decide (x ≥ a) <;> rfl
theorem f43_eq (k:Nat) (n:Nat) (d:Int) (z:Bool) (a:Nat) (h:n≤600) :
  f43 k (.mk n d z) a=some (.mk ((n + 1:Nat):Int) (imax d a) z,decide (n + 1≤600) && decide (a≤16)):=by
 unfold f43 f43_b f43_j1
 simp only
 rw [w64_nat (n:=n + 1) (by omega) (by omega)]
 have e1:decide (((n + 1:Nat):Int)≤600)=decide (n + 1≤600):=by rw [decide_eq_decide]; omega
 have e2:decide ((a:Int)≤16)=decide (a≤16):=by rw [decide_eq_decide]; omega
 rw [e1,e2]
 cases decide (n + 1≤600) <;> rfl
theorem f70_j1_eq (k:Nat) (F:Fam67) (op num:Int) (txt:ByteArray) (l:List DExpr) (a n d:Int) (q:Bool) :
  f70_j1 k F op num txt l a n d q false=cond (nodeE op num txt l.length) (f70_j2 k F l a n d q (l.length:Int) true) (some (.mk n d q,false)):=by
 unfold f70_j1 f70_j4 f70_j5 f70_j6 f70_j2 f70_j3 nodeE
 simp only [f42_eq,f73_eq,f44_eq,Option.bind_some,Bool.cond_eq_ite]
 grind
theorem szE_pos : ∀ e:DExpr,1≤szE e
 | .mk _ _ _ _ _=>by simp only [szE]; omega
theorem NRes.no {r:Option (Dcounter × Bool)} {g:Bool} {n sz:Nat} {z:Bool} {c:Dcounter} (h:r=some (c,false)) (hg:(g && decide (n + sz≤600))=false):NRes r g n sz z :=
 ⟨c,by rw [h,hg],by rw [hg]; intro h; cases h⟩
theorem NRes.yes {r:Option (Dcounter × Bool)} {g:Bool} {n sz:Nat} {z:Bool} {d:Int} (h:r=some (.mk ((n + sz:Nat):Int) d z,true)) (hg:(g && decide (n + sz≤600))=true):NRes r g n sz z :=
 ⟨_,by rw [h,hg],fun _=>⟨d,rfl⟩⟩
theorem nE (k:Nat) (z:Bool) : ∀ m,
  (∀ e,2 * szE e≤m→∀ (n:Nat) (d:Int) (a:Nat),n≤600→a≤17→NRes ((fam67 k m).f70 (.mk n d z) e a) (gE z e a) n (szE e) z) ∧
  (∀ l,2 * szEs l + 1≤m→∀ (n:Nat) (d:Int) (a:Nat),n≤600→a≤17→NRes ((fam67 k m).f67 (.mk n d z) l a) (gEs z l a) n (szEs l) z)
 | 0=>⟨fun e he=>by have:=szE_pos e; omega,fun l hl=>by omega⟩
 | m + 1=>by
  obtain ⟨ihe,ihl⟩:=nE k z m
  constructor
  ·intro e he n d a hn ha
   obtain ⟨op,num,txt,slot,l⟩:=e
   simp only [szE] at he
   show NRes (f70_b k (fam67 k m) (.mk n d z) (.mk op num txt slot l) a) _ _ _ _
   unfold f70_b
   simp only [szE]
   rw [f43_eq k n d z a hn]
   simp only [Option.bind_some]
   have hj : ∀ q:Bool,f70_j1 k (fam67 k m) op num txt l a ((n + 1:Nat):Int) (imax d a) z q=cond q (some (.mk ((n + 1:Nat):Int) (imax d a) z,false)) (cond (nodeE op num txt l.length) (f70_j2 k (fam67 k m) l a ((n + 1:Nat):Int) (imax d a) z (l.length:Int) true) (some (.mk ((n + 1:Nat):Int) (imax d a) z,false))):=by
    intro q; cases q
    ·exact f70_j1_eq _ _ _ _ _ _ _ _ _ _
    ·rfl
   simp only [hj]
   by_cases h1:n + 1≤600∧a≤16
   ·obtain ⟨h1,h2⟩:=h1
    simp only [h1,h2,decide_true,Bool.and_self,Bool.not_true,cond_false]
    by_cases h3:(z || slot == 0)=true
    ·have h3' : (cond (slot != 0) (!z) false)=false:=by cases z <;> simp_all
     have h4 : ∀ (x y:Option (Dcounter × Bool)),cond (slot != 0) (cond (!z) x y) y=y:=by
      intro x y; cases z <;> simp_all
     rw [h4]
     by_cases h5:nodeE op num txt l.length=true
     ·simp only [h5,cond_true]
      unfold f70_j2
      simp only [beq_self_eq_true,cond_true]
      rw [w64_nat (n:=a + 1) (by omega) (by omega)]
      obtain ⟨c,hc,hd⟩:=ihl l (by omega) (n + 1) (imax d a) (a + 1) h1 (by omega)
      rw [hc]
      refine ⟨c,?_,?_⟩
      ·obtain ⟨c0,c1,c2⟩:=c
       have:n + 1 + szEs l=n + (szEs l + 1):=by omega
       simp [f70_j3,gE,h2,h3,h5,this]
      ·intro hg
       have e1:n + (szEs l + 1)=n + 1 + szEs l:=by omega
       rw [e1]
       refine hd ?_
       rw [e1] at hg
       simp [gE,h2,h3,h5] at hg
       simp [hg]
     ·have h5' : nodeE op num txt l.length=false:=by simpa using h5
      simp only [h5',cond_false]
      exact .no rfl (by simp [gE,h5'])
    ·have h3' : (z || slot == 0)=false:=by simpa using h3
     have h4 : ∀ (x y:Option (Dcounter × Bool)),cond (slot != 0) (cond (!z) x y) y=x:=by
      intro x y
      simp only [Bool.or_eq_false_iff,beq_eq_false_iff_ne] at h3'
      have e:(slot != 0)=true:=bne_iff_ne.mpr h3'.2
      rw [e,h3'.1]; rfl
     rw [h4]
     exact .no rfl (by simp [gE,h3'])
   ·have h1' : (decide (n + 1≤600) && decide (a≤16))=false:=by
     simp only [Bool.and_eq_false_iff,decide_eq_false_iff_not]; omega
    simp only [h1',Bool.not_false,cond_true]
    refine .no rfl ?_
    simp only [gE,Bool.and_eq_false_iff,decide_eq_false_iff_not]
    omega
  ·intro l hl n d a hn ha
   show NRes (f67_l1 k (fam67 k m) a l 0 n d z) _ _ _ _
   have loop : ∀ (l:List DExpr) (i:Nat) (n:Nat) (d:Int),2 * szEs l≤m→n≤600→NRes (f67_l1 k (fam67 k m) a l i n d z) (gEs z l a) n (szEs l) z:=by
    intro l
    induction l with
    | nil=>intro i n d _ hn; exact .yes rfl (by simp [gEs,szEs,hn])
    | cons e l ih =>
     intro i n d hm hn
     obtain ⟨e0,e1,e2,e3,e4⟩:=e
     unfold f67_l1
     simp only [szEs] at hm
     obtain ⟨c,hc,hd⟩:=ihe (.mk e0 e1 e2 e3 e4) (by omega) n d a hn ha
     rw [hc]
     by_cases hg:(gE z (.mk e0 e1 e2 e3 e4) a && decide (n + szE (.mk e0 e1 e2 e3 e4)≤600))=true
     ·obtain ⟨d',rfl⟩:=hd hg
      have hg':=hg
      simp only [Bool.and_eq_true,decide_eq_true_eq] at hg'
      simp only [hg,Option.bind_some,Bool.not_true,cond_false]
      obtain ⟨c2,hc2,hd2⟩:=ih (i + 1) _ d' (by omega) hg'.2
      have e1:n + (szE (DExpr.mk e0 e1 e2 e3 e4) + szEs l)=n + szE (DExpr.mk e0 e1 e2 e3 e4) + szEs l:=by omega
      refine ⟨c2,?_,?_⟩
      ·rw [hc2]; simp only [gEs,szEs,hg'.1,Bool.true_and,e1]
      ·simp only [gEs,szEs,hg'.1,Bool.true_and,e1]; exact hd2
     ·have hg' : (gE z (.mk e0 e1 e2 e3 e4) a && decide (n + szE (.mk e0 e1 e2 e3 e4)≤600))=false:=by simpa using hg
      obtain ⟨c0,c1,c2⟩:=c
      simp only [hg',Option.bind_some,Bool.not_false,cond_true]
      refine .no rfl ?_
      simp only [Bool.and_eq_false_iff,decide_eq_false_iff_not,gEs,szEs] at hg' ⊢
      rcases hg' with h | h
      ·exact .inl (.inl h)
      ·exact .inr (decide_eq_false (fun h'=>h (by omega)))
   exact loop l 0 n d (by omega) hn
mutual
def stE:DExpr→DExpr | .mk op num txt _ l=>.mk op num txt 0 (stEs l)
def stEs:List DExpr→List DExpr | []=>[] | e :: l=>stE e :: stEs l
end
theorem stEs_len : ∀ l,(stEs l).length=l.length
 | []=>rfl
 | e :: l=>by simp [stEs,stEs_len l]
mutual
theorem szE_st : ∀ e,szE (stE e)=szE e
 | .mk _ _ _ _ l=>by simp only [stE,szE,szEs_st l]
theorem szEs_st : ∀ l,szEs (stEs l)=szEs l
 | []=>rfl
 | e :: l=>by simp only [stEs,szEs,szE_st e,szEs_st l]
end
mutual
theorem gE_st : ∀ e a,gE false (stE e) a=gE true e a
 | .mk _ _ _ _ l,a=>by simp [stE,gE,gEs_st l,stEs_len]
theorem gEs_st : ∀ l a,gEs false (stEs l) a=gEs true l a
 | [],_=>rfl
 | e :: l,a=>by simp only [stEs,gEs,gE_st e,gEs_st l]
end
end Go.Proofs.YtoajecnoffhlbaaDoor
namespace Go.Proofs.YtoajecnoffhlbaaDoor
open Go
def shp (op:Int):Option (Int × Bool × Int × Int × Bool × Int) :=
 match op with
 | 1=>some (1,false,1,1,false,0) | 2=>some (1,false,1,1,false,0) | 3=>some (2,true,0,600,false,0) | 4=>some (2,true,0,600,false,0)
 | 5=>some (2,false,1,1,false,0) | 6=>some (2,false,1,1,false,1) | 7=>some (1,false,1,1,false,2) | 8=>some (1,false,1,1,false,0)
 | 9=>some (1,false,0,0,false,0) | 10=>some (0,false,2,2,false,0) | 11=>some (0,false,1,1,false,0) | 12=>some (0,false,1,1,false,0)
 | 13=>some (0,false,0,0,false,0) | 14=>some (0,false,1,1,false,0) | 15=>some (0,false,1,1,false,0) | 16=>some (0,false,1,1,false,0)
 | 17=>some (0,false,0,1,false,0) | 18=>some (0,false,0,0,false,0) | 19=>some (0,false,0,0,false,0) | 20=>some (0,false,1,1,true,1)
 | 21=>some (0,false,1,1,true,0) | 22=>some (0,false,0,1,true,1) | 23=>some (0,false,0,0,true,0) | 24=>some (2,false,0,0,true,3)
 | 25=>some (1,false,1,1,true,0) | 26=>some (0,false,1,1,true,0) | 27=>some (0,false,0,0,false,0) | 28=>some (1,true,0,600,true,66)
 | 29=>some (0,false,1,1,false,0) | _=>none
theorem op_cases {P:Int→Prop} (op:Int) (h : ∀ n:Nat,n < 29→P ((n + 1:Nat):Int)) (h0:op < 1∨op > 29→P op):P op:=by
 by_cases h1:op < 1∨op > 29
 ·exact h0 h1
 ·obtain ⟨n,rfl⟩ : ∃ n:Nat,op=((n + 1:Nat):Int):=⟨(op - 1).toNat,by omega⟩
  exact h n (by omega)
theorem shp_none {op:Int} (h:op < 1∨op > 29):shp op=none:=by
 unfold shp
 split <;> first | rfl | (exfalso; omega)
def toN:Option (Int × Bool × Int × Int × Bool × Int)→Option Dshape
 | none=>none
 | some (nm,fr,lo,hi,bd,fl)=>some (.mk nm fr lo (if hi=600 then 601 else hi) bd)
theorem mget_none (op:Int) : ∀ L:List (Int × Dshape),(∀ x ∈ L,qI op x.1=false)→mget qI op L=none
 | [],_=>rfl
 | (a,v) :: L,h=>by
  unfold mget
  rw [if_neg (by rw [h (a,v) (by simp)]; simp)]
  exact mget_none op L fun x hx=>h x (by simp [hx])
theorem f64_eq (k:Nat) (op:Int):(f64 k).bind (fun r=>some (mget qI op r))=some (toN (shp op)):=by
 refine op_cases (P:=fun op=>(f64 k).bind (fun r=>some (mget qI op r))=some (toN (shp op))) op ?_ ?_
 ·intro n hn
  match n,hn with
  | 0,_=>rfl | 1,_=>rfl | 2,_=>rfl | 3,_=>rfl | 4,_=>rfl | 5,_=>rfl | 6,_=>rfl | 7,_=>rfl | 8,_=>rfl | 9,_=>rfl
  | 10,_=>rfl | 11,_=>rfl | 12,_=>rfl | 13,_=>rfl | 14,_=>rfl | 15,_=>rfl | 16,_=>rfl | 17,_=>rfl | 18,_=>rfl | 19,_=>rfl
  | 20,_=>rfl | 21,_=>rfl | 22,_=>rfl | 23,_=>rfl | 24,_=>rfl | 25,_=>rfl | 26,_=>rfl | 27,_=>rfl | 28,_=>rfl
  | n + 29,h=>omega
 ·intro h
  rw [shp_none h]
  obtain ⟨L,hL,hA⟩ : ∃ L,f64 k=some L∧(L.all fun x=>decide (1≤x.1) && decide (x.1≤29))=true:=⟨_,rfl,rfl⟩
  rw [hL]
  simp only [Option.bind_some]
  rw [mget_none op L]
  ·rfl
  ·intro x hx
   have:=List.all_eq_true.mp hA x hx
   simp only [Bool.and_eq_true,decide_eq_true_eq] at this
   unfold qI; rw [beq_eq_false_iff_ne]; omega
def flagN (op:Int) (name:ByteArray) (flag:Int) (l8 l9:Int):Bool :=
 let b0:=(IntKind.i64.wrap (BitVec.ofInt IntKind.i64.bits flag &&& BitVec.ofInt IntKind.i64.bits 1).toNat) == 1
 let b1:=(IntKind.i64.wrap (BitVec.ofInt IntKind.i64.bits flag &&& BitVec.ofInt IntKind.i64.bits 2).toNat) == 2
 cond (op == 6) (decide (flag ≥ 0) && decide (flag≤1) && (flag == 0 || !seq name ⟨#[]⟩) && l8 == 0 && l9 == 0)
 (cond (op == 7) (decide (flag ≥ 0) && decide (flag≤2) && l8 == 0 && l9 == 0)
 (cond (op == 22) (decide (flag ≥ 0) && decide (flag≤1) && l8 == 0 && l9 == 0)
 (cond (op == 20) (decide (flag ≥ 0) && decide (flag≤1) && (flag == 1 || l8 == 0) && l9 == 0)
 (cond (op == 24) (decide (flag ≥ 1) && decide (flag≤3) && ((!seq name ⟨#[]⟩) == b0) && (b0 || l8 == 0) && (b1 || l9 == 0))
 (cond (op == 28) (decide (flag ≥ 0) && decide (flag≤66) && decide (flag.tmod 4 < 3) && l8 == 0 && l9 == 0)
  (flag == 0 && l8 == 0 && l9 == 0))))))
theorem f65_eq (k:Nat) (op:Int) (name:ByteArray) (s2:Int) (fr:ByteArray) (s4 flag:Int) (l6:List DExpr) (l7 l8 l9:List DStmt) (l10:List DCase) :
  f65 k (.mk op name s2 fr s4 flag l6 l7 l8 l9 l10)=some (flagN op name flag l8.length l9.length):=by
 unfold f65 f65_b f65_j3 f65_j1 f65_j2 flagN
 simp only [f42_eq,Option.bind_some,Bool.cond_eq_ite]
 generalize (IntKind.i64.wrap (BitVec.ofInt IntKind.i64.bits flag &&& BitVec.ofInt IntKind.i64.bits 1).toNat == 1)=b0
 generalize (IntKind.i64.wrap (BitVec.ofInt IntKind.i64.bits flag &&& BitVec.ofInt IntKind.i64.bits 2).toNat == 2)=b1
 generalize ((l8.length:Int) == 0)=c8
 generalize ((l9.length:Int) == 0)=c9
 generalize seq name ⟨#[]⟩=e
 grind (splits:=20)
def nameN (nm:Int) (fr:Bool) (name from_:ByteArray):Bool :=
 (seq name ⟨#[]⟩ || (!(nm == 0) && isN name)) && (!seq name ⟨#[]⟩ || !(nm == 1)) && ((!seq from_ ⟨#[]⟩) == fr) && (!fr || isN from_)
def argsN (op lo hi:Int) (bd:Bool) (l6 l7 l10:Int):Bool :=
 decide (l6 ≥ lo) && decide (l6≤hi) && (bd || !decide (l7 > 0)) && (cond (op == 27) (decide (l10 ≥ 1) && decide (l10≤4)) (!decide (l10 > 0)))
section
variable (k:Nat) (F:Fam45) (op:Int) (name:ByteArray) (s2:Int) (from_:ByteArray) (s4 flag:Int) (l6:List DExpr) (l7 l8 l9:List DStmt) (l10:List DCase) (a nm:Int) (fr:Bool) (lo hi:Int) (bd:Bool) (n d:Int) (z q:Bool)
theorem f56_j3_eq:f56_j3 k F op l6 l7 l8 l9 l10 a lo hi bd n d z q =
  cond (!q && argsN op lo hi bd l6.length l7.length l10.length) (f56_l1 k F l6 l7 l8 l9 l10 a l10 0 n d z) (some (.mk n d z,false)):=by
 unfold f56_j3 f56_j4 argsN
 simp only [f42_eq,Option.bind_some,Bool.cond_eq_ite]
 grind (splits:=20)
theorem f56_j2_eq:f56_j2 k F op name from_ l6 l7 l8 l9 l10 a nm fr lo hi bd n d z q =
  cond (!q && nameN nm fr name from_ && argsN op lo hi bd l6.length l7.length l10.length) (f56_l1 k F l6 l7 l8 l9 l10 a l10 0 n d z) (some (.mk n d z,false)):=by
 unfold f56_j2 nameN
 simp only [f44_eq,f56_j3_eq,Option.bind_some,Bool.cond_eq_ite]
 grind (splits:=20)
theorem f56_j1_eq:f56_j1 k F n d z op name s2 from_ s4 flag l6 l7 l8 l9 l10 a nm fr lo hi bd true =
  (f43 k (.mk n d z) a).bind fun x=>match x with
   | (.mk n1 d1 z1,ok)=>cond (ok && ((s2 == 0 && s4 == 0) || z1) && flagN op name flag l8.length l9.length && nameN nm fr name from_ && argsN op lo hi bd l6.length l7.length l10.length)
    (f56_l1 k F l6 l7 l8 l9 l10 a l10 0 n1 d1 z1) (some (.mk n1 d1 z1,false)):=by
 unfold f56_j1
 simp only [Bool.not_true,cond_false]
 congr 1
 funext x
 obtain ⟨⟨n1,d1,z1⟩,ok⟩:=x
 simp only [f65_eq,f56_j2_eq,Option.bind_some,Bool.cond_eq_ite]
 grind (splits:=20)
end
def nameR (nm:Int) (name:ByteArray):Bool:=(nm == 0 && seq name ⟨#[]⟩) || (nm == 1 && isN name) || (nm == 2 && (seq name ⟨#[]⟩ || isN name))
def fromR (fr:Bool) (from_:ByteArray):Bool:=cond fr (isN from_) (seq from_ ⟨#[]⟩)
def flagR (op:Int) (name:ByteArray) (flag:Int) (l8 l9:Int):Bool :=
 (l8 == 0 || (op == 20 && flag == 1) || (op == 24 && flag.tmod 2 == 1)) && (l9 == 0 || (op == 24 && decide (flag ≥ 2))) &&
 cond (op == 6) (flag == 0 || !seq name ⟨#[]⟩) (cond (op == 24) (decide (flag > 0) && ((flag.tmod 2 == 1) == !seq name ⟨#[]⟩)) (cond (op == 28) (decide (flag.tmod 4 < 3)) true))
def casesR (op l10:Int):Bool:=((op == 27) == decide (l10 > 0)) && decide (l10≤4)
section
end
def nodeN (op:Int) (name from_:ByteArray) (flag:Int) (l6 l7 l8 l9 l10:Nat):Bool :=
 match shp op with
 | none=>false
 | some (nm,fr,lo,hi,bd,fl)=>flagN op name flag l8 l9 && nameN nm fr name from_ && argsN op lo (if hi=600 then 601 else hi) bd l6 l7 l10
def nodeS (op:Int) (name from_:ByteArray) (flag:Int) (l6 l7 l8 l9 l10:Nat):Bool :=
 match shp op with
 | none=>false
 | some (nm,fr,lo,hi,bd,fl)=>decide ((l6:Int) ≥ lo) && decide ((l6:Int)≤hi) && decide (flag ≥ 0) && decide (flag≤fl) && (nameR nm name && fromR fr from_ && (bd || (l7:Int) == 0) && flagR op name flag l8 l9 && casesR op l10)
theorem isN_ne {s:ByteArray} (h:isN s=true):seq s ⟨#[]⟩=false:=by
 unfold isN at h; cases hs:seq s ⟨#[]⟩ with
 | false=>rfl
 | true=>rw [hs] at h; simp at h
theorem bits (flag:Int) (h1:1≤flag) (h2:flag≤3):(IntKind.i64.wrap (BitVec.ofInt IntKind.i64.bits flag &&& BitVec.ofInt IntKind.i64.bits 1).toNat == 1)=(flag.tmod 2 == 1) ∧
  (IntKind.i64.wrap (BitVec.ofInt IntKind.i64.bits flag &&& BitVec.ofInt IntKind.i64.bits 2).toNat == 2)=decide (flag ≥ 2):=by
 rcases (by omega:flag=1∨flag=2∨flag=3) with rfl | rfl | rfl <;> exact ⟨rfl,rfl⟩
theorem nodeNS (op:Int) (name from_:ByteArray) (flag:Int) (l6 l7 l8 l9 l10:Nat) (h6:l6≤600):nodeN op name from_ flag l6 l7 l8 l9 l10=nodeS op name from_ flag l6 l7 l8 l9 l10:=by
 have hn:=@isN_ne name
 have hf:=@isN_ne from_
 have hb:=bits flag
 unfold nodeN nodeS flagN nameN argsN nameR fromR flagR casesR
 generalize (IntKind.i64.wrap (BitVec.ofInt IntKind.i64.bits flag &&& BitVec.ofInt IntKind.i64.bits 1).toNat == 1)=b0 at hb ⊢
 generalize (IntKind.i64.wrap (BitVec.ofInt IntKind.i64.bits flag &&& BitVec.ofInt IntKind.i64.bits 2).toNat == 2)=b1 at hb ⊢
 generalize isN name=n1 at hn ⊢
 generalize isN from_=n2 at hf ⊢
 generalize seq name ⟨#[]⟩=e1 at hn ⊢
 generalize seq from_ ⟨#[]⟩=e2 at hf ⊢
 generalize flag.tmod 2=t2 at hb ⊢
 generalize flag.tmod 4=t4
 by_cases hop:op < 1∨op > 29
 ·rw [shp_none hop]
 rcases (by omega:op=1∨op=2∨op=3∨op=4∨op=5∨op=6∨op=7∨op=8∨op=9∨op=10∨op=11∨op=12∨op=13∨op=14∨op=15∨op=16∨op=17∨op=18∨op=19∨op=20∨op=21∨op=22∨op=23∨op=24∨op=25∨op=26∨op=27∨op=28∨op=29) with rfl | rfl | rfl | rfl | rfl | rfl | rfl | rfl | rfl | rfl | rfl | rfl | rfl | rfl | rfl | rfl | rfl | rfl | rfl | rfl | rfl | rfl | rfl | rfl | rfl | rfl | rfl | rfl | rfl <;>
  simp only [shp,Int.reduceBEq,cond_true,cond_false,Int.reduceEq,if_true,if_false] <;> grind (splits:=20)
end Go.Proofs.YtoajecnoffhlbaaDoor
namespace Go.Proofs.YtoajecnoffhlbaaDoor
open Go
def nodeC (kind:Int) (name:ByteArray) (len:Int):Bool :=
 decide (kind ≥ 1) && decide (kind≤4) && len == (cond (kind == 2) 2 (cond (kind == 4) 0 1)) && cond (kind == 1) (isN name) (seq name ⟨#[]⟩)
mutual
def gS (z:Bool):DStmt→Nat→Bool
 | .mk op name s2 fr s4 flag l6 l7 l8 l9 l10,a=>decide (a≤16) && (z || (s2 == 0 && s4 == 0)) && nodeS op name fr flag l6.length l7.length l8.length l9.length l10.length &&
  (gEs z l6 (a + 1) && (gSs z l7 (a + 1) && (gSs z l8 (a + 1) && (gSs z l9 (a + 1) && gCs z l10 (a + 1)))))
def gSs (z:Bool):List DStmt→Nat→Bool
 | [],_=>true
 | s :: l,a=>gS z s a && gSs z l a
def gC (z:Bool):DCase→Nat→Bool
 | .mk kind name slot es b,a=>decide (a≤16) && (z || slot == 0) && nodeC kind name es.length && (gEs z es (a + 1) && gSs z b (a + 1))
def gCs (z:Bool):List DCase→Nat→Bool
 | [],_=>true
 | .mk kind name slot es b :: l,a=>(!(kind == 4) || l.isEmpty) && gC z (.mk kind name slot es b) a && gCs z l a
end
theorem szS_pos : ∀ e:DStmt,1≤szS e
 | .mk _ _ _ _ _ _ _ _ _ _ _=>by simp only [szS]; omega
theorem szC_pos : ∀ e:DCase,1≤szC e
 | .mk _ _ _ _ _=>by simp only [szC]; omega
theorem NRes.bind {r:Option (Dcounter × Bool)} {f:Dcounter × Bool→Option (Dcounter × Bool)} {g1 g2:Bool} {n s1 s2:Nat} {z:Bool} (h1:NRes r g1 n s1 z)
  (hf : ∀ c,∃ c',f (c,false)=some (c',false)) (h2 : ∀ d,n + s1≤600→NRes (f (.mk ((n + s1:Nat):Int) d z,true)) g2 (n + s1) s2 z):NRes (r.bind f) (g1 && g2) n (s1 + s2) z:=by
 obtain ⟨c,rfl,hc⟩:=h1
 by_cases hg:(g1 && decide (n + s1≤600))=true
 ·obtain ⟨d,rfl⟩:=hc hg
  rw [Bool.and_eq_true,decide_eq_true_eq] at hg
  obtain ⟨h3,h4⟩:=hg
  subst h3
  simp only [h4,decide_true,Bool.and_self,Bool.true_and,Option.bind_some]
  obtain ⟨c,h5,h6⟩:=h2 d h4
  rw [Nat.add_assoc] at h5 h6
  exact ⟨c,h5,h6⟩
 ·have hg' : (g1 && decide (n + s1≤600))=false:=by simpa using hg
  rw [hg']
  obtain ⟨c',h⟩:=hf c
  refine .no h ?_
  rw [Bool.and_eq_false_iff,decide_eq_false_iff_not] at hg' ⊢
  rcases hg' with h | h
  ·left; rw [h]; rfl
  ·right; omega
theorem NRes.conv {r:Option (Dcounter × Bool)} {g g' : Bool} {n s n' s' : Nat} {z:Bool} (h:NRes r g n s z) (hs:n + s=n' + s') (hg:n + s≤600→g=g'):NRes r g' n' s' z:=by
 unfold NRes at h ⊢
 rw [← hs]
 have:(g && decide (n + s≤600))=(g' && decide (n + s≤600)):=by
  by_cases h:n + s≤600
  ·rw [hg h]
  ·simp [h]
 rwa [← this]
theorem f67_res (k:Nat) (z:Bool) (l:List DExpr) (hk:2 * szEs l + 1≤k) (n:Nat) (d:Int) (a:Nat) (hn:n≤600) (ha:a≤17):NRes (f67 k (.mk n d z) l a) (gEs z l a) n (szEs l) z :=
 (nE k z k).2 l hk n d a hn ha
theorem mget4 (kind:Int):mget qI kind (mput qI 4 0 (mput qI 3 1 (mput qI 2 2 (mput qI 1 1 ([]:List (Int × Int)))))) =
  cond (decide (kind ≥ 1) && decide (kind≤4)) (some (cond (kind == 2) 2 (cond (kind == 4) 0 1))) none:=by
 have e:mput qI 4 0 (mput qI 3 1 (mput qI 2 2 (mput qI 1 1 ([]:List (Int × Int)))))=[(1,1),(2,2),(3,1),(4,0)]:=rfl
 rw [e]
 unfold mget mget mget mget mget qI
 simp only [Bool.cond_eq_ite]
 grind
theorem f66_b_eq (k:Nat) (F:Fam45) (kind:Int) (name:ByteArray) (slot:Int) (es:List DExpr) (b:List DStmt) (a n d:Int) (z:Bool) :
  f66_b k F (.mk n d z) (.mk kind name slot es b) a=cond (decide (kind ≥ 1) && decide (kind≤4)) ((f43 k (.mk n d z) a).bind fun x=>match x with
   | (.mk n1 d1 z1,ok)=>cond (ok && (z1 || slot == 0) && nodeC kind name es.length) (f66_j1 k F es b a n1 d1 z1 false) (some (.mk n1 d1 z1,false))) (some (.mk n d z,false)):=by
 unfold f66_b
 simp only [mget4]
 by_cases hk:(decide (kind ≥ 1) && decide (kind≤4))=true
 ·simp only [hk,cond_true,mcase]
  congr 1
  funext x
  obtain ⟨⟨n1,d1,z1⟩,ok⟩:=x
  unfold f66_j1
  have hn:=@isN_ne name
  simp only [f44_eq,Option.bind_some,nodeC,hk,Bool.true_and]
  generalize (cond (kind == 2) (2:Int) (cond (kind == 4) 0 1))=e
  generalize isN name=n1 at hn ⊢
  generalize seq name ⟨#[]⟩=e1 at hn ⊢
  simp only [Bool.cond_eq_ite]
  grind (splits:=20)
 ·have hk' : (decide (kind ≥ 1) && decide (kind≤4))=false:=by simpa using hk
  simp only [hk',cond_false,mcase]
theorem argsN_len {op lo hi:Int} {bd:Bool} {l6 l7:Int} {l10:Nat} (h:argsN op lo hi bd l6 l7 l10=true):l10≤4:=by
 unfold argsN at h
 cases hop:(op == 27) <;> simp only [hop,cond_true,cond_false,Bool.and_eq_true,Bool.not_eq_true',decide_eq_true_eq,decide_eq_false_iff_not] at h <;> omega
theorem nSt (k:Nat) (z:Bool) : ∀ m,m≤k →
  (∀ s,2 * szS s≤m→∀ (n:Nat) (d:Int) (a:Nat),n≤600→a≤17→NRes ((fam45 k m).f56 (.mk n d z) s a) (gS z s a) n (szS s) z) ∧
  (∀ l,2 * szSs l + 1≤m→∀ (n:Nat) (d:Int) (a:Nat),n≤600→a≤17→NRes ((fam45 k m).f45 (.mk n d z) l a) (gSs z l a) n (szSs l) z) ∧
  (∀ c,2 * szC c≤m→∀ (n:Nat) (d:Int) (a:Nat),n≤600→a≤17→NRes ((fam45 k m).f66 (.mk n d z) c a) (gC z c a) n (szC c) z)
 | 0,_=>⟨fun e he=>by have:=szS_pos e; omega,fun l hl=>by omega,fun c hc=>by have:=szC_pos c; omega⟩
 | m + 1,hmk=>by
  obtain ⟨ihs,ihl,ihc⟩:=nSt k z m (by omega)
  refine ⟨?_,?_,?_⟩
  ·intro s hs n d a hn ha
   obtain ⟨op,name,s2,fr,s4,flag,l6,l7,l8,l9,l10⟩:=s
   simp only [szS] at hs
   show NRes (f56_b k (fam45 k m) (.mk n d z) (.mk op name s2 fr s4 flag l6 l7 l8 l9 l10) a) _ _ _ _
   have tail : ∀ (n:Nat) (d:Int),a≤16→n≤600→NRes (f56_l1 k (fam45 k m) l6 l7 l8 l9 l10 a [] l10.length n d z) (gEs z l6 (a + 1) && (gSs z l7 (a + 1) && (gSs z l8 (a + 1) && gSs z l9 (a + 1)))) n (szEs l6 + (szSs l7 + (szSs l8 + szSs l9))) z:=by
    intro n d ha hn
    unfold f56_l1
    rw [w64_nat (n:=a + 1) (by omega) (by omega)]
    refine (f67_res k z l6 (by omega) n d (a + 1) hn (by omega)).bind (fun c=>by obtain ⟨_,_,_⟩:=c; exact ⟨_,rfl⟩) fun d hn=>?_
    refine (ihl l7 (by omega) _ d (a + 1) hn (by omega)).bind (fun c=>by obtain ⟨_,_,_⟩:=c; exact ⟨_,rfl⟩) fun d hn=>?_
    refine (ihl l8 (by omega) _ d (a + 1) hn (by omega)).bind (fun c=>by obtain ⟨_,_,_⟩:=c; exact ⟨_,rfl⟩) fun d hn=>?_
    refine ((ihl l9 (by omega) _ d (a + 1) hn (by omega)).bind (g2:=true) (s2:=0) (fun c=>by obtain ⟨_,_,_⟩:=c; exact ⟨_,rfl⟩) fun d hn=>?_).conv (by omega) (fun _=>by simp)
    exact .yes rfl (by simp [hn])
   have loop:a≤16→l10.length≤4→∀ (rest:List DCase) (i:Nat) (n:Nat) (d:Int),2 * szCs rest≤m→i + rest.length=l10.length→n≤600 →
     NRes (f56_l1 k (fam45 k m) l6 l7 l8 l9 l10 a rest i n d z) (gCs z rest (a + 1) && (gEs z l6 (a + 1) && (gSs z l7 (a + 1) && (gSs z l8 (a + 1) && gSs z l9 (a + 1))))) n (szCs rest + (szEs l6 + (szSs l7 + (szSs l8 + szSs l9)))) z:=by
    intro ha h10 rest
    induction rest with
    | nil =>
     intro i n d _ hi hn
     obtain rfl:i=l10.length:=by simpa using hi
     exact (tail n d ha hn).conv (by simp [szCs]) (fun _=>by simp [gCs])
    | cons c rest ih =>
     intro i n d hm hi hn
     obtain ⟨e0,e1,e2,e3,e4⟩:=c
     simp only [szCs,List.length_cons] at hm hi
     unfold f56_l1
     rw [w64_nat (x:=(a:Int) + 1) (n:=a + 1) (by omega) (by omega),w64_nat (x:=(l10.length:Int) - 1) (n:=l10.length - 1) (by omega) (by omega)]
     have step:NRes (((fam45 k m).f66 (.mk n d z) (.mk e0 e1 e2 e3 e4) ((a + 1:Nat):Int)).bind fun q_=>match q_ with | (.mk z1467_0 z1467_1 z1467_2,r1468)=>(f56_j6 k (fam45 k m) i z1467_0 z1467_1 z1467_2 (!r1468) (f56_l1 k (fam45 k m) l6 l7 l8 l9 l10 a rest)))
       (gC z (.mk e0 e1 e2 e3 e4) (a + 1) && (gCs z rest (a + 1) && (gEs z l6 (a + 1) && (gSs z l7 (a + 1) && (gSs z l8 (a + 1) && gSs z l9 (a + 1)))))) n (szC (.mk e0 e1 e2 e3 e4) + (szCs rest + (szEs l6 + (szSs l7 + (szSs l8 + szSs l9))))) z :=
      (ihc (.mk e0 e1 e2 e3 e4) (by omega) n d (a + 1) hn (by omega)).bind (fun c=>by obtain ⟨_,_,_⟩:=c; exact ⟨_,rfl⟩) fun d hn=>ih (i + 1) _ d (by omega) (by omega) hn
     by_cases h4:(e0 == 4)=true
     ·simp only [h4,cond_true]
      by_cases hl:i < l10.length - 1
      ·have:((i:Int) < ((l10.length - 1:Nat):Int)):=by omega
       simp only [this,decide_true,cond_true]
       refine .no rfl ?_
       have:rest.isEmpty=false:=by cases rest with
        | nil=>simp at hi; omega
        | cons=>rfl
       simp [gCs,h4,this]
      ·have : ¬ ((i:Int) < ((l10.length - 1:Nat):Int)):=by omega
       simp only [this,decide_false,cond_false]
       have:rest.isEmpty=true:=by cases rest with
        | nil=>rfl
        | cons=>simp at hi; omega
       exact step.conv (by simp only [szCs]; omega) (fun _=>by simp [gCs,this,Bool.and_assoc])
     ·have h4' : (e0 == 4)=false:=by simpa using h4
      simp only [h4',cond_false]
      exact step.conv (by simp only [szCs]; omega) (fun _=>by simp [gCs,h4',Bool.and_assoc])
   unfold f56_b
   obtain ⟨L,hL⟩ : ∃ L,f64 k=some L:=⟨_,rfl⟩
   have hg:=f64_eq k op
   rw [hL] at hg ⊢
   simp only [Option.bind_some,Option.some.injEq] at hg ⊢
   rw [hg]
   cases hsh:shp op with
   | none =>
    have:nodeS op name fr flag l6.length l7.length l8.length l9.length l10.length=false:=by unfold nodeS; rw [hsh]
    refine .no (c:=.mk n d z) ?_ (by simp [gS,this])
    simp only [toN,mcase]
    unfold f56_j1
    simp only [Bool.not_false,cond_true,f56_j2_eq]
    rfl
   | some t =>
    obtain ⟨nm,frm,lo,hi,bd,fl⟩:=t
    simp only [toN,mcase,f56_j1_eq,f43_eq k n d z a hn,Option.bind_some]
    have hN:nodeN op name fr flag l6.length l7.length l8.length l9.length l10.length=(flagN op name flag l8.length l9.length && nameN nm frm name fr && argsN op lo (if hi=600 then 601 else hi) bd l6.length l7.length l10.length):=by unfold nodeN; rw [hsh]
    rw [Bool.and_assoc,Bool.and_assoc,← Bool.and_assoc (flagN _ _ _ _ _),← hN]
    have hl6:=len_szEs l6
    by_cases h1:n + 1≤600∧a≤16
    ·obtain ⟨h1,h2⟩:=h1
     by_cases h3:((s2 == 0 && s4 == 0) || z)=true
     ·by_cases h4:nodeN op name fr flag l6.length l7.length l8.length l9.length l10.length=true
      ·have h10:l10.length≤4:=by
        rw [hN] at h4
        rw [Bool.and_eq_true] at h4
        exact argsN_len h4.2
       simp only [h1,h2,h3,h4,decide_true,Bool.and_self,cond_true]
       refine (loop h2 h10 l10 0 (n + 1) (imax d a) (by omega) (by omega) h1).conv (by simp only [szS]; omega) (fun hh=>?_)
       have h5:nodeS op name fr flag l6.length l7.length l8.length l9.length l10.length=true:=by rw [← nodeNS _ _ _ _ _ _ _ _ _ (by omega)]; exact h4
       simp only [gS,h2,decide_true,h5]
       rw [Bool.or_comm] at h3
       simp only [h3,Bool.and_self,Bool.true_and]
       cases gCs z l10 (a + 1) <;> cases gEs z l6 (a + 1) <;> cases gSs z l7 (a + 1) <;> cases gSs z l8 (a + 1) <;> cases gSs z l9 (a + 1) <;> rfl
      ·have h4' : nodeN op name fr flag l6.length l7.length l8.length l9.length l10.length=false:=by simpa using h4
       simp only [h4',Bool.and_false,cond_false]
       refine .no rfl ?_
       by_cases hh:n + szS (.mk op name s2 fr s4 flag l6 l7 l8 l9 l10)≤600
       ·have h5:nodeS op name fr flag l6.length l7.length l8.length l9.length l10.length=false:=by
         rw [← nodeNS _ _ _ _ _ _ _ _ _ (by simp only [szS] at hh; omega)]; exact h4'
        simp [gS,h5]
       ·simp [hh]
     ·have h3' : ((s2 == 0 && s4 == 0) || z)=false:=by simpa using h3
      simp only [h3',Bool.false_and,Bool.and_false,cond_false]
      refine .no rfl ?_
      rw [Bool.or_comm] at h3'
      simp only [gS,h3',Bool.false_and,Bool.and_false]
    ·have h1' : (decide (n + 1≤600) && decide (a≤16))=false:=by
      simp only [Bool.and_eq_false_iff,decide_eq_false_iff_not]; omega
     simp only [h1',Bool.false_and,cond_false]
     refine .no rfl ?_
     rw [Bool.and_eq_false_iff,decide_eq_false_iff_not]
     by_cases h2:a≤16
     ·right; simp only [szS]; omega
     ·left; simp [gS,h2]
  ·intro l hl n d a hn ha
   show NRes (f45_l1 k (fam45 k m) a l 0 n d z) _ _ _ _
   have loop : ∀ (l:List DStmt) (i:Nat) (n:Nat) (d:Int),2 * szSs l≤m→n≤600→NRes (f45_l1 k (fam45 k m) a l i n d z) (gSs z l a) n (szSs l) z:=by
    intro l
    induction l with
    | nil=>intro i n d _ hn; exact .yes rfl (by simp [gSs,szSs,hn])
    | cons e l ih =>
     intro i n d hm hn
     obtain ⟨e0,e1,e2,e3,e4,e5,e6,e7,e8,e9,e10⟩:=e
     unfold f45_l1
     simp only [szSs] at hm
     exact (ihs (.mk e0 e1 e2 e3 e4 e5 e6 e7 e8 e9 e10) (by omega) n d a hn ha).bind (fun c=>by obtain ⟨_,_,_⟩:=c; exact ⟨_,rfl⟩) fun d hn=>ih (i + 1) _ d (by omega) hn
   exact loop l 0 n d (by omega) hn
  ·intro c hc n d a hn ha
   obtain ⟨kind,name,slot,es,b⟩:=c
   simp only [szC] at hc
   show NRes (f66_b k (fam45 k m) (.mk n d z) (.mk kind name slot es b) a) _ _ _ _
   rw [f66_b_eq]
   by_cases hk:(decide (kind ≥ 1) && decide (kind≤4))=true
   ·simp only [hk,cond_true]
    rw [f43_eq k n d z a hn]
    simp only [Option.bind_some]
    by_cases h1:n + 1≤600∧a≤16
    ·obtain ⟨h1,h2⟩:=h1
     by_cases h3:((z || slot == 0) && nodeC kind name es.length)=true
     ·rw [Bool.and_assoc,h3]
      simp only [h1,h2,decide_true,Bool.and_self,cond_true]
      unfold f66_j1
      simp only [cond_false]
      rw [w64_nat (x:=(a:Int) + 1) (n:=a + 1) (by omega) (by omega)]
      refine NRes.conv (g:=gEs z es (a + 1) && (gSs z b (a + 1) && true)) (n:=n + 1) (s:=szEs es + (szSs b + 0)) ?_ (by simp only [szC]; omega) (fun _=>?_)
      ·refine (f67_res k z es (by omega) (n + 1) _ (a + 1) h1 (by omega)).bind (fun c=>by obtain ⟨_,_,_⟩:=c; exact ⟨_,rfl⟩) fun d hn=>?_
       refine (ihl b (by omega) _ d (a + 1) hn (by omega)).bind (fun c=>by obtain ⟨_,_,_⟩:=c; exact ⟨_,rfl⟩) fun d hn=>?_
       exact .yes rfl (by simp [hn])
      ·simp only [gC,h2,decide_true,Bool.true_and,Bool.and_true,h3]
     ·have h3' : ((z || slot == 0) && nodeC kind name es.length)=false:=by simpa using h3
      rw [Bool.and_assoc,h3',Bool.and_false]
      refine .no rfl ?_
      rw [gC,Bool.and_assoc (decide (a≤16)),h3']
      simp
    ·have h1' : (decide (n + 1≤600) && decide (a≤16))=false:=by
      simp only [Bool.and_eq_false_iff,decide_eq_false_iff_not]; omega
     simp only [h1',Bool.false_and,cond_false]
     refine .no rfl ?_
     rw [Bool.and_eq_false_iff,decide_eq_false_iff_not]
     by_cases h2:a≤16
     ·right; simp only [szC]; omega
     ·left; simp [gC,h2]
   ·have hk' : (decide (kind ≥ 1) && decide (kind≤4))=false:=by simpa using hk
    simp only [hk',cond_false]
    exact .no rfl (by simp only [gC,nodeC,hk',Bool.false_and,Bool.and_false])
end Go.Proofs.YtoajecnoffhlbaaDoor
namespace Go.Proofs.YtoajecnoffhlbaaDoor
open Go
section
end
end Go.Proofs.YtoajecnoffhlbaaDoor
namespace Go.Proofs.YtoajecnoffhlbaaDoor
open Go
def okP:List DParam→Bool
 | []=>true
 | .mk nm kd :: l=>isN nm && decide (kd ≥ 1) && decide (kd≤6) && okP l
def headF (z:Bool) (name:ByteArray) (np:Nat) (res:Int) (f3:Bool) (s4:Int):Bool :=
 isN name && decide (np≤4) && (z || s4 == 0) && (!f3 || res == 0) && decide (res ≥ 0) && decide (res≤6)
def gFs (z:Bool):List DFunc→Bool
 | []=>true
 | .mk name ps res f3 s4 b :: l=>headF z name ps.length res f3 s4 && (okP ps && (gSs z b 1 && gFs z l))
def cnF:DFunc→Nat | .mk _ _ _ _ _ b=>szSs b + 1
def cnFs:List DFunc→Nat | []=>0 | f :: l=>cnF f + cnFs l
def wf (z:Bool):DProgram→Bool
 | .mk fs=>decide (1≤fs.length) && decide (fs.length≤16) && gFs z fs && decide (cnFs fs≤600)
section
variable (k i:Nat) (body:List DStmt) (n d:Int) (z q:Bool) (nx:Nat→Int→Int→Bool→Option (Dcounter × Bool))
theorem f34_l2_eq : ∀ (ps:List DParam) (j:Nat),f34_l2 k i body n d z nx ps j=cond (okP ps) (f34_l2 k i body n d z nx [] 0) (some (.mk n d z,false))
 | [],j=>rfl
 | .mk nm kd :: ps,j=>by
  have ih:=f34_l2_eq ps
  generalize f34_l2 k i body n d z nx [] 0=A at ih ⊢
  rw [f34_l2]
  simp only [f44_eq,f42_eq,Option.bind_some,f34_j2,ih,okP]
  cases isN nm <;> cases decide (kd ≥ 1) <;> cases decide (kd≤6) <;> rfl
theorem f34_j1_eq (ps:List DParam):f34_j1 k i ps body n d z q nx=cond (!q && okP ps) (f34_l2 k i body n d z nx [] 0) (some (.mk n d z,false)):=by
 unfold f34_j1
 rw [f34_l2_eq]
 cases q <;> rfl
end
theorem f45_res (k:Nat) (z:Bool) (l:List DStmt) (hk:2 * szSs l + 1≤k) (n:Nat) (d:Int) (a:Nat) (hn:n≤600) (ha:a≤17):NRes (f45 k (.mk n d z) l a) (gSs z l a) n (szSs l) z :=
 (nSt k z k (Nat.le_refl k)).2.1 l hk n d a hn ha
theorem f34_l1_eq (k:Nat) (name:ByteArray) (ps:List DParam) (res:Int) (f3:Bool) (s4:Int) (b:List DStmt) (l:List DFunc) (i:Nat) (n d:Int) (z:Bool) :
  f34_l1 k (.mk name ps res f3 s4 b :: l) i n d z=(f43 k (.mk n d z) 0).bind fun x=>match x with
   | (.mk n1 d1 z1,ok)=>cond (ok && headF z1 name ps.length res f3 s4 && okP ps) (f34_l2 k i b n1 d1 z1 (f34_l1 k l) [] 0) (some (.mk n1 d1 z1,false)):=by
 rw [f34_l1]
 congr 1
 funext x
 obtain ⟨⟨n1,d1,z1⟩,ok⟩:=x
 simp only [f44_eq,f42_eq,Option.bind_some,f34_j1_eq,headF]
 have e:decide ((ps.length:Int) > 4)=!decide (ps.length≤4):=by rw [← decide_not,decide_eq_decide]; omega
 rw [e]
 simp only [Bool.cond_eq_ite]
 grind (splits:=20)
theorem nFs (k:Nat) (z:Bool) : ∀ (l:List DFunc) (i:Nat) (n:Nat) (d:Int),2 * szFs l + 1≤k→n≤600→NRes (f34_l1 k l i n d z) (gFs z l) n (cnFs l) z
 | [],i,n,d,hk,hn=>.yes rfl (by simp [gFs,cnFs,hn])
 | .mk name ps res f3 s4 b :: l,i,n,d,hk,hn=>by
  simp only [szFs,szF] at hk
  rw [f34_l1_eq]
  have e0:((0:Nat):Int)=0:=rfl
  rw [← e0,f43_eq k n d z 0 hn,e0]
  simp only [Option.bind_some,Nat.zero_le,decide_true,Bool.and_true]
  by_cases h1:n + 1≤600
  ·by_cases h2:(headF z name ps.length res f3 s4 && okP ps)=true
   ·rw [Bool.and_assoc,h2]
    simp only [h1,decide_true,Bool.and_self,cond_true]
    rw [f34_l2]
    refine ((f45_res k z b (by omega) (n + 1) (imax d 0) 1 h1 (by omega)).bind (f:=fun q_=>match q_ with | (.mk z10628_0 z10628_1 z10628_2,r10629)=>(cond (!r10629) (some ((Dcounter.mk z10628_0 z10628_1 z10628_2),false)) (f34_l1 k l (i + 1) z10628_0 z10628_1 z10628_2)))
     (fun c=>by obtain ⟨_,_,_⟩:=c; exact ⟨_,rfl⟩) fun d hn=>nFs k z l (i + 1) _ d (by omega) hn).conv (by simp only [cnFs,cnF]; omega) (fun _=>?_)
    rw [Bool.and_eq_true] at h2
    simp only [gFs,h2.1,h2.2,Bool.true_and]
   ·have h2' : (headF z name ps.length res f3 s4 && okP ps)=false:=by simpa using h2
    rw [Bool.and_assoc,h2',Bool.and_false]
    refine .no rfl ?_
    rw [gFs,← Bool.and_assoc,h2']
    simp
  ·simp only [h1,decide_false,Bool.false_and,cond_false]
   refine .no rfl ?_
   have : ¬ (n + (szSs b + 1 + cnFs l)≤600):=by omega
   simp [cnFs,cnF,this]
theorem f26_eq (k:Nat) (p:DProgram) (z:Bool) (hk:2 * szP p + 1≤k):f26 k p z=some (wf z p):=by
 obtain ⟨fs⟩:=p
 simp only [szP] at hk
 unfold f26 f26_b f34 f34_b
 simp only [f42_eq,Option.bind_some]
 have e1:(decide ((fs.length:Int) ≥ 1) && decide ((fs.length:Int)≤16))=(decide (1≤fs.length) && decide (fs.length≤16)):=by
  congr 1
  ·rw [decide_eq_decide]; omega
  ·rw [decide_eq_decide]; omega
 rw [e1]
 by_cases h:(decide (1≤fs.length) && decide (fs.length≤16))=true
 ·rw [h]
  simp only [Bool.not_true,cond_false]
  obtain ⟨c,h1,h2⟩:=nFs k z fs 0 0 0 (by omega) (by omega)
  have e0:((0:Nat):Int)=0:=rfl
  rw [e0] at h1
  rw [h1]
  obtain ⟨_,_,_⟩:=c
  simp only [Option.bind_some,wf,h,Nat.zero_add,Bool.true_and]
 ·have h' : (decide (1≤fs.length) && decide (fs.length≤16))=false:=by simpa using h
  rw [h']
  simp only [Bool.not_false,cond_true,Option.bind_some,wf,h',Bool.false_and]
section
end
mutual
def stS:DStmt→DStmt | .mk op name _ fr _ flag l6 l7 l8 l9 l10=>.mk op name 0 fr 0 flag (stEs l6) (stSs l7) (stSs l8) (stSs l9) (stCs l10)
def stSs:List DStmt→List DStmt | []=>[] | s :: l=>stS s :: stSs l
def stC:DCase→DCase | .mk kind name _ es b=>.mk kind name 0 (stEs es) (stSs b)
def stCs:List DCase→List DCase | []=>[] | c :: l=>stC c :: stCs l
end
def stF:DFunc→DFunc | .mk name ps res f3 _ b=>.mk name ps res f3 0 (stSs b)
def stFs:List DFunc→List DFunc | []=>[] | f :: l=>stF f :: stFs l
def stP:DProgram→DProgram | .mk fs=>.mk (stFs fs)
theorem stSs_len : ∀ l,(stSs l).length=l.length
 | []=>rfl
 | e :: l=>by simp [stSs,stSs_len l]
theorem stCs_len : ∀ l,(stCs l).length=l.length
 | []=>rfl
 | e :: l=>by simp [stCs,stCs_len l]
theorem stFs_len : ∀ l,(stFs l).length=l.length
 | []=>rfl
 | e :: l=>by simp [stFs,stFs_len l]
mutual
theorem szS_st : ∀ e,szS (stS e)=szS e
 | .mk _ _ _ _ _ _ _ l7 l8 l9 l10=>by simp only [stS,szS,szEs_st,szSs_st l7,szSs_st l8,szSs_st l9,szCs_st l10]
theorem szSs_st : ∀ l,szSs (stSs l)=szSs l
 | []=>rfl
 | e :: l=>by simp only [stSs,szSs,szS_st e,szSs_st l]
theorem szC_st : ∀ e,szC (stC e)=szC e
 | .mk _ _ _ _ b=>by simp only [stC,szC,szEs_st,szSs_st b]
theorem szCs_st : ∀ l,szCs (stCs l)=szCs l
 | []=>rfl
 | e :: l=>by simp only [stCs,szCs,szC_st e,szCs_st l]
end
mutual
theorem gS_st : ∀ e a,gS false (stS e) a=gS true e a
 | .mk _ _ _ _ _ _ _ l7 l8 l9 l10,a=>by simp [stS,gS,gEs_st,gSs_st l7,gSs_st l8,gSs_st l9,gCs_st l10,stEs_len,stSs_len,stCs_len]
theorem gSs_st : ∀ l a,gSs false (stSs l) a=gSs true l a
 | [],_=>rfl
 | e :: l,a=>by simp only [stSs,gSs,gS_st e,gSs_st l]
theorem gC_st : ∀ e a,gC false (stC e) a=gC true e a
 | .mk _ _ _ _ b,a=>by simp [stC,gC,gEs_st,gSs_st b,stEs_len]
theorem gCs_st : ∀ l a,gCs false (stCs l) a=gCs true l a
 | [],_=>rfl
 | .mk k nm s es b :: l,a=>by
  have h:=gC_st (.mk k nm s es b) a
  simp only [stC] at h
  have e:(stCs l).isEmpty=l.isEmpty:=by cases l <;> rfl
  simp only [stCs,stC,gCs,h,gCs_st l,e]
end
theorem szFs_st : ∀ l,szFs (stFs l)=szFs l
 | []=>rfl
 | .mk _ _ _ _ _ b :: l=>by simp only [stFs,stF,szFs,szF,szSs_st,szFs_st l]
theorem cnFs_st : ∀ l,cnFs (stFs l)=cnFs l
 | []=>rfl
 | .mk _ _ _ _ _ b :: l=>by simp only [stFs,stF,cnFs,cnF,szSs_st,cnFs_st l]
theorem gFs_st : ∀ l,gFs false (stFs l)=gFs true l
 | []=>rfl
 | .mk _ _ _ _ _ b :: l=>by simp [stFs,stF,gFs,gSs_st,gFs_st l,headF]
theorem szP_st : ∀ p,szP (stP p)=szP p
 | .mk fs=>by simp only [stP,szP,szFs_st]
theorem wf_st : ∀ p,wf false (stP p)=wf true p
 | .mk fs=>by simp only [stP,wf,gFs_st,stFs_len,cnFs_st]
end Go.Proofs.YtoajecnoffhlbaaDoor
namespace Go.Proofs.YtoajecnoffhlbaaDoor
open Go
def maxB:Nat:=140737488355328
mutual
def fitE:DExpr→Prop | .mk _ _ _ _ l=>l.length * 64≤maxB∧fitEs l
def fitEs:List DExpr→Prop | []=>True | e :: l=>fitE e∧fitEs l
end
mutual
def fitS:DStmt→Prop | .mk _ _ _ _ _ _ l6 l7 l8 l9 l10=>(l6.length * 64≤maxB∧fitEs l6)∧(l7.length * 184≤maxB∧fitSs l7)∧(l8.length * 184≤maxB∧fitSs l8)∧(l9.length * 184≤maxB∧fitSs l9)∧(l10.length * 80≤maxB∧fitCs l10)
def fitSs:List DStmt→Prop | []=>True | e :: l=>fitS e∧fitSs l
def fitC:DCase→Prop | .mk _ _ _ l b=>(l.length * 64≤maxB∧fitEs l)∧(b.length * 184≤maxB∧fitSs b)
def fitCs:List DCase→Prop | []=>True | e :: l=>fitC e∧fitCs l
end
def fitF:DFunc→Prop | .mk _ ps _ _ _ b=>ps.length * 24≤maxB∧(b.length * 184≤maxB∧fitSs b)
def fitFs:List DFunc→Prop | []=>True | e :: l=>fitF e∧fitFs l
def fitP:DProgram→Prop | .mk fs=>fs.length * 88≤maxB∧fitFs fs
theorem guard_le {α:Type} {a:Nat} {x:Option α} (h:a≤maxB):guardB (decide (a≤140737488355328)) x=x:=by
 unfold maxB at h; unfold guardB; rw [decide_eq_true h]; rfl
theorem app_len {α:Type} (xs:List α) (e:α):(xs ++ [e]).length=xs.length + 1:=by simp
theorem cE (k:Nat) : ∀ m,(∀ e,2 * szE e≤m→fitE e→(fam1005331 k m).f1005931 e=some (stE e)) ∧
  (∀ l,2 * szEs l + 1≤m→l.length * 64≤maxB→fitEs l→(fam1005331 k m).f1005331 l=some (stEs l))
 | 0=>⟨fun e h=>by have:=szE_pos e; omega,fun l h=>by omega⟩
 | m + 1=>by
  obtain ⟨ihe,ihl⟩:=cE k m
  constructor
  ·intro e h hf
   obtain ⟨e0,e1,e2,e3,e4⟩:=e
   simp only [szE,fitE] at h hf
   show f1005931_b k (fam1005331 k m) (.mk e0 e1 e2 e3 e4)=_
   unfold f1005931_b
   simp only
   rw [ihl e4 (by omega) hf.1 hf.2]
   simp [f51,f51_b,stE]
  ·intro l h hl hf
   show f1005331_l1 k (fam1005331 k m) l 0 []=_
   have loop : ∀ (l:List DExpr) (i:Nat) (xs:List DExpr),2 * szEs l≤m→(xs.length + l.length) * 64≤maxB→fitEs l→f1005331_l1 k (fam1005331 k m) l i xs=some (xs ++ stEs l):=by
    intro l
    induction l with
    | nil=>intro i xs _ _ _; simp [f1005331_l1,stEs]
    | cons e l ih =>
     intro i xs hm hl hf
     obtain ⟨e0,e1,e2,e3,e4⟩:=e
     simp only [szEs,fitEs,List.length_cons] at hm hl hf
     unfold f1005331_l1
     rw [ihe (.mk e0 e1 e2 e3 e4) (by omega) hf.1]
     simp only [Option.bind_some,stE]
     rw [guard_le (by omega),ih (i + 1) _ (by omega) (by rw [app_len]; omega) hf.2]
     simp [stEs,stE]
   exact loop l 0 [] (by omega) (by simpa using hl) hf
theorem f40_eq (k:Nat) : ∀ m l,szSs l + 1≤m→2 * szSs l + 1≤k→l.length * 184≤maxB→fitSs l→(fam40 k m).f40 l false=some (stSs l)
 | 0,l,h,_,_,_=>by omega
 | m + 1,l,h,hk,hl,hf=>by
  show f40_l3 k (fam40 k m) false l 0 []=some (stSs l)
  have cs : ∀ (xs:List DStmt) (i:Nat) (e0:Int) (e1:ByteArray) (e3:ByteArray) (e5 n1 n2:Int) (r6:List DExpr) (r7 r8 r9:List DStmt) (nx:Nat→List DStmt→Option (List DStmt)) (l:List DCase) (j:Nat) (ys:List DCase),szCs l≤m→2 * szCs l≤k →
    (ys.length + l.length) * 80≤maxB→(xs.length + 1) * 184≤maxB→fitCs l→f40_l4 k (fam40 k m) false xs i e0 e1 e3 e5 n1 n2 r6 r7 r8 r9 nx l j ys=nx (i + 1) (xs ++ [.mk e0 e1 n1 e3 n2 e5 r6 r7 r8 r9 (ys ++ stCs l)]):=by
   intro xs i e0 e1 e3 e5 n1 n2 r6 r7 r8 r9 nx l
   induction l with
   | nil=>intro j ys _ _ _ hx _; unfold f40_l4; rw [guard_le hx]; simp [stCs]
   | cons c l ih =>
    intro j ys hm hk hl hx hf
    obtain ⟨c0,c1,c2,c3,c4⟩:=c
    simp only [szCs,szC,fitCs,fitC,List.length_cons] at hm hl hf hk
    unfold f40_l4 f40_j4 f1005331
    rw [(cE k k).2 c3 (by omega) hf.1.1.1 hf.1.1.2]
    simp only [Bool.not_false,cond_true,Option.bind_some]
    rw [f40_eq k m c4 (by omega) (by omega) hf.1.2.1 hf.1.2.2]
    simp only [Option.bind_some]
    rw [guard_le (by omega),ih (j + 1) _ (by omega) (by omega) (by rw [app_len]; omega) hx hf.2]
    simp [stCs,stC]
  have loop : ∀ (l:List DStmt) (i:Nat) (xs:List DStmt),szSs l≤m→2 * szSs l≤k→(xs.length + l.length) * 184≤maxB→fitSs l→f40_l3 k (fam40 k m) false l i xs=some (xs ++ stSs l):=by
   intro l
   induction l with
   | nil=>intro i xs _ _ _ _; simp [f40_l3,stSs]
   | cons e l ih =>
    intro i xs hm hk hl hf
    obtain ⟨e0,e1,e2,e3,e4,e5,e6,e7,e8,e9,e10⟩:=e
    simp only [szSs,szS,fitSs,fitS,List.length_cons] at hm hl hf hk
    obtain ⟨⟨⟨h6,h6'⟩,⟨h7,h7'⟩,⟨h8,h8'⟩,⟨h9,h9'⟩,h10,h10'⟩,hf⟩:=hf
    unfold f40_l3 f40_j3 f1005331
    rw [(cE k k).2 e6 (by omega) h6 h6',f40_eq k m e7 (by omega) (by omega) h7 h7',f40_eq k m e8 (by omega) (by omega) h8 h8',f40_eq k m e9 (by omega) (by omega) h9 h9']
    simp only [Bool.not_false,cond_true,Option.bind_some]
    rw [cs xs i e0 e1 e3 e5 _ _ _ _ _ _ _ e10 0 [] (by omega) (by omega) (by simpa using h10) (by omega) h10',ih (i + 1) _ (by omega) (by omega) (by rw [app_len]; omega) hf]
    simp [stSs,stS]
  exact loop l 0 [] (by omega) (by omega) (by simpa using hl) hf
theorem f31_eq (k:Nat) (p:DProgram) (hk:2 * szP p + 1≤k) (hf:fitP p):f31 k p false=some (stP p):=by
 obtain ⟨fs⟩:=p
 simp only [szP,fitP] at hk hf
 show f31_l1 k false fs 0 []=some (.mk (stFs fs))
 have loop : ∀ (l:List DFunc) (i:Nat) (xs:List DFunc),2 * szFs l + 1≤k→(xs.length + l.length) * 88≤maxB→fitFs l→f31_l1 k false l i xs=some (.mk (xs ++ stFs l)):=by
  intro l
  induction l with
  | nil=>intro i xs _ _ _; simp [f31_l1,stFs]
  | cons e l ih =>
   intro i xs hk hl hf
   obtain ⟨e0,e1,e2,e3,e4,e5⟩:=e
   simp only [szFs,szF,fitFs,fitF,List.length_cons] at hk hl hf
   unfold f31_l1 f31_j1 f38 f40
   rw [guard_le hf.1.1,f40_eq k k e5 (by omega) (by omega) hf.1.2.1 hf.1.2.2]
   simp only [Bool.not_false,cond_true,Option.bind_some]
   rw [guard_le (by omega),ih (i + 1) _ (by omega) (by rw [app_len]; omega) hf.2]
   simp [stFs,stF]
 exact loop fs 0 [] (by omega) (by simpa using hf.1) hf.2
theorem idxO_mid {α:Type} (xs:List α) (e:α) (l:List α) (i:Int) (hi:i=(xs.length:Int)):idxO (xs ++ e :: l) i=some e:=by
 subst hi
 unfold idxO
 rw [if_pos (by omega)]
 simp
end Go.Proofs.YtoajecnoffhlbaaDoor
namespace Go.Proofs.YtoajecnoffhlbaaDoor
open Go
theorem seq_refl (a:ByteArray):seq a a=true:=by unfold seq; simp
theorem sameE (k:Nat) : ∀ m,(∀ e,2 * szE e≤m→(fam32 k m).f41 e e=some true)∧(∀ l,2 * szEs l + 1≤m→(fam32 k m).f32 l l=some true)
 | 0=>⟨fun e h=>by have:=szE_pos e; omega,fun l h=>by omega⟩
 | m + 1=>by
  obtain ⟨ihe,ihl⟩:=sameE k m
  constructor
  ·intro e h
   obtain ⟨e0,e1,e2,e3,e4⟩:=e
   simp only [szE] at h
   show f41_b k (fam32 k m) (.mk e0 e1 e2 e3 e4) (.mk e0 e1 e2 e3 e4)=_
   unfold f41_b f41_j1
   simp only
   rw [ihl e4 (by omega)]
   simp [seq_refl]
  ·intro l h
   show f32_b k (fam32 k m) l l=_
   unfold f32_b
   have loop : ∀ (l:List DExpr) (xs:List DExpr),2 * szEs l≤m→f32_l1 k (fam32 k m) (xs ++ l) l xs.length=some true:=by
    intro l
    induction l with
    | nil=>intro xs _; rfl
    | cons e l ih =>
     intro xs hm
     simp only [szEs] at hm
     obtain ⟨e0,e1,e2,e3,e4⟩:=e
     unfold f32_l1
     rw [idxO_mid xs (.mk e0 e1 e2 e3 e4) l _ rfl]
     simp only [Option.bind_some]
     rw [ihe _ (by omega)]
     have:=ih (xs ++ [.mk e0 e1 e2 e3 e4]) (by omega)
     rw [app_len,List.append_assoc,List.singleton_append] at this
     simp only [Option.bind_some,Bool.not_true,cond_false]
     exact this
   have:=loop l [] (by omega)
   simp only [List.nil_append,List.length_nil] at this
   simp [this]
theorem sameS (k:Nat) : ∀ m l,szSs l + 1≤m→2 * szSs l + 1≤k→(fam19 k m).f19 l l=some true
 | 0,l,h,_=>by omega
 | m + 1,l,h,hk=>by
  show f19_b k (fam19 k m) l l=_
  unfold f19_b
  have cs : ∀ (i:Nat) (nx:Nat→Option Bool) (l:List DCase) (xs:List DCase),szCs l≤m→2 * szCs l≤k→f19_l2 k (fam19 k m) i (xs ++ l) nx l xs.length=nx (i + 1):=by
   intro i nx l
   induction l with
   | nil=>intro xs _ _; rfl
   | cons e l ih =>
    intro xs hm hk
    obtain ⟨e0,e1,e2,e3,e4⟩:=e
    simp only [szCs,szC] at hm hk
    unfold f19_l2
    rw [idxO_mid xs (.mk e0 e1 e2 e3 e4) l _ rfl]
    simp only [Option.bind_some]
    unfold f19_j4 f19_j5 f32
    rw [(sameE k k).2 e3 (by omega),sameS k m e4 (by omega) (by omega)]
    have:=ih (xs ++ [.mk e0 e1 e2 e3 e4]) (by omega) (by omega)
    rw [app_len,List.append_assoc,List.singleton_append] at this
    simp [seq_refl,this]
  have loop : ∀ (l:List DStmt) (xs:List DStmt),szSs l≤m→2 * szSs l≤k→f19_l1 k (fam19 k m) (xs ++ l) l xs.length=some true:=by
   intro l
   induction l with
   | nil=>intro xs _ _; rfl
   | cons e l ih =>
    intro xs hm hk
    obtain ⟨e0,e1,e2,e3,e4,e5,e6,e7,e8,e9,e10⟩:=e
    simp only [szSs,szS] at hm hk
    unfold f19_l1
    rw [idxO_mid xs (.mk e0 e1 e2 e3 e4 e5 e6 e7 e8 e9 e10) l _ rfl]
    simp only [Option.bind_some]
    unfold f19_j1 f19_j2 f19_j3 f32
    rw [(sameE k k).2 e6 (by omega),sameS k m e7 (by omega) (by omega),sameS k m e8 (by omega) (by omega),sameS k m e9 (by omega) (by omega)]
    have:=ih (xs ++ [.mk e0 e1 e2 e3 e4 e5 e6 e7 e8 e9 e10]) (by omega) (by omega)
    rw [app_len,List.append_assoc,List.singleton_append] at this
    have hc:=cs xs.length (f19_l1 k (fam19 k m) (xs ++ .mk e0 e1 e2 e3 e4 e5 e6 e7 e8 e9 e10 :: l) l) e10 [] (by omega) (by omega)
    simp only [List.nil_append,List.length_nil] at hc
    simp [seq_refl,hc,this]
  have:=loop l [] (by omega) (by omega)
  simp only [List.nil_append,List.length_nil] at this
  simp [this]
theorem f9_eq (k:Nat) (p:DProgram) (hk:2 * szP p + 1≤k):f9 k p p=some true:=by
 obtain ⟨fs⟩:=p
 simp only [szP] at hk
 unfold f9 f9_b
 simp only
 have ps : ∀ (i:Nat) (nx:Nat→Option Bool) (l:List DParam) (xs:List DParam),f9_l2 k i (xs ++ l) nx l xs.length=nx (i + 1):=by
  intro i nx l
  induction l with
  | nil=>intro xs; rfl
  | cons e l ih =>
   intro xs
   obtain ⟨e0,e1⟩:=e
   unfold f9_l2
   rw [idxO_mid xs (.mk e0 e1) l _ rfl]
   have:=ih (xs ++ [.mk e0 e1])
   rw [app_len,List.append_assoc,List.singleton_append] at this
   simp [seq_refl,this]
 have loop : ∀ (l:List DFunc) (xs:List DFunc),2 * szFs l + 1≤k→f9_l1 k (xs ++ l) l xs.length=some true:=by
  intro l
  induction l with
  | nil=>intro xs _; rfl
  | cons e l ih =>
   intro xs hk
   obtain ⟨e0,e1,e2,e3,e4,e5⟩:=e
   simp only [szFs,szF] at hk
   unfold f9_l1
   rw [idxO_mid xs (.mk e0 e1 e2 e3 e4 e5) l _ rfl]
   simp only [Option.bind_some]
   unfold f9_j1 f9_j2 f19
   rw [sameS k k e5 (by omega) (by omega)]
   have:=ih (xs ++ [.mk e0 e1 e2 e3 e4 e5]) (by omega)
   rw [app_len,List.append_assoc,List.singleton_append] at this
   have hp:=ps xs.length (f9_l1 k (xs ++ .mk e0 e1 e2 e3 e4 e5 :: l) l) e1 []
   simp only [List.nil_append,List.length_nil] at hp
   simp [seq_refl,hp,this]
 have:=loop fs [] (by omega)
 simp only [List.nil_append,List.length_nil] at this
 simp [this]
theorem f33_tot (k:Nat) : ∀ m l (a:Int),szEs l + 1≤m→∃ r,(fam33 k m).f33 l a=some r
 | 0,l,a,h=>by omega
 | m + 1,l,a,h=>by
  show ∃ r,f33_b k (fam33 k m) l a=some r
  unfold f33_b
  have loop : ∀ (l:List DExpr) (i:Nat) (n:Int),szEs l≤m→∃ r,f33_l1 k (fam33 k m) a l i n=some r:=by
   intro l
   induction l with
   | nil=>intro i n _; exact ⟨_,rfl⟩
   | cons e l ih =>
    intro i n hm
    obtain ⟨e0,e1,e2,e3,e4⟩:=e
    simp only [szEs,szE] at hm
    unfold f33_l1
    cases decide (n≤2000)
    ·exact ⟨_,rfl⟩
    ·obtain ⟨r,hr⟩:=f33_tot k m e4 (w64 (a + 1)) (by omega)
     rw [hr]
     exact ih _ _ (by omega)
  cases decide (a > 60)
  ·exact loop l 0 0 (by omega)
  ·exact ⟨_,rfl⟩
theorem f23_tot (k:Nat) : ∀ m l (a:Int),szSs l + 1≤m→szSs l + 1≤k→∃ r,(fam23 k m).f23 l a=some r
 | 0,l,a,h,_=>by omega
 | m + 1,l,a,h,hk=>by
  show ∃ r,f23_b k (fam23 k m) l a=some r
  unfold f23_b
  have cs : ∀ (i:Nat) (nx:Nat→Int→Option Int) (hnx : ∀ n,∃ r,nx (i + 1) n=some r) (l:List DCase) (j:Nat) (n:Int),szCs l≤m→szCs l≤k→∃ r,f23_l2 k (fam23 k m) a i nx l j n=some r:=by
   intro i nx hnx l
   induction l with
   | nil=>intro j n _ _; exact hnx _
   | cons e l ih =>
    intro j n hm hk
    obtain ⟨e0,e1,e2,e3,e4⟩:=e
    simp only [szCs,szC] at hm hk
    unfold f23_l2 f33
    cases decide (n≤2000)
    ·exact hnx _
    ·obtain ⟨r,hr⟩:=f33_tot k k e3 (w64 (a + 1)) (by omega)
     obtain ⟨r2,hr2⟩:=f23_tot k m e4 (w64 (a + 1)) (by omega) (by omega)
     rw [hr,cond_true,Option.bind_some,hr2]
     exact ih _ _ (by omega) (by omega)
  have loop : ∀ (l:List DStmt) (i:Nat) (n:Int),szSs l≤m→szSs l≤k→∃ r,f23_l1 k (fam23 k m) a l i n=some r:=by
   intro l
   induction l with
   | nil=>intro i n _ _; exact ⟨_,rfl⟩
   | cons e l ih =>
    intro i n hm hk
    obtain ⟨e0,e1,e2,e3,e4,e5,e6,e7,e8,e9,e10⟩:=e
    simp only [szSs,szS] at hm hk
    unfold f23_l1 f33
    cases decide (n≤2000)
    ·exact ⟨_,rfl⟩
    ·obtain ⟨r,hr⟩:=f33_tot k k e6 (w64 (a + 1)) (by omega)
     obtain ⟨r7,hr7⟩:=f23_tot k m e7 (w64 (a + 1)) (by omega) (by omega)
     obtain ⟨r8,hr8⟩:=f23_tot k m e8 (w64 (a + 1)) (by omega) (by omega)
     obtain ⟨r9,hr9⟩:=f23_tot k m e9 (w64 (a + 1)) (by omega) (by omega)
     rw [hr,cond_true,Option.bind_some,hr7,Option.bind_some,hr8,Option.bind_some,hr9]
     exact cs i _ (fun n=>ih _ _ (by omega) (by omega)) e10 0 _ (by omega) (by omega)
  cases decide (a > 40)
  ·exact loop l 0 0 (by omega) (by omega)
  ·exact ⟨_,rfl⟩
theorem f5_tot (k:Nat) (p:DProgram) (hk:2 * szP p + 1≤k) : ∃ b,f5 k p=some b:=by
 obtain ⟨fs⟩:=p
 simp only [szP] at hk
 have loop : ∀ (l:List DFunc) (i:Nat) (n:Int),szFs l + 1≤k→∃ r,f12_l1 k l i n=some r:=by
  intro l
  induction l with
  | nil=>intro i n _; exact ⟨_,rfl⟩
  | cons e l ih =>
   intro i n hk
   obtain ⟨e0,e1,e2,e3,e4,e5⟩:=e
   simp only [szFs,szF] at hk
   unfold f12_l1 f23
   cases decide (n≤2000)
   ·exact ⟨_,rfl⟩
   ·obtain ⟨r,hr⟩:=f23_tot k k e5 0 (by omega) (by omega)
    rw [hr]
    exact ih _ _ (by omega)
 obtain ⟨r,hr⟩:=loop fs 0 0 (by omega)
 exact ⟨r,by unfold f5 f5_b f12 f12_b; simp [hr]⟩
theorem f6_eq (k:Nat):f6 (k + 100)=some true:=by kernel_rfl
theorem f8_eq (k:Nat) (p:DProgram) (hk:2 * szP p + 1≤k) (hf:fitP p):f8 k p=some (cond (wf true p) (stP p,0) (.mk [],2)):=by
 have h78:=f26_eq k p true hk
 have h88:=f31_eq k p hk hf
 obtain ⟨fs⟩:=p
 unfold f8 f8_b f1001456 f1001704 f1001704_b f18 f18_b
 simp only [h78,h88,Option.bind_some]
 cases hw:wf true (.mk fs) <;> rfl
end Go.Proofs.YtoajecnoffhlbaaDoor
namespace Go.Proofs.YtoajecnoffhlbaaDoor
open Go
abbrev Ex (α:Type):=Except Int α
def slotOf (nm:List ByteArray) (vis:List Nat) (a:ByteArray):Option Nat :=
 vis.find? fun v=>match nm[v]? with | some b=>seq b a | none=>false
mutual
def uE (nm:List ByteArray) (vis:List Nat):DExpr→Ex DExpr
 | .mk op num txt slot l=>match uEs nm vis l with
  | .error c=>.error c
  | .ok l'=>cond (op == 4) (match slotOf nm vis txt with | none=>.error 20 | some v=>.ok (.mk op num txt (v:Int) l')) (.ok (.mk op num txt 0 l'))
def uEs (nm:List ByteArray) (vis:List Nat):List DExpr→Ex (List DExpr)
 | []=>.ok []
 | e :: l=>match uE nm vis e with
  | .error c=>.error c
  | .ok e'=>match uEs nm vis l with
   | .error c=>.error c
   | .ok l'=>.ok (e' :: l')
end
def lkU (a:ByteArray):List (List (ByteArray × Int))→Option Int
 | []=>none
 | d :: sc=>match mget seq a d with
  | some v=>some v
  | none=>lkU a sc
def okV (nm:List ByteArray) (vis:List Nat):Prop:=∀ v ∈ vis,v < nm.length
structure Rel (sc:List (List (ByteArray × Int))) (vis:List Nat) (nm:List ByteArray):Prop where
 look : ∀ a,lkU a sc=(slotOf nm vis a).map (fun (v:Nat)=>(v:Int))
 ok:okV nm vis
theorem f46_eq (k:Nat) (p:List DFunc) (f:DFunc) (nm:List ByteArray) (sc:List (List (ByteArray × Int))) (lo:Int) (a:ByteArray) :
  f46 k (.mk (.mk p) f nm sc lo) a=some (match lkU a sc with | some v=>(v,true) | none=>(0,false)):=by
 obtain ⟨f0,f1,f2,f3,f4,f5⟩:=f
 have h : ∀ (sc:List (List (ByteArray × Int))) (i:Nat),f46_l1 k a sc i=some (match lkU a sc with | some v=>(v,true) | none=>(0,false)):=by
  intro sc
  induction sc with
  | nil=>intro i; rfl
  | cons d sc ih =>
   intro i
   unfold f46_l1 lkU
   rw [ih]
   cases mget seq a d <;> rfl
 exact h sc 0
theorem Rel.f46 {k:Nat} {p:List DFunc} {f:DFunc} {nm:List ByteArray} {sc:List (List (ByteArray × Int))} {lo:Int} {vis:List Nat} (R:Rel sc vis nm) (a:ByteArray) :
  Go.Proofs.YtoajecnoffhlbaaDoor.f46 k (.mk (.mk p) f nm sc lo) a=some (match slotOf nm vis a with | some v=>((v:Int),true) | none=>(0,false)):=by
 rw [f46_eq,R.look]
 cases slotOf nm vis a <;> rfl
theorem f25_eq (k:Nat) (b:Bool) (c:Int):f25 k b c=some (cond b (.ok ()) (.error c)):=by cases b <;> rfl
theorem nU (k:Nat) (p:List DFunc) (f:DFunc) {nm:List ByteArray} {sc:List (List (ByteArray × Int))} (lo:Int) {vis:List Nat} (R:Rel sc vis nm) : ∀ m,
  (∀ e,2 * szE e≤m→szE e≤100000→(fam1005323 k m).f1005923 e (.mk (.mk p) f nm sc lo)=some (uE nm vis e)) ∧
  (∀ l,2 * szEs l + 1≤m→szEs l≤100000→(fam1005323 k m).f1005323 l (.mk (.mk p) f nm sc lo)=some (uEs nm vis l))
 | 0=>⟨fun e h=>by have:=szE_pos e; omega,fun l h=>by omega⟩
 | m + 1=>by
  obtain ⟨ihe,ihl⟩:=nU k p f lo R m
  constructor
  ·intro e h hb
   obtain ⟨op,num,txt,slot,l⟩:=e
   obtain ⟨f0,f1,f2,f3,f4,f5⟩:=f
   simp only [szE] at h hb
   show f1005923_b k (fam1005323 k m) (.mk op num txt slot l) (.mk (.mk p) (.mk f0 f1 f2 f3 f4 f5) nm sc lo)=_
   unfold f1005923_b uE
   simp only
   rw [ihl l (by omega) (by omega)]
   simp only [Option.bind_some]
   cases uEs nm vis l with
   | error c=>rfl
   | ok l' =>
    simp only
    unfold f1005718 f1005718_b
    simp only
    rw [R.f46]
    simp only [Option.bind_some,f25_eq,bne]
    cases (op == 4) <;> cases slotOf nm vis txt <;> rfl
  ·intro l h hb
   obtain ⟨f0,f1,f2,f3,f4,f5⟩:=f
   show f1005323_l1 k (fam1005323 k m) p f0 f1 f2 f3 f4 f5 nm sc lo l 0 []=_
   have loop : ∀ (l:List DExpr) (i:Nat) (xs:List DExpr),2 * szEs l≤m→xs.length + szEs l≤100000→f1005323_l1 k (fam1005323 k m) p f0 f1 f2 f3 f4 f5 nm sc lo l i xs=some (match uEs nm vis l with | .error c=>.error c | .ok l'=>.ok (xs ++ l')):=by
    intro l
    induction l with
    | nil=>intro i xs _ _; simp [f1005323_l1,uEs]
    | cons e l ih =>
     intro i xs hm hx
     obtain ⟨e0,e1,e2,e3,e4⟩:=e
     simp only [szEs] at hm hx
     have hp:=szE_pos (.mk e0 e1 e2 e3 e4)
     unfold f1005323_l1 uEs
     rw [ihe (.mk e0 e1 e2 e3 e4) (by omega) (by omega)]
     simp only [Option.bind_some]
     cases uE nm vis (.mk e0 e1 e2 e3 e4) with
     | error c=>rfl
     | ok e' =>
      obtain ⟨r0,r1,r2,r3,r4⟩:=e'
      simp only
      rw [guard_le (by unfold maxB; omega),ih (i + 1) _ (by omega) (by rw [app_len]; omega)]
      cases uEs nm vis l with
      | error c=>rfl
      | ok l'=>simp
   rw [loop l 0 [] (by omega) (by simpa using hb)]
   cases uEs nm vis l <;> simp
theorem f47_eq (k:Nat) (p:List DFunc) (f:DFunc) {nm:List ByteArray} {sc:List (List (ByteArray × Int))} (lo:Int) {vis:List Nat} (R:Rel sc vis nm) (l:List DExpr) (hk:2 * szEs l + 1≤k) (hb:szEs l≤100000) :
  f47 k (.mk (.mk p) f nm sc lo) l=some (uEs nm vis l):=by
 have h:=(nU k p f lo R k).2 l hk hb
 obtain ⟨f0,f1,f2,f3,f4,f5⟩:=f
 unfold f47 f47_b f1005323
 simp only
 rw [h]
 cases uEs nm vis l <;> rfl
theorem uE_err {nm:List ByteArray} {vis:List Nat} : ∀ m,(∀ e c,szE e≤m→uE nm vis e=.error c→c=20)∧(∀ l c,szEs l≤m→uEs nm vis l=.error c→c=20)
 | 0=>⟨fun e c h=>by have:=szE_pos e; omega,fun l c h hu=>by
   cases l with
   | nil=>cases hu
   | cons e l=>have:=szE_pos e; simp only [szEs] at h; omega⟩
 | m + 1=>by
  obtain ⟨ihe,ihl⟩:=uE_err (nm:=nm) (vis:=vis) m
  have he : ∀ e c,szE e≤m + 1→uE nm vis e=.error c→c=20:=by
   intro e c h hu
   obtain ⟨op,num,txt,slot,l⟩:=e
   simp only [szE] at h
   unfold uE at hu
   cases hl:uEs nm vis l with
   | error c'=>rw [hl] at hu; have:=ihl l c' (by omega) hl; cases hu; exact this
   | ok l' =>
    rw [hl] at hu
    cases h4:(op == 4) <;> rw [h4] at hu
    ·cases hu
    ·cases hs:slotOf nm vis txt <;> simp only [hs,cond_true] at hu <;> cases hu
     rfl
  refine ⟨he,?_⟩
  intro l
  induction l with
  | nil=>intro c _ hu; cases hu
  | cons e l ih =>
   intro c h hu
   simp only [szEs] at h
   unfold uEs at hu
   cases he' : uE nm vis e with
   | error c'=>rw [he'] at hu; have:=he e c' (by omega) he'; cases hu; exact this
   | ok e' =>
    rw [he'] at hu
    cases hl:uEs nm vis l with
    | error c'=>rw [hl] at hu; have:=ih c' (by omega) hl; cases hu; exact this
    | ok l'=>rw [hl] at hu; cases hu
theorem uEs_20 {nm:List ByteArray} {vis:List Nat} {e:List DExpr} {c:Int} (h:uEs nm vis e=.error c):c=20:=(uE_err _).2 e c (Nat.le_refl _) h
end Go.Proofs.YtoajecnoffhlbaaDoor
namespace Go.Proofs.YtoajecnoffhlbaaDoor
open Go
def eb {α β:Type} (u:Ex α) (f:α→Ex β):Ex β:=match u with | .error c=>.error c | .ok x=>f x
def eb3 {α β:Type} (u:Ex (List ByteArray × List Nat × α)) (f:List ByteArray→List Nat→α→Ex β):Ex β:=match u with | .error c=>.error c | .ok (a,b,x)=>f a b x
def uMk (nm:List ByteArray) (vis:List Nat) (a:ByteArray):Ex (List ByteArray × List Nat × Int) :=
 match slotOf nm vis a with | some _=>.error 21 | none=>.ok (nm ++ [a],vis ++ [nm.length],(nm.length:Int))
def uCall (op:Int) (fr:ByteArray) (na:Nat):List DFunc→Nat→Ex Int
 | [],_=>.error 20
 | .mk nm ps _ fl _ _ :: l,i=>cond (seq nm fr) (cond (fl == (op == 28)) (cond ((ps.length:Int) == (na:Int)) (.ok (i:Int)) (.error 24)) (.error 25)) (uCall op fr na l (i + 1))
def uD {α:Type} (b:Bool) (c:Int) (x:Ex α):Ex α:=cond b x (.error c)
section
variable (fs:List DFunc) (f2:Int) (f3:Bool)
mutual
def uS:Nat→List ByteArray→List Nat→DStmt→Ex (List ByteArray × List Nat × DStmt)
 | lo,nm,vis,.mk op name s2 fr s4 flag l6 l7 l8 l9 l10 =>
  eb (uEs nm vis l6) fun r6 =>
  cond (op == 27) (eb3 (uCs lo nm vis l10) fun nm1 _ cs=>.ok (nm1,vis,.mk op name s2 fr s4 flag r6 l7 l8 l9 cs))
  (eb (cond (seq fr ⟨#[]⟩) (.ok s4) (uCall op fr r6.length fs 0)) fun ix =>
  cond (op == 2) (match slotOf nm vis name with | none=>.error 20 | some v=>.ok (nm,vis,.mk op name (v:Int) fr ix flag r6 l7 l8 l9 l10))
  (cond (op == 18 || op == 19) (uD (decide (lo > 0)) 22 (.ok (nm,vis,.mk op name s2 fr ix flag r6 l7 l8 l9 l10)))
  (cond (op == 29) (uD f3 22 (.ok (nm,vis,.mk op name s2 fr ix flag r6 l7 l8 l9 l10)))
  (cond (op == 17) (uD ((decide (r6.length > 0)) == (f2 != 0)) 22 (.ok (nm,vis,.mk op name s2 fr ix flag r6 l7 l8 l9 l10)))
  (cond (op == 21) (eb3 (uB (lo + 1) nm vis l7) fun nm1 _ b=>.ok (nm1,vis,.mk op name s2 fr ix flag r6 b l8 l9 l10))
  (cond (op == 28) (eb3 (uI (lo + 1) nm vis name s2 l7) fun nm1 _ vb=>.ok (nm1,vis,.mk op name vb.1 fr ix flag r6 vb.2 l8 l9 l10))
  (cond (op == 25) (eb3 (uI lo nm vis name s2 l7) fun nm1 _ vb=>.ok (nm1,vis,.mk op name vb.1 fr ix flag r6 vb.2 l8 l9 l10))
  (cond (op == 24) (eb3 (uB lo nm vis l7) fun nm1 _ b7=>eb3 (uI lo nm1 vis name s2 l8) fun nm2 _ vb=>eb3 (uB lo nm2 vis l9) fun nm3 _ b9=>.ok (nm3,vis,.mk op name vb.1 fr ix flag r6 b7 vb.2 b9 l10))
  (cond (op == 20 || op == 22 || op == 23 || op == 26) (eb3 (uB lo nm vis l7) fun nm1 _ b7=>eb3 (uB lo nm1 vis l8) fun nm2 _ b8=>.ok (nm2,vis,.mk op name s2 fr ix flag r6 b7 b8 l9 l10))
   (eb3 (cond (seq name ⟨#[]⟩) (.ok (nm,vis,s2)) (uMk nm vis name)) fun nm1 vis1 v=>uD (op != 6 || flag == 0 || decide (lo > 0)) 22 (.ok (nm1,vis1,.mk op name v fr ix flag r6 l7 l8 l9 l10))))))))))))
def uSs:Nat→List ByteArray→List Nat→List DStmt→Ex (List ByteArray × List Nat × List DStmt)
 | _,nm,vis,[]=>.ok (nm,vis,[])
 | lo,nm,vis,s :: l=>eb3 (uS lo nm vis s) fun nm1 vis1 s'=>eb3 (uSs lo nm1 vis1 l) fun nm2 vis2 l'=>.ok (nm2,vis2,s' :: l')
def uB:Nat→List ByteArray→List Nat→List DStmt→Ex (List ByteArray × List Nat × List DStmt)
 | _,nm,vis,[]=>.ok (nm,vis,[])
 | lo,nm,vis,s :: l=>eb3 (uS lo nm vis s) fun nm1 vis1 s'=>eb3 (uSs lo nm1 vis1 l) fun nm2 vis2 l'=>.ok (nm2,vis,s' :: l')
def uI:Nat→List ByteArray→List Nat→ByteArray→Int→List DStmt→Ex (List ByteArray × List Nat × (Int × List DStmt))
 | lo,nm,vis,name,s2,[]=>eb3 (cond (seq name ⟨#[]⟩) (.ok (nm,vis,s2)) (uMk nm vis name)) fun nm1 _ v=>.ok (nm1,vis,(v,[]))
 | lo,nm,vis,name,s2,s :: l=>eb3 (cond (seq name ⟨#[]⟩) (.ok (nm,vis,s2)) (uMk nm vis name)) fun nm1 vis1 v=>eb3 (uS lo nm1 vis1 s) fun nm2 vis2 s'=>eb3 (uSs lo nm2 vis2 l) fun nm3 _ l'=>.ok (nm3,vis,(v,s' :: l'))
def uC:Nat→List ByteArray→List Nat→DCase→Ex (List ByteArray × List Nat × DCase)
 | lo,nm,vis,.mk kind name slot es b=>eb (uEs nm vis es) fun r=>eb3 (uI lo nm vis name slot b) fun nm1 _ vb=>.ok (nm1,vis,.mk kind name vb.1 r vb.2)
def uCs:Nat→List ByteArray→List Nat→List DCase→Ex (List ByteArray × List Nat × List DCase)
 | _,nm,vis,[]=>.ok (nm,vis,[])
 | lo,nm,vis,c :: l=>eb3 (uC lo nm vis c) fun nm1 _ c'=>eb3 (uCs lo nm1 vis l) fun nm2 _ l'=>.ok (nm2,vis,c' :: l')
end
theorem uB_eq (lo:Nat) (nm:List ByteArray) (vis:List Nat) (l:List DStmt):uB fs f2 f3 lo nm vis l=eb3 (uSs fs f2 f3 lo nm vis l) fun nm1 _ l'=>.ok (nm1,vis,l'):=by
 cases l with
 | nil=>simp [uB,uSs,eb3]
 | cons s l =>
  rw [uB,uSs]
  cases uS fs f2 f3 lo nm vis s with
  | error c=>rfl
  | ok x =>
   simp only [eb3]
   cases uSs fs f2 f3 lo x.1 x.2.1 l <;> rfl
theorem uI_eq (lo:Nat) (nm:List ByteArray) (vis:List Nat) (name:ByteArray) (s2:Int) (l:List DStmt):uI fs f2 f3 lo nm vis name s2 l =
  eb3 (cond (seq name ⟨#[]⟩) (.ok (nm,vis,s2)) (uMk nm vis name)) fun nm1 vis1 v=>eb3 (uSs fs f2 f3 lo nm1 vis1 l) fun nm2 _ l'=>.ok (nm2,vis,(v,l')):=by
 cases l with
 | nil=>simp [uI,uSs,eb3]
 | cons s l =>
  rw [uI]
  congr 1
  funext nm1 vis1 v
  rw [uSs]
  cases uS fs f2 f3 lo nm1 vis1 s with
  | error c=>rfl
  | ok x =>
   simp only [eb3]
   cases uSs fs f2 f3 lo x.1 x.2.1 l <;> rfl
end
theorem slotOf_ext {nm nm' : List ByteArray} {vis:List Nat} (hv:okV nm vis) (hn:nm <+: nm') (a:ByteArray):slotOf nm' vis a=slotOf nm vis a:=by
 obtain ⟨t,rfl⟩:=hn
 unfold slotOf
 induction vis with
 | nil=>rfl
 | cons v vis ih =>
  have h:v < nm.length:=hv v (by simp)
  rw [List.find?_cons,List.find?_cons,List.getElem?_append_left h,ih (fun w hw=>hv w (by simp [hw]))]
theorem slotOf_new {nm:List ByteArray} {vis:List Nat} (hv:okV nm vis) (a b:ByteArray) (hn:slotOf nm vis a=none):slotOf (nm ++ [a]) (vis ++ [nm.length]) b=match slotOf nm vis b with | some v=>some v | none=>cond (seq a b) (some nm.length) none:=by
 have h1:=slotOf_ext (nm':=nm ++ [a]) hv ⟨[a],rfl⟩ b
 unfold slotOf at h1 ⊢
 rw [List.find?_append,h1]
 cases List.find? (fun v=>match nm[v]? with | some b_1=>seq b_1 b | none=>false) vis with
 | some v=>rfl
 | none =>
  simp only [Option.none_or,List.find?_cons,List.find?_nil]
  have:(nm ++ [a])[nm.length]?=some a:=by simp
  rw [this]
  dsimp only
  cases seq a b <;> rfl
theorem seq_eq {a b:ByteArray} (h:seq a b=true):a=b:=by
 unfold seq at h
 rw [ByteArray.toList_eq,ByteArray.toList_eq] at h
 have h:=eq_of_beq h
 obtain ⟨⟨a⟩⟩:=a; obtain ⟨⟨b⟩⟩:=b
 exact congrArg (fun l=>(⟨⟨l⟩⟩:ByteArray)) h
theorem mget_put (a:ByteArray) (k:Int) (b:ByteArray) : ∀ d:List (ByteArray × Int),mget seq b (mput seq a k d)=cond (seq a b) (some k) (mget seq b d)
 | []=>by
  unfold mput mget
  rw [seq_comm b a]
  cases seq a b <;> rfl
 | (x,v) :: d=>by
  unfold mput
  cases h:seq a x with
  | true =>
   obtain rfl:=seq_eq h
   simp only [if_true,mget]
   rw [seq_comm b a]
   cases seq a b <;> rfl
  | false =>
   rw [if_neg (by simp)]
   simp only [mget,mget_put a k b d]
   cases hb:seq b x with
   | false=>simp
   | true =>
    obtain rfl:=seq_eq hb
    simp [h]
theorem lkU_app (a:ByteArray) : ∀ (x y:List (List (ByteArray × Int))),lkU a (x ++ y)=match lkU a x with | some v=>some v | none=>lkU a y
 | [],y=>rfl
 | d :: x,y=>by
  simp only [List.cons_append,lkU,lkU_app a x y]
  cases mget seq a d <;> rfl
theorem lkU_one (a:ByteArray) (d:List (ByteArray × Int)):lkU a [d]=mget seq a d:=by
 unfold lkU; cases mget seq a d <;> rfl
theorem Rel.push {sc:List (List (ByteArray × Int))} {vis:List Nat} {nm:List ByteArray} (R:Rel sc vis nm):Rel (sc ++ [[]]) vis nm :=
 ⟨fun a=>by rw [lkU_app,lkU_one,← R.look a]; cases lkU a sc <;> rfl,R.ok⟩
theorem Rel.ext {sc:List (List (ByteArray × Int))} {vis:List Nat} {nm nm' : List ByteArray} (R:Rel sc vis nm) (h:nm <+: nm'):Rel sc vis nm' :=
 ⟨fun a=>by rw [R.look,slotOf_ext R.ok h],fun v hv=>Nat.lt_of_lt_of_le (R.ok v hv) h.length_le⟩
theorem Rel.make {pre:List (List (ByteArray × Int))} {d:List (ByteArray × Int)} {vis:List Nat} {nm:List ByteArray} {a:ByteArray} (R:Rel (pre ++ [d]) vis nm) (hn:slotOf nm vis a=none) :
  Rel (pre ++ [mput seq a (nm.length:Int) d]) (vis ++ [nm.length]) (nm ++ [a]):=by
 refine ⟨fun b=>?_,fun v hv=>?_⟩
 ·rw [slotOf_new R.ok a b hn,lkU_app,lkU_one,mget_put]
  have h:=R.look b
  rw [lkU_app,lkU_one] at h
  cases hs:seq a b with
  | false =>
   simp only [cond_false]
   rw [h]
   cases slotOf nm vis b <;> rfl
  | true =>
   obtain rfl:=seq_eq hs
   rw [hn] at h ⊢
   simp only [Option.map_none] at h
   cases hp:lkU a pre with
   | some v=>rw [hp] at h; cases h
   | none=>rfl
 ·rcases List.mem_append.1 hv with hv | hv
  ·have:=R.ok v hv; simp; omega
  ·simp at hv; simp; omega
theorem f37_eq (k:Nat) (p:List DFunc) (f:DFunc) {nm:List ByteArray} {pre:List (List (ByteArray × Int))} {d:List (ByteArray × Int)} (lo:Int) {vis:List Nat} (R:Rel (pre ++ [d]) vis nm) (a:ByteArray) (hb:nm.length≤1000000) (hp:pre.length≤1000000) :
  f37 k (.mk (.mk p) f nm (pre ++ [d]) lo) a=some (match uMk nm vis a with | .error c=>.error c | .ok (nm',_,v)=>.ok (.mk (.mk p) f nm' (pre ++ [mput seq a (nm.length:Int) d]) lo,v)):=by
 have h119:=R.f46 (k:=k) (p:=p) (f:=f) (lo:=lo) a
 obtain ⟨f0,f1,f2,f3,f4,f5⟩:=f
 unfold f37 f37_b uMk
 simp only
 rw [h119]
 cases slotOf nm vis a with
 | some v=>rfl
 | none =>
  simp only [Option.bind_some,f25_eq,Bool.not_false,cond_true]
  rw [guard_le (by unfold maxB; omega)]
  have e1:w64 (((pre ++ [d]).length:Int) - 1)=(pre.length:Int):=w64_nat (n:=pre.length) (by simp) (by omega)
  rw [e1,idxO_mid pre d [] _ rfl]
  simp
def fdL (fr:ByteArray):List DFunc→Nat→Option Int
 | [],_=>some (-1)
 | .mk nm _ _ _ _ _ :: l,i=>cond (seq nm fr) (some (i:Int)) (fdL fr l (i + 1))
theorem f1003670_eq (k:Nat) (s0:Int) (s1:ByteArray) (s2:Int) (fr:ByteArray) (s4 s5:Int) (s6:List DExpr) (s7 s8 s9:List DStmt) (s10:List DCase) : ∀ (l:List DFunc) (i:Nat),
  f1003670_l1 k s0 s1 s2 fr s4 s5 s6 s7 s8 s9 s10 l i=fdL fr l i
 | [],i=>rfl
 | .mk e0 e1 e2 e3 e4 e5 :: l,i=>by
  unfold f1003670_l1 fdL f1005844 f1005844_b
  simp only [Option.bind_some]
  rw [f1003670_eq k s0 s1 s2 fr s4 s5 s6 s7 s8 s9 s10 l (i + 1)]
theorem fd_spec (op:Int) (fr:ByteArray) (na:Nat) : ∀ (l:List DFunc) (pre:List DFunc),∃ r,fdL fr l pre.length=some r ∧
  ((r=-1∧uCall op fr na l pre.length=.error 20)∨(∃ (j:Nat) (g0:ByteArray) (g1:List DParam) (g2:Int) (g3:Bool) (g4:Int) (g5:List DStmt),r=(j:Int)∧(pre ++ l)[j]?=some (.mk g0 g1 g2 g3 g4 g5) ∧
   uCall op fr na l pre.length=cond (g3 == (op == 28)) (cond ((g1.length:Int) == (na:Int)) (.ok (j:Int)) (.error 24)) (.error 25)))
 | [],pre=>⟨-1,rfl,.inl ⟨rfl,rfl⟩⟩
 | .mk g0 g1 g2 g3 g4 g5 :: l,pre=>by
  unfold fdL uCall
  cases h:seq g0 fr with
  | true=>exact ⟨_,rfl,.inr ⟨pre.length,g0,g1,g2,g3,g4,g5,rfl,by simp,rfl⟩⟩
  | false =>
   obtain ⟨r,h1,h2⟩:=fd_spec op fr na l (pre ++ [.mk g0 g1 g2 g3 g4 g5])
   rw [app_len] at h1 h2
   rw [List.append_assoc,List.singleton_append] at h2
   exact ⟨r,h1,h2⟩
theorem f49_eq (k:Nat) (p:List DFunc) (f:DFunc) (nm:List ByteArray) (sc:List (List (ByteArray × Int))) (lo:Int) (op:Int) (name:ByteArray) (s2:Int) (fr:ByteArray) (s4 flag:Int) (l6:List DExpr) (l7 l8 l9:List DStmt) (l10:List DCase) :
  f49 k (.mk (.mk p) f nm sc lo) (.mk op name s2 fr s4 flag l6 l7 l8 l9 l10)=some (match uCall op fr l6.length p 0 with | .error c=>.error c | .ok ix=>.ok (.mk (.mk p) f nm sc lo,.mk op name s2 fr ix flag l6 l7 l8 l9 l10)):=by
 obtain ⟨f0,f1,f2,f3,f4,f5⟩:=f
 unfold f49 f49_b f1003670 f1003670_b
 simp only
 rw [f1003670_eq]
 obtain ⟨r,h1,h2⟩:=fd_spec op fr l6.length p []
 simp only [List.length_nil,List.nil_append] at h1 h2
 rw [h1]
 simp only [Option.bind_some,f25_eq]
 rcases h2 with ⟨rfl,h2⟩ | ⟨j,g0,g1,g2,g3,g4,g5,rfl,h3,h2⟩
 ·rw [h2]; rfl
 ·rw [h2]
  have:idxO p (j:Int)=some (.mk g0 g1 g2 g3 g4 g5):=by unfold idxO; rw [if_pos (by omega)]; simpa using h3
  have hj:decide ((j:Int) ≥ 0)=true:=by simp
  rw [this,hj]
  simp only [cond_true,Option.bind_some]
  cases (g3 == (op == 28)) <;> cases ((g1.length:Int) == (l6.length:Int)) <;> rfl
end Go.Proofs.YtoajecnoffhlbaaDoor
namespace Go.Proofs.YtoajecnoffhlbaaDoor
open Go
abbrev Sc:=List (List (ByteArray × Int))
def NN {α:Type} (r:Option (Ex (Dresolver × α))) (p:List DFunc) (f:DFunc) (lo:Nat) (pre:Sc) (nm:List ByteArray) (u:Ex (List ByteArray × List Nat × α)) (n:Nat):Prop :=
 match u with
 | .error c=>r=some (.error c)
 | .ok (nm',vis',y)=>∃ d',r=some (.ok (.mk (.mk p) f nm' (pre ++ [d']) lo,y))∧Rel (pre ++ [d']) vis' nm'∧nm <+: nm'∧nm'.length≤nm.length + n
def NB {α β:Type} (r:Option (Ex (Dresolver × β))) (p:List DFunc) (f:DFunc) (lo:Nat) (sc:Sc) (nm:List ByteArray) (u:Ex (List ByteArray × List Nat × α)) (g:α→β) (n:Nat):Prop :=
 match u with
 | .error c=>r=some (.error c)
 | .ok (nm',_,y)=>r=some (.ok (.mk (.mk p) f nm' sc lo,g y))∧nm <+: nm'∧nm'.length≤nm.length + n
theorem opt_make (k:Nat) (p:List DFunc) (f:DFunc) {nm:List ByteArray} {pre:Sc} {d:List (ByteArray × Int)} (lo:Nat) {vis:List Nat} (R:Rel (pre ++ [d]) vis nm) (a:ByteArray) (hb:nm.length≤1000000) (hp:pre.length≤1000000) :
  NN (f37 k (.mk (.mk p) f nm (pre ++ [d]) lo) a) p f lo pre nm (uMk nm vis a) 1:=by
 rw [f37_eq k p f lo R a hb hp]
 unfold uMk NN
 cases hs:slotOf nm vis a with
 | some v=>rfl
 | none=>exact ⟨_,rfl,R.make hs,⟨[a],rfl⟩,by simp⟩
theorem gt_nat (lo:Nat):decide ((lo:Int) > 0)=decide (lo > 0):=by rw [decide_eq_decide]; omega
theorem cut_guard {α:Type} (sc:Sc) (d:List (ByteArray × Int)) (h:sc.length≤1000000) (x:Option α):guardB (decide (0≤(w64 (((sc ++ [d]).length:Int) - 1))∧(w64 (((sc ++ [d]).length:Int) - 1))≤((sc ++ [d]).length:Int))) x=x:=by
 have e1:w64 (((sc ++ [d]).length:Int) - 1)=(sc.length:Int):=w64_nat (n:=sc.length) (by simp) (by omega)
 rw [e1]
 have:(0≤(sc.length:Int)∧(sc.length:Int)≤((sc ++ [d]).length:Int)):=⟨by omega,by simp; omega⟩
 rw [decide_eq_true this]; rfl
theorem cut_take (sc:Sc) (d:List (ByteArray × Int)) (h:sc.length≤1000000):(sc ++ [d]).take (w64 (((sc ++ [d]).length:Int) - 1)).toNat=sc:=by
 have e1:w64 (((sc ++ [d]).length:Int) - 1)=(sc.length:Int):=w64_nat (n:=sc.length) (by simp) (by omega)
 rw [e1]; simp
section
variable (k:Nat) (p:List DFunc) (f0:ByteArray) (f1:List DParam) (f2:Int) (f3:Bool) (f4:Int) (f5:List DStmt)
end
theorem nR (k:Nat) (p:List DFunc) (f0:ByteArray) (f1:List DParam) (f2:Int) (f3:Bool) (f4:Int) (f5:List DStmt) : ∀ m,m≤k →
  (∀ s,4 * szS s≤m→∀ (nm:List ByteArray) (vis:List Nat) (pre:Sc) (d:List (ByteArray × Int)) (lo:Nat),nm.length + szS s≤100000→pre.length + szS s≤100000→lo + szS s≤100000→Rel (pre ++ [d]) vis nm →
   NN ((fam39 k m).f39 (.mk (.mk p) (.mk f0 f1 f2 f3 f4 f5) nm (pre ++ [d]) lo) s) p (.mk f0 f1 f2 f3 f4 f5) lo pre nm (uS p f2 f3 lo nm vis s) (szS s)) ∧
  (∀ l,4 * szSs l + 1≤m→∀ (nm:List ByteArray) (vis:List Nat) (sc:Sc) (lo:Nat),nm.length + szSs l≤100000→sc.length + szSs l≤100000→lo + szSs l≤100000→Rel sc vis nm →
   NB ((fam39 k m).f1004866 (.mk (.mk p) (.mk f0 f1 f2 f3 f4 f5) nm sc lo) ⟨#[]⟩ l) p (.mk f0 f1 f2 f3 f4 f5) lo sc nm (uB p f2 f3 lo nm vis l) id (szSs l)) ∧
  (∀ l,4 * szSs l + 1≤m→∀ (name:ByteArray) (s0:Int) (s1:ByteArray) (s2:Int) (s3:ByteArray) (s4 s5:Int) (s6:List DExpr) (s7 s8 s9:List DStmt) (s10:List DCase) (nm:List ByteArray) (vis:List Nat) (sc:Sc) (lo:Nat),nm.length + szSs l + 1≤100000→sc.length + szSs l≤100000→lo + szSs l≤100000→Rel sc vis nm →
   NB ((fam39 k m).f1004815 (.mk (.mk p) (.mk f0 f1 f2 f3 f4 f5) nm sc lo) name l (.mk s0 s1 s2 s3 s4 s5 s6 s7 s8 s9 s10)) p (.mk f0 f1 f2 f3 f4 f5) lo sc nm (uI p f2 f3 lo nm vis name s2 l) (fun vb=>(DStmt.mk s0 s1 vb.1 s3 s4 s5 s6 s7 s8 s9 s10,vb.2)) (szSs l + 1)) ∧
  (∀ l,4 * szSs l + 1≤m→∀ (name:ByteArray) (s0:Int) (s1:ByteArray) (s2:Int) (s3:List DExpr) (s4:List DStmt) (nm:List ByteArray) (vis:List Nat) (sc:Sc) (lo:Nat),nm.length + szSs l + 1≤100000→sc.length + szSs l≤100000→lo + szSs l≤100000→Rel sc vis nm →
   NB ((fam39 k m).f1004884 (.mk (.mk p) (.mk f0 f1 f2 f3 f4 f5) nm sc lo) name l (.mk s0 s1 s2 s3 s4)) p (.mk f0 f1 f2 f3 f4 f5) lo sc nm (uI p f2 f3 lo nm vis name s2 l) (fun vb=>(DCase.mk s0 s1 vb.1 s3 s4,vb.2)) (szSs l + 1)) ∧
  (∀ l,4 * szSs l + 2≤m→∀ (nm:List ByteArray) (vis:List Nat) (sc:Sc) (lo:Nat),nm.length + szSs l≤100000→sc.length + szSs l≤100000→lo + szSs l + 1≤100000→Rel sc vis nm →
   NB ((fam39 k m).f1005066 (.mk (.mk p) (.mk f0 f1 f2 f3 f4 f5) nm sc lo) ⟨#[]⟩ l) p (.mk f0 f1 f2 f3 f4 f5) lo sc nm (uB p f2 f3 (lo + 1) nm vis l) id (szSs l)) ∧
  (∀ l,4 * szSs l + 2≤m→∀ (name:ByteArray) (s0:Int) (s1:ByteArray) (s2:Int) (s3:ByteArray) (s4 s5:Int) (s6:List DExpr) (s7 s8 s9:List DStmt) (s10:List DCase) (nm:List ByteArray) (vis:List Nat) (sc:Sc) (lo:Nat),nm.length + szSs l + 1≤100000→sc.length + szSs l≤100000→lo + szSs l + 1≤100000→Rel sc vis nm →
   NB ((fam39 k m).f1005015 (.mk (.mk p) (.mk f0 f1 f2 f3 f4 f5) nm sc lo) name l (.mk s0 s1 s2 s3 s4 s5 s6 s7 s8 s9 s10)) p (.mk f0 f1 f2 f3 f4 f5) lo sc nm (uI p f2 f3 (lo + 1) nm vis name s2 l) (fun vb=>(DStmt.mk s0 s1 vb.1 s3 s4 s5 s6 s7 s8 s9 s10,vb.2)) (szSs l + 1))
 | 0,_=>⟨fun e he=>by have:=szS_pos e; omega,fun l hl=>by omega,fun l hl=>by omega,fun l hl=>by omega,fun l hl=>by omega,fun l hl=>by omega⟩
 | m + 1,hmk=>by
  obtain ⟨ihs,ihb,ihi,ihc,ihlb,ihli⟩:=nR k p f0 f1 f2 f3 f4 f5 m (by omega)
  have loopB : ∀ (l:List DStmt) (i:Nat) (xs:List DStmt) (nm:List ByteArray) (vis:List Nat) (sc:Sc) (d:List (ByteArray × Int)) (lo:Nat),4 * szSs l≤m→xs.length + szSs l≤100000→nm.length + szSs l≤100000→sc.length + szSs l≤100000→lo + szSs l≤100000→Rel (sc ++ [d]) vis nm →
    NB (f1004866_l1 k (fam39 k m) l i p f0 f1 f2 f3 f4 f5 nm (sc ++ [d]) lo xs) p (.mk f0 f1 f2 f3 f4 f5) lo sc nm (uSs p f2 f3 lo nm vis l) (fun l'=>xs ++ l') (szSs l):=by
   intro l
   induction l with
   | nil =>
    intro i xs nm vis sc d lo _ _ _ hsc _ R
    unfold f1004866_l1
    rw [cut_guard sc d (by omega),cut_take sc d (by omega),uSs]
    exact ⟨by simp,List.prefix_refl _,by simp⟩
   | cons s l ih =>
    intro i xs nm vis sc d lo hm hxs hnm hsc hlo R
    obtain ⟨e0,e1,e2,e3,e4,e5,e6,e7,e8,e9,e10⟩:=s
    simp only [szSs] at hm hxs hnm hsc hlo
    have hp:=szS_pos (.mk e0 e1 e2 e3 e4 e5 e6 e7 e8 e9 e10)
    unfold f1004866_l1
    rw [uSs]
    have h:=ihs (.mk e0 e1 e2 e3 e4 e5 e6 e7 e8 e9 e10) (by omega) nm vis sc d lo (by omega) (by omega) (by omega) R
    revert h
    cases uS p f2 f3 lo nm vis (.mk e0 e1 e2 e3 e4 e5 e6 e7 e8 e9 e10) with
    | error c=>intro h; simp only [NN] at h; rw [h]; rfl
    | ok x =>
     obtain ⟨nm1,vis1,s'⟩:=x
     rintro ⟨d1,h,R1,hp1,hl1⟩
     rw [h]
     obtain ⟨r0,r1,r2,r3,r4,r5,r6,r7,r8,r9,r10⟩:=s'
     simp only [Option.bind_some,eb3]
     rw [guard_le (by unfold maxB; omega)]
     have h2:=ih (i + 1) (xs ++ [.mk r0 r1 r2 r3 r4 r5 r6 r7 r8 r9 r10]) nm1 vis1 sc d1 lo (by omega) (by rw [app_len]; omega) (by omega) (by omega) (by omega) R1
     revert h2
     cases uSs p f2 f3 lo nm1 vis1 l with
     | error c=>intro h2; exact h2
     | ok x =>
      obtain ⟨nm2,vis2,l'⟩:=x
      rintro ⟨h3,hp2,hl2⟩
      refine ⟨by rw [h3]; simp,hp1.trans hp2,by simp only [szSs]; omega⟩
  have loopS : ∀ (s0:Int) (s1:ByteArray) (s3:ByteArray) (s4 s5:Int) (s6:List DExpr) (s7 s8 s9:List DStmt) (s10:List DCase) (v:Int) (l:List DStmt) (i:Nat) (xs:List DStmt) (nm:List ByteArray) (vis:List Nat) (sc:Sc) (d:List (ByteArray × Int)) (lo:Nat),4 * szSs l≤m→xs.length + szSs l≤100000→nm.length + szSs l≤100000→sc.length + szSs l≤100000→lo + szSs l≤100000→Rel (sc ++ [d]) vis nm →
    NB (f1004815_l1 k (fam39 k m) s0 s1 s3 s4 s5 s6 s7 s8 s9 s10 v l i p f0 f1 f2 f3 f4 f5 nm (sc ++ [d]) lo xs) p (.mk f0 f1 f2 f3 f4 f5) lo sc nm (uSs p f2 f3 lo nm vis l) (fun l'=>(DStmt.mk s0 s1 v s3 s4 s5 s6 s7 s8 s9 s10,xs ++ l')) (szSs l):=by
   intro s0 s1 s3 s4 s5 s6 s7 s8 s9 s10 v l
   induction l with
   | nil =>
    intro i xs nm vis sc d lo _ _ _ hsc _ R
    unfold f1004815_l1
    rw [cut_guard sc d (by omega),cut_take sc d (by omega),uSs]
    exact ⟨by simp,List.prefix_refl _,by simp⟩
   | cons s l ih =>
    intro i xs nm vis sc d lo hm hxs hnm hsc hlo R
    obtain ⟨e0,e1,e2,e3,e4,e5,e6,e7,e8,e9,e10⟩:=s
    simp only [szSs] at hm hxs hnm hsc hlo
    have hp:=szS_pos (.mk e0 e1 e2 e3 e4 e5 e6 e7 e8 e9 e10)
    unfold f1004815_l1
    rw [uSs]
    have h:=ihs (.mk e0 e1 e2 e3 e4 e5 e6 e7 e8 e9 e10) (by omega) nm vis sc d lo (by omega) (by omega) (by omega) R
    revert h
    cases uS p f2 f3 lo nm vis (.mk e0 e1 e2 e3 e4 e5 e6 e7 e8 e9 e10) with
    | error c=>intro h; simp only [NN] at h; rw [h]; rfl
    | ok x =>
     obtain ⟨nm1,vis1,s'⟩:=x
     rintro ⟨d1,h,R1,hp1,hl1⟩
     rw [h]
     obtain ⟨r0,r1,r2,r3,r4,r5,r6,r7,r8,r9,r10⟩:=s'
     simp only [Option.bind_some,eb3]
     rw [guard_le (by unfold maxB; omega)]
     have h2:=ih (i + 1) (xs ++ [.mk r0 r1 r2 r3 r4 r5 r6 r7 r8 r9 r10]) nm1 vis1 sc d1 lo (by omega) (by rw [app_len]; omega) (by omega) (by omega) (by omega) R1
     revert h2
     cases uSs p f2 f3 lo nm1 vis1 l with
     | error c=>intro h2; exact h2
     | ok x =>
      obtain ⟨nm2,vis2,l'⟩:=x
      rintro ⟨h3,hp2,hl2⟩
      refine ⟨by rw [h3]; simp,hp1.trans hp2,by simp only [szSs]; omega⟩
  have loopC : ∀ (s0:Int) (s1:ByteArray) (s3:List DExpr) (s4:List DStmt) (v:Int) (l:List DStmt) (i:Nat) (xs:List DStmt) (nm:List ByteArray) (vis:List Nat) (sc:Sc) (d:List (ByteArray × Int)) (lo:Nat),4 * szSs l≤m→xs.length + szSs l≤100000→nm.length + szSs l≤100000→sc.length + szSs l≤100000→lo + szSs l≤100000→Rel (sc ++ [d]) vis nm →
    NB (f1004884_l1 k (fam39 k m) s0 s1 s3 s4 v l i p f0 f1 f2 f3 f4 f5 nm (sc ++ [d]) lo xs) p (.mk f0 f1 f2 f3 f4 f5) lo sc nm (uSs p f2 f3 lo nm vis l) (fun l'=>(DCase.mk s0 s1 v s3 s4,xs ++ l')) (szSs l):=by
   intro s0 s1 s3 s4 v l
   induction l with
   | nil =>
    intro i xs nm vis sc d lo _ _ _ hsc _ R
    unfold f1004884_l1
    rw [cut_guard sc d (by omega),cut_take sc d (by omega),uSs]
    exact ⟨by simp,List.prefix_refl _,by simp⟩
   | cons s l ih =>
    intro i xs nm vis sc d lo hm hxs hnm hsc hlo R
    obtain ⟨e0,e1,e2,e3,e4,e5,e6,e7,e8,e9,e10⟩:=s
    simp only [szSs] at hm hxs hnm hsc hlo
    have hp:=szS_pos (.mk e0 e1 e2 e3 e4 e5 e6 e7 e8 e9 e10)
    unfold f1004884_l1
    rw [uSs]
    have h:=ihs (.mk e0 e1 e2 e3 e4 e5 e6 e7 e8 e9 e10) (by omega) nm vis sc d lo (by omega) (by omega) (by omega) R
    revert h
    cases uS p f2 f3 lo nm vis (.mk e0 e1 e2 e3 e4 e5 e6 e7 e8 e9 e10) with
    | error c=>intro h; simp only [NN] at h; rw [h]; rfl
    | ok x =>
     obtain ⟨nm1,vis1,s'⟩:=x
     rintro ⟨d1,h,R1,hp1,hl1⟩
     rw [h]
     obtain ⟨r0,r1,r2,r3,r4,r5,r6,r7,r8,r9,r10⟩:=s'
     simp only [Option.bind_some,eb3]
     rw [guard_le (by unfold maxB; omega)]
     have h2:=ih (i + 1) (xs ++ [.mk r0 r1 r2 r3 r4 r5 r6 r7 r8 r9 r10]) nm1 vis1 sc d1 lo (by omega) (by rw [app_len]; omega) (by omega) (by omega) (by omega) R1
     revert h2
     cases uSs p f2 f3 lo nm1 vis1 l with
     | error c=>intro h2; exact h2
     | ok x =>
      obtain ⟨nm2,vis2,l'⟩:=x
      rintro ⟨h3,hp2,hl2⟩
      refine ⟨by rw [h3]; simp,hp1.trans hp2,by simp only [szSs]; omega⟩
  have loopK : ∀ (s0:Int) (s1:ByteArray) (s2:Int) (s3:ByteArray) (s4 s5:Int) (s7 s8 s9:List DStmt) (r:List DExpr) (l:List DCase) (i:Nat) (xs:List DCase) (nm:List ByteArray) (vis:List Nat) (pre:Sc) (d:List (ByteArray × Int)) (lo:Nat),4 * szCs l≤m + 1→xs.length + szCs l≤100000→nm.length + szCs l≤100000→pre.length + szCs l≤100000→lo + szCs l≤100000→Rel (pre ++ [d]) vis nm →
    NB (f39_l1 k (fam39 k m) s0 s1 s2 s3 s4 s5 s7 s8 s9 r l i p f0 f1 f2 f3 f4 f5 nm (pre ++ [d]) lo xs) p (.mk f0 f1 f2 f3 f4 f5) lo (pre ++ [d]) nm (uCs p f2 f3 lo nm vis l) (fun l'=>DStmt.mk s0 s1 s2 s3 s4 s5 r s7 s8 s9 (xs ++ l')) (szCs l):=by
   intro s0 s1 s2 s3 s4 s5 s7 s8 s9 r l
   induction l with
   | nil =>
    intro i xs nm vis pre d lo _ _ _ hsc _ R
    unfold f39_l1
    rw [uCs]
    exact ⟨by simp,List.prefix_refl _,by simp⟩
   | cons c l ih =>
    intro i xs nm vis pre d lo hm hxs hnm hsc hlo R
    obtain ⟨e0,e1,e2,e3,e4⟩:=c
    simp only [szCs,szC] at hm hxs hnm hsc hlo
    unfold f39_l1
    rw [uCs,uC]
    rw [f47_eq k p (.mk f0 f1 f2 f3 f4 f5) lo R e3 (by omega) (by omega)]
    cases uEs nm vis e3 with
    | error c=>exact rfl
    | ok r3 =>
     simp only [Option.bind_some,eb]
     have h:=ihc e4 (by omega) e1 e0 e1 e2 r3 e4 nm vis (pre ++ [d]) lo (by omega) (by simp; omega) (by omega) R
     revert h
     cases uI p f2 f3 lo nm vis e1 e2 e4 with
     | error c=>intro h; simp only [NB] at h; rw [h]; exact rfl
     | ok x =>
      obtain ⟨nm1,vis1,v,b⟩:=x
      rintro ⟨h,hp1,hl1⟩
      rw [h]
      simp only [Option.bind_some,eb3]
      rw [guard_le (by unfold maxB; omega)]
      have h2:=ih (i + 1) (xs ++ [.mk e0 e1 v r3 b]) nm1 vis pre d lo (by omega) (by rw [app_len]; omega) (by omega) (by omega) (by omega) (R.ext hp1)
      revert h2
      cases uCs p f2 f3 lo nm1 vis l with
      | error c=>intro h2; exact h2
      | ok x =>
       obtain ⟨nm2,vis2,l'⟩:=x
       rintro ⟨h3,hp2,hl2⟩
       refine ⟨by rw [h3]; simp,hp1.trans hp2,by simp only [szCs,szC]; omega⟩
  refine ⟨?_,?_,?_,?_,?_,?_⟩
  ·intro s hs nm vis pre d lo hnm hpre hlo R
   obtain ⟨op,name,s2,fr,s4,flag,l6,l7,l8,l9,l10⟩:=s
   simp only [szS] at hs hnm hpre hlo
   show NN (f39_b k (fam39 k m) (.mk (.mk p) (.mk f0 f1 f2 f3 f4 f5) nm (pre ++ [d]) lo) (.mk op name s2 fr s4 flag l6 l7 l8 l9 l10)) p _ lo pre nm _ _
   rw [uS]
   unfold f39_b
   simp only
   rw [f47_eq k p (.mk f0 f1 f2 f3 f4 f5) lo R l6 (by omega) (by omega)]
   cases uEs nm vis l6 with
   | error c=>exact rfl
   | ok r6 =>
    simp only [Option.bind_some,eb]
    have stay : ∀ y:DStmt,NN (some (.ok (Dresolver.mk (DProgram.mk p) (.mk f0 f1 f2 f3 f4 f5) nm (pre ++ [d]) lo,y))) p (.mk f0 f1 f2 f3 f4 f5) lo pre nm (.ok (nm,vis,y)) (szS (.mk op name s2 fr s4 flag l6 l7 l8 l9 l10)) :=
     fun y=>⟨d,rfl,R,List.prefix_refl _,by omega⟩
    cases h27:(op == 27) with
    | true =>
     simp only [cond_true]
     have h:=loopK op name s2 fr s4 flag l7 l8 l9 r6 l10 0 [] nm vis pre d lo (by omega) (by simp; omega) (by omega) (by omega) (by omega) R
     revert h
     cases uCs p f2 f3 lo nm vis l10 with
     | error c=>intro h; exact h
     | ok x =>
      obtain ⟨nm1,vis1,cs⟩:=x
      rintro ⟨h,hp1,hl1⟩
      exact ⟨d,by rw [h]; simp,R.ext hp1,hp1,by simp only [szS]; omega⟩
    | false =>
     simp only [cond_false]
     have tail : ∀ ix:Int,NN (f39_j1 k (fam39 k m) p f0 f1 f2 f3 f4 f5 nm (pre ++ [d]) lo op name s2 fr ix flag r6 l7 l8 l9 l10) p (.mk f0 f1 f2 f3 f4 f5) lo pre nm
       (cond (op == 2) (match slotOf nm vis name with | none=>.error 20 | some v=>.ok (nm,vis,.mk op name (v:Int) fr ix flag r6 l7 l8 l9 l10))
       (cond (op == 18 || op == 19) (uD (decide (lo > 0)) 22 (.ok (nm,vis,.mk op name s2 fr ix flag r6 l7 l8 l9 l10)))
       (cond (op == 29) (uD f3 22 (.ok (nm,vis,.mk op name s2 fr ix flag r6 l7 l8 l9 l10)))
       (cond (op == 17) (uD ((decide (r6.length > 0)) == (f2 != 0)) 22 (.ok (nm,vis,.mk op name s2 fr ix flag r6 l7 l8 l9 l10)))
       (cond (op == 21) (eb3 (uB p f2 f3 (lo + 1) nm vis l7) fun nm1 _ b=>.ok (nm1,vis,.mk op name s2 fr ix flag r6 b l8 l9 l10))
       (cond (op == 28) (eb3 (uI p f2 f3 (lo + 1) nm vis name s2 l7) fun nm1 _ vb=>.ok (nm1,vis,.mk op name vb.1 fr ix flag r6 vb.2 l8 l9 l10))
       (cond (op == 25) (eb3 (uI p f2 f3 lo nm vis name s2 l7) fun nm1 _ vb=>.ok (nm1,vis,.mk op name vb.1 fr ix flag r6 vb.2 l8 l9 l10))
       (cond (op == 24) (eb3 (uB p f2 f3 lo nm vis l7) fun nm1 _ b7=>eb3 (uI p f2 f3 lo nm1 vis name s2 l8) fun nm2 _ vb=>eb3 (uB p f2 f3 lo nm2 vis l9) fun nm3 _ b9=>.ok (nm3,vis,.mk op name vb.1 fr ix flag r6 b7 vb.2 b9 l10))
       (cond (op == 20 || op == 22 || op == 23 || op == 26) (eb3 (uB p f2 f3 lo nm vis l7) fun nm1 _ b7=>eb3 (uB p f2 f3 lo nm1 vis l8) fun nm2 _ b8=>.ok (nm2,vis,.mk op name s2 fr ix flag r6 b7 b8 l9 l10))
        (eb3 (cond (seq name ⟨#[]⟩) (.ok (nm,vis,s2)) (uMk nm vis name)) fun nm1 vis1 v=>uD (op != 6 || flag == 0 || decide (lo > 0)) 22 (.ok (nm1,vis1,.mk op name v fr ix flag r6 l7 l8 l9 l10)))))))))))) (szS (.mk op name s2 fr s4 flag l6 l7 l8 l9 l10)):=by
      intro ix
      unfold f39_j1
      cases h2:(op == 2) with
      | true =>
       simp only [cond_true]
       rw [R.f46]
       cases slotOf nm vis name with
       | none=>simp only [Option.bind_some,f25_eq]; exact rfl
       | some v=>simp only [Option.bind_some,f25_eq,cond_true]; exact stay _
      | false =>
       simp only [cond_false]
       have tail2 : ∀ q,q=(op == 18 || op == 19)→NN (f39_j3 k (fam39 k m) p f0 f1 f2 f3 f4 f5 nm (pre ++ [d]) lo op name s2 fr ix flag r6 l7 l8 l9 l10 q) p (.mk f0 f1 f2 f3 f4 f5) lo pre nm
         (cond (op == 18 || op == 19) (uD (decide (lo > 0)) 22 (.ok (nm,vis,.mk op name s2 fr ix flag r6 l7 l8 l9 l10)))
         (cond (op == 29) (uD f3 22 (.ok (nm,vis,.mk op name s2 fr ix flag r6 l7 l8 l9 l10)))
         (cond (op == 17) (uD ((decide (r6.length > 0)) == (f2 != 0)) 22 (.ok (nm,vis,.mk op name s2 fr ix flag r6 l7 l8 l9 l10)))
         (cond (op == 21) (eb3 (uB p f2 f3 (lo + 1) nm vis l7) fun nm1 _ b=>.ok (nm1,vis,.mk op name s2 fr ix flag r6 b l8 l9 l10))
         (cond (op == 28) (eb3 (uI p f2 f3 (lo + 1) nm vis name s2 l7) fun nm1 _ vb=>.ok (nm1,vis,.mk op name vb.1 fr ix flag r6 vb.2 l8 l9 l10))
         (cond (op == 25) (eb3 (uI p f2 f3 lo nm vis name s2 l7) fun nm1 _ vb=>.ok (nm1,vis,.mk op name vb.1 fr ix flag r6 vb.2 l8 l9 l10))
         (cond (op == 24) (eb3 (uB p f2 f3 lo nm vis l7) fun nm1 _ b7=>eb3 (uI p f2 f3 lo nm1 vis name s2 l8) fun nm2 _ vb=>eb3 (uB p f2 f3 lo nm2 vis l9) fun nm3 _ b9=>.ok (nm3,vis,.mk op name vb.1 fr ix flag r6 b7 vb.2 b9 l10))
         (cond (op == 20 || op == 22 || op == 23 || op == 26) (eb3 (uB p f2 f3 lo nm vis l7) fun nm1 _ b7=>eb3 (uB p f2 f3 lo nm1 vis l8) fun nm2 _ b8=>.ok (nm2,vis,.mk op name s2 fr ix flag r6 b7 b8 l9 l10))
          (eb3 (cond (seq name ⟨#[]⟩) (.ok (nm,vis,s2)) (uMk nm vis name)) fun nm1 vis1 v=>uD (op != 6 || flag == 0 || decide (lo > 0)) 22 (.ok (nm1,vis1,.mk op name v fr ix flag r6 l7 l8 l9 l10))))))))))) (szS (.mk op name s2 fr s4 flag l6 l7 l8 l9 l10)):=by
        rintro _ rfl
        unfold f39_j3
        cases (op == 18 || op == 19) with
        | true =>
         simp only [cond_true,f25_eq,Option.bind_some,gt_nat,uD]
         cases decide (lo > 0)
         ·exact rfl
         ·exact stay _
        | false =>
        simp only [cond_false]
        cases (op == 29) with
        | true =>
         simp only [cond_true,f25_eq,Option.bind_some,uD]
         cases f3
         ·exact rfl
         ·exact stay _
        | false =>
        simp only [cond_false]
        cases (op == 17) with
        | true =>
         simp only [cond_true,f25_eq,Option.bind_some,uD,gt_nat]
         cases (decide (r6.length > 0) == (f2 != 0))
         ·exact rfl
         ·exact stay _
        | false =>
        simp only [cond_false]
        cases (op == 21) with
        | true =>
         simp only [cond_true]
         have h:=ihlb l7 (by omega) nm vis (pre ++ [d]) lo (by omega) (by simp; omega) (by omega) R
         revert h
         cases uB p f2 f3 (lo + 1) nm vis l7 with
         | error c=>intro h; simp only [NB] at h; rw [h]; exact rfl
         | ok x =>
          obtain ⟨nm1,vis1,b⟩:=x
          rintro ⟨h,hp1,hl1⟩
          rw [h]
          exact ⟨d,rfl,R.ext hp1,hp1,by simp only [szS]; omega⟩
        | false =>
        simp only [cond_false]
        cases (op == 28) with
        | true =>
         simp only [cond_true]
         have h:=ihli l7 (by omega) name op name s2 fr ix flag r6 l7 l8 l9 l10 nm vis (pre ++ [d]) lo (by omega) (by simp; omega) (by omega) R
         revert h
         cases uI p f2 f3 (lo + 1) nm vis name s2 l7 with
         | error c=>intro h; simp only [NB] at h; rw [h]; exact rfl
         | ok x =>
          obtain ⟨nm1,vis1,v,b⟩:=x
          rintro ⟨h,hp1,hl1⟩
          rw [h]
          exact ⟨d,rfl,R.ext hp1,hp1,by simp only [szS]; omega⟩
        | false =>
        simp only [cond_false]
        cases (op == 25) with
        | true =>
         simp only [cond_true]
         have h:=ihi l7 (by omega) name op name s2 fr ix flag r6 l7 l8 l9 l10 nm vis (pre ++ [d]) lo (by omega) (by simp; omega) (by omega) R
         revert h
         cases uI p f2 f3 lo nm vis name s2 l7 with
         | error c=>intro h; simp only [NB] at h; rw [h]; exact rfl
         | ok x =>
          obtain ⟨nm1,vis1,v,b⟩:=x
          rintro ⟨h,hp1,hl1⟩
          rw [h]
          exact ⟨d,rfl,R.ext hp1,hp1,by simp only [szS]; omega⟩
        | false =>
        simp only [cond_false]
        cases (op == 24) with
        | true =>
         simp only [cond_true]
         have h:=ihb l7 (by omega) nm vis (pre ++ [d]) lo (by omega) (by simp; omega) (by omega) R
         revert h
         cases uB p f2 f3 lo nm vis l7 with
         | error c=>intro h; simp only [NB] at h; rw [h]; exact rfl
         | ok x =>
          obtain ⟨nm1,vis1,b⟩:=x
          rintro ⟨h,hp1,hl1⟩
          rw [h]
          simp only [Option.bind_some,eb3,id]
          have h:=ihi l8 (by omega) name op name s2 fr ix flag r6 b l8 l9 l10 nm1 vis (pre ++ [d]) lo (by omega) (by simp; omega) (by omega) (R.ext hp1)
          revert h
          cases uI p f2 f3 lo nm1 vis name s2 l8 with
          | error c=>intro h; simp only [NB] at h; rw [h]; exact rfl
          | ok x =>
           obtain ⟨nm2,vis2,v,b8⟩:=x
           rintro ⟨h,hp2,hl2⟩
           rw [h]
           simp only [Option.bind_some]
           have h:=ihb l9 (by omega) nm2 vis (pre ++ [d]) lo (by omega) (by simp; omega) (by omega) ((R.ext hp1).ext hp2)
           revert h
           cases uB p f2 f3 lo nm2 vis l9 with
           | error c=>intro h; simp only [NB] at h; rw [h]; exact rfl
           | ok x =>
            obtain ⟨nm3,vis3,b9⟩:=x
            rintro ⟨h,hp3,hl3⟩
            rw [h]
            exact ⟨d,rfl,((R.ext hp1).ext hp2).ext hp3,(hp1.trans hp2).trans hp3,by simp only [szS]; omega⟩
        | false =>
        simp only [cond_false]
        have tail3 : ∀ q,q=(op == 20 || op == 22 || op == 23 || op == 26)→NN (f39_j4 k (fam39 k m) p f0 f1 f2 f3 f4 f5 nm (pre ++ [d]) lo op name s2 fr ix flag r6 l7 l8 l9 l10 q) p (.mk f0 f1 f2 f3 f4 f5) lo pre nm
          (cond (op == 20 || op == 22 || op == 23 || op == 26) (eb3 (uB p f2 f3 lo nm vis l7) fun nm1 _ b7=>eb3 (uB p f2 f3 lo nm1 vis l8) fun nm2 _ b8=>.ok (nm2,vis,.mk op name s2 fr ix flag r6 b7 b8 l9 l10))
           (eb3 (cond (seq name ⟨#[]⟩) (.ok (nm,vis,s2)) (uMk nm vis name)) fun nm1 vis1 v=>uD (op != 6 || flag == 0 || decide (lo > 0)) 22 (.ok (nm1,vis1,.mk op name v fr ix flag r6 l7 l8 l9 l10)))) (szS (.mk op name s2 fr s4 flag l6 l7 l8 l9 l10)):=by
         rintro _ rfl
         unfold f39_j4
         cases (op == 20 || op == 22 || op == 23 || op == 26) with
         | true =>
          simp only [cond_true]
          have h:=ihb l7 (by omega) nm vis (pre ++ [d]) lo (by omega) (by simp; omega) (by omega) R
          revert h
          cases uB p f2 f3 lo nm vis l7 with
          | error c=>intro h; simp only [NB] at h; rw [h]; exact rfl
          | ok x =>
           obtain ⟨nm1,vis1,b⟩:=x
           rintro ⟨h,hp1,hl1⟩
           rw [h]
           simp only [Option.bind_some,eb3,id]
           have h:=ihb l8 (by omega) nm1 vis (pre ++ [d]) lo (by omega) (by simp; omega) (by omega) (R.ext hp1)
           revert h
           cases uB p f2 f3 lo nm1 vis l8 with
           | error c=>intro h; simp only [NB] at h; rw [h]; exact rfl
           | ok x =>
            obtain ⟨nm2,vis2,b8⟩:=x
            rintro ⟨h,hp2,hl2⟩
            rw [h]
            exact ⟨d,rfl,(R.ext hp1).ext hp2,hp1.trans hp2,by simp only [szS]; omega⟩
         | false =>
          simp only [cond_false]
          have fin : ∀ (nm1:List ByteArray) (vis1:List Nat) (d1:List (ByteArray × Int)) (v:Int),Rel (pre ++ [d1]) vis1 nm1→nm <+: nm1→nm1.length≤nm.length + 1 →
            NN (f39_j5 k (fam39 k m) op name fr ix flag r6 l7 l8 l9 l10 p f0 f1 f2 f3 f4 f5 nm1 (pre ++ [d1]) lo v) p (.mk f0 f1 f2 f3 f4 f5) lo pre nm
             (uD (op != 6 || flag == 0 || decide (lo > 0)) 22 (.ok (nm1,vis1,.mk op name v fr ix flag r6 l7 l8 l9 l10))) (szS (.mk op name s2 fr s4 flag l6 l7 l8 l9 l10)):=by
           intro nm1 vis1 d1 v R1 hp1 hl1
           unfold f39_j5
           simp only [f25_eq,Option.bind_some,gt_nat,uD,cond_true]
           cases (op != 6) <;> cases (flag == 0) <;> cases decide (lo > 0) <;> first | exact rfl | exact ⟨d1,rfl,R1,hp1,by simp only [szS]; omega⟩
          cases seq name ⟨#[]⟩ with
          | true =>
           simp only [Bool.not_true,cond_false,cond_true,eb3]
           exact fin nm vis d s2 R (List.prefix_refl _) (by omega)
          | false =>
           simp only [Bool.not_false,cond_true,cond_false]
           have h:=opt_make k p (.mk f0 f1 f2 f3 f4 f5) lo R name (by omega) (by omega)
           revert h
           cases uMk nm vis name with
           | error c=>intro h; simp only [NN] at h; rw [h]; exact rfl
           | ok x =>
            obtain ⟨nm1,vis1,v⟩:=x
            rintro ⟨d1,h,R1,hp1,hl1⟩
            rw [h]
            exact fin nm1 vis1 d1 v R1 hp1 hl1
        cases h20:(op == 20) <;> cases h22:(op == 22) <;> cases h23:(op == 23) <;> (have h:=tail3 _ rfl; simp only [h20,h22,h23,Bool.true_or,Bool.or_true,Bool.false_or,cond_true,cond_false] at h ⊢; exact h)
       cases h18:(op == 18) with
       | true=>simp only [cond_true,Bool.true_or]; have h:=tail2 true (by simp [h18]); simpa only [h18,Bool.true_or,cond_true] using h
       | false=>simp only [cond_false,Bool.false_or]; have h:=tail2 (op == 19) (by simp [h18]); simpa only [h18,Bool.false_or] using h
     cases hfr:seq fr ⟨#[]⟩ with
     | true =>
      simp only [Bool.not_true,cond_false,cond_true]
      exact tail s4
     | false =>
      simp only [Bool.not_false,cond_true,cond_false]
      rw [f49_eq]
      cases uCall op fr r6.length p 0 with
      | error c=>exact rfl
      | ok ix=>exact tail ix
  ·intro l hl nm vis sc lo hnm hsc hlo R
   show NB (f1004866_b k (fam39 k m) (.mk (.mk p) (.mk f0 f1 f2 f3 f4 f5) nm sc lo) ⟨#[]⟩ l) _ _ _ _ _ _ _ _
   rw [uB_eq]
   unfold f1004866_b
   simp only
   rw [guard_le (by unfold maxB; omega)]
   have hs:seq ⟨#[]⟩ ⟨#[]⟩=true:=seq_refl _
   rw [hs]
   simp only [Bool.not_true,cond_false]
   have h:=loopB l 0 [] nm vis sc [] lo (by omega) (by simp; omega) (by omega) (by omega) (by omega) R.push
   revert h
   cases uSs p f2 f3 lo nm vis l with
   | error c=>intro h; exact h
   | ok x =>
    obtain ⟨nm1,vis1,l'⟩:=x
    rintro ⟨h,hp1,hl1⟩
    exact ⟨by rw [h]; simp,hp1,by omega⟩
  ·intro l hl name s0 s1 s2 s3 s4 s5 s6 s7 s8 s9 s10 nm vis sc lo hnm hsc hlo R
   show NB (f1004815_b k (fam39 k m) (.mk (.mk p) (.mk f0 f1 f2 f3 f4 f5) nm sc lo) name l (.mk s0 s1 s2 s3 s4 s5 s6 s7 s8 s9 s10)) _ _ _ _ _ _ _ _
   rw [uI_eq]
   unfold f1004815_b f1004815_j1
   simp only
   rw [guard_le (by unfold maxB; omega)]
   cases hn:seq name ⟨#[]⟩ with
   | true =>
    simp only [Bool.not_true,cond_false,cond_true,eb3]
    have h:=loopS s0 s1 s3 s4 s5 s6 s7 s8 s9 s10 s2 l 0 [] nm vis sc [] lo (by omega) (by simp; omega) (by omega) (by omega) (by omega) R.push
    revert h
    cases uSs p f2 f3 lo nm vis l with
    | error c=>intro h; exact h
    | ok x =>
     obtain ⟨nm1,vis1,l'⟩:=x
     rintro ⟨h,hp1,hl1⟩
     exact ⟨by rw [h]; simp,hp1,by omega⟩
   | false =>
    simp only [Bool.not_false,cond_true,cond_false]
    have h:=opt_make k p (.mk f0 f1 f2 f3 f4 f5) lo R.push name (by omega) (by omega)
    revert h
    cases hu:uMk nm vis name with
    | error c=>intro h; simp only [NN] at h; rw [h]; rfl
    | ok x =>
     obtain ⟨nm1,vis1,v⟩:=x
     rintro ⟨d1,h,R1,hp1,hl1⟩
     rw [h]
     simp only [Option.bind_some,eb3]
     have h2:=loopS s0 s1 s3 s4 s5 s6 s7 s8 s9 s10 v l 0 [] nm1 vis1 sc d1 lo (by omega) (by simp; omega) (by omega) (by omega) (by omega) R1
     revert h2
     cases uSs p f2 f3 lo nm1 vis1 l with
     | error c=>intro h2; exact h2
     | ok x =>
      obtain ⟨nm2,vis2,l'⟩:=x
      rintro ⟨h2,hp2,hl2⟩
      exact ⟨by rw [h2]; simp,hp1.trans hp2,by omega⟩
  ·intro l hl name s0 s1 s2 s3 s4 nm vis sc lo hnm hsc hlo R
   show NB (f1004884_b k (fam39 k m) (.mk (.mk p) (.mk f0 f1 f2 f3 f4 f5) nm sc lo) name l (.mk s0 s1 s2 s3 s4)) _ _ _ _ _ _ _ _
   rw [uI_eq]
   unfold f1004884_b f1004884_j1
   simp only
   rw [guard_le (by unfold maxB; omega)]
   cases hn:seq name ⟨#[]⟩ with
   | true =>
    simp only [Bool.not_true,cond_false,cond_true,eb3]
    have h:=loopC s0 s1 s3 s4 s2 l 0 [] nm vis sc [] lo (by omega) (by simp; omega) (by omega) (by omega) (by omega) R.push
    revert h
    cases uSs p f2 f3 lo nm vis l with
    | error c=>intro h; exact h
    | ok x =>
     obtain ⟨nm1,vis1,l'⟩:=x
     rintro ⟨h,hp1,hl1⟩
     exact ⟨by rw [h]; simp,hp1,by omega⟩
   | false =>
    simp only [Bool.not_false,cond_true,cond_false]
    have h:=opt_make k p (.mk f0 f1 f2 f3 f4 f5) lo R.push name (by omega) (by omega)
    revert h
    cases hu:uMk nm vis name with
    | error c=>intro h; simp only [NN] at h; rw [h]; rfl
    | ok x =>
     obtain ⟨nm1,vis1,v⟩:=x
     rintro ⟨d1,h,R1,hp1,hl1⟩
     rw [h]
     simp only [Option.bind_some,eb3]
     have h2:=loopC s0 s1 s3 s4 v l 0 [] nm1 vis1 sc d1 lo (by omega) (by simp; omega) (by omega) (by omega) (by omega) R1
     revert h2
     cases uSs p f2 f3 lo nm1 vis1 l with
     | error c=>intro h2; exact h2
     | ok x =>
      obtain ⟨nm2,vis2,l'⟩:=x
      rintro ⟨h2,hp2,hl2⟩
      exact ⟨by rw [h2]; simp,hp1.trans hp2,by omega⟩
  ·intro l hl nm vis sc lo hnm hsc hlo R
   show NB (f1005066_b k (fam39 k m) (.mk (.mk p) (.mk f0 f1 f2 f3 f4 f5) nm sc lo) ⟨#[]⟩ l) _ _ _ _ _ _ _ _
   unfold f1005066_b
   simp only
   rw [w64_nat (x:=(lo:Int) + 1) (n:=lo + 1) (by omega) (by omega)]
   have h:=ihb l (by omega) nm vis sc (lo + 1) (by omega) (by omega) (by omega) R
   revert h
   cases uB p f2 f3 (lo + 1) nm vis l with
   | error c=>intro h; simp only [NB] at h; rw [h]; rfl
   | ok x =>
    obtain ⟨nm1,vis1,l'⟩:=x
    rintro ⟨h,hp1,hl1⟩
    rw [h]
    simp only [Option.bind_some]
    rw [w64_nat (x:=((lo + 1:Nat):Int) - 1) (n:=lo) (by omega) (by omega)]
    exact ⟨rfl,hp1,hl1⟩
  ·intro l hl name s0 s1 s2 s3 s4 s5 s6 s7 s8 s9 s10 nm vis sc lo hnm hsc hlo R
   show NB (f1005015_b k (fam39 k m) (.mk (.mk p) (.mk f0 f1 f2 f3 f4 f5) nm sc lo) name l (.mk s0 s1 s2 s3 s4 s5 s6 s7 s8 s9 s10)) _ _ _ _ _ _ _ _
   unfold f1005015_b
   simp only
   rw [w64_nat (x:=(lo:Int) + 1) (n:=lo + 1) (by omega) (by omega)]
   have h:=ihi l (by omega) name s0 s1 s2 s3 s4 s5 s6 s7 s8 s9 s10 nm vis sc (lo + 1) (by omega) (by omega) (by omega) R
   revert h
   cases uI p f2 f3 (lo + 1) nm vis name s2 l with
   | error c=>intro h; simp only [NB] at h; rw [h]; rfl
   | ok x =>
    obtain ⟨nm1,vis1,l'⟩:=x
    rintro ⟨h,hp1,hl1⟩
    rw [h]
    simp only [Option.bind_some]
    rw [w64_nat (x:=((lo + 1:Nat):Int) - 1) (n:=lo) (by omega) (by omega)]
    exact ⟨rfl,hp1,hl1⟩
end Go.Proofs.YtoajecnoffhlbaaDoor
namespace Go.Proofs.YtoajecnoffhlbaaDoor
open Go
def uPs:List ByteArray→List Nat→List DParam→Ex (List ByteArray × List Nat × Unit)
 | nm,vis,[]=>.ok (nm,vis,())
 | nm,vis,.mk a _ :: l=>eb3 (uMk nm vis a) fun nm1 vis1 _=>uPs nm1 vis1 l
def uF (fs:List DFunc):DFunc→Ex (DFunc × List ByteArray)
 | .mk n ps res fl _ b=>eb3 (uPs [] [] ps) fun nm vis _=>eb3 (uSs fs res fl 0 nm vis b) fun nm1 _ b'=>uD (decide (nm1.length≤32)) 5 (.ok (.mk n ps res fl (nm1.length:Int) b',nm1))
def uFs (fs:List DFunc):List DFunc→Ex (List DFunc × List (List ByteArray))
 | []=>.ok ([],[])
 | f :: l=>eb (uF fs f) fun x=>eb (uFs fs l) fun y=>.ok (x.1 :: y.1,x.2 :: y.2)
def nameF:DFunc→ByteArray | .mk n _ _ _ _ _=>n
def hasF (a:ByteArray):List DFunc→Bool
 | []=>false
 | f :: l=>seq (nameF f) a || hasF a l
def dupF:List DFunc→List DFunc→Bool
 | _,[]=>false
 | pre,f :: l=>hasF (nameF f) pre || dupF (pre ++ [f]) l
def uP:DProgram→Ex (DProgram × List (List ByteArray))
 | .mk fs=>uD (wf false (.mk fs)) 2 (uD (!dupF [] fs) 21 (uD (decide (f16_l2 fs=0)) (f16_l2 fs) (eb (uFs fs fs) fun x=>.ok (.mk x.1,x.2))))
theorem szSs_bound {z:Bool} : ∀ {l:List DFunc} {f:DFunc},f ∈ l→cnFs l≤600→gFs z l=true→(match f with | .mk n ps res fl v b=>szSs b≤600∧ps.length≤4∧gSs z b 1=true)
 | .mk n ps res fl v b :: l,f,hf,hc,hg=>by
  simp only [cnFs,cnF] at hc
  simp only [gFs,headF,Bool.and_eq_true,decide_eq_true_eq] at hg
  rcases List.mem_cons.1 hf with rfl | h
  ·exact ⟨by omega,hg.1.1.1.1.1.2,hg.2.2.1⟩
  ·exact szSs_bound h (by omega) hg.2.2.2
theorem f30_l1_eq (k:Nat) (p:List DFunc) (n:ByteArray) (ps0:List DParam) (res:Int) (fl:Bool) (v:Int) (b0 b:List DStmt) (g1:List DParam) : ∀ (ps:List DParam) (i:Nat) (nm:List ByteArray) (vis:List Nat) (d:List (ByteArray × Int)),nm.length + ps.length≤1000→Rel ([] ++ [d]) vis nm →
  match uPs nm vis ps with
  | .error c=>f30_l1 k n g1 res fl b ps i p n ps0 res fl v b0 nm ([] ++ [d]) 0=some (.error c)
  | .ok (nm',vis',_)=>∃ d' j,f30_l1 k n g1 res fl b ps i p n ps0 res fl v b0 nm ([] ++ [d]) 0=f30_l1 k n g1 res fl b [] j p n ps0 res fl v b0 nm' ([] ++ [d']) 0∧Rel ([] ++ [d']) vis' nm'∧nm'.length≤nm.length + ps.length
 | [],i,nm,vis,d,hn,R=>⟨d,i,rfl,R,by simp⟩
 | .mk a kd :: ps,i,nm,vis,d,hn,R=>by
  simp only [List.length_cons] at hn
  have h:=opt_make k p (.mk n ps0 res fl v b0) 0 R a (by omega) (by simp)
  unfold uPs
  revert h
  cases uMk nm vis a with
  | error c =>
   intro h
   simp only [NN] at h
   unfold f30_l1
   simp only [eb3]
   rw [show f37 k (.mk (.mk p) (.mk n ps0 res fl v b0) nm ([] ++ [d]) 0) a=some (.error c) from h]
   rfl
  | ok x =>
   obtain ⟨nm1,vis1,w⟩:=x
   rintro ⟨d1,h,R1,hp,hl⟩
   simp only [eb3]
   have ih:=f30_l1_eq k p n ps0 res fl v b0 b g1 ps (i + 1) nm1 vis1 d1 (by omega) R1
   have e:f30_l1 k n g1 res fl b (.mk a kd :: ps) i p n ps0 res fl v b0 nm ([] ++ [d]) 0=f30_l1 k n g1 res fl b ps (i + 1) p n ps0 res fl v b0 nm1 ([] ++ [d1]) 0:=by
    conv=>lhs; unfold f30_l1
    rw [show f37 k (.mk (.mk p) (.mk n ps0 res fl v b0) nm ([] ++ [d]) 0) a=some (.ok (.mk (.mk p) (.mk n ps0 res fl v b0) nm1 ([] ++ [d1]) 0,w)) from h]
    rfl
   revert ih
   cases uPs nm1 vis1 ps with
   | error c=>intro ih; rw [e]; exact ih
   | ok x =>
    obtain ⟨nm2,vis2,u⟩:=x
    rintro ⟨d2,j,h2,R2,hl2⟩
    exact ⟨d2,j,by rw [e]; exact h2,R2,by simp only [List.length_cons]; omega⟩
theorem f30_l2_eq (k:Nat) (p:List DFunc) (n:ByteArray) (ps0:List DParam) (res:Int) (fl:Bool) (v:Int) (b0:List DStmt) (g1:List DParam) : ∀ (l:List DStmt) (i:Nat) (xs:List DStmt) (nm:List ByteArray) (vis:List Nat) (d:List (ByteArray × Int)),4 * szSs l≤k→xs.length + szSs l≤100000→nm.length + szSs l≤100000→Rel ([] ++ [d]) vis nm →
  f30_l2 k n res fl g1 l i p n ps0 res fl v b0 nm ([] ++ [d]) 0 xs=some (eb3 (uSs p res fl 0 nm vis l) fun nm1 _ b'=>uD (decide (nm1.length≤32)) 5 (.ok (.mk n g1 res fl (nm1.length:Int) (xs ++ b'),nm1)))
 | [],i,xs,nm,vis,d,hm,hx,hn,R=>by
  unfold f30_l2 f30_j1
  rw [uSs]
  have e:decide ((nm.length:Int)≤32)=decide (nm.length≤32):=by rw [decide_eq_decide]; omega
  simp only [f25_eq,Option.bind_some,eb3,e,uD,List.append_nil]
  cases decide (nm.length≤32) <;> rfl
 | s :: l,i,xs,nm,vis,d,hm,hx,hn,R=>by
  simp only [szSs] at hm hx hn
  have hp0:=szS_pos s
  obtain ⟨e0,e1,e2,e3,e4,e5,e6,e7,e8,e9,e10⟩:=s
  unfold f30_l2
  rw [uSs]
  have h:=(nR k p n ps0 res fl v b0 k (Nat.le_refl k)).1 (.mk e0 e1 e2 e3 e4 e5 e6 e7 e8 e9 e10) (by omega) nm vis [] d 0 (by omega) (by simp; omega) (by omega) R
  rw [show (fam39 k k).f39=f39 k from rfl,show (((0:Nat):Int))=0 from rfl] at h
  revert h
  cases uS p res fl 0 nm vis (.mk e0 e1 e2 e3 e4 e5 e6 e7 e8 e9 e10) with
  | error c=>intro h; simp only [NN] at h; rw [h]; rfl
  | ok x =>
   obtain ⟨nm1,vis1,s'⟩:=x
   rintro ⟨d1,h,R1,hp,hl⟩
   rw [h]
   obtain ⟨r0,r1,r2,r3,r4,r5,r6,r7,r8,r9,r10⟩:=s'
   simp only [Option.bind_some,eb3]
   rw [guard_le (by unfold maxB; omega)]
   refine (f30_l2_eq k p n ps0 res fl v b0 g1 l (i + 1) (xs ++ [.mk r0 r1 r2 r3 r4 r5 r6 r7 r8 r9 r10]) nm1 vis1 d1 (by omega) (by rw [app_len]; omega) (by omega) R1).trans ?_
   cases uSs p res fl 0 nm1 vis1 l with
   | error c=>rfl
   | ok x=>simp [eb3]
theorem f30_eq (k:Nat) (p:List DFunc) (f:DFunc) (h:match f with | .mk n ps res fl v b=>szSs b≤600∧ps.length≤4∧gSs false b 1=true) (hk:4 * 600≤k):f30 k (.mk p) f=some (uF p f):=by
 obtain ⟨n,ps,res,fl,v,b⟩:=f
 obtain ⟨h1,h2,h3⟩:=h
 unfold f30 f30_b uF
 simp only
 have R0:Rel ([] ++ [[]]) [] []:=⟨fun a=>rfl,fun v hv=>by cases hv⟩
 have h:=f30_l1_eq k p n ps res fl v b b ps ps 0 [] [] [] (by simp; omega) R0
 revert h
 cases uPs [] [] ps with
 | error c=>intro h; exact h
 | ok x =>
  obtain ⟨nm,vis,u⟩:=x
  rintro ⟨d,j,h,R,hl⟩
  refine (h:f30_l1 k n ps res fl b ps 0 p n ps res fl v b [] [[]] 0=_).trans ?_
  unfold f30_l1 f38
  rw [guard_le (by unfold maxB; omega)]
  simp only [Option.bind_some,eb3]
  exact f30_l2_eq k p n ps res fl v b ps b 0 [] nm vis d (by omega) (by simp; omega) (by simp at hl; omega) R
theorem f1002804_eq (k:Nat) (l:List DFunc) (f:DFunc):f1002804 k l f=some (hasF (nameF f) l):=by
 obtain ⟨n,ps,res,fl,v,b⟩:=f
 have h : ∀ (l:List DFunc) (i:Nat),(f1003604_l1 k n ps res fl v b l i).bind (fun r=>some (decide (r ≥ 0)))=some (hasF n l):=by
  intro l
  induction l with
  | nil=>intro i; rfl
  | cons e l ih =>
   intro i
   obtain ⟨e0,e1,e2,e3,e4,e5⟩:=e
   unfold f1003604_l1 f1002949 f1002949_b hasF
   simp only [Option.bind_some,nameF]
   rw [seq_comm n e0]
   cases seq e0 n with
   | true=>simp
   | false=>simpa using ih (i + 1)
 unfold f1002804 f1002804_b f1003604 f1003604_b
 exact h l 0
theorem f16_l1_eq (k:Nat) : ∀ (rest pre:List DFunc),f16_l1 k (pre ++ rest) rest pre.length=some (cond (dupF pre rest) (.error 21) (.ok ()))
 | [],pre=>rfl
 | f :: rest,pre=>by
  unfold f16_l1 dupF
  have e:(pre ++ f :: rest).take pre.length=pre:=by simp
  rw [e,f1002804_eq]
  simp only [Option.bind_some,f25_eq]
  cases hasF (nameF f) pre with
  | true=>rfl
  | false =>
   have ih:=f16_l1_eq k rest (pre ++ [f])
   rw [app_len,List.append_assoc,List.singleton_append] at ih
   simpa using ih
theorem f16_l3_eq (k:Nat) (p:List DFunc) (hk:4 * 600≤k) : ∀ (rest:List DFunc) (out:List DFunc) (names:List (List ByteArray)),(∀ f ∈ rest,match f with | .mk n ps res fl v b=>szSs b≤600∧ps.length≤4∧gSs false b 1=true) →
  f16_l3 k (.mk p) rest out names=some (eb (uFs p rest) fun x=>.ok (.mk (out ++ x.1),names ++ x.2))
 | [],out,names,h=>by simp [f16_l3,uFs,eb]
 | f :: rest,out,names,h=>by
  unfold f16_l3 uFs
  rw [f30_eq k p f (h f (by simp)) hk]
  cases uF p f with
  | error c=>rfl
  | ok x =>
   simp only [Option.bind_some,eb]
   rw [f16_l3_eq k p hk rest (out ++ [x.1]) (names ++ [x.2]) (fun g hg=>h g (by simp [hg]))]
   cases uFs p rest with
   | error c=>rfl
   | ok y=>simp [eb]
theorem f16_eq (k:Nat) (p:DProgram) (hk:2 * szP p + 1≤k) (hk2:4 * 600≤k):f16 k p=some (uP p):=by
 have h78:=f26_eq k p false hk
 obtain ⟨fs⟩:=p
 unfold f16 uP
 simp only [h78,Option.bind_some,f25_eq]
 cases hw:wf false (.mk fs) with
 | false=>rfl
 | true =>
  simp only [wf,Bool.and_eq_true,decide_eq_true_eq] at hw
  have h1:=f16_l1_eq k fs []
  simp only [List.nil_append,List.length_nil] at h1
  simp only [cond_true,h1,Option.bind_some,uD]
  cases dupF [] fs with
  | true=>rfl
  | false =>
   simp only [cond_false,cond_true,Bool.not_false,f25_eq,Option.bind_some]
   cases decide (f16_l2 fs=0) with
   | false=>rfl
   | true =>
    simp only [cond_true]
    rw [f16_l3_eq k fs hk2 fs [] [] (fun f hf=>szSs_bound hf hw.2 hw.1.2)]
    rfl
end Go.Proofs.YtoajecnoffhlbaaDoor
namespace Go.Proofs.YtoajecnoffhlbaaDoor
open Go
theorem eb_ok {α β:Type} {u:Ex α} {f:α→Ex β} {y:β} (h:eb u f=.ok y) : ∃ x,u=.ok x∧f x=.ok y:=by
 cases u with
 | error c=>cases h
 | ok x=>exact ⟨x,rfl,h⟩
theorem eb3_ok {α β:Type} {u:Ex (List ByteArray × List Nat × α)} {f:List ByteArray→List Nat→α→Ex β} {y:β} (h:eb3 u f=.ok y) : ∃ a b x,u=.ok (a,b,x)∧f a b x=.ok y:=by
 cases u with
 | error c=>cases h
 | ok x=>exact ⟨x.1,x.2.1,x.2.2,rfl,h⟩
theorem uD_ok {α:Type} {b:Bool} {c:Int} {x:Ex α} {y:α} (h:uD b c x=.ok y):b=true∧x=.ok y:=by
 cases b with
 | false=>cases h
 | true=>exact ⟨rfl,h⟩
mutual
theorem stE_id : ∀ e a,gE false e a=true→stE e=e
 | .mk op num txt slot l,a,h=>by
  simp only [gE,Bool.and_eq_true,Bool.false_or,beq_iff_eq] at h
  simp only [stE,stEs_id l _ h.2,h.1.1.2]
theorem stEs_id : ∀ l a,gEs false l a=true→stEs l=l
 | [],a,h=>rfl
 | e :: l,a,h=>by
  simp only [gEs,Bool.and_eq_true] at h
  simp only [stEs,stE_id e a h.1,stEs_id l a h.2]
end
mutual
theorem stS_id : ∀ s a,gS false s a=true→stS s=s
 | .mk op name s2 fr s4 flag l6 l7 l8 l9 l10,a,h=>by
  simp only [gS,Bool.and_eq_true,Bool.false_or,beq_iff_eq] at h
  obtain ⟨⟨⟨_,h2,h4⟩,_⟩,h6,h7,h8,h9,h10⟩:=h
  simp only [stS,stEs_id l6 _ h6,stSs_id l7 _ h7,stSs_id l8 _ h8,stSs_id l9 _ h9,stCs_id l10 _ h10,h2,h4]
theorem stSs_id : ∀ l a,gSs false l a=true→stSs l=l
 | [],a,h=>rfl
 | e :: l,a,h=>by
  simp only [gSs,Bool.and_eq_true] at h
  simp only [stSs,stS_id e a h.1,stSs_id l a h.2]
theorem stC_id : ∀ c a,gC false c a=true→stC c=c
 | .mk kind name slot es b,a,h=>by
  simp only [gC,Bool.and_eq_true,Bool.false_or,beq_iff_eq] at h
  obtain ⟨⟨⟨_,h2⟩,_⟩,h6,h7⟩:=h
  simp only [stC,stEs_id es _ h6,stSs_id b _ h7,h2]
theorem stCs_id : ∀ l a,gCs false l a=true→stCs l=l
 | [],a,h=>rfl
 | .mk k nm s es b :: l,a,h=>by
  simp only [gCs,Bool.and_eq_true] at h
  simp only [stCs,stC_id _ a h.1.2,stCs_id l a h.2]
end
mutual
theorem stE_u {nm:List ByteArray} {vis:List Nat} : ∀ e a e',gE false e a=true→uE nm vis e=.ok e'→stE e'=e
 | .mk op num txt slot l,a,e',h,hu=>by
  simp only [gE,Bool.and_eq_true,Bool.false_or,beq_iff_eq] at h
  obtain ⟨⟨⟨_,rfl⟩,_⟩,hl⟩:=h
  unfold uE at hu
  revert hu
  cases h1:uEs nm vis l with
  | error c=>intro hu; cases hu
  | ok l' =>
   have h2:=stEs_u l _ l' hl h1
   cases op == 4 with
   | false=>intro hu; cases hu; simp only [stE,h2]
   | true =>
    cases slotOf nm vis txt with
    | none=>intro hu; cases hu
    | some v=>intro hu; cases hu; simp only [stE,h2]
theorem stEs_u {nm:List ByteArray} {vis:List Nat} : ∀ l a l',gEs false l a=true→uEs nm vis l=.ok l'→stEs l'=l
 | [],a,l',h,hu=>by cases hu; rfl
 | e :: l,a,l',h,hu=>by
  simp only [gEs,Bool.and_eq_true] at h
  unfold uEs at hu
  revert hu
  cases h1:uE nm vis e with
  | error c=>intro hu; cases hu
  | ok e1 =>
   cases h2:uEs nm vis l with
   | error c=>intro hu; cases hu
   | ok l1=>intro hu; cases hu; simp only [stEs,stE_u e a e1 h.1 h1,stEs_u l a l1 h.2 h2]
end
section
variable (fs:List DFunc) (f2:Int) (f3:Bool)
theorem stS_u : ∀ n:Nat,
  (∀ s,szS s≤n→∀ a lo nm vis r,gS false s a=true→uS fs f2 f3 lo nm vis s=.ok r→stS r.2.2=s) ∧
  (∀ l,szSs l≤n→∀ a lo nm vis r,gSs false l a=true→uSs fs f2 f3 lo nm vis l=.ok r→stSs r.2.2=l) ∧
  (∀ c,szC c≤n→∀ a lo nm vis r,gC false c a=true→uC fs f2 f3 lo nm vis c=.ok r→stC r.2.2=c) ∧
  (∀ l,szCs l≤n→∀ a lo nm vis r,gCs false l a=true→uCs fs f2 f3 lo nm vis l=.ok r→stCs r.2.2=l)
 | 0=>by
  refine ⟨fun s h=>?_,fun l h=>?_,fun c h=>?_,fun l h=>?_⟩
  ·have:=szS_pos s; omega
  ·cases l with
   | nil=>intro a lo nm vis r _ h; simp only [uSs] at h; cases h; rfl
   | cons s l=>have:=szS_pos s; simp only [szSs] at h; omega
  ·have:=szC_pos c; omega
  ·cases l with
   | nil=>intro a lo nm vis r _ h; simp only [uCs] at h; cases h; rfl
   | cons s l=>have:=szC_pos s; simp only [szCs] at h; omega
 | n + 1=>by
  obtain ⟨i1,i2,i3,i4⟩:=stS_u n
  have a1 : ∀ s,szS s≤n + 1→∀ a lo nm vis r,gS false s a=true→uS fs f2 f3 lo nm vis s=.ok r→stS r.2.2=s:=by
   rintro ⟨op,name,s2,fr,s4,flag,l6,l7,l8,l9,l10⟩ h a lo nm vis r hg hu
   simp only [szS] at h
   simp only [gS,Bool.and_eq_true,Bool.false_or,beq_iff_eq] at hg
   obtain ⟨⟨⟨_,rfl,rfl⟩,_⟩,g6,g7,g8,g9,g10⟩:=hg
   have d6:=stEs_id l6 _ g6
   have d7:=stSs_id l7 _ g7
   have d8:=stSs_id l8 _ g8
   have d9:=stSs_id l9 _ g9
   have d10:=stCs_id l10 _ g10
   have h7:=fun lo nm vis r=>i2 l7 (by omega) _ lo nm vis r g7
   have h8:=fun lo nm vis r=>i2 l8 (by omega) _ lo nm vis r g8
   have h9:=fun lo nm vis r=>i2 l9 (by omega) _ lo nm vis r g9
   have h10:=fun lo nm vis r=>i4 l10 (by omega) _ lo nm vis r g10
   simp only [uS,uB_eq,uI_eq] at hu
   obtain ⟨r6,h6,hu⟩:=eb_ok hu
   have e6:=stEs_u l6 _ r6 g6 h6
   clear i1 i2 i3 i4
   revert hu
   cases op == 27 with
   | true =>
    intro hu
    obtain ⟨nm1,v1,cs,h1,hu⟩:=eb3_ok hu
    cases hu
    simp only [stS,e6,d7,d8,d9,h10 _ _ _ _ h1]
   | false =>
   intro hu
   obtain ⟨ix,_,hu⟩:=eb_ok hu
   revert hu
   cases op == 2 with
   | true =>
    cases slotOf nm vis name with
    | none=>intro hu; cases hu
    | some v=>intro hu; cases hu; simp only [stS,e6,d7,d8,d9,d10]
   | false =>
   cases op == 18 || op == 19 with
   | true=>intro hu; obtain ⟨_,hu⟩:=uD_ok hu; cases hu; simp only [stS,e6,d7,d8,d9,d10]
   | false =>
   cases op == 29 with
   | true=>intro hu; obtain ⟨_,hu⟩:=uD_ok hu; cases hu; simp only [stS,e6,d7,d8,d9,d10]
   | false =>
   cases op == 17 with
   | true=>intro hu; obtain ⟨_,hu⟩:=uD_ok hu; cases hu; simp only [stS,e6,d7,d8,d9,d10]
   | false =>
   cases op == 21 with
   | true =>
    intro hu
    obtain ⟨nm1,v1,b,h1,hu⟩:=eb3_ok hu
    cases hu
    obtain ⟨nm2,v2,b2,h2,h1⟩:=eb3_ok h1
    cases h1
    simp only [stS,e6,h7 _ _ _ _ h2,d8,d9,d10]
   | false =>
   cases op == 28 with
   | true =>
    intro hu
    obtain ⟨nm1,v1,b,h1,hu⟩:=eb3_ok hu
    cases hu
    obtain ⟨nm2,v2,b2,h2,h1⟩:=eb3_ok h1
    obtain ⟨nm3,v3,b3,h3,h1⟩:=eb3_ok h1
    cases h1
    simp only [stS,e6,h7 _ _ _ _ h3,d8,d9,d10]
   | false =>
   cases op == 25 with
   | true =>
    intro hu
    obtain ⟨nm1,v1,b,h1,hu⟩:=eb3_ok hu
    cases hu
    obtain ⟨nm2,v2,b2,h2,h1⟩:=eb3_ok h1
    obtain ⟨nm3,v3,b3,h3,h1⟩:=eb3_ok h1
    cases h1
    simp only [stS,e6,h7 _ _ _ _ h3,d8,d9,d10]
   | false =>
   cases op == 24 with
   | true =>
    intro hu
    obtain ⟨nm1,v1,b,h1,hu⟩:=eb3_ok hu
    obtain ⟨nm2,v2,b2,h2,h1⟩:=eb3_ok h1
    cases h1
    obtain ⟨nm1,v1,b,h1,hu⟩:=eb3_ok hu
    obtain ⟨nm2,v2,b3,h4,h1⟩:=eb3_ok h1
    obtain ⟨nm3,v3,b4,h3,h1⟩:=eb3_ok h1
    cases h1
    obtain ⟨nm1,v1,b,h1,hu⟩:=eb3_ok hu
    obtain ⟨nm2,v2,b5,h5,h1⟩:=eb3_ok h1
    cases h1
    cases hu
    simp only [stS,e6,h7 _ _ _ _ h2,h8 _ _ _ _ h3,h9 _ _ _ _ h5,d10]
   | false =>
   cases op == 20 || op == 22 || op == 23 || op == 26 with
   | true =>
    intro hu
    obtain ⟨nm1,v1,b,h1,hu⟩:=eb3_ok hu
    obtain ⟨nm2,v2,b2,h2,h1⟩:=eb3_ok h1
    cases h1
    obtain ⟨nm1,v1,b,h1,hu⟩:=eb3_ok hu
    obtain ⟨nm2,v2,b3,h4,h1⟩:=eb3_ok h1
    cases h1
    cases hu
    simp only [stS,e6,h7 _ _ _ _ h2,h8 _ _ _ _ h4,d9,d10]
   | false =>
    intro hu
    obtain ⟨nm1,v1,b,h1,hu⟩:=eb3_ok hu
    obtain ⟨_,hu⟩:=uD_ok hu
    cases hu
    simp only [stS,e6,d7,d8,d9,d10]
  have a3 : ∀ c,szC c≤n + 1→∀ a lo nm vis r,gC false c a=true→uC fs f2 f3 lo nm vis c=.ok r→stC r.2.2=c:=by
   rintro ⟨kind,name,slot,es,b⟩ h a lo nm vis r hg hu
   simp only [szC] at h
   simp only [gC,Bool.and_eq_true,Bool.false_or,beq_iff_eq] at hg
   obtain ⟨⟨⟨_,rfl⟩,_⟩,g6,g7⟩:=hg
   simp only [uC,uI_eq] at hu
   obtain ⟨r6,h6,hu⟩:=eb_ok hu
   obtain ⟨nm1,v1,vb,h1,hu⟩:=eb3_ok hu
   obtain ⟨nm2,v2,b2,h2,h1⟩:=eb3_ok h1
   obtain ⟨nm3,v3,b3,h3,h1⟩:=eb3_ok h1
   cases h1
   cases hu
   simp only [stC,stEs_u es _ r6 g6 h6,i2 b (by omega) _ _ _ _ _ g7 h3]
  have a2 : ∀ l,szSs l≤n + 1→∀ a lo nm vis r,gSs false l a=true→uSs fs f2 f3 lo nm vis l=.ok r→stSs r.2.2=l:=by
   intro l
   induction l with
   | nil=>intro h a lo nm vis r _ hu; simp only [uSs] at hu; cases hu; rfl
   | cons s l ih =>
    intro h a lo nm vis r hg hu
    simp only [szSs] at h
    simp only [gSs,Bool.and_eq_true] at hg
    simp only [uSs] at hu
    obtain ⟨nm1,v1,x,h1,hu⟩:=eb3_ok hu
    obtain ⟨nm2,v2,y,h2,hu⟩:=eb3_ok hu
    cases hu
    simp only [stSs,a1 s (by omega) _ _ _ _ _ hg.1 h1,ih (by omega) _ _ _ _ _ hg.2 h2]
  have a4 : ∀ l,szCs l≤n + 1→∀ a lo nm vis r,gCs false l a=true→uCs fs f2 f3 lo nm vis l=.ok r→stCs r.2.2=l:=by
   intro l
   induction l with
   | nil=>intro h a lo nm vis r _ hu; simp only [uCs] at hu; cases hu; rfl
   | cons s l ih =>
    intro h a lo nm vis r hg hu
    obtain ⟨kind,name,slot,es,b⟩:=s
    simp only [szCs] at h
    simp only [gCs,Bool.and_eq_true] at hg
    simp only [uCs] at hu
    obtain ⟨nm1,v1,x,h1,hu⟩:=eb3_ok hu
    obtain ⟨nm2,v2,y,h2,hu⟩:=eb3_ok hu
    cases hu
    simp only [stCs,a3 _ (by omega) _ _ _ _ _ hg.1.2 h1,ih (by omega) _ _ _ _ _ hg.2 h2]
  exact ⟨a1,a2,a3,a4⟩
end
theorem okWf {fs:List DFunc} (h:wf false (.mk fs)=true):gFs false fs=true:=by
 simp only [wf,Bool.and_eq_true] at h
 exact h.1.2
theorem stF_u (fs:List DFunc) : ∀ (l q:List DFunc) (nl:List (List ByteArray)),gFs false l=true→uFs fs l=.ok (q,nl)→stFs q=l
 | [],q,nl,hg,hu=>by cases hu; rfl
 | .mk n ps res fl v b :: l,q,nl,hg,hu=>by
  simp only [gFs,headF,Bool.and_eq_true,Bool.false_or,beq_iff_eq] at hg
  unfold uFs at hu
  obtain ⟨x,h1,hu⟩:=eb_ok hu
  obtain ⟨y,h2,hu⟩:=eb_ok hu
  cases hu
  unfold uF at h1
  obtain ⟨nm,vis,_,h3,h1⟩:=eb3_ok h1
  obtain ⟨nm1,vis1,b',h4,h1⟩:=eb3_ok h1
  obtain ⟨_,h1⟩:=uD_ok h1
  cases h1
  obtain ⟨⟨⟨⟨⟨_,hv⟩,_⟩,_⟩,_⟩,_,hb,hl⟩:=hg
  have e1:=(stS_u fs res fl (szSs b)).2.1 b (Nat.le_refl _) 1 0 nm vis _ hb h4
  simp only [stFs,stF,hv,stF_u fs l _ _ hl h2]
  simp only at e1
  rw [e1]
theorem uP_ok {fs:List DFunc} {q:DProgram} {nl:List (List ByteArray)} (h:uP (.mk fs)=.ok (q,nl)):wf false (.mk fs)=true∧dupF [] fs=false∧f16_l2 fs=0∧∃ x,q=.mk x∧uFs fs fs=.ok (x,nl):=by
 unfold uP at h
 obtain ⟨h1,h⟩:=uD_ok h
 obtain ⟨h2,h⟩:=uD_ok h
 obtain ⟨h3,h⟩:=uD_ok h
 obtain ⟨x,h4,h⟩:=eb_ok h
 cases h
 exact ⟨h1,by simpa using h2,by simpa using h3,x.1,rfl,h4⟩
theorem stP_u (p q:DProgram) (nl:List (List ByteArray)) (h:uP p=.ok (q,nl)):stP q=p:=by
 obtain ⟨fs⟩:=p
 obtain ⟨h1,h2,h3,x,rfl,h4⟩:=uP_ok h
 simp only [stP,stF_u fs fs x nl (okWf h1) h4]
theorem gFs_stF : ∀ l,gFs false l=true→stFs l=l
 | [],h=>rfl
 | .mk n ps res fl v b :: l,h=>by
  simp only [gFs,headF,Bool.and_eq_true,Bool.false_or,beq_iff_eq] at h
  obtain ⟨⟨⟨⟨⟨_,hv⟩,_⟩,_⟩,_⟩,_,hb,hl⟩:=h
  simp only [stFs,stF,hv,stSs_id b 1 hb,gFs_stF l hl]
theorem wf_both {p:DProgram} (h:wf false p=true):wf true p=true∧stP p=p:=by
 obtain ⟨fs⟩:=p
 have e:stP (.mk fs)=.mk fs:=by simp only [stP,gFs_stF fs (okWf h)]
 exact ⟨by rw [← wf_st,e,h],e⟩
theorem wf_u {p q:DProgram} {nl:List (List ByteArray)} (h:uP p=.ok (q,nl)):wf true q=true:=by
 have e:=stP_u p q nl h
 obtain ⟨fs⟩:=p
 rw [← wf_st,e]
 exact (uP_ok h).1
end Go.Proofs.YtoajecnoffhlbaaDoor
namespace Go.Proofs.YtoajecnoffhlbaaDoor
open Go
def Nz {α:Type} (u:Ex α):Prop:=∀ c,u=.error c→c ≠ 0
theorem Nz.ok {α:Type} (x:α):Nz (.ok x:Ex α):=fun c h=>by cases h
theorem Nz.er {α:Type} {c:Int} (h:c ≠ 0):Nz (.error c:Ex α):=fun c' h'=>by cases h'; exact h
theorem Nz.eb {α β:Type} {u:Ex α} {f:α→Ex β} (h:Nz u) (hf : ∀ x,Nz (f x)):Nz (eb u f):=by
 cases u with
 | error c=>intro c' h'; cases h'; exact h c rfl
 | ok x=>exact hf x
theorem Nz.eb3 {α β:Type} {u:Ex (List ByteArray × List Nat × α)} {f:List ByteArray→List Nat→α→Ex β} (h:Nz u) (hf : ∀ a b x,Nz (f a b x)):Nz (eb3 u f):=by
 cases u with
 | error c=>intro c' h'; cases h'; exact h c rfl
 | ok x=>exact hf x.1 x.2.1 x.2.2
theorem Nz.uD {α:Type} {b:Bool} {c:Int} {x:Ex α} (hc:c ≠ 0) (h:Nz x):Nz (uD b c x):=by
 cases b with
 | false=>exact .er hc
 | true=>exact h
theorem Nz.cond {α:Type} {b:Bool} {u v:Ex α} (h:Nz u) (h' : Nz v):Nz (cond b u v):=by
 cases b
 ·exact h'
 ·exact h
theorem Nz.uMk {nm:List ByteArray} {vis:List Nat} {a:ByteArray}:Nz (uMk nm vis a):=by
 unfold Go.Proofs.YtoajecnoffhlbaaDoor.uMk
 cases slotOf nm vis a with
 | none=>exact .ok _
 | some v=>exact .er (by decide)
theorem Nz.uCall {op:Int} {fr:ByteArray} {na:Nat} : ∀ {l:List DFunc} {i:Nat},Nz (uCall op fr na l i)
 | [],i=>.er (by decide)
 | .mk nm ps r fl v b :: l,i=>by
  unfold Go.Proofs.YtoajecnoffhlbaaDoor.uCall
  exact .cond (.cond (.cond (.ok _) (.er (by decide))) (.er (by decide))) .uCall
theorem Nz.uEs {nm:List ByteArray} {vis:List Nat} {l:List DExpr}:Nz (uEs nm vis l):=fun c h=>by rw [uEs_20 h]; decide
section
variable (fs:List DFunc) (f2:Int) (f3:Bool)
theorem uS_nz : ∀ n:Nat,
  (∀ s,szS s≤n→∀ lo nm vis,Nz (uS fs f2 f3 lo nm vis s)) ∧
  (∀ l,szSs l≤n→∀ lo nm vis,Nz (uSs fs f2 f3 lo nm vis l)) ∧
  (∀ c,szC c≤n→∀ lo nm vis,Nz (uC fs f2 f3 lo nm vis c)) ∧
  (∀ l,szCs l≤n→∀ lo nm vis,Nz (uCs fs f2 f3 lo nm vis l))
 | 0=>by
  refine ⟨fun s h=>?_,fun l h=>?_,fun c h=>?_,fun l h=>?_⟩
  ·have:=szS_pos s; omega
  ·cases l with
   | nil=>intro lo nm vis; simp only [uSs]; exact .ok _
   | cons s l=>have:=szS_pos s; simp only [szSs] at h; omega
  ·have:=szC_pos c; omega
  ·cases l with
   | nil=>intro lo nm vis; simp only [uCs]; exact .ok _
   | cons s l=>have:=szC_pos s; simp only [szCs] at h; omega
 | n + 1=>by
  obtain ⟨i1,i2,i3,i4⟩:=uS_nz n
  have a1 : ∀ s,szS s≤n + 1→∀ lo nm vis,Nz (uS fs f2 f3 lo nm vis s):=by
   rintro ⟨op,name,s2,fr,s4,flag,l6,l7,l8,l9,l10⟩ h lo nm vis
   simp only [szS] at h
   have h7:=i2 l7 (by omega)
   have h8:=i2 l8 (by omega)
   have h9:=i2 l9 (by omega)
   have h10:=i4 l10 (by omega)
   simp only [uS,uB_eq,uI_eq]
   have hmk : ∀ nm vis,Nz (cond (seq name ⟨#[]⟩) (.ok (nm,vis,s2)) (uMk nm vis name):Ex (List ByteArray × List Nat × Int)):=fun nm vis=>.cond (.ok _) .uMk
   refine .eb .uEs fun r6=>.cond (.eb3 (h10 _ _ _) fun _ _ _=>.ok _) (.eb (.cond (.ok _) .uCall) fun ix=>?_)
   refine .cond ?_ (.cond (.uD (by decide) (.ok _)) (.cond (.uD (by decide) (.ok _)) (.cond (.uD (by decide) (.ok _)) (.cond (.eb3 (.eb3 (h7 _ _ _) fun _ _ _=>.ok _) fun _ _ _=>.ok _) ?_))))
   ·cases slotOf nm vis name with
    | none=>exact .er (by decide)
    | some v=>exact .ok _
   refine .cond (.eb3 (.eb3 (hmk _ _) fun _ _ _=>.eb3 (h7 _ _ _) fun _ _ _=>.ok _) fun _ _ _=>.ok _) ?_
   refine .cond (.eb3 (.eb3 (hmk _ _) fun _ _ _=>.eb3 (h7 _ _ _) fun _ _ _=>.ok _) fun _ _ _=>.ok _) ?_
   refine .cond (.eb3 (.eb3 (h7 _ _ _) fun _ _ _=>.ok _) fun _ _ _=>.eb3 (.eb3 (hmk _ _) fun _ _ _=>.eb3 (h8 _ _ _) fun _ _ _=>.ok _) fun _ _ _=>.eb3 (.eb3 (h9 _ _ _) fun _ _ _=>.ok _) fun _ _ _=>.ok _) ?_
   exact .cond (.eb3 (.eb3 (h7 _ _ _) fun _ _ _=>.ok _) fun _ _ _=>.eb3 (.eb3 (h8 _ _ _) fun _ _ _=>.ok _) fun _ _ _=>.ok _) (.eb3 (hmk _ _) fun _ _ _=>.uD (by decide) (.ok _))
  have a3 : ∀ c,szC c≤n + 1→∀ lo nm vis,Nz (uC fs f2 f3 lo nm vis c):=by
   rintro ⟨kind,name,slot,es,b⟩ h lo nm vis
   simp only [szC] at h
   simp only [uC,uI_eq]
   exact .eb .uEs fun _=>.eb3 (.eb3 (.cond (.ok _) .uMk) fun _ _ _=>.eb3 (i2 b (by omega) _ _ _) fun _ _ _=>.ok _) fun _ _ _=>.ok _
  have a2 : ∀ l,szSs l≤n + 1→∀ lo nm vis,Nz (uSs fs f2 f3 lo nm vis l):=by
   intro l
   induction l with
   | nil=>intro h lo nm vis; simp only [uSs]; exact .ok _
   | cons s l ih =>
    intro h lo nm vis
    simp only [szSs] at h
    simp only [uSs]
    exact .eb3 (a1 s (by omega) _ _ _) fun _ _ _=>.eb3 (ih (by omega) _ _ _) fun _ _ _=>.ok _
  have a4 : ∀ l,szCs l≤n + 1→∀ lo nm vis,Nz (uCs fs f2 f3 lo nm vis l):=by
   intro l
   induction l with
   | nil=>intro h lo nm vis; simp only [uCs]; exact .ok _
   | cons s l ih =>
    intro h lo nm vis
    simp only [szCs] at h
    simp only [uCs]
    exact .eb3 (a3 s (by omega) _ _ _) fun _ _ _=>.eb3 (ih (by omega) _ _ _) fun _ _ _=>.ok _
  exact ⟨a1,a2,a3,a4⟩
end
theorem uPs_nz : ∀ (l:List DParam) (nm:List ByteArray) (vis:List Nat),Nz (uPs nm vis l)
 | [],nm,vis=>.ok _
 | .mk a kd :: l,nm,vis=>by
  unfold uPs
  exact .eb3 .uMk fun _ _ _=>uPs_nz l _ _
theorem uFs_nz (fs:List DFunc) : ∀ l,Nz (uFs fs l)
 | []=>.ok _
 | .mk n ps res fl v b :: l=>by
  unfold uFs uF
  exact .eb (.eb3 (uPs_nz _ _ _) fun _ _ _=>.eb3 ((uS_nz fs res fl (szSs b)).2.1 b (Nat.le_refl _) _ _ _) fun _ _ _=>.uD (by decide) (.ok _)) fun _=>.eb (uFs_nz fs l) fun _=>.ok _
theorem uP_err {p:DProgram} {c:Int} (h:uP p=.error c):c ≠ 0:=by
 obtain ⟨fs⟩:=p
 refine (show Nz (uD (wf false (.mk fs)) 2 (uD (!dupF [] fs) 21 (uD (decide (f16_l2 fs=0)) (f16_l2 fs) (eb (uFs fs fs) fun x=>.ok (DProgram.mk x.1,x.2))))) from .uD (by decide) (.uD (by decide) ?_)) c h
 cases hb:decide (f16_l2 fs=0) with
 | false=>exact .er (of_decide_eq_false hb)
 | true=>exact .eb (uFs_nz fs fs) fun _=>.ok _
end Go.Proofs.YtoajecnoffhlbaaDoor
namespace Go.Proofs.YtoajecnoffhlbaaDoor
open Go
mutual
theorem fitE_st : ∀ e,fitE (stE e)→fitE e
 | .mk _ _ _ _ l=>by
  simp only [stE,fitE,stEs_len]
  exact fun h=>⟨h.1,fitEs_st l h.2⟩
theorem fitEs_st : ∀ l,fitEs (stEs l)→fitEs l
 | []=>fun h=>h
 | e :: l=>by
  simp only [stEs,fitEs]
  exact fun h=>⟨fitE_st e h.1,fitEs_st l h.2⟩
end
mutual
theorem fitS_st : ∀ s,fitS (stS s)→fitS s
 | .mk _ _ _ _ _ _ l6 l7 l8 l9 l10=>by
  simp only [stS,fitS,stEs_len,stSs_len,stCs_len]
  exact fun h=>⟨⟨h.1.1,fitEs_st l6 h.1.2⟩,⟨h.2.1.1,fitSs_st l7 h.2.1.2⟩,⟨h.2.2.1.1,fitSs_st l8 h.2.2.1.2⟩,⟨h.2.2.2.1.1,fitSs_st l9 h.2.2.2.1.2⟩,⟨h.2.2.2.2.1,fitCs_st l10 h.2.2.2.2.2⟩⟩
theorem fitSs_st : ∀ l,fitSs (stSs l)→fitSs l
 | []=>fun h=>h
 | e :: l=>by
  simp only [stSs,fitSs]
  exact fun h=>⟨fitS_st e h.1,fitSs_st l h.2⟩
theorem fitC_st : ∀ c,fitC (stC c)→fitC c
 | .mk _ _ _ l b=>by
  simp only [stC,fitC,stEs_len,stSs_len]
  exact fun h=>⟨⟨h.1.1,fitEs_st l h.1.2⟩,⟨h.2.1,fitSs_st b h.2.2⟩⟩
theorem fitCs_st : ∀ l,fitCs (stCs l)→fitCs l
 | []=>fun h=>h
 | e :: l=>by
  simp only [stCs,fitCs]
  exact fun h=>⟨fitC_st e h.1,fitCs_st l h.2⟩
end
theorem fitFs_st : ∀ l,fitFs (stFs l)→fitFs l
 | []=>fun h=>h
 | .mk _ ps _ _ _ b :: l=>by
  simp only [stFs,stF,fitFs,fitF,stSs_len]
  exact fun h=>⟨⟨h.1.1,h.1.2.1,fitSs_st b h.1.2.2⟩,fitFs_st l h.2⟩
theorem fitP_st : ∀ p,fitP (stP p)→fitP p
 | .mk fs=>by
  simp only [stP,fitP,stFs_len]
  exact fun h=>⟨h.1,fitFs_st fs h.2⟩
theorem f7_uP (k:Nat) (p:DProgram) (hk:2 * szP p + 1≤k) (hk2:4 * 600≤k):f7 k p=some (match uP p with | .error c=>(.mk [],c) | .ok x=>(x.1,0)):=by
 have h:=f16_eq k p hk hk2
 obtain ⟨fs⟩:=p
 unfold f7 f7_b f1001447 f1001504 f1001504_b
 simp only [h,Option.bind_some]
 cases uP (.mk fs) with
 | error c=>rfl
 | ok x=>obtain ⟨⟨q⟩,l⟩:=x; rfl
theorem f3_eq (k:Nat) (p:DProgram) (hk:2 * szP p + 2500≤k) (hf:fitP p):f3 (k + 100) p=some true:=by
 obtain ⟨b,h5⟩:=f5_tot (k + 100) p (by omega)
 have h7:=f7_uP (k + 100) p (by omega) (by omega)
 have h8:=f8_eq (k + 100) p (by omega) hf
 have h9:=f9_eq (k + 100) p (by omega)
 obtain ⟨fs⟩:=p
 unfold f3 f3_b
 simp only [h5,f6_eq,h7,Option.bind_some]
 cases b with
 | false=>rfl
 | true =>
  simp only [Bool.not_true,cond_false]
  cases hu:uP (.mk fs) with
  | error c =>
   have hc:(c != 0)=true:=by simpa using uP_err hu
   simp only [hc,cond_true]
   rfl
  | ok y =>
   obtain ⟨⟨q⟩,nl⟩:=y
   have e:=stP_u _ _ _ hu
   have hsz:szP (.mk q)=szP (.mk fs):=by rw [← szP_st (.mk q),e]
   have hfq:fitP (.mk q):=fitP_st _ (by rw [e]; exact hf)
   have h8q:=f8_eq (k + 100) (.mk q) (by rw [hsz]; omega) hfq
   have h9q:=f9_eq (k + 100) (.mk q) (by rw [hsz]; omega)
   obtain ⟨hw,e2⟩:=wf_both (uP_ok hu).1
   rw [wf_u hu,e] at h8q
   rw [hw,e2] at h8
   simp only [bne_self_eq_false,cond_false,h8q,h9,Option.bind_some,cond_true,Bool.not_true]
   unfold f3_j2 f3_j3
   simp only [cond_false,h7,hu,h8,Option.bind_some,beq_self_eq_true,cond_true,h9q,f6_eq]
end Go.Proofs.YtoajecnoffhlbaaDoor
