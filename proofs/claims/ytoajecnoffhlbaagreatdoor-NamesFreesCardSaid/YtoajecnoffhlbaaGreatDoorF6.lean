/- Words of the same proof, part 6: what the last text needs; nothing is claimed here. -/
import Derived.Test.YtoajecnoffhlbaaGreatDoorF5
import Derived.ProofKit
set_option linter.unusedVariables false
set_option linter.unusedSimpArgs false
set_option maxRecDepth 100000
set_option maxHeartbeats 4000000
namespace Go.Proofs.YtoajecnoffhlbaaGreatDoor
open Go
theorem f29_b_ok (k:Nat):f29_spec (f29_b k):=by
 unfold f29_spec;intro K wi ct cU bv cV h hG cu cw;obtain ⟨r_,hr_,h⟩:=rz h;obtain ⟨aU⟩:=ct;obtain ⟨aV,c1,rfl,cx⟩:=RDProgram.open cu;refine enter Tryz.func29 rfl (n:=23) rfl ?_;unfold f29_b at h;refine sr (bxoC (cs:=#[sl aV aU c1]) cw rfl rfl (fun cW bC=>(m2 nS (wt (sr (lN 0 ([sl aV aU c1]) bC Tya24 Tys24 ?_))))));obtain ⟨⟨I⟩,cy,h⟩:=ob h;refine cv ([.agg #[sl aV aU c1]]) Tyb24 ((f24_ok k) cy (hG.mono kr) (RDProgram.intro cx) (pt bC)) ?_;rintro _ aY ⟨b8,cX,rfl,bf,cz⟩;have cA:=ca bf bC;obtain ⟨J,N,rfl,bg⟩:=RDProgram.open cz;refine aC #[nS] cA Tyz24 (fun cY cB=>(sI 0 (.agg #[sl J I N]) #[sl J I N] cB Tys24 rfl rfl (fun bh cC=>(wt (wp_cut (fun a w=>∃ b9 av bD bE bF bG bH bI bJ bK cb cc ce bL bM bN bi bj bk bO bP bQ cf ch,a=fr 23 (updL b9 [(6,pp bD 0)])∧KH.sub b8 av∧SR K av wi w [] [.box (zz wi) bD #[sl bF bE bG,.string bH,sl bJ bI bK,iI cb,.bool cc,iI ce,sl bM bL bN,sl bj bi bk,sl bP bO bQ,iI cf,iI ch] 78]∧tF av bF bG bE∧bH.size ≤ mB∧tP av bJ bK bI∧tS av bM bN bL∧RSl BA RStr 1 16 av bj bk bi∧RSl Int (RInt .i64) 1 8 av bP bQ bO∧f29_j1 k bi=some r_) ?_ ?_)))))
 ·have aI:=cC.drew;refine regAny (E:=[13,14]) (F:=FW b8 [.box (zz wi) (zz aY) #[sl J I N] 24,.box (zz wi) (zz wi) #[sl aV aU c1] 24]) (L:=(lb 15 0)) ymx rfl rfl (kF 0 0 rfl Tyf24_0 rfl (fq [0,1] aI) (tL 1 (sl J I N) [[13,1],[14,1]] 0 rfl Tya22 (fq [0,1] aI) (kF 2 0 rfl Tyf24_0 rfl (fq [0,1] aI) (tL 3 (sl J I N) [[13,3],[14,3]] 0 rfl Tya22 (fq [0,1] aI) (kM 4 (iI bv) rfl (fq [0,1] aI) ?_)))));obtain ⟨⟨a2,a3,a4,a5,a6,a7⟩,bR,h⟩:=ob h;obtain ⟨ci,cj,cZ,cD,c2,cG,bm⟩:=(bg).row.at_ (idxO_at bR).1;obtain ⟨a8,a9,ba,bb,rfl,c3,c4,c5⟩:=RDFunc.open bm;refine kK 5 (pp ci (cj + bv.toNat * 6)) rfl (fun w=>idxG_r (b:=ci) (o:=cj) (i:=bv) Tye22 Tys38 rfl cD rfl (idxO_at bR).2.1 (idxO_at bR).2.2) (fq [0,1] aI) (tT 6 (.agg (aF a2 a8 a3 a9 a4 a5 a6 ba a7 bb)) [[13,6],[14,6]] rfl (fq [0,1] aI) (fun w hF=>ldN_r (cs:=(vF a2 a8 a3 a9 a4 a5 a6 ba a7 bb)) Tya38 Tys38 rfl rfl (fun j v hj=>hF.cell (kr.cell (cG j v hj)))) (anyAll (rs:=[7,11,12]) (by kernel_rfl) (by decide) (allC ?_ (allC ?_ (allC ?_ allN)))))
  ·refine opL (i:=7) rfl ?_;obtain ⟨⟨⟨c,⟨d,e,f,g,l,m⟩,p,q,r,s⟩,⟨t,u,x,y,z,A⟩⟩,cH,h⟩:=ob h;refine cv ([sl J I N,.agg (aF a2 a8 a3 a9 a4 a5 a6 ba a7 bb)]) Tyb46 ((f46_ok k) cH (hG.mono bf.sub) bg bm (pt aI)) ?_;rintro _ bS ⟨bw,c6,ck,rfl,aJ,cI,bp⟩;have bn:=ca aJ aI;obtain ⟨aw,ax,B,C,ay,az,aA,aB,aG,aH,rfl,cl,cm,bo,cn,co,cq⟩:=RDlook.open cI;obtain ⟨D,G,aW,aX,rfl,c7,bx,c8⟩:=RDFunc.open bp;refine wb (fwOf (is:=[0,1]) bn aJ.sub rfl) (fun q0=>kM 8 (.tuple #[.agg #[sl aw c ax,.string d,sl B e C,iI f,.bool g,iI l,sl ay m az,sl aA p aB,sl aG q aH,iI r,iI s],.agg (aF t D u G x y z aW A aX)]) rfl q0 (kE 9 (.agg #[sl aw c ax,.string d,sl B e C,iI f,.bool g,iI l,sl ay m az,sl aA p aB,sl aG q aH,iI r,iI s]) rfl q0 (kE 10 (.agg (aF t D u G x y z aW A aX)) rfl q0 (anyAll (rs:=[11,12]) (by kernel_rfl) (by decide) (allC ?_ (allC ?_ allN))))))
   ·refine opL (i:=11) rfl (aC #[nS,sE,nS,iI 0,vN,iI 0,nS,nS,nS,iI 0,iI 0] bn Tyz78 (fun bz bq=>(wb (fwOf (is:=[1,2]) bq aJ.sub rfl) (fun _=>aO 12 rfl (aC zF.toArray bq Tyz38 (fun bT aK=>(wb (fwOf (is:=[2,3]) aK aJ.sub rfl) (fun _=>aO 13 rfl (sI 1 (.agg #[sl aw c ax,.string d,sl B e C,iI f,.bool g,iI l,sl ay m az,sl aA p aB,sl aG q aH,iI r,iI s]) #[sl aw c ax,.string d,sl B e C,iI f,.bool g,iI l,sl ay m az,sl aA p aB,sl aG q aH,iI r,iI s] aK Tys78 rfl rfl (fun br aL=>(wt ⟨hE 13,aO 14 rfl (sI 0 (.agg (aF t D u G x y z aW A aX)) ((aF t D u G x y z aW A aX)) aL Tys38 rfl rfl (fun aM aN=>?_))⟩)))))))))));have aP:=aN;exact wt ⟨hE 14,aD (thenN (⟨_,bw,(zz bS),c,aw,ax,d,e,B,C,f,g,l,m,ay,az,p,aA,aB,q,aG,aH,r,s,fR,aJ.sub,(aP.sel [1]),cl,cm,bo,cn,co,cq,h⟩))⟩
   ·refine opL (i:=12) rfl (aC zF.toArray bn Tyz38 (fun bz bq=>(wb (fwOf (is:=[1,2]) bq aJ.sub rfl) (fun _=>aO 11 rfl (aC #[nS,sE,nS,iI 0,vN,iI 0,nS,nS,nS,iI 0,iI 0] bq Tyz78 (fun bT aK=>(wb (fwOf (is:=[2,3]) aK aJ.sub rfl) (fun _=>aO 13 rfl (sI 0 (.agg #[sl aw c ax,.string d,sl B e C,iI f,.bool g,iI l,sl ay m az,sl aA p aB,sl aG q aH,iI r,iI s]) #[sl aw c ax,.string d,sl B e C,iI f,.bool g,iI l,sl ay m az,sl aA p aB,sl aG q aH,iI r,iI s] aK Tys78 rfl rfl (fun br aL=>(wt ⟨hE 13,aO 14 rfl (sI 1 (.agg (aF t D u G x y z aW A aX)) ((aF t D u G x y z aW A aX)) aL Tys38 rfl rfl (fun aM aN=>?_))⟩)))))))))));have aP:=aN;exact wt ⟨hE 14,aD (thenN (⟨_,bw,(zz bz),c,aw,ax,d,e,B,C,f,g,l,m,ay,az,p,aA,aB,q,aG,aH,r,s,fR,aJ.sub,(aP.sel [0]),cl,cm,bo,cn,co,cq,h⟩))⟩
  ·refine opL (i:=11) rfl (aC #[nS,sE,nS,iI 0,vN,iI 0,nS,nS,nS,iI 0,iI 0] aI Tyz78 (fun bA aZ=>(wb (fq [1,2] aZ) (fun _=>anyAll (rs:=[7,12]) (by kernel_rfl) (by decide) (allC ?_ (allC ?_ allN))))))
   ·refine opL (i:=7) rfl ?_;obtain ⟨⟨⟨c,⟨d,e,f,g,l,m⟩,p,q,r,s⟩,⟨t,u,x,y,z,A⟩⟩,bU,h⟩:=ob h;refine cv ([sl J I N,.agg (aF a2 a8 a3 a9 a4 a5 a6 ba a7 bb)]) Tyb46 ((f46_ok k) bU (hG.mono bf.sub) bg bm (pt aZ)) ?_;rintro _ bB ⟨bs,ck,bV,rfl,aj,bp,bd⟩;have aQ:=ca aj aZ;obtain ⟨O,S,U,V,W,X,Y,Z,ab,ac,rfl,bW,bX,bY,bZ,b0,b1⟩:=RDlook.open bp;obtain ⟨ak,al,am,an,rfl,cJ,cK,cL⟩:=RDFunc.open bd;refine wb (fwOf (is:=[1,2]) aQ aj.sub rfl) (fun q1=>kM 8 (.tuple #[.agg #[sl O c S,.string d,sl U e V,iI f,.bool g,iI l,sl W m X,sl Y p Z,sl ab q ac,iI r,iI s],.agg (aF t ak u al x y z am A an)]) rfl q1 (kE 9 (.agg #[sl O c S,.string d,sl U e V,iI f,.bool g,iI l,sl W m X,sl Y p Z,sl ab q ac,iI r,iI s]) rfl q1 (kE 10 (.agg (aF t ak u al x y z am A an)) rfl q1 (aO 12 rfl (aC zF.toArray aQ Tyz38 (fun bT aK=>(wb (fwOf (is:=[2,3]) aK aj.sub rfl) (fun _=>aO 13 rfl (sI 1 (.agg #[sl O c S,.string d,sl U e V,iI f,.bool g,iI l,sl W m X,sl Y p Z,sl ab q ac,iI r,iI s]) #[sl O c S,.string d,sl U e V,iI f,.bool g,iI l,sl W m X,sl Y p Z,sl ab q ac,iI r,iI s] aK Tys78 rfl rfl (fun br aL=>(wt ⟨hE 13,aO 14 rfl (sI 0 (.agg (aF t ak u al x y z am A an)) ((aF t ak u al x y z am A an)) aL Tys38 rfl rfl (fun aM aN=>?_))⟩)))))))))));have aP:=aN;exact wt ⟨hE 14,aD (thenN (⟨_,bs,(zz bh.drew),c,O,S,d,e,U,V,f,g,l,m,W,X,p,Y,Z,q,ab,ac,r,s,fR,aj.sub,(aP.sel [1]),bW,bX,bY,bZ,b0,b1,h⟩))⟩
   ·refine opL (i:=12) rfl (aC zF.toArray aZ Tyz38 (fun cM be=>(wb (fq [2,3] be) (fun _=>aO 7 rfl ?_))));obtain ⟨⟨⟨c,⟨d,e,f,g,l,m⟩,p,q,r,s⟩,⟨t,u,x,y,z,A⟩⟩,b2,h⟩:=ob h;refine cv ([sl J I N,.agg (aF a2 a8 a3 a9 a4 a5 a6 ba a7 bb)]) Tyb46 ((f46_ok k) b2 (hG.mono bf.sub) bg bm (pt be)) ?_;rintro _ cN ⟨bu,bV,cO,rfl,au,bd,b3⟩;have aT:=ca au be;obtain ⟨B,C,ad,ae,af,ag,ah,ai,D,G,rfl,bo,b4,b5,b6,b7,bx⟩:=RDlook.open bd;obtain ⟨ao,ap,aq,ar,rfl,cP,cQ,cR⟩:=RDFunc.open b3;refine wb (fwOf (is:=[2,3]) aT au.sub rfl) (fun q2=>kM 8 (.tuple #[.agg #[sl B c C,.string d,sl ad e ae,iI f,.bool g,iI l,sl af m ag,sl ah p ai,sl D q G,iI r,iI s],.agg (aF t ao u ap x y z aq A ar)]) rfl q2 (kE 9 (.agg #[sl B c C,.string d,sl ad e ae,iI f,.bool g,iI l,sl af m ag,sl ah p ai,sl D q G,iI r,iI s]) rfl q2 (kE 10 (.agg (aF t ao u ap x y z aq A ar)) rfl q2 (aO 13 rfl (sI 1 (.agg #[sl B c C,.string d,sl ad e ae,iI f,.bool g,iI l,sl af m ag,sl ah p ai,sl D q G,iI r,iI s]) #[sl B c C,.string d,sl ad e ae,iI f,.bool g,iI l,sl af m ag,sl ah p ai,sl D q G,iI r,iI s] aT Tys78 rfl rfl (fun br aL=>(wt ⟨hE 13,aO 14 rfl (sI 0 (.agg (aF t ao u ap x y z aq A ar)) ((aF t ao u ap x y z aq A ar)) aL Tys38 rfl rfl (fun aM aN=>?_))⟩)))))));have aP:=aN;exact wt ⟨hE 14,aD (thenN (⟨_,bu,(zz bh.drew),c,B,C,d,e,ad,ae,f,g,l,m,af,ag,p,ah,ai,q,D,G,r,s,fR,au.sub,(aP.sel [1]),bo,b4,b5,b6,b7,bx,h⟩))⟩
  ·refine opL (i:=12) rfl (aC zF.toArray aI Tyz38 (fun bA aZ=>(wb (fq [1,2] aZ) (fun _=>anyAll (rs:=[7,11]) (by kernel_rfl) (by decide) (allC ?_ (allC ?_ allN))))))
   ·refine opL (i:=7) rfl ?_;obtain ⟨⟨⟨c,⟨d,e,f,g,l,m⟩,p,q,r,s⟩,⟨t,u,x,y,z,A⟩⟩,bU,h⟩:=ob h;refine cv ([sl J I N,.agg (aF a2 a8 a3 a9 a4 a5 a6 ba a7 bb)]) Tyb46 ((f46_ok k) bU (hG.mono bf.sub) bg bm (pt aZ)) ?_;rintro _ bB ⟨bs,ck,bV,rfl,aj,bp,bd⟩;have aQ:=ca aj aZ;obtain ⟨O,S,U,V,W,X,Y,Z,ab,ac,rfl,bW,bX,bY,bZ,b0,b1⟩:=RDlook.open bp;obtain ⟨ak,al,am,an,rfl,cJ,cK,cL⟩:=RDFunc.open bd;refine wb (fwOf (is:=[1,2]) aQ aj.sub rfl) (fun q3=>kM 8 (.tuple #[.agg #[sl O c S,.string d,sl U e V,iI f,.bool g,iI l,sl W m X,sl Y p Z,sl ab q ac,iI r,iI s],.agg (aF t ak u al x y z am A an)]) rfl q3 (kE 9 (.agg #[sl O c S,.string d,sl U e V,iI f,.bool g,iI l,sl W m X,sl Y p Z,sl ab q ac,iI r,iI s]) rfl q3 (kE 10 (.agg (aF t ak u al x y z am A an)) rfl q3 (aO 11 rfl (aC #[nS,sE,nS,iI 0,vN,iI 0,nS,nS,nS,iI 0,iI 0] aQ Tyz78 (fun bT aK=>(wb (fwOf (is:=[2,3]) aK aj.sub rfl) (fun _=>aO 13 rfl (sI 0 (.agg #[sl O c S,.string d,sl U e V,iI f,.bool g,iI l,sl W m X,sl Y p Z,sl ab q ac,iI r,iI s]) #[sl O c S,.string d,sl U e V,iI f,.bool g,iI l,sl W m X,sl Y p Z,sl ab q ac,iI r,iI s] aK Tys78 rfl rfl (fun br aL=>(wt ⟨hE 13,aO 14 rfl (sI 1 (.agg (aF t ak u al x y z am A an)) ((aF t ak u al x y z am A an)) aL Tys38 rfl rfl (fun aM aN=>?_))⟩)))))))))));have aP:=aN;exact wt ⟨hE 14,aD (thenN (⟨_,bs,(zz bB),c,O,S,d,e,U,V,f,g,l,m,W,X,p,Y,Z,q,ab,ac,r,s,fR,aj.sub,(aP.sel [0]),bW,bX,bY,bZ,b0,b1,h⟩))⟩
   ·refine opL (i:=11) rfl (aC #[nS,sE,nS,iI 0,vN,iI 0,nS,nS,nS,iI 0,iI 0] aZ Tyz78 (fun cM be=>(wb (fq [2,3] be) (fun _=>aO 7 rfl ?_))));obtain ⟨⟨⟨c,⟨d,e,f,g,l,m⟩,p,q,r,s⟩,⟨t,u,x,y,z,A⟩⟩,b2,h⟩:=ob h;refine cv ([sl J I N,.agg (aF a2 a8 a3 a9 a4 a5 a6 ba a7 bb)]) Tyb46 ((f46_ok k) b2 (hG.mono bf.sub) bg bm (pt be)) ?_;rintro _ cN ⟨bu,bV,cO,rfl,au,bd,b3⟩;have aT:=ca au be;obtain ⟨B,C,ad,ae,af,ag,ah,ai,D,G,rfl,bo,b4,b5,b6,b7,bx⟩:=RDlook.open bd;obtain ⟨ao,ap,aq,ar,rfl,cP,cQ,cR⟩:=RDFunc.open b3;refine wb (fwOf (is:=[2,3]) aT au.sub rfl) (fun q4=>kM 8 (.tuple #[.agg #[sl B c C,.string d,sl ad e ae,iI f,.bool g,iI l,sl af m ag,sl ah p ai,sl D q G,iI r,iI s],.agg (aF t ao u ap x y z aq A ar)]) rfl q4 (kE 9 (.agg #[sl B c C,.string d,sl ad e ae,iI f,.bool g,iI l,sl af m ag,sl ah p ai,sl D q G,iI r,iI s]) rfl q4 (kE 10 (.agg (aF t ao u ap x y z aq A ar)) rfl q4 (aO 13 rfl (sI 0 (.agg #[sl B c C,.string d,sl ad e ae,iI f,.bool g,iI l,sl af m ag,sl ah p ai,sl D q G,iI r,iI s]) #[sl B c C,.string d,sl ad e ae,iI f,.bool g,iI l,sl af m ag,sl ah p ai,sl D q G,iI r,iI s] aT Tys78 rfl rfl (fun br aL=>(wt ⟨hE 13,aO 14 rfl (sI 1 (.agg (aF t ao u ap x y z aq A ar)) ((aF t ao u ap x y z aq A ar)) aL Tys38 rfl rfl (fun aM aN=>?_))⟩)))))));have aP:=aN;exact wt ⟨hE 14,aD (thenN (⟨_,bu,(zz bA),c,B,C,d,e,ad,ae,f,g,l,m,af,ag,p,ah,ai,q,D,G,r,s,fR,au.sub,(aP.sel [0]),bo,b4,b5,b6,b7,bx,h⟩))⟩
 ·rintro _ c9 ⟨b9,av,bD,bE,bF,bG,bH,bI,bJ,bK,cb,cc,ce,bL,bM,bN,bi,bj,bk,bO,bP,bQ,cf,ch,rfl,da,cr,db,dc,dd,de,cS,df,h⟩;unfold f29_j1 at h;refine sr (fd 7 Tyf78_2 rfl (l1 0 (sl bj bi bk) cr Tya46 (m2 (sl bj bi bk) (wt (wp_ret ?_)))));cases (oi h).trans hr_;exact retA1 rfl (resT rfl) ⟨av,bj,bk,rfl,(cr.sel []),cS⟩
theorem f29_ok (k:Nat):f29_spec (f29 k):=f29_b_ok k
theorem f73_b_ok (k:Nat):f73_spec (f73_b k):=by
 unfold f73_spec;intro K wi d g j l C h hG q D u;obtain ⟨r_,hr_,h⟩:=rz h;refine enter Tryz.func73 rfl (n:=18) rfl ?_;unfold f73_b at h;refine sr (m2 vN (wt (wp_seq (sr (m2 (iI 0) (wt (wp_block (wp_loopG (fun g_ a w=>∃ s e,∃ (c:Nat),g_=e.length∧a=fr 18 (updL s [(0,sl g d j),(1,.string l),(5,iI (c:Int))])∧SR K K wi w [] []∧d.drop c=e∧f73_l1 k l e c=some r_) d.length ?_ ?_))))))))
 ·exact ⟨_,d,0,rfl,fR,u,List.drop_zero,h⟩
 ·rintro _ _ G ⟨s,e,c,rfl,rfl,m,f,h⟩;rcases e with _ | ⟨t,e⟩
  ·unfold f73_l1 at h;refine wp_seq (sr (m1 (iI (c:Int)) (m1 (sl g d j) (lS d.length Tye46 (bcm (r:=false) rfl rfl (congrArg some (drop_nil_lt f)) (wt (cndF rfl (wp_exit (thenX (thenX (blkX (thenN (sr (m2 vN (wt (wp_ret ?_))))))))))))))));cases (oi h).trans hr_;exact retA1 rfl (resT rfl) ⟨K,rfl,m⟩
  ·unfold f73_l1 at h;refine wp_seq (sr (m1 (iI (c:Int)) (m1 (sl g d j) (lS d.length Tye46 (bcm (r:=true) rfl rfl (congrArg some (drop_cons_t f)) (wt (cndT rfl (wp_skip (thenN (wp_seq (wp_block (sr (m1 (sl g d j) (m1 (iI (c:Int)) ?_))))))))))))));obtain ⟨x,y,I,z,J,A,B⟩:=(q).row.at_ (drop_cons_at f);obtain ⟨rfl,N⟩:=B;refine idxN (b:=x) (o:=y) (i:=c) Tye46 Tys9 rfl z rfl (drop_cons_lt f) (ld1 (v:=.string t) Tya9 rfl (m.cell (kr.cell (A 0 _ rfl))) (m1 (.string l) (bsc (r:=(seq t l)) rfl rfl rfl (wt (cd h (fun p h=>?_) (fun p h=>?_))))))
   ·refine cT p (sr (m2 vT (wt (wp_ret (blkR (thenR (thenR (blkR (thenR ?_)))))))));cases (oi h).trans hr_;exact retA1 rfl (resT rfl) ⟨K,rfl,m⟩
   ·exact cF p (wp_skip (blkN (thenN (wp_region_lit (m1 (iI (c:Int)) (bar (r:=((c + 1:Nat):Int)) rfl rfl (inc_ok (le_big ((q).len) (by decide) (drop_cons_lt f))) (m2 (iI ((c + 1:Nat):Int)) (wt (⟨_,Nat.lt_succ_self _,_,e,c + 1,rfl,fR,m,drop_cons_next f,h⟩)))))))))
theorem f73_ok (k:Nat):f73_spec (f73 k):=f73_b_ok k
theorem f74_b_ok (k:Nat) (F:Fam74) (IH74:f74_spec F.f74):f74_spec (f74_b k F):=by
 unfold f74_spec;intro K wi a u h hG b;obtain ⟨r_,hr_,h⟩:=rz h;refine enter Tryz.func74 rfl (n:=16) rfl ?_;unfold f74_b at h;refine sr (m2 sE (wt (wp_seq (sr (m1 (iI a) (c0 (decide (a < 10)) (wt (cd h (fun c h=>?_) (fun c h=>?_)))))))))
 ·refine cT c (sr (m1 (iI a) (m1 (iI a) (bar (r:=(w64 (a + 1))) rfl rfl rfl ?_))));obtain ⟨d,h⟩:=of_guard h;refine sxB (i:=a) (j:=(w64 (a + 1))) Tyt9 rfl rfl rfl d.1 d.2.1 d.2.2 (m2 (.string ((⟨#[48,49,50,51,52,53,54,55,56,57]⟩:BA).extract a.toNat (w64 (a + 1)).toNat)) (wt (wp_ret (thenR ?_))));cases (oi h).trans hr_;exact retA1 rfl (resT rfl) ⟨K,rfl,b,(ext_size (by decide))⟩
 ·refine cF c (wp_skip (thenN (sr (m1 (iI a) (bdv (r:=(w64 (a.tdiv 10))) rfl rfl (by decide) rfl ?_)))));obtain ⟨l,m,h⟩:=ob h;refine cv ([iI (w64 (a.tdiv 10))]) Tyb74 (IH74 m (hG.mono kr) (pt b)) ?_;rintro _ v ⟨w,rfl,e,x⟩;have f:=ca e b;refine m1 (iI a) (bdv (r:=(a.tmod 10)) rfl rfl (by decide) rfl ?_);obtain ⟨o,p,h⟩:=ob h;refine cv ([iI (a.tmod 10)]) Tyb74 (IH74 p (hG.mono e.sub) (pt f)) ?_;rintro _ y ⟨q,rfl,s,z⟩;have t:=ca s f;obtain ⟨g,h⟩:=of_guard h;refine bsj rfl rfl g (m2 (.string (l ++ o)) (wt (wp_ret ?_)));cases (oi h).trans hr_;exact retA1 rfl (resT rfl) ⟨q,rfl,t,g⟩
theorem fam74_ok (k0:Nat) : ∀ k,f74_spec (fam74 k0 k).f74:=by
 intro k;induction k with
 | zero=>exact (by unfold f74_spec; intro _ _ _ _ h_; cases h_)
 | succ k ih=>exact f74_b_ok k0 (fam74 k0 k) ih
theorem f74_ok (k:Nat):f74_spec (f74 k):=(fam74_ok k k)
theorem f38_b_ok (k:Nat):f38_spec (f38_b k):=by
 unfold f38_spec;intro K wi C ad u c ae h hG D af G;obtain ⟨r_,hr_,h⟩:=rz h;obtain ⟨l⟩:=C;obtain ⟨m,c1,rfl,I⟩:=RDProgram.open D;refine enter Tryz.func38 rfl (n:=24) rfl ?_;unfold f38_b at h;refine sr (bxoC (cs:=#[sl m l c1]) G rfl rfl (fun ag o=>(m2 sE (wt (sr (lN 0 ([sl m l c1]) o Tya24 Tys24 (m1 (iI u) ?_)))))));obtain ⟨d,J,h⟩:=ob h;refine cv ([.agg #[sl m l c1],iI u]) Tyb29 ((f29_ok k) J (hG.mono kr) (RDProgram.intro I) (pt o)) ?_;rintro _ ah ⟨v,g,i,rfl,j,N⟩;have O:=ca j o;refine m2 (sl g d i) (wt (sr (m2 (iI 0) (wt (wp_seq (wp_block (wp_loopG (fun g_ a w=>∃ x p b,a=fr 24 (updL x [(2,.string c),(7,sl g d i),(8,iI b)])∧KH.sub v p∧SR K p wi w [] []∧f38_w1 k c d g_ b=some r_) k ?_ ?_)))))))
 ·exact ⟨_,v,0,fR,kr,(O.sel []),h⟩
 ·rintro g_ _ ai ⟨x,p,b,rfl,e,y,h⟩;rcases g_ with _ | j233
  ·unfold f38_w1 at h;cases h
  ·unfold f38_w1 at h;refine wp_seq (sr (m1 (sl g d i) (m1 (.string c) (m1 (iI b) ?_))));obtain ⟨S,U,h⟩:=ob h;refine cv ([iI b]) Tyb74 ((f74_ok k) U (hG.mono y.sub) (pt y)) ?_;rintro _ aj ⟨ak,rfl,f,al⟩;have z:=ca f y;obtain ⟨A,h⟩:=of_guard h;refine bsj rfl rfl A ?_;obtain ⟨am,V,h⟩:=ob h;refine cv ([sl g d i,.string (c ++ S)]) Tyb73 ((f73_ok k) V (hG.mono ((j.sub.trans e).trans f.sub)) (N.mono (e.trans f.sub) (fun _ _ h=>h)) A (pt z)) ?_;rintro _ an ⟨W,rfl,q⟩;have s:=ca q z;refine wt (cd h (fun t h=>?_) (fun t h=>?_))
   ·exact cT t (wp_skip (thenN (wp_block (wp_region_lit (m1 (iI b) (bar (r:=(w64 (b + 1))) rfl rfl rfl (m2 (iI (w64 (b + 1))) (wpList_nil (blkN (thenN (⟨_,Nat.lt_succ_self _,_,W,(w64 (b + 1)),fR,((e.trans f.sub).trans q.sub),s,h⟩)))))))))))
   ·refine cF t (wp_exit (thenX (thenX (blkX (thenN (sr (m1 (.string c) (m1 (iI b) ?_))))))));obtain ⟨X,Y,h⟩:=ob h;refine cv ([iI b]) Tyb74 ((f74_ok k) Y (hG.mono s.sub) (pt s)) ?_;rintro _ ao ⟨Z,rfl,ab,ap⟩;have ac:=ca ab s;obtain ⟨B,h⟩:=of_guard h;refine bsj rfl rfl B (m2 (.string (c ++ X)) (wt (wp_ret ?_)));cases (oi h).trans hr_;exact retA1 rfl (resT rfl) ⟨Z,rfl,ac,B⟩
theorem f38_ok (k:Nat):f38_spec (f38 k):=f38_b_ok k
theorem f11_b_ok (k:Nat):f11_spec (f11_b k):=by
 unfold f11_spec;intro K wi aB bd f c be h hG aG ac aH;obtain ⟨r_,hr_,h⟩:=rz h;obtain ⟨e⟩:=aB;obtain ⟨m,c1,rfl,O⟩:=RDProgram.open aG;refine enter Tryz.func11 rfl (n:=76) rfl ?_;unfold f11_b at h;refine sr (bxoC (cs:=#[sl m e c1]) aH rfl rfl (fun bf ad=>(m2 vN (wt (wp_seq (sr (lN 0 ([sl m e c1]) ad Tya24 Tys24 ?_)))))));obtain ⟨aI,aJ,h⟩:=ob h;refine cv ([.agg #[sl m e c1]]) Tyb13 ((f13_ok k) aJ (hG.mono kr) (RDProgram.intro O) (pt ad)) ?_;rintro _ bg ⟨bh,rfl,o⟩;have C:=ca o ad;refine uN aI (wt (cd h (fun ae h=>?_) (fun ae h=>?_)))
 ·refine cT ae (sr ?_);obtain ⟨aK,aL,h⟩:=ob h;refine cv ([]) Tyb14 ((f14_ok k) aL (hG.mono o.sub) (pt C)) ?_;rintro _ bi ⟨aM,rfl,aN⟩;have aP:=ca aN C;refine m2 (.bool aK) (wt (wp_ret (thenR ?_)));cases (oi h).trans hr_;exact retA1 rfl (resT rfl) ⟨aM,rfl,(aP.sel [])⟩
 ·refine cF ae (wp_skip (thenN (sr (m1 (.string c) (m1 (.string c) (lnT (a:=c) Tyt9 rfl (mnb (a:=(c.size:Int)) (b:=20) rfl rfl ?_)))))));obtain ⟨an,h⟩:=of_guard h;refine sxH (j:=(imin (c.size:Int) 20)) Tyt9 rfl rfl an.1 an.2 (m2 (.string (c.extract 0 (imin (c.size:Int) 20).toNat)) (wt (sr (lN 0 ([sl m e c1]) C Tya24 Tys24 (m1 (iI f) (m1 (.string (c.extract 0 (imin (c.size:Int) 20).toNat)) ?_))))));obtain ⟨⟨i,g⟩,aQ,h⟩:=ob h;refine cv ([.agg #[sl m e c1],iI f,.string (c.extract 0 (imin (c.size:Int) 20).toNat)]) Tyb36 ((f36_ok k) aQ (hG.mono o.sub) (RDProgram.intro (mf O o.sub)) (ext_size ac) (pt C)) ?_;rintro _ bj ⟨bk,rfl,u,bm⟩;have af:=ca u C;refine m1 (.tuple #[.string i,iI g]) (ext (v:=.string i) rfl rfl (ext (v:=iI g) rfl rfl (m2 (.string i) (m2 (iI g) (wt (sr (lN 0 ([sl m e c1]) af Tya24 Tys24 ?_)))))));obtain ⟨⟨⟨S⟩,p⟩,aT,h⟩:=ob h;refine cv ([.agg #[sl m e c1]]) Tyb27 ((f27_ok k) aT (hG.mono (o.sub.trans u.sub)) (RDProgram.intro (mf O (o.sub.trans u.sub))) (pt af)) ?_;rintro _ bn ⟨D,bo,rfl,A,aU⟩;have aV:=ca A af;obtain ⟨U,V,rfl,bp⟩:=RDProgram.open aU;refine m1 (.tuple #[.agg #[sl U S V],iI p]) (ext (v:=.agg #[sl U S V]) rfl rfl (ext (v:=iI p) rfl rfl (aC #[nS] aV Tyz24 (fun bq aW=>(sI 0 (.agg #[sl U S V]) #[sl U S V] aW Tys24 rfl rfl (fun br B=>(m2 (iI p) (wt (wp_cut (fun a w=>∃ ao x q,a=fr 76 (updL ao [(1,iI f),(3,pp (zz wi) 0),(7,.string (c.extract 0 (imin (c.size:Int) 20).toNat)),(8,.string i),(9,iI g),(11,iI q)])∧KH.sub D x∧SR K x wi w [] [.box (zz wi) (zz wi) #[sl m e c1] 24]∧f11_j1 k e f c i g q=some r_) ?_ ?_)))))))))
  ·refine wp_cut (fun a w=>∃ ap G ag,a=fr 76 (updL ap [(1,iI f),(3,pp (zz wi) 0),(7,.string (c.extract 0 (imin (c.size:Int) 20).toNat)),(8,.string i),(9,iI g),(11,iI p),(50,.bool ag)])∧KH.sub D G∧SR K G wi w [] [.box (zz wi) (zz wi) #[sl m e c1] 24]∧f11_j4 k e f c i g p ag=some r_) ?_ ?_
   ·refine wp_region_lit (m1 (iI p) (c0 (p == 0) (m1 (.bool (p == 0)) (cd h (fun d h=>?_) (fun d h=>?_)))))
    ·refine n1 35 d (m1 (iI f) (n1 35 d (c0 (decide (f < 0)) (n1 35 d (m1 (.bool (decide (f < 0))) (cd h (fun l h=>?_) (fun l h=>?_)))))))
     ·exact o1 38 l (o1 38 l (o1 38 l (o1 38 l (o1 38 l (n1 35 d (m3 true vT (cg l) (n1 35 d (m1 vT (o0 45 (o0 45 (o0 45 (n1 35 d (m3 true vT rfl (m3 true vT (cg d) (wt (⟨_,D,true,fR,kr,(B.sel [1]),h⟩))))))))))))))))
     ·refine n1 38 l (m1 (iI f) (n1 38 l (fd 0 Tyf24_0 rfl (n1 38 l (l1 1 (sl m e c1) B Tya22 (n1 38 l (lS e.length Tye22 (n1 38 l (c0 (decide (f ≥ (e.length:Int))) (n1 35 d (m3 false (.bool (decide (f ≥ (e.length:Int)))) (cg l) (n1 35 d (m1 (.bool (decide (f ≥ (e.length:Int)))) (cd h (fun s h=>?_) (fun s h=>?_)))))))))))))))
      ·exact o1 45 s (o1 45 s (o1 45 s (n1 35 d (m3 true vT (cg s) (m3 true vT (cg d) (wt (⟨_,D,true,fR,kr,(B.sel [1]),h⟩)))))))
      ·refine n1 45 s (m1 (.string (c.extract 0 (imin (c.size:Int) 20).toNat)) (n1 45 s ?_));obtain ⟨W,aX,h⟩:=ob h;refine cv ([.string (c.extract 0 (imin (c.size:Int) 20).toNat)]) Tyb37 ((f37_ok k) aX (hG.mono ((o.sub.trans u.sub).trans A.sub)) (ext_size ac) (pt B)) ?_;rintro _ bs ⟨aY,rfl,aq⟩;have aZ:=ca aq B;exact n1 45 s (uN W (n1 35 d (m3 false (.bool (!W)) (cg s) (m3 true (.bool (!W)) (cg d) (wt (⟨_,aY,(!W),fR,aq.sub,(aZ.sel [1]),h⟩))))))
    ·exact o1 35 d (o1 35 d (o1 35 d (ou 38 (ou 38 (ou 38 (ou 38 (ou 38 (o1 35 d (o1 35 d (ou 45 (ou 45 (ou 45 (o1 35 d (m3 false vN (cg d) (wt (⟨_,D,false,fR,kr,(B.sel [1]),h⟩))))))))))))))))
   ·rintro _ bu ⟨ap,G,ag,rfl,ar,au,h⟩;unfold f11_j4 at h;refine cd h (fun ah h=>?_) (fun ah h=>?_)
    ·exact cT ah (wp_region_lit (m2 (iI 2) (wt (⟨_,G,2,fR,ar,au,h⟩))))
    ·exact cF ah (wp_skip (thenN (⟨_,G,p,fR,ar,au,h⟩)))
  ·rintro _ bv ⟨ao,x,q,rfl,X,y,h⟩;unfold f11_j1 at h;refine wp_seq (sr (m1 (iI q) (c0 (q != 0) (wt (cd h (fun ai h=>?_) (fun ai h=>?_))))))
   ·refine cT ai (wp_cut (fun a w=>∃ av Y aj,a=fr 76 (updL av [(6,.bool aj)])∧KH.sub x Y∧SR K Y wi w [] []∧f11_j2 k aj=some r_) ?_ ?_)
    ·refine wp_region_lit (m1 (.string i) (bsc (r:=(seq i ⟨#[]⟩)) rfl rfl rfl (m1 (.bool (seq i ⟨#[]⟩)) (cd h (fun t h=>?_) (fun t h=>?_)))))
     ·refine n1 55 t (m1 (iI g) (n1 55 t (m1 (iI q) (n1 55 t (c0 (g == q) (m3 true (.bool (g == q)) (cg t) (m1 (.bool (g == q)) (cd h (fun I h=>?_) (fun I h=>?_)))))))))
      ·refine n1 60 I ?_;obtain ⟨ak,a3,h⟩:=ob h;refine cv ([]) Tyb14 ((f14_ok k) a3 (hG.mono y.sub) (pt y)) ?_;rintro _ bw ⟨a4,rfl,aw⟩;have a5:=ca aw y;exact m3 true (.bool ak) (cg I) (m2 (.bool ak) (wt (⟨_,a4,ak,fR,aw.sub,(a5.sel []),h⟩)))
      ·exact o1 60 I (m3 false vN (cg I) (m2 vN (wt (⟨_,x,false,fR,kr,(y.sel []),h⟩))))
     ·exact o1 55 t (o1 55 t (o1 55 t (m3 false vN (cg t) (m1 vN (o0 60 (m3 false vN rfl (m2 vN (wt (⟨_,x,false,fR,kr,(y.sel []),h⟩)))))))))
    ·rintro _ bx ⟨av,Y,aj,rfl,bz,a6,h⟩;unfold f11_j2 at h;refine wp_ret (thenR ?_);cases (oi h).trans hr_;exact retA1 rfl (resT rfl) ⟨Y,rfl,a6⟩
   ·refine cF ai (wp_skip (thenN (wp_cut (fun a w=>∃ ax Z al,a=fr 76 (updL ax [(6,.bool al)])∧KH.sub x Z∧SR K Z wi w [] []∧f11_j3 k al=some r_) ?_ ?_)))
    ·refine wp_region_lit (m1 (.string i) (lN 0 ([sl m e c1]) y Tya24 Tys24 (m1 (iI f) (m1 (.string (c.extract 0 (imin (c.size:Int) 20).toNat)) ?_))));obtain ⟨ay,a7,h⟩:=ob h;refine cv ([.agg #[sl m e c1],iI f,.string (c.extract 0 (imin (c.size:Int) 20).toNat)]) Tyb38 ((f38_ok k) a7 (hG.mono (((o.sub.trans u.sub).trans A.sub).trans X)) (RDProgram.intro (mf O (((o.sub.trans u.sub).trans A.sub).trans X))) (ext_size ac) (pt y)) ?_;rintro _ bA ⟨az,rfl,J,bB⟩;have ab:=ca J y;refine bsc (r:=(seq i ay)) rfl rfl rfl (m1 (.bool (seq i ay)) (cd h (fun z h=>?_) (fun z h=>?_)))
     ·refine n1 69 z (m1 (iI g) (n1 69 z (c0 (g == 0) (m3 true (.bool (g == 0)) (cg z) (m1 (.bool (g == 0)) (cd h (fun N h=>?_) (fun N h=>?_)))))))
      ·refine n1 73 N ?_;obtain ⟨am,a8,h⟩:=ob h;refine cv ([]) Tyb14 ((f14_ok k) a8 (hG.mono ab.sub) (pt ab)) ?_;rintro _ bC ⟨a9,rfl,aA⟩;have ba:=ca aA ab;exact m3 true (.bool am) (cg N) (m2 (.bool am) (wt (⟨_,a9,am,fR,(J.sub.trans aA.sub),(ba.sel []),h⟩)))
      ·exact o1 73 N (m3 false vN (cg N) (m2 vN (wt (⟨_,az,false,fR,J.sub,(ab.sel []),h⟩))))
     ·exact o1 69 z (o1 69 z (m3 false vN (cg z) (m1 vN (o0 73 (m3 false vN rfl (m2 vN (wt (⟨_,az,false,fR,J.sub,(ab.sel []),h⟩))))))))
    ·rintro _ bD ⟨ax,Z,al,rfl,bE,bb,h⟩;unfold f11_j3 at h;refine wp_ret ?_;cases (oi h).trans hr_;exact retA1 rfl (resT rfl) ⟨Z,rfl,bb⟩
theorem f11_ok (k:Nat):f11_spec (f11 k):=f11_b_ok k
end Go.Proofs.YtoajecnoffhlbaaGreatDoor
set_option maxRecDepth 512
set_option maxHeartbeats 200000
namespace Go.Proofs.YtoajecnoffhlbaaGreatDoor
open Go
mutual
def szE:DExpr→Nat | .mk _ _ _ _ l=>szEs l + 1
def szEs:List DExpr→Nat | []=>0 | e :: l=>szE e + szEs l
end
mutual
def szS:DStmt→Nat | .mk _ _ _ _ _ _ a b c d e=>szEs a + szSs b + szSs c + szSs d + szCs e + 1
def szSs:List DStmt→Nat | []=>0 | s :: l=>szS s + szSs l
def szC:DCase→Nat | .mk _ _ _ a b=>szEs a + szSs b + 1
def szCs:List DCase→Nat | []=>0 | c :: l=>szC c + szCs l
end
def szF:DFunc→Nat | .mk _ ps _ _ _ b=>ps.length + szSs b + 1
def szFs:List DFunc→Nat | []=>0 | f :: l=>szF f + szFs l
def szP:DProgram→Nat | .mk fs=>szFs fs + 1
theorem len_szEs : ∀ l:List DExpr,l.length≤szEs l
 | []=>by simp
 | .mk _ _ _ _ a :: l=>by have:=len_szEs l; simp only [List.length_cons,szEs,szE]; omega
theorem len_szFs : ∀ l:List DFunc,l.length≤szFs l
 | []=>by simp
 | .mk _ _ _ _ _ _ :: l=>by have:=len_szFs l; simp only [List.length_cons,szFs,szF]; omega
def letterI (c:Int):Bool:=decide (c ≥ 97) && decide (c≤122)
def digitI (c:Int):Bool:=decide (c ≥ 48) && decide (c≤57)
def runL:List UInt8→Nat→Bool
 | [],_=>true
 | e :: r,i=>(letterI e.toNat || (!((i:Int) == 0) && digitI e.toNat)) && runL r (i + 1)
def isN (s:ByteArray):Bool:=runL s.data.toList 0 && !seq s ⟨#[]⟩ && decide ((s.size:Int)≤12) && !wordsL.any (seq s)
theorem f66_eq (k:Nat) (c:Int):f66 k c=some (letterI c):=by
 unfold f66 f66_b f66_j1 letterI;cases decide (c ≥ 97) <;> rfl
theorem f67_eq (k:Nat) (c:Int):f67 k c=some (digitI c):=by
 unfold f67 f67_b f67_j1 digitI;cases decide (c ≥ 48) <;> rfl
theorem f112_eq (k:Nat) (c:Int):f112 k c=some (letterI c):=by
 unfold f112 f112_b f112_j1 letterI;cases decide (c ≥ 97) <;> rfl
theorem f113_eq (k:Nat) (c:Int):f113 k c=some (digitI c):=by
 unfold f113 f113_b f113_j1 digitI;cases decide (c ≥ 48) <;> rfl
theorem f91_l1_eq (k:Nat) (a:ByteArray) : ∀ (l:List UInt8) (i:Nat),f91_l1 k a l i=some (runL l i && !seq a ⟨#[]⟩)
 | [],i=>by simp [f91_l1,runL]
 | e :: l,i=>by
  unfold f91_l1 runL;rw [f112_eq];simp only [Option.bind_some,f91_j1,f113_eq,f91_l1_eq k a l];cases letterI e.toNat <;> cases ((i:Int) == 0) <;> cases digitI e.toNat <;> simp
theorem f93_l1_eq (k:Nat) (a:ByteArray) : ∀ (l:List ByteArray) (i:Nat),∃ r,f93_l1 k a l i=some r∧decide (r ≥ 0)=l.any (seq a)
 | [],i=>⟨-1,rfl,rfl⟩
 | e :: l,i=>by
  unfold f93_l1;cases h:seq a e
  ·obtain ⟨r,h1,h2⟩:=f93_l1_eq k a l (i + 1);exact ⟨r,h1,by simp [h,h2]⟩
  ·exact ⟨(i:Int),rfl,by simp [h]⟩
theorem f63_eq (k:Nat) (s:ByteArray):f63 k s=some (isN s):=by
 unfold f63 f63_b f91 f91_b isN;rw [f91_l1_eq];simp only [Option.bind_some,f63_j1];obtain ⟨r,h1,h2⟩:=f93_l1_eq k s wordsL 0;have h92:f92 k s=some (wordsL.any (seq s)):=by
  unfold f92 f92_b f114 f64 f64_b f93 f93_b;simp [h1,h2]
 rw [h92];simp only [Option.bind_some];cases runL s.data.toList 0 <;> cases seq s ⟨#[]⟩ <;> cases decide ((s.size:Int)≤12) <;> rfl
theorem seq_comm (a b:ByteArray):seq a b=seq b a:=by
 unfold seq;rw [Bool.eq_iff_iff,beq_iff_eq,beq_iff_eq];exact eq_comm
theorem f68_l1_eq (k:Nat) (a:ByteArray) : ∀ (l:List ByteArray) (i:Nat),f68_l1 k a l i=some (l.any (seq a))
 | [],i=>rfl
 | e :: l,i=>by
  unfold f68_l1;rw [seq_comm e a];cases h:seq a e
  ·simp [h,f68_l1_eq k a l]
  ·simp [h]
theorem words_eq (k:Nat):f97 k=some wordsL:=rfl
theorem f68_eq (k:Nat) (a:ByteArray):f68 k a=some (wordsL.any (seq a)):=by
 unfold f68 f68_b;rw [words_eq];exact f68_l1_eq k a wordsL 0
theorem size_seq (a:ByteArray):decide ((a.size:Int) ≥ 1)=!seq a ⟨#[]⟩:=by
 unfold seq;rw [ByteArray.toList_eq,ByteArray.toList_eq];obtain ⟨⟨l⟩⟩:=a;cases l with
 | nil=>rfl
 | cons x l =>
  have h2:((⟨⟨x :: l⟩⟩:ByteArray).size:Int) ≥ 1:=by
   show ((l.length + 1:Nat):Int) ≥ 1;omega
  rw [decide_eq_true h2];rfl
theorem f34_l1_eq (k:Nat) (a:ByteArray) : ∀ (l:List UInt8) (i:Nat),f34_l1 k a l i=some (runL l i && !seq a ⟨#[]⟩ && decide ((a.size:Int)≤12) && !wordsL.any (seq a))
 | [],i=>by
  unfold f34_l1 runL;rw [f68_eq,size_seq];simp only [Option.bind_some,f34_j1];cases seq a ⟨#[]⟩ <;> cases decide ((a.size:Int)≤12) <;> rfl
 | e :: l,i=>by
  unfold f34_l1 runL;rw [f66_eq];simp only [Option.bind_some,f34_j2,f67_eq,f34_l1_eq k a l];cases letterI e.toNat <;> cases ((i:Int) == 0) <;> cases digitI e.toNat <;> simp
theorem f34_eq (k:Nat) (s:ByteArray):f34 k s=some (isN s):=f34_l1_eq k s _ 0
def textL:List UInt8→Bool
 | []=>true
 | e :: l=>!decide ((e.toNat:Int) < 32) && !decide ((e.toNat:Int) > 126) && textL l
def isT (s:ByteArray):Bool:=textL s.data.toList && decide ((s.size:Int)≤60)
theorem f162_l1_eq (k:Nat) (a:ByteArray) : ∀ (l:List UInt8) (i:Nat),f162_l1 k a l i=some (textL l && decide ((a.size:Int)≤60))
 | [],i=>by simp [f162_l1,textL]
 | e :: l,i=>by
  unfold f162_l1 textL;simp only [f162_j1,f162_l1_eq k a l];cases decide ((e.toNat:Int) < 32) <;> cases decide ((e.toNat:Int) > 126) <;> simp
theorem f132_l1_eq (k:Nat) (a:ByteArray) : ∀ (l:List UInt8) (i:Nat),f132_l1 k a l i=some (textL l && decide ((a.size:Int)≤60))
 | [],i=>by simp [f132_l1,textL]
 | e :: l,i=>by
  unfold f132_l1 textL;simp only [f132_j1,f132_l1_eq k a l];cases decide ((e.toNat:Int) < 32) <;> cases decide ((e.toNat:Int) > 126) <;> simp
theorem f160_eq (k:Nat) (s:ByteArray):f160 k s=some (isT s):=f162_l1_eq k s _ 0
theorem f132_eq (k:Nat) (s:ByteArray):f132 k s=some (isT s):=f132_l1_eq k s _ 0
theorem w64_nat {x:Int} {n:Nat} (h:x=(n:Int)) (h2:n≤4611686018427387904):w64 x=(n:Int):=by
 subst h; unfold w64 IntKind.wrap; simp [IntKind.bits,IntKind.signed]; omega
def nodeE (op num:Int) (txt:ByteArray) (len:Nat):Bool :=
 cond (op == 1) (decide (num ≥ 0) && decide (num≤1000000000000) && seq txt ⟨#[]⟩ && (len:Int) == 0)
 (cond (op == 2) (decide (num ≥ 0) && decide (num≤1) && seq txt ⟨#[]⟩ && (len:Int) == 0)
 (cond (op == 3) (num == 0 && isT txt && (len:Int) == 0)
 (cond (op == 4) (num == 0 && isN txt && (len:Int) == 0)
 (cond (op == 5 || op == 6) (num == 0 && seq txt ⟨#[]⟩ && (len:Int) == 1)
  (decide (op ≥ 7) && decide (op≤19) && num == 0 && seq txt ⟨#[]⟩ && (len:Int) == 2)))))
mutual
def gE (z:Bool):DExpr→Nat→Bool
 | .mk op num txt slot l,a=>decide (a≤16) && (z || slot == 0) && nodeE op num txt l.length && gEs z l (a + 1)
def gEs (z:Bool):List DExpr→Nat→Bool
 | [],_=>true
 | e :: l,a=>gE z e a && gEs z l a
end
def NRes (r:Option (Dcounter × Bool)) (g:Bool) (n sz:Nat) (z:Bool):Prop :=
 ∃ c,r=some (c,g && decide (n + sz≤600))∧((g && decide (n + sz≤600))=true→∃ d,c=.mk ((n + sz:Nat):Int) d z)
theorem f116_eq (k:Nat) (x a b:Int):f116 k x a b=some (decide (x ≥ a) && decide (x≤b)):=by
 unfold f116 f116_b f116_j1; cases decide (x ≥ a) <;> rfl
theorem f117_eq (k:Nat) (n:Nat) (d:Int) (z:Bool) (a:Nat) (h:n≤600) :
  f117 k (.mk n d z) a=some (.mk ((n + 1:Nat):Int) (imax d a) z,decide (n + 1≤600) && decide (a≤16)):=by
 unfold f117 f117_b f117_j1;simp only;rw [w64_nat (n:=n + 1) (by omega) (by omega)];have e1:decide (((n + 1:Nat):Int)≤600)=decide (n + 1≤600):=by rw [decide_eq_decide]; omega
 have e2:decide ((a:Int)≤16)=decide (a≤16):=by rw [decide_eq_decide]; omega
 rw [e1,e2];cases decide (n + 1≤600) <;> rfl
theorem f157_j1_eq (k:Nat) (F:Fam153) (op num:Int) (txt:ByteArray) (l:List DExpr) (a n d:Int) (q:Bool) :
  f157_j1 k F op num txt l a n d q false=cond (nodeE op num txt l.length) (f157_j2 k F l a n d q (l.length:Int) true) (some (.mk n d q,false)):=by
 unfold f157_j1 f157_j4 f157_j5 f157_j6 f157_j2 f157_j3 nodeE;simp only [f116_eq,f160_eq,f63_eq,Option.bind_some,Bool.cond_eq_ite];grind
theorem szE_pos : ∀ e:DExpr,1≤szE e
 | .mk _ _ _ _ _=>by simp only [szE]; omega
theorem NRes.no {r:Option (Dcounter × Bool)} {g:Bool} {n sz:Nat} {z:Bool} {c:Dcounter} (h:r=some (c,false)) (hg:(g && decide (n + sz≤600))=false):NRes r g n sz z :=
 ⟨c,by rw [h,hg],by rw [hg]; intro h; cases h⟩
theorem NRes.yes {r:Option (Dcounter × Bool)} {g:Bool} {n sz:Nat} {z:Bool} {d:Int} (h:r=some (.mk ((n + sz:Nat):Int) d z,true)) (hg:(g && decide (n + sz≤600))=true):NRes r g n sz z :=
 ⟨_,by rw [h,hg],fun _=>⟨d,rfl⟩⟩
theorem nE (k:Nat) (z:Bool) : ∀ m,
  (∀ e,2 * szE e≤m→∀ (n:Nat) (d:Int) (a:Nat),n≤600→a≤17→NRes ((fam153 k m).f157 (.mk n d z) e a) (gE z e a) n (szE e) z) ∧
  (∀ l,2 * szEs l + 1≤m→∀ (n:Nat) (d:Int) (a:Nat),n≤600→a≤17→NRes ((fam153 k m).f153 (.mk n d z) l a) (gEs z l a) n (szEs l) z)
 | 0=>⟨fun e he=>by have:=szE_pos e; omega,fun l hl=>by omega⟩
 | m + 1=>by
  obtain ⟨ihe,ihl⟩:=nE k z m;constructor
  ·intro e he n d a hn ha;obtain ⟨op,num,txt,slot,l⟩:=e;simp only [szE] at he;show NRes (f157_b k (fam153 k m) (.mk n d z) (.mk op num txt slot l) a) _ _ _ _;unfold f157_b;simp only [szE];rw [f117_eq k n d z a hn];simp only [Option.bind_some];have hj : ∀ q:Bool,f157_j1 k (fam153 k m) op num txt l a ((n + 1:Nat):Int) (imax d a) z q=cond q (some (.mk ((n + 1:Nat):Int) (imax d a) z,false)) (cond (nodeE op num txt l.length) (f157_j2 k (fam153 k m) l a ((n + 1:Nat):Int) (imax d a) z (l.length:Int) true) (some (.mk ((n + 1:Nat):Int) (imax d a) z,false))):=by
    intro q; cases q
    ·exact f157_j1_eq _ _ _ _ _ _ _ _ _ _
    ·rfl
   simp only [hj];by_cases h1:n + 1≤600∧a≤16
   ·obtain ⟨h1,h2⟩:=h1;simp only [h1,h2,decide_true,Bool.and_self,Bool.not_true,cond_false];by_cases h3:(z || slot == 0)=true
    ·have h3' : (cond (slot != 0) (!z) false)=false:=by cases z <;> simp_all
     have h4 : ∀ (x y:Option (Dcounter × Bool)),cond (slot != 0) (cond (!z) x y) y=y:=by
      intro x y; cases z <;> simp_all
     rw [h4];by_cases h5:nodeE op num txt l.length=true
     ·simp only [h5,cond_true];unfold f157_j2;simp only [beq_self_eq_true,cond_true];rw [w64_nat (n:=a + 1) (by omega) (by omega)];obtain ⟨c,hc,hd⟩:=ihl l (by omega) (n + 1) (imax d a) (a + 1) h1 (by omega);rw [hc];refine ⟨c,?_,?_⟩
      ·obtain ⟨c0,c1,c2⟩:=c;have:n + 1 + szEs l=n + (szEs l + 1):=by omega
       simp [f157_j3,gE,h2,h3,h5,this]
      ·intro hg;have e1:n + (szEs l + 1)=n + 1 + szEs l:=by omega
       rw [e1];refine hd ?_;rw [e1] at hg;simp [gE,h2,h3,h5] at hg;simp [hg]
     ·have h5' : nodeE op num txt l.length=false:=by simpa using h5
      simp only [h5',cond_false];exact .no rfl (by simp [gE,h5'])
    ·have h3' : (z || slot == 0)=false:=by simpa using h3
     have h4 : ∀ (x y:Option (Dcounter × Bool)),cond (slot != 0) (cond (!z) x y) y=x:=by
      intro x y;simp only [Bool.or_eq_false_iff,beq_eq_false_iff_ne] at h3';have e:(slot != 0)=true:=bne_iff_ne.mpr h3'.2;rw [e,h3'.1]; rfl
     rw [h4];exact .no rfl (by simp [gE,h3'])
   ·have h1' : (decide (n + 1≤600) && decide (a≤16))=false:=by
     simp only [Bool.and_eq_false_iff,decide_eq_false_iff_not]; omega
    simp only [h1',Bool.not_false,cond_true];refine .no rfl ?_;simp only [gE,Bool.and_eq_false_iff,decide_eq_false_iff_not];omega
  ·intro l hl n d a hn ha;show NRes (f153_l1 k (fam153 k m) a l 0 n d z) _ _ _ _;have loop : ∀ (l:List DExpr) (i:Nat) (n:Nat) (d:Int),2 * szEs l≤m→n≤600→NRes (f153_l1 k (fam153 k m) a l i n d z) (gEs z l a) n (szEs l) z:=by
    intro l;induction l with
    | nil=>intro i n d _ hn; exact .yes rfl (by simp [gEs,szEs,hn])
    | cons e l ih =>
     intro i n d hm hn;obtain ⟨e0,e1,e2,e3,e4⟩:=e;unfold f153_l1;simp only [szEs] at hm;obtain ⟨c,hc,hd⟩:=ihe (.mk e0 e1 e2 e3 e4) (by omega) n d a hn ha;rw [hc];by_cases hg:(gE z (.mk e0 e1 e2 e3 e4) a && decide (n + szE (.mk e0 e1 e2 e3 e4)≤600))=true
     ·obtain ⟨d',rfl⟩:=hd hg;have hg':=hg;simp only [Bool.and_eq_true,decide_eq_true_eq] at hg';simp only [hg,Option.bind_some,Bool.not_true,cond_false];obtain ⟨c2,hc2,hd2⟩:=ih (i + 1) _ d' (by omega) hg'.2;have e1:n + (szE (DExpr.mk e0 e1 e2 e3 e4) + szEs l)=n + szE (DExpr.mk e0 e1 e2 e3 e4) + szEs l:=by omega
      refine ⟨c2,?_,?_⟩
      ·rw [hc2]; simp only [gEs,szEs,hg'.1,Bool.true_and,e1]
      ·simp only [gEs,szEs,hg'.1,Bool.true_and,e1]; exact hd2
     ·have hg' : (gE z (.mk e0 e1 e2 e3 e4) a && decide (n + szE (.mk e0 e1 e2 e3 e4)≤600))=false:=by simpa using hg
      obtain ⟨c0,c1,c2⟩:=c;simp only [hg',Option.bind_some,Bool.not_false,cond_true];refine .no rfl ?_;simp only [Bool.and_eq_false_iff,decide_eq_false_iff_not,gEs,szEs] at hg' ⊢;rcases hg' with h | h
      ·exact .inl (.inl h)
      ·exact .inr (decide_eq_false (fun h'=>h (by omega)))
   exact loop l 0 n d (by omega) hn
theorem f59_eq (k:Nat) (n d:Int) (q b:Bool):f59 k (.mk n d q) b=some (.mk n d (q || !b)):=by
 unfold f59 f59_b; cases b <;> cases q <;> rfl
theorem f60_eq (k:Nat) (n:Nat) (d:Int) (q:Bool) (a:Nat) (h:n≤600) :
  f60 k (.mk n d q) a=some (.mk ((n + 1:Nat):Int) (imax d a) (q || !(decide (n + 1≤600) && decide (a≤16)))):=by
 unfold f60 f60_b f60_j1;simp only;rw [w64_nat (n:=n + 1) (by omega) (by omega)];have e1:decide (((n + 1:Nat):Int) > 600)=!decide (n + 1≤600):=by rw [← decide_not,decide_eq_decide]; omega
 have e2:decide ((a:Int) > 16)=!decide (a≤16):=by rw [← decide_not,decide_eq_decide]; omega
 rw [e1,e2];cases decide (n + 1≤600) <;> cases decide (a≤16) <;> cases q <;> rfl
theorem bfun {α:Type} (Q:Bool→α) : ∃ A B,Q=fun b=>if b=true then A else B :=
 ⟨Q true,Q false,funext fun b=>by cases b <;> rfl⟩
theorem f110_j1_eq (k:Nat) (F:Fam110) (op num:Int) (txt:ByteArray) (l:List DExpr) (a:Int) (x:Bool) (n d:Int) (q:Bool) :
  f110_j1 k F op num txt l a x n d q=f110_l1 k F a x l 0 n d (q || !nodeE op num txt l.length):=by
 unfold f110_j1 f110_j3 f110_j2 nodeE;have h01:(decide (num ≥ 0) && decide (num≤1))=(num == 0 || num == 1):=by
  rw [Bool.eq_iff_iff]; simp only [Bool.and_eq_true,Bool.or_eq_true,decide_eq_true_eq,beq_iff_eq]; omega
 rw [h01];simp only [f59_eq,f132_eq,f34_eq,Option.bind_some,Bool.cond_eq_ite];generalize f110_l1 k F a x l 0 n d=Q;obtain ⟨A,B,rfl⟩:=bfun Q;grind (splits:=40)
def RRes (r:Option DSize) (g:Bool) (n sz:Nat) (q:Bool):Prop :=
 ∃ x d q',r=some (.mk x d q')∧q'=(q || !(g && decide (n + sz≤600)))∧(q'=false→x=((n + sz:Nat):Int))
theorem RRes.wrong {r:Option DSize} {g:Bool} {n sz:Nat} {x d:Int} (h:r=some (.mk x d true)):RRes r g n sz true :=
 ⟨x,d,true,h,rfl,fun h=>by cases h⟩
theorem RRes.bad {r:Option DSize} {g:Bool} {n sz:Nat} {q:Bool} {x d:Int} (h:r=some (.mk x d true)) (hg:(g && decide (n + sz≤600))=false):RRes r g n sz q :=
 ⟨x,d,true,h,by rw [hg]; cases q <;> rfl,fun h=>by cases h⟩
theorem bcomb (g1 g2:Bool) (n s1 s2:Nat):(!(g1 && decide (n + s1≤600)) || !(g2 && decide (n + s1 + s2≤600)))=!(g1 && g2 && decide (n + (s1 + s2)≤600)):=by
 rw [← Nat.add_assoc];by_cases hh:n + s1 + s2≤600
 ·have:n + s1≤600:=by omega
  simp only [hh,this,decide_true]; cases g1 <;> cases g2 <;> rfl
 ·simp only [hh,decide_false]; cases g1 <;> cases g2 <;> simp
theorem RRes.bind {r:Option DSize} {f:DSize→Option DSize} {g1 g2:Bool} {n s1 s2:Nat} {q:Bool} (h1:RRes r g1 n s1 q)
  (h2 : ∀ x d q',(q'=false→x=((n + s1:Nat):Int)∧n + s1≤600)→RRes (f (.mk x d q')) g2 (n + s1) s2 q'):RRes (r.bind f) (g1 && g2) n (s1 + s2) q:=by
 obtain ⟨x,d,q',rfl,hq,hx⟩:=h1;obtain ⟨x2,d2,q2,h4,h5,h6⟩:=h2 x d q' (fun h=>⟨hx h,by rw [h] at hq; cases q <;> simp at hq; exact hq.2⟩);refine ⟨x2,d2,q2,h4,?_,?_⟩
 ·rw [h5,hq,Bool.or_assoc,bcomb]
 ·rw [← Nat.add_assoc]; exact h6
theorem RRes.done {n:Nat} {q:Bool} {x d:Int} (hx:q=false→x=(n:Int)∧n≤600):RRes (some (.mk x d q)) true n 0 q :=
 ⟨x,d,q,rfl,by cases q <;> simp; exact (hx rfl).2,fun h=>(hx h).1⟩
theorem RRes.cast {r:Option DSize} {g g' : Bool} {n s s' : Nat} {q:Bool} (h:RRes r g n s q) (hg:g=g') (hs:s=s'):RRes r g' n s' q:=by
 subst hg; subst hs; exact h
theorem RRes.check {r:Option DSize} {g b:Bool} {n s:Nat} {q:Bool} (h:RRes r g n s (q || !b)):RRes r (b && g) n s q:=by
 obtain ⟨x,d,q',h1,h2,h3⟩:=h;exact ⟨x,d,q',h1,by rw [h2]; cases q <;> cases b <;> rfl,h3⟩
theorem rE (k:Nat) : ∀ m,
  ∀ e,szE e≤m→∀ (n:Nat) (d:Int) (a:Nat),n≤600→a≤17→RRes ((fam110 k m).f110 (.mk n d false) e a false) (gE false e a) n (szE e) false
 | 0=>fun e he=>by have:=szE_pos e; omega
 | m + 1=>by
  have ihe:=rE k m;intro e he n d a hn ha;have loop:a≤16→∀ (l:List DExpr) (i:Nat) (x:Int) (n:Nat) (d:Int) (q:Bool),szEs l≤m→(q=false→x=(n:Int)∧n≤600)→RRes (f110_l1 k (fam110 k m) a false l i x d q) (gEs false l (a + 1)) n (szEs l) q:=by
   intro ha l;induction l with
   | nil=>intro i x n d q _ hx; exact .done hx
   | cons e l ih =>
    intro i x n d q hm hx;obtain ⟨e0,e1,e2,e3,e4⟩:=e;unfold f110_l1;cases q with
    | true=>exact .wrong rfl
    | false =>
     obtain ⟨rfl,hn⟩:=hx rfl;simp only [szEs] at hm;simp only [Bool.not_false,cond_true];rw [w64_nat (n:=a + 1) (by omega) (by omega)];exact (ihe (.mk e0 e1 e2 e3 e4) (by omega) n d (a + 1) hn (by omega)).bind fun x1 d1 q1 h1=>ih (i + 1) x1 _ d1 q1 (by omega) h1
  obtain ⟨op,num,txt,slot,l⟩:=e;simp only [szE] at he;show RRes (f110_b k (fam110 k m) (.mk n d false) (.mk op num txt slot l) a false) _ _ _ _;unfold f110_b;simp only [szE,cond_false,f59_eq,f110_j1_eq,Option.bind_some];rw [f60_eq k n d false a hn];simp only [Option.bind_some,Bool.false_or];by_cases ha' : a≤16
  ·obtain ⟨x2,d2,q2,h4,h5,h6⟩:=loop ha' l 0 ((n + 1:Nat):Int) (n + 1) (imax d a) (!(decide (n + 1≤600) && decide (a≤16)) || !(slot == 0) || !nodeE op num txt l.length) (by omega) (fun hq=>⟨rfl,by simp at hq; omega⟩);have e1:n + (szEs l + 1)=n + 1 + szEs l:=by omega
   refine ⟨x2,d2,q2,h4,?_,?_⟩
   ·rw [h5,e1];simp only [gE,ha',decide_true,Bool.false_or,Bool.true_and,Bool.and_true];by_cases hh:n + 1 + szEs l≤600
    ·have:n + 1≤600:=by omega
     simp only [hh,this,decide_true];cases (slot == 0) <;> cases nodeE op num txt l.length <;> simp
    ·simp [hh]
   ·rw [e1]; exact h6
  ·have loopw : ∀ (l:List DExpr) (i:Nat) (x d:Int),∃ x' d',f110_l1 k (fam110 k m) a false l i x d true=some (.mk x' d' true):=by
    intro l i x d;cases l with
    | nil=>exact ⟨_,_,rfl⟩
    | cons e l=>obtain ⟨_,_,_,_,_⟩:=e; exact ⟨_,_,rfl⟩
   have:(!(decide (n + 1≤600) && decide (a≤16)) || !(slot == 0) || !nodeE op num txt l.length)=true:=by simp [ha']
   rw [this];obtain ⟨x',d',h⟩:=loopw l 0 ((n + 1:Nat):Int) (imax d a);exact .bad h (by simp [gE,ha'])
mutual
def stE:DExpr→DExpr | .mk op num txt _ l=>.mk op num txt 0 (stEs l)
def stEs:List DExpr→List DExpr | []=>[] | e :: l=>stE e :: stEs l
end
theorem stEs_len : ∀ l,(stEs l).length=l.length
 | []=>rfl
 | e :: l=>by simp [stEs,stEs_len l]
mutual
theorem szE_st : ∀ e,szE (stE e)=szE e
 | .mk _ _ _ _ l=>by simp only [stE,szE,szEs_st l]
theorem szEs_st : ∀ l,szEs (stEs l)=szEs l
 | []=>rfl
 | e :: l=>by simp only [stEs,szEs,szE_st e,szEs_st l]
end
mutual
theorem gE_st : ∀ e a,gE false (stE e) a=gE true e a
 | .mk _ _ _ _ l,a=>by simp [stE,gE,gEs_st l,stEs_len]
theorem gEs_st : ∀ l a,gEs false (stEs l) a=gEs true l a
 | [],_=>rfl
 | e :: l,a=>by simp only [stEs,gEs,gE_st e,gEs_st l]
end
def shp (op:Int):Option (Int × Bool × Int × Int × Bool × Int) :=
 match op with
 | 1=>some (1,false,1,1,false,0) | 2=>some (1,false,1,1,false,0) | 3=>some (2,true,0,600,false,0) | 4=>some (2,true,0,600,false,0)
 | 5=>some (2,false,1,1,false,0) | 6=>some (2,false,1,1,false,1) | 7=>some (1,false,1,1,false,2) | 8=>some (1,false,1,1,false,0)
 | 9=>some (1,false,0,0,false,0) | 10=>some (0,false,2,2,false,0) | 11=>some (0,false,1,1,false,0) | 12=>some (0,false,1,1,false,0)
 | 13=>some (0,false,0,0,false,0) | 14=>some (0,false,1,1,false,0) | 15=>some (0,false,1,1,false,0) | 16=>some (0,false,1,1,false,0)
 | 17=>some (0,false,0,1,false,0) | 18=>some (0,false,0,0,false,0) | 19=>some (0,false,0,0,false,0) | 20=>some (0,false,1,1,true,1)
 | 21=>some (0,false,1,1,true,0) | 22=>some (0,false,0,1,true,1) | 23=>some (0,false,0,0,true,0) | 24=>some (2,false,0,0,true,3)
 | 25=>some (1,false,1,1,true,0) | 26=>some (0,false,1,1,true,0) | 27=>some (0,false,0,0,false,0) | 28=>some (1,true,0,600,true,66)
 | 29=>some (0,false,1,1,false,0) | _=>none
theorem op_cases {P:Int→Prop} (op:Int) (h : ∀ n:Nat,n < 29→P ((n + 1:Nat):Int)) (h0:op < 1∨op > 29→P op):P op:=by
 by_cases h1:op < 1∨op > 29
 ·exact h0 h1
 ·obtain ⟨n,rfl⟩ : ∃ n:Nat,op=((n + 1:Nat):Int):=⟨(op - 1).toNat,by omega⟩;exact h n (by omega)
theorem shp_none {op:Int} (h:op < 1∨op > 29):shp op=none:=by
 unfold shp;split <;> first | rfl | (exfalso; omega)
def toR:Option (Int × Bool × Int × Int × Bool × Int)→DShape × Bool
 | none=>(.mk 0 0 0 false false 0,false)
 | some (nm,fr,lo,hi,bd,fl)=>(.mk lo hi nm fr bd fl,true)
theorem f109_eq (k:Nat) (op:Int):f109 k op=some (toR (shp op)):=by
 refine op_cases (P:=fun op=>f109 k op=some (toR (shp op))) op ?_ ?_
 ·intro n hn
  match n,hn with
  | 0,_=>rfl | 1,_=>rfl | 2,_=>rfl | 3,_=>rfl | 4,_=>rfl | 5,_=>rfl | 6,_=>rfl | 7,_=>rfl | 8,_=>rfl | 9,_=>rfl
  | 10,_=>rfl | 11,_=>rfl | 12,_=>rfl | 13,_=>rfl | 14,_=>rfl | 15,_=>rfl | 16,_=>rfl | 17,_=>rfl | 18,_=>rfl | 19,_=>rfl
  | 20,_=>rfl | 21,_=>rfl | 22,_=>rfl | 23,_=>rfl | 24,_=>rfl | 25,_=>rfl | 26,_=>rfl | 27,_=>rfl | 28,_=>rfl
  | n + 29,h=>omega
 ·intro h;rw [shp_none h];have e : ∀ c:Int,1≤c→c≤29→(op == c)=false:=fun c h1 h2=>by rw [beq_eq_false_iff_ne]; omega
  unfold f109 f109_b f109_j1 f109_j2 f109_j3 f109_j4 f109_j5;simp [e,toR]
def toN:Option (Int × Bool × Int × Int × Bool × Int)→Option Dshape
 | none=>none
 | some (nm,fr,lo,hi,bd,fl)=>some (.mk nm fr lo (if hi=600 then 601 else hi) bd)
theorem mget_none (op:Int) : ∀ L:List (Int × Dshape),(∀ x ∈ L,qI op x.1=false)→mget qI op L=none
 | [],_=>rfl
 | (a,v) :: L,h=>by
  unfold mget;rw [if_neg (by rw [h (a,v) (by simp)]; simp)];exact mget_none op L fun x hx=>h x (by simp [hx])
theorem f150_eq (k:Nat) (op:Int):(f150 k).bind (fun r=>some (mget qI op r))=some (toN (shp op)):=by
 refine op_cases (P:=fun op=>(f150 k).bind (fun r=>some (mget qI op r))=some (toN (shp op))) op ?_ ?_
 ·intro n hn
  match n,hn with
  | 0,_=>rfl | 1,_=>rfl | 2,_=>rfl | 3,_=>rfl | 4,_=>rfl | 5,_=>rfl | 6,_=>rfl | 7,_=>rfl | 8,_=>rfl | 9,_=>rfl
  | 10,_=>rfl | 11,_=>rfl | 12,_=>rfl | 13,_=>rfl | 14,_=>rfl | 15,_=>rfl | 16,_=>rfl | 17,_=>rfl | 18,_=>rfl | 19,_=>rfl
  | 20,_=>rfl | 21,_=>rfl | 22,_=>rfl | 23,_=>rfl | 24,_=>rfl | 25,_=>rfl | 26,_=>rfl | 27,_=>rfl | 28,_=>rfl
  | n + 29,h=>omega
 ·intro h;rw [shp_none h];obtain ⟨L,hL,hA⟩ : ∃ L,f150 k=some L∧(L.all fun x=>decide (1≤x.1) && decide (x.1≤29))=true:=⟨_,rfl,rfl⟩;rw [hL];simp only [Option.bind_some];rw [mget_none op L]
  ·rfl
  ·intro x hx;have:=List.all_eq_true.mp hA x hx;simp only [Bool.and_eq_true,decide_eq_true_eq] at this;unfold qI; rw [beq_eq_false_iff_ne]; omega
def flagN (op:Int) (name:ByteArray) (flag:Int) (l8 l9:Int):Bool :=
 let b0:=(IntKind.i64.wrap (BitVec.ofInt IntKind.i64.bits flag &&& BitVec.ofInt IntKind.i64.bits 1).toNat) == 1
 let b1:=(IntKind.i64.wrap (BitVec.ofInt IntKind.i64.bits flag &&& BitVec.ofInt IntKind.i64.bits 2).toNat) == 2
 cond (op == 6) (decide (flag ≥ 0) && decide (flag≤1) && (flag == 0 || !seq name ⟨#[]⟩) && l8 == 0 && l9 == 0)
 (cond (op == 7) (decide (flag ≥ 0) && decide (flag≤2) && l8 == 0 && l9 == 0)
 (cond (op == 22) (decide (flag ≥ 0) && decide (flag≤1) && l8 == 0 && l9 == 0)
 (cond (op == 20) (decide (flag ≥ 0) && decide (flag≤1) && (flag == 1 || l8 == 0) && l9 == 0)
 (cond (op == 24) (decide (flag ≥ 1) && decide (flag≤3) && ((!seq name ⟨#[]⟩) == b0) && (b0 || l8 == 0) && (b1 || l9 == 0))
 (cond (op == 28) (decide (flag ≥ 0) && decide (flag≤66) && decide (flag.tmod 4 < 3) && l8 == 0 && l9 == 0)
  (flag == 0 && l8 == 0 && l9 == 0))))))
theorem f151_eq (k:Nat) (op:Int) (name:ByteArray) (s2:Int) (fr:ByteArray) (s4 flag:Int) (l6:List DExpr) (l7 l8 l9:List DStmt) (l10:List DCase) :
  f151 k (.mk op name s2 fr s4 flag l6 l7 l8 l9 l10)=some (flagN op name flag l8.length l9.length):=by
 unfold f151 f151_b f151_j3 f151_j1 f151_j2 flagN;simp only [f116_eq,Option.bind_some,Bool.cond_eq_ite];generalize (IntKind.i64.wrap (BitVec.ofInt IntKind.i64.bits flag &&& BitVec.ofInt IntKind.i64.bits 1).toNat == 1)=b0;generalize (IntKind.i64.wrap (BitVec.ofInt IntKind.i64.bits flag &&& BitVec.ofInt IntKind.i64.bits 2).toNat == 2)=b1;generalize ((l8.length:Int) == 0)=c8;generalize ((l9.length:Int) == 0)=c9;generalize seq name ⟨#[]⟩=e;grind (splits:=20)
def nameN (nm:Int) (fr:Bool) (name from_:ByteArray):Bool :=
 (seq name ⟨#[]⟩ || (!(nm == 0) && isN name)) && (!seq name ⟨#[]⟩ || !(nm == 1)) && ((!seq from_ ⟨#[]⟩) == fr) && (!fr || isN from_)
def argsN (op lo hi:Int) (bd:Bool) (l6 l7 l10:Int):Bool :=
 decide (l6 ≥ lo) && decide (l6≤hi) && (bd || !decide (l7 > 0)) && (cond (op == 27) (decide (l10 ≥ 1) && decide (l10≤4)) (!decide (l10 > 0)))
section
variable (k:Nat) (F:Fam118) (op:Int) (name:ByteArray) (s2:Int) (from_:ByteArray) (s4 flag:Int) (l6:List DExpr) (l7 l8 l9:List DStmt) (l10:List DCase) (a nm:Int) (fr:Bool) (lo hi:Int) (bd:Bool) (n d:Int) (z q:Bool)
theorem f138_j3_eq:f138_j3 k F op l6 l7 l8 l9 l10 a lo hi bd n d z q =
  cond (!q && argsN op lo hi bd l6.length l7.length l10.length) (f138_l1 k F l6 l7 l8 l9 l10 a l10 0 n d z) (some (.mk n d z,false)):=by
 unfold f138_j3 f138_j4 argsN;simp only [f116_eq,Option.bind_some,Bool.cond_eq_ite];grind (splits:=20)
theorem f138_j2_eq:f138_j2 k F op name from_ l6 l7 l8 l9 l10 a nm fr lo hi bd n d z q =
  cond (!q && nameN nm fr name from_ && argsN op lo hi bd l6.length l7.length l10.length) (f138_l1 k F l6 l7 l8 l9 l10 a l10 0 n d z) (some (.mk n d z,false)):=by
 unfold f138_j2 nameN;simp only [f63_eq,f138_j3_eq,Option.bind_some,Bool.cond_eq_ite];grind (splits:=20)
theorem f138_j1_eq:f138_j1 k F n d z op name s2 from_ s4 flag l6 l7 l8 l9 l10 a nm fr lo hi bd true =
  (f117 k (.mk n d z) a).bind fun x=>match x with
   | (.mk n1 d1 z1,ok)=>cond (ok && ((s2 == 0 && s4 == 0) || z1) && flagN op name flag l8.length l9.length && nameN nm fr name from_ && argsN op lo hi bd l6.length l7.length l10.length)
    (f138_l1 k F l6 l7 l8 l9 l10 a l10 0 n1 d1 z1) (some (.mk n1 d1 z1,false)):=by
 unfold f138_j1;simp only [Bool.not_true,cond_false];congr 1;funext x;obtain ⟨⟨n1,d1,z1⟩,ok⟩:=x;simp only [f151_eq,f138_j2_eq,Option.bind_some,Bool.cond_eq_ite];grind (splits:=20)
end
def nameR (nm:Int) (name:ByteArray):Bool:=(nm == 0 && seq name ⟨#[]⟩) || (nm == 1 && isN name) || (nm == 2 && (seq name ⟨#[]⟩ || isN name))
def fromR (fr:Bool) (from_:ByteArray):Bool:=cond fr (isN from_) (seq from_ ⟨#[]⟩)
def flagR (op:Int) (name:ByteArray) (flag:Int) (l8 l9:Int):Bool :=
 (l8 == 0 || (op == 20 && flag == 1) || (op == 24 && flag.tmod 2 == 1)) && (l9 == 0 || (op == 24 && decide (flag ≥ 2))) &&
 cond (op == 6) (flag == 0 || !seq name ⟨#[]⟩) (cond (op == 24) (decide (flag > 0) && ((flag.tmod 2 == 1) == !seq name ⟨#[]⟩)) (cond (op == 28) (decide (flag.tmod 4 < 3)) true))
def casesR (op l10:Int):Bool:=((op == 27) == decide (l10 > 0)) && decide (l10≤4)
section
variable (k:Nat) (F:Fam61) (op:Int) (name:ByteArray) (s2:Int) (from_:ByteArray) (s4 flag:Int) (l6:List DExpr) (l7 l8 l9:List DStmt) (l10:List DCase) (a nm:Int) (fr:Bool) (lo hi:Int) (bd:Bool) (n d:Int) (z q:Bool)
theorem f90_j7_eq:f90_j7 k F op l6 l7 l8 l9 l10 a n d q=f90_l2 k F l7 l8 l9 l10 a l6 0 n d (q || !casesR op l10.length):=by
 unfold f90_j7 f90_j8 casesR;simp only [f59_eq,Option.bind_some,Bool.cond_eq_ite];generalize f90_l2 k F l7 l8 l9 l10 a l6 0 n d=Q;obtain ⟨A,B,rfl⟩:=bfun Q;grind (splits:=20)
theorem f90_j4_eq:f90_j4 k F op name flag l6 l7 l8 l9 l10 a n d q=f90_l2 k F l7 l8 l9 l10 a l6 0 n d (q || !(flagR op name flag l8.length l9.length && casesR op l10.length)):=by
 unfold f90_j4 f90_j5 f90_j6 flagR;simp only [f59_eq,f90_j7_eq,Option.bind_some,Bool.cond_eq_ite];generalize f90_l2 k F l7 l8 l9 l10 a l6 0 n d=Q;generalize casesR op l10.length=c;generalize (flag.tmod 2 == 1)=b0;obtain ⟨A,B,rfl⟩:=bfun Q;grind (splits:=30)
theorem f90_j1_eq:f90_j1 k F op name from_ flag l6 l7 l8 l9 l10 a nm fr bd n d q=f90_l2 k F l7 l8 l9 l10 a l6 0 n d (q || !(nameR nm name && fromR fr from_ && (bd || (l7.length:Int) == 0) && flagR op name flag l8.length l9.length && casesR op l10.length)):=by
 unfold f90_j1 f90_j2 f90_j3 nameR fromR;simp only [f59_eq,f34_eq,f90_j4_eq,Option.bind_some,Bool.cond_eq_ite];generalize f90_l2 k F l7 l8 l9 l10 a l6 0 n d=Q;generalize casesR op l10.length=c;generalize flagR op name flag l8.length l9.length=c2;generalize ((l7.length:Int) == 0)=c7;obtain ⟨A,B,rfl⟩:=bfun Q;generalize isN name=n1;generalize isN from_=n2;generalize seq name ⟨#[]⟩=e1;generalize seq from_ ⟨#[]⟩=e2;grind (splits:=30)
end
def nodeN (op:Int) (name from_:ByteArray) (flag:Int) (l6 l7 l8 l9 l10:Nat):Bool :=
 match shp op with
 | none=>false
 | some (nm,fr,lo,hi,bd,fl)=>flagN op name flag l8 l9 && nameN nm fr name from_ && argsN op lo (if hi=600 then 601 else hi) bd l6 l7 l10
def nodeS (op:Int) (name from_:ByteArray) (flag:Int) (l6 l7 l8 l9 l10:Nat):Bool :=
 match shp op with
 | none=>false
 | some (nm,fr,lo,hi,bd,fl)=>decide ((l6:Int) ≥ lo) && decide ((l6:Int)≤hi) && decide (flag ≥ 0) && decide (flag≤fl) && (nameR nm name && fromR fr from_ && (bd || (l7:Int) == 0) && flagR op name flag l8 l9 && casesR op l10)
theorem isN_ne {s:ByteArray} (h:isN s=true):seq s ⟨#[]⟩=false:=by
 unfold isN at h; cases hs:seq s ⟨#[]⟩ with
 | false=>rfl
 | true=>rw [hs] at h; simp at h
theorem bits (flag:Int) (h1:1≤flag) (h2:flag≤3):(IntKind.i64.wrap (BitVec.ofInt IntKind.i64.bits flag &&& BitVec.ofInt IntKind.i64.bits 1).toNat == 1)=(flag.tmod 2 == 1) ∧
  (IntKind.i64.wrap (BitVec.ofInt IntKind.i64.bits flag &&& BitVec.ofInt IntKind.i64.bits 2).toNat == 2)=decide (flag ≥ 2):=by
 rcases (by omega:flag=1∨flag=2∨flag=3) with rfl | rfl | rfl <;> exact ⟨rfl,rfl⟩
theorem nodeNS (op:Int) (name from_:ByteArray) (flag:Int) (l6 l7 l8 l9 l10:Nat) (h6:l6≤600):nodeN op name from_ flag l6 l7 l8 l9 l10=nodeS op name from_ flag l6 l7 l8 l9 l10:=by
 have hn:=@isN_ne name;have hf:=@isN_ne from_;have hb:=bits flag;unfold nodeN nodeS flagN nameN argsN nameR fromR flagR casesR;generalize (IntKind.i64.wrap (BitVec.ofInt IntKind.i64.bits flag &&& BitVec.ofInt IntKind.i64.bits 1).toNat == 1)=b0 at hb ⊢;generalize (IntKind.i64.wrap (BitVec.ofInt IntKind.i64.bits flag &&& BitVec.ofInt IntKind.i64.bits 2).toNat == 2)=b1 at hb ⊢;generalize isN name=n1 at hn ⊢;generalize isN from_=n2 at hf ⊢;generalize seq name ⟨#[]⟩=e1 at hn ⊢;generalize seq from_ ⟨#[]⟩=e2 at hf ⊢;generalize flag.tmod 2=t2 at hb ⊢;generalize flag.tmod 4=t4;by_cases hop:op < 1∨op > 29
 ·rw [shp_none hop]
 rcases (by omega:op=1∨op=2∨op=3∨op=4∨op=5∨op=6∨op=7∨op=8∨op=9∨op=10∨op=11∨op=12∨op=13∨op=14∨op=15∨op=16∨op=17∨op=18∨op=19∨op=20∨op=21∨op=22∨op=23∨op=24∨op=25∨op=26∨op=27∨op=28∨op=29) with rfl | rfl | rfl | rfl | rfl | rfl | rfl | rfl | rfl | rfl | rfl | rfl | rfl | rfl | rfl | rfl | rfl | rfl | rfl | rfl | rfl | rfl | rfl | rfl | rfl | rfl | rfl | rfl | rfl <;>
  simp only [shp,Int.reduceBEq,cond_true,cond_false,Int.reduceEq,if_true,if_false] <;> grind (splits:=20)
end Go.Proofs.YtoajecnoffhlbaaGreatDoor
namespace Go.Proofs.YtoajecnoffhlbaaGreatDoor
open Go
def nodeC (kind:Int) (name:ByteArray) (len:Int):Bool :=
 decide (kind ≥ 1) && decide (kind≤4) && len == (cond (kind == 2) 2 (cond (kind == 4) 0 1)) && cond (kind == 1) (isN name) (seq name ⟨#[]⟩)
mutual
def gS (z:Bool):DStmt→Nat→Bool
 | .mk op name s2 fr s4 flag l6 l7 l8 l9 l10,a=>decide (a≤16) && (z || (s2 == 0 && s4 == 0)) && nodeS op name fr flag l6.length l7.length l8.length l9.length l10.length &&
  (gEs z l6 (a + 1) && (gSs z l7 (a + 1) && (gSs z l8 (a + 1) && (gSs z l9 (a + 1) && gCs z l10 (a + 1)))))
def gSs (z:Bool):List DStmt→Nat→Bool
 | [],_=>true
 | s :: l,a=>gS z s a && gSs z l a
def gC (z:Bool):DCase→Nat→Bool
 | .mk kind name slot es b,a=>decide (a≤16) && (z || slot == 0) && nodeC kind name es.length && (gEs z es (a + 1) && gSs z b (a + 1))
def gCs (z:Bool):List DCase→Nat→Bool
 | [],_=>true
 | .mk kind name slot es b :: l,a=>(!(kind == 4) || l.isEmpty) && gC z (.mk kind name slot es b) a && gCs z l a
end
theorem szS_pos : ∀ e:DStmt,1≤szS e
 | .mk _ _ _ _ _ _ _ _ _ _ _=>by simp only [szS]; omega
theorem szC_pos : ∀ e:DCase,1≤szC e
 | .mk _ _ _ _ _=>by simp only [szC]; omega
theorem NRes.bind {r:Option (Dcounter × Bool)} {f:Dcounter × Bool→Option (Dcounter × Bool)} {g1 g2:Bool} {n s1 s2:Nat} {z:Bool} (h1:NRes r g1 n s1 z)
  (hf : ∀ c,∃ c',f (c,false)=some (c',false)) (h2 : ∀ d,n + s1≤600→NRes (f (.mk ((n + s1:Nat):Int) d z,true)) g2 (n + s1) s2 z):NRes (r.bind f) (g1 && g2) n (s1 + s2) z:=by
 obtain ⟨c,rfl,hc⟩:=h1;by_cases hg:(g1 && decide (n + s1≤600))=true
 ·obtain ⟨d,rfl⟩:=hc hg;rw [Bool.and_eq_true,decide_eq_true_eq] at hg;obtain ⟨h3,h4⟩:=hg;subst h3;simp only [h4,decide_true,Bool.and_self,Bool.true_and,Option.bind_some];obtain ⟨c,h5,h6⟩:=h2 d h4;rw [Nat.add_assoc] at h5 h6;exact ⟨c,h5,h6⟩
 ·have hg' : (g1 && decide (n + s1≤600))=false:=by simpa using hg
  rw [hg'];obtain ⟨c',h⟩:=hf c;refine .no h ?_;rw [Bool.and_eq_false_iff,decide_eq_false_iff_not] at hg' ⊢;rcases hg' with h | h
  ·left; rw [h]; rfl
  ·right; omega
theorem NRes.conv {r:Option (Dcounter × Bool)} {g g' : Bool} {n s n' s' : Nat} {z:Bool} (h:NRes r g n s z) (hs:n + s=n' + s') (hg:n + s≤600→g=g'):NRes r g' n' s' z:=by
 unfold NRes at h ⊢;rw [← hs];have:(g && decide (n + s≤600))=(g' && decide (n + s≤600)):=by
  by_cases h:n + s≤600
  ·rw [hg h]
  ·simp [h]
 rwa [← this]
theorem f153_res (k:Nat) (z:Bool) (l:List DExpr) (hk:2 * szEs l + 1≤k) (n:Nat) (d:Int) (a:Nat) (hn:n≤600) (ha:a≤17):NRes (f153 k (.mk n d z) l a) (gEs z l a) n (szEs l) z :=
 (nE k z k).2 l hk n d a hn ha
theorem mget4 (kind:Int):mget qI kind (mput qI 4 0 (mput qI 3 1 (mput qI 2 2 (mput qI 1 1 ([]:List (Int × Int)))))) =
  cond (decide (kind ≥ 1) && decide (kind≤4)) (some (cond (kind == 2) 2 (cond (kind == 4) 0 1))) none:=by
 have e:mput qI 4 0 (mput qI 3 1 (mput qI 2 2 (mput qI 1 1 ([]:List (Int × Int)))))=[(1,1),(2,2),(3,1),(4,0)]:=rfl;rw [e];unfold mget mget mget mget mget qI;simp only [Bool.cond_eq_ite];grind
theorem f152_b_eq (k:Nat) (F:Fam118) (kind:Int) (name:ByteArray) (slot:Int) (es:List DExpr) (b:List DStmt) (a n d:Int) (z:Bool) :
  f152_b k F (.mk n d z) (.mk kind name slot es b) a=cond (decide (kind ≥ 1) && decide (kind≤4)) ((f117 k (.mk n d z) a).bind fun x=>match x with
   | (.mk n1 d1 z1,ok)=>cond (ok && (z1 || slot == 0) && nodeC kind name es.length) (f152_j1 k F es b a n1 d1 z1 false) (some (.mk n1 d1 z1,false))) (some (.mk n d z,false)):=by
 unfold f152_b;simp only [mget4];by_cases hk:(decide (kind ≥ 1) && decide (kind≤4))=true
 ·simp only [hk,cond_true,mcase];congr 1;funext x;obtain ⟨⟨n1,d1,z1⟩,ok⟩:=x;unfold f152_j1;have hn:=@isN_ne name;simp only [f63_eq,Option.bind_some,nodeC,hk,Bool.true_and];generalize (cond (kind == 2) (2:Int) (cond (kind == 4) 0 1))=e;generalize isN name=n1 at hn ⊢;generalize seq name ⟨#[]⟩=e1 at hn ⊢;simp only [Bool.cond_eq_ite];grind (splits:=20)
 ·have hk' : (decide (kind ≥ 1) && decide (kind≤4))=false:=by simpa using hk
  simp only [hk',cond_false,mcase]
theorem argsN_len {op lo hi:Int} {bd:Bool} {l6 l7:Int} {l10:Nat} (h:argsN op lo hi bd l6 l7 l10=true):l10≤4:=by
 unfold argsN at h;cases hop:(op == 27) <;> simp only [hop,cond_true,cond_false,Bool.and_eq_true,Bool.not_eq_true',decide_eq_true_eq,decide_eq_false_iff_not] at h <;> omega
theorem nSt (k:Nat) (z:Bool) : ∀ m,m≤k →
  (∀ s,2 * szS s≤m→∀ (n:Nat) (d:Int) (a:Nat),n≤600→a≤17→NRes ((fam118 k m).f138 (.mk n d z) s a) (gS z s a) n (szS s) z) ∧
  (∀ l,2 * szSs l + 1≤m→∀ (n:Nat) (d:Int) (a:Nat),n≤600→a≤17→NRes ((fam118 k m).f118 (.mk n d z) l a) (gSs z l a) n (szSs l) z) ∧
  (∀ c,2 * szC c≤m→∀ (n:Nat) (d:Int) (a:Nat),n≤600→a≤17→NRes ((fam118 k m).f152 (.mk n d z) c a) (gC z c a) n (szC c) z)
 | 0,_=>⟨fun e he=>by have:=szS_pos e; omega,fun l hl=>by omega,fun c hc=>by have:=szC_pos c; omega⟩
 | m + 1,hmk=>by
  obtain ⟨ihs,ihl,ihc⟩:=nSt k z m (by omega);refine ⟨?_,?_,?_⟩
  ·intro s hs n d a hn ha;obtain ⟨op,name,s2,fr,s4,flag,l6,l7,l8,l9,l10⟩:=s;simp only [szS] at hs;show NRes (f138_b k (fam118 k m) (.mk n d z) (.mk op name s2 fr s4 flag l6 l7 l8 l9 l10) a) _ _ _ _;have tail : ∀ (n:Nat) (d:Int),a≤16→n≤600→NRes (f138_l1 k (fam118 k m) l6 l7 l8 l9 l10 a [] l10.length n d z) (gEs z l6 (a + 1) && (gSs z l7 (a + 1) && (gSs z l8 (a + 1) && gSs z l9 (a + 1)))) n (szEs l6 + (szSs l7 + (szSs l8 + szSs l9))) z:=by
    intro n d ha hn;unfold f138_l1;rw [w64_nat (n:=a + 1) (by omega) (by omega)];refine (f153_res k z l6 (by omega) n d (a + 1) hn (by omega)).bind (fun c=>by obtain ⟨_,_,_⟩:=c; exact ⟨_,rfl⟩) fun d hn=>?_
    refine (ihl l7 (by omega) _ d (a + 1) hn (by omega)).bind (fun c=>by obtain ⟨_,_,_⟩:=c; exact ⟨_,rfl⟩) fun d hn=>?_
    refine (ihl l8 (by omega) _ d (a + 1) hn (by omega)).bind (fun c=>by obtain ⟨_,_,_⟩:=c; exact ⟨_,rfl⟩) fun d hn=>?_
    refine ((ihl l9 (by omega) _ d (a + 1) hn (by omega)).bind (g2:=true) (s2:=0) (fun c=>by obtain ⟨_,_,_⟩:=c; exact ⟨_,rfl⟩) fun d hn=>?_).conv (by omega) (fun _=>by simp);exact .yes rfl (by simp [hn])
   have loop:a≤16→l10.length≤4→∀ (rest:List DCase) (i:Nat) (n:Nat) (d:Int),2 * szCs rest≤m→i + rest.length=l10.length→n≤600 →
     NRes (f138_l1 k (fam118 k m) l6 l7 l8 l9 l10 a rest i n d z) (gCs z rest (a + 1) && (gEs z l6 (a + 1) && (gSs z l7 (a + 1) && (gSs z l8 (a + 1) && gSs z l9 (a + 1))))) n (szCs rest + (szEs l6 + (szSs l7 + (szSs l8 + szSs l9)))) z:=by
    intro ha h10 rest;induction rest with
    | nil =>
     intro i n d _ hi hn;obtain rfl:i=l10.length:=by simpa using hi
     exact (tail n d ha hn).conv (by simp [szCs]) (fun _=>by simp [gCs])
    | cons c rest ih =>
     intro i n d hm hi hn;obtain ⟨e0,e1,e2,e3,e4⟩:=c;simp only [szCs,List.length_cons] at hm hi;unfold f138_l1;rw [w64_nat (x:=(a:Int) + 1) (n:=a + 1) (by omega) (by omega),w64_nat (x:=(l10.length:Int) - 1) (n:=l10.length - 1) (by omega) (by omega)];have step:NRes (((fam118 k m).f152 (.mk n d z) (.mk e0 e1 e2 e3 e4) ((a + 1:Nat):Int)).bind fun q_=>match q_ with | (.mk z1467_0 z1467_1 z1467_2,r1468)=>(f138_j6 k (fam118 k m) i z1467_0 z1467_1 z1467_2 (!r1468) (f138_l1 k (fam118 k m) l6 l7 l8 l9 l10 a rest)))
       (gC z (.mk e0 e1 e2 e3 e4) (a + 1) && (gCs z rest (a + 1) && (gEs z l6 (a + 1) && (gSs z l7 (a + 1) && (gSs z l8 (a + 1) && gSs z l9 (a + 1)))))) n (szC (.mk e0 e1 e2 e3 e4) + (szCs rest + (szEs l6 + (szSs l7 + (szSs l8 + szSs l9))))) z :=
      (ihc (.mk e0 e1 e2 e3 e4) (by omega) n d (a + 1) hn (by omega)).bind (fun c=>by obtain ⟨_,_,_⟩:=c; exact ⟨_,rfl⟩) fun d hn=>ih (i + 1) _ d (by omega) (by omega) hn
     by_cases h4:(e0 == 4)=true
     ·simp only [h4,cond_true];by_cases hl:i < l10.length - 1
      ·have:((i:Int) < ((l10.length - 1:Nat):Int)):=by omega
       simp only [this,decide_true,cond_true];refine .no rfl ?_;have:rest.isEmpty=false:=by cases rest with
        | nil=>simp at hi; omega
        | cons=>rfl
       simp [gCs,h4,this]
      ·have : ¬ ((i:Int) < ((l10.length - 1:Nat):Int)):=by omega
       simp only [this,decide_false,cond_false];have:rest.isEmpty=true:=by cases rest with
        | nil=>rfl
        | cons=>simp at hi; omega
       exact step.conv (by simp only [szCs]; omega) (fun _=>by simp [gCs,this,Bool.and_assoc])
     ·have h4' : (e0 == 4)=false:=by simpa using h4
      simp only [h4',cond_false];exact step.conv (by simp only [szCs]; omega) (fun _=>by simp [gCs,h4',Bool.and_assoc])
   unfold f138_b;obtain ⟨L,hL⟩ : ∃ L,f150 k=some L:=⟨_,rfl⟩;have hg:=f150_eq k op;rw [hL] at hg ⊢;simp only [Option.bind_some,Option.some.injEq] at hg ⊢;rw [hg];cases hsh:shp op with
   | none =>
    have:nodeS op name fr flag l6.length l7.length l8.length l9.length l10.length=false:=by unfold nodeS; rw [hsh]
    refine .no (c:=.mk n d z) ?_ (by simp [gS,this]);simp only [toN,mcase];unfold f138_j1;simp only [Bool.not_false,cond_true,f138_j2_eq];rfl
   | some t =>
    obtain ⟨nm,frm,lo,hi,bd,fl⟩:=t;simp only [toN,mcase,f138_j1_eq,f117_eq k n d z a hn,Option.bind_some];have hN:nodeN op name fr flag l6.length l7.length l8.length l9.length l10.length=(flagN op name flag l8.length l9.length && nameN nm frm name fr && argsN op lo (if hi=600 then 601 else hi) bd l6.length l7.length l10.length):=by unfold nodeN; rw [hsh]
    rw [Bool.and_assoc,Bool.and_assoc,← Bool.and_assoc (flagN _ _ _ _ _),← hN];have hl6:=len_szEs l6;by_cases h1:n + 1≤600∧a≤16
    ·obtain ⟨h1,h2⟩:=h1;by_cases h3:((s2 == 0 && s4 == 0) || z)=true
     ·by_cases h4:nodeN op name fr flag l6.length l7.length l8.length l9.length l10.length=true
      ·have h10:l10.length≤4:=by
        rw [hN] at h4;rw [Bool.and_eq_true] at h4;exact argsN_len h4.2
       simp only [h1,h2,h3,h4,decide_true,Bool.and_self,cond_true];refine (loop h2 h10 l10 0 (n + 1) (imax d a) (by omega) (by omega) h1).conv (by simp only [szS]; omega) (fun hh=>?_);have h5:nodeS op name fr flag l6.length l7.length l8.length l9.length l10.length=true:=by rw [← nodeNS _ _ _ _ _ _ _ _ _ (by omega)]; exact h4
       simp only [gS,h2,decide_true,h5];rw [Bool.or_comm] at h3;simp only [h3,Bool.and_self,Bool.true_and];cases gCs z l10 (a + 1) <;> cases gEs z l6 (a + 1) <;> cases gSs z l7 (a + 1) <;> cases gSs z l8 (a + 1) <;> cases gSs z l9 (a + 1) <;> rfl
      ·have h4' : nodeN op name fr flag l6.length l7.length l8.length l9.length l10.length=false:=by simpa using h4
       simp only [h4',Bool.and_false,cond_false];refine .no rfl ?_;by_cases hh:n + szS (.mk op name s2 fr s4 flag l6 l7 l8 l9 l10)≤600
       ·have h5:nodeS op name fr flag l6.length l7.length l8.length l9.length l10.length=false:=by
         rw [← nodeNS _ _ _ _ _ _ _ _ _ (by simp only [szS] at hh; omega)]; exact h4'
        simp [gS,h5]
       ·simp [hh]
     ·have h3' : ((s2 == 0 && s4 == 0) || z)=false:=by simpa using h3
      simp only [h3',Bool.false_and,Bool.and_false,cond_false];refine .no rfl ?_;rw [Bool.or_comm] at h3';simp only [gS,h3',Bool.false_and,Bool.and_false]
    ·have h1' : (decide (n + 1≤600) && decide (a≤16))=false:=by
      simp only [Bool.and_eq_false_iff,decide_eq_false_iff_not]; omega
     simp only [h1',Bool.false_and,cond_false];refine .no rfl ?_;rw [Bool.and_eq_false_iff,decide_eq_false_iff_not];by_cases h2:a≤16
     ·right; simp only [szS]; omega
     ·left; simp [gS,h2]
  ·intro l hl n d a hn ha;show NRes (f118_l1 k (fam118 k m) a l 0 n d z) _ _ _ _;have loop : ∀ (l:List DStmt) (i:Nat) (n:Nat) (d:Int),2 * szSs l≤m→n≤600→NRes (f118_l1 k (fam118 k m) a l i n d z) (gSs z l a) n (szSs l) z:=by
    intro l;induction l with
    | nil=>intro i n d _ hn; exact .yes rfl (by simp [gSs,szSs,hn])
    | cons e l ih =>
     intro i n d hm hn;obtain ⟨e0,e1,e2,e3,e4,e5,e6,e7,e8,e9,e10⟩:=e;unfold f118_l1;simp only [szSs] at hm;exact (ihs (.mk e0 e1 e2 e3 e4 e5 e6 e7 e8 e9 e10) (by omega) n d a hn ha).bind (fun c=>by obtain ⟨_,_,_⟩:=c; exact ⟨_,rfl⟩) fun d hn=>ih (i + 1) _ d (by omega) hn
   exact loop l 0 n d (by omega) hn
  ·intro c hc n d a hn ha;obtain ⟨kind,name,slot,es,b⟩:=c;simp only [szC] at hc;show NRes (f152_b k (fam118 k m) (.mk n d z) (.mk kind name slot es b) a) _ _ _ _;rw [f152_b_eq];by_cases hk:(decide (kind ≥ 1) && decide (kind≤4))=true
   ·simp only [hk,cond_true];rw [f117_eq k n d z a hn];simp only [Option.bind_some];by_cases h1:n + 1≤600∧a≤16
    ·obtain ⟨h1,h2⟩:=h1;by_cases h3:((z || slot == 0) && nodeC kind name es.length)=true
     ·rw [Bool.and_assoc,h3];simp only [h1,h2,decide_true,Bool.and_self,cond_true];unfold f152_j1;simp only [cond_false];rw [w64_nat (x:=(a:Int) + 1) (n:=a + 1) (by omega) (by omega)];refine NRes.conv (g:=gEs z es (a + 1) && (gSs z b (a + 1) && true)) (n:=n + 1) (s:=szEs es + (szSs b + 0)) ?_ (by simp only [szC]; omega) (fun _=>?_)
      ·refine (f153_res k z es (by omega) (n + 1) _ (a + 1) h1 (by omega)).bind (fun c=>by obtain ⟨_,_,_⟩:=c; exact ⟨_,rfl⟩) fun d hn=>?_
       refine (ihl b (by omega) _ d (a + 1) hn (by omega)).bind (fun c=>by obtain ⟨_,_,_⟩:=c; exact ⟨_,rfl⟩) fun d hn=>?_
       exact .yes rfl (by simp [hn])
      ·simp only [gC,h2,decide_true,Bool.true_and,Bool.and_true,h3]
     ·have h3' : ((z || slot == 0) && nodeC kind name es.length)=false:=by simpa using h3
      rw [Bool.and_assoc,h3',Bool.and_false];refine .no rfl ?_;rw [gC,Bool.and_assoc (decide (a≤16)),h3'];simp
    ·have h1' : (decide (n + 1≤600) && decide (a≤16))=false:=by
      simp only [Bool.and_eq_false_iff,decide_eq_false_iff_not]; omega
     simp only [h1',Bool.false_and,cond_false];refine .no rfl ?_;rw [Bool.and_eq_false_iff,decide_eq_false_iff_not];by_cases h2:a≤16
     ·right; simp only [szC]; omega
     ·left; simp [gC,h2]
   ·have hk' : (decide (kind ≥ 1) && decide (kind≤4))=false:=by simpa using hk
    simp only [hk',cond_false];exact .no rfl (by simp only [gC,nodeC,hk',Bool.false_and,Bool.and_false])
section
variable (k:Nat) (F:Fam61) (op:Int) (name:ByteArray) (s2:Int) (from_:ByteArray) (s4 flag:Int) (l6:List DExpr) (l7 l8 l9:List DStmt) (l10:List DCase) (a nm:Int) (fr:Bool) (lo hi:Int) (bd:Bool) (n d:Int) (z q:Bool)
theorem f90_b_eq:f90_b k F (.mk n d false) (.mk op name s2 from_ s4 flag l6 l7 l8 l9 l10) a=(f60 k (.mk n d false) a).bind fun x=>match x with
  | .mk n1 d1 q1=>f90_l2 k F l7 l8 l9 l10 a l6 0 n1 d1 (q1 || !((s2 == 0 && s4 == 0) && nodeS op name from_ flag l6.length l7.length l8.length l9.length l10.length)):=by
 unfold f90_b;simp only [cond_false];congr 1;funext x;obtain ⟨n1,d1,q1⟩:=x;simp only [f109_eq,Option.bind_some,f59_eq,f90_j1_eq,nodeS];cases shp op with
 | none =>
  simp only [toR,cond_false,Bool.and_false,Bool.not_false,Bool.or_true,Bool.true_or]
 | some t =>
  obtain ⟨nm,frm,lo,hi,bd,fl⟩:=t;simp only [toR,cond_true];generalize (nameR nm name && fromR frm from_ && (bd || ((l7.length:Int) == 0)) && flagR op name flag l8.length l9.length && casesR op l10.length)=g;generalize f90_l2 k F l7 l8 l9 l10 a l6 0 n1 d1=Q;obtain ⟨A,B,rfl⟩:=bfun Q;simp only [Bool.cond_eq_ite];grind (splits:=20)
theorem f111_b_eq (kind:Int) (slot:Int) (es:List DExpr) (b:List DStmt):f111_b k F (.mk n d q) (.mk kind name slot es b) a=(f60 k (.mk n d q) a).bind fun x=>match x with
  | .mk n1 d1 q1=>f111_l1 k F b a es 0 n1 d1 (q1 || !((slot == 0) && nodeC kind name es.length)):=by
 unfold f111_b;simp only;congr 1;funext x;obtain ⟨n1,d1,q1⟩:=x;unfold f111_j1 f111_j2 f111_j3;simp only [Option.bind_some,f59_eq,f34_eq,nodeC];generalize f111_l1 k F b a es 0 n1 d1=Q;obtain ⟨A,B,rfl⟩:=bfun Q;generalize (slot == 0)=b5;generalize isN name=b6;generalize seq name ⟨#[]⟩=b7;simp only [Bool.cond_eq_ite];grind (splits:=20)
end
theorem f61_wrong (k:Nat) (F:Fam61) (a:Int) (l:List DStmt) (i:Nat) (x d:Int):f61_l1 k F a l i x d true=some (.mk x d true):=by
 cases l with
 | nil=>rfl
 | cons e l=>obtain ⟨_,_,_,_,_,_,_,_,_,_,_⟩:=e; rfl
theorem RRes.conv {r:Option DSize} {g g' : Bool} {n s n' s' : Nat} {q q' : Bool} (h:RRes r g n s q) (hs:n + s=n' + s') (hg:(q || !(g && decide (n + s≤600)))=(q' || !(g' && decide (n' + s'≤600)))):RRes r g' n' s' q':=by
 obtain ⟨x,d,q1,h1,h2,h3⟩:=h;exact ⟨x,d,q1,h1,by rw [h2,hg],by rw [← hs]; exact h3⟩
theorem RRes.node {r:Option DSize} {g b:Bool} {n s a:Nat} (h:RRes r g (n + 1) s (!(decide (n + 1≤600) && decide (a≤16)) || !b)):RRes r (decide (a≤16) && b && g) n (s + 1) false:=by
 refine h.conv (by omega) ?_;have e:n + (s + 1)=n + 1 + s:=by omega
 rw [e];by_cases hh:n + 1 + s≤600
 ·have:n + 1≤600:=by omega
  simp only [hh,this,decide_true];cases decide (a≤16) <;> cases b <;> cases g <;> rfl
 ·simp [hh]
theorem f110_res (k:Nat) (e:DExpr) (hk:szE e≤k) (n:Nat) (d:Int) (a:Nat) (hn:n≤600) (ha:a≤17):RRes (f110 k (.mk n d false) e a false) (gE false e a) n (szE e) false :=
 rE k k e hk n d a hn ha
theorem node_hx {n a:Nat} {b:Bool}:(!(decide (n + 1≤600) && decide (a≤16)) || !b)=false→((n + 1:Nat):Int)=((n + 1:Nat):Int)∧n + 1≤600:=by
 intro h; simp at h; exact ⟨rfl,by omega⟩
theorem nodeS_len {op flag:Int} {name fr:ByteArray} {l6 l7 l8 l9 l10:Nat} (h:nodeS op name fr flag l6 l7 l8 l9 l10=true):l10≤1000:=by
 unfold nodeS at h;cases hs:shp op with
 | none=>rw [hs] at h; cases h
 | some t =>
  obtain ⟨nm,frm,lo,hi,bd,fl⟩:=t;rw [hs] at h;simp only [Bool.and_eq_true,casesR,decide_eq_true_eq] at h;have:=h.2.2.2;omega
theorem rS (k:Nat) : ∀ m,m≤k →
  (∀ s,2 * szS s≤m→∀ (n:Nat) (d:Int) (a:Nat),n≤600→a≤17→RRes ((fam61 k m).f90 (.mk n d false) s a) (gS false s a) n (szS s) false) ∧
  (∀ l,2 * szSs l + 1≤m→∀ (x:Int) (n:Nat) (d:Int) (q:Bool) (a:Nat),(q=false→x=(n:Int)∧n≤600)→a≤17→RRes ((fam61 k m).f61 (.mk x d q) l a) (gSs false l a) n (szSs l) q) ∧
  (∀ c,2 * szC c≤m→∀ (n:Nat) (d:Int) (a:Nat),n≤600→a≤17→RRes ((fam61 k m).f111 (.mk n d false) c a) (gC false c a) n (szC c) false)
 | 0,_=>⟨fun e he=>by have:=szS_pos e; omega,fun l hl=>by omega,fun c hc=>by have:=szC_pos c; omega⟩
 | m + 1,hmk=>by
  obtain ⟨ihs,ihl,ihc⟩:=rS k m (by omega);refine ⟨?_,?_,?_⟩
  ·intro s hs n d a hn ha;obtain ⟨op,name,s2,fr,s4,flag,l6,l7,l8,l9,l10⟩:=s;simp only [szS] at hs;show RRes (f90_b k (fam61 k m) (.mk n d false) (.mk op name s2 fr s4 flag l6 l7 l8 l9 l10) a) _ _ _ _;rw [f90_b_eq,f60_eq k n d false a hn];simp only [Option.bind_some,Bool.false_or];have cs:a≤16→l10.length≤1000→∀ (rest:List DCase) (i:Nat) (x:Int) (n:Nat) (d:Int) (q:Bool),2 * szCs rest≤m→i + rest.length=l10.length→(q=false→x=(n:Int)∧n≤600) →
     RRes (f90_l1 k (fam61 k m) l10 a rest i x d q) (gCs false rest (a + 1)) n (szCs rest) q:=by
    intro ha h10 rest;induction rest with
    | nil=>intro i x n d q _ _ hx; exact .done hx
    | cons c rest ih =>
     intro i x n d q hm hi hx;obtain ⟨e0,e1,e2,e3,e4⟩:=c;simp only [szCs,List.length_cons] at hm hi;unfold f90_l1;cases q with
     | true=>exact .wrong rfl
     | false =>
      obtain ⟨rfl,hn⟩:=hx rfl;simp only [Bool.not_false,cond_true];rw [w64_nat (x:=(a:Int) + 1) (n:=a + 1) (by omega) (by omega),w64_nat (x:=(l10.length:Int) - 1) (n:=l10.length - 1) (by omega) (by omega)];refine ((ihc (.mk e0 e1 e2 e3 e4) (by omega) n d (a + 1) hn (by omega)).bind (g2:=(!(e0 == 4) || rest.isEmpty) && gCs false rest (a + 1)) (s2:=szCs rest) fun x1 d1 q1 h1=>?_).cast ?_ (by simp only [szCs])
      ·have hb:(cond (e0 != 4) ((f59 k (DSize.mk x1 d1 q1) true).bind fun q_=>match q_ with | .mk z931_0 z931_1 z931_2=>(f90_j10 k (fam61 k m) i z931_0 z931_1 z931_2 (f90_l1 k (fam61 k m) l10 a rest))) ((f59 k (DSize.mk x1 d1 q1) ((i:Int) == ((l10.length - 1:Nat):Int))).bind fun q_=>match q_ with | .mk z938_0 z938_1 z938_2=>(f90_j10 k (fam61 k m) i z938_0 z938_1 z938_2 (f90_l1 k (fam61 k m) l10 a rest)))) =
         f90_l1 k (fam61 k m) l10 a rest (i + 1) x1 d1 (q1 || !(!(e0 == 4) || rest.isEmpty)):=by
        have hl:((i:Int) == ((l10.length - 1:Nat):Int))=rest.isEmpty:=by
         cases rest with
         | nil=>simp at hi ⊢; omega
         | cons _ _=>simp at hi ⊢; omega
        simp only [f59_eq,Option.bind_some,hl,bne];unfold f90_j10;cases (e0 == 4) <;> cases rest.isEmpty <;> simp
       rw [hb];refine (ih (i + 1) x1 _ d1 _ (by omega) (by omega) (fun h=>h1 ?_)).check;simp at h; exact h.1
      ·simp only [gCs];cases (!(e0 == 4) || rest.isEmpty) <;> cases gC false (.mk e0 e1 e2 e3 e4) (a + 1) <;> rfl
   have fw : ∀ (x d:Int) (l:List DStmt) (a:Int),(fam61 k m).f61 (.mk x d true) l a=some (.mk x d true):=by
    intro x d l a;cases m with
    | zero=>omega
    | succ m=>exact f61_wrong _ _ _ _ _ _ _
   have w1 : ∀ (x d:Int) (rest:List DCase) (i:Nat),f90_l1 k (fam61 k m) l10 a rest i x d true=some (.mk x d true):=by
    intro x d rest i;cases rest with
    | nil=>rfl
    | cons c l=>obtain ⟨_,_,_,_,_⟩:=c; rfl
   have w2 : ∀ (x d:Int) (l:List DExpr) (i:Nat),f90_l2 k (fam61 k m) l7 l8 l9 l10 a l i x d true=some (.mk x d true):=by
    intro x d l i;cases l with
    | nil=>unfold f90_l2 f90_j9; simp only [fw,Option.bind_some,w1]
    | cons c l=>obtain ⟨_,_,_,_,_⟩:=c; unfold f90_l2 f90_j9; simp only [fw,Option.bind_some,w1,Bool.not_true,cond_false]
   have tail:a≤16→l10.length≤1000→∀ (x:Int) (n:Nat) (d:Int) (q:Bool),(q=false→x=(n:Int)∧n≤600) →
     RRes (f90_j9 k (fam61 k m) l7 l8 l9 l10 a x d q) (gSs false l7 (a + 1) && (gSs false l8 (a + 1) && (gSs false l9 (a + 1) && gCs false l10 (a + 1)))) n (szSs l7 + (szSs l8 + (szSs l9 + szCs l10))) q:=by
    intro ha h10 x n d q hx;unfold f90_j9;rw [w64_nat (x:=(a:Int) + 1) (n:=a + 1) (by omega) (by omega)];refine (ihl l7 (by omega) x n d q (a + 1) hx (by omega)).bind fun x d q hx=>?_
    refine (ihl l8 (by omega) x _ d q (a + 1) hx (by omega)).bind fun x d q hx=>?_
    refine (ihl l9 (by omega) x _ d q (a + 1) hx (by omega)).bind fun x d q hx=>?_
    exact cs ha h10 l10 0 x _ d q (by omega) (by omega) hx
   have loop:a≤16→l10.length≤1000→∀ (l:List DExpr) (i:Nat) (x:Int) (n:Nat) (d:Int) (q:Bool),szEs l≤m→(q=false→x=(n:Int)∧n≤600) →
     RRes (f90_l2 k (fam61 k m) l7 l8 l9 l10 a l i x d q) (gEs false l (a + 1) && (gSs false l7 (a + 1) && (gSs false l8 (a + 1) && (gSs false l9 (a + 1) && gCs false l10 (a + 1))))) n (szEs l + (szSs l7 + (szSs l8 + (szSs l9 + szCs l10)))) q:=by
    intro ha h10 l;induction l with
    | nil =>
     intro i x n d q _ hx;unfold f90_l2;exact (tail ha h10 x n d q hx).cast (by simp [gEs]) (by simp [szEs])
    | cons e l ih =>
     intro i x n d q hm hx;cases q with
     | true=>rw [w2]; exact .wrong rfl
     | false =>
      obtain ⟨rfl,hn⟩:=hx rfl;obtain ⟨e0,e1,e2,e3,e4⟩:=e;unfold f90_l2;simp only [szEs] at hm;simp only [Bool.not_false,cond_true];rw [w64_nat (x:=(a:Int) + 1) (n:=a + 1) (by omega) (by omega)];refine ((f110_res k (.mk e0 e1 e2 e3 e4) (by omega) n d (a + 1) hn (by omega)).bind fun x1 d1 q1 h1=>ih (i + 1) x1 _ d1 q1 (by omega) h1).cast ?_ ?_
      ·simp only [gEs,Bool.and_assoc]
      ·simp only [szEs]; omega
   by_cases hq:(decide (n + 1≤600) && decide (a≤16))=true∧((s2 == 0 && s4 == 0) && nodeS op name fr flag l6.length l7.length l8.length l9.length l10.length)=true
   ·have ha' : a≤16:=by have:=hq.1; simp at this; exact this.2
    have h10:l10.length≤1000:=by
     have h:=hq.2;rw [Bool.and_eq_true] at h;exact nodeS_len h.2
    refine RRes.cast (RRes.node (a:=a) (loop ha' h10 l6 0 _ (n + 1) _ _ (by omega) node_hx)) ?_ ?_
    ·simp only [gS,Bool.false_or,← Bool.and_assoc]
    ·simp only [szS]; omega
   ·have hq' : (!(decide (n + 1≤600) && decide (a≤16)) || !((s2 == 0 && s4 == 0) && nodeS op name fr flag l6.length l7.length l8.length l9.length l10.length))=true:=by
     rw [← Bool.not_and,Bool.not_eq_true']; rw [← Bool.and_eq_true] at hq; simpa using hq
    rw [hq',w2];refine .bad rfl ?_;simp only [gS,szS,Bool.false_or];by_cases h1:n + 1≤600
    ·by_cases h2:a≤16
     ·have:((s2 == 0 && s4 == 0) && nodeS op name fr flag l6.length l7.length l8.length l9.length l10.length)=false:=by
       cases h:((s2 == 0 && s4 == 0) && nodeS op name fr flag l6.length l7.length l8.length l9.length l10.length) with
       | false=>rfl
       | true=>exact absurd ⟨by simp [h1,h2],h⟩ hq
      rw [Bool.and_assoc (decide (a≤16)),this]; simp
     ·simp [h2]
    ·have : ¬ (n + (szEs l6 + szSs l7 + szSs l8 + szSs l9 + szCs l10 + 1)≤600):=by omega
     simp [this]
  ·intro l hl x n d q a hx ha;show RRes (f61_l1 k (fam61 k m) a l 0 x d q) _ _ _ _;have loop : ∀ (l:List DStmt) (i:Nat) (x:Int) (n:Nat) (d:Int) (q:Bool),2 * szSs l≤m→(q=false→x=(n:Int)∧n≤600)→RRes (f61_l1 k (fam61 k m) a l i x d q) (gSs false l a) n (szSs l) q:=by
    intro l;induction l with
    | nil=>intro i x n d q _ hx; exact .done hx
    | cons e l ih =>
     intro i x n d q hm hx;obtain ⟨e0,e1,e2,e3,e4,e5,e6,e7,e8,e9,e10⟩:=e;unfold f61_l1;cases q with
     | true=>exact .wrong rfl
     | false =>
      obtain ⟨rfl,hn⟩:=hx rfl;simp only [szSs] at hm;simp only [Bool.not_false,cond_true];exact (ihs (.mk e0 e1 e2 e3 e4 e5 e6 e7 e8 e9 e10) (by omega) n d a hn ha).bind fun x1 d1 q1 h1=>ih (i + 1) x1 _ d1 q1 (by omega) h1
   exact loop l 0 x n d q (by omega) hx
  ·intro c hc n d a hn ha;obtain ⟨kind,name,slot,es,b⟩:=c;simp only [szC] at hc;show RRes (f111_b k (fam61 k m) (.mk n d false) (.mk kind name slot es b) a) _ _ _ _;rw [f111_b_eq,f60_eq k n d false a hn];simp only [Option.bind_some,Bool.false_or];have loop:a≤16→∀ (l:List DExpr) (i:Nat) (x:Int) (n:Nat) (d:Int) (q:Bool),szEs l≤m→(q=false→x=(n:Int)∧n≤600)→RRes (f111_l1 k (fam61 k m) b a l i x d q) (gEs false l (a + 1) && gSs false b (a + 1)) n (szEs l + szSs b) q:=by
    intro ha l;induction l with
    | nil =>
     intro i x n d q _ hx;unfold f111_l1 f111_j4;rw [w64_nat (x:=(a:Int) + 1) (n:=a + 1) (by omega) (by omega)];refine ((ihl b (by omega) x n d q (a + 1) hx (by omega)).bind (g2:=true) (s2:=0) fun x1 d1 q1 h1=>.done h1).cast ?_ ?_
     ·simp [gEs]
     ·simp [szEs]
    | cons e l ih =>
     intro i x n d q hm hx;obtain ⟨e0,e1,e2,e3,e4⟩:=e;unfold f111_l1;simp only [szEs] at hm;cases q with
     | true =>
      unfold f111_j4;simp only [Bool.not_true,cond_false];obtain ⟨x1,d1,q1,h1,h2,h3⟩:=ihl b (by omega) x n d true ((a + 1)) hx (by omega);rw [w64_nat (x:=(a:Int) + 1) (n:=a + 1) (by omega) (by omega),h1];simp at h2; subst h2
      exact .wrong rfl
     | false =>
      obtain ⟨rfl,hn⟩:=hx rfl;simp only [Bool.not_false,cond_true];rw [w64_nat (x:=(a:Int) + 1) (n:=a + 1) (by omega) (by omega)];refine ((f110_res k (.mk e0 e1 e2 e3 e4) (by omega) n d (a + 1) hn (by omega)).bind fun x1 d1 q1 h1=>ih (i + 1) x1 _ d1 q1 (by omega) h1).cast ?_ ?_
      ·simp only [gEs,Bool.and_assoc]
      ·simp only [szEs]; omega
   have fw : ∀ (x d:Int) (l:List DStmt) (a:Int),(fam61 k m).f61 (.mk x d true) l a=some (.mk x d true):=by
    intro x d l a;cases m with
    | zero=>omega
    | succ m=>exact f61_wrong _ _ _ _ _ _ _
   have w2 : ∀ (x d:Int) (l:List DExpr) (i:Nat),f111_l1 k (fam61 k m) b a l i x d true=some (.mk x d true):=by
    intro x d l i;cases l with
    | nil=>unfold f111_l1 f111_j4; simp only [fw,Option.bind_some]
    | cons c l=>obtain ⟨_,_,_,_,_⟩:=c; unfold f111_l1 f111_j4; simp only [fw,Option.bind_some,Bool.not_true,cond_false]
   by_cases ha' : a≤16
   ·refine RRes.cast (RRes.node (a:=a) (loop ha' es 0 _ (n + 1) _ _ (by omega) node_hx)) ?_ ?_
    ·simp only [gC,Bool.false_or,← Bool.and_assoc]
    ·simp only [szC]
   ·have hq' : (!(decide (n + 1≤600) && decide (a≤16)) || !((slot == 0) && nodeC kind name es.length))=true:=by simp [ha']
    rw [hq',w2];exact .bad rfl (by simp [gC,ha'])
end Go.Proofs.YtoajecnoffhlbaaGreatDoor
namespace Go.Proofs.YtoajecnoffhlbaaGreatDoor
open Go
def okP:List DParam→Bool
 | []=>true
 | .mk nm kd :: l=>isN nm && decide (kd ≥ 1) && decide (kd≤6) && okP l
def headF (z:Bool) (name:ByteArray) (np:Nat) (res:Int) (f3:Bool) (s4:Int):Bool :=
 isN name && decide (np≤4) && (z || s4 == 0) && (!f3 || res == 0) && decide (res ≥ 0) && decide (res≤6)
def gFs (z:Bool):List DFunc→Bool
 | []=>true
 | .mk name ps res f3 s4 b :: l=>headF z name ps.length res f3 s4 && (okP ps && (gSs z b 1 && gFs z l))
def cnF:DFunc→Nat | .mk _ _ _ _ _ b=>szSs b + 1
def cnFs:List DFunc→Nat | []=>0 | f :: l=>cnF f + cnFs l
def wf (z:Bool):DProgram→Bool
 | .mk fs=>decide (1≤fs.length) && decide (fs.length≤16) && gFs z fs && decide (cnFs fs≤600)
section
variable (k i:Nat) (body:List DStmt) (n d:Int) (z q:Bool) (nx:Nat→Int→Int→Bool→Option (Dcounter × Bool))
theorem f101_l2_eq : ∀ (ps:List DParam) (j:Nat),f101_l2 k i body n d z nx ps j=cond (okP ps) (f101_l2 k i body n d z nx [] 0) (some (.mk n d z,false))
 | [],j=>rfl
 | .mk nm kd :: ps,j=>by
  have ih:=f101_l2_eq ps;generalize f101_l2 k i body n d z nx [] 0=A at ih ⊢;rw [f101_l2];simp only [f63_eq,f116_eq,Option.bind_some,f101_j2,ih,okP];cases isN nm <;> cases decide (kd ≥ 1) <;> cases decide (kd≤6) <;> rfl
theorem f101_j1_eq (ps:List DParam):f101_j1 k i ps body n d z q nx=cond (!q && okP ps) (f101_l2 k i body n d z nx [] 0) (some (.mk n d z,false)):=by
 unfold f101_j1;rw [f101_l2_eq];cases q <;> rfl
end
theorem f118_res (k:Nat) (z:Bool) (l:List DStmt) (hk:2 * szSs l + 1≤k) (n:Nat) (d:Int) (a:Nat) (hn:n≤600) (ha:a≤17):NRes (f118 k (.mk n d z) l a) (gSs z l a) n (szSs l) z :=
 (nSt k z k (Nat.le_refl k)).2.1 l hk n d a hn ha
theorem f61_res (k:Nat) (l:List DStmt) (hk:2 * szSs l + 1≤k) (x:Int) (n:Nat) (d:Int) (q:Bool) (a:Nat) (hx:q=false→x=(n:Int)∧n≤600) (ha:a≤17):RRes (f61 k (.mk x d q) l a) (gSs false l a) n (szSs l) q :=
 (rS k k (Nat.le_refl k)).2.1 l hk x n d q a hx ha
theorem f101_l1_eq (k:Nat) (name:ByteArray) (ps:List DParam) (res:Int) (f3:Bool) (s4:Int) (b:List DStmt) (l:List DFunc) (i:Nat) (n d:Int) (z:Bool) :
  f101_l1 k (.mk name ps res f3 s4 b :: l) i n d z=(f117 k (.mk n d z) 0).bind fun x=>match x with
   | (.mk n1 d1 z1,ok)=>cond (ok && headF z1 name ps.length res f3 s4 && okP ps) (f101_l2 k i b n1 d1 z1 (f101_l1 k l) [] 0) (some (.mk n1 d1 z1,false)):=by
 rw [f101_l1];congr 1;funext x;obtain ⟨⟨n1,d1,z1⟩,ok⟩:=x;simp only [f63_eq,f116_eq,Option.bind_some,f101_j1_eq,headF];have e:decide ((ps.length:Int) > 4)=!decide (ps.length≤4):=by rw [← decide_not,decide_eq_decide]; omega
 rw [e];simp only [Bool.cond_eq_ite];grind (splits:=20)
theorem nFs (k:Nat) (z:Bool) : ∀ (l:List DFunc) (i:Nat) (n:Nat) (d:Int),2 * szFs l + 1≤k→n≤600→NRes (f101_l1 k l i n d z) (gFs z l) n (cnFs l) z
 | [],i,n,d,hk,hn=>.yes rfl (by simp [gFs,cnFs,hn])
 | .mk name ps res f3 s4 b :: l,i,n,d,hk,hn=>by
  simp only [szFs,szF] at hk;rw [f101_l1_eq];have e0:((0:Nat):Int)=0:=rfl;rw [← e0,f117_eq k n d z 0 hn,e0];simp only [Option.bind_some,Nat.zero_le,decide_true,Bool.and_true];by_cases h1:n + 1≤600
  ·by_cases h2:(headF z name ps.length res f3 s4 && okP ps)=true
   ·rw [Bool.and_assoc,h2];simp only [h1,decide_true,Bool.and_self,cond_true];rw [f101_l2];refine ((f118_res k z b (by omega) (n + 1) (imax d 0) 1 h1 (by omega)).bind (f:=fun q_=>match q_ with | (.mk z10628_0 z10628_1 z10628_2,r10629)=>(cond (!r10629) (some ((Dcounter.mk z10628_0 z10628_1 z10628_2),false)) (f101_l1 k l (i + 1) z10628_0 z10628_1 z10628_2)))
     (fun c=>by obtain ⟨_,_,_⟩:=c; exact ⟨_,rfl⟩) fun d hn=>nFs k z l (i + 1) _ d (by omega) hn).conv (by simp only [cnFs,cnF]; omega) (fun _=>?_)
    rw [Bool.and_eq_true] at h2;simp only [gFs,h2.1,h2.2,Bool.true_and]
   ·have h2' : (headF z name ps.length res f3 s4 && okP ps)=false:=by simpa using h2
    rw [Bool.and_assoc,h2',Bool.and_false];refine .no rfl ?_;rw [gFs,← Bool.and_assoc,h2'];simp
  ·simp only [h1,decide_false,Bool.false_and,cond_false];refine .no rfl ?_;have : ¬ (n + (szSs b + 1 + cnFs l)≤600):=by omega
   simp [cnFs,cnF,this]
theorem f78_eq (k:Nat) (p:DProgram) (z:Bool) (hk:2 * szP p + 1≤k):f78 k p z=some (wf z p):=by
 obtain ⟨fs⟩:=p;simp only [szP] at hk;unfold f78 f78_b f101 f101_b;simp only [f116_eq,Option.bind_some];have e1:(decide ((fs.length:Int) ≥ 1) && decide ((fs.length:Int)≤16))=(decide (1≤fs.length) && decide (fs.length≤16)):=by
  congr 1
  ·rw [decide_eq_decide]; omega
  ·rw [decide_eq_decide]; omega
 rw [e1];by_cases h:(decide (1≤fs.length) && decide (fs.length≤16))=true
 ·rw [h];simp only [Bool.not_true,cond_false];obtain ⟨c,h1,h2⟩:=nFs k z fs 0 0 0 (by omega) (by omega);have e0:((0:Nat):Int)=0:=rfl;rw [e0] at h1;rw [h1];obtain ⟨_,_,_⟩:=c;simp only [Option.bind_some,wf,h,Nat.zero_add,Bool.true_and]
 ·have h' : (decide (1≤fs.length) && decide (fs.length≤16))=false:=by simpa using h
  rw [h'];simp only [Bool.not_false,cond_true,Option.bind_some,wf,h',Bool.false_and]
section
variable (k i:Nat) (body:List DStmt) (d:Int) (nx:Nat→Int→Int→Bool→Option DSize)
theorem f32_l2_eq : ∀ (ps:List DParam) (j:Nat) (x d:Int) (q:Bool),f32_l2 k i body nx ps j x d q=f32_j4 k i body x d (q || !okP ps) nx
 | [],j,x,d,q=>by simp [f32_l2,okP]
 | .mk nm kd :: ps,j,x,d,q=>by
  unfold f32_l2;simp only [f34_eq,f59_eq,Option.bind_some,f32_j5,f32_l2_eq ps,okP];cases q <;> cases isN nm <;> cases decide (kd ≥ 1) <;> cases decide (kd≤6) <;> rfl
end
theorem f32_l1_eq (k:Nat) (name:ByteArray) (ps:List DParam) (res:Int) (f3:Bool) (s4:Int) (b:List DStmt) (l:List DFunc) (i:Nat) (n d:Int) :
  f32_l1 k (.mk name ps res f3 s4 b :: l) i n d false=(f60 k (.mk n d false) 0).bind fun x=>match x with
   | .mk n1 d1 q1=>f32_j4 k i b n1 d1 (q1 || !(headF false name ps.length res f3 s4 && okP ps)) (f32_l1 k l):=by
 rw [f32_l1];simp only [Bool.not_false,cond_true];congr 1;funext x;obtain ⟨n1,d1,q1⟩:=x;simp only [f34_eq,f59_eq,Option.bind_some,f32_j3,f32_l2_eq,headF];have e:decide ((ps.length:Int)≤4)=decide (ps.length≤4):=by rw [decide_eq_decide]; omega
 rw [e];have hQ : ∃ A B,(fun q=>f32_j4 k i b n1 d1 q (f32_l1 k l))=fun b=>if b=true then A else B:=bfun _
 obtain ⟨A,B,hQ⟩:=hQ;have hQ' : ∀ q,f32_j4 k i b n1 d1 q (f32_l1 k l)=if q=true then A else B:=fun q=>congrFun hQ q
 simp only [hQ'];generalize decide (ps.length≤4)=b2;generalize isN name=b1;generalize okP ps=b3;generalize (s4 == 0)=b4;generalize (res == 0)=b5;simp only [Bool.cond_eq_ite];grind (splits:=20)
theorem rFs (k:Nat) : ∀ (l:List DFunc) (i:Nat) (x:Int) (n:Nat) (d:Int) (q:Bool),2 * szFs l + 1≤k→(q=false→x=(n:Int)∧n≤600)→RRes (f32_l1 k l i x d q) (gFs false l) n (cnFs l) q
 | [],i,x,n,d,q,hk,hx=>.done hx
 | .mk name ps res f3 s4 b :: l,i,x,n,d,q,hk,hx=>by
  simp only [szFs,szF] at hk;cases q with
  | true=>exact .wrong rfl
  | false =>
   obtain ⟨rfl,hn⟩:=hx rfl;rw [f32_l1_eq];have e0:((0:Nat):Int)=0:=rfl;rw [← e0,f60_eq k n d false 0 hn,e0];simp only [Option.bind_some,Bool.false_or];unfold f32_j4;refine RRes.cast (RRes.node (a:=0) (b:=headF false name ps.length res f3 s4 && okP ps) (g:=gSs false b 1 && gFs false l) (s:=szSs b + cnFs l) ?_) ?_ ?_
   ·exact (f61_res k b (by omega) _ (n + 1) _ _ 1 (fun h=>by simp at h; exact ⟨rfl,by omega⟩) (by omega)).bind fun x d q hx=>rFs k l (i + 1) x _ d q (by omega) hx
   ·simp only [gFs,Nat.zero_le,decide_true,Bool.true_and,Bool.and_assoc]
   ·simp only [cnFs,cnF]; omega
theorem f20_eq (k:Nat) (p:DProgram) (hk:2 * szP p + 1≤k):f20 k p=some (wf false p):=by
 obtain ⟨fs⟩:=p;simp only [szP] at hk;unfold f20 f20_b f32 f32_b;simp only [f59_eq,Option.bind_some,f32_j1];have e:(cond (decide ((fs.length:Int) ≥ 1)) (f32_l1 k fs 0 0 0 (false || !decide ((fs.length:Int)≤16))) (f32_l1 k fs 0 0 0 (false || !false)))=f32_l1 k fs 0 0 0 (!(decide (1≤fs.length) && decide (fs.length≤16))):=by
  have e1:decide ((fs.length:Int) ≥ 1)=decide (1≤fs.length):=by rw [decide_eq_decide]; omega
  have e2:decide ((fs.length:Int)≤16)=decide (fs.length≤16):=by rw [decide_eq_decide]; omega
  rw [e1,e2];cases decide (1≤fs.length) <;> rfl
 rw [e];have e0:((0:Nat):Int)=0:=rfl;obtain ⟨x,d,q',h1,h2,h3⟩:=rFs k fs 0 0 0 0 (!(decide (1≤fs.length) && decide (fs.length≤16))) (by omega) (fun _=>⟨rfl,by omega⟩);rw [h1];simp only [Option.bind_some,wf,h2,Nat.zero_add];cases decide (1≤fs.length) <;> cases decide (fs.length≤16) <;> cases gFs false fs <;> cases decide (cnFs fs≤600) <;> rfl
mutual
def stS:DStmt→DStmt | .mk op name _ fr _ flag l6 l7 l8 l9 l10=>.mk op name 0 fr 0 flag (stEs l6) (stSs l7) (stSs l8) (stSs l9) (stCs l10)
def stSs:List DStmt→List DStmt | []=>[] | s :: l=>stS s :: stSs l
def stC:DCase→DCase | .mk kind name _ es b=>.mk kind name 0 (stEs es) (stSs b)
def stCs:List DCase→List DCase | []=>[] | c :: l=>stC c :: stCs l
end
def stF:DFunc→DFunc | .mk name ps res f3 _ b=>.mk name ps res f3 0 (stSs b)
def stFs:List DFunc→List DFunc | []=>[] | f :: l=>stF f :: stFs l
def stP:DProgram→DProgram | .mk fs=>.mk (stFs fs)
theorem stSs_len : ∀ l,(stSs l).length=l.length
 | []=>rfl
 | e :: l=>by simp [stSs,stSs_len l]
theorem stCs_len : ∀ l,(stCs l).length=l.length
 | []=>rfl
 | e :: l=>by simp [stCs,stCs_len l]
theorem stFs_len : ∀ l,(stFs l).length=l.length
 | []=>rfl
 | e :: l=>by simp [stFs,stFs_len l]
mutual
theorem szS_st : ∀ e,szS (stS e)=szS e
 | .mk _ _ _ _ _ _ _ l7 l8 l9 l10=>by simp only [stS,szS,szEs_st,szSs_st l7,szSs_st l8,szSs_st l9,szCs_st l10]
theorem szSs_st : ∀ l,szSs (stSs l)=szSs l
 | []=>rfl
 | e :: l=>by simp only [stSs,szSs,szS_st e,szSs_st l]
theorem szC_st : ∀ e,szC (stC e)=szC e
 | .mk _ _ _ _ b=>by simp only [stC,szC,szEs_st,szSs_st b]
theorem szCs_st : ∀ l,szCs (stCs l)=szCs l
 | []=>rfl
 | e :: l=>by simp only [stCs,szCs,szC_st e,szCs_st l]
end
mutual
theorem gS_st : ∀ e a,gS false (stS e) a=gS true e a
 | .mk _ _ _ _ _ _ _ l7 l8 l9 l10,a=>by simp [stS,gS,gEs_st,gSs_st l7,gSs_st l8,gSs_st l9,gCs_st l10,stEs_len,stSs_len,stCs_len]
theorem gSs_st : ∀ l a,gSs false (stSs l) a=gSs true l a
 | [],_=>rfl
 | e :: l,a=>by simp only [stSs,gSs,gS_st e,gSs_st l]
theorem gC_st : ∀ e a,gC false (stC e) a=gC true e a
 | .mk _ _ _ _ b,a=>by simp [stC,gC,gEs_st,gSs_st b,stEs_len]
theorem gCs_st : ∀ l a,gCs false (stCs l) a=gCs true l a
 | [],_=>rfl
 | .mk k nm s es b :: l,a=>by
  have h:=gC_st (.mk k nm s es b) a;simp only [stC] at h;have e:(stCs l).isEmpty=l.isEmpty:=by cases l <;> rfl
  simp only [stCs,stC,gCs,h,gCs_st l,e]
end
theorem szFs_st : ∀ l,szFs (stFs l)=szFs l
 | []=>rfl
 | .mk _ _ _ _ _ b :: l=>by simp only [stFs,stF,szFs,szF,szSs_st,szFs_st l]
theorem cnFs_st : ∀ l,cnFs (stFs l)=cnFs l
 | []=>rfl
 | .mk _ _ _ _ _ b :: l=>by simp only [stFs,stF,cnFs,cnF,szSs_st,cnFs_st l]
theorem gFs_st : ∀ l,gFs false (stFs l)=gFs true l
 | []=>rfl
 | .mk _ _ _ _ _ b :: l=>by simp [stFs,stF,gFs,gSs_st,gFs_st l,headF]
theorem szP_st : ∀ p,szP (stP p)=szP p
 | .mk fs=>by simp only [stP,szP,szFs_st]
theorem wf_st : ∀ p,wf false (stP p)=wf true p
 | .mk fs=>by simp only [stP,wf,gFs_st,stFs_len,cnFs_st]
def maxB:Nat:=140737488355328
mutual
def fitE:DExpr→Prop | .mk _ _ _ _ l=>l.length * 64≤maxB∧fitEs l
def fitEs:List DExpr→Prop | []=>True | e :: l=>fitE e∧fitEs l
end
mutual
def fitS:DStmt→Prop | .mk _ _ _ _ _ _ l6 l7 l8 l9 l10=>(l6.length * 64≤maxB∧fitEs l6)∧(l7.length * 184≤maxB∧fitSs l7)∧(l8.length * 184≤maxB∧fitSs l8)∧(l9.length * 184≤maxB∧fitSs l9)∧(l10.length * 80≤maxB∧fitCs l10)
def fitSs:List DStmt→Prop | []=>True | e :: l=>fitS e∧fitSs l
def fitC:DCase→Prop | .mk _ _ _ l b=>(l.length * 64≤maxB∧fitEs l)∧(b.length * 184≤maxB∧fitSs b)
def fitCs:List DCase→Prop | []=>True | e :: l=>fitC e∧fitCs l
end
def fitF:DFunc→Prop | .mk _ ps _ _ _ b=>ps.length * 24≤maxB∧(b.length * 184≤maxB∧fitSs b)
def fitFs:List DFunc→Prop | []=>True | e :: l=>fitF e∧fitFs l
def fitP:DProgram→Prop | .mk fs=>fs.length * 88≤maxB∧fitFs fs
theorem guard_le {α:Type} {a:Nat} {x:Option α} (h:a≤maxB):guardB (decide (a≤140737488355328)) x=x:=by
 unfold maxB at h; unfold guardB; rw [decide_eq_true h]; rfl
theorem app_len {α:Type} (xs:List α) (e:α):(xs ++ [e]).length=xs.length + 1:=by simp
theorem f86_eq (k:Nat) : ∀ m l,szEs l + 1≤m→l.length * 64≤maxB→fitEs l→(fam86 k m).f86 l=some l
 | 0,l,h,_,_=>by omega
 | m + 1,l,h,hl,hf=>by
  show f86_l1 k (fam86 k m) l 0 []=some l;have loop : ∀ (l:List DExpr) (i:Nat) (xs:List DExpr),szEs l≤m→(xs.length + l.length) * 64≤maxB→fitEs l→f86_l1 k (fam86 k m) l i xs=some (xs ++ l):=by
   intro l;induction l with
   | nil=>intro i xs _ _ _; simp [f86_l1]
   | cons e l ih =>
    intro i xs hm hl hf;obtain ⟨e0,e1,e2,e3,e4⟩:=e;simp only [szEs,szE,fitEs,fitE,List.length_cons] at hm hl hf;unfold f86_l1;rw [f86_eq k m e4 (by omega) hf.1.1 hf.1.2];simp only [Option.bind_some];rw [guard_le (by omega),ih (i + 1) _ (by omega) (by rw [app_len]; omega) hf.2];simp
  exact loop l 0 [] (by omega) (by simpa using hl) hf
theorem f89_eq (k:Nat) : ∀ m l,szEs l + 1≤m→l.length * 64≤maxB→fitEs l→(fam89 k m).f89 l=some (stEs l)
 | 0,l,h,_,_=>by omega
 | m + 1,l,h,hl,hf=>by
  show f89_l1 k (fam89 k m) l 0 []=some (stEs l);have loop : ∀ (l:List DExpr) (i:Nat) (xs:List DExpr),szEs l≤m→(xs.length + l.length) * 64≤maxB→fitEs l→f89_l1 k (fam89 k m) l i xs=some (xs ++ stEs l):=by
   intro l;induction l with
   | nil=>intro i xs _ _ _; simp [f89_l1,stEs]
   | cons e l ih =>
    intro i xs hm hl hf;obtain ⟨e0,e1,e2,e3,e4⟩:=e;simp only [szEs,szE,fitEs,fitE,List.length_cons] at hm hl hf;unfold f89_l1;rw [f89_eq k m e4 (by omega) hf.1.1 hf.1.2];simp only [Option.bind_some];rw [guard_le (by omega),ih (i + 1) _ (by omega) (by rw [app_len]; omega) hf.2];simp [stEs,stE]
  exact loop l 0 [] (by omega) (by simpa using hl) hf
theorem cE (k:Nat) : ∀ m,(∀ e,2 * szE e≤m→fitE e→(fam1013115 k m).f1014215 e=some (stE e)) ∧
  (∀ l,2 * szEs l + 1≤m→l.length * 64≤maxB→fitEs l→(fam1013115 k m).f1013115 l=some (stEs l))
 | 0=>⟨fun e h=>by have:=szE_pos e; omega,fun l h=>by omega⟩
 | m + 1=>by
  obtain ⟨ihe,ihl⟩:=cE k m;constructor
  ·intro e h hf;obtain ⟨e0,e1,e2,e3,e4⟩:=e;simp only [szE,fitE] at h hf;show f1014215_b k (fam1013115 k m) (.mk e0 e1 e2 e3 e4)=_;unfold f1014215_b;simp only;rw [ihl e4 (by omega) hf.1 hf.2];simp [f129,f129_b,stE]
  ·intro l h hl hf;show f1013115_l1 k (fam1013115 k m) l 0 []=_;have loop : ∀ (l:List DExpr) (i:Nat) (xs:List DExpr),2 * szEs l≤m→(xs.length + l.length) * 64≤maxB→fitEs l→f1013115_l1 k (fam1013115 k m) l i xs=some (xs ++ stEs l):=by
    intro l;induction l with
    | nil=>intro i xs _ _ _; simp [f1013115_l1,stEs]
    | cons e l ih =>
     intro i xs hm hl hf;obtain ⟨e0,e1,e2,e3,e4⟩:=e;simp only [szEs,fitEs,List.length_cons] at hm hl hf;unfold f1013115_l1;rw [ihe (.mk e0 e1 e2 e3 e4) (by omega) hf.1];simp only [Option.bind_some,stE];rw [guard_le (by omega),ih (i + 1) _ (by omega) (by rw [app_len]; omega) hf.2];simp [stEs,stE]
   exact loop l 0 [] (by omega) (by simpa using hl) hf
theorem f47_eq (k:Nat) : ∀ m l,szSs l + 1≤m→szSs l + 1≤k→l.length * 184≤maxB→fitSs l→(fam47 k m).f47 l=some l
 | 0,l,h,_,_,_=>by omega
 | m + 1,l,h,hk,hl,hf=>by
  show f47_l1 k (fam47 k m) l 0 []=some l;have cs : ∀ (xs:List DStmt) (i:Nat) (e0:Int) (e1:ByteArray) (e2:Int) (e3:ByteArray) (e4 e5:Int) (r6:List DExpr) (r7 r8 r9:List DStmt) (nx:Nat→List DStmt→Option (List DStmt)) (l:List DCase) (j:Nat) (ys:List DCase),szCs l≤m→szCs l≤k →
    (ys.length + l.length) * 80≤maxB→(xs.length + 1) * 184≤maxB→fitCs l→f47_l2 k (fam47 k m) xs i e0 e1 e2 e3 e4 e5 r6 r7 r8 r9 nx l j ys=nx (i + 1) (xs ++ [.mk e0 e1 e2 e3 e4 e5 r6 r7 r8 r9 (ys ++ l)]):=by
   intro xs i e0 e1 e2 e3 e4 e5 r6 r7 r8 r9 nx l;induction l with
   | nil=>intro j ys _ _ _ hx _; unfold f47_l2; rw [guard_le hx]; simp
   | cons c l ih =>
    intro j ys hm hk hl hx hf;obtain ⟨c0,c1,c2,c3,c4⟩:=c;simp only [szCs,szC,fitCs,fitC,List.length_cons] at hm hl hf hk;unfold f47_l2 f86;rw [f86_eq k k c3 (by omega) hf.1.1.1 hf.1.1.2];simp only [Option.bind_some];rw [f47_eq k m c4 (by omega) (by omega) hf.1.2.1 hf.1.2.2];simp only [Option.bind_some];rw [guard_le (by omega),ih (j + 1) _ (by omega) (by omega) (by rw [app_len]; omega) hx hf.2];simp
  have loop : ∀ (l:List DStmt) (i:Nat) (xs:List DStmt),szSs l≤m→szSs l≤k→(xs.length + l.length) * 184≤maxB→fitSs l→f47_l1 k (fam47 k m) l i xs=some (xs ++ l):=by
   intro l;induction l with
   | nil=>intro i xs _ _ _ _; simp [f47_l1]
   | cons e l ih =>
    intro i xs hm hk hl hf;obtain ⟨e0,e1,e2,e3,e4,e5,e6,e7,e8,e9,e10⟩:=e;simp only [szSs,szS,fitSs,fitS,List.length_cons] at hm hl hf hk;obtain ⟨⟨⟨h6,h6'⟩,⟨h7,h7'⟩,⟨h8,h8'⟩,⟨h9,h9'⟩,h10,h10'⟩,hf⟩:=hf;unfold f47_l1 f86;rw [f86_eq k k e6 (by omega) h6 h6',f47_eq k m e7 (by omega) (by omega) h7 h7',f47_eq k m e8 (by omega) (by omega) h8 h8',f47_eq k m e9 (by omega) (by omega) h9 h9'];simp only [Option.bind_some];rw [cs xs i e0 e1 e2 e3 e4 e5 e6 e7 e8 e9 _ e10 0 [] (by omega) (by omega) (by simpa using h10) (by omega) h10',ih (i + 1) _ (by omega) (by omega) (by rw [app_len]; omega) hf];simp
  exact loop l 0 [] (by omega) (by omega) (by simpa using hl) hf
theorem f51_eq (k:Nat) : ∀ m l,szSs l + 1≤m→szSs l + 1≤k→l.length * 184≤maxB→fitSs l→(fam51 k m).f51 l=some (stSs l)
 | 0,l,h,_,_,_=>by omega
 | m + 1,l,h,hk,hl,hf=>by
  show f51_l1 k (fam51 k m) l 0 []=some (stSs l);have cs : ∀ (xs:List DStmt) (i:Nat) (e0:Int) (e1:ByteArray) (e3:ByteArray) (e5:Int) (r6:List DExpr) (r7 r8 r9:List DStmt) (nx:Nat→List DStmt→Option (List DStmt)) (l:List DCase) (j:Nat) (ys:List DCase),szCs l≤m→szCs l≤k →
    (ys.length + l.length) * 80≤maxB→(xs.length + 1) * 184≤maxB→fitCs l→f51_l2 k (fam51 k m) xs i e0 e1 e3 e5 r6 r7 r8 r9 nx l j ys=nx (i + 1) (xs ++ [.mk e0 e1 0 e3 0 e5 r6 r7 r8 r9 (ys ++ stCs l)]):=by
   intro xs i e0 e1 e3 e5 r6 r7 r8 r9 nx l;induction l with
   | nil=>intro j ys _ _ _ hx _; unfold f51_l2; rw [guard_le hx]; simp [stCs]
   | cons c l ih =>
    intro j ys hm hk hl hx hf;obtain ⟨c0,c1,c2,c3,c4⟩:=c;simp only [szCs,szC,fitCs,fitC,List.length_cons] at hm hl hf hk;unfold f51_l2 f89;rw [f89_eq k k c3 (by omega) hf.1.1.1 hf.1.1.2];simp only [Option.bind_some];rw [f51_eq k m c4 (by omega) (by omega) hf.1.2.1 hf.1.2.2];simp only [Option.bind_some];rw [guard_le (by omega),ih (j + 1) _ (by omega) (by omega) (by rw [app_len]; omega) hx hf.2];simp [stCs,stC]
  have loop : ∀ (l:List DStmt) (i:Nat) (xs:List DStmt),szSs l≤m→szSs l≤k→(xs.length + l.length) * 184≤maxB→fitSs l→f51_l1 k (fam51 k m) l i xs=some (xs ++ stSs l):=by
   intro l;induction l with
   | nil=>intro i xs _ _ _ _; simp [f51_l1,stSs]
   | cons e l ih =>
    intro i xs hm hk hl hf;obtain ⟨e0,e1,e2,e3,e4,e5,e6,e7,e8,e9,e10⟩:=e;simp only [szSs,szS,fitSs,fitS,List.length_cons] at hm hl hf hk;obtain ⟨⟨⟨h6,h6'⟩,⟨h7,h7'⟩,⟨h8,h8'⟩,⟨h9,h9'⟩,h10,h10'⟩,hf⟩:=hf;unfold f51_l1 f89;rw [f89_eq k k e6 (by omega) h6 h6',f51_eq k m e7 (by omega) (by omega) h7 h7',f51_eq k m e8 (by omega) (by omega) h8 h8',f51_eq k m e9 (by omega) (by omega) h9 h9'];simp only [Option.bind_some];rw [cs xs i e0 e1 e3 e5 _ _ _ _ _ e10 0 [] (by omega) (by omega) (by simpa using h10) (by omega) h10',ih (i + 1) _ (by omega) (by omega) (by rw [app_len]; omega) hf];simp [stSs,stS]
  exact loop l 0 [] (by omega) (by omega) (by simpa using hl) hf
theorem f108_eq (k:Nat) : ∀ m l,szSs l + 1≤m→2 * szSs l + 1≤k→l.length * 184≤maxB→fitSs l→(fam108 k m).f108 l false=some (stSs l)
 | 0,l,h,_,_,_=>by omega
 | m + 1,l,h,hk,hl,hf=>by
  show f108_l3 k (fam108 k m) false l 0 []=some (stSs l);have cs : ∀ (xs:List DStmt) (i:Nat) (e0:Int) (e1:ByteArray) (e3:ByteArray) (e5 n1 n2:Int) (r6:List DExpr) (r7 r8 r9:List DStmt) (nx:Nat→List DStmt→Option (List DStmt)) (l:List DCase) (j:Nat) (ys:List DCase),szCs l≤m→2 * szCs l≤k →
    (ys.length + l.length) * 80≤maxB→(xs.length + 1) * 184≤maxB→fitCs l→f108_l4 k (fam108 k m) false xs i e0 e1 e3 e5 n1 n2 r6 r7 r8 r9 nx l j ys=nx (i + 1) (xs ++ [.mk e0 e1 n1 e3 n2 e5 r6 r7 r8 r9 (ys ++ stCs l)]):=by
   intro xs i e0 e1 e3 e5 n1 n2 r6 r7 r8 r9 nx l;induction l with
   | nil=>intro j ys _ _ _ hx _; unfold f108_l4; rw [guard_le hx]; simp [stCs]
   | cons c l ih =>
    intro j ys hm hk hl hx hf;obtain ⟨c0,c1,c2,c3,c4⟩:=c;simp only [szCs,szC,fitCs,fitC,List.length_cons] at hm hl hf hk;unfold f108_l4 f108_j4 f1013115;rw [(cE k k).2 c3 (by omega) hf.1.1.1 hf.1.1.2];simp only [Bool.not_false,cond_true,Option.bind_some];rw [f108_eq k m c4 (by omega) (by omega) hf.1.2.1 hf.1.2.2];simp only [Option.bind_some];rw [guard_le (by omega),ih (j + 1) _ (by omega) (by omega) (by rw [app_len]; omega) hx hf.2];simp [stCs,stC]
  have loop : ∀ (l:List DStmt) (i:Nat) (xs:List DStmt),szSs l≤m→2 * szSs l≤k→(xs.length + l.length) * 184≤maxB→fitSs l→f108_l3 k (fam108 k m) false l i xs=some (xs ++ stSs l):=by
   intro l;induction l with
   | nil=>intro i xs _ _ _ _; simp [f108_l3,stSs]
   | cons e l ih =>
    intro i xs hm hk hl hf;obtain ⟨e0,e1,e2,e3,e4,e5,e6,e7,e8,e9,e10⟩:=e;simp only [szSs,szS,fitSs,fitS,List.length_cons] at hm hl hf hk;obtain ⟨⟨⟨h6,h6'⟩,⟨h7,h7'⟩,⟨h8,h8'⟩,⟨h9,h9'⟩,h10,h10'⟩,hf⟩:=hf;unfold f108_l3 f108_j3 f1013115;rw [(cE k k).2 e6 (by omega) h6 h6',f108_eq k m e7 (by omega) (by omega) h7 h7',f108_eq k m e8 (by omega) (by omega) h8 h8',f108_eq k m e9 (by omega) (by omega) h9 h9'];simp only [Bool.not_false,cond_true,Option.bind_some];rw [cs xs i e0 e1 e3 e5 _ _ _ _ _ _ _ e10 0 [] (by omega) (by omega) (by simpa using h10) (by omega) h10',ih (i + 1) _ (by omega) (by omega) (by rw [app_len]; omega) hf];simp [stSs,stS]
  exact loop l 0 [] (by omega) (by omega) (by simpa using hl) hf
theorem f88_eq (k:Nat) (p:DProgram) (hk:2 * szP p + 1≤k) (hf:fitP p):f88 k p false=some (stP p):=by
 obtain ⟨fs⟩:=p;simp only [szP,fitP] at hk hf;show f88_l1 k false fs 0 []=some (.mk (stFs fs));have loop : ∀ (l:List DFunc) (i:Nat) (xs:List DFunc),2 * szFs l + 1≤k→(xs.length + l.length) * 88≤maxB→fitFs l→f88_l1 k false l i xs=some (.mk (xs ++ stFs l)):=by
  intro l;induction l with
  | nil=>intro i xs _ _ _; simp [f88_l1,stFs]
  | cons e l ih =>
   intro i xs hk hl hf;obtain ⟨e0,e1,e2,e3,e4,e5⟩:=e;simp only [szFs,szF,fitFs,fitF,List.length_cons] at hk hl hf;unfold f88_l1 f88_j1 f104 f108;rw [guard_le hf.1.1,f108_eq k k e5 (by omega) (by omega) hf.1.2.1 hf.1.2.2];simp only [Bool.not_false,cond_true,Option.bind_some];rw [guard_le (by omega),ih (i + 1) _ (by omega) (by rw [app_len]; omega) hf.2];simp [stFs,stF]
 exact loop fs 0 [] (by omega) (by simpa using hf.1) hf.2
theorem f19_eq (k:Nat) (p:DProgram) (hk:2 * szP p + 1≤k) (hf:fitP p):f19 k p=some p:=by
 obtain ⟨fs⟩:=p;simp only [szP,fitP] at hk hf;show f19_l1 k fs 0 []=some (.mk fs);have loop : ∀ (l:List DFunc) (i:Nat) (xs:List DFunc),2 * szFs l + 1≤k→(xs.length + l.length) * 88≤maxB→fitFs l→f19_l1 k l i xs=some (.mk (xs ++ l)):=by
  intro l;induction l with
  | nil=>intro i xs _ _ _; simp [f19_l1]
  | cons e l ih =>
   intro i xs hk hl hf;obtain ⟨e0,e1,e2,e3,e4,e5⟩:=e;simp only [szFs,szF,fitFs,fitF,List.length_cons] at hk hl hf;unfold f19_l1 f47;rw [guard_le (by simpa using hf.1.1),f47_eq k k e5 (by omega) (by omega) hf.1.2.1 hf.1.2.2];simp only [Option.bind_some];rw [guard_le (by omega),ih (i + 1) _ (by omega) (by rw [app_len]; omega) hf.2];simp
 exact loop fs 0 [] (by omega) (by simpa using hf.1) hf.2
theorem idxO_mid {α:Type} (xs:List α) (e:α) (l:List α) (i:Int) (hi:i=(xs.length:Int)):idxO (xs ++ e :: l) i=some e:=by
 subst hi;unfold idxO;rw [if_pos (by omega)];simp
theorem set_mid {α:Type} (xs:List α) (e e' : α) (l:List α):(xs ++ e :: l).set xs.length e'=xs ++ e' :: l:=by
 simp
theorem f24_eq (k:Nat) (p:DProgram) (hk:2 * szP p + 1≤k) (hf:fitP p):f24 k p=some (stP p):=by
 have h19:=f19_eq k p hk hf;obtain ⟨fs⟩:=p;unfold f24 f24_b;simp only;rw [h19];simp only [szP,fitP] at hk hf;simp only [Option.bind_some];have loop : ∀ (l:List DFunc) (j:Nat) (xs:List DFunc),l.length < j→2 * szFs l + 1≤k→(xs.length + l.length) * 88≤maxB→fitFs l→f24_w1 k j (xs ++ l) (xs.length:Int)=some (.mk (xs ++ stFs l)):=by
  intro l;induction l with
  | nil =>
   intro j xs hj _ _ _;obtain ⟨j,rfl⟩ : ∃ j',j=j' + 1:=⟨j - 1,by simp at hj; omega⟩;unfold f24_w1;simp [stFs]
  | cons e l ih =>
   intro j xs hj hk hl hf;simp only [szFs,fitFs,List.length_cons] at hk hl hf hj;obtain ⟨j,rfl⟩ : ∃ j',j=j' + 1:=⟨j - 1,by omega⟩;unfold f24_w1;have h1:decide ((xs.length:Int) < ((xs ++ e :: l).length:Int))=true:=by simp; omega
   rw [h1,idxO_mid xs e l _ rfl];obtain ⟨e0,e1,e2,e3,e4,e5⟩:=e;simp only [szF,fitF] at hk hf;simp only [cond_true,Option.bind_some];unfold f51;rw [f51_eq k k e5 (by omega) (by omega) hf.1.2.1 hf.1.2.2];simp only [Option.bind_some,Int.toNat_natCast,set_mid];unfold maxB at hl;rw [w64_nat (x:=(xs.length:Int) + 1) (n:=xs.length + 1) (by omega) (by omega)];have:=ih j (xs ++ [.mk e0 e1 e2 e3 0 (stSs e5)]) (by omega) (by omega) (by rw [app_len]; unfold maxB; omega) hf.2;rw [app_len] at this;simp only [List.append_assoc,List.singleton_append] at this;rw [this];rfl
 have hlen:=len_szFs fs;exact loop fs k [] (by omega) (by omega) (by simpa using hf.1) hf.2
theorem seq_refl (a:ByteArray):seq a a=true:=by unfold seq; simp
theorem f100_tot (k:Nat) : ∀ m l (a:Int),szEs l + 1≤m→∃ r,(fam100 k m).f100 l a=some r
 | 0,l,a,h=>by omega
 | m + 1,l,a,h=>by
  show ∃ r,f100_b k (fam100 k m) l a=some r;unfold f100_b;have loop : ∀ (l:List DExpr) (i:Nat) (n:Int),szEs l≤m→∃ r,f100_l1 k (fam100 k m) a l i n=some r:=by
   intro l;induction l with
   | nil=>intro i n _; exact ⟨_,rfl⟩
   | cons e l ih =>
    intro i n hm;obtain ⟨e0,e1,e2,e3,e4⟩:=e;simp only [szEs,szE] at hm;unfold f100_l1;cases decide (n≤2000)
    ·exact ⟨_,rfl⟩
    ·obtain ⟨r,hr⟩:=f100_tot k m e4 (w64 (a + 1)) (by omega);rw [hr];exact ih _ _ (by omega)
  cases decide (a > 60)
  ·exact loop l 0 0 (by omega)
  ·exact ⟨_,rfl⟩
theorem f76_tot (k:Nat) : ∀ m l (a:Int),szSs l + 1≤m→szSs l + 1≤k→∃ r,(fam76 k m).f76 l a=some r
 | 0,l,a,h,_=>by omega
 | m + 1,l,a,h,hk=>by
  show ∃ r,f76_b k (fam76 k m) l a=some r;unfold f76_b;have cs : ∀ (i:Nat) (nx:Nat→Int→Option Int) (hnx : ∀ n,∃ r,nx (i + 1) n=some r) (l:List DCase) (j:Nat) (n:Int),szCs l≤m→szCs l≤k→∃ r,f76_l2 k (fam76 k m) a i nx l j n=some r:=by
   intro i nx hnx l;induction l with
   | nil=>intro j n _ _; exact hnx _
   | cons e l ih =>
    intro j n hm hk;obtain ⟨e0,e1,e2,e3,e4⟩:=e;simp only [szCs,szC] at hm hk;unfold f76_l2 f100;cases decide (n≤2000)
    ·exact hnx _
    ·obtain ⟨r,hr⟩:=f100_tot k k e3 (w64 (a + 1)) (by omega);obtain ⟨r2,hr2⟩:=f76_tot k m e4 (w64 (a + 1)) (by omega) (by omega);rw [hr,cond_true,Option.bind_some,hr2];exact ih _ _ (by omega) (by omega)
  have loop : ∀ (l:List DStmt) (i:Nat) (n:Int),szSs l≤m→szSs l≤k→∃ r,f76_l1 k (fam76 k m) a l i n=some r:=by
   intro l;induction l with
   | nil=>intro i n _ _; exact ⟨_,rfl⟩
   | cons e l ih =>
    intro i n hm hk;obtain ⟨e0,e1,e2,e3,e4,e5,e6,e7,e8,e9,e10⟩:=e;simp only [szSs,szS] at hm hk;unfold f76_l1 f100;cases decide (n≤2000)
    ·exact ⟨_,rfl⟩
    ·obtain ⟨r,hr⟩:=f100_tot k k e6 (w64 (a + 1)) (by omega);obtain ⟨r7,hr7⟩:=f76_tot k m e7 (w64 (a + 1)) (by omega) (by omega);obtain ⟨r8,hr8⟩:=f76_tot k m e8 (w64 (a + 1)) (by omega) (by omega);obtain ⟨r9,hr9⟩:=f76_tot k m e9 (w64 (a + 1)) (by omega) (by omega);rw [hr,cond_true,Option.bind_some,hr7,Option.bind_some,hr8,Option.bind_some,hr9];exact cs i _ (fun n=>ih _ _ (by omega) (by omega)) e10 0 _ (by omega) (by omega)
  cases decide (a > 40)
  ·exact loop l 0 0 (by omega) (by omega)
  ·exact ⟨_,rfl⟩
theorem f13_tot (k:Nat) (p:DProgram) (hk:2 * szP p + 1≤k) : ∃ b,f13 k p=some b:=by
 obtain ⟨fs⟩:=p;simp only [szP] at hk;have loop : ∀ (l:List DFunc) (i:Nat) (n:Int),szFs l + 1≤k→∃ r,f40_l1 k l i n=some r:=by
  intro l;induction l with
  | nil=>intro i n _; exact ⟨_,rfl⟩
  | cons e l ih =>
   intro i n hk;obtain ⟨e0,e1,e2,e3,e4,e5⟩:=e;simp only [szFs,szF] at hk;unfold f40_l1 f76;cases decide (n≤2000)
   ·exact ⟨_,rfl⟩
   ·obtain ⟨r,hr⟩:=f76_tot k k e5 0 (by omega) (by omega);rw [hr];exact ih _ _ (by omega)
 obtain ⟨r,hr⟩:=loop fs 0 0 (by omega);exact ⟨r,by unfold f13 f13_b f40 f40_b; simp [hr]⟩
theorem f14_eq (k:Nat):f14 (k + 100)=some true:=by kernel_rfl
theorem f23_eq (k:Nat) (p:DProgram) (hk:2 * szP p + 1≤k) (hf:fitP p):f23 k p=some (wf true p):=by
 have h24:=f24_eq k p hk hf;have h20:=f20_eq k (stP p) (by rw [szP_st]; exact hk);rw [wf_st] at h20;obtain ⟨fs⟩:=p;unfold f23 f23_b f23_j1;simp only [h24,Option.bind_some];have e:decide ((fs.length:Int)≤16)=decide (fs.length≤16):=by rw [decide_eq_decide]; omega
 rw [e];simp only [stP] at h20 ⊢;rw [h20];by_cases h:fs.length≤16
 ·simp [h]
 ·simp [h,wf]
abbrev Ex (α:Type):=Except Int α
def slotOf (nm:List ByteArray) (vis:List Nat) (a:ByteArray):Option Nat :=
 vis.find? fun v=>match nm[v]? with | some b=>seq b a | none=>false
mutual
def uE (nm:List ByteArray) (vis:List Nat):DExpr→Ex DExpr
 | .mk op num txt slot l=>match uEs nm vis l with
  | .error c=>.error c
  | .ok l'=>cond (op == 4) (match slotOf nm vis txt with | none=>.error 20 | some v=>.ok (.mk op num txt (v:Int) l')) (.ok (.mk op num txt 0 l'))
def uEs (nm:List ByteArray) (vis:List Nat):List DExpr→Ex (List DExpr)
 | []=>.ok []
 | e :: l=>match uE nm vis e with
  | .error c=>.error c
  | .ok e'=>match uEs nm vis l with
   | .error c=>.error c
   | .ok l'=>.ok (e' :: l')
end
def lkU (a:ByteArray):List (List (ByteArray × Int))→Option Int
 | []=>none
 | d :: sc=>match mget seq a d with
  | some v=>some v
  | none=>lkU a sc
def okV (nm:List ByteArray) (vis:List Nat):Prop:=∀ v ∈ vis,v < nm.length
structure Rel (sc:List (List (ByteArray × Int))) (vis:List Nat) (nm:List ByteArray):Prop where
 look : ∀ a,lkU a sc=(slotOf nm vis a).map (fun (v:Nat)=>(v:Int))
 ok:okV nm vis
theorem f119_eq (k:Nat) (p:List DFunc) (f:DFunc) (nm:List ByteArray) (sc:List (List (ByteArray × Int))) (lo:Int) (a:ByteArray) :
  f119 k (.mk (.mk p) f nm sc lo) a=some (match lkU a sc with | some v=>(v,true) | none=>(0,false)):=by
 obtain ⟨f0,f1,f2,f3,f4,f5⟩:=f;have h : ∀ (sc:List (List (ByteArray × Int))) (i:Nat),f119_l1 k a sc i=some (match lkU a sc with | some v=>(v,true) | none=>(0,false)):=by
  intro sc;induction sc with
  | nil=>intro i; rfl
  | cons d sc ih =>
   intro i;unfold f119_l1 lkU;rw [ih];cases mget seq a d <;> rfl
 exact h sc 0
theorem Rel.f119 {k:Nat} {p:List DFunc} {f:DFunc} {nm:List ByteArray} {sc:List (List (ByteArray × Int))} {lo:Int} {vis:List Nat} (R:Rel sc vis nm) (a:ByteArray) :
  Go.Proofs.YtoajecnoffhlbaaGreatDoor.f119 k (.mk (.mk p) f nm sc lo) a=some (match slotOf nm vis a with | some v=>((v:Int),true) | none=>(0,false)):=by
 rw [f119_eq,R.look];cases slotOf nm vis a <;> rfl
theorem f58_eq (k:Nat) (b:Bool) (c:Int):f58 k b c=some (cond b (.ok ()) (.error c)):=by cases b <;> rfl
theorem nU (k:Nat) (p:List DFunc) (f:DFunc) {nm:List ByteArray} {sc:List (List (ByteArray × Int))} (lo:Int) {vis:List Nat} (R:Rel sc vis nm) : ∀ m,
  (∀ e,2 * szE e≤m→szE e≤100000→(fam1013170 k m).f1014270 e (.mk (.mk p) f nm sc lo)=some (uE nm vis e)) ∧
  (∀ l,2 * szEs l + 1≤m→szEs l≤100000→(fam1013170 k m).f1013170 l (.mk (.mk p) f nm sc lo)=some (uEs nm vis l))
 | 0=>⟨fun e h=>by have:=szE_pos e; omega,fun l h=>by omega⟩
 | m + 1=>by
  obtain ⟨ihe,ihl⟩:=nU k p f lo R m;constructor
  ·intro e h hb;obtain ⟨op,num,txt,slot,l⟩:=e;obtain ⟨f0,f1,f2,f3,f4,f5⟩:=f;simp only [szE] at h hb;show f1014270_b k (fam1013170 k m) (.mk op num txt slot l) (.mk (.mk p) (.mk f0 f1 f2 f3 f4 f5) nm sc lo)=_;unfold f1014270_b uE;simp only;rw [ihl l (by omega) (by omega)];simp only [Option.bind_some];cases uEs nm vis l with
   | error c=>rfl
   | ok l' =>
    simp only;unfold f1013932 f1013932_b;simp only;rw [R.f119];simp only [Option.bind_some,f58_eq,bne];cases (op == 4) <;> cases slotOf nm vis txt <;> rfl
  ·intro l h hb;obtain ⟨f0,f1,f2,f3,f4,f5⟩:=f;show f1013170_l1 k (fam1013170 k m) p f0 f1 f2 f3 f4 f5 nm sc lo l 0 []=_;have loop : ∀ (l:List DExpr) (i:Nat) (xs:List DExpr),2 * szEs l≤m→xs.length + szEs l≤100000→f1013170_l1 k (fam1013170 k m) p f0 f1 f2 f3 f4 f5 nm sc lo l i xs=some (match uEs nm vis l with | .error c=>.error c | .ok l'=>.ok (xs ++ l')):=by
    intro l;induction l with
    | nil=>intro i xs _ _; simp [f1013170_l1,uEs]
    | cons e l ih =>
     intro i xs hm hx;obtain ⟨e0,e1,e2,e3,e4⟩:=e;simp only [szEs] at hm hx;have hp:=szE_pos (.mk e0 e1 e2 e3 e4);unfold f1013170_l1 uEs;rw [ihe (.mk e0 e1 e2 e3 e4) (by omega) (by omega)];simp only [Option.bind_some];cases uE nm vis (.mk e0 e1 e2 e3 e4) with
     | error c=>rfl
     | ok e' =>
      obtain ⟨r0,r1,r2,r3,r4⟩:=e';simp only;rw [guard_le (by unfold maxB; omega),ih (i + 1) _ (by omega) (by rw [app_len]; omega)];cases uEs nm vis l with
      | error c=>rfl
      | ok l'=>simp
   rw [loop l 0 [] (by omega) (by simpa using hb)];cases uEs nm vis l <;> simp
theorem f120_eq (k:Nat) (p:List DFunc) (f:DFunc) {nm:List ByteArray} {sc:List (List (ByteArray × Int))} (lo:Int) {vis:List Nat} (R:Rel sc vis nm) (l:List DExpr) (hk:2 * szEs l + 1≤k) (hb:szEs l≤100000) :
  f120 k (.mk (.mk p) f nm sc lo) l=some (uEs nm vis l):=by
 have h:=(nU k p f lo R k).2 l hk hb;obtain ⟨f0,f1,f2,f3,f4,f5⟩:=f;unfold f120 f120_b f1013170;simp only;rw [h];cases uEs nm vis l <;> rfl
def vI (vis:List Nat):List Int:=vis.map fun (v:Nat)=>(v:Int)
abbrev slotI (o:Option Nat):Int:=match o with | some v=>(v:Int) | none=>-1
theorem f106_eq (k:Nat) (p:List DFunc) (f:DFunc) (nm:List ByteArray) (vis:List Nat) (lo er:Int) (a:ByteArray) (hv:okV nm vis) :
  f106 k (.mk p f nm (vI vis) lo er) a=some (.mk p f nm (vI vis) lo er,slotI (slotOf nm vis a)):=by
 obtain ⟨f0,f1,f2,f3,f4,f5⟩:=f;have h : ∀ (l:List Nat) (i:Nat),okV nm l→f106_l1 k p f0 f1 f2 f3 f4 f5 nm (vI vis) lo er a (vI l) i=some (.mk p (.mk f0 f1 f2 f3 f4 f5) nm (vI vis) lo er,slotI (slotOf nm l a)):=by
  intro l;induction l with
  | nil=>intro i _; rfl
  | cons v l ih =>
   intro i hl;have hv:v < nm.length:=hl v (by simp);show f106_l1 k p f0 f1 f2 f3 f4 f5 nm (vI vis) lo er a ((v:Int) :: vI l) i=_;unfold f106_l1;have:idxO nm (v:Int)=some nm[v]:=by unfold idxO; rw [if_pos (by omega)]; simp [hv]
   rw [this,ih (i + 1) (fun w hw=>hl w (by simp [hw]))];simp only [Option.bind_some];unfold slotOf;rw [List.find?_cons];simp only [List.getElem?_eq_getElem hv];cases seq nm[v] a <;> rfl
 exact h vis 0 hv
def failI (er:Int) (b:Bool) (c:Int):Int:=cond (!b && er == 0) c er
theorem f85_eq (k:Nat) (p:List DFunc) (f:DFunc) (nm:List ByteArray) (vis:List Int) (lo er:Int) (b:Bool) (c:Int) :
  f85 k (.mk p f nm vis lo er) b c=some (.mk p f nm vis lo (failI er b c)):=by
 obtain ⟨f0,f1,f2,f3,f4,f5⟩:=f;unfold f85 f85_b f85_j1 failI;simp only;cases b <;> cases (er == 0) <;> rfl
def errI {α:Type} (er:Int) (u:Ex α):Int:=cond (er == 0) (match u with | .error c=>c | .ok _=>0) er
theorem uE_err {nm:List ByteArray} {vis:List Nat} : ∀ m,(∀ e c,szE e≤m→uE nm vis e=.error c→c=20)∧(∀ l c,szEs l≤m→uEs nm vis l=.error c→c=20)
 | 0=>⟨fun e c h=>by have:=szE_pos e; omega,fun l c h hu=>by
   cases l with
   | nil=>cases hu
   | cons e l=>have:=szE_pos e; simp only [szEs] at h; omega⟩
 | m + 1=>by
  obtain ⟨ihe,ihl⟩:=uE_err (nm:=nm) (vis:=vis) m;have he : ∀ e c,szE e≤m + 1→uE nm vis e=.error c→c=20:=by
   intro e c h hu;obtain ⟨op,num,txt,slot,l⟩:=e;simp only [szE] at h;unfold uE at hu;cases hl:uEs nm vis l with
   | error c'=>rw [hl] at hu; have:=ihl l c' (by omega) hl; cases hu; exact this
   | ok l' =>
    rw [hl] at hu;cases h4:(op == 4) <;> rw [h4] at hu
    ·cases hu
    ·cases hs:slotOf nm vis txt <;> simp only [hs,cond_true] at hu <;> cases hu
     rfl
  refine ⟨he,?_⟩;intro l;induction l with
  | nil=>intro c _ hu; cases hu
  | cons e l ih =>
   intro c h hu;simp only [szEs] at h;unfold uEs at hu;cases he' : uE nm vis e with
   | error c'=>rw [he'] at hu; have:=he e c' (by omega) he'; cases hu; exact this
   | ok e' =>
    rw [he'] at hu;cases hl:uEs nm vis l with
    | error c'=>rw [hl] at hu; have:=ih c' (by omega) hl; cases hu; exact this
    | ok l'=>rw [hl] at hu; cases hu
theorem uE_20 {nm:List ByteArray} {vis:List Nat} {e:DExpr} {c:Int} (h:uE nm vis e=.error c):c=20:=(uE_err _).1 e c (Nat.le_refl _) h
theorem uEs_20 {nm:List ByteArray} {vis:List Nat} {e:List DExpr} {c:Int} (h:uEs nm vis e=.error c):c=20:=(uE_err _).2 e c (Nat.le_refl _) h
theorem rU (k:Nat) (p:List DFunc) (f:DFunc) {nm:List ByteArray} (lo:Int) {vis:List Nat} (hv:okV nm vis) : ∀ m,
  (∀ e a er,2 * szE e≤m→szE e≤100000→gE false e a=true→∃ e',(fam124 k m).f141 (.mk p f nm (vI vis) lo er) e=some (.mk p f nm (vI vis) lo (errI er (uE nm vis e)),e')∧(∀ x,uE nm vis e=.ok x→e'=x)) ∧
  (∀ l a er,2 * szEs l + 1≤m→szEs l≤100000→gEs false l a=true→∃ l',(fam124 k m).f124 (.mk p f nm (vI vis) lo er) l=some (.mk p f nm (vI vis) lo (errI er (uEs nm vis l)),l')∧(∀ x,uEs nm vis l=.ok x→l'=x))
 | 0=>⟨fun e a er h=>by have:=szE_pos e; omega,fun l a er h=>by omega⟩
 | m + 1=>by
  obtain ⟨ihe,ihl⟩:=rU k p f lo hv m;constructor
  ·intro e a er h hb hg;obtain ⟨op,num,txt,slot,l⟩:=e;obtain ⟨f0,f1,f2,f3,f4,f5⟩:=f;simp only [szE] at h hb;simp only [gE,Bool.false_or,Bool.and_eq_true] at hg;obtain ⟨⟨⟨_,hs⟩,_⟩,hgl⟩:=hg;obtain rfl:slot=0:=by simpa using hs
   show ∃ e',f141_b k (fam124 k m) (.mk p (.mk f0 f1 f2 f3 f4 f5) nm (vI vis) lo er) (.mk op num txt 0 l)=some (_,e')∧_;unfold f141_b f141_j1 uE;simp only;rw [f106_eq k p (.mk f0 f1 f2 f3 f4 f5) nm vis lo er txt hv];simp only [Option.bind_some,f85_eq];cases h4:(op == 4) with
   | false =>
    simp only [cond_false];obtain ⟨l',h1,h2⟩:=ihl l (a + 1) er (by omega) (by omega) hgl;rw [h1];refine ⟨.mk op num txt 0 l',?_,?_⟩
    ·simp only [Option.bind_some];cases uEs nm vis l <;> rfl
    ·intro x hx;cases hu:uEs nm vis l with
     | error c=>rw [hu] at hx; cases hx
     | ok y=>rw [hu] at hx; cases hx; rw [h2 y hu]
   | true =>
    simp only [cond_true];obtain ⟨l',h1,h2⟩:=ihl l (a + 1) (failI er (decide (slotI (slotOf nm vis txt) ≥ 0)) 20) (by omega) (by omega) hgl;rw [h1];refine ⟨.mk op num txt (slotI (slotOf nm vis txt)) l',?_,?_⟩
    ·simp only [Option.bind_some,Option.some.injEq,Prod.mk.injEq,and_true,Dlook.mk.injEq,true_and];cases hu:uEs nm vis l with
     | error c =>
      obtain rfl:=uEs_20 hu;cases hsl:slotOf nm vis txt <;> unfold errI failI <;> cases her:(er == 0) <;> simp [slotI,her]
     | ok y =>
      cases hsl:slotOf nm vis txt <;> unfold errI failI <;> cases her:(er == 0) <;> simp [slotI,her]
      all_goals simp [show er=0 by simpa using her]
    ·intro x hx;cases hu:uEs nm vis l with
     | error c=>rw [hu] at hx; cases hx
     | ok y =>
      rw [hu] at hx;cases hsl:slotOf nm vis txt <;> simp only [hsl] at hx <;> cases hx
      rw [h2 y hu]
  ·intro l a er h hb hg;obtain ⟨f0,f1,f2,f3,f4,f5⟩:=f;show ∃ l',f124_l1 k (fam124 k m) l 0 p f0 f1 f2 f3 f4 f5 nm (vI vis) lo er []=some (_,l')∧_;have loop : ∀ (l:List DExpr) (i:Nat) (er:Int) (xs:List DExpr),2 * szEs l≤m→xs.length + szEs l≤100000→gEs false l a=true →
     ∃ l',f124_l1 k (fam124 k m) l i p f0 f1 f2 f3 f4 f5 nm (vI vis) lo er xs=some (.mk p (.mk f0 f1 f2 f3 f4 f5) nm (vI vis) lo (errI er (uEs nm vis l)),l')∧(∀ x,uEs nm vis l=.ok x→l'=xs ++ x):=by
    intro l;induction l with
    | nil =>
     intro i er xs _ _ _;refine ⟨xs,?_,fun x hx=>by cases hx; simp⟩;unfold f124_l1 errI uEs;cases her:(er == 0)
     ·rfl
     ·have:er=0:=by simpa using her
      simp [this]
    | cons e l ih =>
     intro i er xs hm hx hg;obtain ⟨e0,e1,e2,e3,e4⟩:=e;simp only [szEs] at hm hx;simp only [gEs,Bool.and_eq_true] at hg;have hp:=szE_pos (.mk e0 e1 e2 e3 e4);unfold f124_l1;obtain ⟨e',h1,h2⟩:=ihe (.mk e0 e1 e2 e3 e4) a er (by omega) (by omega) hg.1;rw [h1];obtain ⟨r0,r1,r2,r3,r4⟩:=e';simp only [Option.bind_some];rw [guard_le (by unfold maxB; omega)];obtain ⟨l',h3,h4⟩:=ih (i + 1) (errI er (uE nm vis (.mk e0 e1 e2 e3 e4))) (xs ++ [.mk r0 r1 r2 r3 r4]) (by omega) (by rw [app_len]; omega) hg.2;refine ⟨l',?_,?_⟩
     ·rw [h3];simp only [Option.some.injEq,Prod.mk.injEq,and_true,Dlook.mk.injEq,true_and,uEs];cases hu:uE nm vis (.mk e0 e1 e2 e3 e4) with
      | error c =>
       obtain rfl:=uE_20 hu;unfold errI; cases her:(er == 0) <;> simp [her]
      | ok y =>
       cases hl:uEs nm vis l <;> unfold errI <;> cases her:(er == 0) <;> simp [her]
     ·intro x hx;unfold uEs at hx;cases hu:uE nm vis (.mk e0 e1 e2 e3 e4) with
      | error c=>rw [hu] at hx; cases hx
      | ok y =>
       rw [hu] at hx;cases hl:uEs nm vis l with
       | error c=>rw [hl] at hx; cases hx
       | ok z =>
        rw [hl] at hx; cases hx
        rw [h4 z hl,h2 y hu];simp
   exact (loop l 0 er [] (by omega) (by simpa using hb) hg).imp fun l' h=>⟨h.1,fun x hx=>by simpa using h.2 x hx⟩
theorem f124_eq (k:Nat) (p:List DFunc) (f:DFunc) {nm:List ByteArray} (lo er:Int) {vis:List Nat} (hv:okV nm vis) (l:List DExpr) (a:Nat) (hk:2 * szEs l + 1≤k) (hb:szEs l≤100000) (hg:gEs false l a=true) :
 ∃ l',f124 k (.mk p f nm (vI vis) lo er) l=some (.mk p f nm (vI vis) lo (errI er (uEs nm vis l)),l')∧(∀ x,uEs nm vis l=.ok x→l'=x):=(rU k p f lo hv k).2 l a er hk hb hg
def eb {α β:Type} (u:Ex α) (f:α→Ex β):Ex β:=match u with | .error c=>.error c | .ok x=>f x
def eb3 {α β:Type} (u:Ex (List ByteArray × List Nat × α)) (f:List ByteArray→List Nat→α→Ex β):Ex β:=match u with | .error c=>.error c | .ok (a,b,x)=>f a b x
def uMk (nm:List ByteArray) (vis:List Nat) (a:ByteArray):Ex (List ByteArray × List Nat × Int) :=
 match slotOf nm vis a with | some _=>.error 21 | none=>.ok (nm ++ [a],vis ++ [nm.length],(nm.length:Int))
def uCall (op:Int) (fr:ByteArray) (na:Nat):List DFunc→Nat→Ex Int
 | [],_=>.error 20
 | .mk nm ps _ fl _ _ :: l,i=>cond (seq nm fr) (cond (fl == (op == 28)) (cond ((ps.length:Int) == (na:Int)) (.ok (i:Int)) (.error 24)) (.error 25)) (uCall op fr na l (i + 1))
def uD {α:Type} (b:Bool) (c:Int) (x:Ex α):Ex α:=cond b x (.error c)
section
variable (fs:List DFunc) (f2:Int) (f3:Bool)
mutual
def uS:Nat→List ByteArray→List Nat→DStmt→Ex (List ByteArray × List Nat × DStmt)
 | lo,nm,vis,.mk op name s2 fr s4 flag l6 l7 l8 l9 l10 =>
  eb (uEs nm vis l6) fun r6 =>
  cond (op == 27) (eb3 (uCs lo nm vis l10) fun nm1 _ cs=>.ok (nm1,vis,.mk op name s2 fr s4 flag r6 l7 l8 l9 cs))
  (eb (cond (seq fr ⟨#[]⟩) (.ok s4) (uCall op fr r6.length fs 0)) fun ix =>
  cond (op == 2) (match slotOf nm vis name with | none=>.error 20 | some v=>.ok (nm,vis,.mk op name (v:Int) fr ix flag r6 l7 l8 l9 l10))
  (cond (op == 18 || op == 19) (uD (decide (lo > 0)) 22 (.ok (nm,vis,.mk op name s2 fr ix flag r6 l7 l8 l9 l10)))
  (cond (op == 29) (uD f3 22 (.ok (nm,vis,.mk op name s2 fr ix flag r6 l7 l8 l9 l10)))
  (cond (op == 17) (uD ((decide (r6.length > 0)) == (f2 != 0)) 22 (.ok (nm,vis,.mk op name s2 fr ix flag r6 l7 l8 l9 l10)))
  (cond (op == 21) (eb3 (uB (lo + 1) nm vis l7) fun nm1 _ b=>.ok (nm1,vis,.mk op name s2 fr ix flag r6 b l8 l9 l10))
  (cond (op == 28) (eb3 (uI (lo + 1) nm vis name s2 l7) fun nm1 _ vb=>.ok (nm1,vis,.mk op name vb.1 fr ix flag r6 vb.2 l8 l9 l10))
  (cond (op == 25) (eb3 (uI lo nm vis name s2 l7) fun nm1 _ vb=>.ok (nm1,vis,.mk op name vb.1 fr ix flag r6 vb.2 l8 l9 l10))
  (cond (op == 24) (eb3 (uB lo nm vis l7) fun nm1 _ b7=>eb3 (uI lo nm1 vis name s2 l8) fun nm2 _ vb=>eb3 (uB lo nm2 vis l9) fun nm3 _ b9=>.ok (nm3,vis,.mk op name vb.1 fr ix flag r6 b7 vb.2 b9 l10))
  (cond (op == 20 || op == 22 || op == 23 || op == 26) (eb3 (uB lo nm vis l7) fun nm1 _ b7=>eb3 (uB lo nm1 vis l8) fun nm2 _ b8=>.ok (nm2,vis,.mk op name s2 fr ix flag r6 b7 b8 l9 l10))
   (eb3 (cond (seq name ⟨#[]⟩) (.ok (nm,vis,s2)) (uMk nm vis name)) fun nm1 vis1 v=>uD (op != 6 || flag == 0 || decide (lo > 0)) 22 (.ok (nm1,vis1,.mk op name v fr ix flag r6 l7 l8 l9 l10))))))))))))
def uSs:Nat→List ByteArray→List Nat→List DStmt→Ex (List ByteArray × List Nat × List DStmt)
 | _,nm,vis,[]=>.ok (nm,vis,[])
 | lo,nm,vis,s :: l=>eb3 (uS lo nm vis s) fun nm1 vis1 s'=>eb3 (uSs lo nm1 vis1 l) fun nm2 vis2 l'=>.ok (nm2,vis2,s' :: l')
def uB:Nat→List ByteArray→List Nat→List DStmt→Ex (List ByteArray × List Nat × List DStmt)
 | _,nm,vis,[]=>.ok (nm,vis,[])
 | lo,nm,vis,s :: l=>eb3 (uS lo nm vis s) fun nm1 vis1 s'=>eb3 (uSs lo nm1 vis1 l) fun nm2 vis2 l'=>.ok (nm2,vis,s' :: l')
def uI:Nat→List ByteArray→List Nat→ByteArray→Int→List DStmt→Ex (List ByteArray × List Nat × (Int × List DStmt))
 | lo,nm,vis,name,s2,[]=>eb3 (cond (seq name ⟨#[]⟩) (.ok (nm,vis,s2)) (uMk nm vis name)) fun nm1 _ v=>.ok (nm1,vis,(v,[]))
 | lo,nm,vis,name,s2,s :: l=>eb3 (cond (seq name ⟨#[]⟩) (.ok (nm,vis,s2)) (uMk nm vis name)) fun nm1 vis1 v=>eb3 (uS lo nm1 vis1 s) fun nm2 vis2 s'=>eb3 (uSs lo nm2 vis2 l) fun nm3 _ l'=>.ok (nm3,vis,(v,s' :: l'))
def uC:Nat→List ByteArray→List Nat→DCase→Ex (List ByteArray × List Nat × DCase)
 | lo,nm,vis,.mk kind name slot es b=>eb (uEs nm vis es) fun r=>eb3 (uI lo nm vis name slot b) fun nm1 _ vb=>.ok (nm1,vis,.mk kind name vb.1 r vb.2)
def uCs:Nat→List ByteArray→List Nat→List DCase→Ex (List ByteArray × List Nat × List DCase)
 | _,nm,vis,[]=>.ok (nm,vis,[])
 | lo,nm,vis,c :: l=>eb3 (uC lo nm vis c) fun nm1 _ c'=>eb3 (uCs lo nm1 vis l) fun nm2 _ l'=>.ok (nm2,vis,c' :: l')
end
theorem uB_eq (lo:Nat) (nm:List ByteArray) (vis:List Nat) (l:List DStmt):uB fs f2 f3 lo nm vis l=eb3 (uSs fs f2 f3 lo nm vis l) fun nm1 _ l'=>.ok (nm1,vis,l'):=by
 cases l with
 | nil=>simp [uB,uSs,eb3]
 | cons s l =>
  rw [uB,uSs];cases uS fs f2 f3 lo nm vis s with
  | error c=>rfl
  | ok x =>
   simp only [eb3];cases uSs fs f2 f3 lo x.1 x.2.1 l <;> rfl
theorem uI_eq (lo:Nat) (nm:List ByteArray) (vis:List Nat) (name:ByteArray) (s2:Int) (l:List DStmt):uI fs f2 f3 lo nm vis name s2 l =
  eb3 (cond (seq name ⟨#[]⟩) (.ok (nm,vis,s2)) (uMk nm vis name)) fun nm1 vis1 v=>eb3 (uSs fs f2 f3 lo nm1 vis1 l) fun nm2 _ l'=>.ok (nm2,vis,(v,l')):=by
 cases l with
 | nil=>simp [uI,uSs,eb3]
 | cons s l =>
  rw [uI];congr 1;funext nm1 vis1 v;rw [uSs];cases uS fs f2 f3 lo nm1 vis1 s with
  | error c=>rfl
  | ok x =>
   simp only [eb3];cases uSs fs f2 f3 lo x.1 x.2.1 l <;> rfl
end
theorem slotOf_ext {nm nm' : List ByteArray} {vis:List Nat} (hv:okV nm vis) (hn:nm <+: nm') (a:ByteArray):slotOf nm' vis a=slotOf nm vis a:=by
 obtain ⟨t,rfl⟩:=hn;unfold slotOf;induction vis with
 | nil=>rfl
 | cons v vis ih =>
  have h:v < nm.length:=hv v (by simp);rw [List.find?_cons,List.find?_cons,List.getElem?_append_left h,ih (fun w hw=>hv w (by simp [hw]))]
theorem slotOf_new {nm:List ByteArray} {vis:List Nat} (hv:okV nm vis) (a b:ByteArray) (hn:slotOf nm vis a=none):slotOf (nm ++ [a]) (vis ++ [nm.length]) b=match slotOf nm vis b with | some v=>some v | none=>cond (seq a b) (some nm.length) none:=by
 have h1:=slotOf_ext (nm':=nm ++ [a]) hv ⟨[a],rfl⟩ b;unfold slotOf at h1 ⊢;rw [List.find?_append,h1];cases List.find? (fun v=>match nm[v]? with | some b_1=>seq b_1 b | none=>false) vis with
 | some v=>rfl
 | none =>
  simp only [Option.none_or,List.find?_cons,List.find?_nil];have:(nm ++ [a])[nm.length]?=some a:=by simp
  rw [this];dsimp only;cases seq a b <;> rfl
theorem seq_eq {a b:ByteArray} (h:seq a b=true):a=b:=by
 unfold seq at h;rw [ByteArray.toList_eq,ByteArray.toList_eq] at h;have h:=eq_of_beq h;obtain ⟨⟨a⟩⟩:=a; obtain ⟨⟨b⟩⟩:=b
 exact congrArg (fun l=>(⟨⟨l⟩⟩:ByteArray)) h
theorem mget_put (a:ByteArray) (k:Int) (b:ByteArray) : ∀ d:List (ByteArray × Int),mget seq b (mput seq a k d)=cond (seq a b) (some k) (mget seq b d)
 | []=>by
  unfold mput mget;rw [seq_comm b a];cases seq a b <;> rfl
 | (x,v) :: d=>by
  unfold mput;cases h:seq a x with
  | true =>
   obtain rfl:=seq_eq h;simp only [if_true,mget];rw [seq_comm b a];cases seq a b <;> rfl
  | false =>
   rw [if_neg (by simp)];simp only [mget,mget_put a k b d];cases hb:seq b x with
   | false=>simp
   | true =>
    obtain rfl:=seq_eq hb;simp [h]
theorem lkU_app (a:ByteArray) : ∀ (x y:List (List (ByteArray × Int))),lkU a (x ++ y)=match lkU a x with | some v=>some v | none=>lkU a y
 | [],y=>rfl
 | d :: x,y=>by
  simp only [List.cons_append,lkU,lkU_app a x y];cases mget seq a d <;> rfl
theorem lkU_one (a:ByteArray) (d:List (ByteArray × Int)):lkU a [d]=mget seq a d:=by
 unfold lkU; cases mget seq a d <;> rfl
theorem Rel.push {sc:List (List (ByteArray × Int))} {vis:List Nat} {nm:List ByteArray} (R:Rel sc vis nm):Rel (sc ++ [[]]) vis nm :=
 ⟨fun a=>by rw [lkU_app,lkU_one,← R.look a]; cases lkU a sc <;> rfl,R.ok⟩
theorem Rel.ext {sc:List (List (ByteArray × Int))} {vis:List Nat} {nm nm' : List ByteArray} (R:Rel sc vis nm) (h:nm <+: nm'):Rel sc vis nm' :=
 ⟨fun a=>by rw [R.look,slotOf_ext R.ok h],fun v hv=>Nat.lt_of_lt_of_le (R.ok v hv) h.length_le⟩
theorem Rel.make {pre:List (List (ByteArray × Int))} {d:List (ByteArray × Int)} {vis:List Nat} {nm:List ByteArray} {a:ByteArray} (R:Rel (pre ++ [d]) vis nm) (hn:slotOf nm vis a=none) :
  Rel (pre ++ [mput seq a (nm.length:Int) d]) (vis ++ [nm.length]) (nm ++ [a]):=by
 refine ⟨fun b=>?_,fun v hv=>?_⟩
 ·rw [slotOf_new R.ok a b hn,lkU_app,lkU_one,mget_put];have h:=R.look b;rw [lkU_app,lkU_one] at h;cases hs:seq a b with
  | false =>
   simp only [cond_false];rw [h];cases slotOf nm vis b <;> rfl
  | true =>
   obtain rfl:=seq_eq hs;rw [hn] at h ⊢;simp only [Option.map_none] at h;cases hp:lkU a pre with
   | some v=>rw [hp] at h; cases h
   | none=>rfl
 ·rcases List.mem_append.1 hv with hv | hv
  ·have:=R.ok v hv; simp; omega
  ·simp at hv; simp; omega
theorem f103_eq (k:Nat) (p:List DFunc) (f:DFunc) {nm:List ByteArray} {pre:List (List (ByteArray × Int))} {d:List (ByteArray × Int)} (lo:Int) {vis:List Nat} (R:Rel (pre ++ [d]) vis nm) (a:ByteArray) (hb:nm.length≤1000000) (hp:pre.length≤1000000) :
  f103 k (.mk (.mk p) f nm (pre ++ [d]) lo) a=some (match uMk nm vis a with | .error c=>.error c | .ok (nm',_,v)=>.ok (.mk (.mk p) f nm' (pre ++ [mput seq a (nm.length:Int) d]) lo,v)):=by
 have h119:=R.f119 (k:=k) (p:=p) (f:=f) (lo:=lo) a;obtain ⟨f0,f1,f2,f3,f4,f5⟩:=f;unfold f103 f103_b uMk;simp only;rw [h119];cases slotOf nm vis a with
 | some v=>rfl
 | none =>
  simp only [Option.bind_some,f58_eq,Bool.not_false,cond_true];rw [guard_le (by unfold maxB; omega)];have e1:w64 (((pre ++ [d]).length:Int) - 1)=(pre.length:Int):=w64_nat (n:=pre.length) (by simp) (by omega);rw [e1,idxO_mid pre d [] _ rfl];simp
def fdL (fr:ByteArray):List DFunc→Nat→Option Int
 | [],_=>some (-1)
 | .mk nm _ _ _ _ _ :: l,i=>cond (seq nm fr) (some (i:Int)) (fdL fr l (i + 1))
theorem f1005661_eq (k:Nat) (s0:Int) (s1:ByteArray) (s2:Int) (fr:ByteArray) (s4 s5:Int) (s6:List DExpr) (s7 s8 s9:List DStmt) (s10:List DCase) : ∀ (l:List DFunc) (i:Nat),
  f1005661_l1 k s0 s1 s2 fr s4 s5 s6 s7 s8 s9 s10 l i=fdL fr l i
 | [],i=>rfl
 | .mk e0 e1 e2 e3 e4 e5 :: l,i=>by
  unfold f1005661_l1 fdL f1014048 f1014048_b;simp only [Option.bind_some];rw [f1005661_eq k s0 s1 s2 fr s4 s5 s6 s7 s8 s9 s10 l (i + 1)]
theorem fd_spec (op:Int) (fr:ByteArray) (na:Nat) : ∀ (l:List DFunc) (pre:List DFunc),∃ r,fdL fr l pre.length=some r ∧
  ((r=-1∧uCall op fr na l pre.length=.error 20)∨(∃ (j:Nat) (g0:ByteArray) (g1:List DParam) (g2:Int) (g3:Bool) (g4:Int) (g5:List DStmt),r=(j:Int)∧(pre ++ l)[j]?=some (.mk g0 g1 g2 g3 g4 g5) ∧
   uCall op fr na l pre.length=cond (g3 == (op == 28)) (cond ((g1.length:Int) == (na:Int)) (.ok (j:Int)) (.error 24)) (.error 25)))
 | [],pre=>⟨-1,rfl,.inl ⟨rfl,rfl⟩⟩
 | .mk g0 g1 g2 g3 g4 g5 :: l,pre=>by
  unfold fdL uCall;cases h:seq g0 fr with
  | true=>exact ⟨_,rfl,.inr ⟨pre.length,g0,g1,g2,g3,g4,g5,rfl,by simp,rfl⟩⟩
  | false =>
   obtain ⟨r,h1,h2⟩:=fd_spec op fr na l (pre ++ [.mk g0 g1 g2 g3 g4 g5]);rw [app_len] at h1 h2;rw [List.append_assoc,List.singleton_append] at h2;exact ⟨r,h1,h2⟩
theorem f122_eq (k:Nat) (p:List DFunc) (f:DFunc) (nm:List ByteArray) (sc:List (List (ByteArray × Int))) (lo:Int) (op:Int) (name:ByteArray) (s2:Int) (fr:ByteArray) (s4 flag:Int) (l6:List DExpr) (l7 l8 l9:List DStmt) (l10:List DCase) :
  f122 k (.mk (.mk p) f nm sc lo) (.mk op name s2 fr s4 flag l6 l7 l8 l9 l10)=some (match uCall op fr l6.length p 0 with | .error c=>.error c | .ok ix=>.ok (.mk (.mk p) f nm sc lo,.mk op name s2 fr ix flag l6 l7 l8 l9 l10)):=by
 obtain ⟨f0,f1,f2,f3,f4,f5⟩:=f;unfold f122 f122_b f1005661 f1005661_b;simp only;rw [f1005661_eq];obtain ⟨r,h1,h2⟩:=fd_spec op fr l6.length p [];simp only [List.length_nil,List.nil_append] at h1 h2;rw [h1];simp only [Option.bind_some,f58_eq];rcases h2 with ⟨rfl,h2⟩ | ⟨j,g0,g1,g2,g3,g4,g5,rfl,h3,h2⟩
 ·rw [h2]; rfl
 ·rw [h2];have:idxO p (j:Int)=some (.mk g0 g1 g2 g3 g4 g5):=by unfold idxO; rw [if_pos (by omega)]; simpa using h3
  have hj:decide ((j:Int) ≥ 0)=true:=by simp
  rw [this,hj];simp only [cond_true,Option.bind_some];cases (g3 == (op == 28)) <;> cases ((g1.length:Int) == (l6.length:Int)) <;> rfl
end Go.Proofs.YtoajecnoffhlbaaGreatDoor
namespace Go.Proofs.YtoajecnoffhlbaaGreatDoor
open Go
abbrev Sc:=List (List (ByteArray × Int))
def NN {α:Type} (r:Option (Ex (Dresolver × α))) (p:List DFunc) (f:DFunc) (lo:Nat) (pre:Sc) (nm:List ByteArray) (u:Ex (List ByteArray × List Nat × α)) (n:Nat):Prop :=
 match u with
 | .error c=>r=some (.error c)
 | .ok (nm',vis',y)=>∃ d',r=some (.ok (.mk (.mk p) f nm' (pre ++ [d']) lo,y))∧Rel (pre ++ [d']) vis' nm'∧nm <+: nm'∧nm'.length≤nm.length + n
def NB {α β:Type} (r:Option (Ex (Dresolver × β))) (p:List DFunc) (f:DFunc) (lo:Nat) (sc:Sc) (nm:List ByteArray) (u:Ex (List ByteArray × List Nat × α)) (g:α→β) (n:Nat):Prop :=
 match u with
 | .error c=>r=some (.error c)
 | .ok (nm',_,y)=>r=some (.ok (.mk (.mk p) f nm' sc lo,g y))∧nm <+: nm'∧nm'.length≤nm.length + n
theorem opt_make (k:Nat) (p:List DFunc) (f:DFunc) {nm:List ByteArray} {pre:Sc} {d:List (ByteArray × Int)} (lo:Nat) {vis:List Nat} (R:Rel (pre ++ [d]) vis nm) (a:ByteArray) (hb:nm.length≤1000000) (hp:pre.length≤1000000) :
  NN (f103 k (.mk (.mk p) f nm (pre ++ [d]) lo) a) p f lo pre nm (uMk nm vis a) 1:=by
 rw [f103_eq k p f lo R a hb hp];unfold uMk NN;cases hs:slotOf nm vis a with
 | some v=>rfl
 | none=>exact ⟨_,rfl,R.make hs,⟨[a],rfl⟩,by simp⟩
theorem gt_nat (lo:Nat):decide ((lo:Int) > 0)=decide (lo > 0):=by rw [decide_eq_decide]; omega
theorem cut_guard {α:Type} (sc:Sc) (d:List (ByteArray × Int)) (h:sc.length≤1000000) (x:Option α):guardB (decide (0≤(w64 (((sc ++ [d]).length:Int) - 1))∧(w64 (((sc ++ [d]).length:Int) - 1))≤((sc ++ [d]).length:Int))) x=x:=by
 have e1:w64 (((sc ++ [d]).length:Int) - 1)=(sc.length:Int):=w64_nat (n:=sc.length) (by simp) (by omega);rw [e1];have:(0≤(sc.length:Int)∧(sc.length:Int)≤((sc ++ [d]).length:Int)):=⟨by omega,by simp; omega⟩;rw [decide_eq_true this]; rfl
theorem cut_take (sc:Sc) (d:List (ByteArray × Int)) (h:sc.length≤1000000):(sc ++ [d]).take (w64 (((sc ++ [d]).length:Int) - 1)).toNat=sc:=by
 have e1:w64 (((sc ++ [d]).length:Int) - 1)=(sc.length:Int):=w64_nat (n:=sc.length) (by simp) (by omega);rw [e1]; simp
section
variable (k:Nat) (p:List DFunc) (f0:ByteArray) (f1:List DParam) (f2:Int) (f3:Bool) (f4:Int) (f5:List DStmt)
end
theorem nR (k:Nat) (p:List DFunc) (f0:ByteArray) (f1:List DParam) (f2:Int) (f3:Bool) (f4:Int) (f5:List DStmt) : ∀ m,m≤k →
  (∀ s,4 * szS s≤m→∀ (nm:List ByteArray) (vis:List Nat) (pre:Sc) (d:List (ByteArray × Int)) (lo:Nat),nm.length + szS s≤100000→pre.length + szS s≤100000→lo + szS s≤100000→Rel (pre ++ [d]) vis nm →
   NN ((fam105 k m).f105 (.mk (.mk p) (.mk f0 f1 f2 f3 f4 f5) nm (pre ++ [d]) lo) s) p (.mk f0 f1 f2 f3 f4 f5) lo pre nm (uS p f2 f3 lo nm vis s) (szS s)) ∧
  (∀ l,4 * szSs l + 1≤m→∀ (nm:List ByteArray) (vis:List Nat) (sc:Sc) (lo:Nat),nm.length + szSs l≤100000→sc.length + szSs l≤100000→lo + szSs l≤100000→Rel sc vis nm →
   NB ((fam105 k m).f1012166 (.mk (.mk p) (.mk f0 f1 f2 f3 f4 f5) nm sc lo) ⟨#[]⟩ l) p (.mk f0 f1 f2 f3 f4 f5) lo sc nm (uB p f2 f3 lo nm vis l) id (szSs l)) ∧
  (∀ l,4 * szSs l + 1≤m→∀ (name:ByteArray) (s0:Int) (s1:ByteArray) (s2:Int) (s3:ByteArray) (s4 s5:Int) (s6:List DExpr) (s7 s8 s9:List DStmt) (s10:List DCase) (nm:List ByteArray) (vis:List Nat) (sc:Sc) (lo:Nat),nm.length + szSs l + 1≤100000→sc.length + szSs l≤100000→lo + szSs l≤100000→Rel sc vis nm →
   NB ((fam105 k m).f1012152 (.mk (.mk p) (.mk f0 f1 f2 f3 f4 f5) nm sc lo) name l (.mk s0 s1 s2 s3 s4 s5 s6 s7 s8 s9 s10)) p (.mk f0 f1 f2 f3 f4 f5) lo sc nm (uI p f2 f3 lo nm vis name s2 l) (fun vb=>(DStmt.mk s0 s1 vb.1 s3 s4 s5 s6 s7 s8 s9 s10,vb.2)) (szSs l + 1)) ∧
  (∀ l,4 * szSs l + 1≤m→∀ (name:ByteArray) (s0:Int) (s1:ByteArray) (s2:Int) (s3:List DExpr) (s4:List DStmt) (nm:List ByteArray) (vis:List Nat) (sc:Sc) (lo:Nat),nm.length + szSs l + 1≤100000→sc.length + szSs l≤100000→lo + szSs l≤100000→Rel sc vis nm →
   NB ((fam105 k m).f1012148 (.mk (.mk p) (.mk f0 f1 f2 f3 f4 f5) nm sc lo) name l (.mk s0 s1 s2 s3 s4)) p (.mk f0 f1 f2 f3 f4 f5) lo sc nm (uI p f2 f3 lo nm vis name s2 l) (fun vb=>(DCase.mk s0 s1 vb.1 s3 s4,vb.2)) (szSs l + 1)) ∧
  (∀ l,4 * szSs l + 2≤m→∀ (nm:List ByteArray) (vis:List Nat) (sc:Sc) (lo:Nat),nm.length + szSs l≤100000→sc.length + szSs l≤100000→lo + szSs l + 1≤100000→Rel sc vis nm →
   NB ((fam105 k m).f1012366 (.mk (.mk p) (.mk f0 f1 f2 f3 f4 f5) nm sc lo) ⟨#[]⟩ l) p (.mk f0 f1 f2 f3 f4 f5) lo sc nm (uB p f2 f3 (lo + 1) nm vis l) id (szSs l)) ∧
  (∀ l,4 * szSs l + 2≤m→∀ (name:ByteArray) (s0:Int) (s1:ByteArray) (s2:Int) (s3:ByteArray) (s4 s5:Int) (s6:List DExpr) (s7 s8 s9:List DStmt) (s10:List DCase) (nm:List ByteArray) (vis:List Nat) (sc:Sc) (lo:Nat),nm.length + szSs l + 1≤100000→sc.length + szSs l≤100000→lo + szSs l + 1≤100000→Rel sc vis nm →
   NB ((fam105 k m).f1012352 (.mk (.mk p) (.mk f0 f1 f2 f3 f4 f5) nm sc lo) name l (.mk s0 s1 s2 s3 s4 s5 s6 s7 s8 s9 s10)) p (.mk f0 f1 f2 f3 f4 f5) lo sc nm (uI p f2 f3 (lo + 1) nm vis name s2 l) (fun vb=>(DStmt.mk s0 s1 vb.1 s3 s4 s5 s6 s7 s8 s9 s10,vb.2)) (szSs l + 1))
 | 0,_=>⟨fun e he=>by have:=szS_pos e; omega,fun l hl=>by omega,fun l hl=>by omega,fun l hl=>by omega,fun l hl=>by omega,fun l hl=>by omega⟩
 | m + 1,hmk=>by
  obtain ⟨ihs,ihb,ihi,ihc,ihlb,ihli⟩:=nR k p f0 f1 f2 f3 f4 f5 m (by omega);have loopB : ∀ (l:List DStmt) (i:Nat) (xs:List DStmt) (nm:List ByteArray) (vis:List Nat) (sc:Sc) (d:List (ByteArray × Int)) (lo:Nat),4 * szSs l≤m→xs.length + szSs l≤100000→nm.length + szSs l≤100000→sc.length + szSs l≤100000→lo + szSs l≤100000→Rel (sc ++ [d]) vis nm →
    NB (f1012166_l1 k (fam105 k m) l i p f0 f1 f2 f3 f4 f5 nm (sc ++ [d]) lo xs) p (.mk f0 f1 f2 f3 f4 f5) lo sc nm (uSs p f2 f3 lo nm vis l) (fun l'=>xs ++ l') (szSs l):=by
   intro l;induction l with
   | nil =>
    intro i xs nm vis sc d lo _ _ _ hsc _ R;unfold f1012166_l1;rw [cut_guard sc d (by omega),cut_take sc d (by omega),uSs];exact ⟨by simp,List.prefix_refl _,by simp⟩
   | cons s l ih =>
    intro i xs nm vis sc d lo hm hxs hnm hsc hlo R;obtain ⟨e0,e1,e2,e3,e4,e5,e6,e7,e8,e9,e10⟩:=s;simp only [szSs] at hm hxs hnm hsc hlo;have hp:=szS_pos (.mk e0 e1 e2 e3 e4 e5 e6 e7 e8 e9 e10);unfold f1012166_l1;rw [uSs];have h:=ihs (.mk e0 e1 e2 e3 e4 e5 e6 e7 e8 e9 e10) (by omega) nm vis sc d lo (by omega) (by omega) (by omega) R;revert h;cases uS p f2 f3 lo nm vis (.mk e0 e1 e2 e3 e4 e5 e6 e7 e8 e9 e10) with
    | error c=>intro h; simp only [NN] at h; rw [h]; rfl
    | ok x =>
     obtain ⟨nm1,vis1,s'⟩:=x;rintro ⟨d1,h,R1,hp1,hl1⟩;rw [h];obtain ⟨r0,r1,r2,r3,r4,r5,r6,r7,r8,r9,r10⟩:=s';simp only [Option.bind_some,eb3];rw [guard_le (by unfold maxB; omega)];have h2:=ih (i + 1) (xs ++ [.mk r0 r1 r2 r3 r4 r5 r6 r7 r8 r9 r10]) nm1 vis1 sc d1 lo (by omega) (by rw [app_len]; omega) (by omega) (by omega) (by omega) R1;revert h2;cases uSs p f2 f3 lo nm1 vis1 l with
     | error c=>intro h2; exact h2
     | ok x =>
      obtain ⟨nm2,vis2,l'⟩:=x;rintro ⟨h3,hp2,hl2⟩;refine ⟨by rw [h3]; simp,hp1.trans hp2,by simp only [szSs]; omega⟩
  have loopS : ∀ (s0:Int) (s1:ByteArray) (s3:ByteArray) (s4 s5:Int) (s6:List DExpr) (s7 s8 s9:List DStmt) (s10:List DCase) (v:Int) (l:List DStmt) (i:Nat) (xs:List DStmt) (nm:List ByteArray) (vis:List Nat) (sc:Sc) (d:List (ByteArray × Int)) (lo:Nat),4 * szSs l≤m→xs.length + szSs l≤100000→nm.length + szSs l≤100000→sc.length + szSs l≤100000→lo + szSs l≤100000→Rel (sc ++ [d]) vis nm →
    NB (f1012152_l1 k (fam105 k m) s0 s1 s3 s4 s5 s6 s7 s8 s9 s10 v l i p f0 f1 f2 f3 f4 f5 nm (sc ++ [d]) lo xs) p (.mk f0 f1 f2 f3 f4 f5) lo sc nm (uSs p f2 f3 lo nm vis l) (fun l'=>(DStmt.mk s0 s1 v s3 s4 s5 s6 s7 s8 s9 s10,xs ++ l')) (szSs l):=by
   intro s0 s1 s3 s4 s5 s6 s7 s8 s9 s10 v l;induction l with
   | nil =>
    intro i xs nm vis sc d lo _ _ _ hsc _ R;unfold f1012152_l1;rw [cut_guard sc d (by omega),cut_take sc d (by omega),uSs];exact ⟨by simp,List.prefix_refl _,by simp⟩
   | cons s l ih =>
    intro i xs nm vis sc d lo hm hxs hnm hsc hlo R;obtain ⟨e0,e1,e2,e3,e4,e5,e6,e7,e8,e9,e10⟩:=s;simp only [szSs] at hm hxs hnm hsc hlo;have hp:=szS_pos (.mk e0 e1 e2 e3 e4 e5 e6 e7 e8 e9 e10);unfold f1012152_l1;rw [uSs];have h:=ihs (.mk e0 e1 e2 e3 e4 e5 e6 e7 e8 e9 e10) (by omega) nm vis sc d lo (by omega) (by omega) (by omega) R;revert h;cases uS p f2 f3 lo nm vis (.mk e0 e1 e2 e3 e4 e5 e6 e7 e8 e9 e10) with
    | error c=>intro h; simp only [NN] at h; rw [h]; rfl
    | ok x =>
     obtain ⟨nm1,vis1,s'⟩:=x;rintro ⟨d1,h,R1,hp1,hl1⟩;rw [h];obtain ⟨r0,r1,r2,r3,r4,r5,r6,r7,r8,r9,r10⟩:=s';simp only [Option.bind_some,eb3];rw [guard_le (by unfold maxB; omega)];have h2:=ih (i + 1) (xs ++ [.mk r0 r1 r2 r3 r4 r5 r6 r7 r8 r9 r10]) nm1 vis1 sc d1 lo (by omega) (by rw [app_len]; omega) (by omega) (by omega) (by omega) R1;revert h2;cases uSs p f2 f3 lo nm1 vis1 l with
     | error c=>intro h2; exact h2
     | ok x =>
      obtain ⟨nm2,vis2,l'⟩:=x;rintro ⟨h3,hp2,hl2⟩;refine ⟨by rw [h3]; simp,hp1.trans hp2,by simp only [szSs]; omega⟩
  have loopC : ∀ (s0:Int) (s1:ByteArray) (s3:List DExpr) (s4:List DStmt) (v:Int) (l:List DStmt) (i:Nat) (xs:List DStmt) (nm:List ByteArray) (vis:List Nat) (sc:Sc) (d:List (ByteArray × Int)) (lo:Nat),4 * szSs l≤m→xs.length + szSs l≤100000→nm.length + szSs l≤100000→sc.length + szSs l≤100000→lo + szSs l≤100000→Rel (sc ++ [d]) vis nm →
    NB (f1012148_l1 k (fam105 k m) s0 s1 s3 s4 v l i p f0 f1 f2 f3 f4 f5 nm (sc ++ [d]) lo xs) p (.mk f0 f1 f2 f3 f4 f5) lo sc nm (uSs p f2 f3 lo nm vis l) (fun l'=>(DCase.mk s0 s1 v s3 s4,xs ++ l')) (szSs l):=by
   intro s0 s1 s3 s4 v l;induction l with
   | nil =>
    intro i xs nm vis sc d lo _ _ _ hsc _ R;unfold f1012148_l1;rw [cut_guard sc d (by omega),cut_take sc d (by omega),uSs];exact ⟨by simp,List.prefix_refl _,by simp⟩
   | cons s l ih =>
    intro i xs nm vis sc d lo hm hxs hnm hsc hlo R;obtain ⟨e0,e1,e2,e3,e4,e5,e6,e7,e8,e9,e10⟩:=s;simp only [szSs] at hm hxs hnm hsc hlo;have hp:=szS_pos (.mk e0 e1 e2 e3 e4 e5 e6 e7 e8 e9 e10);unfold f1012148_l1;rw [uSs];have h:=ihs (.mk e0 e1 e2 e3 e4 e5 e6 e7 e8 e9 e10) (by omega) nm vis sc d lo (by omega) (by omega) (by omega) R;revert h;cases uS p f2 f3 lo nm vis (.mk e0 e1 e2 e3 e4 e5 e6 e7 e8 e9 e10) with
    | error c=>intro h; simp only [NN] at h; rw [h]; rfl
    | ok x =>
     obtain ⟨nm1,vis1,s'⟩:=x;rintro ⟨d1,h,R1,hp1,hl1⟩;rw [h];obtain ⟨r0,r1,r2,r3,r4,r5,r6,r7,r8,r9,r10⟩:=s';simp only [Option.bind_some,eb3];rw [guard_le (by unfold maxB; omega)];have h2:=ih (i + 1) (xs ++ [.mk r0 r1 r2 r3 r4 r5 r6 r7 r8 r9 r10]) nm1 vis1 sc d1 lo (by omega) (by rw [app_len]; omega) (by omega) (by omega) (by omega) R1;revert h2;cases uSs p f2 f3 lo nm1 vis1 l with
     | error c=>intro h2; exact h2
     | ok x =>
      obtain ⟨nm2,vis2,l'⟩:=x;rintro ⟨h3,hp2,hl2⟩;refine ⟨by rw [h3]; simp,hp1.trans hp2,by simp only [szSs]; omega⟩
  have loopK : ∀ (s0:Int) (s1:ByteArray) (s2:Int) (s3:ByteArray) (s4 s5:Int) (s7 s8 s9:List DStmt) (r:List DExpr) (l:List DCase) (i:Nat) (xs:List DCase) (nm:List ByteArray) (vis:List Nat) (pre:Sc) (d:List (ByteArray × Int)) (lo:Nat),4 * szCs l≤m + 1→xs.length + szCs l≤100000→nm.length + szCs l≤100000→pre.length + szCs l≤100000→lo + szCs l≤100000→Rel (pre ++ [d]) vis nm →
    NB (f105_l1 k (fam105 k m) s0 s1 s2 s3 s4 s5 s7 s8 s9 r l i p f0 f1 f2 f3 f4 f5 nm (pre ++ [d]) lo xs) p (.mk f0 f1 f2 f3 f4 f5) lo (pre ++ [d]) nm (uCs p f2 f3 lo nm vis l) (fun l'=>DStmt.mk s0 s1 s2 s3 s4 s5 r s7 s8 s9 (xs ++ l')) (szCs l):=by
   intro s0 s1 s2 s3 s4 s5 s7 s8 s9 r l;induction l with
   | nil =>
    intro i xs nm vis pre d lo _ _ _ hsc _ R;unfold f105_l1;rw [uCs];exact ⟨by simp,List.prefix_refl _,by simp⟩
   | cons c l ih =>
    intro i xs nm vis pre d lo hm hxs hnm hsc hlo R;obtain ⟨e0,e1,e2,e3,e4⟩:=c;simp only [szCs,szC] at hm hxs hnm hsc hlo;unfold f105_l1;rw [uCs,uC];rw [f120_eq k p (.mk f0 f1 f2 f3 f4 f5) lo R e3 (by omega) (by omega)];cases uEs nm vis e3 with
    | error c=>exact rfl
    | ok r3 =>
     simp only [Option.bind_some,eb];have h:=ihc e4 (by omega) e1 e0 e1 e2 r3 e4 nm vis (pre ++ [d]) lo (by omega) (by simp; omega) (by omega) R;revert h;cases uI p f2 f3 lo nm vis e1 e2 e4 with
     | error c=>intro h; simp only [NB] at h; rw [h]; exact rfl
     | ok x =>
      obtain ⟨nm1,vis1,v,b⟩:=x;rintro ⟨h,hp1,hl1⟩;rw [h];simp only [Option.bind_some,eb3];rw [guard_le (by unfold maxB; omega)];have h2:=ih (i + 1) (xs ++ [.mk e0 e1 v r3 b]) nm1 vis pre d lo (by omega) (by rw [app_len]; omega) (by omega) (by omega) (by omega) (R.ext hp1);revert h2;cases uCs p f2 f3 lo nm1 vis l with
      | error c=>intro h2; exact h2
      | ok x =>
       obtain ⟨nm2,vis2,l'⟩:=x;rintro ⟨h3,hp2,hl2⟩;refine ⟨by rw [h3]; simp,hp1.trans hp2,by simp only [szCs,szC]; omega⟩
  refine ⟨?_,?_,?_,?_,?_,?_⟩
  ·intro s hs nm vis pre d lo hnm hpre hlo R;obtain ⟨op,name,s2,fr,s4,flag,l6,l7,l8,l9,l10⟩:=s;simp only [szS] at hs hnm hpre hlo;show NN (f105_b k (fam105 k m) (.mk (.mk p) (.mk f0 f1 f2 f3 f4 f5) nm (pre ++ [d]) lo) (.mk op name s2 fr s4 flag l6 l7 l8 l9 l10)) p _ lo pre nm _ _;rw [uS];unfold f105_b;simp only;rw [f120_eq k p (.mk f0 f1 f2 f3 f4 f5) lo R l6 (by omega) (by omega)];cases uEs nm vis l6 with
   | error c=>exact rfl
   | ok r6 =>
    simp only [Option.bind_some,eb];have stay : ∀ y:DStmt,NN (some (.ok (Dresolver.mk (DProgram.mk p) (.mk f0 f1 f2 f3 f4 f5) nm (pre ++ [d]) lo,y))) p (.mk f0 f1 f2 f3 f4 f5) lo pre nm (.ok (nm,vis,y)) (szS (.mk op name s2 fr s4 flag l6 l7 l8 l9 l10)) :=
     fun y=>⟨d,rfl,R,List.prefix_refl _,by omega⟩
    cases h27:(op == 27) with
    | true =>
     simp only [cond_true];have h:=loopK op name s2 fr s4 flag l7 l8 l9 r6 l10 0 [] nm vis pre d lo (by omega) (by simp; omega) (by omega) (by omega) (by omega) R;revert h;cases uCs p f2 f3 lo nm vis l10 with
     | error c=>intro h; exact h
     | ok x =>
      obtain ⟨nm1,vis1,cs⟩:=x;rintro ⟨h,hp1,hl1⟩;exact ⟨d,by rw [h]; simp,R.ext hp1,hp1,by simp only [szS]; omega⟩
    | false =>
     simp only [cond_false];have tail : ∀ ix:Int,NN (f105_j1 k (fam105 k m) p f0 f1 f2 f3 f4 f5 nm (pre ++ [d]) lo op name s2 fr ix flag r6 l7 l8 l9 l10) p (.mk f0 f1 f2 f3 f4 f5) lo pre nm
       (cond (op == 2) (match slotOf nm vis name with | none=>.error 20 | some v=>.ok (nm,vis,.mk op name (v:Int) fr ix flag r6 l7 l8 l9 l10))
       (cond (op == 18 || op == 19) (uD (decide (lo > 0)) 22 (.ok (nm,vis,.mk op name s2 fr ix flag r6 l7 l8 l9 l10)))
       (cond (op == 29) (uD f3 22 (.ok (nm,vis,.mk op name s2 fr ix flag r6 l7 l8 l9 l10)))
       (cond (op == 17) (uD ((decide (r6.length > 0)) == (f2 != 0)) 22 (.ok (nm,vis,.mk op name s2 fr ix flag r6 l7 l8 l9 l10)))
       (cond (op == 21) (eb3 (uB p f2 f3 (lo + 1) nm vis l7) fun nm1 _ b=>.ok (nm1,vis,.mk op name s2 fr ix flag r6 b l8 l9 l10))
       (cond (op == 28) (eb3 (uI p f2 f3 (lo + 1) nm vis name s2 l7) fun nm1 _ vb=>.ok (nm1,vis,.mk op name vb.1 fr ix flag r6 vb.2 l8 l9 l10))
       (cond (op == 25) (eb3 (uI p f2 f3 lo nm vis name s2 l7) fun nm1 _ vb=>.ok (nm1,vis,.mk op name vb.1 fr ix flag r6 vb.2 l8 l9 l10))
       (cond (op == 24) (eb3 (uB p f2 f3 lo nm vis l7) fun nm1 _ b7=>eb3 (uI p f2 f3 lo nm1 vis name s2 l8) fun nm2 _ vb=>eb3 (uB p f2 f3 lo nm2 vis l9) fun nm3 _ b9=>.ok (nm3,vis,.mk op name vb.1 fr ix flag r6 b7 vb.2 b9 l10))
       (cond (op == 20 || op == 22 || op == 23 || op == 26) (eb3 (uB p f2 f3 lo nm vis l7) fun nm1 _ b7=>eb3 (uB p f2 f3 lo nm1 vis l8) fun nm2 _ b8=>.ok (nm2,vis,.mk op name s2 fr ix flag r6 b7 b8 l9 l10))
        (eb3 (cond (seq name ⟨#[]⟩) (.ok (nm,vis,s2)) (uMk nm vis name)) fun nm1 vis1 v=>uD (op != 6 || flag == 0 || decide (lo > 0)) 22 (.ok (nm1,vis1,.mk op name v fr ix flag r6 l7 l8 l9 l10)))))))))))) (szS (.mk op name s2 fr s4 flag l6 l7 l8 l9 l10)):=by
      intro ix;unfold f105_j1;cases h2:(op == 2) with
      | true =>
       simp only [cond_true];rw [R.f119];cases slotOf nm vis name with
       | none=>simp only [Option.bind_some,f58_eq]; exact rfl
       | some v=>simp only [Option.bind_some,f58_eq,cond_true]; exact stay _
      | false =>
       simp only [cond_false];have tail2 : ∀ q,q=(op == 18 || op == 19)→NN (f105_j3 k (fam105 k m) p f0 f1 f2 f3 f4 f5 nm (pre ++ [d]) lo op name s2 fr ix flag r6 l7 l8 l9 l10 q) p (.mk f0 f1 f2 f3 f4 f5) lo pre nm
         (cond (op == 18 || op == 19) (uD (decide (lo > 0)) 22 (.ok (nm,vis,.mk op name s2 fr ix flag r6 l7 l8 l9 l10)))
         (cond (op == 29) (uD f3 22 (.ok (nm,vis,.mk op name s2 fr ix flag r6 l7 l8 l9 l10)))
         (cond (op == 17) (uD ((decide (r6.length > 0)) == (f2 != 0)) 22 (.ok (nm,vis,.mk op name s2 fr ix flag r6 l7 l8 l9 l10)))
         (cond (op == 21) (eb3 (uB p f2 f3 (lo + 1) nm vis l7) fun nm1 _ b=>.ok (nm1,vis,.mk op name s2 fr ix flag r6 b l8 l9 l10))
         (cond (op == 28) (eb3 (uI p f2 f3 (lo + 1) nm vis name s2 l7) fun nm1 _ vb=>.ok (nm1,vis,.mk op name vb.1 fr ix flag r6 vb.2 l8 l9 l10))
         (cond (op == 25) (eb3 (uI p f2 f3 lo nm vis name s2 l7) fun nm1 _ vb=>.ok (nm1,vis,.mk op name vb.1 fr ix flag r6 vb.2 l8 l9 l10))
         (cond (op == 24) (eb3 (uB p f2 f3 lo nm vis l7) fun nm1 _ b7=>eb3 (uI p f2 f3 lo nm1 vis name s2 l8) fun nm2 _ vb=>eb3 (uB p f2 f3 lo nm2 vis l9) fun nm3 _ b9=>.ok (nm3,vis,.mk op name vb.1 fr ix flag r6 b7 vb.2 b9 l10))
         (cond (op == 20 || op == 22 || op == 23 || op == 26) (eb3 (uB p f2 f3 lo nm vis l7) fun nm1 _ b7=>eb3 (uB p f2 f3 lo nm1 vis l8) fun nm2 _ b8=>.ok (nm2,vis,.mk op name s2 fr ix flag r6 b7 b8 l9 l10))
          (eb3 (cond (seq name ⟨#[]⟩) (.ok (nm,vis,s2)) (uMk nm vis name)) fun nm1 vis1 v=>uD (op != 6 || flag == 0 || decide (lo > 0)) 22 (.ok (nm1,vis1,.mk op name v fr ix flag r6 l7 l8 l9 l10))))))))))) (szS (.mk op name s2 fr s4 flag l6 l7 l8 l9 l10)):=by
        rintro _ rfl;unfold f105_j3;cases (op == 18 || op == 19) with
        | true =>
         simp only [cond_true,f58_eq,Option.bind_some,gt_nat,uD];cases decide (lo > 0)
         ·exact rfl
         ·exact stay _
        | false =>
        simp only [cond_false];cases (op == 29) with
        | true =>
         simp only [cond_true,f58_eq,Option.bind_some,uD];cases f3
         ·exact rfl
         ·exact stay _
        | false =>
        simp only [cond_false];cases (op == 17) with
        | true =>
         simp only [cond_true,f58_eq,Option.bind_some,uD,gt_nat];cases (decide (r6.length > 0) == (f2 != 0))
         ·exact rfl
         ·exact stay _
        | false =>
        simp only [cond_false];cases (op == 21) with
        | true =>
         simp only [cond_true];have h:=ihlb l7 (by omega) nm vis (pre ++ [d]) lo (by omega) (by simp; omega) (by omega) R;revert h;cases uB p f2 f3 (lo + 1) nm vis l7 with
         | error c=>intro h; simp only [NB] at h; rw [h]; exact rfl
         | ok x =>
          obtain ⟨nm1,vis1,b⟩:=x;rintro ⟨h,hp1,hl1⟩;rw [h];exact ⟨d,rfl,R.ext hp1,hp1,by simp only [szS]; omega⟩
        | false =>
        simp only [cond_false];cases (op == 28) with
        | true =>
         simp only [cond_true];have h:=ihli l7 (by omega) name op name s2 fr ix flag r6 l7 l8 l9 l10 nm vis (pre ++ [d]) lo (by omega) (by simp; omega) (by omega) R;revert h;cases uI p f2 f3 (lo + 1) nm vis name s2 l7 with
         | error c=>intro h; simp only [NB] at h; rw [h]; exact rfl
         | ok x =>
          obtain ⟨nm1,vis1,v,b⟩:=x;rintro ⟨h,hp1,hl1⟩;rw [h];exact ⟨d,rfl,R.ext hp1,hp1,by simp only [szS]; omega⟩
        | false =>
        simp only [cond_false];cases (op == 25) with
        | true =>
         simp only [cond_true];have h:=ihi l7 (by omega) name op name s2 fr ix flag r6 l7 l8 l9 l10 nm vis (pre ++ [d]) lo (by omega) (by simp; omega) (by omega) R;revert h;cases uI p f2 f3 lo nm vis name s2 l7 with
         | error c=>intro h; simp only [NB] at h; rw [h]; exact rfl
         | ok x =>
          obtain ⟨nm1,vis1,v,b⟩:=x;rintro ⟨h,hp1,hl1⟩;rw [h];exact ⟨d,rfl,R.ext hp1,hp1,by simp only [szS]; omega⟩
        | false =>
        simp only [cond_false];cases (op == 24) with
        | true =>
         simp only [cond_true];have h:=ihb l7 (by omega) nm vis (pre ++ [d]) lo (by omega) (by simp; omega) (by omega) R;revert h;cases uB p f2 f3 lo nm vis l7 with
         | error c=>intro h; simp only [NB] at h; rw [h]; exact rfl
         | ok x =>
          obtain ⟨nm1,vis1,b⟩:=x;rintro ⟨h,hp1,hl1⟩;rw [h];simp only [Option.bind_some,eb3,id];have h:=ihi l8 (by omega) name op name s2 fr ix flag r6 b l8 l9 l10 nm1 vis (pre ++ [d]) lo (by omega) (by simp; omega) (by omega) (R.ext hp1);revert h;cases uI p f2 f3 lo nm1 vis name s2 l8 with
          | error c=>intro h; simp only [NB] at h; rw [h]; exact rfl
          | ok x =>
           obtain ⟨nm2,vis2,v,b8⟩:=x;rintro ⟨h,hp2,hl2⟩;rw [h];simp only [Option.bind_some];have h:=ihb l9 (by omega) nm2 vis (pre ++ [d]) lo (by omega) (by simp; omega) (by omega) ((R.ext hp1).ext hp2);revert h;cases uB p f2 f3 lo nm2 vis l9 with
           | error c=>intro h; simp only [NB] at h; rw [h]; exact rfl
           | ok x =>
            obtain ⟨nm3,vis3,b9⟩:=x;rintro ⟨h,hp3,hl3⟩;rw [h];exact ⟨d,rfl,((R.ext hp1).ext hp2).ext hp3,(hp1.trans hp2).trans hp3,by simp only [szS]; omega⟩
        | false =>
        simp only [cond_false];have tail3 : ∀ q,q=(op == 20 || op == 22 || op == 23 || op == 26)→NN (f105_j4 k (fam105 k m) p f0 f1 f2 f3 f4 f5 nm (pre ++ [d]) lo op name s2 fr ix flag r6 l7 l8 l9 l10 q) p (.mk f0 f1 f2 f3 f4 f5) lo pre nm
          (cond (op == 20 || op == 22 || op == 23 || op == 26) (eb3 (uB p f2 f3 lo nm vis l7) fun nm1 _ b7=>eb3 (uB p f2 f3 lo nm1 vis l8) fun nm2 _ b8=>.ok (nm2,vis,.mk op name s2 fr ix flag r6 b7 b8 l9 l10))
           (eb3 (cond (seq name ⟨#[]⟩) (.ok (nm,vis,s2)) (uMk nm vis name)) fun nm1 vis1 v=>uD (op != 6 || flag == 0 || decide (lo > 0)) 22 (.ok (nm1,vis1,.mk op name v fr ix flag r6 l7 l8 l9 l10)))) (szS (.mk op name s2 fr s4 flag l6 l7 l8 l9 l10)):=by
         rintro _ rfl;unfold f105_j4;cases (op == 20 || op == 22 || op == 23 || op == 26) with
         | true =>
          simp only [cond_true];have h:=ihb l7 (by omega) nm vis (pre ++ [d]) lo (by omega) (by simp; omega) (by omega) R;revert h;cases uB p f2 f3 lo nm vis l7 with
          | error c=>intro h; simp only [NB] at h; rw [h]; exact rfl
          | ok x =>
           obtain ⟨nm1,vis1,b⟩:=x;rintro ⟨h,hp1,hl1⟩;rw [h];simp only [Option.bind_some,eb3,id];have h:=ihb l8 (by omega) nm1 vis (pre ++ [d]) lo (by omega) (by simp; omega) (by omega) (R.ext hp1);revert h;cases uB p f2 f3 lo nm1 vis l8 with
           | error c=>intro h; simp only [NB] at h; rw [h]; exact rfl
           | ok x =>
            obtain ⟨nm2,vis2,b8⟩:=x;rintro ⟨h,hp2,hl2⟩;rw [h];exact ⟨d,rfl,(R.ext hp1).ext hp2,hp1.trans hp2,by simp only [szS]; omega⟩
         | false =>
          simp only [cond_false];have fin : ∀ (nm1:List ByteArray) (vis1:List Nat) (d1:List (ByteArray × Int)) (v:Int),Rel (pre ++ [d1]) vis1 nm1→nm <+: nm1→nm1.length≤nm.length + 1 →
            NN (f105_j5 k (fam105 k m) op name fr ix flag r6 l7 l8 l9 l10 p f0 f1 f2 f3 f4 f5 nm1 (pre ++ [d1]) lo v) p (.mk f0 f1 f2 f3 f4 f5) lo pre nm
             (uD (op != 6 || flag == 0 || decide (lo > 0)) 22 (.ok (nm1,vis1,.mk op name v fr ix flag r6 l7 l8 l9 l10))) (szS (.mk op name s2 fr s4 flag l6 l7 l8 l9 l10)):=by
           intro nm1 vis1 d1 v R1 hp1 hl1;unfold f105_j5;simp only [f58_eq,Option.bind_some,gt_nat,uD,cond_true];cases (op != 6) <;> cases (flag == 0) <;> cases decide (lo > 0) <;> first | exact rfl | exact ⟨d1,rfl,R1,hp1,by simp only [szS]; omega⟩
          cases seq name ⟨#[]⟩ with
          | true =>
           simp only [Bool.not_true,cond_false,cond_true,eb3];exact fin nm vis d s2 R (List.prefix_refl _) (by omega)
          | false =>
           simp only [Bool.not_false,cond_true,cond_false];have h:=opt_make k p (.mk f0 f1 f2 f3 f4 f5) lo R name (by omega) (by omega);revert h;cases uMk nm vis name with
           | error c=>intro h; simp only [NN] at h; rw [h]; exact rfl
           | ok x =>
            obtain ⟨nm1,vis1,v⟩:=x;rintro ⟨d1,h,R1,hp1,hl1⟩;rw [h];exact fin nm1 vis1 d1 v R1 hp1 hl1
        cases h20:(op == 20) <;> cases h22:(op == 22) <;> cases h23:(op == 23) <;> (have h:=tail3 _ rfl; simp only [h20,h22,h23,Bool.true_or,Bool.or_true,Bool.false_or,cond_true,cond_false] at h ⊢; exact h)
       cases h18:(op == 18) with
       | true=>simp only [cond_true,Bool.true_or]; have h:=tail2 true (by simp [h18]); simpa only [h18,Bool.true_or,cond_true] using h
       | false=>simp only [cond_false,Bool.false_or]; have h:=tail2 (op == 19) (by simp [h18]); simpa only [h18,Bool.false_or] using h
     cases hfr:seq fr ⟨#[]⟩ with
     | true =>
      simp only [Bool.not_true,cond_false,cond_true];exact tail s4
     | false =>
      simp only [Bool.not_false,cond_true,cond_false];rw [f122_eq];cases uCall op fr r6.length p 0 with
      | error c=>exact rfl
      | ok ix=>exact tail ix
  ·intro l hl nm vis sc lo hnm hsc hlo R;show NB (f1012166_b k (fam105 k m) (.mk (.mk p) (.mk f0 f1 f2 f3 f4 f5) nm sc lo) ⟨#[]⟩ l) _ _ _ _ _ _ _ _;rw [uB_eq];unfold f1012166_b;simp only;rw [guard_le (by unfold maxB; omega)];have hs:seq ⟨#[]⟩ ⟨#[]⟩=true:=seq_refl _;rw [hs];simp only [Bool.not_true,cond_false];have h:=loopB l 0 [] nm vis sc [] lo (by omega) (by simp; omega) (by omega) (by omega) (by omega) R.push;revert h;cases uSs p f2 f3 lo nm vis l with
   | error c=>intro h; exact h
   | ok x =>
    obtain ⟨nm1,vis1,l'⟩:=x;rintro ⟨h,hp1,hl1⟩;exact ⟨by rw [h]; simp,hp1,by omega⟩
  ·intro l hl name s0 s1 s2 s3 s4 s5 s6 s7 s8 s9 s10 nm vis sc lo hnm hsc hlo R;show NB (f1012152_b k (fam105 k m) (.mk (.mk p) (.mk f0 f1 f2 f3 f4 f5) nm sc lo) name l (.mk s0 s1 s2 s3 s4 s5 s6 s7 s8 s9 s10)) _ _ _ _ _ _ _ _;rw [uI_eq];unfold f1012152_b f1012152_j1;simp only;rw [guard_le (by unfold maxB; omega)];cases hn:seq name ⟨#[]⟩ with
   | true =>
    simp only [Bool.not_true,cond_false,cond_true,eb3];have h:=loopS s0 s1 s3 s4 s5 s6 s7 s8 s9 s10 s2 l 0 [] nm vis sc [] lo (by omega) (by simp; omega) (by omega) (by omega) (by omega) R.push;revert h;cases uSs p f2 f3 lo nm vis l with
    | error c=>intro h; exact h
    | ok x =>
     obtain ⟨nm1,vis1,l'⟩:=x;rintro ⟨h,hp1,hl1⟩;exact ⟨by rw [h]; simp,hp1,by omega⟩
   | false =>
    simp only [Bool.not_false,cond_true,cond_false];have h:=opt_make k p (.mk f0 f1 f2 f3 f4 f5) lo R.push name (by omega) (by omega);revert h;cases hu:uMk nm vis name with
    | error c=>intro h; simp only [NN] at h; rw [h]; rfl
    | ok x =>
     obtain ⟨nm1,vis1,v⟩:=x;rintro ⟨d1,h,R1,hp1,hl1⟩;rw [h];simp only [Option.bind_some,eb3];have h2:=loopS s0 s1 s3 s4 s5 s6 s7 s8 s9 s10 v l 0 [] nm1 vis1 sc d1 lo (by omega) (by simp; omega) (by omega) (by omega) (by omega) R1;revert h2;cases uSs p f2 f3 lo nm1 vis1 l with
     | error c=>intro h2; exact h2
     | ok x =>
      obtain ⟨nm2,vis2,l'⟩:=x;rintro ⟨h2,hp2,hl2⟩;exact ⟨by rw [h2]; simp,hp1.trans hp2,by omega⟩
  ·intro l hl name s0 s1 s2 s3 s4 nm vis sc lo hnm hsc hlo R;show NB (f1012148_b k (fam105 k m) (.mk (.mk p) (.mk f0 f1 f2 f3 f4 f5) nm sc lo) name l (.mk s0 s1 s2 s3 s4)) _ _ _ _ _ _ _ _;rw [uI_eq];unfold f1012148_b f1012148_j1;simp only;rw [guard_le (by unfold maxB; omega)];cases hn:seq name ⟨#[]⟩ with
   | true =>
    simp only [Bool.not_true,cond_false,cond_true,eb3];have h:=loopC s0 s1 s3 s4 s2 l 0 [] nm vis sc [] lo (by omega) (by simp; omega) (by omega) (by omega) (by omega) R.push;revert h;cases uSs p f2 f3 lo nm vis l with
    | error c=>intro h; exact h
    | ok x =>
     obtain ⟨nm1,vis1,l'⟩:=x;rintro ⟨h,hp1,hl1⟩;exact ⟨by rw [h]; simp,hp1,by omega⟩
   | false =>
    simp only [Bool.not_false,cond_true,cond_false];have h:=opt_make k p (.mk f0 f1 f2 f3 f4 f5) lo R.push name (by omega) (by omega);revert h;cases hu:uMk nm vis name with
    | error c=>intro h; simp only [NN] at h; rw [h]; rfl
    | ok x =>
     obtain ⟨nm1,vis1,v⟩:=x;rintro ⟨d1,h,R1,hp1,hl1⟩;rw [h];simp only [Option.bind_some,eb3];have h2:=loopC s0 s1 s3 s4 v l 0 [] nm1 vis1 sc d1 lo (by omega) (by simp; omega) (by omega) (by omega) (by omega) R1;revert h2;cases uSs p f2 f3 lo nm1 vis1 l with
     | error c=>intro h2; exact h2
     | ok x =>
      obtain ⟨nm2,vis2,l'⟩:=x;rintro ⟨h2,hp2,hl2⟩;exact ⟨by rw [h2]; simp,hp1.trans hp2,by omega⟩
  ·intro l hl nm vis sc lo hnm hsc hlo R;show NB (f1012366_b k (fam105 k m) (.mk (.mk p) (.mk f0 f1 f2 f3 f4 f5) nm sc lo) ⟨#[]⟩ l) _ _ _ _ _ _ _ _;unfold f1012366_b;simp only;rw [w64_nat (x:=(lo:Int) + 1) (n:=lo + 1) (by omega) (by omega)];have h:=ihb l (by omega) nm vis sc (lo + 1) (by omega) (by omega) (by omega) R;revert h;cases uB p f2 f3 (lo + 1) nm vis l with
   | error c=>intro h; simp only [NB] at h; rw [h]; rfl
   | ok x =>
    obtain ⟨nm1,vis1,l'⟩:=x;rintro ⟨h,hp1,hl1⟩;rw [h];simp only [Option.bind_some];rw [w64_nat (x:=((lo + 1:Nat):Int) - 1) (n:=lo) (by omega) (by omega)];exact ⟨rfl,hp1,hl1⟩
  ·intro l hl name s0 s1 s2 s3 s4 s5 s6 s7 s8 s9 s10 nm vis sc lo hnm hsc hlo R;show NB (f1012352_b k (fam105 k m) (.mk (.mk p) (.mk f0 f1 f2 f3 f4 f5) nm sc lo) name l (.mk s0 s1 s2 s3 s4 s5 s6 s7 s8 s9 s10)) _ _ _ _ _ _ _ _;unfold f1012352_b;simp only;rw [w64_nat (x:=(lo:Int) + 1) (n:=lo + 1) (by omega) (by omega)];have h:=ihi l (by omega) name s0 s1 s2 s3 s4 s5 s6 s7 s8 s9 s10 nm vis sc (lo + 1) (by omega) (by omega) (by omega) R;revert h;cases uI p f2 f3 (lo + 1) nm vis name s2 l with
   | error c=>intro h; simp only [NB] at h; rw [h]; rfl
   | ok x =>
    obtain ⟨nm1,vis1,l'⟩:=x;rintro ⟨h,hp1,hl1⟩;rw [h];simp only [Option.bind_some];rw [w64_nat (x:=((lo + 1:Nat):Int) - 1) (n:=lo) (by omega) (by omega)];exact ⟨rfl,hp1,hl1⟩
def RR {β:Type} (r:Option (Dlook × β)) (p:List DFunc) (f:DFunc) (lo:Nat) (er:Int) (nm:List ByteArray) (vis:List Nat) (u:Ex (List ByteArray × List Nat × β)) (n:Nat):Prop :=
 ∃ nm' vis' er' y,r=some (.mk p f nm' (vI vis') lo er',y)∧nm <+: nm'∧vis <+: vis'∧okV nm' vis'∧nm'.length≤nm.length + n∧vis'.length≤vis.length + n∧(er ≠ 0→er'=er) ∧
  (er=0→match u with | .error c=>er'=c∧c ≠ 0 | .ok (a,b,x)=>er'=0∧nm'=a∧vis'=b∧y=x)
def RB {β:Type} (r:Option (Dlook × β)) (p:List DFunc) (f:DFunc) (lo:Nat) (er:Int) (nm:List ByteArray) (vis:List Nat) (u:Ex (List ByteArray × List Nat × β)) (n:Nat):Prop :=
 ∃ nm' er' y,r=some (.mk p f nm' (vI vis) lo er',y)∧nm <+: nm'∧okV nm' vis∧nm'.length≤nm.length + n∧(er ≠ 0→er'=er) ∧
  (er=0→match u with | .error c=>er'=c∧c ≠ 0 | .ok (a,_,x)=>er'=0∧nm'=a∧y=x)
section
variable {β γ:Type} {p:List DFunc} {f:DFunc} {lo:Nat} {er:Int} {nm:List ByteArray} {vis:List Nat}
theorem RR.bind {r:Option (Dlook × β)} {F:Dlook × β→Option (Dlook × γ)} {u:Ex (List ByteArray × List Nat × β)} {n1 n2:Nat} {K:List ByteArray→List Nat→β→Ex (List ByteArray × List Nat × γ)}
  (h1:RR r p f lo er nm vis u n1)
  (h2 : ∀ nm1 vis1 er1 y,nm <+: nm1→vis <+: vis1→okV nm1 vis1→nm1.length≤nm.length + n1→vis1.length≤vis.length + n1→RR (F (.mk p f nm1 (vI vis1) lo er1,y)) p f lo er1 nm1 vis1 (K nm1 vis1 y) n2) :
  RR (r.bind F) p f lo er nm vis (eb3 u K) (n1 + n2):=by
 obtain ⟨nm1,vis1,er1,y,rfl,hp,hv,hok,hl,hl2,he,h0⟩:=h1;obtain ⟨nm2,vis2,er2,z,hz,hp',hv',hok',hl',hl2',he',h0'⟩:=h2 nm1 vis1 er1 y hp hv hok hl hl2;refine ⟨nm2,vis2,er2,z,hz,hp.trans hp',hv.trans hv',hok',by omega,by omega,fun h=>?_,fun h=>?_⟩
 ·rw [he' (by rw [he h]; exact h),he h]
 ·have h0:=h0 h;cases u with
  | error c =>
   obtain ⟨rfl,hc⟩:=h0;exact ⟨he' hc,hc⟩
  | ok x =>
   obtain ⟨a,b,x⟩:=x;obtain ⟨rfl,rfl,rfl,rfl⟩:=h0;exact h0' rfl
theorem RB.bind {r:Option (Dlook × β)} {F:Dlook × β→Option (Dlook × γ)} {u:Ex (List ByteArray × List Nat × β)} {n1 n2:Nat} {K:List ByteArray→β→Ex (List ByteArray × List Nat × γ)}
  (h1:RB r p f lo er nm vis u n1)
  (h2 : ∀ nm1 er1 y,nm <+: nm1→okV nm1 vis→nm1.length≤nm.length + n1→RR (F (.mk p f nm1 (vI vis) lo er1,y)) p f lo er1 nm1 vis (K nm1 y) n2) :
  RR (r.bind F) p f lo er nm vis (eb3 u fun a _ x=>K a x) (n1 + n2):=by
 obtain ⟨nm1,er1,y,rfl,hp,hok,hl,he,h0⟩:=h1;obtain ⟨nm2,vis2,er2,z,hz,hp',hv',hok',hl',hl2',he',h0'⟩:=h2 nm1 er1 y hp hok hl;refine ⟨nm2,vis2,er2,z,hz,hp.trans hp',hv',hok',by omega,by omega,fun h=>?_,fun h=>?_⟩
 ·rw [he' (by rw [he h]; exact h),he h]
 ·have h0:=h0 h;cases u with
  | error c =>
   obtain ⟨rfl,hc⟩:=h0;exact ⟨he' hc,hc⟩
  | ok x =>
   obtain ⟨a,b,x⟩:=x;obtain ⟨rfl,rfl,rfl⟩:=h0;exact h0' rfl
theorem RR.done (hv:okV nm vis) (y:β) (n:Nat):RR (some (.mk p f nm (vI vis) lo er,y)) p f lo er nm vis (.ok (nm,vis,y)) n :=
 ⟨nm,vis,er,y,rfl,List.prefix_refl _,List.prefix_refl _,hv,by omega,by omega,fun _=>rfl,fun h=>⟨h,rfl,rfl,rfl⟩⟩
theorem RR.le {r:Option (Dlook × β)} {u:Ex (List ByteArray × List Nat × β)} {n m:Nat} (h:RR r p f lo er nm vis u n) (hn:n≤m):RR r p f lo er nm vis u m:=by
 obtain ⟨nm1,vis1,er1,y,hr,hp,hv,hok,hl,hl2,he,h0⟩:=h;exact ⟨nm1,vis1,er1,y,hr,hp,hv,hok,by omega,by omega,he,h0⟩
theorem RR.fail {r:Option (Dlook × β)} {u:Ex (List ByteArray × List Nat × β)} {n:Nat} {b:Bool} {c:Int} (hc:c ≠ 0) (h:RR r p f lo (failI er b c) nm vis u n):RR r p f lo er nm vis (uD b c u) n:=by
 obtain ⟨nm1,vis1,er1,y,hr,hp,hv,hok,hl,hl2,he,h0⟩:=h;refine ⟨nm1,vis1,er1,y,hr,hp,hv,hok,hl,hl2,fun h=>?_,fun h=>?_⟩
 ·have e:failI er b c=er:=by unfold failI; rw [show (er == 0)=false by simpa using h]; simp only [Bool.and_false,cond_false]
  rw [e] at he; exact he h
 ·subst h;cases b with
  | true=>exact h0 rfl
  | false=>exact ⟨he hc,hc⟩
end
theorem vI_snoc (vis:List Nat) (n:Nat):vI vis ++ [(n:Int)]=vI (vis ++ [n]):=by simp [vI]
theorem vI_take (vis vis' : List Nat) (h:vis <+: vis'):(vI vis').take ((vI vis).length:Int).toNat=vI vis:=by
 obtain ⟨t,rfl⟩:=h;simp [vI]
theorem vI_len (vis:List Nat):(vI vis).length=vis.length:=by simp [vI]
theorem slotI_neg (o:Option Nat):decide (slotI o < 0)=o.isNone:=by cases o <;> simp [slotI]
theorem make_ref (k:Nat) (p:List DFunc) (f:DFunc) (lo:Nat) (er:Int) {nm:List ByteArray} {vis:List Nat} (hv:okV nm vis) (a:ByteArray) (h1:nm.length≤1000000) (h2:vis.length≤1000000) :
  RR (f83 k (.mk p f nm (vI vis) lo er) a) p f lo er nm vis (uMk nm vis a) 1:=by
 obtain ⟨f0,f1,f2,f3,f4,f5⟩:=f;unfold f83 f83_b;simp only;rw [f106_eq k p (.mk f0 f1 f2 f3 f4 f5) nm vis lo er a hv];simp only [Option.bind_some,f85_eq];rw [guard_le (by unfold maxB; omega),guard_le (by unfold maxB; rw [vI_len]; omega),vI_snoc,slotI_neg];refine ⟨nm ++ [a],vis ++ [nm.length],_,_,rfl,⟨[a],rfl⟩,⟨[nm.length],rfl⟩,?_,by simp,by simp,fun h=>?_,fun h=>?_⟩
 ·intro v hv';rcases List.mem_append.1 hv' with h | h
  ·have:=hv v h; simp; omega
  ·simp at h; subst h; simp
 ·unfold failI; rw [show (er == 0)=false by simpa using h,Bool.and_false]; rfl
 ·subst h;unfold uMk;cases slotOf nm vis a with
  | some v=>exact ⟨rfl,by decide⟩
  | none=>exact ⟨rfl,rfl,rfl,rfl⟩
theorem int_beq_comm (a b:Int):(a == b)=(b == a):=by rw [Bool.eq_iff_iff,beq_iff_eq,beq_iff_eq]; exact eq_comm
theorem f45_fd (k:Nat) (a:ByteArray) : ∀ (l:List DFunc) (i:Nat),f45_l1 k a l i=fdL a l i
 | [],i=>rfl
 | .mk e0 e1 e2 e3 e4 e5 :: l,i=>by
  unfold f45_l1 fdL;rw [f45_fd k a l (i + 1)]
theorem f45_spec' (k:Nat) (op:Int) (fr:ByteArray) (na:Nat) (l:List DFunc) (pre:List DFunc) : ∃ r,f45_l1 k fr l pre.length=some r ∧
  ((r=-1∧uCall op fr na l pre.length=.error 20)∨(∃ (j:Nat) (g0:ByteArray) (g1:List DParam) (g2:Int) (g3:Bool) (g4:Int) (g5:List DStmt),r=(j:Int)∧(pre ++ l)[j]?=some (.mk g0 g1 g2 g3 g4 g5) ∧
   uCall op fr na l pre.length=cond (g3 == (op == 28)) (cond ((g1.length:Int) == (na:Int)) (.ok (j:Int)) (.error 24)) (.error 25))):=by
 rw [f45_fd];exact fd_spec op fr na l pre
def okE {α:Type} (u:Ex α) (er:Int) (y:α):Prop:=match u with | .error c=>er=c∧c ≠ 0 | .ok x=>er=0∧y=x
section
variable {α β γ:Type} {p:List DFunc} {f:DFunc} {lo:Nat} {er:Int} {nm:List ByteArray} {vis:List Nat}
theorem RR.eb {r:Option (Dlook × γ)} {u:Ex α} {T:α→Ex (List ByteArray × List Nat × γ)} {n:Nat} {er1:Int} {y:α} (he:er ≠ 0→er1=er) (h0:er=0→okE u er1 y)
  (h:RR r p f lo er1 nm vis (T y) n):RR r p f lo er nm vis (Go.Proofs.YtoajecnoffhlbaaGreatDoor.eb u T) n:=by
 obtain ⟨nm2,vis2,er2,z,hz,hp',hv',hok',hl',hl2',he',h0'⟩:=h;refine ⟨nm2,vis2,er2,z,hz,hp',hv',hok',hl',hl2',fun h=>?_,fun h=>?_⟩
 ·rw [he' (by rw [he h]; exact h),he h]
 ·have h0:=h0 h;cases u with
  | error c =>
   obtain ⟨rfl,hc⟩:=h0;exact ⟨he' hc,hc⟩
  | ok x =>
   obtain ⟨rfl,rfl⟩:=h0;exact h0' rfl
theorem RR.any {r:Option (Dlook × γ)} {u u' : Ex (List ByteArray × List Nat × γ)} {n:Nat} (h:RR r p f lo er nm vis u n) (he:er ≠ 0):RR r p f lo er nm vis u' n:=by
 obtain ⟨nm2,vis2,er2,z,hz,hp',hv',hok',hl',hl2',he',h0'⟩:=h;exact ⟨nm2,vis2,er2,z,hz,hp',hv',hok',hl',hl2',he',fun h=>absurd h he⟩
theorem RR.congr {r r' : Option (Dlook × γ)} {u:Ex (List ByteArray × List Nat × γ)} {n:Nat} (e:r=r') (h:RR r' p f lo er nm vis u n):RR r p f lo er nm vis u n:=e ▸ h
end
theorem uEs_len {nm:List ByteArray} {vis:List Nat} : ∀ {l x:List DExpr},uEs nm vis l=.ok x→x.length=l.length
 | [],x,h=>by cases h; rfl
 | e :: l,x,h=>by
  unfold uEs at h;cases he:uE nm vis e with
  | error c=>rw [he] at h; cases h
  | ok e' =>
   rw [he] at h;cases hl:uEs nm vis l with
   | error c=>rw [hl] at h; cases h
   | ok y=>rw [hl] at h; cases h; simp [uEs_len hl]
theorem f126_eq (k:Nat) (op:Int):f126 k op=some (op == 1 || op == 3 || op == 4 || op == 5 || op == 6 || op == 7 || op == 8 || op == 9):=by
 unfold f126 f126_b f126_j1;cases (op == 1) <;> cases (op == 3) <;> cases (op == 4) <;> cases (op == 5) <;> cases (op == 6) <;> cases (op == 7) <;> cases (op == 8) <;> cases (op == 9) <;> rfl
theorem optcall (k:Nat) (p:List DFunc) (f:DFunc) (lo:Nat) (er:Int) {nm:List ByteArray} {vis:List Nat} (hv:okV nm vis) (op:Int) (name:ByteArray) (s2:Int) (fr:ByteArray) (s4 flag:Int) (l6:List DExpr) (l7 l8 l9:List DStmt) (l10:List DCase) :
  ∃ er1 ix,(∀ {γ:Type} (J:Dlook × Int→Option γ),cond (!seq fr ⟨#[]⟩) ((f125 k (.mk p f nm (vI vis) lo er) (.mk op name s2 fr s4 flag l6 l7 l8 l9 l10)).bind J) (J (.mk p f nm (vI vis) lo er,s4))=J (.mk p f nm (vI vis) lo er1,ix)) ∧
   (er ≠ 0→er1=er)∧(er=0→okE (cond (seq fr ⟨#[]⟩) (.ok s4) (uCall op fr l6.length p 0)) er1 ix):=by
 cases seq fr ⟨#[]⟩ with
 | true=>exact ⟨er,s4,fun J=>rfl,fun _=>rfl,fun h=>⟨h,rfl⟩⟩
 | false =>
  obtain ⟨f0,f1,f2,f3,f4,f5⟩:=f;have hc : ∃ er1 ix,f125 k (.mk p (.mk f0 f1 f2 f3 f4 f5) nm (vI vis) lo er) (.mk op name s2 fr s4 flag l6 l7 l8 l9 l10)=some (.mk p (.mk f0 f1 f2 f3 f4 f5) nm (vI vis) lo er1,ix)∧(er ≠ 0→er1=er) ∧
    (er=0→okE (uCall op fr l6.length p 0) er1 ix):=by
   unfold f125 f125_b f45 f45_b;simp only;obtain ⟨r,h1,h2⟩:=f45_spec' k op fr l6.length p [];simp only [List.length_nil,List.nil_append] at h1 h2;rw [h1];simp only [Option.bind_some,f85_eq];rcases h2 with ⟨rfl,h2⟩ | ⟨j,g0,g1,g2,g3,g4,g5,rfl,h3,h2⟩
   ·rw [h2];refine ⟨failI er false 20,0,rfl,fun h=>?_,fun h=>?_⟩
    ·unfold failI; rw [show (er == 0)=false by simpa using h]; rfl
    ·subst h; exact ⟨rfl,by decide⟩
   ·rw [h2];have:idxO p (j:Int)=some (.mk g0 g1 g2 g3 g4 g5):=by unfold idxO; rw [if_pos (by omega)]; simpa using h3
    have hj:decide ((j:Int) < 0)=false:=by simp
    rw [this,hj,int_beq_comm (g1.length:Int)];simp only [cond_false,Option.bind_some,f85_eq,this];refine ⟨_,_,rfl,fun h=>?_,fun h=>?_⟩
    ·unfold failI;rw [show (er == 0)=false by simpa using h]; simp only [Bool.and_false,cond_false]
     rw [show (er == 0)=false by simpa using h]; simp only [Bool.and_false,cond_false]
    ·subst h;cases (g3 == (op == 28)) <;> cases ((l6.length:Int) == (g1.length:Int)) <;> first | exact ⟨rfl,by decide⟩ | exact ⟨rfl,rfl⟩
  obtain ⟨er1,ix,h1,h2,h3⟩:=hc;exact ⟨er1,ix,fun J=>by rw [h1]; rfl,h2,h3⟩
theorem node_plain {op:Int} {name fr:ByteArray} {flag:Int} {n6 n7 n8 n9 n10:Nat} (h:nodeS op name fr flag n6 n7 n8 n9 n10=true) (h1:1≤op) (h2:op≤16) (h3:op ≠ 2) :
  n7=0∧n8=0∧((op == 1 || op == 3 || op == 4 || op == 5 || op == 6 || op == 7 || op == 8 || op == 9)=true∨seq name ⟨#[]⟩=true):=by
 have:op=1∨op=3∨op=4∨op=5∨op=6∨op=7∨op=8∨op=9∨op=10∨op=11∨op=12∨op=13∨op=14∨op=15∨op=16:=by omega
 rcases this with rfl | rfl | rfl | rfl | rfl | rfl | rfl | rfl | rfl | rfl | rfl | rfl | rfl | rfl | rfl <;>
  simp [nodeS,shp,nameR,fromR,flagR,casesR] at h ⊢ <;> simp_all <;> omega
theorem node_range {op:Int} {name fr:ByteArray} {flag:Int} {n6 n7 n8 n9 n10:Nat} (h:nodeS op name fr flag n6 n7 n8 n9 n10=true):1≤op∧op≤29:=by
 refine Decidable.byContradiction fun hc=>?_
 rw [nodeS,shp_none (by omega)] at h;cases h
theorem rRS (k:Nat) (p:List DFunc) (f0:ByteArray) (f1:List DParam) (f2:Int) (f3:Bool) (f4:Int) (f5:List DStmt) : ∀ m,m≤k →
  (∀ s a,4 * szS s≤m→gS false s a=true→∀ (nm:List ByteArray) (vis:List Nat) (lo:Nat) (er:Int),okV nm vis→nm.length + szS s≤100000→vis.length + szS s≤100000→lo + szS s≤100000 →
   RR ((fam84 k m).f107 (.mk p (.mk f0 f1 f2 f3 f4 f5) nm (vI vis) lo er) s) p (.mk f0 f1 f2 f3 f4 f5) lo er nm vis (uS p f2 f3 lo nm vis s) (szS s)) ∧
  (∀ l a,4 * szSs l + 1≤m→gSs false l a=true→∀ (lp:Int) (ln:Nat),lp=(ln:Int)→∀ (nm:List ByteArray) (vis:List Nat) (lo:Nat) (er:Int),okV nm vis→nm.length + szSs l≤100000→vis.length + szSs l≤100000→lo + ln + szSs l≤100000 →
   RB ((fam84 k m).f84 (.mk p (.mk f0 f1 f2 f3 f4 f5) nm (vI vis) lo er) l lp) p (.mk f0 f1 f2 f3 f4 f5) lo er nm vis (uB p f2 f3 (lo + ln) nm vis l) (szSs l)) ∧
  (∀ l a,4 * szSs l + 2≤m→gSs false l a=true→∀ (name:ByteArray) (s2:Int),seq name ⟨#[]⟩=false→∀ (lp:Int) (ln:Nat),lp=(ln:Int)→∀ (nm:List ByteArray) (vis:List Nat) (lo:Nat) (er:Int),okV nm vis→nm.length + szSs l + 1≤100000→vis.length + szSs l + 1≤100000→lo + ln + szSs l≤100000 →
   RB ((fam84 k m).f127 (.mk p (.mk f0 f1 f2 f3 f4 f5) nm (vI vis) lo er) name l lp) p (.mk f0 f1 f2 f3 f4 f5) lo er nm vis (uI p f2 f3 (lo + ln) nm vis name s2 l) (szSs l + 1)) ∧
  (∀ c a,4 * szC c≤m + 1→gC false c a=true→∀ (nm:List ByteArray) (vis:List Nat) (lo:Nat) (er:Int),okV nm vis→nm.length + szC c≤100000→vis.length + szC c≤100000→lo + szC c≤100000 →
   RB ((fam84 k m).f128 (.mk p (.mk f0 f1 f2 f3 f4 f5) nm (vI vis) lo er) c) p (.mk f0 f1 f2 f3 f4 f5) lo er nm vis (uC p f2 f3 lo nm vis c) (szC c))
 | 0,_=>⟨fun e a he=>by have:=szS_pos e; omega,fun l a hl=>by omega,fun l a hl=>by omega,fun c a hc=>by have:=szC_pos c; omega⟩
 | m + 1,hmk=>by
  obtain ⟨ihs,ihb,ihi,ihc⟩:=rRS k p f0 f1 f2 f3 f4 f5 m (by omega);refine ⟨?_,?_,?_,?_⟩
  ·intro s a hm hg nm vis lo er hv hnm hvis hlo;obtain ⟨op,name,s2,fr,s4,flag,l6,l7,l8,l9,l10⟩:=s;simp only [szS] at hm hnm hvis hlo ⊢;simp only [gS,Bool.and_eq_true,Bool.false_or] at hg;obtain ⟨⟨⟨_,hslot⟩,hnode⟩,hg6,hg7,hg8,hg9,hg10⟩:=hg;have hrange:=node_range hnode;show RR (f107_b k (fam84 k m) (.mk p (.mk f0 f1 f2 f3 f4 f5) nm (vI vis) lo er) (.mk op name s2 fr s4 flag l6 l7 l8 l9 l10)) p _ lo er nm vis _ _;unfold f107_b;simp only;rw [uS];obtain ⟨r6,h1,h2⟩:=f124_eq k p (.mk f0 f1 f2 f3 f4 f5) lo er hv l6 (a + 1) (by omega) (by omega) hg6;rw [h1];simp only [Option.bind_some];have hen:er ≠ 0→errI er (uEs nm vis l6)=er:=fun h=>by unfold errI; rw [show (er == 0)=false by simpa using h]; rfl
   have hez:er=0→okE (uEs nm vis l6) (errI er (uEs nm vis l6)) r6:=by
    intro h; subst h
    cases hu:uEs nm vis l6 with
    | error c=>obtain rfl:=uEs_20 hu; exact ⟨rfl,by decide⟩
    | ok x=>exact ⟨rfl,h2 x hu⟩
   have hlen:errI er (uEs nm vis l6)=0→r6.length=l6.length:=by
    intro h;by_cases her:er=0
    ·have h0:=hez her;revert h0;cases hu:uEs nm vis l6 with
     | error c=>rw [hu] at h; rintro ⟨h',hc⟩; exact absurd (h'.symm.trans h) hc
     | ok x=>rintro ⟨_,rfl⟩; exact uEs_len hu
    ·exact absurd (hen her ▸ h) her
   refine RR.eb (y:=r6) hen hez ?_;generalize errI er (uEs nm vis l6)=er1 at hlen;obtain ⟨er2,ix,hc,hec,hcz⟩:=optcall k p (.mk f0 f1 f2 f3 f4 f5) lo er1 hv op name s2 fr s4 flag r6 l7 l8 l9 l10;refine RR.congr (hc fun q_=>match q_ with | (.mk z0 (.mk z10 z11 z12 z13 z14 z15) z2 z3 z4 z5,r)=>f107_j1 k (fam84 k m) op name s2 fr flag l7 l8 l9 l10 r6 z0 z10 z11 z12 z13 z14 z15 z2 z3 z4 z5 r) ?_;have hlen2:er2=0→r6.length=l6.length:=by
    intro h;by_cases her:er1=0
    ·exact hlen her
    ·exact absurd (hec her ▸ h) her
   by_cases h27:op=27
   ·subst h27;have hn:=hnode;unfold nodeS at hn;rw [show shp 27=some (0,false,0,0,false,0) from rfl] at hn;simp only [fromR,cond_false,Bool.and_eq_true] at hn;have hfr:=hn.2.1.1.1.2;rw [hfr] at hcz;obtain rfl:er2=er1:=by
     by_cases h:er1=0
     ·rw [(hcz h).1,h]
     ·exact hec h
    have loop : ∀ (l:List DCase) (i:Nat) (xs:List DCase) (nm:List ByteArray) (er:Int),4 * szCs l≤m + 1→gCs false l (a + 1)=true→okV nm vis→xs.length + szCs l≤100000→nm.length + szCs l≤100000→vis.length + szCs l≤100000→lo + szCs l≤100000 →
      ∃ nm' er' y,f107_l1 k (fam84 k m) 27 name fr flag l7 l8 l9 r6 ix s2 l i p f0 f1 f2 f3 f4 f5 nm (vI vis) lo er xs=some (.mk p (.mk f0 f1 f2 f3 f4 f5) nm' (vI vis) lo er',.mk 27 name s2 fr ix flag r6 l7 l8 l9 y)∧nm <+: nm'∧okV nm' vis∧nm'.length≤nm.length + szCs l∧(er ≠ 0→er'=er) ∧
       (er=0→match uCs p f2 f3 lo nm vis l with | .error c=>er'=c∧c ≠ 0 | .ok (b,_,x)=>er'=0∧nm'=b∧y=xs ++ x):=by
     intro l;induction l with
     | nil =>
      intro i xs nm er _ _ hv _ _ _ _;exact ⟨nm,er,xs,rfl,List.prefix_refl _,hv,by omega,fun _=>rfl,fun h=>by rw [uCs]; exact ⟨h,rfl,by simp⟩⟩
     | cons c l ih =>
      intro i xs nm er hm hg hv hxs hnm hvis hlo;obtain ⟨e0,e1,e2,e3,e4⟩:=c;have hp0:=szC_pos (.mk e0 e1 e2 e3 e4);simp only [szCs] at hm hxs hnm hvis hlo ⊢;simp only [gCs,Bool.and_eq_true] at hg;unfold f107_l1;rw [uCs];obtain ⟨nm1,er1,y,hr,hp1,hok1,hl1,he,h0⟩:=ihc (.mk e0 e1 e2 e3 e4) (a + 1) (by omega) hg.1.2 nm vis lo er hv (by omega) (by omega) (by omega);rw [hr];obtain ⟨r0,r1,r2,r3,r4⟩:=y;simp only [Option.bind_some];rw [guard_le (by unfold maxB; omega)];obtain ⟨nm2,er2,z,hr2,hp2,hok2,hl3,he2,h02⟩:=ih (i + 1) (xs ++ [.mk r0 r1 r2 r3 r4]) nm1 er1 (by omega) hg.2 hok1 (by rw [app_len]; omega) (by omega) (by omega) (by omega);refine ⟨nm2,er2,z,hr2,hp1.trans hp2,hok2,by omega,fun h=>?_,fun h=>?_⟩
      ·rw [he2 (by rw [he h]; exact h),he h]
      ·have h0:=h0 h;revert h0;cases uC p f2 f3 lo nm vis (.mk e0 e1 e2 e3 e4) with
       | error c =>
        rintro ⟨rfl,hc⟩;exact ⟨he2 hc,hc⟩
       | ok x =>
        obtain ⟨b,v,x⟩:=x;rintro ⟨rfl,rfl,rfl⟩;have h02:=h02 rfl;revert h02;simp only [eb3];cases uCs p f2 f3 lo nm1 vis l with
        | error c=>exact id
        | ok x =>
         obtain ⟨b,v,x⟩:=x;rintro ⟨rfl,rfl,rfl⟩;exact ⟨rfl,rfl,by simp⟩
    obtain ⟨nm',er',y,hr,hp,hok,hl,he,h0⟩:=loop l10 0 [] nm er2 (by omega) hg10 hv (by simp; omega) (by omega) (by omega) (by omega);unfold f107_j1 f107_j6 f107_j2 f107_j4;simp only [f126_eq,Int.reduceBEq,Bool.or_false,cond_false,cond_true,Option.bind_some];refine ⟨nm',vis,er',_,hr,hp,List.prefix_refl _,hok,by omega,by omega,he,fun h=>?_⟩;have h0:=h0 h;revert h0;cases uCs p f2 f3 lo nm vis l10 with
    | error c=>exact id
    | ok x =>
     obtain ⟨b,v,x⟩:=x;rintro ⟨rfl,rfl,rfl⟩;refine ⟨rfl,rfl,rfl,?_⟩;rw [(hcz h).2]
   ·rw [show (op == 27)=false by simpa using h27];simp only [cond_false];refine RR.eb (y:=ix) hec hcz ?_;generalize er2=er3 at hlen2;unfold f107_j1 f107_j6;simp only [f126_eq,Option.bind_some];by_cases h2' : op=2
    ·subst h2';unfold f107_j2 f107_j3;simp only [Int.reduceBEq,Bool.or_false,cond_false,cond_true];rw [f106_eq k p (.mk f0 f1 f2 f3 f4 f5) nm vis lo er3 name hv];simp only [Option.bind_some,f85_eq];cases slotOf nm vis name with
     | none=>exact RR.fail (u:=.ok (nm,vis,_)) (b:=false) (by decide) (RR.done hv _ _)
     | some v=>exact RR.fail (u:=.ok (nm,vis,_)) (b:=true) (c:=20) (by decide) (RR.done hv _ _)
    ·rw [show (op == 2)=false by simpa using h2'];simp only [cond_false];have rest : ∀ (o:Int),o=op→17≤o→RR (f107_j2 k (fam84 k m) o name fr flag l7 l8 l9 l10 r6 ix p f0 f1 f2 f3 f4 f5 nm (vI vis) lo er3 s2) p (.mk f0 f1 f2 f3 f4 f5) lo er3 nm vis
       (cond (o == 18 || o == 19) (uD (decide (lo > 0)) 22 (.ok (nm,vis,.mk o name s2 fr ix flag r6 l7 l8 l9 l10)))
       (cond (o == 29) (uD f3 22 (.ok (nm,vis,.mk o name s2 fr ix flag r6 l7 l8 l9 l10)))
       (cond (o == 17) (uD ((decide (r6.length > 0)) == (f2 != 0)) 22 (.ok (nm,vis,.mk o name s2 fr ix flag r6 l7 l8 l9 l10)))
       (cond (o == 21) (eb3 (uB p f2 f3 (lo + 1) nm vis l7) fun nm1 _ b=>.ok (nm1,vis,.mk o name s2 fr ix flag r6 b l8 l9 l10))
       (cond (o == 28) (eb3 (uI p f2 f3 (lo + 1) nm vis name s2 l7) fun nm1 _ vb=>.ok (nm1,vis,.mk o name vb.1 fr ix flag r6 vb.2 l8 l9 l10))
       (cond (o == 25) (eb3 (uI p f2 f3 lo nm vis name s2 l7) fun nm1 _ vb=>.ok (nm1,vis,.mk o name vb.1 fr ix flag r6 vb.2 l8 l9 l10))
       (cond (o == 24) (eb3 (uB p f2 f3 lo nm vis l7) fun nm1 _ b7=>eb3 (uI p f2 f3 lo nm1 vis name s2 l8) fun nm2 _ vb=>eb3 (uB p f2 f3 lo nm2 vis l9) fun nm3 _ b9=>.ok (nm3,vis,.mk o name vb.1 fr ix flag r6 b7 vb.2 b9 l10))
       (cond (o == 20 || o == 22 || o == 23 || o == 26) (eb3 (uB p f2 f3 lo nm vis l7) fun nm1 _ b7=>eb3 (uB p f2 f3 lo nm1 vis l8) fun nm2 _ b8=>.ok (nm2,vis,.mk o name s2 fr ix flag r6 b7 b8 l9 l10))
        (eb3 (cond (seq name ⟨#[]⟩) (.ok (nm,vis,s2)) (uMk nm vis name)) fun nm1 vis1 v=>uD (o != 6 || flag == 0 || decide (lo > 0)) 22 (.ok (nm1,vis1,.mk o name v fr ix flag r6 l7 l8 l9 l10)))))))))))
       (szEs l6 + szSs l7 + szSs l8 + szSs l9 + szCs l10 + 1):=by
      intro o ho hge;have hoe:o=17∨o=18∨o=19∨o=20∨o=21∨o=22∨o=23∨o=24∨o=25∨o=26∨o=28∨o=29:=by omega
      rw [← ho] at hnode;clear ho h27 h2' hrange hcz hc hslot;have blocks : ∀ (P:Option (Dlook × DStmt)),P=((fam84 k m).f84 (.mk p (.mk f0 f1 f2 f3 f4 f5) nm (vI vis) lo er3) l7 0).bind (fun q_=>match q_ with | (.mk z3118_0 (.mk z3118_1_0 z3118_1_1 z3118_1_2 z3118_1_3 z3118_1_4 z3118_1_5) z3118_2 z3118_3 z3118_4 z3118_5,r3119)=>(((fam84 k m).f84 (Dlook.mk z3118_0 (DFunc.mk z3118_1_0 z3118_1_1 z3118_1_2 z3118_1_3 z3118_1_4 z3118_1_5) z3118_2 z3118_3 z3118_4 z3118_5) l8 0).bind fun q_=>match q_ with | (.mk z3151_0 (.mk z3151_1_0 z3151_1_1 z3151_1_2 z3151_1_3 z3151_1_4 z3151_1_5) z3151_2 z3151_3 z3151_4 z3151_5,r3152)=>(f107_j3 k (fam84 k m) o name fr flag r6 ix s2 r3119 r3152 l9 l10 z3151_0 z3151_1_0 z3151_1_1 z3151_1_2 z3151_1_3 z3151_1_4 z3151_1_5 z3151_2 z3151_3 z3151_4 z3151_5))) →
        RR P p (.mk f0 f1 f2 f3 f4 f5) lo er3 nm vis (eb3 (uB p f2 f3 lo nm vis l7) fun nm1 _ b7=>eb3 (uB p f2 f3 lo nm1 vis l8) fun nm2 _ b8=>.ok (nm2,vis,.mk o name s2 fr ix flag r6 b7 b8 l9 l10)) (szEs l6 + szSs l7 + szSs l8 + szSs l9 + szCs l10 + 1):=by
       rintro _ rfl;refine RR.le (RB.bind (n2:=szSs l8 + 0) (ihb l7 (a + 1) (by omega) hg7 0 0 rfl nm vis lo er3 hv (by omega) (by omega) (by omega)) fun nm1 er1 y hp1 hok1 hl1=>?_) (by omega);exact RB.bind (ihb l8 (a + 1) (by omega) hg8 0 0 rfl nm1 vis lo er1 hok1 (by omega) (by omega) (by omega)) fun nm2 er2 z hp2 hok2 hl2=>RR.done hok2 _ _
      rcases hoe with rfl | rfl | rfl | rfl | rfl | rfl | rfl | rfl | rfl | rfl | rfl | rfl <;> unfold f107_j2 f107_j4 <;> simp only [Int.reduceBEq,Bool.or_false,Bool.or_true,Bool.true_or,Bool.false_or,cond_false,cond_true,f85_eq,Option.bind_some,gt_nat]
      ·
       have hn:=hnode;unfold nodeS at hn;rw [show shp 17=some (0,false,0,1,false,0) from rfl] at hn;simp only [Bool.and_eq_true,decide_eq_true_eq] at hn;by_cases he3:er3=0
       ·have hl:=hlen2 he3;rw [show (decide (r6.length > 0))=((r6.length:Int) == 1) by rw [Bool.eq_iff_iff]; simp; omega];exact RR.fail (by decide) (RR.done hv _ _)
       ·exact RR.any (RR.fail (u:=.ok (nm,vis,_)) (by decide) (RR.done hv _ _)) he3
      ·exact RR.fail (by decide) (RR.done hv _ _)
      ·exact RR.fail (by decide) (RR.done hv _ _)
      ·exact blocks _ rfl
      ·refine RR.le (RB.bind (n2:=0) (ihb l7 (a + 1) (by omega) hg7 1 1 rfl nm vis lo er3 hv (by omega) (by omega) (by omega)) fun nm1 er1 y hp1 hok1 hl1=>RR.done hok1 _ _) (by omega)
      ·exact blocks _ rfl
      ·exact blocks _ rfl
      ·
       have hn:=hnode;unfold nodeS at hn;rw [show shp 24=some (2,false,0,0,true,3) from rfl] at hn;simp only [Bool.and_eq_true,flagR,Int.reduceBEq,cond_true,cond_false,Bool.false_and,Bool.true_and,Bool.false_or] at hn;obtain ⟨_,⟨_,⟨⟨hn8,_⟩,_,hnf⟩⟩,_⟩:=hn;refine RR.le (RB.bind (n2:=szSs l8 + 1 + (szSs l9 + 0)) (ihb l7 (a + 1) (by omega) hg7 0 0 rfl nm vis lo er3 hv (by omega) (by omega) (by omega)) fun nm1 er1 y hp1 hok1 hl1=>?_) (by omega);unfold f107_j5;cases hf:(flag.tmod 2 == 1) with
       | true =>
        rw [hf] at hnf;simp only [cond_true];refine RB.bind (K:=fun nm2 vb=>eb3 (uB p f2 f3 lo nm2 vis l9) fun nm3 _ b9=>.ok (nm3,vis,DStmt.mk 24 name vb.1 fr ix flag r6 y vb.2 b9 l10)) (ihi l8 (a + 1) (by omega) hg8 name s2 (by simpa using hnf) 0 0 rfl nm1 vis lo er1 hok1 (by omega) (by omega) (by omega)) fun nm2 er2 z hp2 hok2 hl2=>?_
        obtain ⟨v,b⟩:=z;exact RB.bind (ihb l9 (a + 1) (by omega) hg9 0 0 rfl nm2 vis lo er2 hok2 (by omega) (by omega) (by omega)) fun nm3 er3 w hp3 hok3 hl3=>RR.done hok3 _ _
       | false =>
        rw [hf] at hnf hn8;obtain rfl:l8=[]:=by simpa using hn8
        have hne:seq name ⟨#[]⟩=true:=by simpa using hnf
        simp only [cond_false];rw [uI,hne];simp only [cond_true,eb3];exact RR.le (RB.bind (n2:=0) (ihb l9 (a + 1) (by omega) hg9 0 0 rfl nm1 vis lo er1 hok1 (by omega) (by omega) (by omega)) fun nm3 er3 w hp3 hok3 hl3=>RR.done hok3 _ _) (by omega)
      ·
       have hn:=hnode;unfold nodeS at hn;rw [show shp 25=some (1,false,1,1,true,0) from rfl] at hn;simp only [Bool.and_eq_true,nameR,Int.reduceBEq,Bool.false_and,Bool.true_and,Bool.false_or,Bool.or_false] at hn;refine RR.le (RB.bind (n2:=0) (K:=fun nm1 vb=>.ok (nm1,vis,DStmt.mk 25 name vb.1 fr ix flag r6 vb.2 l8 l9 l10)) (ihi l7 (a + 1) (by omega) hg7 name s2 (isN_ne hn.2.1.1.1.1) 0 0 rfl nm vis lo er3 hv (by omega) (by omega) (by omega)) fun nm2 er2 z hp2 hok2 hl2=>?_) (by omega);obtain ⟨v,b⟩:=z;exact RR.done hok2 _ _
      ·exact blocks _ rfl
      ·
       have hn:=hnode;unfold nodeS at hn;rw [show shp 28=some (1,true,0,600,true,66) from rfl] at hn;simp only [Bool.and_eq_true,nameR,Int.reduceBEq,Bool.false_and,Bool.true_and,Bool.false_or,Bool.or_false] at hn;refine RR.le (RB.bind (n2:=0) (K:=fun nm1 vb=>.ok (nm1,vis,DStmt.mk 28 name vb.1 fr ix flag r6 vb.2 l8 l9 l10)) (ihi l7 (a + 1) (by omega) hg7 name s2 (isN_ne hn.2.1.1.1.1) 1 1 rfl nm vis lo er3 hv (by omega) (by omega) (by omega)) fun nm2 er2 z hp2 hok2 hl2=>?_) (by omega);obtain ⟨v,b⟩:=z;exact RR.done hok2 _ _
      ·exact RR.fail (by decide) (RR.done hv _ _)
     by_cases hge:17≤op
     ·have hmk0:(op == 1 || op == 3 || op == 4 || op == 5 || op == 6 || op == 7 || op == 8 || op == 9)=false:=by
       rw [← Bool.not_eq_true]; simp; omega
      rw [hmk0];exact rest op rfl hge
     ·obtain ⟨hn7,hn8,hnm'⟩:=node_plain hnode hrange.1 (by omega) h2';obtain rfl:l7=[]:=by simpa using hn7
      obtain rfl:l8=[]:=by simpa using hn8
      have e : ∀ c:Int,17≤c→(op == c)=false:=fun c hc=>by simp; omega
      have e2:(op == 2)=false:=by simpa using h2'
      simp only [e 18 (by decide),e 19 (by decide),e 29 (by decide),e 17 (by decide),e 21 (by decide),e 28 (by decide),e 25 (by decide),e 24 (by decide),e 20 (by decide),e 22 (by decide),e 23 (by decide),e 26 (by decide),Bool.or_false,cond_false];have fin : ∀ (nm1:List ByteArray) (vis1:List Nat) (er1 v:Int),okV nm1 vis1→nm1.length≤nm.length + 1→vis1.length≤vis.length + 1→RR (f107_j2 k (fam84 k m) op name fr flag [] [] l9 l10 r6 ix p f0 f1 f2 f3 f4 f5 nm1 (vI vis1) lo er1 v) p (.mk f0 f1 f2 f3 f4 f5) lo er1 nm1 vis1
        (uD (op != 6 || flag == 0 || decide (lo > 0)) 22 (.ok (nm1,vis1,.mk op name v fr ix flag r6 [] [] l9 l10))) 0:=by
       intro nm1 vis1 er1 v hok1 hl1 hl2;unfold f107_j2 f107_j4 f107_j3;simp only [e2,e 18 (by decide),e 19 (by decide),e 29 (by decide),e 17 (by decide),e 21 (by decide),e 28 (by decide),e 25 (by decide),e 24 (by decide),e 27 (by decide),cond_false,f85_eq,Option.bind_some,gt_nat];cases h6:(op == 6) with
       | true =>
        have:(op != 6)=false:=by simp [bne,h6]
        rw [this,Bool.false_or];cases hfl:(flag == 0) with
        | true=>exact RR.fail (b:=true) (by decide) (RR.done hok1 _ _)
        | false=>exact RR.fail (by decide) (RR.done hok1 _ _)
       | false =>
        have:(op != 6)=true:=by simp [bne,h6]
        rw [this,Bool.true_or,Bool.true_or];simp only [cond_false];obtain ⟨nm2,er2,y,hr2,hp2,hok2,hl3,he2,h02⟩:=ihb [] (a + 1) (by simp only [szSs]; omega) rfl 0 0 rfl nm1 vis1 lo er1 hok1 (by simp only [szSs]; omega) (by simp only [szSs]; omega) (by simp only [szSs]; omega);rw [hr2];simp only [Option.bind_some];obtain ⟨nm3,er3,z,hr3,hp3,hok3,hl3',he3,h03⟩:=ihb [] (a + 1) (by simp only [szSs]; omega) rfl 0 0 rfl nm2 vis1 lo er2 hok2 (by simp only [szSs] at hl3 ⊢; omega) (by simp only [szSs]; omega) (by simp only [szSs]; omega);rw [hr3];simp only [Option.bind_some];simp only [szSs] at hl3 hl3';refine ⟨nm3,vis1,er3,_,rfl,hp2.trans hp3,List.prefix_refl _,hok3,by omega,by omega,fun h=>?_,fun h=>?_⟩
        ·rw [he3 (by rw [he2 h]; exact h),he2 h]
        ·obtain ⟨rfl,rfl,rfl⟩:=h02 h;obtain ⟨rfl,rfl,rfl⟩:=h03 rfl;exact ⟨rfl,rfl,rfl,rfl⟩
      cases hne:seq name ⟨#[]⟩ with
      | true =>
       simp only [Bool.not_true,cond_false,cond_true,eb3];have:=fin nm vis er3 s2 hv (by omega) (by omega);cases (op == 1 || op == 3 || op == 4 || op == 5 || op == 6 || op == 7 || op == 8 || op == 9) <;> exact RR.le this (by omega)
      | false =>
       rw [hne] at hnm';rw [hnm'.resolve_right (by simp)];simp only [Bool.not_false,cond_true,cond_false];refine RR.le (RR.bind (n2:=0) (make_ref k p (.mk f0 f1 f2 f3 f4 f5) lo er3 hv name (by omega) (by omega)) fun nm1 vis1 er1 v hp1 hv1 hok1 hl1 hl2=>?_) (by omega);exact fin nm1 vis1 er1 v hok1 hl1 hl2
  ·intro l a hm hg lp ln hlp nm vis0 lo er hv0 hnm hvis hlo;subst hlp;show RB (f84_b k (fam84 k m) (.mk p (.mk f0 f1 f2 f3 f4 f5) nm (vI vis0) lo er) l ln) p _ lo er nm vis0 _ _;unfold f84_b;simp only;rw [w64_nat (x:=(lo:Int) + (ln:Int)) (n:=lo + ln) (by omega) (by omega),uB_eq];have loop : ∀ (l:List DStmt) (i:Nat) (xs:List DStmt) (nm:List ByteArray) (vis:List Nat) (er:Int),4 * szSs l≤m→gSs false l a=true→vis0 <+: vis→okV nm vis→xs.length + szSs l≤100000→nm.length + szSs l≤100000→vis.length + szSs l≤100000→lo + ln + szSs l≤100000 →
     ∃ nm' er' y,f84_l1 k (fam84 k m) (vI vis0) (ln:Int) l i p f0 f1 f2 f3 f4 f5 nm (vI vis) ((lo + ln:Nat):Int) er xs=some (.mk p (.mk f0 f1 f2 f3 f4 f5) nm' (vI vis0) lo er',y)∧nm <+: nm'∧okV nm' vis0∧nm'.length≤nm.length + szSs l∧(er ≠ 0→er'=er) ∧
      (er=0→match uSs p f2 f3 (lo + ln) nm vis l with | .error c=>er'=c∧c ≠ 0 | .ok (b,_,x)=>er'=0∧nm'=b∧y=xs ++ x):=by
    intro l;induction l with
    | nil =>
     intro i xs nm vis er _ _ hp hv _ _ _ _;unfold f84_l1;have hle:vis0.length≤vis.length:=hp.length_le;rw [show guardB (decide (0≤((vI vis0).length:Int)∧((vI vis0).length:Int)≤((vI vis).length:Int)))=fun (x:Option (Dlook × List DStmt))=>x from by
      rw [decide_eq_true (by rw [vI_len,vI_len]; omega)]; rfl]
     simp only;rw [vI_take vis0 vis hp,w64_nat (x:=((lo + ln:Nat):Int) - (ln:Int)) (n:=lo) (by omega) (by omega)];exact ⟨nm,er,xs,rfl,List.prefix_refl _,fun v hv'=>hv v (hp.subset hv'),by omega,fun _=>rfl,fun h=>by rw [uSs]; exact ⟨h,rfl,by simp⟩⟩
    | cons s l ih =>
     intro i xs nm vis er hm hg hp hv hxs hnm hvis hlo;obtain ⟨e0,e1,e2,e3,e4,e5,e6,e7,e8,e9,e10⟩:=s;simp only [szSs] at hm hxs hnm hvis hlo ⊢;simp only [gSs,Bool.and_eq_true] at hg;have hp0:=szS_pos (.mk e0 e1 e2 e3 e4 e5 e6 e7 e8 e9 e10);unfold f84_l1;rw [uSs];obtain ⟨nm1,vis1,er1,y,hr,hp1,hv1,hok1,hl1,hl2,he,h0⟩:=ihs (.mk e0 e1 e2 e3 e4 e5 e6 e7 e8 e9 e10) a (by omega) hg.1 nm vis (lo + ln) er hv (by omega) (by omega) (by omega);rw [hr];obtain ⟨r0,r1,r2,r3,r4,r5,r6,r7,r8,r9,r10⟩:=y;simp only [Option.bind_some];rw [guard_le (by unfold maxB; omega)];obtain ⟨nm2,er2,z,hr2,hp2,hok2,hl3,he2,h02⟩:=ih (i + 1) (xs ++ [.mk r0 r1 r2 r3 r4 r5 r6 r7 r8 r9 r10]) nm1 vis1 er1 (by omega) hg.2 (hp.trans hv1) hok1 (by rw [app_len]; omega) (by omega) (by omega) (by omega);refine ⟨nm2,er2,z,hr2,hp1.trans hp2,hok2,by omega,fun h=>?_,fun h=>?_⟩
     ·rw [he2 (by rw [he h]; exact h),he h]
     ·have h0:=h0 h;revert h0;cases uS p f2 f3 (lo + ln) nm vis (.mk e0 e1 e2 e3 e4 e5 e6 e7 e8 e9 e10) with
      | error c =>
       rintro ⟨rfl,hc⟩;exact ⟨he2 hc,hc⟩
      | ok x =>
       obtain ⟨b,v,x⟩:=x;rintro ⟨rfl,rfl,rfl,rfl⟩;have h02:=h02 rfl;revert h02;simp only [eb3];cases uSs p f2 f3 (lo + ln) nm1 vis1 l with
       | error c=>exact id
       | ok x =>
        obtain ⟨b,v,x⟩:=x;rintro ⟨rfl,rfl,rfl⟩;exact ⟨rfl,rfl,by simp⟩
   obtain ⟨nm',er',y,hr,hp,hok,hl,he,h0⟩:=loop l 0 [] nm vis0 er (by omega) hg (List.prefix_refl _) hv0 (by simp; omega) hnm hvis hlo;refine ⟨nm',er',y,hr,hp,hok,hl,he,fun h=>?_⟩;have h0:=h0 h;revert h0;cases uSs p f2 f3 (lo + ln) nm vis0 l with
   | error c=>exact id
   | ok x =>
    obtain ⟨b,v,x⟩:=x;rintro ⟨rfl,rfl,rfl⟩;exact ⟨rfl,rfl,rfl⟩
  ·intro l a hm hg name s2 hname lp ln hlp nm vis lo er hv hnm hvis hlo;show RB (f127_b k (fam84 k m) (.mk p (.mk f0 f1 f2 f3 f4 f5) nm (vI vis) lo er) name l lp) p _ lo er nm vis _ _;unfold f127_b;simp only;rw [uI_eq,hname];simp only [cond_false];obtain ⟨nm1,vis1,er1,v,hr,hp1,hv1,hok1,hl1,hl2,he,h0⟩:=make_ref k p (.mk f0 f1 f2 f3 f4 f5) lo er hv name (by omega) (by omega);rw [hr];simp only [Option.bind_some];obtain ⟨nm2,er2,y,hr2,hp2,hok2,hl3,he2,h02⟩:=ihb l a (by omega) hg lp ln hlp nm1 vis1 lo er1 hok1 (by omega) (by omega) (by omega);rw [hr2];simp only [Option.bind_some];have hle:vis.length≤vis1.length:=hv1.length_le;rw [show guardB (decide (0≤((vI vis).length:Int)∧((vI vis).length:Int)≤((vI vis1).length:Int)))=fun (x:Option (Dlook × Int × List DStmt))=>x from by
    rw [decide_eq_true (by rw [vI_len,vI_len]; omega)]; rfl]
   simp only;rw [vI_take vis vis1 hv1];refine ⟨nm2,er2,(v,y),rfl,hp1.trans hp2,fun w hw=>hok2 w (hv1.subset hw),by omega,fun h=>?_,fun h=>?_⟩
   ·rw [he2 (by rw [he h]; exact h),he h]
   ·have h0:=h0 h;revert h0;cases uMk nm vis name with
    | error c =>
     rintro ⟨rfl,hc⟩;exact ⟨he2 hc,hc⟩
    | ok x =>
     obtain ⟨b,w,x⟩:=x;rintro ⟨rfl,rfl,rfl,rfl⟩;have h02:=h02 rfl;revert h02;simp only [eb3];rw [uB_eq];cases uSs p f2 f3 (lo + ln) nm1 vis1 l with
     | error c=>exact id
     | ok x =>
      obtain ⟨b,v,x⟩:=x;rintro ⟨rfl,rfl,rfl⟩;exact ⟨rfl,rfl,rfl⟩
  ·intro c a hm hg nm vis lo er hv hnm hvis hlo;obtain ⟨kind,name,slot,es,b⟩:=c;simp only [szC] at hm hnm hvis hlo ⊢;simp only [gC,Bool.and_eq_true,Bool.false_or] at hg;obtain ⟨⟨⟨_,hslot⟩,hnode⟩,hges,hgb⟩:=hg;show RB (f128_b k (fam84 k m) (.mk p (.mk f0 f1 f2 f3 f4 f5) nm (vI vis) lo er) (.mk kind name slot es b)) p _ lo er nm vis _ _;unfold f128_b;simp only;rw [uC];obtain ⟨l',h1,h2⟩:=f124_eq k p (.mk f0 f1 f2 f3 f4 f5) lo er hv es (a + 1) (by omega) (by omega) hges;rw [h1];simp only [Option.bind_some];have hen:er ≠ 0→errI er (uEs nm vis es)=er:=fun h=>by unfold errI; rw [show (er == 0)=false by simpa using h]; rfl
   simp only [nodeC,Bool.and_eq_true] at hnode;have hnm1:=hnode.2;have key : ∀ (r:Option (Dlook × DCase)) (g:Int × List DStmt→DCase),RB r p (.mk f0 f1 f2 f3 f4 f5) lo (errI er (uEs nm vis es)) nm vis (eb3 (uI p f2 f3 lo nm vis name slot b) fun nm1 _ vb=>.ok (nm1,vis,.mk kind name vb.1 l' vb.2)) (szEs es + szSs b + 1) →
     RB r p (.mk f0 f1 f2 f3 f4 f5) lo er nm vis (eb (uEs nm vis es) fun r=>eb3 (uI p f2 f3 lo nm vis name slot b) fun nm1 _ vb=>.ok (nm1,vis,.mk kind name vb.1 r vb.2)) (szEs es + szSs b + 1):=by
    rintro r g ⟨nm2,er2,y,hr2,hp2,hok2,hl3,he2,h02⟩;refine ⟨nm2,er2,y,hr2,hp2,hok2,hl3,fun h=>?_,fun h=>?_⟩
    ·rw [he2 (by rw [hen h]; exact h),hen h]
    ·subst h;cases hu:uEs nm vis es with
     | error c =>
      obtain rfl:=uEs_20 hu;rw [hu] at he2;exact ⟨he2 (by unfold errI; decide),by decide⟩
     | ok x =>
      rw [hu] at h02;obtain rfl:=h2 x hu;exact h02 rfl
   generalize errI er (uEs nm vis es)=er1 at key ⊢;cases hk:(kind == 1) with
   | true =>
    simp only [cond_true];rw [hk] at hnm1;obtain ⟨nm2,er2,y,hr2,hp2,hok2,hl3,he2,h02⟩:=ihi b (a + 1) (by omega) hgb name slot (isN_ne hnm1) 0 0 rfl nm vis lo er1 hv (by omega) (by omega) (by omega);refine key _ (fun vb=>.mk kind name vb.1 l' vb.2) ?_;rw [hr2];obtain ⟨v,y⟩:=y;refine ⟨nm2,er2,_,rfl,hp2,hok2,by omega,he2,fun h=>?_⟩;have h02:=h02 h;revert h02;rw [Nat.add_zero];cases uI p f2 f3 lo nm vis name slot b with
    | error c=>exact id
    | ok x =>
     obtain ⟨b,w,x⟩:=x;rintro ⟨rfl,rfl,rfl⟩;exact ⟨rfl,rfl,rfl⟩
   | false =>
    simp only [cond_false];rw [hk] at hnm1;obtain ⟨nm2,er2,y,hr2,hp2,hok2,hl3,he2,h02⟩:=ihb b (a + 1) (by omega) hgb 0 0 rfl nm vis lo er1 hv (by omega) (by omega) (by omega);refine key _ (fun vb=>.mk kind name vb.1 l' vb.2) ?_;rw [hr2];refine ⟨nm2,er2,_,rfl,hp2,hok2,by omega,he2,fun h=>?_⟩;have h02:=h02 h;revert h02;rw [Nat.add_zero,uB_eq,uI_eq,show seq name ⟨#[]⟩=true from hnm1];simp only [cond_true,eb3];cases uSs p f2 f3 lo nm vis b with
    | error c=>exact id
    | ok x =>
     obtain ⟨b,w,x⟩:=x;rintro ⟨rfl,rfl,rfl⟩;exact ⟨rfl,rfl,rfl⟩
def uPs:List ByteArray→List Nat→List DParam→Ex (List ByteArray × List Nat × Unit)
 | nm,vis,[]=>.ok (nm,vis,())
 | nm,vis,.mk a _ :: l=>eb3 (uMk nm vis a) fun nm1 vis1 _=>uPs nm1 vis1 l
def uF (fs:List DFunc):DFunc→Ex (DFunc × List ByteArray)
 | .mk n ps res fl _ b=>eb3 (uPs [] [] ps) fun nm vis _=>eb3 (uSs fs res fl 0 nm vis b) fun nm1 _ b'=>uD (decide (nm1.length≤32)) 5 (.ok (.mk n ps res fl (nm1.length:Int) b',nm1))
def uFs (fs:List DFunc):List DFunc→Ex (List DFunc × List (List ByteArray))
 | []=>.ok ([],[])
 | f :: l=>eb (uF fs f) fun x=>eb (uFs fs l) fun y=>.ok (x.1 :: y.1,x.2 :: y.2)
def nameF:DFunc→ByteArray | .mk n _ _ _ _ _=>n
def hasF (a:ByteArray):List DFunc→Bool
 | []=>false
 | f :: l=>seq (nameF f) a || hasF a l
def dupF:List DFunc→List DFunc→Bool
 | _,[]=>false
 | pre,f :: l=>hasF (nameF f) pre || dupF (pre ++ [f]) l
def uP:DProgram→Ex (DProgram × List (List ByteArray))
 | .mk fs=>uD (wf false (.mk fs)) 2 (uD (!dupF [] fs) 21 (uD (decide (f44_l2 fs=0)) (f44_l2 fs) (eb (uFs fs fs) fun x=>.ok (.mk x.1,x.2))))
theorem szSs_bound {z:Bool} : ∀ {l:List DFunc} {f:DFunc},f ∈ l→cnFs l≤600→gFs z l=true→(match f with | .mk n ps res fl v b=>szSs b≤600∧ps.length≤4∧gSs z b 1=true)
 | .mk n ps res fl v b :: l,f,hf,hc,hg=>by
  simp only [cnFs,cnF] at hc;simp only [gFs,headF,Bool.and_eq_true,decide_eq_true_eq] at hg;rcases List.mem_cons.1 hf with rfl | h
  ·exact ⟨by omega,hg.1.1.1.1.1.2,hg.2.2.1⟩
  ·exact szSs_bound h (by omega) hg.2.2.2
theorem f82_l1_eq (k:Nat) (p:List DFunc) (n:ByteArray) (ps0:List DParam) (res:Int) (fl:Bool) (v:Int) (b0 b:List DStmt) (g1:List DParam) : ∀ (ps:List DParam) (i:Nat) (nm:List ByteArray) (vis:List Nat) (d:List (ByteArray × Int)),nm.length + ps.length≤1000→Rel ([] ++ [d]) vis nm →
  match uPs nm vis ps with
  | .error c=>f82_l1 k n g1 res fl b ps i p n ps0 res fl v b0 nm ([] ++ [d]) 0=some (.error c)
  | .ok (nm',vis',_)=>∃ d' j,f82_l1 k n g1 res fl b ps i p n ps0 res fl v b0 nm ([] ++ [d]) 0=f82_l1 k n g1 res fl b [] j p n ps0 res fl v b0 nm' ([] ++ [d']) 0∧Rel ([] ++ [d']) vis' nm'∧nm'.length≤nm.length + ps.length
 | [],i,nm,vis,d,hn,R=>⟨d,i,rfl,R,by simp⟩
 | .mk a kd :: ps,i,nm,vis,d,hn,R=>by
  simp only [List.length_cons] at hn;have h:=opt_make k p (.mk n ps0 res fl v b0) 0 R a (by omega) (by simp);unfold uPs;revert h;cases uMk nm vis a with
  | error c =>
   intro h;simp only [NN] at h;unfold f82_l1;simp only [eb3];rw [show f103 k (.mk (.mk p) (.mk n ps0 res fl v b0) nm ([] ++ [d]) 0) a=some (.error c) from h];rfl
  | ok x =>
   obtain ⟨nm1,vis1,w⟩:=x;rintro ⟨d1,h,R1,hp,hl⟩;simp only [eb3];have ih:=f82_l1_eq k p n ps0 res fl v b0 b g1 ps (i + 1) nm1 vis1 d1 (by omega) R1;have e:f82_l1 k n g1 res fl b (.mk a kd :: ps) i p n ps0 res fl v b0 nm ([] ++ [d]) 0=f82_l1 k n g1 res fl b ps (i + 1) p n ps0 res fl v b0 nm1 ([] ++ [d1]) 0:=by
    conv=>lhs; unfold f82_l1
    rw [show f103 k (.mk (.mk p) (.mk n ps0 res fl v b0) nm ([] ++ [d]) 0) a=some (.ok (.mk (.mk p) (.mk n ps0 res fl v b0) nm1 ([] ++ [d1]) 0,w)) from h];rfl
   revert ih;cases uPs nm1 vis1 ps with
   | error c=>intro ih; rw [e]; exact ih
   | ok x =>
    obtain ⟨nm2,vis2,u⟩:=x;rintro ⟨d2,j,h2,R2,hl2⟩;exact ⟨d2,j,by rw [e]; exact h2,R2,by simp only [List.length_cons]; omega⟩
theorem f82_l2_eq (k:Nat) (p:List DFunc) (n:ByteArray) (ps0:List DParam) (res:Int) (fl:Bool) (v:Int) (b0:List DStmt) (g1:List DParam) : ∀ (l:List DStmt) (i:Nat) (xs:List DStmt) (nm:List ByteArray) (vis:List Nat) (d:List (ByteArray × Int)),4 * szSs l≤k→xs.length + szSs l≤100000→nm.length + szSs l≤100000→Rel ([] ++ [d]) vis nm →
  f82_l2 k n res fl g1 l i p n ps0 res fl v b0 nm ([] ++ [d]) 0 xs=some (eb3 (uSs p res fl 0 nm vis l) fun nm1 _ b'=>uD (decide (nm1.length≤32)) 5 (.ok (.mk n g1 res fl (nm1.length:Int) (xs ++ b'),nm1)))
 | [],i,xs,nm,vis,d,hm,hx,hn,R=>by
  unfold f82_l2 f82_j1;rw [uSs];have e:decide ((nm.length:Int)≤32)=decide (nm.length≤32):=by rw [decide_eq_decide]; omega
  simp only [f58_eq,Option.bind_some,eb3,e,uD,List.append_nil];cases decide (nm.length≤32) <;> rfl
 | s :: l,i,xs,nm,vis,d,hm,hx,hn,R=>by
  simp only [szSs] at hm hx hn;have hp0:=szS_pos s;obtain ⟨e0,e1,e2,e3,e4,e5,e6,e7,e8,e9,e10⟩:=s;unfold f82_l2;rw [uSs];have h:=(nR k p n ps0 res fl v b0 k (Nat.le_refl k)).1 (.mk e0 e1 e2 e3 e4 e5 e6 e7 e8 e9 e10) (by omega) nm vis [] d 0 (by omega) (by simp; omega) (by omega) R;rw [show (fam105 k k).f105=f105 k from rfl,show (((0:Nat):Int))=0 from rfl] at h;revert h;cases uS p res fl 0 nm vis (.mk e0 e1 e2 e3 e4 e5 e6 e7 e8 e9 e10) with
  | error c=>intro h; simp only [NN] at h; rw [h]; rfl
  | ok x =>
   obtain ⟨nm1,vis1,s'⟩:=x;rintro ⟨d1,h,R1,hp,hl⟩;rw [h];obtain ⟨r0,r1,r2,r3,r4,r5,r6,r7,r8,r9,r10⟩:=s';simp only [Option.bind_some,eb3];rw [guard_le (by unfold maxB; omega)];refine (f82_l2_eq k p n ps0 res fl v b0 g1 l (i + 1) (xs ++ [.mk r0 r1 r2 r3 r4 r5 r6 r7 r8 r9 r10]) nm1 vis1 d1 (by omega) (by rw [app_len]; omega) (by omega) R1).trans ?_;cases uSs p res fl 0 nm1 vis1 l with
   | error c=>rfl
   | ok x=>simp [eb3]
theorem f82_eq (k:Nat) (p:List DFunc) (f:DFunc) (h:match f with | .mk n ps res fl v b=>szSs b≤600∧ps.length≤4∧gSs false b 1=true) (hk:4 * 600≤k):f82 k (.mk p) f=some (uF p f):=by
 obtain ⟨n,ps,res,fl,v,b⟩:=f;obtain ⟨h1,h2,h3⟩:=h;unfold f82 f82_b uF;simp only;have R0:Rel ([] ++ [[]]) [] []:=⟨fun a=>rfl,fun v hv=>by cases hv⟩;have h:=f82_l1_eq k p n ps res fl v b b ps ps 0 [] [] [] (by simp; omega) R0;revert h;cases uPs [] [] ps with
 | error c=>intro h; exact h
 | ok x =>
  obtain ⟨nm,vis,u⟩:=x;rintro ⟨d,j,h,R,hl⟩;refine (h:f82_l1 k n ps res fl b ps 0 p n ps res fl v b [] [[]] 0=_).trans ?_;unfold f82_l1 f104;rw [guard_le (by unfold maxB; omega)];simp only [Option.bind_some,eb3];exact f82_l2_eq k p n ps res fl v b ps b 0 [] nm vis d (by omega) (by simp; omega) (by simp at hl; omega) R
theorem f1008056_eq (k:Nat) (l:List DFunc) (f:DFunc):f1008056 k l f=some (hasF (nameF f) l):=by
 obtain ⟨n,ps,res,fl,v,b⟩:=f;have h : ∀ (l:List DFunc) (i:Nat),(f1005656_l1 k n ps res fl v b l i).bind (fun r=>some (decide (r ≥ 0)))=some (hasF n l):=by
  intro l;induction l with
  | nil=>intro i; rfl
  | cons e l ih =>
   intro i;obtain ⟨e0,e1,e2,e3,e4,e5⟩:=e;unfold f1005656_l1 f1008100 f1008100_b hasF;simp only [Option.bind_some,nameF];rw [seq_comm n e0];cases seq e0 n with
   | true=>simp
   | false=>simpa using ih (i + 1)
 unfold f1008056 f1008056_b f1005656 f1005656_b;exact h l 0
theorem f44_l1_eq (k:Nat) : ∀ (rest pre:List DFunc),f44_l1 k (pre ++ rest) rest pre.length=some (cond (dupF pre rest) (.error 21) (.ok ()))
 | [],pre=>rfl
 | f :: rest,pre=>by
  unfold f44_l1 dupF;have e:(pre ++ f :: rest).take pre.length=pre:=by simp
  rw [e,f1008056_eq];simp only [Option.bind_some,f58_eq];cases hasF (nameF f) pre with
  | true=>rfl
  | false =>
   have ih:=f44_l1_eq k rest (pre ++ [f]);rw [app_len,List.append_assoc,List.singleton_append] at ih;simpa using ih
theorem f44_l3_eq (k:Nat) (p:List DFunc) (hk:4 * 600≤k) : ∀ (rest:List DFunc) (out:List DFunc) (names:List (List ByteArray)),(∀ f ∈ rest,match f with | .mk n ps res fl v b=>szSs b≤600∧ps.length≤4∧gSs false b 1=true) →
  f44_l3 k (.mk p) rest out names=some (eb (uFs p rest) fun x=>.ok (.mk (out ++ x.1),names ++ x.2))
 | [],out,names,h=>by simp [f44_l3,uFs,eb]
 | f :: rest,out,names,h=>by
  unfold f44_l3 uFs;rw [f82_eq k p f (h f (by simp)) hk];cases uF p f with
  | error c=>rfl
  | ok x =>
   simp only [Option.bind_some,eb];rw [f44_l3_eq k p hk rest (out ++ [x.1]) (names ++ [x.2]) (fun g hg=>h g (by simp [hg]))];cases uFs p rest with
   | error c=>rfl
   | ok y=>simp [eb]
theorem f44_eq (k:Nat) (p:DProgram) (hk:2 * szP p + 1≤k) (hk2:4 * 600≤k):f44 k p=some (uP p):=by
 have h78:=f78_eq k p false hk;obtain ⟨fs⟩:=p;unfold f44 uP;simp only [h78,Option.bind_some,f58_eq];cases hw:wf false (.mk fs) with
 | false=>rfl
 | true =>
  simp only [wf,Bool.and_eq_true,decide_eq_true_eq] at hw;have h1:=f44_l1_eq k fs [];simp only [List.nil_append,List.length_nil] at h1;simp only [cond_true,h1,Option.bind_some,uD];cases dupF [] fs with
  | true=>rfl
  | false =>
   simp only [cond_false,cond_true,Bool.not_false,f58_eq,Option.bind_some];cases decide (f44_l2 fs=0) with
   | false=>rfl
   | true =>
    simp only [cond_true];rw [f44_l3_eq k fs hk2 fs [] [] (fun f hf=>szSs_bound hf hw.2 hw.1.2)];rfl
theorem f46_l1_eq (k:Nat) (p:List DFunc) (n:ByteArray) (ps0:List DParam) (res:Int) (fl:Bool) (v:Int) (b0 b:List DStmt) (g1:List DParam) : ∀ (ps:List DParam) (i:Nat) (nm:List ByteArray) (vis:List Nat) (er:Int),nm.length + ps.length≤1000→vis.length + ps.length≤1000→okV nm vis →
  ∃ nm' vis' er' j,f46_l1 k n g1 res fl b ps i p n ps0 res fl v b0 nm (vI vis) 0 er=f46_l1 k n g1 res fl b [] j p n ps0 res fl v b0 nm' (vI vis') 0 er'∧okV nm' vis'∧nm'.length≤nm.length + ps.length∧vis'.length≤vis.length + ps.length∧(er ≠ 0→er'=er) ∧
   (er=0→match uPs nm vis ps with | .error c=>er'=c∧c ≠ 0 | .ok (a,b,_)=>er'=0∧nm'=a∧vis'=b)
 | [],i,nm,vis,er,hn,hn2,hv=>⟨nm,vis,er,i,rfl,hv,by simp,by simp,fun _=>rfl,fun h=>⟨h,rfl,rfl⟩⟩
 | .mk a kd :: ps,i,nm,vis,er,hn,hn2,hv=>by
  simp only [List.length_cons] at hn hn2;obtain ⟨nm1,vis1,er1,w,hr,hp1,hv1,hok1,hl1,hl2,he,h0⟩:=make_ref k p (.mk n ps0 res fl v b0) 0 er hv a (by omega) (by omega);obtain ⟨nm2,vis2,er2,j,hr2,hok2,hl3,hl4,he2,h02⟩:=f46_l1_eq k p n ps0 res fl v b0 b g1 ps (i + 1) nm1 vis1 er1 (by omega) (by omega) hok1;refine ⟨nm2,vis2,er2,j,?_,hok2,by simp only [List.length_cons]; omega,by simp only [List.length_cons]; omega,fun h=>?_,fun h=>?_⟩
  ·rw [← hr2]
   conv=>lhs; unfold f46_l1
   rw [show f83 k (.mk p (.mk n ps0 res fl v b0) nm (vI vis) 0 er) a=_ from hr];rfl
  ·rw [he2 (by rw [he h]; exact h),he h]
  ·have h0:=h0 h;unfold uPs;revert h0;cases uMk nm vis a with
   | error c =>
    rintro ⟨rfl,hc⟩;exact ⟨he2 hc,hc⟩
   | ok x =>
    obtain ⟨b,v,x⟩:=x;rintro ⟨rfl,rfl,rfl,rfl⟩;have h02:=h02 rfl;simp only [eb3];revert h02;cases uPs nm1 vis1 ps with
    | error c=>exact id
    | ok x=>obtain ⟨b,v,x⟩:=x; exact id
theorem f46_eq (k:Nat) (p:List DFunc) (f:DFunc) (h:match f with | .mk n ps res fl v b=>szSs b≤600∧ps.length≤4∧gSs false b 1=true) (hk:4 * 600 + 1≤k) :
  ∃ nm vis er y z,f46 k p f=some (.mk p z nm vis 0 er,y)∧match uF p f with | .error c=>er=c∧c ≠ 0 | .ok (g,l)=>er=0∧y=g∧nm=l:=by
 obtain ⟨n,ps,res,fl,v,b⟩:=f;obtain ⟨h1,h2,h3⟩:=h;unfold f46 f46_b;simp only;obtain ⟨nm1,vis1,er1,j,hr,hok1,hl1,hl2,he,h0⟩:=f46_l1_eq k p n ps res fl v b b ps ps 0 [] [] 0 (by simp; omega) (by simp; omega) (fun v hv=>by cases hv);have h0:=h0 rfl;rw [show f46_l1 k n ps res fl b ps 0 p n ps res fl v b [] [] 0 0=_ from hr];unfold f46_l1;simp only [List.length_nil,Nat.zero_add] at hl1 hl2;obtain ⟨nm2,er2,z,hr2,hp2,hok2,hl3,he2,h02⟩:=(rRS k p n ps res fl v b k (Nat.le_refl k)).2.1 b 1 (by omega) h3 0 0 rfl nm1 vis1 0 er1 hok1 (by omega) (by omega) (by omega);rw [show (fam84 k k).f84=f84 k from rfl] at hr2;rw [show f84 k (.mk p (.mk n ps res fl v b) nm1 (vI vis1) 0 er1) b 0=_ from hr2];simp only [Option.bind_some,f85_eq];unfold f46_j1;refine ⟨nm2,_,_,_,_,rfl,?_⟩;simp only [uF];revert h0;cases uPs [] [] ps with
 | error c =>
  rintro ⟨rfl,hc⟩;have:=he2 hc;refine ⟨?_,hc⟩;unfold failI;rw [this,show (er1 == 0)=false by simpa using hc,Bool.and_false]; rfl
 | ok x =>
  obtain ⟨b',v',x⟩:=x;rintro ⟨rfl,rfl,rfl⟩;have h02:=h02 rfl;simp only [eb3];rw [uB_eq,Nat.add_zero] at h02;revert h02;cases uSs p res fl 0 nm1 vis1 b with
  | error c =>
   rintro ⟨rfl,hc⟩;refine ⟨?_,hc⟩;unfold failI;rw [show (er2 == 0)=false by simpa using hc,Bool.and_false]; rfl
  | ok x =>
   obtain ⟨b',v',x⟩:=x;rintro ⟨rfl,rfl,rfl⟩;have e:decide ((nm2.length:Int)≤32)=decide (nm2.length≤32):=by rw [decide_eq_decide]; omega
   rw [e];simp only [uD];cases decide (nm2.length≤32) with
   | true=>exact ⟨rfl,rfl,rfl⟩
   | false=>exact ⟨rfl,by decide⟩
theorem f45_pre (k:Nat) (a:ByteArray) (f:DFunc) (hf:seq (nameF f) a=true) (rest:List DFunc) : ∀ (pre:List DFunc) (i:Nat),∃ r,f45_l1 k a (pre ++ f :: rest) i=some r∧decide (r < ((i + pre.length:Nat):Int))=hasF a pre
 | [],i=>by
  obtain ⟨n,ps,res,fl,v,b⟩:=f;simp only [nameF] at hf;refine ⟨i,?_,by simp [hasF]⟩;simp only [List.nil_append];unfold f45_l1;rw [hf]; rfl
 | .mk n ps res fl v b :: pre,i=>by
  simp only [List.cons_append];unfold f45_l1 hasF;simp only [nameF];cases seq n a with
  | true=>exact ⟨i,rfl,by simp; omega⟩
  | false =>
   obtain ⟨r,h1,h2⟩:=f45_pre k a f hf rest pre (i + 1);exact ⟨r,h1,by rw [← h2,Bool.false_or]; simp only [List.length_cons]; rw [decide_eq_decide]; omega⟩
theorem nameF_seq (f:DFunc):seq (nameF f) (nameF f)=true:=seq_refl _
theorem f16_l1_eq (k:Nat) (fs:List DFunc) : ∀ (rest pre:List DFunc),fs=pre ++ rest→f16_l1 k fs rest pre.length=cond (dupF pre rest) (some (.mk [],21)) (f16_l1 k fs [] 0)
 | [],pre,h=>rfl
 | f :: rest,pre,h=>by
  obtain ⟨r,h1,h2⟩:=f45_pre k (nameF f) f (nameF_seq f) rest pre 0;rw [← h] at h1;rw [Nat.zero_add] at h2
  conv=>lhs; unfold f16_l1
  unfold dupF;obtain ⟨n,ps,res,fl,v,b⟩:=f;simp only [nameF] at h1 h2 ⊢;unfold f45 f45_b;rw [h1];simp only [Option.bind_some,h2];cases hasF n pre with
  | true=>rfl
  | false =>
   have ih:=f16_l1_eq k fs rest (pre ++ [.mk n ps res fl v b]) (by rw [h]; simp);rw [app_len] at ih;simpa using ih
theorem main_eq (k:Nat) (F:Option (DProgram × Int)) : ∀ (l pre:List DFunc),∃ r,f45_l1 k ⟨#[109,97,105,110]⟩ l pre.length=some r ∧
  (cond (decide (r < 0)) (some (DProgram.mk [],(20:Int))) ((idxO (pre ++ l) r).bind fun q_=>match q_ with | .mk _ e1 _ e3 _ _=>cond e3 (some (DProgram.mk [],25)) (cond (decide ((e1.length:Int) > 0)) (some (DProgram.mk [],24)) F))) =
   cond (decide (f44_l2 l=0)) F (some (.mk [],f44_l2 l))
 | [],pre=>⟨-1,rfl,rfl⟩
 | .mk n ps res fl v b :: l,pre=>by
  unfold f45_l1 f44_l2;cases hs:seq n ⟨#[109,97,105,110]⟩ with
  | true =>
   refine ⟨pre.length,rfl,?_⟩;have hj:decide ((pre.length:Int) < 0)=false:=by simp
   rw [idxO_mid pre (.mk n ps res fl v b) l _ rfl,hj];simp only [cond_false,cond_true,Option.bind_some,Bool.not_true];cases fl <;> cases decide ((ps.length:Int) > 0) <;> simp
  | false =>
   obtain ⟨r,h1,h2⟩:=main_eq k F l (pre ++ [.mk n ps res fl v b]);rw [app_len] at h1;rw [List.append_assoc,List.singleton_append] at h2;exact ⟨r,h1,h2⟩
theorem f16_l2_eq (k:Nat) (p:List DFunc) (hk:4 * 600 + 1≤k) : ∀ (rest:List DFunc) (i:Nat) (out:List DFunc),out.length + rest.length≤1000→(∀ f ∈ rest,match f with | .mk n ps res fl v b=>szSs b≤600∧ps.length≤4∧gSs false b 1=true) →
  f16_l2 k p rest i out=some (match uFs p rest with | .error c=>(.mk [],c) | .ok x=>(.mk (out ++ x.1),0))
 | [],i,out,hn,h=>by simp [f16_l2,uFs]
 | f :: rest,i,out,hn,h=>by
  simp only [List.length_cons] at hn;obtain ⟨nm,vis,er,y,z,h1,h2⟩:=f46_eq k p f (h f (by simp)) hk;have ih:=fun o ho=>f16_l2_eq k p hk rest (i + 1) o ho (fun g hg=>h g (by simp [hg]))
  obtain ⟨e0,e1,e2,e3,e4,e5⟩:=f;obtain ⟨g0,g1,g2,g3,g4,g5⟩:=y;obtain ⟨z0,z1,z2,z3,z4,z5⟩:=z;unfold f16_l2 uFs;rw [h1];simp only [Option.bind_some];unfold f16_j1 f16_j2;revert h2;cases uF p (.mk e0 e1 e2 e3 e4 e5) with
  | error c =>
   rintro ⟨rfl,hc⟩;rw [show (er != 0)=true by simpa using hc];rfl
  | ok x =>
   obtain ⟨g,l⟩:=x;rintro ⟨rfl,rfl,rfl⟩;rw [show ((0:Int) != 0)=false from rfl];simp only [cond_false,eb];rw [guard_le (by unfold maxB; omega),ih _ (by rw [app_len]; omega)];cases uFs p rest with
   | error c=>rfl
   | ok y=>simp
theorem f16_eq (k:Nat) (p:DProgram) (hk:2 * szP p + 1≤k) (hk2:4 * 600 + 1≤k):f16 k p=some (match uP p with | .error c=>(.mk [],c) | .ok x=>(x.1,0)):=by
 have h20:=f20_eq k p hk;obtain ⟨fs⟩:=p;unfold f16 f16_b uP;simp only [h20,Option.bind_some];cases hw:wf false (.mk fs) with
 | false=>rfl
 | true =>
  simp only [wf,Bool.and_eq_true,decide_eq_true_eq] at hw;simp only [Bool.not_true,cond_false,uD,cond_true];have h1:=f16_l1_eq k fs fs [] rfl;rw [List.length_nil] at h1;rw [h1];cases dupF [] fs with
  | true=>rfl
  | false =>
   simp only [cond_false,Bool.not_false,cond_true];obtain ⟨r,h2,h3⟩:=main_eq k (f16_l2 k fs fs 0 []) fs [];rw [List.length_nil] at h2
   conv=>lhs; unfold f16_l1 f45 f45_b
   rw [h2];simp only [Option.bind_some];refine Eq.trans h3 ?_;cases decide (f44_l2 fs=0) with
   | false=>rfl
   | true =>
    simp only [cond_true];rw [f16_l2_eq k fs hk2 fs 0 [] (by simp; omega) (fun f hf=>szSs_bound hf hw.2 hw.1.2)];cases uFs fs fs <;> rfl
theorem eb_ok {α β:Type} {u:Ex α} {f:α→Ex β} {y:β} (h:eb u f=.ok y) : ∃ x,u=.ok x∧f x=.ok y:=by
 cases u with
 | error c=>cases h
 | ok x=>exact ⟨x,rfl,h⟩
theorem eb3_ok {α β:Type} {u:Ex (List ByteArray × List Nat × α)} {f:List ByteArray→List Nat→α→Ex β} {y:β} (h:eb3 u f=.ok y) : ∃ a b x,u=.ok (a,b,x)∧f a b x=.ok y:=by
 cases u with
 | error c=>cases h
 | ok x=>exact ⟨x.1,x.2.1,x.2.2,rfl,h⟩
theorem uD_ok {α:Type} {b:Bool} {c:Int} {x:Ex α} {y:α} (h:uD b c x=.ok y):b=true∧x=.ok y:=by
 cases b with
 | false=>cases h
 | true=>exact ⟨rfl,h⟩
section
variable (fs:List DFunc) (f2:Int) (f3:Bool)
end
theorem uP_ok {fs:List DFunc} {q:DProgram} {nl:List (List ByteArray)} (h:uP (.mk fs)=.ok (q,nl)):wf false (.mk fs)=true∧dupF [] fs=false∧f44_l2 fs=0∧∃ x,q=.mk x∧uFs fs fs=.ok (x,nl):=by
 unfold uP at h;obtain ⟨h1,h⟩:=uD_ok h;obtain ⟨h2,h⟩:=uD_ok h;obtain ⟨h3,h⟩:=uD_ok h;obtain ⟨x,h4,h⟩:=eb_ok h;cases h;exact ⟨h1,by simpa using h2,by simpa using h3,x.1,rfl,h4⟩
def Nz {α:Type} (u:Ex α):Prop:=∀ c,u=.error c→c ≠ 0
theorem Nz.ok {α:Type} (x:α):Nz (.ok x:Ex α):=fun c h=>by cases h
theorem Nz.er {α:Type} {c:Int} (h:c ≠ 0):Nz (.error c:Ex α):=fun c' h'=>by cases h'; exact h
theorem Nz.eb {α β:Type} {u:Ex α} {f:α→Ex β} (h:Nz u) (hf : ∀ x,Nz (f x)):Nz (eb u f):=by
 cases u with
 | error c=>intro c' h'; cases h'; exact h c rfl
 | ok x=>exact hf x
theorem Nz.eb3 {α β:Type} {u:Ex (List ByteArray × List Nat × α)} {f:List ByteArray→List Nat→α→Ex β} (h:Nz u) (hf : ∀ a b x,Nz (f a b x)):Nz (eb3 u f):=by
 cases u with
 | error c=>intro c' h'; cases h'; exact h c rfl
 | ok x=>exact hf x.1 x.2.1 x.2.2
theorem Nz.uD {α:Type} {b:Bool} {c:Int} {x:Ex α} (hc:c ≠ 0) (h:Nz x):Nz (uD b c x):=by
 cases b with
 | false=>exact .er hc
 | true=>exact h
theorem Nz.cond {α:Type} {b:Bool} {u v:Ex α} (h:Nz u) (h' : Nz v):Nz (cond b u v):=by
 cases b
 ·exact h'
 ·exact h
theorem Nz.uMk {nm:List ByteArray} {vis:List Nat} {a:ByteArray}:Nz (uMk nm vis a):=by
 unfold Go.Proofs.YtoajecnoffhlbaaGreatDoor.uMk;cases slotOf nm vis a with
 | none=>exact .ok _
 | some v=>exact .er (by decide)
theorem Nz.uCall {op:Int} {fr:ByteArray} {na:Nat} : ∀ {l:List DFunc} {i:Nat},Nz (uCall op fr na l i)
 | [],i=>.er (by decide)
 | .mk nm ps r fl v b :: l,i=>by
  unfold Go.Proofs.YtoajecnoffhlbaaGreatDoor.uCall;exact .cond (.cond (.cond (.ok _) (.er (by decide))) (.er (by decide))) .uCall
theorem Nz.uEs {nm:List ByteArray} {vis:List Nat} {l:List DExpr}:Nz (uEs nm vis l):=fun c h=>by rw [uEs_20 h]; decide
section
variable (fs:List DFunc) (f2:Int) (f3:Bool)
theorem uS_nz : ∀ n:Nat,
  (∀ s,szS s≤n→∀ lo nm vis,Nz (uS fs f2 f3 lo nm vis s)) ∧
  (∀ l,szSs l≤n→∀ lo nm vis,Nz (uSs fs f2 f3 lo nm vis l)) ∧
  (∀ c,szC c≤n→∀ lo nm vis,Nz (uC fs f2 f3 lo nm vis c)) ∧
  (∀ l,szCs l≤n→∀ lo nm vis,Nz (uCs fs f2 f3 lo nm vis l))
 | 0=>by
  refine ⟨fun s h=>?_,fun l h=>?_,fun c h=>?_,fun l h=>?_⟩
  ·have:=szS_pos s; omega
  ·cases l with
   | nil=>intro lo nm vis; simp only [uSs]; exact .ok _
   | cons s l=>have:=szS_pos s; simp only [szSs] at h; omega
  ·have:=szC_pos c; omega
  ·cases l with
   | nil=>intro lo nm vis; simp only [uCs]; exact .ok _
   | cons s l=>have:=szC_pos s; simp only [szCs] at h; omega
 | n + 1=>by
  obtain ⟨i1,i2,i3,i4⟩:=uS_nz n;have a1 : ∀ s,szS s≤n + 1→∀ lo nm vis,Nz (uS fs f2 f3 lo nm vis s):=by
   rintro ⟨op,name,s2,fr,s4,flag,l6,l7,l8,l9,l10⟩ h lo nm vis;simp only [szS] at h;have h7:=i2 l7 (by omega);have h8:=i2 l8 (by omega);have h9:=i2 l9 (by omega);have h10:=i4 l10 (by omega);simp only [uS,uB_eq,uI_eq];have hmk : ∀ nm vis,Nz (cond (seq name ⟨#[]⟩) (.ok (nm,vis,s2)) (uMk nm vis name):Ex (List ByteArray × List Nat × Int)):=fun nm vis=>.cond (.ok _) .uMk
   refine .eb .uEs fun r6=>.cond (.eb3 (h10 _ _ _) fun _ _ _=>.ok _) (.eb (.cond (.ok _) .uCall) fun ix=>?_)
   refine .cond ?_ (.cond (.uD (by decide) (.ok _)) (.cond (.uD (by decide) (.ok _)) (.cond (.uD (by decide) (.ok _)) (.cond (.eb3 (.eb3 (h7 _ _ _) fun _ _ _=>.ok _) fun _ _ _=>.ok _) ?_))))
   ·cases slotOf nm vis name with
    | none=>exact .er (by decide)
    | some v=>exact .ok _
   refine .cond (.eb3 (.eb3 (hmk _ _) fun _ _ _=>.eb3 (h7 _ _ _) fun _ _ _=>.ok _) fun _ _ _=>.ok _) ?_;refine .cond (.eb3 (.eb3 (hmk _ _) fun _ _ _=>.eb3 (h7 _ _ _) fun _ _ _=>.ok _) fun _ _ _=>.ok _) ?_;refine .cond (.eb3 (.eb3 (h7 _ _ _) fun _ _ _=>.ok _) fun _ _ _=>.eb3 (.eb3 (hmk _ _) fun _ _ _=>.eb3 (h8 _ _ _) fun _ _ _=>.ok _) fun _ _ _=>.eb3 (.eb3 (h9 _ _ _) fun _ _ _=>.ok _) fun _ _ _=>.ok _) ?_;exact .cond (.eb3 (.eb3 (h7 _ _ _) fun _ _ _=>.ok _) fun _ _ _=>.eb3 (.eb3 (h8 _ _ _) fun _ _ _=>.ok _) fun _ _ _=>.ok _) (.eb3 (hmk _ _) fun _ _ _=>.uD (by decide) (.ok _))
  have a3 : ∀ c,szC c≤n + 1→∀ lo nm vis,Nz (uC fs f2 f3 lo nm vis c):=by
   rintro ⟨kind,name,slot,es,b⟩ h lo nm vis;simp only [szC] at h;simp only [uC,uI_eq];exact .eb .uEs fun _=>.eb3 (.eb3 (.cond (.ok _) .uMk) fun _ _ _=>.eb3 (i2 b (by omega) _ _ _) fun _ _ _=>.ok _) fun _ _ _=>.ok _
  have a2 : ∀ l,szSs l≤n + 1→∀ lo nm vis,Nz (uSs fs f2 f3 lo nm vis l):=by
   intro l;induction l with
   | nil=>intro h lo nm vis; simp only [uSs]; exact .ok _
   | cons s l ih =>
    intro h lo nm vis;simp only [szSs] at h;simp only [uSs];exact .eb3 (a1 s (by omega) _ _ _) fun _ _ _=>.eb3 (ih (by omega) _ _ _) fun _ _ _=>.ok _
  have a4 : ∀ l,szCs l≤n + 1→∀ lo nm vis,Nz (uCs fs f2 f3 lo nm vis l):=by
   intro l;induction l with
   | nil=>intro h lo nm vis; simp only [uCs]; exact .ok _
   | cons s l ih =>
    intro h lo nm vis;simp only [szCs] at h;simp only [uCs];exact .eb3 (a3 s (by omega) _ _ _) fun _ _ _=>.eb3 (ih (by omega) _ _ _) fun _ _ _=>.ok _
  exact ⟨a1,a2,a3,a4⟩
end
theorem uPs_nz : ∀ (l:List DParam) (nm:List ByteArray) (vis:List Nat),Nz (uPs nm vis l)
 | [],nm,vis=>.ok _
 | .mk a kd :: l,nm,vis=>by
  unfold uPs;exact .eb3 .uMk fun _ _ _=>uPs_nz l _ _
theorem uFs_nz (fs:List DFunc) : ∀ l,Nz (uFs fs l)
 | []=>.ok _
 | .mk n ps res fl v b :: l=>by
  unfold uFs uF;exact .eb (.eb3 (uPs_nz _ _ _) fun _ _ _=>.eb3 ((uS_nz fs res fl (szSs b)).2.1 b (Nat.le_refl _) _ _ _) fun _ _ _=>.uD (by decide) (.ok _)) fun _=>.eb (uFs_nz fs l) fun _=>.ok _
theorem uP_err {p:DProgram} {c:Int} (h:uP p=.error c):c ≠ 0:=by
 obtain ⟨fs⟩:=p;refine (show Nz (uD (wf false (.mk fs)) 2 (uD (!dupF [] fs) 21 (uD (decide (f44_l2 fs=0)) (f44_l2 fs) (eb (uFs fs fs) fun x=>.ok (DProgram.mk x.1,x.2))))) from .uD (by decide) (.uD (by decide) ?_)) c h;cases hb:decide (f44_l2 fs=0) with
 | false=>exact .er (of_decide_eq_false hb)
 | true=>exact .eb (uFs_nz fs fs) fun _=>.ok _
def uFr (p:DProgram):Ex (DProgram × List (List ByteArray)):=cond (wf true p) (uP (stP p)) (.error 2)
theorem uFr_err {p:DProgram} {c:Int} (h:uFr p=.error c):c ≠ 0:=by
 unfold uFr at h;cases hw:wf true p with
 | false=>rw [hw] at h; cases h; decide
 | true=>rw [hw] at h; exact uP_err h
theorem f27_eq (k:Nat) (p:DProgram) (hk:2 * szP p + 1≤k) (hk2:4 * 600 + 1≤k) (hf:fitP p):f27 k p=some (match uFr p with | .error c=>(.mk [],c) | .ok x=>(x.1,0)):=by
 have h23:=f23_eq k p hk hf;have h24:=f24_eq k p hk hf;have h16:=f16_eq k (stP p) (by rw [szP_st]; exact hk) hk2;obtain ⟨fs⟩:=p;unfold f27 f27_b uFr;simp only [h23,Option.bind_some];cases wf true (.mk fs) with
 | false=>rfl
 | true =>
  simp only [Bool.not_true,cond_false,cond_true,h24,Option.bind_some];simp only [stP] at h16 ⊢;rw [h16];cases uP (.mk (stFs fs)) with
  | error c=>rfl
  | ok x=>obtain ⟨⟨q⟩,l⟩:=x; rfl
theorem f50_eq (k:Nat) (p:DProgram) (hk:2 * szP p + 1≤k) (hf:fitP p):f50 k p=some (cond (wf true p) (.ok (stP p)) (.error 2)):=by
 have h78:=f78_eq k p true hk;have h88:=f88_eq k p hk hf;obtain ⟨fs⟩:=p;unfold f50 f50_b;simp only [h78,f58_eq,Option.bind_some];cases wf true (.mk fs) with
 | false=>rfl
 | true=>simp only [cond_true,h88,Option.bind_some,stP]
theorem uFs_at (gs:List DFunc) : ∀ (l q:List DFunc) (nl:List (List ByteArray)),uFs gs l=.ok (q,nl)→nl.length=l.length∧∀ (n:Nat) (f:DFunc),l[n]?=some f→∃ g m,uF gs f=.ok (g,m)∧nl[n]?=some m∧q[n]?=some g
 | [],q,nl,h=>by cases h; exact ⟨rfl,fun n f h=>by simp at h⟩
 | x :: l,q,nl,h=>by
  unfold uFs at h;obtain ⟨y,h1,h⟩:=eb_ok h;obtain ⟨z,h2,h⟩:=eb_ok h;cases h;obtain ⟨h3,h4⟩:=uFs_at gs l z.1 z.2 h2;refine ⟨by simp [h3],fun n f hf=>?_⟩;cases n with
  | zero =>
   obtain rfl:x=f:=by simpa using hf
   exact ⟨y.1,y.2,h1,rfl,rfl⟩
  | succ n=>simpa using h4 n f (by simpa using hf)
theorem idxO_some {α:Type} {l:List α} {i:Int} (h0:0≤i) (h1:i < (l.length:Int)) : ∃ n:Nat,i=(n:Int)∧n < l.length∧idxO l i=l[n]?:=by
 refine ⟨i.toNat,by omega,by omega,?_⟩;unfold idxO;rw [if_pos h0]
theorem f54_eq (k:Nat) (fs:List DFunc) (x:Int) (hk:2 * szP (.mk fs) + 1≤k) (hk2:4 * 600 + 1≤k) (hf:fitP (.mk fs)) :
  f54 k (.mk fs) x=some (match uFr (.mk fs) with | .error c=>.error c | .ok y=>cond (decide (0≤x) && decide (x < (fs.length:Int))) (match y.2[x.toNat]? with | some l=>.ok (stP (.mk fs),l) | none=>.error 2) (.error 2)):=by
 have h50:=f50_eq k (.mk fs) hk hf;have h44:=f44_eq k (stP (.mk fs)) (by rw [szP_st]; exact hk) (by omega);unfold f54 f54_b uFr;simp only [h50,Option.bind_some];cases wf true (.mk fs) with
 | false=>rfl
 | true =>
  simp only [stP] at h44;simp only [cond_true,stP,h44,Option.bind_some];cases hu:uP (.mk (stFs fs)) with
  | error c=>rfl
  | ok y =>
   obtain ⟨⟨q⟩,nl⟩:=y;obtain ⟨_,_,_,z,hz,h4⟩:=uP_ok hu;obtain ⟨hl,_⟩:=uFs_at _ _ _ _ h4;rw [stFs_len] at hl;simp only [f58_eq,Option.bind_some,hl];by_cases h0:0≤x
   ·have h0' : decide (x ≥ 0)=true:=by simpa using h0
    have h0'' : decide (0≤x)=true:=by simpa using h0
    simp only [h0',h0'',cond_true,Bool.true_and];by_cases h1:x < (fs.length:Int)
    ·have h1' : decide (x < (fs.length:Int))=true:=by simpa using h1
     obtain ⟨n,rfl,hn,hi⟩:=idxO_some (l:=nl) h0 (by rw [hl]; exact h1);obtain ⟨m,hm⟩ : ∃ m,nl[n]?=some m:=⟨_,List.getElem?_eq_getElem hn⟩;rw [hm] at hi;simp only [h1',cond_true,Int.toNat_natCast,hm];unfold f54_j1 f54_j2;simp only [hi,Option.bind_some]
    ·have h1' : decide (x < (fs.length:Int))=false:=by simpa using h1
     simp only [h1',cond_false]
   ·have h0' : decide (x ≥ 0)=false:=by simpa using h0
    have h0'' : decide (0≤x)=false:=by simpa using h0
    simp only [h0',h0'',cond_false,Bool.false_and]
theorem f29_eq (k:Nat) (fs:List DFunc) (n:Nat) (hn:n < fs.length) (y:DProgram × List (List ByteArray)) (hu:uFr (.mk fs)=.ok y) (hk:2 * szP (.mk fs) + 1≤k) (hk2:4 * 600 + 1≤k) (hf:fitP (.mk fs)) :
  ∃ l,y.2[n]?=some l∧f29 k (.mk fs) (n:Int)=some l:=by
 have h24:=f24_eq k (.mk fs) hk hf;unfold uFr at hu;cases hw:wf true (.mk fs) with
 | false=>rw [hw] at hu; cases hu
 | true =>
  rw [hw] at hu;obtain ⟨q,nl⟩:=y;have hu:uP (.mk (stFs fs))=.ok (q,nl):=hu;obtain ⟨hw2,_,_,z,hz,h4⟩:=uP_ok hu;obtain ⟨hl,hat⟩:=uFs_at _ _ _ _ h4;obtain ⟨f,hfn⟩ : ∃ f,(stFs fs)[n]?=some f:=⟨_,List.getElem?_eq_getElem (by rw [stFs_len]; exact hn)⟩;obtain ⟨g,m,h5,h6,h7⟩:=hat n f hfn;simp only [wf,Bool.and_eq_true,decide_eq_true_eq] at hw2;obtain ⟨nm,vis,er,y,z,h8,h9⟩:=f46_eq k (stFs fs) f (szSs_bound (List.mem_of_getElem? hfn) hw2.2 hw2.1.2) hk2;rw [h5] at h9;obtain ⟨_,_,rfl⟩:=h9;refine ⟨nm,h6,?_⟩;unfold f29 f29_b f29_j1;simp only [h24,stP,Option.bind_some];have hi:idxO (stFs fs) (n:Int)=some f:=by unfold idxO; simp [hfn]
  simp only [hi,Option.bind_some];obtain ⟨a0,a1,a2,a3,a4,a5⟩:=f;obtain ⟨b0,b1,b2,b3,b4,b5⟩:=y;obtain ⟨c0,c1,c2,c3,c4,c5⟩:=z;simp only [h8,Option.bind_some]
set_option maxRecDepth 100000 in
theorem digits_all (k:Nat):(List.range 33).all (fun n=>decide (f74 (k + 2) (n:Int)=some (itoaS n)))=true:=by kernel_rfl
theorem f74_eq (k n:Nat) (h:n < 33):f74 (k + 2) (n:Int)=some (itoaS n):=of_decide_eq_true (List.all_eq_true.1 (digits_all k) n (List.mem_range.2 h))
theorem f72_eq (k n:Nat) (h:n < 100):f72 k (n:Int)=some (itoaS n):=by
 unfold f72;rw [decide_eq_true (show 0≤(n:Int)∧(n:Int) < 100 by omega)];rfl
set_option maxRecDepth 100000 in
theorem digits_differ:((List.range 33).map (fun (n:Nat)=>(itoaS n).data.toList)).Nodup:=by
 have h:decide ((List.range 33).map (fun (n:Nat)=>(itoaS n).data.toList)).Nodup=true:=by kernel_rfl
 exact of_decide_eq_true h
theorem append_data (a b:ByteArray):(a ++ b).data.toList=a.data.toList ++ b.data.toList:=by
 rw [ByteArray.data_append,Array.toList_append]
theorem names_differ (b:ByteArray):((List.range 33).map (fun (n:Nat)=>b ++ itoaS n)).Nodup:=by
 have h:=digits_differ;unfold List.Nodup at h ⊢;rw [List.pairwise_map] at h ⊢;refine h.imp fun hxy e=>hxy ?_
 have e2:=congrArg (fun x=>x.data.toList) e;simp only [append_data] at e2;exact List.append_cancel_left e2
theorem length_le_of_nodup {α:Type} [DecidableEq α] : ∀ (xs l:List α),xs.Nodup→(∀ x ∈ xs,x ∈ l)→xs.length≤l.length
 | [],_,_,_=>by simp
 | x :: xs,l,hn,hs=>by
  have hx:x ∈ l:=hs x (by simp);rw [List.nodup_cons] at hn;have:=length_le_of_nodup xs (l.erase x) hn.2 (fun y hy=>by
   refine (List.mem_erase_of_ne ?_).2 (hs y (by simp [hy]));rintro rfl;exact hn.1 hy)
  rw [List.length_erase_of_mem hx] at this;have:=List.length_pos_of_mem hx;simp only [List.length_cons];omega
theorem first_false (P:Nat→Bool) : ∀ m,P m=false→∃ m0,m0≤m∧P m0=false∧∀ j,j < m0→P j=true:=by
 intro m;induction m using Nat.strongRecOn with
 | ind m ih =>
  intro h;by_cases hj : ∃ j,j < m∧P j=false
  ·obtain ⟨j,h1,h2⟩:=hj;obtain ⟨m0,h3,h4,h5⟩:=ih j h1 h2;exact ⟨m0,by omega,h4,h5⟩
  ·refine ⟨m,Nat.le_refl _,h,fun j hlt=>?_⟩;cases e:P j with
   | true=>rfl
   | false=>exact absurd ⟨j,hlt,e⟩ hj
def takenB (l:List ByteArray) (b:ByteArray) (n:Nat):Bool:=l.any (seq (b ++ itoaS n))
theorem some_free (l:List ByteArray) (b:ByteArray) (hl:l.length≤32) : ∃ m,m < 33∧takenB l b m=false:=by
 apply Classical.byContradiction;intro hc;have:=length_le_of_nodup ((List.range 33).map (fun (n:Nat)=>b ++ itoaS n)) l (names_differ b) (fun x hx=>by
  obtain ⟨n,hn,rfl⟩:=List.mem_map.1 hx;cases e:takenB l b n with
  | false=>exact absurd ⟨n,List.mem_range.1 hn,e⟩ hc
  | true =>
   obtain ⟨y,hy,h2⟩:=List.any_eq_true.1 e;rw [seq_eq h2];exact hy)
 simp at this;omega
theorem free_at (l:List ByteArray) (b:ByteArray) (hl:l.length≤32) : ∃ m,m < 33∧takenB l b m=false∧∀ j,j < m→takenB l b j=true:=by
 obtain ⟨m,h1,h2⟩:=some_free l b hl;obtain ⟨m0,h3,h4,h5⟩:=first_false (takenB l b) m h2;exact ⟨m0,by omega,h4,h5⟩
theorem f64_eq (k:Nat) (l:List ByteArray) (a:ByteArray):f64 k l a=some (l.any (seq a)):=by
 unfold f64 f64_b f93 f93_b;obtain ⟨r,h1,h2⟩:=f93_l1_eq k a l 0;simp [h1,h2]
theorem f73_l1_eq (k:Nat) (a:ByteArray) : ∀ (l:List ByteArray) (i:Nat),f73_l1 k a l i=some (l.any (seq a))
 | [],i=>rfl
 | e :: l,i=>by
  unfold f73_l1;rw [seq_comm e a];cases h:seq a e
  ·simp [h,f73_l1_eq k a l]
  ·simp [h]
theorem f73_eq (k:Nat) (l:List ByteArray) (a:ByteArray):f73 k l a=some (l.any (seq a)):=f73_l1_eq k a l 0
theorem itoa_small (n:Nat) (h:n < 33):(itoaS n).size≤2:=by
 have h1:(List.range 33).all (fun n=>decide ((itoaS n).size≤2))=true:=by kernel_rfl
 exact of_decide_eq_true (List.all_eq_true.1 h1 n (List.mem_range.2 h))
theorem join_small (b:ByteArray) (hb:b.size≤20) (n:Nat) (h:n < 33):(b ++ itoaS n).size≤maxB:=by
 have:=itoa_small n h;rw [ByteArray.size_append];unfold maxB;omega
theorem w64_next (n:Nat) (h:n < 33):w64 ((n:Int) + 1)=((n + 1:Nat):Int):=w64_nat (by omega) (by omega)
theorem walk_names (k:Nat) (s:List DFunc) (x:Int) (b:ByteArray) (l:List ByteArray) (hb:b.size≤20) (m:Nat) (hm:m < 33) (h0:takenB l b m=false) (h1 : ∀ j,j < m→takenB l b j=true) :
  ∀ (d n fuel:Nat),n + d=m→d < fuel→f1007133_w1 k s x b l fuel (n:Int)=some (.ok (.mk s,x,b,b ++ itoaS m)):=by
 intro d;induction d with
 | zero =>
  intro n fuel hn hf;obtain ⟨j,rfl⟩ : ∃ j,fuel=j + 1:=⟨fuel - 1,by omega⟩;obtain rfl:n=m:=by omega
  unfold f1007133_w1;simp only [f72_eq k n (by omega),Option.bind_some,f64_eq];rw [guard_le (join_small b hb n hm)];have h0' : l.any (seq (b ++ itoaS n))=false:=h0;simp only [Option.bind_some,h0',cond_false];rw [guard_le (join_small b hb n hm)]
 | succ d ih =>
  intro n fuel hn hf;obtain ⟨j,rfl⟩ : ∃ j,fuel=j + 1:=⟨fuel - 1,by omega⟩;unfold f1007133_w1;simp only [f72_eq k n (by omega),Option.bind_some,f64_eq];rw [guard_le (join_small b hb n (by omega))];have h1' : l.any (seq (b ++ itoaS n))=true:=h1 n (by omega);simp only [Option.bind_some,h1',cond_true];rw [w64_next n (by omega)];exact ih (n + 1) j (by omega) (by omega)
theorem walk_ref (k:Nat) (b:ByteArray) (l:List ByteArray) (hb:b.size≤20) (m:Nat) (hm:m < 33) (h0:takenB l b m=false) (h1 : ∀ j,j < m→takenB l b j=true) :
  ∀ (d n fuel:Nat),n + d=m→d < fuel→f38_w1 (k + 2) b l fuel (n:Int)=some (b ++ itoaS m):=by
 intro d;induction d with
 | zero =>
  intro n fuel hn hf;obtain ⟨j,rfl⟩ : ∃ j,fuel=j + 1:=⟨fuel - 1,by omega⟩;obtain rfl:n=m:=by omega
  unfold f38_w1;simp only [f74_eq k n (by omega),Option.bind_some,f73_eq];rw [guard_le (join_small b hb n hm)];have h0' : l.any (seq (b ++ itoaS n))=false:=h0;simp only [Option.bind_some,h0',cond_false];rw [guard_le (join_small b hb n hm)]
 | succ d ih =>
  intro n fuel hn hf;obtain ⟨j,rfl⟩ : ∃ j,fuel=j + 1:=⟨fuel - 1,by omega⟩;unfold f38_w1;simp only [f74_eq k n (by omega),Option.bind_some,f73_eq];rw [guard_le (join_small b hb n (by omega))];have h1' : l.any (seq (b ++ itoaS n))=true:=h1 n (by omega);simp only [Option.bind_some,h1',cond_true];rw [w64_next n (by omega)];exact ih (n + 1) j (by omega) (by omega)
theorem uFs_len (gs:List DFunc) {l q:List DFunc} {nl:List (List ByteArray)} (h:uFs gs l=.ok (q,nl)) {n:Nat} {x:List ByteArray} (hx:nl[n]?=some x):x.length≤32:=by
 obtain ⟨h1,h2⟩:=uFs_at gs l q nl h;have hn:n < l.length:=by rw [← h1]; exact (List.getElem?_eq_some_iff.1 hx).1
 obtain ⟨f,hf⟩ : ∃ f,l[n]?=some f:=⟨_,List.getElem?_eq_getElem hn⟩;obtain ⟨g,m,h3,h4,h5⟩:=h2 n f hf;obtain rfl:m=x:=by rw [h4] at hx; exact Option.some.inj hx
 obtain ⟨a0,a1,a2,a3,a4,a5⟩:=f;unfold uF at h3;obtain ⟨nm,vis,er,_,h3⟩:=eb3_ok h3;obtain ⟨nm1,vis1,er1,_,h3⟩:=eb3_ok h3;unfold uD at h3;cases hd:decide (nm1.length≤32) with
 | false=>rw [hd] at h3; cases h3
 | true =>
  rw [hd] at h3;cases h3;exact of_decide_eq_true hd
theorem uFr_len {p:DProgram} {y:DProgram × List (List ByteArray)} (h:uFr p=.ok y) {n:Nat} {x:List ByteArray} (hx:y.2[n]?=some x):x.length≤32:=by
 obtain ⟨fs⟩:=p;obtain ⟨q,nl⟩:=y;unfold uFr at h;cases hw:wf true (.mk fs) with
 | false=>rw [hw] at h; cases h
 | true =>
  rw [hw] at h;obtain ⟨_,_,_,z,_,h4⟩:=uP_ok (fs:=stFs fs) (q:=q) (nl:=nl) h;exact uFs_len _ h4 hx
theorem f36_eq (k:Nat) (fs:List DFunc) (x:Int) (b:ByteArray) (hb:b.size≤20) (hk:2 * szP (.mk fs) + 1≤k) (hk2:4 * 600 + 1≤k) (hf:fitP (.mk fs)) :
  ∃ r,f36 k (.mk fs) x b=some r∧match uFr (.mk fs) with
   | .error c=>r=(⟨#[]⟩,c)
   | .ok y=>match cond (decide (0≤x) && decide (x < (fs.length:Int))) y.2[x.toNat]? none with
    | none=>r=(⟨#[]⟩,2)
    | some l=>match isN (b ++ ⟨#[57,57]⟩) with
     | false=>r=(⟨#[]⟩,2)
     | true=>∃ m,m < 33∧takenB l b m=false∧(∀ j,j < m→takenB l b j=true)∧r=(b ++ itoaS m,0):=by
 have h54:=f54_eq k fs x hk hk2 hf;have e99:f72 k 99=some ⟨#[57,57]⟩:=by kernel_rfl
 have hg:(b ++ (⟨#[57,57]⟩:ByteArray)).size≤maxB:=by
  have:(⟨#[57,57]⟩:ByteArray).size=2:=rfl;rw [ByteArray.size_append];unfold maxB;omega
 unfold f36 f36_b f1004227 f1007133 f1007133_b;simp only [h54,Option.bind_some];cases hu:uFr (.mk fs) with
 | error c=>exact ⟨_,rfl,rfl⟩
 | ok y =>
  simp only;cases hc:decide (0≤x) && decide (x < (fs.length:Int)) with
  | false=>exact ⟨_,rfl,rfl⟩
  | true =>
   simp only [cond_true];cases hl:y.2[x.toNat]? with
   | none=>exact ⟨_,rfl,rfl⟩
   | some l =>
    simp only [stP,e99,Option.bind_some,f63_eq,f58_eq];rw [guard_le hg];cases hi:isN (b ++ ⟨#[57,57]⟩) with
    | false=>exact ⟨_,rfl,rfl⟩
    | true =>
     obtain ⟨m,h1,h2,h3⟩:=free_at l b (uFr_len hu hl);have hw:=walk_names k fs x b l hb m h1 h2 h3 m 0 k (by omega) (by omega);simp only [cond_true,Option.bind_some];rw [show ((0:Nat):Int)=0 from rfl] at hw;rw [hw];exact ⟨_,rfl,m,h1,h2,h3,rfl⟩
theorem f38_eq (k:Nat) (fs:List DFunc) (n:Nat) (b:ByteArray) (hb:b.size≤20) (l:List ByteArray) (h29:f29 (k + 2) (.mk fs) (n:Int)=some l) (m:Nat) (h1:m < 33) (h2:takenB l b m=false) (h3 : ∀ j,j < m→takenB l b j=true) (hk:33≤k) :
  f38 (k + 2) (.mk fs) (n:Int) b=some (b ++ itoaS m):=by
 unfold f38 f38_b;simp only [h29,Option.bind_some];exact walk_ref k b l hb m h1 h2 h3 m 0 (k + 2) (by omega) (by omega)
theorem cut_size (a:ByteArray):(a.extract 0 (imin (a.size:Int) 20).toNat).size≤20:=by
 rw [ByteArray.size_extract];unfold imin;split <;> omega
theorem f11_eq (k:Nat) (p:DProgram) (x:Int) (a:ByteArray) (hk:2 * szP p + 2500≤k) (hf:fitP p):f11 (k + 100) p x a=some true:=by
 obtain ⟨b0,h13⟩:=f13_tot (k + 100) p (by omega);have h27:=f27_eq (k + 100) p (by omega) (by omega) hf;obtain ⟨fs⟩:=p;have hb:=cut_size a;unfold f11 f11_b;simp only [h13,f14_eq,h27,Option.bind_some];cases b0 with
 | false=>rfl
 | true =>
  have hg:0≤imin (a.size:Int) 20∧imin (a.size:Int) 20≤(a.size:Int):=by unfold imin; split <;> omega
  simp only [Bool.not_true,cond_false];rw [show ∀ (z:Option Bool),guardB (decide (0≤imin (a.size:Int) 20∧imin (a.size:Int) 20≤(a.size:Int))) z=z from fun z=>by unfold guardB; rw [decide_eq_true hg]; rfl];generalize hbd:a.extract 0 (imin (a.size:Int) 20).toNat=b at hb ⊢;obtain ⟨r,h36,hr⟩:=f36_eq (k + 100) fs x b hb (by omega) (by omega) hf;have hg2:(b ++ (⟨#[57,57]⟩:ByteArray)).size≤maxB:=by
   have:(⟨#[57,57]⟩:ByteArray).size=2:=rfl;rw [ByteArray.size_append];unfold maxB;omega
  have h37:f37 (k + 100) b=some (isN (b ++ ⟨#[57,57]⟩)):=by
   unfold f37 f37_b;rw [guard_le hg2,f34_eq];rfl
  obtain ⟨s,e⟩:=r;simp only [h36,Option.bind_some,h37];have bad:f11_j4 (k + 100) fs x a ⟨#[]⟩ 2 0 true=some true:=by
   unfold f11_j4 f11_j1 f11_j2;simp only [cond_true,seq_refl,beq_self_eq_true,f14_eq,Option.bind_some];rfl
  cases hu:uFr (.mk fs) with
  | error c =>
   rw [hu] at hr;cases hr;have hc:=uFr_err hu;have h1:(e == 0)=false:=by simpa using hc
   have h2:(e != 0)=true:=by simpa using hc
   simp only [h1,cond_false];unfold f11_j4 f11_j1 f11_j2;simp only [cond_false,h2,cond_true,seq_refl,beq_self_eq_true,f14_eq,Option.bind_some]
  | ok y =>
   rw [hu] at hr;have h29:=fun n hn=>f29_eq (k + 98 + 2) fs n hn y hu (by omega) (by omega) hf
   obtain ⟨⟨q⟩,nl⟩:=y;simp only [beq_self_eq_true,cond_true];by_cases h0:x < 0
   ·have h0' : decide (0≤x)=false:=decide_eq_false (by omega);simp only [h0',Bool.false_and,cond_false] at hr;cases hr;simp only [decide_eq_true h0,cond_true];exact bad
   ·by_cases h1:x < (fs.length:Int)
    ·obtain ⟨n,rfl⟩ : ∃ n:Nat,x=(n:Int):=⟨x.toNat,by omega⟩;obtain ⟨l,h3,h4⟩:=h29 n (by omega);have h5:decide (0≤(n:Int))=true:=decide_eq_true (by omega);have h6 : ∀ (z:Bool),decide ((n:Int) ≥ (fs.length:Int))=false:=fun _=>decide_eq_false (by omega)
     simp only [h5,decide_eq_true h1,Bool.true_and,cond_true,Int.toNat_natCast,h3] at hr;simp only [decide_eq_false h0,cond_false,h6 true];cases hi:isN (b ++ ⟨#[57,57]⟩) with
     | false =>
      rw [hi] at hr;cases hr;exact bad
     | true =>
      rw [hi] at hr;obtain ⟨m,g1,g2,g3,g4⟩:=hr;cases g4;have h38:=f38_eq (k + 98) fs n b hb l h4 m g1 g2 g3 (by omega);unfold f11_j4 f11_j1;simp only [Bool.not_true,cond_false,hbd,h38,bne_self_eq_false,Option.bind_some,seq_refl,beq_self_eq_true,cond_true,f14_eq];rfl
    ·have h1' : decide (x < (fs.length:Int))=false:=decide_eq_false h1;simp only [h1',Bool.and_false,cond_false] at hr;cases hr;simp only [decide_eq_false h0,cond_false,decide_eq_true (show x ≥ (fs.length:Int) by omega),cond_true];exact bad
end Go.Proofs.YtoajecnoffhlbaaGreatDoor
