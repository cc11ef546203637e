/- Words of the same proof, part 4: what the last text needs; nothing is claimed here. -/
import Derived.Test.YtoajecnoffhlbaaDoorG3
set_option linter.unusedVariables false
set_option linter.unusedSimpArgs false
set_option maxRecDepth 100000
set_option maxHeartbeats 4000000
namespace Go.Proofs.YtoajecnoffhlbaaDoor
open Go
theorem f1003670_b_ok (k:Nat):f1003670_spec (f1003670_b k):=by
 unfold f1003670_spec
 intro K wi e X Y gr bsr g bs m p q s t u x D G y I J z N O A S U B V W aL h hG ac av aw ax ay az aA aB aE
 obtain ⟨r_,hr_,h⟩:=rz h
 refine enter Tryd.func36 rfl (n:=19) rfl ?_
 unfold f1003670_b at h
 refine sr (m2 (iI 0) (wt (wp_seq (sr (m1 (sl X e Y) (lS e.length Tye22 (m1 (iI 0) (wt (wp_block (wp_loopG (fun g_ a w=>∃ ad C f,∃ (c:Nat),g_=f.length∧a=fr 19 (updL ad [(0,sl X e Y),(1,.func (.func 58) #[] #[pp gr 0]),(7,iI (e.length:Int)),(8,iI (c:Int))])∧KH.sub K C∧SR K C wi w [.box bsr gr #[pp g 0] 101,.box bs g (vS m p q s t u D x G I y J N z O S A U V B W).toArray 47] [.box bs g (vS m p q s t u D x G I y J N z O S A U V B W).toArray 47,.box bsr gr #[pp g 0] 101]∧e.drop c=f∧f1003670_l1 k m p q s t u x y z A B f c=some r_) e.length ?_ ?_))))))))))
 ·exact ⟨_,K,e,0,rfl,fR,kr,(aE.sel [1,0]),List.drop_zero,h⟩
 ·rintro _ _ aF ⟨ad,C,f,c,rfl,rfl,d,Z,l,h⟩
  rcases f with _ | ⟨⟨ae,af,ag,ah,ai,aj⟩,f⟩
  ·unfold f1003670_l1 at h
   refine sr (bcm (r:=false) rfl rfl (congrArg some (drop_nil_lt l)) (wt (wp_seq (cndF rfl (wp_exit (thenX (thenX (blkX (thenN (sr (m2 (iI (-1)) (wt (wp_ret ?_)))))))))))))
   cases (oi h).trans hr_
   exact retA1 rfl (resT rfl) ⟨C,rfl,(Z.sel [1,0])⟩
  ·unfold f1003670_l1 at h
   refine sr (bcm (r:=true) rfl rfl (congrArg some (drop_cons_t l)) (wt (wp_seq (cndT rfl (wp_skip (thenN (wp_seq (wp_block (sr (m1 (iI (c:Int)) (m2 (iI (c:Int)) (wt (sr (m1 (.func (.func 58) #[] #[pp gr 0]) (m1 (sl X e Y) (m1 (iI (c:Int)) ?_))))))))))))))))
   obtain ⟨aG,aH,aM,aI,aN,aJ,ak⟩:=((mf ac d)).row.at_ (drop_cons_at l)
   obtain ⟨al,am,an,ao,rfl,aP,aQ,aR⟩:=RDFunc.open ak
   refine idxN (b:=aG) (o:=aH) (i:=c) Tye22 Tys34 rfl aI rfl (drop_cons_lt l) (lD (vF ae al af am ag ah ai an aj ao) Tya34 Tys34 rfl (fun j v hj=>Z.cell (kr.cell (aJ j v hj))) ?_)
   have ap:=p10 Z
   obtain ⟨aS,aK,h⟩:=ob h
   refine clV (caps:=#[pp gr 0]) (vs:=[.agg (vF ae al af am ag ah ai an aj ao).toArray,pp gr 0]) rfl Tyb58 rfl ((f1005844_ok k) aK (hG.mono d) ak av aw (me ax d) (ms ay d) (ms az d) (ms aA d) (mc aB d) (pt ap)) ?_
   rintro _ aT ⟨aq,rfl,ar⟩
   have au:=ca ar ap
   refine wt (cd h (fun ab h=>?_) (fun ab h=>?_))
   ·refine cT ab (sr (m1 (iI (c:Int)) (m2 (iI (c:Int)) (wt (wp_ret (blkR (thenR (thenR (blkR (thenR ?_))))))))))
    cases (oi h).trans hr_
    exact retA1 rfl (resT rfl) ⟨aq,rfl,au⟩
   ·exact cF ab (wp_skip (blkN (thenN (wp_region_lit (bar (r:=((c + 1:Nat):Int)) rfl rfl (inc_ok (le_big (((mf ac d)).len) (by decide) (drop_cons_lt l))) (m1 (iI ((c + 1:Nat):Int)) (wt (⟨_,Nat.lt_succ_self _,_,aq,f,c + 1,rfl,fR,(d.trans ar.sub),(au.sel [1,0]),drop_cons_next l,h⟩))))))))
theorem f1003670_ok (k:Nat):f1003670_spec (f1003670 k):=f1003670_b_ok k
theorem f49_b_ok (k:Nat):f49_spec (f49_b k):=by
 unfold f49_spec
 intro K wi g bs br A B C I J N O S U V W X Y a u x Z c y z ab ac gA bsA sA_0 sA_1 sA_2 sA_3 sA_4 sA_5 sA_6 AsA_6 csA_6 sA_7 AsA_7 csA_7 sA_8 AsA_8 csA_8 sA_9 AsA_9 csA_9 sA_10 AsA_10 csA_10 r_ h hG al au av aw ax ay az aA hbr hsA_1 hsA_3 hsA_6 hsA_7 hsA_8 hsA_9 hsA_10 aj
 refine enter Tryd.func49 rfl (n:=47) rfl ?_
 unfold f49_b at h
 refine sr (bxoC (cs:=#[pp gA 0]) aj rfl rfl (fun aB aj=>(wt (sr (m1 (pp g 0) (nilc rfl (fd 0 Tyf84_0 rfl (fd 0 Tyf24_0 rfl (l1 1 (sl B A C) aj Tya22 (mkf (us:=[]) (vs:=[pp (zz wi) 0]) rfl rfl ?_))))))))))
 have aq:=p04123 aj
 obtain ⟨q,aE,h⟩:=ob h
 refine cv ([sl B A C,.func (.func 58) #[] #[pp (zz wi) 0]]) Tyb36 ((f1003670_ok k) aE (hG.mono kr) al hsA_1 hsA_3 hsA_6 hsA_7 hsA_8 hsA_9 hsA_10 (pt aq)) ?_
 rintro _ a6 ⟨a7,rfl,d⟩
 have am:=ca d aq
 refine m2 (iI q) (wt (sr (m1 (iI q) (c0 (decide (q ≥ 0)) ?_))))
 obtain ⟨a8,aF,h⟩:=ob h
 refine cp ([.bool (decide (q ≥ 0)),iI 20]) Tyb25 ((f25_ok k) aF (hG.mono d.sub) (pt am)) ?_ ?_
 ·rintro _ ak ⟨aG,rfl,rfl,e⟩
  have an:=ca e am
  refine wt (sr (m1 (pp g 0) (nilc rfl (fd 0 Tyf84_0 rfl (fd 0 Tyf24_0 rfl (l1 2 (sl B A C) an Tya22 (m1 (iI q) ?_)))))))
  obtain ⟨⟨ad,f,ae,s,af,ag⟩,ao,h⟩:=ob h
  obtain ⟨aH,aI,a9,aJ,ba,aK,aL⟩:=((mf al (d.sub.trans e.sub))).row.at_ (idxO_at ao).1
  obtain ⟨D,G,ah,ai,rfl,bb,bd,be⟩:=RDFunc.open aL
  refine idxG (b:=aH) (o:=aI) (i:=q) Tye22 Tys34 rfl aJ rfl (idxO_at ao).2.1 (idxO_at ao).2.2 (lD (vF ad D f G ae s af ah ag ai) Tya34 Tys34 rfl (fun j v hj=>an.cell (kr.cell (aK j v hj))) (aC zF.toArray an Tyz34 (fun bf aM=>(sI 0 (.agg (vF ad D f G ae s af ah ag ai).toArray) ((vF ad D f G ae s af ah ag ai).toArray) aM Tys34 rfl rfl (fun bg aN=>(wt (wp_seq (have m:=aN.drew;(regAny (E:=[]) (F:=FW aG [.box (zz wi) (zz ak) (vF ad D f G ae s af ah ag ai).toArray 34,.box (zz wi) (zz wi) #[pp gA 0] 101,.box bsA gA (vS sA_0 sA_1 sA_2 sA_3 sA_4 sA_5 AsA_6 sA_6 csA_6 AsA_7 sA_7 csA_7 AsA_8 sA_8 csA_8 AsA_9 sA_9 csA_9 AsA_10 sA_10 csA_10).toArray 47,.box bs g (vR B A C I N J O S U V X W Y u a x y c z ac).toArray 84,.row br (sl u a x) 9 1 a.length Z,.stk br (sl y c z) 81 c.length ab]) (L:=(lb 9 0)) ymx rfl rfl (tk 0 (pp (zz ak) 3) (lb 9 1) rfl (fun w=>fld_r (o':=3) Tyf34_3 rfl rfl) (heldF (fq [0,1,2,3,4,5] m)) (tf 1 (.bool s) ([]) (lb 9 3) rfl (fq [0,1,2,3,4,5] m) (fun w hF=>lb1_r (i:=0) (v:=.bool s) hF rfl Tya4 rfl rfl) (tf 2 (pp gA 0) ([]) (lb 9 7) rfl (fq [0,1,2,3,4,5] m) (fun w hF=>lb1_r (i:=1) (v:=pp gA 0) hF rfl Tya101 rfl rfl) (tk 3 (pp gA 0) (lb 9 15) rfl (fun w=>nilc_r rfl) (heldF (fq [0,1,2,3,4,5] m)) (tk 4 (pp gA 0) (lb 9 31) rfl (fun w=>fld_r (o':=0) Tyf47_0 rfl rfl) (heldF (fq [0,1,2,3,4,5] m)) (tf 5 (iI sA_0) ([]) (lb 9 63) rfl (fq [0,1,2,3,4,5] m) (fun w hF=>lb1_r (i:=2) (v:=iI sA_0) hF rfl Tya3 rfl rfl) (tk 6 (.bool (sA_0 == 28)) (lb 9 127) rfl (fun w=>bcm_r (r:=(sA_0 == 28)) rfl rfl rfl) (heldF (fq [0,1,2,3,4,5] m)) (tk 7 (.bool (s == (sA_0 == 28))) (lb 9 255) rfl (fun w=>bbo_r (r:=(s == (sA_0 == 28))) Tyo4 rfl rfl rfl) (heldF (fq [0,1,2,3,4,5] m)) (aO 8 rfl ?_))))))))))))))))))
  obtain ⟨bh,aP,h⟩:=ob h
  refine cp ([.bool (s == (sA_0 == 28)),iI 25]) Tyb25 ((f25_ok k) aP (hG.mono (d.sub.trans e.sub)) (pt m)) ?_ ?_
  ·rintro _ bi ⟨aQ,rfl,rfl,p⟩
   have ar:=ca p m
   refine wt ⟨heldF (fwOf (is:=[0,1,2,3,4,5]) ar p.sub rfl),aD (thenN (wp_seq (have l:=ar.drew;(regAny (E:=[]) (F:=FW aQ [.box (zz wi) (zz ak) (vF ad D f G ae s af ah ag ai).toArray 34,.box (zz wi) (zz wi) #[pp gA 0] 101,.box bsA gA (vS sA_0 sA_1 sA_2 sA_3 sA_4 sA_5 AsA_6 sA_6 csA_6 AsA_7 sA_7 csA_7 AsA_8 sA_8 csA_8 AsA_9 sA_9 csA_9 AsA_10 sA_10 csA_10).toArray 47,.box bs g (vR B A C I N J O S U V X W Y u a x y c z ac).toArray 84,.row br (sl u a x) 9 1 a.length Z,.stk br (sl y c z) 81 c.length ab]) (L:=(lb 10 0)) ymx rfl rfl (tk 0 (pp (zz ak) 1) (lb 10 1) rfl (fun w=>fld_r (o':=1) Tyf34_1 rfl rfl) (heldF (fq [0,1,2,3,4,5] l)) (tf 1 (sl D f G) ([]) (lb 10 3) rfl (fq [0,1,2,3,4,5] l) (fun w hF=>lb1_r (i:=0) (v:=sl D f G) hF rfl Tya31 rfl rfl) (tk 2 (iI (f.length:Int)) (lb 10 7) rfl (fun w=>lnS_r (len:=f.length) Tye31 rfl) (heldF (fq [0,1,2,3,4,5] l)) (tf 3 (pp gA 0) ([]) (lb 10 15) rfl (fq [0,1,2,3,4,5] l) (fun w hF=>lb1_r (i:=1) (v:=pp gA 0) hF rfl Tya101 rfl rfl) (tk 4 (pp gA 0) (lb 10 31) rfl (fun w=>nilc_r rfl) (heldF (fq [0,1,2,3,4,5] l)) (tk 5 (pp gA 6) (lb 10 63) rfl (fun w=>fld_r (o':=6) Tyf47_6 rfl rfl) (heldF (fq [0,1,2,3,4,5] l)) (tf 6 (sl AsA_6 sA_6 csA_6) ([]) (lb 10 127) rfl (fq [0,1,2,3,4,5] l) (fun w hF=>lb1_r (i:=2) (v:=sl AsA_6 sA_6 csA_6) hF rfl Tya44 rfl rfl) (tk 7 (iI (sA_6.length:Int)) (lb 10 255) rfl (fun w=>lnS_r (len:=sA_6.length) Tye44 rfl) (heldF (fq [0,1,2,3,4,5] l)) (tk 8 (.bool ((f.length:Int) == (sA_6.length:Int))) (lb 10 511) rfl (fun w=>bcm_r (r:=((f.length:Int) == (sA_6.length:Int))) rfl rfl rfl) (heldF (fq [0,1,2,3,4,5] l)) (aO 9 rfl ?_))))))))))))))⟩
   obtain ⟨bj,aR,h⟩:=ob h
   refine cp ([.bool ((f.length:Int) == (sA_6.length:Int)),iI 24]) Tyb25 ((f25_ok k) aR (hG.mono ((d.sub.trans e.sub).trans p.sub)) (pt l)) ?_ ?_
   ·rintro _ bk ⟨aS,rfl,rfl,t⟩
    have ap:=ca t l
    exact wt ⟨heldF (fwOf (is:=[0,1,2,3,4,5]) ap t.sub rfl),aD (thenN (wp_region_lit (l1 1 (pp gA 0) ap Tya101 (m1 (iI q) (nilc rfl (fd 4 Tyf47_4 rfl (sI 2 (iI q) ((vS sA_0 sA_1 sA_2 sA_3 q sA_5 AsA_6 sA_6 csA_6 AsA_7 sA_7 csA_7 AsA_8 sA_8 csA_8 AsA_9 sA_9 csA_9 AsA_10 sA_10 csA_10).toArray) ap Tys3 rfl rfl (fun bm aT=>(wpList_nil (retP (end0 rfl ⟨A,I,J,S,U,V,W,a,c,ac,sA_0,sA_1,sA_2,sA_3,q,sA_5,sA_6,sA_7,sA_8,sA_9,sA_10,aS,B,C,N,O,X,Y,u,x,Z,y,z,ab,AsA_6,csA_6,AsA_7,csA_7,AsA_8,csA_8,AsA_9,csA_9,AsA_10,csA_10,(oi h).symm,rfl,(aT.sel [3,4,5,2]),(mf al (((d.sub.trans e.sub).trans p.sub).trans t.sub)),au,(mp av (((d.sub.trans e.sub).trans p.sub).trans t.sub)),(ms aw (((d.sub.trans e.sub).trans p.sub).trans t.sub)),(ax.mono (fun _ _ h=>h)),ay,(StkR.mono (fun _ _ h=>h) az),aA,hsA_1,hsA_3,(me hsA_6 (((d.sub.trans e.sub).trans p.sub).trans t.sub)),(ms hsA_7 (((d.sub.trans e.sub).trans p.sub).trans t.sub)),(ms hsA_8 (((d.sub.trans e.sub).trans p.sub).trans t.sub)),(ms hsA_9 (((d.sub.trans e.sub).trans p.sub).trans t.sub)),(mc hsA_10 (((d.sub.trans e.sub).trans p.sub).trans t.sub))⟩)))))))))))⟩
   ·rintro _ bn ⟨aU,aV,rfl,rfl,aW⟩
    have aX:=ca aW l
    exact thenP (thenP (panE (.inr ⟨_,rfl,aU,aV,(oi h).symm,rfl,aX.sel []⟩)))
  ·rintro _ bo ⟨aY,aZ,rfl,rfl,a0⟩
   have a1:=ca a0 m
   exact thenP (thenP (panE (.inr ⟨_,rfl,aY,aZ,(oi h).symm,rfl,a1.sel []⟩)))
 ·rintro _ bp ⟨a2,a3,rfl,rfl,a4⟩
  have a5:=ca a4 am
  exact thenP (panE (.inr ⟨_,rfl,a2,a3,(oi h).symm,rfl,a5.sel []⟩))
theorem f49_ok (k:Nat):f49_spec (f49 k):=f49_b_ok k
theorem f39_b_ok (k:Nat) (F:Fam39) (IH39:f39_spec F.f39) (IH1004815:f1004815_spec F.f1004815) (IH1004866:f1004866_spec F.f1004866) (IH1004884:f1004884_spec F.f1004884) (IH1005015:f1005015_spec F.f1005015) (IH1005066:f1005066_spec F.f1005066):f39_spec (f39_b k F):=by
 unfold f39_spec
 intro K wi g bs br an ao ap aq ar au av aw ax ay az aA aB d q s aE f t u aF aG ib ql r_ h hG d9 ea ec ed ee ef eg eh hbr ic id
 obtain ⟨aR,a2,a3,aS,a4,a5,ei,a6,a7,a8,bb⟩:=ib
 obtain ⟨ej,ek,be,bf,bg,bh,bi,bj,bL,bM,rfl,e4,e5,ie,e6,e7,e8,el⟩:=RDStmt.open ic
 refine enter Tryd.func39 rfl (n:=184) rfl ?_
 unfold f39_b at h
 refine sr (bxoC (cs:=(vS aR a2 a3 aS a4 a5 ej ei ek be a6 bf bg a7 bh bi a8 bj bL bb bM).toArray) id rfl rfl (fun ak ig=>(aC zS.toArray ig Tyz47 (fun ih e9=>(wt (sr (m1 (pp g 0) (fd 6 Tyf47_6 rfl (l1 1 (sl ej ei ek) e9 Tya44 ?_)))))))))
 have fa:=p23401 e9
 obtain ⟨qm,ii,h⟩:=ob h
 refine cp ([pp g 0,sl ej ei ek]) Tyb47 ((f47_ok k) ii (hG.mono kr) d9 ea ec ed ee ef eg eh (Nat.le_trans hbr e9.size) ie (pt fa)) ?_ ?_
 ·rintro _ qn ⟨bd,cZ,bk,bm,rfl,rfl,z,fb⟩
  have ij:=ca z fa
  refine fd 6 Tyf47_6 rfl (sI 4 (sl bk bd bm) ((vS aR a2 a3 aS a4 a5 bk bd bm be a6 bf bg a7 bh bi a8 bj bL bb bM).toArray) ij Tys44 rfl rfl (fun ik cH=>(wt (wp_seq (sr (fd 0 Tyf47_0 rfl (l1 4 (iI aR) cH Tya3 (c0 (aR == 27) (wt (cd h (fun fc h=>?_) (fun fc h=>?_)))))))))))
  ·refine cT fc (sr (m2 nS (wt (wp_seq (sr (fd 10 Tyf47_10 rfl (l1 4 (sl bL bb bM) cH Tya45 (lS bb.length Tye45 (m1 (iI 0) (wt (wp_block ?_)))))))))))
   have il:=cH.row_ (zz wi) 56 5
   refine wp_loopG (fun g_ a w=>∃ gM bN cI,∃ (co:Nat),∃ c2 dG dH c4 c5 dI dJ dK dL dM c7 dN dO bO c8 da dP bP db dc dQ dR al bn bo dS,g_=cI.length∧a=fr 184 (updL gM [(0,pp g 0),(3,pp (zz wi) 0),(4,pp (zz ak) 0),(5,sl bn al bo),(19,sl bL bb bM),(20,iI (bb.length:Int)),(21,iI (co:Int))])∧KH.sub cZ bN∧SR K bN wi w [.box bs g (vR ao an ap aq au ar av aw ax ay aA az aB q d s t f u aG).toArray 84,.row br (sl q d s) 9 1 d.length aE,.stk br (sl t f u) 81 f.length aF] [.box bs g (vR dG c2 dH c4 dI c5 dJ dK dL dM dN c7 dO c8 bO da db bP dc dR).toArray 84,.box (zz wi) (zz wi) (vS aR a2 a3 aS a4 a5 bk bd bm be a6 bf bg a7 bh bi a8 bj bL bb bM).toArray 47,.box (zz wi) (zz ak) zS.toArray 47,.row br (sl c8 bO da) 9 1 bO.length dP,.stk br (sl db bP dc) 81 bP.length dQ,.row (zz wi) (sl bn al bo) 56 5 al.length dS]∧bb.drop co=cI∧tF bN dG dH c2∧c4.size ≤ mB∧tP bN dI dJ c5∧tS bN dN dO c7∧Reps RStr 1 bO dP∧bO.length * 16 ≤ mB∧StkR kS VInt bP dQ∧bP.length * 8 ≤ mB∧Reps (RDCase bN) 5 al dS∧al.length * 80 ≤ mB∧f39_l1 k F aR a2 a3 aS a4 a5 a6 a7 a8 bd cI co c2 c4 c5 dK dL dM c7 bO bP dR al=some r_) bb.length ?_ ?_
   ·exact ⟨_,cZ,bb,0,an,ao,ap,aq,ar,au,av,aw,ax,ay,az,aA,aB,d,q,s,aE,f,t,u,aF,aG,([]:LC),none,0,[],rfl,fR,kr,(il.sel [1,5,4,2,3,0]),List.drop_zero,(mf d9 z.sub),ea,(mp ec z.sub),(ms ed z.sub),(ee.mono (fun _ _ h=>h)),ef,(StkR.mono (fun _ _ h=>h) eg),eh,(reps0 (R:=(RDCase cZ)) (size:=5)),(by simp),h⟩
   ·rintro _ _ em ⟨gM,bN,cI,co,c2,dG,dH,c4,c5,dI,dJ,dK,dL,dM,c7,dN,dO,bO,c8,da,dP,bP,db,dc,dQ,dR,al,bn,bo,dS,rfl,rfl,ce,fe,dd,ff,fg,fh,fi,fj,fk,fl,fm,gN,im,h⟩
    rcases cI with _ | ⟨⟨dT,cJ,dU,de,cK⟩,cI⟩
    ·unfold f39_l1 at h
     refine sr (bcm (r:=false) rfl rfl (congrArg some (drop_nil_lt dd)) (wt (wp_seq (cndF rfl (wp_exit (thenX (thenX (blkX (thenN (sr (m1 (sl bn al bo) (fd 10 Tyf47_10 rfl (sI 1 (sl bn al bo) ((vS aR a2 a3 aS a4 a5 bk bd bm be a6 bf bg a7 bh bi a8 bj bn al bo).toArray) fe Tys45 rfl rfl (fun qo gO=>(wt (sr (lN 1 (vS aR a2 a3 aS a4 a5 bk bd bm be a6 bf bg a7 bh bi a8 bj bn al bo) gO Tya47 Tys47 (sI 2 (.agg (vS aR a2 a3 aS a4 a5 bk bd bm be a6 bf bg a7 bh bi a8 bj bn al bo).toArray) ((vS aR a2 a3 aS a4 a5 bk bd bm be a6 bf bg a7 bh bi a8 bj bn al bo).toArray) gO Tys47 rfl rfl (fun qp gP=>(wt (wp_ret (thenR ?_))))))))))))))))))))))
     obtain ⟨io,ip,cL,iq⟩:=shutI (i:=5) (bytes:=80) (R:=fun K=>(RDCase K)) gP rfl (Nat.le_refl _) gN im (fun hs=>(fun _ _ h=>RDCase.mono hs h))
     exact retP (retA1 rfl (resN (i:=2) (l:=(vS aR a2 a3 aS a4 a5 bk bd bm be a6 bf bg a7 bh bi a8 bj bn al bo)) gP rfl Tya47 Tys47 rfl rfl rfl) ⟨c2,c4,c5,dK,dL,dM,c7,bO,bP,dR,(DStmt.mk aR a2 a3 aS a4 a5 bd a6 a7 a8 al),io,dG,dH,dI,dJ,dN,dO,c8,da,dP,db,dc,dQ,(vS aR a2 a3 aS a4 a5 bk bd bm be a6 bf bg a7 bh bi a8 bj bn al bo),(oi h).symm,rfl,(ip.sel [0,3,4]),(mf ff cL),fg,(mp fh cL),(ms fi cL),(fj.mono (fun _ _ h=>h)),fk,(StkR.mono (fun _ _ h=>h) fl),fm,(RDStmt.intro e4 e5 (me fb (ce.trans cL)) (ms e6 ((z.sub.trans ce).trans cL)) (ms e7 ((z.sub.trans ce).trans cL)) (ms e8 ((z.sub.trans ce).trans cL)) iq)⟩)
    ·unfold f39_l1 at h
     refine sr (bcm (r:=true) rfl rfl (congrArg some (drop_cons_t dd)) (wt (wp_seq (cndT rfl (wp_skip (thenN (wp_seq (wp_block (sr ?_)))))))))
     obtain ⟨ir,it,qq,iu,qr,iv,iw⟩:=((mc el (z.sub.trans ce))).row.at_ (drop_cons_at dd)
     obtain ⟨df,dg,cM,cN,rfl,gQ,ix,gR⟩:=RDCase.open iw
     refine idxN (b:=ir) (o:=it) (i:=co) Tye45 Tys56 rfl iu rfl (drop_cons_lt dd) (lD (vC dT cJ dU df de dg cM cK cN) Tya56 Tys56 rfl (fun j v hj=>fe.cell (kr.cell (iv j v hj))) (aC zC.toArray fe Tyz56 (fun qs iy=>(sI 0 (.agg (vC dT cJ dU df de dg cM cK cN).toArray) ((vC dT cJ dU df de dg cM cK cN).toArray) iy Tys56 rfl rfl (fun iz fn=>(wt (sr (m1 (pp g 0) (fd 3 Tyf56_3 rfl (l1 0 (sl df de dg) fn Tya44 ?_))))))))))
     have fo:=p1450236 fn
     obtain ⟨qt,iA,h⟩:=ob h
     refine cp ([pp g 0,sl df de dg]) Tyb47 ((f47_ok k) iA (hG.mono (z.sub.trans ce)) ff fg fh fi fj fk fl fm (Nat.le_trans hbr fn.size) ix (pt fo)) ?_ ?_
     ·rintro _ qu ⟨gT,qv,gU,gV,rfl,rfl,cf,iB⟩
      have iC:=ca cf fo
      refine fd 3 Tyf56_3 rfl (sI 3 (sl gU gT gV) ((vC dT cJ dU gU gT gV cM cK cN).toArray) iC Tys44 rfl rfl (fun qw dh=>(wt (sr (m1 (pp g 0) (fd 1 Tyf56_1 rfl (l1 3 (.string cJ) dh Tya9 (fd 4 Tyf56_4 rfl (l1 3 (sl cM cK cN) dh Tya32 (fd 2 Tyf56_2 rfl ?_))))))))))
      obtain ⟨qx,iD,h⟩:=ob h
      refine cp ([pp g 0,.string cJ,sl cM cK cN,pp (zz em) 2]) Tyb48 (IH1004884 iD (hG.mono ((z.sub.trans ce).trans cf.sub)) (mf ff cf.sub) fg (mp fh cf.sub) (ms fi cf.sub) (fj.mono (fun _ _ h=>h)) fk (StkR.mono (fun _ _ h=>h) fl) fm (Nat.le_trans hbr dh.size) gQ (ms gR cf.sub) gQ iB (ms gR cf.sub) (pt dh)) ?_ ?_
      ·rintro _ qy ⟨fp,fs,ft,fu,fv,fx,fy,cO,cP,fz,bQ,bR,bS,bT,qz,bw,en,fA,fB,fC,fD,fE,fF,dV,dW,fG,dX,dY,fH,di,dj,qA,qB,cQ,cR,rfl,rfl,fI,iE,iF,iG,iH,iJ,iK,iL,iM,iN,iO,qC,iP⟩
       have iQ:=ca fI dh
       refine fd 4 Tyf56_4 rfl (sI 3 (sl cQ bw cR) ((vC bQ bR bS di bT dj cQ bw cR).toArray) iQ Tys32 rfl rfl (fun iR iS=>?_))
       have gW:SR K en wi iR [.box bs g (vR ao an ap aq au ar av aw ax ay aA az aB q d s t f u aG).toArray 84,.row br (sl q d s) 9 1 d.length aE,.stk br (sl t f u) 81 f.length aF] [.box bs g (vR fA fp fB fs fC ft fD fu fv fx fE fy fF dV cO dW dX cP dY fz).toArray 84,.row br (sl dV cO dW) 9 1 cO.length fG,.stk br (sl dX cP dY) 81 cP.length fH,.box (zz wi) (zz em) (vC bQ bR bS di bT dj cQ bw cR).toArray 56,.box (zz wi) (zz wi) (vS aR a2 a3 aS a4 a5 bk bd bm be a6 bf bg a7 bh bi a8 bj bL bb bM).toArray 47,.box (zz wi) (zz ak) zS.toArray 47,.row (zz wi) (sl bn al bo) 56 5 al.length dS]:=iS
       refine wt (wp_region_lit (m1 (sl bn al bo) (lN 3 (vC bQ bR bS di bT dj cQ bw cR) gW Tya56 Tys56 (bsl (e:=56) (cells:=(vC bQ bR bS di bT dj cQ bw cR).toArray) (vs:=[(0,.agg (vC bQ bR bS di bT dj cQ bw cR).toArray)]) gW rfl (buildSl_one Tye45 Tys56 Tyz56 rfl (by decide) (by decide) rfl) (fun qD iT=>?_)))))
       obtain ⟨gX,h⟩:=of_guard h
       refine apR (R:=(RDCase en)) (p:=(DCase.mk bQ bR bS bT bw)) (i:=7) (j:=0) iT rfl rfl Tye45 Tyi56 rfl (by decide) rfl rfl (gN.mono (fun _ _ h=>RDCase.mono (cf.sub.trans fI.sub) h)) (RDCase.intro iN iO iP) rfl rfl (Nat.le_refl _) gX (by decide) (fun fJ fK gY iU iV iW=>?_)
       have iX:=p1234567 iV
       exact m2 (.slice fJ (al ++ [(DCase.mk bQ bR bS bT bw)]).length fK) (wpList_nil (blkN (thenN (wp_region_lit (bar (r:=((co + 1:Nat):Int)) rfl rfl (inc_ok (le_big (((mc el (z.sub.trans ce))).len) (by decide) (drop_cons_lt dd))) (m1 (iI ((co + 1:Nat):Int)) (wt (⟨_,Nat.lt_succ_self _,_,en,cI,co + 1,fp,fA,fB,fs,ft,fC,fD,fu,fv,fx,fy,fE,fF,cO,dV,dW,fG,cP,dX,dY,fH,fz,(al ++ [(DCase.mk bQ bR bS bT bw)]),fJ,fK,gY,rfl,fR,((ce.trans cf.sub).trans fI.sub),(iX.sel [0,4,5,1,2,6]),drop_cons_next dd,iE,iF,iG,iH,iJ,iK,iL,iM,iW,(app_bound gX),h⟩))))))))
      ·rintro _ qE ⟨iY,iZ,rfl,rfl,i0⟩
       have i1:=ca i0 dh
       exact thenP (blkP (thenP (thenP (blkP (thenP (thenP (panE (.inr ⟨_,rfl,iY,iZ,(oi h).symm,rfl,i1.sel []⟩))))))))
     ·rintro _ qF ⟨i2,i3,rfl,rfl,i4⟩
      have i5:=ca i4 fo
      exact thenP (blkP (thenP (thenP (blkP (thenP (thenP (panE (.inr ⟨_,rfl,i2,i3,(oi h).symm,rfl,i5.sel []⟩))))))))
  ·refine cF fc (wp_skip (thenN (wp_cut (fun a w=>∃ gZ S aJ aT aU aK aL aV aW ai aI aP aM aX aY x ae af aZ y ag ah a0 aH c m am G U C A V W B I J D X Y N Z ab O ac ad,a=fr 184 (updL gZ [(0,pp g 0),(3,pp (zz wi) 0),(4,pp (zz ak) 0)])∧KH.sub cZ S∧SR K S wi w [.box bs g (vR ao an ap aq au ar av aw ax ay aA az aB q d s t f u aG).toArray 84,.row br (sl q d s) 9 1 d.length aE,.stk br (sl t f u) 81 f.length aF] [.box bs g (vR aT aJ aU aK aV aL aW ai aI aP aX aM aY ae x af ag y ah aH).toArray 84,.box (zz wi) (zz wi) (vS c m am G U C V A W I B J X D Y Z N ab ac O ad).toArray 47,.box (zz wi) (zz ak) zS.toArray 47,.row br (sl ae x af) 9 1 x.length aZ,.stk br (sl ag y ah) 81 y.length a0]∧tF S aT aU aJ∧aK.size ≤ mB∧tP S aV aW aL∧tS S aX aY aM∧Reps RStr 1 x aZ∧x.length * 16 ≤ mB∧StkR kS VInt y a0∧y.length * 8 ≤ mB∧m.size ≤ mB∧G.size ≤ mB∧tE S V W A∧tS S I J B∧tS S X Y D∧tS S Z ab N∧tC S ac ad O∧f39_j1 k F aJ aK aL ai aI aP aM x y aH c m am G U C A B D N O=some r_) ?_ ?_)))
   ·refine sr (fd 3 Tyf47_3 rfl (l1 4 (.string aS) cH Tya9 (bsc (r:=(!seq aS ⟨#[]⟩)) rfl rfl rfl (wt (cd h (fun fL h=>?_) (fun fL h=>?_))))))
    ·refine cT fL (wp_region_lit (m1 (pp g 0) ?_))
     have fM:=p01243 cH
     obtain ⟨qG,i6,h⟩:=ob h
     refine cp ([pp g 0,pp (zz wi) 0]) Tyb49 ((f49_ok k) i6 (hG.mono z.sub) (mf d9 z.sub) ea (mp ec z.sub) (ms ed z.sub) (ee.mono (fun _ _ h=>h)) ef (StkR.mono (fun _ _ h=>h) eg) eh (Nat.le_trans hbr cH.size) e4 e5 fb (ms e6 z.sub) (ms e7 z.sub) (ms e8 z.sub) (mc el z.sub) (pt fM)) ?_ ?_
     ·rintro _ qH ⟨i7,i8,i9,ja,jb,jc,jd,je,jf,jg,jh,ji,jj,jk,jl,jm,jn,jo,jp,jq,jr,js,jt,ju,jv,jw,jx,jy,jz,jA,jB,jC,jD,jE,jF,jG,jH,jI,jJ,jK,jL,jM,jN,jO,rfl,rfl,g0,jP,jQ,jR,jS,jT,jU,jV,jW,jX,jY,jZ,j0,j1,j2,j3⟩
      have j4:=ca g0 fM
      exact wt (⟨_,js,i7,jt,ju,i8,i9,jv,jw,ja,jb,jc,jd,jx,jy,je,jz,jA,jB,jf,jC,jD,jE,jg,jh,ji,jj,jk,jl,jm,jn,jF,jG,jo,jH,jI,jp,jJ,jK,jq,jL,jM,jr,jN,jO,fR,g0.sub,(j4.sel [0,3,4,1,2]),jP,jQ,jR,jS,jT,jU,jV,jW,jX,jY,jZ,j0,j1,j2,j3,h⟩)
     ·rintro _ qJ ⟨j5,j6,rfl,rfl,j7⟩
      have j8:=ca j7 fM
      exact thenP (panE (.inr ⟨_,rfl,j5,j6,(oi h).symm,rfl,j8.sel []⟩))
    ·exact cF fL (wp_skip (thenN (⟨_,cZ,an,ao,ap,aq,ar,au,av,aw,ax,ay,az,aA,aB,d,q,s,aE,f,t,u,aF,aG,aR,a2,a3,aS,a4,a5,bd,bk,bm,a6,be,bf,a7,bg,bh,a8,bi,bj,bb,bL,bM,fR,kr,(cH.sel [0,4,3,1,2]),(mf d9 z.sub),ea,(mp ec z.sub),(ms ed z.sub),(ee.mono (fun _ _ h=>h)),ef,(StkR.mono (fun _ _ h=>h) eg),eh,e4,e5,fb,(ms e6 z.sub),(ms e7 z.sub),(ms e8 z.sub),(mc el z.sub),h⟩)))
   ·rintro _ j9 ⟨gZ,S,aJ,aT,aU,aK,aL,aV,aW,ai,aI,aP,aM,aX,aY,x,ae,af,aZ,y,ag,ah,a0,aH,c,m,am,G,U,C,A,V,W,B,I,J,D,X,Y,N,Z,ab,O,ac,ad,rfl,a9,dk,bx,bz,bA,bB,bC,bD,bE,bF,ba,bG,bH,bp,bu,bI,bJ,h⟩
    unfold f39_j1 at h
    refine wp_cut (fun a w=>∃ g1 aQ ch bW ci bX cj ck bY cq cr bZ ct cu b0 cw cx b1 cy cz b2 cA cB dZ eo ep d0 d1 eq es et eu ew d2 ex ey cC ez eA eB cD eC eD eE eF,a=fr 184 (updL g1 [(3,pp (zz wi) 0),(4,pp (zz ak) 0)])∧KH.sub S aQ∧SR K aQ wi w [.box bs g (vR ao an ap aq au ar av aw ax ay aA az aB q d s t f u aG).toArray 84,.row br (sl q d s) 9 1 d.length aE,.stk br (sl t f u) 81 f.length aF] [.box (zz wi) (zz wi) (vS ch bW ci bX cj ck cq bY cr ct bZ cu cw b0 cx cy b1 cz cA b2 cB).toArray 47,.box (zz wi) (zz ak) zS.toArray 47,.box bs g (vR eo dZ ep d0 eq d1 es et eu ew ex d2 ey ez cC eA eC cD eD eF).toArray 84,.row br (sl ez cC eA) 9 1 cC.length eB,.stk br (sl eC cD eD) 81 cD.length eE]∧bW.size ≤ mB∧bX.size ≤ mB∧tE aQ cq cr bY∧tS aQ ct cu bZ∧tS aQ cw cx b0∧tS aQ cy cz b1∧tC aQ cA cB b2∧tF aQ eo ep dZ∧d0.size ≤ mB∧tP aQ eq es d1∧tS aQ ex ey d2∧Reps RStr 1 cC eB∧cC.length * 16 ≤ mB∧StkR kS VInt cD eE∧cD.length * 8 ≤ mB∧f39_j2 k F ch bW ci bX cj ck bY bZ b0 b1 b2 dZ d0 d1 et eu ew d2 cC cD eF=some r_) ?_ ?_
    ·refine sr (fd 0 Tyf47_0 rfl (l1 1 (iI c) dk Tya3 (wt (wp_block (sr (c0 (c == 2) (m2 (.bool (c == 2)) (wt (cd h (fun fN h=>?_) (fun fN h=>?_))))))))))
     ·refine cT fN (sr (m1 (pp g 0) (fd 1 Tyf47_1 rfl (l1 1 (.string m) dk Tya9 ?_))))
      have g2:=p03412 dk
      obtain ⟨⟨cS,d3⟩,ka,h⟩:=ob h
      refine cv ([pp g 0,.string m]) Tyb46 ((f46_ok k) ka (hG.mono (z.sub.trans a9)) bx bz bA bB bC bD bE bF (Nat.le_trans hbr dk.size) ba (pt g2)) ?_
      rintro _ qK ⟨qL,rfl,bU⟩
      have fO:=ca bU g2
      refine m1 (.tuple #[iI cS,.bool d3]) (ext (v:=iI cS) rfl rfl (ext (v:=.bool d3) rfl rfl (m2 (iI cS) (m2 (.bool d3) (wt (sr (m1 (.bool d3) ?_)))))))
      obtain ⟨qM,kb,h⟩:=ob h
      refine cp ([.bool d3,iI 20]) Tyb25 ((f25_ok k) kb (hG.mono ((z.sub.trans a9).trans bU.sub)) (pt fO)) ?_ ?_
      ·rintro _ qN ⟨kc,rfl,rfl,b3⟩
       have kd:=ca b3 fO
       exact wt (wp_region_lit (m1 (iI cS) (fd 2 Tyf47_2 rfl (sI 3 (iI cS) ((vS c m cS G U C V A W I B J X D Y Z N ab ac O ad).toArray) kd Tys3 rfl rfl (fun qO ke=>(wpList_nil (blkN (thenN (⟨_,kc,c,m,cS,G,U,C,A,V,W,B,I,J,D,X,Y,N,Z,ab,O,ac,ad,aJ,aT,aU,aK,aL,aV,aW,ai,aI,aP,aM,aX,aY,x,ae,af,aZ,y,ag,ah,a0,aH,fR,(bU.sub.trans b3.sub),(ke.sel [3,4,0,1,2]),ba,bG,(me bH (bU.sub.trans b3.sub)),(ms bp (bU.sub.trans b3.sub)),(ms bu (bU.sub.trans b3.sub)),(ms bI (bU.sub.trans b3.sub)),(mc bJ (bU.sub.trans b3.sub)),(mf bx (bU.sub.trans b3.sub)),bz,(mp bA (bU.sub.trans b3.sub)),(ms bB (bU.sub.trans b3.sub)),(bC.mono (fun _ _ h=>h)),bD,(StkR.mono (fun _ _ h=>h) bE),bF,h⟩)))))))))
      ·rintro _ qP ⟨kf,kg,rfl,rfl,kh⟩
       have ki:=ca kh fO
       exact thenP (blkP (thenP (panE (.inr ⟨_,rfl,kf,kg,(oi h).symm,rfl,ki.sel []⟩))))
     ·refine cF fN (wp_cut (fun a w=>∃ g3 fP,a=fr 184 (updL g3 [(0,pp g 0),(3,pp (zz wi) 0),(4,pp (zz ak) 0),(52,iI c),(90,.bool fP)])∧SR K S wi w [.box bs g (vR ao an ap aq au ar av aw ax ay aA az aB q d s t f u aG).toArray 84,.row br (sl q d s) 9 1 d.length aE,.stk br (sl t f u) 81 f.length aF] [.box bs g (vR aT aJ aU aK aV aL aW ai aI aP aX aM aY ae x af ag y ah aH).toArray 84,.box (zz wi) (zz wi) (vS c m am G U C V A W I B J X D Y Z N ab ac O ad).toArray 47,.box (zz wi) (zz ak) zS.toArray 47,.row br (sl ae x af) 9 1 x.length aZ,.stk br (sl ag y ah) 81 y.length a0]∧f39_j3 k F aJ aK aL ai aI aP aM x y aH c m am G U C A B D N O fP=some r_) ?_ ?_)
      ·refine sr (c0 (c == 18) (m2 (.bool (c == 18)) (wt (cd h (fun fQ h=>?_) (fun fQ h=>?_)))))
       ·exact cT fQ (wp_skip (thenN (⟨_,(c == 18),fR,dk,h⟩)))
       ·exact cF fQ (wp_region_lit (c0 (c == 19) (m2 (.bool (c == 19)) (wt (⟨_,(c == 19),fR,dk,h⟩)))))
      ·rintro _ eG ⟨g3,fP,rfl,aj,h⟩
       unfold f39_j3 at h
       refine cd h (fun fS h=>?_) (fun fS h=>?_)
       ·refine cT fS (wp_region_lit (m1 (pp g 0) (nilc rfl (fd 9 Tyf84_4 rfl (l1 0 (iI aH) aj Tya3 (c0 (decide (aH > 0)) ?_))))))
        obtain ⟨qQ,kj,h⟩:=ob h
        refine cp ([.bool (decide (aH > 0)),iI 22]) Tyb25 ((f25_ok k) kj (hG.mono (z.sub.trans a9)) (pt aj)) ?_ ?_
        ·rintro _ qR ⟨kk,rfl,rfl,b4⟩
         have kl:=ca b4 aj
         exact wpList_nil (blkN (thenN (⟨_,kk,c,m,am,G,U,C,A,V,W,B,I,J,D,X,Y,N,Z,ab,O,ac,ad,aJ,aT,aU,aK,aL,aV,aW,ai,aI,aP,aM,aX,aY,x,ae,af,aZ,y,ag,ah,a0,aH,fR,b4.sub,(kl.sel [1,2,0,3,4]),ba,bG,(me bH b4.sub),(ms bp b4.sub),(ms bu b4.sub),(ms bI b4.sub),(mc bJ b4.sub),(mf bx b4.sub),bz,(mp bA b4.sub),(ms bB b4.sub),(bC.mono (fun _ _ h=>h)),bD,(StkR.mono (fun _ _ h=>h) bE),bF,h⟩)))
        ·rintro _ qS ⟨km,kn,rfl,rfl,ko⟩
         have kp:=ca ko aj
         exact blkP (thenP (panE (.inr ⟨_,rfl,km,kn,(oi h).symm,rfl,kp.sel []⟩)))
       ·refine cF fS (sr (c0 (c == 29) (m2 (.bool (c == 29)) (wt (cd h (fun fT h=>?_) (fun fT h=>?_))))))
        ·refine cT fT (wp_region_lit (m1 (pp g 0) (nilc rfl (fd 1 Tyf84_1 rfl (fd 4 Tyf34_3 rfl (l1 0 (.bool aI) aj Tya4 ?_))))))
         obtain ⟨qT,kq,h⟩:=ob h
         refine cp ([.bool aI,iI 22]) Tyb25 ((f25_ok k) kq (hG.mono (z.sub.trans a9)) (pt aj)) ?_ ?_
         ·rintro _ qU ⟨ks,rfl,rfl,b5⟩
          have kt:=ca b5 aj
          exact wpList_nil (blkN (thenN (⟨_,ks,c,m,am,G,U,C,A,V,W,B,I,J,D,X,Y,N,Z,ab,O,ac,ad,aJ,aT,aU,aK,aL,aV,aW,ai,aI,aP,aM,aX,aY,x,ae,af,aZ,y,ag,ah,a0,aH,fR,b5.sub,(kt.sel [1,2,0,3,4]),ba,bG,(me bH b5.sub),(ms bp b5.sub),(ms bu b5.sub),(ms bI b5.sub),(mc bJ b5.sub),(mf bx b5.sub),bz,(mp bA b5.sub),(ms bB b5.sub),(bC.mono (fun _ _ h=>h)),bD,(StkR.mono (fun _ _ h=>h) bE),bF,h⟩)))
         ·rintro _ qV ⟨ku,kv,rfl,rfl,kw⟩
          have kx:=ca kw aj
          exact blkP (thenP (panE (.inr ⟨_,rfl,ku,kv,(oi h).symm,rfl,kx.sel []⟩)))
        ·refine cF fT (sr (c0 (c == 17) (m2 (.bool (c == 17)) (wt (cd h (fun fU h=>?_) (fun fU h=>?_))))))
         ·refine cT fU (have bq:=aj.drew;(regAny (E:=[]) (F:=FW S [.box bs g (vR aT aJ aU aK aV aL aW ai aI aP aX aM aY ae x af ag y ah aH).toArray 84,.box (zz wi) (zz wi) (vS c m am G U C V A W I B J X D Y Z N ab ac O ad).toArray 47,.box (zz wi) (zz ak) zS.toArray 47,.row br (sl ae x af) 9 1 x.length aZ,.stk br (sl ag y ah) 81 y.length a0]) (L:=(lb 12 0)) ymx rfl rfl (tk 0 (pp (zz wi) 6) (lb 12 1) rfl (fun w=>fld_r (o':=6) Tyf47_6 rfl rfl) (heldF (fq [0,1,2,3,4] bq)) (tf 1 (sl V A W) ([]) (lb 12 3) rfl (fq [0,1,2,3,4] bq) (fun w hF=>lb1_r (i:=1) (v:=sl V A W) hF rfl Tya44 rfl rfl) (tk 2 (iI (A.length:Int)) (lb 12 7) rfl (fun w=>lnS_r (len:=A.length) Tye44 rfl) (heldF (fq [0,1,2,3,4] bq)) (tk 3 (.bool (decide ((A.length:Int) > 0))) (lb 12 15) rfl (fun w=>bcm_r (r:=(decide ((A.length:Int) > 0))) rfl rfl rfl) (heldF (fq [0,1,2,3,4] bq)) (tk 4 (pp g 0) (lb 12 31) rfl (fun w=>mv_r (v:=pp g 0) rfl) (heldF (fq [0,1,2,3,4] bq)) (tk 5 (pp g 0) (lb 12 63) rfl (fun w=>nilc_r rfl) (heldF (fq [0,1,2,3,4] bq)) (tk 6 (pp g 1) (lb 12 127) rfl (fun w=>fld_r (o':=1) Tyf84_1 rfl rfl) (heldF (fq [0,1,2,3,4] bq)) (tk 7 (pp g 3) (lb 12 255) rfl (fun w=>fld_r (o':=3) Tyf34_2 rfl rfl) (heldF (fq [0,1,2,3,4] bq)) (tf 8 (iI ai) ([]) (lb 12 511) rfl (fq [0,1,2,3,4] bq) (fun w hF=>lb1_r (i:=0) (v:=iI ai) hF rfl Tya3 rfl rfl) (tk 9 (.bool (ai != 0)) (lb 12 1023) rfl (fun w=>bcm_r (r:=(ai != 0)) rfl rfl rfl) (heldF (fq [0,1,2,3,4] bq)) (tk 10 (.bool ((decide ((A.length:Int) > 0)) == (ai != 0))) (lb 12 2047) rfl (fun w=>bbo_r (r:=((decide ((A.length:Int) > 0)) == (ai != 0))) Tyo4 rfl rfl rfl) (heldF (fq [0,1,2,3,4] bq)) (aO 11 rfl ?_))))))))))))))
          obtain ⟨qW,ky,h⟩:=ob h
          refine cp ([.bool ((decide ((A.length:Int) > 0)) == (ai != 0)),iI 22]) Tyb25 ((f25_ok k) ky (hG.mono (z.sub.trans a9)) (pt bq)) ?_ ?_
          ·rintro _ qX ⟨kz,rfl,rfl,bV⟩
           have g4:=ca bV bq
           exact wt ⟨heldF (fwOf (is:=[0,1,2,3,4]) g4 bV.sub rfl),aD (blkN (thenN (⟨_,kz,c,m,am,G,U,C,A,V,W,B,I,J,D,X,Y,N,Z,ab,O,ac,ad,aJ,aT,aU,aK,aL,aV,aW,ai,aI,aP,aM,aX,aY,x,ae,af,aZ,y,ag,ah,a0,aH,fR,bV.sub,(g4.sel [1,2,0,3,4]),ba,bG,(me bH bV.sub),(ms bp bV.sub),(ms bu bV.sub),(ms bI bV.sub),(mc bJ bV.sub),(mf bx bV.sub),bz,(mp bA bV.sub),(ms bB bV.sub),(bC.mono (fun _ _ h=>h)),bD,(StkR.mono (fun _ _ h=>h) bE),bF,h⟩)))⟩
          ·rintro _ qY ⟨kA,kB,rfl,rfl,kC⟩
           have kD:=ca kC bq
           exact thenP (blkP (thenP (panE (.inr ⟨_,rfl,kA,kB,(oi h).symm,rfl,kD.sel []⟩))))
         ·refine cF fU (sr (c0 (c == 21) (m2 (.bool (c == 21)) (wt (cd h (fun fV h=>?_) (fun fV h=>?_))))))
          ·refine cT fV (wp_region_lit (m1 (pp g 0) (fd 7 Tyf47_7 rfl (l1 1 (sl I B J) aj Tya32 ?_))))
           have fW:=p03412 aj
           obtain ⟨qZ,kE,h⟩:=ob h
           refine cp ([pp g 0,sE,sl I B J,.pointer none]) Tyb50 (IH1005066 kE (hG.mono (z.sub.trans a9)) bx bz bA bB bC bD bE bF (Nat.le_trans hbr aj.size) (by decide) bp (pt fW)) ?_ ?_
           ·rintro _ q0 ⟨kF,kG,kH,kJ,kK,kL,kM,kN,kO,kP,fX,kQ,kR,kT,kU,kV,kW,kX,kY,kZ,k0,k1,k2,k3,fY,fZ,rfl,rfl,dl,k4,k5,k6,k7,k8,k9,la,lc,ld⟩
            have lf:=ca dl fW
            exact fd 7 Tyf47_7 rfl (sI 3 (sl fY fX fZ) ((vS c m am G U C V A W fY fX fZ X D Y Z N ab ac O ad).toArray) lf Tys32 rfl rfl (fun q1 lg=>(wpList_nil (blkN (thenN (⟨_,kQ,c,m,am,G,U,C,A,V,W,fX,fY,fZ,D,X,Y,N,Z,ab,O,ac,ad,kF,kR,kT,kG,kH,kU,kV,kJ,kK,kL,kM,kW,kX,kN,kY,kZ,k0,kO,k1,k2,k3,kP,fR,dl.sub,(lg.sel [3,4,0,1,2]),ba,bG,(me bH dl.sub),ld,(ms bu dl.sub),(ms bI dl.sub),(mc bJ dl.sub),k4,k5,k6,k7,k8,k9,la,lc,h⟩))))))
           ·rintro _ q2 ⟨lh,li,rfl,rfl,lj⟩
            have lk:=ca lj fW
            exact blkP (thenP (panE (.inr ⟨_,rfl,lh,li,(oi h).symm,rfl,lk.sel []⟩)))
          ·refine cF fV (sr (c0 (c == 28) (m2 (.bool (c == 28)) (wt (cd h (fun f0 h=>?_) (fun f0 h=>?_))))))
           ·refine cT f0 (wp_region_lit (m1 (pp g 0) (fd 1 Tyf47_1 rfl (l1 1 (.string m) aj Tya9 (fd 7 Tyf47_7 rfl (l1 1 (sl I B J) aj Tya32 (fd 2 Tyf47_2 rfl ?_)))))))
            have f1:=p03412 aj
            obtain ⟨q3,ll,h⟩:=ob h
            refine cp ([pp g 0,.string m,sl I B J,pp (zz wi) 2]) Tyb50 (IH1005015 ll (hG.mono (z.sub.trans a9)) bx bz bA bB bC bD bE bF (Nat.le_trans hbr aj.size) ba bp ba bG bH bp bu bI bJ (pt f1)) ?_ ?_
            ·rintro _ q4 ⟨lm,ln,lo,lp,lq,lr,ls,lu,lv,lw,g5,g6,g7,g8,g9,ha,hb,q5,hc,hd,he,f2,lx,ly,lz,lA,lB,lC,lE,lF,lG,lH,lI,lJ,lK,hf,hg,q6,q7,hh,hi,hk,hl,hm,hn,f4,ga,rfl,rfl,ho,lL,lM,lO,lP,lQ,lR,lT,lU,lV,lW,lX,q8,lY,lZ,l0,l2⟩
             have l3:=ca ho f1
             exact fd 7 Tyf47_7 rfl (sI 3 (sl f4 f2 ga) ((vS g5 g6 g7 g8 g9 ha hf hb hg f4 f2 ga hh hc hi hk hd hl hm he hn).toArray) l3 Tys32 rfl rfl (fun q9 l4=>(wpList_nil (blkN (thenN (⟨_,lx,g5,g6,g7,g8,g9,ha,hb,hf,hg,f2,f4,ga,hc,hh,hi,hd,hk,hl,he,hm,hn,lm,ly,lz,ln,lo,lA,lB,lp,lq,lr,ls,lC,lE,lu,lF,lG,lH,lv,lI,lJ,lK,lw,fR,ho.sub,(l4.sel [3,4,0,1,2]),lV,lW,lX,l2,lY,lZ,l0,lL,lM,lO,lP,lQ,lR,lT,lU,h⟩))))))
            ·rintro _ ra ⟨l5,l6,rfl,rfl,l7⟩
             have l8:=ca l7 f1
             exact blkP (thenP (panE (.inr ⟨_,rfl,l5,l6,(oi h).symm,rfl,l8.sel []⟩)))
           ·refine cF f0 (sr (c0 (c == 25) (m2 (.bool (c == 25)) (wt (cd h (fun gb h=>?_) (fun gb h=>?_))))))
            ·refine cT gb (wp_region_lit (m1 (pp g 0) (fd 1 Tyf47_1 rfl (l1 1 (.string m) aj Tya9 (fd 7 Tyf47_7 rfl (l1 1 (sl I B J) aj Tya32 (fd 2 Tyf47_2 rfl ?_)))))))
             have gc:=p03412 aj
             obtain ⟨rb,l9,h⟩:=ob h
             refine cp ([pp g 0,.string m,sl I B J,pp (zz wi) 2]) Tyb48 (IH1004815 l9 (hG.mono (z.sub.trans a9)) bx bz bA bB bC bD bE bF (Nat.le_trans hbr aj.size) ba bp ba bG bH bp bu bI bJ (pt gc)) ?_ ?_
             ·rintro _ rc ⟨ma,mb,md,mg,mh,mi,mj,ml,mm,mn,hp,hq,hr,ht,hu,hv,hw,rd,hx,hy,hz,gd,mo,mq,mr,mt,mu,mw,mx,my,mz,mA,mC,mD,mE,hA,hB,re,rf,hC,hD,hE,hH,hI,hJ,ge,gf,rfl,rfl,hK,mF,mG,mH,mI,mJ,mK,mL,mM,mN,mO,mP,rg,mQ,mR,mS,mT⟩
              have mU:=ca hK gc
              exact fd 7 Tyf47_7 rfl (sI 3 (sl ge gd gf) ((vS hp hq hr ht hu hv hA hw hB ge gd gf hC hx hD hE hy hH hI hz hJ).toArray) mU Tys32 rfl rfl (fun rh mV=>(wpList_nil (blkN (thenN (⟨_,mo,hp,hq,hr,ht,hu,hv,hw,hA,hB,gd,ge,gf,hx,hC,hD,hy,hE,hH,hz,hI,hJ,ma,mq,mr,mb,md,mt,mu,mg,mh,mi,mj,mw,mx,ml,my,mz,mA,mm,mC,mD,mE,mn,fR,hK.sub,(mV.sel [3,4,0,1,2]),mN,mO,mP,mT,mQ,mR,mS,mF,mG,mH,mI,mJ,mK,mL,mM,h⟩))))))
             ·rintro _ ri ⟨mW,mX,rfl,rfl,mY⟩
              have mZ:=ca mY gc
              exact blkP (thenP (panE (.inr ⟨_,rfl,mW,mX,(oi h).symm,rfl,mZ.sel []⟩)))
            ·refine cF gb (sr (c0 (c == 24) (m2 (.bool (c == 24)) (wt (cd h (fun gg h=>?_) (fun gg h=>?_))))))
             ·refine cT gg (sr (m1 (pp g 0) (fd 7 Tyf47_7 rfl (l1 1 (sl I B J) aj Tya32 ?_))))
              have gh:=p03412 aj
              obtain ⟨rj,m0,h⟩:=ob h
              refine cp ([pp g 0,sE,sl I B J,.pointer none]) Tyb48 (IH1004866 m0 (hG.mono (z.sub.trans a9)) bx bz bA bB bC bD bE bF (Nat.le_trans hbr aj.size) (by decide) bp (pt gh)) ?_ ?_
              ·rintro _ rk ⟨rl,rm,rn,ro,rp,rq,rr,rs,rt,ru,hL,rv,rw,rx,ry,rA,rB,rC,rD,rF,rG,rH,rI,rJ,hM,hN,rfl,rfl,cl,m4,m5,m6,m7,m8,m9,na,nb,nc⟩
               have nd:=ca cl gh
               refine fd 7 Tyf47_7 rfl (sI 3 (sl hM hL hN) ((vS c m am G U C V A W hM hL hN X D Y Z N ab ac O ad).toArray) nd Tys32 rfl rfl (fun rK dm=>(wt (sr (m1 (pp g 0) (fd 1 Tyf47_1 rfl (l1 3 (.string m) dm Tya9 (fd 8 Tyf47_8 rfl (l1 3 (sl X D Y) dm Tya32 (fd 2 Tyf47_2 rfl ?_))))))))))
               obtain ⟨rL,ne,h⟩:=ob h
               refine cp ([pp g 0,.string m,sl X D Y,pp (zz wi) 2]) Tyb48 (IH1004815 ne (hG.mono ((z.sub.trans a9).trans cl.sub)) m4 m5 m6 m7 m8 m9 na nb (Nat.le_trans hbr dm.size) ba (ms bu cl.sub) ba bG (me bH cl.sub) nc (ms bu cl.sub) (ms bI cl.sub) (mc bJ cl.sub) (pt dm)) ?_ ?_
               ·rintro _ rM ⟨rN,rO,rP,rQ,rR,rT,rV,rW,rX,rY,eH,eI,eJ,eK,eL,eM,eN,eO,rZ,gi,eP,d4,r0,r1,r2,r3,r4,r5,r6,r7,r8,r9,sa,sb,sc,eQ,eR,eS,eT,sd,se,gj,gk,eU,eV,d5,d6,rfl,rfl,gl,nf,ng,nh,ni,nj,nk,nl,nm,nn,np,nq,nr,sf,ns,nt,nu⟩
                have nv:=ca gl dm
                refine fd 8 Tyf47_8 rfl (sI 3 (sl d5 d4 d6) ((vS eH eI eJ eK eL eM eQ eN eR eS eO eT d5 d4 d6 gj gi gk eU eP eV).toArray) nv Tys32 rfl rfl (fun sg d7=>(wt (wp_region_lit (m1 (pp g 0) (fd 9 Tyf47_9 rfl (l1 3 (sl gj gi gk) d7 Tya32 ?_)))))))
                obtain ⟨sh,nw,h⟩:=ob h
                refine cp ([pp g 0,sE,sl gj gi gk,.pointer none]) Tyb48 (IH1004866 nw (hG.mono (((z.sub.trans a9).trans cl.sub).trans gl.sub)) nf ng nh ni nj nk nl nm (Nat.le_trans hbr d7.size) (by decide) ns (pt d7)) ?_ ?_
                ·rintro _ si ⟨hO,hP,hQ,hR,hS,hT,hU,eW,eX,hV,eY,hW,hX,hY,hZ,h0,h1,h2,gm,gn,h3,go,gp,h4,eZ,e0,rfl,rfl,dn,nx,ny,nz,nA,nB,nC,nD,nF,nG⟩
                 have nH:=ca dn d7
                 refine fd 9 Tyf47_9 rfl (sI 3 (sl eZ eY e0) ((vS eH eI eJ eK eL eM eQ eN eR eS eO eT d5 d4 d6 eZ eY e0 eU eP eV).toArray) nH Tys32 rfl rfl (fun nI nJ=>?_))
                 have nK:SR K hW wi nI [.box bs g (vR ao an ap aq au ar av aw ax ay aA az aB q d s t f u aG).toArray 84,.row br (sl q d s) 9 1 d.length aE,.stk br (sl t f u) 81 f.length aF] [.box bs g (vR hX hO hY hP hZ hQ h0 hR hS hT h1 hU h2 gm eW gn go eX gp hV).toArray 84,.row br (sl gm eW gn) 9 1 eW.length h3,.stk br (sl go eX gp) 81 eX.length h4,.box (zz wi) (zz wi) (vS eH eI eJ eK eL eM eQ eN eR eS eO eT d5 d4 d6 eZ eY e0 eU eP eV).toArray 47,.box (zz wi) (zz ak) zS.toArray 47]:=nJ
                 exact wpList_nil (blkN (thenN (⟨_,hW,eH,eI,eJ,eK,eL,eM,eN,eQ,eR,eO,eS,eT,d4,d5,d6,eY,eZ,e0,eP,eU,eV,hO,hX,hY,hP,hQ,hZ,h0,hR,hS,hT,hU,h1,h2,eW,gm,gn,h3,eX,go,gp,h4,hV,fR,((cl.sub.trans gl.sub).trans dn.sub),(nK.sel [3,4,0,1,2]),nn,np,(me nq dn.sub),(ms nr dn.sub),(ms nu dn.sub),nG,(mc nt dn.sub),nx,ny,nz,nA,nB,nC,nD,nF,h⟩)))
                ·rintro _ sj ⟨nL,nM,rfl,rfl,nN⟩
                 have nO:=ca nN d7
                 exact blkP (thenP (panE (.inr ⟨_,rfl,nL,nM,(oi h).symm,rfl,nO.sel []⟩)))
               ·rintro _ sk ⟨nP,nQ,rfl,rfl,nT⟩
                have nV:=ca nT dm
                exact thenP (blkP (thenP (panE (.inr ⟨_,rfl,nP,nQ,(oi h).symm,rfl,nV.sel []⟩))))
              ·rintro _ sm ⟨nW,nX,rfl,rfl,nY⟩
               have nZ:=ca nY gh
               exact thenP (blkP (thenP (panE (.inr ⟨_,rfl,nW,nX,(oi h).symm,rfl,nZ.sel []⟩))))
             ·refine cF gg (wp_cut (fun a w=>∃ h5 gq,a=fr 184 (updL h5 [(0,pp g 0),(3,pp (zz wi) 0),(4,pp (zz ak) 0),(168,.bool gq)])∧SR K S wi w [.box bs g (vR ao an ap aq au ar av aw ax ay aA az aB q d s t f u aG).toArray 84,.row br (sl q d s) 9 1 d.length aE,.stk br (sl t f u) 81 f.length aF] [.box bs g (vR aT aJ aU aK aV aL aW ai aI aP aX aM aY ae x af ag y ah aH).toArray 84,.box (zz wi) (zz wi) (vS c m am G U C V A W I B J X D Y Z N ab ac O ad).toArray 47,.box (zz wi) (zz ak) zS.toArray 47,.row br (sl ae x af) 9 1 x.length aZ,.stk br (sl ag y ah) 81 y.length a0]∧f39_j4 k F aJ aK aL ai aI aP aM x y aH c m am G U C A B D N O gq=some r_) ?_ ?_)
              ·refine sr (c0 (c == 20) (m2 (.bool (c == 20)) (wt (cd h (fun gr h=>?_) (fun gr h=>?_)))))
               ·exact cT gr (wp_skip (thenN (⟨_,(c == 20),fR,aj,h⟩)))
               ·refine cF gr (sr (c0 (c == 22) (m2 (.bool (c == 22)) (wt (cd h (fun gs h=>?_) (fun gs h=>?_))))))
                ·exact cT gs (wp_skip (thenN (⟨_,(c == 22),fR,aj,h⟩)))
                ·refine cF gs (sr (c0 (c == 23) (m2 (.bool (c == 23)) (wt (cd h (fun gt h=>?_) (fun gt h=>?_))))))
                 ·exact cT gt (wp_skip (thenN (⟨_,(c == 23),fR,aj,h⟩)))
                 ·exact cF gt (wp_region_lit (c0 (c == 26) (m2 (.bool (c == 26)) (wt (⟨_,(c == 26),fR,aj,h⟩)))))
              ·rintro _ h6 ⟨h5,gq,rfl,cG,h⟩
               unfold f39_j4 at h
               refine cd h (fun gu h=>?_) (fun gu h=>?_)
               ·refine cT gu (sr (m1 (pp g 0) (fd 7 Tyf47_7 rfl (l1 1 (sl I B J) cG Tya32 ?_))))
                have gv:=p03412 cG
                obtain ⟨sn,n2,h⟩:=ob h
                refine cp ([pp g 0,sE,sl I B J,.pointer none]) Tyb48 (IH1004866 n2 (hG.mono (z.sub.trans a9)) bx bz bA bB bC bD bE bF (Nat.le_trans hbr cG.size) (by decide) bp (pt gv)) ?_ ?_
                ·rintro _ so ⟨sp,sq,ss,st,su,sv,sw,sx,sy,sz,e1,sA,sB,sC,sD,sF,sG,sH,sJ,sK,sL,sM,sN,sO,e2,e3,rfl,rfl,cU,n3,n4,n5,n6,n7,n8,n9,oa,oc⟩
                 have od:=ca cU gv
                 refine fd 7 Tyf47_7 rfl (sI 3 (sl e2 e1 e3) ((vS c m am G U C V A W e2 e1 e3 X D Y Z N ab ac O ad).toArray) od Tys32 rfl rfl (fun sP d8=>(wt (wp_region_lit (m1 (pp g 0) (fd 8 Tyf47_8 rfl (l1 3 (sl X D Y) d8 Tya32 ?_)))))))
                 obtain ⟨sQ,oe,h⟩:=ob h
                 refine cp ([pp g 0,sE,sl X D Y,.pointer none]) Tyb48 (IH1004866 oe (hG.mono ((z.sub.trans a9).trans cU.sub)) n3 n4 n5 n6 n7 n8 n9 oa (Nat.le_trans hbr d8.size) (by decide) (ms bu cU.sub) (pt d8)) ?_ ?_
                 ·rintro _ sR ⟨og,oh,oj,ol,om,oo,op,oq,os,ot,gw,ov,ow,ox,oy,oz,oA,oB,oC,oD,oE,oF,oG,oH,gx,gy,rfl,rfl,dp,oI,oJ,oK,oL,oM,oN,oO,oP,oQ⟩
                  have oR:=ca dp d8
                  exact fd 8 Tyf47_8 rfl (sI 3 (sl gx gw gy) ((vS c m am G U C V A W e2 e1 e3 gx gw gy Z N ab ac O ad).toArray) oR Tys32 rfl rfl (fun sS oS=>(wpList_nil (blkN (thenN (⟨_,ov,c,m,am,G,U,C,A,V,W,e1,e2,e3,gw,gx,gy,N,Z,ab,O,ac,ad,og,ow,ox,oh,oj,oy,oz,ol,om,oo,op,oA,oB,oq,oC,oD,oE,os,oF,oG,oH,ot,fR,(cU.sub.trans dp.sub),(oS.sel [3,4,0,1,2]),ba,bG,(me bH (cU.sub.trans dp.sub)),(ms oc dp.sub),oQ,(ms bI (cU.sub.trans dp.sub)),(mc bJ (cU.sub.trans dp.sub)),oI,oJ,oK,oL,oM,oN,oO,oP,h⟩))))))
                 ·rintro _ sT ⟨oT,oU,rfl,rfl,oV⟩
                  have oW:=ca oV d8
                  exact blkP (thenP (panE (.inr ⟨_,rfl,oT,oU,(oi h).symm,rfl,oW.sel []⟩)))
                ·rintro _ sU ⟨oX,oY,rfl,rfl,oZ⟩
                 have o2:=ca oZ gv
                 exact thenP (blkP (thenP (panE (.inr ⟨_,rfl,oX,oY,(oi h).symm,rfl,o2.sel []⟩))))
               ·refine cF gu (wp_cut (fun a w=>∃ h7 cm cV dq dr cW cX ds dt du dv dw cY dx dy b6 dz dA dB b7 dC dD dE b8 dF,a=fr 184 (updL h7 [(0,pp g 0),(3,pp (zz wi) 0),(4,pp (zz ak) 0)])∧KH.sub S cm∧SR K cm wi w [.box bs g (vR ao an ap aq au ar av aw ax ay aA az aB q d s t f u aG).toArray 84,.row br (sl q d s) 9 1 d.length aE,.stk br (sl t f u) 81 f.length aF] [.box bs g (vR dq cV dr cW ds cX dt du dv dw dx cY dy dz b6 dA dC b7 dD b8).toArray 84,.box (zz wi) (zz wi) (vS c m dF G U C V A W I B J X D Y Z N ab ac O ad).toArray 47,.box (zz wi) (zz ak) zS.toArray 47,.row br (sl dz b6 dA) 9 1 b6.length dB,.stk br (sl dC b7 dD) 81 b7.length dE]∧tF cm dq dr cV∧cW.size ≤ mB∧tP cm ds dt cX∧tS cm dx dy cY∧Reps RStr 1 b6 dB∧b6.length * 16 ≤ mB∧StkR kS VInt b7 dE∧b7.length * 8 ≤ mB∧f39_j5 k F c m G U C A B D N O cV cW cX du dv dw cY b6 b7 b8 dF=some r_) ?_ ?_)
                ·refine sr (fd 1 Tyf47_1 rfl (l1 1 (.string m) cG Tya9 (bsc (r:=(!seq m ⟨#[]⟩)) rfl rfl rfl (wt (cd h (fun gz h=>?_) (fun gz h=>?_))))))
                 ·refine cT gz (wp_region_lit (m1 (pp g 0) (fd 1 Tyf47_1 rfl (l1 1 (.string m) cG Tya9 ?_))))
                  have gA:=p03412 cG
                  obtain ⟨sV,o3,h⟩:=ob h
                  refine cp ([pp g 0,.string m]) Tyb37 ((f37_ok k) o3 (hG.mono (z.sub.trans a9)) bx bz bA bB bC bD bE bF (Nat.le_trans hbr cG.size) ba (pt gA)) ?_ ?_
                  ·rintro _ sW ⟨o4,o5,o6,o7,o8,o9,pa,pb,pc,pd,gB,pe,pf,pg,ph,pi,pj,pk,pl,pm,pn,po,pq,pr,rfl,rfl,h8,ps,pu,pv,pw,px,py,pz,pA⟩
                   have pB:=ca h8 gA
                   exact fd 2 Tyf47_2 rfl (sI 3 (iI gB) ((vS c m gB G U C V A W I B J X D Y Z N ab ac O ad).toArray) pB Tys3 rfl rfl (fun sX pC=>(wt (⟨_,pe,o4,pf,pg,o5,o6,ph,pi,o7,o8,o9,pa,pj,pk,pb,pl,pm,pn,pc,po,pq,pr,pd,gB,fR,h8.sub,(pC.sel [0,3,4,1,2]),ps,pu,pv,pw,px,py,pz,pA,h⟩))))
                  ·rintro _ sY ⟨pD,pE,rfl,rfl,pF⟩
                   have pG:=ca pF gA
                   exact thenP (blkP (thenP (panE (.inr ⟨_,rfl,pD,pE,(oi h).symm,rfl,pG.sel []⟩))))
                 ·exact cF gz (wp_skip (thenN (⟨_,S,aJ,aT,aU,aK,aL,aV,aW,ai,aI,aP,aM,aX,aY,x,ae,af,aZ,y,ag,ah,a0,aH,am,fR,kr,cG,bx,bz,bA,bB,bC,bD,bE,bF,h⟩)))
                ·rintro _ sZ ⟨h7,cm,cV,dq,dr,cW,cX,ds,dt,du,dv,dw,cY,dx,dy,b6,dz,dA,dB,b7,dC,dD,dE,b8,dF,rfl,aN,bK,gD,gF,gG,gH,gI,gJ,gK,gL,h⟩
                 unfold f39_j5 at h
                 refine wp_region_lit (fd 0 Tyf47_0 rfl (l1 1 (iI c) bK Tya3 (c0 (c != 6) (m1 (.bool (c != 6)) (cd h (fun cn h=>?_) (fun cn h=>?_))))))
                 ·refine o1 64 cn (o1 64 cn (o1 64 cn (m3 true vT (cg cn) (m1 vT (o0 69 (o0 69 (o0 69 (o0 69 (o0 69 (m3 true vT rfl ?_))))))))))
                  obtain ⟨s0,pH,h⟩:=ob h
                  refine cp ([vT,iI 22]) Tyb25 ((f25_ok k) pH (hG.mono ((z.sub.trans a9).trans aN)) (pt bK)) ?_ ?_
                  ·rintro _ s1 ⟨pI,rfl,rfl,b9⟩
                   have pJ:=ca b9 bK
                   exact wpList_nil (blkN (thenN (⟨_,pI,c,m,dF,G,U,C,A,V,W,B,I,J,D,X,Y,N,Z,ab,O,ac,ad,cV,dq,dr,cW,cX,ds,dt,du,dv,dw,cY,dx,dy,b6,dz,dA,dB,b7,dC,dD,dE,b8,fR,(aN.trans b9.sub),(pJ.sel [1,2,0,3,4]),ba,bG,(me bH (aN.trans b9.sub)),(ms bp (aN.trans b9.sub)),(ms bu (aN.trans b9.sub)),(ms bI (aN.trans b9.sub)),(mc bJ (aN.trans b9.sub)),(mf gD b9.sub),gF,(mp gG b9.sub),(ms gH b9.sub),(gI.mono (fun _ _ h=>h)),gJ,(StkR.mono (fun _ _ h=>h) gK),gL,h⟩)))
                  ·rintro _ s2 ⟨pK,pL,rfl,rfl,pM⟩
                   have pN:=ca pM bK
                   exact blkP (thenP (panE (.inr ⟨_,rfl,pK,pL,(oi h).symm,rfl,pN.sel []⟩)))
                 ·refine n1 64 cn (fd 5 Tyf47_5 rfl (n1 64 cn (l1 1 (iI C) bK Tya3 (n1 64 cn (c0 (C == 0) (m3 false (.bool (C == 0)) (cg cn) (m1 (.bool (C == 0)) (cd h (fun bv h=>?_) (fun bv h=>?_)))))))))
                  ·refine o1 69 bv (o1 69 bv (o1 69 bv (o1 69 bv (o1 69 bv (m3 true vT (cg bv) ?_)))))
                   obtain ⟨s3,pO,h⟩:=ob h
                   refine cp ([vT,iI 22]) Tyb25 ((f25_ok k) pO (hG.mono ((z.sub.trans a9).trans aN)) (pt bK)) ?_ ?_
                   ·rintro _ s4 ⟨pP,rfl,rfl,cb⟩
                    have pQ:=ca cb bK
                    exact wpList_nil (blkN (thenN (⟨_,pP,c,m,dF,G,U,C,A,V,W,B,I,J,D,X,Y,N,Z,ab,O,ac,ad,cV,dq,dr,cW,cX,ds,dt,du,dv,dw,cY,dx,dy,b6,dz,dA,dB,b7,dC,dD,dE,b8,fR,(aN.trans cb.sub),(pQ.sel [1,2,0,3,4]),ba,bG,(me bH (aN.trans cb.sub)),(ms bp (aN.trans cb.sub)),(ms bu (aN.trans cb.sub)),(ms bI (aN.trans cb.sub)),(mc bJ (aN.trans cb.sub)),(mf gD cb.sub),gF,(mp gG cb.sub),(ms gH cb.sub),(gI.mono (fun _ _ h=>h)),gJ,(StkR.mono (fun _ _ h=>h) gK),gL,h⟩)))
                   ·rintro _ s5 ⟨pR,pS,rfl,rfl,pT⟩
                    have pU:=ca pT bK
                    exact blkP (thenP (panE (.inr ⟨_,rfl,pR,pS,(oi h).symm,rfl,pU.sel []⟩)))
                  ·refine n1 69 bv (m1 (pp g 0) (n1 69 bv (nilc rfl (n1 69 bv (fd 9 Tyf84_4 rfl (n1 69 bv (l1 0 (iI b8) bK Tya3 (n1 69 bv (c0 (decide (b8 > 0)) (m3 false (.bool (decide (b8 > 0))) (cg bv) ?_))))))))))
                   obtain ⟨s6,pV,h⟩:=ob h
                   refine cp ([.bool (decide (b8 > 0)),iI 22]) Tyb25 ((f25_ok k) pV (hG.mono ((z.sub.trans a9).trans aN)) (pt bK)) ?_ ?_
                   ·rintro _ s7 ⟨pW,rfl,rfl,cc⟩
                    have pX:=ca cc bK
                    exact wpList_nil (blkN (thenN (⟨_,pW,c,m,dF,G,U,C,A,V,W,B,I,J,D,X,Y,N,Z,ab,O,ac,ad,cV,dq,dr,cW,cX,ds,dt,du,dv,dw,cY,dx,dy,b6,dz,dA,dB,b7,dC,dD,dE,b8,fR,(aN.trans cc.sub),(pX.sel [1,2,0,3,4]),ba,bG,(me bH (aN.trans cc.sub)),(ms bp (aN.trans cc.sub)),(ms bu (aN.trans cc.sub)),(ms bI (aN.trans cc.sub)),(mc bJ (aN.trans cc.sub)),(mf gD cc.sub),gF,(mp gG cc.sub),(ms gH cc.sub),(gI.mono (fun _ _ h=>h)),gJ,(StkR.mono (fun _ _ h=>h) gK),gL,h⟩)))
                   ·rintro _ s8 ⟨pY,pZ,rfl,rfl,p0⟩
                    have p1:=ca p0 bK
                    exact blkP (thenP (panE (.inr ⟨_,rfl,pY,pZ,(oi h).symm,rfl,p1.sel []⟩)))
    ·rintro _ s9 ⟨g1,aQ,ch,bW,ci,bX,cj,ck,bY,cq,cr,bZ,ct,cu,b0,cw,cx,b1,cy,cz,b2,cA,cB,dZ,eo,ep,d0,d1,eq,es,et,eu,ew,d2,ex,ey,cC,ez,eA,eB,cD,eC,eD,eE,eF,rfl,ta,h9,p2,p3,p4,p5,p6,p7,p8,p9,qa,qb,qc,qd,qe,qf,qg,h⟩
     unfold f39_j2 at h
     exact sr (lN 0 (vS ch bW ci bX cj ck cq bY cr ct bZ cu cw b0 cx cy b1 cz cA b2 cB) h9 Tya47 Tys47 (sI 1 (.agg (vS ch bW ci bX cj ck cq bY cr ct bZ cu cw b0 cx cy b1 cz cA b2 cB).toArray) ((vS ch bW ci bX cj ck cq bY cr ct bZ cu cw b0 cx cy b1 cz cA b2 cB).toArray) h9 Tys47 rfl rfl (fun tb ia=>(wt (wp_ret (retP (retA1 rfl (resN (i:=1) (l:=(vS ch bW ci bX cj ck cq bY cr ct bZ cu cw b0 cx cy b1 cz cA b2 cB)) ia rfl Tya47 Tys47 rfl rfl rfl) ⟨dZ,d0,d1,et,eu,ew,d2,cC,cD,eF,(DStmt.mk ch bW ci bX cj ck bY bZ b0 b1 b2),aQ,eo,ep,eq,es,ex,ey,ez,eA,eB,eC,eD,eE,(vS ch bW ci bX cj ck cq bY cr ct bZ cu cw b0 cx cy b1 cz cA b2 cB),(oi h).symm,rfl,(ia.sel [2,3,4]),p9,qa,qb,qc,qd,qe,qf,qg,(RDStmt.intro p2 p3 p4 p5 p6 p7 p8)⟩)))))))
 ·rintro _ tc ⟨qh,qi,rfl,rfl,qj⟩
  have qk:=ca qj fa
  exact thenP (panE (.inr ⟨_,rfl,qh,qi,(oi h).symm,rfl,qk.sel []⟩))
theorem f1004815_b_ok (k:Nat) (F:Fam39) (IH39:f39_spec F.f39) (IH1004815:f1004815_spec F.f1004815) (IH1004866:f1004866_spec F.f1004866) (IH1004884:f1004884_spec F.f1004884) (IH1005015:f1005015_spec F.f1005015) (IH1005066:f1005066_spec F.f1005066):f1004815_spec (f1004815_b k F):=by
 unfold f1004815_spec
 intro K wi g bs br Y Z ab ac ad ae af ag ah ai aj ak al f q s an d u x aI am bI ao b3 b4 gA bsA sA_0 sA_1 sA_2 sA_3 sA_4 sA_5 sA_6 AsA_6 csA_6 sA_7 AsA_7 csA_7 sA_8 AsA_8 csA_8 sA_9 AsA_9 csA_9 sA_10 AsA_10 csA_10 r_ h hG cq cr cs ct cu cw db eW hbr dc cx hsA_1 hsA_3 hsA_6 hsA_7 hsA_8 hsA_9 hsA_10 bJ
 refine enter Tryd.func48 rfl (n:=59) rfl ?_
 unfold f1004815_b at h
 refine sr (m2 nS (wt (sr (m1 (pp g 0) (m1 (pp g 0) (nilc rfl (fd 8 Tyf84_3 rfl (l1 0 (sl u d x) bJ Tya82 (mkm bJ (fun dd bJ=>(bsl (e:=81) (cells:=#[.map (some (zz wi))]) (vs:=[(0,.map (some (zz wi)))]) bJ rfl (buildSl_one Tye82 Tys81 Tyz81 rfl (by decide) (by decide) rfl) (fun de df=>?_))))))))))))
 have dg:=p401235 df
 obtain ⟨b5,h⟩:=of_guard h
 refine pushM (kv:=kS) (R:=VInt) dg db (mapr0 (kv:=kS) (R:=VInt)) Tye82 Tyi81 rfl rfl rfl hbr hbr b5 (by decide) (fun bB bC cy eX dh cz=>(nilc rfl (fd 8 Tyf84_3 rfl (sI 1 (.slice bB (d ++ [([]:List (BA × Int))]).length bC) ((vR Z Y ab ac ae ad af ag ah ai ak aj al q f s bB (d ++ [([]:List (BA × Int))]) bC am).toArray) dh Tys82 rfl rfl (fun di b6=>(wt (wp_cut (fun a w=>∃ cA B bD bK bL bE bF bM bN bO bP bQ bG bR bS ax bT bU bV ay bW bX bY bZ ap,a=fr 59 (updL cA [(0,pp g 0),(2,sl b3 ao b4)])∧KH.sub K B∧SR K B wi w [.box bs g (vR Z Y ab ac ae ad af ag ah ai ak aj al q f s u d x am).toArray 84,.row br (sl q f s) 9 1 f.length an,.stk br (sl u d x) 81 d.length aI,.box bsA gA (vS sA_0 sA_1 sA_2 sA_3 sA_4 sA_5 AsA_6 sA_6 csA_6 AsA_7 sA_7 csA_7 AsA_8 sA_8 csA_8 AsA_9 sA_9 csA_9 AsA_10 sA_10 csA_10).toArray 47] [.box bs g (vR bK bD bL bE bM bF bN bO bP bQ bR bG bS bT ax bU bW ay bX bZ).toArray 84,.box bsA gA (vS sA_0 sA_1 ap sA_3 sA_4 sA_5 AsA_6 sA_6 csA_6 AsA_7 sA_7 csA_7 AsA_8 sA_8 csA_8 AsA_9 sA_9 csA_9 AsA_10 sA_10 csA_10).toArray 47,.row br (sl bT ax bU) 9 1 ax.length bV,.stk br (sl bW ay bX) 81 ay.length bY]∧tF B bK bL bD∧bE.size ≤ mB∧tP B bM bN bF∧tS B bR bS bG∧Reps RStr 1 ax bV∧ax.length * 16 ≤ mB∧StkR kS VInt ay bY∧ay.length * 8 ≤ mB∧f1004815_j1 k F ao sA_0 sA_1 sA_3 sA_4 sA_5 sA_6 sA_7 sA_8 sA_9 sA_10 bD bE bF bO bP bQ bG ax ay bZ ap=some r_) ?_ ?_)))))))
 ·refine sr (m1 (.string bI) (bsc (r:=(!seq bI ⟨#[]⟩)) rfl rfl rfl (wt (cd h (fun b7 h=>?_) (fun b7 h=>?_)))))
  ·refine cT b7 (wp_region_lit (m1 (pp gA 2) (m1 (pp g 0) (m1 (.string bI) ?_))))
   have b8:=p1203 b6
   obtain ⟨eY,dj,h⟩:=ob h
   refine cp ([pp g 0,.string bI]) Tyb37 ((f37_ok k) dj (hG.mono kr) cq cr cs ct cu cw cz (app_bound b5) (Nat.le_trans hbr b6.size) dc (pt b8)) ?_ ?_
   ·rintro _ eZ ⟨dk,dl,dm,dn,dp,dq,dr,ds,dt,du,b9,dv,dw,dx,dy,dz,dA,dB,dC,dD,dE,dF,dG,dH,rfl,rfl,cB,dI,dJ,dK,dL,dM,dN,dO,dP⟩
    have dQ:=ca cB b8
    exact nilc rfl (sI 3 (iI b9) ((vS sA_0 sA_1 b9 sA_3 sA_4 sA_5 AsA_6 sA_6 csA_6 AsA_7 sA_7 csA_7 AsA_8 sA_8 csA_8 AsA_9 sA_9 csA_9 AsA_10 sA_10 csA_10).toArray) dQ Tys3 rfl rfl (fun e0 dR=>(wt (⟨_,dv,dk,dw,dx,dl,dm,dy,dz,dn,dp,dq,dr,dA,dB,ds,dC,dD,dE,dt,dF,dG,dH,du,b9,fR,cB.sub,(dR.sel [0,3,1,2]),dI,dJ,dK,dL,dM,dN,dO,dP,h⟩))))
   ·rintro _ e1 ⟨dS,dT,rfl,rfl,dU⟩
    have dV:=ca dU b8
    exact thenP (panE (.inr ⟨_,rfl,dS,dT,(oi h).symm,rfl,dV.sel []⟩))
  ·exact cF b7 (wp_skip (thenN (⟨_,K,Y,Z,ab,ac,ad,ae,af,ag,ah,ai,aj,ak,al,f,q,s,an,(d ++ [([]:List (BA × Int))]),bB,bC,cy,am,sA_2,fR,kr,(b6.sel [1,3,2,0]),cq,cr,cs,ct,cu,cw,cz,(app_bound b5),h⟩)))
 ·rintro _ e2 ⟨cA,B,bD,bK,bL,bE,bF,bM,bN,bO,bP,bQ,bG,bR,bS,ax,bT,bU,bV,ay,bW,bX,bY,bZ,ap,rfl,az,dW,dX,dY,dZ,d0,d1,d2,d3,d4,h⟩
  unfold f1004815_j1 at h
  refine sr (m2 nS (wt (wp_seq (sr (m1 (sl b3 ao b4) (lS ao.length Tye32 (m1 (iI 0) (wt (wp_block ?_)))))))))
  have d5:=dW.row_ (zz wi) 47 11
  refine wp_loopG (fun g_ a w=>∃ cC C aJ,∃ (aA:Nat),∃ aB aK aL aE aF aM aN aP aQ aR aG aS aT y aq ar bj c z A bk aU l au av bH,g_=aJ.length∧a=fr 59 (updL cC [(0,pp g 0),(9,sl au l av),(30,sl b3 ao b4),(31,iI (ao.length:Int)),(32,iI (aA:Int))])∧KH.sub B C∧SR K C wi w [.box bs g (vR Z Y ab ac ae ad af ag ah ai ak aj al q f s u d x am).toArray 84,.row br (sl q f s) 9 1 f.length an,.stk br (sl u d x) 81 d.length aI,.box bsA gA (vS sA_0 sA_1 sA_2 sA_3 sA_4 sA_5 AsA_6 sA_6 csA_6 AsA_7 sA_7 csA_7 AsA_8 sA_8 csA_8 AsA_9 sA_9 csA_9 AsA_10 sA_10 csA_10).toArray 47] [.box bs g (vR aK aB aL aE aM aF aN aP aQ aR aS aG aT aq y ar z c A aU).toArray 84,.box bsA gA (vS sA_0 sA_1 ap sA_3 sA_4 sA_5 AsA_6 sA_6 csA_6 AsA_7 sA_7 csA_7 AsA_8 sA_8 csA_8 AsA_9 sA_9 csA_9 AsA_10 sA_10 csA_10).toArray 47,.row br (sl aq y ar) 9 1 y.length bj,.stk br (sl z c A) 81 c.length bk,.row (zz wi) (sl au l av) 47 11 l.length bH]∧ao.drop aA=aJ∧tF C aK aL aB∧aE.size ≤ mB∧tP C aM aN aF∧tS C aS aT aG∧Reps RStr 1 y bj∧y.length * 16 ≤ mB∧StkR kS VInt c bk∧c.length * 8 ≤ mB∧Reps (RDStmt C) 11 l bH∧l.length * 184 ≤ mB∧f1004815_l1 k F sA_0 sA_1 sA_3 sA_4 sA_5 sA_6 sA_7 sA_8 sA_9 sA_10 ap aJ aA aB aE aF aP aQ aR aG y c aU l=some r_) ao.length ?_ ?_
  ·exact ⟨_,B,ao,0,bD,bK,bL,bE,bF,bM,bN,bO,bP,bQ,bG,bR,bS,ax,bT,bU,bV,ay,bW,bX,bY,bZ,([]:LS),none,0,[],rfl,fR,kr,(d5.sel [1,2,3,4,0]),List.drop_zero,dX,dY,dZ,d0,d1,d2,d3,d4,(reps0 (R:=(RDStmt B)) (size:=11)),(by simp),h⟩
  ·rintro _ _ cD ⟨cC,C,aJ,aA,aB,aK,aL,aE,aF,aM,aN,aP,aQ,aR,aG,aS,aT,y,aq,ar,bj,c,z,A,bk,aU,l,au,av,bH,rfl,rfl,aw,cb,bm,cG,cH,cI,cJ,cK,cL,cc,cM,cN,d6,h⟩
   rcases aJ with _ | ⟨⟨aV,aW,aX,aY,aZ,a0,a3,a4,a5,a6,a7⟩,aJ⟩
   ·unfold f1004815_l1 at h
    refine sr (bcm (r:=false) rfl rfl (congrArg some (drop_nil_lt bm)) (wt (wp_seq (cndF rfl (wp_exit (thenX (thenX (blkX (thenN (wp_seq (have t:=cb.drew;(regAny (E:=[14]) (F:=FW C [.box bs g (vR aK aB aL aE aM aF aN aP aQ aR aS aG aT aq y ar z c A aU).toArray 84,.box bsA gA (vS sA_0 sA_1 ap sA_3 sA_4 sA_5 AsA_6 sA_6 csA_6 AsA_7 sA_7 csA_7 AsA_8 sA_8 csA_8 AsA_9 sA_9 csA_9 AsA_10 sA_10 csA_10).toArray 47,.row br (sl aq y ar) 9 1 y.length bj,.stk br (sl z c A) 81 c.length bk,.row (zz wi) (sl au l av) 47 11 l.length bH]) (L:=(lb 15 0)) ymx rfl rfl (tk 0 (pp g 0) (lb 15 1) rfl (fun w=>mv_r (v:=pp g 0) rfl) (heldF (fq [0,1,2,3,4] t)) (tk 1 (pp g 0) (lb 15 3) rfl (fun w=>mv_r (v:=pp g 0) rfl) (heldF (fq [0,1,2,3,4] t)) (tk 2 (pp g 0) (lb 15 7) rfl (fun w=>nilc_r rfl) (heldF (fq [0,1,2,3,4] t)) (tk 3 (pp g 8) (lb 15 15) rfl (fun w=>fld_r (o':=8) Tyf84_3 rfl rfl) (heldF (fq [0,1,2,3,4] t)) (tf 4 (sl z c A) ([[14,4]]) (lb 15 31) rfl (fq [0,1,2,3,4] t) (fun w hF=>lb1_r (i:=0) (v:=sl z c A) hF rfl Tya82 rfl rfl) (tk 5 (pp g 0) (lb 15 63) rfl (fun w=>mv_r (v:=pp g 0) rfl) (heldF (fq [0,1,2,3,4] t)) (tk 6 (pp g 0) (lb 15 127) rfl (fun w=>nilc_r rfl) (heldF (fq [0,1,2,3,4] t)) (tk 7 (pp g 8) (lb 15 255) rfl (fun w=>fld_r (o':=8) Tyf84_3 rfl rfl) (heldF (fq [0,1,2,3,4] t)) (tf 8 (sl z c A) ([[14,8]]) (lb 15 511) rfl (fq [0,1,2,3,4] t) (fun w hF=>lb1_r (i:=0) (v:=sl z c A) hF rfl Tya82 rfl rfl) (tk 9 (iI (c.length:Int)) (lb 15 1023) rfl (fun w=>lnS_r (len:=c.length) Tye82 rfl) (heldF (fq [0,1,2,3,4] t)) (tk 10 (iI (w64 ((c.length:Int) - 1))) (lb 15 2047) rfl (fun w=>bar_r (r:=(w64 ((c.length:Int) - 1))) rfl rfl rfl) (heldF (fq [0,1,2,3,4] t)) ?_)))))))))))))))))))))))
    obtain ⟨b0,h⟩:=of_guard h
    refine tk 11 (.slice z (c.take (w64 ((c.length:Int) - 1)).toNat).length A) (lb 15 4095) rfl (fun w=>slH_r (m:=(c.take (w64 ((c.length:Int) - 1)).toNat).length) Tye82 Tys81 rfl rfl b0.1 (Int.le_trans b0.2 (Int.ofNat_le.2 (stk_cap (i:=3) t rfl))) (take_len b0)) (heldF (fq [0,1,2,3,4] t)) (tk 12 (pp g 0) (lb 15 8191) rfl (fun w=>nilc_r rfl) (heldF (fq [0,1,2,3,4] t)) (tk 13 (pp g 8) (lb 15 16383) rfl (fun w=>fld_r (o':=8) Tyf84_3 rfl rfl) (heldF (fq [0,1,2,3,4] t)) (aO 14 rfl (have d7:=t.cutM (i:=3) (m:=(w64 ((c.length:Int) - 1)).toNat) rfl cc (by have:=b0.2; omega);(sI 0 (.slice z (c.take (w64 ((c.length:Int) - 1)).toNat).length A) ((vR aK aB aL aE aM aF aN aP aQ aR aS aG aT aq y ar z (c.take (w64 ((c.length:Int) - 1)).toNat) A aU).toArray) d7 Tys82 rfl rfl (fun e3 d8=>(wt ⟨heldE (i:=14) rfl rfl,aD (thenN (sr (m1 (sl au l av) (m2 (sl au l av) (wt (wp_ret ?_))))))⟩)))))))
    obtain ⟨d9,ea,aH,ec⟩:=shutI (i:=4) (bytes:=184) (R:=fun K=>(RDStmt K)) d8 rfl (Nat.le_refl _) cN d6 (fun hs=>(fun _ _ h=>RDStmt.mono hs h))
    exact retP (retA1 rfl (resT rfl) ⟨aB,aE,aF,aP,aQ,aR,aG,y,(c.take (w64 ((c.length:Int) - 1)).toNat),aU,sA_0,sA_1,ap,sA_3,sA_4,sA_5,sA_6,sA_7,sA_8,sA_9,sA_10,l,d9,aK,aL,aM,aN,aS,aT,aq,ar,bj,z,A,(bk.take (w64 ((c.length:Int) - 1)).toNat),AsA_6,csA_6,AsA_7,csA_7,AsA_8,csA_8,AsA_9,csA_9,AsA_10,csA_10,au,av,(oi h).symm,rfl,(ea.sel [0,2,3,1]),(mf cG aH),cH,(mp cI aH),(ms cJ aH),(cK.mono (fun _ _ h=>h)),cL,(StkR.mono (fun _ _ h=>h) (StkR.take (w64 ((c.length:Int) - 1)).toNat cc)),(take_bound cM),hsA_1,hsA_3,(me hsA_6 ((az.trans aw).trans aH)),(ms hsA_7 ((az.trans aw).trans aH)),(ms hsA_8 ((az.trans aw).trans aH)),(ms hsA_9 ((az.trans aw).trans aH)),(mc hsA_10 ((az.trans aw).trans aH)),ec⟩)
   ·unfold f1004815_l1 at h
    refine sr (bcm (r:=true) rfl rfl (congrArg some (drop_cons_t bm)) (wt (wp_seq (cndT rfl (wp_skip (thenN (wp_seq (wp_block (sr ?_)))))))))
    obtain ⟨ed,ee,e4,ef,e5,eg,eh⟩:=((ms cx (az.trans aw))).row.at_ (drop_cons_at bm)
    obtain ⟨a8,a9,ba,bb,bd,be,bf,bg,bh,bi,rfl,ei,ej,ek,el,em,en,eo⟩:=RDStmt.open eh
    refine idxN (b:=ed) (o:=ee) (i:=aA) Tye32 Tys47 rfl ef rfl (drop_cons_lt bm) (lD (vS aV aW aX aY aZ a0 a8 a3 a9 ba a4 bb bd a5 be bf a6 bg bh a7 bi) Tya47 Tys47 rfl (fun j v hj=>cb.cell (kr.cell (eg j v hj))) (aC zS.toArray cb Tyz47 (fun e6 ep=>(sI 0 (.agg (vS aV aW aX aY aZ a0 a8 a3 a9 ba a4 bb bd a5 be bf a6 bg bh a7 bi).toArray) ((vS aV aW aX aY aZ a0 a8 a3 a9 ba a4 bb bd a5 be bf a6 bg bh a7 bi).toArray) ep Tys47 rfl rfl (fun eq ce=>(wt (sr (m1 (pp g 0) (lN 0 (vS aV aW aX aY aZ a0 a8 a3 a9 ba a4 bb bd a5 be bf a6 bg bh a7 bi) ce Tya47 Tys47 ?_)))))))))
    have cf:=p134025 ce
    obtain ⟨e7,es,h⟩:=ob h
    refine cp ([pp g 0,.agg (vS aV aW aX aY aZ a0 a8 a3 a9 ba a4 bb bd a5 be bf a6 bg bh a7 bi).toArray]) Tyb39 (IH39 es (hG.mono (az.trans aw)) cG cH cI cJ cK cL cc cM (Nat.le_trans hbr ce.size) (RDStmt.intro ei ej ek el em en eo) (pt cf)) ?_ ?_
    ·rintro _ et ⟨cO,cP,cQ,cR,cS,cU,cV,b1,b2,cW,⟨D,G,I,J,N,O,S,U,V,W,X⟩,ch,cX,cY,cZ,c2,c3,c4,ci,cj,c5,ck,cl,c7,e8,rfl,rfl,cm,eu,ew,ex,ey,ez,eA,eB,eC,eD⟩
     have eE:=ca cm cf
     obtain ⟨bn,bo,bp,bq,bu,bv,bw,bx,bz,bA,rfl,eF,eG,eH,eI,eJ,eK,eL⟩:=RDStmt.open eD
     refine aC zS.toArray eE Tyz47 (fun e9 eM=>(sI 0 (.agg (vS D G I J N O bn S bo bp U bq bu V bv bw W bx bz X bA).toArray) ((vS D G I J N O bn S bo bp U bq bu V bv bw W bx bz X bA).toArray) eM Tys47 rfl rfl (fun fa c8=>(wt (wp_region_lit (m1 (sl au l av) (lN 0 (vS D G I J N O bn S bo bp U bq bu V bv bw W bx bz X bA) c8 Tya47 Tys47 (bsl (e:=47) (cells:=(vS D G I J N O bn S bo bp U bq bu V bv bw W bx bz X bA).toArray) (vs:=[(0,.agg (vS D G I J N O bn S bo bp U bq bu V bv bw W bx bz X bA).toArray)]) c8 rfl (buildSl_one Tye32 Tys47 Tyz47 rfl (by decide) (by decide) rfl) (fun fb eN=>?_)))))))))
     obtain ⟨c9,h⟩:=of_guard h
     refine apR (R:=(RDStmt ch)) (p:=(DStmt.mk D G I J N O S U V W X)) (i:=7) (j:=0) eN rfl rfl Tye32 Tyi47 rfl (by decide) rfl rfl (cN.mono (fun _ _ h=>RDStmt.mono cm.sub h)) (RDStmt.intro eF eG eH eI eJ eK eL) rfl rfl (Nat.le_refl _) c9 (by decide) (fun cn co da eO eP eQ=>?_)
     have eR:=p1234567 eP
     exact m2 (.slice cn (l ++ [(DStmt.mk D G I J N O S U V W X)]).length co) (wpList_nil (blkN (thenN (wp_region_lit (bar (r:=((aA + 1:Nat):Int)) rfl rfl (inc_ok (le_big (((ms cx (az.trans aw))).len) (by decide) (drop_cons_lt bm))) (m1 (iI ((aA + 1:Nat):Int)) (wt (⟨_,Nat.lt_succ_self _,_,ch,aJ,aA + 1,cO,cX,cY,cP,cQ,cZ,c2,cR,cS,cU,cV,c3,c4,b1,ci,cj,c5,b2,ck,cl,c7,cW,(l ++ [(DStmt.mk D G I J N O S U V W X)]),cn,co,da,rfl,fR,(aw.trans cm.sub),(eR.sel [1,5,2,3,6]),drop_cons_next bm,eu,ew,ex,ey,ez,eA,eB,eC,eQ,(app_bound c9),h⟩))))))))
    ·rintro _ fc ⟨eS,eT,rfl,rfl,eU⟩
     have eV:=ca eU cf
     exact thenP (blkP (thenP (thenP (blkP (thenP (panE (.inr ⟨_,rfl,eS,eT,(oi h).symm,rfl,eV.sel []⟩)))))))
theorem f1004866_b_ok (k:Nat) (F:Fam39) (IH39:f39_spec F.f39) (IH1004815:f1004815_spec F.f1004815) (IH1004866:f1004866_spec F.f1004866) (IH1004884:f1004884_spec F.f1004884) (IH1005015:f1005015_spec F.f1005015) (IH1005066:f1005066_spec F.f1005066):f1004866_spec (f1004866_b k F):=by
 unfold f1004866_spec
 intro K wi g bs br X Y Z ab ac ad ae af ag ah ai aj ak f q s aq d z A ba al bw ay bU bV r_ h hG bW bX bY bZ b0 b1 cD dM hbr cG b2 bx
 refine enter Tryd.func48 rfl (n:=59) rfl ?_
 unfold f1004866_b at h
 refine sr (m2 nS (wt (sr (m1 (pp g 0) (m1 (pp g 0) (nilc rfl (fd 8 Tyf84_3 rfl (l1 0 (sl z d A) bx Tya82 (mkm bx (fun cH bx=>(bsl (e:=81) (cells:=#[.map (some (zz wi))]) (vs:=[(0,.map (some (zz wi)))]) bx rfl (buildSl_one Tye82 Tys81 Tyz81 rfl (by decide) (by decide) rfl) (fun cI cJ=>?_))))))))))))
 have cK:=p40123 cJ
 obtain ⟨bD,h⟩:=of_guard h
 refine pushM (kv:=kS) (R:=VInt) cK cD (mapr0 (kv:=kS) (R:=VInt)) Tye82 Tyi81 rfl rfl rfl hbr hbr bD (by decide) (fun bq bu b3 dN cL b4=>(nilc rfl (fd 8 Tyf84_3 rfl (sI 1 (.slice bq (d ++ [([]:List (BA × Int))]).length bu) ((vR Y X Z ab ad ac ae af ag ah aj ai ak q f s bq (d ++ [([]:List (BA × Int))]) bu al).toArray) cL Tys82 rfl rfl (fun cM bE=>(wt (wp_seq (sr (m1 (.string bw) (bsc (r:=(!seq bw ⟨#[]⟩)) rfl rfl rfl (wt (cd h (fun bF h=>?_) (fun bF h=>?_)))))))))))))
 ·refine cT bF (wp_region_lit (m1 (.pointer none) (m1 (pp g 0) (m1 (.string bw) ?_))))
  have bG:=p120 bE
  obtain ⟨dO,cN,h⟩:=ob h
  refine cp ([pp g 0,.string bw]) Tyb37 ((f37_ok k) cN (hG.mono kr) bW bX bY bZ b0 b1 b4 (app_bound bD) (Nat.le_trans hbr bE.size) cG (pt bG)) ?_ ?_
  ·rintro _ dP ⟨dQ,dR,dS,dT,dU,dV,dW,dX,dY,dZ,d0,d1,d2,d3,d4,d5,d6,d7,d8,d9,ea,ec,ed,ee,rfl,rfl,cO,ef,eg,eh,ei,ej,ek,el,em⟩
   have en:=ca cO bG
   cases h
  ·rintro _ eo ⟨cP,cQ,rfl,rfl,cR⟩
   have cS:=ca cR bG
   exact thenP (panE (.inr ⟨_,rfl,cP,cQ,(oi h).symm,rfl,cS.sel []⟩))
 ·refine cF bF (wp_skip (thenN (sr (m2 nS (wt (wp_seq (sr (m1 (sl bU ay bV) (lS ay.length Tye32 (m1 (iI 0) (wt (wp_block ?_))))))))))))
  have cU:=bE.row_ (zz wi) 47 11
  refine wp_loopG (fun g_ a w=>∃ b5 B az,∃ (ar:Nat),∃ au aA aB av aw aE aF aG aH aI ax aJ aK u am an bb c x y bd aL l ao ap bv,g_=az.length∧a=fr 59 (updL b5 [(0,pp g 0),(9,sl ao l ap),(30,sl bU ay bV),(31,iI (ay.length:Int)),(32,iI (ar:Int))])∧KH.sub K B∧SR K B wi w [.box bs g (vR Y X Z ab ad ac ae af ag ah aj ai ak q f s z d A al).toArray 84,.row br (sl q f s) 9 1 f.length aq,.stk br (sl z d A) 81 d.length ba] [.box bs g (vR aA au aB av aE aw aF aG aH aI aJ ax aK am u an x c y aL).toArray 84,.row br (sl am u an) 9 1 u.length bb,.stk br (sl x c y) 81 c.length bd,.row (zz wi) (sl ao l ap) 47 11 l.length bv]∧ay.drop ar=az∧tF B aA aB au∧av.size ≤ mB∧tP B aE aF aw∧tS B aJ aK ax∧Reps RStr 1 u bb∧u.length * 16 ≤ mB∧StkR kS VInt c bd∧c.length * 8 ≤ mB∧Reps (RDStmt B) 11 l bv∧l.length * 184 ≤ mB∧f1004866_l1 k F az ar au av aw aG aH aI ax u c aL l=some r_) ay.length ?_ ?_
  ·exact ⟨_,K,ay,0,X,Y,Z,ab,ac,ad,ae,af,ag,ah,ai,aj,ak,f,q,s,aq,(d ++ [([]:List (BA × Int))]),bq,bu,b3,al,([]:LS),none,0,[],rfl,fR,kr,(cU.sel [2,3,1,0]),List.drop_zero,bW,bX,bY,bZ,b0,b1,b4,(app_bound bD),(reps0 (R:=(RDStmt K)) (size:=11)),(by simp),h⟩
  ·rintro _ _ b6 ⟨b5,B,az,ar,au,aA,aB,av,aw,aE,aF,aG,aH,aI,ax,aJ,aK,u,am,an,bb,c,x,y,bd,aL,l,ao,ap,bv,rfl,rfl,bz,bH,be,b7,b8,b9,cb,cc,ce,bI,cf,ch,cV,h⟩
   rcases az with _ | ⟨⟨aM,aN,aP,aQ,aR,aS,aT,aU,aV,aW,aX⟩,az⟩
   ·unfold f1004866_l1 at h
    refine sr (bcm (r:=false) rfl rfl (congrArg some (drop_nil_lt be)) (wt (wp_seq (cndF rfl (wp_exit (thenX (thenX (blkX (thenN (wp_seq (have t:=bH.drew;(regAny (E:=[14]) (F:=FW B [.box bs g (vR aA au aB av aE aw aF aG aH aI aJ ax aK am u an x c y aL).toArray 84,.row br (sl am u an) 9 1 u.length bb,.stk br (sl x c y) 81 c.length bd,.row (zz wi) (sl ao l ap) 47 11 l.length bv]) (L:=(lb 15 0)) ymx rfl rfl (tk 0 (pp g 0) (lb 15 1) rfl (fun w=>mv_r (v:=pp g 0) rfl) (heldF (fq [0,1,2,3] t)) (tk 1 (pp g 0) (lb 15 3) rfl (fun w=>mv_r (v:=pp g 0) rfl) (heldF (fq [0,1,2,3] t)) (tk 2 (pp g 0) (lb 15 7) rfl (fun w=>nilc_r rfl) (heldF (fq [0,1,2,3] t)) (tk 3 (pp g 8) (lb 15 15) rfl (fun w=>fld_r (o':=8) Tyf84_3 rfl rfl) (heldF (fq [0,1,2,3] t)) (tf 4 (sl x c y) ([[14,4]]) (lb 15 31) rfl (fq [0,1,2,3] t) (fun w hF=>lb1_r (i:=0) (v:=sl x c y) hF rfl Tya82 rfl rfl) (tk 5 (pp g 0) (lb 15 63) rfl (fun w=>mv_r (v:=pp g 0) rfl) (heldF (fq [0,1,2,3] t)) (tk 6 (pp g 0) (lb 15 127) rfl (fun w=>nilc_r rfl) (heldF (fq [0,1,2,3] t)) (tk 7 (pp g 8) (lb 15 255) rfl (fun w=>fld_r (o':=8) Tyf84_3 rfl rfl) (heldF (fq [0,1,2,3] t)) (tf 8 (sl x c y) ([[14,8]]) (lb 15 511) rfl (fq [0,1,2,3] t) (fun w hF=>lb1_r (i:=0) (v:=sl x c y) hF rfl Tya82 rfl rfl) (tk 9 (iI (c.length:Int)) (lb 15 1023) rfl (fun w=>lnS_r (len:=c.length) Tye82 rfl) (heldF (fq [0,1,2,3] t)) (tk 10 (iI (w64 ((c.length:Int) - 1))) (lb 15 2047) rfl (fun w=>bar_r (r:=(w64 ((c.length:Int) - 1))) rfl rfl rfl) (heldF (fq [0,1,2,3] t)) ?_)))))))))))))))))))))))
    obtain ⟨bA,h⟩:=of_guard h
    refine tk 11 (.slice x (c.take (w64 ((c.length:Int) - 1)).toNat).length y) (lb 15 4095) rfl (fun w=>slH_r (m:=(c.take (w64 ((c.length:Int) - 1)).toNat).length) Tye82 Tys81 rfl rfl bA.1 (Int.le_trans bA.2 (Int.ofNat_le.2 (stk_cap (i:=2) t rfl))) (take_len bA)) (heldF (fq [0,1,2,3] t)) (tk 12 (pp g 0) (lb 15 8191) rfl (fun w=>nilc_r rfl) (heldF (fq [0,1,2,3] t)) (tk 13 (pp g 8) (lb 15 16383) rfl (fun w=>fld_r (o':=8) Tyf84_3 rfl rfl) (heldF (fq [0,1,2,3] t)) (aO 14 rfl (have cW:=t.cutM (i:=2) (m:=(w64 ((c.length:Int) - 1)).toNat) rfl bI (by have:=bA.2; omega);(sI 0 (.slice x (c.take (w64 ((c.length:Int) - 1)).toNat).length y) ((vR aA au aB av aE aw aF aG aH aI aJ ax aK am u an x (c.take (w64 ((c.length:Int) - 1)).toNat) y aL).toArray) cW Tys82 rfl rfl (fun ep cX=>(wt ⟨heldE (i:=14) rfl rfl,aD (thenN (sr (m1 (sl ao l ap) (m2 (sl ao l ap) (wt (wp_ret ?_))))))⟩)))))))
    obtain ⟨cY,cZ,bJ,c2⟩:=shutI (i:=3) (bytes:=184) (R:=fun K=>(RDStmt K)) cX rfl (Nat.le_refl _) ch cV (fun hs=>(fun _ _ h=>RDStmt.mono hs h))
    exact retP (retA1 rfl (resT rfl) ⟨au,av,aw,aG,aH,aI,ax,u,(c.take (w64 ((c.length:Int) - 1)).toNat),aL,l,cY,aA,aB,aE,aF,aJ,aK,am,an,bb,x,y,(bd.take (w64 ((c.length:Int) - 1)).toNat),ao,ap,(oi h).symm,rfl,cZ,(mf b7 bJ),b8,(mp b9 bJ),(ms cb bJ),(cc.mono (fun _ _ h=>h)),ce,(StkR.mono (fun _ _ h=>h) (StkR.take (w64 ((c.length:Int) - 1)).toNat bI)),(take_bound cf),c2⟩)
   ·unfold f1004866_l1 at h
    refine sr (bcm (r:=true) rfl rfl (congrArg some (drop_cons_t be)) (wt (wp_seq (cndT rfl (wp_skip (thenN (wp_seq (wp_block (sr ?_)))))))))
    obtain ⟨c3,c4,eq,c5,es,c7,c8⟩:=((ms b2 bz)).row.at_ (drop_cons_at be)
    obtain ⟨aY,aZ,a0,a3,a4,a5,a6,a7,a8,a9,rfl,c9,da,db,dc,dd,de,df⟩:=RDStmt.open c8
    refine idxN (b:=c3) (o:=c4) (i:=ar) Tye32 Tys47 rfl c5 rfl (drop_cons_lt be) (lD (vS aM aN aP aQ aR aS aY aT aZ a0 aU a3 a4 aV a5 a6 aW a7 a8 aX a9) Tya47 Tys47 rfl (fun j v hj=>bH.cell (kr.cell (c7 j v hj))) (aC zS.toArray bH Tyz47 (fun et dg=>(sI 0 (.agg (vS aM aN aP aQ aR aS aY aT aZ a0 aU a3 a4 aV a5 a6 aW a7 a8 aX a9).toArray) ((vS aM aN aP aQ aR aS aY aT aZ a0 aU a3 a4 aV a5 a6 aW a7 a8 aX a9).toArray) dg Tys47 rfl rfl (fun dh bK=>(wt (sr (m1 (pp g 0) (lN 0 (vS aM aN aP aQ aR aS aY aT aZ a0 aU a3 a4 aV a5 a6 aW a7 a8 aX a9) bK Tya47 Tys47 ?_)))))))))
    have bL:=p12304 bK
    obtain ⟨eu,di,h⟩:=ob h
    refine cp ([pp g 0,.agg (vS aM aN aP aQ aR aS aY aT aZ a0 aU a3 a4 aV a5 a6 aW a7 a8 aX a9).toArray]) Tyb39 (IH39 di (hG.mono bz) b7 b8 b9 cb cc ce bI cf (Nat.le_trans hbr bK.size) (RDStmt.intro c9 da db dc dd de df) (pt bL)) ?_ ?_
    ·rintro _ dj ⟨ci,cj,ck,cl,cm,cn,co,bB,bC,cq,⟨C,D,G,I,J,N,O,S,U,V,W⟩,bM,cr,cs,ct,cu,cw,cx,bN,bO,cy,bP,bQ,cz,ew,rfl,rfl,bR,dk,dl,dm,dn,dp,dq,dr,ds,dt⟩
     have du:=ca bR bL
     obtain ⟨bf,bg,bh,bi,bj,bk,bm,bn,bo,bp,rfl,dv,dw,dx,dy,dz,dA,dB⟩:=RDStmt.open dt
     refine aC zS.toArray du Tyz47 (fun ex dC=>(sI 0 (.agg (vS C D G I J N bf O bg bh S bi bj U bk bm V bn bo W bp).toArray) ((vS C D G I J N bf O bg bh S bi bj U bk bm V bn bo W bp).toArray) dC Tys47 rfl rfl (fun ey cA=>(wt (wp_region_lit (m1 (sl ao l ap) (lN 0 (vS C D G I J N bf O bg bh S bi bj U bk bm V bn bo W bp) cA Tya47 Tys47 (bsl (e:=47) (cells:=(vS C D G I J N bf O bg bh S bi bj U bk bm V bn bo W bp).toArray) (vs:=[(0,.agg (vS C D G I J N bf O bg bh S bi bj U bk bm V bn bo W bp).toArray)]) cA rfl (buildSl_one Tye32 Tys47 Tyz47 rfl (by decide) (by decide) rfl) (fun ez dD=>?_)))))))))
     obtain ⟨cB,h⟩:=of_guard h
     refine apR (R:=(RDStmt bM)) (p:=(DStmt.mk C D G I J N O S U V W)) (i:=6) (j:=0) dD rfl rfl Tye32 Tyi47 rfl (by decide) rfl rfl (ch.mono (fun _ _ h=>RDStmt.mono bR.sub h)) (RDStmt.intro dv dw dx dy dz dA dB) rfl rfl (Nat.le_refl _) cB (by decide) (fun bS bT cC dE dF dG=>?_)
     have dH:=p123456 dF
     exact m2 (.slice bS (l ++ [(DStmt.mk C D G I J N O S U V W)]).length bT) (wpList_nil (blkN (thenN (wp_region_lit (bar (r:=((ar + 1:Nat):Int)) rfl rfl (inc_ok (le_big (((ms b2 bz)).len) (by decide) (drop_cons_lt be))) (m1 (iI ((ar + 1:Nat):Int)) (wt (⟨_,Nat.lt_succ_self _,_,bM,az,ar + 1,ci,cr,cs,cj,ck,ct,cu,cl,cm,cn,co,cw,cx,bB,bN,bO,cy,bC,bP,bQ,cz,cq,(l ++ [(DStmt.mk C D G I J N O S U V W)]),bS,bT,cC,rfl,fR,(bz.trans bR.sub),(dH.sel [1,2,3,5]),drop_cons_next be,dk,dl,dm,dn,dp,dq,dr,ds,dG,(app_bound cB),h⟩))))))))
    ·rintro _ eA ⟨dI,dJ,rfl,rfl,dK⟩
     have dL:=ca dK bL
     exact thenP (blkP (thenP (thenP (blkP (thenP (panE (.inr ⟨_,rfl,dI,dJ,(oi h).symm,rfl,dL.sel []⟩)))))))
theorem f1004884_b_ok (k:Nat) (F:Fam39) (IH39:f39_spec F.f39) (IH1004815:f1004815_spec F.f1004815) (IH1004866:f1004866_spec F.f1004866) (IH1004884:f1004884_spec F.f1004884) (IH1005015:f1005015_spec F.f1005015) (IH1005066:f1005066_spec F.f1005066):f1004884_spec (f1004884_b k F):=by
 unfold f1004884_spec
 intro K wi g bs br Y Z ab ac ad ae af ag ah ai aj ak al f q s an d u x aF am bI ao b3 b4 gA bsA sA_0 sA_1 sA_2 sA_3 AsA_3 csA_3 sA_4 AsA_4 csA_4 r_ h hG cq cr cs ct cu cw db eW hbr dc cx hsA_1 hsA_3 hsA_4 bJ
 refine enter Tryd.func48 rfl (n:=59) rfl ?_
 unfold f1004884_b at h
 refine sr (m2 nS (wt (sr (m1 (pp g 0) (m1 (pp g 0) (nilc rfl (fd 8 Tyf84_3 rfl (l1 0 (sl u d x) bJ Tya82 (mkm bJ (fun dd bJ=>(bsl (e:=81) (cells:=#[.map (some (zz wi))]) (vs:=[(0,.map (some (zz wi)))]) bJ rfl (buildSl_one Tye82 Tys81 Tyz81 rfl (by decide) (by decide) rfl) (fun de df=>?_))))))))))))
 have dg:=p401235 df
 obtain ⟨b5,h⟩:=of_guard h
 refine pushM (kv:=kS) (R:=VInt) dg db (mapr0 (kv:=kS) (R:=VInt)) Tye82 Tyi81 rfl rfl rfl hbr hbr b5 (by decide) (fun bz bA cy eX dh cz=>(nilc rfl (fd 8 Tyf84_3 rfl (sI 1 (.slice bz (d ++ [([]:List (BA × Int))]).length bA) ((vR Z Y ab ac ae ad af ag ah ai ak aj al q f s bz (d ++ [([]:List (BA × Int))]) bA am).toArray) dh Tys82 rfl rfl (fun di b6=>(wt (wp_cut (fun a w=>∃ cA B bB bK bL bC bD bM bN bO bP bQ bE bR bS aw bT bU bV ax bW bX bY bZ ap,a=fr 59 (updL cA [(0,pp g 0),(2,sl b3 ao b4)])∧KH.sub K B∧SR K B wi w [.box bs g (vR Z Y ab ac ae ad af ag ah ai ak aj al q f s u d x am).toArray 84,.row br (sl q f s) 9 1 f.length an,.stk br (sl u d x) 81 d.length aF,.box bsA gA (vC sA_0 sA_1 sA_2 AsA_3 sA_3 csA_3 AsA_4 sA_4 csA_4).toArray 56] [.box bs g (vR bK bB bL bC bM bD bN bO bP bQ bR bE bS bT aw bU bW ax bX bZ).toArray 84,.box bsA gA (vC sA_0 sA_1 ap AsA_3 sA_3 csA_3 AsA_4 sA_4 csA_4).toArray 56,.row br (sl bT aw bU) 9 1 aw.length bV,.stk br (sl bW ax bX) 81 ax.length bY]∧tF B bK bL bB∧bC.size ≤ mB∧tP B bM bN bD∧tS B bR bS bE∧Reps RStr 1 aw bV∧aw.length * 16 ≤ mB∧StkR kS VInt ax bY∧ax.length * 8 ≤ mB∧f1004884_j1 k F ao sA_0 sA_1 sA_3 sA_4 bB bC bD bO bP bQ bE aw ax bZ ap=some r_) ?_ ?_)))))))
 ·refine sr (m1 (.string bI) (bsc (r:=(!seq bI ⟨#[]⟩)) rfl rfl rfl (wt (cd h (fun b7 h=>?_) (fun b7 h=>?_)))))
  ·refine cT b7 (wp_region_lit (m1 (pp gA 2) (m1 (pp g 0) (m1 (.string bI) ?_))))
   have b8:=p1203 b6
   obtain ⟨eY,dj,h⟩:=ob h
   refine cp ([pp g 0,.string bI]) Tyb37 ((f37_ok k) dj (hG.mono kr) cq cr cs ct cu cw cz (app_bound b5) (Nat.le_trans hbr b6.size) dc (pt b8)) ?_ ?_
   ·rintro _ eZ ⟨dk,dl,dm,dn,dp,dq,dr,ds,dt,du,b9,dv,dw,dx,dy,dz,dA,dB,dC,dD,dE,dF,dG,dH,rfl,rfl,cB,dI,dJ,dK,dL,dM,dN,dO,dP⟩
    have dQ:=ca cB b8
    exact nilc rfl (sI 3 (iI b9) ((vC sA_0 sA_1 b9 AsA_3 sA_3 csA_3 AsA_4 sA_4 csA_4).toArray) dQ Tys3 rfl rfl (fun e0 dR=>(wt (⟨_,dv,dk,dw,dx,dl,dm,dy,dz,dn,dp,dq,dr,dA,dB,ds,dC,dD,dE,dt,dF,dG,dH,du,b9,fR,cB.sub,(dR.sel [0,3,1,2]),dI,dJ,dK,dL,dM,dN,dO,dP,h⟩))))
   ·rintro _ e1 ⟨dS,dT,rfl,rfl,dU⟩
    have dV:=ca dU b8
    exact thenP (panE (.inr ⟨_,rfl,dS,dT,(oi h).symm,rfl,dV.sel []⟩))
  ·exact cF b7 (wp_skip (thenN (⟨_,K,Y,Z,ab,ac,ad,ae,af,ag,ah,ai,aj,ak,al,f,q,s,an,(d ++ [([]:List (BA × Int))]),bz,bA,cy,am,sA_2,fR,kr,(b6.sel [1,3,2,0]),cq,cr,cs,ct,cu,cw,cz,(app_bound b5),h⟩)))
 ·rintro _ e2 ⟨cA,B,bB,bK,bL,bC,bD,bM,bN,bO,bP,bQ,bE,bR,bS,aw,bT,bU,bV,ax,bW,bX,bY,bZ,ap,rfl,bF,dW,dX,dY,dZ,d0,d1,d2,d3,d4,h⟩
  unfold f1004884_j1 at h
  refine sr (m2 nS (wt (wp_seq (sr (m1 (sl b3 ao b4) (lS ao.length Tye32 (m1 (iI 0) (wt (wp_block ?_)))))))))
  have d5:=dW.row_ (zz wi) 47 11
  refine wp_loopG (fun g_ a w=>∃ cC C aG,∃ (ay:Nat),∃ az aH aI aA aB aJ aK aL aM aN aE aP aQ y aq ar bg c z A bh aR l au av bG,g_=aG.length∧a=fr 59 (updL cC [(0,pp g 0),(9,sl au l av),(30,sl b3 ao b4),(31,iI (ao.length:Int)),(32,iI (ay:Int))])∧KH.sub B C∧SR K C wi w [.box bs g (vR Z Y ab ac ae ad af ag ah ai ak aj al q f s u d x am).toArray 84,.row br (sl q f s) 9 1 f.length an,.stk br (sl u d x) 81 d.length aF,.box bsA gA (vC sA_0 sA_1 sA_2 AsA_3 sA_3 csA_3 AsA_4 sA_4 csA_4).toArray 56] [.box bs g (vR aH az aI aA aJ aB aK aL aM aN aP aE aQ aq y ar z c A aR).toArray 84,.box bsA gA (vC sA_0 sA_1 ap AsA_3 sA_3 csA_3 AsA_4 sA_4 csA_4).toArray 56,.row br (sl aq y ar) 9 1 y.length bg,.stk br (sl z c A) 81 c.length bh,.row (zz wi) (sl au l av) 47 11 l.length bG]∧ao.drop ay=aG∧tF C aH aI az∧aA.size ≤ mB∧tP C aJ aK aB∧tS C aP aQ aE∧Reps RStr 1 y bg∧y.length * 16 ≤ mB∧StkR kS VInt c bh∧c.length * 8 ≤ mB∧Reps (RDStmt C) 11 l bG∧l.length * 184 ≤ mB∧f1004884_l1 k F sA_0 sA_1 sA_3 sA_4 ap aG ay az aA aB aL aM aN aE y c aR l=some r_) ao.length ?_ ?_
  ·exact ⟨_,B,ao,0,bB,bK,bL,bC,bD,bM,bN,bO,bP,bQ,bE,bR,bS,aw,bT,bU,bV,ax,bW,bX,bY,bZ,([]:LS),none,0,[],rfl,fR,kr,(d5.sel [1,2,3,4,0]),List.drop_zero,dX,dY,dZ,d0,d1,d2,d3,d4,(reps0 (R:=(RDStmt B)) (size:=11)),(by simp),h⟩
  ·rintro _ _ cD ⟨cC,C,aG,ay,az,aH,aI,aA,aB,aJ,aK,aL,aM,aN,aE,aP,aQ,y,aq,ar,bg,c,z,A,bh,aR,l,au,av,bG,rfl,rfl,bi,cb,bj,cG,cH,cI,cJ,cK,cL,cc,cM,cN,d6,h⟩
   rcases aG with _ | ⟨⟨aS,aT,aU,aV,aW,aX,aY,aZ,a0,a3,a4⟩,aG⟩
   ·unfold f1004884_l1 at h
    refine sr (bcm (r:=false) rfl rfl (congrArg some (drop_nil_lt bj)) (wt (wp_seq (cndF rfl (wp_exit (thenX (thenX (blkX (thenN (wp_seq (have t:=cb.drew;(regAny (E:=[14]) (F:=FW C [.box bs g (vR aH az aI aA aJ aB aK aL aM aN aP aE aQ aq y ar z c A aR).toArray 84,.box bsA gA (vC sA_0 sA_1 ap AsA_3 sA_3 csA_3 AsA_4 sA_4 csA_4).toArray 56,.row br (sl aq y ar) 9 1 y.length bg,.stk br (sl z c A) 81 c.length bh,.row (zz wi) (sl au l av) 47 11 l.length bG]) (L:=(lb 15 0)) ymx rfl rfl (tk 0 (pp g 0) (lb 15 1) rfl (fun w=>mv_r (v:=pp g 0) rfl) (heldF (fq [0,1,2,3,4] t)) (tk 1 (pp g 0) (lb 15 3) rfl (fun w=>mv_r (v:=pp g 0) rfl) (heldF (fq [0,1,2,3,4] t)) (tk 2 (pp g 0) (lb 15 7) rfl (fun w=>nilc_r rfl) (heldF (fq [0,1,2,3,4] t)) (tk 3 (pp g 8) (lb 15 15) rfl (fun w=>fld_r (o':=8) Tyf84_3 rfl rfl) (heldF (fq [0,1,2,3,4] t)) (tf 4 (sl z c A) ([[14,4]]) (lb 15 31) rfl (fq [0,1,2,3,4] t) (fun w hF=>lb1_r (i:=0) (v:=sl z c A) hF rfl Tya82 rfl rfl) (tk 5 (pp g 0) (lb 15 63) rfl (fun w=>mv_r (v:=pp g 0) rfl) (heldF (fq [0,1,2,3,4] t)) (tk 6 (pp g 0) (lb 15 127) rfl (fun w=>nilc_r rfl) (heldF (fq [0,1,2,3,4] t)) (tk 7 (pp g 8) (lb 15 255) rfl (fun w=>fld_r (o':=8) Tyf84_3 rfl rfl) (heldF (fq [0,1,2,3,4] t)) (tf 8 (sl z c A) ([[14,8]]) (lb 15 511) rfl (fq [0,1,2,3,4] t) (fun w hF=>lb1_r (i:=0) (v:=sl z c A) hF rfl Tya82 rfl rfl) (tk 9 (iI (c.length:Int)) (lb 15 1023) rfl (fun w=>lnS_r (len:=c.length) Tye82 rfl) (heldF (fq [0,1,2,3,4] t)) (tk 10 (iI (w64 ((c.length:Int) - 1))) (lb 15 2047) rfl (fun w=>bar_r (r:=(w64 ((c.length:Int) - 1))) rfl rfl rfl) (heldF (fq [0,1,2,3,4] t)) ?_)))))))))))))))))))))))
    obtain ⟨b0,h⟩:=of_guard h
    refine tk 11 (.slice z (c.take (w64 ((c.length:Int) - 1)).toNat).length A) (lb 15 4095) rfl (fun w=>slH_r (m:=(c.take (w64 ((c.length:Int) - 1)).toNat).length) Tye82 Tys81 rfl rfl b0.1 (Int.le_trans b0.2 (Int.ofNat_le.2 (stk_cap (i:=3) t rfl))) (take_len b0)) (heldF (fq [0,1,2,3,4] t)) (tk 12 (pp g 0) (lb 15 8191) rfl (fun w=>nilc_r rfl) (heldF (fq [0,1,2,3,4] t)) (tk 13 (pp g 8) (lb 15 16383) rfl (fun w=>fld_r (o':=8) Tyf84_3 rfl rfl) (heldF (fq [0,1,2,3,4] t)) (aO 14 rfl (have d7:=t.cutM (i:=3) (m:=(w64 ((c.length:Int) - 1)).toNat) rfl cc (by have:=b0.2; omega);(sI 0 (.slice z (c.take (w64 ((c.length:Int) - 1)).toNat).length A) ((vR aH az aI aA aJ aB aK aL aM aN aP aE aQ aq y ar z (c.take (w64 ((c.length:Int) - 1)).toNat) A aR).toArray) d7 Tys82 rfl rfl (fun e3 d8=>(wt ⟨heldE (i:=14) rfl rfl,aD (thenN (sr (m1 (sl au l av) (m2 (sl au l av) (wt (wp_ret ?_))))))⟩)))))))
    obtain ⟨d9,ea,bH,ec⟩:=shutI (i:=4) (bytes:=184) (R:=fun K=>(RDStmt K)) d8 rfl (Nat.le_refl _) cN d6 (fun hs=>(fun _ _ h=>RDStmt.mono hs h))
    exact retP (retA1 rfl (resT rfl) ⟨az,aA,aB,aL,aM,aN,aE,y,(c.take (w64 ((c.length:Int) - 1)).toNat),aR,sA_0,sA_1,ap,sA_3,sA_4,l,d9,aH,aI,aJ,aK,aP,aQ,aq,ar,bg,z,A,(bh.take (w64 ((c.length:Int) - 1)).toNat),AsA_3,csA_3,AsA_4,csA_4,au,av,(oi h).symm,rfl,(ea.sel [0,2,3,1]),(mf cG bH),cH,(mp cI bH),(ms cJ bH),(cK.mono (fun _ _ h=>h)),cL,(StkR.mono (fun _ _ h=>h) (StkR.take (w64 ((c.length:Int) - 1)).toNat cc)),(take_bound cM),hsA_1,(me hsA_3 ((bF.trans bi).trans bH)),(ms hsA_4 ((bF.trans bi).trans bH)),ec⟩)
   ·unfold f1004884_l1 at h
    refine sr (bcm (r:=true) rfl rfl (congrArg some (drop_cons_t bj)) (wt (wp_seq (cndT rfl (wp_skip (thenN (wp_seq (wp_block (sr ?_)))))))))
    obtain ⟨ed,ee,e4,ef,e5,eg,eh⟩:=((ms cx (bF.trans bi))).row.at_ (drop_cons_at bj)
    obtain ⟨a5,a6,a7,a8,a9,ba,bb,bd,be,bf,rfl,ei,ej,ek,el,em,en,eo⟩:=RDStmt.open eh
    refine idxN (b:=ed) (o:=ee) (i:=ay) Tye32 Tys47 rfl ef rfl (drop_cons_lt bj) (lD (vS aS aT aU aV aW aX a5 aY a6 a7 aZ a8 a9 a0 ba bb a3 bd be a4 bf) Tya47 Tys47 rfl (fun j v hj=>cb.cell (kr.cell (eg j v hj))) (aC zS.toArray cb Tyz47 (fun e6 ep=>(sI 0 (.agg (vS aS aT aU aV aW aX a5 aY a6 a7 aZ a8 a9 a0 ba bb a3 bd be a4 bf).toArray) ((vS aS aT aU aV aW aX a5 aY a6 a7 aZ a8 a9 a0 ba bb a3 bd be a4 bf).toArray) ep Tys47 rfl rfl (fun eq ce=>(wt (sr (m1 (pp g 0) (lN 0 (vS aS aT aU aV aW aX a5 aY a6 a7 aZ a8 a9 a0 ba bb a3 bd be a4 bf) ce Tya47 Tys47 ?_)))))))))
    have cf:=p134025 ce
    obtain ⟨e7,es,h⟩:=ob h
    refine cp ([pp g 0,.agg (vS aS aT aU aV aW aX a5 aY a6 a7 aZ a8 a9 a0 ba bb a3 bd be a4 bf).toArray]) Tyb39 (IH39 es (hG.mono (bF.trans bi)) cG cH cI cJ cK cL cc cM (Nat.le_trans hbr ce.size) (RDStmt.intro ei ej ek el em en eo) (pt cf)) ?_ ?_
    ·rintro _ et ⟨cO,cP,cQ,cR,cS,cU,cV,b1,b2,cW,⟨D,G,I,J,N,O,S,U,V,W,X⟩,ch,cX,cY,cZ,c2,c3,c4,ci,cj,c5,ck,cl,c7,e8,rfl,rfl,cm,eu,ew,ex,ey,ez,eA,eB,eC,eD⟩
     have eE:=ca cm cf
     obtain ⟨bk,bm,bn,bo,bp,bq,bu,bv,bw,bx,rfl,eF,eG,eH,eI,eJ,eK,eL⟩:=RDStmt.open eD
     refine aC zS.toArray eE Tyz47 (fun e9 eM=>(sI 0 (.agg (vS D G I J N O bk S bm bn U bo bp V bq bu W bv bw X bx).toArray) ((vS D G I J N O bk S bm bn U bo bp V bq bu W bv bw X bx).toArray) eM Tys47 rfl rfl (fun fa c8=>(wt (wp_region_lit (m1 (sl au l av) (lN 0 (vS D G I J N O bk S bm bn U bo bp V bq bu W bv bw X bx) c8 Tya47 Tys47 (bsl (e:=47) (cells:=(vS D G I J N O bk S bm bn U bo bp V bq bu W bv bw X bx).toArray) (vs:=[(0,.agg (vS D G I J N O bk S bm bn U bo bp V bq bu W bv bw X bx).toArray)]) c8 rfl (buildSl_one Tye32 Tys47 Tyz47 rfl (by decide) (by decide) rfl) (fun fb eN=>?_)))))))))
     obtain ⟨c9,h⟩:=of_guard h
     refine apR (R:=(RDStmt ch)) (p:=(DStmt.mk D G I J N O S U V W X)) (i:=7) (j:=0) eN rfl rfl Tye32 Tyi47 rfl (by decide) rfl rfl (cN.mono (fun _ _ h=>RDStmt.mono cm.sub h)) (RDStmt.intro eF eG eH eI eJ eK eL) rfl rfl (Nat.le_refl _) c9 (by decide) (fun cn co da eO eP eQ=>?_)
     have eR:=p1234567 eP
     exact m2 (.slice cn (l ++ [(DStmt.mk D G I J N O S U V W X)]).length co) (wpList_nil (blkN (thenN (wp_region_lit (bar (r:=((ay + 1:Nat):Int)) rfl rfl (inc_ok (le_big (((ms cx (bF.trans bi))).len) (by decide) (drop_cons_lt bj))) (m1 (iI ((ay + 1:Nat):Int)) (wt (⟨_,Nat.lt_succ_self _,_,ch,aG,ay + 1,cO,cX,cY,cP,cQ,cZ,c2,cR,cS,cU,cV,c3,c4,b1,ci,cj,c5,b2,ck,cl,c7,cW,(l ++ [(DStmt.mk D G I J N O S U V W X)]),cn,co,da,rfl,fR,(bi.trans cm.sub),(eR.sel [1,5,2,3,6]),drop_cons_next bj,eu,ew,ex,ey,ez,eA,eB,eC,eQ,(app_bound c9),h⟩))))))))
    ·rintro _ fc ⟨eS,eT,rfl,rfl,eU⟩
     have eV:=ca eU cf
     exact thenP (blkP (thenP (thenP (blkP (thenP (panE (.inr ⟨_,rfl,eS,eT,(oi h).symm,rfl,eV.sel []⟩)))))))
theorem f1005015_b_ok (k:Nat) (F:Fam39) (IH39:f39_spec F.f39) (IH1004815:f1004815_spec F.f1004815) (IH1004866:f1004866_spec F.f1004866) (IH1004884:f1004884_spec F.f1004884) (IH1005015:f1005015_spec F.f1005015) (IH1005066:f1005066_spec F.f1005066):f1005015_spec (f1005015_b k F):=by
 unfold f1005015_spec
 intro K wi g bs br S U V W X Y Z ab ac ad ae af ag ah ai aj bu ak al am bv c i j l m gA bsA sA_0 sA_1 sA_2 sA_3 sA_4 sA_5 sA_6 AsA_6 csA_6 sA_7 AsA_7 csA_7 sA_8 AsA_8 csA_8 sA_9 AsA_9 csA_9 sA_10 AsA_10 csA_10 r_ h hG an ao ap aq ar au av aw hbr ax ay hsA_1 hsA_3 hsA_6 hsA_7 hsA_8 hsA_9 hsA_10 a
 refine enter Tryd.func50 rfl (n:=30) rfl ?_
 unfold f1005015_b at h
 refine sr (m2 nS (wt (sr (m1 (pp g 0) (nilc rfl (fd 9 Tyf84_4 rfl (l1 0 (iI c) a Tya3 (bar (r:=(w64 (c + 1))) rfl rfl rfl (nilc rfl (fd 9 Tyf84_4 rfl (sI 0 (iI (w64 (c + 1))) ((vR U S V W Y X Z ab ac ad af ae ag ai ah aj al ak am (w64 (c + 1))).toArray) a Tys3 rfl rfl (fun bw a=>(wt (sr (m1 (pp g 0) (m1 (.string i) (m1 (sl l j m) (m1 (pp gA 2) ?_))))))))))))))))))
 obtain ⟨bx,az,h⟩:=ob h
 refine cp ([pp g 0,.string i,sl l j m,pp gA 2]) Tyb48 (IH1004815 az (hG.mono kr) an ao ap aq ar au av aw (Nat.le_trans hbr a.size) ax ay hsA_1 hsA_3 hsA_6 hsA_7 hsA_8 hsA_9 hsA_10 (pt a)) ?_ ?_
 ·rintro _ bz ⟨o,p,q,s,t,u,v,w,x,b,aA,aB,aE,aF,aG,aH,aI,aJ,aK,aL,aM,d,aN,y,z,A,B,C,D,G,I,aP,J,N,aQ,aR,aS,aT,aU,aV,aW,aX,aY,aZ,a0,e,f,rfl,rfl,a3,a4,a5,a6,a7,a8,a9,ba,bb,bd,be,bf,bg,bh,bi,bj,bk⟩
  have O:=ca a3 a
  exact m2 (sl e d f) (wt (sr (m1 (pp g 0) (nilc rfl (fd 9 Tyf84_4 rfl (l1 0 (iI b) O Tya3 (bar (r:=(w64 (b - 1))) rfl rfl rfl (nilc rfl (fd 9 Tyf84_4 rfl (sI 0 (iI (w64 (b - 1))) ((vR y o z p A q B s t u C v D G w I J x N (w64 (b - 1))).toArray) O Tys3 rfl rfl (fun bA bm=>(wt (sr (m1 (sl e d f) (m2 (sl e d f) (wt (wp_ret (retP (retA1 rfl (resT rfl) ⟨o,p,q,s,t,u,v,w,x,(w64 (b - 1)),aA,aB,aE,aF,aG,aH,aI,aJ,aK,aL,aM,d,aN,y,z,A,B,C,D,G,I,aP,J,N,aQ,aR,aS,aT,aU,aV,aW,aX,aY,aZ,a0,e,f,(oi h).symm,rfl,bm,a4,a5,a6,a7,a8,a9,ba,bb,bd,be,bf,bg,bh,bi,bj,bk⟩)))))))))))))))))))
 ·rintro _ bB ⟨bn,bo,rfl,rfl,bp⟩
  have bq:=ca bp a
  exact thenP (panE (.inr ⟨_,rfl,bn,bo,(oi h).symm,rfl,bq.sel []⟩))
theorem f1005066_b_ok (k:Nat) (F:Fam39) (IH39:f39_spec F.f39) (IH1004815:f1004815_spec F.f1004815) (IH1004866:f1004866_spec F.f1004866) (IH1004884:f1004884_spec F.f1004884) (IH1005015:f1005015_spec F.f1005015) (IH1005066:f1005066_spec F.f1005066):f1005066_spec (f1005066_b k F):=by
 unfold f1005066_spec
 intro K wi g bs br S U V W X Y Z ab ac ad ae af ag ah ai aj aV ak al am aW c i j l m r_ h hG an ao ap aq ar au av aw hbr ax ay a
 refine enter Tryd.func50 rfl (n:=30) rfl ?_
 unfold f1005066_b at h
 refine sr (m2 nS (wt (sr (m1 (pp g 0) (nilc rfl (fd 9 Tyf84_4 rfl (l1 0 (iI c) a Tya3 (bar (r:=(w64 (c + 1))) rfl rfl rfl (nilc rfl (fd 9 Tyf84_4 rfl (sI 0 (iI (w64 (c + 1))) ((vR U S V W Y X Z ab ac ad af ae ag ai ah aj al ak am (w64 (c + 1))).toArray) a Tys3 rfl rfl (fun aX a=>(wt (sr (m1 (pp g 0) (m1 (.string i) (m1 (sl l j m) (m1 (.pointer none) ?_))))))))))))))))))
 obtain ⟨aY,az,h⟩:=ob h
 refine cp ([pp g 0,.string i,sl l j m,.pointer none]) Tyb48 (IH1004866 az (hG.mono kr) an ao ap aq ar au av aw (Nat.le_trans hbr a.size) ax ay (pt a)) ?_ ?_
 ·rintro _ aZ ⟨o,p,q,s,t,u,v,w,x,b,d,aA,y,z,A,B,C,D,G,I,aB,J,N,aE,e,f,rfl,rfl,aF,aG,aH,aI,aJ,aK,aL,aM,aN,aP⟩
  have O:=ca aF a
  exact m2 (sl e d f) (wt (sr (m1 (pp g 0) (nilc rfl (fd 9 Tyf84_4 rfl (l1 0 (iI b) O Tya3 (bar (r:=(w64 (b - 1))) rfl rfl rfl (nilc rfl (fd 9 Tyf84_4 rfl (sI 0 (iI (w64 (b - 1))) ((vR y o z p A q B s t u C v D G w I J x N (w64 (b - 1))).toArray) O Tys3 rfl rfl (fun a0 aQ=>(wt (sr (m1 (sl e d f) (m2 (sl e d f) (wt (wp_ret (retP (retA1 rfl (resT rfl) ⟨o,p,q,s,t,u,v,w,x,(w64 (b - 1)),d,aA,y,z,A,B,C,D,G,I,aB,J,N,aE,e,f,(oi h).symm,rfl,aQ,aG,aH,aI,aJ,aK,aL,aM,aN,aP⟩)))))))))))))))))))
 ·rintro _ a3 ⟨aR,aS,rfl,rfl,aT⟩
  have aU:=ca aT a
  exact thenP (panE (.inr ⟨_,rfl,aR,aS,(oi h).symm,rfl,aU.sel []⟩))
theorem fam39_ok (k0:Nat) : ∀ k,f39_spec (fam39 k0 k).f39∧f1004815_spec (fam39 k0 k).f1004815∧f1004866_spec (fam39 k0 k).f1004866∧f1004884_spec (fam39 k0 k).f1004884∧f1005015_spec (fam39 k0 k).f1005015∧f1005066_spec (fam39 k0 k).f1005066:=by
 intro k
 induction k with
 | zero=>exact ⟨(by unfold f39_spec; intro _ _ _ _ _ _ _ _ _ _ _ _ _ _ _ _ _ _ _ _ _ _ _ _ _ _ _ _ _ _ h_; cases h_),(by unfold f1004815_spec; intro _ _ _ _ _ _ _ _ _ _ _ _ _ _ _ _ _ _ _ _ _ _ _ _ _ _ _ _ _ _ _ _ _ _ _ _ _ _ _ _ _ _ _ _ _ _ _ _ _ _ _ _ _ _ _ h_; cases h_),(by unfold f1004866_spec; intro _ _ _ _ _ _ _ _ _ _ _ _ _ _ _ _ _ _ _ _ _ _ _ _ _ _ _ _ _ _ _ _ h_; cases h_),(by unfold f1004884_spec; intro _ _ _ _ _ _ _ _ _ _ _ _ _ _ _ _ _ _ _ _ _ _ _ _ _ _ _ _ _ _ _ _ _ _ _ _ _ _ _ _ _ _ _ h_; cases h_),(by unfold f1005015_spec; intro _ _ _ _ _ _ _ _ _ _ _ _ _ _ _ _ _ _ _ _ _ _ _ _ _ _ _ _ _ _ _ _ _ _ _ _ _ _ _ _ _ _ _ _ _ _ _ _ _ _ _ _ _ _ _ h_; cases h_),(by unfold f1005066_spec; intro _ _ _ _ _ _ _ _ _ _ _ _ _ _ _ _ _ _ _ _ _ _ _ _ _ _ _ _ _ _ _ _ h_; cases h_)⟩
 | succ k ih=>exact ⟨f39_b_ok k0 (fam39 k0 k) ih.1 ih.2.1 ih.2.2.1 ih.2.2.2.1 ih.2.2.2.2.1 ih.2.2.2.2.2,f1004815_b_ok k0 (fam39 k0 k) ih.1 ih.2.1 ih.2.2.1 ih.2.2.2.1 ih.2.2.2.2.1 ih.2.2.2.2.2,f1004866_b_ok k0 (fam39 k0 k) ih.1 ih.2.1 ih.2.2.1 ih.2.2.2.1 ih.2.2.2.2.1 ih.2.2.2.2.2,f1004884_b_ok k0 (fam39 k0 k) ih.1 ih.2.1 ih.2.2.1 ih.2.2.2.1 ih.2.2.2.2.1 ih.2.2.2.2.2,f1005015_b_ok k0 (fam39 k0 k) ih.1 ih.2.1 ih.2.2.1 ih.2.2.2.1 ih.2.2.2.2.1 ih.2.2.2.2.2,f1005066_b_ok k0 (fam39 k0 k) ih.1 ih.2.1 ih.2.2.1 ih.2.2.2.1 ih.2.2.2.2.1 ih.2.2.2.2.2⟩
theorem f39_ok (k:Nat):f39_spec (f39 k):=(fam39_ok k k).1
theorem f1004815_ok (k:Nat):f1004815_spec (f1004815 k):=(fam39_ok k k).2.1
theorem f1004866_ok (k:Nat):f1004866_spec (f1004866 k):=(fam39_ok k k).2.2.1
theorem f1004884_ok (k:Nat):f1004884_spec (f1004884 k):=(fam39_ok k k).2.2.2.1
theorem f1005015_ok (k:Nat):f1005015_spec (f1005015 k):=(fam39_ok k k).2.2.2.2.1
theorem f1005066_ok (k:Nat):f1005066_spec (f1005066 k):=(fam39_ok k k).2.2.2.2.2
theorem f30_b_ok (k:Nat):f30_spec (f30_b k):=by
 unfold f30_spec
 intro K wi du fH dv fI r_ h hG dw dx dy
 obtain ⟨aE⟩:=du
 obtain ⟨aF,c1,rfl,dz⟩:=RDProgram.open dw
 obtain ⟨f,C,g,m,J,t⟩:=dv
 obtain ⟨N,O,G,I,rfl,ci,b7,cj⟩:=RDFunc.open dx
 refine enter Tryd.func30 rfl (n:=67) rfl ?_
 unfold f30_b at h
 refine sr (bxoC (cs:=#[sl aF aE c1]) dy rfl rfl (fun U dA=>(bxoC (cs:=(vF f N C O g m J G t I).toArray) dA rfl rfl (fun S dB=>(aC zF.toArray dB Tyz34 (fun bN ck=>(m2 nS (wt (sr (lN 2 ([sl aF aE c1]) ck Tya24 Tys24 (lN 1 (vF f N C O g m J G t I) ck Tya34 Tys34 (mkm ck (fun bO dC=>(bsl (e:=81) (cells:=#[.map (some (zz bN))]) (vs:=[(0,.map (some (zz bN)))]) dC rfl (buildSl_one Tye82 Tys81 Tyz81 rfl (by decide) (by decide) rfl) (fun u dD=>?_)))))))))))))))
 have dE:=p01234 dD
 obtain ⟨dF,dG⟩:=dE.oneM (mapr0 (kv:=kS) (R:=VInt))
 refine bld (cells:=#[sl aF aE c1,.string f,sl N C O,iI g,.bool m,iI J,sl G t I,nS,.slice (some ⟨(zz bO),0,none⟩) [([]:List (BA × Int))].length 1,iI 0]) (vs:=[(0,.agg #[sl aF aE c1]),(1,.agg (vF f N C O g m J G t I).toArray),(3,.slice (some ⟨(zz bO),0,none⟩) [([]:List (BA × Int))].length 1)]) rfl (fun w=>by kernel_rfl) (bxoC (cs:=#[sl aF aE c1,.string f,sl N C O,iI g,.bool m,iI J,sl G t I,nS,.slice (some ⟨(zz bO),0,none⟩) [([]:List (BA × Int))].length 1,iI 0]) dF rfl rfl (fun fJ cL=>(m2 (pp (zz u) 0) (wt (wp_seq (sr (fd 1 Tyf34_1 rfl (l1 3 (sl N C O) cL Tya31 (lS C.length Tye31 (m1 (iI 0) (wt (wp_block ?_))))))))))))
 have dH:=cL.row_ (zz wi) 9 1
 refine wp_loopG (fun g_ a w=>∃ cM am aG,∃ (ar:Nat),∃ bn bP bQ bo bp bR bS bT bU bV bq bW bX V br bs bY W bu bv bZ b0,g_=aG.length∧a=fr 67 (updL cM [(3,pp (zz U) 0),(4,pp (zz S) 0),(6,pp (zz u) 0),(20,sl N C O),(21,iI (C.length:Int)),(22,iI (ar:Int))])∧KH.sub K am∧SR K am wi w [] [.box (zz wi) (zz U) (vF f N C O g m J G t I).toArray 34,.box (zz wi) (zz S) zF.toArray 34,.box (zz wi) (zz u) (vR bP bn bQ bo bR bp bS bT bU bV bW bq bX br V bs bu W bv b0).toArray 84,.row (zz wi) (sl br V bs) 9 1 V.length bY,.stk (zz wi) (sl bu W bv) 81 W.length bZ]∧C.drop ar=aG∧tF am bP bQ bn∧bo.size ≤ mB∧tP am bR bS bp∧tS am bW bX bq∧Reps RStr 1 V bY∧V.length * 16 ≤ mB∧StkR kS VInt W bZ∧W.length * 8 ≤ mB∧f30_l1 k f C g m t aG ar bn bo bp bT bU bV bq V W b0=some r_) C.length ?_ ?_
 ·exact ⟨_,K,C,0,aE,aF,c1,f,C,N,O,g,m,J,t,G,I,([]:LB),none,0,[],[([]:List (BA × Int))],(some ⟨(zz bO),0,none⟩),1,[((zz bN),#[],0)],0,rfl,fR,kr,(dH.sel [4,3,1,0,2]),List.drop_zero,dz,ci,b7,cj,(reps0 (R:=RStr) (size:=1)),(by simp),dG,(by decide),h⟩
 ·rintro _ _ dI ⟨cM,am,aG,ar,bn,bP,bQ,bo,bp,bR,bS,bT,bU,bV,bq,bW,bX,V,br,bs,bY,W,bu,bv,bZ,b0,rfl,rfl,an,b1,bw,cN,cO,cP,cQ,cR,cS,cU,cV,h⟩
  rcases aG with _ | ⟨⟨bx,b8⟩,aG⟩
  ·unfold f30_l1 at h
   refine sr (bcm (r:=false) rfl rfl (congrArg some (drop_nil_lt bw)) (wt (wp_seq (cndF rfl (wp_exit (thenX (thenX (blkX (thenN (sr (fd 1 Tyf34_1 rfl (l1 0 (sl N C O) b1 Tya31 ?_))))))))))))
   obtain ⟨x,dJ,h⟩:=ob h
   refine cv ([sl N C O]) Tyb38 ((f38_ok k) dJ (hG.mono an) (mp b7 an) (pt b1)) ?_
   rintro _ fK ⟨cl,y,z,rfl,au,cW⟩
   have dK:=ca au b1
   refine fd 1 Tyf34_1 rfl (sI 0 (sl y x z) ((vF f y x z g m J G t I).toArray) dK Tys31 rfl rfl (fun fL cX=>(wt (sr (m2 nS (wt (wp_seq (sr (fd 5 Tyf34_5 rfl (l1 0 (sl G t I) cX Tya32 (lS t.length Tye32 (m1 (iI 0) (wt (wp_block ?_))))))))))))))
   have dL:=cX.row_ (zz wi) 47 11
   refine wp_loopG (fun g_ a w=>∃ cY X aH,∃ (av:Nat),∃ aw aI aJ ax ay aK aL aM aN aP az aQ aR c A B ap D Y Z aS aT d q s aq,g_=aH.length∧a=fr 67 (updL cY [(3,pp (zz U) 0),(4,pp (zz S) 0),(6,pp (zz u) 0),(9,sl q d s),(36,sl G t I),(37,iI (t.length:Int)),(38,iI (av:Int))])∧KH.sub cl X∧SR K X wi w [] [.box (zz wi) (zz U) (vF f y x z g m J G t I).toArray 34,.box (zz wi) (zz S) zF.toArray 34,.box (zz wi) (zz u) (vR aI aw aJ ax aK ay aL aM aN aP aQ az aR A c B Y D Z aT).toArray 84,.row (zz wi) (sl A c B) 9 1 c.length ap,.stk (zz wi) (sl Y D Z) 81 D.length aS,.row (zz wi) (sl q d s) 47 11 d.length aq]∧t.drop av=aH∧tF X aI aJ aw∧ax.size ≤ mB∧tP X aK aL ay∧tS X aQ aR az∧Reps RStr 1 c ap∧c.length * 16 ≤ mB∧StkR kS VInt D aS∧D.length * 8 ≤ mB∧Reps (RDStmt X) 11 d aq∧d.length * 184 ≤ mB∧f30_l2 k f g m x aH av aw ax ay aM aN aP az c D aT d=some r_) t.length ?_ ?_
   ·exact ⟨_,cl,t,0,bn,bP,bQ,bo,bp,bR,bS,bT,bU,bV,bq,bW,bX,V,br,bs,bY,W,bu,bv,bZ,b0,([]:LS),none,0,[],rfl,fR,kr,(dL.sel [1,2,3,4,5,0]),List.drop_zero,(mf cN au.sub),cO,(mp cP au.sub),(ms cQ au.sub),(cR.mono (fun _ _ h=>h)),cS,(StkR.mono (fun _ _ h=>h) cU),cV,(reps0 (R:=(RDStmt cl)) (size:=11)),(by simp),h⟩
   ·rintro _ _ cZ ⟨cY,X,aH,av,aw,aI,aJ,ax,ay,aK,aL,aM,aN,aP,az,aQ,aR,c,A,B,ap,D,Y,Z,aS,aT,d,q,s,aq,rfl,rfl,aU,cm,bz,dM,dN,dO,dP,cn,co,dQ,dR,cq,c2,h⟩
    rcases aH with _ | ⟨⟨aV,aW,aX,aY,aZ,a2,a3,a4,a5,a6,a7⟩,aH⟩
    ·unfold f30_l2 at h
     refine sr (bcm (r:=false) rfl rfl (congrArg some (drop_nil_lt bz)) (wt (wp_seq (cndF rfl (wp_exit (thenX (thenX (blkX (thenN (sr (m1 (sl q d s) (fd 5 Tyf34_5 rfl (sI 0 (sl q d s) ((vF f y x z g m J q d s).toArray) cm Tys32 rfl rfl (fun fM c3=>(wt (sr (m1 (pp (zz u) 0) (nilc rfl (fd 7 Tyf84_2 rfl (l1 2 (sl A c B) c3 Tya38 (lS c.length Tye38 (fd 4 Tyf34_4 rfl (sI 0 (iI (c.length:Int)) ((vF f y x z g m (c.length:Int) q d s).toArray) c3 Tys3 rfl rfl (fun fN b9=>(wt (sr (fd 4 Tyf34_4 rfl (l1 0 (iI (c.length:Int)) b9 Tya3 (c0 (decide ((c.length:Int) ≤ 32)) ?_)))))))))))))))))))))))))))))
     obtain ⟨fO,dS,h⟩:=ob h
     refine cp ([.bool (decide ((c.length:Int) ≤ 32)),iI 5]) Tyb25 ((f25_ok k) dS (hG.mono ((an.trans au.sub).trans aU)) (pt b9)) ?_ ?_
     ·rintro _ fP ⟨a8,rfl,rfl,b2⟩
      have dT:=ca b2 b9
      refine wt (wp_cut (fun a w=>∃ c4 a9 ba b3 b4 bA bB bC ao b5 b6 cr aA cb cc ct,a=fr 67 (updL c4 [(4,pp (zz S) 0),(5,sl cb aA cc)])∧SR K a8 wi w [] [.box (zz wi) (zz S) (vF a9 b3 ba b4 bA bB bC b5 ao b6).toArray 34,.row (zz wi) (sl b5 ao b6) 47 11 ao.length cr,.row (zz wi) (sl cb aA cc) 9 1 aA.length ct]∧a9.size ≤ mB∧tP a8 b3 b4 ba∧Reps (RDStmt a8) 11 ao cr∧ao.length * 184 ≤ mB∧Reps RStr 1 aA ct∧aA.length * 16 ≤ mB∧f30_j1 k a9 ba bA bB bC ao aA=some r_) ?_ ?_)
      ·have aB:=dT.drew
       refine regAny (E:=[5]) (F:=FW a8 [.box (zz wi) (zz U) (vF f y x z g m (c.length:Int) q d s).toArray 34,.box (zz wi) (zz S) zF.toArray 34,.box (zz wi) (zz u) (vR aI aw aJ ax aK ay aL aM aN aP aQ az aR A c B Y D Z aT).toArray 84,.row (zz wi) (sl A c B) 9 1 c.length ap,.stk (zz wi) (sl Y D Z) 81 D.length aS,.row (zz wi) (sl q d s) 47 11 d.length aq]) (L:=(lb 7 0)) ymx rfl rfl (tf 0 (.agg (vF f y x z g m (c.length:Int) q d s).toArray) ([[5,0]]) (lb 7 1) rfl (fq [0,1,2,3,4,5] aB) (fun w hF=>lbN_r (i:=0) (l:=(vF f y x z g m (c.length:Int) q d s)) hF rfl Tya34 Tys34 rfl rfl rfl) (tk 1 (pp (zz u) 0) (lb 7 3) rfl (fun w=>mv_r (v:=pp (zz u) 0) rfl) (heldF (fq [0,1,2,3,4,5] aB)) (tk 2 (pp (zz u) 0) (lb 7 7) rfl (fun w=>nilc_r rfl) (heldF (fq [0,1,2,3,4,5] aB)) (tk 3 (pp (zz u) 7) (lb 7 15) rfl (fun w=>fld_r (o':=7) Tyf84_2 rfl rfl) (heldF (fq [0,1,2,3,4,5] aB)) (anyAll (rs:=[4,5]) (by kernel_rfl) (by decide) (allC ?_ (allC ?_ allN)))))))
       ·refine opL (i:=4) rfl (l1 2 (sl A c B) aB Tya38 (wt ⟨heldF (fq [0,1,2,3,4,5] aB),aO 5 rfl (sI 1 (.agg (vF f y x z g m (c.length:Int) q d s).toArray) ((vF f y x z g m (c.length:Int) q d s).toArray) aB Tys34 rfl rfl (fun cu cw=>?_))⟩))
        have ce:SR K a8 wi cu [] [.box (zz wi) (zz U) (vF f y x z g m (c.length:Int) q d s).toArray 34,.box (zz wi) (zz S) (vF f y x z g m (c.length:Int) q d s).toArray 34,.box (zz wi) (zz u) (vR aI aw aJ ax aK ay aL aM aN aP aQ az aR A c B Y D Z aT).toArray 84,.row (zz wi) (sl A c B) 9 1 c.length ap,.stk (zz wi) (sl Y D Z) 81 D.length aS,.row (zz wi) (sl q d s) 47 11 d.length aq]:=cw
        exact wt ⟨heldE (i:=5) rfl rfl,tk 6 (sl A c B) (lb 7 127) rfl (fun w=>asg_r (v:=sl A c B) rfl) (heldE (i:=5) rfl rfl) (aD (thenN (⟨_,f,x,y,z,g,m,(c.length:Int),d,q,s,aq,c,A,B,ap,fR,(ce.sel [1,5,3]),ci,(mp cW (aU.trans b2.sub)),(cq.mono (fun _ _ h=>RDStmt.mono b2.sub h)),c2,(cn.mono (fun _ _ h=>h)),co,h⟩)))⟩
       ·refine opL (i:=5) rfl (sI 1 (.agg (vF f y x z g m (c.length:Int) q d s).toArray) ((vF f y x z g m (c.length:Int) q d s).toArray) aB Tys34 rfl rfl (fun cu cw=>?_))
        have ce:SR K a8 wi cu [] [.box (zz wi) (zz U) (vF f y x z g m (c.length:Int) q d s).toArray 34,.box (zz wi) (zz S) (vF f y x z g m (c.length:Int) q d s).toArray 34,.box (zz wi) (zz u) (vR aI aw aJ ax aK ay aL aM aN aP aQ az aR A c B Y D Z aT).toArray 84,.row (zz wi) (sl A c B) 9 1 c.length ap,.stk (zz wi) (sl Y D Z) 81 D.length aS,.row (zz wi) (sl q d s) 47 11 d.length aq]:=cw
        exact wt ⟨heldE (i:=5) rfl rfl,aO 4 rfl (l1 2 (sl A c B) ce Tya38 (wt ⟨heldE (i:=5) rfl rfl,tk 6 (sl A c B) (lb 7 127) rfl (fun w=>asg_r (v:=sl A c B) rfl) (heldE (i:=5) rfl rfl) (aD (thenN (⟨_,f,x,y,z,g,m,(c.length:Int),d,q,s,aq,c,A,B,ap,fR,(ce.sel [1,5,3]),ci,(mp cW (aU.trans b2.sub)),(cq.mono (fun _ _ h=>RDStmt.mono b2.sub h)),c2,(cn.mono (fun _ _ h=>h)),co,h⟩)))⟩))⟩
      ·rintro _ fQ ⟨c4,a9,ba,b3,b4,bA,bB,bC,ao,b5,b6,cr,aA,cb,cc,ct,rfl,c6,dU,dV,dW,dX,dY,dZ,h⟩
       unfold f30_j1 at h
       refine wp_ret ?_
       obtain ⟨fS,d0,d1,d2⟩:=shutI (i:=1) (bytes:=184) (R:=fun K=>(RDStmt K)) c6 rfl (Nat.le_refl _) dW dX (fun hs=>(fun _ _ h=>RDStmt.mono hs h))
       obtain ⟨d3,d4,c7,d5⟩:=shutI (i:=1) (bytes:=16) (R:=fun K=>RStr) d0 rfl (Nat.le_refl _) (dY.mono (fun _ _ h=>h)) dZ (fun hs=>(fun _ _ h=>h))
       exact retP (retA2 rfl (resN (i:=0) (l:=(vF a9 b3 ba b4 bA bB bC b5 ao b6)) c6 rfl Tya34 Tys34 rfl rfl rfl) (resT rfl) ⟨(DFunc.mk a9 ba bA bB bC ao),aA,d3,(vF a9 b3 ba b4 bA bB bC b5 ao b6),cb,cc,(oi h).symm,rfl,(d4.sel []),(RDFunc.intro dU (mp dV (d1.trans c7)) (ms d2 c7)),d5⟩)
     ·rintro _ fT ⟨d6,d7,rfl,rfl,d8⟩
      have d9:=ca d8 b9
      exact thenP (panE (.inr ⟨_,rfl,d6,d7,(oi h).symm,rfl,d9.sel []⟩))
    ·unfold f30_l2 at h
     refine sr (bcm (r:=true) rfl rfl (congrArg some (drop_cons_t bz)) (wt (wp_seq (cndT rfl (wp_skip (thenN (wp_seq (wp_block (sr ?_)))))))))
     obtain ⟨ea,ec,fU,ed,fV,ee,ef⟩:=((ms cj ((an.trans au.sub).trans aU))).row.at_ (drop_cons_at bz)
     obtain ⟨bb,bd,be,bf,bg,bh,bi,bj,bk,bm,rfl,eg,eh,ei,ej,ek,el,em⟩:=RDStmt.open ef
     refine idxN (b:=ea) (o:=ec) (i:=av) Tye32 Tys47 rfl ed rfl (drop_cons_lt bz) (lD (vS aV aW aX aY aZ a2 bb a3 bd be a4 bf bg a5 bh bi a6 bj bk a7 bm) Tya47 Tys47 rfl (fun j v hj=>cm.cell (kr.cell (ee j v hj))) (aC zS.toArray cm Tyz47 (fun fW en=>(sI 0 (.agg (vS aV aW aX aY aZ a2 bb a3 bd be a4 bf bg a5 bh bi a6 bj bk a7 bm).toArray) ((vS aV aW aX aY aZ a2 bb a3 bd be a4 bf bg a5 bh bi a6 bj bk a7 bm).toArray) en Tys47 rfl rfl (fun eo cx=>(wt (sr (m1 (pp (zz u) 0) (lN 0 (vS aV aW aX aY aZ a2 bb a3 bd be a4 bf bg a5 bh bi a6 bj bk a7 bm) cx Tya47 Tys47 ?_)))))))))
     have cy:=p3450126 cx
     obtain ⟨fX,ep,h⟩:=ob h
     refine cp ([pp (zz u) 0,.agg (vS aV aW aX aY aZ a2 bb a3 bd be a4 bf bg a5 bh bi a6 bj bk a7 bm).toArray]) Tyb39 ((f39_ok k) ep (hG.mono ((an.trans au.sub).trans aU)) dM dN dO dP cn co dQ dR (Nat.le_trans (Nat.le_refl _) cx.size) (RDStmt.intro eg eh ei ej ek el em) (pt cy)) ?_ ?_
     ·rintro _ eq ⟨c9,da,db,dc,dd,de,df,cf,ch,dg,⟨ab,ac,ad,ae,af,ag,ah,ai,aj,ak,al⟩,cz,dh,di,dj,dk,dl,dm,cA,cB,dn,cC,cD,dp,fY,rfl,rfl,cG,es,et,eu,ew,ex,ey,ez,eA,eB⟩
      have eC:=ca cG cy
      obtain ⟨bD,bE,bF,bG,bH,bI,bJ,bK,bL,bM,rfl,eD,eE,eF,eG,eH,eI,eJ⟩:=RDStmt.open eB
      refine aC zS.toArray eC Tyz47 (fun fZ eK=>(sI 0 (.agg (vS ab ac ad ae af ag bD ah bE bF ai bG bH aj bI bJ ak bK bL al bM).toArray) ((vS ab ac ad ae af ag bD ah bE bF ai bG bH aj bI bJ ak bK bL al bM).toArray) eK Tys47 rfl rfl (fun f0 dq=>(wt (wp_region_lit (m1 (sl q d s) (lN 0 (vS ab ac ad ae af ag bD ah bE bF ai bG bH aj bI bJ ak bK bL al bM) dq Tya47 Tys47 (bsl (e:=47) (cells:=(vS ab ac ad ae af ag bD ah bE bF ai bG bH aj bI bJ ak bK bL al bM).toArray) (vs:=[(0,.agg (vS ab ac ad ae af ag bD ah bE bF ai bG bH aj bI bJ ak bK bL al bM).toArray)]) dq rfl (buildSl_one Tye32 Tys47 Tyz47 rfl (by decide) (by decide) rfl) (fun f1 eL=>?_)))))))))
      obtain ⟨dr,h⟩:=of_guard h
      refine apR (R:=(RDStmt cz)) (p:=(DStmt.mk ab ac ad ae af ag ah ai aj ak al)) (i:=8) (j:=0) eL rfl rfl Tye32 Tyi47 rfl (by decide) rfl rfl (cq.mono (fun _ _ h=>RDStmt.mono cG.sub h)) (RDStmt.intro eD eE eF eG eH eI eJ) rfl rfl (Nat.le_refl _) dr (by decide) (fun cH cI ds eM eN eO=>?_)
      have eP:=p12345678 eN
      exact m2 (.slice cH (d ++ [(DStmt.mk ab ac ad ae af ag ah ai aj ak al)]).length cI) (wpList_nil (blkN (thenN (wp_region_lit (bar (r:=((av + 1:Nat):Int)) rfl rfl (inc_ok (le_big (((ms cj ((an.trans au.sub).trans aU))).len) (by decide) (drop_cons_lt bz))) (m1 (iI ((av + 1:Nat):Int)) (wt (⟨_,Nat.lt_succ_self _,_,cz,aH,av + 1,c9,dh,di,da,db,dj,dk,dc,dd,de,df,dl,dm,cf,cA,cB,dn,ch,cC,cD,dp,dg,(d ++ [(DStmt.mk ab ac ad ae af ag ah ai aj ak al)]),cH,cI,ds,rfl,fR,(aU.trans cG.sub),(eP.sel [5,6,1,2,3,7]),drop_cons_next bz,es,et,eu,ew,ex,ey,ez,eA,eO,(app_bound dr),h⟩))))))))
     ·rintro _ f2 ⟨eQ,eR,rfl,rfl,eS⟩
      have eT:=ca eS cy
      exact thenP (blkP (thenP (thenP (blkP (thenP (panE (.inr ⟨_,rfl,eQ,eR,(oi h).symm,rfl,eT.sel []⟩)))))))
  ·unfold f30_l1 at h
   refine sr (bcm (r:=true) rfl rfl (congrArg some (drop_cons_t bw)) (wt (wp_seq (cndT rfl (wp_skip (thenN (wp_seq (wp_block (sr ?_)))))))))
   obtain ⟨eU,eV,f4,eW,ga,eX,eY⟩:=((mp b7 an)).row.at_ (drop_cons_at bw)
   obtain ⟨rfl,eZ⟩:=RDParam.open eY
   refine idxN (b:=eU) (o:=eV) (i:=ar) Tye31 Tys42 rfl eW rfl (drop_cons_lt bw) (lD ([.string bx,iI b8]) Tya42 Tys42 rfl (fun j v hj=>b1.cell (kr.cell (eX j v hj))) (aC #[sE,iI 0] b1 Tyz42 (fun gb e0=>(sI 0 (.agg #[.string bx,iI b8]) #[.string bx,iI b8] e0 Tys42 rfl rfl (fun e1 cJ=>(wt (wp_region_lit (m1 (pp (zz u) 0) (fd 0 Tyf42_0 rfl (l1 0 (.string bx) cJ Tya9 ?_))))))))))
   have cK:=p345012 cJ
   obtain ⟨gc,e2,h⟩:=ob h
   refine cp ([pp (zz u) 0,.string bx]) Tyb37 ((f37_ok k) e2 (hG.mono an) cN cO cP cQ cR cS cU cV (Nat.le_trans (Nat.le_refl _) cJ.size) eZ (pt cK)) ?_ ?_
   ·rintro _ gd ⟨e3,e4,e5,e6,e7,e8,e9,fa,fb,fc,ge,fe,ff,fg,fh,fi,fj,fk,fl,fm,fn,fo,fp,fs,rfl,rfl,dt,ft,fu,fv,fx,fy,fz,fA,fB⟩
    have fC:=ca dt cK
    exact wpList_nil (blkN (thenN (wp_region_lit (bar (r:=((ar + 1:Nat):Int)) rfl rfl (inc_ok (le_big (((mp b7 an)).len) (by decide) (drop_cons_lt bw))) (m1 (iI ((ar + 1:Nat):Int)) (wt (⟨_,Nat.lt_succ_self _,_,fe,aG,ar + 1,e3,ff,fg,e4,e5,fh,fi,e6,e7,e8,e9,fj,fk,fa,fl,fm,fn,fb,fo,fp,fs,fc,rfl,fR,(an.trans dt.sub),(fC.sel [4,5,0,1,2]),drop_cons_next bw,ft,fu,fv,fx,fy,fz,fA,fB,h⟩)))))))
   ·rintro _ gf ⟨fD,fE,rfl,rfl,fF⟩
    have fG:=ca fF cK
    exact blkP (thenP (thenP (blkP (thenP (panE (.inr ⟨_,rfl,fD,fE,(oi h).symm,rfl,fG.sel []⟩))))))
theorem f30_ok (k:Nat):f30_spec (f30 k):=f30_b_ok k
set_option maxRecDepth 100000 in
set_option maxHeartbeats 4000000 in
theorem f16_body (k:Nat) (h78:f26_spec (f26 k)) (h58:f25_spec (f25 k)) (h80:f1002804_spec (f1002804 k)) (h82:f30_spec (f30 k)):f16_spec (f16 k):=by
 unfold f16_spec
 intro K wi a0 csa0 res_ h hG ha0 S0
 obtain ⟨fs⟩:=a0
 obtain ⟨A,c,rfl,hrow⟩:=RDProgram.open ha0
 refine calls_of_wpF Tryd.func16 rfl (m:=66) rfl ?_
 unfold f16 at h
 dsimp only at h
 refine wpF_seq ?_
 refine wpF_of (wp_region_lit ?_)
 refine bxoC (cs:=#[.slice A fs.length c]) S0 rfl rfl ?_
 intro w1 S1
 refine alcC (z:=.agg #[.slice none 0 0]) (cs:=#[.slice none 0 0]) S1 (by kernel_rfl) rfl ?_
 intro w2 S2
 refine asg (v:=.slice none 0 0) rfl ?_
 refine wpList_nil ?_
 refine thenN ?_
 refine wpF_scope ?_
 refine wpF_seq ?_
 refine wpF_of (wp_region_lit ?_)
 refine lbN (i:=1) (l:=[.slice A fs.length c]) S2 rfl (by kernel_rfl) (show SizeB Tryd.prog 24=some 1 by kernel_rfl) rfl rfl rfl ?_
 obtain ⟨ok,hq1,h⟩:=Option.bind_eq_some_iff.1 h
 refine clV (caps:=#[]) (vs:=[.agg #[.slice A fs.length c],.bool false]) rfl (by kernel_rfl) rfl (h78 hq1 hG ha0 (S2.part [] (List.sublist_append_left _ _))) ?_
 rintro _ w3 ⟨K3,rfl,T3⟩
 have S3:=S2.call (H1:=[]) T3
 obtain ⟨q2,hq2,h⟩:=Option.bind_eq_some_iff.1 h
 refine clP (caps:=#[]) (vs:=[.bool ok,.int .i64 2]) rfl (by kernel_rfl) rfl (h58 hq2 (hG.mono S3.sub) (S3.part [] (List.sublist_append_left _ _))) ?_ ?_
 rotate_left
 ·rintro _ w4 ⟨c4,K4,rfl,rfl,T4⟩
  have S4:=S3.call (H1:=[]) T4
  refine thenP ?_
  exact .inr ⟨_,rfl,c4,K4,(Option.some.inj h).symm,rfl,S4.sel []⟩
 rintro _ w4 ⟨K4,rfl,rfl,T4⟩
 have S4:=S3.call (H1:=[]) T4
 dsimp only at h
 refine wpList_nil ?_
 refine thenN ?_
 refine wpF_seq ?_
 refine wpF_seq ?_
 refine wpF_of (wp_region_lit ?_)
 refine lbN (i:=1) (l:=[.slice A fs.length c]) S4 rfl (by kernel_rfl) (show SizeB Tryd.prog 24=some 1 by kernel_rfl) rfl rfl rfl ?_
 refine clV (caps:=#[]) (vs:=[.agg #[.slice A fs.length c]]) rfl (by kernel_rfl) rfl (heads_ok S4) ?_
 rintro _ w5 ⟨b5,rfl,S5⟩
 refine wpList_nil ?_
 refine thenN ?_
 refine wpF_block ?_
 obtain ⟨r1,hq3,h⟩:=Option.bind_eq_some_iff.1 h
 have hr4:tF K4 A c fs:=hrow.mono S4.sub (fun _ _ h=>RDFunc.mono S4.sub h)
 obtain ⟨HH,hHH⟩ : ∃ HH:Ents,HH=[.raw (zz wi) (zz w5) (.deferred (some [])),.box (zz wi) (zz w1) #[.slice none 0 0] 24,.box (zz wi) (zz wi) #[.slice A fs.length c] 24]:=⟨_,rfl⟩
 show wpF _ _ _ _ (wd (fr 66 _) []) _
 refine wpF_heads (D:=[]) (Pi:=fun i _ H'=>H'=HH∧f16_l1 k fs (fs.drop i) i=some r1) (Px:=fun _ _ _=>False) (Pp:=fun v _ H'=>H'=[.raw (zz wi) (zz w5) (.deferred (some []))]∧∃ c,r1=.error c∧v=.iface 63 (.agg #[.int .i64 c]))
  (fun i x K1 H1 σ1=>∃ (bf:Nat) (x0:ByteArray) (x1:List DParam) (x2:Int) (x3:Bool) (x4:Int) (x5:List DStmt) (A1:Option Addr) (c1:Nat) (A2:Option Addr) (c2:Nat),x=.mk x0 x1 x2 x3 x4 x5∧H1=.box (zz wi) bf #[.string x0,.slice A1 x1.length c1,.int .i64 x2,.bool x3,.int .i64 x4,.slice A2 x5.length c2] 34 :: HH ∧
   x0.size≤mB∧tP K1 A1 c1 x1∧tS K1 A2 c2 x5∧σ1 4=.pointer (some ⟨bf,0,none⟩)∧σ1 5=.slice A i c∧f16_l1 k fs (fs.drop i) i=some r1)
  Tryd.func16 S5 hr4 rfl ⟨hHH.symm,hq3⟩ ?_ ?_ ?_ ?_ ?_
 ·rintro l o i x cs K6 H6 w6 hs6 S6 ⟨rfl,hl1⟩ hx hR
  refine wpIn_seq ?_
  refine regR0 rfl ?_
  refine alcC (z:=.agg #[.string ⟨#[]⟩,.slice none 0 0,.int .i64 0,.bool false,.int .i64 0,.slice none 0 0]) (cs:=#[.string ⟨#[]⟩,.slice none 0 0,.int .i64 0,.bool false,.int .i64 0,.slice none 0 0]) S6 (by kernel_rfl) rfl ?_
  intro w7 S7
  obtain ⟨x0,x1,x2,x3,x4,x5⟩:=x
  obtain ⟨A1,c1,A2,c2,rfl,hz,hra,hrb⟩:=RDFunc.open hR
  refine stoI (i:=0) (v:=.agg #[.string x0,.slice A1 x1.length c1,.int .i64 x2,.bool x3,.int .i64 x4,.slice A2 x5.length c2]) (cs':=#[.string x0,.slice A1 x1.length c1,.int .i64 x2,.bool x3,.int .i64 x4,.slice A2 x5.length c2]) S7 rfl (show SizeB Tryd.prog 34=some 6 by kernel_rfl) rfl rfl rfl rfl (Nat.le_of_ble_eq_true rfl) rfl ?_
  intro w8 S8
  refine wpList_nil (QLn0 ?_)
  refine thenN ?_
  refine regR0 rfl ?_
  refine asg (v:=.slice A i c) rfl ?_
  refine wpList_nil (QLn0 ?_)
  refine thenN ?_
  exact ⟨K6,_,_,rfl,hs6,S8.rot3,(zz w6),x0,x1,x2,x3,x4,x5,A1,c1,A2,c2,rfl,rfl,hz,hra,hrb,rfl,rfl,hl1⟩
 ·rintro l o i x K6 H6 σ1 w6 hs6 S6 ⟨bf,x0,x1,x2,x3,x4,x5,A1,c1,A2,c2,rfl,rfl,hz,hra,hrb,hσ4,hσ5,hl1⟩ hx
  have hlt:i < fs.length:=(List.getElem?_eq_some_iff.1 hx).1
  have hdr:fs.drop i=.mk x0 x1 x2 x3 x4 x5 :: fs.drop (i + 1):=by rw [List.drop_eq_getElem_cons hlt]; congr 1; exact (List.getElem?_eq_some_iff.1 hx).2
  rw [hdr] at hl1
  unfold f16_l1 at hl1
  obtain ⟨b,hqb,hl1⟩:=Option.bind_eq_some_iff.1 hl1
  refine wpIn_block ?_
  refine regR0 rfl ?_
  have hti:(fs.take i).length=i:=by simp; omega
  refine mv (v:=.slice A (fs.take i).length c) (by rw [hti]; exact hσ5) ?_
  refine mkf (us:=[]) (vs:=[.pointer (some ⟨bf,0,none⟩)]) rfl (by simp only [List.map]; exact congrArg (· :: []) hσ4) ?_
  have S7:=S6.rot3'
  refine clV (caps:=#[]) (vs:=[.slice A (fs.take i).length c,.func (.func 29) #[] #[.pointer (some ⟨bf,0,none⟩)]]) rfl (by kernel_rfl) rfl (h80 hqb (hG.mono (S4.sub.trans hs6)) ((hr4.take i).mono hs6 (fun _ _ h=>RDFunc.mono hs6 h)) hz hra hrb (S7.part [.box (zz wi) bf #[.string x0,.slice A1 x1.length c1,.int .i64 x2,.bool x3,.int .i64 x4,.slice A2 x5.length c2] 34] (List.Sublist.cons_cons _ (List.nil_sublist _)))) ?_
  rintro _ w8 ⟨K8,rfl,T8⟩
  have S8:=Sx.call (H1:=[_]) S7 T8
  refine unot (a:=b) rfl ?_
  obtain ⟨q4,hq4,hl1⟩:=Option.bind_eq_some_iff.1 hl1
  refine clP (caps:=#[]) (vs:=[.bool (!b),.int .i64 21]) rfl (by kernel_rfl) rfl (h58 hq4 (hG.mono ((S4.sub.trans hs6).trans T8.sub)) (S8.part [] (List.nil_sublist _))) ?_ ?_
  ·rintro _ w9 ⟨K9,rfl,rfl,T9⟩
   have S9:=Sx.call (H1:=[]) S8 T9
   refine wpList_nil (QLn0 ?_)
   refine blkN ?_
   exact ⟨K9,HH,(hs6.trans T8.sub).trans T9.sub,S9.drop (List.sublist_cons_self _ _),rfl,hl1⟩
  ·rintro _ w9 ⟨c9,K9,rfl,rfl,T9⟩
   have S9:=Sx.call (H1:=[]) S8 T9
   refine QLp0 ?_
   refine blkP ?_
   subst hHH
   exact ⟨rfl,_,rfl,K9,_,S9.sel [3],rfl,c9,(Option.some.inj hl1).symm,rfl⟩
 rotate_left
 ·rintro c' w6 K6 H6 hs6 S6 h; exact h.elim
 ·rintro v w6 K6 H6 S6 ⟨rfl,c6,rfl,rfl⟩
  refine blkP ?_
  refine thenP ?_
  refine leave_mark (A:=[]) (B:=[]) (by simp) S6 ?_
  intro w7 S7
  exact .inr ⟨_,rfl,c6,K6,(Option.some.inj h).symm,rfl,S7⟩
 rintro w6 K6 H6 hs6 S6 ⟨rfl,hl1⟩
 rw [List.drop_length] at hl1
 unfold f16_l1 at hl1
 obtain rfl:=Option.some.inj hl1
 dsimp only at h
 subst hHH
 refine blkN ?_
 refine thenN ?_
 obtain ⟨q5,hq5,h⟩:=Option.bind_eq_some_iff.1 h
 refine wpF_seq ?_
 refine wpF_of (regD rfl ?_)
 refine alcC (z:=.int .i64 0) (cs:=#[.int .i64 0]) S6 (by kernel_rfl) rfl ?_
 intro w7 S7
 refine stoI (i:=0) (v:=.int .i64 20) (cs':=#[.int .i64 20]) S7 rfl (show SizeB Tryd.prog 27=some 1 by kernel_rfl) rfl rfl rfl rfl (Nat.le_of_ble_eq_true rfl) rfl ?_
 intro w8 S8
 refine wpList_nil (QLn ?_)
 refine thenN ?_
 refine wpF_seq ?_
 refine wpF_of (wp_label ?_)
 refine thenN ?_
 refine wpF_seq ?_
 refine wpF_seq ?_
 refine wpF_of (regD rfl ?_)
 refine lbN (i:=3) (l:=[.slice A fs.length c]) S8 rfl (by kernel_rfl) (show SizeB Tryd.prog 24=some 1 by kernel_rfl) rfl rfl rfl ?_
 refine clV (caps:=#[]) (vs:=[.agg #[.slice A fs.length c]]) rfl (by kernel_rfl) rfl (heads_ok S8) ?_
 rintro _ w9 ⟨b9,rfl,S9⟩
 refine wpList_nil (QLn ?_)
 refine thenN ?_
 refine wpF_block ?_
 have hr6:tF K6 A c fs:=hr4.mono hs6 (fun _ _ h=>RDFunc.mono hs6 h)
 obtain ⟨HF,hHF⟩ : ∃ HF:Int→Ents,HF=fun x=>[.raw (zz wi) (zz w9) (.deferred (some [])),.box (zz wi) (zz w6) #[.int .i64 x] 27,.raw (zz wi) (zz w5) (.deferred (some [])),.box (zz wi) (zz w1) #[.slice none 0 0] 24,.box (zz wi) (zz wi) #[.slice A fs.length c] 24]:=⟨_,rfl⟩
 refine wpF_join (D':=[mark (zz w9),mark (zz w5)]) (A:=fun w10 K10=>K6.sub K10∧Sx K K10 wi w10 (fun b=>b ∈ Ents.blks []) (HF (f16_l2 fs))) ?_ (fun hgo=>?_)
 rotate_left
 refine wpF_heads (Pi:=fun i _ H'=>H'=HF 20∧f16_l2 fs=f16_l2 (fs.drop i)) (Px:=fun c' _ H'=>c'=.exit 2∧H'=HF (f16_l2 fs)) (Pp:=fun _ _ _=>False)
  (fun i x K1 H1 σ1=>∃ (bf:Nat) (x0:ByteArray) (x1:List DParam) (x2:Int) (x3:Bool) (x4:Int) (x5:List DStmt) (A1:Option Addr) (c1:Nat) (A2:Option Addr) (c2:Nat),x=.mk x0 x1 x2 x3 x4 x5∧H1=.box (zz wi) bf #[.string x0,.slice A1 x1.length c1,.int .i64 x2,.bool x3,.int .i64 x4,.slice A2 x5.length c2] 34 :: HF 20 ∧
   σ1 7=.pointer (some ⟨bf,0,none⟩)∧σ1 6=.pointer (some ⟨(zz w6),0,none⟩)∧f16_l2 fs=f16_l2 (fs.drop i))
  Tryd.func16 S9 hr6 rfl ⟨(by subst hHF; rfl),by rw [List.drop_zero]⟩ ?_ ?_ ?_ ?_ ?_
 ·rintro l o i x cs K10 H10 w10 hs10 S10 ⟨rfl,hl2⟩ hx hR
  refine regR0 rfl ?_
  refine alcC (z:=.agg #[.string ⟨#[]⟩,.slice none 0 0,.int .i64 0,.bool false,.int .i64 0,.slice none 0 0]) (cs:=#[.string ⟨#[]⟩,.slice none 0 0,.int .i64 0,.bool false,.int .i64 0,.slice none 0 0]) S10 (by kernel_rfl) rfl ?_
  intro w11 S11
  obtain ⟨x0,x1,x2,x3,x4,x5⟩:=x
  obtain ⟨A1,c1,A2,c2,rfl,hz,hra,hrb⟩:=RDFunc.open hR
  refine stoI (i:=0) (v:=.agg #[.string x0,.slice A1 x1.length c1,.int .i64 x2,.bool x3,.int .i64 x4,.slice A2 x5.length c2]) (cs':=#[.string x0,.slice A1 x1.length c1,.int .i64 x2,.bool x3,.int .i64 x4,.slice A2 x5.length c2]) S11 rfl (show SizeB Tryd.prog 34=some 6 by kernel_rfl) rfl rfl rfl rfl (Nat.le_of_ble_eq_true rfl) rfl ?_
  intro w12 S12
  refine wpList_nil (QLn0 ?_)
  refine thenN ?_
  exact ⟨K10,_,_,rfl,hs10,S12.rot3,(zz w10),x0,x1,x2,x3,x4,x5,A1,c1,A2,c2,rfl,rfl,rfl,rfl,hl2⟩
 ·rintro l o i x K10 H10 σ1 w10 hs10 S10 ⟨bf,x0,x1,x2,x3,x4,x5,A1,c1,A2,c2,rfl,rfl,hσ7,hσ6,hl2⟩ hx
  have hlt:i < fs.length:=(List.getElem?_eq_some_iff.1 hx).1
  have hdr:fs.drop i=.mk x0 x1 x2 x3 x4 x5 :: fs.drop (i + 1):=by rw [List.drop_eq_getElem_cons hlt]; congr 1; exact (List.getElem?_eq_some_iff.1 hx).2
  have hl3:f16_l2 fs=cond (!(seq x0 ⟨#[109,97,105,110]⟩)) (f16_l2 (fs.drop (i + 1))) (cond x3 25 (cond (decide ((x1.length:Int) > 0)) 24 0)):=by rw [hl2,hdr]; rfl
  clear hl2
  have hdropx : ∀ {K:KH} {w:World} {a b x:Ent} {H:Ents},Sx K K10 wi w (fun b=>b ∈ Ents.blks []) (a :: b :: x :: H)→Sx K K10 wi w (fun b=>b ∈ Ents.blks []) (a :: b :: H):=fun S=>S.drop (List.Sublist.cons_cons _ (List.Sublist.cons_cons _ (List.sublist_cons_self _ _)))
  refine wpIn_block ?_
  refine wpIn_seq ?_
  refine wpIn_seq ?_
  refine regR0 rfl ?_
  refine fld (s:=34) (f:=0) (off:=0) (o':=0) (by kernel_rfl) hσ7 rfl ?_
  refine lb1 (i:=2) (v:=.string x0) S10 rfl (by kernel_rfl) rfl rfl ?_
  refine bsc (r:=!(seq x0 ⟨#[109,97,105,110]⟩)) rfl rfl rfl ?_
  refine wpList_nil (QLn0 ?_)
  refine thenN ?_
  rcases hmain:seq x0 ⟨#[109,97,105,110]⟩ with _ | _
  ·rw [hmain] at hl3
   refine cndTI rfl ?_
   refine wpIn_exit ?_
   refine thenX ?_
   refine blkX ?_
   exact ⟨K10,_,hs10,hdropx S10,rfl,hl3⟩
  ·rw [hmain] at hl3
   refine cndFI rfl ?_
   refine wpIn_skip ?_
   refine thenN ?_
   refine wpIn_seq ?_
   subst hHF
   refine wpIn_block ?_
   refine wpIn_seq ?_
   refine regR0 rfl ?_
   refine fld (s:=34) (f:=3) (off:=3) (o':=3) (by kernel_rfl) hσ7 rfl ?_
   refine lb1 (i:=2) (v:=.bool x3) S10 rfl (by kernel_rfl) rfl rfl ?_
   refine asg (v:=.bool x3) rfl ?_
   refine wpList_nil (QLn0 ?_)
   refine thenN ?_
   rcases x3 with _ | _
   ·refine cndFI rfl ?_
    refine wpIn_seq ?_
    refine regR0 rfl ?_
    refine fld (s:=34) (f:=1) (off:=1) (o':=1) (by kernel_rfl) hσ7 rfl ?_
    refine lb1 (i:=2) (v:=.slice A1 x1.length c1) S10 rfl (by kernel_rfl) rfl rfl ?_
    refine lnS (len:=x1.length) (e:=42) (by kernel_rfl) rfl ?_
    refine bcm (r:=decide ((x1.length:Int) > 0)) rfl rfl rfl ?_
    refine asg (v:=.bool (decide ((x1.length:Int) > 0))) rfl ?_
    refine wpList_nil (QLn0 ?_)
    refine thenN ?_
    rcases hd:decide ((x1.length:Int) > 0) with _ | _
    ·rw [hd] at hl3
     refine cndFI rfl ?_
     refine regR0 rfl ?_
     refine stoI (i:=4) (v:=.int .i64 0) (cs':=#[.int .i64 0]) S10 rfl (show SizeB Tryd.prog 27=some 1 by kernel_rfl) hσ6 rfl rfl rfl (Nat.le_of_ble_eq_true rfl) rfl ?_
     intro w11 S11
     refine wpList_nil (QLn0 ?_)
     refine blkN ?_
     refine thenN ?_
     refine wpIn_exit ?_
     refine blkO (by decide) ?_
     exact ⟨K10,_,hs10,hdropx S11,rfl,by rw [hl3]; rfl⟩
    ·rw [hd] at hl3
     refine cndTI rfl ?_
     refine regR0 rfl ?_
     refine stoI (i:=4) (v:=.int .i64 24) (cs':=#[.int .i64 24]) S10 rfl (show SizeB Tryd.prog 27=some 1 by kernel_rfl) hσ6 rfl rfl rfl (Nat.le_of_ble_eq_true rfl) rfl ?_
     intro w11 S11
     refine wpList_nil (QLn0 ?_)
     refine blkN ?_
     refine thenN ?_
     refine wpIn_exit ?_
     refine blkO (by decide) ?_
     exact ⟨K10,_,hs10,hdropx S11,rfl,by rw [hl3]; rfl⟩
   ·refine cndTI rfl ?_
    refine regR0 rfl ?_
    refine stoI (i:=4) (v:=.int .i64 25) (cs':=#[.int .i64 25]) S10 rfl (show SizeB Tryd.prog 27=some 1 by kernel_rfl) hσ6 rfl rfl rfl (Nat.le_of_ble_eq_true rfl) rfl ?_
    intro w11 S11
    refine wpList_nil (QLn0 ?_)
    refine blkN ?_
    refine thenN ?_
    refine wpIn_exit ?_
    refine blkO (by decide) ?_
    exact ⟨K10,_,hs10,hdropx S11,rfl,by rw [hl3]; rfl⟩
 ·rintro w10 K10 H10 hs10 S10 ⟨rfl,hl2⟩
  refine hgo w10 K10 ⟨hs10,?_⟩
  rw [hl2,List.drop_length]
  exact S10
 ·rintro c' w10 K10 H10 hs10 S10 ⟨rfl,rfl⟩
  refine wpF_of (wp_exit ?_)
  refine blkX ?_
  exact hgo w10 K10 ⟨hs10,S10⟩
 ·rintro v w10 K10 H10 S10 h; exact h.elim
 rintro w10 K10 ⟨hs10,S10⟩
 subst hHF
 obtain ⟨y,hy⟩ : ∃ y,y=f16_l2 fs:=⟨_,rfl⟩
 rw [← hy] at hq5 S10
 have hs410:=hs6.trans hs10
 refine wpF_seq ?_
 refine wpF_of (regD rfl ?_)
 refine lb1 (i:=1) (v:=.int .i64 y) S10 rfl (by kernel_rfl) rfl rfl ?_
 refine bcm (r:=decide (y=0)) rfl rfl rfl ?_
 refine lb1 (i:=1) (v:=.int .i64 y) S10 rfl (by kernel_rfl) rfl rfl ?_
 refine clP (caps:=#[]) (vs:=[.bool (decide (y=0)),.int .i64 y]) rfl (by kernel_rfl) rfl (h58 hq5 (hG.mono (S4.sub.trans hs410)) (S10.part [] (List.nil_sublist _))) ?_ ?_
 rotate_left
 ·rintro _ w11 ⟨c11,K11,rfl,rfl,T11⟩
  have S11:=Sx.call (H1:=[]) S10 T11
  refine QLp ?_
  refine thenP ?_
  refine leave_mark (A:=[]) (by simp) S11 ?_
  intro w12 S12
  refine leave_mark (A:=[_]) (by simp) S12 ?_
  intro w13 S13
  exact .inr ⟨_,rfl,c11,K11,(Option.some.inj h).symm,rfl,S13.sel []⟩
 rintro _ w11 ⟨K11,rfl,rfl,T11⟩
 have S11:=Sx.call (H1:=[]) S10 T11
 dsimp only at h
 have hs411:=hs410.trans T11.sub
 refine wpList_nil (QLn ?_)
 refine thenN ?_
 refine wpF_seq ?_
 refine wpF_of (regD rfl ?_)
 refine alcC (z:=.agg #[.slice none 0 0]) (cs:=#[.slice none 0 0]) S11 (by kernel_rfl) rfl ?_
 intro w12 S12
 refine wpList_nil (QLn ?_)
 refine thenN ?_
 refine wpF_seq ?_
 refine wpF_of (regD rfl ?_)
 refine alcC (z:=.slice none 0 0) (cs:=#[.slice none 0 0]) S12 (by kernel_rfl) rfl ?_
 intro w13 S13
 refine wpList_nil (QLn ?_)
 refine thenN ?_
 refine wpF_seq ?_
 refine wpF_seq ?_
 refine wpF_of (regD rfl ?_)
 have S14:=(S13.row_ (zz wi) 34 6).row_ (zz wi) 38 1
 refine lbN (i:=8) (l:=[.slice A fs.length c]) S14 rfl (by kernel_rfl) (show SizeB Tryd.prog 24=some 1 by kernel_rfl) rfl rfl rfl ?_
 refine clV (caps:=#[]) (vs:=[.agg #[.slice A fs.length c]]) rfl (by kernel_rfl) rfl (heads_ok S14) ?_
 rintro _ w15 ⟨b15,rfl,S15⟩
 refine wpList_nil (QLn ?_)
 refine thenN ?_
 refine wpF_block ?_
 have hr11:tF K11 A c fs:=hr4.mono hs411 (fun _ _ h=>RDFunc.mono hs411 h)
 have hlen:=hr11.len
 obtain ⟨HT,hHT⟩ : ∃ HT:List DFunc→Option Addr→Nat→List Value→List (List ByteArray)→Option Addr→Nat→List Value→Ents,HT=fun out A' c' ys' nms A'' c'' ys''=>[.raw (zz wi) (zz w15) (.deferred (some [])),.row (zz wi) (.slice A'' nms.length c'') 38 1 nms.length ys'',.row (zz wi) (.slice A' out.length c') 34 6 out.length ys',
  .box (zz wi) (zz w12) #[.slice A'' nms.length c''] 49,.box (zz wi) (zz w11) #[.slice A' out.length c'] 24,.raw (zz wi) (zz w9) (.deferred (some [])),.box (zz wi) (zz w6) #[.int .i64 y] 27,.raw (zz wi) (zz w5) (.deferred (some [])),.box (zz wi) (zz w1) #[.slice none 0 0] 24,.box (zz wi) (zz wi) #[.slice A fs.length c] 24]:=⟨_,rfl⟩
 refine wpF_heads (Pi:=fun i K' H'=>∃ out A' c' ys' nms A'' c'' ys'',out.length=i∧nms.length=i∧H'=HT out A' c' ys' nms A'' c'' ys''∧Reps (RDFunc K') 6 out ys'∧Reps (RSlE ByteArray (fun K=>RStr) 1 16 K') 1 nms ys''∧f16_l3 k (.mk fs) (fs.drop i) out nms=some res_) (Px:=fun _ _ _=>False)
  (Pp:=fun v _ H'=>H'=[.raw (zz wi) (zz w15) (.deferred (some [])),.raw (zz wi) (zz w9) (.deferred (some [])),.raw (zz wi) (zz w5) (.deferred (some []))]∧∃ c,res_=.error c∧v=.iface 63 (.agg #[.int .i64 c]))
  (fun i x K1 H1 σ1=>∃ (bf:Nat) (x0:ByteArray) (x1:List DParam) (x2:Int) (x3:Bool) (x4:Int) (x5:List DStmt) (A1:Option Addr) (c1:Nat) (A2:Option Addr) (c2:Nat) (out:List DFunc) (A' : Option Addr) (c' : Nat) (ys' : List Value) (nms:List (List ByteArray)) (A'' : Option Addr) (c'' : Nat) (ys'' : List Value),x=.mk x0 x1 x2 x3 x4 x5∧H1=.box (zz wi) bf #[.string x0,.slice A1 x1.length c1,.int .i64 x2,.bool x3,.int .i64 x4,.slice A2 x5.length c2] 34 :: HT out A' c' ys' nms A'' c'' ys'' ∧
   out.length=i∧nms.length=i∧Reps (RDFunc K1) 6 out ys'∧Reps (RSlE ByteArray (fun K=>RStr) 1 16 K1) 1 nms ys''∧f16_l3 k (.mk fs) (fs.drop i) out nms=some res_ ∧
   x0.size≤mB∧tP K1 A1 c1 x1∧tS K1 A2 c2 x5∧σ1 10=.pointer (some ⟨bf,0,none⟩)∧σ1 1=.pointer (some ⟨(zz wi),0,none⟩)∧σ1 8=.pointer (some ⟨(zz w11),0,none⟩)∧σ1 9=.pointer (some ⟨(zz w12),0,none⟩))
  Tryd.func16 S15 hr11 rfl ⟨[],none,0,[],[],none,0,[],rfl,rfl,(by subst hHT; rfl),reps0,reps0,h⟩ ?_ ?_ ?_ ?_ ?_
 ·rintro l o i x cs K16 H16 w16 hs16 S16 ⟨out,A',c',ys',nms,A'',c'',ys'',ho,hn,rfl,hro,hrn,hl3⟩ hx hR
  refine regR0 rfl ?_
  refine alcC (z:=.agg #[.string ⟨#[]⟩,.slice none 0 0,.int .i64 0,.bool false,.int .i64 0,.slice none 0 0]) (cs:=#[.string ⟨#[]⟩,.slice none 0 0,.int .i64 0,.bool false,.int .i64 0,.slice none 0 0]) S16 (by kernel_rfl) rfl ?_
  intro w17 S17
  obtain ⟨x0,x1,x2,x3,x4,x5⟩:=x
  obtain ⟨A1,c1,A2,c2,rfl,hz,hra,hrb⟩:=RDFunc.open hR
  refine stoI (i:=0) (v:=.agg #[.string x0,.slice A1 x1.length c1,.int .i64 x2,.bool x3,.int .i64 x4,.slice A2 x5.length c2]) (cs':=#[.string x0,.slice A1 x1.length c1,.int .i64 x2,.bool x3,.int .i64 x4,.slice A2 x5.length c2]) S17 rfl (show SizeB Tryd.prog 34=some 6 by kernel_rfl) rfl rfl rfl rfl (Nat.le_of_ble_eq_true rfl) rfl ?_
  intro w18 S18
  refine wpList_nil (QLn0 ?_)
  refine thenN ?_
  exact ⟨K16,_,_,rfl,hs16,S18.rot3,(zz w16),x0,x1,x2,x3,x4,x5,A1,c1,A2,c2,out,A',c',ys',nms,A'',c'',ys'',rfl,rfl,ho,hn,hro,hrn,hl3,hz,hra,hrb,rfl,rfl,rfl,rfl⟩
 ·rintro l o i x K16 H16 σ1 w16 hs16 S16 ⟨bf,x0,x1,x2,x3,x4,x5,A1,c1,A2,c2,out,A',c',ys',nms,A'',c'',ys'',rfl,rfl,ho,hn,hro,hrn,hl3,hz,hra,hrb,hσ10,hσ1,hσ8,hσ9⟩ hx
  have hlt:i < fs.length:=(List.getElem?_eq_some_iff.1 hx).1
  have hdr:fs.drop i=.mk x0 x1 x2 x3 x4 x5 :: fs.drop (i + 1):=by rw [List.drop_eq_getElem_cons hlt]; congr 1; exact (List.getElem?_eq_some_iff.1 hx).2
  rw [hdr] at hl3
  unfold f16_l3 at hl3
  obtain ⟨q17,hq17,hl3⟩:=Option.bind_eq_some_iff.1 hl3
  have hs1116:=hs411.trans hs16
  subst hHT
  refine wpIn_block ?_
  refine wpIn_seq ?_
  refine regR0 rfl ?_
  refine lbN (i:=12) (l:=[.slice A fs.length c]) S16 rfl (by kernel_rfl) (show SizeB Tryd.prog 24=some 1 by kernel_rfl) hσ1 rfl rfl ?_
  refine lbN (i:=2) (l:=[.string x0,.slice A1 x1.length c1,.int .i64 x2,.bool x3,.int .i64 x4,.slice A2 x5.length c2]) S16 rfl (by kernel_rfl) (show SizeB Tryd.prog 34=some 6 by kernel_rfl) hσ10 rfl rfl ?_
  refine clP (caps:=#[]) (vs:=[.agg #[.slice A fs.length c],.agg #[.string x0,.slice A1 x1.length c1,.int .i64 x2,.bool x3,.int .i64 x4,.slice A2 x5.length c2]]) rfl (by kernel_rfl) rfl
   (h82 hq17 (hG.mono (S4.sub.trans hs1116)) (RDProgram.intro (hr4.mono hs1116 (fun _ _ h=>RDFunc.mono hs1116 h))) (RDFunc.intro hz hra hrb) (S16.part [] (List.nil_sublist _))) ?_ ?_
  rotate_left
  ·rintro _ w17 ⟨c17,K17,rfl,rfl,T17⟩
   have S17:=Sx.call (H1:=[]) S16 T17
   refine QLp0 ?_
   refine thenP ?_
   refine blkP ?_
   exact ⟨rfl,_,rfl,K17,_,S17.sel [3,8,10] (by decide),rfl,c17,(Option.some.inj hl3).symm,rfl⟩
  rintro _ w17 ⟨g,ln,K17,csg,Al,cl,rfl,rfl,T17,hrg,hrl⟩
  have S17:=Sx.call (H1:=[]) S16 T17
  dsimp only at hl3
  obtain ⟨g0,g1,g2,g3,g4,g5⟩:=g
  obtain ⟨Ag1,cg1,Ag2,cg2,rfl,hzg,hrg1,hrg2⟩:=RDFunc.open hrg
  refine mv (v:=.tuple #[.agg #[.string g0,.slice Ag1 g1.length cg1,.int .i64 g2,.bool g3,.int .i64 g4,.slice Ag2 g5.length cg2],.slice Al ln.length cl]) rfl ?_
  refine ext (v:=.agg #[.string g0,.slice Ag1 g1.length cg1,.int .i64 g2,.bool g3,.int .i64 g4,.slice Ag2 g5.length cg2]) rfl rfl ?_
  refine ext (v:=.slice Al ln.length cl) rfl rfl ?_
  refine alcC (z:=.agg #[.string ⟨#[]⟩,.slice none 0 0,.int .i64 0,.bool false,.int .i64 0,.slice none 0 0]) (cs:=#[.string ⟨#[]⟩,.slice none 0 0,.int .i64 0,.bool false,.int .i64 0,.slice none 0 0]) S17 (by kernel_rfl) rfl ?_
  intro w18 S18
  refine stoI (i:=0) (v:=.agg #[.string g0,.slice Ag1 g1.length cg1,.int .i64 g2,.bool g3,.int .i64 g4,.slice Ag2 g5.length cg2]) (cs':=#[.string g0,.slice Ag1 g1.length cg1,.int .i64 g2,.bool g3,.int .i64 g4,.slice Ag2 g5.length cg2]) S18 rfl (show SizeB Tryd.prog 34=some 6 by kernel_rfl) rfl rfl rfl rfl (Nat.le_of_ble_eq_true rfl) rfl ?_
  intro w19 S19
  refine asg (v:=.slice Al ln.length cl) rfl ?_
  refine wpList_nil (QLn0 ?_)
  refine thenN ?_
  refine wpIn_seq ?_
  refine regR0 rfl ?_
  refine fld (s:=24) (f:=0) (off:=0) (o':=0) (by kernel_rfl) hσ8 rfl ?_
  refine lb1 (i:=8) (v:=.slice A' out.length c') S19 rfl (by kernel_rfl) rfl rfl ?_
  refine lbN (i:=0) (l:=[.string g0,.slice Ag1 g1.length cg1,.int .i64 g2,.bool g3,.int .i64 g4,.slice Ag2 g5.length cg2]) S19 rfl (by kernel_rfl) (show SizeB Tryd.prog 34=some 6 by kernel_rfl) rfl rfl rfl ?_
  refine bsl (e:=34) (cells:=#[.string g0,.slice Ag1 g1.length cg1,.int .i64 g2,.bool g3,.int .i64 g4,.slice Ag2 g5.length cg2]) (vs:=[(0,.agg #[.string g0,.slice Ag1 g1.length cg1,.int .i64 g2,.bool g3,.int .i64 g4,.slice Ag2 g5.length cg2])]) S19 rfl
   (buildSl_one (show ElemB Tryd.prog 22=some 34 by kernel_rfl) (show SizeB Tryd.prog 34=some 6 by kernel_rfl) (show ZeroB Tryd.prog 34=some (.agg #[.string ⟨#[]⟩,.slice none 0 0,.int .i64 0,.bool false,.int .i64 0,.slice none 0 0]) by kernel_rfl) rfl (by decide) (by decide) rfl) ?_
  intro w20 S20
  refine apR (R:=(RDFunc K17)) (p:=(DFunc.mk g0 g1 g2 g3 g4 g5)) (i:=7) (j:=0) (bytes:=88) S20 rfl rfl (show ElemB Tryd.prog 22=some 34 by kernel_rfl) (show (Tryd.prog.info? 34).map (fun i=>(i.zero,i.size,i.bytes))=some (some (.agg #[.string ⟨#[]⟩,.slice none 0 0,.int .i64 0,.bool false,.int .i64 0,.slice none 0 0]),6,88) by kernel_rfl) rfl (by decide) rfl rfl
   (hro.mono (fun _ _ h=>RDFunc.mono T17.sub h)) (RDFunc.intro hzg hrg1 hrg2) rfl rfl (Nat.le_refl _) (by omega) (by decide) ?_
  intro A21 c21 ys21 w21 S21 hr21
  refine fld (s:=24) (f:=0) (off:=0) (o':=0) (by kernel_rfl) hσ8 rfl ?_
  refine stoI (i:=9) (v:=.slice A21 (out ++ [DFunc.mk g0 g1 g2 g3 g4 g5]).length c21) (cs':=#[.slice A21 (out ++ [DFunc.mk g0 g1 g2 g3 g4 g5]).length c21]) S21 rfl (show SizeB Tryd.prog 22=some 1 by kernel_rfl) rfl rfl rfl rfl (Nat.le_of_ble_eq_true rfl) rfl ?_
  intro w22 S22
  refine wpList_nil (QLn0 ?_)
  refine thenN ?_
  have S23:Sx K K17 wi w22 (fun b=>b ∈ Ents.blks []) [.raw (zz wi) l (.loop o),.box (zz wi) b15 #[.slice A fs.length c] 24,.raw (zz wi) (zz w15) (.deferred (some [])),.row (zz wi) (.slice A'' nms.length c'') 38 1 nms.length ys'',.row (zz wi) (.slice A21 (out ++ [DFunc.mk g0 g1 g2 g3 g4 g5]).length c21) 34 6 (out ++ [DFunc.mk g0 g1 g2 g3 g4 g5]).length ys21,
   .box (zz wi) (zz w12) #[.slice A'' nms.length c''] 49,.box (zz wi) (zz w11) #[.slice A21 (out ++ [DFunc.mk g0 g1 g2 g3 g4 g5]).length c21] 24,.raw (zz wi) (zz w9) (.deferred (some [])),.box (zz wi) (zz w6) #[.int .i64 y] 27,.raw (zz wi) (zz w5) (.deferred (some [])),.box (zz wi) (zz w1) #[.slice none 0 0] 24,.box (zz wi) (zz wi) #[.slice A fs.length c] 24]:=S22.sel [2,3,5,6,7,8,9,10,11,12,13,14] (by decide)
  refine regR0 rfl ?_
  refine lb1 (i:=5) (v:=.slice A'' nms.length c'') S23 rfl (by kernel_rfl) hσ9 rfl ?_
  refine mv (v:=.slice Al ln.length cl) rfl ?_
  refine bsl (e:=38) (cells:=#[.slice Al ln.length cl]) (vs:=[(0,.slice Al ln.length cl)]) S23 rfl
   (buildSl_one (show ElemB Tryd.prog 49=some 38 by kernel_rfl) (show SizeB Tryd.prog 38=some 1 by kernel_rfl) (show ZeroB Tryd.prog 38=some (.slice none 0 0) by kernel_rfl) rfl (by decide) (by decide) rfl) ?_
  intro w24 S24
  refine apR (R:=(RSlE ByteArray (fun K=>RStr) 1 16 K17)) (p:=ln) (i:=4) (j:=0) (bytes:=24) S24 rfl rfl (show ElemB Tryd.prog 49=some 38 by kernel_rfl) (show (Tryd.prog.info? 38).map (fun i=>(i.zero,i.size,i.bytes))=some (some (.slice none 0 0),1,24) by kernel_rfl) rfl (by decide) rfl rfl
   (hrn.mono (fun _ _ h=>RSlE.mono (fun _ _ _ h=>h) T17.sub h)) ⟨Al,cl,rfl,hrl⟩ rfl rfl (Nat.le_refl _) (by omega) (by decide) ?_
  intro A25 c25 ys25 w25 S25 hr25
  refine stoI (i:=6) (v:=.slice A25 (nms ++ [ln]).length c25) (cs':=#[.slice A25 (nms ++ [ln]).length c25]) S25 rfl (show SizeB Tryd.prog 49=some 1 by kernel_rfl) hσ9 rfl rfl rfl (Nat.le_of_ble_eq_true rfl) rfl ?_
  intro w26 S26
  refine wpList_nil (QLn0 ?_)
  refine blkN ?_
  exact ⟨K17,_,hs16.trans T17.sub,S26.sel [1,2,3,4,5,6,7,8,9,10,11,12] (by decide),out ++ [DFunc.mk g0 g1 g2 g3 g4 g5],A21,c21,ys21,nms ++ [ln],A25,c25,ys25,by simp [ho],by simp [hn],rfl,hr21,hr25,hl3⟩
 rotate_left
 ·rintro c' w16 K16 H16 hs16 S16 h; exact h.elim
 ·rintro v w16 K16 H16 S16 ⟨rfl,c16,rfl,rfl⟩
  refine blkP ?_
  refine thenP ?_
  refine leave_mark (A:=[]) (by simp) S16 ?_
  intro w17 S17
  refine leave_mark (A:=[]) (by simp) S17 ?_
  intro w18 S18
  refine leave_mark (A:=[]) (B:=[]) (by simp) S18 ?_
  intro w19 S19
  exact .inr ⟨_,rfl,c16,K16,rfl,rfl,S19⟩
 rintro w16 K16 H16 hs16 S16 ⟨out,A',c',ys',nms,A'',c'',ys'',ho,hn,rfl,hro,hrn,hl3⟩
 rw [List.drop_length] at hl3
 unfold f16_l3 at hl3
 obtain rfl:=Option.some.inj hl3
 subst hHT
 refine blkN ?_
 refine thenN ?_
 have S17:=S16.drew
 have hfin : ∀ (R:Ending→World→Prop) (w' : World) (σ' : Nat→Value),Sx K K16 wi w' (fun b=>b ∈ Ents.blks []) [.raw (zz wi) (zz w15) (.deferred (some [])),.row (zz wi) (.slice A'' nms.length c'') 38 1 nms.length ys'',.row (zz wi) (.slice A' out.length c') 34 6 out.length ys',
   .box (zz wi) (zz w12) #[.slice A'' nms.length c''] 49,.box (zz wi) (zz w11) #[.slice A' out.length c'] 24,.raw (zz wi) (zz w9) (.deferred (some [])),.box (zz wi) (zz w6) #[.int .i64 y] 27,.raw (zz wi) (zz w5) (.deferred (some [])),.box (zz wi) (zz w1) #[.slice A' out.length c'] 24,.box (zz wi) (zz wi) #[.slice A fs.length c] 24] →
   ev 66 σ' (.tmp 2)=.pointer (some ⟨(zz w1),0,none⟩)→ev 66 σ' (.tmp 3)=.slice A'' nms.length c'' →
   (∀ w'' K'',K16.sub K''→tF K'' A' c' out→RSl (List ByteArray) (RSlE ByteArray (fun K=>RStr) 1 16 K'') 1 24 K'' A'' c'' nms→Sx K K'' wi w'' (fun b=>b ∈ Ents.blks []) []→R (.returned (.tuple #[.agg #[.slice A' out.length c'],.slice A'' nms.length c''])) w'') →
   LeavesInM Fence.wide 0 Tryd.prog Tryd.f16 (fr 66 σ').tmps R [mark (zz w15),mark (zz w9),mark (zz w5)] .returning w':=by
  intro R w' σ' S h2 h3 hR
  obtain ⟨K18,S18,hs18,hr18⟩:=shutI (i:=1) (bytes:=24) (R:=fun K=>RSlE ByteArray (fun K=>RStr) 1 16 K) S rfl (Nat.le_refl _) hrn (by rw [hn]; omega) (fun hs _ _ h=>RSlE.mono (fun _ _ _ h=>h) hs h)
  obtain ⟨K19,S19,hs19,hr19⟩:=shutI (i:=1) (bytes:=88) (R:=fun K=>RDFunc K) S18 rfl (Nat.le_refl _) (hro.mono (fun _ _ h=>RDFunc.mono hs18 h)) (by rw [ho]; omega) (fun hs _ _ h=>RDFunc.mono hs h)
  have S20:Sx K K19 wi w' (fun b=>b ∈ Ents.blks []) ([] ++ .raw (zz wi) (zz w15) (.deferred (some [])) :: [.raw (zz wi) (zz w9) (.deferred (some [])),.raw (zz wi) (zz w5) (.deferred (some [])),.box (zz wi) (zz w1) #[.slice A' out.length c'] 24]):=S19.sel [0,3,5,6] (by decide)
  refine leave_mark (by simp) S20 ?_
  intro w21 S21
  refine leave_mark (A:=[]) (by simp) S21 ?_
  intro w22 S22
  refine leave_mark (A:=[]) (by simp) S22 ?_
  intro w23 S23
  exact ⟨_,run_resA2 rfl (resN (i:=0) (l:=[.slice A' out.length c']) S23 rfl (by kernel_rfl) (show SizeB Tryd.prog 24=some 1 by kernel_rfl) h2 rfl rfl) (resT h3),hR w23 K19 (hs18.trans hs19) hr19 (hr18.mono hs19 (fun _ _ h=>RSlE.mono (fun _ _ _ h=>h) hs19 h)) (S23.sel [])⟩
 refine wpF_seq ?_
 refine wpF_of ((wpIn_wide (n:=0)).1 (regAnyR (ro:=none) (E:=[]) (F:=fun _=>True) (by kernel_rfl) rfl rfl rfl ?_))
 refine anyAll (rs:=[0,1]) (by kernel_rfl) (by decide) (allC ?_ (allC ?_ allN))
 ·refine opL (i:=0) rfl ?_
  refine lbN (i:=4) (l:=[.slice A' out.length c']) S17 rfl (by kernel_rfl) (show SizeB Tryd.prog 24=some 1 by kernel_rfl) rfl rfl rfl ?_
  refine wpList_nil ?_
  refine thenN ?_
  refine ⟨fun _=>trivial,?_⟩
  refine anyAll (rs:=[1,2]) (by kernel_rfl) (by decide) (allC ?_ (allC ?_ allN))
  ·refine opL (i:=1) rfl ?_
   refine lb1 (i:=3) (v:=.slice A'' nms.length c'') S17 rfl (by kernel_rfl) rfl rfl ?_
   refine wpList_nil ?_
   refine thenN ?_
   refine ⟨fun _=>trivial,?_⟩
   refine anyAll (rs:=[2]) (by kernel_rfl) (by decide) (allC ?_ allN)
   refine opL (i:=2) rfl ?_
   refine stoI (i:=8) (v:=.agg #[.slice A' out.length c']) (cs':=#[.slice A' out.length c']) S17 rfl (show SizeB Tryd.prog 24=some 1 by kernel_rfl) rfl rfl rfl rfl (Nat.le_of_ble_eq_true rfl) rfl ?_
   intro w18 S18
   refine wpList_nil ?_
   refine thenN ?_
   refine ⟨fun _=>trivial,?_⟩
   refine anyAll (rs:=[3]) (by kernel_rfl) (by decide) (allC ?_ allN)
   refine opL (i:=3) rfl ?_
   refine asg (v:=.slice A'' nms.length c'') rfl ?_
   refine wpList_nil ?_
   refine thenN ?_
   refine ⟨fun _=>trivial,?_⟩
   refine anyDone (by kernel_rfl) (QLn ?_)
   refine thenN ?_
   refine wpF_of (wp_ret ?_)
   exact hfin _ _ _ S18 rfl rfl (fun w' K' hs hr1 hr2 S'=>.inl ⟨_,rfl,.mk out,nms,K',[.slice A' out.length c'],A'',c'',rfl,rfl,S',RDProgram.intro hr1,hr2⟩)
  ·refine opL (i:=2) rfl ?_
   refine stoI (i:=8) (v:=.agg #[.slice A' out.length c']) (cs':=#[.slice A' out.length c']) S17 rfl (show SizeB Tryd.prog 24=some 1 by kernel_rfl) rfl rfl rfl rfl (Nat.le_of_ble_eq_true rfl) rfl ?_
   intro w18 S18
   refine wpList_nil ?_
   refine thenN ?_
   refine ⟨fun _=>trivial,?_⟩
   refine anyAll (rs:=[1]) (by kernel_rfl) (by decide) (allC ?_ allN)
   refine opL (i:=1) rfl ?_
   refine lb1 (i:=3) (v:=.slice A'' nms.length c'') S18 rfl (by kernel_rfl) rfl rfl ?_
   refine wpList_nil ?_
   refine thenN ?_
   refine ⟨fun _=>trivial,?_⟩
   refine anyAll (rs:=[3]) (by kernel_rfl) (by decide) (allC ?_ allN)
   refine opL (i:=3) rfl ?_
   refine asg (v:=.slice A'' nms.length c'') rfl ?_
   refine wpList_nil ?_
   refine thenN ?_
   refine ⟨fun _=>trivial,?_⟩
   refine anyDone (by kernel_rfl) (QLn ?_)
   refine thenN ?_
   refine wpF_of (wp_ret ?_)
   exact hfin _ _ _ S18 rfl rfl (fun w' K' hs hr1 hr2 S'=>.inl ⟨_,rfl,.mk out,nms,K',[.slice A' out.length c'],A'',c'',rfl,rfl,S',RDProgram.intro hr1,hr2⟩)
 ·refine opL (i:=1) rfl ?_
  refine lb1 (i:=3) (v:=.slice A'' nms.length c'') S17 rfl (by kernel_rfl) rfl rfl ?_
  refine wpList_nil ?_
  refine thenN ?_
  refine ⟨fun _=>trivial,?_⟩
  refine anyAll (rs:=[0]) (by kernel_rfl) (by decide) (allC ?_ allN)
  refine opL (i:=0) rfl ?_
  refine lbN (i:=4) (l:=[.slice A' out.length c']) S17 rfl (by kernel_rfl) (show SizeB Tryd.prog 24=some 1 by kernel_rfl) rfl rfl rfl ?_
  refine wpList_nil ?_
  refine thenN ?_
  refine ⟨fun _=>trivial,?_⟩
  refine anyAll (rs:=[2]) (by kernel_rfl) (by decide) (allC ?_ allN)
  refine opL (i:=2) rfl ?_
  refine stoI (i:=8) (v:=.agg #[.slice A' out.length c']) (cs':=#[.slice A' out.length c']) S17 rfl (show SizeB Tryd.prog 24=some 1 by kernel_rfl) rfl rfl rfl rfl (Nat.le_of_ble_eq_true rfl) rfl ?_
  intro w18 S18
  refine wpList_nil ?_
  refine thenN ?_
  refine ⟨fun _=>trivial,?_⟩
  refine anyAll (rs:=[3]) (by kernel_rfl) (by decide) (allC ?_ allN)
  refine opL (i:=3) rfl ?_
  refine asg (v:=.slice A'' nms.length c'') rfl ?_
  refine wpList_nil ?_
  refine thenN ?_
  refine ⟨fun _=>trivial,?_⟩
  refine anyDone (by kernel_rfl) (QLn ?_)
  refine thenN ?_
  refine wpF_of (wp_ret ?_)
  exact hfin _ _ _ S18 rfl rfl (fun w' K' hs hr1 hr2 S'=>.inl ⟨_,rfl,.mk out,nms,K',[.slice A' out.length c'],A'',c'',rfl,rfl,S',RDProgram.intro hr1,hr2⟩)
theorem f16_ok (k:Nat):f16_spec (f16 k):=f16_body k (f26_ok k) (f25_ok k) (f1002804_ok k) (f30_ok k)
theorem f1001504_b_ok (k:Nat):f1001504_spec (f1001504_b k):=by
 unfold f1001504_spec
 intro K wi g bs e f i gA bsA sA_0 AsA_0 csA_0 r_ h hG j hsA_0 d
 refine enter Tryd.func15 rfl (n:=7) rfl ?_
 unfold f1001504_b at h
 refine wp_region_lit (lN 0 ([sl f e i]) d Tya24 Tys24 ?_)
 obtain ⟨B,q,h⟩:=ob h
 refine cp ([.agg #[sl f e i]]) Tyb16 ((f16_ok k) _ _ _ _ _ q (hG.mono kr) (RDProgram.intro j) (pt d)) ?_ ?_
 ·rintro _ C ⟨⟨a⟩,l,r,D,m,o,rfl,rfl,p,s,G⟩
  have t:=ca p d
  obtain ⟨b,c,rfl,u⟩:=RDProgram.open s
  exact m1 (.tuple #[.agg #[sl b a c],sl m l o]) (ext (v:=.agg #[sl b a c]) rfl rfl (ext (v:=sl m l o) rfl rfl (sI 1 (.agg #[sl b a c]) #[sl b a c] t Tys24 rfl rfl (fun I w=>(wpList_nil (retP (end0 rfl ⟨e,a,r,f,i,b,c,(oi h).symm,rfl,w,(mf j p.sub),u⟩)))))))
 ·rintro _ J ⟨x,y,rfl,rfl,z⟩
  have A:=ca z d
  exact panE (.inr ⟨_,rfl,x,y,(oi h).symm,rfl,A.sel [0,1]⟩)
theorem f1001504_ok (k:Nat):f1001504_spec (f1001504 k):=f1001504_b_ok k
theorem f1001447_ok (k:Nat):f1001447_spec (f1001447 k):=by
 unfold f1001447_spec
 intro K w g bs s_0 As_0 cs_0 gA bsA sA_0 AsA_0 csA_0 oz_0 ozA_0 or0 h hG hs_0 hsA_0 S0
 unfold f1001447 at h
 obtain ⟨r_,hr_⟩ : ∃ r_,r_=f1001504 k (DProgram.mk s_0) (DProgram.mk sA_0):=⟨_,rfl⟩
 rcases r_ with _ | r_
 ·rw [← hr_] at h; cases h
 refine (guard_ok (R:=fun w K_ H_=>∃ (uz_0:List DFunc) (uzA_0:List DFunc) (uAz_0:Option Addr) (ucz_0:Nat) (uAzA_0:Option Addr) (uczA_0:Nat),r_=.ok ((DProgram.mk uz_0),(DProgram.mk uzA_0))∧H_=[.box bs g #[.slice uAz_0 uz_0.length ucz_0] 24,.box bsA gA #[.slice uAzA_0 uzA_0.length uczA_0] 24]∧tF K_ uAz_0 ucz_0 uz_0∧tF K_ uAzA_0 uczA_0 uzA_0) (R':=fun c_ K_ H_=>r_=.error c_∧H_=[.box bs g #[.slice As_0 s_0.length cs_0] 24,.box bsA gA #[.slice AsA_0 sA_0.length csA_0] 24]) Tyb15 S0 (fun w1 S1 hle=>((f1001504_ok k) hr_.symm hG hs_0 hsA_0 S1).mono ?_)).mono ?_
 ·rintro e_ w_ (⟨v_,rfl,uz_0,uzA_0,K_,uAz_0,ucz_0,uAzA_0,uczA_0,q1,q2,T_,k0,k1⟩ | ⟨v_,rfl,c_,K_,q1,q2,T_⟩)
  ·exact .inl ⟨v_,rfl,K_,_,T_,uz_0,uzA_0,uAz_0,ucz_0,uAzA_0,uczA_0,q1,rfl,k0,k1⟩
  ·exact .inr ⟨v_,rfl,c_,K_,_,q2,T_,q1,rfl⟩
 ·rintro e_ w_ ⟨v_,rfl,⟨w1,K_,H_,hle,rfl,T_,uz_0,uzA_0,uAz_0,ucz_0,uAzA_0,uczA_0,rfl,rfl,k0,k1⟩ | ⟨c_,K_,H_,rfl,T_,rfl,rfl⟩⟩
  ·rw [← hr_] at h
   cases h
   exact ⟨_,rfl,K_,uAz_0,ucz_0,uAzA_0,uczA_0,rfl,T_,k0,k1⟩
  ·rw [← hr_] at h
   cases h
   exact ⟨_,rfl,K_,_,_,_,_,rfl,T_,(hs_0.mono T_.sub (fun _ _ h=>RDFunc.mono T_.sub h)),(hsA_0.mono T_.sub (fun _ _ h=>RDFunc.mono T_.sub h))⟩
theorem f7_b_ok (k:Nat):f7_spec (f7_b k):=by
 unfold f7_spec
 intro K wi p A B C h hG q r
 obtain ⟨r_,hr_,h⟩:=rz h
 obtain ⟨f⟩:=p
 obtain ⟨g,c1,rfl,s⟩:=RDProgram.open q
 refine enter Tryd.func7 rfl (n:=8) rfl ?_
 unfold f7_b at h
 refine sr (bxoC (cs:=#[sl g f c1]) r rfl rfl (fun d t=>(aC #[nS] t Tyz24 (fun u v=>(m2 (iI 0) (wt (sr (mkf (us:=[]) (vs:=[pp (zz wi) 0,pp (zz d) 0]) rfl rfl ?_))))))))
 have j:=p10 v
 obtain ⟨⟨⟨D⟩,⟨a⟩,e⟩,w,h⟩:=ob h
 refine cv ([.func (.func 15) #[] #[pp (zz wi) 0,pp (zz d) 0]]) Tyb14 ((f1001447_ok k) w (hG.mono kr) s (RSl.nil _ _ _ _ _ _) (pt j)) ?_
 rintro _ G ⟨x,I,J,b,c,rfl,y,N,z⟩
 have m:=ca y j
 refine m2 (iI e) (wt (sr (lN 1 ([sl b a c]) m Tya24 Tys24 (m1 (iI e) (sI 1 (.agg #[sl b a c]) #[sl b a c] m Tys24 rfl rfl (fun O o=>(m2 (iI e) (wt (wp_ret ?_)))))))))
 cases (oi h).trans hr_
 exact retA2 rfl (resN (i:=1) (l:=[sl b a c]) o rfl Tya24 Tys24 rfl rfl rfl) (resT rfl) ⟨x,[sl b a c],rfl,(o.sel []),(RDProgram.intro z)⟩
theorem f7_ok (k:Nat):f7_spec (f7 k):=f7_b_ok k
theorem chk6_shape {q:DProgram} (h:chk6 q=true) : ∃ n ps r fl a o1 n1 sl1 f1 ix1 fg1 ar1 b c f2 ix2 fg2 ar2 bo2 ot2 la2 d ot1 la1 e f g f3 ix3 fg3 ar3 bo3 ot3 la3 i,
 q=.mk [.mk n ps r fl 3 [a,.mk o1 n1 sl1 f1 ix1 fg1 ar1 [.mk b c 1 f2 ix2 fg2 ar2 bo2 ot2 la2 d] ot1 la1 e,.mk f g 2 f3 ix3 fg3 ar3 bo3 ot3 la3 i]]:=by
 unfold chk6 at h
 split at h
 ·simp only [Bool.and_eq_true,beq_iff_eq] at h
  obtain ⟨⟨rfl,rfl⟩,rfl⟩:=h
  exact ⟨_,_,_,_,_,_,_,_,_,_,_,_,_,_,_,_,_,_,_,_,_,_,_,_,_,_,_,_,_,_,_,_,_,_,_,rfl⟩
 ·cases h
theorem sample_ok {K:KH} {wi:World} (q:Sx K K wi wi (fun b=>b ∈ Ents.blks []) []) :
 Calls Tryd.prog 13 #[] wi (Ret fun v w=>∃ bF bB bI bC bN k m,v=.agg #[.slice (some ⟨bF,0,none⟩) 1 1]∧SR K K wi w [] [.box (zz wi) bF #[.string ⟨#[109,97,105,110]⟩,nS,iI 0,vN,iI 0,.slice (some ⟨bB,0,none⟩) 3 3] 34,.box (zz wi) bB #[iI 1,.string ⟨#[120]⟩,iI 0,sE,iI 0,iI 0,.slice (some ⟨m,0,none⟩) 1 1,nS,nS,nS,nS,iI 20,sE,iI 0,sE,iI 0,iI 0,.slice (some ⟨bC,0,none⟩) 1 1,.slice (some ⟨bI,0,none⟩) 1 1,nS,nS,nS,iI 1,.string ⟨#[121]⟩,iI 0,sE,iI 0,iI 0,.slice (some ⟨k,0,none⟩) 1 1,nS,nS,nS,nS] 47,.box (zz wi) bI #[iI 1,.string ⟨#[121]⟩,iI 0,sE,iI 0,iI 0,.slice (some ⟨bN,0,none⟩) 1 1,nS,nS,nS,nS] 47,.box (zz wi) bC #[iI 2,iI 1,sE,iI 0,nS] 61,.box (zz wi) bN #[iI 4,iI 0,.string ⟨#[120]⟩,iI 0,nS] 61,.box (zz wi) k #[iI 1,iI 2,sE,iI 0,nS] 61,.box (zz wi) m #[iI 1,iI 1,sE,iI 0,nS] 61]):=by
 refine enter Tryd.func13 rfl (n:=24) rfl ?_
 refine wp_seq ?_
 refine wp_region_lit ?_
 refine alcC (z:=.agg #[nS]) (cs:=#[nS]) q (by kernel_rfl) rfl ?_
 intro c r
 refine wpList_nil ?_
 refine thenN ?_
 refine wp_seq ?_
 refine wp_region_lit ?_
 refine bld (cells:=#[iI 1,iI 1,sE,iI 0,nS]) (vs:=[(0,iI 1),(1,iI 1)]) rfl (fun w=>by kernel_rfl) ?_
 refine bsl (e:=61) (cells:=#[iI 1,iI 1,sE,iI 0,nS]) (vs:=[(0,.agg #[iI 1,iI 1,sE,iI 0,nS])]) r rfl (buildSl_one (show ElemB Tryd.prog 44=some 61 by kernel_rfl) (show SizeB Tryd.prog 61=some 5 by kernel_rfl) (show ZeroB Tryd.prog 61=some (.agg zE.toArray) by kernel_rfl) rfl (by decide) (by decide) rfl) ?_
 intro d s
 refine bld (cells:=#[iI 1,iI 2,sE,iI 0,nS]) (vs:=[(0,iI 1),(1,iI 2)]) rfl (fun w=>by kernel_rfl) ?_
 refine bsl (e:=61) (cells:=#[iI 1,iI 2,sE,iI 0,nS]) (vs:=[(0,.agg #[iI 1,iI 2,sE,iI 0,nS])]) s rfl (buildSl_one (show ElemB Tryd.prog 44=some 61 by kernel_rfl) (show SizeB Tryd.prog 61=some 5 by kernel_rfl) (show ZeroB Tryd.prog 61=some (.agg zE.toArray) by kernel_rfl) rfl (by decide) (by decide) rfl) ?_
 intro a t
 refine asg (v:=.slice (some ⟨(zz c),0,none⟩) 1 1) rfl ?_
 refine asg (v:=.slice (some ⟨(zz d),0,none⟩) 1 1) rfl ?_
 refine wpList_nil ?_
 refine thenN ?_
 refine wp_seq ?_
 refine wp_region_lit ?_
 refine bld (cells:=#[iI 4,iI 0,.string ⟨#[120]⟩,iI 0,nS]) (vs:=[(0,iI 4),(2,.string ⟨#[120]⟩)]) rfl (fun w=>by kernel_rfl) ?_
 refine bsl (e:=61) (cells:=#[iI 4,iI 0,.string ⟨#[120]⟩,iI 0,nS]) (vs:=[(0,.agg #[iI 4,iI 0,.string ⟨#[120]⟩,iI 0,nS])]) t rfl (buildSl_one (show ElemB Tryd.prog 44=some 61 by kernel_rfl) (show SizeB Tryd.prog 61=some 5 by kernel_rfl) (show ZeroB Tryd.prog 61=some (.agg zE.toArray) by kernel_rfl) rfl (by decide) (by decide) rfl) ?_
 intro D u
 refine bld (cells:=#[iI 1,.string ⟨#[121]⟩,iI 0,sE,iI 0,iI 0,.slice (some ⟨(zz a),0,none⟩) 1 1,nS,nS,nS,nS]) (vs:=[(0,iI 1),(1,.string ⟨#[121]⟩),(6,.slice (some ⟨(zz a),0,none⟩) 1 1)]) rfl (fun w=>by kernel_rfl) ?_
 refine alcC (z:=.agg zS.toArray) (cs:=zS.toArray) u (by kernel_rfl) rfl ?_
 intro G x
 refine stoI (i:=0) (v:=.agg #[iI 1,.string ⟨#[121]⟩,iI 0,sE,iI 0,iI 0,.slice (some ⟨(zz a),0,none⟩) 1 1,nS,nS,nS,nS]) (cs':=#[iI 1,.string ⟨#[121]⟩,iI 0,sE,iI 0,iI 0,.slice (some ⟨(zz a),0,none⟩) 1 1,nS,nS,nS,nS]) x rfl (show SizeB Tryd.prog 47=some 11 by kernel_rfl) rfl rfl rfl rfl (Nat.le_of_ble_eq_true rfl) rfl ?_
 intro g y
 refine wpList_nil ?_
 refine thenN ?_
 refine wp_seq ?_
 refine wp_region_lit ?_
 refine mv (v:=.slice (some ⟨(zz c),0,none⟩) 1 1) rfl ?_
 refine bld (cells:=#[iI 1,.string ⟨#[120]⟩,iI 0,sE,iI 0,iI 0,.slice (some ⟨(zz c),0,none⟩) 1 1,nS,nS,nS,nS]) (vs:=[(0,iI 1),(1,.string ⟨#[120]⟩),(6,.slice (some ⟨(zz c),0,none⟩) 1 1)]) rfl (fun w=>by kernel_rfl) ?_
 refine bld (cells:=#[iI 2,iI 1,sE,iI 0,nS]) (vs:=[(0,iI 2),(1,iI 1)]) rfl (fun w=>by kernel_rfl) ?_
 refine bsl (e:=61) (cells:=#[iI 2,iI 1,sE,iI 0,nS]) (vs:=[(0,.agg #[iI 2,iI 1,sE,iI 0,nS])]) y rfl (buildSl_one (show ElemB Tryd.prog 44=some 61 by kernel_rfl) (show SizeB Tryd.prog 61=some 5 by kernel_rfl) (show ZeroB Tryd.prog 61=some (.agg zE.toArray) by kernel_rfl) rfl (by decide) (by decide) rfl) ?_
 intro h o
 refine lbN (i:=1) (l:=[iI 1,.string ⟨#[121]⟩,iI 0,sE,iI 0,iI 0,.slice (some ⟨(zz a),0,none⟩) 1 1,nS,nS,nS,nS]) o rfl (by kernel_rfl) (show SizeB Tryd.prog 47=some 11 by kernel_rfl) rfl rfl rfl ?_
 refine bsl (e:=47) (cells:=#[iI 1,.string ⟨#[121]⟩,iI 0,sE,iI 0,iI 0,.slice (some ⟨(zz a),0,none⟩) 1 1,nS,nS,nS,nS]) (vs:=[(0,.agg #[iI 1,.string ⟨#[121]⟩,iI 0,sE,iI 0,iI 0,.slice (some ⟨(zz a),0,none⟩) 1 1,nS,nS,nS,nS])]) o rfl (buildSl_one (show ElemB Tryd.prog 32=some 47 by kernel_rfl) (show SizeB Tryd.prog 47=some 11 by kernel_rfl) (show ZeroB Tryd.prog 47=some (.agg zS.toArray) by kernel_rfl) rfl (by decide) (by decide) rfl) ?_
 intro j A
 refine bld (cells:=#[iI 20,sE,iI 0,sE,iI 0,iI 0,.slice (some ⟨(zz g),0,none⟩) 1 1,.slice (some ⟨(zz h),0,none⟩) 1 1,nS,nS,nS]) (vs:=[(0,iI 20),(6,.slice (some ⟨(zz g),0,none⟩) 1 1),(7,.slice (some ⟨(zz h),0,none⟩) 1 1)]) rfl (fun w=>by kernel_rfl) ?_
 refine mv (v:=.slice (some ⟨(zz d),0,none⟩) 1 1) rfl ?_
 refine bld (cells:=#[iI 1,.string ⟨#[121]⟩,iI 0,sE,iI 0,iI 0,.slice (some ⟨(zz d),0,none⟩) 1 1,nS,nS,nS,nS]) (vs:=[(0,iI 1),(1,.string ⟨#[121]⟩),(6,.slice (some ⟨(zz d),0,none⟩) 1 1)]) rfl (fun w=>by kernel_rfl) ?_
 refine bsl (e:=47) (cells:=#[iI 1,.string ⟨#[120]⟩,iI 0,sE,iI 0,iI 0,.slice (some ⟨(zz c),0,none⟩) 1 1,nS,nS,nS,nS,iI 20,sE,iI 0,sE,iI 0,iI 0,.slice (some ⟨(zz g),0,none⟩) 1 1,.slice (some ⟨(zz h),0,none⟩) 1 1,nS,nS,nS,iI 1,.string ⟨#[121]⟩,iI 0,sE,iI 0,iI 0,.slice (some ⟨(zz d),0,none⟩) 1 1,nS,nS,nS,nS]) (vs:=[(0,.agg #[iI 1,.string ⟨#[120]⟩,iI 0,sE,iI 0,iI 0,.slice (some ⟨(zz c),0,none⟩) 1 1,nS,nS,nS,nS]),(1,.agg #[iI 20,sE,iI 0,sE,iI 0,iI 0,.slice (some ⟨(zz g),0,none⟩) 1 1,.slice (some ⟨(zz h),0,none⟩) 1 1,nS,nS,nS]),(2,.agg #[iI 1,.string ⟨#[121]⟩,iI 0,sE,iI 0,iI 0,.slice (some ⟨(zz d),0,none⟩) 1 1,nS,nS,nS,nS])]) A rfl (fun w=>by kernel_rfl) ?_
 intro f B
 refine bld (cells:=#[.string ⟨#[109,97,105,110]⟩,nS,iI 0,vN,iI 0,.slice (some ⟨(zz j),0,none⟩) 3 3]) (vs:=[(0,.string ⟨#[109,97,105,110]⟩),(5,.slice (some ⟨(zz j),0,none⟩) 3 3)]) rfl (fun w=>by kernel_rfl) ?_
 refine bsl (e:=34) (cells:=#[.string ⟨#[109,97,105,110]⟩,nS,iI 0,vN,iI 0,.slice (some ⟨(zz j),0,none⟩) 3 3]) (vs:=[(0,.agg #[.string ⟨#[109,97,105,110]⟩,nS,iI 0,vN,iI 0,.slice (some ⟨(zz j),0,none⟩) 3 3])]) B rfl (buildSl_one (show ElemB Tryd.prog 22=some 34 by kernel_rfl) (show SizeB Tryd.prog 34=some 6 by kernel_rfl) (show ZeroB Tryd.prog 34=some (.agg zF.toArray) by kernel_rfl) rfl (by decide) (by decide) rfl) ?_
 intro I C
 refine bld (cells:=#[.slice (some ⟨(zz f),0,none⟩) 1 1]) (vs:=[(0,.slice (some ⟨(zz f),0,none⟩) 1 1)]) rfl (fun w=>by kernel_rfl) ?_
 refine stoI (i:=8) (v:=.agg #[.slice (some ⟨(zz f),0,none⟩) 1 1]) (cs':=#[.slice (some ⟨(zz f),0,none⟩) 1 1]) C rfl (show SizeB Tryd.prog 24=some 1 by kernel_rfl) rfl rfl rfl rfl (Nat.le_of_ble_eq_true rfl) rfl ?_
 intro J p
 refine wpList_nil ?_
 refine thenN ?_
 refine wp_ret ?_
 exact retA1 rfl (resN (i:=8) (l:=[.slice (some ⟨(zz f),0,none⟩) 1 1]) p rfl (by kernel_rfl) (show SizeB Tryd.prog 24=some 1 by kernel_rfl) rfl rfl rfl) ⟨(zz f),(zz j),(zz h),(zz g),(zz a),(zz d),(zz c),rfl,p.sel [0,1,2,3,5,6,7]⟩
theorem sample_shut' {base:Nat} {K0 K:KH} {wi w:World} {M:Nat→Prop} {H:Ents} {nm:ByteArray} {bF bB bI bC bN c d:Nat} (hn:nm.size ≤ mB) (hle:(zz wi) ≤ base) (g:Sx K0 K wi w M (.box base bF #[.string ⟨#[109,97,105,110]⟩,.slice none 0 0,.int .i64 0,.bool false,.int .i64 0,.slice (some ⟨bB,0,none⟩) 3 3] 34 :: .box base bB #[.int .i64 1,.string ⟨#[120]⟩,.int .i64 0,.string ⟨#[]⟩,.int .i64 0,.int .i64 0,.slice (some ⟨d,0,none⟩) 1 1,.slice none 0 0,.slice none 0 0,.slice none 0 0,.slice none 0 0,.int .i64 20,.string ⟨#[]⟩,.int .i64 0,.string ⟨#[]⟩,.int .i64 0,.int .i64 0,.slice (some ⟨bC,0,none⟩) 1 1,.slice (some ⟨bI,0,none⟩) 1 1,.slice none 0 0,.slice none 0 0,.slice none 0 0,.int .i64 1,.string ⟨#[121]⟩,.int .i64 0,.string ⟨#[]⟩,.int .i64 0,.int .i64 0,.slice (some ⟨c,0,none⟩) 1 1,.slice none 0 0,.slice none 0 0,.slice none 0 0,.slice none 0 0] 47 :: .box base bI #[.int .i64 1,.string nm,.int .i64 0,.string ⟨#[]⟩,.int .i64 0,.int .i64 0,.slice (some ⟨bN,0,none⟩) 1 1,.slice none 0 0,.slice none 0 0,.slice none 0 0,.slice none 0 0] 47 :: .box base bC #[.int .i64 2,.int .i64 1,.string ⟨#[]⟩,.int .i64 0,.slice none 0 0] 61 :: .box base bN #[.int .i64 4,.int .i64 0,.string ⟨#[120]⟩,.int .i64 0,.slice none 0 0] 61 :: .box base c #[.int .i64 1,.int .i64 2,.string ⟨#[]⟩,.int .i64 0,.slice none 0 0] 61 :: .box base d #[.int .i64 1,.int .i64 1,.string ⟨#[]⟩,.int .i64 0,.slice none 0 0] 61 :: H)) :
 ∃ K',Sx K0 K' wi w M H∧K.sub K'∧RDProgram K' (sampleP nm) [.slice (some ⟨bF,0,none⟩) 1 1]:=by
 obtain ⟨j,k,l,m⟩:=frzI (i:=6) (bytes:=64) (xs:=([(.mk 1 1 ⟨#[]⟩ 0 [])]:LE)) (R:=fun K=>(RDExpr K)) g rfl hle ⟨[iI 1,iI 1,sE,iI 0,nS],_,rfl,rfl,(RDExpr.intro (by decide) (RSl.nil _ _ _ _ _ _)),(reps0 (R:=(RDExpr K)) (size:=5))⟩ rfl (Nat.le_of_ble_eq_true rfl) (fun hs=>(fun _ _ h=>RDExpr.mono hs h))
 obtain ⟨n,o,f,p⟩:=frzI (i:=5) (bytes:=64) (xs:=([(.mk 1 2 ⟨#[]⟩ 0 [])]:LE)) (R:=fun K=>(RDExpr K)) k rfl hle ⟨[iI 1,iI 2,sE,iI 0,nS],_,rfl,rfl,(RDExpr.intro (by decide) (RSl.nil _ _ _ _ _ _)),(reps0 (R:=(RDExpr j)) (size:=5))⟩ rfl (Nat.le_of_ble_eq_true rfl) (fun hs=>(fun _ _ h=>RDExpr.mono hs h))
 obtain ⟨q,r,e,s⟩:=frzI (i:=4) (bytes:=64) (xs:=([(.mk 4 0 ⟨#[120]⟩ 0 [])]:LE)) (R:=fun K=>(RDExpr K)) o rfl hle ⟨[iI 4,iI 0,.string ⟨#[120]⟩,iI 0,nS],_,rfl,rfl,(RDExpr.intro (by decide) (RSl.nil _ _ _ _ _ _)),(reps0 (R:=(RDExpr n)) (size:=5))⟩ rfl (Nat.le_of_ble_eq_true rfl) (fun hs=>(fun _ _ h=>RDExpr.mono hs h))
 obtain ⟨t,u,a,v⟩:=frzI (i:=3) (bytes:=64) (xs:=([(.mk 2 1 ⟨#[]⟩ 0 [])]:LE)) (R:=fun K=>(RDExpr K)) r rfl hle ⟨[iI 2,iI 1,sE,iI 0,nS],_,rfl,rfl,(RDExpr.intro (by decide) (RSl.nil _ _ _ _ _ _)),(reps0 (R:=(RDExpr q)) (size:=5))⟩ rfl (Nat.le_of_ble_eq_true rfl) (fun hs=>(fun _ _ h=>RDExpr.mono hs h))
 obtain ⟨x,y,b,z⟩:=frzI (i:=2) (bytes:=184) (xs:=([(.mk 1 nm 0 ⟨#[]⟩ 0 0 [(.mk 4 0 ⟨#[120]⟩ 0 [])] [] [] [] [])]:LS)) (R:=fun K=>(RDStmt K)) u rfl hle ⟨[iI 1,.string nm,iI 0,sE,iI 0,iI 0,.slice (some ⟨bN,0,none⟩) 1 1,nS,nS,nS,nS],_,rfl,rfl,(RDStmt.intro hn (by decide) (me s a) (RSl.nil _ _ _ _ _ _) (RSl.nil _ _ _ _ _ _) (RSl.nil _ _ _ _ _ _) (RSl.nil _ _ _ _ _ _)),(reps0 (R:=(RDStmt t)) (size:=11))⟩ rfl (Nat.le_of_ble_eq_true rfl) (fun hs=>(fun _ _ h=>RDStmt.mono hs h))
 obtain ⟨A,B,C,D⟩:=frzI (i:=1) (bytes:=184) (xs:=([(.mk 1 ⟨#[120]⟩ 0 ⟨#[]⟩ 0 0 [(.mk 1 1 ⟨#[]⟩ 0 [])] [] [] [] []),(.mk 20 ⟨#[]⟩ 0 ⟨#[]⟩ 0 0 [(.mk 2 1 ⟨#[]⟩ 0 [])] [(.mk 1 nm 0 ⟨#[]⟩ 0 0 [(.mk 4 0 ⟨#[120]⟩ 0 [])] [] [] [] [])] [] [] []),(.mk 1 ⟨#[121]⟩ 0 ⟨#[]⟩ 0 0 [(.mk 1 2 ⟨#[]⟩ 0 [])] [] [] [] [])]:LS)) (R:=fun K=>(RDStmt K)) y rfl hle ⟨[iI 1,.string ⟨#[120]⟩,iI 0,sE,iI 0,iI 0,.slice (some ⟨d,0,none⟩) 1 1,nS,nS,nS,nS],_,rfl,rfl,(RDStmt.intro (by decide) (by decide) (me m (((f.trans e).trans a).trans b)) (RSl.nil _ _ _ _ _ _) (RSl.nil _ _ _ _ _ _) (RSl.nil _ _ _ _ _ _) (RSl.nil _ _ _ _ _ _)),⟨[iI 20,sE,iI 0,sE,iI 0,iI 0,.slice (some ⟨bC,0,none⟩) 1 1,.slice (some ⟨bI,0,none⟩) 1 1,nS,nS,nS],_,rfl,rfl,(RDStmt.intro (by decide) (by decide) (me v b) z (RSl.nil _ _ _ _ _ _) (RSl.nil _ _ _ _ _ _) (RSl.nil _ _ _ _ _ _)),⟨[iI 1,.string ⟨#[121]⟩,iI 0,sE,iI 0,iI 0,.slice (some ⟨c,0,none⟩) 1 1,nS,nS,nS,nS],_,rfl,rfl,(RDStmt.intro (by decide) (by decide) (me p ((e.trans a).trans b)) (RSl.nil _ _ _ _ _ _) (RSl.nil _ _ _ _ _ _) (RSl.nil _ _ _ _ _ _) (RSl.nil _ _ _ _ _ _)),(reps0 (R:=(RDStmt x)) (size:=11))⟩⟩⟩ rfl (Nat.le_of_ble_eq_true rfl) (fun hs=>(fun _ _ h=>RDStmt.mono hs h))
 obtain ⟨G,I,J,N⟩:=frzI (i:=0) (bytes:=88) (xs:=([.mk ⟨#[109,97,105,110]⟩ [] 0 false 0 [(.mk 1 ⟨#[120]⟩ 0 ⟨#[]⟩ 0 0 [(.mk 1 1 ⟨#[]⟩ 0 [])] [] [] [] []),(.mk 20 ⟨#[]⟩ 0 ⟨#[]⟩ 0 0 [(.mk 2 1 ⟨#[]⟩ 0 [])] [(.mk 1 nm 0 ⟨#[]⟩ 0 0 [(.mk 4 0 ⟨#[120]⟩ 0 [])] [] [] [] [])] [] [] []),(.mk 1 ⟨#[121]⟩ 0 ⟨#[]⟩ 0 0 [(.mk 1 2 ⟨#[]⟩ 0 [])] [] [] [] [])]]:LF)) (R:=fun K=>(RDFunc K)) B rfl hle ⟨[.string ⟨#[109,97,105,110]⟩,nS,iI 0,vN,iI 0,.slice (some ⟨bB,0,none⟩) 3 3],_,rfl,rfl,(RDFunc.intro (by decide) (RSl.nil _ _ _ _ _ _) D),(reps0 (R:=(RDFunc A)) (size:=6))⟩ rfl (Nat.le_of_ble_eq_true rfl) (fun hs=>(fun _ _ h=>RDFunc.mono hs h))
 exact ⟨G,I,(((((l.trans f).trans e).trans a).trans b).trans C).trans J,RDProgram.intro N⟩
theorem sample_shut {K0 K:KH} {wi w:World} {M:Nat→Prop} {H:Ents} {nm:ByteArray} {bF bB bI bC bN a b:Nat} (hn:nm.size ≤ mB) (c:Sx K0 K wi w M (.box (zz wi) bF #[.string ⟨#[109,97,105,110]⟩,.slice none 0 0,.int .i64 0,.bool false,.int .i64 0,.slice (some ⟨bB,0,none⟩) 3 3] 34 :: .box (zz wi) bB #[.int .i64 1,.string ⟨#[120]⟩,.int .i64 0,.string ⟨#[]⟩,.int .i64 0,.int .i64 0,.slice (some ⟨b,0,none⟩) 1 1,.slice none 0 0,.slice none 0 0,.slice none 0 0,.slice none 0 0,.int .i64 20,.string ⟨#[]⟩,.int .i64 0,.string ⟨#[]⟩,.int .i64 0,.int .i64 0,.slice (some ⟨bC,0,none⟩) 1 1,.slice (some ⟨bI,0,none⟩) 1 1,.slice none 0 0,.slice none 0 0,.slice none 0 0,.int .i64 1,.string ⟨#[121]⟩,.int .i64 0,.string ⟨#[]⟩,.int .i64 0,.int .i64 0,.slice (some ⟨a,0,none⟩) 1 1,.slice none 0 0,.slice none 0 0,.slice none 0 0,.slice none 0 0] 47 :: .box (zz wi) bI #[.int .i64 1,.string nm,.int .i64 0,.string ⟨#[]⟩,.int .i64 0,.int .i64 0,.slice (some ⟨bN,0,none⟩) 1 1,.slice none 0 0,.slice none 0 0,.slice none 0 0,.slice none 0 0] 47 :: .box (zz wi) bC #[.int .i64 2,.int .i64 1,.string ⟨#[]⟩,.int .i64 0,.slice none 0 0] 61 :: .box (zz wi) bN #[.int .i64 4,.int .i64 0,.string ⟨#[120]⟩,.int .i64 0,.slice none 0 0] 61 :: .box (zz wi) a #[.int .i64 1,.int .i64 2,.string ⟨#[]⟩,.int .i64 0,.slice none 0 0] 61 :: .box (zz wi) b #[.int .i64 1,.int .i64 1,.string ⟨#[]⟩,.int .i64 0,.slice none 0 0] 61 :: H)) :
 ∃ K',Sx K0 K' wi w M H∧K.sub K'∧RDProgram K' (sampleP nm) [.slice (some ⟨bF,0,none⟩) 1 1]:=sample_shut' hn (Nat.le_refl _) c
theorem f6_body (k:Nat) (h15:f7_spec (f7 k)):f6_spec (f6 k):=by
 unfold f6_spec
 intro K wi ad h hG y
 unfold f6 at h
 obtain ⟨⟨q,e⟩,B,h⟩:=ob h
 obtain ⟨⟨q',e'⟩,C,h⟩:=ob h
 dsimp only at h
 rcases hc:(chk6 q && e == 0 && e' == 21) with _ | _
 ·rw [hc] at h; cases h
 rw [hc] at h
 obtain rfl:=Option.some.inj h
 simp only [Bool.and_eq_true,beq_iff_eq] at hc
 obtain ⟨⟨hc,rfl⟩,rfl⟩:=hc
 obtain ⟨n,ps,r,fl,a,o1,n1,sl1,f1,ix1,fg1,ar1,ae,af,f2,ix2,fg2,ar2,bo2,ot2,la2,ag,ot1,la1,ah,ai,aj,f3,ix3,fg3,ar3,bo3,ot3,la3,ak,rfl⟩:=chk6_shape hc
 refine enter Tryd.func6 rfl (n:=99) rfl ?_
 refine wp_seq ?_
 refine wp_region_lit ?_
 refine asg (v:=vN) rfl ?_
 refine wpList_nil ?_
 refine thenN ?_
 refine wp_seq ?_
 refine wp_region_lit ?_
 refine clV (caps:=#[]) (vs:=[]) rfl (by kernel_rfl) rfl (sample_ok (y.part [] (List.nil_sublist _))) ?_
 rintro _ al ⟨bF,bB,bI,bC,bN,am,an,rfl,D⟩
 obtain ⟨ao,o,p,hp⟩:=sample_shut (by decide) D
 refine clV (caps:=#[]) (vs:=[.agg #[.slice (some ⟨bF,0,none⟩) 1 1]]) rfl (by kernel_rfl) rfl (h15 B (hG.mono p) hp (o.part [] (List.nil_sublist _))) ?_
 rintro _ G ⟨ap,csq,rfl,t,hq⟩
 have I:=Sx.call (H1:=[]) o t
 obtain ⟨A,c,rfl,hrow⟩:=RDProgram.open hq
 refine mv (v:=.tuple #[.agg #[.slice A 1 c],iI 0]) rfl ?_
 refine ext (v:=.agg #[.slice A 1 c]) rfl rfl ?_
 refine ext (v:=iI 0) rfl rfl ?_
 refine alcC (z:=.agg #[nS]) (cs:=#[nS]) I (by kernel_rfl) rfl ?_
 intro aq J
 refine stoI (i:=0) (v:=.agg #[.slice A 1 c]) (cs':=#[.slice A 1 c]) J rfl (show SizeB Tryd.prog 24=some 1 by kernel_rfl) rfl rfl rfl rfl (Nat.le_of_ble_eq_true rfl) rfl ?_
 intro ar g
 refine asg (v:=iI 0) rfl ?_
 refine wpList_nil ?_
 refine thenN ?_
 obtain ⟨bf,of,csf,rfl,hlf,hCf,hRf⟩:=hrow.row.at_ (i:=0) rfl
 obtain ⟨au,c1,av,j,rfl,aw,hf1,hf2⟩:=RDFunc.open hRf
 obtain ⟨bb,ob,csb,rfl,hlb,hCb,hRb⟩:=hf2.row.at_ (i:=1) rfl
 obtain ⟨_,_,ax,u,_,_,_,_,_,_,rfl,_,_,_,N,_,_,_⟩:=RDStmt.open hRb
 obtain ⟨bb',ob',csb',hbe,hlb',hCb',hRb'⟩:=hf2.row.at_ (i:=2) rfl
 obtain ⟨rfl,rfl⟩:bb=bb'∧ob=ob':=by injection hbe with h; injection h with h1 h2; exact ⟨h1,h2⟩
 obtain ⟨_,_,_,_,_,_,_,_,_,_,rfl,_⟩:=RDStmt.open hRb'
 obtain ⟨bi,oi,csi,rfl,hli,hCi,hRi⟩:=N.row.at_ (i:=0) rfl
 obtain ⟨_,_,_,_,_,_,_,_,_,_,rfl,_⟩:=RDStmt.open hRi
 refine wp_seq ?_
 refine wp_seq ?_
 refine wp_region_lit ?_
 refine mv (v:=iI 0) rfl ?_
 refine bcm (r:=false) rfl rfl rfl ?_
 refine mv (v:=vN) rfl ?_
 refine st_on (d:=13) rfl rfl ?_
 refine fld (s:=24) (f:=0) (off:=0) (o':=0) (by kernel_rfl) rfl rfl ?_
 refine st_on (d:=13) rfl rfl ?_
 refine lb1 (i:=0) (v:=.slice (some ⟨bf,of,none⟩) 1 c) g rfl (by kernel_rfl) rfl rfl ?_
 refine st_on (d:=13) rfl rfl ?_
 refine lnS (len:=1) (e:=34) (by kernel_rfl) rfl ?_
 refine st_on (d:=13) rfl rfl ?_
 refine bcm (r:=false) rfl rfl rfl ?_
 refine pick (b:=false) (v:=vN) rfl rfl ?_
 refine mv (v:=vN) rfl ?_
 refine st_on (d:=19) rfl rfl ?_
 refine fld (s:=24) (f:=0) (off:=0) (o':=0) (by kernel_rfl) rfl rfl ?_
 refine st_on (d:=19) rfl rfl ?_
 refine lb1 (i:=0) (v:=.slice (some ⟨bf,of,none⟩) 1 c) g rfl (by kernel_rfl) rfl rfl ?_
 refine st_on (d:=19) rfl rfl ?_
 refine idx (s:=22) (e:=34) (size:=6) (i:=0) (by kernel_rfl) (by kernel_rfl) rfl rfl (by decide) (by decide) ?_
 refine st_on (d:=19) rfl rfl ?_
 refine fld (s:=34) (f:=5) (off:=5) (o':=of + (0:Int).toNat * 6 + 5) (by kernel_rfl) rfl rfl ?_
 refine st_on (d:=19) rfl rfl ?_
 refine ld1 (v:=.slice (some ⟨bb,ob,none⟩) 3 j) (by kernel_rfl) rfl (g.cell (hCf 5 _ rfl)) ?_
 refine st_on (d:=19) rfl rfl ?_
 refine lnS (len:=3) (e:=47) (by kernel_rfl) rfl ?_
 refine st_on (d:=19) rfl rfl ?_
 refine bcm (r:=false) rfl rfl rfl ?_
 refine pick (b:=false) (v:=vN) rfl rfl ?_
 refine mv (v:=vN) rfl ?_
 refine st_on (d:=28) rfl rfl ?_
 refine fld (s:=24) (f:=0) (off:=0) (o':=0) (by kernel_rfl) rfl rfl ?_
 refine st_on (d:=28) rfl rfl ?_
 refine lb1 (i:=0) (v:=.slice (some ⟨bf,of,none⟩) 1 c) g rfl (by kernel_rfl) rfl rfl ?_
 refine st_on (d:=28) rfl rfl ?_
 refine idx (s:=22) (e:=34) (size:=6) (i:=0) (by kernel_rfl) (by kernel_rfl) rfl rfl (by decide) (by decide) ?_
 refine st_on (d:=28) rfl rfl ?_
 refine fld (s:=34) (f:=4) (off:=4) (o':=of + (0:Int).toNat * 6 + 4) (by kernel_rfl) rfl rfl ?_
 refine st_on (d:=28) rfl rfl ?_
 refine ld1 (v:=iI 3) (by kernel_rfl) rfl (g.cell (hCf 4 _ rfl)) ?_
 refine st_on (d:=28) rfl rfl ?_
 refine bcm (r:=false) rfl rfl rfl ?_
 refine pick (b:=false) (v:=vN) rfl rfl ?_
 refine mv (v:=vN) rfl ?_
 refine st_on (d:=36) rfl rfl ?_
 refine fld (s:=24) (f:=0) (off:=0) (o':=0) (by kernel_rfl) rfl rfl ?_
 refine st_on (d:=36) rfl rfl ?_
 refine lb1 (i:=0) (v:=.slice (some ⟨bf,of,none⟩) 1 c) g rfl (by kernel_rfl) rfl rfl ?_
 refine st_on (d:=36) rfl rfl ?_
 refine idx (s:=22) (e:=34) (size:=6) (i:=0) (by kernel_rfl) (by kernel_rfl) rfl rfl (by decide) (by decide) ?_
 refine st_on (d:=36) rfl rfl ?_
 refine fld (s:=34) (f:=5) (off:=5) (o':=of + (0:Int).toNat * 6 + 5) (by kernel_rfl) rfl rfl ?_
 refine st_on (d:=36) rfl rfl ?_
 refine ld1 (v:=.slice (some ⟨bb,ob,none⟩) 3 j) (by kernel_rfl) rfl (g.cell (hCf 5 _ rfl)) ?_
 refine st_on (d:=36) rfl rfl ?_
 refine idx (s:=32) (e:=47) (size:=11) (i:=2) (by kernel_rfl) (by kernel_rfl) rfl rfl (by decide) (by decide) ?_
 refine st_on (d:=36) rfl rfl ?_
 refine fld (s:=47) (f:=2) (off:=2) (o':=ob + (2:Int).toNat * 11 + 2) (by kernel_rfl) rfl rfl ?_
 refine st_on (d:=36) rfl rfl ?_
 refine ld1 (v:=iI 2) (by kernel_rfl) rfl (g.cell (hCb' 2 _ rfl)) ?_
 refine st_on (d:=36) rfl rfl ?_
 refine bcm (r:=false) rfl rfl rfl ?_
 refine pick (b:=false) (v:=vN) rfl rfl ?_
 refine mv (v:=vN) rfl ?_
 refine st_on (d:=47) rfl rfl ?_
 refine fld (s:=24) (f:=0) (off:=0) (o':=0) (by kernel_rfl) rfl rfl ?_
 refine st_on (d:=47) rfl rfl ?_
 refine lb1 (i:=0) (v:=.slice (some ⟨bf,of,none⟩) 1 c) g rfl (by kernel_rfl) rfl rfl ?_
 refine st_on (d:=47) rfl rfl ?_
 refine idx (s:=22) (e:=34) (size:=6) (i:=0) (by kernel_rfl) (by kernel_rfl) rfl rfl (by decide) (by decide) ?_
 refine st_on (d:=47) rfl rfl ?_
 refine fld (s:=34) (f:=5) (off:=5) (o':=of + (0:Int).toNat * 6 + 5) (by kernel_rfl) rfl rfl ?_
 refine st_on (d:=47) rfl rfl ?_
 refine ld1 (v:=.slice (some ⟨bb,ob,none⟩) 3 j) (by kernel_rfl) rfl (g.cell (hCf 5 _ rfl)) ?_
 refine st_on (d:=47) rfl rfl ?_
 refine idx (s:=32) (e:=47) (size:=11) (i:=1) (by kernel_rfl) (by kernel_rfl) rfl rfl (by decide) (by decide) ?_
 refine st_on (d:=47) rfl rfl ?_
 refine fld (s:=47) (f:=7) (off:=7) (o':=ob + (1:Int).toNat * 11 + 7) (by kernel_rfl) rfl rfl ?_
 refine st_on (d:=47) rfl rfl ?_
 refine ld1 (v:=.slice (some ⟨bi,oi,none⟩) 1 u) (by kernel_rfl) rfl (g.cell (hCb 7 _ rfl)) ?_
 refine st_on (d:=47) rfl rfl ?_
 refine lnS (len:=1) (e:=47) (by kernel_rfl) rfl ?_
 refine st_on (d:=47) rfl rfl ?_
 refine bcm (r:=false) rfl rfl rfl ?_
 refine pick (b:=false) (v:=vN) rfl rfl ?_
 refine mv (v:=vN) rfl ?_
 refine st_on (d:=59) rfl rfl ?_
 refine fld (s:=24) (f:=0) (off:=0) (o':=0) (by kernel_rfl) rfl rfl ?_
 refine st_on (d:=59) rfl rfl ?_
 refine lb1 (i:=0) (v:=.slice (some ⟨bf,of,none⟩) 1 c) g rfl (by kernel_rfl) rfl rfl ?_
 refine st_on (d:=59) rfl rfl ?_
 refine idx (s:=22) (e:=34) (size:=6) (i:=0) (by kernel_rfl) (by kernel_rfl) rfl rfl (by decide) (by decide) ?_
 refine st_on (d:=59) rfl rfl ?_
 refine fld (s:=34) (f:=5) (off:=5) (o':=of + (0:Int).toNat * 6 + 5) (by kernel_rfl) rfl rfl ?_
 refine st_on (d:=59) rfl rfl ?_
 refine ld1 (v:=.slice (some ⟨bb,ob,none⟩) 3 j) (by kernel_rfl) rfl (g.cell (hCf 5 _ rfl)) ?_
 refine st_on (d:=59) rfl rfl ?_
 refine idx (s:=32) (e:=47) (size:=11) (i:=1) (by kernel_rfl) (by kernel_rfl) rfl rfl (by decide) (by decide) ?_
 refine st_on (d:=59) rfl rfl ?_
 refine fld (s:=47) (f:=7) (off:=7) (o':=ob + (1:Int).toNat * 11 + 7) (by kernel_rfl) rfl rfl ?_
 refine st_on (d:=59) rfl rfl ?_
 refine ld1 (v:=.slice (some ⟨bi,oi,none⟩) 1 u) (by kernel_rfl) rfl (g.cell (hCb 7 _ rfl)) ?_
 refine st_on (d:=59) rfl rfl ?_
 refine idx (s:=32) (e:=47) (size:=11) (i:=0) (by kernel_rfl) (by kernel_rfl) rfl rfl (by decide) (by decide) ?_
 refine st_on (d:=59) rfl rfl ?_
 refine fld (s:=47) (f:=2) (off:=2) (o':=oi + (0:Int).toNat * 11 + 2) (by kernel_rfl) rfl rfl ?_
 refine st_on (d:=59) rfl rfl ?_
 refine ld1 (v:=iI 1) (by kernel_rfl) rfl (g.cell (hCi 2 _ rfl)) ?_
 refine st_on (d:=59) rfl rfl ?_
 refine bcm (r:=false) rfl rfl rfl ?_
 refine pick (b:=false) (v:=vN) rfl rfl ?_
 refine wpList_nil ?_
 refine thenN ?_
 refine cndF rfl ?_
 refine wp_skip ?_
 refine thenN ?_
 refine wp_seq ?_
 refine wp_region_lit ?_
 refine clV (caps:=#[]) (vs:=[]) rfl (by kernel_rfl) rfl (sample_ok (g.part [] (List.nil_sublist _))) ?_
 rintro _ O ⟨cF,cB,cI,cC,cN,d2,d1,rfl,S⟩
 have U:=Sx.call (H1:=[]) g S
 refine alcC (z:=.agg #[nS]) (cs:=#[nS]) U (by kernel_rfl) rfl ?_
 intro ay V
 refine stoI (i:=0) (v:=.agg #[.slice (some ⟨cF,0,none⟩) 1 1]) (cs':=#[.slice (some ⟨cF,0,none⟩) 1 1]) V rfl (show SizeB Tryd.prog 24=some 1 by kernel_rfl) rfl rfl rfl rfl (Nat.le_of_ble_eq_true rfl) rfl ?_
 intro az m
 refine wpList_nil ?_
 refine thenN ?_
 refine wp_seq ?_
 refine wp_region_lit ?_
 refine fld (s:=24) (f:=0) (off:=0) (o':=0) (by kernel_rfl) rfl rfl ?_
 refine lb1 (i:=0) (v:=.slice (some ⟨cF,0,none⟩) 1 1) m rfl (by kernel_rfl) rfl rfl ?_
 refine idx (s:=22) (e:=34) (size:=6) (i:=0) (by kernel_rfl) (by kernel_rfl) rfl rfl (by decide) (by decide) ?_
 refine fld (s:=34) (f:=5) (off:=5) (o':=5) (by kernel_rfl) rfl rfl ?_
 refine lb1 (i:=1) (v:=.slice (some ⟨cB,0,none⟩) 3 3) m rfl (by kernel_rfl) rfl rfl ?_
 refine idx (s:=32) (e:=47) (size:=11) (i:=1) (by kernel_rfl) (by kernel_rfl) rfl rfl (by decide) (by decide) ?_
 refine fld (s:=47) (f:=7) (off:=7) (o':=18) (by kernel_rfl) rfl rfl ?_
 refine lb1 (i:=2) (v:=.slice (some ⟨cI,0,none⟩) 1 1) m rfl (by kernel_rfl) rfl rfl ?_
 refine idx (s:=32) (e:=47) (size:=11) (i:=0) (by kernel_rfl) (by kernel_rfl) rfl rfl (by decide) (by decide) ?_
 refine fld (s:=47) (f:=1) (off:=1) (o':=1) (by kernel_rfl) rfl rfl ?_
 refine stoI (i:=3) (v:=.string ⟨#[120]⟩) (cs':=#[iI 1,.string ⟨#[120]⟩,iI 0,sE,iI 0,iI 0,.slice (some ⟨cN,0,none⟩) 1 1,nS,nS,nS,nS]) m rfl (show SizeB Tryd.prog 9=some 1 by kernel_rfl) rfl rfl rfl rfl (Nat.le_of_ble_eq_true rfl) rfl ?_
 intro aA w
 refine wpList_nil ?_
 refine thenN ?_
 refine wp_seq ?_
 refine wp_region_lit ?_
 refine lbN (i:=0) (l:=[.slice (some ⟨cF,0,none⟩) 1 1]) w rfl (by kernel_rfl) (show SizeB Tryd.prog 24=some 1 by kernel_rfl) rfl rfl rfl ?_
 obtain ⟨aB,x,W,hp10⟩:=sample_shut' (H:=[.box (zz wi) (zz O) #[.slice (some ⟨cF,0,none⟩) 1 1] 24,.box (zz wi) (zz G) #[.slice (some ⟨bf,of,none⟩) 1 c] 24]) (by decide) g.size (w.sel [1,2,3,4,5,6,7,0,8])
 refine clV (caps:=#[]) (vs:=[.agg #[.slice (some ⟨cF,0,none⟩) 1 1]]) rfl (by kernel_rfl) rfl (h15 C (hG.mono ((p.trans t.sub).trans W)) hp10 (x.part [] (List.nil_sublist _))) ?_
 rintro _ aE ⟨X,csq',rfl,Y,hq'⟩
 have Z:=Sx.call (H1:=[]) x Y
 obtain ⟨fq⟩:=q'
 obtain ⟨A',c',rfl,hrow'⟩:=RDProgram.open hq'
 refine mv (v:=.tuple #[.agg #[sl A' fq c'],iI 21]) rfl ?_
 refine ext (v:=.agg #[sl A' fq c']) rfl rfl ?_
 refine ext (v:=iI 21) rfl rfl ?_
 refine alcC (z:=.agg #[nS]) (cs:=#[nS]) Z (by kernel_rfl) rfl ?_
 intro aF ab
 refine stoI (i:=0) (v:=.agg #[sl A' fq c']) (cs':=#[sl A' fq c']) ab rfl (show SizeB Tryd.prog 24=some 1 by kernel_rfl) rfl rfl rfl rfl (Nat.le_of_ble_eq_true rfl) rfl ?_
 intro aG ac
 refine asg (v:=iI 21) rfl ?_
 refine wpList_nil ?_
 refine thenN ?_
 refine wp_seq ?_
 refine wp_seq ?_
 refine wp_region_lit ?_
 refine mv (v:=iI 21) rfl ?_
 refine bcm (r:=false) rfl rfl rfl ?_
 refine mv (v:=vN) rfl ?_
 refine pick (b:=false) (v:=vN) rfl rfl ?_
 refine mv (v:=vN) rfl ?_
 refine pick (b:=false) (v:=vN) rfl rfl ?_
 refine mv (v:=vN) rfl ?_
 refine pick (b:=false) (v:=vN) rfl rfl ?_
 refine mv (v:=vN) rfl ?_
 refine pick (b:=false) (v:=vN) rfl rfl ?_
 refine wpList_nil ?_
 refine thenN ?_
 refine cndF rfl ?_
 refine wp_skip ?_
 refine thenN ?_
 refine wp_seq ?_
 refine wp_region_lit ?_
 refine asg (v:=vT) rfl ?_
 refine wpList_nil ?_
 refine thenN ?_
 refine wp_ret ?_
 exact retA1 rfl (resT rfl) ⟨X,rfl,ac.sel []⟩
theorem f6_ok (k:Nat):f6_spec (f6 k):=f6_body k (f7_ok k)
theorem f51_b_ok (k:Nat):f51_spec (f51_b k):=by
 unfold f51_spec
 intro K wi a o p h hG b c
 obtain ⟨r_,hr_,h⟩:=rz h
 obtain ⟨d,e,f,g,i⟩:=a
 obtain ⟨j,l,rfl,q,r⟩:=RDExpr.open b
 refine enter Tryd.func51 rfl (n:=3) rfl ?_
 unfold f51_b at h
 refine sr (bxoC (cs:=(vE d e f g j i l).toArray) c rfl rfl (fun s m=>(m2 (iI 0) (wt (sr (m2 (iI 0) (wt (wp_ret ?_))))))))
 cases (oi h).trans hr_
 exact retA1 rfl (resT rfl) ⟨K,rfl,(m.sel [])⟩
theorem f51_ok (k:Nat):f51_spec (f51 k):=f51_b_ok k
theorem f1005331_b_ok (k:Nat) (F:Fam1005331) (IH1005331:f1005331_spec F.f1005331) (IH1005931:f1005931_spec F.f1005931):f1005331_spec (f1005331_b k F):=by
 unfold f1005331_spec
 intro K wi f Z ab aK h hG ac ak
 obtain ⟨r_,hr_,h⟩:=rz h
 refine enter Tryd.func53 rfl (n:=22) rfl ?_
 unfold f1005331_b at h
 refine sr (m2 nS (wt (sr (m2 nS (wt (wp_seq (sr (m1 (sl Z f ab) (lS f.length Tye44 (m1 (iI 0) (wt (wp_block ?_))))))))))))
 have al:=ak.row_ (zz wi) 61 5
 refine wp_loopG (fun g_ a w=>∃ ad J g,∃ (d:Nat),∃ c l m O,g_=g.length∧a=fr 22 (updL ad [(1,.func (.func 51) #[] #[]),(5,sl l c m),(8,sl Z f ab),(9,iI (f.length:Int)),(10,iI (d:Int))])∧KH.sub K J∧SR K J wi w [] [.row (zz wi) (sl l c m) 61 5 c.length O]∧f.drop d=g∧Reps (RDExpr J) 5 c O∧c.length * 64 ≤ mB∧f1005331_l1 k F g d c=some r_) f.length ?_ ?_
 ·exact ⟨_,K,f,0,([]:LE),none,0,[],rfl,fR,kr,al,List.drop_zero,(reps0 (R:=(RDExpr K)) (size:=5)),(by simp),h⟩
 ·rintro _ _ am ⟨ad,J,g,d,c,l,m,O,rfl,rfl,N,S,y,ae,an,h⟩
  rcases g with _ | ⟨⟨z,A,B,C,D⟩,g⟩
  ·unfold f1005331_l1 at h
   refine sr (bcm (r:=false) rfl rfl (congrArg some (drop_nil_lt y)) (wt (wp_seq (cndF rfl (wp_exit (thenX (thenX (blkX (thenN (sr (m1 (sl l c m) (m2 (sl l c m) (wt (wp_ret ?_))))))))))))))
   obtain ⟨ao,ap,aL,aq⟩:=shutI (i:=0) (bytes:=64) (R:=fun K=>(RDExpr K)) S rfl (Nat.le_refl _) ae an (fun hs=>(fun _ _ h=>RDExpr.mono hs h))
   cases (oi h).trans hr_
   exact retA1 rfl (resT rfl) ⟨ao,l,m,rfl,ap,aq⟩
  ·unfold f1005331_l1 at h
   refine sr (bcm (r:=true) rfl rfl (congrArg some (drop_cons_t y)) (wt (wp_seq (cndT rfl (wp_skip (thenN (wp_seq (wp_block (sr ?_)))))))))
   obtain ⟨ar,au,aM,av,aN,aw,ax⟩:=((me ac N)).row.at_ (drop_cons_at y)
   obtain ⟨G,I,rfl,ay,az⟩:=RDExpr.open ax
   refine idxN (b:=ar) (o:=au) (i:=d) Tye44 Tys61 rfl av rfl (drop_cons_lt y) (lD (vE z A B C G D I) Tya61 Tys61 rfl (fun j v hj=>S.cell (kr.cell (aw j v hj))) (aC zE.toArray S Tyz61 (fun aP aA=>(sI 0 (.agg (vE z A B C G D I).toArray) ((vE z A B C G D I).toArray) aA Tys61 rfl rfl (fun aQ U=>(wt (wp_region_lit (m1 (sl l c m) (lN 0 (vE z A B C G D I) U Tya61 Tys61 (m1 (.func (.func 51) #[] #[]) ?_))))))))))
   obtain ⟨⟨q,s,t,u,x⟩,aB,h⟩:=ob h
   refine cv ([.agg (vE z A B C G D I).toArray,.func (.func 51) #[] #[]]) Tyb59 (IH1005931 aB (hG.mono N) (RDExpr.intro ay az) (pt U)) ?_
   rintro _ aR ⟨V,aS,rfl,W,af⟩
   have aE:=ca W U
   obtain ⟨ag,ah,rfl,aT,aU⟩:=RDExpr.open af
   refine bsl (e:=61) (cells:=(vE q s t u ag x ah).toArray) (vs:=[(0,.agg (vE q s t u ag x ah).toArray)]) aE rfl (buildSl_one Tye44 Tys61 Tyz61 rfl (by decide) (by decide) rfl) (fun aV aF=>?_)
   obtain ⟨ai,h⟩:=of_guard h
   refine apR (R:=(RDExpr V)) (p:=(DExpr.mk q s t u x)) (i:=2) (j:=0) aF rfl rfl Tye44 Tyi61 rfl (by decide) rfl rfl (ae.mono (fun _ _ h=>RDExpr.mono W.sub h)) af rfl rfl (Nat.le_refl _) ai (by decide) (fun X Y aj aG aH aI=>?_)
   have aJ:=p12 aH
   exact m2 (.slice X (c ++ [(DExpr.mk q s t u x)]).length Y) (wpList_nil (blkN (thenN (wp_region_lit (bar (r:=((d + 1:Nat):Int)) rfl rfl (inc_ok (le_big (((me ac N)).len) (by decide) (drop_cons_lt y))) (m1 (iI ((d + 1:Nat):Int)) (wt (⟨_,Nat.lt_succ_self _,_,V,g,d + 1,(c ++ [(DExpr.mk q s t u x)]),X,Y,aj,rfl,fR,(N.trans W.sub),(aJ.sel [1]),drop_cons_next y,aI,(app_bound ai),h⟩))))))))
theorem f1005931_b_ok (k:Nat) (F:Fam1005331) (IH1005331:f1005331_spec F.f1005331) (IH1005931:f1005931_spec F.f1005931):f1005931_spec (f1005931_b k F):=by
 unfold f1005931_spec
 intro K wi z V W h hG A B
 obtain ⟨r_,hr_,h⟩:=rz h
 obtain ⟨a,b,c,j,m⟩:=z
 obtain ⟨o,p,rfl,s,C⟩:=RDExpr.open A
 refine enter Tryd.func59 rfl (n:=15) rfl ?_
 unfold f1005931_b at h
 refine sr (bxoC (cs:=(vE a b c j o m p).toArray) B rfl rfl (fun D G=>(aC zE.toArray G Tyz61 (fun X q=>(wt (sr (fd 4 Tyf61_4 rfl (l1 1 (sl o m p) q Tya44 (m1 (.func (.func 51) #[] #[]) ?_)))))))))
 obtain ⟨d,I,h⟩:=ob h
 refine cv ([sl o m p,.func (.func 51) #[] #[]]) Tyb53 (IH1005331 I (hG.mono kr) C (pt q)) ?_
 rintro _ Y ⟨Z,e,f,rfl,t,u⟩
 have J:=ca t q
 refine fd 4 Tyf61_4 rfl (sI 1 (sl e d f) ((vE a b c j e d f).toArray) J Tys44 rfl rfl (fun ab r=>(wt (sr (m1 (.func (.func 51) #[] #[]) (lN 1 (vE a b c j e d f) r Tya61 Tys61 ?_))))))
 obtain ⟨g,N,h⟩:=ob h
 refine cv ([.agg (vE a b c j e d f).toArray]) Tyb51 ((f51_ok k) N (hG.mono t.sub) (RDExpr.intro s u) (pt r)) ?_
 rintro _ ac ⟨v,rfl,w⟩
 have O:=ca w r
 refine fd 3 Tyf61_3 rfl (sI 1 (iI g) ((vE a b c g e d f).toArray) O Tys3 rfl rfl (fun ad x=>(wt (sr (lN 1 (vE a b c g e d f) x Tya61 Tys61 (sI 0 (.agg (vE a b c g e d f).toArray) ((vE a b c g e d f).toArray) x Tys61 rfl rfl (fun S U=>?_)))))))
 have y:SR K v wi S [] [.box (zz wi) (zz D) (vE a b c g e d f).toArray 61,.box (zz wi) (zz wi) (vE a b c g e d f).toArray 61]:=U
 refine wt (wp_ret ?_)
 cases (oi h).trans hr_
 exact retA1 rfl (resN (i:=0) (l:=(vE a b c g e d f)) y rfl Tya61 Tys61 rfl rfl rfl) ⟨v,(vE a b c g e d f),rfl,(y.sel []),(RDExpr.intro s (me u w.sub))⟩
theorem fam1005331_ok (k0:Nat) : ∀ k,f1005331_spec (fam1005331 k0 k).f1005331∧f1005931_spec (fam1005331 k0 k).f1005931:=by
 intro k
 induction k with
 | zero=>exact ⟨(by unfold f1005331_spec; intro _ _ _ _ _ _ h_; cases h_),(by unfold f1005931_spec; intro _ _ _ _ _ h_; cases h_)⟩
 | succ k ih=>exact ⟨f1005331_b_ok k0 (fam1005331 k0 k) ih.1 ih.2,f1005931_b_ok k0 (fam1005331 k0 k) ih.1 ih.2⟩
theorem f1005331_ok (k:Nat):f1005331_spec (f1005331 k):=(fam1005331_ok k k).1
theorem f1005931_ok (k:Nat):f1005931_spec (f1005931 k):=(fam1005331_ok k k).2
theorem f52_b_ok (k:Nat):f52_spec (f52_b k):=by
 unfold f52_spec
 intro K wi c o p h hG d e
 obtain ⟨r_,hr_,h⟩:=rz h
 obtain ⟨f,g,i,a,j⟩:=c
 obtain ⟨l,m,rfl,q,r⟩:=RDExpr.open d
 refine enter Tryd.func52 rfl (n:=5) rfl ?_
 unfold f52_b at h
 refine sr (bxoC (cs:=(vE f g i a l j m).toArray) e rfl rfl (fun s b=>(m2 (iI 0) (wt (sr (fd 3 Tyf61_3 rfl (l1 0 (iI a) b Tya3 (m2 (iI a) (wt (wp_ret ?_))))))))))
 cases (oi h).trans hr_
 exact retA1 rfl (resT rfl) ⟨K,rfl,(b.sel [])⟩
theorem f52_ok (k:Nat):f52_spec (f52 k):=f52_b_ok k
theorem f1005362_b_ok (k:Nat) (F:Fam1005362) (IH1005362:f1005362_spec F.f1005362) (IH1005962:f1005962_spec F.f1005962):f1005362_spec (f1005362_b k F):=by
 unfold f1005362_spec
 intro K wi f Z ab aK h hG ac ak
 obtain ⟨r_,hr_,h⟩:=rz h
 refine enter Tryd.func53 rfl (n:=22) rfl ?_
 unfold f1005362_b at h
 refine sr (m2 nS (wt (sr (m2 nS (wt (wp_seq (sr (m1 (sl Z f ab) (lS f.length Tye44 (m1 (iI 0) (wt (wp_block ?_))))))))))))
 have al:=ak.row_ (zz wi) 61 5
 refine wp_loopG (fun g_ a w=>∃ ad J g,∃ (d:Nat),∃ c l m O,g_=g.length∧a=fr 22 (updL ad [(1,.func (.func 52) #[] #[]),(5,sl l c m),(8,sl Z f ab),(9,iI (f.length:Int)),(10,iI (d:Int))])∧KH.sub K J∧SR K J wi w [] [.row (zz wi) (sl l c m) 61 5 c.length O]∧f.drop d=g∧Reps (RDExpr J) 5 c O∧c.length * 64 ≤ mB∧f1005362_l1 k F g d c=some r_) f.length ?_ ?_
 ·exact ⟨_,K,f,0,([]:LE),none,0,[],rfl,fR,kr,al,List.drop_zero,(reps0 (R:=(RDExpr K)) (size:=5)),(by simp),h⟩
 ·rintro _ _ am ⟨ad,J,g,d,c,l,m,O,rfl,rfl,N,S,y,ae,an,h⟩
  rcases g with _ | ⟨⟨z,A,B,C,D⟩,g⟩
  ·unfold f1005362_l1 at h
   refine sr (bcm (r:=false) rfl rfl (congrArg some (drop_nil_lt y)) (wt (wp_seq (cndF rfl (wp_exit (thenX (thenX (blkX (thenN (sr (m1 (sl l c m) (m2 (sl l c m) (wt (wp_ret ?_))))))))))))))
   obtain ⟨ao,ap,aL,aq⟩:=shutI (i:=0) (bytes:=64) (R:=fun K=>(RDExpr K)) S rfl (Nat.le_refl _) ae an (fun hs=>(fun _ _ h=>RDExpr.mono hs h))
   cases (oi h).trans hr_
   exact retA1 rfl (resT rfl) ⟨ao,l,m,rfl,ap,aq⟩
  ·unfold f1005362_l1 at h
   refine sr (bcm (r:=true) rfl rfl (congrArg some (drop_cons_t y)) (wt (wp_seq (cndT rfl (wp_skip (thenN (wp_seq (wp_block (sr ?_)))))))))
   obtain ⟨ar,au,aM,av,aN,aw,ax⟩:=((me ac N)).row.at_ (drop_cons_at y)
   obtain ⟨G,I,rfl,ay,az⟩:=RDExpr.open ax
   refine idxN (b:=ar) (o:=au) (i:=d) Tye44 Tys61 rfl av rfl (drop_cons_lt y) (lD (vE z A B C G D I) Tya61 Tys61 rfl (fun j v hj=>S.cell (kr.cell (aw j v hj))) (aC zE.toArray S Tyz61 (fun aP aA=>(sI 0 (.agg (vE z A B C G D I).toArray) ((vE z A B C G D I).toArray) aA Tys61 rfl rfl (fun aQ U=>(wt (wp_region_lit (m1 (sl l c m) (lN 0 (vE z A B C G D I) U Tya61 Tys61 (m1 (.func (.func 52) #[] #[]) ?_))))))))))
   obtain ⟨⟨q,s,t,u,x⟩,aB,h⟩:=ob h
   refine cv ([.agg (vE z A B C G D I).toArray,.func (.func 52) #[] #[]]) Tyb59 (IH1005962 aB (hG.mono N) (RDExpr.intro ay az) (pt U)) ?_
   rintro _ aR ⟨V,aS,rfl,W,af⟩
   have aE:=ca W U
   obtain ⟨ag,ah,rfl,aT,aU⟩:=RDExpr.open af
   refine bsl (e:=61) (cells:=(vE q s t u ag x ah).toArray) (vs:=[(0,.agg (vE q s t u ag x ah).toArray)]) aE rfl (buildSl_one Tye44 Tys61 Tyz61 rfl (by decide) (by decide) rfl) (fun aV aF=>?_)
   obtain ⟨ai,h⟩:=of_guard h
   refine apR (R:=(RDExpr V)) (p:=(DExpr.mk q s t u x)) (i:=2) (j:=0) aF rfl rfl Tye44 Tyi61 rfl (by decide) rfl rfl (ae.mono (fun _ _ h=>RDExpr.mono W.sub h)) af rfl rfl (Nat.le_refl _) ai (by decide) (fun X Y aj aG aH aI=>?_)
   have aJ:=p12 aH
   exact m2 (.slice X (c ++ [(DExpr.mk q s t u x)]).length Y) (wpList_nil (blkN (thenN (wp_region_lit (bar (r:=((d + 1:Nat):Int)) rfl rfl (inc_ok (le_big (((me ac N)).len) (by decide) (drop_cons_lt y))) (m1 (iI ((d + 1:Nat):Int)) (wt (⟨_,Nat.lt_succ_self _,_,V,g,d + 1,(c ++ [(DExpr.mk q s t u x)]),X,Y,aj,rfl,fR,(N.trans W.sub),(aJ.sel [1]),drop_cons_next y,aI,(app_bound ai),h⟩))))))))
theorem f1005962_b_ok (k:Nat) (F:Fam1005362) (IH1005362:f1005362_spec F.f1005362) (IH1005962:f1005962_spec F.f1005962):f1005962_spec (f1005962_b k F):=by
 unfold f1005962_spec
 intro K wi z V W h hG A B
 obtain ⟨r_,hr_,h⟩:=rz h
 obtain ⟨a,b,c,j,m⟩:=z
 obtain ⟨o,p,rfl,s,C⟩:=RDExpr.open A
 refine enter Tryd.func59 rfl (n:=15) rfl ?_
 unfold f1005962_b at h
 refine sr (bxoC (cs:=(vE a b c j o m p).toArray) B rfl rfl (fun D G=>(aC zE.toArray G Tyz61 (fun X q=>(wt (sr (fd 4 Tyf61_4 rfl (l1 1 (sl o m p) q Tya44 (m1 (.func (.func 52) #[] #[]) ?_)))))))))
 obtain ⟨d,I,h⟩:=ob h
 refine cv ([sl o m p,.func (.func 52) #[] #[]]) Tyb53 (IH1005362 I (hG.mono kr) C (pt q)) ?_
 rintro _ Y ⟨Z,e,f,rfl,t,u⟩
 have J:=ca t q
 refine fd 4 Tyf61_4 rfl (sI 1 (sl e d f) ((vE a b c j e d f).toArray) J Tys44 rfl rfl (fun ab r=>(wt (sr (m1 (.func (.func 52) #[] #[]) (lN 1 (vE a b c j e d f) r Tya61 Tys61 ?_))))))
 obtain ⟨g,N,h⟩:=ob h
 refine cv ([.agg (vE a b c j e d f).toArray]) Tyb52 ((f52_ok k) N (hG.mono t.sub) (RDExpr.intro s u) (pt r)) ?_
 rintro _ ac ⟨v,rfl,w⟩
 have O:=ca w r
 refine fd 3 Tyf61_3 rfl (sI 1 (iI g) ((vE a b c g e d f).toArray) O Tys3 rfl rfl (fun ad x=>(wt (sr (lN 1 (vE a b c g e d f) x Tya61 Tys61 (sI 0 (.agg (vE a b c g e d f).toArray) ((vE a b c g e d f).toArray) x Tys61 rfl rfl (fun S U=>?_)))))))
 have y:SR K v wi S [] [.box (zz wi) (zz D) (vE a b c g e d f).toArray 61,.box (zz wi) (zz wi) (vE a b c g e d f).toArray 61]:=U
 refine wt (wp_ret ?_)
 cases (oi h).trans hr_
 exact retA1 rfl (resN (i:=0) (l:=(vE a b c g e d f)) y rfl Tya61 Tys61 rfl rfl rfl) ⟨v,(vE a b c g e d f),rfl,(y.sel []),(RDExpr.intro s (me u w.sub))⟩
theorem fam1005362_ok (k0:Nat) : ∀ k,f1005362_spec (fam1005362 k0 k).f1005362∧f1005962_spec (fam1005362 k0 k).f1005962:=by
 intro k
 induction k with
 | zero=>exact ⟨(by unfold f1005362_spec; intro _ _ _ _ _ _ h_; cases h_),(by unfold f1005962_spec; intro _ _ _ _ _ h_; cases h_)⟩
 | succ k ih=>exact ⟨f1005362_b_ok k0 (fam1005362 k0 k) ih.1 ih.2,f1005962_b_ok k0 (fam1005362 k0 k) ih.1 ih.2⟩
theorem f1005362_ok (k:Nat):f1005362_spec (f1005362 k):=(fam1005362_ok k k).1
theorem f1005962_ok (k:Nat):f1005962_spec (f1005962 k):=(fam1005362_ok k k).2
theorem f40_b_ok (k:Nat) (F:Fam40) (IH40:f40_spec F.f40):f40_spec (f40_b k F):=by
 unfold f40_spec
 intro K wi A be bf c f1 h hG cm dd
 obtain ⟨r_,hr_,h⟩:=rz h
 refine enter Tryd.func40 rfl (n:=76) rfl ?_
 unfold f40_b at h
 refine sr (m2 nS (wt (sr (m2 (.func (.func 51) #[] #[]) (wt (wp_seq (sr (m1 (.bool c) (wt (cd h (fun cx h=>?_) (fun cx h=>?_)))))))))))
 ·refine cT cx (wp_region_lit (m2 (.func (.func 52) #[] #[]) (wt (sr (m2 nS (wt (wp_seq (sr (m1 (sl be A bf) (lS A.length Tye32 (m1 (iI 0) (wt (wp_block ?_)))))))))))))
  have dL:=dd.row_ (zz wi) 47 11
  refine wp_loopG (fun g_ a w=>∃ de b1 bg,∃ (am:Nat),∃ d ai aj bB,g_=bg.length∧a=fr 76 (updL de [(1,.bool c),(5,.func (.func 52) #[] #[]),(6,sl ai d aj),(13,sl be A bf),(14,iI (A.length:Int)),(15,iI (am:Int))])∧KH.sub K b1∧SR K b1 wi w [] [.row (zz wi) (sl ai d aj) 47 11 d.length bB]∧A.drop am=bg∧Reps (RDStmt b1) 11 d bB∧d.length * 184 ≤ mB∧f40_l1 k F c bg am d=some r_) A.length ?_ ?_
  ·exact ⟨_,K,A,0,([]:LS),none,0,[],rfl,fR,kr,dL,List.drop_zero,(reps0 (R:=(RDStmt K)) (size:=11)),(by simp),h⟩
  ·rintro _ _ bh ⟨de,b1,bg,am,d,ai,aj,bB,rfl,rfl,bC,cy,b2,df,dM,h⟩
   rcases bg with _ | ⟨⟨g,l,cn,m,cf,q,bi,aZ,aP,an,B⟩,bg⟩
   ·unfold f40_l1 at h
    refine sr (bcm (r:=false) rfl rfl (congrArg some (drop_nil_lt b2)) (wt (wp_seq (cndF rfl (wp_exit (thenX (thenX (blkX (thenN (sr (m1 (sl ai d aj) (m2 (sl ai d aj) (wt (wp_ret ?_))))))))))))))
    obtain ⟨dN,dO,f2,dP⟩:=shutI (i:=0) (bytes:=184) (R:=fun K=>(RDStmt K)) cy rfl (Nat.le_refl _) df dM (fun hs=>(fun _ _ h=>RDStmt.mono hs h))
    cases (oi h).trans hr_
    exact retA1 rfl (resT rfl) ⟨dN,ai,aj,rfl,dO,dP⟩
   ·unfold f40_l1 at h
    refine sr (bcm (r:=true) rfl rfl (congrArg some (drop_cons_t b2)) (wt (wp_seq (cndT rfl (wp_skip (thenN (wp_seq (wp_block (sr ?_)))))))))
    obtain ⟨dQ,dR,f4,dS,ga,dT,dU⟩:=((ms cm bC)).row.at_ (drop_cons_at b2)
    obtain ⟨bD,bE,bj,bk,a2,a3,ay,az,X,Y,rfl,dV,dW,dX,dY,dZ,d0,dg⟩:=RDStmt.open dU
    refine idxN (b:=dQ) (o:=dR) (i:=am) Tye32 Tys47 rfl dS rfl (drop_cons_lt b2) (lD (vS g l cn m cf q bD bi bE bj aZ bk a2 aP a3 ay an az X B Y) Tya47 Tys47 rfl (fun j v hj=>cy.cell (kr.cell (dT j v hj))) (aC zS.toArray cy Tyz47 (fun gb d1=>(sI 0 (.agg (vS g l cn m cf q bD bi bE bj aZ bk a2 aP a3 ay an az X B Y).toArray) ((vS g l cn m cf q bD bi bE bj aZ bk a2 aP a3 ay an az X B Y).toArray) d1 Tys47 rfl rfl (fun gc dh=>(wt (wp_cut (fun a w=>∃ di D G,a=fr 76 (updL di [(1,.bool c),(5,.func (.func 52) #[] #[]),(6,sl ai d aj),(8,pp (zz bh) 0),(13,sl be A bf),(14,iI (A.length:Int)),(15,iI (am:Int))])∧SR K b1 wi w [] [.box (zz wi) (zz bh) (vS g l D m G q bD bi bE bj aZ bk a2 aP a3 ay an az X B Y).toArray 47,.row (zz wi) (sl ai d aj) 47 11 d.length bB]∧f40_j1 k F c d am g l m q bi aZ aP an B D G (f40_l1 k F c bg)=some r_) ?_ ?_)))))))
    ·refine sr (m1 (.bool c) (uN c (wt (cd h (fun cz h=>?_) (fun cz h=>?_)))))
     ·refine cT cz (wp_region_lit (fd 2 Tyf47_2 rfl (sI 0 (iI 0) ((vS g l 0 m cf q bD bi bE bj aZ bk a2 aP a3 ay an az X B Y).toArray) dh Tys3 rfl rfl (fun gd d2=>(fd 4 Tyf47_4 rfl (sI 0 (iI 0) ((vS g l 0 m 0 q bD bi bE bj aZ bk a2 aP a3 ay an az X B Y).toArray) d2 Tys3 rfl rfl (fun d3 d4=>?_)))))))
      have d5:SR K b1 wi d3 [] [.box (zz wi) (zz bh) (vS g l 0 m 0 q bD bi bE bj aZ bk a2 aP a3 ay an az X B Y).toArray 47,.row (zz wi) (sl ai d aj) 47 11 d.length bB]:=d4
      exact wt (⟨_,0,0,fR,d5,h⟩)
     ·exact cF cz (wp_skip (thenN (⟨_,cn,cf,fR,dh,h⟩)))
    ·rintro _ ge ⟨di,D,G,rfl,cA,h⟩
     unfold f40_j1 at h
     refine sr (fd 6 Tyf47_6 rfl (l1 0 (sl bD bi bE) cA Tya44 (m1 (.func (.func 52) #[] #[]) ?_)))
     obtain ⟨N,d6,h⟩:=ob h
     refine cv ([sl bD bi bE,.func (.func 52) #[] #[]]) Tyb53 ((f1005362_ok k) d6 (hG.mono bC) dX (pt cA)) ?_
     rintro _ gf ⟨gg,ao,ap,rfl,aA,d7⟩
     have d8:=ca aA cA
     refine fd 6 Tyf47_6 rfl (sI 0 (sl ao N ap) ((vS g l D m G q ao N ap bj aZ bk a2 aP a3 ay an az X B Y).toArray) d8 Tys44 rfl rfl (fun gh cB=>(wt (sr (fd 7 Tyf47_7 rfl (l1 0 (sl bj aZ bk) cB Tya32 (m1 (.bool c) ?_)))))))
     obtain ⟨S,d9,h⟩:=ob h
     refine cv ([sl bj aZ bk,.bool c]) Tyb40 (IH40 d9 (hG.mono (bC.trans aA.sub)) (ms dY aA.sub) (pt cB)) ?_
     rintro _ gi ⟨gj,aB,aE,rfl,aQ,ea⟩
     have ec:=ca aQ cB
     refine fd 7 Tyf47_7 rfl (sI 0 (sl aB S aE) ((vS g l D m G q ao N ap aB S aE a2 aP a3 ay an az X B Y).toArray) ec Tys32 rfl rfl (fun gk cC=>(wt (sr (fd 8 Tyf47_8 rfl (l1 0 (sl a2 aP a3) cC Tya32 (m1 (.bool c) ?_)))))))
     obtain ⟨V,ed,h⟩:=ob h
     refine cv ([sl a2 aP a3,.bool c]) Tyb40 (IH40 ed (hG.mono ((bC.trans aA.sub).trans aQ.sub)) (ms dZ (aA.sub.trans aQ.sub)) (pt cC)) ?_
     rintro _ gl ⟨ee,aR,aS,rfl,a4,ef⟩
     have eg:=ca a4 cC
     refine fd 8 Tyf47_8 rfl (sI 0 (sl aR V aS) ((vS g l D m G q ao N ap aB S aE aR V aS ay an az X B Y).toArray) eg Tys32 rfl rfl (fun eh ei=>?_))
     have cD:SR K ee wi eh [] [.box (zz wi) (zz bh) (vS g l D m G q ao N ap aB S aE aR V aS ay an az X B Y).toArray 47,.row (zz wi) (sl ai d aj) 47 11 d.length bB]:=ei
     refine wt (sr (fd 9 Tyf47_9 rfl (l1 0 (sl ay an az) cD Tya32 (m1 (.bool c) ?_))))
     obtain ⟨ac,ej,h⟩:=ob h
     refine cv ([sl ay an az,.bool c]) Tyb40 (IH40 ej (hG.mono (((bC.trans aA.sub).trans aQ.sub).trans a4.sub)) (ms d0 ((aA.sub.trans aQ.sub).trans a4.sub)) (pt cD)) ?_
     rintro _ gm ⟨cG,bm,bn,rfl,bo,ek⟩
     have el:=ca bo cD
     refine fd 9 Tyf47_9 rfl (sI 0 (sl bm ac bn) ((vS g l D m G q ao N ap aB S aE aR V aS bm ac bn X B Y).toArray) el Tys32 rfl rfl (fun gn dj=>(wt (sr (m2 nS (wt (wp_seq (sr (fd 10 Tyf47_10 rfl (l1 0 (sl X B Y) dj Tya45 (lS B.length Tye45 (m1 (iI 0) (wt (wp_block ?_))))))))))))))
     have em:=dj.row_ (zz wi) 56 5
     refine wp_loopG (fun g_ a w=>∃ dk ch bL,∃ (bp:Nat),∃ s aF aG co,g_=bL.length∧a=fr 76 (updL dk [(1,.bool c),(5,.func (.func 52) #[] #[]),(6,sl ai d aj),(8,pp (zz bh) 0),(9,sl aF s aG),(13,sl be A bf),(14,iI (A.length:Int)),(15,iI (am:Int)),(44,sl X B Y),(45,iI (B.length:Int)),(46,iI (bp:Int))])∧KH.sub cG ch∧SR K ch wi w [] [.box (zz wi) (zz bh) (vS g l D m G q ao N ap aB S aE aR V aS bm ac bn X B Y).toArray 47,.row (zz wi) (sl ai d aj) 47 11 d.length bB,.row (zz wi) (sl aF s aG) 56 5 s.length co]∧B.drop bp=bL∧Reps (RDCase ch) 5 s co∧s.length * 80 ≤ mB∧f40_l2 k F c d am g l m q D G N S V ac (f40_l1 k F c bg) bL bp s=some r_) B.length ?_ ?_
     ·exact ⟨_,cG,B,0,([]:LC),none,0,[],rfl,fR,kr,(em.sel [1,2,0]),List.drop_zero,(reps0 (R:=(RDCase cG)) (size:=5)),(by simp),h⟩
     ·rintro _ _ cH ⟨dk,ch,bL,bp,s,aF,aG,co,rfl,rfl,a5,cI,b3,dl,en,h⟩
      rcases bL with _ | ⟨⟨ad,ae,cq,bM,bF⟩,bL⟩
      ·unfold f40_l2 at h
       refine sr (bcm (r:=false) rfl rfl (congrArg some (drop_nil_lt b3)) (wt (wp_seq (cndF rfl (wp_exit (thenX (thenX (blkX (thenN (sr (m1 (sl aF s aG) (fd 10 Tyf47_10 rfl (sI 0 (sl aF s aG) ((vS g l D m G q ao N ap aB S aE aR V aS bm ac bn aF s aG).toArray) cI Tys45 rfl rfl (fun go dm=>(wt (wp_region_lit (m1 (sl ai d aj) (lN 0 (vS g l D m G q ao N ap aB S aE aR V aS bm ac bn aF s aG) dm Tya47 Tys47 (bsl (e:=47) (cells:=(vS g l D m G q ao N ap aB S aE aR V aS bm ac bn aF s aG).toArray) (vs:=[(0,.agg (vS g l D m G q ao N ap aB S aE aR V aS bm ac bn aF s aG).toArray)]) dm rfl (buildSl_one Tye32 Tys47 Tyz47 rfl (by decide) (by decide) rfl) (fun gp eo=>?_))))))))))))))))))))
       obtain ⟨cJ,ep,b4,eq⟩:=shutI (i:=3) (bytes:=80) (R:=fun K=>(RDCase K)) eo rfl (Nat.le_refl _) dl en (fun hs=>(fun _ _ h=>RDCase.mono hs h))
       obtain ⟨dn,h⟩:=of_guard h
       refine apR (R:=(RDStmt cJ)) (p:=(DStmt.mk g l D m G q N S V ac s)) (i:=2) (j:=0) ep rfl rfl Tye32 Tyi47 rfl (by decide) rfl rfl (df.mono (fun _ _ h=>RDStmt.mono (((((aA.sub.trans aQ.sub).trans a4.sub).trans bo.sub).trans a5).trans b4) h)) (RDStmt.intro dV dW (me d7 ((((aQ.sub.trans a4.sub).trans bo.sub).trans a5).trans b4)) (ms ea (((a4.sub.trans bo.sub).trans a5).trans b4)) (ms ef ((bo.sub.trans a5).trans b4)) (ms ek (a5.trans b4)) eq) rfl rfl (Nat.le_refl _) dn (by decide) (fun cK cL dp es et eu=>?_)
       have ew:=p12 et
       exact m2 (.slice cK (d ++ [(DStmt.mk g l D m G q N S V ac s)]).length cL) (wpList_nil (blkN (thenN (wp_region_lit (bar (r:=((am + 1:Nat):Int)) rfl rfl (inc_ok (le_big (((ms cm bC)).len) (by decide) (drop_cons_lt b2))) (m1 (iI ((am + 1:Nat):Int)) (wt (⟨_,Nat.lt_succ_self _,_,cJ,bg,am + 1,(d ++ [(DStmt.mk g l D m G q N S V ac s)]),cK,cL,dp,rfl,fR,((((((bC.trans aA.sub).trans aQ.sub).trans a4.sub).trans bo.sub).trans a5).trans b4),(ew.sel [1]),drop_cons_next b2,eu,(app_bound dn),h⟩))))))))
      ·unfold f40_l2 at h
       refine sr (bcm (r:=true) rfl rfl (congrArg some (drop_cons_t b3)) (wt (wp_seq (cndT rfl (wp_skip (thenN (wp_seq (wp_block (sr ?_)))))))))
       obtain ⟨ex,ey,gq,ez,gr,eA,eB⟩:=((mc dg ((((aA.sub.trans aQ.sub).trans a4.sub).trans bo.sub).trans a5))).row.at_ (drop_cons_at b3)
       obtain ⟨bT,bU,bN,bO,rfl,eC,eD,eE⟩:=RDCase.open eB
       refine idxN (b:=ex) (o:=ey) (i:=bp) Tye45 Tys56 rfl ez rfl (drop_cons_lt b3) (lD (vC ad ae cq bT bM bU bN bF bO) Tya56 Tys56 rfl (fun j v hj=>cI.cell (kr.cell (eA j v hj))) (aC zC.toArray cI Tyz56 (fun gs eF=>(sI 0 (.agg (vC ad ae cq bT bM bU bN bF bO).toArray) ((vC ad ae cq bT bM bU bN bF bO).toArray) eF Tys56 rfl rfl (fun gt dq=>(wt (wp_cut (fun a w=>∃ dr aq,a=fr 76 (updL dr [(1,.bool c),(5,.func (.func 52) #[] #[]),(6,sl ai d aj),(8,pp (zz bh) 0),(9,sl aF s aG),(11,pp (zz cH) 0),(13,sl be A bf),(14,iI (A.length:Int)),(15,iI (am:Int)),(44,sl X B Y),(45,iI (B.length:Int)),(46,iI (bp:Int))])∧SR K ch wi w [] [.box (zz wi) (zz bh) (vS g l D m G q ao N ap aB S aE aR V aS bm ac bn X B Y).toArray 47,.box (zz wi) (zz cH) (vC ad ae aq bT bM bU bN bF bO).toArray 56,.row (zz wi) (sl ai d aj) 47 11 d.length bB,.row (zz wi) (sl aF s aG) 56 5 s.length co]∧f40_j2 k F c s bp ad ae bM bF aq (f40_l2 k F c d am g l m q D G N S V ac (f40_l1 k F c bg) bL)=some r_) ?_ ?_)))))))
       ·refine sr (m1 (.bool c) (uN c (wt (cd h (fun cM h=>?_) (fun cM h=>?_)))))
        ·exact cT cM (wp_region_lit (fd 2 Tyf56_2 rfl (sI 0 (iI 0) ((vC ad ae 0 bT bM bU bN bF bO).toArray) dq Tys3 rfl rfl (fun gu eG=>(wt (⟨_,0,fR,(eG.sel [1,0,2,3]),h⟩))))))
        ·exact cF cM (wp_skip (thenN (⟨_,cq,fR,(dq.sel [1,0,2,3]),h⟩)))
       ·rintro _ gv ⟨dr,aq,rfl,cN,h⟩
        unfold f40_j2 at h
        refine sr (fd 3 Tyf56_3 rfl (l1 1 (sl bT bM bU) cN Tya44 (m1 (.func (.func 52) #[] #[]) ?_)))
        obtain ⟨aT,eH,h⟩:=ob h
        refine cv ([sl bT bM bU,.func (.func 52) #[] #[]]) Tyb53 ((f1005362_ok k) eH (hG.mono (((((bC.trans aA.sub).trans aQ.sub).trans a4.sub).trans bo.sub).trans a5)) eD (pt cN)) ?_
        rintro _ gw ⟨gx,bV,bW,rfl,ci,eI⟩
        have eJ:=ca ci cN
        refine fd 3 Tyf56_3 rfl (sI 1 (sl bV aT bW) ((vC ad ae aq bV aT bW bN bF bO).toArray) eJ Tys44 rfl rfl (fun gy cO=>(wt (sr (fd 4 Tyf56_4 rfl (l1 1 (sl bN bF bO) cO Tya32 (m1 (.bool c) ?_)))))))
        obtain ⟨a6,eK,h⟩:=ob h
        refine cv ([sl bN bF bO,.bool c]) Tyb40 (IH40 eK (hG.mono ((((((bC.trans aA.sub).trans aQ.sub).trans a4.sub).trans bo.sub).trans a5).trans ci.sub)) (ms eE ci.sub) (pt cO)) ?_
        rintro _ gz ⟨cP,b5,b6,rfl,cr,eL⟩
        have eM:=ca cr cO
        refine fd 4 Tyf56_4 rfl (sI 1 (sl b5 a6 b6) ((vC ad ae aq bV aT bW b5 a6 b6).toArray) eM Tys32 rfl rfl (fun gA ds=>(wt (wp_region_lit (m1 (sl aF s aG) (lN 1 (vC ad ae aq bV aT bW b5 a6 b6) ds Tya56 Tys56 (bsl (e:=56) (cells:=(vC ad ae aq bV aT bW b5 a6 b6).toArray) (vs:=[(0,.agg (vC ad ae aq bV aT bW b5 a6 b6).toArray)]) ds rfl (buildSl_one Tye45 Tys56 Tyz56 rfl (by decide) (by decide) rfl) (fun gB eN=>?_))))))))
        obtain ⟨dt,h⟩:=of_guard h
        refine apR (R:=(RDCase cP)) (p:=(DCase.mk ad ae aq aT a6)) (i:=4) (j:=0) eN rfl rfl Tye45 Tyi56 rfl (by decide) rfl rfl (dl.mono (fun _ _ h=>RDCase.mono (ci.sub.trans cr.sub) h)) (RDCase.intro eC (me eI cr.sub) eL) rfl rfl (Nat.le_refl _) dt (by decide) (fun cQ cR du eO eP eQ=>?_)
        have eR:=p1234 eP
        exact m2 (.slice cQ (s ++ [(DCase.mk ad ae aq aT a6)]).length cR) (wpList_nil (blkN (thenN (wp_region_lit (bar (r:=((bp + 1:Nat):Int)) rfl rfl (inc_ok (le_big (((mc dg ((((aA.sub.trans aQ.sub).trans a4.sub).trans bo.sub).trans a5))).len) (by decide) (drop_cons_lt b3))) (m1 (iI ((bp + 1:Nat):Int)) (wt (⟨_,Nat.lt_succ_self _,_,cP,bL,bp + 1,(s ++ [(DCase.mk ad ae aq aT a6)]),cQ,cR,du,rfl,fR,((a5.trans ci.sub).trans cr.sub),(eR.sel [0,2,3]),drop_cons_next b3,eQ,(app_bound dt),h⟩))))))))
 ·refine cF cx (wp_skip (thenN (sr (m2 nS (wt (wp_seq (sr (m1 (sl be A bf) (lS A.length Tye32 (m1 (iI 0) (wt (wp_block ?_))))))))))))
  have eS:=dd.row_ (zz wi) 47 11
  refine wp_loopG (fun g_ a w=>∃ dv b7 bq,∃ (ar:Nat),∃ f ak al bG,g_=bq.length∧a=fr 76 (updL dv [(1,.bool c),(5,.func (.func 51) #[] #[]),(6,sl ak f al),(13,sl be A bf),(14,iI (A.length:Int)),(15,iI (ar:Int))])∧KH.sub K b7∧SR K b7 wi w [] [.row (zz wi) (sl ak f al) 47 11 f.length bG]∧A.drop ar=bq∧Reps (RDStmt b7) 11 f bG∧f.length * 184 ≤ mB∧f40_l3 k F c bq ar f=some r_) A.length ?_ ?_
  ·exact ⟨_,K,A,0,([]:LS),none,0,[],rfl,fR,kr,eS,List.drop_zero,(reps0 (R:=(RDStmt K)) (size:=11)),(by simp),h⟩
  ·rintro _ _ br ⟨dv,b7,bq,ar,f,ak,al,bG,rfl,rfl,bH,cS,b8,dw,eT,h⟩
   rcases bq with _ | ⟨⟨t,u,cs,x,cj,y,bs,a7,aU,au,C⟩,bq⟩
   ·unfold f40_l3 at h
    refine sr (bcm (r:=false) rfl rfl (congrArg some (drop_nil_lt b8)) (wt (wp_seq (cndF rfl (wp_exit (thenX (thenX (blkX (thenN (sr (m1 (sl ak f al) (m2 (sl ak f al) (wt (wp_ret ?_))))))))))))))
    obtain ⟨eU,eV,gD,eW⟩:=shutI (i:=0) (bytes:=184) (R:=fun K=>(RDStmt K)) cS rfl (Nat.le_refl _) dw eT (fun hs=>(fun _ _ h=>RDStmt.mono hs h))
    cases (oi h).trans hr_
    exact retA1 rfl (resT rfl) ⟨eU,ak,al,rfl,eV,eW⟩
   ·unfold f40_l3 at h
    refine sr (bcm (r:=true) rfl rfl (congrArg some (drop_cons_t b8)) (wt (wp_seq (cndT rfl (wp_skip (thenN (wp_seq (wp_block (sr ?_)))))))))
    obtain ⟨eX,eY,gF,eZ,gG,e0,e1⟩:=((ms cm bH)).row.at_ (drop_cons_at b8)
    obtain ⟨bI,bJ,bu,bv,a8,a9,aH,aI,Z,ab,rfl,e2,e3,e4,e5,e6,e7,dx⟩:=RDStmt.open e1
    refine idxN (b:=eX) (o:=eY) (i:=ar) Tye32 Tys47 rfl eZ rfl (drop_cons_lt b8) (lD (vS t u cs x cj y bI bs bJ bu a7 bv a8 aU a9 aH au aI Z C ab) Tya47 Tys47 rfl (fun j v hj=>cS.cell (kr.cell (e0 j v hj))) (aC zS.toArray cS Tyz47 (fun gH e8=>(sI 0 (.agg (vS t u cs x cj y bI bs bJ bu a7 bv a8 aU a9 aH au aI Z C ab).toArray) ((vS t u cs x cj y bI bs bJ bu a7 bv a8 aU a9 aH au aI Z C ab).toArray) e8 Tys47 rfl rfl (fun gI dy=>(wt (wp_cut (fun a w=>∃ dz I J,a=fr 76 (updL dz [(1,.bool c),(5,.func (.func 51) #[] #[]),(6,sl ak f al),(8,pp (zz br) 0),(13,sl be A bf),(14,iI (A.length:Int)),(15,iI (ar:Int))])∧SR K b7 wi w [] [.box (zz wi) (zz br) (vS t u I x J y bI bs bJ bu a7 bv a8 aU a9 aH au aI Z C ab).toArray 47,.row (zz wi) (sl ak f al) 47 11 f.length bG]∧f40_j3 k F c f ar t u x y bs a7 aU au C I J (f40_l3 k F c bq)=some r_) ?_ ?_)))))))
    ·refine sr (m1 (.bool c) (uN c (wt (cd h (fun cU h=>?_) (fun cU h=>?_)))))
     ·refine cT cU (wp_region_lit (fd 2 Tyf47_2 rfl (sI 0 (iI 0) ((vS t u 0 x cj y bI bs bJ bu a7 bv a8 aU a9 aH au aI Z C ab).toArray) dy Tys3 rfl rfl (fun gJ e9=>(fd 4 Tyf47_4 rfl (sI 0 (iI 0) ((vS t u 0 x 0 y bI bs bJ bu a7 bv a8 aU a9 aH au aI Z C ab).toArray) e9 Tys3 rfl rfl (fun fa fb=>?_)))))))
      have fc:SR K b7 wi fa [] [.box (zz wi) (zz br) (vS t u 0 x 0 y bI bs bJ bu a7 bv a8 aU a9 aH au aI Z C ab).toArray 47,.row (zz wi) (sl ak f al) 47 11 f.length bG]:=fb
      exact wt (⟨_,0,0,fR,fc,h⟩)
     ·exact cF cU (wp_skip (thenN (⟨_,cs,cj,fR,dy,h⟩)))
    ·rintro _ gK ⟨dz,I,J,rfl,cV,h⟩
     unfold f40_j3 at h
     refine sr (fd 6 Tyf47_6 rfl (l1 0 (sl bI bs bJ) cV Tya44 (m1 (.func (.func 51) #[] #[]) ?_)))
     obtain ⟨O,fe,h⟩:=ob h
     refine cv ([sl bI bs bJ,.func (.func 51) #[] #[]]) Tyb53 ((f1005331_ok k) fe (hG.mono bH) e4 (pt cV)) ?_
     rintro _ gL ⟨gM,av,aw,rfl,aJ,ff⟩
     have fg:=ca aJ cV
     refine fd 6 Tyf47_6 rfl (sI 0 (sl av O aw) ((vS t u I x J y av O aw bu a7 bv a8 aU a9 aH au aI Z C ab).toArray) fg Tys44 rfl rfl (fun gN cW=>(wt (sr (fd 7 Tyf47_7 rfl (l1 0 (sl bu a7 bv) cW Tya32 (m1 (.bool c) ?_)))))))
     obtain ⟨U,fh,h⟩:=ob h
     refine cv ([sl bu a7 bv,.bool c]) Tyb40 (IH40 fh (hG.mono (bH.trans aJ.sub)) (ms e5 aJ.sub) (pt cW)) ?_
     rintro _ gO ⟨gP,aK,aL,rfl,aV,fi⟩
     have fj:=ca aV cW
     refine fd 7 Tyf47_7 rfl (sI 0 (sl aK U aL) ((vS t u I x J y av O aw aK U aL a8 aU a9 aH au aI Z C ab).toArray) fj Tys32 rfl rfl (fun gQ cX=>(wt (sr (fd 8 Tyf47_8 rfl (l1 0 (sl a8 aU a9) cX Tya32 (m1 (.bool c) ?_)))))))
     obtain ⟨W,fk,h⟩:=ob h
     refine cv ([sl a8 aU a9,.bool c]) Tyb40 (IH40 fk (hG.mono ((bH.trans aJ.sub).trans aV.sub)) (ms e6 (aJ.sub.trans aV.sub)) (pt cX)) ?_
     rintro _ gR ⟨fl,aW,aX,rfl,ba,fm⟩
     have fn:=ca ba cX
     refine fd 8 Tyf47_8 rfl (sI 0 (sl aW W aX) ((vS t u I x J y av O aw aK U aL aW W aX aH au aI Z C ab).toArray) fn Tys32 rfl rfl (fun fo fp=>?_))
     have cY:SR K fl wi fo [] [.box (zz wi) (zz br) (vS t u I x J y av O aw aK U aL aW W aX aH au aI Z C ab).toArray 47,.row (zz wi) (sl ak f al) 47 11 f.length bG]:=fp
     refine wt (sr (fd 9 Tyf47_9 rfl (l1 0 (sl aH au aI) cY Tya32 (m1 (.bool c) ?_))))
     obtain ⟨af,fs,h⟩:=ob h
     refine cv ([sl aH au aI,.bool c]) Tyb40 (IH40 fs (hG.mono (((bH.trans aJ.sub).trans aV.sub).trans ba.sub)) (ms e7 ((aJ.sub.trans aV.sub).trans ba.sub)) (pt cY)) ?_
     rintro _ gT ⟨cZ,bw,bx,rfl,bz,ft⟩
     have fu:=ca bz cY
     refine fd 9 Tyf47_9 rfl (sI 0 (sl bw af bx) ((vS t u I x J y av O aw aK U aL aW W aX bw af bx Z C ab).toArray) fu Tys32 rfl rfl (fun gU dA=>(wt (sr (m2 nS (wt (wp_seq (sr (fd 10 Tyf47_10 rfl (l1 0 (sl Z C ab) dA Tya45 (lS C.length Tye45 (m1 (iI 0) (wt (wp_block ?_))))))))))))))
     have fv:=dA.row_ (zz wi) 56 5
     refine wp_loopG (fun g_ a w=>∃ dB ck bP,∃ (bA:Nat),∃ z aM aN ct,g_=bP.length∧a=fr 76 (updL dB [(1,.bool c),(5,.func (.func 51) #[] #[]),(6,sl ak f al),(8,pp (zz br) 0),(9,sl aM z aN),(13,sl be A bf),(14,iI (A.length:Int)),(15,iI (ar:Int)),(44,sl Z C ab),(45,iI (C.length:Int)),(46,iI (bA:Int))])∧KH.sub cZ ck∧SR K ck wi w [] [.box (zz wi) (zz br) (vS t u I x J y av O aw aK U aL aW W aX bw af bx Z C ab).toArray 47,.row (zz wi) (sl ak f al) 47 11 f.length bG,.row (zz wi) (sl aM z aN) 56 5 z.length ct]∧C.drop bA=bP∧Reps (RDCase ck) 5 z ct∧z.length * 80 ≤ mB∧f40_l4 k F c f ar t u x y I J O U W af (f40_l3 k F c bq) bP bA z=some r_) C.length ?_ ?_
     ·exact ⟨_,cZ,C,0,([]:LC),none,0,[],rfl,fR,kr,(fv.sel [1,2,0]),List.drop_zero,(reps0 (R:=(RDCase cZ)) (size:=5)),(by simp),h⟩
     ·rintro _ _ c2 ⟨dB,ck,bP,bA,z,aM,aN,ct,rfl,rfl,bb,c3,b9,dC,fx,h⟩
      rcases bP with _ | ⟨⟨ag,ah,cu,bQ,bK⟩,bP⟩
      ·unfold f40_l4 at h
       refine sr (bcm (r:=false) rfl rfl (congrArg some (drop_nil_lt b9)) (wt (wp_seq (cndF rfl (wp_exit (thenX (thenX (blkX (thenN (sr (m1 (sl aM z aN) (fd 10 Tyf47_10 rfl (sI 0 (sl aM z aN) ((vS t u I x J y av O aw aK U aL aW W aX bw af bx aM z aN).toArray) c3 Tys45 rfl rfl (fun gV dD=>(wt (wp_region_lit (m1 (sl ak f al) (lN 0 (vS t u I x J y av O aw aK U aL aW W aX bw af bx aM z aN) dD Tya47 Tys47 (bsl (e:=47) (cells:=(vS t u I x J y av O aw aK U aL aW W aX bw af bx aM z aN).toArray) (vs:=[(0,.agg (vS t u I x J y av O aw aK U aL aW W aX bw af bx aM z aN).toArray)]) dD rfl (buildSl_one Tye32 Tys47 Tyz47 rfl (by decide) (by decide) rfl) (fun gW fy=>?_))))))))))))))))))))
       obtain ⟨c4,fz,cb,fA⟩:=shutI (i:=3) (bytes:=80) (R:=fun K=>(RDCase K)) fy rfl (Nat.le_refl _) dC fx (fun hs=>(fun _ _ h=>RDCase.mono hs h))
       obtain ⟨dE,h⟩:=of_guard h
       refine apR (R:=(RDStmt c4)) (p:=(DStmt.mk t u I x J y O U W af z)) (i:=2) (j:=0) fz rfl rfl Tye32 Tyi47 rfl (by decide) rfl rfl (dw.mono (fun _ _ h=>RDStmt.mono (((((aJ.sub.trans aV.sub).trans ba.sub).trans bz.sub).trans bb).trans cb) h)) (RDStmt.intro e2 e3 (me ff ((((aV.sub.trans ba.sub).trans bz.sub).trans bb).trans cb)) (ms fi (((ba.sub.trans bz.sub).trans bb).trans cb)) (ms fm ((bz.sub.trans bb).trans cb)) (ms ft (bb.trans cb)) fA) rfl rfl (Nat.le_refl _) dE (by decide) (fun c5 c6 dF fB fC fD=>?_)
       have fE:=p12 fC
       exact m2 (.slice c5 (f ++ [(DStmt.mk t u I x J y O U W af z)]).length c6) (wpList_nil (blkN (thenN (wp_region_lit (bar (r:=((ar + 1:Nat):Int)) rfl rfl (inc_ok (le_big (((ms cm bH)).len) (by decide) (drop_cons_lt b8))) (m1 (iI ((ar + 1:Nat):Int)) (wt (⟨_,Nat.lt_succ_self _,_,c4,bq,ar + 1,(f ++ [(DStmt.mk t u I x J y O U W af z)]),c5,c6,dF,rfl,fR,((((((bH.trans aJ.sub).trans aV.sub).trans ba.sub).trans bz.sub).trans bb).trans cb),(fE.sel [1]),drop_cons_next b8,fD,(app_bound dE),h⟩))))))))
      ·unfold f40_l4 at h
       refine sr (bcm (r:=true) rfl rfl (congrArg some (drop_cons_t b9)) (wt (wp_seq (cndT rfl (wp_skip (thenN (wp_seq (wp_block (sr ?_)))))))))
       obtain ⟨fF,fG,gX,fH,gY,fI,fJ⟩:=((mc dx ((((aJ.sub.trans aV.sub).trans ba.sub).trans bz.sub).trans bb))).row.at_ (drop_cons_at b9)
       obtain ⟨bX,bY,bR,bS,rfl,fK,fL,fM⟩:=RDCase.open fJ
       refine idxN (b:=fF) (o:=fG) (i:=bA) Tye45 Tys56 rfl fH rfl (drop_cons_lt b9) (lD (vC ag ah cu bX bQ bY bR bK bS) Tya56 Tys56 rfl (fun j v hj=>c3.cell (kr.cell (fI j v hj))) (aC zC.toArray c3 Tyz56 (fun gZ fN=>(sI 0 (.agg (vC ag ah cu bX bQ bY bR bK bS).toArray) ((vC ag ah cu bX bQ bY bR bK bS).toArray) fN Tys56 rfl rfl (fun g0 dG=>(wt (wp_cut (fun a w=>∃ dH ax,a=fr 76 (updL dH [(1,.bool c),(5,.func (.func 51) #[] #[]),(6,sl ak f al),(8,pp (zz br) 0),(9,sl aM z aN),(11,pp (zz c2) 0),(13,sl be A bf),(14,iI (A.length:Int)),(15,iI (ar:Int)),(44,sl Z C ab),(45,iI (C.length:Int)),(46,iI (bA:Int))])∧SR K ck wi w [] [.box (zz wi) (zz br) (vS t u I x J y av O aw aK U aL aW W aX bw af bx Z C ab).toArray 47,.box (zz wi) (zz c2) (vC ag ah ax bX bQ bY bR bK bS).toArray 56,.row (zz wi) (sl ak f al) 47 11 f.length bG,.row (zz wi) (sl aM z aN) 56 5 z.length ct]∧f40_j4 k F c z bA ag ah bQ bK ax (f40_l4 k F c f ar t u x y I J O U W af (f40_l3 k F c bq) bP)=some r_) ?_ ?_)))))))
       ·refine sr (m1 (.bool c) (uN c (wt (cd h (fun c7 h=>?_) (fun c7 h=>?_)))))
        ·exact cT c7 (wp_region_lit (fd 2 Tyf56_2 rfl (sI 0 (iI 0) ((vC ag ah 0 bX bQ bY bR bK bS).toArray) dG Tys3 rfl rfl (fun g1 fO=>(wt (⟨_,0,fR,(fO.sel [1,0,2,3]),h⟩))))))
        ·exact cF c7 (wp_skip (thenN (⟨_,cu,fR,(dG.sel [1,0,2,3]),h⟩)))
       ·rintro _ g2 ⟨dH,ax,rfl,c8,h⟩
        unfold f40_j4 at h
        refine sr (fd 3 Tyf56_3 rfl (l1 1 (sl bX bQ bY) c8 Tya44 (m1 (.func (.func 51) #[] #[]) ?_)))
        obtain ⟨aY,fP,h⟩:=ob h
        refine cv ([sl bX bQ bY,.func (.func 51) #[] #[]]) Tyb53 ((f1005331_ok k) fP (hG.mono (((((bH.trans aJ.sub).trans aV.sub).trans ba.sub).trans bz.sub).trans bb)) fL (pt c8)) ?_
        rintro _ g3 ⟨g4,bZ,b0,rfl,cl,fQ⟩
        have fS:=ca cl c8
        refine fd 3 Tyf56_3 rfl (sI 1 (sl bZ aY b0) ((vC ag ah ax bZ aY b0 bR bK bS).toArray) fS Tys44 rfl rfl (fun g5 c9=>(wt (sr (fd 4 Tyf56_4 rfl (l1 1 (sl bR bK bS) c9 Tya32 (m1 (.bool c) ?_)))))))
        obtain ⟨bd,fT,h⟩:=ob h
        refine cv ([sl bR bK bS,.bool c]) Tyb40 (IH40 fT (hG.mono ((((((bH.trans aJ.sub).trans aV.sub).trans ba.sub).trans bz.sub).trans bb).trans cl.sub)) (ms fM cl.sub) (pt c9)) ?_
        rintro _ g6 ⟨da,cc,ce,rfl,cw,fU⟩
        have fV:=ca cw c9
        refine fd 4 Tyf56_4 rfl (sI 1 (sl cc bd ce) ((vC ag ah ax bZ aY b0 cc bd ce).toArray) fV Tys32 rfl rfl (fun g7 dI=>(wt (wp_region_lit (m1 (sl aM z aN) (lN 1 (vC ag ah ax bZ aY b0 cc bd ce) dI Tya56 Tys56 (bsl (e:=56) (cells:=(vC ag ah ax bZ aY b0 cc bd ce).toArray) (vs:=[(0,.agg (vC ag ah ax bZ aY b0 cc bd ce).toArray)]) dI rfl (buildSl_one Tye45 Tys56 Tyz56 rfl (by decide) (by decide) rfl) (fun g8 fW=>?_))))))))
        obtain ⟨dJ,h⟩:=of_guard h
        refine apR (R:=(RDCase da)) (p:=(DCase.mk ag ah ax aY bd)) (i:=4) (j:=0) fW rfl rfl Tye45 Tyi56 rfl (by decide) rfl rfl (dC.mono (fun _ _ h=>RDCase.mono (cl.sub.trans cw.sub) h)) (RDCase.intro fK (me fQ cw.sub) fU) rfl rfl (Nat.le_refl _) dJ (by decide) (fun db dc dK fX fY fZ=>?_)
        have f0:=p1234 fY
        exact m2 (.slice db (z ++ [(DCase.mk ag ah ax aY bd)]).length dc) (wpList_nil (blkN (thenN (wp_region_lit (bar (r:=((bA + 1:Nat):Int)) rfl rfl (inc_ok (le_big (((mc dx ((((aJ.sub.trans aV.sub).trans ba.sub).trans bz.sub).trans bb))).len) (by decide) (drop_cons_lt b9))) (m1 (iI ((bA + 1:Nat):Int)) (wt (⟨_,Nat.lt_succ_self _,_,da,bP,bA + 1,(z ++ [(DCase.mk ag ah ax aY bd)]),db,dc,dK,rfl,fR,((bb.trans cl.sub).trans cw.sub),(f0.sel [0,2,3]),drop_cons_next b9,fZ,(app_bound dJ),h⟩))))))))
theorem fam40_ok (k0:Nat) : ∀ k,f40_spec (fam40 k0 k).f40:=by
 intro k
 induction k with
 | zero=>exact (by unfold f40_spec; intro _ _ _ _ _ _ _ h_; cases h_)
 | succ k ih=>exact f40_b_ok k0 (fam40 k0 k) ih
theorem f40_ok (k:Nat):f40_spec (f40 k):=(fam40_ok k k)
theorem f31_b_ok (k:Nat):f31_spec (f31_b k):=by
 unfold f31_spec
 intro K wi aA be z bf h hG aB aE
 obtain ⟨r_,hr_,h⟩:=rz h
 obtain ⟨x⟩:=aA
 obtain ⟨ae,c1,rfl,aq⟩:=RDProgram.open aB
 refine enter Tryd.func31 rfl (n:=35) rfl ?_
 unfold f31_b at h
 refine sr (bxoC (cs:=#[sl ae x c1]) aE rfl rfl (fun V aF=>(aC #[nS] aF Tyz24 (fun W aG=>(wt (sr (aC #[nS] aG Tyz24 (fun bg ar=>(wt (wp_seq (sr (fd 0 Tyf24_0 rfl (l1 2 (sl ae x c1) ar Tya22 (lS x.length Tye22 (m1 (iI 0) (wt (wp_block ?_)))))))))))))))))
 have aH:=ar.row_ (zz wi) 34 6
 refine wp_loopG (fun g_ a w=>∃ au ab B,∃ (y:Nat),∃ c t u af,g_=B.length∧a=fr 35 (updL au [(1,.bool z),(4,pp (zz V) 0),(5,pp (zz W) 0),(9,sl ae x c1),(10,iI (x.length:Int)),(11,iI (y:Int))])∧KH.sub K ab∧SR K ab wi w [] [.box (zz wi) (zz V) #[nS] 24,.box (zz wi) (zz W) #[sl t c u] 24,.row (zz wi) (sl t c u) 34 6 c.length af]∧x.drop y=B∧Reps (RDFunc ab) 6 c af∧c.length * 88 ≤ mB∧f31_l1 k z B y c=some r_) x.length ?_ ?_
 ·exact ⟨_,K,x,0,([]:LF),none,0,[],rfl,fR,kr,(aH.sel [2,1,0]),List.drop_zero,(reps0 (R:=(RDFunc K)) (size:=6)),(by simp),h⟩
 ·rintro _ _ ag ⟨au,ab,B,y,c,t,u,af,rfl,rfl,ac,ah,X,av,aI,h⟩
  rcases B with _ | ⟨⟨d,C,f,g,ai,A⟩,B⟩
  ·unfold f31_l1 at h
   refine sr (bcm (r:=false) rfl rfl (congrArg some (drop_nil_lt X)) (wt (wp_seq (cndF rfl (wp_exit (thenX (thenX (blkX (thenN (sr (lN 1 ([sl t c u]) ah Tya24 Tys24 (sI 0 (.agg #[sl t c u]) #[sl t c u] ah Tys24 rfl rfl (fun bh aw=>(wt (wp_ret ?_)))))))))))))))
   obtain ⟨aJ,aK,bi,aL⟩:=shutI (i:=2) (bytes:=88) (R:=fun K=>(RDFunc K)) aw rfl (Nat.le_refl _) av aI (fun hs=>(fun _ _ h=>RDFunc.mono hs h))
   cases (oi h).trans hr_
   exact retA1 rfl (resN (i:=0) (l:=[sl t c u]) aw rfl Tya24 Tys24 rfl rfl rfl) ⟨aJ,[sl t c u],rfl,(aK.sel []),(RDProgram.intro aL)⟩
  ·unfold f31_l1 at h
   refine sr (bcm (r:=true) rfl rfl (congrArg some (drop_cons_t X)) (wt (wp_seq (cndT rfl (wp_skip (thenN (wp_seq (wp_block (sr ?_)))))))))
   obtain ⟨aM,aN,bj,aP,bk,aQ,aR⟩:=((mf aq ac)).row.at_ (drop_cons_at X)
   obtain ⟨N,O,D,G,rfl,aS,aT,aU⟩:=RDFunc.open aR
   refine idxN (b:=aM) (o:=aN) (i:=y) Tye22 Tys34 rfl aP rfl (drop_cons_lt X) (lD (vF d N C O f g ai D A G) Tya34 Tys34 rfl (fun j v hj=>ah.cell (kr.cell (aQ j v hj))) (aC zF.toArray ah Tyz34 (fun bm aV=>(sI 0 (.agg (vF d N C O f g ai D A G).toArray) ((vF d N C O f g ai D A G).toArray) aV Tys34 rfl rfl (fun bn ax=>(wt (wp_cut (fun a w=>∃ ay m,a=fr 35 (updL ay [(1,.bool z),(4,pp (zz V) 0),(5,pp (zz W) 0),(7,pp (zz ag) 0),(9,sl ae x c1),(10,iI (x.length:Int)),(11,iI (y:Int))])∧SR K ab wi w [] [.box (zz wi) (zz V) #[nS] 24,.box (zz wi) (zz W) #[sl t c u] 24,.box (zz wi) (zz ag) (vF d N C O f g m D A G).toArray 34,.row (zz wi) (sl t c u) 34 6 c.length af]∧f31_j1 k z c y d C f g A m (f31_l1 k z B)=some r_) ?_ ?_)))))))
   ·refine sr (m1 (.bool z) (uN z (wt (cd h (fun al h=>?_) (fun al h=>?_)))))
    ·exact cT al (wp_region_lit (fd 4 Tyf34_4 rfl (sI 0 (iI 0) ((vF d N C O f g 0 D A G).toArray) ax Tys3 rfl rfl (fun bo aW=>(wt (⟨_,0,fR,(aW.sel [1,2,0,3]),h⟩))))))
    ·exact cF al (wp_skip (thenN (⟨_,ai,fR,(ax.sel [1,2,0,3]),h⟩)))
   ·rintro _ bp ⟨ay,m,rfl,am,h⟩
    unfold f31_j1 at h
    refine sr (fd 1 Tyf34_1 rfl (l1 2 (sl N C O) am Tya31 ?_))
    obtain ⟨q,aX,h⟩:=ob h
    refine cv ([sl N C O]) Tyb38 ((f38_ok k) aX (hG.mono ac) aT (pt am)) ?_
    rintro _ bq ⟨br,I,J,rfl,ad,aY⟩
    have aZ:=ca ad am
    refine fd 1 Tyf34_1 rfl (sI 2 (sl I q J) ((vF d I q J f g m D A G).toArray) aZ Tys31 rfl rfl (fun bs an=>(wt (sr (fd 5 Tyf34_5 rfl (l1 2 (sl D A G) an Tya32 (m1 (.bool z) ?_)))))))
    obtain ⟨s,a2,h⟩:=ob h
    refine cv ([sl D A G,.bool z]) Tyb40 ((f40_ok k) a2 (hG.mono (ac.trans ad.sub)) (ms aU ad.sub) (pt an)) ?_
    rintro _ bu ⟨aj,S,U,rfl,ak,a3⟩
    have a4:=ca ak an
    refine fd 5 Tyf34_5 rfl (sI 2 (sl S s U) ((vF d I q J f g m S s U).toArray) a4 Tys32 rfl rfl (fun bv ao=>(wt (wp_region_lit (fd 0 Tyf24_0 rfl (l1 1 (sl t c u) ao Tya22 (lN 2 (vF d I q J f g m S s U) ao Tya34 Tys34 (bsl (e:=34) (cells:=(vF d I q J f g m S s U).toArray) (vs:=[(0,.agg (vF d I q J f g m S s U).toArray)]) ao rfl (buildSl_one Tye22 Tys34 Tyz34 rfl (by decide) (by decide) rfl) (fun bw a5=>?_)))))))))
    obtain ⟨az,h⟩:=of_guard h
    refine apR (R:=(RDFunc aj)) (p:=(DFunc.mk d q f g m s)) (i:=4) (j:=0) a5 rfl rfl Tye22 Tyi34 rfl (by decide) rfl rfl (av.mono (fun _ _ h=>RDFunc.mono (ad.sub.trans ak.sub) h)) (RDFunc.intro aS (mp aY ak.sub) a3) rfl rfl (Nat.le_refl _) az (by decide) (fun Y Z ap a6 a7 a8=>?_)
    have a9:=p1234 a7
    refine fd 0 Tyf24_0 rfl (sI 1 (.slice Y (c ++ [(DFunc.mk d q f g m s)]).length Z) #[.slice Y (c ++ [(DFunc.mk d q f g m s)]).length Z] a9 Tys22 rfl rfl (fun ba bb=>?_))
    have bd:SR K aj wi ba [] [.box (zz wi) (zz V) #[nS] 24,.box (zz wi) (zz W) #[.slice Y (c ++ [(DFunc.mk d q f g m s)]).length Z] 24,.box (zz wi) (zz ag) (vF d I q J f g m S s U).toArray 34,.row (zz wi) (.slice Y (c ++ [(DFunc.mk d q f g m s)]).length Z) 34 6 (c ++ [(DFunc.mk d q f g m s)]).length ap]:=bb
    exact wpList_nil (blkN (thenN (wp_region_lit (bar (r:=((y + 1:Nat):Int)) rfl rfl (inc_ok (le_big (((mf aq ac)).len) (by decide) (drop_cons_lt X))) (m1 (iI ((y + 1:Nat):Int)) (wt (⟨_,Nat.lt_succ_self _,_,aj,B,y + 1,(c ++ [(DFunc.mk d q f g m s)]),Y,Z,ap,rfl,fR,((ac.trans ad.sub).trans ak.sub),(bd.sel [0,1,3]),drop_cons_next X,a8,(app_bound az),h⟩)))))))
theorem f31_ok (k:Nat):f31_spec (f31 k):=f31_b_ok k
theorem f18_b_ok (k:Nat):f18_spec (f18_b k):=by
 unfold f18_spec
 intro K wi r O r_ h hG s t
 obtain ⟨a⟩:=r
 obtain ⟨b,c1,rfl,p⟩:=RDProgram.open s
 refine enter Tryd.func18 rfl (n:=8) rfl ?_
 unfold f18_b at h
 refine sr (bxoC (cs:=#[sl b a c1]) t rfl rfl (fun S u=>(aC #[nS] u Tyz24 (fun U g=>(wt (sr (lN 1 ([sl b a c1]) g Tya24 Tys24 ?_)))))))
 obtain ⟨v,w,h⟩:=ob h
 refine cv ([.agg #[sl b a c1],vT]) Tyb26 ((f26_ok k) w (hG.mono kr) (RDProgram.intro p) (pt g)) ?_
 rintro _ V ⟨W,rfl,d⟩
 have j:=ca d g
 obtain ⟨X,x,h⟩:=ob h
 refine cp ([.bool v,iI 2]) Tyb25 ((f25_ok k) x (hG.mono d.sub) (pt j)) ?_ ?_
 ·rintro _ Y ⟨Z,rfl,rfl,m⟩
  have o:=ca m j
  refine wt (sr (lN 1 ([sl b a c1]) o Tya24 Tys24 ?_))
  obtain ⟨⟨c⟩,y,h⟩:=ob h
  refine cv ([.agg #[sl b a c1],vN]) Tyb31 ((f31_ok k) y (hG.mono (d.sub.trans m.sub)) (RDProgram.intro (mf p (d.sub.trans m.sub))) (pt o)) ?_
  rintro _ ab ⟨z,ac,rfl,A,B⟩
  have C:=ca A o
  obtain ⟨e,f,rfl,D⟩:=RDProgram.open B
  exact sI 0 (.agg #[sl e c f]) #[sl e c f] C Tys24 rfl rfl (fun ad q=>(wt (wp_ret (retP (retA1 rfl (resN (i:=0) (l:=[sl e c f]) q rfl Tya24 Tys24 rfl rfl rfl) ⟨(DProgram.mk c),z,[sl e c f],(oi h).symm,rfl,(q.sel []),(RDProgram.intro D)⟩)))))
 ·rintro _ ae ⟨G,I,rfl,rfl,J⟩
  have N:=ca J j
  exact thenP (panE (.inr ⟨_,rfl,G,I,(oi h).symm,rfl,N.sel []⟩))
theorem f18_ok (k:Nat):f18_spec (f18 k):=f18_b_ok k
theorem f1001704_b_ok (k:Nat):f1001704_spec (f1001704_b k):=by
 unfold f1001704_spec
 intro K wi g bs b c d gA bsA sA_0 AsA_0 csA_0 r_ h hG j hsA_0 a
 refine enter Tryd.func17 rfl (n:=4) rfl ?_
 unfold f1001704_b at h
 refine wp_region_lit (lN 0 ([sl c b d]) a Tya24 Tys24 ?_)
 obtain ⟨x,m,h⟩:=ob h
 refine cp ([.agg #[sl c b d]]) Tyb18 ((f18_ok k) m (hG.mono kr) (RDProgram.intro j) (pt a)) ?_ ?_
 ·rintro _ y ⟨⟨e⟩,o,z,rfl,rfl,l,p⟩
  have q:=ca l a
  obtain ⟨f,i,rfl,r⟩:=RDProgram.open p
  exact sI 1 (.agg #[sl f e i]) #[sl f e i] q Tys24 rfl rfl (fun A s=>(wpList_nil (retP (end0 rfl ⟨b,e,o,c,d,f,i,(oi h).symm,rfl,s,(mf j l.sub),r⟩))))
 ·rintro _ B ⟨t,u,rfl,rfl,v⟩
  have w:=ca v a
  exact panE (.inr ⟨_,rfl,t,u,(oi h).symm,rfl,w.sel [0,1]⟩)
theorem f1001704_ok (k:Nat):f1001704_spec (f1001704 k):=f1001704_b_ok k
theorem f1001456_ok (k:Nat):f1001456_spec (f1001456 k):=by
 unfold f1001456_spec
 intro K w g bs s_0 As_0 cs_0 gA bsA sA_0 AsA_0 csA_0 oz_0 ozA_0 or0 h hG hs_0 hsA_0 S0
 unfold f1001456 at h
 obtain ⟨r_,hr_⟩ : ∃ r_,r_=f1001704 k (DProgram.mk s_0) (DProgram.mk sA_0):=⟨_,rfl⟩
 rcases r_ with _ | r_
 ·rw [← hr_] at h; cases h
 refine (guard_ok (R:=fun w K_ H_=>∃ (uz_0:List DFunc) (uzA_0:List DFunc) (uAz_0:Option Addr) (ucz_0:Nat) (uAzA_0:Option Addr) (uczA_0:Nat),r_=.ok ((DProgram.mk uz_0),(DProgram.mk uzA_0))∧H_=[.box bs g #[.slice uAz_0 uz_0.length ucz_0] 24,.box bsA gA #[.slice uAzA_0 uzA_0.length uczA_0] 24]∧tF K_ uAz_0 ucz_0 uz_0∧tF K_ uAzA_0 uczA_0 uzA_0) (R':=fun c_ K_ H_=>r_=.error c_∧H_=[.box bs g #[.slice As_0 s_0.length cs_0] 24,.box bsA gA #[.slice AsA_0 sA_0.length csA_0] 24]) Tyb17 S0 (fun w1 S1 hle=>((f1001704_ok k) hr_.symm hG hs_0 hsA_0 S1).mono ?_)).mono ?_
 ·rintro e_ w_ (⟨v_,rfl,uz_0,uzA_0,K_,uAz_0,ucz_0,uAzA_0,uczA_0,q1,q2,T_,k0,k1⟩ | ⟨v_,rfl,c_,K_,q1,q2,T_⟩)
  ·exact .inl ⟨v_,rfl,K_,_,T_,uz_0,uzA_0,uAz_0,ucz_0,uAzA_0,uczA_0,q1,rfl,k0,k1⟩
  ·exact .inr ⟨v_,rfl,c_,K_,_,q2,T_,q1,rfl⟩
 ·rintro e_ w_ ⟨v_,rfl,⟨w1,K_,H_,hle,rfl,T_,uz_0,uzA_0,uAz_0,ucz_0,uAzA_0,uczA_0,rfl,rfl,k0,k1⟩ | ⟨c_,K_,H_,rfl,T_,rfl,rfl⟩⟩
  ·rw [← hr_] at h
   cases h
   exact ⟨_,rfl,K_,uAz_0,ucz_0,uAzA_0,uczA_0,rfl,T_,k0,k1⟩
  ·rw [← hr_] at h
   cases h
   exact ⟨_,rfl,K_,_,_,_,_,rfl,T_,(hs_0.mono T_.sub (fun _ _ h=>RDFunc.mono T_.sub h)),(hsA_0.mono T_.sub (fun _ _ h=>RDFunc.mono T_.sub h))⟩
theorem f8_b_ok (k:Nat):f8_spec (f8_b k):=by
 unfold f8_spec
 intro K wi p A B C h hG q r
 obtain ⟨r_,hr_,h⟩:=rz h
 obtain ⟨f⟩:=p
 obtain ⟨g,c1,rfl,s⟩:=RDProgram.open q
 refine enter Tryd.func8 rfl (n:=8) rfl ?_
 unfold f8_b at h
 refine sr (bxoC (cs:=#[sl g f c1]) r rfl rfl (fun d t=>(aC #[nS] t Tyz24 (fun u v=>(m2 (iI 0) (wt (sr (mkf (us:=[]) (vs:=[pp (zz wi) 0,pp (zz d) 0]) rfl rfl ?_))))))))
 have j:=p10 v
 obtain ⟨⟨⟨D⟩,⟨a⟩,e⟩,w,h⟩:=ob h
 refine cv ([.func (.func 17) #[] #[pp (zz wi) 0,pp (zz d) 0]]) Tyb14 ((f1001456_ok k) w (hG.mono kr) s (RSl.nil _ _ _ _ _ _) (pt j)) ?_
 rintro _ G ⟨x,I,J,b,c,rfl,y,N,z⟩
 have m:=ca y j
 refine m2 (iI e) (wt (sr (lN 1 ([sl b a c]) m Tya24 Tys24 (m1 (iI e) (sI 1 (.agg #[sl b a c]) #[sl b a c] m Tys24 rfl rfl (fun O o=>(m2 (iI e) (wt (wp_ret ?_)))))))))
 cases (oi h).trans hr_
 exact retA2 rfl (resN (i:=1) (l:=[sl b a c]) o rfl Tya24 Tys24 rfl rfl rfl) (resT rfl) ⟨x,[sl b a c],rfl,(o.sel []),(RDProgram.intro z)⟩
theorem f8_ok (k:Nat):f8_spec (f8 k):=f8_b_ok k
theorem f32_b_ok (k:Nat) (F:Fam32) (IH32:f32_spec F.f32) (IH41:f41_spec F.f41):f32_spec (f32_b k F):=by
 unfold f32_spec
 intro K wi d l m f t u av h hG ab an ac
 obtain ⟨r_,hr_,h⟩:=rz h
 refine enter Tryd.func32 rfl (n:=27) rfl ?_
 unfold f32_b at h
 refine sr (m2 vN (wt (wp_seq (sr (m1 (sl l d m) (lS d.length Tye44 (m1 (sl t f u) (lS f.length Tye44 (c0 ((d.length:Int) != (f.length:Int)) (wt (cd h (fun z h=>?_) (fun z h=>?_))))))))))))
 ·refine cT z (sr (m2 vN (wt (wp_ret (thenR ?_)))))
  cases (oi h).trans hr_
  exact retA1 rfl (resT rfl) ⟨K,rfl,ac⟩
 ·refine cF z (wp_skip (thenN (wp_seq (sr (m2 (iI 0) (wt (wp_block (wp_loopG (fun g_ a w=>∃ ad q g,∃ (c:Nat),g_=g.length∧a=fr 27 (updL ad [(0,sl l d m),(1,sl t f u),(5,iI (c:Int))])∧KH.sub K q∧SR K q wi w [] []∧d.drop c=g∧f32_l1 k F f g c=some r_) d.length ?_ ?_))))))))
  ·exact ⟨_,K,d,0,rfl,fR,kr,ac,List.drop_zero,h⟩
  ·rintro _ _ aw ⟨ad,q,g,c,rfl,rfl,s,ae,p,h⟩
   rcases g with _ | ⟨⟨A,B,C,D,G⟩,g⟩
   ·unfold f32_l1 at h
    refine wp_seq (sr (m1 (iI (c:Int)) (m1 (sl l d m) (lS d.length Tye44 (bcm (r:=false) rfl rfl (congrArg some (drop_nil_lt p)) (wt (cndF rfl (wp_exit (thenX (thenX (blkX (thenN (sr (m2 vT (wt (wp_ret ?_))))))))))))))))
    cases (oi h).trans hr_
    exact retA1 rfl (resT rfl) ⟨q,rfl,ae⟩
   ·unfold f32_l1 at h
    refine wp_seq (sr (m1 (iI (c:Int)) (m1 (sl l d m) (lS d.length Tye44 (bcm (r:=true) rfl rfl (congrArg some (drop_cons_t p)) (wt (cndT rfl (wp_skip (thenN (wp_seq (wp_block (wp_seq (have e:=ae.drew;(regAny (E:=[]) (F:=FW q []) (L:=(lb 10 0)) ymx rfl rfl (tk 0 (sl l d m) (lb 10 1) rfl (fun w=>mv_r (v:=sl l d m) rfl) (heldF (fq [] e)) (tk 1 (iI (c:Int)) (lb 10 3) rfl (fun w=>mv_r (v:=iI (c:Int)) rfl) (heldF (fq [] e)) ?_))))))))))))))))
    obtain ⟨af,ag,ax,ao,ay,ap,ah⟩:=((me ab s)).row.at_ (drop_cons_at p)
    obtain ⟨I,J,rfl,az,aA⟩:=RDExpr.open ah
    refine tk 2 (pp af (ag + c * 5)) (lb 10 7) rfl (fun w=>idxN_r (b:=af) (o:=ag) (i:=c) Tye44 Tys61 rfl ao rfl (drop_cons_lt p)) (heldF (fq [] e)) (tf 3 (.agg (vE A B C D I G J).toArray) ([]) (lb 10 15) rfl (fq [] e) (fun w hF=>ldN_r (cs:=(vE A B C D I G J)) Tya61 Tys61 rfl rfl (fun j v hj=>hF.cell (kr.cell (ap j v hj)))) (tk 4 (sl t f u) (lb 10 31) rfl (fun w=>mv_r (v:=sl t f u) rfl) (heldF (fq [] e)) (tk 5 (iI (c:Int)) (lb 10 63) rfl (fun w=>mv_r (v:=iI (c:Int)) rfl) (heldF (fq [] e)) ?_)))
    obtain ⟨⟨N,O,S,U,V⟩,W,h⟩:=ob h
    obtain ⟨ai,aj,aB,aq,aE,ar,ak⟩:=((me an s)).row.at_ (idxO_at W).1
    obtain ⟨X,Y,rfl,aF,aG⟩:=RDExpr.open ak
    refine tk 6 (.pointer (some ⟨ai,aj + (c:Int).toNat * 5,none⟩)) (lb 10 127) rfl (fun w=>idxG_r (b:=ai) (o:=aj) (i:=(c:Int)) Tye44 Tys61 rfl aq rfl (idxO_at W).2.1 (idxO_at W).2.2) (heldF (fq [] e)) (tf 7 (.agg (vE N O S U X V Y).toArray) ([]) (lb 10 255) rfl (fq [] e) (fun w hF=>ldN_r (cs:=(vE N O S U X V Y)) Tya61 Tys61 rfl rfl (fun j v hj=>hF.cell (kr.cell (ar j v hj)))) (aO 8 rfl ?_))
    obtain ⟨al,au,h⟩:=ob h
    refine cv ([.agg (vE A B C D I G J).toArray,.agg (vE N O S U X V Y).toArray]) Tyb41 (IH41 au (hG.mono s) ah ak (pt e)) ?_
    rintro _ aH ⟨am,rfl,x⟩
    have y:=ca x e
    refine wt ⟨heldF (fwOf (is:=[]) y x.sub rfl),tk 9 (.bool (!al)) (lb 10 1023) rfl (fun w=>unot_r (a:=al) rfl) (heldF (fwOf (is:=[]) y x.sub rfl)) (aD (thenN (cd h (fun Z h=>?_) (fun Z h=>?_))))⟩
    ·refine cT Z (sr (m2 vN (wt (wp_ret (blkR (thenR (thenR (blkR (thenR ?_)))))))))
     cases (oi h).trans hr_
     exact retA1 rfl (resT rfl) ⟨am,rfl,y⟩
    ·exact cF Z (wp_skip (blkN (thenN (wp_region_lit (m1 (iI (c:Int)) (bar (r:=((c + 1:Nat):Int)) rfl rfl (inc_ok (le_big (((me ab s)).len) (by decide) (drop_cons_lt p))) (m2 (iI ((c + 1:Nat):Int)) (wt (⟨_,Nat.lt_succ_self _,_,am,g,c + 1,rfl,fR,(s.trans x.sub),y,drop_cons_next p,h⟩)))))))))
theorem f41_b_ok (k:Nat) (F:Fam32) (IH32:f32_spec F.f32) (IH41:f41_spec F.f41):f41_spec (f41_b k F):=by
 unfold f41_spec
 intro K wi G ab I ac ad h hG J N O
 obtain ⟨r_,hr_,h⟩:=rz h
 obtain ⟨p,g,i,j,t⟩:=G
 obtain ⟨u,v,rfl,ae,S⟩:=RDExpr.open J
 obtain ⟨q,l,m,o,x⟩:=I
 obtain ⟨y,z,rfl,af,U⟩:=RDExpr.open N
 refine enter Tryd.func41 rfl (n:=38) rfl ?_
 unfold f41_b at h
 refine sr (bxoC (cs:=(vE p g i j u t v).toArray) O rfl rfl (fun ag V=>(bxoC (cs:=(vE q l m o y x z).toArray) V rfl rfl (fun ah b=>(m2 vN (wt (wp_cut (fun a w=>∃ C s A,a=fr 38 (updL C [(4,.bool A)])∧KH.sub K s∧SR K s wi w [] []∧f41_j1 k F A=some r_) ?_ ?_)))))))
 ·refine wp_region_lit (fd 0 Tyf61_0 rfl (l1 1 (iI p) b Tya3 (fd 0 Tyf61_0 rfl (l1 0 (iI q) b Tya3 (c0 (p == q) (m1 (.bool (p == q)) (cd h (fun c h=>?_) (fun c h=>?_))))))))
  ·refine n1 10 c (fd 1 Tyf61_1 rfl (n1 10 c (l1 1 (iI g) b Tya3 (n1 10 c (fd 1 Tyf61_1 rfl (n1 10 c (l1 0 (iI l) b Tya3 (n1 10 c (c0 (g == l) (m3 true (.bool (g == l)) (cg c) (m1 (.bool (g == l)) (cd h (fun d h=>?_) (fun d h=>?_)))))))))))))
   ·refine n1 17 d (fd 2 Tyf61_2 rfl (n1 17 d (l1 1 (.string i) b Tya9 (n1 17 d (fd 2 Tyf61_2 rfl (n1 17 d (l1 0 (.string m) b Tya9 (n1 17 d (bsc (r:=(seq i m)) rfl rfl rfl (m3 true (.bool (seq i m)) (cg d) (m1 (.bool (seq i m)) (cd h (fun e h=>?_) (fun e h=>?_)))))))))))))
    ·refine n1 24 e (fd 3 Tyf61_3 rfl (n1 24 e (l1 1 (iI j) b Tya3 (n1 24 e (fd 3 Tyf61_3 rfl (n1 24 e (l1 0 (iI o) b Tya3 (n1 24 e (c0 (j == o) (m3 true (.bool (j == o)) (cg e) (m1 (.bool (j == o)) (cd h (fun f h=>?_) (fun f h=>?_)))))))))))))
     ·refine n1 31 f (fd 4 Tyf61_4 rfl (n1 31 f (l1 1 (sl u t v) b Tya44 (n1 31 f (fd 4 Tyf61_4 rfl (n1 31 f (l1 0 (sl y x z) b Tya44 (n1 31 f ?_))))))))
      obtain ⟨B,W,h⟩:=ob h
      refine cv ([sl u t v,sl y x z]) Tyb32 (IH32 W (hG.mono kr) S U (pt b)) ?_
      rintro _ ai ⟨X,rfl,D⟩
      have Y:=ca D b
      exact m3 true (.bool B) (cg f) (m2 (.bool B) (wt (⟨_,X,B,fR,D.sub,(Y.sel []),h⟩)))
     ·exact o1 31 f (o1 31 f (o1 31 f (o1 31 f (o1 31 f (m3 false vN (cg f) (m2 vN (wt (⟨_,K,false,fR,kr,(b.sel []),h⟩))))))))
    ·exact o1 24 e (o1 24 e (o1 24 e (o1 24 e (o1 24 e (m3 false vN (cg e) (m1 vN (o0 31 (o0 31 (o0 31 (o0 31 (o0 31 (m3 false vN rfl (m2 vN (wt (⟨_,K,false,fR,kr,(b.sel []),h⟩)))))))))))))))
   ·exact o1 17 d (o1 17 d (o1 17 d (o1 17 d (o1 17 d (m3 false vN (cg d) (m1 vN (o0 24 (o0 24 (o0 24 (o0 24 (o0 24 (m3 false vN rfl (m1 vN (o0 31 (o0 31 (o0 31 (o0 31 (o0 31 (m3 false vN rfl (m2 vN (wt (⟨_,K,false,fR,kr,(b.sel []),h⟩))))))))))))))))))))))
  ·exact o1 10 c (o1 10 c (o1 10 c (o1 10 c (o1 10 c (m3 false vN (cg c) (m1 vN (o0 17 (o0 17 (o0 17 (o0 17 (o0 17 (m3 false vN rfl (m1 vN (o0 24 (o0 24 (o0 24 (o0 24 (o0 24 (m3 false vN rfl (m1 vN (o0 31 (o0 31 (o0 31 (o0 31 (o0 31 (m3 false vN rfl (m2 vN (wt (⟨_,K,false,fR,kr,(b.sel []),h⟩)))))))))))))))))))))))))))))
 ·rintro _ aj ⟨C,s,A,rfl,ak,Z,h⟩
  unfold f41_j1 at h
  refine wp_ret ?_
  cases (oi h).trans hr_
  exact retA1 rfl (resT rfl) ⟨s,rfl,Z⟩
theorem fam32_ok (k0:Nat) : ∀ k,f32_spec (fam32 k0 k).f32∧f41_spec (fam32 k0 k).f41:=by
 intro k
 induction k with
 | zero=>exact ⟨(by unfold f32_spec; intro _ _ _ _ _ _ _ _ _ h_; cases h_),(by unfold f41_spec; intro _ _ _ _ _ _ _ h_; cases h_)⟩
 | succ k ih=>exact ⟨f32_b_ok k0 (fam32 k0 k) ih.1 ih.2,f41_b_ok k0 (fam32 k0 k) ih.1 ih.2⟩
theorem f32_ok (k:Nat):f32_spec (f32 k):=(fam32_ok k k).1
theorem f41_ok (k:Nat):f41_spec (f41 k):=(fam32_ok k k).2
theorem f19_b_ok (k:Nat) (F:Fam19) (IH19:f19_spec F.f19):f19_spec (f19_b k F):=by
 unfold f19_spec
 intro K wi a4 b2 b3 a5 cy cz fE h hG eq eR es
 obtain ⟨r_,hr_,h⟩:=rz h
 refine enter Tryd.func19 rfl (n:=161) rfl ?_
 unfold f19_b at h
 refine sr (m2 vN (wt (wp_seq (sr (m1 (sl b2 a4 b3) (lS a4.length Tye32 (m1 (sl cy a5 cz) (lS a5.length Tye32 (c0 ((a4.length:Int) != (a5.length:Int)) (wt (cd h (fun dY h=>?_) (fun dY h=>?_))))))))))))
 ·refine cT dY (sr (m2 vN (wt (wp_ret (thenR ?_)))))
  cases (oi h).trans hr_
  exact retA1 rfl (resT rfl) ⟨K,rfl,es⟩
 ·refine cF dY (wp_skip (thenN (wp_seq (sr (m2 (iI 0) (wt (wp_block (wp_loopG (fun g_ a w=>∃ et D bE,∃ (ao:Nat),g_=bE.length∧a=fr 161 (updL et [(0,sl b2 a4 b3),(1,sl cy a5 cz),(5,iI (ao:Int))])∧KH.sub K D∧SR K D wi w [] []∧a4.drop ao=bE∧f19_l1 k F a5 bE ao=some r_) a4.length ?_ ?_))))))))
  ·exact ⟨_,K,a4,0,rfl,fR,kr,es,List.drop_zero,h⟩
  ·rintro _ _ cJ ⟨et,D,bE,ao,rfl,rfl,cA,eu,dm,h⟩
   rcases bE with _ | ⟨⟨aq,ar,au,av,aw,ax,ay,az,aA,aB,aE⟩,bE⟩
   ·unfold f19_l1 at h
    refine wp_seq (sr (m1 (iI (ao:Int)) (m1 (sl b2 a4 b3) (lS a4.length Tye32 (bcm (r:=false) rfl rfl (congrArg some (drop_nil_lt dm)) (wt (cndF rfl (wp_exit (thenX (thenX (blkX (thenN (sr (m2 vT (wt (wp_ret ?_))))))))))))))))
    cases (oi h).trans hr_
    exact retA1 rfl (resT rfl) ⟨D,rfl,eu⟩
   ·unfold f19_l1 at h
    refine wp_seq (sr (m1 (iI (ao:Int)) (m1 (sl b2 a4 b3) (lS a4.length Tye32 (bcm (r:=true) rfl rfl (congrArg some (drop_cons_t dm)) (wt (cndT rfl (wp_skip (thenN (wp_seq (wp_block (wp_cut (fun a w=>∃ ew bo b4 bx bF bz bG bH b5 b9 cb bI cc ce bJ cf ch bK ci cj aF bA bB bp b6 bC bL bD bM bN b7 ck cl bO cm cn bP co cq bQ cr ct ap bb bd,a=fr 161 (updL ew [(0,sl b2 a4 b3),(1,sl cy a5 cz),(5,iI (ao:Int)),(6,pp bo 0),(7,pp bp 0)])∧SR K D wi w [] [.box (zz wi) bo (vS b4 bx bF bz bG bH b9 b5 cb cc bI ce cf bJ ch ci bK cj bA aF bB).toArray 47,.box (zz wi) bp (vS b6 bC bL bD bM bN ck b7 cl cm bO cn co bP cq cr bQ ct bb ap bd).toArray 47]∧bx.size ≤ mB∧bz.size ≤ mB∧tE D b9 cb b5∧tS D cc ce bI∧tS D cf ch bJ∧tS D ci cj bK∧tC D bA bB aF∧bC.size ≤ mB∧bD.size ≤ mB∧tE D ck cl b7∧tS D cm cn bO∧tS D co cq bP∧tS D cr ct bQ∧tC D bb bd ap∧f19_j1 k F ao b4 bx bF bz bG bH b5 bI bJ bK aF b6 bC bL bD bM bN b7 bO bP bQ ap (f19_l1 k F a5 bE)=some r_) ?_ ?_))))))))))))
    ·have bR:=eu.drew
     refine regAny (E:=[10,11]) (F:=FW D []) (L:=(lb 12 0)) ymx rfl rfl (tk 0 (sl b2 a4 b3) (lb 12 1) rfl (fun w=>mv_r (v:=sl b2 a4 b3) rfl) (heldF (fq [] bR)) (tk 1 (iI (ao:Int)) (lb 12 3) rfl (fun w=>mv_r (v:=iI (ao:Int)) rfl) (heldF (fq [] bR)) ?_))
     obtain ⟨ex,ey,fF,eS,fG,eT,eU⟩:=((ms eq cA)).row.at_ (drop_cons_at dm)
     obtain ⟨aG,aH,aI,aJ,aK,aL,aM,aN,aP,aQ,rfl,cK,cL,cM,cN,cO,cP,cQ⟩:=RDStmt.open eU
     refine tk 2 (pp ex (ey + ao * 11)) (lb 12 7) rfl (fun w=>idxN_r (b:=ex) (o:=ey) (i:=ao) Tye32 Tys47 rfl eS rfl (drop_cons_lt dm)) (heldF (fq [] bR)) (tf 3 (.agg (vS aq ar au av aw ax aG ay aH aI az aJ aK aA aL aM aB aN aP aE aQ).toArray) ([[10,3],[11,3]]) (lb 12 15) rfl (fq [] bR) (fun w hF=>ldN_r (cs:=(vS aq ar au av aw ax aG ay aH aI az aJ aK aA aL aM aB aN aP aE aQ)) Tya47 Tys47 rfl rfl (fun j v hj=>hF.cell (kr.cell (eT j v hj)))) (tk 4 (sl cy a5 cz) (lb 12 31) rfl (fun w=>mv_r (v:=sl cy a5 cz) rfl) (heldF (fq [] bR)) (tk 5 (iI (ao:Int)) (lb 12 63) rfl (fun w=>mv_r (v:=iI (ao:Int)) rfl) (heldF (fq [] bR)) ?_)))
     obtain ⟨⟨G,I,J,N,O,S,U,V,W,X,Y⟩,dZ,h⟩:=ob h
     obtain ⟨ez,eA,fH,eV,fI,c6,eW⟩:=((ms eR cA)).row.at_ (idxO_at dZ).1
     obtain ⟨Z,ab,ac,ad,ae,af,ag,ah,ai,aj,rfl,cR,cS,cU,cV,cW,cX,cY⟩:=RDStmt.open eW
     refine tk 6 (.pointer (some ⟨ez,eA + (ao:Int).toNat * 11,none⟩)) (lb 12 127) rfl (fun w=>idxG_r (b:=ez) (o:=eA) (i:=(ao:Int)) Tye32 Tys47 rfl eV rfl (idxO_at dZ).2.1 (idxO_at dZ).2.2) (heldF (fq [] bR)) (anyAll (rs:=[7,8,9]) (by kernel_rfl) (by decide) (allC ?_ (allC ?_ (allC ?_ allN))))
     ·refine opL (i:=7) rfl (lD (vS G I J N O S Z U ab ac V ad ae W af ag X ah ai Y aj) Tya47 Tys47 rfl (fun j v hj=>bR.cell (kr.cell (c6 j v hj))) (wt ⟨heldF (fq [] bR),anyAll (rs:=[8,9]) (by kernel_rfl) (by decide) (allC ?_ (allC ?_ allN))⟩))
      ·exact opL (i:=8) rfl (aC zS.toArray bR Tyz47 (fun cu be=>(wt ⟨heldF (fq [] be),aO 9 rfl (aC zS.toArray be Tyz47 (fun dx aV=>(wt ⟨heldF (fq [] aV),aO 10 rfl (sI 1 (.agg (vS aq ar au av aw ax aG ay aH aI az aJ aK aA aL aM aB aN aP aE aQ).toArray) ((vS aq ar au av aw ax aG ay aH aI az aJ aK aA aL aM aB aN aP aE aQ).toArray) aV Tys47 rfl rfl (fun c7 bf=>(wt ⟨heldE (i:=10) rfl rfl,aO 11 rfl (sI 0 (.agg (vS G I J N O S Z U ab ac V ad ae W af ag X ah ai Y aj).toArray) ((vS G I J N O S Z U ab ac V ad ae W af ag X ah ai Y aj).toArray) bf Tys47 rfl rfl (fun c8 bq=>(wt ⟨heldE (i:=11) rfl rfl,aD (thenN (⟨_,(zz cJ.drew),aq,ar,au,av,aw,ax,ay,aG,aH,az,aI,aJ,aA,aK,aL,aB,aM,aN,aE,aP,aQ,(zz cu),G,I,J,N,O,S,U,Z,ab,V,ac,ad,W,ae,af,X,ag,ah,Y,ai,aj,fR,(bq.sel [1,0]),cK,cL,cM,cN,cO,cP,cQ,cR,cS,cU,cV,cW,cX,cY,h⟩))⟩)))⟩)))⟩)))⟩)))
      ·exact opL (i:=9) rfl (aC zS.toArray bR Tyz47 (fun cu be=>(wt ⟨heldF (fq [] be),aO 8 rfl (aC zS.toArray be Tyz47 (fun dx aV=>(wt ⟨heldF (fq [] aV),aO 10 rfl (sI 0 (.agg (vS aq ar au av aw ax aG ay aH aI az aJ aK aA aL aM aB aN aP aE aQ).toArray) ((vS aq ar au av aw ax aG ay aH aI az aJ aK aA aL aM aB aN aP aE aQ).toArray) aV Tys47 rfl rfl (fun c7 bf=>(wt ⟨heldE (i:=10) rfl rfl,aO 11 rfl (sI 1 (.agg (vS G I J N O S Z U ab ac V ad ae W af ag X ah ai Y aj).toArray) ((vS G I J N O S Z U ab ac V ad ae W af ag X ah ai Y aj).toArray) bf Tys47 rfl rfl (fun c8 bq=>(wt ⟨heldE (i:=11) rfl rfl,aD (thenN (⟨_,(zz cu),aq,ar,au,av,aw,ax,ay,aG,aH,az,aI,aJ,aA,aK,aL,aB,aM,aN,aE,aP,aQ,(zz cJ.drew),G,I,J,N,O,S,U,Z,ab,V,ac,ad,W,ae,af,X,ag,ah,Y,ai,aj,fR,bq,cK,cL,cM,cN,cO,cP,cQ,cR,cS,cU,cV,cW,cX,cY,h⟩))⟩)))⟩)))⟩)))⟩)))
     ·refine opL (i:=8) rfl (aC zS.toArray bR Tyz47 (fun cu be=>(wt ⟨heldF (fq [] be),anyAll (rs:=[7,9]) (by kernel_rfl) (by decide) (allC ?_ (allC ?_ allN))⟩)))
      ·exact opL (i:=7) rfl (lD (vS G I J N O S Z U ab ac V ad ae W af ag X ah ai Y aj) Tya47 Tys47 rfl (fun j v hj=>be.cell (kr.cell (c6 j v hj))) (wt ⟨heldF (fq [] be),aO 9 rfl (aC zS.toArray be Tyz47 (fun dx aV=>(wt ⟨heldF (fq [] aV),aO 10 rfl (sI 1 (.agg (vS aq ar au av aw ax aG ay aH aI az aJ aK aA aL aM aB aN aP aE aQ).toArray) ((vS aq ar au av aw ax aG ay aH aI az aJ aK aA aL aM aB aN aP aE aQ).toArray) aV Tys47 rfl rfl (fun c7 bf=>(wt ⟨heldE (i:=10) rfl rfl,aO 11 rfl (sI 0 (.agg (vS G I J N O S Z U ab ac V ad ae W af ag X ah ai Y aj).toArray) ((vS G I J N O S Z U ab ac V ad ae W af ag X ah ai Y aj).toArray) bf Tys47 rfl rfl (fun c8 bq=>(wt ⟨heldE (i:=11) rfl rfl,aD (thenN (⟨_,(zz cJ.drew),aq,ar,au,av,aw,ax,ay,aG,aH,az,aI,aJ,aA,aK,aL,aB,aM,aN,aE,aP,aQ,(zz cu),G,I,J,N,O,S,U,Z,ab,V,ac,ad,W,ae,af,X,ag,ah,Y,ai,aj,fR,(bq.sel [1,0]),cK,cL,cM,cN,cO,cP,cQ,cR,cS,cU,cV,cW,cX,cY,h⟩))⟩)))⟩)))⟩)))⟩))
      ·refine opL (i:=9) rfl (aC zS.toArray be Tyz47 (fun dx aV=>(wt ⟨heldF (fq [] aV),anyAll (rs:=[7,10]) (by kernel_rfl) (by decide) (allC ?_ (allC ?_ allN))⟩)))
       ·exact opL (i:=7) rfl (lD (vS G I J N O S Z U ab ac V ad ae W af ag X ah ai Y aj) Tya47 Tys47 rfl (fun j v hj=>aV.cell (kr.cell (c6 j v hj))) (wt ⟨heldF (fq [] aV),aO 10 rfl (sI 1 (.agg (vS aq ar au av aw ax aG ay aH aI az aJ aK aA aL aM aB aN aP aE aQ).toArray) ((vS aq ar au av aw ax aG ay aH aI az aJ aK aA aL aM aB aN aP aE aQ).toArray) aV Tys47 rfl rfl (fun c7 bf=>(wt ⟨heldE (i:=10) rfl rfl,aO 11 rfl (sI 0 (.agg (vS G I J N O S Z U ab ac V ad ae W af ag X ah ai Y aj).toArray) ((vS G I J N O S Z U ab ac V ad ae W af ag X ah ai Y aj).toArray) bf Tys47 rfl rfl (fun c8 bq=>(wt ⟨heldE (i:=11) rfl rfl,aD (thenN (⟨_,(zz cJ.drew),aq,ar,au,av,aw,ax,ay,aG,aH,az,aI,aJ,aA,aK,aL,aB,aM,aN,aE,aP,aQ,(zz cu),G,I,J,N,O,S,U,Z,ab,V,ac,ad,W,ae,af,X,ag,ah,Y,ai,aj,fR,(bq.sel [1,0]),cK,cL,cM,cN,cO,cP,cQ,cR,cS,cU,cV,cW,cX,cY,h⟩))⟩)))⟩)))⟩))
       ·exact opL (i:=10) rfl (sI 1 (.agg (vS aq ar au av aw ax aG ay aH aI az aJ aK aA aL aM aB aN aP aE aQ).toArray) ((vS aq ar au av aw ax aG ay aH aI az aJ aK aA aL aM aB aN aP aE aQ).toArray) aV Tys47 rfl rfl (fun c7 bf=>(wt ⟨heldE (i:=10) rfl rfl,aO 7 rfl (lD (vS G I J N O S Z U ab ac V ad ae W af ag X ah ai Y aj) Tya47 Tys47 rfl (fun j v hj=>bf.cell (kr.cell (c6 j v hj))) (wt ⟨heldE (i:=10) rfl rfl,aO 11 rfl (sI 0 (.agg (vS G I J N O S Z U ab ac V ad ae W af ag X ah ai Y aj).toArray) ((vS G I J N O S Z U ab ac V ad ae W af ag X ah ai Y aj).toArray) bf Tys47 rfl rfl (fun c8 bq=>(wt ⟨heldE (i:=11) rfl rfl,aD (thenN (⟨_,(zz cJ.drew),aq,ar,au,av,aw,ax,ay,aG,aH,az,aI,aJ,aA,aK,aL,aB,aM,aN,aE,aP,aQ,(zz cu),G,I,J,N,O,S,U,Z,ab,V,ac,ad,W,ae,af,X,ag,ah,Y,ai,aj,fR,(bq.sel [1,0]),cK,cL,cM,cN,cO,cP,cQ,cR,cS,cU,cV,cW,cX,cY,h⟩))⟩)))⟩))⟩)))
     ·refine opL (i:=9) rfl (aC zS.toArray bR Tyz47 (fun cu be=>(wt ⟨heldF (fq [] be),anyAll (rs:=[7,8]) (by kernel_rfl) (by decide) (allC ?_ (allC ?_ allN))⟩)))
      ·exact opL (i:=7) rfl (lD (vS G I J N O S Z U ab ac V ad ae W af ag X ah ai Y aj) Tya47 Tys47 rfl (fun j v hj=>be.cell (kr.cell (c6 j v hj))) (wt ⟨heldF (fq [] be),aO 8 rfl (aC zS.toArray be Tyz47 (fun dx aV=>(wt ⟨heldF (fq [] aV),aO 10 rfl (sI 0 (.agg (vS aq ar au av aw ax aG ay aH aI az aJ aK aA aL aM aB aN aP aE aQ).toArray) ((vS aq ar au av aw ax aG ay aH aI az aJ aK aA aL aM aB aN aP aE aQ).toArray) aV Tys47 rfl rfl (fun c7 bf=>(wt ⟨heldE (i:=10) rfl rfl,aO 11 rfl (sI 1 (.agg (vS G I J N O S Z U ab ac V ad ae W af ag X ah ai Y aj).toArray) ((vS G I J N O S Z U ab ac V ad ae W af ag X ah ai Y aj).toArray) bf Tys47 rfl rfl (fun c8 bq=>(wt ⟨heldE (i:=11) rfl rfl,aD (thenN (⟨_,(zz cu),aq,ar,au,av,aw,ax,ay,aG,aH,az,aI,aJ,aA,aK,aL,aB,aM,aN,aE,aP,aQ,(zz cJ.drew),G,I,J,N,O,S,U,Z,ab,V,ac,ad,W,ae,af,X,ag,ah,Y,ai,aj,fR,bq,cK,cL,cM,cN,cO,cP,cQ,cR,cS,cU,cV,cW,cX,cY,h⟩))⟩)))⟩)))⟩)))⟩))
      ·refine opL (i:=8) rfl (aC zS.toArray be Tyz47 (fun dx aV=>(wt ⟨heldF (fq [] aV),anyAll (rs:=[7,10]) (by kernel_rfl) (by decide) (allC ?_ (allC ?_ allN))⟩)))
       ·exact opL (i:=7) rfl (lD (vS G I J N O S Z U ab ac V ad ae W af ag X ah ai Y aj) Tya47 Tys47 rfl (fun j v hj=>aV.cell (kr.cell (c6 j v hj))) (wt ⟨heldF (fq [] aV),aO 10 rfl (sI 0 (.agg (vS aq ar au av aw ax aG ay aH aI az aJ aK aA aL aM aB aN aP aE aQ).toArray) ((vS aq ar au av aw ax aG ay aH aI az aJ aK aA aL aM aB aN aP aE aQ).toArray) aV Tys47 rfl rfl (fun c7 bf=>(wt ⟨heldE (i:=10) rfl rfl,aO 11 rfl (sI 1 (.agg (vS G I J N O S Z U ab ac V ad ae W af ag X ah ai Y aj).toArray) ((vS G I J N O S Z U ab ac V ad ae W af ag X ah ai Y aj).toArray) bf Tys47 rfl rfl (fun c8 bq=>(wt ⟨heldE (i:=11) rfl rfl,aD (thenN (⟨_,(zz cu),aq,ar,au,av,aw,ax,ay,aG,aH,az,aI,aJ,aA,aK,aL,aB,aM,aN,aE,aP,aQ,(zz cJ.drew),G,I,J,N,O,S,U,Z,ab,V,ac,ad,W,ae,af,X,ag,ah,Y,ai,aj,fR,bq,cK,cL,cM,cN,cO,cP,cQ,cR,cS,cU,cV,cW,cX,cY,h⟩))⟩)))⟩)))⟩))
       ·exact opL (i:=10) rfl (sI 0 (.agg (vS aq ar au av aw ax aG ay aH aI az aJ aK aA aL aM aB aN aP aE aQ).toArray) ((vS aq ar au av aw ax aG ay aH aI az aJ aK aA aL aM aB aN aP aE aQ).toArray) aV Tys47 rfl rfl (fun c7 bf=>(wt ⟨heldE (i:=10) rfl rfl,aO 7 rfl (lD (vS G I J N O S Z U ab ac V ad ae W af ag X ah ai Y aj) Tya47 Tys47 rfl (fun j v hj=>bf.cell (kr.cell (c6 j v hj))) (wt ⟨heldE (i:=10) rfl rfl,aO 11 rfl (sI 1 (.agg (vS G I J N O S Z U ab ac V ad ae W af ag X ah ai Y aj).toArray) ((vS G I J N O S Z U ab ac V ad ae W af ag X ah ai Y aj).toArray) bf Tys47 rfl rfl (fun c8 bq=>(wt ⟨heldE (i:=11) rfl rfl,aD (thenN (⟨_,(zz cu),aq,ar,au,av,aw,ax,ay,aG,aH,az,aI,aJ,aA,aK,aL,aB,aM,aN,aE,aP,aQ,(zz cJ.drew),G,I,J,N,O,S,U,Z,ab,V,ac,ad,W,ae,af,X,ag,ah,Y,ai,aj,fR,bq,cK,cL,cM,cN,cO,cP,cQ,cR,cS,cU,cV,cW,cX,cY,h⟩))⟩)))⟩))⟩)))
    ·rintro _ fJ ⟨ew,bo,b4,bx,bF,bz,bG,bH,b5,b9,cb,bI,cc,ce,bJ,cf,ch,bK,ci,cj,aF,bA,bB,bp,b6,bC,bL,bD,bM,bN,b7,ck,cl,bO,cm,cn,bP,co,cq,bQ,cr,ct,ap,bb,bd,rfl,aW,fK,fL,eX,eY,eZ,e0,eB,fM,fN,e1,e2,e3,e4,c9,h⟩
     unfold f19_j1 at h
     refine wp_seq (wp_cut (fun a w=>∃ eC dy d0,a=fr 161 (updL eC [(0,sl b2 a4 b3),(1,sl cy a5 cz),(5,iI (ao:Int)),(6,pp bo 0),(7,pp bp 0),(77,.bool d0)])∧KH.sub D dy∧SR K dy wi w [] [.box (zz wi) bo (vS b4 bx bF bz bG bH b9 b5 cb cc bI ce cf bJ ch ci bK cj bA aF bB).toArray 47,.box (zz wi) bp (vS b6 bC bL bD bM bN ck b7 cl cm bO cn co bP cq cr bQ ct bb ap bd).toArray 47]∧f19_j2 k F ao bI bJ bK aF bO bP bQ ap d0 (f19_l1 k F a5 bE)=some r_) ?_ ?_)
     ·refine wp_region_lit (fd 0 Tyf47_0 rfl (l1 0 (iI b4) aW Tya3 (fd 0 Tyf47_0 rfl (l1 1 (iI b6) aW Tya3 (c0 (b4 != b6) (m1 (.bool (b4 != b6)) (cd h (fun bS h=>?_) (fun bS h=>?_))))))))
      ·exact o1 35 bS (o1 35 bS (o1 35 bS (o1 35 bS (o1 35 bS (m3 true vT (cg bS) (m1 vT (o0 42 (o0 42 (o0 42 (o0 42 (o0 42 (m3 true vT rfl (m1 vT (o0 49 (o0 49 (o0 49 (o0 49 (o0 49 (m3 true vT rfl (m1 vT (o0 56 (o0 56 (o0 56 (o0 56 (o0 56 (m3 true vT rfl (m1 vT (o0 63 (o0 63 (o0 63 (o0 63 (o0 63 (m3 true vT rfl (m1 vT (o0 70 (o0 70 (o0 70 (o0 70 (o0 70 (o0 70 (m3 true vT rfl (wt (⟨_,D,true,fR,kr,aW,h⟩)))))))))))))))))))))))))))))))))))))))))))
      ·refine n1 35 bS (fd 1 Tyf47_1 rfl (n1 35 bS (l1 0 (.string bx) aW Tya9 (n1 35 bS (fd 1 Tyf47_1 rfl (n1 35 bS (l1 1 (.string bC) aW Tya9 (n1 35 bS (bsc (r:=(!seq bx bC)) rfl rfl rfl (m3 false (.bool (!seq bx bC)) (cg bS) (m1 (.bool (!seq bx bC)) (cd h (fun bT h=>?_) (fun bT h=>?_)))))))))))))
       ·exact o1 42 bT (o1 42 bT (o1 42 bT (o1 42 bT (o1 42 bT (m3 true vT (cg bT) (m1 vT (o0 49 (o0 49 (o0 49 (o0 49 (o0 49 (m3 true vT rfl (m1 vT (o0 56 (o0 56 (o0 56 (o0 56 (o0 56 (m3 true vT rfl (m1 vT (o0 63 (o0 63 (o0 63 (o0 63 (o0 63 (m3 true vT rfl (m1 vT (o0 70 (o0 70 (o0 70 (o0 70 (o0 70 (o0 70 (m3 true vT rfl (wt (⟨_,D,true,fR,kr,aW,h⟩))))))))))))))))))))))))))))))))))))
       ·refine n1 42 bT (fd 2 Tyf47_2 rfl (n1 42 bT (l1 0 (iI bF) aW Tya3 (n1 42 bT (fd 2 Tyf47_2 rfl (n1 42 bT (l1 1 (iI bL) aW Tya3 (n1 42 bT (c0 (bF != bL) (m3 false (.bool (bF != bL)) (cg bT) (m1 (.bool (bF != bL)) (cd h (fun bU h=>?_) (fun bU h=>?_)))))))))))))
        ·exact o1 49 bU (o1 49 bU (o1 49 bU (o1 49 bU (o1 49 bU (m3 true vT (cg bU) (m1 vT (o0 56 (o0 56 (o0 56 (o0 56 (o0 56 (m3 true vT rfl (m1 vT (o0 63 (o0 63 (o0 63 (o0 63 (o0 63 (m3 true vT rfl (m1 vT (o0 70 (o0 70 (o0 70 (o0 70 (o0 70 (o0 70 (m3 true vT rfl (wt (⟨_,D,true,fR,kr,aW,h⟩)))))))))))))))))))))))))))))
        ·refine n1 49 bU (fd 3 Tyf47_3 rfl (n1 49 bU (l1 0 (.string bz) aW Tya9 (n1 49 bU (fd 3 Tyf47_3 rfl (n1 49 bU (l1 1 (.string bD) aW Tya9 (n1 49 bU (bsc (r:=(!seq bz bD)) rfl rfl rfl (m3 false (.bool (!seq bz bD)) (cg bU) (m1 (.bool (!seq bz bD)) (cd h (fun bV h=>?_) (fun bV h=>?_)))))))))))))
         ·exact o1 56 bV (o1 56 bV (o1 56 bV (o1 56 bV (o1 56 bV (m3 true vT (cg bV) (m1 vT (o0 63 (o0 63 (o0 63 (o0 63 (o0 63 (m3 true vT rfl (m1 vT (o0 70 (o0 70 (o0 70 (o0 70 (o0 70 (o0 70 (m3 true vT rfl (wt (⟨_,D,true,fR,kr,aW,h⟩))))))))))))))))))))))
         ·refine n1 56 bV (fd 4 Tyf47_4 rfl (n1 56 bV (l1 0 (iI bG) aW Tya3 (n1 56 bV (fd 4 Tyf47_4 rfl (n1 56 bV (l1 1 (iI bM) aW Tya3 (n1 56 bV (c0 (bG != bM) (m3 false (.bool (bG != bM)) (cg bV) (m1 (.bool (bG != bM)) (cd h (fun bW h=>?_) (fun bW h=>?_)))))))))))))
          ·exact o1 63 bW (o1 63 bW (o1 63 bW (o1 63 bW (o1 63 bW (m3 true vT (cg bW) (m1 vT (o0 70 (o0 70 (o0 70 (o0 70 (o0 70 (o0 70 (m3 true vT rfl (wt (⟨_,D,true,fR,kr,aW,h⟩)))))))))))))))
          ·refine n1 63 bW (fd 5 Tyf47_5 rfl (n1 63 bW (l1 0 (iI bH) aW Tya3 (n1 63 bW (fd 5 Tyf47_5 rfl (n1 63 bW (l1 1 (iI bN) aW Tya3 (n1 63 bW (c0 (bH != bN) (m3 false (.bool (bH != bN)) (cg bW) (m1 (.bool (bH != bN)) (cd h (fun br h=>?_) (fun br h=>?_)))))))))))))
           ·exact o1 70 br (o1 70 br (o1 70 br (o1 70 br (o1 70 br (o1 70 br (m3 true vT (cg br) (wt (⟨_,D,true,fR,kr,aW,h⟩))))))))
           ·refine n1 70 br (fd 6 Tyf47_6 rfl (n1 70 br (l1 0 (sl b9 b5 cb) aW Tya44 (n1 70 br (fd 6 Tyf47_6 rfl (n1 70 br (l1 1 (sl ck b7 cl) aW Tya44 (n1 70 br ?_))))))))
            obtain ⟨d1,e5,h⟩:=ob h
            refine cv ([sl b9 b5 cb,sl ck b7 cl]) Tyb32 ((f32_ok k) e5 (hG.mono cA) eX e1 (pt aW)) ?_
            rintro _ fO ⟨e6,rfl,eD⟩
            have e7:=ca eD aW
            exact n1 70 br (uN d1 (m3 false (.bool (!d1)) (cg br) (wt (⟨_,e6,(!d1),fR,eD.sub,e7,h⟩))))
     ·rintro _ fP ⟨eC,dy,d0,rfl,aX,dz,h⟩
      unfold f19_j2 at h
      refine cd h (fun d2 h=>?_) (fun d2 h=>?_)
      ·refine cT d2 (sr (m2 vN (wt (wp_ret (thenR (blkR (thenR (thenR (blkR (thenR ?_))))))))))
       cases (oi h).trans hr_
       exact retA1 rfl (resT rfl) ⟨dy,rfl,(dz.sel [])⟩
      ·refine cF d2 (wp_skip (thenN (wp_seq (wp_cut (fun a w=>∃ eE dn d3,a=fr 161 (updL eE [(0,sl b2 a4 b3),(1,sl cy a5 cz),(5,iI (ao:Int)),(6,pp bo 0),(7,pp bp 0),(108,.bool d3)])∧KH.sub dy dn∧SR K dn wi w [] [.box (zz wi) bo (vS b4 bx bF bz bG bH b9 b5 cb cc bI ce cf bJ ch ci bK cj bA aF bB).toArray 47,.box (zz wi) bp (vS b6 bC bL bD bM bN ck b7 cl cm bO cn co bP cq cr bQ ct bb ap bd).toArray 47]∧f19_j3 k F ao aF ap d3 (f19_l1 k F a5 bE)=some r_) ?_ ?_))))
       ·refine wp_region_lit (fd 7 Tyf47_7 rfl (l1 0 (sl cc bI ce) dz Tya32 (fd 7 Tyf47_7 rfl (l1 1 (sl cm bO cn) dz Tya32 ?_))))
        obtain ⟨eF,e8,h⟩:=ob h
        refine cv ([sl cc bI ce,sl cm bO cn]) Tyb19 (IH19 e8 (hG.mono (cA.trans aX)) (ms eY aX) (ms e2 aX) (pt dz)) ?_
        rintro _ fQ ⟨e9,rfl,cw⟩
        have dA:=ca cw dz
        refine uN eF (m1 (.bool (!eF)) (cd h (fun bs h=>?_) (fun bs h=>?_)))
        ·exact o1 84 bs (o1 84 bs (o1 84 bs (o1 84 bs (o1 84 bs (o1 84 bs (m3 true vT (cg bs) (m1 vT (o0 92 (o0 92 (o0 92 (o0 92 (o0 92 (o0 92 (m3 true vT rfl (m1 vT (o0 100 (o0 100 (o0 100 (o0 100 (o0 100 (o0 100 (o0 100 (m3 true vT rfl (wt (⟨_,e9,true,fR,cw.sub,dA,h⟩)))))))))))))))))))))))))
        ·refine n1 84 bs (fd 8 Tyf47_8 rfl (n1 84 bs (l1 0 (sl cf bJ ch) dA Tya32 (n1 84 bs (fd 8 Tyf47_8 rfl (n1 84 bs (l1 1 (sl co bP cq) dA Tya32 (n1 84 bs ?_))))))))
         obtain ⟨d4,fa,h⟩:=ob h
         refine cv ([sl cf bJ ch,sl co bP cq]) Tyb19 (IH19 fa (hG.mono ((cA.trans aX).trans cw.sub)) (ms eZ (aX.trans cw.sub)) (ms e3 (aX.trans cw.sub)) (pt dA)) ?_
         rintro _ fS ⟨fb,rfl,da⟩
         have dB:=ca da dA
         refine n1 84 bs (uN d4 (m3 false (.bool (!d4)) (cg bs) (m1 (.bool (!d4)) (cd h (fun bu h=>?_) (fun bu h=>?_)))))
         ·exact o1 92 bu (o1 92 bu (o1 92 bu (o1 92 bu (o1 92 bu (o1 92 bu (m3 true vT (cg bu) (m1 vT (o0 100 (o0 100 (o0 100 (o0 100 (o0 100 (o0 100 (o0 100 (m3 true vT rfl (wt (⟨_,fb,true,fR,(cw.sub.trans da.sub),dB,h⟩)))))))))))))))))
         ·refine n1 92 bu (fd 9 Tyf47_9 rfl (n1 92 bu (l1 0 (sl ci bK cj) dB Tya32 (n1 92 bu (fd 9 Tyf47_9 rfl (n1 92 bu (l1 1 (sl cr bQ ct) dB Tya32 (n1 92 bu ?_))))))))
          obtain ⟨d5,fc,h⟩:=ob h
          refine cv ([sl ci bK cj,sl cr bQ ct]) Tyb19 (IH19 fc (hG.mono (((cA.trans aX).trans cw.sub).trans da.sub)) (ms e0 ((aX.trans cw.sub).trans da.sub)) (ms e4 ((aX.trans cw.sub).trans da.sub)) (pt dB)) ?_
          rintro _ fT ⟨eG,rfl,d6⟩
          have dW:=ca d6 dB
          refine n1 92 bu (uN d5 (m3 false (.bool (!d5)) (cg bu) (m1 (.bool (!d5)) (cd h (fun bg h=>?_) (fun bg h=>?_)))))
          ·exact o1 100 bg (o1 100 bg (o1 100 bg (o1 100 bg (o1 100 bg (o1 100 bg (o1 100 bg (m3 true vT (cg bg) (wt (⟨_,eG,true,fR,((cw.sub.trans da.sub).trans d6.sub),dW,h⟩)))))))))
          ·exact n1 100 bg (fd 10 Tyf47_10 rfl (n1 100 bg (l1 0 (sl bA aF bB) dW Tya45 (n1 100 bg (lS aF.length Tye45 (n1 100 bg (fd 10 Tyf47_10 rfl (n1 100 bg (l1 1 (sl bb ap bd) dW Tya45 (n1 100 bg (lS ap.length Tye45 (n1 100 bg (c0 ((aF.length:Int) != (ap.length:Int)) (m3 false (.bool ((aF.length:Int) != (ap.length:Int))) (cg bg) (wt (⟨_,eG,((aF.length:Int) != (ap.length:Int)),fR,((cw.sub.trans da.sub).trans d6.sub),dW,h⟩))))))))))))))))
       ·rintro _ fU ⟨eE,dn,d3,rfl,b8,eH,h⟩
        unfold f19_j3 at h
        refine cd h (fun d7 h=>?_) (fun d7 h=>?_)
        ·refine cT d7 (sr (m2 vN (wt (wp_ret (thenR (blkR (thenR (thenR (blkR (thenR ?_))))))))))
         cases (oi h).trans hr_
         exact retA1 rfl (resT rfl) ⟨dn,rfl,(eH.sel [])⟩
        ·refine cF d7 (wp_skip (thenN (sr (m2 (iI 0) (wt (wp_block (wp_loopG (fun g_ a w=>∃ eI a9 cB,∃ (C:Nat),g_=cB.length∧a=fr 161 (updL eI [(0,sl b2 a4 b3),(1,sl cy a5 cz),(5,iI (ao:Int)),(6,pp bo 0),(7,pp bp 0),(8,iI (C:Int))])∧KH.sub dn a9∧SR K a9 wi w [] [.box (zz wi) bo (vS b4 bx bF bz bG bH b9 b5 cb cc bI ce cf bJ ch ci bK cj bA aF bB).toArray 47,.box (zz wi) bp (vS b6 bC bL bD bM bN ck b7 cl cm bO cn co bP cq cr bQ ct bb ap bd).toArray 47]∧aF.drop C=cB∧f19_l2 k F ao ap (f19_l1 k F a5 bE) cB C=some r_) aF.length ?_ ?_)))))))
         ·exact ⟨_,dn,aF,0,rfl,fR,kr,eH,List.drop_zero,h⟩
         ·rintro _ _ aY ⟨eI,a9,cB,C,rfl,rfl,bX,dX,dp,h⟩
          rcases cB with _ | ⟨⟨l,m,p,q,s⟩,cB⟩
          ·unfold f19_l2 at h
           exact wp_seq (sr (m1 (iI (C:Int)) (fd 10 Tyf47_10 rfl (l1 0 (sl bA aF bB) dX Tya45 (lS aF.length Tye45 (bcm (r:=false) rfl rfl (congrArg some (drop_nil_lt dp)) (wt (cndF rfl (wp_exit (thenX (thenX (blkX (blkN (thenN (wp_region_lit (m1 (iI (ao:Int)) (bar (r:=((ao + 1:Nat):Int)) rfl rfl (inc_ok (le_big (((ms eq cA)).len) (by decide) (drop_cons_lt dm))) (m2 (iI ((ao + 1:Nat):Int)) (wt (⟨_,Nat.lt_succ_self _,_,a9,bE,ao + 1,rfl,fR,(((cA.trans aX).trans b8).trans bX),(dX.sel []),drop_cons_next dm,h⟩))))))))))))))))))))
          ·unfold f19_l2 at h
           refine wp_seq (sr (m1 (iI (C:Int)) (fd 10 Tyf47_10 rfl (l1 0 (sl bA aF bB) dX Tya45 (lS aF.length Tye45 (bcm (r:=true) rfl rfl (congrArg some (drop_cons_t dp)) (wt (cndT rfl (wp_skip (thenN (wp_seq (wp_block (wp_cut (fun a w=>∃ eJ d8 dq cZ db dr dC dD ds dE dF d9 dt c2 dc du dG dH dv dI dJ,a=fr 161 (updL eJ [(0,sl b2 a4 b3),(1,sl cy a5 cz),(5,iI (ao:Int)),(6,pp bo 0),(7,pp bp 0),(8,iI (C:Int)),(9,pp d8 0),(10,pp d9 0)])∧SR K a9 wi w [] [.box (zz wi) bo (vS b4 bx bF bz bG bH b9 b5 cb cc bI ce cf bJ ch ci bK cj bA aF bB).toArray 47,.box (zz wi) bp (vS b6 bC bL bD bM bN ck b7 cl cm bO cn co bP cq cr bQ ct bb ap bd).toArray 47,.box (zz wi) d8 (vC dq cZ db dC dr dD dE ds dF).toArray 56,.box (zz wi) d9 (vC dt c2 dc dG du dH dI dv dJ).toArray 56]∧cZ.size ≤ mB∧tE a9 dC dD dr∧tS a9 dE dF ds∧c2.size ≤ mB∧tE a9 dG dH du∧tS a9 dI dJ dv∧f19_j4 k F C dq cZ db dr ds dt c2 dc du dv (f19_l2 k F ao ap (f19_l1 k F a5 bE) cB)=some r_) ?_ ?_)))))))))))))
           ·have ba:=dX.drew
            refine regAny (E:=[12,13]) (F:=FW a9 [.box (zz wi) bo (vS b4 bx bF bz bG bH b9 b5 cb cc bI ce cf bJ ch ci bK cj bA aF bB).toArray 47,.box (zz wi) bp (vS b6 bC bL bD bM bN ck b7 cl cm bO cn co bP cq cr bQ ct bb ap bd).toArray 47]) (L:=(lb 14 0)) ymx rfl rfl (tk 0 (pp bo 10) (lb 14 1) rfl (fun w=>fld_r (o':=10) Tyf47_10 rfl rfl) (heldF (fq [0,1] ba)) (tf 1 (sl bA aF bB) ([[12,1],[13,1]]) (lb 14 3) rfl (fq [0,1] ba) (fun w hF=>lb1_r (i:=0) (v:=sl bA aF bB) hF rfl Tya45 rfl rfl) (tk 2 (iI (C:Int)) (lb 14 7) rfl (fun w=>mv_r (v:=iI (C:Int)) rfl) (heldF (fq [0,1] ba)) ?_)))
            obtain ⟨eK,eL,fV,fe,fW,ff,fg⟩:=((mc eB ((aX.trans b8).trans bX))).row.at_ (drop_cons_at dp)
            obtain ⟨t,u,x,y,rfl,aZ,a2,a3⟩:=RDCase.open fg
            refine tk 3 (pp eK (eL + C * 5)) (lb 14 15) rfl (fun w=>idxN_r (b:=eK) (o:=eL) (i:=C) Tye45 Tys56 rfl fe rfl (drop_cons_lt dp)) (heldF (fq [0,1] ba)) (tf 4 (.agg (vC l m p t q u x s y).toArray) ([[12,4],[13,4]]) (lb 14 31) rfl (fq [0,1] ba) (fun w hF=>ldN_r (cs:=(vC l m p t q u x s y)) Tya56 Tys56 rfl rfl (fun j v hj=>hF.cell (kr.cell (ff j v hj)))) (tk 5 (pp bp 10) (lb 14 63) rfl (fun w=>fld_r (o':=10) Tyf47_10 rfl rfl) (heldF (fq [0,1] ba)) (tk 7 (iI (C:Int)) (lb 14 191) rfl (fun w=>mv_r (v:=iI (C:Int)) rfl) (heldF (fq [0,1] ba)) (anyAll (rs:=[6,10,11]) (by kernel_rfl) (by decide) (allC ?_ (allC ?_ (allC ?_ allN)))))))
            ·refine opL (i:=6) rfl (l1 1 (sl bb ap bd) ba Tya45 (wt ⟨heldF (fq [0,1] ba),?_⟩))
             obtain ⟨⟨c,d,e,f,g⟩,ea,h⟩:=ob h
             obtain ⟨eM,eN,fX,fh,fY,dd,fi⟩:=((mc c9 ((aX.trans b8).trans bX))).row.at_ (idxO_at ea).1
             obtain ⟨ak,al,am,an,rfl,c3,c4,c5⟩:=RDCase.open fi
             refine tk 8 (.pointer (some ⟨eM,eN + (C:Int).toNat * 5,none⟩)) (lb 14 511) rfl (fun w=>idxG_r (b:=eM) (o:=eN) (i:=(C:Int)) Tye45 Tys56 rfl fh rfl (idxO_at ea).2.1 (idxO_at ea).2.2) (heldF (fq [0,1] ba)) (anyAll (rs:=[9,10,11]) (by kernel_rfl) (by decide) (allC ?_ (allC ?_ (allC ?_ allN))))
             ·refine opL (i:=9) rfl (lD (vC c d e ak f al am g an) Tya56 Tys56 rfl (fun j v hj=>ba.cell (kr.cell (dd j v hj))) (wt ⟨heldF (fq [0,1] ba),anyAll (rs:=[10,11]) (by kernel_rfl) (by decide) (allC ?_ (allC ?_ allN))⟩))
              ·exact opL (i:=10) rfl (aC zC.toArray ba Tyz56 (fun cx bh=>(wt ⟨heldF (fq [1,2] bh),aO 11 rfl (aC zC.toArray bh Tyz56 (fun cC z=>(wt ⟨heldF (fq [2,3] z),aO 12 rfl (sI 1 (.agg (vC l m p t q u x s y).toArray) ((vC l m p t q u x s y).toArray) z Tys56 rfl rfl (fun bi A=>(wt ⟨heldE (i:=12) rfl rfl,aO 13 rfl (sI 0 (.agg (vC c d e ak f al am g an).toArray) ((vC c d e ak f al am g an).toArray) A Tys56 rfl rfl (fun a6 B=>(wt ⟨heldE (i:=13) rfl rfl,aD (thenN (⟨_,(zz aY.drew),l,m,p,q,t,u,s,x,y,(zz cx),c,d,e,f,ak,al,g,am,an,fR,(B.sel [2,3,1,0]),aZ,a2,a3,c3,c4,c5,h⟩))⟩)))⟩)))⟩)))⟩)))
              ·exact opL (i:=11) rfl (aC zC.toArray ba Tyz56 (fun cx bh=>(wt ⟨heldF (fq [1,2] bh),aO 10 rfl (aC zC.toArray bh Tyz56 (fun cC z=>(wt ⟨heldF (fq [2,3] z),aO 12 rfl (sI 0 (.agg (vC l m p t q u x s y).toArray) ((vC l m p t q u x s y).toArray) z Tys56 rfl rfl (fun bi A=>(wt ⟨heldE (i:=12) rfl rfl,aO 13 rfl (sI 1 (.agg (vC c d e ak f al am g an).toArray) ((vC c d e ak f al am g an).toArray) A Tys56 rfl rfl (fun a6 B=>(wt ⟨heldE (i:=13) rfl rfl,aD (thenN (⟨_,(zz cx),l,m,p,q,t,u,s,x,y,(zz aY.drew),c,d,e,f,ak,al,g,am,an,fR,(B.sel [2,3,0,1]),aZ,a2,a3,c3,c4,c5,h⟩))⟩)))⟩)))⟩)))⟩)))
             ·refine opL (i:=10) rfl (aC zC.toArray ba Tyz56 (fun cx bh=>(wt ⟨heldF (fq [1,2] bh),anyAll (rs:=[9,11]) (by kernel_rfl) (by decide) (allC ?_ (allC ?_ allN))⟩)))
              ·exact opL (i:=9) rfl (lD (vC c d e ak f al am g an) Tya56 Tys56 rfl (fun j v hj=>bh.cell (kr.cell (dd j v hj))) (wt ⟨heldF (fq [1,2] bh),aO 11 rfl (aC zC.toArray bh Tyz56 (fun cC z=>(wt ⟨heldF (fq [2,3] z),aO 12 rfl (sI 1 (.agg (vC l m p t q u x s y).toArray) ((vC l m p t q u x s y).toArray) z Tys56 rfl rfl (fun bi A=>(wt ⟨heldE (i:=12) rfl rfl,aO 13 rfl (sI 0 (.agg (vC c d e ak f al am g an).toArray) ((vC c d e ak f al am g an).toArray) A Tys56 rfl rfl (fun a6 B=>(wt ⟨heldE (i:=13) rfl rfl,aD (thenN (⟨_,(zz aY.drew),l,m,p,q,t,u,s,x,y,(zz cx),c,d,e,f,ak,al,g,am,an,fR,(B.sel [2,3,1,0]),aZ,a2,a3,c3,c4,c5,h⟩))⟩)))⟩)))⟩)))⟩))
              ·refine opL (i:=11) rfl (aC zC.toArray bh Tyz56 (fun cC z=>(wt ⟨heldF (fq [2,3] z),anyAll (rs:=[9,12]) (by kernel_rfl) (by decide) (allC ?_ (allC ?_ allN))⟩)))
               ·exact opL (i:=9) rfl (lD (vC c d e ak f al am g an) Tya56 Tys56 rfl (fun j v hj=>z.cell (kr.cell (dd j v hj))) (wt ⟨heldF (fq [2,3] z),aO 12 rfl (sI 1 (.agg (vC l m p t q u x s y).toArray) ((vC l m p t q u x s y).toArray) z Tys56 rfl rfl (fun bi A=>(wt ⟨heldE (i:=12) rfl rfl,aO 13 rfl (sI 0 (.agg (vC c d e ak f al am g an).toArray) ((vC c d e ak f al am g an).toArray) A Tys56 rfl rfl (fun a6 B=>(wt ⟨heldE (i:=13) rfl rfl,aD (thenN (⟨_,(zz aY.drew),l,m,p,q,t,u,s,x,y,(zz cx),c,d,e,f,ak,al,g,am,an,fR,(B.sel [2,3,1,0]),aZ,a2,a3,c3,c4,c5,h⟩))⟩)))⟩)))⟩))
               ·exact opL (i:=12) rfl (sI 1 (.agg (vC l m p t q u x s y).toArray) ((vC l m p t q u x s y).toArray) z Tys56 rfl rfl (fun bi A=>(wt ⟨heldE (i:=12) rfl rfl,aO 9 rfl (lD (vC c d e ak f al am g an) Tya56 Tys56 rfl (fun j v hj=>A.cell (kr.cell (dd j v hj))) (wt ⟨heldE (i:=12) rfl rfl,aO 13 rfl (sI 0 (.agg (vC c d e ak f al am g an).toArray) ((vC c d e ak f al am g an).toArray) A Tys56 rfl rfl (fun a6 B=>(wt ⟨heldE (i:=13) rfl rfl,aD (thenN (⟨_,(zz aY.drew),l,m,p,q,t,u,s,x,y,(zz cx),c,d,e,f,ak,al,g,am,an,fR,(B.sel [2,3,1,0]),aZ,a2,a3,c3,c4,c5,h⟩))⟩)))⟩))⟩)))
             ·refine opL (i:=11) rfl (aC zC.toArray ba Tyz56 (fun cx bh=>(wt ⟨heldF (fq [1,2] bh),anyAll (rs:=[9,10]) (by kernel_rfl) (by decide) (allC ?_ (allC ?_ allN))⟩)))
              ·exact opL (i:=9) rfl (lD (vC c d e ak f al am g an) Tya56 Tys56 rfl (fun j v hj=>bh.cell (kr.cell (dd j v hj))) (wt ⟨heldF (fq [1,2] bh),aO 10 rfl (aC zC.toArray bh Tyz56 (fun cC z=>(wt ⟨heldF (fq [2,3] z),aO 12 rfl (sI 0 (.agg (vC l m p t q u x s y).toArray) ((vC l m p t q u x s y).toArray) z Tys56 rfl rfl (fun bi A=>(wt ⟨heldE (i:=12) rfl rfl,aO 13 rfl (sI 1 (.agg (vC c d e ak f al am g an).toArray) ((vC c d e ak f al am g an).toArray) A Tys56 rfl rfl (fun a6 B=>(wt ⟨heldE (i:=13) rfl rfl,aD (thenN (⟨_,(zz cx),l,m,p,q,t,u,s,x,y,(zz aY.drew),c,d,e,f,ak,al,g,am,an,fR,(B.sel [2,3,0,1]),aZ,a2,a3,c3,c4,c5,h⟩))⟩)))⟩)))⟩)))⟩))
              ·refine opL (i:=10) rfl (aC zC.toArray bh Tyz56 (fun cC z=>(wt ⟨heldF (fq [2,3] z),anyAll (rs:=[9,12]) (by kernel_rfl) (by decide) (allC ?_ (allC ?_ allN))⟩)))
               ·exact opL (i:=9) rfl (lD (vC c d e ak f al am g an) Tya56 Tys56 rfl (fun j v hj=>z.cell (kr.cell (dd j v hj))) (wt ⟨heldF (fq [2,3] z),aO 12 rfl (sI 0 (.agg (vC l m p t q u x s y).toArray) ((vC l m p t q u x s y).toArray) z Tys56 rfl rfl (fun bi A=>(wt ⟨heldE (i:=12) rfl rfl,aO 13 rfl (sI 1 (.agg (vC c d e ak f al am g an).toArray) ((vC c d e ak f al am g an).toArray) A Tys56 rfl rfl (fun a6 B=>(wt ⟨heldE (i:=13) rfl rfl,aD (thenN (⟨_,(zz cx),l,m,p,q,t,u,s,x,y,(zz aY.drew),c,d,e,f,ak,al,g,am,an,fR,(B.sel [2,3,0,1]),aZ,a2,a3,c3,c4,c5,h⟩))⟩)))⟩)))⟩))
               ·exact opL (i:=12) rfl (sI 0 (.agg (vC l m p t q u x s y).toArray) ((vC l m p t q u x s y).toArray) z Tys56 rfl rfl (fun bi A=>(wt ⟨heldE (i:=12) rfl rfl,aO 9 rfl (lD (vC c d e ak f al am g an) Tya56 Tys56 rfl (fun j v hj=>A.cell (kr.cell (dd j v hj))) (wt ⟨heldE (i:=12) rfl rfl,aO 13 rfl (sI 1 (.agg (vC c d e ak f al am g an).toArray) ((vC c d e ak f al am g an).toArray) A Tys56 rfl rfl (fun a6 B=>(wt ⟨heldE (i:=13) rfl rfl,aD (thenN (⟨_,(zz cx),l,m,p,q,t,u,s,x,y,(zz aY.drew),c,d,e,f,ak,al,g,am,an,fR,(B.sel [2,3,0,1]),aZ,a2,a3,c3,c4,c5,h⟩))⟩)))⟩))⟩)))
            ·refine opL (i:=10) rfl (aC zC.toArray ba Tyz56 (fun bY a7=>(wt ⟨heldF (fq [1,2] a7),anyAll (rs:=[6,11]) (by kernel_rfl) (by decide) (allC ?_ (allC ?_ allN))⟩)))
             ·refine opL (i:=6) rfl (l1 2 (sl bb ap bd) a7 Tya45 (wt ⟨heldF (fq [1,2] a7),?_⟩))
              obtain ⟨⟨c,d,e,f,g⟩,de,h⟩:=ob h
              obtain ⟨dK,dL,fj,ec,fk,df,ed⟩:=((mc c9 ((aX.trans b8).trans bX))).row.at_ (idxO_at de).1
              obtain ⟨aR,aS,aT,aU,rfl,dg,dh,di⟩:=RDCase.open ed
              refine tk 8 (.pointer (some ⟨dK,dL + (C:Int).toNat * 5,none⟩)) (lb 14 1535) rfl (fun w=>idxG_r (b:=dK) (o:=dL) (i:=(C:Int)) Tye45 Tys56 rfl ec rfl (idxO_at de).2.1 (idxO_at de).2.2) (heldF (fq [1,2] a7)) (anyAll (rs:=[9,11]) (by kernel_rfl) (by decide) (allC ?_ (allC ?_ allN)))
              ·exact opL (i:=9) rfl (lD (vC c d e aR f aS aT g aU) Tya56 Tys56 rfl (fun j v hj=>a7.cell (kr.cell (df j v hj))) (wt ⟨heldF (fq [1,2] a7),aO 11 rfl (aC zC.toArray a7 Tyz56 (fun cC z=>(wt ⟨heldF (fq [2,3] z),aO 12 rfl (sI 1 (.agg (vC l m p t q u x s y).toArray) ((vC l m p t q u x s y).toArray) z Tys56 rfl rfl (fun bi A=>(wt ⟨heldE (i:=12) rfl rfl,aO 13 rfl (sI 0 (.agg (vC c d e aR f aS aT g aU).toArray) ((vC c d e aR f aS aT g aU).toArray) A Tys56 rfl rfl (fun a6 B=>(wt ⟨heldE (i:=13) rfl rfl,aD (thenN (⟨_,(zz aY.drew),l,m,p,q,t,u,s,x,y,(zz bY),c,d,e,f,aR,aS,g,aT,aU,fR,(B.sel [2,3,1,0]),aZ,a2,a3,dg,dh,di,h⟩))⟩)))⟩)))⟩)))⟩))
              ·refine opL (i:=11) rfl (aC zC.toArray a7 Tyz56 (fun cC z=>(wt ⟨heldF (fq [2,3] z),anyAll (rs:=[9,12]) (by kernel_rfl) (by decide) (allC ?_ (allC ?_ allN))⟩)))
               ·exact opL (i:=9) rfl (lD (vC c d e aR f aS aT g aU) Tya56 Tys56 rfl (fun j v hj=>z.cell (kr.cell (df j v hj))) (wt ⟨heldF (fq [2,3] z),aO 12 rfl (sI 1 (.agg (vC l m p t q u x s y).toArray) ((vC l m p t q u x s y).toArray) z Tys56 rfl rfl (fun bi A=>(wt ⟨heldE (i:=12) rfl rfl,aO 13 rfl (sI 0 (.agg (vC c d e aR f aS aT g aU).toArray) ((vC c d e aR f aS aT g aU).toArray) A Tys56 rfl rfl (fun a6 B=>(wt ⟨heldE (i:=13) rfl rfl,aD (thenN (⟨_,(zz aY.drew),l,m,p,q,t,u,s,x,y,(zz bY),c,d,e,f,aR,aS,g,aT,aU,fR,(B.sel [2,3,1,0]),aZ,a2,a3,dg,dh,di,h⟩))⟩)))⟩)))⟩))
               ·exact opL (i:=12) rfl (sI 1 (.agg (vC l m p t q u x s y).toArray) ((vC l m p t q u x s y).toArray) z Tys56 rfl rfl (fun bi A=>(wt ⟨heldE (i:=12) rfl rfl,aO 9 rfl (lD (vC c d e aR f aS aT g aU) Tya56 Tys56 rfl (fun j v hj=>A.cell (kr.cell (df j v hj))) (wt ⟨heldE (i:=12) rfl rfl,aO 13 rfl (sI 0 (.agg (vC c d e aR f aS aT g aU).toArray) ((vC c d e aR f aS aT g aU).toArray) A Tys56 rfl rfl (fun a6 B=>(wt ⟨heldE (i:=13) rfl rfl,aD (thenN (⟨_,(zz aY.drew),l,m,p,q,t,u,s,x,y,(zz bY),c,d,e,f,aR,aS,g,aT,aU,fR,(B.sel [2,3,1,0]),aZ,a2,a3,dg,dh,di,h⟩))⟩)))⟩))⟩)))
             ·refine opL (i:=11) rfl (aC zC.toArray a7 Tyz56 (fun fl a8=>(wt ⟨heldF (fq [2,3] a8),anyAll (rs:=[6,12]) (by kernel_rfl) (by decide) (allC ?_ (allC ?_ allN))⟩)))
              ·refine opL (i:=6) rfl (l1 3 (sl bb ap bd) a8 Tya45 (wt ⟨heldF (fq [2,3] a8),?_⟩))
               obtain ⟨⟨c,d,e,f,g⟩,dj,h⟩:=ob h
               obtain ⟨dM,dN,fm,ee,fn,dO,ef⟩:=((mc c9 ((aX.trans b8).trans bX))).row.at_ (idxO_at dj).1
               obtain ⟨bj,bk,bm,bn,rfl,dP,dQ,dR⟩:=RDCase.open ef
               refine tk 8 (.pointer (some ⟨dM,dN + (C:Int).toNat * 5,none⟩)) (lb 14 3583) rfl (fun w=>idxG_r (b:=dM) (o:=dN) (i:=(C:Int)) Tye45 Tys56 rfl ee rfl (idxO_at dj).2.1 (idxO_at dj).2.2) (heldF (fq [2,3] a8)) (anyAll (rs:=[9,12]) (by kernel_rfl) (by decide) (allC ?_ (allC ?_ allN)))
               ·exact opL (i:=9) rfl (lD (vC c d e bj f bk bm g bn) Tya56 Tys56 rfl (fun j v hj=>a8.cell (kr.cell (dO j v hj))) (wt ⟨heldF (fq [2,3] a8),aO 12 rfl (sI 1 (.agg (vC l m p t q u x s y).toArray) ((vC l m p t q u x s y).toArray) a8 Tys56 rfl rfl (fun bi A=>(wt ⟨heldE (i:=12) rfl rfl,aO 13 rfl (sI 0 (.agg (vC c d e bj f bk bm g bn).toArray) ((vC c d e bj f bk bm g bn).toArray) A Tys56 rfl rfl (fun a6 B=>(wt ⟨heldE (i:=13) rfl rfl,aD (thenN (⟨_,(zz aY.drew),l,m,p,q,t,u,s,x,y,(zz bY),c,d,e,f,bj,bk,g,bm,bn,fR,(B.sel [2,3,1,0]),aZ,a2,a3,dP,dQ,dR,h⟩))⟩)))⟩)))⟩))
               ·exact opL (i:=12) rfl (sI 1 (.agg (vC l m p t q u x s y).toArray) ((vC l m p t q u x s y).toArray) a8 Tys56 rfl rfl (fun bi A=>(wt ⟨heldE (i:=12) rfl rfl,aO 9 rfl (lD (vC c d e bj f bk bm g bn) Tya56 Tys56 rfl (fun j v hj=>A.cell (kr.cell (dO j v hj))) (wt ⟨heldE (i:=12) rfl rfl,aO 13 rfl (sI 0 (.agg (vC c d e bj f bk bm g bn).toArray) ((vC c d e bj f bk bm g bn).toArray) A Tys56 rfl rfl (fun a6 B=>(wt ⟨heldE (i:=13) rfl rfl,aD (thenN (⟨_,(zz aY.drew),l,m,p,q,t,u,s,x,y,(zz bY),c,d,e,f,bj,bk,g,bm,bn,fR,(B.sel [2,3,1,0]),aZ,a2,a3,dP,dQ,dR,h⟩))⟩)))⟩))⟩)))
              ·refine opL (i:=12) rfl (sI 1 (.agg (vC l m p t q u x s y).toArray) ((vC l m p t q u x s y).toArray) a8 Tys56 rfl rfl (fun fo dk=>(wt ⟨heldE (i:=12) rfl rfl,aO 6 rfl (l1 3 (sl bb ap bd) dk Tya45 (wt ⟨heldE (i:=12) rfl rfl,?_⟩))⟩)))
               obtain ⟨⟨c,d,e,f,g⟩,dl,h⟩:=ob h
               obtain ⟨dS,dT,fp,eg,fs,eh,ei⟩:=((mc c9 ((aX.trans b8).trans bX))).row.at_ (idxO_at dl).1
               obtain ⟨cD,cG,cH,cI,rfl,ej,ek,el⟩:=RDCase.open ei
               exact tk 8 (.pointer (some ⟨dS,dT + (C:Int).toNat * 5,none⟩)) (lb 14 7679) rfl (fun w=>idxG_r (b:=dS) (o:=dT) (i:=(C:Int)) Tye45 Tys56 rfl eg rfl (idxO_at dl).2.1 (idxO_at dl).2.2) (heldE (i:=12) rfl rfl) (aO 9 rfl (lD (vC c d e cD f cG cH g cI) Tya56 Tys56 rfl (fun j v hj=>dk.cell (kr.cell (eh j v hj))) (wt ⟨heldE (i:=12) rfl rfl,aO 13 rfl (sI 0 (.agg (vC c d e cD f cG cH g cI).toArray) ((vC c d e cD f cG cH g cI).toArray) dk Tys56 rfl rfl (fun a6 B=>(wt ⟨heldE (i:=13) rfl rfl,aD (thenN (⟨_,(zz aY.drew),l,m,p,q,t,u,s,x,y,(zz bY),c,d,e,f,cD,cG,g,cH,cI,fR,(B.sel [2,3,1,0]),aZ,a2,a3,ej,ek,el,h⟩))⟩)))⟩)))
            ·refine opL (i:=11) rfl (aC zC.toArray ba Tyz56 (fun bY a7=>(wt ⟨heldF (fq [1,2] a7),anyAll (rs:=[6,10]) (by kernel_rfl) (by decide) (allC ?_ (allC ?_ allN))⟩)))
             ·refine opL (i:=6) rfl (l1 2 (sl bb ap bd) a7 Tya45 (wt ⟨heldF (fq [1,2] a7),?_⟩))
              obtain ⟨⟨c,d,e,f,g⟩,de,h⟩:=ob h
              obtain ⟨dK,dL,fj,ec,fk,df,ed⟩:=((mc c9 ((aX.trans b8).trans bX))).row.at_ (idxO_at de).1
              obtain ⟨aR,aS,aT,aU,rfl,dg,dh,di⟩:=RDCase.open ed
              refine tk 8 (.pointer (some ⟨dK,dL + (C:Int).toNat * 5,none⟩)) (lb 14 2559) rfl (fun w=>idxG_r (b:=dK) (o:=dL) (i:=(C:Int)) Tye45 Tys56 rfl ec rfl (idxO_at de).2.1 (idxO_at de).2.2) (heldF (fq [1,2] a7)) (anyAll (rs:=[9,10]) (by kernel_rfl) (by decide) (allC ?_ (allC ?_ allN)))
              ·exact opL (i:=9) rfl (lD (vC c d e aR f aS aT g aU) Tya56 Tys56 rfl (fun j v hj=>a7.cell (kr.cell (df j v hj))) (wt ⟨heldF (fq [1,2] a7),aO 10 rfl (aC zC.toArray a7 Tyz56 (fun cC z=>(wt ⟨heldF (fq [2,3] z),aO 12 rfl (sI 0 (.agg (vC l m p t q u x s y).toArray) ((vC l m p t q u x s y).toArray) z Tys56 rfl rfl (fun bi A=>(wt ⟨heldE (i:=12) rfl rfl,aO 13 rfl (sI 1 (.agg (vC c d e aR f aS aT g aU).toArray) ((vC c d e aR f aS aT g aU).toArray) A Tys56 rfl rfl (fun a6 B=>(wt ⟨heldE (i:=13) rfl rfl,aD (thenN (⟨_,(zz bY),l,m,p,q,t,u,s,x,y,(zz aY.drew),c,d,e,f,aR,aS,g,aT,aU,fR,(B.sel [2,3,0,1]),aZ,a2,a3,dg,dh,di,h⟩))⟩)))⟩)))⟩)))⟩))
              ·refine opL (i:=10) rfl (aC zC.toArray a7 Tyz56 (fun cC z=>(wt ⟨heldF (fq [2,3] z),anyAll (rs:=[9,12]) (by kernel_rfl) (by decide) (allC ?_ (allC ?_ allN))⟩)))
               ·exact opL (i:=9) rfl (lD (vC c d e aR f aS aT g aU) Tya56 Tys56 rfl (fun j v hj=>z.cell (kr.cell (df j v hj))) (wt ⟨heldF (fq [2,3] z),aO 12 rfl (sI 0 (.agg (vC l m p t q u x s y).toArray) ((vC l m p t q u x s y).toArray) z Tys56 rfl rfl (fun bi A=>(wt ⟨heldE (i:=12) rfl rfl,aO 13 rfl (sI 1 (.agg (vC c d e aR f aS aT g aU).toArray) ((vC c d e aR f aS aT g aU).toArray) A Tys56 rfl rfl (fun a6 B=>(wt ⟨heldE (i:=13) rfl rfl,aD (thenN (⟨_,(zz bY),l,m,p,q,t,u,s,x,y,(zz aY.drew),c,d,e,f,aR,aS,g,aT,aU,fR,(B.sel [2,3,0,1]),aZ,a2,a3,dg,dh,di,h⟩))⟩)))⟩)))⟩))
               ·exact opL (i:=12) rfl (sI 0 (.agg (vC l m p t q u x s y).toArray) ((vC l m p t q u x s y).toArray) z Tys56 rfl rfl (fun bi A=>(wt ⟨heldE (i:=12) rfl rfl,aO 9 rfl (lD (vC c d e aR f aS aT g aU) Tya56 Tys56 rfl (fun j v hj=>A.cell (kr.cell (df j v hj))) (wt ⟨heldE (i:=12) rfl rfl,aO 13 rfl (sI 1 (.agg (vC c d e aR f aS aT g aU).toArray) ((vC c d e aR f aS aT g aU).toArray) A Tys56 rfl rfl (fun a6 B=>(wt ⟨heldE (i:=13) rfl rfl,aD (thenN (⟨_,(zz bY),l,m,p,q,t,u,s,x,y,(zz aY.drew),c,d,e,f,aR,aS,g,aT,aU,fR,(B.sel [2,3,0,1]),aZ,a2,a3,dg,dh,di,h⟩))⟩)))⟩))⟩)))
             ·refine opL (i:=10) rfl (aC zC.toArray a7 Tyz56 (fun fl a8=>(wt ⟨heldF (fq [2,3] a8),anyAll (rs:=[6,12]) (by kernel_rfl) (by decide) (allC ?_ (allC ?_ allN))⟩)))
              ·refine opL (i:=6) rfl (l1 3 (sl bb ap bd) a8 Tya45 (wt ⟨heldF (fq [2,3] a8),?_⟩))
               obtain ⟨⟨c,d,e,f,g⟩,dj,h⟩:=ob h
               obtain ⟨dM,dN,fm,ee,fn,dO,ef⟩:=((mc c9 ((aX.trans b8).trans bX))).row.at_ (idxO_at dj).1
               obtain ⟨bj,bk,bm,bn,rfl,dP,dQ,dR⟩:=RDCase.open ef
               refine tk 8 (.pointer (some ⟨dM,dN + (C:Int).toNat * 5,none⟩)) (lb 14 3583) rfl (fun w=>idxG_r (b:=dM) (o:=dN) (i:=(C:Int)) Tye45 Tys56 rfl ee rfl (idxO_at dj).2.1 (idxO_at dj).2.2) (heldF (fq [2,3] a8)) (anyAll (rs:=[9,12]) (by kernel_rfl) (by decide) (allC ?_ (allC ?_ allN)))
               ·exact opL (i:=9) rfl (lD (vC c d e bj f bk bm g bn) Tya56 Tys56 rfl (fun j v hj=>a8.cell (kr.cell (dO j v hj))) (wt ⟨heldF (fq [2,3] a8),aO 12 rfl (sI 0 (.agg (vC l m p t q u x s y).toArray) ((vC l m p t q u x s y).toArray) a8 Tys56 rfl rfl (fun bi A=>(wt ⟨heldE (i:=12) rfl rfl,aO 13 rfl (sI 1 (.agg (vC c d e bj f bk bm g bn).toArray) ((vC c d e bj f bk bm g bn).toArray) A Tys56 rfl rfl (fun a6 B=>(wt ⟨heldE (i:=13) rfl rfl,aD (thenN (⟨_,(zz bY),l,m,p,q,t,u,s,x,y,(zz aY.drew),c,d,e,f,bj,bk,g,bm,bn,fR,(B.sel [2,3,0,1]),aZ,a2,a3,dP,dQ,dR,h⟩))⟩)))⟩)))⟩))
               ·exact opL (i:=12) rfl (sI 0 (.agg (vC l m p t q u x s y).toArray) ((vC l m p t q u x s y).toArray) a8 Tys56 rfl rfl (fun bi A=>(wt ⟨heldE (i:=12) rfl rfl,aO 9 rfl (lD (vC c d e bj f bk bm g bn) Tya56 Tys56 rfl (fun j v hj=>A.cell (kr.cell (dO j v hj))) (wt ⟨heldE (i:=12) rfl rfl,aO 13 rfl (sI 1 (.agg (vC c d e bj f bk bm g bn).toArray) ((vC c d e bj f bk bm g bn).toArray) A Tys56 rfl rfl (fun a6 B=>(wt ⟨heldE (i:=13) rfl rfl,aD (thenN (⟨_,(zz bY),l,m,p,q,t,u,s,x,y,(zz aY.drew),c,d,e,f,bj,bk,g,bm,bn,fR,(B.sel [2,3,0,1]),aZ,a2,a3,dP,dQ,dR,h⟩))⟩)))⟩))⟩)))
              ·refine opL (i:=12) rfl (sI 0 (.agg (vC l m p t q u x s y).toArray) ((vC l m p t q u x s y).toArray) a8 Tys56 rfl rfl (fun fo dk=>(wt ⟨heldE (i:=12) rfl rfl,aO 6 rfl (l1 3 (sl bb ap bd) dk Tya45 (wt ⟨heldE (i:=12) rfl rfl,?_⟩))⟩)))
               obtain ⟨⟨c,d,e,f,g⟩,dl,h⟩:=ob h
               obtain ⟨dS,dT,fp,eg,fs,eh,ei⟩:=((mc c9 ((aX.trans b8).trans bX))).row.at_ (idxO_at dl).1
               obtain ⟨cD,cG,cH,cI,rfl,ej,ek,el⟩:=RDCase.open ei
               exact tk 8 (.pointer (some ⟨dS,dT + (C:Int).toNat * 5,none⟩)) (lb 14 7679) rfl (fun w=>idxG_r (b:=dS) (o:=dT) (i:=(C:Int)) Tye45 Tys56 rfl eg rfl (idxO_at dl).2.1 (idxO_at dl).2.2) (heldE (i:=12) rfl rfl) (aO 9 rfl (lD (vC c d e cD f cG cH g cI) Tya56 Tys56 rfl (fun j v hj=>dk.cell (kr.cell (eh j v hj))) (wt ⟨heldE (i:=12) rfl rfl,aO 13 rfl (sI 1 (.agg (vC c d e cD f cG cH g cI).toArray) ((vC c d e cD f cG cH g cI).toArray) dk Tys56 rfl rfl (fun a6 B=>(wt ⟨heldE (i:=13) rfl rfl,aD (thenN (⟨_,(zz bY),l,m,p,q,t,u,s,x,y,(zz aY.drew),c,d,e,f,cD,cG,g,cH,cI,fR,(B.sel [2,3,0,1]),aZ,a2,a3,ej,ek,el,h⟩))⟩)))⟩)))
           ·rintro _ fZ ⟨eJ,d8,dq,cZ,db,dr,dC,dD,ds,dE,dF,d9,dt,c2,dc,du,dG,dH,dv,dI,dJ,rfl,bZ,f0,ft,fu,f1,fv,fx,h⟩
            unfold f19_j4 at h
            refine wp_cut (fun a w=>∃ eO dU em,a=fr 161 (updL eO [(0,sl b2 a4 b3),(1,sl cy a5 cz),(5,iI (ao:Int)),(6,pp bo 0),(7,pp bp 0),(8,iI (C:Int)),(160,.bool em)])∧KH.sub a9 dU∧SR K dU wi w [] [.box (zz wi) bo (vS b4 bx bF bz bG bH b9 b5 cb cc bI ce cf bJ ch ci bK cj bA aF bB).toArray 47,.box (zz wi) bp (vS b6 bC bL bD bM bN ck b7 cl cm bO cn co bP cq cr bQ ct bb ap bd).toArray 47]∧f19_j5 k F C em (f19_l2 k F ao ap (f19_l1 k F a5 bE) cB)=some r_) ?_ ?_
            ·refine wp_region_lit (fd 0 Tyf56_0 rfl (l1 2 (iI dq) bZ Tya3 (fd 0 Tyf56_0 rfl (l1 3 (iI dt) bZ Tya3 (c0 (dq != dt) (m1 (.bool (dq != dt)) (cd h (fun b0 h=>?_) (fun b0 h=>?_))))))))
             ·exact o1 131 b0 (o1 131 b0 (o1 131 b0 (o1 131 b0 (o1 131 b0 (m3 true vT (cg b0) (m1 vT (o0 138 (o0 138 (o0 138 (o0 138 (o0 138 (m3 true vT rfl (m1 vT (o0 145 (o0 145 (o0 145 (o0 145 (o0 145 (o0 145 (m3 true vT rfl (m1 vT (o0 153 (o0 153 (o0 153 (o0 153 (o0 153 (o0 153 (m3 true vT rfl (wt (⟨_,a9,true,fR,kr,(bZ.sel [0,1]),h⟩))))))))))))))))))))))))))))))
             ·refine n1 131 b0 (fd 1 Tyf56_1 rfl (n1 131 b0 (l1 2 (.string cZ) bZ Tya9 (n1 131 b0 (fd 1 Tyf56_1 rfl (n1 131 b0 (l1 3 (.string c2) bZ Tya9 (n1 131 b0 (bsc (r:=(!seq cZ c2)) rfl rfl rfl (m3 false (.bool (!seq cZ c2)) (cg b0) (m1 (.bool (!seq cZ c2)) (cd h (fun b1 h=>?_) (fun b1 h=>?_)))))))))))))
              ·exact o1 138 b1 (o1 138 b1 (o1 138 b1 (o1 138 b1 (o1 138 b1 (m3 true vT (cg b1) (m1 vT (o0 145 (o0 145 (o0 145 (o0 145 (o0 145 (o0 145 (m3 true vT rfl (m1 vT (o0 153 (o0 153 (o0 153 (o0 153 (o0 153 (o0 153 (m3 true vT rfl (wt (⟨_,a9,true,fR,kr,(bZ.sel [0,1]),h⟩)))))))))))))))))))))))
              ·refine n1 138 b1 (fd 2 Tyf56_2 rfl (n1 138 b1 (l1 2 (iI db) bZ Tya3 (n1 138 b1 (fd 2 Tyf56_2 rfl (n1 138 b1 (l1 3 (iI dc) bZ Tya3 (n1 138 b1 (c0 (db != dc) (m3 false (.bool (db != dc)) (cg b1) (m1 (.bool (db != dc)) (cd h (fun bv h=>?_) (fun bv h=>?_)))))))))))))
               ·exact o1 145 bv (o1 145 bv (o1 145 bv (o1 145 bv (o1 145 bv (o1 145 bv (m3 true vT (cg bv) (m1 vT (o0 153 (o0 153 (o0 153 (o0 153 (o0 153 (o0 153 (m3 true vT rfl (wt (⟨_,a9,true,fR,kr,(bZ.sel [0,1]),h⟩))))))))))))))))
               ·refine n1 145 bv (fd 3 Tyf56_3 rfl (n1 145 bv (l1 2 (sl dC dr dD) bZ Tya44 (n1 145 bv (fd 3 Tyf56_3 rfl (n1 145 bv (l1 3 (sl dG du dH) bZ Tya44 (n1 145 bv ?_))))))))
                obtain ⟨en,fy,h⟩:=ob h
                refine cv ([sl dC dr dD,sl dG du dH]) Tyb32 ((f32_ok k) fy (hG.mono (((cA.trans aX).trans b8).trans bX)) ft fv (pt bZ)) ?_
                rintro _ f2 ⟨fz,rfl,dw⟩
                have dV:=ca dw bZ
                refine n1 145 bv (uN en (m3 false (.bool (!en)) (cg bv) (m1 (.bool (!en)) (cd h (fun bw h=>?_) (fun bw h=>?_)))))
                ·exact o1 153 bw (o1 153 bw (o1 153 bw (o1 153 bw (o1 153 bw (o1 153 bw (m3 true vT (cg bw) (wt (⟨_,fz,true,fR,dw.sub,(dV.sel [0,1]),h⟩))))))))
                ·refine n1 153 bw (fd 4 Tyf56_4 rfl (n1 153 bw (l1 2 (sl dE ds dF) dV Tya32 (n1 153 bw (fd 4 Tyf56_4 rfl (n1 153 bw (l1 3 (sl dI dv dJ) dV Tya32 (n1 153 bw ?_))))))))
                 obtain ⟨eo,fA,h⟩:=ob h
                 refine cv ([sl dE ds dF,sl dI dv dJ]) Tyb19 (IH19 fA (hG.mono ((((cA.trans aX).trans b8).trans bX).trans dw.sub)) (ms fu dw.sub) (ms fx dw.sub) (pt dV)) ?_
                 rintro _ f4 ⟨fB,rfl,eP⟩
                 have fC:=ca eP dV
                 exact n1 153 bw (uN eo (m3 false (.bool (!eo)) (cg bw) (wt (⟨_,fB,(!eo),fR,(dw.sub.trans eP.sub),(fC.sel [0,1]),h⟩))))
            ·rintro _ ga ⟨eO,dU,em,rfl,fD,eQ,h⟩
             unfold f19_j5 at h
             refine cd h (fun ep h=>?_) (fun ep h=>?_)
             ·refine cT ep (sr (m2 vN (wt (wp_ret (blkR (thenR (thenR (blkR (blkR (thenR (thenR (blkR (thenR ?_)))))))))))))
              cases (oi h).trans hr_
              exact retA1 rfl (resT rfl) ⟨dU,rfl,(eQ.sel [])⟩
             ·exact cF ep (wp_skip (blkN (thenN (wp_region_lit (m1 (iI (C:Int)) (bar (r:=((C + 1:Nat):Int)) rfl rfl (inc_ok (le_big (((mc eB ((aX.trans b8).trans bX))).len) (by decide) (drop_cons_lt dp))) (m2 (iI ((C + 1:Nat):Int)) (wt (⟨_,Nat.lt_succ_self _,_,dU,cB,C + 1,rfl,fR,(bX.trans fD),eQ,drop_cons_next dp,h⟩)))))))))
theorem fam19_ok (k0:Nat) : ∀ k,f19_spec (fam19 k0 k).f19:=by
 intro k
 induction k with
 | zero=>exact (by unfold f19_spec; intro _ _ _ _ _ _ _ _ _ h_; cases h_)
 | succ k ih=>exact f19_b_ok k0 (fam19 k0 k) ih
theorem f19_ok (k:Nat):f19_spec (f19 k):=(fam19_ok k k)
end Go.Proofs.YtoajecnoffhlbaaDoor
