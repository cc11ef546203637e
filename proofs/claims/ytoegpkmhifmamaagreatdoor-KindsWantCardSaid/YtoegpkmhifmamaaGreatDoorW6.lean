/- Words of the same proof, part 6: what the last text needs; nothing is claimed here. -/
import Derived.Test.YtoegpkmhifmamaaGreatDoorW5
import Derived.ProofKit
set_option linter.unusedVariables false
set_option linter.unusedSimpArgs false
set_option maxRecDepth 100000
set_option maxHeartbeats 20000000
namespace Go.Proofs.YtoegpkmhifmamaaGreatDoor
open Go
theorem asx (k:Nat) (F:agh) (IH32:ac3 F.f32) (IH1004841:abm F.f1004841) (IH1004932:abj F.f1004932) (IH1007390:abn F.f1007390) (IH1007438:abq F.f1007438) (IH1009890:abr F.f1009890):ac3 (avl k F):=by
 unfold ac3;intro K wi y V g W h hG z A;obtain ⟨r_,hr_,h⟩:=rz h;obtain ⟨m,B,C,f,i⟩:=y;obtain ⟨j,l,rfl,X,t⟩:=aan.open z;refine enter Tryz.func32 rfl (n:=25) rfl ?_;unfold avl at h;refine sr (bxoC (cs:=(aE m B C f j i l)) A rfl rfl (fun o D=>(bxoC (cs:=#[iI g]) D rfl rfl (fun Y c=>(m2 vN (wt (aax (fun a w=>∃ u p q,a=fr 25 (updL u [(4,.bool q)])∧KH.sub K p∧SR K p wi w [] []∧ajq k F q=some r_) ?_ ?_)))))))
 ·refine wp_region_lit (fd 0 acG rfl (l1 1 (iI m) c Tya3 (c0 (m != 4) (m1 (.bool (m != 4)) (cd h (fun b h=>?_) (fun b h=>?_))))))
  ·refine o1 8 b (o1 8 b (o1 8 b (o1 8 b (ou 12 (ou 12 (ou 12 (ou 12 (o1 8 b (m3 true vT (cg b) (m1 vT (n0 19 (fd 4 abO rfl (n0 19 (l1 1 (sl j i l) c abw (n0 19 (mkf (us:=[]) (vs:=[pp (zz o) 0]) rfl rfl (n0 19 ?_)))))))))))))))));obtain ⟨r,G,h⟩:=ob h;refine cv ([sl j i l,.func (.func 49) #[] #[pp (zz o) 0]]) axr (IH1004841 G (hG.mono kr) t (pt c)) ?_;rintro _ Z ⟨I,rfl,v⟩;have J:=ca v c;exact m3 true (.bool r) rfl (m2 (.bool r) (wt (⟨_,I,r,fR,v.sub,(J.sel []),h⟩)))
  ·refine n1 8 b (fd 3 ad9 rfl (n1 8 b (l1 1 (iI f) c Tya3 (n1 8 b (c0 (decide (f ≥ 0)) (n1 8 b (m1 (.bool (decide (f ≥ 0))) (cd h (fun d h=>?_) (fun d h=>?_)))))))))
   ·refine n1 12 d (fd 3 ad9 rfl (n1 12 d (l1 1 (iI f) c Tya3 (n1 12 d (l1 0 (iI g) c Tya3 (n1 12 d (c0 (decide (f < g)) (n1 8 b (m3 true (.bool (decide (f < g))) (cg d) (m3 false (.bool (decide (f < g))) (cg b) (m1 (.bool (decide (f < g))) (cd h (fun e h=>?_) (fun e h=>?_)))))))))))))
    ·refine n1 19 e (fd 4 abO rfl (n1 19 e (l1 1 (sl j i l) c abw (n1 19 e (mkf (us:=[]) (vs:=[pp (zz o) 0]) rfl rfl (n1 19 e ?_))))));obtain ⟨s,N,h⟩:=ob h;refine cv ([sl j i l,.func (.func 49) #[] #[pp (zz o) 0]]) axr (IH1004841 N (hG.mono kr) t (pt c)) ?_;rintro _ ab ⟨O,rfl,x⟩;have S:=ca x c;exact m3 true (.bool s) (cg e) (m2 (.bool s) (wt (⟨_,O,s,fR,x.sub,(S.sel []),h⟩)))
    ·exact o1 19 e (o1 19 e (o1 19 e (o1 19 e (m3 false vN (cg e) (m2 vN (wt (⟨_,K,false,fR,kr,(c.sel []),h⟩)))))))
   ·exact o1 12 d (o1 12 d (o1 12 d (o1 12 d (n1 8 b (m3 false vN (cg d) (m3 false vN (cg b) (m1 vN (o0 19 (o0 19 (o0 19 (o0 19 (m3 false vN rfl (m2 vN (wt (⟨_,K,false,fR,kr,(c.sel []),h⟩)))))))))))))))
 ·rintro _ ac ⟨u,p,q,rfl,ad,U,h⟩;unfold ajq at h;refine wp_ret ?_;cases (oi h).trans hr_;exact aaw rfl (resT rfl) ⟨p,rfl,U⟩
theorem aj3 (k:Nat) (F:agh) (IH32:ac3 F.f32) (IH1004841:abm F.f1004841) (IH1004932:abj F.f1004932) (IH1007390:abn F.f1007390) (IH1007438:abq F.f1007438) (IH1009890:abr F.f1009890):abm (aha k F):=by
 unfold abm;intro K wi b c d g bs s o h hG f a;obtain ⟨r_,hr_,h⟩:=rz h;refine enter Tryz.func48 rfl (n:=9) rfl ?_;unfold aha at h;refine sr (bxoC (cs:=#[.func (.func 49) #[] #[pp g 0]]) a rfl rfl (fun p a=>(m2 vN (wt (sr (m1 (sl c b d) (mkf (us:=[]) (vs:=[pp (zz wi) 0]) rfl rfl ?_)))))));obtain ⟨e,i,h⟩:=ob h;refine cv ([sl c b d,.func (.func 74) #[] #[pp (zz wi) 0]]) azc (IH1007390 i (hG.mono kr) f (pt a)) ?_;rintro _ q ⟨j,rfl,l⟩;have m:=ca l a;refine uN e (m2 (.bool (!e)) (wt (wp_ret ?_)));cases (oi h).trans hr_;exact aaw rfl (resT rfl) ⟨j,rfl,(m.sel [1])⟩
theorem aky (k:Nat) (F:agh) (IH32:ac3 F.f32) (IH1004841:abm F.f1004841) (IH1004932:abj F.f1004932) (IH1007390:abn F.f1007390) (IH1007438:abq F.f1007438) (IH1009890:abr F.f1009890):abj (ahb k F):=by
 unfold abj;intro K wi l x g bs s y h hG m o;obtain ⟨r_,hr_,h⟩:=rz h;obtain ⟨b,c,d,e,f⟩:=l;obtain ⟨i,j,rfl,p,q⟩:=aan.open m;refine enter Tryz.func49 rfl (n:=7) rfl ?_;unfold ahb at h;refine sr (bxoC (cs:=(aE b c d e i f j)) o rfl rfl (fun z a=>(m2 vN (wt (sr (lN 0 (vE b c d e i f j) a acg aaX (l1 1 (iI s) a Tya3 ?_)))))));obtain ⟨r,t,h⟩:=ob h;refine cv ([.agg (aE b c d e i f j),iI s]) axY (IH32 t (hG.mono kr) (aan.intro p q) (pt a)) ?_;rintro _ A ⟨u,rfl,v⟩;have w:=ca v a;refine m2 (.bool r) (wt (wp_ret ?_));cases (oi h).trans hr_;exact aaw rfl (resT rfl) ⟨u,rfl,(w.sel [1])⟩
theorem alw (k:Nat) (F:agh) (IH32:ac3 F.f32) (IH1004841:abm F.f1004841) (IH1004932:abj F.f1004932) (IH1007390:abn F.f1007390) (IH1007438:abq F.f1007438) (IH1009890:abr F.f1009890):abn (agT k F):=by
 unfold abn;intro K wi b c d g bs gA bsA sA a h hG f e;obtain ⟨r_,hr_,h⟩:=rz h;refine enter Tryz.func73 rfl (n:=9) rfl ?_;unfold agT at h;refine sr (m2 vN (wt (sr (m1 (sl c b d) (m1 (.func (.func 74) #[] #[pp g 0]) ?_)))));obtain ⟨a,i,h⟩:=ob h;refine cv ([sl c b d,.func (.func 74) #[] #[pp g 0]]) azs (IH1009890 i (hG.mono kr) f (pt e)) ?_;rintro _ o ⟨j,rfl,l⟩;have m:=ca l e;refine c0 (decide (a ≥ 0)) (m2 (.bool (decide (a ≥ 0))) (wt (wp_ret ?_)));cases (oi h).trans hr_;exact aaw rfl (resT rfl) ⟨j,rfl,m⟩
theorem alu (k:Nat) (F:agh) (IH32:ac3 F.f32) (IH1004841:abm F.f1004841) (IH1004932:abj F.f1004932) (IH1007390:abn F.f1007390) (IH1007438:abq F.f1007438) (IH1009890:abr F.f1009890):abq (ag4 k F):=by
 unfold abq;intro K wi o y g bs gA bsA sA z h hG p q;obtain ⟨r_,hr_,h⟩:=rz h;obtain ⟨a,b,c,d,e⟩:=o;obtain ⟨f,i,rfl,r,s⟩:=aan.open p;refine enter Tryz.func74 rfl (n:=8) rfl ?_;unfold ag4 at h;refine sr (bxoC (cs:=(aE a b c d f e i)) q rfl rfl (fun t j=>(m2 vN (wt (sr (l1 1 (.func (.func 49) #[] #[pp gA 0]) j azu (lN 0 (vE a b c d f e i) j acg aaX ?_)))))));have l:=p201 j;obtain ⟨m,u,h⟩:=ob h;refine clV (caps:=#[pp gA 0]) (vs:=[.agg (aE a b c d f e i),pp gA 0]) rfl ayv rfl (IH1004932 u (hG.mono kr) (aan.intro r s) (pt l)) ?_;rintro _ A ⟨v,rfl,w⟩;have x:=ca w l;refine uN m (m2 (.bool (!m)) (wt (wp_ret ?_)));cases (oi h).trans hr_;exact aaw rfl (resT rfl) ⟨v,rfl,(x.sel [2,0])⟩
theorem akL (k:Nat) (F:agh) (IH32:ac3 F.f32) (IH1004841:abm F.f1004841) (IH1004932:abj F.f1004932) (IH1007390:abn F.f1007390) (IH1007438:abq F.f1007438) (IH1009890:abr F.f1009890):abr (ahe k F):=by
 unfold abr;intro K wi d p q g bs gA bsA sA ac h hG u U;obtain ⟨r_,hr_,h⟩:=rz h;refine enter Tryz.func98 rfl (n:=19) rfl ?_;unfold ahe at h;refine sr (m2 (iI 0) (wt (wp_seq (sr (m1 (sl p d q) (lS d.length aba (m1 (iI 0) (wt (wp_block (aaz (fun g_ a w=>∃ x l e,∃ (c:Nat),g_=e.length∧a=fr 19 (updL x [(0,sl p d q),(1,.func (.func 74) #[] #[pp g 0]),(7,iI (d.length:Int)),(8,iI (c:Int))])∧KH.sub K l∧SR K l wi w [.box bs g #[.func (.func 49) #[] #[pp gA 0]] 97,.box bsA gA #[iI sA] 3] [.box bsA gA #[iI sA] 3,.box bs g #[.func (.func 49) #[] #[pp gA 0]] 97]∧d.drop c=e∧adO k F sA e c=some r_) d.length ?_ ?_))))))))))
 ·exact ⟨_,K,d,0,rfl,fR,kr,(U.sel [1,0]),List.drop_zero,h⟩
 ·rintro _ _ V ⟨x,l,e,c,rfl,rfl,m,s,f,h⟩;rcases e with _ | ⟨⟨y,z,A,B,C⟩,e⟩
  ·unfold adO at h;refine sr (bcm (r:=false) rfl rfl (congrArg some (aaq f)) (wt (wp_seq (cndF rfl (wp_exit (aaA (aaA (blkX (aac (sr (m2 (iI (-1)) (wt (wp_ret ?_)))))))))))));cases (oi h).trans hr_;exact aaw rfl (resT rfl) ⟨l,rfl,(s.sel [1,0])⟩
  ·unfold adO at h;refine sr (bcm (r:=true) rfl rfl (congrArg some (aap f)) (wt (wp_seq (cndT rfl (wp_skip (aac (wp_seq (wp_block (sr (m1 (iI (c:Int)) (m2 (iI (c:Int)) (wt (sr (m1 (.func (.func 74) #[] #[pp g 0]) (m1 (sl p d q) (m1 (iI (c:Int)) ?_))))))))))))))));obtain ⟨W,X,ad,Y,ae,Z,D⟩:=((me u m)).row.at_ (aal f);obtain ⟨G,I,rfl,af,ag⟩:=aan.open D;refine idxN (b:=W) (o:=X) (i:=c) aba aaX rfl Y rfl (aab f) (lD (vE y z A B G C I) acg aaX rfl (fun j v hj=>s.cell (kr.cell (Z j v hj))) ?_);have J:=p10 s;obtain ⟨ah,ab,h⟩:=ob h;refine clV (caps:=#[pp g 0]) (vs:=[.agg (aE y z A B G C I),pp g 0]) rfl ayP rfl (IH1007438 ab (hG.mono m) D (pt J)) ?_;rintro _ ai ⟨N,rfl,O⟩;have S:=ca O J;refine wt (cd h (fun t h=>?_) (fun t h=>?_))
   ·refine cT t (sr (m1 (iI (c:Int)) (m2 (iI (c:Int)) (wt (wp_ret (blkR (aav (aav (blkR (aav ?_))))))))));cases (oi h).trans hr_;exact aaw rfl (resT rfl) ⟨N,rfl,S⟩
   ·exact cF t (wp_skip (blkN (aac (wp_region_lit (bar (r:=((c + 1:Nat):Int)) rfl rfl (aaO (aaS (((me u m)).len) (by decide) (aab f))) (m1 (iI ((c + 1:Nat):Int)) (wt (⟨_,Nat.lt_succ_self _,_,N,e,c + 1,rfl,fR,(m.trans O.sub),(S.sel [1,0]),aaj f,h⟩))))))))
theorem afI (k0:Nat) : ∀ k,ac3 (ady k0 k).f32∧abm (ady k0 k).f1004841∧abj (ady k0 k).f1004932∧abn (ady k0 k).f1007390∧abq (ady k0 k).f1007438∧abr (ady k0 k).f1009890:=by
 intro k;induction k with
 | zero=>exact ⟨(by unfold ac3; intro _ _ _ _ _ _ h_; cases h_),(by unfold abm; intro _ _ _ _ _ _ _ _ _ h_; cases h_),(by unfold abj; intro _ _ _ _ _ _ _ _ h_; cases h_),(by unfold abn; intro _ _ _ _ _ _ _ _ _ _ _ h_; cases h_),(by unfold abq; intro _ _ _ _ _ _ _ _ _ _ h_; cases h_),(by unfold abr; intro _ _ _ _ _ _ _ _ _ _ _ h_; cases h_)⟩
 | succ k ih=>exact ⟨asx k0 (ady k0 k) ih.1 ih.2.1 ih.2.2.1 ih.2.2.2.1 ih.2.2.2.2.1 ih.2.2.2.2.2,aj3 k0 (ady k0 k) ih.1 ih.2.1 ih.2.2.1 ih.2.2.2.1 ih.2.2.2.2.1 ih.2.2.2.2.2,aky k0 (ady k0 k) ih.1 ih.2.1 ih.2.2.1 ih.2.2.2.1 ih.2.2.2.2.1 ih.2.2.2.2.2,alw k0 (ady k0 k) ih.1 ih.2.1 ih.2.2.1 ih.2.2.2.1 ih.2.2.2.2.1 ih.2.2.2.2.2,alu k0 (ady k0 k) ih.1 ih.2.1 ih.2.2.1 ih.2.2.2.1 ih.2.2.2.2.1 ih.2.2.2.2.2,akL k0 (ady k0 k) ih.1 ih.2.1 ih.2.2.1 ih.2.2.2.1 ih.2.2.2.2.1 ih.2.2.2.2.2⟩
theorem axf (k:Nat):ac3 (f32 k):=(afI k k).1
theorem aus (k:Nat):abm (f1004841 k):=(afI k k).2.1
theorem auE (k:Nat):abj (f1004932 k):=(afI k k).2.2.1
theorem aux (k:Nat):abn (f1007390 k):=(afI k k).2.2.2.1
theorem auS (k:Nat):abq (f1007438 k):=(afI k k).2.2.2.2.1
theorem av6 (k:Nat):abr (f1009890 k):=(afI k k).2.2.2.2.2
theorem asm (k:Nat):ajZ (av5 k):=by
 unfold ajZ;intro K wi Z ak c o p al am h hG ab N ac;obtain ⟨r_,hr_,h⟩:=rz h;obtain ⟨d,e,f,g,i⟩:=Z;obtain ⟨j,l,rfl,y,z⟩:=aan.open ab;refine enter Tryz.func20 rfl (n:=29) rfl ?_;unfold av5 at h;refine sr (bxoC (cs:=(aE d e f g j i l)) ac rfl rfl (fun an O=>(m2 (iI 0) (m2 (iI 0) (wt (sr (m1 (sl o c p) ?_)))))));obtain ⟨t,ad,h⟩:=ob h;refine cv ([sl o c p,.func (.func 30) #[] #[]]) ayE ((anl k) ad (hG.mono kr) N (pt O)) ?_;rintro _ ao ⟨ae,rfl,m⟩;have A:=ca m O;refine m2 (.bool t) (wt (wp_seq (aax (fun a w=>∃ S u B,a=fr 29 (updL S [(1,sl o c p),(2,pp (zz wi) 0),(22,.bool B)])∧KH.sub ae u∧SR K u wi w [] [.box (zz wi) (zz wi) (aE d e f g j i l) 33]∧al4 k d e f g i c B=some r_) ?_ ?_)))
 ·refine wp_region_lit (lN 0 (vE d e f g j i l) A acg aaX ?_);obtain ⟨U,af,h⟩:=ob h;refine cv ([.agg (aE d e f g j i l),vT]) ayO ((awN k) af (hG.mono m.sub) (aan.intro y (me z m.sub)) (pt A)) ?_;rintro _ ap ⟨ag,rfl,q⟩;have v:=ca q A;refine uN U (m1 (.bool (!U)) (cd h (fun b h=>?_) (fun b h=>?_)))
  ·exact o1 13 b (o1 13 b (o1 13 b (o1 13 b (o1 13 b (m3 true vT (cg b) (m1 vT (o0 20 (m3 true vT rfl (wt (⟨_,ag,true,fR,q.sub,v,h⟩))))))))))
  ·refine n1 13 b (lN 0 (vE d e f g j i l) v acg aaX (n1 13 b (m1 (sl o c p) (n1 13 b (lS c.length abT (n1 13 b ?_))))));obtain ⟨C,ah,h⟩:=ob h;refine cv ([.agg (aE d e f g j i l),iI (c.length:Int)]) axY ((axf k) ah (hG.mono (m.sub.trans q.sub)) (aan.intro y (me z (m.sub.trans q.sub))) (pt v)) ?_;rintro _ aq ⟨V,rfl,D⟩;have W:=ca D v;refine n1 13 b (uN C (m3 false (.bool (!C)) (cg b) (m1 (.bool (!C)) (cd h (fun r h=>?_) (fun r h=>?_)))))
   ·exact o1 20 r (m3 true vT (cg r) (wt (⟨_,V,true,fR,(q.sub.trans D.sub),W,h⟩)))
   ·exact n1 20 r (m1 (.bool t) (m3 false (.bool t) (cg r) (wt (⟨_,V,t,fR,(q.sub.trans D.sub),W,h⟩))))
 ·rintro _ ar ⟨S,u,B,rfl,G,x,h⟩;unfold al4 at h;refine cd h (fun I h=>?_) (fun I h=>?_)
  ·refine cT I (sr (m2 (iI 0) (m2 (iI 2) (wt (wp_ret (aav ?_))))));cases (oi h).trans hr_;exact ac4 rfl (resT rfl) (resT rfl) ⟨u,rfl,(x.sel [])⟩
  ·refine cF I (wp_skip (aac (sr (lN 0 (vE d e f g j i l) x acg aaX (m1 (sl o c p) ?_)))));obtain ⟨s,ai,h⟩:=ob h;refine cv ([.agg (aE d e f g j i l),sl o c p]) anN ((amS k) ai (hG.mono (m.sub.trans G)) (aan.intro y (me z (m.sub.trans G))) (N.mono (m.sub.trans G) (fun _ _ h=>h)) (pt x)) ?_;rintro _ au ⟨X,rfl,aj⟩;have Y:=ca aj x;refine m2 (iI s) (wt (wp_seq (sr (m1 (iI s) (c0 (s == (-1)) (wt (cd h (fun J h=>?_) (fun J h=>?_))))))))
   ·refine cT J (sr (m2 (iI 0) (m2 (iI 23) (wt (wp_ret (aav ?_))))));cases (oi h).trans hr_;exact ac4 rfl (resT rfl) (resT rfl) ⟨X,rfl,(Y.sel [])⟩
   ·refine cF J (wp_skip (aac (sr (m1 (iI s) (m2 (iI s) (m2 (iI 0) (wt (wp_ret ?_))))))));cases (oi h).trans hr_;exact ac4 rfl (resT rfl) (resT rfl) ⟨X,rfl,(Y.sel [])⟩
theorem awF (k:Nat):ajZ (f20 k):=asm k
theorem awf (k:Nat):ani (f8_b k):=by
 unfold ani;intro K wi aM h hG D;obtain ⟨r_,hr_,h⟩:=rz h;refine enter Tryz.func8 rfl (n:=48) rfl ?_;unfold f8_b at h;refine sr (m2 vN (wt (sr ?_)));obtain ⟨⟨Y⟩,Z,h⟩:=ob h;refine cv ([.slice none ([]:LS).length 0]) awI ((atT k) Z (hG.mono kr) (RSl.nil _ _ _ _ _ _) (pt D)) ?_;rintro _ aN ⟨aP,aQ,rfl,m,G⟩;have I:=ca m D;obtain ⟨ab,ac,rfl,aT⟩:=aak.open G;obtain ⟨⟨⟨p⟩,l⟩,ad,h⟩:=ob h;refine cv ([.agg #[sl ab Y ac]]) ao1 ((ajL k) ad (hG.mono m.sub) G (pt I)) ?_;rintro _ aU ⟨ae,aV,rfl,q,af⟩;have ag:=ca q I;obtain ⟨r,s,rfl,aW⟩:=aak.open af;refine m1 (.tuple #[.agg #[sl r p s],iI l]) (ext (v:=.agg #[sl r p s]) rfl rfl (ext (v:=iI l) rfl rfl (aC #[nS] ag adw (fun aX ah=>(sI 0 (.agg #[sl r p s]) #[sl r p s] ah aaW rfl rfl (fun ai aj=>(m2 (iI l) (wt (sr (bld (cells:=#[iI 18,sE,iI 0,sE,iI 0,iI 0,nS,nS,nS,nS,nS]) (vs:=[(0,iI 18)]) rfl (fun w=>by kernel_rfl) (bsl (e:=37) (cells:=#[iI 18,sE,iI 0,sE,iI 0,iI 0,nS,nS,nS,nS,nS]) (vs:=[(0,.agg #[iI 18,sE,iI 0,sE,iI 0,iI 0,nS,nS,nS,nS,nS])]) aj rfl (aam aa5 aaM acI rfl (by decide) (by decide) rfl) (fun aY ak=>?_))))))))))));obtain ⟨aZ,J,y,al⟩:=frzI (i:=0) (bytes:=184) (xs:=[(aaf.mk 18 ⟨#[]⟩ 0 ⟨#[]⟩ 0 0 [] [] [] [] [])]) (R:=fun K=>(aai K)) ak rfl (Nat.le_refl _) ⟨[iI 18,sE,iI 0,sE,iI 0,iI 0,nS,nS,nS,nS,nS],_,rfl,rfl,(aai.intro (by decide) (by decide) (RSl.nil _ _ _ _ _ _) (RSl.nil _ _ _ _ _ _) (RSl.nil _ _ _ _ _ _) (RSl.nil _ _ _ _ _ _) (RSl.nil _ _ _ _ _ _)),(aa6 (R:=(aai ae)) (size:=11))⟩ rfl (Nat.le_of_ble_eq_true rfl) (fun hs=>(fun _ _ h=>aai.mono hs h));obtain ⟨⟨am⟩,an,h⟩:=ob h;refine cv ([.slice (some ⟨(zz ai),0,none⟩) [(aaf.mk 18 ⟨#[]⟩ 0 ⟨#[]⟩ 0 0 [] [] [] [] [])].length 1]) awI ((atT k) an (hG.mono J.sub) al (pt J)) ?_;rintro _ a0 ⟨a1,a2,rfl,z,N⟩;have O:=ca z J;obtain ⟨ao,ap,rfl,a3⟩:=aak.open N;obtain ⟨⟨⟨t⟩,b⟩,aq,h⟩:=ob h;refine cv ([.agg #[sl ao am ap]]) ao1 ((ajL k) aq (hG.mono O.sub) N (pt O)) ?_;rintro _ a4 ⟨ar,a5,rfl,S,au⟩;have av:=ca S O;obtain ⟨u,x,rfl,a6⟩:=aak.open au;refine m1 (.tuple #[.agg #[sl u t x],iI b]) (ext (v:=.agg #[sl u t x]) rfl rfl (ext (v:=iI b) rfl rfl (aC #[nS] av adw (fun a7 aw=>(sI 0 (.agg #[sl u t x]) #[sl u t x] aw aaW rfl rfl (fun A ax=>(m2 (iI b) (wt (sr (bld (cells:=#[iI 1,iI 0,sE,iI 0,nS]) (vs:=[(0,iI 1)]) rfl (fun w=>by kernel_rfl) (bld (cells:=#[iI 4,iI 0,.string ⟨#[120]⟩,iI 1,nS]) (vs:=[(0,iI 4),(2,.string ⟨#[120]⟩),(3,iI 1)]) rfl (fun w=>by kernel_rfl) (bsl (e:=33) (cells:=#[iI 1,iI 0,sE,iI 0,nS,iI 4,iI 0,.string ⟨#[120]⟩,iI 1,nS]) (vs:=[(0,.agg #[iI 1,iI 0,sE,iI 0,nS]),(1,.agg #[iI 4,iI 0,.string ⟨#[120]⟩,iI 1,nS])]) ax rfl (fun w=>by kernel_rfl) (fun ay az=>(bld (cells:=#[iI 11,iI 0,sE,iI 0,.slice (some ⟨(zz A),0,none⟩) 2 2]) (vs:=[(0,iI 11),(4,.slice (some ⟨(zz A),0,none⟩) 2 2)]) rfl (fun w=>by kernel_rfl) (bsl (e:=3) (cells:=#[iI 3,iI 1]) (vs:=[(0,iI 3),(1,iI 1)]) az rfl (fun w=>by kernel_rfl) (fun a8 aA=>?_))))))))))))))));obtain ⟨a9,aB,aG,aH⟩:=frzI (i:=1) (bytes:=64) (xs:=[(aah.mk 1 0 ⟨#[]⟩ 0 []),(aah.mk 4 0 ⟨#[120]⟩ 1 [])]) (R:=fun K=>(aan K)) aA rfl (Nat.le_refl _) ⟨[iI 1,iI 0,sE,iI 0,nS],_,rfl,rfl,(aan.intro (by decide) (RSl.nil _ _ _ _ _ _)),⟨[iI 4,iI 0,.string ⟨#[120]⟩,iI 1,nS],_,rfl,rfl,(aan.intro (by decide) (RSl.nil _ _ _ _ _ _)),(aa6 (R:=(aan ar)) (size:=5))⟩⟩ rfl (Nat.le_of_ble_eq_true rfl) (fun hs=>(fun _ _ h=>aan.mono hs h));obtain ⟨ba,U,V,aI⟩:=frzI (i:=0) (bytes:=8) (xs:=[3,1]) (R:=fun K=>(RInt .i64)) aB rfl (Nat.le_refl _) ⟨[iI 3],_,rfl,rfl,rfl,⟨[iI 1],_,rfl,rfl,rfl,(aa6 (R:=(RInt .i64)) (size:=1))⟩⟩ rfl (Nat.le_of_ble_eq_true rfl) (fun hs=>(fun _ _ h=>h));obtain ⟨⟨c,d⟩,aJ,h⟩:=ob h;refine cv ([.agg (aE 11 0 ⟨#[]⟩ 0 (some ⟨(zz A),0,none⟩) [(aah.mk 1 0 ⟨#[]⟩ 0 []),(aah.mk 4 0 ⟨#[120]⟩ 1 [])] 2),.slice (some ⟨(zz ay),0,none⟩) [3,1].length 2]) ay7 ((awF k) aJ (hG.mono ((((((m.sub.trans q.sub).trans y).trans z.sub).trans S.sub).trans aG).trans V)) (aan.intro (by decide) (me aH V)) aI (pt U)) ?_;rintro _ bb ⟨W,rfl,aK⟩;have o:=ca aK U;refine m1 (.tuple #[iI c,iI d]) (ext (v:=iI c) rfl rfl (ext (v:=iI d) rfl rfl (m2 (iI c) (m2 (iI d) (wt (aax (fun a w=>∃ X B,a=fr 48 (updL X [(0,.bool B)])∧SR K W wi w [] []∧anP k B=some r_) ?_ ?_))))))
 ·refine wp_region_lit (m1 (iI l) (c0 (l == 0) (m1 (.bool (l == 0)) (cd h (fun f h=>?_) (fun f h=>?_)))))
  ·refine n1 30 f (m1 (iI b) (n1 30 f (c0 (b == 26) (m3 true (.bool (b == 26)) (cg f) (m1 (.bool (b == 26)) (cd h (fun g h=>?_) (fun g h=>?_)))))))
   ·refine n1 34 g (m1 (iI d) (n1 34 g (c0 (d == 0) (m3 true (.bool (d == 0)) (cg g) (m1 (.bool (d == 0)) (cd h (fun j h=>?_) (fun j h=>?_)))))))
    ·refine n1 38 j (m1 (iI c) (n1 38 j (c0 (c == 2) (m3 true (.bool (c == 2)) (cg j) (m1 (.bool (c == 2)) (cd h (fun C h=>?_) (fun C h=>?_)))))))
     ·exact m3 true vT (cg C) (m1 vT (m3 true vT rfl (m1 vT (m3 true vT rfl (m2 vT (wt (⟨_,true,fR,(o.sel []),h⟩)))))))
     ·exact m3 false vN (cg C) (m1 vN (m3 false vN rfl (m1 vN (m3 false vN rfl (m2 vN (wt (⟨_,false,fR,(o.sel []),h⟩)))))))
    ·exact o1 38 j (o1 38 j (m3 false vN (cg j) (m1 vN (m3 false vN rfl (m1 vN (m3 false vN rfl (m1 vN (m3 false vN rfl (m2 vN (wt (⟨_,false,fR,(o.sel []),h⟩)))))))))))
   ·exact o1 34 g (o1 34 g (m3 false vN (cg g) (m1 vN (o0 38 (o0 38 (m3 false vN rfl (m1 vN (m3 false vN rfl (m1 vN (m3 false vN rfl (m1 vN (m3 false vN rfl (m2 vN (wt (⟨_,false,fR,(o.sel []),h⟩)))))))))))))))
  ·exact o1 30 f (o1 30 f (m3 false vN (cg f) (m1 vN (o0 34 (o0 34 (m3 false vN rfl (m1 vN (o0 38 (o0 38 (m3 false vN rfl (m1 vN (m3 false vN rfl (m1 vN (m3 false vN rfl (m1 vN (m3 false vN rfl (m2 vN (wt (⟨_,false,fR,(o.sel []),h⟩)))))))))))))))))))
 ·rintro _ bd ⟨X,B,rfl,aL,h⟩;unfold anP at h;refine wp_ret ?_;cases (oi h).trans hr_;exact aaw rfl (resT rfl) ⟨W,rfl,aL⟩
theorem ao2 (k:Nat):ani (f8 k):=awf k
theorem avX (k:Nat):am3 (f9_b k):=by
 unfold am3;intro K wi b c f h hG d;obtain ⟨r_,hr_,h⟩:=rz h;refine enter Tryz.func9 rfl (n:=11) rfl ?_;unfold f9_b at h;refine sr (m2 (iI 0) (wt (sr (m1 (iI b) (cvi (a:=b) (k:=.i64) (k':=.u64) Tyk3 avH rfl (m1 (iI c) (cvi (a:=c) (k:=.i64) (k':=.u64) Tyk3 avH rfl ?_)))))));obtain ⟨e,h⟩:=aaC h;refine brm rfl rfl e (cvi (a:=((IntKind.u64.wrap b).tmod (IntKind.u64.wrap c))) (k:=.u64) (k':=.i64) avH Tyk3 rfl (m2 (iI (w64 ((IntKind.u64.wrap b).tmod (IntKind.u64.wrap c)))) (wt (wp_ret ?_))));cases (oi h).trans hr_;exact aaw rfl (resT rfl) ⟨K,rfl,d⟩
theorem ayU (k:Nat):am3 (f9 k):=avX k
theorem avn (k:Nat):anL (f3_b k):=by
 unfold anL;intro K wi dV fL cn fM h hG dW dX;obtain ⟨r_,hr_,h⟩:=rz h;obtain ⟨t⟩:=dV;obtain ⟨z,c1,rfl,bs⟩:=aak.open dW;refine enter Tryz.func3 rfl (n:=79) rfl ?_;unfold f3_b at h;refine sr (bxoC (cs:=#[sl z t c1]) dX rfl rfl (fun fN cH=>(m2 vN (wt (wp_seq (aax (fun a w=>∃ dc cI cJ,a=fr 79 (updL dc [(1,iI cn),(2,pp (zz wi) 0),(20,.bool cJ)])∧KH.sub K cI∧SR K cI wi w [] [.box (zz wi) (zz wi) #[sl z t c1] 24]∧ang k t cn cJ=some r_) ?_ ?_))))))
 ·refine wp_region_lit (lN 0 ([sl z t c1]) cH abB aaW ?_);obtain ⟨dd,dY,h⟩:=ob h;refine cv ([.agg #[sl z t c1]]) Tyb7 ((azd k) dY (hG.mono kr) (aak.intro bs) (pt cH)) ?_;rintro _ fO ⟨de,rfl,cK⟩;have cL:=ca cK cH;refine uN dd (m1 (.bool (!dd)) (cd h (fun az h=>?_) (fun az h=>?_)))
  ·exact o1 15 az (o1 15 az (o1 15 az (o1 15 az (m3 true vT (cg az) (wt (⟨_,de,true,fR,cK.sub,cL,h⟩))))))
  ·exact n1 15 az (fd 0 aa7 rfl (n1 15 az (l1 0 (sl z t c1) cL ace (n1 15 az (lS t.length abK (n1 15 az (c0 ((t.length:Int) == 0) (m3 false (.bool ((t.length:Int) == 0)) (cg az) (wt (⟨_,de,((t.length:Int) == 0),fR,cK.sub,cL,h⟩))))))))))
 ·rintro _ fP ⟨dc,cI,cJ,rfl,J,bu,h⟩;unfold ang at h;refine cd h (fun cM h=>?_) (fun cM h=>?_)
  ·refine cT cM (sr ?_);obtain ⟨dZ,d0,h⟩:=ob h;refine cv ([]) Tyb8 ((ao2 k) d0 (hG.mono J) (pt bu)) ?_;rintro _ fQ ⟨d1,rfl,d2⟩;have d3:=ca d2 bu;refine m2 (.bool dZ) (wt (wp_ret (aav ?_)));cases (oi h).trans hr_;exact aaw rfl (resT rfl) ⟨d1,rfl,(d3.sel [])⟩
  ·refine cF cM (wp_skip (aac (sr (m1 (iI cn) (fd 0 aa7 rfl (l1 0 (sl z t c1) bu ace (lS t.length abK ?_)))))));obtain ⟨c,d4,h⟩:=ob h;refine cv ([iI cn,iI (t.length:Int)]) Tyb9 ((ayU k) d4 (hG.mono J) (pt bu)) ?_;rintro _ fS ⟨fT,rfl,O⟩;have cN:=ca O bu;refine m2 (iI c) (wt (wp_seq (sr (lN 0 ([sl z t c1]) cN abB aaW ?_))));obtain ⟨⟨⟨aN⟩,bv⟩,d5,h⟩:=ob h;refine cv ([.agg #[sl z t c1]]) ao1 ((ajL k) d5 (hG.mono (J.trans O.sub)) (aak.intro (mf bs (J.trans O.sub))) (pt cN)) ?_;rintro _ bw ⟨d6,fU,rfl,Y,d7⟩;have d8:=ca Y cN;obtain ⟨aP,aQ,rfl,fV⟩:=aak.open d7;refine m1 (.tuple #[.agg #[sl aP aN aQ],iI bv]) (ext (v:=.agg #[sl aP aN aQ]) rfl rfl (ext (v:=iI bv) rfl rfl (aC #[nS] d8 adw (fun fW d9=>(sI 0 (.agg #[sl aP aN aQ]) #[sl aP aN aQ] d9 aaW rfl rfl (fun u cO=>(m2 (iI bv) (wt (sr (m1 (iI bv) (c0 (bv != 0) (wt (cd h (fun cP h=>?_) (fun cP h=>?_))))))))))))))
   ·refine cT cP (sr ?_);obtain ⟨ea,ec,h⟩:=ob h;refine cv ([]) Tyb8 ((ao2 k) ec (hG.mono cO.sub) (pt cO)) ?_;rintro _ fX ⟨ed,rfl,ee⟩;have ef:=ca ee cO;refine m2 (.bool ea) (wt (wp_ret (aav ?_)));cases (oi h).trans hr_;exact aaw rfl (resT rfl) ⟨ed,rfl,(ef.sel [])⟩
   ·refine cF cP (wp_skip (aac (sr (bld (cells:=#[iI 1,iI 1,sE,iI 0,nS]) (vs:=[(0,iI 1),(1,iI 1)]) rfl (fun w=>by kernel_rfl) (bsl (e:=33) (cells:=#[iI 1,iI 1,sE,iI 0,nS]) (vs:=[(0,.agg #[iI 1,iI 1,sE,iI 0,nS])]) cO rfl (aam aba aaX aeQ rfl (by decide) (by decide) rfl) (fun x eg=>?_))))));obtain ⟨eh,ei,af,cQ⟩:=frzI (i:=0) (bytes:=64) (xs:=[(aah.mk 1 1 ⟨#[]⟩ 0 [])]) (R:=fun K=>(aan K)) eg rfl (Nat.le_refl _) ⟨[iI 1,iI 1,sE,iI 0,nS],_,rfl,rfl,(aan.intro (by decide) (RSl.nil _ _ _ _ _ _)),(aa6 (R:=(aan d6)) (size:=5))⟩ rfl (Nat.le_of_ble_eq_true rfl) (fun hs=>(fun _ _ h=>aan.mono hs h));refine bld (cells:=#[iI 20,sE,iI 0,sE,iI 0,iI 0,.slice (some ⟨(zz u),0,none⟩) [(aah.mk 1 1 ⟨#[]⟩ 0 [])].length 1,nS,nS,nS,nS]) (vs:=[(0,iI 20),(6,.slice (some ⟨(zz u),0,none⟩) [(aah.mk 1 1 ⟨#[]⟩ 0 [])].length 1)]) rfl (fun w=>by kernel_rfl) (bld (cells:=#[iI 3,iI 0,sE,iI 0,nS]) (vs:=[(0,iI 3)]) rfl (fun w=>by kernel_rfl) (bsl (e:=33) (cells:=#[iI 3,iI 0,sE,iI 0,nS]) (vs:=[(0,.agg #[iI 3,iI 0,sE,iI 0,nS])]) ei rfl (aam aba aaX aeQ rfl (by decide) (by decide) rfl) (fun y ej=>?_)));obtain ⟨ek,el,X,cR⟩:=frzI (i:=0) (bytes:=64) (xs:=[(aah.mk 3 0 ⟨#[]⟩ 0 [])]) (R:=fun K=>(aan K)) ej rfl (Nat.le_refl _) ⟨[iI 3,iI 0,sE,iI 0,nS],_,rfl,rfl,(aan.intro (by decide) (RSl.nil _ _ _ _ _ _)),(aa6 (R:=(aan eh)) (size:=5))⟩ rfl (Nat.le_of_ble_eq_true rfl) (fun hs=>(fun _ _ h=>aan.mono hs h));refine bld (cells:=#[iI 12,sE,iI 0,sE,iI 0,iI 0,.slice (some ⟨(zz x),0,none⟩) [(aah.mk 3 0 ⟨#[]⟩ 0 [])].length 1,nS,nS,nS,nS]) (vs:=[(0,iI 12),(6,.slice (some ⟨(zz x),0,none⟩) [(aah.mk 3 0 ⟨#[]⟩ 0 [])].length 1)]) rfl (fun w=>by kernel_rfl) (bld (cells:=#[iI 2,iI 0,sE,iI 0,nS]) (vs:=[(0,iI 2)]) rfl (fun w=>by kernel_rfl) (bsl (e:=33) (cells:=#[iI 2,iI 0,sE,iI 0,nS]) (vs:=[(0,.agg #[iI 2,iI 0,sE,iI 0,nS])]) el rfl (aam aba aaX aeQ rfl (by decide) (by decide) rfl) (fun C em=>?_)));obtain ⟨fY,en,D,cS⟩:=frzI (i:=0) (bytes:=64) (xs:=[(aah.mk 2 0 ⟨#[]⟩ 0 [])]) (R:=fun K=>(aan K)) em rfl (Nat.le_refl _) ⟨[iI 2,iI 0,sE,iI 0,nS],_,rfl,rfl,(aan.intro (by decide) (RSl.nil _ _ _ _ _ _)),(aa6 (R:=(aan ek)) (size:=5))⟩ rfl (Nat.le_of_ble_eq_true rfl) (fun hs=>(fun _ _ h=>aan.mono hs h));refine bld (cells:=#[iI 15,sE,iI 0,sE,iI 0,iI 0,.slice (some ⟨(zz y),0,none⟩) [(aah.mk 2 0 ⟨#[]⟩ 0 [])].length 1,nS,nS,nS,nS]) (vs:=[(0,iI 15),(6,.slice (some ⟨(zz y),0,none⟩) [(aah.mk 2 0 ⟨#[]⟩ 0 [])].length 1)]) rfl (fun w=>by kernel_rfl) (bld (cells:=#[iI 20,sE,iI 0,sE,iI 0,iI 0,.slice (some ⟨(zz u),0,none⟩) [(aah.mk 1 1 ⟨#[]⟩ 0 [])].length 1,nS,nS,nS,nS,iI 12,sE,iI 0,sE,iI 0,iI 0,.slice (some ⟨(zz x),0,none⟩) [(aah.mk 3 0 ⟨#[]⟩ 0 [])].length 1,nS,nS,nS,nS,iI 15,sE,iI 0,sE,iI 0,iI 0,.slice (some ⟨(zz y),0,none⟩) [(aah.mk 2 0 ⟨#[]⟩ 0 [])].length 1,nS,nS,nS,nS]) (vs:=[(0,.agg #[iI 20,sE,iI 0,sE,iI 0,iI 0,.slice (some ⟨(zz u),0,none⟩) [(aah.mk 1 1 ⟨#[]⟩ 0 [])].length 1,nS,nS,nS,nS]),(1,.agg #[iI 12,sE,iI 0,sE,iI 0,iI 0,.slice (some ⟨(zz x),0,none⟩) [(aah.mk 3 0 ⟨#[]⟩ 0 [])].length 1,nS,nS,nS,nS]),(2,.agg #[iI 15,sE,iI 0,sE,iI 0,iI 0,.slice (some ⟨(zz y),0,none⟩) [(aah.mk 2 0 ⟨#[]⟩ 0 [])].length 1,nS,nS,nS,nS])]) rfl (fun w=>by kernel_rfl) (aC #[iI 0,sE,iI 0,sE,iI 0,iI 0,nS,nS,nS,nS,nS,iI 0,sE,iI 0,sE,iI 0,iI 0,nS,nS,nS,nS,nS,iI 0,sE,iI 0,sE,iI 0,iI 0,nS,nS,nS,nS,nS] en aza (fun fZ eo=>(sI 0 (.agg #[iI 20,sE,iI 0,sE,iI 0,iI 0,.slice (some ⟨(zz u),0,none⟩) [(aah.mk 1 1 ⟨#[]⟩ 0 [])].length 1,nS,nS,nS,nS,iI 12,sE,iI 0,sE,iI 0,iI 0,.slice (some ⟨(zz x),0,none⟩) [(aah.mk 3 0 ⟨#[]⟩ 0 [])].length 1,nS,nS,nS,nS,iI 15,sE,iI 0,sE,iI 0,iI 0,.slice (some ⟨(zz y),0,none⟩) [(aah.mk 2 0 ⟨#[]⟩ 0 [])].length 1,nS,nS,nS,nS]) #[iI 20,sE,iI 0,sE,iI 0,iI 0,.slice (some ⟨(zz u),0,none⟩) [(aah.mk 1 1 ⟨#[]⟩ 0 [])].length 1,nS,nS,nS,nS,iI 12,sE,iI 0,sE,iI 0,iI 0,.slice (some ⟨(zz x),0,none⟩) [(aah.mk 3 0 ⟨#[]⟩ 0 [])].length 1,nS,nS,nS,nS,iI 15,sE,iI 0,sE,iI 0,iI 0,.slice (some ⟨(zz y),0,none⟩) [(aah.mk 2 0 ⟨#[]⟩ 0 [])].length 1,nS,nS,nS,nS] eo azJ rfl rfl (fun f0 co=>(wt (wp_seq (sr (m2 (iI 0) (wt (wp_block (ap5 4 (aoL (wp_seq (sr (m1 (iI 0) (bcm (r:=true) rfl rfl (by decide) (wt (cndT rfl (wp_skip (aac (wp_seq (wp_block (sr (lN 2 ([sl z t c1]) co abB aaW ?_)))))))))))))))))))))))));obtain ⟨⟨A⟩,ep,h⟩:=ob h;refine cv ([.agg #[sl z t c1]]) ave ((ara k) ep (hG.mono (((((J.trans O.sub).trans Y.sub).trans af).trans X).trans D)) (aak.intro (mf bs (((((J.trans O.sub).trans Y.sub).trans af).trans X).trans D))) (pt co)) ?_;rintro _ am ⟨aT,S,U,df,rfl,B,cq,cU⟩;have eq:=ca B co;have es:=eq.lower_ (i:=0) rfl co.size;refine aC #[nS] es adw (fun f1 et=>(sI 0 (.agg #[sl S A U]) #[sl S A U] et aaW rfl rfl (fun eu ew=>?_)));have ex:=ew;refine wt (aax (fun a w=>∃ dg cr ak aA aB cV,a=fr 79 (updL dg [(1,iI c),(2,pp (zz wi) 0),(7,pp (zz C) 0),(8,iI 0),(9,pp (zz am) 0)])∧KH.sub aT cr∧SR K cr wi w [] [.box (zz wi) (zz wi) #[sl z t c1] 24,.box (zz wi) (zz C) #[iI 20,sE,iI 0,sE,iI 0,iI 0,.slice (some ⟨(zz u),0,none⟩) [(aah.mk 1 1 ⟨#[]⟩ 0 [])].length 1,nS,nS,nS,nS,iI 12,sE,iI 0,sE,iI 0,iI 0,.slice (some ⟨(zz x),0,none⟩) [(aah.mk 3 0 ⟨#[]⟩ 0 [])].length 1,nS,nS,nS,nS,iI 15,sE,iI 0,sE,iI 0,iI 0,.slice (some ⟨(zz y),0,none⟩) [(aah.mk 2 0 ⟨#[]⟩ 0 [])].length 1,nS,nS,nS,nS] 38,.box (zz wi) (zz am) #[sl aA ak aB] 24,eW (zz wi) aA ak aB 42 6 cV]∧Reps (aao cr) 6 ak cV∧ak.length * 88 ≤ mB∧asW k t c ak=some r_) ?_ ?_)
    ·have ag:=ex.drew;refine afT (E:=[13,16]) (F:=FW aT [.box (zz wi) (zz am) #[sl S A U] 24,eW (zz wi) S A U 42 6 df,.box (zz wi) (zz C) #[iI 20,sE,iI 0,sE,iI 0,iI 0,.slice (some ⟨(zz u),0,none⟩) [(aah.mk 1 1 ⟨#[]⟩ 0 [])].length 1,nS,nS,nS,nS,iI 12,sE,iI 0,sE,iI 0,iI 0,.slice (some ⟨(zz x),0,none⟩) [(aah.mk 3 0 ⟨#[]⟩ 0 [])].length 1,nS,nS,nS,nS,iI 15,sE,iI 0,sE,iI 0,iI 0,.slice (some ⟨(zz y),0,none⟩) [(aah.mk 2 0 ⟨#[]⟩ 0 [])].length 1,nS,nS,nS,nS] 38,.box (zz wi) (zz bw) #[sl aP aN aQ] 24,.box (zz wi) (zz wi) #[sl z t c1] 24]) (L:=(lb 17 0)) ymx rfl rfl (kF 0 0 rfl aa7 rfl (fq [0,1,2,3,4] ag) (kM 2 (iI c) rfl (fq [0,1,2,3,4] ag) (kM 3 (iI 0) rfl (fq [0,1,2,3,4] ag) (kK 4 (pp (zz C) 0) rfl (fun w=>apz (o':=0) (len:=3) au5 aaM rfl rfl (by decide) (by decide) rfl) (fq [0,1,2,3,4] ag) (tT 5 (.agg #[iI 20,sE,iI 0,sE,iI 0,iI 0,.slice (some ⟨(zz u),0,none⟩) [(aah.mk 1 1 ⟨#[]⟩ 0 [])].length 1,nS,nS,nS,nS]) [[13,6,5],[16,5]] rfl (fq [0,1,2,3,4] ag) (fun w hF=>anf (i:=2) (l:=[iI 20,sE,iI 0,sE,iI 0,iI 0,.slice (some ⟨(zz u),0,none⟩) [(aah.mk 1 1 ⟨#[]⟩ 0 [])].length 1,nS,nS,nS,nS]) hF rfl abX aaM rfl rfl rfl) (kF 7 0 rfl aa7 rfl (fq [0,1,2,3,4] ag) (tL 8 (sl S A U) [[13,12,11,10,8],[16,8]] 0 rfl ace (fq [0,1,2,3,4] ag) (kM 9 (iI c) rfl (fq [0,1,2,3,4] ag) ?_))))))));obtain ⟨⟨f,g,j,q,s,d⟩,ao,h⟩:=ob h;obtain ⟨ap,f2,bj,f4,ey,ez⟩:=ahv (ag.entAt (i:=1) rfl) cq (aat ao).1;obtain ⟨f5,f6,dh,di,rfl,ga,gb,cW⟩:=aao.open ey;refine kK 10 (pp ap (0 + c.toNat * 6)) rfl (fun w=>acs (b:=ap) (o:=0) (i:=c) abK abc rfl bj rfl (aat ao).2.1 (aat ao).2.2) (fq [0,1,2,3,4] ag) (kK 11 (pp ap (0 + c.toNat * 6 + 5)) rfl (fun w=>adK (o':=0 + c.toNat * 6 + 5) abz rfl rfl) (fq [0,1,2,3,4] ag) (tT 12 (sl dh d di) [[13,12],[16,12]] rfl (fq [0,1,2,3,4] ag) (fun w hF=>agX (v:=sl dh d di) aa4 rfl (ez _ (hF.entAt (i:=1) rfl) 5 _ rfl)) (abM (rs:=[1,6]) (by kernel_rfl) (by decide) (allC ?_ (allC ?_ allN)))))
     ·refine opL (i:=1) rfl (l1 0 (sl S A U) ag ace (wb (fq [0,1,2,3,4] ag) (fun _=>aO 6 rfl (bsl (e:=37) (cells:=#[iI 20,sE,iI 0,sE,iI 0,iI 0,.slice (some ⟨(zz u),0,none⟩) [(aah.mk 1 1 ⟨#[]⟩ 0 [])].length 1,nS,nS,nS,nS]) (vs:=[(0,.agg #[iI 20,sE,iI 0,sE,iI 0,iI 0,.slice (some ⟨(zz u),0,none⟩) [(aah.mk 1 1 ⟨#[]⟩ 0 [])].length 1,nS,nS,nS,nS])]) ag rfl (aam aa5 aaM acI rfl (by decide) (by decide) rfl) (fun eA aU=>(wb (fq [1,2,3,4,5] aU) (fun _=>aO 13 rfl ?_)))))));have bx:=aU.boxrowN (i:=0) (size:=11) (m:=1) rfl rfl (by decide);have bz:Reps (aai aT) 11 [(aaf.mk 20 ⟨#[]⟩ 0 ⟨#[]⟩ 0 0 [(aah.mk 1 1 ⟨#[]⟩ 0 [])] [] [] [] [])] [iI 20,sE,iI 0,sE,iI 0,iI 0,.slice (some ⟨(zz u),0,none⟩) [(aah.mk 1 1 ⟨#[]⟩ 0 [])].length 1,nS,nS,nS,nS]:=⟨[iI 20,sE,iI 0,sE,iI 0,iI 0,.slice (some ⟨(zz u),0,none⟩) [(aah.mk 1 1 ⟨#[]⟩ 0 [])].length 1,nS,nS,nS,nS],_,rfl,rfl,(aai.intro (by decide) (by decide) (me cQ ((X.trans D).trans B.sub)) (RSl.nil _ _ _ _ _ _) (RSl.nil _ _ _ _ _ _) (RSl.nil _ _ _ _ _ _) (RSl.nil _ _ _ _ _ _)),(aa6 (R:=(aai aT)) (size:=11))⟩;obtain ⟨aV,h⟩:=aaC h;refine apS (R:=fun K=>(aai K)) (zs:=d) (i:=0) bx rfl aa5 afb rfl (by decide) rfl rfl bz cW (fun _ _ h=>aai.one h) (Nat.le_refl _) aV (by decide) (fun bA bB dj dk bp bC=>(wt ⟨hE 13,kH 14 (pp ap (0 + c.toNat * 6)) rfl (fun w=>acs (b:=ap) (o:=0) (i:=c) abK abc rfl bj rfl (aat ao).2.1 (aat ao).2.2) 13 (kH 15 (pp ap (0 + c.toNat * 6 + 5)) rfl (fun w=>adK (o':=0 + c.toNat * 6 + 5) abz rfl rfl) 13 (aO 16 rfl ?_))⟩));obtain ⟨aG,bD,aW,bE⟩:=ab0 (i:=0) (bytes:=184) (R:=fun K=>(aai K)) bp rfl (Nat.le_refl _) bC (abY aV) (fun hs=>(fun _ _ h=>aai.mono hs h));refine stR (R:=(aao aG)) (i:=1) (off:=5) (p:=(aae.mk f g j q s d)) (p':=(aae.mk f g j q s ([(aaf.mk 20 ⟨#[]⟩ 0 ⟨#[]⟩ 0 0 [(aah.mk 1 1 ⟨#[]⟩ 0 [])] [] [] [] [])] ++ d))) (v:=.slice bA ([(aaf.mk 20 ⟨#[]⟩ 0 ⟨#[]⟩ 0 0 [(aah.mk 1 1 ⟨#[]⟩ 0 [])] [] [] [] [])] ++ d).length bB) bD rfl (cq.mono (fun _ _ h=>aao.mono aW h)) (aat ao).1 abZ bj rfl rfl rfl rfl (by decide) (fun cs_ h_=>by obtain ⟨dl,dm,dn,dp,rfl,bF,bG,dq⟩:=aao.open h_; exact aao.intro bF bG bE) (fun aX bH bI bJ=>?_);have bK:SR K aG wi bH [] [.box (zz wi) (zz am) #[.slice S (A.set c.toNat (aae.mk f g j q s ([(aaf.mk 20 ⟨#[]⟩ 0 ⟨#[]⟩ 0 0 [(aah.mk 1 1 ⟨#[]⟩ 0 [])] [] [] [] [])] ++ d))).length U] 24,.row (zz wi) (.slice S (A.set c.toNat (aae.mk f g j q s ([(aaf.mk 20 ⟨#[]⟩ 0 ⟨#[]⟩ 0 0 [(aah.mk 1 1 ⟨#[]⟩ 0 [])] [] [] [] [])] ++ d))).length U) 42 6 (A.set c.toNat (aae.mk f g j q s ([(aaf.mk 20 ⟨#[]⟩ 0 ⟨#[]⟩ 0 0 [(aah.mk 1 1 ⟨#[]⟩ 0 [])] [] [] [] [])] ++ d))).length aX,.box (zz wi) (zz C) #[iI 20,sE,iI 0,sE,iI 0,iI 0,.slice (some ⟨(zz u),0,none⟩) [(aah.mk 1 1 ⟨#[]⟩ 0 [])].length 1,nS,nS,nS,nS,iI 12,sE,iI 0,sE,iI 0,iI 0,.slice (some ⟨(zz x),0,none⟩) [(aah.mk 3 0 ⟨#[]⟩ 0 [])].length 1,nS,nS,nS,nS,iI 15,sE,iI 0,sE,iI 0,iI 0,.slice (some ⟨(zz y),0,none⟩) [(aah.mk 2 0 ⟨#[]⟩ 0 [])].length 1,nS,nS,nS,nS] 38,.box (zz wi) (zz bw) #[sl aP aN aQ] 24,.box (zz wi) (zz wi) #[sl z t c1] 24]:=by simpa only [List.length_set,List.eraseIdx_zero,List.eraseIdx_cons_succ,List.tail_cons,List.set_cons_succ,List.set_cons_zero,List.nil_append,List.cons_append] using bI
      exact wt ⟨hE 16,aD (aac (⟨_,aG,(A.set c.toNat (aae.mk f g j q s ([(aaf.mk 20 ⟨#[]⟩ 0 ⟨#[]⟩ 0 0 [(aah.mk 1 1 ⟨#[]⟩ 0 [])] [] [] [] [])] ++ d))),S,U,aX,fR,aW,(bK.sel [4,2,0,1]),bJ,(abQ cU),h⟩))⟩
     ·refine opL (i:=6) rfl (bsl (e:=37) (cells:=#[iI 20,sE,iI 0,sE,iI 0,iI 0,.slice (some ⟨(zz u),0,none⟩) [(aah.mk 1 1 ⟨#[]⟩ 0 [])].length 1,nS,nS,nS,nS]) (vs:=[(0,.agg #[iI 20,sE,iI 0,sE,iI 0,iI 0,.slice (some ⟨(zz u),0,none⟩) [(aah.mk 1 1 ⟨#[]⟩ 0 [])].length 1,nS,nS,nS,nS])]) ag rfl (aam aa5 aaM acI rfl (by decide) (by decide) rfl) (fun eA aU=>(wb (fq [1,2,3,4,5] aU) (fun _=>abM (rs:=[1,13]) (by kernel_rfl) (by decide) (allC ?_ (allC ?_ allN))))))
      ·refine opL (i:=1) rfl (l1 1 (sl S A U) aU ace (wb (fq [1,2,3,4,5] aU) (fun _=>aO 13 rfl ?_)));have bx:=aU.boxrowN (i:=0) (size:=11) (m:=1) rfl rfl (by decide);have bz:Reps (aai aT) 11 [(aaf.mk 20 ⟨#[]⟩ 0 ⟨#[]⟩ 0 0 [(aah.mk 1 1 ⟨#[]⟩ 0 [])] [] [] [] [])] [iI 20,sE,iI 0,sE,iI 0,iI 0,.slice (some ⟨(zz u),0,none⟩) [(aah.mk 1 1 ⟨#[]⟩ 0 [])].length 1,nS,nS,nS,nS]:=⟨[iI 20,sE,iI 0,sE,iI 0,iI 0,.slice (some ⟨(zz u),0,none⟩) [(aah.mk 1 1 ⟨#[]⟩ 0 [])].length 1,nS,nS,nS,nS],_,rfl,rfl,(aai.intro (by decide) (by decide) (me cQ ((X.trans D).trans B.sub)) (RSl.nil _ _ _ _ _ _) (RSl.nil _ _ _ _ _ _) (RSl.nil _ _ _ _ _ _) (RSl.nil _ _ _ _ _ _)),(aa6 (R:=(aai aT)) (size:=11))⟩;obtain ⟨aV,h⟩:=aaC h;refine apS (R:=fun K=>(aai K)) (zs:=d) (i:=0) bx rfl aa5 afb rfl (by decide) rfl rfl bz cW (fun _ _ h=>aai.one h) (Nat.le_refl _) aV (by decide) (fun bA bB dj dk bp bC=>(wt ⟨hE 13,kH 14 (pp ap (0 + c.toNat * 6)) rfl (fun w=>acs (b:=ap) (o:=0) (i:=c) abK abc rfl bj rfl (aat ao).2.1 (aat ao).2.2) 13 (kH 15 (pp ap (0 + c.toNat * 6 + 5)) rfl (fun w=>adK (o':=0 + c.toNat * 6 + 5) abz rfl rfl) 13 (aO 16 rfl ?_))⟩));obtain ⟨aG,bD,aW,bE⟩:=ab0 (i:=0) (bytes:=184) (R:=fun K=>(aai K)) bp rfl (Nat.le_refl _) bC (abY aV) (fun hs=>(fun _ _ h=>aai.mono hs h));refine stR (R:=(aao aG)) (i:=1) (off:=5) (p:=(aae.mk f g j q s d)) (p':=(aae.mk f g j q s ([(aaf.mk 20 ⟨#[]⟩ 0 ⟨#[]⟩ 0 0 [(aah.mk 1 1 ⟨#[]⟩ 0 [])] [] [] [] [])] ++ d))) (v:=.slice bA ([(aaf.mk 20 ⟨#[]⟩ 0 ⟨#[]⟩ 0 0 [(aah.mk 1 1 ⟨#[]⟩ 0 [])] [] [] [] [])] ++ d).length bB) bD rfl (cq.mono (fun _ _ h=>aao.mono aW h)) (aat ao).1 abZ bj rfl rfl rfl rfl (by decide) (fun cs_ h_=>by obtain ⟨dl,dm,dn,dp,rfl,bF,bG,dq⟩:=aao.open h_; exact aao.intro bF bG bE) (fun aX bH bI bJ=>?_);have bK:SR K aG wi bH [] [.box (zz wi) (zz am) #[.slice S (A.set c.toNat (aae.mk f g j q s ([(aaf.mk 20 ⟨#[]⟩ 0 ⟨#[]⟩ 0 0 [(aah.mk 1 1 ⟨#[]⟩ 0 [])] [] [] [] [])] ++ d))).length U] 24,.row (zz wi) (.slice S (A.set c.toNat (aae.mk f g j q s ([(aaf.mk 20 ⟨#[]⟩ 0 ⟨#[]⟩ 0 0 [(aah.mk 1 1 ⟨#[]⟩ 0 [])] [] [] [] [])] ++ d))).length U) 42 6 (A.set c.toNat (aae.mk f g j q s ([(aaf.mk 20 ⟨#[]⟩ 0 ⟨#[]⟩ 0 0 [(aah.mk 1 1 ⟨#[]⟩ 0 [])] [] [] [] [])] ++ d))).length aX,.box (zz wi) (zz C) #[iI 20,sE,iI 0,sE,iI 0,iI 0,.slice (some ⟨(zz u),0,none⟩) [(aah.mk 1 1 ⟨#[]⟩ 0 [])].length 1,nS,nS,nS,nS,iI 12,sE,iI 0,sE,iI 0,iI 0,.slice (some ⟨(zz x),0,none⟩) [(aah.mk 3 0 ⟨#[]⟩ 0 [])].length 1,nS,nS,nS,nS,iI 15,sE,iI 0,sE,iI 0,iI 0,.slice (some ⟨(zz y),0,none⟩) [(aah.mk 2 0 ⟨#[]⟩ 0 [])].length 1,nS,nS,nS,nS] 38,.box (zz wi) (zz bw) #[sl aP aN aQ] 24,.box (zz wi) (zz wi) #[sl z t c1] 24]:=by simpa only [List.length_set,List.eraseIdx_zero,List.eraseIdx_cons_succ,List.tail_cons,List.set_cons_succ,List.set_cons_zero,List.nil_append,List.cons_append] using bI
       exact wt ⟨hE 16,aD (aac (⟨_,aG,(A.set c.toNat (aae.mk f g j q s ([(aaf.mk 20 ⟨#[]⟩ 0 ⟨#[]⟩ 0 0 [(aah.mk 1 1 ⟨#[]⟩ 0 [])] [] [] [] [])] ++ d))),S,U,aX,fR,aW,(bK.sel [4,2,0,1]),bJ,(abQ cU),h⟩))⟩
      ·refine opL (i:=13) rfl ?_;have bx:=aU.boxrowN (i:=0) (size:=11) (m:=1) rfl rfl (by decide);have bz:Reps (aai aT) 11 [(aaf.mk 20 ⟨#[]⟩ 0 ⟨#[]⟩ 0 0 [(aah.mk 1 1 ⟨#[]⟩ 0 [])] [] [] [] [])] [iI 20,sE,iI 0,sE,iI 0,iI 0,.slice (some ⟨(zz u),0,none⟩) [(aah.mk 1 1 ⟨#[]⟩ 0 [])].length 1,nS,nS,nS,nS]:=⟨[iI 20,sE,iI 0,sE,iI 0,iI 0,.slice (some ⟨(zz u),0,none⟩) [(aah.mk 1 1 ⟨#[]⟩ 0 [])].length 1,nS,nS,nS,nS],_,rfl,rfl,(aai.intro (by decide) (by decide) (me cQ ((X.trans D).trans B.sub)) (RSl.nil _ _ _ _ _ _) (RSl.nil _ _ _ _ _ _) (RSl.nil _ _ _ _ _ _) (RSl.nil _ _ _ _ _ _)),(aa6 (R:=(aai aT)) (size:=11))⟩;obtain ⟨aV,h⟩:=aaC h;refine apS (R:=fun K=>(aai K)) (zs:=d) (i:=0) bx rfl aa5 afb rfl (by decide) rfl rfl bz cW (fun _ _ h=>aai.one h) (Nat.le_refl _) aV (by decide) (fun bA bB dj dk bp bC=>(wt ⟨hE 13,aO 1 rfl (l1 1 (sl S A U) bp ace (wt ⟨hE 13,kH 14 (pp ap (0 + c.toNat * 6)) rfl (fun w=>acs (b:=ap) (o:=0) (i:=c) abK abc rfl bj rfl (aat ao).2.1 (aat ao).2.2) 13 (kH 15 (pp ap (0 + c.toNat * 6 + 5)) rfl (fun w=>adK (o':=0 + c.toNat * 6 + 5) abz rfl rfl) 13 (aO 16 rfl ?_))⟩))⟩));obtain ⟨aG,bD,aW,bE⟩:=ab0 (i:=0) (bytes:=184) (R:=fun K=>(aai K)) bp rfl (Nat.le_refl _) bC (abY aV) (fun hs=>(fun _ _ h=>aai.mono hs h));refine stR (R:=(aao aG)) (i:=1) (off:=5) (p:=(aae.mk f g j q s d)) (p':=(aae.mk f g j q s ([(aaf.mk 20 ⟨#[]⟩ 0 ⟨#[]⟩ 0 0 [(aah.mk 1 1 ⟨#[]⟩ 0 [])] [] [] [] [])] ++ d))) (v:=.slice bA ([(aaf.mk 20 ⟨#[]⟩ 0 ⟨#[]⟩ 0 0 [(aah.mk 1 1 ⟨#[]⟩ 0 [])] [] [] [] [])] ++ d).length bB) bD rfl (cq.mono (fun _ _ h=>aao.mono aW h)) (aat ao).1 abZ bj rfl rfl rfl rfl (by decide) (fun cs_ h_=>by obtain ⟨dl,dm,dn,dp,rfl,bF,bG,dq⟩:=aao.open h_; exact aao.intro bF bG bE) (fun aX bH bI bJ=>?_);have bK:SR K aG wi bH [] [.box (zz wi) (zz am) #[.slice S (A.set c.toNat (aae.mk f g j q s ([(aaf.mk 20 ⟨#[]⟩ 0 ⟨#[]⟩ 0 0 [(aah.mk 1 1 ⟨#[]⟩ 0 [])] [] [] [] [])] ++ d))).length U] 24,.row (zz wi) (.slice S (A.set c.toNat (aae.mk f g j q s ([(aaf.mk 20 ⟨#[]⟩ 0 ⟨#[]⟩ 0 0 [(aah.mk 1 1 ⟨#[]⟩ 0 [])] [] [] [] [])] ++ d))).length U) 42 6 (A.set c.toNat (aae.mk f g j q s ([(aaf.mk 20 ⟨#[]⟩ 0 ⟨#[]⟩ 0 0 [(aah.mk 1 1 ⟨#[]⟩ 0 [])] [] [] [] [])] ++ d))).length aX,.box (zz wi) (zz C) #[iI 20,sE,iI 0,sE,iI 0,iI 0,.slice (some ⟨(zz u),0,none⟩) [(aah.mk 1 1 ⟨#[]⟩ 0 [])].length 1,nS,nS,nS,nS,iI 12,sE,iI 0,sE,iI 0,iI 0,.slice (some ⟨(zz x),0,none⟩) [(aah.mk 3 0 ⟨#[]⟩ 0 [])].length 1,nS,nS,nS,nS,iI 15,sE,iI 0,sE,iI 0,iI 0,.slice (some ⟨(zz y),0,none⟩) [(aah.mk 2 0 ⟨#[]⟩ 0 [])].length 1,nS,nS,nS,nS] 38,.box (zz wi) (zz bw) #[sl aP aN aQ] 24,.box (zz wi) (zz wi) #[sl z t c1] 24]:=by simpa only [List.length_set,List.eraseIdx_zero,List.eraseIdx_cons_succ,List.tail_cons,List.set_cons_succ,List.set_cons_zero,List.nil_append,List.cons_append] using bI
       exact wt ⟨hE 16,aD (aac (⟨_,aG,(A.set c.toNat (aae.mk f g j q s ([(aaf.mk 20 ⟨#[]⟩ 0 ⟨#[]⟩ 0 0 [(aah.mk 1 1 ⟨#[]⟩ 0 [])] [] [] [] [])] ++ d))),S,U,aX,fR,aW,(bK.sel [4,2,0,1]),bJ,(abQ cU),h⟩))⟩
    ·rintro _ gc ⟨dg,cr,ak,aA,aB,cV,rfl,V,dr,eB,eC,h⟩;unfold asW at h;refine wp_seq (sr (lN 2 ([sl aA ak aB]) dr abB aaW ?_));obtain ⟨gd,ds,W,dt⟩:=ab0 (i:=3) (bytes:=88) (R:=fun K=>(aao K)) dr rfl (Nat.le_refl _) eB eC (fun hs=>(fun _ _ h=>aao.mono hs h));obtain ⟨eD,eF,h⟩:=ob h;refine cv ([.agg #[sl aA ak aB]]) avP ((aqX k) eF (hG.mono ((((((((J.trans O.sub).trans Y.sub).trans af).trans X).trans D).trans B.sub).trans V).trans W)) (aak.intro dt) (pt ds)) ?_;rintro _ ge ⟨gf,rfl,N⟩;have bL:=ca N ds;refine uN eD (wt (cd h (fun cX h=>?_) (fun cX h=>?_)))
     ·refine cT cX (sr ?_);obtain ⟨eG,eH,h⟩:=ob h;refine cv ([]) Tyb8 ((ao2 k) eH (hG.mono (((((((((J.trans O.sub).trans Y.sub).trans af).trans X).trans D).trans B.sub).trans V).trans W).trans N.sub)) (pt bL)) ?_;rintro _ gg ⟨eI,rfl,eJ⟩;have eL:=ca eJ bL;refine m2 (.bool eG) (wt (wp_ret (aav (blkR (aav (aav (blkR (aav ?_))))))));cases (oi h).trans hr_;exact aaw rfl (resT rfl) ⟨eI,rfl,(eL.sel [])⟩
     ·refine cF cX (wp_skip (aac (sr (lN 2 ([sl aA ak aB]) bL abB aaW ?_))));obtain ⟨⟨⟨aY⟩,bM⟩,eM,h⟩:=ob h;refine cv ([.agg #[sl aA ak aB]]) ao1 ((ajL k) eM (hG.mono (((((((((J.trans O.sub).trans Y.sub).trans af).trans X).trans D).trans B.sub).trans V).trans W).trans N.sub)) (aak.intro (mf dt N.sub)) (pt bL)) ?_;rintro _ ct ⟨eN,gh,rfl,Z,eO⟩;have eP:=ca Z bL;obtain ⟨aZ,a2,rfl,gi⟩:=aak.open eO;refine m1 (.tuple #[.agg #[sl aZ aY a2],iI bM]) (ext (v:=.agg #[sl aZ aY a2]) rfl rfl (ext (v:=iI bM) rfl rfl (aC #[nS] eP adw (fun gj eQ=>(sI 0 (.agg #[sl aZ aY a2]) #[sl aZ aY a2] eQ aaW rfl rfl (fun gk bN=>(m2 (iI bM) (wt (sr (m1 (iI bM) (c0 (bM != 23) (wt (cd h (fun cY h=>?_) (fun cY h=>?_))))))))))))))
      ·refine cT cY (sr (m2 vN (wt (wp_ret (blkR (aav (aav (blkR (aav ?_)))))))));cases (oi h).trans hr_;exact aaw rfl (resT rfl) ⟨eN,rfl,(bN.sel [])⟩
      ·refine cF cY (wp_skip (blkN (aac (wp_region_lit (m1 (iI 0) (bar (r:=1) rfl rfl (by decide) (m2 (iI 1) (wt (aoL (wp_seq (sr (m1 (iI 1) (bcm (r:=true) rfl rfl (by decide) (wt (cndT rfl (wp_skip (aac (wp_seq (wp_block (sr (lN 1 ([sl z t c1]) bN abB aaW ?_)))))))))))))))))))));obtain ⟨⟨G⟩,eR,h⟩:=ob h;refine cv ([.agg #[sl z t c1]]) ave ((ara k) eR (hG.mono ((((((((((J.trans O.sub).trans Y.sub).trans af).trans X).trans D).trans B.sub).trans V).trans W).trans N.sub).trans Z.sub)) (aak.intro (mf bs ((((((((((J.trans O.sub).trans Y.sub).trans af).trans X).trans D).trans B.sub).trans V).trans W).trans N.sub).trans Z.sub))) (pt bN)) ?_;rintro _ aq ⟨a3,ab,ac,eS,rfl,ah,cu,cZ⟩;have eT:=ca ah bN;have eU:=eT.lower_ (i:=0) rfl bN.size;refine aC #[nS] eU adw (fun gl eV=>(sI 0 (.agg #[sl ab G ac]) #[sl ab G ac] eV aaW rfl rfl (fun gm eX=>(wt (aax (fun a w=>∃ du cw al aH aI c2,a=fr 79 (updL du [(1,iI c),(2,pp (zz wi) 0),(7,pp (zz C) 0),(8,iI 1),(9,pp (zz aq) 0)])∧KH.sub a3 cw∧SR K cw wi w [] [.box (zz wi) (zz wi) #[sl z t c1] 24,.box (zz wi) (zz C) #[iI 20,sE,iI 0,sE,iI 0,iI 0,.slice (some ⟨(zz u),0,none⟩) [(aah.mk 1 1 ⟨#[]⟩ 0 [])].length 1,nS,nS,nS,nS,iI 12,sE,iI 0,sE,iI 0,iI 0,.slice (some ⟨(zz x),0,none⟩) [(aah.mk 3 0 ⟨#[]⟩ 0 [])].length 1,nS,nS,nS,nS,iI 15,sE,iI 0,sE,iI 0,iI 0,.slice (some ⟨(zz y),0,none⟩) [(aah.mk 2 0 ⟨#[]⟩ 0 [])].length 1,nS,nS,nS,nS] 38,.box (zz wi) (zz aq) #[sl aH al aI] 24,eW (zz wi) aH al aI 42 6 c2]∧Reps (aao cw) 6 al c2∧al.length * 88 ≤ mB∧asR k t c al=some r_) ?_ ?_)))))
       ·have ai:=eX.drew;refine afT (E:=[13,16]) (F:=FW a3 [.box (zz wi) (zz aq) #[sl ab G ac] 24,eW (zz wi) ab G ac 42 6 eS,.box (zz wi) (zz ct) #[sl aZ aY a2] 24,.box (zz wi) (zz wi) #[sl z t c1] 24,.box (zz wi) (zz C) #[iI 20,sE,iI 0,sE,iI 0,iI 0,.slice (some ⟨(zz u),0,none⟩) [(aah.mk 1 1 ⟨#[]⟩ 0 [])].length 1,nS,nS,nS,nS,iI 12,sE,iI 0,sE,iI 0,iI 0,.slice (some ⟨(zz x),0,none⟩) [(aah.mk 3 0 ⟨#[]⟩ 0 [])].length 1,nS,nS,nS,nS,iI 15,sE,iI 0,sE,iI 0,iI 0,.slice (some ⟨(zz y),0,none⟩) [(aah.mk 2 0 ⟨#[]⟩ 0 [])].length 1,nS,nS,nS,nS] 38,.box (zz wi) (zz am) #[sl aA ak aB] 24]) (L:=(lb 17 0)) ymx rfl rfl (kF 0 0 rfl aa7 rfl (fq [0,1,2,3,4,5] ai) (kM 2 (iI c) rfl (fq [0,1,2,3,4,5] ai) (kM 3 (iI 1) rfl (fq [0,1,2,3,4,5] ai) (kK 4 (pp (zz C) 11) rfl (fun w=>apz (o':=11) (len:=3) au5 aaM rfl rfl (by decide) (by decide) rfl) (fq [0,1,2,3,4,5] ai) (tT 5 (.agg #[iI 12,sE,iI 0,sE,iI 0,iI 0,.slice (some ⟨(zz x),0,none⟩) [(aah.mk 3 0 ⟨#[]⟩ 0 [])].length 1,nS,nS,nS,nS]) [[13,6,5],[16,5]] rfl (fq [0,1,2,3,4,5] ai) (fun w hF=>anf (i:=4) (l:=[iI 12,sE,iI 0,sE,iI 0,iI 0,.slice (some ⟨(zz x),0,none⟩) [(aah.mk 3 0 ⟨#[]⟩ 0 [])].length 1,nS,nS,nS,nS]) hF rfl abX aaM rfl rfl rfl) (kF 7 0 rfl aa7 rfl (fq [0,1,2,3,4,5] ai) (tL 8 (sl ab G ac) [[13,12,11,10,8],[16,8]] 0 rfl ace (fq [0,1,2,3,4,5] ai) (kM 9 (iI c) rfl (fq [0,1,2,3,4,5] ai) ?_))))))));obtain ⟨⟨f,g,j,q,s,d⟩,ar,h⟩:=ob h;obtain ⟨au,gn,bk,go,eY,eZ⟩:=ahv (ai.entAt (i:=1) rfl) cu (aat ar).1;obtain ⟨gp,gq,dv,dw,rfl,gr,gs,c3⟩:=aao.open eY;refine kK 10 (pp au (0 + c.toNat * 6)) rfl (fun w=>acs (b:=au) (o:=0) (i:=c) abK abc rfl bk rfl (aat ar).2.1 (aat ar).2.2) (fq [0,1,2,3,4,5] ai) (kK 11 (pp au (0 + c.toNat * 6 + 5)) rfl (fun w=>adK (o':=0 + c.toNat * 6 + 5) abz rfl rfl) (fq [0,1,2,3,4,5] ai) (tT 12 (sl dv d dw) [[13,12],[16,12]] rfl (fq [0,1,2,3,4,5] ai) (fun w hF=>agX (v:=sl dv d dw) aa4 rfl (eZ _ (hF.entAt (i:=1) rfl) 5 _ rfl)) (abM (rs:=[1,6]) (by kernel_rfl) (by decide) (allC ?_ (allC ?_ allN)))))
        ·refine opL (i:=1) rfl (l1 0 (sl ab G ac) ai ace (wb (fq [0,1,2,3,4,5] ai) (fun _=>aO 6 rfl (bsl (e:=37) (cells:=#[iI 12,sE,iI 0,sE,iI 0,iI 0,.slice (some ⟨(zz x),0,none⟩) [(aah.mk 3 0 ⟨#[]⟩ 0 [])].length 1,nS,nS,nS,nS]) (vs:=[(0,.agg #[iI 12,sE,iI 0,sE,iI 0,iI 0,.slice (some ⟨(zz x),0,none⟩) [(aah.mk 3 0 ⟨#[]⟩ 0 [])].length 1,nS,nS,nS,nS])]) ai rfl (aam aa5 aaM acI rfl (by decide) (by decide) rfl) (fun e0 a4=>(wb (fq [1,2,3,4,5,6] a4) (fun _=>aO 13 rfl ?_)))))));have bO:=a4.boxrowN (i:=0) (size:=11) (m:=1) rfl rfl (by decide);have bP:Reps (aai a3) 11 [(aaf.mk 12 ⟨#[]⟩ 0 ⟨#[]⟩ 0 0 [(aah.mk 3 0 ⟨#[]⟩ 0 [])] [] [] [] [])] [iI 12,sE,iI 0,sE,iI 0,iI 0,.slice (some ⟨(zz x),0,none⟩) [(aah.mk 3 0 ⟨#[]⟩ 0 [])].length 1,nS,nS,nS,nS]:=⟨[iI 12,sE,iI 0,sE,iI 0,iI 0,.slice (some ⟨(zz x),0,none⟩) [(aah.mk 3 0 ⟨#[]⟩ 0 [])].length 1,nS,nS,nS,nS],_,rfl,rfl,(aai.intro (by decide) (by decide) (me cR ((((((D.trans B.sub).trans V).trans W).trans N.sub).trans Z.sub).trans ah.sub)) (RSl.nil _ _ _ _ _ _) (RSl.nil _ _ _ _ _ _) (RSl.nil _ _ _ _ _ _) (RSl.nil _ _ _ _ _ _)),(aa6 (R:=(aai a3)) (size:=11))⟩;obtain ⟨a5,h⟩:=aaC h;refine apS (R:=fun K=>(aai K)) (zs:=d) (i:=0) bO rfl aa5 afb rfl (by decide) rfl rfl bP c3 (fun _ _ h=>aai.one h) (Nat.le_refl _) a5 (by decide) (fun bQ bR dx dy bq bS=>(wt ⟨hE 13,kH 14 (pp au (0 + c.toNat * 6)) rfl (fun w=>acs (b:=au) (o:=0) (i:=c) abK abc rfl bk rfl (aat ar).2.1 (aat ar).2.2) 13 (kH 15 (pp au (0 + c.toNat * 6 + 5)) rfl (fun w=>adK (o':=0 + c.toNat * 6 + 5) abz rfl rfl) 13 (aO 16 rfl ?_))⟩));obtain ⟨aJ,bT,a6,bU⟩:=ab0 (i:=0) (bytes:=184) (R:=fun K=>(aai K)) bq rfl (Nat.le_refl _) bS (abY a5) (fun hs=>(fun _ _ h=>aai.mono hs h));refine stR (R:=(aao aJ)) (i:=1) (off:=5) (p:=(aae.mk f g j q s d)) (p':=(aae.mk f g j q s ([(aaf.mk 12 ⟨#[]⟩ 0 ⟨#[]⟩ 0 0 [(aah.mk 3 0 ⟨#[]⟩ 0 [])] [] [] [] [])] ++ d))) (v:=.slice bQ ([(aaf.mk 12 ⟨#[]⟩ 0 ⟨#[]⟩ 0 0 [(aah.mk 3 0 ⟨#[]⟩ 0 [])] [] [] [] [])] ++ d).length bR) bT rfl (cu.mono (fun _ _ h=>aao.mono a6 h)) (aat ar).1 abZ bk rfl rfl rfl rfl (by decide) (fun cs_ h_=>by obtain ⟨dz,dA,dB,dC,rfl,bV,bW,dD⟩:=aao.open h_; exact aao.intro bV bW bU) (fun a7 bX bY bZ=>?_);have b0:SR K aJ wi bX [] [.box (zz wi) (zz aq) #[.slice ab (G.set c.toNat (aae.mk f g j q s ([(aaf.mk 12 ⟨#[]⟩ 0 ⟨#[]⟩ 0 0 [(aah.mk 3 0 ⟨#[]⟩ 0 [])] [] [] [] [])] ++ d))).length ac] 24,.row (zz wi) (.slice ab (G.set c.toNat (aae.mk f g j q s ([(aaf.mk 12 ⟨#[]⟩ 0 ⟨#[]⟩ 0 0 [(aah.mk 3 0 ⟨#[]⟩ 0 [])] [] [] [] [])] ++ d))).length ac) 42 6 (G.set c.toNat (aae.mk f g j q s ([(aaf.mk 12 ⟨#[]⟩ 0 ⟨#[]⟩ 0 0 [(aah.mk 3 0 ⟨#[]⟩ 0 [])] [] [] [] [])] ++ d))).length a7,.box (zz wi) (zz ct) #[sl aZ aY a2] 24,.box (zz wi) (zz wi) #[sl z t c1] 24,.box (zz wi) (zz C) #[iI 20,sE,iI 0,sE,iI 0,iI 0,.slice (some ⟨(zz u),0,none⟩) [(aah.mk 1 1 ⟨#[]⟩ 0 [])].length 1,nS,nS,nS,nS,iI 12,sE,iI 0,sE,iI 0,iI 0,.slice (some ⟨(zz x),0,none⟩) [(aah.mk 3 0 ⟨#[]⟩ 0 [])].length 1,nS,nS,nS,nS,iI 15,sE,iI 0,sE,iI 0,iI 0,.slice (some ⟨(zz y),0,none⟩) [(aah.mk 2 0 ⟨#[]⟩ 0 [])].length 1,nS,nS,nS,nS] 38,.box (zz wi) (zz am) #[sl aA ak aB] 24]:=by simpa only [List.length_set,List.eraseIdx_zero,List.eraseIdx_cons_succ,List.tail_cons,List.set_cons_succ,List.set_cons_zero,List.nil_append,List.cons_append] using bY
         exact wt ⟨hE 16,aD (aac (⟨_,aJ,(G.set c.toNat (aae.mk f g j q s ([(aaf.mk 12 ⟨#[]⟩ 0 ⟨#[]⟩ 0 0 [(aah.mk 3 0 ⟨#[]⟩ 0 [])] [] [] [] [])] ++ d))),ab,ac,a7,fR,a6,(b0.sel [3,4,0,1]),bZ,(abQ cZ),h⟩))⟩
        ·refine opL (i:=6) rfl (bsl (e:=37) (cells:=#[iI 12,sE,iI 0,sE,iI 0,iI 0,.slice (some ⟨(zz x),0,none⟩) [(aah.mk 3 0 ⟨#[]⟩ 0 [])].length 1,nS,nS,nS,nS]) (vs:=[(0,.agg #[iI 12,sE,iI 0,sE,iI 0,iI 0,.slice (some ⟨(zz x),0,none⟩) [(aah.mk 3 0 ⟨#[]⟩ 0 [])].length 1,nS,nS,nS,nS])]) ai rfl (aam aa5 aaM acI rfl (by decide) (by decide) rfl) (fun e0 a4=>(wb (fq [1,2,3,4,5,6] a4) (fun _=>abM (rs:=[1,13]) (by kernel_rfl) (by decide) (allC ?_ (allC ?_ allN))))))
         ·refine opL (i:=1) rfl (l1 1 (sl ab G ac) a4 ace (wb (fq [1,2,3,4,5,6] a4) (fun _=>aO 13 rfl ?_)));have bO:=a4.boxrowN (i:=0) (size:=11) (m:=1) rfl rfl (by decide);have bP:Reps (aai a3) 11 [(aaf.mk 12 ⟨#[]⟩ 0 ⟨#[]⟩ 0 0 [(aah.mk 3 0 ⟨#[]⟩ 0 [])] [] [] [] [])] [iI 12,sE,iI 0,sE,iI 0,iI 0,.slice (some ⟨(zz x),0,none⟩) [(aah.mk 3 0 ⟨#[]⟩ 0 [])].length 1,nS,nS,nS,nS]:=⟨[iI 12,sE,iI 0,sE,iI 0,iI 0,.slice (some ⟨(zz x),0,none⟩) [(aah.mk 3 0 ⟨#[]⟩ 0 [])].length 1,nS,nS,nS,nS],_,rfl,rfl,(aai.intro (by decide) (by decide) (me cR ((((((D.trans B.sub).trans V).trans W).trans N.sub).trans Z.sub).trans ah.sub)) (RSl.nil _ _ _ _ _ _) (RSl.nil _ _ _ _ _ _) (RSl.nil _ _ _ _ _ _) (RSl.nil _ _ _ _ _ _)),(aa6 (R:=(aai a3)) (size:=11))⟩;obtain ⟨a5,h⟩:=aaC h;refine apS (R:=fun K=>(aai K)) (zs:=d) (i:=0) bO rfl aa5 afb rfl (by decide) rfl rfl bP c3 (fun _ _ h=>aai.one h) (Nat.le_refl _) a5 (by decide) (fun bQ bR dx dy bq bS=>(wt ⟨hE 13,kH 14 (pp au (0 + c.toNat * 6)) rfl (fun w=>acs (b:=au) (o:=0) (i:=c) abK abc rfl bk rfl (aat ar).2.1 (aat ar).2.2) 13 (kH 15 (pp au (0 + c.toNat * 6 + 5)) rfl (fun w=>adK (o':=0 + c.toNat * 6 + 5) abz rfl rfl) 13 (aO 16 rfl ?_))⟩));obtain ⟨aJ,bT,a6,bU⟩:=ab0 (i:=0) (bytes:=184) (R:=fun K=>(aai K)) bq rfl (Nat.le_refl _) bS (abY a5) (fun hs=>(fun _ _ h=>aai.mono hs h));refine stR (R:=(aao aJ)) (i:=1) (off:=5) (p:=(aae.mk f g j q s d)) (p':=(aae.mk f g j q s ([(aaf.mk 12 ⟨#[]⟩ 0 ⟨#[]⟩ 0 0 [(aah.mk 3 0 ⟨#[]⟩ 0 [])] [] [] [] [])] ++ d))) (v:=.slice bQ ([(aaf.mk 12 ⟨#[]⟩ 0 ⟨#[]⟩ 0 0 [(aah.mk 3 0 ⟨#[]⟩ 0 [])] [] [] [] [])] ++ d).length bR) bT rfl (cu.mono (fun _ _ h=>aao.mono a6 h)) (aat ar).1 abZ bk rfl rfl rfl rfl (by decide) (fun cs_ h_=>by obtain ⟨dz,dA,dB,dC,rfl,bV,bW,dD⟩:=aao.open h_; exact aao.intro bV bW bU) (fun a7 bX bY bZ=>?_);have b0:SR K aJ wi bX [] [.box (zz wi) (zz aq) #[.slice ab (G.set c.toNat (aae.mk f g j q s ([(aaf.mk 12 ⟨#[]⟩ 0 ⟨#[]⟩ 0 0 [(aah.mk 3 0 ⟨#[]⟩ 0 [])] [] [] [] [])] ++ d))).length ac] 24,.row (zz wi) (.slice ab (G.set c.toNat (aae.mk f g j q s ([(aaf.mk 12 ⟨#[]⟩ 0 ⟨#[]⟩ 0 0 [(aah.mk 3 0 ⟨#[]⟩ 0 [])] [] [] [] [])] ++ d))).length ac) 42 6 (G.set c.toNat (aae.mk f g j q s ([(aaf.mk 12 ⟨#[]⟩ 0 ⟨#[]⟩ 0 0 [(aah.mk 3 0 ⟨#[]⟩ 0 [])] [] [] [] [])] ++ d))).length a7,.box (zz wi) (zz ct) #[sl aZ aY a2] 24,.box (zz wi) (zz wi) #[sl z t c1] 24,.box (zz wi) (zz C) #[iI 20,sE,iI 0,sE,iI 0,iI 0,.slice (some ⟨(zz u),0,none⟩) [(aah.mk 1 1 ⟨#[]⟩ 0 [])].length 1,nS,nS,nS,nS,iI 12,sE,iI 0,sE,iI 0,iI 0,.slice (some ⟨(zz x),0,none⟩) [(aah.mk 3 0 ⟨#[]⟩ 0 [])].length 1,nS,nS,nS,nS,iI 15,sE,iI 0,sE,iI 0,iI 0,.slice (some ⟨(zz y),0,none⟩) [(aah.mk 2 0 ⟨#[]⟩ 0 [])].length 1,nS,nS,nS,nS] 38,.box (zz wi) (zz am) #[sl aA ak aB] 24]:=by simpa only [List.length_set,List.eraseIdx_zero,List.eraseIdx_cons_succ,List.tail_cons,List.set_cons_succ,List.set_cons_zero,List.nil_append,List.cons_append] using bY
          exact wt ⟨hE 16,aD (aac (⟨_,aJ,(G.set c.toNat (aae.mk f g j q s ([(aaf.mk 12 ⟨#[]⟩ 0 ⟨#[]⟩ 0 0 [(aah.mk 3 0 ⟨#[]⟩ 0 [])] [] [] [] [])] ++ d))),ab,ac,a7,fR,a6,(b0.sel [3,4,0,1]),bZ,(abQ cZ),h⟩))⟩
         ·refine opL (i:=13) rfl ?_;have bO:=a4.boxrowN (i:=0) (size:=11) (m:=1) rfl rfl (by decide);have bP:Reps (aai a3) 11 [(aaf.mk 12 ⟨#[]⟩ 0 ⟨#[]⟩ 0 0 [(aah.mk 3 0 ⟨#[]⟩ 0 [])] [] [] [] [])] [iI 12,sE,iI 0,sE,iI 0,iI 0,.slice (some ⟨(zz x),0,none⟩) [(aah.mk 3 0 ⟨#[]⟩ 0 [])].length 1,nS,nS,nS,nS]:=⟨[iI 12,sE,iI 0,sE,iI 0,iI 0,.slice (some ⟨(zz x),0,none⟩) [(aah.mk 3 0 ⟨#[]⟩ 0 [])].length 1,nS,nS,nS,nS],_,rfl,rfl,(aai.intro (by decide) (by decide) (me cR ((((((D.trans B.sub).trans V).trans W).trans N.sub).trans Z.sub).trans ah.sub)) (RSl.nil _ _ _ _ _ _) (RSl.nil _ _ _ _ _ _) (RSl.nil _ _ _ _ _ _) (RSl.nil _ _ _ _ _ _)),(aa6 (R:=(aai a3)) (size:=11))⟩;obtain ⟨a5,h⟩:=aaC h;refine apS (R:=fun K=>(aai K)) (zs:=d) (i:=0) bO rfl aa5 afb rfl (by decide) rfl rfl bP c3 (fun _ _ h=>aai.one h) (Nat.le_refl _) a5 (by decide) (fun bQ bR dx dy bq bS=>(wt ⟨hE 13,aO 1 rfl (l1 1 (sl ab G ac) bq ace (wt ⟨hE 13,kH 14 (pp au (0 + c.toNat * 6)) rfl (fun w=>acs (b:=au) (o:=0) (i:=c) abK abc rfl bk rfl (aat ar).2.1 (aat ar).2.2) 13 (kH 15 (pp au (0 + c.toNat * 6 + 5)) rfl (fun w=>adK (o':=0 + c.toNat * 6 + 5) abz rfl rfl) 13 (aO 16 rfl ?_))⟩))⟩));obtain ⟨aJ,bT,a6,bU⟩:=ab0 (i:=0) (bytes:=184) (R:=fun K=>(aai K)) bq rfl (Nat.le_refl _) bS (abY a5) (fun hs=>(fun _ _ h=>aai.mono hs h));refine stR (R:=(aao aJ)) (i:=1) (off:=5) (p:=(aae.mk f g j q s d)) (p':=(aae.mk f g j q s ([(aaf.mk 12 ⟨#[]⟩ 0 ⟨#[]⟩ 0 0 [(aah.mk 3 0 ⟨#[]⟩ 0 [])] [] [] [] [])] ++ d))) (v:=.slice bQ ([(aaf.mk 12 ⟨#[]⟩ 0 ⟨#[]⟩ 0 0 [(aah.mk 3 0 ⟨#[]⟩ 0 [])] [] [] [] [])] ++ d).length bR) bT rfl (cu.mono (fun _ _ h=>aao.mono a6 h)) (aat ar).1 abZ bk rfl rfl rfl rfl (by decide) (fun cs_ h_=>by obtain ⟨dz,dA,dB,dC,rfl,bV,bW,dD⟩:=aao.open h_; exact aao.intro bV bW bU) (fun a7 bX bY bZ=>?_);have b0:SR K aJ wi bX [] [.box (zz wi) (zz aq) #[.slice ab (G.set c.toNat (aae.mk f g j q s ([(aaf.mk 12 ⟨#[]⟩ 0 ⟨#[]⟩ 0 0 [(aah.mk 3 0 ⟨#[]⟩ 0 [])] [] [] [] [])] ++ d))).length ac] 24,.row (zz wi) (.slice ab (G.set c.toNat (aae.mk f g j q s ([(aaf.mk 12 ⟨#[]⟩ 0 ⟨#[]⟩ 0 0 [(aah.mk 3 0 ⟨#[]⟩ 0 [])] [] [] [] [])] ++ d))).length ac) 42 6 (G.set c.toNat (aae.mk f g j q s ([(aaf.mk 12 ⟨#[]⟩ 0 ⟨#[]⟩ 0 0 [(aah.mk 3 0 ⟨#[]⟩ 0 [])] [] [] [] [])] ++ d))).length a7,.box (zz wi) (zz ct) #[sl aZ aY a2] 24,.box (zz wi) (zz wi) #[sl z t c1] 24,.box (zz wi) (zz C) #[iI 20,sE,iI 0,sE,iI 0,iI 0,.slice (some ⟨(zz u),0,none⟩) [(aah.mk 1 1 ⟨#[]⟩ 0 [])].length 1,nS,nS,nS,nS,iI 12,sE,iI 0,sE,iI 0,iI 0,.slice (some ⟨(zz x),0,none⟩) [(aah.mk 3 0 ⟨#[]⟩ 0 [])].length 1,nS,nS,nS,nS,iI 15,sE,iI 0,sE,iI 0,iI 0,.slice (some ⟨(zz y),0,none⟩) [(aah.mk 2 0 ⟨#[]⟩ 0 [])].length 1,nS,nS,nS,nS] 38,.box (zz wi) (zz am) #[sl aA ak aB] 24]:=by simpa only [List.length_set,List.eraseIdx_zero,List.eraseIdx_cons_succ,List.tail_cons,List.set_cons_succ,List.set_cons_zero,List.nil_append,List.cons_append] using bY
          exact wt ⟨hE 16,aD (aac (⟨_,aJ,(G.set c.toNat (aae.mk f g j q s ([(aaf.mk 12 ⟨#[]⟩ 0 ⟨#[]⟩ 0 0 [(aah.mk 3 0 ⟨#[]⟩ 0 [])] [] [] [] [])] ++ d))),ab,ac,a7,fR,a6,(b0.sel [3,4,0,1]),bZ,(abQ cZ),h⟩))⟩
       ·rintro _ gt ⟨du,cw,al,aH,aI,c2,rfl,av,dE,e1,e2,h⟩;unfold asR at h;refine wp_seq (sr (lN 2 ([sl aH al aI]) dE abB aaW ?_));obtain ⟨gu,dF,aw,dG⟩:=ab0 (i:=3) (bytes:=88) (R:=fun K=>(aao K)) dE rfl (Nat.le_refl _) e1 e2 (fun hs=>(fun _ _ h=>aao.mono hs h));obtain ⟨e3,e4,h⟩:=ob h;refine cv ([.agg #[sl aH al aI]]) avP ((aqX k) e4 (hG.mono (((((((((((((J.trans O.sub).trans Y.sub).trans af).trans X).trans D).trans B.sub).trans V).trans W).trans N.sub).trans Z.sub).trans ah.sub).trans av).trans aw)) (aak.intro dG) (pt dF)) ?_;rintro _ gv ⟨gw,rfl,an⟩;have b1:=ca an dF;refine uN e3 (wt (cd h (fun c4 h=>?_) (fun c4 h=>?_)))
        ·refine cT c4 (sr ?_);obtain ⟨e5,e6,h⟩:=ob h;refine cv ([]) Tyb8 ((ao2 k) e6 (hG.mono ((((((((((((((J.trans O.sub).trans Y.sub).trans af).trans X).trans D).trans B.sub).trans V).trans W).trans N.sub).trans Z.sub).trans ah.sub).trans av).trans aw).trans an.sub)) (pt b1)) ?_;rintro _ gx ⟨e7,rfl,e8⟩;have e9:=ca e8 b1;refine m2 (.bool e5) (wt (wp_ret (aav (blkR (aav (aav (blkR (aav ?_))))))));cases (oi h).trans hr_;exact aaw rfl (resT rfl) ⟨e7,rfl,(e9.sel [])⟩
        ·refine cF c4 (wp_skip (aac (sr (lN 2 ([sl aH al aI]) b1 abB aaW ?_))));obtain ⟨⟨⟨a8⟩,b2⟩,fa,h⟩:=ob h;refine cv ([.agg #[sl aH al aI]]) ao1 ((ajL k) fa (hG.mono ((((((((((((((J.trans O.sub).trans Y.sub).trans af).trans X).trans D).trans B.sub).trans V).trans W).trans N.sub).trans Z.sub).trans ah.sub).trans av).trans aw).trans an.sub)) (aak.intro (mf dG an.sub)) (pt b1)) ?_;rintro _ cx ⟨fb,gy,rfl,aM,fc⟩;have fe:=ca aM b1;obtain ⟨a9,ba,rfl,gz⟩:=aak.open fc;refine m1 (.tuple #[.agg #[sl a9 a8 ba],iI b2]) (ext (v:=.agg #[sl a9 a8 ba]) rfl rfl (ext (v:=iI b2) rfl rfl (aC #[nS] fe adw (fun gA ff=>(sI 0 (.agg #[sl a9 a8 ba]) #[sl a9 a8 ba] ff aaW rfl rfl (fun gB b3=>(m2 (iI b2) (wt (sr (m1 (iI b2) (c0 (b2 != 23) (wt (cd h (fun c5 h=>?_) (fun c5 h=>?_))))))))))))))
         ·refine cT c5 (sr (m2 vN (wt (wp_ret (blkR (aav (aav (blkR (aav ?_)))))))));cases (oi h).trans hr_;exact aaw rfl (resT rfl) ⟨fb,rfl,(b3.sel [])⟩
         ·refine cF c5 (wp_skip (blkN (aac (wp_region_lit (m1 (iI 1) (bar (r:=2) rfl rfl (by decide) (m2 (iI 2) (wt (aoL (wp_seq (sr (m1 (iI 2) (bcm (r:=true) rfl rfl (by decide) (wt (cndT rfl (wp_skip (aac (wp_seq (wp_block (sr (lN 1 ([sl z t c1]) b3 abB aaW ?_)))))))))))))))))))));obtain ⟨⟨I⟩,fg,h⟩:=ob h;refine cv ([.agg #[sl z t c1]]) ave ((ara k) fg (hG.mono (((((((((((((((J.trans O.sub).trans Y.sub).trans af).trans X).trans D).trans B.sub).trans V).trans W).trans N.sub).trans Z.sub).trans ah.sub).trans av).trans aw).trans an.sub).trans aM.sub)) (aak.intro (mf bs (((((((((((((((J.trans O.sub).trans Y.sub).trans af).trans X).trans D).trans B.sub).trans V).trans W).trans N.sub).trans Z.sub).trans ah.sub).trans av).trans aw).trans an.sub).trans aM.sub))) (pt b3)) ?_;rintro _ bb ⟨bd,ad,ae,fh,rfl,be,cy,c6⟩;have fi:=ca be b3;have fj:=fi.lower_ (i:=0) rfl b3.size;refine aC #[nS] fj adw (fun gD fk=>(sI 0 (.agg #[sl ad I ae]) #[sl ad I ae] fk aaW rfl rfl (fun gF fl=>(wt (aax (fun a w=>∃ dH cz aK bm bn c7,a=fr 79 (updL dH [(1,iI c),(2,pp (zz wi) 0),(7,pp (zz C) 0),(8,iI 2),(9,pp (zz bb) 0)])∧KH.sub bd cz∧SR K cz wi w [] [.box (zz wi) (zz wi) #[sl z t c1] 24,.box (zz wi) (zz C) #[iI 20,sE,iI 0,sE,iI 0,iI 0,.slice (some ⟨(zz u),0,none⟩) [(aah.mk 1 1 ⟨#[]⟩ 0 [])].length 1,nS,nS,nS,nS,iI 12,sE,iI 0,sE,iI 0,iI 0,.slice (some ⟨(zz x),0,none⟩) [(aah.mk 3 0 ⟨#[]⟩ 0 [])].length 1,nS,nS,nS,nS,iI 15,sE,iI 0,sE,iI 0,iI 0,.slice (some ⟨(zz y),0,none⟩) [(aah.mk 2 0 ⟨#[]⟩ 0 [])].length 1,nS,nS,nS,nS] 38,.box (zz wi) (zz bb) #[sl bm aK bn] 24,eW (zz wi) bm aK bn 42 6 c7]∧Reps (aao cz) 6 aK c7∧aK.length * 88 ≤ mB∧asJ k aK=some r_) ?_ ?_)))))
          ·have aj:=fl.drew;refine afT (E:=[13,16]) (F:=FW bd [.box (zz wi) (zz bb) #[sl ad I ae] 24,eW (zz wi) ad I ae 42 6 fh,.box (zz wi) (zz cx) #[sl a9 a8 ba] 24,.box (zz wi) (zz wi) #[sl z t c1] 24,.box (zz wi) (zz C) #[iI 20,sE,iI 0,sE,iI 0,iI 0,.slice (some ⟨(zz u),0,none⟩) [(aah.mk 1 1 ⟨#[]⟩ 0 [])].length 1,nS,nS,nS,nS,iI 12,sE,iI 0,sE,iI 0,iI 0,.slice (some ⟨(zz x),0,none⟩) [(aah.mk 3 0 ⟨#[]⟩ 0 [])].length 1,nS,nS,nS,nS,iI 15,sE,iI 0,sE,iI 0,iI 0,.slice (some ⟨(zz y),0,none⟩) [(aah.mk 2 0 ⟨#[]⟩ 0 [])].length 1,nS,nS,nS,nS] 38,.box (zz wi) (zz aq) #[sl aH al aI] 24]) (L:=(lb 17 0)) ymx rfl rfl (kF 0 0 rfl aa7 rfl (fq [0,1,2,3,4,5] aj) (kM 2 (iI c) rfl (fq [0,1,2,3,4,5] aj) (kM 3 (iI 2) rfl (fq [0,1,2,3,4,5] aj) (kK 4 (pp (zz C) 22) rfl (fun w=>apz (o':=22) (len:=3) au5 aaM rfl rfl (by decide) (by decide) rfl) (fq [0,1,2,3,4,5] aj) (tT 5 (.agg #[iI 15,sE,iI 0,sE,iI 0,iI 0,.slice (some ⟨(zz y),0,none⟩) [(aah.mk 2 0 ⟨#[]⟩ 0 [])].length 1,nS,nS,nS,nS]) [[13,6,5],[16,5]] rfl (fq [0,1,2,3,4,5] aj) (fun w hF=>anf (i:=4) (l:=[iI 15,sE,iI 0,sE,iI 0,iI 0,.slice (some ⟨(zz y),0,none⟩) [(aah.mk 2 0 ⟨#[]⟩ 0 [])].length 1,nS,nS,nS,nS]) hF rfl abX aaM rfl rfl rfl) (kF 7 0 rfl aa7 rfl (fq [0,1,2,3,4,5] aj) (tL 8 (sl ad I ae) [[13,12,11,10,8],[16,8]] 0 rfl ace (fq [0,1,2,3,4,5] aj) (kM 9 (iI c) rfl (fq [0,1,2,3,4,5] aj) ?_))))))));obtain ⟨⟨f,g,j,q,s,d⟩,ax,h⟩:=ob h;obtain ⟨ay,gG,bo,gH,fm,fn⟩:=ahv (aj.entAt (i:=1) rfl) cy (aat ax).1;obtain ⟨gI,gJ,dI,dJ,rfl,gK,gL,c8⟩:=aao.open fm;refine kK 10 (pp ay (0 + c.toNat * 6)) rfl (fun w=>acs (b:=ay) (o:=0) (i:=c) abK abc rfl bo rfl (aat ax).2.1 (aat ax).2.2) (fq [0,1,2,3,4,5] aj) (kK 11 (pp ay (0 + c.toNat * 6 + 5)) rfl (fun w=>adK (o':=0 + c.toNat * 6 + 5) abz rfl rfl) (fq [0,1,2,3,4,5] aj) (tT 12 (sl dI d dJ) [[13,12],[16,12]] rfl (fq [0,1,2,3,4,5] aj) (fun w hF=>agX (v:=sl dI d dJ) aa4 rfl (fn _ (hF.entAt (i:=1) rfl) 5 _ rfl)) (abM (rs:=[1,6]) (by kernel_rfl) (by decide) (allC ?_ (allC ?_ allN)))))
           ·refine opL (i:=1) rfl (l1 0 (sl ad I ae) aj ace (wb (fq [0,1,2,3,4,5] aj) (fun _=>aO 6 rfl (bsl (e:=37) (cells:=#[iI 15,sE,iI 0,sE,iI 0,iI 0,.slice (some ⟨(zz y),0,none⟩) [(aah.mk 2 0 ⟨#[]⟩ 0 [])].length 1,nS,nS,nS,nS]) (vs:=[(0,.agg #[iI 15,sE,iI 0,sE,iI 0,iI 0,.slice (some ⟨(zz y),0,none⟩) [(aah.mk 2 0 ⟨#[]⟩ 0 [])].length 1,nS,nS,nS,nS])]) aj rfl (aam aa5 aaM acI rfl (by decide) (by decide) rfl) (fun fo bf=>(wb (fq [1,2,3,4,5,6] bf) (fun _=>aO 13 rfl ?_)))))));have b4:=bf.boxrowN (i:=0) (size:=11) (m:=1) rfl rfl (by decide);have b5:Reps (aai bd) 11 [(aaf.mk 15 ⟨#[]⟩ 0 ⟨#[]⟩ 0 0 [(aah.mk 2 0 ⟨#[]⟩ 0 [])] [] [] [] [])] [iI 15,sE,iI 0,sE,iI 0,iI 0,.slice (some ⟨(zz y),0,none⟩) [(aah.mk 2 0 ⟨#[]⟩ 0 [])].length 1,nS,nS,nS,nS]:=⟨[iI 15,sE,iI 0,sE,iI 0,iI 0,.slice (some ⟨(zz y),0,none⟩) [(aah.mk 2 0 ⟨#[]⟩ 0 [])].length 1,nS,nS,nS,nS],_,rfl,rfl,(aai.intro (by decide) (by decide) (me cS ((((((((((B.sub.trans V).trans W).trans N.sub).trans Z.sub).trans ah.sub).trans av).trans aw).trans an.sub).trans aM.sub).trans be.sub)) (RSl.nil _ _ _ _ _ _) (RSl.nil _ _ _ _ _ _) (RSl.nil _ _ _ _ _ _) (RSl.nil _ _ _ _ _ _)),(aa6 (R:=(aai bd)) (size:=11))⟩;obtain ⟨bg,h⟩:=aaC h;refine apS (R:=fun K=>(aai K)) (zs:=d) (i:=0) b4 rfl aa5 afb rfl (by decide) rfl rfl b5 c8 (fun _ _ h=>aai.one h) (Nat.le_refl _) bg (by decide) (fun b6 b7 dK dL br b8=>(wt ⟨hE 13,kH 14 (pp ay (0 + c.toNat * 6)) rfl (fun w=>acs (b:=ay) (o:=0) (i:=c) abK abc rfl bo rfl (aat ax).2.1 (aat ax).2.2) 13 (kH 15 (pp ay (0 + c.toNat * 6 + 5)) rfl (fun w=>adK (o':=0 + c.toNat * 6 + 5) abz rfl rfl) 13 (aO 16 rfl ?_))⟩));obtain ⟨aL,b9,bh,cb⟩:=ab0 (i:=0) (bytes:=184) (R:=fun K=>(aai K)) br rfl (Nat.le_refl _) b8 (abY bg) (fun hs=>(fun _ _ h=>aai.mono hs h));refine stR (R:=(aao aL)) (i:=1) (off:=5) (p:=(aae.mk f g j q s d)) (p':=(aae.mk f g j q s ([(aaf.mk 15 ⟨#[]⟩ 0 ⟨#[]⟩ 0 0 [(aah.mk 2 0 ⟨#[]⟩ 0 [])] [] [] [] [])] ++ d))) (v:=.slice b6 ([(aaf.mk 15 ⟨#[]⟩ 0 ⟨#[]⟩ 0 0 [(aah.mk 2 0 ⟨#[]⟩ 0 [])] [] [] [] [])] ++ d).length b7) b9 rfl (cy.mono (fun _ _ h=>aao.mono bh h)) (aat ax).1 abZ bo rfl rfl rfl rfl (by decide) (fun cs_ h_=>by obtain ⟨dM,dN,dO,dP,rfl,cc,ce,dQ⟩:=aao.open h_; exact aao.intro cc ce cb) (fun bi cf ch ci=>?_);have cj:SR K aL wi cf [] [.box (zz wi) (zz bb) #[.slice ad (I.set c.toNat (aae.mk f g j q s ([(aaf.mk 15 ⟨#[]⟩ 0 ⟨#[]⟩ 0 0 [(aah.mk 2 0 ⟨#[]⟩ 0 [])] [] [] [] [])] ++ d))).length ae] 24,.row (zz wi) (.slice ad (I.set c.toNat (aae.mk f g j q s ([(aaf.mk 15 ⟨#[]⟩ 0 ⟨#[]⟩ 0 0 [(aah.mk 2 0 ⟨#[]⟩ 0 [])] [] [] [] [])] ++ d))).length ae) 42 6 (I.set c.toNat (aae.mk f g j q s ([(aaf.mk 15 ⟨#[]⟩ 0 ⟨#[]⟩ 0 0 [(aah.mk 2 0 ⟨#[]⟩ 0 [])] [] [] [] [])] ++ d))).length bi,.box (zz wi) (zz cx) #[sl a9 a8 ba] 24,.box (zz wi) (zz wi) #[sl z t c1] 24,.box (zz wi) (zz C) #[iI 20,sE,iI 0,sE,iI 0,iI 0,.slice (some ⟨(zz u),0,none⟩) [(aah.mk 1 1 ⟨#[]⟩ 0 [])].length 1,nS,nS,nS,nS,iI 12,sE,iI 0,sE,iI 0,iI 0,.slice (some ⟨(zz x),0,none⟩) [(aah.mk 3 0 ⟨#[]⟩ 0 [])].length 1,nS,nS,nS,nS,iI 15,sE,iI 0,sE,iI 0,iI 0,.slice (some ⟨(zz y),0,none⟩) [(aah.mk 2 0 ⟨#[]⟩ 0 [])].length 1,nS,nS,nS,nS] 38,.box (zz wi) (zz aq) #[sl aH al aI] 24]:=by simpa only [List.length_set,List.eraseIdx_zero,List.eraseIdx_cons_succ,List.tail_cons,List.set_cons_succ,List.set_cons_zero,List.nil_append,List.cons_append] using ch
            exact wt ⟨hE 16,aD (aac (⟨_,aL,(I.set c.toNat (aae.mk f g j q s ([(aaf.mk 15 ⟨#[]⟩ 0 ⟨#[]⟩ 0 0 [(aah.mk 2 0 ⟨#[]⟩ 0 [])] [] [] [] [])] ++ d))),ad,ae,bi,fR,bh,(cj.sel [3,4,0,1]),ci,(abQ c6),h⟩))⟩
           ·refine opL (i:=6) rfl (bsl (e:=37) (cells:=#[iI 15,sE,iI 0,sE,iI 0,iI 0,.slice (some ⟨(zz y),0,none⟩) [(aah.mk 2 0 ⟨#[]⟩ 0 [])].length 1,nS,nS,nS,nS]) (vs:=[(0,.agg #[iI 15,sE,iI 0,sE,iI 0,iI 0,.slice (some ⟨(zz y),0,none⟩) [(aah.mk 2 0 ⟨#[]⟩ 0 [])].length 1,nS,nS,nS,nS])]) aj rfl (aam aa5 aaM acI rfl (by decide) (by decide) rfl) (fun fo bf=>(wb (fq [1,2,3,4,5,6] bf) (fun _=>abM (rs:=[1,13]) (by kernel_rfl) (by decide) (allC ?_ (allC ?_ allN))))))
            ·refine opL (i:=1) rfl (l1 1 (sl ad I ae) bf ace (wb (fq [1,2,3,4,5,6] bf) (fun _=>aO 13 rfl ?_)));have b4:=bf.boxrowN (i:=0) (size:=11) (m:=1) rfl rfl (by decide);have b5:Reps (aai bd) 11 [(aaf.mk 15 ⟨#[]⟩ 0 ⟨#[]⟩ 0 0 [(aah.mk 2 0 ⟨#[]⟩ 0 [])] [] [] [] [])] [iI 15,sE,iI 0,sE,iI 0,iI 0,.slice (some ⟨(zz y),0,none⟩) [(aah.mk 2 0 ⟨#[]⟩ 0 [])].length 1,nS,nS,nS,nS]:=⟨[iI 15,sE,iI 0,sE,iI 0,iI 0,.slice (some ⟨(zz y),0,none⟩) [(aah.mk 2 0 ⟨#[]⟩ 0 [])].length 1,nS,nS,nS,nS],_,rfl,rfl,(aai.intro (by decide) (by decide) (me cS ((((((((((B.sub.trans V).trans W).trans N.sub).trans Z.sub).trans ah.sub).trans av).trans aw).trans an.sub).trans aM.sub).trans be.sub)) (RSl.nil _ _ _ _ _ _) (RSl.nil _ _ _ _ _ _) (RSl.nil _ _ _ _ _ _) (RSl.nil _ _ _ _ _ _)),(aa6 (R:=(aai bd)) (size:=11))⟩;obtain ⟨bg,h⟩:=aaC h;refine apS (R:=fun K=>(aai K)) (zs:=d) (i:=0) b4 rfl aa5 afb rfl (by decide) rfl rfl b5 c8 (fun _ _ h=>aai.one h) (Nat.le_refl _) bg (by decide) (fun b6 b7 dK dL br b8=>(wt ⟨hE 13,kH 14 (pp ay (0 + c.toNat * 6)) rfl (fun w=>acs (b:=ay) (o:=0) (i:=c) abK abc rfl bo rfl (aat ax).2.1 (aat ax).2.2) 13 (kH 15 (pp ay (0 + c.toNat * 6 + 5)) rfl (fun w=>adK (o':=0 + c.toNat * 6 + 5) abz rfl rfl) 13 (aO 16 rfl ?_))⟩));obtain ⟨aL,b9,bh,cb⟩:=ab0 (i:=0) (bytes:=184) (R:=fun K=>(aai K)) br rfl (Nat.le_refl _) b8 (abY bg) (fun hs=>(fun _ _ h=>aai.mono hs h));refine stR (R:=(aao aL)) (i:=1) (off:=5) (p:=(aae.mk f g j q s d)) (p':=(aae.mk f g j q s ([(aaf.mk 15 ⟨#[]⟩ 0 ⟨#[]⟩ 0 0 [(aah.mk 2 0 ⟨#[]⟩ 0 [])] [] [] [] [])] ++ d))) (v:=.slice b6 ([(aaf.mk 15 ⟨#[]⟩ 0 ⟨#[]⟩ 0 0 [(aah.mk 2 0 ⟨#[]⟩ 0 [])] [] [] [] [])] ++ d).length b7) b9 rfl (cy.mono (fun _ _ h=>aao.mono bh h)) (aat ax).1 abZ bo rfl rfl rfl rfl (by decide) (fun cs_ h_=>by obtain ⟨dM,dN,dO,dP,rfl,cc,ce,dQ⟩:=aao.open h_; exact aao.intro cc ce cb) (fun bi cf ch ci=>?_);have cj:SR K aL wi cf [] [.box (zz wi) (zz bb) #[.slice ad (I.set c.toNat (aae.mk f g j q s ([(aaf.mk 15 ⟨#[]⟩ 0 ⟨#[]⟩ 0 0 [(aah.mk 2 0 ⟨#[]⟩ 0 [])] [] [] [] [])] ++ d))).length ae] 24,.row (zz wi) (.slice ad (I.set c.toNat (aae.mk f g j q s ([(aaf.mk 15 ⟨#[]⟩ 0 ⟨#[]⟩ 0 0 [(aah.mk 2 0 ⟨#[]⟩ 0 [])] [] [] [] [])] ++ d))).length ae) 42 6 (I.set c.toNat (aae.mk f g j q s ([(aaf.mk 15 ⟨#[]⟩ 0 ⟨#[]⟩ 0 0 [(aah.mk 2 0 ⟨#[]⟩ 0 [])] [] [] [] [])] ++ d))).length bi,.box (zz wi) (zz cx) #[sl a9 a8 ba] 24,.box (zz wi) (zz wi) #[sl z t c1] 24,.box (zz wi) (zz C) #[iI 20,sE,iI 0,sE,iI 0,iI 0,.slice (some ⟨(zz u),0,none⟩) [(aah.mk 1 1 ⟨#[]⟩ 0 [])].length 1,nS,nS,nS,nS,iI 12,sE,iI 0,sE,iI 0,iI 0,.slice (some ⟨(zz x),0,none⟩) [(aah.mk 3 0 ⟨#[]⟩ 0 [])].length 1,nS,nS,nS,nS,iI 15,sE,iI 0,sE,iI 0,iI 0,.slice (some ⟨(zz y),0,none⟩) [(aah.mk 2 0 ⟨#[]⟩ 0 [])].length 1,nS,nS,nS,nS] 38,.box (zz wi) (zz aq) #[sl aH al aI] 24]:=by simpa only [List.length_set,List.eraseIdx_zero,List.eraseIdx_cons_succ,List.tail_cons,List.set_cons_succ,List.set_cons_zero,List.nil_append,List.cons_append] using ch
             exact wt ⟨hE 16,aD (aac (⟨_,aL,(I.set c.toNat (aae.mk f g j q s ([(aaf.mk 15 ⟨#[]⟩ 0 ⟨#[]⟩ 0 0 [(aah.mk 2 0 ⟨#[]⟩ 0 [])] [] [] [] [])] ++ d))),ad,ae,bi,fR,bh,(cj.sel [3,4,0,1]),ci,(abQ c6),h⟩))⟩
            ·refine opL (i:=13) rfl ?_;have b4:=bf.boxrowN (i:=0) (size:=11) (m:=1) rfl rfl (by decide);have b5:Reps (aai bd) 11 [(aaf.mk 15 ⟨#[]⟩ 0 ⟨#[]⟩ 0 0 [(aah.mk 2 0 ⟨#[]⟩ 0 [])] [] [] [] [])] [iI 15,sE,iI 0,sE,iI 0,iI 0,.slice (some ⟨(zz y),0,none⟩) [(aah.mk 2 0 ⟨#[]⟩ 0 [])].length 1,nS,nS,nS,nS]:=⟨[iI 15,sE,iI 0,sE,iI 0,iI 0,.slice (some ⟨(zz y),0,none⟩) [(aah.mk 2 0 ⟨#[]⟩ 0 [])].length 1,nS,nS,nS,nS],_,rfl,rfl,(aai.intro (by decide) (by decide) (me cS ((((((((((B.sub.trans V).trans W).trans N.sub).trans Z.sub).trans ah.sub).trans av).trans aw).trans an.sub).trans aM.sub).trans be.sub)) (RSl.nil _ _ _ _ _ _) (RSl.nil _ _ _ _ _ _) (RSl.nil _ _ _ _ _ _) (RSl.nil _ _ _ _ _ _)),(aa6 (R:=(aai bd)) (size:=11))⟩;obtain ⟨bg,h⟩:=aaC h;refine apS (R:=fun K=>(aai K)) (zs:=d) (i:=0) b4 rfl aa5 afb rfl (by decide) rfl rfl b5 c8 (fun _ _ h=>aai.one h) (Nat.le_refl _) bg (by decide) (fun b6 b7 dK dL br b8=>(wt ⟨hE 13,aO 1 rfl (l1 1 (sl ad I ae) br ace (wt ⟨hE 13,kH 14 (pp ay (0 + c.toNat * 6)) rfl (fun w=>acs (b:=ay) (o:=0) (i:=c) abK abc rfl bo rfl (aat ax).2.1 (aat ax).2.2) 13 (kH 15 (pp ay (0 + c.toNat * 6 + 5)) rfl (fun w=>adK (o':=0 + c.toNat * 6 + 5) abz rfl rfl) 13 (aO 16 rfl ?_))⟩))⟩));obtain ⟨aL,b9,bh,cb⟩:=ab0 (i:=0) (bytes:=184) (R:=fun K=>(aai K)) br rfl (Nat.le_refl _) b8 (abY bg) (fun hs=>(fun _ _ h=>aai.mono hs h));refine stR (R:=(aao aL)) (i:=1) (off:=5) (p:=(aae.mk f g j q s d)) (p':=(aae.mk f g j q s ([(aaf.mk 15 ⟨#[]⟩ 0 ⟨#[]⟩ 0 0 [(aah.mk 2 0 ⟨#[]⟩ 0 [])] [] [] [] [])] ++ d))) (v:=.slice b6 ([(aaf.mk 15 ⟨#[]⟩ 0 ⟨#[]⟩ 0 0 [(aah.mk 2 0 ⟨#[]⟩ 0 [])] [] [] [] [])] ++ d).length b7) b9 rfl (cy.mono (fun _ _ h=>aao.mono bh h)) (aat ax).1 abZ bo rfl rfl rfl rfl (by decide) (fun cs_ h_=>by obtain ⟨dM,dN,dO,dP,rfl,cc,ce,dQ⟩:=aao.open h_; exact aao.intro cc ce cb) (fun bi cf ch ci=>?_);have cj:SR K aL wi cf [] [.box (zz wi) (zz bb) #[.slice ad (I.set c.toNat (aae.mk f g j q s ([(aaf.mk 15 ⟨#[]⟩ 0 ⟨#[]⟩ 0 0 [(aah.mk 2 0 ⟨#[]⟩ 0 [])] [] [] [] [])] ++ d))).length ae] 24,.row (zz wi) (.slice ad (I.set c.toNat (aae.mk f g j q s ([(aaf.mk 15 ⟨#[]⟩ 0 ⟨#[]⟩ 0 0 [(aah.mk 2 0 ⟨#[]⟩ 0 [])] [] [] [] [])] ++ d))).length ae) 42 6 (I.set c.toNat (aae.mk f g j q s ([(aaf.mk 15 ⟨#[]⟩ 0 ⟨#[]⟩ 0 0 [(aah.mk 2 0 ⟨#[]⟩ 0 [])] [] [] [] [])] ++ d))).length bi,.box (zz wi) (zz cx) #[sl a9 a8 ba] 24,.box (zz wi) (zz wi) #[sl z t c1] 24,.box (zz wi) (zz C) #[iI 20,sE,iI 0,sE,iI 0,iI 0,.slice (some ⟨(zz u),0,none⟩) [(aah.mk 1 1 ⟨#[]⟩ 0 [])].length 1,nS,nS,nS,nS,iI 12,sE,iI 0,sE,iI 0,iI 0,.slice (some ⟨(zz x),0,none⟩) [(aah.mk 3 0 ⟨#[]⟩ 0 [])].length 1,nS,nS,nS,nS,iI 15,sE,iI 0,sE,iI 0,iI 0,.slice (some ⟨(zz y),0,none⟩) [(aah.mk 2 0 ⟨#[]⟩ 0 [])].length 1,nS,nS,nS,nS] 38,.box (zz wi) (zz aq) #[sl aH al aI] 24]:=by simpa only [List.length_set,List.eraseIdx_zero,List.eraseIdx_cons_succ,List.tail_cons,List.set_cons_succ,List.set_cons_zero,List.nil_append,List.cons_append] using ch
             exact wt ⟨hE 16,aD (aac (⟨_,aL,(I.set c.toNat (aae.mk f g j q s ([(aaf.mk 15 ⟨#[]⟩ 0 ⟨#[]⟩ 0 0 [(aah.mk 2 0 ⟨#[]⟩ 0 [])] [] [] [] [])] ++ d))),ad,ae,bi,fR,bh,(cj.sel [3,4,0,1]),ci,(abQ c6),h⟩))⟩
          ·rintro _ gM ⟨dH,cz,aK,bm,bn,c7,rfl,cA,dR,fp,fs,h⟩;unfold asJ at h;refine wp_seq (sr (lN 2 ([sl bm aK bn]) dR abB aaW ?_));obtain ⟨gN,dS,cB,dT⟩:=ab0 (i:=3) (bytes:=88) (R:=fun K=>(aao K)) dR rfl (Nat.le_refl _) fp fs (fun hs=>(fun _ _ h=>aao.mono hs h));obtain ⟨ft,fu,h⟩:=ob h;refine cv ([.agg #[sl bm aK bn]]) avP ((aqX k) fu (hG.mono ((((((((((((((((((J.trans O.sub).trans Y.sub).trans af).trans X).trans D).trans B.sub).trans V).trans W).trans N.sub).trans Z.sub).trans ah.sub).trans av).trans aw).trans an.sub).trans aM.sub).trans be.sub).trans cA).trans cB)) (aak.intro dT) (pt dS)) ?_;rintro _ gO ⟨gP,rfl,ck⟩;have cl:=ca ck dS;refine uN ft (wt (cd h (fun c9 h=>?_) (fun c9 h=>?_)))
           ·refine cT c9 (sr ?_);obtain ⟨fv,fx,h⟩:=ob h;refine cv ([]) Tyb8 ((ao2 k) fx (hG.mono (((((((((((((((((((J.trans O.sub).trans Y.sub).trans af).trans X).trans D).trans B.sub).trans V).trans W).trans N.sub).trans Z.sub).trans ah.sub).trans av).trans aw).trans an.sub).trans aM.sub).trans be.sub).trans cA).trans cB).trans ck.sub)) (pt cl)) ?_;rintro _ gQ ⟨fy,rfl,fz⟩;have fA:=ca fz cl;refine m2 (.bool fv) (wt (wp_ret (aav (blkR (aav (aav (blkR (aav ?_))))))));cases (oi h).trans hr_;exact aaw rfl (resT rfl) ⟨fy,rfl,(fA.sel [])⟩
           ·refine cF c9 (wp_skip (aac (sr (lN 2 ([sl bm aK bn]) cl abB aaW ?_))));obtain ⟨⟨⟨cC⟩,cm⟩,fB,h⟩:=ob h;refine cv ([.agg #[sl bm aK bn]]) ao1 ((ajL k) fB (hG.mono (((((((((((((((((((J.trans O.sub).trans Y.sub).trans af).trans X).trans D).trans B.sub).trans V).trans W).trans N.sub).trans Z.sub).trans ah.sub).trans av).trans aw).trans an.sub).trans aM.sub).trans be.sub).trans cA).trans cB).trans ck.sub)) (aak.intro (mf dT ck.sub)) (pt cl)) ?_;rintro _ gR ⟨fC,gT,rfl,dU,fD⟩;have fE:=ca dU cl;obtain ⟨cD,cG,rfl,gU⟩:=aak.open fD;refine m1 (.tuple #[.agg #[sl cD cC cG],iI cm]) (ext (v:=.agg #[sl cD cC cG]) rfl rfl (ext (v:=iI cm) rfl rfl (aC #[nS] fE adw (fun gV fF=>(sI 0 (.agg #[sl cD cC cG]) #[sl cD cC cG] fF aaW rfl rfl (fun gW da=>(m2 (iI cm) (wt (sr (m1 (iI cm) (c0 (cm != 23) (wt (cd h (fun db h=>?_) (fun db h=>?_))))))))))))))
            ·refine cT db (sr (m2 vN (wt (wp_ret (blkR (aav (aav (blkR (aav ?_)))))))));cases (oi h).trans hr_;exact aaw rfl (resT rfl) ⟨fC,rfl,(da.sel [])⟩
            ·refine cF db (wp_skip (blkN (aac (wp_region_lit (m1 (iI 2) (bar (r:=3) rfl rfl (by decide) (m2 (iI 3) (wt (aoL (wp_seq (sr (m1 (iI 3) (bcm (r:=false) rfl rfl (by decide) (wt (cndF rfl (wp_exit (aaA (aaA (blkX (aac (sr ?_)))))))))))))))))))));obtain ⟨fG,fH,h⟩:=ob h;refine cv ([]) Tyb8 ((ao2 k) fH (hG.mono ((((((((((((((((((((J.trans O.sub).trans Y.sub).trans af).trans X).trans D).trans B.sub).trans V).trans W).trans N.sub).trans Z.sub).trans ah.sub).trans av).trans aw).trans an.sub).trans aM.sub).trans be.sub).trans cA).trans cB).trans ck.sub).trans dU.sub)) (pt da)) ?_;rintro _ gX ⟨fI,rfl,fJ⟩;have fK:=ca fJ da;refine m2 (.bool fG) (wt (wp_ret ?_));cases (oi h).trans hr_;exact aaw rfl (resT rfl) ⟨fI,rfl,(fK.sel [])⟩
theorem ayL (k:Nat):anL (f3 k):=avn k
end Go.Proofs.YtoegpkmhifmamaaGreatDoor
set_option maxRecDepth 512
set_option maxHeartbeats 200000
namespace Go.Proofs.YtoegpkmhifmamaaGreatDoor
open Go
mutual
def szE:aah→Nat | .mk _ _ _ _ l=>szEs l + 1
def szEs:List aah→Nat | []=>0 | e :: l=>szE e + szEs l
end
mutual
def szS:aaf→Nat | .mk _ _ _ _ _ _ a b c d e=>szEs a + szSs b + szSs c + szSs d + szCs e + 1
def szSs:List aaf→Nat | []=>0 | s :: l=>szS s + szSs l
def szC:aaB→Nat | .mk _ _ _ a b=>szEs a + szSs b + 1
def szCs:List aaB→Nat | []=>0 | c :: l=>szC c + szCs l
end
def szF:aae→Nat | .mk _ ps _ _ _ b=>ps.length + szSs b + 1
def szFs:List aae→Nat | []=>0 | f :: l=>szF f + szFs l
def szP:aaa→Nat | .mk fs=>szFs fs + 1
theorem aoc : ∀ l:List aah,l.length≤szEs l
 | []=>by simp
 | .mk _ _ _ _ a :: l=>by have:=aoc l; simp only [List.length_cons,szEs,szE]; omega
theorem aoo : ∀ l:List aaf,l.length≤szSs l
 | []=>by simp
 | .mk _ _ _ _ _ _ _ _ _ _ _ :: l=>by have:=aoo l; simp only [List.length_cons,szSs,szS]; omega
theorem aol : ∀ l:List aaB,l.length≤szCs l
 | []=>by simp
 | .mk _ _ _ _ _ :: l=>by have:=aol l; simp only [List.length_cons,szCs,szC]; omega
theorem alj : ∀ l:List aae,l.length≤szFs l
 | []=>by simp
 | .mk _ _ _ _ _ _ :: l=>by have:=alj l; simp only [List.length_cons,szFs,szF]; omega
def af3 (c:Int):Bool:=decide (c ≥ 97) && decide (c≤122)
def aiG (c:Int):Bool:=decide (c ≥ 48) && decide (c≤57)
def runL:List UInt8→Nat→Bool
 | [],_=>true
 | e :: r,i=>(af3 e.toNat || (!((i:Int) == 0) && aiG e.toNat)) && runL r (i + 1)
def isN (s:ByteArray):Bool:=runL s.data.toList 0 && !seq s ⟨#[]⟩ && decide ((s.size:Int)≤12) && !ac1.any (seq s)
theorem axZ (k:Nat) (c:Int):f58 k c=some (af3 c):=by
 unfold f58 asV amY af3;cases decide (c ≥ 97) <;> rfl
theorem awS (k:Nat) (c:Int):f59 k c=some (aiG c):=by
 unfold f59 atp amV aiG;cases decide (c ≥ 48) <;> rfl
theorem avM (k:Nat) (c:Int):f115 k c=some (af3 c):=by
 unfold f115 aov aib af3;cases decide (c ≥ 97) <;> rfl
theorem awa (k:Nat) (c:Int):f116 k c=some (aiG c):=by
 unfold f116 aoP ai9 aiG;cases decide (c ≥ 48) <;> rfl
theorem al2 (k:Nat) (a:ByteArray) : ∀ (l:List UInt8) (i:Nat),ae0 k a l i=some (runL l i && !seq a ⟨#[]⟩)
 | [],i=>by simp [ae0,runL]
 | e :: l,i=>by
  unfold ae0 runL;rw [avM];simp only [Option.bind_some,ajr,awa,al2 k a l];cases af3 e.toNat <;> cases ((i:Int) == 0) <;> cases aiG e.toNat <;> simp
theorem ajw (k:Nat) (a:ByteArray) : ∀ (l:List ByteArray) (i:Nat),∃ r,af4 k a l i=some r∧decide (r ≥ 0)=l.any (seq a)
 | [],i=>⟨-1,rfl,rfl⟩
 | e :: l,i=>by
  unfold af4;cases h:seq a e
  ·obtain ⟨r,h1,h2⟩:=ajw k a l (i + 1);exact ⟨r,h1,by simp [h,h2]⟩
  ·exact ⟨(i:Int),rfl,by simp [h]⟩
theorem al9 (k:Nat) (s:ByteArray):f71 k s=some (isN s):=by
 unfold f71 asQ f96 ath isN;rw [al2];simp only [Option.bind_some,ajo];obtain ⟨r,h1,h2⟩:=ajw k s ac1 0;have h92:f97 k s=some (ac1.any (seq s)):=by
  unfold f97 ati f118 f117 an0 f134 aow;simp [h1,h2]
 rw [h92];simp only [Option.bind_some];cases runL s.data.toList 0 <;> cases seq s ⟨#[]⟩ <;> cases decide ((s.size:Int)≤12) <;> rfl
theorem ahV (a b:ByteArray):seq a b=seq b a:=by
 unfold seq;rw [Bool.eq_iff_iff,beq_iff_eq,beq_iff_eq];exact eq_comm
theorem amF (k:Nat) (a:ByteArray) : ∀ (l:List ByteArray) (i:Nat),aiQ k a l i=some (l.any (seq a))
 | [],i=>rfl
 | e :: l,i=>by
  unfold aiQ;rw [ahV e a];cases h:seq a e
  ·simp [h,amF k a l]
  ·simp [h]
theorem asd (k:Nat):f86 k=some ac1:=rfl
theorem axN (k:Nat) (a:ByteArray):f60 k a=some (ac1.any (seq a)):=by
 unfold f60 asO;rw [asd];exact amF k a ac1 0
theorem atk (a:ByteArray):decide ((a.size:Int) ≥ 1)=!seq a ⟨#[]⟩:=by
 unfold seq;rw [ByteArray.toList_eq,ByteArray.toList_eq];obtain ⟨⟨l⟩⟩:=a;cases l with
 | nil=>rfl
 | cons x l =>
  have h2:((⟨⟨x :: l⟩⟩:ByteArray).size:Int) ≥ 1:=by
   show ((l.length + 1:Nat):Int) ≥ 1;omega
  rw [decide_eq_true h2];rfl
theorem ams (k:Nat) (a:ByteArray) : ∀ (l:List UInt8) (i:Nat),ae5 k a l i=some (runL l i && !seq a ⟨#[]⟩ && decide ((a.size:Int)≤12) && !ac1.any (seq a))
 | [],i=>by
  unfold ae5 runL;rw [axN,atk];simp only [Option.bind_some,ajS];cases seq a ⟨#[]⟩ <;> cases decide ((a.size:Int)≤12) <;> rfl
 | e :: l,i=>by
  unfold ae5 runL;rw [axZ];simp only [Option.bind_some,ajH,awS,ams k a l];cases af3 e.toNat <;> cases ((i:Int) == 0) <;> cases aiG e.toNat <;> simp
theorem alN (k:Nat) (s:ByteArray):f40 k s=some (isN s):=ams k s _ 0
def alL:List UInt8→Bool
 | []=>true
 | e :: l=>!decide ((e.toNat:Int) < 32) && !decide ((e.toNat:Int) > 126) && alL l
def isT (s:ByteArray):Bool:=alL s.data.toList && decide ((s.size:Int)≤60)
theorem amd (k:Nat) (a:ByteArray) : ∀ (l:List UInt8) (i:Nat),aei k a l i=some (alL l && decide ((a.size:Int)≤60))
 | [],i=>by simp [aei,alL]
 | e :: l,i=>by
  unfold aei alL;simp only [aiT,amd k a l];cases decide ((e.toNat:Int) < 32) <;> cases decide ((e.toNat:Int) > 126) <;> simp
theorem ajz (k:Nat) (a:ByteArray) : ∀ (l:List UInt8) (i:Nat),aed k a l i=some (alL l && decide ((a.size:Int)≤60))
 | [],i=>by simp [aed,alL]
 | e :: l,i=>by
  unfold aed alL;simp only [ai5,ajz k a l];cases decide ((e.toNat:Int) < 32) <;> cases decide ((e.toNat:Int) > 126) <;> simp
theorem ayl (k:Nat) (s:ByteArray):f70 k s=some (isT s):=amd k s _ 0
theorem awg (k:Nat) (s:ByteArray):f106 k s=some (isT s):=ajz k s _ 0
theorem aby {x:Int} {n:Nat} (h:x=(n:Int)) (h2:n≤4611686018427387904):w64 x=(n:Int):=by
 subst h; unfold w64 IntKind.wrap; simp [IntKind.bits,IntKind.signed]; omega
def ahP (op num:Int) (txt:ByteArray) (len:Nat):Bool :=
 cond (op == 1) (decide (num ≥ 0) && decide (num≤1000000000000) && seq txt ⟨#[]⟩ && (len:Int) == 0)
 (cond (op == 2) (decide (num ≥ 0) && decide (num≤1) && seq txt ⟨#[]⟩ && (len:Int) == 0)
 (cond (op == 3) (num == 0 && isT txt && (len:Int) == 0)
 (cond (op == 4) (num == 0 && isN txt && (len:Int) == 0)
 (cond (op == 5 || op == 6) (num == 0 && seq txt ⟨#[]⟩ && (len:Int) == 1)
  (decide (op ≥ 7) && decide (op≤19) && num == 0 && seq txt ⟨#[]⟩ && (len:Int) == 2)))))
mutual
def gE (z:Bool):aah→Nat→Bool
 | .mk op num txt slot l,a=>decide (a≤16) && (z || slot == 0) && ahP op num txt l.length && gEs z l (a + 1)
def gEs (z:Bool):List aah→Nat→Bool
 | [],_=>true
 | e :: l,a=>gE z e a && gEs z l a
end
def NRes (r:Option (aag × Bool)) (g:Bool) (n sz:Nat) (z:Bool):Prop :=
 ∃ c,r=some (c,g && decide (n + sz≤600))∧((g && decide (n + sz≤600))=true→∃ d,c=.mk ((n + sz:Nat):Int) d z)
theorem ajt (k:Nat) (x a b:Int):f69 k x a b=some (decide (x ≥ a) && decide (x≤b)):=by
 unfold f69 asU amU; cases decide (x ≥ a) <;> rfl
theorem aou (k:Nat) (n:Nat) (d:Int) (z:Bool) (a:Nat) (h:n≤600) :
  f68 k (.mk n d z) a=some (.mk ((n + 1:Nat):Int) (imax d a) z,decide (n + 1≤600) && decide (a≤16)):=by
 unfold f68 arT al6;simp only;rw [aby (n:=n + 1) (by omega) (by omega)];have e1:decide (((n + 1:Nat):Int)≤600)=decide (n + 1≤600):=by rw [decide_eq_decide]; omega
 have e2:decide ((a:Int)≤16)=decide (a≤16):=by rw [decide_eq_decide]; omega
 rw [e1,e2];cases decide (n + 1≤600) <;> rfl
theorem ard (k:Nat) (F:ahn) (op num:Int) (txt:ByteArray) (l:List aah) (a n d:Int) (q:Bool) :
  ahy k F op num txt l a n d q false=cond (ahP op num txt l.length) (adt k F l a n d q (l.length:Int) true) (some (.mk n d q,false)):=by
 unfold ahy amu amW aju adt ai8 ahP;simp only [ajt,ayl,al9,Option.bind_some,Bool.cond_eq_ite];grind
theorem agb : ∀ e:aah,1≤szE e
 | .mk _ _ _ _ _=>by simp only [szE]; omega
theorem NRes.no {r:Option (aag × Bool)} {g:Bool} {n sz:Nat} {z:Bool} {c:aag} (h:r=some (c,false)) (hg:(g && decide (n + sz≤600))=false):NRes r g n sz z :=
 ⟨c,by rw [h,hg],by rw [hg]; intro h; cases h⟩
theorem NRes.yes {r:Option (aag × Bool)} {g:Bool} {n sz:Nat} {z:Bool} {d:Int} (h:r=some (.mk ((n + sz:Nat):Int) d z,true)) (hg:(g && decide (n + sz≤600))=true):NRes r g n sz z :=
 ⟨_,by rw [h,hg],fun _=>⟨d,rfl⟩⟩
theorem nE (k:Nat) (z:Bool) : ∀ m,
  (∀ e,2 * szE e≤m→∀ (n:Nat) (d:Int) (a:Nat),n≤600→a≤17→NRes ((aga k m).f47 (.mk n d z) e a) (gE z e a) n (szE e) z) ∧
  (∀ l,2 * szEs l + 1≤m→∀ (n:Nat) (d:Int) (a:Nat),n≤600→a≤17→NRes ((aga k m).f72 (.mk n d z) l a) (gEs z l a) n (szEs l) z)
 | 0=>⟨fun e he=>by have:=agb e; omega,fun l hl=>by omega⟩
 | m + 1=>by
  obtain ⟨ihe,ihl⟩:=nE k z m;constructor
  ·intro e he n d a hn ha;obtain ⟨op,num,txt,slot,l⟩:=e;simp only [szE] at he;show NRes (ap0 k (aga k m) (.mk n d z) (.mk op num txt slot l) a) _ _ _ _;unfold ap0;simp only [szE];rw [aou k n d z a hn];simp only [Option.bind_some];have hj : ∀ q:Bool,ahy k (aga k m) op num txt l a ((n + 1:Nat):Int) (imax d a) z q=cond q (some (.mk ((n + 1:Nat):Int) (imax d a) z,false)) (cond (ahP op num txt l.length) (adt k (aga k m) l a ((n + 1:Nat):Int) (imax d a) z (l.length:Int) true) (some (.mk ((n + 1:Nat):Int) (imax d a) z,false))):=by
    intro q; cases q
    ·exact ard _ _ _ _ _ _ _ _ _ _
    ·rfl
   simp only [hj];by_cases h1:n + 1≤600∧a≤16
   ·obtain ⟨h1,h2⟩:=h1;simp only [h1,h2,decide_true,Bool.and_self,Bool.not_true,cond_false];by_cases h3:(z || slot == 0)=true
    ·have h3' : (cond (slot != 0) (!z) false)=false:=by cases z <;> simp_all
     have h4 : ∀ (x y:Option (aag × Bool)),cond (slot != 0) (cond (!z) x y) y=y:=by
      intro x y; cases z <;> simp_all
     rw [h4];by_cases h5:ahP op num txt l.length=true
     ·simp only [h5,cond_true];unfold adt;simp only [beq_self_eq_true,cond_true];rw [aby (n:=a + 1) (by omega) (by omega)];obtain ⟨c,hc,hd⟩:=ihl l (by omega) (n + 1) (imax d a) (a + 1) h1 (by omega);rw [hc];refine ⟨c,?_,?_⟩
      ·obtain ⟨c0,c1,c2⟩:=c;have:n + 1 + szEs l=n + (szEs l + 1):=by omega
       simp [ai8,gE,h2,h3,h5,this]
      ·intro hg;have e1:n + (szEs l + 1)=n + 1 + szEs l:=by omega
       rw [e1];refine hd ?_;rw [e1] at hg;simp [gE,h2,h3,h5] at hg;simp [hg]
     ·have h5' : ahP op num txt l.length=false:=by simpa using h5
      simp only [h5',cond_false];exact .no rfl (by simp [gE,h5'])
    ·have h3' : (z || slot == 0)=false:=by simpa using h3
     have h4 : ∀ (x y:Option (aag × Bool)),cond (slot != 0) (cond (!z) x y) y=x:=by
      intro x y;simp only [Bool.or_eq_false_iff,beq_eq_false_iff_ne] at h3';have e:(slot != 0)=true:=bne_iff_ne.mpr h3'.2;rw [e,h3'.1]; rfl
     rw [h4];exact .no rfl (by simp [gE,h3'])
   ·have h1' : (decide (n + 1≤600) && decide (a≤16))=false:=by
     simp only [Bool.and_eq_false_iff,decide_eq_false_iff_not]; omega
    simp only [h1',Bool.not_false,cond_true];refine .no rfl ?_;simp only [gE,Bool.and_eq_false_iff,decide_eq_false_iff_not];omega
  ·intro l hl n d a hn ha;show NRes (ahF k (aga k m) a l 0 n d z) _ _ _ _;have loop : ∀ (l:List aah) (i:Nat) (n:Nat) (d:Int),2 * szEs l≤m→n≤600→NRes (ahF k (aga k m) a l i n d z) (gEs z l a) n (szEs l) z:=by
    intro l;induction l with
    | nil=>intro i n d _ hn; exact .yes rfl (by simp [gEs,szEs,hn])
    | cons e l ih =>
     intro i n d hm hn;obtain ⟨e0,e1,e2,e3,e4⟩:=e;unfold ahF;simp only [szEs] at hm;obtain ⟨c,hc,hd⟩:=ihe (.mk e0 e1 e2 e3 e4) (by omega) n d a hn ha;rw [hc];by_cases hg:(gE z (.mk e0 e1 e2 e3 e4) a && decide (n + szE (.mk e0 e1 e2 e3 e4)≤600))=true
     ·obtain ⟨d',rfl⟩:=hd hg;have hg':=hg;simp only [Bool.and_eq_true,decide_eq_true_eq] at hg';simp only [hg,Option.bind_some,Bool.not_true,cond_false];obtain ⟨c2,hc2,hd2⟩:=ih (i + 1) _ d' (by omega) hg'.2;have e1:n + (szE (aah.mk e0 e1 e2 e3 e4) + szEs l)=n + szE (aah.mk e0 e1 e2 e3 e4) + szEs l:=by omega
      refine ⟨c2,?_,?_⟩
      ·rw [hc2]; simp only [gEs,szEs,hg'.1,Bool.true_and,e1]
      ·simp only [gEs,szEs,hg'.1,Bool.true_and,e1]; exact hd2
     ·have hg' : (gE z (.mk e0 e1 e2 e3 e4) a && decide (n + szE (.mk e0 e1 e2 e3 e4)≤600))=false:=by simpa using hg
      obtain ⟨c0,c1,c2⟩:=c;simp only [hg',Option.bind_some,Bool.not_false,cond_true];refine .no rfl ?_;simp only [Bool.and_eq_false_iff,decide_eq_false_iff_not,gEs,szEs] at hg' ⊢;rcases hg' with h | h
      ·exact .inl (.inl h)
      ·exact .inr (decide_eq_false (fun h'=>h (by omega)))
   exact loop l 0 n d (by omega) hn
theorem ae6 (k:Nat) (n d:Int) (q b:Bool):f38 k (.mk n d q) b=some (.mk n d (q || !b)):=by
 unfold f38 asY; cases b <;> cases q <;> rfl
theorem aoO (k:Nat) (n:Nat) (d:Int) (q:Bool) (a:Nat) (h:n≤600) :
  f39 k (.mk n d q) a=some (.mk ((n + 1:Nat):Int) (imax d a) (q || !(decide (n + 1≤600) && decide (a≤16)))):=by
 unfold f39 asM amo;simp only;rw [aby (n:=n + 1) (by omega) (by omega)];have e1:decide (((n + 1:Nat):Int) > 600)=!decide (n + 1≤600):=by rw [← decide_not,decide_eq_decide]; omega
 have e2:decide ((a:Int) > 16)=!decide (a≤16):=by rw [← decide_not,decide_eq_decide]; omega
 rw [e1,e2];cases decide (n + 1≤600) <;> cases decide (a≤16) <;> cases q <;> rfl
theorem bfun {α:Type} (Q:Bool→α) : ∃ A B,Q=fun b=>if b=true then A else B :=
 ⟨Q true,Q false,funext fun b=>by cases b <;> rfl⟩
theorem arc (k:Nat) (F:amx) (op num:Int) (txt:ByteArray) (l:List aah) (a:Int) (x:Bool) (n d:Int) (q:Bool) :
  ajB k F op num txt l a x n d q=afQ k F a x l 0 n d (q || !ahP op num txt l.length):=by
 unfold ajB amL ac0 ahP;have h01:(decide (num ≥ 0) && decide (num≤1))=(num == 0 || num == 1):=by
  rw [Bool.eq_iff_iff]; simp only [Bool.and_eq_true,Bool.or_eq_true,decide_eq_true_eq,beq_iff_eq]; omega
 rw [h01];simp only [ae6,awg,alN,Option.bind_some,Bool.cond_eq_ite];generalize afQ k F a x l 0 n d=Q;obtain ⟨A,B,rfl⟩:=bfun Q;grind (splits:=40)
def RRes (r:Option aar) (g:Bool) (n sz:Nat) (q:Bool):Prop :=
 ∃ x d q',r=some (.mk x d q')∧q'=(q || !(g && decide (n + sz≤600)))∧(q'=false→x=((n + sz:Nat):Int))
theorem RRes.wrong {r:Option aar} {g:Bool} {n sz:Nat} {x d:Int} (h:r=some (.mk x d true)):RRes r g n sz true :=
 ⟨x,d,true,h,rfl,fun h=>by cases h⟩
theorem RRes.bad {r:Option aar} {g:Bool} {n sz:Nat} {q:Bool} {x d:Int} (h:r=some (.mk x d true)) (hg:(g && decide (n + sz≤600))=false):RRes r g n sz q :=
 ⟨x,d,true,h,by rw [hg]; cases q <;> rfl,fun h=>by cases h⟩
theorem ay5 (g1 g2:Bool) (n s1 s2:Nat):(!(g1 && decide (n + s1≤600)) || !(g2 && decide (n + s1 + s2≤600)))=!(g1 && g2 && decide (n + (s1 + s2)≤600)):=by
 rw [← Nat.add_assoc];by_cases hh:n + s1 + s2≤600
 ·have:n + s1≤600:=by omega
  simp only [hh,this,decide_true]; cases g1 <;> cases g2 <;> rfl
 ·simp only [hh,decide_false]; cases g1 <;> cases g2 <;> simp
theorem RRes.bind {r:Option aar} {f:aar→Option aar} {g1 g2:Bool} {n s1 s2:Nat} {q:Bool} (h1:RRes r g1 n s1 q)
  (h2 : ∀ x d q',(q'=false→x=((n + s1:Nat):Int)∧n + s1≤600)→RRes (f (.mk x d q')) g2 (n + s1) s2 q'):RRes (r.bind f) (g1 && g2) n (s1 + s2) q:=by
 obtain ⟨x,d,q',rfl,hq,hx⟩:=h1;obtain ⟨x2,d2,q2,h4,h5,h6⟩:=h2 x d q' (fun h=>⟨hx h,by rw [h] at hq; cases q <;> simp at hq; exact hq.2⟩);refine ⟨x2,d2,q2,h4,?_,?_⟩
 ·rw [h5,hq,Bool.or_assoc,ay5]
 ·rw [← Nat.add_assoc]; exact h6
theorem RRes.done {n:Nat} {q:Bool} {x d:Int} (hx:q=false→x=(n:Int)∧n≤600):RRes (some (.mk x d q)) true n 0 q :=
 ⟨x,d,q,rfl,by cases q <;> simp; exact (hx rfl).2,fun h=>(hx h).1⟩
theorem RRes.cast {r:Option aar} {g g' : Bool} {n s s' : Nat} {q:Bool} (h:RRes r g n s q) (hg:g=g') (hs:s=s'):RRes r g' n s' q:=by
 subst hg; subst hs; exact h
theorem RRes.check {r:Option aar} {g b:Bool} {n s:Nat} {q:Bool} (h:RRes r g n s (q || !b)):RRes r (b && g) n s q:=by
 obtain ⟨x,d,q',h1,h2,h3⟩:=h;exact ⟨x,d,q',h1,by rw [h2]; cases q <;> cases b <;> rfl,h3⟩
theorem rE (k:Nat) : ∀ m,
  ∀ e,szE e≤m→∀ (n:Nat) (d:Int) (a:Nat),n≤600→a≤17→RRes ((amz k m).f88 (.mk n d false) e a false) (gE false e a) n (szE e) false
 | 0=>fun e he=>by have:=agb e; omega
 | m + 1=>by
  have ihe:=rE k m;intro e he n d a hn ha;have loop:a≤16→∀ (l:List aah) (i:Nat) (x:Int) (n:Nat) (d:Int) (q:Bool),szEs l≤m→(q=false→x=(n:Int)∧n≤600)→RRes (afQ k (amz k m) a false l i x d q) (gEs false l (a + 1)) n (szEs l) q:=by
   intro ha l;induction l with
   | nil=>intro i x n d q _ hx; exact .done hx
   | cons e l ih =>
    intro i x n d q hm hx;obtain ⟨e0,e1,e2,e3,e4⟩:=e;unfold afQ;cases q with
    | true=>exact .wrong rfl
    | false =>
     obtain ⟨rfl,hn⟩:=hx rfl;simp only [szEs] at hm;simp only [Bool.not_false,cond_true];rw [aby (n:=a + 1) (by omega) (by omega)];exact (ihe (.mk e0 e1 e2 e3 e4) (by omega) n d (a + 1) hn (by omega)).bind fun x1 d1 q1 h1=>ih (i + 1) x1 _ d1 q1 (by omega) h1
  obtain ⟨op,num,txt,slot,l⟩:=e;simp only [szE] at he;show RRes (aqO k (amz k m) (.mk n d false) (.mk op num txt slot l) a false) _ _ _ _;unfold aqO;simp only [szE,cond_false,ae6,arc,Option.bind_some];rw [aoO k n d false a hn];simp only [Option.bind_some,Bool.false_or];by_cases ha' : a≤16
  ·obtain ⟨x2,d2,q2,h4,h5,h6⟩:=loop ha' l 0 ((n + 1:Nat):Int) (n + 1) (imax d a) (!(decide (n + 1≤600) && decide (a≤16)) || !(slot == 0) || !ahP op num txt l.length) (by omega) (fun hq=>⟨rfl,by simp at hq; omega⟩);have e1:n + (szEs l + 1)=n + 1 + szEs l:=by omega
   refine ⟨x2,d2,q2,h4,?_,?_⟩
   ·rw [h5,e1];simp only [gE,ha',decide_true,Bool.false_or,Bool.true_and,Bool.and_true];by_cases hh:n + 1 + szEs l≤600
    ·have:n + 1≤600:=by omega
     simp only [hh,this,decide_true];cases (slot == 0) <;> cases ahP op num txt l.length <;> simp
    ·simp [hh]
   ·rw [e1]; exact h6
  ·have loopw : ∀ (l:List aah) (i:Nat) (x d:Int),∃ x' d',afQ k (amz k m) a false l i x d true=some (.mk x' d' true):=by
    intro l i x d;cases l with
    | nil=>exact ⟨_,_,rfl⟩
    | cons e l=>obtain ⟨_,_,_,_,_⟩:=e; exact ⟨_,_,rfl⟩
   have:(!(decide (n + 1≤600) && decide (a≤16)) || !(slot == 0) || !ahP op num txt l.length)=true:=by simp [ha']
   rw [this];obtain ⟨x',d',h⟩:=loopw l 0 ((n + 1:Nat):Int) (imax d a);exact .bad h (by simp [gE,ha'])
mutual
def stE:aah→aah | .mk op num txt _ l=>.mk op num txt 0 (stEs l)
def stEs:List aah→List aah | []=>[] | e :: l=>stE e :: stEs l
end
theorem aeC : ∀ l,(stEs l).length=l.length
 | []=>rfl
 | e :: l=>by simp [stEs,aeC l]
mutual
theorem aw5 : ∀ e,szE (stE e)=szE e
 | .mk _ _ _ _ l=>by simp only [stE,szE,akh l]
theorem akh : ∀ l,szEs (stEs l)=szEs l
 | []=>rfl
 | e :: l=>by simp only [stEs,szEs,aw5 e,akh l]
end
mutual
theorem azb : ∀ e a,gE false (stE e) a=gE true e a
 | .mk _ _ _ _ l,a=>by simp [stE,gE,aoz l,aeC]
theorem aoz : ∀ l a,gEs false (stEs l) a=gEs true l a
 | [],_=>rfl
 | e :: l,a=>by simp only [stEs,gEs,azb e,aoz l]
end
def shp (op:Int):Option (Int × Bool × Int × Int × Bool × Int) :=
 match op with
 | 1=>some (1,false,1,1,false,0) | 2=>some (1,false,1,1,false,0) | 3=>some (2,true,0,600,false,0) | 4=>some (2,true,0,600,false,0)
 | 5=>some (2,false,1,1,false,0) | 6=>some (2,false,1,1,false,1) | 7=>some (1,false,1,1,false,2) | 8=>some (1,false,1,1,false,0)
 | 9=>some (1,false,0,0,false,0) | 10=>some (0,false,2,2,false,0) | 11=>some (0,false,1,1,false,0) | 12=>some (0,false,1,1,false,0)
 | 13=>some (0,false,0,0,false,0) | 14=>some (0,false,1,1,false,0) | 15=>some (0,false,1,1,false,0) | 16=>some (0,false,1,1,false,0)
 | 17=>some (0,false,0,1,false,0) | 18=>some (0,false,0,0,false,0) | 19=>some (0,false,0,0,false,0) | 20=>some (0,false,1,1,true,1)
 | 21=>some (0,false,1,1,true,0) | 22=>some (0,false,0,1,true,1) | 23=>some (0,false,0,0,true,0) | 24=>some (2,false,0,0,true,3)
 | 25=>some (1,false,1,1,true,0) | 26=>some (0,false,1,1,true,0) | 27=>some (0,false,0,0,false,0) | 28=>some (1,true,0,600,true,66)
 | 29=>some (0,false,1,1,false,0) | _=>none
theorem aoD {P:Int→Prop} (op:Int) (h : ∀ n:Nat,n < 29→P ((n + 1:Nat):Int)) (h0:op < 1∨op > 29→P op):P op:=by
 by_cases h1:op < 1∨op > 29
 ·exact h0 h1
 ·obtain ⟨n,rfl⟩ : ∃ n:Nat,op=((n + 1:Nat):Int):=⟨(op - 1).toNat,by omega⟩;exact h n (by omega)
theorem agm {op:Int} (h:op < 1∨op > 29):shp op=none:=by
 unfold shp;split <;> first | rfl | (exfalso; omega)
def toR:Option (Int × Bool × Int × Int × Bool × Int)→abD × Bool
 | none=>(.mk 0 0 0 false false 0,false)
 | some (nm,fr,lo,hi,bd,fl)=>(.mk lo hi nm fr bd fl,true)
theorem axD (k:Nat) (op:Int):f87 k op=some (toR (shp op)):=by
 refine aoD (P:=fun op=>f87 k op=some (toR (shp op))) op ?_ ?_
 ·intro n hn
  match n,hn with
  | 0,_=>rfl | 1,_=>rfl | 2,_=>rfl | 3,_=>rfl | 4,_=>rfl | 5,_=>rfl | 6,_=>rfl | 7,_=>rfl | 8,_=>rfl | 9,_=>rfl
  | 10,_=>rfl | 11,_=>rfl | 12,_=>rfl | 13,_=>rfl | 14,_=>rfl | 15,_=>rfl | 16,_=>rfl | 17,_=>rfl | 18,_=>rfl | 19,_=>rfl
  | 20,_=>rfl | 21,_=>rfl | 22,_=>rfl | 23,_=>rfl | 24,_=>rfl | 25,_=>rfl | 26,_=>rfl | 27,_=>rfl | 28,_=>rfl
  | n + 29,h=>omega
 ·intro h;rw [agm h];have e : ∀ c:Int,1≤c→c≤29→(op == c)=false:=fun c h1 h2=>by rw [beq_eq_false_iff_ne]; omega
  unfold f87 atj ajp al3 agt ai2 amK;simp [e,toR]
def toN:Option (Int × Bool × Int × Int × Bool × Int)→Option aaH
 | none=>none
 | some (nm,fr,lo,hi,bd,fl)=>some (.mk nm fr lo (if hi=600 then 601 else hi) bd)
theorem amQ (op:Int) : ∀ L:List (Int × aaH),(∀ x ∈ L,qI op x.1=false)→mget qI op L=none
 | [],_=>rfl
 | (a,v) :: L,h=>by
  unfold mget;rw [if_neg (by rw [h (a,v) (by simp)]; simp)];exact amQ op L fun x hx=>h x (by simp [hx])
theorem auL (k:Nat) (op:Int):(f148 k).bind (fun r=>some (mget qI op r))=some (toN (shp op)):=by
 refine aoD (P:=fun op=>(f148 k).bind (fun r=>some (mget qI op r))=some (toN (shp op))) op ?_ ?_
 ·intro n hn
  match n,hn with
  | 0,_=>rfl | 1,_=>rfl | 2,_=>rfl | 3,_=>rfl | 4,_=>rfl | 5,_=>rfl | 6,_=>rfl | 7,_=>rfl | 8,_=>rfl | 9,_=>rfl
  | 10,_=>rfl | 11,_=>rfl | 12,_=>rfl | 13,_=>rfl | 14,_=>rfl | 15,_=>rfl | 16,_=>rfl | 17,_=>rfl | 18,_=>rfl | 19,_=>rfl
  | 20,_=>rfl | 21,_=>rfl | 22,_=>rfl | 23,_=>rfl | 24,_=>rfl | 25,_=>rfl | 26,_=>rfl | 27,_=>rfl | 28,_=>rfl
  | n + 29,h=>omega
 ·intro h;rw [agm h];obtain ⟨L,hL,hA⟩ : ∃ L,f148 k=some L∧(L.all fun x=>decide (1≤x.1) && decide (x.1≤29))=true:=⟨_,rfl,rfl⟩;rw [hL];simp only [Option.bind_some];rw [amQ op L]
  ·rfl
  ·intro x hx;have:=List.all_eq_true.mp hA x hx;simp only [Bool.and_eq_true,decide_eq_true_eq] at this;unfold qI; rw [beq_eq_false_iff_ne]; omega
def anA (op:Int) (name:ByteArray) (flag:Int) (l8 l9:Int):Bool :=
 let b0:=(IntKind.i64.wrap (BitVec.ofInt IntKind.i64.bits flag &&& BitVec.ofInt IntKind.i64.bits 1).toNat) == 1
 let b1:=(IntKind.i64.wrap (BitVec.ofInt IntKind.i64.bits flag &&& BitVec.ofInt IntKind.i64.bits 2).toNat) == 2
 cond (op == 6) (decide (flag ≥ 0) && decide (flag≤1) && (flag == 0 || !seq name ⟨#[]⟩) && l8 == 0 && l9 == 0)
 (cond (op == 7) (decide (flag ≥ 0) && decide (flag≤2) && l8 == 0 && l9 == 0)
 (cond (op == 22) (decide (flag ≥ 0) && decide (flag≤1) && l8 == 0 && l9 == 0)
 (cond (op == 20) (decide (flag ≥ 0) && decide (flag≤1) && (flag == 1 || l8 == 0) && l9 == 0)
 (cond (op == 24) (decide (flag ≥ 1) && decide (flag≤3) && ((!seq name ⟨#[]⟩) == b0) && (b0 || l8 == 0) && (b1 || l9 == 0))
 (cond (op == 28) (decide (flag ≥ 0) && decide (flag≤66) && decide (flag.tmod 4 < 3) && l8 == 0 && l9 == 0)
  (flag == 0 && l8 == 0 && l9 == 0))))))
theorem auN (k:Nat) (op:Int) (name:ByteArray) (s2:Int) (fr:ByteArray) (s4 flag:Int) (l6:List aah) (l7 l8 l9:List aaf) (l10:List aaB) :
  f149 k (.mk op name s2 fr s4 flag l6 l7 l8 l9 l10)=some (anA op name flag l8.length l9.length):=by
 unfold f149 aoq aiC adg aeT anA;simp only [ajt,Option.bind_some,Bool.cond_eq_ite];generalize (IntKind.i64.wrap (BitVec.ofInt IntKind.i64.bits flag &&& BitVec.ofInt IntKind.i64.bits 1).toNat == 1)=b0;generalize (IntKind.i64.wrap (BitVec.ofInt IntKind.i64.bits flag &&& BitVec.ofInt IntKind.i64.bits 2).toNat == 2)=b1;generalize ((l8.length:Int) == 0)=c8;generalize ((l9.length:Int) == 0)=c9;generalize seq name ⟨#[]⟩=e;grind (splits:=20)
def ape (nm:Int) (fr:Bool) (name from_:ByteArray):Bool :=
 (seq name ⟨#[]⟩ || (!(nm == 0) && isN name)) && (!seq name ⟨#[]⟩ || !(nm == 1)) && ((!seq from_ ⟨#[]⟩) == fr) && (!fr || isN from_)
def als (op lo hi:Int) (bd:Bool) (l6 l7 l10:Int):Bool :=
 decide (l6 ≥ lo) && decide (l6≤hi) && (bd || !decide (l7 > 0)) && (cond (op == 27) (decide (l10 ≥ 1) && decide (l10≤4)) (!decide (l10 > 0)))
section
variable (k:Nat) (F:ac5) (op:Int) (name:ByteArray) (s2:Int) (from_:ByteArray) (s4 flag:Int) (l6:List aah) (l7 l8 l9:List aaf) (l10:List aaB) (a nm:Int) (fr:Bool) (lo hi:Int) (bd:Bool) (n d:Int) (z q:Bool)
theorem ao6:abU k F op l6 l7 l8 l9 l10 a lo hi bd n d z q =
  cond (!q && als op lo hi bd l6.length l7.length l10.length) (acJ k F l6 l7 l8 l9 l10 a l10 0 n d z) (some (.mk n d z,false)):=by
 unfold abU acN als;simp only [ajt,Option.bind_some,Bool.cond_eq_ite];grind (splits:=20)
theorem ajU:adH k F op name from_ l6 l7 l8 l9 l10 a nm fr lo hi bd n d z q =
  cond (!q && ape nm fr name from_ && als op lo hi bd l6.length l7.length l10.length) (acJ k F l6 l7 l8 l9 l10 a l10 0 n d z) (some (.mk n d z,false)):=by
 unfold adH ape;simp only [al9,ao6,Option.bind_some,Bool.cond_eq_ite];grind (splits:=20)
theorem aoY:af5 k F n d z op name s2 from_ s4 flag l6 l7 l8 l9 l10 a nm fr lo hi bd true =
  (f68 k (.mk n d z) a).bind fun x=>match x with
   | (.mk n1 d1 z1,ok)=>cond (ok && ((s2 == 0 && s4 == 0) || z1) && anA op name flag l8.length l9.length && ape nm fr name from_ && als op lo hi bd l6.length l7.length l10.length)
    (acJ k F l6 l7 l8 l9 l10 a l10 0 n1 d1 z1) (some (.mk n1 d1 z1,false)):=by
 unfold af5;simp only [Bool.not_true,cond_false];congr 1;funext x;obtain ⟨⟨n1,d1,z1⟩,ok⟩:=x;simp only [auN,ajU,Option.bind_some,Bool.cond_eq_ite];grind (splits:=20)
end
def apc (nm:Int) (name:ByteArray):Bool:=(nm == 0 && seq name ⟨#[]⟩) || (nm == 1 && isN name) || (nm == 2 && (seq name ⟨#[]⟩ || isN name))
def anI (fr:Bool) (from_:ByteArray):Bool:=cond fr (isN from_) (seq from_ ⟨#[]⟩)
def alJ (op:Int) (name:ByteArray) (flag:Int) (l8 l9:Int):Bool :=
 (l8 == 0 || (op == 20 && flag == 1) || (op == 24 && flag.tmod 2 == 1)) && (l9 == 0 || (op == 24 && decide (flag ≥ 2))) &&
 cond (op == 6) (flag == 0 || !seq name ⟨#[]⟩) (cond (op == 24) (decide (flag > 0) && ((flag.tmod 2 == 1) == !seq name ⟨#[]⟩)) (cond (op == 28) (decide (flag.tmod 4 < 3)) true))
def ae1 (op l10:Int):Bool:=((op == 27) == decide (l10 > 0)) && decide (l10≤4)
section
variable (k:Nat) (F:ac8) (op:Int) (name:ByteArray) (s2:Int) (from_:ByteArray) (s4 flag:Int) (l6:List aah) (l7 l8 l9:List aaf) (l10:List aaB) (a nm:Int) (fr:Bool) (lo hi:Int) (bd:Bool) (n d:Int) (z q:Bool)
theorem are:afX k F op l6 l7 l8 l9 l10 a n d q=ac6 k F l7 l8 l9 l10 a l6 0 n d (q || !ae1 op l10.length):=by
 unfold afX amX ae1;simp only [ae6,Option.bind_some,Bool.cond_eq_ite];generalize ac6 k F l7 l8 l9 l10 a l6 0 n d=Q;obtain ⟨A,B,rfl⟩:=bfun Q;grind (splits:=20)
theorem aq8:ajm k F op name flag l6 l7 l8 l9 l10 a n d q=ac6 k F l7 l8 l9 l10 a l6 0 n d (q || !(alJ op name flag l8.length l9.length && ae1 op l10.length)):=by
 unfold ajm agF ajC alJ;simp only [ae6,are,Option.bind_some,Bool.cond_eq_ite];generalize ac6 k F l7 l8 l9 l10 a l6 0 n d=Q;generalize ae1 op l10.length=c;generalize (flag.tmod 2 == 1)=b0;obtain ⟨A,B,rfl⟩:=bfun Q;grind (splits:=30)
theorem apG:ae2 k F op name from_ flag l6 l7 l8 l9 l10 a nm fr bd n d q=ac6 k F l7 l8 l9 l10 a l6 0 n d (q || !(apc nm name && anI fr from_ && (bd || (l7.length:Int) == 0) && alJ op name flag l8.length l9.length && ae1 op l10.length)):=by
 unfold ae2 adu ahH apc anI;simp only [ae6,alN,aq8,Option.bind_some,Bool.cond_eq_ite];generalize ac6 k F l7 l8 l9 l10 a l6 0 n d=Q;generalize ae1 op l10.length=c;generalize alJ op name flag l8.length l9.length=c2;generalize ((l7.length:Int) == 0)=c7;obtain ⟨A,B,rfl⟩:=bfun Q;generalize isN name=n1;generalize isN from_=n2;generalize seq name ⟨#[]⟩=e1;generalize seq from_ ⟨#[]⟩=e2;grind (splits:=30)
end
def ao5 (op:Int) (name from_:ByteArray) (flag:Int) (l6 l7 l8 l9 l10:Nat):Bool :=
 match shp op with
 | none=>false
 | some (nm,fr,lo,hi,bd,fl)=>anA op name flag l8 l9 && ape nm fr name from_ && als op lo (if hi=600 then 601 else hi) bd l6 l7 l10
def aeb (op:Int) (name from_:ByteArray) (flag:Int) (l6 l7 l8 l9 l10:Nat):Bool :=
 match shp op with
 | none=>false
 | some (nm,fr,lo,hi,bd,fl)=>decide ((l6:Int) ≥ lo) && decide ((l6:Int)≤hi) && decide (flag ≥ 0) && decide (flag≤fl) && (apc nm name && anI fr from_ && (bd || (l7:Int) == 0) && alJ op name flag l8 l9 && ae1 op l10)
theorem aog {s:ByteArray} (h:isN s=true):seq s ⟨#[]⟩=false:=by
 unfold isN at h; cases hs:seq s ⟨#[]⟩ with
 | false=>rfl
 | true=>rw [hs] at h; simp at h
theorem bits (flag:Int) (h1:1≤flag) (h2:flag≤3):(IntKind.i64.wrap (BitVec.ofInt IntKind.i64.bits flag &&& BitVec.ofInt IntKind.i64.bits 1).toNat == 1)=(flag.tmod 2 == 1) ∧
  (IntKind.i64.wrap (BitVec.ofInt IntKind.i64.bits flag &&& BitVec.ofInt IntKind.i64.bits 2).toNat == 2)=decide (flag ≥ 2):=by
 rcases (by omega:flag=1∨flag=2∨flag=3) with rfl | rfl | rfl <;> exact ⟨rfl,rfl⟩
theorem at0 (op:Int) (name from_:ByteArray) (flag:Int) (l6 l7 l8 l9 l10:Nat) (h6:l6≤600):ao5 op name from_ flag l6 l7 l8 l9 l10=aeb op name from_ flag l6 l7 l8 l9 l10:=by
 have hn:=@aog name;have hf:=@aog from_;have hb:=bits flag;unfold ao5 aeb anA ape als apc anI alJ ae1;generalize (IntKind.i64.wrap (BitVec.ofInt IntKind.i64.bits flag &&& BitVec.ofInt IntKind.i64.bits 1).toNat == 1)=b0 at hb ⊢;generalize (IntKind.i64.wrap (BitVec.ofInt IntKind.i64.bits flag &&& BitVec.ofInt IntKind.i64.bits 2).toNat == 2)=b1 at hb ⊢;generalize isN name=n1 at hn ⊢;generalize isN from_=n2 at hf ⊢;generalize seq name ⟨#[]⟩=e1 at hn ⊢;generalize seq from_ ⟨#[]⟩=e2 at hf ⊢;generalize flag.tmod 2=t2 at hb ⊢;generalize flag.tmod 4=t4;by_cases hop:op < 1∨op > 29
 ·rw [agm hop]
 rcases (by omega:op=1∨op=2∨op=3∨op=4∨op=5∨op=6∨op=7∨op=8∨op=9∨op=10∨op=11∨op=12∨op=13∨op=14∨op=15∨op=16∨op=17∨op=18∨op=19∨op=20∨op=21∨op=22∨op=23∨op=24∨op=25∨op=26∨op=27∨op=28∨op=29) with rfl | rfl | rfl | rfl | rfl | rfl | rfl | rfl | rfl | rfl | rfl | rfl | rfl | rfl | rfl | rfl | rfl | rfl | rfl | rfl | rfl | rfl | rfl | rfl | rfl | rfl | rfl | rfl | rfl <;>
  simp only [shp,Int.reduceBEq,cond_true,cond_false,Int.reduceEq,if_true,if_false] <;> grind (splits:=20)
end Go.Proofs.YtoegpkmhifmamaaGreatDoor
namespace Go.Proofs.YtoegpkmhifmamaaGreatDoor
open Go
def aji (kind:Int) (name:ByteArray) (len:Int):Bool :=
 decide (kind ≥ 1) && decide (kind≤4) && len == (cond (kind == 2) 2 (cond (kind == 4) 0 1)) && cond (kind == 1) (isN name) (seq name ⟨#[]⟩)
mutual
def gS (z:Bool):aaf→Nat→Bool
 | .mk op name s2 fr s4 flag l6 l7 l8 l9 l10,a=>decide (a≤16) && (z || (s2 == 0 && s4 == 0)) && aeb op name fr flag l6.length l7.length l8.length l9.length l10.length &&
  (gEs z l6 (a + 1) && (gSs z l7 (a + 1) && (gSs z l8 (a + 1) && (gSs z l9 (a + 1) && gCs z l10 (a + 1)))))
def gSs (z:Bool):List aaf→Nat→Bool
 | [],_=>true
 | s :: l,a=>gS z s a && gSs z l a
def gC (z:Bool):aaB→Nat→Bool
 | .mk kind name slot es b,a=>decide (a≤16) && (z || slot == 0) && aji kind name es.length && (gEs z es (a + 1) && gSs z b (a + 1))
def gCs (z:Bool):List aaB→Nat→Bool
 | [],_=>true
 | .mk kind name slot es b :: l,a=>(!(kind == 4) || l.isEmpty) && gC z (.mk kind name slot es b) a && gCs z l a
end
theorem acl : ∀ e:aaf,1≤szS e
 | .mk _ _ _ _ _ _ _ _ _ _ _=>by simp only [szS]; omega
theorem adG : ∀ e:aaB,1≤szC e
 | .mk _ _ _ _ _=>by simp only [szC]; omega
theorem NRes.bind {r:Option (aag × Bool)} {f:aag × Bool→Option (aag × Bool)} {g1 g2:Bool} {n s1 s2:Nat} {z:Bool} (h1:NRes r g1 n s1 z)
  (hf : ∀ c,∃ c',f (c,false)=some (c',false)) (h2 : ∀ d,n + s1≤600→NRes (f (.mk ((n + s1:Nat):Int) d z,true)) g2 (n + s1) s2 z):NRes (r.bind f) (g1 && g2) n (s1 + s2) z:=by
 obtain ⟨c,rfl,hc⟩:=h1;by_cases hg:(g1 && decide (n + s1≤600))=true
 ·obtain ⟨d,rfl⟩:=hc hg;rw [Bool.and_eq_true,decide_eq_true_eq] at hg;obtain ⟨h3,h4⟩:=hg;subst h3;simp only [h4,decide_true,Bool.and_self,Bool.true_and,Option.bind_some];obtain ⟨c,h5,h6⟩:=h2 d h4;rw [Nat.add_assoc] at h5 h6;exact ⟨c,h5,h6⟩
 ·have hg' : (g1 && decide (n + s1≤600))=false:=by simpa using hg
  rw [hg'];obtain ⟨c',h⟩:=hf c;refine .no h ?_;rw [Bool.and_eq_false_iff,decide_eq_false_iff_not] at hg' ⊢;rcases hg' with h | h
  ·left; rw [h]; rfl
  ·right; omega
theorem NRes.conv {r:Option (aag × Bool)} {g g' : Bool} {n s n' s' : Nat} {z:Bool} (h:NRes r g n s z) (hs:n + s=n' + s') (hg:n + s≤600→g=g'):NRes r g' n' s' z:=by
 unfold NRes at h ⊢;rw [← hs];have:(g && decide (n + s≤600))=(g' && decide (n + s≤600)):=by
  by_cases h:n + s≤600
  ·rw [hg h]
  ·simp [h]
 rwa [← this]
theorem aqe (k:Nat) (z:Bool) (l:List aah) (hk:2 * szEs l + 1≤k) (n:Nat) (d:Int) (a:Nat) (hn:n≤600) (ha:a≤17):NRes (f72 k (.mk n d z) l a) (gEs z l a) n (szEs l) z :=
 (nE k z k).2 l hk n d a hn ha
theorem azn (kind:Int):mget qI kind (mput qI 4 0 (mput qI 3 1 (mput qI 2 2 (mput qI 1 1 ([]:List (Int × Int)))))) =
  cond (decide (kind ≥ 1) && decide (kind≤4)) (some (cond (kind == 2) 2 (cond (kind == 4) 0 1))) none:=by
 have e:mput qI 4 0 (mput qI 3 1 (mput qI 2 2 (mput qI 1 1 ([]:List (Int × Int)))))=[(1,1),(2,2),(3,1),(4,0)]:=rfl;rw [e];unfold mget mget mget mget mget qI;simp only [Bool.cond_eq_ite];grind
theorem aqH (k:Nat) (F:ac5) (kind:Int) (name:ByteArray) (slot:Int) (es:List aah) (b:List aaf) (a n d:Int) (z:Bool) :
  ajP k F (.mk n d z) (.mk kind name slot es b) a=cond (decide (kind ≥ 1) && decide (kind≤4)) ((f68 k (.mk n d z) a).bind fun x=>match x with
   | (.mk n1 d1 z1,ok)=>cond (ok && (z1 || slot == 0) && aji kind name es.length) (acT k F es b a n1 d1 z1 false) (some (.mk n1 d1 z1,false))) (some (.mk n d z,false)):=by
 unfold ajP;simp only [azn];by_cases hk:(decide (kind ≥ 1) && decide (kind≤4))=true
 ·simp only [hk,cond_true,afN];congr 1;funext x;obtain ⟨⟨n1,d1,z1⟩,ok⟩:=x;unfold acT;have hn:=@aog name;simp only [al9,Option.bind_some,aji,hk,Bool.true_and];generalize (cond (kind == 2) (2:Int) (cond (kind == 4) 0 1))=e;generalize isN name=n1 at hn ⊢;generalize seq name ⟨#[]⟩=e1 at hn ⊢;simp only [Bool.cond_eq_ite];grind (splits:=20)
 ·have hk' : (decide (kind ≥ 1) && decide (kind≤4))=false:=by simpa using hk
  simp only [hk',cond_false,afN]
theorem aqA {op lo hi:Int} {bd:Bool} {l6 l7:Int} {l10:Nat} (h:als op lo hi bd l6 l7 l10=true):l10≤4:=by
 unfold als at h;cases hop:(op == 27) <;> simp only [hop,cond_true,cond_false,Bool.and_eq_true,Bool.not_eq_true',decide_eq_true_eq,decide_eq_false_iff_not] at h <;> omega
theorem nSt (k:Nat) (z:Bool) : ∀ m,m≤k →
  (∀ s,2 * szS s≤m→∀ (n:Nat) (d:Int) (a:Nat),n≤600→a≤17→NRes ((acn k m).f136 (.mk n d z) s a) (gS z s a) n (szS s) z) ∧
  (∀ l,2 * szSs l + 1≤m→∀ (n:Nat) (d:Int) (a:Nat),n≤600→a≤17→NRes ((acn k m).f119 (.mk n d z) l a) (gSs z l a) n (szSs l) z) ∧
  (∀ c,2 * szC c≤m→∀ (n:Nat) (d:Int) (a:Nat),n≤600→a≤17→NRes ((acn k m).f150 (.mk n d z) c a) (gC z c a) n (szC c) z)
 | 0,_=>⟨fun e he=>by have:=acl e; omega,fun l hl=>by omega,fun c hc=>by have:=adG c; omega⟩
 | m + 1,hmk=>by
  obtain ⟨ihs,ihl,ihc⟩:=nSt k z m (by omega);refine ⟨?_,?_,?_⟩
  ·intro s hs n d a hn ha;obtain ⟨op,name,s2,fr,s4,flag,l6,l7,l8,l9,l10⟩:=s;simp only [szS] at hs;show NRes (amC k (acn k m) (.mk n d z) (.mk op name s2 fr s4 flag l6 l7 l8 l9 l10) a) _ _ _ _;have tail : ∀ (n:Nat) (d:Int),a≤16→n≤600→NRes (acJ k (acn k m) l6 l7 l8 l9 l10 a [] l10.length n d z) (gEs z l6 (a + 1) && (gSs z l7 (a + 1) && (gSs z l8 (a + 1) && gSs z l9 (a + 1)))) n (szEs l6 + (szSs l7 + (szSs l8 + szSs l9))) z:=by
    intro n d ha hn;unfold acJ;rw [aby (n:=a + 1) (by omega) (by omega)];refine (aqe k z l6 (by omega) n d (a + 1) hn (by omega)).bind (fun c=>by obtain ⟨_,_,_⟩:=c; exact ⟨_,rfl⟩) fun d hn=>?_
    refine (ihl l7 (by omega) _ d (a + 1) hn (by omega)).bind (fun c=>by obtain ⟨_,_,_⟩:=c; exact ⟨_,rfl⟩) fun d hn=>?_
    refine (ihl l8 (by omega) _ d (a + 1) hn (by omega)).bind (fun c=>by obtain ⟨_,_,_⟩:=c; exact ⟨_,rfl⟩) fun d hn=>?_
    refine ((ihl l9 (by omega) _ d (a + 1) hn (by omega)).bind (g2:=true) (s2:=0) (fun c=>by obtain ⟨_,_,_⟩:=c; exact ⟨_,rfl⟩) fun d hn=>?_).conv (by omega) (fun _=>by simp);exact .yes rfl (by simp [hn])
   have loop:a≤16→l10.length≤4→∀ (rest:List aaB) (i:Nat) (n:Nat) (d:Int),2 * szCs rest≤m→i + rest.length=l10.length→n≤600 →
     NRes (acJ k (acn k m) l6 l7 l8 l9 l10 a rest i n d z) (gCs z rest (a + 1) && (gEs z l6 (a + 1) && (gSs z l7 (a + 1) && (gSs z l8 (a + 1) && gSs z l9 (a + 1))))) n (szCs rest + (szEs l6 + (szSs l7 + (szSs l8 + szSs l9)))) z:=by
    intro ha h10 rest;induction rest with
    | nil =>
     intro i n d _ hi hn;obtain rfl:i=l10.length:=by simpa using hi
     exact (tail n d ha hn).conv (by simp [szCs]) (fun _=>by simp [gCs])
    | cons c rest ih =>
     intro i n d hm hi hn;obtain ⟨e0,e1,e2,e3,e4⟩:=c;simp only [szCs,List.length_cons] at hm hi;unfold acJ;rw [aby (x:=(a:Int) + 1) (n:=a + 1) (by omega) (by omega),aby (x:=(l10.length:Int) - 1) (n:=l10.length - 1) (by omega) (by omega)];have step:NRes (((acn k m).f150 (.mk n d z) (.mk e0 e1 e2 e3 e4) ((a + 1:Nat):Int)).bind fun q_=>match q_ with | (.mk z1467_0 z1467_1 z1467_2,r1468)=>(agS k (acn k m) i z1467_0 z1467_1 z1467_2 (!r1468) (acJ k (acn k m) l6 l7 l8 l9 l10 a rest)))
       (gC z (.mk e0 e1 e2 e3 e4) (a + 1) && (gCs z rest (a + 1) && (gEs z l6 (a + 1) && (gSs z l7 (a + 1) && (gSs z l8 (a + 1) && gSs z l9 (a + 1)))))) n (szC (.mk e0 e1 e2 e3 e4) + (szCs rest + (szEs l6 + (szSs l7 + (szSs l8 + szSs l9))))) z :=
      (ihc (.mk e0 e1 e2 e3 e4) (by omega) n d (a + 1) hn (by omega)).bind (fun c=>by obtain ⟨_,_,_⟩:=c; exact ⟨_,rfl⟩) fun d hn=>ih (i + 1) _ d (by omega) (by omega) hn
     by_cases h4:(e0 == 4)=true
     ·simp only [h4,cond_true];by_cases hl:i < l10.length - 1
      ·have:((i:Int) < ((l10.length - 1:Nat):Int)):=by omega
       simp only [this,decide_true,cond_true];refine .no rfl ?_;have:rest.isEmpty=false:=by cases rest with
        | nil=>simp at hi; omega
        | cons=>rfl
       simp [gCs,h4,this]
      ·have : ¬ ((i:Int) < ((l10.length - 1:Nat):Int)):=by omega
       simp only [this,decide_false,cond_false];have:rest.isEmpty=true:=by cases rest with
        | nil=>rfl
        | cons=>simp at hi; omega
       exact step.conv (by simp only [szCs]; omega) (fun _=>by simp [gCs,this,Bool.and_assoc])
     ·have h4' : (e0 == 4)=false:=by simpa using h4
      simp only [h4',cond_false];exact step.conv (by simp only [szCs]; omega) (fun _=>by simp [gCs,h4',Bool.and_assoc])
   unfold amC;obtain ⟨L,hL⟩ : ∃ L,f148 k=some L:=⟨_,rfl⟩;have hg:=auL k op;rw [hL] at hg ⊢;simp only [Option.bind_some,Option.some.injEq] at hg ⊢;rw [hg];cases hsh:shp op with
   | none =>
    have:aeb op name fr flag l6.length l7.length l8.length l9.length l10.length=false:=by unfold aeb; rw [hsh]
    refine .no (c:=.mk n d z) ?_ (by simp [gS,this]);simp only [toN,afN];unfold af5;simp only [Bool.not_false,cond_true,ajU];rfl
   | some t =>
    obtain ⟨nm,frm,lo,hi,bd,fl⟩:=t;simp only [toN,afN,aoY,aou k n d z a hn,Option.bind_some];have hN:ao5 op name fr flag l6.length l7.length l8.length l9.length l10.length=(anA op name flag l8.length l9.length && ape nm frm name fr && als op lo (if hi=600 then 601 else hi) bd l6.length l7.length l10.length):=by unfold ao5; rw [hsh]
    rw [Bool.and_assoc,Bool.and_assoc,← Bool.and_assoc (anA _ _ _ _ _),← hN];have hl6:=aoc l6;by_cases h1:n + 1≤600∧a≤16
    ·obtain ⟨h1,h2⟩:=h1;by_cases h3:((s2 == 0 && s4 == 0) || z)=true
     ·by_cases h4:ao5 op name fr flag l6.length l7.length l8.length l9.length l10.length=true
      ·have h10:l10.length≤4:=by
        rw [hN] at h4;rw [Bool.and_eq_true] at h4;exact aqA h4.2
       simp only [h1,h2,h3,h4,decide_true,Bool.and_self,cond_true];refine (loop h2 h10 l10 0 (n + 1) (imax d a) (by omega) (by omega) h1).conv (by simp only [szS]; omega) (fun hh=>?_);have h5:aeb op name fr flag l6.length l7.length l8.length l9.length l10.length=true:=by rw [← at0 _ _ _ _ _ _ _ _ _ (by omega)]; exact h4
       simp only [gS,h2,decide_true,h5];rw [Bool.or_comm] at h3;simp only [h3,Bool.and_self,Bool.true_and];cases gCs z l10 (a + 1) <;> cases gEs z l6 (a + 1) <;> cases gSs z l7 (a + 1) <;> cases gSs z l8 (a + 1) <;> cases gSs z l9 (a + 1) <;> rfl
      ·have h4' : ao5 op name fr flag l6.length l7.length l8.length l9.length l10.length=false:=by simpa using h4
       simp only [h4',Bool.and_false,cond_false];refine .no rfl ?_;by_cases hh:n + szS (.mk op name s2 fr s4 flag l6 l7 l8 l9 l10)≤600
       ·have h5:aeb op name fr flag l6.length l7.length l8.length l9.length l10.length=false:=by
         rw [← at0 _ _ _ _ _ _ _ _ _ (by simp only [szS] at hh; omega)]; exact h4'
        simp [gS,h5]
       ·simp [hh]
     ·have h3' : ((s2 == 0 && s4 == 0) || z)=false:=by simpa using h3
      simp only [h3',Bool.false_and,Bool.and_false,cond_false];refine .no rfl ?_;rw [Bool.or_comm] at h3';simp only [gS,h3',Bool.false_and,Bool.and_false]
    ·have h1' : (decide (n + 1≤600) && decide (a≤16))=false:=by
      simp only [Bool.and_eq_false_iff,decide_eq_false_iff_not]; omega
     simp only [h1',Bool.false_and,cond_false];refine .no rfl ?_;rw [Bool.and_eq_false_iff,decide_eq_false_iff_not];by_cases h2:a≤16
     ·right; simp only [szS]; omega
     ·left; simp [gS,h2]
  ·intro l hl n d a hn ha;show NRes (afo k (acn k m) a l 0 n d z) _ _ _ _;have loop : ∀ (l:List aaf) (i:Nat) (n:Nat) (d:Int),2 * szSs l≤m→n≤600→NRes (afo k (acn k m) a l i n d z) (gSs z l a) n (szSs l) z:=by
    intro l;induction l with
    | nil=>intro i n d _ hn; exact .yes rfl (by simp [gSs,szSs,hn])
    | cons e l ih =>
     intro i n d hm hn;obtain ⟨e0,e1,e2,e3,e4,e5,e6,e7,e8,e9,e10⟩:=e;unfold afo;simp only [szSs] at hm;exact (ihs (.mk e0 e1 e2 e3 e4 e5 e6 e7 e8 e9 e10) (by omega) n d a hn ha).bind (fun c=>by obtain ⟨_,_,_⟩:=c; exact ⟨_,rfl⟩) fun d hn=>ih (i + 1) _ d (by omega) hn
   exact loop l 0 n d (by omega) hn
  ·intro c hc n d a hn ha;obtain ⟨kind,name,slot,es,b⟩:=c;simp only [szC] at hc;show NRes (ajP k (acn k m) (.mk n d z) (.mk kind name slot es b) a) _ _ _ _;rw [aqH];by_cases hk:(decide (kind ≥ 1) && decide (kind≤4))=true
   ·simp only [hk,cond_true];rw [aou k n d z a hn];simp only [Option.bind_some];by_cases h1:n + 1≤600∧a≤16
    ·obtain ⟨h1,h2⟩:=h1;by_cases h3:((z || slot == 0) && aji kind name es.length)=true
     ·rw [Bool.and_assoc,h3];simp only [h1,h2,decide_true,Bool.and_self,cond_true];unfold acT;simp only [cond_false];rw [aby (x:=(a:Int) + 1) (n:=a + 1) (by omega) (by omega)];refine NRes.conv (g:=gEs z es (a + 1) && (gSs z b (a + 1) && true)) (n:=n + 1) (s:=szEs es + (szSs b + 0)) ?_ (by simp only [szC]; omega) (fun _=>?_)
      ·refine (aqe k z es (by omega) (n + 1) _ (a + 1) h1 (by omega)).bind (fun c=>by obtain ⟨_,_,_⟩:=c; exact ⟨_,rfl⟩) fun d hn=>?_
       refine (ihl b (by omega) _ d (a + 1) hn (by omega)).bind (fun c=>by obtain ⟨_,_,_⟩:=c; exact ⟨_,rfl⟩) fun d hn=>?_
       exact .yes rfl (by simp [hn])
      ·simp only [gC,h2,decide_true,Bool.true_and,Bool.and_true,h3]
     ·have h3' : ((z || slot == 0) && aji kind name es.length)=false:=by simpa using h3
      rw [Bool.and_assoc,h3',Bool.and_false];refine .no rfl ?_;rw [gC,Bool.and_assoc (decide (a≤16)),h3'];simp
    ·have h1' : (decide (n + 1≤600) && decide (a≤16))=false:=by
      simp only [Bool.and_eq_false_iff,decide_eq_false_iff_not]; omega
     simp only [h1',Bool.false_and,cond_false];refine .no rfl ?_;rw [Bool.and_eq_false_iff,decide_eq_false_iff_not];by_cases h2:a≤16
     ·right; simp only [szC]; omega
     ·left; simp [gC,h2]
   ·have hk' : (decide (kind ≥ 1) && decide (kind≤4))=false:=by simpa using hk
    simp only [hk',cond_false];exact .no rfl (by simp only [gC,aji,hk',Bool.false_and,Bool.and_false])
section
variable (k:Nat) (F:ac8) (op:Int) (name:ByteArray) (s2:Int) (from_:ByteArray) (s4 flag:Int) (l6:List aah) (l7 l8 l9:List aaf) (l10:List aaB) (a nm:Int) (fr:Bool) (lo hi:Int) (bd:Bool) (n d:Int) (z q:Bool)
theorem att:ao4 k F (.mk n d false) (.mk op name s2 from_ s4 flag l6 l7 l8 l9 l10) a=(f39 k (.mk n d false) a).bind fun x=>match x with
  | .mk n1 d1 q1=>ac6 k F l7 l8 l9 l10 a l6 0 n1 d1 (q1 || !((s2 == 0 && s4 == 0) && aeb op name from_ flag l6.length l7.length l8.length l9.length l10.length)):=by
 unfold ao4;simp only [cond_false];congr 1;funext x;obtain ⟨n1,d1,q1⟩:=x;simp only [axD,Option.bind_some,ae6,apG,aeb];cases shp op with
 | none =>
  simp only [toR,cond_false,Bool.and_false,Bool.not_false,Bool.or_true,Bool.true_or]
 | some t =>
  obtain ⟨nm,frm,lo,hi,bd,fl⟩:=t;simp only [toR,cond_true];generalize (apc nm name && anI frm from_ && (bd || ((l7.length:Int) == 0)) && alJ op name flag l8.length l9.length && ae1 op l10.length)=g;generalize ac6 k F l7 l8 l9 l10 a l6 0 n1 d1=Q;obtain ⟨A,B,rfl⟩:=bfun Q;simp only [Bool.cond_eq_ite];grind (splits:=20)
theorem ata (kind:Int) (slot:Int) (es:List aah) (b:List aaf):aoV k F (.mk n d q) (.mk kind name slot es b) a=(f39 k (.mk n d q) a).bind fun x=>match x with
  | .mk n1 d1 q1=>aem k F b a es 0 n1 d1 (q1 || !((slot == 0) && aji kind name es.length)):=by
 unfold aoV;simp only;congr 1;funext x;obtain ⟨n1,d1,q1⟩:=x;unfold ajI aie ahu;simp only [Option.bind_some,ae6,alN,aji];generalize aem k F b a es 0 n1 d1=Q;obtain ⟨A,B,rfl⟩:=bfun Q;generalize (slot == 0)=b5;generalize isN name=b6;generalize seq name ⟨#[]⟩=b7;simp only [Bool.cond_eq_ite];grind (splits:=20)
end
theorem amO (k:Nat) (F:ac8) (a:Int) (l:List aaf) (i:Nat) (x d:Int):agq k F a l i x d true=some (.mk x d true):=by
 cases l with
 | nil=>rfl
 | cons e l=>obtain ⟨_,_,_,_,_,_,_,_,_,_,_⟩:=e; rfl
theorem RRes.conv {r:Option aar} {g g' : Bool} {n s n' s' : Nat} {q q' : Bool} (h:RRes r g n s q) (hs:n + s=n' + s') (hg:(q || !(g && decide (n + s≤600)))=(q' || !(g' && decide (n' + s'≤600)))):RRes r g' n' s' q':=by
 obtain ⟨x,d,q1,h1,h2,h3⟩:=h;exact ⟨x,d,q1,h1,by rw [h2,hg],by rw [← hs]; exact h3⟩
theorem RRes.node {r:Option aar} {g b:Bool} {n s a:Nat} (h:RRes r g (n + 1) s (!(decide (n + 1≤600) && decide (a≤16)) || !b)):RRes r (decide (a≤16) && b && g) n (s + 1) false:=by
 refine h.conv (by omega) ?_;have e:n + (s + 1)=n + 1 + s:=by omega
 rw [e];by_cases hh:n + 1 + s≤600
 ·have:n + 1≤600:=by omega
  simp only [hh,this,decide_true];cases decide (a≤16) <;> cases b <;> cases g <;> rfl
 ·simp [hh]
theorem apo (k:Nat) (e:aah) (hk:szE e≤k) (n:Nat) (d:Int) (a:Nat) (hn:n≤600) (ha:a≤17):RRes (f88 k (.mk n d false) e a false) (gE false e a) n (szE e) false :=
 rE k k e hk n d a hn ha
theorem aqF {n a:Nat} {b:Bool}:(!(decide (n + 1≤600) && decide (a≤16)) || !b)=false→((n + 1:Nat):Int)=((n + 1:Nat):Int)∧n + 1≤600:=by
 intro h; simp at h; exact ⟨rfl,by omega⟩
theorem aqU {op flag:Int} {name fr:ByteArray} {l6 l7 l8 l9 l10:Nat} (h:aeb op name fr flag l6 l7 l8 l9 l10=true):l10≤1000:=by
 unfold aeb at h;cases hs:shp op with
 | none=>rw [hs] at h; cases h
 | some t =>
  obtain ⟨nm,frm,lo,hi,bd,fl⟩:=t;rw [hs] at h;simp only [Bool.and_eq_true,ae1,decide_eq_true_eq] at h;have:=h.2.2.2;omega
theorem rS (k:Nat) : ∀ m,m≤k →
  (∀ s,2 * szS s≤m→∀ (n:Nat) (d:Int) (a:Nat),n≤600→a≤17→RRes ((acK k m).f61 (.mk n d false) s a) (gS false s a) n (szS s) false) ∧
  (∀ l,2 * szSs l + 1≤m→∀ (x:Int) (n:Nat) (d:Int) (q:Bool) (a:Nat),(q=false→x=(n:Int)∧n≤600)→a≤17→RRes ((acK k m).f41 (.mk x d q) l a) (gSs false l a) n (szSs l) q) ∧
  (∀ c,2 * szC c≤m→∀ (n:Nat) (d:Int) (a:Nat),n≤600→a≤17→RRes ((acK k m).f89 (.mk n d false) c a) (gC false c a) n (szC c) false)
 | 0,_=>⟨fun e he=>by have:=acl e; omega,fun l hl=>by omega,fun c hc=>by have:=adG c; omega⟩
 | m + 1,hmk=>by
  obtain ⟨ihs,ihl,ihc⟩:=rS k m (by omega);refine ⟨?_,?_,?_⟩
  ·intro s hs n d a hn ha;obtain ⟨op,name,s2,fr,s4,flag,l6,l7,l8,l9,l10⟩:=s;simp only [szS] at hs;show RRes (ao4 k (acK k m) (.mk n d false) (.mk op name s2 fr s4 flag l6 l7 l8 l9 l10) a) _ _ _ _;rw [att,aoO k n d false a hn];simp only [Option.bind_some,Bool.false_or];have cs:a≤16→l10.length≤1000→∀ (rest:List aaB) (i:Nat) (x:Int) (n:Nat) (d:Int) (q:Bool),2 * szCs rest≤m→i + rest.length=l10.length→(q=false→x=(n:Int)∧n≤600) →
     RRes (aek k (acK k m) l10 a rest i x d q) (gCs false rest (a + 1)) n (szCs rest) q:=by
    intro ha h10 rest;induction rest with
    | nil=>intro i x n d q _ _ hx; exact .done hx
    | cons c rest ih =>
     intro i x n d q hm hi hx;obtain ⟨e0,e1,e2,e3,e4⟩:=c;simp only [szCs,List.length_cons] at hm hi;unfold aek;cases q with
     | true=>exact .wrong rfl
     | false =>
      obtain ⟨rfl,hn⟩:=hx rfl;simp only [Bool.not_false,cond_true];rw [aby (x:=(a:Int) + 1) (n:=a + 1) (by omega) (by omega),aby (x:=(l10.length:Int) - 1) (n:=l10.length - 1) (by omega) (by omega)];refine ((ihc (.mk e0 e1 e2 e3 e4) (by omega) n d (a + 1) hn (by omega)).bind (g2:=(!(e0 == 4) || rest.isEmpty) && gCs false rest (a + 1)) (s2:=szCs rest) fun x1 d1 q1 h1=>?_).cast ?_ (by simp only [szCs])
      ·have hb:(cond (e0 != 4) ((f38 k (aar.mk x1 d1 q1) true).bind fun q_=>match q_ with | .mk z931_0 z931_1 z931_2=>(agf k (acK k m) i z931_0 z931_1 z931_2 (aek k (acK k m) l10 a rest))) ((f38 k (aar.mk x1 d1 q1) ((i:Int) == ((l10.length - 1:Nat):Int))).bind fun q_=>match q_ with | .mk z938_0 z938_1 z938_2=>(agf k (acK k m) i z938_0 z938_1 z938_2 (aek k (acK k m) l10 a rest)))) =
         aek k (acK k m) l10 a rest (i + 1) x1 d1 (q1 || !(!(e0 == 4) || rest.isEmpty)):=by
        have hl:((i:Int) == ((l10.length - 1:Nat):Int))=rest.isEmpty:=by
         cases rest with
         | nil=>simp at hi ⊢; omega
         | cons _ _=>simp at hi ⊢; omega
        simp only [ae6,Option.bind_some,hl,bne];unfold agf;cases (e0 == 4) <;> cases rest.isEmpty <;> simp
       rw [hb];refine (ih (i + 1) x1 _ d1 _ (by omega) (by omega) (fun h=>h1 ?_)).check;simp at h; exact h.1
      ·simp only [gCs];cases (!(e0 == 4) || rest.isEmpty) <;> cases gC false (.mk e0 e1 e2 e3 e4) (a + 1) <;> rfl
   have fw : ∀ (x d:Int) (l:List aaf) (a:Int),(acK k m).f41 (.mk x d true) l a=some (.mk x d true):=by
    intro x d l a;cases m with
    | zero=>omega
    | succ m=>exact amO _ _ _ _ _ _ _
   have w1 : ∀ (x d:Int) (rest:List aaB) (i:Nat),aek k (acK k m) l10 a rest i x d true=some (.mk x d true):=by
    intro x d rest i;cases rest with
    | nil=>rfl
    | cons c l=>obtain ⟨_,_,_,_,_⟩:=c; rfl
   have w2 : ∀ (x d:Int) (l:List aah) (i:Nat),ac6 k (acK k m) l7 l8 l9 l10 a l i x d true=some (.mk x d true):=by
    intro x d l i;cases l with
    | nil=>unfold ac6 ahq; simp only [fw,Option.bind_some,w1]
    | cons c l=>obtain ⟨_,_,_,_,_⟩:=c; unfold ac6 ahq; simp only [fw,Option.bind_some,w1,Bool.not_true,cond_false]
   have tail:a≤16→l10.length≤1000→∀ (x:Int) (n:Nat) (d:Int) (q:Bool),(q=false→x=(n:Int)∧n≤600) →
     RRes (ahq k (acK k m) l7 l8 l9 l10 a x d q) (gSs false l7 (a + 1) && (gSs false l8 (a + 1) && (gSs false l9 (a + 1) && gCs false l10 (a + 1)))) n (szSs l7 + (szSs l8 + (szSs l9 + szCs l10))) q:=by
    intro ha h10 x n d q hx;unfold ahq;rw [aby (x:=(a:Int) + 1) (n:=a + 1) (by omega) (by omega)];refine (ihl l7 (by omega) x n d q (a + 1) hx (by omega)).bind fun x d q hx=>?_
    refine (ihl l8 (by omega) x _ d q (a + 1) hx (by omega)).bind fun x d q hx=>?_
    refine (ihl l9 (by omega) x _ d q (a + 1) hx (by omega)).bind fun x d q hx=>?_
    exact cs ha h10 l10 0 x _ d q (by omega) (by omega) hx
   have loop:a≤16→l10.length≤1000→∀ (l:List aah) (i:Nat) (x:Int) (n:Nat) (d:Int) (q:Bool),szEs l≤m→(q=false→x=(n:Int)∧n≤600) →
     RRes (ac6 k (acK k m) l7 l8 l9 l10 a l i x d q) (gEs false l (a + 1) && (gSs false l7 (a + 1) && (gSs false l8 (a + 1) && (gSs false l9 (a + 1) && gCs false l10 (a + 1))))) n (szEs l + (szSs l7 + (szSs l8 + (szSs l9 + szCs l10)))) q:=by
    intro ha h10 l;induction l with
    | nil =>
     intro i x n d q _ hx;unfold ac6;exact (tail ha h10 x n d q hx).cast (by simp [gEs]) (by simp [szEs])
    | cons e l ih =>
     intro i x n d q hm hx;cases q with
     | true=>rw [w2]; exact .wrong rfl
     | false =>
      obtain ⟨rfl,hn⟩:=hx rfl;obtain ⟨e0,e1,e2,e3,e4⟩:=e;unfold ac6;simp only [szEs] at hm;simp only [Bool.not_false,cond_true];rw [aby (x:=(a:Int) + 1) (n:=a + 1) (by omega) (by omega)];refine ((apo k (.mk e0 e1 e2 e3 e4) (by omega) n d (a + 1) hn (by omega)).bind fun x1 d1 q1 h1=>ih (i + 1) x1 _ d1 q1 (by omega) h1).cast ?_ ?_
      ·simp only [gEs,Bool.and_assoc]
      ·simp only [szEs]; omega
   by_cases hq:(decide (n + 1≤600) && decide (a≤16))=true∧((s2 == 0 && s4 == 0) && aeb op name fr flag l6.length l7.length l8.length l9.length l10.length)=true
   ·have ha' : a≤16:=by have:=hq.1; simp at this; exact this.2
    have h10:l10.length≤1000:=by
     have h:=hq.2;rw [Bool.and_eq_true] at h;exact aqU h.2
    refine RRes.cast (RRes.node (a:=a) (loop ha' h10 l6 0 _ (n + 1) _ _ (by omega) aqF)) ?_ ?_
    ·simp only [gS,Bool.false_or,← Bool.and_assoc]
    ·simp only [szS]; omega
   ·have hq' : (!(decide (n + 1≤600) && decide (a≤16)) || !((s2 == 0 && s4 == 0) && aeb op name fr flag l6.length l7.length l8.length l9.length l10.length))=true:=by
     rw [← Bool.not_and,Bool.not_eq_true']; rw [← Bool.and_eq_true] at hq; simpa using hq
    rw [hq',w2];refine .bad rfl ?_;simp only [gS,szS,Bool.false_or];by_cases h1:n + 1≤600
    ·by_cases h2:a≤16
     ·have:((s2 == 0 && s4 == 0) && aeb op name fr flag l6.length l7.length l8.length l9.length l10.length)=false:=by
       cases h:((s2 == 0 && s4 == 0) && aeb op name fr flag l6.length l7.length l8.length l9.length l10.length) with
       | false=>rfl
       | true=>exact absurd ⟨by simp [h1,h2],h⟩ hq
      rw [Bool.and_assoc (decide (a≤16)),this]; simp
     ·simp [h2]
    ·have : ¬ (n + (szEs l6 + szSs l7 + szSs l8 + szSs l9 + szCs l10 + 1)≤600):=by omega
     simp [this]
  ·intro l hl x n d q a hx ha;show RRes (agq k (acK k m) a l 0 x d q) _ _ _ _;have loop : ∀ (l:List aaf) (i:Nat) (x:Int) (n:Nat) (d:Int) (q:Bool),2 * szSs l≤m→(q=false→x=(n:Int)∧n≤600)→RRes (agq k (acK k m) a l i x d q) (gSs false l a) n (szSs l) q:=by
    intro l;induction l with
    | nil=>intro i x n d q _ hx; exact .done hx
    | cons e l ih =>
     intro i x n d q hm hx;obtain ⟨e0,e1,e2,e3,e4,e5,e6,e7,e8,e9,e10⟩:=e;unfold agq;cases q with
     | true=>exact .wrong rfl
     | false =>
      obtain ⟨rfl,hn⟩:=hx rfl;simp only [szSs] at hm;simp only [Bool.not_false,cond_true];exact (ihs (.mk e0 e1 e2 e3 e4 e5 e6 e7 e8 e9 e10) (by omega) n d a hn ha).bind fun x1 d1 q1 h1=>ih (i + 1) x1 _ d1 q1 (by omega) h1
   exact loop l 0 x n d q (by omega) hx
  ·intro c hc n d a hn ha;obtain ⟨kind,name,slot,es,b⟩:=c;simp only [szC] at hc;show RRes (aoV k (acK k m) (.mk n d false) (.mk kind name slot es b) a) _ _ _ _;rw [ata,aoO k n d false a hn];simp only [Option.bind_some,Bool.false_or];have loop:a≤16→∀ (l:List aah) (i:Nat) (x:Int) (n:Nat) (d:Int) (q:Bool),szEs l≤m→(q=false→x=(n:Int)∧n≤600)→RRes (aem k (acK k m) b a l i x d q) (gEs false l (a + 1) && gSs false b (a + 1)) n (szEs l + szSs b) q:=by
    intro ha l;induction l with
    | nil =>
     intro i x n d q _ hx;unfold aem ahx;rw [aby (x:=(a:Int) + 1) (n:=a + 1) (by omega) (by omega)];refine ((ihl b (by omega) x n d q (a + 1) hx (by omega)).bind (g2:=true) (s2:=0) fun x1 d1 q1 h1=>.done h1).cast ?_ ?_
     ·simp [gEs]
     ·simp [szEs]
    | cons e l ih =>
     intro i x n d q hm hx;obtain ⟨e0,e1,e2,e3,e4⟩:=e;unfold aem;simp only [szEs] at hm;cases q with
     | true =>
      unfold ahx;simp only [Bool.not_true,cond_false];obtain ⟨x1,d1,q1,h1,h2,h3⟩:=ihl b (by omega) x n d true ((a + 1)) hx (by omega);rw [aby (x:=(a:Int) + 1) (n:=a + 1) (by omega) (by omega),h1];simp at h2; subst h2
      exact .wrong rfl
     | false =>
      obtain ⟨rfl,hn⟩:=hx rfl;simp only [Bool.not_false,cond_true];rw [aby (x:=(a:Int) + 1) (n:=a + 1) (by omega) (by omega)];refine ((apo k (.mk e0 e1 e2 e3 e4) (by omega) n d (a + 1) hn (by omega)).bind fun x1 d1 q1 h1=>ih (i + 1) x1 _ d1 q1 (by omega) h1).cast ?_ ?_
      ·simp only [gEs,Bool.and_assoc]
      ·simp only [szEs]; omega
   have fw : ∀ (x d:Int) (l:List aaf) (a:Int),(acK k m).f41 (.mk x d true) l a=some (.mk x d true):=by
    intro x d l a;cases m with
    | zero=>omega
    | succ m=>exact amO _ _ _ _ _ _ _
   have w2 : ∀ (x d:Int) (l:List aah) (i:Nat),aem k (acK k m) b a l i x d true=some (.mk x d true):=by
    intro x d l i;cases l with
    | nil=>unfold aem ahx; simp only [fw,Option.bind_some]
    | cons c l=>obtain ⟨_,_,_,_,_⟩:=c; unfold aem ahx; simp only [fw,Option.bind_some,Bool.not_true,cond_false]
   by_cases ha' : a≤16
   ·refine RRes.cast (RRes.node (a:=a) (loop ha' es 0 _ (n + 1) _ _ (by omega) aqF)) ?_ ?_
    ·simp only [gC,Bool.false_or,← Bool.and_assoc]
    ·simp only [szC]
   ·have hq' : (!(decide (n + 1≤600) && decide (a≤16)) || !((slot == 0) && aji kind name es.length))=true:=by simp [ha']
    rw [hq',w2];exact .bad rfl (by simp [gC,ha'])
end Go.Proofs.YtoegpkmhifmamaaGreatDoor
namespace Go.Proofs.YtoegpkmhifmamaaGreatDoor
open Go
def okP:List aaR→Bool
 | []=>true
 | .mk nm kd :: l=>isN nm && decide (kd ≥ 1) && decide (kd≤6) && okP l
def ahT (z:Bool) (name:ByteArray) (np:Nat) (res:Int) (f3:Bool) (s4:Int):Bool :=
 isN name && decide (np≤4) && (z || s4 == 0) && (!f3 || res == 0) && decide (res ≥ 0) && decide (res≤6)
def gFs (z:Bool):List aae→Bool
 | []=>true
 | .mk name ps res f3 s4 b :: l=>ahT z name ps.length res f3 s4 && (okP ps && (gSs z b 1 && gFs z l))
def cnF:aae→Nat | .mk _ _ _ _ _ b=>szSs b + 1
def cnFs:List aae→Nat | []=>0 | f :: l=>cnF f + cnFs l
def wf (z:Bool):aaa→Bool
 | .mk fs=>decide (1≤fs.length) && decide (fs.length≤16) && gFs z fs && decide (cnFs fs≤600)
section
variable (k i:Nat) (body:List aaf) (n d:Int) (z q:Bool) (nx:Nat→Int→Int→Bool→Option (aag × Bool))
theorem amJ : ∀ (ps:List aaR) (j:Nat),adX k i body n d z nx ps j=cond (okP ps) (adX k i body n d z nx [] 0) (some (.mk n d z,false))
 | [],j=>rfl
 | .mk nm kd :: ps,j=>by
  have ih:=amJ ps;generalize adX k i body n d z nx [] 0=A at ih ⊢;rw [adX];simp only [al9,ajt,Option.bind_some,amf,ih,okP];cases isN nm <;> cases decide (kd ≥ 1) <;> cases decide (kd≤6) <;> rfl
theorem aqT (ps:List aaR):adZ k i ps body n d z q nx=cond (!q && okP ps) (adX k i body n d z nx [] 0) (some (.mk n d z,false)):=by
 unfold adZ;rw [amJ];cases q <;> rfl
end
theorem asB (k:Nat) (z:Bool) (l:List aaf) (hk:2 * szSs l + 1≤k) (n:Nat) (d:Int) (a:Nat) (hn:n≤600) (ha:a≤17):NRes (f119 k (.mk n d z) l a) (gSs z l a) n (szSs l) z :=
 (nSt k z k (Nat.le_refl k)).2.1 l hk n d a hn ha
theorem auw (k:Nat) (l:List aaf) (hk:2 * szSs l + 1≤k) (x:Int) (n:Nat) (d:Int) (q:Bool) (a:Nat) (hx:q=false→x=(n:Int)∧n≤600) (ha:a≤17):RRes (f41 k (.mk x d q) l a) (gSs false l a) n (szSs l) q :=
 (rS k k (Nat.le_refl k)).2.1 l hk x n d q a hx ha
theorem apQ (k:Nat) (name:ByteArray) (ps:List aaR) (res:Int) (f3:Bool) (s4:Int) (b:List aaf) (l:List aae) (i:Nat) (n d:Int) (z:Bool) :
  acF k (.mk name ps res f3 s4 b :: l) i n d z=(f68 k (.mk n d z) 0).bind fun x=>match x with
   | (.mk n1 d1 z1,ok)=>cond (ok && ahT z1 name ps.length res f3 s4 && okP ps) (adX k i b n1 d1 z1 (acF k l) [] 0) (some (.mk n1 d1 z1,false)):=by
 rw [acF];congr 1;funext x;obtain ⟨⟨n1,d1,z1⟩,ok⟩:=x;simp only [al9,ajt,Option.bind_some,aqT,ahT];have e:decide ((ps.length:Int) > 4)=!decide (ps.length≤4):=by rw [← decide_not,decide_eq_decide]; omega
 rw [e];simp only [Bool.cond_eq_ite];grind (splits:=20)
theorem nFs (k:Nat) (z:Bool) : ∀ (l:List aae) (i:Nat) (n:Nat) (d:Int),2 * szFs l + 1≤k→n≤600→NRes (acF k l i n d z) (gFs z l) n (cnFs l) z
 | [],i,n,d,hk,hn=>.yes rfl (by simp [gFs,cnFs,hn])
 | .mk name ps res f3 s4 b :: l,i,n,d,hk,hn=>by
  simp only [szFs,szF] at hk;rw [apQ];have e0:((0:Nat):Int)=0:=rfl;rw [← e0,aou k n d z 0 hn,e0];simp only [Option.bind_some,Nat.zero_le,decide_true,Bool.and_true];by_cases h1:n + 1≤600
  ·by_cases h2:(ahT z name ps.length res f3 s4 && okP ps)=true
   ·rw [Bool.and_assoc,h2];simp only [h1,decide_true,Bool.and_self,cond_true];rw [adX];refine ((asB k z b (by omega) (n + 1) (imax d 0) 1 h1 (by omega)).bind (f:=fun q_=>match q_ with | (.mk z10628_0 z10628_1 z10628_2,r10629)=>(cond (!r10629) (some ((aag.mk z10628_0 z10628_1 z10628_2),false)) (acF k l (i + 1) z10628_0 z10628_1 z10628_2)))
     (fun c=>by obtain ⟨_,_,_⟩:=c; exact ⟨_,rfl⟩) fun d hn=>nFs k z l (i + 1) _ d (by omega) hn).conv (by simp only [cnFs,cnF]; omega) (fun _=>?_)
    rw [Bool.and_eq_true] at h2;simp only [gFs,h2.1,h2.2,Bool.true_and]
   ·have h2' : (ahT z name ps.length res f3 s4 && okP ps)=false:=by simpa using h2
    rw [Bool.and_assoc,h2',Bool.and_false];refine .no rfl ?_;rw [gFs,← Bool.and_assoc,h2'];simp
  ·simp only [h1,decide_false,Bool.false_and,cond_false];refine .no rfl ?_;have : ¬ (n + (szSs b + 1 + cnFs l)≤600):=by omega
   simp [cnFs,cnF,this]
theorem atF (k:Nat) (p:aaa) (z:Bool) (hk:2 * szP p + 1≤k):f78 k p z=some (wf z p):=by
 obtain ⟨fs⟩:=p;simp only [szP] at hk;unfold f78 arX f99 arl;simp only [ajt,Option.bind_some];have e1:(decide ((fs.length:Int) ≥ 1) && decide ((fs.length:Int)≤16))=(decide (1≤fs.length) && decide (fs.length≤16)):=by
  congr 1
  ·rw [decide_eq_decide]; omega
  ·rw [decide_eq_decide]; omega
 rw [e1];by_cases h:(decide (1≤fs.length) && decide (fs.length≤16))=true
 ·rw [h];simp only [Bool.not_true,cond_false];obtain ⟨c,h1,h2⟩:=nFs k z fs 0 0 0 (by omega) (by omega);have e0:((0:Nat):Int)=0:=rfl;rw [e0] at h1;rw [h1];obtain ⟨_,_,_⟩:=c;simp only [Option.bind_some,wf,h,Nat.zero_add,Bool.true_and]
 ·have h' : (decide (1≤fs.length) && decide (fs.length≤16))=false:=by simpa using h
  rw [h'];simp only [Bool.not_false,cond_true,Option.bind_some,wf,h',Bool.false_and]
section
variable (k i:Nat) (body:List aaf) (d:Int) (nx:Nat→Int→Int→Bool→Option aar)
theorem alM : ∀ (ps:List aaR) (j:Nat) (x d:Int) (q:Bool),ae9 k i body nx ps j x d q=agu k i body x d (q || !okP ps) nx
 | [],j,x,d,q=>by simp [ae9,okP]
 | .mk nm kd :: ps,j,x,d,q=>by
  unfold ae9;simp only [alN,ae6,Option.bind_some,ajM,alM ps,okP];cases q <;> cases isN nm <;> cases decide (kd ≥ 1) <;> cases decide (kd≤6) <;> rfl
end
theorem aqz (k:Nat) (name:ByteArray) (ps:List aaR) (res:Int) (f3:Bool) (s4:Int) (b:List aaf) (l:List aae) (i:Nat) (n d:Int) :
  acm k (.mk name ps res f3 s4 b :: l) i n d false=(f39 k (.mk n d false) 0).bind fun x=>match x with
   | .mk n1 d1 q1=>agu k i b n1 d1 (q1 || !(ahT false name ps.length res f3 s4 && okP ps)) (acm k l):=by
 rw [acm];simp only [Bool.not_false,cond_true];congr 1;funext x;obtain ⟨n1,d1,q1⟩:=x;simp only [alN,ae6,Option.bind_some,afU,alM,ahT];have e:decide ((ps.length:Int)≤4)=decide (ps.length≤4):=by rw [decide_eq_decide]; omega
 rw [e];have hQ : ∃ A B,(fun q=>agu k i b n1 d1 q (acm k l))=fun b=>if b=true then A else B:=bfun _
 obtain ⟨A,B,hQ⟩:=hQ;have hQ' : ∀ q,agu k i b n1 d1 q (acm k l)=if q=true then A else B:=fun q=>congrFun hQ q
 simp only [hQ'];generalize decide (ps.length≤4)=b2;generalize isN name=b1;generalize okP ps=b3;generalize (s4 == 0)=b4;generalize (res == 0)=b5;simp only [Bool.cond_eq_ite];grind (splits:=20)
theorem rFs (k:Nat) : ∀ (l:List aae) (i:Nat) (x:Int) (n:Nat) (d:Int) (q:Bool),2 * szFs l + 1≤k→(q=false→x=(n:Int)∧n≤600)→RRes (acm k l i x d q) (gFs false l) n (cnFs l) q
 | [],i,x,n,d,q,hk,hx=>.done hx
 | .mk name ps res f3 s4 b :: l,i,x,n,d,q,hk,hx=>by
  simp only [szFs,szF] at hk;cases q with
  | true=>exact .wrong rfl
  | false =>
   obtain ⟨rfl,hn⟩:=hx rfl;rw [aqz];have e0:((0:Nat):Int)=0:=rfl;rw [← e0,aoO k n d false 0 hn,e0];simp only [Option.bind_some,Bool.false_or];unfold agu;refine RRes.cast (RRes.node (a:=0) (b:=ahT false name ps.length res f3 s4 && okP ps) (g:=gSs false b 1 && gFs false l) (s:=szSs b + cnFs l) ?_) ?_ ?_
   ·exact (auw k b (by omega) _ (n + 1) _ _ 1 (fun h=>by simp at h; exact ⟨rfl,by omega⟩) (by omega)).bind fun x d q hx=>rFs k l (i + 1) x _ d q (by omega) hx
   ·simp only [gFs,Nat.zero_le,decide_true,Bool.true_and,Bool.and_assoc]
   ·simp only [cnFs,cnF]; omega
theorem ayc (k:Nat) (p:aaa) (hk:2 * szP p + 1≤k):f12 k p=some (wf false p):=by
 obtain ⟨fs⟩:=p;simp only [szP] at hk;unfold f12 ask f23 asS;simp only [ae6,Option.bind_some,aml];have e:(cond (decide ((fs.length:Int) ≥ 1)) (acm k fs 0 0 0 (false || !decide ((fs.length:Int)≤16))) (acm k fs 0 0 0 (false || !false)))=acm k fs 0 0 0 (!(decide (1≤fs.length) && decide (fs.length≤16))):=by
  have e1:decide ((fs.length:Int) ≥ 1)=decide (1≤fs.length):=by rw [decide_eq_decide]; omega
  have e2:decide ((fs.length:Int)≤16)=decide (fs.length≤16):=by rw [decide_eq_decide]; omega
  rw [e1,e2];cases decide (1≤fs.length) <;> rfl
 rw [e];have e0:((0:Nat):Int)=0:=rfl;obtain ⟨x,d,q',h1,h2,h3⟩:=rFs k fs 0 0 0 0 (!(decide (1≤fs.length) && decide (fs.length≤16))) (by omega) (fun _=>⟨rfl,by omega⟩);rw [h1];simp only [Option.bind_some,wf,h2,Nat.zero_add];cases decide (1≤fs.length) <;> cases decide (fs.length≤16) <;> cases gFs false fs <;> cases decide (cnFs fs≤600) <;> rfl
mutual
def stS:aaf→aaf | .mk op name _ fr _ flag l6 l7 l8 l9 l10=>.mk op name 0 fr 0 flag (stEs l6) (stSs l7) (stSs l8) (stSs l9) (stCs l10)
def stSs:List aaf→List aaf | []=>[] | s :: l=>stS s :: stSs l
def stC:aaB→aaB | .mk kind name _ es b=>.mk kind name 0 (stEs es) (stSs b)
def stCs:List aaB→List aaB | []=>[] | c :: l=>stC c :: stCs l
end
def stF:aae→aae | .mk name ps res f3 _ b=>.mk name ps res f3 0 (stSs b)
def stFs:List aae→List aae | []=>[] | f :: l=>stF f :: stFs l
def stP:aaa→aaa | .mk fs=>.mk (stFs fs)
theorem agj : ∀ l,(stSs l).length=l.length
 | []=>rfl
 | e :: l=>by simp [stSs,agj l]
theorem akZ : ∀ l,(stCs l).length=l.length
 | []=>rfl
 | e :: l=>by simp [stCs,akZ l]
theorem anT : ∀ l,(stFs l).length=l.length
 | []=>rfl
 | e :: l=>by simp [stFs,anT l]
mutual
theorem axP : ∀ e,szS (stS e)=szS e
 | .mk _ _ _ _ _ _ _ l7 l8 l9 l10=>by simp only [stS,szS,akh,afc l7,afc l8,afc l9,aqx l10]
theorem afc : ∀ l,szSs (stSs l)=szSs l
 | []=>rfl
 | e :: l=>by simp only [stSs,szSs,axP e,afc l]
theorem axj : ∀ e,szC (stC e)=szC e
 | .mk _ _ _ _ b=>by simp only [stC,szC,akh,afc b]
theorem aqx : ∀ l,szCs (stCs l)=szCs l
 | []=>rfl
 | e :: l=>by simp only [stCs,szCs,axj e,aqx l]
end
mutual
theorem azH : ∀ e a,gS false (stS e) a=gS true e a
 | .mk _ _ _ _ _ _ _ l7 l8 l9 l10,a=>by simp [stS,gS,aoz,ajy l7,ajy l8,ajy l9,atN l10,aeC,agj,akZ]
theorem ajy : ∀ l a,gSs false (stSs l) a=gSs true l a
 | [],_=>rfl
 | e :: l,a=>by simp only [stSs,gSs,azH e,ajy l]
theorem ayw : ∀ e a,gC false (stC e) a=gC true e a
 | .mk _ _ _ _ b,a=>by simp [stC,gC,aoz,ajy b,aeC]
theorem atN : ∀ l a,gCs false (stCs l) a=gCs true l a
 | [],_=>rfl
 | .mk k nm s es b :: l,a=>by
  have h:=ayw (.mk k nm s es b) a;simp only [stC] at h;have e:(stCs l).isEmpty=l.isEmpty:=by cases l <;> rfl
  simp only [stCs,stC,gCs,h,atN l,e]
end
theorem ano : ∀ l,szFs (stFs l)=szFs l
 | []=>rfl
 | .mk _ _ _ _ _ b :: l=>by simp only [stFs,stF,szFs,szF,afc,ano l]
theorem aqq : ∀ l,cnFs (stFs l)=cnFs l
 | []=>rfl
 | .mk _ _ _ _ _ b :: l=>by simp only [stFs,stF,cnFs,cnF,afc,aqq l]
theorem atK : ∀ l,gFs false (stFs l)=gFs true l
 | []=>rfl
 | .mk _ _ _ _ _ b :: l=>by simp [stFs,stF,gFs,ajy,atK l,ahT]
theorem ayo : ∀ p,szP (stP p)=szP p
 | .mk fs=>by simp only [stP,szP,ano]
theorem ayG : ∀ p,wf false (stP p)=wf true p
 | .mk fs=>by simp only [stP,wf,atK,anT,aqq]
def maxB:Nat:=140737488355328
mutual
def fitE:aah→Prop | .mk _ _ _ _ l=>l.length * 64≤maxB∧ad8 l
def ad8:List aah→Prop | []=>True | e :: l=>fitE e∧ad8 l
end
mutual
def fitS:aaf→Prop | .mk _ _ _ _ _ _ l6 l7 l8 l9 l10=>(l6.length * 64≤maxB∧ad8 l6)∧(l7.length * 184≤maxB∧adx l7)∧(l8.length * 184≤maxB∧adx l8)∧(l9.length * 184≤maxB∧adx l9)∧(l10.length * 80≤maxB∧afZ l10)
def adx:List aaf→Prop | []=>True | e :: l=>fitS e∧adx l
def fitC:aaB→Prop | .mk _ _ _ l b=>(l.length * 64≤maxB∧ad8 l)∧(b.length * 184≤maxB∧adx b)
def afZ:List aaB→Prop | []=>True | e :: l=>fitC e∧afZ l
end
def fitF:aae→Prop | .mk _ ps _ _ _ b=>ps.length * 24≤maxB∧(b.length * 184≤maxB∧adx b)
def af7:List aae→Prop | []=>True | e :: l=>fitF e∧af7 l
def fitP:aaa→Prop | .mk fs=>fs.length * 88≤maxB∧af7 fs
theorem abb {α:Type} {a:Nat} {x:Option α} (h:a≤maxB):aaT (decide (a≤140737488355328)) x=x:=by
 unfold maxB at h; unfold aaT; rw [decide_eq_true h]; rfl
theorem abS {α:Type} (xs:List α) (e:α):(xs ++ [e]).length=xs.length + 1:=by simp
theorem apT (k:Nat) : ∀ m l,szEs l + 1≤m→l.length * 64≤maxB→ad8 l→(anx k m).f44 l=some l
 | 0,l,h,_,_=>by omega
 | m + 1,l,h,hl,hf=>by
  show agr k (anx k m) l 0 []=some l;have loop : ∀ (l:List aah) (i:Nat) (xs:List aah),szEs l≤m→(xs.length + l.length) * 64≤maxB→ad8 l→agr k (anx k m) l i xs=some (xs ++ l):=by
   intro l;induction l with
   | nil=>intro i xs _ _ _; simp [agr]
   | cons e l ih =>
    intro i xs hm hl hf;obtain ⟨e0,e1,e2,e3,e4⟩:=e;simp only [szEs,szE,ad8,fitE,List.length_cons] at hm hl hf;unfold agr;rw [apT k m e4 (by omega) hf.1.1 hf.1.2];simp only [Option.bind_some];rw [abb (by omega),ih (i + 1) _ (by omega) (by rw [abS]; omega) hf.2];simp
  exact loop l 0 [] (by omega) (by simpa using hl) hf
theorem aqC (k:Nat) : ∀ m l,szEs l + 1≤m→l.length * 64≤maxB→ad8 l→(anK k m).f37 l=some (stEs l)
 | 0,l,h,_,_=>by omega
 | m + 1,l,h,hl,hf=>by
  show agC k (anK k m) l 0 []=some (stEs l);have loop : ∀ (l:List aah) (i:Nat) (xs:List aah),szEs l≤m→(xs.length + l.length) * 64≤maxB→ad8 l→agC k (anK k m) l i xs=some (xs ++ stEs l):=by
   intro l;induction l with
   | nil=>intro i xs _ _ _; simp [agC,stEs]
   | cons e l ih =>
    intro i xs hm hl hf;obtain ⟨e0,e1,e2,e3,e4⟩:=e;simp only [szEs,szE,ad8,fitE,List.length_cons] at hm hl hf;unfold agC;rw [aqC k m e4 (by omega) hf.1.1 hf.1.2];simp only [Option.bind_some];rw [abb (by omega),ih (i + 1) _ (by omega) (by rw [abS]; omega) hf.2];simp [stEs,stE]
  exact loop l 0 [] (by omega) (by simpa using hl) hf
theorem cE (k:Nat) : ∀ m,(∀ e,2 * szE e≤m→fitE e→(abG k m).f1013727 e=some (stE e)) ∧
  (∀ l,2 * szEs l + 1≤m→l.length * 64≤maxB→ad8 l→(abG k m).f1012227 l=some (stEs l))
 | 0=>⟨fun e h=>by have:=agb e; omega,fun l h=>by omega⟩
 | m + 1=>by
  obtain ⟨ihe,ihl⟩:=cE k m;constructor
  ·intro e h hf;obtain ⟨e0,e1,e2,e3,e4⟩:=e;simp only [szE,fitE] at h hf;show aef k (abG k m) (.mk e0 e1 e2 e3 e4)=_;unfold aef;simp only;rw [ihl e4 (by omega) hf.1 hf.2];simp [f120,an1,stE]
  ·intro l h hl hf;show aca k (abG k m) l 0 []=_;have loop : ∀ (l:List aah) (i:Nat) (xs:List aah),2 * szEs l≤m→(xs.length + l.length) * 64≤maxB→ad8 l→aca k (abG k m) l i xs=some (xs ++ stEs l):=by
    intro l;induction l with
    | nil=>intro i xs _ _ _; simp [aca,stEs]
    | cons e l ih =>
     intro i xs hm hl hf;obtain ⟨e0,e1,e2,e3,e4⟩:=e;simp only [szEs,ad8,List.length_cons] at hm hl hf;unfold aca;rw [ihe (.mk e0 e1 e2 e3 e4) (by omega) hf.1];simp only [Option.bind_some,stE];rw [abb (by omega),ih (i + 1) _ (by omega) (by rw [abS]; omega) hf.2];simp [stEs,stE]
   exact loop l 0 [] (by omega) (by simpa using hl) hf
theorem amD (k:Nat) : ∀ m l,szSs l + 1≤m→szSs l + 1≤k→l.length * 184≤maxB→adx l→(amw k m).f25 l=some l
 | 0,l,h,_,_,_=>by omega
 | m + 1,l,h,hk,hl,hf=>by
  show afY k (amw k m) l 0 []=some l;have cs : ∀ (xs:List aaf) (i:Nat) (e0:Int) (e1:ByteArray) (e2:Int) (e3:ByteArray) (e4 e5:Int) (r6:List aah) (r7 r8 r9:List aaf) (nx:Nat→List aaf→Option (List aaf)) (l:List aaB) (j:Nat) (ys:List aaB),szCs l≤m→szCs l≤k →
    (ys.length + l.length) * 80≤maxB→(xs.length + 1) * 184≤maxB→afZ l→ahL k (amw k m) xs i e0 e1 e2 e3 e4 e5 r6 r7 r8 r9 nx l j ys=nx (i + 1) (xs ++ [.mk e0 e1 e2 e3 e4 e5 r6 r7 r8 r9 (ys ++ l)]):=by
   intro xs i e0 e1 e2 e3 e4 e5 r6 r7 r8 r9 nx l;induction l with
   | nil=>intro j ys _ _ _ hx _; unfold ahL; rw [abb hx]; simp
   | cons c l ih =>
    intro j ys hm hk hl hx hf;obtain ⟨c0,c1,c2,c3,c4⟩:=c;simp only [szCs,szC,afZ,fitC,List.length_cons] at hm hl hf hk;unfold ahL f44;rw [apT k k c3 (by omega) hf.1.1.1 hf.1.1.2];simp only [Option.bind_some];rw [amD k m c4 (by omega) (by omega) hf.1.2.1 hf.1.2.2];simp only [Option.bind_some];rw [abb (by omega),ih (j + 1) _ (by omega) (by omega) (by rw [abS]; omega) hx hf.2];simp
  have loop : ∀ (l:List aaf) (i:Nat) (xs:List aaf),szSs l≤m→szSs l≤k→(xs.length + l.length) * 184≤maxB→adx l→afY k (amw k m) l i xs=some (xs ++ l):=by
   intro l;induction l with
   | nil=>intro i xs _ _ _ _; simp [afY]
   | cons e l ih =>
    intro i xs hm hk hl hf;obtain ⟨e0,e1,e2,e3,e4,e5,e6,e7,e8,e9,e10⟩:=e;simp only [szSs,szS,adx,fitS,List.length_cons] at hm hl hf hk;obtain ⟨⟨⟨h6,h6'⟩,⟨h7,h7'⟩,⟨h8,h8'⟩,⟨h9,h9'⟩,h10,h10'⟩,hf⟩:=hf;unfold afY f44;rw [apT k k e6 (by omega) h6 h6',amD k m e7 (by omega) (by omega) h7 h7',amD k m e8 (by omega) (by omega) h8 h8',amD k m e9 (by omega) (by omega) h9 h9'];simp only [Option.bind_some];rw [cs xs i e0 e1 e2 e3 e4 e5 e6 e7 e8 e9 _ e10 0 [] (by omega) (by omega) (by simpa using h10) (by omega) h10',ih (i + 1) _ (by omega) (by omega) (by rw [abS]; omega) hf];simp
  exact loop l 0 [] (by omega) (by omega) (by simpa using hl) hf
theorem alV (k:Nat) : ∀ m l,szSs l + 1≤m→szSs l + 1≤k→l.length * 184≤maxB→adx l→(amv k m).f22 l=some (stSs l)
 | 0,l,h,_,_,_=>by omega
 | m + 1,l,h,hk,hl,hf=>by
  show afS k (amv k m) l 0 []=some (stSs l);have cs : ∀ (xs:List aaf) (i:Nat) (e0:Int) (e1:ByteArray) (e3:ByteArray) (e5:Int) (r6:List aah) (r7 r8 r9:List aaf) (nx:Nat→List aaf→Option (List aaf)) (l:List aaB) (j:Nat) (ys:List aaB),szCs l≤m→szCs l≤k →
    (ys.length + l.length) * 80≤maxB→(xs.length + 1) * 184≤maxB→afZ l→ahs k (amv k m) xs i e0 e1 e3 e5 r6 r7 r8 r9 nx l j ys=nx (i + 1) (xs ++ [.mk e0 e1 0 e3 0 e5 r6 r7 r8 r9 (ys ++ stCs l)]):=by
   intro xs i e0 e1 e3 e5 r6 r7 r8 r9 nx l;induction l with
   | nil=>intro j ys _ _ _ hx _; unfold ahs; rw [abb hx]; simp [stCs]
   | cons c l ih =>
    intro j ys hm hk hl hx hf;obtain ⟨c0,c1,c2,c3,c4⟩:=c;simp only [szCs,szC,afZ,fitC,List.length_cons] at hm hl hf hk;unfold ahs f37;rw [aqC k k c3 (by omega) hf.1.1.1 hf.1.1.2];simp only [Option.bind_some];rw [alV k m c4 (by omega) (by omega) hf.1.2.1 hf.1.2.2];simp only [Option.bind_some];rw [abb (by omega),ih (j + 1) _ (by omega) (by omega) (by rw [abS]; omega) hx hf.2];simp [stCs,stC]
  have loop : ∀ (l:List aaf) (i:Nat) (xs:List aaf),szSs l≤m→szSs l≤k→(xs.length + l.length) * 184≤maxB→adx l→afS k (amv k m) l i xs=some (xs ++ stSs l):=by
   intro l;induction l with
   | nil=>intro i xs _ _ _ _; simp [afS,stSs]
   | cons e l ih =>
    intro i xs hm hk hl hf;obtain ⟨e0,e1,e2,e3,e4,e5,e6,e7,e8,e9,e10⟩:=e;simp only [szSs,szS,adx,fitS,List.length_cons] at hm hl hf hk;obtain ⟨⟨⟨h6,h6'⟩,⟨h7,h7'⟩,⟨h8,h8'⟩,⟨h9,h9'⟩,h10,h10'⟩,hf⟩:=hf;unfold afS f37;rw [aqC k k e6 (by omega) h6 h6',alV k m e7 (by omega) (by omega) h7 h7',alV k m e8 (by omega) (by omega) h8 h8',alV k m e9 (by omega) (by omega) h9 h9'];simp only [Option.bind_some];rw [cs xs i e0 e1 e3 e5 _ _ _ _ _ e10 0 [] (by omega) (by omega) (by simpa using h10) (by omega) h10',ih (i + 1) _ (by omega) (by omega) (by rw [abS]; omega) hf];simp [stSs,stS]
  exact loop l 0 [] (by omega) (by omega) (by simpa using hl) hf
theorem aiE (k:Nat) : ∀ m l,szSs l + 1≤m→2 * szSs l + 1≤k→l.length * 184≤maxB→adx l→(ahE k m).f101 l false=some (stSs l)
 | 0,l,h,_,_,_=>by omega
 | m + 1,l,h,hk,hl,hf=>by
  show adc k (ahE k m) false l 0 []=some (stSs l);have cs : ∀ (xs:List aaf) (i:Nat) (e0:Int) (e1:ByteArray) (e3:ByteArray) (e5 n1 n2:Int) (r6:List aah) (r7 r8 r9:List aaf) (nx:Nat→List aaf→Option (List aaf)) (l:List aaB) (j:Nat) (ys:List aaB),szCs l≤m→2 * szCs l≤k →
    (ys.length + l.length) * 80≤maxB→(xs.length + 1) * 184≤maxB→afZ l→ad7 k (ahE k m) false xs i e0 e1 e3 e5 n1 n2 r6 r7 r8 r9 nx l j ys=nx (i + 1) (xs ++ [.mk e0 e1 n1 e3 n2 e5 r6 r7 r8 r9 (ys ++ stCs l)]):=by
   intro xs i e0 e1 e3 e5 n1 n2 r6 r7 r8 r9 nx l;induction l with
   | nil=>intro j ys _ _ _ hx _; unfold ad7; rw [abb hx]; simp [stCs]
   | cons c l ih =>
    intro j ys hm hk hl hx hf;obtain ⟨c0,c1,c2,c3,c4⟩:=c;simp only [szCs,szC,afZ,fitC,List.length_cons] at hm hl hf hk;unfold ad7 aij f1012227;rw [(cE k k).2 c3 (by omega) hf.1.1.1 hf.1.1.2];simp only [Bool.not_false,cond_true,Option.bind_some];rw [aiE k m c4 (by omega) (by omega) hf.1.2.1 hf.1.2.2];simp only [Option.bind_some];rw [abb (by omega),ih (j + 1) _ (by omega) (by omega) (by rw [abS]; omega) hx hf.2];simp [stCs,stC]
  have loop : ∀ (l:List aaf) (i:Nat) (xs:List aaf),szSs l≤m→2 * szSs l≤k→(xs.length + l.length) * 184≤maxB→adx l→adc k (ahE k m) false l i xs=some (xs ++ stSs l):=by
   intro l;induction l with
   | nil=>intro i xs _ _ _ _; simp [adc,stSs]
   | cons e l ih =>
    intro i xs hm hk hl hf;obtain ⟨e0,e1,e2,e3,e4,e5,e6,e7,e8,e9,e10⟩:=e;simp only [szSs,szS,adx,fitS,List.length_cons] at hm hl hf hk;obtain ⟨⟨⟨h6,h6'⟩,⟨h7,h7'⟩,⟨h8,h8'⟩,⟨h9,h9'⟩,h10,h10'⟩,hf⟩:=hf;unfold adc aiu f1012227;rw [(cE k k).2 e6 (by omega) h6 h6',aiE k m e7 (by omega) (by omega) h7 h7',aiE k m e8 (by omega) (by omega) h8 h8',aiE k m e9 (by omega) (by omega) h9 h9'];simp only [Bool.not_false,cond_true,Option.bind_some];rw [cs xs i e0 e1 e3 e5 _ _ _ _ _ _ _ e10 0 [] (by omega) (by omega) (by simpa using h10) (by omega) h10',ih (i + 1) _ (by omega) (by omega) (by rw [abS]; omega) hf];simp [stSs,stS]
  exact loop l 0 [] (by omega) (by omega) (by simpa using hl) hf
theorem axd (k:Nat) (p:aaa) (hk:2 * szP p + 1≤k) (hf:fitP p):f79 k p false=some (stP p):=by
 obtain ⟨fs⟩:=p;simp only [szP,fitP] at hk hf;show aeZ k false fs 0 []=some (.mk (stFs fs));have loop : ∀ (l:List aae) (i:Nat) (xs:List aae),2 * szFs l + 1≤k→(xs.length + l.length) * 88≤maxB→af7 l→aeZ k false l i xs=some (.mk (xs ++ stFs l)):=by
  intro l;induction l with
  | nil=>intro i xs _ _ _; simp [aeZ,stFs]
  | cons e l ih =>
   intro i xs hk hl hf;obtain ⟨e0,e1,e2,e3,e4,e5⟩:=e;simp only [szFs,szF,af7,fitF,List.length_cons] at hk hl hf;unfold aeZ amk f100 f101;rw [abb hf.1.1,aiE k k e5 (by omega) (by omega) hf.1.2.1 hf.1.2.2];simp only [Bool.not_false,cond_true,Option.bind_some];rw [abb (by omega),ih (i + 1) _ (by omega) (by rw [abS]; omega) hf.2];simp [stFs,stF]
 exact loop fs 0 [] (by omega) (by simpa using hf.1) hf.2
theorem awB (k:Nat) (p:aaa) (hk:2 * szP p + 1≤k) (hf:fitP p):f14 k p=some p:=by
 obtain ⟨fs⟩:=p;simp only [szP,fitP] at hk hf;show agk k fs 0 []=some (.mk fs);have loop : ∀ (l:List aae) (i:Nat) (xs:List aae),2 * szFs l + 1≤k→(xs.length + l.length) * 88≤maxB→af7 l→agk k l i xs=some (.mk (xs ++ l)):=by
  intro l;induction l with
  | nil=>intro i xs _ _ _; simp [agk]
  | cons e l ih =>
   intro i xs hk hl hf;obtain ⟨e0,e1,e2,e3,e4,e5⟩:=e;simp only [szFs,szF,af7,fitF,List.length_cons] at hk hl hf;unfold agk f25;rw [abb (by simpa using hf.1.1),amD k k e5 (by omega) (by omega) hf.1.2.1 hf.1.2.2];simp only [Option.bind_some];rw [abb (by omega),ih (i + 1) _ (by omega) (by rw [abS]; omega) hf.2];simp
 exact loop fs 0 [] (by omega) (by simpa using hf.1) hf.2
theorem anV {α:Type} (xs:List α) (e:α) (l:List α) (i:Int) (hi:i=(xs.length:Int)):idxO (xs ++ e :: l) i=some e:=by
 subst hi;unfold idxO;rw [if_pos (by omega)];simp
theorem auv {α:Type} (xs:List α) (e e' : α) (l:List α):(xs ++ e :: l).set xs.length e'=xs ++ e' :: l:=by
 simp
theorem awm (k:Nat) (p:aaa) (hk:2 * szP p + 1≤k) (hf:fitP p):f11 k p=some (stP p):=by
 have h19:=awB k p hk hf;obtain ⟨fs⟩:=p;unfold f11 atm;simp only;rw [h19];simp only [szP,fitP] at hk hf;simp only [Option.bind_some];have loop : ∀ (l:List aae) (j:Nat) (xs:List aae),l.length < j→2 * szFs l + 1≤k→(xs.length + l.length) * 88≤maxB→af7 l→ahA k j (xs ++ l) (xs.length:Int)=some (.mk (xs ++ stFs l)):=by
  intro l;induction l with
  | nil =>
   intro j xs hj _ _ _;obtain ⟨j,rfl⟩ : ∃ j',j=j' + 1:=⟨j - 1,by simp at hj; omega⟩;unfold ahA;simp [stFs]
  | cons e l ih =>
   intro j xs hj hk hl hf;simp only [szFs,af7,List.length_cons] at hk hl hf hj;obtain ⟨j,rfl⟩ : ∃ j',j=j' + 1:=⟨j - 1,by omega⟩;unfold ahA;have h1:decide ((xs.length:Int) < ((xs ++ e :: l).length:Int))=true:=by simp; omega
   rw [h1,anV xs e l _ rfl];obtain ⟨e0,e1,e2,e3,e4,e5⟩:=e;simp only [szF,fitF] at hk hf;simp only [cond_true,Option.bind_some];unfold f22;rw [alV k k e5 (by omega) (by omega) hf.1.2.1 hf.1.2.2];simp only [Option.bind_some,Int.toNat_natCast,auv];unfold maxB at hl;rw [aby (x:=(xs.length:Int) + 1) (n:=xs.length + 1) (by omega) (by omega)];have:=ih j (xs ++ [.mk e0 e1 e2 e3 0 (stSs e5)]) (by omega) (by omega) (by rw [abS]; unfold maxB; omega) hf.2;rw [abS] at this;simp only [List.append_assoc,List.singleton_append] at this;rw [this];rfl
 have hlen:=alj fs;exact loop fs k [] (by omega) (by omega) (by simpa using hf.1) hf.2
theorem anZ (a:ByteArray):seq a a=true:=by unfold seq; simp
theorem ank (k:Nat) : ∀ m l (a:Int),szEs l + 1≤m→∃ r,(anM k m).f28 l a=some r
 | 0,l,a,h=>by omega
 | m + 1,l,a,h=>by
  show ∃ r,aqt k (anM k m) l a=some r;unfold aqt;have loop : ∀ (l:List aah) (i:Nat) (n:Int),szEs l≤m→∃ r,aiV k (anM k m) a l i n=some r:=by
   intro l;induction l with
   | nil=>intro i n _; exact ⟨_,rfl⟩
   | cons e l ih =>
    intro i n hm;obtain ⟨e0,e1,e2,e3,e4⟩:=e;simp only [szEs,szE] at hm;unfold aiV;cases decide (n≤2000)
    ·exact ⟨_,rfl⟩
    ·obtain ⟨r,hr⟩:=ank k m e4 (w64 (a + 1)) (by omega);rw [hr];exact ih _ _ (by omega)
  cases decide (a > 60)
  ·exact loop l 0 0 (by omega)
  ·exact ⟨_,rfl⟩
theorem aiS (k:Nat) : ∀ m l (a:Int),szSs l + 1≤m→szSs l + 1≤k→∃ r,(amr k m).f18 l a=some r
 | 0,l,a,h,_=>by omega
 | m + 1,l,a,h,hk=>by
  show ∃ r,apF k (amr k m) l a=some r;unfold apF;have cs : ∀ (i:Nat) (nx:Nat→Int→Option Int) (hnx : ∀ n,∃ r,nx (i + 1) n=some r) (l:List aaB) (j:Nat) (n:Int),szCs l≤m→szCs l≤k→∃ r,aiz k (amr k m) a i nx l j n=some r:=by
   intro i nx hnx l;induction l with
   | nil=>intro j n _ _; exact hnx _
   | cons e l ih =>
    intro j n hm hk;obtain ⟨e0,e1,e2,e3,e4⟩:=e;simp only [szCs,szC] at hm hk;unfold aiz f28;cases decide (n≤2000)
    ·exact hnx _
    ·obtain ⟨r,hr⟩:=ank k k e3 (w64 (a + 1)) (by omega);obtain ⟨r2,hr2⟩:=aiS k m e4 (w64 (a + 1)) (by omega) (by omega);rw [hr,cond_true,Option.bind_some,hr2];exact ih _ _ (by omega) (by omega)
  have loop : ∀ (l:List aaf) (i:Nat) (n:Int),szSs l≤m→szSs l≤k→∃ r,agK k (amr k m) a l i n=some r:=by
   intro l;induction l with
   | nil=>intro i n _ _; exact ⟨_,rfl⟩
   | cons e l ih =>
    intro i n hm hk;obtain ⟨e0,e1,e2,e3,e4,e5,e6,e7,e8,e9,e10⟩:=e;simp only [szSs,szS] at hm hk;unfold agK f28;cases decide (n≤2000)
    ·exact ⟨_,rfl⟩
    ·obtain ⟨r,hr⟩:=ank k k e6 (w64 (a + 1)) (by omega);obtain ⟨r7,hr7⟩:=aiS k m e7 (w64 (a + 1)) (by omega) (by omega);obtain ⟨r8,hr8⟩:=aiS k m e8 (w64 (a + 1)) (by omega) (by omega);obtain ⟨r9,hr9⟩:=aiS k m e9 (w64 (a + 1)) (by omega) (by omega);rw [hr,cond_true,Option.bind_some,hr7,Option.bind_some,hr8,Option.bind_some,hr9];exact cs i _ (fun n=>ih _ _ (by omega) (by omega)) e10 0 _ (by omega) (by omega)
  cases decide (a > 40)
  ·exact loop l 0 0 (by omega) (by omega)
  ·exact ⟨_,rfl⟩
theorem awn (k:Nat) (p:aaa) (hk:2 * szP p + 1≤k) (hf:fitP p):f34 k p=some (cond (wf true p) (stP p,0) (.mk [],2)):=by
 have h78:=atF k p true hk;have h88:=axd k p hk hf;obtain ⟨fs⟩:=p;unfold f34 asj ah2 ahW afs f54 as8;simp only [h78,h88,Option.bind_some];cases hw:wf true (.mk fs) <;> rfl
abbrev Ex (α:Type):=Except Int α
def abN (nm:List ByteArray) (vis:List Nat) (a:ByteArray):Option Nat :=
 vis.find? fun v=>match nm[v]? with | some b=>seq b a | none=>false
mutual
def uE (nm:List ByteArray) (vis:List Nat):aah→Ex aah
 | .mk op num txt slot l=>match uEs nm vis l with
  | .error c=>.error c
  | .ok l'=>cond (op == 4) (match abN nm vis txt with | none=>.error 20 | some v=>.ok (.mk op num txt (v:Int) l')) (.ok (.mk op num txt 0 l'))
def uEs (nm:List ByteArray) (vis:List Nat):List aah→Ex (List aah)
 | []=>.ok []
 | e :: l=>match uE nm vis e with
  | .error c=>.error c
  | .ok e'=>match uEs nm vis l with
   | .error c=>.error c
   | .ok l'=>.ok (e' :: l')
end
def lkU (a:ByteArray):List (List (ByteArray × Int))→Option Int
 | []=>none
 | d :: sc=>match mget seq a d with
  | some v=>some v
  | none=>lkU a sc
def okV (nm:List ByteArray) (vis:List Nat):Prop:=∀ v ∈ vis,v < nm.length
structure Rel (sc:List (List (ByteArray × Int))) (vis:List Nat) (nm:List ByteArray):Prop where
 look : ∀ a,lkU a sc=(abN nm vis a).map (fun (v:Nat)=>(v:Int))
 ok:okV nm vis
theorem au2 (k:Nat) (p:List aae) (f:aae) (nm:List ByteArray) (sc:List (List (ByteArray × Int))) (lo:Int) (a:ByteArray) :
  f123 k (.mk (.mk p) f nm sc lo) a=some (match lkU a sc with | some v=>(v,true) | none=>(0,false)):=by
 obtain ⟨f0,f1,f2,f3,f4,f5⟩:=f;have h : ∀ (sc:List (List (ByteArray × Int))) (i:Nat),af6 k a sc i=some (match lkU a sc with | some v=>(v,true) | none=>(0,false)):=by
  intro sc;induction sc with
  | nil=>intro i; rfl
  | cons d sc ih =>
   intro i;unfold af6 lkU;rw [ih];cases mget seq a d <;> rfl
 exact h sc 0
theorem Rel.f123 {k:Nat} {p:List aae} {f:aae} {nm:List ByteArray} {sc:List (List (ByteArray × Int))} {lo:Int} {vis:List Nat} (R:Rel sc vis nm) (a:ByteArray) :
  Go.Proofs.YtoegpkmhifmamaaGreatDoor.f123 k (.mk (.mk p) f nm sc lo) a=some (match abN nm vis a with | some v=>((v:Int),true) | none=>(0,false)):=by
 rw [au2,R.look];cases abN nm vis a <;> rfl
theorem aej (k:Nat) (b:Bool) (c:Int):f77 k b c=some (cond b (.ok ()) (.error c)):=by cases b <;> rfl
theorem nU (k:Nat) (p:List aae) (f:aae) {nm:List ByteArray} {sc:List (List (ByteArray × Int))} (lo:Int) {vis:List Nat} (R:Rel sc vis nm) : ∀ m,
  (∀ e,2 * szE e≤m→szE e≤100000→(abF k m).f1013722 e (.mk (.mk p) f nm sc lo)=some (uE nm vis e)) ∧
  (∀ l,2 * szEs l + 1≤m→szEs l≤100000→(abF k m).f1012222 l (.mk (.mk p) f nm sc lo)=some (uEs nm vis l))
 | 0=>⟨fun e h=>by have:=agb e; omega,fun l h=>by omega⟩
 | m + 1=>by
  obtain ⟨ihe,ihl⟩:=nU k p f lo R m;constructor
  ·intro e h hb;obtain ⟨op,num,txt,slot,l⟩:=e;obtain ⟨f0,f1,f2,f3,f4,f5⟩:=f;simp only [szE] at h hb;show aev k (abF k m) (.mk op num txt slot l) (.mk (.mk p) (.mk f0 f1 f2 f3 f4 f5) nm sc lo)=_;unfold aev uE;simp only;rw [ihl l (by omega) (by omega)];simp only [Option.bind_some];cases uEs nm vis l with
   | error c=>rfl
   | ok l' =>
    simp only;unfold alm afM;simp only;rw [R.f123];simp only [Option.bind_some,aej,bne];cases (op == 4) <;> cases abN nm vis txt <;> rfl
  ·intro l h hb;obtain ⟨f0,f1,f2,f3,f4,f5⟩:=f;show ab4 k (abF k m) p f0 f1 f2 f3 f4 f5 nm sc lo l 0 []=_;have loop : ∀ (l:List aah) (i:Nat) (xs:List aah),2 * szEs l≤m→xs.length + szEs l≤100000→ab4 k (abF k m) p f0 f1 f2 f3 f4 f5 nm sc lo l i xs=some (match uEs nm vis l with | .error c=>.error c | .ok l'=>.ok (xs ++ l')):=by
    intro l;induction l with
    | nil=>intro i xs _ _; simp [ab4,uEs]
    | cons e l ih =>
     intro i xs hm hx;obtain ⟨e0,e1,e2,e3,e4⟩:=e;simp only [szEs] at hm hx;have hp:=agb (.mk e0 e1 e2 e3 e4);unfold ab4 uEs;rw [ihe (.mk e0 e1 e2 e3 e4) (by omega) (by omega)];simp only [Option.bind_some];cases uE nm vis (.mk e0 e1 e2 e3 e4) with
     | error c=>rfl
     | ok e' =>
      obtain ⟨r0,r1,r2,r3,r4⟩:=e';simp only;rw [abb (by unfold maxB; omega),ih (i + 1) _ (by omega) (by rw [abS]; omega)];cases uEs nm vis l with
      | error c=>rfl
      | ok l'=>simp
   rw [loop l 0 [] (by omega) (by simpa using hb)];cases uEs nm vis l <;> simp
theorem aqD (k:Nat) (p:List aae) (f:aae) {nm:List ByteArray} {sc:List (List (ByteArray × Int))} (lo:Int) {vis:List Nat} (R:Rel sc vis nm) (l:List aah) (hk:2 * szEs l + 1≤k) (hb:szEs l≤100000) :
  f124 k (.mk (.mk p) f nm sc lo) l=some (uEs nm vis l):=by
 have h:=(nU k p f lo R k).2 l hk hb;obtain ⟨f0,f1,f2,f3,f4,f5⟩:=f;unfold f124 aom f1012222;simp only;rw [h];cases uEs nm vis l <;> rfl
theorem auf {nm:List ByteArray} {vis:List Nat} : ∀ m,(∀ e c,szE e≤m→uE nm vis e=.error c→c=20)∧(∀ l c,szEs l≤m→uEs nm vis l=.error c→c=20)
 | 0=>⟨fun e c h=>by have:=agb e; omega,fun l c h hu=>by
   cases l with
   | nil=>cases hu
   | cons e l=>have:=agb e; simp only [szEs] at h; omega⟩
 | m + 1=>by
  obtain ⟨ihe,ihl⟩:=auf (nm:=nm) (vis:=vis) m;have he : ∀ e c,szE e≤m + 1→uE nm vis e=.error c→c=20:=by
   intro e c h hu;obtain ⟨op,num,txt,slot,l⟩:=e;simp only [szE] at h;unfold uE at hu;cases hl:uEs nm vis l with
   | error c'=>rw [hl] at hu; have:=ihl l c' (by omega) hl; cases hu; exact this
   | ok l' =>
    rw [hl] at hu;cases h4:(op == 4) <;> rw [h4] at hu
    ·cases hu
    ·cases hs:abN nm vis txt <;> simp only [hs,cond_true] at hu <;> cases hu
     rfl
  refine ⟨he,?_⟩;intro l;induction l with
  | nil=>intro c _ hu; cases hu
  | cons e l ih =>
   intro c h hu;simp only [szEs] at h;unfold uEs at hu;cases he' : uE nm vis e with
   | error c'=>rw [he'] at hu; have:=he e c' (by omega) he'; cases hu; exact this
   | ok e' =>
    rw [he'] at hu;cases hl:uEs nm vis l with
    | error c'=>rw [hl] at hu; have:=ih c' (by omega) hl; cases hu; exact this
    | ok l'=>rw [hl] at hu; cases hu
theorem axw {nm:List ByteArray} {vis:List Nat} {e:List aah} {c:Int} (h:uEs nm vis e=.error c):c=20:=(auf _).2 e c (Nat.le_refl _) h
def eb {α β:Type} (u:Ex α) (f:α→Ex β):Ex β:=match u with | .error c=>.error c | .ok x=>f x
def eb3 {α β:Type} (u:Ex (List ByteArray × List Nat × α)) (f:List ByteArray→List Nat→α→Ex β):Ex β:=match u with | .error c=>.error c | .ok (a,b,x)=>f a b x
def uMk (nm:List ByteArray) (vis:List Nat) (a:ByteArray):Ex (List ByteArray × List Nat × Int) :=
 match abN nm vis a with | some _=>.error 21 | none=>.ok (nm ++ [a],vis ++ [nm.length],(nm.length:Int))
def uCall (op:Int) (fr:ByteArray) (na:Nat):List aae→Nat→Ex Int
 | [],_=>.error 20
 | .mk nm ps _ fl _ _ :: l,i=>cond (seq nm fr) (cond (fl == (op == 28)) (cond ((ps.length:Int) == (na:Int)) (.ok (i:Int)) (.error 24)) (.error 25)) (uCall op fr na l (i + 1))
def uD {α:Type} (b:Bool) (c:Int) (x:Ex α):Ex α:=cond b x (.error c)
section
variable (fs:List aae) (f2:Int) (f3:Bool)
mutual
def uS:Nat→List ByteArray→List Nat→aaf→Ex (List ByteArray × List Nat × aaf)
 | lo,nm,vis,.mk op name s2 fr s4 flag l6 l7 l8 l9 l10 =>
  eb (uEs nm vis l6) fun r6 =>
  cond (op == 27) (eb3 (uCs lo nm vis l10) fun nm1 _ cs=>.ok (nm1,vis,.mk op name s2 fr s4 flag r6 l7 l8 l9 cs))
  (eb (cond (seq fr ⟨#[]⟩) (.ok s4) (uCall op fr r6.length fs 0)) fun ix =>
  cond (op == 2) (match abN nm vis name with | none=>.error 20 | some v=>.ok (nm,vis,.mk op name (v:Int) fr ix flag r6 l7 l8 l9 l10))
  (cond (op == 18 || op == 19) (uD (decide (lo > 0)) 22 (.ok (nm,vis,.mk op name s2 fr ix flag r6 l7 l8 l9 l10)))
  (cond (op == 29) (uD f3 22 (.ok (nm,vis,.mk op name s2 fr ix flag r6 l7 l8 l9 l10)))
  (cond (op == 17) (uD ((decide (r6.length > 0)) == (f2 != 0)) 22 (.ok (nm,vis,.mk op name s2 fr ix flag r6 l7 l8 l9 l10)))
  (cond (op == 21) (eb3 (uB (lo + 1) nm vis l7) fun nm1 _ b=>.ok (nm1,vis,.mk op name s2 fr ix flag r6 b l8 l9 l10))
  (cond (op == 28) (eb3 (uI (lo + 1) nm vis name s2 l7) fun nm1 _ vb=>.ok (nm1,vis,.mk op name vb.1 fr ix flag r6 vb.2 l8 l9 l10))
  (cond (op == 25) (eb3 (uI lo nm vis name s2 l7) fun nm1 _ vb=>.ok (nm1,vis,.mk op name vb.1 fr ix flag r6 vb.2 l8 l9 l10))
  (cond (op == 24) (eb3 (uB lo nm vis l7) fun nm1 _ b7=>eb3 (uI lo nm1 vis name s2 l8) fun nm2 _ vb=>eb3 (uB lo nm2 vis l9) fun nm3 _ b9=>.ok (nm3,vis,.mk op name vb.1 fr ix flag r6 b7 vb.2 b9 l10))
  (cond (op == 20 || op == 22 || op == 23 || op == 26) (eb3 (uB lo nm vis l7) fun nm1 _ b7=>eb3 (uB lo nm1 vis l8) fun nm2 _ b8=>.ok (nm2,vis,.mk op name s2 fr ix flag r6 b7 b8 l9 l10))
   (eb3 (cond (seq name ⟨#[]⟩) (.ok (nm,vis,s2)) (uMk nm vis name)) fun nm1 vis1 v=>uD (op != 6 || flag == 0 || decide (lo > 0)) 22 (.ok (nm1,vis1,.mk op name v fr ix flag r6 l7 l8 l9 l10))))))))))))
def uSs:Nat→List ByteArray→List Nat→List aaf→Ex (List ByteArray × List Nat × List aaf)
 | _,nm,vis,[]=>.ok (nm,vis,[])
 | lo,nm,vis,s :: l=>eb3 (uS lo nm vis s) fun nm1 vis1 s'=>eb3 (uSs lo nm1 vis1 l) fun nm2 vis2 l'=>.ok (nm2,vis2,s' :: l')
def uB:Nat→List ByteArray→List Nat→List aaf→Ex (List ByteArray × List Nat × List aaf)
 | _,nm,vis,[]=>.ok (nm,vis,[])
 | lo,nm,vis,s :: l=>eb3 (uS lo nm vis s) fun nm1 vis1 s'=>eb3 (uSs lo nm1 vis1 l) fun nm2 vis2 l'=>.ok (nm2,vis,s' :: l')
def uI:Nat→List ByteArray→List Nat→ByteArray→Int→List aaf→Ex (List ByteArray × List Nat × (Int × List aaf))
 | lo,nm,vis,name,s2,[]=>eb3 (cond (seq name ⟨#[]⟩) (.ok (nm,vis,s2)) (uMk nm vis name)) fun nm1 _ v=>.ok (nm1,vis,(v,[]))
 | lo,nm,vis,name,s2,s :: l=>eb3 (cond (seq name ⟨#[]⟩) (.ok (nm,vis,s2)) (uMk nm vis name)) fun nm1 vis1 v=>eb3 (uS lo nm1 vis1 s) fun nm2 vis2 s'=>eb3 (uSs lo nm2 vis2 l) fun nm3 _ l'=>.ok (nm3,vis,(v,s' :: l'))
def uC:Nat→List ByteArray→List Nat→aaB→Ex (List ByteArray × List Nat × aaB)
 | lo,nm,vis,.mk kind name slot es b=>eb (uEs nm vis es) fun r=>eb3 (uI lo nm vis name slot b) fun nm1 _ vb=>.ok (nm1,vis,.mk kind name vb.1 r vb.2)
def uCs:Nat→List ByteArray→List Nat→List aaB→Ex (List ByteArray × List Nat × List aaB)
 | _,nm,vis,[]=>.ok (nm,vis,[])
 | lo,nm,vis,c :: l=>eb3 (uC lo nm vis c) fun nm1 _ c'=>eb3 (uCs lo nm1 vis l) fun nm2 _ l'=>.ok (nm2,vis,c' :: l')
end
theorem arh (lo:Nat) (nm:List ByteArray) (vis:List Nat) (l:List aaf):uB fs f2 f3 lo nm vis l=eb3 (uSs fs f2 f3 lo nm vis l) fun nm1 _ l'=>.ok (nm1,vis,l'):=by
 cases l with
 | nil=>simp [uB,uSs,eb3]
 | cons s l =>
  rw [uB,uSs];cases uS fs f2 f3 lo nm vis s with
  | error c=>rfl
  | ok x =>
   simp only [eb3];cases uSs fs f2 f3 lo x.1 x.2.1 l <;> rfl
theorem ajk (lo:Nat) (nm:List ByteArray) (vis:List Nat) (name:ByteArray) (s2:Int) (l:List aaf):uI fs f2 f3 lo nm vis name s2 l =
  eb3 (cond (seq name ⟨#[]⟩) (.ok (nm,vis,s2)) (uMk nm vis name)) fun nm1 vis1 v=>eb3 (uSs fs f2 f3 lo nm1 vis1 l) fun nm2 _ l'=>.ok (nm2,vis,(v,l')):=by
 cases l with
 | nil=>simp [uI,uSs,eb3]
 | cons s l =>
  rw [uI];congr 1;funext nm1 vis1 v;rw [uSs];cases uS fs f2 f3 lo nm1 vis1 s with
  | error c=>rfl
  | ok x =>
   simp only [eb3];cases uSs fs f2 f3 lo x.1 x.2.1 l <;> rfl
end
theorem ajv {nm nm' : List ByteArray} {vis:List Nat} (hv:okV nm vis) (hn:nm <+: nm') (a:ByteArray):abN nm' vis a=abN nm vis a:=by
 obtain ⟨t,rfl⟩:=hn;unfold abN;induction vis with
 | nil=>rfl
 | cons v vis ih =>
  have h:v < nm.length:=hv v (by simp);rw [List.find?_cons,List.find?_cons,List.getElem?_append_left h,ih (fun w hw=>hv w (by simp [hw]))]
theorem ao0 {nm:List ByteArray} {vis:List Nat} (hv:okV nm vis) (a b:ByteArray) (hn:abN nm vis a=none):abN (nm ++ [a]) (vis ++ [nm.length]) b=match abN nm vis b with | some v=>some v | none=>cond (seq a b) (some nm.length) none:=by
 have h1:=ajv (nm':=nm ++ [a]) hv ⟨[a],rfl⟩ b;unfold abN at h1 ⊢;rw [List.find?_append,h1];cases List.find? (fun v=>match nm[v]? with | some b_1=>seq b_1 b | none=>false) vis with
 | some v=>rfl
 | none =>
  simp only [Option.none_or,List.find?_cons,List.find?_nil];have:(nm ++ [a])[nm.length]?=some a:=by simp
  rw [this];dsimp only;cases seq a b <;> rfl
theorem aoG {a b:ByteArray} (h:seq a b=true):a=b:=by
 unfold seq at h;rw [ByteArray.toList_eq,ByteArray.toList_eq] at h;have h:=eq_of_beq h;obtain ⟨⟨a⟩⟩:=a; obtain ⟨⟨b⟩⟩:=b
 exact congrArg (fun l=>(⟨⟨l⟩⟩:ByteArray)) h
theorem auM (a b:ByteArray):seq a b=true↔a=b:=⟨aoG,fun h=>h ▸ anZ a⟩
theorem aor (a:ByteArray) (k:Int) (b:ByteArray) : ∀ d:List (ByteArray × Int),mget seq b (mput seq a k d)=cond (seq a b) (some k) (mget seq b d)
 | []=>by
  unfold mput mget;rw [ahV b a];cases seq a b <;> rfl
 | (x,v) :: d=>by
  unfold mput;cases h:seq a x with
  | true =>
   obtain rfl:=aoG h;simp only [if_true,mget];rw [ahV b a];cases seq a b <;> rfl
  | false =>
   rw [if_neg (by simp)];simp only [mget,aor a k b d];cases hb:seq b x with
   | false=>simp
   | true =>
    obtain rfl:=aoG hb;simp [h]
theorem alE (a:ByteArray) : ∀ (x y:List (List (ByteArray × Int))),lkU a (x ++ y)=match lkU a x with | some v=>some v | none=>lkU a y
 | [],y=>rfl
 | d :: x,y=>by
  simp only [List.cons_append,lkU,alE a x y];cases mget seq a d <;> rfl
theorem anq (a:ByteArray) (d:List (ByteArray × Int)):lkU a [d]=mget seq a d:=by
 unfold lkU; cases mget seq a d <;> rfl
theorem Rel.push {sc:List (List (ByteArray × Int))} {vis:List Nat} {nm:List ByteArray} (R:Rel sc vis nm):Rel (sc ++ [[]]) vis nm :=
 ⟨fun a=>by rw [alE,anq,← R.look a]; cases lkU a sc <;> rfl,R.ok⟩
theorem Rel.ext {sc:List (List (ByteArray × Int))} {vis:List Nat} {nm nm' : List ByteArray} (R:Rel sc vis nm) (h:nm <+: nm'):Rel sc vis nm' :=
 ⟨fun a=>by rw [R.look,ajv R.ok h],fun v hv=>Nat.lt_of_lt_of_le (R.ok v hv) h.length_le⟩
theorem Rel.make {pre:List (List (ByteArray × Int))} {d:List (ByteArray × Int)} {vis:List Nat} {nm:List ByteArray} {a:ByteArray} (R:Rel (pre ++ [d]) vis nm) (hn:abN nm vis a=none) :
  Rel (pre ++ [mput seq a (nm.length:Int) d]) (vis ++ [nm.length]) (nm ++ [a]):=by
 refine ⟨fun b=>?_,fun v hv=>?_⟩
 ·rw [ao0 R.ok a b hn,alE,anq,aor];have h:=R.look b;rw [alE,anq] at h;cases hs:seq a b with
  | false =>
   simp only [cond_false];rw [h];cases abN nm vis b <;> rfl
  | true =>
   obtain rfl:=aoG hs;rw [hn] at h ⊢;simp only [Option.map_none] at h;cases hp:lkU a pre with
   | some v=>rw [hp] at h; cases h
   | none=>rfl
 ·rcases List.mem_append.1 hv with hv | hv
  ·have:=R.ok v hv; simp; omega
  ·simp at hv; simp; omega
theorem awh (k:Nat) (p:List aae) (f:aae) {nm:List ByteArray} {pre:List (List (ByteArray × Int))} {d:List (ByteArray × Int)} (lo:Int) {vis:List Nat} (R:Rel (pre ++ [d]) vis nm) (a:ByteArray) (hb:nm.length≤1000000) (hp:pre.length≤1000000) :
  f104 k (.mk (.mk p) f nm (pre ++ [d]) lo) a=some (match uMk nm vis a with | .error c=>.error c | .ok (nm',_,v)=>.ok (.mk (.mk p) f nm' (pre ++ [mput seq a (nm.length:Int) d]) lo,v)):=by
 have h119:=R.f123 (k:=k) (p:=p) (f:=f) (lo:=lo) a;obtain ⟨f0,f1,f2,f3,f4,f5⟩:=f;unfold f104 aop uMk;simp only;rw [h119];cases abN nm vis a with
 | some v=>rfl
 | none =>
  simp only [Option.bind_some,aej,Bool.not_false,cond_true];rw [abb (by unfold maxB; omega)];have e1:w64 (((pre ++ [d]).length:Int) - 1)=(pre.length:Int):=aby (n:=pre.length) (by simp) (by omega);rw [e1,anV pre d [] _ rfl];simp
def fdL (fr:ByteArray):List aae→Nat→Option Int
 | [],_=>some (-1)
 | .mk nm _ _ _ _ _ :: l,i=>cond (seq nm fr) (some (i:Int)) (fdL fr l (i + 1))
theorem aiX (k:Nat) (s0:Int) (s1:ByteArray) (s2:Int) (fr:ByteArray) (s4 s5:Int) (s6:List aah) (s7 s8 s9:List aaf) (s10:List aaB) : ∀ (l:List aae) (i:Nat),
  acR k s0 s1 s2 fr s4 s5 s6 s7 s8 s9 s10 l i=fdL fr l i
 | [],i=>rfl
 | .mk e0 e1 e2 e3 e4 e5 :: l,i=>by
  unfold acR fdL akK afL;simp only [Option.bind_some];rw [aiX k s0 s1 s2 fr s4 s5 s6 s7 s8 s9 s10 l (i + 1)]
theorem apB (op:Int) (fr:ByteArray) (na:Nat) : ∀ (l:List aae) (pre:List aae),∃ r,fdL fr l pre.length=some r ∧
  ((r=-1∧uCall op fr na l pre.length=.error 20)∨(∃ (j:Nat) (g0:ByteArray) (g1:List aaR) (g2:Int) (g3:Bool) (g4:Int) (g5:List aaf),r=(j:Int)∧(pre ++ l)[j]?=some (.mk g0 g1 g2 g3 g4 g5) ∧
   uCall op fr na l pre.length=cond (g3 == (op == 28)) (cond ((g1.length:Int) == (na:Int)) (.ok (j:Int)) (.error 24)) (.error 25)))
 | [],pre=>⟨-1,rfl,.inl ⟨rfl,rfl⟩⟩
 | .mk g0 g1 g2 g3 g4 g5 :: l,pre=>by
  unfold fdL uCall;cases h:seq g0 fr with
  | true=>exact ⟨_,rfl,.inr ⟨pre.length,g0,g1,g2,g3,g4,g5,rfl,by simp,rfl⟩⟩
  | false =>
   obtain ⟨r,h1,h2⟩:=apB op fr na l (pre ++ [.mk g0 g1 g2 g3 g4 g5]);rw [abS] at h1 h2;rw [List.append_assoc,List.singleton_append] at h2;exact ⟨r,h1,h2⟩
theorem avb (k:Nat) (p:List aae) (f:aae) (nm:List ByteArray) (sc:List (List (ByteArray × Int))) (lo:Int) (op:Int) (name:ByteArray) (s2:Int) (fr:ByteArray) (s4 flag:Int) (l6:List aah) (l7 l8 l9:List aaf) (l10:List aaB) :
  f126 k (.mk (.mk p) f nm sc lo) (.mk op name s2 fr s4 flag l6 l7 l8 l9 l10)=some (match uCall op fr l6.length p 0 with | .error c=>.error c | .ok ix=>.ok (.mk (.mk p) f nm sc lo,.mk op name s2 fr ix flag l6 l7 l8 l9 l10)):=by
 obtain ⟨f0,f1,f2,f3,f4,f5⟩:=f;unfold f126 aob alo afG;simp only;rw [aiX];obtain ⟨r,h1,h2⟩:=apB op fr l6.length p [];simp only [List.length_nil,List.nil_append] at h1 h2;rw [h1];simp only [Option.bind_some,aej];rcases h2 with ⟨rfl,h2⟩ | ⟨j,g0,g1,g2,g3,g4,g5,rfl,h3,h2⟩
 ·rw [h2]; rfl
 ·rw [h2];have:idxO p (j:Int)=some (.mk g0 g1 g2 g3 g4 g5):=by unfold idxO; rw [if_pos (by omega)]; simpa using h3
  have hj:decide ((j:Int) ≥ 0)=true:=by simp
  rw [this,hj];simp only [cond_true,Option.bind_some];cases (g3 == (op == 28)) <;> cases ((g1.length:Int) == (l6.length:Int)) <;> rfl
end Go.Proofs.YtoegpkmhifmamaaGreatDoor
namespace Go.Proofs.YtoegpkmhifmamaaGreatDoor
open Go
abbrev Sc:=List (List (ByteArray × Int))
def NN {α:Type} (r:Option (Ex (aad × α))) (p:List aae) (f:aae) (lo:Nat) (pre:Sc) (nm:List ByteArray) (u:Ex (List ByteArray × List Nat × α)) (n:Nat):Prop :=
 match u with
 | .error c=>r=some (.error c)
 | .ok (nm',vis',y)=>∃ d',r=some (.ok (.mk (.mk p) f nm' (pre ++ [d']) lo,y))∧Rel (pre ++ [d']) vis' nm'∧nm <+: nm'∧nm'.length≤nm.length + n
def NB {α β:Type} (r:Option (Ex (aad × β))) (p:List aae) (f:aae) (lo:Nat) (sc:Sc) (nm:List ByteArray) (u:Ex (List ByteArray × List Nat × α)) (g:α→β) (n:Nat):Prop :=
 match u with
 | .error c=>r=some (.error c)
 | .ok (nm',_,y)=>r=some (.ok (.mk (.mk p) f nm' sc lo,g y))∧nm <+: nm'∧nm'.length≤nm.length + n
theorem ahY (k:Nat) (p:List aae) (f:aae) {nm:List ByteArray} {pre:Sc} {d:List (ByteArray × Int)} (lo:Nat) {vis:List Nat} (R:Rel (pre ++ [d]) vis nm) (a:ByteArray) (hb:nm.length≤1000000) (hp:pre.length≤1000000) :
  NN (f104 k (.mk (.mk p) f nm (pre ++ [d]) lo) a) p f lo pre nm (uMk nm vis a) 1:=by
 rw [awh k p f lo R a hb hp];unfold uMk NN;cases hs:abN nm vis a with
 | some v=>rfl
 | none=>exact ⟨_,rfl,R.make hs,⟨[a],rfl⟩,by simp⟩
theorem apA (lo:Nat):decide ((lo:Int) > 0)=decide (lo > 0):=by rw [decide_eq_decide]; omega
theorem aio {α:Type} (sc:Sc) (d:List (ByteArray × Int)) (h:sc.length≤1000000) (x:Option α):aaT (decide (0≤(w64 (((sc ++ [d]).length:Int) - 1))∧(w64 (((sc ++ [d]).length:Int) - 1))≤((sc ++ [d]).length:Int))) x=x:=by
 have e1:w64 (((sc ++ [d]).length:Int) - 1)=(sc.length:Int):=aby (n:=sc.length) (by simp) (by omega);rw [e1];have:(0≤(sc.length:Int)∧(sc.length:Int)≤((sc ++ [d]).length:Int)):=⟨by omega,by simp; omega⟩;rw [decide_eq_true this]; rfl
theorem ajX (sc:Sc) (d:List (ByteArray × Int)) (h:sc.length≤1000000):(sc ++ [d]).take (w64 (((sc ++ [d]).length:Int) - 1)).toNat=sc:=by
 have e1:w64 (((sc ++ [d]).length:Int) - 1)=(sc.length:Int):=aby (n:=sc.length) (by simp) (by omega);rw [e1]; simp
theorem nR (k:Nat) (p:List aae) (f0:ByteArray) (f1:List aaR) (f2:Int) (f3:Bool) (f4:Int) (f5:List aaf) : ∀ m,m≤k →
  (∀ s,4 * szS s≤m→∀ (nm:List ByteArray) (vis:List Nat) (pre:Sc) (d:List (ByteArray × Int)) (lo:Nat),nm.length + szS s≤100000→pre.length + szS s≤100000→lo + szS s≤100000→Rel (pre ++ [d]) vis nm →
   NN ((aa9 k m).f105 (.mk (.mk p) (.mk f0 f1 f2 f3 f4 f5) nm (pre ++ [d]) lo) s) p (.mk f0 f1 f2 f3 f4 f5) lo pre nm (uS p f2 f3 lo nm vis s) (szS s)) ∧
  (∀ l,4 * szSs l + 1≤m→∀ (nm:List ByteArray) (vis:List Nat) (sc:Sc) (lo:Nat),nm.length + szSs l≤100000→sc.length + szSs l≤100000→lo + szSs l≤100000→Rel sc vis nm →
   NB ((aa9 k m).f1012566 (.mk (.mk p) (.mk f0 f1 f2 f3 f4 f5) nm sc lo) ⟨#[]⟩ l) p (.mk f0 f1 f2 f3 f4 f5) lo sc nm (uB p f2 f3 lo nm vis l) id (szSs l)) ∧
  (∀ l,4 * szSs l + 1≤m→∀ (name:ByteArray) (s0:Int) (s1:ByteArray) (s2:Int) (s3:ByteArray) (s4 s5:Int) (s6:List aah) (s7 s8 s9:List aaf) (s10:List aaB) (nm:List ByteArray) (vis:List Nat) (sc:Sc) (lo:Nat),nm.length + szSs l + 1≤100000→sc.length + szSs l≤100000→lo + szSs l≤100000→Rel sc vis nm →
   NB ((aa9 k m).f1012531 (.mk (.mk p) (.mk f0 f1 f2 f3 f4 f5) nm sc lo) name l (.mk s0 s1 s2 s3 s4 s5 s6 s7 s8 s9 s10)) p (.mk f0 f1 f2 f3 f4 f5) lo sc nm (uI p f2 f3 lo nm vis name s2 l) (fun vb=>(aaf.mk s0 s1 vb.1 s3 s4 s5 s6 s7 s8 s9 s10,vb.2)) (szSs l + 1)) ∧
  (∀ l,4 * szSs l + 1≤m→∀ (name:ByteArray) (s0:Int) (s1:ByteArray) (s2:Int) (s3:List aah) (s4:List aaf) (nm:List ByteArray) (vis:List Nat) (sc:Sc) (lo:Nat),nm.length + szSs l + 1≤100000→sc.length + szSs l≤100000→lo + szSs l≤100000→Rel sc vis nm →
   NB ((aa9 k m).f1012528 (.mk (.mk p) (.mk f0 f1 f2 f3 f4 f5) nm sc lo) name l (.mk s0 s1 s2 s3 s4)) p (.mk f0 f1 f2 f3 f4 f5) lo sc nm (uI p f2 f3 lo nm vis name s2 l) (fun vb=>(aaB.mk s0 s1 vb.1 s3 s4,vb.2)) (szSs l + 1)) ∧
  (∀ l,4 * szSs l + 2≤m→∀ (nm:List ByteArray) (vis:List Nat) (sc:Sc) (lo:Nat),nm.length + szSs l≤100000→sc.length + szSs l≤100000→lo + szSs l + 1≤100000→Rel sc vis nm →
   NB ((aa9 k m).f1012766 (.mk (.mk p) (.mk f0 f1 f2 f3 f4 f5) nm sc lo) ⟨#[]⟩ l) p (.mk f0 f1 f2 f3 f4 f5) lo sc nm (uB p f2 f3 (lo + 1) nm vis l) id (szSs l)) ∧
  (∀ l,4 * szSs l + 2≤m→∀ (name:ByteArray) (s0:Int) (s1:ByteArray) (s2:Int) (s3:ByteArray) (s4 s5:Int) (s6:List aah) (s7 s8 s9:List aaf) (s10:List aaB) (nm:List ByteArray) (vis:List Nat) (sc:Sc) (lo:Nat),nm.length + szSs l + 1≤100000→sc.length + szSs l≤100000→lo + szSs l + 1≤100000→Rel sc vis nm →
   NB ((aa9 k m).f1012731 (.mk (.mk p) (.mk f0 f1 f2 f3 f4 f5) nm sc lo) name l (.mk s0 s1 s2 s3 s4 s5 s6 s7 s8 s9 s10)) p (.mk f0 f1 f2 f3 f4 f5) lo sc nm (uI p f2 f3 (lo + 1) nm vis name s2 l) (fun vb=>(aaf.mk s0 s1 vb.1 s3 s4 s5 s6 s7 s8 s9 s10,vb.2)) (szSs l + 1))
 | 0,_=>⟨fun e he=>by have:=acl e; omega,fun l hl=>by omega,fun l hl=>by omega,fun l hl=>by omega,fun l hl=>by omega,fun l hl=>by omega⟩
 | m + 1,hmk=>by
  obtain ⟨ihs,ihb,ihi,ihc,ihlb,ihli⟩:=nR k p f0 f1 f2 f3 f4 f5 m (by omega);have loopB : ∀ (l:List aaf) (i:Nat) (xs:List aaf) (nm:List ByteArray) (vis:List Nat) (sc:Sc) (d:List (ByteArray × Int)) (lo:Nat),4 * szSs l≤m→xs.length + szSs l≤100000→nm.length + szSs l≤100000→sc.length + szSs l≤100000→lo + szSs l≤100000→Rel (sc ++ [d]) vis nm →
    NB (acz k (aa9 k m) l i p f0 f1 f2 f3 f4 f5 nm (sc ++ [d]) lo xs) p (.mk f0 f1 f2 f3 f4 f5) lo sc nm (uSs p f2 f3 lo nm vis l) (fun l'=>xs ++ l') (szSs l):=by
   intro l;induction l with
   | nil =>
    intro i xs nm vis sc d lo _ _ _ hsc _ R;unfold acz;rw [aio sc d (by omega),ajX sc d (by omega),uSs];exact ⟨by simp,List.prefix_refl _,by simp⟩
   | cons s l ih =>
    intro i xs nm vis sc d lo hm hxs hnm hsc hlo R;obtain ⟨e0,e1,e2,e3,e4,e5,e6,e7,e8,e9,e10⟩:=s;simp only [szSs] at hm hxs hnm hsc hlo;have hp:=acl (.mk e0 e1 e2 e3 e4 e5 e6 e7 e8 e9 e10);unfold acz;rw [uSs];have h:=ihs (.mk e0 e1 e2 e3 e4 e5 e6 e7 e8 e9 e10) (by omega) nm vis sc d lo (by omega) (by omega) (by omega) R;revert h;cases uS p f2 f3 lo nm vis (.mk e0 e1 e2 e3 e4 e5 e6 e7 e8 e9 e10) with
    | error c=>intro h; simp only [NN] at h; rw [h]; rfl
    | ok x =>
     obtain ⟨nm1,vis1,s'⟩:=x;rintro ⟨d1,h,R1,hp1,hl1⟩;rw [h];obtain ⟨r0,r1,r2,r3,r4,r5,r6,r7,r8,r9,r10⟩:=s';simp only [Option.bind_some,eb3];rw [abb (by unfold maxB; omega)];have h2:=ih (i + 1) (xs ++ [.mk r0 r1 r2 r3 r4 r5 r6 r7 r8 r9 r10]) nm1 vis1 sc d1 lo (by omega) (by rw [abS]; omega) (by omega) (by omega) (by omega) R1;revert h2;cases uSs p f2 f3 lo nm1 vis1 l with
     | error c=>intro h2; exact h2
     | ok x =>
      obtain ⟨nm2,vis2,l'⟩:=x;rintro ⟨h3,hp2,hl2⟩;refine ⟨by rw [h3]; simp,hp1.trans hp2,by simp only [szSs]; omega⟩
  have loopS : ∀ (s0:Int) (s1:ByteArray) (s3:ByteArray) (s4 s5:Int) (s6:List aah) (s7 s8 s9:List aaf) (s10:List aaB) (v:Int) (l:List aaf) (i:Nat) (xs:List aaf) (nm:List ByteArray) (vis:List Nat) (sc:Sc) (d:List (ByteArray × Int)) (lo:Nat),4 * szSs l≤m→xs.length + szSs l≤100000→nm.length + szSs l≤100000→sc.length + szSs l≤100000→lo + szSs l≤100000→Rel (sc ++ [d]) vis nm →
    NB (acB k (aa9 k m) s0 s1 s3 s4 s5 s6 s7 s8 s9 s10 v l i p f0 f1 f2 f3 f4 f5 nm (sc ++ [d]) lo xs) p (.mk f0 f1 f2 f3 f4 f5) lo sc nm (uSs p f2 f3 lo nm vis l) (fun l'=>(aaf.mk s0 s1 v s3 s4 s5 s6 s7 s8 s9 s10,xs ++ l')) (szSs l):=by
   intro s0 s1 s3 s4 s5 s6 s7 s8 s9 s10 v l;induction l with
   | nil =>
    intro i xs nm vis sc d lo _ _ _ hsc _ R;unfold acB;rw [aio sc d (by omega),ajX sc d (by omega),uSs];exact ⟨by simp,List.prefix_refl _,by simp⟩
   | cons s l ih =>
    intro i xs nm vis sc d lo hm hxs hnm hsc hlo R;obtain ⟨e0,e1,e2,e3,e4,e5,e6,e7,e8,e9,e10⟩:=s;simp only [szSs] at hm hxs hnm hsc hlo;have hp:=acl (.mk e0 e1 e2 e3 e4 e5 e6 e7 e8 e9 e10);unfold acB;rw [uSs];have h:=ihs (.mk e0 e1 e2 e3 e4 e5 e6 e7 e8 e9 e10) (by omega) nm vis sc d lo (by omega) (by omega) (by omega) R;revert h;cases uS p f2 f3 lo nm vis (.mk e0 e1 e2 e3 e4 e5 e6 e7 e8 e9 e10) with
    | error c=>intro h; simp only [NN] at h; rw [h]; rfl
    | ok x =>
     obtain ⟨nm1,vis1,s'⟩:=x;rintro ⟨d1,h,R1,hp1,hl1⟩;rw [h];obtain ⟨r0,r1,r2,r3,r4,r5,r6,r7,r8,r9,r10⟩:=s';simp only [Option.bind_some,eb3];rw [abb (by unfold maxB; omega)];have h2:=ih (i + 1) (xs ++ [.mk r0 r1 r2 r3 r4 r5 r6 r7 r8 r9 r10]) nm1 vis1 sc d1 lo (by omega) (by rw [abS]; omega) (by omega) (by omega) (by omega) R1;revert h2;cases uSs p f2 f3 lo nm1 vis1 l with
     | error c=>intro h2; exact h2
     | ok x =>
      obtain ⟨nm2,vis2,l'⟩:=x;rintro ⟨h3,hp2,hl2⟩;refine ⟨by rw [h3]; simp,hp1.trans hp2,by simp only [szSs]; omega⟩
  have loopC : ∀ (s0:Int) (s1:ByteArray) (s3:List aah) (s4:List aaf) (v:Int) (l:List aaf) (i:Nat) (xs:List aaf) (nm:List ByteArray) (vis:List Nat) (sc:Sc) (d:List (ByteArray × Int)) (lo:Nat),4 * szSs l≤m→xs.length + szSs l≤100000→nm.length + szSs l≤100000→sc.length + szSs l≤100000→lo + szSs l≤100000→Rel (sc ++ [d]) vis nm →
    NB (acv k (aa9 k m) s0 s1 s3 s4 v l i p f0 f1 f2 f3 f4 f5 nm (sc ++ [d]) lo xs) p (.mk f0 f1 f2 f3 f4 f5) lo sc nm (uSs p f2 f3 lo nm vis l) (fun l'=>(aaB.mk s0 s1 v s3 s4,xs ++ l')) (szSs l):=by
   intro s0 s1 s3 s4 v l;induction l with
   | nil =>
    intro i xs nm vis sc d lo _ _ _ hsc _ R;unfold acv;rw [aio sc d (by omega),ajX sc d (by omega),uSs];exact ⟨by simp,List.prefix_refl _,by simp⟩
   | cons s l ih =>
    intro i xs nm vis sc d lo hm hxs hnm hsc hlo R;obtain ⟨e0,e1,e2,e3,e4,e5,e6,e7,e8,e9,e10⟩:=s;simp only [szSs] at hm hxs hnm hsc hlo;have hp:=acl (.mk e0 e1 e2 e3 e4 e5 e6 e7 e8 e9 e10);unfold acv;rw [uSs];have h:=ihs (.mk e0 e1 e2 e3 e4 e5 e6 e7 e8 e9 e10) (by omega) nm vis sc d lo (by omega) (by omega) (by omega) R;revert h;cases uS p f2 f3 lo nm vis (.mk e0 e1 e2 e3 e4 e5 e6 e7 e8 e9 e10) with
    | error c=>intro h; simp only [NN] at h; rw [h]; rfl
    | ok x =>
     obtain ⟨nm1,vis1,s'⟩:=x;rintro ⟨d1,h,R1,hp1,hl1⟩;rw [h];obtain ⟨r0,r1,r2,r3,r4,r5,r6,r7,r8,r9,r10⟩:=s';simp only [Option.bind_some,eb3];rw [abb (by unfold maxB; omega)];have h2:=ih (i + 1) (xs ++ [.mk r0 r1 r2 r3 r4 r5 r6 r7 r8 r9 r10]) nm1 vis1 sc d1 lo (by omega) (by rw [abS]; omega) (by omega) (by omega) (by omega) R1;revert h2;cases uSs p f2 f3 lo nm1 vis1 l with
     | error c=>intro h2; exact h2
     | ok x =>
      obtain ⟨nm2,vis2,l'⟩:=x;rintro ⟨h3,hp2,hl2⟩;refine ⟨by rw [h3]; simp,hp1.trans hp2,by simp only [szSs]; omega⟩
  have loopK : ∀ (s0:Int) (s1:ByteArray) (s2:Int) (s3:ByteArray) (s4 s5:Int) (s7 s8 s9:List aaf) (r:List aah) (l:List aaB) (i:Nat) (xs:List aaB) (nm:List ByteArray) (vis:List Nat) (pre:Sc) (d:List (ByteArray × Int)) (lo:Nat),4 * szCs l≤m + 1→xs.length + szCs l≤100000→nm.length + szCs l≤100000→pre.length + szCs l≤100000→lo + szCs l≤100000→Rel (pre ++ [d]) vis nm →
    NB (afm k (aa9 k m) s0 s1 s2 s3 s4 s5 s7 s8 s9 r l i p f0 f1 f2 f3 f4 f5 nm (pre ++ [d]) lo xs) p (.mk f0 f1 f2 f3 f4 f5) lo (pre ++ [d]) nm (uCs p f2 f3 lo nm vis l) (fun l'=>aaf.mk s0 s1 s2 s3 s4 s5 r s7 s8 s9 (xs ++ l')) (szCs l):=by
   intro s0 s1 s2 s3 s4 s5 s7 s8 s9 r l;induction l with
   | nil =>
    intro i xs nm vis pre d lo _ _ _ hsc _ R;unfold afm;rw [uCs];exact ⟨by simp,List.prefix_refl _,by simp⟩
   | cons c l ih =>
    intro i xs nm vis pre d lo hm hxs hnm hsc hlo R;obtain ⟨e0,e1,e2,e3,e4⟩:=c;simp only [szCs,szC] at hm hxs hnm hsc hlo;unfold afm;rw [uCs,uC];rw [aqD k p (.mk f0 f1 f2 f3 f4 f5) lo R e3 (by omega) (by omega)];cases uEs nm vis e3 with
    | error c=>exact rfl
    | ok r3 =>
     simp only [Option.bind_some,eb];have h:=ihc e4 (by omega) e1 e0 e1 e2 r3 e4 nm vis (pre ++ [d]) lo (by omega) (by simp; omega) (by omega) R;revert h;cases uI p f2 f3 lo nm vis e1 e2 e4 with
     | error c=>intro h; simp only [NB] at h; rw [h]; exact rfl
     | ok x =>
      obtain ⟨nm1,vis1,v,b⟩:=x;rintro ⟨h,hp1,hl1⟩;rw [h];simp only [Option.bind_some,eb3];rw [abb (by unfold maxB; omega)];have h2:=ih (i + 1) (xs ++ [.mk e0 e1 v r3 b]) nm1 vis pre d lo (by omega) (by rw [abS]; omega) (by omega) (by omega) (by omega) (R.ext hp1);revert h2;cases uCs p f2 f3 lo nm1 vis l with
      | error c=>intro h2; exact h2
      | ok x =>
       obtain ⟨nm2,vis2,l'⟩:=x;rintro ⟨h3,hp2,hl2⟩;refine ⟨by rw [h3]; simp,hp1.trans hp2,by simp only [szCs,szC]; omega⟩
  refine ⟨?_,?_,?_,?_,?_,?_⟩
  ·intro s hs nm vis pre d lo hnm hpre hlo R;obtain ⟨op,name,s2,fr,s4,flag,l6,l7,l8,l9,l10⟩:=s;simp only [szS] at hs hnm hpre hlo;show NN (amP k (aa9 k m) (.mk (.mk p) (.mk f0 f1 f2 f3 f4 f5) nm (pre ++ [d]) lo) (.mk op name s2 fr s4 flag l6 l7 l8 l9 l10)) p _ lo pre nm _ _;rw [uS];unfold amP;simp only;rw [aqD k p (.mk f0 f1 f2 f3 f4 f5) lo R l6 (by omega) (by omega)];cases uEs nm vis l6 with
   | error c=>exact rfl
   | ok r6 =>
    simp only [Option.bind_some,eb];have stay : ∀ y:aaf,NN (some (.ok (aad.mk (aaa.mk p) (.mk f0 f1 f2 f3 f4 f5) nm (pre ++ [d]) lo,y))) p (.mk f0 f1 f2 f3 f4 f5) lo pre nm (.ok (nm,vis,y)) (szS (.mk op name s2 fr s4 flag l6 l7 l8 l9 l10)) :=
     fun y=>⟨d,rfl,R,List.prefix_refl _,by omega⟩
    cases h27:(op == 27) with
    | true =>
     simp only [cond_true];have h:=loopK op name s2 fr s4 flag l7 l8 l9 r6 l10 0 [] nm vis pre d lo (by omega) (by simp; omega) (by omega) (by omega) (by omega) R;revert h;cases uCs p f2 f3 lo nm vis l10 with
     | error c=>intro h; exact h
     | ok x =>
      obtain ⟨nm1,vis1,cs⟩:=x;rintro ⟨h,hp1,hl1⟩;exact ⟨d,by rw [h]; simp,R.ext hp1,hp1,by simp only [szS]; omega⟩
    | false =>
     simp only [cond_false];have tail : ∀ ix:Int,NN (agY k (aa9 k m) p f0 f1 f2 f3 f4 f5 nm (pre ++ [d]) lo op name s2 fr ix flag r6 l7 l8 l9 l10) p (.mk f0 f1 f2 f3 f4 f5) lo pre nm
       (cond (op == 2) (match abN nm vis name with | none=>.error 20 | some v=>.ok (nm,vis,.mk op name (v:Int) fr ix flag r6 l7 l8 l9 l10))
       (cond (op == 18 || op == 19) (uD (decide (lo > 0)) 22 (.ok (nm,vis,.mk op name s2 fr ix flag r6 l7 l8 l9 l10)))
       (cond (op == 29) (uD f3 22 (.ok (nm,vis,.mk op name s2 fr ix flag r6 l7 l8 l9 l10)))
       (cond (op == 17) (uD ((decide (r6.length > 0)) == (f2 != 0)) 22 (.ok (nm,vis,.mk op name s2 fr ix flag r6 l7 l8 l9 l10)))
       (cond (op == 21) (eb3 (uB p f2 f3 (lo + 1) nm vis l7) fun nm1 _ b=>.ok (nm1,vis,.mk op name s2 fr ix flag r6 b l8 l9 l10))
       (cond (op == 28) (eb3 (uI p f2 f3 (lo + 1) nm vis name s2 l7) fun nm1 _ vb=>.ok (nm1,vis,.mk op name vb.1 fr ix flag r6 vb.2 l8 l9 l10))
       (cond (op == 25) (eb3 (uI p f2 f3 lo nm vis name s2 l7) fun nm1 _ vb=>.ok (nm1,vis,.mk op name vb.1 fr ix flag r6 vb.2 l8 l9 l10))
       (cond (op == 24) (eb3 (uB p f2 f3 lo nm vis l7) fun nm1 _ b7=>eb3 (uI p f2 f3 lo nm1 vis name s2 l8) fun nm2 _ vb=>eb3 (uB p f2 f3 lo nm2 vis l9) fun nm3 _ b9=>.ok (nm3,vis,.mk op name vb.1 fr ix flag r6 b7 vb.2 b9 l10))
       (cond (op == 20 || op == 22 || op == 23 || op == 26) (eb3 (uB p f2 f3 lo nm vis l7) fun nm1 _ b7=>eb3 (uB p f2 f3 lo nm1 vis l8) fun nm2 _ b8=>.ok (nm2,vis,.mk op name s2 fr ix flag r6 b7 b8 l9 l10))
        (eb3 (cond (seq name ⟨#[]⟩) (.ok (nm,vis,s2)) (uMk nm vis name)) fun nm1 vis1 v=>uD (op != 6 || flag == 0 || decide (lo > 0)) 22 (.ok (nm1,vis1,.mk op name v fr ix flag r6 l7 l8 l9 l10)))))))))))) (szS (.mk op name s2 fr s4 flag l6 l7 l8 l9 l10)):=by
      intro ix;unfold agY;cases h2:(op == 2) with
      | true =>
       simp only [cond_true];rw [R.f123];cases abN nm vis name with
       | none=>simp only [Option.bind_some,aej]; exact rfl
       | some v=>simp only [Option.bind_some,aej,cond_true]; exact stay _
      | false =>
       simp only [cond_false];have tail2 : ∀ q,q=(op == 18 || op == 19)→NN (aho k (aa9 k m) p f0 f1 f2 f3 f4 f5 nm (pre ++ [d]) lo op name s2 fr ix flag r6 l7 l8 l9 l10 q) p (.mk f0 f1 f2 f3 f4 f5) lo pre nm
         (cond (op == 18 || op == 19) (uD (decide (lo > 0)) 22 (.ok (nm,vis,.mk op name s2 fr ix flag r6 l7 l8 l9 l10)))
         (cond (op == 29) (uD f3 22 (.ok (nm,vis,.mk op name s2 fr ix flag r6 l7 l8 l9 l10)))
         (cond (op == 17) (uD ((decide (r6.length > 0)) == (f2 != 0)) 22 (.ok (nm,vis,.mk op name s2 fr ix flag r6 l7 l8 l9 l10)))
         (cond (op == 21) (eb3 (uB p f2 f3 (lo + 1) nm vis l7) fun nm1 _ b=>.ok (nm1,vis,.mk op name s2 fr ix flag r6 b l8 l9 l10))
         (cond (op == 28) (eb3 (uI p f2 f3 (lo + 1) nm vis name s2 l7) fun nm1 _ vb=>.ok (nm1,vis,.mk op name vb.1 fr ix flag r6 vb.2 l8 l9 l10))
         (cond (op == 25) (eb3 (uI p f2 f3 lo nm vis name s2 l7) fun nm1 _ vb=>.ok (nm1,vis,.mk op name vb.1 fr ix flag r6 vb.2 l8 l9 l10))
         (cond (op == 24) (eb3 (uB p f2 f3 lo nm vis l7) fun nm1 _ b7=>eb3 (uI p f2 f3 lo nm1 vis name s2 l8) fun nm2 _ vb=>eb3 (uB p f2 f3 lo nm2 vis l9) fun nm3 _ b9=>.ok (nm3,vis,.mk op name vb.1 fr ix flag r6 b7 vb.2 b9 l10))
         (cond (op == 20 || op == 22 || op == 23 || op == 26) (eb3 (uB p f2 f3 lo nm vis l7) fun nm1 _ b7=>eb3 (uB p f2 f3 lo nm1 vis l8) fun nm2 _ b8=>.ok (nm2,vis,.mk op name s2 fr ix flag r6 b7 b8 l9 l10))
          (eb3 (cond (seq name ⟨#[]⟩) (.ok (nm,vis,s2)) (uMk nm vis name)) fun nm1 vis1 v=>uD (op != 6 || flag == 0 || decide (lo > 0)) 22 (.ok (nm1,vis1,.mk op name v fr ix flag r6 l7 l8 l9 l10))))))))))) (szS (.mk op name s2 fr s4 flag l6 l7 l8 l9 l10)):=by
        rintro _ rfl;unfold aho;cases (op == 18 || op == 19) with
        | true =>
         simp only [cond_true,aej,Option.bind_some,apA,uD];cases decide (lo > 0)
         ·exact rfl
         ·exact stay _
        | false =>
        simp only [cond_false];cases (op == 29) with
        | true =>
         simp only [cond_true,aej,Option.bind_some,uD];cases f3
         ·exact rfl
         ·exact stay _
        | false =>
        simp only [cond_false];cases (op == 17) with
        | true =>
         simp only [cond_true,aej,Option.bind_some,uD,apA];cases (decide (r6.length > 0) == (f2 != 0))
         ·exact rfl
         ·exact stay _
        | false =>
        simp only [cond_false];cases (op == 21) with
        | true =>
         simp only [cond_true];have h:=ihlb l7 (by omega) nm vis (pre ++ [d]) lo (by omega) (by simp; omega) (by omega) R;revert h;cases uB p f2 f3 (lo + 1) nm vis l7 with
         | error c=>intro h; simp only [NB] at h; rw [h]; exact rfl
         | ok x =>
          obtain ⟨nm1,vis1,b⟩:=x;rintro ⟨h,hp1,hl1⟩;rw [h];exact ⟨d,rfl,R.ext hp1,hp1,by simp only [szS]; omega⟩
        | false =>
        simp only [cond_false];cases (op == 28) with
        | true =>
         simp only [cond_true];have h:=ihli l7 (by omega) name op name s2 fr ix flag r6 l7 l8 l9 l10 nm vis (pre ++ [d]) lo (by omega) (by simp; omega) (by omega) R;revert h;cases uI p f2 f3 (lo + 1) nm vis name s2 l7 with
         | error c=>intro h; simp only [NB] at h; rw [h]; exact rfl
         | ok x =>
          obtain ⟨nm1,vis1,v,b⟩:=x;rintro ⟨h,hp1,hl1⟩;rw [h];exact ⟨d,rfl,R.ext hp1,hp1,by simp only [szS]; omega⟩
        | false =>
        simp only [cond_false];cases (op == 25) with
        | true =>
         simp only [cond_true];have h:=ihi l7 (by omega) name op name s2 fr ix flag r6 l7 l8 l9 l10 nm vis (pre ++ [d]) lo (by omega) (by simp; omega) (by omega) R;revert h;cases uI p f2 f3 lo nm vis name s2 l7 with
         | error c=>intro h; simp only [NB] at h; rw [h]; exact rfl
         | ok x =>
          obtain ⟨nm1,vis1,v,b⟩:=x;rintro ⟨h,hp1,hl1⟩;rw [h];exact ⟨d,rfl,R.ext hp1,hp1,by simp only [szS]; omega⟩
        | false =>
        simp only [cond_false];cases (op == 24) with
        | true =>
         simp only [cond_true];have h:=ihb l7 (by omega) nm vis (pre ++ [d]) lo (by omega) (by simp; omega) (by omega) R;revert h;cases uB p f2 f3 lo nm vis l7 with
         | error c=>intro h; simp only [NB] at h; rw [h]; exact rfl
         | ok x =>
          obtain ⟨nm1,vis1,b⟩:=x;rintro ⟨h,hp1,hl1⟩;rw [h];simp only [Option.bind_some,eb3,id];have h:=ihi l8 (by omega) name op name s2 fr ix flag r6 b l8 l9 l10 nm1 vis (pre ++ [d]) lo (by omega) (by simp; omega) (by omega) (R.ext hp1);revert h;cases uI p f2 f3 lo nm1 vis name s2 l8 with
          | error c=>intro h; simp only [NB] at h; rw [h]; exact rfl
          | ok x =>
           obtain ⟨nm2,vis2,v,b8⟩:=x;rintro ⟨h,hp2,hl2⟩;rw [h];simp only [Option.bind_some];have h:=ihb l9 (by omega) nm2 vis (pre ++ [d]) lo (by omega) (by simp; omega) (by omega) ((R.ext hp1).ext hp2);revert h;cases uB p f2 f3 lo nm2 vis l9 with
           | error c=>intro h; simp only [NB] at h; rw [h]; exact rfl
           | ok x =>
            obtain ⟨nm3,vis3,b9⟩:=x;rintro ⟨h,hp3,hl3⟩;rw [h];exact ⟨d,rfl,((R.ext hp1).ext hp2).ext hp3,(hp1.trans hp2).trans hp3,by simp only [szS]; omega⟩
        | false =>
        simp only [cond_false];have tail3 : ∀ q,q=(op == 20 || op == 22 || op == 23 || op == 26)→NN (afi k (aa9 k m) p f0 f1 f2 f3 f4 f5 nm (pre ++ [d]) lo op name s2 fr ix flag r6 l7 l8 l9 l10 q) p (.mk f0 f1 f2 f3 f4 f5) lo pre nm
          (cond (op == 20 || op == 22 || op == 23 || op == 26) (eb3 (uB p f2 f3 lo nm vis l7) fun nm1 _ b7=>eb3 (uB p f2 f3 lo nm1 vis l8) fun nm2 _ b8=>.ok (nm2,vis,.mk op name s2 fr ix flag r6 b7 b8 l9 l10))
           (eb3 (cond (seq name ⟨#[]⟩) (.ok (nm,vis,s2)) (uMk nm vis name)) fun nm1 vis1 v=>uD (op != 6 || flag == 0 || decide (lo > 0)) 22 (.ok (nm1,vis1,.mk op name v fr ix flag r6 l7 l8 l9 l10)))) (szS (.mk op name s2 fr s4 flag l6 l7 l8 l9 l10)):=by
         rintro _ rfl;unfold afi;cases (op == 20 || op == 22 || op == 23 || op == 26) with
         | true =>
          simp only [cond_true];have h:=ihb l7 (by omega) nm vis (pre ++ [d]) lo (by omega) (by simp; omega) (by omega) R;revert h;cases uB p f2 f3 lo nm vis l7 with
          | error c=>intro h; simp only [NB] at h; rw [h]; exact rfl
          | ok x =>
           obtain ⟨nm1,vis1,b⟩:=x;rintro ⟨h,hp1,hl1⟩;rw [h];simp only [Option.bind_some,eb3,id];have h:=ihb l8 (by omega) nm1 vis (pre ++ [d]) lo (by omega) (by simp; omega) (by omega) (R.ext hp1);revert h;cases uB p f2 f3 lo nm1 vis l8 with
           | error c=>intro h; simp only [NB] at h; rw [h]; exact rfl
           | ok x =>
            obtain ⟨nm2,vis2,b8⟩:=x;rintro ⟨h,hp2,hl2⟩;rw [h];exact ⟨d,rfl,(R.ext hp1).ext hp2,hp1.trans hp2,by simp only [szS]; omega⟩
         | false =>
          simp only [cond_false];have fin : ∀ (nm1:List ByteArray) (vis1:List Nat) (d1:List (ByteArray × Int)) (v:Int),Rel (pre ++ [d1]) vis1 nm1→nm <+: nm1→nm1.length≤nm.length + 1 →
            NN (ahg k (aa9 k m) op name fr ix flag r6 l7 l8 l9 l10 p f0 f1 f2 f3 f4 f5 nm1 (pre ++ [d1]) lo v) p (.mk f0 f1 f2 f3 f4 f5) lo pre nm
             (uD (op != 6 || flag == 0 || decide (lo > 0)) 22 (.ok (nm1,vis1,.mk op name v fr ix flag r6 l7 l8 l9 l10))) (szS (.mk op name s2 fr s4 flag l6 l7 l8 l9 l10)):=by
           intro nm1 vis1 d1 v R1 hp1 hl1;unfold ahg;simp only [aej,Option.bind_some,apA,uD,cond_true];cases (op != 6) <;> cases (flag == 0) <;> cases decide (lo > 0) <;> first | exact rfl | exact ⟨d1,rfl,R1,hp1,by simp only [szS]; omega⟩
          cases seq name ⟨#[]⟩ with
          | true =>
           simp only [Bool.not_true,cond_false,cond_true,eb3];exact fin nm vis d s2 R (List.prefix_refl _) (by omega)
          | false =>
           simp only [Bool.not_false,cond_true,cond_false];have h:=ahY k p (.mk f0 f1 f2 f3 f4 f5) lo R name (by omega) (by omega);revert h;cases uMk nm vis name with
           | error c=>intro h; simp only [NN] at h; rw [h]; exact rfl
           | ok x =>
            obtain ⟨nm1,vis1,v⟩:=x;rintro ⟨d1,h,R1,hp1,hl1⟩;rw [h];exact fin nm1 vis1 d1 v R1 hp1 hl1
        cases h20:(op == 20) <;> cases h22:(op == 22) <;> cases h23:(op == 23) <;> (have h:=tail3 _ rfl; simp only [h20,h22,h23,Bool.true_or,Bool.or_true,Bool.false_or,cond_true,cond_false] at h ⊢; exact h)
       cases h18:(op == 18) with
       | true=>simp only [cond_true,Bool.true_or]; have h:=tail2 true (by simp [h18]); simpa only [h18,Bool.true_or,cond_true] using h
       | false=>simp only [cond_false,Bool.false_or]; have h:=tail2 (op == 19) (by simp [h18]); simpa only [h18,Bool.false_or] using h
     cases hfr:seq fr ⟨#[]⟩ with
     | true =>
      simp only [Bool.not_true,cond_false,cond_true];exact tail s4
     | false =>
      simp only [Bool.not_false,cond_true,cond_false];rw [avb];cases uCall op fr r6.length p 0 with
      | error c=>exact rfl
      | ok ix=>exact tail ix
  ·intro l hl nm vis sc lo hnm hsc hlo R;show NB (aes k (aa9 k m) (.mk (.mk p) (.mk f0 f1 f2 f3 f4 f5) nm sc lo) ⟨#[]⟩ l) _ _ _ _ _ _ _ _;rw [arh];unfold aes;simp only;rw [abb (by unfold maxB; omega)];have hs:seq ⟨#[]⟩ ⟨#[]⟩=true:=anZ _;rw [hs];simp only [Bool.not_true,cond_false];have h:=loopB l 0 [] nm vis sc [] lo (by omega) (by simp; omega) (by omega) (by omega) (by omega) R.push;revert h;cases uSs p f2 f3 lo nm vis l with
   | error c=>intro h; exact h
   | ok x =>
    obtain ⟨nm1,vis1,l'⟩:=x;rintro ⟨h,hp1,hl1⟩;exact ⟨by rw [h]; simp,hp1,by omega⟩
  ·intro l hl name s0 s1 s2 s3 s4 s5 s6 s7 s8 s9 s10 nm vis sc lo hnm hsc hlo R;show NB (aee k (aa9 k m) (.mk (.mk p) (.mk f0 f1 f2 f3 f4 f5) nm sc lo) name l (.mk s0 s1 s2 s3 s4 s5 s6 s7 s8 s9 s10)) _ _ _ _ _ _ _ _;rw [ajk];unfold aee adI;simp only;rw [abb (by unfold maxB; omega)];cases hn:seq name ⟨#[]⟩ with
   | true =>
    simp only [Bool.not_true,cond_false,cond_true,eb3];have h:=loopS s0 s1 s3 s4 s5 s6 s7 s8 s9 s10 s2 l 0 [] nm vis sc [] lo (by omega) (by simp; omega) (by omega) (by omega) (by omega) R.push;revert h;cases uSs p f2 f3 lo nm vis l with
    | error c=>intro h; exact h
    | ok x =>
     obtain ⟨nm1,vis1,l'⟩:=x;rintro ⟨h,hp1,hl1⟩;exact ⟨by rw [h]; simp,hp1,by omega⟩
   | false =>
    simp only [Bool.not_false,cond_true,cond_false];have h:=ahY k p (.mk f0 f1 f2 f3 f4 f5) lo R.push name (by omega) (by omega);revert h;cases hu:uMk nm vis name with
    | error c=>intro h; simp only [NN] at h; rw [h]; rfl
    | ok x =>
     obtain ⟨nm1,vis1,v⟩:=x;rintro ⟨d1,h,R1,hp1,hl1⟩;rw [h];simp only [Option.bind_some,eb3];have h2:=loopS s0 s1 s3 s4 s5 s6 s7 s8 s9 s10 v l 0 [] nm1 vis1 sc d1 lo (by omega) (by simp; omega) (by omega) (by omega) (by omega) R1;revert h2;cases uSs p f2 f3 lo nm1 vis1 l with
     | error c=>intro h2; exact h2
     | ok x =>
      obtain ⟨nm2,vis2,l'⟩:=x;rintro ⟨h2,hp2,hl2⟩;exact ⟨by rw [h2]; simp,hp1.trans hp2,by omega⟩
  ·intro l hl name s0 s1 s2 s3 s4 nm vis sc lo hnm hsc hlo R;show NB (aen k (aa9 k m) (.mk (.mk p) (.mk f0 f1 f2 f3 f4 f5) nm sc lo) name l (.mk s0 s1 s2 s3 s4)) _ _ _ _ _ _ _ _;rw [ajk];unfold aen adP;simp only;rw [abb (by unfold maxB; omega)];cases hn:seq name ⟨#[]⟩ with
   | true =>
    simp only [Bool.not_true,cond_false,cond_true,eb3];have h:=loopC s0 s1 s3 s4 s2 l 0 [] nm vis sc [] lo (by omega) (by simp; omega) (by omega) (by omega) (by omega) R.push;revert h;cases uSs p f2 f3 lo nm vis l with
    | error c=>intro h; exact h
    | ok x =>
     obtain ⟨nm1,vis1,l'⟩:=x;rintro ⟨h,hp1,hl1⟩;exact ⟨by rw [h]; simp,hp1,by omega⟩
   | false =>
    simp only [Bool.not_false,cond_true,cond_false];have h:=ahY k p (.mk f0 f1 f2 f3 f4 f5) lo R.push name (by omega) (by omega);revert h;cases hu:uMk nm vis name with
    | error c=>intro h; simp only [NN] at h; rw [h]; rfl
    | ok x =>
     obtain ⟨nm1,vis1,v⟩:=x;rintro ⟨d1,h,R1,hp1,hl1⟩;rw [h];simp only [Option.bind_some,eb3];have h2:=loopC s0 s1 s3 s4 v l 0 [] nm1 vis1 sc d1 lo (by omega) (by simp; omega) (by omega) (by omega) (by omega) R1;revert h2;cases uSs p f2 f3 lo nm1 vis1 l with
     | error c=>intro h2; exact h2
     | ok x =>
      obtain ⟨nm2,vis2,l'⟩:=x;rintro ⟨h2,hp2,hl2⟩;exact ⟨by rw [h2]; simp,hp1.trans hp2,by omega⟩
  ·intro l hl nm vis sc lo hnm hsc hlo R;show NB (aer k (aa9 k m) (.mk (.mk p) (.mk f0 f1 f2 f3 f4 f5) nm sc lo) ⟨#[]⟩ l) _ _ _ _ _ _ _ _;unfold aer;simp only;rw [aby (x:=(lo:Int) + 1) (n:=lo + 1) (by omega) (by omega)];have h:=ihb l (by omega) nm vis sc (lo + 1) (by omega) (by omega) (by omega) R;revert h;cases uB p f2 f3 (lo + 1) nm vis l with
   | error c=>intro h; simp only [NB] at h; rw [h]; rfl
   | ok x =>
    obtain ⟨nm1,vis1,l'⟩:=x;rintro ⟨h,hp1,hl1⟩;rw [h];simp only [Option.bind_some];rw [aby (x:=((lo + 1:Nat):Int) - 1) (n:=lo) (by omega) (by omega)];exact ⟨rfl,hp1,hl1⟩
  ·intro l hl name s0 s1 s2 s3 s4 s5 s6 s7 s8 s9 s10 nm vis sc lo hnm hsc hlo R;show NB (aeh k (aa9 k m) (.mk (.mk p) (.mk f0 f1 f2 f3 f4 f5) nm sc lo) name l (.mk s0 s1 s2 s3 s4 s5 s6 s7 s8 s9 s10)) _ _ _ _ _ _ _ _;unfold aeh;simp only;rw [aby (x:=(lo:Int) + 1) (n:=lo + 1) (by omega) (by omega)];have h:=ihi l (by omega) name s0 s1 s2 s3 s4 s5 s6 s7 s8 s9 s10 nm vis sc (lo + 1) (by omega) (by omega) (by omega) R;revert h;cases uI p f2 f3 (lo + 1) nm vis name s2 l with
   | error c=>intro h; simp only [NB] at h; rw [h]; rfl
   | ok x =>
    obtain ⟨nm1,vis1,l'⟩:=x;rintro ⟨h,hp1,hl1⟩;rw [h];simp only [Option.bind_some];rw [aby (x:=((lo + 1:Nat):Int) - 1) (n:=lo) (by omega) (by omega)];exact ⟨rfl,hp1,hl1⟩
def uPs:List ByteArray→List Nat→List aaR→Ex (List ByteArray × List Nat × Unit)
 | nm,vis,[]=>.ok (nm,vis,())
 | nm,vis,.mk a _ :: l=>eb3 (uMk nm vis a) fun nm1 vis1 _=>uPs nm1 vis1 l
def uF (fs:List aae):aae→Ex (aae × List ByteArray)
 | .mk n ps res fl _ b=>eb3 (uPs [] [] ps) fun nm vis _=>eb3 (uSs fs res fl 0 nm vis b) fun nm1 _ b'=>uD (decide (nm1.length≤32)) 5 (.ok (.mk n ps res fl (nm1.length:Int) b',nm1))
def uFs (fs:List aae):List aae→Ex (List aae × List (List ByteArray))
 | []=>.ok ([],[])
 | f :: l=>eb (uF fs f) fun x=>eb (uFs fs l) fun y=>.ok (x.1 :: y.1,x.2 :: y.2)
def af8:aae→ByteArray | .mk n _ _ _ _ _=>n
def hasF (a:ByteArray):List aae→Bool
 | []=>false
 | f :: l=>seq (af8 f) a || hasF a l
def dupF:List aae→List aae→Bool
 | _,[]=>false
 | pre,f :: l=>hasF (af8 f) pre || dupF (pre ++ [f]) l
def uP:aaa→Ex (aaa × List (List ByteArray))
 | .mk fs=>uD (wf false (.mk fs)) 2 (uD (!dupF [] fs) 21 (uD (decide (acA fs=0)) (acA fs) (eb (uFs fs fs) fun x=>.ok (.mk x.1,x.2))))
theorem ael {z:Bool} : ∀ {l:List aae} {f:aae},f ∈ l→cnFs l≤600→gFs z l=true→(match f with | .mk n ps res fl v b=>szSs b≤600∧ps.length≤4∧gSs z b 1=true)
 | .mk n ps res fl v b :: l,f,hf,hc,hg=>by
  simp only [cnFs,cnF] at hc;simp only [gFs,ahT,Bool.and_eq_true,decide_eq_true_eq] at hg;rcases List.mem_cons.1 hf with rfl | h
  ·exact ⟨by omega,hg.1.1.1.1.1.2,hg.2.2.1⟩
  ·exact ael h (by omega) hg.2.2.2
theorem ame (k:Nat) (p:List aae) (n:ByteArray) (ps0:List aaR) (res:Int) (fl:Bool) (v:Int) (b0 b:List aaf) (g1:List aaR) : ∀ (ps:List aaR) (i:Nat) (nm:List ByteArray) (vis:List Nat) (d:List (ByteArray × Int)),nm.length + ps.length≤1000→Rel ([] ++ [d]) vis nm →
  match uPs nm vis ps with
  | .error c=>adY k n g1 res fl b ps i p n ps0 res fl v b0 nm ([] ++ [d]) 0=some (.error c)
  | .ok (nm',vis',_)=>∃ d' j,adY k n g1 res fl b ps i p n ps0 res fl v b0 nm ([] ++ [d]) 0=adY k n g1 res fl b [] j p n ps0 res fl v b0 nm' ([] ++ [d']) 0∧Rel ([] ++ [d']) vis' nm'∧nm'.length≤nm.length + ps.length
 | [],i,nm,vis,d,hn,R=>⟨d,i,rfl,R,by simp⟩
 | .mk a kd :: ps,i,nm,vis,d,hn,R=>by
  simp only [List.length_cons] at hn;have h:=ahY k p (.mk n ps0 res fl v b0) 0 R a (by omega) (by simp);unfold uPs;revert h;cases uMk nm vis a with
  | error c =>
   intro h;simp only [NN] at h;unfold adY;simp only [eb3];rw [show f104 k (.mk (.mk p) (.mk n ps0 res fl v b0) nm ([] ++ [d]) 0) a=some (.error c) from h];rfl
  | ok x =>
   obtain ⟨nm1,vis1,w⟩:=x;rintro ⟨d1,h,R1,hp,hl⟩;simp only [eb3];have ih:=ame k p n ps0 res fl v b0 b g1 ps (i + 1) nm1 vis1 d1 (by omega) R1;have e:adY k n g1 res fl b (.mk a kd :: ps) i p n ps0 res fl v b0 nm ([] ++ [d]) 0=adY k n g1 res fl b ps (i + 1) p n ps0 res fl v b0 nm1 ([] ++ [d1]) 0:=by
    conv=>lhs; unfold adY
    rw [show f104 k (.mk (.mk p) (.mk n ps0 res fl v b0) nm ([] ++ [d]) 0) a=some (.ok (.mk (.mk p) (.mk n ps0 res fl v b0) nm1 ([] ++ [d1]) 0,w)) from h];rfl
   revert ih;cases uPs nm1 vis1 ps with
   | error c=>intro ih; rw [e]; exact ih
   | ok x =>
    obtain ⟨nm2,vis2,u⟩:=x;rintro ⟨d2,j,h2,R2,hl2⟩;exact ⟨d2,j,by rw [e]; exact h2,R2,by simp only [List.length_cons]; omega⟩
theorem amZ (k:Nat) (p:List aae) (n:ByteArray) (ps0:List aaR) (res:Int) (fl:Bool) (v:Int) (b0:List aaf) (g1:List aaR) : ∀ (l:List aaf) (i:Nat) (xs:List aaf) (nm:List ByteArray) (vis:List Nat) (d:List (ByteArray × Int)),4 * szSs l≤k→xs.length + szSs l≤100000→nm.length + szSs l≤100000→Rel ([] ++ [d]) vis nm →
  aht k n res fl g1 l i p n ps0 res fl v b0 nm ([] ++ [d]) 0 xs=some (eb3 (uSs p res fl 0 nm vis l) fun nm1 _ b'=>uD (decide (nm1.length≤32)) 5 (.ok (.mk n g1 res fl (nm1.length:Int) (xs ++ b'),nm1)))
 | [],i,xs,nm,vis,d,hm,hx,hn,R=>by
  unfold aht aoQ;rw [uSs];have e:decide ((nm.length:Int)≤32)=decide (nm.length≤32):=by rw [decide_eq_decide]; omega
  simp only [aej,Option.bind_some,eb3,e,uD,List.append_nil];cases decide (nm.length≤32) <;> rfl
 | s :: l,i,xs,nm,vis,d,hm,hx,hn,R=>by
  simp only [szSs] at hm hx hn;have hp0:=acl s;obtain ⟨e0,e1,e2,e3,e4,e5,e6,e7,e8,e9,e10⟩:=s;unfold aht;rw [uSs];have h:=(nR k p n ps0 res fl v b0 k (Nat.le_refl k)).1 (.mk e0 e1 e2 e3 e4 e5 e6 e7 e8 e9 e10) (by omega) nm vis [] d 0 (by omega) (by simp; omega) (by omega) R;rw [show (aa9 k k).f105=f105 k from rfl,show (((0:Nat):Int))=0 from rfl] at h;revert h;cases uS p res fl 0 nm vis (.mk e0 e1 e2 e3 e4 e5 e6 e7 e8 e9 e10) with
  | error c=>intro h; simp only [NN] at h; rw [h]; rfl
  | ok x =>
   obtain ⟨nm1,vis1,s'⟩:=x;rintro ⟨d1,h,R1,hp,hl⟩;rw [h];obtain ⟨r0,r1,r2,r3,r4,r5,r6,r7,r8,r9,r10⟩:=s';simp only [Option.bind_some,eb3];rw [abb (by unfold maxB; omega)];refine (amZ k p n ps0 res fl v b0 g1 l (i + 1) (xs ++ [.mk r0 r1 r2 r3 r4 r5 r6 r7 r8 r9 r10]) nm1 vis1 d1 (by omega) (by rw [abS]; omega) (by omega) R1).trans ?_;cases uSs p res fl 0 nm1 vis1 l with
   | error c=>rfl
   | ok x=>simp [eb3]
theorem awC (k:Nat) (p:List aae) (f:aae) (h:match f with | .mk n ps res fl v b=>szSs b≤600∧ps.length≤4∧gSs false b 1=true) (hk:4 * 600≤k):f83 k (.mk p) f=some (uF p f):=by
 obtain ⟨n,ps,res,fl,v,b⟩:=f;obtain ⟨h1,h2,h3⟩:=h;unfold f83 arY uF;simp only;have R0:Rel ([] ++ [[]]) [] []:=⟨fun a=>rfl,fun v hv=>by cases hv⟩;have h:=ame k p n ps res fl v b b ps ps 0 [] [] [] (by simp; omega) R0;revert h;cases uPs [] [] ps with
 | error c=>intro h; exact h
 | ok x =>
  obtain ⟨nm,vis,u⟩:=x;rintro ⟨d,j,h,R,hl⟩;refine (h:adY k n ps res fl b ps 0 p n ps res fl v b [] [[]] 0=_).trans ?_;unfold adY f100;rw [abb (by unfold maxB; omega)];simp only [Option.bind_some,eb3];exact amZ k p n ps res fl v b ps b 0 [] nm vis d (by omega) (by simp; omega) (by simp at hl; omega) R
theorem anF (k:Nat) (l:List aae) (f:aae):agH k l f=some (hasF (af8 f) l):=by
 obtain ⟨n,ps,res,fl,v,b⟩:=f;have h : ∀ (l:List aae) (i:Nat),(acQ k n ps res fl v b l i).bind (fun r=>some (decide (r ≥ 0)))=some (hasF n l):=by
  intro l;induction l with
  | nil=>intro i; rfl
  | cons e l ih =>
   intro i;obtain ⟨e0,e1,e2,e3,e4,e5⟩:=e;unfold acQ alH afy hasF;simp only [Option.bind_some,af8];rw [ahV n e0];cases seq e0 n with
   | true=>simp
   | false=>simpa using ih (i + 1)
 unfold agH afv alf afr;exact h l 0
theorem alO (k:Nat) : ∀ (rest pre:List aae),ahD k (pre ++ rest) rest pre.length=some (cond (dupF pre rest) (.error 21) (.ok ()))
 | [],pre=>rfl
 | f :: rest,pre=>by
  unfold ahD dupF;have e:(pre ++ f :: rest).take pre.length=pre:=by simp
  rw [e,anF];simp only [Option.bind_some,aej];cases hasF (af8 f) pre with
  | true=>rfl
  | false =>
   have ih:=alO k rest (pre ++ [f]);rw [abS,List.append_assoc,List.singleton_append] at ih;simpa using ih
theorem alQ (k:Nat) (p:List aae) (hk:4 * 600≤k) : ∀ (rest:List aae) (out:List aae) (names:List (List ByteArray)),(∀ f ∈ rest,match f with | .mk n ps res fl v b=>szSs b≤600∧ps.length≤4∧gSs false b 1=true) →
  agO k (.mk p) rest out names=some (eb (uFs p rest) fun x=>.ok (.mk (out ++ x.1),names ++ x.2))
 | [],out,names,h=>by simp [agO,uFs,eb]
 | f :: rest,out,names,h=>by
  unfold agO uFs;rw [awC k p f (h f (by simp)) hk];cases uF p f with
  | error c=>rfl
  | ok x =>
   simp only [Option.bind_some,eb];rw [alQ k p hk rest (out ++ [x.1]) (names ++ [x.2]) (fun g hg=>h g (by simp [hg]))];cases uFs p rest with
   | error c=>rfl
   | ok y=>simp [eb]
theorem axa (k:Nat) (p:aaa) (hk:2 * szP p + 1≤k) (hk2:4 * 600≤k):f56 k p=some (uP p):=by
 have h78:=atF k p false hk;obtain ⟨fs⟩:=p;unfold f56 uP;simp only [h78,Option.bind_some,aej];cases hw:wf false (.mk fs) with
 | false=>rfl
 | true =>
  simp only [wf,Bool.and_eq_true,decide_eq_true_eq] at hw;have h1:=alO k fs [];simp only [List.nil_append,List.length_nil] at h1;simp only [cond_true,h1,Option.bind_some,uD];cases dupF [] fs with
  | true=>rfl
  | false =>
   simp only [cond_false,cond_true,Bool.not_false,aej,Option.bind_some];cases decide (acA fs=0) with
   | false=>rfl
   | true =>
    simp only [cond_true];rw [alQ k fs hk2 fs [] [] (fun f hf=>ael hf hw.2 hw.1.2)];rfl
theorem axS (k:Nat) (p:aaa) (hk:2 * szP p + 1≤k) (hk2:4 * 600 + 1≤k):f35 k p=some (match uP p with | .error c=>(.mk [],c) | .ok x=>(x.1,0)):=by
 have h:=axa k p hk (by omega);obtain ⟨fs⟩:=p;unfold f35 as7 ahZ ah4 afE;simp only [h,Option.bind_some];cases uP (.mk fs) with
 | error c=>rfl
 | ok x=>obtain ⟨⟨q⟩,l⟩:=x; rfl
theorem afO {α β:Type} {u:Ex α} {f:α→Ex β} {y:β} (h:eb u f=.ok y) : ∃ x,u=.ok x∧f x=.ok y:=by
 cases u with
 | error c=>cases h
 | ok x=>exact ⟨x,rfl,h⟩
theorem aaJ {α β:Type} {u:Ex (List ByteArray × List Nat × α)} {f:List ByteArray→List Nat→α→Ex β} {y:β} (h:eb3 u f=.ok y) : ∃ a b x,u=.ok (a,b,x)∧f a b x=.ok y:=by
 cases u with
 | error c=>cases h
 | ok x=>exact ⟨x.1,x.2.1,x.2.2,rfl,h⟩
theorem agz {α:Type} {b:Bool} {c:Int} {x:Ex α} {y:α} (h:uD b c x=.ok y):b=true∧x=.ok y:=by
 cases b with
 | false=>cases h
 | true=>exact ⟨rfl,h⟩
mutual
theorem axC : ∀ e a,gE false e a=true→stE e=e
 | .mk op num txt slot l,a,h=>by
  simp only [gE,Bool.and_eq_true,Bool.false_or,beq_iff_eq] at h;simp only [stE,aip l _ h.2,h.1.1.2]
theorem aip : ∀ l a,gEs false l a=true→stEs l=l
 | [],a,h=>rfl
 | e :: l,a,h=>by
  simp only [gEs,Bool.and_eq_true] at h;simp only [stEs,axC e a h.1,aip l a h.2]
end
mutual
theorem awk : ∀ s a,gS false s a=true→stS s=s
 | .mk op name s2 fr s4 flag l6 l7 l8 l9 l10,a,h=>by
  simp only [gS,Bool.and_eq_true,Bool.false_or,beq_iff_eq] at h;obtain ⟨⟨⟨_,h2,h4⟩,_⟩,h6,h7,h8,h9,h10⟩:=h;simp only [stS,aip l6 _ h6,aeI l7 _ h7,aeI l8 _ h8,aeI l9 _ h9,ann l10 _ h10,h2,h4]
theorem aeI : ∀ l a,gSs false l a=true→stSs l=l
 | [],a,h=>rfl
 | e :: l,a,h=>by
  simp only [gSs,Bool.and_eq_true] at h;simp only [stSs,awk e a h.1,aeI l a h.2]
theorem ax7 : ∀ c a,gC false c a=true→stC c=c
 | .mk kind name slot es b,a,h=>by
  simp only [gC,Bool.and_eq_true,Bool.false_or,beq_iff_eq] at h;obtain ⟨⟨⟨_,h2⟩,_⟩,h6,h7⟩:=h;simp only [stC,aip es _ h6,aeI b _ h7,h2]
theorem ann : ∀ l a,gCs false l a=true→stCs l=l
 | [],a,h=>rfl
 | .mk k nm s es b :: l,a,h=>by
  simp only [gCs,Bool.and_eq_true] at h;simp only [stCs,ax7 _ a h.1.2,ann l a h.2]
end
mutual
theorem ayB {nm:List ByteArray} {vis:List Nat} : ∀ e a e',gE false e a=true→uE nm vis e=.ok e'→stE e'=e
 | .mk op num txt slot l,a,e',h,hu=>by
  simp only [gE,Bool.and_eq_true,Bool.false_or,beq_iff_eq] at h;obtain ⟨⟨⟨_,rfl⟩,_⟩,hl⟩:=h;unfold uE at hu;revert hu;cases h1:uEs nm vis l with
  | error c=>intro hu; cases hu
  | ok l' =>
   have h2:=an3 l _ l' hl h1;cases op == 4 with
   | false=>intro hu; cases hu; simp only [stE,h2]
   | true =>
    cases abN nm vis txt with
    | none=>intro hu; cases hu
    | some v=>intro hu; cases hu; simp only [stE,h2]
theorem an3 {nm:List ByteArray} {vis:List Nat} : ∀ l a l',gEs false l a=true→uEs nm vis l=.ok l'→stEs l'=l
 | [],a,l',h,hu=>by cases hu; rfl
 | e :: l,a,l',h,hu=>by
  simp only [gEs,Bool.and_eq_true] at h;unfold uEs at hu;revert hu;cases h1:uE nm vis e with
  | error c=>intro hu; cases hu
  | ok e1 =>
   cases h2:uEs nm vis l with
   | error c=>intro hu; cases hu
   | ok l1=>intro hu; cases hu; simp only [stEs,ayB e a e1 h.1 h1,an3 l a l1 h.2 h2]
end
section
variable (fs:List aae) (f2:Int) (f3:Bool)
theorem axb : ∀ n:Nat,
  (∀ s,szS s≤n→∀ a lo nm vis r,gS false s a=true→uS fs f2 f3 lo nm vis s=.ok r→stS r.2.2=s) ∧
  (∀ l,szSs l≤n→∀ a lo nm vis r,gSs false l a=true→uSs fs f2 f3 lo nm vis l=.ok r→stSs r.2.2=l) ∧
  (∀ c,szC c≤n→∀ a lo nm vis r,gC false c a=true→uC fs f2 f3 lo nm vis c=.ok r→stC r.2.2=c) ∧
  (∀ l,szCs l≤n→∀ a lo nm vis r,gCs false l a=true→uCs fs f2 f3 lo nm vis l=.ok r→stCs r.2.2=l)
 | 0=>by
  refine ⟨fun s h=>?_,fun l h=>?_,fun c h=>?_,fun l h=>?_⟩
  ·have:=acl s; omega
  ·cases l with
   | nil=>intro a lo nm vis r _ h; simp only [uSs] at h; cases h; rfl
   | cons s l=>have:=acl s; simp only [szSs] at h; omega
  ·have:=adG c; omega
  ·cases l with
   | nil=>intro a lo nm vis r _ h; simp only [uCs] at h; cases h; rfl
   | cons s l=>have:=adG s; simp only [szCs] at h; omega
 | n + 1=>by
  obtain ⟨i1,i2,i3,i4⟩:=axb n;have a1 : ∀ s,szS s≤n + 1→∀ a lo nm vis r,gS false s a=true→uS fs f2 f3 lo nm vis s=.ok r→stS r.2.2=s:=by
   rintro ⟨op,name,s2,fr,s4,flag,l6,l7,l8,l9,l10⟩ h a lo nm vis r hg hu;simp only [szS] at h;simp only [gS,Bool.and_eq_true,Bool.false_or,beq_iff_eq] at hg;obtain ⟨⟨⟨_,rfl,rfl⟩,_⟩,g6,g7,g8,g9,g10⟩:=hg;have d6:=aip l6 _ g6;have d7:=aeI l7 _ g7;have d8:=aeI l8 _ g8;have d9:=aeI l9 _ g9;have d10:=ann l10 _ g10;have h7:=fun lo nm vis r=>i2 l7 (by omega) _ lo nm vis r g7
   have h8:=fun lo nm vis r=>i2 l8 (by omega) _ lo nm vis r g8
   have h9:=fun lo nm vis r=>i2 l9 (by omega) _ lo nm vis r g9
   have h10:=fun lo nm vis r=>i4 l10 (by omega) _ lo nm vis r g10
   simp only [uS,arh,ajk] at hu;obtain ⟨r6,h6,hu⟩:=afO hu;have e6:=an3 l6 _ r6 g6 h6;clear i1 i2 i3 i4;revert hu;cases op == 27 with
   | true =>
    intro hu;obtain ⟨nm1,v1,cs,h1,hu⟩:=aaJ hu;cases hu;simp only [stS,e6,d7,d8,d9,h10 _ _ _ _ h1]
   | false =>
   intro hu;obtain ⟨ix,_,hu⟩:=afO hu;revert hu;cases op == 2 with
   | true =>
    cases abN nm vis name with
    | none=>intro hu; cases hu
    | some v=>intro hu; cases hu; simp only [stS,e6,d7,d8,d9,d10]
   | false =>
   cases op == 18 || op == 19 with
   | true=>intro hu; obtain ⟨_,hu⟩:=agz hu; cases hu; simp only [stS,e6,d7,d8,d9,d10]
   | false =>
   cases op == 29 with
   | true=>intro hu; obtain ⟨_,hu⟩:=agz hu; cases hu; simp only [stS,e6,d7,d8,d9,d10]
   | false =>
   cases op == 17 with
   | true=>intro hu; obtain ⟨_,hu⟩:=agz hu; cases hu; simp only [stS,e6,d7,d8,d9,d10]
   | false =>
   cases op == 21 with
   | true =>
    intro hu;obtain ⟨nm1,v1,b,h1,hu⟩:=aaJ hu;cases hu;obtain ⟨nm2,v2,b2,h2,h1⟩:=aaJ h1;cases h1;simp only [stS,e6,h7 _ _ _ _ h2,d8,d9,d10]
   | false =>
   cases op == 28 with
   | true =>
    intro hu;obtain ⟨nm1,v1,b,h1,hu⟩:=aaJ hu;cases hu;obtain ⟨nm2,v2,b2,h2,h1⟩:=aaJ h1;obtain ⟨nm3,v3,b3,h3,h1⟩:=aaJ h1;cases h1;simp only [stS,e6,h7 _ _ _ _ h3,d8,d9,d10]
   | false =>
   cases op == 25 with
   | true =>
    intro hu;obtain ⟨nm1,v1,b,h1,hu⟩:=aaJ hu;cases hu;obtain ⟨nm2,v2,b2,h2,h1⟩:=aaJ h1;obtain ⟨nm3,v3,b3,h3,h1⟩:=aaJ h1;cases h1;simp only [stS,e6,h7 _ _ _ _ h3,d8,d9,d10]
   | false =>
   cases op == 24 with
   | true =>
    intro hu;obtain ⟨nm1,v1,b,h1,hu⟩:=aaJ hu;obtain ⟨nm2,v2,b2,h2,h1⟩:=aaJ h1;cases h1;obtain ⟨nm1,v1,b,h1,hu⟩:=aaJ hu;obtain ⟨nm2,v2,b3,h4,h1⟩:=aaJ h1;obtain ⟨nm3,v3,b4,h3,h1⟩:=aaJ h1;cases h1;obtain ⟨nm1,v1,b,h1,hu⟩:=aaJ hu;obtain ⟨nm2,v2,b5,h5,h1⟩:=aaJ h1;cases h1;cases hu;simp only [stS,e6,h7 _ _ _ _ h2,h8 _ _ _ _ h3,h9 _ _ _ _ h5,d10]
   | false =>
   cases op == 20 || op == 22 || op == 23 || op == 26 with
   | true =>
    intro hu;obtain ⟨nm1,v1,b,h1,hu⟩:=aaJ hu;obtain ⟨nm2,v2,b2,h2,h1⟩:=aaJ h1;cases h1;obtain ⟨nm1,v1,b,h1,hu⟩:=aaJ hu;obtain ⟨nm2,v2,b3,h4,h1⟩:=aaJ h1;cases h1;cases hu;simp only [stS,e6,h7 _ _ _ _ h2,h8 _ _ _ _ h4,d9,d10]
   | false =>
    intro hu;obtain ⟨nm1,v1,b,h1,hu⟩:=aaJ hu;obtain ⟨_,hu⟩:=agz hu;cases hu;simp only [stS,e6,d7,d8,d9,d10]
  have a3 : ∀ c,szC c≤n + 1→∀ a lo nm vis r,gC false c a=true→uC fs f2 f3 lo nm vis c=.ok r→stC r.2.2=c:=by
   rintro ⟨kind,name,slot,es,b⟩ h a lo nm vis r hg hu;simp only [szC] at h;simp only [gC,Bool.and_eq_true,Bool.false_or,beq_iff_eq] at hg;obtain ⟨⟨⟨_,rfl⟩,_⟩,g6,g7⟩:=hg;simp only [uC,ajk] at hu;obtain ⟨r6,h6,hu⟩:=afO hu;obtain ⟨nm1,v1,vb,h1,hu⟩:=aaJ hu;obtain ⟨nm2,v2,b2,h2,h1⟩:=aaJ h1;obtain ⟨nm3,v3,b3,h3,h1⟩:=aaJ h1;cases h1;cases hu;simp only [stC,an3 es _ r6 g6 h6,i2 b (by omega) _ _ _ _ _ g7 h3]
  have a2 : ∀ l,szSs l≤n + 1→∀ a lo nm vis r,gSs false l a=true→uSs fs f2 f3 lo nm vis l=.ok r→stSs r.2.2=l:=by
   intro l;induction l with
   | nil=>intro h a lo nm vis r _ hu; simp only [uSs] at hu; cases hu; rfl
   | cons s l ih =>
    intro h a lo nm vis r hg hu;simp only [szSs] at h;simp only [gSs,Bool.and_eq_true] at hg;simp only [uSs] at hu;obtain ⟨nm1,v1,x,h1,hu⟩:=aaJ hu;obtain ⟨nm2,v2,y,h2,hu⟩:=aaJ hu;cases hu;simp only [stSs,a1 s (by omega) _ _ _ _ _ hg.1 h1,ih (by omega) _ _ _ _ _ hg.2 h2]
  have a4 : ∀ l,szCs l≤n + 1→∀ a lo nm vis r,gCs false l a=true→uCs fs f2 f3 lo nm vis l=.ok r→stCs r.2.2=l:=by
   intro l;induction l with
   | nil=>intro h a lo nm vis r _ hu; simp only [uCs] at hu; cases hu; rfl
   | cons s l ih =>
    intro h a lo nm vis r hg hu;obtain ⟨kind,name,slot,es,b⟩:=s;simp only [szCs] at h;simp only [gCs,Bool.and_eq_true] at hg;simp only [uCs] at hu;obtain ⟨nm1,v1,x,h1,hu⟩:=aaJ hu;obtain ⟨nm2,v2,y,h2,hu⟩:=aaJ hu;cases hu;simp only [stCs,a3 _ (by omega) _ _ _ _ _ hg.1.2 h1,ih (by omega) _ _ _ _ _ hg.2 h2]
  exact ⟨a1,a2,a3,a4⟩
end
theorem okWf {fs:List aae} (h:wf false (.mk fs)=true):gFs false fs=true:=by
 simp only [wf,Bool.and_eq_true] at h;exact h.1.2
theorem aup {fs:List aae} {q:aaa} {nl:List (List ByteArray)} (h:uP (.mk fs)=.ok (q,nl)):wf false (.mk fs)=true∧dupF [] fs=false∧acA fs=0∧∃ x,q=.mk x∧uFs fs fs=.ok (x,nl):=by
 unfold uP at h;obtain ⟨h1,h⟩:=agz h;obtain ⟨h2,h⟩:=agz h;obtain ⟨h3,h⟩:=agz h;obtain ⟨x,h4,h⟩:=afO h;cases h;exact ⟨h1,by simpa using h2,by simpa using h3,x.1,rfl,h4⟩
theorem apL : ∀ l,gFs false l=true→stFs l=l
 | [],h=>rfl
 | .mk n ps res fl v b :: l,h=>by
  simp only [gFs,ahT,Bool.and_eq_true,Bool.false_or,beq_iff_eq] at h;obtain ⟨⟨⟨⟨⟨_,hv⟩,_⟩,_⟩,_⟩,_,hb,hl⟩:=h;simp only [stFs,stF,hv,aeI b 1 hb,apL l hl]
theorem auV {p:aaa} (h:wf false p=true):wf true p=true∧stP p=p:=by
 obtain ⟨fs⟩:=p;have e:stP (.mk fs)=.mk fs:=by simp only [stP,apL fs (okWf h)]
 exact ⟨by rw [← ayG,e,h],e⟩
end Go.Proofs.YtoegpkmhifmamaaGreatDoor
namespace Go.Proofs.YtoegpkmhifmamaaGreatDoor
open Go
def Nz {α:Type} (u:Ex α):Prop:=∀ c,u=.error c→c ≠ 0
theorem Nz.ok {α:Type} (x:α):Nz (.ok x:Ex α):=fun c h=>by cases h
theorem Nz.er {α:Type} {c:Int} (h:c ≠ 0):Nz (.error c:Ex α):=fun c' h'=>by cases h'; exact h
theorem Nz.eb {α β:Type} {u:Ex α} {f:α→Ex β} (h:Nz u) (hf : ∀ x,Nz (f x)):Nz (eb u f):=by
 cases u with
 | error c=>intro c' h'; cases h'; exact h c rfl
 | ok x=>exact hf x
theorem Nz.eb3 {α β:Type} {u:Ex (List ByteArray × List Nat × α)} {f:List ByteArray→List Nat→α→Ex β} (h:Nz u) (hf : ∀ a b x,Nz (f a b x)):Nz (eb3 u f):=by
 cases u with
 | error c=>intro c' h'; cases h'; exact h c rfl
 | ok x=>exact hf x.1 x.2.1 x.2.2
theorem Nz.uD {α:Type} {b:Bool} {c:Int} {x:Ex α} (hc:c ≠ 0) (h:Nz x):Nz (uD b c x):=by
 cases b with
 | false=>exact .er hc
 | true=>exact h
theorem Nz.cond {α:Type} {b:Bool} {u v:Ex α} (h:Nz u) (h' : Nz v):Nz (cond b u v):=by
 cases b
 ·exact h'
 ·exact h
theorem Nz.uMk {nm:List ByteArray} {vis:List Nat} {a:ByteArray}:Nz (uMk nm vis a):=by
 unfold Go.Proofs.YtoegpkmhifmamaaGreatDoor.uMk;cases abN nm vis a with
 | none=>exact .ok _
 | some v=>exact .er (by decide)
theorem Nz.uCall {op:Int} {fr:ByteArray} {na:Nat} : ∀ {l:List aae} {i:Nat},Nz (uCall op fr na l i)
 | [],i=>.er (by decide)
 | .mk nm ps r fl v b :: l,i=>by
  unfold Go.Proofs.YtoegpkmhifmamaaGreatDoor.uCall;exact .cond (.cond (.cond (.ok _) (.er (by decide))) (.er (by decide))) .uCall
theorem Nz.uEs {nm:List ByteArray} {vis:List Nat} {l:List aah}:Nz (uEs nm vis l):=fun c h=>by rw [axw h]; decide
section
variable (fs:List aae) (f2:Int) (f3:Bool)
theorem axR : ∀ n:Nat,
  (∀ s,szS s≤n→∀ lo nm vis,Nz (uS fs f2 f3 lo nm vis s)) ∧
  (∀ l,szSs l≤n→∀ lo nm vis,Nz (uSs fs f2 f3 lo nm vis l)) ∧
  (∀ c,szC c≤n→∀ lo nm vis,Nz (uC fs f2 f3 lo nm vis c)) ∧
  (∀ l,szCs l≤n→∀ lo nm vis,Nz (uCs fs f2 f3 lo nm vis l))
 | 0=>by
  refine ⟨fun s h=>?_,fun l h=>?_,fun c h=>?_,fun l h=>?_⟩
  ·have:=acl s; omega
  ·cases l with
   | nil=>intro lo nm vis; simp only [uSs]; exact .ok _
   | cons s l=>have:=acl s; simp only [szSs] at h; omega
  ·have:=adG c; omega
  ·cases l with
   | nil=>intro lo nm vis; simp only [uCs]; exact .ok _
   | cons s l=>have:=adG s; simp only [szCs] at h; omega
 | n + 1=>by
  obtain ⟨i1,i2,i3,i4⟩:=axR n;have a1 : ∀ s,szS s≤n + 1→∀ lo nm vis,Nz (uS fs f2 f3 lo nm vis s):=by
   rintro ⟨op,name,s2,fr,s4,flag,l6,l7,l8,l9,l10⟩ h lo nm vis;simp only [szS] at h;have h7:=i2 l7 (by omega);have h8:=i2 l8 (by omega);have h9:=i2 l9 (by omega);have h10:=i4 l10 (by omega);simp only [uS,arh,ajk];have hmk : ∀ nm vis,Nz (cond (seq name ⟨#[]⟩) (.ok (nm,vis,s2)) (uMk nm vis name):Ex (List ByteArray × List Nat × Int)):=fun nm vis=>.cond (.ok _) .uMk
   refine .eb .uEs fun r6=>.cond (.eb3 (h10 _ _ _) fun _ _ _=>.ok _) (.eb (.cond (.ok _) .uCall) fun ix=>?_)
   refine .cond ?_ (.cond (.uD (by decide) (.ok _)) (.cond (.uD (by decide) (.ok _)) (.cond (.uD (by decide) (.ok _)) (.cond (.eb3 (.eb3 (h7 _ _ _) fun _ _ _=>.ok _) fun _ _ _=>.ok _) ?_))))
   ·cases abN nm vis name with
    | none=>exact .er (by decide)
    | some v=>exact .ok _
   refine .cond (.eb3 (.eb3 (hmk _ _) fun _ _ _=>.eb3 (h7 _ _ _) fun _ _ _=>.ok _) fun _ _ _=>.ok _) ?_;refine .cond (.eb3 (.eb3 (hmk _ _) fun _ _ _=>.eb3 (h7 _ _ _) fun _ _ _=>.ok _) fun _ _ _=>.ok _) ?_;refine .cond (.eb3 (.eb3 (h7 _ _ _) fun _ _ _=>.ok _) fun _ _ _=>.eb3 (.eb3 (hmk _ _) fun _ _ _=>.eb3 (h8 _ _ _) fun _ _ _=>.ok _) fun _ _ _=>.eb3 (.eb3 (h9 _ _ _) fun _ _ _=>.ok _) fun _ _ _=>.ok _) ?_;exact .cond (.eb3 (.eb3 (h7 _ _ _) fun _ _ _=>.ok _) fun _ _ _=>.eb3 (.eb3 (h8 _ _ _) fun _ _ _=>.ok _) fun _ _ _=>.ok _) (.eb3 (hmk _ _) fun _ _ _=>.uD (by decide) (.ok _))
  have a3 : ∀ c,szC c≤n + 1→∀ lo nm vis,Nz (uC fs f2 f3 lo nm vis c):=by
   rintro ⟨kind,name,slot,es,b⟩ h lo nm vis;simp only [szC] at h;simp only [uC,ajk];exact .eb .uEs fun _=>.eb3 (.eb3 (.cond (.ok _) .uMk) fun _ _ _=>.eb3 (i2 b (by omega) _ _ _) fun _ _ _=>.ok _) fun _ _ _=>.ok _
  have a2 : ∀ l,szSs l≤n + 1→∀ lo nm vis,Nz (uSs fs f2 f3 lo nm vis l):=by
   intro l;induction l with
   | nil=>intro h lo nm vis; simp only [uSs]; exact .ok _
   | cons s l ih =>
    intro h lo nm vis;simp only [szSs] at h;simp only [uSs];exact .eb3 (a1 s (by omega) _ _ _) fun _ _ _=>.eb3 (ih (by omega) _ _ _) fun _ _ _=>.ok _
  have a4 : ∀ l,szCs l≤n + 1→∀ lo nm vis,Nz (uCs fs f2 f3 lo nm vis l):=by
   intro l;induction l with
   | nil=>intro h lo nm vis; simp only [uCs]; exact .ok _
   | cons s l ih =>
    intro h lo nm vis;simp only [szCs] at h;simp only [uCs];exact .eb3 (a3 s (by omega) _ _ _) fun _ _ _=>.eb3 (ih (by omega) _ _ _) fun _ _ _=>.ok _
  exact ⟨a1,a2,a3,a4⟩
end
theorem atQ : ∀ (l:List aaR) (nm:List ByteArray) (vis:List Nat),Nz (uPs nm vis l)
 | [],nm,vis=>.ok _
 | .mk a kd :: l,nm,vis=>by
  unfold uPs;exact .eb3 .uMk fun _ _ _=>atQ l _ _
theorem auh (fs:List aae) : ∀ l,Nz (uFs fs l)
 | []=>.ok _
 | .mk n ps res fl v b :: l=>by
  unfold uFs uF;exact .eb (.eb3 (atQ _ _ _) fun _ _ _=>.eb3 ((axR fs res fl (szSs b)).2.1 b (Nat.le_refl _) _ _ _) fun _ _ _=>.uD (by decide) (.ok _)) fun _=>.eb (auh fs l) fun _=>.ok _
theorem atB {p:aaa} {c:Int} (h:uP p=.error c):c ≠ 0:=by
 obtain ⟨fs⟩:=p;refine (show Nz (uD (wf false (.mk fs)) 2 (uD (!dupF [] fs) 21 (uD (decide (acA fs=0)) (acA fs) (eb (uFs fs fs) fun x=>.ok (aaa.mk x.1,x.2))))) from .uD (by decide) (.uD (by decide) ?_)) c h;cases hb:decide (acA fs=0) with
 | false=>exact .er (of_decide_eq_false hb)
 | true=>exact .eb (auh fs fs) fun _=>.ok _
def opsL:List (Int × aaG):=(f50 0).getD []
theorem axx (k:Nat):f50 k=some opsL:=rfl
theorem amH (k:Nat) (a:Int) : ∀ (l:List Int) (i:Nat),∃ r,aid k a l i=some r∧decide (r ≥ 0)=l.any (a == ·)
 | [],i=>⟨-1,rfl,rfl⟩
 | e :: l,i=>by
  unfold aid;cases h:a == e
  ·obtain ⟨r,h1,h2⟩:=amH k a l (i + 1);exact ⟨r,h1,by simp [h,h2]⟩
  ·exact ⟨(i:Int),rfl,by simp [h]⟩
theorem awv (k:Nat) (l:List Int) (a:Int):f51 k l a=some (l.any (a == ·)):=by
 unfold f51 asH f75 art;obtain ⟨r,h1,h2⟩:=amH k a l 0;simp [h1,h2]
def kV (op a:Int):Int:=cond (op == 9 || op == 10) 2 (cond (op == 15) (cond (a != 1 && a != 3) (-1) a) (afN (mget qI op opsL) (-1) (fun x=>match x with | .mk ks v=>cond (ks.any (a == ·)) v (-1))))
def kO (op:Int):List Int→Int
 | []=>-1
 | [a]=>cond (a == -1) (-1) (kV op a)
 | a :: b :: _=>cond (a == -1) (-1) (cond (b != a) (-1) (kV op a))
mutual
def kT (vs:List Int):aah→Int
 | .mk op _ _ slot l=>cond (op == 1) 1 (cond (op == 2) 2 (cond (op == 3) 3 (cond (op == 4) (vs[slot.toNat]?.getD 0) (kO op (kTs vs l)))))
def kTs (vs:List Int):List aah→List Int
 | []=>[]
 | e :: l=>kT vs e :: kTs vs l
end
mutual
def wvE (m:Nat):aah→Bool
 | .mk op _ _ slot l=>cond (op == 1 || op == 2 || op == 3) true (cond (op == 4) (decide (0≤slot) && decide (slot < (m:Int))) (l.length == 1 || l.length == 2)) && wvEs m l
def wvEs (m:Nat):List aah→Bool
 | []=>true
 | e :: l=>wvE m e && wvEs m l
end
theorem aqS {vs:List Int} {s:Int} (h0:0≤s) (h1:s < (vs.length:Int)):idxO vs s=some (vs[s.toNat]?.getD 0):=by
 unfold idxO;rw [if_pos h0];have h:s.toNat < vs.length:=by omega
 rw [List.getElem?_eq_getElem h];rfl
theorem apX (k:Nat) (F:amn) (op a:Int) (q:Bool):aim k F op a q=some (cond q (-1) (kV op a)):=by
 unfold aim amq amG alZ kV;simp only [axx,awv,Option.bind_some,List.any_nil];cases q with
 | true=>rfl
 | false =>
  cases h9:op == 9 <;> cases h10:op == 10 <;> simp only [cond_true,cond_false,Bool.or_false,Bool.false_or,Bool.or_true]
  cases h15:op == 15
  ·simp only [cond_false];cases mget qI op opsL with
   | none=>rfl
   | some x =>
    obtain ⟨ks,v⟩:=x;simp only [afN];cases ks.any (a == ·) <;> rfl
  ·simp only [cond_true];cases a != 1 <;> cases a != 3 <;> rfl
theorem ap9 (k:Nat) : ∀ (n:Nat) (e:aah) (vs:List Int),szE e≤n→wvE vs.length e=true→(ao8 k n).f33 e vs=some (kT vs e)
 | 0,.mk op num txt slot l,vs,hn,_=>by simp only [szE] at hn; omega
 | n + 1,.mk op num txt slot l,vs,hn,hv=>by
  have ih:=ap9 k n;simp only [szE] at hn;unfold wvE at hv;rw [Bool.and_eq_true] at hv;obtain ⟨hv,hl⟩:=hv;show aqJ k (ao8 k n) (.mk op num txt slot l) vs=_;unfold aqJ kT;simp only;cases h1:op == 1 with
  | true=>rfl
  | false =>
   cases h2:op == 2 with
   | true=>rfl
   | false =>
    cases h3:op == 3 with
    | true=>rfl
    | false =>
     simp only [h1,h2,h3,Bool.or_false,cond_false] at hv;cases h4:op == 4 with
     | true =>
      rw [h4,cond_true,Bool.and_eq_true,decide_eq_true_eq,decide_eq_true_eq] at hv;simp only [cond_false,cond_true,aqS hv.1 hv.2,Option.bind_some]
     | false =>
      rw [h4,cond_false] at hv;simp only [cond_false];rcases l with _ | ⟨e0,l⟩
      ·simp at hv
      ·simp only [wvEs,Bool.and_eq_true] at hl;simp only [szEs] at hn;have i0:idxO (e0 :: l) 0=some e0:=rfl;have g0:=ih e0 vs (by omega) hl.1;obtain ⟨b0,b1,b2,b3,b4⟩:=e0;simp only [i0,Option.bind_some,g0,apX,kTs];rcases l with _ | ⟨e1,l⟩
       ·simp only [kTs,kO];cases kT vs (.mk b0 b1 b2 b3 b4) == -1 <;> rfl
       ·obtain rfl:l=[]:=by
         cases l with
         | nil=>rfl
         | cons a l=>simp at hv
        simp only [wvEs,Bool.and_eq_true,Bool.and_true] at hl;simp only [szEs] at hn;have i1:idxO [aah.mk b0 b1 b2 b3 b4,e1] 1=some e1:=rfl;have g1:=ih e1 vs (by omega) hl.2;obtain ⟨c0,c1,c2,c3,c4⟩:=e1;simp only [i1,Option.bind_some,g1,kTs,kO];cases kT vs (.mk b0 b1 b2 b3 b4) == -1 <;> rfl
theorem atA (k:Nat) (e:aah) (vs:List Int) (hk:szE e≤k) (hv:wvE vs.length e=true):f33 k e vs=some (kT vs e):=ap9 k k e vs hk hv
def areK (vs:List Int):List aah→List Int→Bool
 | [],_=>true
 | e :: l,ks=>(kT vs e == ks.headD 0) && areK vs l ks.tail
theorem amB (k:Nat) (vs ks:List Int) : ∀ (l:List aah) (i:Nat),i + l.length≤ks.length→szEs l≤k→wvEs vs.length l=true→ah7 k vs ks l i=some (areK vs l (ks.drop i))
 | [],i,_,_,_=>rfl
 | .mk b0 b1 b2 b3 b4 :: l,i,hi,hk,hv=>by
  simp only [wvEs,Bool.and_eq_true] at hv;simp only [szEs] at hk;simp only [List.length_cons] at hi;have hlt:i < ks.length:=by omega
  obtain ⟨x,hx⟩ : ∃ x,ks[i]?=some x:=⟨_,List.getElem?_eq_getElem hlt⟩;have hd:ks.drop i=x :: ks.drop (i + 1):=by
   rw [List.drop_eq_getElem_cons hlt];rw [List.getElem?_eq_getElem hlt] at hx;rw [Option.some.inj hx]
  unfold ah7;have hi0:idxO ks (i:Int)=some x:=by unfold idxO; rw [if_pos (by omega)]; exact hx
  simp only [hi0,Option.bind_some,atA k _ vs (by omega) hv.1,amB k vs ks l (i + 1) (by omega) (by omega) hv.2,hd,areK,List.headD_cons,List.tail_cons];rw [bne];cases kT vs (.mk b0 b1 b2 b3 b4) == x <;> rfl
theorem aod (k:Nat) (fs:List aae) (a0:ByteArray) (a1:List aaR) (a2:Int) (a3:Bool) (a4:Int) (a5:List aaf) (vs:List Int) (l:List aah) (ks:List Int) (hl:l.length≤ks.length) (hk:szEs l≤k) (hv:wvEs vs.length l=true) :
  f84 k (.mk (.mk fs) (.mk a0 a1 a2 a3 a4 a5) vs) l ks=some (areK vs l ks):=by
 unfold f84 arV;have:=amB k vs ks l 0 (by omega) hk hv;simpa using this
def aff:List (Int × List Int):=(f85 0).getD []
theorem awZ (k:Nat):f85 k=some aff:=rfl
def afP:List (Int × List Int):=mput qI 3 [1] (mput qI 2 [4,1] (mput qI 1 [4] ([]:List (Int × (List Int)))))
def afk (m:Nat) (s:Int):Bool:=decide (0≤s) && decide (s < (m:Int))
def aeg:List aaR→List Int
 | []=>[]
 | .mk _ k :: l=>k :: aeg l
theorem afp : ∀ l,(aeg l).length=l.length
 | []=>rfl
 | .mk _ k :: l=>by simp [aeg,afp l]
theorem alU (k:Nat) : ∀ (l:List aaR) (i:Nat) (xs:List Int),(xs.length + l.length) * 8≤140737488355328→ahr k l i xs=some (xs ++ aeg l)
 | [],i,xs,_=>by simp [ahr,aeg]
 | .mk a b :: l,i,xs,h=>by
  simp only [List.length_cons] at h;unfold ahr;rw [show ∀ (z:Option (List Int)),aaT (decide ((xs.length + 1) * 8≤140737488355328)) z=z from fun z=>by unfold aaT; rw [decide_eq_true (by omega)]; rfl];rw [alU k l (i + 1) (xs ++ [b]) (by simp only [List.length_append,List.length_cons,List.length_nil]; omega)];simp [aeg]
theorem at8 (k:Nat) (a0:ByteArray) (ps:List aaR) (a2:Int) (a3:Bool) (a4:Int) (a5:List aaf) (h:ps.length≤1000):f26 k (.mk a0 ps a2 a3 a4 a5)=some (aeg ps):=by
 unfold f26 atz;have:=alU k ps 0 [] (by simp; omega);simpa using this
def parF:aae→List aaR | .mk _ ps _ _ _ _=>ps
def amE : aae→Int | .mk _ _ r _ _ _=>r
def ai0 (fs:List aae) (vs:List Int) (op:Int) (name:ByteArray) (ix:Int) (l6:List aah):Option Int :=
 cond (op == 1) (cond ((kTs vs l6).headD 0 == -1) none (some ((kTs vs l6).headD 0)))
 (cond (op == 14) (cond ((kTs vs l6).headD 0 == -1) none (some 1))
 (cond (op == 3 || op == 4 || op == 28)
  (match fs[ix.toNat]? with
   | none=>none
   | some f=>cond (!areK vs l6 (aeg (parF f)) || (op == 3 && (!seq name ⟨#[]⟩ && amE f == 0))) none (cond (op == 4) (cond (amE f != 1 && amE f != 0) none (some 5)) (cond (op == 28) (some 1) (some (amE f)))))
 (cond (op == 7) (some 4) (cond (op == 8) (some 6) (cond (op == 24) (some 3) (some 1))))))
def aiI (vs:List Int) (op:Int) (l6:List aah):Bool:=match mget qI op aff with | none=>true | some ws=>areK vs l6 ws
mutual
def yS (fs:List aae) (res:Int):List Int→aaf→Option (List Int)
 | vs,.mk op name slot fr ix flag l6 l7 l8 l9 l10 =>
  cond (op == 2) (cond ((kTs vs l6).headD 0 == (vs[slot.toNat]?.getD 0)) (some vs) none)
  (cond (op == 17) (cond (areK vs l6 [res]) (some vs) none)
  (match ai0 fs vs op name ix l6 with
   | none=>none
   | some made=>cond (aiI vs op l6) ((yCs fs res (cond (seq name ⟨#[]⟩) vs (vs.set slot.toNat made)) l10).bind fun v=>(ySs fs res v l7).bind fun v=>(ySs fs res v l8).bind fun v=>ySs fs res v l9) none))
def ySs (fs:List aae) (res:Int):List Int→List aaf→Option (List Int)
 | vs,[]=>some vs
 | vs,s :: l=>(yS fs res vs s).bind fun v=>ySs fs res v l
def yCs (fs:List aae) (res:Int):List Int→List aaB→Option (List Int)
 | vs,[]=>some vs
 | vs,.mk kind name slot es b :: l=>cond (areK vs es ((mget qI kind afP).getD [])) ((ySs fs res (cond (seq name ⟨#[]⟩) vs (vs.set slot.toNat 1)) b).bind fun v=>yCs fs res v l) none
end
mutual
def wvS (fs:List aae) (m:Nat):aaf→Bool
 | .mk op name slot fr ix flag l6 l7 l8 l9 l10=>wvEs m l6 && ((op != 1 && op != 14 && op != 2 || decide (1≤l6.length)) && ((op != 17 || decide (l6.length≤1)) && ((op != 2 && seq name ⟨#[]⟩ || afk m slot) &&
  (cond (op == 3 || op == 4 || op == 28) (decide (0≤ix) && (match fs[ix.toNat]? with | none=>false | some f=>decide (l6.length≤(parF f).length) && decide ((parF f).length≤1000))) true &&
  ((match mget qI op aff with | none=>true | some ws=>decide (l6.length≤ws.length)) && (vSs fs m l7 && (vSs fs m l8 && (vSs fs m l9 && vCs fs m l10))))))))
def vSs (fs:List aae) (m:Nat):List aaf→Bool
 | []=>true
 | s :: l=>wvS fs m s && vSs fs m l
def vCs (fs:List aae) (m:Nat):List aaB→Bool
 | []=>true
 | .mk kind name slot es b :: l=>wvEs m es && (decide (es.length≤((mget qI kind afP).getD []).length) && ((seq name ⟨#[]⟩ || afk m slot) && (vSs fs m b && vCs fs m l)))
end
section
variable (fs:List aae) (a0:ByteArray) (a1:List aaR) (a2:Int) (a3:Bool) (a4:Int) (a5:List aaf)
abbrev Stt (vs:List Int):aas:=.mk (.mk fs) (.mk a0 a1 a2 a3 a4 a5) vs
def Rs (r:Option (aas × Bool)) (u:Option (List Int)) (m:Nat):Prop:=match u with
 | none=>∃ vs',vs'.length=m∧r=some (Stt fs a0 a1 a2 a3 a4 a5 vs',false)
 | some w=>w.length=m∧r=some (Stt fs a0 a1 a2 a3 a4 a5 w,true)
variable {fs a0 a1 a2 a3 a4 a5}
theorem aly {vs:List Int} {s:Int} (h:afk vs.length s=true):idxO vs s=some (vs[s.toNat]?.getD 0):=by
 unfold afk at h;rw [Bool.and_eq_true,decide_eq_true_eq,decide_eq_true_eq] at h;exact aqS h.1 h.2
variable {k:Nat} {F:ad6} {N:Nat} (HB : ∀ (l:List aaf) (vs:List Int),szSs l≤N→vSs fs vs.length l=true→Rs fs a0 a1 a2 a3 a4 a5 (F.f36 (Stt fs a0 a1 a2 a3 a4 a5 vs) l) (ySs fs a2 vs l) vs.length)
include HB
theorem awb {l7 l8 l9:List aaf} {vs:List Int} (h7:szSs l7≤N) (h8:szSs l8≤N) (h9:szSs l9≤N) (v7:vSs fs vs.length l7=true) (v8:vSs fs vs.length l8=true) (v9:vSs fs vs.length l9=true) (i:Nat) :
  Rs fs a0 a1 a2 a3 a4 a5 (adl k F l7 l8 l9 [] i fs a0 a1 a2 a3 a4 a5 vs) ((ySs fs a2 vs l7).bind fun v=>(ySs fs a2 v l8).bind fun v=>ySs fs a2 v l9) vs.length:=by
 unfold adl ajx;have g7:=HB l7 vs h7 v7;cases e7:ySs fs a2 vs l7 with
 | none =>
  rw [e7] at g7;obtain ⟨w,hw,hr⟩:=g7;simp only [hr,Option.bind_some,cond_false];exact ⟨w,hw,rfl⟩
 | some w7 =>
  rw [e7] at g7;obtain ⟨hw7,hr⟩:=g7;simp only [hr,Option.bind_some,cond_true];have g8:=HB l8 w7 h8 (by rw [hw7]; exact v8);cases e8:ySs fs a2 w7 l8 with
  | none =>
   rw [e8] at g8;obtain ⟨w,hw,hr⟩:=g8;simp only [hr,Option.bind_some,cond_false];exact ⟨w,by omega,rfl⟩
  | some w8 =>
   rw [e8] at g8;obtain ⟨hw8,hr⟩:=g8;simp only [hr,Option.bind_some,cond_true];have g9:=HB l9 w8 h9 (by rw [hw8,hw7]; exact v9);cases e9:ySs fs a2 w8 l9 with
   | none =>
    rw [e9] at g9;obtain ⟨w,hw,hr⟩:=g9;simp only [hr,Option.bind_some];exact ⟨w,by omega,rfl⟩
   | some w9 =>
    rw [e9] at g9;obtain ⟨hw9,hr⟩:=g9;simp only [hr,Option.bind_some];exact ⟨by omega,rfl⟩
theorem an8 {l7 l8 l9:List aaf} (h7:szSs l7≤N) (h8:szSs l8≤N) (h9:szSs l9≤N) : ∀ (l10:List aaB) (i:Nat) (vs:List Int),szCs l10≤N→szCs l10≤k→vSs fs vs.length l7=true→vSs fs vs.length l8=true→vSs fs vs.length l9=true→vCs fs vs.length l10=true →
  Rs fs a0 a1 a2 a3 a4 a5 (adl k F l7 l8 l9 l10 i fs a0 a1 a2 a3 a4 a5 vs) ((yCs fs a2 vs l10).bind fun v=>(ySs fs a2 v l7).bind fun v=>(ySs fs a2 v l8).bind fun v=>ySs fs a2 v l9) vs.length
 | [],i,vs,_,_,v7,v8,v9,_=>by simpa only [yCs,Option.bind_some] using awb HB h7 h8 h9 v7 v8 v9 i
 | .mk kind name slot es b :: l,i,vs,hn,hk,v7,v8,v9,hv=>by
  have ih:=an8 h7 h8 h9 l (i + 1);simp only [szCs,szC] at hn hk;simp only [vCs,Bool.and_eq_true,decide_eq_true_eq] at hv;obtain ⟨q1,q2,q3,q4,q5⟩:=hv;have hA:=aod k fs a0 a1 a2 a3 a4 a5 vs es ((mget qI kind afP).getD []) q2 (by omega) q1;have key : ∀ vs1:List Int,vs1.length=vs.length→Rs fs a0 a1 a2 a3 a4 a5 (ajF k F fs a0 a1 a2 a3 a4 a5 i b vs1 (adl k F l7 l8 l9 l)) (((ySs fs a2 vs1 b).bind fun v=>yCs fs a2 v l).bind fun v=>(ySs fs a2 v l7).bind fun v=>(ySs fs a2 v l8).bind fun v=>ySs fs a2 v l9) vs.length:=by
   intro vs1 hl;unfold ajF;have gb:=HB b vs1 (by omega) (by rw [hl]; exact q4);cases eb:ySs fs a2 vs1 b with
   | none =>
    rw [eb] at gb;obtain ⟨w,hw,hr⟩:=gb;simp only [hr,Option.bind_some,Bool.not_false,cond_true];exact ⟨w,by omega,rfl⟩
   | some w =>
    rw [eb] at gb;obtain ⟨hw,hr⟩:=gb;simp only [hr,Option.bind_some,Bool.not_true,cond_false];have hwl:w.length=vs.length:=by omega
    have:=ih w (by omega) (by omega) (by rw [hwl]; exact v7) (by rw [hwl]; exact v8) (by rw [hwl]; exact v9) (by rw [hwl]; exact q5);rw [hwl] at this;exact this
  have key6:Rs fs a0 a1 a2 a3 a4 a5 (ain k F fs a0 a1 a2 a3 a4 a5 vs i name slot b (adl k F l7 l8 l9 l)) (((ySs fs a2 (cond (seq name ⟨#[]⟩) vs (vs.set slot.toNat 1)) b).bind fun v=>yCs fs a2 v l).bind fun v=>(ySs fs a2 v l7).bind fun v=>(ySs fs a2 v l8).bind fun v=>ySs fs a2 v l9) vs.length:=by
   unfold ain;cases hs:seq name ⟨#[]⟩ with
   | true =>
    simp only [Bool.not_true,cond_false,cond_true];exact key vs rfl
   | false =>
    rw [hs,Bool.false_or] at q3;simp only [Bool.not_false,cond_false,cond_true,aly q3,Option.bind_some];exact key _ (List.length_set ..)
  have goal : ∀ ks:List Int,ks=(mget qI kind afP).getD []→Rs fs a0 a1 a2 a3 a4 a5 ((f84 k (Stt fs a0 a1 a2 a3 a4 a5 vs) es ks).bind fun r=>cond (!r) (some (Stt fs a0 a1 a2 a3 a4 a5 vs,false)) (ain k F fs a0 a1 a2 a3 a4 a5 vs i name slot b (adl k F l7 l8 l9 l))) ((yCs fs a2 vs (.mk kind name slot es b :: l)).bind fun v=>(ySs fs a2 v l7).bind fun v=>(ySs fs a2 v l8).bind fun v=>ySs fs a2 v l9) vs.length:=by
   intro ks hks;subst hks;rw [hA];simp only [yCs,Option.bind_some];cases areK vs es ((mget qI kind afP).getD []) with
   | true=>simpa only [Bool.not_true,cond_false,cond_true] using key6
   | false=>exact ⟨vs,rfl,rfl⟩
  unfold adl;cases hg:mget qI kind afP with
  | none =>
   have:=goal [] (by rw [hg]; rfl);have hg' : mget qI kind (mput qI 3 [1] (mput qI 2 [4,1] (mput qI 1 [4] ([]:List (Int × (List Int))))))=none:=hg;rw [hg'];exact this
  | some ws =>
   have:=goal ws (by rw [hg]; rfl);have hg' : mget qI kind (mput qI 3 [1] (mput qI 2 [4,1] (mput qI 1 [4] ([]:List (Int × (List Int))))))=some ws:=hg;rw [hg'];exact this
end
end Go.Proofs.YtoegpkmhifmamaaGreatDoor
namespace Go.Proofs.YtoegpkmhifmamaaGreatDoor
open Go
section
variable {fs:List aae} {a0:ByteArray} {a1:List aaR} {a2:Int} {a3:Bool} {a4:Int} {a5:List aaf} {k:Nat} {F:ad6}
variable {op:Int} {name:ByteArray} {slot:Int} {fr:ByteArray} {ix flag:Int} {l6:List aah} {l7 l8 l9:List aaf} {l10:List aaB} {vs:List Int}
def alW (fs:List aae) (res:Int) (vs:List Int) (name:ByteArray) (slot made:Int) (l7 l8 l9:List aaf) (l10:List aaB):Option (List Int) :=
 (yCs fs res (cond (seq name ⟨#[]⟩) vs (vs.set slot.toNat made)) l10).bind fun v=>(ySs fs res v l7).bind fun v=>(ySs fs res v l8).bind fun v=>ySs fs res v l9
theorem aeO (m:Nat) (h:vs.length=m):Rs fs a0 a1 a2 a3 a4 a5 (some (Stt fs a0 a1 a2 a3 a4 a5 vs,false)) none m:=⟨vs,h,rfl⟩
variable (HJ : ∀ (i:Nat) (v:List Int),v.length=vs.length→Rs fs a0 a1 a2 a3 a4 a5 (adl k F l7 l8 l9 l10 i fs a0 a1 a2 a3 a4 a5 v) ((yCs fs a2 v l10).bind fun v=>(ySs fs a2 v l7).bind fun v=>(ySs fs a2 v l8).bind fun v=>ySs fs a2 v l9) vs.length)
variable (hs:(op != 2 && seq name ⟨#[]⟩ || afk vs.length slot)=true) (h2:(op == 2)=false) (hv:wvEs vs.length l6=true) (hk:szEs l6≤k) (hw:(match mget qI op aff with | none=>true | some ws=>decide (l6.length≤ws.length))=true)
include HJ hs h2
theorem azC (made:Int):Rs fs a0 a1 a2 a3 a4 a5 (ai1 k F fs a0 a1 a2 a3 a4 a5 vs name slot l7 l8 l9 l10 made false) (alW fs a2 vs name slot made l7 l8 l9 l10) vs.length:=by
 unfold ai1 al5 alW;simp only [cond_false];have hb:(op != 2)=true:=by rw [bne,h2]; rfl
 rw [hb,Bool.true_and] at hs;cases hn:seq name ⟨#[]⟩ with
 | true =>
  simp only [Bool.not_true,cond_false,cond_true];exact HJ 0 vs rfl
 | false =>
  rw [hn,Bool.false_or] at hs;simp only [Bool.not_false,cond_true,cond_false,aly hs,Option.bind_some];exact HJ 0 _ (List.length_set ..)
include hv hk hw
theorem ar0 (made:Int):Rs fs a0 a1 a2 a3 a4 a5 (aeU k F fs a0 a1 a2 a3 a4 a5 vs op name slot l6 l7 l8 l9 l10 made) (cond (aiI vs op l6) (alW fs a2 vs name slot made l7 l8 l9 l10) none) vs.length:=by
 have h3:=azC HJ hs h2 made;unfold aeU al0 aiI;simp only [awZ,Option.bind_some];cases hg:mget qI op aff with
 | none =>
  simp only [afN,cond_false,cond_true];exact h3
 | some ws =>
  rw [hg] at hw;simp only [afN,cond_true,aod k fs a0 a1 a2 a3 a4 a5 vs l6 ws (of_decide_eq_true hw) hk hv,Option.bind_some];cases areK vs l6 ws with
  | true=>simpa only [Bool.not_true,cond_true] using h3
  | false =>
   unfold ai1;simp only [Bool.not_false,cond_true,cond_false];exact aeO _ rfl
theorem awE (made:Int):Rs fs a0 a1 a2 a3 a4 a5 (ahc k F fs a0 a1 a2 a3 a4 a5 vs op name slot l6 l7 l8 l9 l10 made) (cond (aiI vs op l6) (alW fs a2 vs name slot (cond (op == 28) 1 made) l7 l8 l9 l10) none) vs.length:=by
 have h1:=fun made=>ar0 HJ hs h2 hv hk hw made
 unfold ahc;cases op == 28 with
 | true=>exact h1 1
 | false=>exact h1 made
theorem azz (res:Int) (q:Bool):Rs fs a0 a1 a2 a3 a4 a5 (ahB k F fs a0 a1 a2 a3 a4 a5 vs op name slot l6 l7 l8 l9 l10 res q)
  (match (cond q none (cond (op == 4) (cond (res != 1 && res != 0) none (some 5)) (cond (op == 28) (some 1) (some res))):Option Int) with | none=>none | some made=>cond (aiI vs op l6) (alW fs a2 vs name slot made l7 l8 l9 l10) none) vs.length:=by
 have h10:=fun made=>awE HJ hs h2 hv hk hw made
 unfold ahB;cases q with
 | true=>exact aeO _ rfl
 | false =>
  simp only [cond_false];cases h4:op == 4 with
  | true =>
   have h28:(op == 28)=false:=by
    obtain rfl:op=4:=by simpa using h4
    rfl
   have h5:=h10 5;rw [h28] at h5;unfold aiU;cases e1:res != 1 with
   | true =>
    simp only [cond_true,Bool.true_and];cases e0:res != 0 with
    | true=>exact aeO _ rfl
    | false=>simpa only [cond_false] using h5
   | false=>simpa only [cond_true,cond_false,Bool.false_and] using h5
  | false =>
   have h5:=h10 res;simp only [cond_false];cases h28:op == 28 with
   | true=>rw [h28] at h5; simpa only [cond_true] using h5
   | false=>rw [h28] at h5; simpa only [cond_false] using h5
theorem azl (hc:(cond (op == 3 || op == 4 || op == 28) (decide (0≤ix) && (match fs[ix.toNat]? with | none=>false | some f=>decide (l6.length≤(parF f).length) && decide ((parF f).length≤1000))) true)=true) (h1:(op == 1)=false) (h14:(op == 14)=false) :
  Rs fs a0 a1 a2 a3 a4 a5 (afd k F fs a0 a1 a2 a3 a4 a5 vs op name slot ix l6 l7 l8 l9 l10 (op == 3 || op == 4 || op == 28))
   (match ai0 fs vs op name ix l6 with | none=>none | some made=>cond (aiI vs op l6) (alW fs a2 vs name slot made l7 l8 l9 l10) none) vs.length:=by
 have g1:=fun made=>ar0 HJ hs h2 hv hk hw made
 have g9:=fun res q=>azz HJ hs h2 hv hk hw res q
 unfold afd ai0;simp only [h1,h14,cond_false];cases hq:(op == 3 || op == 4 || op == 28) with
 | true =>
  rw [hq,cond_true,Bool.and_eq_true,decide_eq_true_eq] at hc;obtain ⟨hx,hc⟩:=hc;cases hf:fs[ix.toNat]? with
  | none=>rw [hf] at hc; simp at hc
  | some f =>
   rw [hf] at hc;simp only [Bool.and_eq_true,decide_eq_true_eq] at hc;have hi:idxO fs ix=some f:=by unfold idxO; rw [if_pos hx]; exact hf
   obtain ⟨b0,b1,b2,b3,b4,b5⟩:=f;have hlen:l6.length≤(aeg b1).length:=by rw [afp]; exact hc.1
   simp only [cond_true,hi,Option.bind_some,at8 k b0 b1 b2 b3 b4 b5 hc.2,aod k fs a0 a1 a2 a3 a4 a5 vs l6 (aeg b1) hlen hk hv,parF,amE];cases areK vs l6 (aeg b1) with
   | false =>
    simp only [Bool.not_false,cond_true,Bool.true_or];exact g9 b2 true
   | true =>
    simp only [Bool.not_true,cond_false,Bool.false_or];cases h3:op == 3 with
    | true =>
     cases hn:seq name ⟨#[]⟩ with
     | true =>
      simp only [Bool.not_true,cond_true,cond_false,Bool.false_and,Bool.true_and];exact g9 b2 false
     | false =>
      simp only [Bool.not_false,cond_true,Bool.true_and];exact g9 b2 (b2 == 0)
    | false =>
     simp only [cond_false,Bool.false_and];exact g9 b2 false
 | false =>
  simp only [cond_false];cases op == 7 with
  | true=>exact g1 4
  | false =>
   cases op == 8 with
   | true=>exact g1 6
   | false =>
    cases op == 24 with
    | true=>exact g1 3
    | false=>exact g1 1
end
section
variable {fs:List aae} {a0:ByteArray} {a1:List aaR} {a2:Int} {a3:Bool} {a4:Int} {a5:List aaf} {k:Nat} {F:ad6} {N:Nat}
variable (HB : ∀ (l:List aaf) (vs:List Int),szSs l≤N→vSs fs vs.length l=true→Rs fs a0 a1 a2 a3 a4 a5 (F.f36 (Stt fs a0 a1 a2 a3 a4 a5 vs) l) (ySs fs a2 vs l) vs.length)
include HB
theorem au3 (s:aaf) (vs:List Int) (hn:szS s≤N + 1) (hk:szS s≤k) (h:wvS fs vs.length s=true):Rs fs a0 a1 a2 a3 a4 a5 (ao3 k F (Stt fs a0 a1 a2 a3 a4 a5 vs) s) (yS fs a2 vs s) vs.length:=by
 obtain ⟨op,name,slot,fr,ix,flag,l6,l7,l8,l9,l10⟩:=s;simp only [szS] at hn hk;simp only [wvS,Bool.and_eq_true] at h;obtain ⟨hv,ha,hr,hs,hc,hw,v7,v8,v9,v10⟩:=h;have HJ : ∀ (i:Nat) (v:List Int),v.length=vs.length→Rs fs a0 a1 a2 a3 a4 a5 (adl k F l7 l8 l9 l10 i fs a0 a1 a2 a3 a4 a5 v) ((yCs fs a2 v l10).bind fun v=>(ySs fs a2 v l7).bind fun v=>(ySs fs a2 v l8).bind fun v=>ySs fs a2 v l9) vs.length:=by
  intro i v hl;have:=an8 HB (l7:=l7) (l8:=l8) (l9:=l9) (k:=k) (by omega) (by omega) (by omega) l10 i v (by omega) (by omega) (by rw [hl]; exact v7) (by rw [hl]; exact v8) (by rw [hl]; exact v9) (by rw [hl]; exact v10);rw [hl] at this;exact this
 have hk6:szEs l6≤k:=by omega
 unfold ao3 yS;simp only;have first:1≤l6.length→∃ e,idxO l6 0=some e∧f33 k e vs=some ((kTs vs l6).headD 0):=by
  intro hl;cases l6 with
  | nil=>simp at hl
  | cons e l =>
   simp only [wvEs,Bool.and_eq_true] at hv;simp only [szEs] at hk6;exact ⟨e,rfl,atA k e vs (by omega) hv.1⟩
 cases h1:op == 1 with
 | true =>
  obtain rfl:op=1:=by simpa using h1
  obtain ⟨⟨b0,b1,b2,b3,b4⟩,e1,e2⟩:=first (by simpa using ha);have g1:=fun made=>ar0 (a2:=a2) HJ hs rfl hv hk6 hw made
  simp only [cond_true,e1,Option.bind_some,e2];unfold ai0;show Rs fs a0 a1 a2 a3 a4 a5 _ (match (cond ((kTs vs l6).headD 0 == -1) none (some ((kTs vs l6).headD 0)):Option Int) with | none=>none | some made=>cond (aiI vs 1 l6) (alW fs a2 vs name slot made l7 l8 l9 l10) none) vs.length;cases (kTs vs l6).headD 0 == -1 with
  | true=>exact aeO _ rfl
  | false=>exact g1 _
 | false =>
  simp only [cond_false];cases h14:op == 14 with
  | true =>
   obtain rfl:op=14:=by simpa using h14
   obtain ⟨⟨b0,b1,b2,b3,b4⟩,e1,e2⟩:=first (by simpa using ha);have g1:=fun made=>ar0 (a2:=a2) HJ hs rfl hv hk6 hw made
   simp only [cond_true,e1,Option.bind_some,e2];unfold ai0;show Rs fs a0 a1 a2 a3 a4 a5 _ (match (cond ((kTs vs l6).headD 0 == -1) none (some 1):Option Int) with | none=>none | some made=>cond (aiI vs 14 l6) (alW fs a2 vs name slot made l7 l8 l9 l10) none) vs.length;cases (kTs vs l6).headD 0 == -1 with
   | true=>exact aeO _ rfl
   | false=>exact g1 _
  | false =>
   simp only [cond_false];cases h2:op == 2 with
   | true =>
    obtain rfl:op=2:=by simpa using h2
    obtain ⟨⟨b0,b1,b2,b3,b4⟩,e1,e2⟩:=first (by simpa using ha);have hs' : afk vs.length slot=true:=by simpa using hs
    simp only [cond_true,e1,Option.bind_some,aly hs',e2];cases (kTs vs l6).headD 0 == vs[slot.toNat]?.getD 0 with
    | true=>exact ⟨rfl,rfl⟩
    | false=>exact aeO _ rfl
   | false =>
    simp only [cond_false];cases h17:op == 17 with
    | true =>
     obtain rfl:op=17:=by simpa using h17
     have hr' : l6.length≤[a2].length:=by simpa using hr
     simp only [cond_true,aod k fs a0 a1 a2 a3 a4 a5 vs l6 [a2] hr' hk6 hv,Option.bind_some];cases areK vs l6 [a2] with
     | true=>exact ⟨rfl,rfl⟩
     | false=>exact aeO _ rfl
    | false =>
     have g8:=azl (a2:=a2) (ix:=ix) HJ hs h2 hv hk6 hw hc h1 h14;simp only [cond_false];have e : ∀ (x y z:Option (aas × Bool)),(cond (op == 3) (afd k F fs a0 a1 a2 a3 a4 a5 vs op name slot ix l6 l7 l8 l9 l10 (op == 3)) (cond (op == 4) (afd k F fs a0 a1 a2 a3 a4 a5 vs op name slot ix l6 l7 l8 l9 l10 (op == 4)) (afd k F fs a0 a1 a2 a3 a4 a5 vs op name slot ix l6 l7 l8 l9 l10 (op == 28))))=afd k F fs a0 a1 a2 a3 a4 a5 vs op name slot ix l6 l7 l8 l9 l10 (op == 3 || op == 4 || op == 28):=by
      intro _ _ _;cases op == 3 <;> cases op == 4 <;> cases op == 28 <;> rfl
     have e':=e none none none;cases h3:op == 3 <;> cases h4:op == 4 <;> rw [h3,h4] at e' g8 <;> simp only [cond_true,cond_false,Bool.true_or,Bool.or_true,Bool.false_or,Bool.or_false] at e' g8 ⊢ <;> exact g8
omit HB in
theorem aoJ (hf57 : ∀ (s:aaf) (vs:List Int),szS s≤N→wvS fs vs.length s=true→Rs fs a0 a1 a2 a3 a4 a5 (F.f57 (Stt fs a0 a1 a2 a3 a4 a5 vs) s) (yS fs a2 vs s) vs.length) : ∀ (l:List aaf) (i:Nat) (vs:List Int),szSs l≤N→vSs fs vs.length l=true→Rs fs a0 a1 a2 a3 a4 a5 (ahK k F l i fs a0 a1 a2 a3 a4 a5 vs) (ySs fs a2 vs l) vs.length
 | [],i,vs,_,_=>⟨rfl,rfl⟩
 | .mk op name slot fr ix flag l6 l7 l8 l9 l10 :: l,i,vs,hn,hv=>by
  simp only [szSs] at hn;simp only [vSs,Bool.and_eq_true] at hv;have ih:=aoJ hf57 l (i + 1);have g:=hf57 (.mk op name slot fr ix flag l6 l7 l8 l9 l10) vs (by omega) hv.1;unfold ahK ySs;cases e:yS fs a2 vs (.mk op name slot fr ix flag l6 l7 l8 l9 l10) with
  | none =>
   rw [e] at g;obtain ⟨w,hw,hr⟩:=g;simp only [hr,Option.bind_some,Option.bind_none,Bool.not_false,cond_true];exact ⟨w,hw,rfl⟩
  | some w =>
   rw [e] at g;obtain ⟨hw,hr⟩:=g;simp only [hr,Option.bind_some,Bool.not_true,cond_false];have:=ih w (by omega) (by rw [hw]; exact hv.2);rw [hw] at this;exact this
end
def aep:aaB→List aaf | .mk _ _ _ _ b=>b
theorem amp (k:Nat) : ∀ (l:List aaB) (i:Nat) (xs:List (List aaf)),xs.length + l.length≤1000000→ahG k l i xs=some (xs ++ l.map aep)
 | [],i,xs,_=>by simp [ahG]
 | .mk a b c d e :: l,i,xs,h=>by
  simp only [List.length_cons] at h;unfold ahG;rw [show ∀ (z:Option (List (List aaf))),aaT (decide ((xs.length + 1) * 24≤140737488355328)) z=z from fun z=>by unfold aaT; rw [decide_eq_true (by omega)]; rfl];rw [amp k l (i + 1) (xs ++ [e]) (by simp only [List.length_append,List.length_cons,List.length_nil]; omega)];simp [aep]
theorem axO (k:Nat) (op:Int) (name:ByteArray) (slot:Int) (fr:ByteArray) (ix flag:Int) (l6:List aah) (l7 l8 l9:List aaf) (l10:List aaB) (h:l10.length≤100000) :
  f92 k (.mk op name slot fr ix flag l6 l7 l8 l9 l10)=some (l7 :: l8 :: l9 :: l10.map aep):=by
 unfold f92 asn;simp only;rw [amp k l10 0 [l7,l8,l9] (by simp; omega)];rfl
mutual
def bkS:aaf→Bool
 | .mk op _ _ _ _ flag _ l7 l8 l9 l10=>cond (op == 21 || op == 28) false (op == 18 || (op == 6 && flag == 1) || (bkL l7 || (bkL l8 || (bkL l9 || bkC l10))))
def bkL:List aaf→Bool
 | []=>false
 | s :: l=>bkS s || bkL l
def bkC:List aaB→Bool
 | []=>false
 | .mk _ _ _ _ b :: l=>bkL b || bkC l
end
theorem aq9 : ∀ l,bkC l=(l.map aep).any bkL
 | []=>rfl
 | .mk a b c d e :: l=>by simp [bkC,aq9 l,aep]
theorem amI : ∀ (l:List aaB) (b:List aaf),b ∈ l.map aep→szSs b≤szCs l
 | [],b,h=>by simp at h
 | .mk a1 a2 a3 es e :: l,b,h=>by
  simp only [List.map_cons,aep,List.mem_cons] at h;simp only [szCs,szC];rcases h with rfl | h
  ·omega
  ·have:=amI l b h; omega
theorem amt {α:Type} {g:List α→Nat→Option Int} {h:α→Bool} (g0 : ∀ i,g [] i=some (-1)) (P:α→Prop) (g1 : ∀ e l i,P e→g (e :: l) i=cond (h e) (some (i:Int)) (g l (i + 1))) :
  ∀ (l:List α) (i:Nat),(∀ e ∈ l,P e)→∃ r,g l i=some r∧decide (r ≥ 0)=l.any h
 | [],i,_=>⟨-1,g0 i,rfl⟩
 | e :: l,i,hp=>by
  rw [g1 e l i (hp e (by simp))];cases he:h e with
  | true=>exact ⟨(i:Int),rfl,by simp [he]⟩
  | false =>
   obtain ⟨r,h1,h2⟩:=amt g0 P g1 l (i + 1) (fun x hx=>hp x (by simp [hx]));exact ⟨r,h1,by simp [he,h2]⟩
theorem aqo : ∀ l,bkL l=l.any bkS
 | []=>rfl
 | s :: l=>by simp [bkL,aqo l]
theorem aq1 : ∀ (l:List aaf) (s:aaf),s ∈ l→szS s≤szSs l
 | [],s,h=>by simp at h
 | x :: l,s,h=>by
  simp only [szSs];rcases List.mem_cons.1 h with rfl | h
  ·omega
  ·have:=aq1 l s h; omega
theorem avU (k:Nat) : ∀ N:Nat,(∀ (l:List aaf) (n:Nat),szSs l≤N→N≤100000→6 * szSs l + 3≤n→(acD k n).f63 l=some (bkL l))∧(∀ (s:aaf) (n:Nat),szS s≤N→N≤100000→6 * szS s≤n→(acD k n).f90 s=some (bkS s)):=by
 intro N;induction N with
 | zero =>
  refine ⟨fun l n h _ hn=>?_,fun s n h _ _=>?_⟩
  ·obtain rfl:l=[]:=by
    cases l with
    | nil=>rfl
    | cons s l=>obtain ⟨a0,a1,a2,a3,a4,a5,a6,a7,a8,a9,a10⟩:=s; simp only [szSs,szS] at h; omega
   obtain ⟨m,rfl⟩ : ∃ m,n=m + 3:=⟨n - 3,by omega⟩;rfl
  ·obtain ⟨a0,a1,a2,a3,a4,a5,a6,a7,a8,a9,a10⟩:=s;simp only [szS] at h;omega
 | succ N ih =>
  have hS : ∀ (s:aaf) (n:Nat),szS s≤N + 1→N + 1≤100000→6 * szS s≤n→(acD k n).f90 s=some (bkS s):=by
   intro s n h hN hn;obtain ⟨op,name,slot,fr,ix,flag,l6,l7,l8,l9,l10⟩:=s;simp only [szS] at h hn;obtain ⟨m,rfl⟩ : ∃ m,n=m + 3:=⟨n - 3,by omega⟩;have h10:l10.length≤100000:=Nat.le_trans (aol l10) (by omega);have hB:(acD k (m + 2)).f1009184 (l7 :: l8 :: l9 :: l10.map aep)=some (bkL l7 || (bkL l8 || (bkL l9 || bkC l10))):=by
    show ((acS k (acD k m) (l7 :: l8 :: l9 :: l10.map aep) 0).bind fun r0=>some (decide (r0 ≥ 0)))=_;obtain ⟨r,h1,h2⟩:=amt (g:=acS k (acD k m)) (h:=bkL) (fun _=>rfl) (fun b=>szSs b≤N∧6 * szSs b + 3≤m) (fun e l i he=>by
     show ((acD k m).f63 e).bind _=_;rw [ih.1 e m he.1 (by omega) he.2];rfl) (l7 :: l8 :: l9 :: l10.map aep) 0 (fun e he=>by
      simp only [List.mem_cons] at he;rcases he with rfl | rfl | rfl | he
      ·exact ⟨by omega,by omega⟩
      ·exact ⟨by omega,by omega⟩
      ·exact ⟨by omega,by omega⟩
      ·have:=amI l10 e he;exact ⟨by omega,by omega⟩)
    rw [h1,Option.bind_some,h2];simp [aq9]
   show arf k (acD k (m + 2)) (.mk op name slot fr ix flag l6 l7 l8 l9 l10)=_;unfold arf amj aii bkS;simp only [axO k op name slot fr ix flag l6 l7 l8 l9 l10 h10,Option.bind_some,hB];generalize (bkL l7 || (bkL l8 || (bkL l9 || bkC l10)))=q;cases op == 21 <;> cases op == 28 <;> cases op == 18 <;> cases op == 6 <;> cases flag == 1 <;> rfl
  refine ⟨fun l n h hN hn=>?_,hS⟩;obtain ⟨m,rfl⟩ : ∃ m,n=m + 3:=⟨n - 3,by omega⟩;show (((((act k (acD k m) l 0).bind fun r0=>some (decide (r0 ≥ 0)))).bind fun r0=>some r0):Option Bool)=_;obtain ⟨r,h1,h2⟩:=amt (g:=act k (acD k m)) (h:=bkS) (fun _=>rfl) (fun s=>szS s≤N + 1∧6 * szS s≤m) (fun e l i he=>by
   have:=hS e m he.1 hN he.2;obtain ⟨a0,a1,a2,a3,a4,a5,a6,a7,a8,a9,a10⟩:=e;rw [act,this];rfl) l 0 (fun e he=>by
    have:=aq1 l e he;exact ⟨by omega,by omega⟩)
  rw [h1,Option.bind_some,Option.bind_some,h2,aqo]
theorem awR (k:Nat) (l:List aaf) (h:szSs l≤100000) (hk:6 * szSs l + 3≤k):f63 k l=some (bkL l):=(avU k (szSs l)).1 l k (Nat.le_refl _) h hk
mutual
def oS:aaf→Bool
 | .mk op _ _ _ _ _ l6 l7 l8 l9 l10=>(op != 21 || decide (1≤l6.length)) && (oL l7 && (oL l8 && (oL l9 && oC l10)))
def oL:List aaf→Bool
 | []=>true
 | s :: l=>oS s && oL l
def oC:List aaB→Bool
 | []=>true
 | .mk _ _ _ _ b :: l=>oL b && oC l
end
def axi:List aah→Bool
 | .mk op n _ _ _ :: _=>op == 2 && n == 1
 | []=>false
mutual
def edS:aaf→Bool
 | .mk op _ _ _ _ flag l6 l7 l8 l9 l10 =>
  cond (op == 17 || op == 15 || op == 18 || op == 19) true
  (cond (op == 20) (flag == 1 && (edL l7 && edL l8))
  (cond (op == 21) (axi l6 && !bkL l7)
  (cond (op == 23 || op == 25 || op == 26) (edL l7)
  (cond (op == 24) (edL l9 || (edL l7 && ((IntKind.i64.wrap (BitVec.ofInt IntKind.i64.bits flag &&& BitVec.ofInt IntKind.i64.bits 1).toNat) == 0 || edL l8)))
  (cond (op == 27) (edC l10) false)))))
def edL:List aaf→Bool
 | []=>false
 | s :: l=>edS s || edL l
def edC:List aaB→Bool
 | []=>true
 | .mk _ _ _ _ b :: l=>edL b && edC l
end
theorem apg : ∀ l,edL l=l.any edS
 | []=>rfl
 | s :: l=>by simp [edL,apg l]
theorem apY : ∀ l,edC l=!l.any (fun c=>!edL (aep c))
 | []=>rfl
 | .mk a b c d e :: l=>by simp [edC,apY l,aep]
theorem atU : ∀ (l:List aaf) (s:aaf),oL l=true→s ∈ l→oS s=true
 | [],s,_,h=>by simp at h
 | x :: l,s,ho,h=>by
  simp only [oL,Bool.and_eq_true] at ho;rcases List.mem_cons.1 h with rfl | h
  ·exact ho.1
  ·exact atU l s ho.2 h
theorem at1 : ∀ (l:List aaB) (c:aaB),oC l=true→c ∈ l→oL (aep c)=true∧szSs (aep c)≤szCs l
 | [],c,_,h=>by simp at h
 | .mk a1 a2 a3 es e :: l,c,ho,h=>by
  simp only [oC,Bool.and_eq_true] at ho;simp only [szCs,szC];rcases List.mem_cons.1 h with rfl | h
  ·exact ⟨ho.1,by simp only [aep]; omega⟩
  ·have:=at1 l c ho.2 h;exact ⟨this.1,by omega⟩
theorem auZ (k:Nat) : ∀ N:Nat,(∀ (l:List aaf) (n:Nat),szSs l≤N→N≤100000→6 * N + 3≤k→oL l=true→9 * szSs l + 3≤n→(abL k n).f24 l=some (edL l))∧(∀ (s:aaf) (n:Nat),szS s≤N→N≤100000→6 * N + 3≤k→oS s=true→9 * szS s≤n→(abL k n).f43 s=some (edS s)):=by
 intro N;induction N with
 | zero =>
  refine ⟨fun l n h _ _ _ hn=>?_,fun s n h _ _ _ _=>?_⟩
  ·obtain rfl:l=[]:=by
    cases l with
    | nil=>rfl
    | cons s l=>obtain ⟨a0,a1,a2,a3,a4,a5,a6,a7,a8,a9,a10⟩:=s; simp only [szSs,szS] at h; omega
   obtain ⟨m,rfl⟩ : ∃ m,n=m + 3:=⟨n - 3,by omega⟩;rfl
  ·obtain ⟨a0,a1,a2,a3,a4,a5,a6,a7,a8,a9,a10⟩:=s;simp only [szS] at h;omega
 | succ N ih =>
  have hS : ∀ (s:aaf) (n:Nat),szS s≤N + 1→N + 1≤100000→6 * (N + 1) + 3≤k→oS s=true→9 * szS s≤n→(abL k n).f43 s=some (edS s):=by
   intro s n h hN hk ho hn;obtain ⟨op,name,slot,fr,ix,flag,l6,l7,l8,l9,l10⟩:=s;simp only [szS] at h hn;simp only [oS,Bool.and_eq_true] at ho;obtain ⟨o6,o7,o8,o9,o10⟩:=ho;obtain ⟨m,rfl⟩ : ∃ m,n=m + 9:=⟨n - 9,by omega⟩;have g7:=ih.1 l7 (m + 8) (by omega) (by omega) (by omega) o7 (by omega);have g8:=ih.1 l8 (m + 8) (by omega) (by omega) (by omega) o8 (by omega);have g9:=ih.1 l9 (m + 8) (by omega) (by omega) (by omega) o9 (by omega);have gb:=awR k l7 (by omega) (by omega);have hC:(abL k (m + 8)).f1006449 l10=some (edC l10):=by
    show ((((acu k (abL k (m + 5)) l10 0).bind fun r0=>some (decide (r0 ≥ 0))).bind fun r2=>some (!r2)):Option Bool)=_;obtain ⟨r,h1,h2⟩:=amt (g:=acu k (abL k (m + 5))) (h:=fun c=>!edL (aep c)) (fun _=>rfl) (fun c=>oL (aep c)=true∧szSs (aep c)≤N∧9 * szSs (aep c) + 3≤m + 3) (fun e l i he=>by
     obtain ⟨b0,b1,b2,b3,b4⟩:=e;simp only [aep] at he ⊢;have:=ih.1 b4 (m + 3) he.2.1 (by omega) (by omega) he.1 he.2.2;rw [acu];show ((((((abL k (m + 3)).f24 b4).bind fun r9=>some r9).bind fun r9=>some (!r9)):Option Bool)).bind _=_;rw [this];rfl) l10 0 (fun c hc=>by
      have:=at1 l10 c o10 hc;exact ⟨this.1,by omega,by omega⟩)
    rw [h1,Option.bind_some,Option.bind_some,h2,apY]
   show ap8 k (abL k (m + 8)) (.mk op name slot fr ix flag l6 l7 l8 l9 l10)=_;unfold ap8 aix ajQ ajG ajD aja edS;simp only [g7,g8,g9,gb,hC,Option.bind_some];generalize edL l7=e7;generalize edL l8=e8;generalize edL l9=e9;generalize edC l10=e10;generalize (IntKind.i64.wrap (BitVec.ofInt IntKind.i64.bits flag &&& BitVec.ofInt IntKind.i64.bits 1).toNat == 0)=fb;cases op == 17 <;> cases op == 15 <;> cases op == 18 <;> cases op == 19 <;> try rfl
   simp only [cond_false,Bool.or_false];cases op == 20
   ·simp only [cond_false];cases h21:op == 21
    ·simp only [cond_false];cases op == 23 <;> cases op == 25 <;> cases op == 26 <;> cases op == 24 <;> cases op == 27 <;> cases e7 <;> cases e8 <;> cases e9 <;> cases fb <;> rfl
    ·have:(op != 21)=false:=by rw [bne,h21]; rfl
     rw [this,Bool.false_or,decide_eq_true_eq] at o6;cases l6 with
     | nil=>simp at o6
     | cons e l =>
      obtain ⟨b0,b1,b2,b3,b4⟩:=e;have hi:idxO (aah.mk b0 b1 b2 b3 b4 :: l) 0=some (.mk b0 b1 b2 b3 b4):=rfl;simp only [cond_true,hi,Option.bind_some,axi];cases b0 == 2 <;> cases b1 == 1 <;> rfl
   ·cases flag == 1 <;> cases e7 <;> cases e8 <;> rfl
  refine ⟨fun l n h hN hk ho hn=>?_,hS⟩;obtain ⟨m,rfl⟩ : ∃ m,n=m + 3:=⟨n - 3,by omega⟩;show (((((acy k (abL k m) l 0).bind fun r0=>some (decide (r0 ≥ 0)))).bind fun r0=>some r0):Option Bool)=_;obtain ⟨r,h1,h2⟩:=amt (g:=acy k (abL k m)) (h:=edS) (fun _=>rfl) (fun s=>oS s=true∧szS s≤N + 1∧9 * szS s≤m) (fun e l i he=>by
   have:=hS e m he.2.1 hN hk he.1 he.2.2;obtain ⟨a0,a1,a2,a3,a4,a5,a6,a7,a8,a9,a10⟩:=e;rw [acy,this];rfl) l 0 (fun e he=>by
    have:=aq1 l e he;exact ⟨atU l e ho he,by omega,by omega⟩)
  rw [h1,Option.bind_some,Option.bind_some,h2,apg]
theorem ax9 (k:Nat) (l:List aaf) (h:szSs l≤100000) (ho:oL l=true) (hk:9 * szSs l + 3≤k):f24 k l=some (edL l):=(auZ k (szSs l)).1 l k (Nat.le_refl _) h (by omega) ho hk
theorem av4 {fs:List aae} {a0:ByteArray} {a1:List aaR} {a2:Int} {a3:Bool} {a4:Int} {a5:List aaf} (k:Nat) : ∀ n:Nat,
  (∀ (l:List aaf) (vs:List Int),2 * szSs l + 1≤n→szSs l≤k→vSs fs vs.length l=true→Rs fs a0 a1 a2 a3 a4 a5 ((ahR k n).f36 (Stt fs a0 a1 a2 a3 a4 a5 vs) l) (ySs fs a2 vs l) vs.length) ∧
  (∀ (s:aaf) (vs:List Int),2 * szS s≤n→szS s≤k→wvS fs vs.length s=true→Rs fs a0 a1 a2 a3 a4 a5 ((ahR k n).f57 (Stt fs a0 a1 a2 a3 a4 a5 vs) s) (yS fs a2 vs s) vs.length):=by
 intro n;induction n with
 | zero =>
  refine ⟨fun l vs h=>by omega,fun s vs h=>?_⟩;obtain ⟨b0,b1,b2,b3,b4,b5,b6,b7,b8,b9,b10⟩:=s;simp only [szS] at h;omega
 | succ n ih =>
  refine ⟨fun l vs h hk hv=>?_,fun s vs h hk hv=>?_⟩
  ·show Rs fs a0 a1 a2 a3 a4 a5 (ahK k (ahR k n) l 0 fs a0 a1 a2 a3 a4 a5 vs) _ _;exact aoJ (N:=szSs l) (fun s v hs hv=>ih.2 s v (by omega) (by omega) hv) l 0 vs (Nat.le_refl _) hv
  ·show Rs fs a0 a1 a2 a3 a4 a5 (ao3 k (ahR k n) (Stt fs a0 a1 a2 a3 a4 a5 vs) s) _ _;have hp:1≤szS s:=by obtain ⟨b0,b1,b2,b3,b4,b5,b6,b7,b8,b9,b10⟩:=s; simp only [szS]; omega
   exact au3 (N:=szS s - 1) (fun l v hl hv=>ih.1 l v (by omega) (by omega) hv) s vs (by omega) hk hv
theorem axM {fs:List aae} {a0:ByteArray} {a1:List aaR} {a2:Int} {a3:Bool} {a4:Int} {a5:List aaf} (k:Nat) (l:List aaf) (vs:List Int) (h:2 * szSs l + 1≤k) (hv:vSs fs vs.length l=true) :
 Rs fs a0 a1 a2 a3 a4 a5 (f36 k (Stt fs a0 a1 a2 a3 a4 a5 vs) l) (ySs fs a2 vs l) vs.length:=(av4 k k).1 l vs h (by omega) hv
def anQ (ps:List aaR) (v:Int):List Int:=aeg ps ++ List.replicate (v - (ps.length:Int)).toNat (0:Int)
def kkF (fs:List aae):aae→Ex (List Int)
 | .mk _ ps res _ v b=>match ySs fs res (anQ ps v) b with
  | none=>.error 23
  | some w=>cond (res != 0 && !edL b) (.error 26) (.ok w)
def kFs (fs:List aae):List aae→Ex (List (List Int))
 | []=>.ok []
 | f :: l=>eb (kkF fs f) fun x=>eb (kFs fs l) fun y=>.ok (x :: y)
def funs:aaa→List aae | .mk fs=>fs
def uK (p:aaa):Ex (aaa × List (List Int)):=cond (wf true p) (eb (uP (stP p)) fun x=>eb (kFs (funs x.1) (funs x.1)) fun y=>.ok (x.1,y)) (.error 2)
def wvF (fs:List aae) (k:Nat):aae→Prop
 | .mk _ ps _ _ v b=>(ps.length:Int)≤v∧v≤1000∧vSs fs v.toNat b=true∧oL b=true∧szSs b≤100000∧9 * szSs b + 3≤k
theorem alT (k:Nat) (q:List aae) : ∀ (l:List aae) (i:Nat) (xs:List (List Int)),(∀ f ∈ l,wvF q k f)→xs.length + l.length≤100000 →
  ae8 k q l i 0 xs=some (match kFs q l with | .error c=>(.mk [],[],c) | .ok y=>(.mk q,xs ++ y,0))
 | [],i,xs,_,_=>by simp [ae8,ajs,kFs]
 | .mk n ps res fl v b :: l,i,xs,hv,hl=>by
  obtain ⟨h1,h2,h3,h4,h5,h6⟩:=hv (.mk n ps res fl v b) (by simp);simp only [List.length_cons] at hl;have ih:=fun ys hy=>alT k q l (i + 1) ys (fun f hf=>hv f (by simp [hf])) hy
  have hw:w64 (v - (ps.length:Int))=v - (ps.length:Int):=by
   have:=aby (x:=v - (ps.length:Int)) (n:=(v - (ps.length:Int)).toNat) (by omega) (by omega);omega
  have hlen:(anQ ps v).length=v.toNat:=by
   unfold anQ;rw [List.length_append,afp,List.length_replicate];omega
  have h36:=axM (fs:=q) (a0:=n) (a1:=ps) (a2:=res) (a3:=fl) (a4:=v) (a5:=b) k b (anQ ps v) (by omega) (by rw [hlen]; exact h3);have h24:=ax9 k b h5 h4 h6;unfold ae8 kFs kkF an7 amg ajN ajs;have hps:ps.length≤1000:=by omega
  simp only [at8 k n ps res fl v b hps,Option.bind_some,hw];rw [show ∀ (z:Option (aaa × (List (List Int)) × Int)),aaT (decide (0≤v - (ps.length:Int)∧(((aeg ps).length:Int) + (v - (ps.length:Int))) * ((8:Nat):Int)≤140737488355328)) z=z from fun z=>by
   unfold aaT; rw [decide_eq_true (by rw [afp]; omega)]; rfl]
  show (f36 k (Stt q n ps res fl v b (anQ ps v)) b).bind _=_;cases e:ySs q res (anQ ps v) b with
  | none =>
   rw [e] at h36;obtain ⟨w,hw,hr⟩:=h36;simp only [hr,Option.bind_some];rfl
  | some w =>
   rw [e] at h36;obtain ⟨hwl,hr⟩:=h36;have hg : ∀ (z:Option (aaa × (List (List Int)) × Int)),aaT (decide ((xs.length + 1) * 24≤140737488355328)) z=z:=fun z=>by unfold aaT; rw [decide_eq_true (by omega)]; rfl
   have i2:=ih (xs ++ [w]) (by simp only [List.length_append,List.length_cons,List.length_nil]; omega);simp only [hr,Option.bind_some,h24,Bool.not_true,cond_false,hg,i2];have fin:(some (match kFs q l with | .error c=>(aaa.mk [],[],c) | .ok y=>(aaa.mk q,(xs ++ [w]) ++ y,0)):Option (aaa × (List (List Int)) × Int))=some (match (eb (.ok w) fun x=>eb (kFs q l) fun y=>.ok (x :: y):Ex (List (List Int))) with | .error c=>(aaa.mk [],[],c) | .ok y=>(aaa.mk q,xs ++ y,0)):=by
    cases kFs q l with
    | error c=>rfl
    | ok y=>simp [eb]
   cases hres:res != 0 with
   | true =>
    cases edL b with
    | true=>exact fin
    | false=>rfl
   | false=>exact fin
theorem ayd (k:Nat) (p:aaa) (hk:2 * szP p + 1≤k) (hk2:4 * 600 + 1≤k) (hf:fitP p) (hv : ∀ x,wf true p=true→uP (stP p)=.ok x→(∀ f ∈ funs x.1,wvF (funs x.1) k f)∧(funs x.1).length≤16) :
  f21 k p=some (match uK p with | .error c=>(.mk [],[],c) | .ok x=>(x.1,x.2,0)):=by
 have h34:=awn k p hk hf;have h35:=axS k (stP p) (by rw [ayo]; exact hk) hk2;obtain ⟨fs⟩:=p;unfold f21 arK uK;simp only [h34,Option.bind_some];cases hw:wf true (.mk fs) with
 | false=>rfl
 | true =>
  simp only [stP] at h35 hv ⊢;simp only [cond_true,h35,Option.bind_some];cases hu:uP (.mk (stFs fs)) with
  | error c =>
   have hc:(c != 0)=true:=by simpa using atB hu
   simp only [bne_self_eq_false,cond_false,hc,cond_true];rfl
  | ok x =>
   obtain ⟨⟨q⟩,nl⟩:=x;obtain ⟨g1,g2⟩:=hv _ hw hu;simp only [funs] at g1 g2;simp only [bne_self_eq_false,cond_false,eb,funs,alT k q q 0 [] g1 (by simp; omega)];cases kFs q q with
   | error c=>rfl
   | ok y=>rfl
end Go.Proofs.YtoegpkmhifmamaaGreatDoor
