/- Words of the same proof, part 5: what the last text needs; nothing is claimed here. -/
import Derived.Test.YtoajecnoffhlbaaGreatDoorS4
set_option linter.unusedVariables false
set_option linter.unusedSimpArgs false
set_option maxRecDepth 100000
set_option maxHeartbeats 4000000
namespace Go.Proofs.YtoajecnoffhlbaaGreatDoor
open Go
theorem chk14_shape {q:DProgram} (h:chk14 q=true) : ∃ n ps r fl a o1 n1 sl1 f1 ix1 fg1 ar1 b c f2 ix2 fg2 ar2 bo2 ot2 la2 d ot1 la1 e f g f3 ix3 fg3 ar3 bo3 ot3 la3 i,
 q=.mk [.mk n ps r fl 3 [a,.mk o1 n1 sl1 f1 ix1 fg1 ar1 [.mk b c 1 f2 ix2 fg2 ar2 bo2 ot2 la2 d] ot1 la1 e,.mk f g 2 f3 ix3 fg3 ar3 bo3 ot3 la3 i]]:=by
 unfold chk14 at h
 split at h
 ·simp only [Bool.and_eq_true,beq_iff_eq] at h
  obtain ⟨⟨rfl,rfl⟩,rfl⟩:=h
  exact ⟨_,_,_,_,_,_,_,_,_,_,_,_,_,_,_,_,_,_,_,_,_,_,_,_,_,_,_,_,_,_,_,_,_,_,_,rfl⟩
 ·cases h
theorem sample_ok {K:KH} {wi:World} (q:Sx K K wi wi (fun b=>b ∈ Ents.blks []) []) :
 Calls Tryz.prog 41 #[] wi (Ret fun v w=>∃ bF bB bI bC bN k m,v=.agg #[.slice (some ⟨bF,0,none⟩) 1 1]∧SR K K wi w [] [.box wi.heap.size bF #[.string ⟨#[109,97,105,110]⟩,nS,iI 0,vN,iI 0,.slice (some ⟨bB,0,none⟩) 3 3] 38,.box wi.heap.size bB #[iI 1,.string ⟨#[120]⟩,iI 0,sE,iI 0,iI 0,.slice (some ⟨m,0,none⟩) 1 1,nS,nS,nS,nS,iI 20,sE,iI 0,sE,iI 0,iI 0,.slice (some ⟨bC,0,none⟩) 1 1,.slice (some ⟨bI,0,none⟩) 1 1,nS,nS,nS,iI 1,.string ⟨#[121]⟩,iI 0,sE,iI 0,iI 0,.slice (some ⟨k,0,none⟩) 1 1,nS,nS,nS,nS] 42,.box wi.heap.size bI #[iI 1,.string ⟨#[121]⟩,iI 0,sE,iI 0,iI 0,.slice (some ⟨bN,0,none⟩) 1 1,nS,nS,nS,nS] 42,.box wi.heap.size bC #[iI 2,iI 1,sE,iI 0,nS] 107,.box wi.heap.size bN #[iI 4,iI 0,.string ⟨#[120]⟩,iI 0,nS] 107,.box wi.heap.size k #[iI 1,iI 2,sE,iI 0,nS] 107,.box wi.heap.size m #[iI 1,iI 1,sE,iI 0,nS] 107]):=by
 refine enter Tryz.func41 rfl (n:=24) rfl ?_
 refine wp_seq ?_
 refine wp_region_lit ?_
 refine alcC (z:=.agg #[nS]) (cs:=#[nS]) q (by kernel_rfl) rfl ?_
 intro c r
 refine wpList_nil ?_
 refine thenN ?_
 refine wp_seq ?_
 refine wp_region_lit ?_
 refine bld (cells:=#[iI 1,iI 1,sE,iI 0,nS]) (vs:=[(0,iI 1),(1,iI 1)]) rfl (fun w=>by kernel_rfl) ?_
 refine bsl (e:=107) (cells:=#[iI 1,iI 1,sE,iI 0,nS]) (vs:=[(0,.agg #[iI 1,iI 1,sE,iI 0,nS])]) r rfl (buildSl_one (show ElemB Tryz.prog 39=some 107 by kernel_rfl) (show SizeB Tryz.prog 107=some 5 by kernel_rfl) (show ZeroB Tryz.prog 107=some (.agg zE.toArray) by kernel_rfl) rfl (by decide) (by decide) rfl) ?_
 intro d s
 refine bld (cells:=#[iI 1,iI 2,sE,iI 0,nS]) (vs:=[(0,iI 1),(1,iI 2)]) rfl (fun w=>by kernel_rfl) ?_
 refine bsl (e:=107) (cells:=#[iI 1,iI 2,sE,iI 0,nS]) (vs:=[(0,.agg #[iI 1,iI 2,sE,iI 0,nS])]) s rfl (buildSl_one (show ElemB Tryz.prog 39=some 107 by kernel_rfl) (show SizeB Tryz.prog 107=some 5 by kernel_rfl) (show ZeroB Tryz.prog 107=some (.agg zE.toArray) by kernel_rfl) rfl (by decide) (by decide) rfl) ?_
 intro a t
 refine asg (v:=.slice (some ⟨c.heap.size,0,none⟩) 1 1) rfl ?_
 refine asg (v:=.slice (some ⟨d.heap.size,0,none⟩) 1 1) rfl ?_
 refine wpList_nil ?_
 refine thenN ?_
 refine wp_seq ?_
 refine wp_region_lit ?_
 refine bld (cells:=#[iI 4,iI 0,.string ⟨#[120]⟩,iI 0,nS]) (vs:=[(0,iI 4),(2,.string ⟨#[120]⟩)]) rfl (fun w=>by kernel_rfl) ?_
 refine bsl (e:=107) (cells:=#[iI 4,iI 0,.string ⟨#[120]⟩,iI 0,nS]) (vs:=[(0,.agg #[iI 4,iI 0,.string ⟨#[120]⟩,iI 0,nS])]) t rfl (buildSl_one (show ElemB Tryz.prog 39=some 107 by kernel_rfl) (show SizeB Tryz.prog 107=some 5 by kernel_rfl) (show ZeroB Tryz.prog 107=some (.agg zE.toArray) by kernel_rfl) rfl (by decide) (by decide) rfl) ?_
 intro D u
 refine bld (cells:=#[iI 1,.string ⟨#[121]⟩,iI 0,sE,iI 0,iI 0,.slice (some ⟨a.heap.size,0,none⟩) 1 1,nS,nS,nS,nS]) (vs:=[(0,iI 1),(1,.string ⟨#[121]⟩),(6,.slice (some ⟨a.heap.size,0,none⟩) 1 1)]) rfl (fun w=>by kernel_rfl) ?_
 refine alcC (z:=.agg zS.toArray) (cs:=zS.toArray) u (by kernel_rfl) rfl ?_
 intro G x
 refine stoI (i:=0) (v:=.agg #[iI 1,.string ⟨#[121]⟩,iI 0,sE,iI 0,iI 0,.slice (some ⟨a.heap.size,0,none⟩) 1 1,nS,nS,nS,nS]) (cs':=#[iI 1,.string ⟨#[121]⟩,iI 0,sE,iI 0,iI 0,.slice (some ⟨a.heap.size,0,none⟩) 1 1,nS,nS,nS,nS]) x rfl (show SizeB Tryz.prog 42=some 11 by kernel_rfl) rfl rfl rfl rfl (Nat.le_of_ble_eq_true rfl) rfl ?_
 intro g y
 refine wpList_nil ?_
 refine thenN ?_
 refine wp_seq ?_
 refine wp_region_lit ?_
 refine mv (v:=.slice (some ⟨c.heap.size,0,none⟩) 1 1) rfl ?_
 refine bld (cells:=#[iI 1,.string ⟨#[120]⟩,iI 0,sE,iI 0,iI 0,.slice (some ⟨c.heap.size,0,none⟩) 1 1,nS,nS,nS,nS]) (vs:=[(0,iI 1),(1,.string ⟨#[120]⟩),(6,.slice (some ⟨c.heap.size,0,none⟩) 1 1)]) rfl (fun w=>by kernel_rfl) ?_
 refine bld (cells:=#[iI 2,iI 1,sE,iI 0,nS]) (vs:=[(0,iI 2),(1,iI 1)]) rfl (fun w=>by kernel_rfl) ?_
 refine bsl (e:=107) (cells:=#[iI 2,iI 1,sE,iI 0,nS]) (vs:=[(0,.agg #[iI 2,iI 1,sE,iI 0,nS])]) y rfl (buildSl_one (show ElemB Tryz.prog 39=some 107 by kernel_rfl) (show SizeB Tryz.prog 107=some 5 by kernel_rfl) (show ZeroB Tryz.prog 107=some (.agg zE.toArray) by kernel_rfl) rfl (by decide) (by decide) rfl) ?_
 intro h o
 refine lbN (i:=1) (l:=[iI 1,.string ⟨#[121]⟩,iI 0,sE,iI 0,iI 0,.slice (some ⟨a.heap.size,0,none⟩) 1 1,nS,nS,nS,nS]) o rfl (by kernel_rfl) (show SizeB Tryz.prog 42=some 11 by kernel_rfl) rfl rfl rfl ?_
 refine bsl (e:=42) (cells:=#[iI 1,.string ⟨#[121]⟩,iI 0,sE,iI 0,iI 0,.slice (some ⟨a.heap.size,0,none⟩) 1 1,nS,nS,nS,nS]) (vs:=[(0,.agg #[iI 1,.string ⟨#[121]⟩,iI 0,sE,iI 0,iI 0,.slice (some ⟨a.heap.size,0,none⟩) 1 1,nS,nS,nS,nS])]) o rfl (buildSl_one (show ElemB Tryz.prog 36=some 42 by kernel_rfl) (show SizeB Tryz.prog 42=some 11 by kernel_rfl) (show ZeroB Tryz.prog 42=some (.agg zS.toArray) by kernel_rfl) rfl (by decide) (by decide) rfl) ?_
 intro j A
 refine bld (cells:=#[iI 20,sE,iI 0,sE,iI 0,iI 0,.slice (some ⟨g.heap.size,0,none⟩) 1 1,.slice (some ⟨h.heap.size,0,none⟩) 1 1,nS,nS,nS]) (vs:=[(0,iI 20),(6,.slice (some ⟨g.heap.size,0,none⟩) 1 1),(7,.slice (some ⟨h.heap.size,0,none⟩) 1 1)]) rfl (fun w=>by kernel_rfl) ?_
 refine mv (v:=.slice (some ⟨d.heap.size,0,none⟩) 1 1) rfl ?_
 refine bld (cells:=#[iI 1,.string ⟨#[121]⟩,iI 0,sE,iI 0,iI 0,.slice (some ⟨d.heap.size,0,none⟩) 1 1,nS,nS,nS,nS]) (vs:=[(0,iI 1),(1,.string ⟨#[121]⟩),(6,.slice (some ⟨d.heap.size,0,none⟩) 1 1)]) rfl (fun w=>by kernel_rfl) ?_
 refine bsl (e:=42) (cells:=#[iI 1,.string ⟨#[120]⟩,iI 0,sE,iI 0,iI 0,.slice (some ⟨c.heap.size,0,none⟩) 1 1,nS,nS,nS,nS,iI 20,sE,iI 0,sE,iI 0,iI 0,.slice (some ⟨g.heap.size,0,none⟩) 1 1,.slice (some ⟨h.heap.size,0,none⟩) 1 1,nS,nS,nS,iI 1,.string ⟨#[121]⟩,iI 0,sE,iI 0,iI 0,.slice (some ⟨d.heap.size,0,none⟩) 1 1,nS,nS,nS,nS]) (vs:=[(0,.agg #[iI 1,.string ⟨#[120]⟩,iI 0,sE,iI 0,iI 0,.slice (some ⟨c.heap.size,0,none⟩) 1 1,nS,nS,nS,nS]),(1,.agg #[iI 20,sE,iI 0,sE,iI 0,iI 0,.slice (some ⟨g.heap.size,0,none⟩) 1 1,.slice (some ⟨h.heap.size,0,none⟩) 1 1,nS,nS,nS]),(2,.agg #[iI 1,.string ⟨#[121]⟩,iI 0,sE,iI 0,iI 0,.slice (some ⟨d.heap.size,0,none⟩) 1 1,nS,nS,nS,nS])]) A rfl (fun w=>by kernel_rfl) ?_
 intro f B
 refine bld (cells:=#[.string ⟨#[109,97,105,110]⟩,nS,iI 0,vN,iI 0,.slice (some ⟨j.heap.size,0,none⟩) 3 3]) (vs:=[(0,.string ⟨#[109,97,105,110]⟩),(5,.slice (some ⟨j.heap.size,0,none⟩) 3 3)]) rfl (fun w=>by kernel_rfl) ?_
 refine bsl (e:=38) (cells:=#[.string ⟨#[109,97,105,110]⟩,nS,iI 0,vN,iI 0,.slice (some ⟨j.heap.size,0,none⟩) 3 3]) (vs:=[(0,.agg #[.string ⟨#[109,97,105,110]⟩,nS,iI 0,vN,iI 0,.slice (some ⟨j.heap.size,0,none⟩) 3 3])]) B rfl (buildSl_one (show ElemB Tryz.prog 22=some 38 by kernel_rfl) (show SizeB Tryz.prog 38=some 6 by kernel_rfl) (show ZeroB Tryz.prog 38=some (.agg zF.toArray) by kernel_rfl) rfl (by decide) (by decide) rfl) ?_
 intro I C
 refine bld (cells:=#[.slice (some ⟨f.heap.size,0,none⟩) 1 1]) (vs:=[(0,.slice (some ⟨f.heap.size,0,none⟩) 1 1)]) rfl (fun w=>by kernel_rfl) ?_
 refine stoI (i:=8) (v:=.agg #[.slice (some ⟨f.heap.size,0,none⟩) 1 1]) (cs':=#[.slice (some ⟨f.heap.size,0,none⟩) 1 1]) C rfl (show SizeB Tryz.prog 24=some 1 by kernel_rfl) rfl rfl rfl rfl (Nat.le_of_ble_eq_true rfl) rfl ?_
 intro J p
 refine wpList_nil ?_
 refine thenN ?_
 refine wp_ret ?_
 exact retA1 rfl (resN (i:=8) (l:=[.slice (some ⟨f.heap.size,0,none⟩) 1 1]) p rfl (by kernel_rfl) (show SizeB Tryz.prog 24=some 1 by kernel_rfl) rfl rfl rfl) ⟨f.heap.size,j.heap.size,h.heap.size,g.heap.size,a.heap.size,d.heap.size,c.heap.size,rfl,p.sel [0,1,2,3,5,6,7] (by decide)⟩
theorem sample_shut' {base:Nat} {K0 K:KH} {wi w:World} {M:Nat→Prop} {H:Ents} {nm:ByteArray} {bF bB bI bC bN c d:Nat} (hn:nm.size ≤ 140737488355328) (hle:wi.heap.size ≤ base) (g:Sx K0 K wi w M (.box base bF #[.string ⟨#[109,97,105,110]⟩,.slice none 0 0,.int .i64 0,.bool false,.int .i64 0,.slice (some ⟨bB,0,none⟩) 3 3] 38 :: .box base bB #[.int .i64 1,.string ⟨#[120]⟩,.int .i64 0,.string ⟨#[]⟩,.int .i64 0,.int .i64 0,.slice (some ⟨d,0,none⟩) 1 1,.slice none 0 0,.slice none 0 0,.slice none 0 0,.slice none 0 0,.int .i64 20,.string ⟨#[]⟩,.int .i64 0,.string ⟨#[]⟩,.int .i64 0,.int .i64 0,.slice (some ⟨bC,0,none⟩) 1 1,.slice (some ⟨bI,0,none⟩) 1 1,.slice none 0 0,.slice none 0 0,.slice none 0 0,.int .i64 1,.string ⟨#[121]⟩,.int .i64 0,.string ⟨#[]⟩,.int .i64 0,.int .i64 0,.slice (some ⟨c,0,none⟩) 1 1,.slice none 0 0,.slice none 0 0,.slice none 0 0,.slice none 0 0] 42 :: .box base bI #[.int .i64 1,.string nm,.int .i64 0,.string ⟨#[]⟩,.int .i64 0,.int .i64 0,.slice (some ⟨bN,0,none⟩) 1 1,.slice none 0 0,.slice none 0 0,.slice none 0 0,.slice none 0 0] 42 :: .box base bC #[.int .i64 2,.int .i64 1,.string ⟨#[]⟩,.int .i64 0,.slice none 0 0] 107 :: .box base bN #[.int .i64 4,.int .i64 0,.string ⟨#[120]⟩,.int .i64 0,.slice none 0 0] 107 :: .box base c #[.int .i64 1,.int .i64 2,.string ⟨#[]⟩,.int .i64 0,.slice none 0 0] 107 :: .box base d #[.int .i64 1,.int .i64 1,.string ⟨#[]⟩,.int .i64 0,.slice none 0 0] 107 :: H)) :
 ∃ K',Sx K0 K' wi w M H∧K.sub K'∧RDProgram K' (sampleP nm) [.slice (some ⟨bF,0,none⟩) 1 1]:=by
 obtain ⟨j,k,l,m⟩:=frzI (i:=6) (bytes:=64) (xs:=([(.mk 1 1 ⟨#[]⟩ 0 [])]:LE)) (R:=fun K=>(RDExpr K)) g rfl hle ⟨[iI 1,iI 1,sE,iI 0,nS],_,rfl,rfl,(RDExpr.intro (by decide) (RSl.nil _ _ _ _ _ _)),(reps0 (R:=(RDExpr K)) (size:=5))⟩ rfl (Nat.le_of_ble_eq_true rfl) (fun hs=>(fun _ _ h=>RDExpr.mono hs h))
 obtain ⟨n,o,f,p⟩:=frzI (i:=5) (bytes:=64) (xs:=([(.mk 1 2 ⟨#[]⟩ 0 [])]:LE)) (R:=fun K=>(RDExpr K)) k rfl hle ⟨[iI 1,iI 2,sE,iI 0,nS],_,rfl,rfl,(RDExpr.intro (by decide) (RSl.nil _ _ _ _ _ _)),(reps0 (R:=(RDExpr j)) (size:=5))⟩ rfl (Nat.le_of_ble_eq_true rfl) (fun hs=>(fun _ _ h=>RDExpr.mono hs h))
 obtain ⟨q,r,e,s⟩:=frzI (i:=4) (bytes:=64) (xs:=([(.mk 4 0 ⟨#[120]⟩ 0 [])]:LE)) (R:=fun K=>(RDExpr K)) o rfl hle ⟨[iI 4,iI 0,.string ⟨#[120]⟩,iI 0,nS],_,rfl,rfl,(RDExpr.intro (by decide) (RSl.nil _ _ _ _ _ _)),(reps0 (R:=(RDExpr n)) (size:=5))⟩ rfl (Nat.le_of_ble_eq_true rfl) (fun hs=>(fun _ _ h=>RDExpr.mono hs h))
 obtain ⟨t,u,a,v⟩:=frzI (i:=3) (bytes:=64) (xs:=([(.mk 2 1 ⟨#[]⟩ 0 [])]:LE)) (R:=fun K=>(RDExpr K)) r rfl hle ⟨[iI 2,iI 1,sE,iI 0,nS],_,rfl,rfl,(RDExpr.intro (by decide) (RSl.nil _ _ _ _ _ _)),(reps0 (R:=(RDExpr q)) (size:=5))⟩ rfl (Nat.le_of_ble_eq_true rfl) (fun hs=>(fun _ _ h=>RDExpr.mono hs h))
 obtain ⟨x,y,b,z⟩:=frzI (i:=2) (bytes:=184) (xs:=([(.mk 1 nm 0 ⟨#[]⟩ 0 0 [(.mk 4 0 ⟨#[120]⟩ 0 [])] [] [] [] [])]:LS)) (R:=fun K=>(RDStmt K)) u rfl hle ⟨[iI 1,.string nm,iI 0,sE,iI 0,iI 0,.slice (some ⟨bN,0,none⟩) 1 1,nS,nS,nS,nS],_,rfl,rfl,(RDStmt.intro hn (by decide) (me s a) (RSl.nil _ _ _ _ _ _) (RSl.nil _ _ _ _ _ _) (RSl.nil _ _ _ _ _ _) (RSl.nil _ _ _ _ _ _)),(reps0 (R:=(RDStmt t)) (size:=11))⟩ rfl (Nat.le_of_ble_eq_true rfl) (fun hs=>(fun _ _ h=>RDStmt.mono hs h))
 obtain ⟨A,B,C,D⟩:=frzI (i:=1) (bytes:=184) (xs:=([(.mk 1 ⟨#[120]⟩ 0 ⟨#[]⟩ 0 0 [(.mk 1 1 ⟨#[]⟩ 0 [])] [] [] [] []),(.mk 20 ⟨#[]⟩ 0 ⟨#[]⟩ 0 0 [(.mk 2 1 ⟨#[]⟩ 0 [])] [(.mk 1 nm 0 ⟨#[]⟩ 0 0 [(.mk 4 0 ⟨#[120]⟩ 0 [])] [] [] [] [])] [] [] []),(.mk 1 ⟨#[121]⟩ 0 ⟨#[]⟩ 0 0 [(.mk 1 2 ⟨#[]⟩ 0 [])] [] [] [] [])]:LS)) (R:=fun K=>(RDStmt K)) y rfl hle ⟨[iI 1,.string ⟨#[120]⟩,iI 0,sE,iI 0,iI 0,.slice (some ⟨d,0,none⟩) 1 1,nS,nS,nS,nS],_,rfl,rfl,(RDStmt.intro (by decide) (by decide) (me m (((f.trans e).trans a).trans b)) (RSl.nil _ _ _ _ _ _) (RSl.nil _ _ _ _ _ _) (RSl.nil _ _ _ _ _ _) (RSl.nil _ _ _ _ _ _)),⟨[iI 20,sE,iI 0,sE,iI 0,iI 0,.slice (some ⟨bC,0,none⟩) 1 1,.slice (some ⟨bI,0,none⟩) 1 1,nS,nS,nS],_,rfl,rfl,(RDStmt.intro (by decide) (by decide) (me v b) z (RSl.nil _ _ _ _ _ _) (RSl.nil _ _ _ _ _ _) (RSl.nil _ _ _ _ _ _)),⟨[iI 1,.string ⟨#[121]⟩,iI 0,sE,iI 0,iI 0,.slice (some ⟨c,0,none⟩) 1 1,nS,nS,nS,nS],_,rfl,rfl,(RDStmt.intro (by decide) (by decide) (me p ((e.trans a).trans b)) (RSl.nil _ _ _ _ _ _) (RSl.nil _ _ _ _ _ _) (RSl.nil _ _ _ _ _ _) (RSl.nil _ _ _ _ _ _)),(reps0 (R:=(RDStmt x)) (size:=11))⟩⟩⟩ rfl (Nat.le_of_ble_eq_true rfl) (fun hs=>(fun _ _ h=>RDStmt.mono hs h))
 obtain ⟨G,I,J,N⟩:=frzI (i:=0) (bytes:=88) (xs:=([.mk ⟨#[109,97,105,110]⟩ [] 0 false 0 [(.mk 1 ⟨#[120]⟩ 0 ⟨#[]⟩ 0 0 [(.mk 1 1 ⟨#[]⟩ 0 [])] [] [] [] []),(.mk 20 ⟨#[]⟩ 0 ⟨#[]⟩ 0 0 [(.mk 2 1 ⟨#[]⟩ 0 [])] [(.mk 1 nm 0 ⟨#[]⟩ 0 0 [(.mk 4 0 ⟨#[120]⟩ 0 [])] [] [] [] [])] [] [] []),(.mk 1 ⟨#[121]⟩ 0 ⟨#[]⟩ 0 0 [(.mk 1 2 ⟨#[]⟩ 0 [])] [] [] [] [])]]:LF)) (R:=fun K=>(RDFunc K)) B rfl hle ⟨[.string ⟨#[109,97,105,110]⟩,nS,iI 0,vN,iI 0,.slice (some ⟨bB,0,none⟩) 3 3],_,rfl,rfl,(RDFunc.intro (by decide) (RSl.nil _ _ _ _ _ _) D),(reps0 (R:=(RDFunc A)) (size:=6))⟩ rfl (Nat.le_of_ble_eq_true rfl) (fun hs=>(fun _ _ h=>RDFunc.mono hs h))
 exact ⟨G,I,(((((l.trans f).trans e).trans a).trans b).trans C).trans J,RDProgram.intro N⟩
theorem sample_shut {K0 K:KH} {wi w:World} {M:Nat→Prop} {H:Ents} {nm:ByteArray} {bF bB bI bC bN a b:Nat} (hn:nm.size ≤ 140737488355328) (c:Sx K0 K wi w M (.box wi.heap.size bF #[.string ⟨#[109,97,105,110]⟩,.slice none 0 0,.int .i64 0,.bool false,.int .i64 0,.slice (some ⟨bB,0,none⟩) 3 3] 38 :: .box wi.heap.size bB #[.int .i64 1,.string ⟨#[120]⟩,.int .i64 0,.string ⟨#[]⟩,.int .i64 0,.int .i64 0,.slice (some ⟨b,0,none⟩) 1 1,.slice none 0 0,.slice none 0 0,.slice none 0 0,.slice none 0 0,.int .i64 20,.string ⟨#[]⟩,.int .i64 0,.string ⟨#[]⟩,.int .i64 0,.int .i64 0,.slice (some ⟨bC,0,none⟩) 1 1,.slice (some ⟨bI,0,none⟩) 1 1,.slice none 0 0,.slice none 0 0,.slice none 0 0,.int .i64 1,.string ⟨#[121]⟩,.int .i64 0,.string ⟨#[]⟩,.int .i64 0,.int .i64 0,.slice (some ⟨a,0,none⟩) 1 1,.slice none 0 0,.slice none 0 0,.slice none 0 0,.slice none 0 0] 42 :: .box wi.heap.size bI #[.int .i64 1,.string nm,.int .i64 0,.string ⟨#[]⟩,.int .i64 0,.int .i64 0,.slice (some ⟨bN,0,none⟩) 1 1,.slice none 0 0,.slice none 0 0,.slice none 0 0,.slice none 0 0] 42 :: .box wi.heap.size bC #[.int .i64 2,.int .i64 1,.string ⟨#[]⟩,.int .i64 0,.slice none 0 0] 107 :: .box wi.heap.size bN #[.int .i64 4,.int .i64 0,.string ⟨#[120]⟩,.int .i64 0,.slice none 0 0] 107 :: .box wi.heap.size a #[.int .i64 1,.int .i64 2,.string ⟨#[]⟩,.int .i64 0,.slice none 0 0] 107 :: .box wi.heap.size b #[.int .i64 1,.int .i64 1,.string ⟨#[]⟩,.int .i64 0,.slice none 0 0] 107 :: H)) :
 ∃ K',Sx K0 K' wi w M H∧K.sub K'∧RDProgram K' (sampleP nm) [.slice (some ⟨bF,0,none⟩) 1 1]:=sample_shut' hn (Nat.le_refl _) c
theorem f14_body (k:Nat) (h15:f15_spec (f15 k)):f14_spec (f14 k):=by
 unfold f14_spec
 intro K wi ad h hG y
 unfold f14 at h
 obtain ⟨⟨q,e⟩,B,h⟩:=ob h
 obtain ⟨⟨q',e'⟩,C,h⟩:=ob h
 dsimp only at h
 rcases hc:(chk14 q && e == 0 && e' == 21) with _ | _
 ·rw [hc] at h; cases h
 rw [hc] at h
 obtain rfl:=Option.some.inj h
 simp only [Bool.and_eq_true,beq_iff_eq] at hc
 obtain ⟨⟨hc,rfl⟩,rfl⟩:=hc
 obtain ⟨n,ps,r,fl,a,o1,n1,sl1,f1,ix1,fg1,ar1,ae,af,f2,ix2,fg2,ar2,bo2,ot2,la2,ag,ot1,la1,ah,ai,aj,f3,ix3,fg3,ar3,bo3,ot3,la3,ak,rfl⟩:=chk14_shape hc
 refine enter Tryz.func14 rfl (n:=99) rfl ?_
 refine wp_seq ?_
 refine wp_region_lit ?_
 refine asg (v:=vN) rfl ?_
 refine wpList_nil ?_
 refine thenN ?_
 refine wp_seq ?_
 refine wp_region_lit ?_
 refine clV (caps:=#[]) (vs:=[]) rfl (by kernel_rfl) rfl (sample_ok (y.part [] (List.nil_sublist _))) ?_
 rintro _ al ⟨bF,bB,bI,bC,bN,am,an,rfl,D⟩
 obtain ⟨ao,o,p,hp⟩:=sample_shut (by decide) D
 refine clV (caps:=#[]) (vs:=[.agg #[.slice (some ⟨bF,0,none⟩) 1 1]]) rfl (by kernel_rfl) rfl (h15 _ _ _ _ _ _ B (hG.mono p) hp (o.part [] (List.nil_sublist _))) ?_
 rintro _ G ⟨ap,csq,rfl,t,hq⟩
 have I:=Sx.call (H1:=[]) o t
 obtain ⟨A,c,rfl,hrow⟩:=RDProgram.open hq
 refine mv (v:=.tuple #[.agg #[.slice A 1 c],iI 0]) rfl ?_
 refine ext (v:=.agg #[.slice A 1 c]) rfl rfl ?_
 refine ext (v:=iI 0) rfl rfl ?_
 refine alcC (z:=.agg #[nS]) (cs:=#[nS]) I (by kernel_rfl) rfl ?_
 intro aq J
 refine stoI (i:=0) (v:=.agg #[.slice A 1 c]) (cs':=#[.slice A 1 c]) J rfl (show SizeB Tryz.prog 24=some 1 by kernel_rfl) rfl rfl rfl rfl (Nat.le_of_ble_eq_true rfl) rfl ?_
 intro ar g
 refine asg (v:=iI 0) rfl ?_
 refine wpList_nil ?_
 refine thenN ?_
 obtain ⟨bf,of,csf,rfl,hlf,hCf,hRf⟩:=hrow.row.at_ (i:=0) rfl
 obtain ⟨au,c1,av,j,rfl,aw,hf1,hf2⟩:=RDFunc.open hRf
 obtain ⟨bb,ob,csb,rfl,hlb,hCb,hRb⟩:=hf2.row.at_ (i:=1) rfl
 obtain ⟨_,_,ax,u,_,_,_,_,_,_,rfl,_,_,_,N,_,_,_⟩:=RDStmt.open hRb
 obtain ⟨bb',ob',csb',hbe,hlb',hCb',hRb'⟩:=hf2.row.at_ (i:=2) rfl
 obtain ⟨rfl,rfl⟩:bb=bb'∧ob=ob':=by injection hbe with h; injection h with h1 h2; exact ⟨h1,h2⟩
 obtain ⟨_,_,_,_,_,_,_,_,_,_,rfl,_⟩:=RDStmt.open hRb'
 obtain ⟨bi,oi,csi,rfl,hli,hCi,hRi⟩:=N.row.at_ (i:=0) rfl
 obtain ⟨_,_,_,_,_,_,_,_,_,_,rfl,_⟩:=RDStmt.open hRi
 refine wp_seq ?_
 refine wp_seq ?_
 refine wp_region_lit ?_
 refine mv (v:=iI 0) rfl ?_
 refine bcm (r:=false) rfl rfl rfl ?_
 refine mv (v:=vN) rfl ?_
 refine st_on (d:=13) rfl rfl ?_
 refine fld (s:=24) (f:=0) (off:=0) (o':=0) (by kernel_rfl) rfl rfl ?_
 refine st_on (d:=13) rfl rfl ?_
 refine lb1 (i:=0) (v:=.slice (some ⟨bf,of,none⟩) 1 c) g rfl (by kernel_rfl) rfl rfl ?_
 refine st_on (d:=13) rfl rfl ?_
 refine lnS (len:=1) (e:=38) (by kernel_rfl) rfl ?_
 refine st_on (d:=13) rfl rfl ?_
 refine bcm (r:=false) rfl rfl rfl ?_
 refine pick (b:=false) (v:=vN) rfl rfl ?_
 refine mv (v:=vN) rfl ?_
 refine st_on (d:=19) rfl rfl ?_
 refine fld (s:=24) (f:=0) (off:=0) (o':=0) (by kernel_rfl) rfl rfl ?_
 refine st_on (d:=19) rfl rfl ?_
 refine lb1 (i:=0) (v:=.slice (some ⟨bf,of,none⟩) 1 c) g rfl (by kernel_rfl) rfl rfl ?_
 refine st_on (d:=19) rfl rfl ?_
 refine idx (s:=22) (e:=38) (size:=6) (i:=0) (by kernel_rfl) (by kernel_rfl) rfl rfl (by decide) (by decide) ?_
 refine st_on (d:=19) rfl rfl ?_
 refine fld (s:=38) (f:=5) (off:=5) (o':=of + (0:Int).toNat * 6 + 5) (by kernel_rfl) rfl rfl ?_
 refine st_on (d:=19) rfl rfl ?_
 refine ld1 (v:=.slice (some ⟨bb,ob,none⟩) 3 j) (by kernel_rfl) rfl (g.cell (hCf 5 _ rfl)) ?_
 refine st_on (d:=19) rfl rfl ?_
 refine lnS (len:=3) (e:=42) (by kernel_rfl) rfl ?_
 refine st_on (d:=19) rfl rfl ?_
 refine bcm (r:=false) rfl rfl rfl ?_
 refine pick (b:=false) (v:=vN) rfl rfl ?_
 refine mv (v:=vN) rfl ?_
 refine st_on (d:=28) rfl rfl ?_
 refine fld (s:=24) (f:=0) (off:=0) (o':=0) (by kernel_rfl) rfl rfl ?_
 refine st_on (d:=28) rfl rfl ?_
 refine lb1 (i:=0) (v:=.slice (some ⟨bf,of,none⟩) 1 c) g rfl (by kernel_rfl) rfl rfl ?_
 refine st_on (d:=28) rfl rfl ?_
 refine idx (s:=22) (e:=38) (size:=6) (i:=0) (by kernel_rfl) (by kernel_rfl) rfl rfl (by decide) (by decide) ?_
 refine st_on (d:=28) rfl rfl ?_
 refine fld (s:=38) (f:=4) (off:=4) (o':=of + (0:Int).toNat * 6 + 4) (by kernel_rfl) rfl rfl ?_
 refine st_on (d:=28) rfl rfl ?_
 refine ld1 (v:=iI 3) (by kernel_rfl) rfl (g.cell (hCf 4 _ rfl)) ?_
 refine st_on (d:=28) rfl rfl ?_
 refine bcm (r:=false) rfl rfl rfl ?_
 refine pick (b:=false) (v:=vN) rfl rfl ?_
 refine mv (v:=vN) rfl ?_
 refine st_on (d:=36) rfl rfl ?_
 refine fld (s:=24) (f:=0) (off:=0) (o':=0) (by kernel_rfl) rfl rfl ?_
 refine st_on (d:=36) rfl rfl ?_
 refine lb1 (i:=0) (v:=.slice (some ⟨bf,of,none⟩) 1 c) g rfl (by kernel_rfl) rfl rfl ?_
 refine st_on (d:=36) rfl rfl ?_
 refine idx (s:=22) (e:=38) (size:=6) (i:=0) (by kernel_rfl) (by kernel_rfl) rfl rfl (by decide) (by decide) ?_
 refine st_on (d:=36) rfl rfl ?_
 refine fld (s:=38) (f:=5) (off:=5) (o':=of + (0:Int).toNat * 6 + 5) (by kernel_rfl) rfl rfl ?_
 refine st_on (d:=36) rfl rfl ?_
 refine ld1 (v:=.slice (some ⟨bb,ob,none⟩) 3 j) (by kernel_rfl) rfl (g.cell (hCf 5 _ rfl)) ?_
 refine st_on (d:=36) rfl rfl ?_
 refine idx (s:=36) (e:=42) (size:=11) (i:=2) (by kernel_rfl) (by kernel_rfl) rfl rfl (by decide) (by decide) ?_
 refine st_on (d:=36) rfl rfl ?_
 refine fld (s:=42) (f:=2) (off:=2) (o':=ob + (2:Int).toNat * 11 + 2) (by kernel_rfl) rfl rfl ?_
 refine st_on (d:=36) rfl rfl ?_
 refine ld1 (v:=iI 2) (by kernel_rfl) rfl (g.cell (hCb' 2 _ rfl)) ?_
 refine st_on (d:=36) rfl rfl ?_
 refine bcm (r:=false) rfl rfl rfl ?_
 refine pick (b:=false) (v:=vN) rfl rfl ?_
 refine mv (v:=vN) rfl ?_
 refine st_on (d:=47) rfl rfl ?_
 refine fld (s:=24) (f:=0) (off:=0) (o':=0) (by kernel_rfl) rfl rfl ?_
 refine st_on (d:=47) rfl rfl ?_
 refine lb1 (i:=0) (v:=.slice (some ⟨bf,of,none⟩) 1 c) g rfl (by kernel_rfl) rfl rfl ?_
 refine st_on (d:=47) rfl rfl ?_
 refine idx (s:=22) (e:=38) (size:=6) (i:=0) (by kernel_rfl) (by kernel_rfl) rfl rfl (by decide) (by decide) ?_
 refine st_on (d:=47) rfl rfl ?_
 refine fld (s:=38) (f:=5) (off:=5) (o':=of + (0:Int).toNat * 6 + 5) (by kernel_rfl) rfl rfl ?_
 refine st_on (d:=47) rfl rfl ?_
 refine ld1 (v:=.slice (some ⟨bb,ob,none⟩) 3 j) (by kernel_rfl) rfl (g.cell (hCf 5 _ rfl)) ?_
 refine st_on (d:=47) rfl rfl ?_
 refine idx (s:=36) (e:=42) (size:=11) (i:=1) (by kernel_rfl) (by kernel_rfl) rfl rfl (by decide) (by decide) ?_
 refine st_on (d:=47) rfl rfl ?_
 refine fld (s:=42) (f:=7) (off:=7) (o':=ob + (1:Int).toNat * 11 + 7) (by kernel_rfl) rfl rfl ?_
 refine st_on (d:=47) rfl rfl ?_
 refine ld1 (v:=.slice (some ⟨bi,oi,none⟩) 1 u) (by kernel_rfl) rfl (g.cell (hCb 7 _ rfl)) ?_
 refine st_on (d:=47) rfl rfl ?_
 refine lnS (len:=1) (e:=42) (by kernel_rfl) rfl ?_
 refine st_on (d:=47) rfl rfl ?_
 refine bcm (r:=false) rfl rfl rfl ?_
 refine pick (b:=false) (v:=vN) rfl rfl ?_
 refine mv (v:=vN) rfl ?_
 refine st_on (d:=59) rfl rfl ?_
 refine fld (s:=24) (f:=0) (off:=0) (o':=0) (by kernel_rfl) rfl rfl ?_
 refine st_on (d:=59) rfl rfl ?_
 refine lb1 (i:=0) (v:=.slice (some ⟨bf,of,none⟩) 1 c) g rfl (by kernel_rfl) rfl rfl ?_
 refine st_on (d:=59) rfl rfl ?_
 refine idx (s:=22) (e:=38) (size:=6) (i:=0) (by kernel_rfl) (by kernel_rfl) rfl rfl (by decide) (by decide) ?_
 refine st_on (d:=59) rfl rfl ?_
 refine fld (s:=38) (f:=5) (off:=5) (o':=of + (0:Int).toNat * 6 + 5) (by kernel_rfl) rfl rfl ?_
 refine st_on (d:=59) rfl rfl ?_
 refine ld1 (v:=.slice (some ⟨bb,ob,none⟩) 3 j) (by kernel_rfl) rfl (g.cell (hCf 5 _ rfl)) ?_
 refine st_on (d:=59) rfl rfl ?_
 refine idx (s:=36) (e:=42) (size:=11) (i:=1) (by kernel_rfl) (by kernel_rfl) rfl rfl (by decide) (by decide) ?_
 refine st_on (d:=59) rfl rfl ?_
 refine fld (s:=42) (f:=7) (off:=7) (o':=ob + (1:Int).toNat * 11 + 7) (by kernel_rfl) rfl rfl ?_
 refine st_on (d:=59) rfl rfl ?_
 refine ld1 (v:=.slice (some ⟨bi,oi,none⟩) 1 u) (by kernel_rfl) rfl (g.cell (hCb 7 _ rfl)) ?_
 refine st_on (d:=59) rfl rfl ?_
 refine idx (s:=36) (e:=42) (size:=11) (i:=0) (by kernel_rfl) (by kernel_rfl) rfl rfl (by decide) (by decide) ?_
 refine st_on (d:=59) rfl rfl ?_
 refine fld (s:=42) (f:=2) (off:=2) (o':=oi + (0:Int).toNat * 11 + 2) (by kernel_rfl) rfl rfl ?_
 refine st_on (d:=59) rfl rfl ?_
 refine ld1 (v:=iI 1) (by kernel_rfl) rfl (g.cell (hCi 2 _ rfl)) ?_
 refine st_on (d:=59) rfl rfl ?_
 refine bcm (r:=false) rfl rfl rfl ?_
 refine pick (b:=false) (v:=vN) rfl rfl ?_
 refine wpList_nil ?_
 refine thenN ?_
 refine cndF rfl ?_
 refine wp_skip ?_
 refine thenN ?_
 refine wp_seq ?_
 refine wp_region_lit ?_
 refine clV (caps:=#[]) (vs:=[]) rfl (by kernel_rfl) rfl (sample_ok (g.part [] (List.nil_sublist _))) ?_
 rintro _ O ⟨cF,cB,cI,cC,cN,d2,d1,rfl,S⟩
 have U:=Sx.call (H1:=[]) g S
 refine alcC (z:=.agg #[nS]) (cs:=#[nS]) U (by kernel_rfl) rfl ?_
 intro ay V
 refine stoI (i:=0) (v:=.agg #[.slice (some ⟨cF,0,none⟩) 1 1]) (cs':=#[.slice (some ⟨cF,0,none⟩) 1 1]) V rfl (show SizeB Tryz.prog 24=some 1 by kernel_rfl) rfl rfl rfl rfl (Nat.le_of_ble_eq_true rfl) rfl ?_
 intro az m
 refine wpList_nil ?_
 refine thenN ?_
 refine wp_seq ?_
 refine wp_region_lit ?_
 refine fld (s:=24) (f:=0) (off:=0) (o':=0) (by kernel_rfl) rfl rfl ?_
 refine lb1 (i:=0) (v:=.slice (some ⟨cF,0,none⟩) 1 1) m rfl (by kernel_rfl) rfl rfl ?_
 refine idx (s:=22) (e:=38) (size:=6) (i:=0) (by kernel_rfl) (by kernel_rfl) rfl rfl (by decide) (by decide) ?_
 refine fld (s:=38) (f:=5) (off:=5) (o':=5) (by kernel_rfl) rfl rfl ?_
 refine lb1 (i:=1) (v:=.slice (some ⟨cB,0,none⟩) 3 3) m rfl (by kernel_rfl) rfl rfl ?_
 refine idx (s:=36) (e:=42) (size:=11) (i:=1) (by kernel_rfl) (by kernel_rfl) rfl rfl (by decide) (by decide) ?_
 refine fld (s:=42) (f:=7) (off:=7) (o':=18) (by kernel_rfl) rfl rfl ?_
 refine lb1 (i:=2) (v:=.slice (some ⟨cI,0,none⟩) 1 1) m rfl (by kernel_rfl) rfl rfl ?_
 refine idx (s:=36) (e:=42) (size:=11) (i:=0) (by kernel_rfl) (by kernel_rfl) rfl rfl (by decide) (by decide) ?_
 refine fld (s:=42) (f:=1) (off:=1) (o':=1) (by kernel_rfl) rfl rfl ?_
 refine stoI (i:=3) (v:=.string ⟨#[120]⟩) (cs':=#[iI 1,.string ⟨#[120]⟩,iI 0,sE,iI 0,iI 0,.slice (some ⟨cN,0,none⟩) 1 1,nS,nS,nS,nS]) m rfl (show SizeB Tryz.prog 9=some 1 by kernel_rfl) rfl rfl rfl rfl (Nat.le_of_ble_eq_true rfl) rfl ?_
 intro aA w
 refine wpList_nil ?_
 refine thenN ?_
 refine wp_seq ?_
 refine wp_region_lit ?_
 refine lbN (i:=0) (l:=[.slice (some ⟨cF,0,none⟩) 1 1]) w rfl (by kernel_rfl) (show SizeB Tryz.prog 24=some 1 by kernel_rfl) rfl rfl rfl ?_
 obtain ⟨aB,x,W,hp10⟩:=sample_shut' (H:=[.box wi.heap.size O.heap.size #[.slice (some ⟨cF,0,none⟩) 1 1] 24,.box wi.heap.size G.heap.size #[.slice (some ⟨bf,of,none⟩) 1 c] 24]) (by decide) g.size (w.sel [1,2,3,4,5,6,7,0,8] (by decide))
 refine clV (caps:=#[]) (vs:=[.agg #[.slice (some ⟨cF,0,none⟩) 1 1]]) rfl (by kernel_rfl) rfl (h15 _ _ _ _ _ _ C (hG.mono ((p.trans t.sub).trans W)) hp10 (x.part [] (List.nil_sublist _))) ?_
 rintro _ aE ⟨X,csq',rfl,Y,hq'⟩
 have Z:=Sx.call (H1:=[]) x Y
 obtain ⟨fq⟩:=q'
 obtain ⟨A',c',rfl,hrow'⟩:=RDProgram.open hq'
 refine mv (v:=.tuple #[.agg #[sl A' fq c'],iI 21]) rfl ?_
 refine ext (v:=.agg #[sl A' fq c']) rfl rfl ?_
 refine ext (v:=iI 21) rfl rfl ?_
 refine alcC (z:=.agg #[nS]) (cs:=#[nS]) Z (by kernel_rfl) rfl ?_
 intro aF ab
 refine stoI (i:=0) (v:=.agg #[sl A' fq c']) (cs':=#[sl A' fq c']) ab rfl (show SizeB Tryz.prog 24=some 1 by kernel_rfl) rfl rfl rfl rfl (Nat.le_of_ble_eq_true rfl) rfl ?_
 intro aG ac
 refine asg (v:=iI 21) rfl ?_
 refine wpList_nil ?_
 refine thenN ?_
 refine wp_seq ?_
 refine wp_seq ?_
 refine wp_region_lit ?_
 refine mv (v:=iI 21) rfl ?_
 refine bcm (r:=false) rfl rfl rfl ?_
 refine mv (v:=vN) rfl ?_
 refine pick (b:=false) (v:=vN) rfl rfl ?_
 refine mv (v:=vN) rfl ?_
 refine pick (b:=false) (v:=vN) rfl rfl ?_
 refine mv (v:=vN) rfl ?_
 refine pick (b:=false) (v:=vN) rfl rfl ?_
 refine mv (v:=vN) rfl ?_
 refine pick (b:=false) (v:=vN) rfl rfl ?_
 refine wpList_nil ?_
 refine thenN ?_
 refine cndF rfl ?_
 refine wp_skip ?_
 refine thenN ?_
 refine wp_seq ?_
 refine wp_region_lit ?_
 refine asg (v:=vT) rfl ?_
 refine wpList_nil ?_
 refine thenN ?_
 refine wp_ret ?_
 exact retA1 rfl (resT rfl) ⟨X,rfl,ac.sel [] (by decide)⟩
theorem f14_ok (k:Nat):f14_spec (f14 k):=f14_body k (f15_ok k)
theorem f48_b_ok (k:Nat) (F:Fam48) (IH48:f48_spec F.f48) (IH87:f87_spec F.f87):f48_spec (f48_b k F):=by
 unfold f48_spec
 intro K wi d l m f t u av h hG ab an ac
 obtain ⟨r_,hr_,h⟩:=rz h
 refine enter Tryz.func48 rfl (n:=27) rfl ?_
 unfold f48_b at h
 refine sr (m2 vN (wt (wp_seq (sr (m1 (sl l d m) (lS d.length Tye39 (m1 (sl t f u) (lS f.length Tye39 (c0 ((d.length:Int) != (f.length:Int)) (wt (cd h (fun z h=>?_) (fun z h=>?_))))))))))))
 ·refine cT z (sr (m2 vN (wt (wp_ret (thenR ?_)))))
  cases (oi h).trans hr_
  exact retA1 rfl (resT rfl) ⟨K,rfl,ac⟩
 ·refine cF z (wp_skip (thenN (wp_seq (sr (m2 (iI 0) (wt (wp_block (wp_loopG (fun g_ a w=>∃ (ad:Nat→Value) (q:KH) (g:LE) (c:Nat),g_=g.length∧a=fr 27 (updL ad [(0,sl l d m),(1,sl t f u),(5,iI (c:Int))])∧KH.sub K q∧SR K q wi w [] []∧d.drop c=g∧f48_l1 k F f g c=some r_) d.length ?_ ?_))))))))
  ·exact ⟨_,K,d,0,rfl,fR,kr,ac,List.drop_zero,h⟩
  ·rintro _ _ aw ⟨ad,q,g,c,rfl,rfl,s,ae,p,h⟩
   rcases g with _ | ⟨⟨A,B,C,D,G⟩,g⟩
   ·unfold f48_l1 at h
    refine wp_seq (sr (m1 (iI (c:Int)) (m1 (sl l d m) (lS d.length Tye39 (bcm (r:=false) rfl rfl (congrArg some (drop_nil_lt p)) (wt (cndF rfl (wp_exit (thenX (thenX (blkX (thenN (sr (m2 vT (wt (wp_ret ?_))))))))))))))))
    cases (oi h).trans hr_
    exact retA1 rfl (resT rfl) ⟨q,rfl,ae⟩
   ·unfold f48_l1 at h
    refine wp_seq (sr (m1 (iI (c:Int)) (m1 (sl l d m) (lS d.length Tye39 (bcm (r:=true) rfl rfl (congrArg some (drop_cons_t p)) (wt (cndT rfl (wp_skip (thenN (wp_seq (wp_block (wp_seq (have e:=ae.drew;(regAny (E:=[]) (F:=FW q []) (L:=(lb 10 0)) ymx rfl rfl (tk 0 (sl l d m) (lb 10 1) rfl (fun w=>mv_r (v:=sl l d m) rfl) (heldF (fwOf (is:=[]) e kr rfl)) (tk 1 (iI (c:Int)) (lb 10 3) rfl (fun w=>mv_r (v:=iI (c:Int)) rfl) (heldF (fwOf (is:=[]) e kr rfl)) ?_))))))))))))))))
    obtain ⟨af,ag,ax,ao,ay,ap,ah⟩:=((me ab s)).row.at_ (drop_cons_at p)
    obtain ⟨I,J,rfl,az,aA⟩:=RDExpr.open ah
    refine tk 2 (pp af (ag + c * 5)) (lb 10 7) rfl (fun w=>idxN_r (b:=af) (o:=ag) (i:=c) Tye39 Tys107 rfl ao rfl (drop_cons_lt p)) (heldF (fwOf (is:=[]) e kr rfl)) (tf 3 (.agg (vE A B C D I G J).toArray) ([]) (lb 10 15) rfl (fwOf (is:=[]) e kr rfl) (fun w hF=>ldN_r (cs:=(vE A B C D I G J)) Tya107 Tys107 rfl rfl (fun j v hj=>hF.cell (kr.cell (ap j v hj)))) (tk 4 (sl t f u) (lb 10 31) rfl (fun w=>mv_r (v:=sl t f u) rfl) (heldF (fwOf (is:=[]) e kr rfl)) (tk 5 (iI (c:Int)) (lb 10 63) rfl (fun w=>mv_r (v:=iI (c:Int)) rfl) (heldF (fwOf (is:=[]) e kr rfl)) ?_)))
    obtain ⟨⟨N,O,S,U,V⟩,W,h⟩:=ob h
    obtain ⟨ai,aj,aB,aq,aE,ar,ak⟩:=((me an s)).row.at_ (idxO_at W).1
    obtain ⟨X,Y,rfl,aF,aG⟩:=RDExpr.open ak
    refine tk 6 (.pointer (some ⟨ai,aj + (c:Int).toNat * 5,none⟩)) (lb 10 127) rfl (fun w=>idxG_r (b:=ai) (o:=aj) (i:=(c:Int)) Tye39 Tys107 rfl aq rfl (idxO_at W).2.1 (idxO_at W).2.2) (heldF (fwOf (is:=[]) e kr rfl)) (tf 7 (.agg (vE N O S U X V Y).toArray) ([]) (lb 10 255) rfl (fwOf (is:=[]) e kr rfl) (fun w hF=>ldN_r (cs:=(vE N O S U X V Y)) Tya107 Tys107 rfl rfl (fun j v hj=>hF.cell (kr.cell (ar j v hj)))) (aO 8 rfl ?_))
    obtain ⟨al,au,h⟩:=ob h
    refine cv ([.agg (vE A B C D I G J).toArray,.agg (vE N O S U X V Y).toArray]) Tyb87 (IH87 _ _ _ _ _ _ _ au (hG.mono s) ah ak (pt e)) ?_
    rintro _ aH ⟨am,rfl,x⟩
    have y:=ca x e
    refine wt ⟨heldF (fwOf (is:=[]) y x.sub rfl),tk 9 (.bool (!al)) (lb 10 1023) rfl (fun w=>unot_r (a:=al) rfl) (heldF (fwOf (is:=[]) y x.sub rfl)) (aD (thenN (cd h (fun Z h=>?_) (fun Z h=>?_))))⟩
    ·refine cT Z (sr (m2 vN (wt (wp_ret (blkR (thenR (thenR (blkR (thenR ?_)))))))))
     cases (oi h).trans hr_
     exact retA1 rfl (resT rfl) ⟨am,rfl,y⟩
    ·exact cF Z (wp_skip (blkN (thenN (wp_region_lit (m1 (iI (c:Int)) (bar (r:=((c + 1:Nat):Int)) rfl rfl (inc_ok (le_big (((me ab s)).len) (by decide) (drop_cons_lt p))) (m2 (iI ((c + 1:Nat):Int)) (wt (⟨_,Nat.lt_succ_self _,_,am,g,c + 1,rfl,fR,(s.trans x.sub),y,drop_cons_next p,h⟩)))))))))
theorem f87_b_ok (k:Nat) (F:Fam48) (IH48:f48_spec F.f48) (IH87:f87_spec F.f87):f87_spec (f87_b k F):=by
 unfold f87_spec
 intro K wi G ab I ac ad h hG J N O
 obtain ⟨r_,hr_,h⟩:=rz h
 obtain ⟨p,g,i,j,t⟩:=G
 obtain ⟨u,v,rfl,ae,S⟩:=RDExpr.open J
 obtain ⟨q,l,m,o,x⟩:=I
 obtain ⟨y,z,rfl,af,U⟩:=RDExpr.open N
 refine enter Tryz.func87 rfl (n:=38) rfl ?_
 unfold f87_b at h
 refine sr (bxoC (cs:=(vE p g i j u t v).toArray) O rfl rfl (fun ag V=>(bxoC (cs:=(vE q l m o y x z).toArray) V rfl rfl (fun ah b=>(m2 vN (wt (wp_cut (fun a w=>∃ (C:Nat→Value) (s:KH) (A:Bool),a=fr 38 (updL C [(4,.bool A)])∧KH.sub K s∧SR K s wi w [] []∧f87_j1 k F A=some r_) ?_ ?_)))))))
 ·refine wp_region_lit (fd 0 Tyf107_0 rfl (l1 1 (iI p) b Tya3 (fd 0 Tyf107_0 rfl (l1 0 (iI q) b Tya3 (c0 (p == q) (m1 (.bool (p == q)) (cd h (fun c h=>?_) (fun c h=>?_))))))))
  ·refine n1 10 c (fd 1 Tyf107_1 rfl (n1 10 c (l1 1 (iI g) b Tya3 (n1 10 c (fd 1 Tyf107_1 rfl (n1 10 c (l1 0 (iI l) b Tya3 (n1 10 c (c0 (g == l) (m3 true (.bool (g == l)) (cg c) (m1 (.bool (g == l)) (cd h (fun d h=>?_) (fun d h=>?_)))))))))))))
   ·refine n1 17 d (fd 2 Tyf107_2 rfl (n1 17 d (l1 1 (.string i) b Tya9 (n1 17 d (fd 2 Tyf107_2 rfl (n1 17 d (l1 0 (.string m) b Tya9 (n1 17 d (bsc (r:=(seq i m)) rfl rfl rfl (m3 true (.bool (seq i m)) (cg d) (m1 (.bool (seq i m)) (cd h (fun e h=>?_) (fun e h=>?_)))))))))))))
    ·refine n1 24 e (fd 3 Tyf107_3 rfl (n1 24 e (l1 1 (iI j) b Tya3 (n1 24 e (fd 3 Tyf107_3 rfl (n1 24 e (l1 0 (iI o) b Tya3 (n1 24 e (c0 (j == o) (m3 true (.bool (j == o)) (cg e) (m1 (.bool (j == o)) (cd h (fun f h=>?_) (fun f h=>?_)))))))))))))
     ·refine n1 31 f (fd 4 Tyf107_4 rfl (n1 31 f (l1 1 (sl u t v) b Tya39 (n1 31 f (fd 4 Tyf107_4 rfl (n1 31 f (l1 0 (sl y x z) b Tya39 (n1 31 f ?_))))))))
      obtain ⟨B,W,h⟩:=ob h
      refine cv ([sl u t v,sl y x z]) Tyb48 (IH48 _ _ _ _ _ _ _ _ _ W (hG.mono kr) S U (pt b)) ?_
      rintro _ ai ⟨X,rfl,D⟩
      have Y:=ca D b
      exact m3 true (.bool B) (cg f) (m2 (.bool B) (wt (⟨_,X,B,fR,D.sub,(Y.sel [] (by decide)),h⟩)))
     ·exact o1 31 f (o1 31 f (o1 31 f (o1 31 f (o1 31 f (m3 false vN (cg f) (m2 vN (wt (⟨_,K,false,fR,kr,(b.sel [] (by decide)),h⟩))))))))
    ·exact o1 24 e (o1 24 e (o1 24 e (o1 24 e (o1 24 e (m3 false vN (cg e) (m1 vN (o0 31 (o0 31 (o0 31 (o0 31 (o0 31 (m3 false vN rfl (m2 vN (wt (⟨_,K,false,fR,kr,(b.sel [] (by decide)),h⟩)))))))))))))))
   ·exact o1 17 d (o1 17 d (o1 17 d (o1 17 d (o1 17 d (m3 false vN (cg d) (m1 vN (o0 24 (o0 24 (o0 24 (o0 24 (o0 24 (m3 false vN rfl (m1 vN (o0 31 (o0 31 (o0 31 (o0 31 (o0 31 (m3 false vN rfl (m2 vN (wt (⟨_,K,false,fR,kr,(b.sel [] (by decide)),h⟩))))))))))))))))))))))
  ·exact o1 10 c (o1 10 c (o1 10 c (o1 10 c (o1 10 c (m3 false vN (cg c) (m1 vN (o0 17 (o0 17 (o0 17 (o0 17 (o0 17 (m3 false vN rfl (m1 vN (o0 24 (o0 24 (o0 24 (o0 24 (o0 24 (m3 false vN rfl (m1 vN (o0 31 (o0 31 (o0 31 (o0 31 (o0 31 (m3 false vN rfl (m2 vN (wt (⟨_,K,false,fR,kr,(b.sel [] (by decide)),h⟩)))))))))))))))))))))))))))))
 ·rintro _ aj ⟨C,s,A,rfl,ak,Z,h⟩
  unfold f87_j1 at h
  refine wp_ret ?_
  cases (oi h).trans hr_
  exact retA1 rfl (resT rfl) ⟨s,rfl,Z⟩
theorem fam48_ok (k0:Nat) : ∀ k,f48_spec (fam48 k0 k).f48∧f87_spec (fam48 k0 k).f87:=by
 intro k
 induction k with
 | zero=>exact ⟨(by unfold f48_spec; intro _ _ _ _ _ _ _ _ _ h_; cases h_),(by unfold f87_spec; intro _ _ _ _ _ _ _ h_; cases h_)⟩
 | succ k ih=>exact ⟨f48_b_ok k0 (fam48 k0 k) ih.1 ih.2,f87_b_ok k0 (fam48 k0 k) ih.1 ih.2⟩
theorem f48_ok (k:Nat):f48_spec (f48 k):=(fam48_ok k k).1
theorem f87_ok (k:Nat):f87_spec (f87 k):=(fam48_ok k k).2
theorem f21_b_ok (k:Nat) (F:Fam21) (IH21:f21_spec F.f21):f21_spec (f21_b k F):=by
 unfold f21_spec
 intro K wi a4 b2 b3 a5 cy cz fB h hG ep eP eq
 obtain ⟨r_,hr_,h⟩:=rz h
 refine enter Tryz.func21 rfl (n:=161) rfl ?_
 unfold f21_b at h
 refine sr (m2 vN (wt (wp_seq (sr (m1 (sl b2 a4 b3) (lS a4.length Tye36 (m1 (sl cy a5 cz) (lS a5.length Tye36 (c0 ((a4.length:Int) != (a5.length:Int)) (wt (cd h (fun dY h=>?_) (fun dY h=>?_))))))))))))
 ·refine cT dY (sr (m2 vN (wt (wp_ret (thenR ?_)))))
  cases (oi h).trans hr_
  exact retA1 rfl (resT rfl) ⟨K,rfl,eq⟩
 ·refine cF dY (wp_skip (thenN (wp_seq (sr (m2 (iI 0) (wt (wp_block (wp_loopG (fun g_ a w=>∃ (er:Nat→Value) (D:KH) (bE:LS) (ao:Nat),g_=bE.length∧a=fr 161 (updL er [(0,sl b2 a4 b3),(1,sl cy a5 cz),(5,iI (ao:Int))])∧KH.sub K D∧SR K D wi w [] []∧a4.drop ao=bE∧f21_l1 k F a5 bE ao=some r_) a4.length ?_ ?_))))))))
  ·exact ⟨_,K,a4,0,rfl,fR,kr,eq,List.drop_zero,h⟩
  ·rintro _ _ cJ ⟨er,D,bE,ao,rfl,rfl,cA,es,dm,h⟩
   rcases bE with _ | ⟨⟨aq,ar,au,av,aw,ax,ay,az,aA,aB,aE⟩,bE⟩
   ·unfold f21_l1 at h
    refine wp_seq (sr (m1 (iI (ao:Int)) (m1 (sl b2 a4 b3) (lS a4.length Tye36 (bcm (r:=false) rfl rfl (congrArg some (drop_nil_lt dm)) (wt (cndF rfl (wp_exit (thenX (thenX (blkX (thenN (sr (m2 vT (wt (wp_ret ?_))))))))))))))))
    cases (oi h).trans hr_
    exact retA1 rfl (resT rfl) ⟨D,rfl,es⟩
   ·unfold f21_l1 at h
    refine wp_seq (sr (m1 (iI (ao:Int)) (m1 (sl b2 a4 b3) (lS a4.length Tye36 (bcm (r:=true) rfl rfl (congrArg some (drop_cons_t dm)) (wt (cndT rfl (wp_skip (thenN (wp_seq (wp_block (wp_cut (fun a w=>∃ (et:Nat→Value) (bo:Nat) (b4:Int) (bx:BA) (bF:Int) (bz:BA) (bG:Int) (bH:Int) (b5:LE) (b9:OA) (cb:Nat) (bI:LS) (cc:OA) (ce:Nat) (bJ:LS) (cf:OA) (ch:Nat) (bK:LS) (ci:OA) (cj:Nat) (aF:LC) (bA:OA) (bB:Nat) (bp:Nat) (b6:Int) (bC:BA) (bL:Int) (bD:BA) (bM:Int) (bN:Int) (b7:LE) (ck:OA) (cl:Nat) (bO:LS) (cm:OA) (cn:Nat) (bP:LS) (co:OA) (cq:Nat) (bQ:LS) (cr:OA) (ct:Nat) (ap:LC) (bb:OA) (bd:Nat),a=fr 161 (updL et [(0,sl b2 a4 b3),(1,sl cy a5 cz),(5,iI (ao:Int)),(6,pp bo 0),(7,pp bp 0)])∧SR K D wi w [] [.box wi.heap.size bo (vS b4 bx bF bz bG bH b9 b5 cb cc bI ce cf bJ ch ci bK cj bA aF bB).toArray 42,.box wi.heap.size bp (vS b6 bC bL bD bM bN ck b7 cl cm bO cn co bP cq cr bQ ct bb ap bd).toArray 42]∧bx.size ≤ 140737488355328∧bz.size ≤ 140737488355328∧RSl DExpr (RDExpr D) 5 64 D b9 cb b5∧RSl DStmt (RDStmt D) 11 184 D cc ce bI∧RSl DStmt (RDStmt D) 11 184 D cf ch bJ∧RSl DStmt (RDStmt D) 11 184 D ci cj bK∧RSl DCase (RDCase D) 5 80 D bA bB aF∧bC.size ≤ 140737488355328∧bD.size ≤ 140737488355328∧RSl DExpr (RDExpr D) 5 64 D ck cl b7∧RSl DStmt (RDStmt D) 11 184 D cm cn bO∧RSl DStmt (RDStmt D) 11 184 D co cq bP∧RSl DStmt (RDStmt D) 11 184 D cr ct bQ∧RSl DCase (RDCase D) 5 80 D bb bd ap∧f21_j1 k F ao b4 bx bF bz bG bH b5 bI bJ bK aF b6 bC bL bD bM bN b7 bO bP bQ ap (f21_l1 k F a5 bE)=some r_) ?_ ?_))))))))))))
    ·have bR:=es.drew
     refine regAny (E:=[10,11]) (F:=FW D []) (L:=(lb 12 0)) ymx rfl rfl (tk 0 (sl b2 a4 b3) (lb 12 1) rfl (fun w=>mv_r (v:=sl b2 a4 b3) rfl) (heldF (fwOf (is:=[]) bR kr rfl)) (tk 1 (iI (ao:Int)) (lb 12 3) rfl (fun w=>mv_r (v:=iI (ao:Int)) rfl) (heldF (fwOf (is:=[]) bR kr rfl)) ?_))
     obtain ⟨eu,ew,fC,eQ,fD,eR,eS⟩:=((ms ep cA)).row.at_ (drop_cons_at dm)
     obtain ⟨aG,aH,aI,aJ,aK,aL,aM,aN,aP,aQ,rfl,cK,cL,cM,cN,cO,cP,cQ⟩:=RDStmt.open eS
     refine tk 2 (pp eu (ew + ao * 11)) (lb 12 7) rfl (fun w=>idxN_r (b:=eu) (o:=ew) (i:=ao) Tye36 Tys42 rfl eQ rfl (drop_cons_lt dm)) (heldF (fwOf (is:=[]) bR kr rfl)) (tf 3 (.agg (vS aq ar au av aw ax aG ay aH aI az aJ aK aA aL aM aB aN aP aE aQ).toArray) ([[10,3],[11,3]]) (lb 12 15) rfl (fwOf (is:=[]) bR kr rfl) (fun w hF=>ldN_r (cs:=(vS aq ar au av aw ax aG ay aH aI az aJ aK aA aL aM aB aN aP aE aQ)) Tya42 Tys42 rfl rfl (fun j v hj=>hF.cell (kr.cell (eR j v hj)))) (tk 4 (sl cy a5 cz) (lb 12 31) rfl (fun w=>mv_r (v:=sl cy a5 cz) rfl) (heldF (fwOf (is:=[]) bR kr rfl)) (tk 5 (iI (ao:Int)) (lb 12 63) rfl (fun w=>mv_r (v:=iI (ao:Int)) rfl) (heldF (fwOf (is:=[]) bR kr rfl)) ?_)))
     obtain ⟨⟨G,I,J,N,O,S,U,V,W,X,Y⟩,dZ,h⟩:=ob h
     obtain ⟨ex,ey,fE,eT,fF,c6,eU⟩:=((ms eP cA)).row.at_ (idxO_at dZ).1
     obtain ⟨Z,ab,ac,ad,ae,af,ag,ah,ai,aj,rfl,cR,cS,cU,cV,cW,cX,cY⟩:=RDStmt.open eU
     refine tk 6 (.pointer (some ⟨ex,ey + (ao:Int).toNat * 11,none⟩)) (lb 12 127) rfl (fun w=>idxG_r (b:=ex) (o:=ey) (i:=(ao:Int)) Tye36 Tys42 rfl eT rfl (idxO_at dZ).2.1 (idxO_at dZ).2.2) (heldF (fwOf (is:=[]) bR kr rfl)) (anyAll (rs:=[7,8,9]) (by kernel_rfl) (by decide) (allC ?_ (allC ?_ (allC ?_ allN))))
     ·refine opL (i:=7) rfl (lD (vS G I J N O S Z U ab ac V ad ae W af ag X ah ai Y aj) Tya42 Tys42 rfl (fun j v hj=>bR.cell (kr.cell (c6 j v hj))) (wt ⟨heldF (fwOf (is:=[]) bR kr rfl),anyAll (rs:=[8,9]) (by kernel_rfl) (by decide) (allC ?_ (allC ?_ allN))⟩))
      ·exact opL (i:=8) rfl (aC zS.toArray bR Tyz42 (fun cu be=>(wt ⟨heldF (fwOf (is:=[]) be kr rfl),aO 9 rfl (aC zS.toArray be Tyz42 (fun dx aV=>(wt ⟨heldF (fwOf (is:=[]) aV kr rfl),aO 10 rfl (sI 1 (.agg (vS aq ar au av aw ax aG ay aH aI az aJ aK aA aL aM aB aN aP aE aQ).toArray) ((vS aq ar au av aw ax aG ay aH aI az aJ aK aA aL aM aB aN aP aE aQ).toArray) aV Tys42 rfl rfl (fun c7 bf=>(wt ⟨heldE (i:=10) rfl rfl,aO 11 rfl (sI 0 (.agg (vS G I J N O S Z U ab ac V ad ae W af ag X ah ai Y aj).toArray) ((vS G I J N O S Z U ab ac V ad ae W af ag X ah ai Y aj).toArray) bf Tys42 rfl rfl (fun c8 bq=>(wt ⟨heldE (i:=11) rfl rfl,aD (thenN (⟨_,cJ.drew.heap.size,aq,ar,au,av,aw,ax,ay,aG,aH,az,aI,aJ,aA,aK,aL,aB,aM,aN,aE,aP,aQ,cu.heap.size,G,I,J,N,O,S,U,Z,ab,V,ac,ad,W,ae,af,X,ag,ah,Y,ai,aj,fR,(bq.sel [1,0] (by decide)),cK,cL,cM,cN,cO,cP,cQ,cR,cS,cU,cV,cW,cX,cY,h⟩))⟩)))⟩)))⟩)))⟩)))
      ·exact opL (i:=9) rfl (aC zS.toArray bR Tyz42 (fun cu be=>(wt ⟨heldF (fwOf (is:=[]) be kr rfl),aO 8 rfl (aC zS.toArray be Tyz42 (fun dx aV=>(wt ⟨heldF (fwOf (is:=[]) aV kr rfl),aO 10 rfl (sI 0 (.agg (vS aq ar au av aw ax aG ay aH aI az aJ aK aA aL aM aB aN aP aE aQ).toArray) ((vS aq ar au av aw ax aG ay aH aI az aJ aK aA aL aM aB aN aP aE aQ).toArray) aV Tys42 rfl rfl (fun c7 bf=>(wt ⟨heldE (i:=10) rfl rfl,aO 11 rfl (sI 1 (.agg (vS G I J N O S Z U ab ac V ad ae W af ag X ah ai Y aj).toArray) ((vS G I J N O S Z U ab ac V ad ae W af ag X ah ai Y aj).toArray) bf Tys42 rfl rfl (fun c8 bq=>(wt ⟨heldE (i:=11) rfl rfl,aD (thenN (⟨_,cu.heap.size,aq,ar,au,av,aw,ax,ay,aG,aH,az,aI,aJ,aA,aK,aL,aB,aM,aN,aE,aP,aQ,cJ.drew.heap.size,G,I,J,N,O,S,U,Z,ab,V,ac,ad,W,ae,af,X,ag,ah,Y,ai,aj,fR,bq,cK,cL,cM,cN,cO,cP,cQ,cR,cS,cU,cV,cW,cX,cY,h⟩))⟩)))⟩)))⟩)))⟩)))
     ·refine opL (i:=8) rfl (aC zS.toArray bR Tyz42 (fun cu be=>(wt ⟨heldF (fwOf (is:=[]) be kr rfl),anyAll (rs:=[7,9]) (by kernel_rfl) (by decide) (allC ?_ (allC ?_ allN))⟩)))
      ·exact opL (i:=7) rfl (lD (vS G I J N O S Z U ab ac V ad ae W af ag X ah ai Y aj) Tya42 Tys42 rfl (fun j v hj=>be.cell (kr.cell (c6 j v hj))) (wt ⟨heldF (fwOf (is:=[]) be kr rfl),aO 9 rfl (aC zS.toArray be Tyz42 (fun dx aV=>(wt ⟨heldF (fwOf (is:=[]) aV kr rfl),aO 10 rfl (sI 1 (.agg (vS aq ar au av aw ax aG ay aH aI az aJ aK aA aL aM aB aN aP aE aQ).toArray) ((vS aq ar au av aw ax aG ay aH aI az aJ aK aA aL aM aB aN aP aE aQ).toArray) aV Tys42 rfl rfl (fun c7 bf=>(wt ⟨heldE (i:=10) rfl rfl,aO 11 rfl (sI 0 (.agg (vS G I J N O S Z U ab ac V ad ae W af ag X ah ai Y aj).toArray) ((vS G I J N O S Z U ab ac V ad ae W af ag X ah ai Y aj).toArray) bf Tys42 rfl rfl (fun c8 bq=>(wt ⟨heldE (i:=11) rfl rfl,aD (thenN (⟨_,cJ.drew.heap.size,aq,ar,au,av,aw,ax,ay,aG,aH,az,aI,aJ,aA,aK,aL,aB,aM,aN,aE,aP,aQ,cu.heap.size,G,I,J,N,O,S,U,Z,ab,V,ac,ad,W,ae,af,X,ag,ah,Y,ai,aj,fR,(bq.sel [1,0] (by decide)),cK,cL,cM,cN,cO,cP,cQ,cR,cS,cU,cV,cW,cX,cY,h⟩))⟩)))⟩)))⟩)))⟩))
      ·refine opL (i:=9) rfl (aC zS.toArray be Tyz42 (fun dx aV=>(wt ⟨heldF (fwOf (is:=[]) aV kr rfl),anyAll (rs:=[7,10]) (by kernel_rfl) (by decide) (allC ?_ (allC ?_ allN))⟩)))
       ·exact opL (i:=7) rfl (lD (vS G I J N O S Z U ab ac V ad ae W af ag X ah ai Y aj) Tya42 Tys42 rfl (fun j v hj=>aV.cell (kr.cell (c6 j v hj))) (wt ⟨heldF (fwOf (is:=[]) aV kr rfl),aO 10 rfl (sI 1 (.agg (vS aq ar au av aw ax aG ay aH aI az aJ aK aA aL aM aB aN aP aE aQ).toArray) ((vS aq ar au av aw ax aG ay aH aI az aJ aK aA aL aM aB aN aP aE aQ).toArray) aV Tys42 rfl rfl (fun c7 bf=>(wt ⟨heldE (i:=10) rfl rfl,aO 11 rfl (sI 0 (.agg (vS G I J N O S Z U ab ac V ad ae W af ag X ah ai Y aj).toArray) ((vS G I J N O S Z U ab ac V ad ae W af ag X ah ai Y aj).toArray) bf Tys42 rfl rfl (fun c8 bq=>(wt ⟨heldE (i:=11) rfl rfl,aD (thenN (⟨_,cJ.drew.heap.size,aq,ar,au,av,aw,ax,ay,aG,aH,az,aI,aJ,aA,aK,aL,aB,aM,aN,aE,aP,aQ,cu.heap.size,G,I,J,N,O,S,U,Z,ab,V,ac,ad,W,ae,af,X,ag,ah,Y,ai,aj,fR,(bq.sel [1,0] (by decide)),cK,cL,cM,cN,cO,cP,cQ,cR,cS,cU,cV,cW,cX,cY,h⟩))⟩)))⟩)))⟩))
       ·exact opL (i:=10) rfl (sI 1 (.agg (vS aq ar au av aw ax aG ay aH aI az aJ aK aA aL aM aB aN aP aE aQ).toArray) ((vS aq ar au av aw ax aG ay aH aI az aJ aK aA aL aM aB aN aP aE aQ).toArray) aV Tys42 rfl rfl (fun c7 bf=>(wt ⟨heldE (i:=10) rfl rfl,aO 7 rfl (lD (vS G I J N O S Z U ab ac V ad ae W af ag X ah ai Y aj) Tya42 Tys42 rfl (fun j v hj=>bf.cell (kr.cell (c6 j v hj))) (wt ⟨heldE (i:=10) rfl rfl,aO 11 rfl (sI 0 (.agg (vS G I J N O S Z U ab ac V ad ae W af ag X ah ai Y aj).toArray) ((vS G I J N O S Z U ab ac V ad ae W af ag X ah ai Y aj).toArray) bf Tys42 rfl rfl (fun c8 bq=>(wt ⟨heldE (i:=11) rfl rfl,aD (thenN (⟨_,cJ.drew.heap.size,aq,ar,au,av,aw,ax,ay,aG,aH,az,aI,aJ,aA,aK,aL,aB,aM,aN,aE,aP,aQ,cu.heap.size,G,I,J,N,O,S,U,Z,ab,V,ac,ad,W,ae,af,X,ag,ah,Y,ai,aj,fR,(bq.sel [1,0] (by decide)),cK,cL,cM,cN,cO,cP,cQ,cR,cS,cU,cV,cW,cX,cY,h⟩))⟩)))⟩))⟩)))
     ·refine opL (i:=9) rfl (aC zS.toArray bR Tyz42 (fun cu be=>(wt ⟨heldF (fwOf (is:=[]) be kr rfl),anyAll (rs:=[7,8]) (by kernel_rfl) (by decide) (allC ?_ (allC ?_ allN))⟩)))
      ·exact opL (i:=7) rfl (lD (vS G I J N O S Z U ab ac V ad ae W af ag X ah ai Y aj) Tya42 Tys42 rfl (fun j v hj=>be.cell (kr.cell (c6 j v hj))) (wt ⟨heldF (fwOf (is:=[]) be kr rfl),aO 8 rfl (aC zS.toArray be Tyz42 (fun dx aV=>(wt ⟨heldF (fwOf (is:=[]) aV kr rfl),aO 10 rfl (sI 0 (.agg (vS aq ar au av aw ax aG ay aH aI az aJ aK aA aL aM aB aN aP aE aQ).toArray) ((vS aq ar au av aw ax aG ay aH aI az aJ aK aA aL aM aB aN aP aE aQ).toArray) aV Tys42 rfl rfl (fun c7 bf=>(wt ⟨heldE (i:=10) rfl rfl,aO 11 rfl (sI 1 (.agg (vS G I J N O S Z U ab ac V ad ae W af ag X ah ai Y aj).toArray) ((vS G I J N O S Z U ab ac V ad ae W af ag X ah ai Y aj).toArray) bf Tys42 rfl rfl (fun c8 bq=>(wt ⟨heldE (i:=11) rfl rfl,aD (thenN (⟨_,cu.heap.size,aq,ar,au,av,aw,ax,ay,aG,aH,az,aI,aJ,aA,aK,aL,aB,aM,aN,aE,aP,aQ,cJ.drew.heap.size,G,I,J,N,O,S,U,Z,ab,V,ac,ad,W,ae,af,X,ag,ah,Y,ai,aj,fR,bq,cK,cL,cM,cN,cO,cP,cQ,cR,cS,cU,cV,cW,cX,cY,h⟩))⟩)))⟩)))⟩)))⟩))
      ·refine opL (i:=8) rfl (aC zS.toArray be Tyz42 (fun dx aV=>(wt ⟨heldF (fwOf (is:=[]) aV kr rfl),anyAll (rs:=[7,10]) (by kernel_rfl) (by decide) (allC ?_ (allC ?_ allN))⟩)))
       ·exact opL (i:=7) rfl (lD (vS G I J N O S Z U ab ac V ad ae W af ag X ah ai Y aj) Tya42 Tys42 rfl (fun j v hj=>aV.cell (kr.cell (c6 j v hj))) (wt ⟨heldF (fwOf (is:=[]) aV kr rfl),aO 10 rfl (sI 0 (.agg (vS aq ar au av aw ax aG ay aH aI az aJ aK aA aL aM aB aN aP aE aQ).toArray) ((vS aq ar au av aw ax aG ay aH aI az aJ aK aA aL aM aB aN aP aE aQ).toArray) aV Tys42 rfl rfl (fun c7 bf=>(wt ⟨heldE (i:=10) rfl rfl,aO 11 rfl (sI 1 (.agg (vS G I J N O S Z U ab ac V ad ae W af ag X ah ai Y aj).toArray) ((vS G I J N O S Z U ab ac V ad ae W af ag X ah ai Y aj).toArray) bf Tys42 rfl rfl (fun c8 bq=>(wt ⟨heldE (i:=11) rfl rfl,aD (thenN (⟨_,cu.heap.size,aq,ar,au,av,aw,ax,ay,aG,aH,az,aI,aJ,aA,aK,aL,aB,aM,aN,aE,aP,aQ,cJ.drew.heap.size,G,I,J,N,O,S,U,Z,ab,V,ac,ad,W,ae,af,X,ag,ah,Y,ai,aj,fR,bq,cK,cL,cM,cN,cO,cP,cQ,cR,cS,cU,cV,cW,cX,cY,h⟩))⟩)))⟩)))⟩))
       ·exact opL (i:=10) rfl (sI 0 (.agg (vS aq ar au av aw ax aG ay aH aI az aJ aK aA aL aM aB aN aP aE aQ).toArray) ((vS aq ar au av aw ax aG ay aH aI az aJ aK aA aL aM aB aN aP aE aQ).toArray) aV Tys42 rfl rfl (fun c7 bf=>(wt ⟨heldE (i:=10) rfl rfl,aO 7 rfl (lD (vS G I J N O S Z U ab ac V ad ae W af ag X ah ai Y aj) Tya42 Tys42 rfl (fun j v hj=>bf.cell (kr.cell (c6 j v hj))) (wt ⟨heldE (i:=10) rfl rfl,aO 11 rfl (sI 1 (.agg (vS G I J N O S Z U ab ac V ad ae W af ag X ah ai Y aj).toArray) ((vS G I J N O S Z U ab ac V ad ae W af ag X ah ai Y aj).toArray) bf Tys42 rfl rfl (fun c8 bq=>(wt ⟨heldE (i:=11) rfl rfl,aD (thenN (⟨_,cu.heap.size,aq,ar,au,av,aw,ax,ay,aG,aH,az,aI,aJ,aA,aK,aL,aB,aM,aN,aE,aP,aQ,cJ.drew.heap.size,G,I,J,N,O,S,U,Z,ab,V,ac,ad,W,ae,af,X,ag,ah,Y,ai,aj,fR,bq,cK,cL,cM,cN,cO,cP,cQ,cR,cS,cU,cV,cW,cX,cY,h⟩))⟩)))⟩))⟩)))
    ·rintro _ fG ⟨et,bo,b4,bx,bF,bz,bG,bH,b5,b9,cb,bI,cc,ce,bJ,cf,ch,bK,ci,cj,aF,bA,bB,bp,b6,bC,bL,bD,bM,bN,b7,ck,cl,bO,cm,cn,bP,co,cq,bQ,cr,ct,ap,bb,bd,rfl,aW,fH,fI,eV,eW,eX,eY,ez,fJ,fK,eZ,e0,e1,e2,c9,h⟩
     unfold f21_j1 at h
     refine wp_seq (wp_cut (fun a w=>∃ (eA:Nat→Value) (dy:KH) (d0:Bool),a=fr 161 (updL eA [(0,sl b2 a4 b3),(1,sl cy a5 cz),(5,iI (ao:Int)),(6,pp bo 0),(7,pp bp 0),(77,.bool d0)])∧KH.sub D dy∧SR K dy wi w [] [.box wi.heap.size bo (vS b4 bx bF bz bG bH b9 b5 cb cc bI ce cf bJ ch ci bK cj bA aF bB).toArray 42,.box wi.heap.size bp (vS b6 bC bL bD bM bN ck b7 cl cm bO cn co bP cq cr bQ ct bb ap bd).toArray 42]∧f21_j2 k F ao bI bJ bK aF bO bP bQ ap d0 (f21_l1 k F a5 bE)=some r_) ?_ ?_)
     ·refine wp_region_lit (fd 0 Tyf42_0 rfl (l1 0 (iI b4) aW Tya3 (fd 0 Tyf42_0 rfl (l1 1 (iI b6) aW Tya3 (c0 (b4 != b6) (m1 (.bool (b4 != b6)) (cd h (fun bS h=>?_) (fun bS h=>?_))))))))
      ·exact o1 35 bS (o1 35 bS (o1 35 bS (o1 35 bS (o1 35 bS (m3 true vT (cg bS) (m1 vT (o0 42 (o0 42 (o0 42 (o0 42 (o0 42 (m3 true vT rfl (m1 vT (o0 49 (o0 49 (o0 49 (o0 49 (o0 49 (m3 true vT rfl (m1 vT (o0 56 (o0 56 (o0 56 (o0 56 (o0 56 (m3 true vT rfl (m1 vT (o0 63 (o0 63 (o0 63 (o0 63 (o0 63 (m3 true vT rfl (m1 vT (o0 70 (o0 70 (o0 70 (o0 70 (o0 70 (o0 70 (m3 true vT rfl (wt (⟨_,D,true,fR,kr,aW,h⟩)))))))))))))))))))))))))))))))))))))))))))
      ·refine n1 35 bS (fd 1 Tyf42_1 rfl (n1 35 bS (l1 0 (.string bx) aW Tya9 (n1 35 bS (fd 1 Tyf42_1 rfl (n1 35 bS (l1 1 (.string bC) aW Tya9 (n1 35 bS (bsc (r:=(!seq bx bC)) rfl rfl rfl (m3 false (.bool (!seq bx bC)) (cg bS) (m1 (.bool (!seq bx bC)) (cd h (fun bT h=>?_) (fun bT h=>?_)))))))))))))
       ·exact o1 42 bT (o1 42 bT (o1 42 bT (o1 42 bT (o1 42 bT (m3 true vT (cg bT) (m1 vT (o0 49 (o0 49 (o0 49 (o0 49 (o0 49 (m3 true vT rfl (m1 vT (o0 56 (o0 56 (o0 56 (o0 56 (o0 56 (m3 true vT rfl (m1 vT (o0 63 (o0 63 (o0 63 (o0 63 (o0 63 (m3 true vT rfl (m1 vT (o0 70 (o0 70 (o0 70 (o0 70 (o0 70 (o0 70 (m3 true vT rfl (wt (⟨_,D,true,fR,kr,aW,h⟩))))))))))))))))))))))))))))))))))))
       ·refine n1 42 bT (fd 2 Tyf42_2 rfl (n1 42 bT (l1 0 (iI bF) aW Tya3 (n1 42 bT (fd 2 Tyf42_2 rfl (n1 42 bT (l1 1 (iI bL) aW Tya3 (n1 42 bT (c0 (bF != bL) (m3 false (.bool (bF != bL)) (cg bT) (m1 (.bool (bF != bL)) (cd h (fun bU h=>?_) (fun bU h=>?_)))))))))))))
        ·exact o1 49 bU (o1 49 bU (o1 49 bU (o1 49 bU (o1 49 bU (m3 true vT (cg bU) (m1 vT (o0 56 (o0 56 (o0 56 (o0 56 (o0 56 (m3 true vT rfl (m1 vT (o0 63 (o0 63 (o0 63 (o0 63 (o0 63 (m3 true vT rfl (m1 vT (o0 70 (o0 70 (o0 70 (o0 70 (o0 70 (o0 70 (m3 true vT rfl (wt (⟨_,D,true,fR,kr,aW,h⟩)))))))))))))))))))))))))))))
        ·refine n1 49 bU (fd 3 Tyf42_3 rfl (n1 49 bU (l1 0 (.string bz) aW Tya9 (n1 49 bU (fd 3 Tyf42_3 rfl (n1 49 bU (l1 1 (.string bD) aW Tya9 (n1 49 bU (bsc (r:=(!seq bz bD)) rfl rfl rfl (m3 false (.bool (!seq bz bD)) (cg bU) (m1 (.bool (!seq bz bD)) (cd h (fun bV h=>?_) (fun bV h=>?_)))))))))))))
         ·exact o1 56 bV (o1 56 bV (o1 56 bV (o1 56 bV (o1 56 bV (m3 true vT (cg bV) (m1 vT (o0 63 (o0 63 (o0 63 (o0 63 (o0 63 (m3 true vT rfl (m1 vT (o0 70 (o0 70 (o0 70 (o0 70 (o0 70 (o0 70 (m3 true vT rfl (wt (⟨_,D,true,fR,kr,aW,h⟩))))))))))))))))))))))
         ·refine n1 56 bV (fd 4 Tyf42_4 rfl (n1 56 bV (l1 0 (iI bG) aW Tya3 (n1 56 bV (fd 4 Tyf42_4 rfl (n1 56 bV (l1 1 (iI bM) aW Tya3 (n1 56 bV (c0 (bG != bM) (m3 false (.bool (bG != bM)) (cg bV) (m1 (.bool (bG != bM)) (cd h (fun bW h=>?_) (fun bW h=>?_)))))))))))))
          ·exact o1 63 bW (o1 63 bW (o1 63 bW (o1 63 bW (o1 63 bW (m3 true vT (cg bW) (m1 vT (o0 70 (o0 70 (o0 70 (o0 70 (o0 70 (o0 70 (m3 true vT rfl (wt (⟨_,D,true,fR,kr,aW,h⟩)))))))))))))))
          ·refine n1 63 bW (fd 5 Tyf42_5 rfl (n1 63 bW (l1 0 (iI bH) aW Tya3 (n1 63 bW (fd 5 Tyf42_5 rfl (n1 63 bW (l1 1 (iI bN) aW Tya3 (n1 63 bW (c0 (bH != bN) (m3 false (.bool (bH != bN)) (cg bW) (m1 (.bool (bH != bN)) (cd h (fun br h=>?_) (fun br h=>?_)))))))))))))
           ·exact o1 70 br (o1 70 br (o1 70 br (o1 70 br (o1 70 br (o1 70 br (m3 true vT (cg br) (wt (⟨_,D,true,fR,kr,aW,h⟩))))))))
           ·refine n1 70 br (fd 6 Tyf42_6 rfl (n1 70 br (l1 0 (sl b9 b5 cb) aW Tya39 (n1 70 br (fd 6 Tyf42_6 rfl (n1 70 br (l1 1 (sl ck b7 cl) aW Tya39 (n1 70 br ?_))))))))
            obtain ⟨d1,e3,h⟩:=ob h
            refine cv ([sl b9 b5 cb,sl ck b7 cl]) Tyb48 ((f48_ok k) _ _ _ _ _ _ _ _ _ e3 (hG.mono cA) eV eZ (pt aW)) ?_
            rintro _ fL ⟨e4,rfl,eB⟩
            have e5:=ca eB aW
            exact n1 70 br (uN d1 (m3 false (.bool (!d1)) (cg br) (wt (⟨_,e4,(!d1),fR,eB.sub,e5,h⟩))))
     ·rintro _ fM ⟨eA,dy,d0,rfl,aX,dz,h⟩
      unfold f21_j2 at h
      refine cd h (fun d2 h=>?_) (fun d2 h=>?_)
      ·refine cT d2 (sr (m2 vN (wt (wp_ret (thenR (blkR (thenR (thenR (blkR (thenR ?_))))))))))
       cases (oi h).trans hr_
       exact retA1 rfl (resT rfl) ⟨dy,rfl,(dz.sel [] (by decide))⟩
      ·refine cF d2 (wp_skip (thenN (wp_seq (wp_cut (fun a w=>∃ (eC:Nat→Value) (dn:KH) (d3:Bool),a=fr 161 (updL eC [(0,sl b2 a4 b3),(1,sl cy a5 cz),(5,iI (ao:Int)),(6,pp bo 0),(7,pp bp 0),(108,.bool d3)])∧KH.sub dy dn∧SR K dn wi w [] [.box wi.heap.size bo (vS b4 bx bF bz bG bH b9 b5 cb cc bI ce cf bJ ch ci bK cj bA aF bB).toArray 42,.box wi.heap.size bp (vS b6 bC bL bD bM bN ck b7 cl cm bO cn co bP cq cr bQ ct bb ap bd).toArray 42]∧f21_j3 k F ao aF ap d3 (f21_l1 k F a5 bE)=some r_) ?_ ?_))))
       ·refine wp_region_lit (fd 7 Tyf42_7 rfl (l1 0 (sl cc bI ce) dz Tya36 (fd 7 Tyf42_7 rfl (l1 1 (sl cm bO cn) dz Tya36 ?_))))
        obtain ⟨eD,e6,h⟩:=ob h
        refine cv ([sl cc bI ce,sl cm bO cn]) Tyb21 (IH21 _ _ _ _ _ _ _ _ _ e6 (hG.mono (cA.trans aX)) (ms eW aX) (ms e0 aX) (pt dz)) ?_
        rintro _ fN ⟨e7,rfl,cw⟩
        have dA:=ca cw dz
        refine uN eD (m1 (.bool (!eD)) (cd h (fun bs h=>?_) (fun bs h=>?_)))
        ·exact o1 84 bs (o1 84 bs (o1 84 bs (o1 84 bs (o1 84 bs (o1 84 bs (m3 true vT (cg bs) (m1 vT (o0 92 (o0 92 (o0 92 (o0 92 (o0 92 (o0 92 (m3 true vT rfl (m1 vT (o0 100 (o0 100 (o0 100 (o0 100 (o0 100 (o0 100 (o0 100 (m3 true vT rfl (wt (⟨_,e7,true,fR,cw.sub,dA,h⟩)))))))))))))))))))))))))
        ·refine n1 84 bs (fd 8 Tyf42_8 rfl (n1 84 bs (l1 0 (sl cf bJ ch) dA Tya36 (n1 84 bs (fd 8 Tyf42_8 rfl (n1 84 bs (l1 1 (sl co bP cq) dA Tya36 (n1 84 bs ?_))))))))
         obtain ⟨d4,e8,h⟩:=ob h
         refine cv ([sl cf bJ ch,sl co bP cq]) Tyb21 (IH21 _ _ _ _ _ _ _ _ _ e8 (hG.mono ((cA.trans aX).trans cw.sub)) (ms eX (aX.trans cw.sub)) (ms e1 (aX.trans cw.sub)) (pt dA)) ?_
         rintro _ fO ⟨e9,rfl,da⟩
         have dB:=ca da dA
         refine n1 84 bs (uN d4 (m3 false (.bool (!d4)) (cg bs) (m1 (.bool (!d4)) (cd h (fun bu h=>?_) (fun bu h=>?_)))))
         ·exact o1 92 bu (o1 92 bu (o1 92 bu (o1 92 bu (o1 92 bu (o1 92 bu (m3 true vT (cg bu) (m1 vT (o0 100 (o0 100 (o0 100 (o0 100 (o0 100 (o0 100 (o0 100 (m3 true vT rfl (wt (⟨_,e9,true,fR,(cw.sub.trans da.sub),dB,h⟩)))))))))))))))))
         ·refine n1 92 bu (fd 9 Tyf42_9 rfl (n1 92 bu (l1 0 (sl ci bK cj) dB Tya36 (n1 92 bu (fd 9 Tyf42_9 rfl (n1 92 bu (l1 1 (sl cr bQ ct) dB Tya36 (n1 92 bu ?_))))))))
          obtain ⟨d5,fa,h⟩:=ob h
          refine cv ([sl ci bK cj,sl cr bQ ct]) Tyb21 (IH21 _ _ _ _ _ _ _ _ _ fa (hG.mono (((cA.trans aX).trans cw.sub).trans da.sub)) (ms eY ((aX.trans cw.sub).trans da.sub)) (ms e2 ((aX.trans cw.sub).trans da.sub)) (pt dB)) ?_
          rintro _ fP ⟨eE,rfl,d6⟩
          have dW:=ca d6 dB
          refine n1 92 bu (uN d5 (m3 false (.bool (!d5)) (cg bu) (m1 (.bool (!d5)) (cd h (fun bg h=>?_) (fun bg h=>?_)))))
          ·exact o1 100 bg (o1 100 bg (o1 100 bg (o1 100 bg (o1 100 bg (o1 100 bg (o1 100 bg (m3 true vT (cg bg) (wt (⟨_,eE,true,fR,((cw.sub.trans da.sub).trans d6.sub),dW,h⟩)))))))))
          ·exact n1 100 bg (fd 10 Tyf42_10 rfl (n1 100 bg (l1 0 (sl bA aF bB) dW Tya40 (n1 100 bg (lS aF.length Tye40 (n1 100 bg (fd 10 Tyf42_10 rfl (n1 100 bg (l1 1 (sl bb ap bd) dW Tya40 (n1 100 bg (lS ap.length Tye40 (n1 100 bg (c0 ((aF.length:Int) != (ap.length:Int)) (m3 false (.bool ((aF.length:Int) != (ap.length:Int))) (cg bg) (wt (⟨_,eE,((aF.length:Int) != (ap.length:Int)),fR,((cw.sub.trans da.sub).trans d6.sub),dW,h⟩))))))))))))))))
       ·rintro _ fQ ⟨eC,dn,d3,rfl,b8,eF,h⟩
        unfold f21_j3 at h
        refine cd h (fun d7 h=>?_) (fun d7 h=>?_)
        ·refine cT d7 (sr (m2 vN (wt (wp_ret (thenR (blkR (thenR (thenR (blkR (thenR ?_))))))))))
         cases (oi h).trans hr_
         exact retA1 rfl (resT rfl) ⟨dn,rfl,(eF.sel [] (by decide))⟩
        ·refine cF d7 (wp_skip (thenN (sr (m2 (iI 0) (wt (wp_block (wp_loopG (fun g_ a w=>∃ (eG:Nat→Value) (a9:KH) (cB:LC) (C:Nat),g_=cB.length∧a=fr 161 (updL eG [(0,sl b2 a4 b3),(1,sl cy a5 cz),(5,iI (ao:Int)),(6,pp bo 0),(7,pp bp 0),(8,iI (C:Int))])∧KH.sub dn a9∧SR K a9 wi w [] [.box wi.heap.size bo (vS b4 bx bF bz bG bH b9 b5 cb cc bI ce cf bJ ch ci bK cj bA aF bB).toArray 42,.box wi.heap.size bp (vS b6 bC bL bD bM bN ck b7 cl cm bO cn co bP cq cr bQ ct bb ap bd).toArray 42]∧aF.drop C=cB∧f21_l2 k F ao ap (f21_l1 k F a5 bE) cB C=some r_) aF.length ?_ ?_)))))))
         ·exact ⟨_,dn,aF,0,rfl,fR,kr,eF,List.drop_zero,h⟩
         ·rintro _ _ aY ⟨eG,a9,cB,C,rfl,rfl,bX,dX,dp,h⟩
          rcases cB with _ | ⟨⟨l,m,p,q,s⟩,cB⟩
          ·unfold f21_l2 at h
           exact wp_seq (sr (m1 (iI (C:Int)) (fd 10 Tyf42_10 rfl (l1 0 (sl bA aF bB) dX Tya40 (lS aF.length Tye40 (bcm (r:=false) rfl rfl (congrArg some (drop_nil_lt dp)) (wt (cndF rfl (wp_exit (thenX (thenX (blkX (blkN (thenN (wp_region_lit (m1 (iI (ao:Int)) (bar (r:=((ao + 1:Nat):Int)) rfl rfl (inc_ok (le_big (((ms ep cA)).len) (by decide) (drop_cons_lt dm))) (m2 (iI ((ao + 1:Nat):Int)) (wt (⟨_,Nat.lt_succ_self _,_,a9,bE,ao + 1,rfl,fR,(((cA.trans aX).trans b8).trans bX),(dX.sel [] (by decide)),drop_cons_next dm,h⟩))))))))))))))))))))
          ·unfold f21_l2 at h
           refine wp_seq (sr (m1 (iI (C:Int)) (fd 10 Tyf42_10 rfl (l1 0 (sl bA aF bB) dX Tya40 (lS aF.length Tye40 (bcm (r:=true) rfl rfl (congrArg some (drop_cons_t dp)) (wt (cndT rfl (wp_skip (thenN (wp_seq (wp_block (wp_cut (fun a w=>∃ (eH:Nat→Value) (d8:Nat) (dq:Int) (cZ:BA) (db:Int) (dr:LE) (dC:OA) (dD:Nat) (ds:LS) (dE:OA) (dF:Nat) (d9:Nat) (dt:Int) (c2:BA) (dc:Int) (du:LE) (dG:OA) (dH:Nat) (dv:LS) (dI:OA) (dJ:Nat),a=fr 161 (updL eH [(0,sl b2 a4 b3),(1,sl cy a5 cz),(5,iI (ao:Int)),(6,pp bo 0),(7,pp bp 0),(8,iI (C:Int)),(9,pp d8 0),(10,pp d9 0)])∧SR K a9 wi w [] [.box wi.heap.size bo (vS b4 bx bF bz bG bH b9 b5 cb cc bI ce cf bJ ch ci bK cj bA aF bB).toArray 42,.box wi.heap.size bp (vS b6 bC bL bD bM bN ck b7 cl cm bO cn co bP cq cr bQ ct bb ap bd).toArray 42,.box wi.heap.size d8 (vC dq cZ db dC dr dD dE ds dF).toArray 87,.box wi.heap.size d9 (vC dt c2 dc dG du dH dI dv dJ).toArray 87]∧cZ.size ≤ 140737488355328∧RSl DExpr (RDExpr a9) 5 64 a9 dC dD dr∧RSl DStmt (RDStmt a9) 11 184 a9 dE dF ds∧c2.size ≤ 140737488355328∧RSl DExpr (RDExpr a9) 5 64 a9 dG dH du∧RSl DStmt (RDStmt a9) 11 184 a9 dI dJ dv∧f21_j4 k F C dq cZ db dr ds dt c2 dc du dv (f21_l2 k F ao ap (f21_l1 k F a5 bE) cB)=some r_) ?_ ?_)))))))))))))
           ·have ba:=dX.drew
            refine regAny (E:=[12,13]) (F:=FW a9 [.box wi.heap.size bo (vS b4 bx bF bz bG bH b9 b5 cb cc bI ce cf bJ ch ci bK cj bA aF bB).toArray 42,.box wi.heap.size bp (vS b6 bC bL bD bM bN ck b7 cl cm bO cn co bP cq cr bQ ct bb ap bd).toArray 42]) (L:=(lb 14 0)) ymx rfl rfl (tk 0 (pp bo 10) (lb 14 1) rfl (fun w=>fld_r (o':=10) Tyf42_10 rfl rfl) (heldF (fwOf (is:=[0,1]) ba kr rfl)) (tf 1 (sl bA aF bB) ([[12,1],[13,1]]) (lb 14 3) rfl (fwOf (is:=[0,1]) ba kr rfl) (fun w hF=>lb1_r (i:=0) (v:=sl bA aF bB) hF rfl Tya40 rfl rfl) (tk 2 (iI (C:Int)) (lb 14 7) rfl (fun w=>mv_r (v:=iI (C:Int)) rfl) (heldF (fwOf (is:=[0,1]) ba kr rfl)) ?_)))
            obtain ⟨eI,eJ,fS,fb,fT,fc,fe⟩:=((mc ez ((aX.trans b8).trans bX))).row.at_ (drop_cons_at dp)
            obtain ⟨t,u,x,y,rfl,aZ,a2,a3⟩:=RDCase.open fe
            refine tk 3 (pp eI (eJ + C * 5)) (lb 14 15) rfl (fun w=>idxN_r (b:=eI) (o:=eJ) (i:=C) Tye40 Tys87 rfl fb rfl (drop_cons_lt dp)) (heldF (fwOf (is:=[0,1]) ba kr rfl)) (tf 4 (.agg (vC l m p t q u x s y).toArray) ([[12,4],[13,4]]) (lb 14 31) rfl (fwOf (is:=[0,1]) ba kr rfl) (fun w hF=>ldN_r (cs:=(vC l m p t q u x s y)) Tya87 Tys87 rfl rfl (fun j v hj=>hF.cell (kr.cell (fc j v hj)))) (tk 5 (pp bp 10) (lb 14 63) rfl (fun w=>fld_r (o':=10) Tyf42_10 rfl rfl) (heldF (fwOf (is:=[0,1]) ba kr rfl)) (tk 7 (iI (C:Int)) (lb 14 191) rfl (fun w=>mv_r (v:=iI (C:Int)) rfl) (heldF (fwOf (is:=[0,1]) ba kr rfl)) (anyAll (rs:=[6,10,11]) (by kernel_rfl) (by decide) (allC ?_ (allC ?_ (allC ?_ allN)))))))
            ·refine opL (i:=6) rfl (l1 1 (sl bb ap bd) ba Tya40 (wt ⟨heldF (fwOf (is:=[0,1]) ba kr rfl),?_⟩))
             obtain ⟨⟨c,d,e,f,g⟩,ea,h⟩:=ob h
             obtain ⟨eK,eL,fU,ff,fV,dd,fg⟩:=((mc c9 ((aX.trans b8).trans bX))).row.at_ (idxO_at ea).1
             obtain ⟨ak,al,am,an,rfl,c3,c4,c5⟩:=RDCase.open fg
             refine tk 8 (.pointer (some ⟨eK,eL + (C:Int).toNat * 5,none⟩)) (lb 14 511) rfl (fun w=>idxG_r (b:=eK) (o:=eL) (i:=(C:Int)) Tye40 Tys87 rfl ff rfl (idxO_at ea).2.1 (idxO_at ea).2.2) (heldF (fwOf (is:=[0,1]) ba kr rfl)) (anyAll (rs:=[9,10,11]) (by kernel_rfl) (by decide) (allC ?_ (allC ?_ (allC ?_ allN))))
             ·refine opL (i:=9) rfl (lD (vC c d e ak f al am g an) Tya87 Tys87 rfl (fun j v hj=>ba.cell (kr.cell (dd j v hj))) (wt ⟨heldF (fwOf (is:=[0,1]) ba kr rfl),anyAll (rs:=[10,11]) (by kernel_rfl) (by decide) (allC ?_ (allC ?_ allN))⟩))
              ·exact opL (i:=10) rfl (aC zC.toArray ba Tyz87 (fun cx bh=>(wt ⟨heldF (fwOf (is:=[1,2]) bh kr rfl),aO 11 rfl (aC zC.toArray bh Tyz87 (fun cC z=>(wt ⟨heldF (fwOf (is:=[2,3]) z kr rfl),aO 12 rfl (sI 1 (.agg (vC l m p t q u x s y).toArray) ((vC l m p t q u x s y).toArray) z Tys87 rfl rfl (fun bi A=>(wt ⟨heldE (i:=12) rfl rfl,aO 13 rfl (sI 0 (.agg (vC c d e ak f al am g an).toArray) ((vC c d e ak f al am g an).toArray) A Tys87 rfl rfl (fun a6 B=>(wt ⟨heldE (i:=13) rfl rfl,aD (thenN (⟨_,aY.drew.heap.size,l,m,p,q,t,u,s,x,y,cx.heap.size,c,d,e,f,ak,al,g,am,an,fR,(B.sel [2,3,1,0] (by decide)),aZ,a2,a3,c3,c4,c5,h⟩))⟩)))⟩)))⟩)))⟩)))
              ·exact opL (i:=11) rfl (aC zC.toArray ba Tyz87 (fun cx bh=>(wt ⟨heldF (fwOf (is:=[1,2]) bh kr rfl),aO 10 rfl (aC zC.toArray bh Tyz87 (fun cC z=>(wt ⟨heldF (fwOf (is:=[2,3]) z kr rfl),aO 12 rfl (sI 0 (.agg (vC l m p t q u x s y).toArray) ((vC l m p t q u x s y).toArray) z Tys87 rfl rfl (fun bi A=>(wt ⟨heldE (i:=12) rfl rfl,aO 13 rfl (sI 1 (.agg (vC c d e ak f al am g an).toArray) ((vC c d e ak f al am g an).toArray) A Tys87 rfl rfl (fun a6 B=>(wt ⟨heldE (i:=13) rfl rfl,aD (thenN (⟨_,cx.heap.size,l,m,p,q,t,u,s,x,y,aY.drew.heap.size,c,d,e,f,ak,al,g,am,an,fR,(B.sel [2,3,0,1] (by decide)),aZ,a2,a3,c3,c4,c5,h⟩))⟩)))⟩)))⟩)))⟩)))
             ·refine opL (i:=10) rfl (aC zC.toArray ba Tyz87 (fun cx bh=>(wt ⟨heldF (fwOf (is:=[1,2]) bh kr rfl),anyAll (rs:=[9,11]) (by kernel_rfl) (by decide) (allC ?_ (allC ?_ allN))⟩)))
              ·exact opL (i:=9) rfl (lD (vC c d e ak f al am g an) Tya87 Tys87 rfl (fun j v hj=>bh.cell (kr.cell (dd j v hj))) (wt ⟨heldF (fwOf (is:=[1,2]) bh kr rfl),aO 11 rfl (aC zC.toArray bh Tyz87 (fun cC z=>(wt ⟨heldF (fwOf (is:=[2,3]) z kr rfl),aO 12 rfl (sI 1 (.agg (vC l m p t q u x s y).toArray) ((vC l m p t q u x s y).toArray) z Tys87 rfl rfl (fun bi A=>(wt ⟨heldE (i:=12) rfl rfl,aO 13 rfl (sI 0 (.agg (vC c d e ak f al am g an).toArray) ((vC c d e ak f al am g an).toArray) A Tys87 rfl rfl (fun a6 B=>(wt ⟨heldE (i:=13) rfl rfl,aD (thenN (⟨_,aY.drew.heap.size,l,m,p,q,t,u,s,x,y,cx.heap.size,c,d,e,f,ak,al,g,am,an,fR,(B.sel [2,3,1,0] (by decide)),aZ,a2,a3,c3,c4,c5,h⟩))⟩)))⟩)))⟩)))⟩))
              ·refine opL (i:=11) rfl (aC zC.toArray bh Tyz87 (fun cC z=>(wt ⟨heldF (fwOf (is:=[2,3]) z kr rfl),anyAll (rs:=[9,12]) (by kernel_rfl) (by decide) (allC ?_ (allC ?_ allN))⟩)))
               ·exact opL (i:=9) rfl (lD (vC c d e ak f al am g an) Tya87 Tys87 rfl (fun j v hj=>z.cell (kr.cell (dd j v hj))) (wt ⟨heldF (fwOf (is:=[2,3]) z kr rfl),aO 12 rfl (sI 1 (.agg (vC l m p t q u x s y).toArray) ((vC l m p t q u x s y).toArray) z Tys87 rfl rfl (fun bi A=>(wt ⟨heldE (i:=12) rfl rfl,aO 13 rfl (sI 0 (.agg (vC c d e ak f al am g an).toArray) ((vC c d e ak f al am g an).toArray) A Tys87 rfl rfl (fun a6 B=>(wt ⟨heldE (i:=13) rfl rfl,aD (thenN (⟨_,aY.drew.heap.size,l,m,p,q,t,u,s,x,y,cx.heap.size,c,d,e,f,ak,al,g,am,an,fR,(B.sel [2,3,1,0] (by decide)),aZ,a2,a3,c3,c4,c5,h⟩))⟩)))⟩)))⟩))
               ·exact opL (i:=12) rfl (sI 1 (.agg (vC l m p t q u x s y).toArray) ((vC l m p t q u x s y).toArray) z Tys87 rfl rfl (fun bi A=>(wt ⟨heldE (i:=12) rfl rfl,aO 9 rfl (lD (vC c d e ak f al am g an) Tya87 Tys87 rfl (fun j v hj=>A.cell (kr.cell (dd j v hj))) (wt ⟨heldE (i:=12) rfl rfl,aO 13 rfl (sI 0 (.agg (vC c d e ak f al am g an).toArray) ((vC c d e ak f al am g an).toArray) A Tys87 rfl rfl (fun a6 B=>(wt ⟨heldE (i:=13) rfl rfl,aD (thenN (⟨_,aY.drew.heap.size,l,m,p,q,t,u,s,x,y,cx.heap.size,c,d,e,f,ak,al,g,am,an,fR,(B.sel [2,3,1,0] (by decide)),aZ,a2,a3,c3,c4,c5,h⟩))⟩)))⟩))⟩)))
             ·refine opL (i:=11) rfl (aC zC.toArray ba Tyz87 (fun cx bh=>(wt ⟨heldF (fwOf (is:=[1,2]) bh kr rfl),anyAll (rs:=[9,10]) (by kernel_rfl) (by decide) (allC ?_ (allC ?_ allN))⟩)))
              ·exact opL (i:=9) rfl (lD (vC c d e ak f al am g an) Tya87 Tys87 rfl (fun j v hj=>bh.cell (kr.cell (dd j v hj))) (wt ⟨heldF (fwOf (is:=[1,2]) bh kr rfl),aO 10 rfl (aC zC.toArray bh Tyz87 (fun cC z=>(wt ⟨heldF (fwOf (is:=[2,3]) z kr rfl),aO 12 rfl (sI 0 (.agg (vC l m p t q u x s y).toArray) ((vC l m p t q u x s y).toArray) z Tys87 rfl rfl (fun bi A=>(wt ⟨heldE (i:=12) rfl rfl,aO 13 rfl (sI 1 (.agg (vC c d e ak f al am g an).toArray) ((vC c d e ak f al am g an).toArray) A Tys87 rfl rfl (fun a6 B=>(wt ⟨heldE (i:=13) rfl rfl,aD (thenN (⟨_,cx.heap.size,l,m,p,q,t,u,s,x,y,aY.drew.heap.size,c,d,e,f,ak,al,g,am,an,fR,(B.sel [2,3,0,1] (by decide)),aZ,a2,a3,c3,c4,c5,h⟩))⟩)))⟩)))⟩)))⟩))
              ·refine opL (i:=10) rfl (aC zC.toArray bh Tyz87 (fun cC z=>(wt ⟨heldF (fwOf (is:=[2,3]) z kr rfl),anyAll (rs:=[9,12]) (by kernel_rfl) (by decide) (allC ?_ (allC ?_ allN))⟩)))
               ·exact opL (i:=9) rfl (lD (vC c d e ak f al am g an) Tya87 Tys87 rfl (fun j v hj=>z.cell (kr.cell (dd j v hj))) (wt ⟨heldF (fwOf (is:=[2,3]) z kr rfl),aO 12 rfl (sI 0 (.agg (vC l m p t q u x s y).toArray) ((vC l m p t q u x s y).toArray) z Tys87 rfl rfl (fun bi A=>(wt ⟨heldE (i:=12) rfl rfl,aO 13 rfl (sI 1 (.agg (vC c d e ak f al am g an).toArray) ((vC c d e ak f al am g an).toArray) A Tys87 rfl rfl (fun a6 B=>(wt ⟨heldE (i:=13) rfl rfl,aD (thenN (⟨_,cx.heap.size,l,m,p,q,t,u,s,x,y,aY.drew.heap.size,c,d,e,f,ak,al,g,am,an,fR,(B.sel [2,3,0,1] (by decide)),aZ,a2,a3,c3,c4,c5,h⟩))⟩)))⟩)))⟩))
               ·exact opL (i:=12) rfl (sI 0 (.agg (vC l m p t q u x s y).toArray) ((vC l m p t q u x s y).toArray) z Tys87 rfl rfl (fun bi A=>(wt ⟨heldE (i:=12) rfl rfl,aO 9 rfl (lD (vC c d e ak f al am g an) Tya87 Tys87 rfl (fun j v hj=>A.cell (kr.cell (dd j v hj))) (wt ⟨heldE (i:=12) rfl rfl,aO 13 rfl (sI 1 (.agg (vC c d e ak f al am g an).toArray) ((vC c d e ak f al am g an).toArray) A Tys87 rfl rfl (fun a6 B=>(wt ⟨heldE (i:=13) rfl rfl,aD (thenN (⟨_,cx.heap.size,l,m,p,q,t,u,s,x,y,aY.drew.heap.size,c,d,e,f,ak,al,g,am,an,fR,(B.sel [2,3,0,1] (by decide)),aZ,a2,a3,c3,c4,c5,h⟩))⟩)))⟩))⟩)))
            ·refine opL (i:=10) rfl (aC zC.toArray ba Tyz87 (fun bY a7=>(wt ⟨heldF (fwOf (is:=[1,2]) a7 kr rfl),anyAll (rs:=[6,11]) (by kernel_rfl) (by decide) (allC ?_ (allC ?_ allN))⟩)))
             ·refine opL (i:=6) rfl (l1 2 (sl bb ap bd) a7 Tya40 (wt ⟨heldF (fwOf (is:=[1,2]) a7 kr rfl),?_⟩))
              obtain ⟨⟨c,d,e,f,g⟩,de,h⟩:=ob h
              obtain ⟨dK,dL,fh,eb,fi,df,ec⟩:=((mc c9 ((aX.trans b8).trans bX))).row.at_ (idxO_at de).1
              obtain ⟨aR,aS,aT,aU,rfl,dg,dh,di⟩:=RDCase.open ec
              refine tk 8 (.pointer (some ⟨dK,dL + (C:Int).toNat * 5,none⟩)) (lb 14 1535) rfl (fun w=>idxG_r (b:=dK) (o:=dL) (i:=(C:Int)) Tye40 Tys87 rfl eb rfl (idxO_at de).2.1 (idxO_at de).2.2) (heldF (fwOf (is:=[1,2]) a7 kr rfl)) (anyAll (rs:=[9,11]) (by kernel_rfl) (by decide) (allC ?_ (allC ?_ allN)))
              ·exact opL (i:=9) rfl (lD (vC c d e aR f aS aT g aU) Tya87 Tys87 rfl (fun j v hj=>a7.cell (kr.cell (df j v hj))) (wt ⟨heldF (fwOf (is:=[1,2]) a7 kr rfl),aO 11 rfl (aC zC.toArray a7 Tyz87 (fun cC z=>(wt ⟨heldF (fwOf (is:=[2,3]) z kr rfl),aO 12 rfl (sI 1 (.agg (vC l m p t q u x s y).toArray) ((vC l m p t q u x s y).toArray) z Tys87 rfl rfl (fun bi A=>(wt ⟨heldE (i:=12) rfl rfl,aO 13 rfl (sI 0 (.agg (vC c d e aR f aS aT g aU).toArray) ((vC c d e aR f aS aT g aU).toArray) A Tys87 rfl rfl (fun a6 B=>(wt ⟨heldE (i:=13) rfl rfl,aD (thenN (⟨_,aY.drew.heap.size,l,m,p,q,t,u,s,x,y,bY.heap.size,c,d,e,f,aR,aS,g,aT,aU,fR,(B.sel [2,3,1,0] (by decide)),aZ,a2,a3,dg,dh,di,h⟩))⟩)))⟩)))⟩)))⟩))
              ·refine opL (i:=11) rfl (aC zC.toArray a7 Tyz87 (fun cC z=>(wt ⟨heldF (fwOf (is:=[2,3]) z kr rfl),anyAll (rs:=[9,12]) (by kernel_rfl) (by decide) (allC ?_ (allC ?_ allN))⟩)))
               ·exact opL (i:=9) rfl (lD (vC c d e aR f aS aT g aU) Tya87 Tys87 rfl (fun j v hj=>z.cell (kr.cell (df j v hj))) (wt ⟨heldF (fwOf (is:=[2,3]) z kr rfl),aO 12 rfl (sI 1 (.agg (vC l m p t q u x s y).toArray) ((vC l m p t q u x s y).toArray) z Tys87 rfl rfl (fun bi A=>(wt ⟨heldE (i:=12) rfl rfl,aO 13 rfl (sI 0 (.agg (vC c d e aR f aS aT g aU).toArray) ((vC c d e aR f aS aT g aU).toArray) A Tys87 rfl rfl (fun a6 B=>(wt ⟨heldE (i:=13) rfl rfl,aD (thenN (⟨_,aY.drew.heap.size,l,m,p,q,t,u,s,x,y,bY.heap.size,c,d,e,f,aR,aS,g,aT,aU,fR,(B.sel [2,3,1,0] (by decide)),aZ,a2,a3,dg,dh,di,h⟩))⟩)))⟩)))⟩))
               ·exact opL (i:=12) rfl (sI 1 (.agg (vC l m p t q u x s y).toArray) ((vC l m p t q u x s y).toArray) z Tys87 rfl rfl (fun bi A=>(wt ⟨heldE (i:=12) rfl rfl,aO 9 rfl (lD (vC c d e aR f aS aT g aU) Tya87 Tys87 rfl (fun j v hj=>A.cell (kr.cell (df j v hj))) (wt ⟨heldE (i:=12) rfl rfl,aO 13 rfl (sI 0 (.agg (vC c d e aR f aS aT g aU).toArray) ((vC c d e aR f aS aT g aU).toArray) A Tys87 rfl rfl (fun a6 B=>(wt ⟨heldE (i:=13) rfl rfl,aD (thenN (⟨_,aY.drew.heap.size,l,m,p,q,t,u,s,x,y,bY.heap.size,c,d,e,f,aR,aS,g,aT,aU,fR,(B.sel [2,3,1,0] (by decide)),aZ,a2,a3,dg,dh,di,h⟩))⟩)))⟩))⟩)))
             ·refine opL (i:=11) rfl (aC zC.toArray a7 Tyz87 (fun fj a8=>(wt ⟨heldF (fwOf (is:=[2,3]) a8 kr rfl),anyAll (rs:=[6,12]) (by kernel_rfl) (by decide) (allC ?_ (allC ?_ allN))⟩)))
              ·refine opL (i:=6) rfl (l1 3 (sl bb ap bd) a8 Tya40 (wt ⟨heldF (fwOf (is:=[2,3]) a8 kr rfl),?_⟩))
               obtain ⟨⟨c,d,e,f,g⟩,dj,h⟩:=ob h
               obtain ⟨dM,dN,fk,ed,fl,dO,ee⟩:=((mc c9 ((aX.trans b8).trans bX))).row.at_ (idxO_at dj).1
               obtain ⟨bj,bk,bm,bn,rfl,dP,dQ,dR⟩:=RDCase.open ee
               refine tk 8 (.pointer (some ⟨dM,dN + (C:Int).toNat * 5,none⟩)) (lb 14 3583) rfl (fun w=>idxG_r (b:=dM) (o:=dN) (i:=(C:Int)) Tye40 Tys87 rfl ed rfl (idxO_at dj).2.1 (idxO_at dj).2.2) (heldF (fwOf (is:=[2,3]) a8 kr rfl)) (anyAll (rs:=[9,12]) (by kernel_rfl) (by decide) (allC ?_ (allC ?_ allN)))
               ·exact opL (i:=9) rfl (lD (vC c d e bj f bk bm g bn) Tya87 Tys87 rfl (fun j v hj=>a8.cell (kr.cell (dO j v hj))) (wt ⟨heldF (fwOf (is:=[2,3]) a8 kr rfl),aO 12 rfl (sI 1 (.agg (vC l m p t q u x s y).toArray) ((vC l m p t q u x s y).toArray) a8 Tys87 rfl rfl (fun bi A=>(wt ⟨heldE (i:=12) rfl rfl,aO 13 rfl (sI 0 (.agg (vC c d e bj f bk bm g bn).toArray) ((vC c d e bj f bk bm g bn).toArray) A Tys87 rfl rfl (fun a6 B=>(wt ⟨heldE (i:=13) rfl rfl,aD (thenN (⟨_,aY.drew.heap.size,l,m,p,q,t,u,s,x,y,bY.heap.size,c,d,e,f,bj,bk,g,bm,bn,fR,(B.sel [2,3,1,0] (by decide)),aZ,a2,a3,dP,dQ,dR,h⟩))⟩)))⟩)))⟩))
               ·exact opL (i:=12) rfl (sI 1 (.agg (vC l m p t q u x s y).toArray) ((vC l m p t q u x s y).toArray) a8 Tys87 rfl rfl (fun bi A=>(wt ⟨heldE (i:=12) rfl rfl,aO 9 rfl (lD (vC c d e bj f bk bm g bn) Tya87 Tys87 rfl (fun j v hj=>A.cell (kr.cell (dO j v hj))) (wt ⟨heldE (i:=12) rfl rfl,aO 13 rfl (sI 0 (.agg (vC c d e bj f bk bm g bn).toArray) ((vC c d e bj f bk bm g bn).toArray) A Tys87 rfl rfl (fun a6 B=>(wt ⟨heldE (i:=13) rfl rfl,aD (thenN (⟨_,aY.drew.heap.size,l,m,p,q,t,u,s,x,y,bY.heap.size,c,d,e,f,bj,bk,g,bm,bn,fR,(B.sel [2,3,1,0] (by decide)),aZ,a2,a3,dP,dQ,dR,h⟩))⟩)))⟩))⟩)))
              ·refine opL (i:=12) rfl (sI 1 (.agg (vC l m p t q u x s y).toArray) ((vC l m p t q u x s y).toArray) a8 Tys87 rfl rfl (fun fm dk=>(wt ⟨heldE (i:=12) rfl rfl,aO 6 rfl (l1 3 (sl bb ap bd) dk Tya40 (wt ⟨heldE (i:=12) rfl rfl,?_⟩))⟩)))
               obtain ⟨⟨c,d,e,f,g⟩,dl,h⟩:=ob h
               obtain ⟨dS,dT,fn,ef,fo,eg,eh⟩:=((mc c9 ((aX.trans b8).trans bX))).row.at_ (idxO_at dl).1
               obtain ⟨cD,cG,cH,cI,rfl,ei,ej,ek⟩:=RDCase.open eh
               exact tk 8 (.pointer (some ⟨dS,dT + (C:Int).toNat * 5,none⟩)) (lb 14 7679) rfl (fun w=>idxG_r (b:=dS) (o:=dT) (i:=(C:Int)) Tye40 Tys87 rfl ef rfl (idxO_at dl).2.1 (idxO_at dl).2.2) (heldE (i:=12) rfl rfl) (aO 9 rfl (lD (vC c d e cD f cG cH g cI) Tya87 Tys87 rfl (fun j v hj=>dk.cell (kr.cell (eg j v hj))) (wt ⟨heldE (i:=12) rfl rfl,aO 13 rfl (sI 0 (.agg (vC c d e cD f cG cH g cI).toArray) ((vC c d e cD f cG cH g cI).toArray) dk Tys87 rfl rfl (fun a6 B=>(wt ⟨heldE (i:=13) rfl rfl,aD (thenN (⟨_,aY.drew.heap.size,l,m,p,q,t,u,s,x,y,bY.heap.size,c,d,e,f,cD,cG,g,cH,cI,fR,(B.sel [2,3,1,0] (by decide)),aZ,a2,a3,ei,ej,ek,h⟩))⟩)))⟩)))
            ·refine opL (i:=11) rfl (aC zC.toArray ba Tyz87 (fun bY a7=>(wt ⟨heldF (fwOf (is:=[1,2]) a7 kr rfl),anyAll (rs:=[6,10]) (by kernel_rfl) (by decide) (allC ?_ (allC ?_ allN))⟩)))
             ·refine opL (i:=6) rfl (l1 2 (sl bb ap bd) a7 Tya40 (wt ⟨heldF (fwOf (is:=[1,2]) a7 kr rfl),?_⟩))
              obtain ⟨⟨c,d,e,f,g⟩,de,h⟩:=ob h
              obtain ⟨dK,dL,fh,eb,fi,df,ec⟩:=((mc c9 ((aX.trans b8).trans bX))).row.at_ (idxO_at de).1
              obtain ⟨aR,aS,aT,aU,rfl,dg,dh,di⟩:=RDCase.open ec
              refine tk 8 (.pointer (some ⟨dK,dL + (C:Int).toNat * 5,none⟩)) (lb 14 2559) rfl (fun w=>idxG_r (b:=dK) (o:=dL) (i:=(C:Int)) Tye40 Tys87 rfl eb rfl (idxO_at de).2.1 (idxO_at de).2.2) (heldF (fwOf (is:=[1,2]) a7 kr rfl)) (anyAll (rs:=[9,10]) (by kernel_rfl) (by decide) (allC ?_ (allC ?_ allN)))
              ·exact opL (i:=9) rfl (lD (vC c d e aR f aS aT g aU) Tya87 Tys87 rfl (fun j v hj=>a7.cell (kr.cell (df j v hj))) (wt ⟨heldF (fwOf (is:=[1,2]) a7 kr rfl),aO 10 rfl (aC zC.toArray a7 Tyz87 (fun cC z=>(wt ⟨heldF (fwOf (is:=[2,3]) z kr rfl),aO 12 rfl (sI 0 (.agg (vC l m p t q u x s y).toArray) ((vC l m p t q u x s y).toArray) z Tys87 rfl rfl (fun bi A=>(wt ⟨heldE (i:=12) rfl rfl,aO 13 rfl (sI 1 (.agg (vC c d e aR f aS aT g aU).toArray) ((vC c d e aR f aS aT g aU).toArray) A Tys87 rfl rfl (fun a6 B=>(wt ⟨heldE (i:=13) rfl rfl,aD (thenN (⟨_,bY.heap.size,l,m,p,q,t,u,s,x,y,aY.drew.heap.size,c,d,e,f,aR,aS,g,aT,aU,fR,(B.sel [2,3,0,1] (by decide)),aZ,a2,a3,dg,dh,di,h⟩))⟩)))⟩)))⟩)))⟩))
              ·refine opL (i:=10) rfl (aC zC.toArray a7 Tyz87 (fun cC z=>(wt ⟨heldF (fwOf (is:=[2,3]) z kr rfl),anyAll (rs:=[9,12]) (by kernel_rfl) (by decide) (allC ?_ (allC ?_ allN))⟩)))
               ·exact opL (i:=9) rfl (lD (vC c d e aR f aS aT g aU) Tya87 Tys87 rfl (fun j v hj=>z.cell (kr.cell (df j v hj))) (wt ⟨heldF (fwOf (is:=[2,3]) z kr rfl),aO 12 rfl (sI 0 (.agg (vC l m p t q u x s y).toArray) ((vC l m p t q u x s y).toArray) z Tys87 rfl rfl (fun bi A=>(wt ⟨heldE (i:=12) rfl rfl,aO 13 rfl (sI 1 (.agg (vC c d e aR f aS aT g aU).toArray) ((vC c d e aR f aS aT g aU).toArray) A Tys87 rfl rfl (fun a6 B=>(wt ⟨heldE (i:=13) rfl rfl,aD (thenN (⟨_,bY.heap.size,l,m,p,q,t,u,s,x,y,aY.drew.heap.size,c,d,e,f,aR,aS,g,aT,aU,fR,(B.sel [2,3,0,1] (by decide)),aZ,a2,a3,dg,dh,di,h⟩))⟩)))⟩)))⟩))
               ·exact opL (i:=12) rfl (sI 0 (.agg (vC l m p t q u x s y).toArray) ((vC l m p t q u x s y).toArray) z Tys87 rfl rfl (fun bi A=>(wt ⟨heldE (i:=12) rfl rfl,aO 9 rfl (lD (vC c d e aR f aS aT g aU) Tya87 Tys87 rfl (fun j v hj=>A.cell (kr.cell (df j v hj))) (wt ⟨heldE (i:=12) rfl rfl,aO 13 rfl (sI 1 (.agg (vC c d e aR f aS aT g aU).toArray) ((vC c d e aR f aS aT g aU).toArray) A Tys87 rfl rfl (fun a6 B=>(wt ⟨heldE (i:=13) rfl rfl,aD (thenN (⟨_,bY.heap.size,l,m,p,q,t,u,s,x,y,aY.drew.heap.size,c,d,e,f,aR,aS,g,aT,aU,fR,(B.sel [2,3,0,1] (by decide)),aZ,a2,a3,dg,dh,di,h⟩))⟩)))⟩))⟩)))
             ·refine opL (i:=10) rfl (aC zC.toArray a7 Tyz87 (fun fj a8=>(wt ⟨heldF (fwOf (is:=[2,3]) a8 kr rfl),anyAll (rs:=[6,12]) (by kernel_rfl) (by decide) (allC ?_ (allC ?_ allN))⟩)))
              ·refine opL (i:=6) rfl (l1 3 (sl bb ap bd) a8 Tya40 (wt ⟨heldF (fwOf (is:=[2,3]) a8 kr rfl),?_⟩))
               obtain ⟨⟨c,d,e,f,g⟩,dj,h⟩:=ob h
               obtain ⟨dM,dN,fk,ed,fl,dO,ee⟩:=((mc c9 ((aX.trans b8).trans bX))).row.at_ (idxO_at dj).1
               obtain ⟨bj,bk,bm,bn,rfl,dP,dQ,dR⟩:=RDCase.open ee
               refine tk 8 (.pointer (some ⟨dM,dN + (C:Int).toNat * 5,none⟩)) (lb 14 3583) rfl (fun w=>idxG_r (b:=dM) (o:=dN) (i:=(C:Int)) Tye40 Tys87 rfl ed rfl (idxO_at dj).2.1 (idxO_at dj).2.2) (heldF (fwOf (is:=[2,3]) a8 kr rfl)) (anyAll (rs:=[9,12]) (by kernel_rfl) (by decide) (allC ?_ (allC ?_ allN)))
               ·exact opL (i:=9) rfl (lD (vC c d e bj f bk bm g bn) Tya87 Tys87 rfl (fun j v hj=>a8.cell (kr.cell (dO j v hj))) (wt ⟨heldF (fwOf (is:=[2,3]) a8 kr rfl),aO 12 rfl (sI 0 (.agg (vC l m p t q u x s y).toArray) ((vC l m p t q u x s y).toArray) a8 Tys87 rfl rfl (fun bi A=>(wt ⟨heldE (i:=12) rfl rfl,aO 13 rfl (sI 1 (.agg (vC c d e bj f bk bm g bn).toArray) ((vC c d e bj f bk bm g bn).toArray) A Tys87 rfl rfl (fun a6 B=>(wt ⟨heldE (i:=13) rfl rfl,aD (thenN (⟨_,bY.heap.size,l,m,p,q,t,u,s,x,y,aY.drew.heap.size,c,d,e,f,bj,bk,g,bm,bn,fR,(B.sel [2,3,0,1] (by decide)),aZ,a2,a3,dP,dQ,dR,h⟩))⟩)))⟩)))⟩))
               ·exact opL (i:=12) rfl (sI 0 (.agg (vC l m p t q u x s y).toArray) ((vC l m p t q u x s y).toArray) a8 Tys87 rfl rfl (fun bi A=>(wt ⟨heldE (i:=12) rfl rfl,aO 9 rfl (lD (vC c d e bj f bk bm g bn) Tya87 Tys87 rfl (fun j v hj=>A.cell (kr.cell (dO j v hj))) (wt ⟨heldE (i:=12) rfl rfl,aO 13 rfl (sI 1 (.agg (vC c d e bj f bk bm g bn).toArray) ((vC c d e bj f bk bm g bn).toArray) A Tys87 rfl rfl (fun a6 B=>(wt ⟨heldE (i:=13) rfl rfl,aD (thenN (⟨_,bY.heap.size,l,m,p,q,t,u,s,x,y,aY.drew.heap.size,c,d,e,f,bj,bk,g,bm,bn,fR,(B.sel [2,3,0,1] (by decide)),aZ,a2,a3,dP,dQ,dR,h⟩))⟩)))⟩))⟩)))
              ·refine opL (i:=12) rfl (sI 0 (.agg (vC l m p t q u x s y).toArray) ((vC l m p t q u x s y).toArray) a8 Tys87 rfl rfl (fun fm dk=>(wt ⟨heldE (i:=12) rfl rfl,aO 6 rfl (l1 3 (sl bb ap bd) dk Tya40 (wt ⟨heldE (i:=12) rfl rfl,?_⟩))⟩)))
               obtain ⟨⟨c,d,e,f,g⟩,dl,h⟩:=ob h
               obtain ⟨dS,dT,fn,ef,fo,eg,eh⟩:=((mc c9 ((aX.trans b8).trans bX))).row.at_ (idxO_at dl).1
               obtain ⟨cD,cG,cH,cI,rfl,ei,ej,ek⟩:=RDCase.open eh
               exact tk 8 (.pointer (some ⟨dS,dT + (C:Int).toNat * 5,none⟩)) (lb 14 7679) rfl (fun w=>idxG_r (b:=dS) (o:=dT) (i:=(C:Int)) Tye40 Tys87 rfl ef rfl (idxO_at dl).2.1 (idxO_at dl).2.2) (heldE (i:=12) rfl rfl) (aO 9 rfl (lD (vC c d e cD f cG cH g cI) Tya87 Tys87 rfl (fun j v hj=>dk.cell (kr.cell (eg j v hj))) (wt ⟨heldE (i:=12) rfl rfl,aO 13 rfl (sI 1 (.agg (vC c d e cD f cG cH g cI).toArray) ((vC c d e cD f cG cH g cI).toArray) dk Tys87 rfl rfl (fun a6 B=>(wt ⟨heldE (i:=13) rfl rfl,aD (thenN (⟨_,bY.heap.size,l,m,p,q,t,u,s,x,y,aY.drew.heap.size,c,d,e,f,cD,cG,g,cH,cI,fR,(B.sel [2,3,0,1] (by decide)),aZ,a2,a3,ei,ej,ek,h⟩))⟩)))⟩)))
           ·rintro _ fW ⟨eH,d8,dq,cZ,db,dr,dC,dD,ds,dE,dF,d9,dt,c2,dc,du,dG,dH,dv,dI,dJ,rfl,bZ,fX,fp,fq,fY,fs,ft,h⟩
            unfold f21_j4 at h
            refine wp_cut (fun a w=>∃ (eM:Nat→Value) (dU:KH) (el:Bool),a=fr 161 (updL eM [(0,sl b2 a4 b3),(1,sl cy a5 cz),(5,iI (ao:Int)),(6,pp bo 0),(7,pp bp 0),(8,iI (C:Int)),(160,.bool el)])∧KH.sub a9 dU∧SR K dU wi w [] [.box wi.heap.size bo (vS b4 bx bF bz bG bH b9 b5 cb cc bI ce cf bJ ch ci bK cj bA aF bB).toArray 42,.box wi.heap.size bp (vS b6 bC bL bD bM bN ck b7 cl cm bO cn co bP cq cr bQ ct bb ap bd).toArray 42]∧f21_j5 k F C el (f21_l2 k F ao ap (f21_l1 k F a5 bE) cB)=some r_) ?_ ?_
            ·refine wp_region_lit (fd 0 Tyf87_0 rfl (l1 2 (iI dq) bZ Tya3 (fd 0 Tyf87_0 rfl (l1 3 (iI dt) bZ Tya3 (c0 (dq != dt) (m1 (.bool (dq != dt)) (cd h (fun b0 h=>?_) (fun b0 h=>?_))))))))
             ·exact o1 131 b0 (o1 131 b0 (o1 131 b0 (o1 131 b0 (o1 131 b0 (m3 true vT (cg b0) (m1 vT (o0 138 (o0 138 (o0 138 (o0 138 (o0 138 (m3 true vT rfl (m1 vT (o0 145 (o0 145 (o0 145 (o0 145 (o0 145 (o0 145 (m3 true vT rfl (m1 vT (o0 153 (o0 153 (o0 153 (o0 153 (o0 153 (o0 153 (m3 true vT rfl (wt (⟨_,a9,true,fR,kr,(bZ.sel [0,1] (by decide)),h⟩))))))))))))))))))))))))))))))
             ·refine n1 131 b0 (fd 1 Tyf87_1 rfl (n1 131 b0 (l1 2 (.string cZ) bZ Tya9 (n1 131 b0 (fd 1 Tyf87_1 rfl (n1 131 b0 (l1 3 (.string c2) bZ Tya9 (n1 131 b0 (bsc (r:=(!seq cZ c2)) rfl rfl rfl (m3 false (.bool (!seq cZ c2)) (cg b0) (m1 (.bool (!seq cZ c2)) (cd h (fun b1 h=>?_) (fun b1 h=>?_)))))))))))))
              ·exact o1 138 b1 (o1 138 b1 (o1 138 b1 (o1 138 b1 (o1 138 b1 (m3 true vT (cg b1) (m1 vT (o0 145 (o0 145 (o0 145 (o0 145 (o0 145 (o0 145 (m3 true vT rfl (m1 vT (o0 153 (o0 153 (o0 153 (o0 153 (o0 153 (o0 153 (m3 true vT rfl (wt (⟨_,a9,true,fR,kr,(bZ.sel [0,1] (by decide)),h⟩)))))))))))))))))))))))
              ·refine n1 138 b1 (fd 2 Tyf87_2 rfl (n1 138 b1 (l1 2 (iI db) bZ Tya3 (n1 138 b1 (fd 2 Tyf87_2 rfl (n1 138 b1 (l1 3 (iI dc) bZ Tya3 (n1 138 b1 (c0 (db != dc) (m3 false (.bool (db != dc)) (cg b1) (m1 (.bool (db != dc)) (cd h (fun bv h=>?_) (fun bv h=>?_)))))))))))))
               ·exact o1 145 bv (o1 145 bv (o1 145 bv (o1 145 bv (o1 145 bv (o1 145 bv (m3 true vT (cg bv) (m1 vT (o0 153 (o0 153 (o0 153 (o0 153 (o0 153 (o0 153 (m3 true vT rfl (wt (⟨_,a9,true,fR,kr,(bZ.sel [0,1] (by decide)),h⟩))))))))))))))))
               ·refine n1 145 bv (fd 3 Tyf87_3 rfl (n1 145 bv (l1 2 (sl dC dr dD) bZ Tya39 (n1 145 bv (fd 3 Tyf87_3 rfl (n1 145 bv (l1 3 (sl dG du dH) bZ Tya39 (n1 145 bv ?_))))))))
                obtain ⟨em,fu,h⟩:=ob h
                refine cv ([sl dC dr dD,sl dG du dH]) Tyb48 ((f48_ok k) _ _ _ _ _ _ _ _ _ fu (hG.mono (((cA.trans aX).trans b8).trans bX)) fp fs (pt bZ)) ?_
                rintro _ fZ ⟨fv,rfl,dw⟩
                have dV:=ca dw bZ
                refine n1 145 bv (uN em (m3 false (.bool (!em)) (cg bv) (m1 (.bool (!em)) (cd h (fun bw h=>?_) (fun bw h=>?_)))))
                ·exact o1 153 bw (o1 153 bw (o1 153 bw (o1 153 bw (o1 153 bw (o1 153 bw (m3 true vT (cg bw) (wt (⟨_,fv,true,fR,dw.sub,(dV.sel [0,1] (by decide)),h⟩))))))))
                ·refine n1 153 bw (fd 4 Tyf87_4 rfl (n1 153 bw (l1 2 (sl dE ds dF) dV Tya36 (n1 153 bw (fd 4 Tyf87_4 rfl (n1 153 bw (l1 3 (sl dI dv dJ) dV Tya36 (n1 153 bw ?_))))))))
                 obtain ⟨en,fx,h⟩:=ob h
                 refine cv ([sl dE ds dF,sl dI dv dJ]) Tyb21 (IH21 _ _ _ _ _ _ _ _ _ fx (hG.mono ((((cA.trans aX).trans b8).trans bX).trans dw.sub)) (ms fq dw.sub) (ms ft dw.sub) (pt dV)) ?_
                 rintro _ f0 ⟨fy,rfl,eN⟩
                 have fz:=ca eN dV
                 exact n1 153 bw (uN en (m3 false (.bool (!en)) (cg bw) (wt (⟨_,fy,(!en),fR,(dw.sub.trans eN.sub),(fz.sel [0,1] (by decide)),h⟩))))
            ·rintro _ f1 ⟨eM,dU,el,rfl,fA,eO,h⟩
             unfold f21_j5 at h
             refine cd h (fun eo h=>?_) (fun eo h=>?_)
             ·refine cT eo (sr (m2 vN (wt (wp_ret (blkR (thenR (thenR (blkR (blkR (thenR (thenR (blkR (thenR ?_)))))))))))))
              cases (oi h).trans hr_
              exact retA1 rfl (resT rfl) ⟨dU,rfl,(eO.sel [] (by decide))⟩
             ·exact cF eo (wp_skip (blkN (thenN (wp_region_lit (m1 (iI (C:Int)) (bar (r:=((C + 1:Nat):Int)) rfl rfl (inc_ok (le_big (((mc ez ((aX.trans b8).trans bX))).len) (by decide) (drop_cons_lt dp))) (m2 (iI ((C + 1:Nat):Int)) (wt (⟨_,Nat.lt_succ_self _,_,dU,cB,C + 1,rfl,fR,(bX.trans fA),eO,drop_cons_next dp,h⟩)))))))))
theorem fam21_ok (k0:Nat) : ∀ k,f21_spec (fam21 k0 k).f21:=by
 intro k
 induction k with
 | zero=>exact (by unfold f21_spec; intro _ _ _ _ _ _ _ _ _ h_; cases h_)
 | succ k ih=>exact f21_b_ok k0 (fam21 k0 k) ih
theorem f21_ok (k:Nat):f21_spec (f21 k):=(fam21_ok k k)
theorem f17_b_ok (k:Nat):f17_spec (f17_b k):=by
 unfold f17_spec
 intro K wi cr c3 ct c5 c6 h hG cu cw cx
 obtain ⟨r_,hr_,h⟩:=rz h
 obtain ⟨af⟩:=cr
 obtain ⟨aG,c1,rfl,b7⟩:=RDProgram.open cu
 obtain ⟨Y⟩:=ct
 obtain ⟨aw,ax,rfl,bi⟩:=RDProgram.open cw
 refine enter Tryz.func17 rfl (n:=94) rfl ?_
 unfold f17_b at h
 refine sr (bxoC (cs:=#[sl aG af c1]) cx rfl rfl (fun aH cy=>(bxoC (cs:=#[sl aw Y ax]) cy rfl rfl (fun c7 bI=>(m2 vN (wt (wp_seq (sr (fd 0 Tyf24_0 rfl (l1 1 (sl aG af c1) bI Tya22 (lS af.length Tye22 (fd 0 Tyf24_0 rfl (l1 0 (sl aw Y ax) bI Tya22 (lS Y.length Tye22 (c0 ((af.length:Int) != (Y.length:Int)) (wt (cd h (fun bQ h=>?_) (fun bQ h=>?_))))))))))))))))))
 ·refine cT bQ (sr (m2 vN (wt (wp_ret (thenR ?_)))))
  cases (oi h).trans hr_
  exact retA1 rfl (resT rfl) ⟨K,rfl,(bI.sel [] (by decide))⟩
 ·refine cF bQ (wp_skip (thenN (wp_seq (sr (m2 (iI 0) (wt (wp_block (wp_loopG (fun g_ a w=>∃ (b8:Nat→Value) (Z:KH) (aM:LF) (G:Nat),g_=aM.length∧a=fr 94 (updL b8 [(2,pp wi.heap.size 0),(3,pp aH.heap.size 0),(5,iI (G:Int))])∧KH.sub K Z∧SR K Z wi w [] [.box wi.heap.size wi.heap.size #[sl aG af c1] 24,.box wi.heap.size aH.heap.size #[sl aw Y ax] 24]∧af.drop G=aM∧f17_l1 k Y aM G=some r_) af.length ?_ ?_))))))))
  ·exact ⟨_,K,af,0,rfl,fR,kr,(bI.sel [1,0] (by decide)),List.drop_zero,h⟩
  ·rintro _ _ ab ⟨b8,Z,aM,G,rfl,rfl,aI,bJ,bv,h⟩
   rcases aM with _ | ⟨⟨m,p,q,s,t,u⟩,aM⟩
   ·unfold f17_l1 at h
    refine wp_seq (sr (m1 (iI (G:Int)) (fd 0 Tyf24_0 rfl (l1 0 (sl aG af c1) bJ Tya22 (lS af.length Tye22 (bcm (r:=false) rfl rfl (congrArg some (drop_nil_lt bv)) (wt (cndF rfl (wp_exit (thenX (thenX (blkX (thenN (sr (m2 vT (wt (wp_ret ?_)))))))))))))))))
    cases (oi h).trans hr_
    exact retA1 rfl (resT rfl) ⟨Z,rfl,(bJ.sel [] (by decide))⟩
   ·unfold f17_l1 at h
    refine wp_seq (sr (m1 (iI (G:Int)) (fd 0 Tyf24_0 rfl (l1 0 (sl aG af c1) bJ Tya22 (lS af.length Tye22 (bcm (r:=true) rfl rfl (congrArg some (drop_cons_t bv)) (wt (cndT rfl (wp_skip (thenN (wp_seq (wp_block (wp_cut (fun a w=>∃ (b9:Nat→Value) (aW:Nat) (aN:BA) (X:LP) (aJ:OA) (aK:Nat) (aP:Int) (aQ:Bool) (aR:Int) (aX:LS) (a9:OA) (ba:Nat) (aY:Nat) (aS:BA) (av:LP) (aZ:OA) (a2:Nat) (aT:Int) (aU:Bool) (aV:Int) (a3:LS) (bb:OA) (bd:Nat),a=fr 94 (updL b9 [(2,pp wi.heap.size 0),(3,pp aH.heap.size 0),(5,iI (G:Int)),(6,pp aW 0),(7,pp aY 0)])∧SR K Z wi w [] [.box wi.heap.size wi.heap.size #[sl aG af c1] 24,.box wi.heap.size aH.heap.size #[sl aw Y ax] 24,.box wi.heap.size aW (vF aN aJ X aK aP aQ aR a9 aX ba).toArray 38,.box wi.heap.size aY (vF aS aZ av a2 aT aU aV bb a3 bd).toArray 38]∧aN.size ≤ 140737488355328∧RSl DParam (RDParam Z) 2 24 Z aJ aK X∧RSl DStmt (RDStmt Z) 11 184 Z a9 ba aX∧aS.size ≤ 140737488355328∧RSl DParam (RDParam Z) 2 24 Z aZ a2 av∧RSl DStmt (RDStmt Z) 11 184 Z bb bd a3∧f17_j1 k G aN X aP aQ aR aX aS av aT aU aV a3 (f17_l1 k Y aM)=some r_) ?_ ?_)))))))))))))
    ·have ak:=bJ.drew
     refine regAny (E:=[12,13]) (F:=FW Z [.box wi.heap.size wi.heap.size #[sl aG af c1] 24,.box wi.heap.size aH.heap.size #[sl aw Y ax] 24]) (L:=(lb 14 0)) ymx rfl rfl (tk 0 (pp wi.heap.size 0) (lb 14 1) rfl (fun w=>fld_r (o':=0) Tyf24_0 rfl rfl) (heldF (fwOf (is:=[0,1]) ak kr rfl)) (tf 1 (sl aG af c1) ([[12,1],[13,1]]) (lb 14 3) rfl (fwOf (is:=[0,1]) ak kr rfl) (fun w hF=>lb1_r (i:=0) (v:=sl aG af c1) hF rfl Tya22 rfl rfl) (tk 2 (iI (G:Int)) (lb 14 7) rfl (fun w=>mv_r (v:=iI (G:Int)) rfl) (heldF (fwOf (is:=[0,1]) ak kr rfl)) ?_)))
     obtain ⟨cb,cc,c8,cz,c9,cA,cB⟩:=((mf b7 aI)).row.at_ (drop_cons_at bv)
     obtain ⟨x,y,z,A,rfl,ac,ad,ae⟩:=RDFunc.open cB
     refine tk 3 (pp cb (cc + G * 6)) (lb 14 15) rfl (fun w=>idxN_r (b:=cb) (o:=cc) (i:=G) Tye22 Tys38 rfl cz rfl (drop_cons_lt bv)) (heldF (fwOf (is:=[0,1]) ak kr rfl)) (tf 4 (.agg (vF m x p y q s t z u A).toArray) ([[12,4],[13,4]]) (lb 14 31) rfl (fwOf (is:=[0,1]) ak kr rfl) (fun w hF=>ldN_r (cs:=(vF m x p y q s t z u A)) Tya38 Tys38 rfl rfl (fun j v hj=>hF.cell (kr.cell (cA j v hj)))) (tk 5 (pp aH.heap.size 0) (lb 14 63) rfl (fun w=>fld_r (o':=0) Tyf24_0 rfl rfl) (heldF (fwOf (is:=[0,1]) ak kr rfl)) (tk 7 (iI (G:Int)) (lb 14 191) rfl (fun w=>mv_r (v:=iI (G:Int)) rfl) (heldF (fwOf (is:=[0,1]) ak kr rfl)) (anyAll (rs:=[6,10,11]) (by kernel_rfl) (by decide) (allC ?_ (allC ?_ (allC ?_ allN)))))))
     ·refine opL (i:=6) rfl (l1 1 (sl aw Y ax) ak Tya22 (wt ⟨heldF (fwOf (is:=[0,1]) ak kr rfl),?_⟩))
      obtain ⟨⟨c,d,e,f,g,l⟩,bR,h⟩:=ob h
      obtain ⟨ce,cf,da,cC,db,bj,cD⟩:=((mf bi aI)).row.at_ (idxO_at bR).1
      obtain ⟨I,J,N,O,rfl,be,bf,bg⟩:=RDFunc.open cD
      refine tk 8 (.pointer (some ⟨ce,cf + (G:Int).toNat * 6,none⟩)) (lb 14 511) rfl (fun w=>idxG_r (b:=ce) (o:=cf) (i:=(G:Int)) Tye22 Tys38 rfl cC rfl (idxO_at bR).2.1 (idxO_at bR).2.2) (heldF (fwOf (is:=[0,1]) ak kr rfl)) (anyAll (rs:=[9,10,11]) (by kernel_rfl) (by decide) (allC ?_ (allC ?_ (allC ?_ allN))))
      ·refine opL (i:=9) rfl (lD (vF c I d J e f g N l O) Tya38 Tys38 rfl (fun j v hj=>ak.cell (kr.cell (bj j v hj))) (wt ⟨heldF (fwOf (is:=[0,1]) ak kr rfl),anyAll (rs:=[10,11]) (by kernel_rfl) (by decide) (allC ?_ (allC ?_ allN))⟩))
       ·exact opL (i:=10) rfl (aC zF.toArray ak Tyz38 (fun aL am=>(wt ⟨heldF (fwOf (is:=[1,2]) am kr rfl),aO 11 rfl (aC zF.toArray am Tyz38 (fun a4 B=>(wt ⟨heldF (fwOf (is:=[2,3]) B kr rfl),aO 12 rfl (sI 1 (.agg (vF m x p y q s t z u A).toArray) ((vF m x p y q s t z u A).toArray) B Tys38 rfl rfl (fun an C=>(wt ⟨heldE (i:=12) rfl rfl,aO 13 rfl (sI 0 (.agg (vF c I d J e f g N l O).toArray) ((vF c I d J e f g N l O).toArray) C Tys38 rfl rfl (fun ag D=>(wt ⟨heldE (i:=13) rfl rfl,aD (thenN (⟨_,ab.drew.heap.size,m,p,x,y,q,s,t,u,z,A,aL.heap.size,c,d,I,J,e,f,g,l,N,O,fR,(D.sel [2,3,1,0] (by decide)),ac,ad,ae,be,bf,bg,h⟩))⟩)))⟩)))⟩)))⟩)))
       ·exact opL (i:=11) rfl (aC zF.toArray ak Tyz38 (fun aL am=>(wt ⟨heldF (fwOf (is:=[1,2]) am kr rfl),aO 10 rfl (aC zF.toArray am Tyz38 (fun a4 B=>(wt ⟨heldF (fwOf (is:=[2,3]) B kr rfl),aO 12 rfl (sI 0 (.agg (vF m x p y q s t z u A).toArray) ((vF m x p y q s t z u A).toArray) B Tys38 rfl rfl (fun an C=>(wt ⟨heldE (i:=12) rfl rfl,aO 13 rfl (sI 1 (.agg (vF c I d J e f g N l O).toArray) ((vF c I d J e f g N l O).toArray) C Tys38 rfl rfl (fun ag D=>(wt ⟨heldE (i:=13) rfl rfl,aD (thenN (⟨_,aL.heap.size,m,p,x,y,q,s,t,u,z,A,ab.drew.heap.size,c,d,I,J,e,f,g,l,N,O,fR,(D.sel [2,3,0,1] (by decide)),ac,ad,ae,be,bf,bg,h⟩))⟩)))⟩)))⟩)))⟩)))
      ·refine opL (i:=10) rfl (aC zF.toArray ak Tyz38 (fun aL am=>(wt ⟨heldF (fwOf (is:=[1,2]) am kr rfl),anyAll (rs:=[9,11]) (by kernel_rfl) (by decide) (allC ?_ (allC ?_ allN))⟩)))
       ·exact opL (i:=9) rfl (lD (vF c I d J e f g N l O) Tya38 Tys38 rfl (fun j v hj=>am.cell (kr.cell (bj j v hj))) (wt ⟨heldF (fwOf (is:=[1,2]) am kr rfl),aO 11 rfl (aC zF.toArray am Tyz38 (fun a4 B=>(wt ⟨heldF (fwOf (is:=[2,3]) B kr rfl),aO 12 rfl (sI 1 (.agg (vF m x p y q s t z u A).toArray) ((vF m x p y q s t z u A).toArray) B Tys38 rfl rfl (fun an C=>(wt ⟨heldE (i:=12) rfl rfl,aO 13 rfl (sI 0 (.agg (vF c I d J e f g N l O).toArray) ((vF c I d J e f g N l O).toArray) C Tys38 rfl rfl (fun ag D=>(wt ⟨heldE (i:=13) rfl rfl,aD (thenN (⟨_,ab.drew.heap.size,m,p,x,y,q,s,t,u,z,A,aL.heap.size,c,d,I,J,e,f,g,l,N,O,fR,(D.sel [2,3,1,0] (by decide)),ac,ad,ae,be,bf,bg,h⟩))⟩)))⟩)))⟩)))⟩))
       ·refine opL (i:=11) rfl (aC zF.toArray am Tyz38 (fun a4 B=>(wt ⟨heldF (fwOf (is:=[2,3]) B kr rfl),anyAll (rs:=[9,12]) (by kernel_rfl) (by decide) (allC ?_ (allC ?_ allN))⟩)))
        ·exact opL (i:=9) rfl (lD (vF c I d J e f g N l O) Tya38 Tys38 rfl (fun j v hj=>B.cell (kr.cell (bj j v hj))) (wt ⟨heldF (fwOf (is:=[2,3]) B kr rfl),aO 12 rfl (sI 1 (.agg (vF m x p y q s t z u A).toArray) ((vF m x p y q s t z u A).toArray) B Tys38 rfl rfl (fun an C=>(wt ⟨heldE (i:=12) rfl rfl,aO 13 rfl (sI 0 (.agg (vF c I d J e f g N l O).toArray) ((vF c I d J e f g N l O).toArray) C Tys38 rfl rfl (fun ag D=>(wt ⟨heldE (i:=13) rfl rfl,aD (thenN (⟨_,ab.drew.heap.size,m,p,x,y,q,s,t,u,z,A,aL.heap.size,c,d,I,J,e,f,g,l,N,O,fR,(D.sel [2,3,1,0] (by decide)),ac,ad,ae,be,bf,bg,h⟩))⟩)))⟩)))⟩))
        ·exact opL (i:=12) rfl (sI 1 (.agg (vF m x p y q s t z u A).toArray) ((vF m x p y q s t z u A).toArray) B Tys38 rfl rfl (fun an C=>(wt ⟨heldE (i:=12) rfl rfl,aO 9 rfl (lD (vF c I d J e f g N l O) Tya38 Tys38 rfl (fun j v hj=>C.cell (kr.cell (bj j v hj))) (wt ⟨heldE (i:=12) rfl rfl,aO 13 rfl (sI 0 (.agg (vF c I d J e f g N l O).toArray) ((vF c I d J e f g N l O).toArray) C Tys38 rfl rfl (fun ag D=>(wt ⟨heldE (i:=13) rfl rfl,aD (thenN (⟨_,ab.drew.heap.size,m,p,x,y,q,s,t,u,z,A,aL.heap.size,c,d,I,J,e,f,g,l,N,O,fR,(D.sel [2,3,1,0] (by decide)),ac,ad,ae,be,bf,bg,h⟩))⟩)))⟩))⟩)))
      ·refine opL (i:=11) rfl (aC zF.toArray ak Tyz38 (fun aL am=>(wt ⟨heldF (fwOf (is:=[1,2]) am kr rfl),anyAll (rs:=[9,10]) (by kernel_rfl) (by decide) (allC ?_ (allC ?_ allN))⟩)))
       ·exact opL (i:=9) rfl (lD (vF c I d J e f g N l O) Tya38 Tys38 rfl (fun j v hj=>am.cell (kr.cell (bj j v hj))) (wt ⟨heldF (fwOf (is:=[1,2]) am kr rfl),aO 10 rfl (aC zF.toArray am Tyz38 (fun a4 B=>(wt ⟨heldF (fwOf (is:=[2,3]) B kr rfl),aO 12 rfl (sI 0 (.agg (vF m x p y q s t z u A).toArray) ((vF m x p y q s t z u A).toArray) B Tys38 rfl rfl (fun an C=>(wt ⟨heldE (i:=12) rfl rfl,aO 13 rfl (sI 1 (.agg (vF c I d J e f g N l O).toArray) ((vF c I d J e f g N l O).toArray) C Tys38 rfl rfl (fun ag D=>(wt ⟨heldE (i:=13) rfl rfl,aD (thenN (⟨_,aL.heap.size,m,p,x,y,q,s,t,u,z,A,ab.drew.heap.size,c,d,I,J,e,f,g,l,N,O,fR,(D.sel [2,3,0,1] (by decide)),ac,ad,ae,be,bf,bg,h⟩))⟩)))⟩)))⟩)))⟩))
       ·refine opL (i:=10) rfl (aC zF.toArray am Tyz38 (fun a4 B=>(wt ⟨heldF (fwOf (is:=[2,3]) B kr rfl),anyAll (rs:=[9,12]) (by kernel_rfl) (by decide) (allC ?_ (allC ?_ allN))⟩)))
        ·exact opL (i:=9) rfl (lD (vF c I d J e f g N l O) Tya38 Tys38 rfl (fun j v hj=>B.cell (kr.cell (bj j v hj))) (wt ⟨heldF (fwOf (is:=[2,3]) B kr rfl),aO 12 rfl (sI 0 (.agg (vF m x p y q s t z u A).toArray) ((vF m x p y q s t z u A).toArray) B Tys38 rfl rfl (fun an C=>(wt ⟨heldE (i:=12) rfl rfl,aO 13 rfl (sI 1 (.agg (vF c I d J e f g N l O).toArray) ((vF c I d J e f g N l O).toArray) C Tys38 rfl rfl (fun ag D=>(wt ⟨heldE (i:=13) rfl rfl,aD (thenN (⟨_,aL.heap.size,m,p,x,y,q,s,t,u,z,A,ab.drew.heap.size,c,d,I,J,e,f,g,l,N,O,fR,(D.sel [2,3,0,1] (by decide)),ac,ad,ae,be,bf,bg,h⟩))⟩)))⟩)))⟩))
        ·exact opL (i:=12) rfl (sI 0 (.agg (vF m x p y q s t z u A).toArray) ((vF m x p y q s t z u A).toArray) B Tys38 rfl rfl (fun an C=>(wt ⟨heldE (i:=12) rfl rfl,aO 9 rfl (lD (vF c I d J e f g N l O) Tya38 Tys38 rfl (fun j v hj=>C.cell (kr.cell (bj j v hj))) (wt ⟨heldE (i:=12) rfl rfl,aO 13 rfl (sI 1 (.agg (vF c I d J e f g N l O).toArray) ((vF c I d J e f g N l O).toArray) C Tys38 rfl rfl (fun ag D=>(wt ⟨heldE (i:=13) rfl rfl,aD (thenN (⟨_,aL.heap.size,m,p,x,y,q,s,t,u,z,A,ab.drew.heap.size,c,d,I,J,e,f,g,l,N,O,fR,(D.sel [2,3,0,1] (by decide)),ac,ad,ae,be,bf,bg,h⟩))⟩)))⟩))⟩)))
     ·refine opL (i:=10) rfl (aC zF.toArray ak Tyz38 (fun az ah=>(wt ⟨heldF (fwOf (is:=[1,2]) ah kr rfl),anyAll (rs:=[6,11]) (by kernel_rfl) (by decide) (allC ?_ (allC ?_ allN))⟩)))
      ·refine opL (i:=6) rfl (l1 2 (sl aw Y ax) ah Tya22 (wt ⟨heldF (fwOf (is:=[1,2]) ah kr rfl),?_⟩))
       obtain ⟨⟨c,d,e,f,g,l⟩,bk,h⟩:=ob h
       obtain ⟨bx,bz,cG,bS,cH,bm,bT⟩:=((mf bi aI)).row.at_ (idxO_at bk).1
       obtain ⟨S,U,V,W,rfl,bn,bo,bp⟩:=RDFunc.open bT
       refine tk 8 (.pointer (some ⟨bx,bz + (G:Int).toNat * 6,none⟩)) (lb 14 1535) rfl (fun w=>idxG_r (b:=bx) (o:=bz) (i:=(G:Int)) Tye22 Tys38 rfl bS rfl (idxO_at bk).2.1 (idxO_at bk).2.2) (heldF (fwOf (is:=[1,2]) ah kr rfl)) (anyAll (rs:=[9,11]) (by kernel_rfl) (by decide) (allC ?_ (allC ?_ allN)))
       ·exact opL (i:=9) rfl (lD (vF c S d U e f g V l W) Tya38 Tys38 rfl (fun j v hj=>ah.cell (kr.cell (bm j v hj))) (wt ⟨heldF (fwOf (is:=[1,2]) ah kr rfl),aO 11 rfl (aC zF.toArray ah Tyz38 (fun a4 B=>(wt ⟨heldF (fwOf (is:=[2,3]) B kr rfl),aO 12 rfl (sI 1 (.agg (vF m x p y q s t z u A).toArray) ((vF m x p y q s t z u A).toArray) B Tys38 rfl rfl (fun an C=>(wt ⟨heldE (i:=12) rfl rfl,aO 13 rfl (sI 0 (.agg (vF c S d U e f g V l W).toArray) ((vF c S d U e f g V l W).toArray) C Tys38 rfl rfl (fun ag D=>(wt ⟨heldE (i:=13) rfl rfl,aD (thenN (⟨_,ab.drew.heap.size,m,p,x,y,q,s,t,u,z,A,az.heap.size,c,d,S,U,e,f,g,l,V,W,fR,(D.sel [2,3,1,0] (by decide)),ac,ad,ae,bn,bo,bp,h⟩))⟩)))⟩)))⟩)))⟩))
       ·refine opL (i:=11) rfl (aC zF.toArray ah Tyz38 (fun a4 B=>(wt ⟨heldF (fwOf (is:=[2,3]) B kr rfl),anyAll (rs:=[9,12]) (by kernel_rfl) (by decide) (allC ?_ (allC ?_ allN))⟩)))
        ·exact opL (i:=9) rfl (lD (vF c S d U e f g V l W) Tya38 Tys38 rfl (fun j v hj=>B.cell (kr.cell (bm j v hj))) (wt ⟨heldF (fwOf (is:=[2,3]) B kr rfl),aO 12 rfl (sI 1 (.agg (vF m x p y q s t z u A).toArray) ((vF m x p y q s t z u A).toArray) B Tys38 rfl rfl (fun an C=>(wt ⟨heldE (i:=12) rfl rfl,aO 13 rfl (sI 0 (.agg (vF c S d U e f g V l W).toArray) ((vF c S d U e f g V l W).toArray) C Tys38 rfl rfl (fun ag D=>(wt ⟨heldE (i:=13) rfl rfl,aD (thenN (⟨_,ab.drew.heap.size,m,p,x,y,q,s,t,u,z,A,az.heap.size,c,d,S,U,e,f,g,l,V,W,fR,(D.sel [2,3,1,0] (by decide)),ac,ad,ae,bn,bo,bp,h⟩))⟩)))⟩)))⟩))
        ·exact opL (i:=12) rfl (sI 1 (.agg (vF m x p y q s t z u A).toArray) ((vF m x p y q s t z u A).toArray) B Tys38 rfl rfl (fun an C=>(wt ⟨heldE (i:=12) rfl rfl,aO 9 rfl (lD (vF c S d U e f g V l W) Tya38 Tys38 rfl (fun j v hj=>C.cell (kr.cell (bm j v hj))) (wt ⟨heldE (i:=12) rfl rfl,aO 13 rfl (sI 0 (.agg (vF c S d U e f g V l W).toArray) ((vF c S d U e f g V l W).toArray) C Tys38 rfl rfl (fun ag D=>(wt ⟨heldE (i:=13) rfl rfl,aD (thenN (⟨_,ab.drew.heap.size,m,p,x,y,q,s,t,u,z,A,az.heap.size,c,d,S,U,e,f,g,l,V,W,fR,(D.sel [2,3,1,0] (by decide)),ac,ad,ae,bn,bo,bp,h⟩))⟩)))⟩))⟩)))
      ·refine opL (i:=11) rfl (aC zF.toArray ah Tyz38 (fun cI ai=>(wt ⟨heldF (fwOf (is:=[2,3]) ai kr rfl),anyAll (rs:=[6,12]) (by kernel_rfl) (by decide) (allC ?_ (allC ?_ allN))⟩)))
       ·refine opL (i:=6) rfl (l1 3 (sl aw Y ax) ai Tya22 (wt ⟨heldF (fwOf (is:=[2,3]) ai kr rfl),?_⟩))
        obtain ⟨⟨c,d,e,f,g,l⟩,bq,h⟩:=ob h
        obtain ⟨bA,bB,cJ,bU,cK,bC,bV⟩:=((mf bi aI)).row.at_ (idxO_at bq).1
        obtain ⟨ao,ap,aq,ar,rfl,bD,bE,bF⟩:=RDFunc.open bV
        refine tk 8 (.pointer (some ⟨bA,bB + (G:Int).toNat * 6,none⟩)) (lb 14 3583) rfl (fun w=>idxG_r (b:=bA) (o:=bB) (i:=(G:Int)) Tye22 Tys38 rfl bU rfl (idxO_at bq).2.1 (idxO_at bq).2.2) (heldF (fwOf (is:=[2,3]) ai kr rfl)) (anyAll (rs:=[9,12]) (by kernel_rfl) (by decide) (allC ?_ (allC ?_ allN)))
        ·exact opL (i:=9) rfl (lD (vF c ao d ap e f g aq l ar) Tya38 Tys38 rfl (fun j v hj=>ai.cell (kr.cell (bC j v hj))) (wt ⟨heldF (fwOf (is:=[2,3]) ai kr rfl),aO 12 rfl (sI 1 (.agg (vF m x p y q s t z u A).toArray) ((vF m x p y q s t z u A).toArray) ai Tys38 rfl rfl (fun an C=>(wt ⟨heldE (i:=12) rfl rfl,aO 13 rfl (sI 0 (.agg (vF c ao d ap e f g aq l ar).toArray) ((vF c ao d ap e f g aq l ar).toArray) C Tys38 rfl rfl (fun ag D=>(wt ⟨heldE (i:=13) rfl rfl,aD (thenN (⟨_,ab.drew.heap.size,m,p,x,y,q,s,t,u,z,A,az.heap.size,c,d,ao,ap,e,f,g,l,aq,ar,fR,(D.sel [2,3,1,0] (by decide)),ac,ad,ae,bD,bE,bF,h⟩))⟩)))⟩)))⟩))
        ·exact opL (i:=12) rfl (sI 1 (.agg (vF m x p y q s t z u A).toArray) ((vF m x p y q s t z u A).toArray) ai Tys38 rfl rfl (fun an C=>(wt ⟨heldE (i:=12) rfl rfl,aO 9 rfl (lD (vF c ao d ap e f g aq l ar) Tya38 Tys38 rfl (fun j v hj=>C.cell (kr.cell (bC j v hj))) (wt ⟨heldE (i:=12) rfl rfl,aO 13 rfl (sI 0 (.agg (vF c ao d ap e f g aq l ar).toArray) ((vF c ao d ap e f g aq l ar).toArray) C Tys38 rfl rfl (fun ag D=>(wt ⟨heldE (i:=13) rfl rfl,aD (thenN (⟨_,ab.drew.heap.size,m,p,x,y,q,s,t,u,z,A,az.heap.size,c,d,ao,ap,e,f,g,l,aq,ar,fR,(D.sel [2,3,1,0] (by decide)),ac,ad,ae,bD,bE,bF,h⟩))⟩)))⟩))⟩)))
       ·refine opL (i:=12) rfl (sI 1 (.agg (vF m x p y q s t z u A).toArray) ((vF m x p y q s t z u A).toArray) ai Tys38 rfl rfl (fun cL br=>(wt ⟨heldE (i:=12) rfl rfl,aO 6 rfl (l1 3 (sl aw Y ax) br Tya22 (wt ⟨heldE (i:=12) rfl rfl,?_⟩))⟩)))
        obtain ⟨⟨c,d,e,f,g,l⟩,bs,h⟩:=ob h
        obtain ⟨bG,bH,cM,bW,cN,bX,bY⟩:=((mf bi aI)).row.at_ (idxO_at bs).1
        obtain ⟨a5,a6,a7,a8,rfl,bZ,b0,b1⟩:=RDFunc.open bY
        exact tk 8 (.pointer (some ⟨bG,bH + (G:Int).toNat * 6,none⟩)) (lb 14 7679) rfl (fun w=>idxG_r (b:=bG) (o:=bH) (i:=(G:Int)) Tye22 Tys38 rfl bW rfl (idxO_at bs).2.1 (idxO_at bs).2.2) (heldE (i:=12) rfl rfl) (aO 9 rfl (lD (vF c a5 d a6 e f g a7 l a8) Tya38 Tys38 rfl (fun j v hj=>br.cell (kr.cell (bX j v hj))) (wt ⟨heldE (i:=12) rfl rfl,aO 13 rfl (sI 0 (.agg (vF c a5 d a6 e f g a7 l a8).toArray) ((vF c a5 d a6 e f g a7 l a8).toArray) br Tys38 rfl rfl (fun ag D=>(wt ⟨heldE (i:=13) rfl rfl,aD (thenN (⟨_,ab.drew.heap.size,m,p,x,y,q,s,t,u,z,A,az.heap.size,c,d,a5,a6,e,f,g,l,a7,a8,fR,(D.sel [2,3,1,0] (by decide)),ac,ad,ae,bZ,b0,b1,h⟩))⟩)))⟩)))
     ·refine opL (i:=11) rfl (aC zF.toArray ak Tyz38 (fun az ah=>(wt ⟨heldF (fwOf (is:=[1,2]) ah kr rfl),anyAll (rs:=[6,10]) (by kernel_rfl) (by decide) (allC ?_ (allC ?_ allN))⟩)))
      ·refine opL (i:=6) rfl (l1 2 (sl aw Y ax) ah Tya22 (wt ⟨heldF (fwOf (is:=[1,2]) ah kr rfl),?_⟩))
       obtain ⟨⟨c,d,e,f,g,l⟩,bk,h⟩:=ob h
       obtain ⟨bx,bz,cG,bS,cH,bm,bT⟩:=((mf bi aI)).row.at_ (idxO_at bk).1
       obtain ⟨S,U,V,W,rfl,bn,bo,bp⟩:=RDFunc.open bT
       refine tk 8 (.pointer (some ⟨bx,bz + (G:Int).toNat * 6,none⟩)) (lb 14 2559) rfl (fun w=>idxG_r (b:=bx) (o:=bz) (i:=(G:Int)) Tye22 Tys38 rfl bS rfl (idxO_at bk).2.1 (idxO_at bk).2.2) (heldF (fwOf (is:=[1,2]) ah kr rfl)) (anyAll (rs:=[9,10]) (by kernel_rfl) (by decide) (allC ?_ (allC ?_ allN)))
       ·exact opL (i:=9) rfl (lD (vF c S d U e f g V l W) Tya38 Tys38 rfl (fun j v hj=>ah.cell (kr.cell (bm j v hj))) (wt ⟨heldF (fwOf (is:=[1,2]) ah kr rfl),aO 10 rfl (aC zF.toArray ah Tyz38 (fun a4 B=>(wt ⟨heldF (fwOf (is:=[2,3]) B kr rfl),aO 12 rfl (sI 0 (.agg (vF m x p y q s t z u A).toArray) ((vF m x p y q s t z u A).toArray) B Tys38 rfl rfl (fun an C=>(wt ⟨heldE (i:=12) rfl rfl,aO 13 rfl (sI 1 (.agg (vF c S d U e f g V l W).toArray) ((vF c S d U e f g V l W).toArray) C Tys38 rfl rfl (fun ag D=>(wt ⟨heldE (i:=13) rfl rfl,aD (thenN (⟨_,az.heap.size,m,p,x,y,q,s,t,u,z,A,ab.drew.heap.size,c,d,S,U,e,f,g,l,V,W,fR,(D.sel [2,3,0,1] (by decide)),ac,ad,ae,bn,bo,bp,h⟩))⟩)))⟩)))⟩)))⟩))
       ·refine opL (i:=10) rfl (aC zF.toArray ah Tyz38 (fun a4 B=>(wt ⟨heldF (fwOf (is:=[2,3]) B kr rfl),anyAll (rs:=[9,12]) (by kernel_rfl) (by decide) (allC ?_ (allC ?_ allN))⟩)))
        ·exact opL (i:=9) rfl (lD (vF c S d U e f g V l W) Tya38 Tys38 rfl (fun j v hj=>B.cell (kr.cell (bm j v hj))) (wt ⟨heldF (fwOf (is:=[2,3]) B kr rfl),aO 12 rfl (sI 0 (.agg (vF m x p y q s t z u A).toArray) ((vF m x p y q s t z u A).toArray) B Tys38 rfl rfl (fun an C=>(wt ⟨heldE (i:=12) rfl rfl,aO 13 rfl (sI 1 (.agg (vF c S d U e f g V l W).toArray) ((vF c S d U e f g V l W).toArray) C Tys38 rfl rfl (fun ag D=>(wt ⟨heldE (i:=13) rfl rfl,aD (thenN (⟨_,az.heap.size,m,p,x,y,q,s,t,u,z,A,ab.drew.heap.size,c,d,S,U,e,f,g,l,V,W,fR,(D.sel [2,3,0,1] (by decide)),ac,ad,ae,bn,bo,bp,h⟩))⟩)))⟩)))⟩))
        ·exact opL (i:=12) rfl (sI 0 (.agg (vF m x p y q s t z u A).toArray) ((vF m x p y q s t z u A).toArray) B Tys38 rfl rfl (fun an C=>(wt ⟨heldE (i:=12) rfl rfl,aO 9 rfl (lD (vF c S d U e f g V l W) Tya38 Tys38 rfl (fun j v hj=>C.cell (kr.cell (bm j v hj))) (wt ⟨heldE (i:=12) rfl rfl,aO 13 rfl (sI 1 (.agg (vF c S d U e f g V l W).toArray) ((vF c S d U e f g V l W).toArray) C Tys38 rfl rfl (fun ag D=>(wt ⟨heldE (i:=13) rfl rfl,aD (thenN (⟨_,az.heap.size,m,p,x,y,q,s,t,u,z,A,ab.drew.heap.size,c,d,S,U,e,f,g,l,V,W,fR,(D.sel [2,3,0,1] (by decide)),ac,ad,ae,bn,bo,bp,h⟩))⟩)))⟩))⟩)))
      ·refine opL (i:=10) rfl (aC zF.toArray ah Tyz38 (fun cI ai=>(wt ⟨heldF (fwOf (is:=[2,3]) ai kr rfl),anyAll (rs:=[6,12]) (by kernel_rfl) (by decide) (allC ?_ (allC ?_ allN))⟩)))
       ·refine opL (i:=6) rfl (l1 3 (sl aw Y ax) ai Tya22 (wt ⟨heldF (fwOf (is:=[2,3]) ai kr rfl),?_⟩))
        obtain ⟨⟨c,d,e,f,g,l⟩,bq,h⟩:=ob h
        obtain ⟨bA,bB,cJ,bU,cK,bC,bV⟩:=((mf bi aI)).row.at_ (idxO_at bq).1
        obtain ⟨ao,ap,aq,ar,rfl,bD,bE,bF⟩:=RDFunc.open bV
        refine tk 8 (.pointer (some ⟨bA,bB + (G:Int).toNat * 6,none⟩)) (lb 14 3583) rfl (fun w=>idxG_r (b:=bA) (o:=bB) (i:=(G:Int)) Tye22 Tys38 rfl bU rfl (idxO_at bq).2.1 (idxO_at bq).2.2) (heldF (fwOf (is:=[2,3]) ai kr rfl)) (anyAll (rs:=[9,12]) (by kernel_rfl) (by decide) (allC ?_ (allC ?_ allN)))
        ·exact opL (i:=9) rfl (lD (vF c ao d ap e f g aq l ar) Tya38 Tys38 rfl (fun j v hj=>ai.cell (kr.cell (bC j v hj))) (wt ⟨heldF (fwOf (is:=[2,3]) ai kr rfl),aO 12 rfl (sI 0 (.agg (vF m x p y q s t z u A).toArray) ((vF m x p y q s t z u A).toArray) ai Tys38 rfl rfl (fun an C=>(wt ⟨heldE (i:=12) rfl rfl,aO 13 rfl (sI 1 (.agg (vF c ao d ap e f g aq l ar).toArray) ((vF c ao d ap e f g aq l ar).toArray) C Tys38 rfl rfl (fun ag D=>(wt ⟨heldE (i:=13) rfl rfl,aD (thenN (⟨_,az.heap.size,m,p,x,y,q,s,t,u,z,A,ab.drew.heap.size,c,d,ao,ap,e,f,g,l,aq,ar,fR,(D.sel [2,3,0,1] (by decide)),ac,ad,ae,bD,bE,bF,h⟩))⟩)))⟩)))⟩))
        ·exact opL (i:=12) rfl (sI 0 (.agg (vF m x p y q s t z u A).toArray) ((vF m x p y q s t z u A).toArray) ai Tys38 rfl rfl (fun an C=>(wt ⟨heldE (i:=12) rfl rfl,aO 9 rfl (lD (vF c ao d ap e f g aq l ar) Tya38 Tys38 rfl (fun j v hj=>C.cell (kr.cell (bC j v hj))) (wt ⟨heldE (i:=12) rfl rfl,aO 13 rfl (sI 1 (.agg (vF c ao d ap e f g aq l ar).toArray) ((vF c ao d ap e f g aq l ar).toArray) C Tys38 rfl rfl (fun ag D=>(wt ⟨heldE (i:=13) rfl rfl,aD (thenN (⟨_,az.heap.size,m,p,x,y,q,s,t,u,z,A,ab.drew.heap.size,c,d,ao,ap,e,f,g,l,aq,ar,fR,(D.sel [2,3,0,1] (by decide)),ac,ad,ae,bD,bE,bF,h⟩))⟩)))⟩))⟩)))
       ·refine opL (i:=12) rfl (sI 0 (.agg (vF m x p y q s t z u A).toArray) ((vF m x p y q s t z u A).toArray) ai Tys38 rfl rfl (fun cL br=>(wt ⟨heldE (i:=12) rfl rfl,aO 6 rfl (l1 3 (sl aw Y ax) br Tya22 (wt ⟨heldE (i:=12) rfl rfl,?_⟩))⟩)))
        obtain ⟨⟨c,d,e,f,g,l⟩,bs,h⟩:=ob h
        obtain ⟨bG,bH,cM,bW,cN,bX,bY⟩:=((mf bi aI)).row.at_ (idxO_at bs).1
        obtain ⟨a5,a6,a7,a8,rfl,bZ,b0,b1⟩:=RDFunc.open bY
        exact tk 8 (.pointer (some ⟨bG,bH + (G:Int).toNat * 6,none⟩)) (lb 14 7679) rfl (fun w=>idxG_r (b:=bG) (o:=bH) (i:=(G:Int)) Tye22 Tys38 rfl bW rfl (idxO_at bs).2.1 (idxO_at bs).2.2) (heldE (i:=12) rfl rfl) (aO 9 rfl (lD (vF c a5 d a6 e f g a7 l a8) Tya38 Tys38 rfl (fun j v hj=>br.cell (kr.cell (bX j v hj))) (wt ⟨heldE (i:=12) rfl rfl,aO 13 rfl (sI 1 (.agg (vF c a5 d a6 e f g a7 l a8).toArray) ((vF c a5 d a6 e f g a7 l a8).toArray) br Tys38 rfl rfl (fun ag D=>(wt ⟨heldE (i:=13) rfl rfl,aD (thenN (⟨_,az.heap.size,m,p,x,y,q,s,t,u,z,A,ab.drew.heap.size,c,d,a5,a6,e,f,g,l,a7,a8,fR,(D.sel [2,3,0,1] (by decide)),ac,ad,ae,bZ,b0,b1,h⟩))⟩)))⟩)))
    ·rintro _ dc ⟨b9,aW,aN,X,aJ,aK,aP,aQ,aR,aX,a9,ba,aY,aS,av,aZ,a2,aT,aU,aV,a3,bb,bd,rfl,aj,dd,ch,cO,de,cP,cQ,h⟩
     unfold f17_j1 at h
     refine wp_seq (wp_cut (fun a w=>∃ (ci:Nat→Value) (bh:KH) (b2:Bool),a=fr 94 (updL ci [(2,pp wi.heap.size 0),(3,pp aH.heap.size 0),(5,iI (G:Int)),(6,pp aW 0),(7,pp aY 0),(75,.bool b2)])∧KH.sub Z bh∧SR K bh wi w [] [.box wi.heap.size wi.heap.size #[sl aG af c1] 24,.box wi.heap.size aH.heap.size #[sl aw Y ax] 24,.box wi.heap.size aW (vF aN aJ X aK aP aQ aR a9 aX ba).toArray 38,.box wi.heap.size aY (vF aS aZ av a2 aT aU aV bb a3 bd).toArray 38]∧f17_j2 k G X av b2 (f17_l1 k Y aM)=some r_) ?_ ?_)
     ·refine wp_region_lit (fd 0 Tyf38_0 rfl (l1 2 (.string aN) aj Tya9 (fd 0 Tyf38_0 rfl (l1 3 (.string aS) aj Tya9 (bsc (r:=(!seq aN aS)) rfl rfl rfl (m1 (.bool (!seq aN aS)) (cd h (fun au h=>?_) (fun au h=>?_))))))))
      ·exact o1 38 au (o1 38 au (o1 38 au (o1 38 au (o1 38 au (o1 38 au (o1 38 au (m3 true vT (cg au) (m1 vT (o0 47 (o0 47 (o0 47 (o0 47 (o0 47 (m3 true vT rfl (m1 vT (o0 54 (o0 54 (o0 54 (o0 54 (o0 54 (m3 true vT rfl (m1 vT (o0 61 (o0 61 (o0 61 (o0 61 (o0 61 (m3 true vT rfl (m1 vT (o0 68 (o0 68 (o0 68 (o0 68 (o0 68 (o0 68 (m3 true vT rfl (wt (⟨_,Z,true,fR,kr,aj,h⟩))))))))))))))))))))))))))))))))))))))
      ·refine n1 38 au (fd 1 Tyf38_1 rfl (n1 38 au (l1 2 (sl aJ X aK) aj Tya35 (n1 38 au (lS X.length Tye35 (n1 38 au (fd 1 Tyf38_1 rfl (n1 38 au (l1 3 (sl aZ av a2) aj Tya35 (n1 38 au (lS av.length Tye35 (n1 38 au (c0 ((X.length:Int) != (av.length:Int)) (m3 false (.bool ((X.length:Int) != (av.length:Int))) (cg au) (m1 (.bool ((X.length:Int) != (av.length:Int))) (cd h (fun aA h=>?_) (fun aA h=>?_)))))))))))))))))
       ·exact o1 47 aA (o1 47 aA (o1 47 aA (o1 47 aA (o1 47 aA (m3 true vT (cg aA) (m1 vT (o0 54 (o0 54 (o0 54 (o0 54 (o0 54 (m3 true vT rfl (m1 vT (o0 61 (o0 61 (o0 61 (o0 61 (o0 61 (m3 true vT rfl (m1 vT (o0 68 (o0 68 (o0 68 (o0 68 (o0 68 (o0 68 (m3 true vT rfl (wt (⟨_,Z,true,fR,kr,aj,h⟩)))))))))))))))))))))))))))))
       ·refine n1 47 aA (fd 2 Tyf38_2 rfl (n1 47 aA (l1 2 (iI aP) aj Tya3 (n1 47 aA (fd 2 Tyf38_2 rfl (n1 47 aA (l1 3 (iI aT) aj Tya3 (n1 47 aA (c0 (aP != aT) (m3 false (.bool (aP != aT)) (cg aA) (m1 (.bool (aP != aT)) (cd h (fun aB h=>?_) (fun aB h=>?_)))))))))))))
        ·exact o1 54 aB (o1 54 aB (o1 54 aB (o1 54 aB (o1 54 aB (m3 true vT (cg aB) (m1 vT (o0 61 (o0 61 (o0 61 (o0 61 (o0 61 (m3 true vT rfl (m1 vT (o0 68 (o0 68 (o0 68 (o0 68 (o0 68 (o0 68 (m3 true vT rfl (wt (⟨_,Z,true,fR,kr,aj,h⟩))))))))))))))))))))))
        ·refine n1 54 aB (fd 3 Tyf38_3 rfl (n1 54 aB (l1 2 (.bool aQ) aj Tya4 (n1 54 aB (fd 3 Tyf38_3 rfl (n1 54 aB (l1 3 (.bool aU) aj Tya4 (n1 54 aB (bbo (r:=(!(aQ == aU))) Tyo4 rfl rfl rfl (m3 false (.bool (!(aQ == aU))) (cg aB) (m1 (.bool (!(aQ == aU))) (cd h (fun aE h=>?_) (fun aE h=>?_)))))))))))))
         ·exact o1 61 aE (o1 61 aE (o1 61 aE (o1 61 aE (o1 61 aE (m3 true vT (cg aE) (m1 vT (o0 68 (o0 68 (o0 68 (o0 68 (o0 68 (o0 68 (m3 true vT rfl (wt (⟨_,Z,true,fR,kr,aj,h⟩)))))))))))))))
         ·refine n1 61 aE (fd 4 Tyf38_4 rfl (n1 61 aE (l1 2 (iI aR) aj Tya3 (n1 61 aE (fd 4 Tyf38_4 rfl (n1 61 aE (l1 3 (iI aV) aj Tya3 (n1 61 aE (c0 (aR != aV) (m3 false (.bool (aR != aV)) (cg aE) (m1 (.bool (aR != aV)) (cd h (fun ay h=>?_) (fun ay h=>?_)))))))))))))
          ·exact o1 68 ay (o1 68 ay (o1 68 ay (o1 68 ay (o1 68 ay (o1 68 ay (m3 true vT (cg ay) (wt (⟨_,Z,true,fR,kr,aj,h⟩))))))))
          ·refine n1 68 ay (fd 5 Tyf38_5 rfl (n1 68 ay (l1 2 (sl a9 aX ba) aj Tya36 (n1 68 ay (fd 5 Tyf38_5 rfl (n1 68 ay (l1 3 (sl bb a3 bd) aj Tya36 (n1 68 ay ?_))))))))
           obtain ⟨b3,cR,h⟩:=ob h
           refine cv ([sl a9 aX ba,sl bb a3 bd]) Tyb21 ((f21_ok k) _ _ _ _ _ _ _ _ _ cR (hG.mono aI) cO cQ (pt aj)) ?_
           rintro _ df ⟨cS,rfl,cj⟩
           have cU:=ca cj aj
           exact n1 68 ay (uN b3 (m3 false (.bool (!b3)) (cg ay) (wt (⟨_,cS,(!b3),fR,cj.sub,cU,h⟩))))
     ·rintro _ dg ⟨ci,bh,b2,rfl,bK,ck,h⟩
      unfold f17_j2 at h
      refine cd h (fun b4 h=>?_) (fun b4 h=>?_)
      ·refine cT b4 (sr (m2 vN (wt (wp_ret (thenR (blkR (thenR (thenR (blkR (thenR ?_))))))))))
       cases (oi h).trans hr_
       exact retA1 rfl (resT rfl) ⟨bh,rfl,(ck.sel [] (by decide))⟩
      ·refine cF b4 (wp_skip (thenN (sr (m2 (iI 0) (wt (wp_block (wp_loopG (fun g_ a w=>∃ (cl:Nat→Value) (bu:LP) (al:Nat),g_=bu.length∧a=fr 94 (updL cl [(2,pp wi.heap.size 0),(3,pp aH.heap.size 0),(5,iI (G:Int)),(6,pp aW 0),(7,pp aY 0),(8,iI (al:Int))])∧SR K bh wi w [] [.box wi.heap.size wi.heap.size #[sl aG af c1] 24,.box wi.heap.size aH.heap.size #[sl aw Y ax] 24,.box wi.heap.size aW (vF aN aJ X aK aP aQ aR a9 aX ba).toArray 38,.box wi.heap.size aY (vF aS aZ av a2 aT aU aV bb a3 bd).toArray 38]∧X.drop al=bu∧f17_l2 k G av (f17_l1 k Y aM) bu al=some r_) X.length ?_ ?_)))))))
       ·exact ⟨_,X,0,rfl,fR,ck,List.drop_zero,h⟩
       ·rintro _ _ dh ⟨cl,bu,al,rfl,rfl,bL,bw,h⟩
        rcases bu with _ | ⟨⟨bM,bN⟩,bu⟩
        ·unfold f17_l2 at h
         exact wp_seq (sr (m1 (iI (al:Int)) (fd 1 Tyf38_1 rfl (l1 2 (sl aJ X aK) bL Tya35 (lS X.length Tye35 (bcm (r:=false) rfl rfl (congrArg some (drop_nil_lt bw)) (wt (cndF rfl (wp_exit (thenX (thenX (blkX (blkN (thenN (wp_region_lit (m1 (iI (G:Int)) (bar (r:=((G + 1:Nat):Int)) rfl rfl (inc_ok (le_big (((mf b7 aI)).len) (by decide) (drop_cons_lt bv))) (m2 (iI ((G + 1:Nat):Int)) (wt (⟨_,Nat.lt_succ_self _,_,bh,aM,G + 1,rfl,fR,(aI.trans bK),(bL.sel [0,1] (by decide)),drop_cons_next bv,h⟩))))))))))))))))))))
        ·unfold f17_l2 at h
         refine wp_seq (sr (m1 (iI (al:Int)) (fd 1 Tyf38_1 rfl (l1 2 (sl aJ X aK) bL Tya35 (lS X.length Tye35 (bcm (r:=true) rfl rfl (congrArg some (drop_cons_t bw)) (wt (cndT rfl (wp_skip (thenN (wp_seq (wp_block (wp_seq (have aF:=bL.drew;(regAny (E:=[]) (F:=FW bh [.box wi.heap.size wi.heap.size #[sl aG af c1] 24,.box wi.heap.size aH.heap.size #[sl aw Y ax] 24,.box wi.heap.size aW (vF aN aJ X aK aP aQ aR a9 aX ba).toArray 38,.box wi.heap.size aY (vF aS aZ av a2 aT aU aV bb a3 bd).toArray 38]) (L:=(lb 11 0)) ymx rfl rfl (tk 0 (pp aW 1) (lb 11 1) rfl (fun w=>fld_r (o':=1) Tyf38_1 rfl rfl) (heldF (fwOf (is:=[0,1,2,3]) aF kr rfl)) (tf 1 (sl aJ X aK) ([]) (lb 11 3) rfl (fwOf (is:=[0,1,2,3]) aF kr rfl) (fun w hF=>lb1_r (i:=2) (v:=sl aJ X aK) hF rfl Tya35 rfl rfl) (tk 2 (iI (al:Int)) (lb 11 7) rfl (fun w=>mv_r (v:=iI (al:Int)) rfl) (heldF (fwOf (is:=[0,1,2,3]) aF kr rfl)) ?_))))))))))))))))))
         obtain ⟨cm,cn,di,cV,dj,cW,cX⟩:=((mp ch bK)).row.at_ (drop_cons_at bw)
         obtain ⟨rfl,dk⟩:=RDParam.open cX
         refine tk 3 (pp cm (cn + al * 2)) (lb 11 15) rfl (fun w=>idxN_r (b:=cm) (o:=cn) (i:=al) Tye35 Tys82 rfl cV rfl (drop_cons_lt bw)) (heldF (fwOf (is:=[0,1,2,3]) aF kr rfl)) (tf 4 (.agg #[.string bM,iI bN]) ([]) (lb 11 31) rfl (fwOf (is:=[0,1,2,3]) aF kr rfl) (fun w hF=>ldN_r (cs:=[.string bM,iI bN]) Tya82 Tys82 rfl rfl (fun j v hj=>hF.cell (kr.cell (cW j v hj)))) (tk 5 (pp aY 1) (lb 11 63) rfl (fun w=>fld_r (o':=1) Tyf38_1 rfl rfl) (heldF (fwOf (is:=[0,1,2,3]) aF kr rfl)) (tf 6 (sl aZ av a2) ([]) (lb 11 127) rfl (fwOf (is:=[0,1,2,3]) aF kr rfl) (fun w hF=>lb1_r (i:=3) (v:=sl aZ av a2) hF rfl Tya35 rfl rfl) (tk 7 (iI (al:Int)) (lb 11 255) rfl (fun w=>mv_r (v:=iI (al:Int)) rfl) (heldF (fwOf (is:=[0,1,2,3]) aF kr rfl)) ?_))))
         obtain ⟨⟨bO,bP⟩,b5,h⟩:=ob h
         obtain ⟨co,cq,dl,cY,dm,cZ,c2⟩:=((mp cP bK)).row.at_ (idxO_at b5).1
         obtain ⟨rfl,dn⟩:=RDParam.open c2
         refine tk 8 (.pointer (some ⟨co,cq + (al:Int).toNat * 2,none⟩)) (lb 11 511) rfl (fun w=>idxG_r (b:=co) (o:=cq) (i:=(al:Int)) Tye35 Tys82 rfl cY rfl (idxO_at b5).2.1 (idxO_at b5).2.2) (heldF (fwOf (is:=[0,1,2,3]) aF kr rfl)) (tf 9 (.agg #[.string bO,iI bP]) ([]) (lb 11 1023) rfl (fwOf (is:=[0,1,2,3]) aF kr rfl) (fun w hF=>ldN_r (cs:=[.string bO,iI bP]) Tya82 Tys82 rfl rfl (fun j v hj=>hF.cell (kr.cell (cZ j v hj)))) (tk 10 (.bool (!(((seq bM bO && bN == bP)) == true))) (lb 11 2047) rfl (fun w=>bsi_r (r:=(!(((seq bM bO && bN == bP)) == true))) (.of Tyq82) rfl rfl rfl) (heldF (fwOf (is:=[0,1,2,3]) aF kr rfl)) (aD (thenN (cd h (fun b6 h=>?_) (fun b6 h=>?_))))))
         ·refine cT b6 (sr (m2 vN (wt (wp_ret (blkR (thenR (thenR (blkR (blkR (thenR (thenR (blkR (thenR ?_)))))))))))))
          cases (oi h).trans hr_
          exact retA1 rfl (resT rfl) ⟨bh,rfl,(aF.sel [] (by decide))⟩
         ·exact cF b6 (wp_skip (blkN (thenN (wp_region_lit (m1 (iI (al:Int)) (bar (r:=((al + 1:Nat):Int)) rfl rfl (inc_ok (le_big (((mp ch bK)).len) (by decide) (drop_cons_lt bw))) (m2 (iI ((al + 1:Nat):Int)) (wt (⟨_,Nat.lt_succ_self _,_,bu,al + 1,rfl,fR,aF,drop_cons_next bw,h⟩)))))))))
theorem f17_ok (k:Nat):f17_spec (f17 k):=f17_b_ok k
theorem f129_b_ok (k:Nat):f129_spec (f129_b k):=by
 unfold f129_spec
 intro K wi a o p h hG b c
 obtain ⟨r_,hr_,h⟩:=rz h
 obtain ⟨d,e,f,g,i⟩:=a
 obtain ⟨j,l,rfl,q,r⟩:=RDExpr.open b
 refine enter Tryz.func129 rfl (n:=3) rfl ?_
 unfold f129_b at h
 refine sr (bxoC (cs:=(vE d e f g j i l).toArray) c rfl rfl (fun s m=>(m2 (iI 0) (wt (sr (m2 (iI 0) (wt (wp_ret ?_))))))))
 cases (oi h).trans hr_
 exact retA1 rfl (resT rfl) ⟨K,rfl,(m.sel [] (by decide))⟩
theorem f129_ok (k:Nat):f129_spec (f129 k):=f129_b_ok k
theorem f1013115_b_ok (k:Nat) (F:Fam1013115) (IH1013115:f1013115_spec F.f1013115) (IH1014215:f1014215_spec F.f1014215):f1013115_spec (f1013115_b k F):=by
 unfold f1013115_spec
 intro K wi f Z ab aK h hG ac ak
 obtain ⟨r_,hr_,h⟩:=rz h
 refine enter Tryz.func131 rfl (n:=22) rfl ?_
 unfold f1013115_b at h
 refine sr (m2 nS (wt (sr (m2 nS (wt (wp_seq (sr (m1 (sl Z f ab) (lS f.length Tye39 (m1 (iI 0) (wt (wp_block ?_))))))))))))
 have al:=ak.row_ wi.heap.size 107 5
 refine wp_loopG (fun g_ a w=>∃ (ad:Nat→Value) (J:KH) (g:LE) (d:Nat) (c:LE) (l:OA) (m:Nat) (O:List Value),g_=g.length∧a=fr 22 (updL ad [(1,.func (.func 129) #[] #[]),(5,sl l c m),(8,sl Z f ab),(9,iI (f.length:Int)),(10,iI (d:Int))])∧KH.sub K J∧SR K J wi w [] [.row wi.heap.size (sl l c m) 107 5 c.length O]∧f.drop d=g∧Reps (RDExpr J) 5 c O∧c.length * 64 ≤ 140737488355328∧f1013115_l1 k F g d c=some r_) f.length ?_ ?_
 ·exact ⟨_,K,f,0,([]:LE),none,0,[],rfl,fR,kr,al,List.drop_zero,(reps0 (R:=(RDExpr K)) (size:=5)),(by simp),h⟩
 ·rintro _ _ am ⟨ad,J,g,d,c,l,m,O,rfl,rfl,N,S,y,ae,an,h⟩
  rcases g with _ | ⟨⟨z,A,B,C,D⟩,g⟩
  ·unfold f1013115_l1 at h
   refine sr (bcm (r:=false) rfl rfl (congrArg some (drop_nil_lt y)) (wt (wp_seq (cndF rfl (wp_exit (thenX (thenX (blkX (thenN (sr (m1 (sl l c m) (m2 (sl l c m) (wt (wp_ret ?_))))))))))))))
   obtain ⟨ao,ap,aL,aq⟩:=shutI (i:=0) (bytes:=64) (R:=fun K=>(RDExpr K)) S rfl (Nat.le_refl _) ae an (fun hs=>(fun _ _ h=>RDExpr.mono hs h))
   cases (oi h).trans hr_
   exact retA1 rfl (resT rfl) ⟨ao,l,m,rfl,ap,aq⟩
  ·unfold f1013115_l1 at h
   refine sr (bcm (r:=true) rfl rfl (congrArg some (drop_cons_t y)) (wt (wp_seq (cndT rfl (wp_skip (thenN (wp_seq (wp_block (sr ?_)))))))))
   obtain ⟨ar,au,aM,av,aN,aw,ax⟩:=((me ac N)).row.at_ (drop_cons_at y)
   obtain ⟨G,I,rfl,ay,az⟩:=RDExpr.open ax
   refine idxN (b:=ar) (o:=au) (i:=d) Tye39 Tys107 rfl av rfl (drop_cons_lt y) (lD (vE z A B C G D I) Tya107 Tys107 rfl (fun j v hj=>S.cell (kr.cell (aw j v hj))) (aC zE.toArray S Tyz107 (fun aP aA=>(sI 0 (.agg (vE z A B C G D I).toArray) ((vE z A B C G D I).toArray) aA Tys107 rfl rfl (fun aQ U=>(wt (wp_region_lit (m1 (sl l c m) (lN 0 (vE z A B C G D I) U Tya107 Tys107 (m1 (.func (.func 129) #[] #[]) ?_))))))))))
   obtain ⟨⟨q,s,t,u,x⟩,aB,h⟩:=ob h
   refine cv ([.agg (vE z A B C G D I).toArray,.func (.func 129) #[] #[]]) Tyb142 (IH1014215 _ _ _ _ _ aB (hG.mono N) (RDExpr.intro ay az) (pt U)) ?_
   rintro _ aR ⟨V,aS,rfl,W,af⟩
   have aE:=ca W U
   obtain ⟨ag,ah,rfl,aT,aU⟩:=RDExpr.open af
   refine bsl (e:=107) (cells:=(vE q s t u ag x ah).toArray) (vs:=[(0,.agg (vE q s t u ag x ah).toArray)]) aE rfl (buildSl_one Tye39 Tys107 Tyz107 rfl (by decide) (by decide) rfl) (fun aV aF=>?_)
   obtain ⟨ai,h⟩:=of_guard h
   refine apR (R:=(RDExpr V)) (p:=(DExpr.mk q s t u x)) (i:=2) (j:=0) aF rfl rfl Tye39 Tyi107 rfl (by decide) rfl rfl (ae.mono (fun _ _ h=>RDExpr.mono W.sub h)) af rfl rfl (Nat.le_refl _) ai (by decide) (fun X Y aj aG aH aI=>?_)
   have aJ:SR K V wi aG [] [.box wi.heap.size am.heap.size (vE z A B C G D I).toArray 107,.row wi.heap.size (.slice X (c ++ [(DExpr.mk q s t u x)]).length Y) 107 5 (c ++ [(DExpr.mk q s t u x)]).length aj]:=aH.sel [1,2] (by decide)
   exact m2 (.slice X (c ++ [(DExpr.mk q s t u x)]).length Y) (wpList_nil (blkN (thenN (wp_region_lit (bar (r:=((d + 1:Nat):Int)) rfl rfl (inc_ok (le_big (((me ac N)).len) (by decide) (drop_cons_lt y))) (m1 (iI ((d + 1:Nat):Int)) (wt (⟨_,Nat.lt_succ_self _,_,V,g,d + 1,(c ++ [(DExpr.mk q s t u x)]),X,Y,aj,rfl,fR,(N.trans W.sub),(aJ.sel [1] (by decide)),drop_cons_next y,aI,(app_bound ai),h⟩))))))))
theorem f1014215_b_ok (k:Nat) (F:Fam1013115) (IH1013115:f1013115_spec F.f1013115) (IH1014215:f1014215_spec F.f1014215):f1014215_spec (f1014215_b k F):=by
 unfold f1014215_spec
 intro K wi z V W h hG A B
 obtain ⟨r_,hr_,h⟩:=rz h
 obtain ⟨a,b,c,j,m⟩:=z
 obtain ⟨o,p,rfl,s,C⟩:=RDExpr.open A
 refine enter Tryz.func142 rfl (n:=15) rfl ?_
 unfold f1014215_b at h
 refine sr (bxoC (cs:=(vE a b c j o m p).toArray) B rfl rfl (fun D G=>(aC zE.toArray G Tyz107 (fun X q=>(wt (sr (fd 4 Tyf107_4 rfl (l1 1 (sl o m p) q Tya39 (m1 (.func (.func 129) #[] #[]) ?_)))))))))
 obtain ⟨d,I,h⟩:=ob h
 refine cv ([sl o m p,.func (.func 129) #[] #[]]) Tyb131 (IH1013115 _ _ _ _ _ _ I (hG.mono kr) C (pt q)) ?_
 rintro _ Y ⟨Z,e,f,rfl,t,u⟩
 have J:=ca t q
 refine fd 4 Tyf107_4 rfl (sI 1 (sl e d f) ((vE a b c j e d f).toArray) J Tys39 rfl rfl (fun ab r=>(wt (sr (m1 (.func (.func 129) #[] #[]) (lN 1 (vE a b c j e d f) r Tya107 Tys107 ?_))))))
 obtain ⟨g,N,h⟩:=ob h
 refine cv ([.agg (vE a b c j e d f).toArray]) Tyb129 ((f129_ok k) _ _ _ _ _ N (hG.mono t.sub) (RDExpr.intro s u) (pt r)) ?_
 rintro _ ac ⟨v,rfl,w⟩
 have O:=ca w r
 refine fd 3 Tyf107_3 rfl (sI 1 (iI g) ((vE a b c g e d f).toArray) O Tys3 rfl rfl (fun ad x=>(wt (sr (lN 1 (vE a b c g e d f) x Tya107 Tys107 (sI 0 (.agg (vE a b c g e d f).toArray) ((vE a b c g e d f).toArray) x Tys107 rfl rfl (fun S U=>?_)))))))
 have y:SR K v wi S [] [.box wi.heap.size D.heap.size (vE a b c g e d f).toArray 107,.box wi.heap.size wi.heap.size (vE a b c g e d f).toArray 107]:=U
 refine wt (wp_ret ?_)
 cases (oi h).trans hr_
 exact retA1 rfl (resN (i:=0) (l:=(vE a b c g e d f)) y rfl Tya107 Tys107 rfl rfl rfl) ⟨v,(vE a b c g e d f),rfl,(y.sel [] (by decide)),(RDExpr.intro s (me u w.sub))⟩
theorem fam1013115_ok (k0:Nat) : ∀ k,f1013115_spec (fam1013115 k0 k).f1013115∧f1014215_spec (fam1013115 k0 k).f1014215:=by
 intro k
 induction k with
 | zero=>exact ⟨(by unfold f1013115_spec; intro _ _ _ _ _ _ h_; cases h_),(by unfold f1014215_spec; intro _ _ _ _ _ h_; cases h_)⟩
 | succ k ih=>exact ⟨f1013115_b_ok k0 (fam1013115 k0 k) ih.1 ih.2,f1014215_b_ok k0 (fam1013115 k0 k) ih.1 ih.2⟩
theorem f1013115_ok (k:Nat):f1013115_spec (f1013115 k):=(fam1013115_ok k k).1
theorem f1014215_ok (k:Nat):f1014215_spec (f1014215 k):=(fam1013115_ok k k).2
theorem f130_b_ok (k:Nat):f130_spec (f130_b k):=by
 unfold f130_spec
 intro K wi c o p h hG d e
 obtain ⟨r_,hr_,h⟩:=rz h
 obtain ⟨f,g,i,a,j⟩:=c
 obtain ⟨l,m,rfl,q,r⟩:=RDExpr.open d
 refine enter Tryz.func130 rfl (n:=5) rfl ?_
 unfold f130_b at h
 refine sr (bxoC (cs:=(vE f g i a l j m).toArray) e rfl rfl (fun s b=>(m2 (iI 0) (wt (sr (fd 3 Tyf107_3 rfl (l1 0 (iI a) b Tya3 (m2 (iI a) (wt (wp_ret ?_))))))))))
 cases (oi h).trans hr_
 exact retA1 rfl (resT rfl) ⟨K,rfl,(b.sel [] (by decide))⟩
theorem f130_ok (k:Nat):f130_spec (f130 k):=f130_b_ok k
theorem f1013118_b_ok (k:Nat) (F:Fam1013118) (IH1013118:f1013118_spec F.f1013118) (IH1014218:f1014218_spec F.f1014218):f1013118_spec (f1013118_b k F):=by
 unfold f1013118_spec
 intro K wi f Z ab aK h hG ac ak
 obtain ⟨r_,hr_,h⟩:=rz h
 refine enter Tryz.func131 rfl (n:=22) rfl ?_
 unfold f1013118_b at h
 refine sr (m2 nS (wt (sr (m2 nS (wt (wp_seq (sr (m1 (sl Z f ab) (lS f.length Tye39 (m1 (iI 0) (wt (wp_block ?_))))))))))))
 have al:=ak.row_ wi.heap.size 107 5
 refine wp_loopG (fun g_ a w=>∃ (ad:Nat→Value) (J:KH) (g:LE) (d:Nat) (c:LE) (l:OA) (m:Nat) (O:List Value),g_=g.length∧a=fr 22 (updL ad [(1,.func (.func 130) #[] #[]),(5,sl l c m),(8,sl Z f ab),(9,iI (f.length:Int)),(10,iI (d:Int))])∧KH.sub K J∧SR K J wi w [] [.row wi.heap.size (sl l c m) 107 5 c.length O]∧f.drop d=g∧Reps (RDExpr J) 5 c O∧c.length * 64 ≤ 140737488355328∧f1013118_l1 k F g d c=some r_) f.length ?_ ?_
 ·exact ⟨_,K,f,0,([]:LE),none,0,[],rfl,fR,kr,al,List.drop_zero,(reps0 (R:=(RDExpr K)) (size:=5)),(by simp),h⟩
 ·rintro _ _ am ⟨ad,J,g,d,c,l,m,O,rfl,rfl,N,S,y,ae,an,h⟩
  rcases g with _ | ⟨⟨z,A,B,C,D⟩,g⟩
  ·unfold f1013118_l1 at h
   refine sr (bcm (r:=false) rfl rfl (congrArg some (drop_nil_lt y)) (wt (wp_seq (cndF rfl (wp_exit (thenX (thenX (blkX (thenN (sr (m1 (sl l c m) (m2 (sl l c m) (wt (wp_ret ?_))))))))))))))
   obtain ⟨ao,ap,aL,aq⟩:=shutI (i:=0) (bytes:=64) (R:=fun K=>(RDExpr K)) S rfl (Nat.le_refl _) ae an (fun hs=>(fun _ _ h=>RDExpr.mono hs h))
   cases (oi h).trans hr_
   exact retA1 rfl (resT rfl) ⟨ao,l,m,rfl,ap,aq⟩
  ·unfold f1013118_l1 at h
   refine sr (bcm (r:=true) rfl rfl (congrArg some (drop_cons_t y)) (wt (wp_seq (cndT rfl (wp_skip (thenN (wp_seq (wp_block (sr ?_)))))))))
   obtain ⟨ar,au,aM,av,aN,aw,ax⟩:=((me ac N)).row.at_ (drop_cons_at y)
   obtain ⟨G,I,rfl,ay,az⟩:=RDExpr.open ax
   refine idxN (b:=ar) (o:=au) (i:=d) Tye39 Tys107 rfl av rfl (drop_cons_lt y) (lD (vE z A B C G D I) Tya107 Tys107 rfl (fun j v hj=>S.cell (kr.cell (aw j v hj))) (aC zE.toArray S Tyz107 (fun aP aA=>(sI 0 (.agg (vE z A B C G D I).toArray) ((vE z A B C G D I).toArray) aA Tys107 rfl rfl (fun aQ U=>(wt (wp_region_lit (m1 (sl l c m) (lN 0 (vE z A B C G D I) U Tya107 Tys107 (m1 (.func (.func 130) #[] #[]) ?_))))))))))
   obtain ⟨⟨q,s,t,u,x⟩,aB,h⟩:=ob h
   refine cv ([.agg (vE z A B C G D I).toArray,.func (.func 130) #[] #[]]) Tyb142 (IH1014218 _ _ _ _ _ aB (hG.mono N) (RDExpr.intro ay az) (pt U)) ?_
   rintro _ aR ⟨V,aS,rfl,W,af⟩
   have aE:=ca W U
   obtain ⟨ag,ah,rfl,aT,aU⟩:=RDExpr.open af
   refine bsl (e:=107) (cells:=(vE q s t u ag x ah).toArray) (vs:=[(0,.agg (vE q s t u ag x ah).toArray)]) aE rfl (buildSl_one Tye39 Tys107 Tyz107 rfl (by decide) (by decide) rfl) (fun aV aF=>?_)
   obtain ⟨ai,h⟩:=of_guard h
   refine apR (R:=(RDExpr V)) (p:=(DExpr.mk q s t u x)) (i:=2) (j:=0) aF rfl rfl Tye39 Tyi107 rfl (by decide) rfl rfl (ae.mono (fun _ _ h=>RDExpr.mono W.sub h)) af rfl rfl (Nat.le_refl _) ai (by decide) (fun X Y aj aG aH aI=>?_)
   have aJ:SR K V wi aG [] [.box wi.heap.size am.heap.size (vE z A B C G D I).toArray 107,.row wi.heap.size (.slice X (c ++ [(DExpr.mk q s t u x)]).length Y) 107 5 (c ++ [(DExpr.mk q s t u x)]).length aj]:=aH.sel [1,2] (by decide)
   exact m2 (.slice X (c ++ [(DExpr.mk q s t u x)]).length Y) (wpList_nil (blkN (thenN (wp_region_lit (bar (r:=((d + 1:Nat):Int)) rfl rfl (inc_ok (le_big (((me ac N)).len) (by decide) (drop_cons_lt y))) (m1 (iI ((d + 1:Nat):Int)) (wt (⟨_,Nat.lt_succ_self _,_,V,g,d + 1,(c ++ [(DExpr.mk q s t u x)]),X,Y,aj,rfl,fR,(N.trans W.sub),(aJ.sel [1] (by decide)),drop_cons_next y,aI,(app_bound ai),h⟩))))))))
theorem f1014218_b_ok (k:Nat) (F:Fam1013118) (IH1013118:f1013118_spec F.f1013118) (IH1014218:f1014218_spec F.f1014218):f1014218_spec (f1014218_b k F):=by
 unfold f1014218_spec
 intro K wi z V W h hG A B
 obtain ⟨r_,hr_,h⟩:=rz h
 obtain ⟨a,b,c,j,m⟩:=z
 obtain ⟨o,p,rfl,s,C⟩:=RDExpr.open A
 refine enter Tryz.func142 rfl (n:=15) rfl ?_
 unfold f1014218_b at h
 refine sr (bxoC (cs:=(vE a b c j o m p).toArray) B rfl rfl (fun D G=>(aC zE.toArray G Tyz107 (fun X q=>(wt (sr (fd 4 Tyf107_4 rfl (l1 1 (sl o m p) q Tya39 (m1 (.func (.func 130) #[] #[]) ?_)))))))))
 obtain ⟨d,I,h⟩:=ob h
 refine cv ([sl o m p,.func (.func 130) #[] #[]]) Tyb131 (IH1013118 _ _ _ _ _ _ I (hG.mono kr) C (pt q)) ?_
 rintro _ Y ⟨Z,e,f,rfl,t,u⟩
 have J:=ca t q
 refine fd 4 Tyf107_4 rfl (sI 1 (sl e d f) ((vE a b c j e d f).toArray) J Tys39 rfl rfl (fun ab r=>(wt (sr (m1 (.func (.func 130) #[] #[]) (lN 1 (vE a b c j e d f) r Tya107 Tys107 ?_))))))
 obtain ⟨g,N,h⟩:=ob h
 refine cv ([.agg (vE a b c j e d f).toArray]) Tyb130 ((f130_ok k) _ _ _ _ _ N (hG.mono t.sub) (RDExpr.intro s u) (pt r)) ?_
 rintro _ ac ⟨v,rfl,w⟩
 have O:=ca w r
 refine fd 3 Tyf107_3 rfl (sI 1 (iI g) ((vE a b c g e d f).toArray) O Tys3 rfl rfl (fun ad x=>(wt (sr (lN 1 (vE a b c g e d f) x Tya107 Tys107 (sI 0 (.agg (vE a b c g e d f).toArray) ((vE a b c g e d f).toArray) x Tys107 rfl rfl (fun S U=>?_)))))))
 have y:SR K v wi S [] [.box wi.heap.size D.heap.size (vE a b c g e d f).toArray 107,.box wi.heap.size wi.heap.size (vE a b c g e d f).toArray 107]:=U
 refine wt (wp_ret ?_)
 cases (oi h).trans hr_
 exact retA1 rfl (resN (i:=0) (l:=(vE a b c g e d f)) y rfl Tya107 Tys107 rfl rfl rfl) ⟨v,(vE a b c g e d f),rfl,(y.sel [] (by decide)),(RDExpr.intro s (me u w.sub))⟩
theorem fam1013118_ok (k0:Nat) : ∀ k,f1013118_spec (fam1013118 k0 k).f1013118∧f1014218_spec (fam1013118 k0 k).f1014218:=by
 intro k
 induction k with
 | zero=>exact ⟨(by unfold f1013118_spec; intro _ _ _ _ _ _ h_; cases h_),(by unfold f1014218_spec; intro _ _ _ _ _ h_; cases h_)⟩
 | succ k ih=>exact ⟨f1013118_b_ok k0 (fam1013118 k0 k) ih.1 ih.2,f1014218_b_ok k0 (fam1013118 k0 k) ih.1 ih.2⟩
theorem f1013118_ok (k:Nat):f1013118_spec (f1013118 k):=(fam1013118_ok k k).1
theorem f1014218_ok (k:Nat):f1014218_spec (f1014218 k):=(fam1013118_ok k k).2
theorem f108_b_ok (k:Nat) (F:Fam108) (IH108:f108_spec F.f108):f108_spec (f108_b k F):=by
 unfold f108_spec
 intro K wi A be bf c fY h hG cm dd
 obtain ⟨r_,hr_,h⟩:=rz h
 refine enter Tryz.func108 rfl (n:=76) rfl ?_
 unfold f108_b at h
 refine sr (m2 nS (wt (sr (m2 (.func (.func 129) #[] #[]) (wt (wp_seq (sr (m1 (.bool c) (wt (cd h (fun cx h=>?_) (fun cx h=>?_)))))))))))
 ·refine cT cx (wp_region_lit (m2 (.func (.func 130) #[] #[]) (wt (sr (m2 nS (wt (wp_seq (sr (m1 (sl be A bf) (lS A.length Tye36 (m1 (iI 0) (wt (wp_block ?_)))))))))))))
  have dL:=dd.row_ wi.heap.size 42 11
  refine wp_loopG (fun g_ a w=>∃ (de:Nat→Value) (b1:KH) (bg:LS) (am:Nat) (d:LS) (ai:OA) (aj:Nat) (bB:List Value),g_=bg.length∧a=fr 76 (updL de [(1,.bool c),(5,.func (.func 130) #[] #[]),(6,sl ai d aj),(13,sl be A bf),(14,iI (A.length:Int)),(15,iI (am:Int))])∧KH.sub K b1∧SR K b1 wi w [] [.row wi.heap.size (sl ai d aj) 42 11 d.length bB]∧A.drop am=bg∧Reps (RDStmt b1) 11 d bB∧d.length * 184 ≤ 140737488355328∧f108_l1 k F c bg am d=some r_) A.length ?_ ?_
  ·exact ⟨_,K,A,0,([]:LS),none,0,[],rfl,fR,kr,dL,List.drop_zero,(reps0 (R:=(RDStmt K)) (size:=11)),(by simp),h⟩
  ·rintro _ _ bh ⟨de,b1,bg,am,d,ai,aj,bB,rfl,rfl,bC,cy,b2,df,dM,h⟩
   rcases bg with _ | ⟨⟨g,l,cn,m,cf,q,bi,aZ,aP,an,B⟩,bg⟩
   ·unfold f108_l1 at h
    refine sr (bcm (r:=false) rfl rfl (congrArg some (drop_nil_lt b2)) (wt (wp_seq (cndF rfl (wp_exit (thenX (thenX (blkX (thenN (sr (m1 (sl ai d aj) (m2 (sl ai d aj) (wt (wp_ret ?_))))))))))))))
    obtain ⟨dN,dO,fZ,dP⟩:=shutI (i:=0) (bytes:=184) (R:=fun K=>(RDStmt K)) cy rfl (Nat.le_refl _) df dM (fun hs=>(fun _ _ h=>RDStmt.mono hs h))
    cases (oi h).trans hr_
    exact retA1 rfl (resT rfl) ⟨dN,ai,aj,rfl,dO,dP⟩
   ·unfold f108_l1 at h
    refine sr (bcm (r:=true) rfl rfl (congrArg some (drop_cons_t b2)) (wt (wp_seq (cndT rfl (wp_skip (thenN (wp_seq (wp_block (sr ?_)))))))))
    obtain ⟨dQ,dR,f0,dS,f1,dT,dU⟩:=((ms cm bC)).row.at_ (drop_cons_at b2)
    obtain ⟨bD,bE,bj,bk,a2,a3,ay,az,X,Y,rfl,dV,dW,dX,dY,dZ,d0,dg⟩:=RDStmt.open dU
    refine idxN (b:=dQ) (o:=dR) (i:=am) Tye36 Tys42 rfl dS rfl (drop_cons_lt b2) (lD (vS g l cn m cf q bD bi bE bj aZ bk a2 aP a3 ay an az X B Y) Tya42 Tys42 rfl (fun j v hj=>cy.cell (kr.cell (dT j v hj))) (aC zS.toArray cy Tyz42 (fun f2 d1=>(sI 0 (.agg (vS g l cn m cf q bD bi bE bj aZ bk a2 aP a3 ay an az X B Y).toArray) ((vS g l cn m cf q bD bi bE bj aZ bk a2 aP a3 ay an az X B Y).toArray) d1 Tys42 rfl rfl (fun f3 dh=>(wt (wp_cut (fun a w=>∃ (di:Nat→Value) (D:Int) (G:Int),a=fr 76 (updL di [(1,.bool c),(5,.func (.func 130) #[] #[]),(6,sl ai d aj),(8,pp bh.heap.size 0),(13,sl be A bf),(14,iI (A.length:Int)),(15,iI (am:Int))])∧SR K b1 wi w [] [.box wi.heap.size bh.heap.size (vS g l D m G q bD bi bE bj aZ bk a2 aP a3 ay an az X B Y).toArray 42,.row wi.heap.size (sl ai d aj) 42 11 d.length bB]∧f108_j1 k F c d am g l m q bi aZ aP an B D G (f108_l1 k F c bg)=some r_) ?_ ?_)))))))
    ·refine sr (m1 (.bool c) (uN c (wt (cd h (fun cz h=>?_) (fun cz h=>?_)))))
     ·refine cT cz (wp_region_lit (fd 2 Tyf42_2 rfl (sI 0 (iI 0) ((vS g l 0 m cf q bD bi bE bj aZ bk a2 aP a3 ay an az X B Y).toArray) dh Tys3 rfl rfl (fun f4 d2=>(fd 4 Tyf42_4 rfl (sI 0 (iI 0) ((vS g l 0 m 0 q bD bi bE bj aZ bk a2 aP a3 ay an az X B Y).toArray) d2 Tys3 rfl rfl (fun d3 d4=>?_)))))))
      have d5:SR K b1 wi d3 [] [.box wi.heap.size bh.heap.size (vS g l 0 m 0 q bD bi bE bj aZ bk a2 aP a3 ay an az X B Y).toArray 42,.row wi.heap.size (sl ai d aj) 42 11 d.length bB]:=d4
      exact wt (⟨_,0,0,fR,d5,h⟩)
     ·exact cF cz (wp_skip (thenN (⟨_,cn,cf,fR,dh,h⟩)))
    ·rintro _ f6 ⟨di,D,G,rfl,cA,h⟩
     unfold f108_j1 at h
     refine sr (fd 6 Tyf42_6 rfl (l1 0 (sl bD bi bE) cA Tya39 (m1 (.func (.func 130) #[] #[]) ?_)))
     obtain ⟨N,d6,h⟩:=ob h
     refine cv ([sl bD bi bE,.func (.func 130) #[] #[]]) Tyb131 ((f1013118_ok k) _ _ _ _ _ _ d6 (hG.mono bC) dX (pt cA)) ?_
     rintro _ f7 ⟨f8,ao,ap,rfl,aA,d7⟩
     have d8:=ca aA cA
     refine fd 6 Tyf42_6 rfl (sI 0 (sl ao N ap) ((vS g l D m G q ao N ap bj aZ bk a2 aP a3 ay an az X B Y).toArray) d8 Tys39 rfl rfl (fun f9 cB=>(wt (sr (fd 7 Tyf42_7 rfl (l1 0 (sl bj aZ bk) cB Tya36 (m1 (.bool c) ?_)))))))
     obtain ⟨S,d9,h⟩:=ob h
     refine cv ([sl bj aZ bk,.bool c]) Tyb108 (IH108 _ _ _ _ _ _ _ d9 (hG.mono (bC.trans aA.sub)) (ms dY aA.sub) (pt cB)) ?_
     rintro _ ga ⟨gb,aB,aE,rfl,aQ,ea⟩
     have eb:=ca aQ cB
     refine fd 7 Tyf42_7 rfl (sI 0 (sl aB S aE) ((vS g l D m G q ao N ap aB S aE a2 aP a3 ay an az X B Y).toArray) eb Tys36 rfl rfl (fun gc cC=>(wt (sr (fd 8 Tyf42_8 rfl (l1 0 (sl a2 aP a3) cC Tya36 (m1 (.bool c) ?_)))))))
     obtain ⟨V,ec,h⟩:=ob h
     refine cv ([sl a2 aP a3,.bool c]) Tyb108 (IH108 _ _ _ _ _ _ _ ec (hG.mono ((bC.trans aA.sub).trans aQ.sub)) (ms dZ (aA.sub.trans aQ.sub)) (pt cC)) ?_
     rintro _ gd ⟨ed,aR,aS,rfl,a4,ee⟩
     have ef:=ca a4 cC
     refine fd 8 Tyf42_8 rfl (sI 0 (sl aR V aS) ((vS g l D m G q ao N ap aB S aE aR V aS ay an az X B Y).toArray) ef Tys36 rfl rfl (fun eg eh=>?_))
     have cD:SR K ed wi eg [] [.box wi.heap.size bh.heap.size (vS g l D m G q ao N ap aB S aE aR V aS ay an az X B Y).toArray 42,.row wi.heap.size (sl ai d aj) 42 11 d.length bB]:=eh
     refine wt (sr (fd 9 Tyf42_9 rfl (l1 0 (sl ay an az) cD Tya36 (m1 (.bool c) ?_))))
     obtain ⟨ac,ei,h⟩:=ob h
     refine cv ([sl ay an az,.bool c]) Tyb108 (IH108 _ _ _ _ _ _ _ ei (hG.mono (((bC.trans aA.sub).trans aQ.sub).trans a4.sub)) (ms d0 ((aA.sub.trans aQ.sub).trans a4.sub)) (pt cD)) ?_
     rintro _ ge ⟨cG,bm,bn,rfl,bo,ej⟩
     have ek:=ca bo cD
     refine fd 9 Tyf42_9 rfl (sI 0 (sl bm ac bn) ((vS g l D m G q ao N ap aB S aE aR V aS bm ac bn X B Y).toArray) ek Tys36 rfl rfl (fun gf dj=>(wt (sr (m2 nS (wt (wp_seq (sr (fd 10 Tyf42_10 rfl (l1 0 (sl X B Y) dj Tya40 (lS B.length Tye40 (m1 (iI 0) (wt (wp_block ?_))))))))))))))
     have el:=dj.row_ wi.heap.size 87 5
     refine wp_loopG (fun g_ a w=>∃ (dk:Nat→Value) (ch:KH) (bL:LC) (bp:Nat) (s:LC) (aF:OA) (aG:Nat) (co:List Value),g_=bL.length∧a=fr 76 (updL dk [(1,.bool c),(5,.func (.func 130) #[] #[]),(6,sl ai d aj),(8,pp bh.heap.size 0),(9,sl aF s aG),(13,sl be A bf),(14,iI (A.length:Int)),(15,iI (am:Int)),(44,sl X B Y),(45,iI (B.length:Int)),(46,iI (bp:Int))])∧KH.sub cG ch∧SR K ch wi w [] [.box wi.heap.size bh.heap.size (vS g l D m G q ao N ap aB S aE aR V aS bm ac bn X B Y).toArray 42,.row wi.heap.size (sl ai d aj) 42 11 d.length bB,.row wi.heap.size (sl aF s aG) 87 5 s.length co]∧B.drop bp=bL∧Reps (RDCase ch) 5 s co∧s.length * 80 ≤ 140737488355328∧f108_l2 k F c d am g l m q D G N S V ac (f108_l1 k F c bg) bL bp s=some r_) B.length ?_ ?_
     ·exact ⟨_,cG,B,0,([]:LC),none,0,[],rfl,fR,kr,(el.sel [1,2,0] (by decide)),List.drop_zero,(reps0 (R:=(RDCase cG)) (size:=5)),(by simp),h⟩
     ·rintro _ _ cH ⟨dk,ch,bL,bp,s,aF,aG,co,rfl,rfl,a5,cI,b3,dl,em,h⟩
      rcases bL with _ | ⟨⟨ad,ae,cq,bM,bF⟩,bL⟩
      ·unfold f108_l2 at h
       refine sr (bcm (r:=false) rfl rfl (congrArg some (drop_nil_lt b3)) (wt (wp_seq (cndF rfl (wp_exit (thenX (thenX (blkX (thenN (sr (m1 (sl aF s aG) (fd 10 Tyf42_10 rfl (sI 0 (sl aF s aG) ((vS g l D m G q ao N ap aB S aE aR V aS bm ac bn aF s aG).toArray) cI Tys40 rfl rfl (fun gg dm=>(wt (wp_region_lit (m1 (sl ai d aj) (lN 0 (vS g l D m G q ao N ap aB S aE aR V aS bm ac bn aF s aG) dm Tya42 Tys42 (bsl (e:=42) (cells:=(vS g l D m G q ao N ap aB S aE aR V aS bm ac bn aF s aG).toArray) (vs:=[(0,.agg (vS g l D m G q ao N ap aB S aE aR V aS bm ac bn aF s aG).toArray)]) dm rfl (buildSl_one Tye36 Tys42 Tyz42 rfl (by decide) (by decide) rfl) (fun gh en=>?_))))))))))))))))))))
       obtain ⟨cJ,eo,b4,ep⟩:=shutI (i:=3) (bytes:=80) (R:=fun K=>(RDCase K)) en rfl (Nat.le_refl _) dl em (fun hs=>(fun _ _ h=>RDCase.mono hs h))
       obtain ⟨dn,h⟩:=of_guard h
       refine apR (R:=(RDStmt cJ)) (p:=(DStmt.mk g l D m G q N S V ac s)) (i:=2) (j:=0) eo rfl rfl Tye36 Tyi42 rfl (by decide) rfl rfl (df.mono (fun _ _ h=>RDStmt.mono (((((aA.sub.trans aQ.sub).trans a4.sub).trans bo.sub).trans a5).trans b4) h)) (RDStmt.intro dV dW (me d7 ((((aQ.sub.trans a4.sub).trans bo.sub).trans a5).trans b4)) (ms ea (((a4.sub.trans bo.sub).trans a5).trans b4)) (ms ee ((bo.sub.trans a5).trans b4)) (ms ej (a5.trans b4)) ep) rfl rfl (Nat.le_refl _) dn (by decide) (fun cK cL dp eq er es=>?_)
       have et:SR K cJ wi eq [] [.box wi.heap.size bh.heap.size (vS g l D m G q ao N ap aB S aE aR V aS bm ac bn aF s aG).toArray 42,.row wi.heap.size (.slice cK (d ++ [(DStmt.mk g l D m G q N S V ac s)]).length cL) 42 11 (d ++ [(DStmt.mk g l D m G q N S V ac s)]).length dp]:=er.sel [1,2] (by decide)
       exact m2 (.slice cK (d ++ [(DStmt.mk g l D m G q N S V ac s)]).length cL) (wpList_nil (blkN (thenN (wp_region_lit (bar (r:=((am + 1:Nat):Int)) rfl rfl (inc_ok (le_big (((ms cm bC)).len) (by decide) (drop_cons_lt b2))) (m1 (iI ((am + 1:Nat):Int)) (wt (⟨_,Nat.lt_succ_self _,_,cJ,bg,am + 1,(d ++ [(DStmt.mk g l D m G q N S V ac s)]),cK,cL,dp,rfl,fR,((((((bC.trans aA.sub).trans aQ.sub).trans a4.sub).trans bo.sub).trans a5).trans b4),(et.sel [1] (by decide)),drop_cons_next b2,es,(app_bound dn),h⟩))))))))
      ·unfold f108_l2 at h
       refine sr (bcm (r:=true) rfl rfl (congrArg some (drop_cons_t b3)) (wt (wp_seq (cndT rfl (wp_skip (thenN (wp_seq (wp_block (sr ?_)))))))))
       obtain ⟨eu,ew,gi,ex,gj,ey,ez⟩:=((mc dg ((((aA.sub.trans aQ.sub).trans a4.sub).trans bo.sub).trans a5))).row.at_ (drop_cons_at b3)
       obtain ⟨bT,bU,bN,bO,rfl,eA,eB,eC⟩:=RDCase.open ez
       refine idxN (b:=eu) (o:=ew) (i:=bp) Tye40 Tys87 rfl ex rfl (drop_cons_lt b3) (lD (vC ad ae cq bT bM bU bN bF bO) Tya87 Tys87 rfl (fun j v hj=>cI.cell (kr.cell (ey j v hj))) (aC zC.toArray cI Tyz87 (fun gk eD=>(sI 0 (.agg (vC ad ae cq bT bM bU bN bF bO).toArray) ((vC ad ae cq bT bM bU bN bF bO).toArray) eD Tys87 rfl rfl (fun gl dq=>(wt (wp_cut (fun a w=>∃ (dr:Nat→Value) (aq:Int),a=fr 76 (updL dr [(1,.bool c),(5,.func (.func 130) #[] #[]),(6,sl ai d aj),(8,pp bh.heap.size 0),(9,sl aF s aG),(11,pp cH.heap.size 0),(13,sl be A bf),(14,iI (A.length:Int)),(15,iI (am:Int)),(44,sl X B Y),(45,iI (B.length:Int)),(46,iI (bp:Int))])∧SR K ch wi w [] [.box wi.heap.size bh.heap.size (vS g l D m G q ao N ap aB S aE aR V aS bm ac bn X B Y).toArray 42,.box wi.heap.size cH.heap.size (vC ad ae aq bT bM bU bN bF bO).toArray 87,.row wi.heap.size (sl ai d aj) 42 11 d.length bB,.row wi.heap.size (sl aF s aG) 87 5 s.length co]∧f108_j2 k F c s bp ad ae bM bF aq (f108_l2 k F c d am g l m q D G N S V ac (f108_l1 k F c bg) bL)=some r_) ?_ ?_)))))))
       ·refine sr (m1 (.bool c) (uN c (wt (cd h (fun cM h=>?_) (fun cM h=>?_)))))
        ·exact cT cM (wp_region_lit (fd 2 Tyf87_2 rfl (sI 0 (iI 0) ((vC ad ae 0 bT bM bU bN bF bO).toArray) dq Tys3 rfl rfl (fun gm eE=>(wt (⟨_,0,fR,(eE.sel [1,0,2,3] (by decide)),h⟩))))))
        ·exact cF cM (wp_skip (thenN (⟨_,cq,fR,(dq.sel [1,0,2,3] (by decide)),h⟩)))
       ·rintro _ gn ⟨dr,aq,rfl,cN,h⟩
        unfold f108_j2 at h
        refine sr (fd 3 Tyf87_3 rfl (l1 1 (sl bT bM bU) cN Tya39 (m1 (.func (.func 130) #[] #[]) ?_)))
        obtain ⟨aT,eF,h⟩:=ob h
        refine cv ([sl bT bM bU,.func (.func 130) #[] #[]]) Tyb131 ((f1013118_ok k) _ _ _ _ _ _ eF (hG.mono (((((bC.trans aA.sub).trans aQ.sub).trans a4.sub).trans bo.sub).trans a5)) eB (pt cN)) ?_
        rintro _ go ⟨gp,bV,bW,rfl,ci,eG⟩
        have eH:=ca ci cN
        refine fd 3 Tyf87_3 rfl (sI 1 (sl bV aT bW) ((vC ad ae aq bV aT bW bN bF bO).toArray) eH Tys39 rfl rfl (fun gq cO=>(wt (sr (fd 4 Tyf87_4 rfl (l1 1 (sl bN bF bO) cO Tya36 (m1 (.bool c) ?_)))))))
        obtain ⟨a6,eI,h⟩:=ob h
        refine cv ([sl bN bF bO,.bool c]) Tyb108 (IH108 _ _ _ _ _ _ _ eI (hG.mono ((((((bC.trans aA.sub).trans aQ.sub).trans a4.sub).trans bo.sub).trans a5).trans ci.sub)) (ms eC ci.sub) (pt cO)) ?_
        rintro _ gr ⟨cP,b5,b6,rfl,cr,eJ⟩
        have eK:=ca cr cO
        refine fd 4 Tyf87_4 rfl (sI 1 (sl b5 a6 b6) ((vC ad ae aq bV aT bW b5 a6 b6).toArray) eK Tys36 rfl rfl (fun gs ds=>(wt (wp_region_lit (m1 (sl aF s aG) (lN 1 (vC ad ae aq bV aT bW b5 a6 b6) ds Tya87 Tys87 (bsl (e:=87) (cells:=(vC ad ae aq bV aT bW b5 a6 b6).toArray) (vs:=[(0,.agg (vC ad ae aq bV aT bW b5 a6 b6).toArray)]) ds rfl (buildSl_one Tye40 Tys87 Tyz87 rfl (by decide) (by decide) rfl) (fun gt eL=>?_))))))))
        obtain ⟨dt,h⟩:=of_guard h
        refine apR (R:=(RDCase cP)) (p:=(DCase.mk ad ae aq aT a6)) (i:=4) (j:=0) eL rfl rfl Tye40 Tyi87 rfl (by decide) rfl rfl (dl.mono (fun _ _ h=>RDCase.mono (ci.sub.trans cr.sub) h)) (RDCase.intro eA (me eG cr.sub) eJ) rfl rfl (Nat.le_refl _) dt (by decide) (fun cQ cR du eM eN eO=>?_)
        have eP:SR K cP wi eM [] [.box wi.heap.size bh.heap.size (vS g l D m G q ao N ap aB S aE aR V aS bm ac bn X B Y).toArray 42,.box wi.heap.size cH.heap.size (vC ad ae aq bV aT bW b5 a6 b6).toArray 87,.row wi.heap.size (sl ai d aj) 42 11 d.length bB,.row wi.heap.size (.slice cQ (s ++ [(DCase.mk ad ae aq aT a6)]).length cR) 87 5 (s ++ [(DCase.mk ad ae aq aT a6)]).length du]:=eN.sel [1,2,3,4] (by decide)
        exact m2 (.slice cQ (s ++ [(DCase.mk ad ae aq aT a6)]).length cR) (wpList_nil (blkN (thenN (wp_region_lit (bar (r:=((bp + 1:Nat):Int)) rfl rfl (inc_ok (le_big (((mc dg ((((aA.sub.trans aQ.sub).trans a4.sub).trans bo.sub).trans a5))).len) (by decide) (drop_cons_lt b3))) (m1 (iI ((bp + 1:Nat):Int)) (wt (⟨_,Nat.lt_succ_self _,_,cP,bL,bp + 1,(s ++ [(DCase.mk ad ae aq aT a6)]),cQ,cR,du,rfl,fR,((a5.trans ci.sub).trans cr.sub),(eP.sel [0,2,3] (by decide)),drop_cons_next b3,eO,(app_bound dt),h⟩))))))))
 ·refine cF cx (wp_skip (thenN (sr (m2 nS (wt (wp_seq (sr (m1 (sl be A bf) (lS A.length Tye36 (m1 (iI 0) (wt (wp_block ?_))))))))))))
  have eQ:=dd.row_ wi.heap.size 42 11
  refine wp_loopG (fun g_ a w=>∃ (dv:Nat→Value) (b7:KH) (bq:LS) (ar:Nat) (f:LS) (ak:OA) (al:Nat) (bG:List Value),g_=bq.length∧a=fr 76 (updL dv [(1,.bool c),(5,.func (.func 129) #[] #[]),(6,sl ak f al),(13,sl be A bf),(14,iI (A.length:Int)),(15,iI (ar:Int))])∧KH.sub K b7∧SR K b7 wi w [] [.row wi.heap.size (sl ak f al) 42 11 f.length bG]∧A.drop ar=bq∧Reps (RDStmt b7) 11 f bG∧f.length * 184 ≤ 140737488355328∧f108_l3 k F c bq ar f=some r_) A.length ?_ ?_
  ·exact ⟨_,K,A,0,([]:LS),none,0,[],rfl,fR,kr,eQ,List.drop_zero,(reps0 (R:=(RDStmt K)) (size:=11)),(by simp),h⟩
  ·rintro _ _ br ⟨dv,b7,bq,ar,f,ak,al,bG,rfl,rfl,bH,cS,b8,dw,eR,h⟩
   rcases bq with _ | ⟨⟨t,u,cs,x,cj,y,bs,a7,aU,au,C⟩,bq⟩
   ·unfold f108_l3 at h
    refine sr (bcm (r:=false) rfl rfl (congrArg some (drop_nil_lt b8)) (wt (wp_seq (cndF rfl (wp_exit (thenX (thenX (blkX (thenN (sr (m1 (sl ak f al) (m2 (sl ak f al) (wt (wp_ret ?_))))))))))))))
    obtain ⟨eS,eT,gu,eU⟩:=shutI (i:=0) (bytes:=184) (R:=fun K=>(RDStmt K)) cS rfl (Nat.le_refl _) dw eR (fun hs=>(fun _ _ h=>RDStmt.mono hs h))
    cases (oi h).trans hr_
    exact retA1 rfl (resT rfl) ⟨eS,ak,al,rfl,eT,eU⟩
   ·unfold f108_l3 at h
    refine sr (bcm (r:=true) rfl rfl (congrArg some (drop_cons_t b8)) (wt (wp_seq (cndT rfl (wp_skip (thenN (wp_seq (wp_block (sr ?_)))))))))
    obtain ⟨eV,eW,gv,eX,gw,eY,eZ⟩:=((ms cm bH)).row.at_ (drop_cons_at b8)
    obtain ⟨bI,bJ,bu,bv,a8,a9,aH,aI,Z,ab,rfl,e0,e1,e2,e3,e4,e5,dx⟩:=RDStmt.open eZ
    refine idxN (b:=eV) (o:=eW) (i:=ar) Tye36 Tys42 rfl eX rfl (drop_cons_lt b8) (lD (vS t u cs x cj y bI bs bJ bu a7 bv a8 aU a9 aH au aI Z C ab) Tya42 Tys42 rfl (fun j v hj=>cS.cell (kr.cell (eY j v hj))) (aC zS.toArray cS Tyz42 (fun gx e6=>(sI 0 (.agg (vS t u cs x cj y bI bs bJ bu a7 bv a8 aU a9 aH au aI Z C ab).toArray) ((vS t u cs x cj y bI bs bJ bu a7 bv a8 aU a9 aH au aI Z C ab).toArray) e6 Tys42 rfl rfl (fun gy dy=>(wt (wp_cut (fun a w=>∃ (dz:Nat→Value) (I:Int) (J:Int),a=fr 76 (updL dz [(1,.bool c),(5,.func (.func 129) #[] #[]),(6,sl ak f al),(8,pp br.heap.size 0),(13,sl be A bf),(14,iI (A.length:Int)),(15,iI (ar:Int))])∧SR K b7 wi w [] [.box wi.heap.size br.heap.size (vS t u I x J y bI bs bJ bu a7 bv a8 aU a9 aH au aI Z C ab).toArray 42,.row wi.heap.size (sl ak f al) 42 11 f.length bG]∧f108_j3 k F c f ar t u x y bs a7 aU au C I J (f108_l3 k F c bq)=some r_) ?_ ?_)))))))
    ·refine sr (m1 (.bool c) (uN c (wt (cd h (fun cU h=>?_) (fun cU h=>?_)))))
     ·refine cT cU (wp_region_lit (fd 2 Tyf42_2 rfl (sI 0 (iI 0) ((vS t u 0 x cj y bI bs bJ bu a7 bv a8 aU a9 aH au aI Z C ab).toArray) dy Tys3 rfl rfl (fun gz e7=>(fd 4 Tyf42_4 rfl (sI 0 (iI 0) ((vS t u 0 x 0 y bI bs bJ bu a7 bv a8 aU a9 aH au aI Z C ab).toArray) e7 Tys3 rfl rfl (fun e8 e9=>?_)))))))
      have fa:SR K b7 wi e8 [] [.box wi.heap.size br.heap.size (vS t u 0 x 0 y bI bs bJ bu a7 bv a8 aU a9 aH au aI Z C ab).toArray 42,.row wi.heap.size (sl ak f al) 42 11 f.length bG]:=e9
      exact wt (⟨_,0,0,fR,fa,h⟩)
     ·exact cF cU (wp_skip (thenN (⟨_,cs,cj,fR,dy,h⟩)))
    ·rintro _ gA ⟨dz,I,J,rfl,cV,h⟩
     unfold f108_j3 at h
     refine sr (fd 6 Tyf42_6 rfl (l1 0 (sl bI bs bJ) cV Tya39 (m1 (.func (.func 129) #[] #[]) ?_)))
     obtain ⟨O,fb,h⟩:=ob h
     refine cv ([sl bI bs bJ,.func (.func 129) #[] #[]]) Tyb131 ((f1013115_ok k) _ _ _ _ _ _ fb (hG.mono bH) e2 (pt cV)) ?_
     rintro _ gB ⟨gD,av,aw,rfl,aJ,fc⟩
     have fe:=ca aJ cV
     refine fd 6 Tyf42_6 rfl (sI 0 (sl av O aw) ((vS t u I x J y av O aw bu a7 bv a8 aU a9 aH au aI Z C ab).toArray) fe Tys39 rfl rfl (fun gF cW=>(wt (sr (fd 7 Tyf42_7 rfl (l1 0 (sl bu a7 bv) cW Tya36 (m1 (.bool c) ?_)))))))
     obtain ⟨U,ff,h⟩:=ob h
     refine cv ([sl bu a7 bv,.bool c]) Tyb108 (IH108 _ _ _ _ _ _ _ ff (hG.mono (bH.trans aJ.sub)) (ms e3 aJ.sub) (pt cW)) ?_
     rintro _ gG ⟨gH,aK,aL,rfl,aV,fg⟩
     have fh:=ca aV cW
     refine fd 7 Tyf42_7 rfl (sI 0 (sl aK U aL) ((vS t u I x J y av O aw aK U aL a8 aU a9 aH au aI Z C ab).toArray) fh Tys36 rfl rfl (fun gI cX=>(wt (sr (fd 8 Tyf42_8 rfl (l1 0 (sl a8 aU a9) cX Tya36 (m1 (.bool c) ?_)))))))
     obtain ⟨W,fi,h⟩:=ob h
     refine cv ([sl a8 aU a9,.bool c]) Tyb108 (IH108 _ _ _ _ _ _ _ fi (hG.mono ((bH.trans aJ.sub).trans aV.sub)) (ms e4 (aJ.sub.trans aV.sub)) (pt cX)) ?_
     rintro _ gJ ⟨fj,aW,aX,rfl,ba,fk⟩
     have fl:=ca ba cX
     refine fd 8 Tyf42_8 rfl (sI 0 (sl aW W aX) ((vS t u I x J y av O aw aK U aL aW W aX aH au aI Z C ab).toArray) fl Tys36 rfl rfl (fun fm fn=>?_))
     have cY:SR K fj wi fm [] [.box wi.heap.size br.heap.size (vS t u I x J y av O aw aK U aL aW W aX aH au aI Z C ab).toArray 42,.row wi.heap.size (sl ak f al) 42 11 f.length bG]:=fn
     refine wt (sr (fd 9 Tyf42_9 rfl (l1 0 (sl aH au aI) cY Tya36 (m1 (.bool c) ?_))))
     obtain ⟨af,fo,h⟩:=ob h
     refine cv ([sl aH au aI,.bool c]) Tyb108 (IH108 _ _ _ _ _ _ _ fo (hG.mono (((bH.trans aJ.sub).trans aV.sub).trans ba.sub)) (ms e5 ((aJ.sub.trans aV.sub).trans ba.sub)) (pt cY)) ?_
     rintro _ gK ⟨cZ,bw,bx,rfl,bz,fp⟩
     have fq:=ca bz cY
     refine fd 9 Tyf42_9 rfl (sI 0 (sl bw af bx) ((vS t u I x J y av O aw aK U aL aW W aX bw af bx Z C ab).toArray) fq Tys36 rfl rfl (fun gL dA=>(wt (sr (m2 nS (wt (wp_seq (sr (fd 10 Tyf42_10 rfl (l1 0 (sl Z C ab) dA Tya40 (lS C.length Tye40 (m1 (iI 0) (wt (wp_block ?_))))))))))))))
     have fs:=dA.row_ wi.heap.size 87 5
     refine wp_loopG (fun g_ a w=>∃ (dB:Nat→Value) (ck:KH) (bP:LC) (bA:Nat) (z:LC) (aM:OA) (aN:Nat) (ct:List Value),g_=bP.length∧a=fr 76 (updL dB [(1,.bool c),(5,.func (.func 129) #[] #[]),(6,sl ak f al),(8,pp br.heap.size 0),(9,sl aM z aN),(13,sl be A bf),(14,iI (A.length:Int)),(15,iI (ar:Int)),(44,sl Z C ab),(45,iI (C.length:Int)),(46,iI (bA:Int))])∧KH.sub cZ ck∧SR K ck wi w [] [.box wi.heap.size br.heap.size (vS t u I x J y av O aw aK U aL aW W aX bw af bx Z C ab).toArray 42,.row wi.heap.size (sl ak f al) 42 11 f.length bG,.row wi.heap.size (sl aM z aN) 87 5 z.length ct]∧C.drop bA=bP∧Reps (RDCase ck) 5 z ct∧z.length * 80 ≤ 140737488355328∧f108_l4 k F c f ar t u x y I J O U W af (f108_l3 k F c bq) bP bA z=some r_) C.length ?_ ?_
     ·exact ⟨_,cZ,C,0,([]:LC),none,0,[],rfl,fR,kr,(fs.sel [1,2,0] (by decide)),List.drop_zero,(reps0 (R:=(RDCase cZ)) (size:=5)),(by simp),h⟩
     ·rintro _ _ c2 ⟨dB,ck,bP,bA,z,aM,aN,ct,rfl,rfl,bb,c3,b9,dC,ft,h⟩
      rcases bP with _ | ⟨⟨ag,ah,cu,bQ,bK⟩,bP⟩
      ·unfold f108_l4 at h
       refine sr (bcm (r:=false) rfl rfl (congrArg some (drop_nil_lt b9)) (wt (wp_seq (cndF rfl (wp_exit (thenX (thenX (blkX (thenN (sr (m1 (sl aM z aN) (fd 10 Tyf42_10 rfl (sI 0 (sl aM z aN) ((vS t u I x J y av O aw aK U aL aW W aX bw af bx aM z aN).toArray) c3 Tys40 rfl rfl (fun gM dD=>(wt (wp_region_lit (m1 (sl ak f al) (lN 0 (vS t u I x J y av O aw aK U aL aW W aX bw af bx aM z aN) dD Tya42 Tys42 (bsl (e:=42) (cells:=(vS t u I x J y av O aw aK U aL aW W aX bw af bx aM z aN).toArray) (vs:=[(0,.agg (vS t u I x J y av O aw aK U aL aW W aX bw af bx aM z aN).toArray)]) dD rfl (buildSl_one Tye36 Tys42 Tyz42 rfl (by decide) (by decide) rfl) (fun gN fu=>?_))))))))))))))))))))
       obtain ⟨c4,fv,cb,fx⟩:=shutI (i:=3) (bytes:=80) (R:=fun K=>(RDCase K)) fu rfl (Nat.le_refl _) dC ft (fun hs=>(fun _ _ h=>RDCase.mono hs h))
       obtain ⟨dE,h⟩:=of_guard h
       refine apR (R:=(RDStmt c4)) (p:=(DStmt.mk t u I x J y O U W af z)) (i:=2) (j:=0) fv rfl rfl Tye36 Tyi42 rfl (by decide) rfl rfl (dw.mono (fun _ _ h=>RDStmt.mono (((((aJ.sub.trans aV.sub).trans ba.sub).trans bz.sub).trans bb).trans cb) h)) (RDStmt.intro e0 e1 (me fc ((((aV.sub.trans ba.sub).trans bz.sub).trans bb).trans cb)) (ms fg (((ba.sub.trans bz.sub).trans bb).trans cb)) (ms fk ((bz.sub.trans bb).trans cb)) (ms fp (bb.trans cb)) fx) rfl rfl (Nat.le_refl _) dE (by decide) (fun c5 c6 dF fy fz fA=>?_)
       have fB:SR K c4 wi fy [] [.box wi.heap.size br.heap.size (vS t u I x J y av O aw aK U aL aW W aX bw af bx aM z aN).toArray 42,.row wi.heap.size (.slice c5 (f ++ [(DStmt.mk t u I x J y O U W af z)]).length c6) 42 11 (f ++ [(DStmt.mk t u I x J y O U W af z)]).length dF]:=fz.sel [1,2] (by decide)
       exact m2 (.slice c5 (f ++ [(DStmt.mk t u I x J y O U W af z)]).length c6) (wpList_nil (blkN (thenN (wp_region_lit (bar (r:=((ar + 1:Nat):Int)) rfl rfl (inc_ok (le_big (((ms cm bH)).len) (by decide) (drop_cons_lt b8))) (m1 (iI ((ar + 1:Nat):Int)) (wt (⟨_,Nat.lt_succ_self _,_,c4,bq,ar + 1,(f ++ [(DStmt.mk t u I x J y O U W af z)]),c5,c6,dF,rfl,fR,((((((bH.trans aJ.sub).trans aV.sub).trans ba.sub).trans bz.sub).trans bb).trans cb),(fB.sel [1] (by decide)),drop_cons_next b8,fA,(app_bound dE),h⟩))))))))
      ·unfold f108_l4 at h
       refine sr (bcm (r:=true) rfl rfl (congrArg some (drop_cons_t b9)) (wt (wp_seq (cndT rfl (wp_skip (thenN (wp_seq (wp_block (sr ?_)))))))))
       obtain ⟨fC,fD,gO,fE,gP,fF,fG⟩:=((mc dx ((((aJ.sub.trans aV.sub).trans ba.sub).trans bz.sub).trans bb))).row.at_ (drop_cons_at b9)
       obtain ⟨bX,bY,bR,bS,rfl,fH,fI,fJ⟩:=RDCase.open fG
       refine idxN (b:=fC) (o:=fD) (i:=bA) Tye40 Tys87 rfl fE rfl (drop_cons_lt b9) (lD (vC ag ah cu bX bQ bY bR bK bS) Tya87 Tys87 rfl (fun j v hj=>c3.cell (kr.cell (fF j v hj))) (aC zC.toArray c3 Tyz87 (fun gQ fK=>(sI 0 (.agg (vC ag ah cu bX bQ bY bR bK bS).toArray) ((vC ag ah cu bX bQ bY bR bK bS).toArray) fK Tys87 rfl rfl (fun gR dG=>(wt (wp_cut (fun a w=>∃ (dH:Nat→Value) (ax:Int),a=fr 76 (updL dH [(1,.bool c),(5,.func (.func 129) #[] #[]),(6,sl ak f al),(8,pp br.heap.size 0),(9,sl aM z aN),(11,pp c2.heap.size 0),(13,sl be A bf),(14,iI (A.length:Int)),(15,iI (ar:Int)),(44,sl Z C ab),(45,iI (C.length:Int)),(46,iI (bA:Int))])∧SR K ck wi w [] [.box wi.heap.size br.heap.size (vS t u I x J y av O aw aK U aL aW W aX bw af bx Z C ab).toArray 42,.box wi.heap.size c2.heap.size (vC ag ah ax bX bQ bY bR bK bS).toArray 87,.row wi.heap.size (sl ak f al) 42 11 f.length bG,.row wi.heap.size (sl aM z aN) 87 5 z.length ct]∧f108_j4 k F c z bA ag ah bQ bK ax (f108_l4 k F c f ar t u x y I J O U W af (f108_l3 k F c bq) bP)=some r_) ?_ ?_)))))))
       ·refine sr (m1 (.bool c) (uN c (wt (cd h (fun c7 h=>?_) (fun c7 h=>?_)))))
        ·exact cT c7 (wp_region_lit (fd 2 Tyf87_2 rfl (sI 0 (iI 0) ((vC ag ah 0 bX bQ bY bR bK bS).toArray) dG Tys3 rfl rfl (fun gT fL=>(wt (⟨_,0,fR,(fL.sel [1,0,2,3] (by decide)),h⟩))))))
        ·exact cF c7 (wp_skip (thenN (⟨_,cu,fR,(dG.sel [1,0,2,3] (by decide)),h⟩)))
       ·rintro _ gU ⟨dH,ax,rfl,c8,h⟩
        unfold f108_j4 at h
        refine sr (fd 3 Tyf87_3 rfl (l1 1 (sl bX bQ bY) c8 Tya39 (m1 (.func (.func 129) #[] #[]) ?_)))
        obtain ⟨aY,fM,h⟩:=ob h
        refine cv ([sl bX bQ bY,.func (.func 129) #[] #[]]) Tyb131 ((f1013115_ok k) _ _ _ _ _ _ fM (hG.mono (((((bH.trans aJ.sub).trans aV.sub).trans ba.sub).trans bz.sub).trans bb)) fI (pt c8)) ?_
        rintro _ gV ⟨gW,bZ,b0,rfl,cl,fN⟩
        have fO:=ca cl c8
        refine fd 3 Tyf87_3 rfl (sI 1 (sl bZ aY b0) ((vC ag ah ax bZ aY b0 bR bK bS).toArray) fO Tys39 rfl rfl (fun gX c9=>(wt (sr (fd 4 Tyf87_4 rfl (l1 1 (sl bR bK bS) c9 Tya36 (m1 (.bool c) ?_)))))))
        obtain ⟨bd,fP,h⟩:=ob h
        refine cv ([sl bR bK bS,.bool c]) Tyb108 (IH108 _ _ _ _ _ _ _ fP (hG.mono ((((((bH.trans aJ.sub).trans aV.sub).trans ba.sub).trans bz.sub).trans bb).trans cl.sub)) (ms fJ cl.sub) (pt c9)) ?_
        rintro _ gY ⟨da,cc,ce,rfl,cw,fQ⟩
        have fS:=ca cw c9
        refine fd 4 Tyf87_4 rfl (sI 1 (sl cc bd ce) ((vC ag ah ax bZ aY b0 cc bd ce).toArray) fS Tys36 rfl rfl (fun gZ dI=>(wt (wp_region_lit (m1 (sl aM z aN) (lN 1 (vC ag ah ax bZ aY b0 cc bd ce) dI Tya87 Tys87 (bsl (e:=87) (cells:=(vC ag ah ax bZ aY b0 cc bd ce).toArray) (vs:=[(0,.agg (vC ag ah ax bZ aY b0 cc bd ce).toArray)]) dI rfl (buildSl_one Tye40 Tys87 Tyz87 rfl (by decide) (by decide) rfl) (fun g0 fT=>?_))))))))
        obtain ⟨dJ,h⟩:=of_guard h
        refine apR (R:=(RDCase da)) (p:=(DCase.mk ag ah ax aY bd)) (i:=4) (j:=0) fT rfl rfl Tye40 Tyi87 rfl (by decide) rfl rfl (dC.mono (fun _ _ h=>RDCase.mono (cl.sub.trans cw.sub) h)) (RDCase.intro fH (me fN cw.sub) fQ) rfl rfl (Nat.le_refl _) dJ (by decide) (fun db dc dK fU fV fW=>?_)
        have fX:SR K da wi fU [] [.box wi.heap.size br.heap.size (vS t u I x J y av O aw aK U aL aW W aX bw af bx Z C ab).toArray 42,.box wi.heap.size c2.heap.size (vC ag ah ax bZ aY b0 cc bd ce).toArray 87,.row wi.heap.size (sl ak f al) 42 11 f.length bG,.row wi.heap.size (.slice db (z ++ [(DCase.mk ag ah ax aY bd)]).length dc) 87 5 (z ++ [(DCase.mk ag ah ax aY bd)]).length dK]:=fV.sel [1,2,3,4] (by decide)
        exact m2 (.slice db (z ++ [(DCase.mk ag ah ax aY bd)]).length dc) (wpList_nil (blkN (thenN (wp_region_lit (bar (r:=((bA + 1:Nat):Int)) rfl rfl (inc_ok (le_big (((mc dx ((((aJ.sub.trans aV.sub).trans ba.sub).trans bz.sub).trans bb))).len) (by decide) (drop_cons_lt b9))) (m1 (iI ((bA + 1:Nat):Int)) (wt (⟨_,Nat.lt_succ_self _,_,da,bP,bA + 1,(z ++ [(DCase.mk ag ah ax aY bd)]),db,dc,dK,rfl,fR,((bb.trans cl.sub).trans cw.sub),(fX.sel [0,2,3] (by decide)),drop_cons_next b9,fW,(app_bound dJ),h⟩))))))))
theorem fam108_ok (k0:Nat) : ∀ k,f108_spec (fam108 k0 k).f108:=by
 intro k
 induction k with
 | zero=>exact (by unfold f108_spec; intro _ _ _ _ _ _ _ h_; cases h_)
 | succ k ih=>exact f108_b_ok k0 (fam108 k0 k) ih
theorem f108_ok (k:Nat):f108_spec (f108 k):=(fam108_ok k k)
theorem f88_b_ok (k:Nat):f88_spec (f88_b k):=by
 unfold f88_spec
 intro K wi aA be z bf h hG aB aE
 obtain ⟨r_,hr_,h⟩:=rz h
 obtain ⟨x⟩:=aA
 obtain ⟨ae,c1,rfl,aq⟩:=RDProgram.open aB
 refine enter Tryz.func88 rfl (n:=35) rfl ?_
 unfold f88_b at h
 refine sr (bxoC (cs:=#[sl ae x c1]) aE rfl rfl (fun V aF=>(aC #[nS] aF Tyz24 (fun W aG=>(wt (sr (aC #[nS] aG Tyz24 (fun bg ar=>(wt (wp_seq (sr (fd 0 Tyf24_0 rfl (l1 2 (sl ae x c1) ar Tya22 (lS x.length Tye22 (m1 (iI 0) (wt (wp_block ?_)))))))))))))))))
 have aH:=ar.row_ wi.heap.size 38 6
 refine wp_loopG (fun g_ a w=>∃ (au:Nat→Value) (ab:KH) (B:LF) (y:Nat) (c:LF) (t:OA) (u:Nat) (af:List Value),g_=B.length∧a=fr 35 (updL au [(1,.bool z),(4,pp V.heap.size 0),(5,pp W.heap.size 0),(9,sl ae x c1),(10,iI (x.length:Int)),(11,iI (y:Int))])∧KH.sub K ab∧SR K ab wi w [] [.box wi.heap.size V.heap.size #[nS] 24,.box wi.heap.size W.heap.size #[sl t c u] 24,.row wi.heap.size (sl t c u) 38 6 c.length af]∧x.drop y=B∧Reps (RDFunc ab) 6 c af∧c.length * 88 ≤ 140737488355328∧f88_l1 k z B y c=some r_) x.length ?_ ?_
 ·exact ⟨_,K,x,0,([]:LF),none,0,[],rfl,fR,kr,(aH.sel [2,1,0] (by decide)),List.drop_zero,(reps0 (R:=(RDFunc K)) (size:=6)),(by simp),h⟩
 ·rintro _ _ ag ⟨au,ab,B,y,c,t,u,af,rfl,rfl,ac,ah,X,av,aI,h⟩
  rcases B with _ | ⟨⟨d,C,f,g,ai,A⟩,B⟩
  ·unfold f88_l1 at h
   refine sr (bcm (r:=false) rfl rfl (congrArg some (drop_nil_lt X)) (wt (wp_seq (cndF rfl (wp_exit (thenX (thenX (blkX (thenN (sr (lN 1 ([sl t c u]) ah Tya24 Tys24 (sI 0 (.agg #[sl t c u]) #[sl t c u] ah Tys24 rfl rfl (fun bh aw=>(wt (wp_ret ?_)))))))))))))))
   obtain ⟨aJ,aK,bi,aL⟩:=shutI (i:=2) (bytes:=88) (R:=fun K=>(RDFunc K)) aw rfl (Nat.le_refl _) av aI (fun hs=>(fun _ _ h=>RDFunc.mono hs h))
   cases (oi h).trans hr_
   exact retA1 rfl (resN (i:=0) (l:=[sl t c u]) aw rfl Tya24 Tys24 rfl rfl rfl) ⟨aJ,[sl t c u],rfl,(aK.sel [] (by decide)),(RDProgram.intro aL)⟩
  ·unfold f88_l1 at h
   refine sr (bcm (r:=true) rfl rfl (congrArg some (drop_cons_t X)) (wt (wp_seq (cndT rfl (wp_skip (thenN (wp_seq (wp_block (sr ?_)))))))))
   obtain ⟨aM,aN,bj,aP,bk,aQ,aR⟩:=((mf aq ac)).row.at_ (drop_cons_at X)
   obtain ⟨N,O,D,G,rfl,aS,aT,aU⟩:=RDFunc.open aR
   refine idxN (b:=aM) (o:=aN) (i:=y) Tye22 Tys38 rfl aP rfl (drop_cons_lt X) (lD (vF d N C O f g ai D A G) Tya38 Tys38 rfl (fun j v hj=>ah.cell (kr.cell (aQ j v hj))) (aC zF.toArray ah Tyz38 (fun bm aV=>(sI 0 (.agg (vF d N C O f g ai D A G).toArray) ((vF d N C O f g ai D A G).toArray) aV Tys38 rfl rfl (fun bn ax=>(wt (wp_cut (fun a w=>∃ (ay:Nat→Value) (m:Int),a=fr 35 (updL ay [(1,.bool z),(4,pp V.heap.size 0),(5,pp W.heap.size 0),(7,pp ag.heap.size 0),(9,sl ae x c1),(10,iI (x.length:Int)),(11,iI (y:Int))])∧SR K ab wi w [] [.box wi.heap.size V.heap.size #[nS] 24,.box wi.heap.size W.heap.size #[sl t c u] 24,.box wi.heap.size ag.heap.size (vF d N C O f g m D A G).toArray 38,.row wi.heap.size (sl t c u) 38 6 c.length af]∧f88_j1 k z c y d C f g A m (f88_l1 k z B)=some r_) ?_ ?_)))))))
   ·refine sr (m1 (.bool z) (uN z (wt (cd h (fun al h=>?_) (fun al h=>?_)))))
    ·exact cT al (wp_region_lit (fd 4 Tyf38_4 rfl (sI 0 (iI 0) ((vF d N C O f g 0 D A G).toArray) ax Tys3 rfl rfl (fun bo aW=>(wt (⟨_,0,fR,(aW.sel [1,2,0,3] (by decide)),h⟩))))))
    ·exact cF al (wp_skip (thenN (⟨_,ai,fR,(ax.sel [1,2,0,3] (by decide)),h⟩)))
   ·rintro _ bp ⟨ay,m,rfl,am,h⟩
    unfold f88_j1 at h
    refine sr (fd 1 Tyf38_1 rfl (l1 2 (sl N C O) am Tya35 ?_))
    obtain ⟨q,aX,h⟩:=ob h
    refine cv ([sl N C O]) Tyb104 ((f104_ok k) _ _ _ _ _ _ aX (hG.mono ac) aT (pt am)) ?_
    rintro _ bq ⟨br,I,J,rfl,ad,aY⟩
    have aZ:=ca ad am
    refine fd 1 Tyf38_1 rfl (sI 2 (sl I q J) ((vF d I q J f g m D A G).toArray) aZ Tys35 rfl rfl (fun bs an=>(wt (sr (fd 5 Tyf38_5 rfl (l1 2 (sl D A G) an Tya36 (m1 (.bool z) ?_)))))))
    obtain ⟨s,a2,h⟩:=ob h
    refine cv ([sl D A G,.bool z]) Tyb108 ((f108_ok k) _ _ _ _ _ _ _ a2 (hG.mono (ac.trans ad.sub)) (ms aU ad.sub) (pt an)) ?_
    rintro _ bu ⟨aj,S,U,rfl,ak,a3⟩
    have a4:=ca ak an
    refine fd 5 Tyf38_5 rfl (sI 2 (sl S s U) ((vF d I q J f g m S s U).toArray) a4 Tys36 rfl rfl (fun bv ao=>(wt (wp_region_lit (fd 0 Tyf24_0 rfl (l1 1 (sl t c u) ao Tya22 (lN 2 (vF d I q J f g m S s U) ao Tya38 Tys38 (bsl (e:=38) (cells:=(vF d I q J f g m S s U).toArray) (vs:=[(0,.agg (vF d I q J f g m S s U).toArray)]) ao rfl (buildSl_one Tye22 Tys38 Tyz38 rfl (by decide) (by decide) rfl) (fun bw a5=>?_)))))))))
    obtain ⟨az,h⟩:=of_guard h
    refine apR (R:=(RDFunc aj)) (p:=(DFunc.mk d q f g m s)) (i:=4) (j:=0) a5 rfl rfl Tye22 Tyi38 rfl (by decide) rfl rfl (av.mono (fun _ _ h=>RDFunc.mono (ad.sub.trans ak.sub) h)) (RDFunc.intro aS (mp aY ak.sub) a3) rfl rfl (Nat.le_refl _) az (by decide) (fun Y Z ap a6 a7 a8=>?_)
    have a9:SR K aj wi a6 [] [.box wi.heap.size V.heap.size #[nS] 24,.box wi.heap.size W.heap.size #[sl t c u] 24,.box wi.heap.size ag.heap.size (vF d I q J f g m S s U).toArray 38,.row wi.heap.size (.slice Y (c ++ [(DFunc.mk d q f g m s)]).length Z) 38 6 (c ++ [(DFunc.mk d q f g m s)]).length ap]:=a7.sel [1,2,3,4] (by decide)
    refine fd 0 Tyf24_0 rfl (sI 1 (.slice Y (c ++ [(DFunc.mk d q f g m s)]).length Z) #[.slice Y (c ++ [(DFunc.mk d q f g m s)]).length Z] a9 Tys22 rfl rfl (fun ba bb=>?_))
    have bd:SR K aj wi ba [] [.box wi.heap.size V.heap.size #[nS] 24,.box wi.heap.size W.heap.size #[.slice Y (c ++ [(DFunc.mk d q f g m s)]).length Z] 24,.box wi.heap.size ag.heap.size (vF d I q J f g m S s U).toArray 38,.row wi.heap.size (.slice Y (c ++ [(DFunc.mk d q f g m s)]).length Z) 38 6 (c ++ [(DFunc.mk d q f g m s)]).length ap]:=bb
    exact wpList_nil (blkN (thenN (wp_region_lit (bar (r:=((y + 1:Nat):Int)) rfl rfl (inc_ok (le_big (((mf aq ac)).len) (by decide) (drop_cons_lt X))) (m1 (iI ((y + 1:Nat):Int)) (wt (⟨_,Nat.lt_succ_self _,_,aj,B,y + 1,(c ++ [(DFunc.mk d q f g m s)]),Y,Z,ap,rfl,fR,((ac.trans ad.sub).trans ak.sub),(bd.sel [0,1,3] (by decide)),drop_cons_next X,a8,(app_bound az),h⟩)))))))
theorem f88_ok (k:Nat):f88_spec (f88 k):=f88_b_ok k
theorem f50_b_ok (k:Nat):f50_spec (f50_b k):=by
 unfold f50_spec
 intro K wi r O r_ h hG s t
 obtain ⟨a⟩:=r
 obtain ⟨b,c1,rfl,p⟩:=RDProgram.open s
 refine enter Tryz.func50 rfl (n:=8) rfl ?_
 unfold f50_b at h
 refine sr (bxoC (cs:=#[sl b a c1]) t rfl rfl (fun S u=>(aC #[nS] u Tyz24 (fun U g=>(wt (sr (lN 1 ([sl b a c1]) g Tya24 Tys24 ?_)))))))
 obtain ⟨v,w,h⟩:=ob h
 refine cv ([.agg #[sl b a c1],vT]) Tyb78 ((f78_ok k) _ _ _ _ _ _ w (hG.mono kr) (RDProgram.intro p) (pt g)) ?_
 rintro _ V ⟨W,rfl,d⟩
 have j:=ca d g
 obtain ⟨X,x,h⟩:=ob h
 refine cp ([.bool v,iI 2]) Tyb58 ((f58_ok k) _ _ _ _ _ x (hG.mono d.sub) (pt j)) ?_ ?_
 ·rintro _ Y ⟨Z,rfl,rfl,m⟩
  have o:=ca m j
  refine wt (sr (lN 1 ([sl b a c1]) o Tya24 Tys24 ?_))
  obtain ⟨⟨c⟩,y,h⟩:=ob h
  refine cv ([.agg #[sl b a c1],vN]) Tyb88 ((f88_ok k) _ _ _ _ _ _ y (hG.mono (d.sub.trans m.sub)) (RDProgram.intro (mf p (d.sub.trans m.sub))) (pt o)) ?_
  rintro _ ab ⟨z,ac,rfl,A,B⟩
  have C:=ca A o
  obtain ⟨e,f,rfl,D⟩:=RDProgram.open B
  exact sI 0 (.agg #[sl e c f]) #[sl e c f] C Tys24 rfl rfl (fun ad q=>(wt (wp_ret (retP (retA1 rfl (resN (i:=0) (l:=[sl e c f]) q rfl Tya24 Tys24 rfl rfl rfl) ⟨(DProgram.mk c),z,[sl e c f],(oi h).symm,rfl,(q.sel [] (by decide)),(RDProgram.intro D)⟩)))))
 ·rintro _ ae ⟨G,I,rfl,rfl,J⟩
  have N:=ca J j
  exact thenP (panE (.inr ⟨_,rfl,G,I,(oi h).symm,rfl,N.sel [] (by decide)⟩))
theorem f50_ok (k:Nat):f50_spec (f50 k):=f50_b_ok k
theorem f1004904_b_ok (k:Nat):f1004904_spec (f1004904_b k):=by
 unfold f1004904_spec
 intro K wi g bs b c d gA bsA sA_0 AsA_0 csA_0 r_ h hG j hsA_0 a
 refine enter Tryz.func49 rfl (n:=4) rfl ?_
 unfold f1004904_b at h
 refine wp_region_lit (lN 0 ([sl c b d]) a Tya24 Tys24 ?_)
 obtain ⟨x,m,h⟩:=ob h
 refine cp ([.agg #[sl c b d]]) Tyb50 ((f50_ok k) _ _ _ _ _ m (hG.mono kr) (RDProgram.intro j) (pt a)) ?_ ?_
 ·rintro _ y ⟨⟨e⟩,o,z,rfl,rfl,l,p⟩
  have q:=ca l a
  obtain ⟨f,i,rfl,r⟩:=RDProgram.open p
  exact sI 1 (.agg #[sl f e i]) #[sl f e i] q Tys24 rfl rfl (fun A s=>(wpList_nil (retP (end0 rfl ⟨b,e,o,c,d,f,i,(oi h).symm,rfl,s,(mf j l.sub),r⟩))))
 ·rintro _ B ⟨t,u,rfl,rfl,v⟩
  have w:=ca v a
  exact panE (.inr ⟨_,rfl,t,u,(oi h).symm,rfl,w.sel [0,1] (by decide)⟩)
theorem f1004904_ok (k:Nat):f1004904_spec (f1004904 k):=f1004904_b_ok k
theorem f1004247_ok (k : Nat) : f1004247_spec (f1004247 k) := by
  unfold f1004247_spec
  intro K w g bs s_0 As_0 cs_0 gA bsA sA_0 AsA_0 csA_0 oz_0 ozA_0 or0 h hG hs_0 hsA_0 S0
  unfold f1004247 at h
  obtain ⟨r_, hr_⟩ : ∃ r_, r_ = f1004904 k (DProgram.mk s_0) (DProgram.mk sA_0) := ⟨_, rfl⟩
  rcases r_ with _ | r_
  · rw [← hr_] at h; cases h
  refine (guard_ok (R := fun w K_ H_ => ∃ (uz_0 : List DFunc) (uzA_0 : List DFunc) (uAz_0 : Option Addr) (ucz_0 : Nat) (uAzA_0 : Option Addr) (uczA_0 : Nat), r_ = .ok ((DProgram.mk uz_0), (DProgram.mk uzA_0)) ∧ H_ = [.box bs g #[.slice uAz_0 uz_0.length ucz_0] 24, .box bsA gA #[.slice uAzA_0 uzA_0.length uczA_0] 24] ∧ RSl DFunc (RDFunc K_) 6 88 K_ uAz_0 ucz_0 uz_0 ∧ RSl DFunc (RDFunc K_) 6 88 K_ uAzA_0 uczA_0 uzA_0) (R' := fun c_ K_ H_ => r_ = .error c_ ∧ H_ = [.box bs g #[.slice As_0 s_0.length cs_0] 24, .box bsA gA #[.slice AsA_0 sA_0.length csA_0] 24]) Tyb49 S0 (fun w1 S1 hle => ((f1004904_ok k) K w1 g bs s_0 As_0 cs_0 gA bsA sA_0 AsA_0 csA_0 r_ hr_.symm hG hs_0 hsA_0 S1).mono ?_)).mono ?_
  · rintro e_ w_ (⟨v_, rfl, uz_0, uzA_0, K_, uAz_0, ucz_0, uAzA_0, uczA_0, q1, q2, T_, k0, k1⟩ | ⟨v_, rfl, c_, K_, q1, q2, T_⟩)
    · exact .inl ⟨v_, rfl, K_, _, T_, uz_0, uzA_0, uAz_0, ucz_0, uAzA_0, uczA_0, q1, rfl, k0, k1⟩
    · exact .inr ⟨v_, rfl, c_, K_, _, q2, T_, q1, rfl⟩
  · rintro e_ w_ ⟨v_, rfl, ⟨w1, K_, H_, hle, rfl, T_, uz_0, uzA_0, uAz_0, ucz_0, uAzA_0, uczA_0, rfl, rfl, k0, k1⟩ | ⟨c_, K_, H_, rfl, T_, rfl, rfl⟩⟩
    · rw [← hr_] at h
      cases h
      exact ⟨_, rfl, K_, uAz_0, ucz_0, uAzA_0, uczA_0, rfl, T_, k0, k1⟩
    · rw [← hr_] at h
      cases h
      exact ⟨_, rfl, K_, _, _, _, _, rfl, T_, (hs_0.mono T_.sub (fun _ _ h => RDFunc.mono T_.sub h)), (hsA_0.mono T_.sub (fun _ _ h => RDFunc.mono T_.sub h))⟩
theorem f22_b_ok (k:Nat):f22_spec (f22_b k):=by
 unfold f22_spec
 intro K wi p A B C h hG q r
 obtain ⟨r_,hr_,h⟩:=rz h
 obtain ⟨f⟩:=p
 obtain ⟨g,c1,rfl,s⟩:=RDProgram.open q
 refine enter Tryz.func22 rfl (n:=8) rfl ?_
 unfold f22_b at h
 refine sr (bxoC (cs:=#[sl g f c1]) r rfl rfl (fun d t=>(aC #[nS] t Tyz24 (fun u v=>(m2 (iI 0) (wt (sr (mkf (us:=[]) (vs:=[pp wi.heap.size 0,pp d.heap.size 0]) rfl rfl ?_))))))))
 have j:SR K K wi u [] [.box wi.heap.size wi.heap.size #[sl g f c1] 24,.box wi.heap.size d.heap.size #[nS] 24]:=v.sel [1,0] (by decide)
 obtain ⟨⟨⟨D⟩,⟨a⟩,e⟩,w,h⟩:=ob h
 refine cv ([.func (.func 49) #[] #[pp wi.heap.size 0,pp d.heap.size 0]]) Tyb42 ((f1004247_ok k) _ _ _ _ _ _ _ _ _ _ _ _ _ _ _ w (hG.mono kr) s (RSl.nil _ _ _ _ _ _) (pt j)) ?_
 rintro _ G ⟨x,I,J,b,c,rfl,y,N,z⟩
 have m:=ca y j
 refine m2 (iI e) (wt (sr (lN 1 ([sl b a c]) m Tya24 Tys24 (m1 (iI e) (sI 1 (.agg #[sl b a c]) #[sl b a c] m Tys24 rfl rfl (fun O o=>(m2 (iI e) (wt (wp_ret ?_)))))))))
 cases (oi h).trans hr_
 exact retA2 rfl (resN (i:=1) (l:=[sl b a c]) o rfl Tya24 Tys24 rfl rfl rfl) (resT rfl) ⟨x,[sl b a c],rfl,(o.sel [] (by decide)),(RDProgram.intro z)⟩
theorem f22_ok (k:Nat):f22_spec (f22 k):=f22_b_ok k
theorem f66_b_ok (k:Nat):f66_spec (f66_b k):=by
 unfold f66_spec
 intro K wi b i h hG e
 obtain ⟨r_,hr_,h⟩:=rz h
 refine enter Tryz.func66 rfl (n:=9) rfl ?_
 unfold f66_b at h
 refine sr (m2 vN (wt (wp_cut (fun a w=>∃ (f:Nat→Value) (d:Bool),a=fr 9 (updL f [(2,.bool d)])∧SR K K wi w [] []∧f66_j1 k d=some r_) ?_ ?_)))
 ·refine wp_region_lit (m1 (.int .u8 b) (c0 (decide (b ≥ 97)) (m1 (.bool (decide (b ≥ 97))) (cd h (fun c h=>?_) (fun c h=>?_)))))
  ·exact n1 5 c (m1 (.int .u8 b) (n1 5 c (c0 (decide (b ≤ 122)) (m3 true (.bool (decide (b ≤ 122))) (cg c) (m2 (.bool (decide (b ≤ 122))) (wt (⟨_,(decide (b ≤ 122)),fR,e,h⟩)))))))
  ·exact o1 5 c (o1 5 c (m3 false vN (cg c) (m2 vN (wt (⟨_,false,fR,e,h⟩)))))
 ·rintro _ j ⟨f,d,rfl,g,h⟩
  unfold f66_j1 at h
  refine wp_ret ?_
  cases (oi h).trans hr_
  exact retA1 rfl (resT rfl) ⟨K,rfl,g⟩
theorem f66_ok (k:Nat):f66_spec (f66 k):=f66_b_ok k
theorem f67_b_ok (k:Nat):f67_spec (f67_b k):=by
 unfold f67_spec
 intro K wi b i h hG e
 obtain ⟨r_,hr_,h⟩:=rz h
 refine enter Tryz.func67 rfl (n:=9) rfl ?_
 unfold f67_b at h
 refine sr (m2 vN (wt (wp_cut (fun a w=>∃ (f:Nat→Value) (d:Bool),a=fr 9 (updL f [(2,.bool d)])∧SR K K wi w [] []∧f67_j1 k d=some r_) ?_ ?_)))
 ·refine wp_region_lit (m1 (.int .u8 b) (c0 (decide (b ≥ 48)) (m1 (.bool (decide (b ≥ 48))) (cd h (fun c h=>?_) (fun c h=>?_)))))
  ·exact n1 5 c (m1 (.int .u8 b) (n1 5 c (c0 (decide (b ≤ 57)) (m3 true (.bool (decide (b ≤ 57))) (cg c) (m2 (.bool (decide (b ≤ 57))) (wt (⟨_,(decide (b ≤ 57)),fR,e,h⟩)))))))
  ·exact o1 5 c (o1 5 c (m3 false vN (cg c) (m2 vN (wt (⟨_,false,fR,e,h⟩)))))
 ·rintro _ j ⟨f,d,rfl,g,h⟩
  unfold f67_j1 at h
  refine wp_ret ?_
  cases (oi h).trans hr_
  exact retA1 rfl (resT rfl) ⟨K,rfl,g⟩
theorem f67_ok (k:Nat):f67_spec (f67 k):=f67_b_ok k
theorem f97_b_ok (k:Nat):f97_spec (f97_b k):=by
 unfold f97_spec
 intro K wi f h hG a
 obtain ⟨r_,hr_,h⟩:=rz h
 refine enter Tryz.func97 rfl (n:=2) rfl ?_
 unfold f97_b at h
 refine sr (m2 nS (wt (sr (bsl (e:=9) (cells:=#[.string ⟨#[97,102,116,101,114]⟩,.string ⟨#[97,119,97,105,116]⟩,.string ⟨#[98,111,111,108]⟩,.string ⟨#[98,114,101,97,107]⟩,.string ⟨#[98,117,102,102,101,114]⟩,.string ⟨#[99,97,110,99,101,108]⟩,.string ⟨#[99,97,116,99,104]⟩,.string ⟨#[99,104,97,110]⟩,.string ⟨#[99,108,111,115,101]⟩,.string ⟨#[99,111,110,116,105,110,117,101]⟩,.string ⟨#[100,114,111,112]⟩,.string ⟨#[101,97,99,104]⟩,.string ⟨#[101,108,115,101]⟩,.string ⟨#[101,109,105,116]⟩,.string ⟨#[102,97,108,115,101]⟩,.string ⟨#[102,105,110,97,108,108,121]⟩,.string ⟨#[102,108,111,119]⟩,.string ⟨#[102,110]⟩,.string ⟨#[102,114,111,109]⟩,.string ⟨#[104,111,108,100]⟩,.string ⟨#[105,102]⟩,.string ⟨#[105,110,116]⟩,.string ⟨#[108,101,116]⟩,.string ⟨#[108,111,99,107]⟩,.string ⟨#[110,101,119]⟩,.string ⟨#[110,111,119]⟩,.string ⟨#[111,108,100]⟩,.string ⟨#[112,114,111,100,117,99,101]⟩,.string ⟨#[114,101,99,101,105,118,101]⟩,.string ⟨#[114,101,116,117,114,110]⟩,.string ⟨#[115,99,111,112,101]⟩,.string ⟨#[115,101,108,101,99,116]⟩,.string ⟨#[115,101,110,100]⟩,.string ⟨#[115,104,105,101,108,100]⟩,.string ⟨#[115,108,101,101,112]⟩,.string ⟨#[115,112,97,119,110]⟩,.string ⟨#[115,117,112,101,114,118,105,115,101,100]⟩,.string ⟨#[116,97,115,107]⟩,.string ⟨#[116,101,120,116]⟩,.string ⟨#[116,104,114,111,119]⟩,.string ⟨#[116,114,117,101]⟩,.string ⟨#[116,114,121]⟩,.string ⟨#[117,115,101]⟩,.string ⟨#[119,104,105,108,101]⟩,.string ⟨#[119,105,116,104,105,110]⟩,.string ⟨#[121,105,101,108,100]⟩]) (vs:=[(0,.string ⟨#[97,102,116,101,114]⟩),(1,.string ⟨#[97,119,97,105,116]⟩),(2,.string ⟨#[98,111,111,108]⟩),(3,.string ⟨#[98,114,101,97,107]⟩),(4,.string ⟨#[98,117,102,102,101,114]⟩),(5,.string ⟨#[99,97,110,99,101,108]⟩),(6,.string ⟨#[99,97,116,99,104]⟩),(7,.string ⟨#[99,104,97,110]⟩),(8,.string ⟨#[99,108,111,115,101]⟩),(9,.string ⟨#[99,111,110,116,105,110,117,101]⟩),(10,.string ⟨#[100,114,111,112]⟩),(11,.string ⟨#[101,97,99,104]⟩),(12,.string ⟨#[101,108,115,101]⟩),(13,.string ⟨#[101,109,105,116]⟩),(14,.string ⟨#[102,97,108,115,101]⟩),(15,.string ⟨#[102,105,110,97,108,108,121]⟩),(16,.string ⟨#[102,108,111,119]⟩),(17,.string ⟨#[102,110]⟩),(18,.string ⟨#[102,114,111,109]⟩),(19,.string ⟨#[104,111,108,100]⟩),(20,.string ⟨#[105,102]⟩),(21,.string ⟨#[105,110,116]⟩),(22,.string ⟨#[108,101,116]⟩),(23,.string ⟨#[108,111,99,107]⟩),(24,.string ⟨#[110,101,119]⟩),(25,.string ⟨#[110,111,119]⟩),(26,.string ⟨#[111,108,100]⟩),(27,.string ⟨#[112,114,111,100,117,99,101]⟩),(28,.string ⟨#[114,101,99,101,105,118,101]⟩),(29,.string ⟨#[114,101,116,117,114,110]⟩),(30,.string ⟨#[115,99,111,112,101]⟩),(31,.string ⟨#[115,101,108,101,99,116]⟩),(32,.string ⟨#[115,101,110,100]⟩),(33,.string ⟨#[115,104,105,101,108,100]⟩),(34,.string ⟨#[115,108,101,101,112]⟩),(35,.string ⟨#[115,112,97,119,110]⟩),(36,.string ⟨#[115,117,112,101,114,118,105,115,101,100]⟩),(37,.string ⟨#[116,97,115,107]⟩),(38,.string ⟨#[116,101,120,116]⟩),(39,.string ⟨#[116,104,114,111,119]⟩),(40,.string ⟨#[116,114,117,101]⟩),(41,.string ⟨#[116,114,121]⟩),(42,.string ⟨#[117,115,101]⟩),(43,.string ⟨#[119,104,105,108,101]⟩),(44,.string ⟨#[119,105,116,104,105,110]⟩),(45,.string ⟨#[121,105,101,108,100]⟩)]) a rfl (fun w=>by kernel_rfl) (fun g a=>(m2 (.slice (some ⟨wi.heap.size,0,none⟩) 46 46) (wt (wp_ret ?_))))))))
 obtain ⟨b,c,j,d⟩:=frzI (i:=0) (bytes:=16) (xs:=[⟨#[97,102,116,101,114]⟩,⟨#[97,119,97,105,116]⟩,⟨#[98,111,111,108]⟩,⟨#[98,114,101,97,107]⟩,⟨#[98,117,102,102,101,114]⟩,⟨#[99,97,110,99,101,108]⟩,⟨#[99,97,116,99,104]⟩,⟨#[99,104,97,110]⟩,⟨#[99,108,111,115,101]⟩,⟨#[99,111,110,116,105,110,117,101]⟩,⟨#[100,114,111,112]⟩,⟨#[101,97,99,104]⟩,⟨#[101,108,115,101]⟩,⟨#[101,109,105,116]⟩,⟨#[102,97,108,115,101]⟩,⟨#[102,105,110,97,108,108,121]⟩,⟨#[102,108,111,119]⟩,⟨#[102,110]⟩,⟨#[102,114,111,109]⟩,⟨#[104,111,108,100]⟩,⟨#[105,102]⟩,⟨#[105,110,116]⟩,⟨#[108,101,116]⟩,⟨#[108,111,99,107]⟩,⟨#[110,101,119]⟩,⟨#[110,111,119]⟩,⟨#[111,108,100]⟩,⟨#[112,114,111,100,117,99,101]⟩,⟨#[114,101,99,101,105,118,101]⟩,⟨#[114,101,116,117,114,110]⟩,⟨#[115,99,111,112,101]⟩,⟨#[115,101,108,101,99,116]⟩,⟨#[115,101,110,100]⟩,⟨#[115,104,105,101,108,100]⟩,⟨#[115,108,101,101,112]⟩,⟨#[115,112,97,119,110]⟩,⟨#[115,117,112,101,114,118,105,115,101,100]⟩,⟨#[116,97,115,107]⟩,⟨#[116,101,120,116]⟩,⟨#[116,104,114,111,119]⟩,⟨#[116,114,117,101]⟩,⟨#[116,114,121]⟩,⟨#[117,115,101]⟩,⟨#[119,104,105,108,101]⟩,⟨#[119,105,116,104,105,110]⟩,⟨#[121,105,101,108,100]⟩]) (R:=fun K=>RStr) a rfl (Nat.le_refl _) ⟨[.string ⟨#[97,102,116,101,114]⟩],_,rfl,rfl,⟨rfl,(by decide)⟩,⟨[.string ⟨#[97,119,97,105,116]⟩],_,rfl,rfl,⟨rfl,(by decide)⟩,⟨[.string ⟨#[98,111,111,108]⟩],_,rfl,rfl,⟨rfl,(by decide)⟩,⟨[.string ⟨#[98,114,101,97,107]⟩],_,rfl,rfl,⟨rfl,(by decide)⟩,⟨[.string ⟨#[98,117,102,102,101,114]⟩],_,rfl,rfl,⟨rfl,(by decide)⟩,⟨[.string ⟨#[99,97,110,99,101,108]⟩],_,rfl,rfl,⟨rfl,(by decide)⟩,⟨[.string ⟨#[99,97,116,99,104]⟩],_,rfl,rfl,⟨rfl,(by decide)⟩,⟨[.string ⟨#[99,104,97,110]⟩],_,rfl,rfl,⟨rfl,(by decide)⟩,⟨[.string ⟨#[99,108,111,115,101]⟩],_,rfl,rfl,⟨rfl,(by decide)⟩,⟨[.string ⟨#[99,111,110,116,105,110,117,101]⟩],_,rfl,rfl,⟨rfl,(by decide)⟩,⟨[.string ⟨#[100,114,111,112]⟩],_,rfl,rfl,⟨rfl,(by decide)⟩,⟨[.string ⟨#[101,97,99,104]⟩],_,rfl,rfl,⟨rfl,(by decide)⟩,⟨[.string ⟨#[101,108,115,101]⟩],_,rfl,rfl,⟨rfl,(by decide)⟩,⟨[.string ⟨#[101,109,105,116]⟩],_,rfl,rfl,⟨rfl,(by decide)⟩,⟨[.string ⟨#[102,97,108,115,101]⟩],_,rfl,rfl,⟨rfl,(by decide)⟩,⟨[.string ⟨#[102,105,110,97,108,108,121]⟩],_,rfl,rfl,⟨rfl,(by decide)⟩,⟨[.string ⟨#[102,108,111,119]⟩],_,rfl,rfl,⟨rfl,(by decide)⟩,⟨[.string ⟨#[102,110]⟩],_,rfl,rfl,⟨rfl,(by decide)⟩,⟨[.string ⟨#[102,114,111,109]⟩],_,rfl,rfl,⟨rfl,(by decide)⟩,⟨[.string ⟨#[104,111,108,100]⟩],_,rfl,rfl,⟨rfl,(by decide)⟩,⟨[.string ⟨#[105,102]⟩],_,rfl,rfl,⟨rfl,(by decide)⟩,⟨[.string ⟨#[105,110,116]⟩],_,rfl,rfl,⟨rfl,(by decide)⟩,⟨[.string ⟨#[108,101,116]⟩],_,rfl,rfl,⟨rfl,(by decide)⟩,⟨[.string ⟨#[108,111,99,107]⟩],_,rfl,rfl,⟨rfl,(by decide)⟩,⟨[.string ⟨#[110,101,119]⟩],_,rfl,rfl,⟨rfl,(by decide)⟩,⟨[.string ⟨#[110,111,119]⟩],_,rfl,rfl,⟨rfl,(by decide)⟩,⟨[.string ⟨#[111,108,100]⟩],_,rfl,rfl,⟨rfl,(by decide)⟩,⟨[.string ⟨#[112,114,111,100,117,99,101]⟩],_,rfl,rfl,⟨rfl,(by decide)⟩,⟨[.string ⟨#[114,101,99,101,105,118,101]⟩],_,rfl,rfl,⟨rfl,(by decide)⟩,⟨[.string ⟨#[114,101,116,117,114,110]⟩],_,rfl,rfl,⟨rfl,(by decide)⟩,⟨[.string ⟨#[115,99,111,112,101]⟩],_,rfl,rfl,⟨rfl,(by decide)⟩,⟨[.string ⟨#[115,101,108,101,99,116]⟩],_,rfl,rfl,⟨rfl,(by decide)⟩,⟨[.string ⟨#[115,101,110,100]⟩],_,rfl,rfl,⟨rfl,(by decide)⟩,⟨[.string ⟨#[115,104,105,101,108,100]⟩],_,rfl,rfl,⟨rfl,(by decide)⟩,⟨[.string ⟨#[115,108,101,101,112]⟩],_,rfl,rfl,⟨rfl,(by decide)⟩,⟨[.string ⟨#[115,112,97,119,110]⟩],_,rfl,rfl,⟨rfl,(by decide)⟩,⟨[.string ⟨#[115,117,112,101,114,118,105,115,101,100]⟩],_,rfl,rfl,⟨rfl,(by decide)⟩,⟨[.string ⟨#[116,97,115,107]⟩],_,rfl,rfl,⟨rfl,(by decide)⟩,⟨[.string ⟨#[116,101,120,116]⟩],_,rfl,rfl,⟨rfl,(by decide)⟩,⟨[.string ⟨#[116,104,114,111,119]⟩],_,rfl,rfl,⟨rfl,(by decide)⟩,⟨[.string ⟨#[116,114,117,101]⟩],_,rfl,rfl,⟨rfl,(by decide)⟩,⟨[.string ⟨#[116,114,121]⟩],_,rfl,rfl,⟨rfl,(by decide)⟩,⟨[.string ⟨#[117,115,101]⟩],_,rfl,rfl,⟨rfl,(by decide)⟩,⟨[.string ⟨#[119,104,105,108,101]⟩],_,rfl,rfl,⟨rfl,(by decide)⟩,⟨[.string ⟨#[119,105,116,104,105,110]⟩],_,rfl,rfl,⟨rfl,(by decide)⟩,⟨[.string ⟨#[121,105,101,108,100]⟩],_,rfl,rfl,⟨rfl,(by decide)⟩,(reps0 (R:=RStr) (size:=1))⟩⟩⟩⟩⟩⟩⟩⟩⟩⟩⟩⟩⟩⟩⟩⟩⟩⟩⟩⟩⟩⟩⟩⟩⟩⟩⟩⟩⟩⟩⟩⟩⟩⟩⟩⟩⟩⟩⟩⟩⟩⟩⟩⟩⟩⟩ rfl (by decide) (fun hs=>(fun _ _ h=>h))
 cases (oi h).trans hr_
 exact retA1 rfl (resT rfl) ⟨b,(some ⟨wi.heap.size,0,none⟩),46,rfl,c,d⟩
theorem f97_ok (k:Nat):f97_spec (f97 k):=f97_b_ok k
theorem f68_b_ok (k:Nat):f68_spec (f68_b k):=by
 unfold f68_spec
 intro K wi l d h hG J s
 obtain ⟨r_,hr_,h⟩:=rz h
 refine enter Tryz.func68 rfl (n:=18) rfl ?_
 unfold f68_b at h
 refine sr (m2 vN (wt (sr ?_)))
 obtain ⟨d,y,h⟩:=ob h
 refine cv ([]) Tyb97 ((f97_ok k) _ _ _ y (hG.mono kr) (pt s)) ?_
 rintro _ N ⟨p,g,j,rfl,z,t⟩
 have A:=ca z s
 refine m2 (sl g d j) (wt (wp_seq (sr (m2 (iI 0) (wt (wp_block (wp_loopG (fun g_ a w=>∃ (u:Nat→Value) (e:LB) (c:Nat),g_=e.length∧a=fr 18 (updL u [(0,.string l),(3,sl g d j),(4,iI (c:Int))])∧SR K p wi w [] []∧d.drop c=e∧f68_l1 k l e c=some r_) d.length ?_ ?_)))))))
 ·exact ⟨_,d,0,rfl,fR,A,List.drop_zero,h⟩
 ·rintro _ _ O ⟨u,e,c,rfl,rfl,m,f,h⟩
  rcases e with _ | ⟨x,e⟩
  ·unfold f68_l1 at h
   refine wp_seq (sr (m1 (iI (c:Int)) (m1 (sl g d j) (lS d.length Tye46 (bcm (r:=false) rfl rfl (congrArg some (drop_nil_lt f)) (wt (cndF rfl (wp_exit (thenX (thenX (blkX (thenN (sr (m2 vN (wt (wp_ret ?_))))))))))))))))
   cases (oi h).trans hr_
   exact retA1 rfl (resT rfl) ⟨p,rfl,m⟩
  ·unfold f68_l1 at h
   refine wp_seq (sr (m1 (iI (c:Int)) (m1 (sl g d j) (lS d.length Tye46 (bcm (r:=true) rfl rfl (congrArg some (drop_cons_t f)) (wt (cndT rfl (wp_skip (thenN (wp_seq (wp_block (sr (m1 (sl g d j) (m1 (iI (c:Int)) ?_))))))))))))))
   obtain ⟨B,C,S,D,U,G,I⟩:=(t).row.at_ (drop_cons_at f)
   obtain ⟨rfl,V⟩:=I
   refine idxN (b:=B) (o:=C) (i:=c) Tye46 Tys9 rfl D rfl (drop_cons_lt f) (ld1 (v:=.string x) Tya9 rfl (m.cell (kr.cell (G 0 _ rfl))) (m1 (.string l) (bsc (r:=(seq x l)) rfl rfl rfl (wt (cd h (fun q h=>?_) (fun q h=>?_))))))
   ·refine cT q (sr (m2 vT (wt (wp_ret (blkR (thenR (thenR (blkR (thenR ?_)))))))))
    cases (oi h).trans hr_
    exact retA1 rfl (resT rfl) ⟨p,rfl,m⟩
   ·exact cF q (wp_skip (blkN (thenN (wp_region_lit (m1 (iI (c:Int)) (bar (r:=((c + 1:Nat):Int)) rfl rfl (inc_ok (le_big ((t).len) (by decide) (drop_cons_lt f))) (m2 (iI ((c + 1:Nat):Int)) (wt (⟨_,Nat.lt_succ_self _,_,e,c + 1,rfl,fR,m,drop_cons_next f,h⟩)))))))))
theorem f68_ok (k:Nat):f68_spec (f68 k):=f68_b_ok k
theorem f34_b_ok (k:Nat):f34_spec (f34_b k):=by
 unfold f34_spec
 intro K wi b af h hG A U
 obtain ⟨r_,hr_,h⟩:=rz h
 refine enter Tryz.func34 rfl (n:=39) rfl ?_
 unfold f34_b at h
 refine sr (m2 vN (wt (wp_seq (sr (m2 (iI 0) (wt (wp_block (wp_loopG (fun g_ a w=>∃ (B:Nat→Value) (j:KH) (i:List UInt8) (c:Nat),g_=i.length∧a=fr 39 (updL B [(0,.string b),(3,iI (c:Int))])∧KH.sub K j∧SR K j wi w [] []∧b.data.toList.drop c=i∧f34_l1 k b i c=some r_) b.data.toList.length ?_ ?_))))))))
 ·exact ⟨_,K,b.data.toList,0,rfl,fR,kr,U,List.drop_zero,h⟩
 ·rintro _ _ ag ⟨B,j,i,c,rfl,rfl,q,l,m,h⟩
  rcases i with _ | ⟨C,i⟩
  ·unfold f34_l1 at h
   refine wp_seq (sr (m1 (iI (c:Int)) (m1 (.string b) (lnT (a:=b) Tyt9 rfl (bcm (r:=false) rfl rfl (congrArg some (drop_nil_ls m)) (wt (cndF rfl (wp_exit (thenX (thenX (blkX (thenN (wp_cut (fun a w=>∃ (D:Nat→Value) (s:KH) (x:Bool),a=fr 39 (updL D [(2,.bool x)])∧KH.sub j s∧SR K s wi w [] []∧f34_j1 k x=some r_) ?_ ?_)))))))))))))
   ·refine wp_region_lit (m1 (.string b) (lnT (a:=b) Tyt9 rfl (c0 (decide ((b.size:Int) ≥ 1)) (m1 (.bool (decide ((b.size:Int) ≥ 1))) (cd h (fun f h=>?_) (fun f h=>?_))))))
    ·refine n1 29 f (m1 (.string b) (n1 29 f (lnT (a:=b) Tyt9 rfl (n1 29 f (c0 (decide ((b.size:Int) ≤ 12)) (m3 true (.bool (decide ((b.size:Int) ≤ 12))) (cg f) (m1 (.bool (decide ((b.size:Int) ≤ 12))) (cd h (fun g h=>?_) (fun g h=>?_)))))))))
     ·refine n1 34 g (m1 (.string b) (n1 34 g ?_))
      obtain ⟨t,V,h⟩:=ob h
      refine cv ([.string b]) Tyb68 ((f68_ok k) _ _ _ _ V (hG.mono q) A (pt l)) ?_
      rintro _ ah ⟨W,rfl,G⟩
      have X:=ca G l
      exact n1 34 g (uN t (m3 true (.bool (!t)) (cg g) (m2 (.bool (!t)) (wt (⟨_,W,(!t),fR,G.sub,X,h⟩)))))
     ·exact o1 34 g (o1 34 g (o1 34 g (m3 false vN (cg g) (m2 vN (wt (⟨_,j,false,fR,kr,l,h⟩))))))
    ·exact o1 29 f (o1 29 f (o1 29 f (m3 false vN (cg f) (m1 vN (o0 34 (o0 34 (o0 34 (m3 false vN rfl (m2 vN (wt (⟨_,j,false,fR,kr,l,h⟩)))))))))))
   ·rintro _ ai ⟨D,s,x,rfl,aj,Y,h⟩
    unfold f34_j1 at h
    refine wp_ret ?_
    cases (oi h).trans hr_
    exact retA1 rfl (resT rfl) ⟨s,rfl,Y⟩
  ·unfold f34_l1 at h
   refine wp_seq (sr (m1 (iI (c:Int)) (m1 (.string b) (lnT (a:=b) Tyt9 rfl (bcm (r:=true) rfl rfl (congrArg some (drop_cons_ts m)) (wt (cndT rfl (wp_skip (thenN (wp_seq (wp_block (wp_cut (fun a w=>∃ (I:Nat→Value) (o:KH) (y:Bool),a=fr 39 (updL I [(0,.string b),(3,iI (c:Int)),(25,.bool y)])∧KH.sub j o∧SR K o wi w [] []∧f34_j2 k c y (f34_l1 k b i)=some r_) ?_ ?_))))))))))))
   ·refine wp_region_lit (m1 (.string b) (m1 (iI (c:Int)) (ixN Tyt9 rfl rfl m ?_)))
    obtain ⟨J,Z,h⟩:=ob h
    refine cv ([.int .u8 (C.toNat:Int)]) Tyb66 ((f66_ok k) _ _ _ _ Z (hG.mono q) (pt l)) ?_
    rintro _ ak ⟨N,rfl,p⟩
    have u:=ca p l
    refine uN J (m1 (.bool (!J)) (cd h (fun d h=>?_) (fun d h=>?_)))
    ·refine n1 15 d (m1 (iI (c:Int)) (n1 15 d (c0 ((c:Int) == 0) (n1 15 d (m1 (.bool ((c:Int) == 0)) (cd h (fun e h=>?_) (fun e h=>?_)))))))
     ·exact o1 18 e (o1 18 e (o1 18 e (o1 18 e (o1 18 e (n1 15 d (m3 true vT (cg e) (m3 true vT (cg d) (wt (⟨_,N,true,fR,p.sub,u,h⟩)))))))))
     ·refine n1 18 e (m1 (.string b) (n1 18 e (m1 (iI (c:Int)) (n1 18 e (ixN Tyt9 rfl rfl m (n1 18 e ?_))))))
      obtain ⟨v,ab,h⟩:=ob h
      refine cv ([.int .u8 (C.toNat:Int)]) Tyb67 ((f67_ok k) _ _ _ _ ab (hG.mono (q.trans p.sub)) (pt u)) ?_
      rintro _ al ⟨ac,rfl,O⟩
      have ad:=ca O u
      exact n1 18 e (uN v (n1 15 d (m3 false (.bool (!v)) (cg e) (m3 true (.bool (!v)) (cg d) (wt (⟨_,ac,(!v),fR,(p.sub.trans O.sub),ad,h⟩))))))
    ·exact o1 15 d (o1 15 d (o1 15 d (ou 18 (ou 18 (ou 18 (ou 18 (ou 18 (o1 15 d (m3 false vN (cg d) (wt (⟨_,N,false,fR,p.sub,u,h⟩)))))))))))
   ·rintro _ am ⟨I,o,y,rfl,ae,S,h⟩
    unfold f34_j2 at h
    refine cd h (fun z h=>?_) (fun z h=>?_)
    ·refine cT z (sr (m2 vN (wt (wp_ret (blkR (thenR (thenR (blkR (thenR ?_)))))))))
     cases (oi h).trans hr_
     exact retA1 rfl (resT rfl) ⟨o,rfl,S⟩
    ·exact cF z (wp_skip (blkN (thenN (wp_region_lit (m1 (iI (c:Int)) (bar (r:=((c + 1:Nat):Int)) rfl rfl (inc_ok (le_bigs A m)) (m2 (iI ((c + 1:Nat):Int)) (wt (⟨_,Nat.lt_succ_self _,_,o,i,c + 1,rfl,fR,(q.trans ae),S,drop_cons_next m,h⟩)))))))))
theorem f34_ok (k:Nat):f34_spec (f34 k):=f34_b_ok k
theorem f59_b_ok (k:Nat):f59_spec (f59_b k):=by
 unfold f59_spec
 intro K wi g bs d e i b j l m h hG c
 obtain ⟨r_,hr_,h⟩:=rz h
 refine enter Tryz.func59 rfl (n:=9) rfl ?_
 unfold f59_b at h
 refine sr (m1 (.bool b) (uN b (wt (cd h (fun a h=>?_) (fun a h=>?_)))))
 ·refine cT a (wp_region_lit (m1 (pp g 0) (nilc rfl (fd 2 Tyf56_2 rfl (sI 0 vT #[iI d,iI e,vT] c Tys4 rfl rfl (fun o f=>(wpList_nil ?_)))))))
  cases (oi h).trans hr_
  exact end0 rfl ⟨K,rfl,f⟩
 ·refine cF a (wp_skip ?_)
  cases (oi h).trans hr_
  exact end0 rfl ⟨K,rfl,c⟩
theorem f59_ok (k:Nat):f59_spec (f59 k):=f59_b_ok k
theorem f60_b_ok (k:Nat):f60_spec (f60_b k):=by
 unfold f60_spec
 intro K wi g bs c e i d t u v h hG j
 obtain ⟨r_,hr_,h⟩:=rz h
 refine enter Tryz.func60 rfl (n:=32) rfl ?_
 unfold f60_b at h
 refine sr (m1 (pp g 0) (nilc rfl (fd 0 Tyf56_0 rfl (l1 0 (iI c) j Tya3 (bar (r:=(w64 (c + 1))) rfl rfl rfl (nilc rfl (fd 0 Tyf56_0 rfl (sI 0 (iI (w64 (c + 1))) #[iI (w64 (c + 1)),iI e,.bool i] j Tys3 rfl rfl (fun x j=>(wt (sr (m1 (pp g 0) (m1 (pp g 0) (nilc rfl (fd 1 Tyf56_1 rfl (l1 0 (iI e) j Tya3 (m1 (iI d) (mxb (a:=e) (b:=d) rfl rfl (nilc rfl (fd 1 Tyf56_1 rfl (sI 0 (iI (imax e d)) #[iI (w64 (c + 1)),iI (imax e d),.bool i] j Tys3 rfl rfl (fun y l=>(wt (wp_cut (fun a w=>∃ (p:Nat→Value) (m:Bool),a=fr 32 (updL p [(0,pp g 0),(28,.bool m)])∧SR K K wi w [.box bs g #[iI c,iI e,.bool i] 56] [.box bs g #[iI (w64 (c + 1)),iI (imax e d),.bool i] 56]∧f60_j1 k c e i d m=some r_) ?_ ?_))))))))))))))))))))))))
 ·refine wp_region_lit (m1 (pp g 0) (nilc rfl (fd 0 Tyf56_0 rfl (l1 0 (iI (w64 (c + 1))) l Tya3 (c0 (decide ((w64 (c + 1)) > 600)) (m1 (.bool (decide ((w64 (c + 1)) > 600))) (cd h (fun f h=>?_) (fun f h=>?_))))))))
  ·exact o1 25 f (o1 25 f (m3 true vT (cg f) (wt (⟨_,true,fR,l,h⟩))))
  ·exact n1 25 f (m1 (iI d) (n1 25 f (c0 (decide (d > 16)) (m3 false (.bool (decide (d > 16))) (cg f) (wt (⟨_,(decide (d > 16)),fR,l,h⟩))))))
 ·rintro _ z ⟨p,m,rfl,q,h⟩
  unfold f60_j1 at h
  refine cd h (fun o h=>?_) (fun o h=>?_)
  ·refine cT o (wp_region_lit (m1 (pp g 0) (nilc rfl (fd 2 Tyf56_2 rfl (sI 0 vT #[iI (w64 (c + 1)),iI (imax e d),vT] q Tys4 rfl rfl (fun A s=>(wpList_nil ?_)))))))
   cases (oi h).trans hr_
   exact end0 rfl ⟨K,rfl,s⟩
  ·refine cF o (wp_skip ?_)
   cases (oi h).trans hr_
   exact end0 rfl ⟨K,rfl,q⟩
theorem f60_ok (k:Nat):f60_spec (f60 k):=f60_b_ok k
theorem f109_b_ok (k:Nat):f109_spec (f109_b k):=by
 unfold f109_spec
 intro K wi b aI aJ h hG e
 obtain ⟨r_,hr_,h⟩:=rz h
 refine enter Tryz.func109 rfl (n:=69) rfl ?_
 unfold f109_b at h
 refine sr (aC #[iI 0,iI 0,iI 0,vN,vN,iI 0] e Tyz143 (fun aK e=>(m2 vN (wt (wp_seq (sr (m1 (iI b) (wt (wp_block (wp_cut (fun a w=>∃ (ah:Nat→Value) (m:Bool),a=fr 69 (updL ah [(2,pp wi.heap.size 0),(4,iI b),(5,.bool m)])∧SR K K wi w [] [.box wi.heap.size wi.heap.size #[iI 0,iI 0,iI 0,vN,vN,iI 0] 143]∧f109_j1 k b m=some r_) ?_ ?_))))))))))
 ·refine sr (c0 (b == 1) (m2 (.bool (b == 1)) (wt (cd h (fun o h=>?_) (fun o h=>?_)))))
  ·exact cT o (wp_skip (thenN (⟨_,(b == 1),fR,e,h⟩)))
  ·refine cF o (sr (c0 (b == 2) (m2 (.bool (b == 2)) (wt (cd h (fun p h=>?_) (fun p h=>?_))))))
   ·exact cT p (wp_skip (thenN (⟨_,(b == 2),fR,e,h⟩)))
   ·exact cF p (wp_region_lit (c0 (b == 8) (m2 (.bool (b == 8)) (wt (⟨_,(b == 8),fR,e,h⟩)))))
 ·rintro _ aL ⟨ah,m,rfl,f,h⟩
  unfold f109_j1 at h
  refine cd h (fun q h=>?_) (fun q h=>?_)
  ·refine cT q (sr (bld (cells:=#[iI 1,iI 1,iI 1,vN,vN,iI 0]) (vs:=[(0,iI 1),(1,iI 1),(2,iI 1)]) rfl (fun w=>by kernel_rfl) (sI 0 (.agg #[iI 1,iI 1,iI 1,vN,vN,iI 0]) #[iI 1,iI 1,iI 1,vN,vN,iI 0] f Tys143 rfl rfl (fun aM ai=>(m2 vT (wt (wp_ret (blkR (thenR ?_)))))))))
   cases (oi h).trans hr_
   exact retA2 rfl (resN (i:=0) (l:=[iI 1,iI 1,iI 1,vN,vN,iI 0]) ai rfl Tya143 Tys143 rfl rfl rfl) (resT rfl) ⟨K,[iI 1,iI 1,iI 1,vN,vN,iI 0],rfl,(ai.sel [] (by decide)),.mk⟩
  ·refine cF q (sr (c0 (b == 7) (m2 (.bool (b == 7)) (wt (cd h (fun r h=>?_) (fun r h=>?_))))))
   ·refine cT r (sr (bld (cells:=#[iI 1,iI 1,iI 1,vN,vN,iI 2]) (vs:=[(0,iI 1),(1,iI 1),(2,iI 1),(5,iI 2)]) rfl (fun w=>by kernel_rfl) (sI 0 (.agg #[iI 1,iI 1,iI 1,vN,vN,iI 2]) #[iI 1,iI 1,iI 1,vN,vN,iI 2] f Tys143 rfl rfl (fun aN aj=>(m2 vT (wt (wp_ret (blkR (thenR ?_)))))))))
    cases (oi h).trans hr_
    exact retA2 rfl (resN (i:=0) (l:=[iI 1,iI 1,iI 1,vN,vN,iI 2]) aj rfl Tya143 Tys143 rfl rfl rfl) (resT rfl) ⟨K,[iI 1,iI 1,iI 1,vN,vN,iI 2],rfl,(aj.sel [] (by decide)),.mk⟩
   ·refine cF r (sr (c0 (b == 9) (m2 (.bool (b == 9)) (wt (cd h (fun s h=>?_) (fun s h=>?_))))))
    ·refine cT s (sr (bld (cells:=#[iI 0,iI 0,iI 1,vN,vN,iI 0]) (vs:=[(2,iI 1)]) rfl (fun w=>by kernel_rfl) (sI 0 (.agg #[iI 0,iI 0,iI 1,vN,vN,iI 0]) #[iI 0,iI 0,iI 1,vN,vN,iI 0] f Tys143 rfl rfl (fun aP ak=>(m2 vT (wt (wp_ret (blkR (thenR ?_)))))))))
     cases (oi h).trans hr_
     exact retA2 rfl (resN (i:=0) (l:=[iI 0,iI 0,iI 1,vN,vN,iI 0]) ak rfl Tya143 Tys143 rfl rfl rfl) (resT rfl) ⟨K,[iI 0,iI 0,iI 1,vN,vN,iI 0],rfl,(ak.sel [] (by decide)),.mk⟩
    ·refine cF s (wp_cut (fun a w=>∃ (al:Nat→Value) (t:Bool),a=fr 69 (updL al [(2,pp wi.heap.size 0),(4,iI b),(16,.bool t)])∧SR K K wi w [] [.box wi.heap.size wi.heap.size #[iI 0,iI 0,iI 0,vN,vN,iI 0] 143]∧f109_j2 k b t=some r_) ?_ ?_)
     ·refine sr (c0 (b == 3) (m2 (.bool (b == 3)) (wt (cd h (fun u h=>?_) (fun u h=>?_)))))
      ·exact cT u (wp_skip (thenN (⟨_,(b == 3),fR,f,h⟩)))
      ·exact cF u (wp_region_lit (c0 (b == 4) (m2 (.bool (b == 4)) (wt (⟨_,(b == 4),fR,f,h⟩)))))
     ·rintro _ aQ ⟨al,t,rfl,c,h⟩
      unfold f109_j2 at h
      refine cd h (fun v h=>?_) (fun v h=>?_)
      ·refine cT v (sr (bld (cells:=#[iI 0,iI 600,iI 2,vT,vN,iI 0]) (vs:=[(1,iI 600),(2,iI 2),(3,vT)]) rfl (fun w=>by kernel_rfl) (sI 0 (.agg #[iI 0,iI 600,iI 2,vT,vN,iI 0]) #[iI 0,iI 600,iI 2,vT,vN,iI 0] c Tys143 rfl rfl (fun aR am=>(m2 vT (wt (wp_ret (blkR (thenR ?_)))))))))
       cases (oi h).trans hr_
       exact retA2 rfl (resN (i:=0) (l:=[iI 0,iI 600,iI 2,vT,vN,iI 0]) am rfl Tya143 Tys143 rfl rfl rfl) (resT rfl) ⟨K,[iI 0,iI 600,iI 2,vT,vN,iI 0],rfl,(am.sel [] (by decide)),.mk⟩
      ·refine cF v (sr (c0 (b == 5) (m2 (.bool (b == 5)) (wt (cd h (fun x h=>?_) (fun x h=>?_))))))
       ·refine cT x (sr (bld (cells:=#[iI 1,iI 1,iI 2,vN,vN,iI 0]) (vs:=[(0,iI 1),(1,iI 1),(2,iI 2)]) rfl (fun w=>by kernel_rfl) (sI 0 (.agg #[iI 1,iI 1,iI 2,vN,vN,iI 0]) #[iI 1,iI 1,iI 2,vN,vN,iI 0] c Tys143 rfl rfl (fun aS an=>(m2 vT (wt (wp_ret (blkR (thenR ?_)))))))))
        cases (oi h).trans hr_
        exact retA2 rfl (resN (i:=0) (l:=[iI 1,iI 1,iI 2,vN,vN,iI 0]) an rfl Tya143 Tys143 rfl rfl rfl) (resT rfl) ⟨K,[iI 1,iI 1,iI 2,vN,vN,iI 0],rfl,(an.sel [] (by decide)),.mk⟩
       ·refine cF x (sr (c0 (b == 6) (m2 (.bool (b == 6)) (wt (cd h (fun y h=>?_) (fun y h=>?_))))))
        ·refine cT y (sr (bld (cells:=#[iI 1,iI 1,iI 2,vN,vN,iI 1]) (vs:=[(0,iI 1),(1,iI 1),(2,iI 2),(5,iI 1)]) rfl (fun w=>by kernel_rfl) (sI 0 (.agg #[iI 1,iI 1,iI 2,vN,vN,iI 1]) #[iI 1,iI 1,iI 2,vN,vN,iI 1] c Tys143 rfl rfl (fun aT ao=>(m2 vT (wt (wp_ret (blkR (thenR ?_)))))))))
         cases (oi h).trans hr_
         exact retA2 rfl (resN (i:=0) (l:=[iI 1,iI 1,iI 2,vN,vN,iI 1]) ao rfl Tya143 Tys143 rfl rfl rfl) (resT rfl) ⟨K,[iI 1,iI 1,iI 2,vN,vN,iI 1],rfl,(ao.sel [] (by decide)),.mk⟩
        ·refine cF y (sr (c0 (b == 10) (m2 (.bool (b == 10)) (wt (cd h (fun z h=>?_) (fun z h=>?_))))))
         ·refine cT z (sr (bld (cells:=#[iI 2,iI 2,iI 0,vN,vN,iI 0]) (vs:=[(0,iI 2),(1,iI 2)]) rfl (fun w=>by kernel_rfl) (sI 0 (.agg #[iI 2,iI 2,iI 0,vN,vN,iI 0]) #[iI 2,iI 2,iI 0,vN,vN,iI 0] c Tys143 rfl rfl (fun aU ap=>(m2 vT (wt (wp_ret (blkR (thenR ?_)))))))))
          cases (oi h).trans hr_
          exact retA2 rfl (resN (i:=0) (l:=[iI 2,iI 2,iI 0,vN,vN,iI 0]) ap rfl Tya143 Tys143 rfl rfl rfl) (resT rfl) ⟨K,[iI 2,iI 2,iI 0,vN,vN,iI 0],rfl,(ap.sel [] (by decide)),.mk⟩
         ·refine cF z (wp_cut (fun a w=>∃ (aq:Nat→Value) (A:Bool),a=fr 69 (updL aq [(2,pp wi.heap.size 0),(4,iI b),(29,.bool A)])∧SR K K wi w [] [.box wi.heap.size wi.heap.size #[iI 0,iI 0,iI 0,vN,vN,iI 0] 143]∧f109_j3 k b A=some r_) ?_ ?_)
          ·refine sr (c0 (b == 11) (m2 (.bool (b == 11)) (wt (cd h (fun B h=>?_) (fun B h=>?_)))))
           ·exact cT B (wp_skip (thenN (⟨_,(b == 11),fR,c,h⟩)))
           ·refine cF B (sr (c0 (b == 12) (m2 (.bool (b == 12)) (wt (cd h (fun C h=>?_) (fun C h=>?_))))))
            ·exact cT C (wp_skip (thenN (⟨_,(b == 12),fR,c,h⟩)))
            ·refine cF C (sr (c0 (b == 14) (m2 (.bool (b == 14)) (wt (cd h (fun D h=>?_) (fun D h=>?_))))))
             ·exact cT D (wp_skip (thenN (⟨_,(b == 14),fR,c,h⟩)))
             ·refine cF D (sr (c0 (b == 15) (m2 (.bool (b == 15)) (wt (cd h (fun G h=>?_) (fun G h=>?_))))))
              ·exact cT G (wp_skip (thenN (⟨_,(b == 15),fR,c,h⟩)))
              ·refine cF G (sr (c0 (b == 16) (m2 (.bool (b == 16)) (wt (cd h (fun I h=>?_) (fun I h=>?_))))))
               ·exact cT I (wp_skip (thenN (⟨_,(b == 16),fR,c,h⟩)))
               ·exact cF I (wp_region_lit (c0 (b == 29) (m2 (.bool (b == 29)) (wt (⟨_,(b == 29),fR,c,h⟩)))))
          ·rintro _ aV ⟨aq,A,rfl,g,h⟩
           unfold f109_j3 at h
           refine cd h (fun J h=>?_) (fun J h=>?_)
           ·refine cT J (sr (bld (cells:=#[iI 1,iI 1,iI 0,vN,vN,iI 0]) (vs:=[(0,iI 1),(1,iI 1)]) rfl (fun w=>by kernel_rfl) (sI 0 (.agg #[iI 1,iI 1,iI 0,vN,vN,iI 0]) #[iI 1,iI 1,iI 0,vN,vN,iI 0] g Tys143 rfl rfl (fun aW ar=>(m2 vT (wt (wp_ret (blkR (thenR ?_)))))))))
            cases (oi h).trans hr_
            exact retA2 rfl (resN (i:=0) (l:=[iI 1,iI 1,iI 0,vN,vN,iI 0]) ar rfl Tya143 Tys143 rfl rfl rfl) (resT rfl) ⟨K,[iI 1,iI 1,iI 0,vN,vN,iI 0],rfl,(ar.sel [] (by decide)),.mk⟩
           ·refine cF J (wp_cut (fun a w=>∃ (au:Nat→Value) (N:Bool),a=fr 69 (updL au [(2,pp wi.heap.size 0),(4,iI b),(37,.bool N)])∧SR K K wi w [] [.box wi.heap.size wi.heap.size #[iI 0,iI 0,iI 0,vN,vN,iI 0] 143]∧f109_j4 k b N=some r_) ?_ ?_)
            ·refine sr (c0 (b == 13) (m2 (.bool (b == 13)) (wt (cd h (fun O h=>?_) (fun O h=>?_)))))
             ·exact cT O (wp_skip (thenN (⟨_,(b == 13),fR,g,h⟩)))
             ·refine cF O (sr (c0 (b == 18) (m2 (.bool (b == 18)) (wt (cd h (fun S h=>?_) (fun S h=>?_))))))
              ·exact cT S (wp_skip (thenN (⟨_,(b == 18),fR,g,h⟩)))
              ·refine cF S (sr (c0 (b == 19) (m2 (.bool (b == 19)) (wt (cd h (fun U h=>?_) (fun U h=>?_))))))
               ·exact cT U (wp_skip (thenN (⟨_,(b == 19),fR,g,h⟩)))
               ·exact cF U (wp_region_lit (c0 (b == 27) (m2 (.bool (b == 27)) (wt (⟨_,(b == 27),fR,g,h⟩)))))
            ·rintro _ aX ⟨au,N,rfl,j,h⟩
             unfold f109_j4 at h
             refine cd h (fun V h=>?_) (fun V h=>?_)
             ·refine cT V (sr (bld (cells:=#[iI 0,iI 0,iI 0,vN,vN,iI 0]) (vs:=[]) rfl (fun w=>by kernel_rfl) (sI 0 (.agg #[iI 0,iI 0,iI 0,vN,vN,iI 0]) #[iI 0,iI 0,iI 0,vN,vN,iI 0] j Tys143 rfl rfl (fun aY av=>(m2 vT (wt (wp_ret (blkR (thenR ?_)))))))))
              cases (oi h).trans hr_
              exact retA2 rfl (resN (i:=0) (l:=[iI 0,iI 0,iI 0,vN,vN,iI 0]) av rfl Tya143 Tys143 rfl rfl rfl) (resT rfl) ⟨K,[iI 0,iI 0,iI 0,vN,vN,iI 0],rfl,(av.sel [] (by decide)),.mk⟩
             ·refine cF V (sr (c0 (b == 17) (m2 (.bool (b == 17)) (wt (cd h (fun W h=>?_) (fun W h=>?_))))))
              ·refine cT W (sr (bld (cells:=#[iI 0,iI 1,iI 0,vN,vN,iI 0]) (vs:=[(1,iI 1)]) rfl (fun w=>by kernel_rfl) (sI 0 (.agg #[iI 0,iI 1,iI 0,vN,vN,iI 0]) #[iI 0,iI 1,iI 0,vN,vN,iI 0] j Tys143 rfl rfl (fun aZ aw=>(m2 vT (wt (wp_ret (blkR (thenR ?_)))))))))
               cases (oi h).trans hr_
               exact retA2 rfl (resN (i:=0) (l:=[iI 0,iI 1,iI 0,vN,vN,iI 0]) aw rfl Tya143 Tys143 rfl rfl rfl) (resT rfl) ⟨K,[iI 0,iI 1,iI 0,vN,vN,iI 0],rfl,(aw.sel [] (by decide)),.mk⟩
              ·refine cF W (sr (c0 (b == 20) (m2 (.bool (b == 20)) (wt (cd h (fun X h=>?_) (fun X h=>?_))))))
               ·refine cT X (sr (bld (cells:=#[iI 1,iI 1,iI 0,vN,vT,iI 1]) (vs:=[(0,iI 1),(1,iI 1),(4,vT),(5,iI 1)]) rfl (fun w=>by kernel_rfl) (sI 0 (.agg #[iI 1,iI 1,iI 0,vN,vT,iI 1]) #[iI 1,iI 1,iI 0,vN,vT,iI 1] j Tys143 rfl rfl (fun a1 ax=>(m2 vT (wt (wp_ret (blkR (thenR ?_)))))))))
                cases (oi h).trans hr_
                exact retA2 rfl (resN (i:=0) (l:=[iI 1,iI 1,iI 0,vN,vT,iI 1]) ax rfl Tya143 Tys143 rfl rfl rfl) (resT rfl) ⟨K,[iI 1,iI 1,iI 0,vN,vT,iI 1],rfl,(ax.sel [] (by decide)),.mk⟩
               ·refine cF X (wp_cut (fun a w=>∃ (ay:Nat→Value) (Y:Bool),a=fr 69 (updL ay [(2,pp wi.heap.size 0),(4,iI b),(49,.bool Y)])∧SR K K wi w [] [.box wi.heap.size wi.heap.size #[iI 0,iI 0,iI 0,vN,vN,iI 0] 143]∧f109_j5 k b Y=some r_) ?_ ?_)
                ·refine sr (c0 (b == 21) (m2 (.bool (b == 21)) (wt (cd h (fun Z h=>?_) (fun Z h=>?_)))))
                 ·exact cT Z (wp_skip (thenN (⟨_,(b == 21),fR,j,h⟩)))
                 ·exact cF Z (wp_region_lit (c0 (b == 26) (m2 (.bool (b == 26)) (wt (⟨_,(b == 26),fR,j,h⟩)))))
                ·rintro _ a2 ⟨ay,Y,rfl,d,h⟩
                 unfold f109_j5 at h
                 refine cd h (fun ab h=>?_) (fun ab h=>?_)
                 ·refine cT ab (sr (bld (cells:=#[iI 1,iI 1,iI 0,vN,vT,iI 0]) (vs:=[(0,iI 1),(1,iI 1),(4,vT)]) rfl (fun w=>by kernel_rfl) (sI 0 (.agg #[iI 1,iI 1,iI 0,vN,vT,iI 0]) #[iI 1,iI 1,iI 0,vN,vT,iI 0] d Tys143 rfl rfl (fun a3 az=>(m2 vT (wt (wp_ret (blkR (thenR ?_)))))))))
                  cases (oi h).trans hr_
                  exact retA2 rfl (resN (i:=0) (l:=[iI 1,iI 1,iI 0,vN,vT,iI 0]) az rfl Tya143 Tys143 rfl rfl rfl) (resT rfl) ⟨K,[iI 1,iI 1,iI 0,vN,vT,iI 0],rfl,(az.sel [] (by decide)),.mk⟩
                 ·refine cF ab (sr (c0 (b == 22) (m2 (.bool (b == 22)) (wt (cd h (fun ac h=>?_) (fun ac h=>?_))))))
                  ·refine cT ac (sr (bld (cells:=#[iI 0,iI 1,iI 0,vN,vT,iI 1]) (vs:=[(1,iI 1),(4,vT),(5,iI 1)]) rfl (fun w=>by kernel_rfl) (sI 0 (.agg #[iI 0,iI 1,iI 0,vN,vT,iI 1]) #[iI 0,iI 1,iI 0,vN,vT,iI 1] d Tys143 rfl rfl (fun a4 aA=>(m2 vT (wt (wp_ret (blkR (thenR ?_)))))))))
                   cases (oi h).trans hr_
                   exact retA2 rfl (resN (i:=0) (l:=[iI 0,iI 1,iI 0,vN,vT,iI 1]) aA rfl Tya143 Tys143 rfl rfl rfl) (resT rfl) ⟨K,[iI 0,iI 1,iI 0,vN,vT,iI 1],rfl,(aA.sel [] (by decide)),.mk⟩
                  ·refine cF ac (sr (c0 (b == 23) (m2 (.bool (b == 23)) (wt (cd h (fun ad h=>?_) (fun ad h=>?_))))))
                   ·refine cT ad (sr (bld (cells:=#[iI 0,iI 0,iI 0,vN,vT,iI 0]) (vs:=[(4,vT)]) rfl (fun w=>by kernel_rfl) (sI 0 (.agg #[iI 0,iI 0,iI 0,vN,vT,iI 0]) #[iI 0,iI 0,iI 0,vN,vT,iI 0] d Tys143 rfl rfl (fun a5 aB=>(m2 vT (wt (wp_ret (blkR (thenR ?_)))))))))
                    cases (oi h).trans hr_
                    exact retA2 rfl (resN (i:=0) (l:=[iI 0,iI 0,iI 0,vN,vT,iI 0]) aB rfl Tya143 Tys143 rfl rfl rfl) (resT rfl) ⟨K,[iI 0,iI 0,iI 0,vN,vT,iI 0],rfl,(aB.sel [] (by decide)),.mk⟩
                   ·refine cF ad (sr (c0 (b == 24) (m2 (.bool (b == 24)) (wt (cd h (fun ae h=>?_) (fun ae h=>?_))))))
                    ·refine cT ae (sr (bld (cells:=#[iI 0,iI 0,iI 2,vN,vT,iI 3]) (vs:=[(2,iI 2),(4,vT),(5,iI 3)]) rfl (fun w=>by kernel_rfl) (sI 0 (.agg #[iI 0,iI 0,iI 2,vN,vT,iI 3]) #[iI 0,iI 0,iI 2,vN,vT,iI 3] d Tys143 rfl rfl (fun a6 aE=>(m2 vT (wt (wp_ret (blkR (thenR ?_)))))))))
                     cases (oi h).trans hr_
                     exact retA2 rfl (resN (i:=0) (l:=[iI 0,iI 0,iI 2,vN,vT,iI 3]) aE rfl Tya143 Tys143 rfl rfl rfl) (resT rfl) ⟨K,[iI 0,iI 0,iI 2,vN,vT,iI 3],rfl,(aE.sel [] (by decide)),.mk⟩
                    ·refine cF ae (sr (c0 (b == 25) (m2 (.bool (b == 25)) (wt (cd h (fun af h=>?_) (fun af h=>?_))))))
                     ·refine cT af (sr (bld (cells:=#[iI 1,iI 1,iI 1,vN,vT,iI 0]) (vs:=[(0,iI 1),(1,iI 1),(2,iI 1),(4,vT)]) rfl (fun w=>by kernel_rfl) (sI 0 (.agg #[iI 1,iI 1,iI 1,vN,vT,iI 0]) #[iI 1,iI 1,iI 1,vN,vT,iI 0] d Tys143 rfl rfl (fun a7 aF=>(m2 vT (wt (wp_ret (blkR (thenR ?_)))))))))
                      cases (oi h).trans hr_
                      exact retA2 rfl (resN (i:=0) (l:=[iI 1,iI 1,iI 1,vN,vT,iI 0]) aF rfl Tya143 Tys143 rfl rfl rfl) (resT rfl) ⟨K,[iI 1,iI 1,iI 1,vN,vT,iI 0],rfl,(aF.sel [] (by decide)),.mk⟩
                     ·refine cF af (sr (c0 (b == 28) (m2 (.bool (b == 28)) (wt (cd h (fun ag h=>?_) (fun ag h=>?_))))))
                      ·refine cT ag (sr (bld (cells:=#[iI 0,iI 600,iI 1,vT,vT,iI 66]) (vs:=[(1,iI 600),(2,iI 1),(3,vT),(4,vT),(5,iI 66)]) rfl (fun w=>by kernel_rfl) (sI 0 (.agg #[iI 0,iI 600,iI 1,vT,vT,iI 66]) #[iI 0,iI 600,iI 1,vT,vT,iI 66] d Tys143 rfl rfl (fun a8 aG=>(m2 vT (wt (wp_ret (blkR (thenR ?_)))))))))
                       cases (oi h).trans hr_
                       exact retA2 rfl (resN (i:=0) (l:=[iI 0,iI 600,iI 1,vT,vT,iI 66]) aG rfl Tya143 Tys143 rfl rfl rfl) (resT rfl) ⟨K,[iI 0,iI 600,iI 1,vT,vT,iI 66],rfl,(aG.sel [] (by decide)),.mk⟩
                      ·refine cF ag (wp_skip (blkN (thenN (sr (bld (cells:=#[iI 0,iI 0,iI 0,vN,vN,iI 0]) (vs:=[]) rfl (fun w=>by kernel_rfl) (sI 0 (.agg #[iI 0,iI 0,iI 0,vN,vN,iI 0]) #[iI 0,iI 0,iI 0,vN,vN,iI 0] d Tys143 rfl rfl (fun a9 aH=>(m2 vN (wt (wp_ret ?_))))))))))
                       cases (oi h).trans hr_
                       exact retA2 rfl (resN (i:=0) (l:=[iI 0,iI 0,iI 0,vN,vN,iI 0]) aH rfl Tya143 Tys143 rfl rfl rfl) (resT rfl) ⟨K,[iI 0,iI 0,iI 0,vN,vN,iI 0],rfl,(aH.sel [] (by decide)),.mk⟩
theorem f109_ok (k:Nat):f109_spec (f109 k):=f109_b_ok k
theorem f132_b_ok (k:Nat):f132_spec (f132_b k):=by
 unfold f132_spec
 intro K wi b t h hG q s
 obtain ⟨r_,hr_,h⟩:=rz h
 refine enter Tryz.func132 rfl (n:=23) rfl ?_
 unfold f132_b at h
 refine sr (m2 vN (wt (wp_seq (sr (m2 (iI 0) (wt (wp_block (wp_loopG (fun g_ a w=>∃ (m:Nat→Value) (e:List UInt8) (c:Nat),g_=e.length∧a=fr 23 (updL m [(0,.string b),(3,iI (c:Int))])∧SR K K wi w [] []∧b.data.toList.drop c=e∧f132_l1 k b e c=some r_) b.data.toList.length ?_ ?_))))))))
 ·exact ⟨_,b.data.toList,0,rfl,fR,s,List.drop_zero,h⟩
 ·rintro _ _ u ⟨m,e,c,rfl,rfl,i,f,h⟩
  rcases e with _ | ⟨g,e⟩
  ·unfold f132_l1 at h
   refine wp_seq (sr (m1 (iI (c:Int)) (m1 (.string b) (lnT (a:=b) Tyt9 rfl (bcm (r:=false) rfl rfl (congrArg some (drop_nil_ls f)) (wt (cndF rfl (wp_exit (thenX (thenX (blkX (thenN (sr (m1 (.string b) (lnT (a:=b) Tyt9 rfl (c0 (decide ((b.size:Int) ≤ 60)) (m2 (.bool (decide ((b.size:Int) ≤ 60))) (wt (wp_ret ?_)))))))))))))))))))
   cases (oi h).trans hr_
   exact retA1 rfl (resT rfl) ⟨K,rfl,i⟩
  ·unfold f132_l1 at h
   refine wp_seq (sr (m1 (iI (c:Int)) (m1 (.string b) (lnT (a:=b) Tyt9 rfl (bcm (r:=true) rfl rfl (congrArg some (drop_cons_ts f)) (wt (cndT rfl (wp_skip (thenN (wp_seq (wp_block (wp_cut (fun a w=>∃ (o:Nat→Value) (j:Bool),a=fr 23 (updL o [(0,.string b),(3,iI (c:Int)),(19,.bool j)])∧SR K K wi w [] []∧f132_j1 k c j (f132_l1 k b e)=some r_) ?_ ?_))))))))))))
   ·refine wp_region_lit (m1 (.string b) (m1 (iI (c:Int)) (ixN Tyt9 rfl rfl f (c0 (decide ((g.toNat:Int) < 32)) (m1 (.bool (decide ((g.toNat:Int) < 32))) (cd h (fun d h=>?_) (fun d h=>?_)))))))
    ·exact o1 14 d (o1 14 d (o1 14 d (o1 14 d (m3 true vT (cg d) (wt (⟨_,true,fR,i,h⟩))))))
    ·exact n1 14 d (m1 (.string b) (n1 14 d (m1 (iI (c:Int)) (n1 14 d (ixN Tyt9 rfl rfl f (n1 14 d (c0 (decide ((g.toNat:Int) > 126)) (m3 false (.bool (decide ((g.toNat:Int) > 126))) (cg d) (wt (⟨_,(decide ((g.toNat:Int) > 126)),fR,i,h⟩))))))))))
   ·rintro _ v ⟨o,j,rfl,p,h⟩
    unfold f132_j1 at h
    refine cd h (fun l h=>?_) (fun l h=>?_)
    ·refine cT l (sr (m2 vN (wt (wp_ret (blkR (thenR (thenR (blkR (thenR ?_)))))))))
     cases (oi h).trans hr_
     exact retA1 rfl (resT rfl) ⟨K,rfl,p⟩
    ·exact cF l (wp_skip (blkN (thenN (wp_region_lit (m1 (iI (c:Int)) (bar (r:=((c + 1:Nat):Int)) rfl rfl (inc_ok (le_bigs q f)) (m2 (iI ((c + 1:Nat):Int)) (wt (⟨_,Nat.lt_succ_self _,_,e,c + 1,rfl,fR,p,drop_cons_next f,h⟩)))))))))
theorem f132_ok (k:Nat):f132_spec (f132 k):=f132_b_ok k
theorem f110_b_ok (k:Nat) (F:Fam110) (IH110:f110_spec F.f110):f110_spec (f110_b k F):=by
 unfold f110_spec
 intro K wi g bs Z ab X bv dQ s t dR dS dT h hG bw bx
 obtain ⟨r_,hr_,h⟩:=rz h
 obtain ⟨d,e,f,x,p⟩:=bv
 obtain ⟨y,z,rfl,aK,aL⟩:=RDExpr.open bw
 refine enter Tryz.func110 rfl (n:=161) rfl ?_
 unfold f110_b at h
 refine sr (bxoC (cs:=(vE d e f x y p z).toArray) bx rfl rfl (fun bz ao=>(wt (wp_seq (sr (m1 (pp g 0) (nilc rfl (fd 2 Tyf56_2 rfl (l1 1 (.bool X) ao Tya4 (wt (cd h (fun ap h=>?_) (fun ap h=>?_))))))))))))
 ·refine cT ap (wp_ret (thenR ?_))
  cases (oi h).trans hr_
  exact ret0 rfl ⟨K,rfl,(ao.sel [1] (by decide))⟩
 ·refine cF ap (wp_skip (thenN (sr (m1 (pp g 0) (m1 (iI s) ?_)))))
  have aM:SR K K wi bz [.box bs g #[iI Z,iI ab,.bool X] 56] [.box bs g #[iI Z,iI ab,.bool X] 56,.box wi.heap.size wi.heap.size (vE d e f x y p z).toArray 107]:=ao.sel [1,0] (by decide)
  obtain ⟨⟨dU,dV,dW⟩,bA,h⟩:=ob h
  refine cv ([pp g 0,iI s]) Tyb60 ((f60_ok k) _ _ _ _ _ _ _ _ _ _ _ bA (hG.mono kr) (pt aM)) ?_
  rintro _ dX ⟨bB,rfl,l⟩
  have af:=ca l aM
  refine wt (wp_cut (fun a w=>∃ (aN:Nat→Value) (ag:KH) (ah:Int) (ai:Int) (aj:Bool),a=fr 161 (updL aN [(0,pp g 0),(2,iI s),(3,.bool t),(5,pp wi.heap.size 0)])∧KH.sub bB ag∧SR K ag wi w [.box bs g #[iI Z,iI ab,.bool X] 56] [.box bs g #[iI ah,iI ai,.bool aj] 56,.box wi.heap.size wi.heap.size (vE d e f x y p z).toArray 107]∧f110_j1 k F d e f p s t ah ai aj=some r_) ?_ ?_)
  ·refine wp_region_lit (m1 (pp g 0) (m1 (.bool t) (m1 (.bool t) (cd h (fun A h=>?_) (fun A h=>?_)))))
   ·refine o1 19 A (o1 19 A (o1 19 A (m3 true vT (cg A) ?_)))
    obtain ⟨⟨bC,bD,bE⟩,bF,h⟩:=ob h
    refine cv ([pp g 0,vT]) Tyb59 ((f59_ok k) _ _ _ _ _ _ _ _ _ _ _ bF (hG.mono l.sub) (pt af)) ?_
    rintro _ dY ⟨bG,rfl,aP⟩
    have bH:=ca aP af
    exact wt (⟨_,bG,bC,bD,bE,fR,aP.sub,bH,h⟩)
   ·refine n1 19 A (fd 3 Tyf107_3 rfl (n1 19 A (l1 1 (iI x) af Tya3 (n1 19 A (c0 (x == 0) (m3 false (.bool (x == 0)) (cg A) ?_))))))
    obtain ⟨⟨bI,bJ,bK⟩,bL,h⟩:=ob h
    refine cv ([pp g 0,.bool (x == 0)]) Tyb59 ((f59_ok k) _ _ _ _ _ _ _ _ _ _ _ bL (hG.mono l.sub) (pt af)) ?_
    rintro _ dZ ⟨bM,rfl,aQ⟩
    have bN:=ca aQ af
    exact wt (⟨_,bM,bI,bJ,bK,fR,aQ.sub,bN,h⟩)
  ·rintro _ d0 ⟨aN,ag,ah,ai,aj,rfl,m,c,h⟩
   unfold f110_j1 at h
   refine sr (m2 (iI 0) (wt (wp_cut (fun a w=>∃ (aR:Nat→Value) (aq:KH) (ar:Int) (au:Int) (av:Bool) (ac:Int),a=fr 161 (updL aR [(0,pp g 0),(2,iI s),(3,.bool t),(5,pp wi.heap.size 0),(8,iI ac)])∧KH.sub ag aq∧SR K aq wi w [.box bs g #[iI Z,iI ab,.bool X] 56] [.box bs g #[iI ar,iI au,.bool av] 56,.box wi.heap.size wi.heap.size (vE d e f x y p z).toArray 107]∧f110_j2 k F p s t ar au av ac=some r_) ?_ ?_)))
   ·refine wp_block (sr (fd 0 Tyf107_0 rfl (l1 1 (iI d) c Tya3 (c0 (d == 1) (m2 (.bool (d == 1)) (wt (cd h (fun aw h=>?_) (fun aw h=>?_))))))))
    ·refine cT aw (wp_region_lit (m1 (pp g 0) (fd 1 Tyf107_1 rfl (l1 1 (iI e) c Tya3 (c0 (decide (e ≥ 0)) (m1 (.bool (decide (e ≥ 0))) (cd h (fun B h=>?_) (fun B h=>?_))))))))
     ·refine n1 53 B (fd 1 Tyf107_1 rfl (n1 53 B (l1 1 (iI e) c Tya3 (n1 53 B (c0 (decide (e ≤ 1000000000000)) (m3 true (.bool (decide (e ≤ 1000000000000))) (cg B) (m1 (.bool (decide (e ≤ 1000000000000))) (cd h (fun C h=>?_) (fun C h=>?_)))))))))
      ·refine n1 58 C (fd 2 Tyf107_2 rfl (n1 58 C (l1 1 (.string f) c Tya9 (n1 58 C (bsc (r:=(seq f ⟨#[]⟩)) rfl rfl rfl (m3 true (.bool (seq f ⟨#[]⟩)) (cg C) ?_))))))
       obtain ⟨⟨bO,bP,bQ⟩,bR,h⟩:=ob h
       refine cv ([pp g 0,.bool (seq f ⟨#[]⟩)]) Tyb59 ((f59_ok k) _ _ _ _ _ _ _ _ _ _ _ bR (hG.mono (l.sub.trans m)) (pt c)) ?_
       rintro _ d1 ⟨bS,rfl,aS⟩
       have bT:=ca aS c
       exact wpList_nil (blkN (thenN (⟨_,bS,bO,bP,bQ,0,fR,aS.sub,bT,h⟩)))
      ·refine o1 58 C (o1 58 C (o1 58 C (m3 false vN (cg C) ?_)))
       obtain ⟨⟨bU,bV,bW⟩,bX,h⟩:=ob h
       refine cv ([pp g 0,vN]) Tyb59 ((f59_ok k) _ _ _ _ _ _ _ _ _ _ _ bX (hG.mono (l.sub.trans m)) (pt c)) ?_
       rintro _ d2 ⟨bY,rfl,aT⟩
       have bZ:=ca aT c
       exact wpList_nil (blkN (thenN (⟨_,bY,bU,bV,bW,0,fR,aT.sub,bZ,h⟩)))
     ·refine o1 53 B (o1 53 B (o1 53 B (m3 false vN (cg B) (m1 vN (o0 58 (o0 58 (o0 58 (m3 false vN rfl ?_))))))))
      obtain ⟨⟨b0,b1,b2⟩,b3,h⟩:=ob h
      refine cv ([pp g 0,vN]) Tyb59 ((f59_ok k) _ _ _ _ _ _ _ _ _ _ _ b3 (hG.mono (l.sub.trans m)) (pt c)) ?_
      rintro _ d3 ⟨b4,rfl,aU⟩
      have b5:=ca aU c
      exact wpList_nil (blkN (thenN (⟨_,b4,b0,b1,b2,0,fR,aU.sub,b5,h⟩)))
    ·refine cF aw (sr (fd 0 Tyf107_0 rfl (l1 1 (iI d) c Tya3 (c0 (d == 2) (m2 (.bool (d == 2)) (wt (cd h (fun ax h=>?_) (fun ax h=>?_))))))))
     ·refine cT ax (wp_region_lit (m1 (pp g 0) (fd 1 Tyf107_1 rfl (l1 1 (iI e) c Tya3 (c0 (e == 0) (m1 (.bool (e == 0)) (cd h (fun D h=>?_) (fun D h=>?_))))))))
      ·refine o1 72 D (o1 72 D (o1 72 D (m3 true vT (cg D) (m1 vT (n0 77 (fd 2 Tyf107_2 rfl (n0 77 (l1 1 (.string f) c Tya9 (n0 77 (bsc (r:=(seq f ⟨#[]⟩)) rfl rfl rfl (m3 true (.bool (seq f ⟨#[]⟩)) rfl ?_)))))))))))
       obtain ⟨⟨b6,b7,b8⟩,b9,h⟩:=ob h
       refine cv ([pp g 0,.bool (seq f ⟨#[]⟩)]) Tyb59 ((f59_ok k) _ _ _ _ _ _ _ _ _ _ _ b9 (hG.mono (l.sub.trans m)) (pt c)) ?_
       rintro _ d4 ⟨cb,rfl,aV⟩
       have cc:=ca aV c
       exact wpList_nil (blkN (thenN (⟨_,cb,b6,b7,b8,0,fR,aV.sub,cc,h⟩)))
      ·refine n1 72 D (fd 1 Tyf107_1 rfl (n1 72 D (l1 1 (iI e) c Tya3 (n1 72 D (c0 (e == 1) (m3 false (.bool (e == 1)) (cg D) (m1 (.bool (e == 1)) (cd h (fun G h=>?_) (fun G h=>?_)))))))))
       ·refine n1 77 G (fd 2 Tyf107_2 rfl (n1 77 G (l1 1 (.string f) c Tya9 (n1 77 G (bsc (r:=(seq f ⟨#[]⟩)) rfl rfl rfl (m3 true (.bool (seq f ⟨#[]⟩)) (cg G) ?_))))))
        obtain ⟨⟨ce,cf,ch⟩,ci,h⟩:=ob h
        refine cv ([pp g 0,.bool (seq f ⟨#[]⟩)]) Tyb59 ((f59_ok k) _ _ _ _ _ _ _ _ _ _ _ ci (hG.mono (l.sub.trans m)) (pt c)) ?_
        rintro _ d5 ⟨cj,rfl,aW⟩
        have ck:=ca aW c
        exact wpList_nil (blkN (thenN (⟨_,cj,ce,cf,ch,0,fR,aW.sub,ck,h⟩)))
       ·refine o1 77 G (o1 77 G (o1 77 G (m3 false vN (cg G) ?_)))
        obtain ⟨⟨cl,cm,cn⟩,co,h⟩:=ob h
        refine cv ([pp g 0,vN]) Tyb59 ((f59_ok k) _ _ _ _ _ _ _ _ _ _ _ co (hG.mono (l.sub.trans m)) (pt c)) ?_
        rintro _ d6 ⟨cq,rfl,aX⟩
        have cr:=ca aX c
        exact wpList_nil (blkN (thenN (⟨_,cq,cl,cm,cn,0,fR,aX.sub,cr,h⟩)))
     ·refine cF ax (sr (fd 0 Tyf107_0 rfl (l1 1 (iI d) c Tya3 (c0 (d == 3) (m2 (.bool (d == 3)) (wt (cd h (fun ay h=>?_) (fun ay h=>?_))))))))
      ·refine cT ay (wp_region_lit (m1 (pp g 0) (fd 1 Tyf107_1 rfl (l1 1 (iI e) c Tya3 (c0 (e == 0) (m1 (.bool (e == 0)) (cd h (fun I h=>?_) (fun I h=>?_))))))))
       ·refine n1 91 I (fd 2 Tyf107_2 rfl (n1 91 I (l1 1 (.string f) c Tya9 (n1 91 I ?_))))
        obtain ⟨aY,ct,h⟩:=ob h
        refine cv ([.string f]) Tyb132 ((f132_ok k) _ _ _ _ ct (hG.mono (l.sub.trans m)) aK (pt c)) ?_
        rintro _ d7 ⟨d8,rfl,az⟩
        have aZ:=ca az c
        refine m3 true (.bool aY) (cg I) ?_
        obtain ⟨⟨cu,cw,cx⟩,cy,h⟩:=ob h
        refine cv ([pp g 0,.bool aY]) Tyb59 ((f59_ok k) _ _ _ _ _ _ _ _ _ _ _ cy (hG.mono ((l.sub.trans m).trans az.sub)) (pt aZ)) ?_
        rintro _ d9 ⟨cz,rfl,a0⟩
        have cA:=ca a0 aZ
        exact wpList_nil (blkN (thenN (⟨_,cz,cu,cw,cx,0,fR,(az.sub.trans a0.sub),cA,h⟩)))
       ·refine o1 91 I (o1 91 I (o1 91 I (m3 false vN (cg I) ?_)))
        obtain ⟨⟨cB,cC,cD⟩,cG,h⟩:=ob h
        refine cv ([pp g 0,vN]) Tyb59 ((f59_ok k) _ _ _ _ _ _ _ _ _ _ _ cG (hG.mono (l.sub.trans m)) (pt c)) ?_
        rintro _ ea ⟨cH,rfl,a4⟩
        have cI:=ca a4 c
        exact wpList_nil (blkN (thenN (⟨_,cH,cB,cC,cD,0,fR,a4.sub,cI,h⟩)))
      ·refine cF ay (sr (fd 0 Tyf107_0 rfl (l1 1 (iI d) c Tya3 (c0 (d == 4) (m2 (.bool (d == 4)) (wt (cd h (fun aA h=>?_) (fun aA h=>?_))))))))
       ·refine cT aA (wp_region_lit (m1 (pp g 0) (fd 1 Tyf107_1 rfl (l1 1 (iI e) c Tya3 (c0 (e == 0) (m1 (.bool (e == 0)) (cd h (fun J h=>?_) (fun J h=>?_))))))))
        ·refine n1 105 J (fd 2 Tyf107_2 rfl (n1 105 J (l1 1 (.string f) c Tya9 (n1 105 J ?_))))
         obtain ⟨a5,cJ,h⟩:=ob h
         refine cv ([.string f]) Tyb34 ((f34_ok k) _ _ _ _ cJ (hG.mono (l.sub.trans m)) aK (pt c)) ?_
         rintro _ eb ⟨ec,rfl,aB⟩
         have a6:=ca aB c
         refine m3 true (.bool a5) (cg J) ?_
         obtain ⟨⟨cK,cL,cM⟩,cN,h⟩:=ob h
         refine cv ([pp g 0,.bool a5]) Tyb59 ((f59_ok k) _ _ _ _ _ _ _ _ _ _ _ cN (hG.mono ((l.sub.trans m).trans aB.sub)) (pt a6)) ?_
         rintro _ ed ⟨cO,rfl,a7⟩
         have cP:=ca a7 a6
         exact wpList_nil (blkN (thenN (⟨_,cO,cK,cL,cM,0,fR,(aB.sub.trans a7.sub),cP,h⟩)))
        ·refine o1 105 J (o1 105 J (o1 105 J (m3 false vN (cg J) ?_)))
         obtain ⟨⟨cQ,cR,cS⟩,cU,h⟩:=ob h
         refine cv ([pp g 0,vN]) Tyb59 ((f59_ok k) _ _ _ _ _ _ _ _ _ _ _ cU (hG.mono (l.sub.trans m)) (pt c)) ?_
         rintro _ ee ⟨cV,rfl,a8⟩
         have cW:=ca a8 c
         exact wpList_nil (blkN (thenN (⟨_,cV,cQ,cR,cS,0,fR,a8.sub,cW,h⟩)))
       ·refine cF aA (wp_cut (fun a w=>∃ (a9:Nat→Value) (aE:Bool),a=fr 161 (updL a9 [(0,pp g 0),(2,iI s),(3,.bool t),(5,pp wi.heap.size 0),(111,.bool aE)])∧SR K ag wi w [.box bs g #[iI Z,iI ab,.bool X] 56] [.box bs g #[iI ah,iI ai,.bool aj] 56,.box wi.heap.size wi.heap.size (vE d e f x y p z).toArray 107]∧f110_j3 k F d e f p s t ah ai aj aE=some r_) ?_ ?_)
        ·refine wp_region_lit (fd 0 Tyf107_0 rfl (l1 1 (iI d) c Tya3 (c0 (d == 5) (m1 (.bool (d == 5)) (cd h (fun N h=>?_) (fun N h=>?_))))))
         ·exact o1 115 N (o1 115 N (o1 115 N (m3 true vT (cg N) (m2 vT (wt (⟨_,true,fR,c,h⟩))))))
         ·exact n1 115 N (fd 0 Tyf107_0 rfl (n1 115 N (l1 1 (iI d) c Tya3 (n1 115 N (c0 (d == 6) (m3 false (.bool (d == 6)) (cg N) (m2 (.bool (d == 6)) (wt (⟨_,(d == 6),fR,c,h⟩)))))))))
        ·rintro _ ef ⟨a9,aE,rfl,q,h⟩
         unfold f110_j3 at h
         refine cd h (fun aF h=>?_) (fun aF h=>?_)
         ·refine cT aF (sr (m2 (iI 1) (wt (wp_region_lit (m1 (pp g 0) (fd 1 Tyf107_1 rfl (l1 1 (iI e) q Tya3 (c0 (e == 0) (m1 (.bool (e == 0)) (cd h (fun O h=>?_) (fun O h=>?_)))))))))))
          ·refine n1 124 O (fd 2 Tyf107_2 rfl (n1 124 O (l1 1 (.string f) q Tya9 (n1 124 O (bsc (r:=(seq f ⟨#[]⟩)) rfl rfl rfl (m3 true (.bool (seq f ⟨#[]⟩)) (cg O) ?_))))))
           obtain ⟨⟨cX,cY,cZ⟩,c3,h⟩:=ob h
           refine cv ([pp g 0,.bool (seq f ⟨#[]⟩)]) Tyb59 ((f59_ok k) _ _ _ _ _ _ _ _ _ _ _ c3 (hG.mono (l.sub.trans m)) (pt q)) ?_
           rintro _ eg ⟨c4,rfl,ba⟩
           have c5:=ca ba q
           exact wpList_nil (blkN (thenN (⟨_,c4,cX,cY,cZ,1,fR,ba.sub,c5,h⟩)))
          ·refine o1 124 O (o1 124 O (o1 124 O (m3 false vN (cg O) ?_)))
           obtain ⟨⟨c6,c7,c8⟩,c9,h⟩:=ob h
           refine cv ([pp g 0,vN]) Tyb59 ((f59_ok k) _ _ _ _ _ _ _ _ _ _ _ c9 (hG.mono (l.sub.trans m)) (pt q)) ?_
           rintro _ eh ⟨da,rfl,bb⟩
           have db:=ca bb q
           exact wpList_nil (blkN (thenN (⟨_,da,c6,c7,c8,1,fR,bb.sub,db,h⟩)))
         ·refine cF aF (sr (m2 (iI 2) (wt (wp_region_lit (m1 (pp g 0) (fd 0 Tyf107_0 rfl (l1 1 (iI d) q Tya3 (c0 (decide (d ≥ 7)) (m1 (.bool (decide (d ≥ 7))) (cd h (fun S h=>?_) (fun S h=>?_)))))))))))
          ·refine n1 29 S (fd 0 Tyf107_0 rfl (n1 29 S (l1 1 (iI d) q Tya3 (n1 29 S (c0 (decide (d ≤ 19)) (m3 true (.bool (decide (d ≤ 19))) (cg S) (m1 (.bool (decide (d ≤ 19))) (cd h (fun U h=>?_) (fun U h=>?_)))))))))
           ·refine n1 34 U (fd 1 Tyf107_1 rfl (n1 34 U (l1 1 (iI e) q Tya3 (n1 34 U (c0 (e == 0) (m3 true (.bool (e == 0)) (cg U) (m1 (.bool (e == 0)) (cd h (fun V h=>?_) (fun V h=>?_)))))))))
            ·refine n1 39 V (fd 2 Tyf107_2 rfl (n1 39 V (l1 1 (.string f) q Tya9 (n1 39 V (bsc (r:=(seq f ⟨#[]⟩)) rfl rfl rfl (m3 true (.bool (seq f ⟨#[]⟩)) (cg V) ?_))))))
             obtain ⟨⟨dc,dd,de⟩,df,h⟩:=ob h
             refine cv ([pp g 0,.bool (seq f ⟨#[]⟩)]) Tyb59 ((f59_ok k) _ _ _ _ _ _ _ _ _ _ _ df (hG.mono (l.sub.trans m)) (pt q)) ?_
             rintro _ ei ⟨dg,rfl,bd⟩
             have dh:=ca bd q
             exact wpList_nil (blkN (thenN (⟨_,dg,dc,dd,de,2,fR,bd.sub,dh,h⟩)))
            ·refine o1 39 V (o1 39 V (o1 39 V (m3 false vN (cg V) ?_)))
             obtain ⟨⟨di,dj,dk⟩,dl,h⟩:=ob h
             refine cv ([pp g 0,vN]) Tyb59 ((f59_ok k) _ _ _ _ _ _ _ _ _ _ _ dl (hG.mono (l.sub.trans m)) (pt q)) ?_
             rintro _ ej ⟨dm,rfl,be⟩
             have dn:=ca be q
             exact wpList_nil (blkN (thenN (⟨_,dm,di,dj,dk,2,fR,be.sub,dn,h⟩)))
           ·refine o1 34 U (o1 34 U (o1 34 U (m3 false vN (cg U) (m1 vN (o0 39 (o0 39 (o0 39 (m3 false vN rfl ?_))))))))
            obtain ⟨⟨dp,dq,dr⟩,ds,h⟩:=ob h
            refine cv ([pp g 0,vN]) Tyb59 ((f59_ok k) _ _ _ _ _ _ _ _ _ _ _ ds (hG.mono (l.sub.trans m)) (pt q)) ?_
            rintro _ ek ⟨dt,rfl,bf⟩
            have du:=ca bf q
            exact wpList_nil (blkN (thenN (⟨_,dt,dp,dq,dr,2,fR,bf.sub,du,h⟩)))
          ·refine o1 29 S (o1 29 S (o1 29 S (m3 false vN (cg S) (m1 vN (o0 34 (o0 34 (o0 34 (m3 false vN rfl (m1 vN (o0 39 (o0 39 (o0 39 (m3 false vN rfl ?_)))))))))))))
           obtain ⟨⟨dv,dw,dx⟩,dy,h⟩:=ob h
           refine cv ([pp g 0,vN]) Tyb59 ((f59_ok k) _ _ _ _ _ _ _ _ _ _ _ dy (hG.mono (l.sub.trans m)) (pt q)) ?_
           rintro _ el ⟨dz,rfl,bg⟩
           have dA:=ca bg q
           exact wpList_nil (blkN (thenN (⟨_,dz,dv,dw,dx,2,fR,bg.sub,dA,h⟩)))
   ·rintro _ em ⟨aR,aq,ar,au,av,ac,rfl,al,aG,h⟩
    unfold f110_j2 at h
    refine sr (m1 (pp g 0) (fd 4 Tyf107_4 rfl (l1 1 (sl y p z) aG Tya39 (lS p.length Tye39 (m1 (iI ac) (c0 ((p.length:Int) == ac) ?_))))))
    obtain ⟨⟨dB,dC,dD⟩,dE,h⟩:=ob h
    refine cv ([pp g 0,.bool ((p.length:Int) == ac)]) Tyb59 ((f59_ok k) _ _ _ _ _ _ _ _ _ _ _ dE (hG.mono ((l.sub.trans m).trans al)) (pt aG)) ?_
    rintro _ en ⟨bh,rfl,am⟩
    have dF:=ca am aG
    refine wt (sr (m2 (iI 0) (wt (wp_block (wp_loopG (fun g_ a w=>∃ (bi:Nat→Value) (ak:KH) (Y:LE) (u:Nat) (aH:Int) (aI:Int) (ad:Bool),g_=Y.length∧a=fr 161 (updL bi [(0,pp g 0),(2,iI s),(3,.bool t),(5,pp wi.heap.size 0),(9,iI (u:Int))])∧KH.sub bh ak∧SR K ak wi w [.box bs g #[iI Z,iI ab,.bool X] 56] [.box bs g #[iI aH,iI aI,.bool ad] 56,.box wi.heap.size wi.heap.size (vE d e f x y p z).toArray 107]∧p.drop u=Y∧f110_l1 k F s t Y u aH aI ad=some r_) p.length ?_ ?_)))))
    ·exact ⟨_,bh,p,0,dB,dC,dD,rfl,fR,kr,dF,List.drop_zero,h⟩
    ·rintro _ _ eo ⟨bi,ak,Y,u,aH,aI,ad,rfl,rfl,an,W,ae,h⟩
     rcases Y with _ | ⟨⟨bj,bk,bm,bn,bo⟩,Y⟩
     ·unfold f110_l1 at h
      refine wp_seq (sr (m1 (iI (u:Int)) (fd 4 Tyf107_4 rfl (l1 1 (sl y p z) W Tya39 (lS p.length Tye39 (bcm (r:=false) rfl rfl (congrArg some (drop_nil_lt ae)) (m1 vN (o0 142 (o0 142 (o0 142 (o0 142 (o0 142 (m3 false vN rfl (wt (cndF rfl (wp_exit (thenX (thenX (blkX ?_)))))))))))))))))))
      cases (oi h).trans hr_
      exact end0 rfl ⟨ak,rfl,(W.sel [0] (by decide))⟩
     ·unfold f110_l1 at h
      refine wp_seq (sr (m1 (iI (u:Int)) (fd 4 Tyf107_4 rfl (l1 1 (sl y p z) W Tya39 (lS p.length Tye39 (bcm (r:=true) rfl rfl (congrArg some (drop_cons_t ae)) (m1 vT (n0 142 (m1 (pp g 0) (n0 142 (nilc rfl (n0 142 (fd 2 Tyf56_2 rfl (n0 142 (l1 0 (.bool ad) W Tya4 (n0 142 (uN ad (m3 true (.bool (!ad)) rfl (wt (cd h (fun aJ h=>?_) (fun aJ h=>?_)))))))))))))))))))))
      ·refine cT aJ (wp_skip (thenN (wp_seq (wp_block (wp_region_lit (m1 (pp g 0) (fd 4 Tyf107_4 rfl (l1 1 (sl y p z) W Tya39 (m1 (iI (u:Int)) ?_)))))))))
       obtain ⟨dG,dH,ep,dI,eq,dJ,bp⟩:=((me aL ((((l.sub.trans m).trans al).trans am.sub).trans an))).row.at_ (drop_cons_at ae)
       obtain ⟨bq,br,rfl,er,es⟩:=RDExpr.open bp
       refine idxN (b:=dG) (o:=dH) (i:=u) Tye39 Tys107 rfl dI rfl (drop_cons_lt ae) (lD (vE bj bk bm bn bq bo br) Tya107 Tys107 rfl (fun j v hj=>W.cell (kr.cell (dJ j v hj))) (m1 (iI s) (bar (r:=(w64 (s + 1))) rfl rfl rfl (m1 (.bool t) ?_))))
       obtain ⟨⟨dK,dL,dM⟩,dN,h⟩:=ob h
       refine cv ([pp g 0,.agg (vE bj bk bm bn bq bo br).toArray,iI (w64 (s + 1)),.bool t]) Tyb110 (IH110 _ _ _ _ _ _ _ _ _ _ _ _ _ _ dN (hG.mono ((((l.sub.trans m).trans al).trans am.sub).trans an)) bp (pt W)) ?_
       rintro _ et ⟨dO,rfl,bu⟩
       have dP:=ca bu W
       exact wpList_nil (blkN (thenN (wp_region_lit (m1 (iI (u:Int)) (bar (r:=((u + 1:Nat):Int)) rfl rfl (inc_ok (le_big (((me aL ((((l.sub.trans m).trans al).trans am.sub).trans an))).len) (by decide) (drop_cons_lt ae))) (m2 (iI ((u + 1:Nat):Int)) (wt (⟨_,Nat.lt_succ_self _,_,dO,Y,u + 1,dK,dL,dM,rfl,fR,(an.trans bu.sub),dP,drop_cons_next ae,h⟩))))))))
      ·refine cF aJ (wp_exit (thenX (thenX (blkX ?_))))
       cases (oi h).trans hr_
       exact end0 rfl ⟨ak,rfl,(W.sel [0] (by decide))⟩
theorem fam110_ok (k0:Nat) : ∀ k,f110_spec (fam110 k0 k).f110:=by
 intro k
 induction k with
 | zero=>exact (by unfold f110_spec; intro _ _ _ _ _ _ _ _ _ _ _ _ _ _ h_; cases h_)
 | succ k ih=>exact f110_b_ok k0 (fam110 k0 k) ih
theorem f110_ok (k:Nat):f110_spec (f110 k):=(fam110_ok k k)
theorem f61_b_ok (k:Nat) (F:Fam61) (IH61:f61_spec F.f61) (IH90:f90_spec F.f90) (IH111:f111_spec F.f111):f61_spec (f61_b k F):=by
 unfold f61_spec
 intro K wi g bs A B C d q s t aA aB aE h hG D an
 obtain ⟨r_,hr_,h⟩:=rz h
 refine enter Tryz.func61 rfl (n:=27) rfl ?_
 unfold f61_b at h
 refine sr (m2 (iI 0) (wt (wp_block (wp_loopG (fun g_ a w=>∃ (G:Nat→Value) (p:KH) (e:LS) (c:Nat) (x:Int) (y:Int) (f:Bool),g_=e.length∧a=fr 27 (updL G [(0,pp g 0),(1,sl q d s),(2,iI t),(6,iI (c:Int))])∧KH.sub K p∧SR K p wi w [.box bs g #[iI A,iI B,.bool C] 56] [.box bs g #[iI x,iI y,.bool f] 56]∧d.drop c=e∧f61_l1 k F t e c x y f=some r_) d.length ?_ ?_))))
 ·exact ⟨_,K,d,0,A,B,C,rfl,fR,kr,an,List.drop_zero,h⟩
 ·rintro _ _ aF ⟨G,p,e,c,x,y,f,rfl,rfl,u,l,m,h⟩
  rcases e with _ | ⟨⟨I,J,N,O,S,U,V,W,X,Y,Z⟩,e⟩
  ·unfold f61_l1 at h
   refine wp_seq (sr (m1 (iI (c:Int)) (m1 (sl q d s) (lS d.length Tye36 (bcm (r:=false) rfl rfl (congrArg some (drop_nil_lt m)) (m1 vN (o0 11 (o0 11 (o0 11 (o0 11 (o0 11 (m3 false vN rfl (wt (cndF rfl (wp_exit (thenX (thenX (blkX ?_))))))))))))))))))
   cases (oi h).trans hr_
   exact end0 rfl ⟨p,rfl,l⟩
  ·unfold f61_l1 at h
   refine wp_seq (sr (m1 (iI (c:Int)) (m1 (sl q d s) (lS d.length Tye36 (bcm (r:=true) rfl rfl (congrArg some (drop_cons_t m)) (m1 vT (n0 11 (m1 (pp g 0) (n0 11 (nilc rfl (n0 11 (fd 2 Tyf56_2 rfl (n0 11 (l1 0 (.bool f) l Tya4 (n0 11 (uN f (m3 true (.bool (!f)) rfl (wt (cd h (fun z h=>?_) (fun z h=>?_))))))))))))))))))))
   ·refine cT z (wp_skip (thenN (wp_seq (wp_block (wp_region_lit (m1 (pp g 0) (m1 (sl q d s) (m1 (iI (c:Int)) ?_))))))))
    obtain ⟨ao,ap,aG,aq,aH,ar,ab⟩:=((ms D u)).row.at_ (drop_cons_at m)
    obtain ⟨ac,ad,ae,af,ag,ah,ai,aj,ak,al,rfl,aI,aJ,aK,aL,aM,aN,aP⟩:=RDStmt.open ab
    refine idxN (b:=ao) (o:=ap) (i:=c) Tye36 Tys42 rfl aq rfl (drop_cons_lt m) (lD (vS I J N O S U ac V ad ae W af ag X ah ai Y aj ak Z al) Tya42 Tys42 rfl (fun j v hj=>l.cell (kr.cell (ar j v hj))) (m1 (iI t) ?_))
    obtain ⟨⟨au,av,aw⟩,ax,h⟩:=ob h
    refine cv ([pp g 0,.agg (vS I J N O S U ac V ad ae W af ag X ah ai Y aj ak Z al).toArray,iI t]) Tyb90 (IH90 _ _ _ _ _ _ _ _ _ _ _ _ _ ax (hG.mono u) ab (pt l)) ?_
    rintro _ aQ ⟨ay,rfl,am⟩
    have az:=ca am l
    exact wpList_nil (blkN (thenN (wp_region_lit (m1 (iI (c:Int)) (bar (r:=((c + 1:Nat):Int)) rfl rfl (inc_ok (le_big (((ms D u)).len) (by decide) (drop_cons_lt m))) (m2 (iI ((c + 1:Nat):Int)) (wt (⟨_,Nat.lt_succ_self _,_,ay,e,c + 1,au,av,aw,rfl,fR,(u.trans am.sub),az,drop_cons_next m,h⟩))))))))
   ·refine cF z (wp_exit (thenX (thenX (blkX ?_))))
    cases (oi h).trans hr_
    exact end0 rfl ⟨p,rfl,l⟩
theorem f90_b_ok (k:Nat) (F:Fam61) (IH61:f61_spec F.f61) (IH90:f90_spec F.f90) (IH111:f111_spec F.f111):f90_spec (f90_b k F):=by
 unfold f90_spec
 intro K wi g bs af ag ae eD jS s jT jU jV h hG eE eF
 obtain ⟨r_,hr_,h⟩:=rz h
 obtain ⟨p,f,O,A,S,c,q,t,x,y,l⟩:=eD
 obtain ⟨J,N,U,V,W,X,Y,Z,D,G,rfl,bB,eG,c2,eH,eI,eJ,c4⟩:=RDStmt.open eE
 refine enter Tryz.func90 rfl (n:=307) rfl ?_
 unfold f90_b at h
 refine sr (bxoC (cs:=(vS p f O A S c J q N U t V W x X Y y Z D l G).toArray) eF rfl rfl (fun eK cc=>(wt (wp_seq (sr (m1 (pp g 0) (nilc rfl (fd 2 Tyf56_2 rfl (l1 1 (.bool ae) cc Tya4 (wt (cd h (fun ce h=>?_) (fun ce h=>?_))))))))))))
 ·refine cT ce (wp_ret (thenR ?_))
  cases (oi h).trans hr_
  exact ret0 rfl ⟨K,rfl,(cc.sel [1] (by decide))⟩
 ·refine cF ce (wp_skip (thenN (sr (m1 (pp g 0) (m1 (iI s) ?_)))))
  have c5:SR K K wi eK [.box bs g #[iI af,iI ag,.bool ae] 56] [.box bs g #[iI af,iI ag,.bool ae] 56,.box wi.heap.size wi.heap.size (vS p f O A S c J q N U t V W x X Y y Z D l G).toArray 42]:=cc.sel [1,0] (by decide)
  obtain ⟨⟨bp,bq,br⟩,eL,h⟩:=ob h
  refine cv ([pp g 0,iI s]) Tyb60 ((f60_ok k) _ _ _ _ _ _ _ _ _ _ _ eL (hG.mono kr) (pt c5)) ?_
  rintro _ jW ⟨jX,rfl,d⟩
  have cf:=ca d c5
  refine wt (sr (fd 0 Tyf42_0 rfl (l1 1 (iI p) cf Tya3 ?_)))
  obtain ⟨⟨⟨am,an,z,ab,aj,ao⟩,bL⟩,eM,h⟩:=ob h
  refine cv ([iI p]) Tyb109 ((f109_ok k) _ _ _ _ _ eM (hG.mono d.sub) (pt cf)) ?_
  rintro _ aI ⟨bi,jY,rfl,e,eN⟩
  have eO:=ca e cf
  obtain rfl:=RDShape.open eN
  refine m1 (.tuple #[.agg #[iI am,iI an,iI z,.bool ab,.bool aj,iI ao],.bool bL]) (ext (v:=.agg #[iI am,iI an,iI z,.bool ab,.bool aj,iI ao]) rfl rfl (ext (v:=.bool bL) rfl rfl (aC #[iI 0,iI 0,iI 0,vN,vN,iI 0] eO Tyz143 (fun jZ eP=>(sI 0 (.agg #[iI am,iI an,iI z,.bool ab,.bool aj,iI ao]) #[iI am,iI an,iI z,.bool ab,.bool aj,iI ao] eP Tys143 rfl rfl (fun bu ar=>(m2 (.bool bL) (wt (wp_cut (fun a w=>∃ (c7:Nat→Value) (bR:KH) (ch:Int) (ci:Int) (cj:Bool),a=fr 307 (updL c7 [(0,pp g 0),(2,iI s),(4,pp wi.heap.size 0),(6,pp aI.heap.size 0)])∧KH.sub bi bR∧SR K bR wi w [.box bs g #[iI af,iI ag,.bool ae] 56] [.box bs g #[iI ch,iI ci,.bool cj] 56,.box wi.heap.size wi.heap.size (vS p f O A S c J q N U t V W x X Y y Z D l G).toArray 42,.box wi.heap.size aI.heap.size #[iI am,iI an,iI z,.bool ab,.bool aj,iI ao] 143]∧f90_j1 k F p f A c q t x y l s z ab aj ch ci cj=some r_) ?_ ?_)))))))))
  ·refine wp_region_lit (m1 (pp g 0) (m1 (.bool bL) (m1 (.bool bL) (cd h (fun av h=>?_) (fun av h=>?_)))))
   ·refine n1 25 av (fd 6 Tyf42_6 rfl (n1 25 av (l1 2 (sl J q N) ar Tya39 (n1 25 av (lS q.length Tye39 (n1 25 av (fd 0 Tyf143_0 rfl (n1 25 av (l1 0 (iI am) ar Tya3 (n1 25 av (c0 (decide ((q.length:Int) ≥ am)) (m3 true (.bool (decide ((q.length:Int) ≥ am))) (cg av) (m1 (.bool (decide ((q.length:Int) ≥ am))) (cd h (fun aw h=>?_) (fun aw h=>?_)))))))))))))))
    ·refine n1 33 aw (fd 6 Tyf42_6 rfl (n1 33 aw (l1 2 (sl J q N) ar Tya39 (n1 33 aw (lS q.length Tye39 (n1 33 aw (fd 1 Tyf143_1 rfl (n1 33 aw (l1 0 (iI an) ar Tya3 (n1 33 aw (c0 (decide ((q.length:Int) ≤ an)) (m3 true (.bool (decide ((q.length:Int) ≤ an))) (cg aw) (m1 (.bool (decide ((q.length:Int) ≤ an))) (cd h (fun aX h=>?_) (fun aX h=>?_)))))))))))))))
     ·refine n1 41 aX (fd 5 Tyf42_5 rfl (n1 41 aX (l1 2 (iI c) ar Tya3 (n1 41 aX (c0 (decide (c ≥ 0)) (m3 true (.bool (decide (c ≥ 0))) (cg aX) (m1 (.bool (decide (c ≥ 0))) (cd h (fun aJ h=>?_) (fun aJ h=>?_)))))))))
      ·refine n1 46 aJ (fd 5 Tyf42_5 rfl (n1 46 aJ (l1 2 (iI c) ar Tya3 (n1 46 aJ (fd 5 Tyf143_5 rfl (n1 46 aJ (l1 0 (iI ao) ar Tya3 (n1 46 aJ (c0 (decide (c ≤ ao)) (m3 true (.bool (decide (c ≤ ao))) (cg aJ) (m1 (.bool (decide (c ≤ ao))) (cd h (fun aY h=>?_) (fun aY h=>?_)))))))))))))
       ·refine n1 53 aY (fd 2 Tyf42_2 rfl (n1 53 aY (l1 2 (iI O) ar Tya3 (n1 53 aY (c0 (O == 0) (m3 true (.bool (O == 0)) (cg aY) (m1 (.bool (O == 0)) (cd h (fun aZ h=>?_) (fun aZ h=>?_)))))))))
        ·refine n1 58 aZ (fd 4 Tyf42_4 rfl (n1 58 aZ (l1 2 (iI S) ar Tya3 (n1 58 aZ (c0 (S == 0) (m3 true (.bool (S == 0)) (cg aZ) ?_))))))
         have c8:SR K bi wi bu [.box bs g #[iI af,iI ag,.bool ae] 56] [.box bs g #[iI bp,iI bq,.bool br] 56,.box wi.heap.size aI.heap.size #[iI am,iI an,iI z,.bool ab,.bool aj,iI ao] 143,.box wi.heap.size wi.heap.size (vS p f O A S c J q N U t V W x X Y y Z D l G).toArray 42]:=ar.sel [1,0,2] (by decide)
         obtain ⟨⟨eQ,eR,eS⟩,eT,h⟩:=ob h
         refine cv ([pp g 0,.bool (S == 0)]) Tyb59 ((f59_ok k) _ _ _ _ _ _ _ _ _ _ _ eT (hG.mono (d.sub.trans e.sub)) (pt c8)) ?_
         rintro _ j0 ⟨eU,rfl,da⟩
         have eV:=ca da c8
         exact wt (⟨_,eU,eQ,eR,eS,fR,da.sub,(eV.sel [0,2,1] (by decide)),h⟩)
        ·refine o1 58 aZ (o1 58 aZ (o1 58 aZ (m3 false vN (cg aZ) ?_)))
         have db:SR K bi wi bu [.box bs g #[iI af,iI ag,.bool ae] 56] [.box bs g #[iI bp,iI bq,.bool br] 56,.box wi.heap.size aI.heap.size #[iI am,iI an,iI z,.bool ab,.bool aj,iI ao] 143,.box wi.heap.size wi.heap.size (vS p f O A S c J q N U t V W x X Y y Z D l G).toArray 42]:=ar.sel [1,0,2] (by decide)
         obtain ⟨⟨eW,eX,eY⟩,eZ,h⟩:=ob h
         refine cv ([pp g 0,vN]) Tyb59 ((f59_ok k) _ _ _ _ _ _ _ _ _ _ _ eZ (hG.mono (d.sub.trans e.sub)) (pt db)) ?_
         rintro _ j1 ⟨e0,rfl,dc⟩
         have e1:=ca dc db
         exact wt (⟨_,e0,eW,eX,eY,fR,dc.sub,(e1.sel [0,2,1] (by decide)),h⟩)
       ·refine o1 53 aY (o1 53 aY (o1 53 aY (m3 false vN (cg aY) (m1 vN (o0 58 (o0 58 (o0 58 (m3 false vN rfl ?_))))))))
        have dd:SR K bi wi bu [.box bs g #[iI af,iI ag,.bool ae] 56] [.box bs g #[iI bp,iI bq,.bool br] 56,.box wi.heap.size aI.heap.size #[iI am,iI an,iI z,.bool ab,.bool aj,iI ao] 143,.box wi.heap.size wi.heap.size (vS p f O A S c J q N U t V W x X Y y Z D l G).toArray 42]:=ar.sel [1,0,2] (by decide)
        obtain ⟨⟨e2,e3,e4⟩,e5,h⟩:=ob h
        refine cv ([pp g 0,vN]) Tyb59 ((f59_ok k) _ _ _ _ _ _ _ _ _ _ _ e5 (hG.mono (d.sub.trans e.sub)) (pt dd)) ?_
        rintro _ j2 ⟨e6,rfl,de⟩
        have e7:=ca de dd
        exact wt (⟨_,e6,e2,e3,e4,fR,de.sub,(e7.sel [0,2,1] (by decide)),h⟩)
      ·refine o1 46 aJ (o1 46 aJ (o1 46 aJ (o1 46 aJ (o1 46 aJ (m3 false vN (cg aJ) (m1 vN (o0 53 (o0 53 (o0 53 (m3 false vN rfl (m1 vN (o0 58 (o0 58 (o0 58 (m3 false vN rfl ?_)))))))))))))))
       have df:SR K bi wi bu [.box bs g #[iI af,iI ag,.bool ae] 56] [.box bs g #[iI bp,iI bq,.bool br] 56,.box wi.heap.size aI.heap.size #[iI am,iI an,iI z,.bool ab,.bool aj,iI ao] 143,.box wi.heap.size wi.heap.size (vS p f O A S c J q N U t V W x X Y y Z D l G).toArray 42]:=ar.sel [1,0,2] (by decide)
       obtain ⟨⟨e8,e9,fa⟩,fb,h⟩:=ob h
       refine cv ([pp g 0,vN]) Tyb59 ((f59_ok k) _ _ _ _ _ _ _ _ _ _ _ fb (hG.mono (d.sub.trans e.sub)) (pt df)) ?_
       rintro _ j3 ⟨fc,rfl,dg⟩
       have fe:=ca dg df
       exact wt (⟨_,fc,e8,e9,fa,fR,dg.sub,(fe.sel [0,2,1] (by decide)),h⟩)
     ·refine o1 41 aX (o1 41 aX (o1 41 aX (m3 false vN (cg aX) (m1 vN (o0 46 (o0 46 (o0 46 (o0 46 (o0 46 (m3 false vN rfl (m1 vN (o0 53 (o0 53 (o0 53 (m3 false vN rfl (m1 vN (o0 58 (o0 58 (o0 58 (m3 false vN rfl ?_))))))))))))))))))))
      have dh:SR K bi wi bu [.box bs g #[iI af,iI ag,.bool ae] 56] [.box bs g #[iI bp,iI bq,.bool br] 56,.box wi.heap.size aI.heap.size #[iI am,iI an,iI z,.bool ab,.bool aj,iI ao] 143,.box wi.heap.size wi.heap.size (vS p f O A S c J q N U t V W x X Y y Z D l G).toArray 42]:=ar.sel [1,0,2] (by decide)
      obtain ⟨⟨ff,fg,fh⟩,fi,h⟩:=ob h
      refine cv ([pp g 0,vN]) Tyb59 ((f59_ok k) _ _ _ _ _ _ _ _ _ _ _ fi (hG.mono (d.sub.trans e.sub)) (pt dh)) ?_
      rintro _ j4 ⟨fj,rfl,di⟩
      have fk:=ca di dh
      exact wt (⟨_,fj,ff,fg,fh,fR,di.sub,(fk.sel [0,2,1] (by decide)),h⟩)
    ·refine o1 33 aw (o1 33 aw (o1 33 aw (o1 33 aw (o1 33 aw (o1 33 aw (m3 false vN (cg aw) (m1 vN (o0 41 (o0 41 (o0 41 (m3 false vN rfl (m1 vN (o0 46 (o0 46 (o0 46 (o0 46 (o0 46 (m3 false vN rfl (m1 vN (o0 53 (o0 53 (o0 53 (m3 false vN rfl (m1 vN (o0 58 (o0 58 (o0 58 (m3 false vN rfl ?_))))))))))))))))))))))))))))
     have dj:SR K bi wi bu [.box bs g #[iI af,iI ag,.bool ae] 56] [.box bs g #[iI bp,iI bq,.bool br] 56,.box wi.heap.size aI.heap.size #[iI am,iI an,iI z,.bool ab,.bool aj,iI ao] 143,.box wi.heap.size wi.heap.size (vS p f O A S c J q N U t V W x X Y y Z D l G).toArray 42]:=ar.sel [1,0,2] (by decide)
     obtain ⟨⟨fl,fm,fn⟩,fo,h⟩:=ob h
     refine cv ([pp g 0,vN]) Tyb59 ((f59_ok k) _ _ _ _ _ _ _ _ _ _ _ fo (hG.mono (d.sub.trans e.sub)) (pt dj)) ?_
     rintro _ j5 ⟨fp,rfl,dk⟩
     have fq:=ca dk dj
     exact wt (⟨_,fp,fl,fm,fn,fR,dk.sub,(fq.sel [0,2,1] (by decide)),h⟩)
   ·refine o1 25 av (o1 25 av (o1 25 av (o1 25 av (o1 25 av (o1 25 av (m3 false vN (cg av) (m1 vN (o0 33 (o0 33 (o0 33 (o0 33 (o0 33 (o0 33 (m3 false vN rfl (m1 vN (o0 41 (o0 41 (o0 41 (m3 false vN rfl (m1 vN (o0 46 (o0 46 (o0 46 (o0 46 (o0 46 (m3 false vN rfl (m1 vN (o0 53 (o0 53 (o0 53 (m3 false vN rfl (m1 vN (o0 58 (o0 58 (o0 58 (m3 false vN rfl ?_))))))))))))))))))))))))))))))))))))
    have dl:SR K bi wi bu [.box bs g #[iI af,iI ag,.bool ae] 56] [.box bs g #[iI bp,iI bq,.bool br] 56,.box wi.heap.size aI.heap.size #[iI am,iI an,iI z,.bool ab,.bool aj,iI ao] 143,.box wi.heap.size wi.heap.size (vS p f O A S c J q N U t V W x X Y y Z D l G).toArray 42]:=ar.sel [1,0,2] (by decide)
    obtain ⟨⟨fs,ft,fu⟩,fv,h⟩:=ob h
    refine cv ([pp g 0,vN]) Tyb59 ((f59_ok k) _ _ _ _ _ _ _ _ _ _ _ fv (hG.mono (d.sub.trans e.sub)) (pt dl)) ?_
    rintro _ j6 ⟨fx,rfl,dm⟩
    have fy:=ca dm dl
    exact wt (⟨_,fx,fs,ft,fu,fR,dm.sub,(fy.sel [0,2,1] (by decide)),h⟩)
  ·rintro _ j7 ⟨c7,bR,ch,ci,cj,rfl,m,I,h⟩
   unfold f90_j1 at h
   refine wp_cut (fun a w=>∃ (dn:Nat→Value) (bS:KH) (ck:Int) (cl:Int) (cm:Bool),a=fr 307 (updL dn [(0,pp g 0),(2,iI s),(4,pp wi.heap.size 0),(6,pp aI.heap.size 0)])∧KH.sub bR bS∧SR K bS wi w [.box bs g #[iI af,iI ag,.bool ae] 56] [.box bs g #[iI ck,iI cl,.bool cm] 56,.box wi.heap.size wi.heap.size (vS p f O A S c J q N U t V W x X Y y Z D l G).toArray 42,.box wi.heap.size aI.heap.size #[iI am,iI an,iI z,.bool ab,.bool aj,iI ao] 143]∧f90_j2 k F p f A c q t x y l s ab aj ck cl cm=some r_) ?_ ?_
   ·refine wp_region_lit (m1 (pp g 0) (fd 2 Tyf143_2 rfl (l1 2 (iI z) I Tya3 (c0 (z == 0) (m1 (.bool (z == 0)) (cd h (fun a0 h=>?_) (fun a0 h=>?_)))))))
    ·refine n1 68 a0 (fd 1 Tyf42_1 rfl (n1 68 a0 (l1 1 (.string f) I Tya9 (n1 68 a0 (bsc (r:=(seq f ⟨#[]⟩)) rfl rfl rfl (m3 true (.bool (seq f ⟨#[]⟩)) (cg a0) (m1 (.bool (seq f ⟨#[]⟩)) (cd h (fun ad h=>?_) (fun ad h=>?_)))))))))
     ·refine o1 73 ad (o1 73 ad (o1 73 ad (o1 73 ad (ou 77 (ou 77 (ou 77 (o1 73 ad (m3 true vT (cg ad) (m1 vT (o0 83 (o0 83 (o0 83 (o0 83 (ou 87 (ou 87 (ou 87 (ou 87 (ou 91 (ou 91 (ou 91 (ou 87 (o0 83 (m3 true vT rfl ?_)))))))))))))))))))))))
      obtain ⟨⟨fz,fA,fB⟩,fC,h⟩:=ob h
      refine cv ([pp g 0,vT]) Tyb59 ((f59_ok k) _ _ _ _ _ _ _ _ _ _ _ fC (hG.mono ((d.sub.trans e.sub).trans m)) (pt I)) ?_
      rintro _ j8 ⟨fD,rfl,dp⟩
      have fE:=ca dp I
      exact wt (⟨_,fD,fz,fA,fB,fR,dp.sub,fE,h⟩)
     ·refine n1 73 ad (fd 2 Tyf143_2 rfl (n1 73 ad (l1 2 (iI z) I Tya3 (n1 73 ad (c0 (z == 1) (n1 73 ad (m1 (.bool (z == 1)) (cd h (fun a3 h=>?_) (fun a3 h=>?_)))))))))
      ·refine n1 77 a3 (fd 1 Tyf42_1 rfl (n1 77 a3 (l1 1 (.string f) I Tya9 (n1 77 a3 ?_))))
       obtain ⟨cn,fF,h⟩:=ob h
       refine cv ([.string f]) Tyb34 ((f34_ok k) _ _ _ _ fF (hG.mono ((d.sub.trans e.sub).trans m)) bB (pt I)) ?_
       rintro _ j9 ⟨ka,rfl,bj⟩
       have a4:=ca bj I
       refine n1 73 ad (m3 true (.bool cn) (cg a3) (m3 false (.bool cn) (cg ad) (m1 (.bool cn) (cd h (fun ax h=>?_) (fun ax h=>?_)))))
       ·refine o1 83 ax (o1 83 ax (o1 83 ax (o1 83 ax (ou 87 (ou 87 (ou 87 (ou 87 (ou 91 (ou 91 (ou 91 (ou 87 (o1 83 ax (m3 true vT (cg ax) ?_)))))))))))))
        obtain ⟨⟨fG,fH,fI⟩,fJ,h⟩:=ob h
        refine cv ([pp g 0,vT]) Tyb59 ((f59_ok k) _ _ _ _ _ _ _ _ _ _ _ fJ (hG.mono (((d.sub.trans e.sub).trans m).trans bj.sub)) (pt a4)) ?_
        rintro _ kb ⟨fK,rfl,dq⟩
        have fL:=ca dq a4
        exact wt (⟨_,fK,fG,fH,fI,fR,(bj.sub.trans dq.sub),fL,h⟩)
       ·refine n1 83 ax (fd 2 Tyf143_2 rfl (n1 83 ax (l1 2 (iI z) a4 Tya3 (n1 83 ax (c0 (z == 2) (n1 83 ax (m1 (.bool (z == 2)) (cd h (fun aK h=>?_) (fun aK h=>?_)))))))))
        ·refine n1 87 aK (fd 1 Tyf42_1 rfl (n1 87 aK (l1 1 (.string f) a4 Tya9 (n1 87 aK (bsc (r:=(seq f ⟨#[]⟩)) rfl rfl rfl (n1 87 aK (m1 (.bool (seq f ⟨#[]⟩)) (n1 91 ad (fd 1 Tyf42_1 rfl (n1 91 ad (l1 1 (.string f) a4 Tya9 (n1 91 ad ?_))))))))))))
         obtain ⟨bT,fM,h⟩:=ob h
         refine cv ([.string f]) Tyb34 ((f34_ok k) _ _ _ _ fM (hG.mono (((d.sub.trans e.sub).trans m).trans bj.sub)) bB (pt a4)) ?_
         rintro _ kc ⟨kd,rfl,co⟩
         have dr:=ca co a4
         refine n1 87 aK (m3 false (.bool bT) (cg ad) (n1 83 ax (m3 true (.bool bT) (cg aK) (m3 false (.bool bT) (cg ax) ?_))))
         obtain ⟨⟨fN,fO,fP⟩,fQ,h⟩:=ob h
         refine cv ([pp g 0,.bool bT]) Tyb59 ((f59_ok k) _ _ _ _ _ _ _ _ _ _ _ fQ (hG.mono ((((d.sub.trans e.sub).trans m).trans bj.sub).trans co.sub)) (pt dr)) ?_
         rintro _ ke ⟨fS,rfl,ds⟩
         have fT:=ca ds dr
         exact wt (⟨_,fS,fN,fO,fP,fR,((bj.sub.trans co.sub).trans ds.sub),fT,h⟩)
        ·refine o1 87 aK (o1 87 aK (o1 87 aK (o1 87 aK (ou 91 (ou 91 (ou 91 (o1 87 aK (n1 83 ax (m3 false vN (cg aK) (m3 false vN (cg ax) ?_))))))))))
         obtain ⟨⟨fU,fV,fW⟩,fX,h⟩:=ob h
         refine cv ([pp g 0,vN]) Tyb59 ((f59_ok k) _ _ _ _ _ _ _ _ _ _ _ fX (hG.mono (((d.sub.trans e.sub).trans m).trans bj.sub)) (pt a4)) ?_
         rintro _ kf ⟨fY,rfl,dt⟩
         have fZ:=ca dt a4
         exact wt (⟨_,fY,fU,fV,fW,fR,(bj.sub.trans dt.sub),fZ,h⟩)
      ·refine o1 77 a3 (o1 77 a3 (o1 77 a3 (n1 73 ad (m3 false vN (cg a3) (m3 false vN (cg ad) (m1 vN (n0 83 (fd 2 Tyf143_2 rfl (n0 83 (l1 2 (iI z) I Tya3 (n0 83 (c0 (z == 2) (n0 83 (m1 (.bool (z == 2)) (cd h (fun aL h=>?_) (fun aL h=>?_))))))))))))))))
       ·refine n1 87 aL (fd 1 Tyf42_1 rfl (n1 87 aL (l1 1 (.string f) I Tya9 (n1 87 aL (bsc (r:=(seq f ⟨#[]⟩)) rfl rfl rfl (n1 87 aL (m1 (.bool (seq f ⟨#[]⟩)) (n1 91 ad (fd 1 Tyf42_1 rfl (n1 91 ad (l1 1 (.string f) I Tya9 (n1 91 ad ?_))))))))))))
        obtain ⟨bU,f0,h⟩:=ob h
        refine cv ([.string f]) Tyb34 ((f34_ok k) _ _ _ _ f0 (hG.mono ((d.sub.trans e.sub).trans m)) bB (pt I)) ?_
        rintro _ kg ⟨kh,rfl,cq⟩
        have du:=ca cq I
        refine n1 87 aL (m3 false (.bool bU) (cg ad) (n0 83 (m3 true (.bool bU) (cg aL) (m3 false (.bool bU) rfl ?_))))
        obtain ⟨⟨f1,f2,f3⟩,f4,h⟩:=ob h
        refine cv ([pp g 0,.bool bU]) Tyb59 ((f59_ok k) _ _ _ _ _ _ _ _ _ _ _ f4 (hG.mono (((d.sub.trans e.sub).trans m).trans cq.sub)) (pt du)) ?_
        rintro _ ki ⟨f6,rfl,dv⟩
        have f7:=ca dv du
        exact wt (⟨_,f6,f1,f2,f3,fR,(cq.sub.trans dv.sub),f7,h⟩)
       ·refine o1 87 aL (o1 87 aL (o1 87 aL (o1 87 aL (ou 91 (ou 91 (ou 91 (o1 87 aL (n0 83 (m3 false vN (cg aL) (m3 false vN rfl ?_))))))))))
        obtain ⟨⟨f8,f9,ga⟩,gb,h⟩:=ob h
        refine cv ([pp g 0,vN]) Tyb59 ((f59_ok k) _ _ _ _ _ _ _ _ _ _ _ gb (hG.mono ((d.sub.trans e.sub).trans m)) (pt I)) ?_
        rintro _ kj ⟨gc,rfl,dw⟩
        have gd:=ca dw I
        exact wt (⟨_,gc,f8,f9,ga,fR,dw.sub,gd,h⟩)
    ·refine o1 68 a0 (o1 68 a0 (o1 68 a0 (m3 false vN (cg a0) (m1 vN (n0 73 (fd 2 Tyf143_2 rfl (n0 73 (l1 2 (iI z) I Tya3 (n0 73 (c0 (z == 1) (n0 73 (m1 (.bool (z == 1)) (cd h (fun a5 h=>?_) (fun a5 h=>?_))))))))))))))
     ·refine n1 77 a5 (fd 1 Tyf42_1 rfl (n1 77 a5 (l1 1 (.string f) I Tya9 (n1 77 a5 ?_))))
      obtain ⟨cr,ge,h⟩:=ob h
      refine cv ([.string f]) Tyb34 ((f34_ok k) _ _ _ _ ge (hG.mono ((d.sub.trans e.sub).trans m)) bB (pt I)) ?_
      rintro _ kk ⟨kl,rfl,aU⟩
      have aN:=ca aU I
      refine n0 73 (m3 true (.bool cr) (cg a5) (m3 false (.bool cr) rfl (m1 (.bool cr) (cd h (fun aq h=>?_) (fun aq h=>?_)))))
      ·refine o1 83 aq (o1 83 aq (o1 83 aq (o1 83 aq (ou 87 (ou 87 (ou 87 (ou 87 (ou 91 (ou 91 (ou 91 (ou 87 (o1 83 aq (m3 true vT (cg aq) ?_)))))))))))))
       obtain ⟨⟨gf,gg,gh⟩,gi,h⟩:=ob h
       refine cv ([pp g 0,vT]) Tyb59 ((f59_ok k) _ _ _ _ _ _ _ _ _ _ _ gi (hG.mono (((d.sub.trans e.sub).trans m).trans aU.sub)) (pt aN)) ?_
       rintro _ km ⟨gj,rfl,dx⟩
       have gk:=ca dx aN
       exact wt (⟨_,gj,gf,gg,gh,fR,(aU.sub.trans dx.sub),gk,h⟩)
      ·refine n1 83 aq (fd 2 Tyf143_2 rfl (n1 83 aq (l1 2 (iI z) aN Tya3 (n1 83 aq (c0 (z == 2) (n1 83 aq (m1 (.bool (z == 2)) (cd h (fun ay h=>?_) (fun ay h=>?_)))))))))
       ·refine n1 87 ay (fd 1 Tyf42_1 rfl (n1 87 ay (l1 1 (.string f) aN Tya9 (n1 87 ay (bsc (r:=(seq f ⟨#[]⟩)) rfl rfl rfl (n1 87 ay (m1 (.bool (seq f ⟨#[]⟩)) (cd h (fun a6 h=>?_) (fun a6 h=>?_)))))))))
        ·refine o1 91 a6 (o1 91 a6 (o1 91 a6 (n1 87 ay (m3 true vT (cg a6) (n1 83 aq (m3 true vT (cg ay) (m3 false vT (cg aq) ?_)))))))
         obtain ⟨⟨gl,gm,gn⟩,go,h⟩:=ob h
         refine cv ([pp g 0,vT]) Tyb59 ((f59_ok k) _ _ _ _ _ _ _ _ _ _ _ go (hG.mono (((d.sub.trans e.sub).trans m).trans aU.sub)) (pt aN)) ?_
         rintro _ kn ⟨gp,rfl,dy⟩
         have gq:=ca dy aN
         exact wt (⟨_,gp,gl,gm,gn,fR,(aU.sub.trans dy.sub),gq,h⟩)
        ·refine n1 91 a6 (fd 1 Tyf42_1 rfl (n1 91 a6 (l1 1 (.string f) aN Tya9 (n1 91 a6 ?_))))
         obtain ⟨bV,gr,h⟩:=ob h
         refine cv ([.string f]) Tyb34 ((f34_ok k) _ _ _ _ gr (hG.mono (((d.sub.trans e.sub).trans m).trans aU.sub)) bB (pt aN)) ?_
         rintro _ ko ⟨kp,rfl,ct⟩
         have dz:=ca ct aN
         refine n1 87 ay (m3 false (.bool bV) (cg a6) (n1 83 aq (m3 true (.bool bV) (cg ay) (m3 false (.bool bV) (cg aq) ?_))))
         obtain ⟨⟨gs,gt,gu⟩,gv,h⟩:=ob h
         refine cv ([pp g 0,.bool bV]) Tyb59 ((f59_ok k) _ _ _ _ _ _ _ _ _ _ _ gv (hG.mono ((((d.sub.trans e.sub).trans m).trans aU.sub).trans ct.sub)) (pt dz)) ?_
         rintro _ kq ⟨gw,rfl,dA⟩
         have gx:=ca dA dz
         exact wt (⟨_,gw,gs,gt,gu,fR,((aU.sub.trans ct.sub).trans dA.sub),gx,h⟩)
       ·refine o1 87 ay (o1 87 ay (o1 87 ay (o1 87 ay (ou 91 (ou 91 (ou 91 (o1 87 ay (n1 83 aq (m3 false vN (cg ay) (m3 false vN (cg aq) ?_))))))))))
        obtain ⟨⟨gy,gz,gA⟩,gB,h⟩:=ob h
        refine cv ([pp g 0,vN]) Tyb59 ((f59_ok k) _ _ _ _ _ _ _ _ _ _ _ gB (hG.mono (((d.sub.trans e.sub).trans m).trans aU.sub)) (pt aN)) ?_
        rintro _ ks ⟨gD,rfl,dB⟩
        have gF:=ca dB aN
        exact wt (⟨_,gD,gy,gz,gA,fR,(aU.sub.trans dB.sub),gF,h⟩)
     ·refine o1 77 a5 (o1 77 a5 (o1 77 a5 (n0 73 (m3 false vN (cg a5) (m3 false vN rfl (m1 vN (n0 83 (fd 2 Tyf143_2 rfl (n0 83 (l1 2 (iI z) I Tya3 (n0 83 (c0 (z == 2) (n0 83 (m1 (.bool (z == 2)) (cd h (fun az h=>?_) (fun az h=>?_))))))))))))))))
      ·refine n1 87 az (fd 1 Tyf42_1 rfl (n1 87 az (l1 1 (.string f) I Tya9 (n1 87 az (bsc (r:=(seq f ⟨#[]⟩)) rfl rfl rfl (n1 87 az (m1 (.bool (seq f ⟨#[]⟩)) (cd h (fun a7 h=>?_) (fun a7 h=>?_)))))))))
       ·refine o1 91 a7 (o1 91 a7 (o1 91 a7 (n1 87 az (m3 true vT (cg a7) (n0 83 (m3 true vT (cg az) (m3 false vT rfl ?_)))))))
        obtain ⟨⟨gG,gH,gI⟩,gJ,h⟩:=ob h
        refine cv ([pp g 0,vT]) Tyb59 ((f59_ok k) _ _ _ _ _ _ _ _ _ _ _ gJ (hG.mono ((d.sub.trans e.sub).trans m)) (pt I)) ?_
        rintro _ kt ⟨gK,rfl,dC⟩
        have gL:=ca dC I
        exact wt (⟨_,gK,gG,gH,gI,fR,dC.sub,gL,h⟩)
       ·refine n1 91 a7 (fd 1 Tyf42_1 rfl (n1 91 a7 (l1 1 (.string f) I Tya9 (n1 91 a7 ?_))))
        obtain ⟨bW,gM,h⟩:=ob h
        refine cv ([.string f]) Tyb34 ((f34_ok k) _ _ _ _ gM (hG.mono ((d.sub.trans e.sub).trans m)) bB (pt I)) ?_
        rintro _ ku ⟨kv,rfl,cu⟩
        have dD:=ca cu I
        refine n1 87 az (m3 false (.bool bW) (cg a7) (n0 83 (m3 true (.bool bW) (cg az) (m3 false (.bool bW) rfl ?_))))
        obtain ⟨⟨gN,gO,gP⟩,gQ,h⟩:=ob h
        refine cv ([pp g 0,.bool bW]) Tyb59 ((f59_ok k) _ _ _ _ _ _ _ _ _ _ _ gQ (hG.mono (((d.sub.trans e.sub).trans m).trans cu.sub)) (pt dD)) ?_
        rintro _ kw ⟨gR,rfl,dE⟩
        have gT:=ca dE dD
        exact wt (⟨_,gR,gN,gO,gP,fR,(cu.sub.trans dE.sub),gT,h⟩)
      ·refine o1 87 az (o1 87 az (o1 87 az (o1 87 az (ou 91 (ou 91 (ou 91 (o1 87 az (n0 83 (m3 false vN (cg az) (m3 false vN rfl ?_))))))))))
       obtain ⟨⟨gU,gV,gW⟩,gX,h⟩:=ob h
       refine cv ([pp g 0,vN]) Tyb59 ((f59_ok k) _ _ _ _ _ _ _ _ _ _ _ gX (hG.mono ((d.sub.trans e.sub).trans m)) (pt I)) ?_
       rintro _ kx ⟨gY,rfl,dF⟩
       have gZ:=ca dF I
       exact wt (⟨_,gY,gU,gV,gW,fR,dF.sub,gZ,h⟩)
   ·rintro _ ky ⟨dn,bS,ck,cl,cm,rfl,u,aV,h⟩
    unfold f90_j2 at h
    refine wp_cut (fun a w=>∃ (dG:Nat→Value) (bX:KH) (cw:Int) (cx:Int) (cy:Bool),a=fr 307 (updL dG [(0,pp g 0),(2,iI s),(4,pp wi.heap.size 0),(6,pp aI.heap.size 0)])∧KH.sub bS bX∧SR K bX wi w [.box bs g #[iI af,iI ag,.bool ae] 56] [.box bs g #[iI cw,iI cx,.bool cy] 56,.box wi.heap.size wi.heap.size (vS p f O A S c J q N U t V W x X Y y Z D l G).toArray 42,.box wi.heap.size aI.heap.size #[iI am,iI an,iI z,.bool ab,.bool aj,iI ao] 143]∧f90_j3 k F p f c q t x y l s aj cw cx cy=some r_) ?_ ?_
    ·refine wp_region_lit (m1 (pp g 0) (fd 3 Tyf143_3 rfl (l1 2 (.bool ab) aV Tya4 (m1 (.bool ab) (cd h (fun a8 h=>?_) (fun a8 h=>?_))))))
     ·refine n1 102 a8 (fd 3 Tyf42_3 rfl (n1 102 a8 (l1 1 (.string A) aV Tya9 (n1 102 a8 ?_))))
      obtain ⟨dH,g0,h⟩:=ob h
      refine cv ([.string A]) Tyb34 ((f34_ok k) _ _ _ _ g0 (hG.mono (((d.sub.trans e.sub).trans m).trans u)) eG (pt aV)) ?_
      rintro _ kz ⟨kA,rfl,bv⟩
      have bk:=ca bv aV
      refine m3 true (.bool dH) (cg a8) (m1 (.bool dH) (cd h (fun aA h=>?_) (fun aA h=>?_)))
      ·refine o1 107 aA (o1 107 aA (o1 107 aA (o1 107 aA (ou 111 (ou 111 (ou 111 (o1 107 aA (m3 true vT (cg aA) ?_))))))))
       obtain ⟨⟨g1,g2,g3⟩,g4,h⟩:=ob h
       refine cv ([pp g 0,vT]) Tyb59 ((f59_ok k) _ _ _ _ _ _ _ _ _ _ _ g4 (hG.mono ((((d.sub.trans e.sub).trans m).trans u).trans bv.sub)) (pt bk)) ?_
       rintro _ kB ⟨g5,rfl,dI⟩
       have g6:=ca dI bk
       exact wt (⟨_,g5,g1,g2,g3,fR,(bv.sub.trans dI.sub),g6,h⟩)
      ·refine n1 107 aA (fd 3 Tyf143_3 rfl (n1 107 aA (l1 2 (.bool ab) bk Tya4 (n1 107 aA (uN ab (n1 107 aA (m1 (.bool (!ab)) (cd h (fun a9 h=>?_) (fun a9 h=>?_)))))))))
       ·refine n1 111 a9 (fd 3 Tyf42_3 rfl (n1 111 a9 (l1 1 (.string A) bk Tya9 (n1 111 a9 (bsc (r:=(seq A ⟨#[]⟩)) rfl rfl rfl (n1 107 aA (m3 true (.bool (seq A ⟨#[]⟩)) (cg a9) (m3 false (.bool (seq A ⟨#[]⟩)) (cg aA) ?_))))))))
        obtain ⟨⟨g7,g8,g9⟩,ha,h⟩:=ob h
        refine cv ([pp g 0,.bool (seq A ⟨#[]⟩)]) Tyb59 ((f59_ok k) _ _ _ _ _ _ _ _ _ _ _ ha (hG.mono ((((d.sub.trans e.sub).trans m).trans u).trans bv.sub)) (pt bk)) ?_
        rintro _ kC ⟨hb,rfl,dJ⟩
        have hc:=ca dJ bk
        exact wt (⟨_,hb,g7,g8,g9,fR,(bv.sub.trans dJ.sub),hc,h⟩)
       ·refine o1 111 a9 (o1 111 a9 (o1 111 a9 (n1 107 aA (m3 false vN (cg a9) (m3 false vN (cg aA) ?_)))))
        obtain ⟨⟨hd,he,hf⟩,hg,h⟩:=ob h
        refine cv ([pp g 0,vN]) Tyb59 ((f59_ok k) _ _ _ _ _ _ _ _ _ _ _ hg (hG.mono ((((d.sub.trans e.sub).trans m).trans u).trans bv.sub)) (pt bk)) ?_
        rintro _ kD ⟨hh,rfl,dK⟩
        have hi:=ca dK bk
        exact wt (⟨_,hh,hd,he,hf,fR,(bv.sub.trans dK.sub),hi,h⟩)
     ·refine o1 102 a8 (o1 102 a8 (o1 102 a8 (m3 false vN (cg a8) (m1 vN (n0 107 (fd 3 Tyf143_3 rfl (n0 107 (l1 2 (.bool ab) aV Tya4 (n0 107 (uN ab (n0 107 (m1 (.bool (!ab)) (cd h (fun ba h=>?_) (fun ba h=>?_))))))))))))))
      ·refine n1 111 ba (fd 3 Tyf42_3 rfl (n1 111 ba (l1 1 (.string A) aV Tya9 (n1 111 ba (bsc (r:=(seq A ⟨#[]⟩)) rfl rfl rfl (n0 107 (m3 true (.bool (seq A ⟨#[]⟩)) (cg ba) (m3 false (.bool (seq A ⟨#[]⟩)) rfl ?_))))))))
       obtain ⟨⟨hk,hl,hm⟩,hn,h⟩:=ob h
       refine cv ([pp g 0,.bool (seq A ⟨#[]⟩)]) Tyb59 ((f59_ok k) _ _ _ _ _ _ _ _ _ _ _ hn (hG.mono (((d.sub.trans e.sub).trans m).trans u)) (pt aV)) ?_
       rintro _ kE ⟨ho,rfl,dL⟩
       have hp:=ca dL aV
       exact wt (⟨_,ho,hk,hl,hm,fR,dL.sub,hp,h⟩)
      ·refine o1 111 ba (o1 111 ba (o1 111 ba (n0 107 (m3 false vN (cg ba) (m3 false vN rfl ?_)))))
       obtain ⟨⟨hq,hr,hs⟩,ht,h⟩:=ob h
       refine cv ([pp g 0,vN]) Tyb59 ((f59_ok k) _ _ _ _ _ _ _ _ _ _ _ ht (hG.mono (((d.sub.trans e.sub).trans m).trans u)) (pt aV)) ?_
       rintro _ kF ⟨hu,rfl,dM⟩
       have hv:=ca dM aV
       exact wt (⟨_,hu,hq,hr,hs,fR,dM.sub,hv,h⟩)
    ·rintro _ kG ⟨dG,bX,cw,cx,cy,rfl,B,bC,h⟩
     unfold f90_j3 at h
     refine wp_cut (fun a w=>∃ (dN:Nat→Value) (bY:KH) (cz:Int) (cA:Int) (cB:Bool),a=fr 307 (updL dN [(0,pp g 0),(2,iI s),(4,pp wi.heap.size 0)])∧KH.sub bX bY∧SR K bY wi w [.box bs g #[iI af,iI ag,.bool ae] 56] [.box bs g #[iI cz,iI cA,.bool cB] 56,.box wi.heap.size wi.heap.size (vS p f O A S c J q N U t V W x X Y y Z D l G).toArray 42]∧f90_j4 k F p f c q t x y l s cz cA cB=some r_) ?_ ?_
     ·refine wp_region_lit (m1 (pp g 0) (fd 4 Tyf143_4 rfl (l1 2 (.bool aj) bC Tya4 (m1 (.bool aj) (cd h (fun aP h=>?_) (fun aP h=>?_))))))
      ·refine o1 121 aP (o1 121 aP (o1 121 aP (o1 121 aP (m3 true vT (cg aP) ?_))))
       obtain ⟨⟨hw,hx,hy⟩,hz,h⟩:=ob h
       refine cv ([pp g 0,vT]) Tyb59 ((f59_ok k) _ _ _ _ _ _ _ _ _ _ _ hz (hG.mono ((((d.sub.trans e.sub).trans m).trans u).trans B)) (pt bC)) ?_
       rintro _ kH ⟨hA,rfl,dO⟩
       have hB:=ca dO bC
       exact wt (⟨_,hA,hw,hx,hy,fR,dO.sub,(hB.sel [0,1] (by decide)),h⟩)
      ·refine n1 121 aP (fd 7 Tyf42_7 rfl (n1 121 aP (l1 1 (sl U t V) bC Tya36 (n1 121 aP (lS t.length Tye36 (n1 121 aP (c0 ((t.length:Int) == 0) (m3 false (.bool ((t.length:Int) == 0)) (cg aP) ?_))))))))
       obtain ⟨⟨hC,hD,hE⟩,hF,h⟩:=ob h
       refine cv ([pp g 0,.bool ((t.length:Int) == 0)]) Tyb59 ((f59_ok k) _ _ _ _ _ _ _ _ _ _ _ hF (hG.mono ((((d.sub.trans e.sub).trans m).trans u).trans B)) (pt bC)) ?_
       rintro _ kJ ⟨hH,rfl,dP⟩
       have hI:=ca dP bC
       exact wt (⟨_,hH,hC,hD,hE,fR,dP.sub,(hI.sel [0,1] (by decide)),h⟩)
     ·rintro _ kK ⟨dN,bY,cz,cA,cB,rfl,C,ak,h⟩
      unfold f90_j4 at h
      refine wp_cut (fun a w=>∃ (dQ:Nat→Value) (bZ:KH) (cC:Int) (cD:Int) (cG:Bool),a=fr 307 (updL dQ [(0,pp g 0),(2,iI s),(4,pp wi.heap.size 0)])∧KH.sub bY bZ∧SR K bZ wi w [.box bs g #[iI af,iI ag,.bool ae] 56] [.box bs g #[iI cC,iI cD,.bool cG] 56,.box wi.heap.size wi.heap.size (vS p f O A S c J q N U t V W x X Y y Z D l G).toArray 42]∧f90_j5 k F p f c q t x y l s cC cD cG=some r_) ?_ ?_
      ·refine wp_region_lit (m1 (pp g 0) (fd 8 Tyf42_8 rfl (l1 1 (sl W x X) ak Tya36 (lS x.length Tye36 (c0 ((x.length:Int) == 0) (m1 (.bool ((x.length:Int) == 0)) (cd h (fun aB h=>?_) (fun aB h=>?_))))))))
       ·refine o1 133 aB (o1 133 aB (o1 133 aB (o1 133 aB (ou 137 (ou 137 (ou 137 (o1 133 aB (m3 true vT (cg aB) (m1 vT (o0 143 (o0 143 (o0 143 (o0 143 (ou 147 (ou 147 (ou 147 (ou 147 (o0 143 (m3 true vT rfl ?_)))))))))))))))))))
        obtain ⟨⟨hJ,hK,hL⟩,hM,h⟩:=ob h
        refine cv ([pp g 0,vT]) Tyb59 ((f59_ok k) _ _ _ _ _ _ _ _ _ _ _ hM (hG.mono (((((d.sub.trans e.sub).trans m).trans u).trans B).trans C)) (pt ak)) ?_
        rintro _ kL ⟨hN,rfl,dR⟩
        have hO:=ca dR ak
        exact wt (⟨_,hN,hJ,hK,hL,fR,dR.sub,hO,h⟩)
       ·refine n1 133 aB (fd 0 Tyf42_0 rfl (n1 133 aB (l1 1 (iI p) ak Tya3 (n1 133 aB (c0 (p == 20) (n1 133 aB (m1 (.bool (p == 20)) (cd h (fun bb h=>?_) (fun bb h=>?_)))))))))
        ·refine n1 137 bb (fd 5 Tyf42_5 rfl (n1 137 bb (l1 1 (iI c) ak Tya3 (n1 137 bb (c0 (c == 1) (n1 133 aB (m3 true (.bool (c == 1)) (cg bb) (m3 false (.bool (c == 1)) (cg aB) (m1 (.bool (c == 1)) (cd h (fun aE h=>?_) (fun aE h=>?_)))))))))))
         ·refine o1 143 aE (o1 143 aE (o1 143 aE (o1 143 aE (ou 147 (ou 147 (ou 147 (ou 147 (o1 143 aE (m3 true vT (cg aE) ?_)))))))))
          obtain ⟨⟨hP,hQ,hR⟩,hS,h⟩:=ob h
          refine cv ([pp g 0,vT]) Tyb59 ((f59_ok k) _ _ _ _ _ _ _ _ _ _ _ hS (hG.mono (((((d.sub.trans e.sub).trans m).trans u).trans B).trans C)) (pt ak)) ?_
          rintro _ kM ⟨hT,rfl,dS⟩
          have hU:=ca dS ak
          exact wt (⟨_,hT,hP,hQ,hR,fR,dS.sub,hU,h⟩)
         ·refine n1 143 aE (fd 0 Tyf42_0 rfl (n1 143 aE (l1 1 (iI p) ak Tya3 (n1 143 aE (c0 (p == 24) (n1 143 aE (m1 (.bool (p == 24)) (cd h (fun aQ h=>?_) (fun aQ h=>?_)))))))))
          ·refine n1 147 aQ (fd 5 Tyf42_5 rfl (n1 147 aQ (l1 1 (iI c) ak Tya3 (n1 147 aQ (bdv (r:=(c.tmod 2)) rfl rfl (by decide) rfl (n1 147 aQ (c0 ((c.tmod 2) == 1) (n1 143 aE (m3 true (.bool ((c.tmod 2) == 1)) (cg aQ) (m3 false (.bool ((c.tmod 2) == 1)) (cg aE) ?_))))))))))
           obtain ⟨⟨hV,hW,hX⟩,hY,h⟩:=ob h
           refine cv ([pp g 0,.bool ((c.tmod 2) == 1)]) Tyb59 ((f59_ok k) _ _ _ _ _ _ _ _ _ _ _ hY (hG.mono (((((d.sub.trans e.sub).trans m).trans u).trans B).trans C)) (pt ak)) ?_
           rintro _ kN ⟨hZ,rfl,dT⟩
           have h0:=ca dT ak
           exact wt (⟨_,hZ,hV,hW,hX,fR,dT.sub,h0,h⟩)
          ·refine o1 147 aQ (o1 147 aQ (o1 147 aQ (o1 147 aQ (n1 143 aE (m3 false vN (cg aQ) (m3 false vN (cg aE) ?_))))))
           obtain ⟨⟨h1,h2,h3⟩,h4,h⟩:=ob h
           refine cv ([pp g 0,vN]) Tyb59 ((f59_ok k) _ _ _ _ _ _ _ _ _ _ _ h4 (hG.mono (((((d.sub.trans e.sub).trans m).trans u).trans B).trans C)) (pt ak)) ?_
           rintro _ kO ⟨h5,rfl,dU⟩
           have h6:=ca dU ak
           exact wt (⟨_,h5,h1,h2,h3,fR,dU.sub,h6,h⟩)
        ·refine o1 137 bb (o1 137 bb (o1 137 bb (n1 133 aB (m3 false vN (cg bb) (m3 false vN (cg aB) (m1 vN (n0 143 (fd 0 Tyf42_0 rfl (n0 143 (l1 1 (iI p) ak Tya3 (n0 143 (c0 (p == 24) (n0 143 (m1 (.bool (p == 24)) (cd h (fun aR h=>?_) (fun aR h=>?_))))))))))))))))
         ·refine n1 147 aR (fd 5 Tyf42_5 rfl (n1 147 aR (l1 1 (iI c) ak Tya3 (n1 147 aR (bdv (r:=(c.tmod 2)) rfl rfl (by decide) rfl (n1 147 aR (c0 ((c.tmod 2) == 1) (n0 143 (m3 true (.bool ((c.tmod 2) == 1)) (cg aR) (m3 false (.bool ((c.tmod 2) == 1)) rfl ?_))))))))))
          obtain ⟨⟨h7,h8,h9⟩,ia,h⟩:=ob h
          refine cv ([pp g 0,.bool ((c.tmod 2) == 1)]) Tyb59 ((f59_ok k) _ _ _ _ _ _ _ _ _ _ _ ia (hG.mono (((((d.sub.trans e.sub).trans m).trans u).trans B).trans C)) (pt ak)) ?_
          rintro _ kP ⟨ib,rfl,dV⟩
          have ic:=ca dV ak
          exact wt (⟨_,ib,h7,h8,h9,fR,dV.sub,ic,h⟩)
         ·refine o1 147 aR (o1 147 aR (o1 147 aR (o1 147 aR (n0 143 (m3 false vN (cg aR) (m3 false vN rfl ?_))))))
          obtain ⟨⟨id,ie,ig⟩,ih,h⟩:=ob h
          refine cv ([pp g 0,vN]) Tyb59 ((f59_ok k) _ _ _ _ _ _ _ _ _ _ _ ih (hG.mono (((((d.sub.trans e.sub).trans m).trans u).trans B).trans C)) (pt ak)) ?_
          rintro _ kQ ⟨ii,rfl,dW⟩
          have ij:=ca dW ak
          exact wt (⟨_,ii,id,ie,ig,fR,dW.sub,ij,h⟩)
      ·rintro _ kR ⟨dQ,bZ,cC,cD,cG,rfl,ac,bd,h⟩
       unfold f90_j5 at h
       refine wp_cut (fun a w=>∃ (dX:Nat→Value) (bM:KH) (b0:Int) (b1:Int) (b2:Bool),a=fr 307 (updL dX [(0,pp g 0),(2,iI s),(4,pp wi.heap.size 0)])∧KH.sub bZ bM∧SR K bM wi w [.box bs g #[iI af,iI ag,.bool ae] 56] [.box bs g #[iI b0,iI b1,.bool b2] 56,.box wi.heap.size wi.heap.size (vS p f O A S c J q N U t V W x X Y y Z D l G).toArray 42]∧f90_j6 k F p f c q t x y l s b0 b1 b2=some r_) ?_ ?_
       ·refine wp_region_lit (m1 (pp g 0) (fd 9 Tyf42_9 rfl (l1 1 (sl Y y Z) bd Tya36 (lS y.length Tye36 (c0 ((y.length:Int) == 0) (m1 (.bool ((y.length:Int) == 0)) (cd h (fun aF h=>?_) (fun aF h=>?_))))))))
        ·refine o1 160 aF (o1 160 aF (o1 160 aF (o1 160 aF (ou 164 (ou 164 (ou 164 (o1 160 aF (m3 true vT (cg aF) ?_))))))))
         obtain ⟨⟨ik,il,im⟩,io,h⟩:=ob h
         refine cv ([pp g 0,vT]) Tyb59 ((f59_ok k) _ _ _ _ _ _ _ _ _ _ _ io (hG.mono ((((((d.sub.trans e.sub).trans m).trans u).trans B).trans C).trans ac)) (pt bd)) ?_
         rintro _ kT ⟨ip,rfl,dY⟩
         have iq:=ca dY bd
         exact wt (⟨_,ip,ik,il,im,fR,dY.sub,iq,h⟩)
        ·refine n1 160 aF (fd 0 Tyf42_0 rfl (n1 160 aF (l1 1 (iI p) bd Tya3 (n1 160 aF (c0 (p == 24) (n1 160 aF (m1 (.bool (p == 24)) (cd h (fun be h=>?_) (fun be h=>?_)))))))))
         ·refine n1 164 be (fd 5 Tyf42_5 rfl (n1 164 be (l1 1 (iI c) bd Tya3 (n1 164 be (c0 (decide (c ≥ 2)) (n1 160 aF (m3 true (.bool (decide (c ≥ 2))) (cg be) (m3 false (.bool (decide (c ≥ 2))) (cg aF) ?_))))))))
          obtain ⟨⟨ir,it,iu⟩,iv,h⟩:=ob h
          refine cv ([pp g 0,.bool (decide (c ≥ 2))]) Tyb59 ((f59_ok k) _ _ _ _ _ _ _ _ _ _ _ iv (hG.mono ((((((d.sub.trans e.sub).trans m).trans u).trans B).trans C).trans ac)) (pt bd)) ?_
          rintro _ kU ⟨iw,rfl,dZ⟩
          have ix:=ca dZ bd
          exact wt (⟨_,iw,ir,it,iu,fR,dZ.sub,ix,h⟩)
         ·refine o1 164 be (o1 164 be (o1 164 be (n1 160 aF (m3 false vN (cg be) (m3 false vN (cg aF) ?_)))))
          obtain ⟨⟨iy,iz,iA⟩,iB,h⟩:=ob h
          refine cv ([pp g 0,vN]) Tyb59 ((f59_ok k) _ _ _ _ _ _ _ _ _ _ _ iB (hG.mono ((((((d.sub.trans e.sub).trans m).trans u).trans B).trans C).trans ac)) (pt bd)) ?_
          rintro _ kV ⟨iC,rfl,d0⟩
          have iD:=ca d0 bd
          exact wt (⟨_,iC,iy,iz,iA,fR,d0.sub,iD,h⟩)
       ·rintro _ kW ⟨dX,bM,b0,b1,b2,rfl,ah,ap,h⟩
        unfold f90_j6 at h
        refine wp_cut (fun a w=>∃ (d1:Nat→Value) (b3:KH) (cH:Int) (cI:Int) (cJ:Bool),a=fr 307 (updL d1 [(0,pp g 0),(2,iI s),(4,pp wi.heap.size 0)])∧KH.sub bM b3∧SR K b3 wi w [.box bs g #[iI af,iI ag,.bool ae] 56] [.box bs g #[iI cH,iI cI,.bool cJ] 56,.box wi.heap.size wi.heap.size (vS p f O A S c J q N U t V W x X Y y Z D l G).toArray 42]∧f90_j7 k F p q t x y l s cH cI cJ=some r_) ?_ ?_
        ·refine sr (fd 0 Tyf42_0 rfl (l1 1 (iI p) ap Tya3 (wt (wp_block (sr (c0 (p == 6) (m2 (.bool (p == 6)) (wt (cd h (fun cK h=>?_) (fun cK h=>?_))))))))))
         ·refine cT cK (wp_region_lit (m1 (pp g 0) (fd 5 Tyf42_5 rfl (l1 1 (iI c) ap Tya3 (c0 (c == 0) (m1 (.bool (c == 0)) (cd h (fun bf h=>?_) (fun bf h=>?_))))))))
          ·refine o1 179 bf (o1 179 bf (o1 179 bf (m3 true vT (cg bf) ?_)))
           obtain ⟨⟨iE,iF,iG⟩,iH,h⟩:=ob h
           refine cv ([pp g 0,vT]) Tyb59 ((f59_ok k) _ _ _ _ _ _ _ _ _ _ _ iH (hG.mono (((((((d.sub.trans e.sub).trans m).trans u).trans B).trans C).trans ac).trans ah)) (pt ap)) ?_
           rintro _ kX ⟨iJ,rfl,d2⟩
           have iK:=ca d2 ap
           exact wpList_nil (blkN (thenN (⟨_,iJ,iE,iF,iG,fR,d2.sub,iK,h⟩)))
          ·refine n1 179 bf (fd 1 Tyf42_1 rfl (n1 179 bf (l1 1 (.string f) ap Tya9 (n1 179 bf (bsc (r:=(!seq f ⟨#[]⟩)) rfl rfl rfl (m3 false (.bool (!seq f ⟨#[]⟩)) (cg bf) ?_))))))
           obtain ⟨⟨iL,iM,iN⟩,iO,h⟩:=ob h
           refine cv ([pp g 0,.bool (!seq f ⟨#[]⟩)]) Tyb59 ((f59_ok k) _ _ _ _ _ _ _ _ _ _ _ iO (hG.mono (((((((d.sub.trans e.sub).trans m).trans u).trans B).trans C).trans ac).trans ah)) (pt ap)) ?_
           rintro _ kY ⟨iP,rfl,d3⟩
           have iQ:=ca d3 ap
           exact wpList_nil (blkN (thenN (⟨_,iP,iL,iM,iN,fR,d3.sub,iQ,h⟩)))
         ·refine cF cK (sr (c0 (p == 24) (m2 (.bool (p == 24)) (wt (cd h (fun cL h=>?_) (fun cL h=>?_))))))
          ·refine cT cL (wp_region_lit (m1 (pp g 0) (fd 5 Tyf42_5 rfl (l1 1 (iI c) ap Tya3 (c0 (decide (c > 0)) (m1 (.bool (decide (c > 0))) (cd h (fun al h=>?_) (fun al h=>?_))))))))
           ·refine n1 191 al (fd 5 Tyf42_5 rfl (n1 191 al (l1 1 (iI c) ap Tya3 (n1 191 al (bdv (r:=(c.tmod 2)) rfl rfl (by decide) rfl (n1 191 al (c0 ((c.tmod 2) == 1) (n1 191 al (fd 1 Tyf42_1 rfl (n1 191 al (l1 1 (.string f) ap Tya9 (n1 191 al (bsc (r:=(!seq f ⟨#[]⟩)) rfl rfl rfl (n1 191 al (bbo (r:=(((c.tmod 2) == 1) == (!seq f ⟨#[]⟩))) Tyo4 rfl rfl rfl (m3 true (.bool (((c.tmod 2) == 1) == (!seq f ⟨#[]⟩))) (cg al) ?_))))))))))))))))
            obtain ⟨⟨iR,iS,iT⟩,iU,h⟩:=ob h
            refine cv ([pp g 0,.bool (((c.tmod 2) == 1) == (!seq f ⟨#[]⟩))]) Tyb59 ((f59_ok k) _ _ _ _ _ _ _ _ _ _ _ iU (hG.mono (((((((d.sub.trans e.sub).trans m).trans u).trans B).trans C).trans ac).trans ah)) (pt ap)) ?_
            rintro _ kZ ⟨iV,rfl,d4⟩
            have iW:=ca d4 ap
            exact wpList_nil (blkN (thenN (⟨_,iV,iR,iS,iT,fR,d4.sub,iW,h⟩)))
           ·refine o1 191 al (o1 191 al (o1 191 al (o1 191 al (o1 191 al (o1 191 al (o1 191 al (o1 191 al (m3 false vN (cg al) ?_))))))))
            obtain ⟨⟨iX,iY,iZ⟩,i0,h⟩:=ob h
            refine cv ([pp g 0,vN]) Tyb59 ((f59_ok k) _ _ _ _ _ _ _ _ _ _ _ i0 (hG.mono (((((((d.sub.trans e.sub).trans m).trans u).trans B).trans C).trans ac).trans ah)) (pt ap)) ?_
            rintro _ k0 ⟨i1,rfl,d5⟩
            have i2:=ca d5 ap
            exact wpList_nil (blkN (thenN (⟨_,i1,iX,iY,iZ,fR,d5.sub,i2,h⟩)))
          ·refine cF cL (sr (c0 (p == 28) (m2 (.bool (p == 28)) (wt (cd h (fun cM h=>?_) (fun cM h=>?_))))))
           ·refine cT cM (wp_region_lit (m1 (pp g 0) (fd 5 Tyf42_5 rfl (l1 1 (iI c) ap Tya3 (bdv (r:=(c.tmod 4)) rfl rfl (by decide) rfl (c0 (decide ((c.tmod 4) < 3)) ?_))))))
            obtain ⟨⟨i3,i4,i5⟩,i6,h⟩:=ob h
            refine cv ([pp g 0,.bool (decide ((c.tmod 4) < 3))]) Tyb59 ((f59_ok k) _ _ _ _ _ _ _ _ _ _ _ i6 (hG.mono (((((((d.sub.trans e.sub).trans m).trans u).trans B).trans C).trans ac).trans ah)) (pt ap)) ?_
            rintro _ k1 ⟨i7,rfl,d6⟩
            have i8:=ca d6 ap
            exact wpList_nil (blkN (thenN (⟨_,i7,i3,i4,i5,fR,d6.sub,i8,h⟩)))
           ·exact cF cM (wp_skip (blkN (thenN (⟨_,bM,b0,b1,b2,fR,kr,ap,h⟩))))
        ·rintro _ k2 ⟨d1,b3,cH,cI,cJ,rfl,au,bw,h⟩
         unfold f90_j7 at h
         refine wp_cut (fun a w=>∃ (d7:Nat→Value) (bD:KH) (b4:Int) (b5:Int) (b6:Bool),a=fr 307 (updL d7 [(0,pp g 0),(2,iI s),(4,pp wi.heap.size 0)])∧KH.sub b3 bD∧SR K bD wi w [.box bs g #[iI af,iI ag,.bool ae] 56] [.box bs g #[iI b4,iI b5,.bool b6] 56,.box wi.heap.size wi.heap.size (vS p f O A S c J q N U t V W x X Y y Z D l G).toArray 42]∧f90_j8 k F q t x y l s b4 b5 b6=some r_) ?_ ?_
         ·refine wp_region_lit (m1 (pp g 0) (fd 0 Tyf42_0 rfl (l1 1 (iI p) bw Tya3 (c0 (p == 27) (fd 10 Tyf42_10 rfl (l1 1 (sl D l G) bw Tya40 (lS l.length Tye40 (c0 (decide ((l.length:Int) > 0)) (bbo (r:=((p == 27) == (decide ((l.length:Int) > 0)))) Tyo4 rfl rfl rfl (m1 (.bool ((p == 27) == (decide ((l.length:Int) > 0)))) (cd h (fun aS h=>?_) (fun aS h=>?_))))))))))))
          ·refine n1 219 aS (fd 10 Tyf42_10 rfl (n1 219 aS (l1 1 (sl D l G) bw Tya40 (n1 219 aS (lS l.length Tye40 (n1 219 aS (c0 (decide ((l.length:Int) ≤ 4)) (m3 true (.bool (decide ((l.length:Int) ≤ 4))) (cg aS) ?_))))))))
           obtain ⟨⟨i9,ja,jb⟩,jc,h⟩:=ob h
           refine cv ([pp g 0,.bool (decide ((l.length:Int) ≤ 4))]) Tyb59 ((f59_ok k) _ _ _ _ _ _ _ _ _ _ _ jc (hG.mono ((((((((d.sub.trans e.sub).trans m).trans u).trans B).trans C).trans ac).trans ah).trans au)) (pt bw)) ?_
           rintro _ k3 ⟨jd,rfl,d8⟩
           have je:=ca d8 bw
           exact wt (⟨_,jd,i9,ja,jb,fR,d8.sub,je,h⟩)
          ·refine o1 219 aS (o1 219 aS (o1 219 aS (o1 219 aS (m3 false vN (cg aS) ?_))))
           obtain ⟨⟨jf,jg,jh⟩,ji,h⟩:=ob h
           refine cv ([pp g 0,vN]) Tyb59 ((f59_ok k) _ _ _ _ _ _ _ _ _ _ _ ji (hG.mono ((((((((d.sub.trans e.sub).trans m).trans u).trans B).trans C).trans ac).trans ah).trans au)) (pt bw)) ?_
           rintro _ k4 ⟨jj,rfl,d9⟩
           have jk:=ca d9 bw
           exact wt (⟨_,jj,jf,jg,jh,fR,d9.sub,jk,h⟩)
         ·rintro _ k5 ⟨d7,bD,b4,b5,b6,rfl,aH,jl,h⟩
          unfold f90_j8 at h
          refine wp_cut (fun a w=>∃ (ea:Nat→Value) (cN:KH) (cO:Int) (cP:Int) (cQ:Bool),a=fr 307 (updL ea [(0,pp g 0),(2,iI s),(4,pp wi.heap.size 0)])∧KH.sub bD cN∧SR K cN wi w [.box bs g #[iI af,iI ag,.bool ae] 56] [.box bs g #[iI cO,iI cP,.bool cQ] 56,.box wi.heap.size wi.heap.size (vS p f O A S c J q N U t V W x X Y y Z D l G).toArray 42]∧f90_j9 k F t x y l s cO cP cQ=some r_) ?_ ?_
          ·refine sr (m2 (iI 0) (wt (wp_block (wp_loopG (fun g_ a w=>∃ (eb:Nat→Value) (bN:KH) (bx:LE) (aM:Nat) (bO:Int) (bP:Int) (bm:Bool),g_=bx.length∧a=fr 307 (updL eb [(0,pp g 0),(2,iI s),(4,pp wi.heap.size 0),(8,iI (aM:Int))])∧KH.sub bD bN∧SR K bN wi w [.box bs g #[iI af,iI ag,.bool ae] 56] [.box bs g #[iI bO,iI bP,.bool bm] 56,.box wi.heap.size wi.heap.size (vS p f O A S c J q N U t V W x X Y y Z D l G).toArray 42]∧q.drop aM=bx∧f90_l2 k F t x y l s bx aM bO bP bm=some r_) q.length ?_ ?_))))
           ·exact ⟨_,bD,q,0,b4,b5,b6,rfl,fR,kr,jl,List.drop_zero,h⟩
           ·rintro _ _ k6 ⟨eb,bN,bx,aM,bO,bP,bm,rfl,rfl,bE,bg,bF,h⟩
            rcases bx with _ | ⟨⟨ec,ed,ee,ef,eg⟩,bx⟩
            ·unfold f90_l2 at h
             exact wp_seq (sr (m1 (iI (aM:Int)) (fd 6 Tyf42_6 rfl (l1 1 (sl J q N) bg Tya39 (lS q.length Tye39 (bcm (r:=false) rfl rfl (congrArg some (drop_nil_lt bF)) (m1 vN (o0 231 (o0 231 (o0 231 (o0 231 (o0 231 (m3 false vN rfl (wt (cndF rfl (wp_exit (thenX (thenX (blkX (thenN (⟨_,bN,bO,bP,bm,fR,bE,bg,h⟩)))))))))))))))))))))
            ·unfold f90_l2 at h
             refine wp_seq (sr (m1 (iI (aM:Int)) (fd 6 Tyf42_6 rfl (l1 1 (sl J q N) bg Tya39 (lS q.length Tye39 (bcm (r:=true) rfl rfl (congrArg some (drop_cons_t bF)) (m1 vT (n0 231 (m1 (pp g 0) (n0 231 (nilc rfl (n0 231 (fd 2 Tyf56_2 rfl (n0 231 (l1 0 (.bool bm) bg Tya4 (n0 231 (uN bm (m3 true (.bool (!bm)) rfl (wt (cd h (fun cR h=>?_) (fun cR h=>?_)))))))))))))))))))))
             ·refine cT cR (wp_skip (thenN (wp_seq (wp_block (wp_region_lit (m1 (pp g 0) (fd 6 Tyf42_6 rfl (l1 1 (sl J q N) bg Tya39 (m1 (iI (aM:Int)) ?_)))))))))
              obtain ⟨jm,jn,k7,jo,k8,jp,eh⟩:=((me c2 ((((((((((d.sub.trans e.sub).trans m).trans u).trans B).trans C).trans ac).trans ah).trans au).trans aH).trans bE))).row.at_ (drop_cons_at bF)
              obtain ⟨ei,ej,rfl,k9,la⟩:=RDExpr.open eh
              refine idxN (b:=jm) (o:=jn) (i:=aM) Tye39 Tys107 rfl jo rfl (drop_cons_lt bF) (lD (vE ec ed ee ef ei eg ej) Tya107 Tys107 rfl (fun j v hj=>bg.cell (kr.cell (jp j v hj))) (m1 (iI s) (bar (r:=(w64 (s + 1))) rfl rfl rfl ?_)))
              obtain ⟨⟨jq,jr,js⟩,jt,h⟩:=ob h
              refine cv ([pp g 0,.agg (vE ec ed ee ef ei eg ej).toArray,iI (w64 (s + 1)),vN]) Tyb110 ((f110_ok k) _ _ _ _ _ _ _ _ _ _ _ _ _ _ jt (hG.mono ((((((((((d.sub.trans e.sub).trans m).trans u).trans B).trans C).trans ac).trans ah).trans au).trans aH).trans bE)) eh (pt bg)) ?_
              rintro _ lc ⟨ju,rfl,ek⟩
              have jv:=ca ek bg
              exact wpList_nil (blkN (thenN (wp_region_lit (m1 (iI (aM:Int)) (bar (r:=((aM + 1:Nat):Int)) rfl rfl (inc_ok (le_big (((me c2 ((((((((((d.sub.trans e.sub).trans m).trans u).trans B).trans C).trans ac).trans ah).trans au).trans aH).trans bE))).len) (by decide) (drop_cons_lt bF))) (m2 (iI ((aM + 1:Nat):Int)) (wt (⟨_,Nat.lt_succ_self _,_,ju,bx,aM + 1,jq,jr,js,rfl,fR,(bE.trans ek.sub),jv,drop_cons_next bF,h⟩))))))))
             ·exact cF cR (wp_exit (thenX (thenX (blkX (thenN (⟨_,bN,bO,bP,bm,fR,bE,bg,h⟩))))))
          ·rintro _ ld ⟨ea,cN,cO,cP,cQ,rfl,aT,cS,h⟩
           unfold f90_j9 at h
           refine sr (m1 (pp g 0) (fd 7 Tyf42_7 rfl (l1 1 (sl U t V) cS Tya36 (m1 (iI s) (bar (r:=(w64 (s + 1))) rfl rfl rfl ?_)))))
           obtain ⟨⟨lf,lg,lh⟩,jw,h⟩:=ob h
           refine cv ([pp g 0,sl U t V,iI (w64 (s + 1))]) Tyb61 (IH61 _ _ _ _ _ _ _ _ _ _ _ _ _ _ jw (hG.mono ((((((((((d.sub.trans e.sub).trans m).trans u).trans B).trans C).trans ac).trans ah).trans au).trans aH).trans aT)) (ms eH ((((((((((d.sub.trans e.sub).trans m).trans u).trans B).trans C).trans ac).trans ah).trans au).trans aH).trans aT)) (pt cS)) ?_
           rintro _ li ⟨lj,rfl,aW⟩
           have cU:=ca aW cS
           refine wt (sr (m1 (pp g 0) (fd 8 Tyf42_8 rfl (l1 1 (sl W x X) cU Tya36 (m1 (iI s) (bar (r:=(w64 (s + 1))) rfl rfl rfl ?_))))))
           obtain ⟨⟨lk,ll,lm⟩,jx,h⟩:=ob h
           refine cv ([pp g 0,sl W x X,iI (w64 (s + 1))]) Tyb61 (IH61 _ _ _ _ _ _ _ _ _ _ _ _ _ _ jx (hG.mono (((((((((((d.sub.trans e.sub).trans m).trans u).trans B).trans C).trans ac).trans ah).trans au).trans aH).trans aT).trans aW.sub)) (ms eI (((((((((((d.sub.trans e.sub).trans m).trans u).trans B).trans C).trans ac).trans ah).trans au).trans aH).trans aT).trans aW.sub)) (pt cU)) ?_
           rintro _ ln ⟨lo,rfl,bn⟩
           have cV:=ca bn cU
           refine wt (sr (m1 (pp g 0) (fd 9 Tyf42_9 rfl (l1 1 (sl Y y Z) cV Tya36 (m1 (iI s) (bar (r:=(w64 (s + 1))) rfl rfl rfl ?_))))))
           obtain ⟨⟨jy,jz,jA⟩,jB,h⟩:=ob h
           refine cv ([pp g 0,sl Y y Z,iI (w64 (s + 1))]) Tyb61 (IH61 _ _ _ _ _ _ _ _ _ _ _ _ _ _ jB (hG.mono ((((((((((((d.sub.trans e.sub).trans m).trans u).trans B).trans C).trans ac).trans ah).trans au).trans aH).trans aT).trans aW.sub).trans bn.sub)) (ms eJ ((((((((((((d.sub.trans e.sub).trans m).trans u).trans B).trans C).trans ac).trans ah).trans au).trans aH).trans aT).trans aW.sub).trans bn.sub)) (pt cV)) ?_
           rintro _ lp ⟨el,rfl,bG⟩
           have jC:=ca bG cV
           refine wt (sr (m2 (iI 0) (wt (wp_block (wp_loopG (fun g_ a w=>∃ (em:Nat→Value) (bH:KH) (bo:LC) (ai:Nat) (cW:Int) (cX:Int) (bI:Bool),g_=bo.length∧a=fr 307 (updL em [(0,pp g 0),(2,iI s),(4,pp wi.heap.size 0),(9,iI (ai:Int))])∧KH.sub el bH∧SR K bH wi w [.box bs g #[iI af,iI ag,.bool ae] 56] [.box bs g #[iI cW,iI cX,.bool bI] 56,.box wi.heap.size wi.heap.size (vS p f O A S c J q N U t V W x X Y y Z D l G).toArray 42]∧l.drop ai=bo∧f90_l1 k F l s bo ai cW cX bI=some r_) l.length ?_ ?_)))))
           ·exact ⟨_,el,l,0,jy,jz,jA,rfl,fR,kr,jC,List.drop_zero,h⟩
           ·rintro _ _ lq ⟨em,bH,bo,ai,cW,cX,bI,rfl,rfl,bJ,bh,bz,h⟩
            rcases bo with _ | ⟨⟨bQ,en,eo,ep,eq⟩,bo⟩
            ·unfold f90_l1 at h
             refine wp_seq (sr (m1 (iI (ai:Int)) (fd 10 Tyf42_10 rfl (l1 1 (sl D l G) bh Tya40 (lS l.length Tye40 (bcm (r:=false) rfl rfl (congrArg some (drop_nil_lt bz)) (m1 vN (o0 272 (o0 272 (o0 272 (o0 272 (o0 272 (m3 false vN rfl (wt (cndF rfl (wp_exit (thenX (thenX (blkX ?_)))))))))))))))))))
             cases (oi h).trans hr_
             exact end0 rfl ⟨bH,rfl,(bh.sel [0] (by decide))⟩
            ·unfold f90_l1 at h
             refine wp_seq (sr (m1 (iI (ai:Int)) (fd 10 Tyf42_10 rfl (l1 1 (sl D l G) bh Tya40 (lS l.length Tye40 (bcm (r:=true) rfl rfl (congrArg some (drop_cons_t bz)) (m1 vT (n0 272 (m1 (pp g 0) (n0 272 (nilc rfl (n0 272 (fd 2 Tyf56_2 rfl (n0 272 (l1 0 (.bool bI) bh Tya4 (n0 272 (uN bI (m3 true (.bool (!bI)) rfl (wt (cd h (fun cY h=>?_) (fun cY h=>?_)))))))))))))))))))))
             ·refine cT cY (wp_skip (thenN (wp_cut (fun a w=>∃ (er:Nat→Value) (b7:KH) (b8:Int) (b9:Int) (cb:Bool),a=fr 307 (updL er [(0,pp g 0),(2,iI s),(4,pp wi.heap.size 0),(9,iI (ai:Int))])∧KH.sub bH b7∧SR K b7 wi w [.box bs g #[iI af,iI ag,.bool ae] 56] [.box bs g #[iI b8,iI b9,.bool cb] 56,.box wi.heap.size wi.heap.size (vS p f O A S c J q N U t V W x X Y y Z D l G).toArray 42]∧f90_j10 k F ai b8 b9 cb (f90_l1 k F l s bo)=some r_) ?_ ?_)))
              ·refine wp_block (sr (m1 (pp g 0) (fd 10 Tyf42_10 rfl (l1 1 (sl D l G) bh Tya40 (m1 (iI (ai:Int)) ?_)))))
               obtain ⟨es,cZ,lr,et,ls,eu,ew⟩:=((mc c4 ((((((((((((((d.sub.trans e.sub).trans m).trans u).trans B).trans C).trans ac).trans ah).trans au).trans aH).trans aT).trans aW.sub).trans bn.sub).trans bG.sub).trans bJ))).row.at_ (drop_cons_at bz)
               obtain ⟨ex,ey,ez,eA,rfl,lu,lv,lw⟩:=RDCase.open ew
               refine idxN (b:=es) (o:=cZ) (i:=ai) Tye40 Tys87 rfl et rfl (drop_cons_lt bz) (lD (vC bQ en eo ex ep ey ez eq eA) Tya87 Tys87 rfl (fun j v hj=>bh.cell (kr.cell (eu j v hj))) (m1 (iI s) (bar (r:=(w64 (s + 1))) rfl rfl rfl ?_)))
               obtain ⟨⟨lx,ly,lz⟩,jD,h⟩:=ob h
               refine cv ([pp g 0,.agg (vC bQ en eo ex ep ey ez eq eA).toArray,iI (w64 (s + 1))]) Tyb111 (IH111 _ _ _ _ _ _ _ _ _ _ _ _ _ jD (hG.mono ((((((((((((((d.sub.trans e.sub).trans m).trans u).trans B).trans C).trans ac).trans ah).trans au).trans aH).trans aT).trans aW.sub).trans bn.sub).trans bG.sub).trans bJ)) ew (pt bh)) ?_
               rintro _ lA ⟨lB,rfl,bK⟩
               have bA:=ca bK bh
               refine wt (wp_region_lit (m1 (pp g 0) (fd 10 Tyf42_10 rfl (l1 1 (sl D l G) bA Tya40 (m1 (iI (ai:Int)) (idxN (b:=es) (o:=cZ) (i:=ai) Tye40 Tys87 rfl et rfl (drop_cons_lt bz) (fd (cZ + ai * 5 + 0) Tyf87_0 rfl (ld1 (v:=iI bQ) Tya3 rfl (bA.cell (bK.sub.cell (eu 0 _ rfl))) (c0 (bQ != 4) (m1 (.bool (bQ != 4)) (cd h (fun aG h=>?_) (fun aG h=>?_))))))))))))
               ·refine o1 298 aG (o1 298 aG (o1 298 aG (o1 298 aG (o1 298 aG (o1 298 aG (m3 true vT (cg aG) ?_))))))
                obtain ⟨⟨jE,jF,jG⟩,jH,h⟩:=ob h
                refine cv ([pp g 0,vT]) Tyb59 ((f59_ok k) _ _ _ _ _ _ _ _ _ _ _ jH (hG.mono (((((((((((((((d.sub.trans e.sub).trans m).trans u).trans B).trans C).trans ac).trans ah).trans au).trans aH).trans aT).trans aW.sub).trans bn.sub).trans bG.sub).trans bJ).trans bK.sub)) (pt bA)) ?_
                rintro _ lC ⟨jI,rfl,eB⟩
                have jJ:=ca eB bA
                exact wpList_nil (blkN (thenN (⟨_,jI,jE,jF,jG,fR,(bK.sub.trans eB.sub),jJ,h⟩)))
               ·refine n1 298 aG (m1 (iI (ai:Int)) (n1 298 aG (fd 10 Tyf42_10 rfl (n1 298 aG (l1 1 (sl D l G) bA Tya40 (n1 298 aG (lS l.length Tye40 (n1 298 aG (bar (r:=(w64 ((l.length:Int) - 1))) rfl rfl rfl (n1 298 aG (c0 ((ai:Int) == (w64 ((l.length:Int) - 1))) (m3 false (.bool ((ai:Int) == (w64 ((l.length:Int) - 1)))) (cg aG) ?_))))))))))))
                obtain ⟨⟨jK,jL,jM⟩,jN,h⟩:=ob h
                refine cv ([pp g 0,.bool ((ai:Int) == (w64 ((l.length:Int) - 1)))]) Tyb59 ((f59_ok k) _ _ _ _ _ _ _ _ _ _ _ jN (hG.mono (((((((((((((((d.sub.trans e.sub).trans m).trans u).trans B).trans C).trans ac).trans ah).trans au).trans aH).trans aT).trans aW.sub).trans bn.sub).trans bG.sub).trans bJ).trans bK.sub)) (pt bA)) ?_
                rintro _ lE ⟨jO,rfl,eC⟩
                have jP:=ca eC bA
                exact wpList_nil (blkN (thenN (⟨_,jO,jK,jL,jM,fR,(bK.sub.trans eC.sub),jP,h⟩)))
              ·rintro _ lF ⟨er,b7,b8,b9,cb,rfl,jQ,jR,h⟩
               unfold f90_j10 at h
               exact wp_region_lit (m1 (iI (ai:Int)) (bar (r:=((ai + 1:Nat):Int)) rfl rfl (inc_ok (le_big (((mc c4 ((((((((((((((d.sub.trans e.sub).trans m).trans u).trans B).trans C).trans ac).trans ah).trans au).trans aH).trans aT).trans aW.sub).trans bn.sub).trans bG.sub).trans bJ))).len) (by decide) (drop_cons_lt bz))) (m2 (iI ((ai + 1:Nat):Int)) (wt (⟨_,Nat.lt_succ_self _,_,b7,bo,ai + 1,b8,b9,cb,rfl,fR,(bJ.trans jQ),jR,drop_cons_next bz,h⟩)))))
             ·refine cF cY (wp_exit (thenX (thenX (blkX ?_))))
              cases (oi h).trans hr_
              exact end0 rfl ⟨bH,rfl,(bh.sel [0] (by decide))⟩
end Go.Proofs.YtoajecnoffhlbaaGreatDoor
