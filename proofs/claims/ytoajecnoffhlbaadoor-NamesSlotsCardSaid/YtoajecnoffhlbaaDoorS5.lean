/- Words of the same proof, part 5: what the last text needs; nothing is claimed here. -/
import Derived.Test.YtoajecnoffhlbaaDoorS4
import Derived.ProofKit
set_option linter.unusedVariables false
set_option linter.unusedSimpArgs false
namespace Go.Proofs.YtoajecnoffhlbaaDoor
open Go
def shp (op:Int):Option (Int × Bool × Int × Int × Bool × Int) :=
 match op with
 | 1=>some (1,false,1,1,false,0) | 2=>some (1,false,1,1,false,0) | 3=>some (2,true,0,600,false,0) | 4=>some (2,true,0,600,false,0)
 | 5=>some (2,false,1,1,false,0) | 6=>some (2,false,1,1,false,1) | 7=>some (1,false,1,1,false,2) | 8=>some (1,false,1,1,false,0)
 | 9=>some (1,false,0,0,false,0) | 10=>some (0,false,2,2,false,0) | 11=>some (0,false,1,1,false,0) | 12=>some (0,false,1,1,false,0)
 | 13=>some (0,false,0,0,false,0) | 14=>some (0,false,1,1,false,0) | 15=>some (0,false,1,1,false,0) | 16=>some (0,false,1,1,false,0)
 | 17=>some (0,false,0,1,false,0) | 18=>some (0,false,0,0,false,0) | 19=>some (0,false,0,0,false,0) | 20=>some (0,false,1,1,true,1)
 | 21=>some (0,false,1,1,true,0) | 22=>some (0,false,0,1,true,1) | 23=>some (0,false,0,0,true,0) | 24=>some (2,false,0,0,true,3)
 | 25=>some (1,false,1,1,true,0) | 26=>some (0,false,1,1,true,0) | 27=>some (0,false,0,0,false,0) | 28=>some (1,true,0,600,true,66)
 | 29=>some (0,false,1,1,false,0) | _=>none
theorem op_cases {P:Int→Prop} (op:Int) (h : ∀ n:Nat,n < 29→P ((n + 1:Nat):Int)) (h0:op < 1∨op > 29→P op):P op:=by
 by_cases h1:op < 1∨op > 29
 ·exact h0 h1
 ·obtain ⟨n,rfl⟩ : ∃ n:Nat,op=((n + 1:Nat):Int):=⟨(op - 1).toNat,by omega⟩
  exact h n (by omega)
theorem shp_none {op:Int} (h:op < 1∨op > 29):shp op=none:=by
 unfold shp
 split <;> first | rfl | (exfalso; omega)
def toN:Option (Int × Bool × Int × Int × Bool × Int)→Option Dshape
 | none=>none
 | some (nm,fr,lo,hi,bd,fl)=>some (.mk nm fr lo (if hi=600 then 601 else hi) bd)
theorem mget_none (op:Int) : ∀ L:List (Int × Dshape),(∀ x ∈ L,qI op x.1=false)→mget qI op L=none
 | [],_=>rfl
 | (a,v) :: L,h=>by
  unfold mget
  rw [if_neg (by rw [h (a,v) (by simp)]; simp)]
  exact mget_none op L fun x hx=>h x (by simp [hx])
theorem f64_eq (k:Nat) (op:Int):(f64 k).bind (fun r=>some (mget qI op r))=some (toN (shp op)):=by
 refine op_cases (P:=fun op=>(f64 k).bind (fun r=>some (mget qI op r))=some (toN (shp op))) op ?_ ?_
 ·intro n hn
  match n,hn with
  | 0,_=>rfl | 1,_=>rfl | 2,_=>rfl | 3,_=>rfl | 4,_=>rfl | 5,_=>rfl | 6,_=>rfl | 7,_=>rfl | 8,_=>rfl | 9,_=>rfl
  | 10,_=>rfl | 11,_=>rfl | 12,_=>rfl | 13,_=>rfl | 14,_=>rfl | 15,_=>rfl | 16,_=>rfl | 17,_=>rfl | 18,_=>rfl | 19,_=>rfl
  | 20,_=>rfl | 21,_=>rfl | 22,_=>rfl | 23,_=>rfl | 24,_=>rfl | 25,_=>rfl | 26,_=>rfl | 27,_=>rfl | 28,_=>rfl
  | n + 29,h=>omega
 ·intro h
  rw [shp_none h]
  obtain ⟨L,hL,hA⟩ : ∃ L,f64 k=some L∧(L.all fun x=>decide (1≤x.1) && decide (x.1≤29))=true:=⟨_,rfl,rfl⟩
  rw [hL]
  simp only [Option.bind_some]
  rw [mget_none op L]
  ·rfl
  ·intro x hx
   have:=List.all_eq_true.mp hA x hx
   simp only [Bool.and_eq_true,decide_eq_true_eq] at this
   unfold qI; rw [beq_eq_false_iff_ne]; omega
def flagN (op:Int) (name:ByteArray) (flag:Int) (l8 l9:Int):Bool :=
 let b0:=(IntKind.i64.wrap (BitVec.ofInt IntKind.i64.bits flag &&& BitVec.ofInt IntKind.i64.bits 1).toNat) == 1
 let b1:=(IntKind.i64.wrap (BitVec.ofInt IntKind.i64.bits flag &&& BitVec.ofInt IntKind.i64.bits 2).toNat) == 2
 cond (op == 6) (decide (flag ≥ 0) && decide (flag≤1) && (flag == 0 || !seq name ⟨#[]⟩) && l8 == 0 && l9 == 0)
 (cond (op == 7) (decide (flag ≥ 0) && decide (flag≤2) && l8 == 0 && l9 == 0)
 (cond (op == 22) (decide (flag ≥ 0) && decide (flag≤1) && l8 == 0 && l9 == 0)
 (cond (op == 20) (decide (flag ≥ 0) && decide (flag≤1) && (flag == 1 || l8 == 0) && l9 == 0)
 (cond (op == 24) (decide (flag ≥ 1) && decide (flag≤3) && ((!seq name ⟨#[]⟩) == b0) && (b0 || l8 == 0) && (b1 || l9 == 0))
 (cond (op == 28) (decide (flag ≥ 0) && decide (flag≤66) && decide (flag.tmod 4 < 3) && l8 == 0 && l9 == 0)
  (flag == 0 && l8 == 0 && l9 == 0))))))
theorem f65_eq (k:Nat) (op:Int) (name:ByteArray) (s2:Int) (fr:ByteArray) (s4 flag:Int) (l6:List DExpr) (l7 l8 l9:List DStmt) (l10:List DCase) :
  f65 k (.mk op name s2 fr s4 flag l6 l7 l8 l9 l10)=some (flagN op name flag l8.length l9.length):=by
 unfold f65 f65_b f65_j3 f65_j1 f65_j2 flagN
 simp only [f42_eq,Option.bind_some,Bool.cond_eq_ite]
 generalize (IntKind.i64.wrap (BitVec.ofInt IntKind.i64.bits flag &&& BitVec.ofInt IntKind.i64.bits 1).toNat == 1)=b0
 generalize (IntKind.i64.wrap (BitVec.ofInt IntKind.i64.bits flag &&& BitVec.ofInt IntKind.i64.bits 2).toNat == 2)=b1
 generalize ((l8.length:Int) == 0)=c8
 generalize ((l9.length:Int) == 0)=c9
 generalize seq name ⟨#[]⟩=e
 grind (splits:=20)
def nameN (nm:Int) (fr:Bool) (name from_:ByteArray):Bool :=
 (seq name ⟨#[]⟩ || (!(nm == 0) && isN name)) && (!seq name ⟨#[]⟩ || !(nm == 1)) && ((!seq from_ ⟨#[]⟩) == fr) && (!fr || isN from_)
def argsN (op lo hi:Int) (bd:Bool) (l6 l7 l10:Int):Bool :=
 decide (l6 ≥ lo) && decide (l6≤hi) && (bd || !decide (l7 > 0)) && (cond (op == 27) (decide (l10 ≥ 1) && decide (l10≤4)) (!decide (l10 > 0)))
section
variable (k:Nat) (F:Fam45) (op:Int) (name:ByteArray) (s2:Int) (from_:ByteArray) (s4 flag:Int) (l6:List DExpr) (l7 l8 l9:List DStmt) (l10:List DCase) (a nm:Int) (fr:Bool) (lo hi:Int) (bd:Bool) (n d:Int) (z q:Bool)
theorem f56_j3_eq:f56_j3 k F op l6 l7 l8 l9 l10 a lo hi bd n d z q =
  cond (!q && argsN op lo hi bd l6.length l7.length l10.length) (f56_l1 k F l6 l7 l8 l9 l10 a l10 0 n d z) (some (.mk n d z,false)):=by
 unfold f56_j3 f56_j4 argsN
 simp only [f42_eq,Option.bind_some,Bool.cond_eq_ite]
 grind (splits:=20)
theorem f56_j2_eq:f56_j2 k F op name from_ l6 l7 l8 l9 l10 a nm fr lo hi bd n d z q =
  cond (!q && nameN nm fr name from_ && argsN op lo hi bd l6.length l7.length l10.length) (f56_l1 k F l6 l7 l8 l9 l10 a l10 0 n d z) (some (.mk n d z,false)):=by
 unfold f56_j2 nameN
 simp only [f44_eq,f56_j3_eq,Option.bind_some,Bool.cond_eq_ite]
 grind (splits:=20)
theorem f56_j1_eq:f56_j1 k F n d z op name s2 from_ s4 flag l6 l7 l8 l9 l10 a nm fr lo hi bd true =
  (f43 k (.mk n d z) a).bind fun x=>match x with
   | (.mk n1 d1 z1,ok)=>cond (ok && ((s2 == 0 && s4 == 0) || z1) && flagN op name flag l8.length l9.length && nameN nm fr name from_ && argsN op lo hi bd l6.length l7.length l10.length)
    (f56_l1 k F l6 l7 l8 l9 l10 a l10 0 n1 d1 z1) (some (.mk n1 d1 z1,false)):=by
 unfold f56_j1
 simp only [Bool.not_true,cond_false]
 congr 1
 funext x
 obtain ⟨⟨n1,d1,z1⟩,ok⟩:=x
 simp only [f65_eq,f56_j2_eq,Option.bind_some,Bool.cond_eq_ite]
 grind (splits:=20)
end
def nameR (nm:Int) (name:ByteArray):Bool:=(nm == 0 && seq name ⟨#[]⟩) || (nm == 1 && isN name) || (nm == 2 && (seq name ⟨#[]⟩ || isN name))
def fromR (fr:Bool) (from_:ByteArray):Bool:=cond fr (isN from_) (seq from_ ⟨#[]⟩)
def flagR (op:Int) (name:ByteArray) (flag:Int) (l8 l9:Int):Bool :=
 (l8 == 0 || (op == 20 && flag == 1) || (op == 24 && flag.tmod 2 == 1)) && (l9 == 0 || (op == 24 && decide (flag ≥ 2))) &&
 cond (op == 6) (flag == 0 || !seq name ⟨#[]⟩) (cond (op == 24) (decide (flag > 0) && ((flag.tmod 2 == 1) == !seq name ⟨#[]⟩)) (cond (op == 28) (decide (flag.tmod 4 < 3)) true))
def casesR (op l10:Int):Bool:=((op == 27) == decide (l10 > 0)) && decide (l10≤4)
section
end
def nodeN (op:Int) (name from_:ByteArray) (flag:Int) (l6 l7 l8 l9 l10:Nat):Bool :=
 match shp op with
 | none=>false
 | some (nm,fr,lo,hi,bd,fl)=>flagN op name flag l8 l9 && nameN nm fr name from_ && argsN op lo (if hi=600 then 601 else hi) bd l6 l7 l10
def nodeS (op:Int) (name from_:ByteArray) (flag:Int) (l6 l7 l8 l9 l10:Nat):Bool :=
 match shp op with
 | none=>false
 | some (nm,fr,lo,hi,bd,fl)=>decide ((l6:Int) ≥ lo) && decide ((l6:Int)≤hi) && decide (flag ≥ 0) && decide (flag≤fl) && (nameR nm name && fromR fr from_ && (bd || (l7:Int) == 0) && flagR op name flag l8 l9 && casesR op l10)
theorem isN_ne {s:ByteArray} (h:isN s=true):seq s ⟨#[]⟩=false:=by
 unfold isN at h; cases hs:seq s ⟨#[]⟩ with
 | false=>rfl
 | true=>rw [hs] at h; simp at h
theorem bits (flag:Int) (h1:1≤flag) (h2:flag≤3):(IntKind.i64.wrap (BitVec.ofInt IntKind.i64.bits flag &&& BitVec.ofInt IntKind.i64.bits 1).toNat == 1)=(flag.tmod 2 == 1) ∧
  (IntKind.i64.wrap (BitVec.ofInt IntKind.i64.bits flag &&& BitVec.ofInt IntKind.i64.bits 2).toNat == 2)=decide (flag ≥ 2):=by
 rcases (by omega:flag=1∨flag=2∨flag=3) with rfl | rfl | rfl <;> exact ⟨rfl,rfl⟩
theorem nodeNS (op:Int) (name from_:ByteArray) (flag:Int) (l6 l7 l8 l9 l10:Nat) (h6:l6≤600):nodeN op name from_ flag l6 l7 l8 l9 l10=nodeS op name from_ flag l6 l7 l8 l9 l10:=by
 have hn:=@isN_ne name
 have hf:=@isN_ne from_
 have hb:=bits flag
 unfold nodeN nodeS flagN nameN argsN nameR fromR flagR casesR
 generalize (IntKind.i64.wrap (BitVec.ofInt IntKind.i64.bits flag &&& BitVec.ofInt IntKind.i64.bits 1).toNat == 1)=b0 at hb ⊢
 generalize (IntKind.i64.wrap (BitVec.ofInt IntKind.i64.bits flag &&& BitVec.ofInt IntKind.i64.bits 2).toNat == 2)=b1 at hb ⊢
 generalize isN name=n1 at hn ⊢
 generalize isN from_=n2 at hf ⊢
 generalize seq name ⟨#[]⟩=e1 at hn ⊢
 generalize seq from_ ⟨#[]⟩=e2 at hf ⊢
 generalize flag.tmod 2=t2 at hb ⊢
 generalize flag.tmod 4=t4
 by_cases hop:op < 1∨op > 29
 ·rw [shp_none hop]
 rcases (by omega:op=1∨op=2∨op=3∨op=4∨op=5∨op=6∨op=7∨op=8∨op=9∨op=10∨op=11∨op=12∨op=13∨op=14∨op=15∨op=16∨op=17∨op=18∨op=19∨op=20∨op=21∨op=22∨op=23∨op=24∨op=25∨op=26∨op=27∨op=28∨op=29) with rfl | rfl | rfl | rfl | rfl | rfl | rfl | rfl | rfl | rfl | rfl | rfl | rfl | rfl | rfl | rfl | rfl | rfl | rfl | rfl | rfl | rfl | rfl | rfl | rfl | rfl | rfl | rfl | rfl <;>
  simp only [shp,Int.reduceBEq,cond_true,cond_false,Int.reduceEq,if_true,if_false] <;> grind (splits:=20)
def nodeC (kind:Int) (name:ByteArray) (len:Int):Bool :=
 decide (kind ≥ 1) && decide (kind≤4) && len == (cond (kind == 2) 2 (cond (kind == 4) 0 1)) && cond (kind == 1) (isN name) (seq name ⟨#[]⟩)
mutual
def gS (z:Bool):DStmt→Nat→Bool
 | .mk op name s2 fr s4 flag l6 l7 l8 l9 l10,a=>decide (a≤16) && (z || (s2 == 0 && s4 == 0)) && nodeS op name fr flag l6.length l7.length l8.length l9.length l10.length &&
  (gEs z l6 (a + 1) && (gSs z l7 (a + 1) && (gSs z l8 (a + 1) && (gSs z l9 (a + 1) && gCs z l10 (a + 1)))))
def gSs (z:Bool):List DStmt→Nat→Bool
 | [],_=>true
 | s :: l,a=>gS z s a && gSs z l a
def gC (z:Bool):DCase→Nat→Bool
 | .mk kind name slot es b,a=>decide (a≤16) && (z || slot == 0) && nodeC kind name es.length && (gEs z es (a + 1) && gSs z b (a + 1))
def gCs (z:Bool):List DCase→Nat→Bool
 | [],_=>true
 | .mk kind name slot es b :: l,a=>(!(kind == 4) || l.isEmpty) && gC z (.mk kind name slot es b) a && gCs z l a
end
theorem szS_pos : ∀ e:DStmt,1≤szS e
 | .mk _ _ _ _ _ _ _ _ _ _ _=>by simp only [szS]; omega
theorem szC_pos : ∀ e:DCase,1≤szC e
 | .mk _ _ _ _ _=>by simp only [szC]; omega
theorem NRes.bind {r:Option (Dcounter × Bool)} {f:Dcounter × Bool→Option (Dcounter × Bool)} {g1 g2:Bool} {n s1 s2:Nat} {z:Bool} (h1:NRes r g1 n s1 z)
  (hf : ∀ c,∃ c',f (c,false)=some (c',false)) (h2 : ∀ d,n + s1≤600→NRes (f (.mk ((n + s1:Nat):Int) d z,true)) g2 (n + s1) s2 z):NRes (r.bind f) (g1 && g2) n (s1 + s2) z:=by
 obtain ⟨c,rfl,hc⟩:=h1
 by_cases hg:(g1 && decide (n + s1≤600))=true
 ·obtain ⟨d,rfl⟩:=hc hg
  rw [Bool.and_eq_true,decide_eq_true_eq] at hg
  obtain ⟨h3,h4⟩:=hg
  subst h3
  simp only [h4,decide_true,Bool.and_self,Bool.true_and,Option.bind_some]
  obtain ⟨c,h5,h6⟩:=h2 d h4
  rw [Nat.add_assoc] at h5 h6
  exact ⟨c,h5,h6⟩
 ·have hg' : (g1 && decide (n + s1≤600))=false:=by simpa using hg
  rw [hg']
  obtain ⟨c',h⟩:=hf c
  refine .no h ?_
  rw [Bool.and_eq_false_iff,decide_eq_false_iff_not] at hg' ⊢
  rcases hg' with h | h
  ·left; rw [h]; rfl
  ·right; omega
theorem NRes.conv {r:Option (Dcounter × Bool)} {g g' : Bool} {n s n' s' : Nat} {z:Bool} (h:NRes r g n s z) (hs:n + s=n' + s') (hg:n + s≤600→g=g'):NRes r g' n' s' z:=by
 unfold NRes at h ⊢
 rw [← hs]
 have:(g && decide (n + s≤600))=(g' && decide (n + s≤600)):=by
  by_cases h:n + s≤600
  ·rw [hg h]
  ·simp [h]
 rwa [← this]
theorem f67_res (k:Nat) (z:Bool) (l:List DExpr) (hk:2 * szEs l + 1≤k) (n:Nat) (d:Int) (a:Nat) (hn:n≤600) (ha:a≤17):NRes (f67 k (.mk n d z) l a) (gEs z l a) n (szEs l) z :=
 (nE k z k).2 l hk n d a hn ha
theorem mget4 (kind:Int):mget qI kind (mput qI 4 0 (mput qI 3 1 (mput qI 2 2 (mput qI 1 1 ([]:List (Int × Int)))))) =
  cond (decide (kind ≥ 1) && decide (kind≤4)) (some (cond (kind == 2) 2 (cond (kind == 4) 0 1))) none:=by
 have e:mput qI 4 0 (mput qI 3 1 (mput qI 2 2 (mput qI 1 1 ([]:List (Int × Int)))))=[(1,1),(2,2),(3,1),(4,0)]:=rfl
 rw [e]
 unfold mget mget mget mget mget qI
 simp only [Bool.cond_eq_ite]
 grind
theorem f66_b_eq (k:Nat) (F:Fam45) (kind:Int) (name:ByteArray) (slot:Int) (es:List DExpr) (b:List DStmt) (a n d:Int) (z:Bool) :
  f66_b k F (.mk n d z) (.mk kind name slot es b) a=cond (decide (kind ≥ 1) && decide (kind≤4)) ((f43 k (.mk n d z) a).bind fun x=>match x with
   | (.mk n1 d1 z1,ok)=>cond (ok && (z1 || slot == 0) && nodeC kind name es.length) (f66_j1 k F es b a n1 d1 z1 false) (some (.mk n1 d1 z1,false))) (some (.mk n d z,false)):=by
 unfold f66_b
 simp only [mget4]
 by_cases hk:(decide (kind ≥ 1) && decide (kind≤4))=true
 ·simp only [hk,cond_true,mcase]
  congr 1
  funext x
  obtain ⟨⟨n1,d1,z1⟩,ok⟩:=x
  unfold f66_j1
  have hn:=@isN_ne name
  simp only [f44_eq,Option.bind_some,nodeC,hk,Bool.true_and]
  generalize (cond (kind == 2) (2:Int) (cond (kind == 4) 0 1))=e
  generalize isN name=n1 at hn ⊢
  generalize seq name ⟨#[]⟩=e1 at hn ⊢
  simp only [Bool.cond_eq_ite]
  grind (splits:=20)
 ·have hk' : (decide (kind ≥ 1) && decide (kind≤4))=false:=by simpa using hk
  simp only [hk',cond_false,mcase]
theorem argsN_len {op lo hi:Int} {bd:Bool} {l6 l7:Int} {l10:Nat} (h:argsN op lo hi bd l6 l7 l10=true):l10≤4:=by
 unfold argsN at h
 cases hop:(op == 27) <;> simp only [hop,cond_true,cond_false,Bool.and_eq_true,Bool.not_eq_true',decide_eq_true_eq,decide_eq_false_iff_not] at h <;> omega
theorem nSt (k:Nat) (z:Bool) : ∀ m,m≤k →
  (∀ s,2 * szS s≤m→∀ (n:Nat) (d:Int) (a:Nat),n≤600→a≤17→NRes ((fam45 k m).f56 (.mk n d z) s a) (gS z s a) n (szS s) z) ∧
  (∀ l,2 * szSs l + 1≤m→∀ (n:Nat) (d:Int) (a:Nat),n≤600→a≤17→NRes ((fam45 k m).f45 (.mk n d z) l a) (gSs z l a) n (szSs l) z) ∧
  (∀ c,2 * szC c≤m→∀ (n:Nat) (d:Int) (a:Nat),n≤600→a≤17→NRes ((fam45 k m).f66 (.mk n d z) c a) (gC z c a) n (szC c) z)
 | 0,_=>⟨fun e he=>by have:=szS_pos e; omega,fun l hl=>by omega,fun c hc=>by have:=szC_pos c; omega⟩
 | m + 1,hmk=>by
  obtain ⟨ihs,ihl,ihc⟩:=nSt k z m (by omega)
  refine ⟨?_,?_,?_⟩
  ·intro s hs n d a hn ha
   obtain ⟨op,name,s2,fr,s4,flag,l6,l7,l8,l9,l10⟩:=s
   simp only [szS] at hs
   show NRes (f56_b k (fam45 k m) (.mk n d z) (.mk op name s2 fr s4 flag l6 l7 l8 l9 l10) a) _ _ _ _
   have tail : ∀ (n:Nat) (d:Int),a≤16→n≤600→NRes (f56_l1 k (fam45 k m) l6 l7 l8 l9 l10 a [] l10.length n d z) (gEs z l6 (a + 1) && (gSs z l7 (a + 1) && (gSs z l8 (a + 1) && gSs z l9 (a + 1)))) n (szEs l6 + (szSs l7 + (szSs l8 + szSs l9))) z:=by
    intro n d ha hn
    unfold f56_l1
    rw [w64_nat (n:=a + 1) (by omega) (by omega)]
    refine (f67_res k z l6 (by omega) n d (a + 1) hn (by omega)).bind (fun c=>by obtain ⟨_,_,_⟩:=c; exact ⟨_,rfl⟩) fun d hn=>?_
    refine (ihl l7 (by omega) _ d (a + 1) hn (by omega)).bind (fun c=>by obtain ⟨_,_,_⟩:=c; exact ⟨_,rfl⟩) fun d hn=>?_
    refine (ihl l8 (by omega) _ d (a + 1) hn (by omega)).bind (fun c=>by obtain ⟨_,_,_⟩:=c; exact ⟨_,rfl⟩) fun d hn=>?_
    refine ((ihl l9 (by omega) _ d (a + 1) hn (by omega)).bind (g2:=true) (s2:=0) (fun c=>by obtain ⟨_,_,_⟩:=c; exact ⟨_,rfl⟩) fun d hn=>?_).conv (by omega) (fun _=>by simp)
    exact .yes rfl (by simp [hn])
   have loop:a≤16→l10.length≤4→∀ (rest:List DCase) (i:Nat) (n:Nat) (d:Int),2 * szCs rest≤m→i + rest.length=l10.length→n≤600 →
     NRes (f56_l1 k (fam45 k m) l6 l7 l8 l9 l10 a rest i n d z) (gCs z rest (a + 1) && (gEs z l6 (a + 1) && (gSs z l7 (a + 1) && (gSs z l8 (a + 1) && gSs z l9 (a + 1))))) n (szCs rest + (szEs l6 + (szSs l7 + (szSs l8 + szSs l9)))) z:=by
    intro ha h10 rest
    induction rest with
    | nil =>
     intro i n d _ hi hn
     obtain rfl:i=l10.length:=by simpa using hi
     exact (tail n d ha hn).conv (by simp [szCs]) (fun _=>by simp [gCs])
    | cons c rest ih =>
     intro i n d hm hi hn
     obtain ⟨e0,e1,e2,e3,e4⟩:=c
     simp only [szCs,List.length_cons] at hm hi
     unfold f56_l1
     rw [w64_nat (x:=(a:Int) + 1) (n:=a + 1) (by omega) (by omega),w64_nat (x:=(l10.length:Int) - 1) (n:=l10.length - 1) (by omega) (by omega)]
     have step:NRes (((fam45 k m).f66 (.mk n d z) (.mk e0 e1 e2 e3 e4) ((a + 1:Nat):Int)).bind fun q_=>match q_ with | (.mk z1467_0 z1467_1 z1467_2,r1468)=>(f56_j6 k (fam45 k m) i z1467_0 z1467_1 z1467_2 (!r1468) (f56_l1 k (fam45 k m) l6 l7 l8 l9 l10 a rest)))
       (gC z (.mk e0 e1 e2 e3 e4) (a + 1) && (gCs z rest (a + 1) && (gEs z l6 (a + 1) && (gSs z l7 (a + 1) && (gSs z l8 (a + 1) && gSs z l9 (a + 1)))))) n (szC (.mk e0 e1 e2 e3 e4) + (szCs rest + (szEs l6 + (szSs l7 + (szSs l8 + szSs l9))))) z :=
      (ihc (.mk e0 e1 e2 e3 e4) (by omega) n d (a + 1) hn (by omega)).bind (fun c=>by obtain ⟨_,_,_⟩:=c; exact ⟨_,rfl⟩) fun d hn=>ih (i + 1) _ d (by omega) (by omega) hn
     by_cases h4:(e0 == 4)=true
     ·simp only [h4,cond_true]
      by_cases hl:i < l10.length - 1
      ·have:((i:Int) < ((l10.length - 1:Nat):Int)):=by omega
       simp only [this,decide_true,cond_true]
       refine .no rfl ?_
       have:rest.isEmpty=false:=by cases rest with
        | nil=>simp at hi; omega
        | cons=>rfl
       simp [gCs,h4,this]
      ·have : ¬ ((i:Int) < ((l10.length - 1:Nat):Int)):=by omega
       simp only [this,decide_false,cond_false]
       have:rest.isEmpty=true:=by cases rest with
        | nil=>rfl
        | cons=>simp at hi; omega
       exact step.conv (by simp only [szCs]; omega) (fun _=>by simp [gCs,this,Bool.and_assoc])
     ·have h4' : (e0 == 4)=false:=by simpa using h4
      simp only [h4',cond_false]
      exact step.conv (by simp only [szCs]; omega) (fun _=>by simp [gCs,h4',Bool.and_assoc])
   unfold f56_b
   obtain ⟨L,hL⟩ : ∃ L,f64 k=some L:=⟨_,rfl⟩
   have hg:=f64_eq k op
   rw [hL] at hg ⊢
   simp only [Option.bind_some,Option.some.injEq] at hg ⊢
   rw [hg]
   cases hsh:shp op with
   | none =>
    have:nodeS op name fr flag l6.length l7.length l8.length l9.length l10.length=false:=by unfold nodeS; rw [hsh]
    refine .no (c:=.mk n d z) ?_ (by simp [gS,this])
    simp only [toN,mcase]
    unfold f56_j1
    simp only [Bool.not_false,cond_true,f56_j2_eq]
    rfl
   | some t =>
    obtain ⟨nm,frm,lo,hi,bd,fl⟩:=t
    simp only [toN,mcase,f56_j1_eq,f43_eq k n d z a hn,Option.bind_some]
    have hN:nodeN op name fr flag l6.length l7.length l8.length l9.length l10.length=(flagN op name flag l8.length l9.length && nameN nm frm name fr && argsN op lo (if hi=600 then 601 else hi) bd l6.length l7.length l10.length):=by unfold nodeN; rw [hsh]
    rw [Bool.and_assoc,Bool.and_assoc,← Bool.and_assoc (flagN _ _ _ _ _),← hN]
    have hl6:=len_szEs l6
    by_cases h1:n + 1≤600∧a≤16
    ·obtain ⟨h1,h2⟩:=h1
     by_cases h3:((s2 == 0 && s4 == 0) || z)=true
     ·by_cases h4:nodeN op name fr flag l6.length l7.length l8.length l9.length l10.length=true
      ·have h10:l10.length≤4:=by
        rw [hN] at h4
        rw [Bool.and_eq_true] at h4
        exact argsN_len h4.2
       simp only [h1,h2,h3,h4,decide_true,Bool.and_self,cond_true]
       refine (loop h2 h10 l10 0 (n + 1) (imax d a) (by omega) (by omega) h1).conv (by simp only [szS]; omega) (fun hh=>?_)
       have h5:nodeS op name fr flag l6.length l7.length l8.length l9.length l10.length=true:=by rw [← nodeNS _ _ _ _ _ _ _ _ _ (by omega)]; exact h4
       simp only [gS,h2,decide_true,h5]
       rw [Bool.or_comm] at h3
       simp only [h3,Bool.and_self,Bool.true_and]
       cases gCs z l10 (a + 1) <;> cases gEs z l6 (a + 1) <;> cases gSs z l7 (a + 1) <;> cases gSs z l8 (a + 1) <;> cases gSs z l9 (a + 1) <;> rfl
      ·have h4' : nodeN op name fr flag l6.length l7.length l8.length l9.length l10.length=false:=by simpa using h4
       simp only [h4',Bool.and_false,cond_false]
       refine .no rfl ?_
       by_cases hh:n + szS (.mk op name s2 fr s4 flag l6 l7 l8 l9 l10)≤600
       ·have h5:nodeS op name fr flag l6.length l7.length l8.length l9.length l10.length=false:=by
         rw [← nodeNS _ _ _ _ _ _ _ _ _ (by simp only [szS] at hh; omega)]; exact h4'
        simp [gS,h5]
       ·simp [hh]
     ·have h3' : ((s2 == 0 && s4 == 0) || z)=false:=by simpa using h3
      simp only [h3',Bool.false_and,Bool.and_false,cond_false]
      refine .no rfl ?_
      rw [Bool.or_comm] at h3'
      simp only [gS,h3',Bool.false_and,Bool.and_false]
    ·have h1' : (decide (n + 1≤600) && decide (a≤16))=false:=by
      simp only [Bool.and_eq_false_iff,decide_eq_false_iff_not]; omega
     simp only [h1',Bool.false_and,cond_false]
     refine .no rfl ?_
     rw [Bool.and_eq_false_iff,decide_eq_false_iff_not]
     by_cases h2:a≤16
     ·right; simp only [szS]; omega
     ·left; simp [gS,h2]
  ·intro l hl n d a hn ha
   show NRes (f45_l1 k (fam45 k m) a l 0 n d z) _ _ _ _
   have loop : ∀ (l:List DStmt) (i:Nat) (n:Nat) (d:Int),2 * szSs l≤m→n≤600→NRes (f45_l1 k (fam45 k m) a l i n d z) (gSs z l a) n (szSs l) z:=by
    intro l
    induction l with
    | nil=>intro i n d _ hn; exact .yes rfl (by simp [gSs,szSs,hn])
    | cons e l ih =>
     intro i n d hm hn
     obtain ⟨e0,e1,e2,e3,e4,e5,e6,e7,e8,e9,e10⟩:=e
     unfold f45_l1
     simp only [szSs] at hm
     exact (ihs (.mk e0 e1 e2 e3 e4 e5 e6 e7 e8 e9 e10) (by omega) n d a hn ha).bind (fun c=>by obtain ⟨_,_,_⟩:=c; exact ⟨_,rfl⟩) fun d hn=>ih (i + 1) _ d (by omega) hn
   exact loop l 0 n d (by omega) hn
  ·intro c hc n d a hn ha
   obtain ⟨kind,name,slot,es,b⟩:=c
   simp only [szC] at hc
   show NRes (f66_b k (fam45 k m) (.mk n d z) (.mk kind name slot es b) a) _ _ _ _
   rw [f66_b_eq]
   by_cases hk:(decide (kind ≥ 1) && decide (kind≤4))=true
   ·simp only [hk,cond_true]
    rw [f43_eq k n d z a hn]
    simp only [Option.bind_some]
    by_cases h1:n + 1≤600∧a≤16
    ·obtain ⟨h1,h2⟩:=h1
     by_cases h3:((z || slot == 0) && nodeC kind name es.length)=true
     ·rw [Bool.and_assoc,h3]
      simp only [h1,h2,decide_true,Bool.and_self,cond_true]
      unfold f66_j1
      simp only [cond_false]
      rw [w64_nat (x:=(a:Int) + 1) (n:=a + 1) (by omega) (by omega)]
      refine NRes.conv (g:=gEs z es (a + 1) && (gSs z b (a + 1) && true)) (n:=n + 1) (s:=szEs es + (szSs b + 0)) ?_ (by simp only [szC]; omega) (fun _=>?_)
      ·refine (f67_res k z es (by omega) (n + 1) _ (a + 1) h1 (by omega)).bind (fun c=>by obtain ⟨_,_,_⟩:=c; exact ⟨_,rfl⟩) fun d hn=>?_
       refine (ihl b (by omega) _ d (a + 1) hn (by omega)).bind (fun c=>by obtain ⟨_,_,_⟩:=c; exact ⟨_,rfl⟩) fun d hn=>?_
       exact .yes rfl (by simp [hn])
      ·simp only [gC,h2,decide_true,Bool.true_and,Bool.and_true,h3]
     ·have h3' : ((z || slot == 0) && nodeC kind name es.length)=false:=by simpa using h3
      rw [Bool.and_assoc,h3',Bool.and_false]
      refine .no rfl ?_
      rw [gC,Bool.and_assoc (decide (a≤16)),h3']
      simp
    ·have h1' : (decide (n + 1≤600) && decide (a≤16))=false:=by
      simp only [Bool.and_eq_false_iff,decide_eq_false_iff_not]; omega
     simp only [h1',Bool.false_and,cond_false]
     refine .no rfl ?_
     rw [Bool.and_eq_false_iff,decide_eq_false_iff_not]
     by_cases h2:a≤16
     ·right; simp only [szC]; omega
     ·left; simp [gC,h2]
   ·have hk' : (decide (kind ≥ 1) && decide (kind≤4))=false:=by simpa using hk
    simp only [hk',cond_false]
    exact .no rfl (by simp only [gC,nodeC,hk',Bool.false_and,Bool.and_false])
section
end
def okP:List DParam→Bool
 | []=>true
 | .mk nm kd :: l=>isN nm && decide (kd ≥ 1) && decide (kd≤6) && okP l
def headF (z:Bool) (name:ByteArray) (np:Nat) (res:Int) (f3:Bool) (s4:Int):Bool :=
 isN name && decide (np≤4) && (z || s4 == 0) && (!f3 || res == 0) && decide (res ≥ 0) && decide (res≤6)
def gFs (z:Bool):List DFunc→Bool
 | []=>true
 | .mk name ps res f3 s4 b :: l=>headF z name ps.length res f3 s4 && (okP ps && (gSs z b 1 && gFs z l))
def cnF:DFunc→Nat | .mk _ _ _ _ _ b=>szSs b + 1
def cnFs:List DFunc→Nat | []=>0 | f :: l=>cnF f + cnFs l
def wf (z:Bool):DProgram→Bool
 | .mk fs=>decide (1≤fs.length) && decide (fs.length≤16) && gFs z fs && decide (cnFs fs≤600)
section
variable (k i:Nat) (body:List DStmt) (n d:Int) (z q:Bool) (nx:Nat→Int→Int→Bool→Option (Dcounter × Bool))
theorem f34_l2_eq : ∀ (ps:List DParam) (j:Nat),f34_l2 k i body n d z nx ps j=cond (okP ps) (f34_l2 k i body n d z nx [] 0) (some (.mk n d z,false))
 | [],j=>rfl
 | .mk nm kd :: ps,j=>by
  have ih:=f34_l2_eq ps
  generalize f34_l2 k i body n d z nx [] 0=A at ih ⊢
  rw [f34_l2]
  simp only [f44_eq,f42_eq,Option.bind_some,f34_j2,ih,okP]
  cases isN nm <;> cases decide (kd ≥ 1) <;> cases decide (kd≤6) <;> rfl
theorem f34_j1_eq (ps:List DParam):f34_j1 k i ps body n d z q nx=cond (!q && okP ps) (f34_l2 k i body n d z nx [] 0) (some (.mk n d z,false)):=by
 unfold f34_j1
 rw [f34_l2_eq]
 cases q <;> rfl
end
theorem f45_res (k:Nat) (z:Bool) (l:List DStmt) (hk:2 * szSs l + 1≤k) (n:Nat) (d:Int) (a:Nat) (hn:n≤600) (ha:a≤17):NRes (f45 k (.mk n d z) l a) (gSs z l a) n (szSs l) z :=
 (nSt k z k (Nat.le_refl k)).2.1 l hk n d a hn ha
theorem f34_l1_eq (k:Nat) (name:ByteArray) (ps:List DParam) (res:Int) (f3:Bool) (s4:Int) (b:List DStmt) (l:List DFunc) (i:Nat) (n d:Int) (z:Bool) :
  f34_l1 k (.mk name ps res f3 s4 b :: l) i n d z=(f43 k (.mk n d z) 0).bind fun x=>match x with
   | (.mk n1 d1 z1,ok)=>cond (ok && headF z1 name ps.length res f3 s4 && okP ps) (f34_l2 k i b n1 d1 z1 (f34_l1 k l) [] 0) (some (.mk n1 d1 z1,false)):=by
 rw [f34_l1]
 congr 1
 funext x
 obtain ⟨⟨n1,d1,z1⟩,ok⟩:=x
 simp only [f44_eq,f42_eq,Option.bind_some,f34_j1_eq,headF]
 have e:decide ((ps.length:Int) > 4)=!decide (ps.length≤4):=by rw [← decide_not,decide_eq_decide]; omega
 rw [e]
 simp only [Bool.cond_eq_ite]
 grind (splits:=20)
theorem nFs (k:Nat) (z:Bool) : ∀ (l:List DFunc) (i:Nat) (n:Nat) (d:Int),2 * szFs l + 1≤k→n≤600→NRes (f34_l1 k l i n d z) (gFs z l) n (cnFs l) z
 | [],i,n,d,hk,hn=>.yes rfl (by simp [gFs,cnFs,hn])
 | .mk name ps res f3 s4 b :: l,i,n,d,hk,hn=>by
  simp only [szFs,szF] at hk
  rw [f34_l1_eq]
  have e0:((0:Nat):Int)=0:=rfl
  rw [← e0,f43_eq k n d z 0 hn,e0]
  simp only [Option.bind_some,Nat.zero_le,decide_true,Bool.and_true]
  by_cases h1:n + 1≤600
  ·by_cases h2:(headF z name ps.length res f3 s4 && okP ps)=true
   ·rw [Bool.and_assoc,h2]
    simp only [h1,decide_true,Bool.and_self,cond_true]
    rw [f34_l2]
    refine ((f45_res k z b (by omega) (n + 1) (imax d 0) 1 h1 (by omega)).bind (f:=fun q_=>match q_ with | (.mk z10628_0 z10628_1 z10628_2,r10629)=>(cond (!r10629) (some ((Dcounter.mk z10628_0 z10628_1 z10628_2),false)) (f34_l1 k l (i + 1) z10628_0 z10628_1 z10628_2)))
     (fun c=>by obtain ⟨_,_,_⟩:=c; exact ⟨_,rfl⟩) fun d hn=>nFs k z l (i + 1) _ d (by omega) hn).conv (by simp only [cnFs,cnF]; omega) (fun _=>?_)
    rw [Bool.and_eq_true] at h2
    simp only [gFs,h2.1,h2.2,Bool.true_and]
   ·have h2' : (headF z name ps.length res f3 s4 && okP ps)=false:=by simpa using h2
    rw [Bool.and_assoc,h2',Bool.and_false]
    refine .no rfl ?_
    rw [gFs,← Bool.and_assoc,h2']
    simp
  ·simp only [h1,decide_false,Bool.false_and,cond_false]
   refine .no rfl ?_
   have : ¬ (n + (szSs b + 1 + cnFs l)≤600):=by omega
   simp [cnFs,cnF,this]
theorem f26_eq (k:Nat) (p:DProgram) (z:Bool) (hk:2 * szP p + 1≤k):f26 k p z=some (wf z p):=by
 obtain ⟨fs⟩:=p
 simp only [szP] at hk
 unfold f26 f26_b f34 f34_b
 simp only [f42_eq,Option.bind_some]
 have e1:(decide ((fs.length:Int) ≥ 1) && decide ((fs.length:Int)≤16))=(decide (1≤fs.length) && decide (fs.length≤16)):=by
  congr 1
  ·rw [decide_eq_decide]; omega
  ·rw [decide_eq_decide]; omega
 rw [e1]
 by_cases h:(decide (1≤fs.length) && decide (fs.length≤16))=true
 ·rw [h]
  simp only [Bool.not_true,cond_false]
  obtain ⟨c,h1,h2⟩:=nFs k z fs 0 0 0 (by omega) (by omega)
  have e0:((0:Nat):Int)=0:=rfl
  rw [e0] at h1
  rw [h1]
  obtain ⟨_,_,_⟩:=c
  simp only [Option.bind_some,wf,h,Nat.zero_add,Bool.true_and]
 ·have h' : (decide (1≤fs.length) && decide (fs.length≤16))=false:=by simpa using h
  rw [h']
  simp only [Bool.not_false,cond_true,Option.bind_some,wf,h',Bool.false_and]
section
end
mutual
def stS:DStmt→DStmt | .mk op name _ fr _ flag l6 l7 l8 l9 l10=>.mk op name 0 fr 0 flag (stEs l6) (stSs l7) (stSs l8) (stSs l9) (stCs l10)
def stSs:List DStmt→List DStmt | []=>[] | s :: l=>stS s :: stSs l
def stC:DCase→DCase | .mk kind name _ es b=>.mk kind name 0 (stEs es) (stSs b)
def stCs:List DCase→List DCase | []=>[] | c :: l=>stC c :: stCs l
end
def stF:DFunc→DFunc | .mk name ps res f3 _ b=>.mk name ps res f3 0 (stSs b)
def stFs:List DFunc→List DFunc | []=>[] | f :: l=>stF f :: stFs l
def stP:DProgram→DProgram | .mk fs=>.mk (stFs fs)
theorem stSs_len : ∀ l,(stSs l).length=l.length
 | []=>rfl
 | e :: l=>by simp [stSs,stSs_len l]
theorem stCs_len : ∀ l,(stCs l).length=l.length
 | []=>rfl
 | e :: l=>by simp [stCs,stCs_len l]
theorem stFs_len : ∀ l,(stFs l).length=l.length
 | []=>rfl
 | e :: l=>by simp [stFs,stFs_len l]
mutual
theorem szS_st : ∀ e,szS (stS e)=szS e
 | .mk _ _ _ _ _ _ _ l7 l8 l9 l10=>by simp only [stS,szS,szEs_st,szSs_st l7,szSs_st l8,szSs_st l9,szCs_st l10]
theorem szSs_st : ∀ l,szSs (stSs l)=szSs l
 | []=>rfl
 | e :: l=>by simp only [stSs,szSs,szS_st e,szSs_st l]
theorem szC_st : ∀ e,szC (stC e)=szC e
 | .mk _ _ _ _ b=>by simp only [stC,szC,szEs_st,szSs_st b]
theorem szCs_st : ∀ l,szCs (stCs l)=szCs l
 | []=>rfl
 | e :: l=>by simp only [stCs,szCs,szC_st e,szCs_st l]
end
mutual
theorem gS_st : ∀ e a,gS false (stS e) a=gS true e a
 | .mk _ _ _ _ _ _ _ l7 l8 l9 l10,a=>by simp [stS,gS,gEs_st,gSs_st l7,gSs_st l8,gSs_st l9,gCs_st l10,stEs_len,stSs_len,stCs_len]
theorem gSs_st : ∀ l a,gSs false (stSs l) a=gSs true l a
 | [],_=>rfl
 | e :: l,a=>by simp only [stSs,gSs,gS_st e,gSs_st l]
theorem gC_st : ∀ e a,gC false (stC e) a=gC true e a
 | .mk _ _ _ _ b,a=>by simp [stC,gC,gEs_st,gSs_st b,stEs_len]
theorem gCs_st : ∀ l a,gCs false (stCs l) a=gCs true l a
 | [],_=>rfl
 | .mk k nm s es b :: l,a=>by
  have h:=gC_st (.mk k nm s es b) a
  simp only [stC] at h
  have e:(stCs l).isEmpty=l.isEmpty:=by cases l <;> rfl
  simp only [stCs,stC,gCs,h,gCs_st l,e]
end
theorem szFs_st : ∀ l,szFs (stFs l)=szFs l
 | []=>rfl
 | .mk _ _ _ _ _ b :: l=>by simp only [stFs,stF,szFs,szF,szSs_st,szFs_st l]
theorem cnFs_st : ∀ l,cnFs (stFs l)=cnFs l
 | []=>rfl
 | .mk _ _ _ _ _ b :: l=>by simp only [stFs,stF,cnFs,cnF,szSs_st,cnFs_st l]
theorem gFs_st : ∀ l,gFs false (stFs l)=gFs true l
 | []=>rfl
 | .mk _ _ _ _ _ b :: l=>by simp [stFs,stF,gFs,gSs_st,gFs_st l,headF]
theorem szP_st : ∀ p,szP (stP p)=szP p
 | .mk fs=>by simp only [stP,szP,szFs_st]
theorem wf_st : ∀ p,wf false (stP p)=wf true p
 | .mk fs=>by simp only [stP,wf,gFs_st,stFs_len,cnFs_st]
end Go.Proofs.YtoajecnoffhlbaaDoor
namespace Go.Proofs.YtoajecnoffhlbaaDoor
open Go
def maxB:Nat:=140737488355328
mutual
def fitE:DExpr→Prop | .mk _ _ _ _ l=>l.length * 64≤maxB∧fitEs l
def fitEs:List DExpr→Prop | []=>True | e :: l=>fitE e∧fitEs l
end
mutual
def fitS:DStmt→Prop | .mk _ _ _ _ _ _ l6 l7 l8 l9 l10=>(l6.length * 64≤maxB∧fitEs l6)∧(l7.length * 184≤maxB∧fitSs l7)∧(l8.length * 184≤maxB∧fitSs l8)∧(l9.length * 184≤maxB∧fitSs l9)∧(l10.length * 80≤maxB∧fitCs l10)
def fitSs:List DStmt→Prop | []=>True | e :: l=>fitS e∧fitSs l
def fitC:DCase→Prop | .mk _ _ _ l b=>(l.length * 64≤maxB∧fitEs l)∧(b.length * 184≤maxB∧fitSs b)
def fitCs:List DCase→Prop | []=>True | e :: l=>fitC e∧fitCs l
end
def fitF:DFunc→Prop | .mk _ ps _ _ _ b=>ps.length * 24≤maxB∧(b.length * 184≤maxB∧fitSs b)
def fitFs:List DFunc→Prop | []=>True | e :: l=>fitF e∧fitFs l
def fitP:DProgram→Prop | .mk fs=>fs.length * 88≤maxB∧fitFs fs
theorem guard_le {α:Type} {a:Nat} {x:Option α} (h:a≤maxB):guardB (decide (a≤140737488355328)) x=x:=by
 unfold maxB at h; unfold guardB; rw [decide_eq_true h]; rfl
theorem app_len {α:Type} (xs:List α) (e:α):(xs ++ [e]).length=xs.length + 1:=by simp
theorem cE (k:Nat) : ∀ m,(∀ e,2 * szE e≤m→fitE e→(fam1005331 k m).f1005931 e=some (stE e)) ∧
  (∀ l,2 * szEs l + 1≤m→l.length * 64≤maxB→fitEs l→(fam1005331 k m).f1005331 l=some (stEs l))
 | 0=>⟨fun e h=>by have:=szE_pos e; omega,fun l h=>by omega⟩
 | m + 1=>by
  obtain ⟨ihe,ihl⟩:=cE k m
  constructor
  ·intro e h hf
   obtain ⟨e0,e1,e2,e3,e4⟩:=e
   simp only [szE,fitE] at h hf
   show f1005931_b k (fam1005331 k m) (.mk e0 e1 e2 e3 e4)=_
   unfold f1005931_b
   simp only
   rw [ihl e4 (by omega) hf.1 hf.2]
   simp [f51,f51_b,stE]
  ·intro l h hl hf
   show f1005331_l1 k (fam1005331 k m) l 0 []=_
   have loop : ∀ (l:List DExpr) (i:Nat) (xs:List DExpr),2 * szEs l≤m→(xs.length + l.length) * 64≤maxB→fitEs l→f1005331_l1 k (fam1005331 k m) l i xs=some (xs ++ stEs l):=by
    intro l
    induction l with
    | nil=>intro i xs _ _ _; simp [f1005331_l1,stEs]
    | cons e l ih =>
     intro i xs hm hl hf
     obtain ⟨e0,e1,e2,e3,e4⟩:=e
     simp only [szEs,fitEs,List.length_cons] at hm hl hf
     unfold f1005331_l1
     rw [ihe (.mk e0 e1 e2 e3 e4) (by omega) hf.1]
     simp only [Option.bind_some,stE]
     rw [guard_le (by omega),ih (i + 1) _ (by omega) (by rw [app_len]; omega) hf.2]
     simp [stEs,stE]
   exact loop l 0 [] (by omega) (by simpa using hl) hf
theorem f40_eq (k:Nat) : ∀ m l,szSs l + 1≤m→2 * szSs l + 1≤k→l.length * 184≤maxB→fitSs l→(fam40 k m).f40 l false=some (stSs l)
 | 0,l,h,_,_,_=>by omega
 | m + 1,l,h,hk,hl,hf=>by
  show f40_l3 k (fam40 k m) false l 0 []=some (stSs l)
  have cs : ∀ (xs:List DStmt) (i:Nat) (e0:Int) (e1:ByteArray) (e3:ByteArray) (e5 n1 n2:Int) (r6:List DExpr) (r7 r8 r9:List DStmt) (nx:Nat→List DStmt→Option (List DStmt)) (l:List DCase) (j:Nat) (ys:List DCase),szCs l≤m→2 * szCs l≤k →
    (ys.length + l.length) * 80≤maxB→(xs.length + 1) * 184≤maxB→fitCs l→f40_l4 k (fam40 k m) false xs i e0 e1 e3 e5 n1 n2 r6 r7 r8 r9 nx l j ys=nx (i + 1) (xs ++ [.mk e0 e1 n1 e3 n2 e5 r6 r7 r8 r9 (ys ++ stCs l)]):=by
   intro xs i e0 e1 e3 e5 n1 n2 r6 r7 r8 r9 nx l
   induction l with
   | nil=>intro j ys _ _ _ hx _; unfold f40_l4; rw [guard_le hx]; simp [stCs]
   | cons c l ih =>
    intro j ys hm hk hl hx hf
    obtain ⟨c0,c1,c2,c3,c4⟩:=c
    simp only [szCs,szC,fitCs,fitC,List.length_cons] at hm hl hf hk
    unfold f40_l4 f40_j4 f1005331
    rw [(cE k k).2 c3 (by omega) hf.1.1.1 hf.1.1.2]
    simp only [Bool.not_false,cond_true,Option.bind_some]
    rw [f40_eq k m c4 (by omega) (by omega) hf.1.2.1 hf.1.2.2]
    simp only [Option.bind_some]
    rw [guard_le (by omega),ih (j + 1) _ (by omega) (by omega) (by rw [app_len]; omega) hx hf.2]
    simp [stCs,stC]
  have loop : ∀ (l:List DStmt) (i:Nat) (xs:List DStmt),szSs l≤m→2 * szSs l≤k→(xs.length + l.length) * 184≤maxB→fitSs l→f40_l3 k (fam40 k m) false l i xs=some (xs ++ stSs l):=by
   intro l
   induction l with
   | nil=>intro i xs _ _ _ _; simp [f40_l3,stSs]
   | cons e l ih =>
    intro i xs hm hk hl hf
    obtain ⟨e0,e1,e2,e3,e4,e5,e6,e7,e8,e9,e10⟩:=e
    simp only [szSs,szS,fitSs,fitS,List.length_cons] at hm hl hf hk
    obtain ⟨⟨⟨h6,h6'⟩,⟨h7,h7'⟩,⟨h8,h8'⟩,⟨h9,h9'⟩,h10,h10'⟩,hf⟩:=hf
    unfold f40_l3 f40_j3 f1005331
    rw [(cE k k).2 e6 (by omega) h6 h6',f40_eq k m e7 (by omega) (by omega) h7 h7',f40_eq k m e8 (by omega) (by omega) h8 h8',f40_eq k m e9 (by omega) (by omega) h9 h9']
    simp only [Bool.not_false,cond_true,Option.bind_some]
    rw [cs xs i e0 e1 e3 e5 _ _ _ _ _ _ _ e10 0 [] (by omega) (by omega) (by simpa using h10) (by omega) h10',ih (i + 1) _ (by omega) (by omega) (by rw [app_len]; omega) hf]
    simp [stSs,stS]
  exact loop l 0 [] (by omega) (by omega) (by simpa using hl) hf
theorem f31_eq (k:Nat) (p:DProgram) (hk:2 * szP p + 1≤k) (hf:fitP p):f31 k p false=some (stP p):=by
 obtain ⟨fs⟩:=p
 simp only [szP,fitP] at hk hf
 show f31_l1 k false fs 0 []=some (.mk (stFs fs))
 have loop : ∀ (l:List DFunc) (i:Nat) (xs:List DFunc),2 * szFs l + 1≤k→(xs.length + l.length) * 88≤maxB→fitFs l→f31_l1 k false l i xs=some (.mk (xs ++ stFs l)):=by
  intro l
  induction l with
  | nil=>intro i xs _ _ _; simp [f31_l1,stFs]
  | cons e l ih =>
   intro i xs hk hl hf
   obtain ⟨e0,e1,e2,e3,e4,e5⟩:=e
   simp only [szFs,szF,fitFs,fitF,List.length_cons] at hk hl hf
   unfold f31_l1 f31_j1 f38 f40
   rw [guard_le hf.1.1,f40_eq k k e5 (by omega) (by omega) hf.1.2.1 hf.1.2.2]
   simp only [Bool.not_false,cond_true,Option.bind_some]
   rw [guard_le (by omega),ih (i + 1) _ (by omega) (by rw [app_len]; omega) hf.2]
   simp [stFs,stF]
 exact loop fs 0 [] (by omega) (by simpa using hf.1) hf.2
theorem idxO_mid {α:Type} (xs:List α) (e:α) (l:List α) (i:Int) (hi:i=(xs.length:Int)):idxO (xs ++ e :: l) i=some e:=by
 subst hi
 unfold idxO
 rw [if_pos (by omega)]
 simp
theorem seq_refl (a:ByteArray):seq a a=true:=by unfold seq; simp
theorem f33_tot (k:Nat) : ∀ m l (a:Int),szEs l + 1≤m→∃ r,(fam33 k m).f33 l a=some r
 | 0,l,a,h=>by omega
 | m + 1,l,a,h=>by
  show ∃ r,f33_b k (fam33 k m) l a=some r
  unfold f33_b
  have loop : ∀ (l:List DExpr) (i:Nat) (n:Int),szEs l≤m→∃ r,f33_l1 k (fam33 k m) a l i n=some r:=by
   intro l
   induction l with
   | nil=>intro i n _; exact ⟨_,rfl⟩
   | cons e l ih =>
    intro i n hm
    obtain ⟨e0,e1,e2,e3,e4⟩:=e
    simp only [szEs,szE] at hm
    unfold f33_l1
    cases decide (n≤2000)
    ·exact ⟨_,rfl⟩
    ·obtain ⟨r,hr⟩:=f33_tot k m e4 (w64 (a + 1)) (by omega)
     rw [hr]
     exact ih _ _ (by omega)
  cases decide (a > 60)
  ·exact loop l 0 0 (by omega)
  ·exact ⟨_,rfl⟩
theorem f23_tot (k:Nat) : ∀ m l (a:Int),szSs l + 1≤m→szSs l + 1≤k→∃ r,(fam23 k m).f23 l a=some r
 | 0,l,a,h,_=>by omega
 | m + 1,l,a,h,hk=>by
  show ∃ r,f23_b k (fam23 k m) l a=some r
  unfold f23_b
  have cs : ∀ (i:Nat) (nx:Nat→Int→Option Int) (hnx : ∀ n,∃ r,nx (i + 1) n=some r) (l:List DCase) (j:Nat) (n:Int),szCs l≤m→szCs l≤k→∃ r,f23_l2 k (fam23 k m) a i nx l j n=some r:=by
   intro i nx hnx l
   induction l with
   | nil=>intro j n _ _; exact hnx _
   | cons e l ih =>
    intro j n hm hk
    obtain ⟨e0,e1,e2,e3,e4⟩:=e
    simp only [szCs,szC] at hm hk
    unfold f23_l2 f33
    cases decide (n≤2000)
    ·exact hnx _
    ·obtain ⟨r,hr⟩:=f33_tot k k e3 (w64 (a + 1)) (by omega)
     obtain ⟨r2,hr2⟩:=f23_tot k m e4 (w64 (a + 1)) (by omega) (by omega)
     rw [hr,cond_true,Option.bind_some,hr2]
     exact ih _ _ (by omega) (by omega)
  have loop : ∀ (l:List DStmt) (i:Nat) (n:Int),szSs l≤m→szSs l≤k→∃ r,f23_l1 k (fam23 k m) a l i n=some r:=by
   intro l
   induction l with
   | nil=>intro i n _ _; exact ⟨_,rfl⟩
   | cons e l ih =>
    intro i n hm hk
    obtain ⟨e0,e1,e2,e3,e4,e5,e6,e7,e8,e9,e10⟩:=e
    simp only [szSs,szS] at hm hk
    unfold f23_l1 f33
    cases decide (n≤2000)
    ·exact ⟨_,rfl⟩
    ·obtain ⟨r,hr⟩:=f33_tot k k e6 (w64 (a + 1)) (by omega)
     obtain ⟨r7,hr7⟩:=f23_tot k m e7 (w64 (a + 1)) (by omega) (by omega)
     obtain ⟨r8,hr8⟩:=f23_tot k m e8 (w64 (a + 1)) (by omega) (by omega)
     obtain ⟨r9,hr9⟩:=f23_tot k m e9 (w64 (a + 1)) (by omega) (by omega)
     rw [hr,cond_true,Option.bind_some,hr7,Option.bind_some,hr8,Option.bind_some,hr9]
     exact cs i _ (fun n=>ih _ _ (by omega) (by omega)) e10 0 _ (by omega) (by omega)
  cases decide (a > 40)
  ·exact loop l 0 0 (by omega) (by omega)
  ·exact ⟨_,rfl⟩
theorem f5_tot (k:Nat) (p:DProgram) (hk:2 * szP p + 1≤k) : ∃ b,f5 k p=some b:=by
 obtain ⟨fs⟩:=p
 simp only [szP] at hk
 have loop : ∀ (l:List DFunc) (i:Nat) (n:Int),szFs l + 1≤k→∃ r,f12_l1 k l i n=some r:=by
  intro l
  induction l with
  | nil=>intro i n _; exact ⟨_,rfl⟩
  | cons e l ih =>
   intro i n hk
   obtain ⟨e0,e1,e2,e3,e4,e5⟩:=e
   simp only [szFs,szF] at hk
   unfold f12_l1 f23
   cases decide (n≤2000)
   ·exact ⟨_,rfl⟩
   ·obtain ⟨r,hr⟩:=f23_tot k k e5 0 (by omega) (by omega)
    rw [hr]
    exact ih _ _ (by omega)
 obtain ⟨r,hr⟩:=loop fs 0 0 (by omega)
 exact ⟨r,by unfold f5 f5_b f12 f12_b; simp [hr]⟩
theorem f6_eq (k:Nat):f6 (k + 100)=some true:=by kernel_rfl
abbrev Ex (α:Type):=Except Int α
def slotOf (nm:List ByteArray) (vis:List Nat) (a:ByteArray):Option Nat :=
 vis.find? fun v=>match nm[v]? with | some b=>seq b a | none=>false
mutual
def uE (nm:List ByteArray) (vis:List Nat):DExpr→Ex DExpr
 | .mk op num txt slot l=>match uEs nm vis l with
  | .error c=>.error c
  | .ok l'=>cond (op == 4) (match slotOf nm vis txt with | none=>.error 20 | some v=>.ok (.mk op num txt (v:Int) l')) (.ok (.mk op num txt 0 l'))
def uEs (nm:List ByteArray) (vis:List Nat):List DExpr→Ex (List DExpr)
 | []=>.ok []
 | e :: l=>match uE nm vis e with
  | .error c=>.error c
  | .ok e'=>match uEs nm vis l with
   | .error c=>.error c
   | .ok l'=>.ok (e' :: l')
end
def lkU (a:ByteArray):List (List (ByteArray × Int))→Option Int
 | []=>none
 | d :: sc=>match mget seq a d with
  | some v=>some v
  | none=>lkU a sc
def okV (nm:List ByteArray) (vis:List Nat):Prop:=∀ v ∈ vis,v < nm.length
structure Rel (sc:List (List (ByteArray × Int))) (vis:List Nat) (nm:List ByteArray):Prop where
 look : ∀ a,lkU a sc=(slotOf nm vis a).map (fun (v:Nat)=>(v:Int))
 ok:okV nm vis
theorem f46_eq (k:Nat) (p:List DFunc) (f:DFunc) (nm:List ByteArray) (sc:List (List (ByteArray × Int))) (lo:Int) (a:ByteArray) :
  f46 k (.mk (.mk p) f nm sc lo) a=some (match lkU a sc with | some v=>(v,true) | none=>(0,false)):=by
 obtain ⟨f0,f1,f2,f3,f4,f5⟩:=f
 have h : ∀ (sc:List (List (ByteArray × Int))) (i:Nat),f46_l1 k a sc i=some (match lkU a sc with | some v=>(v,true) | none=>(0,false)):=by
  intro sc
  induction sc with
  | nil=>intro i; rfl
  | cons d sc ih =>
   intro i
   unfold f46_l1 lkU
   rw [ih]
   cases mget seq a d <;> rfl
 exact h sc 0
theorem Rel.f46 {k:Nat} {p:List DFunc} {f:DFunc} {nm:List ByteArray} {sc:List (List (ByteArray × Int))} {lo:Int} {vis:List Nat} (R:Rel sc vis nm) (a:ByteArray) :
  Go.Proofs.YtoajecnoffhlbaaDoor.f46 k (.mk (.mk p) f nm sc lo) a=some (match slotOf nm vis a with | some v=>((v:Int),true) | none=>(0,false)):=by
 rw [f46_eq,R.look]
 cases slotOf nm vis a <;> rfl
theorem f25_eq (k:Nat) (b:Bool) (c:Int):f25 k b c=some (cond b (.ok ()) (.error c)):=by cases b <;> rfl
theorem nU (k:Nat) (p:List DFunc) (f:DFunc) {nm:List ByteArray} {sc:List (List (ByteArray × Int))} (lo:Int) {vis:List Nat} (R:Rel sc vis nm) : ∀ m,
  (∀ e,2 * szE e≤m→szE e≤100000→(fam1005323 k m).f1005923 e (.mk (.mk p) f nm sc lo)=some (uE nm vis e)) ∧
  (∀ l,2 * szEs l + 1≤m→szEs l≤100000→(fam1005323 k m).f1005323 l (.mk (.mk p) f nm sc lo)=some (uEs nm vis l))
 | 0=>⟨fun e h=>by have:=szE_pos e; omega,fun l h=>by omega⟩
 | m + 1=>by
  obtain ⟨ihe,ihl⟩:=nU k p f lo R m
  constructor
  ·intro e h hb
   obtain ⟨op,num,txt,slot,l⟩:=e
   obtain ⟨f0,f1,f2,f3,f4,f5⟩:=f
   simp only [szE] at h hb
   show f1005923_b k (fam1005323 k m) (.mk op num txt slot l) (.mk (.mk p) (.mk f0 f1 f2 f3 f4 f5) nm sc lo)=_
   unfold f1005923_b uE
   simp only
   rw [ihl l (by omega) (by omega)]
   simp only [Option.bind_some]
   cases uEs nm vis l with
   | error c=>rfl
   | ok l' =>
    simp only
    unfold f1005718 f1005718_b
    simp only
    rw [R.f46]
    simp only [Option.bind_some,f25_eq,bne]
    cases (op == 4) <;> cases slotOf nm vis txt <;> rfl
  ·intro l h hb
   obtain ⟨f0,f1,f2,f3,f4,f5⟩:=f
   show f1005323_l1 k (fam1005323 k m) p f0 f1 f2 f3 f4 f5 nm sc lo l 0 []=_
   have loop : ∀ (l:List DExpr) (i:Nat) (xs:List DExpr),2 * szEs l≤m→xs.length + szEs l≤100000→f1005323_l1 k (fam1005323 k m) p f0 f1 f2 f3 f4 f5 nm sc lo l i xs=some (match uEs nm vis l with | .error c=>.error c | .ok l'=>.ok (xs ++ l')):=by
    intro l
    induction l with
    | nil=>intro i xs _ _; simp [f1005323_l1,uEs]
    | cons e l ih =>
     intro i xs hm hx
     obtain ⟨e0,e1,e2,e3,e4⟩:=e
     simp only [szEs] at hm hx
     have hp:=szE_pos (.mk e0 e1 e2 e3 e4)
     unfold f1005323_l1 uEs
     rw [ihe (.mk e0 e1 e2 e3 e4) (by omega) (by omega)]
     simp only [Option.bind_some]
     cases uE nm vis (.mk e0 e1 e2 e3 e4) with
     | error c=>rfl
     | ok e' =>
      obtain ⟨r0,r1,r2,r3,r4⟩:=e'
      simp only
      rw [guard_le (by unfold maxB; omega),ih (i + 1) _ (by omega) (by rw [app_len]; omega)]
      cases uEs nm vis l with
      | error c=>rfl
      | ok l'=>simp
   rw [loop l 0 [] (by omega) (by simpa using hb)]
   cases uEs nm vis l <;> simp
theorem f47_eq (k:Nat) (p:List DFunc) (f:DFunc) {nm:List ByteArray} {sc:List (List (ByteArray × Int))} (lo:Int) {vis:List Nat} (R:Rel sc vis nm) (l:List DExpr) (hk:2 * szEs l + 1≤k) (hb:szEs l≤100000) :
  f47 k (.mk (.mk p) f nm sc lo) l=some (uEs nm vis l):=by
 have h:=(nU k p f lo R k).2 l hk hb
 obtain ⟨f0,f1,f2,f3,f4,f5⟩:=f
 unfold f47 f47_b f1005323
 simp only
 rw [h]
 cases uEs nm vis l <;> rfl
theorem uE_err {nm:List ByteArray} {vis:List Nat} : ∀ m,(∀ e c,szE e≤m→uE nm vis e=.error c→c=20)∧(∀ l c,szEs l≤m→uEs nm vis l=.error c→c=20)
 | 0=>⟨fun e c h=>by have:=szE_pos e; omega,fun l c h hu=>by
   cases l with
   | nil=>cases hu
   | cons e l=>have:=szE_pos e; simp only [szEs] at h; omega⟩
 | m + 1=>by
  obtain ⟨ihe,ihl⟩:=uE_err (nm:=nm) (vis:=vis) m
  have he : ∀ e c,szE e≤m + 1→uE nm vis e=.error c→c=20:=by
   intro e c h hu
   obtain ⟨op,num,txt,slot,l⟩:=e
   simp only [szE] at h
   unfold uE at hu
   cases hl:uEs nm vis l with
   | error c'=>rw [hl] at hu; have:=ihl l c' (by omega) hl; cases hu; exact this
   | ok l' =>
    rw [hl] at hu
    cases h4:(op == 4) <;> rw [h4] at hu
    ·cases hu
    ·cases hs:slotOf nm vis txt <;> simp only [hs,cond_true] at hu <;> cases hu
     rfl
  refine ⟨he,?_⟩
  intro l
  induction l with
  | nil=>intro c _ hu; cases hu
  | cons e l ih =>
   intro c h hu
   simp only [szEs] at h
   unfold uEs at hu
   cases he' : uE nm vis e with
   | error c'=>rw [he'] at hu; have:=he e c' (by omega) he'; cases hu; exact this
   | ok e' =>
    rw [he'] at hu
    cases hl:uEs nm vis l with
    | error c'=>rw [hl] at hu; have:=ih c' (by omega) hl; cases hu; exact this
    | ok l'=>rw [hl] at hu; cases hu
theorem uEs_20 {nm:List ByteArray} {vis:List Nat} {e:List DExpr} {c:Int} (h:uEs nm vis e=.error c):c=20:=(uE_err _).2 e c (Nat.le_refl _) h
def eb {α β:Type} (u:Ex α) (f:α→Ex β):Ex β:=match u with | .error c=>.error c | .ok x=>f x
def eb3 {α β:Type} (u:Ex (List ByteArray × List Nat × α)) (f:List ByteArray→List Nat→α→Ex β):Ex β:=match u with | .error c=>.error c | .ok (a,b,x)=>f a b x
def uMk (nm:List ByteArray) (vis:List Nat) (a:ByteArray):Ex (List ByteArray × List Nat × Int) :=
 match slotOf nm vis a with | some _=>.error 21 | none=>.ok (nm ++ [a],vis ++ [nm.length],(nm.length:Int))
def uCall (op:Int) (fr:ByteArray) (na:Nat):List DFunc→Nat→Ex Int
 | [],_=>.error 20
 | .mk nm ps _ fl _ _ :: l,i=>cond (seq nm fr) (cond (fl == (op == 28)) (cond ((ps.length:Int) == (na:Int)) (.ok (i:Int)) (.error 24)) (.error 25)) (uCall op fr na l (i + 1))
def uD {α:Type} (b:Bool) (c:Int) (x:Ex α):Ex α:=cond b x (.error c)
section
variable (fs:List DFunc) (f2:Int) (f3:Bool)
mutual
def uS:Nat→List ByteArray→List Nat→DStmt→Ex (List ByteArray × List Nat × DStmt)
 | lo,nm,vis,.mk op name s2 fr s4 flag l6 l7 l8 l9 l10 =>
  eb (uEs nm vis l6) fun r6 =>
  cond (op == 27) (eb3 (uCs lo nm vis l10) fun nm1 _ cs=>.ok (nm1,vis,.mk op name s2 fr s4 flag r6 l7 l8 l9 cs))
  (eb (cond (seq fr ⟨#[]⟩) (.ok s4) (uCall op fr r6.length fs 0)) fun ix =>
  cond (op == 2) (match slotOf nm vis name with | none=>.error 20 | some v=>.ok (nm,vis,.mk op name (v:Int) fr ix flag r6 l7 l8 l9 l10))
  (cond (op == 18 || op == 19) (uD (decide (lo > 0)) 22 (.ok (nm,vis,.mk op name s2 fr ix flag r6 l7 l8 l9 l10)))
  (cond (op == 29) (uD f3 22 (.ok (nm,vis,.mk op name s2 fr ix flag r6 l7 l8 l9 l10)))
  (cond (op == 17) (uD ((decide (r6.length > 0)) == (f2 != 0)) 22 (.ok (nm,vis,.mk op name s2 fr ix flag r6 l7 l8 l9 l10)))
  (cond (op == 21) (eb3 (uB (lo + 1) nm vis l7) fun nm1 _ b=>.ok (nm1,vis,.mk op name s2 fr ix flag r6 b l8 l9 l10))
  (cond (op == 28) (eb3 (uI (lo + 1) nm vis name s2 l7) fun nm1 _ vb=>.ok (nm1,vis,.mk op name vb.1 fr ix flag r6 vb.2 l8 l9 l10))
  (cond (op == 25) (eb3 (uI lo nm vis name s2 l7) fun nm1 _ vb=>.ok (nm1,vis,.mk op name vb.1 fr ix flag r6 vb.2 l8 l9 l10))
  (cond (op == 24) (eb3 (uB lo nm vis l7) fun nm1 _ b7=>eb3 (uI lo nm1 vis name s2 l8) fun nm2 _ vb=>eb3 (uB lo nm2 vis l9) fun nm3 _ b9=>.ok (nm3,vis,.mk op name vb.1 fr ix flag r6 b7 vb.2 b9 l10))
  (cond (op == 20 || op == 22 || op == 23 || op == 26) (eb3 (uB lo nm vis l7) fun nm1 _ b7=>eb3 (uB lo nm1 vis l8) fun nm2 _ b8=>.ok (nm2,vis,.mk op name s2 fr ix flag r6 b7 b8 l9 l10))
   (eb3 (cond (seq name ⟨#[]⟩) (.ok (nm,vis,s2)) (uMk nm vis name)) fun nm1 vis1 v=>uD (op != 6 || flag == 0 || decide (lo > 0)) 22 (.ok (nm1,vis1,.mk op name v fr ix flag r6 l7 l8 l9 l10))))))))))))
def uSs:Nat→List ByteArray→List Nat→List DStmt→Ex (List ByteArray × List Nat × List DStmt)
 | _,nm,vis,[]=>.ok (nm,vis,[])
 | lo,nm,vis,s :: l=>eb3 (uS lo nm vis s) fun nm1 vis1 s'=>eb3 (uSs lo nm1 vis1 l) fun nm2 vis2 l'=>.ok (nm2,vis2,s' :: l')
def uB:Nat→List ByteArray→List Nat→List DStmt→Ex (List ByteArray × List Nat × List DStmt)
 | _,nm,vis,[]=>.ok (nm,vis,[])
 | lo,nm,vis,s :: l=>eb3 (uS lo nm vis s) fun nm1 vis1 s'=>eb3 (uSs lo nm1 vis1 l) fun nm2 vis2 l'=>.ok (nm2,vis,s' :: l')
def uI:Nat→List ByteArray→List Nat→ByteArray→Int→List DStmt→Ex (List ByteArray × List Nat × (Int × List DStmt))
 | lo,nm,vis,name,s2,[]=>eb3 (cond (seq name ⟨#[]⟩) (.ok (nm,vis,s2)) (uMk nm vis name)) fun nm1 _ v=>.ok (nm1,vis,(v,[]))
 | lo,nm,vis,name,s2,s :: l=>eb3 (cond (seq name ⟨#[]⟩) (.ok (nm,vis,s2)) (uMk nm vis name)) fun nm1 vis1 v=>eb3 (uS lo nm1 vis1 s) fun nm2 vis2 s'=>eb3 (uSs lo nm2 vis2 l) fun nm3 _ l'=>.ok (nm3,vis,(v,s' :: l'))
def uC:Nat→List ByteArray→List Nat→DCase→Ex (List ByteArray × List Nat × DCase)
 | lo,nm,vis,.mk kind name slot es b=>eb (uEs nm vis es) fun r=>eb3 (uI lo nm vis name slot b) fun nm1 _ vb=>.ok (nm1,vis,.mk kind name vb.1 r vb.2)
def uCs:Nat→List ByteArray→List Nat→List DCase→Ex (List ByteArray × List Nat × List DCase)
 | _,nm,vis,[]=>.ok (nm,vis,[])
 | lo,nm,vis,c :: l=>eb3 (uC lo nm vis c) fun nm1 _ c'=>eb3 (uCs lo nm1 vis l) fun nm2 _ l'=>.ok (nm2,vis,c' :: l')
end
theorem uB_eq (lo:Nat) (nm:List ByteArray) (vis:List Nat) (l:List DStmt):uB fs f2 f3 lo nm vis l=eb3 (uSs fs f2 f3 lo nm vis l) fun nm1 _ l'=>.ok (nm1,vis,l'):=by
 cases l with
 | nil=>simp [uB,uSs,eb3]
 | cons s l =>
  rw [uB,uSs]
  cases uS fs f2 f3 lo nm vis s with
  | error c=>rfl
  | ok x =>
   simp only [eb3]
   cases uSs fs f2 f3 lo x.1 x.2.1 l <;> rfl
theorem uI_eq (lo:Nat) (nm:List ByteArray) (vis:List Nat) (name:ByteArray) (s2:Int) (l:List DStmt):uI fs f2 f3 lo nm vis name s2 l =
  eb3 (cond (seq name ⟨#[]⟩) (.ok (nm,vis,s2)) (uMk nm vis name)) fun nm1 vis1 v=>eb3 (uSs fs f2 f3 lo nm1 vis1 l) fun nm2 _ l'=>.ok (nm2,vis,(v,l')):=by
 cases l with
 | nil=>simp [uI,uSs,eb3]
 | cons s l =>
  rw [uI]
  congr 1
  funext nm1 vis1 v
  rw [uSs]
  cases uS fs f2 f3 lo nm1 vis1 s with
  | error c=>rfl
  | ok x =>
   simp only [eb3]
   cases uSs fs f2 f3 lo x.1 x.2.1 l <;> rfl
end
theorem slotOf_ext {nm nm' : List ByteArray} {vis:List Nat} (hv:okV nm vis) (hn:nm <+: nm') (a:ByteArray):slotOf nm' vis a=slotOf nm vis a:=by
 obtain ⟨t,rfl⟩:=hn
 unfold slotOf
 induction vis with
 | nil=>rfl
 | cons v vis ih =>
  have h:v < nm.length:=hv v (by simp)
  rw [List.find?_cons,List.find?_cons,List.getElem?_append_left h,ih (fun w hw=>hv w (by simp [hw]))]
theorem slotOf_new {nm:List ByteArray} {vis:List Nat} (hv:okV nm vis) (a b:ByteArray) (hn:slotOf nm vis a=none):slotOf (nm ++ [a]) (vis ++ [nm.length]) b=match slotOf nm vis b with | some v=>some v | none=>cond (seq a b) (some nm.length) none:=by
 have h1:=slotOf_ext (nm':=nm ++ [a]) hv ⟨[a],rfl⟩ b
 unfold slotOf at h1 ⊢
 rw [List.find?_append,h1]
 cases List.find? (fun v=>match nm[v]? with | some b_1=>seq b_1 b | none=>false) vis with
 | some v=>rfl
 | none =>
  simp only [Option.none_or,List.find?_cons,List.find?_nil]
  have:(nm ++ [a])[nm.length]?=some a:=by simp
  rw [this]
  dsimp only
  cases seq a b <;> rfl
theorem seq_eq {a b:ByteArray} (h:seq a b=true):a=b:=by
 unfold seq at h
 rw [ByteArray.toList_eq,ByteArray.toList_eq] at h
 have h:=eq_of_beq h
 obtain ⟨⟨a⟩⟩:=a; obtain ⟨⟨b⟩⟩:=b
 exact congrArg (fun l=>(⟨⟨l⟩⟩:ByteArray)) h
theorem mget_put (a:ByteArray) (k:Int) (b:ByteArray) : ∀ d:List (ByteArray × Int),mget seq b (mput seq a k d)=cond (seq a b) (some k) (mget seq b d)
 | []=>by
  unfold mput mget
  rw [seq_comm b a]
  cases seq a b <;> rfl
 | (x,v) :: d=>by
  unfold mput
  cases h:seq a x with
  | true =>
   obtain rfl:=seq_eq h
   simp only [if_true,mget]
   rw [seq_comm b a]
   cases seq a b <;> rfl
  | false =>
   rw [if_neg (by simp)]
   simp only [mget,mget_put a k b d]
   cases hb:seq b x with
   | false=>simp
   | true =>
    obtain rfl:=seq_eq hb
    simp [h]
theorem lkU_app (a:ByteArray) : ∀ (x y:List (List (ByteArray × Int))),lkU a (x ++ y)=match lkU a x with | some v=>some v | none=>lkU a y
 | [],y=>rfl
 | d :: x,y=>by
  simp only [List.cons_append,lkU,lkU_app a x y]
  cases mget seq a d <;> rfl
theorem lkU_one (a:ByteArray) (d:List (ByteArray × Int)):lkU a [d]=mget seq a d:=by
 unfold lkU; cases mget seq a d <;> rfl
theorem Rel.push {sc:List (List (ByteArray × Int))} {vis:List Nat} {nm:List ByteArray} (R:Rel sc vis nm):Rel (sc ++ [[]]) vis nm :=
 ⟨fun a=>by rw [lkU_app,lkU_one,← R.look a]; cases lkU a sc <;> rfl,R.ok⟩
theorem Rel.ext {sc:List (List (ByteArray × Int))} {vis:List Nat} {nm nm' : List ByteArray} (R:Rel sc vis nm) (h:nm <+: nm'):Rel sc vis nm' :=
 ⟨fun a=>by rw [R.look,slotOf_ext R.ok h],fun v hv=>Nat.lt_of_lt_of_le (R.ok v hv) h.length_le⟩
theorem Rel.make {pre:List (List (ByteArray × Int))} {d:List (ByteArray × Int)} {vis:List Nat} {nm:List ByteArray} {a:ByteArray} (R:Rel (pre ++ [d]) vis nm) (hn:slotOf nm vis a=none) :
  Rel (pre ++ [mput seq a (nm.length:Int) d]) (vis ++ [nm.length]) (nm ++ [a]):=by
 refine ⟨fun b=>?_,fun v hv=>?_⟩
 ·rw [slotOf_new R.ok a b hn,lkU_app,lkU_one,mget_put]
  have h:=R.look b
  rw [lkU_app,lkU_one] at h
  cases hs:seq a b with
  | false =>
   simp only [cond_false]
   rw [h]
   cases slotOf nm vis b <;> rfl
  | true =>
   obtain rfl:=seq_eq hs
   rw [hn] at h ⊢
   simp only [Option.map_none] at h
   cases hp:lkU a pre with
   | some v=>rw [hp] at h; cases h
   | none=>rfl
 ·rcases List.mem_append.1 hv with hv | hv
  ·have:=R.ok v hv; simp; omega
  ·simp at hv; simp; omega
theorem f37_eq (k:Nat) (p:List DFunc) (f:DFunc) {nm:List ByteArray} {pre:List (List (ByteArray × Int))} {d:List (ByteArray × Int)} (lo:Int) {vis:List Nat} (R:Rel (pre ++ [d]) vis nm) (a:ByteArray) (hb:nm.length≤1000000) (hp:pre.length≤1000000) :
  f37 k (.mk (.mk p) f nm (pre ++ [d]) lo) a=some (match uMk nm vis a with | .error c=>.error c | .ok (nm',_,v)=>.ok (.mk (.mk p) f nm' (pre ++ [mput seq a (nm.length:Int) d]) lo,v)):=by
 have h119:=R.f46 (k:=k) (p:=p) (f:=f) (lo:=lo) a
 obtain ⟨f0,f1,f2,f3,f4,f5⟩:=f
 unfold f37 f37_b uMk
 simp only
 rw [h119]
 cases slotOf nm vis a with
 | some v=>rfl
 | none =>
  simp only [Option.bind_some,f25_eq,Bool.not_false,cond_true]
  rw [guard_le (by unfold maxB; omega)]
  have e1:w64 (((pre ++ [d]).length:Int) - 1)=(pre.length:Int):=w64_nat (n:=pre.length) (by simp) (by omega)
  rw [e1,idxO_mid pre d [] _ rfl]
  simp
def fdL (fr:ByteArray):List DFunc→Nat→Option Int
 | [],_=>some (-1)
 | .mk nm _ _ _ _ _ :: l,i=>cond (seq nm fr) (some (i:Int)) (fdL fr l (i + 1))
theorem f1003670_eq (k:Nat) (s0:Int) (s1:ByteArray) (s2:Int) (fr:ByteArray) (s4 s5:Int) (s6:List DExpr) (s7 s8 s9:List DStmt) (s10:List DCase) : ∀ (l:List DFunc) (i:Nat),
  f1003670_l1 k s0 s1 s2 fr s4 s5 s6 s7 s8 s9 s10 l i=fdL fr l i
 | [],i=>rfl
 | .mk e0 e1 e2 e3 e4 e5 :: l,i=>by
  unfold f1003670_l1 fdL f1005844 f1005844_b
  simp only [Option.bind_some]
  rw [f1003670_eq k s0 s1 s2 fr s4 s5 s6 s7 s8 s9 s10 l (i + 1)]
theorem fd_spec (op:Int) (fr:ByteArray) (na:Nat) : ∀ (l:List DFunc) (pre:List DFunc),∃ r,fdL fr l pre.length=some r ∧
  ((r=-1∧uCall op fr na l pre.length=.error 20)∨(∃ (j:Nat) (g0:ByteArray) (g1:List DParam) (g2:Int) (g3:Bool) (g4:Int) (g5:List DStmt),r=(j:Int)∧(pre ++ l)[j]?=some (.mk g0 g1 g2 g3 g4 g5) ∧
   uCall op fr na l pre.length=cond (g3 == (op == 28)) (cond ((g1.length:Int) == (na:Int)) (.ok (j:Int)) (.error 24)) (.error 25)))
 | [],pre=>⟨-1,rfl,.inl ⟨rfl,rfl⟩⟩
 | .mk g0 g1 g2 g3 g4 g5 :: l,pre=>by
  unfold fdL uCall
  cases h:seq g0 fr with
  | true=>exact ⟨_,rfl,.inr ⟨pre.length,g0,g1,g2,g3,g4,g5,rfl,by simp,rfl⟩⟩
  | false =>
   obtain ⟨r,h1,h2⟩:=fd_spec op fr na l (pre ++ [.mk g0 g1 g2 g3 g4 g5])
   rw [app_len] at h1 h2
   rw [List.append_assoc,List.singleton_append] at h2
   exact ⟨r,h1,h2⟩
theorem f49_eq (k:Nat) (p:List DFunc) (f:DFunc) (nm:List ByteArray) (sc:List (List (ByteArray × Int))) (lo:Int) (op:Int) (name:ByteArray) (s2:Int) (fr:ByteArray) (s4 flag:Int) (l6:List DExpr) (l7 l8 l9:List DStmt) (l10:List DCase) :
  f49 k (.mk (.mk p) f nm sc lo) (.mk op name s2 fr s4 flag l6 l7 l8 l9 l10)=some (match uCall op fr l6.length p 0 with | .error c=>.error c | .ok ix=>.ok (.mk (.mk p) f nm sc lo,.mk op name s2 fr ix flag l6 l7 l8 l9 l10)):=by
 obtain ⟨f0,f1,f2,f3,f4,f5⟩:=f
 unfold f49 f49_b f1003670 f1003670_b
 simp only
 rw [f1003670_eq]
 obtain ⟨r,h1,h2⟩:=fd_spec op fr l6.length p []
 simp only [List.length_nil,List.nil_append] at h1 h2
 rw [h1]
 simp only [Option.bind_some,f25_eq]
 rcases h2 with ⟨rfl,h2⟩ | ⟨j,g0,g1,g2,g3,g4,g5,rfl,h3,h2⟩
 ·rw [h2]; rfl
 ·rw [h2]
  have:idxO p (j:Int)=some (.mk g0 g1 g2 g3 g4 g5):=by unfold idxO; rw [if_pos (by omega)]; simpa using h3
  have hj:decide ((j:Int) ≥ 0)=true:=by simp
  rw [this,hj]
  simp only [cond_true,Option.bind_some]
  cases (g3 == (op == 28)) <;> cases ((g1.length:Int) == (l6.length:Int)) <;> rfl
end Go.Proofs.YtoajecnoffhlbaaDoor
namespace Go.Proofs.YtoajecnoffhlbaaDoor
open Go
abbrev Sc:=List (List (ByteArray × Int))
def NN {α:Type} (r:Option (Ex (Dresolver × α))) (p:List DFunc) (f:DFunc) (lo:Nat) (pre:Sc) (nm:List ByteArray) (u:Ex (List ByteArray × List Nat × α)) (n:Nat):Prop :=
 match u with
 | .error c=>r=some (.error c)
 | .ok (nm',vis',y)=>∃ d',r=some (.ok (.mk (.mk p) f nm' (pre ++ [d']) lo,y))∧Rel (pre ++ [d']) vis' nm'∧nm <+: nm'∧nm'.length≤nm.length + n
def NB {α β:Type} (r:Option (Ex (Dresolver × β))) (p:List DFunc) (f:DFunc) (lo:Nat) (sc:Sc) (nm:List ByteArray) (u:Ex (List ByteArray × List Nat × α)) (g:α→β) (n:Nat):Prop :=
 match u with
 | .error c=>r=some (.error c)
 | .ok (nm',_,y)=>r=some (.ok (.mk (.mk p) f nm' sc lo,g y))∧nm <+: nm'∧nm'.length≤nm.length + n
theorem opt_make (k:Nat) (p:List DFunc) (f:DFunc) {nm:List ByteArray} {pre:Sc} {d:List (ByteArray × Int)} (lo:Nat) {vis:List Nat} (R:Rel (pre ++ [d]) vis nm) (a:ByteArray) (hb:nm.length≤1000000) (hp:pre.length≤1000000) :
  NN (f37 k (.mk (.mk p) f nm (pre ++ [d]) lo) a) p f lo pre nm (uMk nm vis a) 1:=by
 rw [f37_eq k p f lo R a hb hp]
 unfold uMk NN
 cases hs:slotOf nm vis a with
 | some v=>rfl
 | none=>exact ⟨_,rfl,R.make hs,⟨[a],rfl⟩,by simp⟩
theorem gt_nat (lo:Nat):decide ((lo:Int) > 0)=decide (lo > 0):=by rw [decide_eq_decide]; omega
theorem cut_guard {α:Type} (sc:Sc) (d:List (ByteArray × Int)) (h:sc.length≤1000000) (x:Option α):guardB (decide (0≤(w64 (((sc ++ [d]).length:Int) - 1))∧(w64 (((sc ++ [d]).length:Int) - 1))≤((sc ++ [d]).length:Int))) x=x:=by
 have e1:w64 (((sc ++ [d]).length:Int) - 1)=(sc.length:Int):=w64_nat (n:=sc.length) (by simp) (by omega)
 rw [e1]
 have:(0≤(sc.length:Int)∧(sc.length:Int)≤((sc ++ [d]).length:Int)):=⟨by omega,by simp; omega⟩
 rw [decide_eq_true this]; rfl
theorem cut_take (sc:Sc) (d:List (ByteArray × Int)) (h:sc.length≤1000000):(sc ++ [d]).take (w64 (((sc ++ [d]).length:Int) - 1)).toNat=sc:=by
 have e1:w64 (((sc ++ [d]).length:Int) - 1)=(sc.length:Int):=w64_nat (n:=sc.length) (by simp) (by omega)
 rw [e1]; simp
section
variable (k:Nat) (p:List DFunc) (f0:ByteArray) (f1:List DParam) (f2:Int) (f3:Bool) (f4:Int) (f5:List DStmt)
end
theorem nR (k:Nat) (p:List DFunc) (f0:ByteArray) (f1:List DParam) (f2:Int) (f3:Bool) (f4:Int) (f5:List DStmt) : ∀ m,m≤k →
  (∀ s,4 * szS s≤m→∀ (nm:List ByteArray) (vis:List Nat) (pre:Sc) (d:List (ByteArray × Int)) (lo:Nat),nm.length + szS s≤100000→pre.length + szS s≤100000→lo + szS s≤100000→Rel (pre ++ [d]) vis nm →
   NN ((fam39 k m).f39 (.mk (.mk p) (.mk f0 f1 f2 f3 f4 f5) nm (pre ++ [d]) lo) s) p (.mk f0 f1 f2 f3 f4 f5) lo pre nm (uS p f2 f3 lo nm vis s) (szS s)) ∧
  (∀ l,4 * szSs l + 1≤m→∀ (nm:List ByteArray) (vis:List Nat) (sc:Sc) (lo:Nat),nm.length + szSs l≤100000→sc.length + szSs l≤100000→lo + szSs l≤100000→Rel sc vis nm →
   NB ((fam39 k m).f1004866 (.mk (.mk p) (.mk f0 f1 f2 f3 f4 f5) nm sc lo) ⟨#[]⟩ l) p (.mk f0 f1 f2 f3 f4 f5) lo sc nm (uB p f2 f3 lo nm vis l) id (szSs l)) ∧
  (∀ l,4 * szSs l + 1≤m→∀ (name:ByteArray) (s0:Int) (s1:ByteArray) (s2:Int) (s3:ByteArray) (s4 s5:Int) (s6:List DExpr) (s7 s8 s9:List DStmt) (s10:List DCase) (nm:List ByteArray) (vis:List Nat) (sc:Sc) (lo:Nat),nm.length + szSs l + 1≤100000→sc.length + szSs l≤100000→lo + szSs l≤100000→Rel sc vis nm →
   NB ((fam39 k m).f1004815 (.mk (.mk p) (.mk f0 f1 f2 f3 f4 f5) nm sc lo) name l (.mk s0 s1 s2 s3 s4 s5 s6 s7 s8 s9 s10)) p (.mk f0 f1 f2 f3 f4 f5) lo sc nm (uI p f2 f3 lo nm vis name s2 l) (fun vb=>(DStmt.mk s0 s1 vb.1 s3 s4 s5 s6 s7 s8 s9 s10,vb.2)) (szSs l + 1)) ∧
  (∀ l,4 * szSs l + 1≤m→∀ (name:ByteArray) (s0:Int) (s1:ByteArray) (s2:Int) (s3:List DExpr) (s4:List DStmt) (nm:List ByteArray) (vis:List Nat) (sc:Sc) (lo:Nat),nm.length + szSs l + 1≤100000→sc.length + szSs l≤100000→lo + szSs l≤100000→Rel sc vis nm →
   NB ((fam39 k m).f1004884 (.mk (.mk p) (.mk f0 f1 f2 f3 f4 f5) nm sc lo) name l (.mk s0 s1 s2 s3 s4)) p (.mk f0 f1 f2 f3 f4 f5) lo sc nm (uI p f2 f3 lo nm vis name s2 l) (fun vb=>(DCase.mk s0 s1 vb.1 s3 s4,vb.2)) (szSs l + 1)) ∧
  (∀ l,4 * szSs l + 2≤m→∀ (nm:List ByteArray) (vis:List Nat) (sc:Sc) (lo:Nat),nm.length + szSs l≤100000→sc.length + szSs l≤100000→lo + szSs l + 1≤100000→Rel sc vis nm →
   NB ((fam39 k m).f1005066 (.mk (.mk p) (.mk f0 f1 f2 f3 f4 f5) nm sc lo) ⟨#[]⟩ l) p (.mk f0 f1 f2 f3 f4 f5) lo sc nm (uB p f2 f3 (lo + 1) nm vis l) id (szSs l)) ∧
  (∀ l,4 * szSs l + 2≤m→∀ (name:ByteArray) (s0:Int) (s1:ByteArray) (s2:Int) (s3:ByteArray) (s4 s5:Int) (s6:List DExpr) (s7 s8 s9:List DStmt) (s10:List DCase) (nm:List ByteArray) (vis:List Nat) (sc:Sc) (lo:Nat),nm.length + szSs l + 1≤100000→sc.length + szSs l≤100000→lo + szSs l + 1≤100000→Rel sc vis nm →
   NB ((fam39 k m).f1005015 (.mk (.mk p) (.mk f0 f1 f2 f3 f4 f5) nm sc lo) name l (.mk s0 s1 s2 s3 s4 s5 s6 s7 s8 s9 s10)) p (.mk f0 f1 f2 f3 f4 f5) lo sc nm (uI p f2 f3 (lo + 1) nm vis name s2 l) (fun vb=>(DStmt.mk s0 s1 vb.1 s3 s4 s5 s6 s7 s8 s9 s10,vb.2)) (szSs l + 1))
 | 0,_=>⟨fun e he=>by have:=szS_pos e; omega,fun l hl=>by omega,fun l hl=>by omega,fun l hl=>by omega,fun l hl=>by omega,fun l hl=>by omega⟩
 | m + 1,hmk=>by
  obtain ⟨ihs,ihb,ihi,ihc,ihlb,ihli⟩:=nR k p f0 f1 f2 f3 f4 f5 m (by omega)
  have loopB : ∀ (l:List DStmt) (i:Nat) (xs:List DStmt) (nm:List ByteArray) (vis:List Nat) (sc:Sc) (d:List (ByteArray × Int)) (lo:Nat),4 * szSs l≤m→xs.length + szSs l≤100000→nm.length + szSs l≤100000→sc.length + szSs l≤100000→lo + szSs l≤100000→Rel (sc ++ [d]) vis nm →
    NB (f1004866_l1 k (fam39 k m) l i p f0 f1 f2 f3 f4 f5 nm (sc ++ [d]) lo xs) p (.mk f0 f1 f2 f3 f4 f5) lo sc nm (uSs p f2 f3 lo nm vis l) (fun l'=>xs ++ l') (szSs l):=by
   intro l
   induction l with
   | nil =>
    intro i xs nm vis sc d lo _ _ _ hsc _ R
    unfold f1004866_l1
    rw [cut_guard sc d (by omega),cut_take sc d (by omega),uSs]
    exact ⟨by simp,List.prefix_refl _,by simp⟩
   | cons s l ih =>
    intro i xs nm vis sc d lo hm hxs hnm hsc hlo R
    obtain ⟨e0,e1,e2,e3,e4,e5,e6,e7,e8,e9,e10⟩:=s
    simp only [szSs] at hm hxs hnm hsc hlo
    have hp:=szS_pos (.mk e0 e1 e2 e3 e4 e5 e6 e7 e8 e9 e10)
    unfold f1004866_l1
    rw [uSs]
    have h:=ihs (.mk e0 e1 e2 e3 e4 e5 e6 e7 e8 e9 e10) (by omega) nm vis sc d lo (by omega) (by omega) (by omega) R
    revert h
    cases uS p f2 f3 lo nm vis (.mk e0 e1 e2 e3 e4 e5 e6 e7 e8 e9 e10) with
    | error c=>intro h; simp only [NN] at h; rw [h]; rfl
    | ok x =>
     obtain ⟨nm1,vis1,s'⟩:=x
     rintro ⟨d1,h,R1,hp1,hl1⟩
     rw [h]
     obtain ⟨r0,r1,r2,r3,r4,r5,r6,r7,r8,r9,r10⟩:=s'
     simp only [Option.bind_some,eb3]
     rw [guard_le (by unfold maxB; omega)]
     have h2:=ih (i + 1) (xs ++ [.mk r0 r1 r2 r3 r4 r5 r6 r7 r8 r9 r10]) nm1 vis1 sc d1 lo (by omega) (by rw [app_len]; omega) (by omega) (by omega) (by omega) R1
     revert h2
     cases uSs p f2 f3 lo nm1 vis1 l with
     | error c=>intro h2; exact h2
     | ok x =>
      obtain ⟨nm2,vis2,l'⟩:=x
      rintro ⟨h3,hp2,hl2⟩
      refine ⟨by rw [h3]; simp,hp1.trans hp2,by simp only [szSs]; omega⟩
  have loopS : ∀ (s0:Int) (s1:ByteArray) (s3:ByteArray) (s4 s5:Int) (s6:List DExpr) (s7 s8 s9:List DStmt) (s10:List DCase) (v:Int) (l:List DStmt) (i:Nat) (xs:List DStmt) (nm:List ByteArray) (vis:List Nat) (sc:Sc) (d:List (ByteArray × Int)) (lo:Nat),4 * szSs l≤m→xs.length + szSs l≤100000→nm.length + szSs l≤100000→sc.length + szSs l≤100000→lo + szSs l≤100000→Rel (sc ++ [d]) vis nm →
    NB (f1004815_l1 k (fam39 k m) s0 s1 s3 s4 s5 s6 s7 s8 s9 s10 v l i p f0 f1 f2 f3 f4 f5 nm (sc ++ [d]) lo xs) p (.mk f0 f1 f2 f3 f4 f5) lo sc nm (uSs p f2 f3 lo nm vis l) (fun l'=>(DStmt.mk s0 s1 v s3 s4 s5 s6 s7 s8 s9 s10,xs ++ l')) (szSs l):=by
   intro s0 s1 s3 s4 s5 s6 s7 s8 s9 s10 v l
   induction l with
   | nil =>
    intro i xs nm vis sc d lo _ _ _ hsc _ R
    unfold f1004815_l1
    rw [cut_guard sc d (by omega),cut_take sc d (by omega),uSs]
    exact ⟨by simp,List.prefix_refl _,by simp⟩
   | cons s l ih =>
    intro i xs nm vis sc d lo hm hxs hnm hsc hlo R
    obtain ⟨e0,e1,e2,e3,e4,e5,e6,e7,e8,e9,e10⟩:=s
    simp only [szSs] at hm hxs hnm hsc hlo
    have hp:=szS_pos (.mk e0 e1 e2 e3 e4 e5 e6 e7 e8 e9 e10)
    unfold f1004815_l1
    rw [uSs]
    have h:=ihs (.mk e0 e1 e2 e3 e4 e5 e6 e7 e8 e9 e10) (by omega) nm vis sc d lo (by omega) (by omega) (by omega) R
    revert h
    cases uS p f2 f3 lo nm vis (.mk e0 e1 e2 e3 e4 e5 e6 e7 e8 e9 e10) with
    | error c=>intro h; simp only [NN] at h; rw [h]; rfl
    | ok x =>
     obtain ⟨nm1,vis1,s'⟩:=x
     rintro ⟨d1,h,R1,hp1,hl1⟩
     rw [h]
     obtain ⟨r0,r1,r2,r3,r4,r5,r6,r7,r8,r9,r10⟩:=s'
     simp only [Option.bind_some,eb3]
     rw [guard_le (by unfold maxB; omega)]
     have h2:=ih (i + 1) (xs ++ [.mk r0 r1 r2 r3 r4 r5 r6 r7 r8 r9 r10]) nm1 vis1 sc d1 lo (by omega) (by rw [app_len]; omega) (by omega) (by omega) (by omega) R1
     revert h2
     cases uSs p f2 f3 lo nm1 vis1 l with
     | error c=>intro h2; exact h2
     | ok x =>
      obtain ⟨nm2,vis2,l'⟩:=x
      rintro ⟨h3,hp2,hl2⟩
      refine ⟨by rw [h3]; simp,hp1.trans hp2,by simp only [szSs]; omega⟩
  have loopC : ∀ (s0:Int) (s1:ByteArray) (s3:List DExpr) (s4:List DStmt) (v:Int) (l:List DStmt) (i:Nat) (xs:List DStmt) (nm:List ByteArray) (vis:List Nat) (sc:Sc) (d:List (ByteArray × Int)) (lo:Nat),4 * szSs l≤m→xs.length + szSs l≤100000→nm.length + szSs l≤100000→sc.length + szSs l≤100000→lo + szSs l≤100000→Rel (sc ++ [d]) vis nm →
    NB (f1004884_l1 k (fam39 k m) s0 s1 s3 s4 v l i p f0 f1 f2 f3 f4 f5 nm (sc ++ [d]) lo xs) p (.mk f0 f1 f2 f3 f4 f5) lo sc nm (uSs p f2 f3 lo nm vis l) (fun l'=>(DCase.mk s0 s1 v s3 s4,xs ++ l')) (szSs l):=by
   intro s0 s1 s3 s4 v l
   induction l with
   | nil =>
    intro i xs nm vis sc d lo _ _ _ hsc _ R
    unfold f1004884_l1
    rw [cut_guard sc d (by omega),cut_take sc d (by omega),uSs]
    exact ⟨by simp,List.prefix_refl _,by simp⟩
   | cons s l ih =>
    intro i xs nm vis sc d lo hm hxs hnm hsc hlo R
    obtain ⟨e0,e1,e2,e3,e4,e5,e6,e7,e8,e9,e10⟩:=s
    simp only [szSs] at hm hxs hnm hsc hlo
    have hp:=szS_pos (.mk e0 e1 e2 e3 e4 e5 e6 e7 e8 e9 e10)
    unfold f1004884_l1
    rw [uSs]
    have h:=ihs (.mk e0 e1 e2 e3 e4 e5 e6 e7 e8 e9 e10) (by omega) nm vis sc d lo (by omega) (by omega) (by omega) R
    revert h
    cases uS p f2 f3 lo nm vis (.mk e0 e1 e2 e3 e4 e5 e6 e7 e8 e9 e10) with
    | error c=>intro h; simp only [NN] at h; rw [h]; rfl
    | ok x =>
     obtain ⟨nm1,vis1,s'⟩:=x
     rintro ⟨d1,h,R1,hp1,hl1⟩
     rw [h]
     obtain ⟨r0,r1,r2,r3,r4,r5,r6,r7,r8,r9,r10⟩:=s'
     simp only [Option.bind_some,eb3]
     rw [guard_le (by unfold maxB; omega)]
     have h2:=ih (i + 1) (xs ++ [.mk r0 r1 r2 r3 r4 r5 r6 r7 r8 r9 r10]) nm1 vis1 sc d1 lo (by omega) (by rw [app_len]; omega) (by omega) (by omega) (by omega) R1
     revert h2
     cases uSs p f2 f3 lo nm1 vis1 l with
     | error c=>intro h2; exact h2
     | ok x =>
      obtain ⟨nm2,vis2,l'⟩:=x
      rintro ⟨h3,hp2,hl2⟩
      refine ⟨by rw [h3]; simp,hp1.trans hp2,by simp only [szSs]; omega⟩
  have loopK : ∀ (s0:Int) (s1:ByteArray) (s2:Int) (s3:ByteArray) (s4 s5:Int) (s7 s8 s9:List DStmt) (r:List DExpr) (l:List DCase) (i:Nat) (xs:List DCase) (nm:List ByteArray) (vis:List Nat) (pre:Sc) (d:List (ByteArray × Int)) (lo:Nat),4 * szCs l≤m + 1→xs.length + szCs l≤100000→nm.length + szCs l≤100000→pre.length + szCs l≤100000→lo + szCs l≤100000→Rel (pre ++ [d]) vis nm →
    NB (f39_l1 k (fam39 k m) s0 s1 s2 s3 s4 s5 s7 s8 s9 r l i p f0 f1 f2 f3 f4 f5 nm (pre ++ [d]) lo xs) p (.mk f0 f1 f2 f3 f4 f5) lo (pre ++ [d]) nm (uCs p f2 f3 lo nm vis l) (fun l'=>DStmt.mk s0 s1 s2 s3 s4 s5 r s7 s8 s9 (xs ++ l')) (szCs l):=by
   intro s0 s1 s2 s3 s4 s5 s7 s8 s9 r l
   induction l with
   | nil =>
    intro i xs nm vis pre d lo _ _ _ hsc _ R
    unfold f39_l1
    rw [uCs]
    exact ⟨by simp,List.prefix_refl _,by simp⟩
   | cons c l ih =>
    intro i xs nm vis pre d lo hm hxs hnm hsc hlo R
    obtain ⟨e0,e1,e2,e3,e4⟩:=c
    simp only [szCs,szC] at hm hxs hnm hsc hlo
    unfold f39_l1
    rw [uCs,uC]
    rw [f47_eq k p (.mk f0 f1 f2 f3 f4 f5) lo R e3 (by omega) (by omega)]
    cases uEs nm vis e3 with
    | error c=>exact rfl
    | ok r3 =>
     simp only [Option.bind_some,eb]
     have h:=ihc e4 (by omega) e1 e0 e1 e2 r3 e4 nm vis (pre ++ [d]) lo (by omega) (by simp; omega) (by omega) R
     revert h
     cases uI p f2 f3 lo nm vis e1 e2 e4 with
     | error c=>intro h; simp only [NB] at h; rw [h]; exact rfl
     | ok x =>
      obtain ⟨nm1,vis1,v,b⟩:=x
      rintro ⟨h,hp1,hl1⟩
      rw [h]
      simp only [Option.bind_some,eb3]
      rw [guard_le (by unfold maxB; omega)]
      have h2:=ih (i + 1) (xs ++ [.mk e0 e1 v r3 b]) nm1 vis pre d lo (by omega) (by rw [app_len]; omega) (by omega) (by omega) (by omega) (R.ext hp1)
      revert h2
      cases uCs p f2 f3 lo nm1 vis l with
      | error c=>intro h2; exact h2
      | ok x =>
       obtain ⟨nm2,vis2,l'⟩:=x
       rintro ⟨h3,hp2,hl2⟩
       refine ⟨by rw [h3]; simp,hp1.trans hp2,by simp only [szCs,szC]; omega⟩
  refine ⟨?_,?_,?_,?_,?_,?_⟩
  ·intro s hs nm vis pre d lo hnm hpre hlo R
   obtain ⟨op,name,s2,fr,s4,flag,l6,l7,l8,l9,l10⟩:=s
   simp only [szS] at hs hnm hpre hlo
   show NN (f39_b k (fam39 k m) (.mk (.mk p) (.mk f0 f1 f2 f3 f4 f5) nm (pre ++ [d]) lo) (.mk op name s2 fr s4 flag l6 l7 l8 l9 l10)) p _ lo pre nm _ _
   rw [uS]
   unfold f39_b
   simp only
   rw [f47_eq k p (.mk f0 f1 f2 f3 f4 f5) lo R l6 (by omega) (by omega)]
   cases uEs nm vis l6 with
   | error c=>exact rfl
   | ok r6 =>
    simp only [Option.bind_some,eb]
    have stay : ∀ y:DStmt,NN (some (.ok (Dresolver.mk (DProgram.mk p) (.mk f0 f1 f2 f3 f4 f5) nm (pre ++ [d]) lo,y))) p (.mk f0 f1 f2 f3 f4 f5) lo pre nm (.ok (nm,vis,y)) (szS (.mk op name s2 fr s4 flag l6 l7 l8 l9 l10)) :=
     fun y=>⟨d,rfl,R,List.prefix_refl _,by omega⟩
    cases h27:(op == 27) with
    | true =>
     simp only [cond_true]
     have h:=loopK op name s2 fr s4 flag l7 l8 l9 r6 l10 0 [] nm vis pre d lo (by omega) (by simp; omega) (by omega) (by omega) (by omega) R
     revert h
     cases uCs p f2 f3 lo nm vis l10 with
     | error c=>intro h; exact h
     | ok x =>
      obtain ⟨nm1,vis1,cs⟩:=x
      rintro ⟨h,hp1,hl1⟩
      exact ⟨d,by rw [h]; simp,R.ext hp1,hp1,by simp only [szS]; omega⟩
    | false =>
     simp only [cond_false]
     have tail : ∀ ix:Int,NN (f39_j1 k (fam39 k m) p f0 f1 f2 f3 f4 f5 nm (pre ++ [d]) lo op name s2 fr ix flag r6 l7 l8 l9 l10) p (.mk f0 f1 f2 f3 f4 f5) lo pre nm
       (cond (op == 2) (match slotOf nm vis name with | none=>.error 20 | some v=>.ok (nm,vis,.mk op name (v:Int) fr ix flag r6 l7 l8 l9 l10))
       (cond (op == 18 || op == 19) (uD (decide (lo > 0)) 22 (.ok (nm,vis,.mk op name s2 fr ix flag r6 l7 l8 l9 l10)))
       (cond (op == 29) (uD f3 22 (.ok (nm,vis,.mk op name s2 fr ix flag r6 l7 l8 l9 l10)))
       (cond (op == 17) (uD ((decide (r6.length > 0)) == (f2 != 0)) 22 (.ok (nm,vis,.mk op name s2 fr ix flag r6 l7 l8 l9 l10)))
       (cond (op == 21) (eb3 (uB p f2 f3 (lo + 1) nm vis l7) fun nm1 _ b=>.ok (nm1,vis,.mk op name s2 fr ix flag r6 b l8 l9 l10))
       (cond (op == 28) (eb3 (uI p f2 f3 (lo + 1) nm vis name s2 l7) fun nm1 _ vb=>.ok (nm1,vis,.mk op name vb.1 fr ix flag r6 vb.2 l8 l9 l10))
       (cond (op == 25) (eb3 (uI p f2 f3 lo nm vis name s2 l7) fun nm1 _ vb=>.ok (nm1,vis,.mk op name vb.1 fr ix flag r6 vb.2 l8 l9 l10))
       (cond (op == 24) (eb3 (uB p f2 f3 lo nm vis l7) fun nm1 _ b7=>eb3 (uI p f2 f3 lo nm1 vis name s2 l8) fun nm2 _ vb=>eb3 (uB p f2 f3 lo nm2 vis l9) fun nm3 _ b9=>.ok (nm3,vis,.mk op name vb.1 fr ix flag r6 b7 vb.2 b9 l10))
       (cond (op == 20 || op == 22 || op == 23 || op == 26) (eb3 (uB p f2 f3 lo nm vis l7) fun nm1 _ b7=>eb3 (uB p f2 f3 lo nm1 vis l8) fun nm2 _ b8=>.ok (nm2,vis,.mk op name s2 fr ix flag r6 b7 b8 l9 l10))
        (eb3 (cond (seq name ⟨#[]⟩) (.ok (nm,vis,s2)) (uMk nm vis name)) fun nm1 vis1 v=>uD (op != 6 || flag == 0 || decide (lo > 0)) 22 (.ok (nm1,vis1,.mk op name v fr ix flag r6 l7 l8 l9 l10)))))))))))) (szS (.mk op name s2 fr s4 flag l6 l7 l8 l9 l10)):=by
      intro ix
      unfold f39_j1
      cases h2:(op == 2) with
      | true =>
       simp only [cond_true]
       rw [R.f46]
       cases slotOf nm vis name with
       | none=>simp only [Option.bind_some,f25_eq]; exact rfl
       | some v=>simp only [Option.bind_some,f25_eq,cond_true]; exact stay _
      | false =>
       simp only [cond_false]
       have tail2 : ∀ q,q=(op == 18 || op == 19)→NN (f39_j3 k (fam39 k m) p f0 f1 f2 f3 f4 f5 nm (pre ++ [d]) lo op name s2 fr ix flag r6 l7 l8 l9 l10 q) p (.mk f0 f1 f2 f3 f4 f5) lo pre nm
         (cond (op == 18 || op == 19) (uD (decide (lo > 0)) 22 (.ok (nm,vis,.mk op name s2 fr ix flag r6 l7 l8 l9 l10)))
         (cond (op == 29) (uD f3 22 (.ok (nm,vis,.mk op name s2 fr ix flag r6 l7 l8 l9 l10)))
         (cond (op == 17) (uD ((decide (r6.length > 0)) == (f2 != 0)) 22 (.ok (nm,vis,.mk op name s2 fr ix flag r6 l7 l8 l9 l10)))
         (cond (op == 21) (eb3 (uB p f2 f3 (lo + 1) nm vis l7) fun nm1 _ b=>.ok (nm1,vis,.mk op name s2 fr ix flag r6 b l8 l9 l10))
         (cond (op == 28) (eb3 (uI p f2 f3 (lo + 1) nm vis name s2 l7) fun nm1 _ vb=>.ok (nm1,vis,.mk op name vb.1 fr ix flag r6 vb.2 l8 l9 l10))
         (cond (op == 25) (eb3 (uI p f2 f3 lo nm vis name s2 l7) fun nm1 _ vb=>.ok (nm1,vis,.mk op name vb.1 fr ix flag r6 vb.2 l8 l9 l10))
         (cond (op == 24) (eb3 (uB p f2 f3 lo nm vis l7) fun nm1 _ b7=>eb3 (uI p f2 f3 lo nm1 vis name s2 l8) fun nm2 _ vb=>eb3 (uB p f2 f3 lo nm2 vis l9) fun nm3 _ b9=>.ok (nm3,vis,.mk op name vb.1 fr ix flag r6 b7 vb.2 b9 l10))
         (cond (op == 20 || op == 22 || op == 23 || op == 26) (eb3 (uB p f2 f3 lo nm vis l7) fun nm1 _ b7=>eb3 (uB p f2 f3 lo nm1 vis l8) fun nm2 _ b8=>.ok (nm2,vis,.mk op name s2 fr ix flag r6 b7 b8 l9 l10))
          (eb3 (cond (seq name ⟨#[]⟩) (.ok (nm,vis,s2)) (uMk nm vis name)) fun nm1 vis1 v=>uD (op != 6 || flag == 0 || decide (lo > 0)) 22 (.ok (nm1,vis1,.mk op name v fr ix flag r6 l7 l8 l9 l10))))))))))) (szS (.mk op name s2 fr s4 flag l6 l7 l8 l9 l10)):=by
        rintro _ rfl
        unfold f39_j3
        cases (op == 18 || op == 19) with
        | true =>
         simp only [cond_true,f25_eq,Option.bind_some,gt_nat,uD]
         cases decide (lo > 0)
         ·exact rfl
         ·exact stay _
        | false =>
        simp only [cond_false]
        cases (op == 29) with
        | true =>
         simp only [cond_true,f25_eq,Option.bind_some,uD]
         cases f3
         ·exact rfl
         ·exact stay _
        | false =>
        simp only [cond_false]
        cases (op == 17) with
        | true =>
         simp only [cond_true,f25_eq,Option.bind_some,uD,gt_nat]
         cases (decide (r6.length > 0) == (f2 != 0))
         ·exact rfl
         ·exact stay _
        | false =>
        simp only [cond_false]
        cases (op == 21) with
        | true =>
         simp only [cond_true]
         have h:=ihlb l7 (by omega) nm vis (pre ++ [d]) lo (by omega) (by simp; omega) (by omega) R
         revert h
         cases uB p f2 f3 (lo + 1) nm vis l7 with
         | error c=>intro h; simp only [NB] at h; rw [h]; exact rfl
         | ok x =>
          obtain ⟨nm1,vis1,b⟩:=x
          rintro ⟨h,hp1,hl1⟩
          rw [h]
          exact ⟨d,rfl,R.ext hp1,hp1,by simp only [szS]; omega⟩
        | false =>
        simp only [cond_false]
        cases (op == 28) with
        | true =>
         simp only [cond_true]
         have h:=ihli l7 (by omega) name op name s2 fr ix flag r6 l7 l8 l9 l10 nm vis (pre ++ [d]) lo (by omega) (by simp; omega) (by omega) R
         revert h
         cases uI p f2 f3 (lo + 1) nm vis name s2 l7 with
         | error c=>intro h; simp only [NB] at h; rw [h]; exact rfl
         | ok x =>
          obtain ⟨nm1,vis1,v,b⟩:=x
          rintro ⟨h,hp1,hl1⟩
          rw [h]
          exact ⟨d,rfl,R.ext hp1,hp1,by simp only [szS]; omega⟩
        | false =>
        simp only [cond_false]
        cases (op == 25) with
        | true =>
         simp only [cond_true]
         have h:=ihi l7 (by omega) name op name s2 fr ix flag r6 l7 l8 l9 l10 nm vis (pre ++ [d]) lo (by omega) (by simp; omega) (by omega) R
         revert h
         cases uI p f2 f3 lo nm vis name s2 l7 with
         | error c=>intro h; simp only [NB] at h; rw [h]; exact rfl
         | ok x =>
          obtain ⟨nm1,vis1,v,b⟩:=x
          rintro ⟨h,hp1,hl1⟩
          rw [h]
          exact ⟨d,rfl,R.ext hp1,hp1,by simp only [szS]; omega⟩
        | false =>
        simp only [cond_false]
        cases (op == 24) with
        | true =>
         simp only [cond_true]
         have h:=ihb l7 (by omega) nm vis (pre ++ [d]) lo (by omega) (by simp; omega) (by omega) R
         revert h
         cases uB p f2 f3 lo nm vis l7 with
         | error c=>intro h; simp only [NB] at h; rw [h]; exact rfl
         | ok x =>
          obtain ⟨nm1,vis1,b⟩:=x
          rintro ⟨h,hp1,hl1⟩
          rw [h]
          simp only [Option.bind_some,eb3,id]
          have h:=ihi l8 (by omega) name op name s2 fr ix flag r6 b l8 l9 l10 nm1 vis (pre ++ [d]) lo (by omega) (by simp; omega) (by omega) (R.ext hp1)
          revert h
          cases uI p f2 f3 lo nm1 vis name s2 l8 with
          | error c=>intro h; simp only [NB] at h; rw [h]; exact rfl
          | ok x =>
           obtain ⟨nm2,vis2,v,b8⟩:=x
           rintro ⟨h,hp2,hl2⟩
           rw [h]
           simp only [Option.bind_some]
           have h:=ihb l9 (by omega) nm2 vis (pre ++ [d]) lo (by omega) (by simp; omega) (by omega) ((R.ext hp1).ext hp2)
           revert h
           cases uB p f2 f3 lo nm2 vis l9 with
           | error c=>intro h; simp only [NB] at h; rw [h]; exact rfl
           | ok x =>
            obtain ⟨nm3,vis3,b9⟩:=x
            rintro ⟨h,hp3,hl3⟩
            rw [h]
            exact ⟨d,rfl,((R.ext hp1).ext hp2).ext hp3,(hp1.trans hp2).trans hp3,by simp only [szS]; omega⟩
        | false =>
        simp only [cond_false]
        have tail3 : ∀ q,q=(op == 20 || op == 22 || op == 23 || op == 26)→NN (f39_j4 k (fam39 k m) p f0 f1 f2 f3 f4 f5 nm (pre ++ [d]) lo op name s2 fr ix flag r6 l7 l8 l9 l10 q) p (.mk f0 f1 f2 f3 f4 f5) lo pre nm
          (cond (op == 20 || op == 22 || op == 23 || op == 26) (eb3 (uB p f2 f3 lo nm vis l7) fun nm1 _ b7=>eb3 (uB p f2 f3 lo nm1 vis l8) fun nm2 _ b8=>.ok (nm2,vis,.mk op name s2 fr ix flag r6 b7 b8 l9 l10))
           (eb3 (cond (seq name ⟨#[]⟩) (.ok (nm,vis,s2)) (uMk nm vis name)) fun nm1 vis1 v=>uD (op != 6 || flag == 0 || decide (lo > 0)) 22 (.ok (nm1,vis1,.mk op name v fr ix flag r6 l7 l8 l9 l10)))) (szS (.mk op name s2 fr s4 flag l6 l7 l8 l9 l10)):=by
         rintro _ rfl
         unfold f39_j4
         cases (op == 20 || op == 22 || op == 23 || op == 26) with
         | true =>
          simp only [cond_true]
          have h:=ihb l7 (by omega) nm vis (pre ++ [d]) lo (by omega) (by simp; omega) (by omega) R
          revert h
          cases uB p f2 f3 lo nm vis l7 with
          | error c=>intro h; simp only [NB] at h; rw [h]; exact rfl
          | ok x =>
           obtain ⟨nm1,vis1,b⟩:=x
           rintro ⟨h,hp1,hl1⟩
           rw [h]
           simp only [Option.bind_some,eb3,id]
           have h:=ihb l8 (by omega) nm1 vis (pre ++ [d]) lo (by omega) (by simp; omega) (by omega) (R.ext hp1)
           revert h
           cases uB p f2 f3 lo nm1 vis l8 with
           | error c=>intro h; simp only [NB] at h; rw [h]; exact rfl
           | ok x =>
            obtain ⟨nm2,vis2,b8⟩:=x
            rintro ⟨h,hp2,hl2⟩
            rw [h]
            exact ⟨d,rfl,(R.ext hp1).ext hp2,hp1.trans hp2,by simp only [szS]; omega⟩
         | false =>
          simp only [cond_false]
          have fin : ∀ (nm1:List ByteArray) (vis1:List Nat) (d1:List (ByteArray × Int)) (v:Int),Rel (pre ++ [d1]) vis1 nm1→nm <+: nm1→nm1.length≤nm.length + 1 →
            NN (f39_j5 k (fam39 k m) op name fr ix flag r6 l7 l8 l9 l10 p f0 f1 f2 f3 f4 f5 nm1 (pre ++ [d1]) lo v) p (.mk f0 f1 f2 f3 f4 f5) lo pre nm
             (uD (op != 6 || flag == 0 || decide (lo > 0)) 22 (.ok (nm1,vis1,.mk op name v fr ix flag r6 l7 l8 l9 l10))) (szS (.mk op name s2 fr s4 flag l6 l7 l8 l9 l10)):=by
           intro nm1 vis1 d1 v R1 hp1 hl1
           unfold f39_j5
           simp only [f25_eq,Option.bind_some,gt_nat,uD,cond_true]
           cases (op != 6) <;> cases (flag == 0) <;> cases decide (lo > 0) <;> first | exact rfl | exact ⟨d1,rfl,R1,hp1,by simp only [szS]; omega⟩
          cases seq name ⟨#[]⟩ with
          | true =>
           simp only [Bool.not_true,cond_false,cond_true,eb3]
           exact fin nm vis d s2 R (List.prefix_refl _) (by omega)
          | false =>
           simp only [Bool.not_false,cond_true,cond_false]
           have h:=opt_make k p (.mk f0 f1 f2 f3 f4 f5) lo R name (by omega) (by omega)
           revert h
           cases uMk nm vis name with
           | error c=>intro h; simp only [NN] at h; rw [h]; exact rfl
           | ok x =>
            obtain ⟨nm1,vis1,v⟩:=x
            rintro ⟨d1,h,R1,hp1,hl1⟩
            rw [h]
            exact fin nm1 vis1 d1 v R1 hp1 hl1
        cases h20:(op == 20) <;> cases h22:(op == 22) <;> cases h23:(op == 23) <;> (have h:=tail3 _ rfl; simp only [h20,h22,h23,Bool.true_or,Bool.or_true,Bool.false_or,cond_true,cond_false] at h ⊢; exact h)
       cases h18:(op == 18) with
       | true=>simp only [cond_true,Bool.true_or]; have h:=tail2 true (by simp [h18]); simpa only [h18,Bool.true_or,cond_true] using h
       | false=>simp only [cond_false,Bool.false_or]; have h:=tail2 (op == 19) (by simp [h18]); simpa only [h18,Bool.false_or] using h
     cases hfr:seq fr ⟨#[]⟩ with
     | true =>
      simp only [Bool.not_true,cond_false,cond_true]
      exact tail s4
     | false =>
      simp only [Bool.not_false,cond_true,cond_false]
      rw [f49_eq]
      cases uCall op fr r6.length p 0 with
      | error c=>exact rfl
      | ok ix=>exact tail ix
  ·intro l hl nm vis sc lo hnm hsc hlo R
   show NB (f1004866_b k (fam39 k m) (.mk (.mk p) (.mk f0 f1 f2 f3 f4 f5) nm sc lo) ⟨#[]⟩ l) _ _ _ _ _ _ _ _
   rw [uB_eq]
   unfold f1004866_b
   simp only
   rw [guard_le (by unfold maxB; omega)]
   have hs:seq ⟨#[]⟩ ⟨#[]⟩=true:=seq_refl _
   rw [hs]
   simp only [Bool.not_true,cond_false]
   have h:=loopB l 0 [] nm vis sc [] lo (by omega) (by simp; omega) (by omega) (by omega) (by omega) R.push
   revert h
   cases uSs p f2 f3 lo nm vis l with
   | error c=>intro h; exact h
   | ok x =>
    obtain ⟨nm1,vis1,l'⟩:=x
    rintro ⟨h,hp1,hl1⟩
    exact ⟨by rw [h]; simp,hp1,by omega⟩
  ·intro l hl name s0 s1 s2 s3 s4 s5 s6 s7 s8 s9 s10 nm vis sc lo hnm hsc hlo R
   show NB (f1004815_b k (fam39 k m) (.mk (.mk p) (.mk f0 f1 f2 f3 f4 f5) nm sc lo) name l (.mk s0 s1 s2 s3 s4 s5 s6 s7 s8 s9 s10)) _ _ _ _ _ _ _ _
   rw [uI_eq]
   unfold f1004815_b f1004815_j1
   simp only
   rw [guard_le (by unfold maxB; omega)]
   cases hn:seq name ⟨#[]⟩ with
   | true =>
    simp only [Bool.not_true,cond_false,cond_true,eb3]
    have h:=loopS s0 s1 s3 s4 s5 s6 s7 s8 s9 s10 s2 l 0 [] nm vis sc [] lo (by omega) (by simp; omega) (by omega) (by omega) (by omega) R.push
    revert h
    cases uSs p f2 f3 lo nm vis l with
    | error c=>intro h; exact h
    | ok x =>
     obtain ⟨nm1,vis1,l'⟩:=x
     rintro ⟨h,hp1,hl1⟩
     exact ⟨by rw [h]; simp,hp1,by omega⟩
   | false =>
    simp only [Bool.not_false,cond_true,cond_false]
    have h:=opt_make k p (.mk f0 f1 f2 f3 f4 f5) lo R.push name (by omega) (by omega)
    revert h
    cases hu:uMk nm vis name with
    | error c=>intro h; simp only [NN] at h; rw [h]; rfl
    | ok x =>
     obtain ⟨nm1,vis1,v⟩:=x
     rintro ⟨d1,h,R1,hp1,hl1⟩
     rw [h]
     simp only [Option.bind_some,eb3]
     have h2:=loopS s0 s1 s3 s4 s5 s6 s7 s8 s9 s10 v l 0 [] nm1 vis1 sc d1 lo (by omega) (by simp; omega) (by omega) (by omega) (by omega) R1
     revert h2
     cases uSs p f2 f3 lo nm1 vis1 l with
     | error c=>intro h2; exact h2
     | ok x =>
      obtain ⟨nm2,vis2,l'⟩:=x
      rintro ⟨h2,hp2,hl2⟩
      exact ⟨by rw [h2]; simp,hp1.trans hp2,by omega⟩
  ·intro l hl name s0 s1 s2 s3 s4 nm vis sc lo hnm hsc hlo R
   show NB (f1004884_b k (fam39 k m) (.mk (.mk p) (.mk f0 f1 f2 f3 f4 f5) nm sc lo) name l (.mk s0 s1 s2 s3 s4)) _ _ _ _ _ _ _ _
   rw [uI_eq]
   unfold f1004884_b f1004884_j1
   simp only
   rw [guard_le (by unfold maxB; omega)]
   cases hn:seq name ⟨#[]⟩ with
   | true =>
    simp only [Bool.not_true,cond_false,cond_true,eb3]
    have h:=loopC s0 s1 s3 s4 s2 l 0 [] nm vis sc [] lo (by omega) (by simp; omega) (by omega) (by omega) (by omega) R.push
    revert h
    cases uSs p f2 f3 lo nm vis l with
    | error c=>intro h; exact h
    | ok x =>
     obtain ⟨nm1,vis1,l'⟩:=x
     rintro ⟨h,hp1,hl1⟩
     exact ⟨by rw [h]; simp,hp1,by omega⟩
   | false =>
    simp only [Bool.not_false,cond_true,cond_false]
    have h:=opt_make k p (.mk f0 f1 f2 f3 f4 f5) lo R.push name (by omega) (by omega)
    revert h
    cases hu:uMk nm vis name with
    | error c=>intro h; simp only [NN] at h; rw [h]; rfl
    | ok x =>
     obtain ⟨nm1,vis1,v⟩:=x
     rintro ⟨d1,h,R1,hp1,hl1⟩
     rw [h]
     simp only [Option.bind_some,eb3]
     have h2:=loopC s0 s1 s3 s4 v l 0 [] nm1 vis1 sc d1 lo (by omega) (by simp; omega) (by omega) (by omega) (by omega) R1
     revert h2
     cases uSs p f2 f3 lo nm1 vis1 l with
     | error c=>intro h2; exact h2
     | ok x =>
      obtain ⟨nm2,vis2,l'⟩:=x
      rintro ⟨h2,hp2,hl2⟩
      exact ⟨by rw [h2]; simp,hp1.trans hp2,by omega⟩
  ·intro l hl nm vis sc lo hnm hsc hlo R
   show NB (f1005066_b k (fam39 k m) (.mk (.mk p) (.mk f0 f1 f2 f3 f4 f5) nm sc lo) ⟨#[]⟩ l) _ _ _ _ _ _ _ _
   unfold f1005066_b
   simp only
   rw [w64_nat (x:=(lo:Int) + 1) (n:=lo + 1) (by omega) (by omega)]
   have h:=ihb l (by omega) nm vis sc (lo + 1) (by omega) (by omega) (by omega) R
   revert h
   cases uB p f2 f3 (lo + 1) nm vis l with
   | error c=>intro h; simp only [NB] at h; rw [h]; rfl
   | ok x =>
    obtain ⟨nm1,vis1,l'⟩:=x
    rintro ⟨h,hp1,hl1⟩
    rw [h]
    simp only [Option.bind_some]
    rw [w64_nat (x:=((lo + 1:Nat):Int) - 1) (n:=lo) (by omega) (by omega)]
    exact ⟨rfl,hp1,hl1⟩
  ·intro l hl name s0 s1 s2 s3 s4 s5 s6 s7 s8 s9 s10 nm vis sc lo hnm hsc hlo R
   show NB (f1005015_b k (fam39 k m) (.mk (.mk p) (.mk f0 f1 f2 f3 f4 f5) nm sc lo) name l (.mk s0 s1 s2 s3 s4 s5 s6 s7 s8 s9 s10)) _ _ _ _ _ _ _ _
   unfold f1005015_b
   simp only
   rw [w64_nat (x:=(lo:Int) + 1) (n:=lo + 1) (by omega) (by omega)]
   have h:=ihi l (by omega) name s0 s1 s2 s3 s4 s5 s6 s7 s8 s9 s10 nm vis sc (lo + 1) (by omega) (by omega) (by omega) R
   revert h
   cases uI p f2 f3 (lo + 1) nm vis name s2 l with
   | error c=>intro h; simp only [NB] at h; rw [h]; rfl
   | ok x =>
    obtain ⟨nm1,vis1,l'⟩:=x
    rintro ⟨h,hp1,hl1⟩
    rw [h]
    simp only [Option.bind_some]
    rw [w64_nat (x:=((lo + 1:Nat):Int) - 1) (n:=lo) (by omega) (by omega)]
    exact ⟨rfl,hp1,hl1⟩
def uPs:List ByteArray→List Nat→List DParam→Ex (List ByteArray × List Nat × Unit)
 | nm,vis,[]=>.ok (nm,vis,())
 | nm,vis,.mk a _ :: l=>eb3 (uMk nm vis a) fun nm1 vis1 _=>uPs nm1 vis1 l
def uF (fs:List DFunc):DFunc→Ex (DFunc × List ByteArray)
 | .mk n ps res fl _ b=>eb3 (uPs [] [] ps) fun nm vis _=>eb3 (uSs fs res fl 0 nm vis b) fun nm1 _ b'=>uD (decide (nm1.length≤32)) 5 (.ok (.mk n ps res fl (nm1.length:Int) b',nm1))
def uFs (fs:List DFunc):List DFunc→Ex (List DFunc × List (List ByteArray))
 | []=>.ok ([],[])
 | f :: l=>eb (uF fs f) fun x=>eb (uFs fs l) fun y=>.ok (x.1 :: y.1,x.2 :: y.2)
def nameF:DFunc→ByteArray | .mk n _ _ _ _ _=>n
def hasF (a:ByteArray):List DFunc→Bool
 | []=>false
 | f :: l=>seq (nameF f) a || hasF a l
def dupF:List DFunc→List DFunc→Bool
 | _,[]=>false
 | pre,f :: l=>hasF (nameF f) pre || dupF (pre ++ [f]) l
def uP:DProgram→Ex (DProgram × List (List ByteArray))
 | .mk fs=>uD (wf false (.mk fs)) 2 (uD (!dupF [] fs) 21 (uD (decide (f16_l2 fs=0)) (f16_l2 fs) (eb (uFs fs fs) fun x=>.ok (.mk x.1,x.2))))
theorem szSs_bound {z:Bool} : ∀ {l:List DFunc} {f:DFunc},f ∈ l→cnFs l≤600→gFs z l=true→(match f with | .mk n ps res fl v b=>szSs b≤600∧ps.length≤4∧gSs z b 1=true)
 | .mk n ps res fl v b :: l,f,hf,hc,hg=>by
  simp only [cnFs,cnF] at hc
  simp only [gFs,headF,Bool.and_eq_true,decide_eq_true_eq] at hg
  rcases List.mem_cons.1 hf with rfl | h
  ·exact ⟨by omega,hg.1.1.1.1.1.2,hg.2.2.1⟩
  ·exact szSs_bound h (by omega) hg.2.2.2
theorem f30_l1_eq (k:Nat) (p:List DFunc) (n:ByteArray) (ps0:List DParam) (res:Int) (fl:Bool) (v:Int) (b0 b:List DStmt) (g1:List DParam) : ∀ (ps:List DParam) (i:Nat) (nm:List ByteArray) (vis:List Nat) (d:List (ByteArray × Int)),nm.length + ps.length≤1000→Rel ([] ++ [d]) vis nm →
  match uPs nm vis ps with
  | .error c=>f30_l1 k n g1 res fl b ps i p n ps0 res fl v b0 nm ([] ++ [d]) 0=some (.error c)
  | .ok (nm',vis',_)=>∃ d' j,f30_l1 k n g1 res fl b ps i p n ps0 res fl v b0 nm ([] ++ [d]) 0=f30_l1 k n g1 res fl b [] j p n ps0 res fl v b0 nm' ([] ++ [d']) 0∧Rel ([] ++ [d']) vis' nm'∧nm'.length≤nm.length + ps.length
 | [],i,nm,vis,d,hn,R=>⟨d,i,rfl,R,by simp⟩
 | .mk a kd :: ps,i,nm,vis,d,hn,R=>by
  simp only [List.length_cons] at hn
  have h:=opt_make k p (.mk n ps0 res fl v b0) 0 R a (by omega) (by simp)
  unfold uPs
  revert h
  cases uMk nm vis a with
  | error c =>
   intro h
   simp only [NN] at h
   unfold f30_l1
   simp only [eb3]
   rw [show f37 k (.mk (.mk p) (.mk n ps0 res fl v b0) nm ([] ++ [d]) 0) a=some (.error c) from h]
   rfl
  | ok x =>
   obtain ⟨nm1,vis1,w⟩:=x
   rintro ⟨d1,h,R1,hp,hl⟩
   simp only [eb3]
   have ih:=f30_l1_eq k p n ps0 res fl v b0 b g1 ps (i + 1) nm1 vis1 d1 (by omega) R1
   have e:f30_l1 k n g1 res fl b (.mk a kd :: ps) i p n ps0 res fl v b0 nm ([] ++ [d]) 0=f30_l1 k n g1 res fl b ps (i + 1) p n ps0 res fl v b0 nm1 ([] ++ [d1]) 0:=by
    conv=>lhs; unfold f30_l1
    rw [show f37 k (.mk (.mk p) (.mk n ps0 res fl v b0) nm ([] ++ [d]) 0) a=some (.ok (.mk (.mk p) (.mk n ps0 res fl v b0) nm1 ([] ++ [d1]) 0,w)) from h]
    rfl
   revert ih
   cases uPs nm1 vis1 ps with
   | error c=>intro ih; rw [e]; exact ih
   | ok x =>
    obtain ⟨nm2,vis2,u⟩:=x
    rintro ⟨d2,j,h2,R2,hl2⟩
    exact ⟨d2,j,by rw [e]; exact h2,R2,by simp only [List.length_cons]; omega⟩
theorem f30_l2_eq (k:Nat) (p:List DFunc) (n:ByteArray) (ps0:List DParam) (res:Int) (fl:Bool) (v:Int) (b0:List DStmt) (g1:List DParam) : ∀ (l:List DStmt) (i:Nat) (xs:List DStmt) (nm:List ByteArray) (vis:List Nat) (d:List (ByteArray × Int)),4 * szSs l≤k→xs.length + szSs l≤100000→nm.length + szSs l≤100000→Rel ([] ++ [d]) vis nm →
  f30_l2 k n res fl g1 l i p n ps0 res fl v b0 nm ([] ++ [d]) 0 xs=some (eb3 (uSs p res fl 0 nm vis l) fun nm1 _ b'=>uD (decide (nm1.length≤32)) 5 (.ok (.mk n g1 res fl (nm1.length:Int) (xs ++ b'),nm1)))
 | [],i,xs,nm,vis,d,hm,hx,hn,R=>by
  unfold f30_l2 f30_j1
  rw [uSs]
  have e:decide ((nm.length:Int)≤32)=decide (nm.length≤32):=by rw [decide_eq_decide]; omega
  simp only [f25_eq,Option.bind_some,eb3,e,uD,List.append_nil]
  cases decide (nm.length≤32) <;> rfl
 | s :: l,i,xs,nm,vis,d,hm,hx,hn,R=>by
  simp only [szSs] at hm hx hn
  have hp0:=szS_pos s
  obtain ⟨e0,e1,e2,e3,e4,e5,e6,e7,e8,e9,e10⟩:=s
  unfold f30_l2
  rw [uSs]
  have h:=(nR k p n ps0 res fl v b0 k (Nat.le_refl k)).1 (.mk e0 e1 e2 e3 e4 e5 e6 e7 e8 e9 e10) (by omega) nm vis [] d 0 (by omega) (by simp; omega) (by omega) R
  rw [show (fam39 k k).f39=f39 k from rfl,show (((0:Nat):Int))=0 from rfl] at h
  revert h
  cases uS p res fl 0 nm vis (.mk e0 e1 e2 e3 e4 e5 e6 e7 e8 e9 e10) with
  | error c=>intro h; simp only [NN] at h; rw [h]; rfl
  | ok x =>
   obtain ⟨nm1,vis1,s'⟩:=x
   rintro ⟨d1,h,R1,hp,hl⟩
   rw [h]
   obtain ⟨r0,r1,r2,r3,r4,r5,r6,r7,r8,r9,r10⟩:=s'
   simp only [Option.bind_some,eb3]
   rw [guard_le (by unfold maxB; omega)]
   refine (f30_l2_eq k p n ps0 res fl v b0 g1 l (i + 1) (xs ++ [.mk r0 r1 r2 r3 r4 r5 r6 r7 r8 r9 r10]) nm1 vis1 d1 (by omega) (by rw [app_len]; omega) (by omega) R1).trans ?_
   cases uSs p res fl 0 nm1 vis1 l with
   | error c=>rfl
   | ok x=>simp [eb3]
theorem f30_eq (k:Nat) (p:List DFunc) (f:DFunc) (h:match f with | .mk n ps res fl v b=>szSs b≤600∧ps.length≤4∧gSs false b 1=true) (hk:4 * 600≤k):f30 k (.mk p) f=some (uF p f):=by
 obtain ⟨n,ps,res,fl,v,b⟩:=f
 obtain ⟨h1,h2,h3⟩:=h
 unfold f30 f30_b uF
 simp only
 have R0:Rel ([] ++ [[]]) [] []:=⟨fun a=>rfl,fun v hv=>by cases hv⟩
 have h:=f30_l1_eq k p n ps res fl v b b ps ps 0 [] [] [] (by simp; omega) R0
 revert h
 cases uPs [] [] ps with
 | error c=>intro h; exact h
 | ok x =>
  obtain ⟨nm,vis,u⟩:=x
  rintro ⟨d,j,h,R,hl⟩
  refine (h:f30_l1 k n ps res fl b ps 0 p n ps res fl v b [] [[]] 0=_).trans ?_
  unfold f30_l1 f38
  rw [guard_le (by unfold maxB; omega)]
  simp only [Option.bind_some,eb3]
  exact f30_l2_eq k p n ps res fl v b ps b 0 [] nm vis d (by omega) (by simp; omega) (by simp at hl; omega) R
theorem f1002804_eq (k:Nat) (l:List DFunc) (f:DFunc):f1002804 k l f=some (hasF (nameF f) l):=by
 obtain ⟨n,ps,res,fl,v,b⟩:=f
 have h : ∀ (l:List DFunc) (i:Nat),(f1003604_l1 k n ps res fl v b l i).bind (fun r=>some (decide (r ≥ 0)))=some (hasF n l):=by
  intro l
  induction l with
  | nil=>intro i; rfl
  | cons e l ih =>
   intro i
   obtain ⟨e0,e1,e2,e3,e4,e5⟩:=e
   unfold f1003604_l1 f1002949 f1002949_b hasF
   simp only [Option.bind_some,nameF]
   rw [seq_comm n e0]
   cases seq e0 n with
   | true=>simp
   | false=>simpa using ih (i + 1)
 unfold f1002804 f1002804_b f1003604 f1003604_b
 exact h l 0
theorem f16_l1_eq (k:Nat) : ∀ (rest pre:List DFunc),f16_l1 k (pre ++ rest) rest pre.length=some (cond (dupF pre rest) (.error 21) (.ok ()))
 | [],pre=>rfl
 | f :: rest,pre=>by
  unfold f16_l1 dupF
  have e:(pre ++ f :: rest).take pre.length=pre:=by simp
  rw [e,f1002804_eq]
  simp only [Option.bind_some,f25_eq]
  cases hasF (nameF f) pre with
  | true=>rfl
  | false =>
   have ih:=f16_l1_eq k rest (pre ++ [f])
   rw [app_len,List.append_assoc,List.singleton_append] at ih
   simpa using ih
theorem f16_l3_eq (k:Nat) (p:List DFunc) (hk:4 * 600≤k) : ∀ (rest:List DFunc) (out:List DFunc) (names:List (List ByteArray)),(∀ f ∈ rest,match f with | .mk n ps res fl v b=>szSs b≤600∧ps.length≤4∧gSs false b 1=true) →
  f16_l3 k (.mk p) rest out names=some (eb (uFs p rest) fun x=>.ok (.mk (out ++ x.1),names ++ x.2))
 | [],out,names,h=>by simp [f16_l3,uFs,eb]
 | f :: rest,out,names,h=>by
  unfold f16_l3 uFs
  rw [f30_eq k p f (h f (by simp)) hk]
  cases uF p f with
  | error c=>rfl
  | ok x =>
   simp only [Option.bind_some,eb]
   rw [f16_l3_eq k p hk rest (out ++ [x.1]) (names ++ [x.2]) (fun g hg=>h g (by simp [hg]))]
   cases uFs p rest with
   | error c=>rfl
   | ok y=>simp [eb]
theorem f16_eq (k:Nat) (p:DProgram) (hk:2 * szP p + 1≤k) (hk2:4 * 600≤k):f16 k p=some (uP p):=by
 have h78:=f26_eq k p false hk
 obtain ⟨fs⟩:=p
 unfold f16 uP
 simp only [h78,Option.bind_some,f25_eq]
 cases hw:wf false (.mk fs) with
 | false=>rfl
 | true =>
  simp only [wf,Bool.and_eq_true,decide_eq_true_eq] at hw
  have h1:=f16_l1_eq k fs []
  simp only [List.nil_append,List.length_nil] at h1
  simp only [cond_true,h1,Option.bind_some,uD]
  cases dupF [] fs with
  | true=>rfl
  | false =>
   simp only [cond_false,cond_true,Bool.not_false,f25_eq,Option.bind_some]
   cases decide (f16_l2 fs=0) with
   | false=>rfl
   | true =>
    simp only [cond_true]
    rw [f16_l3_eq k fs hk2 fs [] [] (fun f hf=>szSs_bound hf hw.2 hw.1.2)]
    rfl
theorem eb_ok {α β:Type} {u:Ex α} {f:α→Ex β} {y:β} (h:eb u f=.ok y) : ∃ x,u=.ok x∧f x=.ok y:=by
 cases u with
 | error c=>cases h
 | ok x=>exact ⟨x,rfl,h⟩
theorem eb3_ok {α β:Type} {u:Ex (List ByteArray × List Nat × α)} {f:List ByteArray→List Nat→α→Ex β} {y:β} (h:eb3 u f=.ok y) : ∃ a b x,u=.ok (a,b,x)∧f a b x=.ok y:=by
 cases u with
 | error c=>cases h
 | ok x=>exact ⟨x.1,x.2.1,x.2.2,rfl,h⟩
theorem uD_ok {α:Type} {b:Bool} {c:Int} {x:Ex α} {y:α} (h:uD b c x=.ok y):b=true∧x=.ok y:=by
 cases b with
 | false=>cases h
 | true=>exact ⟨rfl,h⟩
mutual
theorem stE_id : ∀ e a,gE false e a=true→stE e=e
 | .mk op num txt slot l,a,h=>by
  simp only [gE,Bool.and_eq_true,Bool.false_or,beq_iff_eq] at h
  simp only [stE,stEs_id l _ h.2,h.1.1.2]
theorem stEs_id : ∀ l a,gEs false l a=true→stEs l=l
 | [],a,h=>rfl
 | e :: l,a,h=>by
  simp only [gEs,Bool.and_eq_true] at h
  simp only [stEs,stE_id e a h.1,stEs_id l a h.2]
end
mutual
theorem stS_id : ∀ s a,gS false s a=true→stS s=s
 | .mk op name s2 fr s4 flag l6 l7 l8 l9 l10,a,h=>by
  simp only [gS,Bool.and_eq_true,Bool.false_or,beq_iff_eq] at h
  obtain ⟨⟨⟨_,h2,h4⟩,_⟩,h6,h7,h8,h9,h10⟩:=h
  simp only [stS,stEs_id l6 _ h6,stSs_id l7 _ h7,stSs_id l8 _ h8,stSs_id l9 _ h9,stCs_id l10 _ h10,h2,h4]
theorem stSs_id : ∀ l a,gSs false l a=true→stSs l=l
 | [],a,h=>rfl
 | e :: l,a,h=>by
  simp only [gSs,Bool.and_eq_true] at h
  simp only [stSs,stS_id e a h.1,stSs_id l a h.2]
theorem stC_id : ∀ c a,gC false c a=true→stC c=c
 | .mk kind name slot es b,a,h=>by
  simp only [gC,Bool.and_eq_true,Bool.false_or,beq_iff_eq] at h
  obtain ⟨⟨⟨_,h2⟩,_⟩,h6,h7⟩:=h
  simp only [stC,stEs_id es _ h6,stSs_id b _ h7,h2]
theorem stCs_id : ∀ l a,gCs false l a=true→stCs l=l
 | [],a,h=>rfl
 | .mk k nm s es b :: l,a,h=>by
  simp only [gCs,Bool.and_eq_true] at h
  simp only [stCs,stC_id _ a h.1.2,stCs_id l a h.2]
end
mutual
theorem stE_u {nm:List ByteArray} {vis:List Nat} : ∀ e a e',gE false e a=true→uE nm vis e=.ok e'→stE e'=e
 | .mk op num txt slot l,a,e',h,hu=>by
  simp only [gE,Bool.and_eq_true,Bool.false_or,beq_iff_eq] at h
  obtain ⟨⟨⟨_,rfl⟩,_⟩,hl⟩:=h
  unfold uE at hu
  revert hu
  cases h1:uEs nm vis l with
  | error c=>intro hu; cases hu
  | ok l' =>
   have h2:=stEs_u l _ l' hl h1
   cases op == 4 with
   | false=>intro hu; cases hu; simp only [stE,h2]
   | true =>
    cases slotOf nm vis txt with
    | none=>intro hu; cases hu
    | some v=>intro hu; cases hu; simp only [stE,h2]
theorem stEs_u {nm:List ByteArray} {vis:List Nat} : ∀ l a l',gEs false l a=true→uEs nm vis l=.ok l'→stEs l'=l
 | [],a,l',h,hu=>by cases hu; rfl
 | e :: l,a,l',h,hu=>by
  simp only [gEs,Bool.and_eq_true] at h
  unfold uEs at hu
  revert hu
  cases h1:uE nm vis e with
  | error c=>intro hu; cases hu
  | ok e1 =>
   cases h2:uEs nm vis l with
   | error c=>intro hu; cases hu
   | ok l1=>intro hu; cases hu; simp only [stEs,stE_u e a e1 h.1 h1,stEs_u l a l1 h.2 h2]
end
section
variable (fs:List DFunc) (f2:Int) (f3:Bool)
theorem stS_u : ∀ n:Nat,
  (∀ s,szS s≤n→∀ a lo nm vis r,gS false s a=true→uS fs f2 f3 lo nm vis s=.ok r→stS r.2.2=s) ∧
  (∀ l,szSs l≤n→∀ a lo nm vis r,gSs false l a=true→uSs fs f2 f3 lo nm vis l=.ok r→stSs r.2.2=l) ∧
  (∀ c,szC c≤n→∀ a lo nm vis r,gC false c a=true→uC fs f2 f3 lo nm vis c=.ok r→stC r.2.2=c) ∧
  (∀ l,szCs l≤n→∀ a lo nm vis r,gCs false l a=true→uCs fs f2 f3 lo nm vis l=.ok r→stCs r.2.2=l)
 | 0=>by
  refine ⟨fun s h=>?_,fun l h=>?_,fun c h=>?_,fun l h=>?_⟩
  ·have:=szS_pos s; omega
  ·cases l with
   | nil=>intro a lo nm vis r _ h; simp only [uSs] at h; cases h; rfl
   | cons s l=>have:=szS_pos s; simp only [szSs] at h; omega
  ·have:=szC_pos c; omega
  ·cases l with
   | nil=>intro a lo nm vis r _ h; simp only [uCs] at h; cases h; rfl
   | cons s l=>have:=szC_pos s; simp only [szCs] at h; omega
 | n + 1=>by
  obtain ⟨i1,i2,i3,i4⟩:=stS_u n
  have a1 : ∀ s,szS s≤n + 1→∀ a lo nm vis r,gS false s a=true→uS fs f2 f3 lo nm vis s=.ok r→stS r.2.2=s:=by
   rintro ⟨op,name,s2,fr,s4,flag,l6,l7,l8,l9,l10⟩ h a lo nm vis r hg hu
   simp only [szS] at h
   simp only [gS,Bool.and_eq_true,Bool.false_or,beq_iff_eq] at hg
   obtain ⟨⟨⟨_,rfl,rfl⟩,_⟩,g6,g7,g8,g9,g10⟩:=hg
   have d6:=stEs_id l6 _ g6
   have d7:=stSs_id l7 _ g7
   have d8:=stSs_id l8 _ g8
   have d9:=stSs_id l9 _ g9
   have d10:=stCs_id l10 _ g10
   have h7:=fun lo nm vis r=>i2 l7 (by omega) _ lo nm vis r g7
   have h8:=fun lo nm vis r=>i2 l8 (by omega) _ lo nm vis r g8
   have h9:=fun lo nm vis r=>i2 l9 (by omega) _ lo nm vis r g9
   have h10:=fun lo nm vis r=>i4 l10 (by omega) _ lo nm vis r g10
   simp only [uS,uB_eq,uI_eq] at hu
   obtain ⟨r6,h6,hu⟩:=eb_ok hu
   have e6:=stEs_u l6 _ r6 g6 h6
   clear i1 i2 i3 i4
   revert hu
   cases op == 27 with
   | true =>
    intro hu
    obtain ⟨nm1,v1,cs,h1,hu⟩:=eb3_ok hu
    cases hu
    simp only [stS,e6,d7,d8,d9,h10 _ _ _ _ h1]
   | false =>
   intro hu
   obtain ⟨ix,_,hu⟩:=eb_ok hu
   revert hu
   cases op == 2 with
   | true =>
    cases slotOf nm vis name with
    | none=>intro hu; cases hu
    | some v=>intro hu; cases hu; simp only [stS,e6,d7,d8,d9,d10]
   | false =>
   cases op == 18 || op == 19 with
   | true=>intro hu; obtain ⟨_,hu⟩:=uD_ok hu; cases hu; simp only [stS,e6,d7,d8,d9,d10]
   | false =>
   cases op == 29 with
   | true=>intro hu; obtain ⟨_,hu⟩:=uD_ok hu; cases hu; simp only [stS,e6,d7,d8,d9,d10]
   | false =>
   cases op == 17 with
   | true=>intro hu; obtain ⟨_,hu⟩:=uD_ok hu; cases hu; simp only [stS,e6,d7,d8,d9,d10]
   | false =>
   cases op == 21 with
   | true =>
    intro hu
    obtain ⟨nm1,v1,b,h1,hu⟩:=eb3_ok hu
    cases hu
    obtain ⟨nm2,v2,b2,h2,h1⟩:=eb3_ok h1
    cases h1
    simp only [stS,e6,h7 _ _ _ _ h2,d8,d9,d10]
   | false =>
   cases op == 28 with
   | true =>
    intro hu
    obtain ⟨nm1,v1,b,h1,hu⟩:=eb3_ok hu
    cases hu
    obtain ⟨nm2,v2,b2,h2,h1⟩:=eb3_ok h1
    obtain ⟨nm3,v3,b3,h3,h1⟩:=eb3_ok h1
    cases h1
    simp only [stS,e6,h7 _ _ _ _ h3,d8,d9,d10]
   | false =>
   cases op == 25 with
   | true =>
    intro hu
    obtain ⟨nm1,v1,b,h1,hu⟩:=eb3_ok hu
    cases hu
    obtain ⟨nm2,v2,b2,h2,h1⟩:=eb3_ok h1
    obtain ⟨nm3,v3,b3,h3,h1⟩:=eb3_ok h1
    cases h1
    simp only [stS,e6,h7 _ _ _ _ h3,d8,d9,d10]
   | false =>
   cases op == 24 with
   | true =>
    intro hu
    obtain ⟨nm1,v1,b,h1,hu⟩:=eb3_ok hu
    obtain ⟨nm2,v2,b2,h2,h1⟩:=eb3_ok h1
    cases h1
    obtain ⟨nm1,v1,b,h1,hu⟩:=eb3_ok hu
    obtain ⟨nm2,v2,b3,h4,h1⟩:=eb3_ok h1
    obtain ⟨nm3,v3,b4,h3,h1⟩:=eb3_ok h1
    cases h1
    obtain ⟨nm1,v1,b,h1,hu⟩:=eb3_ok hu
    obtain ⟨nm2,v2,b5,h5,h1⟩:=eb3_ok h1
    cases h1
    cases hu
    simp only [stS,e6,h7 _ _ _ _ h2,h8 _ _ _ _ h3,h9 _ _ _ _ h5,d10]
   | false =>
   cases op == 20 || op == 22 || op == 23 || op == 26 with
   | true =>
    intro hu
    obtain ⟨nm1,v1,b,h1,hu⟩:=eb3_ok hu
    obtain ⟨nm2,v2,b2,h2,h1⟩:=eb3_ok h1
    cases h1
    obtain ⟨nm1,v1,b,h1,hu⟩:=eb3_ok hu
    obtain ⟨nm2,v2,b3,h4,h1⟩:=eb3_ok h1
    cases h1
    cases hu
    simp only [stS,e6,h7 _ _ _ _ h2,h8 _ _ _ _ h4,d9,d10]
   | false =>
    intro hu
    obtain ⟨nm1,v1,b,h1,hu⟩:=eb3_ok hu
    obtain ⟨_,hu⟩:=uD_ok hu
    cases hu
    simp only [stS,e6,d7,d8,d9,d10]
  have a3 : ∀ c,szC c≤n + 1→∀ a lo nm vis r,gC false c a=true→uC fs f2 f3 lo nm vis c=.ok r→stC r.2.2=c:=by
   rintro ⟨kind,name,slot,es,b⟩ h a lo nm vis r hg hu
   simp only [szC] at h
   simp only [gC,Bool.and_eq_true,Bool.false_or,beq_iff_eq] at hg
   obtain ⟨⟨⟨_,rfl⟩,_⟩,g6,g7⟩:=hg
   simp only [uC,uI_eq] at hu
   obtain ⟨r6,h6,hu⟩:=eb_ok hu
   obtain ⟨nm1,v1,vb,h1,hu⟩:=eb3_ok hu
   obtain ⟨nm2,v2,b2,h2,h1⟩:=eb3_ok h1
   obtain ⟨nm3,v3,b3,h3,h1⟩:=eb3_ok h1
   cases h1
   cases hu
   simp only [stC,stEs_u es _ r6 g6 h6,i2 b (by omega) _ _ _ _ _ g7 h3]
  have a2 : ∀ l,szSs l≤n + 1→∀ a lo nm vis r,gSs false l a=true→uSs fs f2 f3 lo nm vis l=.ok r→stSs r.2.2=l:=by
   intro l
   induction l with
   | nil=>intro h a lo nm vis r _ hu; simp only [uSs] at hu; cases hu; rfl
   | cons s l ih =>
    intro h a lo nm vis r hg hu
    simp only [szSs] at h
    simp only [gSs,Bool.and_eq_true] at hg
    simp only [uSs] at hu
    obtain ⟨nm1,v1,x,h1,hu⟩:=eb3_ok hu
    obtain ⟨nm2,v2,y,h2,hu⟩:=eb3_ok hu
    cases hu
    simp only [stSs,a1 s (by omega) _ _ _ _ _ hg.1 h1,ih (by omega) _ _ _ _ _ hg.2 h2]
  have a4 : ∀ l,szCs l≤n + 1→∀ a lo nm vis r,gCs false l a=true→uCs fs f2 f3 lo nm vis l=.ok r→stCs r.2.2=l:=by
   intro l
   induction l with
   | nil=>intro h a lo nm vis r _ hu; simp only [uCs] at hu; cases hu; rfl
   | cons s l ih =>
    intro h a lo nm vis r hg hu
    obtain ⟨kind,name,slot,es,b⟩:=s
    simp only [szCs] at h
    simp only [gCs,Bool.and_eq_true] at hg
    simp only [uCs] at hu
    obtain ⟨nm1,v1,x,h1,hu⟩:=eb3_ok hu
    obtain ⟨nm2,v2,y,h2,hu⟩:=eb3_ok hu
    cases hu
    simp only [stCs,a3 _ (by omega) _ _ _ _ _ hg.1.2 h1,ih (by omega) _ _ _ _ _ hg.2 h2]
  exact ⟨a1,a2,a3,a4⟩
end
theorem okWf {fs:List DFunc} (h:wf false (.mk fs)=true):gFs false fs=true:=by
 simp only [wf,Bool.and_eq_true] at h
 exact h.1.2
theorem stF_u (fs:List DFunc) : ∀ (l q:List DFunc) (nl:List (List ByteArray)),gFs false l=true→uFs fs l=.ok (q,nl)→stFs q=l
 | [],q,nl,hg,hu=>by cases hu; rfl
 | .mk n ps res fl v b :: l,q,nl,hg,hu=>by
  simp only [gFs,headF,Bool.and_eq_true,Bool.false_or,beq_iff_eq] at hg
  unfold uFs at hu
  obtain ⟨x,h1,hu⟩:=eb_ok hu
  obtain ⟨y,h2,hu⟩:=eb_ok hu
  cases hu
  unfold uF at h1
  obtain ⟨nm,vis,_,h3,h1⟩:=eb3_ok h1
  obtain ⟨nm1,vis1,b',h4,h1⟩:=eb3_ok h1
  obtain ⟨_,h1⟩:=uD_ok h1
  cases h1
  obtain ⟨⟨⟨⟨⟨_,hv⟩,_⟩,_⟩,_⟩,_,hb,hl⟩:=hg
  have e1:=(stS_u fs res fl (szSs b)).2.1 b (Nat.le_refl _) 1 0 nm vis _ hb h4
  simp only [stFs,stF,hv,stF_u fs l _ _ hl h2]
  simp only at e1
  rw [e1]
theorem uP_ok {fs:List DFunc} {q:DProgram} {nl:List (List ByteArray)} (h:uP (.mk fs)=.ok (q,nl)):wf false (.mk fs)=true∧dupF [] fs=false∧f16_l2 fs=0∧∃ x,q=.mk x∧uFs fs fs=.ok (x,nl):=by
 unfold uP at h
 obtain ⟨h1,h⟩:=uD_ok h
 obtain ⟨h2,h⟩:=uD_ok h
 obtain ⟨h3,h⟩:=uD_ok h
 obtain ⟨x,h4,h⟩:=eb_ok h
 cases h
 exact ⟨h1,by simpa using h2,by simpa using h3,x.1,rfl,h4⟩
theorem stP_u (p q:DProgram) (nl:List (List ByteArray)) (h:uP p=.ok (q,nl)):stP q=p:=by
 obtain ⟨fs⟩:=p
 obtain ⟨h1,h2,h3,x,rfl,h4⟩:=uP_ok h
 simp only [stP,stF_u fs fs x nl (okWf h1) h4]
theorem wf_u {p q:DProgram} {nl:List (List ByteArray)} (h:uP p=.ok (q,nl)):wf true q=true:=by
 have e:=stP_u p q nl h
 obtain ⟨fs⟩:=p
 rw [← wf_st,e]
 exact (uP_ok h).1
end Go.Proofs.YtoajecnoffhlbaaDoor
namespace Go.Proofs.YtoajecnoffhlbaaDoor
open Go
def Nz {α:Type} (u:Ex α):Prop:=∀ c,u=.error c→c ≠ 0
theorem Nz.ok {α:Type} (x:α):Nz (.ok x:Ex α):=fun c h=>by cases h
theorem Nz.er {α:Type} {c:Int} (h:c ≠ 0):Nz (.error c:Ex α):=fun c' h'=>by cases h'; exact h
theorem Nz.eb {α β:Type} {u:Ex α} {f:α→Ex β} (h:Nz u) (hf : ∀ x,Nz (f x)):Nz (eb u f):=by
 cases u with
 | error c=>intro c' h'; cases h'; exact h c rfl
 | ok x=>exact hf x
theorem Nz.eb3 {α β:Type} {u:Ex (List ByteArray × List Nat × α)} {f:List ByteArray→List Nat→α→Ex β} (h:Nz u) (hf : ∀ a b x,Nz (f a b x)):Nz (eb3 u f):=by
 cases u with
 | error c=>intro c' h'; cases h'; exact h c rfl
 | ok x=>exact hf x.1 x.2.1 x.2.2
theorem Nz.uD {α:Type} {b:Bool} {c:Int} {x:Ex α} (hc:c ≠ 0) (h:Nz x):Nz (uD b c x):=by
 cases b with
 | false=>exact .er hc
 | true=>exact h
theorem Nz.cond {α:Type} {b:Bool} {u v:Ex α} (h:Nz u) (h' : Nz v):Nz (cond b u v):=by
 cases b
 ·exact h'
 ·exact h
theorem Nz.uMk {nm:List ByteArray} {vis:List Nat} {a:ByteArray}:Nz (uMk nm vis a):=by
 unfold Go.Proofs.YtoajecnoffhlbaaDoor.uMk
 cases slotOf nm vis a with
 | none=>exact .ok _
 | some v=>exact .er (by decide)
theorem Nz.uCall {op:Int} {fr:ByteArray} {na:Nat} : ∀ {l:List DFunc} {i:Nat},Nz (uCall op fr na l i)
 | [],i=>.er (by decide)
 | .mk nm ps r fl v b :: l,i=>by
  unfold Go.Proofs.YtoajecnoffhlbaaDoor.uCall
  exact .cond (.cond (.cond (.ok _) (.er (by decide))) (.er (by decide))) .uCall
theorem Nz.uEs {nm:List ByteArray} {vis:List Nat} {l:List DExpr}:Nz (uEs nm vis l):=fun c h=>by rw [uEs_20 h]; decide
section
variable (fs:List DFunc) (f2:Int) (f3:Bool)
theorem uS_nz : ∀ n:Nat,
  (∀ s,szS s≤n→∀ lo nm vis,Nz (uS fs f2 f3 lo nm vis s)) ∧
  (∀ l,szSs l≤n→∀ lo nm vis,Nz (uSs fs f2 f3 lo nm vis l)) ∧
  (∀ c,szC c≤n→∀ lo nm vis,Nz (uC fs f2 f3 lo nm vis c)) ∧
  (∀ l,szCs l≤n→∀ lo nm vis,Nz (uCs fs f2 f3 lo nm vis l))
 | 0=>by
  refine ⟨fun s h=>?_,fun l h=>?_,fun c h=>?_,fun l h=>?_⟩
  ·have:=szS_pos s; omega
  ·cases l with
   | nil=>intro lo nm vis; simp only [uSs]; exact .ok _
   | cons s l=>have:=szS_pos s; simp only [szSs] at h; omega
  ·have:=szC_pos c; omega
  ·cases l with
   | nil=>intro lo nm vis; simp only [uCs]; exact .ok _
   | cons s l=>have:=szC_pos s; simp only [szCs] at h; omega
 | n + 1=>by
  obtain ⟨i1,i2,i3,i4⟩:=uS_nz n
  have a1 : ∀ s,szS s≤n + 1→∀ lo nm vis,Nz (uS fs f2 f3 lo nm vis s):=by
   rintro ⟨op,name,s2,fr,s4,flag,l6,l7,l8,l9,l10⟩ h lo nm vis
   simp only [szS] at h
   have h7:=i2 l7 (by omega)
   have h8:=i2 l8 (by omega)
   have h9:=i2 l9 (by omega)
   have h10:=i4 l10 (by omega)
   simp only [uS,uB_eq,uI_eq]
   have hmk : ∀ nm vis,Nz (cond (seq name ⟨#[]⟩) (.ok (nm,vis,s2)) (uMk nm vis name):Ex (List ByteArray × List Nat × Int)):=fun nm vis=>.cond (.ok _) .uMk
   refine .eb .uEs fun r6=>.cond (.eb3 (h10 _ _ _) fun _ _ _=>.ok _) (.eb (.cond (.ok _) .uCall) fun ix=>?_)
   refine .cond ?_ (.cond (.uD (by decide) (.ok _)) (.cond (.uD (by decide) (.ok _)) (.cond (.uD (by decide) (.ok _)) (.cond (.eb3 (.eb3 (h7 _ _ _) fun _ _ _=>.ok _) fun _ _ _=>.ok _) ?_))))
   ·cases slotOf nm vis name with
    | none=>exact .er (by decide)
    | some v=>exact .ok _
   refine .cond (.eb3 (.eb3 (hmk _ _) fun _ _ _=>.eb3 (h7 _ _ _) fun _ _ _=>.ok _) fun _ _ _=>.ok _) ?_
   refine .cond (.eb3 (.eb3 (hmk _ _) fun _ _ _=>.eb3 (h7 _ _ _) fun _ _ _=>.ok _) fun _ _ _=>.ok _) ?_
   refine .cond (.eb3 (.eb3 (h7 _ _ _) fun _ _ _=>.ok _) fun _ _ _=>.eb3 (.eb3 (hmk _ _) fun _ _ _=>.eb3 (h8 _ _ _) fun _ _ _=>.ok _) fun _ _ _=>.eb3 (.eb3 (h9 _ _ _) fun _ _ _=>.ok _) fun _ _ _=>.ok _) ?_
   exact .cond (.eb3 (.eb3 (h7 _ _ _) fun _ _ _=>.ok _) fun _ _ _=>.eb3 (.eb3 (h8 _ _ _) fun _ _ _=>.ok _) fun _ _ _=>.ok _) (.eb3 (hmk _ _) fun _ _ _=>.uD (by decide) (.ok _))
  have a3 : ∀ c,szC c≤n + 1→∀ lo nm vis,Nz (uC fs f2 f3 lo nm vis c):=by
   rintro ⟨kind,name,slot,es,b⟩ h lo nm vis
   simp only [szC] at h
   simp only [uC,uI_eq]
   exact .eb .uEs fun _=>.eb3 (.eb3 (.cond (.ok _) .uMk) fun _ _ _=>.eb3 (i2 b (by omega) _ _ _) fun _ _ _=>.ok _) fun _ _ _=>.ok _
  have a2 : ∀ l,szSs l≤n + 1→∀ lo nm vis,Nz (uSs fs f2 f3 lo nm vis l):=by
   intro l
   induction l with
   | nil=>intro h lo nm vis; simp only [uSs]; exact .ok _
   | cons s l ih =>
    intro h lo nm vis
    simp only [szSs] at h
    simp only [uSs]
    exact .eb3 (a1 s (by omega) _ _ _) fun _ _ _=>.eb3 (ih (by omega) _ _ _) fun _ _ _=>.ok _
  have a4 : ∀ l,szCs l≤n + 1→∀ lo nm vis,Nz (uCs fs f2 f3 lo nm vis l):=by
   intro l
   induction l with
   | nil=>intro h lo nm vis; simp only [uCs]; exact .ok _
   | cons s l ih =>
    intro h lo nm vis
    simp only [szCs] at h
    simp only [uCs]
    exact .eb3 (a3 s (by omega) _ _ _) fun _ _ _=>.eb3 (ih (by omega) _ _ _) fun _ _ _=>.ok _
  exact ⟨a1,a2,a3,a4⟩
end
theorem uPs_nz : ∀ (l:List DParam) (nm:List ByteArray) (vis:List Nat),Nz (uPs nm vis l)
 | [],nm,vis=>.ok _
 | .mk a kd :: l,nm,vis=>by
  unfold uPs
  exact .eb3 .uMk fun _ _ _=>uPs_nz l _ _
theorem uFs_nz (fs:List DFunc) : ∀ l,Nz (uFs fs l)
 | []=>.ok _
 | .mk n ps res fl v b :: l=>by
  unfold uFs uF
  exact .eb (.eb3 (uPs_nz _ _ _) fun _ _ _=>.eb3 ((uS_nz fs res fl (szSs b)).2.1 b (Nat.le_refl _) _ _ _) fun _ _ _=>.uD (by decide) (.ok _)) fun _=>.eb (uFs_nz fs l) fun _=>.ok _
theorem uP_err {p:DProgram} {c:Int} (h:uP p=.error c):c ≠ 0:=by
 obtain ⟨fs⟩:=p
 refine (show Nz (uD (wf false (.mk fs)) 2 (uD (!dupF [] fs) 21 (uD (decide (f16_l2 fs=0)) (f16_l2 fs) (eb (uFs fs fs) fun x=>.ok (DProgram.mk x.1,x.2))))) from .uD (by decide) (.uD (by decide) ?_)) c h
 cases hb:decide (f16_l2 fs=0) with
 | false=>exact .er (of_decide_eq_false hb)
 | true=>exact .eb (uFs_nz fs fs) fun _=>.ok _
mutual
theorem fitE_st : ∀ e,fitE (stE e)→fitE e
 | .mk _ _ _ _ l=>by
  simp only [stE,fitE,stEs_len]
  exact fun h=>⟨h.1,fitEs_st l h.2⟩
theorem fitEs_st : ∀ l,fitEs (stEs l)→fitEs l
 | []=>fun h=>h
 | e :: l=>by
  simp only [stEs,fitEs]
  exact fun h=>⟨fitE_st e h.1,fitEs_st l h.2⟩
end
mutual
theorem fitS_st : ∀ s,fitS (stS s)→fitS s
 | .mk _ _ _ _ _ _ l6 l7 l8 l9 l10=>by
  simp only [stS,fitS,stEs_len,stSs_len,stCs_len]
  exact fun h=>⟨⟨h.1.1,fitEs_st l6 h.1.2⟩,⟨h.2.1.1,fitSs_st l7 h.2.1.2⟩,⟨h.2.2.1.1,fitSs_st l8 h.2.2.1.2⟩,⟨h.2.2.2.1.1,fitSs_st l9 h.2.2.2.1.2⟩,⟨h.2.2.2.2.1,fitCs_st l10 h.2.2.2.2.2⟩⟩
theorem fitSs_st : ∀ l,fitSs (stSs l)→fitSs l
 | []=>fun h=>h
 | e :: l=>by
  simp only [stSs,fitSs]
  exact fun h=>⟨fitS_st e h.1,fitSs_st l h.2⟩
theorem fitC_st : ∀ c,fitC (stC c)→fitC c
 | .mk _ _ _ l b=>by
  simp only [stC,fitC,stEs_len,stSs_len]
  exact fun h=>⟨⟨h.1.1,fitEs_st l h.1.2⟩,⟨h.2.1,fitSs_st b h.2.2⟩⟩
theorem fitCs_st : ∀ l,fitCs (stCs l)→fitCs l
 | []=>fun h=>h
 | e :: l=>by
  simp only [stCs,fitCs]
  exact fun h=>⟨fitC_st e h.1,fitCs_st l h.2⟩
end
theorem fitFs_st : ∀ l,fitFs (stFs l)→fitFs l
 | []=>fun h=>h
 | .mk _ ps _ _ _ b :: l=>by
  simp only [stFs,stF,fitFs,fitF,stSs_len]
  exact fun h=>⟨⟨h.1.1,h.1.2.1,fitSs_st b h.1.2.2⟩,fitFs_st l h.2⟩
theorem fitP_st : ∀ p,fitP (stP p)→fitP p
 | .mk fs=>by
  simp only [stP,fitP,stFs_len]
  exact fun h=>⟨h.1,fitFs_st fs h.2⟩
theorem f7_uP (k:Nat) (p:DProgram) (hk:2 * szP p + 1≤k) (hk2:4 * 600≤k):f7 k p=some (match uP p with | .error c=>(.mk [],c) | .ok x=>(x.1,0)):=by
 have h:=f16_eq k p hk hk2
 obtain ⟨fs⟩:=p
 unfold f7 f7_b f1001447 f1001504 f1001504_b
 simp only [h,Option.bind_some]
 cases uP (.mk fs) with
 | error c=>rfl
 | ok x=>obtain ⟨⟨q⟩,l⟩:=x; rfl
def uFr (p:DProgram):Ex (DProgram × List (List ByteArray)):=cond (wf true p) (uP (stP p)) (.error 2)
theorem f18_eq (k:Nat) (p:DProgram) (hk:2 * szP p + 1≤k) (hf:fitP p):f18 k p=some (cond (wf true p) (.ok (stP p)) (.error 2)):=by
 have h78:=f26_eq k p true hk
 have h88:=f31_eq k p hk hf
 obtain ⟨fs⟩:=p
 unfold f18 f18_b
 simp only [h78,f25_eq,Option.bind_some]
 cases wf true (.mk fs) with
 | false=>rfl
 | true=>simp only [cond_true,h88,Option.bind_some,stP]
theorem uFs_at (gs:List DFunc) : ∀ (l q:List DFunc) (nl:List (List ByteArray)),uFs gs l=.ok (q,nl)→nl.length=l.length∧∀ (n:Nat) (f:DFunc),l[n]?=some f→∃ g m,uF gs f=.ok (g,m)∧nl[n]?=some m∧q[n]?=some g
 | [],q,nl,h=>by cases h; exact ⟨rfl,fun n f h=>by simp at h⟩
 | x :: l,q,nl,h=>by
  unfold uFs at h
  obtain ⟨y,h1,h⟩:=eb_ok h
  obtain ⟨z,h2,h⟩:=eb_ok h
  cases h
  obtain ⟨h3,h4⟩:=uFs_at gs l z.1 z.2 h2
  refine ⟨by simp [h3],fun n f hf=>?_⟩
  cases n with
  | zero =>
   obtain rfl:x=f:=by simpa using hf
   exact ⟨y.1,y.2,h1,rfl,rfl⟩
  | succ n=>simpa using h4 n f (by simpa using hf)
theorem idxO_some {α:Type} {l:List α} {i:Int} (h0:0≤i) (h1:i < (l.length:Int)) : ∃ n:Nat,i=(n:Int)∧n < l.length∧idxO l i=l[n]?:=by
 refine ⟨i.toNat,by omega,by omega,?_⟩
 unfold idxO
 rw [if_pos h0]
theorem f22_eq (k:Nat) (fs:List DFunc) (x:Int) (hk:2 * szP (.mk fs) + 1≤k) (hk2:4 * 600 + 1≤k) (hf:fitP (.mk fs)) :
  f22 k (.mk fs) x=some (match uFr (.mk fs) with | .error c=>.error c | .ok y=>cond (decide (0≤x) && decide (x < (fs.length:Int))) (match y.2[x.toNat]? with | some l=>.ok (stP (.mk fs),l) | none=>.error 2) (.error 2)):=by
 have h50:=f18_eq k (.mk fs) hk hf
 have h44:=f16_eq k (stP (.mk fs)) (by rw [szP_st]; exact hk) (by omega)
 unfold f22 f22_b uFr
 simp only [h50,Option.bind_some]
 cases wf true (.mk fs) with
 | false=>rfl
 | true =>
  simp only [stP] at h44
  simp only [cond_true,stP,h44,Option.bind_some]
  cases hu:uP (.mk (stFs fs)) with
  | error c=>rfl
  | ok y =>
   obtain ⟨⟨q⟩,nl⟩:=y
   obtain ⟨_,_,_,z,hz,h4⟩:=uP_ok hu
   obtain ⟨hl,_⟩:=uFs_at _ _ _ _ h4
   rw [stFs_len] at hl
   simp only [f25_eq,Option.bind_some,hl]
   by_cases h0:0≤x
   ·have h0' : decide (x ≥ 0)=true:=by simpa using h0
    have h0'' : decide (0≤x)=true:=by simpa using h0
    simp only [h0',h0'',cond_true,Bool.true_and]
    by_cases h1:x < (fs.length:Int)
    ·have h1' : decide (x < (fs.length:Int))=true:=by simpa using h1
     obtain ⟨n,rfl,hn,hi⟩:=idxO_some (l:=nl) h0 (by rw [hl]; exact h1)
     obtain ⟨m,hm⟩ : ∃ m,nl[n]?=some m:=⟨_,List.getElem?_eq_getElem hn⟩
     rw [hm] at hi
     simp only [h1',cond_true,Int.toNat_natCast,hm]
     unfold f22_j1 f22_j2
     simp only [hi,Option.bind_some]
    ·have h1' : decide (x < (fs.length:Int))=false:=by simpa using h1
     simp only [h1',cond_false]
   ·have h0' : decide (x ≥ 0)=false:=by simpa using h0
    have h0'' : decide (0≤x)=false:=by simpa using h0
    simp only [h0',h0'',cond_false,Bool.false_and]
theorem f11_eq (k:Nat) (fs:List DFunc) (x:Int) (hk:2 * szP (.mk fs) + 1≤k) (hk2:4 * 600 + 1≤k) (hf:fitP (.mk fs)) :
  f11 k (.mk fs) x=some (match uFr (.mk fs) with | .error c=>([],c) | .ok y=>cond (decide (0≤x) && decide (x < (fs.length:Int))) (match y.2[x.toNat]? with | some l=>(l,0) | none=>([],2)) ([],2)):=by
 have h54:=f22_eq k fs x hk hk2 hf
 have key:f1002138 k (.mk fs) x []=some (match uFr (.mk fs) with | .error c=>.error c | .ok y=>cond (decide (0≤x) && decide (x < (fs.length:Int))) (match y.2[x.toNat]? with | some l=>.ok (.mk fs,x,l) | none=>.error 2) (.error 2)):=by
  unfold f1002138 f1002138_b
  simp only [h54,Option.bind_some]
  cases uFr (.mk fs) with
  | error c=>rfl
  | ok y =>
   obtain ⟨⟨q⟩,nl⟩:=y
   cases decide (0≤x) && decide (x < (fs.length:Int)) with
   | false=>rfl
   | true =>
    simp only [cond_true]
    cases nl[x.toNat]? <;> rfl
 unfold f11 f11_b f1001452
 simp only [key]
 cases uFr (.mk fs) with
 | error c=>rfl
 | ok y =>
  obtain ⟨⟨q⟩,nl⟩:=y
  cases decide (0≤x) && decide (x < (fs.length:Int)) with
  | false=>rfl
  | true =>
   simp only [cond_true]
   cases nl[x.toNat]? <;> rfl
mutual
def bE (m:Int):DExpr→Bool
 | .mk op _ _ slot l=>cond (op == 4) (!decide (slot < 0) && !decide (slot ≥ m)) true && bEs m l
def bEs (m:Int):List DExpr→Bool
 | []=>true
 | e :: l=>bE m e && bEs m l
end
theorem f20_fam (k:Nat) : ∀ (n:Nat) (l:List DExpr) (a:Int),szEs l + 1≤n→(fam20 k n).f20 l a=some (bEs a l)
 | 0,l,a,h=>by omega
 | n + 1,l,a,h=>by
  have ih:=f20_fam k n
  have loop : ∀ (l:List DExpr) (i:Nat),szEs l≤n→f20_l1 k (fam20 k n) a l i=some (bEs a l):=by
   intro l
   induction l with
   | nil=>intro i h; rfl
   | cons e l ihl =>
    obtain ⟨op,num,txt,slot,es⟩:=e
    intro i h
    simp only [szEs,szE] at h
    unfold f20_l1 bEs bE f20_j1
    simp only [ih es a (by omega),ihl _ (by omega),Option.bind_some]
    cases op == 4 <;> cases decide (slot < 0) <;> cases decide (slot ≥ a) <;> cases bEs a es <;> simp
  exact loop l 0 (by omega)
def nmL (name:ByteArray) (s:Int):List Int:=cond (seq name ⟨#[]⟩) [] [s]
def slotB (a s:Int):Bool:=s == 0 || (decide (s > 0) && decide (s < a))
mutual
def slS:DStmt→List Int
 | .mk op name s2 _ _ _ _ l7 l8 l9 l10=>cond (op == 24) (slSs l7 ++ (nmL name s2 ++ (slSs l8 ++ slSs l9))) (cond (!seq name ⟨#[]⟩ && op != 2) [s2] [] ++ (slSs l7 ++ (slSs l8 ++ slCs l10)))
def slSs:List DStmt→List Int
 | []=>[]
 | s :: l=>slS s ++ slSs l
def slC:DCase→List Int
 | .mk _ name slot _ b=>nmL name slot ++ slSs b
def slCs:List DCase→List Int
 | []=>[]
 | c :: l=>slC c ++ slCs l
end
mutual
def bS (a:Int):DStmt→Bool
 | .mk op _ s2 _ _ _ l6 l7 l8 l9 l10=>(bEs a l6 && slotB a s2) && cond (op == 24) (bSs a l7 && (bSs a l8 && bSs a l9)) ((bSs a l7 && bSs a l8) && bCs a l10)
def bSs (a:Int):List DStmt→Bool
 | []=>true
 | s :: l=>bS a s && bSs a l
def bC (a:Int):DCase→Bool
 | .mk _ _ _ es b=>bSs a b && bEs a es
def bCs (a:Int):List DCase→Bool
 | []=>true
 | c :: l=>bC a c && bCs a l
end
theorem nmL_len (name:ByteArray) (s:Int):(nmL name s).length≤1:=by
 unfold nmL; cases seq name ⟨#[]⟩ <;> simp
mutual
theorem slS_len : ∀ s,(slS s).length≤szS s
 | .mk op name s2 _ _ _ l6 l7 l8 l9 l10=>by
  have h7:=slSs_len l7
  have h8:=slSs_len l8
  have h9:=slSs_len l9
  have h10:=slCs_len l10
  have hn:=nmL_len name s2
  unfold slS szS
  cases op == 24 with
  | true=>simp only [cond_true,List.length_append]; omega
  | false=>cases !seq name ⟨#[]⟩ && op != 2 <;> simp only [cond_true,cond_false,List.length_append,List.length_nil,List.length_singleton] <;> omega
theorem slSs_len : ∀ l,(slSs l).length≤szSs l
 | []=>by simp [slSs]
 | s :: l=>by
  have h1:=slS_len s
  have h2:=slSs_len l
  simp only [slSs,szSs,List.length_append]; omega
theorem slC_len : ∀ c,(slC c).length≤szC c
 | .mk _ name slot es b=>by
  have h1:=slSs_len b
  have hn:=nmL_len name slot
  simp only [slC,szC,List.length_append]; omega
theorem slCs_len : ∀ l,(slCs l).length≤szCs l
 | []=>by simp [slCs]
 | c :: l=>by
  have h1:=slC_len c
  have h2:=slCs_len l
  simp only [slCs,szCs,List.length_append]; omega
end
section
variable {k:Nat} {F:Fam10} {a:Int} {i:Nat} {q b7 b8 b9:Bool} {xs s7 s8 s9:List Int} {l7 l8 l9:List DStmt} {l10:List DCase} {op s2:Int} {name:ByteArray} {nx:Nat→List Int→Bool→Option (List Int × Bool)}
theorem j4_eq (h8:F.f10 l8 a=some (s8,b8)) (h9:F.f10 l9 a=some (s9,b9)) (hb:xs.length + s8.length + s9.length≤1000000) :
  f10_j4 k F a i l8 l9 q xs nx=nx (i + 1) (xs ++ (s8 ++ s9)) (q && (b8 && b9)):=by
 unfold f10_j4 f10_j5 f10_j1
 simp only [h8,h9,Option.bind_some]
 rw [guard_le (by unfold maxB; omega),guard_le (by rw [List.length_append]; unfold maxB; omega)]
 cases q <;> cases b8 <;> simp
theorem j3_eq (h8:F.f10 l8 a=some (s8,b8)) (h9:F.f10 l9 a=some (s9,b9)) (hb:xs.length + 1 + s8.length + s9.length≤1000000) :
  f10_j3 k F a i name s2 l8 l9 xs q nx=nx (i + 1) (xs ++ (nmL name s2 ++ (s8 ++ s9))) (q && (b8 && b9)):=by
 unfold f10_j3 nmL
 cases seq name ⟨#[]⟩ with
 | true =>
  simp only [Bool.not_true,cond_false,cond_true,List.nil_append]
  exact j4_eq h8 h9 (by omega)
 | false =>
  simp only [Bool.not_false,cond_false,cond_true]
  rw [guard_le (by unfold maxB; omega),j4_eq h8 h9 (by simp; omega)]
  simp
theorem l2_eq (hx : ∀ n (es:List DExpr) (b:List DStmt),szC (.mk 0 ⟨#[]⟩ n es b)≤szCs l10→F.f10 b a=some (slSs b,bSs a b)∧f20 k es a=some (bEs a es)) : ∀ (l:List DCase) (j:Nat) (xs:List Int) (q:Bool),szCs l≤szCs l10→xs.length + szCs l≤1000000 →
  f10_l2 k F a i nx l j xs q=nx (i + 1) (xs ++ slCs l) (q && bCs a l)
 | [],j,xs,q,h,hb=>by unfold f10_l2 f10_j1 slCs bCs; simp
 | .mk kind name slot es b :: l,j,xs,q,h,hb=>by
  simp only [szCs,szC] at h hb
  obtain ⟨h1,h2⟩:=hx slot es b (by simp only [szC]; omega)
  have hl:=slSs_len b
  have key : ∀ ys:List Int,ys.length + (szEs es + szSs b + 1) + szCs l≤1000001→f10_j9 k F a q j es b ys (f10_l2 k F a i nx l)=nx (i + 1) (ys ++ (slSs b ++ slCs l)) (q && ((bSs a b && bEs a es) && bCs a l)):=by
   intro ys hy
   have ih:=fun q=>l2_eq hx l (j + 1) (ys ++ slSs b) q (by omega) (by simp only [List.length_append]; omega)
   unfold f10_j9 f10_j8
   simp only [h1,h2,Option.bind_some]
   rw [guard_le (by unfold maxB; omega)]
   simp only [ih]
   cases q <;> cases bSs a b <;> simp
  unfold f10_l2 slCs bCs slC bC nmL
  cases seq name ⟨#[]⟩ with
  | true =>
   simp only [Bool.not_true,cond_false,cond_true,List.nil_append]
   rw [key xs (by omega)]
  | false =>
   simp only [Bool.not_false,cond_false,cond_true]
   rw [guard_le (by unfold maxB; omega),key _ (by simp only [List.length_append,List.length_singleton]; omega)]
   simp
theorem j6_eq (hx : ∀ n (es:List DExpr) (b:List DStmt),szC (.mk 0 ⟨#[]⟩ n es b)≤szCs l10→F.f10 b a=some (slSs b,bSs a b)∧f20 k es a=some (bEs a es)) (h7:F.f10 l7 a=some (s7,b7)) (h8:F.f10 l8 a=some (s8,b8)) (hb:xs.length + s7.length + s8.length + szCs l10≤1000000) :
  f10_j6 k F a i l7 l8 l10 q xs nx=nx (i + 1) (xs ++ (s7 ++ (s8 ++ slCs l10))) (q && ((b7 && b8) && bCs a l10)):=by
 have h:=fun q=>l2_eq (F:=F) (k:=k) (i:=i) (nx:=nx) hx l10 0 (xs ++ s7 ++ s8) q (Nat.le_refl _) (by simp only [List.length_append]; omega)
 unfold f10_j6 f10_j7
 simp only [h7,h8,Option.bind_some]
 rw [guard_le (by unfold maxB; omega),guard_le (by rw [List.length_append]; unfold maxB; omega)]
 simp only [h]
 cases q <;> cases b7 <;> simp
theorem j2_eq (hx : ∀ n (es:List DExpr) (b:List DStmt),szC (.mk 0 ⟨#[]⟩ n es b)≤szCs l10→F.f10 b a=some (slSs b,bSs a b)∧f20 k es a=some (bEs a es)) (h7:F.f10 l7 a=some (s7,b7)) (h8:F.f10 l8 a=some (s8,b8)) (h9:F.f10 l9 a=some (s9,b9))
  (hb:xs.length + 1 + s7.length + s8.length + s9.length + szCs l10≤1000000) :
  f10_j2 k F a xs i op name s2 l7 l8 l9 l10 q nx=nx (i + 1) (xs ++ cond (op == 24) (s7 ++ (nmL name s2 ++ (s8 ++ s9))) (cond (!seq name ⟨#[]⟩ && op != 2) [s2] [] ++ (s7 ++ (s8 ++ slCs l10))))
   (q && cond (op == 24) (b7 && (b8 && b9)) ((b7 && b8) && bCs a l10)):=by
 unfold f10_j2
 cases op == 24 with
 | true =>
  have h:=fun q=>j3_eq (k:=k) (i:=i) (nx:=nx) (name:=name) (s2:=s2) (xs:=xs ++ s7) (q:=q) h8 h9 (by simp only [List.length_append]; omega)
  simp only [cond_true,h7,Option.bind_some]
  rw [guard_le (by unfold maxB; omega)]
  simp only [h]
  cases q <;> cases b7 <;> simp
 | false =>
  have hn : ∀ b:Bool,f10_j10 k F a xs i s2 l7 l8 l10 q b nx=nx (i + 1) (xs ++ (cond b [s2] [] ++ (s7 ++ (s8 ++ slCs l10)))) (q && ((b7 && b8) && bCs a l10)):=by
   intro b
   unfold f10_j10
   cases b with
   | true =>
    simp only [cond_true]
    rw [guard_le (by unfold maxB; omega),j6_eq hx h7 h8 (by simp only [List.length_append,List.length_singleton]; omega)]
    simp
   | false =>
    simp only [cond_false,List.nil_append]
    exact j6_eq hx h7 h8 (by omega)
  simp only [cond_false,hn]
  cases seq name ⟨#[]⟩ <;> simp
end
theorem f10_fam (k:Nat) : ∀ (n:Nat) (l:List DStmt) (a:Int),szSs l + 1≤n→szSs l + 1≤k→szSs l≤100000→(fam10 k n).f10 l a=some (slSs l,bSs a l)
 | 0,l,a,h,_,_=>by omega
 | n + 1,l,a,h,hk,hb=>by
  have ih:=f10_fam k n
  have loop : ∀ (l:List DStmt) (i:Nat) (xs:List Int) (q:Bool),szSs l≤n→szSs l + 1≤k→szSs l≤100000→xs.length + szSs l≤200000→f10_l1 k (fam10 k n) a l i xs q=some (xs ++ slSs l,q && bSs a l):=by
   intro l
   induction l with
   | nil=>intro i xs q h _ _ _; unfold f10_l1 slSs bSs; simp
   | cons s l ihl =>
    obtain ⟨op,name,s2,fr,s4,flag,l6,l7,l8,l9,l10⟩:=s
    intro i xs q h hk hm hb
    simp only [szSs,szS] at h hk hm hb
    have h7:=ih l7 a (by omega) (by omega) (by omega)
    have h8:=ih l8 a (by omega) (by omega) (by omega)
    have h9:=ih l9 a (by omega) (by omega) (by omega)
    have g7:=slSs_len l7
    have g8:=slSs_len l8
    have g9:=slSs_len l9
    have g10:=slCs_len l10
    have h6:f20 k l6 a=some (bEs a l6):=f20_fam k k l6 a (by omega)
    have hx : ∀ n' (es:List DExpr) (b:List DStmt),szC (.mk 0 ⟨#[]⟩ n' es b)≤szCs l10→(fam10 k n).f10 b a=some (slSs b,bSs a b)∧f20 k es a=some (bEs a es):=by
     intro n' es b hc
     simp only [szC] at hc
     exact ⟨ih b a (by omega) (by omega) (by omega),f20_fam k k es a (by omega)⟩
    have hj:=fun q=>j2_eq (k:=k) (F:=fam10 k n) (a:=a) (i:=i) (q:=q) (xs:=xs) (op:=op) (s2:=s2) (name:=name) (nx:=f10_l1 k (fam10 k n) a l) hx h7 h8 h9 (by omega)
    unfold f10_l1
    simp only [hj,h6,Option.bind_some]
    have hs:(slS (.mk op name s2 fr s4 flag l6 l7 l8 l9 l10)).length≤szS (.mk op name s2 fr s4 flag l6 l7 l8 l9 l10):=slS_len _
    have e:=fun q=>ihl (i + 1) (xs ++ slS (.mk op name s2 fr s4 flag l6 l7 l8 l9 l10)) q (by omega) (by omega) (by omega) (by simp only [List.length_append,szS] at hs ⊢; omega)
    simp only [slS] at e
    simp only [e,slSs,bSs,slS,bS,slotB,List.append_assoc]
    cases q <;> cases bEs a l6 <;> cases s2 == 0 <;> cases decide (s2 > 0) <;> simp [Bool.and_assoc]
  exact loop l 0 [] true (by omega) (by omega) (by omega) (by simp; omega)
theorem f10_eq (k:Nat) (l:List DStmt) (a:Int) (hk:szSs l + 1≤k) (hb:szSs l≤100000):f10 k l a=some (slSs l,bSs a l):=f10_fam k k l a hk hk hb
end Go.Proofs.YtoajecnoffhlbaaDoor
namespace Go.Proofs.YtoajecnoffhlbaaDoor
open Go
def rng (a b:Nat):List Int:=(List.range' a (b - a)).map fun (n:Nat)=>(n:Int)
theorem rng_app {a b c:Nat} (h1:a≤b) (h2:b≤c):rng a b ++ rng b c=rng a c:=by
 obtain ⟨i,rfl⟩ : ∃ i,b=a + i:=⟨b - a,by omega⟩
 obtain ⟨j,rfl⟩ : ∃ j,c=a + i + j:=⟨c - (a + i),by omega⟩
 unfold rng
 rw [show a + i - a=i by omega,show a + i + j - (a + i)=j by omega,show a + i + j - a=i + j by omega,← List.map_append,List.range'_append_1]
theorem rng_self (a:Nat):rng a a=[]:=by unfold rng; simp
theorem rng_one (a:Nat):rng a (a + 1)=[(a:Int)]:=by unfold rng; simp
theorem okV_le {nm nm' : List ByteArray} {vis:List Nat} (h:okV nm vis) (hl:nm.length≤nm'.length):okV nm' vis:=fun v hv=>Nat.lt_of_lt_of_le (h v hv) hl
theorem node_sh {op flag:Int} {name fr:ByteArray} {n6 n7 n8 n9 n10:Nat} (h:nodeS op name fr flag n6 n7 n8 n9 n10=true) :
  (op ≠ 27→n10=0)∧((op=27∨op=17∨op=18∨op=19∨op=20∨op=21∨op=22∨op=23∨op=26∨op=29)→seq name ⟨#[]⟩=true) ∧
   (op ≠ 20→op ≠ 21→op ≠ 22→op ≠ 23→op ≠ 24→op ≠ 25→op ≠ 26→op ≠ 28→n7=0)∧(op ≠ 20→op ≠ 24→n8=0):=by
 unfold nodeS flagR nameR casesR fromR at h
 by_cases hop:op < 1∨op > 29
 ·rw [shp_none hop] at h; cases h
 generalize isN name=x1 at h
 generalize isN fr=x2 at h
 generalize seq name ⟨#[]⟩=x3 at h ⊢
 generalize seq fr ⟨#[]⟩=x4 at h
 generalize flag.tmod 2=t2 at h
 generalize flag.tmod 4=t4 at h
 rcases (by omega:op=1∨op=2∨op=3∨op=4∨op=5∨op=6∨op=7∨op=8∨op=9∨op=10∨op=11∨op=12∨op=13∨op=14∨op=15∨op=16∨op=17∨op=18∨op=19∨op=20∨op=21∨op=22∨op=23∨op=24∨op=25∨op=26∨op=27∨op=28∨op=29) with rfl | rfl | rfl | rfl | rfl | rfl | rfl | rfl | rfl | rfl | rfl | rfl | rfl | rfl | rfl | rfl | rfl | rfl | rfl | rfl | rfl | rfl | rfl | rfl | rfl | rfl | rfl | rfl | rfl <;>
  simp [shp] at h ⊢ <;> grind
mutual
theorem bE_u {nm:List ByteArray} {vis:List Nat} (hv:okV nm vis) {m:Nat} (hm:nm.length≤m) : ∀ e e',uE nm vis e=.ok e'→bE m e'=true
 | .mk op num txt slot l,e',hu=>by
  unfold uE at hu
  revert hu
  cases h1:uEs nm vis l with
  | error c=>intro hu; cases hu
  | ok l' =>
   have h2:=bEs_u hv hm l l' h1
   cases ho:op == 4 with
   | false=>intro hu; cases hu; simp only [bE,ho,cond_false,Bool.true_and,h2]
   | true =>
    cases hs:slotOf nm vis txt with
    | none=>intro hu; cases hu
    | some v =>
     intro hu
     cases hu
     have hlt:v < nm.length:=hv v (List.mem_of_find?_eq_some hs)
     have e1:decide ((v:Int) < 0)=false:=by simp
     have e2:decide ((v:Int) ≥ (m:Int))=false:=by simp; omega
     simp only [bE,ho,cond_true,e1,e2,h2]
     rfl
theorem bEs_u {nm:List ByteArray} {vis:List Nat} (hv:okV nm vis) {m:Nat} (hm:nm.length≤m) : ∀ l l',uEs nm vis l=.ok l'→bEs m l'=true
 | [],l',hu=>by cases hu; rfl
 | e :: l,l',hu=>by
  unfold uEs at hu
  revert hu
  cases h1:uE nm vis e with
  | error c=>intro hu; cases hu
  | ok e1 =>
   cases h2:uEs nm vis l with
   | error c=>intro hu; cases hu
   | ok l1=>intro hu; cases hu; simp only [bEs,bE_u hv hm e e1 h1,bEs_u hv hm l l1 h2,Bool.and_self]
end
structure Good (nm nm1:List ByteArray) (vis1:List Nat) (L:List Int) (b:Int→Bool):Prop where
 pre:nm <+: nm1
 ok:okV nm1 vis1
 sl:L=rng nm.length nm1.length
 bel : ∀ m:Nat,nm1.length≤m→b m=true
theorem Good.le {nm nm1:List ByteArray} {vis1:List Nat} {L:List Int} {b:Int→Bool} (h:Good nm nm1 vis1 L b):nm.length≤nm1.length:=h.pre.length_le
theorem name_good {nm:List ByteArray} {vis:List Nat} {name:ByteArray} {r:List ByteArray × List Nat × Int} (h:(cond (seq name ⟨#[]⟩) (.ok (nm,vis,0)) (uMk nm vis name):Ex (List ByteArray × List Nat × Int))=.ok r) (hv:okV nm vis) :
  Good nm r.1 r.2.1 (nmL name r.2.2) (fun m=>slotB m r.2.2):=by
 unfold nmL
 revert h
 cases seq name ⟨#[]⟩ with
 | true=>intro h; cases h; exact ⟨List.prefix_refl _,hv,(rng_self _).symm,fun m _=>rfl⟩
 | false =>
  unfold uMk
  simp only [cond_false]
  cases slotOf nm vis name with
  | some v=>intro h; cases h
  | none =>
   intro h
   cases h
   refine ⟨List.prefix_append _ _,fun v hv'=>?_,?_,fun m hm=>?_⟩
   ·rw [List.mem_append,List.mem_singleton] at hv'
    rw [List.length_append,List.length_singleton]
    rcases hv' with h | rfl
    ·have:=hv v h; omega
    ·omega
   ·rw [List.length_append,List.length_singleton,rng_one]
   ·rw [List.length_append,List.length_singleton] at hm
    generalize nm.length=L at hm ⊢
    unfold slotB
    simp
    omega
theorem len0 {α:Type} {l:List α} (h:l.length=0):l=[]:=List.eq_nil_of_length_eq_zero h
section
variable (fs:List DFunc) (f2:Int) (f3:Bool)
theorem uS_good : ∀ n:Nat,
  (∀ s,szS s≤n→∀ a lo nm vis r,gS false s a=true→okV nm vis→uS fs f2 f3 lo nm vis s=.ok r→Good nm r.1 r.2.1 (slS r.2.2) (fun m=>bS m r.2.2)) ∧
  (∀ l,szSs l≤n→∀ a lo nm vis r,gSs false l a=true→okV nm vis→uSs fs f2 f3 lo nm vis l=.ok r→Good nm r.1 r.2.1 (slSs r.2.2) (fun m=>bSs m r.2.2)) ∧
  (∀ c,szC c≤n→∀ a lo nm vis r,gC false c a=true→okV nm vis→uC fs f2 f3 lo nm vis c=.ok r→Good nm r.1 vis (slC r.2.2) (fun m=>bC m r.2.2)) ∧
  (∀ l,szCs l≤n→∀ a lo nm vis r,gCs false l a=true→okV nm vis→uCs fs f2 f3 lo nm vis l=.ok r→Good nm r.1 vis (slCs r.2.2) (fun m=>bCs m r.2.2))
 | 0=>by
  refine ⟨fun s h=>?_,fun l h=>?_,fun c h=>?_,fun l h=>?_⟩
  ·have:=szS_pos s; omega
  ·cases l with
   | nil=>intro a lo nm vis r _ hv h; simp only [uSs] at h; cases h; exact ⟨List.prefix_refl _,hv,(rng_self _).symm,fun _ _=>rfl⟩
   | cons s l=>have:=szS_pos s; simp only [szSs] at h; omega
  ·have:=szC_pos c; omega
  ·cases l with
   | nil=>intro a lo nm vis r _ hv h; simp only [uCs] at h; cases h; exact ⟨List.prefix_refl _,hv,(rng_self _).symm,fun _ _=>rfl⟩
   | cons s l=>have:=szC_pos s; simp only [szCs] at h; omega
 | n + 1=>by
  obtain ⟨i1,i2,i3,i4⟩:=uS_good n
  have a1 : ∀ s,szS s≤n + 1→∀ a lo nm vis r,gS false s a=true→okV nm vis→uS fs f2 f3 lo nm vis s=.ok r→Good nm r.1 r.2.1 (slS r.2.2) (fun m=>bS m r.2.2):=by
   rintro ⟨op,name,s2,fr,s4,flag,l6,l7,l8,l9,l10⟩ h a lo nm vis r hg hv hu
   simp only [szS] at h
   simp only [gS,Bool.and_eq_true,Bool.false_or,beq_iff_eq] at hg
   obtain ⟨⟨⟨_,rfl,rfl⟩,hnode⟩,g6,g7,g8,g9,g10⟩:=hg
   obtain ⟨n1,n2,n3,n4⟩:=node_sh hnode
   have h7:=fun lo nm vis r=>i2 l7 (by omega) _ lo nm vis r g7
   have h8:=fun lo nm vis r=>i2 l8 (by omega) _ lo nm vis r g8
   have h9:=fun lo nm vis r=>i2 l9 (by omega) _ lo nm vis r g9
   have h10:=fun lo nm vis r=>i4 l10 (by omega) _ lo nm vis r g10
   simp only [uS,uB_eq,uI_eq] at hu
   obtain ⟨r6,h6,hu⟩:=eb_ok hu
   have e6 : ∀ m:Nat,nm.length≤m→bEs m r6=true:=fun m hm=>bEs_u hv hm l6 r6 h6
   clear i1 i2 i3 i4
   have none_ : ∀ {ix:Int} {v:Int},(op=2∧(∃ w:Nat,v=(w:Int)∧w < nm.length)∨(op=18∨op=19∨op=29∨op=17)∧v=0)→Good nm nm vis (slS (.mk op name v fr ix flag r6 l7 l8 l9 l10)) (fun m=>bS m (.mk op name v fr ix flag r6 l7 l8 l9 l10)):=by
    intro ix v ho
    have o24:(op == 24)=false:=by rw [beq_eq_false_iff_ne]; omega
    have z7:=len0 (n3 (by omega) (by omega) (by omega) (by omega) (by omega) (by omega) (by omega) (by omega))
    have z8:=len0 (n4 (by omega) (by omega))
    have z10:=len0 (n1 (by omega))
    subst z7 z8 z10
    refine ⟨List.prefix_refl _,hv,?_,fun m hm=>?_⟩
    ·have:(!seq name ⟨#[]⟩ && op != 2)=false:=by
      rcases ho with ⟨rfl,_⟩ | ⟨ho,_⟩
      ·simp
      ·rw [n2 (by omega)]; rfl
     simp only [slS,o24,this,cond_false,slSs,slCs,List.nil_append,rng_self]
    ·have hsl:slotB m v=true:=by
      rcases ho with ⟨_,w,rfl,hw⟩ | ⟨_,rfl⟩
      ·unfold slotB; simp; omega
      ·rfl
     simp only [bS,o24,cond_false,e6 m hm,hsl,bSs,bCs,Bool.and_self]
   revert hu
   cases ho:op == 27 with
   | true =>
    intro hu
    obtain rfl:op=27:=by simpa using ho
    obtain ⟨nm1,v1,cs,q1,hu⟩:=eb3_ok hu
    cases hu
    have z7:=len0 (n3 (by omega) (by omega) (by omega) (by omega) (by omega) (by omega) (by omega) (by omega))
    have z8:=len0 (n4 (by omega) (by omega))
    subst z7 z8
    have G:=h10 _ _ _ _ hv q1
    refine ⟨G.pre,G.ok,?_,fun m hm=>?_⟩
    ·rw [← G.sl]
     simp only [slS,show ((27:Int) == 24)=false from rfl,n2 (by omega),Bool.not_true,Bool.false_and,cond_false,slSs,List.nil_append]
    ·simp only [bS,show ((27:Int) == 24)=false from rfl,cond_false,e6 m (Nat.le_trans G.le hm),bSs,G.bel m hm,Bool.and_self]
     rfl
   | false =>
   have c27:op ≠ 27:=by simpa using ho
   have z10:=len0 (n1 c27)
   intro hu
   obtain ⟨ix,_,hu⟩:=eb_ok hu
   revert hu
   cases ho:op == 2 with
   | true =>
    have c:op=2:=by simpa using ho
    cases hs:slotOf nm vis name with
    | none=>intro hu; cases hu
    | some v=>intro hu; cases hu; exact none_ (.inl ⟨c,v,rfl,hv v (List.mem_of_find?_eq_some hs)⟩)
   | false =>
   have c2:op ≠ 2:=by simpa using ho
   cases ho:op == 18 || op == 19 with
   | true=>intro hu; obtain ⟨_,hu⟩:=uD_ok hu; cases hu; simp at ho; exact none_ (.inr ⟨by omega,rfl⟩)
   | false =>
   cases ho29:op == 29 with
   | true=>intro hu; obtain ⟨_,hu⟩:=uD_ok hu; cases hu; simp at ho29; exact none_ (.inr ⟨by omega,rfl⟩)
   | false =>
   cases ho17:op == 17 with
   | true=>intro hu; obtain ⟨_,hu⟩:=uD_ok hu; cases hu; simp at ho17; exact none_ (.inr ⟨by omega,rfl⟩)
   | false =>
   simp at ho ho29 ho17
   subst z10
   cases ho:op == 21 with
   | true =>
    intro hu
    obtain rfl:op=21:=by simpa using ho
    obtain ⟨nm1,v1,b,q1,hu⟩:=eb3_ok hu
    cases hu
    obtain ⟨nm2,v2,b2,q2,q1⟩:=eb3_ok q1
    cases q1
    have z8:=len0 (n4 (by omega) (by omega))
    subst z8
    have G:=h7 _ _ _ _ hv q2
    refine ⟨G.pre,okV_le hv G.le,?_,fun m hm=>?_⟩
    ·rw [← G.sl]
     simp only [slS,show ((21:Int) == 24)=false from rfl,n2 (by omega),Bool.not_true,Bool.false_and,cond_false,slSs,slCs,List.nil_append,List.append_nil]
    ·simp only [bS,show ((21:Int) == 24)=false from rfl,cond_false,e6 m (Nat.le_trans G.le hm),bSs,bCs,G.bel m hm,Bool.and_self]
     rfl
   | false =>
   have in_ : ∀ {lo' : Nat} {nm1:List ByteArray} {v1:List Nat} {vb:Int × List DStmt},op ≠ 24→op ≠ 20 →
     (eb3 (cond (seq name ⟨#[]⟩) (.ok (nm,vis,0)) (uMk nm vis name)) fun nm1 vis1 v=>eb3 (uSs fs f2 f3 lo' nm1 vis1 l7) fun nm2 _ l'=>.ok (nm2,vis,(v,l')):Ex (List ByteArray × List Nat × (Int × List DStmt)))=.ok (nm1,v1,vb) →
     Good nm nm1 vis (slS (.mk op name vb.1 fr ix flag r6 vb.2 l8 l9 [])) (fun m=>bS m (.mk op name vb.1 fr ix flag r6 vb.2 l8 l9 [])):=by
    intro lo' nm1 v1 vb c24 c20 q1
    obtain ⟨na,va,x,q2,q1⟩:=eb3_ok q1
    obtain ⟨nb,vb',y,q3,q1⟩:=eb3_ok q1
    cases q1
    have z8:=len0 (n4 c20 c24)
    subst z8
    have o24:(op == 24)=false:=by rw [beq_eq_false_iff_ne]; exact c24
    have G1:=name_good q2 hv
    have G2:=h7 _ _ _ _ G1.ok q3
    refine ⟨G1.pre.trans G2.pre,okV_le hv (Nat.le_trans G1.le G2.le),?_,fun m hm=>?_⟩
    ·rw [← rng_app G1.le G2.le,← G1.sl,← G2.sl]
     have:cond (!seq name ⟨#[]⟩ && op != 2) [x] []=nmL name x:=by
      have:(op != 2)=true:=by simpa using c2
      unfold nmL
      rw [this,Bool.and_true]
      cases seq name ⟨#[]⟩ <;> rfl
     simp only [slS,o24,cond_false,this,slSs,slCs,List.append_nil]
    ·simp only [bS,o24,cond_false,e6 m (Nat.le_trans (Nat.le_trans G1.le G2.le) hm),G1.bel m (Nat.le_trans G2.le hm),bSs,bCs,G2.bel m hm,Bool.and_self]
   cases ho28:op == 28 with
   | true =>
    intro hu
    have c:op=28:=by simpa using ho28
    obtain ⟨nm1,v1,vb,q1,hu⟩:=eb3_ok hu
    cases hu
    exact in_ (by omega) (by omega) q1
   | false =>
   cases ho25:op == 25 with
   | true =>
    intro hu
    have c:op=25:=by simpa using ho25
    obtain ⟨nm1,v1,vb,q1,hu⟩:=eb3_ok hu
    cases hu
    exact in_ (by omega) (by omega) q1
   | false =>
   cases ho24:op == 24 with
   | true =>
    intro hu
    obtain ⟨nm1,v1,b,q1,hu⟩:=eb3_ok hu
    obtain ⟨nm2,v2,b7,q7,q1⟩:=eb3_ok q1
    cases q1
    obtain ⟨nm3,v3,b,q1,hu⟩:=eb3_ok hu
    obtain ⟨nm4,v4,x,qn,q1⟩:=eb3_ok q1
    obtain ⟨nm5,v5,b8,q8,q1⟩:=eb3_ok q1
    cases q1
    obtain ⟨nm6,v6,b,q1,hu⟩:=eb3_ok hu
    obtain ⟨nm7,v7,b9,q9,q1⟩:=eb3_ok q1
    cases q1
    cases hu
    have G7:=h7 _ _ _ _ hv q7
    have Gn:=name_good qn (okV_le hv G7.le)
    have G8:=h8 _ _ _ _ Gn.ok q8
    have G9:=h9 _ _ _ _ (okV_le hv (Nat.le_trans G7.le (Nat.le_trans Gn.le G8.le))) q9
    refine ⟨G7.pre.trans (Gn.pre.trans (G8.pre.trans G9.pre)),okV_le hv (Nat.le_trans G7.le (Nat.le_trans Gn.le (Nat.le_trans G8.le G9.le))),?_,fun m hm=>?_⟩
    ·rw [← rng_app G7.le (Nat.le_trans Gn.le (Nat.le_trans G8.le G9.le)),← rng_app Gn.le (Nat.le_trans G8.le G9.le),← rng_app G8.le G9.le,← G7.sl,← Gn.sl,← G8.sl,← G9.sl]
     simp only [slS,ho24,cond_true]
    ·have m8:=Nat.le_trans G9.le hm
     have mn:=Nat.le_trans G8.le m8
     have m7:=Nat.le_trans Gn.le mn
     simp only [bS,ho24,cond_true,e6 m (Nat.le_trans G7.le m7),G7.bel m m7,Gn.bel m mn,G8.bel m m8,G9.bel m hm,Bool.and_self]
   | false =>
   cases ho26:op == 20 || op == 22 || op == 23 || op == 26 with
   | true =>
    intro hu
    have c:op=20∨op=22∨op=23∨op=26:=by simp at ho26; omega
    obtain ⟨nm1,v1,b,q1,hu⟩:=eb3_ok hu
    obtain ⟨nm2,v2,b7,q7,q1⟩:=eb3_ok q1
    cases q1
    obtain ⟨nm3,v3,b,q1,hu⟩:=eb3_ok hu
    obtain ⟨nm4,v4,b8,q8,q1⟩:=eb3_ok q1
    cases q1
    cases hu
    have G7:=h7 _ _ _ _ hv q7
    have G8:=h8 _ _ _ _ (okV_le hv G7.le) q8
    refine ⟨G7.pre.trans G8.pre,okV_le hv (Nat.le_trans G7.le G8.le),?_,fun m hm=>?_⟩
    ·rw [← rng_app G7.le G8.le,← G7.sl,← G8.sl]
     simp only [slS,ho24,n2 (by omega),Bool.not_true,Bool.false_and,cond_false,slCs,List.nil_append,List.append_nil]
    ·have m7:=Nat.le_trans G8.le hm
     simp only [bS,ho24,cond_false,e6 m (Nat.le_trans G7.le m7),G7.bel m m7,G8.bel m hm,bCs,Bool.and_self]
     rfl
   | false =>
    intro hu
    simp at ho28 ho25 ho24 ho26
    have ho21:op ≠ 21:=by simpa using ho
    obtain ⟨nm1,v1,x,q1,hu⟩:=eb3_ok hu
    obtain ⟨_,hu⟩:=uD_ok hu
    cases hu
    have z7:=len0 (n3 (by omega) (by omega) (by omega) (by omega) (by omega) (by omega) (by omega) (by omega))
    have z8:=len0 (n4 (by omega) (by omega))
    subst z7 z8
    have o24:(op == 24)=false:=by rw [beq_eq_false_iff_ne]; omega
    have G1:=name_good q1 hv
    refine ⟨G1.pre,G1.ok,?_,fun m hm=>?_⟩
    ·rw [← G1.sl]
     have:cond (!seq name ⟨#[]⟩ && op != 2) [x] []=nmL name x:=by
      have:(op != 2)=true:=by simpa using c2
      unfold nmL
      rw [this,Bool.and_true]
      cases seq name ⟨#[]⟩ <;> rfl
     simp only [slS,o24,cond_false,this,slSs,slCs,List.append_nil]
    ·simp only [bS,o24,cond_false,e6 m (Nat.le_trans G1.le hm),G1.bel m hm,bSs,bCs,Bool.and_self]
  have a3 : ∀ c,szC c≤n + 1→∀ a lo nm vis r,gC false c a=true→okV nm vis→uC fs f2 f3 lo nm vis c=.ok r→Good nm r.1 vis (slC r.2.2) (fun m=>bC m r.2.2):=by
   rintro ⟨kind,name,slot,es,b⟩ h a lo nm vis r hg hv hu
   simp only [szC] at h
   simp only [gC,Bool.and_eq_true,Bool.false_or,beq_iff_eq] at hg
   obtain ⟨⟨⟨_,rfl⟩,_⟩,g6,g7⟩:=hg
   simp only [uC,uI_eq] at hu
   obtain ⟨r6,h6,hu⟩:=eb_ok hu
   obtain ⟨nm1,v1,vb,q1,hu⟩:=eb3_ok hu
   obtain ⟨nm2,v2,x,qn,q1⟩:=eb3_ok q1
   obtain ⟨nm3,v3,b3,q3,q1⟩:=eb3_ok q1
   cases q1
   cases hu
   have G1:=name_good qn hv
   have G2:=i2 b (by omega) _ _ _ _ _ g7 G1.ok q3
   refine ⟨G1.pre.trans G2.pre,okV_le hv (Nat.le_trans G1.le G2.le),?_,fun m hm=>?_⟩
   ·rw [← rng_app G1.le G2.le,← G1.sl,← G2.sl]
    simp only [slC]
   ·simp only [bC,G2.bel m hm,bEs_u hv (Nat.le_trans (Nat.le_trans G1.le G2.le) hm) es r6 h6,Bool.and_self]
  have a2 : ∀ l,szSs l≤n + 1→∀ a lo nm vis r,gSs false l a=true→okV nm vis→uSs fs f2 f3 lo nm vis l=.ok r→Good nm r.1 r.2.1 (slSs r.2.2) (fun m=>bSs m r.2.2):=by
   intro l
   induction l with
   | nil=>intro h a lo nm vis r _ hv hu; simp only [uSs] at hu; cases hu; exact ⟨List.prefix_refl _,hv,(rng_self _).symm,fun _ _=>rfl⟩
   | cons s l ih =>
    intro h a lo nm vis r hg hv hu
    simp only [szSs] at h
    simp only [gSs,Bool.and_eq_true] at hg
    simp only [uSs] at hu
    obtain ⟨nm1,v1,x,q1,hu⟩:=eb3_ok hu
    obtain ⟨nm2,v2,y,q2,hu⟩:=eb3_ok hu
    cases hu
    have G1:=a1 s (by omega) _ _ _ _ _ hg.1 hv q1
    have G2:=ih (by omega) _ _ _ _ _ hg.2 G1.ok q2
    refine ⟨G1.pre.trans G2.pre,G2.ok,?_,fun m hm=>?_⟩
    ·rw [← rng_app G1.le G2.le,← G1.sl,← G2.sl]
     simp only [slSs]
    ·simp only [bSs,G1.bel m (Nat.le_trans G2.le hm),G2.bel m hm,Bool.and_self]
  have a4 : ∀ l,szCs l≤n + 1→∀ a lo nm vis r,gCs false l a=true→okV nm vis→uCs fs f2 f3 lo nm vis l=.ok r→Good nm r.1 vis (slCs r.2.2) (fun m=>bCs m r.2.2):=by
   intro l
   induction l with
   | nil=>intro h a lo nm vis r _ hv hu; simp only [uCs] at hu; cases hu; exact ⟨List.prefix_refl _,hv,(rng_self _).symm,fun _ _=>rfl⟩
   | cons s l ih =>
    intro h a lo nm vis r hg hv hu
    obtain ⟨kind,name,slot,es,b⟩:=s
    simp only [szCs] at h
    simp only [gCs,Bool.and_eq_true] at hg
    simp only [uCs] at hu
    obtain ⟨nm1,v1,x,q1,hu⟩:=eb3_ok hu
    obtain ⟨nm2,v2,y,q2,hu⟩:=eb3_ok hu
    cases hu
    have G1:=a3 _ (by omega) _ _ _ _ _ hg.1.2 hv q1
    have G2:=ih (by omega) _ _ _ _ _ hg.2 G1.ok q2
    refine ⟨G1.pre.trans G2.pre,G2.ok,?_,fun m hm=>?_⟩
    ·rw [← rng_app G1.le G2.le,← G1.sl,← G2.sl]
     simp only [slCs]
    ·simp only [bCs,G1.bel m (Nat.le_trans G2.le hm),G2.bel m hm,Bool.and_self]
  exact ⟨a1,a2,a3,a4⟩
end
end Go.Proofs.YtoajecnoffhlbaaDoor
namespace Go.Proofs.YtoajecnoffhlbaaDoor
open Go
def nameP:DParam→ByteArray | .mk a _=>a
theorem uPs_good : ∀ (ps:List DParam) (nm:List ByteArray) (vis:List Nat) (r:List ByteArray × List Nat × Unit),okV nm vis→uPs nm vis ps=.ok r→r.1=nm ++ ps.map nameP∧okV r.1 r.2.1
 | [],nm,vis,r,hv,h=>by cases h; exact ⟨by simp,hv⟩
 | .mk a kd :: l,nm,vis,r,hv,h=>by
  unfold uPs at h
  obtain ⟨nm1,vis1,x,h1,h⟩:=eb3_ok h
  unfold uMk at h1
  revert h1
  cases slotOf nm vis a with
  | some v=>intro h1; cases h1
  | none =>
   intro h1
   cases h1
   have hv1:okV (nm ++ [a]) (vis ++ [nm.length]):=fun v hv'=>by
    rw [List.mem_append,List.mem_singleton] at hv'
    rw [List.length_append,List.length_singleton]
    rcases hv' with h | rfl
    ·have:=hv v h; omega
    ·omega
   obtain ⟨h2,h3⟩:=uPs_good l _ _ r hv1 h
   exact ⟨by rw [h2]; simp [nameP],h3⟩
def GoodF (g:DFunc) (m:List ByteArray):Prop:=match g with
 | .mk n ps r fl v b=>v=(m.length:Int)∧ps.map nameP <+: m∧slSs b=rng ps.length m.length∧bSs m.length b=true∧m.length≤32
theorem uF_good (fs:List DFunc) (f:DFunc) (g:DFunc) (m:List ByteArray) (hg:match f with | .mk n ps res fl v b=>gSs false b 1=true) (h:uF fs f=.ok (g,m)):GoodF g m:=by
 obtain ⟨n,ps,res,fl,v,b⟩:=f
 unfold uF at h
 obtain ⟨nm,vis,_,h3,h1⟩:=eb3_ok h
 obtain ⟨nm1,vis1,b',h4,h1⟩:=eb3_ok h1
 obtain ⟨h5,h1⟩:=uD_ok h1
 cases h1
 obtain ⟨e1,hv⟩:=uPs_good ps [] [] _ (fun v hv=>by cases hv) h3
 simp only [List.nil_append] at e1 hv
 have G:=(uS_good fs res fl (szSs b)).2.1 b (Nat.le_refl _) 1 0 nm vis _ hg hv h4
 have e2:nm.length=ps.length:=by rw [e1]; simp
 refine ⟨rfl,e1 ▸ G.pre,?_,G.bel _ (Nat.le_refl _),by simpa using h5⟩
 rw [← e2]; exact G.sl
theorem f4_l3_eq (k i:Nat) (m:List ByteArray) (nx:Nat→Option Bool) : ∀ (ps:List DParam) (j:Nat),(∀ t a kd,ps[t]?=some (.mk a kd)→m[j + t]?=some a)→f4_l3 k i m nx ps j=nx (i + 1)
 | [],j,h=>rfl
 | .mk a kd :: ps,j,h=>by
  have h0:=h 0 a kd rfl
  rw [Nat.add_zero] at h0
  have hi:idxO m (j:Int)=some a:=by unfold idxO; simp [h0]
  unfold f4_l3
  simp only [hi,Option.bind_some,seq_refl,Bool.not_true,cond_false]
  exact f4_l3_eq k i m nx ps (j + 1) fun t b kd' ht=>by
   have:=h (t + 1) b kd' (by simpa using ht)
   rwa [show j + 1 + t=j + (t + 1) by omega]
theorem f4_l2_eq (k i:Nat) (ps:List DParam) (m:List ByteArray) (nx:Nat→Option Bool) : ∀ (c j:Nat),ps.length + j + c≤1000→f4_l2 k i ps m nx ((List.range' (ps.length + j) c).map fun (n:Nat)=>(n:Int)) j=f4_l3 k i m nx ps 0
 | 0,j,h=>rfl
 | c + 1,j,h=>by
  rw [List.range'_succ,List.map_cons]
  unfold f4_l2
  have e:w64 ((ps.length:Int) + (j:Int))=((ps.length + j:Nat):Int):=w64_nat (by omega) (by omega)
  simp only [e,bne_self_eq_false,cond_false]
  exact f4_l2_eq k i ps m nx c (j + 1) (by omega)
theorem rng_len (a b:Nat):(rng a b).length=b - a:=by unfold rng; simp
theorem f4_l1_eq (k:Nat) (q:List DFunc) (nl:List (List ByteArray)) (hN:f6 k=some true) (hk:szFs q + 1≤k) (hb:szFs q≤100000) (h11 : ∀ i:Nat,i < q.length→∀ m,nl[i]?=some m→f11 k (.mk q) (i:Int)=some (m,0))
  (hg : ∀ (i:Nat) (g:DFunc),q[i]?=some g→∃ m,nl[i]?=some m∧GoodF g m) : ∀ (rest pre:List DFunc),q=pre ++ rest→f4_l1 k q rest pre.length=some true
 | [],pre,h=>by unfold f4_l1; simp [hN]
 | .mk n ps r fl v b :: rest,pre,h=>by
  have hq:q[pre.length]?=some (.mk n ps r fl v b):=by rw [h]; simp
  obtain ⟨m,hm,rfl,hp,hs,hbl,h32⟩:=hg _ _ hq
  have hlt:pre.length < q.length:=(List.getElem?_eq_some_iff.1 hq).1
  have hsz:szSs b≤szFs q:=by
   rw [h]
   have : ∀ l:List DFunc,szSs b≤szFs (l ++ .mk n ps r fl (m.length:Int) b :: rest):=by
    intro l
    induction l with
    | nil=>simp only [List.nil_append,szFs,szF]; omega
    | cons x l ih=>simp only [List.cons_append,szFs]; omega
   exact this pre
  have h10:=f10_eq k b (m.length:Int) (by omega) (by omega)
  have hple:ps.length≤m.length:=by have:=hp.length_le; simpa using this
  have ih:=f4_l1_eq k q nl hN hk hb h11 hg rest (pre ++ [.mk n ps r fl (m.length:Int) b]) (by rw [h]; simp)
  rw [app_len] at ih
  unfold f4_l1 f4_j1
  rw [hs,hbl] at h10
  simp only [h10,h11 _ hlt m hm,Option.bind_some,Bool.not_true,cond_false,bne_self_eq_false,rng_len]
  have e:w64 ((ps.length:Int) + ((m.length - ps.length:Nat):Int))=(m.length:Int):=w64_nat (by omega) (by omega)
  have e2:decide ((m.length:Int) > 32)=false:=by simp; omega
  simp only [e,bne_self_eq_false,cond_false,e2]
  have h2:=f4_l2_eq k pre.length ps m (f4_l1 k q rest) (m.length - ps.length) 0 (by omega)
  rw [Nat.add_zero] at h2
  unfold rng
  rw [h2,f4_l3_eq k pre.length m _ ps 0 ?_]
  ·exact ih
  ·intro t a kd ht
   obtain ⟨ext,rfl⟩:=hp
   rw [Nat.zero_add,List.getElem?_append_left (by simp; exact (List.getElem?_eq_some_iff.1 ht).1)]
   simp [ht,nameP]
theorem szFs_g {z:Bool} : ∀ l,gFs z l=true→szFs l≤cnFs l + 4 * l.length
 | [],h=>by simp [szFs]
 | .mk n ps r fl v b :: l,h=>by
  simp only [gFs,headF,Bool.and_eq_true,decide_eq_true_eq] at h
  have:=szFs_g l h.2.2.2
  have hp:=h.1.1.1.1.1.2
  simp only [szFs,szF,cnFs,cnF,List.length_cons]
  omega
theorem szP_wf {z:Bool} {p:DProgram} (h:wf z p=true):szP p≤1000:=by
 obtain ⟨fs⟩:=p
 simp only [wf,Bool.and_eq_true,decide_eq_true_eq] at h
 have:=szFs_g fs h.1.2
 simp only [szP]
 omega
theorem f4_eq (k:Nat) (p:DProgram) (hk:2 * szP p + 2500≤k) (hf:fitP p):f4 (k + 100) p=some true:=by
 obtain ⟨b,h5⟩:=f5_tot (k + 100) p (by omega)
 have h7:=f7_uP (k + 100) p (by omega) (by omega)
 obtain ⟨fs⟩:=p
 unfold f4 f4_b
 simp only [h5,f6_eq,h7,Option.bind_some]
 cases b with
 | false=>rfl
 | true =>
  simp only [Bool.not_true,cond_false]
  cases hu:uP (.mk fs) with
  | error c =>
   have hc:(c != 0)=true:=by simpa using uP_err hu
   simp only [hc,cond_true]
  | ok y =>
   obtain ⟨⟨q⟩,nl⟩:=y
   have e:=stP_u _ _ _ hu
   obtain ⟨hw,_,_,z,hz,h4⟩:=uP_ok hu
   cases hz
   have hb:szP (.mk fs)≤100000:=Nat.le_trans (szP_wf hw) (by decide)
   have hsz:szP (.mk q)=szP (.mk fs):=by rw [← szP_st (.mk q),e]
   have hfq:fitP (.mk q):=fitP_st _ (by rw [e]; exact hf)
   have hur:uFr (.mk q)=.ok (.mk q,nl):=by
    unfold uFr
    rw [wf_u hu,e,hu]
    rfl
   obtain ⟨hnl,hat⟩:=uFs_at fs fs q nl h4
   have hql:q.length=fs.length:=by have:=congrArg (fun p=>match p with | DProgram.mk l=>l.length) e; simpa [stP,stFs_len] using this
   simp only [bne_self_eq_false,cond_false]
   have hw':=hw
   simp only [wf,Bool.and_eq_true,decide_eq_true_eq] at hw'
   have key:=f4_l1_eq (k + 100) q nl (f6_eq k) (by simp only [szP] at hsz hk; omega) (by simp only [szP] at hsz hb; omega)
    (fun i hi m hm=>by
     have:=f11_eq (k + 100) q (i:Int) (by rw [hsz]; omega) (by omega) hfq
     rw [hur] at this
     rw [this]
     have e1:decide (0≤(i:Int))=true:=by simp
     have e2:decide ((i:Int) < (q.length:Int))=true:=by simp; exact hi
     simp only [e1,e2,Bool.and_self,cond_true,Int.toNat_natCast,hm])
    (fun i g hg=>by
     have hi:i < fs.length:=by rw [← hql]; exact (List.getElem?_eq_some_iff.1 hg).1
     obtain ⟨f,hfi⟩ : ∃ f,fs[i]?=some f:=⟨_,List.getElem?_eq_getElem hi⟩
     obtain ⟨g',m,h1,h2,h3⟩:=hat i f hfi
     rw [hg] at h3
     cases h3
     have hbd:=szSs_bound (List.mem_of_getElem? hfi) hw'.2 hw'.1.2
     exact ⟨m,h2,uF_good fs f g m (by obtain ⟨a0,a1,a2,a3,a4,a5⟩:=f; exact hbd.2.2) h1⟩) q [] rfl
   exact key
end Go.Proofs.YtoajecnoffhlbaaDoor
