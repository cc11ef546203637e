/- Words of the same proof, part 6: what the last text needs; nothing is claimed here. -/
import Derived.Test.YtoajecnoffhlbaaGreatDoorA5
import Derived.ProofKit
set_option linter.unusedVariables false
set_option linter.unusedSimpArgs false
namespace Go.Proofs.YtoajecnoffhlbaaGreatDoor
open Go
def shp (op:Int):Option (Int × Bool × Int × Int × Bool × Int) :=
 match op with
 | 1=>some (1,false,1,1,false,0) | 2=>some (1,false,1,1,false,0) | 3=>some (2,true,0,600,false,0) | 4=>some (2,true,0,600,false,0)
 | 5=>some (2,false,1,1,false,0) | 6=>some (2,false,1,1,false,1) | 7=>some (1,false,1,1,false,2) | 8=>some (1,false,1,1,false,0)
 | 9=>some (1,false,0,0,false,0) | 10=>some (0,false,2,2,false,0) | 11=>some (0,false,1,1,false,0) | 12=>some (0,false,1,1,false,0)
 | 13=>some (0,false,0,0,false,0) | 14=>some (0,false,1,1,false,0) | 15=>some (0,false,1,1,false,0) | 16=>some (0,false,1,1,false,0)
 | 17=>some (0,false,0,1,false,0) | 18=>some (0,false,0,0,false,0) | 19=>some (0,false,0,0,false,0) | 20=>some (0,false,1,1,true,1)
 | 21=>some (0,false,1,1,true,0) | 22=>some (0,false,0,1,true,1) | 23=>some (0,false,0,0,true,0) | 24=>some (2,false,0,0,true,3)
 | 25=>some (1,false,1,1,true,0) | 26=>some (0,false,1,1,true,0) | 27=>some (0,false,0,0,false,0) | 28=>some (1,true,0,600,true,66)
 | 29=>some (0,false,1,1,false,0) | _=>none
theorem op_cases {P:Int→Prop} (op:Int) (h : ∀ n:Nat,n < 29→P ((n + 1:Nat):Int)) (h0:op < 1∨op > 29→P op):P op:=by
 by_cases h1:op < 1∨op > 29
 ·exact h0 h1
 ·obtain ⟨n,rfl⟩ : ∃ n:Nat,op=((n + 1:Nat):Int):=⟨(op - 1).toNat,by omega⟩
  exact h n (by omega)
theorem shp_none {op:Int} (h:op < 1∨op > 29):shp op=none:=by
 unfold shp
 split <;> first | rfl | (exfalso; omega)
def toR:Option (Int × Bool × Int × Int × Bool × Int)→DShape × Bool
 | none=>(.mk 0 0 0 false false 0,false)
 | some (nm,fr,lo,hi,bd,fl)=>(.mk lo hi nm fr bd fl,true)
theorem f109_eq (k:Nat) (op:Int):f109 k op=some (toR (shp op)):=by
 refine op_cases (P:=fun op=>f109 k op=some (toR (shp op))) op ?_ ?_
 ·intro n hn
  match n,hn with
  | 0,_=>rfl | 1,_=>rfl | 2,_=>rfl | 3,_=>rfl | 4,_=>rfl | 5,_=>rfl | 6,_=>rfl | 7,_=>rfl | 8,_=>rfl | 9,_=>rfl
  | 10,_=>rfl | 11,_=>rfl | 12,_=>rfl | 13,_=>rfl | 14,_=>rfl | 15,_=>rfl | 16,_=>rfl | 17,_=>rfl | 18,_=>rfl | 19,_=>rfl
  | 20,_=>rfl | 21,_=>rfl | 22,_=>rfl | 23,_=>rfl | 24,_=>rfl | 25,_=>rfl | 26,_=>rfl | 27,_=>rfl | 28,_=>rfl
  | n + 29,h=>omega
 ·intro h
  rw [shp_none h]
  have e : ∀ c:Int,1≤c→c≤29→(op == c)=false:=fun c h1 h2=>by rw [beq_eq_false_iff_ne]; omega
  unfold f109 f109_b f109_j1 f109_j2 f109_j3 f109_j4 f109_j5
  simp [e,toR]
def toN:Option (Int × Bool × Int × Int × Bool × Int)→Option Dshape
 | none=>none
 | some (nm,fr,lo,hi,bd,fl)=>some (.mk nm fr lo (if hi=600 then 601 else hi) bd)
theorem mget_none (op:Int) : ∀ L:List (Int × Dshape),(∀ x ∈ L,qI op x.1=false)→mget qI op L=none
 | [],_=>rfl
 | (a,v) :: L,h=>by
  unfold mget
  rw [if_neg (by rw [h (a,v) (by simp)]; simp)]
  exact mget_none op L fun x hx=>h x (by simp [hx])
theorem f150_eq (k:Nat) (op:Int):(f150 k).bind (fun r=>some (mget qI op r))=some (toN (shp op)):=by
 refine op_cases (P:=fun op=>(f150 k).bind (fun r=>some (mget qI op r))=some (toN (shp op))) op ?_ ?_
 ·intro n hn
  match n,hn with
  | 0,_=>rfl | 1,_=>rfl | 2,_=>rfl | 3,_=>rfl | 4,_=>rfl | 5,_=>rfl | 6,_=>rfl | 7,_=>rfl | 8,_=>rfl | 9,_=>rfl
  | 10,_=>rfl | 11,_=>rfl | 12,_=>rfl | 13,_=>rfl | 14,_=>rfl | 15,_=>rfl | 16,_=>rfl | 17,_=>rfl | 18,_=>rfl | 19,_=>rfl
  | 20,_=>rfl | 21,_=>rfl | 22,_=>rfl | 23,_=>rfl | 24,_=>rfl | 25,_=>rfl | 26,_=>rfl | 27,_=>rfl | 28,_=>rfl
  | n + 29,h=>omega
 ·intro h
  rw [shp_none h]
  obtain ⟨L,hL,hA⟩ : ∃ L,f150 k=some L∧(L.all fun x=>decide (1≤x.1) && decide (x.1≤29))=true:=⟨_,rfl,rfl⟩
  rw [hL]
  simp only [Option.bind_some]
  rw [mget_none op L]
  ·rfl
  ·intro x hx
   have:=List.all_eq_true.mp hA x hx
   simp only [Bool.and_eq_true,decide_eq_true_eq] at this
   unfold qI; rw [beq_eq_false_iff_ne]; omega
def flagN (op:Int) (name:ByteArray) (flag:Int) (l8 l9:Int):Bool :=
 let b0:=(IntKind.i64.wrap (BitVec.ofInt IntKind.i64.bits flag &&& BitVec.ofInt IntKind.i64.bits 1).toNat) == 1
 let b1:=(IntKind.i64.wrap (BitVec.ofInt IntKind.i64.bits flag &&& BitVec.ofInt IntKind.i64.bits 2).toNat) == 2
 cond (op == 6) (decide (flag ≥ 0) && decide (flag≤1) && (flag == 0 || !seq name ⟨#[]⟩) && l8 == 0 && l9 == 0)
 (cond (op == 7) (decide (flag ≥ 0) && decide (flag≤2) && l8 == 0 && l9 == 0)
 (cond (op == 22) (decide (flag ≥ 0) && decide (flag≤1) && l8 == 0 && l9 == 0)
 (cond (op == 20) (decide (flag ≥ 0) && decide (flag≤1) && (flag == 1 || l8 == 0) && l9 == 0)
 (cond (op == 24) (decide (flag ≥ 1) && decide (flag≤3) && ((!seq name ⟨#[]⟩) == b0) && (b0 || l8 == 0) && (b1 || l9 == 0))
 (cond (op == 28) (decide (flag ≥ 0) && decide (flag≤66) && decide (flag.tmod 4 < 3) && l8 == 0 && l9 == 0)
  (flag == 0 && l8 == 0 && l9 == 0))))))
theorem f151_eq (k:Nat) (op:Int) (name:ByteArray) (s2:Int) (fr:ByteArray) (s4 flag:Int) (l6:List DExpr) (l7 l8 l9:List DStmt) (l10:List DCase) :
  f151 k (.mk op name s2 fr s4 flag l6 l7 l8 l9 l10)=some (flagN op name flag l8.length l9.length):=by
 unfold f151 f151_b f151_j3 f151_j1 f151_j2 flagN
 simp only [f116_eq,Option.bind_some,Bool.cond_eq_ite]
 generalize (IntKind.i64.wrap (BitVec.ofInt IntKind.i64.bits flag &&& BitVec.ofInt IntKind.i64.bits 1).toNat == 1)=b0
 generalize (IntKind.i64.wrap (BitVec.ofInt IntKind.i64.bits flag &&& BitVec.ofInt IntKind.i64.bits 2).toNat == 2)=b1
 generalize ((l8.length:Int) == 0)=c8
 generalize ((l9.length:Int) == 0)=c9
 generalize seq name ⟨#[]⟩=e
 grind (splits:=20)
def nameN (nm:Int) (fr:Bool) (name from_:ByteArray):Bool :=
 (seq name ⟨#[]⟩ || (!(nm == 0) && isN name)) && (!seq name ⟨#[]⟩ || !(nm == 1)) && ((!seq from_ ⟨#[]⟩) == fr) && (!fr || isN from_)
def argsN (op lo hi:Int) (bd:Bool) (l6 l7 l10:Int):Bool :=
 decide (l6 ≥ lo) && decide (l6≤hi) && (bd || !decide (l7 > 0)) && (cond (op == 27) (decide (l10 ≥ 1) && decide (l10≤4)) (!decide (l10 > 0)))
section
variable (k:Nat) (F:Fam118) (op:Int) (name:ByteArray) (s2:Int) (from_:ByteArray) (s4 flag:Int) (l6:List DExpr) (l7 l8 l9:List DStmt) (l10:List DCase) (a nm:Int) (fr:Bool) (lo hi:Int) (bd:Bool) (n d:Int) (z q:Bool)
theorem f138_j3_eq:f138_j3 k F op l6 l7 l8 l9 l10 a lo hi bd n d z q =
  cond (!q && argsN op lo hi bd l6.length l7.length l10.length) (f138_l1 k F l6 l7 l8 l9 l10 a l10 0 n d z) (some (.mk n d z,false)):=by
 unfold f138_j3 f138_j4 argsN
 simp only [f116_eq,Option.bind_some,Bool.cond_eq_ite]
 grind (splits:=20)
theorem f138_j2_eq:f138_j2 k F op name from_ l6 l7 l8 l9 l10 a nm fr lo hi bd n d z q =
  cond (!q && nameN nm fr name from_ && argsN op lo hi bd l6.length l7.length l10.length) (f138_l1 k F l6 l7 l8 l9 l10 a l10 0 n d z) (some (.mk n d z,false)):=by
 unfold f138_j2 nameN
 simp only [f63_eq,f138_j3_eq,Option.bind_some,Bool.cond_eq_ite]
 grind (splits:=20)
theorem f138_j1_eq:f138_j1 k F n d z op name s2 from_ s4 flag l6 l7 l8 l9 l10 a nm fr lo hi bd true =
  (f117 k (.mk n d z) a).bind fun x=>match x with
   | (.mk n1 d1 z1,ok)=>cond (ok && ((s2 == 0 && s4 == 0) || z1) && flagN op name flag l8.length l9.length && nameN nm fr name from_ && argsN op lo hi bd l6.length l7.length l10.length)
    (f138_l1 k F l6 l7 l8 l9 l10 a l10 0 n1 d1 z1) (some (.mk n1 d1 z1,false)):=by
 unfold f138_j1
 simp only [Bool.not_true,cond_false]
 congr 1
 funext x
 obtain ⟨⟨n1,d1,z1⟩,ok⟩:=x
 simp only [f151_eq,f138_j2_eq,Option.bind_some,Bool.cond_eq_ite]
 grind (splits:=20)
end
def nameR (nm:Int) (name:ByteArray):Bool:=(nm == 0 && seq name ⟨#[]⟩) || (nm == 1 && isN name) || (nm == 2 && (seq name ⟨#[]⟩ || isN name))
def fromR (fr:Bool) (from_:ByteArray):Bool:=cond fr (isN from_) (seq from_ ⟨#[]⟩)
def flagR (op:Int) (name:ByteArray) (flag:Int) (l8 l9:Int):Bool :=
 (l8 == 0 || (op == 20 && flag == 1) || (op == 24 && flag.tmod 2 == 1)) && (l9 == 0 || (op == 24 && decide (flag ≥ 2))) &&
 cond (op == 6) (flag == 0 || !seq name ⟨#[]⟩) (cond (op == 24) (decide (flag > 0) && ((flag.tmod 2 == 1) == !seq name ⟨#[]⟩)) (cond (op == 28) (decide (flag.tmod 4 < 3)) true))
def casesR (op l10:Int):Bool:=((op == 27) == decide (l10 > 0)) && decide (l10≤4)
section
variable (k:Nat) (F:Fam61) (op:Int) (name:ByteArray) (s2:Int) (from_:ByteArray) (s4 flag:Int) (l6:List DExpr) (l7 l8 l9:List DStmt) (l10:List DCase) (a nm:Int) (fr:Bool) (lo hi:Int) (bd:Bool) (n d:Int) (z q:Bool)
theorem f90_j7_eq:f90_j7 k F op l6 l7 l8 l9 l10 a n d q=f90_l2 k F l7 l8 l9 l10 a l6 0 n d (q || !casesR op l10.length):=by
 unfold f90_j7 f90_j8 casesR
 simp only [f59_eq,Option.bind_some,Bool.cond_eq_ite]
 generalize f90_l2 k F l7 l8 l9 l10 a l6 0 n d=Q
 obtain ⟨A,B,rfl⟩:=bfun Q
 grind (splits:=20)
theorem f90_j4_eq:f90_j4 k F op name flag l6 l7 l8 l9 l10 a n d q=f90_l2 k F l7 l8 l9 l10 a l6 0 n d (q || !(flagR op name flag l8.length l9.length && casesR op l10.length)):=by
 unfold f90_j4 f90_j5 f90_j6 flagR
 simp only [f59_eq,f90_j7_eq,Option.bind_some,Bool.cond_eq_ite]
 generalize f90_l2 k F l7 l8 l9 l10 a l6 0 n d=Q
 generalize casesR op l10.length=c
 generalize (flag.tmod 2 == 1)=b0
 obtain ⟨A,B,rfl⟩:=bfun Q
 grind (splits:=30)
theorem f90_j1_eq:f90_j1 k F op name from_ flag l6 l7 l8 l9 l10 a nm fr bd n d q=f90_l2 k F l7 l8 l9 l10 a l6 0 n d (q || !(nameR nm name && fromR fr from_ && (bd || (l7.length:Int) == 0) && flagR op name flag l8.length l9.length && casesR op l10.length)):=by
 unfold f90_j1 f90_j2 f90_j3 nameR fromR
 simp only [f59_eq,f34_eq,f90_j4_eq,Option.bind_some,Bool.cond_eq_ite]
 generalize f90_l2 k F l7 l8 l9 l10 a l6 0 n d=Q
 generalize casesR op l10.length=c
 generalize flagR op name flag l8.length l9.length=c2
 generalize ((l7.length:Int) == 0)=c7
 obtain ⟨A,B,rfl⟩:=bfun Q
 generalize isN name=n1
 generalize isN from_=n2
 generalize seq name ⟨#[]⟩=e1
 generalize seq from_ ⟨#[]⟩=e2
 grind (splits:=30)
end
def nodeN (op:Int) (name from_:ByteArray) (flag:Int) (l6 l7 l8 l9 l10:Nat):Bool :=
 match shp op with
 | none=>false
 | some (nm,fr,lo,hi,bd,fl)=>flagN op name flag l8 l9 && nameN nm fr name from_ && argsN op lo (if hi=600 then 601 else hi) bd l6 l7 l10
def nodeS (op:Int) (name from_:ByteArray) (flag:Int) (l6 l7 l8 l9 l10:Nat):Bool :=
 match shp op with
 | none=>false
 | some (nm,fr,lo,hi,bd,fl)=>decide ((l6:Int) ≥ lo) && decide ((l6:Int)≤hi) && decide (flag ≥ 0) && decide (flag≤fl) && (nameR nm name && fromR fr from_ && (bd || (l7:Int) == 0) && flagR op name flag l8 l9 && casesR op l10)
theorem isN_ne {s:ByteArray} (h:isN s=true):seq s ⟨#[]⟩=false:=by
 unfold isN at h; cases hs:seq s ⟨#[]⟩ with
 | false=>rfl
 | true=>rw [hs] at h; simp at h
theorem bits (flag:Int) (h1:1≤flag) (h2:flag≤3):(IntKind.i64.wrap (BitVec.ofInt IntKind.i64.bits flag &&& BitVec.ofInt IntKind.i64.bits 1).toNat == 1)=(flag.tmod 2 == 1) ∧
  (IntKind.i64.wrap (BitVec.ofInt IntKind.i64.bits flag &&& BitVec.ofInt IntKind.i64.bits 2).toNat == 2)=decide (flag ≥ 2):=by
 rcases (by omega:flag=1∨flag=2∨flag=3) with rfl | rfl | rfl <;> exact ⟨rfl,rfl⟩
theorem nodeNS (op:Int) (name from_:ByteArray) (flag:Int) (l6 l7 l8 l9 l10:Nat) (h6:l6≤600):nodeN op name from_ flag l6 l7 l8 l9 l10=nodeS op name from_ flag l6 l7 l8 l9 l10:=by
 have hn:=@isN_ne name
 have hf:=@isN_ne from_
 have hb:=bits flag
 unfold nodeN nodeS flagN nameN argsN nameR fromR flagR casesR
 generalize (IntKind.i64.wrap (BitVec.ofInt IntKind.i64.bits flag &&& BitVec.ofInt IntKind.i64.bits 1).toNat == 1)=b0 at hb ⊢
 generalize (IntKind.i64.wrap (BitVec.ofInt IntKind.i64.bits flag &&& BitVec.ofInt IntKind.i64.bits 2).toNat == 2)=b1 at hb ⊢
 generalize isN name=n1 at hn ⊢
 generalize isN from_=n2 at hf ⊢
 generalize seq name ⟨#[]⟩=e1 at hn ⊢
 generalize seq from_ ⟨#[]⟩=e2 at hf ⊢
 generalize flag.tmod 2=t2 at hb ⊢
 generalize flag.tmod 4=t4
 by_cases hop:op < 1∨op > 29
 ·rw [shp_none hop]
 rcases (by omega:op=1∨op=2∨op=3∨op=4∨op=5∨op=6∨op=7∨op=8∨op=9∨op=10∨op=11∨op=12∨op=13∨op=14∨op=15∨op=16∨op=17∨op=18∨op=19∨op=20∨op=21∨op=22∨op=23∨op=24∨op=25∨op=26∨op=27∨op=28∨op=29) with rfl | rfl | rfl | rfl | rfl | rfl | rfl | rfl | rfl | rfl | rfl | rfl | rfl | rfl | rfl | rfl | rfl | rfl | rfl | rfl | rfl | rfl | rfl | rfl | rfl | rfl | rfl | rfl | rfl <;>
  simp only [shp,Int.reduceBEq,cond_true,cond_false,Int.reduceEq,if_true,if_false] <;> grind (splits:=20)
def nodeC (kind:Int) (name:ByteArray) (len:Int):Bool :=
 decide (kind ≥ 1) && decide (kind≤4) && len == (cond (kind == 2) 2 (cond (kind == 4) 0 1)) && cond (kind == 1) (isN name) (seq name ⟨#[]⟩)
mutual
def gS (z:Bool):DStmt→Nat→Bool
 | .mk op name s2 fr s4 flag l6 l7 l8 l9 l10,a=>decide (a≤16) && (z || (s2 == 0 && s4 == 0)) && nodeS op name fr flag l6.length l7.length l8.length l9.length l10.length &&
  (gEs z l6 (a + 1) && (gSs z l7 (a + 1) && (gSs z l8 (a + 1) && (gSs z l9 (a + 1) && gCs z l10 (a + 1)))))
def gSs (z:Bool):List DStmt→Nat→Bool
 | [],_=>true
 | s :: l,a=>gS z s a && gSs z l a
def gC (z:Bool):DCase→Nat→Bool
 | .mk kind name slot es b,a=>decide (a≤16) && (z || slot == 0) && nodeC kind name es.length && (gEs z es (a + 1) && gSs z b (a + 1))
def gCs (z:Bool):List DCase→Nat→Bool
 | [],_=>true
 | .mk kind name slot es b :: l,a=>(!(kind == 4) || l.isEmpty) && gC z (.mk kind name slot es b) a && gCs z l a
end
theorem szS_pos : ∀ e:DStmt,1≤szS e
 | .mk _ _ _ _ _ _ _ _ _ _ _=>by simp only [szS]; omega
theorem szC_pos : ∀ e:DCase,1≤szC e
 | .mk _ _ _ _ _=>by simp only [szC]; omega
theorem NRes.bind {r:Option (Dcounter × Bool)} {f:Dcounter × Bool→Option (Dcounter × Bool)} {g1 g2:Bool} {n s1 s2:Nat} {z:Bool} (h1:NRes r g1 n s1 z)
  (hf : ∀ c,∃ c',f (c,false)=some (c',false)) (h2 : ∀ d,n + s1≤600→NRes (f (.mk ((n + s1:Nat):Int) d z,true)) g2 (n + s1) s2 z):NRes (r.bind f) (g1 && g2) n (s1 + s2) z:=by
 obtain ⟨c,rfl,hc⟩:=h1
 by_cases hg:(g1 && decide (n + s1≤600))=true
 ·obtain ⟨d,rfl⟩:=hc hg
  rw [Bool.and_eq_true,decide_eq_true_eq] at hg
  obtain ⟨h3,h4⟩:=hg
  subst h3
  simp only [h4,decide_true,Bool.and_self,Bool.true_and,Option.bind_some]
  obtain ⟨c,h5,h6⟩:=h2 d h4
  rw [Nat.add_assoc] at h5 h6
  exact ⟨c,h5,h6⟩
 ·have hg' : (g1 && decide (n + s1≤600))=false:=by simpa using hg
  rw [hg']
  obtain ⟨c',h⟩:=hf c
  refine .no h ?_
  rw [Bool.and_eq_false_iff,decide_eq_false_iff_not] at hg' ⊢
  rcases hg' with h | h
  ·left; rw [h]; rfl
  ·right; omega
theorem NRes.conv {r:Option (Dcounter × Bool)} {g g' : Bool} {n s n' s' : Nat} {z:Bool} (h:NRes r g n s z) (hs:n + s=n' + s') (hg:n + s≤600→g=g'):NRes r g' n' s' z:=by
 unfold NRes at h ⊢
 rw [← hs]
 have:(g && decide (n + s≤600))=(g' && decide (n + s≤600)):=by
  by_cases h:n + s≤600
  ·rw [hg h]
  ·simp [h]
 rwa [← this]
theorem f153_res (k:Nat) (z:Bool) (l:List DExpr) (hk:2 * szEs l + 1≤k) (n:Nat) (d:Int) (a:Nat) (hn:n≤600) (ha:a≤17):NRes (f153 k (.mk n d z) l a) (gEs z l a) n (szEs l) z :=
 (nE k z k).2 l hk n d a hn ha
theorem mget4 (kind:Int):mget qI kind (mput qI 4 0 (mput qI 3 1 (mput qI 2 2 (mput qI 1 1 ([]:List (Int × Int)))))) =
  cond (decide (kind ≥ 1) && decide (kind≤4)) (some (cond (kind == 2) 2 (cond (kind == 4) 0 1))) none:=by
 have e:mput qI 4 0 (mput qI 3 1 (mput qI 2 2 (mput qI 1 1 ([]:List (Int × Int)))))=[(1,1),(2,2),(3,1),(4,0)]:=rfl
 rw [e]
 unfold mget mget mget mget mget qI
 simp only [Bool.cond_eq_ite]
 grind
theorem f152_b_eq (k:Nat) (F:Fam118) (kind:Int) (name:ByteArray) (slot:Int) (es:List DExpr) (b:List DStmt) (a n d:Int) (z:Bool) :
  f152_b k F (.mk n d z) (.mk kind name slot es b) a=cond (decide (kind ≥ 1) && decide (kind≤4)) ((f117 k (.mk n d z) a).bind fun x=>match x with
   | (.mk n1 d1 z1,ok)=>cond (ok && (z1 || slot == 0) && nodeC kind name es.length) (f152_j1 k F es b a n1 d1 z1 false) (some (.mk n1 d1 z1,false))) (some (.mk n d z,false)):=by
 unfold f152_b
 simp only [mget4]
 by_cases hk:(decide (kind ≥ 1) && decide (kind≤4))=true
 ·simp only [hk,cond_true,mcase]
  congr 1
  funext x
  obtain ⟨⟨n1,d1,z1⟩,ok⟩:=x
  unfold f152_j1
  have hn:=@isN_ne name
  simp only [f63_eq,Option.bind_some,nodeC,hk,Bool.true_and]
  generalize (cond (kind == 2) (2:Int) (cond (kind == 4) 0 1))=e
  generalize isN name=n1 at hn ⊢
  generalize seq name ⟨#[]⟩=e1 at hn ⊢
  simp only [Bool.cond_eq_ite]
  grind (splits:=20)
 ·have hk' : (decide (kind ≥ 1) && decide (kind≤4))=false:=by simpa using hk
  simp only [hk',cond_false,mcase]
theorem argsN_len {op lo hi:Int} {bd:Bool} {l6 l7:Int} {l10:Nat} (h:argsN op lo hi bd l6 l7 l10=true):l10≤4:=by
 unfold argsN at h
 cases hop:(op == 27) <;> simp only [hop,cond_true,cond_false,Bool.and_eq_true,Bool.not_eq_true',decide_eq_true_eq,decide_eq_false_iff_not] at h <;> omega
theorem nSt (k:Nat) (z:Bool) : ∀ m,m≤k →
  (∀ s,2 * szS s≤m→∀ (n:Nat) (d:Int) (a:Nat),n≤600→a≤17→NRes ((fam118 k m).f138 (.mk n d z) s a) (gS z s a) n (szS s) z) ∧
  (∀ l,2 * szSs l + 1≤m→∀ (n:Nat) (d:Int) (a:Nat),n≤600→a≤17→NRes ((fam118 k m).f118 (.mk n d z) l a) (gSs z l a) n (szSs l) z) ∧
  (∀ c,2 * szC c≤m→∀ (n:Nat) (d:Int) (a:Nat),n≤600→a≤17→NRes ((fam118 k m).f152 (.mk n d z) c a) (gC z c a) n (szC c) z)
 | 0,_=>⟨fun e he=>by have:=szS_pos e; omega,fun l hl=>by omega,fun c hc=>by have:=szC_pos c; omega⟩
 | m + 1,hmk=>by
  obtain ⟨ihs,ihl,ihc⟩:=nSt k z m (by omega)
  refine ⟨?_,?_,?_⟩
  ·intro s hs n d a hn ha
   obtain ⟨op,name,s2,fr,s4,flag,l6,l7,l8,l9,l10⟩:=s
   simp only [szS] at hs
   show NRes (f138_b k (fam118 k m) (.mk n d z) (.mk op name s2 fr s4 flag l6 l7 l8 l9 l10) a) _ _ _ _
   have tail : ∀ (n:Nat) (d:Int),a≤16→n≤600→NRes (f138_l1 k (fam118 k m) l6 l7 l8 l9 l10 a [] l10.length n d z) (gEs z l6 (a + 1) && (gSs z l7 (a + 1) && (gSs z l8 (a + 1) && gSs z l9 (a + 1)))) n (szEs l6 + (szSs l7 + (szSs l8 + szSs l9))) z:=by
    intro n d ha hn
    unfold f138_l1
    rw [w64_nat (n:=a + 1) (by omega) (by omega)]
    refine (f153_res k z l6 (by omega) n d (a + 1) hn (by omega)).bind (fun c=>by obtain ⟨_,_,_⟩:=c; exact ⟨_,rfl⟩) fun d hn=>?_
    refine (ihl l7 (by omega) _ d (a + 1) hn (by omega)).bind (fun c=>by obtain ⟨_,_,_⟩:=c; exact ⟨_,rfl⟩) fun d hn=>?_
    refine (ihl l8 (by omega) _ d (a + 1) hn (by omega)).bind (fun c=>by obtain ⟨_,_,_⟩:=c; exact ⟨_,rfl⟩) fun d hn=>?_
    refine ((ihl l9 (by omega) _ d (a + 1) hn (by omega)).bind (g2:=true) (s2:=0) (fun c=>by obtain ⟨_,_,_⟩:=c; exact ⟨_,rfl⟩) fun d hn=>?_).conv (by omega) (fun _=>by simp)
    exact .yes rfl (by simp [hn])
   have loop:a≤16→l10.length≤4→∀ (rest:List DCase) (i:Nat) (n:Nat) (d:Int),2 * szCs rest≤m→i + rest.length=l10.length→n≤600 →
     NRes (f138_l1 k (fam118 k m) l6 l7 l8 l9 l10 a rest i n d z) (gCs z rest (a + 1) && (gEs z l6 (a + 1) && (gSs z l7 (a + 1) && (gSs z l8 (a + 1) && gSs z l9 (a + 1))))) n (szCs rest + (szEs l6 + (szSs l7 + (szSs l8 + szSs l9)))) z:=by
    intro ha h10 rest
    induction rest with
    | nil =>
     intro i n d _ hi hn
     obtain rfl:i=l10.length:=by simpa using hi
     exact (tail n d ha hn).conv (by simp [szCs]) (fun _=>by simp [gCs])
    | cons c rest ih =>
     intro i n d hm hi hn
     obtain ⟨e0,e1,e2,e3,e4⟩:=c
     simp only [szCs,List.length_cons] at hm hi
     unfold f138_l1
     rw [w64_nat (x:=(a:Int) + 1) (n:=a + 1) (by omega) (by omega),w64_nat (x:=(l10.length:Int) - 1) (n:=l10.length - 1) (by omega) (by omega)]
     have step:NRes (((fam118 k m).f152 (.mk n d z) (.mk e0 e1 e2 e3 e4) ((a + 1:Nat):Int)).bind fun q_=>match q_ with | (.mk z1467_0 z1467_1 z1467_2,r1468)=>(f138_j6 k (fam118 k m) i z1467_0 z1467_1 z1467_2 (!r1468) (f138_l1 k (fam118 k m) l6 l7 l8 l9 l10 a rest)))
       (gC z (.mk e0 e1 e2 e3 e4) (a + 1) && (gCs z rest (a + 1) && (gEs z l6 (a + 1) && (gSs z l7 (a + 1) && (gSs z l8 (a + 1) && gSs z l9 (a + 1)))))) n (szC (.mk e0 e1 e2 e3 e4) + (szCs rest + (szEs l6 + (szSs l7 + (szSs l8 + szSs l9))))) z :=
      (ihc (.mk e0 e1 e2 e3 e4) (by omega) n d (a + 1) hn (by omega)).bind (fun c=>by obtain ⟨_,_,_⟩:=c; exact ⟨_,rfl⟩) fun d hn=>ih (i + 1) _ d (by omega) (by omega) hn
     by_cases h4:(e0 == 4)=true
     ·simp only [h4,cond_true]
      by_cases hl:i < l10.length - 1
      ·have:((i:Int) < ((l10.length - 1:Nat):Int)):=by omega
       simp only [this,decide_true,cond_true]
       refine .no rfl ?_
       have:rest.isEmpty=false:=by cases rest with
        | nil=>simp at hi; omega
        | cons=>rfl
       simp [gCs,h4,this]
      ·have : ¬ ((i:Int) < ((l10.length - 1:Nat):Int)):=by omega
       simp only [this,decide_false,cond_false]
       have:rest.isEmpty=true:=by cases rest with
        | nil=>rfl
        | cons=>simp at hi; omega
       exact step.conv (by simp only [szCs]; omega) (fun _=>by simp [gCs,this,Bool.and_assoc])
     ·have h4' : (e0 == 4)=false:=by simpa using h4
      simp only [h4',cond_false]
      exact step.conv (by simp only [szCs]; omega) (fun _=>by simp [gCs,h4',Bool.and_assoc])
   unfold f138_b
   obtain ⟨L,hL⟩ : ∃ L,f150 k=some L:=⟨_,rfl⟩
   have hg:=f150_eq k op
   rw [hL] at hg ⊢
   simp only [Option.bind_some,Option.some.injEq] at hg ⊢
   rw [hg]
   cases hsh:shp op with
   | none =>
    have:nodeS op name fr flag l6.length l7.length l8.length l9.length l10.length=false:=by unfold nodeS; rw [hsh]
    refine .no (c:=.mk n d z) ?_ (by simp [gS,this])
    simp only [toN,mcase]
    unfold f138_j1
    simp only [Bool.not_false,cond_true,f138_j2_eq]
    rfl
   | some t =>
    obtain ⟨nm,frm,lo,hi,bd,fl⟩:=t
    simp only [toN,mcase,f138_j1_eq,f117_eq k n d z a hn,Option.bind_some]
    have hN:nodeN op name fr flag l6.length l7.length l8.length l9.length l10.length=(flagN op name flag l8.length l9.length && nameN nm frm name fr && argsN op lo (if hi=600 then 601 else hi) bd l6.length l7.length l10.length):=by unfold nodeN; rw [hsh]
    rw [Bool.and_assoc,Bool.and_assoc,← Bool.and_assoc (flagN _ _ _ _ _),← hN]
    have hl6:=len_szEs l6
    by_cases h1:n + 1≤600∧a≤16
    ·obtain ⟨h1,h2⟩:=h1
     by_cases h3:((s2 == 0 && s4 == 0) || z)=true
     ·by_cases h4:nodeN op name fr flag l6.length l7.length l8.length l9.length l10.length=true
      ·have h10:l10.length≤4:=by
        rw [hN] at h4
        rw [Bool.and_eq_true] at h4
        exact argsN_len h4.2
       simp only [h1,h2,h3,h4,decide_true,Bool.and_self,cond_true]
       refine (loop h2 h10 l10 0 (n + 1) (imax d a) (by omega) (by omega) h1).conv (by simp only [szS]; omega) (fun hh=>?_)
       have h5:nodeS op name fr flag l6.length l7.length l8.length l9.length l10.length=true:=by rw [← nodeNS _ _ _ _ _ _ _ _ _ (by omega)]; exact h4
       simp only [gS,h2,decide_true,h5]
       rw [Bool.or_comm] at h3
       simp only [h3,Bool.and_self,Bool.true_and]
       cases gCs z l10 (a + 1) <;> cases gEs z l6 (a + 1) <;> cases gSs z l7 (a + 1) <;> cases gSs z l8 (a + 1) <;> cases gSs z l9 (a + 1) <;> rfl
      ·have h4' : nodeN op name fr flag l6.length l7.length l8.length l9.length l10.length=false:=by simpa using h4
       simp only [h4',Bool.and_false,cond_false]
       refine .no rfl ?_
       by_cases hh:n + szS (.mk op name s2 fr s4 flag l6 l7 l8 l9 l10)≤600
       ·have h5:nodeS op name fr flag l6.length l7.length l8.length l9.length l10.length=false:=by
         rw [← nodeNS _ _ _ _ _ _ _ _ _ (by simp only [szS] at hh; omega)]; exact h4'
        simp [gS,h5]
       ·simp [hh]
     ·have h3' : ((s2 == 0 && s4 == 0) || z)=false:=by simpa using h3
      simp only [h3',Bool.false_and,Bool.and_false,cond_false]
      refine .no rfl ?_
      rw [Bool.or_comm] at h3'
      simp only [gS,h3',Bool.false_and,Bool.and_false]
    ·have h1' : (decide (n + 1≤600) && decide (a≤16))=false:=by
      simp only [Bool.and_eq_false_iff,decide_eq_false_iff_not]; omega
     simp only [h1',Bool.false_and,cond_false]
     refine .no rfl ?_
     rw [Bool.and_eq_false_iff,decide_eq_false_iff_not]
     by_cases h2:a≤16
     ·right; simp only [szS]; omega
     ·left; simp [gS,h2]
  ·intro l hl n d a hn ha
   show NRes (f118_l1 k (fam118 k m) a l 0 n d z) _ _ _ _
   have loop : ∀ (l:List DStmt) (i:Nat) (n:Nat) (d:Int),2 * szSs l≤m→n≤600→NRes (f118_l1 k (fam118 k m) a l i n d z) (gSs z l a) n (szSs l) z:=by
    intro l
    induction l with
    | nil=>intro i n d _ hn; exact .yes rfl (by simp [gSs,szSs,hn])
    | cons e l ih =>
     intro i n d hm hn
     obtain ⟨e0,e1,e2,e3,e4,e5,e6,e7,e8,e9,e10⟩:=e
     unfold f118_l1
     simp only [szSs] at hm
     exact (ihs (.mk e0 e1 e2 e3 e4 e5 e6 e7 e8 e9 e10) (by omega) n d a hn ha).bind (fun c=>by obtain ⟨_,_,_⟩:=c; exact ⟨_,rfl⟩) fun d hn=>ih (i + 1) _ d (by omega) hn
   exact loop l 0 n d (by omega) hn
  ·intro c hc n d a hn ha
   obtain ⟨kind,name,slot,es,b⟩:=c
   simp only [szC] at hc
   show NRes (f152_b k (fam118 k m) (.mk n d z) (.mk kind name slot es b) a) _ _ _ _
   rw [f152_b_eq]
   by_cases hk:(decide (kind ≥ 1) && decide (kind≤4))=true
   ·simp only [hk,cond_true]
    rw [f117_eq k n d z a hn]
    simp only [Option.bind_some]
    by_cases h1:n + 1≤600∧a≤16
    ·obtain ⟨h1,h2⟩:=h1
     by_cases h3:((z || slot == 0) && nodeC kind name es.length)=true
     ·rw [Bool.and_assoc,h3]
      simp only [h1,h2,decide_true,Bool.and_self,cond_true]
      unfold f152_j1
      simp only [cond_false]
      rw [w64_nat (x:=(a:Int) + 1) (n:=a + 1) (by omega) (by omega)]
      refine NRes.conv (g:=gEs z es (a + 1) && (gSs z b (a + 1) && true)) (n:=n + 1) (s:=szEs es + (szSs b + 0)) ?_ (by simp only [szC]; omega) (fun _=>?_)
      ·refine (f153_res k z es (by omega) (n + 1) _ (a + 1) h1 (by omega)).bind (fun c=>by obtain ⟨_,_,_⟩:=c; exact ⟨_,rfl⟩) fun d hn=>?_
       refine (ihl b (by omega) _ d (a + 1) hn (by omega)).bind (fun c=>by obtain ⟨_,_,_⟩:=c; exact ⟨_,rfl⟩) fun d hn=>?_
       exact .yes rfl (by simp [hn])
      ·simp only [gC,h2,decide_true,Bool.true_and,Bool.and_true,h3]
     ·have h3' : ((z || slot == 0) && nodeC kind name es.length)=false:=by simpa using h3
      rw [Bool.and_assoc,h3',Bool.and_false]
      refine .no rfl ?_
      rw [gC,Bool.and_assoc (decide (a≤16)),h3']
      simp
    ·have h1' : (decide (n + 1≤600) && decide (a≤16))=false:=by
      simp only [Bool.and_eq_false_iff,decide_eq_false_iff_not]; omega
     simp only [h1',Bool.false_and,cond_false]
     refine .no rfl ?_
     rw [Bool.and_eq_false_iff,decide_eq_false_iff_not]
     by_cases h2:a≤16
     ·right; simp only [szC]; omega
     ·left; simp [gC,h2]
   ·have hk' : (decide (kind ≥ 1) && decide (kind≤4))=false:=by simpa using hk
    simp only [hk',cond_false]
    exact .no rfl (by simp only [gC,nodeC,hk',Bool.false_and,Bool.and_false])
section
variable (k:Nat) (F:Fam61) (op:Int) (name:ByteArray) (s2:Int) (from_:ByteArray) (s4 flag:Int) (l6:List DExpr) (l7 l8 l9:List DStmt) (l10:List DCase) (a nm:Int) (fr:Bool) (lo hi:Int) (bd:Bool) (n d:Int) (z q:Bool)
theorem f90_b_eq:f90_b k F (.mk n d false) (.mk op name s2 from_ s4 flag l6 l7 l8 l9 l10) a=(f60 k (.mk n d false) a).bind fun x=>match x with
  | .mk n1 d1 q1=>f90_l2 k F l7 l8 l9 l10 a l6 0 n1 d1 (q1 || !((s2 == 0 && s4 == 0) && nodeS op name from_ flag l6.length l7.length l8.length l9.length l10.length)):=by
 unfold f90_b
 simp only [cond_false]
 congr 1
 funext x
 obtain ⟨n1,d1,q1⟩:=x
 simp only [f109_eq,Option.bind_some,f59_eq,f90_j1_eq,nodeS]
 cases shp op with
 | none =>
  simp only [toR,cond_false,Bool.and_false,Bool.not_false,Bool.or_true,Bool.true_or]
 | some t =>
  obtain ⟨nm,frm,lo,hi,bd,fl⟩:=t
  simp only [toR,cond_true]
  generalize (nameR nm name && fromR frm from_ && (bd || ((l7.length:Int) == 0)) && flagR op name flag l8.length l9.length && casesR op l10.length)=g
  generalize f90_l2 k F l7 l8 l9 l10 a l6 0 n1 d1=Q
  obtain ⟨A,B,rfl⟩:=bfun Q
  simp only [Bool.cond_eq_ite]
  grind (splits:=20)
theorem f111_b_eq (kind:Int) (slot:Int) (es:List DExpr) (b:List DStmt):f111_b k F (.mk n d q) (.mk kind name slot es b) a=(f60 k (.mk n d q) a).bind fun x=>match x with
  | .mk n1 d1 q1=>f111_l1 k F b a es 0 n1 d1 (q1 || !((slot == 0) && nodeC kind name es.length)):=by
 unfold f111_b
 simp only
 congr 1
 funext x
 obtain ⟨n1,d1,q1⟩:=x
 unfold f111_j1 f111_j2 f111_j3
 simp only [Option.bind_some,f59_eq,f34_eq,nodeC]
 generalize f111_l1 k F b a es 0 n1 d1=Q
 obtain ⟨A,B,rfl⟩:=bfun Q
 generalize (slot == 0)=b5
 generalize isN name=b6
 generalize seq name ⟨#[]⟩=b7
 simp only [Bool.cond_eq_ite]
 grind (splits:=20)
end
theorem f61_wrong (k:Nat) (F:Fam61) (a:Int) (l:List DStmt) (i:Nat) (x d:Int):f61_l1 k F a l i x d true=some (.mk x d true):=by
 cases l with
 | nil=>rfl
 | cons e l=>obtain ⟨_,_,_,_,_,_,_,_,_,_,_⟩:=e; rfl
theorem RRes.conv {r:Option DSize} {g g' : Bool} {n s n' s' : Nat} {q q' : Bool} (h:RRes r g n s q) (hs:n + s=n' + s') (hg:(q || !(g && decide (n + s≤600)))=(q' || !(g' && decide (n' + s'≤600)))):RRes r g' n' s' q':=by
 obtain ⟨x,d,q1,h1,h2,h3⟩:=h
 exact ⟨x,d,q1,h1,by rw [h2,hg],by rw [← hs]; exact h3⟩
theorem RRes.node {r:Option DSize} {g b:Bool} {n s a:Nat} (h:RRes r g (n + 1) s (!(decide (n + 1≤600) && decide (a≤16)) || !b)):RRes r (decide (a≤16) && b && g) n (s + 1) false:=by
 refine h.conv (by omega) ?_
 have e:n + (s + 1)=n + 1 + s:=by omega
 rw [e]
 by_cases hh:n + 1 + s≤600
 ·have:n + 1≤600:=by omega
  simp only [hh,this,decide_true]
  cases decide (a≤16) <;> cases b <;> cases g <;> rfl
 ·simp [hh]
theorem f110_res (k:Nat) (e:DExpr) (hk:szE e≤k) (n:Nat) (d:Int) (a:Nat) (hn:n≤600) (ha:a≤17):RRes (f110 k (.mk n d false) e a false) (gE false e a) n (szE e) false :=
 rE k k e hk n d a hn ha
theorem node_hx {n a:Nat} {b:Bool}:(!(decide (n + 1≤600) && decide (a≤16)) || !b)=false→((n + 1:Nat):Int)=((n + 1:Nat):Int)∧n + 1≤600:=by
 intro h; simp at h; exact ⟨rfl,by omega⟩
theorem nodeS_len {op flag:Int} {name fr:ByteArray} {l6 l7 l8 l9 l10:Nat} (h:nodeS op name fr flag l6 l7 l8 l9 l10=true):l10≤1000:=by
 unfold nodeS at h
 cases hs:shp op with
 | none=>rw [hs] at h; cases h
 | some t =>
  obtain ⟨nm,frm,lo,hi,bd,fl⟩:=t
  rw [hs] at h
  simp only [Bool.and_eq_true,casesR,decide_eq_true_eq] at h
  have:=h.2.2.2
  omega
theorem rS (k:Nat) : ∀ m,m≤k →
  (∀ s,2 * szS s≤m→∀ (n:Nat) (d:Int) (a:Nat),n≤600→a≤17→RRes ((fam61 k m).f90 (.mk n d false) s a) (gS false s a) n (szS s) false) ∧
  (∀ l,2 * szSs l + 1≤m→∀ (x:Int) (n:Nat) (d:Int) (q:Bool) (a:Nat),(q=false→x=(n:Int)∧n≤600)→a≤17→RRes ((fam61 k m).f61 (.mk x d q) l a) (gSs false l a) n (szSs l) q) ∧
  (∀ c,2 * szC c≤m→∀ (n:Nat) (d:Int) (a:Nat),n≤600→a≤17→RRes ((fam61 k m).f111 (.mk n d false) c a) (gC false c a) n (szC c) false)
 | 0,_=>⟨fun e he=>by have:=szS_pos e; omega,fun l hl=>by omega,fun c hc=>by have:=szC_pos c; omega⟩
 | m + 1,hmk=>by
  obtain ⟨ihs,ihl,ihc⟩:=rS k m (by omega)
  refine ⟨?_,?_,?_⟩
  ·intro s hs n d a hn ha
   obtain ⟨op,name,s2,fr,s4,flag,l6,l7,l8,l9,l10⟩:=s
   simp only [szS] at hs
   show RRes (f90_b k (fam61 k m) (.mk n d false) (.mk op name s2 fr s4 flag l6 l7 l8 l9 l10) a) _ _ _ _
   rw [f90_b_eq,f60_eq k n d false a hn]
   simp only [Option.bind_some,Bool.false_or]
   have cs:a≤16→l10.length≤1000→∀ (rest:List DCase) (i:Nat) (x:Int) (n:Nat) (d:Int) (q:Bool),2 * szCs rest≤m→i + rest.length=l10.length→(q=false→x=(n:Int)∧n≤600) →
     RRes (f90_l1 k (fam61 k m) l10 a rest i x d q) (gCs false rest (a + 1)) n (szCs rest) q:=by
    intro ha h10 rest
    induction rest with
    | nil=>intro i x n d q _ _ hx; exact .done hx
    | cons c rest ih =>
     intro i x n d q hm hi hx
     obtain ⟨e0,e1,e2,e3,e4⟩:=c
     simp only [szCs,List.length_cons] at hm hi
     unfold f90_l1
     cases q with
     | true=>exact .wrong rfl
     | false =>
      obtain ⟨rfl,hn⟩:=hx rfl
      simp only [Bool.not_false,cond_true]
      rw [w64_nat (x:=(a:Int) + 1) (n:=a + 1) (by omega) (by omega),w64_nat (x:=(l10.length:Int) - 1) (n:=l10.length - 1) (by omega) (by omega)]
      refine ((ihc (.mk e0 e1 e2 e3 e4) (by omega) n d (a + 1) hn (by omega)).bind (g2:=(!(e0 == 4) || rest.isEmpty) && gCs false rest (a + 1)) (s2:=szCs rest) fun x1 d1 q1 h1=>?_).cast ?_ (by simp only [szCs])
      ·have hb:(cond (e0 != 4) ((f59 k (DSize.mk x1 d1 q1) true).bind fun q_=>match q_ with | .mk z931_0 z931_1 z931_2=>(f90_j10 k (fam61 k m) i z931_0 z931_1 z931_2 (f90_l1 k (fam61 k m) l10 a rest))) ((f59 k (DSize.mk x1 d1 q1) ((i:Int) == ((l10.length - 1:Nat):Int))).bind fun q_=>match q_ with | .mk z938_0 z938_1 z938_2=>(f90_j10 k (fam61 k m) i z938_0 z938_1 z938_2 (f90_l1 k (fam61 k m) l10 a rest)))) =
         f90_l1 k (fam61 k m) l10 a rest (i + 1) x1 d1 (q1 || !(!(e0 == 4) || rest.isEmpty)):=by
        have hl:((i:Int) == ((l10.length - 1:Nat):Int))=rest.isEmpty:=by
         cases rest with
         | nil=>simp at hi ⊢; omega
         | cons _ _=>simp at hi ⊢; omega
        simp only [f59_eq,Option.bind_some,hl,bne]
        unfold f90_j10
        cases (e0 == 4) <;> cases rest.isEmpty <;> simp
       rw [hb]
       refine (ih (i + 1) x1 _ d1 _ (by omega) (by omega) (fun h=>h1 ?_)).check
       simp at h; exact h.1
      ·simp only [gCs]
       cases (!(e0 == 4) || rest.isEmpty) <;> cases gC false (.mk e0 e1 e2 e3 e4) (a + 1) <;> rfl
   have fw : ∀ (x d:Int) (l:List DStmt) (a:Int),(fam61 k m).f61 (.mk x d true) l a=some (.mk x d true):=by
    intro x d l a
    cases m with
    | zero=>omega
    | succ m=>exact f61_wrong _ _ _ _ _ _ _
   have w1 : ∀ (x d:Int) (rest:List DCase) (i:Nat),f90_l1 k (fam61 k m) l10 a rest i x d true=some (.mk x d true):=by
    intro x d rest i
    cases rest with
    | nil=>rfl
    | cons c l=>obtain ⟨_,_,_,_,_⟩:=c; rfl
   have w2 : ∀ (x d:Int) (l:List DExpr) (i:Nat),f90_l2 k (fam61 k m) l7 l8 l9 l10 a l i x d true=some (.mk x d true):=by
    intro x d l i
    cases l with
    | nil=>unfold f90_l2 f90_j9; simp only [fw,Option.bind_some,w1]
    | cons c l=>obtain ⟨_,_,_,_,_⟩:=c; unfold f90_l2 f90_j9; simp only [fw,Option.bind_some,w1,Bool.not_true,cond_false]
   have tail:a≤16→l10.length≤1000→∀ (x:Int) (n:Nat) (d:Int) (q:Bool),(q=false→x=(n:Int)∧n≤600) →
     RRes (f90_j9 k (fam61 k m) l7 l8 l9 l10 a x d q) (gSs false l7 (a + 1) && (gSs false l8 (a + 1) && (gSs false l9 (a + 1) && gCs false l10 (a + 1)))) n (szSs l7 + (szSs l8 + (szSs l9 + szCs l10))) q:=by
    intro ha h10 x n d q hx
    unfold f90_j9
    rw [w64_nat (x:=(a:Int) + 1) (n:=a + 1) (by omega) (by omega)]
    refine (ihl l7 (by omega) x n d q (a + 1) hx (by omega)).bind fun x d q hx=>?_
    refine (ihl l8 (by omega) x _ d q (a + 1) hx (by omega)).bind fun x d q hx=>?_
    refine (ihl l9 (by omega) x _ d q (a + 1) hx (by omega)).bind fun x d q hx=>?_
    exact cs ha h10 l10 0 x _ d q (by omega) (by omega) hx
   have loop:a≤16→l10.length≤1000→∀ (l:List DExpr) (i:Nat) (x:Int) (n:Nat) (d:Int) (q:Bool),szEs l≤m→(q=false→x=(n:Int)∧n≤600) →
     RRes (f90_l2 k (fam61 k m) l7 l8 l9 l10 a l i x d q) (gEs false l (a + 1) && (gSs false l7 (a + 1) && (gSs false l8 (a + 1) && (gSs false l9 (a + 1) && gCs false l10 (a + 1))))) n (szEs l + (szSs l7 + (szSs l8 + (szSs l9 + szCs l10)))) q:=by
    intro ha h10 l
    induction l with
    | nil =>
     intro i x n d q _ hx
     unfold f90_l2
     exact (tail ha h10 x n d q hx).cast (by simp [gEs]) (by simp [szEs])
    | cons e l ih =>
     intro i x n d q hm hx
     cases q with
     | true=>rw [w2]; exact .wrong rfl
     | false =>
      obtain ⟨rfl,hn⟩:=hx rfl
      obtain ⟨e0,e1,e2,e3,e4⟩:=e
      unfold f90_l2
      simp only [szEs] at hm
      simp only [Bool.not_false,cond_true]
      rw [w64_nat (x:=(a:Int) + 1) (n:=a + 1) (by omega) (by omega)]
      refine ((f110_res k (.mk e0 e1 e2 e3 e4) (by omega) n d (a + 1) hn (by omega)).bind fun x1 d1 q1 h1=>ih (i + 1) x1 _ d1 q1 (by omega) h1).cast ?_ ?_
      ·simp only [gEs,Bool.and_assoc]
      ·simp only [szEs]; omega
   by_cases hq:(decide (n + 1≤600) && decide (a≤16))=true∧((s2 == 0 && s4 == 0) && nodeS op name fr flag l6.length l7.length l8.length l9.length l10.length)=true
   ·have ha' : a≤16:=by have:=hq.1; simp at this; exact this.2
    have h10:l10.length≤1000:=by
     have h:=hq.2
     rw [Bool.and_eq_true] at h
     exact nodeS_len h.2
    refine RRes.cast (RRes.node (a:=a) (loop ha' h10 l6 0 _ (n + 1) _ _ (by omega) node_hx)) ?_ ?_
    ·simp only [gS,Bool.false_or,← Bool.and_assoc]
    ·simp only [szS]; omega
   ·have hq' : (!(decide (n + 1≤600) && decide (a≤16)) || !((s2 == 0 && s4 == 0) && nodeS op name fr flag l6.length l7.length l8.length l9.length l10.length))=true:=by
     rw [← Bool.not_and,Bool.not_eq_true']; rw [← Bool.and_eq_true] at hq; simpa using hq
    rw [hq',w2]
    refine .bad rfl ?_
    simp only [gS,szS,Bool.false_or]
    by_cases h1:n + 1≤600
    ·by_cases h2:a≤16
     ·have:((s2 == 0 && s4 == 0) && nodeS op name fr flag l6.length l7.length l8.length l9.length l10.length)=false:=by
       cases h:((s2 == 0 && s4 == 0) && nodeS op name fr flag l6.length l7.length l8.length l9.length l10.length) with
       | false=>rfl
       | true=>exact absurd ⟨by simp [h1,h2],h⟩ hq
      rw [Bool.and_assoc (decide (a≤16)),this]; simp
     ·simp [h2]
    ·have : ¬ (n + (szEs l6 + szSs l7 + szSs l8 + szSs l9 + szCs l10 + 1)≤600):=by omega
     simp [this]
  ·intro l hl x n d q a hx ha
   show RRes (f61_l1 k (fam61 k m) a l 0 x d q) _ _ _ _
   have loop : ∀ (l:List DStmt) (i:Nat) (x:Int) (n:Nat) (d:Int) (q:Bool),2 * szSs l≤m→(q=false→x=(n:Int)∧n≤600)→RRes (f61_l1 k (fam61 k m) a l i x d q) (gSs false l a) n (szSs l) q:=by
    intro l
    induction l with
    | nil=>intro i x n d q _ hx; exact .done hx
    | cons e l ih =>
     intro i x n d q hm hx
     obtain ⟨e0,e1,e2,e3,e4,e5,e6,e7,e8,e9,e10⟩:=e
     unfold f61_l1
     cases q with
     | true=>exact .wrong rfl
     | false =>
      obtain ⟨rfl,hn⟩:=hx rfl
      simp only [szSs] at hm
      simp only [Bool.not_false,cond_true]
      exact (ihs (.mk e0 e1 e2 e3 e4 e5 e6 e7 e8 e9 e10) (by omega) n d a hn ha).bind fun x1 d1 q1 h1=>ih (i + 1) x1 _ d1 q1 (by omega) h1
   exact loop l 0 x n d q (by omega) hx
  ·intro c hc n d a hn ha
   obtain ⟨kind,name,slot,es,b⟩:=c
   simp only [szC] at hc
   show RRes (f111_b k (fam61 k m) (.mk n d false) (.mk kind name slot es b) a) _ _ _ _
   rw [f111_b_eq,f60_eq k n d false a hn]
   simp only [Option.bind_some,Bool.false_or]
   have loop:a≤16→∀ (l:List DExpr) (i:Nat) (x:Int) (n:Nat) (d:Int) (q:Bool),szEs l≤m→(q=false→x=(n:Int)∧n≤600)→RRes (f111_l1 k (fam61 k m) b a l i x d q) (gEs false l (a + 1) && gSs false b (a + 1)) n (szEs l + szSs b) q:=by
    intro ha l
    induction l with
    | nil =>
     intro i x n d q _ hx
     unfold f111_l1 f111_j4
     rw [w64_nat (x:=(a:Int) + 1) (n:=a + 1) (by omega) (by omega)]
     refine ((ihl b (by omega) x n d q (a + 1) hx (by omega)).bind (g2:=true) (s2:=0) fun x1 d1 q1 h1=>.done h1).cast ?_ ?_
     ·simp [gEs]
     ·simp [szEs]
    | cons e l ih =>
     intro i x n d q hm hx
     obtain ⟨e0,e1,e2,e3,e4⟩:=e
     unfold f111_l1
     simp only [szEs] at hm
     cases q with
     | true =>
      unfold f111_j4
      simp only [Bool.not_true,cond_false]
      obtain ⟨x1,d1,q1,h1,h2,h3⟩:=ihl b (by omega) x n d true ((a + 1)) hx (by omega)
      rw [w64_nat (x:=(a:Int) + 1) (n:=a + 1) (by omega) (by omega),h1]
      simp at h2; subst h2
      exact .wrong rfl
     | false =>
      obtain ⟨rfl,hn⟩:=hx rfl
      simp only [Bool.not_false,cond_true]
      rw [w64_nat (x:=(a:Int) + 1) (n:=a + 1) (by omega) (by omega)]
      refine ((f110_res k (.mk e0 e1 e2 e3 e4) (by omega) n d (a + 1) hn (by omega)).bind fun x1 d1 q1 h1=>ih (i + 1) x1 _ d1 q1 (by omega) h1).cast ?_ ?_
      ·simp only [gEs,Bool.and_assoc]
      ·simp only [szEs]; omega
   have fw : ∀ (x d:Int) (l:List DStmt) (a:Int),(fam61 k m).f61 (.mk x d true) l a=some (.mk x d true):=by
    intro x d l a
    cases m with
    | zero=>omega
    | succ m=>exact f61_wrong _ _ _ _ _ _ _
   have w2 : ∀ (x d:Int) (l:List DExpr) (i:Nat),f111_l1 k (fam61 k m) b a l i x d true=some (.mk x d true):=by
    intro x d l i
    cases l with
    | nil=>unfold f111_l1 f111_j4; simp only [fw,Option.bind_some]
    | cons c l=>obtain ⟨_,_,_,_,_⟩:=c; unfold f111_l1 f111_j4; simp only [fw,Option.bind_some,Bool.not_true,cond_false]
   by_cases ha' : a≤16
   ·refine RRes.cast (RRes.node (a:=a) (loop ha' es 0 _ (n + 1) _ _ (by omega) node_hx)) ?_ ?_
    ·simp only [gC,Bool.false_or,← Bool.and_assoc]
    ·simp only [szC]
   ·have hq' : (!(decide (n + 1≤600) && decide (a≤16)) || !((slot == 0) && nodeC kind name es.length))=true:=by simp [ha']
    rw [hq',w2]
    exact .bad rfl (by simp [gC,ha'])
end Go.Proofs.YtoajecnoffhlbaaGreatDoor
namespace Go.Proofs.YtoajecnoffhlbaaGreatDoor
open Go
def okP:List DParam→Bool
 | []=>true
 | .mk nm kd :: l=>isN nm && decide (kd ≥ 1) && decide (kd≤6) && okP l
def headF (z:Bool) (name:ByteArray) (np:Nat) (res:Int) (f3:Bool) (s4:Int):Bool :=
 isN name && decide (np≤4) && (z || s4 == 0) && (!f3 || res == 0) && decide (res ≥ 0) && decide (res≤6)
def gFs (z:Bool):List DFunc→Bool
 | []=>true
 | .mk name ps res f3 s4 b :: l=>headF z name ps.length res f3 s4 && (okP ps && (gSs z b 1 && gFs z l))
def cnF:DFunc→Nat | .mk _ _ _ _ _ b=>szSs b + 1
def cnFs:List DFunc→Nat | []=>0 | f :: l=>cnF f + cnFs l
def wf (z:Bool):DProgram→Bool
 | .mk fs=>decide (1≤fs.length) && decide (fs.length≤16) && gFs z fs && decide (cnFs fs≤600)
section
variable (k i:Nat) (body:List DStmt) (n d:Int) (z q:Bool) (nx:Nat→Int→Int→Bool→Option (Dcounter × Bool))
theorem f101_l2_eq : ∀ (ps:List DParam) (j:Nat),f101_l2 k i body n d z nx ps j=cond (okP ps) (f101_l2 k i body n d z nx [] 0) (some (.mk n d z,false))
 | [],j=>rfl
 | .mk nm kd :: ps,j=>by
  have ih:=f101_l2_eq ps
  generalize f101_l2 k i body n d z nx [] 0=A at ih ⊢
  rw [f101_l2]
  simp only [f63_eq,f116_eq,Option.bind_some,f101_j2,ih,okP]
  cases isN nm <;> cases decide (kd ≥ 1) <;> cases decide (kd≤6) <;> rfl
theorem f101_j1_eq (ps:List DParam):f101_j1 k i ps body n d z q nx=cond (!q && okP ps) (f101_l2 k i body n d z nx [] 0) (some (.mk n d z,false)):=by
 unfold f101_j1
 rw [f101_l2_eq]
 cases q <;> rfl
end
theorem f118_res (k:Nat) (z:Bool) (l:List DStmt) (hk:2 * szSs l + 1≤k) (n:Nat) (d:Int) (a:Nat) (hn:n≤600) (ha:a≤17):NRes (f118 k (.mk n d z) l a) (gSs z l a) n (szSs l) z :=
 (nSt k z k (Nat.le_refl k)).2.1 l hk n d a hn ha
theorem f61_res (k:Nat) (l:List DStmt) (hk:2 * szSs l + 1≤k) (x:Int) (n:Nat) (d:Int) (q:Bool) (a:Nat) (hx:q=false→x=(n:Int)∧n≤600) (ha:a≤17):RRes (f61 k (.mk x d q) l a) (gSs false l a) n (szSs l) q :=
 (rS k k (Nat.le_refl k)).2.1 l hk x n d q a hx ha
theorem f101_l1_eq (k:Nat) (name:ByteArray) (ps:List DParam) (res:Int) (f3:Bool) (s4:Int) (b:List DStmt) (l:List DFunc) (i:Nat) (n d:Int) (z:Bool) :
  f101_l1 k (.mk name ps res f3 s4 b :: l) i n d z=(f117 k (.mk n d z) 0).bind fun x=>match x with
   | (.mk n1 d1 z1,ok)=>cond (ok && headF z1 name ps.length res f3 s4 && okP ps) (f101_l2 k i b n1 d1 z1 (f101_l1 k l) [] 0) (some (.mk n1 d1 z1,false)):=by
 rw [f101_l1]
 congr 1
 funext x
 obtain ⟨⟨n1,d1,z1⟩,ok⟩:=x
 simp only [f63_eq,f116_eq,Option.bind_some,f101_j1_eq,headF]
 have e:decide ((ps.length:Int) > 4)=!decide (ps.length≤4):=by rw [← decide_not,decide_eq_decide]; omega
 rw [e]
 simp only [Bool.cond_eq_ite]
 grind (splits:=20)
theorem nFs (k:Nat) (z:Bool) : ∀ (l:List DFunc) (i:Nat) (n:Nat) (d:Int),2 * szFs l + 1≤k→n≤600→NRes (f101_l1 k l i n d z) (gFs z l) n (cnFs l) z
 | [],i,n,d,hk,hn=>.yes rfl (by simp [gFs,cnFs,hn])
 | .mk name ps res f3 s4 b :: l,i,n,d,hk,hn=>by
  simp only [szFs,szF] at hk
  rw [f101_l1_eq]
  have e0:((0:Nat):Int)=0:=rfl
  rw [← e0,f117_eq k n d z 0 hn,e0]
  simp only [Option.bind_some,Nat.zero_le,decide_true,Bool.and_true]
  by_cases h1:n + 1≤600
  ·by_cases h2:(headF z name ps.length res f3 s4 && okP ps)=true
   ·rw [Bool.and_assoc,h2]
    simp only [h1,decide_true,Bool.and_self,cond_true]
    rw [f101_l2]
    refine ((f118_res k z b (by omega) (n + 1) (imax d 0) 1 h1 (by omega)).bind (f:=fun q_=>match q_ with | (.mk z10628_0 z10628_1 z10628_2,r10629)=>(cond (!r10629) (some ((Dcounter.mk z10628_0 z10628_1 z10628_2),false)) (f101_l1 k l (i + 1) z10628_0 z10628_1 z10628_2)))
     (fun c=>by obtain ⟨_,_,_⟩:=c; exact ⟨_,rfl⟩) fun d hn=>nFs k z l (i + 1) _ d (by omega) hn).conv (by simp only [cnFs,cnF]; omega) (fun _=>?_)
    rw [Bool.and_eq_true] at h2
    simp only [gFs,h2.1,h2.2,Bool.true_and]
   ·have h2' : (headF z name ps.length res f3 s4 && okP ps)=false:=by simpa using h2
    rw [Bool.and_assoc,h2',Bool.and_false]
    refine .no rfl ?_
    rw [gFs,← Bool.and_assoc,h2']
    simp
  ·simp only [h1,decide_false,Bool.false_and,cond_false]
   refine .no rfl ?_
   have : ¬ (n + (szSs b + 1 + cnFs l)≤600):=by omega
   simp [cnFs,cnF,this]
theorem f78_eq (k:Nat) (p:DProgram) (z:Bool) (hk:2 * szP p + 1≤k):f78 k p z=some (wf z p):=by
 obtain ⟨fs⟩:=p
 simp only [szP] at hk
 unfold f78 f78_b f101 f101_b
 simp only [f116_eq,Option.bind_some]
 have e1:(decide ((fs.length:Int) ≥ 1) && decide ((fs.length:Int)≤16))=(decide (1≤fs.length) && decide (fs.length≤16)):=by
  congr 1
  ·rw [decide_eq_decide]; omega
  ·rw [decide_eq_decide]; omega
 rw [e1]
 by_cases h:(decide (1≤fs.length) && decide (fs.length≤16))=true
 ·rw [h]
  simp only [Bool.not_true,cond_false]
  obtain ⟨c,h1,h2⟩:=nFs k z fs 0 0 0 (by omega) (by omega)
  have e0:((0:Nat):Int)=0:=rfl
  rw [e0] at h1
  rw [h1]
  obtain ⟨_,_,_⟩:=c
  simp only [Option.bind_some,wf,h,Nat.zero_add,Bool.true_and]
 ·have h' : (decide (1≤fs.length) && decide (fs.length≤16))=false:=by simpa using h
  rw [h']
  simp only [Bool.not_false,cond_true,Option.bind_some,wf,h',Bool.false_and]
section
variable (k i:Nat) (body:List DStmt) (d:Int) (nx:Nat→Int→Int→Bool→Option DSize)
theorem f32_l2_eq : ∀ (ps:List DParam) (j:Nat) (x d:Int) (q:Bool),f32_l2 k i body nx ps j x d q=f32_j4 k i body x d (q || !okP ps) nx
 | [],j,x,d,q=>by simp [f32_l2,okP]
 | .mk nm kd :: ps,j,x,d,q=>by
  unfold f32_l2
  simp only [f34_eq,f59_eq,Option.bind_some,f32_j5,f32_l2_eq ps,okP]
  cases q <;> cases isN nm <;> cases decide (kd ≥ 1) <;> cases decide (kd≤6) <;> rfl
end
theorem f32_l1_eq (k:Nat) (name:ByteArray) (ps:List DParam) (res:Int) (f3:Bool) (s4:Int) (b:List DStmt) (l:List DFunc) (i:Nat) (n d:Int) :
  f32_l1 k (.mk name ps res f3 s4 b :: l) i n d false=(f60 k (.mk n d false) 0).bind fun x=>match x with
   | .mk n1 d1 q1=>f32_j4 k i b n1 d1 (q1 || !(headF false name ps.length res f3 s4 && okP ps)) (f32_l1 k l):=by
 rw [f32_l1]
 simp only [Bool.not_false,cond_true]
 congr 1
 funext x
 obtain ⟨n1,d1,q1⟩:=x
 simp only [f34_eq,f59_eq,Option.bind_some,f32_j3,f32_l2_eq,headF]
 have e:decide ((ps.length:Int)≤4)=decide (ps.length≤4):=by rw [decide_eq_decide]; omega
 rw [e]
 have hQ : ∃ A B,(fun q=>f32_j4 k i b n1 d1 q (f32_l1 k l))=fun b=>if b=true then A else B:=bfun _
 obtain ⟨A,B,hQ⟩:=hQ
 have hQ' : ∀ q,f32_j4 k i b n1 d1 q (f32_l1 k l)=if q=true then A else B:=fun q=>congrFun hQ q
 simp only [hQ']
 generalize decide (ps.length≤4)=b2
 generalize isN name=b1
 generalize okP ps=b3
 generalize (s4 == 0)=b4
 generalize (res == 0)=b5
 simp only [Bool.cond_eq_ite]
 grind (splits:=20)
theorem rFs (k:Nat) : ∀ (l:List DFunc) (i:Nat) (x:Int) (n:Nat) (d:Int) (q:Bool),2 * szFs l + 1≤k→(q=false→x=(n:Int)∧n≤600)→RRes (f32_l1 k l i x d q) (gFs false l) n (cnFs l) q
 | [],i,x,n,d,q,hk,hx=>.done hx
 | .mk name ps res f3 s4 b :: l,i,x,n,d,q,hk,hx=>by
  simp only [szFs,szF] at hk
  cases q with
  | true=>exact .wrong rfl
  | false =>
   obtain ⟨rfl,hn⟩:=hx rfl
   rw [f32_l1_eq]
   have e0:((0:Nat):Int)=0:=rfl
   rw [← e0,f60_eq k n d false 0 hn,e0]
   simp only [Option.bind_some,Bool.false_or]
   unfold f32_j4
   refine RRes.cast (RRes.node (a:=0) (b:=headF false name ps.length res f3 s4 && okP ps) (g:=gSs false b 1 && gFs false l) (s:=szSs b + cnFs l) ?_) ?_ ?_
   ·exact (f61_res k b (by omega) _ (n + 1) _ _ 1 (fun h=>by simp at h; exact ⟨rfl,by omega⟩) (by omega)).bind fun x d q hx=>rFs k l (i + 1) x _ d q (by omega) hx
   ·simp only [gFs,Nat.zero_le,decide_true,Bool.true_and,Bool.and_assoc]
   ·simp only [cnFs,cnF]; omega
mutual
def stS:DStmt→DStmt | .mk op name _ fr _ flag l6 l7 l8 l9 l10=>.mk op name 0 fr 0 flag (stEs l6) (stSs l7) (stSs l8) (stSs l9) (stCs l10)
def stSs:List DStmt→List DStmt | []=>[] | s :: l=>stS s :: stSs l
def stC:DCase→DCase | .mk kind name _ es b=>.mk kind name 0 (stEs es) (stSs b)
def stCs:List DCase→List DCase | []=>[] | c :: l=>stC c :: stCs l
end
def stF:DFunc→DFunc | .mk name ps res f3 _ b=>.mk name ps res f3 0 (stSs b)
def stFs:List DFunc→List DFunc | []=>[] | f :: l=>stF f :: stFs l
def stP:DProgram→DProgram | .mk fs=>.mk (stFs fs)
theorem stSs_len : ∀ l,(stSs l).length=l.length
 | []=>rfl
 | e :: l=>by simp [stSs,stSs_len l]
theorem stCs_len : ∀ l,(stCs l).length=l.length
 | []=>rfl
 | e :: l=>by simp [stCs,stCs_len l]
theorem stFs_len : ∀ l,(stFs l).length=l.length
 | []=>rfl
 | e :: l=>by simp [stFs,stFs_len l]
mutual
theorem szS_st : ∀ e,szS (stS e)=szS e
 | .mk _ _ _ _ _ _ _ l7 l8 l9 l10=>by simp only [stS,szS,szEs_st,szSs_st l7,szSs_st l8,szSs_st l9,szCs_st l10]
theorem szSs_st : ∀ l,szSs (stSs l)=szSs l
 | []=>rfl
 | e :: l=>by simp only [stSs,szSs,szS_st e,szSs_st l]
theorem szC_st : ∀ e,szC (stC e)=szC e
 | .mk _ _ _ _ b=>by simp only [stC,szC,szEs_st,szSs_st b]
theorem szCs_st : ∀ l,szCs (stCs l)=szCs l
 | []=>rfl
 | e :: l=>by simp only [stCs,szCs,szC_st e,szCs_st l]
end
mutual
theorem gS_st : ∀ e a,gS false (stS e) a=gS true e a
 | .mk _ _ _ _ _ _ _ l7 l8 l9 l10,a=>by simp [stS,gS,gEs_st,gSs_st l7,gSs_st l8,gSs_st l9,gCs_st l10,stEs_len,stSs_len,stCs_len]
theorem gSs_st : ∀ l a,gSs false (stSs l) a=gSs true l a
 | [],_=>rfl
 | e :: l,a=>by simp only [stSs,gSs,gS_st e,gSs_st l]
theorem gC_st : ∀ e a,gC false (stC e) a=gC true e a
 | .mk _ _ _ _ b,a=>by simp [stC,gC,gEs_st,gSs_st b,stEs_len]
theorem gCs_st : ∀ l a,gCs false (stCs l) a=gCs true l a
 | [],_=>rfl
 | .mk k nm s es b :: l,a=>by
  have h:=gC_st (.mk k nm s es b) a
  simp only [stC] at h
  have e:(stCs l).isEmpty=l.isEmpty:=by cases l <;> rfl
  simp only [stCs,stC,gCs,h,gCs_st l,e]
end
theorem szFs_st : ∀ l,szFs (stFs l)=szFs l
 | []=>rfl
 | .mk _ _ _ _ _ b :: l=>by simp only [stFs,stF,szFs,szF,szSs_st,szFs_st l]
theorem cnFs_st : ∀ l,cnFs (stFs l)=cnFs l
 | []=>rfl
 | .mk _ _ _ _ _ b :: l=>by simp only [stFs,stF,cnFs,cnF,szSs_st,cnFs_st l]
theorem gFs_st : ∀ l,gFs false (stFs l)=gFs true l
 | []=>rfl
 | .mk _ _ _ _ _ b :: l=>by simp [stFs,stF,gFs,gSs_st,gFs_st l,headF]
theorem szP_st : ∀ p,szP (stP p)=szP p
 | .mk fs=>by simp only [stP,szP,szFs_st]
theorem wf_st : ∀ p,wf false (stP p)=wf true p
 | .mk fs=>by simp only [stP,wf,gFs_st,stFs_len,cnFs_st]
def maxB:Nat:=140737488355328
mutual
def fitE:DExpr→Prop | .mk _ _ _ _ l=>l.length * 64≤maxB∧fitEs l
def fitEs:List DExpr→Prop | []=>True | e :: l=>fitE e∧fitEs l
end
mutual
def fitS:DStmt→Prop | .mk _ _ _ _ _ _ l6 l7 l8 l9 l10=>(l6.length * 64≤maxB∧fitEs l6)∧(l7.length * 184≤maxB∧fitSs l7)∧(l8.length * 184≤maxB∧fitSs l8)∧(l9.length * 184≤maxB∧fitSs l9)∧(l10.length * 80≤maxB∧fitCs l10)
def fitSs:List DStmt→Prop | []=>True | e :: l=>fitS e∧fitSs l
def fitC:DCase→Prop | .mk _ _ _ l b=>(l.length * 64≤maxB∧fitEs l)∧(b.length * 184≤maxB∧fitSs b)
def fitCs:List DCase→Prop | []=>True | e :: l=>fitC e∧fitCs l
end
def fitF:DFunc→Prop | .mk _ ps _ _ _ b=>ps.length * 24≤maxB∧(b.length * 184≤maxB∧fitSs b)
def fitFs:List DFunc→Prop | []=>True | e :: l=>fitF e∧fitFs l
def fitP:DProgram→Prop | .mk fs=>fs.length * 88≤maxB∧fitFs fs
theorem guard_le {α:Type} {a:Nat} {x:Option α} (h:a≤maxB):guardB (decide (a≤140737488355328)) x=x:=by
 unfold maxB at h; unfold guardB; rw [decide_eq_true h]; rfl
theorem app_len {α:Type} (xs:List α) (e:α):(xs ++ [e]).length=xs.length + 1:=by simp
theorem cE (k:Nat) : ∀ m,(∀ e,2 * szE e≤m→fitE e→(fam1013115 k m).f1014215 e=some (stE e)) ∧
  (∀ l,2 * szEs l + 1≤m→l.length * 64≤maxB→fitEs l→(fam1013115 k m).f1013115 l=some (stEs l))
 | 0=>⟨fun e h=>by have:=szE_pos e; omega,fun l h=>by omega⟩
 | m + 1=>by
  obtain ⟨ihe,ihl⟩:=cE k m
  constructor
  ·intro e h hf
   obtain ⟨e0,e1,e2,e3,e4⟩:=e
   simp only [szE,fitE] at h hf
   show f1014215_b k (fam1013115 k m) (.mk e0 e1 e2 e3 e4)=_
   unfold f1014215_b
   simp only
   rw [ihl e4 (by omega) hf.1 hf.2]
   simp [f129,f129_b,stE]
  ·intro l h hl hf
   show f1013115_l1 k (fam1013115 k m) l 0 []=_
   have loop : ∀ (l:List DExpr) (i:Nat) (xs:List DExpr),2 * szEs l≤m→(xs.length + l.length) * 64≤maxB→fitEs l→f1013115_l1 k (fam1013115 k m) l i xs=some (xs ++ stEs l):=by
    intro l
    induction l with
    | nil=>intro i xs _ _ _; simp [f1013115_l1,stEs]
    | cons e l ih =>
     intro i xs hm hl hf
     obtain ⟨e0,e1,e2,e3,e4⟩:=e
     simp only [szEs,fitEs,List.length_cons] at hm hl hf
     unfold f1013115_l1
     rw [ihe (.mk e0 e1 e2 e3 e4) (by omega) hf.1]
     simp only [Option.bind_some,stE]
     rw [guard_le (by omega),ih (i + 1) _ (by omega) (by rw [app_len]; omega) hf.2]
     simp [stEs,stE]
   exact loop l 0 [] (by omega) (by simpa using hl) hf
theorem f108_eq (k:Nat) : ∀ m l,szSs l + 1≤m→2 * szSs l + 1≤k→l.length * 184≤maxB→fitSs l→(fam108 k m).f108 l false=some (stSs l)
 | 0,l,h,_,_,_=>by omega
 | m + 1,l,h,hk,hl,hf=>by
  show f108_l3 k (fam108 k m) false l 0 []=some (stSs l)
  have cs : ∀ (xs:List DStmt) (i:Nat) (e0:Int) (e1:ByteArray) (e3:ByteArray) (e5 n1 n2:Int) (r6:List DExpr) (r7 r8 r9:List DStmt) (nx:Nat→List DStmt→Option (List DStmt)) (l:List DCase) (j:Nat) (ys:List DCase),szCs l≤m→2 * szCs l≤k →
    (ys.length + l.length) * 80≤maxB→(xs.length + 1) * 184≤maxB→fitCs l→f108_l4 k (fam108 k m) false xs i e0 e1 e3 e5 n1 n2 r6 r7 r8 r9 nx l j ys=nx (i + 1) (xs ++ [.mk e0 e1 n1 e3 n2 e5 r6 r7 r8 r9 (ys ++ stCs l)]):=by
   intro xs i e0 e1 e3 e5 n1 n2 r6 r7 r8 r9 nx l
   induction l with
   | nil=>intro j ys _ _ _ hx _; unfold f108_l4; rw [guard_le hx]; simp [stCs]
   | cons c l ih =>
    intro j ys hm hk hl hx hf
    obtain ⟨c0,c1,c2,c3,c4⟩:=c
    simp only [szCs,szC,fitCs,fitC,List.length_cons] at hm hl hf hk
    unfold f108_l4 f108_j4 f1013115
    rw [(cE k k).2 c3 (by omega) hf.1.1.1 hf.1.1.2]
    simp only [Bool.not_false,cond_true,Option.bind_some]
    rw [f108_eq k m c4 (by omega) (by omega) hf.1.2.1 hf.1.2.2]
    simp only [Option.bind_some]
    rw [guard_le (by omega),ih (j + 1) _ (by omega) (by omega) (by rw [app_len]; omega) hx hf.2]
    simp [stCs,stC]
  have loop : ∀ (l:List DStmt) (i:Nat) (xs:List DStmt),szSs l≤m→2 * szSs l≤k→(xs.length + l.length) * 184≤maxB→fitSs l→f108_l3 k (fam108 k m) false l i xs=some (xs ++ stSs l):=by
   intro l
   induction l with
   | nil=>intro i xs _ _ _ _; simp [f108_l3,stSs]
   | cons e l ih =>
    intro i xs hm hk hl hf
    obtain ⟨e0,e1,e2,e3,e4,e5,e6,e7,e8,e9,e10⟩:=e
    simp only [szSs,szS,fitSs,fitS,List.length_cons] at hm hl hf hk
    obtain ⟨⟨⟨h6,h6'⟩,⟨h7,h7'⟩,⟨h8,h8'⟩,⟨h9,h9'⟩,h10,h10'⟩,hf⟩:=hf
    unfold f108_l3 f108_j3 f1013115
    rw [(cE k k).2 e6 (by omega) h6 h6',f108_eq k m e7 (by omega) (by omega) h7 h7',f108_eq k m e8 (by omega) (by omega) h8 h8',f108_eq k m e9 (by omega) (by omega) h9 h9']
    simp only [Bool.not_false,cond_true,Option.bind_some]
    rw [cs xs i e0 e1 e3 e5 _ _ _ _ _ _ _ e10 0 [] (by omega) (by omega) (by simpa using h10) (by omega) h10',ih (i + 1) _ (by omega) (by omega) (by rw [app_len]; omega) hf]
    simp [stSs,stS]
  exact loop l 0 [] (by omega) (by omega) (by simpa using hl) hf
theorem f88_eq (k:Nat) (p:DProgram) (hk:2 * szP p + 1≤k) (hf:fitP p):f88 k p false=some (stP p):=by
 obtain ⟨fs⟩:=p
 simp only [szP,fitP] at hk hf
 show f88_l1 k false fs 0 []=some (.mk (stFs fs))
 have loop : ∀ (l:List DFunc) (i:Nat) (xs:List DFunc),2 * szFs l + 1≤k→(xs.length + l.length) * 88≤maxB→fitFs l→f88_l1 k false l i xs=some (.mk (xs ++ stFs l)):=by
  intro l
  induction l with
  | nil=>intro i xs _ _ _; simp [f88_l1,stFs]
  | cons e l ih =>
   intro i xs hk hl hf
   obtain ⟨e0,e1,e2,e3,e4,e5⟩:=e
   simp only [szFs,szF,fitFs,fitF,List.length_cons] at hk hl hf
   unfold f88_l1 f88_j1 f104 f108
   rw [guard_le hf.1.1,f108_eq k k e5 (by omega) (by omega) hf.1.2.1 hf.1.2.2]
   simp only [Bool.not_false,cond_true,Option.bind_some]
   rw [guard_le (by omega),ih (i + 1) _ (by omega) (by rw [app_len]; omega) hf.2]
   simp [stFs,stF]
 exact loop fs 0 [] (by omega) (by simpa using hf.1) hf.2
theorem idxO_mid {α:Type} (xs:List α) (e:α) (l:List α) (i:Int) (hi:i=(xs.length:Int)):idxO (xs ++ e :: l) i=some e:=by
 subst hi
 unfold idxO
 rw [if_pos (by omega)]
 simp
theorem seq_refl (a:ByteArray):seq a a=true:=by unfold seq; simp
theorem sameE (k:Nat) : ∀ m,(∀ e,2 * szE e≤m→(fam48 k m).f87 e e=some true)∧(∀ l,2 * szEs l + 1≤m→(fam48 k m).f48 l l=some true)
 | 0=>⟨fun e h=>by have:=szE_pos e; omega,fun l h=>by omega⟩
 | m + 1=>by
  obtain ⟨ihe,ihl⟩:=sameE k m
  constructor
  ·intro e h
   obtain ⟨e0,e1,e2,e3,e4⟩:=e
   simp only [szE] at h
   show f87_b k (fam48 k m) (.mk e0 e1 e2 e3 e4) (.mk e0 e1 e2 e3 e4)=_
   unfold f87_b f87_j1
   simp only
   rw [ihl e4 (by omega)]
   simp [seq_refl]
  ·intro l h
   show f48_b k (fam48 k m) l l=_
   unfold f48_b
   have loop : ∀ (l:List DExpr) (xs:List DExpr),2 * szEs l≤m→f48_l1 k (fam48 k m) (xs ++ l) l xs.length=some true:=by
    intro l
    induction l with
    | nil=>intro xs _; rfl
    | cons e l ih =>
     intro xs hm
     simp only [szEs] at hm
     obtain ⟨e0,e1,e2,e3,e4⟩:=e
     unfold f48_l1
     rw [idxO_mid xs (.mk e0 e1 e2 e3 e4) l _ rfl]
     simp only [Option.bind_some]
     rw [ihe _ (by omega)]
     have:=ih (xs ++ [.mk e0 e1 e2 e3 e4]) (by omega)
     rw [app_len,List.append_assoc,List.singleton_append] at this
     simp only [Option.bind_some,Bool.not_true,cond_false]
     exact this
   have:=loop l [] (by omega)
   simp only [List.nil_append,List.length_nil] at this
   simp [this]
theorem sameS (k:Nat) : ∀ m l,szSs l + 1≤m→2 * szSs l + 1≤k→(fam21 k m).f21 l l=some true
 | 0,l,h,_=>by omega
 | m + 1,l,h,hk=>by
  show f21_b k (fam21 k m) l l=_
  unfold f21_b
  have cs : ∀ (i:Nat) (nx:Nat→Option Bool) (l:List DCase) (xs:List DCase),szCs l≤m→2 * szCs l≤k→f21_l2 k (fam21 k m) i (xs ++ l) nx l xs.length=nx (i + 1):=by
   intro i nx l
   induction l with
   | nil=>intro xs _ _; rfl
   | cons e l ih =>
    intro xs hm hk
    obtain ⟨e0,e1,e2,e3,e4⟩:=e
    simp only [szCs,szC] at hm hk
    unfold f21_l2
    rw [idxO_mid xs (.mk e0 e1 e2 e3 e4) l _ rfl]
    simp only [Option.bind_some]
    unfold f21_j4 f21_j5 f48
    rw [(sameE k k).2 e3 (by omega),sameS k m e4 (by omega) (by omega)]
    have:=ih (xs ++ [.mk e0 e1 e2 e3 e4]) (by omega) (by omega)
    rw [app_len,List.append_assoc,List.singleton_append] at this
    simp [seq_refl,this]
  have loop : ∀ (l:List DStmt) (xs:List DStmt),szSs l≤m→2 * szSs l≤k→f21_l1 k (fam21 k m) (xs ++ l) l xs.length=some true:=by
   intro l
   induction l with
   | nil=>intro xs _ _; rfl
   | cons e l ih =>
    intro xs hm hk
    obtain ⟨e0,e1,e2,e3,e4,e5,e6,e7,e8,e9,e10⟩:=e
    simp only [szSs,szS] at hm hk
    unfold f21_l1
    rw [idxO_mid xs (.mk e0 e1 e2 e3 e4 e5 e6 e7 e8 e9 e10) l _ rfl]
    simp only [Option.bind_some]
    unfold f21_j1 f21_j2 f21_j3 f48
    rw [(sameE k k).2 e6 (by omega),sameS k m e7 (by omega) (by omega),sameS k m e8 (by omega) (by omega),sameS k m e9 (by omega) (by omega)]
    have:=ih (xs ++ [.mk e0 e1 e2 e3 e4 e5 e6 e7 e8 e9 e10]) (by omega) (by omega)
    rw [app_len,List.append_assoc,List.singleton_append] at this
    have hc:=cs xs.length (f21_l1 k (fam21 k m) (xs ++ .mk e0 e1 e2 e3 e4 e5 e6 e7 e8 e9 e10 :: l) l) e10 [] (by omega) (by omega)
    simp only [List.nil_append,List.length_nil] at hc
    simp [seq_refl,hc,this]
  have:=loop l [] (by omega) (by omega)
  simp only [List.nil_append,List.length_nil] at this
  simp [this]
theorem f17_eq (k:Nat) (p:DProgram) (hk:2 * szP p + 1≤k):f17 k p p=some true:=by
 obtain ⟨fs⟩:=p
 simp only [szP] at hk
 unfold f17 f17_b
 simp only
 have ps : ∀ (i:Nat) (nx:Nat→Option Bool) (l:List DParam) (xs:List DParam),f17_l2 k i (xs ++ l) nx l xs.length=nx (i + 1):=by
  intro i nx l
  induction l with
  | nil=>intro xs; rfl
  | cons e l ih =>
   intro xs
   obtain ⟨e0,e1⟩:=e
   unfold f17_l2
   rw [idxO_mid xs (.mk e0 e1) l _ rfl]
   have:=ih (xs ++ [.mk e0 e1])
   rw [app_len,List.append_assoc,List.singleton_append] at this
   simp [seq_refl,this]
 have loop : ∀ (l:List DFunc) (xs:List DFunc),2 * szFs l + 1≤k→f17_l1 k (xs ++ l) l xs.length=some true:=by
  intro l
  induction l with
  | nil=>intro xs _; rfl
  | cons e l ih =>
   intro xs hk
   obtain ⟨e0,e1,e2,e3,e4,e5⟩:=e
   simp only [szFs,szF] at hk
   unfold f17_l1
   rw [idxO_mid xs (.mk e0 e1 e2 e3 e4 e5) l _ rfl]
   simp only [Option.bind_some]
   unfold f17_j1 f17_j2 f21
   rw [sameS k k e5 (by omega) (by omega)]
   have:=ih (xs ++ [.mk e0 e1 e2 e3 e4 e5]) (by omega)
   rw [app_len,List.append_assoc,List.singleton_append] at this
   have hp:=ps xs.length (f17_l1 k (xs ++ .mk e0 e1 e2 e3 e4 e5 :: l) l) e1 []
   simp only [List.nil_append,List.length_nil] at hp
   simp [seq_refl,hp,this]
 have:=loop fs [] (by omega)
 simp only [List.nil_append,List.length_nil] at this
 simp [this]
theorem f100_tot (k:Nat) : ∀ m l (a:Int),szEs l + 1≤m→∃ r,(fam100 k m).f100 l a=some r
 | 0,l,a,h=>by omega
 | m + 1,l,a,h=>by
  show ∃ r,f100_b k (fam100 k m) l a=some r
  unfold f100_b
  have loop : ∀ (l:List DExpr) (i:Nat) (n:Int),szEs l≤m→∃ r,f100_l1 k (fam100 k m) a l i n=some r:=by
   intro l
   induction l with
   | nil=>intro i n _; exact ⟨_,rfl⟩
   | cons e l ih =>
    intro i n hm
    obtain ⟨e0,e1,e2,e3,e4⟩:=e
    simp only [szEs,szE] at hm
    unfold f100_l1
    cases decide (n≤2000)
    ·exact ⟨_,rfl⟩
    ·obtain ⟨r,hr⟩:=f100_tot k m e4 (w64 (a + 1)) (by omega)
     rw [hr]
     exact ih _ _ (by omega)
  cases decide (a > 60)
  ·exact loop l 0 0 (by omega)
  ·exact ⟨_,rfl⟩
theorem f76_tot (k:Nat) : ∀ m l (a:Int),szSs l + 1≤m→szSs l + 1≤k→∃ r,(fam76 k m).f76 l a=some r
 | 0,l,a,h,_=>by omega
 | m + 1,l,a,h,hk=>by
  show ∃ r,f76_b k (fam76 k m) l a=some r
  unfold f76_b
  have cs : ∀ (i:Nat) (nx:Nat→Int→Option Int) (hnx : ∀ n,∃ r,nx (i + 1) n=some r) (l:List DCase) (j:Nat) (n:Int),szCs l≤m→szCs l≤k→∃ r,f76_l2 k (fam76 k m) a i nx l j n=some r:=by
   intro i nx hnx l
   induction l with
   | nil=>intro j n _ _; exact hnx _
   | cons e l ih =>
    intro j n hm hk
    obtain ⟨e0,e1,e2,e3,e4⟩:=e
    simp only [szCs,szC] at hm hk
    unfold f76_l2 f100
    cases decide (n≤2000)
    ·exact hnx _
    ·obtain ⟨r,hr⟩:=f100_tot k k e3 (w64 (a + 1)) (by omega)
     obtain ⟨r2,hr2⟩:=f76_tot k m e4 (w64 (a + 1)) (by omega) (by omega)
     rw [hr,cond_true,Option.bind_some,hr2]
     exact ih _ _ (by omega) (by omega)
  have loop : ∀ (l:List DStmt) (i:Nat) (n:Int),szSs l≤m→szSs l≤k→∃ r,f76_l1 k (fam76 k m) a l i n=some r:=by
   intro l
   induction l with
   | nil=>intro i n _ _; exact ⟨_,rfl⟩
   | cons e l ih =>
    intro i n hm hk
    obtain ⟨e0,e1,e2,e3,e4,e5,e6,e7,e8,e9,e10⟩:=e
    simp only [szSs,szS] at hm hk
    unfold f76_l1 f100
    cases decide (n≤2000)
    ·exact ⟨_,rfl⟩
    ·obtain ⟨r,hr⟩:=f100_tot k k e6 (w64 (a + 1)) (by omega)
     obtain ⟨r7,hr7⟩:=f76_tot k m e7 (w64 (a + 1)) (by omega) (by omega)
     obtain ⟨r8,hr8⟩:=f76_tot k m e8 (w64 (a + 1)) (by omega) (by omega)
     obtain ⟨r9,hr9⟩:=f76_tot k m e9 (w64 (a + 1)) (by omega) (by omega)
     rw [hr,cond_true,Option.bind_some,hr7,Option.bind_some,hr8,Option.bind_some,hr9]
     exact cs i _ (fun n=>ih _ _ (by omega) (by omega)) e10 0 _ (by omega) (by omega)
  cases decide (a > 40)
  ·exact loop l 0 0 (by omega) (by omega)
  ·exact ⟨_,rfl⟩
theorem f13_tot (k:Nat) (p:DProgram) (hk:2 * szP p + 1≤k) : ∃ b,f13 k p=some b:=by
 obtain ⟨fs⟩:=p
 simp only [szP] at hk
 have loop : ∀ (l:List DFunc) (i:Nat) (n:Int),szFs l + 1≤k→∃ r,f40_l1 k l i n=some r:=by
  intro l
  induction l with
  | nil=>intro i n _; exact ⟨_,rfl⟩
  | cons e l ih =>
   intro i n hk
   obtain ⟨e0,e1,e2,e3,e4,e5⟩:=e
   simp only [szFs,szF] at hk
   unfold f40_l1 f76
   cases decide (n≤2000)
   ·exact ⟨_,rfl⟩
   ·obtain ⟨r,hr⟩:=f76_tot k k e5 0 (by omega) (by omega)
    rw [hr]
    exact ih _ _ (by omega)
 obtain ⟨r,hr⟩:=loop fs 0 0 (by omega)
 exact ⟨r,by unfold f13 f13_b f40 f40_b; simp [hr]⟩
theorem f14_eq (k:Nat):f14 (k + 100)=some true:=by kernel_rfl
abbrev Ex (α:Type):=Except Int α
def slotOf (nm:List ByteArray) (vis:List Nat) (a:ByteArray):Option Nat :=
 vis.find? fun v=>match nm[v]? with | some b=>seq b a | none=>false
mutual
def uE (nm:List ByteArray) (vis:List Nat):DExpr→Ex DExpr
 | .mk op num txt slot l=>match uEs nm vis l with
  | .error c=>.error c
  | .ok l'=>cond (op == 4) (match slotOf nm vis txt with | none=>.error 20 | some v=>.ok (.mk op num txt (v:Int) l')) (.ok (.mk op num txt 0 l'))
def uEs (nm:List ByteArray) (vis:List Nat):List DExpr→Ex (List DExpr)
 | []=>.ok []
 | e :: l=>match uE nm vis e with
  | .error c=>.error c
  | .ok e'=>match uEs nm vis l with
   | .error c=>.error c
   | .ok l'=>.ok (e' :: l')
end
def lkU (a:ByteArray):List (List (ByteArray × Int))→Option Int
 | []=>none
 | d :: sc=>match mget seq a d with
  | some v=>some v
  | none=>lkU a sc
def okV (nm:List ByteArray) (vis:List Nat):Prop:=∀ v ∈ vis,v < nm.length
structure Rel (sc:List (List (ByteArray × Int))) (vis:List Nat) (nm:List ByteArray):Prop where
 look : ∀ a,lkU a sc=(slotOf nm vis a).map (fun (v:Nat)=>(v:Int))
 ok:okV nm vis
theorem f119_eq (k:Nat) (p:List DFunc) (f:DFunc) (nm:List ByteArray) (sc:List (List (ByteArray × Int))) (lo:Int) (a:ByteArray) :
  f119 k (.mk (.mk p) f nm sc lo) a=some (match lkU a sc with | some v=>(v,true) | none=>(0,false)):=by
 obtain ⟨f0,f1,f2,f3,f4,f5⟩:=f
 have h : ∀ (sc:List (List (ByteArray × Int))) (i:Nat),f119_l1 k a sc i=some (match lkU a sc with | some v=>(v,true) | none=>(0,false)):=by
  intro sc
  induction sc with
  | nil=>intro i; rfl
  | cons d sc ih =>
   intro i
   unfold f119_l1 lkU
   rw [ih]
   cases mget seq a d <;> rfl
 exact h sc 0
theorem Rel.f119 {k:Nat} {p:List DFunc} {f:DFunc} {nm:List ByteArray} {sc:List (List (ByteArray × Int))} {lo:Int} {vis:List Nat} (R:Rel sc vis nm) (a:ByteArray) :
  Go.Proofs.YtoajecnoffhlbaaGreatDoor.f119 k (.mk (.mk p) f nm sc lo) a=some (match slotOf nm vis a with | some v=>((v:Int),true) | none=>(0,false)):=by
 rw [f119_eq,R.look]
 cases slotOf nm vis a <;> rfl
theorem f58_eq (k:Nat) (b:Bool) (c:Int):f58 k b c=some (cond b (.ok ()) (.error c)):=by cases b <;> rfl
theorem nU (k:Nat) (p:List DFunc) (f:DFunc) {nm:List ByteArray} {sc:List (List (ByteArray × Int))} (lo:Int) {vis:List Nat} (R:Rel sc vis nm) : ∀ m,
  (∀ e,2 * szE e≤m→szE e≤100000→(fam1013170 k m).f1014270 e (.mk (.mk p) f nm sc lo)=some (uE nm vis e)) ∧
  (∀ l,2 * szEs l + 1≤m→szEs l≤100000→(fam1013170 k m).f1013170 l (.mk (.mk p) f nm sc lo)=some (uEs nm vis l))
 | 0=>⟨fun e h=>by have:=szE_pos e; omega,fun l h=>by omega⟩
 | m + 1=>by
  obtain ⟨ihe,ihl⟩:=nU k p f lo R m
  constructor
  ·intro e h hb
   obtain ⟨op,num,txt,slot,l⟩:=e
   obtain ⟨f0,f1,f2,f3,f4,f5⟩:=f
   simp only [szE] at h hb
   show f1014270_b k (fam1013170 k m) (.mk op num txt slot l) (.mk (.mk p) (.mk f0 f1 f2 f3 f4 f5) nm sc lo)=_
   unfold f1014270_b uE
   simp only
   rw [ihl l (by omega) (by omega)]
   simp only [Option.bind_some]
   cases uEs nm vis l with
   | error c=>rfl
   | ok l' =>
    simp only
    unfold f1013932 f1013932_b
    simp only
    rw [R.f119]
    simp only [Option.bind_some,f58_eq,bne]
    cases (op == 4) <;> cases slotOf nm vis txt <;> rfl
  ·intro l h hb
   obtain ⟨f0,f1,f2,f3,f4,f5⟩:=f
   show f1013170_l1 k (fam1013170 k m) p f0 f1 f2 f3 f4 f5 nm sc lo l 0 []=_
   have loop : ∀ (l:List DExpr) (i:Nat) (xs:List DExpr),2 * szEs l≤m→xs.length + szEs l≤100000→f1013170_l1 k (fam1013170 k m) p f0 f1 f2 f3 f4 f5 nm sc lo l i xs=some (match uEs nm vis l with | .error c=>.error c | .ok l'=>.ok (xs ++ l')):=by
    intro l
    induction l with
    | nil=>intro i xs _ _; simp [f1013170_l1,uEs]
    | cons e l ih =>
     intro i xs hm hx
     obtain ⟨e0,e1,e2,e3,e4⟩:=e
     simp only [szEs] at hm hx
     have hp:=szE_pos (.mk e0 e1 e2 e3 e4)
     unfold f1013170_l1 uEs
     rw [ihe (.mk e0 e1 e2 e3 e4) (by omega) (by omega)]
     simp only [Option.bind_some]
     cases uE nm vis (.mk e0 e1 e2 e3 e4) with
     | error c=>rfl
     | ok e' =>
      obtain ⟨r0,r1,r2,r3,r4⟩:=e'
      simp only
      rw [guard_le (by unfold maxB; omega),ih (i + 1) _ (by omega) (by rw [app_len]; omega)]
      cases uEs nm vis l with
      | error c=>rfl
      | ok l'=>simp
   rw [loop l 0 [] (by omega) (by simpa using hb)]
   cases uEs nm vis l <;> simp
theorem f120_eq (k:Nat) (p:List DFunc) (f:DFunc) {nm:List ByteArray} {sc:List (List (ByteArray × Int))} (lo:Int) {vis:List Nat} (R:Rel sc vis nm) (l:List DExpr) (hk:2 * szEs l + 1≤k) (hb:szEs l≤100000) :
  f120 k (.mk (.mk p) f nm sc lo) l=some (uEs nm vis l):=by
 have h:=(nU k p f lo R k).2 l hk hb
 obtain ⟨f0,f1,f2,f3,f4,f5⟩:=f
 unfold f120 f120_b f1013170
 simp only
 rw [h]
 cases uEs nm vis l <;> rfl
def vI (vis:List Nat):List Int:=vis.map fun (v:Nat)=>(v:Int)
theorem uE_err {nm:List ByteArray} {vis:List Nat} : ∀ m,(∀ e c,szE e≤m→uE nm vis e=.error c→c=20)∧(∀ l c,szEs l≤m→uEs nm vis l=.error c→c=20)
 | 0=>⟨fun e c h=>by have:=szE_pos e; omega,fun l c h hu=>by
   cases l with
   | nil=>cases hu
   | cons e l=>have:=szE_pos e; simp only [szEs] at h; omega⟩
 | m + 1=>by
  obtain ⟨ihe,ihl⟩:=uE_err (nm:=nm) (vis:=vis) m
  have he : ∀ e c,szE e≤m + 1→uE nm vis e=.error c→c=20:=by
   intro e c h hu
   obtain ⟨op,num,txt,slot,l⟩:=e
   simp only [szE] at h
   unfold uE at hu
   cases hl:uEs nm vis l with
   | error c'=>rw [hl] at hu; have:=ihl l c' (by omega) hl; cases hu; exact this
   | ok l' =>
    rw [hl] at hu
    cases h4:(op == 4) <;> rw [h4] at hu
    ·cases hu
    ·cases hs:slotOf nm vis txt <;> simp only [hs,cond_true] at hu <;> cases hu
     rfl
  refine ⟨he,?_⟩
  intro l
  induction l with
  | nil=>intro c _ hu; cases hu
  | cons e l ih =>
   intro c h hu
   simp only [szEs] at h
   unfold uEs at hu
   cases he' : uE nm vis e with
   | error c'=>rw [he'] at hu; have:=he e c' (by omega) he'; cases hu; exact this
   | ok e' =>
    rw [he'] at hu
    cases hl:uEs nm vis l with
    | error c'=>rw [hl] at hu; have:=ih c' (by omega) hl; cases hu; exact this
    | ok l'=>rw [hl] at hu; cases hu
theorem uEs_20 {nm:List ByteArray} {vis:List Nat} {e:List DExpr} {c:Int} (h:uEs nm vis e=.error c):c=20:=(uE_err _).2 e c (Nat.le_refl _) h
def eb {α β:Type} (u:Ex α) (f:α→Ex β):Ex β:=match u with | .error c=>.error c | .ok x=>f x
def eb3 {α β:Type} (u:Ex (List ByteArray × List Nat × α)) (f:List ByteArray→List Nat→α→Ex β):Ex β:=match u with | .error c=>.error c | .ok (a,b,x)=>f a b x
def uMk (nm:List ByteArray) (vis:List Nat) (a:ByteArray):Ex (List ByteArray × List Nat × Int) :=
 match slotOf nm vis a with | some _=>.error 21 | none=>.ok (nm ++ [a],vis ++ [nm.length],(nm.length:Int))
def uCall (op:Int) (fr:ByteArray) (na:Nat):List DFunc→Nat→Ex Int
 | [],_=>.error 20
 | .mk nm ps _ fl _ _ :: l,i=>cond (seq nm fr) (cond (fl == (op == 28)) (cond ((ps.length:Int) == (na:Int)) (.ok (i:Int)) (.error 24)) (.error 25)) (uCall op fr na l (i + 1))
def uD {α:Type} (b:Bool) (c:Int) (x:Ex α):Ex α:=cond b x (.error c)
section
variable (fs:List DFunc) (f2:Int) (f3:Bool)
mutual
def uS:Nat→List ByteArray→List Nat→DStmt→Ex (List ByteArray × List Nat × DStmt)
 | lo,nm,vis,.mk op name s2 fr s4 flag l6 l7 l8 l9 l10 =>
  eb (uEs nm vis l6) fun r6 =>
  cond (op == 27) (eb3 (uCs lo nm vis l10) fun nm1 _ cs=>.ok (nm1,vis,.mk op name s2 fr s4 flag r6 l7 l8 l9 cs))
  (eb (cond (seq fr ⟨#[]⟩) (.ok s4) (uCall op fr r6.length fs 0)) fun ix =>
  cond (op == 2) (match slotOf nm vis name with | none=>.error 20 | some v=>.ok (nm,vis,.mk op name (v:Int) fr ix flag r6 l7 l8 l9 l10))
  (cond (op == 18 || op == 19) (uD (decide (lo > 0)) 22 (.ok (nm,vis,.mk op name s2 fr ix flag r6 l7 l8 l9 l10)))
  (cond (op == 29) (uD f3 22 (.ok (nm,vis,.mk op name s2 fr ix flag r6 l7 l8 l9 l10)))
  (cond (op == 17) (uD ((decide (r6.length > 0)) == (f2 != 0)) 22 (.ok (nm,vis,.mk op name s2 fr ix flag r6 l7 l8 l9 l10)))
  (cond (op == 21) (eb3 (uB (lo + 1) nm vis l7) fun nm1 _ b=>.ok (nm1,vis,.mk op name s2 fr ix flag r6 b l8 l9 l10))
  (cond (op == 28) (eb3 (uI (lo + 1) nm vis name s2 l7) fun nm1 _ vb=>.ok (nm1,vis,.mk op name vb.1 fr ix flag r6 vb.2 l8 l9 l10))
  (cond (op == 25) (eb3 (uI lo nm vis name s2 l7) fun nm1 _ vb=>.ok (nm1,vis,.mk op name vb.1 fr ix flag r6 vb.2 l8 l9 l10))
  (cond (op == 24) (eb3 (uB lo nm vis l7) fun nm1 _ b7=>eb3 (uI lo nm1 vis name s2 l8) fun nm2 _ vb=>eb3 (uB lo nm2 vis l9) fun nm3 _ b9=>.ok (nm3,vis,.mk op name vb.1 fr ix flag r6 b7 vb.2 b9 l10))
  (cond (op == 20 || op == 22 || op == 23 || op == 26) (eb3 (uB lo nm vis l7) fun nm1 _ b7=>eb3 (uB lo nm1 vis l8) fun nm2 _ b8=>.ok (nm2,vis,.mk op name s2 fr ix flag r6 b7 b8 l9 l10))
   (eb3 (cond (seq name ⟨#[]⟩) (.ok (nm,vis,s2)) (uMk nm vis name)) fun nm1 vis1 v=>uD (op != 6 || flag == 0 || decide (lo > 0)) 22 (.ok (nm1,vis1,.mk op name v fr ix flag r6 l7 l8 l9 l10))))))))))))
def uSs:Nat→List ByteArray→List Nat→List DStmt→Ex (List ByteArray × List Nat × List DStmt)
 | _,nm,vis,[]=>.ok (nm,vis,[])
 | lo,nm,vis,s :: l=>eb3 (uS lo nm vis s) fun nm1 vis1 s'=>eb3 (uSs lo nm1 vis1 l) fun nm2 vis2 l'=>.ok (nm2,vis2,s' :: l')
def uB:Nat→List ByteArray→List Nat→List DStmt→Ex (List ByteArray × List Nat × List DStmt)
 | _,nm,vis,[]=>.ok (nm,vis,[])
 | lo,nm,vis,s :: l=>eb3 (uS lo nm vis s) fun nm1 vis1 s'=>eb3 (uSs lo nm1 vis1 l) fun nm2 vis2 l'=>.ok (nm2,vis,s' :: l')
def uI:Nat→List ByteArray→List Nat→ByteArray→Int→List DStmt→Ex (List ByteArray × List Nat × (Int × List DStmt))
 | lo,nm,vis,name,s2,[]=>eb3 (cond (seq name ⟨#[]⟩) (.ok (nm,vis,s2)) (uMk nm vis name)) fun nm1 _ v=>.ok (nm1,vis,(v,[]))
 | lo,nm,vis,name,s2,s :: l=>eb3 (cond (seq name ⟨#[]⟩) (.ok (nm,vis,s2)) (uMk nm vis name)) fun nm1 vis1 v=>eb3 (uS lo nm1 vis1 s) fun nm2 vis2 s'=>eb3 (uSs lo nm2 vis2 l) fun nm3 _ l'=>.ok (nm3,vis,(v,s' :: l'))
def uC:Nat→List ByteArray→List Nat→DCase→Ex (List ByteArray × List Nat × DCase)
 | lo,nm,vis,.mk kind name slot es b=>eb (uEs nm vis es) fun r=>eb3 (uI lo nm vis name slot b) fun nm1 _ vb=>.ok (nm1,vis,.mk kind name vb.1 r vb.2)
def uCs:Nat→List ByteArray→List Nat→List DCase→Ex (List ByteArray × List Nat × List DCase)
 | _,nm,vis,[]=>.ok (nm,vis,[])
 | lo,nm,vis,c :: l=>eb3 (uC lo nm vis c) fun nm1 _ c'=>eb3 (uCs lo nm1 vis l) fun nm2 _ l'=>.ok (nm2,vis,c' :: l')
end
theorem uB_eq (lo:Nat) (nm:List ByteArray) (vis:List Nat) (l:List DStmt):uB fs f2 f3 lo nm vis l=eb3 (uSs fs f2 f3 lo nm vis l) fun nm1 _ l'=>.ok (nm1,vis,l'):=by
 cases l with
 | nil=>simp [uB,uSs,eb3]
 | cons s l =>
  rw [uB,uSs]
  cases uS fs f2 f3 lo nm vis s with
  | error c=>rfl
  | ok x =>
   simp only [eb3]
   cases uSs fs f2 f3 lo x.1 x.2.1 l <;> rfl
theorem uI_eq (lo:Nat) (nm:List ByteArray) (vis:List Nat) (name:ByteArray) (s2:Int) (l:List DStmt):uI fs f2 f3 lo nm vis name s2 l =
  eb3 (cond (seq name ⟨#[]⟩) (.ok (nm,vis,s2)) (uMk nm vis name)) fun nm1 vis1 v=>eb3 (uSs fs f2 f3 lo nm1 vis1 l) fun nm2 _ l'=>.ok (nm2,vis,(v,l')):=by
 cases l with
 | nil=>simp [uI,uSs,eb3]
 | cons s l =>
  rw [uI]
  congr 1
  funext nm1 vis1 v
  rw [uSs]
  cases uS fs f2 f3 lo nm1 vis1 s with
  | error c=>rfl
  | ok x =>
   simp only [eb3]
   cases uSs fs f2 f3 lo x.1 x.2.1 l <;> rfl
end
theorem slotOf_ext {nm nm' : List ByteArray} {vis:List Nat} (hv:okV nm vis) (hn:nm <+: nm') (a:ByteArray):slotOf nm' vis a=slotOf nm vis a:=by
 obtain ⟨t,rfl⟩:=hn
 unfold slotOf
 induction vis with
 | nil=>rfl
 | cons v vis ih =>
  have h:v < nm.length:=hv v (by simp)
  rw [List.find?_cons,List.find?_cons,List.getElem?_append_left h,ih (fun w hw=>hv w (by simp [hw]))]
theorem slotOf_new {nm:List ByteArray} {vis:List Nat} (hv:okV nm vis) (a b:ByteArray) (hn:slotOf nm vis a=none):slotOf (nm ++ [a]) (vis ++ [nm.length]) b=match slotOf nm vis b with | some v=>some v | none=>cond (seq a b) (some nm.length) none:=by
 have h1:=slotOf_ext (nm':=nm ++ [a]) hv ⟨[a],rfl⟩ b
 unfold slotOf at h1 ⊢
 rw [List.find?_append,h1]
 cases List.find? (fun v=>match nm[v]? with | some b_1=>seq b_1 b | none=>false) vis with
 | some v=>rfl
 | none =>
  simp only [Option.none_or,List.find?_cons,List.find?_nil]
  have:(nm ++ [a])[nm.length]?=some a:=by simp
  rw [this]
  dsimp only
  cases seq a b <;> rfl
theorem seq_eq {a b:ByteArray} (h:seq a b=true):a=b:=by
 unfold seq at h
 rw [ByteArray.toList_eq,ByteArray.toList_eq] at h
 have h:=eq_of_beq h
 obtain ⟨⟨a⟩⟩:=a; obtain ⟨⟨b⟩⟩:=b
 exact congrArg (fun l=>(⟨⟨l⟩⟩:ByteArray)) h
theorem mget_put (a:ByteArray) (k:Int) (b:ByteArray) : ∀ d:List (ByteArray × Int),mget seq b (mput seq a k d)=cond (seq a b) (some k) (mget seq b d)
 | []=>by
  unfold mput mget
  rw [seq_comm b a]
  cases seq a b <;> rfl
 | (x,v) :: d=>by
  unfold mput
  cases h:seq a x with
  | true =>
   obtain rfl:=seq_eq h
   simp only [if_true,mget]
   rw [seq_comm b a]
   cases seq a b <;> rfl
  | false =>
   rw [if_neg (by simp)]
   simp only [mget,mget_put a k b d]
   cases hb:seq b x with
   | false=>simp
   | true =>
    obtain rfl:=seq_eq hb
    simp [h]
theorem lkU_app (a:ByteArray) : ∀ (x y:List (List (ByteArray × Int))),lkU a (x ++ y)=match lkU a x with | some v=>some v | none=>lkU a y
 | [],y=>rfl
 | d :: x,y=>by
  simp only [List.cons_append,lkU,lkU_app a x y]
  cases mget seq a d <;> rfl
theorem lkU_one (a:ByteArray) (d:List (ByteArray × Int)):lkU a [d]=mget seq a d:=by
 unfold lkU; cases mget seq a d <;> rfl
theorem Rel.push {sc:List (List (ByteArray × Int))} {vis:List Nat} {nm:List ByteArray} (R:Rel sc vis nm):Rel (sc ++ [[]]) vis nm :=
 ⟨fun a=>by rw [lkU_app,lkU_one,← R.look a]; cases lkU a sc <;> rfl,R.ok⟩
theorem Rel.ext {sc:List (List (ByteArray × Int))} {vis:List Nat} {nm nm' : List ByteArray} (R:Rel sc vis nm) (h:nm <+: nm'):Rel sc vis nm' :=
 ⟨fun a=>by rw [R.look,slotOf_ext R.ok h],fun v hv=>Nat.lt_of_lt_of_le (R.ok v hv) h.length_le⟩
theorem Rel.make {pre:List (List (ByteArray × Int))} {d:List (ByteArray × Int)} {vis:List Nat} {nm:List ByteArray} {a:ByteArray} (R:Rel (pre ++ [d]) vis nm) (hn:slotOf nm vis a=none) :
  Rel (pre ++ [mput seq a (nm.length:Int) d]) (vis ++ [nm.length]) (nm ++ [a]):=by
 refine ⟨fun b=>?_,fun v hv=>?_⟩
 ·rw [slotOf_new R.ok a b hn,lkU_app,lkU_one,mget_put]
  have h:=R.look b
  rw [lkU_app,lkU_one] at h
  cases hs:seq a b with
  | false =>
   simp only [cond_false]
   rw [h]
   cases slotOf nm vis b <;> rfl
  | true =>
   obtain rfl:=seq_eq hs
   rw [hn] at h ⊢
   simp only [Option.map_none] at h
   cases hp:lkU a pre with
   | some v=>rw [hp] at h; cases h
   | none=>rfl
 ·rcases List.mem_append.1 hv with hv | hv
  ·have:=R.ok v hv; simp; omega
  ·simp at hv; simp; omega
theorem f103_eq (k:Nat) (p:List DFunc) (f:DFunc) {nm:List ByteArray} {pre:List (List (ByteArray × Int))} {d:List (ByteArray × Int)} (lo:Int) {vis:List Nat} (R:Rel (pre ++ [d]) vis nm) (a:ByteArray) (hb:nm.length≤1000000) (hp:pre.length≤1000000) :
  f103 k (.mk (.mk p) f nm (pre ++ [d]) lo) a=some (match uMk nm vis a with | .error c=>.error c | .ok (nm',_,v)=>.ok (.mk (.mk p) f nm' (pre ++ [mput seq a (nm.length:Int) d]) lo,v)):=by
 have h119:=R.f119 (k:=k) (p:=p) (f:=f) (lo:=lo) a
 obtain ⟨f0,f1,f2,f3,f4,f5⟩:=f
 unfold f103 f103_b uMk
 simp only
 rw [h119]
 cases slotOf nm vis a with
 | some v=>rfl
 | none =>
  simp only [Option.bind_some,f58_eq,Bool.not_false,cond_true]
  rw [guard_le (by unfold maxB; omega)]
  have e1:w64 (((pre ++ [d]).length:Int) - 1)=(pre.length:Int):=w64_nat (n:=pre.length) (by simp) (by omega)
  rw [e1,idxO_mid pre d [] _ rfl]
  simp
def fdL (fr:ByteArray):List DFunc→Nat→Option Int
 | [],_=>some (-1)
 | .mk nm _ _ _ _ _ :: l,i=>cond (seq nm fr) (some (i:Int)) (fdL fr l (i + 1))
theorem f1005661_eq (k:Nat) (s0:Int) (s1:ByteArray) (s2:Int) (fr:ByteArray) (s4 s5:Int) (s6:List DExpr) (s7 s8 s9:List DStmt) (s10:List DCase) : ∀ (l:List DFunc) (i:Nat),
  f1005661_l1 k s0 s1 s2 fr s4 s5 s6 s7 s8 s9 s10 l i=fdL fr l i
 | [],i=>rfl
 | .mk e0 e1 e2 e3 e4 e5 :: l,i=>by
  unfold f1005661_l1 fdL f1014048 f1014048_b
  simp only [Option.bind_some]
  rw [f1005661_eq k s0 s1 s2 fr s4 s5 s6 s7 s8 s9 s10 l (i + 1)]
theorem fd_spec (op:Int) (fr:ByteArray) (na:Nat) : ∀ (l:List DFunc) (pre:List DFunc),∃ r,fdL fr l pre.length=some r ∧
  ((r=-1∧uCall op fr na l pre.length=.error 20)∨(∃ (j:Nat) (g0:ByteArray) (g1:List DParam) (g2:Int) (g3:Bool) (g4:Int) (g5:List DStmt),r=(j:Int)∧(pre ++ l)[j]?=some (.mk g0 g1 g2 g3 g4 g5) ∧
   uCall op fr na l pre.length=cond (g3 == (op == 28)) (cond ((g1.length:Int) == (na:Int)) (.ok (j:Int)) (.error 24)) (.error 25)))
 | [],pre=>⟨-1,rfl,.inl ⟨rfl,rfl⟩⟩
 | .mk g0 g1 g2 g3 g4 g5 :: l,pre=>by
  unfold fdL uCall
  cases h:seq g0 fr with
  | true=>exact ⟨_,rfl,.inr ⟨pre.length,g0,g1,g2,g3,g4,g5,rfl,by simp,rfl⟩⟩
  | false =>
   obtain ⟨r,h1,h2⟩:=fd_spec op fr na l (pre ++ [.mk g0 g1 g2 g3 g4 g5])
   rw [app_len] at h1 h2
   rw [List.append_assoc,List.singleton_append] at h2
   exact ⟨r,h1,h2⟩
theorem f122_eq (k:Nat) (p:List DFunc) (f:DFunc) (nm:List ByteArray) (sc:List (List (ByteArray × Int))) (lo:Int) (op:Int) (name:ByteArray) (s2:Int) (fr:ByteArray) (s4 flag:Int) (l6:List DExpr) (l7 l8 l9:List DStmt) (l10:List DCase) :
  f122 k (.mk (.mk p) f nm sc lo) (.mk op name s2 fr s4 flag l6 l7 l8 l9 l10)=some (match uCall op fr l6.length p 0 with | .error c=>.error c | .ok ix=>.ok (.mk (.mk p) f nm sc lo,.mk op name s2 fr ix flag l6 l7 l8 l9 l10)):=by
 obtain ⟨f0,f1,f2,f3,f4,f5⟩:=f
 unfold f122 f122_b f1005661 f1005661_b
 simp only
 rw [f1005661_eq]
 obtain ⟨r,h1,h2⟩:=fd_spec op fr l6.length p []
 simp only [List.length_nil,List.nil_append] at h1 h2
 rw [h1]
 simp only [Option.bind_some,f58_eq]
 rcases h2 with ⟨rfl,h2⟩ | ⟨j,g0,g1,g2,g3,g4,g5,rfl,h3,h2⟩
 ·rw [h2]; rfl
 ·rw [h2]
  have:idxO p (j:Int)=some (.mk g0 g1 g2 g3 g4 g5):=by unfold idxO; rw [if_pos (by omega)]; simpa using h3
  have hj:decide ((j:Int) ≥ 0)=true:=by simp
  rw [this,hj]
  simp only [cond_true,Option.bind_some]
  cases (g3 == (op == 28)) <;> cases ((g1.length:Int) == (l6.length:Int)) <;> rfl
end Go.Proofs.YtoajecnoffhlbaaGreatDoor
namespace Go.Proofs.YtoajecnoffhlbaaGreatDoor
open Go
abbrev Sc:=List (List (ByteArray × Int))
def NN {α:Type} (r:Option (Ex (Dresolver × α))) (p:List DFunc) (f:DFunc) (lo:Nat) (pre:Sc) (nm:List ByteArray) (u:Ex (List ByteArray × List Nat × α)) (n:Nat):Prop :=
 match u with
 | .error c=>r=some (.error c)
 | .ok (nm',vis',y)=>∃ d',r=some (.ok (.mk (.mk p) f nm' (pre ++ [d']) lo,y))∧Rel (pre ++ [d']) vis' nm'∧nm <+: nm'∧nm'.length≤nm.length + n
def NB {α β:Type} (r:Option (Ex (Dresolver × β))) (p:List DFunc) (f:DFunc) (lo:Nat) (sc:Sc) (nm:List ByteArray) (u:Ex (List ByteArray × List Nat × α)) (g:α→β) (n:Nat):Prop :=
 match u with
 | .error c=>r=some (.error c)
 | .ok (nm',_,y)=>r=some (.ok (.mk (.mk p) f nm' sc lo,g y))∧nm <+: nm'∧nm'.length≤nm.length + n
theorem opt_make (k:Nat) (p:List DFunc) (f:DFunc) {nm:List ByteArray} {pre:Sc} {d:List (ByteArray × Int)} (lo:Nat) {vis:List Nat} (R:Rel (pre ++ [d]) vis nm) (a:ByteArray) (hb:nm.length≤1000000) (hp:pre.length≤1000000) :
  NN (f103 k (.mk (.mk p) f nm (pre ++ [d]) lo) a) p f lo pre nm (uMk nm vis a) 1:=by
 rw [f103_eq k p f lo R a hb hp]
 unfold uMk NN
 cases hs:slotOf nm vis a with
 | some v=>rfl
 | none=>exact ⟨_,rfl,R.make hs,⟨[a],rfl⟩,by simp⟩
theorem gt_nat (lo:Nat):decide ((lo:Int) > 0)=decide (lo > 0):=by rw [decide_eq_decide]; omega
theorem cut_guard {α:Type} (sc:Sc) (d:List (ByteArray × Int)) (h:sc.length≤1000000) (x:Option α):guardB (decide (0≤(w64 (((sc ++ [d]).length:Int) - 1))∧(w64 (((sc ++ [d]).length:Int) - 1))≤((sc ++ [d]).length:Int))) x=x:=by
 have e1:w64 (((sc ++ [d]).length:Int) - 1)=(sc.length:Int):=w64_nat (n:=sc.length) (by simp) (by omega)
 rw [e1]
 have:(0≤(sc.length:Int)∧(sc.length:Int)≤((sc ++ [d]).length:Int)):=⟨by omega,by simp; omega⟩
 rw [decide_eq_true this]; rfl
theorem cut_take (sc:Sc) (d:List (ByteArray × Int)) (h:sc.length≤1000000):(sc ++ [d]).take (w64 (((sc ++ [d]).length:Int) - 1)).toNat=sc:=by
 have e1:w64 (((sc ++ [d]).length:Int) - 1)=(sc.length:Int):=w64_nat (n:=sc.length) (by simp) (by omega)
 rw [e1]; simp
section
variable (k:Nat) (p:List DFunc) (f0:ByteArray) (f1:List DParam) (f2:Int) (f3:Bool) (f4:Int) (f5:List DStmt)
end
theorem nR (k:Nat) (p:List DFunc) (f0:ByteArray) (f1:List DParam) (f2:Int) (f3:Bool) (f4:Int) (f5:List DStmt) : ∀ m,m≤k →
  (∀ s,4 * szS s≤m→∀ (nm:List ByteArray) (vis:List Nat) (pre:Sc) (d:List (ByteArray × Int)) (lo:Nat),nm.length + szS s≤100000→pre.length + szS s≤100000→lo + szS s≤100000→Rel (pre ++ [d]) vis nm →
   NN ((fam105 k m).f105 (.mk (.mk p) (.mk f0 f1 f2 f3 f4 f5) nm (pre ++ [d]) lo) s) p (.mk f0 f1 f2 f3 f4 f5) lo pre nm (uS p f2 f3 lo nm vis s) (szS s)) ∧
  (∀ l,4 * szSs l + 1≤m→∀ (nm:List ByteArray) (vis:List Nat) (sc:Sc) (lo:Nat),nm.length + szSs l≤100000→sc.length + szSs l≤100000→lo + szSs l≤100000→Rel sc vis nm →
   NB ((fam105 k m).f1012166 (.mk (.mk p) (.mk f0 f1 f2 f3 f4 f5) nm sc lo) ⟨#[]⟩ l) p (.mk f0 f1 f2 f3 f4 f5) lo sc nm (uB p f2 f3 lo nm vis l) id (szSs l)) ∧
  (∀ l,4 * szSs l + 1≤m→∀ (name:ByteArray) (s0:Int) (s1:ByteArray) (s2:Int) (s3:ByteArray) (s4 s5:Int) (s6:List DExpr) (s7 s8 s9:List DStmt) (s10:List DCase) (nm:List ByteArray) (vis:List Nat) (sc:Sc) (lo:Nat),nm.length + szSs l + 1≤100000→sc.length + szSs l≤100000→lo + szSs l≤100000→Rel sc vis nm →
   NB ((fam105 k m).f1012152 (.mk (.mk p) (.mk f0 f1 f2 f3 f4 f5) nm sc lo) name l (.mk s0 s1 s2 s3 s4 s5 s6 s7 s8 s9 s10)) p (.mk f0 f1 f2 f3 f4 f5) lo sc nm (uI p f2 f3 lo nm vis name s2 l) (fun vb=>(DStmt.mk s0 s1 vb.1 s3 s4 s5 s6 s7 s8 s9 s10,vb.2)) (szSs l + 1)) ∧
  (∀ l,4 * szSs l + 1≤m→∀ (name:ByteArray) (s0:Int) (s1:ByteArray) (s2:Int) (s3:List DExpr) (s4:List DStmt) (nm:List ByteArray) (vis:List Nat) (sc:Sc) (lo:Nat),nm.length + szSs l + 1≤100000→sc.length + szSs l≤100000→lo + szSs l≤100000→Rel sc vis nm →
   NB ((fam105 k m).f1012148 (.mk (.mk p) (.mk f0 f1 f2 f3 f4 f5) nm sc lo) name l (.mk s0 s1 s2 s3 s4)) p (.mk f0 f1 f2 f3 f4 f5) lo sc nm (uI p f2 f3 lo nm vis name s2 l) (fun vb=>(DCase.mk s0 s1 vb.1 s3 s4,vb.2)) (szSs l + 1)) ∧
  (∀ l,4 * szSs l + 2≤m→∀ (nm:List ByteArray) (vis:List Nat) (sc:Sc) (lo:Nat),nm.length + szSs l≤100000→sc.length + szSs l≤100000→lo + szSs l + 1≤100000→Rel sc vis nm →
   NB ((fam105 k m).f1012366 (.mk (.mk p) (.mk f0 f1 f2 f3 f4 f5) nm sc lo) ⟨#[]⟩ l) p (.mk f0 f1 f2 f3 f4 f5) lo sc nm (uB p f2 f3 (lo + 1) nm vis l) id (szSs l)) ∧
  (∀ l,4 * szSs l + 2≤m→∀ (name:ByteArray) (s0:Int) (s1:ByteArray) (s2:Int) (s3:ByteArray) (s4 s5:Int) (s6:List DExpr) (s7 s8 s9:List DStmt) (s10:List DCase) (nm:List ByteArray) (vis:List Nat) (sc:Sc) (lo:Nat),nm.length + szSs l + 1≤100000→sc.length + szSs l≤100000→lo + szSs l + 1≤100000→Rel sc vis nm →
   NB ((fam105 k m).f1012352 (.mk (.mk p) (.mk f0 f1 f2 f3 f4 f5) nm sc lo) name l (.mk s0 s1 s2 s3 s4 s5 s6 s7 s8 s9 s10)) p (.mk f0 f1 f2 f3 f4 f5) lo sc nm (uI p f2 f3 (lo + 1) nm vis name s2 l) (fun vb=>(DStmt.mk s0 s1 vb.1 s3 s4 s5 s6 s7 s8 s9 s10,vb.2)) (szSs l + 1))
 | 0,_=>⟨fun e he=>by have:=szS_pos e; omega,fun l hl=>by omega,fun l hl=>by omega,fun l hl=>by omega,fun l hl=>by omega,fun l hl=>by omega⟩
 | m + 1,hmk=>by
  obtain ⟨ihs,ihb,ihi,ihc,ihlb,ihli⟩:=nR k p f0 f1 f2 f3 f4 f5 m (by omega)
  have loopB : ∀ (l:List DStmt) (i:Nat) (xs:List DStmt) (nm:List ByteArray) (vis:List Nat) (sc:Sc) (d:List (ByteArray × Int)) (lo:Nat),4 * szSs l≤m→xs.length + szSs l≤100000→nm.length + szSs l≤100000→sc.length + szSs l≤100000→lo + szSs l≤100000→Rel (sc ++ [d]) vis nm →
    NB (f1012166_l1 k (fam105 k m) l i p f0 f1 f2 f3 f4 f5 nm (sc ++ [d]) lo xs) p (.mk f0 f1 f2 f3 f4 f5) lo sc nm (uSs p f2 f3 lo nm vis l) (fun l'=>xs ++ l') (szSs l):=by
   intro l
   induction l with
   | nil =>
    intro i xs nm vis sc d lo _ _ _ hsc _ R
    unfold f1012166_l1
    rw [cut_guard sc d (by omega),cut_take sc d (by omega),uSs]
    exact ⟨by simp,List.prefix_refl _,by simp⟩
   | cons s l ih =>
    intro i xs nm vis sc d lo hm hxs hnm hsc hlo R
    obtain ⟨e0,e1,e2,e3,e4,e5,e6,e7,e8,e9,e10⟩:=s
    simp only [szSs] at hm hxs hnm hsc hlo
    have hp:=szS_pos (.mk e0 e1 e2 e3 e4 e5 e6 e7 e8 e9 e10)
    unfold f1012166_l1
    rw [uSs]
    have h:=ihs (.mk e0 e1 e2 e3 e4 e5 e6 e7 e8 e9 e10) (by omega) nm vis sc d lo (by omega) (by omega) (by omega) R
    revert h
    cases uS p f2 f3 lo nm vis (.mk e0 e1 e2 e3 e4 e5 e6 e7 e8 e9 e10) with
    | error c=>intro h; simp only [NN] at h; rw [h]; rfl
    | ok x =>
     obtain ⟨nm1,vis1,s'⟩:=x
     rintro ⟨d1,h,R1,hp1,hl1⟩
     rw [h]
     obtain ⟨r0,r1,r2,r3,r4,r5,r6,r7,r8,r9,r10⟩:=s'
     simp only [Option.bind_some,eb3]
     rw [guard_le (by unfold maxB; omega)]
     have h2:=ih (i + 1) (xs ++ [.mk r0 r1 r2 r3 r4 r5 r6 r7 r8 r9 r10]) nm1 vis1 sc d1 lo (by omega) (by rw [app_len]; omega) (by omega) (by omega) (by omega) R1
     revert h2
     cases uSs p f2 f3 lo nm1 vis1 l with
     | error c=>intro h2; exact h2
     | ok x =>
      obtain ⟨nm2,vis2,l'⟩:=x
      rintro ⟨h3,hp2,hl2⟩
      refine ⟨by rw [h3]; simp,hp1.trans hp2,by simp only [szSs]; omega⟩
  have loopS : ∀ (s0:Int) (s1:ByteArray) (s3:ByteArray) (s4 s5:Int) (s6:List DExpr) (s7 s8 s9:List DStmt) (s10:List DCase) (v:Int) (l:List DStmt) (i:Nat) (xs:List DStmt) (nm:List ByteArray) (vis:List Nat) (sc:Sc) (d:List (ByteArray × Int)) (lo:Nat),4 * szSs l≤m→xs.length + szSs l≤100000→nm.length + szSs l≤100000→sc.length + szSs l≤100000→lo + szSs l≤100000→Rel (sc ++ [d]) vis nm →
    NB (f1012152_l1 k (fam105 k m) s0 s1 s3 s4 s5 s6 s7 s8 s9 s10 v l i p f0 f1 f2 f3 f4 f5 nm (sc ++ [d]) lo xs) p (.mk f0 f1 f2 f3 f4 f5) lo sc nm (uSs p f2 f3 lo nm vis l) (fun l'=>(DStmt.mk s0 s1 v s3 s4 s5 s6 s7 s8 s9 s10,xs ++ l')) (szSs l):=by
   intro s0 s1 s3 s4 s5 s6 s7 s8 s9 s10 v l
   induction l with
   | nil =>
    intro i xs nm vis sc d lo _ _ _ hsc _ R
    unfold f1012152_l1
    rw [cut_guard sc d (by omega),cut_take sc d (by omega),uSs]
    exact ⟨by simp,List.prefix_refl _,by simp⟩
   | cons s l ih =>
    intro i xs nm vis sc d lo hm hxs hnm hsc hlo R
    obtain ⟨e0,e1,e2,e3,e4,e5,e6,e7,e8,e9,e10⟩:=s
    simp only [szSs] at hm hxs hnm hsc hlo
    have hp:=szS_pos (.mk e0 e1 e2 e3 e4 e5 e6 e7 e8 e9 e10)
    unfold f1012152_l1
    rw [uSs]
    have h:=ihs (.mk e0 e1 e2 e3 e4 e5 e6 e7 e8 e9 e10) (by omega) nm vis sc d lo (by omega) (by omega) (by omega) R
    revert h
    cases uS p f2 f3 lo nm vis (.mk e0 e1 e2 e3 e4 e5 e6 e7 e8 e9 e10) with
    | error c=>intro h; simp only [NN] at h; rw [h]; rfl
    | ok x =>
     obtain ⟨nm1,vis1,s'⟩:=x
     rintro ⟨d1,h,R1,hp1,hl1⟩
     rw [h]
     obtain ⟨r0,r1,r2,r3,r4,r5,r6,r7,r8,r9,r10⟩:=s'
     simp only [Option.bind_some,eb3]
     rw [guard_le (by unfold maxB; omega)]
     have h2:=ih (i + 1) (xs ++ [.mk r0 r1 r2 r3 r4 r5 r6 r7 r8 r9 r10]) nm1 vis1 sc d1 lo (by omega) (by rw [app_len]; omega) (by omega) (by omega) (by omega) R1
     revert h2
     cases uSs p f2 f3 lo nm1 vis1 l with
     | error c=>intro h2; exact h2
     | ok x =>
      obtain ⟨nm2,vis2,l'⟩:=x
      rintro ⟨h3,hp2,hl2⟩
      refine ⟨by rw [h3]; simp,hp1.trans hp2,by simp only [szSs]; omega⟩
  have loopC : ∀ (s0:Int) (s1:ByteArray) (s3:List DExpr) (s4:List DStmt) (v:Int) (l:List DStmt) (i:Nat) (xs:List DStmt) (nm:List ByteArray) (vis:List Nat) (sc:Sc) (d:List (ByteArray × Int)) (lo:Nat),4 * szSs l≤m→xs.length + szSs l≤100000→nm.length + szSs l≤100000→sc.length + szSs l≤100000→lo + szSs l≤100000→Rel (sc ++ [d]) vis nm →
    NB (f1012148_l1 k (fam105 k m) s0 s1 s3 s4 v l i p f0 f1 f2 f3 f4 f5 nm (sc ++ [d]) lo xs) p (.mk f0 f1 f2 f3 f4 f5) lo sc nm (uSs p f2 f3 lo nm vis l) (fun l'=>(DCase.mk s0 s1 v s3 s4,xs ++ l')) (szSs l):=by
   intro s0 s1 s3 s4 v l
   induction l with
   | nil =>
    intro i xs nm vis sc d lo _ _ _ hsc _ R
    unfold f1012148_l1
    rw [cut_guard sc d (by omega),cut_take sc d (by omega),uSs]
    exact ⟨by simp,List.prefix_refl _,by simp⟩
   | cons s l ih =>
    intro i xs nm vis sc d lo hm hxs hnm hsc hlo R
    obtain ⟨e0,e1,e2,e3,e4,e5,e6,e7,e8,e9,e10⟩:=s
    simp only [szSs] at hm hxs hnm hsc hlo
    have hp:=szS_pos (.mk e0 e1 e2 e3 e4 e5 e6 e7 e8 e9 e10)
    unfold f1012148_l1
    rw [uSs]
    have h:=ihs (.mk e0 e1 e2 e3 e4 e5 e6 e7 e8 e9 e10) (by omega) nm vis sc d lo (by omega) (by omega) (by omega) R
    revert h
    cases uS p f2 f3 lo nm vis (.mk e0 e1 e2 e3 e4 e5 e6 e7 e8 e9 e10) with
    | error c=>intro h; simp only [NN] at h; rw [h]; rfl
    | ok x =>
     obtain ⟨nm1,vis1,s'⟩:=x
     rintro ⟨d1,h,R1,hp1,hl1⟩
     rw [h]
     obtain ⟨r0,r1,r2,r3,r4,r5,r6,r7,r8,r9,r10⟩:=s'
     simp only [Option.bind_some,eb3]
     rw [guard_le (by unfold maxB; omega)]
     have h2:=ih (i + 1) (xs ++ [.mk r0 r1 r2 r3 r4 r5 r6 r7 r8 r9 r10]) nm1 vis1 sc d1 lo (by omega) (by rw [app_len]; omega) (by omega) (by omega) (by omega) R1
     revert h2
     cases uSs p f2 f3 lo nm1 vis1 l with
     | error c=>intro h2; exact h2
     | ok x =>
      obtain ⟨nm2,vis2,l'⟩:=x
      rintro ⟨h3,hp2,hl2⟩
      refine ⟨by rw [h3]; simp,hp1.trans hp2,by simp only [szSs]; omega⟩
  have loopK : ∀ (s0:Int) (s1:ByteArray) (s2:Int) (s3:ByteArray) (s4 s5:Int) (s7 s8 s9:List DStmt) (r:List DExpr) (l:List DCase) (i:Nat) (xs:List DCase) (nm:List ByteArray) (vis:List Nat) (pre:Sc) (d:List (ByteArray × Int)) (lo:Nat),4 * szCs l≤m + 1→xs.length + szCs l≤100000→nm.length + szCs l≤100000→pre.length + szCs l≤100000→lo + szCs l≤100000→Rel (pre ++ [d]) vis nm →
    NB (f105_l1 k (fam105 k m) s0 s1 s2 s3 s4 s5 s7 s8 s9 r l i p f0 f1 f2 f3 f4 f5 nm (pre ++ [d]) lo xs) p (.mk f0 f1 f2 f3 f4 f5) lo (pre ++ [d]) nm (uCs p f2 f3 lo nm vis l) (fun l'=>DStmt.mk s0 s1 s2 s3 s4 s5 r s7 s8 s9 (xs ++ l')) (szCs l):=by
   intro s0 s1 s2 s3 s4 s5 s7 s8 s9 r l
   induction l with
   | nil =>
    intro i xs nm vis pre d lo _ _ _ hsc _ R
    unfold f105_l1
    rw [uCs]
    exact ⟨by simp,List.prefix_refl _,by simp⟩
   | cons c l ih =>
    intro i xs nm vis pre d lo hm hxs hnm hsc hlo R
    obtain ⟨e0,e1,e2,e3,e4⟩:=c
    simp only [szCs,szC] at hm hxs hnm hsc hlo
    unfold f105_l1
    rw [uCs,uC]
    rw [f120_eq k p (.mk f0 f1 f2 f3 f4 f5) lo R e3 (by omega) (by omega)]
    cases uEs nm vis e3 with
    | error c=>exact rfl
    | ok r3 =>
     simp only [Option.bind_some,eb]
     have h:=ihc e4 (by omega) e1 e0 e1 e2 r3 e4 nm vis (pre ++ [d]) lo (by omega) (by simp; omega) (by omega) R
     revert h
     cases uI p f2 f3 lo nm vis e1 e2 e4 with
     | error c=>intro h; simp only [NB] at h; rw [h]; exact rfl
     | ok x =>
      obtain ⟨nm1,vis1,v,b⟩:=x
      rintro ⟨h,hp1,hl1⟩
      rw [h]
      simp only [Option.bind_some,eb3]
      rw [guard_le (by unfold maxB; omega)]
      have h2:=ih (i + 1) (xs ++ [.mk e0 e1 v r3 b]) nm1 vis pre d lo (by omega) (by rw [app_len]; omega) (by omega) (by omega) (by omega) (R.ext hp1)
      revert h2
      cases uCs p f2 f3 lo nm1 vis l with
      | error c=>intro h2; exact h2
      | ok x =>
       obtain ⟨nm2,vis2,l'⟩:=x
       rintro ⟨h3,hp2,hl2⟩
       refine ⟨by rw [h3]; simp,hp1.trans hp2,by simp only [szCs,szC]; omega⟩
  refine ⟨?_,?_,?_,?_,?_,?_⟩
  ·intro s hs nm vis pre d lo hnm hpre hlo R
   obtain ⟨op,name,s2,fr,s4,flag,l6,l7,l8,l9,l10⟩:=s
   simp only [szS] at hs hnm hpre hlo
   show NN (f105_b k (fam105 k m) (.mk (.mk p) (.mk f0 f1 f2 f3 f4 f5) nm (pre ++ [d]) lo) (.mk op name s2 fr s4 flag l6 l7 l8 l9 l10)) p _ lo pre nm _ _
   rw [uS]
   unfold f105_b
   simp only
   rw [f120_eq k p (.mk f0 f1 f2 f3 f4 f5) lo R l6 (by omega) (by omega)]
   cases uEs nm vis l6 with
   | error c=>exact rfl
   | ok r6 =>
    simp only [Option.bind_some,eb]
    have stay : ∀ y:DStmt,NN (some (.ok (Dresolver.mk (DProgram.mk p) (.mk f0 f1 f2 f3 f4 f5) nm (pre ++ [d]) lo,y))) p (.mk f0 f1 f2 f3 f4 f5) lo pre nm (.ok (nm,vis,y)) (szS (.mk op name s2 fr s4 flag l6 l7 l8 l9 l10)) :=
     fun y=>⟨d,rfl,R,List.prefix_refl _,by omega⟩
    cases h27:(op == 27) with
    | true =>
     simp only [cond_true]
     have h:=loopK op name s2 fr s4 flag l7 l8 l9 r6 l10 0 [] nm vis pre d lo (by omega) (by simp; omega) (by omega) (by omega) (by omega) R
     revert h
     cases uCs p f2 f3 lo nm vis l10 with
     | error c=>intro h; exact h
     | ok x =>
      obtain ⟨nm1,vis1,cs⟩:=x
      rintro ⟨h,hp1,hl1⟩
      exact ⟨d,by rw [h]; simp,R.ext hp1,hp1,by simp only [szS]; omega⟩
    | false =>
     simp only [cond_false]
     have tail : ∀ ix:Int,NN (f105_j1 k (fam105 k m) p f0 f1 f2 f3 f4 f5 nm (pre ++ [d]) lo op name s2 fr ix flag r6 l7 l8 l9 l10) p (.mk f0 f1 f2 f3 f4 f5) lo pre nm
       (cond (op == 2) (match slotOf nm vis name with | none=>.error 20 | some v=>.ok (nm,vis,.mk op name (v:Int) fr ix flag r6 l7 l8 l9 l10))
       (cond (op == 18 || op == 19) (uD (decide (lo > 0)) 22 (.ok (nm,vis,.mk op name s2 fr ix flag r6 l7 l8 l9 l10)))
       (cond (op == 29) (uD f3 22 (.ok (nm,vis,.mk op name s2 fr ix flag r6 l7 l8 l9 l10)))
       (cond (op == 17) (uD ((decide (r6.length > 0)) == (f2 != 0)) 22 (.ok (nm,vis,.mk op name s2 fr ix flag r6 l7 l8 l9 l10)))
       (cond (op == 21) (eb3 (uB p f2 f3 (lo + 1) nm vis l7) fun nm1 _ b=>.ok (nm1,vis,.mk op name s2 fr ix flag r6 b l8 l9 l10))
       (cond (op == 28) (eb3 (uI p f2 f3 (lo + 1) nm vis name s2 l7) fun nm1 _ vb=>.ok (nm1,vis,.mk op name vb.1 fr ix flag r6 vb.2 l8 l9 l10))
       (cond (op == 25) (eb3 (uI p f2 f3 lo nm vis name s2 l7) fun nm1 _ vb=>.ok (nm1,vis,.mk op name vb.1 fr ix flag r6 vb.2 l8 l9 l10))
       (cond (op == 24) (eb3 (uB p f2 f3 lo nm vis l7) fun nm1 _ b7=>eb3 (uI p f2 f3 lo nm1 vis name s2 l8) fun nm2 _ vb=>eb3 (uB p f2 f3 lo nm2 vis l9) fun nm3 _ b9=>.ok (nm3,vis,.mk op name vb.1 fr ix flag r6 b7 vb.2 b9 l10))
       (cond (op == 20 || op == 22 || op == 23 || op == 26) (eb3 (uB p f2 f3 lo nm vis l7) fun nm1 _ b7=>eb3 (uB p f2 f3 lo nm1 vis l8) fun nm2 _ b8=>.ok (nm2,vis,.mk op name s2 fr ix flag r6 b7 b8 l9 l10))
        (eb3 (cond (seq name ⟨#[]⟩) (.ok (nm,vis,s2)) (uMk nm vis name)) fun nm1 vis1 v=>uD (op != 6 || flag == 0 || decide (lo > 0)) 22 (.ok (nm1,vis1,.mk op name v fr ix flag r6 l7 l8 l9 l10)))))))))))) (szS (.mk op name s2 fr s4 flag l6 l7 l8 l9 l10)):=by
      intro ix
      unfold f105_j1
      cases h2:(op == 2) with
      | true =>
       simp only [cond_true]
       rw [R.f119]
       cases slotOf nm vis name with
       | none=>simp only [Option.bind_some,f58_eq]; exact rfl
       | some v=>simp only [Option.bind_some,f58_eq,cond_true]; exact stay _
      | false =>
       simp only [cond_false]
       have tail2 : ∀ q,q=(op == 18 || op == 19)→NN (f105_j3 k (fam105 k m) p f0 f1 f2 f3 f4 f5 nm (pre ++ [d]) lo op name s2 fr ix flag r6 l7 l8 l9 l10 q) p (.mk f0 f1 f2 f3 f4 f5) lo pre nm
         (cond (op == 18 || op == 19) (uD (decide (lo > 0)) 22 (.ok (nm,vis,.mk op name s2 fr ix flag r6 l7 l8 l9 l10)))
         (cond (op == 29) (uD f3 22 (.ok (nm,vis,.mk op name s2 fr ix flag r6 l7 l8 l9 l10)))
         (cond (op == 17) (uD ((decide (r6.length > 0)) == (f2 != 0)) 22 (.ok (nm,vis,.mk op name s2 fr ix flag r6 l7 l8 l9 l10)))
         (cond (op == 21) (eb3 (uB p f2 f3 (lo + 1) nm vis l7) fun nm1 _ b=>.ok (nm1,vis,.mk op name s2 fr ix flag r6 b l8 l9 l10))
         (cond (op == 28) (eb3 (uI p f2 f3 (lo + 1) nm vis name s2 l7) fun nm1 _ vb=>.ok (nm1,vis,.mk op name vb.1 fr ix flag r6 vb.2 l8 l9 l10))
         (cond (op == 25) (eb3 (uI p f2 f3 lo nm vis name s2 l7) fun nm1 _ vb=>.ok (nm1,vis,.mk op name vb.1 fr ix flag r6 vb.2 l8 l9 l10))
         (cond (op == 24) (eb3 (uB p f2 f3 lo nm vis l7) fun nm1 _ b7=>eb3 (uI p f2 f3 lo nm1 vis name s2 l8) fun nm2 _ vb=>eb3 (uB p f2 f3 lo nm2 vis l9) fun nm3 _ b9=>.ok (nm3,vis,.mk op name vb.1 fr ix flag r6 b7 vb.2 b9 l10))
         (cond (op == 20 || op == 22 || op == 23 || op == 26) (eb3 (uB p f2 f3 lo nm vis l7) fun nm1 _ b7=>eb3 (uB p f2 f3 lo nm1 vis l8) fun nm2 _ b8=>.ok (nm2,vis,.mk op name s2 fr ix flag r6 b7 b8 l9 l10))
          (eb3 (cond (seq name ⟨#[]⟩) (.ok (nm,vis,s2)) (uMk nm vis name)) fun nm1 vis1 v=>uD (op != 6 || flag == 0 || decide (lo > 0)) 22 (.ok (nm1,vis1,.mk op name v fr ix flag r6 l7 l8 l9 l10))))))))))) (szS (.mk op name s2 fr s4 flag l6 l7 l8 l9 l10)):=by
        rintro _ rfl
        unfold f105_j3
        cases (op == 18 || op == 19) with
        | true =>
         simp only [cond_true,f58_eq,Option.bind_some,gt_nat,uD]
         cases decide (lo > 0)
         ·exact rfl
         ·exact stay _
        | false =>
        simp only [cond_false]
        cases (op == 29) with
        | true =>
         simp only [cond_true,f58_eq,Option.bind_some,uD]
         cases f3
         ·exact rfl
         ·exact stay _
        | false =>
        simp only [cond_false]
        cases (op == 17) with
        | true =>
         simp only [cond_true,f58_eq,Option.bind_some,uD,gt_nat]
         cases (decide (r6.length > 0) == (f2 != 0))
         ·exact rfl
         ·exact stay _
        | false =>
        simp only [cond_false]
        cases (op == 21) with
        | true =>
         simp only [cond_true]
         have h:=ihlb l7 (by omega) nm vis (pre ++ [d]) lo (by omega) (by simp; omega) (by omega) R
         revert h
         cases uB p f2 f3 (lo + 1) nm vis l7 with
         | error c=>intro h; simp only [NB] at h; rw [h]; exact rfl
         | ok x =>
          obtain ⟨nm1,vis1,b⟩:=x
          rintro ⟨h,hp1,hl1⟩
          rw [h]
          exact ⟨d,rfl,R.ext hp1,hp1,by simp only [szS]; omega⟩
        | false =>
        simp only [cond_false]
        cases (op == 28) with
        | true =>
         simp only [cond_true]
         have h:=ihli l7 (by omega) name op name s2 fr ix flag r6 l7 l8 l9 l10 nm vis (pre ++ [d]) lo (by omega) (by simp; omega) (by omega) R
         revert h
         cases uI p f2 f3 (lo + 1) nm vis name s2 l7 with
         | error c=>intro h; simp only [NB] at h; rw [h]; exact rfl
         | ok x =>
          obtain ⟨nm1,vis1,v,b⟩:=x
          rintro ⟨h,hp1,hl1⟩
          rw [h]
          exact ⟨d,rfl,R.ext hp1,hp1,by simp only [szS]; omega⟩
        | false =>
        simp only [cond_false]
        cases (op == 25) with
        | true =>
         simp only [cond_true]
         have h:=ihi l7 (by omega) name op name s2 fr ix flag r6 l7 l8 l9 l10 nm vis (pre ++ [d]) lo (by omega) (by simp; omega) (by omega) R
         revert h
         cases uI p f2 f3 lo nm vis name s2 l7 with
         | error c=>intro h; simp only [NB] at h; rw [h]; exact rfl
         | ok x =>
          obtain ⟨nm1,vis1,v,b⟩:=x
          rintro ⟨h,hp1,hl1⟩
          rw [h]
          exact ⟨d,rfl,R.ext hp1,hp1,by simp only [szS]; omega⟩
        | false =>
        simp only [cond_false]
        cases (op == 24) with
        | true =>
         simp only [cond_true]
         have h:=ihb l7 (by omega) nm vis (pre ++ [d]) lo (by omega) (by simp; omega) (by omega) R
         revert h
         cases uB p f2 f3 lo nm vis l7 with
         | error c=>intro h; simp only [NB] at h; rw [h]; exact rfl
         | ok x =>
          obtain ⟨nm1,vis1,b⟩:=x
          rintro ⟨h,hp1,hl1⟩
          rw [h]
          simp only [Option.bind_some,eb3,id]
          have h:=ihi l8 (by omega) name op name s2 fr ix flag r6 b l8 l9 l10 nm1 vis (pre ++ [d]) lo (by omega) (by simp; omega) (by omega) (R.ext hp1)
          revert h
          cases uI p f2 f3 lo nm1 vis name s2 l8 with
          | error c=>intro h; simp only [NB] at h; rw [h]; exact rfl
          | ok x =>
           obtain ⟨nm2,vis2,v,b8⟩:=x
           rintro ⟨h,hp2,hl2⟩
           rw [h]
           simp only [Option.bind_some]
           have h:=ihb l9 (by omega) nm2 vis (pre ++ [d]) lo (by omega) (by simp; omega) (by omega) ((R.ext hp1).ext hp2)
           revert h
           cases uB p f2 f3 lo nm2 vis l9 with
           | error c=>intro h; simp only [NB] at h; rw [h]; exact rfl
           | ok x =>
            obtain ⟨nm3,vis3,b9⟩:=x
            rintro ⟨h,hp3,hl3⟩
            rw [h]
            exact ⟨d,rfl,((R.ext hp1).ext hp2).ext hp3,(hp1.trans hp2).trans hp3,by simp only [szS]; omega⟩
        | false =>
        simp only [cond_false]
        have tail3 : ∀ q,q=(op == 20 || op == 22 || op == 23 || op == 26)→NN (f105_j4 k (fam105 k m) p f0 f1 f2 f3 f4 f5 nm (pre ++ [d]) lo op name s2 fr ix flag r6 l7 l8 l9 l10 q) p (.mk f0 f1 f2 f3 f4 f5) lo pre nm
          (cond (op == 20 || op == 22 || op == 23 || op == 26) (eb3 (uB p f2 f3 lo nm vis l7) fun nm1 _ b7=>eb3 (uB p f2 f3 lo nm1 vis l8) fun nm2 _ b8=>.ok (nm2,vis,.mk op name s2 fr ix flag r6 b7 b8 l9 l10))
           (eb3 (cond (seq name ⟨#[]⟩) (.ok (nm,vis,s2)) (uMk nm vis name)) fun nm1 vis1 v=>uD (op != 6 || flag == 0 || decide (lo > 0)) 22 (.ok (nm1,vis1,.mk op name v fr ix flag r6 l7 l8 l9 l10)))) (szS (.mk op name s2 fr s4 flag l6 l7 l8 l9 l10)):=by
         rintro _ rfl
         unfold f105_j4
         cases (op == 20 || op == 22 || op == 23 || op == 26) with
         | true =>
          simp only [cond_true]
          have h:=ihb l7 (by omega) nm vis (pre ++ [d]) lo (by omega) (by simp; omega) (by omega) R
          revert h
          cases uB p f2 f3 lo nm vis l7 with
          | error c=>intro h; simp only [NB] at h; rw [h]; exact rfl
          | ok x =>
           obtain ⟨nm1,vis1,b⟩:=x
           rintro ⟨h,hp1,hl1⟩
           rw [h]
           simp only [Option.bind_some,eb3,id]
           have h:=ihb l8 (by omega) nm1 vis (pre ++ [d]) lo (by omega) (by simp; omega) (by omega) (R.ext hp1)
           revert h
           cases uB p f2 f3 lo nm1 vis l8 with
           | error c=>intro h; simp only [NB] at h; rw [h]; exact rfl
           | ok x =>
            obtain ⟨nm2,vis2,b8⟩:=x
            rintro ⟨h,hp2,hl2⟩
            rw [h]
            exact ⟨d,rfl,(R.ext hp1).ext hp2,hp1.trans hp2,by simp only [szS]; omega⟩
         | false =>
          simp only [cond_false]
          have fin : ∀ (nm1:List ByteArray) (vis1:List Nat) (d1:List (ByteArray × Int)) (v:Int),Rel (pre ++ [d1]) vis1 nm1→nm <+: nm1→nm1.length≤nm.length + 1 →
            NN (f105_j5 k (fam105 k m) op name fr ix flag r6 l7 l8 l9 l10 p f0 f1 f2 f3 f4 f5 nm1 (pre ++ [d1]) lo v) p (.mk f0 f1 f2 f3 f4 f5) lo pre nm
             (uD (op != 6 || flag == 0 || decide (lo > 0)) 22 (.ok (nm1,vis1,.mk op name v fr ix flag r6 l7 l8 l9 l10))) (szS (.mk op name s2 fr s4 flag l6 l7 l8 l9 l10)):=by
           intro nm1 vis1 d1 v R1 hp1 hl1
           unfold f105_j5
           simp only [f58_eq,Option.bind_some,gt_nat,uD,cond_true]
           cases (op != 6) <;> cases (flag == 0) <;> cases decide (lo > 0) <;> first | exact rfl | exact ⟨d1,rfl,R1,hp1,by simp only [szS]; omega⟩
          cases seq name ⟨#[]⟩ with
          | true =>
           simp only [Bool.not_true,cond_false,cond_true,eb3]
           exact fin nm vis d s2 R (List.prefix_refl _) (by omega)
          | false =>
           simp only [Bool.not_false,cond_true,cond_false]
           have h:=opt_make k p (.mk f0 f1 f2 f3 f4 f5) lo R name (by omega) (by omega)
           revert h
           cases uMk nm vis name with
           | error c=>intro h; simp only [NN] at h; rw [h]; exact rfl
           | ok x =>
            obtain ⟨nm1,vis1,v⟩:=x
            rintro ⟨d1,h,R1,hp1,hl1⟩
            rw [h]
            exact fin nm1 vis1 d1 v R1 hp1 hl1
        cases h20:(op == 20) <;> cases h22:(op == 22) <;> cases h23:(op == 23) <;> (have h:=tail3 _ rfl; simp only [h20,h22,h23,Bool.true_or,Bool.or_true,Bool.false_or,cond_true,cond_false] at h ⊢; exact h)
       cases h18:(op == 18) with
       | true=>simp only [cond_true,Bool.true_or]; have h:=tail2 true (by simp [h18]); simpa only [h18,Bool.true_or,cond_true] using h
       | false=>simp only [cond_false,Bool.false_or]; have h:=tail2 (op == 19) (by simp [h18]); simpa only [h18,Bool.false_or] using h
     cases hfr:seq fr ⟨#[]⟩ with
     | true =>
      simp only [Bool.not_true,cond_false,cond_true]
      exact tail s4
     | false =>
      simp only [Bool.not_false,cond_true,cond_false]
      rw [f122_eq]
      cases uCall op fr r6.length p 0 with
      | error c=>exact rfl
      | ok ix=>exact tail ix
  ·intro l hl nm vis sc lo hnm hsc hlo R
   show NB (f1012166_b k (fam105 k m) (.mk (.mk p) (.mk f0 f1 f2 f3 f4 f5) nm sc lo) ⟨#[]⟩ l) _ _ _ _ _ _ _ _
   rw [uB_eq]
   unfold f1012166_b
   simp only
   rw [guard_le (by unfold maxB; omega)]
   have hs:seq ⟨#[]⟩ ⟨#[]⟩=true:=seq_refl _
   rw [hs]
   simp only [Bool.not_true,cond_false]
   have h:=loopB l 0 [] nm vis sc [] lo (by omega) (by simp; omega) (by omega) (by omega) (by omega) R.push
   revert h
   cases uSs p f2 f3 lo nm vis l with
   | error c=>intro h; exact h
   | ok x =>
    obtain ⟨nm1,vis1,l'⟩:=x
    rintro ⟨h,hp1,hl1⟩
    exact ⟨by rw [h]; simp,hp1,by omega⟩
  ·intro l hl name s0 s1 s2 s3 s4 s5 s6 s7 s8 s9 s10 nm vis sc lo hnm hsc hlo R
   show NB (f1012152_b k (fam105 k m) (.mk (.mk p) (.mk f0 f1 f2 f3 f4 f5) nm sc lo) name l (.mk s0 s1 s2 s3 s4 s5 s6 s7 s8 s9 s10)) _ _ _ _ _ _ _ _
   rw [uI_eq]
   unfold f1012152_b f1012152_j1
   simp only
   rw [guard_le (by unfold maxB; omega)]
   cases hn:seq name ⟨#[]⟩ with
   | true =>
    simp only [Bool.not_true,cond_false,cond_true,eb3]
    have h:=loopS s0 s1 s3 s4 s5 s6 s7 s8 s9 s10 s2 l 0 [] nm vis sc [] lo (by omega) (by simp; omega) (by omega) (by omega) (by omega) R.push
    revert h
    cases uSs p f2 f3 lo nm vis l with
    | error c=>intro h; exact h
    | ok x =>
     obtain ⟨nm1,vis1,l'⟩:=x
     rintro ⟨h,hp1,hl1⟩
     exact ⟨by rw [h]; simp,hp1,by omega⟩
   | false =>
    simp only [Bool.not_false,cond_true,cond_false]
    have h:=opt_make k p (.mk f0 f1 f2 f3 f4 f5) lo R.push name (by omega) (by omega)
    revert h
    cases hu:uMk nm vis name with
    | error c=>intro h; simp only [NN] at h; rw [h]; rfl
    | ok x =>
     obtain ⟨nm1,vis1,v⟩:=x
     rintro ⟨d1,h,R1,hp1,hl1⟩
     rw [h]
     simp only [Option.bind_some,eb3]
     have h2:=loopS s0 s1 s3 s4 s5 s6 s7 s8 s9 s10 v l 0 [] nm1 vis1 sc d1 lo (by omega) (by simp; omega) (by omega) (by omega) (by omega) R1
     revert h2
     cases uSs p f2 f3 lo nm1 vis1 l with
     | error c=>intro h2; exact h2
     | ok x =>
      obtain ⟨nm2,vis2,l'⟩:=x
      rintro ⟨h2,hp2,hl2⟩
      exact ⟨by rw [h2]; simp,hp1.trans hp2,by omega⟩
  ·intro l hl name s0 s1 s2 s3 s4 nm vis sc lo hnm hsc hlo R
   show NB (f1012148_b k (fam105 k m) (.mk (.mk p) (.mk f0 f1 f2 f3 f4 f5) nm sc lo) name l (.mk s0 s1 s2 s3 s4)) _ _ _ _ _ _ _ _
   rw [uI_eq]
   unfold f1012148_b f1012148_j1
   simp only
   rw [guard_le (by unfold maxB; omega)]
   cases hn:seq name ⟨#[]⟩ with
   | true =>
    simp only [Bool.not_true,cond_false,cond_true,eb3]
    have h:=loopC s0 s1 s3 s4 s2 l 0 [] nm vis sc [] lo (by omega) (by simp; omega) (by omega) (by omega) (by omega) R.push
    revert h
    cases uSs p f2 f3 lo nm vis l with
    | error c=>intro h; exact h
    | ok x =>
     obtain ⟨nm1,vis1,l'⟩:=x
     rintro ⟨h,hp1,hl1⟩
     exact ⟨by rw [h]; simp,hp1,by omega⟩
   | false =>
    simp only [Bool.not_false,cond_true,cond_false]
    have h:=opt_make k p (.mk f0 f1 f2 f3 f4 f5) lo R.push name (by omega) (by omega)
    revert h
    cases hu:uMk nm vis name with
    | error c=>intro h; simp only [NN] at h; rw [h]; rfl
    | ok x =>
     obtain ⟨nm1,vis1,v⟩:=x
     rintro ⟨d1,h,R1,hp1,hl1⟩
     rw [h]
     simp only [Option.bind_some,eb3]
     have h2:=loopC s0 s1 s3 s4 v l 0 [] nm1 vis1 sc d1 lo (by omega) (by simp; omega) (by omega) (by omega) (by omega) R1
     revert h2
     cases uSs p f2 f3 lo nm1 vis1 l with
     | error c=>intro h2; exact h2
     | ok x =>
      obtain ⟨nm2,vis2,l'⟩:=x
      rintro ⟨h2,hp2,hl2⟩
      exact ⟨by rw [h2]; simp,hp1.trans hp2,by omega⟩
  ·intro l hl nm vis sc lo hnm hsc hlo R
   show NB (f1012366_b k (fam105 k m) (.mk (.mk p) (.mk f0 f1 f2 f3 f4 f5) nm sc lo) ⟨#[]⟩ l) _ _ _ _ _ _ _ _
   unfold f1012366_b
   simp only
   rw [w64_nat (x:=(lo:Int) + 1) (n:=lo + 1) (by omega) (by omega)]
   have h:=ihb l (by omega) nm vis sc (lo + 1) (by omega) (by omega) (by omega) R
   revert h
   cases uB p f2 f3 (lo + 1) nm vis l with
   | error c=>intro h; simp only [NB] at h; rw [h]; rfl
   | ok x =>
    obtain ⟨nm1,vis1,l'⟩:=x
    rintro ⟨h,hp1,hl1⟩
    rw [h]
    simp only [Option.bind_some]
    rw [w64_nat (x:=((lo + 1:Nat):Int) - 1) (n:=lo) (by omega) (by omega)]
    exact ⟨rfl,hp1,hl1⟩
  ·intro l hl name s0 s1 s2 s3 s4 s5 s6 s7 s8 s9 s10 nm vis sc lo hnm hsc hlo R
   show NB (f1012352_b k (fam105 k m) (.mk (.mk p) (.mk f0 f1 f2 f3 f4 f5) nm sc lo) name l (.mk s0 s1 s2 s3 s4 s5 s6 s7 s8 s9 s10)) _ _ _ _ _ _ _ _
   unfold f1012352_b
   simp only
   rw [w64_nat (x:=(lo:Int) + 1) (n:=lo + 1) (by omega) (by omega)]
   have h:=ihi l (by omega) name s0 s1 s2 s3 s4 s5 s6 s7 s8 s9 s10 nm vis sc (lo + 1) (by omega) (by omega) (by omega) R
   revert h
   cases uI p f2 f3 (lo + 1) nm vis name s2 l with
   | error c=>intro h; simp only [NB] at h; rw [h]; rfl
   | ok x =>
    obtain ⟨nm1,vis1,l'⟩:=x
    rintro ⟨h,hp1,hl1⟩
    rw [h]
    simp only [Option.bind_some]
    rw [w64_nat (x:=((lo + 1:Nat):Int) - 1) (n:=lo) (by omega) (by omega)]
    exact ⟨rfl,hp1,hl1⟩
def uPs:List ByteArray→List Nat→List DParam→Ex (List ByteArray × List Nat × Unit)
 | nm,vis,[]=>.ok (nm,vis,())
 | nm,vis,.mk a _ :: l=>eb3 (uMk nm vis a) fun nm1 vis1 _=>uPs nm1 vis1 l
def uF (fs:List DFunc):DFunc→Ex (DFunc × List ByteArray)
 | .mk n ps res fl _ b=>eb3 (uPs [] [] ps) fun nm vis _=>eb3 (uSs fs res fl 0 nm vis b) fun nm1 _ b'=>uD (decide (nm1.length≤32)) 5 (.ok (.mk n ps res fl (nm1.length:Int) b',nm1))
def uFs (fs:List DFunc):List DFunc→Ex (List DFunc × List (List ByteArray))
 | []=>.ok ([],[])
 | f :: l=>eb (uF fs f) fun x=>eb (uFs fs l) fun y=>.ok (x.1 :: y.1,x.2 :: y.2)
def nameF:DFunc→ByteArray | .mk n _ _ _ _ _=>n
def hasF (a:ByteArray):List DFunc→Bool
 | []=>false
 | f :: l=>seq (nameF f) a || hasF a l
def dupF:List DFunc→List DFunc→Bool
 | _,[]=>false
 | pre,f :: l=>hasF (nameF f) pre || dupF (pre ++ [f]) l
def uP:DProgram→Ex (DProgram × List (List ByteArray))
 | .mk fs=>uD (wf false (.mk fs)) 2 (uD (!dupF [] fs) 21 (uD (decide (f44_l2 fs=0)) (f44_l2 fs) (eb (uFs fs fs) fun x=>.ok (.mk x.1,x.2))))
theorem szSs_bound {z:Bool} : ∀ {l:List DFunc} {f:DFunc},f ∈ l→cnFs l≤600→gFs z l=true→(match f with | .mk n ps res fl v b=>szSs b≤600∧ps.length≤4∧gSs z b 1=true)
 | .mk n ps res fl v b :: l,f,hf,hc,hg=>by
  simp only [cnFs,cnF] at hc
  simp only [gFs,headF,Bool.and_eq_true,decide_eq_true_eq] at hg
  rcases List.mem_cons.1 hf with rfl | h
  ·exact ⟨by omega,hg.1.1.1.1.1.2,hg.2.2.1⟩
  ·exact szSs_bound h (by omega) hg.2.2.2
theorem f82_l1_eq (k:Nat) (p:List DFunc) (n:ByteArray) (ps0:List DParam) (res:Int) (fl:Bool) (v:Int) (b0 b:List DStmt) (g1:List DParam) : ∀ (ps:List DParam) (i:Nat) (nm:List ByteArray) (vis:List Nat) (d:List (ByteArray × Int)),nm.length + ps.length≤1000→Rel ([] ++ [d]) vis nm →
  match uPs nm vis ps with
  | .error c=>f82_l1 k n g1 res fl b ps i p n ps0 res fl v b0 nm ([] ++ [d]) 0=some (.error c)
  | .ok (nm',vis',_)=>∃ d' j,f82_l1 k n g1 res fl b ps i p n ps0 res fl v b0 nm ([] ++ [d]) 0=f82_l1 k n g1 res fl b [] j p n ps0 res fl v b0 nm' ([] ++ [d']) 0∧Rel ([] ++ [d']) vis' nm'∧nm'.length≤nm.length + ps.length
 | [],i,nm,vis,d,hn,R=>⟨d,i,rfl,R,by simp⟩
 | .mk a kd :: ps,i,nm,vis,d,hn,R=>by
  simp only [List.length_cons] at hn
  have h:=opt_make k p (.mk n ps0 res fl v b0) 0 R a (by omega) (by simp)
  unfold uPs
  revert h
  cases uMk nm vis a with
  | error c =>
   intro h
   simp only [NN] at h
   unfold f82_l1
   simp only [eb3]
   rw [show f103 k (.mk (.mk p) (.mk n ps0 res fl v b0) nm ([] ++ [d]) 0) a=some (.error c) from h]
   rfl
  | ok x =>
   obtain ⟨nm1,vis1,w⟩:=x
   rintro ⟨d1,h,R1,hp,hl⟩
   simp only [eb3]
   have ih:=f82_l1_eq k p n ps0 res fl v b0 b g1 ps (i + 1) nm1 vis1 d1 (by omega) R1
   have e:f82_l1 k n g1 res fl b (.mk a kd :: ps) i p n ps0 res fl v b0 nm ([] ++ [d]) 0=f82_l1 k n g1 res fl b ps (i + 1) p n ps0 res fl v b0 nm1 ([] ++ [d1]) 0:=by
    conv=>lhs; unfold f82_l1
    rw [show f103 k (.mk (.mk p) (.mk n ps0 res fl v b0) nm ([] ++ [d]) 0) a=some (.ok (.mk (.mk p) (.mk n ps0 res fl v b0) nm1 ([] ++ [d1]) 0,w)) from h]
    rfl
   revert ih
   cases uPs nm1 vis1 ps with
   | error c=>intro ih; rw [e]; exact ih
   | ok x =>
    obtain ⟨nm2,vis2,u⟩:=x
    rintro ⟨d2,j,h2,R2,hl2⟩
    exact ⟨d2,j,by rw [e]; exact h2,R2,by simp only [List.length_cons]; omega⟩
theorem f82_l2_eq (k:Nat) (p:List DFunc) (n:ByteArray) (ps0:List DParam) (res:Int) (fl:Bool) (v:Int) (b0:List DStmt) (g1:List DParam) : ∀ (l:List DStmt) (i:Nat) (xs:List DStmt) (nm:List ByteArray) (vis:List Nat) (d:List (ByteArray × Int)),4 * szSs l≤k→xs.length + szSs l≤100000→nm.length + szSs l≤100000→Rel ([] ++ [d]) vis nm →
  f82_l2 k n res fl g1 l i p n ps0 res fl v b0 nm ([] ++ [d]) 0 xs=some (eb3 (uSs p res fl 0 nm vis l) fun nm1 _ b'=>uD (decide (nm1.length≤32)) 5 (.ok (.mk n g1 res fl (nm1.length:Int) (xs ++ b'),nm1)))
 | [],i,xs,nm,vis,d,hm,hx,hn,R=>by
  unfold f82_l2 f82_j1
  rw [uSs]
  have e:decide ((nm.length:Int)≤32)=decide (nm.length≤32):=by rw [decide_eq_decide]; omega
  simp only [f58_eq,Option.bind_some,eb3,e,uD,List.append_nil]
  cases decide (nm.length≤32) <;> rfl
 | s :: l,i,xs,nm,vis,d,hm,hx,hn,R=>by
  simp only [szSs] at hm hx hn
  have hp0:=szS_pos s
  obtain ⟨e0,e1,e2,e3,e4,e5,e6,e7,e8,e9,e10⟩:=s
  unfold f82_l2
  rw [uSs]
  have h:=(nR k p n ps0 res fl v b0 k (Nat.le_refl k)).1 (.mk e0 e1 e2 e3 e4 e5 e6 e7 e8 e9 e10) (by omega) nm vis [] d 0 (by omega) (by simp; omega) (by omega) R
  rw [show (fam105 k k).f105=f105 k from rfl,show (((0:Nat):Int))=0 from rfl] at h
  revert h
  cases uS p res fl 0 nm vis (.mk e0 e1 e2 e3 e4 e5 e6 e7 e8 e9 e10) with
  | error c=>intro h; simp only [NN] at h; rw [h]; rfl
  | ok x =>
   obtain ⟨nm1,vis1,s'⟩:=x
   rintro ⟨d1,h,R1,hp,hl⟩
   rw [h]
   obtain ⟨r0,r1,r2,r3,r4,r5,r6,r7,r8,r9,r10⟩:=s'
   simp only [Option.bind_some,eb3]
   rw [guard_le (by unfold maxB; omega)]
   refine (f82_l2_eq k p n ps0 res fl v b0 g1 l (i + 1) (xs ++ [.mk r0 r1 r2 r3 r4 r5 r6 r7 r8 r9 r10]) nm1 vis1 d1 (by omega) (by rw [app_len]; omega) (by omega) R1).trans ?_
   cases uSs p res fl 0 nm1 vis1 l with
   | error c=>rfl
   | ok x=>simp [eb3]
theorem f82_eq (k:Nat) (p:List DFunc) (f:DFunc) (h:match f with | .mk n ps res fl v b=>szSs b≤600∧ps.length≤4∧gSs false b 1=true) (hk:4 * 600≤k):f82 k (.mk p) f=some (uF p f):=by
 obtain ⟨n,ps,res,fl,v,b⟩:=f
 obtain ⟨h1,h2,h3⟩:=h
 unfold f82 f82_b uF
 simp only
 have R0:Rel ([] ++ [[]]) [] []:=⟨fun a=>rfl,fun v hv=>by cases hv⟩
 have h:=f82_l1_eq k p n ps res fl v b b ps ps 0 [] [] [] (by simp; omega) R0
 revert h
 cases uPs [] [] ps with
 | error c=>intro h; exact h
 | ok x =>
  obtain ⟨nm,vis,u⟩:=x
  rintro ⟨d,j,h,R,hl⟩
  refine (h:f82_l1 k n ps res fl b ps 0 p n ps res fl v b [] [[]] 0=_).trans ?_
  unfold f82_l1 f104
  rw [guard_le (by unfold maxB; omega)]
  simp only [Option.bind_some,eb3]
  exact f82_l2_eq k p n ps res fl v b ps b 0 [] nm vis d (by omega) (by simp; omega) (by simp at hl; omega) R
theorem f1008056_eq (k:Nat) (l:List DFunc) (f:DFunc):f1008056 k l f=some (hasF (nameF f) l):=by
 obtain ⟨n,ps,res,fl,v,b⟩:=f
 have h : ∀ (l:List DFunc) (i:Nat),(f1005656_l1 k n ps res fl v b l i).bind (fun r=>some (decide (r ≥ 0)))=some (hasF n l):=by
  intro l
  induction l with
  | nil=>intro i; rfl
  | cons e l ih =>
   intro i
   obtain ⟨e0,e1,e2,e3,e4,e5⟩:=e
   unfold f1005656_l1 f1008100 f1008100_b hasF
   simp only [Option.bind_some,nameF]
   rw [seq_comm n e0]
   cases seq e0 n with
   | true=>simp
   | false=>simpa using ih (i + 1)
 unfold f1008056 f1008056_b f1005656 f1005656_b
 exact h l 0
theorem f44_l1_eq (k:Nat) : ∀ (rest pre:List DFunc),f44_l1 k (pre ++ rest) rest pre.length=some (cond (dupF pre rest) (.error 21) (.ok ()))
 | [],pre=>rfl
 | f :: rest,pre=>by
  unfold f44_l1 dupF
  have e:(pre ++ f :: rest).take pre.length=pre:=by simp
  rw [e,f1008056_eq]
  simp only [Option.bind_some,f58_eq]
  cases hasF (nameF f) pre with
  | true=>rfl
  | false =>
   have ih:=f44_l1_eq k rest (pre ++ [f])
   rw [app_len,List.append_assoc,List.singleton_append] at ih
   simpa using ih
theorem f44_l3_eq (k:Nat) (p:List DFunc) (hk:4 * 600≤k) : ∀ (rest:List DFunc) (out:List DFunc) (names:List (List ByteArray)),(∀ f ∈ rest,match f with | .mk n ps res fl v b=>szSs b≤600∧ps.length≤4∧gSs false b 1=true) →
  f44_l3 k (.mk p) rest out names=some (eb (uFs p rest) fun x=>.ok (.mk (out ++ x.1),names ++ x.2))
 | [],out,names,h=>by simp [f44_l3,uFs,eb]
 | f :: rest,out,names,h=>by
  unfold f44_l3 uFs
  rw [f82_eq k p f (h f (by simp)) hk]
  cases uF p f with
  | error c=>rfl
  | ok x =>
   simp only [Option.bind_some,eb]
   rw [f44_l3_eq k p hk rest (out ++ [x.1]) (names ++ [x.2]) (fun g hg=>h g (by simp [hg]))]
   cases uFs p rest with
   | error c=>rfl
   | ok y=>simp [eb]
theorem f44_eq (k:Nat) (p:DProgram) (hk:2 * szP p + 1≤k) (hk2:4 * 600≤k):f44 k p=some (uP p):=by
 have h78:=f78_eq k p false hk
 obtain ⟨fs⟩:=p
 unfold f44 uP
 simp only [h78,Option.bind_some,f58_eq]
 cases hw:wf false (.mk fs) with
 | false=>rfl
 | true =>
  simp only [wf,Bool.and_eq_true,decide_eq_true_eq] at hw
  have h1:=f44_l1_eq k fs []
  simp only [List.nil_append,List.length_nil] at h1
  simp only [cond_true,h1,Option.bind_some,uD]
  cases dupF [] fs with
  | true=>rfl
  | false =>
   simp only [cond_false,cond_true,Bool.not_false,f58_eq,Option.bind_some]
   cases decide (f44_l2 fs=0) with
   | false=>rfl
   | true =>
    simp only [cond_true]
    rw [f44_l3_eq k fs hk2 fs [] [] (fun f hf=>szSs_bound hf hw.2 hw.1.2)]
    rfl
theorem eb_ok {α β:Type} {u:Ex α} {f:α→Ex β} {y:β} (h:eb u f=.ok y) : ∃ x,u=.ok x∧f x=.ok y:=by
 cases u with
 | error c=>cases h
 | ok x=>exact ⟨x,rfl,h⟩
theorem eb3_ok {α β:Type} {u:Ex (List ByteArray × List Nat × α)} {f:List ByteArray→List Nat→α→Ex β} {y:β} (h:eb3 u f=.ok y) : ∃ a b x,u=.ok (a,b,x)∧f a b x=.ok y:=by
 cases u with
 | error c=>cases h
 | ok x=>exact ⟨x.1,x.2.1,x.2.2,rfl,h⟩
theorem uD_ok {α:Type} {b:Bool} {c:Int} {x:Ex α} {y:α} (h:uD b c x=.ok y):b=true∧x=.ok y:=by
 cases b with
 | false=>cases h
 | true=>exact ⟨rfl,h⟩
mutual
theorem stE_id : ∀ e a,gE false e a=true→stE e=e
 | .mk op num txt slot l,a,h=>by
  simp only [gE,Bool.and_eq_true,Bool.false_or,beq_iff_eq] at h
  simp only [stE,stEs_id l _ h.2,h.1.1.2]
theorem stEs_id : ∀ l a,gEs false l a=true→stEs l=l
 | [],a,h=>rfl
 | e :: l,a,h=>by
  simp only [gEs,Bool.and_eq_true] at h
  simp only [stEs,stE_id e a h.1,stEs_id l a h.2]
end
mutual
theorem stS_id : ∀ s a,gS false s a=true→stS s=s
 | .mk op name s2 fr s4 flag l6 l7 l8 l9 l10,a,h=>by
  simp only [gS,Bool.and_eq_true,Bool.false_or,beq_iff_eq] at h
  obtain ⟨⟨⟨_,h2,h4⟩,_⟩,h6,h7,h8,h9,h10⟩:=h
  simp only [stS,stEs_id l6 _ h6,stSs_id l7 _ h7,stSs_id l8 _ h8,stSs_id l9 _ h9,stCs_id l10 _ h10,h2,h4]
theorem stSs_id : ∀ l a,gSs false l a=true→stSs l=l
 | [],a,h=>rfl
 | e :: l,a,h=>by
  simp only [gSs,Bool.and_eq_true] at h
  simp only [stSs,stS_id e a h.1,stSs_id l a h.2]
theorem stC_id : ∀ c a,gC false c a=true→stC c=c
 | .mk kind name slot es b,a,h=>by
  simp only [gC,Bool.and_eq_true,Bool.false_or,beq_iff_eq] at h
  obtain ⟨⟨⟨_,h2⟩,_⟩,h6,h7⟩:=h
  simp only [stC,stEs_id es _ h6,stSs_id b _ h7,h2]
theorem stCs_id : ∀ l a,gCs false l a=true→stCs l=l
 | [],a,h=>rfl
 | .mk k nm s es b :: l,a,h=>by
  simp only [gCs,Bool.and_eq_true] at h
  simp only [stCs,stC_id _ a h.1.2,stCs_id l a h.2]
end
mutual
theorem stE_u {nm:List ByteArray} {vis:List Nat} : ∀ e a e',gE false e a=true→uE nm vis e=.ok e'→stE e'=e
 | .mk op num txt slot l,a,e',h,hu=>by
  simp only [gE,Bool.and_eq_true,Bool.false_or,beq_iff_eq] at h
  obtain ⟨⟨⟨_,rfl⟩,_⟩,hl⟩:=h
  unfold uE at hu
  revert hu
  cases h1:uEs nm vis l with
  | error c=>intro hu; cases hu
  | ok l' =>
   have h2:=stEs_u l _ l' hl h1
   cases op == 4 with
   | false=>intro hu; cases hu; simp only [stE,h2]
   | true =>
    cases slotOf nm vis txt with
    | none=>intro hu; cases hu
    | some v=>intro hu; cases hu; simp only [stE,h2]
theorem stEs_u {nm:List ByteArray} {vis:List Nat} : ∀ l a l',gEs false l a=true→uEs nm vis l=.ok l'→stEs l'=l
 | [],a,l',h,hu=>by cases hu; rfl
 | e :: l,a,l',h,hu=>by
  simp only [gEs,Bool.and_eq_true] at h
  unfold uEs at hu
  revert hu
  cases h1:uE nm vis e with
  | error c=>intro hu; cases hu
  | ok e1 =>
   cases h2:uEs nm vis l with
   | error c=>intro hu; cases hu
   | ok l1=>intro hu; cases hu; simp only [stEs,stE_u e a e1 h.1 h1,stEs_u l a l1 h.2 h2]
end
section
variable (fs:List DFunc) (f2:Int) (f3:Bool)
theorem stS_u : ∀ n:Nat,
  (∀ s,szS s≤n→∀ a lo nm vis r,gS false s a=true→uS fs f2 f3 lo nm vis s=.ok r→stS r.2.2=s) ∧
  (∀ l,szSs l≤n→∀ a lo nm vis r,gSs false l a=true→uSs fs f2 f3 lo nm vis l=.ok r→stSs r.2.2=l) ∧
  (∀ c,szC c≤n→∀ a lo nm vis r,gC false c a=true→uC fs f2 f3 lo nm vis c=.ok r→stC r.2.2=c) ∧
  (∀ l,szCs l≤n→∀ a lo nm vis r,gCs false l a=true→uCs fs f2 f3 lo nm vis l=.ok r→stCs r.2.2=l)
 | 0=>by
  refine ⟨fun s h=>?_,fun l h=>?_,fun c h=>?_,fun l h=>?_⟩
  ·have:=szS_pos s; omega
  ·cases l with
   | nil=>intro a lo nm vis r _ h; simp only [uSs] at h; cases h; rfl
   | cons s l=>have:=szS_pos s; simp only [szSs] at h; omega
  ·have:=szC_pos c; omega
  ·cases l with
   | nil=>intro a lo nm vis r _ h; simp only [uCs] at h; cases h; rfl
   | cons s l=>have:=szC_pos s; simp only [szCs] at h; omega
 | n + 1=>by
  obtain ⟨i1,i2,i3,i4⟩:=stS_u n
  have a1 : ∀ s,szS s≤n + 1→∀ a lo nm vis r,gS false s a=true→uS fs f2 f3 lo nm vis s=.ok r→stS r.2.2=s:=by
   rintro ⟨op,name,s2,fr,s4,flag,l6,l7,l8,l9,l10⟩ h a lo nm vis r hg hu
   simp only [szS] at h
   simp only [gS,Bool.and_eq_true,Bool.false_or,beq_iff_eq] at hg
   obtain ⟨⟨⟨_,rfl,rfl⟩,_⟩,g6,g7,g8,g9,g10⟩:=hg
   have d6:=stEs_id l6 _ g6
   have d7:=stSs_id l7 _ g7
   have d8:=stSs_id l8 _ g8
   have d9:=stSs_id l9 _ g9
   have d10:=stCs_id l10 _ g10
   have h7:=fun lo nm vis r=>i2 l7 (by omega) _ lo nm vis r g7
   have h8:=fun lo nm vis r=>i2 l8 (by omega) _ lo nm vis r g8
   have h9:=fun lo nm vis r=>i2 l9 (by omega) _ lo nm vis r g9
   have h10:=fun lo nm vis r=>i4 l10 (by omega) _ lo nm vis r g10
   simp only [uS,uB_eq,uI_eq] at hu
   obtain ⟨r6,h6,hu⟩:=eb_ok hu
   have e6:=stEs_u l6 _ r6 g6 h6
   clear i1 i2 i3 i4
   revert hu
   cases op == 27 with
   | true =>
    intro hu
    obtain ⟨nm1,v1,cs,h1,hu⟩:=eb3_ok hu
    cases hu
    simp only [stS,e6,d7,d8,d9,h10 _ _ _ _ h1]
   | false =>
   intro hu
   obtain ⟨ix,_,hu⟩:=eb_ok hu
   revert hu
   cases op == 2 with
   | true =>
    cases slotOf nm vis name with
    | none=>intro hu; cases hu
    | some v=>intro hu; cases hu; simp only [stS,e6,d7,d8,d9,d10]
   | false =>
   cases op == 18 || op == 19 with
   | true=>intro hu; obtain ⟨_,hu⟩:=uD_ok hu; cases hu; simp only [stS,e6,d7,d8,d9,d10]
   | false =>
   cases op == 29 with
   | true=>intro hu; obtain ⟨_,hu⟩:=uD_ok hu; cases hu; simp only [stS,e6,d7,d8,d9,d10]
   | false =>
   cases op == 17 with
   | true=>intro hu; obtain ⟨_,hu⟩:=uD_ok hu; cases hu; simp only [stS,e6,d7,d8,d9,d10]
   | false =>
   cases op == 21 with
   | true =>
    intro hu
    obtain ⟨nm1,v1,b,h1,hu⟩:=eb3_ok hu
    cases hu
    obtain ⟨nm2,v2,b2,h2,h1⟩:=eb3_ok h1
    cases h1
    simp only [stS,e6,h7 _ _ _ _ h2,d8,d9,d10]
   | false =>
   cases op == 28 with
   | true =>
    intro hu
    obtain ⟨nm1,v1,b,h1,hu⟩:=eb3_ok hu
    cases hu
    obtain ⟨nm2,v2,b2,h2,h1⟩:=eb3_ok h1
    obtain ⟨nm3,v3,b3,h3,h1⟩:=eb3_ok h1
    cases h1
    simp only [stS,e6,h7 _ _ _ _ h3,d8,d9,d10]
   | false =>
   cases op == 25 with
   | true =>
    intro hu
    obtain ⟨nm1,v1,b,h1,hu⟩:=eb3_ok hu
    cases hu
    obtain ⟨nm2,v2,b2,h2,h1⟩:=eb3_ok h1
    obtain ⟨nm3,v3,b3,h3,h1⟩:=eb3_ok h1
    cases h1
    simp only [stS,e6,h7 _ _ _ _ h3,d8,d9,d10]
   | false =>
   cases op == 24 with
   | true =>
    intro hu
    obtain ⟨nm1,v1,b,h1,hu⟩:=eb3_ok hu
    obtain ⟨nm2,v2,b2,h2,h1⟩:=eb3_ok h1
    cases h1
    obtain ⟨nm1,v1,b,h1,hu⟩:=eb3_ok hu
    obtain ⟨nm2,v2,b3,h4,h1⟩:=eb3_ok h1
    obtain ⟨nm3,v3,b4,h3,h1⟩:=eb3_ok h1
    cases h1
    obtain ⟨nm1,v1,b,h1,hu⟩:=eb3_ok hu
    obtain ⟨nm2,v2,b5,h5,h1⟩:=eb3_ok h1
    cases h1
    cases hu
    simp only [stS,e6,h7 _ _ _ _ h2,h8 _ _ _ _ h3,h9 _ _ _ _ h5,d10]
   | false =>
   cases op == 20 || op == 22 || op == 23 || op == 26 with
   | true =>
    intro hu
    obtain ⟨nm1,v1,b,h1,hu⟩:=eb3_ok hu
    obtain ⟨nm2,v2,b2,h2,h1⟩:=eb3_ok h1
    cases h1
    obtain ⟨nm1,v1,b,h1,hu⟩:=eb3_ok hu
    obtain ⟨nm2,v2,b3,h4,h1⟩:=eb3_ok h1
    cases h1
    cases hu
    simp only [stS,e6,h7 _ _ _ _ h2,h8 _ _ _ _ h4,d9,d10]
   | false =>
    intro hu
    obtain ⟨nm1,v1,b,h1,hu⟩:=eb3_ok hu
    obtain ⟨_,hu⟩:=uD_ok hu
    cases hu
    simp only [stS,e6,d7,d8,d9,d10]
  have a3 : ∀ c,szC c≤n + 1→∀ a lo nm vis r,gC false c a=true→uC fs f2 f3 lo nm vis c=.ok r→stC r.2.2=c:=by
   rintro ⟨kind,name,slot,es,b⟩ h a lo nm vis r hg hu
   simp only [szC] at h
   simp only [gC,Bool.and_eq_true,Bool.false_or,beq_iff_eq] at hg
   obtain ⟨⟨⟨_,rfl⟩,_⟩,g6,g7⟩:=hg
   simp only [uC,uI_eq] at hu
   obtain ⟨r6,h6,hu⟩:=eb_ok hu
   obtain ⟨nm1,v1,vb,h1,hu⟩:=eb3_ok hu
   obtain ⟨nm2,v2,b2,h2,h1⟩:=eb3_ok h1
   obtain ⟨nm3,v3,b3,h3,h1⟩:=eb3_ok h1
   cases h1
   cases hu
   simp only [stC,stEs_u es _ r6 g6 h6,i2 b (by omega) _ _ _ _ _ g7 h3]
  have a2 : ∀ l,szSs l≤n + 1→∀ a lo nm vis r,gSs false l a=true→uSs fs f2 f3 lo nm vis l=.ok r→stSs r.2.2=l:=by
   intro l
   induction l with
   | nil=>intro h a lo nm vis r _ hu; simp only [uSs] at hu; cases hu; rfl
   | cons s l ih =>
    intro h a lo nm vis r hg hu
    simp only [szSs] at h
    simp only [gSs,Bool.and_eq_true] at hg
    simp only [uSs] at hu
    obtain ⟨nm1,v1,x,h1,hu⟩:=eb3_ok hu
    obtain ⟨nm2,v2,y,h2,hu⟩:=eb3_ok hu
    cases hu
    simp only [stSs,a1 s (by omega) _ _ _ _ _ hg.1 h1,ih (by omega) _ _ _ _ _ hg.2 h2]
  have a4 : ∀ l,szCs l≤n + 1→∀ a lo nm vis r,gCs false l a=true→uCs fs f2 f3 lo nm vis l=.ok r→stCs r.2.2=l:=by
   intro l
   induction l with
   | nil=>intro h a lo nm vis r _ hu; simp only [uCs] at hu; cases hu; rfl
   | cons s l ih =>
    intro h a lo nm vis r hg hu
    obtain ⟨kind,name,slot,es,b⟩:=s
    simp only [szCs] at h
    simp only [gCs,Bool.and_eq_true] at hg
    simp only [uCs] at hu
    obtain ⟨nm1,v1,x,h1,hu⟩:=eb3_ok hu
    obtain ⟨nm2,v2,y,h2,hu⟩:=eb3_ok hu
    cases hu
    simp only [stCs,a3 _ (by omega) _ _ _ _ _ hg.1.2 h1,ih (by omega) _ _ _ _ _ hg.2 h2]
  exact ⟨a1,a2,a3,a4⟩
end
theorem okWf {fs:List DFunc} (h:wf false (.mk fs)=true):gFs false fs=true:=by
 simp only [wf,Bool.and_eq_true] at h
 exact h.1.2
theorem stF_u (fs:List DFunc) : ∀ (l q:List DFunc) (nl:List (List ByteArray)),gFs false l=true→uFs fs l=.ok (q,nl)→stFs q=l
 | [],q,nl,hg,hu=>by cases hu; rfl
 | .mk n ps res fl v b :: l,q,nl,hg,hu=>by
  simp only [gFs,headF,Bool.and_eq_true,Bool.false_or,beq_iff_eq] at hg
  unfold uFs at hu
  obtain ⟨x,h1,hu⟩:=eb_ok hu
  obtain ⟨y,h2,hu⟩:=eb_ok hu
  cases hu
  unfold uF at h1
  obtain ⟨nm,vis,_,h3,h1⟩:=eb3_ok h1
  obtain ⟨nm1,vis1,b',h4,h1⟩:=eb3_ok h1
  obtain ⟨_,h1⟩:=uD_ok h1
  cases h1
  obtain ⟨⟨⟨⟨⟨_,hv⟩,_⟩,_⟩,_⟩,_,hb,hl⟩:=hg
  have e1:=(stS_u fs res fl (szSs b)).2.1 b (Nat.le_refl _) 1 0 nm vis _ hb h4
  simp only [stFs,stF,hv,stF_u fs l _ _ hl h2]
  simp only at e1
  rw [e1]
theorem uP_ok {fs:List DFunc} {q:DProgram} {nl:List (List ByteArray)} (h:uP (.mk fs)=.ok (q,nl)):wf false (.mk fs)=true∧dupF [] fs=false∧f44_l2 fs=0∧∃ x,q=.mk x∧uFs fs fs=.ok (x,nl):=by
 unfold uP at h
 obtain ⟨h1,h⟩:=uD_ok h
 obtain ⟨h2,h⟩:=uD_ok h
 obtain ⟨h3,h⟩:=uD_ok h
 obtain ⟨x,h4,h⟩:=eb_ok h
 cases h
 exact ⟨h1,by simpa using h2,by simpa using h3,x.1,rfl,h4⟩
theorem stP_u (p q:DProgram) (nl:List (List ByteArray)) (h:uP p=.ok (q,nl)):stP q=p:=by
 obtain ⟨fs⟩:=p
 obtain ⟨h1,h2,h3,x,rfl,h4⟩:=uP_ok h
 simp only [stP,stF_u fs fs x nl (okWf h1) h4]
theorem gFs_stF : ∀ l,gFs false l=true→stFs l=l
 | [],h=>rfl
 | .mk n ps res fl v b :: l,h=>by
  simp only [gFs,headF,Bool.and_eq_true,Bool.false_or,beq_iff_eq] at h
  obtain ⟨⟨⟨⟨⟨_,hv⟩,_⟩,_⟩,_⟩,_,hb,hl⟩:=h
  simp only [stFs,stF,hv,stSs_id b 1 hb,gFs_stF l hl]
theorem wf_both {p:DProgram} (h:wf false p=true):wf true p=true∧stP p=p:=by
 obtain ⟨fs⟩:=p
 have e:stP (.mk fs)=.mk fs:=by simp only [stP,gFs_stF fs (okWf h)]
 exact ⟨by rw [← wf_st,e,h],e⟩
end Go.Proofs.YtoajecnoffhlbaaGreatDoor
namespace Go.Proofs.YtoajecnoffhlbaaGreatDoor
open Go
def Nz {α:Type} (u:Ex α):Prop:=∀ c,u=.error c→c ≠ 0
theorem Nz.ok {α:Type} (x:α):Nz (.ok x:Ex α):=fun c h=>by cases h
theorem Nz.er {α:Type} {c:Int} (h:c ≠ 0):Nz (.error c:Ex α):=fun c' h'=>by cases h'; exact h
theorem Nz.eb {α β:Type} {u:Ex α} {f:α→Ex β} (h:Nz u) (hf : ∀ x,Nz (f x)):Nz (eb u f):=by
 cases u with
 | error c=>intro c' h'; cases h'; exact h c rfl
 | ok x=>exact hf x
theorem Nz.eb3 {α β:Type} {u:Ex (List ByteArray × List Nat × α)} {f:List ByteArray→List Nat→α→Ex β} (h:Nz u) (hf : ∀ a b x,Nz (f a b x)):Nz (eb3 u f):=by
 cases u with
 | error c=>intro c' h'; cases h'; exact h c rfl
 | ok x=>exact hf x.1 x.2.1 x.2.2
theorem Nz.uD {α:Type} {b:Bool} {c:Int} {x:Ex α} (hc:c ≠ 0) (h:Nz x):Nz (uD b c x):=by
 cases b with
 | false=>exact .er hc
 | true=>exact h
theorem Nz.cond {α:Type} {b:Bool} {u v:Ex α} (h:Nz u) (h' : Nz v):Nz (cond b u v):=by
 cases b
 ·exact h'
 ·exact h
theorem Nz.uMk {nm:List ByteArray} {vis:List Nat} {a:ByteArray}:Nz (uMk nm vis a):=by
 unfold Go.Proofs.YtoajecnoffhlbaaGreatDoor.uMk
 cases slotOf nm vis a with
 | none=>exact .ok _
 | some v=>exact .er (by decide)
theorem Nz.uCall {op:Int} {fr:ByteArray} {na:Nat} : ∀ {l:List DFunc} {i:Nat},Nz (uCall op fr na l i)
 | [],i=>.er (by decide)
 | .mk nm ps r fl v b :: l,i=>by
  unfold Go.Proofs.YtoajecnoffhlbaaGreatDoor.uCall
  exact .cond (.cond (.cond (.ok _) (.er (by decide))) (.er (by decide))) .uCall
theorem Nz.uEs {nm:List ByteArray} {vis:List Nat} {l:List DExpr}:Nz (uEs nm vis l):=fun c h=>by rw [uEs_20 h]; decide
section
variable (fs:List DFunc) (f2:Int) (f3:Bool)
theorem uS_nz : ∀ n:Nat,
  (∀ s,szS s≤n→∀ lo nm vis,Nz (uS fs f2 f3 lo nm vis s)) ∧
  (∀ l,szSs l≤n→∀ lo nm vis,Nz (uSs fs f2 f3 lo nm vis l)) ∧
  (∀ c,szC c≤n→∀ lo nm vis,Nz (uC fs f2 f3 lo nm vis c)) ∧
  (∀ l,szCs l≤n→∀ lo nm vis,Nz (uCs fs f2 f3 lo nm vis l))
 | 0=>by
  refine ⟨fun s h=>?_,fun l h=>?_,fun c h=>?_,fun l h=>?_⟩
  ·have:=szS_pos s; omega
  ·cases l with
   | nil=>intro lo nm vis; simp only [uSs]; exact .ok _
   | cons s l=>have:=szS_pos s; simp only [szSs] at h; omega
  ·have:=szC_pos c; omega
  ·cases l with
   | nil=>intro lo nm vis; simp only [uCs]; exact .ok _
   | cons s l=>have:=szC_pos s; simp only [szCs] at h; omega
 | n + 1=>by
  obtain ⟨i1,i2,i3,i4⟩:=uS_nz n
  have a1 : ∀ s,szS s≤n + 1→∀ lo nm vis,Nz (uS fs f2 f3 lo nm vis s):=by
   rintro ⟨op,name,s2,fr,s4,flag,l6,l7,l8,l9,l10⟩ h lo nm vis
   simp only [szS] at h
   have h7:=i2 l7 (by omega)
   have h8:=i2 l8 (by omega)
   have h9:=i2 l9 (by omega)
   have h10:=i4 l10 (by omega)
   simp only [uS,uB_eq,uI_eq]
   have hmk : ∀ nm vis,Nz (cond (seq name ⟨#[]⟩) (.ok (nm,vis,s2)) (uMk nm vis name):Ex (List ByteArray × List Nat × Int)):=fun nm vis=>.cond (.ok _) .uMk
   refine .eb .uEs fun r6=>.cond (.eb3 (h10 _ _ _) fun _ _ _=>.ok _) (.eb (.cond (.ok _) .uCall) fun ix=>?_)
   refine .cond ?_ (.cond (.uD (by decide) (.ok _)) (.cond (.uD (by decide) (.ok _)) (.cond (.uD (by decide) (.ok _)) (.cond (.eb3 (.eb3 (h7 _ _ _) fun _ _ _=>.ok _) fun _ _ _=>.ok _) ?_))))
   ·cases slotOf nm vis name with
    | none=>exact .er (by decide)
    | some v=>exact .ok _
   refine .cond (.eb3 (.eb3 (hmk _ _) fun _ _ _=>.eb3 (h7 _ _ _) fun _ _ _=>.ok _) fun _ _ _=>.ok _) ?_
   refine .cond (.eb3 (.eb3 (hmk _ _) fun _ _ _=>.eb3 (h7 _ _ _) fun _ _ _=>.ok _) fun _ _ _=>.ok _) ?_
   refine .cond (.eb3 (.eb3 (h7 _ _ _) fun _ _ _=>.ok _) fun _ _ _=>.eb3 (.eb3 (hmk _ _) fun _ _ _=>.eb3 (h8 _ _ _) fun _ _ _=>.ok _) fun _ _ _=>.eb3 (.eb3 (h9 _ _ _) fun _ _ _=>.ok _) fun _ _ _=>.ok _) ?_
   exact .cond (.eb3 (.eb3 (h7 _ _ _) fun _ _ _=>.ok _) fun _ _ _=>.eb3 (.eb3 (h8 _ _ _) fun _ _ _=>.ok _) fun _ _ _=>.ok _) (.eb3 (hmk _ _) fun _ _ _=>.uD (by decide) (.ok _))
  have a3 : ∀ c,szC c≤n + 1→∀ lo nm vis,Nz (uC fs f2 f3 lo nm vis c):=by
   rintro ⟨kind,name,slot,es,b⟩ h lo nm vis
   simp only [szC] at h
   simp only [uC,uI_eq]
   exact .eb .uEs fun _=>.eb3 (.eb3 (.cond (.ok _) .uMk) fun _ _ _=>.eb3 (i2 b (by omega) _ _ _) fun _ _ _=>.ok _) fun _ _ _=>.ok _
  have a2 : ∀ l,szSs l≤n + 1→∀ lo nm vis,Nz (uSs fs f2 f3 lo nm vis l):=by
   intro l
   induction l with
   | nil=>intro h lo nm vis; simp only [uSs]; exact .ok _
   | cons s l ih =>
    intro h lo nm vis
    simp only [szSs] at h
    simp only [uSs]
    exact .eb3 (a1 s (by omega) _ _ _) fun _ _ _=>.eb3 (ih (by omega) _ _ _) fun _ _ _=>.ok _
  have a4 : ∀ l,szCs l≤n + 1→∀ lo nm vis,Nz (uCs fs f2 f3 lo nm vis l):=by
   intro l
   induction l with
   | nil=>intro h lo nm vis; simp only [uCs]; exact .ok _
   | cons s l ih =>
    intro h lo nm vis
    simp only [szCs] at h
    simp only [uCs]
    exact .eb3 (a3 s (by omega) _ _ _) fun _ _ _=>.eb3 (ih (by omega) _ _ _) fun _ _ _=>.ok _
  exact ⟨a1,a2,a3,a4⟩
end
theorem uPs_nz : ∀ (l:List DParam) (nm:List ByteArray) (vis:List Nat),Nz (uPs nm vis l)
 | [],nm,vis=>.ok _
 | .mk a kd :: l,nm,vis=>by
  unfold uPs
  exact .eb3 .uMk fun _ _ _=>uPs_nz l _ _
theorem uFs_nz (fs:List DFunc) : ∀ l,Nz (uFs fs l)
 | []=>.ok _
 | .mk n ps res fl v b :: l=>by
  unfold uFs uF
  exact .eb (.eb3 (uPs_nz _ _ _) fun _ _ _=>.eb3 ((uS_nz fs res fl (szSs b)).2.1 b (Nat.le_refl _) _ _ _) fun _ _ _=>.uD (by decide) (.ok _)) fun _=>.eb (uFs_nz fs l) fun _=>.ok _
theorem uP_err {p:DProgram} {c:Int} (h:uP p=.error c):c ≠ 0:=by
 obtain ⟨fs⟩:=p
 refine (show Nz (uD (wf false (.mk fs)) 2 (uD (!dupF [] fs) 21 (uD (decide (f44_l2 fs=0)) (f44_l2 fs) (eb (uFs fs fs) fun x=>.ok (DProgram.mk x.1,x.2))))) from .uD (by decide) (.uD (by decide) ?_)) c h
 cases hb:decide (f44_l2 fs=0) with
 | false=>exact .er (of_decide_eq_false hb)
 | true=>exact .eb (uFs_nz fs fs) fun _=>.ok _
def uFr (p:DProgram):Ex (DProgram × List (List ByteArray)):=cond (wf true p) (uP (stP p)) (.error 2)
theorem f50_eq (k:Nat) (p:DProgram) (hk:2 * szP p + 1≤k) (hf:fitP p):f50 k p=some (cond (wf true p) (.ok (stP p)) (.error 2)):=by
 have h78:=f78_eq k p true hk
 have h88:=f88_eq k p hk hf
 obtain ⟨fs⟩:=p
 unfold f50 f50_b
 simp only [h78,f58_eq,Option.bind_some]
 cases wf true (.mk fs) with
 | false=>rfl
 | true=>simp only [cond_true,h88,Option.bind_some,stP]
def ixF (a:ByteArray):List DFunc→Nat→Int
 | [],_=>-1
 | f :: l,i=>cond (seq (nameF f) a) (i:Int) (ixF a l (i + 1))
theorem f45_ix (k:Nat) (a:ByteArray) : ∀ (l:List DFunc) (i:Nat),f45_l1 k a l i=some (ixF a l i)
 | [],i=>rfl
 | .mk n ps r fl v b :: l,i=>by
  unfold f45_l1 ixF
  simp only [nameF,f45_ix k a l]
  cases seq n a <;> rfl
theorem f1005676_ix (k:Nat) (a:ByteArray) : ∀ (l:List DFunc) (i:Nat),f1005676_l1 k a l i=some (ixF a l i)
 | [],i=>rfl
 | .mk n ps r fl v b :: l,i=>by
  unfold f1005676_l1 ixF f1005707 f1005707_b
  simp only [nameF,f1005676_ix k a l,Option.bind_some]
  cases seq n a <;> rfl
theorem ixF_st (a:ByteArray) : ∀ (l:List DFunc) (i:Nat),ixF a (stFs l) i=ixF a l i
 | [],i=>rfl
 | .mk n ps r fl v b :: l,i=>by simp only [stFs,stF,ixF,nameF,ixF_st a l]
theorem f31_eq (k:Nat) (fs:List DFunc) (a:ByteArray):f31 k (.mk fs) a=some (ixF a fs 0):=by
 unfold f31 f31_b f45 f45_b
 simp only [f45_ix,Option.bind_some]
theorem f30_eq (k:Nat) (fs:List DFunc) (a:ByteArray) (hk:2 * szP (.mk fs) + 1≤k) (hk2:4 * 600 + 1≤k) (hf:fitP (.mk fs)) :
  f30 k (.mk fs) a=some (match uFr (.mk fs) with | .error c=>(0,c) | .ok _=>cond (decide (ixF a fs 0 ≥ 0)) (ixF a fs 0,0) (0,6)):=by
 have h50:=f50_eq k (.mk fs) hk hf
 have h44:=f44_eq k (stP (.mk fs)) (by rw [szP_st]; exact hk) (by omega)
 have key:f1005554 k (.mk fs) a 0=some (match uFr (.mk fs) with | .error c=>.error c | .ok _=>cond (decide (ixF a fs 0 ≥ 0)) (.ok (.mk fs,a,ixF a fs 0)) (.error 6)):=by
  unfold f1005554 f1005554_b uFr
  simp only [h50,Option.bind_some]
  cases wf true (.mk fs) with
  | false=>rfl
  | true =>
   simp only [stP] at h44
   simp only [cond_true,stP,h44,Option.bind_some]
   cases uP (.mk (stFs fs)) with
   | error c=>rfl
   | ok x =>
    obtain ⟨⟨q⟩,l⟩:=x
    unfold f1005676 f1005676_b
    simp only [f1005676_ix,ixF_st,Option.bind_some,f58_eq]
    cases decide (ixF a fs 0 ≥ 0) <;> rfl
 unfold f30 f30_b f1004292
 simp only [key]
 cases uFr (.mk fs) with
 | error c=>rfl
 | ok x=>cases decide (ixF a fs 0 ≥ 0) <;> rfl
section
variable (fs gs:List DFunc) (f2:Int) (f3:Bool) (hc : ∀ op fr na,uCall op fr na fs 0=uCall op fr na gs 0)
include hc
end
theorem f15_uP (k:Nat) (p:DProgram) (hk:2 * szP p + 1≤k) (hk2:4 * 600≤k):f15 k p=some (match uP p with | .error c=>(.mk [],c) | .ok x=>(x.1,0)):=by
 have h:=f44_eq k p hk hk2
 obtain ⟨fs⟩:=p
 unfold f15 f15_b f1004220 f1004304 f1004304_b
 simp only [h,Option.bind_some]
 cases uP (.mk fs) with
 | error c=>rfl
 | ok x=>obtain ⟨⟨q⟩,l⟩:=x; rfl
theorem f18_eq (k:Nat) (x:Int) (n:Nat) (h0:0 < n) (hn:n≤4611686018427387904) : ∃ m:Nat,f18 k x (n:Int)=some (m:Int)∧m < n:=by
 have e1:IntKind.u64.wrap (n:Int)=(n:Int):=by unfold IntKind.wrap; simp [IntKind.bits,IntKind.signed]; omega
 have e2:0≤IntKind.u64.wrap x:=by unfold IntKind.wrap; simp [IntKind.bits,IntKind.signed]; omega
 obtain ⟨y,hy⟩ : ∃ y:Nat,IntKind.u64.wrap x=(y:Int):=⟨(IntKind.u64.wrap x).toNat,by omega⟩
 have hlt:y % n < n:=Nat.mod_lt _ h0
 refine ⟨y % n,?_,hlt⟩
 unfold f18 f18_b guardB
 rw [e1,hy,show decide (¬ ((n:Int)=0))=true by simpa using (by omega : ¬ n=0)]
 have e3:((y:Int).tmod (n:Int))=((y % n:Nat):Int):=by rw [Int.tmod_eq_emod_of_nonneg (by omega)]; omega
 rw [e3,w64_nat (n:=y % n) rfl (by omega)]
 rfl
theorem idxO_nat {α:Type} {l:List α} {n:Nat} {x:α} (h:l[n]?=some x):idxO l (n:Int)=some x:=by
 unfold idxO
 have hl:n < l.length:=(List.getElem?_eq_some_iff.1 h).1
 simp [h]
def Le {α:Type} (u v:Ex α):Prop:=∀ r,u=.ok r→v=.ok r
theorem Le.refl {α:Type} (u:Ex α):Le u u:=fun _ h=>h
theorem Le.eb {α β:Type} {u v:Ex α} {f g:α→Ex β} (h:Le u v) (hf : ∀ x,Le (f x) (g x)):Le (eb u f) (eb v g):=by
 intro r hr
 obtain ⟨x,h1,h2⟩:=eb_ok hr
 rw [h x h1]
 exact hf x r h2
theorem Le.eb3 {α β:Type} {u v:Ex (List ByteArray × List Nat × α)} {f g:List ByteArray→List Nat→α→Ex β} (h:Le u v) (hf : ∀ a b x,Le (f a b x) (g a b x)):Le (eb3 u f) (eb3 v g):=by
 intro r hr
 obtain ⟨a,b,x,h1,h2⟩:=eb3_ok hr
 rw [h _ h1]
 exact hf a b x r h2
theorem Le.cond {α:Type} (b:Bool) {u v u' v' : Ex α} (h:Le u u') (h' : Le v v'):Le (cond b u v) (cond b u' v'):=by
 cases b
 ·exact h'
 ·exact h
section
variable (fs gs:List DFunc) (f2:Int) (f3:Bool) (hc : ∀ op fr na,Le (uCall op fr na fs 0) (uCall op fr na gs 0))
include hc
theorem uS_le : ∀ n:Nat,
  (∀ s,szS s≤n→∀ lo nm vis,Le (uS fs f2 f3 lo nm vis s) (uS gs f2 f3 lo nm vis s)) ∧
  (∀ l,szSs l≤n→∀ lo nm vis,Le (uSs fs f2 f3 lo nm vis l) (uSs gs f2 f3 lo nm vis l)) ∧
  (∀ c,szC c≤n→∀ lo nm vis,Le (uC fs f2 f3 lo nm vis c) (uC gs f2 f3 lo nm vis c)) ∧
  (∀ l,szCs l≤n→∀ lo nm vis,Le (uCs fs f2 f3 lo nm vis l) (uCs gs f2 f3 lo nm vis l))
 | 0=>by
  refine ⟨fun s h=>?_,fun l h=>?_,fun c h=>?_,fun l h=>?_⟩
  ·have:=szS_pos s; omega
  ·cases l with
   | nil=>intro lo nm vis; simp only [uSs]; exact .refl _
   | cons s l=>have:=szS_pos s; simp only [szSs] at h; omega
  ·have:=szC_pos c; omega
  ·cases l with
   | nil=>intro lo nm vis; simp only [uCs]; exact .refl _
   | cons s l=>have:=szC_pos s; simp only [szCs] at h; omega
 | n + 1=>by
  obtain ⟨i1,i2,i3,i4⟩:=uS_le n
  have a1 : ∀ s,szS s≤n + 1→∀ lo nm vis,Le (uS fs f2 f3 lo nm vis s) (uS gs f2 f3 lo nm vis s):=by
   rintro ⟨op,name,s2,fr,s4,flag,l6,l7,l8,l9,l10⟩ h lo nm vis
   simp only [szS] at h
   have h7:=i2 l7 (by omega)
   have h8:=i2 l8 (by omega)
   have h9:=i2 l9 (by omega)
   have h10:=i4 l10 (by omega)
   simp only [uS,uB_eq,uI_eq]
   refine .eb (.refl _) fun r6=>.cond _ (.eb3 (h10 _ _ _) fun _ _ _=>.refl _) (.eb (.cond _ (.refl _) (hc _ _ _)) fun ix=>?_)
   refine .cond _ (.refl _) (.cond _ (.refl _) (.cond _ (.refl _) (.cond _ (.refl _) (.cond _ (.eb3 (.eb3 (h7 _ _ _) fun _ _ _=>.refl _) fun _ _ _=>.refl _) ?_))))
   refine .cond _ (.eb3 (.eb3 (.refl _) fun _ _ _=>.eb3 (h7 _ _ _) fun _ _ _=>.refl _) fun _ _ _=>.refl _) ?_
   refine .cond _ (.eb3 (.eb3 (.refl _) fun _ _ _=>.eb3 (h7 _ _ _) fun _ _ _=>.refl _) fun _ _ _=>.refl _) ?_
   refine .cond _ (.eb3 (.eb3 (h7 _ _ _) fun _ _ _=>.refl _) fun _ _ _=>.eb3 (.eb3 (.refl _) fun _ _ _=>.eb3 (h8 _ _ _) fun _ _ _=>.refl _) fun _ _ _=>.eb3 (.eb3 (h9 _ _ _) fun _ _ _=>.refl _) fun _ _ _=>.refl _) ?_
   exact .cond _ (.eb3 (.eb3 (h7 _ _ _) fun _ _ _=>.refl _) fun _ _ _=>.eb3 (.eb3 (h8 _ _ _) fun _ _ _=>.refl _) fun _ _ _=>.refl _) (.refl _)
  have a3 : ∀ c,szC c≤n + 1→∀ lo nm vis,Le (uC fs f2 f3 lo nm vis c) (uC gs f2 f3 lo nm vis c):=by
   rintro ⟨kind,name,slot,es,b⟩ h lo nm vis
   simp only [szC] at h
   simp only [uC,uI_eq]
   exact .eb (.refl _) fun _=>.eb3 (.eb3 (.refl _) fun _ _ _=>.eb3 (i2 b (by omega) _ _ _) fun _ _ _=>.refl _) fun _ _ _=>.refl _
  have a2 : ∀ l,szSs l≤n + 1→∀ lo nm vis,Le (uSs fs f2 f3 lo nm vis l) (uSs gs f2 f3 lo nm vis l):=by
   intro l
   induction l with
   | nil=>intro h lo nm vis; simp only [uSs]; exact .refl _
   | cons s l ih =>
    intro h lo nm vis
    simp only [szSs] at h
    simp only [uSs]
    exact .eb3 (a1 s (by omega) _ _ _) fun _ _ _=>.eb3 (ih (by omega) _ _ _) fun _ _ _=>.refl _
  have a4 : ∀ l,szCs l≤n + 1→∀ lo nm vis,Le (uCs fs f2 f3 lo nm vis l) (uCs gs f2 f3 lo nm vis l):=by
   intro l
   induction l with
   | nil=>intro h lo nm vis; simp only [uCs]; exact .refl _
   | cons s l ih =>
    intro h lo nm vis
    simp only [szCs] at h
    simp only [uCs]
    exact .eb3 (a3 s (by omega) _ _ _) fun _ _ _=>.eb3 (ih (by omega) _ _ _) fun _ _ _=>.refl _
  exact ⟨a1,a2,a3,a4⟩
end
theorem uCall_app (op:Int) (fr:ByteArray) (na:Nat) (g:DFunc) : ∀ (fs:List DFunc) (i:Nat),Le (uCall op fr na fs i) (uCall op fr na (fs ++ [g]) i)
 | [],i=>by intro r h; cases h
 | .mk nm ps r fl v b :: fs,i=>by
  simp only [List.cons_append,uCall]
  exact .cond _ (.refl _) (uCall_app op fr na g fs (i + 1))
theorem uF_app (fs:List DFunc) (g f:DFunc):Le (uF fs f) (uF (fs ++ [g]) f):=by
 obtain ⟨n,ps,res,fl,v,b⟩:=f
 simp only [uF]
 exact .eb3 (.refl _) fun _ _ _=>.eb3 ((uS_le fs (fs ++ [g]) res fl (fun op fr na=>uCall_app op fr na g fs 0) (szSs b)).2.1 b (Nat.le_refl _) _ _ _) fun _ _ _=>.refl _
theorem uFs_app (fs:List DFunc) (g:DFunc) : ∀ l,Le (uFs fs l) (uFs (fs ++ [g]) l)
 | []=>.refl _
 | f :: l=>by
  simp only [uFs]
  exact .eb (uF_app fs g f) fun _=>.eb (uFs_app fs g l) fun _=>.refl _
theorem uFs_snoc (gs:List DFunc) (g:DFunc) (x:DFunc × List ByteArray) (hx:uF gs g=.ok x) : ∀ (l q:List DFunc) (nl:List (List ByteArray)),uFs gs l=.ok (q,nl)→uFs gs (l ++ [g])=.ok (q ++ [x.1],nl ++ [x.2])
 | [],q,nl,h=>by cases h; simp only [List.nil_append,uFs,hx,eb]
 | f :: l,q,nl,h=>by
  simp only [uFs] at h
  obtain ⟨y,h1,h⟩:=eb_ok h
  obtain ⟨z,h2,h⟩:=eb_ok h
  cases h
  simp only [List.cons_append,uFs,h1,eb,uFs_snoc gs g x hx l z.1 z.2 h2]
theorem gFs_snoc (z:Bool) (g:DFunc) : ∀ l,gFs z (l ++ [g])=(gFs z l && gFs z [g])
 | []=>by simp [gFs]
 | .mk n ps res fl v b :: l=>by simp only [List.cons_append,gFs,gFs_snoc z g l,Bool.and_assoc]
theorem cnFs_snoc (g:DFunc) : ∀ l,cnFs (l ++ [g])=cnFs l + cnF g
 | []=>by simp [cnFs]
 | f :: l=>by simp only [List.cons_append,cnFs,cnFs_snoc g l]; omega
theorem dupF_snoc (g:DFunc) : ∀ (l pre:List DFunc),dupF pre (l ++ [g])=(dupF pre l || hasF (nameF g) (pre ++ l))
 | [],pre=>by simp [dupF]
 | f :: l,pre=>by simp only [List.cons_append,dupF,dupF_snoc g l,Bool.or_assoc,List.append_assoc,List.singleton_append,List.nil_append]
theorem f44_l2_snoc (g:DFunc) : ∀ l,f44_l2 l=0→f44_l2 (l ++ [g])=0
 | [],h=>by exact absurd h (by decide)
 | .mk n ps res fl v b :: l,h=>by
  simp only [List.cons_append]
  unfold f44_l2 at h ⊢
  revert h
  cases seq n ⟨#[109,97,105,110]⟩ with
  | true=>exact id
  | false=>exact f44_l2_snoc g l
theorem uP_add (fs:List DFunc) (a:ByteArray) (q:List DFunc) (nl:List (List ByteArray)) (h:uP (.mk fs)=.ok (.mk q,nl)) (ha:isN a=true) (hn:hasF a fs=false) (h1:fs.length < 16) (h2:cnFs fs < 600) :
  uP (.mk (fs ++ [.mk a [] 0 false 0 []]))=.ok (.mk (q ++ [.mk a [] 0 false 0 []]),nl ++ [[]]):=by
 obtain ⟨hw,hd,hm,x,hx,hu⟩:=uP_ok h
 cases hx
 have hw2:wf false (.mk (fs ++ [.mk a [] 0 false 0 []]))=true:=by
  have hw':=hw
  simp only [wf,Bool.and_eq_true,decide_eq_true_eq] at hw' ⊢
  simp only [gFs_snoc,cnFs_snoc,List.length_append,List.length_singleton,cnF,szSs,Bool.and_eq_true]
  refine ⟨⟨⟨by omega,by omega⟩,hw'.1.2,?_⟩,by omega⟩
  simp [gFs,headF,okP,gSs,ha]
 have hg:uF (fs ++ [.mk a [] 0 false 0 []]) (.mk a [] 0 false 0 [])=.ok (.mk a [] 0 false 0 [],[]):=by
  simp only [uF,uPs,eb3,uSs]
  rfl
 show uD _ 2 (uD _ 21 (uD _ _ _))=_
 rw [hw2,dupF_snoc,hd,f44_l2_snoc _ _ hm,uFs_snoc _ _ _ hg _ _ _ (uFs_app fs _ fs _ hu)]
 simp only [nameF,List.nil_append,hn]
 rfl
theorem uP_twice (fs:List DFunc) (a:ByteArray) (q:List DFunc) (nl:List (List ByteArray)) (h:uP (.mk fs)=.ok (.mk q,nl)) (ha:isN a=true) (hn:hasF a fs=true) (h1:fs.length < 16) (h2:cnFs fs < 600) :
  uP (.mk (fs ++ [.mk a [] 0 false 0 []]))=.error 21:=by
 obtain ⟨hw,hd,hm,x,hx,hu⟩:=uP_ok h
 have hw2:wf false (.mk (fs ++ [.mk a [] 0 false 0 []]))=true:=by
  have hw':=hw
  simp only [wf,Bool.and_eq_true,decide_eq_true_eq] at hw' ⊢
  simp only [gFs_snoc,cnFs_snoc,List.length_append,List.length_singleton,cnF,szSs,Bool.and_eq_true]
  refine ⟨⟨⟨by omega,by omega⟩,hw'.1.2,?_⟩,by omega⟩
  simp [gFs,headF,okP,gSs,ha]
 show uD _ 2 (uD _ 21 (uD _ _ _))=_
 rw [hw2,dupF_snoc,hd]
 simp only [nameF,List.nil_append,hn]
 rfl
def zN:Nat→ByteArray
 | 0=>⟨#[122]⟩
 | n + 1=>zN n ++ ⟨#[122]⟩
theorem zN_size : ∀ n,(zN n).size=n + 1
 | 0=>rfl
 | n + 1=>by rw [zN,ByteArray.size_append,zN_size n]; rfl
theorem zN_name : ∀ n,n < 12→isN (zN n)=true
 | 0,_=>by kernel_rfl
 | 1,_=>by kernel_rfl
 | 2,_=>by kernel_rfl
 | 3,_=>by kernel_rfl
 | 4,_=>by kernel_rfl
 | 5,_=>by kernel_rfl
 | 6,_=>by kernel_rfl
 | 7,_=>by kernel_rfl
 | 8,_=>by kernel_rfl
 | 9,_=>by kernel_rfl
 | 10,_=>by kernel_rfl
 | 11,_=>by kernel_rfl
 | n + 12,h=>by omega
theorem ixF_has (a:ByteArray) : ∀ (l:List DFunc) (i:Nat),decide (ixF a l i ≥ 0)=hasF a l
 | [],i=>rfl
 | f :: l,i=>by
  unfold ixF hasF
  cases seq (nameF f) a with
  | true=>simp
  | false=>simp only [cond_false,Bool.false_or]; exact ixF_has a l (i + 1)
theorem ixF_new (a:ByteArray) (g:DFunc) (hg:nameF g=a) : ∀ (l:List DFunc) (i:Nat),hasF a l=false→ixF a (l ++ [g]) i=((i + l.length:Nat):Int)
 | [],i,h=>by simp only [List.nil_append,ixF,hg,seq_refl,cond_true,List.length_nil,Nat.add_zero]
 | f :: l,i,h=>by
  unfold hasF at h
  simp only [Bool.or_eq_false_iff] at h
  simp only [List.cons_append,ixF,h.1,cond_false,ixF_new a g hg l (i + 1) h.2,List.length_cons]
  omega
theorem hasF_size {z:Bool} (a:ByteArray) : ∀ (l:List DFunc),gFs z l=true→hasF a l=true→a.size≤12
 | [],hg,h=>by cases h
 | .mk n ps r fl v b :: l,hg,h=>by
  simp only [gFs,headF,Bool.and_eq_true] at hg
  unfold hasF nameF at h
  simp only [Bool.or_eq_true] at h
  rcases h with h | h
  ·have e:=seq_eq h
   have hn:=hg.1.1.1.1.1.1
   unfold isN at hn
   simp only [Bool.and_eq_true,decide_eq_true_eq] at hn
   rw [← e]
   omega
  ·exact hasF_size a l hg.2.2.2 h
theorem hasF_at : ∀ (l:List DFunc) (m:Nat) (f:DFunc),l[m]?=some f→hasF (nameF f) l=true
 | [],m,f,h=>by simp at h
 | x :: l,0,f,h=>by
  obtain rfl:x=f:=by simpa using h
  simp [hasF,seq_refl]
 | x :: l,m + 1,f,h=>by
  unfold hasF
  rw [hasF_at l m f (by simpa using h),Bool.or_true]
theorem isN_at {z:Bool} : ∀ (l:List DFunc) (m:Nat) (f:DFunc),gFs z l=true→l[m]?=some f→isN (nameF f)=true
 | [],m,f,hg,h=>by simp at h
 | .mk n ps r fl v b :: l,0,f,hg,h=>by
  obtain rfl:DFunc.mk n ps r fl v b=f:=by simpa using h
  simp only [gFs,headF,Bool.and_eq_true] at hg
  exact hg.1.1.1.1.1.1
 | .mk n ps r fl v b :: l,m + 1,f,hg,h=>by
  simp only [gFs,Bool.and_eq_true] at hg
  exact isN_at l m f hg.2.2.2 (by simpa using h)
theorem fitFs_snoc (g:DFunc) (hg:fitF g) : ∀ l,fitFs l→fitFs (l ++ [g])
 | [],_=>⟨hg,trivial⟩
 | f :: l,h=>⟨h.1,fitFs_snoc g hg l h.2⟩
theorem szFs_snoc (g:DFunc) : ∀ l,szFs (l ++ [g])=szFs l + szF g
 | []=>by simp [szFs]
 | f :: l=>by simp only [List.cons_append,szFs,szFs_snoc g l]; omega
theorem f32_nodes (k:Nat) (fs:List DFunc) (hk:2 * szP (.mk fs) + 1≤k) (hw:wf false (.mk fs)=true) : ∃ d,f32 k (.mk fs)=some (.mk (cnFs fs:Int) d false):=by
 simp only [szP] at hk
 simp only [wf,Bool.and_eq_true,decide_eq_true_eq] at hw
 obtain ⟨⟨⟨h1,h2⟩,h3⟩,h4⟩:=hw
 unfold f32 f32_b
 have e1:decide ((fs.length:Int) ≥ 1)=true:=by simp; omega
 have e2:decide ((fs.length:Int)≤16)=true:=by simp; omega
 simp only [e1,e2,cond_true,f59_eq,Option.bind_some,f32_j1]
 obtain ⟨x,d,q',g1,g2,g3⟩:=rFs k fs 0 0 0 0 false (by omega) (fun _=>⟨rfl,by omega⟩)
 have e0:(false || !true)=false:=rfl
 rw [e0,g1]
 have hq:q'=false:=by
  rw [g2,h3]
  simp
  omega
 have hx:=(g3 hq)
 subst hq
 refine ⟨d,?_⟩
 have:x=(cnFs fs:Int):=by rw [hx]; simp
 rw [this]
section
variable {k:Nat} {fs q:List DFunc} {nl:List (List ByteArray)} {x:Int} (hu:uP (.mk fs)=.ok (.mk q,nl)) (hk:2 * szP (.mk fs) + 2500≤k) (hf:fitP (.mk fs)) (h16:fs.length < 16) (h600:cnFs fs < 600)
include hu hk hf h16 h600
theorem f9_last {a:ByteArray} (ha:isN a=true) (hn:hasF a fs=false):f9_j3 (k + 100) fs x a false=some true:=by
 obtain ⟨hw,hd,hm,z,hz,hu2⟩:=uP_ok hu
 have hadd:=uP_add fs a q nl hu ha hn h16 h600
 have hw':=hw
 simp only [wf,Bool.and_eq_true,decide_eq_true_eq] at hw'
 have hlen:1≤fs.length:=hw'.1.1.1
 have hsz:szP (.mk (fs ++ [.mk a [] 0 false 0 []]))=szP (.mk fs) + 1:=by simp only [szP,szFs_snoc,szF,szSs,List.length_nil] <;> omega
 have hfit:fitP (.mk (fs ++ [.mk a [] 0 false 0 []])):=by
  simp only [fitP] at hf ⊢
  exact ⟨by rw [List.length_append,List.length_singleton]; unfold maxB; omega,fitFs_snoc _ (by simp only [fitF,fitSs,List.length_nil]; exact ⟨by unfold maxB; omega,by unfold maxB; omega,trivial⟩) fs hf.2⟩
 have h30':=f30_eq (k + 100) (fs ++ [.mk a [] 0 false 0 []]) a (by rw [hsz]; omega) (by omega)
 have h30:=h30' hfit
 clear h30'
 have hfr:uFr (.mk (fs ++ [.mk a [] 0 false 0 []]))=.ok (.mk (q ++ [.mk a [] 0 false 0 []]),nl ++ [[]]):=by
  obtain ⟨hwt,hst⟩:=wf_both (uP_ok hadd).1
  unfold uFr
  rw [hwt,hst,hadd]
  rfl
 have hix:ixF a (fs ++ [.mk a [] 0 false 0 []]) 0=(fs.length:Int):=by
  rw [ixF_new a _ rfl fs 0 hn,Nat.zero_add]
 rw [hfr,hix] at h30
 have e1:decide ((fs.length:Int) ≥ 0)=true:=by simp
 simp only [e1,cond_true] at h30
 obtain ⟨m,hm1,hm2⟩:=f18_eq (k + 100) x fs.length (by omega) (by omega)
 obtain ⟨f,hfm⟩ : ∃ f,fs[m]?=some f:=⟨_,List.getElem?_eq_getElem hm2⟩
 have htw:=uP_twice fs (nameF f) q nl hu (isN_at fs m f hw'.1.2 hfm) (hasF_at fs m f hfm) h16 h600
 have hsz2:szP (.mk (fs ++ [.mk (nameF f) [] 0 false 0 []]))=szP (.mk fs) + 1:=by simp only [szP,szFs_snoc,szF,szSs,List.length_nil] <;> omega
 have h15:=f15_uP (k + 100) (.mk (fs ++ [.mk (nameF f) [] 0 false 0 []])) (by rw [hsz2]; omega) (by omega)
 rw [htw] at h15
 have hi:=idxO_nat hfm
 obtain ⟨f0,f1,f2,f3,f4,f5⟩:=f
 simp only [nameF] at h15
 unfold f9_j3 f9_j4 f9_j5
 simp only [cond_false,List.nil_append,List.length_nil,Nat.zero_add]
 simp only [h30,Option.bind_some]
 rw [guard_le (by unfold maxB; omega)]
 simp only [hm1,hi,Option.bind_some]
 rw [guard_le (by unfold maxB; omega)]
 simp only [h15,Option.bind_some,beq_self_eq_true,cond_true,f14_eq]
theorem f9_loop : ∀ (d n j:Nat),n + d=12→d + 1≤j→f9_w1 (k + 100) fs x q j (zN n)=some true:=by
 obtain ⟨hw,hd,hm,z,hz,hu2⟩:=uP_ok hu
 have hw':=hw
 simp only [wf,Bool.and_eq_true,decide_eq_true_eq] at hw'
 have e:=stP_u _ _ _ hu
 have hszq:szP (.mk q)=szP (.mk fs):=by rw [← szP_st (.mk q),e]
 intro d
 induction d with
 | zero =>
  intro n j hn hj
  obtain ⟨j,rfl⟩ : ∃ i,j=i + 1:=⟨j - 1,by omega⟩
  obtain rfl:n=12:=by omega
  have hh:hasF (zN 12) fs=false:=by
   cases h:hasF (zN 12) fs with
   | false=>rfl
   | true=>have:=hasF_size (zN 12) fs hw'.1.2 h; rw [zN_size] at this; omega
  have hx:=ixF_has (zN 12) fs 0
  rw [hh] at hx
  have hs:decide (((zN 12).size:Int) > 12)=true:=by rw [zN_size]; rfl
  unfold f9_w1
  simp only [f31_eq,Option.bind_some,hx,cond_false,hs,cond_true,f14_eq]
 | succ d ih =>
  intro n j hn hj
  obtain ⟨j,rfl⟩ : ∃ i,j=i + 1:=⟨j - 1,by omega⟩
  have hx:=ixF_has (zN n) fs 0
  unfold f9_w1
  simp only [f31_eq,Option.bind_some]
  rw [hx]
  cases hh:hasF (zN n) fs with
  | true =>
   have:=hasF_size (zN n) fs hw'.1.2 hh
   rw [zN_size] at this
   simp only [cond_true]
   rw [guard_le (by rw [ByteArray.size_append,zN_size]; unfold maxB; show n + 1 + 1≤_; omega)]
   exact ih (n + 1) j (by omega) (by omega)
  | false =>
   have hs:decide (((zN n).size:Int) > 12)=false:=by rw [zN_size]; simp; omega
   have hadd:=uP_add fs (zN n) q nl hu (zN_name n (by omega)) hh h16 h600
   have hsz:szP (.mk (fs ++ [.mk (zN n) [] 0 false 0 []]))=szP (.mk fs) + 1:=by simp only [szP,szFs_snoc,szF,szSs,List.length_nil] <;> omega
   have h15:=f15_uP (k + 100) (.mk (fs ++ [.mk (zN n) [] 0 false 0 []])) (by rw [hsz]; omega) (by omega)
   rw [hadd] at h15
   have h17:=f17_eq (k + 100) (.mk q) (by rw [hszq]; omega)
   have hql:q.length=fs.length:=by have:=congrArg (fun p=>match p with | DProgram.mk l=>l.length) e; simpa [stP,stFs_len] using this
   simp only [hs,cond_false,List.nil_append,List.length_nil,Nat.zero_add]
   rw [guard_le (by unfold maxB; omega),guard_le (by unfold maxB; omega)]
   simp only [h15,Option.bind_some,bne_self_eq_false,cond_false,List.length_append,List.length_singleton]
   have e2:w64 ((q.length:Int) + 1)=((q.length + 1:Nat):Int):=w64_nat (by omega) (by omega)
   have e3:((q.length + 1:Nat):Int)=((q.length + 1:Nat):Int):=rfl
   rw [e2]
   simp only [bne_self_eq_false,cond_false]
   have e4:decide (0≤(q.length:Int)∧(q.length:Int)≤((q.length + 1:Nat):Int))=true:=by simp; omega
   rw [e4]
   have e5:(q ++ [DFunc.mk (zN n) [] 0 false 0 []]).take ((q.length:Int).toNat)=q:=by simp
   rw [e5]
   show (f17 (k + 100) (.mk q) (.mk q)).bind _=_
   rw [h17]
   exact f9_last hu hk hf h16 h600 (zN_name n (by omega)) hh
end
theorem f9_eq (k:Nat) (p:DProgram) (x:Int) (hk:2 * szP p + 2500≤k) (hf:fitP p):f9 (k + 100) p x=some true:=by
 obtain ⟨b,h13⟩:=f13_tot (k + 100) p (by omega)
 have h15:=f15_uP (k + 100) p (by omega) (by omega)
 obtain ⟨fs⟩:=p
 unfold f9 f9_b f9_j1
 simp only [h13,f14_eq,h15,Option.bind_some]
 cases b with
 | false=>rfl
 | true =>
  simp only [Bool.not_true,cond_false]
  cases hl:decide ((fs.length:Int) ≥ 16) with
  | true=>rfl
  | false =>
   have h16:fs.length < 16:=by simp at hl; omega
   simp only [cond_false]
   cases hu:uP (.mk fs) with
   | error c =>
    have hc:(c != 0)=true:=by simpa using uP_err hu
    simp only [hc,cond_true]
    unfold f9_j2
    simp only [cond_true,f14_eq,Option.bind_some]
   | ok y =>
    obtain ⟨⟨q⟩,nl⟩:=y
    obtain ⟨d,h32⟩:=f32_nodes (k + 100) fs (by omega) (uP_ok hu).1
    simp only [bne_self_eq_false,cond_false,h32,Option.bind_some]
    unfold f9_j2
    cases hc:decide ((cnFs fs:Int) ≥ 600) with
    | true=>simp only [cond_true,f14_eq,Option.bind_some]
    | false =>
     have h600:cnFs fs < 600:=by simp at hc; omega
     simp only [cond_false]
     exact f9_loop hu hk hf h16 h600 12 0 (k + 100) (by omega) (by omega)
end Go.Proofs.YtoajecnoffhlbaaGreatDoor
