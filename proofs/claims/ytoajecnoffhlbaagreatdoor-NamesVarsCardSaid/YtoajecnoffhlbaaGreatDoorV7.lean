/- Words of the same proof, part 7: what the last text needs; nothing is claimed here. -/
import Derived.Test.YtoajecnoffhlbaaGreatDoorV6
set_option linter.unusedVariables false
set_option linter.unusedSimpArgs false
namespace Go.Proofs.YtoajecnoffhlbaaGreatDoor
open Go
def uPs:List ByteArray→List Nat→List DParam→Ex (List ByteArray × List Nat × Unit)
 | nm,vis,[]=>.ok (nm,vis,())
 | nm,vis,.mk a _ :: l=>eb3 (uMk nm vis a) fun nm1 vis1 _=>uPs nm1 vis1 l
def uF (fs:List DFunc):DFunc→Ex (DFunc × List ByteArray)
 | .mk n ps res fl _ b=>eb3 (uPs [] [] ps) fun nm vis _=>eb3 (uSs fs res fl 0 nm vis b) fun nm1 _ b'=>uD (decide (nm1.length≤32)) 5 (.ok (.mk n ps res fl (nm1.length:Int) b',nm1))
def uFs (fs:List DFunc):List DFunc→Ex (List DFunc × List (List ByteArray))
 | []=>.ok ([],[])
 | f :: l=>eb (uF fs f) fun x=>eb (uFs fs l) fun y=>.ok (x.1 :: y.1,x.2 :: y.2)
def nameF:DFunc→ByteArray | .mk n _ _ _ _ _=>n
def hasF (a:ByteArray):List DFunc→Bool
 | []=>false
 | f :: l=>seq (nameF f) a || hasF a l
def dupF:List DFunc→List DFunc→Bool
 | _,[]=>false
 | pre,f :: l=>hasF (nameF f) pre || dupF (pre ++ [f]) l
def uP:DProgram→Ex (DProgram × List (List ByteArray))
 | .mk fs=>uD (wf false (.mk fs)) 2 (uD (!dupF [] fs) 21 (uD (decide (f44_l2 fs=0)) (f44_l2 fs) (eb (uFs fs fs) fun x=>.ok (.mk x.1,x.2))))
theorem szSs_bound {z:Bool} : ∀ {l:List DFunc} {f:DFunc},f ∈ l→cnFs l≤600→gFs z l=true→(match f with | .mk n ps res fl v b=>szSs b≤600∧ps.length≤4∧gSs z b 1=true)
 | .mk n ps res fl v b :: l,f,hf,hc,hg=>by
  simp only [cnFs,cnF] at hc
  simp only [gFs,headF,Bool.and_eq_true,decide_eq_true_eq] at hg
  rcases List.mem_cons.1 hf with rfl | h
  ·exact ⟨by omega,hg.1.1.1.1.1.2,hg.2.2.1⟩
  ·exact szSs_bound h (by omega) hg.2.2.2
theorem f82_l1_eq (k:Nat) (p:List DFunc) (n:ByteArray) (ps0:List DParam) (res:Int) (fl:Bool) (v:Int) (b0 b:List DStmt) (g1:List DParam) : ∀ (ps:List DParam) (i:Nat) (nm:List ByteArray) (vis:List Nat) (d:List (ByteArray × Int)),nm.length + ps.length≤1000→Rel ([] ++ [d]) vis nm →
  match uPs nm vis ps with
  | .error c=>f82_l1 k n g1 res fl b ps i p n ps0 res fl v b0 nm ([] ++ [d]) 0=some (.error c)
  | .ok (nm',vis',_)=>∃ d' j,f82_l1 k n g1 res fl b ps i p n ps0 res fl v b0 nm ([] ++ [d]) 0=f82_l1 k n g1 res fl b [] j p n ps0 res fl v b0 nm' ([] ++ [d']) 0∧Rel ([] ++ [d']) vis' nm'∧nm'.length≤nm.length + ps.length
 | [],i,nm,vis,d,hn,R=>⟨d,i,rfl,R,by simp⟩
 | .mk a kd :: ps,i,nm,vis,d,hn,R=>by
  simp only [List.length_cons] at hn
  have h:=opt_make k p (.mk n ps0 res fl v b0) 0 R a (by omega) (by simp)
  unfold uPs
  revert h
  cases uMk nm vis a with
  | error c =>
   intro h
   simp only [NN] at h
   unfold f82_l1
   simp only [eb3]
   rw [show f103 k (.mk (.mk p) (.mk n ps0 res fl v b0) nm ([] ++ [d]) 0) a=some (.error c) from h]
   rfl
  | ok x =>
   obtain ⟨nm1,vis1,w⟩:=x
   rintro ⟨d1,h,R1,hp,hl⟩
   simp only [eb3]
   have ih:=f82_l1_eq k p n ps0 res fl v b0 b g1 ps (i + 1) nm1 vis1 d1 (by omega) R1
   have e:f82_l1 k n g1 res fl b (.mk a kd :: ps) i p n ps0 res fl v b0 nm ([] ++ [d]) 0=f82_l1 k n g1 res fl b ps (i + 1) p n ps0 res fl v b0 nm1 ([] ++ [d1]) 0:=by
    conv=>lhs; unfold f82_l1
    rw [show f103 k (.mk (.mk p) (.mk n ps0 res fl v b0) nm ([] ++ [d]) 0) a=some (.ok (.mk (.mk p) (.mk n ps0 res fl v b0) nm1 ([] ++ [d1]) 0,w)) from h]
    rfl
   revert ih
   cases uPs nm1 vis1 ps with
   | error c=>intro ih; rw [e]; exact ih
   | ok x =>
    obtain ⟨nm2,vis2,u⟩:=x
    rintro ⟨d2,j,h2,R2,hl2⟩
    exact ⟨d2,j,by rw [e]; exact h2,R2,by simp only [List.length_cons]; omega⟩
theorem f82_l2_eq (k:Nat) (p:List DFunc) (n:ByteArray) (ps0:List DParam) (res:Int) (fl:Bool) (v:Int) (b0:List DStmt) (g1:List DParam) : ∀ (l:List DStmt) (i:Nat) (xs:List DStmt) (nm:List ByteArray) (vis:List Nat) (d:List (ByteArray × Int)),4 * szSs l≤k→xs.length + szSs l≤100000→nm.length + szSs l≤100000→Rel ([] ++ [d]) vis nm →
  f82_l2 k n res fl g1 l i p n ps0 res fl v b0 nm ([] ++ [d]) 0 xs=some (eb3 (uSs p res fl 0 nm vis l) fun nm1 _ b'=>uD (decide (nm1.length≤32)) 5 (.ok (.mk n g1 res fl (nm1.length:Int) (xs ++ b'),nm1)))
 | [],i,xs,nm,vis,d,hm,hx,hn,R=>by
  unfold f82_l2 f82_j1
  rw [uSs]
  have e:decide ((nm.length:Int)≤32)=decide (nm.length≤32):=by rw [decide_eq_decide]; omega
  simp only [f58_eq,Option.bind_some,eb3,e,uD,List.append_nil]
  cases decide (nm.length≤32) <;> rfl
 | s :: l,i,xs,nm,vis,d,hm,hx,hn,R=>by
  simp only [szSs] at hm hx hn
  have hp0:=szS_pos s
  obtain ⟨e0,e1,e2,e3,e4,e5,e6,e7,e8,e9,e10⟩:=s
  unfold f82_l2
  rw [uSs]
  have h:=(nR k p n ps0 res fl v b0 k (Nat.le_refl k)).1 (.mk e0 e1 e2 e3 e4 e5 e6 e7 e8 e9 e10) (by omega) nm vis [] d 0 (by omega) (by simp; omega) (by omega) R
  rw [show (fam105 k k).f105=f105 k from rfl,show (((0:Nat):Int))=0 from rfl] at h
  revert h
  cases uS p res fl 0 nm vis (.mk e0 e1 e2 e3 e4 e5 e6 e7 e8 e9 e10) with
  | error c=>intro h; simp only [NN] at h; rw [h]; rfl
  | ok x =>
   obtain ⟨nm1,vis1,s'⟩:=x
   rintro ⟨d1,h,R1,hp,hl⟩
   rw [h]
   obtain ⟨r0,r1,r2,r3,r4,r5,r6,r7,r8,r9,r10⟩:=s'
   simp only [Option.bind_some,eb3]
   rw [guard_le (by unfold maxB; omega)]
   refine (f82_l2_eq k p n ps0 res fl v b0 g1 l (i + 1) (xs ++ [.mk r0 r1 r2 r3 r4 r5 r6 r7 r8 r9 r10]) nm1 vis1 d1 (by omega) (by rw [app_len]; omega) (by omega) R1).trans ?_
   cases uSs p res fl 0 nm1 vis1 l with
   | error c=>rfl
   | ok x=>simp [eb3]
theorem f82_eq (k:Nat) (p:List DFunc) (f:DFunc) (h:match f with | .mk n ps res fl v b=>szSs b≤600∧ps.length≤4∧gSs false b 1=true) (hk:4 * 600≤k):f82 k (.mk p) f=some (uF p f):=by
 obtain ⟨n,ps,res,fl,v,b⟩:=f
 obtain ⟨h1,h2,h3⟩:=h
 unfold f82 f82_b uF
 simp only
 have R0:Rel ([] ++ [[]]) [] []:=⟨fun a=>rfl,fun v hv=>by cases hv⟩
 have h:=f82_l1_eq k p n ps res fl v b b ps ps 0 [] [] [] (by simp; omega) R0
 revert h
 cases uPs [] [] ps with
 | error c=>intro h; exact h
 | ok x =>
  obtain ⟨nm,vis,u⟩:=x
  rintro ⟨d,j,h,R,hl⟩
  refine (h:f82_l1 k n ps res fl b ps 0 p n ps res fl v b [] [[]] 0=_).trans ?_
  unfold f82_l1 f104
  rw [guard_le (by unfold maxB; omega)]
  simp only [Option.bind_some,eb3]
  exact f82_l2_eq k p n ps res fl v b ps b 0 [] nm vis d (by omega) (by simp; omega) (by simp at hl; omega) R
theorem f1008056_eq (k:Nat) (l:List DFunc) (f:DFunc):f1008056 k l f=some (hasF (nameF f) l):=by
 obtain ⟨n,ps,res,fl,v,b⟩:=f
 have h : ∀ (l:List DFunc) (i:Nat),(f1005656_l1 k n ps res fl v b l i).bind (fun r=>some (decide (r ≥ 0)))=some (hasF n l):=by
  intro l
  induction l with
  | nil=>intro i; rfl
  | cons e l ih =>
   intro i
   obtain ⟨e0,e1,e2,e3,e4,e5⟩:=e
   unfold f1005656_l1 f1008100 f1008100_b hasF
   simp only [Option.bind_some,nameF]
   rw [seq_comm n e0]
   cases seq e0 n with
   | true=>simp
   | false=>simpa using ih (i + 1)
 unfold f1008056 f1008056_b f1005656 f1005656_b
 exact h l 0
theorem f44_l1_eq (k:Nat) : ∀ (rest pre:List DFunc),f44_l1 k (pre ++ rest) rest pre.length=some (cond (dupF pre rest) (.error 21) (.ok ()))
 | [],pre=>rfl
 | f :: rest,pre=>by
  unfold f44_l1 dupF
  have e:(pre ++ f :: rest).take pre.length=pre:=by simp
  rw [e,f1008056_eq]
  simp only [Option.bind_some,f58_eq]
  cases hasF (nameF f) pre with
  | true=>rfl
  | false =>
   have ih:=f44_l1_eq k rest (pre ++ [f])
   rw [app_len,List.append_assoc,List.singleton_append] at ih
   simpa using ih
theorem f44_l3_eq (k:Nat) (p:List DFunc) (hk:4 * 600≤k) : ∀ (rest:List DFunc) (out:List DFunc) (names:List (List ByteArray)),(∀ f ∈ rest,match f with | .mk n ps res fl v b=>szSs b≤600∧ps.length≤4∧gSs false b 1=true) →
  f44_l3 k (.mk p) rest out names=some (eb (uFs p rest) fun x=>.ok (.mk (out ++ x.1),names ++ x.2))
 | [],out,names,h=>by simp [f44_l3,uFs,eb]
 | f :: rest,out,names,h=>by
  unfold f44_l3 uFs
  rw [f82_eq k p f (h f (by simp)) hk]
  cases uF p f with
  | error c=>rfl
  | ok x =>
   simp only [Option.bind_some,eb]
   rw [f44_l3_eq k p hk rest (out ++ [x.1]) (names ++ [x.2]) (fun g hg=>h g (by simp [hg]))]
   cases uFs p rest with
   | error c=>rfl
   | ok y=>simp [eb]
theorem f44_eq (k:Nat) (p:DProgram) (hk:2 * szP p + 1≤k) (hk2:4 * 600≤k):f44 k p=some (uP p):=by
 have h78:=f78_eq k p false hk
 obtain ⟨fs⟩:=p
 unfold f44 uP
 simp only [h78,Option.bind_some,f58_eq]
 cases hw:wf false (.mk fs) with
 | false=>rfl
 | true =>
  simp only [wf,Bool.and_eq_true,decide_eq_true_eq] at hw
  have h1:=f44_l1_eq k fs []
  simp only [List.nil_append,List.length_nil] at h1
  simp only [cond_true,h1,Option.bind_some,uD]
  cases dupF [] fs with
  | true=>rfl
  | false =>
   simp only [cond_false,cond_true,Bool.not_false,f58_eq,Option.bind_some]
   cases decide (f44_l2 fs=0) with
   | false=>rfl
   | true =>
    simp only [cond_true]
    rw [f44_l3_eq k fs hk2 fs [] [] (fun f hf=>szSs_bound hf hw.2 hw.1.2)]
    rfl
theorem f46_l1_eq (k:Nat) (p:List DFunc) (n:ByteArray) (ps0:List DParam) (res:Int) (fl:Bool) (v:Int) (b0 b:List DStmt) (g1:List DParam) : ∀ (ps:List DParam) (i:Nat) (nm:List ByteArray) (vis:List Nat) (er:Int),nm.length + ps.length≤1000→vis.length + ps.length≤1000→okV nm vis →
  ∃ nm' vis' er' j,f46_l1 k n g1 res fl b ps i p n ps0 res fl v b0 nm (vI vis) 0 er=f46_l1 k n g1 res fl b [] j p n ps0 res fl v b0 nm' (vI vis') 0 er'∧okV nm' vis'∧nm'.length≤nm.length + ps.length∧vis'.length≤vis.length + ps.length∧(er ≠ 0→er'=er) ∧
   (er=0→match uPs nm vis ps with | .error c=>er'=c∧c ≠ 0 | .ok (a,b,_)=>er'=0∧nm'=a∧vis'=b)
 | [],i,nm,vis,er,hn,hn2,hv=>⟨nm,vis,er,i,rfl,hv,by simp,by simp,fun _=>rfl,fun h=>⟨h,rfl,rfl⟩⟩
 | .mk a kd :: ps,i,nm,vis,er,hn,hn2,hv=>by
  simp only [List.length_cons] at hn hn2
  obtain ⟨nm1,vis1,er1,w,hr,hp1,hv1,hok1,hl1,hl2,he,h0⟩:=make_ref k p (.mk n ps0 res fl v b0) 0 er hv a (by omega) (by omega)
  obtain ⟨nm2,vis2,er2,j,hr2,hok2,hl3,hl4,he2,h02⟩:=f46_l1_eq k p n ps0 res fl v b0 b g1 ps (i + 1) nm1 vis1 er1 (by omega) (by omega) hok1
  refine ⟨nm2,vis2,er2,j,?_,hok2,by simp only [List.length_cons]; omega,by simp only [List.length_cons]; omega,fun h=>?_,fun h=>?_⟩
  ·rw [← hr2]
   conv=>lhs; unfold f46_l1
   rw [show f83 k (.mk p (.mk n ps0 res fl v b0) nm (vI vis) 0 er) a=_ from hr]
   rfl
  ·rw [he2 (by rw [he h]; exact h),he h]
  ·have h0:=h0 h
   unfold uPs
   revert h0
   cases uMk nm vis a with
   | error c =>
    rintro ⟨rfl,hc⟩
    exact ⟨he2 hc,hc⟩
   | ok x =>
    obtain ⟨b,v,x⟩:=x
    rintro ⟨rfl,rfl,rfl,rfl⟩
    have h02:=h02 rfl
    simp only [eb3]
    revert h02
    cases uPs nm1 vis1 ps with
    | error c=>exact id
    | ok x=>obtain ⟨b,v,x⟩:=x; exact id
theorem f46_eq (k:Nat) (p:List DFunc) (f:DFunc) (h:match f with | .mk n ps res fl v b=>szSs b≤600∧ps.length≤4∧gSs false b 1=true) (hk:4 * 600 + 1≤k) :
  ∃ nm vis er y z,f46 k p f=some (.mk p z nm vis 0 er,y)∧match uF p f with | .error c=>er=c∧c ≠ 0 | .ok (g,l)=>er=0∧y=g∧nm=l:=by
 obtain ⟨n,ps,res,fl,v,b⟩:=f
 obtain ⟨h1,h2,h3⟩:=h
 unfold f46 f46_b
 simp only
 obtain ⟨nm1,vis1,er1,j,hr,hok1,hl1,hl2,he,h0⟩:=f46_l1_eq k p n ps res fl v b b ps ps 0 [] [] 0 (by simp; omega) (by simp; omega) (fun v hv=>by cases hv)
 have h0:=h0 rfl
 rw [show f46_l1 k n ps res fl b ps 0 p n ps res fl v b [] [] 0 0=_ from hr]
 unfold f46_l1
 simp only [List.length_nil,Nat.zero_add] at hl1 hl2
 obtain ⟨nm2,er2,z,hr2,hp2,hok2,hl3,he2,h02⟩:=(rRS k p n ps res fl v b k (Nat.le_refl k)).2.1 b 1 (by omega) h3 0 0 rfl nm1 vis1 0 er1 hok1 (by omega) (by omega) (by omega)
 rw [show (fam84 k k).f84=f84 k from rfl] at hr2
 rw [show f84 k (.mk p (.mk n ps res fl v b) nm1 (vI vis1) 0 er1) b 0=_ from hr2]
 simp only [Option.bind_some,f85_eq]
 unfold f46_j1
 refine ⟨nm2,_,_,_,_,rfl,?_⟩
 simp only [uF]
 revert h0
 cases uPs [] [] ps with
 | error c =>
  rintro ⟨rfl,hc⟩
  have:=he2 hc
  refine ⟨?_,hc⟩
  unfold failI
  rw [this,show (er1 == 0)=false by simpa using hc,Bool.and_false]; rfl
 | ok x =>
  obtain ⟨b',v',x⟩:=x
  rintro ⟨rfl,rfl,rfl⟩
  have h02:=h02 rfl
  simp only [eb3]
  rw [uB_eq,Nat.add_zero] at h02
  revert h02
  cases uSs p res fl 0 nm1 vis1 b with
  | error c =>
   rintro ⟨rfl,hc⟩
   refine ⟨?_,hc⟩
   unfold failI
   rw [show (er2 == 0)=false by simpa using hc,Bool.and_false]; rfl
  | ok x =>
   obtain ⟨b',v',x⟩:=x
   rintro ⟨rfl,rfl,rfl⟩
   have e:decide ((nm2.length:Int)≤32)=decide (nm2.length≤32):=by rw [decide_eq_decide]; omega
   rw [e]
   simp only [uD]
   cases decide (nm2.length≤32) with
   | true=>exact ⟨rfl,rfl,rfl⟩
   | false=>exact ⟨rfl,by decide⟩
theorem f45_pre (k:Nat) (a:ByteArray) (f:DFunc) (hf:seq (nameF f) a=true) (rest:List DFunc) : ∀ (pre:List DFunc) (i:Nat),∃ r,f45_l1 k a (pre ++ f :: rest) i=some r∧decide (r < ((i + pre.length:Nat):Int))=hasF a pre
 | [],i=>by
  obtain ⟨n,ps,res,fl,v,b⟩:=f
  simp only [nameF] at hf
  refine ⟨i,?_,by simp [hasF]⟩
  simp only [List.nil_append]
  unfold f45_l1
  rw [hf]; rfl
 | .mk n ps res fl v b :: pre,i=>by
  simp only [List.cons_append]
  unfold f45_l1 hasF
  simp only [nameF]
  cases seq n a with
  | true=>exact ⟨i,rfl,by simp; omega⟩
  | false =>
   obtain ⟨r,h1,h2⟩:=f45_pre k a f hf rest pre (i + 1)
   exact ⟨r,h1,by rw [← h2,Bool.false_or]; simp only [List.length_cons]; rw [decide_eq_decide]; omega⟩
theorem nameF_seq (f:DFunc):seq (nameF f) (nameF f)=true:=seq_refl _
theorem f16_l1_eq (k:Nat) (fs:List DFunc) : ∀ (rest pre:List DFunc),fs=pre ++ rest→f16_l1 k fs rest pre.length=cond (dupF pre rest) (some (.mk [],21)) (f16_l1 k fs [] 0)
 | [],pre,h=>rfl
 | f :: rest,pre,h=>by
  obtain ⟨r,h1,h2⟩:=f45_pre k (nameF f) f (nameF_seq f) rest pre 0
  rw [← h] at h1
  rw [Nat.zero_add] at h2
  conv=>lhs; unfold f16_l1
  unfold dupF
  obtain ⟨n,ps,res,fl,v,b⟩:=f
  simp only [nameF] at h1 h2 ⊢
  unfold f45 f45_b
  rw [h1]
  simp only [Option.bind_some,h2]
  cases hasF n pre with
  | true=>rfl
  | false =>
   have ih:=f16_l1_eq k fs rest (pre ++ [.mk n ps res fl v b]) (by rw [h]; simp)
   rw [app_len] at ih
   simpa using ih
theorem main_eq (k:Nat) (F:Option (DProgram × Int)) : ∀ (l pre:List DFunc),∃ r,f45_l1 k ⟨#[109,97,105,110]⟩ l pre.length=some r ∧
  (cond (decide (r < 0)) (some (DProgram.mk [],(20:Int))) ((idxO (pre ++ l) r).bind fun q_=>match q_ with | .mk _ e1 _ e3 _ _=>cond e3 (some (DProgram.mk [],25)) (cond (decide ((e1.length:Int) > 0)) (some (DProgram.mk [],24)) F))) =
   cond (decide (f44_l2 l=0)) F (some (.mk [],f44_l2 l))
 | [],pre=>⟨-1,rfl,rfl⟩
 | .mk n ps res fl v b :: l,pre=>by
  unfold f45_l1 f44_l2
  cases hs:seq n ⟨#[109,97,105,110]⟩ with
  | true =>
   refine ⟨pre.length,rfl,?_⟩
   have hj:decide ((pre.length:Int) < 0)=false:=by simp
   rw [idxO_mid pre (.mk n ps res fl v b) l _ rfl,hj]
   simp only [cond_false,cond_true,Option.bind_some,Bool.not_true]
   cases fl <;> cases decide ((ps.length:Int) > 0) <;> simp
  | false =>
   obtain ⟨r,h1,h2⟩:=main_eq k F l (pre ++ [.mk n ps res fl v b])
   rw [app_len] at h1
   rw [List.append_assoc,List.singleton_append] at h2
   exact ⟨r,h1,h2⟩
theorem f16_l2_eq (k:Nat) (p:List DFunc) (hk:4 * 600 + 1≤k) : ∀ (rest:List DFunc) (i:Nat) (out:List DFunc),out.length + rest.length≤1000→(∀ f ∈ rest,match f with | .mk n ps res fl v b=>szSs b≤600∧ps.length≤4∧gSs false b 1=true) →
  f16_l2 k p rest i out=some (match uFs p rest with | .error c=>(.mk [],c) | .ok x=>(.mk (out ++ x.1),0))
 | [],i,out,hn,h=>by simp [f16_l2,uFs]
 | f :: rest,i,out,hn,h=>by
  simp only [List.length_cons] at hn
  obtain ⟨nm,vis,er,y,z,h1,h2⟩:=f46_eq k p f (h f (by simp)) hk
  have ih:=fun o ho=>f16_l2_eq k p hk rest (i + 1) o ho (fun g hg=>h g (by simp [hg]))
  obtain ⟨e0,e1,e2,e3,e4,e5⟩:=f
  obtain ⟨g0,g1,g2,g3,g4,g5⟩:=y
  obtain ⟨z0,z1,z2,z3,z4,z5⟩:=z
  unfold f16_l2 uFs
  rw [h1]
  simp only [Option.bind_some]
  unfold f16_j1 f16_j2
  revert h2
  cases uF p (.mk e0 e1 e2 e3 e4 e5) with
  | error c =>
   rintro ⟨rfl,hc⟩
   rw [show (er != 0)=true by simpa using hc]
   rfl
  | ok x =>
   obtain ⟨g,l⟩:=x
   rintro ⟨rfl,rfl,rfl⟩
   rw [show ((0:Int) != 0)=false from rfl]
   simp only [cond_false,eb]
   rw [guard_le (by unfold maxB; omega),ih _ (by rw [app_len]; omega)]
   cases uFs p rest with
   | error c=>rfl
   | ok y=>simp
theorem f16_eq (k:Nat) (p:DProgram) (hk:2 * szP p + 1≤k) (hk2:4 * 600 + 1≤k):f16 k p=some (match uP p with | .error c=>(.mk [],c) | .ok x=>(x.1,0)):=by
 have h20:=f20_eq k p hk
 obtain ⟨fs⟩:=p
 unfold f16 f16_b uP
 simp only [h20,Option.bind_some]
 cases hw:wf false (.mk fs) with
 | false=>rfl
 | true =>
  simp only [wf,Bool.and_eq_true,decide_eq_true_eq] at hw
  simp only [Bool.not_true,cond_false,uD,cond_true]
  have h1:=f16_l1_eq k fs fs [] rfl
  rw [List.length_nil] at h1
  rw [h1]
  cases dupF [] fs with
  | true=>rfl
  | false =>
   simp only [cond_false,Bool.not_false,cond_true]
   obtain ⟨r,h2,h3⟩:=main_eq k (f16_l2 k fs fs 0 []) fs []
   rw [List.length_nil] at h2
   conv=>lhs; unfold f16_l1 f45 f45_b
   rw [h2]
   simp only [Option.bind_some]
   refine Eq.trans h3 ?_
   cases decide (f44_l2 fs=0) with
   | false=>rfl
   | true =>
    simp only [cond_true]
    rw [f16_l2_eq k fs hk2 fs 0 [] (by simp; omega) (fun f hf=>szSs_bound hf hw.2 hw.1.2)]
    cases uFs fs fs <;> rfl
theorem eb_ok {α β:Type} {u:Ex α} {f:α→Ex β} {y:β} (h:eb u f=.ok y) : ∃ x,u=.ok x∧f x=.ok y:=by
 cases u with
 | error c=>cases h
 | ok x=>exact ⟨x,rfl,h⟩
theorem uD_ok {α:Type} {b:Bool} {c:Int} {x:Ex α} {y:α} (h:uD b c x=.ok y):b=true∧x=.ok y:=by
 cases b with
 | false=>cases h
 | true=>exact ⟨rfl,h⟩
section
variable (fs:List DFunc) (f2:Int) (f3:Bool)
end
theorem uP_ok {fs:List DFunc} {q:DProgram} {nl:List (List ByteArray)} (h:uP (.mk fs)=.ok (q,nl)):wf false (.mk fs)=true∧dupF [] fs=false∧f44_l2 fs=0∧∃ x,q=.mk x∧uFs fs fs=.ok (x,nl):=by
 unfold uP at h
 obtain ⟨h1,h⟩:=uD_ok h
 obtain ⟨h2,h⟩:=uD_ok h
 obtain ⟨h3,h⟩:=uD_ok h
 obtain ⟨x,h4,h⟩:=eb_ok h
 cases h
 exact ⟨h1,by simpa using h2,by simpa using h3,x.1,rfl,h4⟩
def Nz {α:Type} (u:Ex α):Prop:=∀ c,u=.error c→c ≠ 0
theorem Nz.ok {α:Type} (x:α):Nz (.ok x:Ex α):=fun c h=>by cases h
theorem Nz.er {α:Type} {c:Int} (h:c ≠ 0):Nz (.error c:Ex α):=fun c' h'=>by cases h'; exact h
theorem Nz.eb {α β:Type} {u:Ex α} {f:α→Ex β} (h:Nz u) (hf : ∀ x,Nz (f x)):Nz (eb u f):=by
 cases u with
 | error c=>intro c' h'; cases h'; exact h c rfl
 | ok x=>exact hf x
theorem Nz.eb3 {α β:Type} {u:Ex (List ByteArray × List Nat × α)} {f:List ByteArray→List Nat→α→Ex β} (h:Nz u) (hf : ∀ a b x,Nz (f a b x)):Nz (eb3 u f):=by
 cases u with
 | error c=>intro c' h'; cases h'; exact h c rfl
 | ok x=>exact hf x.1 x.2.1 x.2.2
theorem Nz.uD {α:Type} {b:Bool} {c:Int} {x:Ex α} (hc:c ≠ 0) (h:Nz x):Nz (uD b c x):=by
 cases b with
 | false=>exact .er hc
 | true=>exact h
theorem Nz.cond {α:Type} {b:Bool} {u v:Ex α} (h:Nz u) (h' : Nz v):Nz (cond b u v):=by
 cases b
 ·exact h'
 ·exact h
theorem Nz.uMk {nm:List ByteArray} {vis:List Nat} {a:ByteArray}:Nz (uMk nm vis a):=by
 unfold Go.Proofs.YtoajecnoffhlbaaGreatDoor.uMk
 cases slotOf nm vis a with
 | none=>exact .ok _
 | some v=>exact .er (by decide)
theorem Nz.uCall {op:Int} {fr:ByteArray} {na:Nat} : ∀ {l:List DFunc} {i:Nat},Nz (uCall op fr na l i)
 | [],i=>.er (by decide)
 | .mk nm ps r fl v b :: l,i=>by
  unfold Go.Proofs.YtoajecnoffhlbaaGreatDoor.uCall
  exact .cond (.cond (.cond (.ok _) (.er (by decide))) (.er (by decide))) .uCall
theorem Nz.uEs {nm:List ByteArray} {vis:List Nat} {l:List DExpr}:Nz (uEs nm vis l):=fun c h=>by rw [uEs_20 h]; decide
section
variable (fs:List DFunc) (f2:Int) (f3:Bool)
theorem uS_nz : ∀ n:Nat,
  (∀ s,szS s≤n→∀ lo nm vis,Nz (uS fs f2 f3 lo nm vis s)) ∧
  (∀ l,szSs l≤n→∀ lo nm vis,Nz (uSs fs f2 f3 lo nm vis l)) ∧
  (∀ c,szC c≤n→∀ lo nm vis,Nz (uC fs f2 f3 lo nm vis c)) ∧
  (∀ l,szCs l≤n→∀ lo nm vis,Nz (uCs fs f2 f3 lo nm vis l))
 | 0=>by
  refine ⟨fun s h=>?_,fun l h=>?_,fun c h=>?_,fun l h=>?_⟩
  ·have:=szS_pos s; omega
  ·cases l with
   | nil=>intro lo nm vis; simp only [uSs]; exact .ok _
   | cons s l=>have:=szS_pos s; simp only [szSs] at h; omega
  ·have:=szC_pos c; omega
  ·cases l with
   | nil=>intro lo nm vis; simp only [uCs]; exact .ok _
   | cons s l=>have:=szC_pos s; simp only [szCs] at h; omega
 | n + 1=>by
  obtain ⟨i1,i2,i3,i4⟩:=uS_nz n
  have a1 : ∀ s,szS s≤n + 1→∀ lo nm vis,Nz (uS fs f2 f3 lo nm vis s):=by
   rintro ⟨op,name,s2,fr,s4,flag,l6,l7,l8,l9,l10⟩ h lo nm vis
   simp only [szS] at h
   have h7:=i2 l7 (by omega)
   have h8:=i2 l8 (by omega)
   have h9:=i2 l9 (by omega)
   have h10:=i4 l10 (by omega)
   simp only [uS,uB_eq,uI_eq]
   have hmk : ∀ nm vis,Nz (cond (seq name ⟨#[]⟩) (.ok (nm,vis,s2)) (uMk nm vis name):Ex (List ByteArray × List Nat × Int)):=fun nm vis=>.cond (.ok _) .uMk
   refine .eb .uEs fun r6=>.cond (.eb3 (h10 _ _ _) fun _ _ _=>.ok _) (.eb (.cond (.ok _) .uCall) fun ix=>?_)
   refine .cond ?_ (.cond (.uD (by decide) (.ok _)) (.cond (.uD (by decide) (.ok _)) (.cond (.uD (by decide) (.ok _)) (.cond (.eb3 (.eb3 (h7 _ _ _) fun _ _ _=>.ok _) fun _ _ _=>.ok _) ?_))))
   ·cases slotOf nm vis name with
    | none=>exact .er (by decide)
    | some v=>exact .ok _
   refine .cond (.eb3 (.eb3 (hmk _ _) fun _ _ _=>.eb3 (h7 _ _ _) fun _ _ _=>.ok _) fun _ _ _=>.ok _) ?_
   refine .cond (.eb3 (.eb3 (hmk _ _) fun _ _ _=>.eb3 (h7 _ _ _) fun _ _ _=>.ok _) fun _ _ _=>.ok _) ?_
   refine .cond (.eb3 (.eb3 (h7 _ _ _) fun _ _ _=>.ok _) fun _ _ _=>.eb3 (.eb3 (hmk _ _) fun _ _ _=>.eb3 (h8 _ _ _) fun _ _ _=>.ok _) fun _ _ _=>.eb3 (.eb3 (h9 _ _ _) fun _ _ _=>.ok _) fun _ _ _=>.ok _) ?_
   exact .cond (.eb3 (.eb3 (h7 _ _ _) fun _ _ _=>.ok _) fun _ _ _=>.eb3 (.eb3 (h8 _ _ _) fun _ _ _=>.ok _) fun _ _ _=>.ok _) (.eb3 (hmk _ _) fun _ _ _=>.uD (by decide) (.ok _))
  have a3 : ∀ c,szC c≤n + 1→∀ lo nm vis,Nz (uC fs f2 f3 lo nm vis c):=by
   rintro ⟨kind,name,slot,es,b⟩ h lo nm vis
   simp only [szC] at h
   simp only [uC,uI_eq]
   exact .eb .uEs fun _=>.eb3 (.eb3 (.cond (.ok _) .uMk) fun _ _ _=>.eb3 (i2 b (by omega) _ _ _) fun _ _ _=>.ok _) fun _ _ _=>.ok _
  have a2 : ∀ l,szSs l≤n + 1→∀ lo nm vis,Nz (uSs fs f2 f3 lo nm vis l):=by
   intro l
   induction l with
   | nil=>intro h lo nm vis; simp only [uSs]; exact .ok _
   | cons s l ih =>
    intro h lo nm vis
    simp only [szSs] at h
    simp only [uSs]
    exact .eb3 (a1 s (by omega) _ _ _) fun _ _ _=>.eb3 (ih (by omega) _ _ _) fun _ _ _=>.ok _
  have a4 : ∀ l,szCs l≤n + 1→∀ lo nm vis,Nz (uCs fs f2 f3 lo nm vis l):=by
   intro l
   induction l with
   | nil=>intro h lo nm vis; simp only [uCs]; exact .ok _
   | cons s l ih =>
    intro h lo nm vis
    simp only [szCs] at h
    simp only [uCs]
    exact .eb3 (a3 s (by omega) _ _ _) fun _ _ _=>.eb3 (ih (by omega) _ _ _) fun _ _ _=>.ok _
  exact ⟨a1,a2,a3,a4⟩
end
theorem uPs_nz : ∀ (l:List DParam) (nm:List ByteArray) (vis:List Nat),Nz (uPs nm vis l)
 | [],nm,vis=>.ok _
 | .mk a kd :: l,nm,vis=>by
  unfold uPs
  exact .eb3 .uMk fun _ _ _=>uPs_nz l _ _
theorem uFs_nz (fs:List DFunc) : ∀ l,Nz (uFs fs l)
 | []=>.ok _
 | .mk n ps res fl v b :: l=>by
  unfold uFs uF
  exact .eb (.eb3 (uPs_nz _ _ _) fun _ _ _=>.eb3 ((uS_nz fs res fl (szSs b)).2.1 b (Nat.le_refl _) _ _ _) fun _ _ _=>.uD (by decide) (.ok _)) fun _=>.eb (uFs_nz fs l) fun _=>.ok _
theorem uP_err {p:DProgram} {c:Int} (h:uP p=.error c):c ≠ 0:=by
 obtain ⟨fs⟩:=p
 refine (show Nz (uD (wf false (.mk fs)) 2 (uD (!dupF [] fs) 21 (uD (decide (f44_l2 fs=0)) (f44_l2 fs) (eb (uFs fs fs) fun x=>.ok (DProgram.mk x.1,x.2))))) from .uD (by decide) (.uD (by decide) ?_)) c h
 cases hb:decide (f44_l2 fs=0) with
 | false=>exact .er (of_decide_eq_false hb)
 | true=>exact .eb (uFs_nz fs fs) fun _=>.ok _
def uFr (p:DProgram):Ex (DProgram × List (List ByteArray)):=cond (wf true p) (uP (stP p)) (.error 2)
theorem uFr_err {p:DProgram} {c:Int} (h:uFr p=.error c):c ≠ 0:=by
 unfold uFr at h
 cases hw:wf true p with
 | false=>rw [hw] at h; cases h; decide
 | true=>rw [hw] at h; exact uP_err h
theorem f27_eq (k:Nat) (p:DProgram) (hk:2 * szP p + 1≤k) (hk2:4 * 600 + 1≤k) (hf:fitP p):f27 k p=some (match uFr p with | .error c=>(.mk [],c) | .ok x=>(x.1,0)):=by
 have h23:=f23_eq k p hk hf
 have h24:=f24_eq k p hk hf
 have h16:=f16_eq k (stP p) (by rw [szP_st]; exact hk) hk2
 obtain ⟨fs⟩:=p
 unfold f27 f27_b uFr
 simp only [h23,Option.bind_some]
 cases wf true (.mk fs) with
 | false=>rfl
 | true =>
  simp only [Bool.not_true,cond_false,cond_true,h24,Option.bind_some]
  simp only [stP] at h16 ⊢
  rw [h16]
  cases uP (.mk (stFs fs)) with
  | error c=>rfl
  | ok x=>obtain ⟨⟨q⟩,l⟩:=x; rfl
theorem f50_eq (k:Nat) (p:DProgram) (hk:2 * szP p + 1≤k) (hf:fitP p):f50 k p=some (cond (wf true p) (.ok (stP p)) (.error 2)):=by
 have h78:=f78_eq k p true hk
 have h88:=f88_eq k p hk hf
 obtain ⟨fs⟩:=p
 unfold f50 f50_b
 simp only [h78,f58_eq,Option.bind_some]
 cases wf true (.mk fs) with
 | false=>rfl
 | true=>simp only [cond_true,h88,Option.bind_some,stP]
theorem uFs_at (gs:List DFunc) : ∀ (l q:List DFunc) (nl:List (List ByteArray)),uFs gs l=.ok (q,nl)→nl.length=l.length∧∀ (n:Nat) (f:DFunc),l[n]?=some f→∃ g m,uF gs f=.ok (g,m)∧nl[n]?=some m∧q[n]?=some g
 | [],q,nl,h=>by cases h; exact ⟨rfl,fun n f h=>by simp at h⟩
 | x :: l,q,nl,h=>by
  unfold uFs at h
  obtain ⟨y,h1,h⟩:=eb_ok h
  obtain ⟨z,h2,h⟩:=eb_ok h
  cases h
  obtain ⟨h3,h4⟩:=uFs_at gs l z.1 z.2 h2
  refine ⟨by simp [h3],fun n f hf=>?_⟩
  cases n with
  | zero =>
   obtain rfl:x=f:=by simpa using hf
   exact ⟨y.1,y.2,h1,rfl,rfl⟩
  | succ n=>simpa using h4 n f (by simpa using hf)
theorem idxO_some {α:Type} {l:List α} {i:Int} (h0:0≤i) (h1:i < (l.length:Int)) : ∃ n:Nat,i=(n:Int)∧n < l.length∧idxO l i=l[n]?:=by
 refine ⟨i.toNat,by omega,by omega,?_⟩
 unfold idxO
 rw [if_pos h0]
theorem f54_eq (k:Nat) (fs:List DFunc) (x:Int) (hk:2 * szP (.mk fs) + 1≤k) (hk2:4 * 600 + 1≤k) (hf:fitP (.mk fs)) :
  f54 k (.mk fs) x=some (match uFr (.mk fs) with | .error c=>.error c | .ok y=>cond (decide (0≤x) && decide (x < (fs.length:Int))) (match y.2[x.toNat]? with | some l=>.ok (stP (.mk fs),l) | none=>.error 2) (.error 2)):=by
 have h50:=f50_eq k (.mk fs) hk hf
 have h44:=f44_eq k (stP (.mk fs)) (by rw [szP_st]; exact hk) (by omega)
 unfold f54 f54_b uFr
 simp only [h50,Option.bind_some]
 cases wf true (.mk fs) with
 | false=>rfl
 | true =>
  simp only [stP] at h44
  simp only [cond_true,stP,h44,Option.bind_some]
  cases hu:uP (.mk (stFs fs)) with
  | error c=>rfl
  | ok y =>
   obtain ⟨⟨q⟩,nl⟩:=y
   obtain ⟨_,_,_,z,hz,h4⟩:=uP_ok hu
   obtain ⟨hl,_⟩:=uFs_at _ _ _ _ h4
   rw [stFs_len] at hl
   simp only [f58_eq,Option.bind_some,hl]
   by_cases h0:0≤x
   ·have h0' : decide (x ≥ 0)=true:=by simpa using h0
    have h0'' : decide (0≤x)=true:=by simpa using h0
    simp only [h0',h0'',cond_true,Bool.true_and]
    by_cases h1:x < (fs.length:Int)
    ·have h1' : decide (x < (fs.length:Int))=true:=by simpa using h1
     obtain ⟨n,rfl,hn,hi⟩:=idxO_some (l:=nl) h0 (by rw [hl]; exact h1)
     obtain ⟨m,hm⟩ : ∃ m,nl[n]?=some m:=⟨_,List.getElem?_eq_getElem hn⟩
     rw [hm] at hi
     simp only [h1',cond_true,Int.toNat_natCast,hm]
     unfold f54_j1 f54_j2
     simp only [hi,Option.bind_some]
    ·have h1' : decide (x < (fs.length:Int))=false:=by simpa using h1
     simp only [h1',cond_false]
   ·have h0' : decide (x ≥ 0)=false:=by simpa using h0
    have h0'' : decide (0≤x)=false:=by simpa using h0
    simp only [h0',h0'',cond_false,Bool.false_and]
theorem f26_eq (k:Nat) (fs:List DFunc) (x:Int) (hk:2 * szP (.mk fs) + 1≤k) (hk2:4 * 600 + 1≤k) (hf:fitP (.mk fs)) :
  f26 k (.mk fs) x=some (match uFr (.mk fs) with | .error c=>([],c) | .ok y=>cond (decide (0≤x) && decide (x < (fs.length:Int))) (match y.2[x.toNat]? with | some l=>(l,0) | none=>([],2)) ([],2)):=by
 have h54:=f54_eq k fs x hk hk2 hf
 have key:f1005395 k (.mk fs) x []=some (match uFr (.mk fs) with | .error c=>.error c | .ok y=>cond (decide (0≤x) && decide (x < (fs.length:Int))) (match y.2[x.toNat]? with | some l=>.ok (.mk fs,x,l) | none=>.error 2) (.error 2)):=by
  unfold f1005395 f1005395_b
  simp only [h54,Option.bind_some]
  cases uFr (.mk fs) with
  | error c=>rfl
  | ok y =>
   obtain ⟨⟨q⟩,nl⟩:=y
   cases decide (0≤x) && decide (x < (fs.length:Int)) with
   | false=>rfl
   | true =>
    simp only [cond_true]
    cases nl[x.toNat]? <;> rfl
 unfold f26 f26_b f1004236
 simp only [key]
 cases uFr (.mk fs) with
 | error c=>rfl
 | ok y =>
  obtain ⟨⟨q⟩,nl⟩:=y
  cases decide (0≤x) && decide (x < (fs.length:Int)) with
  | false=>rfl
  | true =>
   simp only [cond_true]
   cases nl[x.toNat]? <;> rfl
theorem f29_eq (k:Nat) (fs:List DFunc) (n:Nat) (hn:n < fs.length) (y:DProgram × List (List ByteArray)) (hu:uFr (.mk fs)=.ok y) (hk:2 * szP (.mk fs) + 1≤k) (hk2:4 * 600 + 1≤k) (hf:fitP (.mk fs)) :
  ∃ l,y.2[n]?=some l∧f29 k (.mk fs) (n:Int)=some l:=by
 have h24:=f24_eq k (.mk fs) hk hf
 unfold uFr at hu
 cases hw:wf true (.mk fs) with
 | false=>rw [hw] at hu; cases hu
 | true =>
  rw [hw] at hu
  obtain ⟨q,nl⟩:=y
  have hu:uP (.mk (stFs fs))=.ok (q,nl):=hu
  obtain ⟨hw2,_,_,z,hz,h4⟩:=uP_ok hu
  obtain ⟨hl,hat⟩:=uFs_at _ _ _ _ h4
  obtain ⟨f,hfn⟩ : ∃ f,(stFs fs)[n]?=some f:=⟨_,List.getElem?_eq_getElem (by rw [stFs_len]; exact hn)⟩
  obtain ⟨g,m,h5,h6,h7⟩:=hat n f hfn
  simp only [wf,Bool.and_eq_true,decide_eq_true_eq] at hw2
  obtain ⟨nm,vis,er,y,z,h8,h9⟩:=f46_eq k (stFs fs) f (szSs_bound (List.mem_of_getElem? hfn) hw2.2 hw2.1.2) hk2
  rw [h5] at h9
  obtain ⟨_,_,rfl⟩:=h9
  refine ⟨nm,h6,?_⟩
  unfold f29 f29_b f29_j1
  simp only [h24,stP,Option.bind_some]
  have hi:idxO (stFs fs) (n:Int)=some f:=by unfold idxO; simp [hfn]
  simp only [hi,Option.bind_some]
  obtain ⟨a0,a1,a2,a3,a4,a5⟩:=f
  obtain ⟨b0,b1,b2,b3,b4,b5⟩:=y
  obtain ⟨c0,c1,c2,c3,c4,c5⟩:=z
  simp only [h8,Option.bind_some]
theorem f28_l (k:Nat) : ∀ (l pre:List ByteArray),f28_l1 k (pre ++ l) l pre.length=some true
 | [],pre=>rfl
 | a :: l,pre=>by
  unfold f28_l1
  have h:=f28_l k l (pre ++ [a])
  rw [List.append_assoc,List.singleton_append,app_len] at h
  rw [idxO_mid pre a l _ rfl,Option.bind_some,seq_refl]
  exact h
theorem f28_eq (k:Nat) (l:List ByteArray):f28 k l l=some true:=by
 unfold f28 f28_b
 have:=f28_l k l []
 simp only [bne_self_eq_false,cond_false]
 exact this
theorem f7_eq (k:Nat) (p:DProgram) (x:Int) (hk:2 * szP p + 2500≤k) (hf:fitP p):f7 (k + 100) p x=some true:=by
 obtain ⟨b,h13⟩:=f13_tot (k + 100) p (by omega)
 have h27:=f27_eq (k + 100) p (by omega) (by omega) hf
 obtain ⟨fs⟩:=p
 have h26:=f26_eq (k + 100) fs x (by omega) (by omega) hf
 unfold f7 f7_b
 simp only [h13,f14_eq,h26,h27,Option.bind_some]
 cases b with
 | false=>rfl
 | true =>
  simp only [Bool.not_true,cond_false]
  cases hu:uFr (.mk fs) with
  | error c =>
   have hc:=uFr_err hu
   have h1:(c == 0)=false:=by simpa using hc
   have h2:(c != 0)=true:=by simpa using hc
   simp only [h1,cond_false]
   unfold f7_j4 f7_j1 f7_j2
   simp only [cond_false,h2,cond_true,List.length_nil,beq_self_eq_true,f14_eq,Option.bind_some]
   rfl
  | ok y =>
   have h29:=fun n hn=>f29_eq (k + 100) fs n hn y hu (by omega) (by omega) hf
   obtain ⟨⟨q⟩,nl⟩:=y
   simp only [beq_self_eq_true,cond_true]
   by_cases h0:x < 0
   ·have h0' : decide (x < 0)=true:=by simpa using h0
    have h0'' : decide (0≤x)=false:=by simpa using h0
    simp only [h0',h0'',cond_true,Bool.false_and,cond_false]
    unfold f7_j4 f7_j1 f7_j2
    simp only [cond_true,f14_eq,Option.bind_some,List.length_nil]
    rfl
   ·have h0' : decide (x < 0)=false:=by simpa using h0
    have h0'' : decide (0≤x)=true:=by simpa using h0
    simp only [h0',h0'',Bool.true_and,cond_false]
    by_cases h1:x < (fs.length:Int)
    ·have h1' : decide (x < (fs.length:Int))=true:=by simpa using h1
     have h1'' : decide (x ≥ (fs.length:Int))=false:=by simpa using h1
     obtain ⟨n,rfl⟩ : ∃ n:Nat,x=(n:Int):=⟨x.toNat,by omega⟩
     obtain ⟨l,h3,h4⟩:=h29 n (by omega)
     simp only at h3
     simp only [h1',h1'',cond_true,Int.toNat_natCast,h3]
     unfold f7_j4 f7_j1 f7_j3
     simp only [cond_false,h4,f28_eq,Option.bind_some,cond_true,beq_self_eq_true,f14_eq]
     rfl
    ·have h1' : decide (x < (fs.length:Int))=false:=by simpa using h1
     have h1'' : decide (x ≥ (fs.length:Int))=true:=by simpa using h1
     simp only [h1',h1'',cond_false]
     unfold f7_j4 f7_j1 f7_j2
     simp only [cond_true,f14_eq,Option.bind_some,List.length_nil]
     rfl
end Go.Proofs.YtoajecnoffhlbaaGreatDoor
