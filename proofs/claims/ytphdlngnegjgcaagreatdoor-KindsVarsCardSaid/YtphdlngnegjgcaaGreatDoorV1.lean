/- Words of the proof, part 1; nothing is claimed here. -/
import Derived.WalkKit
import Derived.Maps.AppendAt
import Derived.Deep.LoopGhost
import Derived.OrdersHeld
import Derived.Laws.Strings
import Derived.MapKept
import Derived.Scope
import Derived.OrdersIn
import Derived.RangeFuncIn
import Derived.RangeFuncRecord
set_option linter.unusedVariables false
set_option linter.unusedSimpArgs false
namespace Go.Proofs.YtphdlngnegjgcaaGreatDoor
open Go Go.RowKit
def upd(σ:Nat→Value)(t:Nat)(v:Value):Nat→Value:=fun u=>cond (Nat.beq u t) v (σ u)
def fr(n:Nat)(σ:Nat→Value):Act:=⟨(Array.range n).map σ,[]⟩
def ev(n:Nat)(σ:Nat→Value):Operand→Value
 | .tmp t=>cond (Nat.blt t n) (σ t) undef
 | .const v=>v
 | .global g=>.pointer (some ⟨g,0,none⟩)
 | .func f=>.func (.func f) #[] #[]
theorem asf(σ:Nat→Value)(t:Nat)(v:Value):upd σ t v t=v:=by simp[upd,Nat.beq_eq]
theorem aiR{σ:Nat→Value}{t:Nat}{v:Value}(h:σ t=v):upd σ t v=σ:=by
 funext u;unfold upd;by_cases e:u=t
 ·subst e;rw[show Nat.beq u u=true by simp[Nat.beq_eq]];exact h.symm
 ·rw[show Nat.beq u t=false by rw[←Bool.not_eq_true];simpa[Nat.beq_eq] using e];rfl
theorem asX{t n:Nat}(h:t<n):Nat.blt t n=true:=by simp only[Nat.blt,Nat.ble_eq];omega
theorem axe{t n:Nat}(h : ¬t<n):Nat.blt t n=false:=by
 rw[←Bool.not_eq_true];simp only[Nat.blt,Nat.ble_eq];omega
theorem ayO(t:Nat):Nat.beq t t=true:=by simp[Nat.beq_eq]
theorem ax2{t u:Nat}(h : ¬t=u):Nat.beq t u=false:=by
 rw[←Bool.not_eq_true];simpa[Nat.beq_eq] using h
theorem afT(n:Nat)(σ:Nat→Value)(t:Nat):(fr n σ).tmps[t]?=if t<n then some (σ t) else none:=by
 unfold fr;by_cases h:t<n<;>simp[h]
theorem abj(n:Nat)(σ:Nat→Value):(fr n σ).eval=ev n σ:=by
 funext x;cases x with
 | tmp t =>
  have h1:(fr n σ).eval (.tmp t)=((fr n σ).tmps[t]?).getD undef:=by simp[Act.eval,Array.getD_eq_getD_getElem?]
  rw[h1,afT];show _=cond (Nat.blt t n) (σ t) undef;by_cases h:t<n
  ·rw[if_pos h,asX h];rfl
  ·rw[if_neg h,axe h];rfl
 | _=>rfl
theorem acA(n:Nat)(σ:Nat→Value)(t:Nat)(v:Value):(fr n σ).put (some t) v=fr n (upd σ t v):=by
 have h:((fr n σ).put (some t) v).tmps=(fr n (upd σ t v)).tmps:=by
  apply Array.ext_getElem?;intro i;rw[afT];show ((fr n σ).tmps.setIfInBounds t v)[i]?=_;have hsz:(fr n σ).tmps.size=n:=by simp[fr]
  rw[Array.getElem?_setIfInBounds,afT,hsz];unfold upd;by_cases e:t=i
  ·subst e;rw[if_pos rfl,ayO];rfl
  ·rw[if_neg e,ax2 (fun x=>e x.symm)];rfl
 show Act.mk _ _=Act.mk _ _;congr 1
theorem aeH(args:Array Value)(k:Nat):(⟨args++Array.replicate k undef,[]⟩:Act)=fr (args.size+k) (fun t=>args.getD t undef):=by
 unfold fr;simp only[Act.mk.injEq,and_true];apply Array.ext
 ·simp
 ·intro i h1 h2;simp only[Array.getElem_map,Array.getElem_range];by_cases e:i<args.size
  ·simp[Array.getElem_append,e,Array.getD]
  ·simp[Array.getElem_append,e,Array.getD]
theorem aeu{n:Nat}{σ:Nat→Value}{d:Nat}{b:Bool}(h:ev n σ (.tmp d)=.bool b):(fr n σ).tmps[d]?=some (.bool b):=by
 rw[afT];simp only[ev] at h;by_cases e:d<n
 ·rw[asX e] at h;rw[if_pos e];exact congrArg some h
 ·rw[axe e] at h;simp[undef] at h
section steps
variable {P:Program}{ops:Array Oper}{Q:Exit→Act→World→Prop}{rest:List Oper}{n:Nat}{σ:Nat→Value}{w w' : World}{ty:TypeId}{pos:String}{aft:Array Edge}
theorem aaO{t:Tmp}{op:Op}{v:Value}(hr:(execOp (ev n σ) ⟨some t,op,ty,pos,aft,none⟩).run P w=.ok (.value v) w')
  (h:wpList P ops Q rest (fr n (upd σ t v)) w'):wpList P ops Q (⟨some t,op,ty,pos,aft,none⟩::rest) (fr n σ) w:=by
 refine wpList_plain rfl fun K hK=>?_
 unfold Oper.wp;rw[abj,hr];exact hK _ _ (by rw[acA];exact h)
theorem amc{op:Op}(hr:(execOp (ev n σ) ⟨none,op,ty,pos,aft,none⟩).run P w=.ok .skip w')
  (h:wpList P ops Q rest (fr n σ) w'):wpList P ops Q (⟨none,op,ty,pos,aft,none⟩::rest) (fr n σ) w:=by
 refine wpList_plain rfl fun K hK=>?_
 unfold Oper.wp;rw[abj,hr];exact hK _ _ h
theorem av4{dst:Option Tmp}{op:Op}{j:Nat}{b:Bool}{d:Tmp}(hj:(ops[j]?).bind (·.dst)=some d)(hb:ev n σ (.tmp d)=.bool b)
  (h:wpList P ops Q (⟨dst,op,ty,pos,aft,none⟩::rest) (fr n σ) w):wpList P ops Q (⟨dst,op,ty,pos,aft,some (j,b)⟩::rest) (fr n σ) w:=by
 have hy:yielded ops (fr n σ).tmps j=some b:=by
  simp[yielded,hj,aeu hb]
 unfold wpList at h ⊢;rw[if_pos (by simp[Region.wanted])] at h;rw[if_pos (by simp[Region.wanted,hy])];exact h
theorem at5{t:Tmp}{op:Op}{j:Nat}{b:Bool}{d:Tmp}(hj:(ops[j]?).bind (·.dst)=some d)(hb:ev n σ (.tmp d)=.bool (!b))
  (h:wpList P ops Q rest (fr n (upd σ t undef)) w):wpList P ops Q (⟨some t,op,ty,pos,aft,some (j,b)⟩::rest) (fr n σ) w:=by
 have hy:yielded ops (fr n σ).tmps j=some (!b):=by
  simp[yielded,hj,aeu hb]
 unfold wpList;rw[if_neg (by simp[Region.wanted,hy])];rw[acA];exact h
theorem avO{t:Tmp}{op:Op}{j:Nat}{b:Bool}{d:Tmp}(hj:(ops[j]?).bind (·.dst)=some d)(hb:ev n σ (.tmp d)=undef)
  (h:wpList P ops Q rest (fr n (upd σ t undef)) w):wpList P ops Q (⟨some t,op,ty,pos,aft,some (j,b)⟩::rest) (fr n σ) w:=by
 have hy:yielded ops (fr n σ).tmps j=none:=by
  have:(fr n σ).tmps[d]?=some undef∨(fr n σ).tmps[d]?=none:=by
   rw[afT];by_cases e:d<n
   ·simp only[ev,asX e] at hb;rw[if_pos e];exact .inl (congrArg some hb)
   ·rw[if_neg e];exact .inr rfl
  rcases this with e | e<;>simp[yielded,hj,e,undef]
 unfold wpList;rw[if_neg (by simp[Region.wanted,hy])];rw[acA];exact h
end steps
abbrev KH:=Nat→Option Obj
def KH.sub(K K' : KH):Prop:=∀b o,K b=some o→K' b=some o
def KH.le(K:KH)(w:World):Prop:=∀b o,K b=some o→w.heap[b]?=some o
def KH.cell(K:KH)(b i:Nat):Option Value:=match K b with | some (.cells c _ _)=>c[i]? | _=>none
theorem KH.sub.refl(K:KH):K.sub K:=fun _ _ h=>h
theorem KH.sub.trans{A B C:KH}(h:A.sub B)(k:B.sub C):A.sub C:=fun b o x=>k b o (h b o x)
theorem KH.sub.cell{K K' : KH}(h:K.sub K'){b i:Nat}{v:Value}(hc:K.cell b i=some v):K'.cell b i=some v:=by
 unfold KH.cell at hc ⊢;cases e:K b with
 | none=>rw[e] at hc;cases hc
 | some o=>rw[h b o e];rw[e] at hc;exact hc
theorem KH.le.cell{K:KH}{w:World}(h:K.le w){b i:Nat}{v:Value}(hc:K.cell b i=some v):w.cell? ⟨b,i,none⟩=some v:=by
 unfold KH.cell at hc;cases e:K b with
 | none=>rw[e] at hc;cases hc
 | some o =>
  rw[e] at hc;have:=h b o e;cases o<;>simp at hc
  simp only[World.cell?,this];simpa using hc
def KH.put(K:KH)(b:Nat)(o:Obj):KH:=fun i=>if i=b then some o else K i
theorem KH.sub_put{K:KH}{b:Nat}{o:Obj}(h:K b=none):K.sub (K.put b o):=by
 intro i x hi;unfold KH.put;by_cases e:i=b
 ·subst e;rw[h] at hi;cases hi
 ·rw[if_neg e];exact hi
def adZ(f:Nat→Option Value)(o:Nat)(cs:List Value):Prop:=∀j v,cs[j]?=some v→f (o+j)=some v
def Row(α:Type)(R:α→List Value→Prop)(size:Nat)(K:KH)(A:Option Addr)(xs:List α):Prop :=
 ∃(b o:Nat) (cs:Nat→List Value),(xs≠[]→A=some ⟨b,o,none⟩)∧(∀i,i<xs.length→(cs i).length=size∧adZ (K.cell b) (o+i*size) (cs i))∧∀i x,xs[i]?=some x→R x (cs i)
theorem Row.mono{α:Type}{R R' : α→List Value→Prop}{size:Nat}{K K' : KH}{A:Option Addr}{xs:List α}(h:Row α R size K A xs)(hK:K.sub K')(hR : ∀x cs,R x cs→R' x cs):Row α R' size K' A xs:=by
 obtain⟨b,o,cs,h1,h2,h3⟩:=h;exact⟨b,o,cs,h1,fun i hi=>⟨(h2 i hi).1,fun j v hj=>hK.cell ((h2 i hi).2 j v hj)⟩,fun i x hx=>hR _ _ (h3 i x hx)⟩
theorem Row.nil{α:Type}(R:α→List Value→Prop)(size:Nat)(K:KH)(A:Option Addr):Row α R size K A []:=⟨0,0,fun _=>[],fun h=>absurd rfl h,fun i hi=>absurd hi (by simp),fun i x hx=>by simp at hx⟩
theorem Row.at_{α:Type}{R:α→List Value→Prop}{size:Nat}{K:KH}{A:Option Addr}{xs:List α}(h:Row α R size K A xs){i:Nat}{x:α}(hx:xs[i]?=some x) :
  ∃b o cs,A=some ⟨b,o,none⟩∧cs.length=size∧adZ (K.cell b) (o+i*size) cs∧R x cs:=by
 obtain⟨b,o,cs,h1,h2,h3⟩:=h;have hi:i<xs.length:=(List.getElem?_eq_some_iff.1 hx).1;exact⟨b,o,cs i,h1 (by intro e;subst e;simp at hx),(h2 i hi).1,(h2 i hi).2,h3 i x hx⟩
inductive Ent where
 | box (base b:Nat) (cs:Array Value) (t:TypeId)
 | row (base:Nat) (v:Value) (e:TypeId) (size n:Nat) (xs:List Value)
 | mp (base b:Nat) (es:Array MapEntry) (clock:Nat)
 | stk (base:Nat) (v:Value) (e:TypeId) (n:Nat) (ms:List (Nat×Array MapEntry×Nat))
 | raw (base b:Nat) (o:Obj)
def Ent.blk:Ent→Option Nat
 | .box _ b _ _=>some b
 | .row _ v _ _ _ _=>v.ownBlock
 | .mp _ b _ _=>some b
 | .stk _ _ _ _ _=>none
 | .raw _ b _=>some b
def Ent.bl:Ent→List Nat
 | .box _ b _ _=>[b]
 | .row _ v _ _ _ _=>v.ownBlock.toList
 | .mp _ b _ _=>[b]
 | .stk _ v _ _ ms=>v.ownBlock.toList++ms.map (·.1)
 | .raw _ b _=>[b]
def Ent.holds(w:World):Ent→Prop
 | .box base b cs t=>w.heap[b]?=some (.cells cs t (0,0))∧base≤b
 | .row base v e size n xs=>w.ownsRow base e size v n xs
 | .mp base b es clock=>w.heap[b]?=some (.map es clock)∧base≤b
 | .stk base v e n ms=>w.ownsRow base e 1 v n (ms.map fun m=>.map (some m.1))∧∀m∈ms,w.heap[m.1]?=some (.map m.2.1 m.2.2)∧base≤m.1
 | .raw base b o=>w.heap[b]?=some o∧base≤b
abbrev Ents:=List Ent
def Ents.blks(H:Ents):List Nat:=H.flatMap Ent.bl
structure Sx(K0 K:KH)(w0 w:World)(M:Nat→Prop)(H:Ents):Prop where
 sub:K0.sub K
 fresh : ∀b,K0 b=none→K b≠none→w0.heap.size≤b
 le:K.le w
 ext : ∀b,b<w0.heap.size→¬M b→w.heap[b]?=w0.heap[b]?
 size:w0.heap.size≤w.heap.size
 os:w.os=w0.os
 tape:w.tape=w0.tape
 output:w.output=w0.output
 ents : ∀e∈H,e.holds w
 free : ∀b∈H.blks,K b=none∧(M b∨w0.heap.size≤b)
 nodup:H.blks.Nodup
theorem KH.le.lt{K:KH}{w:World}(h:K.le w){b:Nat}(hb:K b≠none):b<w.heap.size:=by
 cases e:K b with
 | none=>exact absurd e hb
 | some o=>exact (Array.getElem?_eq_some_iff.1 (h b o e)).1
theorem aiX{w:World}{base e size n:Nat}{v:Value}{xs:List Value}(h:w.ownsRow base e size v n xs){b:Nat}(hb:v.ownBlock=some b):b<w.heap.size:=by
 rcases h.2 with ⟨rfl,_⟩ | ⟨g,cap,cur,rfl,_,hh,_⟩
 ·simp[Value.ownBlock] at hb
 ·have:g=b:=by simpa[Value.ownBlock] using hb
  subst this;exact (Array.getElem?_eq_some_iff.1 hh).1
theorem agi{w w' : World}{base e size n:Nat}{v:Value}{xs:List Value}(h:w.ownsRow base e size v n xs)(hk : ∀b,v.ownBlock=some b→w'.heap[b]?=w.heap[b]?):w'.ownsRow base e size v n xs:=by
 refine⟨h.1,?_⟩;rcases h.2 with h1 | ⟨g,cap,cur,rfl,hb,hh,h3⟩
 ·exact .inl h1
 ·exact .inr ⟨g,cap,cur,rfl,hb,(hk g rfl).trans hh,h3⟩
theorem Ent.bl_lt{w:World}{e:Ent}(h:e.holds w){b:Nat}(hb:b∈e.bl):b<w.heap.size:=by
 cases e with
 | box base b' cs t =>
  simp only[Ent.bl,List.mem_singleton] at hb;subst hb;exact (Array.getElem?_eq_some_iff.1 h.1).1
 | row base v e size n xs=>exact aiX h (by simpa[Ent.bl] using hb)
 | mp base b' es c =>
  simp only[Ent.bl,List.mem_singleton] at hb;subst hb;exact (Array.getElem?_eq_some_iff.1 h.1).1
 | raw base b' o =>
  simp only[Ent.bl,List.mem_singleton] at hb;subst hb;exact (Array.getElem?_eq_some_iff.1 h.1).1
 | stk base v e n ms =>
  rcases List.mem_append.1 hb with hb | hb
  ·exact aiX h.1 (by simpa using hb)
  ·obtain⟨m,hm,rfl⟩:=List.mem_map.1 hb;exact (Array.getElem?_eq_some_iff.1 (h.2 m hm).1).1
theorem Ent.holds_of{w w' : World}{e:Ent}(h:e.holds w)(hk : ∀b,b∈e.bl→w'.heap[b]?=w.heap[b]?):e.holds w':=by
 cases e with
 | box base b cs t=>exact⟨(hk b (by simp[Ent.bl])).trans h.1,h.2⟩
 | row base v e size n xs=>exact agi h fun b hb=>hk b (by simp[Ent.bl,hb])
 | mp base b es c=>exact⟨(hk b (by simp[Ent.bl])).trans h.1,h.2⟩
 | raw base b o=>exact⟨(hk b (by simp[Ent.bl])).trans h.1,h.2⟩
 | stk base v e n ms =>
  exact⟨agi h.1 fun b hb=>hk b (by simp[Ent.bl,hb]),fun m hm=>⟨(hk m.1 (List.mem_append_right _ (List.mem_map.2 ⟨m,hm,rfl⟩))).trans (h.2 m hm).1,(h.2 m hm).2⟩⟩
theorem Ents.mem_blks{H:Ents}{e:Ent}(h:e∈H){b:Nat}(hb:b∈e.bl):b∈H.blks:=List.mem_flatMap.2 ⟨e,h,hb⟩
theorem Sx.lt{K0 K:KH}{w0 w:World}{M:Nat→Prop}{H:Ents}(S:Sx K0 K w0 w M H){b:Nat}(hb:b∈H.blks):b<w.heap.size:=by
 obtain⟨e,he,h⟩:=List.mem_flatMap.1 hb;exact Ent.bl_lt (S.ents e he) h
theorem Sx.cell{K0 K:KH}{w0 w:World}{M:Nat→Prop}{H:Ents}(S:Sx K0 K w0 w M H){b i:Nat}{v:Value}(h:K.cell b i=some v):w.cell? ⟨b,i,none⟩=some v:=S.le.cell h
theorem Sx.start{K0 K:KH}{w0 w:World}{M:Nat→Prop}{H:Ents}(S:Sx K0 K w0 w M H):Sx K K w w (fun b=>b∈H.blks) H :=
 ⟨KH.sub.refl _,fun b h k=>absurd h k,S.le,fun _ _ _=>rfl,Nat.le_refl _,rfl,rfl,rfl,S.ents,fun b hb=>⟨(S.free b hb).1,.inl hb⟩,S.nodup⟩
theorem Sx.start0{K:KH}{w:World}(h:K.le w):Sx K K w w (fun _=>False) [] :=
 ⟨KH.sub.refl _,fun b h k=>absurd h k,h,fun _ _ _=>rfl,Nat.le_refl _,rfl,rfl,rfl,by simp,by simp[Ents.blks],by simp[Ents.blks]⟩
theorem Ents.blks_sub : ∀{A B:Ents},A.Sublist B→(Ents.blks A).Sublist (Ents.blks B)
 | _,_,.slnil=>.slnil
 | _,_,.cons a h=>by
  unfold Ents.blks;rw[List.flatMap_cons];exact (Ents.blks_sub h).trans (List.sublist_append_right _ _)
 | _,_,.cons_cons a h=>by
  unfold Ents.blks;rw[List.flatMap_cons,List.flatMap_cons];exact (List.Sublist.refl _).append (Ents.blks_sub h)
theorem Sx.part{K0 K:KH}{w0 w:World}{M:Nat→Prop}{H:Ents}(S:Sx K0 K w0 w M H)(H1:Ents)(hs:H1.Sublist H):Sx K K w w (fun b=>b∈H1.blks) H1:=by
 have hb:H1.blks.Sublist H.blks:=Ents.blks_sub hs;exact⟨KH.sub.refl _,fun b h k=>absurd h k,S.le,fun _ _ _=>rfl,Nat.le_refl _,rfl,rfl,rfl,fun e he=>S.ents e (hs.subset he),fun b hb'=>⟨(S.free b (hb.subset hb')).1,.inl hb'⟩,S.nodup.sublist hb⟩
theorem Sx.call{K0 K K1:KH}{w0 w w1:World}{M:Nat→Prop}{H1 H2 H1' : Ents}(S:Sx K0 K w0 w M (H1++H2))(T:Sx K K1 w w1 (fun b=>b∈Ents.blks H1) H1'):Sx K0 K1 w0 w1 M (H1'++H2):=by
 have happ : ∀A B:Ents,Ents.blks (A++B)=A.blks++B.blks:=fun A B=>List.flatMap_append
 have hn:=S.nodup;rw[happ,List.nodup_append] at hn;obtain⟨hn1,hn2,hn3⟩:=hn;have hold : ∀b∈H2.blks,b<w.heap.size∧w1.heap[b]?=w.heap[b]?:=by
  intro b hb;have hlt:b<w.heap.size:=S.lt (by rw[happ];exact List.mem_append_right _ hb);exact⟨hlt,T.ext b hlt (fun h=>hn3 b h b hb rfl)⟩
 refine⟨S.sub.trans T.sub,?_,T.le,?_,Nat.le_trans S.size T.size,T.os.trans S.os,T.tape.trans S.tape,T.output.trans S.output,?_,?_,?_⟩
 ·intro b h0 h1;cases e:K b with
  | none=>exact Nat.le_trans S.size (T.fresh b e h1)
  | some o=>exact S.fresh b h0 (by rw[e];simp)
 ·intro b hb hM;have hb' : b<w.heap.size:=Nat.lt_of_lt_of_le hb S.size;rw[T.ext b hb' (fun h=>?_)]
  ·exact S.ext b hb hM
  ·rcases (S.free b (by rw[happ];exact List.mem_append_left _ h)).2 with h2 | h2
   ·exact hM h2
   ·omega
 ·intro e he;rcases List.mem_append.1 he with he | he
  ·exact T.ents e he
  ·exact Ent.holds_of (S.ents e (List.mem_append_right _ he)) fun b hb=>(hold b (Ents.mem_blks he hb)).2
 ·intro b hb;rw[happ] at hb;rcases List.mem_append.1 hb with hb | hb
  ·refine⟨(T.free b hb).1,?_⟩;rcases (T.free b hb).2 with h | h
   ·exact (S.free b (by rw[happ];exact List.mem_append_left _ h)).2
   ·exact .inr (Nat.le_trans S.size h)
  ·have h2:=S.free b (by rw[happ];exact List.mem_append_right _ hb);refine⟨?_,h2.2⟩;cases e:K1 b with
   | none=>rfl
   | some o =>
    have:=T.fresh b h2.1 (by rw[e];simp);have:=(hold b hb).1;omega
 ·rw[happ,List.nodup_append];refine⟨T.nodup,hn2,fun a ha b hb e=>?_⟩;subst e;have hlt:=(hold a hb).1;rcases (T.free a ha).2 with h | h
  ·exact hn3 a h a hb rfl
  ·omega
theorem Ents.blks_app(A B:Ents):Ents.blks (A++B)=A.blks++B.blks:=List.flatMap_append
theorem Sx.same{K0 K:KH}{w0 w w' : World}{M:Nat→Prop}{H:Ents}(S:Sx K0 K w0 w M H)(hb : ∀b,b<w.heap.size→w'.heap[b]?=w.heap[b]?)(hs:w.heap.size≤w'.heap.size)(ho:w'.os=w.os)(ht:w'.tape=w.tape)(hp:w'.output=w.output):Sx K0 K w0 w' M H :=
 ⟨S.sub,S.fresh,fun b o h=>(hb b (S.le.lt (by rw[h];simp))).trans (S.le b o h),fun b h k=>(hb b (Nat.lt_of_lt_of_le h S.size)).trans (S.ext b h k),Nat.le_trans S.size hs,ho.trans S.os,ht.trans S.tape,hp.trans S.output,
  fun e he=>Ent.holds_of (S.ents e he) fun b h=>hb b (S.lt (Ents.mem_blks he h)),S.free,S.nodup⟩
theorem ai3(w:World)(o:Obj)(b:Nat)(h:b<w.heap.size):(w.alloc o).heap[b]?=w.heap[b]?:=by
 show (w.heap.push o)[b]?=_;rw[Array.getElem?_push,if_neg (Nat.ne_of_lt h)]
theorem adT(w:World)(o:Obj):(w.alloc o).heap[w.heap.size]?=some o:=by
 show (w.heap.push o)[_]?=_;rw[Array.getElem?_push,if_pos rfl]
theorem Sx.alloc{K0 K:KH}{w0 w:World}{M:Nat→Prop}{H:Ents}(S:Sx K0 K w0 w M H)(o:Obj):Sx K0 K w0 (w.alloc o) M H :=
 S.same (ai3 w o) (by simp) rfl rfl rfl
theorem Sx.drew{K0 K:KH}{w0 w:World}{M:Nat→Prop}{H:Ents}(S:Sx K0 K w0 w M H):Sx K0 K w0 w.drew M H :=
 S.same (fun _ _=>rfl) (Nat.le_refl _) rfl rfl rfl
theorem Sx.box_{K0 K:KH}{w0 w:World}{M:Nat→Prop}{H:Ents}(S:Sx K0 K w0 w M H)(cs:Array Value)(t:TypeId):Sx K0 K w0 (w.alloc (.cells cs t)) M (.box w0.heap.size w.heap.size cs t::H):=by
 have T:=S.alloc (.cells cs t);refine⟨T.sub,T.fresh,T.le,T.ext,T.size,T.os,T.tape,T.output,?_,?_,?_⟩
 ·intro e he;rcases List.mem_cons.1 he with rfl | he
  ·exact⟨adT w _,S.size⟩
  ·exact T.ents e he
 ·intro b hb;rcases List.mem_cons.1 (show b∈w.heap.size::H.blks from hb) with rfl | hb
  ·refine⟨?_,.inr S.size⟩;cases e:K w.heap.size with
   | none=>rfl
   | some o=>exact absurd (S.le.lt (b:=w.heap.size) (by rw[e];simp)) (Nat.lt_irrefl _)
  ·exact T.free b hb
 ·show (w.heap.size::H.blks).Nodup;exact List.nodup_cons.2 ⟨fun h=>absurd (S.lt h) (Nat.lt_irrefl _),S.nodup⟩
theorem Sx.raw_{K0 K:KH}{w0 w:World}{M:Nat→Prop}{H:Ents}(S:Sx K0 K w0 w M H)(o:Obj):Sx K0 K w0 (w.alloc o) M (.raw w0.heap.size w.heap.size o::H):=by
 have T:=S.alloc o;refine⟨T.sub,T.fresh,T.le,T.ext,T.size,T.os,T.tape,T.output,?_,?_,?_⟩
 ·intro e he;rcases List.mem_cons.1 he with rfl | he
  ·exact⟨adT w _,S.size⟩
  ·exact T.ents e he
 ·intro b hb;rcases List.mem_cons.1 (show b∈w.heap.size::H.blks from hb) with rfl | hb
  ·refine⟨?_,.inr S.size⟩;cases e:K w.heap.size with
   | none=>rfl
   | some _=>exact absurd (S.le.lt (b:=w.heap.size) (by rw[e];simp)) (Nat.lt_irrefl _)
  ·exact T.free b hb
 ·show (w.heap.size::H.blks).Nodup;exact List.nodup_cons.2 ⟨fun h=>absurd (S.lt h) (Nat.lt_irrefl _),S.nodup⟩
theorem Sx.turnG{K0 K:KH}{w0 w w' : World}{M:Nat→Prop}{A B:Ents}{e e' : Ent}(S:Sx K0 K w0 w M (A++e::B))(hg : ∀b,b<w.heap.size→b∉e.bl→w'.heap[b]?=w.heap[b]?)(hs:w.heap.size≤w'.heap.size)(ho:w'.os=w.os)(ht:w'.tape=w.tape)(hp:w'.output=w.output)
  (he:e'.holds w') (hb : ∀b∈e'.bl,b∈e.bl∨w.heap.size≤b) (hn' : e'.bl.Nodup):Sx K0 K w0 w' M (A++e'::B):=by
 have hin : ∀b,b∈e.bl→b∈Ents.blks (A++e::B):=fun b h=>Ents.mem_blks (by simp) h
 have hK : ∀b,K b≠none→w'.heap[b]?=w.heap[b]?:=fun b h=>hg b (S.le.lt h) fun h'=>h ((S.free b (hin b h')).1)
 have hn:=S.nodup;unfold Ents.blks at hn;rw[List.flatMap_append,List.flatMap_cons,List.nodup_append,List.nodup_append] at hn;obtain⟨hnA,⟨hne,hnB,hneB⟩,hnAB⟩:=hn;have hother : ∀x,x∈A++B→∀b,b∈x.bl→b<w.heap.size∧b∉e.bl:=by
  intro x hx b hxb;have hx' : x∈A++e::B:=by
   rcases List.mem_append.1 hx with h | h
   ·exact List.mem_append_left _ h
   ·exact List.mem_append_right _ (List.mem_cons_of_mem _ h)
  refine⟨S.lt (Ents.mem_blks hx' hxb),fun heb=>?_⟩;rcases List.mem_append.1 hx with h | h
  ·exact hnAB b (List.mem_flatMap.2 ⟨x,h,hxb⟩) b (List.mem_append_left _ heb) rfl
  ·exact hneB b heb b (List.mem_flatMap.2 ⟨x,h,hxb⟩) rfl
 have hKn : ∀b,w.heap.size≤b→K b=none:=fun b h=>by
  cases e2:K b with
  | none=>rfl
  | some o=>exact absurd (S.le.lt (b:=b) (by rw[e2];simp)) (by omega)
 refine⟨S.sub,S.fresh,fun b o h=>(hK b (by rw[h];simp)).trans (S.le b o h),?_,Nat.le_trans S.size hs,ho.trans S.os,ht.trans S.tape,hp.trans S.output,?_,?_,?_⟩
 ·intro b h hM;have hlt:b<w.heap.size:=Nat.lt_of_lt_of_le h S.size;rw[hg b hlt (fun h'=>?_)]
  ·exact S.ext b h hM
  ·rcases (S.free b (hin b h')).2 with k | k
   ·exact hM k
   ·omega
 ·intro x hx;rcases List.mem_append.1 hx with hx | hx
  ·exact Ent.holds_of (S.ents x (List.mem_append_left _ hx)) fun b hxb=>hg b (hother x (List.mem_append_left _ hx) b hxb).1 (hother x (List.mem_append_left _ hx) b hxb).2
  ·rcases List.mem_cons.1 hx with rfl | hx
   ·exact he
   ·exact Ent.holds_of (S.ents x (List.mem_append_right _ (List.mem_cons_of_mem _ hx))) fun b hxb=>hg b (hother x (List.mem_append_right _ hx) b hxb).1 (hother x (List.mem_append_right _ hx) b hxb).2
 ·intro b hbm;obtain⟨x,hx,hxb⟩:=List.mem_flatMap.1 hbm;have old:x∈A++e::B→K b=none∧(M b∨w0.heap.size≤b):=fun h=>S.free b (Ents.mem_blks h hxb)
  rcases List.mem_append.1 hx with hx | hx
  ·exact old (List.mem_append_left _ hx)
  ·rcases List.mem_cons.1 hx with rfl | hx
   ·rcases hb b hxb with h | h
    ·exact S.free b (hin b h)
    ·exact⟨hKn b h,.inr (Nat.le_trans S.size h)⟩
   ·exact old (List.mem_append_right _ (List.mem_cons_of_mem _ hx))
 ·unfold Ents.blks;rw[List.flatMap_append,List.flatMap_cons,List.nodup_append,List.nodup_append];have hfar : ∀x,x∈A++B→∀b,b∈x.bl→b∉e'.bl:=fun x hx b hxb h=>by
   rcases hb b h with h | h
   ·exact (hother x hx b hxb).2 h
   ·exact absurd (hother x hx b hxb).1 (by omega)
  refine⟨hnA,⟨hn',hnB,fun a ha c hc hac=>?_⟩,fun a ha c hc hac=>?_⟩
  ·subst hac;obtain⟨x,hx,hxb⟩:=List.mem_flatMap.1 hc;exact hfar x (List.mem_append_right _ hx) a hxb ha
  ·subst hac;rcases List.mem_append.1 hc with hc | hc
   ·obtain⟨x,hx,hxb⟩:=List.mem_flatMap.1 ha;exact hfar x (List.mem_append_left _ hx) a hxb hc
   ·exact hnAB a ha a (List.mem_append_right _ hc) rfl
theorem alX{α:Type}(o:Option α):o.toList.Nodup:=by cases o<;>simp
theorem Sx.turn{K0 K:KH}{w0 w w' : World}{M:Nat→Prop}{A B:Ents}{e e' : Ent}(S:Sx K0 K w0 w M (A++e::B))(hg : ∀b,b<w.heap.size→e.blk≠some b→w'.heap[b]?=w.heap[b]?)(hs:w.heap.size≤w'.heap.size)(ho:w'.os=w.os)(ht:w'.tape=w.tape)(hp:w'.output=w.output)
  (he:e'.holds w') (hb:e'.blk=e.blk∨e'.blk=some w.heap.size) (h1:e.bl=e.blk.toList:=by rfl) (h2:e'.bl=e'.blk.toList:=by rfl):Sx K0 K w0 w' M (A++e'::B):=by
 refine S.turnG (fun b h k=>hg b h fun h'=>k (by rw[h1,h'];simp)) hs ho ht hp he (fun b h=>?_) (by rw[h2];exact alX _);rw[h2] at h;rcases hb with hb | hb
 ·exact .inl (by rw[h1,←hb];exact h)
 ·rw[hb] at h;simp at h;exact .inr (by omega)
theorem Sx.row_{K0 K:KH}{w0 w:World}{M:Nat→Prop}{H:Ents}(S:Sx K0 K w0 w M H)(base:Nat)(e:TypeId)(size:Nat):Sx K0 K w0 w M (.row base (.slice none 0 0) e size 0 []::H) :=
 ⟨S.sub,S.fresh,S.le,S.ext,S.size,S.os,S.tape,S.output,fun x hx=>by
  rcases List.mem_cons.1 hx with rfl | hx
  ·exact⟨by simp,.inl ⟨rfl,rfl⟩⟩
  ·exact S.ents x hx,S.free,S.nodup⟩
theorem Sx.drop{K0 K:KH}{w0 w:World}{M:Nat→Prop}{H H' : Ents}(S:Sx K0 K w0 w M H)(h:H'.Sublist H):Sx K0 K w0 w M H' :=
 ⟨S.sub,S.fresh,S.le,S.ext,S.size,S.os,S.tape,S.output,fun e he=>S.ents e (h.subset he),fun b hb=>S.free b ((Ents.blks_sub h).subset hb),S.nodup.sublist (Ents.blks_sub h)⟩
theorem Sx.freeze{K0 K:KH}{w0 w:World}{M:Nat→Prop}{A B:Ents}{e:Ent}(S:Sx K0 K w0 w M (A++e::B)){b:Nat}(hb:e.blk=some b)(hw:w0.heap.size≤b){o:Obj}(ho:w.heap[b]?=some o)(h1:e.bl=e.blk.toList:=by rfl):Sx K0 (K.put b o) w0 w M (A++B)∧K.sub (K.put b o):=by
 have hbl:e.bl=[b]:=by rw[h1,hb];rfl
 have hin:b∈Ents.blks (A++e::B):=Ents.mem_blks (e:=e) (by simp) (by rw[hbl];simp);have hs:K.sub (K.put b o):=KH.sub_put (S.free b hin).1;have hn:=S.nodup;unfold Ents.blks at hn;rw[List.flatMap_append,List.flatMap_cons,hbl,List.nodup_append] at hn;have hsub:(A++B).Sublist (A++e::B):=(List.Sublist.refl _).append (List.sublist_cons_self _ _);have T:=S.drop hsub;refine⟨⟨S.sub.trans hs,?_,?_,S.ext,S.size,S.os,S.tape,S.output,T.ents,?_,T.nodup⟩,hs⟩
 ·intro i h0 h1;unfold KH.put at h1;by_cases e' : i=b
  ·subst e';exact hw
  ·rw[if_neg e'] at h1;exact S.fresh i h0 h1
 ·intro i x hx;unfold KH.put at hx;by_cases e' : i=b
  ·subst e';rw[if_pos rfl] at hx;cases hx;exact ho
  ·rw[if_neg e'] at hx;exact S.le i x hx
 ·intro i hi;refine⟨?_,(T.free i hi).2⟩;unfold KH.put;rw[if_neg]
  ·exact (T.free i hi).1
  ·rintro rfl;obtain⟨x,hx,hxb⟩:=List.mem_flatMap.1 hi;rcases List.mem_append.1 hx with h | h
   ·exact hn.2.2 i (List.mem_flatMap.2 ⟨x,h,hxb⟩) i (by simp) rfl
   ·exact (List.nodup_cons.1 hn.2.1).1 (List.mem_flatMap.2 ⟨x,h,hxb⟩)
def AggB(P:Program)(t:TypeId):Option Bool:=match P.underlying t with | some (.struct _) | some (.array _ _)=>some true | some _=>some false | none=>none
def aaF(P:Program)(t:TypeId):Option Nat:=(P.info? t).map (·.size)
def ad7(P:Program)(t:TypeId):Option Value:=(P.info? t).bind (·.zero)
def aca(P:Program)(s f:Nat):Option Nat:=match P.underlying s with
 | some (.struct fs)=>(fs[f]?).bind fun fd=>match aaF P fd.type with | some 0=>none | some _=>some fd.offset | none=>none
 | _=>none
def abg(P:Program)(t:TypeId):Option Nat:=match P.underlying t with | some (.slice e)=>some e | _=>none
def StrB(P:Program)(t:TypeId):Bool:=match P.underlying t with | some .string=>true | _=>false
def acK(P:Program)(f:FuncId):Bool:=match P.funcs[f]? with | some fn=>fn.name != "runtime.NumGoroutine" && fn.body.isSome | none=>false
section
variable {P:Program}{w:World}{t:TypeId}
theorem abu{e:Nat}(h:abg P t=some e):P.underlying t=some (.slice e):=by
 unfold abg at h;split at h<;>simp_all
theorem ahq(h:StrB P t=true):P.underlying t=some .string:=by
 unfold StrB at h;split at h<;>simp_all
theorem adp{b:Bool}(h:AggB P t=some b):(isAgg t).run P w=.ok b w:=by
 unfold AggB at h;unfold isAgg;cases e:P.underlying t with
 | none=>rw[e] at h;simp at h
 | some d =>
  simp only[Sem.run_bind,run_underlying e,Result.andThen_ok];rw[e] at h;cases d<;>simp_all
theorem aef{i:TypeInfo}(h:P.info? t=some i):(typeInfo t).run P w=.ok i w:=by
 simp[typeInfo,h]
theorem abf{n:Nat}(h:aaF P t=some n):(sizeOf t).run P w=.ok n w:=by
 unfold aaF at h;cases e:P.info? t with
 | none=>rw[e] at h;simp at h
 | some i =>
  rw[e] at h;simp only[sizeOf,Sem.run_bind,aef e,Result.andThen_ok,Sem.run_pure];simp at h;rw[h]
theorem ab1{v:Value}(h:ad7 P t=some v):(zeroValue t).run P w=.ok v w:=by
 unfold ad7 at h;cases e:P.info? t with
 | none=>rw[e] at h;simp at h
 | some i =>
  rw[e] at h;simp at h;simp[zeroValue,aef e,h]
theorem aeR(b o i:Nat):(⟨b,o,none⟩:Addr).add i=⟨b,o+i,none⟩:=by
 unfold Addr.add;split
 ·subst_vars;rfl
 ·rfl
end
section steps
variable {P:Program}{ops:Array Oper}{Q:Exit→Act→World→Prop}{rest:List Oper}{n:Nat}{σ:Nat→Value}{w:World}{ty:TypeId}{pos:String}{aft:Array Edge}{t:Tmp}
theorem mv_r{x:Operand}{v:Value}(hx:ev n σ x=v):(execOp (ev n σ) ⟨some t,.move x,ty,pos,aft,none⟩).run P w=.ok (.value (v)) w:=by simp[execOp,hx]
theorem mv{x:Operand}{v:Value}(hx:ev n σ x=v)(h:wpList P ops Q rest (fr n (upd σ t v)) w):wpList P ops Q (⟨some t,.move x,ty,pos,aft,none⟩::rest) (fr n σ) w :=
 aaO (mv_r hx) h
theorem axS{x:Operand}{v:Value}(hx:ev n σ x=v):(execOp (ev n σ) ⟨some t,.assign x,ty,pos,aft,none⟩).run P w=.ok (.value (v)) w:=by simp[execOp,hx]
theorem asg{x:Operand}{v:Value}(hx:ev n σ x=v)(h:wpList P ops Q rest (fr n (upd σ t v)) w):wpList P ops Q (⟨some t,.assign x,ty,pos,aft,none⟩::rest) (fr n σ) w :=
 aaO (axS hx) h
theorem at9{c x y:Operand}{b:Bool}{v:Value}(hc:ev n σ c=.bool b)(hv:(cond b (ev n σ x) (ev n σ y))=v):(execOp (ev n σ) ⟨some t,.pick c x y,ty,pos,aft,none⟩).run P w=.ok (.value (v)) w:=by subst hv;cases b<;>simp[execOp,hc,asBool]
theorem awu{x:Operand}{i:Nat}{vs:Array Value}{v:Value}(hx:ev n σ x=.tuple vs)(hv:vs[i]?=some v):(execOp (ev n σ) ⟨some t,.extract x i,ty,pos,aft,none⟩).run P w=.ok (.value (v)) w:=by simp[execOp,hx,Instr.extract,hv]
theorem ext{x:Operand}{i:Nat}{vs:Array Value}{v:Value}(hx:ev n σ x=.tuple vs)(hv:vs[i]?=some v)(h:wpList P ops Q rest (fr n (upd σ t v)) w):wpList P ops Q (⟨some t,.extract x i,ty,pos,aft,none⟩::rest) (fr n σ) w :=
 aaO (awu hx hv) h
theorem axg{x:Operand}{a:Addr}(hx:ev n σ x=.pointer (some a)):(execOp (ev n σ) ⟨some t,.nilCheck x,ty,pos,aft,none⟩).run P w=.ok (.value (.pointer (some a))) w:=by simp[execOp,hx]
theorem aeU{s f:Nat}{x:Operand}{b o off o' : Nat}(hf:aca P s f=some off)(hx:ev n σ x=.pointer (some ⟨b,o,none⟩))(ho:o+off=o'):(execOp (ev n σ) ⟨some t,.fieldAddr s x f,ty,pos,aft,none⟩).run P w=.ok (.value (.pointer (some ⟨b,o',none⟩))) w:=by
 unfold aca at hf;split at hf
 ·rename_i fs hu;cases e:fs[f]? with
  | none=>rw[e] at hf;cases hf
  | some fd =>
   rw[e] at hf;simp only[Option.bind_some] at hf;cases e2:aaF P fd.type with
   | none=>rw[e2] at hf;cases hf
   | some k =>
    rw[e2] at hf;cases k with
    | zero=>cases hf
    | succ k =>
     simp only[Option.some.injEq] at hf;simp[execOp,Instr.fieldAt,run_underlying hu,e,hx,Instr.sureAddr,fieldPlace,abf e2,aeR,hf,ho]
 ·cases hf
theorem fld{s f:Nat}{x:Operand}{b o off o' : Nat}(hf:aca P s f=some off)(hx:ev n σ x=.pointer (some ⟨b,o,none⟩))(ho:o+off=o')(h:wpList P ops Q rest (fr n (upd σ t (.pointer (some ⟨b,o',none⟩)))) w):wpList P ops Q (⟨some t,.fieldAddr s x f,ty,pos,aft,none⟩::rest) (fr n σ) w :=
 aaO (aeU hf hx ho) h
theorem avt{s e size:Nat}{x y:Operand}{b o len cap:Nat}{k:IntKind}{i:Int}(he:abg P s=some e)(hs:aaF P e=some size)(hx:ev n σ x=.slice (some ⟨b,o,none⟩) len cap)(hy:ev n σ y=.int k i)(h0:0≤i)(h1:i<len):(execOp (ev n σ) ⟨some t,.indexAddr s x y,ty,pos,aft,none⟩).run P w=.ok (.value (.pointer (some ⟨b,o+i.toNat*size,none⟩))) w:=by
 simp[execOp,Instr.indexAt,hx,hy,asIntOf,run_underlying (abu he),h0,h1,abf hs,aeR]
theorem idx{s e size:Nat}{x y:Operand}{b o len cap:Nat}{k:IntKind}{i:Int}(he:abg P s=some e)(hs:aaF P e=some size)(hx:ev n σ x=.slice (some ⟨b,o,none⟩) len cap)(hy:ev n σ y=.int k i)(h0:0≤i)(h1:i<len)(h:wpList P ops Q rest (fr n (upd σ t (.pointer (some ⟨b,o+i.toNat*size,none⟩)))) w):wpList P ops Q (⟨some t,.indexAddr s x y,ty,pos,aft,none⟩::rest) (fr n σ) w :=
 aaO (avt he hs hx hy h0 h1) h
theorem acE{x:Operand}{b o:Nat}{v:Value}{s:TypeId}(ha:AggB P s=some false)(hx:ev n σ x=.pointer (some ⟨b,o,none⟩))(hc:w.cell? ⟨b,o,none⟩=some v):(execOp (ev n σ) ⟨some t,.load s x,ty,pos,aft,none⟩).run P w=.ok (.value (v)) w:=by simp[execOp,Instr.loadAt,hx,Instr.sureAddr,loadVar,adp ha,hc]
theorem ld1{x:Operand}{b o:Nat}{v:Value}{s:TypeId}(ha:AggB P s=some false)(hx:ev n σ x=.pointer (some ⟨b,o,none⟩))(hc:w.cell? ⟨b,o,none⟩=some v)(h:wpList P ops Q rest (fr n (upd σ t v)) w):wpList P ops Q (⟨some t,.load s x,ty,pos,aft,none⟩::rest) (fr n σ) w :=
 aaO (acE ha hx hc) h
theorem apD{x:Operand}{b o:Nat}{cs:List Value}{s size:Nat}(ha:AggB P s=some true)(hs:aaF P s=some size)(hx:ev n σ x=.pointer (some ⟨b,o,none⟩))(hl:cs.length=size)(hc:adZ (fun j=>w.cell? ⟨b,j,none⟩) o cs):(execOp (ev n σ) ⟨some t,.load s x,ty,pos,aft,none⟩).run P w=.ok (.value (.agg cs.toArray)) w:=by
 have hr:(loadCells ⟨b,o,none⟩ cs.length).run P w=.ok cs.toArray w:=run_loadCells_list (a:=⟨b,o,none⟩) (cs:=cs) (h:=fun j v hj=>by rw[aeR];exact hc j v hj);rw[hl] at hr;simp[execOp,Instr.loadAt,hx,Instr.sureAddr,loadVar,adp ha,abf hs,hr]
theorem ldN{x:Operand}{b o:Nat}{cs:List Value}{s size:Nat}(ha:AggB P s=some true)(hs:aaF P s=some size)(hx:ev n σ x=.pointer (some ⟨b,o,none⟩))(hl:cs.length=size)(hc:adZ (fun j=>w.cell? ⟨b,j,none⟩) o cs)(h:wpList P ops Q rest (fr n (upd σ t (.agg cs.toArray))) w):wpList P ops Q (⟨some t,.load s x,ty,pos,aft,none⟩::rest) (fr n σ) w :=
 aaO (apD ha hs hx hl hc) h
abbrev w64(x:Int):Int:=IntKind.i64.wrap x
def amM(k:IntKind):BinOp→Int→Int→Option Int
 | .add,a,b=>some (k.wrap (a+b))
 | .sub,a,b=>some (k.wrap (a - b))
 | .mul,a,b=>some (k.wrap (a*b))
 | _,_,_=>none
def icmp:BinOp→Int→Int→Option Bool
 | .eql,a,b=>some (a==b)
 | .neq,a,b=>some (a != b)
 | .lss,a,b=>some (decide (a<b))
 | .leq,a,b=>some (decide (a≤b))
 | .gtr,a,b=>some (decide (a>b))
 | .geq,a,b=>some (decide (a≥b))
 | _,_,_=>none
theorem aw4{op:BinOp}{xt yt:TypeId}{x y:Operand}{k:IntKind}{a b r:Int}(hx:ev n σ x=.int k a)(hy:ev n σ y=.int k b)(hr:amM k op a b=some r):(execOp (ev n σ) ⟨some t,.binOp op xt x y yt,ty,pos,aft,none⟩).run P w=.ok (.value (.int k r)) w:=by
 cases op<;>simp[amM] at hr<;>simp[execOp,eqGuard,binOp,hx,hy,Op.intArith,hr]
theorem bar{op:BinOp}{xt yt:TypeId}{x y:Operand}{k:IntKind}{a b r:Int}(hx:ev n σ x=.int k a)(hy:ev n σ y=.int k b)(hr:amM k op a b=some r)(h:wpList P ops Q rest (fr n (upd σ t (.int k r))) w):wpList P ops Q (⟨some t,.binOp op xt x y yt,ty,pos,aft,none⟩::rest) (fr n σ) w :=
 aaO (aw4 hx hy hr) h
theorem axK{op:BinOp}{xt yt:TypeId}{x y:Operand}{k:IntKind}{a b:Int}{r:Bool}(hx:ev n σ x=.int k a)(hy:ev n σ y=.int k b)(hr:icmp op a b=some r):(execOp (ev n σ) ⟨some t,.binOp op xt x y yt,ty,pos,aft,none⟩).run P w=.ok (.value (.bool r)) w:=by
 cases op<;>simp[icmp] at hr<;>simp[execOp,eqGuard,binOp,hx,hy,Op.intCmp,hr]
theorem bcm{op:BinOp}{xt yt:TypeId}{x y:Operand}{k:IntKind}{a b:Int}{r:Bool}(hx:ev n σ x=.int k a)(hy:ev n σ y=.int k b)(hr:icmp op a b=some r)(h:wpList P ops Q rest (fr n (upd σ t (.bool r))) w):wpList P ops Q (⟨some t,.binOp op xt x y yt,ty,pos,aft,none⟩::rest) (fr n σ) w :=
 aaO (axK hx hy hr) h
def ava:BinOp→Int→Int→Option Int
 | .rem,a,b=>some (a.tmod b)
 | .quo,a,b=>some (IntKind.i64.wrap (a.tdiv b))
 | _,_,_=>none
theorem ax5{op:BinOp}{xt yt:TypeId}{x y:Operand}{a b r:Int}(hx:ev n σ x=.int .i64 a)(hy:ev n σ y=.int .i64 b)(h0 : ¬b=0)(hr:ava op a b=some r):(execOp (ev n σ) ⟨some t,.binOp op xt x y yt,ty,pos,aft,none⟩).run P w=.ok (.value (.int .i64 r)) w:=by
 cases op<;>simp[ava] at hr<;>simp[execOp,eqGuard,binOp,hx,hy,Op.intDiv,h0,hr]
theorem bdv{op:BinOp}{xt yt:TypeId}{x y:Operand}{a b r:Int}(hx:ev n σ x=.int .i64 a)(hy:ev n σ y=.int .i64 b)(h0 : ¬b=0)(hr:ava op a b=some r)(h:wpList P ops Q rest (fr n (upd σ t (.int .i64 r))) w):wpList P ops Q (⟨some t,.binOp op xt x y yt,ty,pos,aft,none⟩::rest) (fr n σ) w :=
 aaO (ax5 hx hy h0 hr) h
def auT(k:IntKind):BinOp→Int→Int→Option Int
 | .and,a,b=>some (k.wrap (BitVec.ofInt k.bits a &&& BitVec.ofInt k.bits b).toNat)
 | .or,a,b=>some (k.wrap (BitVec.ofInt k.bits a ||| BitVec.ofInt k.bits b).toNat)
 | _,_,_=>none
theorem ax3{op:BinOp}{xt yt:TypeId}{x y:Operand}{k:IntKind}{a b r:Int}(hx:ev n σ x=.int k a)(hy:ev n σ y=.int k b)(hr:auT k op a b=some r):(execOp (ev n σ) ⟨some t,.binOp op xt x y yt,ty,pos,aft,none⟩).run P w=.ok (.value (.int k r)) w:=by
 cases op<;>simp[auT] at hr<;>simp[execOp,eqGuard,binOp,hx,hy,Op.intBits,hr]
theorem bbt{op:BinOp}{xt yt:TypeId}{x y:Operand}{k:IntKind}{a b r:Int}(hx:ev n σ x=.int k a)(hy:ev n σ y=.int k b)(hr:auT k op a b=some r)(h:wpList P ops Q rest (fr n (upd σ t (.int k r))) w):wpList P ops Q (⟨some t,.binOp op xt x y yt,ty,pos,aft,none⟩::rest) (fr n σ) w :=
 aaO (ax3 hx hy hr) h
def seq(a b:ByteArray):Bool:=a.toList==b.toList
def scmp:BinOp→ByteArray→ByteArray→Option Bool
 | .eql,a,b=>some (seq a b)
 | .neq,a,b=>some (!seq a b)
 | _,_,_=>none
theorem aw0{op:BinOp}{xt yt:TypeId}{x y:Operand}{a b:ByteArray}{r:Bool}(hx:ev n σ x=.string a)(hy:ev n σ y=.string b)(hr:scmp op a b=some r):(execOp (ev n σ) ⟨some t,.binOp op xt x y yt,ty,pos,aft,none⟩).run P w=.ok (.value (.bool r)) w:=by
 cases op<;>simp[scmp,seq] at hr<;>simp[execOp,eqGuard,binOp,hx,hy,Op.stringOp,hr]
theorem bsc{op:BinOp}{xt yt:TypeId}{x y:Operand}{a b:ByteArray}{r:Bool}(hx:ev n σ x=.string a)(hy:ev n σ y=.string b)(hr:scmp op a b=some r)(h:wpList P ops Q rest (fr n (upd σ t (.bool r))) w):wpList P ops Q (⟨some t,.binOp op xt x y yt,ty,pos,aft,none⟩::rest) (fr n σ) w :=
 aaO (aw0 hx hy hr) h
theorem ax9{xt yt:TypeId}{x y:Operand}{a b:ByteArray}(hx:ev n σ x=.string a)(hy:ev n σ y=.string b)(hr:a.size+b.size≤9223372036854775807):(execOp (ev n σ) ⟨some t,.binOp .add xt x y yt,ty,pos,aft,none⟩).run P w=.ok (.value (.string (a++b))) w:=by
 have hm:IntKind.i64.max=9223372036854775807:=by decide
 have hs:(Op.stringOp .add a b).run P w=.ok (.string (a++b)) w:=by
  simp only[Op.stringOp];rw[if_neg (by rw[hm];omega)];rfl
 simp[execOp,eqGuard,binOp,hx,hy,hs]
theorem bsa{xt yt:TypeId}{x y:Operand}{a b:ByteArray}(hx:ev n σ x=.string a)(hy:ev n σ y=.string b)(hr:a.size+b.size≤9223372036854775807)(h:wpList P ops Q rest (fr n (upd σ t (.string (a++b)))) w):wpList P ops Q (⟨some t,.binOp .add xt x y yt,ty,pos,aft,none⟩::rest) (fr n σ) w :=
 aaO (ax9 hx hy hr) h
def ath(P:Program)(t:TypeId):Bool:=match P.underlying t with | some .bool=>true | _=>false
def bcb:BinOp→Bool→Bool→Option Bool
 | .eql,a,b=>some (a==b)
 | .neq,a,b=>some (!(a==b))
 | _,_,_=>none
theorem agL(d:Nat){xt:TypeId}(hu:P.underlying xt=some .bool)(a b:Bool):(Op.equalIn (d+1) xt (.bool a) (.bool b)).run P w=.ok (a==b) w:=by
 simp[Op.equalIn,run_underlying hu]
theorem ah9{xt:TypeId}(hu:P.underlying xt=some .bool)(a b:Bool):(Op.equal xt (.bool a) (.bool b)).run P w=.ok (a==b) w:=agL 9999 hu a b
theorem ayJ{op:BinOp}{xt yt:TypeId}{x y:Operand}{a b r:Bool}(ht:ath P xt=true)(hx:ev n σ x=.bool a)(hy:ev n σ y=.bool b)(hr:bcb op a b=some r):(execOp (ev n σ) ⟨some t,.binOp op xt x y yt,ty,pos,aft,none⟩).run P w=.ok (.value (.bool r)) w:=by
 have hu:P.underlying xt=some .bool:=by unfold ath at ht;split at ht<;>simp_all
 cases op<;>simp only[bcb,Option.some.injEq,reduceCtorEq] at hr<;>subst hr<;>simp only[execOp,eqGuard,binOp,hx,hy]<;>simp[ah9 hu]
theorem anV{xt:TypeId}{x:Operand}{a:Bool}(hx:ev n σ x=.bool a):(execOp (ev n σ) ⟨some t,.unOp .not xt x,ty,pos,aft,none⟩).run P w=.ok (.value (.bool (!a))) w:=by simp[execOp,hx,Op.unary]
theorem unot{xt:TypeId}{x:Operand}{a:Bool}(hx:ev n σ x=.bool a)(h:wpList P ops Q rest (fr n (upd σ t (.bool (!a)))) w):wpList P ops Q (⟨some t,.unOp .not xt x,ty,pos,aft,none⟩::rest) (fr n σ) w :=
 aaO (anV hx) h
def amR(P:Program)(t:TypeId):Option IntKind:=match P.underlying t with | some (.int k)=>some k | _=>none
theorem awL{s:TypeId}{x:Operand}{A:Option Addr}{len cap e:Nat}(he:abg P s=some e)(hx:ev n σ x=.slice A len cap):(execOp (ev n σ) ⟨some t,.call { callee:=.builtin .len,args:=#[x],argTypes:=#[s] },ty,pos,aft,none⟩).run P w=.ok (.value (.int .i64 len)) w:=by simp[execOp,resolve,invoke,builtin,Builtin.len_,hx,run_underlying (abu he),goInt]
theorem lnS{s:TypeId}{x:Operand}{A:Option Addr}{len cap e:Nat}(he:abg P s=some e)(hx:ev n σ x=.slice A len cap)(h:wpList P ops Q rest (fr n (upd σ t (.int .i64 len))) w):wpList P ops Q (⟨some t,.call { callee:=.builtin .len,args:=#[x],argTypes:=#[s] },ty,pos,aft,none⟩::rest) (fr n σ) w :=
 aaO (awL he hx) h
theorem ayh{s:TypeId}{x:Operand}{a:ByteArray}(he:StrB P s=true)(hx:ev n σ x=.string a):(execOp (ev n σ) ⟨some t,.call { callee:=.builtin .len,args:=#[x],argTypes:=#[s] },ty,pos,aft,none⟩).run P w=.ok (.value (.int .i64 a.size)) w:=by simp[execOp,resolve,invoke,builtin,Builtin.len_,hx,run_underlying (ahq he),goInt]
def bt(s:ByteArray)(i:Nat):Int:=match s[i]? with | some b=>(b.toNat:Int) | none=>0
theorem ax1{s:TypeId}{x y:Operand}{a:ByteArray}{k:IntKind}{i:Int}(he:StrB P s=true)(hx:ev n σ x=.string a)(hy:ev n σ y=.int k i)(h0:0≤i)(h1:i<a.size):(execOp (ev n σ) ⟨some t,.index s x y,ty,pos,aft,none⟩).run P w=.ok (.value (.int .u8 (bt a i.toNat))) w:=by
 have hlt:i.toNat<a.size:=by omega
 have hg:a[i.toNat]?=some a[i.toNat]:=by simp[hlt]
 simp[execOp,Instr.index,hx,hy,asIntOf,run_underlying (ahq he),h0,bt,hg]
theorem ixT{s:TypeId}{x y:Operand}{a:ByteArray}{k:IntKind}{i:Int}(he:StrB P s=true)(hx:ev n σ x=.string a)(hy:ev n σ y=.int k i)(h0:0≤i)(h1:i<a.size)(h:wpList P ops Q rest (fr n (upd σ t (.int .u8 (bt a i.toNat)))) w):wpList P ops Q (⟨some t,.index s x y,ty,pos,aft,none⟩::rest) (fr n σ) w :=
 aaO (ax1 he hx hy h0 h1) h
def Ret(R:Value→World→Prop)(e:Ending)(w:World):Prop:=∃v,e=.returned v∧R v w
def RetP(R:Value→World→Prop)(R' : Value→World→Prop)(e:Ending)(w:World):Prop:=(∃v,e=.returned v∧R v w)∨∃v,e=.panicked [{ v,recovered:=false }]∧R' v w
theorem au0{f:FuncId}(h:acK P f=true) : ∃fn,P.funcs[f]?=some fn∧(fn.name == "runtime.NumGoroutine")=false∧fn.body.isNone=false:=by
 unfold acK at h;split at h
 ·rename_i fn hf;refine⟨fn,hf,?_,?_⟩
  ·simp at h;simpa using h.1
  ·simp at h;cases e:fn.body<;>simp_all
 ·cases h
theorem adi{f:FuncId}(h:acK P f=true)(args:Array Value):(callFunc f args).run P w=.ok (.enter f args) w:=by
 obtain⟨fn,h1,h2,h3⟩:=au0 h;simp only[beq_eq_false_iff_ne,ne_eq] at h2;cases e:fn.body with
 | none=>rw[e] at h3;cases h3
 | some c=>simp[callFunc,h1,h2,e]
theorem aff{f:Operand}{args:Array Operand}{ts:Array TypeId}{g:FuncId}{caps:Array Value}{vs:List Value}{o:Oper}(ho:o.op=.call { callee:=.value f,args:=args,argTypes:=ts })(hf:ev n σ f=.func (.func g) #[] caps)(hb:acK P g=true)(ha:args.toList.map (ev n σ)++caps.toList=vs) :
  (execOp (ev n σ) o).run P w=.ok (.enter g vs.toArray) w:=by
 simp only[execOp,ho,resolve,hf,Deferred.ofValue,Sem.run_bind,Sem.run_pure,Result.andThen_ok,invoke];rw[adi hb,←ha];simp
theorem clV{f:Operand}{args:Array Operand}{ts:Array TypeId}{g:FuncId}{caps:Array Value}{vs:List Value}{R:Value→World→Prop}(hf:ev n σ f=.func (.func g) #[] caps)(hb:acK P g=true)(ha:args.toList.map (ev n σ)++caps.toList=vs)
  (hc:Calls P g vs.toArray w (Ret R)) (h : ∀v w',R v w'→wpList P ops Q rest (fr n (upd σ t v)) w'):wpList P ops Q (⟨some t,.call { callee:=.value f,args:=args,argTypes:=ts },ty,pos,aft,none⟩::rest) (fr n σ) w:=by
 refine wpList_plain rfl fun K hK=>?_
 unfold Oper.wp;rw[abj,aff rfl hf hb ha];refine hc.mono ?_;rintro e w'⟨v,rfl,hr⟩;exact hK _ _ (by rw[acA];exact h v w' hr)
theorem clP{f:Operand}{args:Array Operand}{ts:Array TypeId}{g:FuncId}{caps:Array Value}{vs:List Value}{R R' : Value→World→Prop}(hf:ev n σ f=.func (.func g) #[] caps)(hb:acK P g=true)(ha:args.toList.map (ev n σ)++caps.toList=vs)
  (hc:Calls P g vs.toArray w (RetP R R')) (h : ∀v w',R v w'→wpList P ops Q rest (fr n (upd σ t v)) w') (h' : ∀v w',R' v w'→Q (.panic [{ v,recovered:=false }]) (fr n σ) w'):wpList P ops Q (⟨some t,.call { callee:=.value f,args:=args,argTypes:=ts },ty,pos,aft,none⟩::rest) (fr n σ) w:=by
 refine wpList_plain rfl fun K hK=>?_
 unfold Oper.wp;rw[abj,aff rfl hf hb ha];refine hc.mono ?_;rintro e w' (⟨v,rfl,hr⟩ |⟨v,rfl,hr⟩)
 ·exact hK _ _ (by rw[acA];exact h v w' hr)
 ·exact h' v w' hr
theorem ayj{fn:Fn}{fs cs:Array Operand}{vs us:List Value}(hf:fs.toList.map (ev n σ)=us)(hx:cs.toList.map (ev n σ)=vs):(execOp (ev n σ) ⟨some t,.makeFunc fn fs cs,ty,pos,aft,none⟩).run P w=.ok (.value (.func fn us.toArray vs.toArray)) w:=by
 have h1:fs.map (ev n σ)=us.toArray:=Array.toList_inj.1 (by simpa using hf);have h2:cs.map (ev n σ)=vs.toArray:=Array.toList_inj.1 (by simpa using hx);simp[execOp,Instr.makeFunc,h1,h2]
theorem mkf{fn:Fn}{fs cs:Array Operand}{vs us:List Value}(hf:fs.toList.map (ev n σ)=us)(hx:cs.toList.map (ev n σ)=vs)(h:wpList P ops Q rest (fr n (upd σ t (.func fn us.toArray vs.toArray))) w):wpList P ops Q (⟨some t,.makeFunc fn fs cs,ty,pos,aft,none⟩::rest) (fr n σ) w :=
 aaO (ayj hf hx) h
def aoq(P:Program)(t:TypeId):Bool:=match P.underlying t with | some (.interface _)=>false | some _=>true | none=>false
theorem ax8{xt:TypeId}{x:Operand}{v:Value}(ht:aoq P xt=true)(hx:ev n σ x=v):(execOp (ev n σ) ⟨some t,.makeInterface xt x,ty,pos,aft,none⟩).run P w=.ok (.value (.iface xt v)) w:=by
 unfold aoq at ht;cases e:P.underlying xt with
 | none=>rw[e] at ht;cases ht
 | some d=>rw[e] at ht;cases d<;>simp_all [execOp,Instr.makeInterface,run_underlying e]
theorem mki{xt:TypeId}{x:Operand}{v:Value}(ht:aoq P xt=true)(hx:ev n σ x=v)(h:wpList P ops Q rest (fr n (upd σ t (.iface xt v))) w):wpList P ops Q (⟨some t,.makeInterface xt x,ty,pos,aft,none⟩::rest) (fr n σ) w :=
 aaO (ax8 ht hx) h
theorem pnc{dst:Option Tmp}{x:Operand}{xt:TypeId}{v:Value}(hx:ev n σ x=.iface xt v)(h:Q (.panic [{ v:=.iface xt v,recovered:=false }]) (fr n σ) w):wpList P ops Q (⟨dst,.panic x,ty,pos,aft,none⟩::rest) (fr n σ) w:=by
 refine wpList_plain rfl fun K hK=>?_
 unfold Oper.wp;rw[abj];simp only[execOp,hx,Instr.panic,Sem.run_bind,run_goPanic];exact h
def atK(P:Program)(t:TypeId)(parts:List (Nat×Value))(cells:Array Value):Prop:=∀w:World,(Instr.build t parts.toArray).run P w=.ok (.agg cells) w
theorem ae3{bt:TypeId}{ps:Array (Nat×Operand)}{cells:Array Value}{vs:List (Nat×Value)}(hp:ps.toList.map (fun (i,x)=>(i,ev n σ x))=vs)(hb:atK P bt vs cells):(execOp (ev n σ) ⟨some t,.build bt ps,ty,pos,aft,none⟩).run P w=.ok (.value (.agg cells)) w:=by
 have hp' : ps.map (fun (i,x)=>(i,ev n σ x))=vs.toArray:=Array.toList_inj.1 (by simpa using hp);simp[execOp,hp',hb w]
theorem bld{bt:TypeId}{ps:Array (Nat×Operand)}{cells:Array Value}{vs:List (Nat×Value)}(hp:ps.toList.map (fun (i,x)=>(i,ev n σ x))=vs)(hb:atK P bt vs cells)(h:wpList P ops Q rest (fr n (upd σ t (.agg cells))) w):wpList P ops Q (⟨some t,.build bt ps,ty,pos,aft,none⟩::rest) (fr n σ) w :=
 aaO (ae3 hp hb) h
end steps
section worlds
variable {P:Program}{ops:Array Oper}{Q:Exit→Act→World→Prop}{rest:List Oper}{n:Nat}{σ:Nat→Value}{w:World}{ty:TypeId}{pos:String}{aft:Array Edge}{t:Tmp}
 {K0 K:KH} {w0:World} {M:Nat→Prop} {H A B:Ents}
theorem alc{s:TypeId}{z:Value}(S:Sx K0 K w0 w M H)(hz:ad7 P s=some z)
  (h : ∀w',Sx K0 K w0 w' M (.box w0.heap.size w.heap.size z.cells s::H)→wpList P ops Q rest (fr n (upd σ t (.pointer (some ⟨w.heap.size,0,none⟩)))) w'):wpList P ops Q (⟨some t,.alloc s,ty,pos,aft,none⟩::rest) (fr n σ) w :=
 aaO (v:=.pointer (some ⟨w.heap.size,0,none⟩)) (w':=w.alloc (.cells z.cells s)) (by simp[execOp,Instr.alloc,ab1 hz,newVar,newRow]) (h _ (S.box_ _ _))
theorem bxo{s:TypeId}{x:Operand}{v:Value}(S:Sx K0 K w0 w M H)(hx:ev n σ x=v)
  (h : ∀w',Sx K0 K w0 w' M (.box w0.heap.size w.heap.size v.cells s::H)→wpList P ops Q rest (fr n (upd σ t (.pointer (some ⟨w.heap.size,0,none⟩)))) w'):wpList P ops Q (⟨some t,.box s x,ty,pos,aft,none⟩::rest) (fr n σ) w :=
 aaO (v:=.pointer (some ⟨w.heap.size,0,none⟩)) (w':=w.alloc (.cells v.cells s)) (by simp[execOp,Instr.box,hx,newVar,newRow]) (h _ (S.box_ _ _))
theorem Sx.box_at{base b:Nat}{cs:Array Value}{bt:TypeId}(S:Sx K0 K w0 w M (A++.box base b cs bt::B)):w.heap[b]?=some (.cells cs bt (0,0))∧base≤b:=S.ents (.box base b cs bt) (by simp)
theorem Sx.box_cell{base b i:Nat}{cs:Array Value}{bt:TypeId}{v:Value}(S:Sx K0 K w0 w M (A++.box base b cs bt::B))(h:cs[i]?=some v):w.cell? ⟨b,i,none⟩=some v:=by
 simp only[World.cell?,S.box_at.1];simpa using h
theorem al3(w:World)(b i:Nat)(v:Value)(cs:Array Value)(bt:TypeId)(h:w.heap[b]?=some (.cells cs bt (0,0))):(w.setCell ⟨b,i,none⟩ v).heap[b]?=some (.cells (cs.setIfInBounds i v) bt (0,0)):=by
 simp[World.setCell,Array.getElem?_modify,h]
theorem ajx(w:World)(b i:Nat)(v:Value)(j:Nat)(h : ¬b=j):(w.setCell ⟨b,i,none⟩ v).heap[j]?=w.heap[j]?:=by
 simp[World.setCell,Array.getElem?_modify,h]
theorem Sx.set_{base b i:Nat}{cs:Array Value}{bt:TypeId}(S:Sx K0 K w0 w M (A++.box base b cs bt::B))(v:Value):Sx K0 K w0 (w.setCell ⟨b,i,none⟩ v) M (A++.box base b (cs.setIfInBounds i v) bt::B) :=
 S.turn (fun j _ hj=>ajx w b i v j (fun e=>hj (by rw[e];rfl))) (by simp) rfl rfl rfl ⟨al3 w b i v cs bt S.box_at.1,S.box_at.2⟩ (.inl rfl)
def setL(cs:Array Value)(o:Nat):List Value→Array Value
 | []=>cs
 | v::vs=>setL (cs.setIfInBounds o v) (o+1) vs
theorem aqg(vs:List Value) : ∀(cs:Array Value) (o:Nat),(setL cs o vs).size=cs.size:=by
 induction vs with
 | nil=>intro cs o;rfl
 | cons v vs ih=>intro cs o;simp[setL,ih]
def one(v:Value):Bool:=match v with | .agg _ | .tuple _=>false | _=>true
theorem adn{base b:Nat}{bt:TypeId} : ∀(vs:List Value) (i o:Nat) (cs:Array Value) (w:World),Sx K0 K w0 w M (A++.box base b cs bt::B)→o+i+vs.length≤cs.size→vs.all one=true →
  ∃w',(storeCells ⟨b,o,none⟩ vs i).run P w=.ok () w'∧Sx K0 K w0 w' M (A++.box base b (setL cs (o+i) vs) bt::B)
 | [],i,o,cs,w,S,_,_=>⟨w,rfl,S⟩
 | v::vs,i,o,cs,w,S,hl,h1=>by
  simp only[List.all_cons,Bool.and_eq_true] at h1;simp only[List.length_cons] at hl;have hlt:o+i<cs.size:=by omega
  have S':=S.set_ (i:=o+i) v;obtain⟨w',hr,hS⟩:=adn vs (i+1) o (cs.setIfInBounds (o+i) v) _ S' (by simp;omega) h1.2;refine⟨w',?_,hS⟩;have hc:w.cell? ⟨b,o+i,none⟩=some cs[o+i]:=S.box_cell (by simp[hlt]);have hf:w.frozen? ⟨b,o+i,none⟩=false:=by simp[World.frozen?,S.box_at.1]
  have hst:(store ⟨b,o+i,none⟩ v).run P w=.ok () (w.setCell ⟨b,o+i,none⟩ v):=by
   cases v<;>simp[one] at h1<;>simp[store,Sem.run,hc,hf]
  simp only[storeCells,aeR,Sem.run_bind,hst,Result.andThen_ok,hr]
theorem sto{s size:Nat}{x y:Operand}{base b o:Nat}{bt:TypeId}{cs cs' : Array Value}{v:Value}(S:Sx K0 K w0 w M (A++.box base b cs bt::B))(hs:aaF P s=some size)(hx:ev n σ x=.pointer (some ⟨b,o,none⟩))(hy:ev n σ y=v)
  (hl:v.cells.size=size) (h1:v.cells.toList.all one=true) (hin:o+size≤cs.size) (hc:setL cs o v.cells.toList=cs')
  (h : ∀w',Sx K0 K w0 w' M (A++.box base b cs' bt::B)→wpList P ops Q rest (fr n σ) w'):wpList P ops Q (⟨none,.store s x y,ty,pos,aft,none⟩::rest) (fr n σ) w:=by
 obtain⟨w',hr,hS⟩:=adn (P:=P) v.cells.toList 0 o cs w S (by simp;omega) h1;rw[Nat.add_zero,hc] at hS;refine amc (w':=w') ?_ (h w' hS);simp[execOp,hx,hy,Instr.storeAt,Instr.sureAddr,storeVar,abf hs,hl,hr]
def aql(P:Program)(st:TypeId)(e len:Nat)(parts:List (Nat×Value))(cells:Array Value):Prop:=∀w:World,(Instr.buildSlice st len parts.toArray).run P w=.ok (.slice (some ⟨w.heap.size,0,none⟩) len len) (w.alloc (.cells cells e))
theorem bsl{bt:TypeId}{ps:Array (Nat×Operand)}{e len:Nat}{cells:Array Value}{vs:List (Nat×Value)}(S:Sx K0 K w0 w M H)(hp:ps.toList.map (fun (i,x)=>(i,ev n σ x))=vs)(hb:aql P bt e len vs cells)
  (h : ∀w',Sx K0 K w0 w' M (.box w0.heap.size w.heap.size cells e::H)→wpList P ops Q rest (fr n (upd σ t (.slice (some ⟨w.heap.size,0,none⟩) len len))) w') :
  wpList P ops Q (⟨some t,.buildSlice bt len ps,ty,pos,aft,none⟩::rest) (fr n σ) w :=
 aaO (v:=.slice (some ⟨w.heap.size,0,none⟩) len len) (w':=w.alloc (.cells cells e)) (by
  have hp' : ps.map (fun (i,x)=>(i,ev n σ x))=vs.toArray:=Array.toList_inj.1 (by simpa using hp);simp[execOp,hp',hb w]) (h _ (S.box_ _ _))
theorem aeZ{st e size:Nat}{v z:Value}(he:abg P st=some e)(hs:aaF P e=some size)(hz:ad7 P e=some z)(hzs:z.cells.size=size)(h0:0<size)(hsm:size≤16777216)(hv:v.cells.size=size):aql P st e 1 [(0,v)] v.cells:=by
 intro w;have hfold : ∀(l:List Value) (k:Nat) (acc:Array Value),k+l.length≤acc.size→(l.zipIdx k).foldl (fun cs (x:Value×Nat)=>cs.setIfInBounds (0+x.2) x.1) acc=setL acc k l:=by
  intro l;induction l with
  | nil=>intro k acc _;rfl
  | cons a l ih =>
   intro k acc h;simp only[List.zipIdx_cons,List.foldl_cons,setL,Nat.zero_add] at *;exact ih (k+1) _ (by simp at h ⊢;omega)
 have hset : ∀(l:List Value) (k:Nat) (acc:Array Value),k+l.length=acc.size→(setL acc k l).toList=acc.toList.take k++l:=by
  intro l;induction l with
  | nil=>intro k acc h;simp at h;subst h;simp only[setL,List.append_nil];exact (List.take_of_length_le (by simp)).symm
  | cons a l ih =>
   intro k acc h;simp only[List.length_cons] at h;rw[setL,ih (k+1) _ (by simp;omega)];simp only[Array.toList_setIfInBounds];rw[List.take_succ_eq_append_getElem (by simp;omega)];simp only[List.take_set,List.getElem_set_self,List.append_assoc,List.singleton_append];rw[List.set_eq_of_length_le (by simp;omega)]
 have hcells:((Array.range (1*size)).map (z.cells[· % z.cells.size]!)).size=size:=by simp
 have hfill:Instr.fill (fun i=>some (i*size,size)) ((Array.range (1*size)).map (z.cells[· % z.cells.size]!)) [(0,v)]=some v.cells:=by
  simp only[Instr.fill,hv,Nat.zero_mul,hcells];rw[if_neg (by simp)];congr 1;rw[←Array.foldl_toList,Array.toList_zipIdx,hfold _ 0 _ (by simp[hv])];apply Array.toList_inj.1;rw[hset _ 0 _ (by simp[hv])];simp
 have hne : ¬1*size=0:=by omega
 have h24 : ¬1*size>2^24:=by simp;omega
 simp only[Instr.buildSlice,Sem.run_bind,run_underlying (abu he),Result.andThen_ok,abf hs];simp only[h24,hne,if_false,Sem.run_bind,Result.andThen_ok,ab1 hz,Sem.run_pure,Sem.run_pure',Sem.run_ite];simp only[hfill];simp[newRow]
theorem apd{x y:Operand}{st e size bytes:Nat}{z:Value}{base m b:Nat}{v:Value}{k:Nat}{xs:List Value}{news:Array Value}{bt:TypeId}(S:Sx K0 K w0 w M (A++.row base v e size k xs::B))(he:abg P st=some e)(hi:(P.info? e).map (fun i=>(i.zero,i.size,i.bytes))=some (some z,size,bytes))(hzs:z.cells.size=size)(hsz:0<size)
  (hx:ev n σ x=v) (hy:ev n σ y=.slice (some ⟨b,0,none⟩) m m) (hb:w.heap[b]?=some (.cells news bt (0,0))) (hl:news.size=m*size) (h1:news.toList.all (fun u=>u.oneCell')=true) (hbase:base≤w.heap.size) (hlen:(k+m)*bytes≤140737488355328) (hbp:0<bytes)
  (h : ∀v' w',Sx K0 K w0 w' M (A++.row base v' e size (k+m) (xs++news.toList)::B)→wpList P ops Q rest (fr n (upd σ t v')) w') :
  wpList P ops Q (⟨some t,.call { callee:=.builtin .append,args:=#[x,y],argTypes:=#[st,st] },ty,pos,aft,none⟩::rest) (fr n σ) w:=by
 obtain⟨i0,hi0,hzz⟩:=Option.map_eq_some_iff.1 hi;simp only[Prod.mk.injEq] at hzz;obtain⟨hz0,hz1,hz2⟩:=hzz;have hrow:w.ownsRow base e size v k xs:=S.ents (.row base v e size k xs) (by simp);have hle:k+m≤140737488355328:=Nat.le_trans (Nat.le_mul_of_pos_right _ hbp) hlen;obtain⟨v',w',hr,h2,h3,_,h5⟩:=run_append_own_at (P:=P) w base st ty e i0 z size bytes (abu he) hi0 hz0 hz1 hz2 hzs hsz v k xs hrow ⟨b,0,none⟩ m m news.toList (by simp[hl])
  (fun j u hj=>by
   rw[aeR];simp only[World.cell?,hb];simpa using hj) (fun u hu=>by simpa using List.all_eq_true.1 h1 u hu) (by simp only[maxLen];omega) hlen hbase
 refine aaO (v:=v') (w':=w') ?_ (h v' w' (S.turn (fun j hj hne=>h3.block j hj (fun e=>hne e.symm)) h3.size h3.os h3.tape h3.output h2 (by
  rcases h5 with h5 | h5
  ·exact .inl h5
  ·exact .inr h5)))
 simp only[execOp,resolve,invoke,builtin,Sem.run_bind,Sem.run_pure,Result.andThen_ok,List.map_toArray,List.map_cons,List.map_nil,hx,hy,hr]
end worlds
def updL(σ:Nat→Value):List (Nat×Value)→Nat→Value
 | []=>σ
 | p::l=>updL (upd σ p.1 p.2) l
def Live(σ:Nat→Value):List (Nat×Value)→Prop
 | []=>True
 | p::l=>σ p.1=p.2∧Live σ l
theorem apq{σ:Nat→Value} : ∀{l:List (Nat×Value)},Live σ l→updL σ l=σ
 | [],_=>rfl
 | p::l,h=>by
  show updL (upd σ p.1 p.2) l=σ;rw[aiR h.1];exact apq h.2
theorem frL{n:Nat}{σ:Nat→Value}{l:List (Nat×Value)}(h:Live σ l):fr n σ=fr n (updL σ l):=by rw[apq h]
section
variable {P:Program}{Q:Exit→Act→World→Prop}{a:Act}{w:World}{next:Act→World→Prop}
theorem aaG(h:next a w):Exit.then next Q .normal a w:=h
theorem aut{i:Nat}(h:Q (.exit i) a w):Exit.then next Q (.exit i) a w:=h
theorem ar9(h:Q .ret a w):Exit.then next Q .ret a w:=h
theorem blkN{id:Nat}(h:Q .normal a w):Exit.inBlock id Q .normal a w:=h
theorem blkR{id:Nat}(h:Q .ret a w):Exit.inBlock id Q .ret a w:=h
theorem blkX{id:Nat}(h:Q .normal a w):Exit.inBlock id Q (.exit id) a w:=by
 show (if id=id then _ else _);rw[if_pos rfl];exact h
theorem blkO{id i:Nat}(hne : ¬i=id)(h:Q (.exit i) a w):Exit.inBlock id Q (.exit i) a w:=by
 show (if i=id then _ else _);rw[if_neg hne];exact h
theorem axt{x y:Code}(J:Act→World→Prop)(h1:x.wp P (Exit.then J Q) a w)(h2 : ∀a w,J a w→y.wp P Q a w):(Code.seq x y).wp P Q a w :=
 wp_seq (Code.wp_mono (fun e a w h=>by cases e<;>first | exact h2 _ _ h | exact h) h1)
theorem ate{c:Code}(I:Nat→Act→World→Prop)(g:Nat)(h₀:I g a w)
  (round : ∀g a w,I g a w→c.wp P (Exit.then (fun a' w'=>∃g',g'<g∧I g' a' w') Q) a w):(Code.loop c).wp P Q a w:=by
 intro b k cs;have key : ∀n a w,I n a w→∃e a' w',Q e a' w'∧Arrives P (lone (b.at a (.code c::.inLoop c::k)) cs w) b k cs e a' w':=by
  intro n;induction n using Nat.strongRecOn with
  | _ n ih =>
   intro a w hI;obtain⟨e,a₁,w₁,hq,harr⟩:=round n a w hI b (.inLoop c::k) cs;cases e with
   | normal =>
    obtain⟨g',hlt,hI₁⟩:=hq;obtain⟨e₂,a₂,w₂,hq₂,harr₂⟩:=ih g' hlt a₁ w₁ hI₁;exact⟨e₂,a₂,w₂,hq₂,.of_steps (Steps.trans harr (.one step_inLoop)) harr₂⟩
   | exit id=>exact⟨_,a₁,w₁,hq,.pass (x:=.inLoop c) rfl (fun _ _=>.inl (by simp)) harr⟩
   | goto l=>exact⟨_,a₁,w₁,hq,.pass (x:=.inLoop c) rfl (fun _ _=>.inl (by simp)) harr⟩
   | ret=>exact⟨_,a₁,w₁,hq,.pass (x:=.inLoop c) rfl (fun _ _=>.inl (by simp)) harr⟩
   | panic ch=>exact⟨_,a₁,w₁,hq,.pass (x:=.inLoop c) rfl (fun _ _=>.inl (by simp)) harr⟩
   | outgrown=>exact⟨_,a₁,w₁,hq,.pass (x:=.inLoop c) rfl (fun _ _=>.inl (by simp)) harr⟩
 obtain⟨e,a',w',hq,harr⟩:=key _ a w h₀;exact⟨e,a',w',hq,.of_steps (.one step_loop) harr⟩
theorem cndT{n:Nat}{σ:Nat→Value}{c:Operand}{x y:Code}(hc:ev n σ c=.bool true)(h:x.wp P Q (fr n σ) w):(Code.cond c x y).wp P Q (fr n σ) w :=
 wp_cond_true (by rw[abj];exact hc) h
theorem cndF{n:Nat}{σ:Nat→Value}{c:Operand}{x y:Code}(hc:ev n σ c=.bool false)(h:y.wp P Q (fr n σ) w):(Code.cond c x y).wp P Q (fr n σ) w :=
 wp_cond_false (by rw[abj];exact hc) h
theorem enter{f:FuncId}{fn:Func}{c:Code}{args:Array Value}{R:Ending→World→Prop}{n:Nat}(hf:P.funcs[f]?=some fn)(hb:fn.body=some c)(hn:args.size+(fn.ntmps - args.size)=n)
  (h:c.wp P (bodyPost P fn R) (fr n (fun t=>args.getD t undef)) w):Calls P f args w R:=by
 refine calls_of_wp hf hb ?_;rw[aeH,hn];exact h
theorem ret0{fn:Func}{n:Nat}{σ:Nat→Value}{R:Value→World→Prop}(hr:fn.results=#[])(h:R (.tuple #[]) w):bodyPost P fn (Ret R) .ret (fr n σ) w :=
 bodyPost_ret (v:=.tuple #[]) (results_none hr _ _ _) rfl ⟨_,rfl,h⟩
theorem end0{fn:Func}{n:Nat}{σ:Nat→Value}{R:Value→World→Prop}(hr:fn.results=#[])(h:R (.tuple #[]) w):bodyPost P fn (Ret R) .normal (fr n σ) w :=
 bodyPost_end (v:=.tuple #[]) (results_none hr _ _ _) rfl ⟨_,rfl,h⟩
end
def resF(tmps:Array Value):ResultVar→Sem Value
 | .tmp t=>pure (tmps.getD t undef)
 | .cell a t=>do loadVar t (← asAddr (tmps.getD a undef))
def adh(P:Program)(w:World)(n:Nat)(σ:Nat→Value)(r:ResultVar)(v:Value):Prop:=(resF (fr n σ).tmps r).run P w=.ok v w
theorem ags(fn:Func)(tmps:Array Value):results fn tmps=(do
  let vs ← fn.results.mapM (resF tmps)
  pure (if h:vs.size=1 then vs[0] else .tuple vs)):=by
 unfold results;congr 1
section
variable {P:Program}{w:World}{fn:Func}{n:Nat}{σ:Nat→Value}{R:Value→World→Prop}{r1 r2 r3:ResultVar}{v1 v2 v3:Value}
theorem akJ(hr:fn.results=#[r1])(h1:adh P w n σ r1 v1):(results fn (fr n σ).tmps).run P w=.ok v1 w:=by
 unfold adh at h1;rw[ags,hr];simp[h1]
theorem al0(hr:fn.results=#[r1,r2])(h1:adh P w n σ r1 v1)(h2:adh P w n σ r2 v2):(results fn (fr n σ).tmps).run P w=.ok (.tuple #[v1,v2]) w:=by
 unfold adh at h1 h2;rw[ags,hr];simp[h1,h2]
theorem arm(hr:fn.results=#[r1,r2,r3])(h1:adh P w n σ r1 v1)(h2:adh P w n σ r2 v2)(h3:adh P w n σ r3 v3):(results fn (fr n σ).tmps).run P w=.ok (.tuple #[v1,v2,v3]) w:=by
 unfold adh at h1 h2 h3;rw[ags,hr];simp[h1,h2,h3]
theorem adq(hr:fn.results=#[r1])(h1:adh P w n σ r1 v1)(h:R v1 w):bodyPost P fn (Ret R) .ret (fr n σ) w:=bodyPost_ret (akJ hr h1) rfl ⟨_,rfl,h⟩
theorem aby(hr:fn.results=#[r1,r2])(h1:adh P w n σ r1 v1)(h2:adh P w n σ r2 v2)(h:R (.tuple #[v1,v2]) w):bodyPost P fn (Ret R) .ret (fr n σ) w:=bodyPost_ret (al0 hr h1 h2) rfl ⟨_,rfl,h⟩
theorem arQ(hr:fn.results=#[r1,r2,r3])(h1:adh P w n σ r1 v1)(h2:adh P w n σ r2 v2)(h3:adh P w n σ r3 v3)(h:R (.tuple #[v1,v2,v3]) w):bodyPost P fn (Ret R) .ret (fr n σ) w:=bodyPost_ret (arm hr h1 h2 h3) rfl ⟨_,rfl,h⟩
theorem resT{t:Tmp}{v:Value}(h:ev n σ (.tmp t)=v):adh P w n σ (.tmp t) v:=by
 unfold adh resF;rw[←h,←abj];rfl
end
theorem abc{H:Ents}{i:Nat}{e:Ent}(h:H[i]?=some e) : ∃A B,H=A++e::B∧(∀e',H.set i e'=A++e'::B)∧H.eraseIdx i=A++B:=by
 induction H generalizing i with
 | nil=>simp at h
 | cons x H ih =>
  cases i with
  | zero=>simp at h;subst h;exact⟨[],H,rfl,fun _=>rfl,rfl⟩
  | succ i =>
   simp only[List.getElem?_cons_succ] at h;obtain⟨A,B,h1,h2,h3⟩:=ih h;exact⟨x::A,B,by rw[h1];rfl,fun e'=>by rw[List.set_cons_succ,h2];rfl,by rw[List.eraseIdx_cons_succ,h3];rfl⟩
section
variable {P:Program}{ops:Array Oper}{Q:Exit→Act→World→Prop}{rest:List Oper}{n:Nat}{σ:Nat→Value}{w:World}{ty:TypeId}{pos:String}{aft:Array Edge}{t:Tmp}
 {K0 K:KH} {w0:World} {M:Nat→Prop} {H:Ents}
theorem Sx.cellAt{i base b j:Nat}{cs:Array Value}{bt:TypeId}{v:Value}(S:Sx K0 K w0 w M H)(hi:H[i]?=some (.box base b cs bt))(h:cs[j]?=some v):w.cell? ⟨b,j,none⟩=some v:=by
 obtain⟨A,B,rfl,_,_⟩:=abc hi;exact S.box_cell h
theorem alcC{s:TypeId}{z:Value}{cs:Array Value}(S:Sx K0 K w0 w M H)(hz:ad7 P s=some z)(hc:z.cells=cs)
  (h : ∀w',Sx K0 K w0 w' M (.box w0.heap.size w.heap.size cs s::H)→wpList P ops Q rest (fr n (upd σ t (.pointer (some ⟨w.heap.size,0,none⟩)))) w'):wpList P ops Q (⟨some t,.alloc s,ty,pos,aft,none⟩::rest) (fr n σ) w:=by
 subst hc;exact alc S hz h
theorem bxoC{s:TypeId}{x:Operand}{v:Value}{cs:Array Value}(S:Sx K0 K w0 w M H)(hx:ev n σ x=v)(hc:v.cells=cs)
  (h : ∀w',Sx K0 K w0 w' M (.box w0.heap.size w.heap.size cs s::H)→wpList P ops Q rest (fr n (upd σ t (.pointer (some ⟨w.heap.size,0,none⟩)))) w'):wpList P ops Q (⟨some t,.box s x,ty,pos,aft,none⟩::rest) (fr n σ) w:=by
 subst hc;exact bxo S hx h
theorem lb1{i:Nat}{x:Operand}{base b o:Nat}{cs:Array Value}{bt s:TypeId}{v:Value}(S:Sx K0 K w0 w M H)(hi:H[i]?=some (.box base b cs bt))(ha:AggB P s=some false)(hx:ev n σ x=.pointer (some ⟨b,o,none⟩))(hc:cs[o]?=some v)
 (h:wpList P ops Q rest (fr n (upd σ t v)) w):wpList P ops Q (⟨some t,.load s x,ty,pos,aft,none⟩::rest) (fr n σ) w:=ld1 ha hx (S.cellAt hi hc) h
theorem lbN{i size:Nat}{x:Operand}{base b o:Nat}{cs:Array Value}{bt s:TypeId}{l:List Value}(S:Sx K0 K w0 w M H)(hi:H[i]?=some (.box base b cs bt))(ha:AggB P s=some true)(hs:aaF P s=some size)(hx:ev n σ x=.pointer (some ⟨b,o,none⟩))(hc:(cs.toList.drop o).take size=l)(hl:l.length=size)
  (h:wpList P ops Q rest (fr n (upd σ t (.agg l.toArray))) w):wpList P ops Q (⟨some t,.load s x,ty,pos,aft,none⟩::rest) (fr n σ) w :=
 ldN ha hs hx hl (fun j v hj=>S.cellAt hi (by
  subst hc;have hj' : j<size:=by have:=(List.getElem?_eq_some_iff.1 hj).1;omega
  rw[List.getElem?_take_of_lt hj',List.getElem?_drop] at hj;simpa using hj)) h
def ab4:List Value→Nat→List Value→List Value
 | [],_,_=>[]
 | c::cs,0,v::vs=>v::ab4 cs 0 vs
 | c::cs,0,[]=>c::cs
 | c::cs,o+1,vs=>c::ab4 cs o vs
theorem aet : ∀(cs:List Value) (o:Nat),ab4 cs o []=cs
 | [],_=>rfl
 | c::cs,0=>rfl
 | c::cs,o+1=>by rw[ab4,aet]
theorem aiM : ∀(cs:List Value) (o:Nat) (v:Value) (vs:List Value),ab4 cs o (v::vs)=ab4 (cs.set o v) (o+1) vs
 | [],o,v,vs=>rfl
 | c::cs,0,v,vs=>rfl
 | c::cs,o+1,v,vs=>by rw[ab4,List.set_cons_succ,ab4,aiM]
theorem ahm : ∀(vs:List Value) (cs:Array Value) (o:Nat),(setL cs o vs).toList=ab4 cs.toList o vs
 | [],cs,o=>by rw[aet];rfl
 | v::vs,cs,o=>by rw[setL,ahm,aiM,Array.toList_setIfInBounds]
theorem stoI{i s size:Nat}{x y:Operand}{base b o:Nat}{bt:TypeId}{cs:Array Value}{v:Value}(S:Sx K0 K w0 w M H)(hi:H[i]?=some (.box base b cs bt))(hs:aaF P s=some size)(hx:ev n σ x=.pointer (some ⟨b,o,none⟩))(hy:ev n σ y=v)
  (hl:v.cells.size=size) (h1:v.cells.toList.all one=true) (hin:o+size≤cs.size) {cs' : Array Value} (hc:ab4 cs.toList o v.cells.toList=cs'.toList)
  (h : ∀w',Sx K0 K w0 w' M (H.set i (.box base b cs' bt))→wpList P ops Q rest (fr n σ) w'):wpList P ops Q (⟨none,.store s x y,ty,pos,aft,none⟩::rest) (fr n σ) w:=by
 obtain⟨A,B,rfl,h2,_⟩:=abc hi;exact sto S hs hx hy hl h1 hin (cs':=cs') (Array.toList_inj.1 (by rw[ahm,hc])) (fun w' S'=>h w' (by rw[h2];exact S'))
theorem apdI{i j:Nat}{x y:Operand}{st e size bytes:Nat}{z:Value}{base m b:Nat}{v:Value}{k:Nat}{xs:List Value}{news:Array Value}{bt:TypeId}{base' : Nat}(S:Sx K0 K w0 w M H)(hi:H[i]?=some (.row base v e size k xs))(hj:H[j]?=some (.box base' b news bt))
  (he:abg P st=some e) (hf:(P.info? e).map (fun i=>(i.zero,i.size,i.bytes))=some (some z,size,bytes)) (hzs:z.cells.size=size) (hsz:0<size)
  (hx:ev n σ x=v) (hy:ev n σ y=.slice (some ⟨b,0,none⟩) m m) (hl:news.size=m*size) (h1:news.toList.all (fun u=>u.oneCell')=true) (hbase:base≤w0.heap.size) (hlen:(k+m)*bytes≤140737488355328) (hbp:0<bytes)
  (h : ∀v' w',Sx K0 K w0 w' M (H.set i (.row base v' e size (k+m) (xs++news.toList)))→wpList P ops Q rest (fr n (upd σ t v')) w') :
  wpList P ops Q (⟨some t,.call { callee:=.builtin .append,args:=#[x,y],argTypes:=#[st,st] },ty,pos,aft,none⟩::rest) (fr n σ) w:=by
 have hb:w.heap[b]?=some (.cells news bt (0,0)):=by
  obtain⟨A,B,rfl,_,_⟩:=abc hj;exact S.box_at.1
 obtain⟨A,B,rfl,h2,_⟩:=abc hi;exact apd S he hf hzs hsz hx hy hb hl h1 (Nat.le_trans hbase S.size) hlen hbp (fun v' w' S'=>h v' w' (by rw[h2];exact S'))
theorem anW{H:Ents}{e:Ent}(hn:H.blks.Nodup)(he:e∈H):e.bl.Nodup:=by
 obtain⟨A,B,rfl⟩:=List.append_of_mem he;unfold Ents.blks at hn;rw[List.flatMap_append,List.flatMap_cons,List.nodup_append,List.nodup_append] at hn;exact hn.2.1.1
theorem anl : ∀{H:Ents} {i j:Nat} {x y:Ent} {b:Nat},H.blks.Nodup→H[i]?=some x→H[j]?=some y→b∈x.bl→b∈y.bl→i=j
 | [],i,j,x,y,b,_,hx,_,_,_=>by simp at hx
 | e::H,i,j,x,y,b,hn,hx,hy,hxb,hyb=>by
  unfold Ents.blks at hn;rw[List.flatMap_cons,List.nodup_append] at hn;obtain⟨_,hn',hne0⟩:=hn;have hne : ∀(k:Nat) (z:Ent),H[k]?=some z→b∈z.bl→b∈e.bl→False:=fun k z hz hzb he=>hne0 b he b (List.mem_flatMap.2 ⟨z,List.mem_of_getElem? hz,hzb⟩) rfl
  cases i with
  | zero =>
   simp at hx;subst hx;cases j with
   | zero=>rfl
   | succ j=>exact (hne j y (by simpa using hy) hyb hxb).elim
  | succ i =>
   cases j with
   | zero=>simp at hy;subst hy;exact (hne i x (by simpa using hx) hxb hyb).elim
   | succ j =>
    have hx' : H[i]?=some x:=by simpa using hx
    have hy' : H[j]?=some y:=by simpa using hy
    rw[anl hn' hx' hy' hxb hyb]
theorem alS{H:Ents}(hn:H.blks.Nodup) : ∀{is:List Nat},is.Nodup→(Ents.blks (is.filterMap (fun i=>H[i]?))).Nodup
 | [],_=>by simp[Ents.blks]
 | i::is,h=>by
  rw[List.nodup_cons] at h;have ih:=alS hn h.2;rw[List.filterMap_cons];cases e:H[i]? with
  | none=>exact ih
  | some x =>
   simp only;unfold Ents.blks at ih ⊢;rw[List.flatMap_cons,List.nodup_append];refine⟨anW hn (List.mem_of_getElem? e),ih,fun a ha c hc hac=>?_⟩;subst hac;obtain⟨y,hy,hyb⟩:=List.mem_flatMap.1 hc;obtain⟨j,hj,hjy⟩:=List.mem_filterMap.1 hy;have:=anl hn e hjy ha hyb;subst this;exact h.1 hj
theorem Sx.sel(S:Sx K0 K w0 w M H)(is:List Nat)(hn:is.Nodup:=by decide):Sx K0 K w0 w M (is.filterMap (fun i=>H[i]?)):=by
 have hmem : ∀e∈is.filterMap (fun i=>H[i]?),e∈H:=fun e he=>by
  obtain⟨i,_,hi⟩:=List.mem_filterMap.1 he;exact List.mem_of_getElem? hi
 refine⟨S.sub,S.fresh,S.le,S.ext,S.size,S.os,S.tape,S.output,fun e he=>S.ents e (hmem e he),fun b hb=>?_,alS S.nodup hn⟩;obtain⟨e,he,heb⟩:=List.mem_flatMap.1 hb;exact S.free b (Ents.mem_blks (hmem e he) heb)
theorem ahs{i base e size n:Nat}{v:Value}{ys:List Value}(S:Sx K0 K w0 w M H)(hi:H[i]?=some (.row base v e size n ys)) : ∃A c,v=.slice A n c:=by
 obtain⟨A,B,rfl,_,_⟩:=abc hi;have h:w.ownsRow base e size v n ys:=S.ents (.row base v e size n ys) (by simp);rcases h.2 with ⟨rfl,rfl⟩ | ⟨g,cap,cur,rfl,_⟩
 ·exact⟨none,0,rfl⟩
 ·exact⟨_,cap,rfl⟩
end
section
variable {P:Program}{n:Nat}{σ:Nat→Value}{w:World}{K0 K:KH}{w0:World}{M:Nat→Prop}{H:Ents}
theorem res1{i base b:Nat}{cs:Array Value}{bt a s:Nat}{v:Value}(S:Sx K0 K w0 w M H)(hi:H[i]?=some (.box base b cs bt))(ha:AggB P s=some false)(hx:ev n σ (.tmp a)=.pointer (some ⟨b,0,none⟩))(hc:cs[0]?=some v):adh P w n σ (.cell a s) v:=by
 have hg:(fr n σ).tmps.getD a undef=.pointer (some ⟨b,0,none⟩):=by rw[←hx,←abj];rfl
 unfold adh resF;simp[hg,asAddr,loadVar,adp ha,S.cellAt hi hc]
theorem resN{i base b size:Nat}{cs:Array Value}{bt a s:Nat}{l:List Value}(S:Sx K0 K w0 w M H)(hi:H[i]?=some (.box base b cs bt))(ha:AggB P s=some true)(hs:aaF P s=some size)(hx:ev n σ (.tmp a)=.pointer (some ⟨b,0,none⟩))(hc:cs.toList=l)(hl:l.length=size):adh P w n σ (.cell a s) (.agg l.toArray):=by
 have hg:(fr n σ).tmps.getD a undef=.pointer (some ⟨b,0,none⟩):=by rw[←hx,←abj];rfl
 have hr:(loadCells ⟨b,0,none⟩ l.length).run P w=.ok l.toArray w:=run_loadCells_list (a:=⟨b,0,none⟩) (cs:=l) (h:=fun j v hj=>by
  rw[aeR,Nat.zero_add];refine S.cellAt hi ?_;subst hc;simpa using hj)
 rw[hl] at hr;unfold adh resF;simp[hg,asAddr,loadVar,adp ha,abf hs,hr]
end
theorem atE{α:Type}{l:List α}{b i:Nat}(h:l.length*b≤140737488355328)(hb:0<b)(hi:i<l.length):i≤140737488355328:=by
 have:l.length≤l.length*b:=Nat.le_mul_of_pos_right _ hb;omega
def aaC{α:Type}(b:Bool)(x:Option α):Option α:=cond b x none
theorem aaQ{α:Type}{p:Prop}[Decidable p]{x:Option α}{r:α}(h:aaC (decide p) x=some r):p∧x=some r:=by
 unfold aaC at h;by_cases hp:p
 ·simp[hp] at h;exact⟨hp,h⟩
 ·simp[hp] at h
theorem aav{α:Type}{xs:List α}{p:α}{b B:Nat}(h:(xs.length+1)*b≤B):(xs++[p]).length*b≤B:=by simpa using h
theorem aht{α:Type}{l:List α}{i:Nat}(h:l.drop i=[]):decide ((i:Int)<(l.length:Int))=false:=by
 have:=List.drop_eq_nil_iff.1 h;simp;omega
theorem aaR{α:Type}{l rest:List α}{x:α}{i:Nat}(h:l.drop i=x::rest):i<l.length:=by
 rcases Nat.lt_or_ge i l.length with h' | h'
 ·exact h'
 ·rw[List.drop_eq_nil_of_le h'] at h;cases h
theorem ahT{α:Type}{l rest:List α}{x:α}{i:Nat}(h:l.drop i=x::rest):decide ((i:Int)<(l.length:Int))=true:=by
 have:=aaR h;simp;omega
theorem aaB{α:Type}{l rest:List α}{x:α}{i:Nat}(h:l.drop i=x::rest):l[i]?=some x:=by
 have:(l.drop i)[0]?=some x:=by rw[h];rfl
 rw[List.getElem?_drop] at this;simpa using this
theorem aac{α:Type}{l rest:List α}{x:α}{i:Nat}(h:l.drop i=x::rest):l.drop (i+1)=rest:=by
 have:(l.drop i).drop 1=rest:=by rw[h];rfl
 rwa [List.drop_drop] at this
theorem agR(s:ByteArray):s.data.toList.length=s.size:=by rw[Array.length_toList];rfl
theorem adV{s:ByteArray}{i:Nat}(h:s.data.toList.drop i=[]):decide ((i:Int)<(s.size:Int))=false:=by rw[←agR];exact aht h
theorem ado{s:ByteArray}{rest:List UInt8}{x:UInt8}{i:Nat}(h:s.data.toList.drop i=x::rest):decide ((i:Int)<(s.size:Int))=true:=by rw[←agR];exact ahT h
theorem ajc{s:ByteArray}{rest:List UInt8}{x:UInt8}{i:Nat}(hs:s.size≤140737488355328)(h:s.data.toList.drop i=x::rest):i≤140737488355328:=by
 have:=aaR h;rw[agR] at this;omega
theorem ixN{P:Program}{ops:Array Oper}{Q:Exit→Act→World→Prop}{restO:List Oper}{n:Nat}{σ:Nat→Value}{w:World}{ty:TypeId}{pos:String}{aft:Array Edge}{t:Tmp}{st:TypeId}{x y:Operand}{s:ByteArray}{rest:List UInt8}{c:UInt8}{i:Nat}{k:IntKind}(he:StrB P st=true)(hx:ev n σ x=.string s)(hy:ev n σ y=.int k (i:Int))(hd:s.data.toList.drop i=c::rest)
  (h:wpList P ops Q restO (fr n (upd σ t (.int .u8 (c.toNat:Int)))) w):wpList P ops Q (⟨some t,.index st x y,ty,pos,aft,none⟩::restO) (fr n σ) w:=by
 have hlt:i<s.size:=by have:=aaR hd;rwa [agR] at this
 have hb:bt s i=(c.toNat:Int):=by
  have h1:=aaB hd;have h2:s[i]?=some c:=by
   have:s.data[i]?=some c:=by simpa using h1
   have h3:s[i]?=s.data[i]?:=by
    simp[getElem?_def,hlt];rfl
   rw[h3,this]
  unfold bt;rw[h2]
 refine ixT he hx hy (by omega) (by omega) ?_;rw[Int.toNat_natCast,hb];exact h
theorem aiZ{i:Nat}(h:i≤140737488355328):amM .i64 .add (i:Int) 1=some ((i+1:Nat):Int):=by
 simp only[amM,Option.some.injEq];rw[IntWalk.i64_in _ (by omega)];rfl
theorem idxN{P:Program}{ops:Array Oper}{Q:Exit→Act→World→Prop}{rest:List Oper}{n:Nat}{σ:Nat→Value}{w:World}{ty:TypeId}{pos:String}{aft:Array Edge}{t:Tmp}{s e size:Nat}{x y:Operand}{A:Option Addr}{b o len cap:Nat}{k:IntKind}{i:Nat}(he:abg P s=some e)(hs:aaF P e=some size)(hx:ev n σ x=.slice A len cap)(hA:A=some ⟨b,o,none⟩)(hy:ev n σ y=.int k (i:Int))(h1:i<len)
  (h:wpList P ops Q rest (fr n (upd σ t (.pointer (some ⟨b,o+i*size,none⟩)))) w):wpList P ops Q (⟨some t,.indexAddr s x y,ty,pos,aft,none⟩::rest) (fr n σ) w:=by
 subst hA;exact idx he hs hx hy (by omega) (by omega) h
theorem aiw{P:Program}{n:Nat}{σ:Nat→Value}{w:World}{ty:TypeId}{pos:String}{aft:Array Edge}{t:Tmp}{s e size:Nat}{x y:Operand}{A:Option Addr}{b o len cap:Nat}{k:IntKind}{i:Nat}(he:abg P s=some e)(hs:aaF P e=some size)(hx:ev n σ x=.slice A len cap)(hA:A=some ⟨b,o,none⟩)(hy:ev n σ y=.int k (i:Int))(h1:i<len) :
  (execOp (ev n σ) ⟨some t,.indexAddr s x y,ty,pos,aft,none⟩).run P w=.ok (.value (.pointer (some ⟨b,o+i*size,none⟩))) w:=by
 subst hA;exact avt he hs hx hy (by omega) (by omega)
structure RSl(α:Type)(R:α→List Value→Prop)(size bytes:Nat)(K:KH)(A:Option Addr)(c:Nat)(xs:List α):Prop where
 cap:xs.length≤c
 len:xs.length*bytes≤140737488355328
 row:Row α R size K A xs
theorem RSl.mono{α:Type}{R R' : α→List Value→Prop}{size bytes:Nat}{K K' : KH}{A:Option Addr}{c:Nat}{xs:List α}(h:RSl α R size bytes K A c xs)(hK:K.sub K')(hR : ∀x cs,R x cs→R' x cs):RSl α R' size bytes K' A c xs:=⟨h.cap,h.len,h.row.mono hK hR⟩
theorem RSl.nil{α:Type}(R:α→List Value→Prop)(size bytes:Nat)(K:KH)(A:Option Addr)(c:Nat):RSl α R size bytes K A c []:=⟨by simp,by simp,Row.nil _ _ _ _⟩
def Reps{α:Type}(R:α→List Value→Prop)(size:Nat):List α→List Value→Prop
 | [],ys=>ys=[]
 | x::xs,ys=>∃cs zs,ys=cs++zs∧cs.length=size∧R x cs∧Reps R size xs zs
theorem Reps.snoc{α:Type}{R:α→List Value→Prop}{size:Nat}{x:α}{cs:List Value}(hl:cs.length=size)(hR:R x cs) : ∀{xs:List α} {ys:List Value},Reps R size xs ys→Reps R size (xs++[x]) (ys++cs)
 | [],ys,h=>by
  have h:ys=[]:=h;subst h;exact⟨cs,[],by simp,hl,hR,rfl⟩
 | z::xs,ys,h=>by
  obtain⟨as,bs,rfl,h1,h2,h3⟩:=h;exact⟨as,bs++cs,by simp,h1,h2,Reps.snoc hl hR h3⟩
theorem Reps.mono{α:Type}{R R' : α→List Value→Prop}{size:Nat}(hR : ∀x cs,R x cs→R' x cs) : ∀{xs:List α} {ys:List Value},Reps R size xs ys→Reps R' size xs ys
 | [],ys,h=>h
 | z::xs,ys,h=>by
  obtain⟨as,bs,rfl,h1,h2,h3⟩:=h;exact⟨as,bs,rfl,h1,hR _ _ h2,Reps.mono hR h3⟩
theorem Reps.len{α:Type}{R:α→List Value→Prop}{size:Nat} : ∀{xs:List α} {ys:List Value},Reps R size xs ys→ys.length=xs.length*size
 | [],ys,h=>by
  have h:ys=[]:=h;subst h;simp
 | z::xs,ys,h=>by
  obtain⟨as,bs,rfl,h1,h2,h3⟩:=h;simp[h1,h3.len,Nat.add_mul,Nat.add_comm]
theorem Reps.at_{α:Type}{R:α→List Value→Prop}{size:Nat} : ∀{xs:List α} {ys:List Value},Reps R size xs ys→∀{i:Nat} {x:α},xs[i]?=some x→((ys.drop (i*size)).take size).length=size∧R x ((ys.drop (i*size)).take size)
 | [],ys,h,i,x,hx=>by simp at hx
 | z::xs,ys,h,i,x,hx=>by
  obtain⟨as,bs,rfl,h1,h2,h3⟩:=h;cases i with
  | zero =>
   simp at hx;subst hx;simp only[Nat.zero_mul,List.drop_zero];rw[List.take_append_of_le_length (by omega),List.take_of_length_le (by omega)];exact⟨h1,h2⟩
  | succ i =>
   simp only[List.getElem?_cons_succ] at hx;have:(as++bs).drop ((i+1)*size)=bs.drop (i*size):=by
    rw[List.drop_append,List.drop_eq_nil_of_le (by rw[h1,Nat.add_mul];omega)];simp[h1,Nat.add_mul]
   rw[this];exact h3.at_ hx
theorem Sx.shut{K0 K:KH}{w0 w:World}{M:Nat→Prop}{A B:Ents}{base:Nat}{v:Value}{e size n bytes:Nat}{ys:List Value}{α:Type}{R:KH→α→List Value→Prop}{xs:List α}(S:Sx K0 K w0 w M (A++.row base v e size n ys::B))(hbase:w0.heap.size≤base)(hr:Reps (R K) size xs ys)(hn:n=xs.length)(hb:xs.length*bytes≤140737488355328)(hR : ∀{K K' : KH},K.sub K'→∀x cs,R K x cs→R K' x cs) :
  ∃K' Ad c,v=.slice Ad xs.length c∧Sx K0 K' w0 w M (A++B)∧K.sub K'∧RSl α (R K') size bytes K' Ad c xs:=by
 have hrow:w.ownsRow base e size v n ys:=S.ents (.row base v e size n ys) (by simp);have hlen:=hr.len;rcases hrow.2 with ⟨rfl,h0⟩ | ⟨g,cap,cur,rfl,hg,hh,h1,h2,h3,h4⟩
 ·subst hn;have hx:xs=[]:=List.eq_nil_of_length_eq_zero h0;subst hx;exact⟨K,none,0,rfl,S.drop ((List.Sublist.refl _).append (List.sublist_cons_self _ _)),KH.sub.refl _,RSl.nil _ _ _ _ _ _⟩
 ·subst hn;obtain⟨T,hs⟩:=S.freeze (b:=g) rfl (by omega) hh;refine⟨_,some ⟨g,0,none⟩,cap,rfl,T,hs,h1,hb,g,0,fun i=>(ys.drop (i*size)).take size,fun _=>rfl,fun i hi=>?_,fun i x hx=>hR hs _ _ (hr.at_ hx).2⟩;obtain⟨x,hx⟩ : ∃x,xs[i]?=some x:=⟨xs[i],by simp[hi]⟩;refine⟨(hr.at_ hx).1,fun j u hj=>?_⟩;have hj' : j<size:=by
   have:=(List.getElem?_eq_some_iff.1 hj).1;simp at this;omega
  rw[List.getElem?_take_of_lt hj',List.getElem?_drop] at hj;unfold KH.cell KH.put;rw[if_pos rfl];rw[←h4,List.getElem?_take_of_lt (by
   have:i*size+size≤xs.length*size:=by rw[←Nat.succ_mul];exact Nat.mul_le_mul_right _ hi
   omega)] at hj
  simpa using hj
section
variable {K0 K:KH}{w0 w:World}{M:Nat→Prop}{H:Ents}
theorem abD{i:Nat}{base:Nat}{A:Option Addr}{c e size bytes:Nat}{ys:List Value}{α:Type}{R:KH→α→List Value→Prop}{xs:List α}(S:Sx K0 K w0 w M H)(hi:H[i]?=some (.row base (.slice A xs.length c) e size xs.length ys))(hbase:w0.heap.size≤base)(hr:Reps (R K) size xs ys)(hb:xs.length*bytes≤140737488355328)(hR : ∀{K K' : KH},K.sub K'→∀x cs,R K x cs→R K' x cs) :
  ∃K',Sx K0 K' w0 w M (H.eraseIdx i)∧K.sub K'∧RSl α (R K') size bytes K' A c xs:=by
 obtain⟨X,Y,rfl,_,h3⟩:=abc hi;rw[h3];obtain⟨K',Ad,c',he,hS,hs,hrow⟩:=S.shut (bytes:=bytes) hbase hr rfl hb hR;injection he with h1 h2 h3
 subst h1 h3;exact⟨K',hS,hs,hrow⟩
end
section
variable {P:Program}{ops:Array Oper}{Q:Exit→Act→World→Prop}{rest:List Oper}{n:Nat}{σ:Nat→Value}{w:World}{ty:TypeId}{pos:String}{aft:Array Edge}{t:Tmp}
 {K0 K:KH} {w0:World} {M:Nat→Prop} {H:Ents}
theorem apR{α:Type}{R:α→List Value→Prop}{i j:Nat}{x y:Operand}{st e size bytes:Nat}{z:Value}{base base' b:Nat}{A:Option Addr}{c:Nat}{xs:List α}{ys:List Value}{p:α}{news:Array Value}{bt:TypeId}(S:Sx K0 K w0 w M H)(hi:H[i]?=some (.row base (.slice A xs.length c) e size xs.length ys))(hj:H[j]?=some (.box base' b news bt))
  (he:abg P st=some e) (hf:(P.info? e).map (fun i=>(i.zero,i.size,i.bytes))=some (some z,size,bytes)) (hzs:z.cells.size=size) (hsz:0<size)
  (hx:ev n σ x=.slice A xs.length c) (hy:ev n σ y=.slice (some ⟨b,0,none⟩) 1 1) (hr:Reps R size xs ys) (hp:R p news.toList) (hl:news.size=size) (h1:news.toList.all (fun u=>u.oneCell')=true) (hbase:base≤w0.heap.size) (hlen:(xs.length+1)*bytes≤140737488355328) (hbp:0<bytes)
  (h : ∀A' c' ys' w',Sx K0 K w0 w' M (H.set i (.row base (.slice A' (xs++[p]).length c') e size (xs++[p]).length ys'))→Reps R size (xs++[p]) ys'→wpList P ops Q rest (fr n (upd σ t (.slice A' (xs++[p]).length c'))) w') :
  wpList P ops Q (⟨some t,.call { callee:=.builtin .append,args:=#[x,y],argTypes:=#[st,st] },ty,pos,aft,none⟩::rest) (fr n σ) w:=by
 refine apdI S hi hj he hf hzs hsz hx hy (by rw[hl];omega) h1 hbase hlen hbp ?_;intro v' w' S';have hlt:i<H.length:=(List.getElem?_eq_some_iff.1 hi).1;obtain⟨A',c',rfl⟩:=ahs (i:=i) S' (by rw[List.getElem?_set_self hlt]);have hlen2:xs.length+1=(xs++[p]).length:=by simp
 rw[hlen2] at S' ⊢;exact h A' c' _ w' S' (Reps.snoc (by simpa using hl) hp hr)
end
section
variable {P:Program}{ops:Array Oper}{Q:Exit→Act→World→Prop}{E:List Nat}{F:World→Prop}
def Held(E:List Nat)(F:World→Prop)(L:Array Bool)(w:World):Prop:=(∀e∈E,L.getD e true=false)→F w
def AnyE(P:Program)(ops:Array Oper)(Q:Exit→Act→World→Prop)(E:List Nat)(F:World→Prop):Nat→Array Bool→Act→World→Prop
 | 0,L,a,w=>Region.ready .any ops L=[]∧Q .normal a w
 | f+1,L,a,w=>(Region.ready .any ops L=[]→Q .normal a w) ∧
  ∀i∈Region.ready .any ops L,wpOp P ops Q i (fun a' w'=>Held E F (L.setIfInBounds i true) w'∧AnyE P ops Q E F f (L.setIfInBounds i true) a' w') a w
theorem AnyE.any : ∀(f:Nat) (L:Array Bool) (a:Act) (w:World),AnyE P ops Q E F f L a w→wpAny P .any ops Q f L a w
 | 0,_,_,_,h=>h
 | f+1,_,_,_,h=>⟨h.1,fun i hi=>wpOp_mono (fun a' w' h'=>AnyE.any f _ a' w' h'.2) (h.2 i hi)⟩
def ahP(ops:Array Oper)(L:Array Bool):Prop:=∀j o,ops[j]?=some o→L.getD j false=true→∀e∈o.after,Region.binds .any e=true→L.getD e.on false=true
def aqi(ops:Array Oper)(L:Array Bool):Bool:=(List.range ops.size).all fun j=>!L.getD j false||match ops[j]? with | some o=>o.after.all fun e=>!Region.binds .any e||L.getD e.on false | none=>true
theorem adM{L:Array Bool}(h:aqi ops L=true):ahP ops L:=by
 intro j o hj hL e he hb;have hlt:j<ops.size:=(Array.getElem?_eq_some_iff.1 hj).1;have h1:=List.all_eq_true.1 h j (List.mem_range.2 hlt);simp only[hL,Bool.not_true,Bool.false_or,hj] at h1;have h2:=Array.all_eq_true'.1 h1 e he;simpa[hb] using h2
theorem ahP.set{L:Array Bool}{i:Nat}(h:ahP ops L)(hi:i∈Region.ready .any ops L):ahP ops (L.setIfInBounds i true):=by
 intro j o hj hL e he hb;by_cases hji:i=j
 ·subst hji;obtain⟨_,o',ho',hall⟩:=mem_ready.1 hi;rw[hj] at ho';cases ho';exact getD_set_true (hall e he hb)
 ·rw[getD_set_ne false hji] at hL;exact getD_set_true (h j o hj hL e he hb)
def aqH(ops:Array Oper)(i:Nat):List Nat→Bool
 | []=>false
 | [j]=>j==i
 | j::k::l=>(match ops[j]? with | some o=>o.after.any (fun e=>Region.binds .any e&&e.on==k) | none=>false)&&aqH ops i (k::l)
theorem ahi{L:Array Bool}{i:Nat}(hc:ahP ops L) : ∀(l:List Nat) (j:Nat),aqH ops i (j::l)=true→L.getD j false=true→L.getD i false=true
 | [],j,h,hL=>by
  simp only[aqH,beq_iff_eq] at h;subst h;exact hL
 | k::l,j,h,hL=>by
  simp only[aqH,Bool.and_eq_true] at h;refine ahi hc l k h.2 ?_;cases hj:ops[j]? with
  | none=>rw[hj] at h;simp at h
  | some o =>
   rw[hj] at h;obtain⟨e,he,hb⟩:=Array.any_eq_true'.1 h.1;simp only[Bool.and_eq_true,beq_iff_eq] at hb;have:=hc j o hj hL e he hb.1
   rwa [hb.2] at this
def ad9(ops:Array Oper)(i:Nat)(E:List Nat)(ps:List (List Nat)):Bool:=E.all fun e=>ps.any fun p=>match p with | j::l=>j==e&&aqH ops i (j::l) | []=>false
theorem aiG{L:Array Bool}{i e:Nat}{ps:List (List Nat)}(hc:ahP ops L)(hw:ad9 ops i E ps=true)(he:e∈E)(hi:L.getD i false=false):L.getD e false=false:=by
 have h1:=List.all_eq_true.1 hw e he;obtain⟨p,_,hp⟩:=List.any_eq_true.1 h1;cases p with
 | nil=>simp at hp
 | cons j l =>
  simp only[Bool.and_eq_true,beq_iff_eq] at hp;obtain⟨rfl,hp⟩:=hp;cases hL:L.getD j false with
  | false=>rfl
  | true=>rw[ahi hc l j hp hL] at hi;cases hi
theorem aqU{L:Array Bool}{i:Nat}(hs:i<L.size)(d:Bool)(h:L.getD i false=false):L.getD i d=false:=by
 simp[Array.getD,hs] at h ⊢;exact h
theorem adD{i:Nat}{oi:Oper}{v:Value}{ps:List (List Nat)}{G:World→Prop}(hi:ops[i]?=some oi)(hsel : ∀(j:Nat) (o:Oper) cs b,ops[j]?=some o→o.op≠.select cs b)
  (hQ : ∀c a w,Q (.panic c) (a.put oi.dst v) w→Q (.panic c) a w) (hG:(∀w,F w→G w)∧ad9 ops i E ps=true∧(∀e∈E,e<ops.size)∨∀w,G w) (hE:i∉E) :
  ∀(fuel:Nat) (L:Array Bool) (a:Act) (w:World),L.size=ops.size→ahP ops L →
   (∀j oj,ops[j]?=some oj→j≠i→L.getD j true=false→(∀e∈oj.after,Region.binds .any e=true→e.on≠i)→oi.apart ops oj=true) →
   i∈Region.ready .any ops L→YieldsIf P ops G oi v a→G w→Held E F L w →
   AnyE P ops Q E F fuel (L.setIfInBounds i true) (a.put oi.dst v) w→AnyE P ops Q E F (fuel+1) L a w:=by
 intro fuel;have hHeld : ∀(L:Array Bool) (w:World),Held E F (L.setIfInBounds i true) w→Held E F L w:=fun L w h hE'=>h fun e he=>by
  rw[getD_set_ne true (by rintro rfl;exact hE he)];exact hE' e he
 have hHeld' : ∀(L:Array Bool) (w:World),Held E F L w→Held E F (L.setIfInBounds i true) w:=fun L w h hE'=>h fun e he=>by
  have:=hE' e he
  rwa [getD_set_ne true (by rintro rfl;exact hE he)] at this
 induction fuel with
 | zero =>
  intro L a w _ _ _ hr hy hS hH H;refine⟨fun h=>(by rw[h] at hr;cases hr),fun j hj=>?_⟩;by_cases hji:j=i
  ·subst hji;exact hy.wpOp hi hS ⟨hHeld' L w hH,H⟩
  ·have:=ready_mono hj hji;rw[H.1] at this;cases this
 | succ fuel ih =>
  intro L a w hsz hcl hfree hr hy hS hH H;refine⟨fun h=>(by rw[h] at hr;cases hr),fun j hj=>?_⟩;by_cases hji:j=i
  ·subst hji;exact hy.wpOp hi hS ⟨hHeld' L w hH,H⟩
  ·have h1:=H.2 j (ready_mono hj hji);obtain⟨hjun,oj,hoj,hall⟩:=mem_ready.1 hj;have hi0:L.getD i false=false:=by
    have h0:=(mem_ready.1 hr).1;rcases Nat.lt_or_ge i L.size with h' | h'
    ·simp[Array.getD,h'] at h0 ⊢;exact h0
    ·simp[Array.getD];intro h;omega
   have hnot : ∀e∈oj.after,Region.binds .any e=true→e.on≠i:=fun e he hb heq=>by
    have h1:=hall e he hb;rw[heq,hi0] at h1;cases h1
   have h2:=wpOp_putIf hoj (hfree j oj hoj hji hjun hnot) (fun cs b=>hsel i oi cs b hi) (fun cs b=>hsel j oj cs b hoj) hQ hy h1;have hfree' : ∀k ok,ops[k]?=some ok→k≠i→(L.setIfInBounds j true).getD k true=false →
     (∀e∈ok.after,Region.binds .any e=true→e.on≠i)→oi.apart ops ok=true:=fun k ok hk hki hun hno=>by
    refine hfree k ok hk hki ?_ hno;by_cases hjk:j=k
    ·subst hjk;exact hjun
    ·rw[getD_set_ne true hjk] at hun;exact hun
   have hcl':=hcl.set hj;have hi1:(L.setIfInBounds j true).getD i false=false:=by rw[getD_set_ne false hji];exact hi0
   refine wpOp_mono (fun a' w' h3=>?_) h2;have hcomm:(L.setIfInBounds i true).setIfInBounds j true=(L.setIfInBounds j true).setIfInBounds i true:=Array.setIfInBounds_comm _ _ (Ne.symm hji);have hH' : Held E F (L.setIfInBounds j true) w':=hHeld _ _ (by rw[←hcomm];exact h3.2.1);have hG' : G w':=by
    rcases hG with ⟨hFG,hw,hlt⟩ | hG
    ·refine hFG _ (hH' fun e he=>?_);exact aqU (by simp[hsz];exact hlt e he) true (aiG hcl' hw he hi1)
    ·exact hG _
   refine⟨hH',ih (L.setIfInBounds j true) a' w' (by simp[hsz]) hcl' hfree' (ready_mono hr (Ne.symm hji)) h3.1 hG' hH' ?_⟩;rw[←hcomm];exact h3.2.2
def PQ(Q:Exit→Act→World→Prop):Prop:=∀c (a:Act) (d:Option Tmp) v w,Q (.panic c) (a.put d v) w→Q (.panic c) a w
def ab2(ops:Array Oper)(E:List Nat)(ps:List (List Nat))(L:Array Bool)(i:Nat):Bool :=
 Region.free .any ops L i&&(Region.ready .any ops L).contains i&&aqi ops L&&L.size==ops.size&&!E.contains i
end
section
variable {P:Program}{ops:Array Oper}{Q:Exit→Act→World→Prop}{E:List Nat}{F:World→Prop}{n:Nat}{σ:Nat→Value}{w:World}{ty:TypeId}{pos:String}{aft:Array Edge}
theorem tkP{i fuel:Nat}{t:Tmp}{op:Op}{v:Value}{L L' : Array Bool}(hi:ops[i]?=some ⟨some t,op,ty,pos,aft,none⟩)(hsel:Region.noSelect ops=true)(hb:ab2 ops E [] L i=true)
  (hQ:PQ Q) (hy : ∀w,(execOp (ev n σ) ⟨some t,op,ty,pos,aft,none⟩).run P w=.ok (.value v) w) (hH:Held E F L w) (hL:L.setIfInBounds i true=L')
  (h:AnyE P ops Q E F fuel L' (fr n (upd σ t v)) w):AnyE P ops Q E F (fuel+1) L (fr n σ) w:=by
 simp only[ab2,Bool.and_eq_true,beq_iff_eq,Bool.not_eq_true'] at hb;obtain⟨⟨⟨⟨h1,h2⟩,h3⟩,h4⟩,h5⟩:=hb;refine adD (ps:=[]) (G:=fun _=>True) hi (Region.noSelect_spec hsel) (fun c a w h=>hQ c a _ _ w h) (.inr fun _=>trivial) (by simpa using h5) fuel L (fr n σ) w h4 (adM h3) (Region.free_spec hi h1) (by simpa using h2)
  (.inl ⟨by simp[Region.wanted],fun w _=>by rw[abj];exact hy w⟩) trivial hH (by rw[hL,acA];exact h)
theorem tkF{i fuel:Nat}{t:Tmp}{op:Op}{v:Value}{ps:List (List Nat)}{L L' : Array Bool}(hi:ops[i]?=some ⟨some t,op,ty,pos,aft,none⟩)(hsel:Region.noSelect ops=true)(hb:ab2 ops E ps L i=true)(hw:ad9 ops i E ps=true)(hlt:E.all (fun e=>decide (e<ops.size))=true)
  (hQ:PQ Q) (hF:F w) (hy : ∀w,F w→(execOp (ev n σ) ⟨some t,op,ty,pos,aft,none⟩).run P w=.ok (.value v) w) (hL:L.setIfInBounds i true=L')
  (h:AnyE P ops Q E F fuel L' (fr n (upd σ t v)) w):AnyE P ops Q E F (fuel+1) L (fr n σ) w:=by
 simp only[ab2,Bool.and_eq_true,beq_iff_eq,Bool.not_eq_true'] at hb;obtain⟨⟨⟨⟨h1,h2⟩,h3⟩,h4⟩,h5⟩:=hb;refine adD (ps:=ps) (G:=F) hi (Region.noSelect_spec hsel) (fun c a w h=>hQ c a _ _ w h) (.inl ⟨fun _ h=>h,hw,fun e he=>by simpa using List.all_eq_true.1 hlt e he⟩) (by simpa using h5) fuel L (fr n σ) w h4 (adM h3) (Region.free_spec hi h1) (by simpa using h2)
  (.inl ⟨by simp[Region.wanted],fun w hw=>by rw[abj];exact hy w hw⟩) hF (fun _=>hF) (by rw[hL,acA];exact h)
theorem tkPG{i fuel:Nat}{t:Tmp}{op:Op}{v:Value}{L L' : Array Bool}{j:Nat}{b:Bool}{d:Tmp}(hi:ops[i]?=some ⟨some t,op,ty,pos,aft,some (j,b)⟩)(hsel:Region.noSelect ops=true)(hb:ab2 ops E [] L i=true)
  (hQ:PQ Q) (hj:(ops[j]?).bind (·.dst)=some d) (hv:ev n σ (.tmp d)=.bool b) (hy : ∀w,(execOp (ev n σ) ⟨some t,op,ty,pos,aft,none⟩).run P w=.ok (.value v) w) (hH:Held E F L w) (hL:L.setIfInBounds i true=L')
  (h:AnyE P ops Q E F fuel L' (fr n (upd σ t v)) w):AnyE P ops Q E F (fuel+1) L (fr n σ) w:=by
 simp only[ab2,Bool.and_eq_true,beq_iff_eq,Bool.not_eq_true'] at hb;obtain⟨⟨⟨⟨h1,h2⟩,h3⟩,h4⟩,h5⟩:=hb;refine adD (ps:=[]) (G:=fun _=>True) hi (Region.noSelect_spec hsel) (fun c a w h=>hQ c a _ _ w h) (.inr fun _=>trivial) (by simpa using h5) fuel L (fr n σ) w h4 (adM h3) (Region.free_spec hi h1) (by simpa using h2)
  (.inl ⟨by simp[Region.wanted,yielded,hj,aeu hv],fun w _=>by rw[abj];exact hy w⟩) trivial hH (by rw[hL,acA];exact h)
theorem tkFG{i fuel:Nat}{t:Tmp}{op:Op}{v:Value}{ps:List (List Nat)}{L L' : Array Bool}{j:Nat}{b:Bool}{d:Tmp}(hi:ops[i]?=some ⟨some t,op,ty,pos,aft,some (j,b)⟩)(hsel:Region.noSelect ops=true)(hb:ab2 ops E ps L i=true)(hw:ad9 ops i E ps=true)(hlt:E.all (fun e=>decide (e<ops.size))=true)
  (hQ:PQ Q) (hj:(ops[j]?).bind (·.dst)=some d) (hv:ev n σ (.tmp d)=.bool b) (hF:F w) (hy : ∀w,F w→(execOp (ev n σ) ⟨some t,op,ty,pos,aft,none⟩).run P w=.ok (.value v) w) (hL:L.setIfInBounds i true=L')
  (h:AnyE P ops Q E F fuel L' (fr n (upd σ t v)) w):AnyE P ops Q E F (fuel+1) L (fr n σ) w:=by
 simp only[ab2,Bool.and_eq_true,beq_iff_eq,Bool.not_eq_true'] at hb;obtain⟨⟨⟨⟨h1,h2⟩,h3⟩,h4⟩,h5⟩:=hb;refine adD (ps:=ps) (G:=F) hi (Region.noSelect_spec hsel) (fun c a w h=>hQ c a _ _ w h) (.inl ⟨fun _ h=>h,hw,fun e he=>by simpa using List.all_eq_true.1 hlt e he⟩) (by simpa using h5) fuel L (fr n σ) w h4 (adM h3) (Region.free_spec hi h1) (by simpa using h2)
  (.inl ⟨by simp[Region.wanted,yielded,hj,aeu hv],fun w hw=>by rw[abj];exact hy w hw⟩) hF (fun _=>hF) (by rw[hL,acA];exact h)
theorem tkO{i fuel:Nat}{o:Oper}{t:Tmp}{L L' : Array Bool}{j:Nat}{b:Bool}{d:Tmp}(hi:ops[i]?=some o)(ho:o.dst=some t)(hg:o.guard=some (j,b))(hsel:Region.noSelect ops=true)(hb:ab2 ops E [] L i=true)
  (hQ:PQ Q) (hj:(ops[j]?).bind (·.dst)=some d) (hv:ev n σ (.tmp d)=.bool (!b)∨ev n σ (.tmp d)=undef) (hH:Held E F L w) (hL:L.setIfInBounds i true=L')
  (h:AnyE P ops Q E F fuel L' (fr n (upd σ t undef)) w):AnyE P ops Q E F (fuel+1) L (fr n σ) w:=by
 simp only[ab2,Bool.and_eq_true,beq_iff_eq,Bool.not_eq_true'] at hb;obtain⟨⟨⟨⟨h1,h2⟩,h3⟩,h4⟩,h5⟩:=hb;have hw:Region.wanted o (yielded ops (fr n σ).tmps)=false:=by
  rcases hv with hv | hv
  ·simp[Region.wanted,hg,yielded,hj,aeu hv]
  ·have:(fr n σ).tmps[d]?=some undef∨(fr n σ).tmps[d]?=none:=by
    rw[afT];by_cases e:d<n
    ·simp only[ev,asX e] at hv;rw[if_pos e];exact .inl (congrArg some hv)
    ·rw[if_neg e];exact .inr rfl
   rcases this with e | e<;>simp[Region.wanted,hg,yielded,hj,e,undef]
 refine adD (v:=undef) (ps:=[]) (G:=fun _=>True) hi (Region.noSelect_spec hsel) (fun c a w h=>hQ c a _ _ w h) (.inr fun _=>trivial) (by simpa using h5) fuel L (fr n σ) w h4 (adM h3) (Region.free_spec hi h1) (by simpa using h2)
  (.inr ⟨hw,rfl⟩) trivial hH (by rw[hL,ho,acA];exact h)
theorem ad6{rs:List Nat}{fuel:Nat}{L:Array Bool}{a:Act}(hr:Region.ready .any ops L=rs)(hne:rs≠[])
  (h : ∀i∈rs,wpOp P ops Q i (fun a' w'=>Held E F (L.setIfInBounds i true) w'∧AnyE P ops Q E F fuel (L.setIfInBounds i true) a' w') a w):AnyE P ops Q E F (fuel+1) L a w :=
 ⟨fun h0=>absurd (hr▸h0) hne,hr▸h⟩
theorem ake{fuel:Nat}{L:Array Bool}{a:Act}(hr:Region.ready .any ops L=[])(h:Q .normal a w):AnyE P ops Q E F fuel L a w:=by
 cases fuel with
 | zero=>exact⟨hr,h⟩
 | succ f=>exact⟨fun _=>h,by rw[hr];simp⟩
theorem opL{i:Nat}{o:Oper}{K:Act→World→Prop}{a:Act}(hi:ops[i]?=some o)(h:wpList P ops (Exit.then K Q) [o] a w):wpOp P ops Q i K a w:=by
 unfold wpOp;rw[hi];simp only;unfold wpList at h;split
 ·rename_i hw;rw[if_pos hw] at h;refine h.imp (fun h=>?_) (fun h=>⟨h.1,?_⟩)
  ·unfold Oper.wp at h ⊢;generalize (execOp a.eval o).run P w=r at *;cases r with
   | ok x w'=>cases x<;>simp only[Oper.upon] at h ⊢<;>first | exact h | (refine Calls.mono h fun e w'' he=>?_;cases e<;>first | exact he | (obtain⟨a,w,hq⟩:=he;exact⟨a,w,hq⟩))
   | halt x w'=>cases x<;>simp only[Oper.upon] at h ⊢<;>exact h
  ·obtain⟨a,w,hq⟩:=h.2;exact⟨a,w,hq⟩
 ·rename_i hw;rw[if_neg hw] at h;exact h
theorem awV{id:Nat}{l:List Oper}{a:Act}{L:Array Bool}{k:Nat}(hm:P.follows .mixedOrders=true)(hk:l.length=k)(hL:Array.replicate k false=L)
  (h:AnyE P l.toArray Q E F k L a w.drew):(Code.region id l.toArray true).wp P Q a w:=by
 subst hk hL;refine wp_region_any hm ?_;have:=AnyE.any _ _ _ _ h;simpa using this
def FW(K:KH)(H:Ents)(w:World):Prop:=K.le w∧∀e∈H,Ent.holds w e
section
variable {P:Program}{n:Nat}{σ:Nat→Value}{w:World}{ty:TypeId}{pos:String}{aft:Array Edge}{t:Tmp}{K:KH}{H:Ents}
theorem FW.cell(S:FW K H w){b i:Nat}{v:Value}(h:K.cell b i=some v):w.cell? ⟨b,i,none⟩=some v:=S.1.cell h
end
theorem fwOf{K0 K K' : KH}{w0 w:World}{M:Nat→Prop}{H H' : Ents}{is:List Nat}(S:Sx K0 K' w0 w M H')(hs:K.sub K')(h:is.filterMap (fun i=>H'[i]?)=H):FW K H w :=
 ⟨fun b o hb=>S.le b o (hs b o hb),fun e he=>by
  rw[←h] at he;obtain⟨i,_,hi⟩:=List.mem_filterMap.1 he;exact S.ents e (List.mem_of_getElem? hi)⟩
theorem axE{E:List Nat}{F:World→Prop}{L:Array Bool}{w:World}{i:Nat}(h1:E.contains i=true)(h2:L.getD i true=true):Held E F L w:=fun h=>by
 rw[h i (by simpa using h1)] at h2;cases h2
theorem ak7{E:List Nat}{F:World→Prop}{L:Array Bool}{w:World}(h:F w):Held E F L w:=fun _=>h
theorem allN{p:Nat→Prop} : ∀i∈([]:List Nat),p i:=fun i h=>by cases h
theorem allC{p:Nat→Prop}{a:Nat}{l:List Nat}(h1:p a)(h2 : ∀i∈l,p i) : ∀i∈a::l,p i:=fun i h=>by
 rcases List.mem_cons.1 h with rfl | h
 ·exact h1
 ·exact h2 i h
theorem Sx.fw{K0 K:KH}{w0:World}{M:Nat→Prop}{H:Ents}(S:Sx K0 K w0 w M H):FW K H w:=⟨S.le,S.ents⟩
end
theorem abo{α:Type}{R:α→List Value→Prop}{size:Nat}:Reps R size [] []:=rfl
def idxO{α:Type}(xs:List α)(e:Int):Option α:=if 0≤e then xs[e.toNat]? else none
theorem aay{α:Type}{xs:List α}{e:Int}{x:α}(h:idxO xs e=some x):xs[e.toNat]?=some x∧0≤e∧e<(xs.length:Int):=by
 unfold idxO at h;split at h
 ·rename_i h0;have:=(List.getElem?_eq_some_iff.1 h).1;exact⟨h,h0,by omega⟩
 ·cases h
section
variable {P:Program}{ops:Array Oper}{Q:Exit→Act→World→Prop}{rest:List Oper}{n:Nat}{σ:Nat→Value}{w:World}{ty:TypeId}{pos:String}{aft:Array Edge}{t:Tmp}
 {K0 K:KH} {w0:World} {M:Nat→Prop} {H:Ents}
theorem ahI{s e size:Nat}{x y:Operand}{A:Option Addr}{b o len cap:Nat}{k:IntKind}{i:Int}(he:abg P s=some e)(hs:aaF P e=some size)(hx:ev n σ x=.slice A len cap)(hA:A=some ⟨b,o,none⟩)(hy:ev n σ y=.int k i)(h0:0≤i)(h1:i<(len:Int)) :
  (execOp (ev n σ) ⟨some t,.indexAddr s x y,ty,pos,aft,none⟩).run P w=.ok (.value (.pointer (some ⟨b,o+i.toNat*size,none⟩))) w:=by
 subst hA;exact avt he hs hx hy h0 h1
theorem idxG{s e size:Nat}{x y:Operand}{A:Option Addr}{b o len cap:Nat}{k:IntKind}{i:Int}(he:abg P s=some e)(hs:aaF P e=some size)(hx:ev n σ x=.slice A len cap)(hA:A=some ⟨b,o,none⟩)(hy:ev n σ y=.int k i)(h0:0≤i)(h1:i<(len:Int))
 (h:wpList P ops Q rest (fr n (upd σ t (.pointer (some ⟨b,o+i.toNat*size,none⟩)))) w):wpList P ops Q (⟨some t,.indexAddr s x y,ty,pos,aft,none⟩::rest) (fr n σ) w:=aaO (ahI he hs hx hA hy h0 h1) h
theorem Sx.entAt{i:Nat}{e:Ent}(S:Sx K0 K w0 w M H)(hi:H[i]?=some e):Ent.holds w e:=S.ents e (List.mem_of_getElem? hi)
theorem FW.entAt{i:Nat}{e:Ent}(S:FW K H w)(hi:H[i]?=some e):Ent.holds w e:=S.2 e (List.mem_of_getElem? hi)
theorem afg{α:Type}{R:α→List Value→Prop}{base e size c i:Nat}{A:Option Addr}{xs:List α}{ys:List Value}(h:Ent.holds w (.row base (.slice A xs.length c) e size xs.length ys))(hr:Reps R size xs ys){x:α}(hx:xs[i]?=some x) :
  ∃b cs,A=some ⟨b,0,none⟩∧cs.length=size∧R x cs∧∀w',Ent.holds w' (.row base (.slice A xs.length c) e size xs.length ys)→adZ (fun k=>w'.cell? ⟨b,k,none⟩) (0+i*size) cs:=by
 have hlt:i<xs.length:=(List.getElem?_eq_some_iff.1 hx).1;have key : ∀w',Ent.holds w' (.row base (.slice A xs.length c) e size xs.length ys)→∃g cur,A=some ⟨g,0,none⟩∧w'.heap[g]?=some (.cells cur e (0,0))∧cur.toList.take (xs.length*size)=ys:=by
  intro w' h';rcases h'.2 with ⟨h1,h0⟩ | ⟨g,cap,cur,h1,_,hh,_,_,_,h4⟩
  ·omega
  ·injection h1 with h1 h2 h3
   exact⟨g,cur,h1,hh,h4⟩
 obtain⟨g,cur,hA,_,_⟩:=key w h;refine⟨g,(ys.drop (i*size)).take size,hA,(hr.at_ hx).1,(hr.at_ hx).2,fun w' h' j v hj=>?_⟩;obtain⟨g',cur',hA',hh,h4⟩:=key w' h';rw[hA] at hA';cases hA';have hj' : j<size:=by
  have:=(List.getElem?_eq_some_iff.1 hj).1;simp at this;omega
 have hb:i*size+j<xs.length*size:=by
  have:i*size+size≤xs.length*size:=by rw[←Nat.succ_mul];exact Nat.mul_le_mul_right _ hlt
  omega
 rw[List.getElem?_take_of_lt hj',List.getElem?_drop,←h4,List.getElem?_take_of_lt hb] at hj;simp only[World.cell?,hh,Nat.zero_add];simpa using hj
theorem RSl.take{α:Type}{R:α→List Value→Prop}{size bytes:Nat}{A:Option Addr}{c:Nat}{xs:List α}(h:RSl α R size bytes K A c xs)(m:Nat):RSl α R size bytes K A c (xs.take m):=by
 obtain⟨b,o,cs,h1,h2,h3⟩:=h.row;have hle:(xs.take m).length≤xs.length:=by simp;omega
 refine⟨Nat.le_trans hle h.cap,Nat.le_trans (Nat.mul_le_mul_right _ hle) h.len,b,o,cs,fun hne=>h1 (by rintro rfl;simp at hne),fun i hi=>h2 i (by omega),fun i x hx=>h3 i x ?_⟩;rw[List.getElem?_take] at hx;split at hx
 ·exact hx
 ·cases hx
theorem amL(A:Option Addr)(h c size:Nat):sliced A 0 h c size=.slice A h c:=by
 unfold sliced;have : ∀A:Option Addr,A.map (·.add (0*size))=A:=by
  intro A;cases A<;>simp[Addr.add]
 rw[this];simp
theorem aoM{e:Nat}(he:abg P t=some e):P.elem t=e:=by
 have:=abu he;unfold Program.elem;simp[this]
theorem aoo{s e size len c:Nat}{x y:Operand}{A:Option Addr}{k:IntKind}{i:Int}{m:Nat}(he:abg P s=some e)(hs:aaF P e=some size)(hx:ev n σ x=.slice A len c)(hy:ev n σ y=.int k i)(h0:0≤i)(h1:i≤(c:Int))(hm:i.toNat=m) :
  (execOp (ev n σ) ⟨some t,.slice s x none (some y) none,ty,pos,aft,none⟩).run P w=.ok (.value (.slice A m c)) w:=by
 have hu:P.underlying s=some (.slice (P.elem s)):=by rw[aoM he];exact abu he
 have hr:=run_slice_h (P:=P) w s A len c hu k i h0 h1;rw[aoM he,abf hs] at hr;simp only[Result.andThen_ok,amL] at hr;simp[execOp,hx,hy,run_sliceAt_slice w s _ _ _ _ hu,hr,hm]
theorem slH{s e size len c:Nat}{x y:Operand}{A:Option Addr}{k:IntKind}{i:Int}{m:Nat}(he:abg P s=some e)(hs:aaF P e=some size)(hx:ev n σ x=.slice A len c)(hy:ev n σ y=.int k i)(h0:0≤i)(h1:i≤(c:Int))(hm:i.toNat=m)
 (h:wpList P ops Q rest (fr n (upd σ t (.slice A m c))) w):wpList P ops Q (⟨some t,.slice s x none (some y) none,ty,pos,aft,none⟩::rest) (fr n σ) w:=aaO (aoo he hs hx hy h0 h1 hm) h
theorem afE{α:Type}{xs:List α}{e:Int}(h:0≤e∧e≤(xs.length:Int)):e.toNat=(xs.take e.toNat).length:=by simp;omega
theorem Reps.take{α:Type}{R:α→List Value→Prop}{size:Nat} : ∀{xs:List α} {ys:List Value},Reps R size xs ys→∀m,Reps R size (xs.take m) (ys.take (m*size))
 | [],ys,h,m=>by
  have h:ys=[]:=h;subst h;simp;rfl
 | z::xs,ys,h,0=>by simp;rfl
 | z::xs,ys,h,m+1=>by
  obtain⟨as,bs,rfl,h1,h2,h3⟩:=h;refine⟨as,bs.take (m*size),?_,h1,h2,h3.take m⟩;rw[List.take_append,List.take_of_length_le (by rw[h1,Nat.add_mul];omega)];congr 2;rw[h1,Nat.add_mul];omega
theorem Sx.cut_{i base e size c m:Nat}{A:Option Addr}{α:Type}{R:α→List Value→Prop}{xs:List α}{ys:List Value}(S:Sx K0 K w0 w M H)(hi:H[i]?=some (.row base (.slice A xs.length c) e size xs.length ys))(hr:Reps R size xs ys)(hm:m≤xs.length) :
  Sx K0 K w0 w M (H.set i (.row base (.slice A (xs.take m).length c) e size (xs.take m).length (ys.take (m*size)))):=by
 have hown:w.ownsRow base e size (.slice A xs.length c) xs.length ys:=S.entAt hi;have hlen:=hr.len;have hml:(xs.take m).length=m:=by simp;omega
 obtain⟨X,Y,rfl,h2,_⟩:=abc hi;rw[h2];refine S.turn (fun _ _ _=>rfl) (Nat.le_refl _) rfl rfl rfl ?_ (.inl ?_)
 ·rw[hml];refine⟨?_,?_⟩
  ·rw[List.length_take,hlen];have:=Nat.mul_le_mul_right size hm;omega
  ·rcases hown.2 with ⟨h1,h0⟩ | ⟨g,cap,cur,h1,hb,hh,h3,h4,h5,h6⟩
   ·injection h1 with h1 h7 h8
    subst h1 h8;have:m=0:=by omega
    subst this;exact .inl ⟨rfl,rfl⟩
   ·injection h1 with h1 h7 h8
    subst h1 h8;refine .inr ⟨g,c,cur,rfl,hb,hh,by omega,h4,h5,?_⟩;rw[←h6,List.take_take];congr 1;have:=Nat.mul_le_mul_right size hm;omega
 ·cases A<;>rfl
theorem apz{i base e size c k:Nat}{A:Option Addr}{ys:List Value}(S:Sx K0 K w0 w M H)(hi:H[i]?=some (.row base (.slice A k c) e size k ys)):k≤c:=by
 have h:w.ownsRow base e size (.slice A k c) k ys:=S.entAt hi;rcases h.2 with ⟨h1,h0⟩ | ⟨g,cap,cur,h1,_,_,h3,_⟩
 ·omega
 ·injection h1 with _ _ h8;omega
theorem adG{α:Type}{xs:List α}{b B m:Nat}(h:xs.length*b≤B):(xs.take m).length*b≤B :=
 Nat.le_trans (Nat.mul_le_mul_right _ (by simp;omega)) h
theorem aiY{α:Type}{xs zs:List α}{b B:Nat}(h:(xs.length+zs.length)*b≤B):(xs++zs).length*b≤B:=by simpa using h
def imax(a b:Int):Int:=if b>a then b else a
def imin(a b:Int):Int:=if b<a then b else a
theorem ayG{x y:Operand}{ts:Array TypeId}{k:IntKind}{a b:Int}(hx:ev n σ x=.int k a)(hy:ev n σ y=.int k b) :
  (execOp (ev n σ) ⟨some t,.call { callee:=.builtin .max,args:=#[x,y],argTypes:=ts },ty,pos,aft,none⟩).run P w=.ok (.value (.int k (imax a b))) w:=by
 simp[execOp,resolve,invoke,builtin,Builtin.max_,Builtin.max2,hx,hy,imax]
theorem mxb{x y:Operand}{ts:Array TypeId}{k:IntKind}{a b:Int}(hx:ev n σ x=.int k a)(hy:ev n σ y=.int k b)(h:wpList P ops Q rest (fr n (upd σ t (.int k (imax a b)))) w) :
 wpList P ops Q (⟨some t,.call { callee:=.builtin .max,args:=#[x,y],argTypes:=ts },ty,pos,aft,none⟩::rest) (fr n σ) w:=aaO (ayG hx hy) h
theorem frzI{i:Nat}{base b:Nat}{news:Array Value}{bt size bytes m:Nat}{α:Type}{R:KH→α→List Value→Prop}{xs:List α}(S:Sx K0 K w0 w M H)(hi:H[i]?=some (.box base b news bt))(hbase:w0.heap.size≤base)(hr:Reps (R K) size xs news.toList)(hm:m=xs.length)(hb:xs.length*bytes≤140737488355328)(hR : ∀{K K' : KH},K.sub K'→∀x cs,R K x cs→R K' x cs) :
  ∃K',Sx K0 K' w0 w M (H.eraseIdx i)∧K.sub K'∧RSl α (R K') size bytes K' (some ⟨b,0,none⟩) m xs:=by
 obtain⟨X,Y,rfl,_,h3⟩:=abc hi;rw[h3];have hbx:=S.box_at;obtain⟨T,hs⟩:=S.freeze (b:=b) rfl (Nat.le_trans hbase hbx.2) hbx.1;refine⟨_,T,hs,by omega,hb,b,0,fun i=>(news.toList.drop (i*size)).take size,fun _=>rfl,fun i hi=>?_,fun i x hx=>hR hs _ _ (hr.at_ hx).2⟩;obtain⟨x,hx⟩ : ∃x,xs[i]?=some x:=⟨xs[i],by simp[hi]⟩;refine⟨(hr.at_ hx).1,fun j u hj=>?_⟩;have hj' : j<size:=by
  have:=(List.getElem?_eq_some_iff.1 hj).1;simp at this;omega
 rw[List.getElem?_take_of_lt hj',List.getElem?_drop] at hj;unfold KH.cell KH.put;rw[if_pos rfl];simpa using hj
theorem afL{α:Type}{R:α→List Value→Prop}{size:Nat}{f:Nat→Option Value} : ∀(zs:List α) (o:Nat) (cs:Nat→List Value),(∀i,i<zs.length→(cs i).length=size∧adZ f (o+i*size) (cs i))→(∀i x,zs[i]?=some x→R x (cs i))→∃news,Reps R size zs news∧adZ f o news
 | [],o,cs,_,_=>⟨[],rfl,fun j v h=>by simp at h⟩
 | z::zs,o,cs,h1,h2=>by
  obtain⟨news,hr,hc⟩:=afL zs (o+size) (fun i=>cs (i+1)) (fun i hi=>by
   have:=h1 (i+1) (by simp;omega);refine⟨this.1,?_⟩;rw[show o+size+i*size=o+(i+1)*size by rw[Nat.add_mul];omega];exact this.2) (fun i x hx=>h2 (i+1) x (by simpa using hx))
  have h0:=h1 0 (by simp);refine⟨cs 0++news,⟨cs 0,news,rfl,h0.1,h2 0 z rfl,hr⟩,fun j v hj=>?_⟩;by_cases hlt:j<size
  ·rw[List.getElem?_append_left (by omega)] at hj;have:=h0.2 j v hj;simpa using this
  ·rw[List.getElem?_append_right (by omega),h0.1] at hj;have:=hc (j - size) v hj
   rwa [show o+size+(j - size)=o+j by omega] at this
theorem Reps.app{α:Type}{R:α→List Value→Prop}{size:Nat} : ∀{xs zs:List α} {ys us:List Value},Reps R size xs ys→Reps R size zs us→Reps R size (xs++zs) (ys++us)
 | [],zs,ys,us,h,k=>by
  have h:ys=[]:=h;subst h;simpa using k
 | x::xs,zs,ys,us,h,k=>by
  obtain⟨as,bs,rfl,h1,h2,h3⟩:=h;exact⟨as,bs++us,by simp,h1,h2,h3.app k⟩
theorem Reps.all_one{α:Type}{R:α→List Value→Prop}{size:Nat}(hone : ∀x cs,R x cs→cs.all (fun u=>u.oneCell')=true) : ∀{xs:List α} {ys:List Value},Reps R size xs ys→∀u∈ys,u.oneCell'=true
 | [],ys,h,u,hu=>by
  have h:ys=[]:=h;subst h;cases hu
 | x::xs,ys,h,u,hu=>by
  obtain⟨as,bs,rfl,h1,h2,h3⟩:=h;rcases List.mem_append.1 hu with hu | hu
  ·exact List.all_eq_true.1 (hone _ _ h2) u hu
  ·exact h3.all_one hone u hu
theorem ahe{st e size:Nat}{A A2:Option Addr}{k c c2 ty:Nat}(he:abg P st=some e)(hs:aaF P e=some size)(hkc:k≤c):(Builtin.append_ #[st,st] ty #[.slice A k c,.slice A2 0 c2]).run P w=.ok (.slice A k c) w:=by
 cases A<;>cases A2<;>simp[Builtin.append_,run_underlying (abu he),abf hs,Builtin.lenOf,hkc,Builtin.firstCells,loadCells,loadCellsFrom,storeCells]
theorem apS{α:Type}{R:KH→α→List Value→Prop}{i:Nat}{x y:Operand}{st e size bytes:Nat}{z:Value}{base:Nat}{A A2:Option Addr}{c c2:Nat}{xs zs:List α}{ys:List Value}(S:Sx K0 K w0 w M H)(hi:H[i]?=some (.row base (.slice A xs.length c) e size xs.length ys))
  (he:abg P st=some e) (hf:(P.info? e).map (fun i=>(i.zero,i.size,i.bytes))=some (some z,size,bytes)) (hzs:z.cells.size=size) (hsz:0<size)
  (hx:ev n σ x=.slice A xs.length c) (hy:ev n σ y=.slice A2 zs.length c2) (hr:Reps (R K) size xs ys) (hz:RSl α (R K) size bytes K A2 c2 zs) (hone : ∀x cs,R K x cs→cs.all (fun u=>u.oneCell')=true) (hbase:base≤w0.heap.size) (hlen:(xs.length+zs.length)*bytes≤140737488355328) (hbp:0<bytes)
  (h : ∀A' c' ys' w',Sx K0 K w0 w' M (H.set i (.row base (.slice A' (xs++zs).length c') e size (xs++zs).length ys'))→Reps (R K) size (xs++zs) ys'→wpList P ops Q rest (fr n (upd σ t (.slice A' (xs++zs).length c'))) w') :
  wpList P ops Q (⟨some t,.call { callee:=.builtin .append,args:=#[x,y],argTypes:=#[st,st] },ty,pos,aft,none⟩::rest) (fr n σ) w:=by
 obtain⟨i0,hi0,hzz⟩:=Option.map_eq_some_iff.1 hf;simp only[Prod.mk.injEq] at hzz;obtain⟨hz0,hz1,hz2⟩:=hzz;have hrow:w.ownsRow base e size (.slice A xs.length c) xs.length ys:=S.entAt hi;have hkc:xs.length≤c:=by
  rcases hrow.2 with ⟨h1,h0⟩ | ⟨g,cap,cur,h1,_,_,h3,_⟩
  ·omega
  ·injection h1 with _ _ h8;omega
 have hlt:i<H.length:=(List.getElem?_eq_some_iff.1 hi).1;have hS:aaF P e=some size:=by simp[aaF,hi0,hz1]
 rcases Nat.eq_zero_or_pos zs.length with h0 | h0
 ·have hn:zs=[]:=List.eq_nil_of_length_eq_zero h0;subst hn;refine aaO (v:=.slice A xs.length c) (w':=w) ?_ ?_
  ·simp only[List.length_nil] at hy;simp only[execOp,resolve,invoke,builtin,Sem.run_bind,Sem.run_pure,Result.andThen_ok,List.map_toArray,List.map_cons,List.map_nil,hx,hy,ahe he hS hkc]
  ·have:=h A c ys w;simp only[List.append_nil] at this;refine this ?_ hr;obtain⟨X,Y,hH,h2,_⟩:=abc hi;rw[h2,←hH];exact S
 ·obtain⟨b,o,cs,g1,g2,g3⟩:=hz.row;have hA2:A2=some ⟨b,o,none⟩:=g1 (by intro e;subst e;simp at h0);subst hA2;obtain⟨news,hnr,hnc⟩:=afL zs o cs g2 g3;have hle:xs.length+zs.length≤140737488355328:=Nat.le_trans (Nat.le_mul_of_pos_right _ hbp) hlen;obtain⟨v',w',hrun,k2,k3,_,k5⟩:=run_append_own_at (P:=P) w base st ty e i0 z size bytes (abu he) hi0 hz0 hz1 hz2 hzs hsz (.slice A xs.length c) xs.length ys hrow ⟨b,o,none⟩ zs.length c2 news hnr.len
   (fun j u hj=>by rw[aeR];exact S.cell (hnc j u hj)) (hnr.all_one hone) (by simp only[maxLen];omega) hlen (Nat.le_trans hbase S.size)
  obtain⟨X,Y,hH,h2,_⟩:=abc hi;have S' : Sx K0 K w0 w' M (H.set i (.row base v' e size (xs.length+zs.length) (ys++news))):=by
   rw[h2];rw[hH] at S;refine S.turn (fun j hj hne=>k3.block j hj (fun e=>hne e.symm)) k3.size k3.os k3.tape k3.output k2 ?_;rcases k5 with k5 | k5
   ·exact .inl k5
   ·exact .inr k5
  obtain⟨A',c',rfl⟩:=ahs (i:=i) S' (by rw[List.getElem?_set_self hlt]);refine aaO (v:=.slice A' (xs.length+zs.length) c') (w':=w') ?_ ?_
  ·simp only[execOp,resolve,invoke,builtin,Sem.run_bind,Sem.run_pure,Result.andThen_ok,List.map_toArray,List.map_cons,List.map_nil,hx,hy,hrun]
  ·have hlen2:xs.length+zs.length=(xs++zs).length:=by simp
   rw[hlen2] at S' ⊢;exact h A' c' _ w' S' (hr.app hnr)
end
section
variable {P:Program}{ops:Array Oper}{Q:Exit→Act→World→Prop}{rest:List Oper}{n:Nat}{σ:Nat→Value}{w:World}{ty:TypeId}{pos:String}{aft:Array Edge}{t:Tmp}
theorem ayt{xt f:Nat}{x:Operand}{v u:Value}(hx:ev n σ x=v)(hr : ∀w,(Instr.field xt v f).run P w=.ok u w):(execOp (ev n σ) ⟨some t,.field xt x f,ty,pos,aft,none⟩).run P w=.ok (.value u) w:=by simp[execOp,hx,hr w]
theorem fva{xt f:Nat}{x:Operand}{v u:Value}(hx:ev n σ x=v)(hr : ∀w,(Instr.field xt v f).run P w=.ok u w)(h:wpList P ops Q rest (fr n (upd σ t u)) w):wpList P ops Q (⟨some t,.field xt x f,ty,pos,aft,none⟩::rest) (fr n σ) w:=aaO (ayt hx hr) h
theorem amu(a b:ByteArray):(a==b)=seq a b:=by
 unfold seq;rw[ByteArray.toList_eq,ByteArray.toList_eq];rcases a with ⟨a⟩;rcases b with ⟨b⟩
 show (a==b)=(a.toList==b.toList);rw[Bool.eq_iff_iff];simp
end
variable {P:Program}{ops:Array Oper}{Q:Exit→Act→World→Prop}{rest:List Oper}{n:Nat}{σ:Nat→Value}{w:World}{t:Tmp}{ty:TypeId}{pos:String}{aft:Array Edge}
end Go.Proofs.YtphdlngnegjgcaaGreatDoor
namespace Go.Proofs.YtphdlngnegjgcaaGreatDoor
open Go Go.RowKit
theorem adL : ∀(cs:List Value) (o:Nat) (vs:List Value),(ab4 cs o vs).length=cs.length
 | [],o,vs=>by cases o<;>cases vs<;>rfl
 | c::cs,0,[]=>rfl
 | c::cs,0,v::vs=>by rw[ab4,List.length_cons,adL,List.length_cons]
 | c::cs,o+1,vs=>by rw[ab4,List.length_cons,adL,List.length_cons]
theorem aho : ∀(as bs:List Value) (o:Nat) (vs:List Value),ab4 (as++bs) (as.length+o) vs=as++ab4 bs o vs
 | [],bs,o,vs=>by simp
 | a::as,bs,o,vs=>by
  rw[List.length_cons,Nat.add_right_comm,List.cons_append,ab4,aho,List.cons_append]
theorem aeB : ∀(as bs:List Value) (o:Nat) (vs:List Value),o+vs.length≤as.length→ab4 (as++bs) o vs=ab4 as o vs++bs
 | as,bs,o,[],_=>by rw[aet,aet]
 | [],bs,o,v::vs,h=>by simp at h
 | a::as,bs,0,v::vs,h=>by
  rw[List.cons_append,ab4,ab4,aeB as bs 0 vs (by simp at h ⊢;omega),List.cons_append]
 | a::as,bs,o+1,v::vs,h=>by
  rw[List.cons_append,ab4,ab4,aeB as bs o (v::vs) (by simp at h ⊢;omega),List.cons_append]
theorem Reps.set{α:Type}{R:α→List Value→Prop}{size off:Nat}{vs:List Value} : ∀{xs:List α} {ys:List Value} {j:Nat} {x x' : α},Reps R size xs ys→xs[j]?=some x→(∀cs,R x cs→R x' (ab4 cs off vs))→off+vs.length≤size→Reps R size (xs.set j x') (ab4 ys (j*size+off) vs)
 | [],ys,j,x,x',h,hx,_,_=>by simp at hx
 | z::xs,ys,0,x,x',h,hx,hR,hl=>by
  obtain⟨as,bs,rfl,h1,h2,h3⟩:=h;simp only[List.getElem?_cons_zero,Option.some.injEq] at hx;subst hx;rw[Nat.zero_mul,Nat.zero_add,List.set_cons_zero,aeB _ _ _ _ (by omega)];exact⟨_,bs,rfl,by rw[adL,h1],hR _ h2,h3⟩
 | z::xs,ys,j+1,x,x',h,hx,hR,hl=>by
  obtain⟨as,bs,rfl,h1,h2,h3⟩:=h;rw[List.getElem?_cons_succ] at hx;have e:(j+1)*size+off=as.length+(j*size+off):=by rw[h1,Nat.succ_mul];omega
  rw[e,List.set_cons_succ,aho];exact⟨as,_,rfl,h1,h2,h3.set hx hR hl⟩
section
variable {P:Program}{ops:Array Oper}{Q:Exit→Act→World→Prop}{rest:List Oper}{n:Nat}{σ:Nat→Value}{w:World}{ty:TypeId}{pos:String}{aft:Array Edge}{t:Tmp}
 {K0 K:KH} {w0:World} {M:Nat→Prop} {H:Ents}
theorem stR{α:Type}{R:α→List Value→Prop}{i s sz base e size c j off b:Nat}{x y:Operand}{A:Option Addr}{xs:List α}{ys:List Value}{p p' : α}{v:Value}(S:Sx K0 K w0 w M H)(hi:H[i]?=some (.row base (.slice A xs.length c) e size xs.length ys))(hr:Reps R size xs ys)(hp:xs[j]?=some p)
  (hs:aaF P s=some sz) (hA:A=some ⟨b,0,none⟩) (hx:ev n σ x=.pointer (some ⟨b,0+j*size+off,none⟩)) (hy:ev n σ y=v) (hl:v.cells.size=sz) (h1:v.cells.toList.all one=true) (hoff:off+sz≤size) (hR : ∀cs,R p cs→R p' (ab4 cs off v.cells.toList))
  (h : ∀ys' w',Sx K0 K w0 w' M (H.set i (.row base (.slice A (xs.set j p').length c) e size (xs.set j p').length ys'))→Reps R size (xs.set j p') ys'→wpList P ops Q rest (fr n σ) w') :
  wpList P ops Q (⟨none,.store s x y,ty,pos,aft,none⟩::rest) (fr n σ) w:=by
 subst hA;have hown:w.ownsRow base e size (.slice (some ⟨b,0,none⟩) xs.length c) xs.length ys:=S.entAt hi;have hlt:j<xs.length:=(List.getElem?_eq_some_iff.1 hp).1;have hlen:=hr.len;obtain⟨X,Y,rfl,h2,_⟩:=abc hi;rcases hown.2 with ⟨g1,_⟩ | ⟨g,cap,cur,g1,hb,hh,h3,h4,h5,h6⟩
 ·simp at g1
 ·injection g1 with g1 g7 g8
  injection g1 with g1
  injection g1 with g1
  subst g1 g8;have S1:Sx K0 K w0 w M (X++.box base b cur e::Y):=S.turn (fun _ _ _=>rfl) (Nat.le_refl _) rfl rfl rfl ⟨hh,hb⟩ (.inl rfl);have hvl:v.cells.toList.length=sz:=by simpa using hl
  have hjs:j*size+size≤xs.length*size:=by rw[←Nat.succ_mul];exact Nat.mul_le_mul_right _ hlt
  have hxc:xs.length*size≤c*size:=Nat.mul_le_mul_right _ h3;refine sto S1 hs hx hy hl h1 (cs':=setL cur (0+j*size+off) v.cells.toList) (by rw[h5];omega) rfl (fun w' S'=>?_);have hbx:=S'.box_at;have hR':=hr.set (off:=off) (vs:=v.cells.toList) hp hR (by omega);refine h (ab4 ys (j*size+off) v.cells.toList) w' ?_ hR';rw[h2];refine S'.turn (fun _ _ _=>rfl) (Nat.le_refl _) rfl rfl rfl ?_ (.inl rfl);refine⟨by rw[adL,hlen,List.length_set],.inr ⟨b,c,_,rfl,hb,hbx.1,by rw[List.length_set];exact h3,h4,by rw[aqg,h5],?_⟩⟩;have e1:cur.toList=ys++cur.toList.drop (xs.length*size):=by rw[←h6,List.take_append_drop]
  rw[ahm,e1,Nat.zero_add,aeB _ _ _ _ (by rw[hlen,hvl];omega),List.length_set,←hlen,List.take_append_of_le_length (by rw[adL];omega),List.take_of_length_le (by rw[adL];omega)]
theorem Sx.lower_{i base base' e size m:Nat}{v:Value}{ys:List Value}(S:Sx K0 K w0 w M H)(hi:H[i]?=some (.row base v e size m ys))(hb:base'≤base):Sx K0 K w0 w M (H.set i (.row base' v e size m ys)):=by
 have hown:w.ownsRow base e size v m ys:=S.entAt hi;obtain⟨X,Y,rfl,h2,_⟩:=abc hi;rw[h2];refine S.turn (fun _ _ _=>rfl) (Nat.le_refl _) rfl rfl rfl ?_ (.inl rfl);refine⟨hown.1,hown.2.imp id ?_⟩;rintro⟨g,cap,cur,h1,hb',h3⟩;exact⟨g,cap,cur,h1,Nat.le_trans hb hb',h3⟩
theorem adJ{α:Type}{xs:List α}{b m j:Nat}{x:α}(h:xs.length*b≤m):(xs.set j x).length*b≤m:=by rw[List.length_set];exact h
theorem aeJ{α:Type}{xs:List α}{e:Int}{x y:α}(h:idxO xs e=some x):idxO (xs.set e.toNat y) e=some y:=by
 obtain⟨h1,h2,h3⟩:=aay h;unfold idxO;rw[if_pos h2,List.getElem?_set_self (by omega)]
end
section
variable {P:Program}{ops:Array Oper}{Q:Exit→Act→World→Prop}{next:Act→World→Prop}{rest:List Oper}{n:Nat}{σ:Nat→Value}{w:World}{a:Act}{ty:TypeId}{pos:String}{aft:Array Edge}{t:Tmp}
theorem amQ{c:_}(h:Q (.panic c) a w):Exit.then next Q (.panic c) a w:=h
theorem blkP{id:Nat}{c:_}(h:Q (.panic c) a w):Exit.inBlock id Q (.panic c) a w:=h
theorem panE{fn:Func}{c:_}{R:Ending→World→Prop}(h:R (.panicked c) w):bodyPost P fn R (.panic c) (fr n σ) w:=⟨rfl,h⟩
theorem akC{fn:Func}{R R' : Ending→World→Prop}(hR : ∀e w,R e w→R' e w) : ∀{x:Exit} {a:Act} {w:World},bodyPost P fn R x a w→bodyPost P fn R' x a w
 | .normal,_,_,⟨h1,v,h2,h3⟩=>⟨h1,v,h2,hR _ _ h3⟩
 | .ret,_,_,⟨h1,v,h2,h3⟩=>⟨h1,v,h2,hR _ _ h3⟩
 | .panic c,_,_,⟨h1,h2⟩=>⟨h1,hR _ _ h2⟩
 | .outgrown,_,_,h=>hR _ _ h
theorem retP{fn:Func}{x:Exit}{R R' : Value→World→Prop}(h:bodyPost P fn (Ret R) x a w):bodyPost P fn (RetP R R') x a w :=
 akC (fun _ _ h=>.inl h) h
end
section pure
variable {κ ν:Type}
def mget(q:κ→κ→Bool)(k:κ):List (κ×ν)→Option ν
 | []=>none
 | (a,v)::xs=>if q k a then some v else mget q k xs
def mput(q:κ→κ→Bool)(k:κ)(u:ν):List (κ×ν)→List (κ×ν)
 | []=>[(k,u)]
 | (a,v)::xs=>if q k a then (k,u)::xs else (a,v)::mput q k u xs
def ael{α β:Type}(o:Option α)(a:β)(f:α→β):β:=match o with | none=>a | some x=>f x
theorem abB{α β:Type}{o:Option α}{a r:β}{f:α→β}(ho:o=none)(h:ael o a f=r):a=r:=by subst ho;exact h
theorem abA{α β:Type}{o:Option α}{a r:β}{f:α→β}{x:α}(ho:o=some x)(h:ael o a f=r):f x=r:=by subst ho;exact h
def MapR(kv:κ→Value)(R:ν→Value→Prop):List (κ×ν)→List MapEntry→Prop
 | [],es=>es=[]
 | (a,v)::xs,es=>∃e t,es=e::t∧e.key=kv a∧R v e.val∧MapR kv R xs t
theorem MapR.mono{kv:κ→Value}{R R' : ν→Value→Prop}(hR : ∀x v,R x v→R' x v) : ∀{xs:List (κ×ν)} {es:List MapEntry},MapR kv R xs es→MapR kv R' xs es
 | [],_,h=>h
 | (a,v)::xs,es,h=>by
  obtain⟨e,t,h1,h2,h3,h4⟩:=h;exact⟨e,t,h1,h2,hR _ _ h3,h4.mono hR⟩
structure KeyK(d:TypeDesc)(kv:κ→Value)(q:κ→κ→Bool):Prop where
 same : ∀a b,Instr.sameNow d (kv a) (kv b)=some (q a b)
 key : ∀a,Go.MapKept.IsKey d (kv a)
 bits : ∀a b,q a b=true→Instr.sameBits 10000 (kv b) (kv a)=true
def qI(a b:Int):Bool:=a==b
theorem keyI:KeyK (.int .i64) (fun a=>.int .i64 a) qI:=⟨fun a b=>by simp[Instr.sameNow,qI],fun a=>by simp[Go.MapKept.IsKey],fun a b h=>by
 simp[qI] at h;subst h;simp[Instr.sameBits]⟩
theorem keyS:KeyK .string (fun a=>.string a) seq:=⟨fun a b=>by simp only[Instr.sameNow,amu],fun a=>by simp[Go.MapKept.IsKey],fun a b h=>by
 rw[←amu] at h;simp only[Instr.sameBits];rw[amu] at h ⊢;unfold seq at h ⊢;have:a.toList=b.toList:=by simpa using h
 simp[this]⟩
theorem adj{d:TypeDesc}{kv:κ→Value}{q:κ→κ→Bool}{R:ν→Value→Prop}(hk:KeyK d kv q){k:κ} : ∀{xs:List (κ×ν)} {es:List MapEntry} (i:Nat),MapR kv R xs es→mget q k xs=none→Instr.findNow d (kv k) es i=some none
 | [],_,i,h,_=>by
  have h:_=[]:=h;subst h;rfl
 | (a,v)::xs,es,i,h,hg=>by
  obtain⟨e,t,rfl,h2,h3,h4⟩:=h;unfold mget at hg;split at hg
  ·cases hg
  ·rename_i hq;unfold Instr.findNow;rw[h2,hk.same,Bool.eq_false_iff.2 hq];exact adj hk (i+1) h4 hg
theorem adk{d:TypeDesc}{kv:κ→Value}{q:κ→κ→Bool}{R:ν→Value→Prop}(hk:KeyK d kv q){k:κ}{x:ν} : ∀{xs:List (κ×ν)} {es:List MapEntry} (i:Nat),MapR kv R xs es→mget q k xs=some x→∃j v,Instr.findNow d (kv k) es i=some (some (i+j,v))∧R x v ∧
  ∀(u:ν) (uv:Value),R u uv→(∃e,es[j]?=some e∧Instr.sameBits 10000 e.key (kv k)=true)∧MapR kv R (mput q k u xs) (es.modify j fun e=>{ e with key:=kv k,val:=uv })
 | [],_,i,h,hg=>by cases hg
 | (a,v)::xs,es,i,h,hg=>by
  obtain⟨e,t,rfl,h2,h3,h4⟩:=h;unfold mget at hg;split at hg
  ·rename_i hq;cases hg;refine⟨0,e.val,?_,h3,fun u uv hu=>⟨⟨e,rfl,by rw[h2];exact hk.bits _ _ hq⟩,?_⟩⟩
   ·unfold Instr.findNow;rw[h2,hk.same,hq];rfl
   ·unfold mput;rw[if_pos hq];exact⟨_,t,rfl,rfl,hu,h4⟩
  ·rename_i hq;obtain⟨j,w,g1,g2,g3⟩:=adk hk (i+1) h4 hg;refine⟨j+1,w,?_,g2,fun u uv hu=>⟨?_,?_⟩⟩
   ·unfold Instr.findNow;rw[h2,hk.same,Bool.eq_false_iff.2 hq];simp only;rw[g1];congr 3;omega
   ·obtain⟨e',h5,h6⟩:=(g3 u uv hu).1;exact⟨e',by simpa using h5,h6⟩
   ·unfold mput;rw[if_neg hq];exact⟨e,_,by simp[List.modify_succ_cons],h2,h3,(g3 u uv hu).2⟩
theorem MapR.push{kv:κ→Value}{q:κ→κ→Bool}{R:ν→Value→Prop}{k:κ}{u:ν}{uv:Value}{clk:Nat}(hu:R u uv) : ∀{xs:List (κ×ν)} {es:List MapEntry},MapR kv R xs es→mget q k xs=none→MapR kv R (mput q k u xs) (es++[{ key:=kv k,val:=uv,born:=clk }])
 | [],_,h,_=>by
  have h:_=[]:=h;subst h;exact⟨_,[],rfl,rfl,hu,rfl⟩
 | (a,v)::xs,es,h,hg=>by
  obtain⟨e,t,rfl,h2,h3,h4⟩:=h;unfold mget at hg;split at hg
  ·cases hg
  ·rename_i hq;unfold mput;rw[if_neg hq];exact⟨e,_,rfl,h2,h3,h4.push hu hg⟩
end pure
section
variable {P:Program}{ops:Array Oper}{Q:Exit→Act→World→Prop}{rest:List Oper}{n:Nat}{σ:Nat→Value}{w:World}{ty:TypeId}{pos:String}{aft:Array Edge}{t:Tmp}
 {K0 K:KH} {w0:World} {M:Nat→Prop} {H:Ents} {κ ν:Type}
theorem ahV{mt kt et:TypeId}{d:TypeDesc}{kv:κ→Value}{q:κ→κ→Bool}{R:ν→Value→Prop}{b clk:Nat}{es:Array MapEntry}{xs:List (κ×ν)}{k:κ}{z:Value}(hm:P.underlying mt=some (.map kt et))(hd:P.underlying kt=some d)(hk:KeyK d kv q)(hz:ad7 P et=some z)
  (hb:w.heap[b]?=some (.map es clk)) (hr:MapR kv R xs es.toList) (hg:mget q k xs=none):(Instr.lookup mt (.map (some b)) (kv k) true).run P w=.ok (.tuple #[z,.bool false]) w:=by
 simp[Instr.lookup,run_underlying hm,Go.MapKept.run_getObj_map hb,Go.MapKept.run_checkKey (n:=9999) hd (hk.key k),Go.MapKept.run_findKey hd (adj hk 0 hr hg),ab1 hz]
theorem ahy{mt kt et:TypeId}{d:TypeDesc}{kv:κ→Value}{q:κ→κ→Bool}{R:ν→Value→Prop}{b clk:Nat}{es:Array MapEntry}{xs:List (κ×ν)}{k:κ}{x:ν}(hm:P.underlying mt=some (.map kt et))(hd:P.underlying kt=some d)(hk:KeyK d kv q)
  (hb:w.heap[b]?=some (.map es clk)) (hr:MapR kv R xs es.toList) (hg:mget q k xs=some x) : ∃v,R x v∧∀w',w'.heap[b]?=some (.map es clk)→(Instr.lookup mt (.map (some b)) (kv k) true).run P w'=.ok (.tuple #[v,.bool true]) w':=by
 obtain⟨j,v,g1,g2,_⟩:=adk hk 0 hr hg;refine⟨v,g2,fun w' hb'=>?_⟩;simp[Instr.lookup,run_underlying hm,Go.MapKept.run_getObj_map hb',Go.MapKept.run_checkKey (n:=9999) hd (hk.key k),Go.MapKept.run_findKey hd g1]
theorem afJ{mt kt et:TypeId}{d:TypeDesc}{kv:κ→Value}{q:κ→κ→Bool}{R:ν→Value→Prop}{b clk:Nat}{es:Array MapEntry}{xs:List (κ×ν)}{k:κ}{u:ν}{uv:Value}(hm:P.underlying mt=some (.map kt et))(hd:P.underlying kt=some d)(hk:KeyK d kv q)
  (hb:w.heap[b]?=some (.map es clk)) (hr:MapR kv R xs es.toList) (hu:R u uv) : ∃es' clk',(Instr.mapUpdate mt (.map (some b)) (kv k) uv).run P w=.ok () { w with heap:=w.heap.setIfInBounds b (.map es' clk') }∧MapR kv R (mput q k u xs) es'.toList:=by
 cases hg:mget q k xs with
 | none =>
  refine⟨es.push { key:=kv k,val:=uv,born:=clk },clk+1,?_,by rw[Array.toList_push];exact hr.push hu hg⟩;simp[Instr.mapUpdate,run_underlying hm,Go.MapKept.run_getObj_map hb,Go.MapKept.run_checkKey (n:=9999) hd (hk.key k),Go.MapKept.run_findKey hd (adj hk 0 hr hg),Go.MapKept.run_setObj_map _ hb]
 | some x =>
  obtain⟨j,v,g1,g2,g3⟩:=adk hk 0 hr hg;obtain⟨⟨e,h5,h6⟩,h7⟩:=g3 u uv hu;refine⟨es.modify j fun e=>{ e with key:=kv k,val:=uv },clk,?_,by rw[Array.toList_modify];exact h7⟩;have h5' : es[j]?=some e:=by simpa using h5
  simp[Instr.mapUpdate,run_underlying hm,Go.MapKept.run_getObj_map hb,Go.MapKept.run_checkKey (n:=9999) hd (hk.key k),Go.MapKept.run_findKey hd g1,Go.MapKept.run_setObj_map _ hb,Instr.keyThatStays,h5',h6]
theorem Sx.new_{o:Obj}{e:Ent}(S:Sx K0 K w0 w M H)(hb:e.bl=[w.heap.size])(he:e.holds (w.alloc o)):Sx K0 K w0 (w.alloc o) M (e::H):=by
 have T:=S.alloc o;refine⟨T.sub,T.fresh,T.le,T.ext,T.size,T.os,T.tape,T.output,?_,?_,?_⟩
 ·intro x hx;rcases List.mem_cons.1 hx with rfl | hx
  ·exact he
  ·exact T.ents x hx
 ·intro b hbm;unfold Ents.blks at hbm;rw[List.flatMap_cons,hb] at hbm;rcases List.mem_append.1 hbm with h | h
  ·simp only[List.mem_singleton] at h;subst h;refine⟨?_,.inr S.size⟩;cases e2:K w.heap.size with
   | none=>rfl
   | some o=>exact absurd (S.le.lt (b:=w.heap.size) (by rw[e2];simp)) (Nat.lt_irrefl _)
  ·exact T.free b h
 ·unfold Ents.blks;rw[List.flatMap_cons,hb];exact List.nodup_cons.2 ⟨fun h=>absurd (S.lt h) (Nat.lt_irrefl _),S.nodup⟩
theorem mkm{mt:TypeId}(S:Sx K0 K w0 w M H)(h : ∀w',Sx K0 K w0 w' M (.mp w0.heap.size w.heap.size #[] 0::H)→wpList P ops Q rest (fr n (upd σ t (.map (some w.heap.size)))) w') :
  wpList P ops Q (⟨some t,.makeMap mt none,ty,pos,aft,none⟩::rest) (fr n σ) w :=
 aaO (v:=.map (some w.heap.size)) (w':=w.alloc (.map #[] 0)) (by simp[execOp,Instr.makeMap]) (h _ (S.new_ rfl ⟨adT w _,S.size⟩))
def MpB(P:Program)(mt kt et:TypeId):Bool:=match P.underlying mt with | some (.map k e)=>k==kt&&e==et | _=>false
theorem afW{mt kt et:TypeId}(h:MpB P mt kt et=true):P.underlying mt=some (.map kt et):=by
 unfold MpB at h;split at h
 ·simp at h;obtain⟨rfl,rfl⟩:=h;assumption
 ·cases h
theorem aax{kt:TypeId}(h:amR P kt=some .i64):P.underlying kt=some (.int .i64):=by unfold amR at h;split at h<;>simp_all
theorem auP{i base b clk clk' : Nat}{es es' : Array MapEntry}(S:Sx K0 K w0 w M H)(hi:H[i]?=some (.mp base b es clk)):Sx K0 K w0 { w with heap:=w.heap.setIfInBounds b (.map es' clk') } M (H.set i (.mp base b es' clk')):=by
 have hh:w.heap[b]?=some (.map es clk)∧base≤b:=S.entAt hi;obtain⟨A,B,rfl,h2,_⟩:=abc hi;rw[h2];have hs:=MapKept.heap_set (o':=.map es' clk') hh.1;exact S.turn (fun k hk hne=>hs.2 k (fun e=>hne (by rw[e];rfl))) (by simp) rfl rfl rfl ⟨hs.1,hh.2⟩ (.inl rfl)
theorem mup_{mt kt et:TypeId}{d:TypeDesc}{kv:κ→Value}{q:κ→κ→Bool}{R:ν→Value→Prop}{i base b clk:Nat}{es:Array MapEntry}{xs:List (κ×ν)}{k:κ}{u:ν}{uv:Value}{m x y:Operand}{op:Op}(hop:op=.insert mt m x y∨op=.mapUpdate mt m x y)
  (S:Sx K0 K w0 w M H) (hi:H[i]?=some (.mp base b es clk)) (hm:MpB P mt kt et=true) (hd:P.underlying kt=some d) (hk:KeyK d kv q) (hr:MapR kv R xs es.toList) (hmv:ev n σ m=.map (some b)) (hx:ev n σ x=kv k) (hy:ev n σ y=uv) (hu:R u uv)
  (h : ∀es' clk' w',Sx K0 K w0 w' M (H.set i (.mp base b es' clk'))→MapR kv R (mput q k u xs) es'.toList→wpList P ops Q rest (fr n σ) w') :
  wpList P ops Q (⟨none,op,ty,pos,aft,none⟩::rest) (fr n σ) w:=by
 have hh:w.heap[b]?=some (.map es clk)∧base≤b:=S.entAt hi;obtain⟨es',clk',h1,h2⟩:=afJ (P:=P) (w:=w) (u:=u) (afW hm) hd hk hh.1 hr hu;refine amc ?_ (h es' clk' _ (auP S hi) h2);rcases hop with rfl | rfl<;>simp[execOp,hmv,hx,hy,h1]
theorem lkN{mt kt et:TypeId}{d:TypeDesc}{kv:κ→Value}{q:κ→κ→Bool}{R:ν→Value→Prop}{b clk:Nat}{es:Array MapEntry}{xs:List (κ×ν)}{k:κ}{z:Value}{m x:Operand}(hh:w.heap[b]?=some (.map es clk))(hm:MpB P mt kt et=true)(hd:P.underlying kt=some d)(hk:KeyK d kv q)(hz:ad7 P et=some z)(hr:MapR kv R xs es.toList)
  (hmv:ev n σ m=.map (some b)) (hx:ev n σ x=kv k) (hg:mget q k xs=none)
  (h:wpList P ops Q rest (fr n (upd σ t (.tuple #[z,.bool false]))) w):wpList P ops Q (⟨some t,.lookup mt m x true,ty,pos,aft,none⟩::rest) (fr n σ) w :=
 aaO (v:=.tuple #[z,.bool false]) (by simp[execOp,hmv,hx,ahV (afW hm) hd hk hz hh hr hg]) h
theorem lkS{mt kt et:TypeId}{d:TypeDesc}{kv:κ→Value}{q:κ→κ→Bool}{R:ν→Value→Prop}{b clk:Nat}{es:Array MapEntry}{xs:List (κ×ν)}{k:κ}{u:ν}{m x:Operand}(hh:w.heap[b]?=some (.map es clk))(hm:MpB P mt kt et=true)(hd:P.underlying kt=some d)(hk:KeyK d kv q)(hr:MapR kv R xs es.toList)
  (hmv:ev n σ m=.map (some b)) (hx:ev n σ x=kv k) (hg:mget q k xs=some u)
  (h : ∀v,R u v→wpList P ops Q rest (fr n (upd σ t (.tuple #[v,.bool true]))) w):wpList P ops Q (⟨some t,.lookup mt m x true,ty,pos,aft,none⟩::rest) (fr n σ) w:=by
 obtain⟨v,h1,h2⟩:=ahy (P:=P) (afW hm) hd hk hh hr hg;exact aaO (v:=.tuple #[v,.bool true]) (by simp[execOp,hmv,hx,h2 w hh]) (h v h1)
theorem Sx.lowerm_{i base base' b clk:Nat}{es:Array MapEntry}(S:Sx K0 K w0 w M H)(hi:H[i]?=some (.mp base b es clk))(hb:base'≤base):Sx K0 K w0 w M (H.set i (.mp base' b es clk)):=by
 have hh:w.heap[b]?=some (.map es clk)∧base≤b:=S.entAt hi;obtain⟨X,Y,rfl,h2,_⟩:=abc hi;rw[h2];exact S.turn (fun _ _ _=>rfl) (Nat.le_refl _) rfl rfl rfl ⟨hh.1,Nat.le_trans hb hh.2⟩ (.inl rfl)
theorem bsn{xt yt e:TypeId}{x y:Operand}{A:Option Addr}{l c:Nat}(he:abg P xt=some e)(hx:ev n σ x=.slice A l c)(hy:ev n σ y=.slice none 0 0)(h:wpList P ops Q rest (fr n (upd σ t (.bool A.isNone))) w) :
  wpList P ops Q (⟨some t,.binOp .eql xt x y yt,ty,pos,aft,none⟩::rest) (fr n σ) w:=by
 refine aaO (v:=.bool A.isNone) ?_ h;have e1 : ∀d,(Op.equalIn (d+1) xt (.slice A l c) (.slice none 0 0)).run P w=.ok A.isNone w:=by
  intro d;cases A<;>simp[Op.equalIn,run_underlying (abu he)]
 have e2:(Op.equal xt (.slice A l c) (.slice none 0 0)).run P w=.ok A.isNone w:=e1 9999;simp[execOp,eqGuard,binOp,hx,hy,e2]
theorem Sx.boxrow{i base b e size:Nat}(S:Sx K0 K w0 w M H)(hi:H[i]?=some (.box base b #[] e)):Sx K0 K w0 w M (H.set i (.row base (.slice (some ⟨b,0,none⟩) 0 0) e size 0 [])):=by
 have hh:w.heap[b]?=some (.cells #[] e (0,0))∧base≤b:=S.entAt hi;obtain⟨X,Y,rfl,h2,_⟩:=abc hi;rw[h2];exact S.turn (fun _ _ _=>rfl) (Nat.le_refl _) rfl rfl rfl ⟨by simp,.inr ⟨b,0,#[],rfl,hh.2,hh.1,by omega,by decide,by simp,by simp⟩⟩ (.inl rfl)
def VInt(x:Int)(v:Value):Prop:=v=.int .i64 x
def VAgg{α:Type}(R:α→List Value→Prop)(x:α)(v:Value):Prop:=∃cs:List Value,v=.agg cs.toArray∧R x cs
def VSl(α:Type)(R:α→List Value→Prop)(size bytes:Nat)(K:KH)(x:List α)(v:Value):Prop:=∃A c,v=.slice A x.length c∧RSl α R size bytes K A c x
theorem VAgg.mono{α:Type}{R R' : α→List Value→Prop}(hR : ∀x cs,R x cs→R' x cs) : ∀x v,VAgg R x v→VAgg R' x v:=fun _ _ ⟨cs,h1,h2⟩=>⟨cs,h1,hR _ _ h2⟩
theorem akt{κ ν:Type}{kv:κ→Value}{R:ν→Value→Prop}:MapR kv R [] (#[]:Array MapEntry).toList:=rfl
def kI(a:Int):Value:=.int .i64 a
def kS(a:ByteArray):Value:=.string a
theorem keI:KeyK (.int .i64) kI qI:=keyI
theorem keS:KeyK .string kS seq:=keyS
end
inductive Fx where
 | sq (y:Code)
 | bk (id:Nat)
 | nx (f:Act→World→Prop)
def qO(P:Program)(Q:Exit→Act→World→Prop):List Fx→Exit→Act→World→Prop
 | []=>Q
 | .sq y::s=>Exit.then (y.wp P (qO P Q s)) (qO P Q s)
 | .bk id::s=>Exit.inBlock id (qO P Q s)
 | .nx f::s=>Exit.then f (qO P Q s)
inductive Cg where
 | o (ops:Array Oper) (l:List Oper)
 | c (c:Code)
 | e (x:Exit)
def gO(P:Program)(Q:Exit→Act→World→Prop)(n:Nat)(w:World):Cg→List Fx→(Nat→Value)→Prop
 | .o ops l,s,σ=>wpList P ops (qO P Q s) l (fr n σ) w
 | .c c,s,σ=>c.wp P (qO P Q s) (fr n σ) w
 | .e x,s,σ=>qO P Q s x (fr n σ) w
def hi_(α:Type)(x:α):α:=(fun (_:Prop)=>x) ((∀P Q n w g s σ,gO P Q n w g s σ)∧∀P ops Q E F f L a w,AnyE P ops Q E F f L a w)
section
variable {α β:Type}(no:β)
def nthK:List α→Nat→(α→β)→β
 | [],_,_=>hi_ β no
 | x::_,0,k=>k x
 | _::l,i+1,k=>nthK l i k
def amJ:List α→Nat→(List α→β)→β
 | _,0,k=>k []
 | [],_+1,_=>hi_ β no
 | x::l,n+1,k=>amJ l n fun r=>k (x::r)
def amj:List α→Nat→(List α→β)→β
 | l,0,k=>k l
 | [],_+1,_=>hi_ β no
 | _::l,n+1,k=>amj l n k
def setK:List α→Nat→List α→(List α→β)→β
 | l,0,[],k=>k l
 | _::l,0,v::vs,k=>setK l 0 vs fun r=>k (v::r)
 | x::l,o+1,vs,k=>setK l o vs fun r=>k (x::r)
 | [],_,_,_=>hi_ β no
def entK:Ents→Nat→(Nat→Array Value→β)→β
 | [],_,_=>hi_ β no
 | .box _ b cs _::_,0,k=>k b cs
 | _::_,0,_=>no
 | _::H,i+1,k=>entK H i k
def entS:Ents→Nat→(Nat→Nat→Array Value→TypeId→(Ent→Ents)→β)→β
 | [],_,_=>hi_ β no
 | .box a b cs t::H,0,k=>k a b cs t (fun e=>e::H)
 | _::_,0,_=>no
 | x::H,i+1,k=>entS H i fun a b cs t f=>k a b cs t (fun e=>x::f e)
end
def valK{β:Type}(k:Value→β):Value→β
 | .bool b=>hi_ β (k (.bool b))
 | .int t i=>k (.int t i)
 | .float t i=>k (.float t i)
 | .complex t i j=>k (.complex t i j)
 | .string s=>k (.string s)
 | .pointer a=>k (.pointer a)
 | .slice a l c=>k (.slice a l c)
 | .map r=>k (.map r)
 | .chan r=>k (.chan r)
 | .func f a b=>k (.func f a b)
 | .nilFunc=>k .nilFunc
 | .iface t v=>k (.iface t v)
 | .nilIface=>k .nilIface
 | .agg cs=>k (.agg cs)
 | .tuple vs=>k (.tuple vs)
theorem afd{β:Type}(k:Value→β)(v:Value):valK k v=k v:=by cases v<;>rfl
def aggN:Option Bool→Nat | some false=>0 | some true=>1 | none=>2
def optN:Option Nat→Nat | some k=>k+1 | none=>0
def bN:Bool→Nat | true=>1 | false=>0
def oneB(P:Program)(e size:Nat):Nat:=match ad7 P e with | some z=>bN (z.cells.size==size&&Nat.blt 0 size&&Nat.ble size 16777216) | none=>0
theorem ayK{P:Program}{e size:Nat}(h:oneB P e size=1) : ∃z,ad7 P e=some z∧z.cells.size=size∧0<size∧size≤16777216:=by
 unfold oneB at h;split at h
 ·rename_i z hz;have h2:(z.cells.size==size&&Nat.blt 0 size&&Nat.ble size 16777216)=true:=by
   cases e:(z.cells.size==size&&Nat.blt 0 size&&Nat.ble size 16777216) with
   | true=>rfl
   | false=>rw[e] at h;cases h
  simp only[Bool.and_eq_true,beq_iff_eq,Nat.ble_eq,Nat.blt] at h2;exact⟨z,hz,h2.1.1,h2.1.2,h2.2⟩
 ·cases h
inductive Ck where
 | n (a:Nat)
 | v (l:Option (List Value))
def opK{β:Type}(P:Program)(n:Nat)(ck:Ck→Ck→β→β)(no:β)(σ:Nat→Value)(H:Ents)(hs:List Nat)(k:Value→List Nat→β):Op→β
 | .move x=>valK (fun v=>k v hs) (ev n σ x)
 | .assign x=>valK (fun v=>k v hs) (ev n σ x)
 | .pick c x y=>match ev n σ c with | .bool true=>valK (fun v=>k v hs) (ev n σ x) | .bool false=>valK (fun v=>k v hs) (ev n σ y) | _=>no
 | .extract x i=>match ev n σ x with | .tuple vs=>nthK no vs.toList i fun v=>k v hs | _=>no
 | .nilCheck x=>match ev n σ x with | .pointer (some a)=>k (.pointer (some a)) hs | _=>no
 | .fieldAddr s x f=>match hs,ev n σ x with
  | o'::hs,.pointer (some ⟨b,o,none⟩)=>ck (.n (match aca P s f with | some z=>o+z | none=>o'+1)) (.n o') (k (.pointer (some ⟨b,o',none⟩)) hs)
  | _,_=>no
 | .load s x=>match hs,ev n σ x with
  | 0::i::z::hs,.pointer (some ⟨b,o,none⟩)=>entK no H i fun b' cs=>ck (.n b) (.n b') (ck (.n (aggN (AggB P s))) (.n 1) (ck (.n (optN (aaF P s))) (.n (z+1)) (amj no cs.toList o fun l=>amJ no l z fun l=>k (.agg l.toArray) hs)))
  | (i+1)::hs,.pointer (some ⟨b,o,none⟩)=>entK no H i fun b' cs=>ck (.n b) (.n b') (ck (.n (aggN (AggB P s))) (.n 0) (nthK no cs.toList o fun v=>valK (fun v=>k v hs) v))
  | _,_=>no
 | .binOp op xt x y yt=>match ev n σ x,ev n σ y,op with
  | .int κ a,.int κ' b,.eql=>ck (.v (some [.int κ 0])) (.v (some [.int κ' 0])) (k (.bool (a==b)) hs)
  | .int κ a,.int κ' b,.neq=>ck (.v (some [.int κ 0])) (.v (some [.int κ' 0])) (k (.bool (a != b)) hs)
  | .int κ a,.int κ' b,.lss=>ck (.v (some [.int κ 0])) (.v (some [.int κ' 0])) (k (.bool (decide (a<b))) hs)
  | .int κ a,.int κ' b,.leq=>ck (.v (some [.int κ 0])) (.v (some [.int κ' 0])) (k (.bool (decide (a≤b))) hs)
  | .int κ a,.int κ' b,.gtr=>ck (.v (some [.int κ 0])) (.v (some [.int κ' 0])) (k (.bool (decide (a>b))) hs)
  | .int κ a,.int κ' b,.geq=>ck (.v (some [.int κ 0])) (.v (some [.int κ' 0])) (k (.bool (decide (a≥b))) hs)
  | .string a,.string b,.eql=>k (.bool (seq a b)) hs
  | .string a,.string b,.neq=>k (.bool (!seq a b)) hs
  | .bool a,.bool b,.eql=>ck (.n (bN (ath P xt))) (.n 1) (k (.bool (a==b)) hs)
  | .bool a,.bool b,.neq=>ck (.n (bN (ath P xt))) (.n 1) (k (.bool (!(a==b))) hs)
  | _,_,_=>no
 | .unOp .not xt x=>match ev n σ x with | .bool a=>k (.bool (!a)) hs | _=>no
 | .call { callee:=.builtin .len,args:=⟨[x]⟩,argTypes:=⟨[s]⟩ }=>match ev n σ x with
  | .slice A len cap=>ck (.n (bN (abg P s).isSome)) (.n 1) (k (.int .i64 len) hs)
  | .string a=>ck (.n (bN (StrB P s))) (.n 1) (k (.int .i64 a.size) hs)
  | _=>no
 | _=>hi_ β no
def spK{β:Type}(P:Program)(n:Nat)(w0:World)(ck:Ck→Ck→β→β)(no:β)(nw:(World→β)→β)(fin:Cg→List Fx→(Nat→Value)→β)
  (k:List Nat→List (List Value)→Cg→List Fx→(Nat→Value)→World→Ents→β) (hs:List Nat) (zs:List (List Value)) (s:List Fx) (σ:Nat→Value) (w:World) (H:Ents):Cg→β
 | .c (.seq x y)=>k hs zs (.c x) (.sq y::s) σ w H
 | .c (.block id x)=>k hs zs (.c x) (.bk id::s) σ w H
 | .c (.region _ ⟨l⟩ false)=>k hs zs (.o ⟨l⟩ l) s σ w H
 | .c .skip=>k hs zs (.e .normal) s σ w H
 | .c (.exit id)=>k hs zs (.e (.exit id)) s σ w H
 | .c .ret=>k hs zs (.e .ret) s σ w H
 | .c (.cond c x y)=>match ev n σ c with | .bool true=>k hs zs (.c x) s σ w H | .bool false=>k hs zs (.c y) s σ w H | _=>no
 | .o _ []=>k hs zs (.e .normal) s σ w H
 | .o ops (⟨some t,.alloc ty,_,_,_,none⟩::l)=>match zs with
  | cs::zs=>ck (.v ((ad7 P ty).map fun z=>z.cells.toList)) (.v (some cs)) (nw fun w'=>k hs zs (.o ops l) s (upd σ t (.pointer (some ⟨w.heap.size,0,none⟩))) w' (.box w0.heap.size w.heap.size ⟨cs⟩ ty::H))
  | []=>no
 | .o ops (⟨some t,.box ty x,_,_,_,none⟩::l)=>valK (fun v=>nw fun w'=>k hs zs (.o ops l) s (upd σ t (.pointer (some ⟨w.heap.size,0,none⟩))) w' (.box w0.heap.size w.heap.size v.cells ty::H)) (ev n σ x)
 | .o ops (⟨some t,.buildSlice ty 1 ⟨[(0,x)]⟩,_,_,_,none⟩::l)=>match hs with
  | e::hs=>valK (fun v=>ck (.n (optN (abg P ty))) (.n (e+1)) (ck (.n (optN (aaF P e))) (.n (v.cells.toList.length+1)) (ck (.n (oneB P e v.cells.size)) (.n 1) (nw fun w'=>k hs zs (.o ops l) s (upd σ t (.slice (some ⟨w.heap.size,0,none⟩) 1 1)) w' (.box w0.heap.size w.heap.size v.cells e::H))))) (ev n σ x)
  | []=>no
 | .o ops (⟨none,.store ty x y,_,_,_,none⟩::l)=>match hs,ev n σ x with
  | i::hs,.pointer (some ⟨b,o,none⟩)=>entS no H i fun a b' cs t f=>ck (.n b) (.n b') (valK (fun v=>ck (.n (optN (aaF P ty))) (.n (v.cells.toList.length+1)) (ck (.n (bN (v.cells.toList.all one))) (.n 1) (setK no cs.toList o v.cells.toList fun cs'=>nw fun w'=>k hs zs (.o ops l) s σ w' (f (.box a b' ⟨cs'⟩ t))))) (ev n σ y))
  | _,_=>no
 | .o ops (⟨some t,op,_,_,_,none⟩::l)=>opK P n ck no σ H hs (fun v hs=>k hs zs (.o ops l) s (upd σ t v) w H) op
 | .o ops (⟨some t,op,ty,pos,aft,some (j,b)⟩::l)=>match (ops[j]?).bind (·.dst) with
  | some d=>match ev n σ (.tmp d),b with
   | .bool true,true=>k hs zs (.o ops (⟨some t,op,ty,pos,aft,none⟩::l)) s σ w H
   | .bool false,false=>k hs zs (.o ops (⟨some t,op,ty,pos,aft,none⟩::l)) s σ w H
   | .bool true,false=>k hs zs (.o ops l) s (upd σ t undef) w H
   | .bool false,true=>k hs zs (.o ops l) s (upd σ t undef) w H
   | .tuple ⟨[]⟩,_=>k hs zs (.o ops l) s (upd σ t undef) w H
   | _,_=>no
  | none=>no
 | .e .normal=>match s with
  | .sq y::s=>k hs zs (.c y) s σ w H
  | .bk _::s=>k hs zs (.e .normal) s σ w H
  | s=>fin (.e .normal) s σ
 | .e (.exit id)=>match s with
  | .bk id'::s=>cond (Nat.beq id id') (k hs zs (.e .normal) s σ w H) (k hs zs (.e (.exit id)) s σ w H)
  | _::s=>k hs zs (.e (.exit id)) s σ w H
  | []=>no
 | .e .ret=>match s with
  | _::s=>k hs zs (.e .ret) s σ w H
  | []=>fin (.e .ret) [] σ
 | _=>hi_ β no
def rn{β:Type}(P:Program)(n:Nat)(w0:World)(ck:Ck→Ck→β→β)(no:β)(nw:(World→β)→β)(fin:World→Ents→Cg→List Fx→(Nat→Value)→β):Nat→List Nat→List (List Value)→Cg→List Fx→(Nat→Value)→World→Ents→β
 | 0,_,_,g,s,σ,w,H=>hi_ β (fin w H g s σ)
 | m+1,hs,zs,g,s,σ,w,H=>spK P n w0 ck no nw (fun g s σ=>hi_ β (fin w H g s σ)) (rn P n w0 ck no nw fin m) hs zs s σ w H g
abbrev LKt:=(Nat→World)→List (Ck×Ck)
def EqL(x:LKt):Prop:=∀ws,(x ws).map (·.1)=(x ws).map (·.2)
abbrev ckP:Ck→Ck→Prop→Prop:=fun _ _ p=>p
abbrev nwP:(World→Prop)→Prop:=fun k=>∀w,k w
abbrev ckL:Ck→Ck→LKt→LKt:=fun a b l ws=>(a,b)::l ws
abbrev noL:LKt:=fun _=>[(.n 0,.n 1)]
abbrev nwL:(World→LKt)→LKt:=fun k ws=>k (ws 0) (fun i=>ws (i+1))
theorem EqL.c{a b:Ck}{l:LKt}(h:EqL (ckL a b l)):a=b∧EqL l :=
 ⟨(List.cons.inj (h fun _=>default)).1,fun ws=>(List.cons.inj (h ws)).2⟩
theorem EqL.w{k:World→LKt}(h:EqL (nwL k))(w:World):EqL (k w):=fun ws=>h (fun | 0=>w | i+1=>ws i)
theorem ame{α:Type} : ∀{l:List α} {i:Nat} {k:α→Prop} {k' : α→LKt},nthK False l i k→EqL (nthK noL l i k')→∃v,l[i]?=some v∧k v∧EqL (k' v)
 | [],_,_,_,h,_=>h.elim
 | x::_,0,_,_,h,h'=>⟨x,rfl,h,h'⟩
 | _::l,i+1,k,k',h,h'=>by
  obtain⟨v,e,r⟩:=ame (l:=l) (i:=i) h h';exact⟨v,by simpa using e,r⟩
theorem aoc{α:Type} : ∀{l:List α} {i:Nat} {k:List α→Prop} {k' : List α→LKt},amJ False l i k→EqL (amJ noL l i k')→(l.take i).length=i∧k (l.take i)∧EqL (k' (l.take i))
 | l,0,_,_,h,h'=>by unfold amJ at h h';exact⟨by simp,by simpa using h,by simpa using h'⟩
 | [],_+1,_,_,h,_=>by unfold amJ at h;exact h.elim
 | x::l,i+1,k,k',h,h'=>by
  unfold amJ at h h';obtain⟨e,r⟩:=aoc (l:=l) (i:=i) h h';exact⟨by simp only[List.take_succ_cons,List.length_cons,e],by simpa using r⟩
theorem anz{α:Type} : ∀{l:List α} {i:Nat} {k:List α→Prop} {k' : List α→LKt},amj False l i k→EqL (amj noL l i k')→k (l.drop i)∧EqL (k' (l.drop i))
 | l,0,_,_,h,h'=>by unfold amj at h h';exact⟨by simpa using h,by simpa using h'⟩
 | [],_+1,_,_,h,_=>by unfold amj at h;exact h.elim
 | x::l,i+1,k,k',h,h'=>by
  unfold amj at h h';simpa using anz (l:=l) (i:=i) h h'
theorem amb : ∀{l:List Value} {o:Nat} {vs:List Value} {k:List Value→Prop} {k' : List Value→LKt},setK False l o vs k→EqL (setK noL l o vs k')→o+vs.length≤l.length∧k (ab4 l o vs)∧EqL (k' (ab4 l o vs))
 | l,0,[],k,k',h,h'=>by
  have h:k l:=by cases l<;>exact h
  have h' : EqL (k' l):=by cases l<;>exact h'
  rw[aet];exact⟨by simp,h,h'⟩
 | x::l,0,v::vs,k,k',h,h'=>by
  obtain⟨e,r⟩:=amb (l:=l) (o:=0) (vs:=vs) (k:=fun r=>k (v::r)) (k':=fun r=>k' (v::r)) h h';refine⟨by simp only[List.length_cons];omega,?_⟩;rw[ab4];exact r
 | x::l,o+1,vs,k,k',h,h'=>by
  obtain⟨e,r⟩:=amb (l:=l) (o:=o) (vs:=vs) (k:=fun r=>k (x::r)) (k':=fun r=>k' (x::r)) (by cases vs<;>exact h) (by cases vs<;>exact h');refine⟨by simp only[List.length_cons];omega,?_⟩;have e2:ab4 (x::l) (o+1) vs=x::ab4 l o vs:=by cases vs<;>rfl
  rw[e2];exact r
 | [],0,v::vs,_,_,h,_=>h.elim
 | [],o+1,vs,_,_,h,_=>by cases vs<;>exact h.elim
theorem amC : ∀{H:Ents} {i:Nat} {k:Nat→Array Value→Prop} {k' : Nat→Array Value→LKt},entK False H i k→EqL (entK noL H i k')→∃base b cs t,H[i]?=some (.box base b cs t)∧k b cs∧EqL (k' b cs)
 | [],_,_,_,h,_=>h.elim
 | e::H,0,k,k',h,h'=>by
  cases e with
  | box base b cs t=>exact⟨base,b,cs,t,rfl,h,h'⟩
  | _=>exact h.elim
 | e::H,i+1,k,k',h,h'=>by
  have:entK False H i k∧EqL (entK noL H i k'):=by cases e<;>exact⟨h,h'⟩
  obtain⟨base,b,cs,t,e1,r⟩:=amC this.1 this.2;exact⟨base,b,cs,t,by simpa using e1,r⟩
theorem arM : ∀{H:Ents} {i:Nat} {k:Nat→Nat→Array Value→TypeId→(Ent→Ents)→Prop} {k' : Nat→Nat→Array Value→TypeId→(Ent→Ents)→LKt},entS False H i k→EqL (entS noL H i k') →
  ∃base b cs t,H[i]?=some (.box base b cs t)∧k base b cs t (fun e=>H.set i e)∧EqL (k' base b cs t (fun e=>H.set i e))
 | [],_,_,_,h,_=>h.elim
 | e::H,0,k,k',h,h'=>by
  cases e with
  | box base b cs t=>exact⟨base,b,cs,t,rfl,h,h'⟩
  | _=>exact h.elim
 | e::H,i+1,k,k',h,h'=>by
  have:entS False H i (fun a b cs t f=>k a b cs t (fun x=>e::f x))∧EqL (entS noL H i (fun a b cs t f=>k' a b cs t (fun x=>e::f x))):=by cases e<;>exact⟨h,h'⟩
  obtain⟨base,b,cs,t,e1,r1,r2⟩:=arM this.1 this.2;exact⟨base,b,cs,t,by simpa using e1,by simpa using r1,by simpa using r2⟩
theorem ayT{o:Option Bool}(h:Ck.n (aggN o)=.n 0):o=some false:=by
 have h:=Ck.n.inj h;cases o with | none=>cases h | some b=>cases b<;>simp_all [aggN]
theorem ayi{o:Option Bool}(h:Ck.n (aggN o)=.n 1):o=some true:=by
 have h:=Ck.n.inj h;cases o with | none=>cases h | some b=>cases b<;>simp_all [aggN]
theorem asv{o:Option Nat}{z:Nat}(h:Ck.n (optN o)=.n (z+1)):o=some z:=by
 have h:=Ck.n.inj h;cases o with | none=>cases h | some b=>simp_all [optN]
theorem bN1{b:Bool}(h:Ck.n (bN b)=.n 1):b=true:=by cases b with | true=>rfl | false=>cases h
section
variable {P:Program}{Q:Exit→Act→World→Prop}{n:Nat}
theorem axk{H:Ents}{w:World}(hH : ∀e∈H,e.holds w){i base b j:Nat}{cs:Array Value}{bt:TypeId}{v:Value}(hi:H[i]?=some (.box base b cs bt))(h:cs[j]?=some v):w.cell? ⟨b,j,none⟩=some v:=by
 have:=(hH _ (List.mem_of_getElem? hi)).1;simp only[World.cell?,this];simpa using h
theorem apl{H:Ents}{σ:Nat→Value}{hs:List Nat}{op:Op}{k:Value→List Nat→Prop}{k' : Value→List Nat→LKt}
  (h:opK P n ckP False σ H hs k op) (h' : EqL (opK P n ckL noL σ H hs k' op)) :
  ∃v hs',(∀w,(∀e∈H,e.holds w)→∀t ty pos aft,(execOp (ev n σ) ⟨some t,op,ty,pos,aft,none⟩).run P w=.ok (.value v) w)∧k v hs'∧EqL (k' v hs'):=by
 cases op with
 | move x=>simp only[opK,afd] at h h';exact⟨_,_,fun _ _ _ _ _ _=>mv_r rfl,h,h'⟩
 | assign x=>simp only[opK,afd] at h h';exact⟨_,_,fun _ _ _ _ _ _=>axS rfl,h,h'⟩
 | pick c x y =>
  simp only[opK,afd] at h h';split at h
  ·rename_i e;rw[e] at h';exact⟨_,_,fun _ _ _ _ _ _=>at9 e rfl,h,h'⟩
  ·rename_i e;rw[e] at h';exact⟨_,_,fun _ _ _ _ _ _=>at9 e rfl,h,h'⟩
  ·exact h.elim
 | extract x i =>
  simp only[opK] at h h';split at h
  ·rename_i vs e;rw[e] at h'
   obtain⟨v,e2,r⟩:=ame h h';exact⟨v,_,fun _ _ _ _ _ _=>awu e (by simpa using e2),r⟩
  ·exact h.elim
 | nilCheck x =>
  simp only[opK] at h h';split at h
  ·rename_i a e;rw[e] at h';exact⟨_,_,fun _ _ _ _ _ _=>axg e,h,h'⟩
  ·exact h.elim
 | fieldAddr s x f =>
  simp only[opK] at h h';split at h
  ·rename_i o' hs b o e;rw[e] at h'
   obtain⟨e1,h'⟩:=h'.c;have e1:=Ck.n.inj e1;cases e2:aca P s f with
   | none=>rw[e2] at e1;exact absurd e1 (by simp)
   | some z=>rw[e2] at e1;exact⟨_,_,fun _ _ _ _ _ _=>aeU e2 e e1,h,h'⟩
  ·exact h.elim
 | load s x =>
  simp only[opK,afd] at h h';split at h
  ·rename_i i z hs b o e;rw[e] at h'
   obtain⟨base,b',cs,bt,e1,h1,g1⟩:=amC h h';obtain⟨e2,g2⟩:=EqL.c (a:=.n b) g1;have e2:=Ck.n.inj e2;subst e2;obtain⟨e3,g3⟩:=EqL.c (a:=.n (aggN (AggB P s))) g2;obtain⟨e4,g4⟩:=EqL.c (a:=.n (optN (aaF P s))) g3;obtain⟨h2,g5⟩:=anz (l:=cs.toList) (i:=o) h1 g4;obtain⟨e5,h3,g6⟩:=aoc (l:=cs.toList.drop o) (i:=z) h2 g5;refine⟨_,_,fun w hH _ _ _ _=>apD (ayi e3) (asv e4) e e5 (fun j v hj=>axk hH e1 ?_),h3,g6⟩;have hj' : j<z:=by have:=(List.getElem?_eq_some_iff.1 hj).1;omega
   rw[List.getElem?_take_of_lt hj',List.getElem?_drop] at hj;simpa using hj
  ·rename_i i hs b o e;rw[e] at h'
   obtain⟨base,b',cs,bt,e1,h1,g1⟩:=amC h h';obtain⟨e2,g2⟩:=EqL.c (a:=.n b) g1;have e2:=Ck.n.inj e2;subst e2;obtain⟨e3,g3⟩:=EqL.c (a:=.n (aggN (AggB P s))) g2;obtain⟨v,e4,h2,g4⟩:=ame (l:=cs.toList) (i:=o) h1 g3;exact⟨v,_,fun w hH _ _ _ _=>acE (ayT e3) e (axk hH e1 (by simpa using e4)),h2,g4⟩
  ·exact h.elim
 | binOp op xt x y yt =>
  simp only[opK] at h h';split at h
  all_goals first
   | exact h.elim
   | (rename_i κ a κ' b e1 e2;rw[e1,e2] at h';have hk:=h'.c.1;injection hk with hk;injection hk with hk;injection hk with hk _;injection hk with hk _;subst hk;exact⟨_,_,fun _ _ _ _ _ _=>axK e1 e2 rfl,h,h'.c.2⟩)
   | (rename_i e1 e2;rw[e1,e2] at h';exact⟨_,_,fun _ _ _ _ _ _=>aw0 e1 e2 rfl,h,h'⟩)
   | (rename_i e1 e2;rw[e1,e2] at h';exact⟨_,_,fun _ _ _ _ _ _=>ayJ (bN1 h'.c.1) e1 e2 rfl,h,h'.c.2⟩)
 | unOp u xt x =>
  cases u with
  | not =>
   simp only[opK] at h h';split at h
   ·rename_i a e;rw[e] at h';exact⟨_,_,fun _ _ _ _ _ _=>anV e,h,h'⟩
   ·exact h.elim
  | _=>exact h.elim
 | call c =>
  obtain⟨cl,args,ts⟩:=c;cases cl with
  | builtin bi =>
   obtain⟨args⟩:=args;obtain⟨ts⟩:=ts;cases bi with
   | len =>
    rcases args with _|⟨x,_ | ⟨y,args⟩⟩
    ·exact h.elim
    ·rcases ts with _|⟨s,_ | ⟨z,ts⟩⟩
     ·exact h.elim
     ·simp only[opK] at h h';split at h
      ·rename_i A len cap e;rw[e] at h'
       obtain⟨e1,g1⟩:=EqL.c (a:=.n (bN (abg P s).isSome)) h';obtain⟨el,e2⟩:=Option.isSome_iff_exists.1 (bN1 e1);exact⟨_,_,fun _ _ _ _ _ _=>awL e2 e,h,g1⟩
      ·rename_i a e;rw[e] at h'
       obtain⟨e1,g1⟩:=EqL.c (a:=.n (bN (StrB P s))) h';exact⟨_,_,fun _ _ _ _ _ _=>ayh (bN1 e1) e,h,g1⟩
      ·exact h.elim
     ·exact h.elim
    ·exact h.elim
   | _=>exact h.elim
  | _=>exact h.elim
 | _=>exact h.elim
end
section
variable {P:Program}{Q:Exit→Act→World→Prop}{n:Nat}{w0:World}{K0 K:KH}{M:Nat→Prop}
theorem atv{fin:World→Ents→Cg→List Fx→(Nat→Value)→Prop}(hf : ∀w H g s σ,Sx K0 K w0 w M H→fin w H g s σ→gO P Q n w g s σ) :
  ∀(m:Nat) (hs:List Nat) (zs:List (List Value)) (g:Cg) (s:List Fx) (σ:Nat→Value) (w:World) (H:Ents),Sx K0 K w0 w M H →
   rn P n w0 ckP False nwP fin m hs zs g s σ w H→EqL (rn P n w0 ckL noL nwL (fun _ _ _ _ _ _=>[]) m hs zs g s σ w H)→gO P Q n w g s σ
 | 0,_,_,g,s,σ,w,H,S,h,_=>hf w H g s σ S h
 | m+1,hs,zs,g,s,σ,w,H,S,h,h'=>by
  have ih:=fun hs zs g s σ w H S=>atv hf m hs zs g s σ w H S
  unfold rn at h h';cases g with
  | c c =>
   cases c with
   | seq x y=>exact wp_seq (ih _ _ _ _ _ _ _ S h h')
   | block id x=>exact wp_block (ih _ _ _ _ _ _ _ S h h')
   | region id ops dr =>
    obtain⟨l⟩:=ops;cases dr with
    | true=>exact h.elim
    | false=>exact wp_region_lit (l:=l) (ih _ _ _ _ _ _ _ S h h')
   | skip=>exact wp_skip (ih _ _ _ _ _ _ _ S h h')
   | exit id=>exact wp_exit (ih _ _ _ _ _ _ _ S h h')
   | ret=>exact wp_ret (ih _ _ _ _ _ _ _ S h h')
   | cond c x y =>
    simp only[spK] at h h';split at h
    ·rename_i e;rw[e] at h';exact cndT e (ih _ _ _ _ _ _ _ S h h')
    ·rename_i e;rw[e] at h';exact cndF e (ih _ _ _ _ _ _ _ S h h')
    ·exact h.elim
   | _=>exact h.elim
  | o ops l =>
   rcases l with _|⟨⟨dst,op,ty,pos,aft,grd⟩,l⟩
   ·exact ih hs zs (.e .normal) s σ w H S h h'
   ·cases dst with
    | none =>
     cases grd with
     | some _=>exfalso;cases op<;>exact h
     | none =>
      cases op with
      | store tt x y =>
       simp only[spK,afd] at h h';split at h
       ·rename_i i hs b o e;rw[e] at h'
        obtain⟨base,b',cs,bt,e1,h1,g1⟩:=arM h h';obtain⟨e2,g2⟩:=EqL.c (a:=.n b) g1;have e2:=Ck.n.inj e2;subst e2;obtain⟨e3,g3⟩:=EqL.c (a:=.n (optN (aaF P tt))) g2;obtain⟨e4,g4⟩:=EqL.c (a:=.n (bN _)) g3;obtain⟨e5,h2,g5⟩:=amb h1 g4;exact stoI S e1 (asv e3) e rfl (by simp) (bN1 e4) (by simpa using e5) rfl (fun w' S'=>ih _ _ _ _ _ w' _ S' (h2 w') (g5.w w'))
       ·exact h.elim
      | _=>exact h.elim
    | some t =>
     cases grd with
     | none =>
      by_cases ha : ∃tt,op=.alloc tt
      ·obtain⟨tt,rfl⟩:=ha;cases zs with
       | nil=>exact h.elim
       | cons cs zs =>
        obtain⟨e1,g1⟩:=EqL.c (a:=.v _) h';have e1:=Ck.v.inj e1;cases e2:ad7 P tt with
        | none=>rw[e2] at e1;cases e1
        | some z =>
         rw[e2] at e1;have e3:z.cells=⟨cs⟩:=Array.toList_inj.1 (Option.some.inj e1);exact alcC S e2 e3 (fun w' S'=>ih _ _ _ _ _ w' _ S' (h w') (g1.w w'))
      ·by_cases hb : ∃tt x,op=.box tt x
       ·obtain⟨tt,x,rfl⟩:=hb;simp only[spK,afd] at h h';exact bxoC S rfl rfl (fun w' S'=>ih _ _ _ _ _ w' _ S' (h w') (h'.w w'))
       ·by_cases hbs : ∃tt x,op=.buildSlice tt 1 ⟨[(0,x)]⟩
        ·obtain⟨tt,x,rfl⟩:=hbs;cases hs with
         | nil=>exact h.elim
         | cons e hs =>
          simp only[spK,afd] at h h';obtain⟨e1,g1⟩:=EqL.c (a:=.n (optN (abg P tt))) h';obtain⟨e2,g2⟩:=EqL.c (a:=.n (optN (aaF P e))) g1;obtain⟨e3,g3⟩:=EqL.c (a:=.n (oneB P e _)) g2;obtain⟨z,hz,h3,h4,h5⟩:=ayK (Ck.n.inj e3);exact bsl (e:=e) (vs:=[(0,ev n σ x)]) S rfl (aeZ (asv e1) (by have:=asv e2;simpa using this) hz h3 h4 h5 rfl) (fun w' S'=>ih _ _ _ _ _ w' _ S' (h w') (g3.w w'))
        ·have h2:opK P n ckP False σ H hs (fun v hs=>rn P n w0 ckP False nwP fin m hs zs (.o ops l) s (upd σ t v) w H) op:=by
          cases op with
         | buildSlice tt q ps =>
          obtain⟨ps⟩:=ps;rcases ps with _|⟨⟨i,x⟩,_ | ⟨y,l'⟩⟩
          ·rcases q with _|_ | q<;>exact h
          ·rcases q with _|_ | q
           ·exact h
           ·rcases i with _|i
            ·exact absurd ⟨_,_,rfl⟩ hbs
            ·exact h
           ·exact h
          ·rcases q with _|_ | q<;>first | exact h | (rcases i with _|i<;>exact h)
         | _=>first | exact h | exact absurd ⟨_,rfl⟩ ha | exact absurd ⟨_,_,rfl⟩ hb
         have g2:EqL (opK P n ckL noL σ H hs (fun v hs=>rn P n w0 ckL noL nwL (fun _ _ _ _ _ _=>[]) m hs zs (.o ops l) s (upd σ t v) w H) op):=by
          cases op with
         | buildSlice tt q ps =>
          obtain⟨ps⟩:=ps;rcases ps with _|⟨⟨i,x⟩,_ | ⟨y,l'⟩⟩
          ·rcases q with _|_ | q<;>exact h'
          ·rcases q with _|_ | q
           ·exact h'
           ·rcases i with _|i
            ·exact absurd ⟨_,_,rfl⟩ hbs
            ·exact h'
           ·exact h'
          ·rcases q with _|_ | q<;>first | exact h' | (rcases i with _|i<;>exact h')
         | _=>first | exact h' | exact absurd ⟨_,rfl⟩ ha | exact absurd ⟨_,_,rfl⟩ hb
         obtain⟨v,hs',e,h3,g3⟩:=apl h2 g2;exact aaO (e w S.ents t ty pos aft) (ih hs' zs (.o ops l) s _ w H S h3 g3)
     | some jb =>
      obtain⟨j,b⟩:=jb;simp only[spK] at h h';split at h
      ·rename_i d e0;rw[e0] at h'
       simp only at h';split at h
       ·rename_i e;rw[e] at h';exact av4 e0 e (ih _ _ _ _ _ _ _ S h h')
       ·rename_i e;rw[e] at h';exact av4 e0 e (ih _ _ _ _ _ _ _ S h h')
       ·rename_i e;rw[e] at h';exact at5 e0 e (ih _ _ _ _ _ _ _ S h h')
       ·rename_i e;rw[e] at h';exact at5 e0 e (ih _ _ _ _ _ _ _ S h h')
       ·rename_i e;rw[e] at h';exact avO e0 e (ih _ _ _ _ _ _ _ S h h')
       ·exact h.elim
      ·exact h.elim
  | e x =>
   cases x with
   | normal =>
    rcases s with _|⟨f,s⟩
    ·exact hf w H _ _ σ S h
    ·cases f with
     | sq y=>exact ih hs zs (.c y) s σ w H S h h'
     | bk id=>exact ih hs zs (.e .normal) s σ w H S h h'
     | nx f=>exact hf w H _ _ σ S h
   | exit id =>
    rcases s with _|⟨f,s⟩
    ·exact h.elim
    ·cases f with
     | sq y=>exact ih hs zs (.e (.exit id)) s σ w H S h h'
     | nx f=>exact ih hs zs (.e (.exit id)) s σ w H S h h'
     | bk id' =>
      simp only[spK] at h h';cases e:Nat.beq id id' with
      | true =>
       rw[e] at h h';have e1:id=id':=Nat.eq_of_beq_eq_true e;subst e1;exact blkX (ih hs zs (.e .normal) s σ w H S h h')
      | false =>
       rw[e] at h h';exact blkO (Nat.ne_of_beq_eq_false e) (ih hs zs (.e (.exit id)) s σ w H S h h')
   | ret =>
    rcases s with _|⟨f,s⟩
    ·exact hf w H _ _ σ S h
    ·cases f<;>exact ih hs zs (.e .ret) s σ w H S h h'
   | _=>exact h.elim
end
section
variable {P:Program}{Q:Exit→Act→World→Prop}{n:Nat}{H:Ents}{w w0:World}{K0 K:KH}{M:Nat→Prop}{σ:Nat→Value}{s:List Fx}
abbrev rP(P:Program)(Q:Exit→Act→World→Prop)(n:Nat)(m:Nat)(hs:List Nat)(g:Cg)(s:List Fx)(σ:Nat→Value)(w:World)(H:Ents):Prop:=rn P n w ckP False nwP (fun w _=>gO P Q n w) m hs [] g s σ w H
abbrev rZ(P:Program)(Q:Exit→Act→World→Prop)(n:Nat)(K0 K:KH)(w0:World)(M:Nat→Prop)(m:Nat)(hs:List Nat)(zs:List (List Value))(g:Cg)(s:List Fx)(σ:Nat→Value)(w:World)(H:Ents):Prop:=rn P n w0 ckP False nwP (fun w H g s σ=>Sx K0 K w0 w M H→gO P Q n w g s σ) m hs zs g s σ w H
abbrev rL(P:Program)(n:Nat)(w0:World)(m:Nat)(hs:List Nat)(zs:List (List Value))(g:Cg)(s:List Fx)(σ:Nat→Value)(w:World)(H:Ents):LKt:=rn P n w0 ckL noL nwL (fun _ _ _ _ _ _=>[]) m hs zs g s σ w H
theorem rn0{m:Nat}{g:Cg}(h:rP P Q n m [] g s σ w [])(e:EqL (rL P n w m [] [] g s σ w [])):gO P Q n w g s σ :=
 atv (fun w H g s σ _ h=>h) m [] [] g s σ w [] (Sx.start0 (K:=fun _=>none) (w:=w) (fun _ _ h=>by cases h)) h e
theorem rn1{m:Nat}{hs:List Nat}{g:Cg}(S:Sx K0 K w0 w M H)(h:rn P n w0 ckP False nwP (fun w _=>gO P Q n w) m hs [] g s σ w H)(e:EqL (rL P n w0 m hs [] g s σ w H)):gO P Q n w g s σ :=
 atv (fun w H g s σ _ h=>h) m hs [] g s σ w H S h e
theorem rn2{m:Nat}{hs:List Nat}{zs:List (List Value)}{g:Cg}(S:Sx K0 K w0 w M H)(h:rZ P Q n K0 K w0 M m hs zs g s σ w H)(e:EqL (rL P n w0 m hs zs g s σ w H)):gO P Q n w g s σ :=
 atv (fun w H g s σ S h=>h S) m hs zs g s σ w H S h e
theorem gd{c:Code}(m:Nat)(h:rP P Q n m [] (.c c) s σ w [])(e:EqL (rL P n w m [] [] (.c c) s σ w []):=by intro _;kernel_rfl):c.wp P (qO P Q s) (fr n σ) w:=rn0 h e
theorem gD{c:Code}(m:Nat)(hs:List Nat)(S:Sx K0 K w0 w M H)(h:rn P n w0 ckP False nwP (fun w _=>gO P Q n w) m hs [] (.c c) s σ w H)(e:EqL (rL P n w0 m hs [] (.c c) s σ w H):=by intro _;kernel_rfl):c.wp P (qO P Q s) (fr n σ) w:=rn1 S h e
theorem gI{c:Code}(m:Nat)(hs:List Nat)(zs:List (List Value))(S:Sx K0 K w0 w M H)(h:rZ P Q n K0 K w0 M m hs zs (.c c) s σ w H)(e:EqL (rL P n w0 m hs zs (.c c) s σ w H):=by intro _;kernel_rfl):c.wp P (qO P Q s) (fr n σ) w:=rn2 S h e
theorem go{ops:Array Oper}{l:List Oper}(m:Nat)(h:rP P Q n m [] (.o ops l) s σ w [])(e:EqL (rL P n w m [] [] (.o ops l) s σ w []):=by intro _;kernel_rfl):wpList P ops (qO P Q s) l (fr n σ) w:=rn0 h e
theorem gP{ops:Array Oper}{l:List Oper}(m:Nat)(hs:List Nat)(S:Sx K0 K w0 w M H)(h:rn P n w0 ckP False nwP (fun w _=>gO P Q n w) m hs [] (.o ops l) s σ w H)(e:EqL (rL P n w0 m hs [] (.o ops l) s σ w H):=by intro _;kernel_rfl):wpList P ops (qO P Q s) l (fr n σ) w:=rn1 S h e
theorem gR{ops:Array Oper}{l:List Oper}(m:Nat)(hs:List Nat)(zs:List (List Value))(S:Sx K0 K w0 w M H)(h:rZ P Q n K0 K w0 M m hs zs (.o ops l) s σ w H)(e:EqL (rL P n w0 m hs zs (.o ops l) s σ w H):=by intro _;kernel_rfl):wpList P ops (qO P Q s) l (fr n σ) w:=rn2 S h e
theorem gx{x:Exit}(m:Nat)(h:rP P Q n m [] (.e x) s σ w [])(e:EqL (rL P n w m [] [] (.e x) s σ w []):=by intro _;kernel_rfl):qO P Q s x (fr n σ) w:=rn0 h e
theorem gX{x:Exit}(m:Nat)(hs:List Nat)(S:Sx K0 K w0 w M H)(h:rn P n w0 ckP False nwP (fun w _=>gO P Q n w) m hs [] (.e x) s σ w H)(e:EqL (rL P n w0 m hs [] (.e x) s σ w H):=by intro _;kernel_rfl):qO P Q s x (fr n σ) w:=rn1 S h e
theorem gY{x:Exit}(m:Nat)(hs:List Nat)(zs:List (List Value))(S:Sx K0 K w0 w M H)(h:rZ P Q n K0 K w0 M m hs zs (.e x) s σ w H)(e:EqL (rL P n w0 m hs zs (.e x) s σ w H):=by intro _;kernel_rfl):qO P Q s x (fr n σ) w:=rn2 S h e
theorem lO{ops:Array Oper}{l:List Oper}{b c:Bool}(d:Nat)(e:b=c)(h:wpList P ops Q l (fr n (upd σ d (.bool c))) w)(hd:σ d=.bool b:=by exact rfl):wpList P ops Q l (fr n σ) w:=by
 subst e;rw[aiR hd] at h;exact h
theorem lC{x:Code}{b c:Bool}(d:Nat)(e:b=c)(h:x.wp P Q (fr n (upd σ d (.bool c))) w)(hd:σ d=.bool b:=by exact rfl):x.wp P Q (fr n σ) w:=by
 subst e;rw[aiR hd] at h;exact h
theorem lX{x:Exit}{b c:Bool}(d:Nat)(e:b=c)(h:qO P Q s x (fr n (upd σ d (.bool c))) w)(hd:σ d=.bool b:=by exact rfl):qO P Q s x (fr n σ) w:=by
 subst e;rw[aiR hd] at h;exact h
theorem bO{α:Type}{ops:Array Oper}{l:List Oper}{b:Bool}{x y r:α}(d:Nat)(h:cond b x y=r)(k1:b=true→x=r→wpList P ops Q l (fr n (upd σ d (.bool true))) w)(k2:b=false→y=r→wpList P ops Q l (fr n (upd σ d (.bool false))) w)(hd:σ d=.bool b:=by exact rfl):wpList P ops Q l (fr n σ) w:=by
 cases b
 ·exact lO d rfl (k2 rfl h) hd
 ·exact lO d rfl (k1 rfl h) hd
theorem bC{α:Type}{c:Code}{b:Bool}{x y r:α}(d:Nat)(h:cond b x y=r)(k1:b=true→x=r→c.wp P Q (fr n (upd σ d (.bool true))) w)(k2:b=false→y=r→c.wp P Q (fr n (upd σ d (.bool false))) w)(hd:σ d=.bool b:=by exact rfl):c.wp P Q (fr n σ) w:=by
 cases b
 ·exact lC d rfl (k2 rfl h) hd
 ·exact lC d rfl (k1 rfl h) hd
theorem cB{α β:Type}{ops:Array Oper}{l:List Oper}{t:Tmp}{ty:TypeId}{pos:String}{aft:Array Edge}{f:Operand}{args:Array Operand}{ts:Array TypeId}{g:FuncId}{vs:List Value}{x:Option α}{F:α→Option β}{r:β}{R:α→Value→World→Prop}
  (h:x.bind F=some r) (hc : ∀a,x=some a→Calls P g vs.toArray w (Ret (R a))) (k : ∀a v w',R a v w'→F a=some r→wpList P ops Q l (fr n (upd σ t v)) w')
  (hf:ev n σ f=.func (.func g) #[] #[]:=by exact rfl) (ha:args.toList.map (ev n σ)++(#[]:Array Value).toList=vs:=by exact rfl) (hb:acK P g=true:=by kernel_rfl):wpList P ops Q (⟨some t,.call { callee:=.value f,args:=args,argTypes:=ts },ty,pos,aft,none⟩::l) (fr n σ) w:=by
 obtain⟨a,e,h⟩:=Option.bind_eq_some_iff.1 h;exact clV hf hb ha (hc a e) (fun v w' hR=>k a v w' hR h)
theorem cX{α β:Type}{ops:Array Oper}{l:List Oper}{t:Tmp}{ty:TypeId}{pos:String}{aft:Array Edge}{f:Operand}{args:Array Operand}{ts:Array TypeId}{g:FuncId}{vs:List Value}{x:Option α}{F:α→Option β}{r:β}{R R' : α→Value→World→Prop}
  (h:x.bind F=some r) (hc : ∀a,x=some a→Calls P g vs.toArray w (RetP (R a) (R' a))) (k : ∀a v w',R a v w'→F a=some r→wpList P ops Q l (fr n (upd σ t v)) w') (k' : ∀a v w',R' a v w'→F a=some r→Q (.panic [{ v,recovered:=false }]) (fr n σ) w')
  (hf:ev n σ f=.func (.func g) #[] #[]:=by exact rfl) (ha:args.toList.map (ev n σ)++(#[]:Array Value).toList=vs:=by exact rfl) (hb:acK P g=true:=by kernel_rfl):wpList P ops Q (⟨some t,.call { callee:=.value f,args:=args,argTypes:=ts },ty,pos,aft,none⟩::l) (fr n σ) w:=by
 obtain⟨a,e,h⟩:=Option.bind_eq_some_iff.1 h;exact clP hf hb ha (hc a e) (fun v w' hR=>k a v w' hR h) (fun v w' hR=>k' a v w' hR h)
def kp(σ τ:Nat→Value):List Nat→Nat→Value
 | []=>τ
 | k::ks=>upd (kp σ τ ks) k (σ k)
def awc(τ σ:Nat→Value):List Nat→Prop
 | []=>True
 | k::ks=>τ k=σ k∧awc τ σ ks
theorem axl{σ τ:Nat→Value} : ∀{ks:List Nat},awc τ σ ks→kp σ τ ks=τ
 | [],_=>rfl
 | k::ks,h=>by
  show upd (kp σ τ ks) k (σ k)=τ;rw[axl h.2];exact aiR h.1
theorem fK{τ:Nat→Value}{ks:List Nat}{l:List (Nat×Value)}(h1:awc τ σ ks:=by (repeat' (first | exact trivial | refine⟨rfl,?_⟩)))(h2:Live τ l:=by (repeat' (first | exact trivial | refine⟨rfl,?_⟩))):fr n τ=fr n (updL (kp σ τ ks) l):=by
 rw[axl h1];exact frL h2
def sJ(H E:Ents):List Nat→Ents
 | []=>E
 | i::is=>match H[i]? with
  | some e=>e::sJ H E is
  | none=>sJ H E is
abbrev jJ(n:Nat)(σ:Nat→Value)(K0:KH)(w0:World)(B:Ents)(J:((Nat→Value)→List Nat→List (Nat×Value)→Prop)→(KH→List Nat→Ents→Prop)→Prop)(a:Act)(w' : World):Prop :=
 J (fun τ ks l=>a=fr n (updL (kp σ τ ks) l)) (fun K' is E=>Sx K0 K' w0 w' (fun b=>b∈Ents.blks B) (sJ B E is))
theorem wk{x y:Code}{B:Ents}(S:Sx K0 K w0 w (fun b=>b∈Ents.blks B) H)(J:((Nat→Value)→List Nat→List (Nat×Value)→Prop)→(KH→List Nat→Ents→Prop)→Prop)
 (h1:x.wp P (qO P Q (.nx (jJ n σ K0 w0 B J)::s)) (fr n σ) w)
 (h2 : ∀a w,J (fun τ ks l=>a=fr n (updL (kp σ τ ks) l)) (fun K' is E=>Sx K0 K' w0 w (fun b=>b∈Ents.blks B) (sJ B E is))→y.wp P (qO P Q s) a w):(Code.seq x y).wp P (qO P Q s) (fr n σ) w:=axt _ h1 h2
theorem wl{c:Code}{B:Ents}(S:Sx K0 K w0 w (fun b=>b∈Ents.blks B) H)(I:((Nat→Value)→List Nat→List (Nat×Value)→Prop)→(KH→List Nat→Ents→Prop)→Nat→Prop)(g:Nat)
 (h₀:I (fun τ ks l=>fr n σ=fr n (updL (kp σ τ ks) l)) (fun K' is E=>Sx K0 K' w0 w (fun b=>b∈Ents.blks B) (sJ B E is)) g)
 (round : ∀g a w,I (fun τ ks l=>a=fr n (updL (kp σ τ ks) l)) (fun K' is E=>Sx K0 K' w0 w (fun b=>b∈Ents.blks B) (sJ B E is)) g→c.wp P (qO P Q (.nx (fun a' w'=>∃g',g'<g∧jJ n σ K0 w0 B (fun j m=>I j m g') a' w')::s)) a w):(Code.loop c).wp P (qO P Q s) (fr n σ) w:=ate (fun g=>jJ n σ K0 w0 B (fun j m=>I j m g)) g h₀ round
theorem ask{c:Code}{a:Act}(h:c.wp P (qO P (Exit.noGoto (qO P Q s)) []) a w):(Code.scope c).wp P (qO P Q s) a w:=wp_scope_straight h
theorem en{f:FuncId}{fn:Func}{c:Code}{args:Array Value}{R:Ending→World→Prop}(n:Nat)(hf:P.funcs[f]?=some fn)(hb:fn.body=some c)
 (h:c.wp P (qO P (bodyPost P fn R) []) (fr n (fun t=>args.getD t undef)) w) (hn:args.size+(fn.ntmps - args.size)=n:=by exact rfl):Calls P f args w R:=enter hf hb hn h
theorem rt1{fn:Func}{t:Tmp}{R:Value→World→Prop}{v:Value}(h:R v w)(hr:fn.results=#[.tmp t]:=by exact rfl)(hv:ev n σ (.tmp t)=v:=by exact rfl):bodyPost P fn (Ret R) .ret (fr n σ) w:=adq hr (resT hv) h
theorem rt2{fn:Func}{t t' : Tmp}{R:Value→World→Prop}{v v' : Value}(h:R (.tuple #[v,v']) w)(hr:fn.results=#[.tmp t,.tmp t']:=by exact rfl)(hv:ev n σ (.tmp t)=v:=by exact rfl)(hv' : ev n σ (.tmp t')=v':=by exact rfl):bodyPost P fn (Ret R) .ret (fr n σ) w:=aby hr (resT hv) (resT hv') h
theorem oj{α:Type}{a r b:α}(h:some a=some r)(hr:r=b):a=b:=(Option.some.inj h).trans hr
theorem pX{c:_}{a:Act} : ∀{s:List Fx},Q (.panic c) a w→qO P Q s (.panic c) a w
 | [],h=>h
 | .sq _::s,h=>pX (s:=s) h
 | .bk _::s,h=>pX (s:=s) h
 | .nx _::s,h=>pX (s:=s) h
end
section
variable {P:Program}{ops:Array Oper}{Q:Exit→Act→World→Prop}{rest:List Oper}{n:Nat}{σ:Nat→Value}{w w0:World}{ty ty' : TypeId}{pos pos' : String}{aft aft' : Array Edge}{t t' : Tmp}{K0 K:KH}{M:Nat→Prop}{H:Ents}
 {α:Type} {R:α→List Value→Prop} {Y:List Value→Prop} {s e size bytes c:Nat} {x y:Operand} {A:Option Addr} {k:IntKind} {xs l:List α} {a:α}
theorem ev_t{v:Value}(ht:Nat.blt t n=true):ev n (upd σ t v) (.tmp t)=v:=by
 show cond (Nat.blt t n) (upd σ t v t) undef=v;rw[ht,asf];rfl
theorem eN{i:Nat}(S:Sx K0 K w0 w M H)(hr:RSl α R size bytes K A c xs)(hd:xs.drop i=a::l)(op : ∀{cs},R a cs→Y cs)
  (h : ∀b o cs,A=some ⟨b,o,none⟩→adZ (K.cell b) (o+i*size) cs→R a cs→Y cs→wpList P ops Q rest (fr n (upd (upd σ t (.pointer (some ⟨b,o+i*size,none⟩))) t' (.agg cs.toArray))) w)
  (hx:ev n σ x=.slice A xs.length c:=by exact rfl) (hy:ev n σ y=.int k (i:Int):=by exact rfl) (ht:Nat.blt t n=true:=by exact rfl)
  (he:abg P s=some e:=by kernel_rfl) (hs:aaF P e=some size:=by kernel_rfl) (ha:AggB P e=some true:=by kernel_rfl) :
  wpList P ops Q (⟨some t,.indexAddr s x y,ty,pos,aft,none⟩::⟨some t',.load e (.tmp t),ty',pos',aft',none⟩::rest) (fr n σ) w:=by
 obtain⟨b,o,cs,hA,hl,hc,hR⟩:=hr.row.at_ (aaB hd);exact idxN he hs hx hA hy (aaR hd) (ldN ha hs (ev_t ht) hl (fun j v hj=>S.le.cell (hc j v hj)) (h b o cs hA hc hR (op hR)))
theorem eG{i:Int}(S:Sx K0 K w0 w M H)(hr:RSl α R size bytes K A c xs)(hd:idxO xs i=some a)(op : ∀{cs},R a cs→Y cs)
  (h : ∀b o cs,A=some ⟨b,o,none⟩→adZ (K.cell b) (o+i.toNat*size) cs→R a cs→Y cs→wpList P ops Q rest (fr n (upd (upd σ t (.pointer (some ⟨b,o+i.toNat*size,none⟩))) t' (.agg cs.toArray))) w)
  (hx:ev n σ x=.slice A xs.length c:=by exact rfl) (hy:ev n σ y=.int k i:=by exact rfl) (ht:Nat.blt t n=true:=by exact rfl)
  (he:abg P s=some e:=by kernel_rfl) (hs:aaF P e=some size:=by kernel_rfl) (ha:AggB P e=some true:=by kernel_rfl) :
  wpList P ops Q (⟨some t,.indexAddr s x y,ty,pos,aft,none⟩::⟨some t',.load e (.tmp t),ty',pos',aft',none⟩::rest) (fr n σ) w:=by
 obtain⟨b,o,cs,hA,hl,hc,hR⟩:=hr.row.at_ (aay hd).1;exact idxG he hs hx hA hy (aay hd).2.1 (aay hd).2.2 (ldN ha hs (ev_t ht) hl (fun j v hj=>S.le.cell (hc j v hj)) (h b o cs hA hc hR (op hR)))
end
section
variable {P:Program}{ops:Array Oper}{Q:Exit→Act→World→Prop}{rest:List Oper}{n:Nat}{σ:Nat→Value}{w w0:World}{ty ty' : TypeId}{pos pos' : String}{aft aft' : Array Edge}{t:Tmp}{K0 K:KH}{M:Nat→Prop}{H:Ents}{α β:Type}
def awo(P:Program)(e size bytes:Nat):Bool:=match P.info? e with | some i=>(match i.zero with | some z=>z.cells.size==size&&i.size==size&&i.bytes==bytes | none=>false) | none=>false
theorem asw{e size bytes:Nat}(h:awo P e size bytes=true) : ∃z,(P.info? e).map (fun i=>(i.zero,i.size,i.bytes))=some (some z,size,bytes)∧z.cells.size=size:=by
 unfold awo at h;split at h
 ·rename_i i hi;split at h
  ·rename_i z hz;simp only[Bool.and_eq_true,beq_iff_eq] at h;exact⟨z,by rw[hi];simp[hz,h.1.2,h.2],h.1.1⟩
  ·cases h
 ·cases h
theorem aJ{R:α→List Value→Prop}{x y:Operand}{st e size bytes:Nat}{base base' b c:Nat}{A:Option Addr}{xs:List α}{ys:List Value}{p:α}{news:Array Value}{bt:TypeId}{X:Option β}{r:β}
  (g:aaC (decide ((xs.length+1)*bytes≤140737488355328)) X=some r) (i j:Nat) (S:Sx K0 K w0 w M H) (hi:H[i]?=some (.row base (.slice A xs.length c) e size xs.length ys)) (hj:H[j]?=some (.box base' b news bt)) (hr:Reps R size xs ys) (hp:R p news.toList)
  (h : ∀A' c' ys' w',Sx K0 K w0 w' M (H.set i (.row base (.slice A' (xs++[p]).length c') e size (xs++[p]).length ys'))→Reps R size (xs++[p]) ys'→(xs.length+1)*bytes≤140737488355328→X=some r→wpList P ops Q rest (fr n (upd σ t (.slice A' (xs++[p]).length c'))) w')
  (hbase:base≤w0.heap.size:=by exact Nat.le_refl _) (hx:ev n σ x=.slice A xs.length c:=by exact rfl) (hy:ev n σ y=.slice (some ⟨b,0,none⟩) 1 1:=by exact rfl) (hl:news.size=size:=by exact rfl) (h1:news.toList.all (fun u=>u.oneCell')=true:=by exact rfl)
  (he:abg P st=some e:=by kernel_rfl) (hf:awo P e size bytes=true:=by kernel_rfl) (hsz:Nat.blt 0 size=true:=by exact rfl) (hbp:Nat.blt 0 bytes=true:=by exact rfl) :
  wpList P ops Q (⟨some t,.call { callee:=.builtin .append,args:=#[x,y],argTypes:=#[st,st] },ty,pos,aft,none⟩::rest) (fr n σ) w:=by
 obtain⟨hg,hX⟩:=aaQ g;obtain⟨z,hz,hzs⟩:=asw hf;exact apR S hi hj he hz hzs (Nat.lt_of_succ_le (Nat.le_of_ble_eq_true hsz)) hx hy hr hp hl h1 hbase hg (Nat.lt_of_succ_le (Nat.le_of_ble_eq_true hbp)) (fun A' c' ys' w' S' hr'=>h A' c' ys' w' S' hr' hg hX)
end
section
variable {P:Program}{ops:Array Oper}{Q:Exit→Act→World→Prop}{rest:List Oper}{n:Nat}{σ:Nat→Value}{w w0:World}{ty ty' : TypeId}{pos pos' : String}{aft aft' : Array Edge}{t:Tmp}{K0 K:KH}{M:Nat→Prop}{H:Ents}{α:Type}
theorem mI{R:α→List Value→Prop}{mt bt base b clk:Nat}{es:Array MapEntry}{xs:List (Int×α)}{m x:Operand}{ps:Array (Nat×Operand)}{op:Op}(i:Nat)(k:Int)(u:α)(cs:List Value)(S:Sx K0 K w0 w M H)(hi:H[i]?=some (.mp base b es clk))(hr:MapR kI (VAgg R) xs es.toList)
  (h : ∀es' clk' w',Sx K0 K w0 w' M (H.set i (.mp base b es' clk'))→MapR kI (VAgg R) (mput qI k u xs) es'.toList→wpList P ops Q rest (fr n (upd σ t (.agg cs.toArray))) w')
  (hR:R u cs:=by exact .mk) (hop:op=.insert mt m x (.tmp t)∨op=.mapUpdate mt m x (.tmp t):=by first | exact .inl rfl | exact .inr rfl)
  (hmv:ev n (upd σ t (.agg cs.toArray)) m=.map (some b):=by exact rfl) (hx:ev n (upd σ t (.agg cs.toArray)) x=kI k:=by exact rfl) (ht:Nat.blt t n=true:=by exact rfl)
  (hm:(match P.underlying mt with | some (.map k _)=>amR P k==some .i64 | _=>false)=true:=by kernel_rfl)
  (hb : ∀w,(Instr.build bt (ps.toList.map (fun (i,x)=>(i,ev n σ x))).toArray).run P w=.ok (.agg cs.toArray) w:=by intro _;kernel_rfl) :
  wpList P ops Q (⟨some t,.build bt ps,ty,pos,aft,none⟩::⟨none,op,ty',pos',aft',none⟩::rest) (fr n σ) w:=by
 refine bld rfl hb ?_;split at hm
 ·rename_i kt et hu;have hk:amR P kt=some .i64:=by simpa using hm
  exact mup_ (kv:=kI) (q:=qI) (R:=VAgg R) (et:=et) hop S hi (by simp[MpB,hu]) (aax hk) keI hr hmv hx (ev_t ht) ⟨cs,rfl,hR⟩ h
 ·cases hm
end
section
variable {P:Program}{ops:Array Oper}{Q:Exit→Act→World→Prop}{rest:List Oper}{n:Nat}{σ:Nat→Value}{w w0:World}{ty xt yt:TypeId}{pos:String}{aft:Array Edge}{t:Tmp}{x y:Operand}{k:IntKind}{α:Type}{xs l:List α}{a:α}{i:Nat}
theorem cNl(hd:xs.drop i=[])(h:wpList P ops Q rest (fr n (upd σ t (.bool false))) w)(hx:ev n σ x=.int k (i:Int):=by exact rfl)(hy:ev n σ y=.int k (xs.length:Int):=by exact rfl):wpList P ops Q (⟨some t,.binOp .lss xt x y yt,ty,pos,aft,none⟩::rest) (fr n σ) w:=bcm (r:=false) hx hy (congrArg some (aht hd)) h
theorem cCl(hd:xs.drop i=a::l)(h:wpList P ops Q rest (fr n (upd σ t (.bool true))) w)(hx:ev n σ x=.int k (i:Int):=by exact rfl)(hy:ev n σ y=.int k (xs.length:Int):=by exact rfl):wpList P ops Q (⟨some t,.binOp .lss xt x y yt,ty,pos,aft,none⟩::rest) (fr n σ) w:=bcm (r:=true) hx hy (congrArg some (ahT hd)) h
theorem iCl{bytes:Nat}(hd:xs.drop i=a::l)(hb:xs.length*bytes≤140737488355328)(h:wpList P ops Q rest (fr n (upd σ t (.int .i64 ((i+1:Nat):Int)))) w)(hx:ev n σ x=.int .i64 (i:Int):=by exact rfl)(hy:ev n σ y=.int .i64 1:=by exact rfl)(h0:Nat.blt 0 bytes=true:=by exact rfl):wpList P ops Q (⟨some t,.binOp .add xt x y yt,ty,pos,aft,none⟩::rest) (fr n σ) w :=
 bar hx hy (aiZ (atE hb (Nat.lt_of_succ_le (Nat.le_of_ble_eq_true h0)) (aaR hd))) h
theorem rNl{K0 K:KH}{M:Nat→Prop}{H:Ents}{base b a s:Nat}{cs:Array Value}{bt:TypeId}(i:Nat)(S:Sx K0 K w0 w M H)(hi:H[i]?=some (.box base b cs bt))(hx:ev n σ (.tmp a)=.pointer (some ⟨b,0,none⟩):=by exact rfl)(ha:AggB P s=some true:=by kernel_rfl)(hs:aaF P s=some cs.toList.length:=by kernel_rfl):adh P w n σ (.cell a s) (.agg cs.toList.toArray):=resN S hi ha hs hx rfl rfl
theorem iNl{s b o c:Nat}{A:Option Addr}(e size:Nat)(hA:A=some ⟨b,o,none⟩)(hd:xs.drop i=a::l)(h:wpList P ops Q rest (fr n (upd σ t (.pointer (some ⟨b,o+i*size,none⟩)))) w)(hx:ev n σ x=.slice A xs.length c:=by exact rfl)(hy:ev n σ y=.int k (i:Int):=by exact rfl)(he:abg P s=some e:=by kernel_rfl)(hs:aaF P e=some size:=by kernel_rfl) :
 wpList P ops Q (⟨some t,.indexAddr s x y,ty,pos,aft,none⟩::rest) (fr n σ) w:=idxN he hs hx hA hy (aaR hd) h
end
section
variable {P:Program}{ops:Array Oper}{Q:Exit→Act→World→Prop}{rest:List Oper}{n:Nat}{σ:Nat→Value}{w w0:World}{ty:TypeId}{pos:String}{aft:Array Edge}{t:Tmp}{x y:Operand}{k:IntKind}{α:Type}{xs l:List α}{a:α}
theorem iGl{s b o c:Nat}{i:Int}{A:Option Addr}(e size:Nat)(hA:A=some ⟨b,o,none⟩)(hd:idxO xs i=some a)(h:wpList P ops Q rest (fr n (upd σ t (.pointer (some ⟨b,o+i.toNat*size,none⟩)))) w)(hx:ev n σ x=.slice A xs.length c:=by exact rfl)(hy:ev n σ y=.int k i:=by exact rfl)(he:abg P s=some e:=by kernel_rfl)(hs:aaF P e=some size:=by kernel_rfl) :
 wpList P ops Q (⟨some t,.indexAddr s x y,ty,pos,aft,none⟩::rest) (fr n σ) w:=idxG he hs hx hA hy (aay hd).2.1 (aay hd).2.2 h
end
section
variable {P:Program}{ops:Array Oper}{Q:Exit→Act→World→Prop}{rest:List Oper}{n:Nat}{σ:Nat→Value}{w:World}{ty:TypeId}{pos:String}{aft:Array Edge}{t:Tmp}
 {K0 K:KH} {w0:World} {M:Nat→Prop} {H:Ents} {κ ν:Type}
theorem Sx.turnC{w' : World}{B C:Ents}{e' : Ent}(S:Sx K0 K w0 w M (C++B))(hg : ∀b,b<w.heap.size→b∉Ents.blks C→w'.heap[b]?=w.heap[b]?)(hs:w.heap.size≤w'.heap.size)(ho:w'.os=w.os)(ht:w'.tape=w.tape)(hp:w'.output=w.output)
  (he:e'.holds w') (hb : ∀b∈e'.bl,b∈Ents.blks C∨w.heap.size≤b) (hn' : e'.bl.Nodup):Sx K0 K w0 w' M (e'::B):=by
 have happ:Ents.blks (C++B)=Ents.blks C++Ents.blks B:=Ents.blks_app C B;have hin : ∀b,b∈Ents.blks C→b∈Ents.blks (C++B):=fun b h=>by rw[happ];exact List.mem_append_left _ h
 have hK : ∀b,K b≠none→w'.heap[b]?=w.heap[b]?:=fun b h=>hg b (S.le.lt h) fun h'=>h ((S.free b (hin b h')).1)
 have hn:=S.nodup;rw[happ,List.nodup_append] at hn;obtain⟨hnC,hnB,hnCB⟩:=hn;have hother : ∀x,x∈B→∀b,b∈x.bl→b<w.heap.size∧b∉Ents.blks C:=by
  intro x hx b hxb;refine⟨S.lt (Ents.mem_blks (List.mem_append_right _ hx) hxb),fun h=>hnCB b h b (Ents.mem_blks hx hxb) rfl⟩
 have hKn : ∀b,w.heap.size≤b→K b=none:=fun b h=>by
  cases e2:K b with
  | none=>rfl
  | some o=>exact absurd (S.le.lt (b:=b) (by rw[e2];simp)) (by omega)
 refine⟨S.sub,S.fresh,fun b o h=>(hK b (by rw[h];simp)).trans (S.le b o h),?_,Nat.le_trans S.size hs,ho.trans S.os,ht.trans S.tape,hp.trans S.output,?_,?_,?_⟩
 ·intro b h hM;have hlt:b<w.heap.size:=Nat.lt_of_lt_of_le h S.size;rw[hg b hlt (fun h'=>?_)]
  ·exact S.ext b h hM
  ·rcases (S.free b (hin b h')).2 with k | k
   ·exact hM k
   ·omega
 ·intro x hx;rcases List.mem_cons.1 hx with rfl | hx
  ·exact he
  ·exact Ent.holds_of (S.ents x (List.mem_append_right _ hx)) fun b hxb=>hg b (hother x hx b hxb).1 (hother x hx b hxb).2
 ·intro b hbm;unfold Ents.blks at hbm;rw[List.flatMap_cons] at hbm;rcases List.mem_append.1 hbm with h | h
  ·rcases hb b h with h | h
   ·exact S.free b (hin b h)
   ·exact⟨hKn b h,.inr (Nat.le_trans S.size h)⟩
  ·exact S.free b (by rw[happ];exact List.mem_append_right _ h)
 ·unfold Ents.blks;rw[List.flatMap_cons,List.nodup_append];refine⟨hn',hnB,fun a ha c hc hac=>?_⟩;subst hac;obtain⟨x,hx,hxb⟩:=List.mem_flatMap.1 hc;rcases hb a ha with h | h
  ·exact (hother x hx a hxb).2 h
  ·exact absurd (hother x hx a hxb).1 (by omega)
abbrev MapC:=Nat×Array MapEntry×Nat
def refs(ms:List MapC):List Value:=ms.map fun m=>.map (some m.1)
def StkR(kv:κ→Value)(R:ν→Value→Prop):List (List (κ×ν))→List MapC→Prop
 | [],ms=>ms=[]
 | x::xs,ms=>∃m t,ms=m::t∧MapR kv R x m.2.1.toList∧StkR kv R xs t
theorem StkR.mono{kv:κ→Value}{R R' : ν→Value→Prop}(hR : ∀x v,R x v→R' x v) : ∀{xs:List (List (κ×ν))} {ms:List MapC},StkR kv R xs ms→StkR kv R' xs ms
 | [],_,h=>h
 | x::xs,ms,h=>by
  obtain⟨m,t,h1,h2,h3⟩:=h;exact⟨m,t,h1,h2.mono hR,h3.mono hR⟩
theorem StkR.len{kv:κ→Value}{R:ν→Value→Prop} : ∀{xs:List (List (κ×ν))} {ms:List MapC},StkR kv R xs ms→ms.length=xs.length
 | [],_,h=>by
  have h:_=[]:=h;subst h;rfl
 | x::xs,ms,h=>by
  obtain⟨m,t,rfl,h2,h3⟩:=h;simp[h3.len]
theorem StkR.at_{kv:κ→Value}{R:ν→Value→Prop} : ∀{xs:List (List (κ×ν))} {ms:List MapC} {i:Nat} {x:List (κ×ν)},StkR kv R xs ms→xs[i]?=some x→∃m,ms[i]?=some m∧MapR kv R x m.2.1.toList
 | [],_,i,x,h,hx=>by simp at hx
 | y::xs,ms,i,x,h,hx=>by
  obtain⟨m,t,rfl,h2,h3⟩:=h;cases i with
  | zero=>simp at hx;subst hx;exact⟨m,rfl,h2⟩
  | succ i=>simpa using h3.at_ (by simpa using hx)
theorem StkR.snoc{kv:κ→Value}{R:ν→Value→Prop}{x:List (κ×ν)}{m:MapC}(hm:MapR kv R x m.2.1.toList) : ∀{xs:List (List (κ×ν))} {ms:List MapC},StkR kv R xs ms→StkR kv R (xs++[x]) (ms++[m])
 | [],_,h=>by
  have h:_=[]:=h;subst h;exact⟨m,[],rfl,hm,rfl⟩
 | y::xs,ms,h=>by
  obtain⟨m',t,rfl,h2,h3⟩:=h;exact⟨m',_,rfl,h2,h3.snoc hm⟩
theorem StkR.take{kv:κ→Value}{R:ν→Value→Prop} : ∀{xs:List (List (κ×ν))} {ms:List MapC} (k:Nat),StkR kv R xs ms→StkR kv R (xs.take k) (ms.take k)
 | [],_,k,h=>by
  have h:_=[]:=h;subst h;simp;rfl
 | y::xs,ms,0,h=>by simp;rfl
 | y::xs,ms,k+1,h=>by
  obtain⟨m',t,rfl,h2,h3⟩:=h;exact⟨m',_,rfl,h2,h3.take k⟩
theorem StkR.set{kv:κ→Value}{R:ν→Value→Prop}{x:List (κ×ν)}{m:MapC}(hm:MapR kv R x m.2.1.toList) : ∀{xs:List (List (κ×ν))} {ms:List MapC} (k:Nat),StkR kv R xs ms→StkR kv R (xs.set k x) (ms.set k m)
 | [],_,k,h=>by
  have h:_=[]:=h;subst h;simp;rfl
 | y::xs,ms,0,h=>by
  obtain⟨m',t,rfl,h2,h3⟩:=h;exact⟨m,t,rfl,hm,h3⟩
 | y::xs,ms,k+1,h=>by
  obtain⟨m',t,rfl,h2,h3⟩:=h;exact⟨m',_,rfl,h2,h3.set hm k⟩
theorem atN{kv:κ→Value}{R:ν→Value→Prop}{base e c i:Nat}{A:Option Addr}{xs:List (List (κ×ν))}{ms:List MapC}{x:List (κ×ν)}(h:Ent.holds w (.stk base (.slice A xs.length c) e xs.length ms))(hr:StkR kv R xs ms)(hx:xs[i]?=some x) :
  ∃b m,A=some ⟨b,0,none⟩∧ms[i]?=some m∧MapR kv R x m.2.1.toList∧∀w',Ent.holds w' (.stk base (.slice A xs.length c) e xs.length ms)→w'.cell? ⟨b,0+i*1,none⟩=some (.map (some m.1))∧w'.heap[m.1]?=some (.map m.2.1 m.2.2):=by
 have hlt:i<xs.length:=(List.getElem?_eq_some_iff.1 hx).1;obtain⟨m,hm,hmr⟩:=hr.at_ hx;have key : ∀w',Ent.holds w' (.stk base (.slice A xs.length c) e xs.length ms)→∃g cur,A=some ⟨g,0,none⟩∧w'.heap[g]?=some (.cells cur e (0,0))∧cur.toList.take (xs.length*1)=refs ms:=by
  intro w' h';rcases h'.1.2 with ⟨h1,h0⟩ | ⟨g,cap,cur,h1,_,hh,_,_,_,h4⟩
  ·omega
  ·injection h1 with h1 h2 h3
   exact⟨g,cur,h1,hh,h4⟩
 obtain⟨g,cur,hA,_,_⟩:=key w h;refine⟨g,m,hA,hm,hmr,fun w' h'=>⟨?_,(h'.2 m (List.mem_of_getElem? hm)).1⟩⟩;obtain⟨g',cur',hA',hh,h4⟩:=key w' h';rw[hA] at hA';cases hA';have hv:(refs ms)[i]?=some (.map (some m.1)):=by simp[refs,hm]
 rw[←h4,List.getElem?_take_of_lt (by omega)] at hv;simp only[World.cell?,hh];simpa using hv
theorem agu{i:Nat}{e:Ent}(S:Sx K0 K w0 w M H)(hi:H[i]?=some e):e.bl.Nodup:=anW S.nodup (List.mem_of_getElem? hi)
theorem Sx.cutM{i base e c m:Nat}{kv:κ→Value}{R:ν→Value→Prop}{A:Option Addr}{xs:List (List (κ×ν))}{ms:List MapC}(S:Sx K0 K w0 w M H)(hi:H[i]?=some (.stk base (.slice A xs.length c) e xs.length ms))(hr:StkR kv R xs ms)(hm:m≤xs.length) :
  Sx K0 K w0 w M (H.set i (.stk base (.slice A (xs.take m).length c) e (xs.take m).length (ms.take m))):=by
 have hown:Ent.holds w (.stk base (.slice A xs.length c) e xs.length ms):=S.entAt hi;have hnd:=agu S hi;have hlen:=hr.len;have hml:(xs.take m).length=m:=by simp;omega
 obtain⟨X,Y,rfl,h2,_⟩:=abc hi;rw[h2];have hsub:(Ent.bl (.stk base (.slice A (xs.take m).length c) e (xs.take m).length (ms.take m))).Sublist (Ent.bl (.stk base (.slice A xs.length c) e xs.length ms)):=by
  simp only[Ent.bl];exact (show (Value.ownBlock (.slice A (xs.take m).length c)).toList.Sublist _ by cases A<;>exact List.Sublist.refl _).append ((List.take_sublist m ms).map _)
 refine S.turnG (fun _ _ _=>rfl) (Nat.le_refl _) rfl rfl rfl ⟨?_,fun x hx=>hown.2 x (List.mem_of_mem_take hx)⟩ (fun b hb=>.inl (hsub.subset hb)) (hnd.sublist hsub);rw[hml];refine⟨by simp;omega,?_⟩;rcases hown.1.2 with ⟨h1,h0⟩ | ⟨g,cap,cur,h1,hb,hh,h3,h4,h5,h6⟩
 ·injection h1 with h1 h7 h8
  subst h1 h8;have:m=0:=by omega
  subst this;exact .inl ⟨rfl,rfl⟩
 ·injection h1 with h1 h7 h8
  subst h1 h8;refine .inr ⟨g,c,cur,rfl,hb,hh,by omega,h4,h5,?_⟩;rw[List.map_take,←h6,List.take_take];congr 1;omega
theorem updM{mt kt et:TypeId}{d:TypeDesc}{kv:κ→Value}{q:κ→κ→Bool}{R:ν→Value→Prop}{i j base e c:Nat}{A:Option Addr}{xs:List (List (κ×ν))}{ms:List MapC}{x:List (κ×ν)}{m:MapC}{k:κ}{u:ν}{uv:Value}{mo kx y:Operand}{op:Op}(hop:op=.insert mt mo kx y∨op=.mapUpdate mt mo kx y)
  (S:Sx K0 K w0 w M H) (hi:H[i]?=some (.stk base (.slice A xs.length c) e xs.length ms)) (hs:StkR kv R xs ms) (hx:xs[j]?=some x) (hj:ms[j]?=some m) (hr:MapR kv R x m.2.1.toList) (hm:MpB P mt kt et=true) (hd:P.underlying kt=some d) (hk:KeyK d kv q)
  (hmv:ev n σ mo=.map (some m.1)) (hkx:ev n σ kx=kv k) (hy:ev n σ y=uv) (hu:R u uv)
  (h : ∀ms' w',Sx K0 K w0 w' M (H.set i (.stk base (.slice A (xs.set j (mput q k u x)).length c) e (xs.set j (mput q k u x)).length ms'))→StkR kv R (xs.set j (mput q k u x)) ms'→wpList P ops Q rest (fr n σ) w') :
  wpList P ops Q (⟨none,op,ty,pos,aft,none⟩::rest) (fr n σ) w:=by
 have hh:Ent.holds w (.stk base (.slice A xs.length c) e xs.length ms):=S.entAt hi;have hb:=(hh.2 m (List.mem_of_getElem? hj)).1;obtain⟨es',clk',h1,h2⟩:=afJ (P:=P) (w:=w) (u:=u) (afW hm) hd hk hb hr hu;have hnd:=agu S hi;have hset:=MapKept.heap_set (o':=.map es' clk') hb;have hjl:j<ms.length:=(List.getElem?_eq_some_iff.1 hj).1;have hjm:ms[j]=m:=(List.getElem?_eq_some_iff.1 hj).2;have hmap:(ms.set j (m.1,es',clk')).map (·.1)=ms.map (·.1):=by
  apply List.ext_getElem?;intro i';simp only[List.getElem?_map,List.getElem?_set];by_cases e1:j=i'
  ·subst e1;simp[hjl,hjm]
  ·simp[e1]
 have hrefs:refs (ms.set j (m.1,es',clk'))=refs ms:=by
  have : ∀l:List MapC,refs l=(l.map (·.1)).map (fun b=>Value.map (some b)):=fun l=>by simp[refs]
  rw[this,hmap,←this]
 refine amc (w':={ w with heap:=w.heap.setIfInBounds m.1 (.map es' clk') }) ?_ (h (ms.set j (m.1,es',clk')) _ ?_ (hs.set h2 j))
 ·rcases hop with rfl | rfl<;>simp[execOp,hmv,hkx,hy,h1]
 ·obtain⟨X,Y,rfl,h3,_⟩:=abc hi;rw[h3,List.length_set];have hbl:Ent.bl (.stk base (.slice A xs.length c) e xs.length (ms.set j (m.1,es',clk')))=Ent.bl (.stk base (.slice A xs.length c) e xs.length ms):=by simp only[Ent.bl,hmap]
  have hmem:m.1∈ms.map (·.1):=List.mem_map.2 ⟨m,List.mem_of_getElem? hj,rfl⟩;refine S.turnG (fun b hb' hne=>hset.2 b (fun e1=>hne ?_)) (by simp) rfl rfl rfl ⟨?_,?_⟩ (fun b hb'=>.inl (by rw[←hbl];exact hb')) (by rw[hbl];exact hnd)
  ·subst e1;exact List.mem_append_right _ hmem
  ·show World.ownsRow _ base e 1 _ _ (refs _);rw[hrefs];refine agi hh.1 fun b hb'=>hset.2 b fun e1=>?_
   subst e1;simp only[Ent.bl,List.nodup_append] at hnd;exact hnd.2.2 m.1 (by simp[hb']) m.1 hmem rfl
  ·intro x' hx';obtain⟨i',hi'⟩:=List.mem_iff_getElem?.1 hx';rw[List.getElem?_set] at hi';have hbase:=(hh.2 m (List.mem_of_getElem? hj)).2;split at hi'
   ·first
     | (cases hi';exact⟨hset.1,hbase⟩)
     | (split at hi'<;>first | (cases hi';exact⟨hset.1,hbase⟩) | cases hi')
   ·rename_i hne;have hx0:=hh.2 x' (List.mem_of_getElem? hi');refine⟨(hset.2 x'.1 fun e1=>?_).trans hx0.1,hx0.2⟩;have hnm:(ms.map (·.1)).Nodup:=by
     simp only[Ent.bl,List.nodup_append] at hnd;exact hnd.2.1
    have hil:i'<ms.length:=(List.getElem?_eq_some_iff.1 hi').1;have hie:ms[i']=x':=(List.getElem?_eq_some_iff.1 hi').2;have:=(List.getElem_inj (xs:=ms.map (·.1)) (i:=j) (j:=i') (h₀:=by simpa using hjl) (h₁:=by simpa using hil) hnm).1 (by simp[hjm,hie,e1]);exact hne this
theorem awb{st e bytes base base' base'' b b' c clk:Nat}{z:Value}{kv:κ→Value}{R:ν→Value→Prop}{A:Option Addr}{xs:List (List (κ×ν))}{x1:List (κ×ν)}{ms:List MapC}{es:Array MapEntry}{bt:TypeId}{B:Ents}{x y:Operand}
  (S:Sx K0 K w0 w M (.stk base (.slice A xs.length c) e xs.length ms::.box base' b #[.map (some b')] bt::.mp base'' b' es clk::B)) (hs:StkR kv R xs ms) (hr:MapR kv R x1 es.toList) (he:abg P st=some e) (hf:(P.info? e).map (fun i=>(i.zero,i.size,i.bytes))=some (some z,1,bytes)) (hzs:z.cells.size=1)
  (hx:ev n σ x=.slice A xs.length c) (hy:ev n σ y=.slice (some ⟨b,0,none⟩) 1 1) (hbase:base≤w0.heap.size) (hbb:base≤base'') (hlen:(xs.length+1)*bytes≤140737488355328) (hbp:0<bytes)
  (h : ∀A' c' ms' w',Sx K0 K w0 w' M (.stk base (.slice A' (xs++[x1]).length c') e (xs++[x1]).length ms'::B)→StkR kv R (xs++[x1]) ms'→wpList P ops Q rest (fr n (upd σ t (.slice A' (xs++[x1]).length c'))) w') :
  wpList P ops Q (⟨some t,.call { callee:=.builtin .append,args:=#[x,y],argTypes:=#[st,st] },ty,pos,aft,none⟩::rest) (fr n σ) w:=by
 have hh:Ent.holds w (.stk base (.slice A xs.length c) e xs.length ms):=S.ents _ (by simp);have hbx:w.heap[b]?=some (.cells #[.map (some b')] bt (0,0))∧base'≤b:=S.ents (.box base' b #[.map (some b')] bt) (by simp);have hmp:w.heap[b']?=some (.map es clk)∧base''≤b':=S.ents (.mp base'' b' es clk) (by simp);have hnd:=S.nodup;obtain⟨i0,hi0,hz0,hz1,hz2⟩ : ∃i0,P.info? e=some i0∧i0.zero=some z∧i0.size=1∧i0.bytes=bytes:=by
  cases hi:P.info? e with
  | none=>rw[hi] at hf;cases hf
  | some i0=>rw[hi] at hf;simp at hf;exact⟨i0,rfl,hf.1,hf.2.1,hf.2.2⟩
 have hle:xs.length+1≤140737488355328:=Nat.le_trans (Nat.le_mul_of_pos_right _ hbp) hlen;obtain⟨v',w',hrun,k2,k3,_,k5⟩:=run_append_own_at (P:=P) w base st ty e i0 z 1 bytes (abu he) hi0 hz0 hz1 hz2 hzs (by decide) (.slice A xs.length c) xs.length (refs ms) hh.1 ⟨b,0,none⟩ 1 1 [.map (some b')] rfl
  (fun j u hj=>by
   cases j with
   | zero=>simp at hj;subst hj;rw[aeR];simp only[World.cell?,hbx.1];rfl
   | succ j=>simp at hj) (by simp[Value.oneCell']) (by simp only[maxLen];omega) hlen (Nat.le_trans hbase S.size)
 have hrefs:refs ms++[.map (some b')]=refs (ms++[(b',es,clk)]):=by simp[refs]
 rw[hrefs] at k2;obtain⟨A',c',rfl⟩ : ∃A' c',v'=.slice A' (xs.length+1) c':=by
  rcases k2.2 with ⟨_,h0⟩ | ⟨g,cap,cur,rfl,_⟩
  ·omega
  ·exact⟨_,_,rfl⟩
 have hl:(xs++[x1]).length=xs.length+1:=by simp
 have hblk:Ents.blks [.stk base (.slice A xs.length c) e xs.length ms,.box base' b #[.map (some b')] bt,.mp base'' b' es clk]=(Value.ownBlock (.slice A xs.length c)).toList++ms.map (·.1)++[b,b']:=by simp[Ents.blks,Ent.bl]
 have hall:Ents.blks (.stk base (.slice A xs.length c) e xs.length ms::.box base' b #[.map (some b')] bt::.mp base'' b' es clk::B)=(Value.ownBlock (.slice A xs.length c)).toList++ms.map (·.1)++[b,b']++Ents.blks B:=by
  rw[←hblk];simp[Ents.blks]
 have hltall : ∀k,k∈(Value.ownBlock (.slice A xs.length c)).toList++ms.map (·.1)++[b,b']→k<w.heap.size:=fun k hk=>S.lt (by rw[hall];exact List.mem_append_left _ hk)
 rw[hall,List.nodup_append] at hnd;have hnd:=hnd.1;rw[List.nodup_append,List.nodup_append] at hnd;obtain⟨⟨hn1,hn2,hn12⟩,hn3,hn123⟩:=hnd;have hown_ne : ∀k,k∈ms.map (·.1)∨k=b'→k<w.heap.size→some k≠Value.ownBlock (.slice A xs.length c):=by
  intro k hk _ e1;have hk1:k∈(Value.ownBlock (.slice A xs.length c)).toList:=by rw[←e1];simp
  rcases hk with hk | rfl
  ·exact hn12 k hk1 k hk rfl
  ·exact hn123 k (List.mem_append_left _ hk1) k (by simp) rfl
 have hb'm:b'∉ms.map (·.1):=fun hk=>hn123 b' (List.mem_append_right _ hk) b' (by simp) rfl
 have T:Sx K0 K w0 w' M (.stk base (.slice A' (xs++[x1]).length c') e (xs++[x1]).length (ms++[(b',es,clk)])::B):=by
  rw[hl];refine Sx.turnC (C:=[.stk base (.slice A xs.length c) e xs.length ms,.box base' b #[.map (some b')] bt,.mp base'' b' es clk]) S (fun k hk hne=>k3.block k hk (fun e1=>hne ?_)) k3.size k3.os k3.tape k3.output ⟨k2,?_⟩ ?_ ?_
  ·rw[hblk,←e1];simp
  ·intro m hm;rcases List.mem_append.1 hm with hm | hm
   ·have h0:=hh.2 m hm;have hlt:m.1<w.heap.size:=(Array.getElem?_eq_some_iff.1 h0.1).1;exact⟨(k3.block m.1 hlt (hown_ne m.1 (.inl (List.mem_map.2 ⟨m,hm,rfl⟩)) hlt)).trans h0.1,h0.2⟩
   ·simp only[List.mem_singleton] at hm;subst hm;have hlt:b'<w.heap.size:=(Array.getElem?_eq_some_iff.1 hmp.1).1;exact⟨(k3.block b' hlt (hown_ne b' (.inr rfl) hlt)).trans hmp.1,Nat.le_trans hbb hmp.2⟩
  ·intro k hk;rw[hblk];simp only[Ent.bl,List.map_append,List.map_cons,List.map_nil,List.mem_append,List.mem_singleton] at hk;rcases hk with hk | hk | hk
   ·rcases k5 with k5 | k5
    ·rw[k5] at hk;exact .inl (List.mem_append_left _ (List.mem_append_left _ hk))
    ·rw[k5] at hk;simp at hk;exact .inr (by omega)
   ·exact .inl (List.mem_append_left _ (List.mem_append_right _ hk))
   ·exact .inl (List.mem_append_right _ (by simp[hk]))
  ·simp only[Ent.bl,List.map_append,List.map_cons,List.map_nil];rw[List.nodup_append,List.nodup_append];refine⟨alX _,⟨hn2,by simp,fun a ha k hk hak=>?_⟩,fun a ha k hk hak=>?_⟩
   ·simp only[List.mem_singleton] at hk;subst hak hk;exact hb'm ha
   ·subst hak;rcases k5 with k5 | k5
    ·rw[k5] at ha;rcases List.mem_append.1 hk with hk | hk
     ·exact hn12 a ha a hk rfl
     ·simp only[List.mem_singleton] at hk;subst hk;exact hn123 a (List.mem_append_left _ ha) a (by simp) rfl
    ·rw[k5] at ha;simp at ha;subst ha;rcases List.mem_append.1 hk with hk | hk
     ·exact absurd (hltall _ (List.mem_append_left _ (List.mem_append_right _ hk))) (Nat.lt_irrefl _)
     ·simp only[List.mem_singleton] at hk;exact absurd (hltall w.heap.size (List.mem_append_right _ (by simp[hk]))) (Nat.lt_irrefl _)
 have:=h A' c' (ms++[(b',es,clk)]) w' T (hs.snoc hr);rw[hl] at this;refine aaO ?_ this;simp only[execOp,resolve,invoke,builtin,Sem.run_bind,Sem.run_pure,Result.andThen_ok,List.map_toArray,List.map_cons,List.map_nil,hx,hy,hrun]
theorem amF{i base e c k:Nat}{A:Option Addr}{ms:List MapC}(S:Sx K0 K w0 w M H)(hi:H[i]?=some (.stk base (.slice A k c) e k ms)):k≤c:=by
 have h:Ent.holds w (.stk base (.slice A k c) e k ms):=S.entAt hi;rcases h.1.2 with ⟨h1,h0⟩ | ⟨g,cap,cur,h1,_,_,h3,_⟩
 ·omega
 ·injection h1 with _ _ h8;omega
theorem Sx.oneM{base b b' bt clk:Nat}{kv:κ→Value}{R:ν→Value→Prop}{x1:List (κ×ν)}{es:Array MapEntry}{B:Ents}(S:Sx K0 K w0 w M (.box base b #[.map (some b')] bt::.mp base b' es clk::B))(hr:MapR kv R x1 es.toList) :
  Sx K0 K w0 w M (.stk base (.slice (some ⟨b,0,none⟩) [x1].length 1) bt [x1].length [(b',es,clk)]::B)∧StkR kv R [x1] [(b',es,clk)]:=by
 have hbx:w.heap[b]?=some (.cells #[.map (some b')] bt (0,0))∧base≤b:=S.ents (.box base b #[.map (some b')] bt) (by simp);have hmp:w.heap[b']?=some (.map es clk)∧base≤b':=S.ents (.mp base b' es clk) (by simp);have hnd:=S.nodup;have hall:Ents.blks (.box base b #[.map (some b')] bt::.mp base b' es clk::B)=[b,b']++Ents.blks B:=by simp[Ents.blks,Ent.bl]
 rw[hall,List.nodup_append] at hnd;refine⟨Sx.turnC (C:=[.box base b #[.map (some b')] bt,.mp base b' es clk]) S (fun _ _ _=>rfl) (Nat.le_refl _) rfl rfl rfl ⟨?_,?_⟩ ?_ ?_,_,_,rfl,hr,rfl⟩
 ·exact⟨rfl,.inr ⟨b,1,_,rfl,hbx.2,hbx.1,by simp,by decide,rfl,rfl⟩⟩
 ·intro m hm;simp only[List.mem_singleton] at hm;subst hm;exact hmp
 ·intro k hk;exact .inl (by simpa[Ents.blks,Ent.bl,Value.ownBlock] using hk)
 ·simpa[Ent.bl,Value.ownBlock] using hnd.1
end
def rnd(ro:Option Nat):Fence:={ Fence.wide with round:=ro }
def wd(a:Act)(D:List Deferred):Act:={ a with defers:=D }
theorem am5{ro:Option Nat}{n:Nat}{P:Program}{f:FuncId}{args:Array Value}{w:World}{R:Ending→World→Prop}(h:Calls P f args w R):CallsIn (rnd ro) n P f args w R :=
 (callsIn_wide (n:=n)).2 h
theorem abn(a:Act)(d:Option Tmp)(v:Value):(a.put d v).defers=a.defers:=by cases d<;>rfl
theorem ala(a:Act)(D:List Deferred)(d:Option Tmp)(v:Value):(wd a D).put d v=wd (a.put d v) D:=by cases d<;>rfl
theorem apN(a:Act)(D:List Deferred):(wd a D).eval=a.eval:=by funext x;cases x<;>rfl
section
variable {P:Program}{ops:Array Oper}{Q Q' : Exit→Act→World→Prop}{D:List Deferred}{ro:Option Nat}{n:Nat}{E:List Nat}{F:World→Prop}
theorem ald(hQ : ∀e a w,Q e a w→a.defers=[])(hO : ¬LetsOut Q) : ∀(l:List Nat) (a:Act) (w:World),wpOps P ops Q l a w→a.defers=[]:=by
 intro l;induction l with
 | nil=>exact fun a w h=>hQ _ _ _ h
 | cons i rest ih =>
  intro a w h;simp only[wpOps] at h;cases ho:ops[i]? with
  | none=>simp only[ho] at h;exact ih _ _ h
  | some o =>
   simp only[ho] at h;split at h
   ·rcases h with h | ⟨_,h⟩
    ·unfold Oper.wp Oper.upon at h;split at h
     ·have:=ih _ _ h;rwa [abn] at this
     ·have:=ih _ _ h;rwa [abn] at this
     ·have:=ih _ _ h;rw[abn] at this;simp at this
     ·obtain⟨e,w',f,hR,_⟩:=h [];cases e with
      | returned v=>have:=ih _ _ hR;rwa [abn] at this
      | panicked c=>exact hQ _ _ _ hR
      | outgrown=>exact absurd hR hO
     ·obtain⟨v,w',hR,_⟩:=h default [];have:=ih _ _ hR;rwa [abn] at this
     ·exact hQ _ _ _ h
     ·exact h.elim
    ·exact absurd h hO
   ·have:=ih _ _ h;rwa [abn] at this
theorem anK(hnd : ∀(i:Nat) (o:Oper),ops[i]?=some o→∀c,o.op≠.defer c)(hQ : ∀e a w,Q e a w→a.defers=[])(hO : ¬LetsOut Q)(hq : ∀e a w,Q e a w→Q' e (wd a D) w) :
  ∀(l:List Nat) (a:Act) (w:World),wpOps P ops Q l a w→wpOpsIn (rnd ro) n P ops Q' l (wd a D) w:=by
 intro l;induction l with
 | nil=>exact fun a w h=>hq _ _ _ h
 | cons i rest ih =>
  intro a w h;simp only[wpOps] at h;simp only[wpOpsIn];cases ho:ops[i]? with
  | none=>simp only[ho] at h;exact ih _ _ h
  | some o =>
   simp only[ho] at h;have hy:yielded ops (wd a D).tmps=yielded ops a.tmps:=rfl;simp only[hy];split at h
   ·rename_i hw;rw[if_pos hw];rcases h with h | ⟨_,h⟩
    ·refine⟨fun _ _=>trivial,?_⟩;rw[Oper.semAt_eq _ _ _ (hnd i o ho),apN];unfold Oper.wp Oper.upon at h;unfold Oper.uponIn;split at h
     ·rename_i e;simp only[e];rw[ala];exact ih _ _ h
     ·rename_i e;simp only[e];rw[ala];exact ih _ _ h
     ·have:=ald hQ hO _ _ _ h;rw[abn] at this;simp at this
     ·rename_i e;simp only[e]
      refine⟨fun h=>by simp[rnd,Fence.wide] at h,am5 (h.mono ?_)⟩;intro e w' hR;cases e with
      | returned v=>show wpOpsIn _ _ _ _ _ _ ((wd a D).put o.dst v) _;rw[ala];exact ih _ _ hR
      | panicked c=>exact hq _ _ _ hR
      | outgrown=>exact absurd hR hO
     ·rename_i e;simp only[e]
      refine⟨fun h=>by simp[rnd,Fence.wide] at h,fun c cs _=>?_⟩;obtain⟨v,w',hR,hs⟩:=h c cs;exact⟨v,w',by show wpOpsIn _ _ _ _ _ _ ((wd a D).put o.dst v) _;rw[ala];exact ih _ _ hR,(stepsIn_wide (P:=P)).2 hs⟩
     ·rename_i e;simp only[e];exact hq _ _ _ h
     ·exact h.elim
    ·exact absurd h hO
   ·rename_i hw;rw[if_neg hw];refine⟨fun _ _=>trivial,?_⟩;rw[ala];exact ih _ _ h
def QL(D:List Deferred)(Q:Exit→Act→World→Prop)(e:Exit)(a:Act)(w:World):Prop:=a.defers=[]∧e≠.outgrown∧Q e (wd a D) w
theorem at6 : ¬LetsOut (QL D Q):=fun ⟨_,_,h⟩=>h.2.1 rfl
theorem QLn{σ:Nat→Value}{m:Nat}{w:World}(h:Q .normal (wd (fr m σ) D) w):QL D Q .normal (fr m σ) w:=⟨rfl,by simp,h⟩
theorem QLp{σ:Nat→Value}{m:Nat}{w:World}{c:_}(h:Q (.panic c) (wd (fr m σ) D) w):QL D Q (.panic c) (fr m σ) w:=⟨rfl,by simp,h⟩
def ahc(l:List Oper):Bool:=l.all fun o=>match o.op with | .defer _=>false | _=>true
theorem aiQ{l:List Oper}(h:ahc l=true) : ∀(i:Nat) (o:Oper),l.toArray[i]?=some o→∀c,o.op≠.defer c:=by
 intro i o ho c e;have hm:o∈l:=List.mem_of_getElem? (by simpa using ho);have:=List.all_eq_true.1 h o hm;rw[e] at this;simp at this
theorem regR{id:Nat}{l:List Oper}{a:Act}{w:World}(hnd:ahc l=true)(h:wpList P l.toArray (QL D Q) l a w):(Code.region id l.toArray false).wpIn (rnd ro) n P Q (wd a D) w:=by
 refine wpIn_region (anK (aiQ hnd) (fun _ _ _ h=>h.1) at6 (fun _ _ _ h=>h.2.2) _ _ _ ?_);rw[List.range_eq_range',←Array.length_toList,wpOps_eq_wpList l.toArray.toList 0 (by simp)];simpa using h
theorem auF{id:Nat}{l:List Oper}{a:Act}{w:World}{L:Array Bool}{k:Nat}(hm:P.follows .mixedOrders=true)(hk:l.length=k)(hL:Array.replicate k false=L)(hnd:ahc l=true)
  (h:AnyE P l.toArray (QL D Q) E F k L a w.drew):(Code.region id l.toArray true).wpIn (rnd ro) n P Q (wd a D) w:=by
 subst hk hL;refine wpIn_region_draw fun t=>?_
 refine anK (aiQ hnd) (fun _ _ _ h=>h.1) at6 (fun _ _ _ h=>h.2.2) _ _ _ ?_;have h1:=AnyE.any _ _ _ _ h;simp only[Region.schedule,hm,Bool.true_or,if_true];have h2:wpAny P .any l.toArray (QL D Q) l.toArray.size (Array.replicate l.toArray.size false) a { w with drawn:=w.drawn+1 }:=by simpa using h1
 exact wpAny_sound l.toArray.size t _ a _ h2
end
theorem Sx.perm{K0 K:KH}{w0 w:World}{M:Nat→Prop}{H H' : Ents}(S:Sx K0 K w0 w M H)(h:H'.Perm H):Sx K0 K w0 w M H':=by
 have hb:(Ents.blks H').Perm (Ents.blks H):=h.flatMap_right _;exact⟨S.sub,S.fresh,S.le,S.ext,S.size,S.os,S.tape,S.output,fun e he=>S.ents e (h.mem_iff.1 he),fun b hb'=>S.free b (hb.mem_iff.1 hb'),hb.nodup_iff.2 S.nodup⟩
section
variable {P:Program}{n:Nat}
def aox(P:Program)(l:Nat)(R:Ending→World→Prop):Exit→Act→World→Prop
 | .panic c,a,w=>a.defers=[]∧R (.panicked c) w
 | e,a,w=>roundPost P l R e a w
theorem aoC{l:Nat}{f:FuncId}{fn:Func}{tmps:Array Value}{assign body:Code}{w:World}{R:Ending→World→Prop}(hf:P.funcs[f]?=some fn)
  (h:assign.wpIn (rnd (some l)) n P (Exit.then (fun a₁ w₁=>∃w₂,(Instr.beginRound l).run P w₁=.ok () w₂∧body.wpIn (rnd (some l)) n P (aox P l R) a₁ w₂) (fun _ _ _=>False))
   { tmps:=tmps,defers:=[] } w) :
  RoundIn (rnd none) n P l f tmps assign body w R:=by
 refine⟨trivial,fun c cs hr=>?_⟩
 let b:Frame:={ (default:Frame) with fn:=f,kind:=.normal,roundOf:=some l }
 have hb0:Frame.round l f tmps assign body .normal=b.atR { tmps:=tmps,defers:=[] } [.code assign,.beginRound,.code body]:=by
  simp[Frame.round,Frame.atR,b]
 have hr' : (rnd (some l)).room ((c::cs).length+1+n):=hr;have hF' : (rnd (some l)).fn b.fn:=trivial;obtain⟨e,a₁,w₁,hq,harr⟩:=h b [.beginRound,.code body] (c::cs) rfl hF' hr';rw[←hb0] at harr;cases e with
 | normal =>
  obtain⟨w₂,hbr,hbody⟩:=hq;have s1:StepsIn (Machine.fenced P (rnd (some l))) P (lone (b.atR a₁ [.beginRound,.code body]) (c::cs) w₁) (lone (b.atR a₁ [.code body]) (c::cs) w₂) :=
   .one (fenced_calm (fr:=b.atR a₁ [.beginRound,.code body]) hF' hr' rfl) (stepR_beginRound rfl hbr)
  obtain⟨e₂,a₂,w₃,hq₂,harr₂⟩:=hbody b [] (c::cs) rfl hF' hr';cases e₂ with
  | normal =>
   obtain⟨v,w₄,hend,hR⟩:=hq₂;exact⟨.returned v,w₄,hR,(StepsIn.trans harr s1).trans (StepsIn.trans harr₂ (.one (fenced_calm (fr:=b.atR a₂ []) hF' hr' rfl) (stepR_round_end rfl rfl hend)))⟩
  | ret =>
   obtain⟨v,w₄,hend,hR⟩:=hq₂;obtain⟨k₁,hs⟩:=harr₂.2 rfl;exact⟨.returned v,w₄,hR,(StepsIn.trans harr s1).trans (StepsIn.trans hs (.one (fenced_calm (fr:=b.atR a₂ (.code .ret::k₁)) hF' hr' rfl) (stepR_round_ret rfl rfl hend)))⟩
  | exit id =>
   obtain⟨v,w₄,hend,hR⟩:=hq₂;obtain⟨k₁,hk,hs⟩:=harr₂.2 rfl rfl;exact⟨.returned v,w₄,hR,(StepsIn.trans harr s1).trans (StepsIn.trans hs (.one (fenced_calm (fr:=b.atR a₂ (.code (.exit id)::k₁)) hF' hr' rfl) (stepR_round_exit rfl rfl hk hend)))⟩
  | goto t =>
   obtain⟨v,w₄,hend,hR⟩:=hq₂;obtain⟨k₁,hk,hs⟩:=harr₂.2 rfl rfl;exact⟨.returned v,w₄,hR,(StepsIn.trans harr s1).trans (StepsIn.trans hs (.one (fenced_calm (fr:=b.atR a₂ (.code (.goto t)::k₁)) hF' hr' rfl) (stepR_round_goto rfl rfl hk hend)))⟩
  | panic chain =>
   obtain⟨hd,hR⟩:=hq₂;obtain⟨todo,hs⟩:=harr₂;have hl:Frame.leaving P { b.atR a₂ todo with mode:=.panicking chain } w₃ (.panicked chain):=⟨rfl,hd,fn,hf⟩;exact⟨.panicked chain,w₃,hR,(StepsIn.trans harr s1).trans (StepsIn.trans hs (.one (fenced_leaving (n:=n) hF' hr' hl) (step_leave_panicked hl)))⟩
  | outgrown=>exact hq₂.elim
 | exit id=>exact hq.elim
 | goto t=>exact hq.elim
 | ret=>exact hq.elim
 | panic chain=>exact hq.elim
 | outgrown=>exact hq.elim
def wpF(f0:FuncId)(P:Program)(c:Code)(Q:Exit→Act→World→Prop)(a:Act)(w:World):Prop :=
 ∀(b:Frame) (k:List Item) (cs:List Frame),b.roundOf=none→b.fn=f0→∃e a' w',Q e a' w'∧ArrivesIn (Machine.fenced P Fence.wide) P (lone (b.atR a (.code c::k)) cs w) b k cs e a' w'
variable {f0:FuncId}{Q:Exit→Act→World→Prop}{a:Act}{w:World}
theorem ac8{c:Code}(h:c.wp P Q a w):wpF f0 P c Q a w:=fun b k cs hr _=>(wpIn_wide (n:=0)).2 h b k cs hr trivial (room_wide _)
theorem acf{x y:Code}(h:wpF f0 P x (Exit.then (wpF f0 P y Q) Q) a w):wpF f0 P (Code.seq x y) Q a w:=by
 intro b k cs hro hb;have h0:(lone (b.atR a (.code (.seq x y)::k)) cs w).fenced P Fence.wide:=fenced_wide _ _;obtain⟨e,a₁,w₁,hq,harr⟩:=h b (.code y::k) cs hro hb;cases e with
 | normal =>
  obtain⟨e₂,a₂,w₂,hq₂,harr₂⟩:=hq b k cs hro hb;exact⟨e₂,a₂,w₂,hq₂,.of_steps (.head h0 stepR_seq harr) harr₂⟩
 | exit id=>exact⟨_,a₁,w₁,hq,.of_steps (.one h0 stepR_seq) (.pass (x:=.code y) rfl (fun _ _=>.inl (by simp)) harr)⟩
 | goto l=>exact⟨_,a₁,w₁,hq,.of_steps (.one h0 stepR_seq) (.pass (x:=.code y) rfl (fun _ _=>.inl (by simp)) harr)⟩
 | ret=>exact⟨_,a₁,w₁,hq,.of_steps (.one h0 stepR_seq) (.pass (x:=.code y) rfl (fun _ _=>.inl (by simp)) harr)⟩
 | panic ch=>exact⟨_,a₁,w₁,hq,.of_steps (.one h0 stepR_seq) (.pass (x:=.code y) rfl (fun _ _=>.inl (by simp)) harr)⟩
 | outgrown=>exact⟨_,a₁,w₁,hq,.of_steps (.one h0 stepR_seq) (.pass (x:=.code y) rfl (fun _ _=>.inl (by simp)) harr)⟩
theorem agZ{id:Nat}{c:Code}(h:wpF f0 P c (Exit.inBlock id Q) a w):wpF f0 P (Code.block id c) Q a w:=by
 intro b k cs hro hb;have h0:(lone (b.atR a (.code (.block id c)::k)) cs w).fenced P Fence.wide:=fenced_wide _ _;obtain⟨e,a₁,w₁,hq,harr⟩:=h b (.inBlock id::k) cs hro hb;cases e with
 | normal=>exact⟨.normal,a₁,w₁,hq,.head h0 stepR_block (StepsIn.trans harr (.one (fenced_wide _ _) stepR_inBlock))⟩
 | exit id' =>
  by_cases hid:id'=id
  ·simp only[Exit.inBlock,hid,if_true] at hq;exact⟨.normal,a₁,w₁,hq,.head h0 stepR_block (harr.1 k (by simp[exitTo,hid]))⟩
  ·simp only[Exit.inBlock,hid,if_false] at hq;have this:(id==id')=false:=by simp;exact fun h=>hid h.symm
   have hx:exitTo id' (.inBlock id::k)=exitTo id' k:=by simp[exitTo,this]
   exact⟨.exit id',a₁,w₁,hq,fun k' hk=>.head h0 stepR_block (harr.1 k' (by rw[hx];exact hk)),
    fun hr' hk=>let ⟨k₁,h1,h2⟩:=harr.2 hr' (by rw[hx];exact hk);⟨k₁,h1,.head h0 stepR_block h2⟩⟩
 | goto l =>
  have hx:gotoIn l (.inBlock id::k)=gotoIn l k:=by simp[gotoIn]
  exact⟨_,a₁,w₁,hq,fun k' hk=>.head h0 stepR_block (harr.1 k' (by rw[hx];exact hk)),
   fun hr' hk=>let ⟨k₁,h1,h2⟩:=harr.2 hr' (by rw[hx];exact hk);⟨k₁,h1,.head h0 stepR_block h2⟩⟩
 | ret=>exact⟨_,a₁,w₁,hq,.of_steps (.one h0 stepR_block) harr⟩
 | panic ch=>exact⟨_,a₁,w₁,hq,.of_steps (.one h0 stepR_block) harr⟩
 | outgrown=>exact⟨_,a₁,w₁,hq,.of_steps (.one h0 stepR_block) harr⟩
theorem ajG{g:Operand}{ps:Array Tmp}{assign body:Code}{gf:Nat}{lb:Array Value}(hg:a.eval g=.func (.func gf) #[] lb)(hb:acK P gf=true)
  (h:CallsIn (rnd none) 0 P gf (#[.func (.yield (w.heap.size+1)) #[] #[]]++lb)
    ((w.alloc (.deferred (some []))).alloc (.loop { state:=.ready,pending:=none,fn:=f0,tmps:=a.tmps,params:=ps,assign,body,defers:=w.heap.size }))
    (fun e w₃=>match e with
     | .returned _=>∃jump w₄,(Instr.endLoop (w.heap.size+1)).run P w₃=.ok jump w₄ ∧
      (match jump with
       | none=>Q .normal { a with defers:={ target:=.collected w.heap.size,args:=#[] }::a.defers } w₄
       | some c=>wpF f0 P c Q { a with defers:={ target:=.collected w.heap.size,args:=#[] }::a.defers } w₄)
     | .panicked chain=>Q (.panic chain) { a with defers:={ target:=.collected w.heap.size,args:=#[] }::a.defers } w₃
     | .outgrown=>False)) :
  wpF f0 P (Code.rangeFunc g ps assign body) Q a w:=by
 intro b k cs hro hb0;have he:=run_enterLoop_outer (P:=P) (w:=w) b.fn a.tmps ps assign body;rw[←hro] at he;have hres:(resolve a.eval (rangeCall g (w.heap.size+1)) 0).run P ((w.alloc (.deferred (some []))).alloc (.loop { state:=.ready,pending:=none,fn:=b.fn,tmps:=a.tmps,params:=ps,assign,body,defers:=w.heap.size }))
   =.ok ⟨.fn (.func gf) lb,#[.func (.yield (w.heap.size+1)) #[] #[]]⟩ ((w.alloc (.deferred (some []))).alloc (.loop { state:=.ready,pending:=none,fn:=b.fn,tmps:=a.tmps,params:=ps,assign,body,defers:=w.heap.size })):=by
  simp only[resolve,rangeCall];rw[hg];simp[Deferred.ofValue,Act.eval]
 have hinv:(invoke (.fn (.func gf) lb) #[.func (.yield (w.heap.size+1)) #[] #[]]).run P ((w.alloc (.deferred (some []))).alloc (.loop { state:=.ready,pending:=none,fn:=b.fn,tmps:=a.tmps,params:=ps,assign,body,defers:=w.heap.size }))
   =.ok (.enter gf (#[.func (.yield (w.heap.size+1)) #[] #[]]++lb)) ((w.alloc (.deferred (some []))).alloc (.loop { state:=.ready,pending:=none,fn:=b.fn,tmps:=a.tmps,params:=ps,assign,body,defers:=w.heap.size })):=by
  simp only[invoke];exact adi hb _
 have henter:=stepR_rangeFunc (P:=P) (b:=b) (a:=a) (k:=k) (cs:=cs) (w:=w) he hres hinv;rw[hb0] at henter;obtain⟨e,w₃,fr,hR,hsteps,hfn,hleave⟩:=h.2 (b.atR { a with defers:=[{ target:=.collected w.heap.size,args:=#[] }]++a.defers } (.inRangeFunc (w.heap.size+1)::k)::cs) (room_wide _);cases e with
 | outgrown=>exact hR.elim
 | returned v =>
  obtain⟨jump,w₄,hend,hj⟩:=hR;have sback:StepsIn (Machine.fenced P Fence.wide) P (lone (b.atR a (.code (.rangeFunc g ps assign body)::k)) cs w) (lone (b.atR { a with defers:=[{ target:=.collected w.heap.size,args:=#[] }]++a.defers } ((jump.map Item.code).toList++k)) cs w₄):=by
    refine .head (fenced_wide _ _) henter (StepsIn.trans hsteps (.head (fenced_wide _ _) ?_ (.one (fenced_wide _ _) (stepR_endRangeFunc hend))));rw[←finish_atR_inRangeFunc (w.heap.size+1) v];exact step_leave_returned hleave
  cases jump with
  | none=>exact⟨.normal,_,w₄,hj,sback⟩
  | some c =>
    obtain⟨e',a'',w₅,hq,harr⟩:=hj b k cs hro hb0;exact⟨e',a'',w₅,hq,.of_steps sback harr⟩
 | panicked chain =>
  refine⟨.panic chain,_,w₃,hR,.inRangeFunc (w.heap.size+1)::k,.head (fenced_wide _ _) henter (StepsIn.trans hsteps (.one (fenced_wide _ _) ?_))⟩;rw[←Frame.raise_atR];exact step_leave_panicked hleave
theorem ak8{fn:Func}{c:Code}{args:Array Value}{R:Ending→World→Prop}{m:Nat}(hf:P.funcs[f0]?=some fn)(hb:fn.body=some c)(hm:args.size+(fn.ntmps - args.size)=m)
  (h:wpF f0 P c (bodyPostM Fence.wide 0 P fn R) (fr m (fun t=>args.getD t undef)) w):Calls P f0 args w R:=by
 refine (callsIn_wide (n:=0)).1 ⟨trivial,fun cs hr=>?_⟩
 let b:Frame:={ (default:Frame) with fn:=f0,kind:=.normal,roundOf:=none }
 have henter:Frame.enter P f0 args .normal =
   b.atR { tmps:=args++Array.replicate (fn.ntmps - args.size) undef,defers:=[] } [.code c]:=by
  simp[Frame.enter,Frame.atR,hf,hb,b]
 rw[←hm,←aeH] at h;obtain⟨e,a',w',hq,harr⟩:=h b [] cs rfl rfl;rw[←henter] at harr;cases e with
 | normal =>
  obtain⟨e',w'',fr',hR,hs,hfn,hl⟩:=leaves_stepsInM a'.defers .returning w' { b.atR a' [] with mode:=.returning } cs rfl rfl rfl hf rfl trivial hr hq;exact⟨e',w'',fr',hR,ComesIn.of_steps (StepsIn.trans harr (.one (fenced_wide _ _) (stepR_end rfl))) hs,hfn,hl⟩
 | ret =>
  obtain⟨todo,hs₀⟩:=harr.1 rfl;obtain⟨e',w'',fr',hR,hs,hfn,hl⟩:=leaves_stepsInM a'.defers .returning w' { b.atR a' todo with mode:=.returning } cs rfl rfl rfl hf rfl trivial hr hq;exact⟨e',w'',fr',hR,ComesIn.of_steps hs₀ hs,hfn,hl⟩
 | panic chain =>
  obtain⟨todo,hs₀⟩:=harr;obtain⟨e',w'',fr',hR,hs,hfn,hl⟩:=leaves_stepsInM a'.defers (.panicking chain) w' { b.atR a' todo with mode:=.panicking chain } cs rfl rfl rfl hf rfl trivial hr hq;exact⟨e',w'',fr',hR,ComesIn.of_steps hs₀ hs,hfn,hl⟩
 | exit id=>exact hq.elim
 | goto l=>exact hq.elim
 | outgrown=>exact⟨.outgrown,w',b,hq,harr.resolve_left (by simp[b]),rfl,trivial⟩
theorem aqG{c:Code}(h:wpF f0 P c (Exit.noGoto Q) a w):wpF f0 P (Code.scope c) Q a w:=by
 intro b k cs hro hb;have s0:step P (lone (b.atR a (.code (.scope c)::k)) cs w)=.next (lone (b.atR a (.code c::.inScope c::k)) cs w):=step_lone_go (by simp[stepG,stepG.exec,Frame.atR]);obtain⟨e,a₁,w₁,hq,harr⟩:=h b (.inScope c::k) cs hro hb;cases e with
 | normal =>
  have s1:step P (lone (b.atR a₁ (.inScope c::k)) cs w₁)=.next (lone (b.atR a₁ k) cs w₁):=step_lone_go (by simp[stepG,stepG.exec,Frame.atR]);exact⟨.normal,a₁,w₁,hq,.head (fenced_wide _ _) s0 (StepsIn.trans harr (.one (fenced_wide _ _) s1))⟩
 | exit id=>exact⟨.exit id,a₁,w₁,hq,fun k' hk=>.head (fenced_wide _ _) s0 (harr.1 k' (by simp[exitTo,hk])),fun hr' hk=>let ⟨k₁,h1,h2⟩:=harr.2 hr' (by simp[exitTo,hk]);⟨k₁,h1,.head (fenced_wide _ _) s0 h2⟩⟩
 | goto l=>exact hq.elim
 | ret=>exact⟨_,a₁,w₁,hq,.of_steps (.one (fenced_wide _ _) s0) harr⟩
 | panic ch=>exact⟨_,a₁,w₁,hq,.of_steps (.one (fenced_wide _ _) s0) harr⟩
 | outgrown=>exact⟨_,a₁,w₁,hq,.of_steps (.one (fenced_wide _ _) s0) harr⟩
theorem atj{c Y:Code}{id:Nat}{D D' : List Deferred}{A:World→KH→Prop}(h1 : ∀w K,A w K→wpF f0 P Y Q (wd a D') w)
  (h2:(∀w K,A w K→Exit.inBlock id (Exit.then (wpF f0 P Y Q) Q) .normal (wd a D') w)→wpF f0 P c (Exit.inBlock id (Exit.then (wpF f0 P Y Q) Q)) (wd a D) w):wpF f0 P c (Exit.inBlock id (Exit.then (wpF f0 P Y Q) Q)) (wd a D) w :=
 h2 fun w K h=>h1 w K h
end
end Go.Proofs.YtphdlngnegjgcaaGreatDoor
