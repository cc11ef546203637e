/- Words of the proof, part 8; nothing is claimed here. -/
import Derived.Test.YtphdlngnegjgcaaGreatDoorV7
import Derived.Test.YtphdlngnegjgcaaGreatDoorProg
import Derived.ChangeArms
import Derived.SizedLaws
import Derived.ChangeSlices
import Derived.Test.YtphdlngnegjgcaaGreatDoorCards
import Derived.Test.YtphdlngnegjgcaaGreatDoorTie
import Derived.WalkKit
import Derived.ProofKit
import Derived.OpenShut
import Derived.Carry
import Derived.LaidSub
import Derived.MakeChecks
import Derived.Deep.DeepHandedRow
import Derived.Deep.DeepWitnessRowRef
import Derived.Lib.LaidTab
set_option linter.unusedVariables false
set_option linter.unusedSimpArgs false
namespace Go.Proofs.YtphdlngnegjgcaaGreatDoor
open Go Go.RowKit
def K0(W:World):KH:=λb=>W.heap[b]?
theorem ayb(W:World):(K0 W).le W:=λb o h=>h
theorem aml{W:World}{b i:Nat}{v:Value}(h:W.cell? ⟨b,i,none⟩=some v):(K0 W).cell b i=some v:=by
 unfold World.cell? at h;unfold KH.cell K0;cases e:W.heap[b]? with
 | none=>simp[e] at h
 | some o=>cases o<;>simp_all
theorem ary{W:World}{a:Addr}{v:Value}(h:W.cell? a=some v):a.spot=none:=by
 unfold World.cell? at h;cases e:a.spot with
 | none=>rfl
 | some s =>
  simp only[e,Option.isSome_some,if_true] at h;split at h<;>cases h
theorem Sx.begin(W:World):Sx (K0 W) (K0 W) W W (λb=>b∈Ents.blks []) []:=(Sx.start0 (ayb W)).start
def okW{H:Type}(P:Program)(t:TypeId)(d:DataW H):Prop:=∀n∈d.weights P t,n<=reachBytes
section
variable {H:Type}{P:Program}{enc:TypeId×Value->H}{W:World}{sp:Nat->Bool}
theorem acM{t:TypeId}{fs:Array Field}{ds:List (DataW H)}(ht:P.underlying t=some (.struct fs))(h:okW P t (.agg ds)) : ∀n∈DataW.weightsEach P (fs.toList.map (·.type)) ds,n<=reachBytes:=by
 intro n hn;refine h n ?_;simp only[DataW.weights,ht];exact hn
theorem abd : ∀{ts:List TypeId} {ds:List (DataW H)} (_ : ∀n∈DataW.weightsEach P ts ds,n<=reachBytes) (i:Nat) {t:TypeId} {d:DataW H},ts[i]?=some t->ds[i]?=some d->okW P t d
 | [],_,_,_,_,_,h,_=>by simp at h
 | _::_,[],_,_,_,_,_,h=>by simp at h
 | t0::ts,d0::ds,hw,0,t,d,h1,h2=>by
  obtain rfl:t0=t:=by simpa using h1
  obtain rfl:d0=d:=by simpa using h2
  intro n hn;exact hw n (by simp only[DataW.weightsEach,List.mem_append];exact .inl hn)
 | t0::ts,d0::ds,hw,i+1,t,d,h1,h2=>abd (ts:=ts) (ds:=ds) (λn hn=>hw n (by simp only[DataW.weightsEach,List.mem_append];exact .inr hn)) i (by simpa using h1) (by simpa using h2)
theorem aqd : ∀{e:TypeId} {ds:List (DataW H)} (_ : ∀n∈DataW.weightsAll P e ds,n<=reachBytes) {d:DataW H},d∈ds->okW P e d
 | _,[],_,_,h=>by simp at h
 | e,d0::ds,hw,d,h=>by
  rcases List.mem_cons.1 h with rfl | h
  ·exact λn hn=>hw n (by simp only[DataW.weightsAll,List.mem_append];exact .inl hn)
  ·exact aqd (λn hn=>hw n (by simp only[DataW.weightsAll,List.mem_append];exact .inr hn)) h
theorem aoA{m:Nat}{t:TypeId}{cs:List Value}{x:DataW H×List MemPlace}(hm:m<=0)(h:DataW.trod enc P W 0 sp true m t cs=some x):False:=by
 obtain rfl:m=0:=by omega
 simp[DataW.trod] at h
theorem agm{t:TypeId}{s:ByteArray}(h:okW P t (.lit (.string s.data.toList):DataW H)):s.size<=140737488355328:=by
 have:=h s.data.toList.length (by simp[DataW.weights]);have h2:s.data.toList.length=s.size:=rfl;unfold reachBytes at this;omega
theorem ac7{α:Type}{R:KH->α->List Value->Prop}{size bytes:Nat}{st e:TypeId}{n:Nat}(hst:P.underlying st=some (.slice e))(hc:P.cellsOf e=size)(hs0:0<size)(hb:P.bytesOf e=bytes)(hb0:0<bytes)
  (hel : ∀m cs x,m<=n->DataW.trod enc P W 0 sp true m e cs=some x->okW P e x.1->∃y,R (K0 W) y cs) {cs:List Value} {x:DataW H×List MemPlace} (h:DataW.trod enc P W 0 sp true n st cs=some x) (hw:okW P st x.1) :
  ∃(A:Option Addr) (c:Nat) (xs:List α),cs=[.slice A xs.length c]/\RSl α (R (K0 W)) size bytes (K0 W) A c xs:=by
 rcases DataW.trod_slice hst h with ⟨rfl,rfl⟩ | ⟨a,len,cap,elems,rest,m,rfl,rfl,rfl,_,hl,hmax,hlen,hels,_,_⟩
 ·exact⟨none,0,[],rfl,RSl.nil _ _ _ _ _ _⟩
 have hsz:(elems.length+rest.length)*bytes<=reachBytes:=by
  have:=hw (((elems.map (·.1)).length+(rest.map (·.1)).length)*P.bytesOf e) (by simp only[DataW.weights,hst];exact List.mem_cons_self);simpa[hb] using this
 have hwe : ∀y∈elems,okW P e y.1:=by
  intro y hy;refine aqd (ds:=elems.map (·.1)) (λn hn=>hw n ?_) (List.mem_map_of_mem hy);simp only[DataW.weights,hst,List.mem_cons,List.mem_append];exact .inr (.inl hn)
 subst hc;have each : ∀i,i<len->∃(y:α) (cs:List Value),W.cells? 0 (a.add (i*P.cellsOf e)) (P.cellsOf e)=some cs/\R (K0 W) y cs:=by
  intro i hi;have h1:=hels i hi;obtain⟨z,hz⟩ : ∃z,elems[i]?=some z:=⟨_,List.getElem?_eq_getElem (by omega)⟩;rw[hz] at h1;obtain⟨cs,hcs,ht⟩:=Option.bind_eq_some_iff.1 h1;obtain⟨y,hy⟩:=hel m cs z (by omega) ht (hwe z (List.mem_of_getElem? hz));exact⟨y,cs,hcs,hy⟩
 have list : ∀k,k<=len->∃xs:List α,xs.length=k/\∀i y,xs[i]?=some y->∃cs,W.cells? 0 (a.add (i*P.cellsOf e)) (P.cellsOf e)=some cs/\R (K0 W) y cs:=by
  intro k;induction k with
  | zero=>exact λ_=>⟨[],rfl,λi y h=>by simp at h⟩
  | succ k ih =>
   intro hk;obtain⟨xs,hx,hy⟩:=ih (by omega);obtain⟨y,cs,h1,h2⟩:=each k (by omega);refine⟨xs++[y],by simp[hx],λi z hz=>?_⟩;by_cases hi:i<xs.length
   ·rw[List.getElem?_append_left hi] at hz;exact hy i z hz
   ·have hik:i=k:=by have:=(List.getElem?_eq_some_iff.1 hz).1;simp at this;omega
    subst hik;rw[List.getElem?_append_right (by omega)] at hz;simp[hx] at hz;subst hz;exact⟨cs,h1,h2⟩
 obtain⟨xs,hx,hy⟩:=list len (Nat.le_refl _);obtain⟨b,o,s⟩:=a;have hsn:xs≠[]->s=none:=by
  intro hne;obtain⟨y,hy0⟩ : ∃y,xs[0]?=some y:=by
   cases xs with
   | nil=>exact absurd rfl hne
   | cons y _=>exact⟨y,rfl⟩
  obtain⟨cs,h1,_⟩:=hy 0 y hy0;obtain⟨_,hcl,hcc⟩:=World.cells?_some h1;have h3:=hcc 0 hs0;have h4 : ∃v,cs[0]?=some v:=⟨_,List.getElem?_eq_getElem (by omega)⟩;obtain⟨v,hv⟩:=h4;rw[hv] at h3;have h5:=ary h3;simpa[Addr.add] using h5
 refine⟨some ⟨b,o,s⟩,cap,xs,by rw[hx],by omega,?_,b,o,λi=>(W.cells? 0 (Addr.add ⟨b,o,s⟩ (i*P.cellsOf e)) (P.cellsOf e)).getD [],?_,?_,?_⟩
 ·have h1:xs.length<=elems.length+rest.length:=by omega
  have h2:=Nat.mul_le_mul_right bytes h1;unfold reachBytes at hsz;omega
 ·intro hne;rw[hsn hne]
 ·intro i hi;obtain⟨y,hyi⟩ : ∃y,xs[i]?=some y:=⟨_,List.getElem?_eq_getElem hi⟩;obtain⟨cs,h1,h2⟩:=hy i y hyi;obtain⟨_,hcl,hcc⟩:=World.cells?_some h1;dsimp only;rw[h1];refine⟨hcl,λj v hj=>?_⟩;have hj' : j<P.cellsOf e:=by rw[<-hcl];exact (List.getElem?_eq_some_iff.1 hj).1
  have h3:=hcc j hj';have hj2:cs[j]?=some v:=hj;rw[hj2] at h3;have hs:s=none:=hsn (by intro e;rw[e] at hi;simp at hi);subst hs;rw[aeR,aeR] at h3;exact aml h3
 ·intro i y hyi;obtain⟨cs,h1,h2⟩:=hy i y hyi;show R (K0 W) y ((W.cells? 0 (Addr.add ⟨b,o,s⟩ (i*P.cellsOf e)) (P.cellsOf e)).getD []);rw[h1];exact h2
end
theorem auo{α:Type}{l:List α}(h:l.length=1) : ∃a,l=[a]:=List.length_eq_one_iff.1 h
theorem ab0{α:Type}{l:List α}{n:Nat}(h:l.length=n+1) : ∃a r,l=a::r/\r.length=n:=by
 cases l with
 | nil=>cases h
 | cons a r=>exact⟨a,r,rfl,by simpa using h⟩
theorem avV{α:Type}{l:List α}(h:l.length=2) : ∃a b,l=[a,b]:=by
 obtain⟨a,r,e,h1⟩:=ab0 h;obtain⟨b,e1⟩:=auo h1;exact⟨a,b,by rw[e,e1]⟩
theorem apB{α:Type}{l:List α}(h:l.length=5) : ∃a b c d e,l=[a,b,c,d,e]:=by
 obtain⟨a,r,e1,h1⟩:=ab0 h;obtain⟨b,r,e2,h2⟩:=ab0 h1;obtain⟨c,r,e3,h3⟩:=ab0 h2;obtain⟨d,e,e4⟩:=avV h3;exact⟨a,b,c,d,e,by rw[e1,e2,e3,e4]⟩
theorem avD{α:Type}{l:List α}(h:l.length=6) : ∃a b c d e f,l=[a,b,c,d,e,f]:=by
 obtain⟨a,r,e1,h1⟩:=ab0 h;obtain⟨b,c,d,e,f,e2⟩:=apB h1;exact⟨a,b,c,d,e,f,by rw[e1,e2]⟩
theorem atC{α:Type}{l:List α}(h:l.length=11) : ∃a b c d e f g i j k m,l=[a,b,c,d,e,f,g,i,j,k,m]:=by
 obtain⟨a,r,e1,h1⟩:=ab0 h;obtain⟨b,r,e2,h2⟩:=ab0 h1;obtain⟨c,r,e3,h3⟩:=ab0 h2;obtain⟨d,r,e4,h4⟩:=ab0 h3;obtain⟨e,r,e5,h5⟩:=ab0 h4
 obtain⟨f,g,i,j,k,m,e6⟩:=avD h5;exact⟨a,b,c,d,e,f,g,i,j,k,m,by rw[e1,e2,e3,e4,e5,e6]⟩
set_option maxRecDepth 100000 in
set_option maxHeartbeats 4000000 in
theorem asL{H:Type}{enc:TypeId×Value->H}{W:World}{sp:Nat->Bool} : ∀n:Nat,
  (∀m cs x,m<=n->DataW.trod enc Tryz.prog W 0 sp true m 35 cs=some x->okW Tryz.prog 35 x.1->∃y,aai (K0 W) y cs) /\
  (∀m cs x,m<=n->DataW.trod enc Tryz.prog W 0 sp true m 62 cs=some x->okW Tryz.prog 62 x.1->∃y,aag (K0 W) y cs) /\
  (∀m cs x,m<=n->DataW.trod enc Tryz.prog W 0 sp true m 84 cs=some x->okW Tryz.prog 84 x.1->∃y,aar (K0 W) y cs) /\
  (∀m cs x,m<=n->DataW.trod enc Tryz.prog W 0 sp true m 70 cs=some x->okW Tryz.prog 70 x.1->∃y,aaz (K0 W) y cs) /\
  (∀m cs x,m<=n->DataW.trod enc Tryz.prog W 0 sp true m 52 cs=some x->okW Tryz.prog 52 x.1->∃y,aak (K0 W) y cs) /\
  (∀m cs x,m<=n->DataW.trod enc Tryz.prog W 0 sp true m 24 cs=some x->okW Tryz.prog 24 x.1->∃y,aad (K0 W) y cs):=by
 intro n;induction n with
 | zero=>exact⟨λm cs x hm h _=>(aoA hm h).elim,λm cs x hm h _=>(aoA hm h).elim,λm cs x hm h _=>(aoA hm h).elim,λm cs x hm h _=>(aoA hm h).elim,λm cs x hm h _=>(aoA hm h).elim,λm cs x hm h _=>(aoA hm h).elim⟩
 | succ n ih =>
  obtain⟨ih35,ih62,ih84,ih70,ih52,ih24⟩:=ih;refine⟨?_,?_,?_,?_,?_,?_⟩
  ·intro m cs x hm h hw;obtain⟨xs,m0,rfl,rfl,hl,hn,hf⟩:=DataW.trod_struct Tryz.underlying35 h;have hl:cs.length=5:=hl.trans (by kernel_rfl);have hn:xs.length=5:=hn;have hm0:m0<=n:=by omega
   obtain⟨c0,c1,c2,c3,c4,rfl⟩:=apB hl;obtain⟨y0,y1,y2,y3,y4,rfl⟩:=apB hn;have hw:=acM Tryz.underlying35 hw;have h0:=hf 0 _ rfl;have w0:okW Tryz.prog 3 y0.1:=abd hw 0 rfl rfl;obtain⟨v0,e0,_,_⟩:=DataW.trod_int (Tryz.underlying3) h0;obtain rfl:c0=_:=List.head_eq_of_cons_eq e0;have h1:=hf 1 _ rfl;have w1:okW Tryz.prog 3 y1.1:=abd hw 1 rfl rfl;obtain⟨v1,e1,_,_⟩:=DataW.trod_int (Tryz.underlying3) h1;obtain rfl:c1=_:=List.head_eq_of_cons_eq e1;have h2:=hf 2 _ rfl;have w2:okW Tryz.prog 9 y2.1:=abd hw 2 rfl rfl;obtain⟨v2,e2,q2,_⟩:=DataW.trod_string (Tryz.underlying9) h2;obtain rfl:c2=_:=List.head_eq_of_cons_eq e2;have s2:=agm (q2▸w2);have h3:=hf 3 _ rfl;have w3:okW Tryz.prog 3 y3.1:=abd hw 3 rfl rfl;obtain⟨v3,e3,_,_⟩:=DataW.trod_int (Tryz.underlying3) h3;obtain rfl:c3=_:=List.head_eq_of_cons_eq e3;have h4:=hf 4 _ rfl;have w4:okW Tryz.prog 33 y4.1:=abd hw 4 rfl rfl;obtain⟨A4,p4,v4,e4,r4⟩:=ac7 (R:=λK=>(aai K)) (size:=5) (bytes:=64) (Tryz.underlying33) (by kernel_rfl) (by decide) (by kernel_rfl) (by decide) (λm cs x hm h w=>ih35 m cs x (Nat.le_trans hm hm0) h w) h4 w4;obtain rfl:c4=_:=List.head_eq_of_cons_eq e4;exact⟨.mk v0 v1 v2 v3 v4,aai.intro s2 r4⟩
  ·intro m cs x hm h hw;obtain⟨xs,m0,rfl,rfl,hl,hn,hf⟩:=DataW.trod_struct Tryz.underlying62 h;have hl:cs.length=11:=hl.trans (by kernel_rfl);have hn:xs.length=11:=hn;have hm0:m0<=n:=by omega
   obtain⟨c0,c1,c2,c3,c4,c5,c6,c7,c8,c9,c10,rfl⟩:=atC hl;obtain⟨y0,y1,y2,y3,y4,y5,y6,y7,y8,y9,y10,rfl⟩:=atC hn;have hw:=acM Tryz.underlying62 hw;have h0:=hf 0 _ rfl;have w0:okW Tryz.prog 3 y0.1:=abd hw 0 rfl rfl;obtain⟨v0,e0,_,_⟩:=DataW.trod_int (Tryz.underlying3) h0;obtain rfl:c0=_:=List.head_eq_of_cons_eq e0;have h1:=hf 1 _ rfl;have w1:okW Tryz.prog 9 y1.1:=abd hw 1 rfl rfl;obtain⟨v1,e1,q1,_⟩:=DataW.trod_string (Tryz.underlying9) h1;obtain rfl:c1=_:=List.head_eq_of_cons_eq e1;have s1:=agm (q1▸w1);have h2:=hf 2 _ rfl;have w2:okW Tryz.prog 3 y2.1:=abd hw 2 rfl rfl;obtain⟨v2,e2,_,_⟩:=DataW.trod_int (Tryz.underlying3) h2;obtain rfl:c2=_:=List.head_eq_of_cons_eq e2;have h3:=hf 3 _ rfl;have w3:okW Tryz.prog 9 y3.1:=abd hw 3 rfl rfl;obtain⟨v3,e3,q3,_⟩:=DataW.trod_string (Tryz.underlying9) h3;obtain rfl:c3=_:=List.head_eq_of_cons_eq e3;have s3:=agm (q3▸w3);have h4:=hf 4 _ rfl;have w4:okW Tryz.prog 3 y4.1:=abd hw 4 rfl rfl;obtain⟨v4,e4,_,_⟩:=DataW.trod_int (Tryz.underlying3) h4;obtain rfl:c4=_:=List.head_eq_of_cons_eq e4;have h5:=hf 5 _ rfl;have w5:okW Tryz.prog 3 y5.1:=abd hw 5 rfl rfl;obtain⟨v5,e5,_,_⟩:=DataW.trod_int (Tryz.underlying3) h5;obtain rfl:c5=_:=List.head_eq_of_cons_eq e5;have h6:=hf 6 _ rfl;have w6:okW Tryz.prog 33 y6.1:=abd hw 6 rfl rfl;obtain⟨A6,p6,v6,e6,r6⟩:=ac7 (R:=λK=>(aai K)) (size:=5) (bytes:=64) (Tryz.underlying33) (by kernel_rfl) (by decide) (by kernel_rfl) (by decide) (λm cs x hm h w=>ih35 m cs x (Nat.le_trans hm hm0) h w) h6 w6;obtain rfl:c6=_:=List.head_eq_of_cons_eq e6;have h7:=hf 7 _ rfl;have w7:okW Tryz.prog 50 y7.1:=abd hw 7 rfl rfl;obtain⟨A7,p7,v7,e7,r7⟩:=ac7 (R:=λK=>(aag K)) (size:=11) (bytes:=184) (Tryz.underlying50) (by kernel_rfl) (by decide) (by kernel_rfl) (by decide) (λm cs x hm h w=>ih62 m cs x (Nat.le_trans hm hm0) h w) h7 w7;obtain rfl:c7=_:=List.head_eq_of_cons_eq e7;have h8:=hf 8 _ rfl;have w8:okW Tryz.prog 50 y8.1:=abd hw 8 rfl rfl;obtain⟨A8,p8,v8,e8,r8⟩:=ac7 (R:=λK=>(aag K)) (size:=11) (bytes:=184) (Tryz.underlying50) (by kernel_rfl) (by decide) (by kernel_rfl) (by decide) (λm cs x hm h w=>ih62 m cs x (Nat.le_trans hm hm0) h w) h8 w8;obtain rfl:c8=_:=List.head_eq_of_cons_eq e8;have h9:=hf 9 _ rfl;have w9:okW Tryz.prog 50 y9.1:=abd hw 9 rfl rfl;obtain⟨A9,p9,v9,e9,r9⟩:=ac7 (R:=λK=>(aag K)) (size:=11) (bytes:=184) (Tryz.underlying50) (by kernel_rfl) (by decide) (by kernel_rfl) (by decide) (λm cs x hm h w=>ih62 m cs x (Nat.le_trans hm hm0) h w) h9 w9;obtain rfl:c9=_:=List.head_eq_of_cons_eq e9;have h10:=hf 10 _ rfl;have w10:okW Tryz.prog 60 y10.1:=abd hw 10 rfl rfl;obtain⟨A10,p10,v10,e10,r10⟩:=ac7 (R:=λK=>(aar K)) (size:=5) (bytes:=80) (Tryz.underlying60) (by kernel_rfl) (by decide) (by kernel_rfl) (by decide) (λm cs x hm h w=>ih84 m cs x (Nat.le_trans hm hm0) h w) h10 w10;obtain rfl:c10=_:=List.head_eq_of_cons_eq e10;exact⟨.mk v0 v1 v2 v3 v4 v5 v6 v7 v8 v9 v10,aag.intro s1 s3 r6 r7 r8 r9 r10⟩
  ·intro m cs x hm h hw;obtain⟨xs,m0,rfl,rfl,hl,hn,hf⟩:=DataW.trod_struct Tryz.underlying84 h;have hl:cs.length=5:=hl.trans (by kernel_rfl);have hn:xs.length=5:=hn;have hm0:m0<=n:=by omega
   obtain⟨c0,c1,c2,c3,c4,rfl⟩:=apB hl;obtain⟨y0,y1,y2,y3,y4,rfl⟩:=apB hn;have hw:=acM Tryz.underlying84 hw;have h0:=hf 0 _ rfl;have w0:okW Tryz.prog 3 y0.1:=abd hw 0 rfl rfl;obtain⟨v0,e0,_,_⟩:=DataW.trod_int (Tryz.underlying3) h0;obtain rfl:c0=_:=List.head_eq_of_cons_eq e0;have h1:=hf 1 _ rfl;have w1:okW Tryz.prog 9 y1.1:=abd hw 1 rfl rfl;obtain⟨v1,e1,q1,_⟩:=DataW.trod_string (Tryz.underlying9) h1;obtain rfl:c1=_:=List.head_eq_of_cons_eq e1;have s1:=agm (q1▸w1);have h2:=hf 2 _ rfl;have w2:okW Tryz.prog 3 y2.1:=abd hw 2 rfl rfl;obtain⟨v2,e2,_,_⟩:=DataW.trod_int (Tryz.underlying3) h2;obtain rfl:c2=_:=List.head_eq_of_cons_eq e2;have h3:=hf 3 _ rfl;have w3:okW Tryz.prog 33 y3.1:=abd hw 3 rfl rfl;obtain⟨A3,p3,v3,e3,r3⟩:=ac7 (R:=λK=>(aai K)) (size:=5) (bytes:=64) (Tryz.underlying33) (by kernel_rfl) (by decide) (by kernel_rfl) (by decide) (λm cs x hm h w=>ih35 m cs x (Nat.le_trans hm hm0) h w) h3 w3;obtain rfl:c3=_:=List.head_eq_of_cons_eq e3;have h4:=hf 4 _ rfl;have w4:okW Tryz.prog 50 y4.1:=abd hw 4 rfl rfl;obtain⟨A4,p4,v4,e4,r4⟩:=ac7 (R:=λK=>(aag K)) (size:=11) (bytes:=184) (Tryz.underlying50) (by kernel_rfl) (by decide) (by kernel_rfl) (by decide) (λm cs x hm h w=>ih62 m cs x (Nat.le_trans hm hm0) h w) h4 w4;obtain rfl:c4=_:=List.head_eq_of_cons_eq e4;exact⟨.mk v0 v1 v2 v3 v4,aar.intro s1 r3 r4⟩
  ·intro m cs x hm h hw;obtain⟨xs,m0,rfl,rfl,hl,hn,hf⟩:=DataW.trod_struct Tryz.underlying70 h;have hl:cs.length=2:=hl.trans (by kernel_rfl);have hn:xs.length=2:=hn;have hm0:m0<=n:=by omega
   obtain⟨c0,c1,rfl⟩:=avV hl;obtain⟨y0,y1,rfl⟩:=avV hn;have hw:=acM Tryz.underlying70 hw;have h0:=hf 0 _ rfl;have w0:okW Tryz.prog 9 y0.1:=abd hw 0 rfl rfl;obtain⟨v0,e0,q0,_⟩:=DataW.trod_string (Tryz.underlying9) h0;obtain rfl:c0=_:=List.head_eq_of_cons_eq e0;have s0:=agm (q0▸w0);have h1:=hf 1 _ rfl;have w1:okW Tryz.prog 3 y1.1:=abd hw 1 rfl rfl;obtain⟨v1,e1,_,_⟩:=DataW.trod_int (Tryz.underlying3) h1;obtain rfl:c1=_:=List.head_eq_of_cons_eq e1;exact⟨.mk v0 v1,aaz.intro s0⟩
  ·intro m cs x hm h hw;obtain⟨xs,m0,rfl,rfl,hl,hn,hf⟩:=DataW.trod_struct Tryz.underlying52 h;have hl:cs.length=6:=hl.trans (by kernel_rfl);have hn:xs.length=6:=hn;have hm0:m0<=n:=by omega
   obtain⟨c0,c1,c2,c3,c4,c5,rfl⟩:=avD hl;obtain⟨y0,y1,y2,y3,y4,y5,rfl⟩:=avD hn;have hw:=acM Tryz.underlying52 hw;have h0:=hf 0 _ rfl;have w0:okW Tryz.prog 9 y0.1:=abd hw 0 rfl rfl;obtain⟨v0,e0,q0,_⟩:=DataW.trod_string (Tryz.underlying9) h0;obtain rfl:c0=_:=List.head_eq_of_cons_eq e0;have s0:=agm (q0▸w0);have h1:=hf 1 _ rfl;have w1:okW Tryz.prog 49 y1.1:=abd hw 1 rfl rfl;obtain⟨A1,p1,v1,e1,r1⟩:=ac7 (R:=λK=>(aaz K)) (size:=2) (bytes:=24) (Tryz.underlying49) (by kernel_rfl) (by decide) (by kernel_rfl) (by decide) (λm cs x hm h w=>ih70 m cs x (Nat.le_trans hm hm0) h w) h1 w1;obtain rfl:c1=_:=List.head_eq_of_cons_eq e1;have h2:=hf 2 _ rfl;have w2:okW Tryz.prog 3 y2.1:=abd hw 2 rfl rfl;obtain⟨v2,e2,_,_⟩:=DataW.trod_int (Tryz.underlying3) h2;obtain rfl:c2=_:=List.head_eq_of_cons_eq e2;have h3:=hf 3 _ rfl;have w3:okW Tryz.prog 4 y3.1:=abd hw 3 rfl rfl;obtain⟨v3,e3,_⟩:=DataW.trod_bool (Tryz.underlying4) h3;obtain rfl:c3=_:=List.head_eq_of_cons_eq e3;have h4:=hf 4 _ rfl;have w4:okW Tryz.prog 3 y4.1:=abd hw 4 rfl rfl;obtain⟨v4,e4,_,_⟩:=DataW.trod_int (Tryz.underlying3) h4;obtain rfl:c4=_:=List.head_eq_of_cons_eq e4;have h5:=hf 5 _ rfl;have w5:okW Tryz.prog 50 y5.1:=abd hw 5 rfl rfl;obtain⟨A5,p5,v5,e5,r5⟩:=ac7 (R:=λK=>(aag K)) (size:=11) (bytes:=184) (Tryz.underlying50) (by kernel_rfl) (by decide) (by kernel_rfl) (by decide) (λm cs x hm h w=>ih62 m cs x (Nat.le_trans hm hm0) h w) h5 w5;obtain rfl:c5=_:=List.head_eq_of_cons_eq e5;exact⟨.mk v0 v1 v2 v3 v4 v5,aak.intro s0 r1 r5⟩
  ·intro m cs x hm h hw;obtain⟨xs,m0,rfl,rfl,hl,hn,hf⟩:=DataW.trod_struct Tryz.underlying24 h;have hl:cs.length=1:=hl.trans (by kernel_rfl);have hn:xs.length=1:=hn;have hm0:m0<=n:=by omega
   obtain⟨c0,rfl⟩:=auo hl;obtain⟨y0,rfl⟩:=auo hn;have hw:=acM Tryz.underlying24 hw;have h0:=hf 0 _ rfl;have w0:okW Tryz.prog 22 y0.1:=abd hw 0 rfl rfl;obtain⟨A0,p0,v0,e0,r0⟩:=ac7 (R:=λK=>(aak K)) (size:=6) (bytes:=88) (Tryz.underlying22) (by kernel_rfl) (by decide) (by kernel_rfl) (by decide) (λm cs x hm h w=>ih52 m cs x (Nat.le_trans hm hm0) h w) h0 w0;obtain rfl:c0=_:=List.head_eq_of_cons_eq e0;exact⟨.mk v0,aad.intro r0⟩
end Go.Proofs.YtphdlngnegjgcaaGreatDoor
namespace Go.Proofs.YtphdlngnegjgcaaGreatDoor
open Go Go.ChangeShapes Go.WideShapes Go.ChangeAt Go.RowKit
theorem own:ownKnob Tryz.prog.godebug=none:=by kernel_rfl
theorem atD : Tryz.prog.globalNamed "strings.asciiSpace"=some 0:=by kernel_rfl
theorem awA:(Tryz.prog.globals[0]?).map (·.type)=some 219:=by kernel_rfl
theorem aok : Tryz.prog.cellsOf 219=256:=by kernel_rfl
theorem avZ : Tryz.prog.cellsOf 5=1:=by kernel_rfl
set_option maxRecDepth 100000 in
theorem ayo{W:World}{laid:List (String×DataW Unit)}(hp:(laid.all λx=>x.2.handleName?.isNone)=true) (hl:laid.filter (λx=>x.1 == "strings.asciiSpace")=[("strings.asciiSpace",Lib.tabData .u8 Lib.asciiSpaceTab)])
  (h:laidMetH Tryz.prog laid W) (hs:W.ShapedOpen Tryz.prog):GK (K0 W):=by
 rw[MakeChecks.laidMetH_plain _ _ _ hp] at h;have h1:=h.filter (λx=>x.1 == "strings.asciiSpace");rw[hl] at h1;have htab:=Lib.tabIs_of_head atD awA Tryz.underlying219 Tryz.underlying5 avZ aok h1;refine⟨λc hc=>aml ?_,?_⟩
 ·rw[htab.cell atD c (by rw[Lib.asciiSpaceTab_length];exact hc),Lib.asciiSpaceTab_at c hc]
 ·obtain⟨cs,hh,hz,hr⟩:=hs.1 1 #[.int .i64 0] 3 (Nat.le_of_ble_eq_true (by kernel_rfl)) (by kernel_rfl);obtain⟨ts,hts,_,hall⟩:=hr (by kernel_rfl);have e:ts=[3]:=Option.some.inj (hts.symm.trans (by kernel_rfl));subst e;have h0:0<cs.size:=by rw[hz];decide
  obtain⟨u,hu,hok⟩:=hall 0 cs[0] (by simp[h0]);obtain rfl:(3:TypeId)=u:=Option.some.inj hu;have hcell:W.cell? ⟨1,0,none⟩=some cs[0]:=by simp[World.cell?,hh,h0]
  have hint : ∃m,cs[0]=.int .i64 m:=by
   unfold Cell.ok at hok;rw[Tryz.underlying3] at hok;split at hok<;>simp_all
  obtain⟨m,hm⟩:=hint;exact⟨m,aml (by rw[hcell,hm])⟩
set_option maxRecDepth 100000 in
theorem amf{H:Type}{enc:TypeId×Value->H}{W:World}{base:Nat}{v:Value}{d:DataW H}{ps:List MemPlace}(hval:Value.okWide Tryz.prog W .any base 24 v)(h:DataW.Trod enc Tryz.prog W 0 (λ_=>true) true 24 v d ps)(hw:okW Tryz.prog 24 d) :
  ∃(p:aaa) (cs:List Value),v=.agg cs.toArray/\aad (K0 W) p cs:=by
 unfold Value.okWide at hval;rw[Tryz.underlying24] at hval;obtain⟨cs,rfl,_,_⟩:=hval;obtain⟨fuel,h⟩:=h;obtain⟨y,hy⟩:=(asL (enc:=enc) (W:=W) (sp:=λ_=>true) fuel).2.2.2.2.2 fuel cs.toList (d,ps) (Nat.le_refl _) h hw;exact⟨y,cs.toList,by simp,hy⟩
theorem ar6{K:KH}{W w:World}{H:Ents}(S:Sx (K0 W) K W w (λb=>b∈Ents.blks []) H):Below W.heap.size W w :=
 ⟨S.os,S.tape,S.output,S.size,λk hk=>S.ext k hk (by simp[Ents.blks])⟩
theorem avj:laidOutB Tryz.prog=true:=by kernel_rfl
theorem aoe : Tryz.prog.readableRec 24=true:=by kernel_rfl
theorem aye:(24:TypeId)<Tryz.prog.types.size:=Nat.le_of_ble_eq_true (by kernel_rfl)
def aoU(ds:List (DataW Unit)):List Value:=ds.filterMap λ| .lit (.int k n)=>some (.int k n) | _=>none
def aev:DataW Unit->List (DataW Unit)
 | .agg ds=>ds
 | .slice ds _=>ds
 | .ptr d=>[d]
 | _=>[]
def ayx(d:DataW Unit):List Value:=aoU (aev d)++(aev d).flatMap λd=>aoU (aev d)
noncomputable def ahB(os:Os):World :=
 let w:=World.holding Tryz.prog os ⟨#[],#[],[]⟩
 let put (h:Array Obj) (g:Nat) (vs:List Value):Array Obj:=h.modify g λ| .cells _ t f=>.cells vs.toArray t f | o=>o
 let r16:=((aev Rows.laid_unicode_White_Space).flatMap aev)[0]?.map aev |>.getD []
 let h:=put w.heap 0 (aoU (aev Rows.laid_strings_asciiSpace))
 let h:=put h 4 [.pointer (some ⟨h.size,0,none⟩)]
 let h:=put h 2 (aoU (aev Rows.laid_unicode_utf8_first))
 let h:=put h 3 (ayx Rows.laid_unicode_utf8_acceptRanges)
 let h:=h.push (.cells #[.slice (some ⟨h.size+1,0,none⟩) r16.length r16.length,.slice none 0 0,.int .i64 ((((aev Rows.laid_unicode_White_Space).flatMap aev).filterMap λ| .lit (.int _ n)=>some n | _=>none)[0]?.getD 0)] 248)
 let h:=h.push (.cells (r16.flatMap λd=>aoU (aev d)).toArray 0)
 { w with heap:=h }
end Go.Proofs.YtphdlngnegjgcaaGreatDoor
namespace Go.Proofs.YtphdlngnegjgcaaGreatDoor
open Go Go.ChangeShapes Go.WideShapes Go.ChangeAt Go.RowKit
theorem RSl.fit{α:Type}{R:α->List Value->Prop}{size bytes:Nat}{K:KH}{A:Option Addr}{c:Nat}{xs:List α}{F:α->Prop}(h:RSl α R size bytes K A c xs)(hF : ∀x∈xs,∀cs,R x cs->F x) :
  xs.length*bytes<=maxB/\∀x∈xs,F x:=by
 obtain⟨h1,h2,b,o,csx,h3,h4,h5⟩:=h;refine⟨h2,λx hx=>?_⟩;obtain⟨i,hi,rfl⟩:=List.mem_iff_getElem.1 hx;exact hF _ hx _ (h5 i _ (List.getElem?_eq_getElem hi))
theorem akr : ∀{l:List aah},(∀x∈l,fitE x)->aeX l
 | [],_=>trivial
 | e::l,h=>⟨h e (by simp),akr λx hx=>h x (by simp[hx])⟩
theorem aj4 : ∀{l:List aae},(∀x∈l,fitS x)->ad8 l
 | [],_=>trivial
 | e::l,h=>⟨h e (by simp),aj4 λx hx=>h x (by simp[hx])⟩
theorem anN : ∀{l:List aap},(∀x∈l,fitC x)->ajH l
 | [],_=>trivial
 | e::l,h=>⟨h e (by simp),anN λx hx=>h x (by simp[hx])⟩
theorem anh : ∀{l:List aab},(∀x∈l,fitF x)->aku l
 | [],_=>trivial
 | e::l,h=>⟨h e (by simp),anh λx hx=>h x (by simp[hx])⟩
theorem aoI : ∀{l:List aah} {x:aah},x∈l->szE x<=szEs l
 | e::l,x,h=>by
  rcases List.mem_cons.1 h with rfl | h
  ·simp only[szEs];omega
  ·have:=aoI h;simp only[szEs];omega
theorem aqA : ∀{l:List aae} {x:aae},x∈l->szS x<=szSs l
 | e::l,x,h=>by
  rcases List.mem_cons.1 h with rfl | h
  ·simp only[szSs];omega
  ·have:=aqA h;simp only[szSs];omega
theorem aoW : ∀{l:List aap} {x:aap},x∈l->szC x<=szCs l
 | e::l,x,h=>by
  rcases List.mem_cons.1 h with rfl | h
  ·simp only[szCs];omega
  ·have:=aoW h;simp only[szCs];omega
theorem aai.fit{K:KH} : ∀(n:Nat) {x:aah} {cs:List Value},szE x<=n->aai K x cs->fitE x
 | 0,x,cs,hn,h=>by obtain⟨_,_,_,_,_⟩:=x;simp only[szE] at hn;omega
 | n+1,x,cs,hn,h=>by
  obtain⟨x0,x1,x2,x3,x4⟩:=x;simp only[szE] at hn;obtain⟨_,_,_,_,h4⟩:=h.open;have:=h4.fit (F:=fitE) λy hy cs h=>aai.fit n (by have:=aoI hy;omega) h
  exact⟨this.1,akr this.2⟩
theorem RSl.fitE{K:KH}{A:Option Addr}{c:Nat}{xs:List aah}(h:RSl aah (aai K) 5 64 K A c xs):xs.length*64<=maxB/\aeX xs:=by
 have:=h.fit (F:=Go.Proofs.YtphdlngnegjgcaaGreatDoor.fitE) λy hy cs h=>aai.fit _ (Nat.le_refl _) h
 exact⟨this.1,akr this.2⟩
theorem aag.fit{K:KH} : ∀(n:Nat),(∀{x:aae} {cs:List Value},szS x<=n->aag K x cs->fitS x)/\(∀{x:aap} {cs:List Value},szC x<=n->aar K x cs->fitC x)
 | 0=>by
  constructor
  ·intro x cs hn h;have:=aaP x;omega
  ·intro x cs hn h;have:=abt x;omega
 | n+1=>by
  obtain⟨ihs,ihc⟩:=aag.fit (K:=K) n;have sl : ∀{A:Option Addr} {c:Nat} {xs:List aae},szSs xs<=n->RSl aae (aag K) 11 184 K A c xs->xs.length*184<=maxB/\ad8 xs:=by
   intro A c xs hn h;have:=h.fit (F:=fitS) λy hy cs h=>ihs (by have:=aqA hy;omega) h
   exact⟨this.1,aj4 this.2⟩
  constructor
  ·intro x cs hn h;obtain⟨x0,x1,x2,x3,x4,x5,x6,x7,x8,x9,x10⟩:=x;simp only[szS] at hn;obtain⟨_,_,_,_,_,_,_,_,_,_,_,_,_,h6,h7,h8,h9,h10⟩:=h.open;have:=h10.fit (F:=fitC) λy hy cs h=>ihc (by have:=aoW hy;omega) h
   exact⟨h6.fitE,sl (by omega) h7,sl (by omega) h8,sl (by omega) h9,this.1,anN this.2⟩
  ·intro x cs hn h;obtain⟨x0,x1,x2,x3,x4⟩:=x;simp only[szC] at hn;obtain⟨_,_,_,_,_,_,h3,h4⟩:=h.open;exact⟨h3.fitE,sl (by omega) h4⟩
theorem RSl.fitS{K:KH}{A:Option Addr}{c:Nat}{xs:List aae}(h:RSl aae (aag K) 11 184 K A c xs):xs.length*184<=maxB/\ad8 xs:=by
 have:=h.fit (F:=Go.Proofs.YtphdlngnegjgcaaGreatDoor.fitS) λy hy cs h=>(aag.fit (szS y)).1 (Nat.le_refl _) h
 exact⟨this.1,aj4 this.2⟩
theorem aak.fit{K:KH}{x:aab}{cs:List Value}(h:aak K x cs):fitF x:=by
 obtain⟨x0,x1,x2,x3,x4,x5⟩:=x;obtain⟨_,_,_,_,_,_,h1,h5⟩:=h.open;exact⟨(h1.fit (F:=λ_=>True) λ_ _ _ _=>trivial).1,h5.fitS⟩
theorem aad.fit{K:KH}{x:aaa}{cs:List Value}(h:aad K x cs):fitP x:=by
 obtain⟨x0⟩:=x;obtain⟨_,_,_,h0⟩:=h.open;have:=h0.fit (F:=fitF) λy hy cs h=>h.fit
 exact⟨this.1,anh this.2⟩
theorem aop{H:Type}{enc:TypeId×Value->H}{P:Program}{f:Func}{s:ChangeSpec}{apart fresh handsOn again:Bool}{W W' : World}{args:Array Value}{v:Value}{ds gs:List (DataW H)}{before pa pv:List MemPlace}
  (hW:DataW.Whole enc P f.params.toList s.vars apart W args.toList ds gs before)
  (hres : ∀(b:Nat) (sp:Nat->Bool) (hd:Bool),DataW.TrodAll enc P W' b sp hd f.resultTypes.toList (v.resultList f.resultTypes.size) (s.fn H (ds++gs)).results [])
  (hargs : ∀sp:Nat->Bool,(∀p∈before,sp p.block=true)->DataW.TrodAll enc P W' 0 sp true f.params.toList args.toList (s.fn H (ds++gs)).args pa)
  (hvars : ∀sp:Nat->Bool,(∀p∈before,sp p.block=true)->DataW.TrodVars enc P W' sp s.vars (s.fn H (ds++gs)).vars pv)
  (hps:before=pa++pv) (hb:Below W.heap.size W W')
  (hok : ∀(j:Nat) (t:TypeId) (r:Value),f.resultTypes[j]?=some t->(v.resultList f.resultTypes.size)[j]?=some r->Value.okWide P W' .any 0 t r) :
  s.post enc P f apart fresh handsOn again W args v W':=by
 have hlt : ∀p∈before,p.block<W.heap.size:=λp hp=>hW.lt p hp
 have hold : ∀p∈before,(λb=>decide (b<W.heap.size)) p.block=true:=λp hp=>by simpa using hlt p hp
 refine⟨ds,gs,before,[],pa,pv,hW,hres _ _ _,hargs _ hold,hvars _ hold,World.keptBut_mono (λp hp=>⟨hp,?_⟩) (hb.frame _),λ_=>?_⟩
 ·rw[hps,List.mem_append] at hp;exact Or.inr hp
 ·obtain⟨_,_,_,_,_,hz,hn⟩:=hW;refine⟨hok,_,_,([]++pa)++pv,⟨[]++pa,pv,trodAll_append (hargs _ (λ_ _=>rfl)) (hres _ _ _),hvars _ (λ_ _=>rfl),rfl,?_,?_⟩,?_⟩
  ·intro b off hp;have hp' : MemPlace.cell b off∈before:=by rw[hps];simpa using hp
   rw[hb.frozen (p:=⟨b,off,none⟩) (hlt _ hp')];exact hz b off hp'
  ·intro ha;have:=hn ha;rw[hps] at this;simpa using this
  ·intro p hp _;rw[hps];simpa using hp
end Go.Proofs.YtphdlngnegjgcaaGreatDoor
