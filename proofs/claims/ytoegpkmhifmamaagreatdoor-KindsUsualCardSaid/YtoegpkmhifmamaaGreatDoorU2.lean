/- Words of the same proof, part 2: what the last text needs; nothing is claimed here. -/
import Derived.Test.YtoegpkmhifmamaaGreatDoorU1
import Derived.Shelf.Strings.Fields
import Derived.Shelf.Strings.Replace
import Derived.Test.YtoegpkmhifmamaaGreatDoorProg
import Derived.Laws.OwnMore
import Derived.Scope
import Derived.Defers
import Derived.Recover
set_option linter.unusedVariables false
set_option linter.unusedSimpArgs false
namespace Go.Proofs
open Go.Shelf
def Tryz.lays157_ren:Go.Shelf.Ren:=⟨fun | 157=>135 | 229=>146 | 199=>147 | 261=>153 | 311=>154 | 312=>155 | n=>n,fun | 9=>9 | 31=>127 | 3=>3 | 5=>5 | 4=>4 | 119=>191 | 0=>0 | 40=>196 | 152=>206 | 21=>21 | 154=>208 | 51=>203 | 141=>210 | 196=>215 | 193=>212 | 198=>218 | 49=>216 | 194=>213 | 201=>221 | 226=>223 | 46=>61 | 227=>224 | n=>n,fun | 0=>3 | 6=>4 | n=>n⟩
theorem Tryz.lays157:Go.Proofs.Lays.n157 Tryz.prog Tryz.lays157_ren:={
 mixed:=by kernel_rfl
 f157:=Tryz.func135.trans (congrArg some (by kernel_rfl))
 f199:=Tryz.func147.trans (congrArg some (by kernel_rfl))
 f229:=Tryz.func146.trans (congrArg some (by kernel_rfl))
 f261:=Tryz.func153.trans (congrArg some (by kernel_rfl))
 f311:=Tryz.func154.trans (congrArg some (by kernel_rfl))
 f312:=Tryz.func155.trans (congrArg some (by kernel_rfl))
 t0:=Tryz.underlying0
 a0:=Tryz.isAgg0
 z0:=Tryz.sizeOf0
 v0:=Tryz.zeroValue0
 t3:=Tryz.underlying3
 a3:=Tryz.isAgg3
 z3:=Tryz.sizeOf3
 v3:=Tryz.zeroValue3
 t4:=Tryz.underlying4
 a4:=Tryz.isAgg4
 z4:=Tryz.sizeOf4
 v4:=Tryz.zeroValue4
 t5:=Tryz.underlying5
 a5:=Tryz.isAgg5
 z5:=Tryz.sizeOf5
 v5:=Tryz.zeroValue5
 t9:=Tryz.underlying9
 a9:=Tryz.isAgg9
 z9:=Tryz.sizeOf9
 v9:=Tryz.zeroValue9
 t21:=Tryz.underlying21
 a21:=Tryz.isAgg21
 z21:=Tryz.sizeOf21
 v21:=Tryz.zeroValue21
 t31:=Tryz.underlying127
 a31:=Tryz.isAgg127
 z31:=Tryz.sizeOf127
 v31:=Tryz.zeroValue127
 t40:=Tryz.underlying196
 a40:=Tryz.isAgg196
 z40:=Tryz.sizeOf196
 v40:=Tryz.zeroValue196
 t46:=Tryz.underlying61
 a46:=Tryz.isAgg61
 z46:=Tryz.sizeOf61
 v46:=Tryz.zeroValue61
 t49:=Tryz.underlying216
 a49:=Tryz.isAgg216
 z49:=Tryz.sizeOf216
 v49:=Tryz.zeroValue216
 t51:=Tryz.underlying203
 a51:=Tryz.isAgg203
 z51:=Tryz.sizeOf203
 v51:=Tryz.zeroValue203
 t119:=Tryz.underlying191
 a119:=Tryz.isAgg191
 z119:=Tryz.sizeOf191
 t141:=Tryz.underlying210
 a141:=Tryz.isAgg210
 z141:=Tryz.sizeOf210
 v141:=Tryz.zeroValue210
 t152:=Tryz.underlying206
 a152:=Tryz.isAgg206
 z152:=Tryz.sizeOf206
 v152:=Tryz.zeroValue206
 t154:=Tryz.underlying208
 a154:=Tryz.isAgg208
 z154:=Tryz.sizeOf208
 v154:=Tryz.zeroValue208
 t193:=Tryz.underlying212
 a193:=Tryz.isAgg212
 z193:=Tryz.sizeOf212
 v193:=Tryz.zeroValue212
 t194:=Tryz.underlying213
 a194:=Tryz.isAgg213
 z194:=Tryz.sizeOf213
 v194:=Tryz.zeroValue213
 t196:=Tryz.underlying215
 a196:=Tryz.isAgg215
 z196:=Tryz.sizeOf215
 v196:=Tryz.zeroValue215
 t198:=Tryz.underlying218
 a198:=Tryz.isAgg218
 z198:=Tryz.sizeOf218
 v198:=Tryz.zeroValue218
 t201:=Tryz.underlying221
 a201:=Tryz.isAgg221
 z201:=Tryz.sizeOf221
 v201:=Tryz.zeroValue221
 t226:=Tryz.underlying223
 a226:=Tryz.isAgg223
 z226:=Tryz.sizeOf223
 v226:=Tryz.zeroValue223
 t227:=Tryz.underlying224
 a227:=Tryz.isAgg224
 z227:=Tryz.sizeOf224
 v227:=Tryz.zeroValue224
 g0:=by kernel_rfl
 g6:=by kernel_rfl }
open Go.RowKit Go.Lib in
def Tryz.lays155_ren:Go.Shelf.Ren:=⟨fun | 155=>67 | 154=>95 | 138=>109 | 165=>110 | 143=>111 | 166=>112 | 197=>113 | 169=>114 | 195=>128 | 218=>129 | 240=>130 | 241=>131 | 219=>132 | 260=>133 | 276=>140 | 277=>141 | 217=>142 | 225=>143 | 224=>144 | 267=>145 | 266=>151 | 314=>152 | n=>n,fun | 9=>9 | 3=>3 | 4=>4 | 72=>163 | 0=>0 | 76=>166 | 105=>168 | 21=>21 | 5=>5 | 70=>160 | 20=>20 | 37=>161 | 75=>165 | 127=>182 | 164=>187 | 46=>61 | 119=>191 | 139=>194 | 138=>193 | 146=>204 | 51=>203 | 80=>170 | n=>n,fun | 1=>0 | 3=>1 | 4=>2 | n=>n⟩
theorem Tryz.lays155:Go.Proofs.Lays.n155 Tryz.prog Tryz.lays155_ren:={
 mixed:=by kernel_rfl
 f138:=Tryz.func109.trans (congrArg some (by kernel_rfl))
 f143:=Tryz.func111.trans (congrArg some (by kernel_rfl))
 f154:=Tryz.func95.trans (congrArg some (by kernel_rfl))
 f155:=Tryz.func67.trans (congrArg some (by kernel_rfl))
 f165:=Tryz.func110.trans (congrArg some (by kernel_rfl))
 f166:=Tryz.func112.trans (congrArg some (by kernel_rfl))
 f169:=Tryz.func114.trans (congrArg some (by kernel_rfl))
 f195:=Tryz.func128.trans (congrArg some (by kernel_rfl))
 f197:=Tryz.func113.trans (congrArg some (by kernel_rfl))
 f217:=Tryz.func142.trans (congrArg some (by kernel_rfl))
 f218:=Tryz.func129.trans (congrArg some (by kernel_rfl))
 f219:=Tryz.func132.trans (congrArg some (by kernel_rfl))
 f224:=Tryz.func144.trans (congrArg some (by kernel_rfl))
 f225:=Tryz.func143.trans (congrArg some (by kernel_rfl))
 f240:=Tryz.func130.trans (congrArg some (by kernel_rfl))
 f241:=Tryz.func131.trans (congrArg some (by kernel_rfl))
 f260:=Tryz.func133.trans (congrArg some (by kernel_rfl))
 f266:=Tryz.func151.trans (congrArg some (by kernel_rfl))
 f267:=Tryz.func145.trans (congrArg some (by kernel_rfl))
 f276:=Tryz.func140.trans (congrArg some (by kernel_rfl))
 f277:=Tryz.func141.trans (congrArg some (by kernel_rfl))
 f314:=Tryz.func152.trans (congrArg some (by kernel_rfl))
 t0:=Tryz.underlying0
 a0:=Tryz.isAgg0
 z0:=Tryz.sizeOf0
 v0:=Tryz.zeroValue0
 t3:=Tryz.underlying3
 a3:=Tryz.isAgg3
 z3:=Tryz.sizeOf3
 v3:=Tryz.zeroValue3
 t4:=Tryz.underlying4
 a4:=Tryz.isAgg4
 z4:=Tryz.sizeOf4
 v4:=Tryz.zeroValue4
 t5:=Tryz.underlying5
 a5:=Tryz.isAgg5
 z5:=Tryz.sizeOf5
 v5:=Tryz.zeroValue5
 t9:=Tryz.underlying9
 a9:=Tryz.isAgg9
 z9:=Tryz.sizeOf9
 v9:=Tryz.zeroValue9
 t20:=Tryz.underlying20
 a20:=Tryz.isAgg20
 z20:=Tryz.sizeOf20
 v20:=Tryz.zeroValue20
 t21:=Tryz.underlying21
 a21:=Tryz.isAgg21
 z21:=Tryz.sizeOf21
 v21:=Tryz.zeroValue21
 t37:=Tryz.underlying161
 a37:=Tryz.isAgg161
 z37:=Tryz.sizeOf161
 v37:=Tryz.zeroValue161
 t46:=Tryz.underlying61
 a46:=Tryz.isAgg61
 z46:=Tryz.sizeOf61
 v46:=Tryz.zeroValue61
 t51:=Tryz.underlying203
 a51:=Tryz.isAgg203
 z51:=Tryz.sizeOf203
 v51:=Tryz.zeroValue203
 t70:=Tryz.underlying160
 a70:=Tryz.isAgg160
 z70:=Tryz.sizeOf160
 v70:=Tryz.zeroValue160
 t72:=Tryz.underlying163
 a72:=Tryz.isAgg163
 z72:=Tryz.sizeOf163
 v72:=Tryz.zeroValue163
 t75:=Tryz.underlying165
 a75:=Tryz.isAgg165
 z75:=Tryz.sizeOf165
 v75:=Tryz.zeroValue165
 t76:=Tryz.underlying166
 a76:=Tryz.isAgg166
 z76:=Tryz.sizeOf166
 v76:=Tryz.zeroValue166
 t105:=Tryz.underlying168
 a105:=Tryz.isAgg168
 z105:=Tryz.sizeOf168
 v105:=Tryz.zeroValue168
 t119:=Tryz.underlying191
 a119:=Tryz.isAgg191
 z119:=Tryz.sizeOf191
 t127:=Tryz.underlying182
 a127:=Tryz.isAgg182
 z127:=Tryz.sizeOf182
 v127:=Tryz.zeroValue182
 t138:=Tryz.underlying193
 a138:=Tryz.isAgg193
 z138:=Tryz.sizeOf193
 v138:=Tryz.zeroValue193
 t139:=Tryz.underlying194
 a139:=Tryz.isAgg194
 z139:=Tryz.sizeOf194
 v139:=Tryz.zeroValue194
 t146:=Tryz.underlying204
 a146:=Tryz.isAgg204
 z146:=Tryz.sizeOf204
 v146:=Tryz.zeroValue204
 t164:=Tryz.underlying187
 a164:=Tryz.isAgg187
 z164:=Tryz.sizeOf187
 v164:=Tryz.zeroValue187
 g1:=by kernel_rfl
 g3:=by kernel_rfl
 g4:=by kernel_rfl }
theorem Tryz.Builder_Extra_155:Builder.Extra Tryz.prog Tryz.lays155_ren:={
 sizeBuilder:=by kernel_rfl
 liesBuilder:=by kernel_rfl
 t5:=Tryz.underlying5
 a5:=Tryz.isAgg5
 z5:=Tryz.sizeOf5
 v5:=Tryz.zeroValue5
 infoByte:=by kernel_rfl
 cellsByte:=by kernel_rfl
 sizeByte:=by kernel_rfl
 neB5:=by decide }
open Go.RowKit Go.Lib in
theorem Tryz.strings_ReplaceAll (s old new:ByteArray) (m:Int) (w:World) (hs:s.size < 4294967281) (hm:w.cell? ⟨0,0,none⟩=some (.int .i64 m)) (h1:1≤old.size) (hlen:s.size + Lib.countB s old * new.size≤140737488355328) :
 Calls Tryz.prog 67 #[.string s,.string old,.string new] w fun e w' =>
  e=.returned (.string ⟨(Lib.replaceAll s.data.toList old.data.toList new.data.toList).toArray⟩)∧Below w.heap.size w w':=Any.strings_ReplaceAll Tryz.lays155 Tryz.Builder_Extra_155 s old new m w hs hm h1 hlen
end Go.Proofs
namespace Go.Proofs.YtoegpkmhifmamaaGreatDoor
open Go Go.RowKit
def RInt (k:IntKind) (x:Int) (cs:List Value):Prop:=cs=[.int k x]
def atG (x:Bool) (cs:List Value):Prop:=cs=[.bool x]
def RStr (x:ByteArray) (cs:List Value):Prop:=cs=[.string x]∧x.size≤140737488355328
def RSlE (α:Type) (R:KH→α→List Value→Prop) (size bytes:Nat) (K:KH) (xs:List α) (cs:List Value):Prop:=∃ A c,cs=[.slice A xs.length c]∧RSl α (R K) size bytes K A c xs
theorem RInt.one {k:IntKind} {x:Int} {cs:List Value} (h:RInt k x cs):cs.all (fun u=>u.oneCell')=true:=by cases h; rfl
theorem atG.one {x:Bool} {cs:List Value} (h:atG x cs):cs.all (fun u=>u.oneCell')=true:=by cases h; rfl
theorem RStr.one {x:ByteArray} {cs:List Value} (h:RStr x cs):cs.all (fun u=>u.oneCell')=true:=by cases h.1; rfl
theorem RSlE.one {α:Type} {R:KH→α→List Value→Prop} {size bytes:Nat} {K:KH} {xs:List α} {cs:List Value} (h:RSlE α R size bytes K xs cs):cs.all (fun u=>u.oneCell')=true:=by obtain ⟨A,c,rfl,_⟩:=h; rfl
theorem RSlE.mono {α:Type} {R:KH→α→List Value→Prop} {size bytes:Nat} {K K' : KH} {xs:List α} {cs:List Value} (hR : ∀ {K K' : KH},K.sub K'→∀ x cs,R K x cs→R K' x cs) (hs:K.sub K') (h:RSlE α R size bytes K xs cs):RSlE α R size bytes K' xs cs:=by
 obtain ⟨A,c,h1,h2⟩:=h;exact ⟨A,c,h1,h2.mono hs (hR hs)⟩
inductive aal where
 | mk (f0:Int) (f1:Int) (f2:ByteArray) (f3:Int) (f4:(List aal))
instance:Inhabited aal:=⟨.mk default default default default default⟩
inductive aam (K:KH):aal→List Value→Prop
 | mk {x_0:Int} {x_1:Int} {x_2:ByteArray} {x_3:Int} {x_4:(List aal)} {Ax_4:Option Addr} {cx_4:Nat} (sx_2:x_2.size≤140737488355328) (bx_4 ox_4:Nat) (csx_4:Nat→List Value) (h1x_4:x_4.length≤cx_4) (h2x_4:x_4.length * 64≤140737488355328) (h3x_4:x_4 ≠ []→Ax_4=some ⟨bx_4,ox_4,none⟩) (h4x_4 : ∀ i,i < x_4.length→(csx_4 i).length=5∧afr (K.cell bx_4) (ox_4 + i * 5) (csx_4 i)) (h5x_4 : ∀ i y,x_4[i]?=some y→aam K y (csx_4 i)):aam K (.mk x_0 x_1 x_2 x_3 x_4) [.int .i64 x_0,.int .i64 x_1,.string x_2,.int .i64 x_3,.slice Ax_4 x_4.length cx_4]
theorem aam.mono {K K' : KH} (hs:K.sub K') : ∀ {x:aal} {cs:List Value},aam K x cs→aam K' x cs
 | _,_,.mk sx_2 bx_4 ox_4 csx_4 h1x_4 h2x_4 h3x_4 h4x_4 h5x_4=>.mk sx_2 bx_4 ox_4 csx_4 h1x_4 h2x_4 h3x_4 (fun i hi=>⟨(h4x_4 i hi).1,fun j v hj=>hs.cell ((h4x_4 i hi).2 j v hj)⟩) (fun i y hy=>aam.mono hs (h5x_4 i y hy))
theorem aam.open {K:KH} {x_0:Int} {x_1:Int} {x_2:ByteArray} {x_3:Int} {x_4:(List aal)} {cs:List Value} (h:aam K (.mk x_0 x_1 x_2 x_3 x_4) cs) : ∃ (Ax_4:Option Addr) (cx_4:Nat),cs=[.int .i64 x_0,.int .i64 x_1,.string x_2,.int .i64 x_3,.slice Ax_4 x_4.length cx_4]∧x_2.size≤140737488355328∧RSl aal (aam K) 5 64 K Ax_4 cx_4 x_4:=by
 cases h with
 | mk sx_2 bx_4 ox_4 csx_4 h1x_4 h2x_4 h3x_4 h4x_4 h5x_4=>exact ⟨_,_,rfl,sx_2,⟨h1x_4,h2x_4,bx_4,ox_4,csx_4,h3x_4,h4x_4,h5x_4⟩⟩
theorem aam.intro {K:KH} {x_0:Int} {x_1:Int} {x_2:ByteArray} {x_3:Int} {x_4:(List aal)} {Ax_4:Option Addr} {cx_4:Nat} (h0:x_2.size≤140737488355328) (h1:RSl aal (aam K) 5 64 K Ax_4 cx_4 x_4):aam K (.mk x_0 x_1 x_2 x_3 x_4) [.int .i64 x_0,.int .i64 x_1,.string x_2,.int .i64 x_3,.slice Ax_4 x_4.length cx_4]:=by
 obtain ⟨h1x_4,h2x_4,bx_4,ox_4,csx_4,h3x_4,h4x_4,h5x_4⟩:=h1;exact .mk h0 bx_4 ox_4 csx_4 h1x_4 h2x_4 h3x_4 h4x_4 h5x_4
theorem aam.one {K:KH} {x:aal} {cs:List Value} (h:aam K x cs):cs.all (fun u=>u.oneCell')=true:=by cases h; rfl
theorem aam.size {K:KH} {x:aal} {cs:List Value} (h:aam K x cs):cs.length=5:=by cases h; rfl
mutual
inductive aag where
 | mk (f0:Int) (f1:ByteArray) (f2:Int) (f3:ByteArray) (f4:Int) (f5:Int) (f6:(List aal)) (f7:(List aag)) (f8:(List aag)) (f9:(List aag)) (f10:(List aaz))
inductive aaz where
 | mk (f0:Int) (f1:ByteArray) (f2:Int) (f3:(List aal)) (f4:(List aag))
end
instance:Inhabited aag:=⟨.mk default default default default default default default default default default default⟩
instance:Inhabited aaz:=⟨.mk default default default default default⟩
mutual
inductive aaj (K:KH):aag→List Value→Prop
 | mk {x_0:Int} {x_1:ByteArray} {x_2:Int} {x_3:ByteArray} {x_4:Int} {x_5:Int} {x_6:(List aal)} {x_7:(List aag)} {x_8:(List aag)} {x_9:(List aag)} {x_10:(List aaz)} {Ax_6:Option Addr} {cx_6:Nat} {Ax_7:Option Addr} {cx_7:Nat} {Ax_8:Option Addr} {cx_8:Nat} {Ax_9:Option Addr} {cx_9:Nat} {Ax_10:Option Addr} {cx_10:Nat} (sx_1:x_1.size≤140737488355328) (sx_3:x_3.size≤140737488355328) (rx_6:RSl aal (aam K) 5 64 K Ax_6 cx_6 x_6) (bx_7 ox_7:Nat) (csx_7:Nat→List Value) (h1x_7:x_7.length≤cx_7) (h2x_7:x_7.length * 184≤140737488355328) (h3x_7:x_7 ≠ []→Ax_7=some ⟨bx_7,ox_7,none⟩) (h4x_7 : ∀ i,i < x_7.length→(csx_7 i).length=11∧afr (K.cell bx_7) (ox_7 + i * 11) (csx_7 i)) (h5x_7 : ∀ i y,x_7[i]?=some y→aaj K y (csx_7 i)) (bx_8 ox_8:Nat) (csx_8:Nat→List Value) (h1x_8:x_8.length≤cx_8) (h2x_8:x_8.length * 184≤140737488355328) (h3x_8:x_8 ≠ []→Ax_8=some ⟨bx_8,ox_8,none⟩) (h4x_8 : ∀ i,i < x_8.length→(csx_8 i).length=11∧afr (K.cell bx_8) (ox_8 + i * 11) (csx_8 i)) (h5x_8 : ∀ i y,x_8[i]?=some y→aaj K y (csx_8 i)) (bx_9 ox_9:Nat) (csx_9:Nat→List Value) (h1x_9:x_9.length≤cx_9) (h2x_9:x_9.length * 184≤140737488355328) (h3x_9:x_9 ≠ []→Ax_9=some ⟨bx_9,ox_9,none⟩) (h4x_9 : ∀ i,i < x_9.length→(csx_9 i).length=11∧afr (K.cell bx_9) (ox_9 + i * 11) (csx_9 i)) (h5x_9 : ∀ i y,x_9[i]?=some y→aaj K y (csx_9 i)) (bx_10 ox_10:Nat) (csx_10:Nat→List Value) (h1x_10:x_10.length≤cx_10) (h2x_10:x_10.length * 80≤140737488355328) (h3x_10:x_10 ≠ []→Ax_10=some ⟨bx_10,ox_10,none⟩) (h4x_10 : ∀ i,i < x_10.length→(csx_10 i).length=5∧afr (K.cell bx_10) (ox_10 + i * 5) (csx_10 i)) (h5x_10 : ∀ i y,x_10[i]?=some y→aaI K y (csx_10 i)):aaj K (.mk x_0 x_1 x_2 x_3 x_4 x_5 x_6 x_7 x_8 x_9 x_10) [.int .i64 x_0,.string x_1,.int .i64 x_2,.string x_3,.int .i64 x_4,.int .i64 x_5,.slice Ax_6 x_6.length cx_6,.slice Ax_7 x_7.length cx_7,.slice Ax_8 x_8.length cx_8,.slice Ax_9 x_9.length cx_9,.slice Ax_10 x_10.length cx_10]
inductive aaI (K:KH):aaz→List Value→Prop
 | mk {x_0:Int} {x_1:ByteArray} {x_2:Int} {x_3:(List aal)} {x_4:(List aag)} {Ax_3:Option Addr} {cx_3:Nat} {Ax_4:Option Addr} {cx_4:Nat} (sx_1:x_1.size≤140737488355328) (rx_3:RSl aal (aam K) 5 64 K Ax_3 cx_3 x_3) (bx_4 ox_4:Nat) (csx_4:Nat→List Value) (h1x_4:x_4.length≤cx_4) (h2x_4:x_4.length * 184≤140737488355328) (h3x_4:x_4 ≠ []→Ax_4=some ⟨bx_4,ox_4,none⟩) (h4x_4 : ∀ i,i < x_4.length→(csx_4 i).length=11∧afr (K.cell bx_4) (ox_4 + i * 11) (csx_4 i)) (h5x_4 : ∀ i y,x_4[i]?=some y→aaj K y (csx_4 i)):aaI K (.mk x_0 x_1 x_2 x_3 x_4) [.int .i64 x_0,.string x_1,.int .i64 x_2,.slice Ax_3 x_3.length cx_3,.slice Ax_4 x_4.length cx_4]
end
mutual
theorem aaj.mono {K K' : KH} (hs:K.sub K') : ∀ {x:aag} {cs:List Value},aaj K x cs→aaj K' x cs
 | _,_,.mk sx_1 sx_3 rx_6 bx_7 ox_7 csx_7 h1x_7 h2x_7 h3x_7 h4x_7 h5x_7 bx_8 ox_8 csx_8 h1x_8 h2x_8 h3x_8 h4x_8 h5x_8 bx_9 ox_9 csx_9 h1x_9 h2x_9 h3x_9 h4x_9 h5x_9 bx_10 ox_10 csx_10 h1x_10 h2x_10 h3x_10 h4x_10 h5x_10=>.mk sx_1 sx_3 (rx_6.mono hs (fun _ _ h=>aam.mono hs h)) bx_7 ox_7 csx_7 h1x_7 h2x_7 h3x_7 (fun i hi=>⟨(h4x_7 i hi).1,fun j v hj=>hs.cell ((h4x_7 i hi).2 j v hj)⟩) (fun i y hy=>aaj.mono hs (h5x_7 i y hy)) bx_8 ox_8 csx_8 h1x_8 h2x_8 h3x_8 (fun i hi=>⟨(h4x_8 i hi).1,fun j v hj=>hs.cell ((h4x_8 i hi).2 j v hj)⟩) (fun i y hy=>aaj.mono hs (h5x_8 i y hy)) bx_9 ox_9 csx_9 h1x_9 h2x_9 h3x_9 (fun i hi=>⟨(h4x_9 i hi).1,fun j v hj=>hs.cell ((h4x_9 i hi).2 j v hj)⟩) (fun i y hy=>aaj.mono hs (h5x_9 i y hy)) bx_10 ox_10 csx_10 h1x_10 h2x_10 h3x_10 (fun i hi=>⟨(h4x_10 i hi).1,fun j v hj=>hs.cell ((h4x_10 i hi).2 j v hj)⟩) (fun i y hy=>aaI.mono hs (h5x_10 i y hy))
theorem aaI.mono {K K' : KH} (hs:K.sub K') : ∀ {x:aaz} {cs:List Value},aaI K x cs→aaI K' x cs
 | _,_,.mk sx_1 rx_3 bx_4 ox_4 csx_4 h1x_4 h2x_4 h3x_4 h4x_4 h5x_4=>.mk sx_1 (rx_3.mono hs (fun _ _ h=>aam.mono hs h)) bx_4 ox_4 csx_4 h1x_4 h2x_4 h3x_4 (fun i hi=>⟨(h4x_4 i hi).1,fun j v hj=>hs.cell ((h4x_4 i hi).2 j v hj)⟩) (fun i y hy=>aaj.mono hs (h5x_4 i y hy))
end
theorem aaj.open {K:KH} {x_0:Int} {x_1:ByteArray} {x_2:Int} {x_3:ByteArray} {x_4:Int} {x_5:Int} {x_6:(List aal)} {x_7:(List aag)} {x_8:(List aag)} {x_9:(List aag)} {x_10:(List aaz)} {cs:List Value} (h:aaj K (.mk x_0 x_1 x_2 x_3 x_4 x_5 x_6 x_7 x_8 x_9 x_10) cs) : ∃ (Ax_6:Option Addr) (cx_6:Nat),∃ (Ax_7:Option Addr) (cx_7:Nat),∃ (Ax_8:Option Addr) (cx_8:Nat),∃ (Ax_9:Option Addr) (cx_9:Nat),∃ (Ax_10:Option Addr) (cx_10:Nat),cs=[.int .i64 x_0,.string x_1,.int .i64 x_2,.string x_3,.int .i64 x_4,.int .i64 x_5,.slice Ax_6 x_6.length cx_6,.slice Ax_7 x_7.length cx_7,.slice Ax_8 x_8.length cx_8,.slice Ax_9 x_9.length cx_9,.slice Ax_10 x_10.length cx_10]∧x_1.size≤140737488355328∧x_3.size≤140737488355328∧RSl aal (aam K) 5 64 K Ax_6 cx_6 x_6∧RSl aag (aaj K) 11 184 K Ax_7 cx_7 x_7∧RSl aag (aaj K) 11 184 K Ax_8 cx_8 x_8∧RSl aag (aaj K) 11 184 K Ax_9 cx_9 x_9∧RSl aaz (aaI K) 5 80 K Ax_10 cx_10 x_10:=by
 cases h with
 | mk sx_1 sx_3 rx_6 bx_7 ox_7 csx_7 h1x_7 h2x_7 h3x_7 h4x_7 h5x_7 bx_8 ox_8 csx_8 h1x_8 h2x_8 h3x_8 h4x_8 h5x_8 bx_9 ox_9 csx_9 h1x_9 h2x_9 h3x_9 h4x_9 h5x_9 bx_10 ox_10 csx_10 h1x_10 h2x_10 h3x_10 h4x_10 h5x_10=>exact ⟨_,_,_,_,_,_,_,_,_,_,rfl,sx_1,sx_3,rx_6,⟨h1x_7,h2x_7,bx_7,ox_7,csx_7,h3x_7,h4x_7,h5x_7⟩,⟨h1x_8,h2x_8,bx_8,ox_8,csx_8,h3x_8,h4x_8,h5x_8⟩,⟨h1x_9,h2x_9,bx_9,ox_9,csx_9,h3x_9,h4x_9,h5x_9⟩,⟨h1x_10,h2x_10,bx_10,ox_10,csx_10,h3x_10,h4x_10,h5x_10⟩⟩
theorem aaj.intro {K:KH} {x_0:Int} {x_1:ByteArray} {x_2:Int} {x_3:ByteArray} {x_4:Int} {x_5:Int} {x_6:(List aal)} {x_7:(List aag)} {x_8:(List aag)} {x_9:(List aag)} {x_10:(List aaz)} {Ax_6:Option Addr} {cx_6:Nat} {Ax_7:Option Addr} {cx_7:Nat} {Ax_8:Option Addr} {cx_8:Nat} {Ax_9:Option Addr} {cx_9:Nat} {Ax_10:Option Addr} {cx_10:Nat} (h0:x_1.size≤140737488355328) (h1:x_3.size≤140737488355328) (h2:RSl aal (aam K) 5 64 K Ax_6 cx_6 x_6) (h3:RSl aag (aaj K) 11 184 K Ax_7 cx_7 x_7) (h4:RSl aag (aaj K) 11 184 K Ax_8 cx_8 x_8) (h5:RSl aag (aaj K) 11 184 K Ax_9 cx_9 x_9) (h6:RSl aaz (aaI K) 5 80 K Ax_10 cx_10 x_10):aaj K (.mk x_0 x_1 x_2 x_3 x_4 x_5 x_6 x_7 x_8 x_9 x_10) [.int .i64 x_0,.string x_1,.int .i64 x_2,.string x_3,.int .i64 x_4,.int .i64 x_5,.slice Ax_6 x_6.length cx_6,.slice Ax_7 x_7.length cx_7,.slice Ax_8 x_8.length cx_8,.slice Ax_9 x_9.length cx_9,.slice Ax_10 x_10.length cx_10]:=by
 obtain ⟨h1x_7,h2x_7,bx_7,ox_7,csx_7,h3x_7,h4x_7,h5x_7⟩:=h3;obtain ⟨h1x_8,h2x_8,bx_8,ox_8,csx_8,h3x_8,h4x_8,h5x_8⟩:=h4;obtain ⟨h1x_9,h2x_9,bx_9,ox_9,csx_9,h3x_9,h4x_9,h5x_9⟩:=h5;obtain ⟨h1x_10,h2x_10,bx_10,ox_10,csx_10,h3x_10,h4x_10,h5x_10⟩:=h6;exact .mk h0 h1 h2 bx_7 ox_7 csx_7 h1x_7 h2x_7 h3x_7 h4x_7 h5x_7 bx_8 ox_8 csx_8 h1x_8 h2x_8 h3x_8 h4x_8 h5x_8 bx_9 ox_9 csx_9 h1x_9 h2x_9 h3x_9 h4x_9 h5x_9 bx_10 ox_10 csx_10 h1x_10 h2x_10 h3x_10 h4x_10 h5x_10
theorem aaj.one {K:KH} {x:aag} {cs:List Value} (h:aaj K x cs):cs.all (fun u=>u.oneCell')=true:=by cases h; rfl
theorem aaj.size {K:KH} {x:aag} {cs:List Value} (h:aaj K x cs):cs.length=11:=by cases h; rfl
theorem aaI.open {K:KH} {x_0:Int} {x_1:ByteArray} {x_2:Int} {x_3:(List aal)} {x_4:(List aag)} {cs:List Value} (h:aaI K (.mk x_0 x_1 x_2 x_3 x_4) cs) : ∃ (Ax_3:Option Addr) (cx_3:Nat),∃ (Ax_4:Option Addr) (cx_4:Nat),cs=[.int .i64 x_0,.string x_1,.int .i64 x_2,.slice Ax_3 x_3.length cx_3,.slice Ax_4 x_4.length cx_4]∧x_1.size≤140737488355328∧RSl aal (aam K) 5 64 K Ax_3 cx_3 x_3∧RSl aag (aaj K) 11 184 K Ax_4 cx_4 x_4:=by
 cases h with
 | mk sx_1 rx_3 bx_4 ox_4 csx_4 h1x_4 h2x_4 h3x_4 h4x_4 h5x_4=>exact ⟨_,_,_,_,rfl,sx_1,rx_3,⟨h1x_4,h2x_4,bx_4,ox_4,csx_4,h3x_4,h4x_4,h5x_4⟩⟩
theorem aaI.intro {K:KH} {x_0:Int} {x_1:ByteArray} {x_2:Int} {x_3:(List aal)} {x_4:(List aag)} {Ax_3:Option Addr} {cx_3:Nat} {Ax_4:Option Addr} {cx_4:Nat} (h0:x_1.size≤140737488355328) (h1:RSl aal (aam K) 5 64 K Ax_3 cx_3 x_3) (h2:RSl aag (aaj K) 11 184 K Ax_4 cx_4 x_4):aaI K (.mk x_0 x_1 x_2 x_3 x_4) [.int .i64 x_0,.string x_1,.int .i64 x_2,.slice Ax_3 x_3.length cx_3,.slice Ax_4 x_4.length cx_4]:=by
 obtain ⟨h1x_4,h2x_4,bx_4,ox_4,csx_4,h3x_4,h4x_4,h5x_4⟩:=h2;exact .mk h0 h1 bx_4 ox_4 csx_4 h1x_4 h2x_4 h3x_4 h4x_4 h5x_4
theorem aaI.one {K:KH} {x:aaz} {cs:List Value} (h:aaI K x cs):cs.all (fun u=>u.oneCell')=true:=by cases h; rfl
theorem aaI.size {K:KH} {x:aaz} {cs:List Value} (h:aaI K x cs):cs.length=5:=by cases h; rfl
inductive aaL where
 | mk (f0:ByteArray) (f1:Int)
instance:Inhabited aaL:=⟨.mk default default⟩
inductive aaV (K:KH):aaL→List Value→Prop
 | mk {x_0:ByteArray} {x_1:Int} (sx_0:x_0.size≤140737488355328):aaV K (.mk x_0 x_1) [.string x_0,.int .i64 x_1]
theorem aaV.mono {K K' : KH} (hs:K.sub K') : ∀ {x:aaL} {cs:List Value},aaV K x cs→aaV K' x cs
 | _,_,.mk sx_0=>.mk sx_0
theorem aaV.open {K:KH} {x_0:ByteArray} {x_1:Int} {cs:List Value} (h:aaV K (.mk x_0 x_1) cs):cs=[.string x_0,.int .i64 x_1]∧x_0.size≤140737488355328:=by
 cases h with
 | mk sx_0=>exact ⟨rfl,sx_0⟩
theorem aaV.intro {K:KH} {x_0:ByteArray} {x_1:Int} (h0:x_0.size≤140737488355328):aaV K (.mk x_0 x_1) [.string x_0,.int .i64 x_1]:=by
 exact .mk h0
theorem aaV.one {K:KH} {x:aaL} {cs:List Value} (h:aaV K x cs):cs.all (fun u=>u.oneCell')=true:=by cases h; rfl
theorem aaV.size {K:KH} {x:aaL} {cs:List Value} (h:aaV K x cs):cs.length=2:=by cases h; rfl
inductive aaf where
 | mk (f0:ByteArray) (f1:(List aaL)) (f2:Int) (f3:Bool) (f4:Int) (f5:(List aag))
instance:Inhabited aaf:=⟨.mk default default default default default default⟩
inductive aav (K:KH):aaf→List Value→Prop
 | mk {x_0:ByteArray} {x_1:(List aaL)} {x_2:Int} {x_3:Bool} {x_4:Int} {x_5:(List aag)} {Ax_1:Option Addr} {cx_1:Nat} {Ax_5:Option Addr} {cx_5:Nat} (sx_0:x_0.size≤140737488355328) (rx_1:RSl aaL (aaV K) 2 24 K Ax_1 cx_1 x_1) (rx_5:RSl aag (aaj K) 11 184 K Ax_5 cx_5 x_5):aav K (.mk x_0 x_1 x_2 x_3 x_4 x_5) [.string x_0,.slice Ax_1 x_1.length cx_1,.int .i64 x_2,.bool x_3,.int .i64 x_4,.slice Ax_5 x_5.length cx_5]
theorem aav.mono {K K' : KH} (hs:K.sub K') : ∀ {x:aaf} {cs:List Value},aav K x cs→aav K' x cs
 | _,_,.mk sx_0 rx_1 rx_5=>.mk sx_0 (rx_1.mono hs (fun _ _ h=>aaV.mono hs h)) (rx_5.mono hs (fun _ _ h=>aaj.mono hs h))
theorem aav.open {K:KH} {x_0:ByteArray} {x_1:(List aaL)} {x_2:Int} {x_3:Bool} {x_4:Int} {x_5:(List aag)} {cs:List Value} (h:aav K (.mk x_0 x_1 x_2 x_3 x_4 x_5) cs) : ∃ (Ax_1:Option Addr) (cx_1:Nat),∃ (Ax_5:Option Addr) (cx_5:Nat),cs=[.string x_0,.slice Ax_1 x_1.length cx_1,.int .i64 x_2,.bool x_3,.int .i64 x_4,.slice Ax_5 x_5.length cx_5]∧x_0.size≤140737488355328∧RSl aaL (aaV K) 2 24 K Ax_1 cx_1 x_1∧RSl aag (aaj K) 11 184 K Ax_5 cx_5 x_5:=by
 cases h with
 | mk sx_0 rx_1 rx_5=>exact ⟨_,_,_,_,rfl,sx_0,rx_1,rx_5⟩
theorem aav.intro {K:KH} {x_0:ByteArray} {x_1:(List aaL)} {x_2:Int} {x_3:Bool} {x_4:Int} {x_5:(List aag)} {Ax_1:Option Addr} {cx_1:Nat} {Ax_5:Option Addr} {cx_5:Nat} (h0:x_0.size≤140737488355328) (h1:RSl aaL (aaV K) 2 24 K Ax_1 cx_1 x_1) (h2:RSl aag (aaj K) 11 184 K Ax_5 cx_5 x_5):aav K (.mk x_0 x_1 x_2 x_3 x_4 x_5) [.string x_0,.slice Ax_1 x_1.length cx_1,.int .i64 x_2,.bool x_3,.int .i64 x_4,.slice Ax_5 x_5.length cx_5]:=by
 exact .mk h0 h1 h2
theorem aav.one {K:KH} {x:aaf} {cs:List Value} (h:aav K x cs):cs.all (fun u=>u.oneCell')=true:=by cases h; rfl
theorem aav.size {K:KH} {x:aaf} {cs:List Value} (h:aav K x cs):cs.length=6:=by cases h; rfl
inductive aaC where
 | mk (f0:Int) (f1:Bool) (f2:Int) (f3:Int) (f4:Bool)
instance:Inhabited aaC:=⟨.mk default default default default default⟩
inductive aaD (K:KH):aaC→List Value→Prop
 | mk {x_0:Int} {x_1:Bool} {x_2:Int} {x_3:Int} {x_4:Bool}  : aaD K (.mk x_0 x_1 x_2 x_3 x_4) [.int .i64 x_0,.bool x_1,.int .i64 x_2,.int .i64 x_3,.bool x_4]
theorem aaD.mono {K K' : KH} (hs:K.sub K') : ∀ {x:aaC} {cs:List Value},aaD K x cs→aaD K' x cs
 | _,_,.mk =>.mk
theorem aaD.open {K:KH} {x_0:Int} {x_1:Bool} {x_2:Int} {x_3:Int} {x_4:Bool} {cs:List Value} (h:aaD K (.mk x_0 x_1 x_2 x_3 x_4) cs):cs=[.int .i64 x_0,.bool x_1,.int .i64 x_2,.int .i64 x_3,.bool x_4]:=by
 cases h with
 | mk=>rfl
theorem aaD.intro {K:KH} {x_0:Int} {x_1:Bool} {x_2:Int} {x_3:Int} {x_4:Bool}  : aaD K (.mk x_0 x_1 x_2 x_3 x_4) [.int .i64 x_0,.bool x_1,.int .i64 x_2,.int .i64 x_3,.bool x_4]:=by
 exact .mk
theorem aaD.one {K:KH} {x:aaC} {cs:List Value} (h:aaD K x cs):cs.all (fun u=>u.oneCell')=true:=by cases h; rfl
theorem aaD.size {K:KH} {x:aaC} {cs:List Value} (h:aaD K x cs):cs.length=5:=by cases h; rfl
inductive aac where
 | mk (f0:Int) (f1:Int) (f2:Bool)
instance:Inhabited aac:=⟨.mk default default default⟩
inductive abQ (K:KH):aac→List Value→Prop
 | mk {x_0:Int} {x_1:Int} {x_2:Bool}  : abQ K (.mk x_0 x_1 x_2) [.int .i64 x_0,.int .i64 x_1,.bool x_2]
theorem abQ.mono {K K' : KH} (hs:K.sub K') : ∀ {x:aac} {cs:List Value},abQ K x cs→abQ K' x cs
 | _,_,.mk =>.mk
theorem abQ.open {K:KH} {x_0:Int} {x_1:Int} {x_2:Bool} {cs:List Value} (h:abQ K (.mk x_0 x_1 x_2) cs):cs=[.int .i64 x_0,.int .i64 x_1,.bool x_2]:=by
 cases h with
 | mk=>rfl
theorem abQ.intro {K:KH} {x_0:Int} {x_1:Int} {x_2:Bool}  : abQ K (.mk x_0 x_1 x_2) [.int .i64 x_0,.int .i64 x_1,.bool x_2]:=by
 exact .mk
theorem abQ.one {K:KH} {x:aac} {cs:List Value} (h:abQ K x cs):cs.all (fun u=>u.oneCell')=true:=by cases h; rfl
theorem abQ.size {K:KH} {x:aac} {cs:List Value} (h:abQ K x cs):cs.length=3:=by cases h; rfl
inductive aaa where
 | mk (f0:(List aaf))
instance:Inhabited aaa:=⟨.mk default⟩
inductive aah (K:KH):aaa→List Value→Prop
 | mk {x_0:(List aaf)} {Ax_0:Option Addr} {cx_0:Nat} (rx_0:RSl aaf (aav K) 6 88 K Ax_0 cx_0 x_0):aah K (.mk x_0) [.slice Ax_0 x_0.length cx_0]
theorem aah.mono {K K' : KH} (hs:K.sub K') : ∀ {x:aaa} {cs:List Value},aah K x cs→aah K' x cs
 | _,_,.mk rx_0=>.mk (rx_0.mono hs (fun _ _ h=>aav.mono hs h))
theorem aah.open {K:KH} {x_0:(List aaf)} {cs:List Value} (h:aah K (.mk x_0) cs) : ∃ (Ax_0:Option Addr) (cx_0:Nat),cs=[.slice Ax_0 x_0.length cx_0]∧RSl aaf (aav K) 6 88 K Ax_0 cx_0 x_0:=by
 cases h with
 | mk rx_0=>exact ⟨_,_,rfl,rx_0⟩
theorem aah.intro {K:KH} {x_0:(List aaf)} {Ax_0:Option Addr} {cx_0:Nat} (h0:RSl aaf (aav K) 6 88 K Ax_0 cx_0 x_0):aah K (.mk x_0) [.slice Ax_0 x_0.length cx_0]:=by
 exact .mk h0
theorem aah.one {K:KH} {x:aaa} {cs:List Value} (h:aah K x cs):cs.all (fun u=>u.oneCell')=true:=by cases h; rfl
theorem aah.size {K:KH} {x:aaa} {cs:List Value} (h:aah K x cs):cs.length=1:=by cases h; rfl
inductive aab where
 | mk (f0:aaa) (f1:aaf) (f2:(List ByteArray)) (f3:(List (List (ByteArray × Int)))) (f4:Int)
instance:Inhabited aab:=⟨.mk default default default default default⟩
inductive aaB where
 | mk (f0:(List Int)) (f1:Int)
instance:Inhabited aaB:=⟨.mk default default⟩
inductive aap (K:KH):aaB→List Value→Prop
 | mk {x_0:(List Int)} {x_1:Int} {Ax_0:Option Addr} {cx_0:Nat} (rx_0:RSl Int (RInt .i64) 1 8 K Ax_0 cx_0 x_0):aap K (.mk x_0 x_1) [.slice Ax_0 x_0.length cx_0,.int .i64 x_1]
theorem aap.mono {K K' : KH} (hs:K.sub K') : ∀ {x:aaB} {cs:List Value},aap K x cs→aap K' x cs
 | _,_,.mk rx_0=>.mk (rx_0.mono hs (fun _ _ h=>h))
theorem aap.open {K:KH} {x_0:(List Int)} {x_1:Int} {cs:List Value} (h:aap K (.mk x_0 x_1) cs) : ∃ (Ax_0:Option Addr) (cx_0:Nat),cs=[.slice Ax_0 x_0.length cx_0,.int .i64 x_1]∧RSl Int (RInt .i64) 1 8 K Ax_0 cx_0 x_0:=by
 cases h with
 | mk rx_0=>exact ⟨_,_,rfl,rx_0⟩
theorem aap.intro {K:KH} {x_0:(List Int)} {x_1:Int} {Ax_0:Option Addr} {cx_0:Nat} (h0:RSl Int (RInt .i64) 1 8 K Ax_0 cx_0 x_0):aap K (.mk x_0 x_1) [.slice Ax_0 x_0.length cx_0,.int .i64 x_1]:=by
 exact .mk h0
theorem aap.one {K:KH} {x:aaB} {cs:List Value} (h:aap K x cs):cs.all (fun u=>u.oneCell')=true:=by cases h; rfl
theorem aap.size {K:KH} {x:aaB} {cs:List Value} (h:aap K x cs):cs.length=2:=by cases h; rfl
inductive aak where
 | mk (f0:aaa) (f1:aaf) (f2:(List Int))
instance:Inhabited aak:=⟨.mk default default default⟩
inductive abR (K:KH):aak→List Value→Prop
 | mk {x_0_0:(List aaf)} {x_1_0:ByteArray} {x_1_1:(List aaL)} {x_1_2:Int} {x_1_3:Bool} {x_1_4:Int} {x_1_5:(List aag)} {x_2:(List Int)} {Ax_0_0:Option Addr} {cx_0_0:Nat} {Ax_1_1:Option Addr} {cx_1_1:Nat} {Ax_1_5:Option Addr} {cx_1_5:Nat} {Ax_2:Option Addr} {cx_2:Nat} (rx_0_0:RSl aaf (aav K) 6 88 K Ax_0_0 cx_0_0 x_0_0) (sx_1_0:x_1_0.size≤140737488355328) (rx_1_1:RSl aaL (aaV K) 2 24 K Ax_1_1 cx_1_1 x_1_1) (rx_1_5:RSl aag (aaj K) 11 184 K Ax_1_5 cx_1_5 x_1_5) (rx_2:RSl Int (RInt .i64) 1 8 K Ax_2 cx_2 x_2):abR K (.mk (.mk x_0_0) (.mk x_1_0 x_1_1 x_1_2 x_1_3 x_1_4 x_1_5) x_2) [.slice Ax_0_0 x_0_0.length cx_0_0,.string x_1_0,.slice Ax_1_1 x_1_1.length cx_1_1,.int .i64 x_1_2,.bool x_1_3,.int .i64 x_1_4,.slice Ax_1_5 x_1_5.length cx_1_5,.slice Ax_2 x_2.length cx_2]
theorem abR.mono {K K' : KH} (hs:K.sub K') : ∀ {x:aak} {cs:List Value},abR K x cs→abR K' x cs
 | _,_,.mk rx_0_0 sx_1_0 rx_1_1 rx_1_5 rx_2=>.mk (rx_0_0.mono hs (fun _ _ h=>aav.mono hs h)) sx_1_0 (rx_1_1.mono hs (fun _ _ h=>aaV.mono hs h)) (rx_1_5.mono hs (fun _ _ h=>aaj.mono hs h)) (rx_2.mono hs (fun _ _ h=>h))
theorem abR.open {K:KH} {x_0_0:(List aaf)} {x_1_0:ByteArray} {x_1_1:(List aaL)} {x_1_2:Int} {x_1_3:Bool} {x_1_4:Int} {x_1_5:(List aag)} {x_2:(List Int)} {cs:List Value} (h:abR K (.mk (.mk x_0_0) (.mk x_1_0 x_1_1 x_1_2 x_1_3 x_1_4 x_1_5) x_2) cs) : ∃ (Ax_0_0:Option Addr) (cx_0_0:Nat),∃ (Ax_1_1:Option Addr) (cx_1_1:Nat),∃ (Ax_1_5:Option Addr) (cx_1_5:Nat),∃ (Ax_2:Option Addr) (cx_2:Nat),cs=[.slice Ax_0_0 x_0_0.length cx_0_0,.string x_1_0,.slice Ax_1_1 x_1_1.length cx_1_1,.int .i64 x_1_2,.bool x_1_3,.int .i64 x_1_4,.slice Ax_1_5 x_1_5.length cx_1_5,.slice Ax_2 x_2.length cx_2]∧RSl aaf (aav K) 6 88 K Ax_0_0 cx_0_0 x_0_0∧x_1_0.size≤140737488355328∧RSl aaL (aaV K) 2 24 K Ax_1_1 cx_1_1 x_1_1∧RSl aag (aaj K) 11 184 K Ax_1_5 cx_1_5 x_1_5∧RSl Int (RInt .i64) 1 8 K Ax_2 cx_2 x_2:=by
 cases h with
 | mk rx_0_0 sx_1_0 rx_1_1 rx_1_5 rx_2=>exact ⟨_,_,_,_,_,_,_,_,rfl,rx_0_0,sx_1_0,rx_1_1,rx_1_5,rx_2⟩
theorem abR.intro {K:KH} {x_0_0:(List aaf)} {x_1_0:ByteArray} {x_1_1:(List aaL)} {x_1_2:Int} {x_1_3:Bool} {x_1_4:Int} {x_1_5:(List aag)} {x_2:(List Int)} {Ax_0_0:Option Addr} {cx_0_0:Nat} {Ax_1_1:Option Addr} {cx_1_1:Nat} {Ax_1_5:Option Addr} {cx_1_5:Nat} {Ax_2:Option Addr} {cx_2:Nat} (h0:RSl aaf (aav K) 6 88 K Ax_0_0 cx_0_0 x_0_0) (h1:x_1_0.size≤140737488355328) (h2:RSl aaL (aaV K) 2 24 K Ax_1_1 cx_1_1 x_1_1) (h3:RSl aag (aaj K) 11 184 K Ax_1_5 cx_1_5 x_1_5) (h4:RSl Int (RInt .i64) 1 8 K Ax_2 cx_2 x_2):abR K (.mk (.mk x_0_0) (.mk x_1_0 x_1_1 x_1_2 x_1_3 x_1_4 x_1_5) x_2) [.slice Ax_0_0 x_0_0.length cx_0_0,.string x_1_0,.slice Ax_1_1 x_1_1.length cx_1_1,.int .i64 x_1_2,.bool x_1_3,.int .i64 x_1_4,.slice Ax_1_5 x_1_5.length cx_1_5,.slice Ax_2 x_2.length cx_2]:=by
 exact .mk h0 h1 h2 h3 h4
theorem abR.one {K:KH} {x:aak} {cs:List Value} (h:abR K x cs):cs.all (fun u=>u.oneCell')=true:=by cases h; rfl
theorem abR.size {K:KH} {x:aak} {cs:List Value} (h:abR K x cs):cs.length=8:=by cases h; rfl
inductive aaH where
 | mk (f0:Int) (f1:Int) (f2:ByteArray)
instance:Inhabited aaH:=⟨.mk default default default⟩
inductive aaJ (K:KH):aaH→List Value→Prop
 | mk {x_0:Int} {x_1:Int} {x_2:ByteArray} (sx_2:x_2.size≤140737488355328):aaJ K (.mk x_0 x_1 x_2) [.int .i64 x_0,.int .i64 x_1,.string x_2]
theorem aaJ.mono {K K' : KH} (hs:K.sub K') : ∀ {x:aaH} {cs:List Value},aaJ K x cs→aaJ K' x cs
 | _,_,.mk sx_2=>.mk sx_2
theorem aaJ.open {K:KH} {x_0:Int} {x_1:Int} {x_2:ByteArray} {cs:List Value} (h:aaJ K (.mk x_0 x_1 x_2) cs):cs=[.int .i64 x_0,.int .i64 x_1,.string x_2]∧x_2.size≤140737488355328:=by
 cases h with
 | mk sx_2=>exact ⟨rfl,sx_2⟩
theorem aaJ.intro {K:KH} {x_0:Int} {x_1:Int} {x_2:ByteArray} (h0:x_2.size≤140737488355328):aaJ K (.mk x_0 x_1 x_2) [.int .i64 x_0,.int .i64 x_1,.string x_2]:=by
 exact .mk h0
theorem aaJ.one {K:KH} {x:aaH} {cs:List Value} (h:aaJ K x cs):cs.all (fun u=>u.oneCell')=true:=by cases h; rfl
theorem aaJ.size {K:KH} {x:aaH} {cs:List Value} (h:aaJ K x cs):cs.length=3:=by cases h; rfl
def KW (w:World):KH:=fun b=>w.heap[b]?
theorem KW.sub {K:KH} {w:World} (h:K.le w):K.sub (KW w):=h
theorem Sx.all (w:World):Sx (KW w) (KW w) w w (fun b=>b ∈ Ents.blks []) [] :=
 (Sx.start0 (K:=KW w) (w:=w) (fun b o h=>h)).start
theorem Sx.lend {K0 K K' : KH} {w0 w w' : World} {M:Nat→Prop} {H:Ents} (S:Sx K0 K w0 w M H) (T:Sx (KW w) K' w w' (fun b=>b ∈ Ents.blks []) []):Sx K0 K w0 w' M H :=
 S.same (fun b hb=>T.ext b hb (by simp [Ents.blks])) T.size T.os T.tape T.output
theorem afz {α:Type} {R:α→List Value→Prop} {w:World} {base e size bytes c:Nat} {A:Option Addr} {xs:List α} {ys:List Value} (h:Ent.holds w (.row base (.slice A xs.length c) e size xs.length ys)) (hr:Reps R size xs ys) (hb:xs.length * bytes≤140737488355328) :
  RSl α R size bytes (KW w) A c xs:=by
 rcases h.2 with ⟨h1,h0⟩ | ⟨g,cap,cur,h1,_,hh,hc,_,_,h4⟩
 ·have:xs=[]:=List.eq_nil_of_length_eq_zero h0;subst this;injection h1 with e1 _ e3
  subst e1 e3;exact RSl.nil _ _ _ _ _ _
 ·injection h1 with e1 _ e3
  subst e1 e3;refine ⟨hc,hb,g,0,fun i=>(ys.drop (i * size)).take size,fun _=>rfl,fun i hi=>?_,fun i x hx=>(hr.at_ hx).2⟩;obtain ⟨x,hx⟩ : ∃ x,xs[i]?=some x:=⟨xs[i],by simp [hi]⟩;refine ⟨(hr.at_ hx).1,fun j u hj=>?_⟩;have hj' : j < size:=by
   have:=(List.getElem?_eq_some_iff.1 hj).1;simp at this; omega
  rw [List.getElem?_take_of_lt hj',List.getElem?_drop] at hj;have h5:ys=cur.toList.take (xs.length * size):=h4.symm;rw [h5] at hj;have h6:cur.toList[i * size + j]?=some u:=by
   have hlt:=(List.getElem?_eq_some_iff.1 hj).1;rw [List.length_take] at hlt
   rwa [List.getElem?_take_of_lt (by omega)] at hj
  unfold KH.cell KW;rw [hh];simpa using h6
section
variable {P:Program} {ops:Array Oper} {Q:Exit→Act→World→Prop} {rest:List Oper} {n:Nat} {σ:Nat→Value} {w:World} {ty:TypeId} {pos:String} {aft:Array Edge} {t:Tmp} {K0 K:KH} {w0:World} {M:Nat→Prop} {H:Ents}
theorem Sx.boxrowN {i base b e size m:Nat} {cs:Array Value} (S:Sx K0 K w0 w M H) (hi:H[i]?=some (.box base b cs e)) (hs:cs.size=m * size) (hm:m≤140737488355328):Sx K0 K w0 w M (H.set i (.row base (.slice (some ⟨b,0,none⟩) m m) e size m cs.toList)):=by
 have hh:w.heap[b]?=some (.cells cs e (0,0))∧base≤b:=S.entAt hi;obtain ⟨X,Y,rfl,h2,_⟩:=abs hi;rw [h2];exact S.turn (fun _ _ _=>rfl) (Nat.le_refl _) rfl rfl rfl ⟨by simp [hs],.inr ⟨b,m,cs,rfl,hh.2,hh.1,by omega,by simp [maxLen]; omega,by simp [hs],by rw [← hs]; exact List.take_of_length_le (by simp)⟩⟩ (.inl rfl)
theorem aid : ∀ q:Nat,Reps (RInt .i64) 1 (List.replicate q (0:Int)) (List.replicate q (.int .i64 0))
 | 0=>rfl
 | q + 1=>⟨[.int .i64 0],_,by simp [List.replicate_succ],rfl,rfl,aid q⟩
theorem ngR {a:Act} (h:Q .ret a w):Exit.noGoto Q .ret a w:=h
theorem agF (w:World) (base:Nat) (t t2 ty e:TypeId) (i:TypeInfo) (zc:Value) (bytes:Nat) (k2 k:IntKind) (ht:P.underlying t=some (.slice e)) (h2:P.underlying t2=some (.int k2)) (hi:P.info? e=some i) (hz:i.zero=some zc) (hsz:i.size=1) (hby:i.bytes=bytes) (hbp:0 < bytes)
  (hzc:zc.cells=#[zc]) (h1:zc.oneCell'=true) (v:Value) (n:Nat) (xs:List Value) (hown:w.ownsRow base e 1 v n xs) (m:Nat) (hbytes:(n + m) * bytes≤140737488355328) (hbase:base≤w.heap.size) :
  ∃ v' w',(Builtin.append_ #[t,t2] ty #[v,.int k m]).run P w=.ok v' w'∧w'.ownsRow base e 1 v' (n + m) (xs ++ List.replicate m zc)∧w.grownBy w' v.ownBlock∧(v'.ownBlock=v.ownBlock∨v'.ownBlock=some w.heap.size):=by
 subst hby
 have hzl : ∀ q,(Builtin.zeroCells #[zc] q).toList=List.replicate q zc:=by
  intro q;apply List.ext_getElem
  ·simp [Builtin.zeroCells]
  ·intro j h1 h2;simp [Builtin.zeroCells,Nat.mod_one]
 have hza : ∀ q,Builtin.zeroCells #[zc] q=(List.replicate q zc).toArray:=fun q=>by apply Array.ext'; rw [hzl]
 have hle:n + m≤140737488355328:=Nat.le_trans (Nat.le_mul_of_pos_right _ hbp) hbytes;have hmb:m * i.bytes≤140737488355328:=Nat.le_trans (Nat.mul_le_mul_right _ (Nat.le_add_left m n)) hbytes;have wm:IntKind.i64.wrap (m:Int)=(m:Int):=by unfold IntKind.wrap; simp [IntKind.bits,IntKind.signed]; omega
 have c1 : ¬ ((m:Int) < 0):=by omega
 have c2 : ¬ (281474976710656 < (m:Int) * (i.bytes:Int)):=by
  have:((m * i.bytes:Nat):Int)≤140737488355328:=by omega
  rw [Int.natCast_mul] at this; omega
 have hlen:(xs ++ List.replicate m zc).length=(n + m) * 1:=by rw [List.length_append,hown.1,List.length_replicate]; omega
 have grown : ∀ (old:Nat),old < n + m→∀ (row:Option Nat),
   (w.drew.alloc (.cells (xs.toArray ++ (List.replicate m zc).toArray ++ Builtin.zeroCells #[zc] (grownCap w (n + m) old e - (n + m))) e)).ownsRow base e 1
    (.slice (some ⟨w.heap.size,0,none⟩) (n + m) (grownCap w (n + m) old e)) (n + m) (xs ++ List.replicate m zc) ∧
   w.grownBy (w.drew.alloc (.cells (xs.toArray ++ (List.replicate m zc).toArray ++ Builtin.zeroCells #[zc] (grownCap w (n + m) old e - (n + m))) e)) row:=by
  intro old ho row;have hge:=grownCap_ge w (n + m) old e;have hcm:grownCap w (n + m) old e≤maxLen:=grownCap_le_maxLen w (n + m) old e (by simp [maxLen]; omega);refine ⟨⟨hlen,.inr ⟨w.heap.size,_,_,rfl,hbase,heap_alloc_new w.drew _,hge,hcm,?_,?_⟩⟩,⟨rfl,rfl,rfl,by simp,fun k hk _=>Go.heap_alloc_old w.drew _ hk⟩⟩
  ·simp only [Array.size_append,List.size_toArray,size_zeroCells,hown.1,List.length_replicate];simp;omega
  ·simp only [Array.toList_append,List.append_assoc];rw [← List.append_assoc,← hlen];exact List.take_left
 rcases hown.2 with ⟨rfl,rfl⟩ | ⟨g,cap,cur,rfl,hbg,hg,hnc,hcm,hcs,htake⟩
 ·have hx:xs=[]:=List.eq_nil_of_length_eq_zero (by simpa using hown.1);subst hx;by_cases hm:m=0
  ·subst hm;refine ⟨.slice none 0 0,w,?_,World.ownsRow_nil w base e 1,⟨rfl,rfl,rfl,Nat.le_refl _,fun _ _ _=>rfl⟩,Or.inl rfl⟩;simp [Builtin.append_,run_underlying ht,run_underlying h2,sizeOf,typeInfo,hi,asInt,asIntOf,hsz,IntKind.wrap,IntKind.bits,IntKind.signed]
  ·have hgr:=grown 0 (by omega) (Value.ownBlock (.slice none 0 0));simp only [Nat.zero_add,List.nil_append,Array.empty_append] at hgr ⊢;have d1 : ¬ (281474976710656 < Builtin.nextslicecap m 0 * i.bytes):=by rw [nextslicecap_zero (by omega)]; omega
   have d2 : ¬ (9223372036854775807 < (m:Int)):=by omega
   refine ⟨_,_,?_,hgr.1,hgr.2,Or.inr rfl⟩;simp [Builtin.append_,run_underlying ht,run_underlying h2,sizeOf,typeInfo,zeroValue,hi,hz,asInt,asIntOf,hsz,wm,c1,c2,hm,d1,d2,Question.forced,run_firstCells_none,newRow,grownCap,hzc,hza]
 ·by_cases hroom:n + m≤cap
  ·have hfit:n * 1 + (List.replicate m zc).length≤cur.size:=by rw [List.length_replicate,hcs]; omega
   have hst:=run_storeCells_at P g (n * 1) e (List.replicate m zc) 0 cur w hg (by simpa using hfit) (fun u hu=>by rw [List.eq_of_mem_replicate hu]; exact h1);simp only [Nat.add_zero] at hst;have hr:(Builtin.append_ #[t,t2] ty #[.slice (some ⟨g,0,none⟩) n cap,.int k m]).run P w=.ok (.slice (some ⟨g,0,none⟩) (n + m) cap) (w.setRow g (cur.toList.take (n * 1) ++ List.replicate m zc ++ cur.toList.drop (n * 1 + (List.replicate m zc).length)).toArray):=by
    by_cases hm:m=0
    ·subst hm;simp only [List.replicate_zero,Nat.mul_one] at hst;simp [Builtin.append_,run_underlying ht,run_underlying h2,sizeOf,typeInfo,hi,asInt,asIntOf,hsz,IntKind.wrap,IntKind.bits,IntKind.signed,hnc,Addr.add_lit,hst]
    ·simp only [Nat.mul_one] at hst;simp [Builtin.append_,run_underlying ht,run_underlying h2,sizeOf,typeInfo,zeroValue,hi,hz,asInt,asIntOf,hsz,wm,c1,c2,hm,hroom,hzc,hza,Addr.add_lit,hst]
   refine ⟨_,_,hr,⟨hlen,.inr ⟨g,cap,_,rfl,hbg,setRow_heap w g cur _ e _ hg,hroom,hcm,?_,?_⟩⟩,⟨rfl,rfl,rfl,by simp,fun k _ hk=>setRow_other w g k _ (fun e=>hk (by simp [Value.ownBlock,e]))⟩,Or.inl rfl⟩
   ·simp only [List.size_toArray,List.length_append,List.length_take,List.length_drop,Array.length_toList,List.length_replicate];omega
   ·rw [htake,← hlen];exact List.take_left
  ·have holds : ∀ j u,xs[j]?=some u→w.cell? ((⟨g,0,none⟩:Addr).add j)=some u:=hown.cells (g:=g) rfl;have hgr:=grown cap (by omega) (Value.ownBlock (.slice (some ⟨g,0,none⟩) n cap));have hm:m ≠ 0:=by omega
   have d1 : ¬ (281474976710656 < Builtin.nextslicecap (n + m) cap * i.bytes):=by have:=growslice_fits (need:=n + m) (old:=cap) (bytes:=i.bytes) (by omega) hbytes; omega
   have d2 : ¬ (9223372036854775807 < (n:Int) + (m:Int)):=by omega
   have hfo:=run_firstCells_some (P:=P) w.drew 1 n ⟨g,0,none⟩ n cap xs hown.1 (by simpa using holds);refine ⟨_,_,?_,hgr.1,hgr.2,Or.inr rfl⟩;simp [Builtin.append_,run_underlying ht,run_underlying h2,sizeOf,typeInfo,zeroValue,hi,hz,asInt,asIntOf,hsz,wm,c1,c2,hm,hroom,d1,d2,Question.forced,hfo,newRow,grownCap,hzc,hza]
theorem apZ {i:Nat} {x y:Operand} {st t2 e bytes:Nat} {k:IntKind} {base:Nat} {A:Option Addr} {c:Nat} {xs:List Int} {ys:List Value} {m:Int} (S:Sx K0 K w0 w M H) (hi:H[i]?=some (.row base (.slice A xs.length c) e 1 xs.length ys))
  (he:abP P st=some e) (h2:(aen P t2).isSome=true) (hf:(P.info? e).map (fun i=>(i.zero,i.size,i.bytes))=some (some (.int .i64 0),1,bytes)) (hbp:0 < bytes)
  (hx:ev n σ x=.slice A xs.length c) (hy:ev n σ y=.int k m) (hr:Reps (RInt .i64) 1 xs ys) (hbase:base≤w0.heap.size) (hm:0≤m∧(xs.length + m) * (bytes:Int)≤140737488355328)
  (h : ∀ A' c' ys' w',Sx K0 K w0 w' M (H.set i (.row base (.slice A' (xs ++ List.replicate m.toNat (0:Int)).length c') e 1 (xs ++ List.replicate m.toNat (0:Int)).length ys'))→Reps (RInt .i64) 1 (xs ++ List.replicate m.toNat (0:Int)) ys'→wpList P ops Q rest (fr n (upd σ t (.slice A' (xs ++ List.replicate m.toNat (0:Int)).length c'))) w') :
  wpList P ops Q (⟨some t,.call { callee:=.builtin .append,args:=#[x,y],argTypes:=#[st,t2] },ty,pos,aft,none⟩ :: rest) (fr n σ) w:=by
 obtain ⟨h0,hb⟩:=hm;obtain ⟨q,rfl⟩:=Int.eq_ofNat_of_zero_le h0;simp only [Int.toNat_natCast] at h;have hb' : (xs.length + q) * bytes≤140737488355328:=by
  have:(((xs.length + q) * bytes:Nat):Int)≤140737488355328:=by rw [Int.natCast_mul,Int.natCast_add]; exact hb
  omega
 have hlt:i < H.length:=(List.getElem?_eq_some_iff.1 hi).1;obtain ⟨k2,hk2⟩ : ∃ k,P.underlying t2=some (.int k):=by
  unfold aen at h2;split at h2
  ·rename_i k hk; exact ⟨k,hk⟩
  ·simp at h2
 cases hi0:P.info? e with
 | none=>rw [hi0] at hf; cases hf
 | some i0 =>
  rw [hi0] at hf;obtain ⟨hz,hsz,hby⟩:i0.zero=some (.int .i64 0)∧i0.size=1∧i0.bytes=bytes:=by simpa using hf
  have hrow:w.ownsRow base e 1 (.slice A xs.length c) xs.length ys:=S.entAt hi;obtain ⟨v',w',hrun,k3,k4,k5⟩:=agF (P:=P) w base st t2 ty e i0 (.int .i64 0) bytes k2 k (ab7 he) hk2 hi0 hz hsz hby hbp rfl rfl (.slice A xs.length c) xs.length ys hrow q hb' (Nat.le_trans hbase S.size);obtain ⟨X,Y,hH,hs,_⟩:=abs hi;have S' : Sx K0 K w0 w' M (H.set i (.row base v' e 1 (xs.length + q) (ys ++ List.replicate q (.int .i64 0)))):=by
   rw [hs];rw [hH] at S;refine S.turn (fun j hj hne=>k4.block j hj (fun e=>hne e.symm)) k4.size k4.os k4.tape k4.output k3 ?_;rcases k5 with k5 | k5
   ·exact .inl k5
   ·exact .inr k5
  obtain ⟨A',c',rfl⟩:=ahr (i:=i) S' (by rw [List.getElem?_set_self hlt]);have hz0:=aid q;refine aaZ (v:=.slice A' (xs.length + q) c') (w':=w') ?_ ?_
  ·simp only [execOp,resolve,invoke,builtin,Sem.run_bind,Sem.run_pure,Result.andThen_ok,List.map_toArray,List.map_cons,List.map_nil,hx,hy,hrun]
  ·have hlen2:xs.length + q=(xs ++ List.replicate q (0:Int)).length:=by simp
   rw [hlen2] at S' ⊢;exact h A' c' _ w' S' (hr.app hz0)
theorem abO {xs:List Int} {m:Int} {b:Nat} (h:0≤m∧(xs.length + m) * (b:Int)≤140737488355328):(xs ++ List.replicate m.toNat (0:Int)).length * b≤140737488355328:=by
 obtain ⟨h0,h1⟩:=h;obtain ⟨q,rfl⟩:=Int.eq_ofNat_of_zero_le h0;rw [List.length_append,List.length_replicate,Int.toNat_natCast];have:(((xs.length + q) * b:Nat):Int)≤140737488355328:=by rw [Int.natCast_mul,Int.natCast_add]; exact h1
 omega
theorem lk1N {κ ν:Type} {mt kt et:TypeId} {d:TypeDesc} {kv:κ→Value} {q:κ→κ→Bool} {R:ν→Value→Prop} {b clk:Nat} {es:Array MapEntry} {xs:List (κ × ν)} {k:κ} {z:Value} {m x:Operand} (hh:w.heap[b]?=some (.map es clk)) (hm:MpB P mt kt et=true) (hd:P.underlying kt=some d) (hk:KeyK d kv q) (hz:acR P et=some z) (hr:MapR kv R xs es.toList)
  (hmv:ev n σ m=.map (some b)) (hx:ev n σ x=kv k) (hg:mget q k xs=none)
  (h:wpList P ops Q rest (fr n (upd σ t z)) w):wpList P ops Q (⟨some t,.lookup mt m x false,ty,pos,aft,none⟩ :: rest) (fr n σ) w:=by
 have hl:(Instr.lookup mt (.map (some b)) (kv k) false).run P w=.ok z w:=by
  simp [Instr.lookup,run_underlying (af5 hm),Go.MapKept.run_getObj_map hh,Go.MapKept.run_checkKey (n:=9999) hd (hk.key k),Go.MapKept.run_findKey hd (ady hk 0 hr hg),acm hz]
 exact aaZ (v:=z) (by simp [execOp,hmv,hx,hl]) h
theorem lk1S {κ ν:Type} {mt kt et:TypeId} {d:TypeDesc} {kv:κ→Value} {q:κ→κ→Bool} {R:ν→Value→Prop} {b clk:Nat} {es:Array MapEntry} {xs:List (κ × ν)} {k:κ} {u:ν} {m x:Operand} (hh:w.heap[b]?=some (.map es clk)) (hm:MpB P mt kt et=true) (hd:P.underlying kt=some d) (hk:KeyK d kv q) (hr:MapR kv R xs es.toList)
  (hmv:ev n σ m=.map (some b)) (hx:ev n σ x=kv k) (hg:mget q k xs=some u)
  (h : ∀ v,R u v→wpList P ops Q rest (fr n (upd σ t v)) w):wpList P ops Q (⟨some t,.lookup mt m x false,ty,pos,aft,none⟩ :: rest) (fr n σ) w:=by
 obtain ⟨j,v,g1,g2,_⟩:=adx hk 0 hr hg;have hl:(Instr.lookup mt (.map (some b)) (kv k) false).run P w=.ok v w:=by
  simp [Instr.lookup,run_underlying (af5 hm),Go.MapKept.run_getObj_map hh,Go.MapKept.run_checkKey (n:=9999) hd (hk.key k),Go.MapKept.run_findKey hd g1]
 exact aaZ (v:=v) (by simp [execOp,hmv,hx,hl]) (h v g2)
def IisB (P:Program) (xt i j s:TypeId):Prop:=∃ f g e:Field,P.underlying xt=some (.struct #[f,g,e])∧f.name ≠ "_"∧g.name ≠ "_"∧e.name ≠ "_"∧f.type=i∧g.type=j∧e.type=s∧f.offset=0∧g.offset=1∧e.offset=2∧P.stoodInHeld xt=false∧P.eqGuardType P.depth xt=false∧P.underlying s=some .string∧(∃ k,P.underlying i=some (.int k))∧∃ k,P.underlying j=some (.int k)
def iisB (P:Program) (xt i j s:TypeId):Bool:=match P.underlying xt with
 | some (.struct fs)=>(match fs.toList with
  | [f,g,e]=>f.name != "_" && (g.name != "_" && (e.name != "_" && (f.type == i && (g.type == j && (e.type == s && (f.offset == 0 && (g.offset == 1 && (e.offset == 2 && (!P.stoodInHeld xt && (!P.eqGuardType P.depth xt && (StrB P s && ((aen P i).isSome && (aen P j).isSome))))))))))))
  | _=>false)
 | _=>false
theorem IisB.of {xt i j s:TypeId} (h:iisB P xt i j s=true):IisB P xt i j s:=by
 unfold iisB at h;split at h
 ·rename_i fs hu;split at h
  ·rename_i f g e hf;have hfs:fs=#[f,g,e]:=Array.toList_inj.1 hf;subst hfs;simp only [Bool.and_eq_true,Bool.not_eq_true',bne_iff_ne,beq_iff_eq] at h;obtain ⟨h1,h2,h3,h4,h5,h6,h7,h8,h9,h10,h11,h12,h13,h14⟩:=h;have hk : ∀ x,(aen P x).isSome=true→∃ k,P.underlying x=some (.int k):=by
    intro x hx;unfold aen at hx;split at hx
    ·rename_i k hk; exact ⟨k,hk⟩
    ·simp at hx
   exact ⟨f,g,e,hu,h1,h2,h3,h4,h5,h6,h7,h8,h9,h10,h11,by unfold StrB at h12; split at h12 <;> simp_all,hk _ h13,hk _ h14⟩
  ·cases h
 ·cases h
theorem ali {xt i j s:TypeId} {k k' : IntKind} {a b:ByteArray} {x y p q:Int} (h:IisB P xt i j s) (w:World) (d:Nat):(Op.equalIn (d + 1 + 1) xt (.agg #[.int k x,.int k' p,.string a]) (.agg #[.int k y,.int k' q,.string b])).run P w=.ok ((x == y) && ((p == q) && seq a b)) w:=by
 obtain ⟨f,g,e,hu,h1,h2,h3,h4,h5,h6,h7,h8,h9,h10,h11,h12,⟨k1,h13⟩,k2,h14⟩:=h;subst h4 h5 h6;have e1:(Op.equalIn (d + 1) f.type (.int k x) (.int k y)).run P w=.ok (x == y) w:=by simp [Op.equalIn,run_underlying h13]
 have e2:(Op.equalIn (d + 1) g.type (.int k' p) (.int k' q)).run P w=.ok (p == q) w:=by simp [Op.equalIn,run_underlying h14]
 have e3:(Op.equalIn (d + 1) e.type (.string a) (.string b)).run P w=.ok (seq a b) w:=by simp only [Op.equalIn,Sem.run_bind,run_underlying h12,Result.andThen_ok,Sem.run_pure,ajz]
 unfold Op.equalIn;cases ha:seq a b <;> cases hx:(x == y) <;> cases hp:(p == q) <;> simp [run_underlying hu,run_underlying h12,run_underlying h13,run_underlying h14,h1,h2,h3,h7,h8,h9,h10,part,isAgg,e1,e2,e3,ha,hx,hp]
theorem avb {op:BinOp} {xt yt i j s:TypeId} {x y:Operand} {k k' : IntKind} {a b:ByteArray} {p q u v:Int} {r:Bool} (ht:IisB P xt i j s) (hx:ev n σ x=.agg #[.int k p,.int k' u,.string a]) (hy:ev n σ y=.agg #[.int k q,.int k' v,.string b]) (hr:bcb op ((p == q) && ((u == v) && seq a b)) true=some r) :
  (execOp (ev n σ) ⟨some t,.binOp op xt x y yt,ty,pos,aft,none⟩).run P w=.ok (.value (.bool r)) w:=by
 have hg:P.eqGuardType P.depth xt=false:=by obtain ⟨f,g,e,hu,h1,h2,h3,h4,h5,h6,h7,h8,h9,h10,h11,_⟩:=ht; exact h11
 have he:(Op.equal xt (.agg #[.int k p,.int k' u,.string a]) (.agg #[.int k q,.int k' v,.string b])).run P w=.ok ((p == q) && ((u == v) && seq a b)) w:=ali ht w 9998;cases op <;> simp only [bcb,Option.some.injEq,reduceCtorEq] at hr <;> subst hr <;> simp only [execOp,eqGuard,binOp,hx,hy] <;> simp [he,hg]
theorem bii {op:BinOp} {xt yt i j s:TypeId} {x y:Operand} {k k' : IntKind} {a b:ByteArray} {p q u v:Int} {r:Bool} (ht:IisB P xt i j s) (hx:ev n σ x=.agg #[.int k p,.int k' u,.string a]) (hy:ev n σ y=.agg #[.int k q,.int k' v,.string b]) (hr:bcb op ((p == q) && ((u == v) && seq a b)) true=some r)
 (h:wpList P ops Q rest (fr n (upd σ t (.bool r))) w):wpList P ops Q (⟨some t,.binOp op xt x y yt,ty,pos,aft,none⟩ :: rest) (fr n σ) w:=aaZ (avb ht hx hy hr) h
end
end Go.Proofs.YtoegpkmhifmamaaGreatDoor
namespace Go.Proofs.YtoegpkmhifmamaaGreatDoor
open Go Go.RowKit
section
variable {P:Program} {ops:Array Oper} {Q:Exit→Act→World→Prop} {rest:List Oper} {n:Nat} {σ:Nat→Value} {w:World} {ty:TypeId} {pos:String} {aft:Array Edge} {t:Tmp}
theorem aor {id:Nat} {Q:Exit→Act→List Frame→World→Prop} {cs:List Frame} (hr:recoverD cs=none) (h:Q .normal (fr n (upd σ t .nilIface)) cs w) :
  (Code.region id #[⟨some t,.call { callee:=.builtin .recover,args:=#[],argTypes:=#[] },ty,pos,aft,none⟩] false).wpS P Q (fr n σ) cs w:=by
 refine wpS_region ?_;show wpOpsS P _ Q [0] _ _ _;have he:(execOp (fr n σ).eval ⟨some t,.call { callee:=.builtin .recover,args:=#[],argTypes:=#[] },ty,pos,aft,none⟩).run P w=.ok .recover w:=rfl;simp only [wpOpsS,List.getElem?_toArray,List.getElem?_cons_zero,Region.wanted,if_true,he,hr,acX];exact h
theorem anX {id:Nat} {Q:Exit→Act→List Frame→World→Prop} {cs cs' : List Frame} {v:Value} (hr:recoverD cs=some (v,cs')) (h:Q .normal (fr n (upd σ t v)) cs' w) :
  (Code.region id #[⟨some t,.call { callee:=.builtin .recover,args:=#[],argTypes:=#[] },ty,pos,aft,none⟩] false).wpS P Q (fr n σ) cs w:=by
 refine wpS_region ?_;show wpOpsS P _ Q [0] _ _ _;have he:(execOp (fr n σ).eval ⟨some t,.call { callee:=.builtin .recover,args:=#[],argTypes:=#[] },ty,pos,aft,none⟩).run P w=.ok .recover w:=rfl;simp only [wpOpsS,List.getElem?_toArray,List.getElem?_cons_zero,Region.wanted,if_true,he,hr,acX];exact h
def IfcB (P:Program) (t:TypeId):Bool:=match P.underlying t with | some (.interface _)=>true | _=>false
theorem ahj (d:Nat) {xt:TypeId} {ms:_} (hu:P.underlying xt=some (.interface ms)):(Op.equalIn (d + 1) xt .nilIface .nilIface).run P w=.ok true w:=by
 unfold Op.equalIn;simp [run_underlying hu]
theorem ahf (d:Nat) {xt u:TypeId} {v:Value} {ms:_} (hu:P.underlying xt=some (.interface ms)):(Op.equalIn (d + 1) xt (.iface u v) .nilIface).run P w=.ok false w:=by
 unfold Op.equalIn;simp [run_underlying hu]
theorem ajR {xt:TypeId} (ht:IfcB P xt=true):(Op.equal xt .nilIface .nilIface).run P w=.ok true w:=by
 unfold IfcB at ht;split at ht
 ·rename_i hu;exact ahj 9999 hu
 ·cases ht
theorem ajA {xt u:TypeId} {v:Value} (ht:IfcB P xt=true):(Op.equal xt (.iface u v) .nilIface).run P w=.ok false w:=by
 unfold IfcB at ht;split at ht
 ·rename_i hu;exact ahf 9999 hu
 ·cases ht
theorem asE {xt yt:TypeId} {x:Operand} (ht:IfcB P xt=true) (hx:ev n σ x=.nilIface) (h:wpList P ops Q rest (fr n (upd σ t (.bool true))) w) :
  wpList P ops Q (⟨some t,.binOp .eql xt x (.const .nilIface) yt,ty,pos,aft,none⟩ :: rest) (fr n σ) w:=by
 refine aaZ (v:=.bool true) ?_ h;have hk:ev n σ (.const .nilIface)=.nilIface:=rfl;simp only [execOp];rw [hx,hk];simp [eqGuard,binOp,ajR ht]
theorem apL {xt yt u:TypeId} {x:Operand} {v:Value} (ht:IfcB P xt=true) (hx:ev n σ x=.iface u v) (h:wpList P ops Q rest (fr n (upd σ t (.bool false))) w) :
  wpList P ops Q (⟨some t,.binOp .eql xt x (.const .nilIface) yt,ty,pos,aft,none⟩ :: rest) (fr n σ) w:=by
 refine aaZ (v:=.bool false) ?_ h;have hk:ev n σ (.const .nilIface)=.nilIface:=rfl;simp only [execOp];rw [hx,hk];simp [eqGuard,binOp,ajA ht]
theorem tya {xt u:TypeId} {x:Operand} {v:Value} (hu:ane P u=true) (hx:ev n σ x=.iface u v) (h:wpList P ops Q rest (fr n (upd σ t (.tuple #[v,.bool true]))) w) :
  wpList P ops Q (⟨some t,.typeAssert x xt u true,ty,pos,aft,none⟩ :: rest) (fr n σ) w:=by
 refine aaZ (v:=.tuple #[v,.bool true]) ?_ h;simp only [execOp];rw [hx];unfold ane at hu;split at hu
 ·cases hu
 ·rename_i hd he;simp [Instr.typeAssert,run_underlying he]
 ·cases hu
theorem dfr {f:Operand} {g:FuncId} {caps:Array Value} (hf:ev n σ f=.func (.func g) #[] caps) (h:wpList P ops Q rest (wd (fr n σ) [⟨.fn (.func g) caps,#[]⟩]) w) :
  wpList P ops Q (⟨none,.defer { callee:=.value f,args:=#[],argTypes:=#[] },ty,pos,aft,none⟩ :: rest) (fr n σ) w:=by
 refine wpList_plain rfl fun K hK=>?_
 unfold Oper.wp;have he:(execOp (fr n σ).eval ⟨none,.defer { callee:=.value f,args:=#[],argTypes:=#[] },ty,pos,aft,none⟩).run P w=.ok (.defer ⟨.fn (.func g) caps,#[]⟩) w:=by
  rw [abx];simp [execOp,resolve,hf,Deferred.ofValue]
 rw [he];exact hK _ _ h
theorem regD {id:Nat} {l:List Oper} {a:Act} {D:List Deferred} (hnd:ahH l=true) (h:wpList P l.toArray (QL D Q) l a w):(Code.region id l.toArray false).wp P Q (wd a D) w :=
 (wpIn_wide (n:=0)).1 (regR (ro:=none) hnd h)
end
theorem ap0 (b:Nat) (w:World):CallsD Tryz.prog 76 #[.pointer (some ⟨b,0,none⟩)] .returning w fun e u' w'=>(∃ v,e=.returned v)∧u'=.returning∧w'=w:=by
 refine callsD_of_wpS Tryz.func76 rfl fun c₀ cs hu=>?_
 rw [aeS];have hr:recoverD (c₀ :: cs)=none:=by simp [recoverD,hu]
 refine wpS_seq (aor hr ?_);refine wpS_of_wp ?_;refine wp_block ?_;refine wp_seq ?_;refine wp_region_lit ?_;refine asE (by kernel_rfl) rfl ?_;refine wpList_nil ?_;refine aae ?_;refine cndT rfl ?_;refine wp_region_lit ?_;refine asg (v:=.nilIface) rfl ?_;refine wpList_nil ?_;refine blkN ?_;exact ⟨rfl,.returning,by cases c₀; simp_all,_,results_none rfl _ _ _,⟨_,rfl⟩,rfl,rfl⟩
theorem ao1 {K0 K:KH} {w0 w:World} {M:Nat→Prop} {H:Ents} {base b:Nat} {x c:Int} (S:Sx K0 K w0 w M (.box base b #[.int .i64 x] 28 :: H)) :
  CallsD Tryz.prog 76 #[.pointer (some ⟨b,0,none⟩)] (.panicking [{ v:=.iface 118 (.agg #[.int .i64 c]),recovered:=false }]) w fun e u' w'=>(∃ v,e=.returned v) ∧
   u'=.panicking [{ v:=.iface 118 (.agg #[.int .i64 c]),recovered:=true }]∧Sx K0 K w0 w' M (.box base b #[.int .i64 c] 28 :: H):=by
 refine callsD_of_wpS Tryz.func76 rfl fun c₀ cs hu=>?_
 rw [aeS];have hr:recoverD (c₀ :: cs)=some (.iface 118 (.agg #[.int .i64 c]),{ c₀ with mode:=.panicking [{ v:=.iface 118 (.agg #[.int .i64 c]),recovered:=true }] } :: cs):=by simp [recoverD,hu]
 refine wpS_seq (anX hr ?_);refine wpS_of_wp ?_;refine wp_block ?_;refine wp_seq ?_;refine wp_region_lit ?_;refine apL (by kernel_rfl) rfl ?_;refine wpList_nil ?_;refine aae ?_;refine cndF rfl ?_;refine wp_seq ?_;refine wp_region_lit ?_;refine tya (by kernel_rfl) rfl ?_;refine ext (v:=.bool true) rfl rfl ?_;refine ext (v:=.agg #[.int .i64 c]) rfl rfl ?_;refine wpList_nil ?_;refine aae ?_;refine cndT rfl ?_;refine wp_seq ?_;refine wp_region_lit ?_;refine alcC (z:=.agg #[.int .i64 0]) (cs:=#[.int .i64 0]) S (by kernel_rfl) rfl ?_;intro w1 S1;refine stoI (i:=0) (v:=.agg #[.int .i64 c]) (cs':=#[.int .i64 c]) S1 rfl (show aaN Tryz.prog 118=some 1 by kernel_rfl) rfl rfl rfl rfl (Nat.le_of_ble_eq_true rfl) rfl ?_;intro w2 S2;refine wpList_nil ?_;refine aae ?_;refine wp_region_lit ?_;refine fld (s:=118) (f:=0) (off:=0) (o':=0) (by kernel_rfl) rfl rfl ?_;refine lb1 (i:=0) (v:=.int .i64 c) S2 rfl (by kernel_rfl) rfl rfl ?_;refine stoI (i:=1) (v:=.int .i64 c) (cs':=#[.int .i64 c]) S2 rfl (show aaN Tryz.prog 28=some 1 by kernel_rfl) rfl rfl rfl rfl (Nat.le_of_ble_eq_true rfl) rfl ?_;intro w3 S3;refine wpList_nil ?_;refine blkN ?_;exact ⟨rfl,_,rfl,_,results_none rfl _ _ _,⟨_,rfl⟩,rfl,S3.drop (List.sublist_cons_self _ _)⟩
theorem amI {K:KH} {w:World} {H:Ents} {g:Nat} {caps:Array Value} {R:World→KH→Ents→Prop} {R' : Int→KH→Ents→Prop} (hb:aaE Tryz.prog g=true) (S:Sx K K w w (fun b=>b ∈ Ents.blks H) H)
  (hc : ∀ w1,Sx K K w1 w1 (fun b=>b ∈ Ents.blks H) H→w.heap.size≤w1.heap.size→Calls Tryz.prog g caps w1 (RetP (fun v w'=>∃ K' H',Sx K K' w1 w' (fun b=>b ∈ Ents.blks H) H'∧R w1 K' H')
   (fun v w'=>∃ c K' H',v=.iface 118 (.agg #[.int .i64 c])∧Sx K K' w1 w' (fun b=>b ∈ Ents.blks H) H'∧R' c K' H'))) :
  Calls Tryz.prog 52 #[.func (.func g) #[] caps] w (Ret fun v w'=>(∃ w1 K' H',w.heap.size≤w1.heap.size∧v=.int .i64 0∧Sx K K' w w' (fun b=>b ∈ Ents.blks H) H'∧R w1 K' H') ∨
   ∃ c K' H',v=.int .i64 c∧Sx K K' w w' (fun b=>b ∈ Ents.blks H) H'∧R' c K' H'):=by
 refine calls_of_wp_defers Tryz.func52 rfl ?_;rw [aeS];refine wp_seq ?_;refine wp_region_lit ?_;refine alcC (z:=.int .i64 0) (cs:=#[.int .i64 0]) S (by kernel_rfl) rfl ?_;intro w1 S1;refine wpList_nil ?_;refine aae ?_;refine wp_seq ?_;refine wp_region_lit ?_;refine mkf (us:=[]) (vs:=[.pointer (some ⟨w.heap.size,0,none⟩)]) rfl rfl ?_;refine dfr (g:=76) (caps:=#[.pointer (some ⟨w.heap.size,0,none⟩)]) rfl ?_;refine wpList_nil ?_;refine aae ?_;refine wp_seq ?_;refine regD rfl ?_;refine mv (v:=.func (.func g) #[] caps) rfl ?_;have hsz:=S1.size;have T1:=S1.part H (List.sublist_cons_self _ _);have S1' : Sx K K w w1 (fun b=>b ∈ Ents.blks H) (H ++ [.box w.heap.size w.heap.size #[.int .i64 0] 28]):=S1.perm (List.perm_append_comm (l₁:=H) (l₂:=[_]));have hres : ∀ {x:Int} {w4:World} {σ:Nat→Value} {K' : KH} {H' : Ents},Sx K K' w w4 (fun b=>b ∈ Ents.blks H) (.box w.heap.size w.heap.size #[.int .i64 x] 28 :: H')→ev 6 σ (.tmp 2)=.pointer (some ⟨w.heap.size,0,none⟩) →
   (results Tryz.f52 (fr 6 σ).tmps).run Tryz.prog w4=.ok (.int .i64 x) w4:=fun S h=>akJ rfl (res1 (i:=0) S rfl (by kernel_rfl) h rfl)
 refine clP (caps:=caps) (vs:=caps.toList) rfl hb (by simp) (hc w1 T1 hsz) ?_ ?_
 ·rintro v w2 ⟨K',H',T2,hR⟩;have S2:=(S1'.call T2).perm (List.perm_append_comm (l₁:=[_]) (l₂:=H'));refine wpList_nil (QLn ?_);refine aae ?_;refine wp_seq ?_;refine regD rfl ?_;refine stoI (i:=0) (v:=.int .i64 0) (cs':=#[.int .i64 0]) S2 rfl (show aaN Tryz.prog 28=some 1 by kernel_rfl) rfl rfl rfl rfl (Nat.le_of_ble_eq_true rfl) rfl ?_;intro w3 S3;refine wpList_nil (QLn ?_);refine aae ?_;refine wp_ret ?_;show Leaves Tryz.prog Tryz.f52 _ _ [_] .returning w3;refine leaves_cons (f:=76) (args:=#[.pointer (some ⟨w.heap.size,0,none⟩)]) (by simp) (by simp [invoke,adv (show aaE Tryz.prog 76=true by kernel_rfl)]) ?_;refine (ap0 _ w3).mono ?_;rintro e u' w4 ⟨⟨v',rfl⟩,rfl,rfl⟩;exact ⟨_,hres S3 rfl,_,rfl,.inl ⟨w1,K',H',hsz,rfl,S3.drop (List.sublist_cons_self _ _),hR⟩⟩
 ·rintro v w2 ⟨c,K',H',rfl,T2,hR⟩;have S2:=(S1'.call T2).perm (List.perm_append_comm (l₁:=[_]) (l₂:=H'));refine QLp ?_;refine aaM ?_;show Leaves Tryz.prog Tryz.f52 _ _ [_] (.panicking _) w2;refine leaves_cons (f:=76) (args:=#[.pointer (some ⟨w.heap.size,0,none⟩)]) (by simp) (by simp [invoke,adv (show aaE Tryz.prog 76=true by kernel_rfl)]) ?_;refine (ao1 S2).mono ?_;rintro e u' w4 ⟨⟨v',rfl⟩,rfl,S4⟩;exact ⟨_,hres S4 rfl,_,rfl,.inr ⟨c,K',H',rfl,S4.drop (List.sublist_cons_self _ _),hR⟩⟩
section
variable {P:Program} {ops:Array Oper} {Q:Exit→Act→World→Prop} {n nt:Nat} {σ:Nat→Value} {w w' : World} {a:Act} {ro:Option Nat}
theorem amW {c:Code} (I:Nat→Act→World→Prop) (g:Nat) (h₀:I g a w)
  (round : ∀ g a w,I g a w→c.wpIn (rnd ro) n P (Exit.then (fun a' w'=>∃ g',g' < g∧I g' a' w') Q) a w):(Code.loop c).wpIn (rnd ro) n P Q a w:=by
 intro b k cs hro hb hr;have key : ∀ j a w,I j a w→∃ e a' w',Q e a' w'∧ArrivesIn (Machine.fenced P (rnd ro)) P (lone (b.atR a (.code c :: .inLoop c :: k)) cs w) b k cs e a' w':=by
  intro j;induction j using Nat.strongRecOn with
  | _ j ih =>
   intro a w hI;obtain ⟨e,a₁,w₁,hq,harr⟩:=round j a w hI b (.inLoop c :: k) cs hro hb hr;cases e with
   | normal =>
    obtain ⟨g',hlt,hI₁⟩:=hq;obtain ⟨e₂,a₂,w₂,hq₂,harr₂⟩:=ih g' hlt a₁ w₁ hI₁;exact ⟨e₂,a₂,w₂,hq₂,.of_steps (StepsIn.trans harr (.one (fenced_calm (fr:=b.atR a₁ (.inLoop c :: k)) hb hr rfl) stepR_inLoop)) harr₂⟩
   | exit id=>exact ⟨_,a₁,w₁,hq,.pass (x:=.inLoop c) rfl (fun _ _=>.inl (by simp)) harr⟩
   | goto l=>exact ⟨_,a₁,w₁,hq,.pass (x:=.inLoop c) rfl (fun _ _=>.inl (by simp)) harr⟩
   | ret=>exact ⟨_,a₁,w₁,hq,.pass (x:=.inLoop c) rfl (fun _ _=>.inl (by simp)) harr⟩
   | panic ch=>exact ⟨_,a₁,w₁,hq,.pass (x:=.inLoop c) rfl (fun _ _=>.inl (by simp)) harr⟩
   | outgrown=>exact ⟨_,a₁,w₁,hq,.pass (x:=.inLoop c) rfl (fun _ _=>.inl (by simp)) harr⟩
 obtain ⟨e,a',w',hq,harr⟩:=key _ a w h₀;exact ⟨e,a',w',hq,.of_steps (.one (fenced_calm (fr:=b.atR a (.code (.loop c) :: k)) hb hr rfl) stepR_loop) harr⟩
theorem opV {i:Nat} {o:Oper} {t:Tmp} {v:Value} {K:Act→World→Prop} (hi:ops[i]?=some o) (hg:o.guard=none) (hnd : ∀ c,o.op ≠ .defer c) (hd:o.dst=some t)
  (hr:(execOp (ev nt σ) o).run P w=.ok (.value v) w') (h:K (fr nt (upd σ t v)) w'):wpOpIn (rnd ro) n P ops Q i K (fr nt σ) w:=by
 unfold wpOpIn;rw [hi];simp only;rw [if_pos (by simp [Region.wanted,hg])];refine ⟨fun _ _=>trivial,?_⟩;rw [Oper.semAt_eq _ _ _ hnd,abx,hr];show K ((fr nt σ).put o.dst v) w';rw [hd,acX];exact h
theorem yfV {o:Oper} {v:Value} (hg:o.guard=none) (hr : ∀ w,(execOp (ev nt σ) o).run P w=.ok (.value v) w) (hc : ∀ c,o.op ≠ .call c) (hgo : ∀ w,o.about P w (fr nt σ).eval=none):YieldsFenced P ops o v (fr nt σ) :=
 ⟨.inl ⟨by simp [Region.wanted,hg],fun w=>by rw [abx]; exact hr w⟩,hgo⟩
theorem aqz {i t fuel:Nat} {o:Oper} {v:Value} {L L' : Array Bool} (hi:ops[i]?=some o) (hd:o.dst=some t) (hg:o.guard=none) (hs:Region.noSelect ops=true) (hf:Region.free .any ops L i=true) (hr:(Region.ready .any ops L).contains i=true)
  (hQ : ∀ c (a:Act) (d:Option Tmp) v w,Q (.panic c) (a.put d v) w→Q (.panic c) a w) (hc : ∀ c,o.op ≠ .call c) (hgo : ∀ w,o.about P w (fr nt σ).eval=none) (hrun : ∀ w,(execOp (ev nt σ) o).run P w=.ok (.value v) w) (hL:L.setIfInBounds i true=L')
  (h:wpAnyIn (rnd none) n P .any ops Q fuel L' (fr nt (upd σ t v)) w):wpAnyIn (rnd none) n P .any ops Q (fuel + 1) L (fr nt σ) w:=by
 subst hL;refine wpAnyIn_take rfl hi hs hf hr (fun c a w=>hQ c a _ _ w) (yfV hg hrun hc hgo) ?_;rw [hd,acX];exact h
theorem sfx {A:(Nat→Value)→Prop} {f f' : Nat} {L L' : Array Bool} {a' : Act} (h1 : ∀ σ',A σ'→wpAnyIn (rnd none) n P .any ops Q f L (fr nt σ') w) (h2:(∀ σ',A σ'→wpAnyIn (rnd none) n P .any ops Q f L (fr nt σ') w)→wpAnyIn (rnd none) n P .any ops Q f' L' a' w') :
 wpAnyIn (rnd none) n P .any ops Q f' L' a' w':=h2 h1
theorem aem {id m:Nat} {l:List Oper} (hnd:ahH l=true) (h:wpList P l.toArray (QL [] Q) l (fr m σ) w):(Code.region id l.toArray false).wpIn (rnd ro) n P Q (fr m σ) w :=
 regR (D:=[]) (a:=fr m σ) hnd h
theorem QLn0 {m:Nat} (h:Q .normal (fr m σ) w):QL [] Q .normal (fr m σ) w:=⟨rfl,by simp,h⟩
theorem QLp0 {m:Nat} {c:_} (h:Q (.panic c) (fr m σ) w):QL [] Q (.panic c) (fr m σ) w:=⟨rfl,by simp,h⟩
theorem aoP {m:Nat} {c:Operand} {x y:Code} (hc:ev m σ c=.bool true) (h:x.wpIn (rnd ro) n P Q (fr m σ) w):(Code.cond c x y).wpIn (rnd ro) n P Q (fr m σ) w :=
 wpIn_cond_true (by rw [abx]; exact hc) h
theorem an5 {m:Nat} {c:Operand} {x y:Code} (hc:ev m σ c=.bool false) (h:y.wpIn (rnd ro) n P Q (fr m σ) w):(Code.cond c x y).wpIn (rnd ro) n P Q (fr m σ) w :=
 wpIn_cond_false (by rw [abx]; exact hc) h
theorem opY {i:Nat} {t:Tmp} {f:Operand} {xs:Array Operand} {ts:Array TypeId} {ty:TypeId} {pos:String} {aft:Array Edge} {K:Act→World→Prop} {l:Nat} {r:Loop} {vs:List Value} {R:Ending→World→Prop}
  (hi:ops[i]?=some ⟨some t,.call { callee:=.value f,args:=xs,argTypes:=ts },ty,pos,aft,none⟩) (hf:ev nt σ f=.func (.yield l) #[] #[]) (hx:xs.toList.map (ev nt σ)=vs) (hl:w.heap[l]?=some (.loop r)) (hs:vs.length=r.params.size)
  (hR:RoundIn (rnd ro) (n - 1) P l r.fn ((r.params.zip vs.toArray).foldl (fun tmps (t,a)=>tmps.setIfInBounds t a) r.tmps) r.assign r.body w R)
  (h : ∀ e w',R e w'→match e with | .returned v=>K (fr nt (upd σ t v)) w' | .panicked c=>Q (.panic c) (fr nt σ) w' | .outgrown=>False):wpOpIn (rnd ro) n P ops Q i K (fr nt σ) w:=by
 unfold wpOpIn;rw [hi];simp only;rw [if_pos (by simp [Region.wanted])];refine ⟨fun _ _=>trivial,?_⟩;rw [Oper.semAt_eq _ _ _ (by simp),abx];have he:(execOp (ev nt σ) ⟨some t,.call { callee:=.value f,args:=xs,argTypes:=ts },ty,pos,aft,none⟩).run P w=.ok (.round l r.fn ((r.params.zip vs.toArray).foldl (fun tmps (t,a)=>tmps.setIfInBounds t a) r.tmps) r.assign r.body) w:=by
  simp only [execOp,resolve];have hx' : xs.map (ev nt σ)=vs.toArray:=by rw [← hx]; cases xs; simp
  rw [hf,hx'];simp [Deferred.ofValue,invoke,run_yield (args:=vs.toArray) hl (by simpa using hs)]
 rw [he];refine ⟨fun h=>by simp [rnd,Fence.wide] at h,hR.mono ?_⟩;intro e w' hr;have:=h e w' hr;cases e with
 | returned v=>show K ((fr nt σ).put (some t) v) w'; rw [acX]; exact this
 | panicked c=>exact this
 | outgrown=>exact this.elim
end
theorem ajy {K:KH} {w:World} {H:Ents} {M:Nat→Prop} {K0:KH} {w0:World} {cs:List Value} (S:Sx K0 K w0 w M H) :
  Calls Tryz.prog 80 #[.agg cs.toArray] w (Ret fun v w'=>∃ b,v=.func (.func 102) #[] #[.pointer (some ⟨b,0,none⟩)]∧Sx K0 K w0 w' M (.box w0.heap.size b cs.toArray 24 :: H)):=by
 refine enter Tryz.func80 rfl (n:=4) rfl ?_;refine wp_seq ?_;refine wp_region_lit ?_;refine bxoC (cs:=cs.toArray) S rfl rfl ?_;intro w1 S1;refine asg (v:=.nilFunc) rfl ?_;refine wpList_nil ?_;refine aae ?_;refine wp_seq ?_;refine wp_region_lit ?_;refine mkf (us:=[]) (vs:=[.pointer (some ⟨w.heap.size,0,none⟩)]) rfl rfl ?_;refine asg (v:=.func (.func 102) #[] #[.pointer (some ⟨w.heap.size,0,none⟩)]) rfl ?_;refine wpList_nil ?_;refine aae ?_;refine wp_ret ?_;exact aas rfl (resT rfl) ⟨w.heap.size,rfl,S1⟩
def HS (K0 K1:KH) (w0:World) (M:Nat→Prop) (l:Nat) (o:Loop) (base bp:Nat) (ps:Value) (Pi:KH→Ents→Prop) (w:World):Prop :=
 ∃ K' H',K1.sub K'∧Sx K0 K' w0 w M (.raw w0.heap.size l (.loop o) :: .box base bp #[ps] 24 :: H')∧Pi K' H'
def HR (K0 K1:KH) (w0:World) (M:Nat→Prop) (l:Nat) (o:Loop) (base bp:Nat) (ps:Value) (Pi:KH→Ents→Prop) (Px:Code→KH→Ents→Prop) (Pp:Value→KH→Ents→Prop) (e:Ending) (w:World):Prop :=
 (e=.returned (.bool true)∧HS K0 K1 w0 M l o base bp ps Pi w)∨(∃ c,e=.returned (.bool false)∧HS K0 K1 w0 M l { o with state:=.done,pending:=some c } base bp ps (Px c) w) ∨
  ∃ v,e=.panicked [{ v,recovered:=false }]∧∃ K' H',Sx K0 K' w0 w M H'∧Pp v K' H'
set_option maxHeartbeats 4000000 in
theorem am1 {K0 K1:KH} {w0 w:World} {M:Nat→Prop} {l base bp c:Nat} {A:Option Addr} {o:Loop} {xs:List aaf} {Pi:Nat→KH→Ents→Prop} {Px:Code→KH→Ents→Prop} {Pp:Value→KH→Ents→Prop}
  (hrow:RSl aaf (aav K1) 6 88 K1 A c xs) (hps:o.params.size=2)
  (hY : ∀ i x cs w',HS K0 K1 w0 M l o base bp (.slice A xs.length c) (Pi i) w'→xs[i]?=some x→aav K1 x cs →
   RoundIn (rnd none) 0 Tryz.prog l o.fn ((o.params.zip #[.agg cs.toArray,.slice A i c]).foldl (fun tmps (t,a)=>tmps.setIfInBounds t a) o.tmps) o.assign o.body w' (HR K0 K1 w0 M l o base bp (.slice A xs.length c) (Pi (i + 1)) Px Pp))
  (h0:HS K0 K1 w0 M l o base bp (.slice A xs.length c) (Pi 0) w) :
  CallsIn (rnd none) 0 Tryz.prog 102 #[.func (.yield l) #[] #[],.pointer (some ⟨bp,0,none⟩)] w (fun e w' =>
   (∃ v,e=.returned v∧HS K0 K1 w0 M l o base bp (.slice A xs.length c) (Pi xs.length) w')∨(∃ v c',e=.returned v∧HS K0 K1 w0 M l { o with state:=.done,pending:=some c' } base bp (.slice A xs.length c) (Px c') w') ∨
    ∃ v,e=.panicked [{ v,recovered:=false }]∧∃ K' H',Sx K0 K' w0 w' M H'∧Pp v K' H'):=by
 refine callsIn_of_wp Tryz.func102 rfl trivial ?_;rw [aeS];obtain ⟨K',H',hs,S,hP⟩:=h0;refine wpIn_seq ?_;refine aem rfl ?_;refine fld (s:=24) (f:=0) (off:=0) (o':=0) (by kernel_rfl) rfl rfl ?_;refine lb1 (i:=1) (v:=.slice A xs.length c) S rfl (by kernel_rfl) rfl rfl ?_;refine lnS (len:=xs.length) (e:=42) (by kernel_rfl) rfl ?_;refine mv (v:=.int .i64 0) rfl ?_;refine wpList_nil (QLn0 ?_);refine aae ?_;refine wpIn_block ?_;refine amW (fun g a w=>∃ (σ:Nat→Value) (i:Nat),i≤xs.length∧g=xs.length - i∧a=fr 22 (updL σ [(0,.func (.yield l) #[] #[]),(1,.pointer (some ⟨bp,0,none⟩)),(6,.slice A xs.length c),(7,.int .i64 xs.length),(8,.int .i64 i)]) ∧
  HS K0 K1 w0 M l o base bp (.slice A xs.length c) (Pi i) w) xs.length ?_ ?_
 ·exact ⟨_,0,Nat.zero_le _,rfl,frL ⟨rfl,rfl,rfl,rfl,rfl,trivial⟩,K',H',hs,S,hP⟩
 clear S hP hs K' H';rintro g _ w1 ⟨σ,i,hi,rfl,rfl,K',H',hs,S,hP⟩;refine wpIn_seq ?_;refine aem rfl ?_;rcases Nat.lt_or_ge i xs.length with hlt | hge
 ·refine bcm (r:=true) rfl rfl (by simp [icmp]; omega) ?_;refine wpList_nil (QLn0 ?_);refine aae ?_;refine wpIn_seq ?_;refine aoP rfl ?_;refine wpIn_skip ?_;refine aae ?_;refine wpIn_seq ?_;refine wpIn_block ?_;refine wpIn_seq ?_;refine aem rfl ?_;obtain ⟨x,hx⟩ : ∃ x,xs[i]?=some x:=⟨_,List.getElem?_eq_getElem hlt⟩;obtain ⟨b,off,cs,hA,hl,hC,hR⟩:=hrow.row.at_ hx;subst hA;refine mv (v:=.int .i64 i) rfl ?_;refine idx (s:=22) (e:=42) (size:=6) (by kernel_rfl) (by kernel_rfl) rfl rfl (Int.natCast_nonneg i) (by omega) ?_;refine ldN (cs:=cs) (size:=6) (by kernel_rfl) (by kernel_rfl) rfl hl (fun j v hj=>S.cell (hs.cell (hC j v hj))) ?_;have hRx:=hR;obtain ⟨x0,x1,x2,x3,x4,x5⟩:=x;obtain ⟨A1,c1,A2,c2,rfl,hz,hr1,hr2⟩:=aav.open hR;refine alcC (z:=.agg #[.string ⟨#[]⟩,.slice none 0 0,.int .i64 0,.bool false,.int .i64 0,.slice none 0 0]) (cs:=#[.string ⟨#[]⟩,.slice none 0 0,.int .i64 0,.bool false,.int .i64 0,.slice none 0 0]) S (by kernel_rfl) rfl ?_;intro w2 S2;refine asg (v:=.int .i64 i) rfl ?_;refine stoI (i:=0) (v:=.agg #[.string x0,.slice A1 x1.length c1,.int .i64 x2,.bool x3,.int .i64 x4,.slice A2 x5.length c2]) (cs':=#[.string x0,.slice A1 x1.length c1,.int .i64 x2,.bool x3,.int .i64 x4,.slice A2 x5.length c2]) S2 rfl (show aaN Tryz.prog 42=some 6 by kernel_rfl) rfl rfl rfl rfl (Nat.le_of_ble_eq_true rfl) rfl ?_;intro w3 S3;refine wpList_nil (QLn0 ?_);refine aae ?_;refine wpIn_seq ?_;refine wpIn_region_any (by kernel_rfl) ?_;show wpAnyIn _ _ _ .any _ _ 8 #[false,false,false,false,false,false,false,false] _ _;refine aqz (i:=0) (v:=.func (.yield l) #[] #[]) (L':=#[true,false,false,false,false,false,false,false]) rfl rfl rfl (by kernel_rfl) (by kernel_rfl) (by kernel_rfl) (fun c a d v w h=>⟨(abD _ _ _).symm.trans h.1,h.2⟩) (by simp) (fun w=>rfl) (fun w=>mv_r rfl) rfl ?_;refine aqz (i:=2) (v:=.pointer (some ⟨bp,0,none⟩)) (L':=#[true,false,true,false,false,false,false,false]) rfl rfl rfl (by kernel_rfl) (by kernel_rfl) (by kernel_rfl) (fun c a d v w h=>⟨(abD _ _ _).symm.trans h.1,h.2⟩) (by simp) (fun w=>rfl) (fun w=>akw (s:=24) (f:=0) (off:=0) (o':=0) (by kernel_rfl) rfl rfl) rfl ?_;refine aqz (i:=4) (v:=.int .i64 i) (L':=#[true,false,true,false,true,false,false,false]) rfl rfl rfl (by kernel_rfl) (by kernel_rfl) (by kernel_rfl) (fun c a d v w h=>⟨(abD _ _ _).symm.trans h.1,h.2⟩) (by simp) (fun w=>rfl) (fun w=>mv_r rfl) rfl ?_;have S4:Sx K0 K' w0 w3.drew M _:=S3.drew;refine sfx (nt:=22) (w:=w3.drew) (f:=2) (L:=#[true,true,true,true,true,true,false,false]) (A:=fun σ'=>Live σ' [(0,.func (.yield l) #[] #[]),(1,.pointer (some ⟨bp,0,none⟩)),(6,.slice (some ⟨b,off,none⟩) xs.length c),(7,.int .i64 xs.length),(8,.int .i64 i),(13,.func (.yield l) #[] #[]),
    (14,.agg #[.string x0,.slice A1 x1.length c1,.int .i64 x2,.bool x3,.int .i64 x4,.slice A2 x5.length c2]),(18,.slice (some ⟨b,off,none⟩) i c)]) ?_ (fun hend=>?_)
  ·intro σ' hσ;rw [frL hσ];have S5:Sx K0 K' w0 w3.drew M (.raw w0.heap.size l (.loop o) :: .box base bp #[.slice (some ⟨b,off,none⟩) xs.length c] 24 :: H'):=S4.drop (List.sublist_cons_self _ _);refine wpAnyIn_all (rs:=[6]) (by kernel_rfl) (by simp) ?_;intro j hj;obtain rfl:j=6:=by simpa using hj
   refine opY (l:=l) (vs:=[.agg #[.string x0,.slice A1 x1.length c1,.int .i64 x2,.bool x3,.int .i64 x4,.slice A2 x5.length c2],.slice (some ⟨b,off,none⟩) i c]) rfl rfl rfl (S5.ents (.raw w0.heap.size l (.loop o)) (by simp)).1 hps.symm (hY i _ _ _ ⟨K',H',hs,S5,hP⟩ hx hRx) ?_;rintro e w4 (⟨rfl,hn⟩ | ⟨c',rfl,hn⟩ | ⟨v,rfl,hn⟩)
   ·refine wpAnyIn_all (rs:=[7]) (by kernel_rfl) (by simp) ?_;intro j hj;obtain rfl:j=7:=by simpa using hj
    refine opV rfl rfl (by simp) rfl (akF (a:=true) rfl) ?_;refine wpAnyIn_done (by kernel_rfl) ?_ _;refine aae ?_;refine an5 rfl ?_;refine wpIn_skip ?_;refine blkN ?_;refine aae ?_;refine aem rfl ?_;refine bar (r:=((i + 1:Nat):Int)) rfl rfl (aaY (aa1 hrow.len (by decide) hlt)) ?_;refine mv (v:=.int .i64 ((i + 1:Nat):Int)) rfl ?_;refine wpList_nil (QLn0 ?_);refine aae ?_;exact ⟨xs.length - (i + 1),by omega,_,i + 1,hlt,rfl,frL ⟨rfl,rfl,rfl,rfl,rfl,trivial⟩,hn⟩
   ·refine wpAnyIn_all (rs:=[7]) (by kernel_rfl) (by simp) ?_;intro j hj;obtain rfl:j=7:=by simpa using hj
    refine opV rfl rfl (by simp) rfl (akF (a:=false) rfl) ?_;refine wpAnyIn_done (by kernel_rfl) ?_ _;refine aae ?_;refine aoP rfl ?_;refine wpIn_ret ?_;refine blkR ?_;refine aaw ?_;refine aaw ?_;refine blkR ?_;exact bodyPost_ret (v:=.tuple #[]) (results_none rfl _ _ _) rfl (.inr (.inl ⟨_,c',rfl,hn⟩))
   ·refine aaM ?_;exact ⟨rfl,.inr (.inr ⟨v,rfl,hn⟩)⟩
  refine wpAnyIn_all (rs:=[1,3]) (by kernel_rfl) (by simp) ?_;intro j hj;rcases (by simpa using hj:j=1∨j=3) with rfl | rfl
  ·refine opV rfl rfl (by simp) rfl (akh (cs:=[.string x0,.slice A1 x1.length c1,.int .i64 x2,.bool x3,.int .i64 x4,.slice A2 x5.length c2]) (size:=6) (by kernel_rfl) (by kernel_rfl) rfl rfl (fun j v hj=>by rw [Nat.zero_add]; exact S4.cellAt (i:=0) rfl (by simpa using hj))) ?_;show wpAnyIn _ _ _ .any _ _ 4 #[true,true,true,false,true,false,false,false] _ _;refine wpAnyIn_all (rs:=[3]) (by kernel_rfl) (by simp) ?_;intro j hj;obtain rfl:j=3:=by simpa using hj
   refine opV rfl rfl (by simp) rfl (ah0 (v:=.slice (some ⟨b,off,none⟩) xs.length c) (by kernel_rfl) rfl (S4.cellAt (i:=2) rfl rfl)) ?_;show wpAnyIn _ _ _ .any _ _ 3 #[true,true,true,true,true,false,false,false] _ _;refine wpAnyIn_all (rs:=[5]) (by kernel_rfl) (by simp) ?_;intro j hj;obtain rfl:j=5:=by simpa using hj
   refine opV rfl rfl (by simp) rfl (amZ (e:=42) (size:=6) (m:=i) (by kernel_rfl) (by kernel_rfl) rfl rfl (Int.natCast_nonneg i) (by have:=hrow.cap; omega) (by simp)) ?_;show wpAnyIn _ _ _ .any _ _ 2 #[true,true,true,true,true,true,false,false] _ _;exact hend _ ⟨rfl,rfl,rfl,rfl,rfl,rfl,rfl,rfl,trivial⟩
  ·refine opV rfl rfl (by simp) rfl (ah0 (v:=.slice (some ⟨b,off,none⟩) xs.length c) (by kernel_rfl) rfl (S4.cellAt (i:=2) rfl rfl)) ?_;show wpAnyIn _ _ _ .any _ _ 4 #[true,false,true,true,true,false,false,false] _ _;refine aqz (i:=5) (v:=.slice (some ⟨b,off,none⟩) i c) (L':=#[true,false,true,true,true,true,false,false]) rfl rfl rfl (by kernel_rfl) (by kernel_rfl) (by kernel_rfl) (fun c a d v w h=>⟨(abD _ _ _).symm.trans h.1,h.2⟩) (by simp) (fun w=>rfl) (fun w=>amZ (e:=42) (size:=6) (m:=i) (by kernel_rfl) (by kernel_rfl) rfl rfl (Int.natCast_nonneg i) (by have:=hrow.cap; omega) (by simp)) rfl ?_;refine wpAnyIn_all (rs:=[1]) (by kernel_rfl) (by simp) ?_;intro j hj;obtain rfl:j=1:=by simpa using hj
   refine opV rfl rfl (by simp) rfl (akh (cs:=[.string x0,.slice A1 x1.length c1,.int .i64 x2,.bool x3,.int .i64 x4,.slice A2 x5.length c2]) (size:=6) (by kernel_rfl) (by kernel_rfl) rfl rfl (fun j v hj=>by rw [Nat.zero_add]; exact S4.cellAt (i:=0) rfl (by simpa using hj))) ?_;show wpAnyIn _ _ _ .any _ _ 2 #[true,true,true,true,true,true,false,false] _ _;exact hend _ ⟨rfl,rfl,rfl,rfl,rfl,rfl,rfl,rfl,trivial⟩
 ·have hie:i=xs.length:=by omega
  subst hie;refine bcm (r:=false) rfl rfl (by simp [icmp]) ?_;refine wpList_nil (QLn0 ?_);refine aae ?_;refine wpIn_seq ?_;refine an5 rfl ?_;refine wpIn_exit ?_;refine aaF ?_;refine aaF ?_;refine blkX ?_;exact bodyPost_end (v:=.tuple #[]) (results_none rfl _ _ _) rfl (.inl ⟨_,rfl,K',H',hs,S,hP⟩)
def BP (K0 K1:KH) (w0:World) (M:Nat→Prop) (l:Nat) (o:Loop) (base bp:Nat) (ps:Value) (Pi:KH→Ents→Prop) (Px:Code→KH→Ents→Prop) (Pp:Value→KH→Ents→Prop):Exit→Act→World→Prop
 | .normal,_,w=>HS K0 K1 w0 M l o base bp ps Pi w
 | .exit id,_,w=>HS K0 K1 w0 M l o base bp ps (Px (.exit id)) w
 | .panic c,a,w=>a.defers=[]∧∃ v,c=[{ v,recovered:=false }]∧∃ K' H',Sx K0 K' w0 w M H'∧Pp v K' H'
 | _,_,_=>False
def mark (b:Nat):Deferred:={ target:=.collected b,args:=#[] }
theorem Sx.rawTurn {K0 K:KH} {w0 w:World} {M:Nat→Prop} {A B:Ents} {base b:Nat} {o:Obj} (S:Sx K0 K w0 w M (A ++ .raw base b o :: B)) (o' : Obj):Sx K0 K w0 (w.putObj b o') M (A ++ .raw base b o' :: B):=by
 have hh:w.heap[b]?=some o∧base≤b:=S.ents (.raw base b o) (by simp);have hlt:b < w.heap.size:=(Array.getElem?_eq_some_iff.1 hh.1).1;exact S.turn (e':=.raw base b o') (fun j _ h=>World.putObj_heap_other (fun e=>h (by rw [e]; rfl))) (by simp) rfl rfl rfl ⟨World.putObj_heap_same hlt,hh.2⟩ (.inl rfl)
theorem apY {nt:Nat} {σ:Nat→Value} {p1 p2:Tmp} {v1 v2:Value}:((#[p1,p2]:Array Tmp).zip [v1,v2].toArray).foldl (fun tmps (t,a)=>tmps.setIfInBounds t a) (fr nt σ).tmps=(fr nt (upd (upd σ p1 v1) p2 v2)).tmps:=by
 have h1:=congrArg Act.tmps (acX nt σ p1 v1);have h2:=congrArg Act.tmps (acX nt (upd σ p1 v1) p2 v2);simp only [Act.put] at h1 h2;simp [h1,h2]
theorem ahN {f0:FuncId} {fn:Func} {K0 K:KH} {w0 w:World} {M:Nat→Prop} {H:Ents} {base bp c nt:Nat} {A:Option Addr} {xs:List aaf} {σ:Nat→Value} {D:List Deferred} {g:Operand} {p1 p2:Tmp} {assign body:Code} {Q:Exit→Act→World→Prop}
  {Pi:Nat→KH→Ents→Prop} {Px:Code→KH→Ents→Prop} {Pp:Value→KH→Ents→Prop} (J:Nat→aaf→KH→Ents→(Nat→Value)→Prop)
  (hf : Tryz.prog.funcs[f0]?=some fn) (S:Sx K0 K w0 w M (.box base bp #[.slice A xs.length c] 24 :: H)) (hrow:RSl aaf (aav K) 6 88 K A c xs)
  (hg:ev nt σ g=.func (.func 102) #[] #[.pointer (some ⟨bp,0,none⟩)]) (h0:Pi 0 K (.raw w0.heap.size w.heap.size (.deferred (some [])) :: H))
  (hassign : ∀ l o i x cs K' H' w',K.sub K'→Sx K0 K' w0 w' M (.raw w0.heap.size l (.loop o) :: .box base bp #[.slice A xs.length c] 24 :: H')→Pi i K' H'→xs[i]?=some x→aav K' x cs →
   assign.wpIn (rnd (some l)) 0 Tryz.prog (Exit.then (fun a₁ w₁=>∃ K1 H1 σ1,a₁=fr nt σ1∧K.sub K1∧Sx K0 K1 w0 w₁ M (.raw w0.heap.size l (.loop o) :: .box base bp #[.slice A xs.length c] 24 :: H1)∧J i x K1 H1 σ1) (fun _ _ _=>False))
    (fr nt (upd (upd σ p1 (.agg cs.toArray)) p2 (.slice A i c))) w')
  (hbody : ∀ l o i x K1 H1 σ1 w1,K.sub K1→Sx K0 K1 w0 w1 M (.raw w0.heap.size l (.loop o) :: .box base bp #[.slice A xs.length c] 24 :: H1)→J i x K1 H1 σ1→xs[i]?=some x →
   body.wpIn (rnd (some l)) 0 Tryz.prog (BP K0 K w0 M l o base bp (.slice A xs.length c) (Pi (i + 1)) Px Pp) (fr nt σ1) w1)
  (hdone : ∀ w' K' H',K.sub K'→Sx K0 K' w0 w' M H'→Pi xs.length K' H'→Q .normal (wd (fr nt σ) (mark w.heap.size :: D)) w')
  (hexit : ∀ c' w' K' H',K.sub K'→Sx K0 K' w0 w' M H'→Px c' K' H'→wpF f0 Tryz.prog c' Q (wd (fr nt σ) (mark w.heap.size :: D)) w')
  (hpanic : ∀ v w' K' H',Sx K0 K' w0 w' M H'→Pp v K' H'→Q (.panic [{ v,recovered:=false }]) (wd (fr nt σ) (mark w.heap.size :: D)) w') :
  wpF f0 Tryz.prog (Code.rangeFunc g #[p1,p2] assign body) Q (wd (fr nt σ) D) w:=by
 refine ajc (gf:=102) (lb:=#[.pointer (some ⟨bp,0,none⟩)]) (by rw [aoE,abx]; exact hg) (by kernel_rfl) ?_;obtain ⟨o,ho⟩ : ∃ o:Loop,o={ state:=.ready,pending:=none,fn:=f0,tmps:=(fr nt σ).tmps,params:=#[p1,p2],assign,body,defers:=w.heap.size }:=⟨_,rfl⟩;have S1:=(S.raw_ (.deferred (some []))).raw_ (.loop o);have hsz:(w.alloc (.deferred (some []))).heap.size=w.heap.size + 1:=by simp
 rw [hsz] at S1;have S2:Sx K0 K w0 ((w.alloc (.deferred (some []))).alloc (.loop o)) M (.raw w0.heap.size (w.heap.size + 1) (.loop o) :: .box base bp #[.slice A xs.length c] 24 :: .raw w0.heap.size w.heap.size (.deferred (some [])) :: H) :=
  S1.perm (List.Perm.cons _ (List.Perm.swap _ _ _))
 have key:=am1 (l:=w.heap.size + 1) (o:=o) (Pi:=Pi) (Px:=Px) (Pp:=Pp) (w:=(w.alloc (.deferred (some []))).alloc (.loop o)) hrow (by rw [ho]; rfl) ?_ ⟨K,_,KH.sub.refl _,S2,h0⟩
 ·subst ho;refine key.mono ?_;rintro e w3 (⟨v,rfl,K',H',hs,S3,hP⟩ | ⟨v,c',rfl,K',H',hs,S3,hP⟩ | ⟨v,rfl,K',H',S3,hP⟩)
  ·have hh:=(S3.ents (.raw w0.heap.size (w.heap.size + 1) _) List.mem_cons_self).1;refine ⟨_,_,run_endLoop hh (by simp),?_⟩;have S4:=(Sx.rawTurn (A:=[]) S3 (.loop { state:=.exhausted,pending:=none,fn:=f0,tmps:=(fr nt σ).tmps,params:=#[p1,p2],assign,body,defers:=w.heap.size })).drop ((List.sublist_cons_self _ _).trans (List.sublist_cons_self _ _));exact hdone _ K' H' hs S4 hP
  ·have hh:=(S3.ents (.raw w0.heap.size (w.heap.size + 1) _) List.mem_cons_self).1;refine ⟨_,_,run_endLoop hh (by simp),?_⟩;have S4:=(Sx.rawTurn (A:=[]) S3 (.loop { state:=.exhausted,pending:=some c',fn:=f0,tmps:=(fr nt σ).tmps,params:=#[p1,p2],assign,body,defers:=w.heap.size })).drop ((List.sublist_cons_self _ _).trans (List.sublist_cons_self _ _));exact hexit c' _ K' H' hs S4 hP
  ·exact hpanic v w3 K' H' S3 hP
 ·intro i x cs w' hHS hx hR;obtain ⟨K',H',hs,S3,hP⟩:=hHS;have hfn:o.fn=f0:=by rw [ho]
  have htm:((o.params.zip #[.agg cs.toArray,.slice A i c]).foldl (fun tmps (t,a)=>tmps.setIfInBounds t a) o.tmps)=(fr nt (upd (upd σ p1 (.agg cs.toArray)) p2 (.slice A i c))).tmps:=by rw [ho]; exact apY
  rw [hfn,htm];have has:o.assign=assign:=by rw [ho]
  have hbo:o.body=body:=by rw [ho]
  rw [has,hbo];refine am7 hf ?_;refine wpIn_mono (hassign _ o i x cs K' H' w' hs S3 hP hx (aav.mono hs hR)) ?_;intro e a1 w1 he;cases e with
  | normal =>
   obtain ⟨K1,H1,σ1,rfl,hs1,S4,hJ⟩:=he;have hh:=(S4.ents (.raw w0.heap.size (w.heap.size + 1) _) List.mem_cons_self).1;refine ⟨_,run_beginRound hh (by rw [ho]),?_⟩;have S5:=Sx.rawTurn (A:=[]) S4 (.loop { o with state:=.busy });refine wpIn_mono (hbody _ { o with state:=.busy } i x K1 H1 σ1 _ hs1 S5 hJ hx) ?_;intro e a2 w2 he;cases e with
   | normal =>
    obtain ⟨K2,H2,hs2,S6,hP2⟩:=he;have hh:=(S6.ents (.raw w0.heap.size (w.heap.size + 1) _) List.mem_cons_self).1;refine ⟨_,_,run_endRound none hh,.inl ⟨rfl,K2,H2,hs2,?_,hP2⟩⟩;have S7:=Sx.rawTurn (A:=[]) S6 (.loop { o with state:=.ready,pending:=none });have ho' : ({ o with state:=.ready,pending:=none }:Loop)=o:=by rw [ho]
    rw [ho'] at S7;simpa [ho'] using S7
   | exit id =>
    obtain ⟨K2,H2,hs2,S6,hP2⟩:=he;have hh:=(S6.ents (.raw w0.heap.size (w.heap.size + 1) _) List.mem_cons_self).1;refine ⟨_,_,run_endRound (some (.exit id)) hh,.inr (.inl ⟨.exit id,rfl,K2,H2,hs2,?_,hP2⟩)⟩;exact Sx.rawTurn (A:=[]) S6 (.loop { o with state:=.done,pending:=some (.exit id) })
   | panic ch =>
    obtain ⟨hd,v,rfl,K2,H2,S6,hP2⟩:=he;exact ⟨hd,.inr (.inr ⟨v,rfl,K2,H2,S6,hP2⟩)⟩
   | ret=>exact he.elim
   | goto t=>exact he.elim
   | outgrown=>exact he.elim
  | exit id=>exact he.elim
  | goto t=>exact he.elim
  | ret=>exact he.elim
  | panic ch=>exact he.elim
  | outgrown=>exact he.elim
theorem ace {P:Program} {fn:Func} {tmps:Array Value} {R:Ending→World→Prop} {ds:List Deferred} {u:FrameMode} {K0 K:KH} {w0 w:World} {M:Nat→Prop} {A B:Ents} {base b:Nat} (hu:u ≠ .run)
  (S:Sx K0 K w0 w M (A ++ .raw base b (.deferred (some [])) :: B)) (h : ∀ w',Sx K0 K w0 w' M (A ++ B)→LeavesInM Fence.wide 0 P fn tmps R ds u w'):LeavesInM Fence.wide 0 P fn tmps R (mark b :: ds) u w:=by
 have hh:w.heap[b]?=some (.deferred (some []))∧base≤b:=S.ents (.raw base b _) (by simp);exact ⟨hu,.inl ⟨b,_,rfl,run_takeDeferred hh.1,h _ ((S.rawTurn (.deferred none)).drop ((List.Sublist.refl _).append (List.sublist_cons_self _ _)))⟩⟩
theorem Sx.rot3 {K0 K:KH} {w0 w:World} {M:Nat→Prop} {x a b:Ent} {H:Ents} (S:Sx K0 K w0 w M (x :: a :: b :: H)):Sx K0 K w0 w M (a :: b :: x :: H) :=
 S.perm ((List.Perm.cons a (List.Perm.swap x b H)).trans (List.Perm.swap x a (b :: H)))
theorem Sx.rot3' {K0 K:KH} {w0 w:World} {M:Nat→Prop} {x a b:Ent} {H:Ents} (S:Sx K0 K w0 w M (a :: b :: x :: H)):Sx K0 K w0 w M (x :: a :: b :: H) :=
 S.perm ((List.Perm.swap a x (b :: H)).trans (List.Perm.cons a (List.Perm.swap b x H)))
def GK (K:KH):Prop:=(∀ c:Nat,c < 256→K.cell 3 c=some (.int .u8 (if Lib.isSp (UInt8.ofNat c) then 1 else 0)))∧∃ m,K.cell 0 0=some (.int .i64 m)
theorem GK.mono {K K' : KH} (h:GK K) (hs:K.sub K'):GK K':=⟨fun c hc=>hs.cell (h.1 c hc),h.2.imp fun _ h=>hs.cell h⟩
def ahE:ByteArray:=⟨#[97,102,116,101,114,32,97,119,97,105,116,32,98,111,111,108,32,98,114,101,97,107,32,98,117,102,102,101,114,32,99,97,110,99,101,108,32,99,97,116,99,104,32,99,104,97,110,32,99,108,111,115,101,32,99,111,110,116,105,110,117,101,32,100,114,111,112,32,101,97,99,104,32,101,108,115,101,32,101,109,105,116,32,102,97,108,115,101,32,102,105,110,97,108,108,121,32,102,108,111,119,32,102,110,32,102,114,111,109,32,104,111,108,100,32,105,102,32,105,110,116,32,108,101,116,32,108,111,99,107,32,110,101,119,32,110,111,119,32,111,108,100,32,112,114,111,100,117,99,101,32,114,101,99,101,105,118,101,32,114,101,116,117,114,110,32,115,99,111,112,101,32,115,101,108,101,99,116,32,115,101,110,100,32,115,104,105,101,108,100,32,115,108,101,101,112,32,115,112,97,119,110,32,115,117,112,101,114,118,105,115,101,100,32,116,97,115,107,32,116,101,120,116,32,116,104,114,111,119,32,116,114,117,101,32,116,114,121,32,117,115,101,32,119,104,105,108,101,32,119,105,116,104,105,110,32,121,105,101,108,100]⟩
theorem al0 : ∀ (j:Nat) b,ahE.data.toList[j]?=some b→b.toNat < 128:=by
 have h:ahE.data.toList.all (fun b=>decide (b.toNat < 128))=true:=by kernel_rfl
 intro j b hj;simpa using List.all_eq_true.1 h b (List.mem_of_getElem? hj)
theorem Sx.below {K0 K:KH} {w0 w w' : World} {M:Nat→Prop} {H:Ents} (S:Sx K0 K w0 w M H) (h:Below w.heap.size w w'):Sx K0 K w0 w' M H :=
 S.same h.block h.size h.os h.tape h.output
theorem aip : ∀ xs:List ByteArray,(∀ x ∈ xs,x.size≤140737488355328)→Reps RStr 1 xs (xs.map Value.string)
 | [],_=>rfl
 | x :: xs,h=>⟨[.string x],xs.map Value.string,rfl,rfl,⟨rfl,h x (by simp)⟩,aip xs fun y hy=>h y (by simp [hy])⟩
theorem Sx.texts {K0 K:KH} {w0 w:World} {M:Nat→Prop} {H:Ents} {xs:List ByteArray} (S:Sx K0 K w0 w M H) (t:TypeId) (hx : ∀ x ∈ xs,x.size≤140737488355328) (hb:xs.length * 16≤140737488355328) :
  ∃ K',Sx K0 K' w0 (w.alloc (.cells (xs.map Value.string).toArray t)) M H∧K.sub K'∧RSl ByteArray RStr 1 16 K' (some ⟨w.heap.size,0,none⟩) xs.length xs:=by
 obtain ⟨K',S',hs,hr⟩:=frzI (i:=0) (bytes:=16) (size:=1) (xs:=xs) (R:=fun _=>RStr) (S.box_ (xs.map Value.string).toArray t) rfl (Nat.le_refl _) (aip xs hx) rfl hb (fun _ _ _ h=>h);exact ⟨K',S',hs,hr⟩
theorem agn (old new:List UInt8) : ∀ (k:Nat) (s:List UInt8),(Lib.replaceK old new k s).length≤s.length + k * new.length
 | 0,s=>by simp [Lib.replaceK]
 | k + 1,s=>by
  unfold Lib.replaceK;split
  ·omega
  ·have:=agn old new k (s.drop ((Lib.index s old).toNat + old.length));simp only [List.length_append,List.length_take,List.length_drop] at this ⊢;rw [Nat.succ_mul];omega
theorem ah6 (s old new:List UInt8):(Lib.replaceAll s old new).length≤s.length + (s.length + 1) * new.length:=by
 unfold Lib.replaceAll Lib.replace;split
 ·omega
 ·have h1:=agn old new (Lib.replaceNum s old (-1)) s;have h2:Lib.replaceNum s old (-1)≤s.length + 1:=by
   unfold Lib.replaceNum;rw [if_pos (by omega)];exact Lib.count_le s old
  have h3:=Nat.mul_le_mul_right new.length h2;omega
theorem aox {K0 K:KH} {w0 w:World} {M:Nat→Prop} {H:Ents} (S:Sx K0 K w0 w M H) (hG:GK K) (s old new:ByteArray) (hs:s.size≤1000) (ho:1≤old.size) (hn:new.size≤2) :
  Calls Tryz.prog 67 #[.string s,.string old,.string new] w (Ret fun v w'=>∃ r:ByteArray,v=.string r∧r.size≤s.size + (s.size + 1) * 2∧Sx K0 K w0 w' M H):=by
 obtain ⟨m,hm⟩:=hG.2;have hc:=Lib.count_le s.data.toList old.data.toList;have hsz:s.data.toList.length=s.size:=rfl;have hnz:new.data.toList.length=new.size:=rfl;have hlen:s.size + Lib.countB s old * new.size≤140737488355328:=by
  have h1:Lib.countB s old≤s.size + 1:=hc;have h2:=Nat.mul_le_mul h1 hn;omega
 refine (Tryz.strings_ReplaceAll s old new m w (by omega) (S.cell hm) ho hlen).mono ?_;rintro e w' ⟨rfl,hB⟩;refine ⟨_,rfl,_,rfl,?_,S.below hB⟩;have h1:=ah6 s.data.toList old.data.toList new.data.toList;have h2:=Nat.mul_le_mul (Nat.le_refl (s.size + 1)) hn;rw [hsz,hnz] at h1;show (Lib.replaceAll s.data.toList old.data.toList new.data.toList).toArray.size≤_;simp only [List.size_toArray];omega
theorem atp:AggB Tryz.prog 111=some false:=by kernel_rfl
theorem akm:AggB Tryz.prog 127=some false:=by kernel_rfl
theorem aun:AggB Tryz.prog 150=some false:=by kernel_rfl
theorem aq8:AggB Tryz.prog 151=some false:=by kernel_rfl
theorem aej:AggB Tryz.prog 152=some false:=by kernel_rfl
theorem amp:AggB Tryz.prog 180=some false:=by kernel_rfl
theorem aeL:AggB Tryz.prog 22=some false:=by kernel_rfl
theorem abC:AggB Tryz.prog 24=some true:=by kernel_rfl
theorem Tya3:AggB Tryz.prog 3=some false:=by kernel_rfl
theorem acb:AggB Tryz.prog 31=some false:=by kernel_rfl
theorem acr:AggB Tryz.prog 33=some true:=by kernel_rfl
theorem abk:AggB Tryz.prog 34=some false:=by kernel_rfl
theorem ael:AggB Tryz.prog 35=some false:=by kernel_rfl
theorem ack:AggB Tryz.prog 37=some true:=by kernel_rfl
theorem Tya4:AggB Tryz.prog 4=some false:=by kernel_rfl
theorem ah5:AggB Tryz.prog 40=some false:=by kernel_rfl
theorem adi:AggB Tryz.prog 42=some true:=by kernel_rfl
theorem arO:AggB Tryz.prog 45=some true:=by kernel_rfl
theorem ah2:AggB Tryz.prog 48=some false:=by kernel_rfl
theorem anx:AggB Tryz.prog 55=some true:=by kernel_rfl
theorem afO:AggB Tryz.prog 74=some true:=by kernel_rfl
theorem Tya9:AggB Tryz.prog 9=some false:=by kernel_rfl
theorem avh:AggB Tryz.prog 97=some false:=by kernel_rfl
theorem agC:AggB Tryz.prog 99=some true:=by kernel_rfl
theorem atX:aaE Tryz.prog 10=true:=by kernel_rfl
theorem arm:aaE Tryz.prog 100=true:=by kernel_rfl
theorem afu:aaE Tryz.prog 101=true:=by kernel_rfl
theorem aq3:aaE Tryz.prog 103=true:=by kernel_rfl
theorem akp:aaE Tryz.prog 104=true:=by kernel_rfl
theorem amJ:aaE Tryz.prog 105=true:=by kernel_rfl
theorem auV:aaE Tryz.prog 107=true:=by kernel_rfl
theorem auP:aaE Tryz.prog 108=true:=by kernel_rfl
theorem auJ:aaE Tryz.prog 115=true:=by kernel_rfl
theorem atu:aaE Tryz.prog 116=true:=by kernel_rfl
theorem atr:aaE Tryz.prog 117=true:=by kernel_rfl
theorem atl:aaE Tryz.prog 118=true:=by kernel_rfl
theorem ak9:aaE Tryz.prog 119=true:=by kernel_rfl
theorem aut:aaE Tryz.prog 120=true:=by kernel_rfl
theorem atd:aaE Tryz.prog 121=true:=by kernel_rfl
theorem agw:aaE Tryz.prog 122=true:=by kernel_rfl
theorem aoG:aaE Tryz.prog 123=true:=by kernel_rfl
theorem arh:aaE Tryz.prog 124=true:=by kernel_rfl
theorem afo:aaE Tryz.prog 125=true:=by kernel_rfl
theorem atM:aaE Tryz.prog 126=true:=by kernel_rfl
theorem aq5:aaE Tryz.prog 127=true:=by kernel_rfl
theorem at0:aaE Tryz.prog 134=true:=by kernel_rfl
theorem atA:aaE Tryz.prog 136=true:=by kernel_rfl
theorem anZ:aaE Tryz.prog 137=true:=by kernel_rfl
theorem auQ:aaE Tryz.prog 138=true:=by kernel_rfl
theorem auS:aaE Tryz.prog 139=true:=by kernel_rfl
theorem ard:aaE Tryz.prog 148=true:=by kernel_rfl
theorem anB:aaE Tryz.prog 149=true:=by kernel_rfl
theorem av3:aaE Tryz.prog 15=true:=by kernel_rfl
theorem arb:aaE Tryz.prog 150=true:=by kernel_rfl
theorem aqu:aaE Tryz.prog 17=true:=by kernel_rfl
theorem anF:aaE Tryz.prog 18=true:=by kernel_rfl
theorem at6:aaE Tryz.prog 19=true:=by kernel_rfl
theorem avV:aaE Tryz.prog 20=true:=by kernel_rfl
theorem art:aaE Tryz.prog 21=true:=by kernel_rfl
theorem aki:aaE Tryz.prog 24=true:=by kernel_rfl
theorem alf:aaE Tryz.prog 26=true:=by kernel_rfl
theorem avN:aaE Tryz.prog 27=true:=by kernel_rfl
theorem ar6:aaE Tryz.prog 28=true:=by kernel_rfl
theorem avR:aaE Tryz.prog 29=true:=by kernel_rfl
theorem avs:aaE Tryz.prog 30=true:=by kernel_rfl
theorem avC:aaE Tryz.prog 31=true:=by kernel_rfl
theorem aua:aaE Tryz.prog 32=true:=by kernel_rfl
theorem al1:aaE Tryz.prog 33=true:=by kernel_rfl
theorem avK:aaE Tryz.prog 34=true:=by kernel_rfl
theorem avA:aaE Tryz.prog 35=true:=by kernel_rfl
theorem ans:aaE Tryz.prog 36=true:=by kernel_rfl
theorem ats:aaE Tryz.prog 42=true:=by kernel_rfl
theorem avP:aaE Tryz.prog 43=true:=by kernel_rfl
theorem avu:aaE Tryz.prog 45=true:=by kernel_rfl
theorem avQ:aaE Tryz.prog 46=true:=by kernel_rfl
theorem auo:aaE Tryz.prog 47=true:=by kernel_rfl
theorem auT:aaE Tryz.prog 48=true:=by kernel_rfl
theorem au3:aaE Tryz.prog 49=true:=by kernel_rfl
theorem atk:aaE Tryz.prog 50=true:=by kernel_rfl
theorem avF:aaE Tryz.prog 51=true:=by kernel_rfl
theorem auA:aaE Tryz.prog 52=true:=by kernel_rfl
theorem avJ:aaE Tryz.prog 53=true:=by kernel_rfl
theorem avy:aaE Tryz.prog 54=true:=by kernel_rfl
theorem avf:aaE Tryz.prog 55=true:=by kernel_rfl
theorem avx:aaE Tryz.prog 56=true:=by kernel_rfl
theorem avB:aaE Tryz.prog 57=true:=by kernel_rfl
theorem atF:aaE Tryz.prog 62=true:=by kernel_rfl
theorem auK:aaE Tryz.prog 63=true:=by kernel_rfl
theorem avm:aaE Tryz.prog 64=true:=by kernel_rfl
theorem au2:aaE Tryz.prog 65=true:=by kernel_rfl
theorem apA:aaE Tryz.prog 68=true:=by kernel_rfl
theorem adN:aaE Tryz.prog 69=true:=by kernel_rfl
theorem Tyb7:aaE Tryz.prog 7=true:=by kernel_rfl
theorem avz:aaE Tryz.prog 70=true:=by kernel_rfl
theorem ah1:aaE Tryz.prog 71=true:=by kernel_rfl
theorem arG:aaE Tryz.prog 72=true:=by kernel_rfl
theorem avl:aaE Tryz.prog 73=true:=by kernel_rfl
theorem ave:aaE Tryz.prog 74=true:=by kernel_rfl
theorem avH:aaE Tryz.prog 75=true:=by kernel_rfl
theorem afk:aaE Tryz.prog 77=true:=by kernel_rfl
theorem avZ:aaE Tryz.prog 78=true:=by kernel_rfl
theorem avr:aaE Tryz.prog 79=true:=by kernel_rfl
theorem Tyb8:aaE Tryz.prog 8=true:=by kernel_rfl
theorem av1:aaE Tryz.prog 82=true:=by kernel_rfl
theorem ank:aaE Tryz.prog 84=true:=by kernel_rfl
theorem avd:aaE Tryz.prog 85=true:=by kernel_rfl
theorem Tyb9:aaE Tryz.prog 9=true:=by kernel_rfl
theorem avO:aaE Tryz.prog 90=true:=by kernel_rfl
theorem aug:aaE Tryz.prog 91=true:=by kernel_rfl
theorem at4:aaE Tryz.prog 92=true:=by kernel_rfl
theorem ava:aaE Tryz.prog 93=true:=by kernel_rfl
theorem avi:aaE Tryz.prog 94=true:=by kernel_rfl
theorem avX:aaE Tryz.prog 96=true:=by kernel_rfl
theorem avU:aaE Tryz.prog 97=true:=by kernel_rfl
theorem avM:aaE Tryz.prog 98=true:=by kernel_rfl
theorem avY:aaE Tryz.prog 99=true:=by kernel_rfl
theorem auj:ane Tryz.prog 118=true:=by kernel_rfl
theorem aiq:abP Tryz.prog 127=some 9:=by kernel_rfl
theorem amr:abP Tryz.prog 142=some 34:=by kernel_rfl
theorem acP:abP Tryz.prog 152=some 151:=by kernel_rfl
theorem ac3:abP Tryz.prog 22=some 42:=by kernel_rfl
theorem ab2:abP Tryz.prog 31=some 33:=by kernel_rfl
theorem abA:abP Tryz.prog 34=some 37:=by kernel_rfl
theorem aco:abP Tryz.prog 35=some 74:=by kernel_rfl
theorem agh:abP Tryz.prog 40=some 45:=by kernel_rfl
theorem abu:abP Tryz.prog 48=some 3:=by kernel_rfl
theorem ah3:abP Tryz.prog 53=some 55:=by kernel_rfl
theorem aqE:abP Tryz.prog 62=some 48:=by kernel_rfl
theorem amh:aaK Tryz.prog 154 0=some 0:=by kernel_rfl
theorem amF:aaK Tryz.prog 154 1=some 1:=by kernel_rfl
theorem afA:aaK Tryz.prog 154 2=some 7:=by kernel_rfl
theorem abr:aaK Tryz.prog 154 3=some 8:=by kernel_rfl
theorem acO:aaK Tryz.prog 154 4=some 9:=by kernel_rfl
theorem aji:aaK Tryz.prog 198 0=some 0:=by kernel_rfl
theorem adu:aaK Tryz.prog 198 1=some 1:=by kernel_rfl
theorem apq:aaK Tryz.prog 198 2=some 2:=by kernel_rfl
theorem apQ:aaK Tryz.prog 198 3=some 3:=by kernel_rfl
theorem apX:aaK Tryz.prog 198 4=some 4:=by kernel_rfl
theorem abU:aaK Tryz.prog 24 0=some 0:=by kernel_rfl
theorem aer:aaK Tryz.prog 33 0=some 0:=by kernel_rfl
theorem afa:aaK Tryz.prog 33 1=some 1:=by kernel_rfl
theorem afh:aaK Tryz.prog 33 2=some 2:=by kernel_rfl
theorem aeG:aaK Tryz.prog 33 3=some 3:=by kernel_rfl
theorem acC:aaK Tryz.prog 33 4=some 4:=by kernel_rfl
theorem abv:aaK Tryz.prog 37 0=some 0:=by kernel_rfl
theorem ac1:aaK Tryz.prog 37 1=some 1:=by kernel_rfl
theorem abi:aaK Tryz.prog 37 10=some 10:=by kernel_rfl
theorem adL:aaK Tryz.prog 37 2=some 2:=by kernel_rfl
theorem adE:aaK Tryz.prog 37 3=some 3:=by kernel_rfl
theorem agV:aaK Tryz.prog 37 4=some 4:=by kernel_rfl
theorem aca:aaK Tryz.prog 37 5=some 5:=by kernel_rfl
theorem abE:aaK Tryz.prog 37 6=some 6:=by kernel_rfl
theorem abp:aaK Tryz.prog 37 7=some 7:=by kernel_rfl
theorem acq:aaK Tryz.prog 37 8=some 8:=by kernel_rfl
theorem acJ:aaK Tryz.prog 37 9=some 9:=by kernel_rfl
theorem aiE:aaK Tryz.prog 42 0=some 0:=by kernel_rfl
theorem ac0:aaK Tryz.prog 42 1=some 1:=by kernel_rfl
theorem adF:aaK Tryz.prog 42 2=some 2:=by kernel_rfl
theorem ajU:aaK Tryz.prog 42 3=some 3:=by kernel_rfl
theorem ag3:aaK Tryz.prog 42 4=some 4:=by kernel_rfl
theorem aes:aaK Tryz.prog 42 5=some 5:=by kernel_rfl
theorem aoh:aaK Tryz.prog 45 0=some 0:=by kernel_rfl
theorem aob:aaK Tryz.prog 45 1=some 1:=by kernel_rfl
theorem ahW:aaK Tryz.prog 55 0=some 0:=by kernel_rfl
theorem adH:aaK Tryz.prog 55 1=some 1:=by kernel_rfl
theorem arL:aaK Tryz.prog 55 2=some 2:=by kernel_rfl
theorem aht:aaK Tryz.prog 74 0=some 0:=by kernel_rfl
theorem aeC:aaK Tryz.prog 74 1=some 1:=by kernel_rfl
theorem ahC:aaK Tryz.prog 74 2=some 2:=by kernel_rfl
theorem adf:aaK Tryz.prog 74 3=some 3:=by kernel_rfl
theorem ado:aaK Tryz.prog 74 4=some 4:=by kernel_rfl
theorem arv:aaK Tryz.prog 82 0=some 0:=by kernel_rfl
theorem asI:aaK Tryz.prog 82 1=some 1:=by kernel_rfl
theorem aep:aaK Tryz.prog 82 2=some 7:=by kernel_rfl
theorem al3:aaK Tryz.prog 95 0=some 0:=by kernel_rfl
theorem aoa:aaK Tryz.prog 95 1=some 1:=by kernel_rfl
theorem ahT:aaK Tryz.prog 95 2=some 2:=by kernel_rfl
theorem arE:aaK Tryz.prog 99 0=some 0:=by kernel_rfl
theorem arF:aaK Tryz.prog 99 1=some 1:=by kernel_rfl
theorem anQ:(Tryz.prog.info? 151).map (fun i=>(i.zero,i.size,i.bytes))=some (some (.map none),1,8):=by kernel_rfl
theorem Tyi3:(Tryz.prog.info? 3).map (fun i=>(i.zero,i.size,i.bytes))=some (some (.int .i64 0),1,8):=by kernel_rfl
theorem asi:(Tryz.prog.info? 33).map (fun i=>(i.zero,i.size,i.bytes))=some (some (.agg #[.int .i64 0,.int .i64 0,.string ⟨#[]⟩,.int .i64 0,.slice none 0 0]),5,64):=by kernel_rfl
theorem avw:(Tryz.prog.info? 34).map (fun i=>(i.zero,i.size,i.bytes))=some (some (.slice none 0 0),1,24):=by kernel_rfl
theorem am6:(Tryz.prog.info? 37).map (fun i=>(i.zero,i.size,i.bytes))=some (some (.agg #[.int .i64 0,.string ⟨#[]⟩,.int .i64 0,.string ⟨#[]⟩,.int .i64 0,.int .i64 0,.slice none 0 0,.slice none 0 0,.slice none 0 0,.slice none 0 0,.slice none 0 0]),11,184):=by kernel_rfl
theorem au0:(Tryz.prog.info? 42).map (fun i=>(i.zero,i.size,i.bytes))=some (some (.agg #[.string ⟨#[]⟩,.slice none 0 0,.int .i64 0,.bool false,.int .i64 0,.slice none 0 0]),6,88):=by kernel_rfl
theorem avj:(Tryz.prog.info? 45).map (fun i=>(i.zero,i.size,i.bytes))=some (some (.agg #[.string ⟨#[]⟩,.int .i64 0]),2,24):=by kernel_rfl
theorem avE:(Tryz.prog.info? 48).map (fun i=>(i.zero,i.size,i.bytes))=some (some (.slice none 0 0),1,24):=by kernel_rfl
theorem auZ:(Tryz.prog.info? 55).map (fun i=>(i.zero,i.size,i.bytes))=some (some (.agg #[.int .i64 0,.int .i64 0,.string ⟨#[]⟩]),3,32):=by kernel_rfl
theorem asp:(Tryz.prog.info? 74).map (fun i=>(i.zero,i.size,i.bytes))=some (some (.agg #[.int .i64 0,.string ⟨#[]⟩,.int .i64 0,.slice none 0 0,.slice none 0 0]),5,80):=by kernel_rfl
theorem Tyi9:(Tryz.prog.info? 9).map (fun i=>(i.zero,i.size,i.bytes))=some (some (.string ⟨#[]⟩),1,16):=by kernel_rfl
theorem Tyk3:aen Tryz.prog 3=some .i64:=by kernel_rfl
theorem asW:aen Tryz.prog 61=some .u64:=by kernel_rfl
theorem acH:MpB Tryz.prog 100 3 99=true:=by kernel_rfl
theorem acg:MpB Tryz.prog 132 3 48=true:=by kernel_rfl
theorem ao5:MpB Tryz.prog 151 9 3=true:=by kernel_rfl
theorem abj:MpB Tryz.prog 200 3 198=true:=by kernel_rfl
theorem aih:MpB Tryz.prog 211 3 3=true:=by kernel_rfl
theorem Tyo4:apz Tryz.prog 4=true:=by kernel_rfl
theorem auy:iisB Tryz.prog 55 3 3 9=true:=by kernel_rfl
theorem atN:aaN Tryz.prog 127=some 1:=by kernel_rfl
theorem afp:aaN Tryz.prog 151=some 1:=by kernel_rfl
theorem aia:aaN Tryz.prog 152=some 1:=by kernel_rfl
theorem ail:aaN Tryz.prog 198=some 5:=by kernel_rfl
theorem av5:aaN Tryz.prog 22=some 1:=by kernel_rfl
theorem aa2:aaN Tryz.prog 24=some 1:=by kernel_rfl
theorem Tys3:aaN Tryz.prog 3=some 1:=by kernel_rfl
theorem ajk:aaN Tryz.prog 31=some 1:=by kernel_rfl
theorem abh:aaN Tryz.prog 33=some 5:=by kernel_rfl
theorem adJ:aaN Tryz.prog 34=some 1:=by kernel_rfl
theorem aru:aaN Tryz.prog 35=some 1:=by kernel_rfl
theorem aaX:aaN Tryz.prog 37=some 11:=by kernel_rfl
theorem auv:aaN Tryz.prog 40=some 1:=by kernel_rfl
theorem aby:aaN Tryz.prog 42=some 6:=by kernel_rfl
theorem ajH:aaN Tryz.prog 45=some 2:=by kernel_rfl
theorem atb:aaN Tryz.prog 48=some 1:=by kernel_rfl
theorem ae9:aaN Tryz.prog 55=some 3:=by kernel_rfl
theorem act:aaN Tryz.prog 74=some 5:=by kernel_rfl
theorem Tys9:aaN Tryz.prog 9=some 1:=by kernel_rfl
theorem atz:aaN Tryz.prog 95=some 3:=by kernel_rfl
theorem adG:aaN Tryz.prog 99=some 2:=by kernel_rfl
theorem Tyt9:StrB Tryz.prog 9=true:=by kernel_rfl
theorem ame:acR Tryz.prog 151=some (.map none):=by kernel_rfl
theorem ahg:acR Tryz.prog 198=some (.agg #[.int .i64 0,.bool false,.int .i64 0,.int .i64 0,.bool false]):=by kernel_rfl
theorem aff:acR Tryz.prog 24=some (.agg #[.slice none 0 0]):=by kernel_rfl
theorem Tyz3:acR Tryz.prog 3=some (.int .i64 0):=by kernel_rfl
theorem agD:acR Tryz.prog 33=some (.agg #[.int .i64 0,.int .i64 0,.string ⟨#[]⟩,.int .i64 0,.slice none 0 0]):=by kernel_rfl
theorem au8:acR Tryz.prog 34=some (.slice none 0 0):=by kernel_rfl
theorem adc:acR Tryz.prog 37=some (.agg #[.int .i64 0,.string ⟨#[]⟩,.int .i64 0,.string ⟨#[]⟩,.int .i64 0,.int .i64 0,.slice none 0 0,.slice none 0 0,.slice none 0 0,.slice none 0 0,.slice none 0 0]):=by kernel_rfl
theorem alW:acR Tryz.prog 42=some (.agg #[.string ⟨#[]⟩,.slice none 0 0,.int .i64 0,.bool false,.int .i64 0,.slice none 0 0]):=by kernel_rfl
theorem arV:acR Tryz.prog 45=some (.agg #[.string ⟨#[]⟩,.int .i64 0]):=by kernel_rfl
theorem arR:acR Tryz.prog 48=some (.slice none 0 0):=by kernel_rfl
theorem apT:acR Tryz.prog 55=some (.agg #[.int .i64 0,.int .i64 0,.string ⟨#[]⟩]):=by kernel_rfl
theorem aiC:acR Tryz.prog 74=some (.agg #[.int .i64 0,.string ⟨#[]⟩,.int .i64 0,.slice none 0 0,.slice none 0 0]):=by kernel_rfl
theorem Tyz9:acR Tryz.prog 9=some (.string ⟨#[]⟩):=by kernel_rfl
theorem auh:acR Tryz.prog 95=some (.agg #[.int .i64 0,.int .i64 0,.bool false]):=by kernel_rfl
theorem ah7:acR Tryz.prog 99=some (.agg #[.slice none 0 0,.int .i64 0]):=by kernel_rfl
theorem ymx:Tryz.prog.follows .mixedOrders=true:=by kernel_rfl
abbrev LE:=List aal
abbrev LS:=List aag
abbrev LC:=List aaz
abbrev LF:=List aaf
abbrev LP:=List aaL
abbrev LB:=List ByteArray
abbrev LM:=List (List (ByteArray × Int))
abbrev OA:=Option Addr
abbrev BA:=ByteArray
abbrev iI (x:Int):Value:=.int .i64 x
abbrev pp (b o:Nat):Value:=.pointer (some ⟨b,o,none⟩)
abbrev vE (a b:Int) (s:BA) (c:Int) (A:OA) (x:LE) (m:Nat):List Value:=[iI a,iI b,.string s,iI c,.slice A x.length m]
abbrev vC (a:Int) (s:BA) (b:Int) (A:OA) (x:LE) (m:Nat) (B:OA) (y:LS) (n:Nat):List Value:=[iI a,.string s,iI b,.slice A x.length m,.slice B y.length n]
abbrev vS (a:Int) (s:BA) (b:Int) (u:BA) (c d:Int) (A:OA) (x:LE) (m:Nat) (A1:OA) (x1:LS) (m1:Nat) (A2:OA) (x2:LS) (m2:Nat) (A3:OA) (x3:LS) (m3:Nat) (A4:OA) (x4:LC) (m4:Nat):List Value :=
 [iI a,.string s,iI b,.string u,iI c,iI d,.slice A x.length m,.slice A1 x1.length m1,.slice A2 x2.length m2,.slice A3 x3.length m3,.slice A4 x4.length m4]
abbrev vF (s:BA) (A:OA) (x:LP) (m:Nat) (a:Int) (b:Bool) (c:Int) (B:OA) (y:LS) (n:Nat):List Value:=[.string s,.slice A x.length m,iI a,.bool b,iI c,.slice B y.length n]
abbrev vR (A:OA) (x:LF) (m:Nat) (s:BA) (B:OA) (y:LP) (n:Nat) (a:Int) (b:Bool) (c:Int) (A1:OA) (x1:LS) (m1:Nat) (A2:OA) (x2:LB) (m2:Nat) (A3:OA) (x3:LM) (m3:Nat) (d:Int):List Value :=
 [.slice A x.length m,.string s,.slice B y.length n,iI a,.bool b,iI c,.slice A1 x1.length m1,.slice A2 x2.length m2,.slice A3 x3.length m3,iI d]
abbrev sl {α:Type} (A:OA) (x:List α) (c:Nat):Value:=.slice A x.length c
abbrev nS:Value:=.slice none 0 0
abbrev sE:Value:=.string ⟨#[]⟩
abbrev vT:Value:=.bool true
abbrev vN:Value:=.bool false
abbrev zS:List Value:=[iI 0,sE,iI 0,sE,iI 0,iI 0,nS,nS,nS,nS,nS]
abbrev zE:List Value:=[iI 0,iI 0,sE,iI 0,nS]
abbrev zC:List Value:=[iI 0,sE,iI 0,nS,nS]
abbrev zF:List Value:=[sE,nS,iI 0,vN,iI 0,nS]
def lbl:Nat→Nat→List Bool
 | 0,_=>[]
 | n + 1,m=>(m % 2 == 1) :: lbl n (m / 2)
def lb (n m:Nat):Array Bool:=(lbl n m).toArray
theorem cg {a b:Bool} (h:a=b):Value.bool a=Value.bool b:=congrArg Value.bool h
theorem ob {α β:Type} {x:Option α} {f:α→Option β} {b:β} (h:x.bind f=some b) : ∃ a,x=some a∧f a=some b:=Option.bind_eq_some_iff.1 h
theorem cd {α:Type} {G:Prop} {b:Bool} {x y:α} {r:α} (h:cond b x y=r) (k1:b=true→x=r→G) (k2:b=false→y=r→G):G:=by
 cases b
 ·exact k2 rfl h
 ·exact k1 rfl h
theorem ca {K0 K K1:KH} {w0 w w1:World} {M:Nat→Prop} {H1 H2 H1' : Ents} (T:Sx K K1 w w1 (fun b=>b ∈ Ents.blks H1) H1') (S:Sx K0 K w0 w M (H1 ++ H2)):Sx K0 K1 w0 w1 M (H1' ++ H2):=S.call T
theorem pt {K0 K:KH} {w0 w:World} {M:Nat→Prop} {H1 H2:Ents} (S:Sx K0 K w0 w M (H1 ++ H2)):Sx K K w w (fun b=>b ∈ Ents.blks H1) H1:=S.part H1 (List.sublist_append_left _ _)
theorem oi {α:Type} {a b:α} (h:some a=some b):a=b:=Option.some.inj h
theorem rz {α:Type} {x:Option α} {r:α} (h:x=some r) : ∃ r_,r_=r∧x=some r_:=⟨r,rfl,h⟩
abbrev SR (K0 K:KH) (w0 w:World) (L H:Ents):Prop:=Sx K0 K w0 w (fun b=>b ∈ Ents.blks L) H
theorem fR {n:Nat} {σ:Nat→Value} {l:List (Nat × Value)} (h:Live σ l:=by (repeat' (first | exact trivial | refine ⟨rfl,?_⟩))):fr n σ=fr n (updL σ l):=frL h
theorem kr {K:KH}:K.sub K:=KH.sub.refl K
theorem me {K K' : KH} {A:OA} {c:Nat} {xs:LE} (h:RSl aal (aam K) 5 64 K A c xs) (hs:K.sub K'):RSl aal (aam K') 5 64 K' A c xs:=h.mono hs (fun _ _ h=>aam.mono hs h)
theorem ms {K K' : KH} {A:OA} {c:Nat} {xs:LS} (h:RSl aag (aaj K) 11 184 K A c xs) (hs:K.sub K'):RSl aag (aaj K') 11 184 K' A c xs:=h.mono hs (fun _ _ h=>aaj.mono hs h)
theorem mc {K K' : KH} {A:OA} {c:Nat} {xs:LC} (h:RSl aaz (aaI K) 5 80 K A c xs) (hs:K.sub K'):RSl aaz (aaI K') 5 80 K' A c xs:=h.mono hs (fun _ _ h=>aaI.mono hs h)
theorem mf {K K' : KH} {A:OA} {c:Nat} {xs:LF} (h:RSl aaf (aav K) 6 88 K A c xs) (hs:K.sub K'):RSl aaf (aav K') 6 88 K' A c xs:=h.mono hs (fun _ _ h=>aav.mono hs h)
theorem mp {K K' : KH} {A:OA} {c:Nat} {xs:LP} (h:RSl aaL (aaV K) 2 24 K A c xs) (hs:K.sub K'):RSl aaL (aaV K') 2 24 K' A c xs:=h.mono hs (fun _ _ h=>aaV.mono hs h)
section
variable {P:Program} {Q:Exit→Act→World→Prop} {a:Act} {w:World} {next:Act→World→Prop}
theorem wt {ops:Array Oper} (h:next a w):wpList P ops (Exit.then next Q) [] a w:=h
theorem sr {id:Nat} {l:List Oper} {y:Code} (h:wpList P l.toArray (Exit.then (y.wp P Q) Q) l a w):(Code.seq (Code.region id l.toArray false) y).wp P Q a w:=wp_seq (wp_region_lit h)
end
section
variable {P:Program} {ops:Array Oper} {Q:Exit→Act→World→Prop} {rest:List Oper} {n:Nat} {σ:Nat→Value} {w:World} {ty:TypeId} {pos:String} {aft:Array Edge} {t:Tmp}
theorem m1 {x:Operand} (v:Value) (h:wpList P ops Q rest (fr n (upd σ t v)) w) (hx:ev n σ x=v:=by exact rfl):wpList P ops Q (⟨some t,.move x,ty,pos,aft,none⟩ :: rest) (fr n σ) w:=mv hx h
theorem m2 {x:Operand} (v:Value) (h:wpList P ops Q rest (fr n (upd σ t v)) w) (hx:ev n σ x=v:=by exact rfl):wpList P ops Q (⟨some t,.assign x,ty,pos,aft,none⟩ :: rest) (fr n σ) w:=asg hx h
theorem m3 {c x y:Operand} (b:Bool) (v:Value) (hc:ev n σ c=.bool b) (h:wpList P ops Q rest (fr n (upd σ t v)) w) (hv:(cond b (ev n σ x) (ev n σ y))=v:=by exact rfl):wpList P ops Q (⟨some t,.pick c x y,ty,pos,aft,none⟩ :: rest) (fr n σ) w:=pick hc hv h
theorem n0 {dst:Option Tmp} {op:Op} {j:Nat} {b:Bool} (d:Tmp) (h:wpList P ops Q (⟨dst,op,ty,pos,aft,none⟩ :: rest) (fr n σ) w) (hj:(ops[j]?).bind (·.dst)=some d:=by exact rfl) (hb:ev n σ (.tmp d)=.bool b:=by exact rfl):wpList P ops Q (⟨dst,op,ty,pos,aft,some (j,b)⟩ :: rest) (fr n σ) w:=aub hj hb h
theorem n1 {dst:Option Tmp} {op:Op} {j:Nat} {b x y:Bool} (d:Tmp) (hx:x=y) (h:wpList P ops Q (⟨dst,op,ty,pos,aft,none⟩ :: rest) (fr n σ) w) (hj:(ops[j]?).bind (·.dst)=some d:=by exact rfl) (hb:ev n σ (.tmp d)=.bool x:=by exact rfl) (hy:y=b:=by exact rfl):wpList P ops Q (⟨dst,op,ty,pos,aft,some (j,b)⟩ :: rest) (fr n σ) w:=aub hj (by rw [hb,hx,hy]) h
theorem o0 {op:Op} {j:Nat} {b:Bool} (d:Tmp) (h:wpList P ops Q rest (fr n (upd σ t undef)) w) (hj:(ops[j]?).bind (·.dst)=some d:=by exact rfl) (hb:ev n σ (.tmp d)=.bool (!b):=by exact rfl):wpList P ops Q (⟨some t,op,ty,pos,aft,some (j,b)⟩ :: rest) (fr n σ) w:=aq7 hj hb h
theorem o1 {op:Op} {j:Nat} {b x y:Bool} (d:Tmp) (hx:x=y) (h:wpList P ops Q rest (fr n (upd σ t undef)) w) (hj:(ops[j]?).bind (·.dst)=some d:=by exact rfl) (hb:ev n σ (.tmp d)=.bool x:=by exact rfl) (hy:y=!b:=by exact rfl):wpList P ops Q (⟨some t,op,ty,pos,aft,some (j,b)⟩ :: rest) (fr n σ) w:=aq7 hj (by rw [hb,hx,hy]) h
theorem ou {op:Op} {j:Nat} {b:Bool} (d:Tmp) (h:wpList P ops Q rest (fr n (upd σ t undef)) w) (hj:(ops[j]?).bind (·.dst)=some d:=by exact rfl) (hb:ev n σ (.tmp d)=undef:=by exact rfl):wpList P ops Q (⟨some t,op,ty,pos,aft,some (j,b)⟩ :: rest) (fr n σ) w:=asw hj hb h
theorem fd {s f:Nat} {x:Operand} {b o off:Nat} (o' : Nat) (hf:aaK P s f=some off) (hx:ev n σ x=.pointer (some ⟨b,o,none⟩)) (h:wpList P ops Q rest (fr n (upd σ t (.pointer (some ⟨b,o',none⟩)))) w) (ho:o + off=o':=by exact rfl):wpList P ops Q (⟨some t,.fieldAddr s x f,ty,pos,aft,none⟩ :: rest) (fr n σ) w:=fld hf hx ho h
theorem lS {s:TypeId} {x:Operand} {A:Option Addr} {cap e:Nat} (len:Nat) (he:abP P s=some e) (h:wpList P ops Q rest (fr n (upd σ t (.int .i64 len))) w) (hx:ev n σ x=.slice A len cap:=by exact rfl):wpList P ops Q (⟨some t,.call { callee:=.builtin .len,args:=#[x],argTypes:=#[s] },ty,pos,aft,none⟩ :: rest) (fr n σ) w:=lnS he hx h
theorem c0 {op:BinOp} {xt yt:TypeId} {x y:Operand} {k:IntKind} {a b:Int} (r:Bool) (h:wpList P ops Q rest (fr n (upd σ t (.bool r))) w) (hx:ev n σ x=.int k a:=by exact rfl) (hy:ev n σ y=.int k b:=by exact rfl) (hr:icmp op a b=some r:=by exact rfl):wpList P ops Q (⟨some t,.binOp op xt x y yt,ty,pos,aft,none⟩ :: rest) (fr n σ) w:=bcm hx hy hr h
theorem c1 {op:BinOp} {xt yt:TypeId} {x y:Operand} {k:IntKind} {a b r:Int} (hx:ev n σ x=.int k a) (hy:ev n σ y=.int k b) (hr:alt k op a b=some r) (h:wpList P ops Q rest (fr n (upd σ t (.int k r))) w):wpList P ops Q (⟨some t,.binOp op xt x y yt,ty,pos,aft,none⟩ :: rest) (fr n σ) w:=bar hx hy hr h
theorem uN {xt:TypeId} {x:Operand} (a:Bool) (h:wpList P ops Q rest (fr n (upd σ t (.bool (!a)))) w) (hx:ev n σ x=.bool a:=by exact rfl):wpList P ops Q (⟨some t,.unOp .not xt x,ty,pos,aft,none⟩ :: rest) (fr n σ) w:=unot hx h
theorem lD {x:Operand} {b o:Nat} {s size:Nat} (cs:List Value) (ha:AggB P s=some true) (hs:aaN P s=some size) (hx:ev n σ x=.pointer (some ⟨b,o,none⟩)) (hc:afr (fun j=>w.cell? ⟨b,j,none⟩) o cs) (h:wpList P ops Q rest (fr n (upd σ t (.agg cs.toArray))) w) (hl:cs.length=size:=by exact rfl):wpList P ops Q (⟨some t,.load s x,ty,pos,aft,none⟩ :: rest) (fr n σ) w:=ldN ha hs hx hl hc h
theorem cv {f:Operand} {args:Array Operand} {ts:Array TypeId} {g:FuncId} (vs:List Value) {R:Value→World→Prop} (hb:aaE P g=true) (hc:Calls P g vs.toArray w (Ret R)) (h : ∀ v w',R v w'→wpList P ops Q rest (fr n (upd σ t v)) w') (hf:ev n σ f=.func (.func g) #[] #[]:=by exact rfl) (ha:args.toList.map (ev n σ) ++ (#[]:Array Value).toList=vs:=by exact rfl):wpList P ops Q (⟨some t,.call { callee:=.value f,args:=args,argTypes:=ts },ty,pos,aft,none⟩ :: rest) (fr n σ) w:=clV hf hb ha hc h
theorem cp {f:Operand} {args:Array Operand} {ts:Array TypeId} {g:FuncId} (vs:List Value) {R R' : Value→World→Prop} (hb:aaE P g=true) (hc:Calls P g vs.toArray w (RetP R R')) (h : ∀ v w',R v w'→wpList P ops Q rest (fr n (upd σ t v)) w') (h' : ∀ v w',R' v w'→Q (.panic [{ v,recovered:=false }]) (fr n σ) w') (hf:ev n σ f=.func (.func g) #[] #[]:=by exact rfl) (ha:args.toList.map (ev n σ) ++ (#[]:Array Value).toList=vs:=by exact rfl):wpList P ops Q (⟨some t,.call { callee:=.value f,args:=args,argTypes:=ts },ty,pos,aft,none⟩ :: rest) (fr n σ) w:=clP hf hb ha hc h h'
variable {K0 K:KH} {w0:World} {M:Nat→Prop} {H:Ents}
theorem l1 {x:Operand} {base b o:Nat} {cs:Array Value} {bt s:TypeId} (i:Nat) (v:Value) (S:Sx K0 K w0 w M H) (ha:AggB P s=some false) (h:wpList P ops Q rest (fr n (upd σ t v)) w) (hi:H[i]?=some (.box base b cs bt):=by exact rfl) (hx:ev n σ x=.pointer (some ⟨b,o,none⟩):=by exact rfl) (hc:cs[o]?=some v:=by exact rfl):wpList P ops Q (⟨some t,.load s x,ty,pos,aft,none⟩ :: rest) (fr n σ) w:=lb1 S hi ha hx hc h
theorem lN {size:Nat} {x:Operand} {base b o:Nat} {cs:Array Value} {bt s:TypeId} (i:Nat) (l:List Value) (S:Sx K0 K w0 w M H) (ha:AggB P s=some true) (hs:aaN P s=some size) (h:wpList P ops Q rest (fr n (upd σ t (.agg l.toArray))) w) (hi:H[i]?=some (.box base b cs bt):=by exact rfl) (hx:ev n σ x=.pointer (some ⟨b,o,none⟩):=by exact rfl) (hc:(cs.toList.drop o).take size=l:=by exact rfl) (hl:l.length=size:=by exact rfl):wpList P ops Q (⟨some t,.load s x,ty,pos,aft,none⟩ :: rest) (fr n σ) w:=lbN S hi ha hs hx hc hl h
theorem aC {s:TypeId} {z:Value} (cs:Array Value) (S:Sx K0 K w0 w M H) (hz:acR P s=some z) (h : ∀ w',Sx K0 K w0 w' M (.box w0.heap.size w.heap.size cs s :: H)→wpList P ops Q rest (fr n (upd σ t (.pointer (some ⟨w.heap.size,0,none⟩)))) w') (hc:z.cells=cs:=by exact rfl):wpList P ops Q (⟨some t,.alloc s,ty,pos,aft,none⟩ :: rest) (fr n σ) w:=alcC S hz hc h
theorem sI {s size:Nat} {x y:Operand} {base b o:Nat} {bt:TypeId} {cs:Array Value} (i:Nat) (v:Value) (cs' : Array Value) (S:Sx K0 K w0 w M H) (hs:aaN P s=some size) (hi:H[i]?=some (.box base b cs bt)) (hx:ev n σ x=.pointer (some ⟨b,o,none⟩))
 (h : ∀ w',Sx K0 K w0 w' M (H.set i (.box base b cs' bt))→wpList P ops Q rest (fr n σ) w') (hy:ev n σ y=v:=by exact rfl) (hl:v.cells.size=size:=by exact rfl) (h1:v.cells.toList.all one=true:=by exact rfl) (hin:o + size≤cs.size:=by exact Nat.le_of_ble_eq_true rfl) (hc:acN cs.toList o v.cells.toList=cs'.toList:=by exact rfl):wpList P ops Q (⟨none,.store s x y,ty,pos,aft,none⟩ :: rest) (fr n σ) w:=stoI S hi hs hx hy hl h1 hin hc h
end
section
variable {P:Program} {ops:Array Oper} {Q:Exit→Act→World→Prop} {E:List Nat} {F:World→Prop} {n:Nat} {σ:Nat→Value} {w:World} {ty:TypeId} {pos:String} {aft:Array Edge}
theorem aO {fuel:Nat} {L:Array Bool} {a:Act} (i:Nat) {o:Oper} (hi:ops[i]?=some o) (h:wpList P ops (Exit.then (fun a' w'=>Held E F (L.setIfInBounds i true) w'∧AnyE P ops Q E F fuel (L.setIfInBounds i true) a' w') Q) [o] a w) (hr:Region.ready .any ops L=[i]:=by kernel_rfl):AnyE P ops Q E F (fuel + 1) L a w:=ab0 hr (by simp) (allC (opL hi h) allN)
theorem aD {fuel:Nat} {L:Array Bool} {a:Act} (h:Q .normal a w) (hr:Region.ready .any ops L=[]:=by kernel_rfl):AnyE P ops Q E F fuel L a w:=ajK hr h
theorem cT {c:Operand} {x y:Code} {a:Bool} (hb:a=true) (h:x.wp P Q (fr n σ) w) (hc:ev n σ c=.bool a:=by exact rfl):(Code.cond c x y).wp P Q (fr n σ) w:=cndT (by rw [hc,hb]) h
theorem cF {c:Operand} {x y:Code} {a:Bool} (hb:a=false) (h:y.wp P Q (fr n σ) w) (hc:ev n σ c=.bool a:=by exact rfl):(Code.cond c x y).wp P Q (fr n σ) w:=cndF (by rw [hc,hb]) h
end
abbrev zz (w:World):Nat:=w.heap.size
abbrev mB:Nat:=140737488355328
abbrev tE (K:KH):OA→Nat→LE→Prop:=RSl aal (aam K) 5 64 K
abbrev tS (K:KH):OA→Nat→LS→Prop:=RSl aag (aaj K) 11 184 K
abbrev tC (K:KH):OA→Nat→LC→Prop:=RSl aaz (aaI K) 5 80 K
abbrev tF (K:KH):OA→Nat→LF→Prop:=RSl aaf (aav K) 6 88 K
abbrev tP (K:KH):OA→Nat→LP→Prop:=RSl aaL (aaV K) 2 24 K
theorem fq {K0 K:KH} {w0 w:World} {M:Nat→Prop} {H H' : Ents} (is:List Nat) (S:Sx K0 K w0 w M H') (h:is.filterMap (fun i=>H'[i]?)=H:=by exact rfl):FW K H w:=fwOf S kr h
section
variable {K0 K:KH} {w0 w:World} {M:Nat→Prop} {a b c d e f g h i:Ent} {l:Ents}
theorem auU (S:Sx K0 K w0 w M (a :: b :: c :: d :: e :: l)):Sx K0 K w0 w M [a,b,c,d,e]:=S.sel [0,1,2,3,4]
theorem auO (S:Sx K0 K w0 w M (a :: b :: c :: d :: e :: l)):Sx K0 K w0 w M [a,b,c,e,d]:=S.sel [0,1,2,4,3]
theorem ahK (S:Sx K0 K w0 w M (a :: b :: c :: d :: e :: l)):Sx K0 K w0 w M [a,d,e,b,c]:=S.sel [0,3,4,1,2]
theorem aq9 (S:Sx K0 K w0 w M (a :: b :: c :: d :: e :: l)):Sx K0 K w0 w M [a,e,b,c,d]:=S.sel [0,4,1,2,3]
theorem p102 (S:Sx K0 K w0 w M (a :: b :: c :: l)):Sx K0 K w0 w M [b,a,c]:=S.sel [1,0,2]
theorem p10 (S:Sx K0 K w0 w M (a :: b :: l)):Sx K0 K w0 w M [b,a]:=S.sel [1,0]
theorem atg (S:Sx K0 K w0 w M (a :: b :: c :: d :: l)):Sx K0 K w0 w M [b,c,a,d]:=S.sel [1,2,0,3]
theorem p120 (S:Sx K0 K w0 w M (a :: b :: c :: l)):Sx K0 K w0 w M [b,c,a]:=S.sel [1,2,0]
theorem aum (S:Sx K0 K w0 w M (a :: b :: c :: d :: e :: l)):Sx K0 K w0 w M [b,c,d,a,e]:=S.sel [1,2,3,0,4]
theorem ao0 (S:Sx K0 K w0 w M (a :: b :: c :: d :: e :: f :: g :: h :: i :: l)):Sx K0 K w0 w M [b,c,d,e,f,g,h,i]:=S.sel [1,2,3,4,5,6,7,8]
theorem aiZ (S:Sx K0 K w0 w M (a :: b :: c :: d :: e :: f :: g :: h :: l)):Sx K0 K w0 w M [b,c,d,e,f,g,h]:=S.sel [1,2,3,4,5,6,7]
theorem aof (S:Sx K0 K w0 w M (a :: b :: c :: d :: e :: f :: g :: l)):Sx K0 K w0 w M [b,c,d,e,f,g]:=S.sel [1,2,3,4,5,6]
theorem av6 (S:Sx K0 K w0 w M (a :: b :: c :: d :: e :: f :: l)):Sx K0 K w0 w M [b,c,d,e,f]:=S.sel [1,2,3,4,5]
theorem apV (S:Sx K0 K w0 w M (a :: b :: c :: d :: e :: l)):Sx K0 K w0 w M [b,c,d,e]:=S.sel [1,2,3,4]
theorem p123 (S:Sx K0 K w0 w M (a :: b :: c :: d :: l)):Sx K0 K w0 w M [b,c,d]:=S.sel [1,2,3]
theorem p12 (S:Sx K0 K w0 w M (a :: b :: c :: l)):Sx K0 K w0 w M [b,c]:=S.sel [1,2]
theorem aoq (S:Sx K0 K w0 w M (a :: b :: c :: d :: e :: f :: l)):Sx K0 K w0 w M [b,d,e,a,c,f]:=S.sel [1,3,4,0,2,5]
theorem apK (S:Sx K0 K w0 w M (a :: b :: c :: d :: e :: f :: g :: l)):Sx K0 K w0 w M [b,e,f,a,c,d,g]:=S.sel [1,4,5,0,2,3,6]
theorem p201 (S:Sx K0 K w0 w M (a :: b :: c :: l)):Sx K0 K w0 w M [c,a,b]:=S.sel [2,0,1]
theorem asC (S:Sx K0 K w0 w M (a :: b :: c :: d :: e :: f :: l)):Sx K0 K w0 w M [c,b,d,e,a,f]:=S.sel [2,1,3,4,0,5]
theorem aqY (S:Sx K0 K w0 w M (a :: b :: c :: d :: e :: l)):Sx K0 K w0 w M [c,d,e,a,b]:=S.sel [2,3,4,0,1]
theorem asA (S:Sx K0 K w0 w M (a :: b :: c :: d :: e :: f :: l)):Sx K0 K w0 w M [c,d,e,f,a,b]:=S.sel [2,3,4,5,0,1]
theorem aps (S:Sx K0 K w0 w M (a :: b :: c :: d :: e :: f :: g :: l)):Sx K0 K w0 w M [d,e,f,a,b,c,g]:=S.sel [3,4,5,0,1,2,6]
theorem aso (S:Sx K0 K w0 w M (a :: b :: c :: d :: e :: f :: l)):Sx K0 K w0 w M [d,e,f,a,b,c]:=S.sel [3,4,5,0,1,2]
theorem anP (S:Sx K0 K w0 w M (a :: b :: c :: d :: e :: f :: l)):Sx K0 K w0 w M [e,a,b,c,d,f]:=S.sel [4,0,1,2,3,5]
theorem aux (S:Sx K0 K w0 w M (a :: b :: c :: d :: e :: l)):Sx K0 K w0 w M [e,a,b,c,d]:=S.sel [4,0,1,2,3]
end
abbrev aE (a b:Int) (s:BA) (c:Int) (A:OA) (x:LE) (m:Nat):Array Value:=(vE a b s c A x m).toArray
abbrev aC' (a:Int) (s:BA) (b:Int) (A:OA) (x:LE) (m:Nat) (B:OA) (y:LS) (n:Nat):Array Value:=(vC a s b A x m B y n).toArray
abbrev aS (a:Int) (s:BA) (b:Int) (u:BA) (c d:Int) (A:OA) (x:LE) (m:Nat) (A1:OA) (x1:LS) (m1:Nat) (A2:OA) (x2:LS) (m2:Nat) (A3:OA) (x3:LS) (m3:Nat) (A4:OA) (x4:LC) (m4:Nat):Array Value:=(vS a s b u c d A x m A1 x1 m1 A2 x2 m2 A3 x3 m3 A4 x4 m4).toArray
abbrev aF (s:BA) (A:OA) (x:LP) (m:Nat) (a:Int) (b:Bool) (c:Int) (B:OA) (y:LS) (n:Nat):Array Value:=(vF s A x m a b c B y n).toArray
abbrev aR (A:OA) (x:LF) (m:Nat) (s:BA) (B:OA) (y:LP) (n:Nat) (a:Int) (b:Bool) (c:Int) (A1:OA) (x1:LS) (m1:Nat) (A2:OA) (x2:LB) (m2:Nat) (A3:OA) (x3:LM) (m3:Nat) (d:Int):Array Value:=(vR A x m s B y n a b c A1 x1 m1 A2 x2 m2 A3 x3 m3 d).toArray
abbrev eW {α:Type} (b:Nat) (A:OA) (x:List α) (c t s:Nat) (y:List Value):Ent:=.row b (sl A x c) t s x.length y
abbrev eK {α:Type} (b:Nat) (A:OA) (x:List α) (c t:Nat) (y:List (Nat × Array MapEntry × Nat)):Ent:=.stk b (sl A x c) t x.length y
section
variable {P:Program} {ops:Array Oper} {Q:Exit→Act→World→Prop} {E:List Nat} {F:World→Prop} {n:Nat} {σ:Nat→Value} {w:World} {ty:TypeId} {pos:String} {aft:Array Edge} {fuel:Nat} {t:Tmp} {L:Array Bool}
theorem hE {E:List Nat} {F:World→Prop} {L:Array Bool} {w:World} (i:Nat) (h1:E.contains i=true:=by kernel_rfl) (h2:L.getD i true=true:=by kernel_rfl):Held E F L w:=atf h1 h2
theorem wb {ops' : Array Oper} {a:Act} {Q' : Exit→Act→World→Prop} (hF:F w) (h:F w→AnyE P ops Q E F fuel L a w):wpList P ops' (Exit.then (fun a' w'=>Held E F L w'∧AnyE P ops Q E F fuel L a' w') Q') [] a w:=⟨abV hF,h hF⟩
theorem rA {id:Nat} {l:List Oper} {a:Act} {K0 K:KH} {w0 w:World} {M:Nat→Prop} {H:Ents} (E:List Nat) (is:List Nat) (S:Sx K0 K w0 w M H)
  (h:Sx K0 K w0 w.drew M H→FW K (is.filterMap (fun i=>H[i]?)) w.drew→AnyE P l.toArray Q E (FW K (is.filterMap (fun i=>H[i]?))) l.length (Array.replicate l.length false) a w.drew) (hm:P.follows .mixedOrders=true:=by exact ymx):(Code.region id l.toArray true).wp P Q a w :=
 afx hm rfl rfl (h S.drew (fq is S.drew))
theorem kK {op:Op} (i:Nat) (v:Value) (hi:ops[i]?=some ⟨some t,op,ty,pos,aft,none⟩) (hy : ∀ w,(execOp (ev n σ) ⟨some t,op,ty,pos,aft,none⟩).run P w=.ok (.value v) w) (hF:F w)
 (h:AnyE P ops Q E F fuel (L.setIfInBounds i true) (fr n (upd σ t v)) w) (hsel:Region.noSelect ops=true:=by kernel_rfl) (hb:adC ops E [] L i=true:=by kernel_rfl) (hQ:PQ Q:=by exact fun _ _ d _ _ h=>by cases d <;> exact h):AnyE P ops Q E F (fuel + 1) L (fr n σ) w:=tkP hi hsel hb hQ hy (abV hF) rfl h
theorem kH {op:Op} (i:Nat) (v:Value) (hi:ops[i]?=some ⟨some t,op,ty,pos,aft,none⟩) (hy : ∀ w,(execOp (ev n σ) ⟨some t,op,ty,pos,aft,none⟩).run P w=.ok (.value v) w) (j:Nat)
 (h:AnyE P ops Q E F fuel (L.setIfInBounds i true) (fr n (upd σ t v)) w) (h1:E.contains j=true:=by kernel_rfl) (h2:L.getD j true=true:=by kernel_rfl) (hsel:Region.noSelect ops=true:=by kernel_rfl) (hb:adC ops E [] L i=true:=by kernel_rfl) (hQ:PQ Q:=by exact fun _ _ d _ _ h=>by cases d <;> exact h):AnyE P ops Q E F (fuel + 1) L (fr n σ) w:=tkP hi hsel hb hQ hy (atf h1 h2) rfl h
theorem kM {x:Operand} (i:Nat) (v:Value) (hi:ops[i]?=some ⟨some t,.move x,ty,pos,aft,none⟩) (hF:F w)
 (h:AnyE P ops Q E F fuel (L.setIfInBounds i true) (fr n (upd σ t v)) w) (hx:ev n σ x=v:=by exact rfl) (hsel:Region.noSelect ops=true:=by kernel_rfl) (hb:adC ops E [] L i=true:=by kernel_rfl) (hQ:PQ Q:=by exact fun _ _ d _ _ h=>by cases d <;> exact h):AnyE P ops Q E F (fuel + 1) L (fr n σ) w:=tkP hi hsel hb hQ (fun _=>mv_r hx) (abV hF) rfl h
theorem kG {x:Operand} (i:Nat) (v:Value) (hi:ops[i]?=some ⟨some t,.assign x,ty,pos,aft,none⟩) (hF:F w)
 (h:AnyE P ops Q E F fuel (L.setIfInBounds i true) (fr n (upd σ t v)) w) (hx:ev n σ x=v:=by exact rfl) (hsel:Region.noSelect ops=true:=by kernel_rfl) (hb:adC ops E [] L i=true:=by kernel_rfl) (hQ:PQ Q:=by exact fun _ _ d _ _ h=>by cases d <;> exact h):AnyE P ops Q E F (fuel + 1) L (fr n σ) w:=tkP hi hsel hb hQ (fun _=>acM hx) (abV hF) rfl h
theorem kN {x:Operand} {a:Addr} (i:Nat) (hi:ops[i]?=some ⟨some t,.nilCheck x,ty,pos,aft,none⟩) (hx:ev n σ x=.pointer (some a)) (hF:F w)
 (h:AnyE P ops Q E F fuel (L.setIfInBounds i true) (fr n (upd σ t (.pointer (some a)))) w) (hsel:Region.noSelect ops=true:=by kernel_rfl) (hb:adC ops E [] L i=true:=by kernel_rfl) (hQ:PQ Q:=by exact fun _ _ d _ _ h=>by cases d <;> exact h):AnyE P ops Q E F (fuel + 1) L (fr n σ) w:=tkP hi hsel hb hQ (fun _=>aqQ hx) (abV hF) rfl h
theorem kF {s f:Nat} {x:Operand} {b o off:Nat} (i o' : Nat) (hi:ops[i]?=some ⟨some t,.fieldAddr s x f,ty,pos,aft,none⟩) (hf:aaK P s f=some off) (hx:ev n σ x=.pointer (some ⟨b,o,none⟩)) (hF:F w)
 (h:AnyE P ops Q E F fuel (L.setIfInBounds i true) (fr n (upd σ t (pp b o'))) w) (ho:o + off=o':=by exact rfl) (hsel:Region.noSelect ops=true:=by kernel_rfl) (hb:adC ops E [] L i=true:=by kernel_rfl) (hQ:PQ Q:=by exact fun _ _ d _ _ h=>by cases d <;> exact h):AnyE P ops Q E F (fuel + 1) L (fr n σ) w:=tkP hi hsel hb hQ (fun _=>akw hf hx ho) (abV hF) rfl h
theorem kA {op:BinOp} {xt yt:TypeId} {x y:Operand} {a b:Int} (i:Nat) (r:Int) (hi:ops[i]?=some ⟨some t,.binOp op xt x y yt,ty,pos,aft,none⟩) (hF:F w)
 (h:AnyE P ops Q E F fuel (L.setIfInBounds i true) (fr n (upd σ t (iI r))) w) (hx:ev n σ x=iI a:=by exact rfl) (hy:ev n σ y=iI b:=by exact rfl) (hr:alt .i64 op a b=some r:=by exact rfl) (hsel:Region.noSelect ops=true:=by kernel_rfl) (hb:adC ops E [] L i=true:=by kernel_rfl) (hQ:PQ Q:=by exact fun _ _ d _ _ h=>by cases d <;> exact h):AnyE P ops Q E F (fuel + 1) L (fr n σ) w:=tkP hi hsel hb hQ (fun _=>arw hx hy hr) (abV hF) rfl h
theorem kC {op:BinOp} {xt yt:TypeId} {x y:Operand} {k:IntKind} {a b:Int} (i:Nat) (r:Bool) (hi:ops[i]?=some ⟨some t,.binOp op xt x y yt,ty,pos,aft,none⟩) (hF:F w)
 (h:AnyE P ops Q E F fuel (L.setIfInBounds i true) (fr n (upd σ t (.bool r))) w) (hx:ev n σ x=.int k a:=by exact rfl) (hy:ev n σ y=.int k b:=by exact rfl) (hr:icmp op a b=some r:=by exact rfl) (hsel:Region.noSelect ops=true:=by kernel_rfl) (hb:adC ops E [] L i=true:=by kernel_rfl) (hQ:PQ Q:=by exact fun _ _ d _ _ h=>by cases d <;> exact h):AnyE P ops Q E F (fuel + 1) L (fr n σ) w:=tkP hi hsel hb hQ (fun _=>am2 hx hy hr) (abV hF) rfl h
theorem kL {s:TypeId} {x:Operand} {A:Option Addr} {cap e:Nat} (i len:Nat) (hi:ops[i]?=some ⟨some t,.call { callee:=.builtin .len,args:=#[x],argTypes:=#[s] },ty,pos,aft,none⟩) (he:abP P s=some e) (hF:F w)
 (h:AnyE P ops Q E F fuel (L.setIfInBounds i true) (fr n (upd σ t (iI len))) w) (hx:ev n σ x=.slice A len cap:=by exact rfl) (hsel:Region.noSelect ops=true:=by kernel_rfl) (hb:adC ops E [] L i=true:=by kernel_rfl) (hQ:PQ Q:=by exact fun _ _ d _ _ h=>by cases d <;> exact h):AnyE P ops Q E F (fuel + 1) L (fr n σ) w:=tkP hi hsel hb hQ (fun _=>atw he hx) (abV hF) rfl h
theorem tT {op:Op} (i:Nat) (v:Value) (ps:List (List Nat)) (hi:ops[i]?=some ⟨some t,op,ty,pos,aft,none⟩) (hF:F w) (hy : ∀ w,F w→(execOp (ev n σ) ⟨some t,op,ty,pos,aft,none⟩).run P w=.ok (.value v) w)
 (h:AnyE P ops Q E F fuel (L.setIfInBounds i true) (fr n (upd σ t v)) w) (hsel:Region.noSelect ops=true:=by kernel_rfl) (hb:adC ops E ps L i=true:=by kernel_rfl) (hw:amU ops i E ps=true:=by kernel_rfl) (hlt:E.all (fun e=>decide (e < ops.size))=true:=by kernel_rfl) (hQ:PQ Q:=by exact fun _ _ d _ _ h=>by cases d <;> exact h):AnyE P ops Q E F (fuel + 1) L (fr n σ) w:=tkF hi hsel hb hw hlt hQ hF hy rfl h
theorem tL {K:KH} {H:Ents} {x:Operand} {base b o:Nat} {cs:Array Value} {bt s:TypeId} (i:Nat) (v:Value) (ps:List (List Nat)) (j:Nat) (hi:ops[i]?=some ⟨some t,.load s x,ty,pos,aft,none⟩) (ha:AggB P s=some false) (hF:FW K H w)
 (h:AnyE P ops Q E (FW K H) fuel (L.setIfInBounds i true) (fr n (upd σ t v)) w) (hj:H[j]?=some (.box base b cs bt):=by exact rfl) (hx:ev n σ x=.pointer (some ⟨b,o,none⟩):=by exact rfl) (hc:cs[o]?=some v:=by exact rfl)
 (hsel:Region.noSelect ops=true:=by kernel_rfl) (hb:adC ops E ps L i=true:=by kernel_rfl) (hw:amU ops i E ps=true:=by kernel_rfl) (hlt:E.all (fun e=>decide (e < ops.size))=true:=by kernel_rfl) (hQ:PQ Q:=by exact fun _ _ d _ _ h=>by cases d <;> exact h):AnyE P ops Q E (FW K H) (fuel + 1) L (fr n σ) w:=tkF hi hsel hb hw hlt hQ hF (fun _ hF=>atK hF hj ha hx hc) rfl h
end
end Go.Proofs.YtoegpkmhifmamaaGreatDoor
