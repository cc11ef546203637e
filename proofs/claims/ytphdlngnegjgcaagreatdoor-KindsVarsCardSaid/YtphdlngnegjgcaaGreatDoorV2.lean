/- Words of the proof, part 2; nothing is claimed here. -/
import Derived.Test.YtphdlngnegjgcaaGreatDoorV1
import Derived.Shelf.Strings.Fields
import Derived.Shelf.Strings.Replace
import Derived.Test.YtphdlngnegjgcaaGreatDoorProg
import Derived.Laws.OwnMore
import Derived.Scope
import Derived.Defers
import Derived.Recover
set_option linter.unusedVariables false
set_option linter.unusedSimpArgs false
namespace Go.Proofs
open Go.Shelf
def Tryz.lays157_ren:Go.Shelf.Ren:=⟨fun | 157=>166 | 229=>181 | 199=>182 | 261=>192 | 311=>195 | 312=>196 | n=>n,fun | 9=>9 | 31=>107 | 3=>3 | 5=>5 | 4=>4 | 119=>219 | 0=>0 | 40=>221 | 152=>236 | 21=>21 | 154=>238 | 51=>239 | 141=>241 | 196=>248 | 193=>245 | 198=>251 | 49=>249 | 194=>246 | 201=>254 | 226=>256 | 46=>226 | 227=>257 | n=>n,fun | 0=>0 | 6=>4 | n=>n⟩
theorem Tryz.lays157:Go.Proofs.Lays.n157 Tryz.prog Tryz.lays157_ren:={
 mixed:=by kernel_rfl
 f157:=Tryz.func166.trans (congrArg some (by kernel_rfl))
 f199:=Tryz.func182.trans (congrArg some (by kernel_rfl))
 f229:=Tryz.func181.trans (congrArg some (by kernel_rfl))
 f261:=Tryz.func192.trans (congrArg some (by kernel_rfl))
 f311:=Tryz.func195.trans (congrArg some (by kernel_rfl))
 f312:=Tryz.func196.trans (congrArg some (by kernel_rfl))
 t0:=Tryz.underlying0
 a0:=Tryz.isAgg0
 z0:=Tryz.sizeOf0
 v0:=Tryz.zeroValue0
 t3:=Tryz.underlying3
 a3:=Tryz.isAgg3
 z3:=Tryz.sizeOf3
 v3:=Tryz.zeroValue3
 t4:=Tryz.underlying4
 a4:=Tryz.isAgg4
 z4:=Tryz.sizeOf4
 v4:=Tryz.zeroValue4
 t5:=Tryz.underlying5
 a5:=Tryz.isAgg5
 z5:=Tryz.sizeOf5
 v5:=Tryz.zeroValue5
 t9:=Tryz.underlying9
 a9:=Tryz.isAgg9
 z9:=Tryz.sizeOf9
 v9:=Tryz.zeroValue9
 t21:=Tryz.underlying21
 a21:=Tryz.isAgg21
 z21:=Tryz.sizeOf21
 v21:=Tryz.zeroValue21
 t31:=Tryz.underlying107
 a31:=Tryz.isAgg107
 z31:=Tryz.sizeOf107
 v31:=Tryz.zeroValue107
 t40:=Tryz.underlying221
 a40:=Tryz.isAgg221
 z40:=Tryz.sizeOf221
 v40:=Tryz.zeroValue221
 t46:=Tryz.underlying226
 a46:=Tryz.isAgg226
 z46:=Tryz.sizeOf226
 v46:=Tryz.zeroValue226
 t49:=Tryz.underlying249
 a49:=Tryz.isAgg249
 z49:=Tryz.sizeOf249
 v49:=Tryz.zeroValue249
 t51:=Tryz.underlying239
 a51:=Tryz.isAgg239
 z51:=Tryz.sizeOf239
 v51:=Tryz.zeroValue239
 t119:=Tryz.underlying219
 a119:=Tryz.isAgg219
 z119:=Tryz.sizeOf219
 t141:=Tryz.underlying241
 a141:=Tryz.isAgg241
 z141:=Tryz.sizeOf241
 v141:=Tryz.zeroValue241
 t152:=Tryz.underlying236
 a152:=Tryz.isAgg236
 z152:=Tryz.sizeOf236
 v152:=Tryz.zeroValue236
 t154:=Tryz.underlying238
 a154:=Tryz.isAgg238
 z154:=Tryz.sizeOf238
 v154:=Tryz.zeroValue238
 t193:=Tryz.underlying245
 a193:=Tryz.isAgg245
 z193:=Tryz.sizeOf245
 v193:=Tryz.zeroValue245
 t194:=Tryz.underlying246
 a194:=Tryz.isAgg246
 z194:=Tryz.sizeOf246
 v194:=Tryz.zeroValue246
 t196:=Tryz.underlying248
 a196:=Tryz.isAgg248
 z196:=Tryz.sizeOf248
 v196:=Tryz.zeroValue248
 t198:=Tryz.underlying251
 a198:=Tryz.isAgg251
 z198:=Tryz.sizeOf251
 v198:=Tryz.zeroValue251
 t201:=Tryz.underlying254
 a201:=Tryz.isAgg254
 z201:=Tryz.sizeOf254
 v201:=Tryz.zeroValue254
 t226:=Tryz.underlying256
 a226:=Tryz.isAgg256
 z226:=Tryz.sizeOf256
 v226:=Tryz.zeroValue256
 t227:=Tryz.underlying257
 a227:=Tryz.isAgg257
 z227:=Tryz.sizeOf257
 v227:=Tryz.zeroValue257
 g0:=by kernel_rfl
 g6:=by kernel_rfl }
open Go.RowKit Go.Lib in
def Tryz.lays155_ren:Go.Shelf.Ren:=⟨fun | 155=>96 | 154=>127 | 138=>150 | 165=>151 | 143=>152 | 166=>153 | 197=>154 | 169=>155 | 195=>171 | 218=>172 | 240=>173 | 241=>174 | 219=>175 | 260=>176 | 276=>183 | 277=>184 | 217=>185 | 225=>186 | 224=>187 | 267=>188 | 266=>193 | 314=>194 | n=>n,fun | 9=>9 | 3=>3 | 4=>4 | 72=>190 | 0=>0 | 76=>193 | 105=>195 | 21=>21 | 5=>5 | 70=>187 | 20=>20 | 37=>188 | 75=>192 | 127=>216 | 164=>222 | 46=>226 | 119=>219 | 139=>229 | 138=>228 | 146=>242 | 51=>239 | 80=>197 | n=>n,fun | 1=>1 | 3=>2 | 4=>3 | n=>n⟩
theorem Tryz.lays155:Go.Proofs.Lays.n155 Tryz.prog Tryz.lays155_ren:={
 mixed:=by kernel_rfl
 f138:=Tryz.func150.trans (congrArg some (by kernel_rfl))
 f143:=Tryz.func152.trans (congrArg some (by kernel_rfl))
 f154:=Tryz.func127.trans (congrArg some (by kernel_rfl))
 f155:=Tryz.func96.trans (congrArg some (by kernel_rfl))
 f165:=Tryz.func151.trans (congrArg some (by kernel_rfl))
 f166:=Tryz.func153.trans (congrArg some (by kernel_rfl))
 f169:=Tryz.func155.trans (congrArg some (by kernel_rfl))
 f195:=Tryz.func171.trans (congrArg some (by kernel_rfl))
 f197:=Tryz.func154.trans (congrArg some (by kernel_rfl))
 f217:=Tryz.func185.trans (congrArg some (by kernel_rfl))
 f218:=Tryz.func172.trans (congrArg some (by kernel_rfl))
 f219:=Tryz.func175.trans (congrArg some (by kernel_rfl))
 f224:=Tryz.func187.trans (congrArg some (by kernel_rfl))
 f225:=Tryz.func186.trans (congrArg some (by kernel_rfl))
 f240:=Tryz.func173.trans (congrArg some (by kernel_rfl))
 f241:=Tryz.func174.trans (congrArg some (by kernel_rfl))
 f260:=Tryz.func176.trans (congrArg some (by kernel_rfl))
 f266:=Tryz.func193.trans (congrArg some (by kernel_rfl))
 f267:=Tryz.func188.trans (congrArg some (by kernel_rfl))
 f276:=Tryz.func183.trans (congrArg some (by kernel_rfl))
 f277:=Tryz.func184.trans (congrArg some (by kernel_rfl))
 f314:=Tryz.func194.trans (congrArg some (by kernel_rfl))
 t0:=Tryz.underlying0
 a0:=Tryz.isAgg0
 z0:=Tryz.sizeOf0
 v0:=Tryz.zeroValue0
 t3:=Tryz.underlying3
 a3:=Tryz.isAgg3
 z3:=Tryz.sizeOf3
 v3:=Tryz.zeroValue3
 t4:=Tryz.underlying4
 a4:=Tryz.isAgg4
 z4:=Tryz.sizeOf4
 v4:=Tryz.zeroValue4
 t5:=Tryz.underlying5
 a5:=Tryz.isAgg5
 z5:=Tryz.sizeOf5
 v5:=Tryz.zeroValue5
 t9:=Tryz.underlying9
 a9:=Tryz.isAgg9
 z9:=Tryz.sizeOf9
 v9:=Tryz.zeroValue9
 t20:=Tryz.underlying20
 a20:=Tryz.isAgg20
 z20:=Tryz.sizeOf20
 v20:=Tryz.zeroValue20
 t21:=Tryz.underlying21
 a21:=Tryz.isAgg21
 z21:=Tryz.sizeOf21
 v21:=Tryz.zeroValue21
 t37:=Tryz.underlying188
 a37:=Tryz.isAgg188
 z37:=Tryz.sizeOf188
 v37:=Tryz.zeroValue188
 t46:=Tryz.underlying226
 a46:=Tryz.isAgg226
 z46:=Tryz.sizeOf226
 v46:=Tryz.zeroValue226
 t51:=Tryz.underlying239
 a51:=Tryz.isAgg239
 z51:=Tryz.sizeOf239
 v51:=Tryz.zeroValue239
 t70:=Tryz.underlying187
 a70:=Tryz.isAgg187
 z70:=Tryz.sizeOf187
 v70:=Tryz.zeroValue187
 t72:=Tryz.underlying190
 a72:=Tryz.isAgg190
 z72:=Tryz.sizeOf190
 v72:=Tryz.zeroValue190
 t75:=Tryz.underlying192
 a75:=Tryz.isAgg192
 z75:=Tryz.sizeOf192
 v75:=Tryz.zeroValue192
 t76:=Tryz.underlying193
 a76:=Tryz.isAgg193
 z76:=Tryz.sizeOf193
 v76:=Tryz.zeroValue193
 t105:=Tryz.underlying195
 a105:=Tryz.isAgg195
 z105:=Tryz.sizeOf195
 v105:=Tryz.zeroValue195
 t119:=Tryz.underlying219
 a119:=Tryz.isAgg219
 z119:=Tryz.sizeOf219
 t127:=Tryz.underlying216
 a127:=Tryz.isAgg216
 z127:=Tryz.sizeOf216
 v127:=Tryz.zeroValue216
 t138:=Tryz.underlying228
 a138:=Tryz.isAgg228
 z138:=Tryz.sizeOf228
 v138:=Tryz.zeroValue228
 t139:=Tryz.underlying229
 a139:=Tryz.isAgg229
 z139:=Tryz.sizeOf229
 v139:=Tryz.zeroValue229
 t146:=Tryz.underlying242
 a146:=Tryz.isAgg242
 z146:=Tryz.sizeOf242
 v146:=Tryz.zeroValue242
 t164:=Tryz.underlying222
 a164:=Tryz.isAgg222
 z164:=Tryz.sizeOf222
 v164:=Tryz.zeroValue222
 g1:=by kernel_rfl
 g3:=by kernel_rfl
 g4:=by kernel_rfl }
theorem Tryz.Builder_Extra_155:Builder.Extra Tryz.prog Tryz.lays155_ren:={
 sizeBuilder:=by kernel_rfl
 liesBuilder:=by kernel_rfl
 t5:=Tryz.underlying5
 a5:=Tryz.isAgg5
 z5:=Tryz.sizeOf5
 v5:=Tryz.zeroValue5
 infoByte:=by kernel_rfl
 cellsByte:=by kernel_rfl
 sizeByte:=by kernel_rfl
 neB5:=by decide }
open Go.RowKit Go.Lib in
theorem Tryz.strings_ReplaceAll(s old new:ByteArray)(m:Int)(w:World)(hs:s.size<4294967281)(hm:w.cell? ⟨1,0,none⟩=some (.int .i64 m))(h1:1≤old.size)(hlen:s.size+Lib.countB s old*new.size≤140737488355328) :
 Calls Tryz.prog 96 #[.string s,.string old,.string new] w fun e w' =>
  e=.returned (.string ⟨(Lib.replaceAll s.data.toList old.data.toList new.data.toList).toArray⟩)∧Below w.heap.size w w':=Any.strings_ReplaceAll Tryz.lays155 Tryz.Builder_Extra_155 s old new m w hs hm h1 hlen
end Go.Proofs
namespace Go.Proofs.YtphdlngnegjgcaaGreatDoor
open Go Go.RowKit
def RInt(k:IntKind)(x:Int)(cs:List Value):Prop:=cs=[.int k x]
def axF(x:Bool)(cs:List Value):Prop:=cs=[.bool x]
def RStr(x:ByteArray)(cs:List Value):Prop:=cs=[.string x]∧x.size≤140737488355328
def RSlE(α:Type)(R:KH→α→List Value→Prop)(size bytes:Nat)(K:KH)(xs:List α)(cs:List Value):Prop:=∃A c,cs=[.slice A xs.length c]∧RSl α (R K) size bytes K A c xs
theorem RInt.one{k:IntKind}{x:Int}{cs:List Value}(h:RInt k x cs):cs.all (fun u=>u.oneCell')=true:=by cases h;rfl
theorem axF.one{x:Bool}{cs:List Value}(h:axF x cs):cs.all (fun u=>u.oneCell')=true:=by cases h;rfl
theorem RStr.one{x:ByteArray}{cs:List Value}(h:RStr x cs):cs.all (fun u=>u.oneCell')=true:=by cases h.1;rfl
theorem RSlE.one{α:Type}{R:KH→α→List Value→Prop}{size bytes:Nat}{K:KH}{xs:List α}{cs:List Value}(h:RSlE α R size bytes K xs cs):cs.all (fun u=>u.oneCell')=true:=by obtain⟨A,c,rfl,_⟩:=h;rfl
theorem RSlE.mono{α:Type}{R:KH→α→List Value→Prop}{size bytes:Nat}{K K' : KH}{xs:List α}{cs:List Value}(hR : ∀{K K' : KH},K.sub K'→∀x cs,R K x cs→R K' x cs)(hs:K.sub K')(h:RSlE α R size bytes K xs cs):RSlE α R size bytes K' xs cs:=by
 obtain⟨A,c,h1,h2⟩:=h;exact⟨A,c,h1,h2.mono hs (hR hs)⟩
inductive aah where
 | mk (f0:Int) (f1:Int) (f2:ByteArray) (f3:Int) (f4:(List aah))
instance:Inhabited aah:=⟨.mk default default default default default⟩
inductive aai(K:KH):aah→List Value→Prop
 | mk {x_0:Int} {x_1:Int} {x_2:ByteArray} {x_3:Int} {x_4:(List aah)} {Ax_4:Option Addr} {cx_4:Nat} (sx_2:x_2.size≤140737488355328) (bx_4 ox_4:Nat) (csx_4:Nat→List Value) (h1x_4:x_4.length≤cx_4) (h2x_4:x_4.length*64≤140737488355328) (h3x_4:x_4≠[]→Ax_4=some ⟨bx_4,ox_4,none⟩) (h4x_4 : ∀i,i<x_4.length→(csx_4 i).length=5∧adZ (K.cell bx_4) (ox_4+i*5) (csx_4 i)) (h5x_4 : ∀i y,x_4[i]?=some y→aai K y (csx_4 i)):aai K (.mk x_0 x_1 x_2 x_3 x_4) [.int .i64 x_0,.int .i64 x_1,.string x_2,.int .i64 x_3,.slice Ax_4 x_4.length cx_4]
theorem aai.mono{K K' : KH}(hs:K.sub K') : ∀{x:aah} {cs:List Value},aai K x cs→aai K' x cs
 | _,_,.mk sx_2 bx_4 ox_4 csx_4 h1x_4 h2x_4 h3x_4 h4x_4 h5x_4=>.mk sx_2 bx_4 ox_4 csx_4 h1x_4 h2x_4 h3x_4 (fun i hi=>⟨(h4x_4 i hi).1,fun j v hj=>hs.cell ((h4x_4 i hi).2 j v hj)⟩) (fun i y hy=>aai.mono hs (h5x_4 i y hy))
theorem aai.open{K:KH}{x_0:Int}{x_1:Int}{x_2:ByteArray}{x_3:Int}{x_4:(List aah)}{cs:List Value}(h:aai K (.mk x_0 x_1 x_2 x_3 x_4) cs) : ∃(Ax_4:Option Addr) (cx_4:Nat),cs=[.int .i64 x_0,.int .i64 x_1,.string x_2,.int .i64 x_3,.slice Ax_4 x_4.length cx_4]∧x_2.size≤140737488355328∧RSl aah (aai K) 5 64 K Ax_4 cx_4 x_4:=by
 cases h with
 | mk sx_2 bx_4 ox_4 csx_4 h1x_4 h2x_4 h3x_4 h4x_4 h5x_4=>exact⟨_,_,rfl,sx_2,⟨h1x_4,h2x_4,bx_4,ox_4,csx_4,h3x_4,h4x_4,h5x_4⟩⟩
theorem aai.intro{K:KH}{x_0:Int}{x_1:Int}{x_2:ByteArray}{x_3:Int}{x_4:(List aah)}{Ax_4:Option Addr}{cx_4:Nat}(h0:x_2.size≤140737488355328)(h1:RSl aah (aai K) 5 64 K Ax_4 cx_4 x_4):aai K (.mk x_0 x_1 x_2 x_3 x_4) [.int .i64 x_0,.int .i64 x_1,.string x_2,.int .i64 x_3,.slice Ax_4 x_4.length cx_4]:=by
 obtain⟨h1x_4,h2x_4,bx_4,ox_4,csx_4,h3x_4,h4x_4,h5x_4⟩:=h1;exact .mk h0 bx_4 ox_4 csx_4 h1x_4 h2x_4 h3x_4 h4x_4 h5x_4
theorem aai.one{K:KH}{x:aah}{cs:List Value}(h:aai K x cs):cs.all (fun u=>u.oneCell')=true:=by cases h;rfl
theorem aai.size{K:KH}{x:aah}{cs:List Value}(h:aai K x cs):cs.length=5:=by cases h;rfl
mutual
inductive aae where
 | mk (f0:Int) (f1:ByteArray) (f2:Int) (f3:ByteArray) (f4:Int) (f5:Int) (f6:(List aah)) (f7:(List aae)) (f8:(List aae)) (f9:(List aae)) (f10:(List aap))
inductive aap where
 | mk (f0:Int) (f1:ByteArray) (f2:Int) (f3:(List aah)) (f4:(List aae))
end
instance:Inhabited aae:=⟨.mk default default default default default default default default default default default⟩
instance:Inhabited aap:=⟨.mk default default default default default⟩
mutual
inductive aag(K:KH):aae→List Value→Prop
 | mk {x_0:Int} {x_1:ByteArray} {x_2:Int} {x_3:ByteArray} {x_4:Int} {x_5:Int} {x_6:(List aah)} {x_7:(List aae)} {x_8:(List aae)} {x_9:(List aae)} {x_10:(List aap)} {Ax_6:Option Addr} {cx_6:Nat} {Ax_7:Option Addr} {cx_7:Nat} {Ax_8:Option Addr} {cx_8:Nat} {Ax_9:Option Addr} {cx_9:Nat} {Ax_10:Option Addr} {cx_10:Nat} (sx_1:x_1.size≤140737488355328) (sx_3:x_3.size≤140737488355328) (rx_6:RSl aah (aai K) 5 64 K Ax_6 cx_6 x_6) (bx_7 ox_7:Nat) (csx_7:Nat→List Value) (h1x_7:x_7.length≤cx_7) (h2x_7:x_7.length*184≤140737488355328) (h3x_7:x_7≠[]→Ax_7=some ⟨bx_7,ox_7,none⟩) (h4x_7 : ∀i,i<x_7.length→(csx_7 i).length=11∧adZ (K.cell bx_7) (ox_7+i*11) (csx_7 i)) (h5x_7 : ∀i y,x_7[i]?=some y→aag K y (csx_7 i)) (bx_8 ox_8:Nat) (csx_8:Nat→List Value) (h1x_8:x_8.length≤cx_8) (h2x_8:x_8.length*184≤140737488355328) (h3x_8:x_8≠[]→Ax_8=some ⟨bx_8,ox_8,none⟩) (h4x_8 : ∀i,i<x_8.length→(csx_8 i).length=11∧adZ (K.cell bx_8) (ox_8+i*11) (csx_8 i)) (h5x_8 : ∀i y,x_8[i]?=some y→aag K y (csx_8 i)) (bx_9 ox_9:Nat) (csx_9:Nat→List Value) (h1x_9:x_9.length≤cx_9) (h2x_9:x_9.length*184≤140737488355328) (h3x_9:x_9≠[]→Ax_9=some ⟨bx_9,ox_9,none⟩) (h4x_9 : ∀i,i<x_9.length→(csx_9 i).length=11∧adZ (K.cell bx_9) (ox_9+i*11) (csx_9 i)) (h5x_9 : ∀i y,x_9[i]?=some y→aag K y (csx_9 i)) (bx_10 ox_10:Nat) (csx_10:Nat→List Value) (h1x_10:x_10.length≤cx_10) (h2x_10:x_10.length*80≤140737488355328) (h3x_10:x_10≠[]→Ax_10=some ⟨bx_10,ox_10,none⟩) (h4x_10 : ∀i,i<x_10.length→(csx_10 i).length=5∧adZ (K.cell bx_10) (ox_10+i*5) (csx_10 i)) (h5x_10 : ∀i y,x_10[i]?=some y→aar K y (csx_10 i)):aag K (.mk x_0 x_1 x_2 x_3 x_4 x_5 x_6 x_7 x_8 x_9 x_10) [.int .i64 x_0,.string x_1,.int .i64 x_2,.string x_3,.int .i64 x_4,.int .i64 x_5,.slice Ax_6 x_6.length cx_6,.slice Ax_7 x_7.length cx_7,.slice Ax_8 x_8.length cx_8,.slice Ax_9 x_9.length cx_9,.slice Ax_10 x_10.length cx_10]
inductive aar(K:KH):aap→List Value→Prop
 | mk {x_0:Int} {x_1:ByteArray} {x_2:Int} {x_3:(List aah)} {x_4:(List aae)} {Ax_3:Option Addr} {cx_3:Nat} {Ax_4:Option Addr} {cx_4:Nat} (sx_1:x_1.size≤140737488355328) (rx_3:RSl aah (aai K) 5 64 K Ax_3 cx_3 x_3) (bx_4 ox_4:Nat) (csx_4:Nat→List Value) (h1x_4:x_4.length≤cx_4) (h2x_4:x_4.length*184≤140737488355328) (h3x_4:x_4≠[]→Ax_4=some ⟨bx_4,ox_4,none⟩) (h4x_4 : ∀i,i<x_4.length→(csx_4 i).length=11∧adZ (K.cell bx_4) (ox_4+i*11) (csx_4 i)) (h5x_4 : ∀i y,x_4[i]?=some y→aag K y (csx_4 i)):aar K (.mk x_0 x_1 x_2 x_3 x_4) [.int .i64 x_0,.string x_1,.int .i64 x_2,.slice Ax_3 x_3.length cx_3,.slice Ax_4 x_4.length cx_4]
end
mutual
theorem aag.mono{K K' : KH}(hs:K.sub K') : ∀{x:aae} {cs:List Value},aag K x cs→aag K' x cs
 | _,_,.mk sx_1 sx_3 rx_6 bx_7 ox_7 csx_7 h1x_7 h2x_7 h3x_7 h4x_7 h5x_7 bx_8 ox_8 csx_8 h1x_8 h2x_8 h3x_8 h4x_8 h5x_8 bx_9 ox_9 csx_9 h1x_9 h2x_9 h3x_9 h4x_9 h5x_9 bx_10 ox_10 csx_10 h1x_10 h2x_10 h3x_10 h4x_10 h5x_10=>.mk sx_1 sx_3 (rx_6.mono hs (fun _ _ h=>aai.mono hs h)) bx_7 ox_7 csx_7 h1x_7 h2x_7 h3x_7 (fun i hi=>⟨(h4x_7 i hi).1,fun j v hj=>hs.cell ((h4x_7 i hi).2 j v hj)⟩) (fun i y hy=>aag.mono hs (h5x_7 i y hy)) bx_8 ox_8 csx_8 h1x_8 h2x_8 h3x_8 (fun i hi=>⟨(h4x_8 i hi).1,fun j v hj=>hs.cell ((h4x_8 i hi).2 j v hj)⟩) (fun i y hy=>aag.mono hs (h5x_8 i y hy)) bx_9 ox_9 csx_9 h1x_9 h2x_9 h3x_9 (fun i hi=>⟨(h4x_9 i hi).1,fun j v hj=>hs.cell ((h4x_9 i hi).2 j v hj)⟩) (fun i y hy=>aag.mono hs (h5x_9 i y hy)) bx_10 ox_10 csx_10 h1x_10 h2x_10 h3x_10 (fun i hi=>⟨(h4x_10 i hi).1,fun j v hj=>hs.cell ((h4x_10 i hi).2 j v hj)⟩) (fun i y hy=>aar.mono hs (h5x_10 i y hy))
theorem aar.mono{K K' : KH}(hs:K.sub K') : ∀{x:aap} {cs:List Value},aar K x cs→aar K' x cs
 | _,_,.mk sx_1 rx_3 bx_4 ox_4 csx_4 h1x_4 h2x_4 h3x_4 h4x_4 h5x_4=>.mk sx_1 (rx_3.mono hs (fun _ _ h=>aai.mono hs h)) bx_4 ox_4 csx_4 h1x_4 h2x_4 h3x_4 (fun i hi=>⟨(h4x_4 i hi).1,fun j v hj=>hs.cell ((h4x_4 i hi).2 j v hj)⟩) (fun i y hy=>aag.mono hs (h5x_4 i y hy))
end
theorem aag.open{K:KH}{x_0:Int}{x_1:ByteArray}{x_2:Int}{x_3:ByteArray}{x_4:Int}{x_5:Int}{x_6:(List aah)}{x_7:(List aae)}{x_8:(List aae)}{x_9:(List aae)}{x_10:(List aap)}{cs:List Value}(h:aag K (.mk x_0 x_1 x_2 x_3 x_4 x_5 x_6 x_7 x_8 x_9 x_10) cs) : ∃(Ax_6:Option Addr) (cx_6:Nat),∃(Ax_7:Option Addr) (cx_7:Nat),∃(Ax_8:Option Addr) (cx_8:Nat),∃(Ax_9:Option Addr) (cx_9:Nat),∃(Ax_10:Option Addr) (cx_10:Nat),cs=[.int .i64 x_0,.string x_1,.int .i64 x_2,.string x_3,.int .i64 x_4,.int .i64 x_5,.slice Ax_6 x_6.length cx_6,.slice Ax_7 x_7.length cx_7,.slice Ax_8 x_8.length cx_8,.slice Ax_9 x_9.length cx_9,.slice Ax_10 x_10.length cx_10]∧x_1.size≤140737488355328∧x_3.size≤140737488355328∧RSl aah (aai K) 5 64 K Ax_6 cx_6 x_6∧RSl aae (aag K) 11 184 K Ax_7 cx_7 x_7∧RSl aae (aag K) 11 184 K Ax_8 cx_8 x_8∧RSl aae (aag K) 11 184 K Ax_9 cx_9 x_9∧RSl aap (aar K) 5 80 K Ax_10 cx_10 x_10:=by
 cases h with
 | mk sx_1 sx_3 rx_6 bx_7 ox_7 csx_7 h1x_7 h2x_7 h3x_7 h4x_7 h5x_7 bx_8 ox_8 csx_8 h1x_8 h2x_8 h3x_8 h4x_8 h5x_8 bx_9 ox_9 csx_9 h1x_9 h2x_9 h3x_9 h4x_9 h5x_9 bx_10 ox_10 csx_10 h1x_10 h2x_10 h3x_10 h4x_10 h5x_10=>exact⟨_,_,_,_,_,_,_,_,_,_,rfl,sx_1,sx_3,rx_6,⟨h1x_7,h2x_7,bx_7,ox_7,csx_7,h3x_7,h4x_7,h5x_7⟩,⟨h1x_8,h2x_8,bx_8,ox_8,csx_8,h3x_8,h4x_8,h5x_8⟩,⟨h1x_9,h2x_9,bx_9,ox_9,csx_9,h3x_9,h4x_9,h5x_9⟩,⟨h1x_10,h2x_10,bx_10,ox_10,csx_10,h3x_10,h4x_10,h5x_10⟩⟩
theorem aag.intro{K:KH}{x_0:Int}{x_1:ByteArray}{x_2:Int}{x_3:ByteArray}{x_4:Int}{x_5:Int}{x_6:(List aah)}{x_7:(List aae)}{x_8:(List aae)}{x_9:(List aae)}{x_10:(List aap)}{Ax_6:Option Addr}{cx_6:Nat}{Ax_7:Option Addr}{cx_7:Nat}{Ax_8:Option Addr}{cx_8:Nat}{Ax_9:Option Addr}{cx_9:Nat}{Ax_10:Option Addr}{cx_10:Nat}(h0:x_1.size≤140737488355328)(h1:x_3.size≤140737488355328)(h2:RSl aah (aai K) 5 64 K Ax_6 cx_6 x_6)(h3:RSl aae (aag K) 11 184 K Ax_7 cx_7 x_7)(h4:RSl aae (aag K) 11 184 K Ax_8 cx_8 x_8)(h5:RSl aae (aag K) 11 184 K Ax_9 cx_9 x_9)(h6:RSl aap (aar K) 5 80 K Ax_10 cx_10 x_10):aag K (.mk x_0 x_1 x_2 x_3 x_4 x_5 x_6 x_7 x_8 x_9 x_10) [.int .i64 x_0,.string x_1,.int .i64 x_2,.string x_3,.int .i64 x_4,.int .i64 x_5,.slice Ax_6 x_6.length cx_6,.slice Ax_7 x_7.length cx_7,.slice Ax_8 x_8.length cx_8,.slice Ax_9 x_9.length cx_9,.slice Ax_10 x_10.length cx_10]:=by
 obtain⟨h1x_7,h2x_7,bx_7,ox_7,csx_7,h3x_7,h4x_7,h5x_7⟩:=h3;obtain⟨h1x_8,h2x_8,bx_8,ox_8,csx_8,h3x_8,h4x_8,h5x_8⟩:=h4;obtain⟨h1x_9,h2x_9,bx_9,ox_9,csx_9,h3x_9,h4x_9,h5x_9⟩:=h5;obtain⟨h1x_10,h2x_10,bx_10,ox_10,csx_10,h3x_10,h4x_10,h5x_10⟩:=h6;exact .mk h0 h1 h2 bx_7 ox_7 csx_7 h1x_7 h2x_7 h3x_7 h4x_7 h5x_7 bx_8 ox_8 csx_8 h1x_8 h2x_8 h3x_8 h4x_8 h5x_8 bx_9 ox_9 csx_9 h1x_9 h2x_9 h3x_9 h4x_9 h5x_9 bx_10 ox_10 csx_10 h1x_10 h2x_10 h3x_10 h4x_10 h5x_10
theorem aag.one{K:KH}{x:aae}{cs:List Value}(h:aag K x cs):cs.all (fun u=>u.oneCell')=true:=by cases h;rfl
theorem aag.size{K:KH}{x:aae}{cs:List Value}(h:aag K x cs):cs.length=11:=by cases h;rfl
theorem aar.open{K:KH}{x_0:Int}{x_1:ByteArray}{x_2:Int}{x_3:(List aah)}{x_4:(List aae)}{cs:List Value}(h:aar K (.mk x_0 x_1 x_2 x_3 x_4) cs) : ∃(Ax_3:Option Addr) (cx_3:Nat),∃(Ax_4:Option Addr) (cx_4:Nat),cs=[.int .i64 x_0,.string x_1,.int .i64 x_2,.slice Ax_3 x_3.length cx_3,.slice Ax_4 x_4.length cx_4]∧x_1.size≤140737488355328∧RSl aah (aai K) 5 64 K Ax_3 cx_3 x_3∧RSl aae (aag K) 11 184 K Ax_4 cx_4 x_4:=by
 cases h with
 | mk sx_1 rx_3 bx_4 ox_4 csx_4 h1x_4 h2x_4 h3x_4 h4x_4 h5x_4=>exact⟨_,_,_,_,rfl,sx_1,rx_3,⟨h1x_4,h2x_4,bx_4,ox_4,csx_4,h3x_4,h4x_4,h5x_4⟩⟩
theorem aar.intro{K:KH}{x_0:Int}{x_1:ByteArray}{x_2:Int}{x_3:(List aah)}{x_4:(List aae)}{Ax_3:Option Addr}{cx_3:Nat}{Ax_4:Option Addr}{cx_4:Nat}(h0:x_1.size≤140737488355328)(h1:RSl aah (aai K) 5 64 K Ax_3 cx_3 x_3)(h2:RSl aae (aag K) 11 184 K Ax_4 cx_4 x_4):aar K (.mk x_0 x_1 x_2 x_3 x_4) [.int .i64 x_0,.string x_1,.int .i64 x_2,.slice Ax_3 x_3.length cx_3,.slice Ax_4 x_4.length cx_4]:=by
 obtain⟨h1x_4,h2x_4,bx_4,ox_4,csx_4,h3x_4,h4x_4,h5x_4⟩:=h2;exact .mk h0 h1 bx_4 ox_4 csx_4 h1x_4 h2x_4 h3x_4 h4x_4 h5x_4
theorem aar.one{K:KH}{x:aap}{cs:List Value}(h:aar K x cs):cs.all (fun u=>u.oneCell')=true:=by cases h;rfl
theorem aar.size{K:KH}{x:aap}{cs:List Value}(h:aar K x cs):cs.length=5:=by cases h;rfl
inductive aat where
 | mk (f0:ByteArray) (f1:Int)
instance:Inhabited aat:=⟨.mk default default⟩
inductive aaz(K:KH):aat→List Value→Prop
 | mk {x_0:ByteArray} {x_1:Int} (sx_0:x_0.size≤140737488355328):aaz K (.mk x_0 x_1) [.string x_0,.int .i64 x_1]
theorem aaz.mono{K K' : KH}(hs:K.sub K') : ∀{x:aat} {cs:List Value},aaz K x cs→aaz K' x cs
 | _,_,.mk sx_0=>.mk sx_0
theorem aaz.open{K:KH}{x_0:ByteArray}{x_1:Int}{cs:List Value}(h:aaz K (.mk x_0 x_1) cs):cs=[.string x_0,.int .i64 x_1]∧x_0.size≤140737488355328:=by
 cases h with
 | mk sx_0=>exact⟨rfl,sx_0⟩
theorem aaz.intro{K:KH}{x_0:ByteArray}{x_1:Int}(h0:x_0.size≤140737488355328):aaz K (.mk x_0 x_1) [.string x_0,.int .i64 x_1]:=by
 exact .mk h0
theorem aaz.one{K:KH}{x:aat}{cs:List Value}(h:aaz K x cs):cs.all (fun u=>u.oneCell')=true:=by cases h;rfl
theorem aaz.size{K:KH}{x:aat}{cs:List Value}(h:aaz K x cs):cs.length=2:=by cases h;rfl
inductive aab where
 | mk (f0:ByteArray) (f1:(List aat)) (f2:Int) (f3:Bool) (f4:Int) (f5:(List aae))
instance:Inhabited aab:=⟨.mk default default default default default default⟩
inductive aak(K:KH):aab→List Value→Prop
 | mk {x_0:ByteArray} {x_1:(List aat)} {x_2:Int} {x_3:Bool} {x_4:Int} {x_5:(List aae)} {Ax_1:Option Addr} {cx_1:Nat} {Ax_5:Option Addr} {cx_5:Nat} (sx_0:x_0.size≤140737488355328) (rx_1:RSl aat (aaz K) 2 24 K Ax_1 cx_1 x_1) (rx_5:RSl aae (aag K) 11 184 K Ax_5 cx_5 x_5):aak K (.mk x_0 x_1 x_2 x_3 x_4 x_5) [.string x_0,.slice Ax_1 x_1.length cx_1,.int .i64 x_2,.bool x_3,.int .i64 x_4,.slice Ax_5 x_5.length cx_5]
theorem aak.mono{K K' : KH}(hs:K.sub K') : ∀{x:aab} {cs:List Value},aak K x cs→aak K' x cs
 | _,_,.mk sx_0 rx_1 rx_5=>.mk sx_0 (rx_1.mono hs (fun _ _ h=>aaz.mono hs h)) (rx_5.mono hs (fun _ _ h=>aag.mono hs h))
theorem aak.open{K:KH}{x_0:ByteArray}{x_1:(List aat)}{x_2:Int}{x_3:Bool}{x_4:Int}{x_5:(List aae)}{cs:List Value}(h:aak K (.mk x_0 x_1 x_2 x_3 x_4 x_5) cs) : ∃(Ax_1:Option Addr) (cx_1:Nat),∃(Ax_5:Option Addr) (cx_5:Nat),cs=[.string x_0,.slice Ax_1 x_1.length cx_1,.int .i64 x_2,.bool x_3,.int .i64 x_4,.slice Ax_5 x_5.length cx_5]∧x_0.size≤140737488355328∧RSl aat (aaz K) 2 24 K Ax_1 cx_1 x_1∧RSl aae (aag K) 11 184 K Ax_5 cx_5 x_5:=by
 cases h with
 | mk sx_0 rx_1 rx_5=>exact⟨_,_,_,_,rfl,sx_0,rx_1,rx_5⟩
theorem aak.intro{K:KH}{x_0:ByteArray}{x_1:(List aat)}{x_2:Int}{x_3:Bool}{x_4:Int}{x_5:(List aae)}{Ax_1:Option Addr}{cx_1:Nat}{Ax_5:Option Addr}{cx_5:Nat}(h0:x_0.size≤140737488355328)(h1:RSl aat (aaz K) 2 24 K Ax_1 cx_1 x_1)(h2:RSl aae (aag K) 11 184 K Ax_5 cx_5 x_5):aak K (.mk x_0 x_1 x_2 x_3 x_4 x_5) [.string x_0,.slice Ax_1 x_1.length cx_1,.int .i64 x_2,.bool x_3,.int .i64 x_4,.slice Ax_5 x_5.length cx_5]:=by
 exact .mk h0 h1 h2
theorem aak.one{K:KH}{x:aab}{cs:List Value}(h:aak K x cs):cs.all (fun u=>u.oneCell')=true:=by cases h;rfl
theorem aak.size{K:KH}{x:aab}{cs:List Value}(h:aak K x cs):cs.length=6:=by cases h;rfl
inductive aaa where
 | mk (f0:(List aab))
instance:Inhabited aaa:=⟨.mk default⟩
inductive aad(K:KH):aaa→List Value→Prop
 | mk {x_0:(List aab)} {Ax_0:Option Addr} {cx_0:Nat} (rx_0:RSl aab (aak K) 6 88 K Ax_0 cx_0 x_0):aad K (.mk x_0) [.slice Ax_0 x_0.length cx_0]
theorem aad.mono{K K' : KH}(hs:K.sub K') : ∀{x:aaa} {cs:List Value},aad K x cs→aad K' x cs
 | _,_,.mk rx_0=>.mk (rx_0.mono hs (fun _ _ h=>aak.mono hs h))
theorem aad.open{K:KH}{x_0:(List aab)}{cs:List Value}(h:aad K (.mk x_0) cs) : ∃(Ax_0:Option Addr) (cx_0:Nat),cs=[.slice Ax_0 x_0.length cx_0]∧RSl aab (aak K) 6 88 K Ax_0 cx_0 x_0:=by
 cases h with
 | mk rx_0=>exact⟨_,_,rfl,rx_0⟩
theorem aad.intro{K:KH}{x_0:(List aab)}{Ax_0:Option Addr}{cx_0:Nat}(h0:RSl aab (aak K) 6 88 K Ax_0 cx_0 x_0):aad K (.mk x_0) [.slice Ax_0 x_0.length cx_0]:=by
 exact .mk h0
theorem aad.one{K:KH}{x:aaa}{cs:List Value}(h:aad K x cs):cs.all (fun u=>u.oneCell')=true:=by cases h;rfl
theorem aad.size{K:KH}{x:aaa}{cs:List Value}(h:aad K x cs):cs.length=1:=by cases h;rfl
inductive aan where
 | mk (f0:Int) (f1:Int) (f2:Bool)
instance:Inhabited aan:=⟨.mk default default default⟩
inductive adm(K:KH):aan→List Value→Prop
 | mk {x_0:Int} {x_1:Int} {x_2:Bool}  : adm K (.mk x_0 x_1 x_2) [.int .i64 x_0,.int .i64 x_1,.bool x_2]
theorem adm.mono{K K' : KH}(hs:K.sub K') : ∀{x:aan} {cs:List Value},adm K x cs→adm K' x cs
 | _,_,.mk =>.mk
theorem adm.open{K:KH}{x_0:Int}{x_1:Int}{x_2:Bool}{cs:List Value}(h:adm K (.mk x_0 x_1 x_2) cs):cs=[.int .i64 x_0,.int .i64 x_1,.bool x_2]:=by
 cases h with
 | mk=>rfl
theorem adm.intro{K:KH}{x_0:Int}{x_1:Int}{x_2:Bool}  : adm K (.mk x_0 x_1 x_2) [.int .i64 x_0,.int .i64 x_1,.bool x_2]:=by
 exact .mk
theorem adm.one{K:KH}{x:aan}{cs:List Value}(h:adm K x cs):cs.all (fun u=>u.oneCell')=true:=by cases h;rfl
theorem adm.size{K:KH}{x:aan}{cs:List Value}(h:adm K x cs):cs.length=3:=by cases h;rfl
inductive abw where
 | mk (f0:Int) (f1:Int) (f2:Int) (f3:Bool) (f4:Bool) (f5:Int)
instance:Inhabited abw:=⟨.mk default default default default default default⟩
inductive ace(K:KH):abw→List Value→Prop
 | mk {x_0:Int} {x_1:Int} {x_2:Int} {x_3:Bool} {x_4:Bool} {x_5:Int}  : ace K (.mk x_0 x_1 x_2 x_3 x_4 x_5) [.int .i64 x_0,.int .i64 x_1,.int .i64 x_2,.bool x_3,.bool x_4,.int .i64 x_5]
theorem ace.mono{K K' : KH}(hs:K.sub K') : ∀{x:abw} {cs:List Value},ace K x cs→ace K' x cs
 | _,_,.mk =>.mk
theorem ace.open{K:KH}{x_0:Int}{x_1:Int}{x_2:Int}{x_3:Bool}{x_4:Bool}{x_5:Int}{cs:List Value}(h:ace K (.mk x_0 x_1 x_2 x_3 x_4 x_5) cs):cs=[.int .i64 x_0,.int .i64 x_1,.int .i64 x_2,.bool x_3,.bool x_4,.int .i64 x_5]:=by
 cases h with
 | mk=>rfl
theorem ace.intro{K:KH}{x_0:Int}{x_1:Int}{x_2:Int}{x_3:Bool}{x_4:Bool}{x_5:Int}  : ace K (.mk x_0 x_1 x_2 x_3 x_4 x_5) [.int .i64 x_0,.int .i64 x_1,.int .i64 x_2,.bool x_3,.bool x_4,.int .i64 x_5]:=by
 exact .mk
theorem ace.one{K:KH}{x:abw}{cs:List Value}(h:ace K x cs):cs.all (fun u=>u.oneCell')=true:=by cases h;rfl
theorem ace.size{K:KH}{x:abw}{cs:List Value}(h:ace K x cs):cs.length=6:=by cases h;rfl
inductive aaq where
 | mk (f0:(List aab)) (f1:aab) (f2:(List ByteArray)) (f3:(List Int)) (f4:Int) (f5:Int)
instance:Inhabited aaq:=⟨.mk default default default default default default⟩
inductive acg(K:KH):aaq→List Value→Prop
 | mk {x_0:(List aab)} {x_1_0:ByteArray} {x_1_1:(List aat)} {x_1_2:Int} {x_1_3:Bool} {x_1_4:Int} {x_1_5:(List aae)} {x_2:(List ByteArray)} {x_3:(List Int)} {x_4:Int} {x_5:Int} {Ax_0:Option Addr} {cx_0:Nat} {Ax_1_1:Option Addr} {cx_1_1:Nat} {Ax_1_5:Option Addr} {cx_1_5:Nat} {Ax_2:Option Addr} {cx_2:Nat} {Ax_3:Option Addr} {cx_3:Nat} (rx_0:RSl aab (aak K) 6 88 K Ax_0 cx_0 x_0) (sx_1_0:x_1_0.size≤140737488355328) (rx_1_1:RSl aat (aaz K) 2 24 K Ax_1_1 cx_1_1 x_1_1) (rx_1_5:RSl aae (aag K) 11 184 K Ax_1_5 cx_1_5 x_1_5) (rx_2:RSl ByteArray RStr 1 16 K Ax_2 cx_2 x_2) (rx_3:RSl Int (RInt .i64) 1 8 K Ax_3 cx_3 x_3):acg K (.mk x_0 (.mk x_1_0 x_1_1 x_1_2 x_1_3 x_1_4 x_1_5) x_2 x_3 x_4 x_5) [.slice Ax_0 x_0.length cx_0,.string x_1_0,.slice Ax_1_1 x_1_1.length cx_1_1,.int .i64 x_1_2,.bool x_1_3,.int .i64 x_1_4,.slice Ax_1_5 x_1_5.length cx_1_5,.slice Ax_2 x_2.length cx_2,.slice Ax_3 x_3.length cx_3,.int .i64 x_4,.int .i64 x_5]
theorem acg.mono{K K' : KH}(hs:K.sub K') : ∀{x:aaq} {cs:List Value},acg K x cs→acg K' x cs
 | _,_,.mk rx_0 sx_1_0 rx_1_1 rx_1_5 rx_2 rx_3=>.mk (rx_0.mono hs (fun _ _ h=>aak.mono hs h)) sx_1_0 (rx_1_1.mono hs (fun _ _ h=>aaz.mono hs h)) (rx_1_5.mono hs (fun _ _ h=>aag.mono hs h)) (rx_2.mono hs (fun _ _ h=>h)) (rx_3.mono hs (fun _ _ h=>h))
theorem acg.open{K:KH}{x_0:(List aab)}{x_1_0:ByteArray}{x_1_1:(List aat)}{x_1_2:Int}{x_1_3:Bool}{x_1_4:Int}{x_1_5:(List aae)}{x_2:(List ByteArray)}{x_3:(List Int)}{x_4:Int}{x_5:Int}{cs:List Value}(h:acg K (.mk x_0 (.mk x_1_0 x_1_1 x_1_2 x_1_3 x_1_4 x_1_5) x_2 x_3 x_4 x_5) cs) : ∃(Ax_0:Option Addr) (cx_0:Nat),∃(Ax_1_1:Option Addr) (cx_1_1:Nat),∃(Ax_1_5:Option Addr) (cx_1_5:Nat),∃(Ax_2:Option Addr) (cx_2:Nat),∃(Ax_3:Option Addr) (cx_3:Nat),cs=[.slice Ax_0 x_0.length cx_0,.string x_1_0,.slice Ax_1_1 x_1_1.length cx_1_1,.int .i64 x_1_2,.bool x_1_3,.int .i64 x_1_4,.slice Ax_1_5 x_1_5.length cx_1_5,.slice Ax_2 x_2.length cx_2,.slice Ax_3 x_3.length cx_3,.int .i64 x_4,.int .i64 x_5]∧RSl aab (aak K) 6 88 K Ax_0 cx_0 x_0∧x_1_0.size≤140737488355328∧RSl aat (aaz K) 2 24 K Ax_1_1 cx_1_1 x_1_1∧RSl aae (aag K) 11 184 K Ax_1_5 cx_1_5 x_1_5∧RSl ByteArray RStr 1 16 K Ax_2 cx_2 x_2∧RSl Int (RInt .i64) 1 8 K Ax_3 cx_3 x_3:=by
 cases h with
 | mk rx_0 sx_1_0 rx_1_1 rx_1_5 rx_2 rx_3=>exact⟨_,_,_,_,_,_,_,_,_,_,rfl,rx_0,sx_1_0,rx_1_1,rx_1_5,rx_2,rx_3⟩
theorem acg.intro{K:KH}{x_0:(List aab)}{x_1_0:ByteArray}{x_1_1:(List aat)}{x_1_2:Int}{x_1_3:Bool}{x_1_4:Int}{x_1_5:(List aae)}{x_2:(List ByteArray)}{x_3:(List Int)}{x_4:Int}{x_5:Int}{Ax_0:Option Addr}{cx_0:Nat}{Ax_1_1:Option Addr}{cx_1_1:Nat}{Ax_1_5:Option Addr}{cx_1_5:Nat}{Ax_2:Option Addr}{cx_2:Nat}{Ax_3:Option Addr}{cx_3:Nat}(h0:RSl aab (aak K) 6 88 K Ax_0 cx_0 x_0)(h1:x_1_0.size≤140737488355328)(h2:RSl aat (aaz K) 2 24 K Ax_1_1 cx_1_1 x_1_1)(h3:RSl aae (aag K) 11 184 K Ax_1_5 cx_1_5 x_1_5)(h4:RSl ByteArray RStr 1 16 K Ax_2 cx_2 x_2)(h5:RSl Int (RInt .i64) 1 8 K Ax_3 cx_3 x_3):acg K (.mk x_0 (.mk x_1_0 x_1_1 x_1_2 x_1_3 x_1_4 x_1_5) x_2 x_3 x_4 x_5) [.slice Ax_0 x_0.length cx_0,.string x_1_0,.slice Ax_1_1 x_1_1.length cx_1_1,.int .i64 x_1_2,.bool x_1_3,.int .i64 x_1_4,.slice Ax_1_5 x_1_5.length cx_1_5,.slice Ax_2 x_2.length cx_2,.slice Ax_3 x_3.length cx_3,.int .i64 x_4,.int .i64 x_5]:=by
 exact .mk h0 h1 h2 h3 h4 h5
theorem acg.one{K:KH}{x:aaq}{cs:List Value}(h:acg K x cs):cs.all (fun u=>u.oneCell')=true:=by cases h;rfl
theorem acg.size{K:KH}{x:aaq}{cs:List Value}(h:acg K x cs):cs.length=11:=by cases h;rfl
inductive aao where
 | mk (f0:(List aab)) (f1:aab) (f2:(List Int)) (f3:Bool)
instance:Inhabited aao:=⟨.mk default default default default⟩
inductive acH(K:KH):aao→List Value→Prop
 | mk {x_0:(List aab)} {x_1_0:ByteArray} {x_1_1:(List aat)} {x_1_2:Int} {x_1_3:Bool} {x_1_4:Int} {x_1_5:(List aae)} {x_2:(List Int)} {x_3:Bool} {Ax_0:Option Addr} {cx_0:Nat} {Ax_1_1:Option Addr} {cx_1_1:Nat} {Ax_1_5:Option Addr} {cx_1_5:Nat} {Ax_2:Option Addr} {cx_2:Nat} (rx_0:RSl aab (aak K) 6 88 K Ax_0 cx_0 x_0) (sx_1_0:x_1_0.size≤140737488355328) (rx_1_1:RSl aat (aaz K) 2 24 K Ax_1_1 cx_1_1 x_1_1) (rx_1_5:RSl aae (aag K) 11 184 K Ax_1_5 cx_1_5 x_1_5) (rx_2:RSl Int (RInt .i64) 1 8 K Ax_2 cx_2 x_2):acH K (.mk x_0 (.mk x_1_0 x_1_1 x_1_2 x_1_3 x_1_4 x_1_5) x_2 x_3) [.slice Ax_0 x_0.length cx_0,.string x_1_0,.slice Ax_1_1 x_1_1.length cx_1_1,.int .i64 x_1_2,.bool x_1_3,.int .i64 x_1_4,.slice Ax_1_5 x_1_5.length cx_1_5,.slice Ax_2 x_2.length cx_2,.bool x_3]
theorem acH.mono{K K' : KH}(hs:K.sub K') : ∀{x:aao} {cs:List Value},acH K x cs→acH K' x cs
 | _,_,.mk rx_0 sx_1_0 rx_1_1 rx_1_5 rx_2=>.mk (rx_0.mono hs (fun _ _ h=>aak.mono hs h)) sx_1_0 (rx_1_1.mono hs (fun _ _ h=>aaz.mono hs h)) (rx_1_5.mono hs (fun _ _ h=>aag.mono hs h)) (rx_2.mono hs (fun _ _ h=>h))
theorem acH.open{K:KH}{x_0:(List aab)}{x_1_0:ByteArray}{x_1_1:(List aat)}{x_1_2:Int}{x_1_3:Bool}{x_1_4:Int}{x_1_5:(List aae)}{x_2:(List Int)}{x_3:Bool}{cs:List Value}(h:acH K (.mk x_0 (.mk x_1_0 x_1_1 x_1_2 x_1_3 x_1_4 x_1_5) x_2 x_3) cs) : ∃(Ax_0:Option Addr) (cx_0:Nat),∃(Ax_1_1:Option Addr) (cx_1_1:Nat),∃(Ax_1_5:Option Addr) (cx_1_5:Nat),∃(Ax_2:Option Addr) (cx_2:Nat),cs=[.slice Ax_0 x_0.length cx_0,.string x_1_0,.slice Ax_1_1 x_1_1.length cx_1_1,.int .i64 x_1_2,.bool x_1_3,.int .i64 x_1_4,.slice Ax_1_5 x_1_5.length cx_1_5,.slice Ax_2 x_2.length cx_2,.bool x_3]∧RSl aab (aak K) 6 88 K Ax_0 cx_0 x_0∧x_1_0.size≤140737488355328∧RSl aat (aaz K) 2 24 K Ax_1_1 cx_1_1 x_1_1∧RSl aae (aag K) 11 184 K Ax_1_5 cx_1_5 x_1_5∧RSl Int (RInt .i64) 1 8 K Ax_2 cx_2 x_2:=by
 cases h with
 | mk rx_0 sx_1_0 rx_1_1 rx_1_5 rx_2=>exact⟨_,_,_,_,_,_,_,_,rfl,rx_0,sx_1_0,rx_1_1,rx_1_5,rx_2⟩
theorem acH.intro{K:KH}{x_0:(List aab)}{x_1_0:ByteArray}{x_1_1:(List aat)}{x_1_2:Int}{x_1_3:Bool}{x_1_4:Int}{x_1_5:(List aae)}{x_2:(List Int)}{x_3:Bool}{Ax_0:Option Addr}{cx_0:Nat}{Ax_1_1:Option Addr}{cx_1_1:Nat}{Ax_1_5:Option Addr}{cx_1_5:Nat}{Ax_2:Option Addr}{cx_2:Nat}(h0:RSl aab (aak K) 6 88 K Ax_0 cx_0 x_0)(h1:x_1_0.size≤140737488355328)(h2:RSl aat (aaz K) 2 24 K Ax_1_1 cx_1_1 x_1_1)(h3:RSl aae (aag K) 11 184 K Ax_1_5 cx_1_5 x_1_5)(h4:RSl Int (RInt .i64) 1 8 K Ax_2 cx_2 x_2):acH K (.mk x_0 (.mk x_1_0 x_1_1 x_1_2 x_1_3 x_1_4 x_1_5) x_2 x_3) [.slice Ax_0 x_0.length cx_0,.string x_1_0,.slice Ax_1_1 x_1_1.length cx_1_1,.int .i64 x_1_2,.bool x_1_3,.int .i64 x_1_4,.slice Ax_1_5 x_1_5.length cx_1_5,.slice Ax_2 x_2.length cx_2,.bool x_3]:=by
 exact .mk h0 h1 h2 h3 h4
theorem acH.one{K:KH}{x:aao}{cs:List Value}(h:acH K x cs):cs.all (fun u=>u.oneCell')=true:=by cases h;rfl
theorem acH.size{K:KH}{x:aao}{cs:List Value}(h:acH K x cs):cs.length=9:=by cases h;rfl
inductive aaA where
 | mk (f0:Int) (f1:Bool) (f2:Int) (f3:Int) (f4:Bool)
instance:Inhabited aaA:=⟨.mk default default default default default⟩
inductive abe(K:KH):aaA→List Value→Prop
 | mk {x_0:Int} {x_1:Bool} {x_2:Int} {x_3:Int} {x_4:Bool}  : abe K (.mk x_0 x_1 x_2 x_3 x_4) [.int .i64 x_0,.bool x_1,.int .i64 x_2,.int .i64 x_3,.bool x_4]
theorem abe.mono{K K' : KH}(hs:K.sub K') : ∀{x:aaA} {cs:List Value},abe K x cs→abe K' x cs
 | _,_,.mk =>.mk
theorem abe.open{K:KH}{x_0:Int}{x_1:Bool}{x_2:Int}{x_3:Int}{x_4:Bool}{cs:List Value}(h:abe K (.mk x_0 x_1 x_2 x_3 x_4) cs):cs=[.int .i64 x_0,.bool x_1,.int .i64 x_2,.int .i64 x_3,.bool x_4]:=by
 cases h with
 | mk=>rfl
theorem abe.intro{K:KH}{x_0:Int}{x_1:Bool}{x_2:Int}{x_3:Int}{x_4:Bool}  : abe K (.mk x_0 x_1 x_2 x_3 x_4) [.int .i64 x_0,.bool x_1,.int .i64 x_2,.int .i64 x_3,.bool x_4]:=by
 exact .mk
theorem abe.one{K:KH}{x:aaA}{cs:List Value}(h:abe K x cs):cs.all (fun u=>u.oneCell')=true:=by cases h;rfl
theorem abe.size{K:KH}{x:aaA}{cs:List Value}(h:abe K x cs):cs.length=5:=by cases h;rfl
inductive aaj where
 | mk (f0:Int) (f1:Int) (f2:Bool)
instance:Inhabited aaj:=⟨.mk default default default⟩
inductive abv(K:KH):aaj→List Value→Prop
 | mk {x_0:Int} {x_1:Int} {x_2:Bool}  : abv K (.mk x_0 x_1 x_2) [.int .i64 x_0,.int .i64 x_1,.bool x_2]
theorem abv.mono{K K' : KH}(hs:K.sub K') : ∀{x:aaj} {cs:List Value},abv K x cs→abv K' x cs
 | _,_,.mk =>.mk
theorem abv.open{K:KH}{x_0:Int}{x_1:Int}{x_2:Bool}{cs:List Value}(h:abv K (.mk x_0 x_1 x_2) cs):cs=[.int .i64 x_0,.int .i64 x_1,.bool x_2]:=by
 cases h with
 | mk=>rfl
theorem abv.intro{K:KH}{x_0:Int}{x_1:Int}{x_2:Bool}  : abv K (.mk x_0 x_1 x_2) [.int .i64 x_0,.int .i64 x_1,.bool x_2]:=by
 exact .mk
theorem abv.one{K:KH}{x:aaj}{cs:List Value}(h:abv K x cs):cs.all (fun u=>u.oneCell')=true:=by cases h;rfl
theorem abv.size{K:KH}{x:aaj}{cs:List Value}(h:abv K x cs):cs.length=3:=by cases h;rfl
inductive aaf where
 | mk (f0:aaa) (f1:aab) (f2:(List ByteArray)) (f3:(List (List (ByteArray×Int)))) (f4:Int)
instance:Inhabited aaf:=⟨.mk default default default default default⟩
inductive aaw where
 | mk (f0:(List Int)) (f1:Int)
instance:Inhabited aaw:=⟨.mk default default⟩
inductive aal(K:KH):aaw→List Value→Prop
 | mk {x_0:(List Int)} {x_1:Int} {Ax_0:Option Addr} {cx_0:Nat} (rx_0:RSl Int (RInt .i64) 1 8 K Ax_0 cx_0 x_0):aal K (.mk x_0 x_1) [.slice Ax_0 x_0.length cx_0,.int .i64 x_1]
theorem aal.mono{K K' : KH}(hs:K.sub K') : ∀{x:aaw} {cs:List Value},aal K x cs→aal K' x cs
 | _,_,.mk rx_0=>.mk (rx_0.mono hs (fun _ _ h=>h))
theorem aal.open{K:KH}{x_0:(List Int)}{x_1:Int}{cs:List Value}(h:aal K (.mk x_0 x_1) cs) : ∃(Ax_0:Option Addr) (cx_0:Nat),cs=[.slice Ax_0 x_0.length cx_0,.int .i64 x_1]∧RSl Int (RInt .i64) 1 8 K Ax_0 cx_0 x_0:=by
 cases h with
 | mk rx_0=>exact⟨_,_,rfl,rx_0⟩
theorem aal.intro{K:KH}{x_0:(List Int)}{x_1:Int}{Ax_0:Option Addr}{cx_0:Nat}(h0:RSl Int (RInt .i64) 1 8 K Ax_0 cx_0 x_0):aal K (.mk x_0 x_1) [.slice Ax_0 x_0.length cx_0,.int .i64 x_1]:=by
 exact .mk h0
theorem aal.one{K:KH}{x:aaw}{cs:List Value}(h:aal K x cs):cs.all (fun u=>u.oneCell')=true:=by cases h;rfl
theorem aal.size{K:KH}{x:aaw}{cs:List Value}(h:aal K x cs):cs.length=2:=by cases h;rfl
inductive aau where
 | mk (f0:aaa) (f1:aab) (f2:(List Int))
instance:Inhabited aau:=⟨.mk default default default⟩
inductive abz(K:KH):aau→List Value→Prop
 | mk {x_0_0:(List aab)} {x_1_0:ByteArray} {x_1_1:(List aat)} {x_1_2:Int} {x_1_3:Bool} {x_1_4:Int} {x_1_5:(List aae)} {x_2:(List Int)} {Ax_0_0:Option Addr} {cx_0_0:Nat} {Ax_1_1:Option Addr} {cx_1_1:Nat} {Ax_1_5:Option Addr} {cx_1_5:Nat} {Ax_2:Option Addr} {cx_2:Nat} (rx_0_0:RSl aab (aak K) 6 88 K Ax_0_0 cx_0_0 x_0_0) (sx_1_0:x_1_0.size≤140737488355328) (rx_1_1:RSl aat (aaz K) 2 24 K Ax_1_1 cx_1_1 x_1_1) (rx_1_5:RSl aae (aag K) 11 184 K Ax_1_5 cx_1_5 x_1_5) (rx_2:RSl Int (RInt .i64) 1 8 K Ax_2 cx_2 x_2):abz K (.mk (.mk x_0_0) (.mk x_1_0 x_1_1 x_1_2 x_1_3 x_1_4 x_1_5) x_2) [.slice Ax_0_0 x_0_0.length cx_0_0,.string x_1_0,.slice Ax_1_1 x_1_1.length cx_1_1,.int .i64 x_1_2,.bool x_1_3,.int .i64 x_1_4,.slice Ax_1_5 x_1_5.length cx_1_5,.slice Ax_2 x_2.length cx_2]
theorem abz.mono{K K' : KH}(hs:K.sub K') : ∀{x:aau} {cs:List Value},abz K x cs→abz K' x cs
 | _,_,.mk rx_0_0 sx_1_0 rx_1_1 rx_1_5 rx_2=>.mk (rx_0_0.mono hs (fun _ _ h=>aak.mono hs h)) sx_1_0 (rx_1_1.mono hs (fun _ _ h=>aaz.mono hs h)) (rx_1_5.mono hs (fun _ _ h=>aag.mono hs h)) (rx_2.mono hs (fun _ _ h=>h))
theorem abz.open{K:KH}{x_0_0:(List aab)}{x_1_0:ByteArray}{x_1_1:(List aat)}{x_1_2:Int}{x_1_3:Bool}{x_1_4:Int}{x_1_5:(List aae)}{x_2:(List Int)}{cs:List Value}(h:abz K (.mk (.mk x_0_0) (.mk x_1_0 x_1_1 x_1_2 x_1_3 x_1_4 x_1_5) x_2) cs) : ∃(Ax_0_0:Option Addr) (cx_0_0:Nat),∃(Ax_1_1:Option Addr) (cx_1_1:Nat),∃(Ax_1_5:Option Addr) (cx_1_5:Nat),∃(Ax_2:Option Addr) (cx_2:Nat),cs=[.slice Ax_0_0 x_0_0.length cx_0_0,.string x_1_0,.slice Ax_1_1 x_1_1.length cx_1_1,.int .i64 x_1_2,.bool x_1_3,.int .i64 x_1_4,.slice Ax_1_5 x_1_5.length cx_1_5,.slice Ax_2 x_2.length cx_2]∧RSl aab (aak K) 6 88 K Ax_0_0 cx_0_0 x_0_0∧x_1_0.size≤140737488355328∧RSl aat (aaz K) 2 24 K Ax_1_1 cx_1_1 x_1_1∧RSl aae (aag K) 11 184 K Ax_1_5 cx_1_5 x_1_5∧RSl Int (RInt .i64) 1 8 K Ax_2 cx_2 x_2:=by
 cases h with
 | mk rx_0_0 sx_1_0 rx_1_1 rx_1_5 rx_2=>exact⟨_,_,_,_,_,_,_,_,rfl,rx_0_0,sx_1_0,rx_1_1,rx_1_5,rx_2⟩
theorem abz.intro{K:KH}{x_0_0:(List aab)}{x_1_0:ByteArray}{x_1_1:(List aat)}{x_1_2:Int}{x_1_3:Bool}{x_1_4:Int}{x_1_5:(List aae)}{x_2:(List Int)}{Ax_0_0:Option Addr}{cx_0_0:Nat}{Ax_1_1:Option Addr}{cx_1_1:Nat}{Ax_1_5:Option Addr}{cx_1_5:Nat}{Ax_2:Option Addr}{cx_2:Nat}(h0:RSl aab (aak K) 6 88 K Ax_0_0 cx_0_0 x_0_0)(h1:x_1_0.size≤140737488355328)(h2:RSl aat (aaz K) 2 24 K Ax_1_1 cx_1_1 x_1_1)(h3:RSl aae (aag K) 11 184 K Ax_1_5 cx_1_5 x_1_5)(h4:RSl Int (RInt .i64) 1 8 K Ax_2 cx_2 x_2):abz K (.mk (.mk x_0_0) (.mk x_1_0 x_1_1 x_1_2 x_1_3 x_1_4 x_1_5) x_2) [.slice Ax_0_0 x_0_0.length cx_0_0,.string x_1_0,.slice Ax_1_1 x_1_1.length cx_1_1,.int .i64 x_1_2,.bool x_1_3,.int .i64 x_1_4,.slice Ax_1_5 x_1_5.length cx_1_5,.slice Ax_2 x_2.length cx_2]:=by
 exact .mk h0 h1 h2 h3 h4
theorem abz.one{K:KH}{x:aau}{cs:List Value}(h:abz K x cs):cs.all (fun u=>u.oneCell')=true:=by cases h;rfl
theorem abz.size{K:KH}{x:aau}{cs:List Value}(h:abz K x cs):cs.length=8:=by cases h;rfl
def KW(w:World):KH:=fun b=>w.heap[b]?
theorem KW.sub{K:KH}{w:World}(h:K.le w):K.sub (KW w):=h
theorem Sx.all(w:World):Sx (KW w) (KW w) w w (fun b=>b∈Ents.blks []) [] :=
 (Sx.start0 (K:=KW w) (w:=w) (fun b o h=>h)).start
theorem Sx.lend{K0 K K' : KH}{w0 w w' : World}{M:Nat→Prop}{H:Ents}(S:Sx K0 K w0 w M H)(T:Sx (KW w) K' w w' (fun b=>b∈Ents.blks []) []):Sx K0 K w0 w' M H :=
 S.same (fun b hb=>T.ext b hb (by simp[Ents.blks])) T.size T.os T.tape T.output
theorem adS{α:Type}{R:α→List Value→Prop}{w:World}{base e size bytes c:Nat}{A:Option Addr}{xs:List α}{ys:List Value}(h:Ent.holds w (.row base (.slice A xs.length c) e size xs.length ys))(hr:Reps R size xs ys)(hb:xs.length*bytes≤140737488355328) :
  RSl α R size bytes (KW w) A c xs:=by
 rcases h.2 with ⟨h1,h0⟩ | ⟨g,cap,cur,h1,_,hh,hc,_,_,h4⟩
 ·have:xs=[]:=List.eq_nil_of_length_eq_zero h0;subst this;injection h1 with e1 _ e3
  subst e1 e3;exact RSl.nil _ _ _ _ _ _
 ·injection h1 with e1 _ e3
  subst e1 e3;refine⟨hc,hb,g,0,fun i=>(ys.drop (i*size)).take size,fun _=>rfl,fun i hi=>?_,fun i x hx=>(hr.at_ hx).2⟩;obtain⟨x,hx⟩ : ∃x,xs[i]?=some x:=⟨xs[i],by simp[hi]⟩;refine⟨(hr.at_ hx).1,fun j u hj=>?_⟩;have hj' : j<size:=by
   have:=(List.getElem?_eq_some_iff.1 hj).1;simp at this;omega
  rw[List.getElem?_take_of_lt hj',List.getElem?_drop] at hj;have h5:ys=cur.toList.take (xs.length*size):=h4.symm;rw[h5] at hj;have h6:cur.toList[i*size+j]?=some u:=by
   have hlt:=(List.getElem?_eq_some_iff.1 hj).1;rw[List.length_take] at hlt
   rwa [List.getElem?_take_of_lt (by omega)] at hj
  unfold KH.cell KW;rw[hh];simpa using h6
section
variable {P:Program}{ops:Array Oper}{Q:Exit→Act→World→Prop}{rest:List Oper}{n:Nat}{σ:Nat→Value}{w:World}{ty:TypeId}{pos:String}{aft:Array Edge}{t:Tmp}{K0 K:KH}{w0:World}{M:Nat→Prop}{H:Ents}
theorem Sx.boxrowN{i base b e size m:Nat}{cs:Array Value}(S:Sx K0 K w0 w M H)(hi:H[i]?=some (.box base b cs e))(hs:cs.size=m*size)(hm:m≤140737488355328):Sx K0 K w0 w M (H.set i (.row base (.slice (some ⟨b,0,none⟩) m m) e size m cs.toList)):=by
 have hh:w.heap[b]?=some (.cells cs e (0,0))∧base≤b:=S.entAt hi;obtain⟨X,Y,rfl,h2,_⟩:=abc hi;rw[h2];exact S.turn (fun _ _ _=>rfl) (Nat.le_refl _) rfl rfl rfl ⟨by simp[hs],.inr ⟨b,m,cs,rfl,hh.2,hh.1,by omega,by simp[maxLen];omega,by simp[hs],by rw[←hs];exact List.take_of_length_le (by simp)⟩⟩ (.inl rfl)
theorem ait : ∀q:Nat,Reps (RInt .i64) 1 (List.replicate q (0:Int)) (List.replicate q (.int .i64 0))
 | 0=>rfl
 | q+1=>⟨[.int .i64 0],_,by simp[List.replicate_succ],rfl,rfl,ait q⟩
theorem mkS{st e bytes:Nat}{x y:Operand}{k k' : IntKind}{m:Int}(he:abg P st=some e)(hf:(P.info? e).map (fun i=>(i.zero,i.size,i.bytes))=some (some (.int .i64 0),1,bytes))(hx:ev n σ x=.int k m)(hy:ev n σ y=.int k' m)(S:Sx K0 K w0 w M H)
  (hm:0≤m∧m*bytes≤140737488355328) (hb:0<bytes)
  (h : ∀ys w',Sx K0 K w0 w' M (.row w0.heap.size (.slice (some ⟨w.heap.size,0,none⟩) (List.replicate m.toNat (0:Int)).length m.toNat) e 1 (List.replicate m.toNat (0:Int)).length ys::H)→Reps (RInt .i64) 1 (List.replicate m.toNat (0:Int)) ys→wpList P ops Q rest (fr n (upd σ t (.slice (some ⟨w.heap.size,0,none⟩) (List.replicate m.toNat (0:Int)).length m.toNat))) w') :
  wpList P ops Q (⟨some t,.makeSlice st x y,ty,pos,aft,none⟩::rest) (fr n σ) w:=by
 obtain⟨h0,h1⟩:=hm;cases hi:P.info? e with
 | none=>rw[hi] at hf;cases hf
 | some i =>
  rw[hi] at hf;obtain⟨hz,hsz,hby⟩:i.zero=some (.int .i64 0)∧i.size=1∧i.bytes=bytes:=by simpa using hf
  have hle:m≤m*bytes:=by
   have:m*1≤m*(bytes:Int):=Int.mul_le_mul_of_nonneg_left (by omega) h0;omega
  have hr:=run_make (P:=P) w st e i (.int .i64 0) (abu he) hi hz k k' m m h0 (Int.le_refl _) (by rw[hby,Int.mul_comm];omega) (by omega);have hn:m.toNat*i.size=m.toNat:=by rw[hsz];omega
  rw[hn] at hr;have S1:=S.box_ (madeCells (Value.int .i64 0).cells m.toNat) e;have S2:=S1.boxrowN (i:=0) (size:=1) (m:=m.toNat) rfl (by rw[size_madeCells];omega) (by omega);have hl:(List.replicate m.toNat (0:Int)).length=m.toNat:=List.length_replicate;refine aaO (v:=.slice (some ⟨w.heap.size,0,none⟩) m.toNat m.toNat) (w':=w.alloc (.cells (madeCells (Value.int .i64 0).cells m.toNat) e)) ?_ ?_
  ·simp[execOp,hx,hy,hr]
  ·have:=h (madeCells (Value.int .i64 0).cells m.toNat).toList (w.alloc (.cells (madeCells (Value.int .i64 0).cells m.toNat) e));rw[hl] at this;refine this S2 ?_;have hc:(madeCells (Value.int .i64 0).cells m.toNat).toList=List.replicate m.toNat (Value.int .i64 0):=by
    apply List.ext_getElem
    ·simp[madeCells]
    ·intro j h1 h2;simp[madeCells,Value.cells,Nat.mod_one]
   rw[hc];generalize m.toNat=q;induction q with
   | zero=>rfl
   | succ q ih=>exact⟨[.int .i64 0],_,by simp[List.replicate_succ],rfl,rfl,ih⟩
theorem ngR{a:Act}(h:Q .ret a w):Exit.noGoto Q .ret a w:=h
theorem arf{m:Int}{b:Nat}(h:0≤m∧m*(b:Int)≤140737488355328):(List.replicate m.toNat (0:Int)).length*b≤140737488355328:=by
 obtain⟨h0,h1⟩:=h;obtain⟨q,rfl⟩:=Int.eq_ofNat_of_zero_le h0;rw[List.length_replicate,Int.toNat_natCast];have:((q*b:Nat):Int)≤140737488355328:=by rw[Int.natCast_mul];exact h1
 omega
theorem agI(w:World)(base:Nat)(t t2 ty e:TypeId)(i:TypeInfo)(zc:Value)(bytes:Nat)(k2 k:IntKind)(ht:P.underlying t=some (.slice e))(h2:P.underlying t2=some (.int k2))(hi:P.info? e=some i)(hz:i.zero=some zc)(hsz:i.size=1)(hby:i.bytes=bytes)(hbp:0<bytes)
  (hzc:zc.cells=#[zc]) (h1:zc.oneCell'=true) (v:Value) (n:Nat) (xs:List Value) (hown:w.ownsRow base e 1 v n xs) (m:Nat) (hbytes:(n+m)*bytes≤140737488355328) (hbase:base≤w.heap.size) :
  ∃v' w',(Builtin.append_ #[t,t2] ty #[v,.int k m]).run P w=.ok v' w'∧w'.ownsRow base e 1 v' (n+m) (xs++List.replicate m zc)∧w.grownBy w' v.ownBlock∧(v'.ownBlock=v.ownBlock∨v'.ownBlock=some w.heap.size):=by
 subst hby
 have hzl : ∀q,(Builtin.zeroCells #[zc] q).toList=List.replicate q zc:=by
  intro q;apply List.ext_getElem
  ·simp[Builtin.zeroCells]
  ·intro j h1 h2;simp[Builtin.zeroCells,Nat.mod_one]
 have hza : ∀q,Builtin.zeroCells #[zc] q=(List.replicate q zc).toArray:=fun q=>by apply Array.ext';rw[hzl]
 have hle:n+m≤140737488355328:=Nat.le_trans (Nat.le_mul_of_pos_right _ hbp) hbytes;have hmb:m*i.bytes≤140737488355328:=Nat.le_trans (Nat.mul_le_mul_right _ (Nat.le_add_left m n)) hbytes;have wm:IntKind.i64.wrap (m:Int)=(m:Int):=by unfold IntKind.wrap;simp[IntKind.bits,IntKind.signed];omega
 have c1 : ¬((m:Int)<0):=by omega
 have c2 : ¬(281474976710656<(m:Int)*(i.bytes:Int)):=by
  have:((m*i.bytes:Nat):Int)≤140737488355328:=by omega
  rw[Int.natCast_mul] at this;omega
 have hlen:(xs++List.replicate m zc).length=(n+m)*1:=by rw[List.length_append,hown.1,List.length_replicate];omega
 have grown : ∀(old:Nat),old<n+m→∀(row:Option Nat),
   (w.drew.alloc (.cells (xs.toArray++(List.replicate m zc).toArray++Builtin.zeroCells #[zc] (grownCap w (n+m) old e - (n+m))) e)).ownsRow base e 1
    (.slice (some ⟨w.heap.size,0,none⟩) (n+m) (grownCap w (n+m) old e)) (n+m) (xs++List.replicate m zc) ∧
   w.grownBy (w.drew.alloc (.cells (xs.toArray++(List.replicate m zc).toArray++Builtin.zeroCells #[zc] (grownCap w (n+m) old e - (n+m))) e)) row:=by
  intro old ho row;have hge:=grownCap_ge w (n+m) old e;have hcm:grownCap w (n+m) old e≤maxLen:=grownCap_le_maxLen w (n+m) old e (by simp[maxLen];omega);refine⟨⟨hlen,.inr ⟨w.heap.size,_,_,rfl,hbase,heap_alloc_new w.drew _,hge,hcm,?_,?_⟩⟩,⟨rfl,rfl,rfl,by simp,fun k hk _=>Go.heap_alloc_old w.drew _ hk⟩⟩
  ·simp only[Array.size_append,List.size_toArray,size_zeroCells,hown.1,List.length_replicate];simp;omega
  ·simp only[Array.toList_append,List.append_assoc];rw[←List.append_assoc,←hlen];exact List.take_left
 rcases hown.2 with ⟨rfl,rfl⟩ | ⟨g,cap,cur,rfl,hbg,hg,hnc,hcm,hcs,htake⟩
 ·have hx:xs=[]:=List.eq_nil_of_length_eq_zero (by simpa using hown.1);subst hx;by_cases hm:m=0
  ·subst hm;refine⟨.slice none 0 0,w,?_,World.ownsRow_nil w base e 1,⟨rfl,rfl,rfl,Nat.le_refl _,fun _ _ _=>rfl⟩,Or.inl rfl⟩;simp[Builtin.append_,run_underlying ht,run_underlying h2,sizeOf,typeInfo,hi,asInt,asIntOf,hsz,IntKind.wrap,IntKind.bits,IntKind.signed]
  ·have hgr:=grown 0 (by omega) (Value.ownBlock (.slice none 0 0));simp only[Nat.zero_add,List.nil_append,Array.empty_append] at hgr ⊢;have d1 : ¬(281474976710656<Builtin.nextslicecap m 0*i.bytes):=by rw[nextslicecap_zero (by omega)];omega
   have d2 : ¬(9223372036854775807<(m:Int)):=by omega
   refine⟨_,_,?_,hgr.1,hgr.2,Or.inr rfl⟩;simp[Builtin.append_,run_underlying ht,run_underlying h2,sizeOf,typeInfo,zeroValue,hi,hz,asInt,asIntOf,hsz,wm,c1,c2,hm,d1,d2,Question.forced,run_firstCells_none,newRow,grownCap,hzc,hza]
 ·by_cases hroom:n+m≤cap
  ·have hfit:n*1+(List.replicate m zc).length≤cur.size:=by rw[List.length_replicate,hcs];omega
   have hst:=run_storeCells_at P g (n*1) e (List.replicate m zc) 0 cur w hg (by simpa using hfit) (fun u hu=>by rw[List.eq_of_mem_replicate hu];exact h1);simp only[Nat.add_zero] at hst;have hr:(Builtin.append_ #[t,t2] ty #[.slice (some ⟨g,0,none⟩) n cap,.int k m]).run P w=.ok (.slice (some ⟨g,0,none⟩) (n+m) cap) (w.setRow g (cur.toList.take (n*1)++List.replicate m zc++cur.toList.drop (n*1+(List.replicate m zc).length)).toArray):=by
    by_cases hm:m=0
    ·subst hm;simp only[List.replicate_zero,Nat.mul_one] at hst;simp[Builtin.append_,run_underlying ht,run_underlying h2,sizeOf,typeInfo,hi,asInt,asIntOf,hsz,IntKind.wrap,IntKind.bits,IntKind.signed,hnc,Addr.add_lit,hst]
    ·simp only[Nat.mul_one] at hst;simp[Builtin.append_,run_underlying ht,run_underlying h2,sizeOf,typeInfo,zeroValue,hi,hz,asInt,asIntOf,hsz,wm,c1,c2,hm,hroom,hzc,hza,Addr.add_lit,hst]
   refine⟨_,_,hr,⟨hlen,.inr ⟨g,cap,_,rfl,hbg,setRow_heap w g cur _ e _ hg,hroom,hcm,?_,?_⟩⟩,⟨rfl,rfl,rfl,by simp,fun k _ hk=>setRow_other w g k _ (fun e=>hk (by simp[Value.ownBlock,e]))⟩,Or.inl rfl⟩
   ·simp only[List.size_toArray,List.length_append,List.length_take,List.length_drop,Array.length_toList,List.length_replicate];omega
   ·rw[htake,←hlen];exact List.take_left
  ·have holds : ∀j u,xs[j]?=some u→w.cell? ((⟨g,0,none⟩:Addr).add j)=some u:=hown.cells (g:=g) rfl;have hgr:=grown cap (by omega) (Value.ownBlock (.slice (some ⟨g,0,none⟩) n cap));have hm:m≠0:=by omega
   have d1 : ¬(281474976710656<Builtin.nextslicecap (n+m) cap*i.bytes):=by have:=growslice_fits (need:=n+m) (old:=cap) (bytes:=i.bytes) (by omega) hbytes;omega
   have d2 : ¬(9223372036854775807<(n:Int)+(m:Int)):=by omega
   have hfo:=run_firstCells_some (P:=P) w.drew 1 n ⟨g,0,none⟩ n cap xs hown.1 (by simpa using holds);refine⟨_,_,?_,hgr.1,hgr.2,Or.inr rfl⟩;simp[Builtin.append_,run_underlying ht,run_underlying h2,sizeOf,typeInfo,zeroValue,hi,hz,asInt,asIntOf,hsz,wm,c1,c2,hm,hroom,d1,d2,Question.forced,hfo,newRow,grownCap,hzc,hza]
theorem apZ{i:Nat}{x y:Operand}{st t2 e bytes:Nat}{k:IntKind}{base:Nat}{A:Option Addr}{c:Nat}{xs:List Int}{ys:List Value}{m:Int}(S:Sx K0 K w0 w M H)(hi:H[i]?=some (.row base (.slice A xs.length c) e 1 xs.length ys))
  (he:abg P st=some e) (h2:(amR P t2).isSome=true) (hf:(P.info? e).map (fun i=>(i.zero,i.size,i.bytes))=some (some (.int .i64 0),1,bytes)) (hbp:0<bytes)
  (hx:ev n σ x=.slice A xs.length c) (hy:ev n σ y=.int k m) (hr:Reps (RInt .i64) 1 xs ys) (hbase:base≤w0.heap.size) (hm:0≤m∧(xs.length+m)*(bytes:Int)≤140737488355328)
  (h : ∀A' c' ys' w',Sx K0 K w0 w' M (H.set i (.row base (.slice A' (xs++List.replicate m.toNat (0:Int)).length c') e 1 (xs++List.replicate m.toNat (0:Int)).length ys'))→Reps (RInt .i64) 1 (xs++List.replicate m.toNat (0:Int)) ys'→wpList P ops Q rest (fr n (upd σ t (.slice A' (xs++List.replicate m.toNat (0:Int)).length c'))) w') :
  wpList P ops Q (⟨some t,.call { callee:=.builtin .append,args:=#[x,y],argTypes:=#[st,t2] },ty,pos,aft,none⟩::rest) (fr n σ) w:=by
 obtain⟨h0,hb⟩:=hm;obtain⟨q,rfl⟩:=Int.eq_ofNat_of_zero_le h0;simp only[Int.toNat_natCast] at h;have hb' : (xs.length+q)*bytes≤140737488355328:=by
  have:(((xs.length+q)*bytes:Nat):Int)≤140737488355328:=by rw[Int.natCast_mul,Int.natCast_add];exact hb
  omega
 have hlt:i<H.length:=(List.getElem?_eq_some_iff.1 hi).1;obtain⟨k2,hk2⟩ : ∃k,P.underlying t2=some (.int k):=by
  unfold amR at h2;split at h2
  ·rename_i k hk;exact⟨k,hk⟩
  ·simp at h2
 cases hi0:P.info? e with
 | none=>rw[hi0] at hf;cases hf
 | some i0 =>
  rw[hi0] at hf;obtain⟨hz,hsz,hby⟩:i0.zero=some (.int .i64 0)∧i0.size=1∧i0.bytes=bytes:=by simpa using hf
  have hrow:w.ownsRow base e 1 (.slice A xs.length c) xs.length ys:=S.entAt hi;obtain⟨v',w',hrun,k3,k4,k5⟩:=agI (P:=P) w base st t2 ty e i0 (.int .i64 0) bytes k2 k (abu he) hk2 hi0 hz hsz hby hbp rfl rfl (.slice A xs.length c) xs.length ys hrow q hb' (Nat.le_trans hbase S.size);obtain⟨X,Y,hH,hs,_⟩:=abc hi;have S' : Sx K0 K w0 w' M (H.set i (.row base v' e 1 (xs.length+q) (ys++List.replicate q (.int .i64 0)))):=by
   rw[hs];rw[hH] at S;refine S.turn (fun j hj hne=>k4.block j hj (fun e=>hne e.symm)) k4.size k4.os k4.tape k4.output k3 ?_;rcases k5 with k5 | k5
   ·exact .inl k5
   ·exact .inr k5
  obtain⟨A',c',rfl⟩:=ahs (i:=i) S' (by rw[List.getElem?_set_self hlt]);have hz0:=ait q;refine aaO (v:=.slice A' (xs.length+q) c') (w':=w') ?_ ?_
  ·simp only[execOp,resolve,invoke,builtin,Sem.run_bind,Sem.run_pure,Result.andThen_ok,List.map_toArray,List.map_cons,List.map_nil,hx,hy,hrun]
  ·have hlen2:xs.length+q=(xs++List.replicate q (0:Int)).length:=by simp
   rw[hlen2] at S' ⊢;exact h A' c' _ w' S' (hr.app hz0)
theorem abx{xs:List Int}{m:Int}{b:Nat}(h:0≤m∧(xs.length+m)*(b:Int)≤140737488355328):(xs++List.replicate m.toNat (0:Int)).length*b≤140737488355328:=by
 obtain⟨h0,h1⟩:=h;obtain⟨q,rfl⟩:=Int.eq_ofNat_of_zero_le h0;rw[List.length_append,List.length_replicate,Int.toNat_natCast];have:(((xs.length+q)*b:Nat):Int)≤140737488355328:=by rw[Int.natCast_mul,Int.natCast_add];exact h1
 omega
theorem lk1N{κ ν:Type}{mt kt et:TypeId}{d:TypeDesc}{kv:κ→Value}{q:κ→κ→Bool}{R:ν→Value→Prop}{b clk:Nat}{es:Array MapEntry}{xs:List (κ×ν)}{k:κ}{z:Value}{m x:Operand}(hh:w.heap[b]?=some (.map es clk))(hm:MpB P mt kt et=true)(hd:P.underlying kt=some d)(hk:KeyK d kv q)(hz:ad7 P et=some z)(hr:MapR kv R xs es.toList)
  (hmv:ev n σ m=.map (some b)) (hx:ev n σ x=kv k) (hg:mget q k xs=none)
  (h:wpList P ops Q rest (fr n (upd σ t z)) w):wpList P ops Q (⟨some t,.lookup mt m x false,ty,pos,aft,none⟩::rest) (fr n σ) w:=by
 have hl:(Instr.lookup mt (.map (some b)) (kv k) false).run P w=.ok z w:=by
  simp[Instr.lookup,run_underlying (afW hm),Go.MapKept.run_getObj_map hh,Go.MapKept.run_checkKey (n:=9999) hd (hk.key k),Go.MapKept.run_findKey hd (adj hk 0 hr hg),ab1 hz]
 exact aaO (v:=z) (by simp[execOp,hmv,hx,hl]) h
theorem lk1S{κ ν:Type}{mt kt et:TypeId}{d:TypeDesc}{kv:κ→Value}{q:κ→κ→Bool}{R:ν→Value→Prop}{b clk:Nat}{es:Array MapEntry}{xs:List (κ×ν)}{k:κ}{u:ν}{m x:Operand}(hh:w.heap[b]?=some (.map es clk))(hm:MpB P mt kt et=true)(hd:P.underlying kt=some d)(hk:KeyK d kv q)(hr:MapR kv R xs es.toList)
  (hmv:ev n σ m=.map (some b)) (hx:ev n σ x=kv k) (hg:mget q k xs=some u)
  (h : ∀v,R u v→wpList P ops Q rest (fr n (upd σ t v)) w):wpList P ops Q (⟨some t,.lookup mt m x false,ty,pos,aft,none⟩::rest) (fr n σ) w:=by
 obtain⟨j,v,g1,g2,_⟩:=adk hk 0 hr hg;have hl:(Instr.lookup mt (.map (some b)) (kv k) false).run P w=.ok v w:=by
  simp[Instr.lookup,run_underlying (afW hm),Go.MapKept.run_getObj_map hh,Go.MapKept.run_checkKey (n:=9999) hd (hk.key k),Go.MapKept.run_findKey hd g1]
 exact aaO (v:=v) (by simp[execOp,hmv,hx,hl]) (h v g2)
end
end Go.Proofs.YtphdlngnegjgcaaGreatDoor
namespace Go.Proofs.YtphdlngnegjgcaaGreatDoor
open Go Go.RowKit
section
variable {P:Program}{ops:Array Oper}{Q:Exit→Act→World→Prop}{rest:List Oper}{n:Nat}{σ:Nat→Value}{w:World}{ty:TypeId}{pos:String}{aft:Array Edge}{t:Tmp}
theorem aqh{id:Nat}{Q:Exit→Act→List Frame→World→Prop}{cs:List Frame}(hr:recoverD cs=none)(h:Q .normal (fr n (upd σ t .nilIface)) cs w) :
  (Code.region id #[⟨some t,.call { callee:=.builtin .recover,args:=#[],argTypes:=#[] },ty,pos,aft,none⟩] false).wpS P Q (fr n σ) cs w:=by
 refine wpS_region ?_;show wpOpsS P _ Q [0] _ _ _;have he:(execOp (fr n σ).eval ⟨some t,.call { callee:=.builtin .recover,args:=#[],argTypes:=#[] },ty,pos,aft,none⟩).run P w=.ok .recover w:=rfl;simp only[wpOpsS,List.getElem?_toArray,List.getElem?_cons_zero,Region.wanted,if_true,he,hr,acA];exact h
theorem aoG{id:Nat}{Q:Exit→Act→List Frame→World→Prop}{cs cs' : List Frame}{v:Value}(hr:recoverD cs=some (v,cs'))(h:Q .normal (fr n (upd σ t v)) cs' w) :
  (Code.region id #[⟨some t,.call { callee:=.builtin .recover,args:=#[],argTypes:=#[] },ty,pos,aft,none⟩] false).wpS P Q (fr n σ) cs w:=by
 refine wpS_region ?_;show wpOpsS P _ Q [0] _ _ _;have he:(execOp (fr n σ).eval ⟨some t,.call { callee:=.builtin .recover,args:=#[],argTypes:=#[] },ty,pos,aft,none⟩).run P w=.ok .recover w:=rfl;simp only[wpOpsS,List.getElem?_toArray,List.getElem?_cons_zero,Region.wanted,if_true,he,hr,acA];exact h
def IfcB(P:Program)(t:TypeId):Bool:=match P.underlying t with | some (.interface _)=>true | _=>false
theorem ahr(d:Nat){xt:TypeId}{ms:_}(hu:P.underlying xt=some (.interface ms)):(Op.equalIn (d+1) xt .nilIface .nilIface).run P w=.ok true w:=by
 unfold Op.equalIn;simp[run_underlying hu]
theorem ag5(d:Nat){xt u:TypeId}{v:Value}{ms:_}(hu:P.underlying xt=some (.interface ms)):(Op.equalIn (d+1) xt (.iface u v) .nilIface).run P w=.ok false w:=by
 unfold Op.equalIn;simp[run_underlying hu]
theorem akf{xt:TypeId}(ht:IfcB P xt=true):(Op.equal xt .nilIface .nilIface).run P w=.ok true w:=by
 unfold IfcB at ht;split at ht
 ·rename_i hu;exact ahr 9999 hu
 ·cases ht
theorem akz{xt u:TypeId}{v:Value}(ht:IfcB P xt=true):(Op.equal xt (.iface u v) .nilIface).run P w=.ok false w:=by
 unfold IfcB at ht;split at ht
 ·rename_i hu;exact ag5 9999 hu
 ·cases ht
theorem auX{xt yt:TypeId}{x:Operand}(ht:IfcB P xt=true)(hx:ev n σ x=.nilIface)(h:wpList P ops Q rest (fr n (upd σ t (.bool true))) w) :
  wpList P ops Q (⟨some t,.binOp .eql xt x (.const .nilIface) yt,ty,pos,aft,none⟩::rest) (fr n σ) w:=by
 refine aaO (v:=.bool true) ?_ h;have hk:ev n σ (.const .nilIface)=.nilIface:=rfl;simp only[execOp];rw[hx,hk];simp[eqGuard,binOp,akf ht]
theorem ati{xt yt u:TypeId}{x:Operand}{v:Value}(ht:IfcB P xt=true)(hx:ev n σ x=.iface u v)(h:wpList P ops Q rest (fr n (upd σ t (.bool false))) w) :
  wpList P ops Q (⟨some t,.binOp .eql xt x (.const .nilIface) yt,ty,pos,aft,none⟩::rest) (fr n σ) w:=by
 refine aaO (v:=.bool false) ?_ h;have hk:ev n σ (.const .nilIface)=.nilIface:=rfl;simp only[execOp];rw[hx,hk];simp[eqGuard,binOp,akz ht]
theorem tya{xt u:TypeId}{x:Operand}{v:Value}(hu:aoq P u=true)(hx:ev n σ x=.iface u v)(h:wpList P ops Q rest (fr n (upd σ t (.tuple #[v,.bool true]))) w) :
  wpList P ops Q (⟨some t,.typeAssert x xt u true,ty,pos,aft,none⟩::rest) (fr n σ) w:=by
 refine aaO (v:=.tuple #[v,.bool true]) ?_ h;simp only[execOp];rw[hx];unfold aoq at hu;split at hu
 ·cases hu
 ·rename_i hd he;simp[Instr.typeAssert,run_underlying he]
 ·cases hu
theorem dfr{f:Operand}{g:FuncId}{caps:Array Value}(hf:ev n σ f=.func (.func g) #[] caps)(h:wpList P ops Q rest (wd (fr n σ) [⟨.fn (.func g) caps,#[]⟩]) w) :
  wpList P ops Q (⟨none,.defer { callee:=.value f,args:=#[],argTypes:=#[] },ty,pos,aft,none⟩::rest) (fr n σ) w:=by
 refine wpList_plain rfl fun K hK=>?_
 unfold Oper.wp;have he:(execOp (fr n σ).eval ⟨none,.defer { callee:=.value f,args:=#[],argTypes:=#[] },ty,pos,aft,none⟩).run P w=.ok (.defer ⟨.fn (.func g) caps,#[]⟩) w:=by
  rw[abj];simp[execOp,resolve,hf,Deferred.ofValue]
 rw[he];exact hK _ _ h
theorem regD{id:Nat}{l:List Oper}{a:Act}{D:List Deferred}(hnd:ahc l=true)(h:wpList P l.toArray (QL D Q) l a w):(Code.region id l.toArray false).wp P Q (wd a D) w :=
 (wpIn_wide (n:=0)).1 (regR (ro:=none) hnd h)
end
theorem asj(b:Nat)(w:World):CallsD Tryz.prog 97 #[.pointer (some ⟨b,0,none⟩)] .returning w fun e u' w'=>(∃v,e=.returned v)∧u'=.returning∧w'=w:=by
 refine callsD_of_wpS Tryz.func97 rfl fun c₀ cs hu=>?_
 rw[aeH];have hr:recoverD (c₀::cs)=none:=by simp[recoverD,hu]
 refine wpS_seq (aqh hr ?_);refine wpS_of_wp ?_;refine wp_block ?_;refine wp_seq ?_;refine wp_region_lit ?_;refine auX (by kernel_rfl) rfl ?_;refine wpList_nil ?_;refine aaG ?_;refine cndT rfl ?_;refine wp_region_lit ?_;refine asg (v:=.nilIface) rfl ?_;refine wpList_nil ?_;refine blkN ?_;exact⟨rfl,.returning,by cases c₀;simp_all,_,results_none rfl _ _ _,⟨_,rfl⟩,rfl,rfl⟩
theorem aoE{K0 K:KH}{w0 w:World}{M:Nat→Prop}{H:Ents}{base b:Nat}{x c:Int}(S:Sx K0 K w0 w M (.box base b #[.int .i64 x] 27::H)) :
  CallsD Tryz.prog 97 #[.pointer (some ⟨b,0,none⟩)] (.panicking [{ v:=.iface 140 (.agg #[.int .i64 c]),recovered:=false }]) w fun e u' w'=>(∃v,e=.returned v) ∧
   u'=.panicking [{ v:=.iface 140 (.agg #[.int .i64 c]),recovered:=true }]∧Sx K0 K w0 w' M (.box base b #[.int .i64 c] 27::H):=by
 refine callsD_of_wpS Tryz.func97 rfl fun c₀ cs hu=>?_
 rw[aeH];have hr:recoverD (c₀::cs)=some (.iface 140 (.agg #[.int .i64 c]),{ c₀ with mode:=.panicking [{ v:=.iface 140 (.agg #[.int .i64 c]),recovered:=true }] }::cs):=by simp[recoverD,hu]
 refine wpS_seq (aoG hr ?_);refine wpS_of_wp ?_;refine wp_block ?_;refine wp_seq ?_;refine wp_region_lit ?_;refine ati (by kernel_rfl) rfl ?_;refine wpList_nil ?_;refine aaG ?_;refine cndF rfl ?_;refine wp_seq ?_;refine wp_region_lit ?_;refine tya (by kernel_rfl) rfl ?_;refine ext (v:=.bool true) rfl rfl ?_;refine ext (v:=.agg #[.int .i64 c]) rfl rfl ?_;refine wpList_nil ?_;refine aaG ?_;refine cndT rfl ?_;refine wp_seq ?_;refine wp_region_lit ?_;refine alcC (z:=.agg #[.int .i64 0]) (cs:=#[.int .i64 0]) S (by kernel_rfl) rfl ?_;intro w1 S1;refine stoI (i:=0) (v:=.agg #[.int .i64 c]) (cs':=#[.int .i64 c]) S1 rfl (show aaF Tryz.prog 140=some 1 by kernel_rfl) rfl rfl rfl rfl (Nat.le_of_ble_eq_true rfl) rfl ?_;intro w2 S2;refine wpList_nil ?_;refine aaG ?_;refine wp_region_lit ?_;refine fld (s:=140) (f:=0) (off:=0) (o':=0) (by kernel_rfl) rfl rfl ?_;refine lb1 (i:=0) (v:=.int .i64 c) S2 rfl (by kernel_rfl) rfl rfl ?_;refine stoI (i:=1) (v:=.int .i64 c) (cs':=#[.int .i64 c]) S2 rfl (show aaF Tryz.prog 27=some 1 by kernel_rfl) rfl rfl rfl rfl (Nat.le_of_ble_eq_true rfl) rfl ?_;intro w3 S3;refine wpList_nil ?_;refine blkN ?_;exact⟨rfl,_,rfl,_,results_none rfl _ _ _,⟨_,rfl⟩,rfl,S3.drop (List.sublist_cons_self _ _)⟩
theorem anR{K:KH}{w:World}{H:Ents}{g:Nat}{caps:Array Value}{R:World→KH→Ents→Prop}{R' : Int→KH→Ents→Prop}(hb:acK Tryz.prog g=true)(S:Sx K K w w (fun b=>b∈Ents.blks H) H)
  (hc : ∀w1,Sx K K w1 w1 (fun b=>b∈Ents.blks H) H→w.heap.size≤w1.heap.size→Calls Tryz.prog g caps w1 (RetP (fun v w'=>∃K' H',Sx K K' w1 w' (fun b=>b∈Ents.blks H) H'∧R w1 K' H')
   (fun v w'=>∃c K' H',v=.iface 140 (.agg #[.int .i64 c])∧Sx K K' w1 w' (fun b=>b∈Ents.blks H) H'∧R' c K' H'))) :
  Calls Tryz.prog 68 #[.func (.func g) #[] caps] w (Ret fun v w'=>(∃w1 K' H',w.heap.size≤w1.heap.size∧v=.int .i64 0∧Sx K K' w w' (fun b=>b∈Ents.blks H) H'∧R w1 K' H') ∨
   ∃c K' H',v=.int .i64 c∧Sx K K' w w' (fun b=>b∈Ents.blks H) H'∧R' c K' H'):=by
 refine calls_of_wp_defers Tryz.func68 rfl ?_;rw[aeH];refine wp_seq ?_;refine wp_region_lit ?_;refine alcC (z:=.int .i64 0) (cs:=#[.int .i64 0]) S (by kernel_rfl) rfl ?_;intro w1 S1;refine wpList_nil ?_;refine aaG ?_;refine wp_seq ?_;refine wp_region_lit ?_;refine mkf (us:=[]) (vs:=[.pointer (some ⟨w.heap.size,0,none⟩)]) rfl rfl ?_;refine dfr (g:=97) (caps:=#[.pointer (some ⟨w.heap.size,0,none⟩)]) rfl ?_;refine wpList_nil ?_;refine aaG ?_;refine wp_seq ?_;refine regD rfl ?_;refine mv (v:=.func (.func g) #[] caps) rfl ?_;have hsz:=S1.size;have T1:=S1.part H (List.sublist_cons_self _ _);have S1' : Sx K K w w1 (fun b=>b∈Ents.blks H) (H++[.box w.heap.size w.heap.size #[.int .i64 0] 27]):=S1.perm (List.perm_append_comm (l₁:=H) (l₂:=[_]));have hres : ∀{x:Int} {w4:World} {σ:Nat→Value} {K' : KH} {H' : Ents},Sx K K' w w4 (fun b=>b∈Ents.blks H) (.box w.heap.size w.heap.size #[.int .i64 x] 27::H')→ev 6 σ (.tmp 2)=.pointer (some ⟨w.heap.size,0,none⟩) →
   (results Tryz.f68 (fr 6 σ).tmps).run Tryz.prog w4=.ok (.int .i64 x) w4:=fun S h=>akJ rfl (res1 (i:=0) S rfl (by kernel_rfl) h rfl)
 refine clP (caps:=caps) (vs:=caps.toList) rfl hb (by simp) (hc w1 T1 hsz) ?_ ?_
 ·rintro v w2⟨K',H',T2,hR⟩;have S2:=(S1'.call T2).perm (List.perm_append_comm (l₁:=[_]) (l₂:=H'));refine wpList_nil (QLn ?_);refine aaG ?_;refine wp_seq ?_;refine regD rfl ?_;refine stoI (i:=0) (v:=.int .i64 0) (cs':=#[.int .i64 0]) S2 rfl (show aaF Tryz.prog 27=some 1 by kernel_rfl) rfl rfl rfl rfl (Nat.le_of_ble_eq_true rfl) rfl ?_;intro w3 S3;refine wpList_nil (QLn ?_);refine aaG ?_;refine wp_ret ?_;show Leaves Tryz.prog Tryz.f68 _ _ [_] .returning w3;refine leaves_cons (f:=97) (args:=#[.pointer (some ⟨w.heap.size,0,none⟩)]) (by simp) (by simp[invoke,adi (show acK Tryz.prog 97=true by kernel_rfl)]) ?_;refine (asj _ w3).mono ?_;rintro e u' w4⟨⟨v',rfl⟩,rfl,rfl⟩;exact⟨_,hres S3 rfl,_,rfl,.inl ⟨w1,K',H',hsz,rfl,S3.drop (List.sublist_cons_self _ _),hR⟩⟩
 ·rintro v w2⟨c,K',H',rfl,T2,hR⟩;have S2:=(S1'.call T2).perm (List.perm_append_comm (l₁:=[_]) (l₂:=H'));refine QLp ?_;refine amQ ?_;show Leaves Tryz.prog Tryz.f68 _ _ [_] (.panicking _) w2;refine leaves_cons (f:=97) (args:=#[.pointer (some ⟨w.heap.size,0,none⟩)]) (by simp) (by simp[invoke,adi (show acK Tryz.prog 97=true by kernel_rfl)]) ?_;refine (aoE S2).mono ?_;rintro e u' w4⟨⟨v',rfl⟩,rfl,S4⟩;exact⟨_,hres S4 rfl,_,rfl,.inr ⟨c,K',H',rfl,S4.drop (List.sublist_cons_self _ _),hR⟩⟩
section
variable {P:Program}{ops:Array Oper}{Q:Exit→Act→World→Prop}{n nt:Nat}{σ:Nat→Value}{w w' : World}{a:Act}{ro:Option Nat}
theorem aow{c:Code}(I:Nat→Act→World→Prop)(g:Nat)(h₀:I g a w)
  (round : ∀g a w,I g a w→c.wpIn (rnd ro) n P (Exit.then (fun a' w'=>∃g',g'<g∧I g' a' w') Q) a w):(Code.loop c).wpIn (rnd ro) n P Q a w:=by
 intro b k cs hro hb hr;have key : ∀j a w,I j a w→∃e a' w',Q e a' w'∧ArrivesIn (Machine.fenced P (rnd ro)) P (lone (b.atR a (.code c::.inLoop c::k)) cs w) b k cs e a' w':=by
  intro j;induction j using Nat.strongRecOn with
  | _ j ih =>
   intro a w hI;obtain⟨e,a₁,w₁,hq,harr⟩:=round j a w hI b (.inLoop c::k) cs hro hb hr;cases e with
   | normal =>
    obtain⟨g',hlt,hI₁⟩:=hq;obtain⟨e₂,a₂,w₂,hq₂,harr₂⟩:=ih g' hlt a₁ w₁ hI₁;exact⟨e₂,a₂,w₂,hq₂,.of_steps (StepsIn.trans harr (.one (fenced_calm (fr:=b.atR a₁ (.inLoop c::k)) hb hr rfl) stepR_inLoop)) harr₂⟩
   | exit id=>exact⟨_,a₁,w₁,hq,.pass (x:=.inLoop c) rfl (fun _ _=>.inl (by simp)) harr⟩
   | goto l=>exact⟨_,a₁,w₁,hq,.pass (x:=.inLoop c) rfl (fun _ _=>.inl (by simp)) harr⟩
   | ret=>exact⟨_,a₁,w₁,hq,.pass (x:=.inLoop c) rfl (fun _ _=>.inl (by simp)) harr⟩
   | panic ch=>exact⟨_,a₁,w₁,hq,.pass (x:=.inLoop c) rfl (fun _ _=>.inl (by simp)) harr⟩
   | outgrown=>exact⟨_,a₁,w₁,hq,.pass (x:=.inLoop c) rfl (fun _ _=>.inl (by simp)) harr⟩
 obtain⟨e,a',w',hq,harr⟩:=key _ a w h₀;exact⟨e,a',w',hq,.of_steps (.one (fenced_calm (fr:=b.atR a (.code (.loop c)::k)) hb hr rfl) stepR_loop) harr⟩
theorem opV{i:Nat}{o:Oper}{t:Tmp}{v:Value}{K:Act→World→Prop}(hi:ops[i]?=some o)(hg:o.guard=none)(hnd : ∀c,o.op≠.defer c)(hd:o.dst=some t)
  (hr:(execOp (ev nt σ) o).run P w=.ok (.value v) w') (h:K (fr nt (upd σ t v)) w'):wpOpIn (rnd ro) n P ops Q i K (fr nt σ) w:=by
 unfold wpOpIn;rw[hi];simp only;rw[if_pos (by simp[Region.wanted,hg])];refine⟨fun _ _=>trivial,?_⟩;rw[Oper.semAt_eq _ _ _ hnd,abj,hr];show K ((fr nt σ).put o.dst v) w';rw[hd,acA];exact h
theorem yfV{o:Oper}{v:Value}(hg:o.guard=none)(hr : ∀w,(execOp (ev nt σ) o).run P w=.ok (.value v) w)(hc : ∀c,o.op≠.call c)(hgo : ∀w,o.about P w (fr nt σ).eval=none):YieldsFenced P ops o v (fr nt σ) :=
 ⟨.inl ⟨by simp[Region.wanted,hg],fun w=>by rw[abj];exact hr w⟩,hgo⟩
theorem as2{i t fuel:Nat}{o:Oper}{v:Value}{L L' : Array Bool}(hi:ops[i]?=some o)(hd:o.dst=some t)(hg:o.guard=none)(hs:Region.noSelect ops=true)(hf:Region.free .any ops L i=true)(hr:(Region.ready .any ops L).contains i=true)
  (hQ : ∀c (a:Act) (d:Option Tmp) v w,Q (.panic c) (a.put d v) w→Q (.panic c) a w) (hc : ∀c,o.op≠.call c) (hgo : ∀w,o.about P w (fr nt σ).eval=none) (hrun : ∀w,(execOp (ev nt σ) o).run P w=.ok (.value v) w) (hL:L.setIfInBounds i true=L')
  (h:wpAnyIn (rnd none) n P .any ops Q fuel L' (fr nt (upd σ t v)) w):wpAnyIn (rnd none) n P .any ops Q (fuel+1) L (fr nt σ) w:=by
 subst hL;refine wpAnyIn_take rfl hi hs hf hr (fun c a w=>hQ c a _ _ w) (yfV hg hrun hc hgo) ?_;rw[hd,acA];exact h
theorem sfx{A:(Nat→Value)→Prop}{f f' : Nat}{L L' : Array Bool}{a' : Act}(h1 : ∀σ',A σ'→wpAnyIn (rnd none) n P .any ops Q f L (fr nt σ') w)(h2:(∀σ',A σ'→wpAnyIn (rnd none) n P .any ops Q f L (fr nt σ') w)→wpAnyIn (rnd none) n P .any ops Q f' L' a' w') :
 wpAnyIn (rnd none) n P .any ops Q f' L' a' w':=h2 h1
theorem aea{id m:Nat}{l:List Oper}(hnd:ahc l=true)(h:wpList P l.toArray (QL [] Q) l (fr m σ) w):(Code.region id l.toArray false).wpIn (rnd ro) n P Q (fr m σ) w :=
 regR (D:=[]) (a:=fr m σ) hnd h
theorem QLn0{m:Nat}(h:Q .normal (fr m σ) w):QL [] Q .normal (fr m σ) w:=⟨rfl,by simp,h⟩
theorem QLp0{m:Nat}{c:_}(h:Q (.panic c) (fr m σ) w):QL [] Q (.panic c) (fr m σ) w:=⟨rfl,by simp,h⟩
theorem ara{m:Nat}{c:Operand}{x y:Code}(hc:ev m σ c=.bool true)(h:x.wpIn (rnd ro) n P Q (fr m σ) w):(Code.cond c x y).wpIn (rnd ro) n P Q (fr m σ) w :=
 wpIn_cond_true (by rw[abj];exact hc) h
theorem apn{m:Nat}{c:Operand}{x y:Code}(hc:ev m σ c=.bool false)(h:y.wpIn (rnd ro) n P Q (fr m σ) w):(Code.cond c x y).wpIn (rnd ro) n P Q (fr m σ) w :=
 wpIn_cond_false (by rw[abj];exact hc) h
theorem opY{i:Nat}{t:Tmp}{f:Operand}{xs:Array Operand}{ts:Array TypeId}{ty:TypeId}{pos:String}{aft:Array Edge}{K:Act→World→Prop}{l:Nat}{r:Loop}{vs:List Value}{R:Ending→World→Prop}
  (hi:ops[i]?=some ⟨some t,.call { callee:=.value f,args:=xs,argTypes:=ts },ty,pos,aft,none⟩) (hf:ev nt σ f=.func (.yield l) #[] #[]) (hx:xs.toList.map (ev nt σ)=vs) (hl:w.heap[l]?=some (.loop r)) (hs:vs.length=r.params.size)
  (hR:RoundIn (rnd ro) (n - 1) P l r.fn ((r.params.zip vs.toArray).foldl (fun tmps (t,a)=>tmps.setIfInBounds t a) r.tmps) r.assign r.body w R)
  (h : ∀e w',R e w'→match e with | .returned v=>K (fr nt (upd σ t v)) w' | .panicked c=>Q (.panic c) (fr nt σ) w' | .outgrown=>False):wpOpIn (rnd ro) n P ops Q i K (fr nt σ) w:=by
 unfold wpOpIn;rw[hi];simp only;rw[if_pos (by simp[Region.wanted])];refine⟨fun _ _=>trivial,?_⟩;rw[Oper.semAt_eq _ _ _ (by simp),abj];have he:(execOp (ev nt σ) ⟨some t,.call { callee:=.value f,args:=xs,argTypes:=ts },ty,pos,aft,none⟩).run P w=.ok (.round l r.fn ((r.params.zip vs.toArray).foldl (fun tmps (t,a)=>tmps.setIfInBounds t a) r.tmps) r.assign r.body) w:=by
  simp only[execOp,resolve];have hx' : xs.map (ev nt σ)=vs.toArray:=by rw[←hx];cases xs;simp
  rw[hf,hx'];simp[Deferred.ofValue,invoke,run_yield (args:=vs.toArray) hl (by simpa using hs)]
 rw[he];refine⟨fun h=>by simp[rnd,Fence.wide] at h,hR.mono ?_⟩;intro e w' hr;have:=h e w' hr;cases e with
 | returned v=>show K ((fr nt σ).put (some t) v) w';rw[acA];exact this
 | panicked c=>exact this
 | outgrown=>exact this.elim
end
theorem aki{K:KH}{w:World}{H:Ents}{M:Nat→Prop}{K0:KH}{w0:World}{cs:List Value}(S:Sx K0 K w0 w M H) :
  Calls Tryz.prog 101 #[.agg cs.toArray] w (Ret fun v w'=>∃b,v=.func (.func 131) #[] #[.pointer (some ⟨b,0,none⟩)]∧Sx K0 K w0 w' M (.box w0.heap.size b cs.toArray 24::H)):=by
 refine enter Tryz.func101 rfl (n:=4) rfl ?_;refine wp_seq ?_;refine wp_region_lit ?_;refine bxoC (cs:=cs.toArray) S rfl rfl ?_;intro w1 S1;refine asg (v:=.nilFunc) rfl ?_;refine wpList_nil ?_;refine aaG ?_;refine wp_seq ?_;refine wp_region_lit ?_;refine mkf (us:=[]) (vs:=[.pointer (some ⟨w.heap.size,0,none⟩)]) rfl rfl ?_;refine asg (v:=.func (.func 131) #[] #[.pointer (some ⟨w.heap.size,0,none⟩)]) rfl ?_;refine wpList_nil ?_;refine aaG ?_;refine wp_ret ?_;exact adq rfl (resT rfl) ⟨w.heap.size,rfl,S1⟩
def HS(K0 K1:KH)(w0:World)(M:Nat→Prop)(l:Nat)(o:Loop)(base bp:Nat)(ps:Value)(Pi:KH→Ents→Prop)(w:World):Prop :=
 ∃K' H',K1.sub K'∧Sx K0 K' w0 w M (.raw w0.heap.size l (.loop o)::.box base bp #[ps] 24::H')∧Pi K' H'
def HR(K0 K1:KH)(w0:World)(M:Nat→Prop)(l:Nat)(o:Loop)(base bp:Nat)(ps:Value)(Pi:KH→Ents→Prop)(Px:Code→KH→Ents→Prop)(Pp:Value→KH→Ents→Prop)(e:Ending)(w:World):Prop :=
 (e=.returned (.bool true)∧HS K0 K1 w0 M l o base bp ps Pi w)∨(∃c,e=.returned (.bool false)∧HS K0 K1 w0 M l { o with state:=.done,pending:=some c } base bp ps (Px c) w) ∨
  ∃v,e=.panicked [{ v,recovered:=false }]∧∃K' H',Sx K0 K' w0 w M H'∧Pp v K' H'
set_option maxHeartbeats 4000000 in
theorem aoj{K0 K1:KH}{w0 w:World}{M:Nat→Prop}{l base bp c:Nat}{A:Option Addr}{o:Loop}{xs:List aab}{Pi:Nat→KH→Ents→Prop}{Px:Code→KH→Ents→Prop}{Pp:Value→KH→Ents→Prop}
  (hrow:RSl aab (aak K1) 6 88 K1 A c xs) (hps:o.params.size=2)
  (hY : ∀i x cs w',HS K0 K1 w0 M l o base bp (.slice A xs.length c) (Pi i) w'→xs[i]?=some x→aak K1 x cs →
   RoundIn (rnd none) 0 Tryz.prog l o.fn ((o.params.zip #[.agg cs.toArray,.slice A i c]).foldl (fun tmps (t,a)=>tmps.setIfInBounds t a) o.tmps) o.assign o.body w' (HR K0 K1 w0 M l o base bp (.slice A xs.length c) (Pi (i+1)) Px Pp))
  (h0:HS K0 K1 w0 M l o base bp (.slice A xs.length c) (Pi 0) w) :
  CallsIn (rnd none) 0 Tryz.prog 131 #[.func (.yield l) #[] #[],.pointer (some ⟨bp,0,none⟩)] w (fun e w' =>
   (∃v,e=.returned v∧HS K0 K1 w0 M l o base bp (.slice A xs.length c) (Pi xs.length) w')∨(∃v c',e=.returned v∧HS K0 K1 w0 M l { o with state:=.done,pending:=some c' } base bp (.slice A xs.length c) (Px c') w') ∨
    ∃v,e=.panicked [{ v,recovered:=false }]∧∃K' H',Sx K0 K' w0 w' M H'∧Pp v K' H'):=by
 refine callsIn_of_wp Tryz.func131 rfl trivial ?_;rw[aeH];obtain⟨K',H',hs,S,hP⟩:=h0;refine wpIn_seq ?_;refine aea rfl ?_;refine fld (s:=24) (f:=0) (off:=0) (o':=0) (by kernel_rfl) rfl rfl ?_;refine lb1 (i:=1) (v:=.slice A xs.length c) S rfl (by kernel_rfl) rfl rfl ?_;refine lnS (len:=xs.length) (e:=52) (by kernel_rfl) rfl ?_;refine mv (v:=.int .i64 0) rfl ?_;refine wpList_nil (QLn0 ?_);refine aaG ?_;refine wpIn_block ?_;refine aow (fun g a w=>∃(σ:Nat→Value) (i:Nat),i≤xs.length∧g=xs.length - i∧a=fr 22 (updL σ [(0,.func (.yield l) #[] #[]),(1,.pointer (some ⟨bp,0,none⟩)),(6,.slice A xs.length c),(7,.int .i64 xs.length),(8,.int .i64 i)]) ∧
  HS K0 K1 w0 M l o base bp (.slice A xs.length c) (Pi i) w) xs.length ?_ ?_
 ·exact⟨_,0,Nat.zero_le _,rfl,frL ⟨rfl,rfl,rfl,rfl,rfl,trivial⟩,K',H',hs,S,hP⟩
 clear S hP hs K' H';rintro g _ w1⟨σ,i,hi,rfl,rfl,K',H',hs,S,hP⟩;refine wpIn_seq ?_;refine aea rfl ?_;rcases Nat.lt_or_ge i xs.length with hlt | hge
 ·refine bcm (r:=true) rfl rfl (by simp[icmp];omega) ?_;refine wpList_nil (QLn0 ?_);refine aaG ?_;refine wpIn_seq ?_;refine ara rfl ?_;refine wpIn_skip ?_;refine aaG ?_;refine wpIn_seq ?_;refine wpIn_block ?_;refine wpIn_seq ?_;refine aea rfl ?_;obtain⟨x,hx⟩ : ∃x,xs[i]?=some x:=⟨_,List.getElem?_eq_getElem hlt⟩;obtain⟨b,off,cs,hA,hl,hC,hR⟩:=hrow.row.at_ hx;subst hA;refine mv (v:=.int .i64 i) rfl ?_;refine idx (s:=22) (e:=52) (size:=6) (by kernel_rfl) (by kernel_rfl) rfl rfl (Int.natCast_nonneg i) (by omega) ?_;refine ldN (cs:=cs) (size:=6) (by kernel_rfl) (by kernel_rfl) rfl hl (fun j v hj=>S.cell (hs.cell (hC j v hj))) ?_;have hRx:=hR;obtain⟨x0,x1,x2,x3,x4,x5⟩:=x;obtain⟨A1,c1,A2,c2,rfl,hz,hr1,hr2⟩:=aak.open hR;refine alcC (z:=.agg #[.string ⟨#[]⟩,.slice none 0 0,.int .i64 0,.bool false,.int .i64 0,.slice none 0 0]) (cs:=#[.string ⟨#[]⟩,.slice none 0 0,.int .i64 0,.bool false,.int .i64 0,.slice none 0 0]) S (by kernel_rfl) rfl ?_;intro w2 S2;refine asg (v:=.int .i64 i) rfl ?_;refine stoI (i:=0) (v:=.agg #[.string x0,.slice A1 x1.length c1,.int .i64 x2,.bool x3,.int .i64 x4,.slice A2 x5.length c2]) (cs':=#[.string x0,.slice A1 x1.length c1,.int .i64 x2,.bool x3,.int .i64 x4,.slice A2 x5.length c2]) S2 rfl (show aaF Tryz.prog 52=some 6 by kernel_rfl) rfl rfl rfl rfl (Nat.le_of_ble_eq_true rfl) rfl ?_;intro w3 S3;refine wpList_nil (QLn0 ?_);refine aaG ?_;refine wpIn_seq ?_;refine wpIn_region_any (by kernel_rfl) ?_;show wpAnyIn _ _ _ .any _ _ 8 #[false,false,false,false,false,false,false,false] _ _;refine as2 (i:=0) (v:=.func (.yield l) #[] #[]) (L':=#[true,false,false,false,false,false,false,false]) rfl rfl rfl (by kernel_rfl) (by kernel_rfl) (by kernel_rfl) (fun c a d v w h=>⟨(abn _ _ _).symm.trans h.1,h.2⟩) (by simp) (fun w=>rfl) (fun w=>mv_r rfl) rfl ?_;refine as2 (i:=2) (v:=.pointer (some ⟨bp,0,none⟩)) (L':=#[true,false,true,false,false,false,false,false]) rfl rfl rfl (by kernel_rfl) (by kernel_rfl) (by kernel_rfl) (fun c a d v w h=>⟨(abn _ _ _).symm.trans h.1,h.2⟩) (by simp) (fun w=>rfl) (fun w=>aeU (s:=24) (f:=0) (off:=0) (o':=0) (by kernel_rfl) rfl rfl) rfl ?_;refine as2 (i:=4) (v:=.int .i64 i) (L':=#[true,false,true,false,true,false,false,false]) rfl rfl rfl (by kernel_rfl) (by kernel_rfl) (by kernel_rfl) (fun c a d v w h=>⟨(abn _ _ _).symm.trans h.1,h.2⟩) (by simp) (fun w=>rfl) (fun w=>mv_r rfl) rfl ?_;have S4:Sx K0 K' w0 w3.drew M _:=S3.drew;refine sfx (nt:=22) (w:=w3.drew) (f:=2) (L:=#[true,true,true,true,true,true,false,false]) (A:=fun σ'=>Live σ' [(0,.func (.yield l) #[] #[]),(1,.pointer (some ⟨bp,0,none⟩)),(6,.slice (some ⟨b,off,none⟩) xs.length c),(7,.int .i64 xs.length),(8,.int .i64 i),(13,.func (.yield l) #[] #[]),
    (14,.agg #[.string x0,.slice A1 x1.length c1,.int .i64 x2,.bool x3,.int .i64 x4,.slice A2 x5.length c2]),(18,.slice (some ⟨b,off,none⟩) i c)]) ?_ (fun hend=>?_)
  ·intro σ' hσ;rw[frL hσ];have S5:Sx K0 K' w0 w3.drew M (.raw w0.heap.size l (.loop o)::.box base bp #[.slice (some ⟨b,off,none⟩) xs.length c] 24::H'):=S4.drop (List.sublist_cons_self _ _);refine wpAnyIn_all (rs:=[6]) (by kernel_rfl) (by simp) ?_;intro j hj;obtain rfl:j=6:=by simpa using hj
   refine opY (l:=l) (vs:=[.agg #[.string x0,.slice A1 x1.length c1,.int .i64 x2,.bool x3,.int .i64 x4,.slice A2 x5.length c2],.slice (some ⟨b,off,none⟩) i c]) rfl rfl rfl (S5.ents (.raw w0.heap.size l (.loop o)) (by simp)).1 hps.symm (hY i _ _ _ ⟨K',H',hs,S5,hP⟩ hx hRx) ?_;rintro e w4 (⟨rfl,hn⟩ |⟨c',rfl,hn⟩ |⟨v,rfl,hn⟩)
   ·refine wpAnyIn_all (rs:=[7]) (by kernel_rfl) (by simp) ?_;intro j hj;obtain rfl:j=7:=by simpa using hj
    refine opV rfl rfl (by simp) rfl (anV (a:=true) rfl) ?_;refine wpAnyIn_done (by kernel_rfl) ?_ _;refine aaG ?_;refine apn rfl ?_;refine wpIn_skip ?_;refine blkN ?_;refine aaG ?_;refine aea rfl ?_;refine bar (r:=((i+1:Nat):Int)) rfl rfl (aiZ (atE hrow.len (by decide) hlt)) ?_;refine mv (v:=.int .i64 ((i+1:Nat):Int)) rfl ?_;refine wpList_nil (QLn0 ?_);refine aaG ?_;exact⟨xs.length - (i+1),by omega,_,i+1,hlt,rfl,frL ⟨rfl,rfl,rfl,rfl,rfl,trivial⟩,hn⟩
   ·refine wpAnyIn_all (rs:=[7]) (by kernel_rfl) (by simp) ?_;intro j hj;obtain rfl:j=7:=by simpa using hj
    refine opV rfl rfl (by simp) rfl (anV (a:=false) rfl) ?_;refine wpAnyIn_done (by kernel_rfl) ?_ _;refine aaG ?_;refine ara rfl ?_;refine wpIn_ret ?_;refine blkR ?_;refine ar9 ?_;refine ar9 ?_;refine blkR ?_;exact bodyPost_ret (v:=.tuple #[]) (results_none rfl _ _ _) rfl (.inr (.inl ⟨_,c',rfl,hn⟩))
   ·refine amQ ?_;exact⟨rfl,.inr (.inr ⟨v,rfl,hn⟩)⟩
  refine wpAnyIn_all (rs:=[1,3]) (by kernel_rfl) (by simp) ?_;intro j hj;rcases (by simpa using hj:j=1∨j=3) with rfl | rfl
  ·refine opV rfl rfl (by simp) rfl (apD (cs:=[.string x0,.slice A1 x1.length c1,.int .i64 x2,.bool x3,.int .i64 x4,.slice A2 x5.length c2]) (size:=6) (by kernel_rfl) (by kernel_rfl) rfl rfl (fun j v hj=>by rw[Nat.zero_add];exact S4.cellAt (i:=0) rfl (by simpa using hj))) ?_;show wpAnyIn _ _ _ .any _ _ 4 #[true,true,true,false,true,false,false,false] _ _;refine wpAnyIn_all (rs:=[3]) (by kernel_rfl) (by simp) ?_;intro j hj;obtain rfl:j=3:=by simpa using hj
   refine opV rfl rfl (by simp) rfl (acE (v:=.slice (some ⟨b,off,none⟩) xs.length c) (by kernel_rfl) rfl (S4.cellAt (i:=2) rfl rfl)) ?_;show wpAnyIn _ _ _ .any _ _ 3 #[true,true,true,true,true,false,false,false] _ _;refine wpAnyIn_all (rs:=[5]) (by kernel_rfl) (by simp) ?_;intro j hj;obtain rfl:j=5:=by simpa using hj
   refine opV rfl rfl (by simp) rfl (aoo (e:=52) (size:=6) (m:=i) (by kernel_rfl) (by kernel_rfl) rfl rfl (Int.natCast_nonneg i) (by have:=hrow.cap;omega) (by simp)) ?_;show wpAnyIn _ _ _ .any _ _ 2 #[true,true,true,true,true,true,false,false] _ _;exact hend _ ⟨rfl,rfl,rfl,rfl,rfl,rfl,rfl,rfl,trivial⟩
  ·refine opV rfl rfl (by simp) rfl (acE (v:=.slice (some ⟨b,off,none⟩) xs.length c) (by kernel_rfl) rfl (S4.cellAt (i:=2) rfl rfl)) ?_;show wpAnyIn _ _ _ .any _ _ 4 #[true,false,true,true,true,false,false,false] _ _;refine as2 (i:=5) (v:=.slice (some ⟨b,off,none⟩) i c) (L':=#[true,false,true,true,true,true,false,false]) rfl rfl rfl (by kernel_rfl) (by kernel_rfl) (by kernel_rfl) (fun c a d v w h=>⟨(abn _ _ _).symm.trans h.1,h.2⟩) (by simp) (fun w=>rfl) (fun w=>aoo (e:=52) (size:=6) (m:=i) (by kernel_rfl) (by kernel_rfl) rfl rfl (Int.natCast_nonneg i) (by have:=hrow.cap;omega) (by simp)) rfl ?_;refine wpAnyIn_all (rs:=[1]) (by kernel_rfl) (by simp) ?_;intro j hj;obtain rfl:j=1:=by simpa using hj
   refine opV rfl rfl (by simp) rfl (apD (cs:=[.string x0,.slice A1 x1.length c1,.int .i64 x2,.bool x3,.int .i64 x4,.slice A2 x5.length c2]) (size:=6) (by kernel_rfl) (by kernel_rfl) rfl rfl (fun j v hj=>by rw[Nat.zero_add];exact S4.cellAt (i:=0) rfl (by simpa using hj))) ?_;show wpAnyIn _ _ _ .any _ _ 2 #[true,true,true,true,true,true,false,false] _ _;exact hend _ ⟨rfl,rfl,rfl,rfl,rfl,rfl,rfl,rfl,trivial⟩
 ·have hie:i=xs.length:=by omega
  subst hie;refine bcm (r:=false) rfl rfl (by simp[icmp]) ?_;refine wpList_nil (QLn0 ?_);refine aaG ?_;refine wpIn_seq ?_;refine apn rfl ?_;refine wpIn_exit ?_;refine aut ?_;refine aut ?_;refine blkX ?_;exact bodyPost_end (v:=.tuple #[]) (results_none rfl _ _ _) rfl (.inl ⟨_,rfl,K',H',hs,S,hP⟩)
def BP(K0 K1:KH)(w0:World)(M:Nat→Prop)(l:Nat)(o:Loop)(base bp:Nat)(ps:Value)(Pi:KH→Ents→Prop)(Px:Code→KH→Ents→Prop)(Pp:Value→KH→Ents→Prop):Exit→Act→World→Prop
 | .normal,_,w=>HS K0 K1 w0 M l o base bp ps Pi w
 | .exit id,_,w=>HS K0 K1 w0 M l o base bp ps (Px (.exit id)) w
 | .panic c,a,w=>a.defers=[]∧∃v,c=[{ v,recovered:=false }]∧∃K' H',Sx K0 K' w0 w M H'∧Pp v K' H'
 | _,_,_=>False
def mark(b:Nat):Deferred:={ target:=.collected b,args:=#[] }
theorem Sx.rawTurn{K0 K:KH}{w0 w:World}{M:Nat→Prop}{A B:Ents}{base b:Nat}{o:Obj}(S:Sx K0 K w0 w M (A++.raw base b o::B))(o' : Obj):Sx K0 K w0 (w.putObj b o') M (A++.raw base b o'::B):=by
 have hh:w.heap[b]?=some o∧base≤b:=S.ents (.raw base b o) (by simp);have hlt:b<w.heap.size:=(Array.getElem?_eq_some_iff.1 hh.1).1;exact S.turn (e':=.raw base b o') (fun j _ h=>World.putObj_heap_other (fun e=>h (by rw[e];rfl))) (by simp) rfl rfl rfl ⟨World.putObj_heap_same hlt,hh.2⟩ (.inl rfl)
theorem atu{nt:Nat}{σ:Nat→Value}{p1 p2:Tmp}{v1 v2:Value}:((#[p1,p2]:Array Tmp).zip [v1,v2].toArray).foldl (fun tmps (t,a)=>tmps.setIfInBounds t a) (fr nt σ).tmps=(fr nt (upd (upd σ p1 v1) p2 v2)).tmps:=by
 have h1:=congrArg Act.tmps (acA nt σ p1 v1);have h2:=congrArg Act.tmps (acA nt (upd σ p1 v1) p2 v2);simp only[Act.put] at h1 h2;simp[h1,h2]
theorem ahN{f0:FuncId}{fn:Func}{K0 K:KH}{w0 w:World}{M:Nat→Prop}{H:Ents}{base bp c nt:Nat}{A:Option Addr}{xs:List aab}{σ:Nat→Value}{D:List Deferred}{g:Operand}{p1 p2:Tmp}{assign body:Code}{Q:Exit→Act→World→Prop}
  {Pi:Nat→KH→Ents→Prop} {Px:Code→KH→Ents→Prop} {Pp:Value→KH→Ents→Prop} (J:Nat→aab→KH→Ents→(Nat→Value)→Prop)
  (hf : Tryz.prog.funcs[f0]?=some fn) (S:Sx K0 K w0 w M (.box base bp #[.slice A xs.length c] 24::H)) (hrow:RSl aab (aak K) 6 88 K A c xs)
  (hg:ev nt σ g=.func (.func 131) #[] #[.pointer (some ⟨bp,0,none⟩)]) (h0:Pi 0 K (.raw w0.heap.size w.heap.size (.deferred (some []))::H))
  (hassign : ∀l o i x cs K' H' w',K.sub K'→Sx K0 K' w0 w' M (.raw w0.heap.size l (.loop o)::.box base bp #[.slice A xs.length c] 24::H')→Pi i K' H'→xs[i]?=some x→aak K' x cs →
   assign.wpIn (rnd (some l)) 0 Tryz.prog (Exit.then (fun a₁ w₁=>∃K1 H1 σ1,a₁=fr nt σ1∧K.sub K1∧Sx K0 K1 w0 w₁ M (.raw w0.heap.size l (.loop o)::.box base bp #[.slice A xs.length c] 24::H1)∧J i x K1 H1 σ1) (fun _ _ _=>False))
    (fr nt (upd (upd σ p1 (.agg cs.toArray)) p2 (.slice A i c))) w')
  (hbody : ∀l o i x K1 H1 σ1 w1,K.sub K1→Sx K0 K1 w0 w1 M (.raw w0.heap.size l (.loop o)::.box base bp #[.slice A xs.length c] 24::H1)→J i x K1 H1 σ1→xs[i]?=some x →
   body.wpIn (rnd (some l)) 0 Tryz.prog (BP K0 K w0 M l o base bp (.slice A xs.length c) (Pi (i+1)) Px Pp) (fr nt σ1) w1)
  (hdone : ∀w' K' H',K.sub K'→Sx K0 K' w0 w' M H'→Pi xs.length K' H'→Q .normal (wd (fr nt σ) (mark w.heap.size::D)) w')
  (hexit : ∀c' w' K' H',K.sub K'→Sx K0 K' w0 w' M H'→Px c' K' H'→wpF f0 Tryz.prog c' Q (wd (fr nt σ) (mark w.heap.size::D)) w')
  (hpanic : ∀v w' K' H',Sx K0 K' w0 w' M H'→Pp v K' H'→Q (.panic [{ v,recovered:=false }]) (wd (fr nt σ) (mark w.heap.size::D)) w') :
  wpF f0 Tryz.prog (Code.rangeFunc g #[p1,p2] assign body) Q (wd (fr nt σ) D) w:=by
 refine ajG (gf:=131) (lb:=#[.pointer (some ⟨bp,0,none⟩)]) (by rw[apN,abj];exact hg) (by kernel_rfl) ?_;obtain⟨o,ho⟩ : ∃o:Loop,o={ state:=.ready,pending:=none,fn:=f0,tmps:=(fr nt σ).tmps,params:=#[p1,p2],assign,body,defers:=w.heap.size }:=⟨_,rfl⟩;have S1:=(S.raw_ (.deferred (some []))).raw_ (.loop o);have hsz:(w.alloc (.deferred (some []))).heap.size=w.heap.size+1:=by simp
 rw[hsz] at S1;have S2:Sx K0 K w0 ((w.alloc (.deferred (some []))).alloc (.loop o)) M (.raw w0.heap.size (w.heap.size+1) (.loop o)::.box base bp #[.slice A xs.length c] 24::.raw w0.heap.size w.heap.size (.deferred (some []))::H) :=
  S1.perm (List.Perm.cons _ (List.Perm.swap _ _ _))
 have key:=aoj (l:=w.heap.size+1) (o:=o) (Pi:=Pi) (Px:=Px) (Pp:=Pp) (w:=(w.alloc (.deferred (some []))).alloc (.loop o)) hrow (by rw[ho];rfl) ?_ ⟨K,_,KH.sub.refl _,S2,h0⟩
 ·subst ho;refine key.mono ?_;rintro e w3 (⟨v,rfl,K',H',hs,S3,hP⟩ |⟨v,c',rfl,K',H',hs,S3,hP⟩ |⟨v,rfl,K',H',S3,hP⟩)
  ·have hh:=(S3.ents (.raw w0.heap.size (w.heap.size+1) _) List.mem_cons_self).1;refine⟨_,_,run_endLoop hh (by simp),?_⟩;have S4:=(Sx.rawTurn (A:=[]) S3 (.loop { state:=.exhausted,pending:=none,fn:=f0,tmps:=(fr nt σ).tmps,params:=#[p1,p2],assign,body,defers:=w.heap.size })).drop ((List.sublist_cons_self _ _).trans (List.sublist_cons_self _ _));exact hdone _ K' H' hs S4 hP
  ·have hh:=(S3.ents (.raw w0.heap.size (w.heap.size+1) _) List.mem_cons_self).1;refine⟨_,_,run_endLoop hh (by simp),?_⟩;have S4:=(Sx.rawTurn (A:=[]) S3 (.loop { state:=.exhausted,pending:=some c',fn:=f0,tmps:=(fr nt σ).tmps,params:=#[p1,p2],assign,body,defers:=w.heap.size })).drop ((List.sublist_cons_self _ _).trans (List.sublist_cons_self _ _));exact hexit c' _ K' H' hs S4 hP
  ·exact hpanic v w3 K' H' S3 hP
 ·intro i x cs w' hHS hx hR;obtain⟨K',H',hs,S3,hP⟩:=hHS;have hfn:o.fn=f0:=by rw[ho]
  have htm:((o.params.zip #[.agg cs.toArray,.slice A i c]).foldl (fun tmps (t,a)=>tmps.setIfInBounds t a) o.tmps)=(fr nt (upd (upd σ p1 (.agg cs.toArray)) p2 (.slice A i c))).tmps:=by rw[ho];exact atu
  rw[hfn,htm];have has:o.assign=assign:=by rw[ho]
  have hbo:o.body=body:=by rw[ho]
  rw[has,hbo];refine aoC hf ?_;refine wpIn_mono (hassign _ o i x cs K' H' w' hs S3 hP hx (aak.mono hs hR)) ?_;intro e a1 w1 he;cases e with
  | normal =>
   obtain⟨K1,H1,σ1,rfl,hs1,S4,hJ⟩:=he;have hh:=(S4.ents (.raw w0.heap.size (w.heap.size+1) _) List.mem_cons_self).1;refine⟨_,run_beginRound hh (by rw[ho]),?_⟩;have S5:=Sx.rawTurn (A:=[]) S4 (.loop { o with state:=.busy });refine wpIn_mono (hbody _ { o with state:=.busy } i x K1 H1 σ1 _ hs1 S5 hJ hx) ?_;intro e a2 w2 he;cases e with
   | normal =>
    obtain⟨K2,H2,hs2,S6,hP2⟩:=he;have hh:=(S6.ents (.raw w0.heap.size (w.heap.size+1) _) List.mem_cons_self).1;refine⟨_,_,run_endRound none hh,.inl ⟨rfl,K2,H2,hs2,?_,hP2⟩⟩;have S7:=Sx.rawTurn (A:=[]) S6 (.loop { o with state:=.ready,pending:=none });have ho' : ({ o with state:=.ready,pending:=none }:Loop)=o:=by rw[ho]
    rw[ho'] at S7;simpa[ho'] using S7
   | exit id =>
    obtain⟨K2,H2,hs2,S6,hP2⟩:=he;have hh:=(S6.ents (.raw w0.heap.size (w.heap.size+1) _) List.mem_cons_self).1;refine⟨_,_,run_endRound (some (.exit id)) hh,.inr (.inl ⟨.exit id,rfl,K2,H2,hs2,?_,hP2⟩)⟩;exact Sx.rawTurn (A:=[]) S6 (.loop { o with state:=.done,pending:=some (.exit id) })
   | panic ch =>
    obtain⟨hd,v,rfl,K2,H2,S6,hP2⟩:=he;exact⟨hd,.inr (.inr ⟨v,rfl,K2,H2,S6,hP2⟩)⟩
   | ret=>exact he.elim
   | goto t=>exact he.elim
   | outgrown=>exact he.elim
  | exit id=>exact he.elim
  | goto t=>exact he.elim
  | ret=>exact he.elim
  | panic ch=>exact he.elim
  | outgrown=>exact he.elim
theorem abP{P:Program}{fn:Func}{tmps:Array Value}{R:Ending→World→Prop}{ds:List Deferred}{u:FrameMode}{K0 K:KH}{w0 w:World}{M:Nat→Prop}{A B:Ents}{base b:Nat}(hu:u≠.run)
  (S:Sx K0 K w0 w M (A++.raw base b (.deferred (some []))::B)) (h : ∀w',Sx K0 K w0 w' M (A++B)→LeavesInM Fence.wide 0 P fn tmps R ds u w'):LeavesInM Fence.wide 0 P fn tmps R (mark b::ds) u w:=by
 have hh:w.heap[b]?=some (.deferred (some []))∧base≤b:=S.ents (.raw base b _) (by simp);exact⟨hu,.inl ⟨b,_,rfl,run_takeDeferred hh.1,h _ ((S.rawTurn (.deferred none)).drop ((List.Sublist.refl _).append (List.sublist_cons_self _ _)))⟩⟩
theorem Sx.rot3{K0 K:KH}{w0 w:World}{M:Nat→Prop}{x a b:Ent}{H:Ents}(S:Sx K0 K w0 w M (x::a::b::H)):Sx K0 K w0 w M (a::b::x::H) :=
 S.perm ((List.Perm.cons a (List.Perm.swap x b H)).trans (List.Perm.swap x a (b::H)))
theorem Sx.rot3'{K0 K:KH}{w0 w:World}{M:Nat→Prop}{x a b:Ent}{H:Ents}(S:Sx K0 K w0 w M (a::b::x::H)):Sx K0 K w0 w M (x::a::b::H) :=
 S.perm ((List.Perm.swap a x (b::H)).trans (List.Perm.cons a (List.Perm.swap b x H)))
def GK(K:KH):Prop:=(∀c:Nat,c<256→K.cell 0 c=some (.int .u8 (if Lib.isSp (UInt8.ofNat c) then 1 else 0)))∧∃m,K.cell 1 0=some (.int .i64 m)
theorem GK.mono{K K' : KH}(h:GK K)(hs:K.sub K'):GK K':=⟨fun c hc=>hs.cell (h.1 c hc),h.2.imp fun _ h=>hs.cell h⟩
def ag0:ByteArray:=⟨#[97,102,116,101,114,32,97,119,97,105,116,32,98,111,111,108,32,98,114,101,97,107,32,98,117,102,102,101,114,32,99,97,110,99,101,108,32,99,97,116,99,104,32,99,104,97,110,32,99,108,111,115,101,32,99,111,110,116,105,110,117,101,32,100,114,111,112,32,101,97,99,104,32,101,108,115,101,32,101,109,105,116,32,102,97,108,115,101,32,102,105,110,97,108,108,121,32,102,108,111,119,32,102,110,32,102,114,111,109,32,104,111,108,100,32,105,102,32,105,110,116,32,108,101,116,32,108,111,99,107,32,110,101,119,32,110,111,119,32,111,108,100,32,112,114,111,100,117,99,101,32,114,101,99,101,105,118,101,32,114,101,116,117,114,110,32,115,99,111,112,101,32,115,101,108,101,99,116,32,115,101,110,100,32,115,104,105,101,108,100,32,115,108,101,101,112,32,115,112,97,119,110,32,115,117,112,101,114,118,105,115,101,100,32,116,97,115,107,32,116,101,120,116,32,116,104,114,111,119,32,116,114,117,101,32,116,114,121,32,117,115,101,32,119,104,105,108,101,32,119,105,116,104,105,110,32,121,105,101,108,100]⟩
theorem amt : ∀(j:Nat) b,ag0.data.toList[j]?=some b→b.toNat<128:=by
 have h:ag0.data.toList.all (fun b=>decide (b.toNat<128))=true:=by kernel_rfl
 intro j b hj;simpa using List.all_eq_true.1 h b (List.mem_of_getElem? hj)
theorem Sx.below{K0 K:KH}{w0 w w' : World}{M:Nat→Prop}{H:Ents}(S:Sx K0 K w0 w M H)(h:Below w.heap.size w w'):Sx K0 K w0 w' M H :=
 S.same h.block h.size h.os h.tape h.output
theorem aix : ∀xs:List ByteArray,(∀x∈xs,x.size≤140737488355328)→Reps RStr 1 xs (xs.map Value.string)
 | [],_=>rfl
 | x::xs,h=>⟨[.string x],xs.map Value.string,rfl,rfl,⟨rfl,h x (by simp)⟩,aix xs fun y hy=>h y (by simp[hy])⟩
theorem Sx.texts{K0 K:KH}{w0 w:World}{M:Nat→Prop}{H:Ents}{xs:List ByteArray}(S:Sx K0 K w0 w M H)(t:TypeId)(hx : ∀x∈xs,x.size≤140737488355328)(hb:xs.length*16≤140737488355328) :
  ∃K',Sx K0 K' w0 (w.alloc (.cells (xs.map Value.string).toArray t)) M H∧K.sub K'∧RSl ByteArray RStr 1 16 K' (some ⟨w.heap.size,0,none⟩) xs.length xs:=by
 obtain⟨K',S',hs,hr⟩:=frzI (i:=0) (bytes:=16) (size:=1) (xs:=xs) (R:=fun _=>RStr) (S.box_ (xs.map Value.string).toArray t) rfl (Nat.le_refl _) (aix xs hx) rfl hb (fun _ _ _ h=>h);exact⟨K',S',hs,hr⟩
theorem agB(old new:List UInt8) : ∀(k:Nat) (s:List UInt8),(Lib.replaceK old new k s).length≤s.length+k*new.length
 | 0,s=>by simp[Lib.replaceK]
 | k+1,s=>by
  unfold Lib.replaceK;split
  ·omega
  ·have:=agB old new k (s.drop ((Lib.index s old).toNat+old.length));simp only[List.length_append,List.length_take,List.length_drop] at this ⊢;rw[Nat.succ_mul];omega
theorem aia(s old new:List UInt8):(Lib.replaceAll s old new).length≤s.length+(s.length+1)*new.length:=by
 unfold Lib.replaceAll Lib.replace;split
 ·omega
 ·have h1:=agB old new (Lib.replaceNum s old (-1)) s;have h2:Lib.replaceNum s old (-1)≤s.length+1:=by
   unfold Lib.replaceNum;rw[if_pos (by omega)];exact Lib.count_le s old
  have h3:=Nat.mul_le_mul_right new.length h2;omega
theorem apX{K0 K:KH}{w0 w:World}{M:Nat→Prop}{H:Ents}(S:Sx K0 K w0 w M H)(hG:GK K)(s old new:ByteArray)(hs:s.size≤1000)(ho:1≤old.size)(hn:new.size≤2) :
  Calls Tryz.prog 96 #[.string s,.string old,.string new] w (Ret fun v w'=>∃r:ByteArray,v=.string r∧r.size≤s.size+(s.size+1)*2∧Sx K0 K w0 w' M H):=by
 obtain⟨m,hm⟩:=hG.2;have hc:=Lib.count_le s.data.toList old.data.toList;have hsz:s.data.toList.length=s.size:=rfl;have hnz:new.data.toList.length=new.size:=rfl;have hlen:s.size+Lib.countB s old*new.size≤140737488355328:=by
  have h1:Lib.countB s old≤s.size+1:=hc;have h2:=Nat.mul_le_mul h1 hn;omega
 refine (Tryz.strings_ReplaceAll s old new m w (by omega) (S.cell hm) ho hlen).mono ?_;rintro e w'⟨rfl,hB⟩;refine⟨_,rfl,_,rfl,?_,S.below hB⟩;have h1:=aia s.data.toList old.data.toList new.data.toList;have h2:=Nat.mul_le_mul (Nat.le_refl (s.size+1)) hn;rw[hsz,hnz] at h1;show (Lib.replaceAll s.data.toList old.data.toList new.data.toList).toArray.size≤_;simp only[List.size_toArray];omega
theorem atF:AggB Tryz.prog 173=some false:=by kernel_rfl
theorem Tya3:AggB Tryz.prog 3=some false:=by kernel_rfl
theorem axh:AggB Tryz.prog 33=some false:=by kernel_rfl
theorem ayM:AggB Tryz.prog 35=some true:=by kernel_rfl
theorem ayg:AggB Tryz.prog 36=some false:=by kernel_rfl
theorem Tya4:AggB Tryz.prog 4=some false:=by kernel_rfl
theorem arV:AggB Tryz.prog 49=some false:=by kernel_rfl
theorem akU:AggB Tryz.prog 50=some false:=by kernel_rfl
theorem Tya9:AggB Tryz.prog 9=some false:=by kernel_rfl
theorem axz:acK Tryz.prog 103=true:=by kernel_rfl
theorem axU:acK Tryz.prog 120=true:=by kernel_rfl
theorem awP:acK Tryz.prog 126=true:=by kernel_rfl
theorem awt:acK Tryz.prog 179=true:=by kernel_rfl
theorem axp:acK Tryz.prog 180=true:=by kernel_rfl
theorem ayk:acK Tryz.prog 55=true:=by kernel_rfl
theorem ax0:acK Tryz.prog 69=true:=by kernel_rfl
theorem ayH:acK Tryz.prog 71=true:=by kernel_rfl
theorem ayL:acK Tryz.prog 82=true:=by kernel_rfl
theorem aym:acK Tryz.prog 86=true:=by kernel_rfl
theorem ayD:acK Tryz.prog 87=true:=by kernel_rfl
theorem axj:aoq Tryz.prog 140=true:=by kernel_rfl
theorem ahX:abg Tryz.prog 174=some 173:=by kernel_rfl
theorem ar3:abg Tryz.prog 22=some 52:=by kernel_rfl
theorem aeP:abg Tryz.prog 36=some 3:=by kernel_rfl
theorem av5:abg Tryz.prog 49=some 70:=by kernel_rfl
theorem aws:abg Tryz.prog 60=some 84:=by kernel_rfl
theorem ap2:aca Tryz.prog 35 0=some 0:=by kernel_rfl
theorem aqE:aca Tryz.prog 35 1=some 1:=by kernel_rfl
theorem av8:aca Tryz.prog 35 4=some 4:=by kernel_rfl
theorem arN:aca Tryz.prog 52 0=some 0:=by kernel_rfl
theorem aj8:aca Tryz.prog 52 1=some 1:=by kernel_rfl
theorem ao9:aca Tryz.prog 52 2=some 2:=by kernel_rfl
theorem arC:aca Tryz.prog 52 3=some 3:=by kernel_rfl
theorem av2:aca Tryz.prog 52 4=some 4:=by kernel_rfl
theorem ahg:aca Tryz.prog 52 5=some 5:=by kernel_rfl
theorem aoQ:aca Tryz.prog 70 0=some 0:=by kernel_rfl
theorem ajD:aca Tryz.prog 70 1=some 1:=by kernel_rfl
theorem avY:aca Tryz.prog 84 0=some 0:=by kernel_rfl
theorem auG:aca Tryz.prog 84 3=some 3:=by kernel_rfl
theorem ams:aca Tryz.prog 84 4=some 4:=by kernel_rfl
theorem apc:(Tryz.prog.info? 173).map (fun i=>(i.zero,i.size,i.bytes))=some (some (.map none),1,8):=by kernel_rfl
theorem Tyi3:(Tryz.prog.info? 3).map (fun i=>(i.zero,i.size,i.bytes))=some (some (.int .i64 0),1,8):=by kernel_rfl
theorem aw2:(Tryz.prog.info? 70).map (fun i=>(i.zero,i.size,i.bytes))=some (some (.agg #[.string ⟨#[]⟩,.int .i64 0]),2,24):=by kernel_rfl
theorem Tyk3:amR Tryz.prog 3=some .i64:=by kernel_rfl
theorem acm:MpB Tryz.prog 100 3 99=true:=by kernel_rfl
theorem abU:MpB Tryz.prog 153 3 36=true:=by kernel_rfl
theorem apP:MpB Tryz.prog 173 9 3=true:=by kernel_rfl
theorem aic:MpB Tryz.prog 233 3 231=true:=by kernel_rfl
theorem aik:MpB Tryz.prog 244 3 3=true:=by kernel_rfl
theorem ann:aaF Tryz.prog 173=some 1:=by kernel_rfl
theorem Tys3:aaF Tryz.prog 3=some 1:=by kernel_rfl
theorem aya:aaF Tryz.prog 35=some 5:=by kernel_rfl
theorem ayU:aaF Tryz.prog 50=some 1:=by kernel_rfl
theorem asM:aaF Tryz.prog 52=some 6:=by kernel_rfl
theorem axf:aaF Tryz.prog 84=some 5:=by kernel_rfl
theorem Tyt9:StrB Tryz.prog 9=true:=by kernel_rfl
theorem aq4:ad7 Tryz.prog 231=some (.agg #[.int .i64 0,.bool false,.int .i64 0,.int .i64 0,.bool false]):=by kernel_rfl
theorem Tyz3:ad7 Tryz.prog 3=some (.int .i64 0):=by kernel_rfl
theorem awM:ad7 Tryz.prog 36=some (.slice none 0 0):=by kernel_rfl
theorem auN:ad7 Tryz.prog 99=some (.agg #[.slice none 0 0,.int .i64 0]):=by kernel_rfl
theorem ymx:Tryz.prog.follows .mixedOrders=true:=by kernel_rfl
abbrev LE:=List aah
abbrev LS:=List aae
abbrev LC:=List aap
abbrev LF:=List aab
abbrev LP:=List aat
abbrev LB:=List ByteArray
abbrev LM:=List (List (ByteArray×Int))
abbrev OA:=Option Addr
abbrev BA:=ByteArray
abbrev iI(x:Int):Value:=.int .i64 x
abbrev pp(b o:Nat):Value:=.pointer (some ⟨b,o,none⟩)
abbrev vE(a b:Int)(s:BA)(c:Int)(A:OA)(x:LE)(m:Nat):List Value:=[iI a,iI b,.string s,iI c,.slice A x.length m]
abbrev vC(a:Int)(s:BA)(b:Int)(A:OA)(x:LE)(m:Nat)(B:OA)(y:LS)(n:Nat):List Value:=[iI a,.string s,iI b,.slice A x.length m,.slice B y.length n]
abbrev vS(a:Int)(s:BA)(b:Int)(u:BA)(c d:Int)(A:OA)(x:LE)(m:Nat)(A1:OA)(x1:LS)(m1:Nat)(A2:OA)(x2:LS)(m2:Nat)(A3:OA)(x3:LS)(m3:Nat)(A4:OA)(x4:LC)(m4:Nat):List Value :=
 [iI a,.string s,iI b,.string u,iI c,iI d,.slice A x.length m,.slice A1 x1.length m1,.slice A2 x2.length m2,.slice A3 x3.length m3,.slice A4 x4.length m4]
abbrev vF(s:BA)(A:OA)(x:LP)(m:Nat)(a:Int)(b:Bool)(c:Int)(B:OA)(y:LS)(n:Nat):List Value:=[.string s,.slice A x.length m,iI a,.bool b,iI c,.slice B y.length n]
abbrev vR(A:OA)(x:LF)(m:Nat)(s:BA)(B:OA)(y:LP)(n:Nat)(a:Int)(b:Bool)(c:Int)(A1:OA)(x1:LS)(m1:Nat)(A2:OA)(x2:LB)(m2:Nat)(A3:OA)(x3:LM)(m3:Nat)(d:Int):List Value :=
 [.slice A x.length m,.string s,.slice B y.length n,iI a,.bool b,iI c,.slice A1 x1.length m1,.slice A2 x2.length m2,.slice A3 x3.length m3,iI d]
abbrev sl{α:Type}(A:OA)(x:List α)(c:Nat):Value:=.slice A x.length c
abbrev nS:Value:=.slice none 0 0
abbrev sE:Value:=.string ⟨#[]⟩
abbrev vT:Value:=.bool true
abbrev vN:Value:=.bool false
abbrev zS:List Value:=[iI 0,sE,iI 0,sE,iI 0,iI 0,nS,nS,nS,nS,nS]
abbrev zE:List Value:=[iI 0,iI 0,sE,iI 0,nS]
abbrev zF:List Value:=[sE,nS,iI 0,vN,iI 0,nS]
def lbl:Nat→Nat→List Bool
 | 0,_=>[]
 | n+1,m=>(m % 2==1)::lbl n (m / 2)
def lb(n m:Nat):Array Bool:=(lbl n m).toArray
theorem ob{α β:Type}{x:Option α}{f:α→Option β}{b:β}(h:x.bind f=some b) : ∃a,x=some a∧f a=some b:=Option.bind_eq_some_iff.1 h
theorem ca{K0 K K1:KH}{w0 w w1:World}{M:Nat→Prop}{H1 H2 H1' : Ents}(T:Sx K K1 w w1 (fun b=>b∈Ents.blks H1) H1')(S:Sx K0 K w0 w M (H1++H2)):Sx K0 K1 w0 w1 M (H1'++H2):=S.call T
theorem pt{K0 K:KH}{w0 w:World}{M:Nat→Prop}{H1 H2:Ents}(S:Sx K0 K w0 w M (H1++H2)):Sx K K w w (fun b=>b∈Ents.blks H1) H1:=S.part H1 (List.sublist_append_left _ _)
theorem oi{α:Type}{a b:α}(h:some a=some b):a=b:=Option.some.inj h
theorem rz{α:Type}{x:Option α}{r:α}(h:x=some r) : ∃r_,r_=r∧x=some r_:=⟨r,rfl,h⟩
abbrev SR(K0 K:KH)(w0 w:World)(L H:Ents):Prop:=Sx K0 K w0 w (fun b=>b∈Ents.blks L) H
theorem kr{K:KH}:K.sub K:=KH.sub.refl K
theorem me{K K' : KH}{A:OA}{c:Nat}{xs:LE}(h:RSl aah (aai K) 5 64 K A c xs)(hs:K.sub K'):RSl aah (aai K') 5 64 K' A c xs:=h.mono hs (fun _ _ h=>aai.mono hs h)
theorem ms{K K' : KH}{A:OA}{c:Nat}{xs:LS}(h:RSl aae (aag K) 11 184 K A c xs)(hs:K.sub K'):RSl aae (aag K') 11 184 K' A c xs:=h.mono hs (fun _ _ h=>aag.mono hs h)
theorem mc{K K' : KH}{A:OA}{c:Nat}{xs:LC}(h:RSl aap (aar K) 5 80 K A c xs)(hs:K.sub K'):RSl aap (aar K') 5 80 K' A c xs:=h.mono hs (fun _ _ h=>aar.mono hs h)
theorem mf{K K' : KH}{A:OA}{c:Nat}{xs:LF}(h:RSl aab (aak K) 6 88 K A c xs)(hs:K.sub K'):RSl aab (aak K') 6 88 K' A c xs:=h.mono hs (fun _ _ h=>aak.mono hs h)
theorem mp{K K' : KH}{A:OA}{c:Nat}{xs:LP}(h:RSl aat (aaz K) 2 24 K A c xs)(hs:K.sub K'):RSl aat (aaz K') 2 24 K' A c xs:=h.mono hs (fun _ _ h=>aaz.mono hs h)
section
variable {P:Program}{ops:Array Oper}{Q:Exit→Act→World→Prop}{rest:List Oper}{n:Nat}{σ:Nat→Value}{w:World}{ty:TypeId}{pos:String}{aft:Array Edge}{t:Tmp}
theorem n0{dst:Option Tmp}{op:Op}{j:Nat}{b:Bool}(d:Tmp)(h:wpList P ops Q (⟨dst,op,ty,pos,aft,none⟩::rest) (fr n σ) w)(hj:(ops[j]?).bind (·.dst)=some d:=by exact rfl)(hb:ev n σ (.tmp d)=.bool b:=by exact rfl):wpList P ops Q (⟨dst,op,ty,pos,aft,some (j,b)⟩::rest) (fr n σ) w:=av4 hj hb h
theorem fd{s f:Nat}{x:Operand}{b o off:Nat}(o' : Nat)(hf:aca P s f=some off)(hx:ev n σ x=.pointer (some ⟨b,o,none⟩))(h:wpList P ops Q rest (fr n (upd σ t (.pointer (some ⟨b,o',none⟩)))) w)(ho:o+off=o':=by exact rfl):wpList P ops Q (⟨some t,.fieldAddr s x f,ty,pos,aft,none⟩::rest) (fr n σ) w:=fld hf hx ho h
theorem c1{op:BinOp}{xt yt:TypeId}{x y:Operand}{k:IntKind}{a b r:Int}(hx:ev n σ x=.int k a)(hy:ev n σ y=.int k b)(hr:amM k op a b=some r)(h:wpList P ops Q rest (fr n (upd σ t (.int k r))) w):wpList P ops Q (⟨some t,.binOp op xt x y yt,ty,pos,aft,none⟩::rest) (fr n σ) w:=bar hx hy hr h
theorem lD{x:Operand}{b o:Nat}{s size:Nat}(cs:List Value)(ha:AggB P s=some true)(hs:aaF P s=some size)(hx:ev n σ x=.pointer (some ⟨b,o,none⟩))(hc:adZ (fun j=>w.cell? ⟨b,j,none⟩) o cs)(h:wpList P ops Q rest (fr n (upd σ t (.agg cs.toArray))) w)(hl:cs.length=size:=by exact rfl):wpList P ops Q (⟨some t,.load s x,ty,pos,aft,none⟩::rest) (fr n σ) w:=ldN ha hs hx hl hc h
theorem cv{f:Operand}{args:Array Operand}{ts:Array TypeId}{g:FuncId}(vs:List Value){R:Value→World→Prop}(hb:acK P g=true)(hc:Calls P g vs.toArray w (Ret R))(h : ∀v w',R v w'→wpList P ops Q rest (fr n (upd σ t v)) w')(hf:ev n σ f=.func (.func g) #[] #[]:=by exact rfl)(ha:args.toList.map (ev n σ)++(#[]:Array Value).toList=vs:=by exact rfl):wpList P ops Q (⟨some t,.call { callee:=.value f,args:=args,argTypes:=ts },ty,pos,aft,none⟩::rest) (fr n σ) w:=clV hf hb ha hc h
variable {K0 K:KH}{w0:World}{M:Nat→Prop}{H:Ents}
end
section
variable {P:Program}{ops:Array Oper}{Q:Exit→Act→World→Prop}{E:List Nat}{F:World→Prop}{n:Nat}{σ:Nat→Value}{w:World}{ty:TypeId}{pos:String}{aft:Array Edge}
theorem aD{fuel:Nat}{L:Array Bool}{a:Act}(h:Q .normal a w)(hr:Region.ready .any ops L=[]:=by kernel_rfl):AnyE P ops Q E F fuel L a w:=ake hr h
end
abbrev zz(w:World):Nat:=w.heap.size
abbrev mB:Nat:=140737488355328
abbrev tE(K:KH):OA→Nat→LE→Prop:=RSl aah (aai K) 5 64 K
abbrev tS(K:KH):OA→Nat→LS→Prop:=RSl aae (aag K) 11 184 K
abbrev tC(K:KH):OA→Nat→LC→Prop:=RSl aap (aar K) 5 80 K
abbrev tF(K:KH):OA→Nat→LF→Prop:=RSl aab (aak K) 6 88 K
abbrev tP(K:KH):OA→Nat→LP→Prop:=RSl aat (aaz K) 2 24 K
theorem fq{K0 K:KH}{w0 w:World}{M:Nat→Prop}{H H' : Ents}(is:List Nat)(S:Sx K0 K w0 w M H')(h:is.filterMap (fun i=>H'[i]?)=H:=by exact rfl):FW K H w:=fwOf S kr h
section
variable {K0 K:KH}{w0 w:World}{M:Nat→Prop}{a b c d e f g h i:Ent}{l:Ents}
theorem axc(S:Sx K0 K w0 w M (a::b::c::d::e::l)):Sx K0 K w0 w M [a,b,c,d,e]:=S.sel [0,1,2,3,4]
theorem awv(S:Sx K0 K w0 w M (a::b::c::d::e::l)):Sx K0 K w0 w M [a,b,c,e,d]:=S.sel [0,1,2,4,3]
theorem avJ(S:Sx K0 K w0 w M (a::b::c::d::e::f::l)):Sx K0 K w0 w M [a,d,e,b,c,f]:=S.sel [0,3,4,1,2,5]
theorem abZ(S:Sx K0 K w0 w M (a::b::c::d::e::l)):Sx K0 K w0 w M [a,d,e,b,c]:=S.sel [0,3,4,1,2]
theorem atO(S:Sx K0 K w0 w M (a::b::c::d::e::l)):Sx K0 K w0 w M [a,e,b,c,d]:=S.sel [0,4,1,2,3]
theorem p102(S:Sx K0 K w0 w M (a::b::c::l)):Sx K0 K w0 w M [b,a,c]:=S.sel [1,0,2]
theorem p10(S:Sx K0 K w0 w M (a::b::l)):Sx K0 K w0 w M [b,a]:=S.sel [1,0]
theorem auC(S:Sx K0 K w0 w M (a::b::c::d::l)):Sx K0 K w0 w M [b,c,a,d]:=S.sel [1,2,0,3]
theorem p120(S:Sx K0 K w0 w M (a::b::c::l)):Sx K0 K w0 w M [b,c,a]:=S.sel [1,2,0]
theorem axm(S:Sx K0 K w0 w M (a::b::c::d::e::l)):Sx K0 K w0 w M [b,c,d,a,e]:=S.sel [1,2,3,0,4]
theorem aw7(S:Sx K0 K w0 w M (a::b::c::d::l)):Sx K0 K w0 w M [b,c,d,a]:=S.sel [1,2,3,0]
theorem arJ(S:Sx K0 K w0 w M (a::b::c::d::e::f::g::h::i::l)):Sx K0 K w0 w M [b,c,d,e,f,g,h,i]:=S.sel [1,2,3,4,5,6,7,8]
theorem ai6(S:Sx K0 K w0 w M (a::b::c::d::e::f::g::h::l)):Sx K0 K w0 w M [b,c,d,e,f,g,h]:=S.sel [1,2,3,4,5,6,7]
theorem ajJ(S:Sx K0 K w0 w M (a::b::c::d::e::f::g::l)):Sx K0 K w0 w M [b,c,d,e,f,g]:=S.sel [1,2,3,4,5,6]
theorem awX(S:Sx K0 K w0 w M (a::b::c::d::e::f::l)):Sx K0 K w0 w M [b,c,d,e,f]:=S.sel [1,2,3,4,5]
theorem akF(S:Sx K0 K w0 w M (a::b::c::d::e::l)):Sx K0 K w0 w M [b,c,d,e]:=S.sel [1,2,3,4]
theorem p123(S:Sx K0 K w0 w M (a::b::c::d::l)):Sx K0 K w0 w M [b,c,d]:=S.sel [1,2,3]
theorem p12(S:Sx K0 K w0 w M (a::b::c::l)):Sx K0 K w0 w M [b,c]:=S.sel [1,2]
theorem arc(S:Sx K0 K w0 w M (a::b::c::d::e::f::l)):Sx K0 K w0 w M [b,d,e,a,c,f]:=S.sel [1,3,4,0,2,5]
theorem asy(S:Sx K0 K w0 w M (a::b::c::d::e::f::g::l)):Sx K0 K w0 w M [b,e,f,a,c,d,g]:=S.sel [1,4,5,0,2,3,6]
theorem atw(S:Sx K0 K w0 w M (a::b::c::d::l)):Sx K0 K w0 w M [c,a,b,d]:=S.sel [2,0,1,3]
theorem p201(S:Sx K0 K w0 w M (a::b::c::l)):Sx K0 K w0 w M [c,a,b]:=S.sel [2,0,1]
theorem av9(S:Sx K0 K w0 w M (a::b::c::d::e::f::l)):Sx K0 K w0 w M [c,b,d,e,a,f]:=S.sel [2,1,3,4,0,5]
theorem alF(S:Sx K0 K w0 w M (a::b::c::d::e::l)):Sx K0 K w0 w M [c,d,e,a,b]:=S.sel [2,3,4,0,1]
theorem avn(S:Sx K0 K w0 w M (a::b::c::d::e::f::l)):Sx K0 K w0 w M [c,d,e,f,a,b]:=S.sel [2,3,4,5,0,1]
theorem ayp(S:Sx K0 K w0 w M (a::b::c::d::l)):Sx K0 K w0 w M [d,a,b,c]:=S.sel [3,0,1,2]
theorem atx(S:Sx K0 K w0 w M (a::b::c::d::e::f::g::l)):Sx K0 K w0 w M [d,e,f,a,b,c,g]:=S.sel [3,4,5,0,1,2,6]
theorem amn(S:Sx K0 K w0 w M (a::b::c::d::e::f::l)):Sx K0 K w0 w M [d,e,f,a,b,c]:=S.sel [3,4,5,0,1,2]
theorem apG(S:Sx K0 K w0 w M (a::b::c::d::e::f::l)):Sx K0 K w0 w M [e,a,b,c,d,f]:=S.sel [4,0,1,2,3,5]
theorem axQ(S:Sx K0 K w0 w M (a::b::c::d::e::l)):Sx K0 K w0 w M [e,a,b,c,d]:=S.sel [4,0,1,2,3]
end
abbrev aE(a b:Int)(s:BA)(c:Int)(A:OA)(x:LE)(m:Nat):Array Value:=(vE a b s c A x m).toArray
abbrev aC'(a:Int)(s:BA)(b:Int)(A:OA)(x:LE)(m:Nat)(B:OA)(y:LS)(n:Nat):Array Value:=(vC a s b A x m B y n).toArray
abbrev aS(a:Int)(s:BA)(b:Int)(u:BA)(c d:Int)(A:OA)(x:LE)(m:Nat)(A1:OA)(x1:LS)(m1:Nat)(A2:OA)(x2:LS)(m2:Nat)(A3:OA)(x3:LS)(m3:Nat)(A4:OA)(x4:LC)(m4:Nat):Array Value:=(vS a s b u c d A x m A1 x1 m1 A2 x2 m2 A3 x3 m3 A4 x4 m4).toArray
abbrev aF(s:BA)(A:OA)(x:LP)(m:Nat)(a:Int)(b:Bool)(c:Int)(B:OA)(y:LS)(n:Nat):Array Value:=(vF s A x m a b c B y n).toArray
abbrev aR(A:OA)(x:LF)(m:Nat)(s:BA)(B:OA)(y:LP)(n:Nat)(a:Int)(b:Bool)(c:Int)(A1:OA)(x1:LS)(m1:Nat)(A2:OA)(x2:LB)(m2:Nat)(A3:OA)(x3:LM)(m3:Nat)(d:Int):Array Value:=(vR A x m s B y n a b c A1 x1 m1 A2 x2 m2 A3 x3 m3 d).toArray
abbrev eW{α:Type}(b:Nat)(A:OA)(x:List α)(c t s:Nat)(y:List Value):Ent:=.row b (sl A x c) t s x.length y
abbrev eK{α:Type}(b:Nat)(A:OA)(x:List α)(c t:Nat)(y:List (Nat×Array MapEntry×Nat)):Ent:=.stk b (sl A x c) t x.length y
section
variable {P:Program}{ops:Array Oper}{Q:Exit→Act→World→Prop}{E:List Nat}{F:World→Prop}{n:Nat}{σ:Nat→Value}{w:World}{ty:TypeId}{pos:String}{aft:Array Edge}{fuel:Nat}{t:Tmp}{L:Array Bool}
theorem hE{E:List Nat}{F:World→Prop}{L:Array Bool}{w:World}(i:Nat)(h1:E.contains i=true:=by kernel_rfl)(h2:L.getD i true=true:=by kernel_rfl):Held E F L w:=axE h1 h2
theorem kK{op:Op}(i:Nat)(v:Value)(hi:ops[i]?=some ⟨some t,op,ty,pos,aft,none⟩)(hy : ∀w,(execOp (ev n σ) ⟨some t,op,ty,pos,aft,none⟩).run P w=.ok (.value v) w)(hF:F w)
 (h:AnyE P ops Q E F fuel (L.setIfInBounds i true) (fr n (upd σ t v)) w) (hsel:Region.noSelect ops=true:=by kernel_rfl) (hb:ab2 ops E [] L i=true:=by kernel_rfl) (hQ:PQ Q:=by exact fun _ _ d _ _ h=>by cases d<;>exact h):AnyE P ops Q E F (fuel+1) L (fr n σ) w:=tkP hi hsel hb hQ hy (ak7 hF) rfl h
theorem kH{op:Op}(i:Nat)(v:Value)(hi:ops[i]?=some ⟨some t,op,ty,pos,aft,none⟩)(hy : ∀w,(execOp (ev n σ) ⟨some t,op,ty,pos,aft,none⟩).run P w=.ok (.value v) w)(j:Nat)
 (h:AnyE P ops Q E F fuel (L.setIfInBounds i true) (fr n (upd σ t v)) w) (h1:E.contains j=true:=by kernel_rfl) (h2:L.getD j true=true:=by kernel_rfl) (hsel:Region.noSelect ops=true:=by kernel_rfl) (hb:ab2 ops E [] L i=true:=by kernel_rfl) (hQ:PQ Q:=by exact fun _ _ d _ _ h=>by cases d<;>exact h):AnyE P ops Q E F (fuel+1) L (fr n σ) w:=tkP hi hsel hb hQ hy (axE h1 h2) rfl h
theorem kA{op:BinOp}{xt yt:TypeId}{x y:Operand}{a b:Int}(i:Nat)(r:Int)(hi:ops[i]?=some ⟨some t,.binOp op xt x y yt,ty,pos,aft,none⟩)(hF:F w)
 (h:AnyE P ops Q E F fuel (L.setIfInBounds i true) (fr n (upd σ t (iI r))) w) (hx:ev n σ x=iI a:=by exact rfl) (hy:ev n σ y=iI b:=by exact rfl) (hr:amM .i64 op a b=some r:=by exact rfl) (hsel:Region.noSelect ops=true:=by kernel_rfl) (hb:ab2 ops E [] L i=true:=by kernel_rfl) (hQ:PQ Q:=by exact fun _ _ d _ _ h=>by cases d<;>exact h):AnyE P ops Q E F (fuel+1) L (fr n σ) w:=tkP hi hsel hb hQ (fun _=>aw4 hx hy hr) (ak7 hF) rfl h
theorem tT{op:Op}(i:Nat)(v:Value)(ps:List (List Nat))(hi:ops[i]?=some ⟨some t,op,ty,pos,aft,none⟩)(hF:F w)(hy : ∀w,F w→(execOp (ev n σ) ⟨some t,op,ty,pos,aft,none⟩).run P w=.ok (.value v) w)
 (h:AnyE P ops Q E F fuel (L.setIfInBounds i true) (fr n (upd σ t v)) w) (hsel:Region.noSelect ops=true:=by kernel_rfl) (hb:ab2 ops E ps L i=true:=by kernel_rfl) (hw:ad9 ops i E ps=true:=by kernel_rfl) (hlt:E.all (fun e=>decide (e<ops.size))=true:=by kernel_rfl) (hQ:PQ Q:=by exact fun _ _ d _ _ h=>by cases d<;>exact h):AnyE P ops Q E F (fuel+1) L (fr n σ) w:=tkF hi hsel hb hw hlt hQ hF hy rfl h
end
def isLd:Op→Bool
 | .load _ _=>true
 | _=>false
def pth(ops:Array Oper)(i:Nat):Nat→Nat→List Nat
 | 0,j=>[j]
 | f+1,j=>if j==i then [j] else match ops[j]? with
  | some o=>j::((o.after.toList.filterMap fun e=>if Region.binds .any e then (let l:=pth ops i f e.on;if l.getLast? == some i then some l else none) else none).head?.getD [])
  | none=>[j]
def agK{β:Type}(P:Program)(ops:Array Oper)(E:List Nat)(n:Nat)(ck:Ck→Ck→β→β)(no:β)(H:Ents)(fin:Nat→Array Bool→(Nat→Value)→β):Nat→List Nat→Nat→Array Bool→(Nat→Value)→β
 | 0,_,f,L,σ=>hi_ β (fin f L σ)
 | m+1,i::hs,f+1,L,σ=>match ops[i]? with
  | some ⟨some t,op,_,_,_,none⟩=>ck (.n (bN (ab2 ops E [] L i))) (.n 1) (ck (.n (bN (!isLd op||ad9 ops i E (E.map (pth ops i ops.size))))) (.n 1) (opK P n ck no σ H hs (fun v hs=>agK P ops E n ck no H fin m hs f (L.setIfInBounds i true) (upd σ t v)) op))
  | some ⟨some t,op,_,_,_,some (j,b)⟩=>ck (.n (bN (ab2 ops E [] L i))) (.n 1) (match (ops[j]?).bind (·.dst) with
   | some d=>match ev n σ (.tmp d),b with
    | .bool true,true=>ck (.n (bN (!isLd op||ad9 ops i E (E.map (pth ops i ops.size))))) (.n 1) (opK P n ck no σ H hs (fun v hs=>agK P ops E n ck no H fin m hs f (L.setIfInBounds i true) (upd σ t v)) op)
    | .bool false,false=>ck (.n (bN (!isLd op||ad9 ops i E (E.map (pth ops i ops.size))))) (.n 1) (opK P n ck no σ H hs (fun v hs=>agK P ops E n ck no H fin m hs f (L.setIfInBounds i true) (upd σ t v)) op)
    | .bool true,false=>agK P ops E n ck no H fin m hs f (L.setIfInBounds i true) (upd σ t undef)
    | .bool false,true=>agK P ops E n ck no H fin m hs f (L.setIfInBounds i true) (upd σ t undef)
    | .tuple ⟨[]⟩,_=>agK P ops E n ck no H fin m hs f (L.setIfInBounds i true) (upd σ t undef)
    | _,_=>no
   | none=>no)
  | _=>no
 | _,_,_,_,_=>no
section
variable {P:Program}{ops:Array Oper}{Q:Exit→Act→World→Prop}{E:List Nat}{K:KH}{H:Ents}{n:Nat}{w:World}
theorem ahk{F:World→Prop}{L:Array Bool}{i:Nat}(hE:E.contains i=false)(h:Held E F L w):Held E F (L.setIfInBounds i true) w:=fun hE'=>h fun e he=>by
 have:=hE' e he
 rwa [getD_set_ne true (by rintro rfl;rw[List.contains_eq_mem] at hE;simp at hE;exact hE he)] at this
theorem amW{ps:List (List Nat)}{L:Array Bool}{i:Nat}(hb:ab2 ops E ps L i=true):E.contains i=false:=by
 simp only[ab2,Bool.and_eq_true,Bool.not_eq_true'] at hb;exact hb.2
theorem as9{F:World→Prop}{L:Array Bool}{i:Nat}{ps:List (List Nat)}(hb:ab2 ops E [] L i=true)(hlt:E.all (fun e=>decide (e<ops.size))=true)(hw:ad9 ops i E ps=true)(h:Held E F L w):F w:=by
 simp only[ab2,Bool.and_eq_true,beq_iff_eq,Bool.not_eq_true'] at hb;obtain⟨⟨⟨⟨h1,h2⟩,h3⟩,h4⟩,h5⟩:=hb;have hi0:L.getD i false=false:=by
  have h0:=(mem_ready.1 (show i∈Region.ready .any ops L by simpa using h2)).1;rcases Nat.lt_or_ge i L.size with h' | h'
  ·simp[Array.getD,h'] at h0 ⊢;exact h0
  ·simp[Array.getD];intro h;omega
 refine h fun e he=>?_
 have hlt' : e<ops.size:=by simpa using List.all_eq_true.1 hlt e he
 exact aqU (by rw[h4];exact hlt') true (aiG (adM h3) hw he hi0)
theorem avE{σ:Nat→Value}{β:Type}{ck:Ck→Ck→β→β}{no:β}{hs:List Nat}{k:Value→List Nat→β}{op:Op}(h:isLd op=false):opK P n ck no σ H hs k op=opK P n ck no σ [] hs k op:=by
 cases op with
 | load s x=>cases h
 | unOp u _ _=>cases u<;>rfl
 | call c =>
  obtain⟨cl,⟨args⟩,⟨ts⟩⟩:=c;cases cl with
  | builtin bi =>
   cases bi with
   | len=>rcases args with _|⟨x,_ | ⟨y,args⟩⟩<;>first | rfl | (rcases ts with _|⟨s,_ | ⟨z,ts⟩⟩<;>rfl)
   | _=>rfl
  | _=>rfl
 | _=>rfl
theorem auU(hsel:Region.noSelect ops=true)(hQ:PQ Q)(hlt:E.all (fun e=>decide (e<ops.size))=true) : ∀(m:Nat) (hs:List Nat) (f:Nat) (L:Array Bool) (σ:Nat→Value),Held E (FW K H) L w →
  agK P ops E n ckP False H (fun f L σ=>AnyE P ops Q E (FW K H) f L (fr n σ) w) m hs f L σ→EqL (agK P ops E n ckL noL H (fun _ _ _ _=>[]) m hs f L σ)→AnyE P ops Q E (FW K H) f L (fr n σ) w
 | 0,_,_,_,_,_,h,_=>h
 | m+1,[],f,_,_,_,h,_=>by cases f<;>exact h.elim
 | m+1,i::hs,0,_,_,_,h,_=>h.elim
 | m+1,i::hs,f+1,L,σ,hH,h,h'=>by
  have ih:=fun hs f L σ hH=>auU hsel hQ hlt m hs f L σ hH
  unfold agK at h h';cases eo:ops[i]? with
  | none=>rw[eo] at h;exact h.elim
  | some o =>
   obtain⟨dst,op,ty,pos,aft,grd⟩:=o;rw[eo] at h h';cases dst with
   | none=>cases grd<;>exact h.elim
   | some t =>
    have done : ∀(v:Value),(∀w',(∀e∈H,e.holds w')→∀t ty pos aft,(execOp (ev n σ) ⟨some t,op,ty,pos,aft,none⟩).run P w'=.ok (.value v) w')→(isLd op=false→∀w' t ty pos aft,(execOp (ev n σ) ⟨some t,op,ty,pos,aft,none⟩).run P w'=.ok (.value v) w') →
      ab2 ops E [] L i=true→(!isLd op||ad9 ops i E (E.map (pth ops i ops.size)))=true→(grd=none∨∃j b d,grd=some (j,b)∧(ops[j]?).bind (·.dst)=some d∧ev n σ (.tmp d)=.bool b) →
      AnyE P ops Q E (FW K H) f (L.setIfInBounds i true) (fr n (upd σ t v)) w→AnyE P ops Q E (FW K H) (f+1) L (fr n σ) w:=by
     intro v e1 e2 hb hw hg ha;cases el:isLd op with
     | false =>
      rcases hg with rfl | ⟨j,b,d,rfl,hj,hv⟩
      ·exact tkP eo hsel hb hQ (fun w'=>e2 el w' t ty pos aft) hH rfl ha
      ·exact tkPG eo hsel hb hQ hj hv (fun w'=>e2 el w' t ty pos aft) hH rfl ha
     | true =>
      rw[el] at hw;have hw:ad9 ops i E (E.map (pth ops i ops.size))=true:=by simpa using hw
      have hF:FW K H w:=as9 hb hlt hw hH;rcases hg with rfl | ⟨j,b,d,rfl,hj,hv⟩
      ·exact tkF (ps:=E.map (pth ops i ops.size)) eo hsel hb hw hlt hQ hF (fun w' hF'=>e1 w' hF'.2 t ty pos aft) rfl ha
      ·exact tkFG (ps:=E.map (pth ops i ops.size)) eo hsel hb hw hlt hQ hj hv hF (fun w' hF'=>e1 w' hF'.2 t ty pos aft) rfl ha
    have one:ab2 ops E [] L i=true→(!isLd op||ad9 ops i E (E.map (pth ops i ops.size)))=true→(grd=none∨∃j b d,grd=some (j,b)∧(ops[j]?).bind (·.dst)=some d∧ev n σ (.tmp d)=.bool b) →
      opK P n ckP False σ H hs (fun v hs=>agK P ops E n ckP False H (fun f L σ=>AnyE P ops Q E (FW K H) f L (fr n σ) w) m hs f (L.setIfInBounds i true) (upd σ t v)) op →
      EqL (opK P n ckL noL σ H hs (fun v hs=>agK P ops E n ckL noL H (fun _ _ _ _=>[]) m hs f (L.setIfInBounds i true) (upd σ t v)) op)→AnyE P ops Q E (FW K H) (f+1) L (fr n σ) w:=by
     intro hb hw hg h h';cases el:isLd op with
     | false =>
      rw[avE el] at h h';obtain⟨v,hs',e,h3,g3⟩:=apl h h';exact done v (fun w' _=>e w' (by simp)) (fun _ w'=>e w' (by simp)) hb hw hg (ih hs' f _ _ (ahk (amW hb) hH) h3 g3)
     | true =>
      obtain⟨v,hs',e,h3,g3⟩:=apl h h';exact done v e (fun hc=>by rw[el] at hc;cases hc) hb hw hg (ih hs' f _ _ (ahk (amW hb) hH) h3 g3)
    cases grd with
    | none =>
     obtain⟨e1,h'⟩:=EqL.c (a:=.n (bN (ab2 ops E [] L i))) h';obtain⟨e2,h'⟩:=EqL.c (a:=.n (bN (!isLd op||ad9 ops i E (E.map (pth ops i ops.size))))) h';exact one (bN1 e1) (bN1 e2) (.inl rfl) h h'
    | some jb =>
     obtain⟨j,b⟩:=jb;obtain⟨e1,g1⟩:=EqL.c (a:=.n (bN (ab2 ops E [] L i))) h';clear h';have off:(ev n σ (.tmp (((ops[j]?).bind (·.dst)).getD 0))=.bool (!b)∨ev n σ (.tmp (((ops[j]?).bind (·.dst)).getD 0))=undef)→((ops[j]?).bind (·.dst)).isSome=true→agK P ops E n ckP False H (fun f L σ=>AnyE P ops Q E (FW K H) f L (fr n σ) w) m hs f (L.setIfInBounds i true) (upd σ t undef) →
       EqL (agK P ops E n ckL noL H (fun _ _ _ _=>[]) m hs f (L.setIfInBounds i true) (upd σ t undef))→AnyE P ops Q E (FW K H) (f+1) L (fr n σ) w:=by
      intro hv hs' h h';obtain⟨d,hd⟩:=Option.isSome_iff_exists.1 hs';rw[hd] at hv;exact tkO eo rfl rfl hsel (bN1 e1) hQ hd hv hH rfl (ih hs f _ _ (ahk (amW (bN1 e1)) hH) h h')
     simp only at h g1;split at h
     ·rename_i d ed;rw[ed] at g1 off;simp only at g1;split at h
      ·rename_i ee;rw[ee] at g1;obtain⟨e2,g2⟩:=EqL.c (a:=.n (bN (!isLd op||ad9 ops i E (E.map (pth ops i ops.size))))) g1;exact one (bN1 e1) (bN1 e2) (.inr ⟨j,_,d,rfl,ed,ee⟩) h g2
      ·rename_i ee;rw[ee] at g1;obtain⟨e2,g2⟩:=EqL.c (a:=.n (bN (!isLd op||ad9 ops i E (E.map (pth ops i ops.size))))) g1;exact one (bN1 e1) (bN1 e2) (.inr ⟨j,_,d,rfl,ed,ee⟩) h g2
      ·rename_i ee;rw[ee] at g1;exact off (.inl ee) rfl h g1
      ·rename_i ee;rw[ee] at g1;exact off (.inl ee) rfl h g1
      ·rename_i ee;rw[ee] at g1;exact off (.inr ee) rfl h g1
      ·exact h.elim
     ·exact h.elim
variable {f:Nat}{L:Array Bool}{σ:Nat→Value}
theorem ag(m:Nat)(hs:List Nat)(hH:Held E (FW K H) L w)(h:agK P ops E n ckP False H (fun f L σ=>AnyE P ops Q E (FW K H) f L (fr n σ) w) m hs f L σ)
 (e:EqL (agK P ops E n ckL noL H (fun _ _ _ _=>[]) m hs f L σ):=by intro _;kernel_rfl)
 (hsel:Region.noSelect ops=true:=by kernel_rfl) (hlt:E.all (fun e=>decide (e<ops.size))=true:=by kernel_rfl) (hQ:PQ Q:=by exact fun _ _ d _ _ h=>by cases d<;>exact h):AnyE P ops Q E (FW K H) f L (fr n σ) w:=auU hsel hQ hlt m hs f L σ hH h e
theorem lA{F:World→Prop}{b c:Bool}(d:Nat)(e:b=c)(h:AnyE P ops Q E F f L (fr n (upd σ d (.bool c))) w)(hd:σ d=.bool b:=by exact rfl):AnyE P ops Q E F f L (fr n σ) w:=by
 subst e;rw[aiR hd] at h;exact h
end
section
variable {P:Program}{ops:Array Oper}{Q:Exit→Act→World→Prop}{E:List Nat}{F:World→Prop}{n fuel:Nat}{L:Array Bool}{s:List Fx}{a:Act}{w:World}
theorem rB{id:Nat}{l:List Oper}{K0 K:KH}{w0:World}{M:Nat→Prop}{H:Ents}(E:List Nat)(S:Sx K0 K w0 w M H)
  (h:Sx K0 K w0 w.drew M H→FW K H w.drew→AnyE P l.toArray Q E (FW K H) l.length (Array.replicate l.length false) a w.drew) (hm:P.follows .mixedOrders=true:=by exact ymx):(Code.region id l.toArray true).wp P Q a w :=
 awV hm rfl rfl (h S.drew S.drew.fw)
theorem opQ{i:Nat}{o:Oper}{J:Act→World→Prop}(hi:ops[i]?=some o)(h:wpList P ops (qO P Q (.nx J::s)) [o] a w):wpOp P ops (qO P Q s) i J a w:=opL hi h
theorem aQ(i:Nat){o:Oper}(hi:ops[i]?=some o)(h:wpList P ops (qO P Q (.nx (fun a' w'=>Held E F (L.setIfInBounds i true) w'∧AnyE P ops (qO P Q s) E F fuel (L.setIfInBounds i true) a' w')::s)) [o] a w)(hr:Region.ready .any ops L=[i]:=by kernel_rfl):AnyE P ops (qO P Q s) E F (fuel+1) L a w :=
 ad6 hr (by simp) (allC (opL hi h) allN)
theorem bA{α:Type}{b:Bool}{x y r:α}{σ:Nat→Value}(d:Nat)(h:cond b x y=r)(k1:b=true→x=r→AnyE P ops Q E F fuel L (fr n (upd σ d (.bool true))) w)(k2:b=false→y=r→AnyE P ops Q E F fuel L (fr n (upd σ d (.bool false))) w)(hd:σ d=.bool b:=by exact rfl):AnyE P ops Q E F fuel L (fr n σ) w:=by
 cases b
 ·exact lA d rfl (k2 rfl h) hd
 ·exact lA d rfl (k1 rfl h) hd
theorem wB{G:Prop}(hF:F w)(h:F w→G):Held E F L w∧G:=⟨ak7 hF,h hF⟩
theorem ah{K:KH}{H:Ents}{σ:Nat→Value}{f:Nat}(m:Nat)(hs:List Nat)(hF:FW K H w)(h:agK P ops E n ckP False H (fun f L σ=>AnyE P ops Q E (FW K H) f L (fr n σ) w) m hs f L σ)
 (e:EqL (agK P ops E n ckL noL H (fun _ _ _ _=>[]) m hs f L σ):=by intro _;kernel_rfl)
 (hsel:Region.noSelect ops=true:=by kernel_rfl) (hlt:E.all (fun e=>decide (e<ops.size))=true:=by kernel_rfl) (hQ:PQ Q:=by exact fun _ _ d _ _ h=>by cases d<;>exact h):AnyE P ops Q E (FW K H) f L (fr n σ) w:=auU hsel hQ hlt m hs f L σ (ak7 hF) h e
end
section
variable {P:Program}{ops:Array Oper}{Q:Exit→Act→World→Prop}{E:List Nat}{n f:Nat}{σ:Nat→Value}{w:World}{ty ty' : TypeId}{pos pos' : String}{aft aft' : Array Edge}{t t' : Tmp}{K:KH}{H:Ents}{L:Array Bool}
 {α:Type} {R:α→List Value→Prop} {Y:List Value→Prop} {s e size bytes c:Nat} {x y:Operand} {A:Option Addr} {k:IntKind} {xs l:List α} {a:α}
theorem e2{v:Value}(i j:Nat)(hi:ops[i]?=some ⟨some t,.indexAddr s x y,ty,pos,aft,none⟩)(hj:ops[j]?=some ⟨some t',.load e (.tmp t),ty',pos',aft',none⟩)(hF:FW K H w){b o size:Nat}{cs:List Value}
  (h1 : ∀w,(execOp (ev n σ) ⟨some t,.indexAddr s x y,ty,pos,aft,none⟩).run P w=.ok (.value (.pointer (some ⟨b,o,none⟩))) w) (hc:adZ (K.cell b) o cs) (hl:cs.length=size) (ht:Nat.blt t n=true) (hs:aaF P e=some size) (ha:AggB P e=some true)
  (hsel:Region.noSelect ops=true) (hlt:E.all (fun e=>decide (e<ops.size))=true) (hQ:PQ Q) (hb:ab2 ops E [] L i=true) (hb2:ab2 ops E [] (L.setIfInBounds i true) j=true) (hw:ad9 ops j E (E.map (pth ops j ops.size))=true)
  (h:AnyE P ops Q E (FW K H) f ((L.setIfInBounds i true).setIfInBounds j true) (fr n (upd (upd σ t (.pointer (some ⟨b,o,none⟩))) t' (.agg cs.toArray))) w):AnyE P ops Q E (FW K H) (f+2) L (fr n σ) w:=by
 refine tkP hi hsel hb hQ h1 (ak7 hF) rfl ?_;exact tkF (ps:=E.map (pth ops j ops.size)) hj hsel hb2 hw hlt hQ hF (fun w' hF'=>apD ha hs (ev_t ht) hl (fun q v hq=>hF'.1.cell (hc q v hq))) rfl h
theorem eA{i' : Nat}(i j:Nat)(hi:ops[i]?=some ⟨some t,.indexAddr s x y,ty,pos,aft,none⟩)(hj:ops[j]?=some ⟨some t',.load e (.tmp t),ty',pos',aft',none⟩)(hF:FW K H w)(hr:RSl α R size bytes K A c xs)(hd:xs.drop i'=a::l)(op : ∀{cs},R a cs→Y cs)
  (h : ∀b o cs,A=some ⟨b,o,none⟩→adZ (K.cell b) (o+i'*size) cs→R a cs→Y cs→AnyE P ops Q E (FW K H) f ((L.setIfInBounds i true).setIfInBounds j true) (fr n (upd (upd σ t (.pointer (some ⟨b,o+i'*size,none⟩))) t' (.agg cs.toArray))) w)
  (hx:ev n σ x=.slice A xs.length c:=by exact rfl) (hy:ev n σ y=.int k (i' : Int):=by exact rfl) (ht:Nat.blt t n=true:=by exact rfl)
  (he:abg P s=some e:=by kernel_rfl) (hs:aaF P e=some size:=by kernel_rfl) (ha:AggB P e=some true:=by kernel_rfl)
  (hsel:Region.noSelect ops=true:=by kernel_rfl) (hlt:E.all (fun e=>decide (e<ops.size))=true:=by kernel_rfl) (hQ:PQ Q:=by exact fun _ _ d _ _ h=>by cases d<;>exact h) (hb:ab2 ops E [] L i=true:=by kernel_rfl) (hb2:ab2 ops E [] (L.setIfInBounds i true) j=true:=by kernel_rfl) (hw:ad9 ops j E (E.map (pth ops j ops.size))=true:=by kernel_rfl):AnyE P ops Q E (FW K H) (f+2) L (fr n σ) w:=by
 obtain⟨b,o,cs,hA,hl,hc,hR⟩:=hr.row.at_ (aaB hd);exact e2 (v:=undef) i j hi hj hF (fun w=>aiw he hs hx hA hy (aaR hd)) hc hl ht hs ha hsel hlt hQ hb hb2 hw (h b o cs hA hc hR (op hR))
theorem eB{i' : Int}(i j:Nat)(hi:ops[i]?=some ⟨some t,.indexAddr s x y,ty,pos,aft,none⟩)(hj:ops[j]?=some ⟨some t',.load e (.tmp t),ty',pos',aft',none⟩)(hF:FW K H w)(hr:RSl α R size bytes K A c xs)(hd:idxO xs i'=some a)(op : ∀{cs},R a cs→Y cs)
  (h : ∀b o cs,A=some ⟨b,o,none⟩→adZ (K.cell b) (o+i'.toNat*size) cs→R a cs→Y cs→AnyE P ops Q E (FW K H) f ((L.setIfInBounds i true).setIfInBounds j true) (fr n (upd (upd σ t (.pointer (some ⟨b,o+i'.toNat*size,none⟩))) t' (.agg cs.toArray))) w)
  (hx:ev n σ x=.slice A xs.length c:=by exact rfl) (hy:ev n σ y=.int k i':=by exact rfl) (ht:Nat.blt t n=true:=by exact rfl)
  (he:abg P s=some e:=by kernel_rfl) (hs:aaF P e=some size:=by kernel_rfl) (ha:AggB P e=some true:=by kernel_rfl)
  (hsel:Region.noSelect ops=true:=by kernel_rfl) (hlt:E.all (fun e=>decide (e<ops.size))=true:=by kernel_rfl) (hQ:PQ Q:=by exact fun _ _ d _ _ h=>by cases d<;>exact h) (hb:ab2 ops E [] L i=true:=by kernel_rfl) (hb2:ab2 ops E [] (L.setIfInBounds i true) j=true:=by kernel_rfl) (hw:ad9 ops j E (E.map (pth ops j ops.size))=true:=by kernel_rfl):AnyE P ops Q E (FW K H) (f+2) L (fr n σ) w:=by
 obtain⟨b,o,cs,hA,hl,hc,hR⟩:=hr.row.at_ (aay hd).1;exact e2 (v:=undef) i j hi hj hF (fun w=>ahI he hs hx hA hy (aay hd).2.1 (aay hd).2.2) hc hl ht hs ha hsel hlt hQ hb hb2 hw (h b o cs hA hc hR (op hR))
theorem kGl{s c:Nat}{i' : Int}{b o:Nat}(e size i:Nat)(hi:ops[i]?=some ⟨some t,.indexAddr s x y,ty,pos,aft,none⟩)(hA:A=some ⟨b,o,none⟩)(hd:idxO xs i'=some a)(hF:FW K H w)(h:AnyE P ops Q E (FW K H) f (L.setIfInBounds i true) (fr n (upd σ t (.pointer (some ⟨b,o+i'.toNat*size,none⟩)))) w)
  (hx:ev n σ x=.slice A xs.length c:=by exact rfl) (hy:ev n σ y=.int k i':=by exact rfl) (he:abg P s=some e:=by kernel_rfl) (hs:aaF P e=some size:=by kernel_rfl) (hsel:Region.noSelect ops=true:=by kernel_rfl) (hb:ab2 ops E [] L i=true:=by kernel_rfl) (hQ:PQ Q:=by exact fun _ _ d _ _ h=>by cases d<;>exact h):AnyE P ops Q E (FW K H) (f+1) L (fr n σ) w :=
 tkP hi hsel hb hQ (fun w=>ahI he hs hx hA hy (aay hd).2.1 (aay hd).2.2) (ak7 hF) rfl h
end
theorem axR : ∀xs:List Int,Reps (RInt .i64) 1 xs (xs.map (Value.int .i64))
 | []=>rfl
 | x::xs=>⟨[.int .i64 x],_,rfl,rfl,rfl,axR xs⟩
theorem fzi{w w0:World}{K0 K:KH}{M:Nat→Prop}{H:Ents}{b:Nat}{news:Array Value}{bt:TypeId}(i:Nat)(xs:List Int)(S:Sx K0 K w0 w M H)(hi:H[i]?=some (.box w0.heap.size b news bt))(hn:news.toList=xs.map (Value.int .i64):=by exact rfl)(hb:Nat.ble (xs.length*8) 140737488355328=true:=by exact rfl) :
 ∃K',Sx K0 K' w0 w M (H.eraseIdx i)∧K.sub K'∧RSl Int (RInt .i64) 1 8 K' (some ⟨b,0,none⟩) xs.length xs:=frzI (R:=fun _=>RInt .i64) S hi (Nat.le_refl _) (by rw[hn];exact axR xs) rfl (Nat.le_of_ble_eq_true hb) (fun _ _ _ h=>h)
theorem gm{K K' : KH}{w0 w:World}{M:Nat→Prop}{H:Ents}(g:GK K)(S:Sx K K' w0 w M H):GK K':=g.mono S.sub
section
variable {P:Program}{ops:Array Oper}{Q:Exit→Act→World→Prop}{E:List Nat}{F:World→Prop}{fuel i j k:Nat}{L:Array Bool}{a:Act}{w:World}
theorem an2(h1:wpOp P ops Q i (fun a' w'=>Held E F (L.setIfInBounds i true) w'∧AnyE P ops Q E F fuel (L.setIfInBounds i true) a' w') a w)(h2:wpOp P ops Q j (fun a' w'=>Held E F (L.setIfInBounds j true) w'∧AnyE P ops Q E F fuel (L.setIfInBounds j true) a' w') a w)
 (hr:Region.ready .any ops L=[i,j]:=by kernel_rfl):AnyE P ops Q E F (fuel+1) L a w:=ad6 hr (by simp) (allC h1 (allC h2 allN))
theorem an3(h1:wpOp P ops Q i (fun a' w'=>Held E F (L.setIfInBounds i true) w'∧AnyE P ops Q E F fuel (L.setIfInBounds i true) a' w') a w)(h2:wpOp P ops Q j (fun a' w'=>Held E F (L.setIfInBounds j true) w'∧AnyE P ops Q E F fuel (L.setIfInBounds j true) a' w') a w)
 (h3:wpOp P ops Q k (fun a' w'=>Held E F (L.setIfInBounds k true) w'∧AnyE P ops Q E F fuel (L.setIfInBounds k true) a' w') a w) (hr:Region.ready .any ops L=[i,j,k]:=by kernel_rfl):AnyE P ops Q E F (fuel+1) L a w:=ad6 hr (by simp) (allC h1 (allC h2 (allC h3 allN)))
end
end Go.Proofs.YtphdlngnegjgcaaGreatDoor
