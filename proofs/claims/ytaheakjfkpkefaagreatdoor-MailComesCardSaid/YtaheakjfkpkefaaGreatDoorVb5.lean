/- Lemmas. -/
import Derived.Test.YtaheakjfkpkefaaGreatDoorVb4
import Derived.Shelf.Strings.BuilderF
import Derived.Shelf.Strings.Trim
import Derived.Shelf.Strings.FuncGrows
import Derived.Shelf.Strconv.ParseIntPublic10
import Derived.Laws.RangeString
set_option maxHeartbeats 16000000
set_option maxRecDepth 100000
namespace Go.Proofs
open Go.Shelf
def Tryz.lays169_ren : Go.Shelf.Ren:=⟨fun|169=>175|n=>n,fun|70=>243|9=>9|0=>0|72=>246|37=>244|127=>270|3=>3|5=>5|n=>n,fun|n=>n⟩
theorem Tryz.lays169 : Go.Proofs.Lays.n169 Tryz.prog Tryz.lays169_ren:={
 mixed:=by kernel_rfl
 f169:=Tryz.func175.trans (congrArg some (by kernel_rfl))
 t0:=Tryz.underlying0
 a0:=Tryz.isAgg0
 z0:=Tryz.sizeOf0
 v0:=Tryz.zeroValue0
 t3:=Tryz.underlying3
 a3:=Tryz.isAgg3
 z3:=Tryz.sizeOf3
 v3:=Tryz.zeroValue3
 t9:=Tryz.underlying9
 a9:=Tryz.isAgg9
 z9:=Tryz.sizeOf9
 v9:=Tryz.zeroValue9
 t37:=Tryz.underlying244
 a37:=Tryz.isAgg244
 z37:=Tryz.sizeOf244
 v37:=Tryz.zeroValue244
 t70:=Tryz.underlying243
 a70:=Tryz.isAgg243
 z70:=Tryz.sizeOf243
 v70:=Tryz.zeroValue243
 t72:=Tryz.underlying246
 a72:=Tryz.isAgg246
 z72:=Tryz.sizeOf246
 v72:=Tryz.zeroValue246
 t127:=Tryz.underlying270
 a127:=Tryz.isAgg270
 z127:=Tryz.sizeOf270
 v127:=Tryz.zeroValue270 }
theorem Tryz.Builder_Extra_169 : Builder.Extra Tryz.prog Tryz.lays169_ren:={
 sizeBuilder:=by kernel_rfl
 liesBuilder:=by kernel_rfl
 t5:=Tryz.underlying5
 a5:=Tryz.isAgg5
 z5:=Tryz.sizeOf5
 v5:=Tryz.zeroValue5
 infoByte:=by kernel_rfl
 cellsByte:=by kernel_rfl
 sizeByte:=by kernel_rfl
 neB5:=by decide }
def Tryz.lays161_ren : Go.Shelf.Ren:=⟨fun|161=>139|231=>167|227=>168|233=>169|235=>170|228=>192|197=>193|151=>194|260=>211|152=>212|137=>236|119=>237|224=>238|225=>239|217=>252|266=>269|n=>n,fun|9=>9|4=>4|3=>3|5=>5|117=>233|116=>232|0=>0|124=>236|105=>265|21=>21|119=>195|46=>44|139=>263|138=>262|n=>n,fun|3=>0|4=>1|n=>n⟩
theorem Tryz.lays161 : Go.Proofs.Lays.n161 Tryz.prog Tryz.lays161_ren:={
 mixed:=by kernel_rfl
 f119:=Tryz.func237.trans (congrArg some (by kernel_rfl))
 f137:=Tryz.func236.trans (congrArg some (by kernel_rfl))
 f151:=Tryz.func194.trans (congrArg some (by kernel_rfl))
 f152:=Tryz.func212.trans (congrArg some (by kernel_rfl))
 f161:=Tryz.func139.trans (congrArg some (by kernel_rfl))
 f197:=Tryz.func193.trans (congrArg some (by kernel_rfl))
 f217:=Tryz.func252.trans (congrArg some (by kernel_rfl))
 f224:=Tryz.func238.trans (congrArg some (by kernel_rfl))
 f225:=Tryz.func239.trans (congrArg some (by kernel_rfl))
 f227:=Tryz.func168.trans (congrArg some (by kernel_rfl))
 f228:=Tryz.func192.trans (congrArg some (by kernel_rfl))
 f231:=Tryz.func167.trans (congrArg some (by kernel_rfl))
 f233:=Tryz.func169.trans (congrArg some (by kernel_rfl))
 f235:=Tryz.func170.trans (congrArg some (by kernel_rfl))
 f260:=Tryz.func211.trans (congrArg some (by kernel_rfl))
 f266:=Tryz.func269.trans (congrArg some (by kernel_rfl))
 t0:=Tryz.underlying0
 a0:=Tryz.isAgg0
 z0:=Tryz.sizeOf0
 v0:=Tryz.zeroValue0
 t3:=Tryz.underlying3
 a3:=Tryz.isAgg3
 z3:=Tryz.sizeOf3
 v3:=Tryz.zeroValue3
 t4:=Tryz.underlying4
 a4:=Tryz.isAgg4
 z4:=Tryz.sizeOf4
 v4:=Tryz.zeroValue4
 t5:=Tryz.underlying5
 a5:=Tryz.isAgg5
 z5:=Tryz.sizeOf5
 v5:=Tryz.zeroValue5
 t9:=Tryz.underlying9
 a9:=Tryz.isAgg9
 z9:=Tryz.sizeOf9
 v9:=Tryz.zeroValue9
 t21:=Tryz.underlying21
 a21:=Tryz.isAgg21
 z21:=Tryz.sizeOf21
 v21:=Tryz.zeroValue21
 t46:=Tryz.underlying44
 a46:=Tryz.isAgg44
 z46:=Tryz.sizeOf44
 v46:=Tryz.zeroValue44
 t105:=Tryz.underlying265
 a105:=Tryz.isAgg265
 z105:=Tryz.sizeOf265
 v105:=Tryz.zeroValue265
 t116:=Tryz.underlying232
 a116:=Tryz.isAgg232
 z116:=Tryz.sizeOf232
 t117:=Tryz.underlying233
 a117:=Tryz.isAgg233
 z117:=Tryz.sizeOf233
 v117:=Tryz.zeroValue233
 t119:=Tryz.underlying195
 a119:=Tryz.isAgg195
 z119:=Tryz.sizeOf195
 t124:=Tryz.underlying236
 a124:=Tryz.isAgg236
 z124:=Tryz.sizeOf236
 v124:=Tryz.zeroValue236
 t138:=Tryz.underlying262
 a138:=Tryz.isAgg262
 z138:=Tryz.sizeOf262
 v138:=Tryz.zeroValue262
 t139:=Tryz.underlying263
 a139:=Tryz.isAgg263
 z139:=Tryz.sizeOf263
 v139:=Tryz.zeroValue263
 g3:=by kernel_rfl
 g4:=by kernel_rfl }
open Go.RowKit in
theorem Tryz.strings_TrimLeft_one (s:ByteArray) (c:UInt8) (hc:c.toNat<128) (w:World) :
 Calls Tryz.prog 139 #[.string s,.string ⟨#[c]⟩] w λe w'=>e=.returned (.string ⟨(Lib.trimLeftB s.data.toList c).toArray⟩)∧w'=w:=Any.strings_TrimLeft_one Tryz.lays161 s c hc w
open Go.RowKit in
theorem Tryz.Builder_String_any_f (B b:Nat) (l:List UInt8) (w:World) (h:Lib.IsBuilderF 246 5 B b (Lib.byteCells l) w) (hBw:B≤w.heap.size) :
 Calls Tryz.prog 175 #[.pointer (some ⟨b,0,none⟩)] w λe w'=>e=.returned (.string ⟨l.toArray⟩)∧(Lib.IsBuilderF 246 5 B b (Lib.byteCells l) w'∧Below B w w'):=Any.Builder_String_any_f Tryz.lays169 Tryz.Builder_Extra_169 B b l w h hBw
def Tryz.laysC174_ren : Go.Shelf.Ren:=⟨fun|174=>173|247=>196|245=>197|287=>213|279=>214|280=>215|281=>216|282=>217|321=>240|322=>241|316=>242|171=>244|205=>243|243=>253|246=>270|283=>279|284=>280|285=>281|286=>282|129=>232|317=>284|318=>285|319=>286|320=>287|337=>293|338=>294|n=>n,fun|9=>9|3=>3|2=>2|75=>240|85=>241|4=>4|167=>281|5=>5|53=>276|175=>282|46=>44|168=>284|37=>244|0=>0|210=>309|21=>21|127=>270|145=>326|143=>324|171=>344|173=>346|212=>351|51=>300|20=>20|213=>352|232=>357|233=>358|80=>247|n=>n,fun|15=>2|16=>3|17=>5|18=>6|19=>7|n=>n⟩
theorem Tryz.laysC174 : Go.Proofs.LaysC.n174 Tryz.prog Tryz.laysC174_ren:={
 mixed:=by kernel_rfl
 f129:=Tryz.func232.trans (congrArg some (by kernel_rfl))
 f171:=Tryz.func244.trans (congrArg some (by kernel_rfl))
 f174:=Tryz.func173.trans (congrArg some (by kernel_rfl))
 f205:=Tryz.func243.trans (congrArg some (by kernel_rfl))
 f243:=Tryz.func253.trans (congrArg some (by kernel_rfl))
 f245:=Tryz.func197.trans (congrArg some (by kernel_rfl))
 f246:=Tryz.func270.trans (congrArg some (by kernel_rfl))
 f247:=Tryz.func196.trans (congrArg some (by kernel_rfl))
 f279:=Tryz.func214.trans (congrArg some (by kernel_rfl))
 f280:=Tryz.func215.trans (congrArg some (by kernel_rfl))
 f281:=Tryz.func216.trans (congrArg some (by kernel_rfl))
 f282:=Tryz.func217.trans (congrArg some (by kernel_rfl))
 f283:=Tryz.func279.trans (congrArg some (by kernel_rfl))
 f284:=Tryz.func280.trans (congrArg some (by kernel_rfl))
 f285:=Tryz.func281.trans (congrArg some (by kernel_rfl))
 f286:=Tryz.func282.trans (congrArg some (by kernel_rfl))
 f287:=Tryz.func213.trans (congrArg some (by kernel_rfl))
 f316:=Tryz.func242.trans (congrArg some (by kernel_rfl))
 f317:=Tryz.func284.trans (congrArg some (by kernel_rfl))
 f318:=Tryz.func285.trans (congrArg some (by kernel_rfl))
 f319:=Tryz.func286.trans (congrArg some (by kernel_rfl))
 f320:=Tryz.func287.trans (congrArg some (by kernel_rfl))
 f321:=Tryz.func240.trans (congrArg some (by kernel_rfl))
 f322:=Tryz.func241.trans (congrArg some (by kernel_rfl))
 f337:=Tryz.func293.trans (congrArg some (by kernel_rfl))
 f338:=Tryz.func294.trans (congrArg some (by kernel_rfl))
 t0:=Tryz.underlying0
 a0:=Tryz.isAgg0
 z0:=Tryz.sizeOf0
 v0:=Tryz.zeroValue0
 t2:=Tryz.underlying2
 a2:=Tryz.isAgg2
 z2:=Tryz.sizeOf2
 v2:=Tryz.zeroValue2
 t3:=Tryz.underlying3
 a3:=Tryz.isAgg3
 z3:=Tryz.sizeOf3
 v3:=Tryz.zeroValue3
 t4:=Tryz.underlying4
 a4:=Tryz.isAgg4
 z4:=Tryz.sizeOf4
 v4:=Tryz.zeroValue4
 t5:=Tryz.underlying5
 a5:=Tryz.isAgg5
 z5:=Tryz.sizeOf5
 v5:=Tryz.zeroValue5
 t9:=Tryz.underlying9
 a9:=Tryz.isAgg9
 z9:=Tryz.sizeOf9
 v9:=Tryz.zeroValue9
 t20:=Tryz.underlying20
 a20:=Tryz.isAgg20
 z20:=Tryz.sizeOf20
 v20:=Tryz.zeroValue20
 t21:=Tryz.underlying21
 a21:=Tryz.isAgg21
 z21:=Tryz.sizeOf21
 v21:=Tryz.zeroValue21
 t37:=Tryz.underlying244
 a37:=Tryz.isAgg244
 z37:=Tryz.sizeOf244
 v37:=Tryz.zeroValue244
 t46:=Tryz.underlying44
 a46:=Tryz.isAgg44
 z46:=Tryz.sizeOf44
 v46:=Tryz.zeroValue44
 t51:=Tryz.underlying300
 a51:=Tryz.isAgg300
 z51:=Tryz.sizeOf300
 v51:=Tryz.zeroValue300
 t53:=Tryz.underlying276
 a53:=Tryz.isAgg276
 z53:=Tryz.sizeOf276
 v53:=Tryz.zeroValue276
 t75:=Tryz.underlying240
 a75:=Tryz.isAgg240
 z75:=Tryz.sizeOf240
 v75:=Tryz.zeroValue240
 t85:=Tryz.underlying241
 a85:=Tryz.isAgg241
 z85:=Tryz.sizeOf241
 v85:=Tryz.zeroValue241
 t127:=Tryz.underlying270
 a127:=Tryz.isAgg270
 z127:=Tryz.sizeOf270
 v127:=Tryz.zeroValue270
 t143:=Tryz.underlying324
 a143:=Tryz.isAgg324
 z143:=Tryz.sizeOf324
 v143:=Tryz.zeroValue324
 t145:=Tryz.underlying326
 a145:=Tryz.isAgg326
 z145:=Tryz.sizeOf326
 v145:=Tryz.zeroValue326
 t167:=Tryz.underlying281
 a167:=Tryz.isAgg281
 z167:=Tryz.sizeOf281
 v167:=Tryz.zeroValue281
 t168:=Tryz.underlying284
 a168:=Tryz.isAgg284
 z168:=Tryz.sizeOf284
 v168:=Tryz.zeroValue284
 t171:=Tryz.underlying344
 a171:=Tryz.isAgg344
 z171:=Tryz.sizeOf344
 v171:=Tryz.zeroValue344
 t173:=Tryz.underlying346
 a173:=Tryz.isAgg346
 z173:=Tryz.sizeOf346
 v173:=Tryz.zeroValue346
 t175:=Tryz.underlying282
 a175:=Tryz.isAgg282
 z175:=Tryz.sizeOf282
 v175:=Tryz.zeroValue282
 t210:=Tryz.underlying309
 a210:=Tryz.isAgg309
 z210:=Tryz.sizeOf309
 v210:=Tryz.zeroValue309
 t212:=Tryz.underlying351
 a212:=Tryz.isAgg351
 z212:=Tryz.sizeOf351
 v212:=Tryz.zeroValue351
 t213:=Tryz.underlying352
 a213:=Tryz.isAgg352
 z213:=Tryz.sizeOf352
 t232:=Tryz.underlying357
 a232:=Tryz.isAgg357
 z232:=Tryz.sizeOf357
 v232:=Tryz.zeroValue357
 t233:=Tryz.underlying358
 a233:=Tryz.isAgg358
 z233:=Tryz.sizeOf358
 v233:=Tryz.zeroValue358
 g15:=by kernel_rfl
 g16:=by kernel_rfl
 g17:=by kernel_rfl
 g18:=by kernel_rfl
 g19:=by kernel_rfl
 t80:=Tryz.underlying247
 a80:=Tryz.isAgg247
 z80:=Tryz.sizeOf247
 v80:=Tryz.zeroValue247
 i0:=by kernel_rfl
 i2:=by kernel_rfl
 i3:=by kernel_rfl
 i4:=by kernel_rfl
 i5:=by kernel_rfl
 i9:=by kernel_rfl
 i20:=by kernel_rfl
 i21:=by kernel_rfl
 i37:=by kernel_rfl
 i46:=by kernel_rfl
 i51:=by kernel_rfl
 i53:=by kernel_rfl
 i75:=by kernel_rfl
 i80:=by kernel_rfl
 i85:=by kernel_rfl
 i127:=by kernel_rfl
 i143:=by kernel_rfl
 i145:=by kernel_rfl
 i167:=by kernel_rfl
 i168:=by kernel_rfl
 i171:=by kernel_rfl
 i173:=by kernel_rfl
 i175:=by kernel_rfl
 i210:=by kernel_rfl
 i212:=by kernel_rfl
 i232:=by kernel_rfl
 i233:=by kernel_rfl
 m15:=by kernel_rfl
 m16:=by kernel_rfl
 m17:=by kernel_rfl
 m18:=by kernel_rfl
 m19:=by kernel_rfl
 c0:=by kernel_rfl
 c2:=by kernel_rfl
 c3:=by kernel_rfl
 c4:=by kernel_rfl
 c5:=by kernel_rfl
 c9:=by kernel_rfl
 c20:=by kernel_rfl
 c21:=by kernel_rfl
 c37:=by kernel_rfl
 c46:=by kernel_rfl
 c51:=by kernel_rfl
 c53:=by kernel_rfl
 c75:=by kernel_rfl
 c80:=by kernel_rfl
 c85:=by kernel_rfl
 c127:=by kernel_rfl
 c143:=by kernel_rfl
 c145:=by kernel_rfl
 c167:=by kernel_rfl
 c168:=by kernel_rfl
 c171:=by kernel_rfl
 c173:=by kernel_rfl
 c175:=by kernel_rfl
 c210:=by kernel_rfl
 c212:=by kernel_rfl
 c213:=by kernel_rfl
 c232:=by kernel_rfl
 c233:=by kernel_rfl }
open Go.RowKit in
theorem Tryz.strconv_ParseInt_10_at64_ok (s:ByteArray) (hmax:s.size≤9223372036854775806) (v:Int) (h:Lib.parseIntB 64 s.data.toList=.ok v) (w:World) :
 Calls Tryz.prog 173 #[.string s,.int .i64 10,.int .i64 64] w λe w'=>e=.returned (.tuple #[.int .i64 v,.nilIface])∧(w'=w∨∃t,w'=Lib.bytesWorld w 5 t):=Any.strconv_ParseInt_10_at64_ok Tryz.laysC174 s hmax v h w
open Go.RowKit in
theorem Tryz.strconv_ParseInt_10_at64_syntax (s:ByteArray) (hlim:s.size≤281474976710656) (h:Lib.parseIntB 64 s.data.toList=Lib.NumEnd.syntax) (ev:Value) (w:World) (hv:w.cell? ⟨2,0,none⟩=some ev) (hev:ev=.nilIface∨∃te pe,ev=.iface te pe) :
 Calls Tryz.prog 173 #[.string s,.int .i64 10,.int .i64 64] w λe w'=>∃N,e=.returned (.tuple #[.int .i64 (0),.iface 284 (.pointer (some ⟨N,0,none⟩))])∧w.heap.size≤N∧w'.heap[N]?=some (.cells #[.string ⟨#[80,97,114,115,101,73,110,116]⟩,.string s,ev] 309 (0,0))∧Below w.heap.size w w':=Any.strconv_ParseInt_10_at64_syntax Tryz.laysC174 s hlim h ev w hv hev
open Go.RowKit in
theorem Tryz.strconv_ParseInt_10_at64_range (s:ByteArray) (hlim:s.size≤281474976710656) (h:Lib.parseIntB 64 s.data.toList=.range) (ev:Value) (w:World) (hv:w.cell? ⟨3,0,none⟩=some ev) (hev:ev=.nilIface∨∃te pe,ev=.iface te pe) :
 Calls Tryz.prog 173 #[.string s,.int .i64 10,.int .i64 64] w λe w'=>∃N,e=.returned (.tuple #[.int .i64 (Lib.intSat 64 s.data.toList),.iface 284 (.pointer (some ⟨N,0,none⟩))])∧w.heap.size≤N∧w'.heap[N]?=some (.cells #[.string ⟨#[80,97,114,115,101,73,110,116]⟩,.string s,ev] 309 (0,0))∧Below w.heap.size w w':=Any.strconv_ParseInt_10_at64_range Tryz.laysC174 s hlim h ev w hv hev
def Tryz.laysGw15_ren : Go.Shelf.Ren:=⟨fun|15=>171|20=>195|n=>n,fun|9=>9|23=>238|3=>3|4=>4|0=>0|21=>21|n=>n,fun|n=>n⟩
theorem Tryz.laysGw15 : Go.Proofs.LaysGw.n15 Tryz.prog Tryz.laysGw15_ren:={
 mixed:=by kernel_rfl
 f15:=Tryz.func171.trans (congrArg some (by kernel_rfl))
 f20:=Tryz.func195.trans (congrArg some (by kernel_rfl))
 t0:=Tryz.underlying0
 a0:=Tryz.isAgg0
 z0:=Tryz.sizeOf0
 v0:=Tryz.zeroValue0
 i0:=by kernel_rfl
 t3:=Tryz.underlying3
 a3:=Tryz.isAgg3
 z3:=Tryz.sizeOf3
 v3:=Tryz.zeroValue3
 i3:=by kernel_rfl
 t4:=Tryz.underlying4
 a4:=Tryz.isAgg4
 z4:=Tryz.sizeOf4
 v4:=Tryz.zeroValue4
 i4:=by kernel_rfl
 t9:=Tryz.underlying9
 a9:=Tryz.isAgg9
 z9:=Tryz.sizeOf9
 v9:=Tryz.zeroValue9
 i9:=by kernel_rfl
 t21:=Tryz.underlying21
 a21:=Tryz.isAgg21
 z21:=Tryz.sizeOf21
 v21:=Tryz.zeroValue21
 i21:=by kernel_rfl
 t23:=Tryz.underlying238
 a23:=Tryz.isAgg238
 z23:=Tryz.sizeOf238
 v23:=Tryz.zeroValue238
 i23:=by kernel_rfl }
open Go.RowKit Go.Lib in
theorem Tryz.strings_IndexFunc_grows (g:Nat) (lb:Array Value) (eg:∀args w,(callFunc g args).run Tryz.prog w=.ok (.enter g args) w) (p:Nat→Bool) (s:ByteArray) (w:World) (hp:PredGrows Tryz.prog g lb p w) :
 Calls Tryz.prog 171 #[.string s,.func (.func g) #[] lb] w λe w'=>e=.returned (.int .i64 (Lib.idxFunc p true s))∧Below w.heap.size w w':=Any.strings_IndexFunc_grows Tryz.laysGw15 g lb eg p s w hp
end Go.Proofs
namespace Go.Proofs.YtaheakjfkpkefaaGreatDoor
open Go.RowKit
open Tryz
theorem kG (l:List UInt8) (w:World):Calls prog 139 #[str l,str [32]] w λe w'=>e=.returned (str (OK l))∧w=w':=by
 refine (Tryz.strings_TrimLeft_one ⟨l.toArray⟩ 32 B3 w).mono ?_;rintro e w' ⟨rfl,rfl⟩;exact ⟨X,X⟩
def SY (l:List UInt8):Int × Bool:=match Lib.parseIntB 64 l with
 | .ok v=>(v,true)
 | .range=>(Lib.intSat 64 l,false)
 | _=>(0,false)
def eX (w:World):Prop:=(∃t p,w.cell? ⟨2,0,none⟩=some (.iface t p))∧∃t p,w.cell? ⟨3,0,none⟩=some (.iface t p)
def yV (ok:Bool) (v:Value):Prop:=(ok=true∧v=.nilIface)∨(ok=false∧∃t p,v=.iface t (.pointer p))
theorem rZ (l:List UInt8) (w:World) (hl:l.length≤281474976710656) (hE:eX w):Calls prog 173 #[str l,.int .i64 10,.int .i64 64] w λe w'=>∃v,e=.returned (.tuple #[.int .i64 (SY l).1,v])∧yV (SY l).2 v∧Fr0 w w':=by
 have hs:(ByteArray.mk l.toArray).size=l.length:=by show l.toArray.size=_;simp
 have hd:(ByteArray.mk l.toArray).data.toList=l:=X;obtain ⟨⟨t,p,h1⟩,t',p',h2⟩:=hE
 cases hq:Lib.parseIntB 64 l with
 | ok v=>
  refine (Tryz.strconv_ParseInt_10_at64_ok ⟨l.toArray⟩ AA v (by rw [hd];exact hq) w).mono ?_;rintro e w' ⟨rfl,hw⟩;refine ⟨.nilIface,by unfold SY;rw [hq],.inl ⟨by unfold SY;rw [hq],rfl⟩,?_⟩;rcases hw with rfl|⟨t,rfl⟩
  ·exact Fr.refl
  ·exact Fr.ofBelow (Lib.bytesWorld_below w _ t)
 | range=>
  refine (Tryz.strconv_ParseInt_10_at64_range ⟨l.toArray⟩ AA (by rw [hd];exact hq) _ w h2 (.inr ⟨t',p',X⟩)).mono ?_;rintro e w' ⟨N,rfl,_,_,hb⟩;exact ⟨_,by unfold SY;rw [hq,hd],.inr ⟨by unfold SY;rw [hq],_,_,rfl⟩,Fr.ofBelow hb⟩
 | _=>
  refine (Tryz.strconv_ParseInt_10_at64_syntax ⟨l.toArray⟩ AA (by rw [hd];exact hq) _ w h1 (.inr ⟨t,p,X⟩)).mono ?_;rintro e w' ⟨N,rfl,_,_,hb⟩;exact ⟨_,by unfold SY;rw [hq],.inr ⟨by unfold SY;rw [hq],_,_,rfl⟩,Fr.ofBelow hb⟩
theorem jO {e:Env} {w:World} {o:Oper} {t':Nat} {x:Operand} {v:Value} {ok:Bool} (ho:o.op=.binOp .neq 240 x (.const .nilIface) t') (hx:ev e x=some v) (hv:yV ok v):Y prog e o w (.bool (!ok)):=λρ h=>by
 have hc:ρ (.const .nilIface)=.nilIface:=h _ _ X;rcases hv with ⟨rfl,rfl⟩|⟨rfl,t,p,rfl⟩
 ·have h1:(Op.equal 240 .nilIface .nilIface).run prog w=.ok true w:=by
   unfold Op.equal Op.maxDepth Op.equalIn
   simp [run_underlying underlying240]
  unfold execOp
  simp [ho,h _ _ hx,hc,eqGuard_nil_constR,binOp,h1]
 ·have h1:(Op.equal 240 (.iface t (.pointer p)) .nilIface).run prog w=.ok false w:=by
   unfold Op.equal Op.maxDepth Op.equalIn
   simp [run_underlying underlying240]
  unfold execOp
  simp [ho,h _ _ hx,hc,eqGuard_at_iface,binOp,h1]
def NV (is:UInt8→Bool) (x:Nat):Bool:=decide (127<x) || !(is (UInt8.ofNat x))
theorem lD (is:UInt8→Bool) (x:Nat):(decide (127<(x:Int)) || (!(is (UInt8.ofNat x))))=NV is x:=by
 unfold NV
 by_cases h:127<x
 ·simp [h,show (127:Int)<(x:Int) by omega]
 ·simp [h,show ¬(127:Int)<(x:Int) by omega]
theorem qF {x:Nat}:(IntKind.u8).wrap (x:Int)=((UInt8.ofNat x).toNat:Int):=by
 simp [IntKind.wrap,IntKind.bits,IntKind.signed]
def MG (is:UInt8→Bool) (l:List UInt8):Int:=Lib.idxFunc (NV is) true ⟨l.toArray⟩
def spanP (is:UInt8→Bool) (l:List UInt8):Nat:=if MG is l<0 then l.length else (MG is l).toNat
theorem lG (is:UInt8→Bool) (l:List UInt8):MG is l<l.length:=by
 have h:=Lib.idxFuncFrom_range (NV is) true ⟨l.toArray⟩ (ByteArray.mk l.toArray).size 0;have hs:(ByteArray.mk l.toArray).size=l.length:=by show l.toArray.size=_;simp
 rcases h with h|⟨_,h⟩
 ·unfold MG Lib.idxFunc;rw [h];omega
 ·unfold MG Lib.idxFunc;omega
theorem P6 (is:UInt8→Bool) (l:List UInt8):spanP is l≤l.length:=by
 unfold spanP;have:=lG is l;split<;>omega
theorem lE {is:UInt8→Bool} {l:List UInt8} (h:MG is l<0):spanP is l=l.length:=if_pos h
theorem lF {is:UInt8→Bool} {l:List UInt8} (h:¬MG is l<0):MG is l=((spanP is l:Nat):Int):=by
 unfold spanP;rw [if_neg h];omega
theorem lH (is:UInt8→Bool) (g:FuncId) (hfn:∀(ar:Array Value) (w:World),(callFunc g ar).run prog w=.ok (.enter g ar) w) (hc:∀(b:UInt8) (w:World),Calls prog g #[.int .u8 (b.toNat:Int)] w (BI w (.bool (is b)))) (x:Nat) (g3:Nat) (w:World) (hb:Blk w g3 218 [.func (.func g) #[] #[]]) :
 Calls prog 172 #[.int .i32 (x:Int),pg g3] w (BI w (.bool (NV is x))):=by
 refine BH func172 ntmps172 X λM=>srg (AJ X (AE X (IM X X (yb X (fvm M 6 [3] [(12,.bool ((decide (127<(x:Int))) || (!(is (UInt8.ofNat x)))))] ?_ (λk6=>?_))))))
 ·intro w1 M;exact yb X (gnr (gr1 X ⟨by rw [lD],M.fr⟩))
 refine AI (d:=6) X (λh6=>?_) (λh6=>?_)
 ·iterate 5 refine yo X ?_
  exact yb X (k6 M ⟨X,(by rw [h6];rfl),trivial⟩)
 ·refine ym X X (Blk.c (hb.fr0 M.fr) 0 X) (gyq X (yd X (KC (r:=((UInt8.ofNat x).toNat:Int)) X X underlying21 underlying5 qF) (sxl_call (some 10) (wn_on X X X) X X (BJ X X X hfn) (hc _ _) ?_)));rintro _ w2 ⟨rfl,hfw2⟩;refine ⟨_,X,?_⟩;have M:=M.step hfw2;exact gyq X (yb X (k6 M ⟨X,(by rw [h6];rfl),trivial⟩))
theorem wX (is:UInt8→Bool) (g:FuncId) (hfn:∀(ar:Array Value) (w:World),(callFunc g ar).run prog w=.ok (.enter g ar) w) (hc:∀(b:UInt8) (w:World),Calls prog g #[.int .u8 (b.toNat:Int)] w λe w'=>e=.returned (.bool (is b))∧Fr0 w w') (l:List UInt8) (g3:Nat) (w:World) (hb:Blk w g3 218 [.func (.func g) #[] #[]]) :
 Calls prog 171 #[str l,.func (.func 172) #[] #[.pointer (some ⟨g3,0,none⟩)]] w λe w'=>e=.returned (.int .i64 (MG is l))∧Fr0 w w':=by
 refine (Tryz.strings_IndexFunc_grows 172 #[.pointer (some ⟨g3,0,none⟩)] call172 (NV is) ⟨l.toArray⟩ w ?_).mono ?_
 ·intro W x _ hbW;exact (lH is g hfn hc x g3 W (hb.fr0 (Fr.ofBelow hbW))).mono λ_ _ ⟨h1,h2⟩=>⟨h1,h2.below⟩
 ·rintro e w' ⟨rfl,hb'⟩;exact ⟨X,Fr.ofBelow hb'⟩
theorem d6 (is:UInt8→Bool) (g:FuncId) (hfn:∀(ar:Array Value) (w:World),(callFunc g ar).run prog w=.ok (.enter g ar) w) (hc:∀(b:UInt8) (w:World),Calls prog g #[.int .u8 (b.toNat:Int)] w (BI w (.bool (is b)))) (l:List UInt8) (w:World) :
 Calls prog 141 #[str l,.func (.func g) #[] #[]] w (BI w (AC ((spanP is l:Nat):Int))):=by
 refine BH func141 ntmps141 X λM=>srg (D6 M (wn_none X) X X 218 X X ([.func (.func g) #[] #[]]) X λg3 w1 hg3 M=>AJ X (AE X (ya X (CP (us:=[]) (vs:=[pg g3]) X X X) (CD M 8 X X call171 (wX is g hfn hc l _ _ (M.blk 0 X)) λw9 M=>AJ X ?_))))
 refine sx_seq (AE X (BB X X (nq (AF X (λh10=>?_) (λh10=>?_)))))
 ·have h10p:=(odt h10);exact AE X (ya X (FU X X underlying9) (yb X (gnr (qx_then_ret (gr1 X ⟨by rw [lE h10p],M.fr⟩)))))
 ·have h10p:=(odf h10);exact sx_skip (qx_seq (AE X (yb X (gnr (gr1 X ⟨by rw [lF h10p],M.fr⟩)))))
def nGlob : Nat:=max (max 0 1) (max 2 3)+1
structure Lay0 (w:World):Prop where
 utf:Laid w utfL
 err:eX w
 size:nGlob≤w.heap.size
theorem YV : (Nat.blt 0 nGlob&&(Nat.blt 1 nGlob&&(Nat.blt 2 nGlob&&Nat.blt 3 nGlob)))=true:=by kernel_rfl
theorem Lay0.fr {S:Nat→Prop} {w w':World} (h:Lay0 w) (hf:Fr S w w') (hS:∀k,S k→nGlob≤k):Lay0 w':=by
 have hn:=YV;simp only [Bool.and_eq_true] at hn
 obtain ⟨n1,n2,n3,n4⟩:=hn
 replace n1:=CO n1
 replace n2:=CO n2
 replace n3:=CO n3
 replace n4:=CO n4
 have no:∀g,g<nGlob→¬S g:=λg hg hs=>by have:=hS g hs;omega
 refine ⟨λp hp=>?_,?_,Nat.le_trans h.size hf.size⟩
 ·obtain ⟨el,fz,h1⟩:=h.utf p hp
  have hp1:p.1<nGlob:=by
   simp only [utfL,List.mem_cons,List.not_mem_nil,or_false] at hp
   rcases hp with rfl|rfl
   ·exact n1
   ·exact n2
  exact ⟨el,fz,(hf.block _ (Array.getElem?_eq_some_iff.1 h1).1 (no _ hp1)).trans h1⟩
 ·obtain ⟨t,p,h1⟩:=h.err.1;obtain ⟨t',p',h2⟩:=h.err.2;exact ⟨⟨t,p,(hf.cell (World.block_lt_of_cell? w _ h1) (no _ n3)).trans h1⟩,t',p',(hf.cell (World.block_lt_of_cell? w _ h2) (no _ n4)).trans h2⟩
theorem R6 {l:List UInt8} {c:UInt8} (h:l[0]?=some c):l.headD 0=c:=by cases l<;>simp_all
theorem V9 {a b:Prop} (h:¬a∨¬b):¬(a∧b):=λ⟨h1,h2⟩=>h.elim (λh=>h h1) (λh=>h h2)
def NO (t:List UInt8) (x:Lx):Lx:=
 if ((t.headD 0).toNat:Int)=48∧(1:Int)<((t.length:Nat):Int) then x.fail 4 x.at_
 else if (SY t).2=true then { x with nd:=.lit ⟨1,(SY t).1,false,[]⟩ }
 else { (x.fail 91 x.at_) with nd:=.lit ⟨1,(SY t).1,false,[]⟩ }
def qt : List UInt8→List UInt8→Option (List UInt8 × Nat)
 | _,[]=>none
 | b,[c]=>if (c.toNat:Int)=39 then some (b,0) else none
 | b,c::d::r=>if (c.toNat:Int)=39 then (if (d.toNat:Int)=39 then qt (b++[d]) r else some (b,r.length+1)) else qt (b++[c]) (d::r)
theorem lT {l b:List UInt8} {i:Nat} {c:UInt8} (hc:l[i]?=some c) (h:¬(c.toNat:Int)=39):qt b (l.drop i)=qt (b++[c]) (l.drop (i+1)):=by
 rw [AZ hc]
 cases l.drop (i+1) with
 | nil=>rw [show qt b [c]=if (c.toNat:Int)=39 then some (b,0) else none from rfl,if_neg h];rfl
 | cons d r=>rw [qt,if_neg h]
theorem lS {l b:List UInt8} {i:Nat} {c d:UInt8} (hc:l[i]?=some c) (hd:l[i+1]?=some d) (h:(c.toNat:Int)=39) (h2:(d.toNat:Int)=39):qt b (l.drop i)=qt (b++[d]) (l.drop (i+2)):=by
 rw [AZ hc,AZ hd,qt,if_pos h,if_pos h2]
theorem lU {l b:List UInt8} {i:Nat} {c:UInt8} (hc:l[i]?=some c) (h:(c.toNat:Int)=39) (he:((i+1:Nat):Int)=(l.length:Int)):qt b (l.drop i)=some (b,l.length-(i+1)):=by
 have he':i+1=l.length:=by omega
 rw [AZ hc,he',List.drop_length,qt,if_pos h,Nat.sub_self]
theorem dE {l b:List UInt8} {i:Nat} {c d:UInt8} (hc:l[i]?=some c) (hd:l[i+1]?=some d) (h:(c.toNat:Int)=39) (h2:¬(d.toNat:Int)=39):qt b (l.drop i)=some (b,l.length-(i+1)):=by
 have hlt:=(List.getElem?_eq_some_iff.1 hd).1;rw [AZ hc,AZ hd,qt,if_pos h,if_neg h2]
 congr 2
 rw [List.length_drop];omega
def I9 (l:List UInt8) (x:Lx):Lx:=match qt [] l.tail with
 | some (b,k)=>if utf b=true then { x with nd:=.lit ⟨3,0,false,b⟩,at_:=x.at_+(l.length-k) } else x.fail 4 x.at_
 | none=>x.fail 4 x.at_
theorem XV {l b:List UInt8} {x:Lx} {i:Nat} (hi:i≤l.length) (h:qt [] l.tail=some (b,l.length-i)) (hu:utf b=true):I9 l x={ x with nd:=.lit ⟨3,0,false,b⟩,at_:=x.at_+i }:=by
 unfold I9;rw [h];simp only [if_pos hu]
 congr 2;omega
theorem UZ {l b:List UInt8} {x:Lx} {k:Nat} (h:qt [] l.tail=some (b,k)) (hu:utf b=false):I9 l x=x.fail 4 x.at_:=by
 unfold I9;rw [h]
 simp [hu]
theorem kJ {l:List UInt8} {x:Lx} (h:qt [] l.tail=none):I9 l x=x.fail 4 x.at_:=by
 unfold I9;rw [h]
theorem UE {T e:TypeId} {B b:Nat} {bs:List Value} {W W':World} (h:Lib.IsBuilderF T e B b bs W) (hb:Below W.heap.size W W'):Lib.IsBuilderF T e B b bs W':=
 have one:∀{p:Value},Lib.BuilderAtF T e B b p bs W→Lib.BuilderAtF T e B b p bs W':=λh=>by
  have hlt:=h.lt;obtain ⟨hB,v,hv,hown,hne⟩:=h;exact ⟨hB,v,(hb.block b hlt).trans hv,hown.kept (row:=none) ⟨hb.os,hb.tape,hb.output,hb.size,λk hk _=>hb.block k hk⟩ (Classical.em _),hne⟩
 h.elim (λx=>.inl (one x)) (λx=>.inr (one x))
theorem iF {w:World} {B g:Nat} (hB:B≤g) (hb:Blk w g 246 [.pointer none,.slice none 0 0]):Lib.IsBuilder 246 5 B g (bvs []) w:=
 .inl ⟨hB,.slice none 0 0,hb,⟨rfl,.inl ⟨rfl,rfl⟩⟩,by simp [Value.ownBlock]⟩
theorem Mem.belowOld {w w1 w2:World} {S:Nat→Prop} {g t:Nat} {cs:List Value} (M:Mem w S [As.blk g t cs] w1) (hg:g<w.heap.size) (hb:Below w.heap.size w1 w2):Mem w S [As.blk g t cs] w2 where
 fr:=⟨hb.os.trans M.fr.os,hb.tape.trans M.fr.tape,hb.output.trans M.fr.output,Nat.le_trans M.fr.size hb.size,λk hk hn=>(hb.block k hk).trans (M.fr.block k hk hn)⟩
 ok i a hi:=by
  cases i with
  | zero=>
   simp only [List.getElem?_cons_zero,Option.some.injEq] at hi;subst hi
   exact (hb.block g hg).trans (M.blk 0 X)
  | succ i=>simp at hi
 lt i a hi k hk:=by
  obtain ⟨h1,h2⟩:=M.lt i a hi k hk;exact ⟨Nat.lt_of_lt_of_le h1 hb.size,h2⟩
 apart:=M.apart
theorem KW (a0:Int) (a1:Int):prog.built 100 [(0,.int .u8 a0),(1,AC a1)]=some #[.int .u8 a0,AC a1,.bool false,str []]:=by kernel_rfl
theorem KV (a0:Int) (a3:List UInt8):prog.built 100 [(0,.int .u8 a0),(3,str a3)]=some #[.int .u8 a0,AC 0,.bool false,str a3]:=by kernel_rfl
theorem O2 : (prog.info? 246).map (·.zero)=some (some (.agg #[.pointer none,.slice none 0 0])):=by kernel_rfl
theorem mT (s:List UInt8) (x:Lx) (gx:Nat) (t:List UInt8) (w:World) (hb:Blk w gx 168 (Lx.cells s x)) (ht:0<t.length) (hl:t.length≤281474976710656) (hY:Lay0 w) (hgx:nGlob≤gx) :
 Calls prog 142 #[pg gx,str t] w λe w'=>e=.returned (.tuple #[])∧Blk w' gx 168 (Lx.cells s (NO t x))∧Fr (λk=>k=gx) w w':=by
 have hGx:∀k,k=gx→nGlob≤k:=λ_ e=>e▸hgx
 refine sx_enter (vs:=[_,_]) func142 X ntmps142 X ?_;have M:Mem w (λk=>k=gx) [As.blk gx 168 (Lx.cells s x)] w:=Mem.one hb;refine sx_seq (AE X ?_);obtain ⟨c,hc⟩:=BM (l:=t) (i:=0) (by omega);refine ya X (GK X X X underlying9 hc) (ya X (C9 X X X) (yb X (qZ 4 [(1,str t),(0,pg gx),(13,.bool ((decide ((c.toNat:Int)=48))&&(decide (1<(t.length:Int)))))] (λw'=>Mem w (λk=>k=gx) [As.blk gx 168 (Lx.cells s x)] w') ?_ (λk9=>?_))))
 ·intro w1 M;refine nq (AF (b:=((decide ((c.toNat:Int)=48))&&(decide (1<(t.length:Int))))) X (λh13=>?_) (λh13=>?_))
  ·have h13p:=(And.intro (odt (BR h13).1) (odt (BR h13).2));refine srg ?_;iterate 4 refine yb X ?_
   refine yl X X (M.cell 0 X X) (cl 19 X (AG X X call83) (FA s x _ _ _ _ (M.blk 0 X)) ?_);rintro _ w2 ⟨rfl,hbw2,hfw2⟩;have M:=M.putB 0 X hbw2 hfw2;exact ⟨_,X,gnr (qx_then_ret (qx_ret0 (Or.inl X) X ⟨X,by rw [NO,R6 hc,if_pos h13p];exact M.blk 0 rfl,M.fr⟩))⟩
  ·have h13p:=((CV h13).imp (λz=>(odf z)) (λz=>(odf z)));refine sx_skip (qx_seq (AE X (cl 22 X (AG X X call173) (rZ t _ (by omega) (hY.fr M.fr hGx).err) ?_)));rintro _ w3 ⟨er,rfl,her,hfw3⟩;refine ⟨_,X,?_⟩;have M:=M.step hfw3;iterate 5 refine yb X ?_
   refine nq (sx_seq (AE X (ya X (jO X X her) (nq (AF (b:=(!(SY t).2)) X (λh26=>?_) (λh26=>?_))))))
   ·refine sx_region ?_;iterate 4 refine yb X ?_
    refine yl X X (M.cell 0 X X) (cl 32 X (AG X X call83) (FA s x _ _ _ _ (M.blk 0 X)) ?_);rintro _ w4 ⟨rfl,hbw4,hfw4⟩;have M:=M.putB 0 X hbw4 hfw4;exact ⟨_,X,nq (sx_region (AV X X (ya X (AY (parts:=[(0,_),(1,_)]) X X (KW _ _)) (ya X (AY (parts:=[(0,_),(1,_)]) X X (FE _ _ _ _ _)) (AV X X (yb X (XY (cs':=[str s,AC (((x.fail 91 x.at_).at_:Nat):Int),.int .u8 1,.int .u8 1,AC ((SY t).1),.bool false,str [],str [],.slice none 0 0,str ((x.fail 91 x.at_).say),AC (((x.fail 91 x.at_).tat:Nat):Int),.bool ((x.fail 91 x.at_).fin),AC ((x.fail 91 x.at_).e),AC (((x.fail 91 x.at_).wh:Nat):Int)]) M 0 (wn_none X) X X X X X AO X (HX X) (CL X) X λw5 M=>sxl_nil (qx_ret0 (Or.inr X) X ⟨X,by rw [NO,R6 hc,if_neg (V9 h13p),if_neg (wO (C5 h26))];exact M.blk 0 rfl,M.fr⟩))))))))⟩
   ·exact sx_skip (qx_seq (sx_region (AV X X (ya X (AY (parts:=[(0,_),(1,_)]) X X (KW _ _)) (ya X (AY (parts:=[(0,_),(1,_)]) X X (FE _ _ _ _ _)) (AV X X (yb X (XY (cs':=[str s,AC (x.at_:Int),.int .u8 1,.int .u8 1,AC ((SY t).1),.bool false,str [],str [],.slice none 0 0,str x.say,AC (x.tat:Int),.bool x.fin,AC x.e,AC (x.wh:Int)]) M 0 (wn_none X) X X X X X AO X (HX X) (CL X) X λw6 M=>sxl_nil (qx_ret0 (Or.inr X) X ⟨X,by rw [NO,R6 hc,if_neg (V9 h13p),if_pos (BL h26)];exact M.blk 0 rfl,M.fr⟩)))))))))
 refine AI (d:=9) (b:=(decide ((c.toNat:Int)=48))) X (λh9=>?_) (λh9=>?_)
 ·exact yd X (yp X) (yd X (FU X X underlying9) (yd X (GU X X X) (yb X (k9 _ _ M ⟨X,X,(by rw [h9];rfl),trivial⟩))))
 ·exact yo X (yo X (yo X (yb X (k9 _ _ M ⟨X,X,(by rw [h9];rfl),trivial⟩))))
theorem hG (s:List UInt8) (x:Lx) (gx:Nat) (l:List UInt8) (w:World) (hb:Blk w gx 168 (Lx.cells s x)) (hn:0<l.length) (hl:l.length+x.at_≤70368744177664) (hY:Lay0 w) (hgx:nGlob≤gx) :
 Calls prog 146 #[.pointer (some ⟨gx,0,none⟩),str l] w λe w'=>e=.returned (.tuple #[])∧Blk w' gx 168 (Lx.cells s (I9 l x))∧Fr (λk=>k=gx) w w':=by
 have hGx:∀k,k=gx→nGlob≤k:=λ_ e=>e▸hgx
 have hlt:gx<w.heap.size:=hb.lt;refine sx_enter (vs:=[_,_]) func146 X ntmps146 X ?_;have M:Mem w (λk=>k=gx) [As.blk gx 168 (Lx.cells s x)] w:=Mem.one hb;refine srg (EI M (wn_none X) X X 246 X [.pointer none,.slice none 0 0] O2 X λg4 w1 hg4 M=>?_);have hbu:Lib.IsBuilder 246 5 w.heap.size g4 (bvs []) w1:=iF (by have:=M.fr.size;omega) (M.blk 0 X);have M:=M.drop 1
 replace M:Mem w (λk=>k=gx) [As.blk gx 168 (Lx.cells s x)] w1:=M
 refine nq (sx_seq (srg (AJ X (sx_block (sx_loop (λe wr mz=>∃(i:Nat) (b:List UInt8),e=[(0,.pointer (some ⟨gx,0,none⟩)),(1,str l),(4,.pointer (some ⟨g4,0,none⟩)),(5,.int .i64 ((i:Nat):Int))]∧Mem w (λk=>k=gx) [As.blk gx 168 (Lx.cells s x)] wr∧(1≤i∧i≤l.length)∧(b.length≤i)∧(Lib.IsBuilder 246 5 w.heap.size g4 (bvs b) wr)∧(qt [] l.tail=qt b (l.drop i))∧mz=l.length-i) ⟨1,[],X,M,⟨Nat.le_refl _,by omega⟩,Nat.zero_le _,hbu,by rw [List.drop_one],rfl⟩ ⟨X,X,X,X,trivial⟩ ?_)))));rintro _ w2 _ ⟨i,b,rfl,M,hi,hbl,hbu,hq,rfl⟩;refine sx_seq (AE X (yb X (ya X (FU X X underlying9) (ya X (E0 X X X) (nq (AF (b:=(decide (((i:Nat):Int)<((l.length:Nat):Int)))) X (λh9=>?_) (λh9=>?_)))))))
 ·have h9p:=(odt h9);refine sx_skip (qx_seq (sx_seq (sx_block (sx_seq (AE X (yb X ?_))))));obtain ⟨c,hc⟩:=BM (l:=l) (i:=i) (by omega);refine ya X (GK X X X underlying9 hc) (ya X (C9 X X X) (nq (AF (b:=(decide ((c.toNat:Int)=(39:Int)))) X (λh15=>?_) (λh15=>?_))))
  ·have h15p:=(odt h15);refine AE X (ya X (GE X X X (by omega)) (AJ X (AE X (yb X (ya X (FU X X underlying9) (ya X (C9 X X X) (yb X (AI (d:=22) (b:=(decide (((i+1:Nat):Int)=((l.length:Nat):Int)))) X (λh22=>?_) (λh22=>?_)))))))))
   ·have h22p:=(odt h22);iterate 4 refine yo X ?_
    refine AJ X (sx_true X (sx_seq (srg ?_)));have hbf:=Lib.IsBuilderF.of hbu;refine cl 28 X (AG X X call175) (Tryz.Builder_String_any_f w.heap.size g4 b _ hbf M.fr.size) ?_;rintro _ w3 ⟨rfl,hbf,hBw3⟩;refine ⟨_,X,?_⟩;have M:=M.belowOld hlt hBw3;refine cl 29 X (AG X X call102) (L2 _ _ (by omega) (hY.fr M.fr hGx).utf) ?_;rintro _ w4 ⟨rfl,hfw4⟩;refine ⟨_,X,?_⟩;have M:=M.step hfw4;have hbf:=UE hbf hfw4.below;refine AJ X (AF (b:=(!(utf b))) X (λh30=>?_) (λh30=>?_))
    ·have h30p:=(C5 h30);refine sx_exit (qx_then_exit (qx_then_exit (FS X (qx_then_exit (qx_then_exit (qx_block_hit (qx_seq (sx_region ?_))))))));iterate 4 refine yb X ?_
     refine yl X X (M.cell 0 X X) (cl 55 X (AG X X call83) (FA s x _ _ _ _ (M.blk 0 X)) ?_);rintro _ w5 ⟨rfl,hbw5,hfw5⟩;have M:=M.putB 0 X hbw5 hfw5;exact ⟨_,X,sxl_nil (qx_ret0 (Or.inr X) X ⟨X,by rw [UZ (hq.trans (lU hc h15p h22p)) h30p];exact M.blk 0 rfl,M.fr⟩)⟩
    ·have h30p:=(BL h30);refine sx_skip (qx_seq (AE X (cl 32 X (AG X X call175) (Tryz.Builder_String_any_f w.heap.size g4 b _ hbf M.fr.size) ?_)));rintro _ w6 ⟨rfl,hbf,hBw6⟩;refine ⟨_,X,?_⟩;have M:=M.belowOld hlt hBw6;refine ya X (AY (parts:=[(0,_),(3,_)]) X X (KV _ _)) (ya X (AY (parts:=[(0,_),(1,_)]) X X (FE _ _ _ _ _)) (AV X X (yb X (XY (cs':=[str s,.int .i64 ((x.at_:Nat):Int),.int .u8 1,.int .u8 3,.int .i64 0,.bool false,str b,str [],.slice none 0 0,str x.say,.int .i64 ((x.tat:Nat):Int),.bool x.fin,.int .i64 x.e,.int .i64 ((x.wh:Nat):Int)]) M 0 (wn_none X) X X X X X AO X (HX X) (CL X) X λw7 M=>nq (AE X (AV X X (yl X X (M.cell 0 X X) (yb X ?_))))))));exact ya X (GE X X X (by omega)) (AV X X (E7 (cs':=[str s,.int .i64 ((x.at_+(i+1):Nat):Int),.int .u8 1,.int .u8 3,.int .i64 0,.bool false,str b,str [],.slice none 0 0,str x.say,.int .i64 ((x.tat:Nat):Int),.bool x.fin,.int .i64 x.e,.int .i64 ((x.wh:Nat):Int)]) M 0 (wn_none X) X X X X X X X GI (CO X) X λw8 M=>gnr (qx_then_ret (qx_block_ret (qx_then_ret (qx_then_ret (qx_block_ret (qx_then_ret (qx_ret0 (Or.inl X) X ⟨X,by rw [XV (i:=i+1) (by omega) (hq.trans (lU hc h15p h22p)) h30p];exact M.blk 0 rfl,M.fr⟩)))))))))
   ·have h22p:=(odf h22);refine yd X (yp X) (yd X (yp X) ?_);obtain ⟨d,hd⟩:=BM (l:=l) (i:=i+1) (by omega);refine yd X (GK X X X underlying9 hd) (yd X (DX X X X) (AJ X (AF (b:=(!decide ((d.toNat:Int)=(39:Int)))) X (λh27=>?_) (λh27=>?_))))
    ·have h27p:=(odf (C5 h27));refine sx_seq (srg ?_);have hbf:=Lib.IsBuilderF.of hbu;refine cl 28 X (AG X X call175) (Tryz.Builder_String_any_f w.heap.size g4 b _ hbf M.fr.size) ?_;rintro _ w9 ⟨rfl,hbf,hBw9⟩;refine ⟨_,X,?_⟩;have M:=M.belowOld hlt hBw9;refine cl 29 X (AG X X call102) (L2 _ _ (by omega) (hY.fr M.fr hGx).utf) ?_;rintro _ w10 ⟨rfl,hfw10⟩;refine ⟨_,X,?_⟩;have M:=M.step hfw10;have hbf:=UE hbf hfw10.below;refine AJ X (AF (b:=(!(utf b))) X (λh30=>?_) (λh30=>?_))
     ·have h30p:=(C5 h30);refine sx_exit (qx_then_exit (qx_then_exit (FS X (qx_then_exit (qx_then_exit (qx_block_hit (qx_seq (sx_region ?_))))))));iterate 4 refine yb X ?_
      refine yl X X (M.cell 0 X X) (cl 55 X (AG X X call83) (FA s x _ _ _ _ (M.blk 0 X)) ?_);rintro _ w11 ⟨rfl,hbw11,hfw11⟩;have M:=M.putB 0 X hbw11 hfw11;exact ⟨_,X,sxl_nil (qx_ret0 (Or.inr X) X ⟨X,by rw [UZ (hq.trans (dE hc hd h15p h27p)) h30p];exact M.blk 0 rfl,M.fr⟩)⟩
     ·have h30p:=(BL h30);refine sx_skip (qx_seq (AE X (cl 32 X (AG X X call175) (Tryz.Builder_String_any_f w.heap.size g4 b _ hbf M.fr.size) ?_)));rintro _ w12 ⟨rfl,hbf,hBw12⟩;refine ⟨_,X,?_⟩;have M:=M.belowOld hlt hBw12;refine ya X (AY (parts:=[(0,_),(3,_)]) X X (KV _ _)) (ya X (AY (parts:=[(0,_),(1,_)]) X X (FE _ _ _ _ _)) (AV X X (yb X (XY (cs':=[str s,.int .i64 ((x.at_:Nat):Int),.int .u8 1,.int .u8 3,.int .i64 0,.bool false,str b,str [],.slice none 0 0,str x.say,.int .i64 ((x.tat:Nat):Int),.bool x.fin,.int .i64 x.e,.int .i64 ((x.wh:Nat):Int)]) M 0 (wn_none X) X X X X X AO X (HX X) (CL X) X λw13 M=>nq (AE X (AV X X (yl X X (M.cell 0 X X) (yb X ?_))))))));exact ya X (GE X X X (by omega)) (AV X X (E7 (cs':=[str s,.int .i64 ((x.at_+(i+1):Nat):Int),.int .u8 1,.int .u8 3,.int .i64 0,.bool false,str b,str [],.slice none 0 0,str x.say,.int .i64 ((x.tat:Nat):Int),.bool x.fin,.int .i64 x.e,.int .i64 ((x.wh:Nat):Int)]) M 0 (wn_none X) X X X X X X X GI (CO X) X λw14 M=>gnr (qx_then_ret (qx_block_ret (qx_then_ret (qx_then_ret (qx_block_ret (qx_then_ret (qx_ret0 (Or.inl X) X ⟨X,by rw [XV (i:=i+1) (by omega) (hq.trans (dE hc hd h15p h27p)) h30p];exact M.blk 0 rfl,M.fr⟩)))))))))
    ·have h27p:=(odt (BL h27));refine sx_skip (qx_seq (sx_region (AV X X (ya X (GK X X X underlying9 hd) (cl 49 X (AG X X call176) (OT w.heap.size g4 b d _ hbu (by omega) M.fr.size) ?_)))));rintro _ w15 ⟨rfl,hbu,hBw15⟩;refine ⟨_,X,?_⟩;have M:=M.belowOld hlt hBw15;refine sxl_nil (qx_block_normal (qx_seq (sx_region (yb X (ya X (GE X X X (by omega)) (yb X (sxl_nil (qx_again [(0,.pointer (some ⟨gx,0,none⟩)),(1,str l),(4,.pointer (some ⟨g4,0,none⟩)),(5,.int .i64 (((i+2):Nat):Int))] (l.length-(i+2)) ⟨i+2,(b++[d]),X,M,?_,?_,?_,?_,X⟩ (by first|omega|(simp<;>omega)) ⟨X,X,X,X,trivial⟩))))))))
     ·omega
     ·simp only [List.length_append,List.length_cons,List.length_nil];omega
     ·exact hbu
     ·first
       | (rw [hq,lS hc hd h15p h27p])
       | (rw [hq,lT hc h15p])
  ·have h15p:=(odf h15);refine sx_skip (qx_seq (sx_region (AV X X (ya X (GK X X X underlying9 hc) (cl 49 X (AG X X call176) (OT w.heap.size g4 b c _ hbu (by omega) M.fr.size) ?_)))));rintro _ w16 ⟨rfl,hbu,hBw16⟩;refine ⟨_,X,?_⟩;have M:=M.belowOld hlt hBw16;refine sxl_nil (qx_block_normal (qx_seq (sx_region (yb X (ya X (GE X X X (by omega)) (yb X (sxl_nil (qx_again [(0,.pointer (some ⟨gx,0,none⟩)),(1,str l),(4,.pointer (some ⟨g4,0,none⟩)),(5,.int .i64 (((i+1):Nat):Int))] (l.length-(i+1)) ⟨i+1,(b++[c]),X,M,?_,?_,?_,?_,X⟩ (by first|omega|(simp<;>omega)) ⟨X,X,X,X,trivial⟩))))))))
   ·omega
   ·simp only [List.length_append,List.length_cons,List.length_nil];omega
   ·exact hbu
   ·first
     | (rw [hq,lS hc hd h15p h27p])
     | (rw [hq,lT hc h15p])
 ·have h9p:=(odf h9);refine sx_exit (qx_then_exit (qx_then_exit (qx_block_hit (qx_seq (sx_region ?_)))));iterate 4 refine yb X ?_
  refine yl X X (M.cell 0 X X) (cl 55 X (AG X X call83) (FA s x _ _ _ _ (M.blk 0 X)) ?_);rintro _ w17 ⟨rfl,hbw17,hfw17⟩;have M:=M.putB 0 X hbw17 hfw17;refine ⟨_,X,sxl_nil (qx_ret0 (Or.inr X) X ?_)⟩;obtain rfl:i=l.length:=by omega
  exact ⟨X,by rw [kJ (hq.trans (by rw [List.drop_length];cases b<;>rfl))];exact M.blk 0 rfl,M.fr⟩
section
theorem eF {P:Program} {e:Env} {w:World} {o:Oper} {v:Value} (h:Y P e o w v):∀ρ,Ag e ρ→GB P ρ o w (λu w'=>u=v∧w'=w):=λρ hρ=>⟨v,w,.inl (h ρ hρ),rfl,rfl⟩
theorem CK {P:Program} {e:Env} {w:World} {o:Oper} {t t':Nat} {a b:Nat} {x y:Operand} (ho:o.op=.binOp .sub t x y t') (hx:ev e x=some (AC (a:Int))) (hy:ev e y=some (AC (b:Int))) (h:b≤a) (hl:a≤9223372036854775807):Y P e o w (AC ((a-b:Nat):Int)):=by
 have:((a-b:Nat):Int)=(a:Int)-(b:Int):=by omega
 rw [this];exact cC ho hx hy AA
theorem kF {l r:List UInt8} (w:World) (h:OK l=r):Calls prog 139 #[str l,str [32]] w λe w'=>e=.returned (str r)∧w=w':=h▸kG l w
theorem K7 (p:UInt8→Bool):∀l:List UInt8,(l.dropWhile p).length≤l.length
 | []=>Nat.le_refl _
 | b::l=>by
  rw [List.dropWhile_cons]
  split
  ·exact Nat.le_succ_of_le (K7 p l)
  ·exact Nat.le_refl _
theorem KQ (l:List UInt8) (k:Nat):(OK (l.drop k)).length≤l.length:=
 Nat.le_trans (K7 _ _) (by rw [List.length_drop];omega)
theorem oJ {b:UInt8} (h:DV b=true):b.toNat<128:=by
 have:=odt (BR h).2
 omega
theorem V6 {is:UInt8→Bool} {l:List UInt8} {b:UInt8} (hb:l[0]?=some b) (hl:b.toNat<128) (h:is b=true):0<spanP is l:=by
 obtain ⟨b',r,rfl⟩:∃b' r,l=b'::r:=by cases l with|nil=>simp at hb|cons b' r=>exact ⟨b',r,rfl⟩
 obtain rfl:b'=b:=by simpa using hb
 unfold spanP
 split
 ·simp
 ·have hs:(ByteArray.mk (b'::r).toArray).size=r.length+1:=by show (b'::r).toArray.size=_;simp
  have hd:Utf8.decode ⟨(b'::r).toArray⟩ 0=(b'.toNat,1):=Go.decode_ascii _ 0 AA hl
  have hq:NV is b'.toNat=false:=by
   unfold NV;rw [UInt8.ofNat_toNat,h];simp only [Bool.not_true,Bool.or_false,decide_eq_false_iff_not];omega
  have h0:MG is (b'::r)=Lib.idxFuncFrom (NV is) true ⟨(b'::r).toArray⟩ r.length 1:=by
   unfold MG Lib.idxFunc;rw [hs,Lib.idxFuncFrom,if_pos AA,hd];simp only [hq,Bool.false_eq_true,if_false,Nat.zero_add]
  have h1:=Lib.idxFuncFrom_range (NV is) true ⟨(b'::r).toArray⟩ r.length 1;rw [←h0] at h1
  rcases h1 with h1|h1<;>omega
theorem GA (x:Lx) (e:Int) (p:Nat):(x.fail e p).at_=x.at_:=by unfold Lx.fail;split<;>rfl
theorem PF (t:List UInt8) (x:Lx):(NO t x).at_=x.at_:=by
 unfold NO
 split
 ·exact GA _ _ _
 ·split
  ·rfl
  ·exact GA _ _ _
theorem MD (t:List UInt8) (x:Lx):(IK t x).at_=x.at_:=by
 unfold IK
 repeat' split
 all_goals first|rfl|exact GA _ _ _
def sgnN (r:List UInt8):Nat:=if ((B7 (r.take (min 2 r.length))).isSome&&(decide ((1:Int)<((r.length:Nat):Int)))) then 2 else 1
theorem d9 {r:List UInt8} (h:¬r=[]):sgnN r≤r.length:=by
 have:0<r.length:=List.length_pos_iff.2 h
 unfold sgnN
 split
 ·rename_i h1
  have:=odt (BR h1).2
  omega
 ·omega
theorem lN (r:List UInt8):sgnN r≤2:=by unfold sgnN;split<;>omega
def IB (s r:List UInt8) (x:Lx):Lx:=
 if r=[]∨¬x.e=0 then ⟨s.length-r.length,.zero,[],s.length-r.length,true,x.e,x.wh⟩
 else if DV (r.headD 0)=true then { NO (r.take (spanP DV r)) ⟨s.length-r.length,.zero,[],s.length-r.length,false,x.e,x.wh⟩ with at_:=(NO (r.take (spanP DV r)) ⟨s.length-r.length,.zero,[],s.length-r.length,false,x.e,x.wh⟩).at_+spanP DV r }
 else if G0 (r.headD 0)=true then { IK (r.take (spanP EY r)) ⟨s.length-r.length,.zero,[],s.length-r.length,false,x.e,x.wh⟩ with at_:=(IK (r.take (spanP EY r)) ⟨s.length-r.length,.zero,[],s.length-r.length,false,x.e,x.wh⟩).at_+spanP EY r }
 else if ((r.headD 0).toNat:Int)=39 then I9 r ⟨s.length-r.length,.zero,[],s.length-r.length,false,x.e,x.wh⟩
 else if (((!(B7 (r.take (sgnN r))).isSome)&&(!decide ((r.take (sgnN r))=[40])))&&(!decide ((r.take (sgnN r))=[41])))=true then
  { (⟨s.length-r.length,.zero,r.take (sgnN r),s.length-r.length,false,x.e,x.wh⟩:Lx).fail 4 (s.length-r.length) with at_:=((⟨s.length-r.length,.zero,r.take (sgnN r),s.length-r.length,false,x.e,x.wh⟩:Lx).fail 4 (s.length-r.length)).at_+sgnN r }
 else ⟨s.length-r.length+sgnN r,.zero,r.take (sgnN r),s.length-r.length,false,x.e,x.wh⟩
def BP (s:List UInt8) (x:Lx):Lx:=IB s (OK (s.drop x.at_)) x
theorem KK {s r:List UInt8} {x:Lx} (h:OK (s.drop x.at_)=r):BP s x=IB s r x:=h▸rfl
section
variable {s r:List UInt8} {x:Lx} {b:UInt8}
theorem Q8 (h:r=[]∨¬x.e=0):IB s r x=⟨s.length-r.length,.zero,[],s.length-r.length,true,x.e,x.wh⟩:=if_pos h
theorem VA (h:¬r=[]∧x.e=0) (hb:r[0]?=some b) (h1:DV b=true):IB s r x={ NO (r.take (spanP DV r)) ⟨s.length-r.length,.zero,[],s.length-r.length,false,x.e,x.wh⟩ with at_:=(NO (r.take (spanP DV r)) ⟨s.length-r.length,.zero,[],s.length-r.length,false,x.e,x.wh⟩).at_+spanP DV r }:=by
 rw [IB,if_neg (λz=>z.elim h.1 (λz=>z h.2)),R6 hb,if_pos h1]
theorem T0 (h:¬r=[]∧x.e=0) (hb:r[0]?=some b) (h1:DV b=false) (h2:G0 b=true):IB s r x={ IK (r.take (spanP EY r)) ⟨s.length-r.length,.zero,[],s.length-r.length,false,x.e,x.wh⟩ with at_:=(IK (r.take (spanP EY r)) ⟨s.length-r.length,.zero,[],s.length-r.length,false,x.e,x.wh⟩).at_+spanP EY r }:=by
 rw [IB,if_neg (λz=>z.elim h.1 (λz=>z h.2)),R6 hb,AM h1,if_pos h2]
theorem T3 (h:¬r=[]∧x.e=0) (hb:r[0]?=some b) (h1:DV b=false) (h2:G0 b=false) (h3:(b.toNat:Int)=39):IB s r x=I9 r ⟨s.length-r.length,.zero,[],s.length-r.length,false,x.e,x.wh⟩:=by
 rw [IB,if_neg (λz=>z.elim h.1 (λz=>z h.2)),R6 hb,AM h1,AM h2,if_pos h3]
theorem VB (h:¬r=[]∧x.e=0) (hb:r[0]?=some b) (h1:DV b=false) (h2:G0 b=false) (h3:¬(b.toNat:Int)=39)
 (h4:(((!(B7 (r.take (sgnN r))).isSome)&&(!decide ((r.take (sgnN r))=[40])))&&(!decide ((r.take (sgnN r))=[41])))=true):IB s r x={ (⟨s.length-r.length,.zero,r.take (sgnN r),s.length-r.length,false,x.e,x.wh⟩:Lx).fail 4 (s.length-r.length) with at_:=((⟨s.length-r.length,.zero,r.take (sgnN r),s.length-r.length,false,x.e,x.wh⟩:Lx).fail 4 (s.length-r.length)).at_+sgnN r }:=by
 rw [IB,if_neg (λz=>z.elim h.1 (λz=>z h.2)),R6 hb,AM h1,AM h2,if_neg h3,if_pos h4]
theorem T4 (h:¬r=[]∧x.e=0) (hb:r[0]?=some b) (h1:DV b=false) (h2:G0 b=false) (h3:¬(b.toNat:Int)=39)
 (h4:(((!(B7 (r.take (sgnN r))).isSome)&&(!decide ((r.take (sgnN r))=[40])))&&(!decide ((r.take (sgnN r))=[41])))=false):IB s r x=⟨s.length-r.length+sgnN r,.zero,r.take (sgnN r),s.length-r.length,false,x.e,x.wh⟩:=by
 rw [IB,if_neg (λz=>z.elim h.1 (λz=>z h.2)),R6 hb,AM h1,AM h2,if_neg h3,AM h4]
end
theorem PR (a2:Int) (a3:Bool):prog.built 166 [(2,AC a2),(3,.bool a3)]=some #[.int .u8 0,.int .u8 0,AC 0,.bool false,str [],str [],.slice none 0 0,str [],AC a2,.bool a3]:=by kernel_rfl
theorem RP : (prog.info? 4).map (·.size)=some 1:=by kernel_rfl
theorem DL : (prog.info? 174).map (·.size)=some 2:=by kernel_rfl
theorem UI : (prog.info? 166).map (·.size)=some 10:=by kernel_rfl
theorem C1 : (prog.info? 174).map (·.zero)=some (some (.agg #[.int .u8 0,AC 0])):=by kernel_rfl
theorem HB (s:List UInt8) (x:Lx) (gx:Nat)  (w:World) (hb:Blk w gx 168 (Lx.cells s x)) (hA:x.at_≤s.length) (hl:s.length≤256) (hY:Lay0 w) (hgx:nGlob≤gx) :
 Calls prog 80 #[pg gx] w λe w'=>e=.returned (.tuple #[])∧Blk w' gx 168 (Lx.cells s (BP s x))∧Fr (λk=>k=gx) w w':=by
 have hGx:∀k,k=gx→nGlob≤k:=λ_ e=>e▸hgx
 obtain ⟨r,hr⟩:∃r,OK (s.drop x.at_)=r:=⟨_,X⟩
 have hrl:r.length≤s.length:=hr▸KQ _ _;refine sx_enter (vs:=[_]) func80 X ntmps80 X ?_;have M:Mem w (λk=>k=gx) [As.blk gx 168 (Lx.cells s x)] w:=Mem.one hb;refine sx_seq (CY 9 CH (by kernel_rfl) ?_);have M:=M.drew;refine sb X (sb X (sb X (sd X X (M.cell 0 X X) (sb X (sb X (sb X (sd X X (M.cell 0 X X) (sa X (pY X X X underlying9 C2) (C8 (cl 20 X (AG X X call139) (kF _ hr) ?_))))))))));rintro _ _ ⟨rfl,rfl⟩;refine ⟨_,X,AJ X (srg ?_)⟩;iterate 4 refine yb X ?_
 refine yl X X (M.cell 0 X X) (ya X (FU X X underlying9) (yb X (ya X (FU X X underlying9) (ya X (CK X X X hrl (by omega)) (AV X X (E7 (cs':=[str s,AC ((s.length-r.length:Nat):Int),.int .u8 (x.nd.op.toNat:Int),.int .u8 (x.nd.vl.kind.toNat:Int),AC x.nd.vl.int,.bool x.nd.vl.bool,str x.nd.vl.text,str x.nd.nm,.slice none 0 0,str x.say,AC (x.tat:Int),.bool x.fin,AC x.e,AC (x.wh:Int)]) M 0 (wn_none X) X X X X X X X GI (CO X) X λw2 M=>EV ?_))))));iterate 4 refine yb X ?_
 refine yl X X (M.cell 0 X X) (ya X (AY (parts:=[(2,_),(3,_)]) X X (PR _ _)) (AV X X (XY (cs':=[str s,AC ((s.length-r.length:Nat):Int),.int .u8 0,.int .u8 0,AC 0,.bool false,str [],str [],.slice none 0 0,str [],AC ((s.length-r.length:Nat):Int),.bool true,AC x.e,AC (x.wh:Int)]) M 0 (wn_none X) X X X X X UI X (HX X) (CL X) X λw3 M=>nq (sx_seq (AE X (ya X (CX X X X) (yb X (qZ 6 [(0,pg gx),(2,str r),(48,.bool ((decide (r=[])) || (!decide (x.e=(0:Int)))))] (λw'=>Mem w (λk=>k=gx) [As.blk gx 168 [str s,AC ((s.length-r.length:Nat):Int),.int .u8 0,.int .u8 0,AC 0,.bool false,str [],str [],.slice none 0 0,str [],AC ((s.length-r.length:Nat):Int),.bool true,AC x.e,AC (x.wh:Int)]] w') ?_ (λk42=>?_)))))))))
 ·intro w4 M;refine nq (AF (b:=((decide (r=[])) || (!decide (x.e=(0:Int))))) X (λh48=>?_) (λh48=>?_))
  ·have h48p:=((E1 h48).imp (λz=>(odt z)) (λz=>(odf (C5 z))));exact sx_ret (qx_then_ret (qx_ret0 (Or.inl X) X ⟨X,by rw [KK hr,Q8 h48p];exact M.blk 0 rfl,M.fr⟩))
  ·have h48p:=(And.intro (odf (C6 h48).1) (odt (BL (C6 h48).2)));have hrn:0<r.length:=List.length_pos_iff.2 h48p.1;refine sx_skip (qx_seq (srg ?_));iterate 4 refine yb X ?_
   refine E7 (cs':=[str s,AC ((s.length-r.length:Nat):Int),.int .u8 0,.int .u8 0,AC 0,.bool false,str [],str [],.slice none 0 0,str [],AC ((s.length-r.length:Nat):Int),.bool false,AC x.e,AC (x.wh:Int)]) M 0 (wn_none X) X X X X X X X RP (CO X) X λw5 M=>nq (AE X ?_)
   obtain ⟨b,hb⟩:=BM (l:=r) (i:=0) (by omega);refine ya X (GK X X X underlying9 hb) (AJ X (sx_block (AE X (LZ M 122 X (AG X X call140) (TU _ _) λw6 M=>AJ X (AF (b:=(DV b)) X (λh120=>?_) (λh120=>?_))))))
   ·refine AE X (LZ M 124 X (AG X X call141) (d6 DV 140 call140 TU r _) λw7 M=>?_);have hsp:=P6 DV r;have htl:(r.take (spanP DV r)).length≤r.length:=by rw [List.length_take];omega
    have hpos:0<(r.take (spanP DV r)).length:=by have:=V6 (is:=DV) hb (oJ h120) h120;rw [List.length_take];omega
    refine AJ X (AE X (AV X X (ya X (cD X X X underlying9 C2) (cl 129 X (AG X X call142) (mT s (⟨s.length-r.length,.zero,[],s.length-r.length,false,x.e,x.wh⟩:Lx) _ _ _ (M.blk 0 X) (by first|omega|assumption) (by first|omega|assumption) (hY.fr M.fr hGx) hgx) ?_))));rintro _ w8 ⟨rfl,hbw8,hfw8⟩;have M:=M.putB 0 X hbw8 hfw8;refine ⟨_,X,nq (sx_region (AV X X (yb X (yl X X (M.cell 0 X X) (yb X (ya X (GE X X X (by first|omega|(simp only [PF];omega)|(simp only [MD];omega)|(simp only [GA];omega))) (AV X X (E7 (cs':=[str s,AC ((((NO (r.take (spanP DV r)) (⟨s.length-r.length,.zero,[],s.length-r.length,false,x.e,x.wh⟩:Lx)).at_)+(spanP DV r):Nat):Int),.int .u8 ((NO (r.take (spanP DV r)) (⟨s.length-r.length,.zero,[],s.length-r.length,false,x.e,x.wh⟩:Lx)).nd.op.toNat:Int),.int .u8 ((NO (r.take (spanP DV r)) (⟨s.length-r.length,.zero,[],s.length-r.length,false,x.e,x.wh⟩:Lx)).nd.vl.kind.toNat:Int),AC ((NO (r.take (spanP DV r)) (⟨s.length-r.length,.zero,[],s.length-r.length,false,x.e,x.wh⟩:Lx)).nd.vl.int),.bool ((NO (r.take (spanP DV r)) (⟨s.length-r.length,.zero,[],s.length-r.length,false,x.e,x.wh⟩:Lx)).nd.vl.bool),str ((NO (r.take (spanP DV r)) (⟨s.length-r.length,.zero,[],s.length-r.length,false,x.e,x.wh⟩:Lx)).nd.vl.text),str ((NO (r.take (spanP DV r)) (⟨s.length-r.length,.zero,[],s.length-r.length,false,x.e,x.wh⟩:Lx)).nd.nm),.slice none 0 0,str ((NO (r.take (spanP DV r)) (⟨s.length-r.length,.zero,[],s.length-r.length,false,x.e,x.wh⟩:Lx)).say),AC (((NO (r.take (spanP DV r)) (⟨s.length-r.length,.zero,[],s.length-r.length,false,x.e,x.wh⟩:Lx)).tat:Nat):Int),.bool ((NO (r.take (spanP DV r)) (⟨s.length-r.length,.zero,[],s.length-r.length,false,x.e,x.wh⟩:Lx)).fin),AC ((NO (r.take (spanP DV r)) (⟨s.length-r.length,.zero,[],s.length-r.length,false,x.e,x.wh⟩:Lx)).e),AC (((NO (r.take (spanP DV r)) (⟨s.length-r.length,.zero,[],s.length-r.length,false,x.e,x.wh⟩:Lx)).wh:Nat):Int)]) M 0 (wn_none X) X X X X X X X GI (CO X) X λw9 M=>sxl_nil (qx_block_normal ?_)))))))))⟩;exact qx_ret0 (Or.inr X) X ⟨X,by rw [KK hr,VA h48p hb h120];exact M.blk 0 rfl,M.fr⟩
   ·refine AE X (LZ M 140 X (AG X X call143) (VF _ _) λw10 M=>AJ X (AF (b:=(G0 b)) X (λh138=>?_) (λh138=>?_)))
    ·refine AE X (LZ M 142 X (AG X X call141) (d6 EY 144 call144 iK r _) λw11 M=>?_);have hsp:=P6 EY r;have htl:(r.take (spanP EY r)).length≤r.length:=by rw [List.length_take];omega
     refine AJ X (AE X (AV X X (ya X (cD X X X underlying9 C2) (cl 147 X (AG X X call145) (gZ s (⟨s.length-r.length,.zero,[],s.length-r.length,false,x.e,x.wh⟩:Lx) _ _ _ (M.blk 0 X) (by first|omega|assumption)) ?_))));rintro _ w12 ⟨rfl,hbw12,hfw12⟩;have M:=M.putB 0 X hbw12 hfw12;refine ⟨_,X,nq (sx_region (AV X X (yb X (yl X X (M.cell 0 X X) (yb X (ya X (GE X X X (by first|omega|(simp only [PF];omega)|(simp only [MD];omega)|(simp only [GA];omega))) (AV X X (E7 (cs':=[str s,AC ((((IK (r.take (spanP EY r)) (⟨s.length-r.length,.zero,[],s.length-r.length,false,x.e,x.wh⟩:Lx)).at_)+(spanP EY r):Nat):Int),.int .u8 ((IK (r.take (spanP EY r)) (⟨s.length-r.length,.zero,[],s.length-r.length,false,x.e,x.wh⟩:Lx)).nd.op.toNat:Int),.int .u8 ((IK (r.take (spanP EY r)) (⟨s.length-r.length,.zero,[],s.length-r.length,false,x.e,x.wh⟩:Lx)).nd.vl.kind.toNat:Int),AC ((IK (r.take (spanP EY r)) (⟨s.length-r.length,.zero,[],s.length-r.length,false,x.e,x.wh⟩:Lx)).nd.vl.int),.bool ((IK (r.take (spanP EY r)) (⟨s.length-r.length,.zero,[],s.length-r.length,false,x.e,x.wh⟩:Lx)).nd.vl.bool),str ((IK (r.take (spanP EY r)) (⟨s.length-r.length,.zero,[],s.length-r.length,false,x.e,x.wh⟩:Lx)).nd.vl.text),str ((IK (r.take (spanP EY r)) (⟨s.length-r.length,.zero,[],s.length-r.length,false,x.e,x.wh⟩:Lx)).nd.nm),.slice none 0 0,str ((IK (r.take (spanP EY r)) (⟨s.length-r.length,.zero,[],s.length-r.length,false,x.e,x.wh⟩:Lx)).say),AC (((IK (r.take (spanP EY r)) (⟨s.length-r.length,.zero,[],s.length-r.length,false,x.e,x.wh⟩:Lx)).tat:Nat):Int),.bool ((IK (r.take (spanP EY r)) (⟨s.length-r.length,.zero,[],s.length-r.length,false,x.e,x.wh⟩:Lx)).fin),AC ((IK (r.take (spanP EY r)) (⟨s.length-r.length,.zero,[],s.length-r.length,false,x.e,x.wh⟩:Lx)).e),AC (((IK (r.take (spanP EY r)) (⟨s.length-r.length,.zero,[],s.length-r.length,false,x.e,x.wh⟩:Lx)).wh:Nat):Int)]) M 0 (wn_none X) X X X X X X X GI (CO X) X λw13 M=>sxl_nil (qx_block_normal ?_)))))))))⟩;exact qx_ret0 (Or.inr X) X ⟨X,by rw [KK hr,T0 h48p hb h120 h138];exact M.blk 0 rfl,M.fr⟩
    ·refine AE X (ya X (C9 X X X) (AJ X (AF (b:=(decide ((b.toNat:Int)=39))) X (λh156=>?_) (λh156=>?_))))
     ·have h156p:=(odt h156);refine sx_region (AV X X (cl 161 X (AG X X call146) (hG s (⟨s.length-r.length,.zero,[],s.length-r.length,false,x.e,x.wh⟩:Lx) _ _ _ (M.blk 0 X) (by first|omega|assumption) (by first|omega|assumption|(dsimp only;omega)) (hY.fr M.fr hGx) hgx) ?_));rintro _ w14 ⟨rfl,hbw14,hfw14⟩;have M:=M.putB 0 X hbw14 hfw14;exact ⟨_,X,sxl_nil (qx_block_normal (qx_ret0 (Or.inr X) X ⟨X,by rw [KK hr,T3 h48p hb h120 h138 h156p];exact M.blk 0 rfl,M.fr⟩))⟩
     ·have h156p:=(odf h156);have hsg:=d9 h48p.1;have hsg2:=lN r;refine srg (AJ X (sx_seq (sx_seq (P3 (λ(g7:Nat) (g56:Nat)=>[(0,pg gx),(2,str r),(6,AC 1),(8,.bool ((B7 (r.take (min 2 r.length))).isSome))]) (λ(g7:Nat) (g56:Nat)=>λw'=>Mem w (λk=>k=gx) [As.blk g7 174 [.int .u8 (((B7 (r.take (min 2 r.length))).getD (0,0)).1.toNat:Int),AC ((((B7 (r.take (min 2 r.length))).getD (0,0)).2:Nat):Int)],As.mp g56 ES,As.blk gx 168 [str s,AC ((s.length-r.length:Nat):Int),.int .u8 0,.int .u8 0,AC 0,.bool false,str [],str [],.slice none 0 0,str [],AC ((s.length-r.length:Nat):Int),.bool false,AC x.e,AC (x.wh:Int)]] w') ?_ (λkr7=>?_)))))
      ·intro g7 g56 w15 M;refine qx_seq (AE X (yb X (qZ 4 [(0,pg gx),(2,str r),(6,AC 1),(70,.bool ((B7 (r.take (min 2 r.length))).isSome&&(decide (1<(r.length:Int)))))] (λw'=>Mem w (λk=>k=gx) [As.blk g7 174 [.int .u8 (((B7 (r.take (min 2 r.length))).getD (0,0)).1.toNat:Int),AC ((((B7 (r.take (min 2 r.length))).getD (0,0)).2:Nat):Int)],As.mp g56 ES,As.blk gx 168 [str s,AC ((s.length-r.length:Nat):Int),.int .u8 0,.int .u8 0,AC 0,.bool false,str [],str [],.slice none 0 0,str [],AC ((s.length-r.length:Nat):Int),.bool false,AC x.e,AC (x.wh:Int)]] w') ?_ (λk66=>?_))))
       ·intro w16 M;refine nq (IR [(0,pg gx),(2,str r),(6,AC ((sgnN r:Nat):Int))] (λw'=>Mem w (λk=>k=gx) [As.blk g7 174 [.int .u8 (((B7 (r.take (min 2 r.length))).getD (0,0)).1.toNat:Int),AC ((((B7 (r.take (min 2 r.length))).getD (0,0)).2:Nat):Int)],As.mp g56 ES,As.blk gx 168 [str s,AC ((s.length-r.length:Nat):Int),.int .u8 0,.int .u8 0,AC 0,.bool false,str [],str [],.slice none 0 0,str [],AC ((s.length-r.length:Nat):Int),.bool false,AC x.e,AC (x.wh:Int)]] w') ?_ (λk70=>?_))
        ·intro w17 M;refine qx_seq (AE X (AV X X (ya X (cD X X X underlying9 C2) (AV X X (yb X (E7 (cs':=[str s,AC ((s.length-r.length:Nat):Int),.int .u8 0,.int .u8 0,AC 0,.bool false,str [],str [],.slice none 0 0,str (r.take (sgnN r)),AC ((s.length-r.length:Nat):Int),.bool false,AC x.e,AC (x.wh:Int)]) M 2 (wn_none X) X X X X X X X FR (CO X) X λw18 M=>nq (sx_seq (sx_seq ?_))))))));refine P3 (λ(g9:Nat) (g79:Nat)=>[(0,pg gx),(6,AC ((sgnN r:Nat):Int)),(10,.bool ((B7 (r.take (sgnN r))).isSome))]) (λ(g9:Nat) (g79:Nat)=>λw'=>Mem w (λk=>k=gx) [As.blk g9 174 [.int .u8 (((B7 (r.take (sgnN r))).getD (0,0)).1.toNat:Int),AC ((((B7 (r.take (sgnN r))).getD (0,0)).2:Nat):Int)],As.mp g79 ES,As.blk g7 174 [.int .u8 (((B7 (r.take (min 2 r.length))).getD (0,0)).1.toNat:Int),AC ((((B7 (r.take (min 2 r.length))).getD (0,0)).2:Nat):Int)],As.mp g56 ES,As.blk gx 168 [str s,AC ((s.length-r.length:Nat):Int),.int .u8 0,.int .u8 0,AC 0,.bool false,str [],str [],.slice none 0 0,str (r.take (sgnN r)),AC ((s.length-r.length:Nat):Int),.bool false,AC x.e,AC (x.wh:Int)]] w') ?_ (λkr11=>?_)
         ·intro g9 g79 w19 M;refine qx_seq (AE X (AV X X (qZ 7 [(0,pg gx),(6,AC ((sgnN r:Nat):Int)),(97,.bool ((!(B7 (r.take (sgnN r))).isSome)&&(!decide ((r.take (sgnN r))=[40]))))] (λw'=>Mem w (λk=>k=gx) [As.blk g9 174 [.int .u8 (((B7 (r.take (sgnN r))).getD (0,0)).1.toNat:Int),AC ((((B7 (r.take (sgnN r))).getD (0,0)).2:Nat):Int)],As.mp g79 ES,As.blk g7 174 [.int .u8 (((B7 (r.take (min 2 r.length))).getD (0,0)).1.toNat:Int),AC ((((B7 (r.take (min 2 r.length))).getD (0,0)).2:Nat):Int)],As.mp g56 ES,As.blk gx 168 [str s,AC ((s.length-r.length:Nat):Int),.int .u8 0,.int .u8 0,AC 0,.bool false,str [],str [],.slice none 0 0,str (r.take (sgnN r)),AC ((s.length-r.length:Nat):Int),.bool false,AC x.e,AC (x.wh:Int)]] w') ?_ (λk90=>?_))))
          ·intro w20 M;refine yb X (qZ 7 [(0,pg gx),(6,AC ((sgnN r:Nat):Int)),(105,.bool (((!(B7 (r.take (sgnN r))).isSome)&&(!decide ((r.take (sgnN r))=[40])))&&(!decide ((r.take (sgnN r))=[41]))))] (λw'=>Mem w (λk=>k=gx) [As.blk g9 174 [.int .u8 (((B7 (r.take (sgnN r))).getD (0,0)).1.toNat:Int),AC ((((B7 (r.take (sgnN r))).getD (0,0)).2:Nat):Int)],As.mp g79 ES,As.blk g7 174 [.int .u8 (((B7 (r.take (min 2 r.length))).getD (0,0)).1.toNat:Int),AC ((((B7 (r.take (min 2 r.length))).getD (0,0)).2:Nat):Int)],As.mp g56 ES,As.blk gx 168 [str s,AC ((s.length-r.length:Nat):Int),.int .u8 0,.int .u8 0,AC 0,.bool false,str [],str [],.slice none 0 0,str (r.take (sgnN r)),AC ((s.length-r.length:Nat):Int),.bool false,AC x.e,AC (x.wh:Int)]] w') ?_ (λk98=>?_))
           ·intro w21 M;refine nq (AF (b:=(((!(B7 (r.take (sgnN r))).isSome)&&(!decide ((r.take (sgnN r))=[40])))&&(!decide ((r.take (sgnN r))=[41])))) X (λh105=>?_) (λh105=>?_))
            ·have h105p:=(And.intro (And.intro (C5 (BR (BR h105).1).1) (odf (C5 (BR (BR h105).1).2))) (odf (C5 (BR h105).2)));refine sx_region ?_;iterate 4 refine yb X ?_
             refine yl X X (M.cell 4 X X) (cl 111 X (AG X X call83) (FA s (⟨s.length-r.length,.zero,(r.take (sgnN r)),s.length-r.length,false,x.e,x.wh⟩:Lx) _ _ _ _ (M.blk 4 X)) ?_);rintro _ w22 ⟨rfl,hbw22,hfw22⟩;have M:=M.putB 4 X hbw22 hfw22;refine ⟨_,X,nq (sx_region (AV X X (yb X (yl X X (M.cell 4 X X) (yb X (ya X (GE X X X (by first|omega|(simp only [PF];omega)|(simp only [MD];omega)|(simp only [GA];omega))) (AV X X (E7 (cs':=[str s,AC (((((⟨s.length-r.length,.zero,(r.take (sgnN r)),s.length-r.length,false,x.e,x.wh⟩:Lx).fail 4 (s.length-r.length)).at_)+(sgnN r):Nat):Int),.int .u8 (((⟨s.length-r.length,.zero,(r.take (sgnN r)),s.length-r.length,false,x.e,x.wh⟩:Lx).fail 4 (s.length-r.length)).nd.op.toNat:Int),.int .u8 (((⟨s.length-r.length,.zero,(r.take (sgnN r)),s.length-r.length,false,x.e,x.wh⟩:Lx).fail 4 (s.length-r.length)).nd.vl.kind.toNat:Int),AC (((⟨s.length-r.length,.zero,(r.take (sgnN r)),s.length-r.length,false,x.e,x.wh⟩:Lx).fail 4 (s.length-r.length)).nd.vl.int),.bool (((⟨s.length-r.length,.zero,(r.take (sgnN r)),s.length-r.length,false,x.e,x.wh⟩:Lx).fail 4 (s.length-r.length)).nd.vl.bool),str (((⟨s.length-r.length,.zero,(r.take (sgnN r)),s.length-r.length,false,x.e,x.wh⟩:Lx).fail 4 (s.length-r.length)).nd.vl.text),str (((⟨s.length-r.length,.zero,(r.take (sgnN r)),s.length-r.length,false,x.e,x.wh⟩:Lx).fail 4 (s.length-r.length)).nd.nm),.slice none 0 0,str (((⟨s.length-r.length,.zero,(r.take (sgnN r)),s.length-r.length,false,x.e,x.wh⟩:Lx).fail 4 (s.length-r.length)).say),AC ((((⟨s.length-r.length,.zero,(r.take (sgnN r)),s.length-r.length,false,x.e,x.wh⟩:Lx).fail 4 (s.length-r.length)).tat:Nat):Int),.bool (((⟨s.length-r.length,.zero,(r.take (sgnN r)),s.length-r.length,false,x.e,x.wh⟩:Lx).fail 4 (s.length-r.length)).fin),AC (((⟨s.length-r.length,.zero,(r.take (sgnN r)),s.length-r.length,false,x.e,x.wh⟩:Lx).fail 4 (s.length-r.length)).e),AC ((((⟨s.length-r.length,.zero,(r.take (sgnN r)),s.length-r.length,false,x.e,x.wh⟩:Lx).fail 4 (s.length-r.length)).wh:Nat):Int)]) M 4 (wn_none X) X X X X X X X GI (CO X) X λw23 M=>sxl_nil (qx_block_normal ?_)))))))))⟩;exact qx_ret0 (Or.inr X) X ⟨X,by rw [KK hr,VB h48p hb h120 h138 h156p h105];exact M.blk 4 rfl,M.fr⟩
            ·have h105p:=((CV h105).imp (λz=>((CV z).imp (λz=>(BL z)) (λz=>(odt (BL z))))) (λz=>(odt (BL z))));refine sx_skip (qx_seq (sx_region (AV X X (yb X (yl X X (M.cell 4 X X) (yb X (ya X (GE X X X (by first|omega|(simp only [PF];omega)|(simp only [MD];omega)|(simp only [GA];omega))) (AV X X (E7 (cs':=[str s,AC (((s.length-r.length)+(sgnN r):Nat):Int),.int .u8 0,.int .u8 0,AC 0,.bool false,str [],str [],.slice none 0 0,str (r.take (sgnN r)),AC ((s.length-r.length:Nat):Int),.bool false,AC x.e,AC (x.wh:Int)]) M 4 (wn_none X) X X X X X X X GI (CO X) X λw24 M=>sxl_nil (qx_block_normal (qx_ret0 (Or.inr X) X ?_)))))))))));exact ⟨X,by rw [KK hr,T4 h48p hb h120 h138 h156p h105];exact M.blk 4 rfl,M.fr⟩
           refine AI (d:=98) (b:=((!(B7 (r.take (sgnN r))).isSome)&&(!decide ((r.take (sgnN r))=[40])))) X (λh98=>?_) (λh98=>?_)
           ·iterate 4 refine yd X (yp X) ?_
            exact ym X X (M.cell 4 X X) (yd X (GT X X X) (yb X (k98 _ _ M ⟨X,X,(by rw [h98];rfl),trivial⟩)))
           ·iterate 6 refine yo X ?_
            exact yb X (k98 _ _ M ⟨X,X,(by rw [h98];rfl),trivial⟩)
          refine AI (d:=90) (b:=(!(B7 (r.take (sgnN r))).isSome)) X (λh90=>?_) (λh90=>?_)
          ·iterate 4 refine yd X (yp X) ?_
           exact ym X X (M.cell 4 X X) (yd X (GT X X X) (yb X (k90 _ _ M ⟨X,X,(by rw [h90];rfl),trivial⟩)))
          ·iterate 6 refine yo X ?_
           exact yb X (k90 _ _ M ⟨X,X,(by rw [h90];rfl),trivial⟩)
         refine EH 13 (λw'=>Mem w (λk=>k=gx) [As.blk g7 174 [.int .u8 (((B7 (r.take (min 2 r.length))).getD (0,0)).1.toNat:Int),AC ((((B7 (r.take (min 2 r.length))).getD (0,0)).2:Nat):Int)],As.mp g56 ES,As.blk gx 168 [str s,AC ((s.length-r.length:Nat):Int),.int .u8 0,.int .u8 0,AC 0,.bool false,str [],str [],.slice none 0 0,str (r.take (sgnN r)),AC ((s.length-r.length:Nat):Int),.bool false,AC x.e,AC (x.wh:Int)]] w') CH ?_;have M:=M.drew;refine oc 1 13 X X M (oc 2 13 X X M (oc 3 13 X X M (oc 4 13 X X M (ol 5 13 X X X M (λ_ M=>(M.cell 2 X X)) (GQ (rs:=[0,10]) (by kernel_rfl) (by simp) λiz hiz=>?_)))));simp only [List.mem_cons,List.not_mem_nil,or_false] at hiz
         rcases hiz with rfl|rfl
         ·refine JR (some 79) X (wn_none X) X X (AG X X call87) (IA _) ?_;rintro _ w25 ⟨g79,rfl,hMw25,hgw25,hfw25⟩;refine ⟨_,X,λ_=>M.step hfw25,?_⟩;have M:=M.push hfw25 (As.mp g79 ES) hMw25 (MN hgw25 hMw25.lt);refine GQ (rs:=[6,10]) (by kernel_rfl) (by simp) λiz hiz=>?_
          simp only [List.mem_cons,List.not_mem_nil,or_false] at hiz
          rcases hiz with rfl|rfl
          ·refine EA (some 85) X (wn_none X) X X (eF (DM X X X underlying176 underlying9 C1 (M.mp 0 X) (EK _) (HI _))) ?_;rintro _ _ ⟨rfl,rfl⟩;refine ⟨λ_=>(M.drop 1),oc 7 13 X X (M.drop 1) (oc 8 13 X X (M.drop 1) (oc 9 13 X X (M.drop 1) (B2 10 (some 9) (by kernel_rfl) X (wn_none X) X X (λρ hρ=>C7 174 X _ [.int .u8 0,AC 0] C1 X) ?_)))⟩;rintro _ w26 ⟨g9,rfl,hg9,hq9,hb9,hfw26⟩;refine ⟨λ_=>(M.drop 1).step hfw26,?_⟩;have M:=M.push hfw26 _ hb9 (DO hg9 hq9)
           replace M:Mem w (λk=>k=gx) (As.blk g9 174 [.int .u8 0,AC 0]::_) w26:=M
           refine B2 11 none (by kernel_rfl) X (wn_none X) X X (λρ hρ=>BO 174 _ _ X g9 0 174 _ ([.int .u8 (((B7 (r.take (sgnN r))).getD (0,0)).1.toNat:Int),AC ((((B7 (r.take (sgnN r))).getD (0,0)).2:Nat):Int)]) (hρ _ _ X) (hρ _ _ X) (M.blk 0 X) DL (HX X) (CL X)) ?_;rintro _ w27 ⟨rfl,hbw27,hfw27⟩
           replace M:Mem w (λk=>k=gx) (List.set _ 0 (As.blk g9 174 [.int .u8 (((B7 (r.take (sgnN r))).getD (0,0)).1.toNat:Int),AC ((((B7 (r.take (sgnN r))).getD (0,0)).2:Nat):Int)])) w27:=M.putB 0 rfl hbw27 hfw27
           exact ⟨λ_=>M.drop 2,oc 12 13 X X (M.drop 2) (kT (by kernel_rfl) (kr11 g9 g79 _ _ M ⟨X,X,X,trivial⟩))⟩
          ·refine EA (some 9) X (wn_none X) X X (λρ hρ=>C7 174 X _ [.int .u8 0,AC 0] C1 X) ?_;rintro _ w28 ⟨g9,rfl,hg9,hq9,hb9,hfw28⟩;refine ⟨λ_=>(M.drop 1).step hfw28,?_⟩;have M:=M.push hfw28 _ hb9 (DO hg9 hq9)
           replace M:Mem w (λk=>k=gx) (As.blk g9 174 [.int .u8 0,AC 0]::_) w28:=M
           refine DC 6 (by kernel_rfl) X (wn_none X) X X (DM X X X underlying176 underlying9 C1 (M.mp 1 X) (EK _) (HI _)) (M.drop 2) (oc 7 13 X X (M.drop 2) (oc 8 13 X X (M.drop 2) (oc 9 13 X X (M.drop 2) (B2 11 none (by kernel_rfl) X (wn_none X) X X (λρ hρ=>BO 174 _ _ X g9 0 174 _ ([.int .u8 (((B7 (r.take (sgnN r))).getD (0,0)).1.toNat:Int),AC ((((B7 (r.take (sgnN r))).getD (0,0)).2:Nat):Int)]) (hρ _ _ X) (hρ _ _ X) (M.blk 0 X) DL (HX X) (CL X)) ?_))));rintro _ w29 ⟨rfl,hbw29,hfw29⟩
           replace M:Mem w (λk=>k=gx) (List.set _ 0 (As.blk g9 174 [.int .u8 (((B7 (r.take (sgnN r))).getD (0,0)).1.toNat:Int),AC ((((B7 (r.take (sgnN r))).getD (0,0)).2:Nat):Int)])) w29:=M.putB 0 rfl hbw29 hfw29
           exact ⟨λ_=>M.drop 2,oc 12 13 X X (M.drop 2) (kT (by kernel_rfl) (kr11 g9 g79 _ _ M ⟨X,X,X,trivial⟩))⟩
         ·refine EA (some 9) X (wn_none X) X X (λρ hρ=>C7 174 X _ [.int .u8 0,AC 0] C1 X) ?_;rintro _ w30 ⟨g9,rfl,hg9,hq9,hb9,hfw30⟩;refine ⟨λ_=>M.step hfw30,?_⟩;have M:=M.push hfw30 _ hb9 (DO hg9 hq9)
          replace M:Mem w (λk=>k=gx) (As.blk g9 174 [.int .u8 0,AC 0]::_) w30:=M
          refine BQ 0 (some 79) (by kernel_rfl) X (wn_none X) X X (AG X X call87) (IA _) ?_;rintro _ w31 ⟨g79,rfl,hMw31,hgw31,hfw31⟩;refine ⟨_,X,λ_=>(M.drop 1).step hfw31,?_⟩;have M:=M.push hfw31 (As.mp g79 ES) hMw31 (MN hgw31 hMw31.lt);refine DC 6 (by kernel_rfl) X (wn_none X) X X (DM X X X underlying176 underlying9 C1 (M.mp 0 X) (EK _) (HI _)) (M.drop 2) (oc 7 13 X X (M.drop 2) (oc 8 13 X X (M.drop 2) (oc 9 13 X X (M.drop 2) (B2 11 none (by kernel_rfl) X (wn_none X) X X (λρ hρ=>BO 174 _ _ X g9 0 174 _ ([.int .u8 (((B7 (r.take (sgnN r))).getD (0,0)).1.toNat:Int),AC ((((B7 (r.take (sgnN r))).getD (0,0)).2:Nat):Int)]) (hρ _ _ X) (hρ _ _ X) (M.blk 1 X) DL (HX X) (CL X)) ?_))));rintro _ w32 ⟨rfl,hbw32,hfw32⟩
          replace M:Mem w (λk=>k=gx) (List.set _ 1 (As.blk g9 174 [.int .u8 (((B7 (r.take (sgnN r))).getD (0,0)).1.toNat:Int),AC ((((B7 (r.take (sgnN r))).getD (0,0)).2:Nat):Int)])) w32:=M.putB 1 rfl hbw32 hfw32
          exact ⟨λ_=>M.drop 2,oc 12 13 X X (M.drop 2) (kT (by kernel_rfl) (kr11 g9 g79 _ _ (M.pk [1,0,2,3,4]) ⟨X,X,X,trivial⟩))⟩
        refine AF (b:=((B7 (r.take (min 2 r.length))).isSome&&(decide (1<(r.length:Int))))) X (λh70=>?_) (λh70=>?_)
        ·exact sx_region (yb X (sxl_nil (k70 _ _ M ⟨X,X,(by unfold sgnN;rw [h70];rfl),trivial⟩)))
        ·exact sx_skip (k70 _ _ M ⟨X,X,(by unfold sgnN;rw [h70];rfl),trivial⟩)
       refine AI (d:=66) (b:=(B7 (r.take (min 2 r.length))).isSome) X (λh66=>?_) (λh66=>?_)
       ·exact yd X (yp X) (yd X (FU X X underlying9) (yd X (GU X X X) (yb X (k66 _ _ M ⟨X,X,X,(by rw [h66];rfl),trivial⟩))))
       ·exact yo X (yo X (yo X (yb X (k66 _ _ M ⟨X,X,X,(by rw [h66];rfl),trivial⟩))))
      refine EH 13 (λw'=>Mem w (λk=>k=gx) [As.blk gx 168 [str s,AC ((s.length-r.length:Nat):Int),.int .u8 0,.int .u8 0,AC 0,.bool false,str [],str [],.slice none 0 0,str [],AC ((s.length-r.length:Nat):Int),.bool false,AC x.e,AC (x.wh:Int)]] w') CH ?_;have M:=M.drew;refine oc 1 13 X X M (oc 2 13 X X M (oa 3 13 X X M (λ_ M=>FU X X underlying9) (oa 4 13 X X M (λ_ M=>vB X X X) (oa 5 13 X X M (λ_ M=>cD X X X underlying9 C2) (GQ (rs:=[0,10]) (by kernel_rfl) (by simp) λiz hiz=>?_)))));simp only [List.mem_cons,List.not_mem_nil,or_false] at hiz
      rcases hiz with rfl|rfl
      ·refine JR (some 56) X (wn_none X) X X (AG X X call87) (IA _) ?_;rintro _ w33 ⟨g56,rfl,hMw33,hgw33,hfw33⟩;refine ⟨_,X,λ_=>M.step hfw33,?_⟩;have M:=M.push hfw33 (As.mp g56 ES) hMw33 (MN hgw33 hMw33.lt);refine GQ (rs:=[6,10]) (by kernel_rfl) (by simp) λiz hiz=>?_
       simp only [List.mem_cons,List.not_mem_nil,or_false] at hiz
       rcases hiz with rfl|rfl
       ·refine EA (some 62) X (wn_none X) X X (eF (DM X X X underlying176 underlying9 C1 (M.mp 0 X) (EK _) (HI _))) ?_;rintro _ _ ⟨rfl,rfl⟩;refine ⟨λ_=>(M.drop 1),oc 7 13 X X (M.drop 1) (oc 8 13 X X (M.drop 1) (oc 9 13 X X (M.drop 1) (B2 10 (some 7) (by kernel_rfl) X (wn_none X) X X (λρ hρ=>C7 174 X _ [.int .u8 0,AC 0] C1 X) ?_)))⟩;rintro _ w34 ⟨g7,rfl,hg7,hq7,hb7,hfw34⟩;refine ⟨λ_=>(M.drop 1).step hfw34,?_⟩;have M:=M.push hfw34 _ hb7 (DO hg7 hq7)
        replace M:Mem w (λk=>k=gx) (As.blk g7 174 [.int .u8 0,AC 0]::_) w34:=M
        refine B2 11 none (by kernel_rfl) X (wn_none X) X X (λρ hρ=>BO 174 _ _ X g7 0 174 _ ([.int .u8 (((B7 (r.take (min 2 r.length))).getD (0,0)).1.toNat:Int),AC ((((B7 (r.take (min 2 r.length))).getD (0,0)).2:Nat):Int)]) (hρ _ _ X) (hρ _ _ X) (M.blk 0 X) DL (HX X) (CL X)) ?_;rintro _ w35 ⟨rfl,hbw35,hfw35⟩
        replace M:Mem w (λk=>k=gx) (List.set _ 0 (As.blk g7 174 [.int .u8 (((B7 (r.take (min 2 r.length))).getD (0,0)).1.toNat:Int),AC ((((B7 (r.take (min 2 r.length))).getD (0,0)).2:Nat):Int)])) w35:=M.putB 0 rfl hbw35 hfw35
        exact ⟨λ_=>M.drop 2,oc 12 13 X X (M.drop 2) (kT (by kernel_rfl) (kr7 g7 g56 _ _ M ⟨X,X,X,X,trivial⟩))⟩
       ·refine EA (some 7) X (wn_none X) X X (λρ hρ=>C7 174 X _ [.int .u8 0,AC 0] C1 X) ?_;rintro _ w36 ⟨g7,rfl,hg7,hq7,hb7,hfw36⟩;refine ⟨λ_=>(M.drop 1).step hfw36,?_⟩;have M:=M.push hfw36 _ hb7 (DO hg7 hq7)
        replace M:Mem w (λk=>k=gx) (As.blk g7 174 [.int .u8 0,AC 0]::_) w36:=M
        refine DC 6 (by kernel_rfl) X (wn_none X) X X (DM X X X underlying176 underlying9 C1 (M.mp 1 X) (EK _) (HI _)) (M.drop 2) (oc 7 13 X X (M.drop 2) (oc 8 13 X X (M.drop 2) (oc 9 13 X X (M.drop 2) (B2 11 none (by kernel_rfl) X (wn_none X) X X (λρ hρ=>BO 174 _ _ X g7 0 174 _ ([.int .u8 (((B7 (r.take (min 2 r.length))).getD (0,0)).1.toNat:Int),AC ((((B7 (r.take (min 2 r.length))).getD (0,0)).2:Nat):Int)]) (hρ _ _ X) (hρ _ _ X) (M.blk 0 X) DL (HX X) (CL X)) ?_))));rintro _ w37 ⟨rfl,hbw37,hfw37⟩
        replace M:Mem w (λk=>k=gx) (List.set _ 0 (As.blk g7 174 [.int .u8 (((B7 (r.take (min 2 r.length))).getD (0,0)).1.toNat:Int),AC ((((B7 (r.take (min 2 r.length))).getD (0,0)).2:Nat):Int)])) w37:=M.putB 0 rfl hbw37 hfw37
        exact ⟨λ_=>M.drop 2,oc 12 13 X X (M.drop 2) (kT (by kernel_rfl) (kr7 g7 g56 _ _ M ⟨X,X,X,X,trivial⟩))⟩
      ·refine EA (some 7) X (wn_none X) X X (λρ hρ=>C7 174 X _ [.int .u8 0,AC 0] C1 X) ?_;rintro _ w38 ⟨g7,rfl,hg7,hq7,hb7,hfw38⟩;refine ⟨λ_=>M.step hfw38,?_⟩;have M:=M.push hfw38 _ hb7 (DO hg7 hq7)
       replace M:Mem w (λk=>k=gx) (As.blk g7 174 [.int .u8 0,AC 0]::_) w38:=M
       refine BQ 0 (some 56) (by kernel_rfl) X (wn_none X) X X (AG X X call87) (IA _) ?_;rintro _ w39 ⟨g56,rfl,hMw39,hgw39,hfw39⟩;refine ⟨_,X,λ_=>(M.drop 1).step hfw39,?_⟩;have M:=M.push hfw39 (As.mp g56 ES) hMw39 (MN hgw39 hMw39.lt);refine DC 6 (by kernel_rfl) X (wn_none X) X X (DM X X X underlying176 underlying9 C1 (M.mp 0 X) (EK _) (HI _)) (M.drop 2) (oc 7 13 X X (M.drop 2) (oc 8 13 X X (M.drop 2) (oc 9 13 X X (M.drop 2) (B2 11 none (by kernel_rfl) X (wn_none X) X X (λρ hρ=>BO 174 _ _ X g7 0 174 _ ([.int .u8 (((B7 (r.take (min 2 r.length))).getD (0,0)).1.toNat:Int),AC ((((B7 (r.take (min 2 r.length))).getD (0,0)).2:Nat):Int)]) (hρ _ _ X) (hρ _ _ X) (M.blk 1 X) DL (HX X) (CL X)) ?_))));rintro _ w40 ⟨rfl,hbw40,hfw40⟩
       replace M:Mem w (λk=>k=gx) (List.set _ 1 (As.blk g7 174 [.int .u8 (((B7 (r.take (min 2 r.length))).getD (0,0)).1.toNat:Int),AC ((((B7 (r.take (min 2 r.length))).getD (0,0)).2:Nat):Int)])) w40:=M.putB 1 rfl hbw40 hfw40
       exact ⟨λ_=>M.drop 2,oc 12 13 X X (M.drop 2) (kT (by kernel_rfl) (kr7 g7 g56 _ _ (M.pk [1,0,2]) ⟨X,X,X,X,trivial⟩))⟩
 refine AI (d:=42) (b:=(decide (r=[]))) X (λh42=>?_) (λh42=>?_)
 ·iterate 5 refine yo X ?_
  exact yb X (k42 _ _ M ⟨X,X,(by rw [h42];rfl),trivial⟩)
 ·exact yd X (yp X) (yd X (yp X) (yd X (yp X) (ym X X (M.cell 0 X X) (yd X (DX X X X) (yb X (k42 _ _ M ⟨X,X,(by rw [h42];rfl),trivial⟩))))))
end
section
def Xn.AtL (t:TypeId) (w:World):Xn→Option Addr→List Nat→Prop
 | .un _ a,A,F=>∃g B F',A=some ⟨g,0,none⟩∧F=g::F'∧Blk w g t (a.cells B)∧Xn.AtL t w a B F'
 | .bin _ a b,A,F=>∃g B C F' F'',A=some ⟨g,0,none⟩∧F=g::(F'++F'')∧Blk w g t (a.cells B++b.cells C)∧Xn.AtL t w a B F'∧Xn.AtL t w b C F''
 | _,A,F=>A=none∧F=[]
theorem Xn.AtL.keep {t:TypeId} {w w':World}:∀{n:Xn} {A:Option Addr} {F:List Nat},(∀g∈F,g<w.heap.size→w'.heap[g]?=w.heap[g]?)→n.AtL t w A F→n.AtL t w' A F
 | .zero,_,_,_,h=>h
 | .lit _,_,_,_,h=>h
 | .var _,_,_,_,h=>h
 | .un _ _,_,_,hk,⟨g,B,F',h1,h2,h3,h4⟩=>by
  subst h2;exact ⟨g,B,F',h1,X,(hk g (by simp) h3.lt).trans h3,h4.keep (λk hk'=>hk k (by simp [hk']))⟩
 | .bin _ _ _,_,_,hk,⟨g,B,C,F',F'',h1,h2,h3,h4,h5⟩=>by
  subst h2;exact ⟨g,B,C,F',F'',h1,X,(hk g (by simp) h3.lt).trans h3,h4.keep (λk hk'=>hk k (by simp [hk'])),h5.keep (λk hk'=>hk k (by simp [hk']))⟩
theorem Xn.AtL.leaf {t:TypeId} {w:World} {n:Xn} (h:n.leaf=true):n.AtL t w none []:=by
 cases n<;>first|exact ⟨rfl,rfl⟩|cases h
def As.xn (t:TypeId) (n:Xn) (A:Option Addr) (F:List Nat):As:=⟨F,λw=>n.AtL t w A F,λh hb=>hb.keep h⟩
section
variable {w0 w w':World} {S:Nat→Prop} {L:List As}
theorem Mem.putPush (M:Mem w0 S L w) (i:Nat) {g ty:Nat} {cs cs':List Value} (hi:L[i]?=some (As.blk g ty cs)) (hb:Blk w' g ty cs') (hf:Fr (λk=>k=g) w w') (a:As) (hok:a.ok w') (hfp:∀k∈a.fp,w.heap.size≤k∧k<w'.heap.size):Mem w0 S (a::L.set i (As.blk g ty cs')) w':=by
 have M':=M.putB i hi hb hf
 have old:∀(j:Nat) (b:As),(L.set i (As.blk g ty cs'))[j]?=some b→∀k∈b.fp,k<w.heap.size:=by
  intro j b hj k hk
  by_cases hji:j=i
  ·subst hji;rw [List.getElem?_set_self (List.getElem?_eq_some_iff.1 hi).1] at hj
   obtain rfl:=Option.some.inj hj;exact (M.lt j _ hi k (by simpa [As.blk] using hk)).1
  ·rw [List.getElem?_set_ne (Ne.symm hji)] at hj
   exact (M.lt j b hj k hk).1
 refine ⟨M'.fr,?_,?_,?_⟩
 ·intro j b hj
  cases j with
  | zero=>simp only [List.getElem?_cons_zero,Option.some.injEq] at hj;subst hj;exact hok
  | succ j=>exact M'.ok j b (by simpa using hj)
 ·intro j b hj k hk
  cases j with
  | zero=>
   simp only [List.getElem?_cons_zero,Option.some.injEq] at hj;subst hj
   obtain ⟨h1,h2⟩:=hfp k hk;exact ⟨h2,.inl (Nat.le_trans M.fr.size h1)⟩
  | succ j=>exact M'.lt j b (by simpa using hj) k hk
 ·intro j l b c hj hl hne k hk hk'
  cases j with
  | zero=>
   cases l with
   | zero=>exact hne rfl
   | succ l=>
    simp only [List.getElem?_cons_zero,Option.some.injEq] at hj;subst hj
    have h1:=(hfp k hk).1;have h2:=old l c (by simpa using hl) k hk';omega
  | succ j=>
   cases l with
   | zero=>
    simp only [List.getElem?_cons_zero,Option.some.injEq] at hl;subst hl
    have h1:=(hfp k hk').1;have h2:=old j b (by simpa using hj) k hk;omega
   | succ l=>exact M'.apart j l b c (by simpa using hj) (by simpa using hl) AA k hk hk'
theorem Mem.newOf {gx ty:Nat} {cs:List Value} (M:Mem w0 (λk=>k=gx) L w) (i j:Nat) {a:As} (hi:L[i]?=some a) (hj:L[j]?=some (As.blk gx ty cs)) (hne:i≠j):∀g∈a.fp,w0.heap.size≤g∧g<w.heap.size:=λg hg=>by
 obtain ⟨h1,h2⟩:=M.lt i a hi g hg;refine ⟨?_,h1⟩;rcases h2 with h2|h2
 ·exact h2
 ·exact absurd (by rw [h2];simp [As.blk]:g∈(As.blk gx ty cs).fp) (M.apart i j a _ hi hj hne g hg)
theorem Mem.new0 (M:Mem w0 AR L w) (i:Nat) {a:As} (hi:L[i]?=some a):∀g∈a.fp,w0.heap.size≤g∧g<w.heap.size:=λg hg=>by
 obtain ⟨h1,h2⟩:=M.lt i a hi g hg;exact ⟨h2.elim id (λhh=>hh.elim),h1⟩
theorem Mem.un {t:TypeId} {gx ty g:Nat} {cs:List Value} {op:UInt8} {a:Xn} {B:Option Addr} {F:List Nat} (M:Mem w0 (λk=>k=gx) (As.blk g t (a.cells B)::As.xn t a B F::As.blk gx ty cs::L) w):(Xn.un op a).AtL t w (some ⟨g,0,none⟩) (g::F)∧∀k∈g::F,w0.heap.size≤k∧k<w.heap.size:=by
 refine ⟨⟨g,B,F,X,X,M.blk 0 X,M.ok 1 _ X⟩,λk hk=>?_⟩;rcases List.mem_cons.1 hk with rfl|hk
 ·exact M.newOf 0 2 X X B3 k (by simp [As.blk])
 ·exact M.newOf 1 2 X X B3 k hk
end
section
variable (s:List UInt8) (fr:Nat→Lx→Xn × Lx)
def LN (op:UInt8) (line:Nat) (x:Lx):Xn × Lx:=(.un op (fr line (BP s x)).1,(fr line (BP s x)).2)
def PT (x:Lx):Xn × Lx:=(x.nd,BP s (if (x.nd.op.toNat:Int)=0 then x.fail 4 x.tat else x))
def GD (x:Lx):Xn × Lx:=
 ((fr 1 (BP s x)).1,BP s (if ¬(fr 1 (BP s x)).2.say=[41] then (fr 1 (BP s x)).2.fail 4 (fr 1 (BP s x)).2.tat else (fr 1 (BP s x)).2))
def DT (line:Nat) (x:Lx):Xn × Lx:=
 if x.say=[110,111,116]∧line≤3 then LN s fr 3 3 x
 else if x.say=[45] then LN s fr 4 7 x
 else if x.say=[40] then GD s fr x
 else PT s x
def RF (k:List UInt8):Nat:=((B7 k).getD (0,0)).2
def MF (x:Lx):Xn × Lx:=
 let r:=fr (RF x.say+1) (BP s x)
 (r.1,if RF x.say=4∧RF r.2.say=4 then r.2.fail 4 r.2.tat else r.2)
def GM : Nat→Nat→Xn→Lx→Xn × Lx
 | 0,_,n,x=>(n,x)
 | k+1,line,n,x=>
  if ¬x.e=0 then (n,x) else
  if (B7 x.say).isNone=true∨RF x.say<line then (n,x) else
  GM k line (.bin ((B7 x.say).getD (0,0)).1 n (MF s fr x).1) (MF s fr x).2
end
def D1 (s:List UInt8):Nat→Nat→Lx→Xn × Lx
 | 0,_,x=>(.zero,x)
 | f+1,line,x=>if ¬x.e=0 then (.zero,x) else
  GM s (D1 s f) f line (DT s (D1 s f) line x).1 (DT s (D1 s f) line x).2
def CQ (s:List UInt8):Xn × Nat × Int:=
 if 256<s.length then (.zero,0,3) else
 let r:=D1 s 258 1 (BP s lx0)
 let y:=if r.2.fin=false then r.2.fail 4 r.2.tat else r.2
 if y.e=0 then (r.1,0,0) else (.zero,y.wh,y.e)
structure LxI (s:List UInt8) (x:Lx):Prop where
 at_:x.at_≤s.length
 tat:x.tat≤x.at_
 adv:¬x.say=[]→x.tat<x.at_
 leaf:x.nd.leaf=true
def lxM (s:List UInt8) (x:Lx):Nat:=if x.e=0 then s.length+1-x.tat else 0
theorem EF (x:Lx) (e:Int) (p:Nat):(x.fail e p).tat=x.tat:=by unfold Lx.fail;split<;>rfl
theorem E6 (x:Lx) (e:Int) (p:Nat):(x.fail e p).nd=x.nd:=by unfold Lx.fail;split<;>rfl
theorem IC (x:Lx) (e:Int) (p:Nat):(x.fail e p).say=x.say:=by unfold Lx.fail;split<;>rfl
theorem gY {x:Lx} {e:Int} {p:Nat} (h:¬e=0):¬(x.fail e p).e=0:=by unfold Lx.fail;split<;>simp_all
theorem LxI.fail {s:List UInt8} {x:Lx} (h:LxI s x) (e:Int) (p:Nat):LxI s (x.fail e p):=⟨by rw [GA];exact h.at_,by rw [GA,EF];exact h.tat,by rw [GA,EF,IC];exact h.adv,by rw [E6];exact h.leaf⟩
theorem PI {s:List UInt8} {x:Lx} {e:Int} {p:Nat} (h:¬e=0):lxM s (x.fail e p)=0:=by unfold lxM;rw [if_neg (gY h)]
theorem mB (t:List UInt8) (x:Lx):(NO t x).tat=x.tat∧(NO t x).say=x.say∧(x.nd.leaf=true→(NO t x).nd.leaf=true):=by
 unfold NO
 split
 ·exact ⟨EF _ _ _,IC _ _ _,λh=>by rw [E6];exact h⟩
 ·split
  ·exact ⟨X,X,λ_=>X⟩
  ·exact ⟨EF _ _ _,IC _ _ _,λ_=>X⟩
theorem fA (t:List UInt8) (x:Lx):(IK t x).tat=x.tat∧(x.nd.leaf=true→(IK t x).nd.leaf=true):=by
 unfold IK
 repeat' split
 all_goals first
  | exact ⟨rfl,λ_=>rfl⟩
  | exact ⟨rfl,λh=>h⟩
  | exact ⟨EF _ _ _,λh=>by rw [E6];exact h⟩
theorem fJ (l:List UInt8) (x:Lx):(I9 l x).tat=x.tat∧(I9 l x).say=x.say∧(x.nd.leaf=true→(I9 l x).nd.leaf=true)∧x.at_≤(I9 l x).at_∧(I9 l x).at_≤x.at_+l.length:=by
 unfold I9
 split
 ·split
  ·exact ⟨X,X,λ_=>X,Nat.le_add_right _ _,by simp only;omega⟩
  ·exact ⟨EF _ _ _,IC _ _ _,λh=>by rw [E6];exact h,by rw [GA];exact Nat.le_refl _,by rw [GA];omega⟩
 ·exact ⟨EF _ _ _,IC _ _ _,λh=>by rw [E6];exact h,by rw [GA];exact Nat.le_refl _,by rw [GA];omega⟩
theorem i8 {b:UInt8} (h:G0 b=true):b.toNat<128:=by
 have h1:=odt (BR h).2;have h2:b.toNat≤(b ||| 32).toNat:=by rw [UInt8.toNat_or];exact Nat.left_le_or
 omega
theorem iB {b:UInt8} (h:G0 b=true):EY b=true:=by unfold EY;rw [h];rfl
theorem dI {s r:List UInt8} {x:Lx} (hr:r.length≤s.length):LxI s (IB s r x)∧(IB s r x).tat=s.length-r.length:=by
 by_cases h0:r=[]∨¬x.e=0
 ·rw [Q8 h0];exact ⟨⟨Nat.sub_le _ _,Nat.le_refl _,λh=>absurd X h,X⟩,X⟩
 ·have h:¬r=[]∧x.e=0:=⟨λz=>h0 (.inl z),Classical.byContradiction λz=>h0 (.inr z)⟩;have hn:0<r.length:=List.length_pos_iff.2 h.1;obtain ⟨b,hb⟩:=BM (l:=r) (i:=0) hn
  by_cases h1:DV b=true
  ·rw [VA h hb h1];have hsp:=P6 DV r;obtain ⟨e1,e2,e3⟩:=mB (r.take (spanP DV r)) ⟨s.length-r.length,.zero,[],s.length-r.length,false,x.e,x.wh⟩;have e4:=PF (r.take (spanP DV r)) ⟨s.length-r.length,.zero,[],s.length-r.length,false,x.e,x.wh⟩
   simp only at e1 e2 e4
   refine ⟨⟨?_,?_,?_,e3 X⟩,e1⟩
   ·simp only [e4];omega
   ·simp only [e4,e1];omega
   ·simp only [e2];exact λh=>absurd trivial h
  ·have h1:=Bool.eq_false_iff.2 h1
   by_cases h2:G0 b=true
   ·rw [T0 h hb h1 h2];have hsp:=P6 EY r;have hpo:=V6 (is:=EY) hb (i8 h2) (iB h2);obtain ⟨e1,e3⟩:=fA (r.take (spanP EY r)) ⟨s.length-r.length,.zero,[],s.length-r.length,false,x.e,x.wh⟩;have e4:=MD (r.take (spanP EY r)) ⟨s.length-r.length,.zero,[],s.length-r.length,false,x.e,x.wh⟩
    simp only at e1 e4
    refine ⟨⟨?_,?_,?_,e3 X⟩,e1⟩
    ·simp only [e4];omega
    ·simp only [e4,e1];omega
    ·simp only [e4,e1];omega
   ·have h2:=Bool.eq_false_iff.2 h2
    by_cases h3:(b.toNat:Int)=39
    ·rw [T3 h hb h1 h2 h3];obtain ⟨e1,e2,e3,e4,e5⟩:=fJ r ⟨s.length-r.length,.zero,[],s.length-r.length,false,x.e,x.wh⟩
     simp only at e1 e2 e4 e5
     refine ⟨⟨by omega,by omega,?_,e3 rfl⟩,e1⟩;rw [e2];exact λh=>absurd rfl h
    ·have hsg:=d9 h.1;have hs1:0<sgnN r:=by unfold sgnN;split<;>omega
     by_cases h4:(((!(B7 (r.take (sgnN r))).isSome)&&(!decide ((r.take (sgnN r))=[40])))&&(!decide ((r.take (sgnN r))=[41])))=true
     ·rw [VB h hb h1 h2 h3 h4];refine ⟨⟨?_,?_,?_,?_⟩,?_⟩
      ·simp only [GA];omega
      ·simp only [GA,EF];omega
      ·simp only [GA,EF];omega
      ·simp only [E6];rfl
      ·simp only [EF]
     ·rw [T4 h hb h1 h2 h3 (Bool.eq_false_iff.2 h4)];exact ⟨⟨by simp only;omega,by simp only;omega,λ_=>by simp only;omega,rfl⟩,X⟩
theorem ED {s:List UInt8} {x:Lx}:LxI s (BP s x):=(dI (KQ _ _)).1
theorem gS {s:List UInt8} {x:Lx} (h:x.at_≤s.length):x.at_≤(BP s x).tat:=by
 have h1:(BP s x).tat=_:=(dI (KQ s x.at_)).2;have h2:(OK (s.drop x.at_)).length≤s.length-x.at_:=Nat.le_trans (K7 _ _) (by rw [List.length_drop];exact Nat.le_refl _);have h3:=KQ s x.at_;omega
theorem YZ {s:List UInt8} {x:Lx} (h:LxI s x):lxM s (BP s x)≤s.length+1-x.at_:=by
 have:=gS h.at_
 unfold lxM
 split<;>omega
theorem KM {s:List UInt8} {x:Lx} (h:LxI s x) (he:x.e=0) (hs:¬x.say=[]):lxM s (BP s x)<lxM s x:=by
 have h1:=YZ h;have h2:=h.adv hs;have h3:=h.at_;have h4:lxM s x=s.length+1-x.tat:=by unfold lxM;rw [if_pos he]
 omega
theorem wS {s:List UInt8} {x:Lx} (h:LxI s x) (he:x.e=0):lxM s (BP s x)≤lxM s x:=by
 have h1:=YZ h;have h2:=h.tat;have h4:lxM s x=s.length+1-x.tat:=by unfold lxM;rw [if_pos he]
 omega
theorem sJ {s:List UInt8} {x:Lx} (h:¬x.e=0):¬(BP s x).e=0:=by
 unfold BP;rw [Q8 (.inr h)];exact h
theorem ND {s:List UInt8} {x:Lx} (h:LxI s x):lxM s (BP s x)≤lxM s x:=by
 by_cases he:x.e=0
 ·exact wS h he
 ·unfold lxM;rw [if_neg he,if_neg (sJ he)];exact Nat.le_refl _
structure FrI (s:List UInt8) (f:Nat) (fr:Nat→Lx→Xn × Lx):Prop where
 I:∀(line:Nat) (x:Lx),LxI s x→lxM s x≤f→LxI s (fr line x).2
 m:∀(line:Nat) (x:Lx),LxI s x→lxM s x≤f→lxM s (fr line x).2≤lxM s x
section
variable {s:List UInt8} {f:Nat} {fr:Nat→Lx→Xn × Lx}
theorem S4 (h:FrI s f fr) {x:Lx} (hx:LxI s x) (he:x.e=0) (hs:¬x.say=[]) (hm:lxM s x≤f+1) (op:UInt8) (line:Nat):LxI s (LN s fr op line x).2∧lxM s (LN s fr op line x).2≤lxM s x:=by
 have h1:=KM hx he hs;exact ⟨h.I _ _ ED AA,Nat.le_trans (h.m _ _ ED AA) AA⟩
theorem pW {x:Lx} (hx:LxI s x):LxI s (PT s x).2∧lxM s (PT s x).2≤lxM s x:=by
 refine ⟨ED,?_⟩;unfold PT
 split
 ·exact Nat.le_trans (ND (hx.fail 4 x.tat)) (by rw [PI B3];exact Nat.zero_le _)
 ·exact ND hx
theorem UC (h:FrI s f fr) {x:Lx} (hx:LxI s x) (he:x.e=0) (hs:¬x.say=[]) (hm:lxM s x≤f+1):LxI s (GD s fr x).2∧lxM s (GD s fr x).2≤lxM s x:=by
 have h1:=KM hx he hs;have h2:=h.I 1 _ (ED (s:=s) (x:=x)) AA;have h3:=h.m 1 _ (ED (s:=s) (x:=x)) AA;refine ⟨ED,?_⟩;unfold GD
 simp only
 split
 ·exact Nat.le_trans (ND (h2.fail 4 _)) (by rw [PI B3];exact Nat.zero_le _)
 ·exact Nat.le_trans (ND h2) AA
theorem X2 (h:FrI s f fr) {x:Lx} (hx:LxI s x) (he:x.e=0) (hm:lxM s x≤f+1) (line:Nat):LxI s (DT s fr line x).2∧lxM s (DT s fr line x).2≤lxM s x:=by
 unfold DT
 split
 ·rename_i h1;exact S4 h hx he (by rw [h1.1];decide) hm _ _
 ·split
  ·rename_i h1;exact S4 h hx he (by rw [h1];decide) hm _ _
  ·split
   ·rename_i h1;exact UC h hx he (by rw [h1];decide) hm
   ·exact pW hx
theorem Y6 {x:Lx} (h:¬(B7 x.say).isNone=true):¬x.say=[]:=λe=>h (by rw [e];rfl)
theorem vR (h:FrI s f fr) {x:Lx} (hx:LxI s x) (he:x.e=0) (hs:¬x.say=[]) (hm:lxM s x≤f+1):LxI s (MF s fr x).2∧lxM s (MF s fr x).2<lxM s x:=by
 have h1:=KM hx he hs;have h2:=h.I (RF x.say+1) _ (ED (s:=s) (x:=x)) AA;have h3:=h.m (RF x.say+1) _ (ED (s:=s) (x:=x)) AA;unfold MF
 simp only
 split
 ·exact ⟨h2.fail _ _,by rw [PI B3];omega⟩
 ·exact ⟨h2,by omega⟩
theorem mU (h:FrI s f fr) (line:Nat):∀(k:Nat) (n:Xn) (x:Lx),LxI s x→lxM s x≤f+1→LxI s (GM s fr k line n x).2∧lxM s (GM s fr k line n x).2≤lxM s x
 | 0,_,_,hx,_=>⟨hx,Nat.le_refl _⟩
 | k+1,n,x,hx,hm=>by
  unfold GM
  split
  ·exact ⟨hx,Nat.le_refl _⟩
  ·rename_i he
   split
   ·exact ⟨hx,Nat.le_refl _⟩
   ·rename_i hs
    have he:x.e=0:=Classical.byContradiction he;obtain ⟨h1,h2⟩:=vR h hx he (Y6 λz=>hs (.inl z)) hm;obtain ⟨h3,h4⟩:=mU h line k (.bin ((B7 x.say).getD (0,0)).1 n (MF s fr x).1) _ h1 AA;exact ⟨h3,by omega⟩
end
theorem WZ (s:List UInt8):∀f:Nat,FrI s f (D1 s (f+1))
 | 0=>by
  have key:∀(line:Nat) (x:Lx),LxI s x→lxM s x≤0→(D1 s 1 line x).2=x:=λline x hx hm=>by
   have he:¬x.e=0:=λhe=>by
    unfold lxM at hm
    rw [if_pos he] at hm
    have:=hx.at_;have:=hx.tat
    omega
   unfold D1;rw [if_pos he]
  exact ⟨λl x hx hm=>by rw [key l x hx hm];exact hx,λl x hx hm=>by rw [key l x hx hm];exact Nat.le_refl _⟩
 | f+1=>by
  have ih:=WZ s f
  have key:∀(line:Nat) (x:Lx),LxI s x→lxM s x≤f+1→LxI s (D1 s (f+1+1) line x).2∧lxM s (D1 s (f+1+1) line x).2≤lxM s x:=λline x hx hm=>by
   unfold D1
   split
   ·exact ⟨hx,Nat.le_refl _⟩
   ·rename_i he
    have he:x.e=0:=Classical.byContradiction he;obtain ⟨h1,h2⟩:=X2 ih hx he hm line;obtain ⟨h3,h4⟩:=mU ih line (f+1) (DT s (D1 s (f+1)) line x).1 _ h1 AA;exact ⟨h3,by omega⟩
  exact ⟨λl x hx hm=>(key l x hx hm).1,λl x hx hm=>(key l x hx hm).2⟩
theorem rV (k:List UInt8):RF k≤6:=by
 have:∀(l:List (List UInt8 × (UInt8 × Nat))),(∀q∈l,q.2.2≤6)→((XU l k).getD (0,0)).2≤6:=by
  intro l
  induction l with
  | nil=>intro _;exact Nat.zero_le _
  | cons a l ih=>
   intro h;obtain ⟨a1,a2⟩:=a;unfold XU
   split
   ·exact h (a1,a2) (by simp)
   ·exact ih λq hq=>h q (by simp [hq])
 exact this signTab B3
end
end Go.Proofs.YtaheakjfkpkefaaGreatDoor
