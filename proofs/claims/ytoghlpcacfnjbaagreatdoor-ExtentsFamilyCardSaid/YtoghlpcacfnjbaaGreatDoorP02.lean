import Derived.Shelf.Strings.Trim
import Derived.Shelf.Small.Utf8
import Derived.Shelf.Small.Bits
import Derived.Shelf.Small.Strs
import Derived.Shelf.Utf8.RuneCount
import Derived.Shelf.Strconv.Atoi
import Derived.Shelf.Strconv.Itoa0
import Derived.Shelf.Strconv.Itoa1
import Derived.Shelf.LaysM
import Derived.Shelf.Strconv.Itoa2
import Derived.Shelf.Strconv.Itoa3
import Derived.Shelf.Strconv.AtoiErrFast
import Derived.Shelf.Strconv.ParseIntEmpty
import Derived.Shelf.Strconv.AtoiFail
import Derived.Shelf.Strconv.Clone
import Derived.Shelf.Strconv.SyntaxError
import Derived.Shelf.LaysC
import Derived.Shelf.Strconv.ToError
import Derived.Shelf.Strconv.Lower
import Derived.Shelf.Strconv.ParseUint10
import Derived.Shelf.Strconv.ParseUint10Empty
import Derived.Shelf.Strconv.ParseUint10Any
import Derived.Shelf.Strconv.ParseInt10
import Derived.Shelf.Strconv.AtoiLong
import Derived.Shelf.Strconv.AtoiInnerAll
import Derived.Shelf.Strconv.RangeError
import Derived.Shelf.Strconv.ToErrorRange
import Derived.Shelf.Strconv.AtoiAll
import Derived.Shelf.Strconv.ErrVarAll
import Derived.Shelf.Strconv.ParseUintEmpty
import Derived.Shelf.Strconv.ParseUint10b64
import Derived.Shelf.Strconv.ParseUint10b32
import Derived.Shelf.Strconv.ParseUint10b16
import Derived.Shelf.Strconv.ParseUint10b8
import Derived.Shelf.Strconv.ParseUint10At
import Derived.Shelf.Strconv.ParseInt10At64
import Derived.Shelf.Strconv.ParseInt10At32
import Derived.Shelf.Strconv.ParseInt10At16
import Derived.Shelf.Strconv.ParseInt10At8
import Derived.Shelf.Strconv.ParseInt10All
import Derived.Shelf.Strconv.ParseIntPublic10
import Derived.Shelf.Strconv.ErrVarParseInt
import Derived.Shelf.Strings.Search1
import Derived.Shelf.Strings.Search2
import Derived.Shelf.Strings.Search3
import Derived.Shelf.Strings.Count
import Derived.Shelf.Strings.Shaped
import Derived.Shelf.GgClosure.StringsIndexFunc
import Derived.Ground.GgwProg
import Derived.Shelf.GgClosure.StringsIndexFuncTop
import Derived.Shelf.Strings.Split
import Derived.Shelf.Unicode.Decode
import Derived.Shelf.Strings.Runes
import Derived.Shelf.Strings.RuneCount
import Derived.Shelf.Strings.AsciiSet
import Derived.Shelf.Bits.Mul64
import Derived.Shelf.Unicode.DecodeSlow
import Derived.Shelf.Unicode.DecodeAny
import Derived.Shelf.Unicode.DecodeLast
import Derived.Shelf.Strings.FuncGrows
import Derived.Shelf.Slices.Reverse
import Derived.Ground.Names2Prog
import Derived.Shelf.Slices.Clone
import Derived.Shelf.Slices.Cells
import Derived.Ground.SlgnProg
import Derived.Shelf.SlicesG.SearchI
import Derived.Shelf.SlicesE.Clone
import Derived.Lib.AtoiErrMem
import Derived.Recover
import Derived.Test.YtoghlpcacfnjbaaGreatDoorP01
set_option linter.all false
set_option maxRecDepth 100000
set_option maxHeartbeats 4000000
section
namespace Go.Proofs
open Go.Shelf
def Tryz.lays160_ren:Go.Shelf.Ren:=⟨λ|160=>213|232=>251|231=>250|227=>252|234=>254|233=>253|236=>256|235=>255|228=>283|271=>285|151=>249|197=>284|120=>311|152=>282|260=>310|137=>308|119=>309|224=>219|225=>218|217=>217|266=>257|n=>n,λ|9=>9|4=>4|3=>3|5=>5|117=>286|116=>285|0=>0|124=>289|21=>21|105=>325|46=>261|119=>356|139=>359|138=>358|n=>n,λ|3=>6|4=>7|n=>n⟩
theorem Tryz.lays160:Go.Proofs.Lays.n160 Tryz.prog Tryz.lays160_ren:={
 mixed:=by kernel_rfl
 f119:=Tryz.func309.trans (congrArg some (by kernel_rfl))
 f120:=Tryz.func311.trans (congrArg some (by kernel_rfl))
 f137:=Tryz.func308.trans (congrArg some (by kernel_rfl))
 f151:=Tryz.func249.trans (congrArg some (by kernel_rfl))
 f152:=Tryz.func282.trans (congrArg some (by kernel_rfl))
 f160:=Tryz.func213.trans (congrArg some (by kernel_rfl))
 f197:=Tryz.func284.trans (congrArg some (by kernel_rfl))
 f217:=Tryz.func217.trans (congrArg some (by kernel_rfl))
 f224:=Tryz.func219.trans (congrArg some (by kernel_rfl))
 f225:=Tryz.func218.trans (congrArg some (by kernel_rfl))
 f227:=Tryz.func252.trans (congrArg some (by kernel_rfl))
 f228:=Tryz.func283.trans (congrArg some (by kernel_rfl))
 f231:=Tryz.func250.trans (congrArg some (by kernel_rfl))
 f232:=Tryz.func251.trans (congrArg some (by kernel_rfl))
 f233:=Tryz.func253.trans (congrArg some (by kernel_rfl))
 f234:=Tryz.func254.trans (congrArg some (by kernel_rfl))
 f235:=Tryz.func255.trans (congrArg some (by kernel_rfl))
 f236:=Tryz.func256.trans (congrArg some (by kernel_rfl))
 f260:=Tryz.func310.trans (congrArg some (by kernel_rfl))
 f266:=Tryz.func257.trans (congrArg some (by kernel_rfl))
 f271:=Tryz.func285.trans (congrArg some (by kernel_rfl))
 t0:=Tryz.underlying0
 a0:=Tryz.isAgg0
 z0:=Tryz.sizeOf0
 v0:=Tryz.zeroValue0
 t3:=Tryz.underlying3
 a3:=Tryz.isAgg3
 z3:=Tryz.sizeOf3
 v3:=Tryz.zeroValue3
 t4:=Tryz.underlying4
 a4:=Tryz.isAgg4
 z4:=Tryz.sizeOf4
 v4:=Tryz.zeroValue4
 t5:=Tryz.underlying5
 a5:=Tryz.isAgg5
 z5:=Tryz.sizeOf5
 v5:=Tryz.zeroValue5
 t9:=Tryz.underlying9
 a9:=Tryz.isAgg9
 z9:=Tryz.sizeOf9
 v9:=Tryz.zeroValue9
 t21:=Tryz.underlying21
 a21:=Tryz.isAgg21
 z21:=Tryz.sizeOf21
 v21:=Tryz.zeroValue21
 t46:=Tryz.underlying261
 a46:=Tryz.isAgg261
 z46:=Tryz.sizeOf261
 v46:=Tryz.zeroValue261
 t105:=Tryz.underlying325
 a105:=Tryz.isAgg325
 z105:=Tryz.sizeOf325
 v105:=Tryz.zeroValue325
 t116:=Tryz.underlying285
 a116:=Tryz.isAgg285
 z116:=Tryz.sizeOf285
 t117:=Tryz.underlying286
 a117:=Tryz.isAgg286
 z117:=Tryz.sizeOf286
 v117:=Tryz.zeroValue286
 t119:=Tryz.underlying356
 a119:=Tryz.isAgg356
 z119:=Tryz.sizeOf356
 t124:=Tryz.underlying289
 a124:=Tryz.isAgg289
 z124:=Tryz.sizeOf289
 v124:=Tryz.zeroValue289
 t138:=Tryz.underlying358
 a138:=Tryz.isAgg358
 z138:=Tryz.sizeOf358
 v138:=Tryz.zeroValue358
 t139:=Tryz.underlying359
 a139:=Tryz.isAgg359
 z139:=Tryz.sizeOf359
 v139:=Tryz.zeroValue359
 g3:=by kernel_rfl
 g4:=by kernel_rfl }
open Go.RowKit in
theorem Tryz.strings_Trim_one(s:ByteArray)(c:UInt8)(hc:c.toNat<128)(w:World)(hs:s.size<=9223372036854775807) :
 Calls Tryz.prog 213 #[.string s,.string ⟨#[c]⟩] w λe w'=>e=.returned (.string ⟨(Lib.trimB s.data.toList c).toArray⟩)/\(w'=w\/w'=w.drew):=Any.strings_Trim_one Tryz.lays160 s c hc w hs
def Tryz.lays119_ren:Go.Shelf.Ren:=⟨λ|119=>309|n=>n,λ|21=>21|4=>4|n=>n,λ|n=>n⟩
theorem Tryz.lays119:Go.Proofs.Lays.n119 Tryz.prog Tryz.lays119_ren:={
 mixed:=by kernel_rfl
 f119:=Tryz.func309.trans (congrArg some (by kernel_rfl))
 t4:=Tryz.underlying4
 a4:=Tryz.isAgg4
 z4:=Tryz.sizeOf4
 v4:=Tryz.zeroValue4
 t21:=Tryz.underlying21
 a21:=Tryz.isAgg21
 z21:=Tryz.sizeOf21
 v21:=Tryz.zeroValue21 }
theorem Tryz.utf8_ValidRune(r:Int)(w:World) :
 Calls Tryz.prog 309 #[.int .i32 r] w λe w'=>e=.returned (.bool (Lib.validRune r))/\w'=w:=Any.utf8_ValidRune Tryz.lays119 r w
def Tryz.lays137_ren:Go.Shelf.Ren:=⟨λ|137=>308|217=>217|266=>257|n=>n,λ|9=>9|5=>5|3=>3|n=>n,λ|n=>n⟩
theorem Tryz.lays137:Go.Proofs.Lays.n137 Tryz.prog Tryz.lays137_ren:={
 mixed:=by kernel_rfl
 f137:=Tryz.func308.trans (congrArg some (by kernel_rfl))
 f217:=Tryz.func217.trans (congrArg some (by kernel_rfl))
 f266:=Tryz.func257.trans (congrArg some (by kernel_rfl))
 t3:=Tryz.underlying3
 a3:=Tryz.isAgg3
 z3:=Tryz.sizeOf3
 v3:=Tryz.zeroValue3
 t5:=Tryz.underlying5
 a5:=Tryz.isAgg5
 z5:=Tryz.sizeOf5
 v5:=Tryz.zeroValue5
 t9:=Tryz.underlying9
 a9:=Tryz.isAgg9
 z9:=Tryz.sizeOf9
 v9:=Tryz.zeroValue9 }
open Go.RowKit in
theorem Tryz.strings_IndexByte(s:ByteArray)(c:Int)(w:World) :
 Calls Tryz.prog 308 #[.string s,.int .u8 c] w λe w'=>e=.returned (.int .i64 (Lib.indexByte s.data.toList c.toNat.toUInt8))/\w'=w:=Any.strings_IndexByte Tryz.lays137 s c w
def Tryz.laysC172_ren:Go.Shelf.Ren:=⟨λ|172=>156|244=>194|245=>195|247=>235|279=>236|280=>237|281=>238|282=>239|287=>272|316=>273|171=>275|205=>274|321=>305|322=>306|243=>307|246=>324|283=>327|284=>328|285=>329|286=>330|129=>304|317=>331|318=>332|319=>333|320=>334|337=>335|338=>336|n=>n,λ|9=>9|3=>3|75=>213|76=>214|4=>4|5=>5|167=>272|37=>264|0=>0|85=>273|2=>2|168=>275|53=>116|175=>307|46=>261|210=>310|127=>344|145=>347|143=>345|21=>21|171=>364|173=>366|212=>369|51=>293|20=>20|213=>370|232=>371|233=>372|80=>87|n=>n,λ|15=>3|16=>4|17=>8|18=>9|19=>10|n=>n⟩
theorem Tryz.laysC172:Go.Proofs.LaysC.n172 Tryz.prog Tryz.laysC172_ren:={
 mixed:=by kernel_rfl
 f129:=Tryz.func304.trans (congrArg some (by kernel_rfl))
 f171:=Tryz.func275.trans (congrArg some (by kernel_rfl))
 f172:=Tryz.func156.trans (congrArg some (by kernel_rfl))
 f205:=Tryz.func274.trans (congrArg some (by kernel_rfl))
 f243:=Tryz.func307.trans (congrArg some (by kernel_rfl))
 f244:=Tryz.func194.trans (congrArg some (by kernel_rfl))
 f245:=Tryz.func195.trans (congrArg some (by kernel_rfl))
 f246:=Tryz.func324.trans (congrArg some (by kernel_rfl))
 f247:=Tryz.func235.trans (congrArg some (by kernel_rfl))
 f279:=Tryz.func236.trans (congrArg some (by kernel_rfl))
 f280:=Tryz.func237.trans (congrArg some (by kernel_rfl))
 f281:=Tryz.func238.trans (congrArg some (by kernel_rfl))
 f282:=Tryz.func239.trans (congrArg some (by kernel_rfl))
 f283:=Tryz.func327.trans (congrArg some (by kernel_rfl))
 f284:=Tryz.func328.trans (congrArg some (by kernel_rfl))
 f285:=Tryz.func329.trans (congrArg some (by kernel_rfl))
 f286:=Tryz.func330.trans (congrArg some (by kernel_rfl))
 f287:=Tryz.func272.trans (congrArg some (by kernel_rfl))
 f316:=Tryz.func273.trans (congrArg some (by kernel_rfl))
 f317:=Tryz.func331.trans (congrArg some (by kernel_rfl))
 f318:=Tryz.func332.trans (congrArg some (by kernel_rfl))
 f319:=Tryz.func333.trans (congrArg some (by kernel_rfl))
 f320:=Tryz.func334.trans (congrArg some (by kernel_rfl))
 f321:=Tryz.func305.trans (congrArg some (by kernel_rfl))
 f322:=Tryz.func306.trans (congrArg some (by kernel_rfl))
 f337:=Tryz.func335.trans (congrArg some (by kernel_rfl))
 f338:=Tryz.func336.trans (congrArg some (by kernel_rfl))
 t0:=Tryz.underlying0
 a0:=Tryz.isAgg0
 z0:=Tryz.sizeOf0
 v0:=Tryz.zeroValue0
 t2:=Tryz.underlying2
 a2:=Tryz.isAgg2
 z2:=Tryz.sizeOf2
 v2:=Tryz.zeroValue2
 t3:=Tryz.underlying3
 a3:=Tryz.isAgg3
 z3:=Tryz.sizeOf3
 v3:=Tryz.zeroValue3
 t4:=Tryz.underlying4
 a4:=Tryz.isAgg4
 z4:=Tryz.sizeOf4
 v4:=Tryz.zeroValue4
 t5:=Tryz.underlying5
 a5:=Tryz.isAgg5
 z5:=Tryz.sizeOf5
 v5:=Tryz.zeroValue5
 t9:=Tryz.underlying9
 a9:=Tryz.isAgg9
 z9:=Tryz.sizeOf9
 v9:=Tryz.zeroValue9
 t20:=Tryz.underlying20
 a20:=Tryz.isAgg20
 z20:=Tryz.sizeOf20
 v20:=Tryz.zeroValue20
 t21:=Tryz.underlying21
 a21:=Tryz.isAgg21
 z21:=Tryz.sizeOf21
 v21:=Tryz.zeroValue21
 t37:=Tryz.underlying264
 a37:=Tryz.isAgg264
 z37:=Tryz.sizeOf264
 v37:=Tryz.zeroValue264
 t46:=Tryz.underlying261
 a46:=Tryz.isAgg261
 z46:=Tryz.sizeOf261
 v46:=Tryz.zeroValue261
 t51:=Tryz.underlying293
 a51:=Tryz.isAgg293
 z51:=Tryz.sizeOf293
 v51:=Tryz.zeroValue293
 t53:=Tryz.underlying116
 a53:=Tryz.isAgg116
 z53:=Tryz.sizeOf116
 v53:=Tryz.zeroValue116
 t75:=Tryz.underlying213
 a75:=Tryz.isAgg213
 z75:=Tryz.sizeOf213
 v75:=Tryz.zeroValue213
 t76:=Tryz.underlying214
 a76:=Tryz.isAgg214
 z76:=Tryz.sizeOf214
 v76:=Tryz.zeroValue214
 t85:=Tryz.underlying273
 a85:=Tryz.isAgg273
 z85:=Tryz.sizeOf273
 v85:=Tryz.zeroValue273
 t127:=Tryz.underlying344
 a127:=Tryz.isAgg344
 z127:=Tryz.sizeOf344
 v127:=Tryz.zeroValue344
 t143:=Tryz.underlying345
 a143:=Tryz.isAgg345
 z143:=Tryz.sizeOf345
 v143:=Tryz.zeroValue345
 t145:=Tryz.underlying347
 a145:=Tryz.isAgg347
 z145:=Tryz.sizeOf347
 v145:=Tryz.zeroValue347
 t167:=Tryz.underlying272
 a167:=Tryz.isAgg272
 z167:=Tryz.sizeOf272
 v167:=Tryz.zeroValue272
 t168:=Tryz.underlying275
 a168:=Tryz.isAgg275
 z168:=Tryz.sizeOf275
 v168:=Tryz.zeroValue275
 t171:=Tryz.underlying364
 a171:=Tryz.isAgg364
 z171:=Tryz.sizeOf364
 v171:=Tryz.zeroValue364
 t173:=Tryz.underlying366
 a173:=Tryz.isAgg366
 z173:=Tryz.sizeOf366
 v173:=Tryz.zeroValue366
 t175:=Tryz.underlying307
 a175:=Tryz.isAgg307
 z175:=Tryz.sizeOf307
 v175:=Tryz.zeroValue307
 t210:=Tryz.underlying310
 a210:=Tryz.isAgg310
 z210:=Tryz.sizeOf310
 v210:=Tryz.zeroValue310
 t212:=Tryz.underlying369
 a212:=Tryz.isAgg369
 z212:=Tryz.sizeOf369
 v212:=Tryz.zeroValue369
 t213:=Tryz.underlying370
 a213:=Tryz.isAgg370
 z213:=Tryz.sizeOf370
 t232:=Tryz.underlying371
 a232:=Tryz.isAgg371
 z232:=Tryz.sizeOf371
 v232:=Tryz.zeroValue371
 t233:=Tryz.underlying372
 a233:=Tryz.isAgg372
 z233:=Tryz.sizeOf372
 v233:=Tryz.zeroValue372
 g15:=by kernel_rfl
 g16:=by kernel_rfl
 g17:=by kernel_rfl
 g18:=by kernel_rfl
 g19:=by kernel_rfl
 t80:=Tryz.underlying87
 a80:=Tryz.isAgg87
 z80:=Tryz.sizeOf87
 v80:=Tryz.zeroValue87
 i0:=by kernel_rfl
 i2:=by kernel_rfl
 i3:=by kernel_rfl
 i4:=by kernel_rfl
 i5:=by kernel_rfl
 i9:=by kernel_rfl
 i20:=by kernel_rfl
 i21:=by kernel_rfl
 i37:=by kernel_rfl
 i46:=by kernel_rfl
 i51:=by kernel_rfl
 i53:=by kernel_rfl
 i75:=by kernel_rfl
 i76:=by kernel_rfl
 i80:=by kernel_rfl
 i85:=by kernel_rfl
 i127:=by kernel_rfl
 i143:=by kernel_rfl
 i145:=by kernel_rfl
 i167:=by kernel_rfl
 i168:=by kernel_rfl
 i171:=by kernel_rfl
 i173:=by kernel_rfl
 i175:=by kernel_rfl
 i210:=by kernel_rfl
 i212:=by kernel_rfl
 i232:=by kernel_rfl
 i233:=by kernel_rfl
 m15:=by kernel_rfl
 m16:=by kernel_rfl
 m17:=by kernel_rfl
 m18:=by kernel_rfl
 m19:=by kernel_rfl
 c0:=by kernel_rfl
 c2:=by kernel_rfl
 c3:=by kernel_rfl
 c4:=by kernel_rfl
 c5:=by kernel_rfl
 c9:=by kernel_rfl
 c20:=by kernel_rfl
 c21:=by kernel_rfl
 c37:=by kernel_rfl
 c46:=by kernel_rfl
 c51:=by kernel_rfl
 c53:=by kernel_rfl
 c75:=by kernel_rfl
 c76:=by kernel_rfl
 c80:=by kernel_rfl
 c85:=by kernel_rfl
 c127:=by kernel_rfl
 c143:=by kernel_rfl
 c145:=by kernel_rfl
 c167:=by kernel_rfl
 c168:=by kernel_rfl
 c171:=by kernel_rfl
 c173:=by kernel_rfl
 c175:=by kernel_rfl
 c210:=by kernel_rfl
 c212:=by kernel_rfl
 c213:=by kernel_rfl
 c232:=by kernel_rfl
 c233:=by kernel_rfl }
open Go.RowKit in
theorem Tryz.strconv_Atoi_ok(s:ByteArray)(hmax:s.size<=9223372036854775806)(v:Int)(h:Lib.atoiAll s.data.toList=.ok v)(w:World) :
 Calls Tryz.prog 156 #[.string s] w λe w'=>e=.returned (.tuple #[.int .i64 v,.nilIface])/\(w'=w\/∃t,w'=Lib.bytesWorld w 5 t):=Any.strconv_Atoi_ok Tryz.laysC172 s hmax v h w
open Go.RowKit in
theorem Tryz.strconv_Atoi_range_var(s:ByteArray)(hlim:s.size<=281474976710656)(h:Lib.atoiAll s.data.toList=.range)(tp:TypeId)(p:Value)(w:World)(hvar:w.var? Tryz.prog "strconv.ErrRange" = some #[.iface tp p]) :
 Calls Tryz.prog 156 #[.string s] w λe w'=>∃N,e=.returned (.tuple #[.int .i64 (Lib.atoiSat s.data.toList),.iface 275 (.pointer (some ⟨N,0,none⟩))])/\w.heap.size<=N/\w'.heap[N]? = some (.cells #[.string ⟨#[65,116,111,105]⟩,.string s,.iface tp p] 310 (0,0))/\Below w.heap.size w w':=Any.strconv_Atoi_range_var Tryz.laysC172 s hlim h tp p w hvar
def Tryz.laysC174_ren:Go.Shelf.Ren:=⟨λ|174=>240|247=>235|245=>195|287=>272|279=>236|280=>237|281=>238|282=>239|321=>305|322=>306|316=>273|171=>275|205=>274|243=>307|246=>324|283=>327|284=>328|285=>329|286=>330|129=>304|317=>331|318=>332|319=>333|320=>334|337=>335|338=>336|n=>n,λ|9=>9|3=>3|2=>2|75=>213|85=>273|4=>4|167=>272|5=>5|53=>116|175=>307|46=>261|168=>275|37=>264|0=>0|210=>310|21=>21|127=>344|145=>347|143=>345|171=>364|173=>366|212=>369|51=>293|20=>20|213=>370|232=>371|233=>372|80=>87|n=>n,λ|15=>3|16=>4|17=>8|18=>9|19=>10|n=>n⟩
theorem Tryz.laysC174:Go.Proofs.LaysC.n174 Tryz.prog Tryz.laysC174_ren:={
 mixed:=by kernel_rfl
 f129:=Tryz.func304.trans (congrArg some (by kernel_rfl))
 f171:=Tryz.func275.trans (congrArg some (by kernel_rfl))
 f174:=Tryz.func240.trans (congrArg some (by kernel_rfl))
 f205:=Tryz.func274.trans (congrArg some (by kernel_rfl))
 f243:=Tryz.func307.trans (congrArg some (by kernel_rfl))
 f245:=Tryz.func195.trans (congrArg some (by kernel_rfl))
 f246:=Tryz.func324.trans (congrArg some (by kernel_rfl))
 f247:=Tryz.func235.trans (congrArg some (by kernel_rfl))
 f279:=Tryz.func236.trans (congrArg some (by kernel_rfl))
 f280:=Tryz.func237.trans (congrArg some (by kernel_rfl))
 f281:=Tryz.func238.trans (congrArg some (by kernel_rfl))
 f282:=Tryz.func239.trans (congrArg some (by kernel_rfl))
 f283:=Tryz.func327.trans (congrArg some (by kernel_rfl))
 f284:=Tryz.func328.trans (congrArg some (by kernel_rfl))
 f285:=Tryz.func329.trans (congrArg some (by kernel_rfl))
 f286:=Tryz.func330.trans (congrArg some (by kernel_rfl))
 f287:=Tryz.func272.trans (congrArg some (by kernel_rfl))
 f316:=Tryz.func273.trans (congrArg some (by kernel_rfl))
 f317:=Tryz.func331.trans (congrArg some (by kernel_rfl))
 f318:=Tryz.func332.trans (congrArg some (by kernel_rfl))
 f319:=Tryz.func333.trans (congrArg some (by kernel_rfl))
 f320:=Tryz.func334.trans (congrArg some (by kernel_rfl))
 f321:=Tryz.func305.trans (congrArg some (by kernel_rfl))
 f322:=Tryz.func306.trans (congrArg some (by kernel_rfl))
 f337:=Tryz.func335.trans (congrArg some (by kernel_rfl))
 f338:=Tryz.func336.trans (congrArg some (by kernel_rfl))
 t0:=Tryz.underlying0
 a0:=Tryz.isAgg0
 z0:=Tryz.sizeOf0
 v0:=Tryz.zeroValue0
 t2:=Tryz.underlying2
 a2:=Tryz.isAgg2
 z2:=Tryz.sizeOf2
 v2:=Tryz.zeroValue2
 t3:=Tryz.underlying3
 a3:=Tryz.isAgg3
 z3:=Tryz.sizeOf3
 v3:=Tryz.zeroValue3
 t4:=Tryz.underlying4
 a4:=Tryz.isAgg4
 z4:=Tryz.sizeOf4
 v4:=Tryz.zeroValue4
 t5:=Tryz.underlying5
 a5:=Tryz.isAgg5
 z5:=Tryz.sizeOf5
 v5:=Tryz.zeroValue5
 t9:=Tryz.underlying9
 a9:=Tryz.isAgg9
 z9:=Tryz.sizeOf9
 v9:=Tryz.zeroValue9
 t20:=Tryz.underlying20
 a20:=Tryz.isAgg20
 z20:=Tryz.sizeOf20
 v20:=Tryz.zeroValue20
 t21:=Tryz.underlying21
 a21:=Tryz.isAgg21
 z21:=Tryz.sizeOf21
 v21:=Tryz.zeroValue21
 t37:=Tryz.underlying264
 a37:=Tryz.isAgg264
 z37:=Tryz.sizeOf264
 v37:=Tryz.zeroValue264
 t46:=Tryz.underlying261
 a46:=Tryz.isAgg261
 z46:=Tryz.sizeOf261
 v46:=Tryz.zeroValue261
 t51:=Tryz.underlying293
 a51:=Tryz.isAgg293
 z51:=Tryz.sizeOf293
 v51:=Tryz.zeroValue293
 t53:=Tryz.underlying116
 a53:=Tryz.isAgg116
 z53:=Tryz.sizeOf116
 v53:=Tryz.zeroValue116
 t75:=Tryz.underlying213
 a75:=Tryz.isAgg213
 z75:=Tryz.sizeOf213
 v75:=Tryz.zeroValue213
 t85:=Tryz.underlying273
 a85:=Tryz.isAgg273
 z85:=Tryz.sizeOf273
 v85:=Tryz.zeroValue273
 t127:=Tryz.underlying344
 a127:=Tryz.isAgg344
 z127:=Tryz.sizeOf344
 v127:=Tryz.zeroValue344
 t143:=Tryz.underlying345
 a143:=Tryz.isAgg345
 z143:=Tryz.sizeOf345
 v143:=Tryz.zeroValue345
 t145:=Tryz.underlying347
 a145:=Tryz.isAgg347
 z145:=Tryz.sizeOf347
 v145:=Tryz.zeroValue347
 t167:=Tryz.underlying272
 a167:=Tryz.isAgg272
 z167:=Tryz.sizeOf272
 v167:=Tryz.zeroValue272
 t168:=Tryz.underlying275
 a168:=Tryz.isAgg275
 z168:=Tryz.sizeOf275
 v168:=Tryz.zeroValue275
 t171:=Tryz.underlying364
 a171:=Tryz.isAgg364
 z171:=Tryz.sizeOf364
 v171:=Tryz.zeroValue364
 t173:=Tryz.underlying366
 a173:=Tryz.isAgg366
 z173:=Tryz.sizeOf366
 v173:=Tryz.zeroValue366
 t175:=Tryz.underlying307
 a175:=Tryz.isAgg307
 z175:=Tryz.sizeOf307
 v175:=Tryz.zeroValue307
 t210:=Tryz.underlying310
 a210:=Tryz.isAgg310
 z210:=Tryz.sizeOf310
 v210:=Tryz.zeroValue310
 t212:=Tryz.underlying369
 a212:=Tryz.isAgg369
 z212:=Tryz.sizeOf369
 v212:=Tryz.zeroValue369
 t213:=Tryz.underlying370
 a213:=Tryz.isAgg370
 z213:=Tryz.sizeOf370
 t232:=Tryz.underlying371
 a232:=Tryz.isAgg371
 z232:=Tryz.sizeOf371
 v232:=Tryz.zeroValue371
 t233:=Tryz.underlying372
 a233:=Tryz.isAgg372
 z233:=Tryz.sizeOf372
 v233:=Tryz.zeroValue372
 g15:=by kernel_rfl
 g16:=by kernel_rfl
 g17:=by kernel_rfl
 g18:=by kernel_rfl
 g19:=by kernel_rfl
 t80:=Tryz.underlying87
 a80:=Tryz.isAgg87
 z80:=Tryz.sizeOf87
 v80:=Tryz.zeroValue87
 i0:=by kernel_rfl
 i2:=by kernel_rfl
 i3:=by kernel_rfl
 i4:=by kernel_rfl
 i5:=by kernel_rfl
 i9:=by kernel_rfl
 i20:=by kernel_rfl
 i21:=by kernel_rfl
 i37:=by kernel_rfl
 i46:=by kernel_rfl
 i51:=by kernel_rfl
 i53:=by kernel_rfl
 i75:=by kernel_rfl
 i80:=by kernel_rfl
 i85:=by kernel_rfl
 i127:=by kernel_rfl
 i143:=by kernel_rfl
 i145:=by kernel_rfl
 i167:=by kernel_rfl
 i168:=by kernel_rfl
 i171:=by kernel_rfl
 i173:=by kernel_rfl
 i175:=by kernel_rfl
 i210:=by kernel_rfl
 i212:=by kernel_rfl
 i232:=by kernel_rfl
 i233:=by kernel_rfl
 m15:=by kernel_rfl
 m16:=by kernel_rfl
 m17:=by kernel_rfl
 m18:=by kernel_rfl
 m19:=by kernel_rfl
 c0:=by kernel_rfl
 c2:=by kernel_rfl
 c3:=by kernel_rfl
 c4:=by kernel_rfl
 c5:=by kernel_rfl
 c9:=by kernel_rfl
 c20:=by kernel_rfl
 c21:=by kernel_rfl
 c37:=by kernel_rfl
 c46:=by kernel_rfl
 c51:=by kernel_rfl
 c53:=by kernel_rfl
 c75:=by kernel_rfl
 c80:=by kernel_rfl
 c85:=by kernel_rfl
 c127:=by kernel_rfl
 c143:=by kernel_rfl
 c145:=by kernel_rfl
 c167:=by kernel_rfl
 c168:=by kernel_rfl
 c171:=by kernel_rfl
 c173:=by kernel_rfl
 c175:=by kernel_rfl
 c210:=by kernel_rfl
 c212:=by kernel_rfl
 c213:=by kernel_rfl
 c232:=by kernel_rfl
 c233:=by kernel_rfl }
open Go.RowKit in
theorem Tryz.strconv_ParseInt_10_at64_ok(s:ByteArray)(hmax:s.size<=9223372036854775806)(v:Int)(h:Lib.parseIntB 64 s.data.toList=.ok v)(w:World) :
 Calls Tryz.prog 240 #[.string s,.int .i64 10,.int .i64 64] w λe w'=>e=.returned (.tuple #[.int .i64 v,.nilIface])/\(w'=w\/∃t,w'=Lib.bytesWorld w 5 t):=Any.strconv_ParseInt_10_at64_ok Tryz.laysC174 s hmax v h w
def Tryz.lays144_ren:Go.Shelf.Ren:=⟨λ|144=>84|143=>133|219=>177|217=>217|225=>218|224=>219|267=>220|266=>257|314=>258|n=>n,λ|9=>9|4=>4|3=>3|5=>5|46=>261|146=>294|51=>293|n=>n,λ|1=>0|n=>n⟩
theorem Tryz.lays144:Go.Proofs.Lays.n144 Tryz.prog Tryz.lays144_ren:={
 mixed:=by kernel_rfl
 f143:=Tryz.func133.trans (congrArg some (by kernel_rfl))
 f144:=Tryz.func84.trans (congrArg some (by kernel_rfl))
 f217:=Tryz.func217.trans (congrArg some (by kernel_rfl))
 f219:=Tryz.func177.trans (congrArg some (by kernel_rfl))
 f224:=Tryz.func219.trans (congrArg some (by kernel_rfl))
 f225:=Tryz.func218.trans (congrArg some (by kernel_rfl))
 f266:=Tryz.func257.trans (congrArg some (by kernel_rfl))
 f267:=Tryz.func220.trans (congrArg some (by kernel_rfl))
 f314:=Tryz.func258.trans (congrArg some (by kernel_rfl))
 t3:=Tryz.underlying3
 a3:=Tryz.isAgg3
 z3:=Tryz.sizeOf3
 v3:=Tryz.zeroValue3
 t4:=Tryz.underlying4
 a4:=Tryz.isAgg4
 z4:=Tryz.sizeOf4
 v4:=Tryz.zeroValue4
 t5:=Tryz.underlying5
 a5:=Tryz.isAgg5
 z5:=Tryz.sizeOf5
 v5:=Tryz.zeroValue5
 t9:=Tryz.underlying9
 a9:=Tryz.isAgg9
 z9:=Tryz.sizeOf9
 v9:=Tryz.zeroValue9
 t46:=Tryz.underlying261
 a46:=Tryz.isAgg261
 z46:=Tryz.sizeOf261
 v46:=Tryz.zeroValue261
 t51:=Tryz.underlying293
 a51:=Tryz.isAgg293
 z51:=Tryz.sizeOf293
 v51:=Tryz.zeroValue293
 t146:=Tryz.underlying294
 a146:=Tryz.isAgg294
 z146:=Tryz.sizeOf294
 v146:=Tryz.zeroValue294
 g1:=by kernel_rfl }
open Go.RowKit Go.Lib in
theorem Tryz.strings_Contains_one(s:ByteArray)(c:UInt8)(w:World) :
 Calls Tryz.prog 84 #[.string s,.string ⟨#[c]⟩] w λe w'=>e=.returned (.bool (decide (0<=Lib.indexByte s.data.toList c)))/\w'=w:=Any.strings_Contains_one Tryz.lays144 s c w
def Tryz.laysGw15_ren:Go.Shelf.Ren:=⟨λ|15=>247|20=>281|n=>n,λ|9=>9|23=>282|3=>3|4=>4|0=>0|21=>21|n=>n,λ|n=>n⟩
theorem Tryz.laysGw15:Go.Proofs.LaysGw.n15 Tryz.prog Tryz.laysGw15_ren:={
 mixed:=by kernel_rfl
 f15:=Tryz.func247.trans (congrArg some (by kernel_rfl))
 f20:=Tryz.func281.trans (congrArg some (by kernel_rfl))
 t0:=Tryz.underlying0
 a0:=Tryz.isAgg0
 z0:=Tryz.sizeOf0
 v0:=Tryz.zeroValue0
 i0:=by kernel_rfl
 t3:=Tryz.underlying3
 a3:=Tryz.isAgg3
 z3:=Tryz.sizeOf3
 v3:=Tryz.zeroValue3
 i3:=by kernel_rfl
 t4:=Tryz.underlying4
 a4:=Tryz.isAgg4
 z4:=Tryz.sizeOf4
 v4:=Tryz.zeroValue4
 i4:=by kernel_rfl
 t9:=Tryz.underlying9
 a9:=Tryz.isAgg9
 z9:=Tryz.sizeOf9
 v9:=Tryz.zeroValue9
 i9:=by kernel_rfl
 t21:=Tryz.underlying21
 a21:=Tryz.isAgg21
 z21:=Tryz.sizeOf21
 v21:=Tryz.zeroValue21
 i21:=by kernel_rfl
 t23:=Tryz.underlying282
 a23:=Tryz.isAgg282
 z23:=Tryz.sizeOf282
 v23:=Tryz.zeroValue282
 i23:=by kernel_rfl }
def Tryz.lays151_ren:Go.Shelf.Ren:=⟨λ|151=>249|152=>282|137=>308|119=>309|224=>219|225=>218|217=>217|266=>257|n=>n,λ|9=>9|21=>21|4=>4|3=>3|5=>5|0=>0|46=>261|n=>n,λ|n=>n⟩
theorem Tryz.lays151:Go.Proofs.Lays.n151 Tryz.prog Tryz.lays151_ren:={
 mixed:=by kernel_rfl
 f119:=Tryz.func309.trans (congrArg some (by kernel_rfl))
 f137:=Tryz.func308.trans (congrArg some (by kernel_rfl))
 f151:=Tryz.func249.trans (congrArg some (by kernel_rfl))
 f152:=Tryz.func282.trans (congrArg some (by kernel_rfl))
 f217:=Tryz.func217.trans (congrArg some (by kernel_rfl))
 f224:=Tryz.func219.trans (congrArg some (by kernel_rfl))
 f225:=Tryz.func218.trans (congrArg some (by kernel_rfl))
 f266:=Tryz.func257.trans (congrArg some (by kernel_rfl))
 t0:=Tryz.underlying0
 a0:=Tryz.isAgg0
 z0:=Tryz.sizeOf0
 v0:=Tryz.zeroValue0
 t3:=Tryz.underlying3
 a3:=Tryz.isAgg3
 z3:=Tryz.sizeOf3
 v3:=Tryz.zeroValue3
 t4:=Tryz.underlying4
 a4:=Tryz.isAgg4
 z4:=Tryz.sizeOf4
 v4:=Tryz.zeroValue4
 t5:=Tryz.underlying5
 a5:=Tryz.isAgg5
 z5:=Tryz.sizeOf5
 v5:=Tryz.zeroValue5
 t9:=Tryz.underlying9
 a9:=Tryz.isAgg9
 z9:=Tryz.sizeOf9
 v9:=Tryz.zeroValue9
 t21:=Tryz.underlying21
 a21:=Tryz.isAgg21
 z21:=Tryz.sizeOf21
 v21:=Tryz.zeroValue21
 t46:=Tryz.underlying261
 a46:=Tryz.isAgg261
 z46:=Tryz.sizeOf261
 v46:=Tryz.zeroValue261 }
open Go.RowKit Go.Lib in
theorem Tryz.strings_ContainsRune_ascii(s:ByteArray)(r:Int)(w:World)(h0:0<=r)(h1:r<128) :
 Calls Tryz.prog 249 #[.string s,.int .i32 r] w λe w'=>e=.returned (.bool (decide (0<=Lib.indexByte s.data.toList r.toNat.toUInt8)))/\w'=w:=Any.strings_ContainsRune_ascii Tryz.lays151 s r w h0 h1
def Tryz.lays264_ren:Go.Shelf.Ren:=⟨λ|264=>276|n=>n,λ|53=>116|46=>261|n=>n,λ|n=>n⟩
theorem Tryz.lays264:Go.Proofs.Lays.n264 Tryz.prog Tryz.lays264_ren:={
 mixed:=by kernel_rfl
 f264:=Tryz.func276.trans (congrArg some (by kernel_rfl))
 t46:=Tryz.underlying261
 a46:=Tryz.isAgg261
 z46:=Tryz.sizeOf261
 v46:=Tryz.zeroValue261
 t53:=Tryz.underlying116
 a53:=Tryz.isAgg116
 z53:=Tryz.sizeOf116
 v53:=Tryz.zeroValue116 }
open Go.RowKit Go.Lib in
theorem Tryz.bits_Mul64(x y:Nat)(hx:x<18446744073709551616)(hy:y<18446744073709551616)(w:World) :
 Calls Tryz.prog 276 #[.int .u64 x,.int .u64 y] w λe w'=>e=.returned (.tuple #[.int .u64 ((x*y/18446744073709551616:Nat):Int),.int .u64 ((x*y%18446744073709551616:Nat):Int)])/\w'=w:=Any.bits_Mul64 Tryz.lays264 x y hx hy w
open Go.RowKit Go.Lib in
theorem Tryz.strings_IndexFunc_grows(g:Nat)(lb:Array Value)(eg:∀args w,(callFunc g args).run Tryz.prog w=.ok (.enter g args) w)(p:Nat->Bool)(s:ByteArray)(w:World)(hp:PredGrows Tryz.prog g lb p w) :
 Calls Tryz.prog 247 #[.string s,.func (.func g) #[] lb] w λe w'=>e=.returned (.int .i64 (Lib.idxFunc p true s))/\Below w.heap.size w w':=Any.strings_IndexFunc_grows Tryz.laysGw15 g lb eg p s w hp
def Tryz.lays112_ren:Go.Shelf.Ren:=⟨λ|112=>131|n=>n,λ|28=>136|3=>3|4=>4|0=>0|n=>n,λ|n=>n⟩
theorem Tryz.lays112:Go.Proofs.Lays.n112 Tryz.prog Tryz.lays112_ren:={
 mixed:=by kernel_rfl
 f112:=Tryz.func131.trans (congrArg some (by kernel_rfl))
 t0:=Tryz.underlying0
 a0:=Tryz.isAgg0
 z0:=Tryz.sizeOf0
 v0:=Tryz.zeroValue0
 t3:=Tryz.underlying3
 a3:=Tryz.isAgg3
 z3:=Tryz.sizeOf3
 v3:=Tryz.zeroValue3
 t4:=Tryz.underlying4
 a4:=Tryz.isAgg4
 z4:=Tryz.sizeOf4
 v4:=Tryz.zeroValue4
 t28:=Tryz.underlying136
 a28:=Tryz.isAgg136
 z28:=Tryz.sizeOf136
 v28:=Tryz.zeroValue136 }
open Go.RowKit Go.Lib Go.Sort in
theorem Tryz.slices_Reverse_int_cells(b off n c:Nat)(zs:List Int)(w:World)(hz:n<=zs.length)(hbig:n<=9223372036854775807)(hc:∀j,j<zs.length->w.cell? ⟨b,off+j,none⟩=some (.int .i64 (zs.getD j 0)))(hf:∀j,j<n->w.frozen? ⟨b,off+j,none⟩=false) :
 Calls Tryz.prog 131 #[.slice (some ⟨b,off,none⟩) n c] w λe w'=>e=.returned (.tuple #[])/\∃q,w'=(w.drewN q).setCells b off ((zs.take n).reverse.map (Value.int .i64)):=Any.slices_Reverse_int_cells Tryz.lays112 b off n c zs w hz hbig hc hf
end Go.Proofs
end
section
namespace Go.Proofs.YtoghlpcacfnjbaaGreatDoor
open Go.RowKit
variable{x:Int}{b:UInt8}
theorem Atoi_ok(s:ByteArray)(v:Int)(w:World)(hs:wfB s)(h:Lib.atoiAll s.data.toList=.ok v) :
 Calls Tryz.prog 156 #[.string s] w λe w'=>e=.returned (.tuple #[.int .i64 v,.nilIface])/\Below w.heap.size w w':=by
 unfold wfB at hs;refine(Tryz.strconv_Atoi_ok s (by omega) v h w).mono ?_;rintro e w' ⟨rfl,rfl|⟨t,rfl⟩⟩
 . exact⟨rfl,Below.refl _ _⟩
 . exact⟨rfl,Lib.bytesWorld_below _ _ _⟩
theorem Atoi_no(s:ByteArray)(w:World)(hG:Glob w)(hs:wfB s)(h:∀v,Lib.atoiAll s.data.toList≠.ok v) :
 Calls Tryz.prog 156 #[.string s] w λe w'=>∃n t p,e=.returned (.tuple #[.int .i64 n,.iface t p])/\Below w.heap.size w w':=by
 unfold wfB at hs;rcases ha:Lib.atoiAll s.data.toList with v|_|_
 . exact absurd ha (h v)
 . obtain⟨tp,p,e1⟩:=hG.c0;refine(Any.strconv_Atoi_syntax_var Tryz.laysC172 s (by omega) ha tp p w e1).mono ?_;rintro e w' ⟨N,rfl,_,_,hB⟩;exact⟨_,_,_,rfl,hB⟩
 . obtain⟨tp,p,e1⟩:=hG.b0;refine(Tryz.strconv_Atoi_range_var s (by omega) ha tp p w e1).mono ?_;rintro e w' ⟨N,rfl,_,_,hB⟩;exact⟨_,_,_,rfl,hB⟩
theorem Season(d:Dt)(w:World)(hG:Glob w)(hd:wfD d) :
 Calls Tryz.prog 106 #[.agg #[.bool d.g0,.bool d.f0,.string d.b0,.int .i64 d.c0,.int .i64 d.e0,.string d.a0,.string d.d0,.int .u8 d.m0,.int .u8 d.m1,.int .u8 d.m2]] w λe w'=>e=.returned (.tuple #[.int .i64 (seas d),.bool (decide (seas d≠0))])/\Below w.heap.size w w':=by
 have HB:=Lib.hid hd.1.2.1;clear hd;by_cases h:∃v,Lib.atoiAll d.a0.data.toList=.ok v
 . obtain⟨v,hv⟩:=h;have HV:=Lib.hid hv;by_cases hl:d.a0.size=2
   . have hl2:((d.a0.size:Int) !=2)=false:=by simp[hl]
     by_cases hc:okC v
     . have V:=Lib.hid (show seas d=v from seasL_ok hv hl hc.1 hc.2);have V2:=Lib.hid (show decide (v≠0)=true by have:=hc.1;exact decide_eq_true (by omega));have HC:=Lib.hid hc;clear hv hl hc;go_enter Tryz.func106,Tryz.ntmps106
       go_wp2_with (first|(go_at_call 156;refine(Atoi_ok _ _ _ HB.out HV.out).mono ?_;rintro e w1 ⟨rfl,hb⟩;obtain⟨hc,hf⟩:=bcell hb;have hz:=hb.size;(try simp only[World.size_alloc,World.size_setCell,World.size_drew]at hz hc hf);(try(have hl0:w.heap.size<w1.heap.size:=(by omega);have hc0:=λo:Nat=>hc (w.heap.size) o (by omega);have hf0:=λo:Nat=>hf (w.heap.size) o (by omega)));(try(have hl1:w.heap.size+1<w1.heap.size:=(by omega);have hc1:=λo:Nat=>hc (w.heap.size+1) o (by omega);have hf1:=λo:Nat=>hf (w.heap.size+1) o (by omega)));(try(have hl2:w.heap.size+2<w1.heap.size:=(by omega);have hc2:=λo:Nat=>hc (w.heap.size+2) o (by omega);have hf2:=λo:Nat=>hf (w.heap.size+2) o (by omega)));(try(have hl3:w.heap.size+3<w1.heap.size:=(by omega);have hc3:=λo:Nat=>hc (w.heap.size+3) o (by omega);have hf3:=λo:Nat=>hf (w.heap.size+3) o (by omega)));(try(have hl4:w.heap.size+4<w1.heap.size:=(by omega);have hc4:=λo:Nat=>hc (w.heap.size+4) o (by omega);have hf4:=λo:Nat=>hf (w.heap.size+4) o (by omega))))|(go_at_call 157;refine(seasons_Check_ok _ _ HC.out).mono ?_;rintro e w' ⟨rfl,rfl⟩))
       go_ret2
       exact⟨by rw[V.out,V2.out];simp,by(repeat(first|exact Below.refl _ _|assumption|refine balloc ?_ _|refine Below.drew ?_|refine bdrewN ?_ _|(refine bset ?_ (by first|exact Nat.le_refl _|(simp;done)|(simp;omega)) _)|refine bnext ?_ (by assumption)))⟩
     . have V:=Lib.hid (show seas d=0 from seasL_no λx hx h=>by rw[hv]at hx;cases hx;exact hc h.2);have HC:=Lib.hid hc;clear hv hl hc;go_enter Tryz.func106,Tryz.ntmps106
       go_wp2_with (first|(go_at_call 156;refine(Atoi_ok _ _ _ HB.out HV.out).mono ?_;rintro e w1 ⟨rfl,hb⟩;obtain⟨hc,hf⟩:=bcell hb;have hz:=hb.size;(try simp only[World.size_alloc,World.size_setCell,World.size_drew]at hz hc hf);(try(have hl0:w.heap.size<w1.heap.size:=(by omega);have hc0:=λo:Nat=>hc (w.heap.size) o (by omega);have hf0:=λo:Nat=>hf (w.heap.size) o (by omega)));(try(have hl1:w.heap.size+1<w1.heap.size:=(by omega);have hc1:=λo:Nat=>hc (w.heap.size+1) o (by omega);have hf1:=λo:Nat=>hf (w.heap.size+1) o (by omega)));(try(have hl2:w.heap.size+2<w1.heap.size:=(by omega);have hc2:=λo:Nat=>hc (w.heap.size+2) o (by omega);have hf2:=λo:Nat=>hf (w.heap.size+2) o (by omega)));(try(have hl3:w.heap.size+3<w1.heap.size:=(by omega);have hc3:=λo:Nat=>hc (w.heap.size+3) o (by omega);have hf3:=λo:Nat=>hf (w.heap.size+3) o (by omega)));(try(have hl4:w.heap.size+4<w1.heap.size:=(by omega);have hc4:=λo:Nat=>hc (w.heap.size+4) o (by omega);have hf4:=λo:Nat=>hf (w.heap.size+4) o (by omega))))|(go_at_call 157;refine(seasons_Check_no _ _ HC.out).mono ?_;rintro e w' ⟨rfl,rfl⟩))
       go_ret2
       exact⟨by rw[V.out];simp,by(repeat(first|exact Below.refl _ _|assumption|refine balloc ?_ _|refine Below.drew ?_|refine bdrewN ?_ _|(refine bset ?_ (by first|exact Nat.le_refl _|(simp;done)|(simp;omega)) _)|refine bnext ?_ (by assumption)))⟩
   . have V:=Lib.hid (show seas d=0 from seasL_len hl);have hl2:((d.a0.size:Int) !=2)=true:=by simp;omega
     clear hv hl;go_enter Tryz.func106,Tryz.ntmps106
     go_wp2_with (first|(go_at_call 156;refine(Atoi_ok _ _ _ HB.out HV.out).mono ?_;rintro e w1 ⟨rfl,hb⟩;obtain⟨hc,hf⟩:=bcell hb;have hz:=hb.size;(try simp only[World.size_alloc,World.size_setCell,World.size_drew]at hz hc hf);(try(have hl0:w.heap.size<w1.heap.size:=(by omega);have hc0:=λo:Nat=>hc (w.heap.size) o (by omega);have hf0:=λo:Nat=>hf (w.heap.size) o (by omega)));(try(have hl1:w.heap.size+1<w1.heap.size:=(by omega);have hc1:=λo:Nat=>hc (w.heap.size+1) o (by omega);have hf1:=λo:Nat=>hf (w.heap.size+1) o (by omega)));(try(have hl2:w.heap.size+2<w1.heap.size:=(by omega);have hc2:=λo:Nat=>hc (w.heap.size+2) o (by omega);have hf2:=λo:Nat=>hf (w.heap.size+2) o (by omega)));(try(have hl3:w.heap.size+3<w1.heap.size:=(by omega);have hc3:=λo:Nat=>hc (w.heap.size+3) o (by omega);have hf3:=λo:Nat=>hf (w.heap.size+3) o (by omega)));(try(have hl4:w.heap.size+4<w1.heap.size:=(by omega);have hc4:=λo:Nat=>hc (w.heap.size+4) o (by omega);have hf4:=λo:Nat=>hf (w.heap.size+4) o (by omega)))))
     go_ret2
     exact⟨by rw[V.out];simp,by(repeat(first|exact Below.refl _ _|assumption|refine balloc ?_ _|refine Below.drew ?_|refine bdrewN ?_ _|(refine bset ?_ (by first|exact Nat.le_refl _|(simp;done)|(simp;omega)) _)|refine bnext ?_ (by assumption)))⟩
 . have h2:∀v,Lib.atoiAll d.a0.data.toList≠.ok v:=λv hv=>h ⟨v,hv⟩;have V:=Lib.hid (show seas d=0 from seasL_no λx hx _=>h2 x hx);have HV:=Lib.hid h2;clear h h2;go_enter Tryz.func106,Tryz.ntmps106
   go_wp2_with (first|(go_at_call 156;refine(Atoi_no _ _ (by first|assumption|exact Glob.below (by assumption) (by(repeat(first|exact Below.refl _ _|assumption|refine balloc ?_ _|refine Below.drew ?_|refine bdrewN ?_ _|(refine bset ?_ (by first|exact Nat.le_refl _|(simp;done)|(simp;omega)) _)|refine bnext ?_ (by assumption))))) HB.out HV.out).mono ?_;rintro e w1 ⟨n,t,p,rfl,hb⟩;obtain⟨hc,hf⟩:=bcell hb;have hz:=hb.size;(try simp only[World.size_alloc,World.size_setCell,World.size_drew]at hz hc hf);(try(have hl0:w.heap.size<w1.heap.size:=(by omega);have hc0:=λo:Nat=>hc (w.heap.size) o (by omega);have hf0:=λo:Nat=>hf (w.heap.size) o (by omega)));(try(have hl1:w.heap.size+1<w1.heap.size:=(by omega);have hc1:=λo:Nat=>hc (w.heap.size+1) o (by omega);have hf1:=λo:Nat=>hf (w.heap.size+1) o (by omega)));(try(have hl2:w.heap.size+2<w1.heap.size:=(by omega);have hc2:=λo:Nat=>hc (w.heap.size+2) o (by omega);have hf2:=λo:Nat=>hf (w.heap.size+2) o (by omega)));(try(have hl3:w.heap.size+3<w1.heap.size:=(by omega);have hc3:=λo:Nat=>hc (w.heap.size+3) o (by omega);have hf3:=λo:Nat=>hf (w.heap.size+3) o (by omega)));(try(have hl4:w.heap.size+4<w1.heap.size:=(by omega);have hc4:=λo:Nat=>hc (w.heap.size+4) o (by omega);have hf4:=λo:Nat=>hf (w.heap.size+4) o (by omega)))))
   go_ret2
   exact⟨by rw[V.out];simp,by(repeat(first|exact Below.refl _ _|assumption|refine balloc ?_ _|refine Below.drew ?_|refine bdrewN ?_ _|(refine bset ?_ (by first|exact Nat.le_refl _|(simp;done)|(simp;omega)) _)|refine bnext ?_ (by assumption)))⟩
def errMk(m:Int):Int:=if 3<m then 9 else 0
def mb(b:UInt8):Prop:=b.toNat=88\/48<=b.toNat/\b.toNat<=57
def dig(x:Int)(b:UInt8):Int:=(if b.toNat=88 then x else(b.toNat:Int))-48
theorem dig_X(h:b.toNat=88):dig x b=x-48:=by unfold dig;rw[if_pos h]
theorem dig_D(h:b.toNat≠88):dig x b=(b.toNat:Int)-48:=by unfold dig;rw[if_neg h]
def fillv(x:Int)(l:List UInt8):Int:=l.foldl (λn b=>10*n+dig x b) 0
theorem fillv_snoc(x:Int)(l:List UInt8)(b:UInt8):fillv x (l++[b])=10*fillv x l+dig x b:=by simp[fillv]
theorem take_snocB(s:ByteArray)(k:Nat)(h:k<s.size):s.data.toList.take (k+1)=s.data.toList.take k++[s[k]]:=by
 rw[List.take_succ_eq_append_getElem (by simpa using h)];rfl
theorem dig_bd(hx:48<=x/\x<=57)(hb:mb b):0<=dig x b/\dig x b<=9:=by
 unfold dig;unfold mb at hb;split<;>omega
theorem fold_bd{x:Int}(hx:48<=x/\x<=57):∀(l:List UInt8) (n:Int) (a:Nat),(∀b∈l,mb b)->0<=n->n<((10^a:Nat):Int)->0<=l.foldl (λn b=>10*n+dig x b) n/\l.foldl (λn b=>10*n+dig x b) n<((10^(a+l.length):Nat):Int)
 | [],n,a,_,h0,h1=>⟨h0,h1⟩
 | b::l,n,a,h,h0,h1=>by
   have h2:=dig_bd hx (h b (by simp));have ih:=fold_bd hx l (10*n+dig x b) (a+1) (λc hc=>h c (by simp[hc])) (by omega) (by rw[Nat.pow_succ];omega);rw[List.foldl_cons,zAf,show a+(l.length+1)=a+1+l.length by omega];exact ih
theorem fillv_bd(hx:48<=x/\x<=57)(l:List UInt8)(h:∀b∈l,mb b):0<=fillv x l/\fillv x l<((10^l.length:Nat):Int):=by
 have:=fold_bd hx l 0 0 h (by decide) (by decide);rw[Nat.zero_add]at this;exact this
theorem fillv_bd18(hx:48<=x/\x<=57)(s:ByteArray)(hs:s.size<=18)(hm:∀(i:Nat) (h:i<s.size),mb s[i])(k:Nat)(hk:k<s.size):0<=fillv x (s.data.toList.take k)/\fillv x (s.data.toList.take k)<100000000000000000:=by
 have e:s.data.size=s.size:=rfl;have h:=fillv_bd hx (s.data.toList.take k) (by
  intro b hb;obtain⟨i,hi,rfl⟩:=List.getElem_of_mem hb;have hi2:i<s.size:=by simp at hi;omega
  have h3:mb s[i]:=hm i hi2;have h4:(s.data.toList.take k)[i]=s[i]:=by simp;rfl
  rw[h4];exact h3)
 have hl:(s.data.toList.take k).length<=17:=by simp;omega
 have hp:=Nat.pow_le_pow_right (show 10 > 0 by decide) hl;have e2:(10:Nat)^17=100000000000000000:=by decide
 omega
def agB(b:UInt8)(d:Int):Prop:=b.toNat=88\/(b.toNat:Int)=48+d
instance (b:UInt8) (d:Int):Decidable (agB b d):=by unfold agB;infer_instance
def agr(a b:UInt8)(n:Int):Prop:=agB a (n/10)/\agB b (n%10)
instance (a b:UInt8) (n:Int):Decidable (agr a b n):=by unfold agr;infer_instance
end Go.Proofs.YtoghlpcacfnjbaaGreatDoor
end
