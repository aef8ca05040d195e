import Derived.Shelf.Strings.Trim
import Derived.Shelf.Small.Utf8
import Derived.Shelf.Small.Bits
import Derived.Shelf.Small.Strs
import Derived.Shelf.Utf8.RuneCount
import Derived.Shelf.Strconv.Atoi
import Derived.Shelf.Strconv.Itoa0
import Derived.Shelf.Strconv.Itoa1
import Derived.Shelf.LaysM
import Derived.Shelf.Strconv.Itoa2
import Derived.Shelf.Strconv.Itoa3
import Derived.Shelf.Strconv.AtoiErrFast
import Derived.Shelf.Strconv.ParseIntEmpty
import Derived.Shelf.Strconv.AtoiFail
import Derived.Shelf.Strconv.Clone
import Derived.Shelf.Strconv.SyntaxError
import Derived.Shelf.LaysC
import Derived.Shelf.Strconv.ToError
import Derived.Shelf.Strconv.Lower
import Derived.Shelf.Strconv.ParseUint10
import Derived.Shelf.Strconv.ParseUint10Empty
import Derived.Shelf.Strconv.ParseUint10Any
import Derived.Shelf.Strconv.ParseInt10
import Derived.Shelf.Strconv.AtoiLong
import Derived.Shelf.Strconv.AtoiInnerAll
import Derived.Shelf.Strconv.RangeError
import Derived.Shelf.Strconv.ToErrorRange
import Derived.Shelf.Strconv.AtoiAll
import Derived.Shelf.Strconv.ErrVarAll
import Derived.Shelf.Strconv.ParseUintEmpty
import Derived.Shelf.Strconv.ParseUint10b64
import Derived.Shelf.Strconv.ParseUint10b32
import Derived.Shelf.Strconv.ParseUint10b16
import Derived.Shelf.Strconv.ParseUint10b8
import Derived.Shelf.Strconv.ParseUint10At
import Derived.Shelf.Strconv.ParseInt10At64
import Derived.Shelf.Strconv.ParseInt10At32
import Derived.Shelf.Strconv.ParseInt10At16
import Derived.Shelf.Strconv.ParseInt10At8
import Derived.Shelf.Strconv.ParseInt10All
import Derived.Shelf.Strconv.ParseIntPublic10
import Derived.Shelf.Strconv.ErrVarParseInt
import Derived.Shelf.Strings.Search1
import Derived.Shelf.Strings.Search2
import Derived.Shelf.Strings.Search3
import Derived.Shelf.Strings.Count
import Derived.Shelf.Strings.Shaped
import Derived.Shelf.GgClosure.StringsIndexFunc
import Derived.Ground.GgwProg
import Derived.Shelf.GgClosure.StringsIndexFuncTop
import Derived.Shelf.Strings.Split
import Derived.Shelf.Unicode.Decode
import Derived.Shelf.Strings.Runes
import Derived.Shelf.Strings.RuneCount
import Derived.Shelf.Strings.AsciiSet
import Derived.Shelf.Bits.Mul64
import Derived.Shelf.Unicode.DecodeSlow
import Derived.Shelf.Unicode.DecodeAny
import Derived.Shelf.Unicode.DecodeLast
import Derived.Shelf.Strings.FuncGrows
import Derived.Shelf.Slices.Reverse
import Derived.Ground.Names2Prog
import Derived.Shelf.Slices.Clone
import Derived.Shelf.Slices.Cells
import Derived.Ground.SlgnProg
import Derived.Shelf.SlicesG.SearchI
import Derived.Shelf.SlicesE.Clone
import Derived.Lib.AtoiErrMem
import Derived.Recover
import Derived.Laws.Runes
import Derived.WalkMore
import Derived.Laws.RangeAny
import Derived.Lib.ParseIntBTie
import Derived.Deep.CutRange
import Derived.Deep.DeepFit
import Derived.Test.YtcffhjfdlflbgaaGreatDoorP01
set_option linter.all false
open List renaming all_cons->ν,getElem_of_mem->ξ
set_option linter.all false
set_option maxRecDepth 100000
set_option maxHeartbeats 4000000
section
namespace Go.Proofs
open Go.Shelf
def Tryz.lays160_ren:Go.Shelf.Ren:=⟨λ|160=>214|232=>270|231=>269|227=>271|234=>273|233=>272|236=>275|235=>274|228=>328|271=>330|151=>268|197=>329|120=>351|152=>327|260=>350|137=>348|119=>349|224=>299|225=>298|217=>297|266=>339|n=>n,λ|9=>9|4=>4|3=>3|5=>5|117=>298|116=>297|0=>0|124=>301|21=>21|105=>339|46=>270|119=>371|139=>374|138=>373|n=>n,λ|3=>6|4=>7|n=>n⟩
theorem Tryz.lays160:Go.Proofs.Lays.n160 Tryz.prog Tryz.lays160_ren:={
 mixed:=ε
 f119:=Tryz.func349.trans (congrArg some ε)
 f120:=Tryz.func351.trans (congrArg some ε)
 f137:=Tryz.func348.trans (congrArg some ε)
 f151:=Tryz.func268.trans (congrArg some ε)
 f152:=Tryz.func327.trans (congrArg some ε)
 f160:=Tryz.func214.trans (congrArg some ε)
 f197:=Tryz.func329.trans (congrArg some ε)
 f217:=Tryz.func297.trans (congrArg some ε)
 f224:=Tryz.func299.trans (congrArg some ε)
 f225:=Tryz.func298.trans (congrArg some ε)
 f227:=Tryz.func271.trans (congrArg some ε)
 f228:=Tryz.func328.trans (congrArg some ε)
 f231:=Tryz.func269.trans (congrArg some ε)
 f232:=Tryz.func270.trans (congrArg some ε)
 f233:=Tryz.func272.trans (congrArg some ε)
 f234:=Tryz.func273.trans (congrArg some ε)
 f235:=Tryz.func274.trans (congrArg some ε)
 f236:=Tryz.func275.trans (congrArg some ε)
 f260:=Tryz.func350.trans (congrArg some ε)
 f266:=Tryz.func339.trans (congrArg some ε)
 f271:=Tryz.func330.trans (congrArg some ε)
 t0:=Tryz.underlying0
 a0:=Tryz.isAgg0
 z0:=Tryz.sizeOf0
 v0:=Tryz.zeroValue0
 t3:=Tryz.underlying3
 a3:=Tryz.isAgg3
 z3:=Tryz.sizeOf3
 v3:=Tryz.zeroValue3
 t4:=Tryz.underlying4
 a4:=Tryz.isAgg4
 z4:=Tryz.sizeOf4
 v4:=Tryz.zeroValue4
 t5:=Tryz.underlying5
 a5:=Tryz.isAgg5
 z5:=Tryz.sizeOf5
 v5:=Tryz.zeroValue5
 t9:=Tryz.underlying9
 a9:=Tryz.isAgg9
 z9:=Tryz.sizeOf9
 v9:=Tryz.zeroValue9
 t21:=Tryz.underlying21
 a21:=Tryz.isAgg21
 z21:=Tryz.sizeOf21
 v21:=Tryz.zeroValue21
 t46:=Tryz.underlying270
 a46:=Tryz.isAgg270
 z46:=Tryz.sizeOf270
 v46:=Tryz.zeroValue270
 t105:=Tryz.underlying339
 a105:=Tryz.isAgg339
 z105:=Tryz.sizeOf339
 v105:=Tryz.zeroValue339
 t116:=Tryz.underlying297
 a116:=Tryz.isAgg297
 z116:=Tryz.sizeOf297
 t117:=Tryz.underlying298
 a117:=Tryz.isAgg298
 z117:=Tryz.sizeOf298
 v117:=Tryz.zeroValue298
 t119:=Tryz.underlying371
 a119:=Tryz.isAgg371
 z119:=Tryz.sizeOf371
 t124:=Tryz.underlying301
 a124:=Tryz.isAgg301
 z124:=Tryz.sizeOf301
 v124:=Tryz.zeroValue301
 t138:=Tryz.underlying373
 a138:=Tryz.isAgg373
 z138:=Tryz.sizeOf373
 v138:=Tryz.zeroValue373
 t139:=Tryz.underlying374
 a139:=Tryz.isAgg374
 z139:=Tryz.sizeOf374
 v139:=Tryz.zeroValue374
 g3:=ε
 g4:=by kernel_rfl }
open Go.RowKit in
theorem Tryz.strings_Trim_one(s:ByteArray)(c:UInt8)(hc:c.toNat<128)(w:World)(hs:s.size<=9223372036854775807) :
 Calls Tryz.prog 214 #[.string s,.string ⟨#[c]⟩] w λe w'=>e=.returned (.string ⟨(Lib.trimB s.data.toList c).toArray⟩)/\(w'=w\/w'=w.drew):=Any.strings_Trim_one Tryz.lays160 s c hc w hs
def Tryz.lays119_ren:Go.Shelf.Ren:=⟨λ|119=>349|n=>n,λ|21=>21|4=>4|n=>n,λ|n=>n⟩
theorem Tryz.lays119:Go.Proofs.Lays.n119 Tryz.prog Tryz.lays119_ren:={
 mixed:=ε
 f119:=Tryz.func349.trans (congrArg some ε)
 t4:=Tryz.underlying4
 a4:=Tryz.isAgg4
 z4:=Tryz.sizeOf4
 v4:=Tryz.zeroValue4
 t21:=Tryz.underlying21
 a21:=Tryz.isAgg21
 z21:=Tryz.sizeOf21
 v21:=Tryz.zeroValue21 }
theorem Tryz.utf8_ValidRune(r:Int)(w:World) :
 Calls Tryz.prog 349 #[.int .i32 r] w λe w'=>e=.returned (.bool (Lib.validRune r))/\w'=w:=Any.utf8_ValidRune Tryz.lays119 r w
def Tryz.lays137_ren:Go.Shelf.Ren:=⟨λ|137=>348|217=>297|266=>339|n=>n,λ|9=>9|5=>5|3=>3|n=>n,λ|n=>n⟩
theorem Tryz.lays137:Go.Proofs.Lays.n137 Tryz.prog Tryz.lays137_ren:={
 mixed:=ε
 f137:=Tryz.func348.trans (congrArg some ε)
 f217:=Tryz.func297.trans (congrArg some ε)
 f266:=Tryz.func339.trans (congrArg some ε)
 t3:=Tryz.underlying3
 a3:=Tryz.isAgg3
 z3:=Tryz.sizeOf3
 v3:=Tryz.zeroValue3
 t5:=Tryz.underlying5
 a5:=Tryz.isAgg5
 z5:=Tryz.sizeOf5
 v5:=Tryz.zeroValue5
 t9:=Tryz.underlying9
 a9:=Tryz.isAgg9
 z9:=Tryz.sizeOf9
 v9:=Tryz.zeroValue9 }
open Go.RowKit in
theorem Tryz.strings_IndexByte(s:ByteArray)(c:Int)(w:World) :
 Calls Tryz.prog 348 #[.string s,.int .u8 c] w λe w'=>e=.returned (.int .i64 (Lib.indexByte s.data.toList c.toNat.toUInt8))/\w'=w:=Any.strings_IndexByte Tryz.lays137 s c w
def Tryz.laysC172_ren:Go.Shelf.Ren:=⟨λ|172=>241|244=>313|245=>279|247=>278|279=>332|280=>333|281=>334|282=>335|287=>331|316=>354|171=>356|205=>355|321=>352|322=>353|243=>358|246=>359|283=>360|284=>361|285=>362|286=>363|129=>310|317=>364|318=>365|319=>366|320=>367|337=>368|338=>369|n=>n,λ|9=>9|3=>3|75=>259|76=>275|4=>4|5=>5|167=>341|37=>207|0=>0|85=>260|2=>2|168=>344|53=>307|175=>342|46=>270|210=>365|127=>375|145=>378|143=>376|21=>21|171=>380|173=>382|212=>385|51=>331|20=>20|213=>386|232=>387|233=>388|80=>125|n=>n,λ|15=>3|16=>4|17=>8|18=>9|19=>10|n=>n⟩
theorem Tryz.laysC172:Go.Proofs.LaysC.n172 Tryz.prog Tryz.laysC172_ren:={
 mixed:=ε
 f129:=Tryz.func310.trans (congrArg some ε)
 f171:=Tryz.func356.trans (congrArg some ε)
 f172:=Tryz.func241.trans (congrArg some ε)
 f205:=Tryz.func355.trans (congrArg some ε)
 f243:=Tryz.func358.trans (congrArg some ε)
 f244:=Tryz.func313.trans (congrArg some ε)
 f245:=Tryz.func279.trans (congrArg some ε)
 f246:=Tryz.func359.trans (congrArg some ε)
 f247:=Tryz.func278.trans (congrArg some ε)
 f279:=Tryz.func332.trans (congrArg some ε)
 f280:=Tryz.func333.trans (congrArg some ε)
 f281:=Tryz.func334.trans (congrArg some ε)
 f282:=Tryz.func335.trans (congrArg some ε)
 f283:=Tryz.func360.trans (congrArg some ε)
 f284:=Tryz.func361.trans (congrArg some ε)
 f285:=Tryz.func362.trans (congrArg some ε)
 f286:=Tryz.func363.trans (congrArg some ε)
 f287:=Tryz.func331.trans (congrArg some ε)
 f316:=Tryz.func354.trans (congrArg some ε)
 f317:=Tryz.func364.trans (congrArg some ε)
 f318:=Tryz.func365.trans (congrArg some ε)
 f319:=Tryz.func366.trans (congrArg some ε)
 f320:=Tryz.func367.trans (congrArg some ε)
 f321:=Tryz.func352.trans (congrArg some ε)
 f322:=Tryz.func353.trans (congrArg some ε)
 f337:=Tryz.func368.trans (congrArg some ε)
 f338:=Tryz.func369.trans (congrArg some ε)
 t0:=Tryz.underlying0
 a0:=Tryz.isAgg0
 z0:=Tryz.sizeOf0
 v0:=Tryz.zeroValue0
 t2:=Tryz.underlying2
 a2:=Tryz.isAgg2
 z2:=Tryz.sizeOf2
 v2:=Tryz.zeroValue2
 t3:=Tryz.underlying3
 a3:=Tryz.isAgg3
 z3:=Tryz.sizeOf3
 v3:=Tryz.zeroValue3
 t4:=Tryz.underlying4
 a4:=Tryz.isAgg4
 z4:=Tryz.sizeOf4
 v4:=Tryz.zeroValue4
 t5:=Tryz.underlying5
 a5:=Tryz.isAgg5
 z5:=Tryz.sizeOf5
 v5:=Tryz.zeroValue5
 t9:=Tryz.underlying9
 a9:=Tryz.isAgg9
 z9:=Tryz.sizeOf9
 v9:=Tryz.zeroValue9
 t20:=Tryz.underlying20
 a20:=Tryz.isAgg20
 z20:=Tryz.sizeOf20
 v20:=Tryz.zeroValue20
 t21:=Tryz.underlying21
 a21:=Tryz.isAgg21
 z21:=Tryz.sizeOf21
 v21:=Tryz.zeroValue21
 t37:=Tryz.underlying207
 a37:=Tryz.isAgg207
 z37:=Tryz.sizeOf207
 v37:=Tryz.zeroValue207
 t46:=Tryz.underlying270
 a46:=Tryz.isAgg270
 z46:=Tryz.sizeOf270
 v46:=Tryz.zeroValue270
 t51:=Tryz.underlying331
 a51:=Tryz.isAgg331
 z51:=Tryz.sizeOf331
 v51:=Tryz.zeroValue331
 t53:=Tryz.underlying307
 a53:=Tryz.isAgg307
 z53:=Tryz.sizeOf307
 v53:=Tryz.zeroValue307
 t75:=Tryz.underlying259
 a75:=Tryz.isAgg259
 z75:=Tryz.sizeOf259
 v75:=Tryz.zeroValue259
 t76:=Tryz.underlying275
 a76:=Tryz.isAgg275
 z76:=Tryz.sizeOf275
 v76:=Tryz.zeroValue275
 t85:=Tryz.underlying260
 a85:=Tryz.isAgg260
 z85:=Tryz.sizeOf260
 v85:=Tryz.zeroValue260
 t127:=Tryz.underlying375
 a127:=Tryz.isAgg375
 z127:=Tryz.sizeOf375
 v127:=Tryz.zeroValue375
 t143:=Tryz.underlying376
 a143:=Tryz.isAgg376
 z143:=Tryz.sizeOf376
 v143:=Tryz.zeroValue376
 t145:=Tryz.underlying378
 a145:=Tryz.isAgg378
 z145:=Tryz.sizeOf378
 v145:=Tryz.zeroValue378
 t167:=Tryz.underlying341
 a167:=Tryz.isAgg341
 z167:=Tryz.sizeOf341
 v167:=Tryz.zeroValue341
 t168:=Tryz.underlying344
 a168:=Tryz.isAgg344
 z168:=Tryz.sizeOf344
 v168:=Tryz.zeroValue344
 t171:=Tryz.underlying380
 a171:=Tryz.isAgg380
 z171:=Tryz.sizeOf380
 v171:=Tryz.zeroValue380
 t173:=Tryz.underlying382
 a173:=Tryz.isAgg382
 z173:=Tryz.sizeOf382
 v173:=Tryz.zeroValue382
 t175:=Tryz.underlying342
 a175:=Tryz.isAgg342
 z175:=Tryz.sizeOf342
 v175:=Tryz.zeroValue342
 t210:=Tryz.underlying365
 a210:=Tryz.isAgg365
 z210:=Tryz.sizeOf365
 v210:=Tryz.zeroValue365
 t212:=Tryz.underlying385
 a212:=Tryz.isAgg385
 z212:=Tryz.sizeOf385
 v212:=Tryz.zeroValue385
 t213:=Tryz.underlying386
 a213:=Tryz.isAgg386
 z213:=Tryz.sizeOf386
 t232:=Tryz.underlying387
 a232:=Tryz.isAgg387
 z232:=Tryz.sizeOf387
 v232:=Tryz.zeroValue387
 t233:=Tryz.underlying388
 a233:=Tryz.isAgg388
 z233:=Tryz.sizeOf388
 v233:=Tryz.zeroValue388
 g15:=ε
 g16:=ε
 g17:=ε
 g18:=ε
 g19:=ε
 t80:=Tryz.underlying125
 a80:=Tryz.isAgg125
 z80:=Tryz.sizeOf125
 v80:=Tryz.zeroValue125
 i0:=ε
 i2:=ε
 i3:=ε
 i4:=ε
 i5:=ε
 i9:=ε
 i20:=ε
 i21:=ε
 i37:=ε
 i46:=ε
 i51:=ε
 i53:=ε
 i75:=ε
 i76:=ε
 i80:=ε
 i85:=ε
 i127:=ε
 i143:=ε
 i145:=ε
 i167:=ε
 i168:=ε
 i171:=ε
 i173:=ε
 i175:=ε
 i210:=ε
 i212:=ε
 i232:=ε
 i233:=ε
 m15:=ε
 m16:=ε
 m17:=ε
 m18:=ε
 m19:=ε
 c0:=ε
 c2:=ε
 c3:=ε
 c4:=ε
 c5:=ε
 c9:=ε
 c20:=ε
 c21:=ε
 c37:=ε
 c46:=ε
 c51:=ε
 c53:=ε
 c75:=ε
 c76:=ε
 c80:=ε
 c85:=ε
 c127:=ε
 c143:=ε
 c145:=ε
 c167:=ε
 c168:=ε
 c171:=ε
 c173:=ε
 c175:=ε
 c210:=ε
 c212:=ε
 c213:=ε
 c232:=ε
 c233:=by kernel_rfl }
open Go.RowKit in
theorem Tryz.strconv_Atoi_ok(s:ByteArray)(hmax:s.size<=9223372036854775806)(v:Int)(h:Lib.atoiAll s.data.toList=.ok v)(w:World) :
 Calls Tryz.prog 241 #[.string s] w λe w'=>e=.returned (.tuple #[.int .i64 v,.nilIface])/\(w'=w\/∃t,w'=Lib.bytesWorld w 5 t):=Any.strconv_Atoi_ok Tryz.laysC172 s hmax v h w
open Go.RowKit in
theorem Tryz.strconv_Atoi_range_var(s:ByteArray)(hlim:s.size<=281474976710656)(h:Lib.atoiAll s.data.toList=.range)(tp:TypeId)(p:Value)(w:World)(hvar:w.var? Tryz.prog "strconv.ErrRange" = some #[.iface tp p]) :
 Calls Tryz.prog 241 #[.string s] w λe w'=>∃N,e=.returned (.tuple #[.int .i64 (Lib.atoiSat s.data.toList),.iface 344 (.pointer (some ⟨N,0,none⟩))])/\w.heap.size<=N/\w'.heap[N]? = some (.cells #[.string ⟨#[65,116,111,105]⟩,.string s,.iface tp p] 365 (0,0))/\Below w.heap.size w w':=Any.strconv_Atoi_range_var Tryz.laysC172 s hlim h tp p w hvar
def Tryz.laysC174_ren:Go.Shelf.Ren:=⟨λ|174=>220|247=>278|245=>279|287=>331|279=>332|280=>333|281=>334|282=>335|321=>352|322=>353|316=>354|171=>356|205=>355|243=>358|246=>359|283=>360|284=>361|285=>362|286=>363|129=>310|317=>364|318=>365|319=>366|320=>367|337=>368|338=>369|n=>n,λ|9=>9|3=>3|2=>2|75=>259|85=>260|4=>4|167=>341|5=>5|53=>307|175=>342|46=>270|168=>344|37=>207|0=>0|210=>365|21=>21|127=>375|145=>378|143=>376|171=>380|173=>382|212=>385|51=>331|20=>20|213=>386|232=>387|233=>388|80=>125|n=>n,λ|15=>3|16=>4|17=>8|18=>9|19=>10|n=>n⟩
theorem Tryz.laysC174:Go.Proofs.LaysC.n174 Tryz.prog Tryz.laysC174_ren:={
 mixed:=ε
 f129:=Tryz.func310.trans (congrArg some ε)
 f171:=Tryz.func356.trans (congrArg some ε)
 f174:=Tryz.func220.trans (congrArg some ε)
 f205:=Tryz.func355.trans (congrArg some ε)
 f243:=Tryz.func358.trans (congrArg some ε)
 f245:=Tryz.func279.trans (congrArg some ε)
 f246:=Tryz.func359.trans (congrArg some ε)
 f247:=Tryz.func278.trans (congrArg some ε)
 f279:=Tryz.func332.trans (congrArg some ε)
 f280:=Tryz.func333.trans (congrArg some ε)
 f281:=Tryz.func334.trans (congrArg some ε)
 f282:=Tryz.func335.trans (congrArg some ε)
 f283:=Tryz.func360.trans (congrArg some ε)
 f284:=Tryz.func361.trans (congrArg some ε)
 f285:=Tryz.func362.trans (congrArg some ε)
 f286:=Tryz.func363.trans (congrArg some ε)
 f287:=Tryz.func331.trans (congrArg some ε)
 f316:=Tryz.func354.trans (congrArg some ε)
 f317:=Tryz.func364.trans (congrArg some ε)
 f318:=Tryz.func365.trans (congrArg some ε)
 f319:=Tryz.func366.trans (congrArg some ε)
 f320:=Tryz.func367.trans (congrArg some ε)
 f321:=Tryz.func352.trans (congrArg some ε)
 f322:=Tryz.func353.trans (congrArg some ε)
 f337:=Tryz.func368.trans (congrArg some ε)
 f338:=Tryz.func369.trans (congrArg some ε)
 t0:=Tryz.underlying0
 a0:=Tryz.isAgg0
 z0:=Tryz.sizeOf0
 v0:=Tryz.zeroValue0
 t2:=Tryz.underlying2
 a2:=Tryz.isAgg2
 z2:=Tryz.sizeOf2
 v2:=Tryz.zeroValue2
 t3:=Tryz.underlying3
 a3:=Tryz.isAgg3
 z3:=Tryz.sizeOf3
 v3:=Tryz.zeroValue3
 t4:=Tryz.underlying4
 a4:=Tryz.isAgg4
 z4:=Tryz.sizeOf4
 v4:=Tryz.zeroValue4
 t5:=Tryz.underlying5
 a5:=Tryz.isAgg5
 z5:=Tryz.sizeOf5
 v5:=Tryz.zeroValue5
 t9:=Tryz.underlying9
 a9:=Tryz.isAgg9
 z9:=Tryz.sizeOf9
 v9:=Tryz.zeroValue9
 t20:=Tryz.underlying20
 a20:=Tryz.isAgg20
 z20:=Tryz.sizeOf20
 v20:=Tryz.zeroValue20
 t21:=Tryz.underlying21
 a21:=Tryz.isAgg21
 z21:=Tryz.sizeOf21
 v21:=Tryz.zeroValue21
 t37:=Tryz.underlying207
 a37:=Tryz.isAgg207
 z37:=Tryz.sizeOf207
 v37:=Tryz.zeroValue207
 t46:=Tryz.underlying270
 a46:=Tryz.isAgg270
 z46:=Tryz.sizeOf270
 v46:=Tryz.zeroValue270
 t51:=Tryz.underlying331
 a51:=Tryz.isAgg331
 z51:=Tryz.sizeOf331
 v51:=Tryz.zeroValue331
 t53:=Tryz.underlying307
 a53:=Tryz.isAgg307
 z53:=Tryz.sizeOf307
 v53:=Tryz.zeroValue307
 t75:=Tryz.underlying259
 a75:=Tryz.isAgg259
 z75:=Tryz.sizeOf259
 v75:=Tryz.zeroValue259
 t85:=Tryz.underlying260
 a85:=Tryz.isAgg260
 z85:=Tryz.sizeOf260
 v85:=Tryz.zeroValue260
 t127:=Tryz.underlying375
 a127:=Tryz.isAgg375
 z127:=Tryz.sizeOf375
 v127:=Tryz.zeroValue375
 t143:=Tryz.underlying376
 a143:=Tryz.isAgg376
 z143:=Tryz.sizeOf376
 v143:=Tryz.zeroValue376
 t145:=Tryz.underlying378
 a145:=Tryz.isAgg378
 z145:=Tryz.sizeOf378
 v145:=Tryz.zeroValue378
 t167:=Tryz.underlying341
 a167:=Tryz.isAgg341
 z167:=Tryz.sizeOf341
 v167:=Tryz.zeroValue341
 t168:=Tryz.underlying344
 a168:=Tryz.isAgg344
 z168:=Tryz.sizeOf344
 v168:=Tryz.zeroValue344
 t171:=Tryz.underlying380
 a171:=Tryz.isAgg380
 z171:=Tryz.sizeOf380
 v171:=Tryz.zeroValue380
 t173:=Tryz.underlying382
 a173:=Tryz.isAgg382
 z173:=Tryz.sizeOf382
 v173:=Tryz.zeroValue382
 t175:=Tryz.underlying342
 a175:=Tryz.isAgg342
 z175:=Tryz.sizeOf342
 v175:=Tryz.zeroValue342
 t210:=Tryz.underlying365
 a210:=Tryz.isAgg365
 z210:=Tryz.sizeOf365
 v210:=Tryz.zeroValue365
 t212:=Tryz.underlying385
 a212:=Tryz.isAgg385
 z212:=Tryz.sizeOf385
 v212:=Tryz.zeroValue385
 t213:=Tryz.underlying386
 a213:=Tryz.isAgg386
 z213:=Tryz.sizeOf386
 t232:=Tryz.underlying387
 a232:=Tryz.isAgg387
 z232:=Tryz.sizeOf387
 v232:=Tryz.zeroValue387
 t233:=Tryz.underlying388
 a233:=Tryz.isAgg388
 z233:=Tryz.sizeOf388
 v233:=Tryz.zeroValue388
 g15:=ε
 g16:=ε
 g17:=ε
 g18:=ε
 g19:=ε
 t80:=Tryz.underlying125
 a80:=Tryz.isAgg125
 z80:=Tryz.sizeOf125
 v80:=Tryz.zeroValue125
 i0:=ε
 i2:=ε
 i3:=ε
 i4:=ε
 i5:=ε
 i9:=ε
 i20:=ε
 i21:=ε
 i37:=ε
 i46:=ε
 i51:=ε
 i53:=ε
 i75:=ε
 i80:=ε
 i85:=ε
 i127:=ε
 i143:=ε
 i145:=ε
 i167:=ε
 i168:=ε
 i171:=ε
 i173:=ε
 i175:=ε
 i210:=ε
 i212:=ε
 i232:=ε
 i233:=ε
 m15:=ε
 m16:=ε
 m17:=ε
 m18:=ε
 m19:=ε
 c0:=ε
 c2:=ε
 c3:=ε
 c4:=ε
 c5:=ε
 c9:=ε
 c20:=ε
 c21:=ε
 c37:=ε
 c46:=ε
 c51:=ε
 c53:=ε
 c75:=ε
 c80:=ε
 c85:=ε
 c127:=ε
 c143:=ε
 c145:=ε
 c167:=ε
 c168:=ε
 c171:=ε
 c173:=ε
 c175:=ε
 c210:=ε
 c212:=ε
 c213:=ε
 c232:=ε
 c233:=by kernel_rfl }
open Go.RowKit in
theorem Tryz.strconv_ParseInt_10_at64_ok(s:ByteArray)(hmax:s.size<=9223372036854775806)(v:Int)(h:Lib.parseIntB 64 s.data.toList=.ok v)(w:World) :
 Calls Tryz.prog 220 #[.string s,.int .i64 10,.int .i64 64] w λe w'=>e=.returned (.tuple #[.int .i64 v,.nilIface])/\(w'=w\/∃t,w'=Lib.bytesWorld w 5 t):=Any.strconv_ParseInt_10_at64_ok Tryz.laysC174 s hmax v h w
def Tryz.lays144_ren:Go.Shelf.Ren:=⟨λ|144=>80|143=>151|219=>230|217=>297|225=>298|224=>299|267=>300|266=>339|314=>340|n=>n,λ|9=>9|4=>4|3=>3|5=>5|46=>270|146=>353|51=>331|n=>n,λ|1=>0|n=>n⟩
theorem Tryz.lays144:Go.Proofs.Lays.n144 Tryz.prog Tryz.lays144_ren:={
 mixed:=ε
 f143:=Tryz.func151.trans (congrArg some ε)
 f144:=Tryz.func80.trans (congrArg some ε)
 f217:=Tryz.func297.trans (congrArg some ε)
 f219:=Tryz.func230.trans (congrArg some ε)
 f224:=Tryz.func299.trans (congrArg some ε)
 f225:=Tryz.func298.trans (congrArg some ε)
 f266:=Tryz.func339.trans (congrArg some ε)
 f267:=Tryz.func300.trans (congrArg some ε)
 f314:=Tryz.func340.trans (congrArg some ε)
 t3:=Tryz.underlying3
 a3:=Tryz.isAgg3
 z3:=Tryz.sizeOf3
 v3:=Tryz.zeroValue3
 t4:=Tryz.underlying4
 a4:=Tryz.isAgg4
 z4:=Tryz.sizeOf4
 v4:=Tryz.zeroValue4
 t5:=Tryz.underlying5
 a5:=Tryz.isAgg5
 z5:=Tryz.sizeOf5
 v5:=Tryz.zeroValue5
 t9:=Tryz.underlying9
 a9:=Tryz.isAgg9
 z9:=Tryz.sizeOf9
 v9:=Tryz.zeroValue9
 t46:=Tryz.underlying270
 a46:=Tryz.isAgg270
 z46:=Tryz.sizeOf270
 v46:=Tryz.zeroValue270
 t51:=Tryz.underlying331
 a51:=Tryz.isAgg331
 z51:=Tryz.sizeOf331
 v51:=Tryz.zeroValue331
 t146:=Tryz.underlying353
 a146:=Tryz.isAgg353
 z146:=Tryz.sizeOf353
 v146:=Tryz.zeroValue353
 g1:=by kernel_rfl }
open Go.RowKit Go.Lib in
theorem Tryz.strings_Contains_one(s:ByteArray)(c:UInt8)(w:World) :
 Calls Tryz.prog 80 #[.string s,.string ⟨#[c]⟩] w λe w'=>e=.returned (.bool (decide (0<=Lib.indexByte s.data.toList c)))/\w'=w:=Any.strings_Contains_one Tryz.lays144 s c w
def Tryz.laysGw15_ren:Go.Shelf.Ren:=⟨λ|15=>266|20=>326|n=>n,λ|9=>9|23=>294|3=>3|4=>4|0=>0|21=>21|n=>n,λ|n=>n⟩
theorem Tryz.laysGw15:Go.Proofs.LaysGw.n15 Tryz.prog Tryz.laysGw15_ren:={
 mixed:=ε
 f15:=Tryz.func266.trans (congrArg some ε)
 f20:=Tryz.func326.trans (congrArg some ε)
 t0:=Tryz.underlying0
 a0:=Tryz.isAgg0
 z0:=Tryz.sizeOf0
 v0:=Tryz.zeroValue0
 i0:=ε
 t3:=Tryz.underlying3
 a3:=Tryz.isAgg3
 z3:=Tryz.sizeOf3
 v3:=Tryz.zeroValue3
 i3:=ε
 t4:=Tryz.underlying4
 a4:=Tryz.isAgg4
 z4:=Tryz.sizeOf4
 v4:=Tryz.zeroValue4
 i4:=ε
 t9:=Tryz.underlying9
 a9:=Tryz.isAgg9
 z9:=Tryz.sizeOf9
 v9:=Tryz.zeroValue9
 i9:=ε
 t21:=Tryz.underlying21
 a21:=Tryz.isAgg21
 z21:=Tryz.sizeOf21
 v21:=Tryz.zeroValue21
 i21:=ε
 t23:=Tryz.underlying294
 a23:=Tryz.isAgg294
 z23:=Tryz.sizeOf294
 v23:=Tryz.zeroValue294
 i23:=by kernel_rfl }
def Tryz.lays151_ren:Go.Shelf.Ren:=⟨λ|151=>268|152=>327|137=>348|119=>349|224=>299|225=>298|217=>297|266=>339|n=>n,λ|9=>9|21=>21|4=>4|3=>3|5=>5|0=>0|46=>270|n=>n,λ|n=>n⟩
theorem Tryz.lays151:Go.Proofs.Lays.n151 Tryz.prog Tryz.lays151_ren:={
 mixed:=ε
 f119:=Tryz.func349.trans (congrArg some ε)
 f137:=Tryz.func348.trans (congrArg some ε)
 f151:=Tryz.func268.trans (congrArg some ε)
 f152:=Tryz.func327.trans (congrArg some ε)
 f217:=Tryz.func297.trans (congrArg some ε)
 f224:=Tryz.func299.trans (congrArg some ε)
 f225:=Tryz.func298.trans (congrArg some ε)
 f266:=Tryz.func339.trans (congrArg some ε)
 t0:=Tryz.underlying0
 a0:=Tryz.isAgg0
 z0:=Tryz.sizeOf0
 v0:=Tryz.zeroValue0
 t3:=Tryz.underlying3
 a3:=Tryz.isAgg3
 z3:=Tryz.sizeOf3
 v3:=Tryz.zeroValue3
 t4:=Tryz.underlying4
 a4:=Tryz.isAgg4
 z4:=Tryz.sizeOf4
 v4:=Tryz.zeroValue4
 t5:=Tryz.underlying5
 a5:=Tryz.isAgg5
 z5:=Tryz.sizeOf5
 v5:=Tryz.zeroValue5
 t9:=Tryz.underlying9
 a9:=Tryz.isAgg9
 z9:=Tryz.sizeOf9
 v9:=Tryz.zeroValue9
 t21:=Tryz.underlying21
 a21:=Tryz.isAgg21
 z21:=Tryz.sizeOf21
 v21:=Tryz.zeroValue21
 t46:=Tryz.underlying270
 a46:=Tryz.isAgg270
 z46:=Tryz.sizeOf270
 v46:=Tryz.zeroValue270 }
open Go.RowKit Go.Lib in
theorem Tryz.strings_ContainsRune_ascii(s:ByteArray)(r:Int)(w:World)(h0:0<=r)(h1:r<128) :
 Calls Tryz.prog 268 #[.string s,.int .i32 r] w λe w'=>e=.returned (.bool (decide (0<=Lib.indexByte s.data.toList r.toNat.toUInt8)))/\w'=w:=Any.strings_ContainsRune_ascii Tryz.lays151 s r w h0 h1
def Tryz.lays264_ren:Go.Shelf.Ren:=⟨λ|264=>280|n=>n,λ|53=>307|46=>270|n=>n,λ|n=>n⟩
theorem Tryz.lays264:Go.Proofs.Lays.n264 Tryz.prog Tryz.lays264_ren:={
 mixed:=ε
 f264:=Tryz.func280.trans (congrArg some ε)
 t46:=Tryz.underlying270
 a46:=Tryz.isAgg270
 z46:=Tryz.sizeOf270
 v46:=Tryz.zeroValue270
 t53:=Tryz.underlying307
 a53:=Tryz.isAgg307
 z53:=Tryz.sizeOf307
 v53:=Tryz.zeroValue307 }
open Go.RowKit Go.Lib in
theorem Tryz.bits_Mul64(x y:Nat)(hx:x<18446744073709551616)(hy:y<18446744073709551616)(w:World) :
 Calls Tryz.prog 280 #[.int .u64 x,.int .u64 y] w λe w'=>e=.returned (.tuple #[.int .u64 ((x*y/18446744073709551616:Nat):Int),.int .u64 ((x*y%18446744073709551616:Nat):Int)])/\w'=w:=Any.bits_Mul64 Tryz.lays264 x y hx hy w
open Go.RowKit Go.Lib in
theorem Tryz.strings_IndexFunc_grows(g:Nat)(lb:Array Value)(eg:∀args w,(callFunc g args).run Tryz.prog w=.ok (.enter g args) w)(p:Nat->Bool)(s:ByteArray)(w:World)(hp:PredGrows Tryz.prog g lb p w) :
 Calls Tryz.prog 266 #[.string s,.func (.func g) #[] lb] w λe w'=>e=.returned (.int .i64 (Lib.idxFunc p true s))/\Below w.heap.size w w':=Any.strings_IndexFunc_grows Tryz.laysGw15 g lb eg p s w hp
end Go.Proofs
end
section
namespace Go.Proofs.YtcffhjfdlflbgaaGreatDoor
open Go.RowKit
variable{x:Int}{b:UInt8}
theorem Atoi_ok(s:ByteArray)(v:Int)(w:World)(hs:wfB s)(h:Lib.atoiAll s.data.toList=.ok v) :
 Calls Tryz.prog 241 #[.string s] w λe w'=>e=.returned (.tuple #[.int .i64 v,.nilIface])/\Below w.heap.size w w':=by
 unfold wfB at hs;refine(Tryz.strconv_Atoi_ok s δ v h w).mono ?_;rintro e w' ⟨rfl,rfl|⟨t,rfl⟩⟩
 . exact⟨rfl,Below.refl _ _⟩
 . exact⟨rfl,Lib.bytesWorld_below _ _ _⟩
theorem Atoi_no(s:ByteArray)(w:World)(hG:Glob w)(hs:wfB s)(h:∀v,Lib.atoiAll s.data.toList≠.ok v) :
 Calls Tryz.prog 241 #[.string s] w λe w'=>∃n t p,e=.returned (.tuple #[.int .i64 n,.iface t p])/\Below w.heap.size w w':=by
 unfold wfB at hs;rcases ha:Lib.atoiAll s.data.toList with v|_|_
 . exact absurd ha (h v)
 . obtain⟨tp,p,e1⟩:=hG.c0;refine(Any.strconv_Atoi_syntax_var Tryz.laysC172 s δ ha tp p w e1).mono ?_;rintro e w' ⟨N,rfl,_,_,hB⟩;exact⟨_,_,_,rfl,hB⟩
 . obtain⟨tp,p,e1⟩:=hG.b0;refine(Tryz.strconv_Atoi_range_var s δ ha tp p w e1).mono ?_;rintro e w' ⟨N,rfl,_,_,hB⟩;exact⟨_,_,_,rfl,hB⟩
theorem Season(d:Dt)(w:World)(hG:Glob w)(hd:wfD d) :
 Calls Tryz.prog 167 #[.agg #[.bool d.g0,.bool d.f0,.string d.b0,.int .i64 d.c0,.int .i64 d.e0,.string d.a0,.string d.d0,.int .u8 d.m0,.int .u8 d.m1,.int .u8 d.m2]] w λe w'=>e=.returned (.tuple #[.int .i64 (seas d),.bool (decide (seas d≠0))])/\Below w.heap.size w w':=by
 have HB:=Lib.hid hd.1.2.1;clear hd;by_cases h:∃v,Lib.atoiAll d.a0.data.toList=.ok v
 . obtain⟨v,hv⟩:=h;have HV:=Lib.hid hv;by_cases hl:d.a0.size=2
   . have hl2:((d.a0.size:Int) !=2)=false:=by simp[hl]
     by_cases hc:okC v
     . have V:=Lib.hid (show seas d=v from seasL_ok hv hl hc.1 hc.2);have V2:=Lib.hid (show decide (v≠0)=true by have:=hc.1;exact decide_eq_true (by omega));have HC:=Lib.hid hc;clear hv hl hc;go_enter Tryz.func167,Tryz.ntmps167
       go_wp2_with (first|(go_at_call 241;refine(Atoi_ok _ _ _ HB.out HV.out).mono ?_;rintro e w1 ⟨rfl,hb⟩;obtain⟨hc,hf⟩:=bcell hb;have hz:=hb.size;(try simp only[World.size_alloc,World.size_setCell,World.size_drew]at hz hc hf);(try have⟨hl0,hc0,hf0⟩:=bk hc hf hz (w.heap.size) (by omega));(try have⟨hl1,hc1,hf1⟩:=bk hc hf hz (w.heap.size+1) (by omega));(try have⟨hl2,hc2,hf2⟩:=bk hc hf hz (w.heap.size+2) (by omega));(try have⟨hl3,hc3,hf3⟩:=bk hc hf hz (w.heap.size+3) (by omega));(try have⟨hl4,hc4,hf4⟩:=bk hc hf hz (w.heap.size+4) (by omega)))|(go_at_call 242;refine(seasons_Check_ok _ _ HC.out).mono ?_;rintro e w' ⟨rfl,rfl⟩))
       go_ret2
       exact⟨by rw[V.out,V2.out];simp,bC⟩
     . have V:=Lib.hid (show seas d=0 from seasL_no λx hx h=>by rw[hv]at hx;cases hx;exact hc h.2);have HC:=Lib.hid hc;clear hv hl hc;go_enter Tryz.func167,Tryz.ntmps167
       go_wp2_with (first|(go_at_call 241;refine(Atoi_ok _ _ _ HB.out HV.out).mono ?_;rintro e w1 ⟨rfl,hb⟩;obtain⟨hc,hf⟩:=bcell hb;have hz:=hb.size;(try simp only[World.size_alloc,World.size_setCell,World.size_drew]at hz hc hf);(try have⟨hl0,hc0,hf0⟩:=bk hc hf hz (w.heap.size) (by omega));(try have⟨hl1,hc1,hf1⟩:=bk hc hf hz (w.heap.size+1) (by omega));(try have⟨hl2,hc2,hf2⟩:=bk hc hf hz (w.heap.size+2) (by omega));(try have⟨hl3,hc3,hf3⟩:=bk hc hf hz (w.heap.size+3) (by omega));(try have⟨hl4,hc4,hf4⟩:=bk hc hf hz (w.heap.size+4) (by omega)))|(go_at_call 242;refine(seasons_Check_no _ _ HC.out).mono ?_;rintro e w' ⟨rfl,rfl⟩))
       go_ret2
       exact⟨by rw[V.out];simp,bC⟩
   . have V:=Lib.hid (show seas d=0 from seasL_len hl);have hl2:((d.a0.size:Int) !=2)=true:=by simp;omega
     clear hv hl;go_enter Tryz.func167,Tryz.ntmps167
     go_wp2_with (first|(go_at_call 241;refine(Atoi_ok _ _ _ HB.out HV.out).mono ?_;rintro e w1 ⟨rfl,hb⟩;obtain⟨hc,hf⟩:=bcell hb;have hz:=hb.size;(try simp only[World.size_alloc,World.size_setCell,World.size_drew]at hz hc hf);(try have⟨hl0,hc0,hf0⟩:=bk hc hf hz (w.heap.size) (by omega));(try have⟨hl1,hc1,hf1⟩:=bk hc hf hz (w.heap.size+1) (by omega));(try have⟨hl2,hc2,hf2⟩:=bk hc hf hz (w.heap.size+2) (by omega));(try have⟨hl3,hc3,hf3⟩:=bk hc hf hz (w.heap.size+3) (by omega));(try have⟨hl4,hc4,hf4⟩:=bk hc hf hz (w.heap.size+4) (by omega))))
     go_ret2
     exact⟨by rw[V.out];simp,bC⟩
 . have h2:∀v,Lib.atoiAll d.a0.data.toList≠.ok v:=λv hv=>h ⟨v,hv⟩;have V:=Lib.hid (show seas d=0 from seasL_no λx hx _=>h2 x hx);have HV:=Lib.hid h2;clear h h2;go_enter Tryz.func167,Tryz.ntmps167
   go_wp2_with (first|(go_at_call 241;refine(Atoi_no _ _ gC HB.out HV.out).mono ?_;rintro e w1 ⟨n,t,p,rfl,hb⟩;obtain⟨hc,hf⟩:=bcell hb;have hz:=hb.size;(try simp only[World.size_alloc,World.size_setCell,World.size_drew]at hz hc hf);(try have⟨hl0,hc0,hf0⟩:=bk hc hf hz (w.heap.size) (by omega));(try have⟨hl1,hc1,hf1⟩:=bk hc hf hz (w.heap.size+1) (by omega));(try have⟨hl2,hc2,hf2⟩:=bk hc hf hz (w.heap.size+2) (by omega));(try have⟨hl3,hc3,hf3⟩:=bk hc hf hz (w.heap.size+3) (by omega));(try have⟨hl4,hc4,hf4⟩:=bk hc hf hz (w.heap.size+4) (by omega))))
   go_ret2
   exact⟨by rw[V.out];simp,bC⟩
def errMk(m:Int):Int:=if 3<m then 9 else 0
theorem ints_size(a:Nat)(w:World)(h:a<=9223372036854775807):Calls Tryz.prog 281 #[.int .i64 (a:Int)] w λe w'=>e=.returned (.int .u64 (a:Int))/\w=w':=by
 go_enter Tryz.func281,Tryz.ntmps281
 go_wp2;go_ret
 simp
theorem ints_signed_ok(a:Nat)(w:World)(h:a<=9223372036854775807):Calls Tryz.prog 282 #[.int .u64 (a:Int),.bool false] w λe w'=>e=.returned (.tuple #[.int .i64 (a:Int),.int .i64 0])/\w=w':=by
 go_enter Tryz.func282,Tryz.ntmps282
 go_wp2;go_ret2
 simp
theorem ints_signed_no(a:Nat)(w:World)(h:9223372036854775807<a):Calls Tryz.prog 282 #[.int .u64 (a:Int),.bool false] w λe w'=>e=.returned (.tuple #[.int .i64 0,.int .i64 15])/\w=w':=by
 go_enter Tryz.func282,Tryz.ntmps282
 go_wp2;go_ret2
 simp
theorem Mul64(x y:Nat)(w:World)(hx:x<18446744073709551616)(hy:y<18446744073709551616)(a b:Nat)(ha:x*y/18446744073709551616=a)(hb:x*y%18446744073709551616=b) :
 Calls Tryz.prog 280 #[.int .u64 (x:Int),.int .u64 (y:Int)] w λe w'=>e=.returned (.tuple #[.int .u64 (a:Int),.int .u64 (b:Int)])/\w=w':=by
 subst ha;subst hb;refine(Tryz.bits_Mul64 x y hx hy w).mono ?_;rintro e w' ⟨rfl,rfl⟩;exact⟨rfl,rfl⟩
theorem Mul_ok(a b:Nat)(w:World)(ha:a<=9223372036854775807)(hb0:b<=9223372036854775807)(h:a*b<=9223372036854775807) :
 Calls Tryz.prog 221 #[.int .i64 (a:Int),.int .i64 (b:Int)] w λe w'=>e=.returned (.tuple #[.int .i64 ((a*b:Nat):Int),.int .i64 0])/\Below w.heap.size w w':=by
 obtain⟨m,hm⟩:∃m,a*b=m:=⟨_,rfl⟩;have e1:a*b/18446744073709551616=0:=δ
 have e2:a*b%18446744073709551616=m:=δ
 rw[hm]at h ⊢;clear hm;go_enter Tryz.func221,Tryz.ntmps221
 go_wp2_with (first|(go_at_call 281;refine(ints_size _ _ δ).mono ?_;rintro e w' ⟨rfl,rfl⟩)|(go_at_call 280;refine(Mul64 _ _ _ δ δ _ _ e1 e2).mono ?_;rintro e w' ⟨rfl,rfl⟩)|(go_at_call 282;refine(ints_signed_ok _ _ δ).mono ?_;rintro e w' ⟨rfl,rfl⟩))
 go_ret2
 exact⟨by simp,bC⟩
theorem Mul_no(a b:Nat)(w:World)(ha:a<=9223372036854775807)(hb0:b<=9223372036854775807)(h:9223372036854775807<a*b) :
 Calls Tryz.prog 221 #[.int .i64 (a:Int),.int .i64 (b:Int)] w λe w'=>e=.returned (.tuple #[.int .i64 0,.int .i64 15])/\Below w.heap.size w w':=by
 obtain⟨q,e1⟩:∃q,a*b/18446744073709551616=q:=⟨_,rfl⟩;obtain⟨m,e2⟩:∃m,a*b%18446744073709551616=m:=⟨_,rfl⟩;have hm:m<18446744073709551616:=δ
 by_cases hq:0<q
 . clear h;go_enter Tryz.func221,Tryz.ntmps221
   go_wp2_with (first|(go_at_call 281;refine(ints_size _ _ δ).mono ?_;rintro e w' ⟨rfl,rfl⟩)|(go_at_call 280;refine(Mul64 _ _ _ δ δ _ _ e1 e2).mono ?_;rintro e w' ⟨rfl,rfl⟩))
   go_ret2
   exact⟨by simp,bC⟩
 . have hq0:q=0:=δ
   have h2:9223372036854775807<m:=δ
   subst hq0;clear h;go_enter Tryz.func221,Tryz.ntmps221
   go_wp2_with (first|(go_at_call 281;refine(ints_size _ _ δ).mono ?_;rintro e w' ⟨rfl,rfl⟩)|(go_at_call 280;refine(Mul64 _ _ _ δ δ _ _ e1 e2).mono ?_;rintro e w' ⟨rfl,rfl⟩)|(go_at_call 282;refine(ints_signed_no _ _ δ).mono ?_;rintro e w' ⟨rfl,rfl⟩))
   go_ret2
   exact⟨by simp,bC⟩
def mb(b:UInt8):Prop:=b.toNat=88\/48<=b.toNat/\b.toNat<=57
def dig(x:Int)(b:UInt8):Int:=(if b.toNat=88 then x else(b.toNat:Int))-48
theorem dig_X(h:b.toNat=88):dig x b=x-48:=by unfold dig;rw[if_pos h]
theorem dig_D(h:b.toNat≠88):dig x b=(b.toNat:Int)-48:=by unfold dig;rw[if_neg h]
def fillv(x:Int)(l:List UInt8):Int:=l.foldl (λn b=>10*n+dig x b) 0
theorem fillv_snoc(x:Int)(l:List UInt8)(b:UInt8):fillv x (l++[b])=10*fillv x l+dig x b:=by simp[fillv]
theorem take_snocB(s:ByteArray)(k:Nat)(h:k<s.size):s.data.toList.take (k+1)=s.data.toList.take k++[s[k]]:=by
 rw[List.take_succ_eq_append_getElem (by simpa using h)];rfl
theorem dig_bd(hx:48<=x/\x<=57)(hb:mb b):0<=dig x b/\dig x b<=9:=by
 unfold dig;unfold mb at hb;split<;>omega
theorem fold_bd{x:Int}(hx:48<=x/\x<=57):∀(l:List UInt8) (n:Int) (a:Nat),(∀b∈l,mb b)->0<=n->n<((10^a:Nat):Int)->0<=l.foldl (λn b=>10*n+dig x b) n/\l.foldl (λn b=>10*n+dig x b) n<((10^(a+l.length):Nat):Int)
 | [],n,a,_,h0,h1=>⟨h0,h1⟩
 | b::l,n,a,h,h0,h1=>by
   have h2:=dig_bd hx (h b θ);have ih:=fold_bd hx l (10*n+dig x b) (a+1) (λc hc=>h c (by simp[hc])) δ (by rw[Nat.pow_succ];omega);rw[List.foldl_cons,zAd,show a+(l.length+1)=a+1+l.length by omega];exact ih
theorem fillv_bd(hx:48<=x/\x<=57)(l:List UInt8)(h:∀b∈l,mb b):0<=fillv x l/\fillv x l<((10^l.length:Nat):Int):=by
 have:=fold_bd hx l 0 0 h ζ ζ;rw[Nat.zero_add]at this;exact this
theorem fillv_bd18(hx:48<=x/\x<=57)(s:ByteArray)(hs:s.size<=18)(hm:∀(i:Nat) (h:i<s.size),mb s[i])(k:Nat)(hk:k<s.size):0<=fillv x (s.data.toList.take k)/\fillv x (s.data.toList.take k)<100000000000000000:=by
 have e:s.data.size=s.size:=rfl;have h:=fillv_bd hx (s.data.toList.take k) (by
  intro b hb;obtain⟨i,hi,rfl⟩:=ξ hb;have hi2:i<s.size:=by simp at hi;omega
  have h3:mb s[i]:=hm i hi2;have h4:(s.data.toList.take k)[i]=s[i]:=by simp;rfl
  rw[h4];exact h3)
 have hl:(s.data.toList.take k).length<=17:=by simp;omega
 have hp:=Nat.pow_le_pow_right (show 10 > 0 by decide) hl;have e2:(10:Nat)^17=100000000000000000:=by decide
 omega
end Go.Proofs.YtcffhjfdlflbgaaGreatDoor
end
set_option linter.all false
set_option maxRecDepth 100000
set_option maxHeartbeats 4000000
section
namespace Go.Proofs.YtcffhjfdlflbgaaGreatDoor
open Go.RowKit
variable{r:Nat}
theorem enc_facts(h:128<=r)(h2:r<=1114111):∃rs:ByteArray,Utf8.encode (r:Int)=rs/\2<=rs.size/\rs.size<=4/\∀(i:Nat) (hi:i<rs.size),i+1=rs.size->128<=rs[i].toNat:=by
 have key:∀c:Nat,128<=c->c<=1114111->∀rs:ByteArray,rs=(let b (n:Nat):UInt8:=UInt8.ofNat n
  if c<0x80 then⟨#[b c]⟩
  else if c<0x800 then⟨#[b (0xC0+c/64),b (0x80+c%64)]⟩
  else if c<0x10000 then⟨#[b (0xE0+c/4096),b (0x80+c/64%64),b (0x80+c%64)]⟩
  else⟨#[b (0xF0+c/262144),b (0x80+c/4096%64),b (0x80+c/64%64),b (0x80+c%64)]⟩:ByteArray)->2<=rs.size/\rs.size<=4/\∀(i:Nat) (hi:i<rs.size),i+1=rs.size->128<=rs[i].toNat:=by
  intro c h1 h2 rs e;have hb:128<=(UInt8.ofNat (0x80+c%64)).toNat:=by simp;omega
  rw[if_neg (by omega)]at e;split at e
  . subst e;refine⟨show 2<=2 by decide,show 2<=4 by decide,λi hi k=>?_⟩;have:i=1:=by have e2:i+1=2:=k;omega
    subst this;exact hb
  . split at e
    . subst e;refine⟨show 2<=3 by decide,show 3<=4 by decide,λi hi k=>?_⟩;have:i=2:=by have e2:i+1=3:=k;omega
      subst this;exact hb
    . subst e;refine⟨show 2<=4 by decide,show 4<=4 by decide,λi hi k=>?_⟩;have:i=3:=by have e2:i+1=4:=k;omega
      subst this;exact hb
 refine⟨_,rfl,?_⟩;by_cases hv:Utf8.valid (r:Int)
 . refine key r h h2 _ ?_;unfold Utf8.encode;simp only[hv,if_true,Int.toNat_natCast]
 . refine key Utf8.runeError (by decide) (by decide) _ ?_;unfold Utf8.encode;simp only[hv];rfl
theorem indexByte_high:∀(l:List UInt8) (c:UInt8),(∀b∈l,b.toNat<128)->128<=c.toNat->¬0<=Lib.indexByte l c:=by
 intro l c h hc hi;rw[<-decide_eq_true_iff (p:=0<=Lib.indexByte l c),<-Lib.contains_iff_indexByte]at hi;have:=h c (by simpa using hi);omega
theorem indexByte_no{l:List UInt8}{c:UInt8}(h:¬0<=Lib.indexByte l c):Lib.indexByte l c = -1:=by
 have:=Lib.indexByte_ge l c;omega
theorem IndexByte_none(t:ByteArray)(c:Int)(w:World)(h:∀b∈t.data.toList,b.toNat<128)(h0:128<=c)(h1:c<256) :
 Calls Tryz.prog 348 #[.string t,.int .u8 c] w λe w'=>e=.returned (.int .i64 (-1))/\w'=w:=by
 refine(Tryz.strings_IndexByte t c w).mono ?_;rintro e w' ⟨rfl,rfl⟩;exact⟨by rw[indexByte_no (indexByte_high _ _ h (by simp;omega))],rfl⟩
theorem extract_mem(s:ByteArray)(a e:Nat):∀b∈(s.extract a e).data.toList,b∈s.data.toList:=by
 intro b hb;rw[ByteArray.data_extract,Array.toList_extract]at hb;exact List.mem_of_mem_drop (List.mem_of_mem_take (by simpa [List.extract]using hb))
theorem ValidRune_is(r:Int)(b:Bool)(w:World)(h:Lib.validRune r=b):Calls Tryz.prog 349 #[.int .i32 r] w λe w'=>e=.returned (.bool b)/\w=w':=by
 refine(Tryz.utf8_ValidRune r w).mono ?_;rintro e w' ⟨rfl,rfl⟩;exact⟨by rw[h],rfl⟩
theorem ix_at(s:ByteArray)(m:Nat)(h:m<s.size)(c:Nat)(hc:s[m].toNat=c)(w:World):(Instr.index 9 (.string s) (.int .i64 (m:Int))).run Tryz.prog w=.ok (.int .u8 (c:Int)) w:=by
 rw[run_index_string (w:=w) 9 s .i64 (m:Int) Tryz.underlying9,dif_pos ⟨by omega,by omega⟩];subst hc;rfl
theorem slice_from(s:ByteArray)(m:Nat)(h:m<=s.size)(w:World):(Instr.slice 9 (.string s) (some (.int .i64 (m:Int))) none none).run Tryz.prog w=.ok (.string (s.extract m s.size)) w:=by
 rw[run_slice_string_l (w:=w) (t:=9) (ht:=Tryz.underlying9) (s:=s) .i64 (m:Int) δ δ];rfl
theorem biter{w:World}(s:ByteArray)(p:Nat):Below w.heap.size w (w.iter s p):=(Below.refl _ _).alloc (Nat.le_refl _) _
set_option maxRecDepth 1000000 in
set_option maxHeartbeats 2000000 in
theorem IndexRune_err(s:ByteArray)(w:World)(ha:∀(i:Nat) (h:i<s.size),s[i].toNat<128) :
 Calls Tryz.prog 327 #[.string s,.int .i32 65533] w λe w'=>e=.returned (.int .i64 (-1))/\Below w.heap.size w w':=by
 have HM:=Lib.hid ha;clear ha;go_enter Tryz.func327,Tryz.ntmps327
 go_wp2;go_loopw [5,6] (λ_ _ wr=>∃pos,pos<=s.size/\wr=w.iter s pos) (λ_ _ wr=>s.size-wr.iterPos w.heap.size)
 case atStart=>exact⟨0,by omega,rfl⟩
 case round=>
  obtain⟨pos,hp,rfl⟩:=hrel;by_cases hlt:pos<s.size
  . have hb:=HM.out pos hlt;have nx:=λty=>run_next_ascii (P:=Tryz.prog) w s pos ty hlt (by omega);generalize hc:s[pos]=c at *;clear hc;have t0:((c.toNat:Int)==65533)=false:=by simp;omega
    go_wp2;go_roundw
    case rel=>exact⟨pos+1,by omega,rfl⟩
    case measure=>simp;omega
  . have nx:=λty=>run_next_end (P:=Tryz.prog) w s pos ty hlt;go_wp2;go_ret
    exact⟨by simp,biter _ _⟩
set_option maxRecDepth 1000000 in
set_option maxHeartbeats 2000000 in
theorem IndexRune_high(s:ByteArray)(r:Nat)(w:World)(hs:4<=s.size)(hs2:s.size<=100)(ha:∀(i:Nat) (h:i<s.size),s[i].toNat<128)(h:128<=r)(h2:r<=1114111)(hr:r≠65533) :
 Calls Tryz.prog 327 #[.string s,.int .i32 (r:Int)] w λe w'=>e=.returned (.int .i64 (-1))/\Below w.heap.size w w':=by
 have q0:decide ((r:Int)<128)=false:=by simp;omega
 have q1:((r:Int)==65533)=false:=by simp;omega
 by_cases hv:Lib.validRune (r:Int)=true
 . obtain⟨rs,er,z1,z2,hl⟩:=enc_facts h h2;obtain⟨m,hm⟩:∃m,rs.size=m+1:=⟨rs.size-1,by omega⟩;have hm1:m<s.size:=by omega
   have hm2:m<rs.size:=by omega
   have L1:=ha m hm1;have L2:=hl m hm2 (by omega);have L3:=rs[m].toNat_lt;obtain⟨c1,e1⟩:∃c,s[m].toNat=c:=⟨_,rfl⟩;obtain⟨c2,e2⟩:∃c,rs[m].toNat=c:=⟨_,rfl⟩;have x1:=ix_at s m hm1 c1 e1;have x2:=ix_at rs m hm2 c2 e2;rw[e1]at L1;rw[e2]at L2 L3;clear e1 e2;have x3:∀w:World,(Instr.slice 9 (.string s) (some (.int .i64 ((m:Int)+1))) none none).run Tryz.prog w=.ok (.string (s.extract (m+1) s.size)) w:=slice_from s (m+1) (by omega);have x4:IntKind.i64.wrap ((m:Int)+1)=(m:Int)+1:=IntWalk.i64_in _ (by omega);have t1:((c1:Int) !=(c2:Int))=true:=by simp;omega
   have HA:Hid (∀b∈s.data.toList,b.toNat<128):=Lib.hid (by
    intro b hb;obtain⟨i,hi,rfl⟩:=ξ hb;exact ha i (by simpa using hi))
   clear ha hl;go_enter Tryz.func327,Tryz.ntmps327
   go_wp2_with (first|(go_at_call 349;refine(ValidRune_is _ _ _ hv).mono ?_;rintro e w' ⟨rfl,rfl⟩))
   have cv:∀w:World,(convert 21 9 (.int .i32 (r:Int))).run Tryz.prog w=.ok (.string rs) w:=λw=>by rw[run_convert_int_string w 21 9 .i32 r (by kernel_rfl) (by kernel_rfl),er]
   go_wp2;go_step3
   go_wp2;go_loopw [4,9,10,11] (λ_ i _ _ wr=>i=.int .i64 (m:Int)/\wr=w) (λ_ _ _ _ _=>0)
   case atStart=>exact⟨rfl,rfl⟩
   case round=>
    obtain⟨rfl,rfl⟩:=hrel;go_wp2;go_step3
    go_wp2;go_quiet (fail)
    go_wp2;go_quiet ((go_at_call 348;exact(IndexByte_none _ _ _ (λb hb=>HA.out b (extract_mem _ _ _ b hb)) (by omega) (by omega)).mono λ_ _ h=>⟨h.1,_,h.2⟩))
    go_wp2;rw[Exit.noGoto_ret];simp +zetaDelta only[Exit.inBlock,Exit.then,Exit.noGoto];go_ret
    exact⟨by simp,bC⟩
 . have hv2:Lib.validRune (r:Int)=false:=by simpa using hv
   go_enter Tryz.func327,Tryz.ntmps327
   go_wp2_with (first|(go_at_call 349;refine(ValidRune_is _ _ _ hv2).mono ?_;rintro e w' ⟨rfl,rfl⟩))
   go_ret
   exact⟨by simp,bC⟩
def inSet(l:List UInt8)(r:Nat):Bool:=decide (r<128)&&l.contains r.toUInt8
theorem inSet_lo{l:List UInt8}(h:r<128):inSet l r=decide (0<=Lib.indexByte l r.toUInt8):=by
 unfold inSet;rw[decide_eq_true h,Bool.true_and,Lib.contains_iff_indexByte]
theorem inSet_hi{l:List UInt8}(h:¬r<128):inSet l r=false:=by
 unfold inSet;rw[decide_eq_false h,Bool.false_and]
def onlyB(s set:List UInt8):Bool:=s.all λb=>set.contains b
theorem idx_only(set:List UInt8)(s:ByteArray)(ha:∀b∈set,b.toNat<128):∀(f pos:Nat),s.size<=pos+f->
 decide (Lib.idxFuncFrom (λx=>!inSet set x) true s f pos<0)=onlyB (s.data.toList.drop pos) set
 | 0,pos,h=>by
   have e:s.data.toList.drop pos=[]:=List.drop_eq_nil_of_le (by simp;have e:s.data.size=s.size:=rfl;omega);rw[e];rfl
 | f+1,pos,h=>by
   by_cases hp:pos<s.size
   . have ed:s.data.toList.drop pos=s[pos]::s.data.toList.drop (pos+1):=List.drop_eq_getElem_cons (by simpa using hp);have eu:(s[pos].toNat).toUInt8=s[pos]:=θ
     unfold Lib.idxFuncFrom;rw[if_pos hp,ed];by_cases hb:s[pos].toNat<128
     . rw[decode_ascii s pos hp hb];dsimp only;by_cases hc:set.contains s[pos]=true
       . have e:inSet set s[pos].toNat=true:=by unfold inSet;rw[decide_eq_true hb,eu,hc];rfl
         rw[e,if_neg ζ,idx_only set s ha f (pos+1) δ];unfold onlyB;rw[ν,hc,Bool.true_and]
       . have hc2:set.contains s[pos]=false:=by simpa using hc
         have e:inSet set s[pos].toNat=false:=by unfold inSet;rw[eu,hc2,Bool.and_false]
         rw[e,if_pos ζ,decide_eq_false δ];unfold onlyB;rw[ν,hc2,Bool.false_and]
     . have hd:=(decode_high s pos hp δ).1;have hc2:set.contains s[pos]=false:=by
        cases hx:set.contains s[pos]with
        | false=>rfl
        | true=>exact absurd (ha s[pos] (by simpa using hx)) hb
       rw[inSet_hi δ,if_pos ζ,decide_eq_false δ];unfold onlyB;rw[ν,hc2,Bool.false_and]
   . have e:s.data.toList.drop pos=[]:=List.drop_eq_nil_of_le (by simp;have e:s.data.size=s.size:=rfl;omega);rw[Lib.idxFuncFrom_end _ _ _ _ _ hp,e];rfl
theorem idx_only0(set:List UInt8)(s:ByteArray)(ha:∀b∈set,b.toNat<128):decide (Lib.idxFunc (λx=>!inSet set x) true s<0)=onlyB s.data.toList set:=by
 have:=idx_only set s ha s.size 0 δ;rw[List.drop_zero]at this;exact this
def okSet(s:ByteArray):Prop:=4<=s.size/\s.size<=100/\∀(i:Nat) (h:i<s.size),s[i].toNat<128
theorem ContainsRune(s:ByteArray)(r:Nat)(w:World)(hs:okSet s)(h2:r<=1114111) :
 Calls Tryz.prog 268 #[.string s,.int .i32 (r:Int)] w λe w'=>e=.returned (.bool (inSet s.data.toList r))/\Below w.heap.size w w':=by
 by_cases h:r<128
 . refine(Tryz.strings_ContainsRune_ascii s r w δ δ).mono ?_;rintro e w' ⟨rfl,rfl⟩;exact⟨by rw[inSet_lo h];simp,Below.refl _ _⟩
 . rw[inSet_hi h];by_cases hr:r=65533
   . subst hr;have HS:=Lib.hid hs.2.2;clear hs;go_enter Tryz.func268,Tryz.ntmps268
     go_wp2_with (first|(go_at_call 327;refine(IndexRune_err _ _ HS.out).mono ?_;rintro e w1 ⟨rfl,hb⟩;obtain⟨hc,hf⟩:=bcell hb;have hz:=hb.size;(try simp only[World.size_alloc,World.size_setCell,World.size_drew]at hz hc hf);(try have⟨hl0,hc0,hf0⟩:=bk hc hf hz (w.heap.size) δ);(try have⟨hl1,hc1,hf1⟩:=bk hc hf hz (w.heap.size+1) δ);(try have⟨hl2,hc2,hf2⟩:=bk hc hf hz (w.heap.size+2) δ);(try have⟨hl3,hc3,hf3⟩:=bk hc hf hz (w.heap.size+3) δ);(try have⟨hl4,hc4,hf4⟩:=bk hc hf hz (w.heap.size+4) δ)))
     go_ret
     exact⟨by simp,bC⟩
   . have HS:=Lib.hid hs;clear hs;go_enter Tryz.func268,Tryz.ntmps268
     go_wp2_with (first|(go_at_call 327;refine(IndexRune_high _ _ _ HS.out.1 HS.out.2.1 HS.out.2.2 δ δ hr).mono ?_;rintro e w1 ⟨rfl,hb⟩;obtain⟨hc,hf⟩:=bcell hb;have hz:=hb.size;(try simp only[World.size_alloc,World.size_setCell,World.size_drew]at hz hc hf);(try have⟨hl0,hc0,hf0⟩:=bk hc hf hz (w.heap.size) δ);(try have⟨hl1,hc1,hf1⟩:=bk hc hf hz (w.heap.size+1) δ);(try have⟨hl2,hc2,hf2⟩:=bk hc hf hz (w.heap.size+2) δ);(try have⟨hl3,hc3,hf3⟩:=bk hc hf hz (w.heap.size+3) δ);(try have⟨hl4,hc4,hf4⟩:=bk hc hf hz (w.heap.size+4) δ)))
     go_ret
     exact⟨by simp,bC⟩
theorem only1(s:ByteArray)(r:Nat)(p:Nat)(w:World)(hs:okSet s)(h2:r<=1114111)(hc0:w.cell? ⟨p,0,none⟩=some (.string s)) :
 Calls Tryz.prog 267 #[.int .i32 (r:Int),.pointer (some ⟨p,0,none⟩)] w λe w'=>e=.returned (.bool (!inSet s.data.toList r))/\Below w.heap.size w w':=by
 have HS:=Lib.hid hs;clear hs;cases hi:inSet s.data.toList r;all_goals
  go_enter Tryz.func267,Tryz.ntmps267
  go_wp2_with (first|(go_at_call 268;refine(ContainsRune _ _ _ HS.out h2).mono ?_;rintro e w1 ⟨rfl,hb⟩;obtain⟨hc,hf⟩:=bcell hb;have hz:=hb.size;(try simp only[World.size_alloc,World.size_setCell,World.size_drew]at hz hc hf);(try have⟨hl0,hc0,hf0⟩:=bk hc hf hz (w.heap.size) δ);(try have⟨hl1,hc1,hf1⟩:=bk hc hf hz (w.heap.size+1) δ);(try have⟨hl2,hc2,hf2⟩:=bk hc hf hz (w.heap.size+2) δ);(try have⟨hl3,hc3,hf3⟩:=bk hc hf hz (w.heap.size+3) δ);(try have⟨hl4,hc4,hf4⟩:=bk hc hf hz (w.heap.size+4) δ)))
  go_ret
  exact⟨by simp,bC⟩
theorem ascii_mem{s:ByteArray}(hs:okSet s):∀b∈s.data.toList,b.toNat<128:=by
 intro b hb;obtain⟨i,hi,rfl⟩:=ξ hb;exact hs.2.2 i (by simpa using hi)
theorem IndexFunc_only(s set:ByteArray)(p:Nat)(w:World)(hs:okSet set)(hc:w.cell? ⟨p,0,none⟩=some (.string set)) :
 Calls Tryz.prog 266 #[.string s,.func (.func 267) #[] #[.pointer (some ⟨p,0,none⟩)]] w λe w'=>e=.returned (.int .i64 (Lib.idxFunc (λx=>!inSet set.data.toList x) true s))/\Below w.heap.size w w':=by
 refine Tryz.strings_IndexFunc_grows 267 #[.pointer (some ⟨p,0,none⟩)] (enters_of Tryz.func267 ε rfl) (λx=>!inSet set.data.toList x) s w ?_;intro W x hx hb;refine only1 set x p W hs hx ?_;have hp:=World.block_lt_of_cell? w _ hc;rw[hb.cell (p:=⟨p,0,none⟩) hp];exact hc
theorem only_is(s set:ByteArray)(w:World)(hs:okSet set) :
 Calls Tryz.prog 213 #[.string s,.string set] w λe w'=>e=.returned (.bool (onlyB s.data.toList set.data.toList))/\Below w.heap.size w w':=by
 have hmf:∀(fn:Fn) (first cap:Array Value) (w:World),(Instr.makeFunc fn first cap).run Tryz.prog w=.ok (.func fn first cap) w:=λ_ _ _ _=>rfl;have V:=Lib.hid (idx_only0 set.data.toList s (ascii_mem hs));have HS:=Lib.hid hs;clear hs;go_enter Tryz.func213,Tryz.ntmps213
 go_wp2_with (first|(go_at_call 266;refine(IndexFunc_only _ _ _ _ HS.out (by go_simp)).mono ?_;rintro e w1 ⟨rfl,hb⟩;obtain⟨hc,hf⟩:=bcell hb;have hz:=hb.size;(try simp only[World.size_alloc,World.size_setCell,World.size_drew]at hz hc hf);(try have⟨hl0,hc0,hf0⟩:=bk hc hf hz (w.heap.size) δ);(try have⟨hl1,hc1,hf1⟩:=bk hc hf hz (w.heap.size+1) δ);(try have⟨hl2,hc2,hf2⟩:=bk hc hf hz (w.heap.size+2) δ);(try have⟨hl3,hc3,hf3⟩:=bk hc hf hz (w.heap.size+3) δ);(try have⟨hl4,hc4,hf4⟩:=bk hc hf hz (w.heap.size+4) δ)))
 go_ret
 exact⟨by rw[<-V.out];simp,bC⟩
end Go.Proofs.YtcffhjfdlflbgaaGreatDoor
end
section
namespace Go.Proofs.YtcffhjfdlflbgaaGreatDoor
open Go.Lib
def dset:ByteArray:=⟨#[48,49,50,51,52,53,54,55,56,57]⟩
def mset:ByteArray:=⟨#[88,48,49,50,51,52,53,54,55,56,57]⟩
instance (b:UInt8):Decidable (mb b):=by unfold mb;infer_instance
def digB(l:List UInt8):Bool:=l.all λb=>decide (48<=b.toNat/\b.toNat<=57)
def mskB(l:List UInt8):Bool:=l.all λb=>decide (mb b)
def hasX(l:List UInt8):Bool:=l.contains 88
def zerB(l:List UInt8):Bool:=l.all λb=>b==48
theorem byte_all{p:UInt8->Prop}[DecidablePred p](h:∀n:Fin 256,p (UInt8.ofNat n.val))(b:UInt8):p b:=by
 have:=h ⟨b.toNat,b.toNat_lt⟩;simpa using this
theorem onlyB_d(l:List UInt8):onlyB l dset.data.toList=digB l:=by
 have key:∀b:UInt8,dset.data.toList.contains b=decide (48<=b.toNat/\b.toNat<=57):=byte_all (by decide +kernel);unfold onlyB digB;congr 1
 funext b
 exact key b
theorem onlyB_m(l:List UInt8):onlyB l mset.data.toList=mskB l:=by
 have key:∀b:UInt8,mset.data.toList.contains b=decide (mb b):=byte_all (by decide +kernel);unfold onlyB mskB;congr 1
 funext b
 exact key b
theorem ok_dset:okSet dset:=⟨by decide,by decide,by decide⟩
theorem ok_mset:okSet mset:=⟨by decide,by decide,by decide⟩
def numF(n:Nat)(l:List UInt8):Nat:=l.foldl (λn b=>n*10+(b.toNat-48)) n
def numL(l:List UInt8):Nat:=numF 0 l
theorem decFrom_num:∀(l:List UInt8) (n:Nat),digB l->decFrom n l=some (numF n l)
 | [],n,_=>rfl
 | b::l,n,h=>by
   unfold digB at h;rw[ν,zAa]at h;unfold decFrom;rw[digitVal_mk (of_decide_eq_true h.1)];exact decFrom_num l _ h.2
theorem numF_lt:∀(l:List UInt8) (n a:Nat),digB l->n<10^a->numF n l<10^(a+l.length)
 | [],n,a,_,h=>h
 | b::l,n,a,hd,h=>by
   unfold digB at hd;rw[ν,zAa]at hd;have hb:=of_decide_eq_true hd.1;have ih:=numF_lt l (n*10+(b.toNat-48)) (a+1) hd.2 (by rw[Nat.pow_succ];omega);rw[zAd,show a+(l.length+1)=a+1+l.length by omega];exact ih
theorem numL_lt(l:List UInt8)(h:digB l):numL l<10^l.length:=by
 have:=numF_lt l 0 0 h ζ;rw[Nat.zero_add]at this;exact this
theorem parse_digits(l:List UInt8)(h:digB l)(h1:l≠[])(h2:l.length<=18):parseIntB 64 l=.ok (numL l:Int):=by
 rw[parseIntB_64,atoiAll_short l h2];cases l with
 | nil=>exact absurd rfl h1
 | cons b r=>
   have hb:48<=b.toNat/\b.toNat<=57:=by
    unfold digB at h;rw[ν,zAa]at h;exact of_decide_eq_true h.1
   have n1:¬b=45:=by rintro rfl;simp at hb
   have n2:¬b=43:=by rintro rfl;simp at hb
   unfold atoi;simp only[beq_iff_eq,n1,n2,if_false];rw[show decNat (b::r)=decFrom 0 (b::r)from rfl,decFrom_num _ _ h];rfl
def magN(d:Dt):Nat:=numL d.b0.data.toList*10^d.c0.toNat
def magOk(d:Dt):Bool:=decide (magN d<=10000000000000000)
end Go.Proofs.YtcffhjfdlflbgaaGreatDoor
end
section
namespace Go.Proofs.YtcffhjfdlflbgaaGreatDoor
open Go.RowKit
theorem ParseInt_dig(s:ByteArray)(w:World)(h:digB s.data.toList)(h1:1<=s.size)(h2:s.size<=18) :
 Calls Tryz.prog 220 #[.string s,.int .i64 10,.int .i64 64] w λe w'=>e=.returned (.tuple #[.int .i64 (numL s.data.toList:Int),.nilIface])/\Below w.heap.size w w':=by
 have e:s.data.toList.length=s.size:=rfl;refine(Tryz.strconv_ParseInt_10_at64_ok s δ _ (parse_digits _ h (by intro h0;rw[h0]at e;simp at e;omega) δ) w).mono ?_;rintro e w' ⟨rfl,rfl|⟨t,rfl⟩⟩
 . exact⟨rfl,Below.refl _ _⟩
 . exact⟨rfl,Lib.bytesWorld_below _ _ _⟩
theorem Contains_X(s:ByteArray)(w:World):Calls Tryz.prog 80 #[.string s,.string ⟨#[88]⟩] w λe w'=>e=.returned (.bool (hasX s.data.toList))/\w=w':=by
 refine(Tryz.strings_Contains_one s 88 w).mono ?_;rintro e w' ⟨rfl,rfl⟩;exact⟨by rw[<-Lib.contains_iff_indexByte];rfl,rfl⟩
theorem only_d(s:ByteArray)(w:World):Calls Tryz.prog 213 #[.string s,.string ⟨#[48,49,50,51,52,53,54,55,56,57]⟩] w λe w'=>e=.returned (.bool (digB s.data.toList))/\Below w.heap.size w w':=by
 rw[<-onlyB_d];exact only_is s dset w ok_dset
theorem only_m(s:ByteArray)(w:World):Calls Tryz.prog 213 #[.string s,.string ⟨#[88,48,49,50,51,52,53,54,55,56,57]⟩] w λe w'=>e=.returned (.bool (mskB s.data.toList))/\Below w.heap.size w w':=by
 rw[<-onlyB_m];exact only_is s mset w ok_mset
theorem dropWhile_nil{p:UInt8->Bool}:∀l:List UInt8,(l.dropWhile p).isEmpty=l.all p
 | []=>rfl
 | a::l=>by
   rw[ν];cases h:p a
   . rw[List.dropWhile_cons_of_neg (by simp[h])];rfl
   . rw[List.dropWhile_cons_of_pos h,dropWhile_nil l];rfl
theorem all_dropWhile{p:UInt8->Bool}:∀l:List UInt8,(l.dropWhile p).all p=l.all p
 | []=>rfl
 | a::l=>by
   cases h:p a
   . rw[List.dropWhile_cons_of_neg (by simp[h])]
   . rw[List.dropWhile_cons_of_pos h,all_dropWhile l,ν,h];rfl
theorem trim_zer(l:List UInt8):(Lib.trimB l 48).isEmpty=zerB l:=by
 unfold Lib.trimB Lib.trimLeftB Lib.trimRightB zerB;rw[dropWhile_nil,List.all_reverse,all_dropWhile,List.all_reverse]
def agB(b:UInt8)(d:Int):Prop:=b.toNat=88\/(b.toNat:Int)=48+d
instance (b:UInt8) (d:Int):Decidable (agB b d):=by unfold agB;infer_instance
def agr(a b:UInt8)(n:Int):Prop:=agB a (n/10)/\agB b (n%10)
instance (a b:UInt8) (n:Int):Decidable (agr a b n):=by unfold agr;infer_instance
theorem comps_bd(d:Dt):1<=comps d/\comps d<=3:=by unfold comps;split<;>split<;>omega
end Go.Proofs.YtcffhjfdlflbgaaGreatDoor
end
