import Derived.Shelf.Strings.Builder1
import Derived.Shelf.Strings.Builder2
import Derived.Shelf.Strings.Trim
import Derived.Shelf.Small.Utf8
import Derived.Shelf.Small.Bits
import Derived.Shelf.Small.Strs
import Derived.Shelf.Small.Wraps
import Derived.Shelf.Strings.BuilderF
import Derived.Shelf.Strconv.Itoa0
import Derived.Shelf.Strings.Search1
import Derived.Shelf.Strings.Prefix
import Derived.Shelf.Strings.Runes
import Derived.Shelf.Strings.AsciiSet
import Derived.Shelf.Bits.Mul64
import Derived.Shelf.Strings.Repeat
import Derived.Shelf.Unicode.DecodeSlow
import Derived.Shelf.Slices.Turned
import Derived.Ground.Names2Prog
import Derived.Shelf.Slices.SearchI
import Derived.Shelf.SlGeneric
import Derived.Ground.SlsfProg
import Derived.Shelf.SlSortCmp.WholeK
import Derived.Test.YtcfdpfmchchkaaaGreatDoorProg
namespace Go.Proofs
open Go.Shelf
def Tryz.lays160_ren:Go.Shelf.Ren:=⟨fun | 160=>266 | 232=>277 | 231=>276 | 227=>278 | 234=>280 | 233=>279 | 236=>282 | 235=>281 | 228=>291 | 271=>294 | 151=>293 | 197=>292 | 120=>302 | 152=>301 | 260=>300 | 137=>305 | 119=>306 | 224=>307 | 225=>308 | 217=>309 | 266=>310 | n=>n,fun | 9=>9 | 4=>4 | 3=>3 | 5=>5 | 117=>346 | 116=>345 | 0=>0 | 124=>349 | 21=>21 | 105=>367 | 46=>215 | 119=>379 | 139=>382 | 138=>381 | n=>n,fun | 3=>1 | 4=>2 | n=>n⟩
theorem Tryz.lays160:Go.Proofs.Lays.n160 Tryz.prog Tryz.lays160_ren:={
  mixed:=by kernel_rfl
  f119:=Tryz.func306.trans (congrArg some (by kernel_rfl))
  f120:=Tryz.func302.trans (congrArg some (by kernel_rfl))
  f137:=Tryz.func305.trans (congrArg some (by kernel_rfl))
  f151:=Tryz.func293.trans (congrArg some (by kernel_rfl))
  f152:=Tryz.func301.trans (congrArg some (by kernel_rfl))
  f160:=Tryz.func266.trans (congrArg some (by kernel_rfl))
  f197:=Tryz.func292.trans (congrArg some (by kernel_rfl))
  f217:=Tryz.func309.trans (congrArg some (by kernel_rfl))
  f224:=Tryz.func307.trans (congrArg some (by kernel_rfl))
  f225:=Tryz.func308.trans (congrArg some (by kernel_rfl))
  f227:=Tryz.func278.trans (congrArg some (by kernel_rfl))
  f228:=Tryz.func291.trans (congrArg some (by kernel_rfl))
  f231:=Tryz.func276.trans (congrArg some (by kernel_rfl))
  f232:=Tryz.func277.trans (congrArg some (by kernel_rfl))
  f233:=Tryz.func279.trans (congrArg some (by kernel_rfl))
  f234:=Tryz.func280.trans (congrArg some (by kernel_rfl))
  f235:=Tryz.func281.trans (congrArg some (by kernel_rfl))
  f236:=Tryz.func282.trans (congrArg some (by kernel_rfl))
  f260:=Tryz.func300.trans (congrArg some (by kernel_rfl))
  f266:=Tryz.func310.trans (congrArg some (by kernel_rfl))
  f271:=Tryz.func294.trans (congrArg some (by kernel_rfl))
  t0:=Tryz.underlying0
  a0:=Tryz.isAgg0
  z0:=Tryz.sizeOf0
  v0:=Tryz.zeroValue0
  t3:=Tryz.underlying3
  a3:=Tryz.isAgg3
  z3:=Tryz.sizeOf3
  v3:=Tryz.zeroValue3
  t4:=Tryz.underlying4
  a4:=Tryz.isAgg4
  z4:=Tryz.sizeOf4
  v4:=Tryz.zeroValue4
  t5:=Tryz.underlying5
  a5:=Tryz.isAgg5
  z5:=Tryz.sizeOf5
  v5:=Tryz.zeroValue5
  t9:=Tryz.underlying9
  a9:=Tryz.isAgg9
  z9:=Tryz.sizeOf9
  v9:=Tryz.zeroValue9
  t21:=Tryz.underlying21
  a21:=Tryz.isAgg21
  z21:=Tryz.sizeOf21
  v21:=Tryz.zeroValue21
  t46:=Tryz.underlying215
  a46:=Tryz.isAgg215
  z46:=Tryz.sizeOf215
  v46:=Tryz.zeroValue215
  t105:=Tryz.underlying367
  a105:=Tryz.isAgg367
  z105:=Tryz.sizeOf367
  v105:=Tryz.zeroValue367
  t116:=Tryz.underlying345
  a116:=Tryz.isAgg345
  z116:=Tryz.sizeOf345
  t117:=Tryz.underlying346
  a117:=Tryz.isAgg346
  z117:=Tryz.sizeOf346
  v117:=Tryz.zeroValue346
  t119:=Tryz.underlying379
  a119:=Tryz.isAgg379
  z119:=Tryz.sizeOf379
  t124:=Tryz.underlying349
  a124:=Tryz.isAgg349
  z124:=Tryz.sizeOf349
  v124:=Tryz.zeroValue349
  t138:=Tryz.underlying381
  a138:=Tryz.isAgg381
  z138:=Tryz.sizeOf381
  v138:=Tryz.zeroValue381
  t139:=Tryz.underlying382
  a139:=Tryz.isAgg382
  z139:=Tryz.sizeOf382
  v139:=Tryz.zeroValue382
  g3:=by kernel_rfl
  g4:=by kernel_rfl }
open Go.RowKit in
theorem Tryz.strings_Trim_one (s:ByteArray) (c:UInt8) (hc:c.toNat<128) (w:World) (hs:s.size≤9223372036854775807) :
    Calls Tryz.prog 266 #[.string s,.string ⟨#[c]⟩] w fun e w'=>e=.returned (.string ⟨(Lib.trimB s.data.toList c).toArray⟩)∧(w'=w∨w'=w.drew):=Any.strings_Trim_one Tryz.lays160 s c hc w hs
def Tryz.lays215_ren:Go.Shelf.Ren:=⟨fun | 215=>236 | n=>n,fun | 3=>3 | 4=>4 | n=>n,fun | n=>n⟩
def Tryz.lays122_ren:Go.Shelf.Ren:=⟨fun | 122=>195 | 215=>236 | n=>n,fun | 3=>3 | 4=>4 | n=>n,fun | n=>n⟩
theorem Tryz.lays122:Go.Proofs.Lays.n122 Tryz.prog Tryz.lays122_ren:={
  mixed:=by kernel_rfl
  f122:=Tryz.func195.trans (congrArg some (by kernel_rfl))
  f215:=Tryz.func236.trans (congrArg some (by kernel_rfl))
  t3:=Tryz.underlying3
  a3:=Tryz.isAgg3
  z3:=Tryz.sizeOf3
  v3:=Tryz.zeroValue3
  t4:=Tryz.underlying4
  a4:=Tryz.isAgg4
  z4:=Tryz.sizeOf4
  v4:=Tryz.zeroValue4 }
open Go.RowKit in
theorem Tryz.cmp_Compare_int (x y:Int) (w:World) :
    Calls Tryz.prog 195 #[.int .i64 x,.int .i64 y] w fun e w'=>e=.returned (.int .i64 (Lib.compareInt x y))∧w'=w:=Any.cmp_Compare_int Tryz.lays122 x y w
def Tryz.lays105_ren:Go.Shelf.Ren:=⟨fun | 105=>267 | 212=>283 | 99=>284 | 165=>285 | 166=>286 | 170=>287 | 169=>288 | 263=>295 | 264=>296 | 206=>297 | 240=>298 | 241=>299 | 276=>303 | 277=>304 | n=>n,fun | 9=>9 | 3=>3 | 4=>4 | 20=>20 | 0=>0 | 46=>215 | 109=>350 | 5=>5 | 72=>355 | 76=>359 | 51=>130 | 146=>370 | 53=>329 | 148=>372 | 70=>353 | 37=>126 | 75=>358 | 127=>374 | 164=>376 | 80=>362 | n=>n,fun | n=>n⟩
theorem Tryz.lays105:Go.Proofs.Lays.n105 Tryz.prog Tryz.lays105_ren:={
  mixed:=by kernel_rfl
  f99:=Tryz.func284.trans (congrArg some (by kernel_rfl))
  f105:=Tryz.func267.trans (congrArg some (by kernel_rfl))
  f165:=Tryz.func285.trans (congrArg some (by kernel_rfl))
  f166:=Tryz.func286.trans (congrArg some (by kernel_rfl))
  f169:=Tryz.func288.trans (congrArg some (by kernel_rfl))
  f170:=Tryz.func287.trans (congrArg some (by kernel_rfl))
  f206:=Tryz.func297.trans (congrArg some (by kernel_rfl))
  f212:=Tryz.func283.trans (congrArg some (by kernel_rfl))
  f240:=Tryz.func298.trans (congrArg some (by kernel_rfl))
  f241:=Tryz.func299.trans (congrArg some (by kernel_rfl))
  f263:=Tryz.func295.trans (congrArg some (by kernel_rfl))
  f264:=Tryz.func296.trans (congrArg some (by kernel_rfl))
  f276:=Tryz.func303.trans (congrArg some (by kernel_rfl))
  f277:=Tryz.func304.trans (congrArg some (by kernel_rfl))
  t0:=Tryz.underlying0
  a0:=Tryz.isAgg0
  z0:=Tryz.sizeOf0
  v0:=Tryz.zeroValue0
  t3:=Tryz.underlying3
  a3:=Tryz.isAgg3
  z3:=Tryz.sizeOf3
  v3:=Tryz.zeroValue3
  t4:=Tryz.underlying4
  a4:=Tryz.isAgg4
  z4:=Tryz.sizeOf4
  v4:=Tryz.zeroValue4
  t5:=Tryz.underlying5
  a5:=Tryz.isAgg5
  z5:=Tryz.sizeOf5
  v5:=Tryz.zeroValue5
  t9:=Tryz.underlying9
  a9:=Tryz.isAgg9
  z9:=Tryz.sizeOf9
  v9:=Tryz.zeroValue9
  t20:=Tryz.underlying20
  a20:=Tryz.isAgg20
  z20:=Tryz.sizeOf20
  v20:=Tryz.zeroValue20
  t37:=Tryz.underlying126
  a37:=Tryz.isAgg126
  z37:=Tryz.sizeOf126
  v37:=Tryz.zeroValue126
  t46:=Tryz.underlying215
  a46:=Tryz.isAgg215
  z46:=Tryz.sizeOf215
  v46:=Tryz.zeroValue215
  t51:=Tryz.underlying130
  a51:=Tryz.isAgg130
  z51:=Tryz.sizeOf130
  v51:=Tryz.zeroValue130
  t53:=Tryz.underlying329
  a53:=Tryz.isAgg329
  z53:=Tryz.sizeOf329
  v53:=Tryz.zeroValue329
  t70:=Tryz.underlying353
  a70:=Tryz.isAgg353
  z70:=Tryz.sizeOf353
  v70:=Tryz.zeroValue353
  t72:=Tryz.underlying355
  a72:=Tryz.isAgg355
  z72:=Tryz.sizeOf355
  v72:=Tryz.zeroValue355
  t75:=Tryz.underlying358
  a75:=Tryz.isAgg358
  z75:=Tryz.sizeOf358
  v75:=Tryz.zeroValue358
  t76:=Tryz.underlying359
  a76:=Tryz.isAgg359
  z76:=Tryz.sizeOf359
  v76:=Tryz.zeroValue359
  t109:=Tryz.underlying350
  a109:=Tryz.isAgg350
  z109:=Tryz.sizeOf350
  v109:=Tryz.zeroValue350
  t127:=Tryz.underlying374
  a127:=Tryz.isAgg374
  z127:=Tryz.sizeOf374
  v127:=Tryz.zeroValue374
  t146:=Tryz.underlying370
  a146:=Tryz.isAgg370
  z146:=Tryz.sizeOf370
  v146:=Tryz.zeroValue370
  t148:=Tryz.underlying372
  a148:=Tryz.isAgg372
  z148:=Tryz.sizeOf372
  v148:=Tryz.zeroValue372
  t164:=Tryz.underlying376
  a164:=Tryz.isAgg376
  z164:=Tryz.sizeOf376
  v164:=Tryz.zeroValue376 }
theorem Tryz.Builder_Extra_105:Builder.Extra Tryz.prog Tryz.lays105_ren:={
  sizeBuilder:=by kernel_rfl
  liesBuilder:=by kernel_rfl
  t5:=Tryz.underlying5
  a5:=Tryz.isAgg5
  z5:=Tryz.sizeOf5
  v5:=Tryz.zeroValue5
  infoByte:=by kernel_rfl
  cellsByte:=by kernel_rfl
  sizeByte:=by kernel_rfl
  neB5:=by decide }
open Go.RowKit Go.Lib in
theorem Tryz.strings_Repeat (s:ByteArray) (c:Nat) (w:World) (hc:c≤9223372036854775807) (hlen:s.size*c≤140737488355328) :
    Calls Tryz.prog 267 #[.string s,.int .i64 c] w fun e w'=>e=.returned (.string ⟨(Lib.repeatL s.data.toList c).toArray⟩)∧Below w.heap.size w w':=Any.strings_Repeat Tryz.lays105 Tryz.Builder_Extra_105 s c w hc hlen
def Tryz.laySort196_ren:Go.Shelf.Ren:=⟨fun | 6=>196 | 15=>238 | 14=>237 | 28=>256 | 29=>257 | 20=>248 | 21=>249 | 22=>250 | 23=>251 | 24=>252 | 25=>253 | 26=>254 | 27=>255 | 46=>268 | 47=>269 | 48=>270 | 49=>271 | 50=>272 | 57=>289 | n=>n,fun | 22=>22 | 24=>116 | 25=>289 | 3=>3 | 39=>215 | 0=>0 | 53=>130 | 55=>329 | 4=>4 | 46=>322 | 45=>321 | 50=>241 | 5=>5 | 9=>9 | 66=>336 | 70=>310 | 76=>363 | 77=>80 | n=>n,fun | n=>n⟩
theorem Tryz.laySort196:Go.Proofs.SlLaysF0.n6 Tryz.prog Tryz.laySort196_ren:={
  mixed:=by kernel_rfl
  f6:=⟨Tryz.f196.name,by decide,Tryz.func196.trans (congrArg some (by kernel_rfl))⟩
  f14:=⟨Tryz.f237.name,by decide,Tryz.func237.trans (congrArg some (by kernel_rfl))⟩
  f15:=Tryz.func238.trans (congrArg some (by kernel_rfl))
  f20:=⟨Tryz.f248.name,by decide,Tryz.func248.trans (congrArg some (by kernel_rfl))⟩
  f21:=⟨Tryz.f249.name,by decide,Tryz.func249.trans (congrArg some (by kernel_rfl))⟩
  f22:=⟨Tryz.f250.name,by decide,Tryz.func250.trans (congrArg some (by kernel_rfl))⟩
  f23:=⟨Tryz.f251.name,by decide,Tryz.func251.trans (congrArg some (by kernel_rfl))⟩
  f24:=⟨Tryz.f252.name,by decide,Tryz.func252.trans (congrArg some (by kernel_rfl))⟩
  f25:=⟨Tryz.f253.name,by decide,Tryz.func253.trans (congrArg some (by kernel_rfl))⟩
  f26:=⟨Tryz.f254.name,by decide,Tryz.func254.trans (congrArg some (by kernel_rfl))⟩
  f27:=⟨Tryz.f255.name,by decide,Tryz.func255.trans (congrArg some (by kernel_rfl))⟩
  f28:=Tryz.func256.trans (congrArg some (by kernel_rfl))
  f29:=Tryz.func257.trans (congrArg some (by kernel_rfl))
  f46:=⟨Tryz.f268.name,by decide,Tryz.func268.trans (congrArg some (by kernel_rfl))⟩
  f47:=Tryz.func269.trans (congrArg some (by kernel_rfl))
  f48:=Tryz.func270.trans (congrArg some (by kernel_rfl))
  f49:=⟨Tryz.f271.name,by decide,Tryz.func271.trans (congrArg some (by kernel_rfl))⟩
  f50:=⟨Tryz.f272.name,by decide,Tryz.func272.trans (congrArg some (by kernel_rfl))⟩
  f57:=⟨Tryz.f289.name,by decide,Tryz.func289.trans (congrArg some (by kernel_rfl))⟩
  t0:=Tryz.underlying0
  a0:=Tryz.isAgg0
  z0:=Tryz.sizeOf0
  v0:=Tryz.zeroValue0
  t3:=Tryz.underlying3
  a3:=Tryz.isAgg3
  z3:=Tryz.sizeOf3
  v3:=Tryz.zeroValue3
  t4:=Tryz.underlying4
  a4:=Tryz.isAgg4
  z4:=Tryz.sizeOf4
  v4:=Tryz.zeroValue4
  t5:=Tryz.underlying5
  a5:=Tryz.isAgg5
  z5:=Tryz.sizeOf5
  v5:=Tryz.zeroValue5
  t9:=Tryz.underlying9
  a9:=Tryz.isAgg9
  z9:=Tryz.sizeOf9
  v9:=Tryz.zeroValue9
  t22:=Tryz.underlying22
  a22:=Tryz.isAgg22
  z22:=Tryz.sizeOf22
  v22:=Tryz.zeroValue22
  t25:=Tryz.underlying289
  a25:=Tryz.isAgg289
  z25:=Tryz.sizeOf289
  v25:=Tryz.zeroValue289
  t39:=Tryz.underlying215
  a39:=Tryz.isAgg215
  z39:=Tryz.sizeOf215
  v39:=Tryz.zeroValue215
  t45:=Tryz.underlying321
  a45:=Tryz.isAgg321
  z45:=Tryz.sizeOf321
  v45:=Tryz.zeroValue321
  t46:=Tryz.underlying322
  a46:=Tryz.isAgg322
  z46:=Tryz.sizeOf322
  v46:=Tryz.zeroValue322
  t50:=Tryz.underlying241
  a50:=Tryz.isAgg241
  z50:=Tryz.sizeOf241
  v50:=Tryz.zeroValue241
  t53:=Tryz.underlying130
  a53:=Tryz.isAgg130
  z53:=Tryz.sizeOf130
  v53:=Tryz.zeroValue130
  t55:=Tryz.underlying329
  a55:=Tryz.isAgg329
  z55:=Tryz.sizeOf329
  v55:=Tryz.zeroValue329
  t66:=Tryz.underlying336
  a66:=Tryz.isAgg336
  z66:=Tryz.sizeOf336
  v66:=Tryz.zeroValue336
  t70:=Tryz.underlying310
  a70:=Tryz.isAgg310
  z70:=Tryz.sizeOf310
  v70:=Tryz.zeroValue310
  t76:=Tryz.underlying363
  a76:=Tryz.isAgg363
  z76:=Tryz.sizeOf363
  v76:=Tryz.zeroValue363
  t77:=Tryz.underlying80
  a77:=Tryz.isAgg80
  z77:=Tryz.sizeOf80
  v77:=Tryz.zeroValue80 }
def Tryz.laySort198_ren:Go.Shelf.Ren:=⟨fun | 6=>198 | 15=>238 | 14=>239 | 28=>256 | 29=>257 | 20=>258 | 21=>259 | 22=>260 | 23=>261 | 24=>262 | 25=>263 | 26=>264 | 27=>265 | 46=>273 | 47=>269 | 48=>270 | 49=>274 | 50=>275 | 57=>290 | n=>n,fun | 22=>23 | 24=>124 | 25=>291 | 3=>3 | 39=>215 | 0=>0 | 53=>130 | 55=>329 | 4=>4 | 46=>322 | 45=>321 | 50=>241 | 5=>5 | 9=>9 | 66=>336 | 70=>310 | 76=>363 | 77=>80 | n=>n,fun | n=>n⟩
theorem Tryz.laySort198:Go.Proofs.SlLaysF0.n6 Tryz.prog Tryz.laySort198_ren:={
  mixed:=by kernel_rfl
  f6:=⟨Tryz.f198.name,by decide,Tryz.func198.trans (congrArg some (by kernel_rfl))⟩
  f14:=⟨Tryz.f239.name,by decide,Tryz.func239.trans (congrArg some (by kernel_rfl))⟩
  f15:=Tryz.func238.trans (congrArg some (by kernel_rfl))
  f20:=⟨Tryz.f258.name,by decide,Tryz.func258.trans (congrArg some (by kernel_rfl))⟩
  f21:=⟨Tryz.f259.name,by decide,Tryz.func259.trans (congrArg some (by kernel_rfl))⟩
  f22:=⟨Tryz.f260.name,by decide,Tryz.func260.trans (congrArg some (by kernel_rfl))⟩
  f23:=⟨Tryz.f261.name,by decide,Tryz.func261.trans (congrArg some (by kernel_rfl))⟩
  f24:=⟨Tryz.f262.name,by decide,Tryz.func262.trans (congrArg some (by kernel_rfl))⟩
  f25:=⟨Tryz.f263.name,by decide,Tryz.func263.trans (congrArg some (by kernel_rfl))⟩
  f26:=⟨Tryz.f264.name,by decide,Tryz.func264.trans (congrArg some (by kernel_rfl))⟩
  f27:=⟨Tryz.f265.name,by decide,Tryz.func265.trans (congrArg some (by kernel_rfl))⟩
  f28:=Tryz.func256.trans (congrArg some (by kernel_rfl))
  f29:=Tryz.func257.trans (congrArg some (by kernel_rfl))
  f46:=⟨Tryz.f273.name,by decide,Tryz.func273.trans (congrArg some (by kernel_rfl))⟩
  f47:=Tryz.func269.trans (congrArg some (by kernel_rfl))
  f48:=Tryz.func270.trans (congrArg some (by kernel_rfl))
  f49:=⟨Tryz.f274.name,by decide,Tryz.func274.trans (congrArg some (by kernel_rfl))⟩
  f50:=⟨Tryz.f275.name,by decide,Tryz.func275.trans (congrArg some (by kernel_rfl))⟩
  f57:=⟨Tryz.f290.name,by decide,Tryz.func290.trans (congrArg some (by kernel_rfl))⟩
  t0:=Tryz.underlying0
  a0:=Tryz.isAgg0
  z0:=Tryz.sizeOf0
  v0:=Tryz.zeroValue0
  t3:=Tryz.underlying3
  a3:=Tryz.isAgg3
  z3:=Tryz.sizeOf3
  v3:=Tryz.zeroValue3
  t4:=Tryz.underlying4
  a4:=Tryz.isAgg4
  z4:=Tryz.sizeOf4
  v4:=Tryz.zeroValue4
  t5:=Tryz.underlying5
  a5:=Tryz.isAgg5
  z5:=Tryz.sizeOf5
  v5:=Tryz.zeroValue5
  t9:=Tryz.underlying9
  a9:=Tryz.isAgg9
  z9:=Tryz.sizeOf9
  v9:=Tryz.zeroValue9
  t22:=Tryz.underlying23
  a22:=Tryz.isAgg23
  z22:=Tryz.sizeOf23
  v22:=Tryz.zeroValue23
  t25:=Tryz.underlying291
  a25:=Tryz.isAgg291
  z25:=Tryz.sizeOf291
  v25:=Tryz.zeroValue291
  t39:=Tryz.underlying215
  a39:=Tryz.isAgg215
  z39:=Tryz.sizeOf215
  v39:=Tryz.zeroValue215
  t45:=Tryz.underlying321
  a45:=Tryz.isAgg321
  z45:=Tryz.sizeOf321
  v45:=Tryz.zeroValue321
  t46:=Tryz.underlying322
  a46:=Tryz.isAgg322
  z46:=Tryz.sizeOf322
  v46:=Tryz.zeroValue322
  t50:=Tryz.underlying241
  a50:=Tryz.isAgg241
  z50:=Tryz.sizeOf241
  v50:=Tryz.zeroValue241
  t53:=Tryz.underlying130
  a53:=Tryz.isAgg130
  z53:=Tryz.sizeOf130
  v53:=Tryz.zeroValue130
  t55:=Tryz.underlying329
  a55:=Tryz.isAgg329
  z55:=Tryz.sizeOf329
  v55:=Tryz.zeroValue329
  t66:=Tryz.underlying336
  a66:=Tryz.isAgg336
  z66:=Tryz.sizeOf336
  v66:=Tryz.zeroValue336
  t70:=Tryz.underlying310
  a70:=Tryz.isAgg310
  z70:=Tryz.sizeOf310
  v70:=Tryz.zeroValue310
  t76:=Tryz.underlying363
  a76:=Tryz.isAgg363
  z76:=Tryz.sizeOf363
  v76:=Tryz.zeroValue363
  t77:=Tryz.underlying80
  a77:=Tryz.isAgg80
  z77:=Tryz.sizeOf80
  v77:=Tryz.zeroValue80 }
end Go.Proofs
