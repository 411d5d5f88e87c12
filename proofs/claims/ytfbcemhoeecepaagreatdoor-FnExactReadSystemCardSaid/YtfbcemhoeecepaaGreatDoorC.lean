import Derived.Test.YtfbcemhoeecepaaGreatDoorProg
import Derived.Shelf.Small.Strs
import Derived.Shelf.LaysM
import Derived.Shelf.LaysC
import Derived.Shelf.Strings.Search2
import Derived.Shelf.Strconv.Itoa4
import Derived.Shelf.Strconv.ParseIntPublic10
import Derived.Shelf.Strconv.ErrVarParseInt
import Derived.Shelf.Bits.Mul64
import Derived.Shelf.Slices.Reverse
import Derived.Lib.FieldsP
import Derived.Shelf.Strings.FieldsFuncGrows
import Derived.Shelf.SlSortCmp.WholeK
import Derived.Shelf.SlGeneric
import Derived.Ground.SlsfProg
import Derived.Test.YtfbcemhoeecepaaGreatDoorB
import Derived.Lib.ItoaLen
import Derived.Lib.ParseIntBTie
import Derived.KernelRfl
import Derived.Shelf.SlSortCmp.NoneTotal
set_option linter.all false
set_option maxRecDepth 100000
set_option maxHeartbeats 1000000
namespace Go.Proofs
open Go.Shelf
def Tryz.lays137_ren:Go.Shelf.Ren:=⟨fun | 137=>68 | 217=>104 | 266=>138 | n=>n,fun | 9=>9 | 5=>5 | 3=>3 | n=>n,fun | n=>n⟩
theorem Tryz.lays137:Go.Proofs.Lays.n137 Tryz.prog Tryz.lays137_ren:={
  mixed:=by kernel_rfl
  f137:=Tryz.func68.trans (congrArg some (by kernel_rfl))
  f217:=Tryz.func104.trans (congrArg some (by kernel_rfl))
  f266:=Tryz.func138.trans (congrArg some (by kernel_rfl))
  t3:=Tryz.underlying3
  a3:=Tryz.isAgg3
  z3:=Tryz.sizeOf3
  v3:=Tryz.zeroValue3
  t5:=Tryz.underlying5
  a5:=Tryz.isAgg5
  z5:=Tryz.sizeOf5
  v5:=Tryz.zeroValue5
  t9:=Tryz.underlying9
  a9:=Tryz.isAgg9
  z9:=Tryz.sizeOf9
  v9:=Tryz.zeroValue9}
def Tryz.lays219_ren:Go.Shelf.Ren:=⟨fun | 219=>208 | 217=>104 | 225=>218 | 224=>219 | 267=>220 | 266=>138 | 314=>222 | n=>n,fun | 9=>9 | 3=>3 | 4=>4 | 5=>5 | 46=>200 | 146=>309 | 51=>237 | n=>n,fun | 1=>2 | n=>n⟩
theorem Tryz.lays219:Go.Proofs.Lays.n219 Tryz.prog Tryz.lays219_ren:={
  mixed:=by kernel_rfl
  f217:=Tryz.func104.trans (congrArg some (by kernel_rfl))
  f219:=Tryz.func208.trans (congrArg some (by kernel_rfl))
  f224:=Tryz.func219.trans (congrArg some (by kernel_rfl))
  f225:=Tryz.func218.trans (congrArg some (by kernel_rfl))
  f266:=Tryz.func138.trans (congrArg some (by kernel_rfl))
  f267:=Tryz.func220.trans (congrArg some (by kernel_rfl))
  f314:=Tryz.func222.trans (congrArg some (by kernel_rfl))
  t3:=Tryz.underlying3
  a3:=Tryz.isAgg3
  z3:=Tryz.sizeOf3
  v3:=Tryz.zeroValue3
  t4:=Tryz.underlying4
  a4:=Tryz.isAgg4
  z4:=Tryz.sizeOf4
  v4:=Tryz.zeroValue4
  t5:=Tryz.underlying5
  a5:=Tryz.isAgg5
  z5:=Tryz.sizeOf5
  v5:=Tryz.zeroValue5
  t9:=Tryz.underlying9
  a9:=Tryz.isAgg9
  z9:=Tryz.sizeOf9
  v9:=Tryz.zeroValue9
  t46:=Tryz.underlying200
  a46:=Tryz.isAgg200
  z46:=Tryz.sizeOf200
  v46:=Tryz.zeroValue200
  t51:=Tryz.underlying237
  a51:=Tryz.isAgg237
  z51:=Tryz.sizeOf237
  v51:=Tryz.zeroValue237
  t146:=Tryz.underlying309
  a146:=Tryz.isAgg309
  z146:=Tryz.sizeOf309
  v146:=Tryz.zeroValue309
  g1:=by kernel_rfl}
def Tryz.lays212_ren:Go.Shelf.Ren:=⟨fun | 212=>221 | 263=>223 | 264=>224 | n=>n,fun | 46=>200 | 51=>237 | 146=>309 | 53=>217 | 148=>312 | n=>n,fun | n=>n⟩
theorem Tryz.lays212:Go.Proofs.Lays.n212 Tryz.prog Tryz.lays212_ren:={
  mixed:=by kernel_rfl
  f212:=Tryz.func221.trans (congrArg some (by kernel_rfl))
  f263:=Tryz.func223.trans (congrArg some (by kernel_rfl))
  f264:=Tryz.func224.trans (congrArg some (by kernel_rfl))
  t46:=Tryz.underlying200
  a46:=Tryz.isAgg200
  z46:=Tryz.sizeOf200
  v46:=Tryz.zeroValue200
  t51:=Tryz.underlying237
  a51:=Tryz.isAgg237
  z51:=Tryz.sizeOf237
  v51:=Tryz.zeroValue237
  t53:=Tryz.underlying217
  a53:=Tryz.isAgg217
  z53:=Tryz.sizeOf217
  v53:=Tryz.zeroValue217
  t146:=Tryz.underlying309
  a146:=Tryz.isAgg309
  z146:=Tryz.sizeOf309
  v146:=Tryz.zeroValue309
  t148:=Tryz.underlying312
  a148:=Tryz.isAgg312
  z148:=Tryz.sizeOf312
  v148:=Tryz.zeroValue312}
def Tryz.lays112_ren:Go.Shelf.Ren:=⟨fun | 112=>215 | n=>n,fun | 28=>239 | 3=>3 | 4=>4 | 0=>0 | n=>n,fun | n=>n⟩
theorem Tryz.lays112:Go.Proofs.Lays.n112 Tryz.prog Tryz.lays112_ren:={
  mixed:=by kernel_rfl
  f112:=Tryz.func215.trans (congrArg some (by kernel_rfl))
  t0:=Tryz.underlying0
  a0:=Tryz.isAgg0
  z0:=Tryz.sizeOf0
  v0:=Tryz.zeroValue0
  t3:=Tryz.underlying3
  a3:=Tryz.isAgg3
  z3:=Tryz.sizeOf3
  v3:=Tryz.zeroValue3
  t4:=Tryz.underlying4
  a4:=Tryz.isAgg4
  z4:=Tryz.sizeOf4
  v4:=Tryz.zeroValue4
  t28:=Tryz.underlying239
  a28:=Tryz.isAgg239
  z28:=Tryz.sizeOf239
  v28:=Tryz.zeroValue239}
def Tryz.laysM173_ren:Go.Shelf.Ren:=⟨fun | 173=>120 | 246=>149 | 283=>184 | 284=>185 | 285=>186 | 286=>187 | 129=>164 | 317=>204 | 318=>205 | 319=>206 | 320=>207 | 337=>216 | 338=>217 | n=>n,fun | 2=>2 | 3=>3 | 9=>9 | 4=>4 | 171=>260 | 0=>0 | 53=>217 | 37=>130 | 5=>5 | 173=>262 | 212=>290 | 51=>237 | 20=>20 | 213=>291 | 46=>200 | 232=>307 | 233=>308 | n=>n,fun | 17=>5 | 18=>6 | 19=>7 | n=>n⟩
theorem Tryz.laysM173:Go.Proofs.LaysM.n173 Tryz.prog Tryz.laysM173_ren:={
  mixed:=by kernel_rfl
  f129:=Tryz.func164.trans (congrArg some (by kernel_rfl))
  f173:=Tryz.func120.trans (congrArg some (by kernel_rfl))
  f246:=Tryz.func149.trans (congrArg some (by kernel_rfl))
  f283:=Tryz.func184.trans (congrArg some (by kernel_rfl))
  f284:=Tryz.func185.trans (congrArg some (by kernel_rfl))
  f285:=Tryz.func186.trans (congrArg some (by kernel_rfl))
  f286:=Tryz.func187.trans (congrArg some (by kernel_rfl))
  f317:=Tryz.func204.trans (congrArg some (by kernel_rfl))
  f318:=Tryz.func205.trans (congrArg some (by kernel_rfl))
  f319:=Tryz.func206.trans (congrArg some (by kernel_rfl))
  f320:=Tryz.func207.trans (congrArg some (by kernel_rfl))
  f337:=Tryz.func216.trans (congrArg some (by kernel_rfl))
  f338:=Tryz.func217.trans (congrArg some (by kernel_rfl))
  t0:=Tryz.underlying0
  a0:=Tryz.isAgg0
  z0:=Tryz.sizeOf0
  v0:=Tryz.zeroValue0
  t2:=Tryz.underlying2
  a2:=Tryz.isAgg2
  z2:=Tryz.sizeOf2
  v2:=Tryz.zeroValue2
  t3:=Tryz.underlying3
  a3:=Tryz.isAgg3
  z3:=Tryz.sizeOf3
  v3:=Tryz.zeroValue3
  t4:=Tryz.underlying4
  a4:=Tryz.isAgg4
  z4:=Tryz.sizeOf4
  v4:=Tryz.zeroValue4
  t5:=Tryz.underlying5
  a5:=Tryz.isAgg5
  z5:=Tryz.sizeOf5
  v5:=Tryz.zeroValue5
  t9:=Tryz.underlying9
  a9:=Tryz.isAgg9
  z9:=Tryz.sizeOf9
  v9:=Tryz.zeroValue9
  t20:=Tryz.underlying20
  a20:=Tryz.isAgg20
  z20:=Tryz.sizeOf20
  v20:=Tryz.zeroValue20
  t37:=Tryz.underlying130
  a37:=Tryz.isAgg130
  z37:=Tryz.sizeOf130
  v37:=Tryz.zeroValue130
  t46:=Tryz.underlying200
  a46:=Tryz.isAgg200
  z46:=Tryz.sizeOf200
  v46:=Tryz.zeroValue200
  t51:=Tryz.underlying237
  a51:=Tryz.isAgg237
  z51:=Tryz.sizeOf237
  v51:=Tryz.zeroValue237
  t53:=Tryz.underlying217
  a53:=Tryz.isAgg217
  z53:=Tryz.sizeOf217
  v53:=Tryz.zeroValue217
  t171:=Tryz.underlying260
  a171:=Tryz.isAgg260
  z171:=Tryz.sizeOf260
  v171:=Tryz.zeroValue260
  t173:=Tryz.underlying262
  a173:=Tryz.isAgg262
  z173:=Tryz.sizeOf262
  v173:=Tryz.zeroValue262
  t212:=Tryz.underlying290
  a212:=Tryz.isAgg290
  z212:=Tryz.sizeOf290
  v212:=Tryz.zeroValue290
  t213:=Tryz.underlying291
  a213:=Tryz.isAgg291
  z213:=Tryz.sizeOf291
  t232:=Tryz.underlying307
  a232:=Tryz.isAgg307
  z232:=Tryz.sizeOf307
  v232:=Tryz.zeroValue307
  t233:=Tryz.underlying308
  a233:=Tryz.isAgg308
  z233:=Tryz.sizeOf308
  v233:=Tryz.zeroValue308
  g17:=by kernel_rfl
  g18:=by kernel_rfl
  g19:=by kernel_rfl
  i0:=by kernel_rfl
  i2:=by kernel_rfl
  i3:=by kernel_rfl
  i4:=by kernel_rfl
  i5:=by kernel_rfl
  i9:=by kernel_rfl
  i20:=by kernel_rfl
  i37:=by kernel_rfl
  i46:=by kernel_rfl
  i51:=by kernel_rfl
  i53:=by kernel_rfl
  i171:=by kernel_rfl
  i173:=by kernel_rfl
  i212:=by kernel_rfl
  i232:=by kernel_rfl
  i233:=by kernel_rfl
  m17:=by kernel_rfl
  m18:=by kernel_rfl
  m19:=by kernel_rfl}
def Tryz.laysC174_ren:Go.Shelf.Ren:=⟨fun | 174=>92 | 247=>118 | 245=>119 | 287=>144 | 279=>145 | 280=>146 | 281=>147 | 282=>148 | 321=>179 | 322=>180 | 316=>181 | 171=>183 | 205=>182 | 243=>203 | 246=>149 | 283=>184 | 284=>185 | 285=>186 | 286=>187 | 129=>164 | 317=>204 | 318=>205 | 319=>206 | 320=>207 | 337=>216 | 338=>217 | n=>n,fun | 9=>9 | 3=>3 | 2=>2 | 75=>42 | 85=>147 | 4=>4 | 167=>216 | 5=>5 | 53=>217 | 175=>218 | 46=>200 | 168=>220 | 37=>130 | 0=>0 | 210=>258 | 21=>21 | 127=>284 | 145=>287 | 143=>285 | 171=>260 | 173=>262 | 212=>290 | 51=>237 | 20=>20 | 213=>291 | 232=>307 | 233=>308 | 80=>314 | n=>n,fun | 15=>3 | 16=>4 | 17=>5 | 18=>6 | 19=>7 | n=>n⟩
theorem Tryz.laysC174:Go.Proofs.LaysC.n174 Tryz.prog Tryz.laysC174_ren:={
  mixed:=by kernel_rfl
  f129:=Tryz.func164.trans (congrArg some (by kernel_rfl))
  f171:=Tryz.func183.trans (congrArg some (by kernel_rfl))
  f174:=Tryz.func92.trans (congrArg some (by kernel_rfl))
  f205:=Tryz.func182.trans (congrArg some (by kernel_rfl))
  f243:=Tryz.func203.trans (congrArg some (by kernel_rfl))
  f245:=Tryz.func119.trans (congrArg some (by kernel_rfl))
  f246:=Tryz.func149.trans (congrArg some (by kernel_rfl))
  f247:=Tryz.func118.trans (congrArg some (by kernel_rfl))
  f279:=Tryz.func145.trans (congrArg some (by kernel_rfl))
  f280:=Tryz.func146.trans (congrArg some (by kernel_rfl))
  f281:=Tryz.func147.trans (congrArg some (by kernel_rfl))
  f282:=Tryz.func148.trans (congrArg some (by kernel_rfl))
  f283:=Tryz.func184.trans (congrArg some (by kernel_rfl))
  f284:=Tryz.func185.trans (congrArg some (by kernel_rfl))
  f285:=Tryz.func186.trans (congrArg some (by kernel_rfl))
  f286:=Tryz.func187.trans (congrArg some (by kernel_rfl))
  f287:=Tryz.func144.trans (congrArg some (by kernel_rfl))
  f316:=Tryz.func181.trans (congrArg some (by kernel_rfl))
  f317:=Tryz.func204.trans (congrArg some (by kernel_rfl))
  f318:=Tryz.func205.trans (congrArg some (by kernel_rfl))
  f319:=Tryz.func206.trans (congrArg some (by kernel_rfl))
  f320:=Tryz.func207.trans (congrArg some (by kernel_rfl))
  f321:=Tryz.func179.trans (congrArg some (by kernel_rfl))
  f322:=Tryz.func180.trans (congrArg some (by kernel_rfl))
  f337:=Tryz.func216.trans (congrArg some (by kernel_rfl))
  f338:=Tryz.func217.trans (congrArg some (by kernel_rfl))
  t0:=Tryz.underlying0
  a0:=Tryz.isAgg0
  z0:=Tryz.sizeOf0
  v0:=Tryz.zeroValue0
  t2:=Tryz.underlying2
  a2:=Tryz.isAgg2
  z2:=Tryz.sizeOf2
  v2:=Tryz.zeroValue2
  t3:=Tryz.underlying3
  a3:=Tryz.isAgg3
  z3:=Tryz.sizeOf3
  v3:=Tryz.zeroValue3
  t4:=Tryz.underlying4
  a4:=Tryz.isAgg4
  z4:=Tryz.sizeOf4
  v4:=Tryz.zeroValue4
  t5:=Tryz.underlying5
  a5:=Tryz.isAgg5
  z5:=Tryz.sizeOf5
  v5:=Tryz.zeroValue5
  t9:=Tryz.underlying9
  a9:=Tryz.isAgg9
  z9:=Tryz.sizeOf9
  v9:=Tryz.zeroValue9
  t20:=Tryz.underlying20
  a20:=Tryz.isAgg20
  z20:=Tryz.sizeOf20
  v20:=Tryz.zeroValue20
  t21:=Tryz.underlying21
  a21:=Tryz.isAgg21
  z21:=Tryz.sizeOf21
  v21:=Tryz.zeroValue21
  t37:=Tryz.underlying130
  a37:=Tryz.isAgg130
  z37:=Tryz.sizeOf130
  v37:=Tryz.zeroValue130
  t46:=Tryz.underlying200
  a46:=Tryz.isAgg200
  z46:=Tryz.sizeOf200
  v46:=Tryz.zeroValue200
  t51:=Tryz.underlying237
  a51:=Tryz.isAgg237
  z51:=Tryz.sizeOf237
  v51:=Tryz.zeroValue237
  t53:=Tryz.underlying217
  a53:=Tryz.isAgg217
  z53:=Tryz.sizeOf217
  v53:=Tryz.zeroValue217
  t75:=Tryz.underlying42
  a75:=Tryz.isAgg42
  z75:=Tryz.sizeOf42
  v75:=Tryz.zeroValue42
  t85:=Tryz.underlying147
  a85:=Tryz.isAgg147
  z85:=Tryz.sizeOf147
  v85:=Tryz.zeroValue147
  t127:=Tryz.underlying284
  a127:=Tryz.isAgg284
  z127:=Tryz.sizeOf284
  v127:=Tryz.zeroValue284
  t143:=Tryz.underlying285
  a143:=Tryz.isAgg285
  z143:=Tryz.sizeOf285
  v143:=Tryz.zeroValue285
  t145:=Tryz.underlying287
  a145:=Tryz.isAgg287
  z145:=Tryz.sizeOf287
  v145:=Tryz.zeroValue287
  t167:=Tryz.underlying216
  a167:=Tryz.isAgg216
  z167:=Tryz.sizeOf216
  v167:=Tryz.zeroValue216
  t168:=Tryz.underlying220
  a168:=Tryz.isAgg220
  z168:=Tryz.sizeOf220
  v168:=Tryz.zeroValue220
  t171:=Tryz.underlying260
  a171:=Tryz.isAgg260
  z171:=Tryz.sizeOf260
  v171:=Tryz.zeroValue260
  t173:=Tryz.underlying262
  a173:=Tryz.isAgg262
  z173:=Tryz.sizeOf262
  v173:=Tryz.zeroValue262
  t175:=Tryz.underlying218
  a175:=Tryz.isAgg218
  z175:=Tryz.sizeOf218
  v175:=Tryz.zeroValue218
  t210:=Tryz.underlying258
  a210:=Tryz.isAgg258
  z210:=Tryz.sizeOf258
  v210:=Tryz.zeroValue258
  t212:=Tryz.underlying290
  a212:=Tryz.isAgg290
  z212:=Tryz.sizeOf290
  v212:=Tryz.zeroValue290
  t213:=Tryz.underlying291
  a213:=Tryz.isAgg291
  z213:=Tryz.sizeOf291
  t232:=Tryz.underlying307
  a232:=Tryz.isAgg307
  z232:=Tryz.sizeOf307
  v232:=Tryz.zeroValue307
  t233:=Tryz.underlying308
  a233:=Tryz.isAgg308
  z233:=Tryz.sizeOf308
  v233:=Tryz.zeroValue308
  g15:=by kernel_rfl
  g16:=by kernel_rfl
  g17:=by kernel_rfl
  g18:=by kernel_rfl
  g19:=by kernel_rfl
  t80:=Tryz.underlying314
  a80:=Tryz.isAgg314
  z80:=Tryz.sizeOf314
  v80:=Tryz.zeroValue314
  i0:=by kernel_rfl
  i2:=by kernel_rfl
  i3:=by kernel_rfl
  i4:=by kernel_rfl
  i5:=by kernel_rfl
  i9:=by kernel_rfl
  i20:=by kernel_rfl
  i21:=by kernel_rfl
  i37:=by kernel_rfl
  i46:=by kernel_rfl
  i51:=by kernel_rfl
  i53:=by kernel_rfl
  i75:=by kernel_rfl
  i80:=by kernel_rfl
  i85:=by kernel_rfl
  i127:=by kernel_rfl
  i143:=by kernel_rfl
  i145:=by kernel_rfl
  i167:=by kernel_rfl
  i168:=by kernel_rfl
  i171:=by kernel_rfl
  i173:=by kernel_rfl
  i175:=by kernel_rfl
  i210:=by kernel_rfl
  i212:=by kernel_rfl
  i232:=by kernel_rfl
  i233:=by kernel_rfl
  m15:=by kernel_rfl
  m16:=by kernel_rfl
  m17:=by kernel_rfl
  m18:=by kernel_rfl
  m19:=by kernel_rfl
  c0:=by kernel_rfl
  c2:=by kernel_rfl
  c3:=by kernel_rfl
  c4:=by kernel_rfl
  c5:=by kernel_rfl
  c9:=by kernel_rfl
  c20:=by kernel_rfl
  c21:=by kernel_rfl
  c37:=by kernel_rfl
  c46:=by kernel_rfl
  c51:=by kernel_rfl
  c53:=by kernel_rfl
  c75:=by kernel_rfl
  c80:=by kernel_rfl
  c85:=by kernel_rfl
  c127:=by kernel_rfl
  c143:=by kernel_rfl
  c145:=by kernel_rfl
  c167:=by kernel_rfl
  c168:=by kernel_rfl
  c171:=by kernel_rfl
  c173:=by kernel_rfl
  c175:=by kernel_rfl
  c210:=by kernel_rfl
  c212:=by kernel_rfl
  c213:=by kernel_rfl
  c232:=by kernel_rfl
  c233:=by kernel_rfl}
def Tryz.lays229_ren:Go.Shelf.Ren:=⟨fun | 229=>90 | n=>n,fun | 9=>9 | 40=>146 | 31=>36 | 152=>188 | 3=>3 | 0=>0 | 4=>4 | 21=>21 | 154=>190 | n=>n,fun | n=>n⟩
theorem Tryz.lays229:Go.Proofs.Lays.n229 Tryz.prog Tryz.lays229_ren:={
  mixed:=by kernel_rfl
  f229:=Tryz.func90.trans (congrArg some (by kernel_rfl))
  t0:=Tryz.underlying0
  a0:=Tryz.isAgg0
  z0:=Tryz.sizeOf0
  v0:=Tryz.zeroValue0
  t3:=Tryz.underlying3
  a3:=Tryz.isAgg3
  z3:=Tryz.sizeOf3
  v3:=Tryz.zeroValue3
  t4:=Tryz.underlying4
  a4:=Tryz.isAgg4
  z4:=Tryz.sizeOf4
  v4:=Tryz.zeroValue4
  t9:=Tryz.underlying9
  a9:=Tryz.isAgg9
  z9:=Tryz.sizeOf9
  v9:=Tryz.zeroValue9
  t21:=Tryz.underlying21
  a21:=Tryz.isAgg21
  z21:=Tryz.sizeOf21
  v21:=Tryz.zeroValue21
  t31:=Tryz.underlying36
  a31:=Tryz.isAgg36
  z31:=Tryz.sizeOf36
  v31:=Tryz.zeroValue36
  t40:=Tryz.underlying146
  a40:=Tryz.isAgg146
  z40:=Tryz.sizeOf146
  v40:=Tryz.zeroValue146
  t152:=Tryz.underlying188
  a152:=Tryz.isAgg188
  z152:=Tryz.sizeOf188
  v152:=Tryz.zeroValue188
  t154:=Tryz.underlying190
  a154:=Tryz.isAgg190
  z154:=Tryz.sizeOf190
  v154:=Tryz.zeroValue190}
def Tryz.sort98_ren:Go.Shelf.Ren:=⟨fun | 6=>98 | 15=>128 | 14=>127 | 28=>163 | 29=>164 | 20=>155 | 21=>156 | 22=>157 | 23=>158 | 24=>159 | 25=>160 | 26=>161 | 27=>162 | 46=>189 | 47=>190 | 48=>191 | 49=>192 | 50=>193 | 57=>209 | n=>n,fun | 22=>26 | 24=>108 | 25=>154 | 3=>3 | 39=>200 | 0=>0 | 53=>237 | 55=>217 | 4=>4 | 46=>230 | 45=>229 | 50=>234 | 5=>5 | 9=>9 | 66=>264 | 70=>268 | 76=>294 | 77=>295 | n=>n,fun | n=>n⟩
theorem Tryz.sort98:Go.Proofs.SlLaysF0.n6 Tryz.prog Tryz.sort98_ren:={
  mixed:=by kernel_rfl
  f6:=⟨Tryz.f98.name,by decide,Tryz.func98.trans (congrArg some (by kernel_rfl))⟩
  f14:=⟨Tryz.f127.name,by decide,Tryz.func127.trans (congrArg some (by kernel_rfl))⟩
  f15:=Tryz.func128.trans (congrArg some (by kernel_rfl))
  f20:=⟨Tryz.f155.name,by decide,Tryz.func155.trans (congrArg some (by kernel_rfl))⟩
  f21:=⟨Tryz.f156.name,by decide,Tryz.func156.trans (congrArg some (by kernel_rfl))⟩
  f22:=⟨Tryz.f157.name,by decide,Tryz.func157.trans (congrArg some (by kernel_rfl))⟩
  f23:=⟨Tryz.f158.name,by decide,Tryz.func158.trans (congrArg some (by kernel_rfl))⟩
  f24:=⟨Tryz.f159.name,by decide,Tryz.func159.trans (congrArg some (by kernel_rfl))⟩
  f25:=⟨Tryz.f160.name,by decide,Tryz.func160.trans (congrArg some (by kernel_rfl))⟩
  f26:=⟨Tryz.f161.name,by decide,Tryz.func161.trans (congrArg some (by kernel_rfl))⟩
  f27:=⟨Tryz.f162.name,by decide,Tryz.func162.trans (congrArg some (by kernel_rfl))⟩
  f28:=Tryz.func163.trans (congrArg some (by kernel_rfl))
  f29:=Tryz.func164.trans (congrArg some (by kernel_rfl))
  f46:=⟨Tryz.f189.name,by decide,Tryz.func189.trans (congrArg some (by kernel_rfl))⟩
  f47:=Tryz.func190.trans (congrArg some (by kernel_rfl))
  f48:=Tryz.func191.trans (congrArg some (by kernel_rfl))
  f49:=⟨Tryz.f192.name,by decide,Tryz.func192.trans (congrArg some (by kernel_rfl))⟩
  f50:=⟨Tryz.f193.name,by decide,Tryz.func193.trans (congrArg some (by kernel_rfl))⟩
  f57:=⟨Tryz.f209.name,by decide,Tryz.func209.trans (congrArg some (by kernel_rfl))⟩
  t0:=Tryz.underlying0
  a0:=Tryz.isAgg0
  z0:=Tryz.sizeOf0
  v0:=Tryz.zeroValue0
  t3:=Tryz.underlying3
  a3:=Tryz.isAgg3
  z3:=Tryz.sizeOf3
  v3:=Tryz.zeroValue3
  t4:=Tryz.underlying4
  a4:=Tryz.isAgg4
  z4:=Tryz.sizeOf4
  v4:=Tryz.zeroValue4
  t5:=Tryz.underlying5
  a5:=Tryz.isAgg5
  z5:=Tryz.sizeOf5
  v5:=Tryz.zeroValue5
  t9:=Tryz.underlying9
  a9:=Tryz.isAgg9
  z9:=Tryz.sizeOf9
  v9:=Tryz.zeroValue9
  t22:=Tryz.underlying26
  a22:=Tryz.isAgg26
  z22:=Tryz.sizeOf26
  v22:=Tryz.zeroValue26
  t25:=Tryz.underlying154
  a25:=Tryz.isAgg154
  z25:=Tryz.sizeOf154
  v25:=Tryz.zeroValue154
  t39:=Tryz.underlying200
  a39:=Tryz.isAgg200
  z39:=Tryz.sizeOf200
  v39:=Tryz.zeroValue200
  t45:=Tryz.underlying229
  a45:=Tryz.isAgg229
  z45:=Tryz.sizeOf229
  v45:=Tryz.zeroValue229
  t46:=Tryz.underlying230
  a46:=Tryz.isAgg230
  z46:=Tryz.sizeOf230
  v46:=Tryz.zeroValue230
  t50:=Tryz.underlying234
  a50:=Tryz.isAgg234
  z50:=Tryz.sizeOf234
  v50:=Tryz.zeroValue234
  t53:=Tryz.underlying237
  a53:=Tryz.isAgg237
  z53:=Tryz.sizeOf237
  v53:=Tryz.zeroValue237
  t55:=Tryz.underlying217
  a55:=Tryz.isAgg217
  z55:=Tryz.sizeOf217
  v55:=Tryz.zeroValue217
  t66:=Tryz.underlying264
  a66:=Tryz.isAgg264
  z66:=Tryz.sizeOf264
  v66:=Tryz.zeroValue264
  t70:=Tryz.underlying268
  a70:=Tryz.isAgg268
  z70:=Tryz.sizeOf268
  v70:=Tryz.zeroValue268
  t76:=Tryz.underlying294
  a76:=Tryz.isAgg294
  z76:=Tryz.sizeOf294
  v76:=Tryz.zeroValue294
  t77:=Tryz.underlying295
  a77:=Tryz.isAgg295
  z77:=Tryz.sizeOf295
  v77:=Tryz.zeroValue295}
end Go.Proofs
namespace Go.Lf
open Go Go.Proofs
theorem Fn.same {P:Program} {f:FuncId} {args:Array Value} {κ:K} {v:Value} {R:Value→K→Prop} (h:∀ w,Calls P f args w fun e w'=>e=.returned v∧w'=w) (hR:R v κ):Fn P f args κ R:=
 fun C d=>(h (W C κ d)).mono fun _ _ ⟨he,hw⟩=>⟨v,κ,d,he,hw,hR⟩
def hsz (H:Array Obj) (b:Nat):Nat:=match H[b]? with | some (.cells c _ _)=>c.size | _=>0
theorem Fn.belowT (τ:Tag) {P:Program} {f:FuncId} {args:Array Value} {κ:K} {R:Value→K→Prop} (h:∀ C d,Calls P f args (W C κ d) fun e w'=>∃ v,e=.returned v∧Go.RowKit.Below κ.H.size (W C κ d) w'∧∀ κ',κ'.H=w'.heap→Step [] κ κ'→(∀ b,κ.H.size≤b→κ'.fr b=hsz w'.heap b∧κ'.tag b=τ)→R v κ'):Fn P f args κ R:=by
 intro C d
 refine (h C d).mono ?_
 rintro e w' ⟨v,he,hb,hR⟩
 refine ⟨v,⟨w'.heap,fun b=>if b<κ.H.size then κ.fr b else hsz w'.heap b,fun b=>if b<κ.H.size then κ.tag b else τ⟩,w'.drawn,he,?_,hR _ rfl ?_ fun b hb=>⟨if_neg (by omega),if_neg (by omega)⟩⟩
 ·have h1:=hb.os;have h2:=hb.tape;have h3:=hb.output
  cases w'
  simp only [W] at h1 h2 h3 ⊢
  subst h1;subst h2;subst h3
  have h0:C.base=0:=Nat.eq_of_beq_eq_true C.hb
  rw [h0,Nat.zero_add]
 ·have hH:∀ b,b<κ.H.size→w'.heap[b]?=κ.H[b]?:=fun b hlt=>hb.block b hlt
  refine ⟨hb.size,fun b hlt _=>⟨hH b hlt,if_pos hlt,if_pos hlt⟩,fun b hlt=>⟨Nat.le_of_eq (if_pos hlt).symm,fun o _=>?_⟩,fun b hlt _=>⟨if_pos hlt,?_⟩⟩
  ·unfold K.cell;rw [hH b hlt]
  ·unfold K.shp;rw [hH b hlt]
theorem Fn.below {P:Program} {f:FuncId} {args:Array Value} {κ:K} {R:Value→K→Prop} (h:∀ C d,Calls P f args (W C κ d) fun e w'=>∃ v,e=.returned v∧Go.RowKit.Below κ.H.size (W C κ d) w'∧∀ κ',κ'.H=w'.heap→Step [] κ κ'→R v κ'):Fn P f args κ R:=
 Fn.belowT (0,0) fun C d=>(h C d).mono fun _ _ ⟨v,h1,h2,h3⟩=>⟨v,h1,h2,fun κ' a b _=>h3 κ' a b⟩
theorem ziT:∀ (l:List UInt8) (c:UInt8),Go.Lib.indexByte l c<l.length
 | [],_=>by unfold Go.Lib.indexByte;simp
 | b::l,c=>by
  have:=ziT l c
  unfold Go.Lib.indexByte
  simp only [List.length_cons]
  split
  ·omega
  ·split<;>omega
theorem zjn {κ:K} {p0:List UInt8} {p1:Int} (hb1:p0.length≤9223372036854775807) (hb2:0≤p1∧p1≤255) {r:Int} (hr:strings_IndexByte p0 p1=some r) :
  Fn Tryz.prog 68 #[strV p0,.int .u8 p1] κ (fun v κ'=>κ=κ'∧v=.int .i64 r∧I64 r):=by
 obtain rfl:=Option.some.inj hr
 refine Fn.same (fun w=>Any.strings_IndexByte Tryz.lays137 ⟨p0.toArray⟩ p1 w) ⟨rfl,rfl,?_⟩
 have h1:=Go.Lib.indexByte_ge p0 p1.toNat.toUInt8
 have h2:=ziT p0 p1.toNat.toUInt8
 unfold I64;omega
theorem zjm {κ:K} {p0:List UInt8} {p1:List UInt8} (hb1:p0.length≤9223372036854775807) (hb2:p1.length≤9223372036854775807) {r:Int} (hr:zfE p0 p1=some r) :
  Fn Tryz.prog 208 #[strV p0,strV p1] κ (fun v κ'=>κ=κ'∧v=.int .i64 r∧I64 r):=by
 match p1,hr with
 | [c],hr=>
  obtain rfl:=Option.some.inj hr
  refine Fn.same (fun w=>Any.stringslite_Index_one Tryz.lays219 ⟨p0.toArray⟩ c w) ⟨rfl,rfl,?_⟩
  have h1:=Go.Lib.indexByte_ge p0 c
  have h2:=ziT p0 c
  unfold I64;omega
theorem zlP {κ:K} {p0:Int} {p1:Int} {r:Int×Int} (hr:ze0 p0 p1=some r) :
  Fn Tryz.prog 221 #[.int .u64 p0,.int .u64 p1] κ (fun v κ'=>κ=κ'∧v=.tuple #[.int .u64 r.1,.int .u64 r.2]):=by
 unfold ze0 at hr
 split at hr
 ·rename_i h
  obtain rfl:=Option.some.inj hr
  obtain ⟨x,rfl⟩:=Int.eq_ofNat_of_zero_le h.1
  obtain ⟨y,rfl⟩:=Int.eq_ofNat_of_zero_le h.2.2.1
  refine Fn.same (fun w=>Any.bits_Mul Tryz.lays212 x y (by omega) (by omega) w) ⟨rfl,?_⟩
  simp
 ·cases hr
theorem zjd {κ:K} {p0:List Int} {a1:Option Addr} {c2:Nat} {τ0:Tag} (f3:Gr tI64 false τ0 κ 3 a1 c2 p0) {r:(List Int)} (hr:zfl p0=some r) :
  Fn Tryz.prog 215 #[.slice a1 p0.length c2] κ (fun v κ'=>Step (blk a1 c2) κ κ'∧v=.tuple #[]∧Gr tI64 false τ0 κ' 3 a1 c2 r∧r.length=p0.length):=by
 have hr':p0.reverse=r:=Option.some.inj hr
 subst hr'
 have hI:∀ x∈p0.reverse,I64 x:=by
  intro x hx
  rcases f3.body with ⟨_,h1⟩ | ⟨g,cur,xs,ha,hrp,_⟩
  ·subst h1;cases hx
  ·exact (zlM hrp).2 x (by simpa using hx)
 refine Fn.row_int f3 (by simp) hI (fun w g ha hH=>?_) (fun h0 w=>?_)
 ·subst ha
  exact Any.slices_Reverse_int Tryz.lays112 g 0 c2 p0 w hH (zqC f3.most)
 ·subst h0
  exact Any.slices_Reverse_int_empty Tryz.lays112 a1 c2 w
theorem Glob.tab {κ:K} (G:Glob κ) (C:Cx) (d:Nat):Lib.TabIs Tryz.prog (W C κ d) "internal/strconv.uint64pow10" .u64 Lib.pow10Tab:=by
 have hg:Tryz.prog.globalNamed "internal/strconv.uint64pow10" = some 5:=by kernel_rfl
 obtain ⟨_,e,k,h4⟩:=G.psz
 unfold Lib.TabIs World.var?
 rw [hg]
 simp only [Option.bind_some]
 unfold K.shp at h4
 show (match κ.H[5]? with | some (.cells cs _ _)=>some cs | _=>none)=_
 split at h4
 ·rename_i c T kk hH
  rw [hH]
  injection h4 with h4
  injection h4 with _ h4
  injection h4 with h4 _
  show some c=_
  congr 1
  have hp:(Lib.pow10Tab.map fun z=>Value.int .u64 z)=pow10s.map (Value.int .u64):=by rfl
  rw [hp]
  apply Array.ext_getElem?
  intro i
  by_cases hi:i<(pow10s.map (Value.int .u64)).length
  ·have:=G.pow.2.2 i _ (List.getElem?_eq_getElem hi)
   unfold K.cell at this
   rw [hH] at this
   simp only [Nat.zero_add] at this
   rw [this,List.getElem?_toArray,List.getElem?_eq_getElem hi]
  ·rw [Array.getElem?_eq_none (by rw [h4];rw [List.length_map] at hi;omega),Array.getElem?_eq_none (by rw [List.size_toArray];omega)]
 ·cases h4
theorem zjp {κ:K} {p0:Int} {p1:Int} (hb1:I64 p0) (hb2:I64 p1) (G0:Glob κ) {r:(List UInt8)} (hr:zdN p0 p1=some r) :
  Fn Tryz.prog 120 #[.int .i64 p0,.int .i64 p1] κ (fun v κ'=>Step [] κ κ'∧v=strV r∧r.length≤9223372036854775807):=by
 unfold zdN at hr
 split at hr
 ·rename_i h;subst h
  obtain rfl:=Option.some.inj hr
  refine Fn.below fun C d=>(Any.strconv_FormatInt_10 Tryz.laysM173 p0 hb1.1 hb1.2 (W C κ d) (G0.tab C d)).mono ?_
  rintro e w' ⟨he,k,os,rfl⟩
  refine ⟨_,he,⟨rfl,rfl,rfl,by show κ.H.size≤(κ.H++os).size;rw [Array.size_append];omega,fun b hb=>?_⟩,fun κ' _ s=>⟨s,rfl,?_⟩⟩
  ·show (κ.H++os)[b]?=κ.H[b]?
   rw [Array.getElem?_append_left hb]
  ·have:=Lib.itoa_length_le p0 hb1.1 hb1.2;omega
 ·cases hr
theorem zj9 {κ:K} {p0:List UInt8} {p1:Int} {p2:Int} (hb1:p0.length≤9223372036854775807) (hb2:I64 p1) (hb3:I64 p2) (G0:Glob κ) {r:Int×Er} (hr:zep p0 p1 p2=some r) :
  Fn Tryz.prog 92 #[strV p0,.int .i64 p1,.int .i64 p2] κ (fun v κ'=>Step [] κ κ'∧∃ (v5:Value),v=.tuple #[.int .i64 r.1,v5]∧I64 r.1∧ErV κ' v5 r.2):=by
 unfold zep at hr
 split at hr
 ·rename_i h
  obtain ⟨rfl,rfl,hlen⟩:=h
  have hsz:(⟨p0.toArray⟩:ByteArray).size≤281474976710656:=by show p0.toArray.size≤_;rw [List.size_toArray];exact hlen
  have hcell:∀ (g:Nat) (x:Value),PubAt κ g 0 [x]→∀ C d,(W C κ d).cell? ⟨g,0,none⟩=some x:=by
   intro g x hp C d
   have h1:=hp.2.2 0 x rfl
   unfold K.cell at h1
   unfold World.cell?
   show (match κ.H[g]? with | some (.cells c _ _)=>(if (none:Option _).isSome then none else c[0]?) | _=>none)=some x
   split at h1
   ·rename_i hH;rw [hH];exact h1
   ·cases h1
  cases hp:Lib.parseIntB 64 p0 with
  | ok v=>
   rw [hp] at hr
   obtain rfl:=Option.some.inj hr
   refine Fn.below fun C d=>(Any.strconv_ParseInt_10_at64_ok Tryz.laysC174 ⟨p0.toArray⟩ (by omega) v hp (W C κ d)).mono ?_
   rintro e w' ⟨he,hw⟩
   have hb:Go.RowKit.Below κ.H.size (W C κ d) w':=by
    rcases hw with rfl | ⟨t,rfl⟩
    ·exact RowKit.Below.refl _ _
    ·exact Lib.bytesWorld_below (W C κ d) _ _
   have hbd:=Lib.parseIntB_bounds hp
   exact ⟨_,he,hb,fun κ' _ s=>⟨s,_,rfl,by unfold I64;simp at hbd;omega,ErV.nil⟩⟩
  | range=>
   rw [hp] at hr
   obtain rfl:=Option.some.inj hr
   obtain ⟨t,p,hs⟩:=G0.rng
   refine Fn.below fun C d=>(Any.strconv_ParseInt_10_at64_range Tryz.laysC174 ⟨p0.toArray⟩ hsz hp _ (W C κ d) (hcell _ _ hs C d) (.inr ⟨_,_,rfl⟩)).mono ?_
   rintro e w' ⟨N,he,_,_,hb⟩
   refine ⟨_,he,hb,fun κ' _ s=>⟨s,_,rfl,?_,⟨_,_,rfl⟩⟩⟩
   show I64 (Lib.intSat 64 p0)
   unfold Lib.intSat I64
   split<;>simp
  | _=>
   rw [hp] at hr
   obtain rfl:=Option.some.inj hr
   obtain ⟨t,p,hs⟩:=G0.syn
   refine Fn.below fun C d=>(Any.strconv_ParseInt_10_at64_syntax Tryz.laysC174 ⟨p0.toArray⟩ hsz hp _ (W C κ d) (hcell _ _ hs C d) (.inr ⟨_,_,rfl⟩)).mono ?_
   rintro e w' ⟨N,he,_,_,hb⟩
   exact ⟨_,he,hb,fun κ' _ s=>⟨s,_,rfl,by unfold I64;omega,⟨_,_,rfl⟩⟩⟩
 ·cases hr
theorem zsr (n b0 b1 b2 b3:Nat):(Lib.decodeN n b0 b1 b2 b3).1=32→b0=32∧(Lib.decodeN n b0 b1 b2 b3).2=1:=by
 unfold Lib.decodeN
 repeat' split
 all_goals (dsimp only;intro h;first | exact ⟨h,rfl⟩ | (exfalso;omega))
theorem zsq (n b0 b1 b2 b3:Nat):(Lib.decodeN n b0 b1 b2 b3).1≠32→b0≠32∧(1<(Lib.decodeN n b0 b1 b2 b3).2→b1≠32)∧(2<(Lib.decodeN n b0 b1 b2 b3).2→b2≠32)∧(3<(Lib.decodeN n b0 b1 b2 b3).2→b3≠32)∧(Lib.decodeN n b0 b1 b2 b3).2≤4:=by
 unfold Lib.decodeN
 repeat' split
 all_goals (dsimp only;intro h;refine ⟨by omega,fun _=>by omega,fun _=>by omega,fun _=>by omega,by omega⟩)
theorem zl6:∀ (bs rest cur:List UInt8),(∀ b∈bs,b≠32)→zF (bs++rest) cur=zF rest (cur++bs)
 | [],rest,cur,_=>by simp
 | b::bs,rest,cur,h=>by
  rw [List.cons_append,zF,if_neg (h b (by simp)),zl6 bs rest _ (fun x hx=>h x (by simp [hx]))]
  simp
theorem zoS (s:ByteArray):∀ (f pos:Nat) (st:Option Nat) (acc:List (Nat×Nat)),s.size≤pos+f→pos≤s.size→(∀ a,st=some a→a<pos)→
  acc.map (fun p=>Lib.pieceU s.data.toList p.1 p.2)++zF (s.data.toList.drop pos) (Lib.openPiece s.data.toList st pos)=(Lib.closeSpans s (Lib.spansFromP (fun x=>x == 32) s f pos st acc)).map (fun p=>Lib.pieceU s.data.toList p.1 p.2):=by
 have hend:∀ (f:Nat) (st:Option Nat) (acc:List (Nat×Nat)),(∀ a,st=some a→a<s.size)→acc.map (fun p=>Lib.pieceU s.data.toList p.1 p.2)++zF (s.data.toList.drop s.size) (Lib.openPiece s.data.toList st s.size)=(Lib.closeSpans s (acc,st)).map (fun p=>Lib.pieceU s.data.toList p.1 p.2):=by
  intro f st acc hst
  have hd:s.data.toList.drop s.size=[]:=List.drop_eq_nil_of_le (by rw [←Lib.size_eq];exact Nat.le_refl _)
  rw [hd]
  cases st with
  | none=>simp [Lib.closeSpans,Lib.openPiece,zF]
  | some a=>
   have:=Lib.pieceU_ne s.data.toList a s.size (hst a rfl) (by rw [←Lib.size_eq];exact Nat.le_refl _)
   simp [Lib.closeSpans,Lib.openPiece,zF,this]
 intro f
 induction f with
 | zero=>
  intro pos st acc h hp hst
  obtain rfl:pos=s.size:=by omega
  exact hend 0 st acc hst
 | succ f ih=>
  intro pos st acc h hp hst
  by_cases hlt:pos<s.size
  ·have hw:=Lib.width_pos s pos
   have hwn:pos+(Utf8.decode s pos).2≤s.size:=by
    have:=Lib.decodeN_le_n' (s.size - pos) (s.get! pos).toNat (s.get! (pos+1)).toNat (s.get! (pos+2)).toNat (s.get! (pos+3)).toNat (by omega)
    rw [←Lib.decode_at] at this
    omega
   have hlen:s.data.toList.length=s.size:=(Lib.size_eq s).symm
   have hsplit:s.data.toList.drop pos=(s.data.toList.drop pos).take (Utf8.decode s pos).2++s.data.toList.drop (pos+(Utf8.decode s pos).2):=by
    rw [←List.drop_drop,List.take_append_drop]
   have hd:=Lib.decode_N s pos
   simp only [Lib.spansFromP,if_pos hlt]
   by_cases hsp:(Utf8.decode s pos).1=32
   ·have hk:=zsr _ _ _ _ _ (hd▸hsp)
    rw [←hd] at hk
    have hb:s.data.toList.drop pos=32::s.data.toList.drop (pos+(Utf8.decode s pos).2):=by
     have hpl:pos<s.data.toList.length:=by omega
     rw [hk.2,List.drop_eq_getElem_cons hpl]
     congr 1
     have h1:=hk.1
     rw [List.getD_eq_getElem?_getD,List.getElem?_eq_getElem hpl] at h1
     exact UInt8.toNat_inj.1 h1
    have hbt:((Utf8.decode s pos).1 == 32)=true:=by simp [hsp]
    rw [hb,if_pos (show (fun x=>x == 32) (Utf8.decode s pos).1=true from hbt)]
    simp only [if_true,zF]
    cases st with
    | none=>
     have:=ih (pos+(Utf8.decode s pos).2) none acc (by omega) hwn (fun a h=>by cases h)
     simpa [Lib.openPiece] using this
    | some a=>
     have hpn:=Lib.pieceU_ne s.data.toList a pos (hst a rfl) (by omega)
     have:=ih (pos+(Utf8.decode s pos).2) none (acc++[(a,pos)]) (by omega) hwn (fun a h=>by cases h)
     simpa [Lib.openPiece,hpn] using this
   ·have hk:=zsq _ _ _ _ _ (hd▸hsp)
    rw [←hd] at hk
    have hbs:∀ b∈(s.data.toList.drop pos).take (Utf8.decode s pos).2,b≠32:=by
     intro b hb e
     subst e
     obtain ⟨k,hk2⟩:=List.getElem?_of_mem hb
     rw [List.getElem?_take] at hk2
     split at hk2
     ·rename_i hkw
      rw [List.getElem?_drop] at hk2
      have hg:(s.data.toList.getD (pos+k) 0).toNat=32:=by rw [List.getD_eq_getElem?_getD,hk2];rfl
      have:k=0∨k=1∨k=2∨k=3:=by omega
      rcases this with rfl | rfl | rfl | rfl
      ·exact hk.1 hg
      ·exact hk.2.1 hkw hg
      ·exact hk.2.2.1 hkw hg
      ·exact hk.2.2.2.1 hkw hg
     ·cases hk2
    have hbt:((Utf8.decode s pos).1 == 32)=false:=by simp [hsp]
    rw [hsplit,zl6 _ _ _ hbs,if_neg (show ¬(fun x=>x == 32) (Utf8.decode s pos).1=true from by simp [hsp])]
    cases st with
    | none=>
     have:=ih (pos+(Utf8.decode s pos).2) (some pos) acc (by omega) hwn (fun a h=>by cases h;omega)
     have e:([]:List UInt8)++(s.data.toList.drop pos).take (Utf8.decode s pos).2=Lib.pieceU s.data.toList pos (pos+(Utf8.decode s pos).2):=by
      unfold Lib.pieceU
      rw [List.nil_append,Nat.add_sub_cancel_left]
     simp only [Lib.openPiece] at this ⊢
     rw [e];exact this
    | some a=>
     have:=ih (pos+(Utf8.decode s pos).2) (some a) acc (by omega) hwn (fun b h=>by cases h;have:=hst a rfl;omega)
     simp only [Lib.openPiece] at this ⊢
     rw [Lib.pieceU_grow _ _ _ _ (Nat.le_of_lt (hst a rfl))]
     exact this
  ·obtain rfl:pos=s.size:=by omega
   rw [Lib.spansFromP_end _ s _ _ _ _ hlt]
   exact hend 0 st acc hst
theorem zoq (s:ByteArray):(Lib.goFieldsP (fun x=>x == 32) s).map (·.data.toList)=zF s.data.toList []:=by
 have h:=zoS s s.size 0 none [] (by omega) (Nat.zero_le _) (fun a h=>by cases h)
 simp only [List.map_nil,List.nil_append,Lib.openPiece,List.drop_zero] at h
 rw [h]
 unfold Lib.goFieldsP Lib.spansOfP
 rw [List.map_map]
 congr 1
 funext p
 simp [Lib.pieceU]
theorem zrx [Fb] {κ:K} {x:Nat} (hx:x≤1114111):Fn Tryz.prog 91 #[.int .i32 x] κ (fun v κ'=>Step [] κ κ'∧v=.bool (x == 32)):=by
 refine fnc 5 [] Tryz.func91 Tryz.ntmps91 fun hs=>?_
 refine csr ?_
 refine op 2 (.bool false) ?_
 refine ot ?_
 refine csr ?_
 refine op 3 (.int .i32 x) ?_
 refine op 4 (.bool (decide ((x:Int)=32))) ?_
 refine op 2 (.bool (decide ((x:Int)=32))) ?_
 refine ot ?_
 refine crt ?_
 refine rt [.tmp 2] [.bool (decide ((x:Int)=32))] ⟨rfl,trivial⟩ ?_
 refine ⟨hs,?_⟩
 have hb:decide ((x:Int)=32)=(x == 32):=by
  by_cases h:x=32
  ·subst h;rfl
  ·rw [decide_eq_false (by omega)]
   symm;exact beq_false_of_ne h
 rw [hb];rfl
theorem zoV {κ:K}:∀ {l:List ByteArray},(∀ x∈l,x.data.toList.length≤9223372036854775807)→Rep tStr κ (l.map Value.string) (l.map (·.data.toList))
 | [],_=>rfl
 | x::l,h=>⟨[.string x],_,rfl,⟨rfl,h x (by simp)⟩,zoV fun y hy=>h y (by simp [hy])⟩
theorem ztI {α:Type} {t:Ty α} {κ':K} {w':World} {base:Nat} {e:TypeId} {A:Nat} {l:List α} {xs:List Value} (hH:κ'.H=w'.heap) (h:w'.ownsRow base e t.size (.slice (some ⟨A,0,none⟩) l.length l.length) l.length xs) (hr:Rep t κ' xs l) (hf:∀ b,base≤b→hsz w'.heap b≤κ'.fr b) :
  Sl t κ' (some ⟨A,0,none⟩) l.length l:=by
 obtain ⟨h1,h2⟩:=h
 rcases h2 with ⟨h2,_⟩ | ⟨g,cap,cur,h2,h3,h4,h5,h6,h7,h8⟩
 ·injection h2 with h2;cases h2
 ·injection h2 with h2 h9 h10
  injection h2 with h2
  injection h2 with h2
  subst h2
  have hml:maxLen=9223372036854775807:=zfz
  refine ⟨Nat.le_refl _,by omega,fun _=>⟨A,0,rfl,fun i x hx=>?_⟩⟩
  obtain ⟨cs,ho,hcs⟩:=hr.get hx
  have hil:=(List.getElem?_eq_some_iff.1 hx).1
  have hle:(i+1)*t.size≤cur.size:=by rw [h7];exact Nat.mul_le_mul_right _ (by omega)
  have hle2:(i+1)*t.size=i*t.size+t.size:=Nat.succ_mul _ _
  have hcl:=t.len ho
  have hfr:=hf A h3
  have hz:hsz w'.heap A=cur.size:=by unfold hsz;rw [h4]
  refine ⟨cs,⟨by rw [hH];exact (Array.getElem?_eq_some_iff.1 h4).1,by omega,fun j v hj=>?_⟩,ho⟩
  unfold K.cell;rw [hH,h4]
  simp only [Nat.zero_add]
  rw [←hcs,List.getElem?_take] at hj
  split at hj
  ·rw [List.getElem?_drop,←h8,List.getElem?_take] at hj
   split at hj
   ·simpa using hj
   ·cases hj
  ·cases hj
theorem znG {κ:K} {p0:List UInt8} (hle:p0.length≤1048576) :
  Fn Tryz.prog 90 #[strV p0,.func (.func 91) #[] #[]] κ (fun v κ'=>Step [] κ κ'∧∃ (a2:Option Addr) (c3:Nat),v=.slice a2 (zF p0 []).length c3∧Sl tStr κ' a2 c3 (zF p0 [])):=by
 have eg:∀ args w,(callFunc 91 args).run Tryz.prog w=.ok (.enter 91 args) w:=enters_of Tryz.func91 (by kernel_rfl) rfl
 have hs:(⟨p0.toArray⟩:ByteArray).size≤4294967296:=by show p0.toArray.size≤_;rw [List.size_toArray];omega
 have hfw:=zoq ⟨p0.toArray⟩
 refine Fn.belowT (0,0) fun C d=>?_
 have hp:PredGrows Tryz.prog 91 #[] (fun x=>x == 32) (W C κ d):=by
  intro V x hx _
  refine Calls.mono (@zrx ⟨fun _=>true,0,rfl⟩ ⟨V.heap,fun _=>0,fun _=>(0,0)⟩ x hx (@Cx.mk ⟨fun _=>true,0,rfl⟩ V.os V.tape V.output V.drawn rfl) 0) ?_
  rintro e w' ⟨v,κ',d',he,hw,s,hv⟩
  subst hv
  refine ⟨he,?_⟩
  subst hw
  exact ⟨rfl,rfl,rfl,s.1,fun k hk=>(s.2.1 k hk (by simp)).1⟩
 refine (Any.strings_FieldsFunc_grows Tryz.lays229 91 #[] eg (fun x=>x == 32) ⟨p0.toArray⟩ (W C κ d) hs hp (by kernel_rfl) (by kernel_rfl)).mono ?_
 rintro e w' ⟨A,he,hA,hrow,hb⟩
 have hlen:(Lib.goFieldsP (fun x=>x == 32) ⟨p0.toArray⟩).length=(zF p0 []).length:=by rw [←hfw,List.length_map]
 refine ⟨_,he,hb,fun κ' hH s hT=>⟨s,some ⟨A,0,none⟩,_,by rw [hlen],?_⟩⟩
 rw [hlen] at hrow
 refine ztI hH hrow ?_ fun b hb=>Nat.le_of_eq (hT b hb).1.symm
 have:=zoV (κ:=κ') (l:=Lib.goFieldsP (fun x=>x == 32) ⟨p0.toArray⟩) (fun x hx=>?_)
 ·rw [hfw] at this;exact this
 ·unfold Lib.goFieldsP at hx
  obtain ⟨y,_,rfl⟩:=List.mem_map.1 hx
  simp
  omega
theorem zdt {κ:K} {p0:List UInt8} (hb1:p0.length≤9223372036854775807) {r:(List (List UInt8))} (hr:zaA p0=some r) :
  Fn Tryz.prog 61 #[strV p0] κ (fun v κ'=>Step [] κ κ'∧∃ (a2:Option Addr) (c3:Nat),v=.slice a2 r.length c3∧Sl tStr κ' a2 c3 r):=by
 unfold zaA at hr
 split at hr
 ·rename_i h
  obtain rfl:=Option.some.inj hr
  refine fnc 5 [] Tryz.func61 Tryz.ntmps61 fun hs=>?_
  refine csr ?_
  refine op 2 (.slice none 0 0) ?_
  refine ot ?_
  refine csr ?_
  refine op 3 (strV p0) ?_
  refine ocl 4 (znG h) ?_
  rintro _ κ5 ⟨s6,a7,c8,rfl,f9⟩
  replace hs:=hs.tr0 s6
  refine op 2 (.slice a7 (zF p0 []).length c8) ?_
  refine ot ?_
  refine crt ?_
  refine rt [.tmp 2] [.slice a7 (zF p0 []).length c8] ⟨rfl,trivial⟩ ?_
  exact ⟨hs,a7,c8,rfl,f9⟩
 ·cases hr
end Go.Lf
namespace Go.Lf
open Go Go.Proofs Go.Sort
abbrev PT:=(Int×Int)×Int
def ze3 (x:PT):List Value:=[.int .i64 x.1.1,.int .i64 x.1.2,.int .i64 x.2]
theorem ltP (a b:PT):ltOf z8 a b=decide (a.1.2<b.1.2∨(a.1.2=b.1.2∧a.1.1<b.1.1)):=by
 unfold ltOf z8
 congr 1
 apply propext
 repeat' split
 all_goals (constructor<;>intro h<;>omega)
theorem zsK:SWO (ltOf z8) where
 irrefl x:=by rw [ltP];simp
 trans x y z h1 h2:=by rw [ltP] at *;simp only [decide_eq_true_eq] at *;omega
 ntrans x y z h1 h2:=by rw [ltP] at *;simp only [decide_eq_false_iff_not] at *;omega
theorem zs9:∀ w,(isAgg 108).run Tryz.prog w=.ok true w:=fun w=>zj1 (by kernel_rfl) w
theorem zrM:∀ w,(Go.sizeOf 108).run Tryz.prog w=.ok 3 w:=fun w=>zav (by kernel_rfl) w
theorem zpn:∀ (l:List PT) (t:Nat),t<l.length*3→(l.flatMap ze3)[t]?=some ((ze3 (l[t / 3]!))[t % 3]!)
 | [],t,h=>by simp at h
 | x::l,t,h=>by
  rw [List.flatMap_cons]
  by_cases ht:t<3
  ·have e:t / 3=0:=by omega
   have e2:t % 3=t:=by omega
   rw [List.getElem?_append_left (by show t<3;omega),e,e2]
   have:t=0∨t=1∨t=2:=by omega
   rcases this with rfl | rfl | rfl<;>rfl
  ·have e:t / 3=(t - 3) / 3+1:=by omega
   have e2:t % 3=(t - 3) % 3:=by omega
   rw [List.getElem?_append_right (by show 3≤t;omega),e,e2]
   have hl:(ze3 x).length=3:=rfl
   rw [hl,zpn l (t - 3) (by simp at h;omega)]
   simp
theorem zpp (l:List PT):flatK ze3 3 l.toArray=(l.flatMap ze3).toArray:=by
 have hlen:(l.flatMap ze3).length=l.length*3:=by
  induction l with
  | nil=>rfl
  | cons x l ih=>rw [List.flatMap_cons,List.length_append,ih,List.length_cons];show 3+_=_;omega
 apply Array.toList_inj.1
 apply List.ext_getElem?
 intro t
 show (flatK ze3 3 l.toArray).toList[t]?=(l.flatMap ze3)[t]?
 by_cases ht:t<l.length*3
 ·rw [zpn l t ht]
  unfold flatK
  rw [Array.toList_map,Array.toList_range,List.getElem?_map,List.getElem?_range (by simpa using ht)]
  simp
 ·rw [List.getElem?_eq_none (by rw [Array.length_toList,size_flatK];simpa using ht),List.getElem?_eq_none (by omega)]
theorem zoX {κ:K}:∀ {l:List PT} {xs:List Value},Rep tPlaced κ xs l→xs=l.flatMap ze3∧∀ x∈l,I64 x.1.1∧I64 x.1.2∧I64 x.2
 | [],xs,h=>⟨h,fun x hx=>by cases hx⟩
 | x::l,xs,h=>by
  obtain ⟨c,xs',e,⟨_,_,rfl,⟨_,_,rfl,⟨rfl,h1⟩,⟨rfl,h2⟩⟩,⟨rfl,h3⟩⟩,hr⟩:=h
  obtain ⟨h4,h5⟩:=zoX hr
  refine ⟨by rw [e,h4];rfl,fun y hy=>?_⟩
  rcases List.mem_cons.1 hy with rfl | hy
  ·exact ⟨h1,h2,h3⟩
  ·exact h5 y hy
theorem zni {κ:K}:∀ {l:List PT},(∀ x∈l,I64 x.1.1∧I64 x.1.2∧I64 x.2)→Rep tPlaced κ (l.flatMap ze3) l
 | [],_=>rfl
 | x::l,h=>⟨ze3 x,_,rfl,⟨_,_,rfl,⟨_,_,rfl,⟨rfl,(h x (by simp)).1⟩,⟨rfl,(h x (by simp)).2.1⟩⟩,⟨rfl,(h x (by simp)).2.2⟩⟩,zni fun y hy=>h y (by simp [hy])⟩
theorem zsy (hc:∀ (inst:Fb) (κ:K) (x y:PT),@Fn inst Tryz.prog 99 #[.agg (ze3 x).toArray,.agg (ze3 y).toArray] κ (fun v κ'=>Step [] κ κ'∧v=.int .i64 (z8 x y))) (blk off size:Nat) (w:World) :
  CmpLays Tryz.prog 99 #[] ze3 3 z8 blk off size w:=by
 intro m os dk _ x y
 generalize sortWorldK ze3 3 w blk off m dk os=V
 have h:=hc ⟨fun _=>true,0,rfl⟩ ⟨V.heap,fun _=>0,fun _=>(0,0)⟩ x y
 refine Calls.mono (h (@Cx.mk ⟨fun _=>true,0,rfl⟩ V.os V.tape V.output V.drawn rfl) 0) ?_
 rintro e w' ⟨v,κ',d',he,hw,s,hv⟩
 subst hv
 refine ⟨he,d',κ'.H.extract V.heap.size κ'.H.size,?_⟩
 rw [hw]
 unfold W grow World.drewN
 simp only []
 congr 1
 apply Array.ext_getElem?
 intro b
 rw [Array.getElem?_append]
 by_cases hb:b<V.heap.size
 ·rw [if_pos hb];exact (s.2.1 b hb (by simp)).1
 ·rw [if_neg hb,Array.getElem?_extract]
  split
  ·congr 1;omega
  ·rw [Array.getElem?_eq_none (by have:=s.1;simp only at this;omega)]
theorem zsP (hc:∀ (inst:Fb) (κ:K) (x y:PT),@Fn inst Tryz.prog 99 #[.agg (ze3 x).toArray,.agg (ze3 y).toArray] κ (fun v κ'=>Step [] κ κ'∧v=.int .i64 (z8 x y)))
  {κ:K} {τ:Tag} {a:Option Addr} {c:Nat} {l:List PT} (hg:Gr tPlaced false τ κ 108 a c l) (hl:0<l.length) (hlen:l.length≤1048576) :
  Fn Tryz.prog 98 #[.slice a l.length c,.func (.func 99) #[] #[]] κ (fun v κ'=>Step (blk a c) κ κ'∧v=.tuple #[]∧Gr tPlaced false τ κ' 108 a c (pdq (ltOf z8) l.toArray 0 l.length (Lib.bitLen l.length) true true).toList):=by
 rcases hg.body with ⟨_,h⟩ | ⟨g,cur,xs,rfl,hr,hH,h1,h2,h3,h4,h5,h6,h7⟩
 ·rw [h] at hl;cases hl
 have eg:∀ args w,(callFunc 99 args).run Tryz.prog w=.ok (.enter 99 args) w:=enters_of Tryz.func99 (by kernel_rfl) rfl
 obtain ⟨hx,hI⟩:=zoX hr
 have hgl:g<κ.H.size:=(Array.getElem?_eq_some_iff.1 hH).1
 have hlen3:(l.flatMap ze3).length=l.length*3:=by rw [←hx];exact hr.length
 have hp:=pdq_sorts (ltOf z8) zsK l.toArray 0 l.length (Lib.bitLen l.length) true true (Nat.zero_le _) (by simp) (Or.inl rfl)
 obtain ⟨r,hrr⟩:∃ r:Array PT,r=pdq (ltOf z8) l.toArray 0 l.length (Lib.bitLen l.length) true true:=⟨_,rfl⟩
 rw [←hrr] at hp ⊢
 have hrl:r.size=l.length:=hp.1.1
 have hrI:∀ x∈r.toList,I64 x.1.1∧I64 x.1.2∧I64 x.2:=by
  have hpm:=hp.1.2.2
  intro x hx
  refine hI x ?_
  have h8:(r.extract 0 l.length).toList=r.toList:=by rw [←hrl];simp
  have h9:(l.toArray.extract 0 l.length).toList=l:=by simp
  rw [h8,h9] at hpm
  exact hpm.mem_iff.1 hx
 intro C d
 have hHold:HoldsK ze3 3 (W C κ d) g 0 l.toArray:=by
  unfold HoldsK
  rw [zpp]
  intro j hj
  have hj':j<l.length*3:=by rw [List.size_toArray,hlen3] at hj;exact hj
  have hc1:cur[j]?=(l.flatMap ze3)[j]?:=by
   rw [←hx,←h4,List.getElem?_take,if_pos (by show j<l.length*3;exact hj')];simp
  refine ⟨?_,?_⟩
  ·rw [zi7]
   unfold K.cell
   rw [hH]
   simp only [Nat.zero_add]
   rw [hc1]
   have:j<(l.flatMap ze3).length:=by omega
   simp
   rw [List.getElem?_eq_getElem this];rfl
  ·unfold World.frozen? W
   simp [hH]
 refine (AnyQ.slices_SortFunc_eq Tryz.sort98 3 zs9 zrM ze3 (fun _=>rfl) (fun x v hv=>by simp [ze3] at hv;rcases hv with rfl | rfl | rfl<;>rfl) z8 zsK 99 #[] g 0 c l.toArray (W C κ d) eg (zsy hc g 0 _ _) hHold hgl (by simp;omega)).mono ?_
 rintro e w' ⟨he,n,os,hw⟩
 have hw2:w'=sortWorldK ze3 3 (W C κ d) g 0 n r os:=by rw [hrr];exact hw
 have hF:flatK ze3 3 r=(r.toList.flatMap ze3).toArray:=by
  have:=zpp r.toList
  simpa using this
 have hFl:(r.toList.flatMap ze3).length=r.toList.length*3:=(zni (κ:=κ) hrI).length
 have hrl2:r.toList.length=l.length:=by rw [Array.length_toList];exact hrl
 obtain ⟨cur',hcur'⟩:∃ cur',cur'=putCells id 0 (flatK ze3 3 r) cur:=⟨_,rfl⟩
 have hheap:w'.heap=κ.H.modify g (onCells (putCells id 0 (flatK ze3 3 r)))++os:=by rw [hw2];rfl
 have hold:∀ b,b<κ.H.size→w'.heap[b]?=(κ.H.modify g (onCells (putCells id 0 (flatK ze3 3 r))))[b]?:=fun b hb=>by rw [hheap,Array.getElem?_append_left (by simpa using hb)]
 have hne:∀ b,b<κ.H.size→b≠g→w'.heap[b]?=κ.H[b]?:=fun b hb hn=>by rw [hold b hb,Array.getElem?_modify,if_neg (Ne.symm hn)]
 have hg':w'.heap[g]?=some (.cells cur' 108 (0,0)):=by rw [hold g hgl,Array.getElem?_modify,if_pos rfl,hH,hcur'];rfl
 have hf0:κ.fr g=0:=by simpa using h5
 have hcs:cur'.size=cur.size:=by rw [hcur'];unfold putCells;simp
 refine ⟨_,⟨w'.heap,fun b=>if b<κ.H.size then κ.fr b else 0,fun b=>if b<κ.H.size then κ.tag b else (0,0)⟩,d+n,he,?_,?_,rfl,?_⟩
 ·rw [hw2]
  unfold W
  show sortWorldK _ _ _ _ _ _ _ _={heap:=(sortWorldK _ _ _ _ _ _ _ _).heap,tape:=C.tape,drawn:=C.base+(d+n),os:=C.os,output:=C.output}
  rw [←Nat.add_assoc];rfl
 ·have hbg:∀ b,b∉blk (some ⟨g,0,none⟩) c→b≠g:=fun b hb e=>hb (by rw [e];exact zhO (a:=⟨g,0,none⟩) (by omega))
  refine ⟨by rw [hheap];simp,fun b hb hn=>⟨hne b hb (hbg b hn),if_pos hb,if_pos hb⟩,fun b hb=>⟨Nat.le_of_eq (if_pos hb).symm,fun o ho=>?_⟩,fun b hb hf=>⟨if_pos hb,?_⟩⟩
  ·have:b≠g:=fun e=>by rw [e,hf0] at ho;cases ho
   unfold K.cell;rw [hne b hb this]
  ·have:b≠g:=fun e=>by rw [e,hf0] at hf;cases hf
   unfold K.shp;rw [hne b hb this]
 ·refine ⟨by rw [hrl2];exact hg.most,.inr ⟨g,cur',r.toList.flatMap ze3,rfl,zni hrI,hg',by rw [hrl2];exact h1,h2,by rw [hcs];exact h3,?_,?_,(if_pos hgl).trans h6,h7⟩⟩
  ·apply List.ext_getElem?
   intro j
   show (cur'.toList.take (r.toList.length*3))[j]?=_
   rw [List.getElem?_take]
   split
   ·rename_i hj
    have hjc:j<cur.size:=by
     have h3':cur.size=c*3:=h3
     have:l.length*3≤c*3:=Nat.mul_le_mul_right 3 h1
     omega
    have hjf:j<(r.toList.flatMap ze3).length:=by omega
    rw [hcur',hF]
    unfold putCells
    rw [Array.getElem?_toList,Array.getElem?_mapIdx,Array.getElem?_eq_getElem hjc]
    simp
    rw [if_pos (by rw [←List.length_flatMap];exact hjf),List.getElem?_eq_getElem hjf];rfl
   ·rw [List.getElem?_eq_none (by omega)]
  ·show (if g<κ.H.size then κ.fr g else 0)=_
   rw [if_pos hgl,hf0];simp
theorem zlx (a b:Int):zdC a b=some (if a<b then -1 else if b<a then 1 else 0):=by
 unfold zdC zgP
 simp only [Option.bind_some,decide_true,Bool.not_true,Bool.false_eq_true,if_false]
 by_cases h:a<b
 ·simp [h]
 ·by_cases h2:b<a
  ·simp [h,h2]
  ·simp [h,h2]
theorem zqA (u v:Int):zi6 [u,v]=some (if u=0 then v else u):=by
 unfold zi6
 have w1:w64 1=1:=by decide
 have w2:w64 2=2:=by decide
 by_cases hu:u=0
 ·have e0:zak [u,v] 0=some (.inl 1):=by unfold zak idx;simp [hu,w1]
  rw [zI e0]
  by_cases hv:v=0
  ·have e1:zak [u,v] 1=some (.inl 2):=by unfold zak idx;simp [hv,w2]
   have e2:zak [u,v] 2=some (.inr (.inl ())):=by unfold zak idx;simp
   rw [zI e1,zD e2]
   simp [zii,hu,hv]
  ·have e1:zak [u,v] 1=some (.inr (.inr v)):=by unfold zak idx;simp [hv]
   rw [zD e1]
   simp [hu]
 ·have e0:zak [u,v] 0=some (.inr (.inr u)):=by unfold zak idx;simp [hu]
  rw [zD e0]
  simp [hu]
theorem ztm (x y:PT):zfu x y=some (z8 x y):=by
 unfold zfu zaF
 rw [zlx,zlx]
 simp only [Option.bind_some,zqA]
 congr 1
 unfold z8
 repeat' split
 all_goals first | rfl | omega
theorem zqh (l:List PT) (h:l.length≤1048576):zfa l=some l:=by
 unfold zfa zb4 app
 simp
 omega
theorem SlE.of {κ:K} {N S:Nat} {a:Option Addr} {c:Nat} {l:List PT} (h:Gr tPlaced true (N,S) κ 108 a c l):SlE tPlaced 108 S κ a c l:=⟨N,h.slO (by decide)⟩
theorem zqT {κ:K} {a:Option Addr} {c:Nat}:Fn Tryz.prog 98 #[.slice a 0 c,.func (.func 99) #[] #[]] κ (fun v κ'=>κ=κ'∧v=.tuple #[]):=by
 exact Fn.same (fun w=>AnyF.slices_SortFunc_none Tryz.sort98 a c _ w) ⟨rfl,rfl⟩
end Go.Lf
