import Derived.Shelf.LaysM
import Derived.Test.YthpekfoabieiaaaGreatDoorEe
import Derived.Test.YthpekfoabieiaaaGreatDoorEf
import Derived.Test.YthpekfoabieiaaaGreatDoorProg
import Derived.KernelRfl
import Derived.Test.YthpekfoabieiaaaGreatDoorLa
set_option linter.all false
namespace Go.Proofs
open Go.Shelf
def Tryz.lays156_ren : Go.Shelf.Ren := ⟨fun | 156 => 100 | 165 => 188 | 166 => 189 | 169 => 190 | 240 => 300 | 241 => 301 | 276 => 385 | 277 => 386 | n => n, fun | 31 => 162 | 9 => 9 | 3 => 3 | 4 => 4 | 0 => 0 | 20 => 20 | 72 => 275 | 76 => 269 | 70 => 273 | 37 => 122 | 75 => 268 | 127 => 366 | 164 => 425 | 5 => 5 | 80 => 200 | n => n, fun | n => n⟩
theorem Tryz.lays156 : Go.Proofs.Lays.n156 Tryz.prog Tryz.lays156_ren := {
  mixed := by kernel_rfl
  f156 := Tryz.func100.trans (congrArg some (by kernel_rfl))
  f165 := Tryz.func188.trans (congrArg some (by kernel_rfl))
  f166 := Tryz.func189.trans (congrArg some (by kernel_rfl))
  f169 := Tryz.func190.trans (congrArg some (by kernel_rfl))
  f240 := Tryz.func300.trans (congrArg some (by kernel_rfl))
  f241 := Tryz.func301.trans (congrArg some (by kernel_rfl))
  f276 := Tryz.func385.trans (congrArg some (by kernel_rfl))
  f277 := Tryz.func386.trans (congrArg some (by kernel_rfl))
  t0 := Tryz.underlying0
  a0 := Tryz.isAgg0
  z0 := Tryz.sizeOf0
  v0 := Tryz.zeroValue0
  t3 := Tryz.underlying3
  a3 := Tryz.isAgg3
  z3 := Tryz.sizeOf3
  v3 := Tryz.zeroValue3
  t4 := Tryz.underlying4
  a4 := Tryz.isAgg4
  z4 := Tryz.sizeOf4
  v4 := Tryz.zeroValue4
  t9 := Tryz.underlying9
  a9 := Tryz.isAgg9
  z9 := Tryz.sizeOf9
  v9 := Tryz.zeroValue9
  t20 := Tryz.underlying20
  a20 := Tryz.isAgg20
  z20 := Tryz.sizeOf20
  v20 := Tryz.zeroValue20
  t31 := Tryz.underlying162
  a31 := Tryz.isAgg162
  z31 := Tryz.sizeOf162
  v31 := Tryz.zeroValue162
  t37 := Tryz.underlying122
  a37 := Tryz.isAgg122
  z37 := Tryz.sizeOf122
  v37 := Tryz.zeroValue122
  t70 := Tryz.underlying273
  a70 := Tryz.isAgg273
  z70 := Tryz.sizeOf273
  v70 := Tryz.zeroValue273
  t72 := Tryz.underlying275
  a72 := Tryz.isAgg275
  z72 := Tryz.sizeOf275
  v72 := Tryz.zeroValue275
  t75 := Tryz.underlying268
  a75 := Tryz.isAgg268
  z75 := Tryz.sizeOf268
  v75 := Tryz.zeroValue268
  t76 := Tryz.underlying269
  a76 := Tryz.isAgg269
  z76 := Tryz.sizeOf269
  v76 := Tryz.zeroValue269
  t127 := Tryz.underlying366
  a127 := Tryz.isAgg366
  z127 := Tryz.sizeOf366
  v127 := Tryz.zeroValue366
  t164 := Tryz.underlying425
  a164 := Tryz.isAgg425
  z164 := Tryz.sizeOf425
  v164 := Tryz.zeroValue425 }
def Tryz.lays172_ren : Go.Shelf.Ren := ⟨fun | 172 => 186 | 244 => 296 | 245 => 297 | 247 => 375 | 279 => 376 | 280 => 377 | 281 => 378 | 282 => 379 | 287 => 423 | 316 => 424 | 171 => 91 | 205 => 425 | 321 => 433 | 322 => 434 | 243 => 181 | 246 => 289 | 283 => 364 | 284 => 365 | 285 => 366 | 286 => 367 | 129 => 214 | 317 => 417 | 318 => 418 | 319 => 419 | 320 => 420 | 337 => 431 | 338 => 432 | n => n, fun | 9 => 9 | 3 => 3 | 75 => 268 | 76 => 269 | 4 => 4 | 5 => 5 | 167 => 414 | 37 => 122 | 0 => 0 | 85 => 415 | 2 => 2 | 168 => 417 | 53 => 298 | 175 => 445 | 46 => 196 | 210 => 449 | 127 => 366 | 145 => 461 | 143 => 459 | 21 => 21 | 171 => 408 | 173 => 410 | 212 => 442 | 51 => 296 | 20 => 20 | 213 => 443 | 232 => 467 | 233 => 468 | 80 => 200 | n => n, fun | 15 => 3 | 16 => 4 | 17 => 2 | 18 => 7 | 19 => 8 | n => n⟩
theorem Tryz.lays172 : Go.Proofs.Lays.n172 Tryz.prog Tryz.lays172_ren := {
  mixed := by kernel_rfl
  f129 := Tryz.func214.trans (congrArg some (by kernel_rfl))
  f171 := Tryz.func91.trans (congrArg some (by kernel_rfl))
  f172 := Tryz.func186.trans (congrArg some (by kernel_rfl))
  f205 := Tryz.func425.trans (congrArg some (by kernel_rfl))
  f243 := Tryz.func181.trans (congrArg some (by kernel_rfl))
  f244 := Tryz.func296.trans (congrArg some (by kernel_rfl))
  f245 := Tryz.func297.trans (congrArg some (by kernel_rfl))
  f246 := Tryz.func289.trans (congrArg some (by kernel_rfl))
  f247 := Tryz.func375.trans (congrArg some (by kernel_rfl))
  f279 := Tryz.func376.trans (congrArg some (by kernel_rfl))
  f280 := Tryz.func377.trans (congrArg some (by kernel_rfl))
  f281 := Tryz.func378.trans (congrArg some (by kernel_rfl))
  f282 := Tryz.func379.trans (congrArg some (by kernel_rfl))
  f283 := Tryz.func364.trans (congrArg some (by kernel_rfl))
  f284 := Tryz.func365.trans (congrArg some (by kernel_rfl))
  f285 := Tryz.func366.trans (congrArg some (by kernel_rfl))
  f286 := Tryz.func367.trans (congrArg some (by kernel_rfl))
  f287 := Tryz.func423.trans (congrArg some (by kernel_rfl))
  f316 := Tryz.func424.trans (congrArg some (by kernel_rfl))
  f317 := Tryz.func417.trans (congrArg some (by kernel_rfl))
  f318 := Tryz.func418.trans (congrArg some (by kernel_rfl))
  f319 := Tryz.func419.trans (congrArg some (by kernel_rfl))
  f320 := Tryz.func420.trans (congrArg some (by kernel_rfl))
  f321 := Tryz.func433.trans (congrArg some (by kernel_rfl))
  f322 := Tryz.func434.trans (congrArg some (by kernel_rfl))
  f337 := Tryz.func431.trans (congrArg some (by kernel_rfl))
  f338 := Tryz.func432.trans (congrArg some (by kernel_rfl))
  t0 := Tryz.underlying0
  a0 := Tryz.isAgg0
  z0 := Tryz.sizeOf0
  v0 := Tryz.zeroValue0
  t2 := Tryz.underlying2
  a2 := Tryz.isAgg2
  z2 := Tryz.sizeOf2
  v2 := Tryz.zeroValue2
  t3 := Tryz.underlying3
  a3 := Tryz.isAgg3
  z3 := Tryz.sizeOf3
  v3 := Tryz.zeroValue3
  t4 := Tryz.underlying4
  a4 := Tryz.isAgg4
  z4 := Tryz.sizeOf4
  v4 := Tryz.zeroValue4
  t5 := Tryz.underlying5
  a5 := Tryz.isAgg5
  z5 := Tryz.sizeOf5
  v5 := Tryz.zeroValue5
  t9 := Tryz.underlying9
  a9 := Tryz.isAgg9
  z9 := Tryz.sizeOf9
  v9 := Tryz.zeroValue9
  t20 := Tryz.underlying20
  a20 := Tryz.isAgg20
  z20 := Tryz.sizeOf20
  v20 := Tryz.zeroValue20
  t21 := Tryz.underlying21
  a21 := Tryz.isAgg21
  z21 := Tryz.sizeOf21
  v21 := Tryz.zeroValue21
  t37 := Tryz.underlying122
  a37 := Tryz.isAgg122
  z37 := Tryz.sizeOf122
  v37 := Tryz.zeroValue122
  t46 := Tryz.underlying196
  a46 := Tryz.isAgg196
  z46 := Tryz.sizeOf196
  v46 := Tryz.zeroValue196
  t51 := Tryz.underlying296
  a51 := Tryz.isAgg296
  z51 := Tryz.sizeOf296
  v51 := Tryz.zeroValue296
  t53 := Tryz.underlying298
  a53 := Tryz.isAgg298
  z53 := Tryz.sizeOf298
  v53 := Tryz.zeroValue298
  t75 := Tryz.underlying268
  a75 := Tryz.isAgg268
  z75 := Tryz.sizeOf268
  v75 := Tryz.zeroValue268
  t76 := Tryz.underlying269
  a76 := Tryz.isAgg269
  z76 := Tryz.sizeOf269
  v76 := Tryz.zeroValue269
  t85 := Tryz.underlying415
  a85 := Tryz.isAgg415
  z85 := Tryz.sizeOf415
  v85 := Tryz.zeroValue415
  t127 := Tryz.underlying366
  a127 := Tryz.isAgg366
  z127 := Tryz.sizeOf366
  v127 := Tryz.zeroValue366
  t143 := Tryz.underlying459
  a143 := Tryz.isAgg459
  z143 := Tryz.sizeOf459
  v143 := Tryz.zeroValue459
  t145 := Tryz.underlying461
  a145 := Tryz.isAgg461
  z145 := Tryz.sizeOf461
  v145 := Tryz.zeroValue461
  t167 := Tryz.underlying414
  a167 := Tryz.isAgg414
  z167 := Tryz.sizeOf414
  v167 := Tryz.zeroValue414
  t168 := Tryz.underlying417
  a168 := Tryz.isAgg417
  z168 := Tryz.sizeOf417
  v168 := Tryz.zeroValue417
  t171 := Tryz.underlying408
  a171 := Tryz.isAgg408
  z171 := Tryz.sizeOf408
  v171 := Tryz.zeroValue408
  t173 := Tryz.underlying410
  a173 := Tryz.isAgg410
  z173 := Tryz.sizeOf410
  v173 := Tryz.zeroValue410
  t175 := Tryz.underlying445
  a175 := Tryz.isAgg445
  z175 := Tryz.sizeOf445
  v175 := Tryz.zeroValue445
  t210 := Tryz.underlying449
  a210 := Tryz.isAgg449
  z210 := Tryz.sizeOf449
  v210 := Tryz.zeroValue449
  t212 := Tryz.underlying442
  a212 := Tryz.isAgg442
  z212 := Tryz.sizeOf442
  v212 := Tryz.zeroValue442
  t213 := Tryz.underlying443
  a213 := Tryz.isAgg443
  z213 := Tryz.sizeOf443
  t232 := Tryz.underlying467
  a232 := Tryz.isAgg467
  z232 := Tryz.sizeOf467
  v232 := Tryz.zeroValue467
  t233 := Tryz.underlying468
  a233 := Tryz.isAgg468
  z233 := Tryz.sizeOf468
  v233 := Tryz.zeroValue468
  g15 := by kernel_rfl
  g16 := by kernel_rfl
  g17 := by kernel_rfl
  g18 := by kernel_rfl
  g19 := by kernel_rfl }
def Tryz.laysM171_ren : Go.Shelf.Ren := ⟨fun | 171 => 91 | 243 => 181 | 246 => 289 | 283 => 364 | 284 => 365 | 285 => 366 | 286 => 367 | 129 => 214 | 317 => 417 | 318 => 418 | 319 => 419 | 320 => 420 | 337 => 431 | 338 => 432 | n => n, fun | 3 => 3 | 9 => 9 | 2 => 2 | 4 => 4 | 171 => 408 | 0 => 0 | 53 => 298 | 37 => 122 | 5 => 5 | 173 => 410 | 212 => 442 | 51 => 296 | 20 => 20 | 213 => 443 | 46 => 196 | 232 => 467 | 233 => 468 | n => n, fun | 17 => 2 | 18 => 7 | 19 => 8 | n => n⟩
theorem Tryz.laysM171 : Go.Proofs.LaysM.n171 Tryz.prog Tryz.laysM171_ren := {
  mixed := by kernel_rfl
  f129 := Tryz.func214.trans (congrArg some (by kernel_rfl))
  f171 := Tryz.func91.trans (congrArg some (by kernel_rfl))
  f243 := Tryz.func181.trans (congrArg some (by kernel_rfl))
  f246 := Tryz.func289.trans (congrArg some (by kernel_rfl))
  f283 := Tryz.func364.trans (congrArg some (by kernel_rfl))
  f284 := Tryz.func365.trans (congrArg some (by kernel_rfl))
  f285 := Tryz.func366.trans (congrArg some (by kernel_rfl))
  f286 := Tryz.func367.trans (congrArg some (by kernel_rfl))
  f317 := Tryz.func417.trans (congrArg some (by kernel_rfl))
  f318 := Tryz.func418.trans (congrArg some (by kernel_rfl))
  f319 := Tryz.func419.trans (congrArg some (by kernel_rfl))
  f320 := Tryz.func420.trans (congrArg some (by kernel_rfl))
  f337 := Tryz.func431.trans (congrArg some (by kernel_rfl))
  f338 := Tryz.func432.trans (congrArg some (by kernel_rfl))
  t0 := Tryz.underlying0
  a0 := Tryz.isAgg0
  z0 := Tryz.sizeOf0
  v0 := Tryz.zeroValue0
  t2 := Tryz.underlying2
  a2 := Tryz.isAgg2
  z2 := Tryz.sizeOf2
  v2 := Tryz.zeroValue2
  t3 := Tryz.underlying3
  a3 := Tryz.isAgg3
  z3 := Tryz.sizeOf3
  v3 := Tryz.zeroValue3
  t4 := Tryz.underlying4
  a4 := Tryz.isAgg4
  z4 := Tryz.sizeOf4
  v4 := Tryz.zeroValue4
  t5 := Tryz.underlying5
  a5 := Tryz.isAgg5
  z5 := Tryz.sizeOf5
  v5 := Tryz.zeroValue5
  t9 := Tryz.underlying9
  a9 := Tryz.isAgg9
  z9 := Tryz.sizeOf9
  v9 := Tryz.zeroValue9
  t20 := Tryz.underlying20
  a20 := Tryz.isAgg20
  z20 := Tryz.sizeOf20
  v20 := Tryz.zeroValue20
  t37 := Tryz.underlying122
  a37 := Tryz.isAgg122
  z37 := Tryz.sizeOf122
  v37 := Tryz.zeroValue122
  t46 := Tryz.underlying196
  a46 := Tryz.isAgg196
  z46 := Tryz.sizeOf196
  v46 := Tryz.zeroValue196
  t51 := Tryz.underlying296
  a51 := Tryz.isAgg296
  z51 := Tryz.sizeOf296
  v51 := Tryz.zeroValue296
  t53 := Tryz.underlying298
  a53 := Tryz.isAgg298
  z53 := Tryz.sizeOf298
  v53 := Tryz.zeroValue298
  t171 := Tryz.underlying408
  a171 := Tryz.isAgg408
  z171 := Tryz.sizeOf408
  v171 := Tryz.zeroValue408
  t173 := Tryz.underlying410
  a173 := Tryz.isAgg410
  z173 := Tryz.sizeOf410
  v173 := Tryz.zeroValue410
  t212 := Tryz.underlying442
  a212 := Tryz.isAgg442
  z212 := Tryz.sizeOf442
  v212 := Tryz.zeroValue442
  t213 := Tryz.underlying443
  a213 := Tryz.isAgg443
  z213 := Tryz.sizeOf443
  t232 := Tryz.underlying467
  a232 := Tryz.isAgg467
  z232 := Tryz.sizeOf467
  v232 := Tryz.zeroValue467
  t233 := Tryz.underlying468
  a233 := Tryz.isAgg468
  z233 := Tryz.sizeOf468
  v233 := Tryz.zeroValue468
  g17 := by kernel_rfl
  g18 := by kernel_rfl
  g19 := by kernel_rfl
  i0 := by kernel_rfl
  i2 := by kernel_rfl
  i3 := by kernel_rfl
  i4 := by kernel_rfl
  i5 := by kernel_rfl
  i9 := by kernel_rfl
  i20 := by kernel_rfl
  i37 := by kernel_rfl
  i46 := by kernel_rfl
  i51 := by kernel_rfl
  i53 := by kernel_rfl
  i171 := by kernel_rfl
  i173 := by kernel_rfl
  i212 := by kernel_rfl
  i232 := by kernel_rfl
  i233 := by kernel_rfl
  m17 := by kernel_rfl
  m18 := by kernel_rfl
  m19 := by kernel_rfl }
def Tryz.lays171_ren : Go.Shelf.Ren := ⟨fun | 171 => 91 | 243 => 181 | 246 => 289 | 283 => 364 | 284 => 365 | 285 => 366 | 286 => 367 | 129 => 214 | 317 => 417 | 318 => 418 | 319 => 419 | 320 => 420 | 337 => 431 | 338 => 432 | n => n, fun | 3 => 3 | 9 => 9 | 2 => 2 | 4 => 4 | 171 => 408 | 0 => 0 | 53 => 298 | 37 => 122 | 5 => 5 | 173 => 410 | 212 => 442 | 51 => 296 | 20 => 20 | 213 => 443 | 46 => 196 | 232 => 467 | 233 => 468 | n => n, fun | 17 => 2 | 18 => 7 | 19 => 8 | n => n⟩
theorem Tryz.lays171 : Go.Proofs.Lays.n171 Tryz.prog Tryz.lays171_ren := {
  mixed := by kernel_rfl
  f129 := Tryz.func214.trans (congrArg some (by kernel_rfl))
  f171 := Tryz.func91.trans (congrArg some (by kernel_rfl))
  f243 := Tryz.func181.trans (congrArg some (by kernel_rfl))
  f246 := Tryz.func289.trans (congrArg some (by kernel_rfl))
  f283 := Tryz.func364.trans (congrArg some (by kernel_rfl))
  f284 := Tryz.func365.trans (congrArg some (by kernel_rfl))
  f285 := Tryz.func366.trans (congrArg some (by kernel_rfl))
  f286 := Tryz.func367.trans (congrArg some (by kernel_rfl))
  f317 := Tryz.func417.trans (congrArg some (by kernel_rfl))
  f318 := Tryz.func418.trans (congrArg some (by kernel_rfl))
  f319 := Tryz.func419.trans (congrArg some (by kernel_rfl))
  f320 := Tryz.func420.trans (congrArg some (by kernel_rfl))
  f337 := Tryz.func431.trans (congrArg some (by kernel_rfl))
  f338 := Tryz.func432.trans (congrArg some (by kernel_rfl))
  t0 := Tryz.underlying0
  a0 := Tryz.isAgg0
  z0 := Tryz.sizeOf0
  v0 := Tryz.zeroValue0
  t2 := Tryz.underlying2
  a2 := Tryz.isAgg2
  z2 := Tryz.sizeOf2
  v2 := Tryz.zeroValue2
  t3 := Tryz.underlying3
  a3 := Tryz.isAgg3
  z3 := Tryz.sizeOf3
  v3 := Tryz.zeroValue3
  t4 := Tryz.underlying4
  a4 := Tryz.isAgg4
  z4 := Tryz.sizeOf4
  v4 := Tryz.zeroValue4
  t5 := Tryz.underlying5
  a5 := Tryz.isAgg5
  z5 := Tryz.sizeOf5
  v5 := Tryz.zeroValue5
  t9 := Tryz.underlying9
  a9 := Tryz.isAgg9
  z9 := Tryz.sizeOf9
  v9 := Tryz.zeroValue9
  t20 := Tryz.underlying20
  a20 := Tryz.isAgg20
  z20 := Tryz.sizeOf20
  v20 := Tryz.zeroValue20
  t37 := Tryz.underlying122
  a37 := Tryz.isAgg122
  z37 := Tryz.sizeOf122
  v37 := Tryz.zeroValue122
  t46 := Tryz.underlying196
  a46 := Tryz.isAgg196
  z46 := Tryz.sizeOf196
  v46 := Tryz.zeroValue196
  t51 := Tryz.underlying296
  a51 := Tryz.isAgg296
  z51 := Tryz.sizeOf296
  v51 := Tryz.zeroValue296
  t53 := Tryz.underlying298
  a53 := Tryz.isAgg298
  z53 := Tryz.sizeOf298
  v53 := Tryz.zeroValue298
  t171 := Tryz.underlying408
  a171 := Tryz.isAgg408
  z171 := Tryz.sizeOf408
  v171 := Tryz.zeroValue408
  t173 := Tryz.underlying410
  a173 := Tryz.isAgg410
  z173 := Tryz.sizeOf410
  v173 := Tryz.zeroValue410
  t212 := Tryz.underlying442
  a212 := Tryz.isAgg442
  z212 := Tryz.sizeOf442
  v212 := Tryz.zeroValue442
  t213 := Tryz.underlying443
  a213 := Tryz.isAgg443
  z213 := Tryz.sizeOf443
  t232 := Tryz.underlying467
  a232 := Tryz.isAgg467
  z232 := Tryz.sizeOf467
  v232 := Tryz.zeroValue467
  t233 := Tryz.underlying468
  a233 := Tryz.isAgg468
  z233 := Tryz.sizeOf468
  v233 := Tryz.zeroValue468
  g17 := by kernel_rfl
  g18 := by kernel_rfl
  g19 := by kernel_rfl }
def Tryz.laysM179_ren : Go.Shelf.Ren := ⟨fun | 179 => 218 | 251 => 315 | 252 => 316 | 181 => 392 | 184 => 393 | 290 => 394 | 324 => 428 | n => n, fun | 130 => 311 | 5 => 5 | 75 => 268 | 0 => 0 | 93 => 211 | 91 => 209 | 3 => 3 | 131 => 293 | 4 => 4 | 37 => 122 | 20 => 20 | 80 => 200 | 9 => 9 | n => n, fun | 14 => 1 | n => n⟩
theorem Tryz.laysM179 : Go.Proofs.LaysM.n179 Tryz.prog Tryz.laysM179_ren := {
  mixed := by kernel_rfl
  f179 := Tryz.func218.trans (congrArg some (by kernel_rfl))
  f181 := Tryz.func392.trans (congrArg some (by kernel_rfl))
  f184 := Tryz.func393.trans (congrArg some (by kernel_rfl))
  f251 := Tryz.func315.trans (congrArg some (by kernel_rfl))
  f252 := Tryz.func316.trans (congrArg some (by kernel_rfl))
  f290 := Tryz.func394.trans (congrArg some (by kernel_rfl))
  f324 := Tryz.func428.trans (congrArg some (by kernel_rfl))
  t0 := Tryz.underlying0
  a0 := Tryz.isAgg0
  z0 := Tryz.sizeOf0
  v0 := Tryz.zeroValue0
  t3 := Tryz.underlying3
  a3 := Tryz.isAgg3
  z3 := Tryz.sizeOf3
  v3 := Tryz.zeroValue3
  t4 := Tryz.underlying4
  a4 := Tryz.isAgg4
  z4 := Tryz.sizeOf4
  v4 := Tryz.zeroValue4
  t5 := Tryz.underlying5
  a5 := Tryz.isAgg5
  z5 := Tryz.sizeOf5
  v5 := Tryz.zeroValue5
  t20 := Tryz.underlying20
  a20 := Tryz.isAgg20
  z20 := Tryz.sizeOf20
  v20 := Tryz.zeroValue20
  t37 := Tryz.underlying122
  a37 := Tryz.isAgg122
  z37 := Tryz.sizeOf122
  v37 := Tryz.zeroValue122
  t75 := Tryz.underlying268
  a75 := Tryz.isAgg268
  z75 := Tryz.sizeOf268
  v75 := Tryz.zeroValue268
  t91 := Tryz.underlying209
  a91 := Tryz.isAgg209
  z91 := Tryz.sizeOf209
  v91 := Tryz.zeroValue209
  t93 := Tryz.underlying211
  a93 := Tryz.isAgg211
  z93 := Tryz.sizeOf211
  v93 := Tryz.zeroValue211
  t130 := Tryz.underlying311
  a130 := Tryz.isAgg311
  z130 := Tryz.sizeOf311
  v130 := Tryz.zeroValue311
  t131 := Tryz.underlying293
  a131 := Tryz.isAgg293
  z131 := Tryz.sizeOf293
  v131 := Tryz.zeroValue293
  g14 := by kernel_rfl
  t9 := Tryz.underlying9
  a9 := Tryz.isAgg9
  z9 := Tryz.sizeOf9
  v9 := Tryz.zeroValue9
  t80 := Tryz.underlying200
  a80 := Tryz.isAgg200
  z80 := Tryz.sizeOf200
  v80 := Tryz.zeroValue200
  i0 := by kernel_rfl
  i3 := by kernel_rfl
  i4 := by kernel_rfl
  i5 := by kernel_rfl
  i9 := by kernel_rfl
  i20 := by kernel_rfl
  i37 := by kernel_rfl
  i75 := by kernel_rfl
  i80 := by kernel_rfl
  i91 := by kernel_rfl
  i93 := by kernel_rfl
  i130 := by kernel_rfl
  i131 := by kernel_rfl
  m14 := by kernel_rfl }
def Tryz.laysM178_ren : Go.Shelf.Ren := ⟨fun | 178 => 317 | 251 => 315 | 252 => 316 | 181 => 392 | 184 => 393 | 290 => 394 | 324 => 428 | n => n, fun | 130 => 311 | 9 => 9 | 3 => 3 | 75 => 268 | 0 => 0 | 93 => 211 | 91 => 209 | 131 => 293 | 4 => 4 | 37 => 122 | 20 => 20 | 80 => 200 | 5 => 5 | n => n, fun | 14 => 1 | n => n⟩
theorem Tryz.laysM178 : Go.Proofs.LaysM.n178 Tryz.prog Tryz.laysM178_ren := {
  mixed := by kernel_rfl
  f178 := Tryz.func317.trans (congrArg some (by kernel_rfl))
  f181 := Tryz.func392.trans (congrArg some (by kernel_rfl))
  f184 := Tryz.func393.trans (congrArg some (by kernel_rfl))
  f251 := Tryz.func315.trans (congrArg some (by kernel_rfl))
  f252 := Tryz.func316.trans (congrArg some (by kernel_rfl))
  f290 := Tryz.func394.trans (congrArg some (by kernel_rfl))
  f324 := Tryz.func428.trans (congrArg some (by kernel_rfl))
  t0 := Tryz.underlying0
  a0 := Tryz.isAgg0
  z0 := Tryz.sizeOf0
  v0 := Tryz.zeroValue0
  t3 := Tryz.underlying3
  a3 := Tryz.isAgg3
  z3 := Tryz.sizeOf3
  v3 := Tryz.zeroValue3
  t4 := Tryz.underlying4
  a4 := Tryz.isAgg4
  z4 := Tryz.sizeOf4
  v4 := Tryz.zeroValue4
  t9 := Tryz.underlying9
  a9 := Tryz.isAgg9
  z9 := Tryz.sizeOf9
  v9 := Tryz.zeroValue9
  t20 := Tryz.underlying20
  a20 := Tryz.isAgg20
  z20 := Tryz.sizeOf20
  v20 := Tryz.zeroValue20
  t37 := Tryz.underlying122
  a37 := Tryz.isAgg122
  z37 := Tryz.sizeOf122
  v37 := Tryz.zeroValue122
  t75 := Tryz.underlying268
  a75 := Tryz.isAgg268
  z75 := Tryz.sizeOf268
  v75 := Tryz.zeroValue268
  t91 := Tryz.underlying209
  a91 := Tryz.isAgg209
  z91 := Tryz.sizeOf209
  v91 := Tryz.zeroValue209
  t93 := Tryz.underlying211
  a93 := Tryz.isAgg211
  z93 := Tryz.sizeOf211
  v93 := Tryz.zeroValue211
  t130 := Tryz.underlying311
  a130 := Tryz.isAgg311
  z130 := Tryz.sizeOf311
  v130 := Tryz.zeroValue311
  t131 := Tryz.underlying293
  a131 := Tryz.isAgg293
  z131 := Tryz.sizeOf293
  v131 := Tryz.zeroValue293
  g14 := by kernel_rfl
  t5 := Tryz.underlying5
  a5 := Tryz.isAgg5
  z5 := Tryz.sizeOf5
  v5 := Tryz.zeroValue5
  t80 := Tryz.underlying200
  a80 := Tryz.isAgg200
  z80 := Tryz.sizeOf200
  v80 := Tryz.zeroValue200
  i0 := by kernel_rfl
  i3 := by kernel_rfl
  i4 := by kernel_rfl
  i5 := by kernel_rfl
  i9 := by kernel_rfl
  i20 := by kernel_rfl
  i37 := by kernel_rfl
  i75 := by kernel_rfl
  i80 := by kernel_rfl
  i91 := by kernel_rfl
  i93 := by kernel_rfl
  i130 := by kernel_rfl
  i131 := by kernel_rfl
  m14 := by kernel_rfl }
def Tryz.lays146_ren : Go.Shelf.Ren := ⟨fun | 146 => 96 | 221 => 185 | 268 => 294 | 138 => 295 | 143 => 283 | 195 => 372 | 197 => 373 | 218 => 374 | 219 => 361 | 260 => 422 | 217 => 184 | 225 => 413 | 224 => 414 | 267 => 415 | 266 => 293 | 314 => 430 | n => n, fun | 9 => 9 | 31 => 162 | 3 => 3 | 4 => 4 | 0 => 0 | 105 => 412 | 21 => 21 | 5 => 5 | 46 => 196 | 119 => 454 | 139 => 457 | 138 => 456 | 146 => 452 | 51 => 296 | n => n, fun | 1 => 0 | 3 => 5 | 4 => 6 | n => n⟩
theorem Tryz.lays146 : Go.Proofs.Lays.n146 Tryz.prog Tryz.lays146_ren := {
  mixed := by kernel_rfl
  f138 := Tryz.func295.trans (congrArg some (by kernel_rfl))
  f143 := Tryz.func283.trans (congrArg some (by kernel_rfl))
  f146 := Tryz.func96.trans (congrArg some (by kernel_rfl))
  f195 := Tryz.func372.trans (congrArg some (by kernel_rfl))
  f197 := Tryz.func373.trans (congrArg some (by kernel_rfl))
  f217 := Tryz.func184.trans (congrArg some (by kernel_rfl))
  f218 := Tryz.func374.trans (congrArg some (by kernel_rfl))
  f219 := Tryz.func361.trans (congrArg some (by kernel_rfl))
  f221 := Tryz.func185.trans (congrArg some (by kernel_rfl))
  f224 := Tryz.func414.trans (congrArg some (by kernel_rfl))
  f225 := Tryz.func413.trans (congrArg some (by kernel_rfl))
  f260 := Tryz.func422.trans (congrArg some (by kernel_rfl))
  f266 := Tryz.func293.trans (congrArg some (by kernel_rfl))
  f267 := Tryz.func415.trans (congrArg some (by kernel_rfl))
  f268 := Tryz.func294.trans (congrArg some (by kernel_rfl))
  f314 := Tryz.func430.trans (congrArg some (by kernel_rfl))
  t0 := Tryz.underlying0
  a0 := Tryz.isAgg0
  z0 := Tryz.sizeOf0
  v0 := Tryz.zeroValue0
  t3 := Tryz.underlying3
  a3 := Tryz.isAgg3
  z3 := Tryz.sizeOf3
  v3 := Tryz.zeroValue3
  t4 := Tryz.underlying4
  a4 := Tryz.isAgg4
  z4 := Tryz.sizeOf4
  v4 := Tryz.zeroValue4
  t5 := Tryz.underlying5
  a5 := Tryz.isAgg5
  z5 := Tryz.sizeOf5
  v5 := Tryz.zeroValue5
  t9 := Tryz.underlying9
  a9 := Tryz.isAgg9
  z9 := Tryz.sizeOf9
  v9 := Tryz.zeroValue9
  t21 := Tryz.underlying21
  a21 := Tryz.isAgg21
  z21 := Tryz.sizeOf21
  v21 := Tryz.zeroValue21
  t31 := Tryz.underlying162
  a31 := Tryz.isAgg162
  z31 := Tryz.sizeOf162
  v31 := Tryz.zeroValue162
  t46 := Tryz.underlying196
  a46 := Tryz.isAgg196
  z46 := Tryz.sizeOf196
  v46 := Tryz.zeroValue196
  t51 := Tryz.underlying296
  a51 := Tryz.isAgg296
  z51 := Tryz.sizeOf296
  v51 := Tryz.zeroValue296
  t105 := Tryz.underlying412
  a105 := Tryz.isAgg412
  z105 := Tryz.sizeOf412
  v105 := Tryz.zeroValue412
  t119 := Tryz.underlying454
  a119 := Tryz.isAgg454
  z119 := Tryz.sizeOf454
  t138 := Tryz.underlying456
  a138 := Tryz.isAgg456
  z138 := Tryz.sizeOf456
  v138 := Tryz.zeroValue456
  t139 := Tryz.underlying457
  a139 := Tryz.isAgg457
  z139 := Tryz.sizeOf457
  v139 := Tryz.zeroValue457
  t146 := Tryz.underlying452
  a146 := Tryz.isAgg452
  z146 := Tryz.sizeOf452
  v146 := Tryz.zeroValue452
  g1 := by kernel_rfl
  g3 := by kernel_rfl
  g4 := by kernel_rfl }
theorem Tryz.Builder_Extra_156 : Builder.Extra Tryz.prog Tryz.lays156_ren := {
  sizeBuilder := by kernel_rfl
  liesBuilder := by kernel_rfl
  t5 := Tryz.underlying5
  a5 := Tryz.isAgg5
  z5 := Tryz.sizeOf5
  v5 := Tryz.zeroValue5
  infoByte := by kernel_rfl
  cellsByte := by kernel_rfl
  sizeByte := by kernel_rfl
  neB5 := by decide }
theorem Tryz.renf156 : Tryz.lays156_ren.f 156 = 100 := by kernel_rfl
theorem Tryz.renf172 : Tryz.lays172_ren.f 172 = 186 := by kernel_rfl
theorem Tryz.renf171M : Tryz.laysM171_ren.f 171 = 91 := by kernel_rfl
theorem Tryz.renf171 : Tryz.lays171_ren.f 171 = 91 := by kernel_rfl
theorem Tryz.renf179 : Tryz.laysM179_ren.f 179 = 218 := by kernel_rfl
theorem Tryz.renf178 : Tryz.laysM178_ren.f 178 = 317 := by kernel_rfl
theorem Tryz.renf146 : Tryz.lays146_ren.f 146 = 96 := by kernel_rfl
theorem Tryz.reng146 : Tryz.lays146_ren.g 1 = 0 := by kernel_rfl
end Go.Proofs

set_option maxRecDepth 1000000
namespace Go.LN
open Go.CE Go.Proofs
theorem bsel_cases {α : Type} {b : Bool} {x y z : α} (h : bsel b x y = z) : (b = true ∧ x = z) ∨ (b = false ∧ y = z) := by
  cases b
  · exact .inr ⟨rfl, h⟩
  · exact .inl ⟨rfl, h⟩
theorem free_next : Tryz.prog.follows .mixedOrders = true := by kernel_rfl
theorem noGo (f : Nat) (fn : Func) (h : Tryz.prog.funcs[f]? = some fn) : (fn.name == "runtime.NumGoroutine") = false := by
  have hall : (Tryz.prog.funcs.toList.all fun fn => !(fn.name == "runtime.NumGoroutine")) = true := by kernel_rfl
  have hm : fn ∈ Tryz.prog.funcs.toList := by
    rw [← Array.getElem?_toList] at h
    exact List.mem_of_getElem? h
  have := List.all_eq_true.1 hall fn hm
  simpa using this
theorem envTypes (nof : List Nat) (memo : FuncId → List AV → Nat → Option AV) : EnvTypes Tryz.prog (env nof memo) := by
  intro t ti h
  have h1 := Q.get_ofList (d := 5) (l := (List.range 484).map fun t => mkTI Tryz.prog t) h
  rw [List.getElem?_map] at h1
  by_cases ht : t < 484
  · rw [List.getElem?_range ht] at h1
    exact (Option.some.inj h1).symm
  · rw [List.getElem?_eq_none (by simp; omega)] at h1
    cases h1
theorem envFuncs (nof : List Nat) (memo : FuncId → List AV → Nat → Option AV) : EnvFuncs Tryz.prog (env nof memo) := by
  intro f fn h
  have h1 := Q.get_ofList (d := 5) (l := Tryz.prog.funcs.toList) h
  rw [Array.getElem?_toList] at h1
  exact ⟨h1, noGo f fn h1⟩
variable {GI : GInv}
theorem hook_of {nof : List Nat} {memo : FuncId → List AV → Nat → Option AV} {f : Nat} {g : Hook} (h : (env nof memo).hook f = some g) :
    (f = 218 ∧ g = hkWB) ∨ (f = 317 ∧ g = hkWS) ∨ (f = 293 ∧ g = hkIx) ∨ (f = 100 ∧ g = hkJoin) := by
  have h' : hk f = some g := h
  unfold hk at h'
  rcases bsel_cases h' with ⟨h1, h2⟩ | ⟨_, h2⟩
  · exact .inl ⟨beq_eq h1, by cases h2; rfl⟩
  · rcases bsel_cases h2 with ⟨h1, h2⟩ | ⟨_, h2⟩
    · exact .inr (.inl ⟨beq_eq h1, by cases h2; rfl⟩)
    · rcases bsel_cases h2 with ⟨h1, h2⟩ | ⟨_, h2⟩
      · exact .inr (.inr (.inl ⟨beq_eq h1, by cases h2; rfl⟩))
      · rcases bsel_cases h2 with ⟨h1, h2⟩ | ⟨_, h2⟩
        · exact .inr (.inr (.inr ⟨beq_eq h1, by cases h2; rfl⟩))
        · cases h2
theorem hooksGood (nof : List Nat) (memo : FuncId → List AV → Nat → Option AV) : HooksGood (env nof memo) := by
  intro f g h args b hp hb
  rcases hook_of h with ⟨_, rfl⟩ | ⟨_, rfl⟩ | ⟨_, rfl⟩ | ⟨_, rfl⟩
  · exact hkWB_good args b hp hb
  · exact hkWS_good args b hp hb
  · exact hkIx_good args b hp
  · exact hkJoin_good args b hp
theorem body_some {f : Nat} (h : (Tryz.prog.funcs[f]?).any (fun fn => fn.body.isSome) = true) : ∃ fn c, Tryz.prog.funcs[f]? = some fn ∧ (fn.name == "runtime.NumGoroutine") = false ∧ fn.body = some c := by
  cases hf : Tryz.prog.funcs[f]? with
  | none => rw [hf] at h; cases h
  | some fn =>
    rw [hf] at h
    cases hb : fn.body with
    | none => simp [hb] at h
    | some c => exact ⟨fn, c, rfl, noGo f fn hf, hb⟩
theorem hooksOK (nof : List Nat) (memo : FuncId → List AV → Nat → Option AV) : HooksOK GI Tryz.prog (env nof memo) := by
  intro f g h args hp v h' he F hF S w vs hAt hv
  rcases hook_of h with ⟨rfl, rfl⟩ | ⟨rfl, rfl⟩ | ⟨rfl, rfl⟩ | ⟨rfl, rfl⟩
  · obtain ⟨fn, c, h1, h2, h3⟩ := body_some (f := 218) (by kernel_rfl)
    exact hkWB_ok (c := c) Tryz.laysM179 h1 h2 h3 he hF hAt hv
  · obtain ⟨fn, c, h1, h2, h3⟩ := body_some (f := 317) (by kernel_rfl)
    exact hkWS_ok (c := c) Tryz.laysM178 h1 h2 h3 he hF hAt hv
  · exact hkIx_ok Tryz.func293 (by kernel_rfl) (by kernel_rfl) (by kernel_rfl) (by kernel_rfl) he hAt hv
  · obtain ⟨fn, c, h1, h2, h3⟩ := body_some (f := 100) (by kernel_rfl)
    exact hkJoin_ok (c := c) Tryz.lays156 Tryz.Builder_Extra_156 h1 h2 h3 he hF hAt hv
end Go.LN

namespace Go.LN
open Go.CE Go.Proofs
set_option maxRecDepth 1000000
def pow10Name : String := "internal/strconv.uint64pow10"
/-- What the contracts ask of the package-level variables. -/
def globOK (w : World) : Prop := (∃ m, w.cell? ⟨0, 0, none⟩ = some (.int .i64 m)) ∧ Lib.TabIs Tryz.prog w pow10Name .u64 Lib.pow10Tab
theorem pow10_at : Tryz.prog.globalNamed pow10Name = some 2 := by kernel_rfl
theorem globOK.same {w w' : World} (h : globOK w) (e : ∀ B, B < 9 → w'.heap[B]? = w.heap[B]?) : globOK w' := by
  obtain ⟨⟨m, h1⟩, h2⟩ := h
  refine ⟨⟨m, ?_⟩, ?_⟩
  · rw [← h1]
    unfold World.cell?
    rw [e 0 (by omega)]
  · unfold Lib.TabIs at h2 ⊢
    rw [← h2]
    unfold World.var?
    rw [pow10_at]
    simp only [Option.bind_some]
    rw [e 2 (by omega)]
theorem globs_stable {hp hp' : Array Obj} (e : ∀ B, B < 9 → hp'[B]? = hp[B]?) (h : ∀ w : World, w.heap = hp → globOK w) : ∀ w : World, w.heap = hp' → globOK w := by
  intro w hw
  have h1 : globOK { w with heap := hp } := h _ rfl
  refine h1.same fun B hB => ?_
  rw [hw]
  exact e B hB
def GI (W : World) : GInv := ⟨9, W, fun hp => ∀ w : World, w.heap = hp → globOK w, fun _ _ e h => globs_stable e h⟩
theorem glob_of {W w : World} (h : (GI W).ok w.heap) : globOK w := h w rfl
end Go.LN

namespace Go.LN
open Go.CE Go.Proofs
set_option maxRecDepth 1000000
variable {W : World}
theorem itoa_small {B i : Nat} {l : List UInt8} {n b : Nat} (hi : i < 100) (hl : Lib.decDigits i = l) (hn : l.length = n) (hb : sNum l = b) : Known (GI W) Tryz.prog B 91 [.int .i64 (.ofNat i)] (.str n b) := by
  subst hn hb
  obtain ⟨fn, c, h1, h2, h3⟩ := body_some (f := 91) (by kernel_rfl)
  exact known_itoa_small (c := c) Tryz.lays171 h1 h2 h3 i l hi hl
theorem itoa_big {B : Nat} {i : Int} {l : List UInt8} {n b : Nat} (h0 : -9223372036854775808 ≤ i) (h9 : i ≤ 9223372036854775807) (hl : Lib.itoa i = l) (hn : l.length = n) (hb : sNum l = b) : Known (GI W) Tryz.prog B 91 [.int .i64 i] (.str n b) := by
  subst hn hb
  obtain ⟨fn, c, h1, h2, h3⟩ := body_some (f := 91) (by kernel_rfl)
  exact known_itoa (c := c) Tryz.laysM171 h1 h2 h3 (fun w hw => (glob_of hw).2) i l h0 h9 hl
theorem atoi {B : Nat} {i : Int} {l : List UInt8} {n b : Nat} (hl : l.length ≤ 18) (hi : Lib.atoi l = some i) (hn : l.length = n) (hb : sNum l = b) : Known (GI W) Tryz.prog B 186 [.str n b] (.tuple [.int .i64 i, .niliface]) := by
  subst hn hb
  obtain ⟨fn, c, h1, h2, h3⟩ := body_some (f := 186) (by kernel_rfl)
  exact known_atoi (c := c) Tryz.lays172 h1 h2 h3 l i hl hi
theorem split {B : Nat} {l sep : List UInt8} {ps : List (List UInt8)} {n b m s k : Nat} {vs : List AV} (h1 : l.length < 4294967281) (h2 : 1 ≤ sep.length)
    (hps : Lib.splitB ⟨⟨sep⟩⟩ 0 (Lib.countB ⟨⟨l⟩⟩ ⟨⟨sep⟩⟩) ⟨⟨l⟩⟩ = ps.map fun p => ⟨⟨p⟩⟩) (hc : Lib.countB ⟨⟨l⟩⟩ ⟨⟨sep⟩⟩ + 1 = ps.length)
    (hn : l.length = n) (hb : sNum l = b) (hm : sep.length = m) (hs : sNum sep = s) (hk : ps.length = k) (hv : strsAV ps = vs) :
    Known (GI W) Tryz.prog B 96 [.str n b, .str m s] (.pslice vs k 1) := by
  subst hn hb hm hs hk hv
  obtain ⟨fn, c, g1, g2, g3⟩ := body_some (f := 96) (by kernel_rfl)
  exact known_split (c := c) Tryz.lays146 (by kernel_rfl) g1 g2 g3 (fun w hw => (glob_of hw).1) l sep ps h1 h2 hps hc
/-! ### tables of what is known -/
def KL (W : World) (B f : Nat) (l : List (List AV × AV)) : Prop := ∀ e ∈ l, Known (GI W) Tryz.prog B f e.1 e.2
theorem KL.nil {B f : Nat} : KL W B f [] := fun e he => by cases he
theorem KL.cons {B B' f : Nat} {args : List AV} {v : AV} {l : List (List AV × AV)} (h : Known (GI W) Tryz.prog B' f args v) (hb : B ≤ B') (hl : KL W B f l) : KL W B f ((args, v) :: l) := fun e he => by
  rcases List.mem_cons.1 he with rfl | he
  · exact h.mono hb
  · exact hl e he
def MT (W : World) (B : Nat) (M : MTab) : Prop := ∀ p ∈ M, hk p.1 = none ∧ KL W B p.1 p.2
theorem MT.nil {B : Nat} : MT W B [] := fun e he => by cases he
theorem MT.cons {B f : Nat} {l : List (List AV × AV)} {M : MTab} (h : hk f = none) (hl : KL W B f l) (hM : MT W B M) : MT W B ((f, l) :: M) := fun e he => by
  rcases List.mem_cons.1 he with rfl | he
  · exact ⟨h, hl⟩
  · exact hM e he
theorem MT.ok {T : Nat} {nof : List Nat} {M : MTab} (h : MT W T M) : MemoOK (GI W) Tryz.prog (env nof (memoOf T (mQ M))) :=
  memo_ok (B := T) (M := M) rfl fun p hp => ⟨(h p hp).1, (h p hp).2⟩
/-- What is found is known. -/
theorem Finds.known {B T : Nat} {nof : List Nat} {M : MTab} {f : Nat} {args : List AV} {v : AV} (h : Finds B T nof M f args v) (hM : MT W T M) (hf : hk f = none) (hB : B ≤ 100000000) : Known (GI W) Tryz.prog B f args v :=
  known_of_eval free_next (envTypes nof _) (envFuncs nof _) (hooksOK nof _) hM.ok (hooksGood nof _) hB hf h
end Go.LN
