/- A symbolic run of the program that Lean checks, and what the functions of the program come to by it: part 6 of 11. -/
import Derived.Shelf.Lays
import Derived.Shelf.LaysM
import Derived.Shelf.LaysC
import Derived.Ground.Names2Prog
import Derived.Shelf.Slices.SearchI
import Derived.Shelf.Slices.Empties
import Derived.Shelf.Slices.Equal
import Derived.Shelf.Strconv.ErrVarAll
import Derived.Shelf.Strconv.AtoiAll
import Derived.Shelf.Strconv.Itoa3
import Derived.Shelf.Strings.Cut
import Derived.Shelf.Small.Wraps
import Derived.Shelf.Strings.Fields
import Derived.Shelf.Strings.Prefix
import Derived.Shelf.Strings.OnBuilder
import Derived.Shelf.Strings.Split
import Derived.Test.YteinbljapojcgaaGreatDoorProg
import Derived.Lib.Builder
import Derived.Lib.UnsafeStr
import Derived.Lib.Walk
import Derived.Shelf.RegionOpenPlain
import Derived.WalkKit
import Derived.Laws.Externs
import Derived.RegionTactic
import Derived.Test.YteinbljapojcgaaGreatDoorZAE
set_option linter.unusedVariables false
section
namespace Go.Proofs
open Go.Shelf
def Tryz.lays156_ren : Go.Shelf.Ren:=⟨fun | 156=>121 | 165=>237 | 166=>75 | 169=>76 | 240=>146 | 241=>284 | 276=>249 | 277=>301 | n=>n,fun | 31=>118 | 9=>9 | 3=>3 | 4=>4 | 0=>0 | 20=>20 | 72=>137 | 76=>140 | 70=>135 | 37=>97 | 75=>139 | 127=>199 | 164=>239 | 5=>5 | 80=>142 | n=>n,fun | n=>n⟩
theorem Tryz.lays156 : Go.Proofs.Lays.n156 Tryz.prog Tryz.lays156_ren:={
  mixed:=kq
  f156:=Tryz.func121.trans (congrArg some kq)
  f165:=Tryz.func237.trans (congrArg some kq)
  f166:=Tryz.func75.trans (congrArg some kq)
  f169:=Tryz.func76.trans (congrArg some kq)
  f240:=Tryz.func146.trans (congrArg some kq)
  f241:=Tryz.func284.trans (congrArg some kq)
  f276:=Tryz.func249.trans (congrArg some kq)
  f277:=Tryz.func301.trans (congrArg some kq)
  t0:=Tryz.underlying0
  a0:=Tryz.isAgg0
  z0:=Tryz.sizeOf0
  v0:=Tryz.zeroValue0
  t3:=Tryz.underlying3
  a3:=Tryz.isAgg3
  z3:=Tryz.sizeOf3
  v3:=Tryz.zeroValue3
  t4:=Tryz.underlying4
  a4:=Tryz.isAgg4
  z4:=Tryz.sizeOf4
  v4:=Tryz.zeroValue4
  t9:=Tryz.underlying9
  a9:=Tryz.isAgg9
  z9:=Tryz.sizeOf9
  v9:=Tryz.zeroValue9
  t20:=Tryz.underlying20
  a20:=Tryz.isAgg20
  z20:=Tryz.sizeOf20
  v20:=Tryz.zeroValue20
  t31:=Tryz.underlying118
  a31:=Tryz.isAgg118
  z31:=Tryz.sizeOf118
  v31:=Tryz.zeroValue118
  t37:=Tryz.underlying97
  a37:=Tryz.isAgg97
  z37:=Tryz.sizeOf97
  v37:=Tryz.zeroValue97
  t70:=Tryz.underlying135
  a70:=Tryz.isAgg135
  z70:=Tryz.sizeOf135
  v70:=Tryz.zeroValue135
  t72:=Tryz.underlying137
  a72:=Tryz.isAgg137
  z72:=Tryz.sizeOf137
  v72:=Tryz.zeroValue137
  t75:=Tryz.underlying139
  a75:=Tryz.isAgg139
  z75:=Tryz.sizeOf139
  v75:=Tryz.zeroValue139
  t76:=Tryz.underlying140
  a76:=Tryz.isAgg140
  z76:=Tryz.sizeOf140
  v76:=Tryz.zeroValue140
  t127:=Tryz.underlying199
  a127:=Tryz.isAgg199
  z127:=Tryz.sizeOf199
  v127:=Tryz.zeroValue199
  t164:=Tryz.underlying239
  a164:=Tryz.isAgg239
  z164:=Tryz.sizeOf239
  v164:=Tryz.zeroValue239 }
theorem Tryz.Builder_Extra_156 : Builder.Extra Tryz.prog Tryz.lays156_ren:={
  sizeBuilder:=kq
  liesBuilder:=kq
  t5:=Tryz.underlying5
  a5:=Tryz.isAgg5
  z5:=Tryz.sizeOf5
  v5:=Tryz.zeroValue5
  infoByte:=kq
  cellsByte:=kq
  sizeByte:=kq
  neB5:=by decide }
open Go.RowKit in
theorem Tryz.strings_Join_none (a : Option Addr) (c : Nat) (sep : ByteArray) (w : World) :
    Calls Tryz.prog 121 #[.slice a 0 c,.string sep] w fun e w'=>e = .returned (.string ⟨#[]⟩) ∧ w' = w:=Any.strings_Join_none Tryz.lays156 Tryz.Builder_Extra_156 a c sep w
open Go.RowKit in
theorem Tryz.strings_Join (bk o c : Nat) (xs : List ByteArray) (sep : ByteArray) (w : World) (hcells : ∀ (j : Nat) x,xs[j]? = some x → w.cell? ⟨bk,o + j,none⟩ = some (.string x)) (hbk : bk < w.heap.size) (hN : xs.length ≤ 140737488355328) (hcap : xs.length ≤ c) (hlen : (Lib.join (xs.map (·.data.toList)) sep.data.toList).length ≤ 140737488355328) :
    Calls Tryz.prog 121 #[.slice (some ⟨bk,o,none⟩) xs.length c,.string sep] w fun e w'=>e = .returned (.string ⟨(Lib.join (xs.map (·.data.toList)) sep.data.toList).toArray⟩) ∧ Below w.heap.size w w':=Any.strings_Join Tryz.lays156 Tryz.Builder_Extra_156 bk o c xs sep w hcells hbk hN hcap hlen
def Tryz.lays103_ren : Go.Shelf.Ren:=⟨fun | 103=>219 | 210=>280 | 206=>68 | n=>n,fun | 9=>9 | 4=>4 | 24=>208 | 3=>3 | n=>n,fun | n=>n⟩
theorem Tryz.lays103 : Go.Proofs.Lays.n103 Tryz.prog Tryz.lays103_ren:={
  mixed:=kq
  f103:=Tryz.func219.trans (congrArg some kq)
  f206:=Tryz.func68.trans (congrArg some kq)
  f210:=Tryz.func280.trans (congrArg some kq)
  t3:=Tryz.underlying3
  a3:=Tryz.isAgg3
  z3:=Tryz.sizeOf3
  v3:=Tryz.zeroValue3
  t4:=Tryz.underlying4
  a4:=Tryz.isAgg4
  z4:=Tryz.sizeOf4
  v4:=Tryz.zeroValue4
  t9:=Tryz.underlying9
  a9:=Tryz.isAgg9
  z9:=Tryz.sizeOf9
  v9:=Tryz.zeroValue9
  t24:=Tryz.underlying208
  a24:=Tryz.isAgg208
  z24:=Tryz.sizeOf208
  v24:=Tryz.zeroValue208 }
open Go.RowKit in
theorem Tryz.strings_CutPrefix (s p : ByteArray) (w : World) :
    Calls Tryz.prog 219 #[.string s,.string p] w fun e w'=>e = .returned (.tuple #[.string ⟨(Lib.trimPrefix s.data.toList p.data.toList).toArray⟩,.bool (Lib.hasPrefix s.data.toList p.data.toList)]) ∧ w' = w:=Any.strings_CutPrefix Tryz.lays103 s p w
def Tryz.lays104_ren : Go.Shelf.Ren:=⟨fun | 104=>267 | 211=>298 | 207=>320 | n=>n,fun | 9=>9 | 4=>4 | 24=>208 | 3=>3 | n=>n,fun | n=>n⟩
theorem Tryz.lays104 : Go.Proofs.Lays.n104 Tryz.prog Tryz.lays104_ren:={
  mixed:=kq
  f104:=Tryz.func267.trans (congrArg some kq)
  f207:=Tryz.func320.trans (congrArg some kq)
  f211:=Tryz.func298.trans (congrArg some kq)
  t3:=Tryz.underlying3
  a3:=Tryz.isAgg3
  z3:=Tryz.sizeOf3
  v3:=Tryz.zeroValue3
  t4:=Tryz.underlying4
  a4:=Tryz.isAgg4
  z4:=Tryz.sizeOf4
  v4:=Tryz.zeroValue4
  t9:=Tryz.underlying9
  a9:=Tryz.isAgg9
  z9:=Tryz.sizeOf9
  v9:=Tryz.zeroValue9
  t24:=Tryz.underlying208
  a24:=Tryz.isAgg208
  z24:=Tryz.sizeOf208
  v24:=Tryz.zeroValue208 }
open Go.RowKit in
theorem Tryz.strings_CutSuffix (s p : ByteArray) (w : World) (hs : s.size ≤ 9223372036854775807) :
    Calls Tryz.prog 267 #[.string s,.string p] w fun e w'=>e = .returned (.tuple #[.string ⟨(Lib.trimSuffix s.data.toList p.data.toList).toArray⟩,.bool (Lib.hasSuffix s.data.toList p.data.toList)]) ∧ w' = w:=Any.strings_CutSuffix Tryz.lays104 s p w hs
def Tryz.laysM171_ren : Go.Shelf.Ren:=⟨fun | 171=>123 | 243=>238 | 246=>285 | 283=>302 | 284=>303 | 285=>304 | 286=>305 | 129=>322 | 317=>321 | 318=>323 | 319=>324 | 320=>325 | 337=>331 | 338=>332 | n=>n,fun | 3=>3 | 9=>9 | 2=>2 | 4=>4 | 171=>278 | 0=>0 | 53=>106 | 37=>97 | 5=>5 | 173=>280 | 212=>296 | 51=>256 | 20=>20 | 213=>297 | 46=>236 | 232=>316 | 233=>317 | n=>n,fun | 17=>3 | 18=>9 | 19=>10 | n=>n⟩
theorem Tryz.laysM171 : Go.Proofs.LaysM.n171 Tryz.prog Tryz.laysM171_ren:={
  mixed:=kq
  f129:=Tryz.func322.trans (congrArg some kq)
  f171:=Tryz.func123.trans (congrArg some kq)
  f243:=Tryz.func238.trans (congrArg some kq)
  f246:=Tryz.func285.trans (congrArg some kq)
  f283:=Tryz.func302.trans (congrArg some kq)
  f284:=Tryz.func303.trans (congrArg some kq)
  f285:=Tryz.func304.trans (congrArg some kq)
  f286:=Tryz.func305.trans (congrArg some kq)
  f317:=Tryz.func321.trans (congrArg some kq)
  f318:=Tryz.func323.trans (congrArg some kq)
  f319:=Tryz.func324.trans (congrArg some kq)
  f320:=Tryz.func325.trans (congrArg some kq)
  f337:=Tryz.func331.trans (congrArg some kq)
  f338:=Tryz.func332.trans (congrArg some kq)
  t0:=Tryz.underlying0
  a0:=Tryz.isAgg0
  z0:=Tryz.sizeOf0
  v0:=Tryz.zeroValue0
  t2:=Tryz.underlying2
  a2:=Tryz.isAgg2
  z2:=Tryz.sizeOf2
  v2:=Tryz.zeroValue2
  t3:=Tryz.underlying3
  a3:=Tryz.isAgg3
  z3:=Tryz.sizeOf3
  v3:=Tryz.zeroValue3
  t4:=Tryz.underlying4
  a4:=Tryz.isAgg4
  z4:=Tryz.sizeOf4
  v4:=Tryz.zeroValue4
  t5:=Tryz.underlying5
  a5:=Tryz.isAgg5
  z5:=Tryz.sizeOf5
  v5:=Tryz.zeroValue5
  t9:=Tryz.underlying9
  a9:=Tryz.isAgg9
  z9:=Tryz.sizeOf9
  v9:=Tryz.zeroValue9
  t20:=Tryz.underlying20
  a20:=Tryz.isAgg20
  z20:=Tryz.sizeOf20
  v20:=Tryz.zeroValue20
  t37:=Tryz.underlying97
  a37:=Tryz.isAgg97
  z37:=Tryz.sizeOf97
  v37:=Tryz.zeroValue97
  t46:=Tryz.underlying236
  a46:=Tryz.isAgg236
  z46:=Tryz.sizeOf236
  v46:=Tryz.zeroValue236
  t51:=Tryz.underlying256
  a51:=Tryz.isAgg256
  z51:=Tryz.sizeOf256
  v51:=Tryz.zeroValue256
  t53:=Tryz.underlying106
  a53:=Tryz.isAgg106
  z53:=Tryz.sizeOf106
  v53:=Tryz.zeroValue106
  t171:=Tryz.underlying278
  a171:=Tryz.isAgg278
  z171:=Tryz.sizeOf278
  v171:=Tryz.zeroValue278
  t173:=Tryz.underlying280
  a173:=Tryz.isAgg280
  z173:=Tryz.sizeOf280
  v173:=Tryz.zeroValue280
  t212:=Tryz.underlying296
  a212:=Tryz.isAgg296
  z212:=Tryz.sizeOf296
  v212:=Tryz.zeroValue296
  t213:=Tryz.underlying297
  a213:=Tryz.isAgg297
  z213:=Tryz.sizeOf297
  t232:=Tryz.underlying316
  a232:=Tryz.isAgg316
  z232:=Tryz.sizeOf316
  v232:=Tryz.zeroValue316
  t233:=Tryz.underlying317
  a233:=Tryz.isAgg317
  z233:=Tryz.sizeOf317
  v233:=Tryz.zeroValue317
  g17:=kq
  g18:=kq
  g19:=kq
  i0:=kq
  i2:=kq
  i3:=kq
  i4:=kq
  i5:=kq
  i9:=kq
  i20:=kq
  i37:=kq
  i46:=kq
  i51:=kq
  i53:=kq
  i171:=kq
  i173:=kq
  i212:=kq
  i232:=kq
  i233:=kq
  m17:=kq
  m18:=kq
  m19:=kq }
open Go.RowKit Go.Sort Go.Lib in
theorem Tryz.strconv_Itoa (n : Int) (h0 : -9223372036854775808 ≤ n) (h1 : n ≤ 9223372036854775807) (w : World) (htab : Lib.TabIs Tryz.prog w "internal/strconv.uint64pow10" .u64 Lib.pow10Tab) :
    Calls Tryz.prog 123 #[.int .i64 n] w fun e w'=>e = .returned (.string ⟨(Lib.itoa n).toArray⟩) ∧ ∃ k os,w' = grow (w.drewN k) os:=Any.strconv_Itoa Tryz.laysM171 n h0 h1 w htab
def Tryz.laysC172_ren : Go.Shelf.Ren:=⟨fun | 172=>255 | 244=>292 | 245=>293 | 247=>309 | 279=>310 | 280=>311 | 281=>312 | 282=>313 | 287=>295 | 316=>327 | 171=>123 | 205=>328 | 321=>314 | 322=>315 | 243=>238 | 246=>285 | 283=>302 | 284=>303 | 285=>304 | 286=>305 | 129=>322 | 317=>321 | 318=>323 | 319=>324 | 320=>325 | 337=>331 | 338=>332 | n=>n,fun | 9=>9 | 3=>3 | 75=>139 | 76=>140 | 4=>4 | 5=>5 | 167=>284 | 37=>97 | 0=>0 | 85=>285 | 2=>2 | 168=>287 | 53=>106 | 175=>248 | 46=>236 | 210=>300 | 127=>199 | 145=>312 | 143=>310 | 21=>21 | 171=>278 | 173=>280 | 212=>296 | 51=>256 | 20=>20 | 213=>297 | 232=>316 | 233=>317 | 80=>142 | n=>n,fun | 15=>4 | 16=>5 | 17=>3 | 18=>9 | 19=>10 | n=>n⟩
theorem Tryz.laysC172 : Go.Proofs.LaysC.n172 Tryz.prog Tryz.laysC172_ren:={
  mixed:=kq
  f129:=Tryz.func322.trans (congrArg some kq)
  f171:=Tryz.func123.trans (congrArg some kq)
  f172:=Tryz.func255.trans (congrArg some kq)
  f205:=Tryz.func328.trans (congrArg some kq)
  f243:=Tryz.func238.trans (congrArg some kq)
  f244:=Tryz.func292.trans (congrArg some kq)
  f245:=Tryz.func293.trans (congrArg some kq)
  f246:=Tryz.func285.trans (congrArg some kq)
  f247:=Tryz.func309.trans (congrArg some kq)
  f279:=Tryz.func310.trans (congrArg some kq)
  f280:=Tryz.func311.trans (congrArg some kq)
  f281:=Tryz.func312.trans (congrArg some kq)
  f282:=Tryz.func313.trans (congrArg some kq)
  f283:=Tryz.func302.trans (congrArg some kq)
  f284:=Tryz.func303.trans (congrArg some kq)
  f285:=Tryz.func304.trans (congrArg some kq)
  f286:=Tryz.func305.trans (congrArg some kq)
  f287:=Tryz.func295.trans (congrArg some kq)
  f316:=Tryz.func327.trans (congrArg some kq)
  f317:=Tryz.func321.trans (congrArg some kq)
  f318:=Tryz.func323.trans (congrArg some kq)
  f319:=Tryz.func324.trans (congrArg some kq)
  f320:=Tryz.func325.trans (congrArg some kq)
  f321:=Tryz.func314.trans (congrArg some kq)
  f322:=Tryz.func315.trans (congrArg some kq)
  f337:=Tryz.func331.trans (congrArg some kq)
  f338:=Tryz.func332.trans (congrArg some kq)
  t0:=Tryz.underlying0
  a0:=Tryz.isAgg0
  z0:=Tryz.sizeOf0
  v0:=Tryz.zeroValue0
  t2:=Tryz.underlying2
  a2:=Tryz.isAgg2
  z2:=Tryz.sizeOf2
  v2:=Tryz.zeroValue2
  t3:=Tryz.underlying3
  a3:=Tryz.isAgg3
  z3:=Tryz.sizeOf3
  v3:=Tryz.zeroValue3
  t4:=Tryz.underlying4
  a4:=Tryz.isAgg4
  z4:=Tryz.sizeOf4
  v4:=Tryz.zeroValue4
  t5:=Tryz.underlying5
  a5:=Tryz.isAgg5
  z5:=Tryz.sizeOf5
  v5:=Tryz.zeroValue5
  t9:=Tryz.underlying9
  a9:=Tryz.isAgg9
  z9:=Tryz.sizeOf9
  v9:=Tryz.zeroValue9
  t20:=Tryz.underlying20
  a20:=Tryz.isAgg20
  z20:=Tryz.sizeOf20
  v20:=Tryz.zeroValue20
  t21:=Tryz.underlying21
  a21:=Tryz.isAgg21
  z21:=Tryz.sizeOf21
  v21:=Tryz.zeroValue21
  t37:=Tryz.underlying97
  a37:=Tryz.isAgg97
  z37:=Tryz.sizeOf97
  v37:=Tryz.zeroValue97
  t46:=Tryz.underlying236
  a46:=Tryz.isAgg236
  z46:=Tryz.sizeOf236
  v46:=Tryz.zeroValue236
  t51:=Tryz.underlying256
  a51:=Tryz.isAgg256
  z51:=Tryz.sizeOf256
  v51:=Tryz.zeroValue256
  t53:=Tryz.underlying106
  a53:=Tryz.isAgg106
  z53:=Tryz.sizeOf106
  v53:=Tryz.zeroValue106
  t75:=Tryz.underlying139
  a75:=Tryz.isAgg139
  z75:=Tryz.sizeOf139
  v75:=Tryz.zeroValue139
  t76:=Tryz.underlying140
  a76:=Tryz.isAgg140
  z76:=Tryz.sizeOf140
  v76:=Tryz.zeroValue140
  t85:=Tryz.underlying285
  a85:=Tryz.isAgg285
  z85:=Tryz.sizeOf285
  v85:=Tryz.zeroValue285
  t127:=Tryz.underlying199
  a127:=Tryz.isAgg199
  z127:=Tryz.sizeOf199
  v127:=Tryz.zeroValue199
  t143:=Tryz.underlying310
  a143:=Tryz.isAgg310
  z143:=Tryz.sizeOf310
  v143:=Tryz.zeroValue310
  t145:=Tryz.underlying312
  a145:=Tryz.isAgg312
  z145:=Tryz.sizeOf312
  v145:=Tryz.zeroValue312
  t167:=Tryz.underlying284
  a167:=Tryz.isAgg284
  z167:=Tryz.sizeOf284
  v167:=Tryz.zeroValue284
  t168:=Tryz.underlying287
  a168:=Tryz.isAgg287
  z168:=Tryz.sizeOf287
  v168:=Tryz.zeroValue287
  t171:=Tryz.underlying278
  a171:=Tryz.isAgg278
  z171:=Tryz.sizeOf278
  v171:=Tryz.zeroValue278
  t173:=Tryz.underlying280
  a173:=Tryz.isAgg280
  z173:=Tryz.sizeOf280
  v173:=Tryz.zeroValue280
  t175:=Tryz.underlying248
  a175:=Tryz.isAgg248
  z175:=Tryz.sizeOf248
  v175:=Tryz.zeroValue248
  t210:=Tryz.underlying300
  a210:=Tryz.isAgg300
  z210:=Tryz.sizeOf300
  v210:=Tryz.zeroValue300
  t212:=Tryz.underlying296
  a212:=Tryz.isAgg296
  z212:=Tryz.sizeOf296
  v212:=Tryz.zeroValue296
  t213:=Tryz.underlying297
  a213:=Tryz.isAgg297
  z213:=Tryz.sizeOf297
  t232:=Tryz.underlying316
  a232:=Tryz.isAgg316
  z232:=Tryz.sizeOf316
  v232:=Tryz.zeroValue316
  t233:=Tryz.underlying317
  a233:=Tryz.isAgg317
  z233:=Tryz.sizeOf317
  v233:=Tryz.zeroValue317
  g15:=kq
  g16:=kq
  g17:=kq
  g18:=kq
  g19:=kq
  t80:=Tryz.underlying142
  a80:=Tryz.isAgg142
  z80:=Tryz.sizeOf142
  v80:=Tryz.zeroValue142
  i0:=kq
  i2:=kq
  i3:=kq
  i4:=kq
  i5:=kq
  i9:=kq
  i20:=kq
  i21:=kq
  i37:=kq
  i46:=kq
  i51:=kq
  i53:=kq
  i75:=kq
  i76:=kq
  i80:=kq
  i85:=kq
  i127:=kq
  i143:=kq
  i145:=kq
  i167:=kq
  i168:=kq
  i171:=kq
  i173:=kq
  i175:=kq
  i210:=kq
  i212:=kq
  i232:=kq
  i233:=kq
  m15:=kq
  m16:=kq
  m17:=kq
  m18:=kq
  m19:=kq
  c0:=kq
  c2:=kq
  c3:=kq
  c4:=kq
  c5:=kq
  c9:=kq
  c20:=kq
  c21:=kq
  c37:=kq
  c46:=kq
  c51:=kq
  c53:=kq
  c75:=kq
  c76:=kq
  c80:=kq
  c85:=kq
  c127:=kq
  c143:=kq
  c145:=kq
  c167:=kq
  c168:=kq
  c171:=kq
  c173:=kq
  c175:=kq
  c210:=kq
  c212:=kq
  c213:=kq
  c232:=kq
  c233:=kq }
open Go.RowKit in
theorem Tryz.strconv_Atoi_ok (s : ByteArray) (hmax : s.size ≤ 9223372036854775806) (v : Int) (h : Lib.atoiAll s.data.toList = .ok v) (w : World) :
    Calls Tryz.prog 255 #[.string s] w fun e w'=>e = .returned (.tuple #[.int .i64 v,.nilIface]) ∧ (w' = w ∨ ∃ t,w' = Lib.bytesWorld w 5 t):=Any.strconv_Atoi_ok Tryz.laysC172 s hmax v h w
open Go.RowKit in
theorem Tryz.strconv_Atoi_syntax_var (s : ByteArray) (hlim : s.size ≤ 281474976710656) (h0 : (∀ v,Lib.atoiAll s.data.toList ≠ .ok v) ∧ Lib.atoiAll s.data.toList ≠ .range) (tp : TypeId) (p : Value) (w : World) (hvar : w.var? Tryz.prog "strconv.ErrSyntax" = some #[.iface tp p]) :
    Calls Tryz.prog 255 #[.string s] w fun e w'=>∃ N,e = .returned (.tuple #[.int .i64 0,.iface 287 (.pointer (some ⟨N,0,none⟩))]) ∧ w.heap.size ≤ N ∧ w'.heap[N]? = some (.cells #[.string ⟨#[65,116,111,105]⟩,.string s,.iface tp p] 300 (0,0)) ∧ Below w.heap.size w w':=Any.strconv_Atoi_syntax_var Tryz.laysC172 s hlim (by
      cases e : Lib.atoiAll s.data.toList <;> first | rfl | exact absurd e (h0.1 _) | exact absurd e h0.2) tp p w hvar
open Go.RowKit in
theorem Tryz.strconv_Atoi_range_var (s : ByteArray) (hlim : s.size ≤ 281474976710656) (h : Lib.atoiAll s.data.toList = .range) (tp : TypeId) (p : Value) (w : World) (hvar : w.var? Tryz.prog "strconv.ErrRange" = some #[.iface tp p]) :
    Calls Tryz.prog 255 #[.string s] w fun e w'=>∃ N,e = .returned (.tuple #[.int .i64 (Lib.atoiSat s.data.toList),.iface 287 (.pointer (some ⟨N,0,none⟩))]) ∧ w.heap.size ≤ N ∧ w'.heap[N]? = some (.cells #[.string ⟨#[65,116,111,105]⟩,.string s,.iface tp p] 300 (0,0)) ∧ Below w.heap.size w w':=Any.strconv_Atoi_range_var Tryz.laysC172 s hlim h tp p w hvar
def Tryz.lays145_ren : Go.Shelf.Ren:=⟨fun | 145=>79 | 220=>148 | 219=>150 | 217=>250 | 225=>251 | 224=>252 | 267=>253 | 266=>289 | 314=>290 | n=>n,fun | 9=>9 | 4=>4 | 59=>144 | 3=>3 | 5=>5 | 46=>236 | 146=>260 | 51=>256 | n=>n,fun | 1=>1 | n=>n⟩
theorem Tryz.lays145 : Go.Proofs.Lays.n145 Tryz.prog Tryz.lays145_ren:={
  mixed:=kq
  f145:=Tryz.func79.trans (congrArg some kq)
  f217:=Tryz.func250.trans (congrArg some kq)
  f219:=Tryz.func150.trans (congrArg some kq)
  f220:=Tryz.func148.trans (congrArg some kq)
  f224:=Tryz.func252.trans (congrArg some kq)
  f225:=Tryz.func251.trans (congrArg some kq)
  f266:=Tryz.func289.trans (congrArg some kq)
  f267:=Tryz.func253.trans (congrArg some kq)
  f314:=Tryz.func290.trans (congrArg some kq)
  t3:=Tryz.underlying3
  a3:=Tryz.isAgg3
  z3:=Tryz.sizeOf3
  v3:=Tryz.zeroValue3
  t4:=Tryz.underlying4
  a4:=Tryz.isAgg4
  z4:=Tryz.sizeOf4
  v4:=Tryz.zeroValue4
  t5:=Tryz.underlying5
  a5:=Tryz.isAgg5
  z5:=Tryz.sizeOf5
  v5:=Tryz.zeroValue5
  t9:=Tryz.underlying9
  a9:=Tryz.isAgg9
  z9:=Tryz.sizeOf9
  v9:=Tryz.zeroValue9
  t46:=Tryz.underlying236
  a46:=Tryz.isAgg236
  z46:=Tryz.sizeOf236
  v46:=Tryz.zeroValue236
  t51:=Tryz.underlying256
  a51:=Tryz.isAgg256
  z51:=Tryz.sizeOf256
  v51:=Tryz.zeroValue256
  t59:=Tryz.underlying144
  a59:=Tryz.isAgg144
  z59:=Tryz.sizeOf144
  v59:=Tryz.zeroValue144
  t146:=Tryz.underlying260
  a146:=Tryz.isAgg260
  z146:=Tryz.sizeOf260
  v146:=Tryz.zeroValue260
  g1:=kq }
open Go.RowKit Go.Lib in
theorem Tryz.strings_Cut (s sep : ByteArray) (m : Int) (w : World) (hs : s.size < 4294967281) (hm : w.cell? ⟨1,0,none⟩ = some (.int .i64 m)) :
    Calls Tryz.prog 79 #[.string s,.string sep] w fun e w'=>e = .returned (.tuple #[.string ⟨(Lib.cut s.data.toList sep.data.toList).1.toArray⟩,.string ⟨(Lib.cut s.data.toList sep.data.toList).2.1.toArray⟩,.bool (Lib.cut s.data.toList sep.data.toList).2.2]) ∧ ∃ n,w' = w.drewN n:=Any.strings_Cut Tryz.lays145 s sep m w hs hm
def Tryz.lays99_ren : Go.Shelf.Ren:=⟨fun | 99=>27 | 206=>68 | n=>n,fun | 9=>9 | 4=>4 | 3=>3 | n=>n,fun | n=>n⟩
def Tryz.lays101_ren : Go.Shelf.Ren:=⟨fun | 101=>254 | 208=>291 | 206=>68 | n=>n,fun | 9=>9 | 4=>4 | 3=>3 | n=>n,fun | n=>n⟩
theorem Tryz.lays101 : Go.Proofs.Lays.n101 Tryz.prog Tryz.lays101_ren:={
  mixed:=kq
  f101:=Tryz.func254.trans (congrArg some kq)
  f206:=Tryz.func68.trans (congrArg some kq)
  f208:=Tryz.func291.trans (congrArg some kq)
  t3:=Tryz.underlying3
  a3:=Tryz.isAgg3
  z3:=Tryz.sizeOf3
  v3:=Tryz.zeroValue3
  t4:=Tryz.underlying4
  a4:=Tryz.isAgg4
  z4:=Tryz.sizeOf4
  v4:=Tryz.zeroValue4
  t9:=Tryz.underlying9
  a9:=Tryz.isAgg9
  z9:=Tryz.sizeOf9
  v9:=Tryz.zeroValue9 }
open Go.RowKit Go.Lib in
theorem Tryz.strings_TrimPrefix (s p : ByteArray) (w : World) :
    Calls Tryz.prog 254 #[.string s,.string p] w fun e w'=>e = .returned (.string ⟨(Lib.trimPrefix s.data.toList p.data.toList).toArray⟩) ∧ w' = w:=Any.strings_TrimPrefix Tryz.lays101 s p w
def Tryz.lays146_ren : Go.Shelf.Ren:=⟨fun | 146=>128 | 221=>239 | 268=>286 | 138=>287 | 143=>84 | 195=>306 | 197=>307 | 218=>308 | 219=>150 | 260=>326 | 217=>250 | 225=>251 | 224=>252 | 267=>253 | 266=>289 | 314=>290 | n=>n,fun | 9=>9 | 31=>118 | 3=>3 | 4=>4 | 0=>0 | 105=>282 | 21=>21 | 5=>5 | 46=>236 | 119=>229 | 139=>309 | 138=>308 | 146=>260 | 51=>256 | n=>n,fun | 1=>1 | 3=>7 | 4=>8 | n=>n⟩
theorem Tryz.lays146 : Go.Proofs.Lays.n146 Tryz.prog Tryz.lays146_ren:={
  mixed:=kq
  f138:=Tryz.func287.trans (congrArg some kq)
  f143:=Tryz.func84.trans (congrArg some kq)
  f146:=Tryz.func128.trans (congrArg some kq)
  f195:=Tryz.func306.trans (congrArg some kq)
  f197:=Tryz.func307.trans (congrArg some kq)
  f217:=Tryz.func250.trans (congrArg some kq)
  f218:=Tryz.func308.trans (congrArg some kq)
  f219:=Tryz.func150.trans (congrArg some kq)
  f221:=Tryz.func239.trans (congrArg some kq)
  f224:=Tryz.func252.trans (congrArg some kq)
  f225:=Tryz.func251.trans (congrArg some kq)
  f260:=Tryz.func326.trans (congrArg some kq)
  f266:=Tryz.func289.trans (congrArg some kq)
  f267:=Tryz.func253.trans (congrArg some kq)
  f268:=Tryz.func286.trans (congrArg some kq)
  f314:=Tryz.func290.trans (congrArg some kq)
  t0:=Tryz.underlying0
  a0:=Tryz.isAgg0
  z0:=Tryz.sizeOf0
  v0:=Tryz.zeroValue0
  t3:=Tryz.underlying3
  a3:=Tryz.isAgg3
  z3:=Tryz.sizeOf3
  v3:=Tryz.zeroValue3
  t4:=Tryz.underlying4
  a4:=Tryz.isAgg4
  z4:=Tryz.sizeOf4
  v4:=Tryz.zeroValue4
  t5:=Tryz.underlying5
  a5:=Tryz.isAgg5
  z5:=Tryz.sizeOf5
  v5:=Tryz.zeroValue5
  t9:=Tryz.underlying9
  a9:=Tryz.isAgg9
  z9:=Tryz.sizeOf9
  v9:=Tryz.zeroValue9
  t21:=Tryz.underlying21
  a21:=Tryz.isAgg21
  z21:=Tryz.sizeOf21
  v21:=Tryz.zeroValue21
  t31:=Tryz.underlying118
  a31:=Tryz.isAgg118
  z31:=Tryz.sizeOf118
  v31:=Tryz.zeroValue118
  t46:=Tryz.underlying236
  a46:=Tryz.isAgg236
  z46:=Tryz.sizeOf236
  v46:=Tryz.zeroValue236
  t51:=Tryz.underlying256
  a51:=Tryz.isAgg256
  z51:=Tryz.sizeOf256
  v51:=Tryz.zeroValue256
  t105:=Tryz.underlying282
  a105:=Tryz.isAgg282
  z105:=Tryz.sizeOf282
  v105:=Tryz.zeroValue282
  t119:=Tryz.underlying229
  a119:=Tryz.isAgg229
  z119:=Tryz.sizeOf229
  t138:=Tryz.underlying308
  a138:=Tryz.isAgg308
  z138:=Tryz.sizeOf308
  v138:=Tryz.zeroValue308
  t139:=Tryz.underlying309
  a139:=Tryz.isAgg309
  z139:=Tryz.sizeOf309
  v139:=Tryz.zeroValue309
  t146:=Tryz.underlying260
  a146:=Tryz.isAgg260
  z146:=Tryz.sizeOf260
  v146:=Tryz.zeroValue260
  g1:=kq
  g3:=kq
  g4:=kq }
open Go.RowKit Go.Lib in
theorem Tryz.strings_Split (s sep : ByteArray) (m : Int) (w : World) (hs : s.size < 4294967281) (hm : w.cell? ⟨1,0,none⟩ = some (.int .i64 m)) (h1 : 1 ≤ sep.size) :
    Calls Tryz.prog 128 #[.string s,.string sep] w fun e w' =>
      e = .returned (.slice (some ⟨w.heap.size,0,none⟩) (Lib.countB s sep + 1) (Lib.countB s sep + 1)) ∧ w' = w.alloc (.cells ((Lib.splitB sep 0 (Lib.countB s sep) s).map Value.string).toArray 9):=Any.strings_Split Tryz.lays146 kq s sep m w hs hm h1
def Tryz.lays157_ren : Go.Shelf.Ren:=⟨fun | 157=>114 | 229=>233 | 199=>234 | 261=>283 | 311=>299 | 312=>300 | n=>n,fun | 9=>9 | 31=>118 | 3=>3 | 5=>5 | 4=>4 | 119=>229 | 0=>0 | 40=>231 | 152=>253 | 21=>21 | 154=>255 | 51=>256 | 141=>258 | 196=>269 | 193=>266 | 198=>272 | 49=>270 | 194=>267 | 201=>275 | 226=>293 | 46=>236 | 227=>294 | n=>n,fun | 0=>0 | 6=>2 | n=>n⟩
theorem Tryz.lays157 : Go.Proofs.Lays.n157 Tryz.prog Tryz.lays157_ren:={
  mixed:=kq
  f157:=Tryz.func114.trans (congrArg some kq)
  f199:=Tryz.func234.trans (congrArg some kq)
  f229:=Tryz.func233.trans (congrArg some kq)
  f261:=Tryz.func283.trans (congrArg some kq)
  f311:=Tryz.func299.trans (congrArg some kq)
  f312:=Tryz.func300.trans (congrArg some kq)
  t0:=Tryz.underlying0
  a0:=Tryz.isAgg0
  z0:=Tryz.sizeOf0
  v0:=Tryz.zeroValue0
  t3:=Tryz.underlying3
  a3:=Tryz.isAgg3
  z3:=Tryz.sizeOf3
  v3:=Tryz.zeroValue3
  t4:=Tryz.underlying4
  a4:=Tryz.isAgg4
  z4:=Tryz.sizeOf4
  v4:=Tryz.zeroValue4
  t5:=Tryz.underlying5
  a5:=Tryz.isAgg5
  z5:=Tryz.sizeOf5
  v5:=Tryz.zeroValue5
  t9:=Tryz.underlying9
  a9:=Tryz.isAgg9
  z9:=Tryz.sizeOf9
  v9:=Tryz.zeroValue9
  t21:=Tryz.underlying21
  a21:=Tryz.isAgg21
  z21:=Tryz.sizeOf21
  v21:=Tryz.zeroValue21
  t31:=Tryz.underlying118
  a31:=Tryz.isAgg118
  z31:=Tryz.sizeOf118
  v31:=Tryz.zeroValue118
  t40:=Tryz.underlying231
  a40:=Tryz.isAgg231
  z40:=Tryz.sizeOf231
  v40:=Tryz.zeroValue231
  t46:=Tryz.underlying236
  a46:=Tryz.isAgg236
  z46:=Tryz.sizeOf236
  v46:=Tryz.zeroValue236
  t49:=Tryz.underlying270
  a49:=Tryz.isAgg270
  z49:=Tryz.sizeOf270
  v49:=Tryz.zeroValue270
  t51:=Tryz.underlying256
  a51:=Tryz.isAgg256
  z51:=Tryz.sizeOf256
  v51:=Tryz.zeroValue256
  t119:=Tryz.underlying229
  a119:=Tryz.isAgg229
  z119:=Tryz.sizeOf229
  t141:=Tryz.underlying258
  a141:=Tryz.isAgg258
  z141:=Tryz.sizeOf258
  v141:=Tryz.zeroValue258
  t152:=Tryz.underlying253
  a152:=Tryz.isAgg253
  z152:=Tryz.sizeOf253
  v152:=Tryz.zeroValue253
  t154:=Tryz.underlying255
  a154:=Tryz.isAgg255
  z154:=Tryz.sizeOf255
  v154:=Tryz.zeroValue255
  t193:=Tryz.underlying266
  a193:=Tryz.isAgg266
  z193:=Tryz.sizeOf266
  v193:=Tryz.zeroValue266
  t194:=Tryz.underlying267
  a194:=Tryz.isAgg267
  z194:=Tryz.sizeOf267
  v194:=Tryz.zeroValue267
  t196:=Tryz.underlying269
  a196:=Tryz.isAgg269
  z196:=Tryz.sizeOf269
  v196:=Tryz.zeroValue269
  t198:=Tryz.underlying272
  a198:=Tryz.isAgg272
  z198:=Tryz.sizeOf272
  v198:=Tryz.zeroValue272
  t201:=Tryz.underlying275
  a201:=Tryz.isAgg275
  z201:=Tryz.sizeOf275
  v201:=Tryz.zeroValue275
  t226:=Tryz.underlying293
  a226:=Tryz.isAgg293
  z226:=Tryz.sizeOf293
  v226:=Tryz.zeroValue293
  t227:=Tryz.underlying294
  a227:=Tryz.isAgg294
  z227:=Tryz.sizeOf294
  v227:=Tryz.zeroValue294
  g0:=kq
  g6:=kq }
open Go.RowKit Go.Lib in
theorem Tryz.strings_Fields (s : ByteArray) (w : World) (hs : s.size < 4294967281) (hascii : ∀ (j : Nat) b,s.data.toList[j]? = some b → b.toNat < 128) (htab : Lib.TabIs Tryz.prog w "strings.asciiSpace" .u8 Lib.asciiSpaceTab) :
    Calls Tryz.prog 114 #[.string s] w fun e w' =>
      e = .returned (.slice (some ⟨w.heap.size,0,none⟩) (Lib.fields s.data.toList).length (Lib.fields s.data.toList).length) ∧ w' = w.alloc (.cells ((Lib.fields s.data.toList).map fun l=>Value.string ⟨l.toArray⟩).toArray 9):=Any.strings_Fields Tryz.lays157 kq kq s w hs hascii htab
def Tryz.laysNm225_ren : Go.Shelf.Ren:=⟨fun | 25=>137 | 31=>241 | 32=>242 | 37=>288 | n=>n,fun | 22=>27 | 3=>3 | 4=>4 | 40=>236 | 0=>0 | n=>n,fun | n=>n⟩
theorem Tryz.laysNm225 : Go.Proofs.Lays2.n25 Tryz.prog Tryz.laysNm225_ren:={
  mixed:=kq
  f25:=Tryz.func137.trans (congrArg some kq)
  f31:=Tryz.func241.trans (congrArg some kq)
  f32:=Tryz.func242.trans (congrArg some kq)
  f37:=Tryz.func288.trans (congrArg some kq)
  t0:=Tryz.underlying0
  a0:=Tryz.isAgg0
  z0:=Tryz.sizeOf0
  v0:=Tryz.zeroValue0
  t3:=Tryz.underlying3
  a3:=Tryz.isAgg3
  z3:=Tryz.sizeOf3
  v3:=Tryz.zeroValue3
  t4:=Tryz.underlying4
  a4:=Tryz.isAgg4
  z4:=Tryz.sizeOf4
  v4:=Tryz.zeroValue4
  t22:=Tryz.underlying27
  a22:=Tryz.isAgg27
  z22:=Tryz.sizeOf27
  v22:=Tryz.zeroValue27
  t40:=Tryz.underlying236
  a40:=Tryz.isAgg236
  z40:=Tryz.sizeOf236
  v40:=Tryz.zeroValue236 }
open Go.RowKit Go.Lib in
theorem Tryz.slices_BinarySearch_int (b off n c : Nat) (zs : List Int) (x : Int) (w : World) (hz : n ≤ zs.length) (hbig : n < 4611686018427387904) (hc : ∀ j,j < zs.length → w.cell? ⟨b,off + j,none⟩ = some (.int .i64 (zs.getD j 0))) (hs : (zs.take n).Pairwise (· ≤ ·)) :
    Calls Tryz.prog 137 #[.slice (some ⟨b,off,none⟩) n c,.int .i64 x] w fun e w'=>e = .returned (.tuple #[.int .i64 ((zs.take n).countP (· < x) : Nat),.bool ((zs.take n).contains x)]) ∧ ∃ q,w' = w.drewN q:=Any.slices_BinarySearch_int Tryz.laysNm225 b off n c zs x w hz hbig hc hs
end Go.Proofs
end
section
namespace Go.Proofs
open Go Go.RowKit
set_option maxHeartbeats 1000000 in
set_option maxRecDepth 100000 in
theorem copyCheck_used (b : Nat) (w : World) (h0 : w.cell? ⟨b,0,none⟩ = some (.pointer (some ⟨b,0,none⟩))) :
  Calls Tryz.prog 146 #[.pointer (some ⟨b,0,none⟩)] w fun e w'=>e = .returned (.tuple #[]) ∧ w' = w:=by
 obtain ⟨j,hj⟩ : ∃ j,Tryz.prog.info? 137 = some j:=Option.isSome_iff_exists.1 kq
 go_enter Tryz.func146,Tryz.ntmps146
 go_wp2
 rw [Lib.run_neq_ptr_same w _ Tryz.underlying135 hj]
 go_wp2
 go_end0
 exact ⟨rfl,rfl⟩
set_option maxHeartbeats 1000000 in
set_option maxRecDepth 100000 in
theorem copyCheck_new (b : Nat) (w : World) (v : Value) (h0 : w.heap[b]? = some (.cells #[.pointer none,v] 137 (0,0))) :
  Calls Tryz.prog 146 #[.pointer (some ⟨b,0,none⟩)] w fun e w'=>e = .returned (.tuple #[]) ∧ w' = w.setCell ⟨b,0,none⟩ (.pointer (some ⟨b,0,none⟩)):=by
 obtain ⟨j,hj⟩ : ∃ j,Tryz.prog.info? 137 = some j:=Option.isSome_iff_exists.1 kq
 have hjs : j.size = 2:=by
  have : (Tryz.prog.info? 137).map (·.size) = some 2:=kq
  rw [hj] at this; simpa using this
 have hc : w.cell? ⟨b,0,none⟩ = some (.pointer none):=by rw [Lib.cell_of_heap h0]; rfl
 have hf : w.frozen? ⟨b,0,none⟩ = false:=by simp [World.frozen?,h0]
 have hsh : w.shape? b = some (137,2):=by simp [World.shape?,h0]
 go_enter Tryz.func146,Tryz.ntmps146
 go_wp2
 rw [Lib.run_to_unsafe w ⟨b,0,none⟩ Tryz.underlying135 Tryz.underlying239 hj (by rw [hjs]; decide) hsh (Nat.zero_lt_succ 1)]
 simp only [Result.andThen]
 rw [Oper.upon_value]
 go_wp2
 rw [run_callFunc_extern Tryz.func249 kq kq kq (e:=Extern.AbiNoEscape.same) kq]
 rw [Lib.run_noEscape]
 simp only [Result.andThen]
 rw [Oper.upon_value]
 go_wp2
 rw [Lib.run_from_unsafe w ⟨b,0,none⟩ Tryz.underlying239 Tryz.underlying135 hj hsh kq]
 simp only [Result.andThen]
 rw [Oper.upon_value]
 go_wp2
 go_end0
 exact ⟨rfl,rfl⟩
set_option maxHeartbeats 2000000 in
set_option maxRecDepth 100000 in
theorem bldString (b g cap : Nat) (p : Value) (cur : Array Value) (l : List UInt8) (w : World) (h0 : l ≠ []) (hbk : w.heap[b]? = some (.cells #[p,.slice (some ⟨g,0,none⟩) l.length cap] 137 (0,0))) (hg : w.heap[g]? = some (.cells cur 5 (0,0)))
  (hle : l.length ≤ cur.size) (hcap : l.length ≤ cap) (hm : l.length ≤ 140737488355328) (hcells : ∀ j x,l[j]? = some x → w.cell? ⟨g,j,none⟩ = some (.int .u8 x.toNat)) :
  Calls Tryz.prog 76 #[.pointer (some ⟨b,0,none⟩)] w fun e w'=>e = .returned (.string ⟨l.toArray⟩) ∧ w' = w.drew.freeze ⟨g,0,none⟩ l.length:=by
 have hl0 : l.length ≠ 0:=by simpa using h0
 have c1 : w.drew.cell? ⟨b,1,none⟩ = some (.slice (some ⟨g,0,none⟩) l.length cap):=by
  have : w.drew.heap[b]? = some (.cells #[p,.slice (some ⟨g,0,none⟩) l.length cap] 137 (0,0)):=hbk
  rw [Lib.cell_of_heap this]; rfl
 have hSD : (Builtin.unsafeSliceData_ #[97] 199 #[.slice (some ⟨g,0,none⟩) l.length cap]).run Tryz.prog w.drew = .ok (.pointer (some ⟨g,0,none⟩)) w.drew :=
  Lib.run_unsafeSliceData_row _ _ _ _ _ _ (by omega)
 have hUS : (Builtin.unsafeString_ #[199,3] 9 #[.pointer (some ⟨g,0,none⟩),.int .i64 l.length]).run Tryz.prog w.drew = .ok (.string ⟨l.toArray⟩) (w.drew.freeze ⟨g,0,none⟩ l.length):=by
  refine Lib.run_unsafeString_row w.drew 199 3 9 5 Tryz.underlying199 kq g cur.size (by have hg' : w.drew.heap[g]? = some (.cells cur 5 (0,0)):=hg; simp [World.shape?,hg']) l h0 (by omega) (by omega) (fun j x hx=>?_)
  have e : (⟨g,0,none⟩ : Addr).add j = ⟨g,j,none⟩:=by unfold Addr.add; split <;> simp_all
  rw [e]; exact hcells j x hx
 have mixed : Tryz.prog.follows .mixedOrders = true:=kq
 clear hcells hle hcap hm hg hbk
 go_enter Tryz.func76,Tryz.ntmps76
 go_wp2
 go_region_o
 all_goals (go_wp2; go_ret; exact ⟨rfl,rfl⟩)
theorem unsafeString_none (W : World) (q : Option Addr) : (Builtin.unsafeString_ #[199,3] 9 #[.pointer q,.int .i64 0]).run Tryz.prog W = .ok (.string .empty) W :=
 Lib.run_unsafeString_none W _ _ _ q
set_option maxHeartbeats 2000000 in
set_option maxRecDepth 100000 in
theorem bldString_nil (b : Nat) (p : Value) (w : World) (hbk : w.heap[b]? = some (.cells #[p,.slice none 0 0] 137 (0,0))) :
  Calls Tryz.prog 76 #[.pointer (some ⟨b,0,none⟩)] w fun e w'=>e = .returned (.string ⟨#[]⟩) ∧ w' = w.drew:=by
 have hUS:=unsafeString_none
 have c1 : w.drew.cell? ⟨b,1,none⟩ = some (.slice none 0 0):=by
  have : w.drew.heap[b]? = some (.cells #[p,.slice none 0 0] 137 (0,0)):=hbk
  rw [Lib.cell_of_heap this]; rfl
 have hSD : (Builtin.unsafeSliceData_ #[97] 199 #[.slice none 0 0]).run Tryz.prog w.drew = .ok (.pointer none) w.drew:=rfl
 have mixed : Tryz.prog.follows .mixedOrders = true:=kq
 go_enter Tryz.func76,Tryz.ntmps76
 go_wp2
 go_region_o
 all_goals (go_wp2; go_ret; exact ⟨rfl,rfl⟩)
set_option maxHeartbeats 2000000 in
set_option maxRecDepth 100000 in
theorem bldString_noroom (b g : Nat) (p : Value) (cur : Array Value) (w : World) (hbk : w.heap[b]? = some (.cells #[p,.slice (some ⟨g,0,none⟩) 0 0] 137 (0,0))) (hg : w.heap[g]? = some (.cells cur 5 (0,0))) :
  Calls Tryz.prog 76 #[.pointer (some ⟨b,0,none⟩)] w fun e w'=>e = .returned (.string ⟨#[]⟩) ∧ w' = w.drew.alloc (.view ⟨g,0,none⟩ 5):=by
 have hUS:=unsafeString_none
 have hlt : b < w.heap.size:=by
  rcases Nat.lt_or_ge b w.heap.size with h' | h'
  ·exact h'
  ·simp [Array.getElem?_eq_none h'] at hbk
 have c1 : w.drew.cell? ⟨b,1,none⟩ = some (.slice (some ⟨g,0,none⟩) 0 0):=by
  have : w.drew.heap[b]? = some (.cells #[p,.slice (some ⟨g,0,none⟩) 0 0] 137 (0,0)):=hbk
  rw [Lib.cell_of_heap this]; rfl
 have hSD : (Builtin.unsafeSliceData_ #[97] 199 #[.slice (some ⟨g,0,none⟩) 0 0]).run Tryz.prog w.drew = .ok (.pointer (some ⟨w.drew.heap.size,0,none⟩)) (w.drew.alloc (.view ⟨g,0,none⟩ 5)) :=
  Lib.run_unsafeSliceData_zero w.drew _ _ 5 Tryz.underlying199 ⟨g,0,none⟩ 0 (5,cur.size) (by have hg' : w.drew.heap[g]? = some (.cells cur 5 (0,0)):=hg; simp [World.shape?,hg'])
 have c2 : (w.drew.alloc (.view ⟨g,0,none⟩ 5)).cell? ⟨b,1,none⟩ = some (.slice (some ⟨g,0,none⟩) 0 0):=by
  have : (w.drew.alloc (.view ⟨g,0,none⟩ 5)).heap[b]? = _:=(Lib.alloc_old w.drew _ b hlt).trans hbk
  rw [Lib.cell_of_heap this]; rfl
 have c3 : (w.alloc (.view ⟨g,0,none⟩ 5)).drew.cell? ⟨b,1,none⟩ = some (.slice (some ⟨g,0,none⟩) 0 0):=c2
 have c0 : w.cell? ⟨b,1,none⟩ = some (.slice (some ⟨g,0,none⟩) 0 0):=c1
 have mixed : Tryz.prog.follows .mixedOrders = true:=kq
 clear hg hbk
 go_enter Tryz.func76,Tryz.ntmps76
 go_wp2
 go_region_o
 all_goals (go_wp2; go_ret; exact ⟨rfl,rfl⟩)
set_option maxHeartbeats 2000000 in
set_option maxRecDepth 100000 in
theorem bldString_room (b g cap : Nat) (p : Value) (w : World) (hc0 : cap ≠ 0) (hbk : w.heap[b]? = some (.cells #[p,.slice (some ⟨g,0,none⟩) 0 cap] 137 (0,0))) :
  Calls Tryz.prog 76 #[.pointer (some ⟨b,0,none⟩)] w fun e w'=>e = .returned (.string ⟨#[]⟩) ∧ w' = w.drew:=by
 have hUS:=unsafeString_none
 have c1 : w.drew.cell? ⟨b,1,none⟩ = some (.slice (some ⟨g,0,none⟩) 0 cap):=by
  have : w.drew.heap[b]? = some (.cells #[p,.slice (some ⟨g,0,none⟩) 0 cap] 137 (0,0)):=hbk
  rw [Lib.cell_of_heap this]; rfl
 have hSD : (Builtin.unsafeSliceData_ #[97] 199 #[.slice (some ⟨g,0,none⟩) 0 cap]).run Tryz.prog w.drew = .ok (.pointer (some ⟨g,0,none⟩)) w.drew :=
  Lib.run_unsafeSliceData_row _ _ _ _ _ _ hc0
 clear hc0
 have mixed : Tryz.prog.follows .mixedOrders = true:=kq
 go_enter Tryz.func76,Tryz.ntmps76
 go_wp2
 go_region_o
 all_goals (go_wp2; go_ret; exact ⟨rfl,rfl⟩)
end Go.Proofs
end
section
namespace Go.SX
open Go
theorem CallsK.same {P : Program} {f : FuncId} {ys : List CV} {F : St} {v : RV} (ht : told F.next F.heap = true) (hp : F.pers = []) (hv : v.wf F.W)
  (h : ∀ ρ w,FSat ρ F w → Calls P f (ys.map (CV.den ρ)).toArray w (fun e w'=>e = .returned (v.den ρ) ∧ w' = w)) : CallsK P f ys F (fun _ : Unit=>True) (fun _=>v) (fun _=>F):=by
 intro ρ w hF
 refine (h ρ w hF).mono ?_
 rintro e w' ⟨rfl,rfl⟩
 refine ⟨(),ρ,trivial,rfl,fun _ _=>rfl,Nat.le_refl _,fun b h1 h2=>absurd (Nat.lt_of_le_of_lt h1 h2) (Nat.lt_irrefl _),hF,fun b hb=>told_ok ht hb,hv,Chg.refl _ _,fun b blk _ h1 h2=>⟨blk,h1,h2⟩,fun r R hR k hk=>?_,fun q hq=>(by rw [hp] at hq; cases hq)⟩
 cases ho : R.own with
 | true=>exact .inl ⟨rfl,.inr ⟨r,R,hR,ho,hk⟩⟩
 | false=>exact .inr (.inl ⟨rfl,r,R,hR,hk⟩)
end Go.SX
namespace Go.Proofs
open Go Go.SX
set_option maxRecDepth 10000
def bdX (x : SV) (l : List UInt8) (q : Option Addr) (cap : Nat) : St :=
 { n:=0,slots:=[],gs:=[],heap:=[(0,⟨[x,.row 0 q l.length cap],137,true⟩)],next:=1,rows:=[(0,rowL bsv 0 l q cap 5 1 true)],nr:=1,pers:=[],wr:=false }
def bdF (l : List UInt8) (q : Option Addr) (cap : Nat) : St:=bdX (.ptr 0 0) l q cap
def bdY (x y : SV) : St:={ n:=0,slots:=[],gs:=[],heap:=[(0,⟨[x,y],137,true⟩)],next:=1,rows:=[],nr:=0,pers:=[],wr:=false }
def bdN : St:=bdY (.val (.pointer none)) (.val (.slice none 0 0))
def bdM : St:=bdY (.ptr 0 0) (.val (.slice none 0 0))
theorem cc_used (l : List UInt8) (q : Option Addr) (cap : Nat) : CallsK Tryz.prog 146 [.one (.ptr 0 0)] (bdF l q cap) (fun _ : Unit=>True) (fun _=>.tup []) (fun _=>bdF l q cap):=by
 refine CallsK.same rfl rfl (fun x hx=>(by cases hx)) (fun ρ w hF=>?_)
 obtain ⟨_,h2,_⟩:=hF.heap 0 _ rfl
 exact copyCheck_used (ρ 0) w (by rw [Lib.cell_of_heap h2]; rfl)
theorem cc_new : CallsK Tryz.prog 146 [.one (.ptr 0 0)] bdN (fun _ : Unit=>True) (fun _=>.tup []) (fun _=>bdM):=by
 intro ρ w hF
 obtain ⟨_,h2,_⟩:=hF.heap 0 _ rfl
 refine (copyCheck_new (ρ 0) w (.slice none 0 0) h2).mono ?_
 rintro e w' ⟨rfl,rfl⟩
 have hlt:=hF.lt 0 (Nat.zero_lt_succ 0)
 have hw : (w.setCell ⟨ρ 0,0,none⟩ (.pointer (some ⟨ρ 0,0,none⟩))).heap[ρ 0]? = some (.cells #[.pointer (some ⟨ρ 0,0,none⟩),.slice none 0 0] 137 (0,0)):=by
  have h2' : w.heap[ρ 0]? = some (.cells #[.pointer none,.slice none 0 0] 137 (0,0)):=h2
  simp [World.setCell,Array.getElem?_modify,h2']
 refine ⟨(),ρ,trivial,rfl,fun _ _=>rfl,Nat.le_refl _,fun b h1 h2=>absurd (Nat.lt_of_le_of_lt h1 h2) (Nat.lt_irrefl _),⟨?_,hF.inj,?_,?_,?_,?_⟩,fun b hb=>?_,fun x hx=>(by cases hx),⟨rfl,rfl,rfl,?_,?_⟩,fun b blk hb h1 h2=>?_,fun r R hR=>(by cases hR),fun q hq=>(by cases hq)⟩
 ·intro b blk hb
  have hb0 : b = 0 ∧ blk = ⟨[.ptr 0 0,.val (.slice none 0 0)],137,true⟩:=by
   simp only [bdM,bdY,SX.look] at hb
   split at hb
   ·rename_i e; cases hb; exact ⟨((beq_iff _ _).1 e).symm,rfl⟩
   ·cases hb
  obtain ⟨rfl,rfl⟩:=hb0
  refine ⟨Nat.zero_lt_succ 0,hw,fun x hx=>?_⟩
  rcases List.mem_cons.1 hx with rfl | hx
  ·exact Nat.zero_lt_succ 0
  ·rcases List.mem_cons.1 hx with rfl | hx
   ·trivial
   ·cases hx
 ·intro b hb
  have : b = 0:=by have : b < 1:=hb; omega
  subst this
  simp [World.setCell]; exact hlt
 ·intro r R hR; cases hR
 ·intro r r' R R' hR; cases hR
 ·intro p hp; cases hp
 ·have : b = 0:=by have : b < 1:=hb; omega
  subst this
  exact ⟨_,rfl⟩
 ·simp [World.setCell]
 ·intro k hk hn
  have hne : ρ 0 ≠ k:=fun e=>hn (.inl ⟨0,_,rfl,rfl,e⟩)
  simp [World.setCell,Array.getElem?_modify,hne]
 ·have : b = 0:=by have : b < 1:=hb; omega
  subst this
  exact ⟨_,rfl,rfl⟩
theorem wbyte_new (b : UInt8) : CallsK Tryz.prog 256 [.one (.ptr 0 0),.one (.int .u8 b.toNat)] bdN (fun _ : Option Addr × Nat=>True)
  (fun _=>.v (.one (.val .nilIface))) (fun x=>bdF [b] x.1 x.2):=by
 refine CallsK.mk true Tryz.func256 kq kq (fun ρ w=>?_)
 refine V.q ?_
 refine V.callK [] cc_new kq kq kq (fun _=>kq) (fun _ _=>?_)
 refine V.nilB bsv 0 0 1 ⟨[.ptr 0 0,.val (.slice none 0 0)],137,true⟩ 5 1 kq rfl ?_
 refine V.q ?_
 refine V.push bsv 0 [] b 0 none 0 5 1 [.int .u8 b.toNat] 1 kq (by decide) rfl (fun _ _=>kq) (fun q' cap'=>?_)
 refine V.q ?_
 exact V.retK (q',cap') [] kq kq kq trivial
theorem wstr_used (l : List UInt8) (q : Option Addr) (cap : Nat) (t : List UInt8) (hl : l.length + t.length < 140737488355328) : CallsK Tryz.prog 75 [.one (.ptr 0 0),.one (.str t)] (bdF l q cap) (fun _ : Option Addr × Nat=>True)
  (fun _=>.tup [.one (.int .i64 t.length),.one (.val .nilIface)]) (fun x=>bdF (l ++ t) x.1 x.2):=by
 refine CallsK.mk true Tryz.func75 kq kq (fun ρ w=>?_)
 refine V.q ?_
 refine V.callK [] (cc_used l q cap) kq kq kq (fun _=>kq) (fun _ _=>?_)
 refine V.q ?_
 refine V.pushes bsv 0 l t 1 q cap 5 1 t.length (fun j=>[.int .u8 ((t.getD j 0).toNat : Int)]) 1 kq rfl (by omega) (fun _ _=>rfl) (fun _ _=>kq) (fun q' cap'=>?_)
 refine V.q ?_
 exact V.retK (q',cap') [] kq kq kq trivial
theorem wstr_new (t : List UInt8) (hl : t.length < 140737488355328) : CallsK Tryz.prog 75 [.one (.ptr 0 0),.one (.str t)] bdN (fun _ : Option Addr × Nat=>True)
  (fun _=>.tup [.one (.int .i64 t.length),.one (.val .nilIface)]) (fun x=>bdF t x.1 x.2):=by
 refine CallsK.mk true Tryz.func75 kq kq (fun ρ w=>?_)
 refine V.q ?_
 refine V.callK [] cc_new kq kq kq (fun _=>kq) (fun _ _=>?_)
 refine V.nilB bsv 0 0 1 ⟨[.ptr 0 0,.val (.slice none 0 0)],137,true⟩ 5 1 kq rfl ?_
 refine V.q ?_
 refine V.pushes bsv 0 [] t 0 none 0 5 1 t.length (fun j=>[.int .u8 ((t.getD j 0).toNat : Int)]) 1 kq rfl (by simp; omega) (fun _ _=>rfl) (fun _ _=>kq) (fun q' cap'=>?_)
 refine V.q ?_
 exact V.retK (q',cap') [] kq kq kq trivial
theorem bdY_sat {ρ : Nat → Nat} {w : World} {x y : SV} (hx : x.wf (bdY x y).W) (hy : y.wf (bdY x y).W) (h : w.heap[ρ 0]? = some (.cells #[x.den ρ,y.den ρ] 137 (0,0))) : FSat ρ (bdY x y) w:=by
 have h0 : ∀ b,b < (bdY x y).next → b = 0:=fun b hb=>by have : b < 1:=hb; omega
 refine ⟨?_,fun b c hb hc _=>by rw [h0 b hb,h0 c hc],fun b hb=>by rw [h0 b hb]; exact (Array.getElem?_eq_some_iff.1 h).1,fun r R hR=>(by cases hR),fun r r' R R' hR=>(by cases hR),fun p hp=>(by cases hp)⟩
 intro b blk hb
 have hb0 : b = 0 ∧ blk = ⟨[x,y],137,true⟩:=by
  simp only [bdY,SX.look] at hb
  split at hb
  ·rename_i e; cases hb; exact ⟨((beq_iff _ _).1 e).symm,rfl⟩
  ·cases hb
 obtain ⟨rfl,rfl⟩:=hb0
 refine ⟨Nat.zero_lt_succ 0,h,fun z hz=>?_⟩
 rcases List.mem_cons.1 hz with rfl | hz
 ·exact hx
 ·rcases List.mem_cons.1 hz with rfl | hz
  ·exact hy
  ·cases hz
theorem bstr_used (l : List UInt8) (q : Option Addr) (cap : Nat) (hl : l.length ≤ 140737488355328) : CallsK Tryz.prog 76 [.one (.ptr 0 0)] (bdF l q cap) (fun _ : Unit=>True) (fun _=>.v (.one (.str l)))
  (fun _=>bdY (.ptr 0 0) (.val (.slice q l.length cap))):=by
 intro ρ w hF
 obtain ⟨_,h2,_⟩:=hF.heap 0 _ rfl
 have h2' : w.heap[ρ 0]? = some (.cells #[.pointer (some ⟨ρ 0,0,none⟩),.slice q l.length cap] 137 (0,0)):=h2
 obtain ⟨_,hok,hus⟩:=hF.rows 0 _ rfl
 have hend : ∀ w',Chg (touch ρ (bdF l q cap)) w w' → w'.heap[ρ 0]? = w.heap[ρ 0]? → GivesK ρ (bdF l q cap) (fun _ : Unit=>True) (fun _=>.v (.one (.str l))) (fun _=>bdY (.ptr 0 0) (.val (.slice q l.length cap))) w (.returned (.string ⟨l.toArray⟩)) w':=by
  intro w' hc h0
  refine ⟨(),ρ,trivial,rfl,fun _ _=>rfl,Nat.le_refl _,fun b h1 h2=>absurd (Nat.lt_of_le_of_lt h1 h2) (Nat.lt_irrefl _),bdY_sat (Nat.zero_lt_succ 0) trivial (h0.trans h2'),fun b hb=>?_,trivial,hc,fun b blk hb h1 h2=>?_,fun r R hR=>(by cases hR),fun p hp=>(by cases hp)⟩
  ·have : b = 0:=by have : b < 1:=hb; omega
   subst this; exact ⟨_,rfl⟩
  ·have : b = 0:=by have : b < 1:=hb; omega
   subst this; exact ⟨_,rfl,rfl⟩
 have hdrew : ∀ S,Chg S w w.drew:=fun S=>⟨rfl,rfl,rfl,Nat.le_refl _,fun _ _ _=>rfl⟩
 have hown:=hok.own rfl rfl
 rcases hown with ⟨_,⟨hv,hn⟩ | ⟨g,cap',cur,hv,_,hg,hcap,_,hsz,_⟩⟩
 ·simp only [rowL] at hv hn
  injection hv with e1 e2 e3
  subst e1 e3
  have hl0 : l = []:=List.length_eq_zero_iff.1 hn
  subst hl0
  refine (bldString_nil (ρ 0) _ w h2').mono ?_
  rintro e w' ⟨rfl,rfl⟩
  exact hend _ (hdrew _) rfl
 ·simp only [rowL] at hv hcap hsz
  injection hv with e1 e2 e3
  subst e1 e3
  have hgne : ρ 0 ≠ g:=(hus g ⟨_,rfl,rfl,.inl rfl⟩).2 0 (Nat.zero_lt_succ 0)
  have htg : touch ρ (bdF l (some ⟨g,0,none⟩) cap) g:=.inr ⟨0,_,rfl,rfl,⟨_,rfl,rfl,.inl rfl⟩⟩
  by_cases hl0 : l = []
  ·subst hl0
   by_cases hc0 : cap = 0
   ·subst hc0
    refine (bldString_noroom (ρ 0) g _ cur w h2' hg).mono ?_
    rintro e w' ⟨rfl,rfl⟩
    exact hend _ ((hdrew _).trans (Chg.alloc _ _ _) (fun _ h=>.inr h)) (Lib.alloc_old w.drew _ _ (hF.lt 0 (Nat.zero_lt_succ 0)))
   ·refine (bldString_room (ρ 0) g cap _ w hc0 h2').mono ?_
    rintro e w' ⟨rfl,rfl⟩
    exact hend _ (hdrew _) rfl
  ·have hsz' : cur.size = cap:=by simpa using hsz
   refine (bldString (ρ 0) g cap _ cur l w hl0 h2' hg (by omega) hcap hl (fun j x hx=>?_)).mono ?_
   ·have hj : j < l.length:=(List.getElem?_eq_some_iff.1 hx).1
    obtain ⟨b,off,hs,hcell⟩:=hok.addr (by show 0 < l.length; omega)
    have hs' : (some ⟨g,0,none⟩ : Option Addr) = some ⟨b,off,none⟩:=hs
    cases hs'
    have:=hcell j 0 (.int .u8 (x.toNat : Int)) hj (by simp [rowL,bsv,List.getD,hx])
    simpa [rowL,SV.den0,SV.den] using this
   ·rintro e w' ⟨rfl,rfl⟩
    refine hend _ ⟨?_,?_,?_,?_,fun k hk hn=>?_⟩ ?_
    ·unfold World.freeze; split <;> rfl
    ·unfold World.freeze; split <;> rfl
    ·unfold World.freeze; split <;> rfl
    ·unfold World.freeze; split <;> simp
    ·have hne : g ≠ k:=fun e=>hn (e ▸ htg)
     unfold World.freeze
     split
     ·rfl
     ·simp [Array.getElem?_modify,hne]; rfl
    ·unfold World.freeze
     split
     ·rfl
     ·simp [Array.getElem?_modify,Ne.symm hgne]; rfl
theorem bstr_new : CallsK Tryz.prog 76 [.one (.ptr 0 0)] bdN (fun _ : Unit=>True) (fun _=>.v (.one (.str []))) (fun _=>bdN):=by
 intro ρ w hF
 obtain ⟨_,h2,_⟩:=hF.heap 0 _ rfl
 refine (bldString_nil (ρ 0) _ w h2).mono ?_
 rintro e w' ⟨rfl,rfl⟩
 refine ⟨(),ρ,trivial,rfl,fun _ _=>rfl,Nat.le_refl _,fun b h1 h2=>absurd (Nat.lt_of_le_of_lt h1 h2) (Nat.lt_irrefl _),bdY_sat trivial trivial h2,fun b hb=>?_,trivial,⟨rfl,rfl,rfl,Nat.le_refl _,fun _ _ _=>rfl⟩,fun b blk hb h1 h2=>?_,fun r R hR=>(by cases hR),fun p hp=>(by cases hp)⟩
 ·have : b = 0:=by have : b < 1:=hb; omega
  subst this; exact ⟨_,rfl⟩
 ·have : b = 0:=by have : b < 1:=hb; omega
  subst this; exact ⟨_,rfl,rfl⟩
end Go.Proofs
end
section
namespace Go.Proofs
open Go Go.SX
set_option maxRecDepth 10000
def groups : Nat → Nat → List UInt8
 | 0,z=>[UInt8.ofNat z]
 | k + 1,z=>if z < 128 then [UInt8.ofNat z] else UInt8.ofNat (z % 128 + 128) :: groups k (z / 128)
def zz (n : Int) : Nat:=(if 0 ≤ n then 2 * n else -2 * n - 1).toNat
theorem groups_step {k z : Nat} (h : ¬ z < 128) : groups (k + 1) z = UInt8.ofNat (z % 128 + 128) :: groups k (z / 128):=by simp [groups,h]
theorem groups_last {k z : Nat} (h : z < 128) : groups k z = [UInt8.ofNat z]:=by cases k <;> simp [groups,h]
structure WSt where
 bs : List UInt8
 q : Option Addr
 c : Nat
 rs : List (Int × Int)
 q2 : Option Addr
 c2 : Nat
def rlv (x : Int × Int) : List SV:=[.int .i64 x.1,.int .i64 x.2]
def wrF (ps : List Pers) (b : WSt) : St :=
 { n:=0,slots:=[],gs:=[],heap:=[(0,⟨[.row 0 b.q b.bs.length b.c,.row 1 b.q2 b.rs.length b.c2],99,true⟩)],next:=1,rows:=[(0,rowL bsv 0 b.bs b.q b.c 5 1 true),(1,rowL rlv (0,0) b.rs b.q2 b.c2 62 2 true)],nr:=2,pers:=ps,wr:=false }
structure WNumI where
 b : WSt
 z : Nat
 k : Nat
def wnumSt (i : WNumI) : St:={ n:=35,slots:=[(0,.v (.one (.ptr 0 0))),(4,.v (.one (.int .u64 (i.z : Int))))],gs:=[],heap:=(wrF [] i.b).heap,next:=1,rows:=(wrF [] i.b).rows,nr:=2,pers:=[],wr:=true,fx:=1 }
def w0 : WSt:=⟨[],none,0,[],none,0⟩
noncomputable def wnumT : List Item:=(SX.iter (let c:=(runs Tryz.prog 100 ⟨[.code (bodyOf Tryz.f54)],stF 35 [.one (.ptr 0 0),.one (.int .i64 0)] (wrF [] w0) true⟩).1; runs Tryz.prog 100 (afterD c c.st (.v (.one (.int .u64 0))))).1).todo
def wnumPre (n : Int) (b : WSt) (i : WNumI) : Prop:=i.b.bs ++ groups i.k i.z = b.bs ++ groups 9 (zz n) ∧ i.z < 128 ^ (i.k + 1) ∧ i.k ≤ 9 ∧ i.b.rs = b.rs ∧ i.b.bs.length + i.k ≤ b.bs.length + 9
def WrR (ps : List Pers) (b : WSt) (o : List UInt8) (r : List (Int × Int)) (ρ : Nat → Nat) (w : World) : Ending → World → Prop :=
 GivesF ρ (wrF ps b) (fun b' : WSt=>b'.bs = b.bs ++ o ∧ b'.rs = b.rs ++ r) (fun _=>.tup []) (wrF []) w
set_option maxHeartbeats 1000000 in
theorem wnum_loop (n : Int) (b : WSt) (hb : b.bs.length ≤ 1000000000) (ρ : Nat → Nat) (w : World) (i : WNumI) (hi : wnumPre n b i) : V ⟨Tryz.prog,54,WrR [] b (groups 9 (zz n)) [] ρ w,touch ρ (wrF [] b),w,ρ,none⟩ ⟨wnumT,wnumSt i⟩:=by
 refine V.loop (fun i : WNumI=>i.k) wnumSt (wnumPre n b) (fun i hi ih=>?_) i hi
 obtain ⟨⟨bs,q,cap,rs,q2,c2⟩,z,k⟩:=i
 obtain ⟨e1,e2,e3,e4,e7⟩:=hi
 simp only at e1 e2 e3 e4 e7
 subst e4
 refine V.u ?_
 refine V.branch 8 (decide ((z : Int) ≥ 128)) kq (fun hb'=>?_) (fun hb'=>?_)
 ·have hz : ¬ z < 128:=by simp at hb'; omega
  cases k with
  | zero=>simp at e2; omega
  | succ k =>
   refine V.run 100 [(128 : Int) ≠ 0] kq (by simp [allP]) ?_
   refine V.push bsv 0 bs (UInt8.ofNat (z % 128 + 128)) 0 q cap 5 1 [.int .u8 (IntKind.u8.wrap (IntKind.u8.wrap ((z : Int).tmod 128) + 128))] 1 kq (by omega) ?_ (fun _ _=>kq) (fun q' cap'=>?_)
   ·have : (z : Int).tmod 128 = ((z % 128 : Nat) : Int):=rfl
    rw [this]
    simp [bsv,IntKind.wrap,IntKind.bits,IntKind.signed]
   ·refine V.run 100 [(128 : Int) ≠ 0] kq (by simp [allP]) ?_
    have hd : IntKind.u64.wrap ((z : Int).tdiv 128) = ((z / 128 : Nat) : Int):=by
     have : (z : Int).tdiv 128 = ((z / 128 : Nat) : Int):=rfl
     rw [this]
     simp [IntKind.wrap,IntKind.bits,IntKind.signed]
     have : z < 128 ^ 10:=Nat.lt_of_lt_of_le e2 (Nat.pow_le_pow_right (by omega) (by omega))
     omega
    have p1 : (bs ++ [UInt8.ofNat (z % 128 + 128)]) ++ groups k (z / 128) = b.bs ++ groups 9 (zz n):=by rw [← e1,groups_step hz]; simp
    have p2 : z / 128 < 128 ^ (k + 1):=by
     rw [Nat.div_lt_iff_lt_mul (by decide),← Nat.pow_succ]; exact e2
    have key:=ih ⟨⟨bs ++ [UInt8.ofNat (z % 128 + 128)],q',cap',b.rs,q2,c2⟩,z / 128,k⟩ ⟨p1,p2,by simp only; omega,rfl,by simp only [List.length_append,List.length_singleton]; omega⟩ (Nat.lt_succ_self k)
    unfold wnumSt at key
    simp only [← hd] at key
    exact V.again [0,4] [0] [2,1] [] key kq kq
 ·have hz : z < 128:=by simp at hb'; omega
  refine V.u ?_
  refine V.push bsv 0 bs (UInt8.ofNat z) 0 q cap 5 1 [.int .u8 (IntKind.u8.wrap (z : Int))] 1 kq (by omega) ?_ (fun _ _=>kq) (fun q' cap'=>?_)
  ·simp [bsv,IntKind.wrap,IntKind.bits,IntKind.signed]
  ·refine V.u ?_
   refine V.retF (⟨bs ++ [UInt8.ofNat z],q',cap',b.rs,q2,c2⟩ : WSt) [2,1] (.tup []) kq kq kq kq kq kq kq ?_
   ·exact ⟨by rw [← e1,groups_last hz],by simp⟩
theorem zz_lt {n : Int} (h1 : -2147483648 ≤ n) (h2 : n ≤ 2147483647) : zz n < 4294967296:=by unfold zz; split <;> omega
theorem zigzag_calls (n : Int) (w : World) (h1 : -2147483648 ≤ n) (h2 : n ≤ 2147483647) : Calls Tryz.prog 89 #[.int .i64 n] w (Gives (.int .u64 (zz n)) w):=by
 refine Calls.of_plain [.one (.int .i64 n)] true Tryz.func89 kq kq (by simp [CV.wf,SV.wf]) ?_
 refine V.u ?_
 refine V.branch 4 (decide (n ≥ 0)) kq (fun hb=>?_) (fun hb=>?_)
 ·have hb' : 0 ≤ n:=by simpa using hb
  refine V.u ?_
  refine V.ret (.v (.one (.int .u64 (IntKind.u64.wrap (IntKind.u64.wrap n * 2))))) kq kq ?_
  intro ρ a w hS
  have : IntKind.u64.wrap (IntKind.u64.wrap n * 2) = zz n:=by simp [IntKind.wrap,IntKind.bits,IntKind.signed,zz,hb']; omega
  rw [this]
  exact ⟨rfl,hS.chg⟩
 ·have hb' : ¬ 0 ≤ n:=by simpa using hb
  refine V.u ?_
  refine V.ret (.v (.one (.int .u64 (IntKind.u64.wrap (IntKind.u64.wrap (IntKind.u64.wrap (IntKind.i64.wrap (0 - n)) * 2) - 1))))) kq kq ?_
  intro ρ a w hS
  have : IntKind.u64.wrap (IntKind.u64.wrap (IntKind.u64.wrap (IntKind.i64.wrap (0 - n)) * 2) - 1) = zz n:=by simp [IntKind.wrap,IntKind.bits,IntKind.signed,zz,hb']; omega
  rw [this]
  exact ⟨rfl,hS.chg⟩
set_option maxHeartbeats 1000000 in
theorem wnumber (n : Int) (b : WSt) (h1 : -2147483648 ≤ n) (h2 : n ≤ 2147483647) (hb : b.bs.length ≤ 1000000000) (ρ : Nat → Nat) (w : World) (hF : FSat ρ (wrF [] b) w) :
  Calls Tryz.prog 54 (([.one (.ptr 0 0),.one (.int .i64 n)] : List CV).map (CV.den ρ)).toArray w (WrR [] b (groups 9 (zz n)) [] ρ w):=by
 have hz:=zz_lt h1 h2
 have key:=wnum_loop n b hb ρ w ⟨b,zz n,9⟩ ⟨rfl,by simp only; omega,by simp,rfl,by simp⟩
 unfold wnumSt at key
 refine Calls.of_F hF [.one (.ptr 0 0),.one (.int .i64 n)] true Tryz.func54 kq kq (by simp [CV.wf,SV.wf,wrF,St.W]) ?_
 refine V.u ?_
 refine V.callP 89 [.one (.int .i64 n)] (.v (.one (.int .u64 (zz n)))) kq kq (fun _ _ w _=>zigzag_calls n w h1 h2) ?_
 refine V.u ?_
 exact V.again [0,4] [0] [0,1] [] key kq kq
def bitB (v : Bool) : UInt8:=match v with
 | true=>1
 | false=>0
set_option maxHeartbeats 1000000 in
theorem wflag (v : Bool) (b : WSt) (hb : b.bs.length ≤ 1000000000) (ρ : Nat → Nat) (w : World) (hF : FSat ρ (wrF [] b) w) :
  Calls Tryz.prog 206 (([.one (.ptr 0 0),.one (.sb v)] : List CV).map (CV.den ρ)).toArray w (WrR [] b [bitB v] [] ρ w):=by
 obtain ⟨bs,q,cap,rs,q2,c2⟩:=b
 refine Calls.of_F hF [.one (.ptr 0 0),.one (.sb v)] true Tryz.func206 kq kq (by simp [CV.wf,SV.wf,wrF,St.W]) ?_
 refine V.u ?_
 refine V.branch 5 v kq (fun hv=>?_) (fun hv=>?_)
 ·subst hv
  refine V.u ?_
  refine V.push bsv 0 bs 1 0 q cap 5 1 [.int .u8 1] 1 kq (by simp only at hb; omega) kq (fun _ _=>kq) (fun q' cap'=>?_)
  refine V.u ?_
  exact V.retF (⟨bs ++ [1],q',cap',rs,q2,c2⟩ : WSt) [2,1] (.tup []) kq kq kq kq kq kq kq ⟨rfl,by simp⟩
 ·subst hv
  refine V.u ?_
  refine V.push bsv 0 bs 0 0 q cap 5 1 [.int .u8 0] 1 kq (by simp only at hb; omega) kq (fun _ _=>kq) (fun q' cap'=>?_)
  refine V.u ?_
  exact V.retF (⟨bs ++ [0],q',cap',rs,q2,c2⟩ : WSt) [2,1] (.tup []) kq kq kq kq kq kq kq ⟨rfl,by simp⟩
theorem groups_len : ∀ (k z : Nat),(groups k z).length ≤ k + 1
 | 0,z=>by simp [groups]
 | k + 1,z=>by
  unfold groups
  split
  ·simp
  ·have:=groups_len k (z / 128)
   simp only [List.length_cons]
   omega
set_option maxHeartbeats 1000000 in
theorem wstr (l : List UInt8) (b : WSt) (hl : l.length ≤ 1000000000) (hb : b.bs.length ≤ 900000000) (ρ : Nat → Nat) (w : World) (hF : FSat ρ (wrF [] b) w) :
  Calls Tryz.prog 180 (([.one (.ptr 0 0),.one (.str l)] : List CV).map (CV.den ρ)).toArray w (WrR [] b (groups 9 (zz l.length) ++ l) [] ρ w):=by
 refine Calls.of_F hF [.one (.ptr 0 0),.one (.str l)] true Tryz.func180 kq kq (by simp [CV.wf,SV.wf,wrF,St.W]) ?_
 refine V.u ?_
 refine V.callW 54 [.one (.ptr 0 0),.one (.int .i64 l.length)] [.one (.ptr 0 0),.one (.int .i64 l.length)] [0] [0,1] [] (wrF [] b) _ _ _ kq kq kq (fun _=>rfl) (fun _=>kq)
  (fun ρ w hF=>wnumber l.length b (by omega) (by omega) (by omega) ρ w hF) ?_
 rintro ⟨bs,q,cap,rs,q2,c2⟩ ⟨rfl,rfl⟩
 refine V.u ?_
 refine V.pushes bsv 0 (b.bs ++ groups 9 (zz l.length)) l 2 q cap 5 1 l.length (fun j=>[.int .u8 ((l.getD j 0).toNat : Int)]) 1 kq rfl ?_ (fun _ _=>rfl) (fun _ _=>kq) (fun q' cap'=>?_)
 ·have:=groups_len 9 (zz l.length)
  simp only [List.length_append]
  omega
 refine V.u ?_
 exact V.retF (⟨(b.bs ++ groups 9 (zz l.length)) ++ l,q',cap',b.rs ++ [],q2,c2⟩ : WSt) [4,3] (.tup []) kq kq kq kq kq kq kq ⟨by simp,by simp⟩
structure Ty where
 k : Int
 p : Int
 q : Int
 v : Bool
 s : List UInt8
def Ty.cells (t : Ty) : List SV:=[.int .i64 t.k,.int .i64 t.p,.int .i64 t.q,.sb t.v,.str t.s]
def num32 (n : Int) : Prop:=-2147483648 ≤ n ∧ n ≤ 2147483647
def encN (n : Int) : List UInt8:=groups 9 (zz n)
def encS (l : List UInt8) : List UInt8:=encN l.length ++ l
def encTy (t : Ty) : List UInt8:=encN t.k ++ (encN t.p ++ (encN t.q ++ ([bitB t.v] ++ encS t.s)))
set_option maxHeartbeats 2000000 in
theorem wtyp (t : Ty) (b : WSt) (h1 : num32 t.k) (h2 : num32 t.p) (h3 : num32 t.q) (hl : t.s.length ≤ 50000000) (hb : b.bs.length ≤ 800000000) (ρ : Nat → Nat) (w : World) (hF : FSat ρ (wrF [] b) w) :
  Calls Tryz.prog 170 (([.one (.ptr 0 0),.agg t.cells] : List CV).map (CV.den ρ)).toArray w (WrR [] b (encTy t) [] ρ w):=by
 obtain ⟨k,p,q,v,s⟩:=t
 refine Calls.of_F hF [.one (.ptr 0 0),.agg [.int .i64 k,.int .i64 p,.int .i64 q,.sb v,.str s]] true Tryz.func170 kq kq (by simp [CV.wf,SV.wf,wrF,St.W]) ?_
 refine V.u ?_
 refine V.callW 54 [.one (.ptr 0 0),.one (.int .i64 k)] [.one (.ptr 0 0),.one (.int .i64 k)] [0] [0,1] [] (wrF [] b) _ _ _ kq kq kq (fun _=>rfl) (fun _=>kq) (fun ρ w hF=>wnumber _ b h1.1 h1.2 (by omega) ρ w hF) ?_
 intro b1 e1
 have l1 : b1.bs.length ≤ b.bs.length + (10):=by rw [e1.1]; have:=groups_len 9 (zz (k)); simp only [List.length_append]; omega
 refine V.u ?_
 refine V.callW 54 [.one (.ptr 0 0),.one (.int .i64 p)] [.one (.ptr 0 0),.one (.int .i64 p)] [0] [2,3] [] (wrF [] b1) _ _ _ kq kq kq (fun _=>rfl) (fun _=>kq) (fun ρ w hF=>wnumber _ b1 h2.1 h2.2 (by omega) ρ w hF) ?_
 intro b2 e2
 have l2 : b2.bs.length ≤ b1.bs.length + (10):=by rw [e2.1]; have:=groups_len 9 (zz (p)); simp only [List.length_append]; omega
 refine V.u ?_
 refine V.callW 54 [.one (.ptr 0 0),.one (.int .i64 q)] [.one (.ptr 0 0),.one (.int .i64 q)] [0] [4,5] [] (wrF [] b2) _ _ _ kq kq kq (fun _=>rfl) (fun _=>kq) (fun ρ w hF=>wnumber _ b2 h3.1 h3.2 (by omega) ρ w hF) ?_
 intro b3 e3
 have l3 : b3.bs.length ≤ b2.bs.length + (10):=by rw [e3.1]; have:=groups_len 9 (zz (q)); simp only [List.length_append]; omega
 refine V.u ?_
 refine V.callW 206 [.one (.ptr 0 0),.one (.sb v)] [.one (.ptr 0 0),.one (.sb v)] [0] [6,7] [] (wrF [] b3) _ _ _ kq kq kq (fun _=>rfl) (fun _=>kq) (fun ρ w hF=>wflag _ b3 (by omega) ρ w hF) ?_
 intro b4 e4
 have l4 : b4.bs.length ≤ b3.bs.length + (1):=by rw [e4.1]; skip; simp only [List.length_append,List.length_singleton]; omega
 refine V.u ?_
 refine V.callW 180 [.one (.ptr 0 0),.one (.str s)] [.one (.ptr 0 0),.one (.str s)] [0] [8,9] [] (wrF [] b4) _ _ _ kq kq kq (fun _=>rfl) (fun _=>kq) (fun ρ w hF=>wstr _ b4 (by simp only at hl; omega) (by omega) ρ w hF) ?_
 intro b5 e5
 have l5 : b5.bs.length ≤ b4.bs.length + (10 + (s).length):=by rw [e5.1]; have:=groups_len 9 (zz (s).length); simp only [List.length_append]; omega
 refine V.u ?_
 refine V.retF (⟨b5.bs,b5.q,b5.c,b5.rs,b5.q2,b5.c2⟩ : WSt) [10,11] (.tup []) kq kq kq kq kq kq kq ⟨?_,?_⟩
 ·simp only [e5.1,e4.1,e3.1,e2.1,e1.1,encN,encS,encTy,List.append_assoc]
 ·simp only [e5.2,e4.2,e3.2,e2.2,e1.2,List.append_nil]
def byteAt (n : Int) (s : Nat) : UInt8:=UInt8.ofNat ((n / (2 ^ s)) % 256).toNat
def fourB (n : Int) : List UInt8:=[byteAt n 24,byteAt n 16,byteAt n 8,byteAt n 0]
theorem byteAt_ok (n : Int) (s : Nat) : bsv (byteAt n s) = [.int .u8 (IntKind.u8.wrap (n.fdiv (2 ^ s)))]:=by
 have h2 : (0 : Int) ≤ 2 ^ s:=by have : (0 : Int) < 2 ^ s:=Int.pow_pos (by omega); omega
 rw [Int.fdiv_eq_ediv_of_nonneg _ h2]
 simp only [bsv,byteAt,IntKind.wrap,IntKind.bits,IntKind.signed]
 have h0:=Int.emod_nonneg (n / 2 ^ s) (show (256 : Int) ≠ 0 by omega)
 have h1:=Int.emod_lt_of_pos (n / 2 ^ s) (show (0 : Int) < 256 by omega)
 simp
 omega
set_option maxHeartbeats 2000000 in
theorem wfour (n : Int) (b : WSt) (hb : b.bs.length ≤ 900000000) (ρ : Nat → Nat) (w : World) (hF : FSat ρ (wrF [] b) w) :
  Calls Tryz.prog 214 (([.one (.ptr 0 0),.one (.int .i64 n)] : List CV).map (CV.den ρ)).toArray w (WrR [] b (fourB n) [] ρ w):=by
 obtain ⟨bs,q,cap,rs,q2,c2⟩:=b
 simp only at hb
 refine Calls.of_F hF [.one (.ptr 0 0),.one (.int .i64 n)] true Tryz.func214 kq kq (by simp [CV.wf,SV.wf,wrF,St.W]) ?_
 refine V.u ?_
 refine V.iter ?_
 refine V.u ?_
 refine V.known 6 (decide ((3 : Int) ≥ 0)) true kq rfl ?_
 refine V.u ?_
 refine V.drawPush bsv 0 (bs) (byteAt n 24) 0 14 q cap 5 1 [.int .u8 (IntKind.u8.wrap (n.fdiv (2 ^ 24)))] 1 [(0 : Int) ≤ 24] kq (by simp [allP]) kq (by simp; omega) (byteAt_ok n 24) (fun _ _=>kq) (fun q1 c1'=>?_)
 refine V.u ?_
 refine V.iter ?_
 refine V.u ?_
 refine V.known 6 (decide ((2 : Int) ≥ 0)) true kq rfl ?_
 refine V.u ?_
 refine V.drawPush bsv 0 ((bs) ++ [byteAt n 24]) (byteAt n 16) 2 14 q1 c1' 5 1 [.int .u8 (IntKind.u8.wrap (n.fdiv (2 ^ 16)))] 1 [(0 : Int) ≤ 16] kq (by simp [allP]) kq (by simp; omega) (byteAt_ok n 16) (fun _ _=>kq) (fun qb cb'=>?_)
 refine V.u ?_
 refine V.iter ?_
 refine V.u ?_
 refine V.known 6 (decide ((1 : Int) ≥ 0)) true kq rfl ?_
 refine V.u ?_
 refine V.drawPush bsv 0 (((bs) ++ [byteAt n 24]) ++ [byteAt n 16]) (byteAt n 8) 3 14 qb cb' 5 1 [.int .u8 (IntKind.u8.wrap (n.fdiv (2 ^ 8)))] 1 [(0 : Int) ≤ 8] kq (by simp [allP]) kq (by simp; omega) (byteAt_ok n 8) (fun _ _=>kq) (fun q3 c3'=>?_)
 refine V.u ?_
 refine V.iter ?_
 refine V.u ?_
 refine V.known 6 (decide ((0 : Int) ≥ 0)) true kq rfl ?_
 refine V.u ?_
 refine V.drawPush bsv 0 ((((bs) ++ [byteAt n 24]) ++ [byteAt n 16]) ++ [byteAt n 8]) (byteAt n 0) 4 14 q3 c3' 5 1 [.int .u8 (IntKind.u8.wrap (n.fdiv (2 ^ 0)))] 1 [(0 : Int) ≤ 0] kq (by simp [allP]) kq (by simp; omega) (byteAt_ok n 0) (fun _ _=>kq) (fun q4 c4'=>?_)
 refine V.u ?_
 refine V.iter ?_
 refine V.u ?_
 refine V.known 6 (decide ((-1 : Int) ≥ 0)) false kq rfl ?_
 refine V.u ?_
 exact V.retF (⟨((((bs) ++ [byteAt n 24]) ++ [byteAt n 16]) ++ [byteAt n 8]) ++ [byteAt n 0],q4,c4',rs,q2,c2⟩ : WSt) [5,1] (.tup []) kq kq kq kq kq kq kq ⟨by simp [fourB],by simp⟩
set_option maxHeartbeats 1000000 in
theorem wreloc (n : Int) (b : WSt) (hb : b.rs.length ≤ 900000000) (ρ : Nat → Nat) (w : World) (hF : FSat ρ (wrF [] b) w) :
  Calls Tryz.prog 222 (([.one (.ptr 0 0),.one (.int .i64 n)] : List CV).map (CV.den ρ)).toArray w (WrR [] b [] [((b.bs.length : Nat),n)] ρ w):=by
 obtain ⟨bs,q,cap,rs,q2,c2⟩:=b
 refine Calls.of_F hF [.one (.ptr 0 0),.one (.int .i64 n)] true Tryz.func222 kq kq (by simp [CV.wf,SV.wf,wrF,St.W]) ?_
 refine V.u ?_
 refine V.drawPush rlv (0,0) rs ((bs.length : Int),n) 1 16 q2 c2 62 2 [.int .i64 bs.length,.int .i64 n] 16 [] kq trivial kq (by simp only at hb; omega) rfl (fun _ _=>kq) (fun q' cap'=>?_)
 refine V.u ?_
 exact V.retF (⟨bs,q,cap,rs ++ [((bs.length : Int),n)],q',cap'⟩ : WSt) [0,2] (.tup []) kq kq kq kq kq kq kq ⟨by simp,by simp⟩
structure RSt where
 at_ : Nat
 bad : Bool
structure RIn where
 s : List UInt8
 q : Option Addr
 n : Nat
 c : Nat
def rdF (ps : List Pers) (X : RIn) (r : RSt) : St :=
 { n:=0,slots:=[],gs:=[],heap:=[(0,⟨[.str X.s,.int .i64 (r.at_ : Int),.val (.slice X.q X.n X.c),.sb r.bad],104,true⟩)],next:=1,rows:=[],nr:=0,pers:=ps,wr:=false }
def takeB (X : RIn) (r : RSt) : UInt8 × RSt:=if r.at_ < X.s.length then (X.s.getD r.at_ 0,⟨r.at_ + 1,r.bad⟩) else (0,⟨r.at_,true⟩)
def RdR (ps : List Pers) (X : RIn) (r : RSt) (v : RV) (r' : RSt) (ρ : Nat → Nat) (w : World) : Ending → World → Prop :=
 GivesF ρ (rdF ps X r) (fun x : RSt=>x = r') (fun _=>v) (rdF [] X) w
def okIn (X : RIn) (r : RSt) : Prop:=X.s.length ≤ 1000000000 ∧ r.at_ ≤ X.s.length
set_option maxHeartbeats 1000000 in
theorem rtake (X : RIn) (r : RSt) (h : okIn X r) (ρ : Nat → Nat) (w : World) (hF : FSat ρ (rdF [] X r) w) :
  Calls Tryz.prog 90 (([.one (.ptr 0 0)] : List CV).map (CV.den ρ)).toArray w (RdR [] X r (.v (.one (.int .u8 ((takeB X r).1.toNat : Int)))) (takeB X r).2 ρ w):=by
 obtain ⟨h1,h2⟩:=h
 refine Calls.of_F hF [.one (.ptr 0 0)] false Tryz.func90 kq kq (by simp [CV.wf,SV.wf,rdF,St.W]) ?_
 refine V.u ?_
 refine V.drawR 1000 [] kq trivial ?_
 refine V.u ?_
 refine V.branch 12 (decide ((r.at_ : Int) ≥ (X.s.length : Int))) kq (fun hb=>?_) (fun hb=>?_)
 ·have hb' : ¬ r.at_ < X.s.length:=by simp at hb; omega
  refine V.u ?_
  refine V.soft 0 ?_
  exact V.retF (⟨r.at_,true⟩ : RSt) [] (.v (.one (.int .u8 0))) kq kq (by simp only [takeB,if_neg hb']; kernel_rfl) kq kq kq kq (by simp [takeB,hb'])
 ·have hb' : r.at_ < X.s.length:=by simp at hb; omega
  refine V.run 100 [inK .i64 ((r.at_ : Int) + 1)] kq (by simp [allP,inK]; omega) ?_
  refine V.drawR 1000 [inK .i64 ((r.at_ : Int) + 1 - 1),0 ≤ (r.at_ : Int) + 1 - 1 ∧ (r.at_ : Int) + 1 - 1 < (X.s.length : Int)] kq (by simp [allP,inK]; omega) ?_
  refine V.u ?_
  have hn : ((r.at_ : Int) + 1 - 1).toNat = r.at_:=by omega
  exact V.retF (⟨r.at_ + 1,r.bad⟩ : RSt) [] (.v (.one (.int .u8 ((X.s.getD ((r.at_ : Int) + 1 - 1).toNat 0).toNat : Int)))) kq kq (by rw [hn]; simp only [takeB,if_pos hb']; rfl) kq kq kq kq (by simp [takeB,hb'])
def unzz (z : Nat) : Int:=if z % 2 = 0 then ((z / 2 : Nat) : Int) else -(((z + 1) / 2 : Nat) : Int)
theorem back_calls (z : Nat) (w : World) (h : z < 4611686018427387904) : Calls Tryz.prog 91 #[.int .u64 z] w (Gives (.int .i64 (unzz z)) w):=by
 refine Calls.of_plain [.one (.int .u64 z)] true Tryz.func91 kq kq (by simp [CV.wf,SV.wf]) ?_
 refine V.run 100 [(2 : Int) ≠ 0] kq (by simp [allP]) ?_
 refine V.branch 5 (decide ((z : Int).tmod 2 = 0)) kq (fun hb=>?_) (fun hb=>?_)
 ·have hb' : z % 2 = 0:=by
   have h1 : (z : Int).tmod 2 = ((z % 2 : Nat) : Int):=rfl
   rw [h1] at hb; simp at hb; omega
  refine V.run 100 [(2 : Int) ≠ 0] kq (by simp [allP]) ?_
  refine V.ret (.v (.one (.int .i64 (IntKind.i64.wrap (IntKind.u64.wrap ((z : Int).tdiv 2)))))) kq kq ?_
  intro ρ a w hS
  have h2 : (z : Int).tdiv 2 = ((z / 2 : Nat) : Int):=rfl
  have : IntKind.i64.wrap (IntKind.u64.wrap ((z : Int).tdiv 2)) = unzz z:=by rw [h2]; simp [IntKind.wrap,IntKind.bits,IntKind.signed,unzz,hb']; omega
  rw [this]
  exact ⟨rfl,hS.chg⟩
 ·have hb' : ¬ z % 2 = 0:=by
   have h1 : (z : Int).tmod 2 = ((z % 2 : Nat) : Int):=rfl
   rw [h1] at hb; simp at hb; omega
  refine V.run 100 [(2 : Int) ≠ 0] kq (by simp [allP]) ?_
  refine V.ret (.v (.one (.int .i64 (IntKind.i64.wrap (0 - IntKind.i64.wrap (IntKind.u64.wrap ((IntKind.u64.wrap ((z : Int) + 1)).tdiv 2))))))) kq kq ?_
  intro ρ a w hS
  have h0 : IntKind.u64.wrap ((z : Int) + 1) = ((z + 1 : Nat) : Int):=by simp [IntKind.wrap,IntKind.bits,IntKind.signed]; omega
  have h2 : (((z + 1 : Nat) : Int)).tdiv 2 = (((z + 1) / 2 : Nat) : Int):=rfl
  have : IntKind.i64.wrap (0 - IntKind.i64.wrap (IntKind.u64.wrap ((IntKind.u64.wrap ((z : Int) + 1)).tdiv 2))) = unzz z:=by rw [h0,h2]; simp [IntKind.wrap,IntKind.bits,IntKind.signed,unzz,hb']; omega
  rw [this]
  exact ⟨rfl,hS.chg⟩
def isNum (n : Int) : Bool:=decide (n > -2147483648) && decide (n < 2147483648)
theorem isNumber_calls (n : Int) (w : World) : Calls Tryz.prog 53 #[.int .i64 n] w (Gives (.bool (isNum n)) w):=by
 refine Calls.of_plain [.one (.int .i64 n)] false Tryz.func53 kq kq (by simp [CV.wf,SV.wf]) ?_
 refine V.u ?_
 refine V.ret (.v (.one (.sb (decide (n > -2147483648) && decide (n < 2147483648))))) kq kq ?_
 exact fun ρ a w hS=>⟨rfl,hS.chg⟩
def rdNumL (X : RIn) : Nat → RSt → Nat → Nat → Nat → Int × RSt
 | 0,r,_,_,_=>(0,r)
 | k + 1,r,z,m,n =>
  let b:=(takeB X r).1
  let r':=(takeB X r).2
  let z':=z + b.toNat % 128 * m
  if 128 ≤ b.toNat ∧ n + 1 < 6 then rdNumL X k r' z' (m * 128) (n + 1)
  else if 128 ≤ b.toNat ∨ (1 < n + 1 ∧ b.toNat = 0) ∨ ¬ isNum (unzz z') = true then (0,⟨r'.at_,true⟩) else (unzz z',r')
def rdNum (X : RIn) (r : RSt) : Int × RSt:=rdNumL X 6 r 0 1 0
structure RNI where
 r : RSt
 z : Nat
 m : Nat
 n : Nat
def rnumSt (X : RIn) (i : RNI) : St:={ n:=48,slots:=[(0,.v (.one (.ptr 0 0))),(3,.v (.one (.int .u64 (i.z : Int)))),(4,.v (.one (.int .u64 (i.m : Int)))),(6,.v (.one (.int .i64 (i.n : Int)))),(8,.v (.one (.ptr 0 0)))],gs:=[],heap:=(rdF [] X i.r).heap,next:=1,rows:=[],nr:=0,pers:=[],wr:=false,fx:=1 }
theorem takeB_ok {X : RIn} {r : RSt} (h : okIn X r) : okIn X (takeB X r).2:=by
 unfold takeB
 split
 ·exact ⟨h.1,by simp only; omega⟩
 ·exact h
set_option maxHeartbeats 2000000 in
theorem rnumber (X : RIn) (r : RSt) (h : okIn X r) (ρ : Nat → Nat) (w : World) (hF : FSat ρ (rdF [] X r) w) :
  Calls Tryz.prog 57 (([.one (.ptr 0 0)] : List CV).map (CV.den ρ)).toArray w (RdR [] X r (.v (.one (.int .i64 (rdNum X r).1))) (rdNum X r).2 ρ w):=by
 refine Calls.of_F hF [.one (.ptr 0 0)] false Tryz.func57 kq kq (by simp [CV.wf,SV.wf,rdF,St.W]) ?_
 refine V.u ?_
 refine V.loopTo [0,3,4,6,8] [0] [] [] (fun i : RNI=>6 - i.n) (rnumSt X) (fun i=>okIn X i.r ∧ i.n < 6 ∧ i.m = 128 ^ i.n ∧ i.z < 128 ^ i.n ∧ rdNumL X (6 - i.n) i.r i.z i.m i.n = rdNum X r) ⟨r,0,1,0⟩ kq ⟨h,by simp,by simp,by simp,rfl⟩ (fun i hi ih=>?_)
 obtain ⟨r1,z,m,n⟩:=i
 obtain ⟨g1,g2,g3,g4,g5⟩:=hi
 simp only at g1 g2 g3 g4 g5
 refine V.callW 90 [.one (.ptr 0 0)] [.one (.ptr 0 0)] [0] [] [] (rdF [] X r1) _ _ _ kq kq kq (fun _=>rfl) (fun _=>kq) (fun ρ w hF=>rtake X r1 g1 ρ w hF) ?_
 rintro r2 rfl
 generalize hb : (takeB X r1).1 = b at *
 have hbl:=b.toNat_lt
 have hw : IntKind.u64.wrap ((b.toNat : Int).tmod 128) = ((b.toNat % 128 : Nat) : Int):=by
  have : (b.toNat : Int).tmod 128 = ((b.toNat % 128 : Nat) : Int):=rfl
  rw [this]; simp [IntKind.wrap,IntKind.bits,IntKind.signed]; omega
 have hm : m ≤ 34359738368:=by
  have : m ≤ 128 ^ 5:=g3 ▸ Nat.pow_le_pow_right (by omega) (by omega)
  simpa using this
 have hx : b.toNat % 128 ≤ 127:=by omega
 have hp : b.toNat % 128 * m ≤ 127 * m:=Nat.mul_le_mul_right m hx
 have hzm : z < m:=g3 ▸ g4
 have hz' : ((z + b.toNat % 128 * m : Nat) : Int) = (z : Int) + IntKind.u64.wrap ((b.toNat : Int).tmod 128) * (m : Int):=by rw [hw]; push_cast; rfl
 have hpi : IntKind.u64.wrap ((b.toNat : Int).tmod 128) * (m : Int) = ((b.toNat % 128 * m : Nat) : Int):=by rw [hw]; push_cast; rfl
 refine V.run 100 [(128 : Int) ≠ 0,inK .u64 (IntKind.u64.wrap ((b.toNat : Int).tmod 128) * (m : Int)),inK .u64 ((z : Int) + IntKind.u64.wrap ((b.toNat : Int).tmod 128) * (m : Int)),inK .u64 ((m : Int) * 128),inK .i64 ((n : Int) + 1)] kq ?_ ?_
 ·rw [← hz',hpi]
  simp only [allP,inK]
  omega
 refine V.branch 26 (decide ((b.toNat : Int) ≥ 128) && decide ((n : Int) + 1 < 6)) kq (fun hc=>?_) (fun hc=>?_)
 ·have hc' : 128 ≤ b.toNat ∧ n + 1 < 6:=by simp at hc; omega
  refine V.u ?_
  have e6 : 6 - n = (6 - (n + 1)) + 1:=by omega
  have p1 : rdNumL X (6 - (n + 1)) (takeB X r1).2 (z + b.toNat % 128 * m) (m * 128) (n + 1) = rdNum X r:=by
   rw [← g5,e6]
   simp only [rdNumL,hb,if_pos hc']
  have key:=ih ⟨(takeB X r1).2,z + b.toNat % 128 * m,m * 128,n + 1⟩ ⟨takeB_ok g1,hc'.2,by simp only [g3,Nat.pow_succ],by simp only [Nat.pow_succ,← g3]; omega,p1⟩ (by simp only; omega)
  unfold rnumSt at key
  have hm' : ((m * 128 : Nat) : Int) = (m : Int) * 128:=by push_cast; rfl
  have hn' : ((n + 1 : Nat) : Int) = (n : Int) + 1:=by push_cast; rfl
  simp only [hz',hm',hn'] at key
  exact V.back [0,3,4,6,8] [0] [] [] key kq kq
 ·have hc' : ¬ (128 ≤ b.toNat ∧ n + 1 < 6):=by simp at hc; omega
  refine V.u ?_
  refine V.callP 91 [.one (.int .u64 ((z : Int) + IntKind.u64.wrap ((b.toNat : Int).tmod 128) * (m : Int)))] (.v (.one (.int .i64 (unzz (z + b.toNat % 128 * m))))) kq kq (fun _ _ w _=>by
   have:=back_calls (z + b.toNat % 128 * m) w (by omega)
   rw [hz'] at this; exact this) ?_
  refine V.u ?_
  have hmid : rdNum X r = if 128 ≤ b.toNat ∨ (1 < n + 1 ∧ b.toNat = 0) ∨ ¬ isNum (unzz (z + b.toNat % 128 * m)) = true then (0,⟨(takeB X r1).2.at_,true⟩) else (unzz (z + b.toNat % 128 * m),(takeB X r1).2):=by
   rw [← g5,show 6 - n = (6 - (n + 1)) + 1 by omega]
   simp only [rdNumL,hb,if_neg hc']
  rw [hmid]
  refine V.split 31 (decide ((b.toNat : Int) ≥ 128)) kq (fun h1=>?_) (fun h1=>?_)
  ·have h1' : 128 ≤ b.toNat:=by simp at h1; omega
   refine V.u ?_
   rw [if_pos (.inl h1')]
   refine V.soft 0 ?_
   exact V.retF (⟨(takeB X r1).2.at_,true⟩ : RSt) [] (.v (.one (.int .i64 0))) kq kq kq kq kq kq kq rfl
  ·have h1' : ¬ 128 ≤ b.toNat:=by simp at h1; omega
   refine V.u ?_
   refine V.callPA 39 false (decide ((n : Int) + 1 > 1) && ((b.toNat : Int) == 0)) 53 [.one (.int .i64 (unzz (z + b.toNat % 128 * m)))] (.one (.sb (isNum (unzz (z + b.toNat % 128 * m))))) kq kq (fun _ _ _ w _=>isNumber_calls _ w) ?_
   refine V.u ?_
   refine V.branch 43 ((decide ((n : Int) + 1 > 1) && ((b.toNat : Int) == 0)) || !(isNum (unzz (z + b.toNat % 128 * m)))) kq (fun h2=>?_) (fun h2=>?_)
   ·have h2' : 128 ≤ b.toNat ∨ (1 < n + 1 ∧ b.toNat = 0) ∨ ¬ isNum (unzz (z + b.toNat % 128 * m)) = true:=by
     simp at h2
     rcases h2 with h2 | h2
     ·exact .inr (.inl (by omega))
     ·exact .inr (.inr (by simp [h2]))
    refine V.u ?_
    rw [if_pos h2']
    refine V.soft 0 ?_
    exact V.retF (⟨(takeB X r1).2.at_,true⟩ : RSt) [] (.v (.one (.int .i64 0))) kq kq kq kq kq kq kq rfl
   ·have h2' : ¬ (128 ≤ b.toNat ∨ (1 < n + 1 ∧ b.toNat = 0) ∨ ¬ isNum (unzz (z + b.toNat % 128 * m)) = true):=by
     simp at h2
     intro h3
     rcases h3 with h3 | h3 | h3
     ·exact h1' h3
     ·exact absurd h3.2 (by omega)
     ·exact h3 h2.2
    refine V.u ?_
    rw [if_neg h2']
    exact V.retF (⟨(takeB X r1).2.at_,(takeB X r1).2.bad⟩ : RSt) [] (.v (.one (.int .i64 (unzz (z + b.toNat % 128 * m))))) kq kq kq kq kq kq kq rfl
def rdFlag (X : RIn) (r : RSt) : Bool × RSt:=((takeB X r).1.toNat == 1,⟨(takeB X r).2.at_,(takeB X r).2.bad || decide (1 < (takeB X r).1.toNat)⟩)
set_option maxHeartbeats 1000000 in
theorem rflag (X : RIn) (r : RSt) (h : okIn X r) (ρ : Nat → Nat) (w : World) (hF : FSat ρ (rdF [] X r) w) :
  Calls Tryz.prog 208 (([.one (.ptr 0 0)] : List CV).map (CV.den ρ)).toArray w (RdR [] X r (.v (.one (.sb (rdFlag X r).1))) (rdFlag X r).2 ρ w):=by
 refine Calls.of_F hF [.one (.ptr 0 0)] false Tryz.func208 kq kq (by simp [CV.wf,SV.wf,rdF,St.W]) ?_
 refine V.u ?_
 refine V.callW 90 [.one (.ptr 0 0)] [.one (.ptr 0 0)] [0] [] [] (rdF [] X r) _ _ _ kq kq kq (fun _=>rfl) (fun _=>kq) (fun ρ w hF=>rtake X r h ρ w hF) ?_
 rintro r2 rfl
 refine V.u ?_
 refine V.retF (⟨(takeB X r).2.at_,(takeB X r).2.bad || decide (((takeB X r).1.toNat : Int) > 1)⟩ : RSt) [] (.v (.one (.sb (((takeB X r).1.toNat : Int) == 1)))) kq kq ?_ kq kq kq kq ?_
 ·have : (((takeB X r).1.toNat : Int) == 1) = ((takeB X r).1.toNat == 1):=by rw [Bool.eq_iff_iff]; simp; omega
  rw [this]; rfl
 ·simp only [rdFlag]
  congr 2
  rw [Bool.eq_iff_iff]; simp; omega
theorem isNum_32 {n : Int} (h : isNum n = true) : num32 n:=by simp [isNum] at h; exact ⟨by omega,by omega⟩
theorem rdNumL_ok (X : RIn) : ∀ (k : Nat) (r : RSt) (z m n : Nat),okIn X r → okIn X (rdNumL X k r z m n).2 ∧ isNum (rdNumL X k r z m n).1 = true
 | 0,r,_,_,_,h=>⟨h,rfl⟩
 | k + 1,r,z,m,n,h=>by
  have h1:=takeB_ok h
  simp only [rdNumL]
  split
  ·exact rdNumL_ok X k _ _ _ _ h1
  ·split
   ·exact ⟨h1,rfl⟩
   ·rename_i hn
    refine ⟨h1,?_⟩
    by_cases hh : isNum (unzz (z + (takeB X r).1.toNat % 128 * m)) = true
    ·exact hh
    ·exact absurd (.inr (.inr hh)) hn
theorem rdNum_ok {X : RIn} {r : RSt} (h : okIn X r) : okIn X (rdNum X r).2 ∧ isNum (rdNum X r).1 = true:=rdNumL_ok X 6 r 0 1 0 h
def rdStr (X : RIn) (r : RSt) : List UInt8 × RSt :=
 let n:=(rdNum X r).1
 let r':=(rdNum X r).2
 if n < 0 ∨ 255 < n ∨ (X.s.length : Int) - r'.at_ < n then ([],⟨r'.at_,true⟩) else ((X.s.take (r'.at_ + n.toNat)).drop r'.at_,⟨r'.at_ + n.toNat,r'.bad⟩)
set_option maxHeartbeats 2000000 in
theorem rstr (X : RIn) (r : RSt) (h : okIn X r) (ρ : Nat → Nat) (w : World) (hF : FSat ρ (rdF [] X r) w) :
  Calls Tryz.prog 182 (([.one (.ptr 0 0)] : List CV).map (CV.den ρ)).toArray w (RdR [] X r (.v (.one (.str (rdStr X r).1))) (rdStr X r).2 ρ w):=by
 obtain ⟨g1,g2⟩:=rdNum_ok h
 have g2:=isNum_32 g2
 refine Calls.of_F hF [.one (.ptr 0 0)] false Tryz.func182 kq kq (by simp [CV.wf,SV.wf,rdF,St.W]) ?_
 refine V.u ?_
 refine V.callW 57 [.one (.ptr 0 0)] [.one (.ptr 0 0)] [0] [] [] (rdF [] X r) _ _ _ kq kq kq (fun _=>rfl) (fun _=>kq) (fun ρ w hF=>rnumber X r h ρ w hF) ?_
 rintro r2 rfl
 generalize hn : (rdNum X r).1 = n at *
 refine V.u ?_
 refine V.drawR 1000 [(decide (n < 0) || decide (n > 255)) = false → inK .i64 ((X.s.length : Int) - ((rdNum X r).2.at_ : Int))] kq ?_ ?_
 ·have:=g1.1; have:=g1.2
  simp only [allP,inK]
  exact fun _=>by omega
 refine V.u ?_
 have q1:=g1.1
 have q2:=g1.2
 refine V.branch 25 ((decide (n < 0) || decide (n > 255)) || decide (n > (X.s.length : Int) - ((rdNum X r).2.at_ : Int))) kq (fun hb=>?_) (fun hb=>?_)
 ·have hb' : n < 0 ∨ 255 < n ∨ (X.s.length : Int) - (rdNum X r).2.at_ < n:=by simp at hb; omega
  refine V.u ?_
  refine V.soft 0 ?_
  refine V.retF (⟨(rdNum X r).2.at_,true⟩ : RSt) [] (.v (.one (.str []))) kq kq ?_ kq kq kq kq ?_
  ·simp only [rdStr,hn,if_pos hb']; rfl
  ·simp only [rdStr,hn,if_pos hb']
 ·have hb' : ¬ (n < 0 ∨ 255 < n ∨ (X.s.length : Int) - (rdNum X r).2.at_ < n):=by simp at hb; omega
  have hn0 : n = (n.toNat : Int):=by omega
  refine V.run 100 [inK .i64 (((rdNum X r).2.at_ : Int) + n)] kq (by simp only [allP,inK]; omega) ?_
  refine V.drawR 1000 [inK .i64 (((rdNum X r).2.at_ : Int) + n - n),0 ≤ ((rdNum X r).2.at_ : Int) + n - n ∧ ((rdNum X r).2.at_ : Int) + n - n ≤ ((rdNum X r).2.at_ : Int) + n ∧ ((rdNum X r).2.at_ : Int) + n ≤ (X.s.length : Int)] kq (by simp only [allP,inK]; omega) ?_
  refine V.u ?_
  have e1 : (((rdNum X r).2.at_ + n.toNat : Nat) : Int) = ((rdNum X r).2.at_ : Int) + n:=by omega
  have e2 : (((rdNum X r).2.at_ : Int) + n).toNat = (rdNum X r).2.at_ + n.toNat:=by omega
  have e3 : (((rdNum X r).2.at_ : Int) + n - n).toNat = (rdNum X r).2.at_:=by omega
  refine V.retF (⟨(rdNum X r).2.at_ + n.toNat,(rdNum X r).2.bad⟩ : RSt) [] (.v (.one (.str ((X.s.take (((rdNum X r).2.at_ : Int) + n).toNat).drop (((rdNum X r).2.at_ : Int) + n - n).toNat)))) kq kq ?_ ?_ kq kq kq ?_
  ·simp only [rdStr,hn,if_neg hb',e2,e3]; rfl
  ·simp only [rdF,fragOf,e1]; kernel_rfl
  ·simp only [rdStr,hn,if_neg hb']
def rdTy (X : RIn) (r : RSt) : Ty × RSt :=
 let a:=rdNum X r
 let b:=rdNum X a.2
 let c:=rdNum X b.2
 let d:=rdFlag X c.2
 let e:=rdStr X d.2
 (⟨a.1,b.1,c.1,d.1,e.1⟩,e.2)
theorem rdFlag_ok {X : RIn} {r : RSt} (h : okIn X r) : okIn X (rdFlag X r).2:=takeB_ok h
theorem rdStr_ok {X : RIn} {r : RSt} (h : okIn X r) : okIn X (rdStr X r).2:=by
 obtain ⟨h1,h2⟩:=(rdNum_ok h).1
 unfold rdStr
 simp only
 split
 ·exact ⟨h1,h2⟩
 ·exact ⟨h1,by simp only; omega⟩
set_option maxHeartbeats 2000000 in
theorem rtyp (X : RIn) (r : RSt) (h : okIn X r) (ρ : Nat → Nat) (w : World) (hF : FSat ρ (rdF [] X r) w) :
  Calls Tryz.prog 172 (([.one (.ptr 0 0)] : List CV).map (CV.den ρ)).toArray w (RdR [] X r (.v (.agg (rdTy X r).1.cells)) (rdTy X r).2 ρ w):=by
 have h1:=(rdNum_ok h).1
 have h2:=(rdNum_ok h1).1
 have h3:=(rdNum_ok h2).1
 have h4:=rdFlag_ok h3
 refine Calls.of_F hF [.one (.ptr 0 0)] false Tryz.func172 kq kq (by simp [CV.wf,SV.wf,rdF,St.W]) ?_
 refine V.u ?_
 refine V.callW 57 [.one (.ptr 0 0)] [.one (.ptr 0 0)] [0] [] [] (rdF [] X r) _ _ _ kq kq kq (fun _=>rfl) (fun _=>kq) (fun ρ w hF=>rnumber X r h ρ w hF) ?_
 rintro r1 rfl
 refine V.u ?_
 refine V.callW 57 [.one (.ptr 0 0)] [.one (.ptr 0 0)] [0] [] [] (rdF [] X _) _ _ _ kq kq kq (fun _=>rfl) (fun _=>kq) (fun ρ w hF=>rnumber X _ h1 ρ w hF) ?_
 rintro r1 rfl
 refine V.u ?_
 refine V.callW 57 [.one (.ptr 0 0)] [.one (.ptr 0 0)] [0] [] [] (rdF [] X _) _ _ _ kq kq kq (fun _=>rfl) (fun _=>kq) (fun ρ w hF=>rnumber X _ h2 ρ w hF) ?_
 rintro r1 rfl
 refine V.u ?_
 refine V.callW 208 [.one (.ptr 0 0)] [.one (.ptr 0 0)] [0] [] [] (rdF [] X _) _ _ _ kq kq kq (fun _=>rfl) (fun _=>kq) (fun ρ w hF=>rflag X _ h3 ρ w hF) ?_
 rintro r1 rfl
 refine V.u ?_
 refine V.callW 182 [.one (.ptr 0 0)] [.one (.ptr 0 0)] [0] [] [] (rdF [] X _) _ _ _ kq kq kq (fun _=>rfl) (fun _=>kq) (fun ρ w hF=>rstr X _ h4 ρ w hF) ?_
 rintro r1 rfl
 refine V.u ?_
 refine V.retF (⟨(rdTy X r).2.at_,(rdTy X r).2.bad⟩ : RSt) [] (.v (.agg (rdTy X r).1.cells)) kq kq kq kq kq kq kq rfl
def orB (n b : Int) : Int:=IntKind.i32.wrap ((BitVec.ofInt 32 (IntKind.i32.wrap (n * 2 ^ 8)) ||| BitVec.ofInt 32 (IntKind.i32.wrap b)).toNat : Int)
def rdFour (X : RIn) (r : RSt) : Int × RSt :=
 let a:=takeB X r
 let b:=takeB X a.2
 let c:=takeB X b.2
 let d:=takeB X c.2
 (IntKind.i64.wrap (orB (orB (orB (orB 0 a.1.toNat) b.1.toNat) c.1.toNat) d.1.toNat),d.2)
set_option maxHeartbeats 2000000 in
theorem rfour (X : RIn) (r : RSt) (h : okIn X r) (ρ : Nat → Nat) (w : World) (hF : FSat ρ (rdF [] X r) w) :
  Calls Tryz.prog 216 (([.one (.ptr 0 0)] : List CV).map (CV.den ρ)).toArray w (RdR [] X r (.v (.one (.int .i64 (rdFour X r).1))) (rdFour X r).2 ρ w):=by
 have h1:=takeB_ok h
 have h2:=takeB_ok h1
 have h3:=takeB_ok h2
 refine Calls.of_F hF [.one (.ptr 0 0)] true Tryz.func216 kq kq (by simp [CV.wf,SV.wf,rdF,St.W]) ?_
 refine V.u ?_
 refine V.iter ?_
 refine V.u ?_
 refine V.known 5 (decide ((0 : Int) < 4)) true kq rfl ?_
 refine V.run 100 [(0 : Int) ≤ 8] kq (by simp [allP]) ?_
 refine V.callW 90 [.one (.ptr 0 0)] [.one (.ptr 0 0)] [0] [] [] (rdF [] X r) _ _ _ kq kq kq (fun _=>rfl) (fun _=>kq) (fun ρ w hF=>rtake X _ h ρ w hF) ?_
 rintro r1 rfl
 refine V.u ?_
 refine V.iter ?_
 refine V.u ?_
 refine V.known 5 (decide ((1 : Int) < 4)) true kq rfl ?_
 refine V.run 100 [(0 : Int) ≤ 8] kq (by simp [allP]) ?_
 refine V.callW 90 [.one (.ptr 0 0)] [.one (.ptr 0 0)] [0] [] [] (rdF [] X _) _ _ _ kq kq kq (fun _=>rfl) (fun _=>kq) (fun ρ w hF=>rtake X _ h1 ρ w hF) ?_
 rintro r1 rfl
 refine V.u ?_
 refine V.iter ?_
 refine V.u ?_
 refine V.known 5 (decide ((2 : Int) < 4)) true kq rfl ?_
 refine V.run 100 [(0 : Int) ≤ 8] kq (by simp [allP]) ?_
 refine V.callW 90 [.one (.ptr 0 0)] [.one (.ptr 0 0)] [0] [] [] (rdF [] X _) _ _ _ kq kq kq (fun _=>rfl) (fun _=>kq) (fun ρ w hF=>rtake X _ h2 ρ w hF) ?_
 rintro r1 rfl
 refine V.u ?_
 refine V.iter ?_
 refine V.u ?_
 refine V.known 5 (decide ((3 : Int) < 4)) true kq rfl ?_
 refine V.run 100 [(0 : Int) ≤ 8] kq (by simp [allP]) ?_
 refine V.callW 90 [.one (.ptr 0 0)] [.one (.ptr 0 0)] [0] [] [] (rdF [] X _) _ _ _ kq kq kq (fun _=>rfl) (fun _=>kq) (fun ρ w hF=>rtake X _ h3 ρ w hF) ?_
 rintro r1 rfl
 refine V.u ?_
 refine V.iter ?_
 refine V.u ?_
 refine V.known 5 (decide ((4 : Int) < 4)) false kq rfl ?_
 refine V.u ?_
 exact V.retF (⟨(rdFour X r).2.at_,(rdFour X r).2.bad⟩ : RSt) [] (.v (.one (.int .i64 (rdFour X r).1))) kq kq kq kq kq kq kq rfl
def boxF (ps : List Pers) (v : Int) : St:={ n:=0,slots:=[],gs:=[],heap:=[(0,⟨[.int .i64 v],3,true⟩)],next:=1,rows:=[],nr:=0,pers:=ps,wr:=false }
def BxR (ps : List Pers) (v : Int) (x : RV) (ρ : Nat → Nat) (w : World) : Ending → World → Prop:=GivesF ρ (boxF ps v) (fun _ : Unit=>True) (fun _=>x) (fun _=>boxF [] v) w
theorem isAt (a p v : Int) (ρ : Nat → Nat) (w : World) (hF : FSat ρ (boxF [] v) w) :
  Calls Tryz.prog 282 (([.agg [.int .i64 a,.int .i64 p],.one (.ptr 0 0)] : List CV).map (CV.den ρ)).toArray w (BxR [] v (.v (.one (.sb (a == v)))) ρ w):=by
 refine Calls.of_F hF [.agg [.int .i64 a,.int .i64 p],.one (.ptr 0 0)] false Tryz.func282 kq kq (by simp [CV.wf,SV.wf,boxF,St.W]) ?_
 refine V.u ?_
 exact V.retF () [] (.v (.one (.sb (a == v)))) kq kq kq kq kq kq kq trivial
theorem drop_getD {α : Type} (l : List α) (i : Nat) (d : α) (h : i < l.length) : l.drop i = l.getD i d :: l.drop (i + 1):=by
 rw [List.drop_eq_getElem_cons h]; simp [List.getD,List.getElem?_eq_getElem h]
def relRow (rl : List (Int × Int)) (q : Option Addr) (c : Nat) : Row:=rowL rlv (0,0) rl q c 62 2 false
def idxF (v : Int) : List (Int × Int) → Nat → Int
 | [],_=>-1
 | x :: l,i=>if x.1 == v then (i : Int) else idxF v l (i + 1)
def ixSt (rl : List (Int × Int)) (q : Option Addr) (c : Nat) (v : Int) (i : Nat) : St :=
 { n:=19,slots:=[(0,.v (.one (.row 0 q rl.length c))),(1,.v (.one (.fn 282 [0]))),(7,.v (.one (.int .i64 (rl.length : Int)))),(8,.v (.one (.int .i64 (i : Int))))],gs:=[],
    heap:=[(0,⟨[.int .i64 v],3,true⟩)],next:=1,rows:=[(0,relRow rl q c)],nr:=1,pers:=[],wr:=false,fx:=1 }
set_option maxHeartbeats 2000000 in
theorem indexF (rl : List (Int × Int)) (q : Option Addr) (c : Nat) (v : Int) (hl : rl.length ≤ 1000000000) (ρ : Nat → Nat) (w : World) (hF : FSat ρ (boxF [rowP (relRow rl q c)] v) w) :
  Calls Tryz.prog 281 (([.one (.val (.slice q rl.length c)),.one (.fn 282 [0])] : List CV).map (CV.den ρ)).toArray w (BxR [rowP (relRow rl q c)] v (.v (.one (.int .i64 (idxF v rl 0)))) ρ w):=by
 refine Calls.of_F hF [.one (.val (.slice q rl.length c)),.one (.fn 282 [0])] false Tryz.func281 kq kq (by simp [CV.wf,SV.wf,boxF,St.W]) ?_
 refine V.u ?_
 refine V.asRow 0 0 (relRow rl q c) kq kq kq kq ?_
 refine V.loopAt [0,1,7,8] [0] [0] [] (fun i : Nat=>rl.length - i) (ixSt rl q c v) (fun i=>i ≤ rl.length ∧ idxF v (rl.drop i) i = idxF v rl 0) 0 kq ⟨by omega,rfl⟩ (fun i hi ih=>?_)
 obtain ⟨g1,g2⟩:=hi
 refine V.u ?_
 refine V.branch 9 (decide ((i : Int) < (rl.length : Int))) kq (fun hb=>?_) (fun hb=>?_)
 ·have hb' : i < rl.length:=by simp at hb; omega
  have hd : rl.drop i = rl.getD i (0,0) :: rl.drop (i + 1):=drop_getD rl i (0,0) hb'
  rw [hd] at g2
  simp only [idxF] at g2
  refine V.run 100 [0 ≤ (i : Int) ∧ (i : Int) < (rl.length : Int)] kq (by simp only [allP]; omega) ?_
  refine V.callW 282 [.agg [.int .i64 (rl.getD i (0,0)).1,.int .i64 (rl.getD i (0,0)).2],.one (.ptr 0 0)] [.agg [.int .i64 (rl.getD i (0,0)).1,.int .i64 (rl.getD i (0,0)).2],.one (.ptr 0 0)] [0] [] [] (boxF [] v) _ _ _
   kq kq kq (fun _=>rfl) (fun _=>kq) (fun ρ w hF=>isAt _ _ v ρ w hF) ?_
  rintro _ _
  refine V.u ?_
  refine V.branch 16 ((rl.getD i (0,0)).1 == v) kq (fun h1=>?_) (fun h1=>?_)
  ·rw [if_pos h1] at g2
   refine V.u ?_
   rw [← g2]
   exact V.retF () [] (.v (.one (.int .i64 (i : Int)))) kq kq kq kq kq kq kq trivial
  ·rw [if_neg (fun e=>by rw [h1] at e; cases e)] at g2
   refine V.run 100 [inK .i64 ((i : Int) + 1)] kq (by simp only [allP,inK]; omega) ?_
   have key:=ih (i + 1) ⟨by omega,g2⟩ (by omega)
   exact V.again [0,1,7,8] [0] [0] [] key kq kq
 ·have hb' : i = rl.length:=by simp at hb; omega
  have : idxF v rl 0 = -1:=by rw [← g2,hb',List.drop_length]; rfl
  rw [this]
  refine V.u ?_
  exact V.retF () [] (.v (.one (.int .i64 (-1)))) kq kq kq kq kq kq kq trivial
def relAt (v : Int) (rl : List (Int × Int)) : Option Int:=(rl.find? fun x=>x.1 == v).map (·.2)
theorem idxF_spec (v : Int) : ∀ (l : List (Int × Int)) (i : Nat),(idxF v l i = -1 ∧ relAt v l = none) ∨ ∃ j : Nat,j < l.length ∧ idxF v l i = ((i + j : Nat) : Int) ∧ relAt v l = some (l.getD j (0,0)).2
 | [],_=>.inl ⟨rfl,rfl⟩
 | x :: l,i=>by
  by_cases h : (x.1 == v) = true
  ·exact .inr ⟨0,by simp,by simp [idxF,h],by simp [relAt,h]⟩
  ·have h' : (x.1 == v) = false:=by simpa using h
   rcases idxF_spec v l (i + 1) with ⟨h1,h2⟩ | ⟨j,h1,h2,h3⟩
   ·exact .inl ⟨by simp [idxF,h',h1],by simpa [relAt,h'] using h2⟩
   ·refine .inr ⟨j + 1,by simpa using h1,?_,?_⟩
    ·simp only [idxF,h',Bool.false_eq_true,if_false,h2]; omega
    ·simpa [relAt,h'] using h3
def rdRel (rl : List (Int × Int)) (v : Int) (r : RSt) : Int × RSt :=
 match relAt v rl with
 | some p=>(p,r)
 | none=>(0,⟨r.at_,true⟩)
set_option maxHeartbeats 2000000 in
theorem rreloc (rl : List (Int × Int)) (X : RIn) (hX : X.n = rl.length) (v : Int) (r : RSt) (hl : rl.length ≤ 1000000000) (ρ : Nat → Nat) (w : World) (hF : FSat ρ (rdF [rowP (relRow rl X.q X.c)] X r) w) :
  Calls Tryz.prog 224 (([.one (.ptr 0 0),.one (.int .i64 v)] : List CV).map (CV.den ρ)).toArray w (RdR [rowP (relRow rl X.q X.c)] X r (.v (.one (.int .i64 (rdRel rl v r).1))) (rdRel rl v r).2 ρ w):=by
 obtain ⟨s,q,n,c⟩:=X
 simp only at hX hF
 subst hX
 refine Calls.of_F hF [.one (.ptr 0 0),.one (.int .i64 v)] false Tryz.func224 kq kq (by simp [CV.wf,SV.wf,rdF,St.W]) ?_
 refine V.u ?_
 refine V.callW 281 [.one (.val (.slice q rl.length c)),.one (.fn 282 [1])] [.one (.val (.slice q rl.length c)),.one (.fn 282 [0])] [1] [] [true] (boxF [rowP (relRow rl q c)] v) _ _ _
  kq kq kq (fun _=>rfl) (fun _=>kq) (fun ρ w hF=>indexF rl q c v hl ρ w hF) ?_
 rintro _ _
 refine V.u ?_
 refine V.branch 13 (decide (idxF v rl 0 < 0)) kq (fun hb=>?_) (fun hb=>?_)
 ·have hr : relAt v rl = none:=by
   rcases idxF_spec v rl 0 with ⟨_,h2⟩ | ⟨j,_,h2,_⟩
   ·exact h2
   ·rw [h2] at hb; simp at hb; omega
  refine V.u ?_
  refine V.soft 0 ?_
  refine V.retF (⟨r.at_,true⟩ : RSt) [] (.v (.one (.int .i64 0))) kq kq ?_ kq kq kq kq ?_
  ·simp only [rdRel,hr]; rfl
  ·simp only [rdRel,hr]
 ·rcases idxF_spec v rl 0 with ⟨h2,_⟩ | ⟨j,h1,h2,hr⟩
  ·rw [h2] at hb; simp at hb
  ·rw [h2]
   simp only [Nat.zero_add]
   refine V.u ?_
   refine V.asRow 20 0 (relRow rl q c) kq kq kq kq ?_
   refine V.run 100 [0 ≤ ((j : Nat) : Int) ∧ ((j : Nat) : Int) < (rl.length : Int)] kq (by simp only [allP]; omega) ?_
   refine V.retF (⟨r.at_,r.bad⟩ : RSt) [] (.v (.one (.int .i64 (rl.getD j (0,0)).2))) kq kq ?_ kq kq kq kq ?_
   ·simp only [rdRel,hr]; rfl
   ·simp only [rdRel,hr]
structure Fm where
 k : Int
 w : Int
 d : Int
 s : List UInt8
def Fm.cells (f : Fm) : List SV:=[.int .i64 f.k,.int .i64 f.w,.int .i64 f.d,.str f.s]
structure In where
 op : Int
 d : Int
 a : Int
 b : Int
 t : Ty
 u : Ty
 w : Ty
 n : Int
 m : Int
 p : Int
 vn : Int
 vs : List UInt8
 f : List Fm
 l : List Int
 y : List Ty
 size : Bool
 range : Bool
def inC (x : In) (sf sl sy : SV) : List SV :=
 [.int .i64 x.op,.int .i64 x.d,.int .i64 x.a,.int .i64 x.b,
   .int .i64 x.t.k,.int .i64 x.t.p,.int .i64 x.t.q,.sb x.t.v,.str x.t.s,
   .int .i64 x.u.k,.int .i64 x.u.p,.int .i64 x.u.q,.sb x.u.v,.str x.u.s,
   .int .i64 x.w.k,.int .i64 x.w.p,.int .i64 x.w.q,.sb x.w.v,.str x.w.s,
   .int .i64 x.n,.int .i64 x.m,.int .i64 x.p,.int .i64 x.vn,.str x.vs,sf,sl,sy,.sb x.size,.sb x.range]
structure IA where
 qf : Option Addr
 cf : Nat
 ql : Option Addr
 cl : Nat
 qy : Option Addr
 cy : Nat
def inV (x : In) (A : IA) : List SV:=inC x (.val (.slice A.qf x.f.length A.cf)) (.val (.slice A.ql x.l.length A.cl)) (.val (.slice A.qy x.y.length A.cy))
structure Tg {α : Type} (s : α) : Prop
abbrev Tg.i {α : Type} {s : α} (_ : Tg s) : α:=s
inductive Sel where
 | D | A | B | N | M | P
def Sel.fn : Sel → Nat
 | .D=>92 | .A=>93 | .B=>94 | .N=>95 | .M=>96 | .P=>97
def Sel.off : Sel → Nat
 | .D=>1 | .A=>2 | .B=>3 | .N=>19 | .M=>20 | .P=>21
def Sel.get : Sel → In → Int
 | .D,x=>x.d | .A,x=>x.a | .B,x=>x.b | .N,x=>x.n | .M,x=>x.m | .P,x=>x.p
def Sel.set : Sel → In → Int → In
 | .D,x,v=>{ x with d:=v } | .A,x,v=>{ x with a:=v } | .B,x,v=>{ x with b:=v } | .N,x,v=>{ x with n:=v } | .M,x,v=>{ x with m:=v } | .P,x,v=>{ x with p:=v }
def Sel.val (s : Sel) : SV:=.val (.func (.func s.fn) #[] #[])
def Sel.blk (s : Sel) (g : Nat) : Pers:=blkP g [s.val] 159
theorem sel_calls (s : Sel) (g o : Nat) (w : World) (hg : g < w.heap.size) : Calls Tryz.prog s.fn #[.pointer (some ⟨g,o,none⟩)] w (Gives (.pointer (some ⟨g,o + s.off,none⟩)) w):=by
 have fin : ∀ (f : Nat) (off : Nat) (C : Ctx) (ρ : Nat → Nat) (a : Act) (w' : World) (st : St),C.base = (fun _=>g) → st.fx = 1 → C.S = (fun _=>False) → C.w0 = w → Sat C ρ st a w' →
   Gives (.pointer (some ⟨g,off,none⟩)) w (.returned ((RV.v (.one (.ptr 0 off))).den ρ)) w':=by
  intro f off C ρ a w' st e1 e2 e3 e4 hS
  have h0:=(hS.fix 0 (by rw [e2]; exact Nat.zero_lt_one)).2
  rw [e1] at h0
  have hc:=hS.chg
  rw [e3,e4] at hc
  refine ⟨?_,hc⟩
  show Ending.returned (.pointer (some ⟨ρ 0,off,none⟩)) = _
  rw [h0]
 cases s
 case D =>
  refine Calls.of_ptr g o hg false Tryz.func92 kq kq ?_
  refine V.u ?_
  exact V.ret (.v (.one (.ptr 0 (o + 1)))) kq kq (fun ρ a w' hS=>fin 92 _ _ ρ a w' _ rfl kq rfl rfl hS)
 case A =>
  refine Calls.of_ptr g o hg false Tryz.func93 kq kq ?_
  refine V.u ?_
  exact V.ret (.v (.one (.ptr 0 (o + 2)))) kq kq (fun ρ a w' hS=>fin 92 _ _ ρ a w' _ rfl kq rfl rfl hS)
 case B =>
  refine Calls.of_ptr g o hg false Tryz.func94 kq kq ?_
  refine V.u ?_
  exact V.ret (.v (.one (.ptr 0 (o + 3)))) kq kq (fun ρ a w' hS=>fin 92 _ _ ρ a w' _ rfl kq rfl rfl hS)
 case N =>
  refine Calls.of_ptr g o hg false Tryz.func95 kq kq ?_
  refine V.u ?_
  exact V.ret (.v (.one (.ptr 0 (o + 19)))) kq kq (fun ρ a w' hS=>fin 92 _ _ ρ a w' _ rfl kq rfl rfl hS)
 case M =>
  refine Calls.of_ptr g o hg false Tryz.func96 kq kq ?_
  refine V.u ?_
  exact V.ret (.v (.one (.ptr 0 (o + 20)))) kq kq (fun ρ a w' hS=>fin 92 _ _ ρ a w' _ rfl kq rfl rfl hS)
 case P =>
  refine Calls.of_ptr g o hg false Tryz.func97 kq kq ?_
  refine V.u ?_
  exact V.ret (.v (.one (.ptr 0 (o + 21)))) kq kq (fun ρ a w' hS=>fin 92 _ _ ρ a w' _ rfl kq rfl rfl hS)
def isRg (n : Int) : Bool:=decide (n ≥ -1) && decide (n < 4000)
theorem isReg_calls (n : Int) (w : World) : Calls Tryz.prog 152 #[.int .i64 n] w (Gives (.bool (isRg n)) w):=by
 refine Calls.of_plain [.one (.int .i64 n)] false Tryz.func152 kq kq (by simp [CV.wf,SV.wf]) ?_
 refine V.u ?_
 exact V.ret (.v (.one (.sb (decide (n ≥ -1) && decide (n < 4000))))) kq kq (fun ρ a w hS=>⟨rfl,hS.chg⟩)
set_option maxHeartbeats 2000000 in
theorem numFine (s : Sel) (x : In) (A : IA) (cb : Nat) (w : World) (hp : PersOk [s.blk cb] w) :
  Calls Tryz.prog 160 (([.agg (inV x A),.one (.val (.pointer (some ⟨cb,0,none⟩)))] : List CV).map (CV.den fun _=>0)).toArray w (Gives (.bool (isNum (Sel.get s x))) w):=by
 have tg : Tg s:=⟨⟩
 cases s
 all_goals
  refine Calls.of_P _ hp [.agg (inV x A),.one (.val (.pointer (some ⟨cb,0,none⟩)))] false Tryz.func160 kq kq kq ?_
  refine V.u ?_
  refine V.loadP 0 159 cb 0 [Sel.val tg.i] 159 (.one (Sel.val tg.i)) kq kq kq kq kq ?_
  refine V.u ?_
  refine V.callQ (Sel.fn tg.i) [.one (.ptr 0 0)] (.v (.one (.ptr 0 (0 + Sel.off tg.i)))) kq kq (fun ρ a w hS=>sel_calls tg.i (ρ 0) 0 w (hS.lt 0 (by decide : 0 < 1))) ?_
  refine V.u ?_
  refine V.callP 53 [.one (.int .i64 (Sel.get tg.i x))] (.v (.one (.sb (isNum (Sel.get tg.i x))))) kq kq (fun _ _ w _=>isNumber_calls _ w) ?_
  refine V.u ?_
  exact V.ret (.v (.one (.sb (isNum (Sel.get tg.i x))))) kq kq (fun ρ a w hS=>⟨rfl,hS.chg⟩)
set_option maxHeartbeats 2000000 in
theorem regFine (s : Sel) (x : In) (A : IA) (cb : Nat) (w : World) (hp : PersOk [s.blk cb] w) :
  Calls Tryz.prog 151 (([.agg (inV x A),.one (.val (.pointer (some ⟨cb,0,none⟩)))] : List CV).map (CV.den fun _=>0)).toArray w (Gives (.bool (isRg (Sel.get s x))) w):=by
 have tg : Tg s:=⟨⟩
 cases s
 all_goals
  refine Calls.of_P _ hp [.agg (inV x A),.one (.val (.pointer (some ⟨cb,0,none⟩)))] false Tryz.func151 kq kq kq ?_
  refine V.u ?_
  refine V.loadP 0 159 cb 0 [Sel.val tg.i] 159 (.one (Sel.val tg.i)) kq kq kq kq kq ?_
  refine V.u ?_
  refine V.callQ (Sel.fn tg.i) [.one (.ptr 0 0)] (.v (.one (.ptr 0 (0 + Sel.off tg.i)))) kq kq (fun ρ a w hS=>sel_calls tg.i (ρ 0) 0 w (hS.lt 0 (by decide : 0 < 1))) ?_
  refine V.u ?_
  refine V.callP 152 [.one (.int .i64 (Sel.get tg.i x))] (.v (.one (.sb (isRg (Sel.get tg.i x))))) kq kq (fun _ _ w _=>isReg_calls _ w) ?_
  refine V.u ?_
  exact V.ret (.v (.one (.sb (isRg (Sel.get tg.i x))))) kq kq (fun ρ a w hS=>⟨rfl,hS.chg⟩)
def intv (n : Int) : List SV:=[.int .i64 n]
def fm0 : Fm:=⟨0,0,0,[]⟩
def ty0 : Ty:=⟨0,0,0,false,[]⟩
def inO (x : In) (A : IA) : List SV:=inC x (.row 0 A.qf x.f.length A.cf) (.row 1 A.ql x.l.length A.cl) (.row 2 A.qy x.y.length A.cy)
def inRows (x : In) (A : IA) : List (Nat × Row):=[(0,rowL Fm.cells fm0 x.f A.qf A.cf 93 4 true),(1,rowL intv 0 x.l A.ql A.cl 3 1 true),(2,rowL Ty.cells ty0 x.y A.qy A.cy 23 5 true)]
def gtF (ps : List Pers) (X : RIn) (r : RSt) (x : In) (A : IA) : St :=
 { n:=0,slots:=[],gs:=[],heap:=[(0,⟨[.str X.s,.int .i64 (r.at_ : Int),.val (.slice X.q X.n X.c),.sb r.bad],104,true⟩),(1,⟨inO x A,30,true⟩)],next:=2,rows:=inRows x A,nr:=3,pers:=ps,wr:=false }
def GtR (ps : List Pers) (X : RIn) (r : RSt) (x : In) (A : IA) (r' : RSt) (x' : In) (ρ : Nat → Nat) (w : World) : Ending → World → Prop :=
 GivesF ρ (gtF ps X r x A) (fun y : RSt × In × IA=>y.1 = r' ∧ y.2.1 = x') (fun _=>.tup []) (fun y=>gtF [] X y.1 y.2.1 y.2.2) w
set_option maxHeartbeats 2000000 in
theorem numPut (s : Sel) (x : In) (A : IA) (cb : Nat) (b : WSt) (hx : num32 (s.get x)) (hb : b.bs.length ≤ 800000000) (ρ : Nat → Nat) (w : World) (hF : FSat ρ (wrF [s.blk cb] b) w) :
  Calls Tryz.prog 161 (([.one (.ptr 0 0),.agg (inV x A),.one (.val (.pointer (some ⟨cb,0,none⟩)))] : List CV).map (CV.den ρ)).toArray w (WrR [s.blk cb] b (encN (Sel.get s x)) [] ρ w):=by
 have tg : Tg s:=⟨⟩
 have hx : num32 (tg.i.get x):=hx
 cases s
 all_goals
  refine Calls.of_F hF [.one (.ptr 0 0),.agg (inV x A),.one (.val (.pointer (some ⟨cb,0,none⟩)))] false Tryz.func161 kq kq (by simp [CV.wf,SV.wf,wrF,St.W,inV,inC]) ?_
  refine V.u ?_
  refine V.loadP 0 159 cb 0 [Sel.val tg.i] 159 (.one (Sel.val tg.i)) kq kq kq kq kq ?_
  refine V.u ?_
  refine V.callQ (Sel.fn tg.i) [.one (.ptr 1 0)] (.v (.one (.ptr 1 (0 + Sel.off tg.i)))) kq kq (fun ρ a w hS=>sel_calls tg.i (ρ 1) 0 w (hS.lt 1 (by decide : 1 < 2))) ?_
  refine V.u ?_
  refine V.callW 54 [.one (.ptr 0 0),.one (.int .i64 (Sel.get tg.i x))] [.one (.ptr 0 0),.one (.int .i64 (Sel.get tg.i x))] [0] [0,1] [false] (wrF [] b) _ _ _ kq kq kq (fun _=>rfl) (fun _=>kq) (fun ρ w hF=>wnumber _ b hx.1 hx.2 (by omega) ρ w hF) ?_
  intro b1 e1
  refine V.u ?_
  exact V.retF (⟨b1.bs,b1.q,b1.c,b1.rs,b1.q2,b1.c2⟩ : WSt) [2,3] (.tup []) kq kq kq kq kq kq kq ⟨e1.1,e1.2⟩
set_option maxHeartbeats 2000000 in
theorem regPut (s : Sel) (x : In) (A : IA) (cb : Nat) (b : WSt) (h1 : -1 ≤ s.get x) (h2 : s.get x < 4000) (hb : b.bs.length ≤ 800000000) (ρ : Nat → Nat) (w : World) (hF : FSat ρ (wrF [s.blk cb] b) w) :
  Calls Tryz.prog 153 (([.one (.ptr 0 0),.agg (inV x A),.one (.val (.pointer (some ⟨cb,0,none⟩)))] : List CV).map (CV.den ρ)).toArray w (WrR [s.blk cb] b (encN (Sel.get s x + 1)) [] ρ w):=by
 have tg : Tg s:=⟨⟩
 have h1 : -1 ≤ tg.i.get x:=h1
 have h2 : tg.i.get x < 4000:=h2
 cases s
 all_goals
  refine Calls.of_F hF [.one (.ptr 0 0),.agg (inV x A),.one (.val (.pointer (some ⟨cb,0,none⟩)))] false Tryz.func153 kq kq (by simp [CV.wf,SV.wf,wrF,St.W,inV,inC]) ?_
  refine V.u ?_
  refine V.loadP 0 159 cb 0 [Sel.val tg.i] 159 (.one (Sel.val tg.i)) kq kq kq kq kq ?_
  refine V.u ?_
  refine V.callQ (Sel.fn tg.i) [.one (.ptr 1 0)] (.v (.one (.ptr 1 (0 + Sel.off tg.i)))) kq kq (fun ρ a w hS=>sel_calls tg.i (ρ 1) 0 w (hS.lt 1 (by decide : 1 < 2))) ?_
  refine V.run 100 [inK .i64 (Sel.get tg.i x + 1)] kq (by simp only [allP,inK]; omega) ?_
  refine V.callW 54 [.one (.ptr 0 0),.one (.int .i64 (Sel.get tg.i x + 1))] [.one (.ptr 0 0),.one (.int .i64 (Sel.get tg.i x + 1))] [0] [0,1] [false] (wrF [] b) _ _ _ kq kq kq (fun _=>rfl) (fun _=>kq) (fun ρ w hF=>wnumber _ b (by omega) (by omega) (by omega) ρ w hF) ?_
  intro b1 e1
  refine V.u ?_
  exact V.retF (⟨b1.bs,b1.q,b1.c,b1.rs,b1.q2,b1.c2⟩ : WSt) [2,3] (.tup []) kq kq kq kq kq kq kq ⟨e1.1,e1.2⟩
set_option maxHeartbeats 2000000 in
theorem numGet (s : Sel) (X : RIn) (r : RSt) (x : In) (A : IA) (cb : Nat) (h : okIn X r) (ρ : Nat → Nat) (w : World) (hF : FSat ρ (gtF [s.blk cb] X r x A) w) :
  Calls Tryz.prog 162 (([.one (.ptr 0 0),.one (.ptr 1 0),.one (.val (.pointer (some ⟨cb,0,none⟩)))] : List CV).map (CV.den ρ)).toArray w (GtR [s.blk cb] X r x A (rdNum X r).2 (s.set x ((rdNum X r).1)) ρ w):=by
 have tg : Tg s:=⟨⟩
 cases s
 all_goals
  refine Calls.of_F hF [.one (.ptr 0 0),.one (.ptr 1 0),.one (.val (.pointer (some ⟨cb,0,none⟩)))] false Tryz.func162 kq kq (by simp [CV.wf,SV.wf,gtF,St.W]) ?_
  refine V.u ?_
  refine V.loadP 0 159 cb 0 [Sel.val tg.i] 159 (.one (Sel.val tg.i)) kq kq kq kq kq ?_
  refine V.u ?_
  refine V.callQ (Sel.fn tg.i) [.one (.ptr 1 0)] (.v (.one (.ptr 1 (0 + Sel.off tg.i)))) kq kq (fun ρ a w hS=>sel_calls tg.i (ρ 1) 0 w (hS.lt 1 (by decide : 1 < 2))) ?_
  refine V.u ?_
  refine V.callW 57 [.one (.ptr 0 0)] [.one (.ptr 0 0)] [0] [] [false] (rdF [] X r) _ _ _ kq kq kq (fun _=>rfl) (fun _=>kq) (fun ρ w hF=>rnumber X r h ρ w hF) ?_
  rintro r1 rfl
  refine V.u ?_
  exact V.retF (⟨(rdNum X r).2,Sel.set tg.i x ((rdNum X r).1),A⟩ : RSt × In × IA) [0,1,2] (.tup []) kq kq kq kq kq kq kq ⟨rfl,rfl⟩
set_option maxHeartbeats 2000000 in
theorem regGet (s : Sel) (X : RIn) (r : RSt) (x : In) (A : IA) (cb : Nat) (h : okIn X r) (ρ : Nat → Nat) (w : World) (hF : FSat ρ (gtF [s.blk cb] X r x A) w) :
  Calls Tryz.prog 154 (([.one (.ptr 0 0),.one (.ptr 1 0),.one (.val (.pointer (some ⟨cb,0,none⟩)))] : List CV).map (CV.den ρ)).toArray w (GtR [s.blk cb] X r x A (rdNum X r).2 (s.set x ((rdNum X r).1 - 1)) ρ w):=by
 have tg : Tg s:=⟨⟩
 cases s
 all_goals
  obtain ⟨q1,q2⟩ : num32 (rdNum X r).1:=isNum_32 (rdNum_ok h).2
  refine Calls.of_F hF [.one (.ptr 0 0),.one (.ptr 1 0),.one (.val (.pointer (some ⟨cb,0,none⟩)))] false Tryz.func154 kq kq (by simp [CV.wf,SV.wf,gtF,St.W]) ?_
  refine V.u ?_
  refine V.loadP 0 159 cb 0 [Sel.val tg.i] 159 (.one (Sel.val tg.i)) kq kq kq kq kq ?_
  refine V.u ?_
  refine V.callQ (Sel.fn tg.i) [.one (.ptr 1 0)] (.v (.one (.ptr 1 (0 + Sel.off tg.i)))) kq kq (fun ρ a w hS=>sel_calls tg.i (ρ 1) 0 w (hS.lt 1 (by decide : 1 < 2))) ?_
  refine V.u ?_
  refine V.callW 57 [.one (.ptr 0 0)] [.one (.ptr 0 0)] [0] [] [false] (rdF [] X r) _ _ _ kq kq kq (fun _=>rfl) (fun _=>kq) (fun ρ w hF=>rnumber X r h ρ w hF) ?_
  rintro r1 rfl
  refine V.run 100 [inK .i64 ((rdNum X r).1 - 1)] kq (by simp only [allP,inK]; omega) ?_
  exact V.retF (⟨(rdNum X r).2,Sel.set tg.i x ((rdNum X r).1 - 1),A⟩ : RSt × In × IA) [0,1,2] (.tup []) kq kq kq kq kq kq kq ⟨rfl,rfl⟩
def mvF (ps : List Pers) (y : In) (B : IA) : St:={ n:=0,slots:=[],gs:=[],heap:=[(0,⟨inV y B,30,true⟩)],next:=1,rows:=[],nr:=0,pers:=ps,wr:=false }
def MvR (ps : List Pers) (y : In) (B : IA) (y' : In) (B' : IA) (ρ : Nat → Nat) (w : World) : Ending → World → Prop :=
 GivesF ρ (mvF ps y B) (fun z : In × IA=>z = (y',B')) (fun _=>.tup []) (fun z=>mvF [] z.1 z.2) w
set_option maxHeartbeats 2000000 in
theorem numMove (s : Sel) (x y : In) (A B : IA) (cb : Nat) (ρ : Nat → Nat) (w : World) (hF : FSat ρ (mvF [s.blk cb] y B) w) :
  Calls Tryz.prog 159 (([.one (.ptr 0 0),.agg (inV x A),.one (.val (.pointer (some ⟨cb,0,none⟩)))] : List CV).map (CV.den ρ)).toArray w (MvR [s.blk cb] y B (s.set y (s.get x)) B ρ w):=by
 have tg : Tg s:=⟨⟩
 cases s
 all_goals
  refine Calls.of_F hF [.one (.ptr 0 0),.agg (inV x A),.one (.val (.pointer (some ⟨cb,0,none⟩)))] false Tryz.func159 kq kq (by simp [CV.wf,SV.wf,mvF,St.W,inV,inC]) ?_
  refine V.u ?_
  refine V.blkIn 2 cb [Sel.val tg.i] 159 kq kq kq kq kq ?_
  refine V.draw2 8 (Sel.fn tg.i) [.one (.ptr 0 0)] (.v (.one (.ptr 0 (0 + Sel.off tg.i)))) (Sel.fn tg.i) [.one (.ptr 1 0)] (.v (.one (.ptr 1 (0 + Sel.off tg.i)))) kq kq kq kq (fun ρ a w hS=>sel_calls tg.i (ρ 0) 0 w (hS.lt 0 (Nat.le_of_ble_eq_true kq))) kq kq kq (fun ρ a w hS=>sel_calls tg.i (ρ 1) 0 w (hS.lt 1 (Nat.le_of_ble_eq_true kq))) kq ?_
  refine V.u ?_
  exact V.retF ((Sel.set tg.i y (Sel.get tg.i x),B) : In × IA) [] (.tup []) kq kq kq kq kq kq kq rfl
theorem chg_grow (w : World) (k : Nat) (os : Array Obj) : Chg (fun _=>False) w (Sort.grow (w.drewN k) os) :=
 ⟨rfl,rfl,rfl,by simp [Sort.grow,World.drewN],fun i hi _=>by simp [Sort.grow,World.drewN,Array.getElem?_append_left hi]⟩
def varP (name : String) (cs : Array Value) : Pers:=⟨fun k=>Tryz.prog.globalNamed name = some k,fun w=>w.var? Tryz.prog name = some cs⟩
theorem varP_stable (name : String) (cs : Array Value) (w w' : World) (h : (varP name cs).φ w) (hk : ∀ k,(varP name cs).D k → w'.heap[k]? = w.heap[k]?) : (varP name cs).φ w':=by
 show w'.var? Tryz.prog name = some cs
 have h' : w.var? Tryz.prog name = some cs:=h
 unfold World.var? at h' ⊢
 cases hg : Tryz.prog.globalNamed name with
 | none=>rw [hg] at h'; cases h'
 | some g =>
  rw [hg] at h'
  simp only [Option.bind_some] at h' ⊢
  rw [hk g hg]; exact h'
def tabP : Pers:=varP "internal/strconv.uint64pow10" (Lib.pow10Tab.map fun z=>Value.int .u64 z).toArray
theorem itoa_calls (n : Int) (h0 : -9223372036854775808 ≤ n) (h1 : n ≤ 9223372036854775807) (w : World) (htab : tabP.φ w) :
  Calls Tryz.prog 123 #[.int .i64 n] w (Gives (.string ⟨(Lib.itoa n).toArray⟩) w):=by
 refine (Tryz.strconv_Itoa n h0 h1 w htab).mono ?_
 rintro e w' ⟨rfl,k,os,rfl⟩
 exact ⟨rfl,chg_grow w k os⟩
def regT (n : Int) : List UInt8:=if n < 0 then [45] else 114 :: Lib.itoa n
set_option maxHeartbeats 1000000 in
theorem regText_calls (n : Int) (h0 : -9223372036854775808 ≤ n) (h1 : n ≤ 9223372036854775807) (hl : (Lib.itoa n).length ≤ 100) (w : World) (hp : PersOk [tabP] w) :
  Calls Tryz.prog 156 (([.one (.int .i64 n)] : List CV).map (CV.den fun _=>0)).toArray w (Gives (.string ⟨(regT n).toArray⟩) w):=by
 refine Calls.of_P _ hp [.one (.int .i64 n)] false Tryz.func156 kq kq kq ?_
 refine V.u ?_
 refine V.branch 4 (decide (n < 0)) kq (fun hb=>?_) (fun hb=>?_)
 ·have hb' : n < 0:=by simpa using hb
  refine V.u ?_
  simp only [regT,if_pos hb']
  exact V.ret (.v (.one (.str [45]))) kq kq (fun ρ a w hS=>⟨rfl,hS.chg⟩)
 ·have hb' : ¬ n < 0:=by simpa using hb
  refine V.u ?_
  refine V.callP 123 [.one (.int .i64 n)] (.v (.one (.str (Lib.itoa n)))) kq kq (fun ρ a w hS=>itoa_calls n h0 h1 w (hS.pers tabP (List.mem_of_getElem? (i:=0) kq)).1) ?_
  refine V.run 100 [(1 + (Lib.itoa n).length : Nat) ≤ 9223372036854775807] kq (by simp only [allP]; omega) ?_
  simp only [regT,if_neg hb']
  exact V.ret (.v (.one (.str ([114] ++ Lib.itoa n)))) kq kq (fun ρ a w hS=>⟨rfl,hS.chg⟩)
def int64 (n : Int) : Prop:=-9223372036854775808 ≤ n ∧ n ≤ 9223372036854775807
set_option maxHeartbeats 2000000 in
theorem numText (s : Sel) (x : In) (A : IA) (cb : Nat) (hx : int64 (s.get x)) (w : World) (hp : PersOk [tabP,s.blk cb] w) :
  Calls Tryz.prog 163 (([.agg (inV x A),.one (.val (.pointer (some ⟨cb,0,none⟩)))] : List CV).map (CV.den fun _=>0)).toArray w (Gives (.string ⟨(Lib.itoa (Sel.get s x)).toArray⟩) w):=by
 have tg : Tg s:=⟨⟩
 have hx : int64 (tg.i.get x):=hx
 cases s
 all_goals
  refine Calls.of_P _ hp [.agg (inV x A),.one (.val (.pointer (some ⟨cb,0,none⟩)))] false Tryz.func163 kq kq kq ?_
  refine V.u ?_
  refine V.loadP 1 159 cb 0 [Sel.val tg.i] 159 (.one (Sel.val tg.i)) kq kq kq kq kq ?_
  refine V.u ?_
  refine V.callQ (Sel.fn tg.i) [.one (.ptr 0 0)] (.v (.one (.ptr 0 (0 + Sel.off tg.i)))) kq kq (fun ρ a w hS=>sel_calls tg.i (ρ 0) 0 w (hS.lt 0 (by decide : 0 < 1))) ?_
  refine V.u ?_
  refine V.callP 123 [.one (.int .i64 (Sel.get tg.i x))] (.v (.one (.str (Lib.itoa (Sel.get tg.i x))))) kq kq (fun ρ a w hS=>itoa_calls _ hx.1 hx.2 w (hS.pers tabP (List.mem_of_getElem? (i:=0) kq)).1) ?_
  refine V.u ?_
  exact V.ret (.v (.one (.str (Lib.itoa (Sel.get tg.i x))))) kq kq (fun ρ a w hS=>⟨rfl,hS.chg⟩)
set_option maxHeartbeats 2000000 in
theorem regTextF (s : Sel) (x : In) (A : IA) (cb : Nat) (hx : int64 (s.get x)) (hl : (Lib.itoa (s.get x)).length ≤ 100) (w : World) (hp : PersOk [tabP,s.blk cb] w) :
  Calls Tryz.prog 155 (([.agg (inV x A),.one (.val (.pointer (some ⟨cb,0,none⟩)))] : List CV).map (CV.den fun _=>0)).toArray w (Gives (.string ⟨(regT (Sel.get s x)).toArray⟩) w):=by
 have tg : Tg s:=⟨⟩
 have hl : (Lib.itoa (tg.i.get x)).length ≤ 100:=hl
 have hx : int64 (tg.i.get x):=hx
 cases s
 all_goals
  refine Calls.of_P _ hp [.agg (inV x A),.one (.val (.pointer (some ⟨cb,0,none⟩)))] false Tryz.func155 kq kq kq ?_
  refine V.u ?_
  refine V.loadP 1 159 cb 0 [Sel.val tg.i] 159 (.one (Sel.val tg.i)) kq kq kq kq kq ?_
  refine V.u ?_
  refine V.callQ (Sel.fn tg.i) [.one (.ptr 0 0)] (.v (.one (.ptr 0 (0 + Sel.off tg.i)))) kq kq (fun ρ a w hS=>sel_calls tg.i (ρ 0) 0 w (hS.lt 0 (by decide : 0 < 1))) ?_
  refine V.u ?_
  refine V.callP 156 [.one (.int .i64 (Sel.get tg.i x))] (.v (.one (.str (regT (Sel.get tg.i x))))) kq kq (fun ρ a w hS=>regText_calls _ hx.1 hx.2 hl w (hS.persOk [true,false])) ?_
  refine V.u ?_
  exact V.ret (.v (.one (.str (regT (Sel.get tg.i x))))) kq kq (fun ρ a w hS=>⟨rfl,hS.chg⟩)
def isTy (t : Ty) : Bool:=isNum t.k && isNum t.p && isNum t.q && decide ((t.s.length : Int) ≤ 255)
theorem isType_calls (t : Ty) (w : World) : Calls Tryz.prog 168 (([.agg t.cells] : List CV).map (CV.den fun _=>0)).toArray w (Gives (.bool (isTy t)) w):=by
 refine Calls.of_plain [.agg t.cells] false Tryz.func168 kq kq (by simp [CV.wf,SV.wf,Ty.cells]) ?_
 refine V.u ?_
 refine V.callP 53 [.one (.int .i64 t.k)] (.v (.one (.sb (isNum t.k)))) kq kq (fun _ _ w _=>isNumber_calls _ w) ?_
 refine V.u ?_
 refine V.callPA 6 true (isNum t.k) 53 [.one (.int .i64 t.p)] (.one (.sb (isNum t.p))) kq kq (fun _ _ _ w _=>isNumber_calls _ w) ?_
 refine V.u ?_
 refine V.callPA 11 true (isNum t.k && isNum t.p) 53 [.one (.int .i64 t.q)] (.one (.sb (isNum t.q))) kq kq (fun _ _ _ w _=>isNumber_calls _ w) ?_
 refine V.u ?_
 exact V.ret (.v (.one (.sb (isTy t)))) kq kq (fun ρ a w hS=>⟨rfl,hS.chg⟩)
inductive TSel where
 | T | U | W
def TSel.fn : TSel → Nat
 | .T=>101 | .U=>102 | .W=>103
def TSel.off : TSel → Nat
 | .T=>4 | .U=>9 | .W=>14
def TSel.get : TSel → In → Ty
 | .T,x=>x.t | .U,x=>x.u | .W,x=>x.w
def TSel.set : TSel → In → Ty → In
 | .T,x,v=>{ x with t:=v } | .U,x,v=>{ x with u:=v } | .W,x,v=>{ x with w:=v }
def TSel.val (s : TSel) : SV:=.val (.func (.func s.fn) #[] #[])
def TSel.blk (s : TSel) (g : Nat) : Pers:=blkP g [s.val] 169
theorem ptr_fin {g off : Nat} {C : Ctx} {ρ : Nat → Nat} {a : Act} {w w' : World} {st : St} (e1 : C.base = (fun _=>g)) (e2 : st.fx = 1) (e3 : C.S = (fun _=>False)) (e4 : C.w0 = w) (hS : Sat C ρ st a w') :
  Gives (.pointer (some ⟨g,off,none⟩)) w (.returned ((RV.v (.one (.ptr 0 off))).den ρ)) w':=by
 have h0:=(hS.fix 0 (by rw [e2]; exact Nat.zero_lt_one)).2
 rw [e1] at h0
 have hc:=hS.chg
 rw [e3,e4] at hc
 refine ⟨?_,hc⟩
 show Ending.returned (.pointer (some ⟨ρ 0,off,none⟩)) = _
 rw [h0]
theorem tsel_calls (s : TSel) (g o : Nat) (w : World) (hg : g < w.heap.size) : Calls Tryz.prog s.fn #[.pointer (some ⟨g,o,none⟩)] w (Gives (.pointer (some ⟨g,o + s.off,none⟩)) w):=by
 cases s
 case T =>
  refine Calls.of_ptr g o hg false Tryz.func101 kq kq ?_
  refine V.u ?_
  exact V.ret (.v (.one (.ptr 0 (o + 4)))) kq kq (fun ρ a w' hS=>ptr_fin rfl kq rfl rfl hS)
 case U =>
  refine Calls.of_ptr g o hg false Tryz.func102 kq kq ?_
  refine V.u ?_
  exact V.ret (.v (.one (.ptr 0 (o + 9)))) kq kq (fun ρ a w' hS=>ptr_fin rfl kq rfl rfl hS)
 case W =>
  refine Calls.of_ptr g o hg false Tryz.func103 kq kq ?_
  refine V.u ?_
  exact V.ret (.v (.one (.ptr 0 (o + 14)))) kq kq (fun ρ a w' hS=>ptr_fin rfl kq rfl rfl hS)
set_option maxHeartbeats 2000000 in
theorem tyFine (s : TSel) (x : In) (A : IA) (cb : Nat) (w : World) (hp : PersOk [s.blk cb] w) :
  Calls Tryz.prog 167 (([.agg (inV x A),.one (.val (.pointer (some ⟨cb,0,none⟩)))] : List CV).map (CV.den fun _=>0)).toArray w (Gives (.bool (isTy (s.get x))) w):=by
 have tg : Tg s:=⟨⟩
 cases s
 all_goals
  refine Calls.of_P _ hp [.agg (inV x A),.one (.val (.pointer (some ⟨cb,0,none⟩)))] false Tryz.func167 kq kq kq ?_
  refine V.u ?_
  refine V.loadP 0 169 cb 0 [TSel.val tg.i] 169 (.one (TSel.val tg.i)) kq kq kq kq kq ?_
  refine V.u ?_
  refine V.callQ (TSel.fn tg.i) [.one (.ptr 0 0)] (.v (.one (.ptr 0 (0 + TSel.off tg.i)))) kq kq (fun ρ a w hS=>tsel_calls tg.i (ρ 0) 0 w (hS.lt 0 (Nat.le_of_ble_eq_true kq))) ?_
  refine V.u ?_
  refine V.callP 168 [.agg (Ty.cells (TSel.get tg.i x))] (.v (.one (.sb (isTy (TSel.get tg.i x))))) kq kq (fun _ _ w _=>isType_calls _ w) ?_
  refine V.u ?_
  exact V.ret (.v (.one (.sb (isTy (TSel.get tg.i x))))) kq kq (fun ρ a w hS=>⟨rfl,hS.chg⟩)
set_option maxHeartbeats 2000000 in
theorem tyPut (s : TSel) (x : In) (A : IA) (cb : Nat) (b : WSt) (h1 : num32 (s.get x).k) (h2 : num32 (s.get x).p) (h3 : num32 (s.get x).q) (hl : (s.get x).s.length ≤ 50000000) (hb : b.bs.length ≤ 800000000) (ρ : Nat → Nat) (w : World) (hF : FSat ρ (wrF [s.blk cb] b) w) :
  Calls Tryz.prog 169 (([.one (.ptr 0 0),.agg (inV x A),.one (.val (.pointer (some ⟨cb,0,none⟩)))] : List CV).map (CV.den ρ)).toArray w (WrR [s.blk cb] b (encTy (s.get x)) [] ρ w):=by
 have tg : Tg s:=⟨⟩
 have h1 : num32 (tg.i.get x).k:=h1
 have h2 : num32 (tg.i.get x).p:=h2
 have h3 : num32 (tg.i.get x).q:=h3
 have hl : (tg.i.get x).s.length ≤ 50000000:=hl
 cases s
 all_goals
  refine Calls.of_F hF [.one (.ptr 0 0),.agg (inV x A),.one (.val (.pointer (some ⟨cb,0,none⟩)))] false Tryz.func169 kq kq (by simp [CV.wf,SV.wf,wrF,St.W,inV,inC]) ?_
  refine V.u ?_
  refine V.loadP 0 169 cb 0 [TSel.val tg.i] 169 (.one (TSel.val tg.i)) kq kq kq kq kq ?_
  refine V.u ?_
  refine V.callQ (TSel.fn tg.i) [.one (.ptr 1 0)] (.v (.one (.ptr 1 (0 + TSel.off tg.i)))) kq kq (fun ρ a w hS=>tsel_calls tg.i (ρ 1) 0 w (hS.lt 1 (Nat.le_of_ble_eq_true kq))) ?_
  refine V.u ?_
  refine V.callW 170 [.one (.ptr 0 0),.agg (Ty.cells (TSel.get tg.i x))] [.one (.ptr 0 0),.agg (Ty.cells (TSel.get tg.i x))] [0] [0,1] [false] (wrF [] b) _ _ _ kq kq kq (fun _=>rfl) (fun _=>kq) (fun ρ w hF=>wtyp _ b h1 h2 h3 hl hb ρ w hF) ?_
  intro b1 e1
  refine V.u ?_
  exact V.retF (⟨b1.bs,b1.q,b1.c,b1.rs,b1.q2,b1.c2⟩ : WSt) [2,3] (.tup []) kq kq kq kq kq kq kq ⟨e1.1,e1.2⟩
set_option maxHeartbeats 2000000 in
theorem tyGet (s : TSel) (X : RIn) (r : RSt) (x : In) (A : IA) (cb : Nat) (h : okIn X r) (ρ : Nat → Nat) (w : World) (hF : FSat ρ (gtF [s.blk cb] X r x A) w) :
  Calls Tryz.prog 171 (([.one (.ptr 0 0),.one (.ptr 1 0),.one (.val (.pointer (some ⟨cb,0,none⟩)))] : List CV).map (CV.den ρ)).toArray w (GtR [s.blk cb] X r x A (rdTy X r).2 (s.set x (rdTy X r).1) ρ w):=by
 have tg : Tg s:=⟨⟩
 cases s
 all_goals
  refine Calls.of_F hF [.one (.ptr 0 0),.one (.ptr 1 0),.one (.val (.pointer (some ⟨cb,0,none⟩)))] false Tryz.func171 kq kq (by simp [CV.wf,SV.wf,gtF,St.W]) ?_
  refine V.u ?_
  refine V.loadP 0 169 cb 0 [TSel.val tg.i] 169 (.one (TSel.val tg.i)) kq kq kq kq kq ?_
  refine V.u ?_
  refine V.callQ (TSel.fn tg.i) [.one (.ptr 1 0)] (.v (.one (.ptr 1 (0 + TSel.off tg.i)))) kq kq (fun ρ a w hS=>tsel_calls tg.i (ρ 1) 0 w (hS.lt 1 (Nat.le_of_ble_eq_true kq))) ?_
  refine V.u ?_
  refine V.callW 172 [.one (.ptr 0 0)] [.one (.ptr 0 0)] [0] [] [false] (rdF [] X r) _ _ _ kq kq kq (fun _=>rfl) (fun _=>kq) (fun ρ w hF=>rtyp X r h ρ w hF) ?_
  rintro r1 rfl
  refine V.u ?_
  exact V.retF (⟨(rdTy X r).2,TSel.set tg.i x (rdTy X r).1,A⟩ : RSt × In × IA) [0,1,2] (.tup []) kq kq kq kq kq kq kq ⟨rfl,rfl⟩
set_option maxHeartbeats 2000000 in
theorem tyMove (s : TSel) (x y : In) (A B : IA) (cb : Nat) (ρ : Nat → Nat) (w : World) (hF : FSat ρ (mvF [s.blk cb] y B) w) :
  Calls Tryz.prog 166 (([.one (.ptr 0 0),.agg (inV x A),.one (.val (.pointer (some ⟨cb,0,none⟩)))] : List CV).map (CV.den ρ)).toArray w (MvR [s.blk cb] y B (s.set y (s.get x)) B ρ w):=by
 have tg : Tg s:=⟨⟩
 cases s
 all_goals
  refine Calls.of_F hF [.one (.ptr 0 0),.agg (inV x A),.one (.val (.pointer (some ⟨cb,0,none⟩)))] false Tryz.func166 kq kq (by simp [CV.wf,SV.wf,mvF,St.W,inV,inC]) ?_
  refine V.u ?_
  refine V.blkIn 2 cb [TSel.val tg.i] 169 kq kq kq kq kq ?_
  refine V.draw2 8 (TSel.fn tg.i) [.one (.ptr 0 0)] (.v (.one (.ptr 0 (0 + TSel.off tg.i)))) (TSel.fn tg.i) [.one (.ptr 1 0)] (.v (.one (.ptr 1 (0 + TSel.off tg.i)))) kq kq kq kq (fun ρ a w hS=>tsel_calls tg.i (ρ 0) 0 w (hS.lt 0 (Nat.le_of_ble_eq_true kq))) kq kq kq (fun ρ a w hS=>tsel_calls tg.i (ρ 1) 0 w (hS.lt 1 (Nat.le_of_ble_eq_true kq))) kq ?_
  refine V.u ?_
  exact V.retF ((TSel.set tg.i y (TSel.get tg.i x),B) : In × IA) [] (.tup []) kq kq kq kq kq kq kq rfl
end Go.Proofs
end
