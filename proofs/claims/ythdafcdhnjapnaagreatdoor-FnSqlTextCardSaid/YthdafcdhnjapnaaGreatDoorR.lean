/- A function that ranges over an iterator, or of the library, at the level of worlds: what it computes, and its contract (part 0). -/
import Derived.Shelf.Strconv.Itoa3
import Derived.Shelf.Strconv.Atoi
import Derived.Shelf.Strconv.AtoiErr
import Derived.Shelf.Strings.Search3
import Derived.WalkKit
import Derived.Defers
import Derived.Recover
import Derived.Ground.NamesProg
import Derived.Lib.LaidTab
import Derived.Test.YthdafcdhnjapnaaGreatDoorProg
import Derived.Test.YthdafcdhnjapnaaGreatDoorA2
namespace Go.Proofs.YthdafcdhnjapnaaGreatDoor
open Go Go.AM Go.Shelf Go.RowKit
set_option maxRecDepth 100000 in
def itoaR_ren : Go.Shelf.Ren := ⟨fun | 171 => 98 | 243 => 109 | 246 => 119 | 283 => 128 | 284 => 129 | 285 => 130 | 286 => 131 | 129 => 140 | 317 => 139 | 318 => 141 | 319 => 142 | 320 => 143 | 337 => 152 | 338 => 153 | n => n, fun | 3 => 3 | 9 => 9 | 2 => 2 | 4 => 4 | 171 => 129 | 0 => 0 | 53 => 130 | 37 => 22 | 5 => 5 | 173 => 133 | 212 => 140 | 51 => 136 | 20 => 20 | 213 => 141 | 46 => 128 | 232 => 157 | 233 => 158 | n => n, fun | 17 => 3 | 18 => 6 | 19 => 7 | n => n⟩
set_option maxRecDepth 100000 in
theorem itoaR : Go.Proofs.LaysM.n171 Tryz.prog itoaR_ren := {
  mixed := by kernel_rfl
  f129 := Tryz.func140.trans (congrArg some (by kernel_rfl))
  f171 := Tryz.func98.trans (congrArg some (by kernel_rfl))
  f243 := Tryz.func109.trans (congrArg some (by kernel_rfl))
  f246 := Tryz.func119.trans (congrArg some (by kernel_rfl))
  f283 := Tryz.func128.trans (congrArg some (by kernel_rfl))
  f284 := Tryz.func129.trans (congrArg some (by kernel_rfl))
  f285 := Tryz.func130.trans (congrArg some (by kernel_rfl))
  f286 := Tryz.func131.trans (congrArg some (by kernel_rfl))
  f317 := Tryz.func139.trans (congrArg some (by kernel_rfl))
  f318 := Tryz.func141.trans (congrArg some (by kernel_rfl))
  f319 := Tryz.func142.trans (congrArg some (by kernel_rfl))
  f320 := Tryz.func143.trans (congrArg some (by kernel_rfl))
  f337 := Tryz.func152.trans (congrArg some (by kernel_rfl))
  f338 := Tryz.func153.trans (congrArg some (by kernel_rfl))
  t0 := Tryz.underlying0
  a0 := Tryz.isAgg0
  z0 := Tryz.sizeOf0
  v0 := Tryz.zeroValue0
  t2 := Tryz.underlying2
  a2 := Tryz.isAgg2
  z2 := Tryz.sizeOf2
  v2 := Tryz.zeroValue2
  t3 := Tryz.underlying3
  a3 := Tryz.isAgg3
  z3 := Tryz.sizeOf3
  v3 := Tryz.zeroValue3
  t4 := Tryz.underlying4
  a4 := Tryz.isAgg4
  z4 := Tryz.sizeOf4
  v4 := Tryz.zeroValue4
  t5 := Tryz.underlying5
  a5 := Tryz.isAgg5
  z5 := Tryz.sizeOf5
  v5 := Tryz.zeroValue5
  t9 := Tryz.underlying9
  a9 := Tryz.isAgg9
  z9 := Tryz.sizeOf9
  v9 := Tryz.zeroValue9
  t20 := Tryz.underlying20
  a20 := Tryz.isAgg20
  z20 := Tryz.sizeOf20
  v20 := Tryz.zeroValue20
  t37 := Tryz.underlying22
  a37 := Tryz.isAgg22
  z37 := Tryz.sizeOf22
  v37 := Tryz.zeroValue22
  t46 := Tryz.underlying128
  a46 := Tryz.isAgg128
  z46 := Tryz.sizeOf128
  v46 := Tryz.zeroValue128
  t51 := Tryz.underlying136
  a51 := Tryz.isAgg136
  z51 := Tryz.sizeOf136
  v51 := Tryz.zeroValue136
  t53 := Tryz.underlying130
  a53 := Tryz.isAgg130
  z53 := Tryz.sizeOf130
  v53 := Tryz.zeroValue130
  t171 := Tryz.underlying129
  a171 := Tryz.isAgg129
  z171 := Tryz.sizeOf129
  v171 := Tryz.zeroValue129
  t173 := Tryz.underlying133
  a173 := Tryz.isAgg133
  z173 := Tryz.sizeOf133
  v173 := Tryz.zeroValue133
  t212 := Tryz.underlying140
  a212 := Tryz.isAgg140
  z212 := Tryz.sizeOf140
  v212 := Tryz.zeroValue140
  t213 := Tryz.underlying141
  a213 := Tryz.isAgg141
  z213 := Tryz.sizeOf141
  t232 := Tryz.underlying157
  a232 := Tryz.isAgg157
  z232 := Tryz.sizeOf157
  v232 := Tryz.zeroValue157
  t233 := Tryz.underlying158
  a233 := Tryz.isAgg158
  z233 := Tryz.sizeOf158
  v233 := Tryz.zeroValue158
  g17 := by kernel_rfl
  g18 := by kernel_rfl
  g19 := by kernel_rfl
  i0 := by kernel_rfl
  i2 := by kernel_rfl
  i3 := by kernel_rfl
  i4 := by kernel_rfl
  i5 := by kernel_rfl
  i9 := by kernel_rfl
  i20 := by kernel_rfl
  i37 := by kernel_rfl
  i46 := by kernel_rfl
  i51 := by kernel_rfl
  i53 := by kernel_rfl
  i171 := by kernel_rfl
  i173 := by kernel_rfl
  i212 := by kernel_rfl
  i232 := by kernel_rfl
  i233 := by kernel_rfl
  m17 := by kernel_rfl
  m18 := by kernel_rfl
  m19 := by kernel_rfl }
set_option maxRecDepth 100000 in
def atoiR_ren : Go.Shelf.Ren := ⟨fun | 172 => 120 | 244 => 132 | 245 => 133 | 247 => 144 | 279 => 145 | 280 => 146 | 281 => 147 | 282 => 148 | 287 => 154 | 316 => 155 | 171 => 98 | 205 => 156 | 321 => 160 | 322 => 161 | 243 => 109 | 246 => 119 | 283 => 128 | 284 => 129 | 285 => 130 | 286 => 131 | 129 => 140 | 317 => 139 | 318 => 141 | 319 => 142 | 320 => 143 | 337 => 152 | 338 => 153 | n => n, fun | 9 => 9 | 3 => 3 | 75 => 123 | 76 => 124 | 4 => 4 | 5 => 5 | 167 => 143 | 37 => 22 | 0 => 0 | 85 => 144 | 2 => 2 | 168 => 146 | 53 => 130 | 175 => 150 | 46 => 128 | 210 => 154 | 127 => 160 | 145 => 163 | 143 => 161 | 21 => 21 | 171 => 129 | 173 => 133 | 212 => 140 | 51 => 136 | 20 => 20 | 213 => 141 | 232 => 157 | 233 => 158 | 80 => 107 | n => n, fun | 15 => 4 | 16 => 5 | 17 => 3 | 18 => 6 | 19 => 7 | n => n⟩
set_option maxRecDepth 100000 in
theorem atoiR : Go.Proofs.Lays.n172 Tryz.prog atoiR_ren := {
  mixed := by kernel_rfl
  f129 := Tryz.func140.trans (congrArg some (by kernel_rfl))
  f171 := Tryz.func98.trans (congrArg some (by kernel_rfl))
  f172 := Tryz.func120.trans (congrArg some (by kernel_rfl))
  f205 := Tryz.func156.trans (congrArg some (by kernel_rfl))
  f243 := Tryz.func109.trans (congrArg some (by kernel_rfl))
  f244 := Tryz.func132.trans (congrArg some (by kernel_rfl))
  f245 := Tryz.func133.trans (congrArg some (by kernel_rfl))
  f246 := Tryz.func119.trans (congrArg some (by kernel_rfl))
  f247 := Tryz.func144.trans (congrArg some (by kernel_rfl))
  f279 := Tryz.func145.trans (congrArg some (by kernel_rfl))
  f280 := Tryz.func146.trans (congrArg some (by kernel_rfl))
  f281 := Tryz.func147.trans (congrArg some (by kernel_rfl))
  f282 := Tryz.func148.trans (congrArg some (by kernel_rfl))
  f283 := Tryz.func128.trans (congrArg some (by kernel_rfl))
  f284 := Tryz.func129.trans (congrArg some (by kernel_rfl))
  f285 := Tryz.func130.trans (congrArg some (by kernel_rfl))
  f286 := Tryz.func131.trans (congrArg some (by kernel_rfl))
  f287 := Tryz.func154.trans (congrArg some (by kernel_rfl))
  f316 := Tryz.func155.trans (congrArg some (by kernel_rfl))
  f317 := Tryz.func139.trans (congrArg some (by kernel_rfl))
  f318 := Tryz.func141.trans (congrArg some (by kernel_rfl))
  f319 := Tryz.func142.trans (congrArg some (by kernel_rfl))
  f320 := Tryz.func143.trans (congrArg some (by kernel_rfl))
  f321 := Tryz.func160.trans (congrArg some (by kernel_rfl))
  f322 := Tryz.func161.trans (congrArg some (by kernel_rfl))
  f337 := Tryz.func152.trans (congrArg some (by kernel_rfl))
  f338 := Tryz.func153.trans (congrArg some (by kernel_rfl))
  t0 := Tryz.underlying0
  a0 := Tryz.isAgg0
  z0 := Tryz.sizeOf0
  v0 := Tryz.zeroValue0
  t2 := Tryz.underlying2
  a2 := Tryz.isAgg2
  z2 := Tryz.sizeOf2
  v2 := Tryz.zeroValue2
  t3 := Tryz.underlying3
  a3 := Tryz.isAgg3
  z3 := Tryz.sizeOf3
  v3 := Tryz.zeroValue3
  t4 := Tryz.underlying4
  a4 := Tryz.isAgg4
  z4 := Tryz.sizeOf4
  v4 := Tryz.zeroValue4
  t5 := Tryz.underlying5
  a5 := Tryz.isAgg5
  z5 := Tryz.sizeOf5
  v5 := Tryz.zeroValue5
  t9 := Tryz.underlying9
  a9 := Tryz.isAgg9
  z9 := Tryz.sizeOf9
  v9 := Tryz.zeroValue9
  t20 := Tryz.underlying20
  a20 := Tryz.isAgg20
  z20 := Tryz.sizeOf20
  v20 := Tryz.zeroValue20
  t21 := Tryz.underlying21
  a21 := Tryz.isAgg21
  z21 := Tryz.sizeOf21
  v21 := Tryz.zeroValue21
  t37 := Tryz.underlying22
  a37 := Tryz.isAgg22
  z37 := Tryz.sizeOf22
  v37 := Tryz.zeroValue22
  t46 := Tryz.underlying128
  a46 := Tryz.isAgg128
  z46 := Tryz.sizeOf128
  v46 := Tryz.zeroValue128
  t51 := Tryz.underlying136
  a51 := Tryz.isAgg136
  z51 := Tryz.sizeOf136
  v51 := Tryz.zeroValue136
  t53 := Tryz.underlying130
  a53 := Tryz.isAgg130
  z53 := Tryz.sizeOf130
  v53 := Tryz.zeroValue130
  t75 := Tryz.underlying123
  a75 := Tryz.isAgg123
  z75 := Tryz.sizeOf123
  v75 := Tryz.zeroValue123
  t76 := Tryz.underlying124
  a76 := Tryz.isAgg124
  z76 := Tryz.sizeOf124
  v76 := Tryz.zeroValue124
  t85 := Tryz.underlying144
  a85 := Tryz.isAgg144
  z85 := Tryz.sizeOf144
  v85 := Tryz.zeroValue144
  t127 := Tryz.underlying160
  a127 := Tryz.isAgg160
  z127 := Tryz.sizeOf160
  v127 := Tryz.zeroValue160
  t143 := Tryz.underlying161
  a143 := Tryz.isAgg161
  z143 := Tryz.sizeOf161
  v143 := Tryz.zeroValue161
  t145 := Tryz.underlying163
  a145 := Tryz.isAgg163
  z145 := Tryz.sizeOf163
  v145 := Tryz.zeroValue163
  t167 := Tryz.underlying143
  a167 := Tryz.isAgg143
  z167 := Tryz.sizeOf143
  v167 := Tryz.zeroValue143
  t168 := Tryz.underlying146
  a168 := Tryz.isAgg146
  z168 := Tryz.sizeOf146
  v168 := Tryz.zeroValue146
  t171 := Tryz.underlying129
  a171 := Tryz.isAgg129
  z171 := Tryz.sizeOf129
  v171 := Tryz.zeroValue129
  t173 := Tryz.underlying133
  a173 := Tryz.isAgg133
  z173 := Tryz.sizeOf133
  v173 := Tryz.zeroValue133
  t175 := Tryz.underlying150
  a175 := Tryz.isAgg150
  z175 := Tryz.sizeOf150
  v175 := Tryz.zeroValue150
  t210 := Tryz.underlying154
  a210 := Tryz.isAgg154
  z210 := Tryz.sizeOf154
  v210 := Tryz.zeroValue154
  t212 := Tryz.underlying140
  a212 := Tryz.isAgg140
  z212 := Tryz.sizeOf140
  v212 := Tryz.zeroValue140
  t213 := Tryz.underlying141
  a213 := Tryz.isAgg141
  z213 := Tryz.sizeOf141
  t232 := Tryz.underlying157
  a232 := Tryz.isAgg157
  z232 := Tryz.sizeOf157
  v232 := Tryz.zeroValue157
  t233 := Tryz.underlying158
  a233 := Tryz.isAgg158
  z233 := Tryz.sizeOf158
  v233 := Tryz.zeroValue158
  g15 := by kernel_rfl
  g16 := by kernel_rfl
  g17 := by kernel_rfl
  g18 := by kernel_rfl
  g19 := by kernel_rfl }
set_option maxRecDepth 100000 in
def atoieR_ren : Go.Shelf.Ren := ⟨fun | 172 => 120 | 244 => 132 | 245 => 133 | 247 => 144 | 279 => 145 | 280 => 146 | 281 => 147 | 282 => 148 | 287 => 154 | 316 => 155 | 171 => 98 | 205 => 156 | 321 => 160 | 322 => 161 | 243 => 109 | 246 => 119 | 283 => 128 | 284 => 129 | 285 => 130 | 286 => 131 | 129 => 140 | 317 => 139 | 318 => 141 | 319 => 142 | 320 => 143 | 337 => 152 | 338 => 153 | n => n, fun | 9 => 9 | 3 => 3 | 75 => 123 | 76 => 124 | 4 => 4 | 5 => 5 | 167 => 143 | 37 => 22 | 0 => 0 | 85 => 144 | 2 => 2 | 168 => 146 | 53 => 130 | 175 => 150 | 46 => 128 | 210 => 154 | 127 => 160 | 145 => 163 | 143 => 161 | 21 => 21 | 171 => 129 | 173 => 133 | 212 => 140 | 51 => 136 | 20 => 20 | 213 => 141 | 232 => 157 | 233 => 158 | 80 => 107 | n => n, fun | 15 => 4 | 16 => 5 | 17 => 3 | 18 => 6 | 19 => 7 | n => n⟩
set_option maxRecDepth 100000 in
theorem atoieR : Go.Proofs.LaysC.n172 Tryz.prog atoieR_ren := {
  mixed := by kernel_rfl
  f129 := Tryz.func140.trans (congrArg some (by kernel_rfl))
  f171 := Tryz.func98.trans (congrArg some (by kernel_rfl))
  f172 := Tryz.func120.trans (congrArg some (by kernel_rfl))
  f205 := Tryz.func156.trans (congrArg some (by kernel_rfl))
  f243 := Tryz.func109.trans (congrArg some (by kernel_rfl))
  f244 := Tryz.func132.trans (congrArg some (by kernel_rfl))
  f245 := Tryz.func133.trans (congrArg some (by kernel_rfl))
  f246 := Tryz.func119.trans (congrArg some (by kernel_rfl))
  f247 := Tryz.func144.trans (congrArg some (by kernel_rfl))
  f279 := Tryz.func145.trans (congrArg some (by kernel_rfl))
  f280 := Tryz.func146.trans (congrArg some (by kernel_rfl))
  f281 := Tryz.func147.trans (congrArg some (by kernel_rfl))
  f282 := Tryz.func148.trans (congrArg some (by kernel_rfl))
  f283 := Tryz.func128.trans (congrArg some (by kernel_rfl))
  f284 := Tryz.func129.trans (congrArg some (by kernel_rfl))
  f285 := Tryz.func130.trans (congrArg some (by kernel_rfl))
  f286 := Tryz.func131.trans (congrArg some (by kernel_rfl))
  f287 := Tryz.func154.trans (congrArg some (by kernel_rfl))
  f316 := Tryz.func155.trans (congrArg some (by kernel_rfl))
  f317 := Tryz.func139.trans (congrArg some (by kernel_rfl))
  f318 := Tryz.func141.trans (congrArg some (by kernel_rfl))
  f319 := Tryz.func142.trans (congrArg some (by kernel_rfl))
  f320 := Tryz.func143.trans (congrArg some (by kernel_rfl))
  f321 := Tryz.func160.trans (congrArg some (by kernel_rfl))
  f322 := Tryz.func161.trans (congrArg some (by kernel_rfl))
  f337 := Tryz.func152.trans (congrArg some (by kernel_rfl))
  f338 := Tryz.func153.trans (congrArg some (by kernel_rfl))
  t0 := Tryz.underlying0
  a0 := Tryz.isAgg0
  z0 := Tryz.sizeOf0
  v0 := Tryz.zeroValue0
  t2 := Tryz.underlying2
  a2 := Tryz.isAgg2
  z2 := Tryz.sizeOf2
  v2 := Tryz.zeroValue2
  t3 := Tryz.underlying3
  a3 := Tryz.isAgg3
  z3 := Tryz.sizeOf3
  v3 := Tryz.zeroValue3
  t4 := Tryz.underlying4
  a4 := Tryz.isAgg4
  z4 := Tryz.sizeOf4
  v4 := Tryz.zeroValue4
  t5 := Tryz.underlying5
  a5 := Tryz.isAgg5
  z5 := Tryz.sizeOf5
  v5 := Tryz.zeroValue5
  t9 := Tryz.underlying9
  a9 := Tryz.isAgg9
  z9 := Tryz.sizeOf9
  v9 := Tryz.zeroValue9
  t20 := Tryz.underlying20
  a20 := Tryz.isAgg20
  z20 := Tryz.sizeOf20
  v20 := Tryz.zeroValue20
  t21 := Tryz.underlying21
  a21 := Tryz.isAgg21
  z21 := Tryz.sizeOf21
  v21 := Tryz.zeroValue21
  t37 := Tryz.underlying22
  a37 := Tryz.isAgg22
  z37 := Tryz.sizeOf22
  v37 := Tryz.zeroValue22
  t46 := Tryz.underlying128
  a46 := Tryz.isAgg128
  z46 := Tryz.sizeOf128
  v46 := Tryz.zeroValue128
  t51 := Tryz.underlying136
  a51 := Tryz.isAgg136
  z51 := Tryz.sizeOf136
  v51 := Tryz.zeroValue136
  t53 := Tryz.underlying130
  a53 := Tryz.isAgg130
  z53 := Tryz.sizeOf130
  v53 := Tryz.zeroValue130
  t75 := Tryz.underlying123
  a75 := Tryz.isAgg123
  z75 := Tryz.sizeOf123
  v75 := Tryz.zeroValue123
  t76 := Tryz.underlying124
  a76 := Tryz.isAgg124
  z76 := Tryz.sizeOf124
  v76 := Tryz.zeroValue124
  t85 := Tryz.underlying144
  a85 := Tryz.isAgg144
  z85 := Tryz.sizeOf144
  v85 := Tryz.zeroValue144
  t127 := Tryz.underlying160
  a127 := Tryz.isAgg160
  z127 := Tryz.sizeOf160
  v127 := Tryz.zeroValue160
  t143 := Tryz.underlying161
  a143 := Tryz.isAgg161
  z143 := Tryz.sizeOf161
  v143 := Tryz.zeroValue161
  t145 := Tryz.underlying163
  a145 := Tryz.isAgg163
  z145 := Tryz.sizeOf163
  v145 := Tryz.zeroValue163
  t167 := Tryz.underlying143
  a167 := Tryz.isAgg143
  z167 := Tryz.sizeOf143
  v167 := Tryz.zeroValue143
  t168 := Tryz.underlying146
  a168 := Tryz.isAgg146
  z168 := Tryz.sizeOf146
  v168 := Tryz.zeroValue146
  t171 := Tryz.underlying129
  a171 := Tryz.isAgg129
  z171 := Tryz.sizeOf129
  v171 := Tryz.zeroValue129
  t173 := Tryz.underlying133
  a173 := Tryz.isAgg133
  z173 := Tryz.sizeOf133
  v173 := Tryz.zeroValue133
  t175 := Tryz.underlying150
  a175 := Tryz.isAgg150
  z175 := Tryz.sizeOf150
  v175 := Tryz.zeroValue150
  t210 := Tryz.underlying154
  a210 := Tryz.isAgg154
  z210 := Tryz.sizeOf154
  v210 := Tryz.zeroValue154
  t212 := Tryz.underlying140
  a212 := Tryz.isAgg140
  z212 := Tryz.sizeOf140
  v212 := Tryz.zeroValue140
  t213 := Tryz.underlying141
  a213 := Tryz.isAgg141
  z213 := Tryz.sizeOf141
  t232 := Tryz.underlying157
  a232 := Tryz.isAgg157
  z232 := Tryz.sizeOf157
  v232 := Tryz.zeroValue157
  t233 := Tryz.underlying158
  a233 := Tryz.isAgg158
  z233 := Tryz.sizeOf158
  v233 := Tryz.zeroValue158
  g15 := by kernel_rfl
  g16 := by kernel_rfl
  g17 := by kernel_rfl
  g18 := by kernel_rfl
  g19 := by kernel_rfl
  t80 := Tryz.underlying107
  a80 := Tryz.isAgg107
  z80 := Tryz.sizeOf107
  v80 := Tryz.zeroValue107
  i0 := by kernel_rfl
  i2 := by kernel_rfl
  i3 := by kernel_rfl
  i4 := by kernel_rfl
  i5 := by kernel_rfl
  i9 := by kernel_rfl
  i20 := by kernel_rfl
  i21 := by kernel_rfl
  i37 := by kernel_rfl
  i46 := by kernel_rfl
  i51 := by kernel_rfl
  i53 := by kernel_rfl
  i75 := by kernel_rfl
  i76 := by kernel_rfl
  i80 := by kernel_rfl
  i85 := by kernel_rfl
  i127 := by kernel_rfl
  i143 := by kernel_rfl
  i145 := by kernel_rfl
  i167 := by kernel_rfl
  i168 := by kernel_rfl
  i171 := by kernel_rfl
  i173 := by kernel_rfl
  i175 := by kernel_rfl
  i210 := by kernel_rfl
  i212 := by kernel_rfl
  i232 := by kernel_rfl
  i233 := by kernel_rfl
  m15 := by kernel_rfl
  m16 := by kernel_rfl
  m17 := by kernel_rfl
  m18 := by kernel_rfl
  m19 := by kernel_rfl
  c0 := by kernel_rfl
  c2 := by kernel_rfl
  c3 := by kernel_rfl
  c4 := by kernel_rfl
  c5 := by kernel_rfl
  c9 := by kernel_rfl
  c20 := by kernel_rfl
  c21 := by kernel_rfl
  c37 := by kernel_rfl
  c46 := by kernel_rfl
  c51 := by kernel_rfl
  c53 := by kernel_rfl
  c75 := by kernel_rfl
  c76 := by kernel_rfl
  c80 := by kernel_rfl
  c85 := by kernel_rfl
  c127 := by kernel_rfl
  c143 := by kernel_rfl
  c145 := by kernel_rfl
  c167 := by kernel_rfl
  c168 := by kernel_rfl
  c171 := by kernel_rfl
  c173 := by kernel_rfl
  c175 := by kernel_rfl
  c210 := by kernel_rfl
  c212 := by kernel_rfl
  c213 := by kernel_rfl
  c232 := by kernel_rfl
  c233 := by kernel_rfl }
set_option maxRecDepth 100000 in
def contR_ren : Go.Shelf.Ren := ⟨fun | 144 => 92 | 143 => 105 | 219 => 116 | 217 => 123 | 225 => 124 | 224 => 125 | 267 => 126 | 266 => 136 | 314 => 137 | n => n, fun | 9 => 9 | 4 => 4 | 3 => 3 | 5 => 5 | 46 => 128 | 146 => 137 | 51 => 136 | n => n, fun | 1 => 2 | n => n⟩
set_option maxRecDepth 100000 in
theorem contR : Go.Proofs.Lays.n144 Tryz.prog contR_ren := {
  mixed := by kernel_rfl
  f143 := Tryz.func105.trans (congrArg some (by kernel_rfl))
  f144 := Tryz.func92.trans (congrArg some (by kernel_rfl))
  f217 := Tryz.func123.trans (congrArg some (by kernel_rfl))
  f219 := Tryz.func116.trans (congrArg some (by kernel_rfl))
  f224 := Tryz.func125.trans (congrArg some (by kernel_rfl))
  f225 := Tryz.func124.trans (congrArg some (by kernel_rfl))
  f266 := Tryz.func136.trans (congrArg some (by kernel_rfl))
  f267 := Tryz.func126.trans (congrArg some (by kernel_rfl))
  f314 := Tryz.func137.trans (congrArg some (by kernel_rfl))
  t3 := Tryz.underlying3
  a3 := Tryz.isAgg3
  z3 := Tryz.sizeOf3
  v3 := Tryz.zeroValue3
  t4 := Tryz.underlying4
  a4 := Tryz.isAgg4
  z4 := Tryz.sizeOf4
  v4 := Tryz.zeroValue4
  t5 := Tryz.underlying5
  a5 := Tryz.isAgg5
  z5 := Tryz.sizeOf5
  v5 := Tryz.zeroValue5
  t9 := Tryz.underlying9
  a9 := Tryz.isAgg9
  z9 := Tryz.sizeOf9
  v9 := Tryz.zeroValue9
  t46 := Tryz.underlying128
  a46 := Tryz.isAgg128
  z46 := Tryz.sizeOf128
  v46 := Tryz.zeroValue128
  t51 := Tryz.underlying136
  a51 := Tryz.isAgg136
  z51 := Tryz.sizeOf136
  v51 := Tryz.zeroValue136
  t146 := Tryz.underlying137
  a146 := Tryz.isAgg137
  z146 := Tryz.sizeOf137
  v146 := Tryz.zeroValue137
  g1 := by kernel_rfl }
theorem pow10_vals : (Lib.pow10Tab.map fun z => Value.int .u64 z).toArray = #[.int .u64 1, .int .u64 10, .int .u64 100, .int .u64 1000, .int .u64 10000, .int .u64 100000, .int .u64 1000000, .int .u64 10000000, .int .u64 100000000, .int .u64 1000000000, .int .u64 10000000000, .int .u64 100000000000, .int .u64 1000000000000, .int .u64 10000000000000, .int .u64 100000000000000, .int .u64 1000000000000000, .int .u64 10000000000000000, .int .u64 100000000000000000, .int .u64 1000000000000000000, .int .u64 10000000000000000000] := by
  rfl
theorem grow_ext (w : World) (k : Nat) (os : Array Obj) : Ext w (Go.Sort.grow (w.drewN k) os) := ⟨rfl, rfl, rfl, by simp [Go.Sort.grow, World.drewN], fun b hb => by
  show (w.heap ++ os)[b]? = _
  exact Array.getElem?_append_left hb⟩
theorem c_Itoa {n : Int} (h0 : -9223372036854775808 ≤ n) (h1 : n ≤ 9223372036854775807) : Con Tryz.prog noMv 98 [AM.int n] [] (fun r h => r = .d (.str (Lib.itoa n)) ∧ h = []) := by
  intro X β w us hX hd H A hG
  rw [AL] at A
  obtain ⟨v1, r1, rfl, A1, A⟩ := A
  rw [AL] at A
  subst A
  rw [AR, DR] at A1
  subst A1
  have htab : Lib.TabIs Tryz.prog w "internal/strconv.uint64pow10" .u64 Lib.pow10Tab := by
    have hg : (Tryz.prog).globalNamed "internal/strconv.uint64pow10" = some 3 := by kernel_rfl
    obtain ⟨_, _, _, ty, fr, rfl, h⟩ := hG _ (List.mem_cons_self) _ hg
    unfold Lib.TabIs World.var?
    rw [hg]
    show (match w.heap[3]? with
      | some (.cells cs _ _) => some cs
      | _ => none) = _
    rw [h, pow10_vals]
  refine (Any.strconv_Itoa itoaR n h0 h1 w htab).mono ?_
  rintro e w' ⟨rfl, k, os, rfl⟩
  have E := grow_ext w k os
  refine ⟨_, _, [], β, rfl, ⟨rfl, rfl⟩, by rw [AR, DR], H.ext E, ?_, fun e b hb => ⟨hd e b hb, .inr ⟨e, hb⟩⟩, fun _ _ _ _ => rfl⟩
  exact Fr.ext ⟨rfl, rfl, rfl, Nat.le_refl _, fun _ _ _ => rfl, fun b c ty fr h => ⟨c, ty, fr, h, rfl⟩⟩ E
theorem below_ext {w w' : World} (h : Below w.heap.size w w') : Ext w w' := ⟨h.os, h.tape, h.output, h.size, h.block⟩
theorem bytes_ext (w : World) (ty : TypeId) (t : ByteArray) : Ext w (Lib.bytesWorld w ty t) := below_ext (Lib.bytesWorld_below w ty t)
theorem c_Atoi {s : Str} (hl : s.length ≤ 18) : Con Tryz.prog noMv 120 [AM.str s] [] (fun r h => (∃ v, r = .tup [AM.int ((Lib.atoi s).getD 0), .raw v] ∧ ((v = .nilIface ∧ (Lib.atoi s).isSome = true) ∨ ((∃ te pe, v = .iface te pe) ∧ (Lib.atoi s).isSome = false))) ∧ h = []) := by
  intro X β w us hX hd H A hG
  rw [AL] at A
  obtain ⟨v1, r1, rfl, A1, A⟩ := A
  rw [AL] at A
  subst A
  rw [AR, DR] at A1
  subst A1
  have hsz : (⟨s.toArray⟩ : ByteArray).size ≤ 18 := by show s.toArray.size ≤ 18; simpa using hl
  cases hs : Lib.atoi s with
  | some n =>
    refine (Any.strconv_Atoi atoiR ⟨s.toArray⟩ n hsz (by simpa using hs) w).mono ?_
    rintro e w' ⟨rfl, t, rfl⟩
    have E := bytes_ext w (atoiR_ren.t 5) t
    refine ⟨_, .tup [AM.int n, .raw .nilIface], [], β, rfl, ⟨⟨_, rfl, .inl ⟨rfl, rfl⟩⟩, rfl⟩, ?_, H.ext E, ?_, fun e b hb => ⟨hd e b hb, .inr ⟨e, hb⟩⟩, fun _ _ _ _ => rfl⟩
    · rw [AR]; exact ⟨_, rfl, by simp [AL, AR, DR, AM.int]⟩
    exact Fr.ext ⟨rfl, rfl, rfl, Nat.le_refl _, fun _ _ _ => rfl, fun b c ty fr h => ⟨c, ty, fr, h, rfl⟩⟩ E
  | none =>
    have hg : (Tryz.prog).globalNamed "strconv.ErrSyntax" = some 4 := by kernel_rfl
    obtain ⟨_, _, _, ty, fr, ⟨ev, rfl, hev⟩, h⟩ := hG _ (List.mem_cons_of_mem _ (List.mem_cons_of_mem _ (List.mem_cons_of_mem _ List.mem_cons_self))) _ hg
    have hcell : w.cell? ⟨4, 0, none⟩ = some ev := by
      unfold World.cell?
      simp only [h]
      rfl
    refine ((Any.strconv_Atoi_err atoieR ⟨s.toArray⟩ hsz (by simpa using hs) ev w hcell hev)).mono ?_
    rintro e w' ⟨N, rfl, h1, h2, h3⟩
    have E := below_ext h3
    refine ⟨_, .tup [AM.int 0, .raw (.iface (atoieR_ren.t 168) (.pointer (some ⟨N, 0, none⟩)))], [], β, rfl, ⟨⟨_, rfl, .inr ⟨⟨_, _, rfl⟩, rfl⟩⟩, rfl⟩, ?_, H.ext E, ?_, fun e b hb => ⟨hd e b hb, .inr ⟨e, hb⟩⟩, fun _ _ _ _ => rfl⟩
    · rw [AR]; exact ⟨_, rfl, by simp [AL, AR, DR, AM.int]⟩
    exact Fr.ext ⟨rfl, rfl, rfl, Nat.le_refl _, fun _ _ _ => rfl, fun b c ty fr h => ⟨c, ty, fr, h, rfl⟩⟩ E
theorem c_Contains1 {s : Str} {c : UInt8} : Con Tryz.prog noMv 92 [AM.str s, AM.str [c]] [] (fun r h => r = AM.bool (decide (0 ≤ Lib.indexByte s c)) ∧ h = []) := by
  intro X β w us hX hd H A hG
  rw [AL] at A
  obtain ⟨v1, r1, rfl, A1, A⟩ := A
  rw [AL] at A
  obtain ⟨v2, r2, rfl, A2, A⟩ := A
  rw [AL] at A
  subst A
  rw [AR, DR] at A1 A2
  subst A1 A2
  refine (Any.strings_Contains_one contR ⟨s.toArray⟩ c w).mono ?_
  rintro e w' ⟨rfl, rfl⟩
  have E := Ext.refl w'
  refine ⟨_, _, [], β, rfl, ⟨rfl, rfl⟩, by rw [AR, DR], H.ext E, ?_, fun e b hb => ⟨hd e b hb, .inr ⟨e, hb⟩⟩, fun _ _ _ _ => rfl⟩
  exact Fr.ext ⟨rfl, rfl, rfl, Nat.le_refl _, fun _ _ _ => rfl, fun b c ty fr h => ⟨c, ty, fr, h, rfl⟩⟩ E
theorem reading_idle (a : Addr) (w : World) : CallsD Tryz.prog 55 #[.pointer (some a)] .returning w fun e u' w' => e = .returned (.tuple #[]) ∧ u' = .returning ∧ w' = w := by
  refine callsD_of_wpS Tryz.func55 rfl fun c₀ cs hu => ?_
  apply wpS_seq
  apply wpS_region
  simp [wpOpsS, go_sem, recoverD, hu, Tryz.ntmps55, Exit.thenS]
  apply wpS_seq
  apply wpS_region
  simp [wpOpsS, go_sem, Exit.thenS]
  refine wpS_cond (t := false) (by simp [Act.eval, Array.replicate]) ?_
  try simp only [if_false, Bool.false_eq_true]
  refine wpS_of_wp (wp_skip ?_)
  cases c₀
  simp_all [bodyPostS, results, Tryz.results55]
theorem reading_raw {g : Nat} {cap : Array Value} {w : World} {R : World → Prop}
  (hc : ∀ (args : Array Value) (w : World), (callFunc g args).run Tryz.prog w = .ok (.enter g args) w)
  (h : Calls Tryz.prog g cap (w.alloc (.cells #[.int .i64 0] 3)) (fun e w2 => e = .returned (.tuple #[]) ∧ w2.heap[w.heap.size]? = some (.cells #[.int .i64 0] 3 (0, 0)) ∧ R w2)) :
  Calls Tryz.prog 28 #[.func (.func g) #[] cap] w (fun e w' => ∃ w2, e = .returned (.int .i64 0) ∧ R w2 ∧ w' = w2.setCell ⟨w.heap.size, 0, none⟩ (.int .i64 0)) := by
  have hmf : ∀ (fn : Fn) (first cap : Array Value) (w : World), (Instr.makeFunc fn first cap).run Tryz.prog w = .ok (.func fn first cap) w := fun _ _ _ _ => rfl
  go_enter_defers Tryz.func28, Tryz.ntmps28
  go_wp2
  rename_i Q K1 a1 K2 a2
  refine h.mono ?_
  rintro e w2 ⟨rfl, hcell, hR⟩
  have hc1 : w2.cell? ⟨w.heap.size, 0, none⟩ = some (.int .i64 0) := by unfold World.cell?; simp only [hcell]; rfl
  have hc2 : w2.frozen? ⟨w.heap.size, 0, none⟩ = false := by unfold World.frozen?; simp only [hcell]; rfl
  refine a2 _ _ ?_
  go_wp2
  refine leaves_cons (f := 55) (args := #[.pointer (some ⟨w.heap.size, 0, none⟩)]) (by simp) (by simp [go_sem]) ?_
  refine (reading_idle ⟨w.heap.size, 0, none⟩ _).mono ?_
  rintro e u' w'' ⟨rfl, rfl, rfl⟩
  have hc3 := World.cell?_setCell_same w2 ⟨w.heap.size, 0, none⟩ (.int .i64 0) hc1
  simp [Leaves, settle, results, Tryz.results28, go_sem, hc3]
  exact ⟨w2, hR, rfl⟩
theorem alloc_ext (w : World) (o : Obj) : Ext w (w.alloc o) := below_ext (Below.alloc (Below.refl _ _) (Nat.le_refl _) o)
theorem set_ext {w : World} {n : Nat} (h : w.heap[n]? = some (.cells #[.int .i64 0] 3 (0, 0))) : Ext w (w.setCell ⟨n, 0, none⟩ (.int .i64 0)) := by
  refine ⟨rfl, rfl, rfl, ?_, ?_⟩
  · simp [World.setCell]
  · intro b _
    simp only [World.setCell, Array.getElem?_modify]
    by_cases hb : n = b
    · subst hb
      rw [if_pos rfl, h]
      simp
    · rw [if_neg hb]
theorem gok_ext {P : Program} {X : Nat → Prop} {β : Names} {w w' : World} (h : GOK P X β w) (E : Ext w w') : GOK P X β w' := by
  intro p hp g hg
  obtain ⟨h1, h2, cs, ty, fr, h3, h4⟩ := h p hp g hg
  exact ⟨h1, h2, cs, ty, fr, h3, by rw [E.same g (GOK.lt (P := P) (X := X) (β := β) h4)]; exact h4⟩
theorem c_reading {g : Nat} {caps : List AV} {own : List (Nat × OB)} {mv : Nat → Bool} {post' : List (Nat × OB) → Prop} (hb : hasBody Tryz.prog g = true)
    (h : Con Tryz.prog mv g caps own (fun r h => r = .tup [] ∧ post' h)) : Con Tryz.prog mv 28 [.fn (.func g) caps] own (fun r h => r = AM.int 0 ∧ post' h) := by
  intro X β w us hX hd H A hG
  rw [AL] at A
  obtain ⟨v1, r1, rfl, A1, A⟩ := A
  rw [AL] at A
  subst A
  rw [AR] at A1
  obtain ⟨vs, rfl, A1⟩ := A1
  have E := alloc_ext w (.cells #[.int .i64 0] 3)
  have hn : (w.alloc (.cells #[.int .i64 0] 3)).heap[w.heap.size]? = some (.cells #[.int .i64 0] 3 (0, 0)) := by simp [World.alloc, -World.alloc_eq]
  have hs1 : (w.alloc (.cells #[.int .i64 0] 3)).heap.size = w.heap.size + 1 := by simp [World.alloc, -World.alloc_eq]
  have hcall := h X β (w.alloc (.cells #[.int .i64 0] 3)) vs.toList (fun b hb => Nat.lt_of_lt_of_le (hX b hb) E.size) hd (H.ext E) (A1.tr (E.tr H.lt)) (gok_ext hG E)
  refine (reading_raw (R := fun w2 => ∃ h' β', post' h' ∧ HR X β' h' w2 ∧ Fr β (w.alloc (.cells #[.int .i64 0] 3)) w2 ∧ (∀ e b, β' e = some b → (get h' e).isSome = true ∧ ((w.alloc (.cells #[.int .i64 0] 3)).heap.size ≤ b ∨ ∃ e', β e' = some b)) ∧ (∀ e, 1000 ≤ e → mv e = false → (get h' e).isSome = true → β' e = β e) ∧ w2.heap[w.heap.size]? = some (.cells #[.int .i64 0] 3 (0, 0)))
    (callFunc_run hb) (hcall.mono ?_)).mono ?_
  · rintro e w2 ⟨v, r, h', β', rfl, ⟨rfl, hp⟩, hr, H2, F, hm, hst⟩
    rw [AR] at hr
    obtain ⟨us, rfl, hu⟩ := hr
    rw [AL] at hu
    have hu : us = #[] := by simpa using hu
    have hc : w2.heap[w.heap.size]? = some (.cells #[.int .i64 0] 3 (0, 0)) := by
      rw [F.same w.heap.size (by rw [hs1]; exact Nat.lt_succ_self _) (fun e he => by have := H.lt e _ he; omega)]; exact hn
    exact ⟨by rw [hu], hc, h', β', hp, H2, F, hm, hst, hc⟩
  · rintro e w' ⟨w2, rfl, ⟨h', β', hp, H2, F, hm, hst, hc⟩, rfl⟩
    have E2 := set_ext hc
    refine ⟨_, AM.int 0, h', β', rfl, ⟨rfl, hp⟩, by rw [AM.int, AR, DR], H2.ext E2, ?_, fun e b hb => ?_, hst⟩
    · refine Fr.ext ⟨F.os.trans E.os, F.tape.trans E.tape, F.output.trans E.output, Nat.le_trans E.size F.size, fun b hb hne => (F.same b (Nat.lt_of_lt_of_le hb E.size) hne).trans (E.same b hb), fun b c ty fr hh => ?_⟩ E2
      exact F.bsize b c ty fr (by rw [E.same b (Array.getElem?_eq_some_iff.1 hh).1]; exact hh)
    · obtain ⟨h1, h2⟩ := hm e b hb
      exact ⟨h1, h2.imp (fun h => Nat.le_trans E.size h) id⟩
end Go.Proofs.YthdafcdhnjapnaaGreatDoor
