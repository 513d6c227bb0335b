/- What the proof of FnExactReadMulti needs: contracts of the functions that it reaches, each once. -/
import Derived.Test.YtcfdkckchbdafaaGreatDoorProg
import Derived.Test.YtcfdkckchbdafaaGreatDoorQMem
import Derived.Test.YtcfdkckchbdafaaGreatDoorQOpen
import Derived.Test.YtcfdkckchbdafaaGreatDoorLReadMultia
import Derived.Test.YtcfdkckchbdafaaGreatDoorLReadMultib
import Derived.Test.YtcfdkckchbdafaaGreatDoorLReadMultic
import Derived.Test.YtcfdkckchbdafaaGreatDoorLReadMultid
import Derived.WalkKit
import Derived.WalkSpells
import Derived.Below
import Derived.LoopTactic
import Derived.Outline
import Derived.Deep.QuietTactic
import Derived.BigQuiet
import Derived.Deep.LoopGhost
import Derived.Handy
import Derived.Lib.Hide
import Derived.Shelf.Abstract
import Derived.StillTailTactics
import Derived.OwnWalk
import Derived.Maps.AppendAt
import Derived.RegionTactic
import Derived.Deep.RegionHeld3
import Derived.IntWalk
import Derived.Deep.Upon
import Derived.Laws.OwnMore
import Derived.Maps.AppendAt
import Derived.Laws.BytesString
import Derived.Laws.Strings
import Derived.Lib.Bytes
import Derived.Lib.Strings
import Derived.Lib.FrozenHead
import Derived.Lib.RuneBytes
import Derived.Lib.LaidTab
import Derived.Laws.StructEq
import Derived.Lib.MapLaws
import Derived.Lib.OthersKept
import Derived.Laws.RangeAny
import Derived.Scope
import Derived.Lib.ItoaLen
import Derived.Lib.Join
import Derived.Shelf.Strconv.Itoa4
import Derived.Shelf.Strings.OnBuilder
import Derived.Shelf.Strings.BuilderK
import Derived.Shelf.Strings.BuilderRune
import Derived.Shelf.LaysM
import Derived.Ground.NamesProg
import Derived.Lib.ParseIntBTie
import Derived.Lib.SplitLaws
import Derived.Lib.Replace
import Derived.Shelf.LaysC
import Derived.Shelf.Strconv.ErrVarParseInt
import Derived.Shelf.Strconv.ParseIntPublic10
import Derived.Shelf.Strings.Prefix
import Derived.Shelf.Strings.Cut
import Derived.Shelf.Strings.Split
import Derived.Shelf.Strings.Replace
import Derived.Shelf.Small.Wraps
import Derived.Stop.IfaceNil
import Derived.Shelf.Small.Utf8
import Derived.Shelf.Strings.Runes
namespace Go.Proofs.YtcfdkckchbdafaaGreatDoor
open Go.RowKit

theorem shelf_M173 : Go.Proofs.LaysM.n173 Tryz.prog shelf_M173_ren := {
  mixed := by kernel_rfl
  f129 := Tryz.func236.trans (congrArg some (by kernel_rfl))
  f173 := Tryz.func164.trans (congrArg some (by kernel_rfl))
  f246 := Tryz.func203.trans (congrArg some (by kernel_rfl))
  f283 := Tryz.func223.trans (congrArg some (by kernel_rfl))
  f284 := Tryz.func224.trans (congrArg some (by kernel_rfl))
  f285 := Tryz.func225.trans (congrArg some (by kernel_rfl))
  f286 := Tryz.func226.trans (congrArg some (by kernel_rfl))
  f317 := Tryz.func235.trans (congrArg some (by kernel_rfl))
  f318 := Tryz.func237.trans (congrArg some (by kernel_rfl))
  f319 := Tryz.func238.trans (congrArg some (by kernel_rfl))
  f320 := Tryz.func239.trans (congrArg some (by kernel_rfl))
  f337 := Tryz.func240.trans (congrArg some (by kernel_rfl))
  f338 := Tryz.func241.trans (congrArg some (by kernel_rfl))
  t0 := Tryz.underlying0
  a0 := Tryz.isAgg0
  z0 := Tryz.sizeOf0
  v0 := Tryz.zeroValue0
  t2 := Tryz.underlying2
  a2 := Tryz.isAgg2
  z2 := Tryz.sizeOf2
  v2 := Tryz.zeroValue2
  t3 := Tryz.underlying3
  a3 := Tryz.isAgg3
  z3 := Tryz.sizeOf3
  v3 := Tryz.zeroValue3
  t4 := Tryz.underlying4
  a4 := Tryz.isAgg4
  z4 := Tryz.sizeOf4
  v4 := Tryz.zeroValue4
  t5 := Tryz.underlying5
  a5 := Tryz.isAgg5
  z5 := Tryz.sizeOf5
  v5 := Tryz.zeroValue5
  t9 := Tryz.underlying9
  a9 := Tryz.isAgg9
  z9 := Tryz.sizeOf9
  v9 := Tryz.zeroValue9
  t20 := Tryz.underlying20
  a20 := Tryz.isAgg20
  z20 := Tryz.sizeOf20
  v20 := Tryz.zeroValue20
  t37 := Tryz.underlying22
  a37 := Tryz.isAgg22
  z37 := Tryz.sizeOf22
  v37 := Tryz.zeroValue22
  t46 := Tryz.underlying210
  a46 := Tryz.isAgg210
  z46 := Tryz.sizeOf210
  v46 := Tryz.zeroValue210
  t51 := Tryz.underlying234
  a51 := Tryz.isAgg234
  z51 := Tryz.sizeOf234
  v51 := Tryz.zeroValue234
  t53 := Tryz.underlying216
  a53 := Tryz.isAgg216
  z53 := Tryz.sizeOf216
  v53 := Tryz.zeroValue216
  t171 := Tryz.underlying243
  a171 := Tryz.isAgg243
  z171 := Tryz.sizeOf243
  v171 := Tryz.zeroValue243
  t173 := Tryz.underlying246
  a173 := Tryz.isAgg246
  z173 := Tryz.sizeOf246
  v173 := Tryz.zeroValue246
  t212 := Tryz.underlying256
  a212 := Tryz.isAgg256
  z212 := Tryz.sizeOf256
  v212 := Tryz.zeroValue256
  t213 := Tryz.underlying257
  a213 := Tryz.isAgg257
  z213 := Tryz.sizeOf257
  t232 := Tryz.underlying264
  a232 := Tryz.isAgg264
  z232 := Tryz.sizeOf264
  v232 := Tryz.zeroValue264
  t233 := Tryz.underlying265
  a233 := Tryz.isAgg265
  z233 := Tryz.sizeOf265
  v233 := Tryz.zeroValue265
  g17 := by kernel_rfl
  g18 := by kernel_rfl
  g19 := by kernel_rfl
  i0 := by kernel_rfl
  i2 := by kernel_rfl
  i3 := by kernel_rfl
  i4 := by kernel_rfl
  i5 := by kernel_rfl
  i9 := by kernel_rfl
  i20 := by kernel_rfl
  i37 := by kernel_rfl
  i46 := by kernel_rfl
  i51 := by kernel_rfl
  i53 := by kernel_rfl
  i171 := by kernel_rfl
  i173 := by kernel_rfl
  i212 := by kernel_rfl
  i232 := by kernel_rfl
  i233 := by kernel_rfl
  m17 := by kernel_rfl
  m18 := by kernel_rfl
  m19 := by kernel_rfl }

def shelf_156_ren : Go.Shelf.Ren := ⟨fun | 0 => 0 | 1 => 1 | 2 => 2 | 101 => 121 | 119 => 189 | 129 => 236 | 137 => 188 | 138 => 171 | 143 => 172 | 145 => 69 | 146 => 78 | 152 => 152 | 153 => 136 | 154 => 173 | 155 => 129 | 156 => 144 | 165 => 184 | 166 => 185 | 167 => 195 | 168 => 194 | 169 => 186 | 171 => 222 | 173 => 164 | 174 => 119 | 195 => 209 | 197 => 210 | 205 => 221 | 206 => 204 | 208 => 165 | 217 => 196 | 218 => 211 | 219 => 161 | 220 => 118 | 221 => 128 | 224 => 190 | 225 => 191 | 226 => 178 | 227 => 179 | 228 => 180 | 240 => 212 | 241 => 213 | 242 => 215 | 243 => 234 | 245 => 163 | 246 => 203 | 247 => 162 | 260 => 229 | 266 => 216 | 267 => 197 | 268 => 170 | 276 => 230 | 277 => 231 | 278 => 233 | 279 => 199 | 280 => 200 | 281 => 201 | 282 => 202 | 283 => 223 | 284 => 224 | 285 => 225 | 286 => 226 | 287 => 198 | 314 => 217 | 316 => 220 | 317 => 235 | 318 => 237 | 319 => 238 | 320 => 239 | 321 => 218 | 322 => 219 | 337 => 240 | 338 => 241 | 347 => 242 | 348 => 243 | 349 => 244 | 350 => 245 | 351 => 246 | 352 => 247 | 353 => 248 | 354 => 249 | 355 => 250 | 356 => 251 | 357 => 252 | 358 => 253 | 359 => 254 | 360 => 255 | 361 => 256 | 362 => 257 | 363 => 260 | 364 => 258 | 365 => 259 | 366 => 261 | 367 => 271 | n => n, fun | 0 => 0 | 1 => 1 | 2 => 2 | 3 => 3 | 4 => 4 | 5 => 5 | 6 => 6 | 7 => 7 | 8 => 8 | 9 => 9 | 10 => 10 | 11 => 11 | 12 => 12 | 13 => 13 | 14 => 14 | 15 => 15 | 16 => 16 | 17 => 17 | 18 => 18 | 19 => 19 | 20 => 20 | 21 => 21 | 22 => 222 | 23 => 148 | 27 => 164 | 31 => 78 | 37 => 22 | 40 => 208 | 41 => 142 | 46 => 210 | 47 => 258 | 51 => 234 | 52 => 263 | 53 => 216 | 54 => 244 | 55 => 207 | 59 => 103 | 60 => 104 | 61 => 108 | 64 => 179 | 65 => 190 | 66 => 156 | 67 => 174 | 69 => 238 | 70 => 199 | 71 => 200 | 72 => 201 | 73 => 202 | 74 => 143 | 75 => 144 | 76 => 203 | 77 => 204 | 78 => 214 | 79 => 213 | 80 => 205 | 81 => 271 | 83 => 242 | 84 => 187 | 85 => 145 | 86 => 146 | 103 => 227 | 104 => 58 | 105 => 228 | 106 => 229 | 108 => 241 | 111 => 192 | 113 => 155 | 114 => 209 | 115 => 193 | 116 => 194 | 117 => 195 | 118 => 196 | 119 => 259 | 124 => 230 | 126 => 233 | 127 => 231 | 128 => 186 | 137 => 260 | 138 => 261 | 139 => 262 | 143 => 252 | 144 => 253 | 145 => 254 | 146 => 235 | 150 => 189 | 151 => 236 | 164 => 249 | 165 => 250 | 166 => 251 | 167 => 215 | 168 => 219 | 169 => 220 | 170 => 221 | 171 => 243 | 172 => 245 | 173 => 246 | 174 => 247 | 175 => 217 | 176 => 218 | 209 => 239 | 210 => 240 | 211 => 255 | 212 => 256 | 213 => 257 | 214 => 237 | 232 => 264 | 233 => 265 | 238 => 266 | 239 => 267 | 240 => 268 | 241 => 269 | 242 => 270 | 243 => 272 | 244 => 273 | 245 => 274 | 246 => 275 | 247 => 276 | 248 => 277 | 249 => 278 | n => n, fun | 1 => 0 | 3 => 4 | 4 => 5 | 15 => 1 | 16 => 2 | 17 => 3 | 18 => 6 | 19 => 7 | n => n⟩

theorem shelf_156 : Go.Proofs.Lays.n156 Tryz.prog shelf_156_ren := {
  mixed := by kernel_rfl
  f156 := Tryz.func144.trans (congrArg some (by kernel_rfl))
  f165 := Tryz.func184.trans (congrArg some (by kernel_rfl))
  f166 := Tryz.func185.trans (congrArg some (by kernel_rfl))
  f169 := Tryz.func186.trans (congrArg some (by kernel_rfl))
  f240 := Tryz.func212.trans (congrArg some (by kernel_rfl))
  f241 := Tryz.func213.trans (congrArg some (by kernel_rfl))
  f276 := Tryz.func230.trans (congrArg some (by kernel_rfl))
  f277 := Tryz.func231.trans (congrArg some (by kernel_rfl))
  t0 := Tryz.underlying0
  a0 := Tryz.isAgg0
  z0 := Tryz.sizeOf0
  v0 := Tryz.zeroValue0
  t3 := Tryz.underlying3
  a3 := Tryz.isAgg3
  z3 := Tryz.sizeOf3
  v3 := Tryz.zeroValue3
  t4 := Tryz.underlying4
  a4 := Tryz.isAgg4
  z4 := Tryz.sizeOf4
  v4 := Tryz.zeroValue4
  t9 := Tryz.underlying9
  a9 := Tryz.isAgg9
  z9 := Tryz.sizeOf9
  v9 := Tryz.zeroValue9
  t20 := Tryz.underlying20
  a20 := Tryz.isAgg20
  z20 := Tryz.sizeOf20
  v20 := Tryz.zeroValue20
  t31 := Tryz.underlying78
  a31 := Tryz.isAgg78
  z31 := Tryz.sizeOf78
  v31 := Tryz.zeroValue78
  t37 := Tryz.underlying22
  a37 := Tryz.isAgg22
  z37 := Tryz.sizeOf22
  v37 := Tryz.zeroValue22
  t70 := Tryz.underlying199
  a70 := Tryz.isAgg199
  z70 := Tryz.sizeOf199
  v70 := Tryz.zeroValue199
  t72 := Tryz.underlying201
  a72 := Tryz.isAgg201
  z72 := Tryz.sizeOf201
  v72 := Tryz.zeroValue201
  t75 := Tryz.underlying144
  a75 := Tryz.isAgg144
  z75 := Tryz.sizeOf144
  v75 := Tryz.zeroValue144
  t76 := Tryz.underlying203
  a76 := Tryz.isAgg203
  z76 := Tryz.sizeOf203
  v76 := Tryz.zeroValue203
  t127 := Tryz.underlying231
  a127 := Tryz.isAgg231
  z127 := Tryz.sizeOf231
  v127 := Tryz.zeroValue231
  t164 := Tryz.underlying249
  a164 := Tryz.isAgg249
  z164 := Tryz.sizeOf249
  v164 := Tryz.zeroValue249 }

theorem shelf_X_Builder_Extra_156 : Builder.Extra Tryz.prog shelf_156_ren where
  sizeBuilder := by kernel_rfl
  liesBuilder := by kernel_rfl
  t5 := Tryz.underlying5
  a5 := Tryz.isAgg5
  z5 := Tryz.sizeOf5
  v5 := Tryz.zeroValue5
  infoByte := by kernel_rfl
  cellsByte := by kernel_rfl
  sizeByte := by kernel_rfl
  neB5 := by decide

def shelf_168_ren : Go.Shelf.Ren := ⟨fun | 0 => 0 | 1 => 1 | 2 => 2 | 101 => 121 | 119 => 189 | 129 => 236 | 137 => 188 | 138 => 171 | 143 => 172 | 145 => 69 | 146 => 78 | 152 => 152 | 153 => 136 | 154 => 173 | 155 => 129 | 156 => 144 | 165 => 184 | 166 => 185 | 167 => 195 | 168 => 194 | 169 => 186 | 171 => 222 | 173 => 164 | 174 => 119 | 195 => 209 | 197 => 210 | 205 => 221 | 206 => 204 | 208 => 165 | 217 => 196 | 218 => 211 | 219 => 161 | 220 => 118 | 221 => 128 | 224 => 190 | 225 => 191 | 226 => 178 | 227 => 179 | 228 => 180 | 240 => 212 | 241 => 213 | 242 => 215 | 243 => 234 | 245 => 163 | 246 => 203 | 247 => 162 | 260 => 229 | 266 => 216 | 267 => 197 | 268 => 170 | 276 => 230 | 277 => 231 | 278 => 233 | 279 => 199 | 280 => 200 | 281 => 201 | 282 => 202 | 283 => 223 | 284 => 224 | 285 => 225 | 286 => 226 | 287 => 198 | 314 => 217 | 316 => 220 | 317 => 235 | 318 => 237 | 319 => 238 | 320 => 239 | 321 => 218 | 322 => 219 | 337 => 240 | 338 => 241 | 347 => 242 | 348 => 243 | 349 => 244 | 350 => 245 | 351 => 246 | 352 => 247 | 353 => 248 | 354 => 249 | 355 => 250 | 356 => 251 | 357 => 252 | 358 => 253 | 359 => 254 | 360 => 255 | 361 => 256 | 362 => 257 | 363 => 260 | 364 => 258 | 365 => 259 | 366 => 261 | 367 => 271 | n => n, fun | 0 => 0 | 1 => 1 | 2 => 2 | 3 => 3 | 4 => 4 | 5 => 5 | 6 => 6 | 7 => 7 | 8 => 8 | 9 => 9 | 10 => 10 | 11 => 11 | 12 => 12 | 13 => 13 | 14 => 14 | 15 => 15 | 16 => 16 | 17 => 17 | 18 => 18 | 19 => 19 | 20 => 20 | 21 => 21 | 22 => 222 | 23 => 148 | 27 => 164 | 31 => 78 | 37 => 22 | 40 => 208 | 41 => 142 | 46 => 210 | 47 => 258 | 51 => 234 | 52 => 263 | 53 => 216 | 54 => 244 | 55 => 207 | 59 => 103 | 60 => 104 | 61 => 108 | 64 => 179 | 65 => 190 | 66 => 156 | 67 => 174 | 69 => 238 | 70 => 199 | 71 => 200 | 72 => 201 | 73 => 202 | 74 => 143 | 75 => 144 | 76 => 203 | 77 => 204 | 78 => 214 | 79 => 213 | 80 => 205 | 81 => 271 | 83 => 242 | 84 => 187 | 85 => 145 | 86 => 146 | 103 => 227 | 104 => 58 | 105 => 228 | 106 => 229 | 108 => 241 | 111 => 192 | 113 => 155 | 114 => 209 | 115 => 193 | 116 => 194 | 117 => 195 | 118 => 196 | 119 => 259 | 124 => 230 | 126 => 233 | 127 => 231 | 128 => 186 | 137 => 260 | 138 => 261 | 139 => 262 | 143 => 252 | 144 => 253 | 145 => 254 | 146 => 235 | 150 => 189 | 151 => 236 | 164 => 249 | 165 => 250 | 166 => 251 | 167 => 215 | 168 => 219 | 169 => 220 | 170 => 221 | 171 => 243 | 172 => 245 | 173 => 246 | 174 => 247 | 175 => 217 | 176 => 218 | 209 => 239 | 210 => 240 | 211 => 255 | 212 => 256 | 213 => 257 | 214 => 237 | 232 => 264 | 233 => 265 | 238 => 266 | 239 => 267 | 240 => 268 | 241 => 269 | 242 => 270 | 243 => 272 | 244 => 273 | 245 => 274 | 246 => 275 | 247 => 276 | 248 => 277 | 249 => 278 | n => n, fun | 1 => 0 | 3 => 4 | 4 => 5 | 15 => 1 | 16 => 2 | 17 => 3 | 18 => 6 | 19 => 7 | n => n⟩

theorem shelf_168 : Go.Proofs.Lays.n168 Tryz.prog shelf_168_ren := {
  mixed := by kernel_rfl
  f168 := Tryz.func194.trans (congrArg some (by kernel_rfl))
  f240 := Tryz.func212.trans (congrArg some (by kernel_rfl))
  f242 := Tryz.func215.trans (congrArg some (by kernel_rfl))
  f276 := Tryz.func230.trans (congrArg some (by kernel_rfl))
  f278 := Tryz.func233.trans (congrArg some (by kernel_rfl))
  t0 := Tryz.underlying0
  a0 := Tryz.isAgg0
  z0 := Tryz.sizeOf0
  v0 := Tryz.zeroValue0
  t3 := Tryz.underlying3
  a3 := Tryz.isAgg3
  z3 := Tryz.sizeOf3
  v3 := Tryz.zeroValue3
  t4 := Tryz.underlying4
  a4 := Tryz.isAgg4
  z4 := Tryz.sizeOf4
  v4 := Tryz.zeroValue4
  t5 := Tryz.underlying5
  a5 := Tryz.isAgg5
  z5 := Tryz.sizeOf5
  v5 := Tryz.zeroValue5
  t9 := Tryz.underlying9
  a9 := Tryz.isAgg9
  z9 := Tryz.sizeOf9
  v9 := Tryz.zeroValue9
  t20 := Tryz.underlying20
  a20 := Tryz.isAgg20
  z20 := Tryz.sizeOf20
  v20 := Tryz.zeroValue20
  t21 := Tryz.underlying21
  a21 := Tryz.isAgg21
  z21 := Tryz.sizeOf21
  v21 := Tryz.zeroValue21
  t37 := Tryz.underlying22
  a37 := Tryz.isAgg22
  z37 := Tryz.sizeOf22
  v37 := Tryz.zeroValue22
  t46 := Tryz.underlying210
  a46 := Tryz.isAgg210
  z46 := Tryz.sizeOf210
  v46 := Tryz.zeroValue210
  t51 := Tryz.underlying234
  a51 := Tryz.isAgg234
  z51 := Tryz.sizeOf234
  v51 := Tryz.zeroValue234
  t70 := Tryz.underlying199
  a70 := Tryz.isAgg199
  z70 := Tryz.sizeOf199
  v70 := Tryz.zeroValue199
  t72 := Tryz.underlying201
  a72 := Tryz.isAgg201
  z72 := Tryz.sizeOf201
  v72 := Tryz.zeroValue201
  t75 := Tryz.underlying144
  a75 := Tryz.isAgg144
  z75 := Tryz.sizeOf144
  v75 := Tryz.zeroValue144
  t164 := Tryz.underlying249
  a164 := Tryz.isAgg249
  z164 := Tryz.sizeOf249
  v164 := Tryz.zeroValue249 }

theorem shelf_X_Builder_Extra_168 : Builder.Extra Tryz.prog shelf_168_ren where
  sizeBuilder := by kernel_rfl
  liesBuilder := by kernel_rfl
  t5 := Tryz.underlying5
  a5 := Tryz.isAgg5
  z5 := Tryz.sizeOf5
  v5 := Tryz.zeroValue5
  infoByte := by kernel_rfl
  cellsByte := by kernel_rfl
  sizeByte := by kernel_rfl
  neB5 := by decide

def shelf_167_ren : Go.Shelf.Ren := ⟨fun | 0 => 0 | 1 => 1 | 2 => 2 | 101 => 121 | 119 => 189 | 129 => 236 | 137 => 188 | 138 => 171 | 143 => 172 | 145 => 69 | 146 => 78 | 152 => 152 | 153 => 136 | 154 => 173 | 155 => 129 | 156 => 144 | 165 => 184 | 166 => 185 | 167 => 195 | 168 => 194 | 169 => 186 | 171 => 222 | 173 => 164 | 174 => 119 | 195 => 209 | 197 => 210 | 205 => 221 | 206 => 204 | 208 => 165 | 217 => 196 | 218 => 211 | 219 => 161 | 220 => 118 | 221 => 128 | 224 => 190 | 225 => 191 | 226 => 178 | 227 => 179 | 228 => 180 | 240 => 212 | 241 => 213 | 242 => 215 | 243 => 234 | 245 => 163 | 246 => 203 | 247 => 162 | 260 => 229 | 266 => 216 | 267 => 197 | 268 => 170 | 276 => 230 | 277 => 231 | 278 => 233 | 279 => 199 | 280 => 200 | 281 => 201 | 282 => 202 | 283 => 223 | 284 => 224 | 285 => 225 | 286 => 226 | 287 => 198 | 314 => 217 | 316 => 220 | 317 => 235 | 318 => 237 | 319 => 238 | 320 => 239 | 321 => 218 | 322 => 219 | 337 => 240 | 338 => 241 | 347 => 242 | 348 => 243 | 349 => 244 | 350 => 245 | 351 => 246 | 352 => 247 | 353 => 248 | 354 => 249 | 355 => 250 | 356 => 251 | 357 => 252 | 358 => 253 | 359 => 254 | 360 => 255 | 361 => 256 | 362 => 257 | 363 => 260 | 364 => 258 | 365 => 259 | 366 => 261 | 367 => 271 | n => n, fun | 0 => 0 | 1 => 1 | 2 => 2 | 3 => 3 | 4 => 4 | 5 => 5 | 6 => 6 | 7 => 7 | 8 => 8 | 9 => 9 | 10 => 10 | 11 => 11 | 12 => 12 | 13 => 13 | 14 => 14 | 15 => 15 | 16 => 16 | 17 => 17 | 18 => 18 | 19 => 19 | 20 => 20 | 21 => 21 | 22 => 222 | 23 => 148 | 27 => 164 | 31 => 78 | 37 => 22 | 40 => 208 | 41 => 142 | 46 => 210 | 47 => 258 | 51 => 234 | 52 => 263 | 53 => 216 | 54 => 244 | 55 => 207 | 59 => 103 | 60 => 104 | 61 => 108 | 64 => 179 | 65 => 190 | 66 => 156 | 67 => 174 | 69 => 238 | 70 => 199 | 71 => 200 | 72 => 201 | 73 => 202 | 74 => 143 | 75 => 144 | 76 => 203 | 77 => 204 | 78 => 214 | 79 => 213 | 80 => 205 | 81 => 271 | 83 => 242 | 84 => 187 | 85 => 145 | 86 => 146 | 103 => 227 | 104 => 58 | 105 => 228 | 106 => 229 | 108 => 241 | 111 => 192 | 113 => 155 | 114 => 209 | 115 => 193 | 116 => 194 | 117 => 195 | 118 => 196 | 119 => 259 | 124 => 230 | 126 => 233 | 127 => 231 | 128 => 186 | 137 => 260 | 138 => 261 | 139 => 262 | 143 => 252 | 144 => 253 | 145 => 254 | 146 => 235 | 150 => 189 | 151 => 236 | 164 => 249 | 165 => 250 | 166 => 251 | 167 => 215 | 168 => 219 | 169 => 220 | 170 => 221 | 171 => 243 | 172 => 245 | 173 => 246 | 174 => 247 | 175 => 217 | 176 => 218 | 209 => 239 | 210 => 240 | 211 => 255 | 212 => 256 | 213 => 257 | 214 => 237 | 232 => 264 | 233 => 265 | 238 => 266 | 239 => 267 | 240 => 268 | 241 => 269 | 242 => 270 | 243 => 272 | 244 => 273 | 245 => 274 | 246 => 275 | 247 => 276 | 248 => 277 | 249 => 278 | n => n, fun | 1 => 0 | 3 => 4 | 4 => 5 | 15 => 1 | 16 => 2 | 17 => 3 | 18 => 6 | 19 => 7 | n => n⟩

theorem shelf_167 : Go.Proofs.Lays.n167 Tryz.prog shelf_167_ren := {
  mixed := by kernel_rfl
  f167 := Tryz.func195.trans (congrArg some (by kernel_rfl))
  f240 := Tryz.func212.trans (congrArg some (by kernel_rfl))
  f276 := Tryz.func230.trans (congrArg some (by kernel_rfl))
  t0 := Tryz.underlying0
  a0 := Tryz.isAgg0
  z0 := Tryz.sizeOf0
  v0 := Tryz.zeroValue0
  t4 := Tryz.underlying4
  a4 := Tryz.isAgg4
  z4 := Tryz.sizeOf4
  v4 := Tryz.zeroValue4
  t5 := Tryz.underlying5
  a5 := Tryz.isAgg5
  z5 := Tryz.sizeOf5
  v5 := Tryz.zeroValue5
  t9 := Tryz.underlying9
  a9 := Tryz.isAgg9
  z9 := Tryz.sizeOf9
  v9 := Tryz.zeroValue9
  t20 := Tryz.underlying20
  a20 := Tryz.isAgg20
  z20 := Tryz.sizeOf20
  v20 := Tryz.zeroValue20
  t37 := Tryz.underlying22
  a37 := Tryz.isAgg22
  z37 := Tryz.sizeOf22
  v37 := Tryz.zeroValue22
  t70 := Tryz.underlying199
  a70 := Tryz.isAgg199
  z70 := Tryz.sizeOf199
  v70 := Tryz.zeroValue199
  t72 := Tryz.underlying201
  a72 := Tryz.isAgg201
  z72 := Tryz.sizeOf201
  v72 := Tryz.zeroValue201
  t75 := Tryz.underlying144
  a75 := Tryz.isAgg144
  z75 := Tryz.sizeOf144
  v75 := Tryz.zeroValue144
  t164 := Tryz.underlying249
  a164 := Tryz.isAgg249
  z164 := Tryz.sizeOf249
  v164 := Tryz.zeroValue249 }

theorem shelf_X_Builder_Extra_167 : Builder.Extra Tryz.prog shelf_167_ren where
  sizeBuilder := by kernel_rfl
  liesBuilder := by kernel_rfl
  t5 := Tryz.underlying5
  a5 := Tryz.isAgg5
  z5 := Tryz.sizeOf5
  v5 := Tryz.zeroValue5
  infoByte := by kernel_rfl
  cellsByte := by kernel_rfl
  sizeByte := by kernel_rfl
  neB5 := by decide

def shelf_169_ren : Go.Shelf.Ren := ⟨fun | 0 => 0 | 1 => 1 | 2 => 2 | 101 => 121 | 119 => 189 | 129 => 236 | 137 => 188 | 138 => 171 | 143 => 172 | 145 => 69 | 146 => 78 | 152 => 152 | 153 => 136 | 154 => 173 | 155 => 129 | 156 => 144 | 165 => 184 | 166 => 185 | 167 => 195 | 168 => 194 | 169 => 186 | 171 => 222 | 173 => 164 | 174 => 119 | 195 => 209 | 197 => 210 | 205 => 221 | 206 => 204 | 208 => 165 | 217 => 196 | 218 => 211 | 219 => 161 | 220 => 118 | 221 => 128 | 224 => 190 | 225 => 191 | 226 => 178 | 227 => 179 | 228 => 180 | 240 => 212 | 241 => 213 | 242 => 215 | 243 => 234 | 245 => 163 | 246 => 203 | 247 => 162 | 260 => 229 | 266 => 216 | 267 => 197 | 268 => 170 | 276 => 230 | 277 => 231 | 278 => 233 | 279 => 199 | 280 => 200 | 281 => 201 | 282 => 202 | 283 => 223 | 284 => 224 | 285 => 225 | 286 => 226 | 287 => 198 | 314 => 217 | 316 => 220 | 317 => 235 | 318 => 237 | 319 => 238 | 320 => 239 | 321 => 218 | 322 => 219 | 337 => 240 | 338 => 241 | 347 => 242 | 348 => 243 | 349 => 244 | 350 => 245 | 351 => 246 | 352 => 247 | 353 => 248 | 354 => 249 | 355 => 250 | 356 => 251 | 357 => 252 | 358 => 253 | 359 => 254 | 360 => 255 | 361 => 256 | 362 => 257 | 363 => 260 | 364 => 258 | 365 => 259 | 366 => 261 | 367 => 271 | n => n, fun | 0 => 0 | 1 => 1 | 2 => 2 | 3 => 3 | 4 => 4 | 5 => 5 | 6 => 6 | 7 => 7 | 8 => 8 | 9 => 9 | 10 => 10 | 11 => 11 | 12 => 12 | 13 => 13 | 14 => 14 | 15 => 15 | 16 => 16 | 17 => 17 | 18 => 18 | 19 => 19 | 20 => 20 | 21 => 21 | 22 => 222 | 23 => 148 | 27 => 164 | 31 => 78 | 37 => 22 | 40 => 208 | 41 => 142 | 46 => 210 | 47 => 258 | 51 => 234 | 52 => 263 | 53 => 216 | 54 => 244 | 55 => 207 | 59 => 103 | 60 => 104 | 61 => 108 | 64 => 179 | 65 => 190 | 66 => 156 | 67 => 174 | 69 => 238 | 70 => 199 | 71 => 200 | 72 => 201 | 73 => 202 | 74 => 143 | 75 => 144 | 76 => 203 | 77 => 204 | 78 => 214 | 79 => 213 | 80 => 205 | 81 => 271 | 83 => 242 | 84 => 187 | 85 => 145 | 86 => 146 | 103 => 227 | 104 => 58 | 105 => 228 | 106 => 229 | 108 => 241 | 111 => 192 | 113 => 155 | 114 => 209 | 115 => 193 | 116 => 194 | 117 => 195 | 118 => 196 | 119 => 259 | 124 => 230 | 126 => 233 | 127 => 231 | 128 => 186 | 137 => 260 | 138 => 261 | 139 => 262 | 143 => 252 | 144 => 253 | 145 => 254 | 146 => 235 | 150 => 189 | 151 => 236 | 164 => 249 | 165 => 250 | 166 => 251 | 167 => 215 | 168 => 219 | 169 => 220 | 170 => 221 | 171 => 243 | 172 => 245 | 173 => 246 | 174 => 247 | 175 => 217 | 176 => 218 | 209 => 239 | 210 => 240 | 211 => 255 | 212 => 256 | 213 => 257 | 214 => 237 | 232 => 264 | 233 => 265 | 238 => 266 | 239 => 267 | 240 => 268 | 241 => 269 | 242 => 270 | 243 => 272 | 244 => 273 | 245 => 274 | 246 => 275 | 247 => 276 | 248 => 277 | 249 => 278 | n => n, fun | 1 => 0 | 3 => 4 | 4 => 5 | 15 => 1 | 16 => 2 | 17 => 3 | 18 => 6 | 19 => 7 | n => n⟩

theorem shelf_169 : Go.Proofs.Lays.n169 Tryz.prog shelf_169_ren := {
  mixed := by kernel_rfl
  f169 := Tryz.func186.trans (congrArg some (by kernel_rfl))
  t0 := Tryz.underlying0
  a0 := Tryz.isAgg0
  z0 := Tryz.sizeOf0
  v0 := Tryz.zeroValue0
  t3 := Tryz.underlying3
  a3 := Tryz.isAgg3
  z3 := Tryz.sizeOf3
  v3 := Tryz.zeroValue3
  t9 := Tryz.underlying9
  a9 := Tryz.isAgg9
  z9 := Tryz.sizeOf9
  v9 := Tryz.zeroValue9
  t37 := Tryz.underlying22
  a37 := Tryz.isAgg22
  z37 := Tryz.sizeOf22
  v37 := Tryz.zeroValue22
  t70 := Tryz.underlying199
  a70 := Tryz.isAgg199
  z70 := Tryz.sizeOf199
  v70 := Tryz.zeroValue199
  t72 := Tryz.underlying201
  a72 := Tryz.isAgg201
  z72 := Tryz.sizeOf201
  v72 := Tryz.zeroValue201
  t127 := Tryz.underlying231
  a127 := Tryz.isAgg231
  z127 := Tryz.sizeOf231
  v127 := Tryz.zeroValue231 }

theorem shelf_X_Builder_Extra_169 : Builder.Extra Tryz.prog shelf_169_ren where
  sizeBuilder := by kernel_rfl
  liesBuilder := by kernel_rfl
  t5 := Tryz.underlying5
  a5 := Tryz.isAgg5
  z5 := Tryz.sizeOf5
  v5 := Tryz.zeroValue5
  infoByte := by kernel_rfl
  cellsByte := by kernel_rfl
  sizeByte := by kernel_rfl
  neB5 := by decide

theorem FormatInt_10 (a0 a1 : Int) (w : World) (hG : Glob w) (s0 : -9223372036854775808 ≤ a0 ∧ a0 ≤ 9223372036854775807) (s1 : a1 = 10) :
    Calls Tryz.prog 164 #[.int .i64 a0, .int .i64 a1] w fun e w' => e = .returned (.string (bs (Go.Lib.itoa a0))) ∧ Below w.heap.size w w' := by
  subst s1
  refine (show Calls Tryz.prog 164 #[.int .i64 a0, .int .i64 10] w _ from Any.strconv_FormatInt_10 shelf_M173 a0 s0.1 s0.2 w hG).mono ?_
  rintro e w' ⟨rfl, k, os, rfl⟩
  exact ⟨rfl, grow_below _ _ _⟩

theorem map_bs (xs : List (List UInt8)) : (xs.map bs).map (fun x : ByteArray => x.data.toList) = xs := by
  rw [List.map_map]
  exact (List.map_congr_left fun x _ => by simp [bs]).trans (List.map_id xs)

theorem Join_Str (A : Option Addr) (c : Nat) (a0 : List (List UInt8)) (a1 : List UInt8) (w : World) (h0 : Sl eTxt w (Old w) A c a0) (s0 : a0.length ≤ 1000000000) (s1 : (Go.Lib.join a0 a1).length ≤ 1000000000) :
    Calls Tryz.prog 144 #[.slice A a0.length c, .string (bs a1)] w fun e w' => e = .returned (.string (bs (Go.Lib.join a0 a1))) ∧ Below w.heap.size w w' := by
  by_cases hx : a0 = []
  · subst hx
    refine (show Calls Tryz.prog 144 #[.slice A 0 c, .string (bs a1)] w _ from Any.strings_Join_none shelf_156 shelf_X_Builder_Extra_156 A c (bs a1) w).mono ?_
    rintro e w' ⟨rfl, rfl⟩
    exact ⟨rfl, Below.refl _ _⟩
  · obtain ⟨b, off, rfl, hb, hc⟩ := h0.2.2 hx
    have hl : a0.length = (a0.map bs).length := (List.length_map _).symm
    have hj : Go.Lib.join ((a0.map bs).map (·.data.toList)) (bs a1).data.toList = Go.Lib.join a0 a1 := by rw [map_bs]
    rw [hl]
    refine (show Calls Tryz.prog 144 #[.slice (some ⟨b, off, none⟩) (a0.map bs).length c, .string (bs a1)] w _ from Any.strings_Join shelf_156 shelf_X_Builder_Extra_156 b off c (a0.map bs) (bs a1) w ?_ hb (by rw [← hl]; omega) (by rw [← hl]; exact h0.1) (by rw [hj]; omega)).mono ?_
    · intro j x hjx
      rw [List.getElem?_map, Option.map_eq_some_iff] at hjx
      obtain ⟨y, hy, rfl⟩ := hjx
      obtain ⟨es, ⟨rfl, _⟩, h2⟩ := hc j y hy
      have := h2 0 _ rfl
      rwa [show off + j * eTxt.size + 0 = off + j from by simp [eTxt]] at this
    · rintro e w' ⟨rfl, h2⟩
      rw [hj]
      exact ⟨rfl, h2⟩

theorem Builder_WriteRune {w0 w : World} {b : Nat} {S : Nat → Prop} {l : List UInt8} (a1 : Int) (h : Held Nob w0 [rBld w0 b S l] w) (hr : 0 ≤ a1 ∧ a1 < 128) (hl : l.length ≤ 1000000000) :
    Calls Tryz.prog 194 #[.pointer (some ⟨b, 0, none⟩), .int .i32 a1] w fun e w' => (∃ v, e = .returned v) ∧ ∃ S', Held Nob w0 [rBld w0 b S' (l ++ [UInt8.ofNat a1.toNat])] w' := by
  refine (show Calls Tryz.prog 194 #[.pointer (some ⟨b, 0, none⟩), .int .i32 a1] w _ from Any.Builder_WriteRune_k shelf_168 shelf_X_Builder_Extra_168 w0.heap.size b (Lib.byteCells l) a1 (by omega) (by omega) w h.isBld (by rw [byteCells_len]; omega) h.size).mono ?_
  rintro e w' ⟨rfl, h1, h2, _⟩
  refine ⟨⟨_, rfl⟩, h.bldCall h2 ?_⟩
  rw [byteCells_app, ← runeCells_ascii hr.1 hr.2]
  exact .inr h1

theorem Builder_WriteByte {w0 w : World} {b : Nat} {S : Nat → Prop} {l : List UInt8} (a1 : Int) (h : Held Nob w0 [rBld w0 b S l] w) (hr : 0 ≤ a1 ∧ a1 < 256) (hl : l.length ≤ 1000000000) :
    Calls Tryz.prog 195 #[.pointer (some ⟨b, 0, none⟩), .int .u8 a1] w fun e w' => (∃ v, e = .returned v) ∧ ∃ S', Held Nob w0 [rBld w0 b S' (l ++ [UInt8.ofNat a1.toNat])] w' := by
  refine (show Calls Tryz.prog 195 #[.pointer (some ⟨b, 0, none⟩), .int .u8 a1] w _ from Any.Builder_WriteByte_k shelf_167 shelf_X_Builder_Extra_167 w0.heap.size b (Lib.byteCells l) a1 w h.isBld (by rw [byteCells_len]; omega) h.size).mono ?_
  rintro e w' ⟨rfl, h1, h2, _⟩
  refine ⟨⟨_, rfl⟩, h.bldCall h2 ?_⟩
  rw [byteCells_app, show Lib.byteCells [UInt8.ofNat a1.toNat] = [.int .u8 a1] from by simp [Lib.byteCells]; omega]
  exact .inr h1

theorem Builder_String {w0 w : World} {b : Nat} {S : Nat → Prop} {l : List UInt8} (h : Held Nob w0 [rBld w0 b S l] w) (hl : l.length ≤ 1000000000) :
    Calls Tryz.prog 186 #[.pointer (some ⟨b, 0, none⟩)] w fun e w' => e = .returned (.string (bs l)) ∧ ∃ S', Held Nob w0 [rBld w0 b S' l] w' := by
  refine (show Calls Tryz.prog 186 #[.pointer (some ⟨b, 0, none⟩)] w _ from Any.Builder_String_any_k shelf_169 shelf_X_Builder_Extra_169 w0.heap.size b l w h.isBld h.size).mono ?_
  rintro e w' ⟨rfl, h1, h2, _⟩
  exact ⟨rfl, h.bldCall h2 h1⟩

/-- The decimal digits of a number, the last one first, as bytes; none for 0. -/
def lowD (n : Nat) : List Int := if h : n = 0 then [] else (48 + (n % 10 : Nat) : Int) :: lowD (n / 10)
termination_by n
decreasing_by omega

theorem lowD_zero : lowD 0 = [] := by rw [lowD, dif_pos rfl]

theorem lowD_pos {n : Nat} (h : 0 < n) : lowD n = (48 + (n % 10 : Nat) : Int) :: lowD (n / 10) := by rw [lowD, dif_neg (by omega)]

theorem bytesOf_app (a b : List Int) : Go.Lib.bytesOf (a ++ b) = Go.Lib.bytesOf a ++ Go.Lib.bytesOf b := by simp [Go.Lib.bytesOf]

theorem bytesOf_one (a : Nat) : Go.Lib.bytesOf [(48 + (a : Nat) : Int)] = [UInt8.ofNat (48 + a)] := by
  simp only [Go.Lib.bytesOf, List.map_cons, List.map_nil]
  rw [show (48 + (a : Int)).toNat = 48 + a from by omega]

theorem lowD_dec (n : Nat) (h : 0 < n) : Go.Lib.bytesOf (lowD n).reverse = Go.Lib.decDigits n := by
  induction n using Nat.strongRecOn with
  | _ n ih =>
    rw [lowD_pos h, List.reverse_cons, bytesOf_app, bytesOf_one, Go.Lib.decDigits]
    by_cases h1 : n < 10
    · rw [dif_pos h1, show n / 10 = 0 from by omega, lowD_zero, Nat.mod_eq_of_lt h1]; rfl
    · rw [dif_neg h1, ih (n / 10) (by omega) (by omega)]

theorem nDigits_le (k : Nat) : ∀ n : Nat, n < 10 ^ (k + 1) → Go.Lib.nDigits n ≤ k + 1 := by
  induction k with
  | zero => intro n h; rw [Go.Lib.nDigits_small (by simpa using h)]; omega
  | succ k ih =>
    intro n h
    by_cases h1 : n < 10
    · rw [Go.Lib.nDigits_small h1]; omega
    · rw [Go.Lib.nDigits_big h1]; have := ih (n / 10) (by rw [Nat.pow_succ] at h; omega); omega

theorem itoa_len {n : Int} (h : -9223372036854775808 ≤ n ∧ n ≤ 9223372036854775807) : 1 ≤ (Go.Lib.itoa n).length ∧ (Go.Lib.itoa n).length ≤ 20 := by
  unfold Go.Lib.itoa
  split
  · have h1 := nDigits_le 18 n.natAbs (by omega)
    have h2 := Go.Lib.nDigits_pos n.natAbs
    rw [List.length_cons, Go.Lib.decDigits_length]; omega
  · have h1 := nDigits_le 18 n.toNat (by omega)
    have h2 := Go.Lib.nDigits_pos n.toNat
    rw [Go.Lib.decDigits_length]; omega

theorem itoa_low {n : Int} (h : 0 < n) : Go.Lib.itoa n = Go.Lib.bytesOf (lowD n.toNat).reverse := by
  rw [lowD_dec _ (by omega)]; unfold Go.Lib.itoa; rw [if_neg (by omega)]

theorem join_len (B : Nat) (sep : List UInt8) : ∀ xs : List (List UInt8), (∀ x ∈ xs, x.length ≤ B) → (Go.Lib.join xs sep).length ≤ xs.length * (B + sep.length)
  | [], _ => by simp [Go.Lib.join_nil]
  | x :: r, h => by
    have h1 := h x (by simp)
    have h2 : Go.Lib.lens r ≤ r.length * B := by
      have h3 : ∀ y ∈ r, y.length ≤ B := fun y hy => h y (by simp [hy])
      clear h
      induction r with
      | nil => simp [Go.Lib.lens]
      | cons y r ih =>
        have h4 := ih fun z hz => h3 z (by simp [hz])
        have h5 := h3 y (by simp)
        simp only [Go.Lib.lens, List.map_cons, List.sum_cons, List.length_cons, Nat.succ_mul] at h4 ⊢
        omega
    rw [Go.Lib.join_length, List.length_cons, Nat.succ_mul]
    simp only [Go.Lib.lens, List.map_cons, List.sum_cons] at h2 ⊢
    have h6 : sep.length * r.length = r.length * sep.length := Nat.mul_comm _ _
    have h7 : r.length * (B + sep.length) = r.length * B + r.length * sep.length := Nat.mul_add _ _ _
    omega

theorem drop_revI {α : Type} {l : List α} {k : Nat} (h0 : 0 < k) (h1 : k ≤ l.length) : (l.drop (k - 1)).reverse = (l.drop k).reverse ++ [l[k - 1]] := by
  rw [List.drop_eq_getElem_cons (by omega : k - 1 < l.length), List.reverse_cons, show k - 1 + 1 = k from by omega]

/-- Numbers in decimal, with something between them. -/
def decs (l : List Int) (b : List UInt8) : List UInt8 := Go.Lib.join (l.map Go.Lib.itoa) b

theorem Sl.i64 {w : World} {S : Nat → Prop} {A : Option Addr} {c : Nat} {xs : List Int} (h : Sl eInt w S A c xs) : ∀ x ∈ xs, -9223372036854775808 ≤ x ∧ x ≤ 9223372036854775807 := by
  intro x hx
  obtain ⟨i, hi⟩ := List.mem_iff_getElem?.1 hx
  obtain ⟨b, off, _, _, hc⟩ := h.2.2 (fun e => by rw [e] at hx; cases hx)
  obtain ⟨es, ⟨_, h1⟩, _⟩ := hc i x hi
  exact h1

theorem map_itoa_len {l : List Int} (h : ∀ x ∈ l, -9223372036854775808 ≤ x ∧ x ≤ 9223372036854775807) : ∀ y ∈ l.map Go.Lib.itoa, y.length ≤ 20 := by
  intro y hy
  obtain ⟨x, hx, rfl⟩ := List.mem_map.1 hy
  exact (itoa_len (h x hx)).2

theorem decs_len {l : List Int} {b : List UInt8} (h : ∀ x ∈ l, -9223372036854775808 ≤ x ∧ x ≤ 9223372036854775807) (hb : b.length ≤ 10) : (decs l b).length ≤ 30 * l.length := by
  have h1 := join_len 20 b (l.map Go.Lib.itoa) (map_itoa_len h)
  rw [List.length_map] at h1
  have h2 : l.length * (20 + b.length) ≤ l.length * 30 := Nat.mul_le_mul_left _ (by omega)
  unfold decs
  omega

/-- Letters as digits. -/
def digT (l : List Int) : List UInt8 := l.map fun x => UInt8.ofNat (48 + x).toNat

theorem digT_len (l : List Int) : (digT l).length = l.length := by simp [digT]

theorem join_take_len {α : Type} {f : α → List UInt8} {l : List α} {sep : List UInt8} {B : Nat} (h : ∀ x ∈ l, (f x).length + sep.length ≤ B) (k : Nat) : (Go.Lib.join ((l.take k).map f) sep).length ≤ B * l.length := by
  by_cases hn : l = []
  · subst hn; simp [Go.Lib.join_nil]
  · obtain ⟨x0, hx0⟩ := List.exists_mem_of_ne_nil l hn
    have hs := h x0 hx0
    have h1 := join_len (B - sep.length) sep ((l.take k).map f) (by
      intro y hy
      obtain ⟨x, hx, rfl⟩ := List.mem_map.1 hy
      have := h x (List.mem_of_mem_take hx)
      omega)
    rw [List.length_map, List.length_take, show B - sep.length + sep.length = B from by omega] at h1
    have h2 : min k l.length * B ≤ l.length * B := Nat.mul_le_mul_right _ (by omega)
    rw [Nat.mul_comm B]
    omega

theorem decs_take_len {l : List Int} {b : List UInt8} (h : ∀ x ∈ l, -9223372036854775808 ≤ x ∧ x ≤ 9223372036854775807) (hb : b.length ≤ 10) (k : Nat) : (Go.Lib.join ((l.take k).map Go.Lib.itoa) b).length ≤ 30 * l.length :=
  join_take_len (fun x hx => by have := itoa_len (h x hx); omega) k

set_option maxRecDepth 100000 in
set_option maxHeartbeats 4000000 in
theorem impl_Decimal (a0 : Int) (w : World) (hG : Glob w) (s0 : -9223372036854775808 ≤ a0 ∧ a0 ≤ 9223372036854775807) :
    Calls Tryz.prog 120 #[.int .i64 a0] w fun e w' => e = .returned (.string (bs (Go.Lib.itoa a0))) ∧ Below w.heap.size w w' := by
  have HH1 := Held.start Nob w
  refine enter (n := 5) Tryz.func120 rfl rfl rfl fun a_2 HE3 => ?_
  refine wp_seq ?_
  refine rg ?_
  refine pl_x HE3 HH1 (wt0 rfl) (x_assign rfl) rfl rfl fun a_4 HE5 => ?_
  refine wpList_nil ?_
  clear a_2 HE3
  refine nrm ?_
  refine wp_seq ?_
  refine rg ?_
  refine pl_x HE5 HH1 (wt0 rfl) (x_move rfl) rfl rfl fun a_6 HE7 => ?_
  refine pl fun K_8 hK9 => ?_
  refine st_call HE7 (wt0 rfl) rfl rfl rfl en_164 rfl rfl (FormatInt_10 a0 10 _ (HH1.glob hG) (by omega) (by rfl)) fun e w' hr => ?_
  have hAr21_0 := itoa_len (n := a0) (by omega)
  obtain ⟨rfl, hbr21⟩ := hr
  have HH10 := HH1.on hbr21
  refine ⟨_, rfl, fun a_11 HE12 => hK9 _ _ ?_⟩
  refine pl_x HE12 HH10 (wt0 rfl) (x_assign rfl) rfl rfl fun a_13 HE14 => ?_
  refine wpList_nil ?_
  clear a_4 HE5 HH1 a_6 HE7 a_11 HE12 hK9 K_8
  refine nrm ?_
  refine wp_ret ?_
  refine ret1 HE14 rfl (rv_tmp rfl) ?_
  have hF : (Go.Lib.itoa a0) = (Go.Lib.itoa a0) := by
    first | rfl | (simp [Go.Lib.itoa]; done) | (simp [Go.Lib.itoa]; omega) | grind [Go.Lib.itoa]
  exact ⟨by first | (rw [hF] <;> rfl) | rfl | (rw [hF]; simp only [Ending.returned.injEq, Value.slice.injEq, true_and, and_true]; first | omega | (simp; done)) | (rw [hF]; simp; omega), HH10.below⟩

set_option maxRecDepth 100000 in
set_option maxHeartbeats 4000000 in
theorem spec_l01Dec (a0 : Int) (w : World) (s0 : 0 ≤ a0 ∧ a0 ≤ 100000000000000) :
    Calls Tryz.prog 148 #[.int .i64 a0] w fun e w' => e = .returned (.string (bs (Go.Lib.itoa a0))) ∧ Below w.heap.size w w' := by
  have HH1 := Held.start Nob w
  refine enter (n := 50) Tryz.func148 rfl rfl rfl fun a_2 HE3 => ?_
  refine wp_seq ?_
  refine rg ?_
  refine pl_x HE3 HH1 (wt0 rfl) (x_assign rfl) rfl rfl fun a_4 HE5 => ?_
  refine wpList_nil ?_
  clear a_2 HE3
  refine nrm ?_
  refine wp_seq ?_
  refine wp_seq ?_
  refine rg ?_
  refine pl_x HE5 HH1 (wt0 rfl) (x_move rfl) rfl rfl fun a_6 HE7 => ?_
  refine pl_x HE7 HH1 (wt0 rfl) (x_eql rfl rfl) rfl rfl fun a_8 HE9 => ?_
  refine wpList_nil ?_
  clear a_4 HE5 a_6 HE7
  refine nrm ?_
  refine cnd_e HE9 rfl (fun hc21 => ?_) (fun hc21 => ?_)
  · refine wp_seq ?_
    refine rg ?_
    refine pl_x HE9 HH1 (wt0 rfl) (x_assign rfl) rfl rfl fun a_10 HE11 => ?_
    refine wpList_nil ?_
    clear a_8 HE9
    refine nrm ?_
    refine wp_ret ?_
    refine (thn_ret ?_)
    refine ret1 HE11 rfl (rv_tmp rfl) ?_
    have hF : (Go.Lib.itoa a0) = [48] := by
      first | (rw [show a0 = 0 from by omega]; simp [Go.Lib.itoa, Go.Lib.decDigits]; done) | (rw [itoa_low (by omega), ‹lowD a0.toNat = _›, show u = 0 from by omega, lowD_zero, List.append_nil, show k = 0 from by omega, List.drop_zero])
    exact ⟨by first | (rw [hF] <;> rfl) | rfl | (rw [hF]; simp only [Ending.returned.injEq, Value.slice.injEq, true_and, and_true]; first | omega | (simp; done)) | (rw [hF]; simp; omega), HH1.below⟩
  · refine wp_skip ?_
    refine nrm ?_
    refine wp_seq ?_
    refine rg ?_
    refine pl fun K_12 hK13 => ?_
    refine st_lit (m := 0) (cs := []) (e := 5) HE9 HH1 (run_lit ts_22 HE9 (vs := []) rfl rfl (by simp [Value.cells]) rfl (by decide)) (wt0 rfl) rfl rfl fun q22 a_14 w' HE15 HH16 => hK13 _ _ ?_
    refine pl_x HE15 HH16 (wt0 rfl) (x_assign rfl) rfl rfl fun a_17 HE18 => ?_
    refine wpList_nil ?_
    clear a_8 HE9 HH1 a_14 HE15 hK13 K_12
    refine nrm ?_
    refine wp_seq ?_
    refine wp_seq ?_
    refine rg ?_
    refine pl_x HE18 HH16 (wt0 rfl) (x_move rfl) rfl rfl fun a_19 HE20 => ?_
    refine pl_x HE20 HH16 (wt0 rfl) (x_assign rfl) rfl rfl fun a_21 HE22 => ?_
    refine wpList_nil ?_
    clear a_17 HE18 a_19 HE20
    refine nrm ?_
    refine wp_block ?_
    have HH23 := Held.vecFlat (E := eByte) (xs := []) (css := []) HH16 rfl (Nat.zero_le _) (fun i x hx => by simp at hx)
    refine lp (fun m a w' => ∃ (u : Nat) (l : List Int) (A_3 : Option Addr) (c_3 : Nat) (S_3 : Nat → Prop), m = 0 + u ∧ Env 50 [(3, .slice A_3 (List.length l) c_3), (4, .int .i64 (u : Int)), (0, .int .i64 (a0))] a ∧ Held Nob w [rVec eByte 5 S_3 A_3 c_3 l] w' ∧ (lowD a0.toNat = l ++ lowD u) ∧ (l.length + u ≤ a0.toNat)) (0 + (a0.toNat)) ?_ ?_
    · have E23 : ([]) = ([] : List Int) := by
        first | rfl | simp
      exact ⟨a0.toNat, [], (some ⟨q22, 0, none⟩), (List.length (α := Int) []), (fun b => b = q22), rfl, HE22.sub ⟨(by rw [E23]; rfl), (lkI rfl (by omega)), rfl, trivial⟩, ((HH23.sel [0] (by decide) rfl).to (by first | rfl | (rw [E23]; done) | (rw [E23]; rfl) | (simp only [E23]; done) | (simp only [E23]; rfl) | (rw [E23]; simp only [List.length_set]; done))), (by rfl), (by first | omega | assumption | (simp; done) | simp_all)⟩
    · rintro m a_24 w' ⟨u, l, A_3, c_3, S_3, rfl, HE25, HH26, p24_0, p24_1⟩
      refine wp_seq ?_
      refine wp_seq ?_
      refine rg ?_
      refine pl_x HE25 HH26 (wt0 rfl) (x_move rfl) rfl rfl fun a_27 HE28 => ?_
      refine pl_x HE28 HH26 (wt0 rfl) (x_neq rfl rfl) rfl rfl fun a_29 HE30 => ?_
      refine wpList_nil ?_
      clear HH16 a_21 HE22 HH23 a_24 HE25 a_27 HE28
      refine nrm ?_
      refine cnd_ne HE30 rfl (fun hc25 => ?_) (fun hc25 => ?_)
      · refine wp_skip ?_
        refine nrm ?_
        refine wp_seq ?_
        refine wp_block ?_
        refine wp_seq ?_
        refine rg ?_
        refine pl_x HE30 HH26 (wt0 rfl) (x_move rfl) rfl rfl fun a_31 HE32 => ?_
        refine pl_x HE32 HH26 (wt0 rfl) (x_rem rfl rfl (by omega) (by omega)) rfl rfl fun a_33 HE34 => ?_
        refine pl_x HE34 HH26 (wt0 rfl) (x_assign rfl) rfl rfl fun a_35 HE36 => ?_
        refine wpList_nil ?_
        clear a_29 HE30 a_31 HE32 a_33 HE34
        refine nrm ?_
        refine wp_seq ?_
        refine wp_seq ?_
        refine rg ?_
        refine pl_x HE36 HH26 (wt0 rfl) (x_move rfl) rfl rfl fun a_37 HE38 => ?_
        refine pl_x HE38 HH26 (wt0 rfl) (x_lss rfl rfl) rfl rfl fun a_39 HE40 => ?_
        refine wpList_nil ?_
        clear a_35 HE36 a_37 HE38
        refine nrm ?_
        refine cnd_d HE40 rfl (fun hc26 => ?_) (fun hc26 => ?_)
        · exfalso; omega
        · refine wp_skip ?_
          refine nrm ?_
          refine rg ?_
          refine pl_x HE40 HH26 (wt0 rfl) (x_move rfl) rfl rfl fun a_41 HE42 => ?_
          refine pl_x HE42 HH26 (wt0 rfl) (x_move rfl) rfl rfl fun a_43 HE44 => ?_
          refine pl_x HE44 HH26 (wt0 rfl) (x_add rfl rfl (by exact ⟨by omega, by omega⟩)) rfl rfl fun a_45 HE46 => ?_
          refine pl_x HE46 HH26 (wt0 rfl) (x_conv8 Tryz.underlying2 Tryz.underlying5 rfl (by constructor <;> omega)) rfl rfl fun a_47 HE48 => ?_
          refine pl fun K_49 hK50 => ?_
          refine st_lit (m := 1) (cs := [.int .u8 ((48 + ((u : Int) % 10)))]) (e := 5) HE48 HH26 (run_lit ts_22 HE48 (vs := [.int .u8 ((48 + ((u : Int) % 10)))]) rfl rfl (by simp [Value.cells]) rfl (by decide)) (wt0 rfl) rfl rfl fun q27 a_51 w' HE52 HH53 => hK50 _ _ ?_
          refine pl fun K_54 hK55 => ?_
          refine st_app1F (48 + ((u : Int) % 10)) HE52 HH53 ts_22 [1, 0] (by decide) rfl (fun _ => (oY (by constructor <;> omega))) rfl rfl (by simp [Value.oneCell']) (by unfold maxLen; first | omega | (simp; done) | (simp; omega)) (by first | omega | (simp; done) | (simp; omega)) (wt0 rfl) rfl fun A28 c29 S30 a_56 w' HE57 HH58 => hK55 _ _ ?_
          refine pl_x HE57 HH58 (wt0 rfl) (x_assign rfl) rfl rfl fun a_59 HE60 => ?_
          refine wpList_nil ?_
          clear a_39 HE40 a_41 HE42 a_43 HE44 a_45 HE46 a_47 HE48 HH26 K_49 hK50 a_51 HE52 HH53 a_56 HE57 hK55 K_54
          refine blk_n ?_
          refine nrm ?_
          refine rg ?_
          refine pl_x HE60 HH58 (wt0 rfl) (x_move rfl) rfl rfl fun a_61 HE62 => ?_
          refine pl_x HE62 HH58 (wt0 rfl) (x_quo rfl rfl (by omega) (by omega) (by omega)) rfl rfl fun a_63 HE64 => ?_
          refine pl_x HE64 HH58 (wt0 rfl) (x_assign rfl) rfl rfl fun a_65 HE66 => ?_
          refine wpList_nil ?_
          clear a_59 HE60 a_61 HE62 a_63 HE64
          have E31 : ((l ++ [(48 + ((u : Int) % 10))])) = (l ++ [(48 + ((u : Int) % 10))]) := by
            first | rfl | simp
          exact nrm ⟨0 + (u / 10), (by omega), u / 10, (l ++ [(48 + ((u : Int) % 10))]), A28, c29, S30, rfl, HE66.sub ⟨(by rw [E31]; rfl), (lkI rfl (by omega)), rfl, trivial⟩, ((HH58.sel [0] (by decide) rfl).to (by first | rfl | (rw [E31]; done) | (rw [E31]; rfl) | (simp only [E31]; done) | (simp only [E31]; rfl) | (rw [E31]; simp only [List.length_set]; done))), (by rw [p24_0, lowD_pos (by omega)]; simp), (by simp; omega)⟩
      · refine wp_exit ?_
        refine (thn_exit (thn_exit (blk_hit ?_)))
        refine nrm ?_
        refine wp_seq ?_
        refine wp_seq ?_
        refine rg ?_
        refine pl_x HE30 HH26 (wt0 rfl) (x_move rfl) rfl rfl fun a_67 HE68 => ?_
        refine pl_x HE68 HH26 (wt0 rfl) (x_lss rfl rfl) rfl rfl fun a_69 HE70 => ?_
        refine wpList_nil ?_
        clear a_29 HE30 a_67 HE68
        refine nrm ?_
        refine cnd_d HE70 rfl (fun hc32 => ?_) (fun hc32 => ?_)
        · exfalso; omega
        · refine wp_skip ?_
          refine nrm ?_
          refine wp_seq ?_
          refine rg ?_
          refine pl fun K_71 hK72 => ?_
          refine st_lit (m := 0) (cs := []) (e := 5) HE70 HH26 (run_lit ts_22 HE70 (vs := []) rfl rfl (by simp [Value.cells]) rfl (by decide)) (wt0 rfl) rfl rfl fun q33 a_73 w' HE74 HH75 => hK72 _ _ ?_
          refine pl_x HE74 HH75 (wt0 rfl) (x_assign rfl) rfl rfl fun a_76 HE77 => ?_
          refine wpList_nil ?_
          clear a_69 HE70 HH26 a_73 HE74 hK72 K_71
          refine nrm ?_
          refine wp_seq ?_
          refine wp_seq ?_
          refine rg ?_
          refine pl_x HE77 HH75 (wt0 rfl) (x_move rfl) rfl rfl fun a_78 HE79 => ?_
          refine pl_x HE79 HH75 (wt0 rfl) (x_len Tryz.underlying22 rfl) rfl rfl fun a_80 HE81 => ?_
          refine pl_x HE81 HH75 (wt0 rfl) (x_sub rfl rfl (by exact ⟨by omega, by omega⟩)) rfl rfl fun a_82 HE83 => ?_
          refine pl_x HE83 HH75 (wt0 rfl) (x_assign rfl) rfl rfl fun a_84 HE85 => ?_
          refine wpList_nil ?_
          clear a_76 HE77 a_78 HE79 a_80 HE81 a_82 HE83
          refine nrm ?_
          refine wp_block ?_
          have HH86 := Held.vecFlat (E := eByte) (xs := []) (css := []) HH75 rfl (Nat.zero_le _) (fun i x hx => by simp at hx)
          have HH87 := HH86.sel [1, 0] (by decide) rfl
          have HH88 := HH87.vecSo
          refine lp (fun m a w' => ∃ (k : Nat) (A_6 : Option Addr) (c_6 : Nat) (S_6 : Nat → Prop), m = 0 + k ∧ Env 50 [(6, .slice A_6 (List.length ((l.drop k).reverse)) c_6), (7, .int .i64 ((k : Int) - 1)), (3, .slice A_3 ((List.length l)) c_3)] a ∧ Held Nob w [rVec eByte 5 S_6 A_6 c_6 ((l.drop k).reverse), rSo eByte S_3 A_3 c_3 l] w' ∧ (k ≤ l.length)) (0 + (l.length)) ?_ ?_
          · have E34 : (l.drop (l.length)).reverse = ([] : List Int) := by
              simp
            exact ⟨l.length, (some ⟨q33, 0, none⟩), (List.length (α := Int) []), (fun b => b = q33), rfl, HE85.sub ⟨(by rw [E34]; rfl), (lkI rfl (by first | rfl | omega | (simp [hc21, p24_0, p24_1, hc25, hc32]; done))), rfl, trivial⟩, ((HH88.sel [1, 0] (by decide) rfl).to (by first | rfl | (rw [E34]; done) | (rw [E34]; rfl) | (simp only [E34]; done) | (simp only [E34]; rfl) | (rw [E34]; simp only [List.length_set]; done))), (by first | omega | assumption | (simp; done) | simp_all)⟩
          · rintro m a_89 w' ⟨k, A_6, c_6, S_6, rfl, HE90, HH91, p35_0⟩
            have ol : (l.drop k).reverse.length ≤ l.length := by simp
            refine wp_seq ?_
            refine wp_seq ?_
            refine rg ?_
            refine pl_x HE90 HH91 (wt0 rfl) (x_move rfl) rfl rfl fun a_92 HE93 => ?_
            refine pl_x HE93 HH91 (wt0 rfl) (x_geq rfl rfl) rfl rfl fun a_94 HE95 => ?_
            refine wpList_nil ?_
            clear HH75 HH86 HH87 a_84 HE85 HH88 a_89 HE90 a_92 HE93
            refine nrm ?_
            refine cnd_d HE95 rfl (fun hc36 => ?_) (fun hc36 => ?_)
            · refine wp_skip ?_
              refine nrm ?_
              refine wp_seq ?_
              refine wp_block ?_
              refine rg ?_
              refine pl_x HE95 HH91 (wt0 rfl) (x_move rfl) rfl rfl fun a_96 HE97 => ?_
              refine pl_x HE97 HH91 (wt0 rfl) (x_move rfl) rfl rfl fun a_98 HE99 => ?_
              refine pl_x HE99 HH91 (wt0 rfl) (x_move rfl) rfl rfl fun a_100 HE101 => ?_
              have ke37 : (k - 1) < (List.length l) := by omega
              obtain ⟨be37, fe37, rfl⟩ := el_own HH91 (i := 1) rfl ke37
              refine pl_x HE101 HH91 (wt0 rfl) (x_indexAddr ts_22 rfl rfl rfl (by omega) ke37) rfl rfl fun a_102 HE103 => ?_
              obtain ⟨y38, xy38⟩ : ∃ y_, y_ = l[(k - 1)]'(by first | exact ke37 | (simp only [List.length_set]; exact ke37) | omega | (simp only [List.length_set]; omega) | (simp; omega)) := ⟨_, rfl⟩
              have jy38 : 0 ≤ y38 ∧ y38 ≤ 255 := by rw [xy38]; exact i_ownY HH91 1 rfl _
              refine pl_x HE103 HH91 (wt0 rfl) (x_load1 tv_5 rfl (c_ownY 1 rfl (by first | exact ke37 | (simp only [List.length_set]; exact ke37) | omega | (simp only [List.length_set]; omega) | (simp; omega)) xy38.symm)) rfl rfl fun a_104 HE105 => ?_
              refine pl fun K_106 hK107 => ?_
              refine st_lit (m := 1) (cs := [.int .u8 (y38)]) (e := 5) HE105 HH91 (run_lit ts_22 HE105 (vs := [.int .u8 (y38)]) rfl rfl (by simp [Value.cells]) rfl (by decide)) (wt0 rfl) rfl rfl fun q39 a_108 w' HE109 HH110 => hK107 _ _ ?_
              refine pl fun K_111 hK112 => ?_
              refine st_app1F y38 HE109 HH110 ts_22 [1, 0, 2] (by decide) rfl (fun _ => (oY (by constructor <;> omega))) rfl rfl (by simp [Value.oneCell']) (by unfold maxLen; first | omega | (simp; done) | (simp; omega)) (by first | omega | (simp; done) | (simp; omega)) (wt0 rfl) rfl fun A40 c41 S42 a_113 w' HE114 HH115 => hK112 _ _ ?_
              refine pl_x HE114 HH115 (wt0 rfl) (x_assign rfl) rfl rfl fun a_116 HE117 => ?_
              refine wpList_nil ?_
              clear a_94 HE95 a_96 HE97 a_98 HE99 a_100 HE101 a_102 HE103 a_104 HE105 HH91 K_106 hK107 a_108 HE109 HH110 a_113 HE114 hK112 K_111
              refine blk_n ?_
              refine nrm ?_
              refine rg ?_
              refine pl_x HE117 HH115 (wt0 rfl) (x_move rfl) rfl rfl fun a_118 HE119 => ?_
              refine pl_x HE119 HH115 (wt0 rfl) (x_sub rfl rfl (by exact ⟨by omega, by omega⟩)) rfl rfl fun a_120 HE121 => ?_
              refine pl_x HE121 HH115 (wt0 rfl) (x_assign rfl) rfl rfl fun a_122 HE123 => ?_
              refine wpList_nil ?_
              clear a_116 HE117 a_118 HE119 a_120 HE121
              have E43 : (l.drop ((k - 1))).reverse = ((l.drop k).reverse ++ [y38]) := by
                rw [drop_revI (by omega) (by omega), ← xy38]
              exact nrm ⟨0 + ((k - 1)), (by omega), (k - 1), A40, c41, S42, rfl, HE123.sub ⟨(by rw [E43]; rfl), (lkI rfl (by omega)), rfl, trivial⟩, ((HH115.sel [0, 1] (by decide) rfl).to (by first | rfl | (rw [E43]; done) | (rw [E43]; rfl) | (simp only [E43]; done) | (simp only [E43]; rfl) | (rw [E43]; simp only [List.length_set]; done))), (by first | omega | assumption | (simp; done) | simp_all)⟩
            · refine wp_exit ?_
              refine (thn_exit (thn_exit (blk_hit ?_)))
              refine nrm ?_
              refine wp_seq ?_
              refine rg ?_
              refine pl_x HE95 HH91 (wt0 rfl) (x_move rfl) rfl rfl fun a_124 HE125 => ?_
              refine pl_x HE125 HH91 (wt0 rfl) (x_bytes (xs := (l.drop k).reverse) Tryz.underlying22 Tryz.underlying5 Tryz.underlying9 rfl (fun _ h_ => (h_.vecSl (i := 0) rfl))) rfl rfl fun a_126 HE127 => ?_
              refine pl_x HE127 HH91 (wt0 rfl) (x_assign rfl) rfl rfl fun a_128 HE129 => ?_
              refine wpList_nil ?_
              clear a_94 HE95 a_124 HE125 a_126 HE127
              refine nrm ?_
              refine wp_ret ?_
              refine ret1 HE129 rfl (rv_tmp rfl) ?_
              have hF : (Go.Lib.itoa a0) = (Go.Lib.bytesOf ((l.drop k).reverse)) := by
                first | (rw [show a0 = 0 from by omega]; simp [Go.Lib.itoa, Go.Lib.decDigits]; done) | (rw [itoa_low (by omega), ‹lowD a0.toNat = _›, show u = 0 from by omega, lowD_zero, List.append_nil, show k = 0 from by omega, List.drop_zero])
              exact ⟨by first | (rw [hF] <;> rfl) | rfl | (rw [hF]; simp only [Ending.returned.injEq, Value.slice.injEq, true_and, and_true]; first | omega | (simp; done)) | (rw [hF]; simp; omega), HH91.below⟩

set_option maxRecDepth 100000 in
set_option maxHeartbeats 4000000 in
theorem impl_decimals (A0 : Option Addr) (c0 : Nat) (a0 : (List Int)) (a1 : List UInt8) (w : World) (h0 : Sl eInt w (Old w) A0 c0 a0) (hG : Glob w) (s0 : a0.length ≤ 1000000) (s1 : a1.length ≤ 10) :
    Calls Tryz.prog 155 #[.slice A0 a0.length c0, .string (bs a1)] w fun e w' => e = .returned (.string (bs (decs a0 a1))) ∧ Below w.heap.size w w' := by
  have l0 := h0.len
  have HH1 := Held.start Nob w
  refine enter (n := 24) Tryz.func155 rfl rfl rfl fun a_2 HE3 => ?_
  refine wp_seq ?_
  refine rg ?_
  refine pl_x HE3 HH1 (wt0 rfl) (x_assign rfl) rfl rfl fun a_4 HE5 => ?_
  refine wpList_nil ?_
  clear a_2 HE3
  refine nrm ?_
  refine wp_seq ?_
  refine rg ?_
  refine pl fun K_6 hK7 => ?_
  refine st_lit (m := 0) (cs := []) (e := 9) HE5 HH1 (run_lit ts_78 HE5 (vs := []) rfl rfl (by simp [Value.cells]) rfl (by decide)) (wt0 rfl) rfl rfl fun q21 a_8 w' HE9 HH10 => hK7 _ _ ?_
  refine pl_x HE9 HH10 (wt0 rfl) (x_assign rfl) rfl rfl fun a_11 HE12 => ?_
  refine wpList_nil ?_
  clear a_4 HE5 HH1 a_8 HE9 hK7 K_6
  refine nrm ?_
  refine wp_seq ?_
  refine wp_seq ?_
  refine rg ?_
  refine pl_x HE12 HH10 (wt0 rfl) (x_move rfl) rfl rfl fun a_13 HE14 => ?_
  refine pl_x HE14 HH10 (wt0 rfl) (x_len Tryz.underlying25 rfl) rfl rfl fun a_15 HE16 => ?_
  refine pl_x HE16 HH10 (wt0 rfl) (x_move rfl) rfl rfl fun a_17 HE18 => ?_
  refine wpList_nil ?_
  clear a_11 HE12 a_13 HE14 a_15 HE16
  refine nrm ?_
  refine wp_block ?_
  have HH19 := Held.vecFlat (E := eTxt) (xs := []) (css := []) HH10 rfl (Nat.zero_le _) (fun i x hx => by simp at hx)
  refine lp (fun m a w' => ∃ (k : Nat) (A_5 : Option Addr) (c_5 : Nat) (S_5 : Nat → Prop), m = a0.length - k ∧ Env 24 [(5, .slice A_5 (List.length ((a0.take k).map Go.Lib.itoa)) c_5), (11, .int .i64 (k : Int)), (1, .string (bs a1)), (9, .slice A0 (a0.length) c0), (10, .int .i64 ((a0.length : Int)))] a ∧ Held Nob w [rVec eTxt 9 S_5 A_5 c_5 ((a0.take k).map Go.Lib.itoa)] w' ∧ (k ≤ a0.length)) (a0.length - (0)) ?_ ?_
  · have E22 : (a0.take 0).map Go.Lib.itoa = ([] : List (List UInt8)) := by
      first | rfl | simp
    exact ⟨0, (some ⟨q21, 0, none⟩), (List.length (α := (List UInt8)) []), (fun b => b = q21), rfl, HE18.sub ⟨(by rw [E22]; rfl), (lkI rfl (by first | rfl | omega | (simp []; done))), rfl, rfl, rfl, trivial⟩, ((HH19.sel [0] (by decide) rfl).to (by first | rfl | (rw [E22]; done) | (rw [E22]; rfl) | (simp only [E22]; done) | (simp only [E22]; rfl) | (rw [E22]; simp only [List.length_set]; done))), (by first | omega | assumption | (simp; done) | simp_all)⟩
  · rintro m a_20 w' ⟨k, A_5, c_5, S_5, rfl, HE21, HH22, p23_0⟩
    have ol : ((a0.take k).map Go.Lib.itoa).length ≤ 1000000 := by rw [List.length_map, List.length_take]; omega
    have oj := decs_take_len (Sl.i64 h0) (b := a1) (by omega) k
    refine wp_seq ?_
    refine rg ?_
    refine pl_x HE21 HH22 (wt0 rfl) (x_lss rfl rfl) rfl rfl fun a_23 HE24 => ?_
    refine wpList_nil ?_
    clear HH10 a_17 HE18 HH19 a_20 HE21
    refine nrm ?_
    refine wp_seq ?_
    refine cnd_d HE24 rfl (fun hc24 => ?_) (fun hc24 => ?_)
    · refine wp_skip ?_
      refine nrm ?_
      refine wp_seq ?_
      refine wp_block ?_
      refine wp_seq ?_
      refine rg ?_
      have ke25 : k < a0.length := by omega
      obtain ⟨be25, fe25, ese25, Ae25, Re25, De25⟩ := el_old h0 ke25
      obtain ⟨e25, xe25⟩ : ∃ x_, x_ = a0[k] := ⟨_, rfl⟩
      rw [← xe25] at Re25
      have Qe25 := Re25
      obtain ⟨rfl, ie25⟩ := Re25
      have je25 := ie25; unfold I64 at je25
      refine pl_x HE24 HH22 (wt0 rfl) (x_indexAddr ts_25 rfl rfl Ae25 rfl ke25) rfl rfl fun a_25 HE26 => ?_
      refine pl_x HE26 HH22 (wt0 rfl) (x_load1 tv_2 rfl (c_old (De25 0 _ rfl))) rfl rfl fun a_27 HE28 => ?_
      refine pl_x HE28 HH22 (wt0 rfl) (x_assign rfl) rfl rfl fun a_29 HE30 => ?_
      refine wpList_nil ?_
      clear a_23 HE24 a_25 HE26 a_27 HE28
      refine nrm ?_
      refine rg ?_
      refine pl_x HE30 HH22 (wt0 rfl) (x_move rfl) rfl rfl fun a_31 HE32 => ?_
      refine pl_x HE32 HH22 (wt0 rfl) (x_move rfl) rfl rfl fun a_33 HE34 => ?_
      refine pl fun K_35 hK36 => ?_
      refine st_call HE34 (wt0 rfl) rfl rfl rfl en_120 rfl rfl (impl_Decimal e25 _ (HH22.glob hG) (by omega)) fun e w' hr => ?_
      have hAr26_0 := itoa_len (n := e25) (by omega)
      obtain ⟨rfl, hbr26⟩ := hr
      have HH37 := HH22.on hbr26
      refine ⟨_, rfl, fun a_38 HE39 => hK36 _ _ ?_⟩
      refine pl fun K_40 hK41 => ?_
      refine st_lit (m := 1) (cs := [.string (bs (Go.Lib.itoa e25))]) (e := 9) HE39 HH37 (run_lit ts_78 HE39 (vs := [.string (bs (Go.Lib.itoa e25))]) rfl rfl (by simp [Value.cells]) rfl (by decide)) (wt0 rfl) rfl rfl fun q27 a_42 w' HE43 HH44 => hK41 _ _ ?_
      refine pl fun K_45 hK46 => ?_
      refine st_app1F (Go.Lib.itoa e25) HE43 HH44 ts_78 [1, 0] (by decide) rfl (fun _ => (oS (by first | omega | (simp only [List.length_append, List.length_cons, List.length_nil]; omega) | (simp; omega)))) rfl rfl (by simp [Value.oneCell']) (by unfold maxLen; first | omega | (simp; done) | (simp; omega)) (by first | omega | (simp; done) | (simp; omega)) (wt0 rfl) rfl fun A28 c29 S30 a_47 w' HE48 HH49 => hK46 _ _ ?_
      refine pl_x HE48 HH49 (wt0 rfl) (x_assign rfl) rfl rfl fun a_50 HE51 => ?_
      refine wpList_nil ?_
      clear a_29 HE30 a_31 HE32 HH22 a_33 HE34 K_35 hK36 a_38 HE39 HH37 K_40 hK41 a_42 HE43 HH44 a_47 HE48 hK46 K_45
      refine blk_n ?_
      refine nrm ?_
      refine rg ?_
      refine pl_x HE51 HH49 (wt0 rfl) (x_add rfl rfl (by exact ⟨by omega, by omega⟩)) rfl rfl fun a_52 HE53 => ?_
      refine pl_x HE53 HH49 (wt0 rfl) (x_move rfl) rfl rfl fun a_54 HE55 => ?_
      refine wpList_nil ?_
      clear a_50 HE51 a_52 HE53
      have E31 : (a0.take (k + 1)).map Go.Lib.itoa = ((a0.take k).map Go.Lib.itoa ++ [(Go.Lib.itoa e25)]) := by
        rw [List.take_succ_eq_append_getElem (by omega), List.map_append, ← xe25]; rfl
      exact nrm ⟨a0.length - (k + 1), (by omega), k + 1, A28, c29, S30, rfl, HE55.sub ⟨(by rw [E31]; rfl), (lkI rfl (by first | rfl | omega | (simp [p23_0, hc24, xe25]; done))), rfl, rfl, rfl, trivial⟩, ((HH49.sel [0] (by decide) rfl).to (by first | rfl | (rw [E31]; done) | (rw [E31]; rfl) | (simp only [E31]; done) | (simp only [E31]; rfl) | (rw [E31]; simp only [List.length_set]; done))), (by first | omega | assumption | (simp; done) | simp_all)⟩
    · refine wp_exit ?_
      refine (thn_exit (thn_exit (blk_hit ?_)))
      refine nrm ?_
      refine wp_seq ?_
      refine rg ?_
      refine pl_x HE24 HH22 (wt0 rfl) (x_move rfl) rfl rfl fun a_56 HE57 => ?_
      refine pl_x HE57 HH22 (wt0 rfl) (x_move rfl) rfl rfl fun a_58 HE59 => ?_
      refine pl fun K_60 hK61 => ?_
      refine st_call HE59 (wt0 rfl) rfl rfl rfl en_144 rfl rfl (Join_Str _ _ ((a0.take k).map Go.Lib.itoa) a1 _ (HH22.vecSl (i := 0) rfl) (by first | omega | (simp; done)) (by first | omega | (simp [Go.Lib.join, List.intercalate]; omega))) fun e w' hr => ?_
      have hAr32_0 := (by first | omega | (simp [Go.Lib.join, List.intercalate]; omega) : (Go.Lib.join ((a0.take k).map Go.Lib.itoa) a1).length ≤ 1000000000)
      obtain ⟨rfl, hbr32⟩ := hr
      have HH62 := HH22.on hbr32
      refine ⟨_, rfl, fun a_63 HE64 => hK61 _ _ ?_⟩
      refine pl_x HE64 HH62 (wt0 rfl) (x_assign rfl) rfl rfl fun a_65 HE66 => ?_
      refine wpList_nil ?_
      clear a_23 HE24 a_56 HE57 HH22 a_58 HE59 a_63 HE64 hK61 K_60
      refine nrm ?_
      refine wp_ret ?_
      refine ret1 HE66 rfl (rv_tmp rfl) ?_
      have hF : (decs a0 a1) = (Go.Lib.join ((a0.take k).map Go.Lib.itoa) a1) := by
        unfold decs; rw [List.take_of_length_le (by omega)]
      exact ⟨by first | (rw [hF] <;> rfl) | rfl | (rw [hF]; simp only [Ending.returned.injEq, Value.slice.injEq, true_and, and_true]; first | omega | (simp; done)) | (rw [hF]; simp; omega), HH62.below⟩

set_option maxRecDepth 100000 in
set_option maxHeartbeats 4000000 in
theorem impl_digitsText (A0 : Option Addr) (c0 : Nat) (a0 : (List Int)) (w : World) (h0 : Sl eInt w (Old w) A0 c0 a0) (s0 : ∀ x ∈ a0, 0 ≤ x ∧ x ≤ 9) (s1 : a0.length ≤ 1000000) :
    Calls Tryz.prog 156 #[.slice A0 a0.length c0] w fun e w' => e = .returned (.string (bs (digT a0))) ∧ Below w.heap.size w w' := by
  have l0 := h0.len
  have HH1 := Held.start Nob w
  refine enter (n := 18) Tryz.func156 rfl rfl rfl fun a_2 HE3 => ?_
  refine wp_seq ?_
  refine rg ?_
  refine pl_x HE3 HH1 (wt0 rfl) (x_assign rfl) rfl rfl fun a_4 HE5 => ?_
  refine wpList_nil ?_
  clear a_2 HE3
  refine nrm ?_
  refine wp_seq ?_
  refine rg ?_
  refine pl fun K_6 hK7 => ?_
  refine st_alloc HE5 HH1 tv_201 (wt0 rfl) rfl fun q21 a_8 w' HE9 HH10 => hK7 _ _ ?_
  refine wpList_nil ?_
  clear a_4 HE5 HH1 hK7 K_6
  refine nrm ?_
  refine wp_seq ?_
  refine wp_seq ?_
  refine rg ?_
  refine pl_x HE9 HH10 (wt0 rfl) (x_move rfl) rfl rfl fun a_11 HE12 => ?_
  refine pl_x HE12 HH10 (wt0 rfl) (x_len Tryz.underlying25 rfl) rfl rfl fun a_13 HE14 => ?_
  refine pl_x HE14 HH10 (wt0 rfl) (x_move rfl) rfl rfl fun a_15 HE16 => ?_
  refine wpList_nil ?_
  clear a_8 HE9 a_11 HE12 a_13 HE14
  refine nrm ?_
  refine wp_block ?_
  obtain ⟨Sr22, HH17⟩ := HH10.toBld (e := eBldT)
  have HH18 : Held Nob w [rBld w q21 Sr22 []] _ := HH17
  refine lp (fun m a w' => ∃ (k : Nat) (S_b3 : Nat → Prop), m = a0.length - k ∧ Env 18 [(8, .int .i64 (k : Int)), (3, .pointer (some ⟨q21, 0, none⟩)), (6, .slice A0 (a0.length) c0), (7, .int .i64 ((a0.length : Int)))] a ∧ Held Nob w [rBld w q21 S_b3 (digT (a0.take k))] w' ∧ (k ≤ a0.length)) (a0.length - (0)) ?_ ?_
  · have E23 : digT (a0.take 0) = [] := by
      first | rfl | simp
    exact ⟨0, Sr22, rfl, HE16.sub ⟨(lkI rfl (by first | rfl | omega | (simp []; done))), rfl, rfl, rfl, trivial⟩, ((HH18.sel [0] (by decide) rfl).to (by first | rfl | (rw [E23]; done) | (rw [E23]; rfl) | (simp only [E23]; done) | (simp only [E23]; rfl) | (rw [E23]; simp only [List.length_set]; done))), (by first | omega | assumption | (simp; done) | simp_all)⟩
  · rintro m a_19 w' ⟨k, S_b3, rfl, HE20, HH21, p24_0⟩
    have ol : (digT (a0.take k)).length ≤ 1000000 := by rw [digT_len, List.length_take]; omega
    refine wp_seq ?_
    refine rg ?_
    refine pl_x HE20 HH21 (wt0 rfl) (x_lss rfl rfl) rfl rfl fun a_22 HE23 => ?_
    refine wpList_nil ?_
    clear HH10 HH17 a_15 HE16 HH18 a_19 HE20
    refine nrm ?_
    refine wp_seq ?_
    refine cnd_d HE23 rfl (fun hc25 => ?_) (fun hc25 => ?_)
    · refine wp_skip ?_
      refine nrm ?_
      refine wp_seq ?_
      refine wp_block ?_
      refine wp_seq ?_
      refine rg ?_
      have ke26 : k < a0.length := by omega
      obtain ⟨be26, fe26, ese26, Ae26, Re26, De26⟩ := el_old h0 ke26
      obtain ⟨e26, xe26⟩ : ∃ x_, x_ = a0[k] := ⟨_, rfl⟩
      rw [← xe26] at Re26
      have Qe26 := Re26
      obtain ⟨rfl, ie26⟩ := Re26
      have je26 := ie26; unfold I64 at je26
      have be26 := s0 e26 (by rw [xe26]; exact List.getElem_mem _)
      refine pl_x HE23 HH21 (wt0 rfl) (x_indexAddr ts_25 rfl rfl Ae26 rfl ke26) rfl rfl fun a_24 HE25 => ?_
      refine pl_x HE25 HH21 (wt0 rfl) (x_load1 tv_2 rfl (c_old (De26 0 _ rfl))) rfl rfl fun a_26 HE27 => ?_
      refine pl_x HE27 HH21 (wt0 rfl) (x_assign rfl) rfl rfl fun a_28 HE29 => ?_
      refine wpList_nil ?_
      clear a_22 HE23 a_24 HE25 a_26 HE27
      refine nrm ?_
      refine rg ?_
      refine pl_x HE29 HH21 (wt0 rfl) (x_move rfl) rfl rfl fun a_30 HE31 => ?_
      refine pl_x HE31 HH21 (wt0 rfl) (x_conv32 Tryz.underlying2 Tryz.underlying21 rfl (by constructor <;> omega)) rfl rfl fun a_32 HE33 => ?_
      refine pl_x HE33 HH21 (wt0 rfl) (x_add32 rfl rfl (by constructor <;> omega)) rfl rfl fun a_34 HE35 => ?_
      refine pl fun K_36 hK37 => ?_
      refine st_call HE35 (wt0 rfl) rfl rfl rfl en_194 rfl rfl (Builder_WriteRune (48 + e26) HH21 (by constructor <;> omega) (by first | omega | (simp only [List.length_append, List.length_cons, List.length_nil]; omega) | (simp; omega))) fun e w' hr => ?_
      obtain ⟨⟨_, rfl⟩, Sr27_, HH21⟩ := hr
      refine ⟨_, rfl, fun a_38 HE39 => hK37 _ _ ?_⟩
      refine wpList_nil ?_
      clear a_28 HE29 a_30 HE31 a_32 HE33 a_34 HE35 hK37 K_36
      refine blk_n ?_
      refine nrm ?_
      refine rg ?_
      refine pl_x HE39 HH21 (wt0 rfl) (x_add rfl rfl (by exact ⟨by omega, by omega⟩)) rfl rfl fun a_40 HE41 => ?_
      refine pl_x HE41 HH21 (wt0 rfl) (x_move rfl) rfl rfl fun a_42 HE43 => ?_
      refine wpList_nil ?_
      clear a_38 HE39 a_40 HE41
      have E28 : digT (a0.take (k + 1)) = (digT (a0.take k) ++ [UInt8.ofNat (48 + e26).toNat]) := by
        unfold digT; rw [List.take_succ_eq_append_getElem (by omega), List.map_append, ← xe26]; rfl
      exact nrm ⟨a0.length - (k + 1), (by omega), k + 1, Sr27_, rfl, HE43.sub ⟨(lkI rfl (by first | rfl | omega | (simp [p24_0, hc25, xe26]; done))), rfl, rfl, rfl, trivial⟩, ((HH21.sel [0] (by decide) rfl).to (by first | rfl | (rw [E28]; done) | (rw [E28]; rfl) | (simp only [E28]; done) | (simp only [E28]; rfl) | (rw [E28]; simp only [List.length_set]; done))), (by first | omega | assumption | (simp; done) | simp_all)⟩
    · refine wp_exit ?_
      refine (thn_exit (thn_exit (blk_hit ?_)))
      refine nrm ?_
      refine wp_seq ?_
      refine rg ?_
      refine pl fun K_44 hK45 => ?_
      refine st_call HE23 (wt0 rfl) rfl rfl rfl en_186 rfl rfl (Builder_String HH21 (by first | omega | (simp only [List.length_append, List.length_cons, List.length_nil]; omega) | (simp; omega))) fun e w' hr => ?_
      obtain ⟨rfl, Sr29_, HH46⟩ := hr
      refine ⟨_, rfl, fun a_47 HE48 => hK45 _ _ ?_⟩
      refine pl_x HE48 HH46 (wt0 rfl) (x_assign rfl) rfl rfl fun a_49 HE50 => ?_
      refine wpList_nil ?_
      clear HH21 a_22 HE23 a_47 HE48 hK45 K_44
      refine nrm ?_
      refine wp_ret ?_
      refine ret1 HE50 rfl (rv_tmp rfl) ?_
      have hF : (digT a0) = digT (a0.take k) := by
        rw [List.take_of_length_le (by omega)]
      exact ⟨by first | (rw [hF] <;> rfl) | rfl | (rw [hF]; simp only [Ending.returned.injEq, Value.slice.injEq, true_and, and_true]; first | omega | (simp; done)) | (rw [hF]; simp; omega), HH46.below⟩

def movB (x : Int) : UInt8 := ([76, 83, 82] : List UInt8).getD (x + 1).toNat 0

def movT (l : List Int) : List UInt8 := l.map movB

theorem movT_len (l : List Int) : (movT l).length = l.length := by simp [movT]

theorem mov_slice {x : Int} (h : -1 ≤ x ∧ x ≤ 1) : ((([76, 83, 82] : List UInt8).drop (x + 1).toNat).take (((x + 1) + 1).toNat - (x + 1).toNat)) = [movB x] := by
  obtain rfl | rfl | rfl : x = -1 ∨ x = 0 ∨ x = 1 := by omega
  · rfl
  · rfl
  · rfl

theorem itoa_one {x : Int} (h : 0 ≤ x ∧ x ≤ 9) : Go.Lib.itoa x = [UInt8.ofNat (48 + x).toNat] := by
  unfold Go.Lib.itoa
  rw [if_neg (by omega), Go.Lib.decDigits, dif_pos (by omega), show (48 + x).toNat = 48 + x.toNat from by omega]

def mrT (r : tMultiRule) : List UInt8 := Go.Lib.join [Go.Lib.itoa r.1, digT r.2.1, digT r.2.2.1, movT r.2.2.2.1, Go.Lib.itoa r.2.2.2.2] [32]

def headT (m : tMulti) : List UInt8 := decs [m.1, m.2.1, m.2.2.1] [32]

def multT (m : tMulti) : List UInt8 := headT m ++ Go.Lib.joinTail [10] (m.2.2.2.map mrT)

def multText (m : tMulti) : List UInt8 := if validMulti m = true then multT m else []

def okMr (r : tMultiRule) : Prop := (0 ≤ r.1 ∧ r.1 ≤ 15) ∧ (r.2.1.length ≤ 3 ∧ ∀ x ∈ r.2.1, 0 ≤ x ∧ x ≤ 9) ∧ (r.2.2.1.length ≤ 3 ∧ ∀ x ∈ r.2.2.1, 0 ≤ x ∧ x ≤ 9) ∧ (r.2.2.2.1.length ≤ 3 ∧ ∀ x ∈ r.2.2.2.1, -1 ≤ x ∧ x ≤ 1) ∧ 0 ≤ r.2.2.2.2 ∧ r.2.2.2.2 ≤ 15

theorem validMulti_ok {m : tMulti} (h : validMulti m = true) : ∀ r ∈ m.2.2.2, okMr r := by
  intro r hr
  obtain ⟨h1, h2, h3, h4⟩ := validMulti_facts h
  unfold validMulti at h
  simp only [Bool.and_eq_true, Bool.not_eq_true', List.any_eq_false] at h
  obtain ⟨i, hi⟩ := List.mem_iff_getElem?.1 hr
  have hb := h.2 i (List.mem_range.2 (List.getElem?_eq_some_iff.1 hi).1)
  unfold badMR at hb
  rw [hi, Option.getD_some] at hb
  have hv : validMR m r = true := by
    cases hq : validMR m r with
    | true => rfl
    | false => rw [hq] at hb; simp at hb
  unfold validMR at hv
  simp only [Bool.and_eq_true, beq_iff_eq] at hv
  obtain ⟨⟨⟨⟨⟨⟨⟨b1, b2⟩, b3⟩, b4⟩, b5⟩, b6⟩, b7⟩, b8⟩ := hv
  have e1 := withinB_true.1 b1
  have e2 := withinB_true.1 b2
  exact ⟨by omega, ⟨by omega, fun x hx => by have := allW_mem b6 x hx; omega⟩, ⟨by omega, fun x hx => by have := allW_mem b7 x hx; omega⟩, ⟨by omega, allW_mem b8⟩, by omega⟩

theorem mrT_len {r : tMultiRule} (h : okMr r) : (mrT r).length ≤ 99 := by
  obtain ⟨h1, h2, h3, h4, h5⟩ := h
  have i1 := itoa_len (n := r.1) (by omega)
  have i2 := itoa_len (n := r.2.2.2.2) (by omega)
  have d1 := digT_len r.2.1
  have d2 := digT_len r.2.2.1
  have d3 := movT_len r.2.2.2.1
  have g1 := h2.1
  have g2 := h3.1
  have g3 := h4.1
  simp [mrT, Go.Lib.join, List.intercalate]
  omega

theorem headT_len {m : tMulti} (h : (2 ≤ m.1 ∧ m.1 ≤ 3) ∧ (2 ≤ m.2.1 ∧ m.2.1 ≤ 3) ∧ 1 ≤ m.2.2.1 ∧ m.2.2.1 ≤ 16) : (headT m).length ≤ 90 := by
  have := decs_len (l := [m.1, m.2.1, m.2.2.1]) (b := [32]) (by intro x hx; simp at hx; omega) (by simp)
  simpa [headT] using this

theorem decs_three2 (a b c : Int) (s : List UInt8) : decs [a, b, c] s = Go.Lib.itoa a ++ s ++ Go.Lib.itoa b ++ s ++ Go.Lib.itoa c := by
  simp [decs, Go.Lib.join, List.intercalate]

theorem jt_step {α : Type} (f : α → List UInt8) (l : List α) {k : Nat} (hk : k < l.length) (sep : List UInt8) : Go.Lib.joinTail sep ((l.take (k + 1)).map f) = Go.Lib.joinTail sep ((l.take k).map f) ++ sep ++ f l[k] := by
  rw [List.take_succ_eq_append_getElem hk, List.map_append]
  simp [Go.Lib.joinTail]

theorem jt_len {l : List tMultiRule} (h : ∀ r ∈ l, okMr r) (k : Nat) : (Go.Lib.joinTail [10] ((l.take k).map mrT)).length ≤ 100 * l.length := by
  have key : ∀ q : List tMultiRule, (∀ r ∈ q, okMr r) → (Go.Lib.joinTail [10] (q.map mrT)).length ≤ 100 * q.length := by
    intro q
    induction q with
    | nil => intro _; simp [Go.Lib.joinTail]
    | cons x q ih =>
      intro hq
      have h1 := ih fun r hr => hq r (List.mem_cons_of_mem _ hr)
      have h2 := mrT_len (hq x (by simp))
      simp only [Go.Lib.joinTail, List.map_cons, List.flatten_cons, List.length_append, List.length_cons, List.length_nil] at h1 ⊢
      omega
  have h1 := key (l.take k) fun r hr => h r (List.mem_of_mem_take hr)
  rw [List.length_take] at h1
  omega

theorem join_head (x : List UInt8) (r : List (List UInt8)) (sep : List UInt8) : Go.Lib.join ([x] ++ r) sep = x ++ Go.Lib.joinTail sep r := Go.Lib.join_cons x r sep

set_option maxRecDepth 100000 in
set_option maxHeartbeats 4000000 in
theorem impl_movesText (A0 : Option Addr) (c0 : Nat) (a0 : (List Int)) (w : World) (h0 : Sl eInt w (Old w) A0 c0 a0) (s0 : ∀ x ∈ a0, -1 ≤ x ∧ x ≤ 1) (s1 : a0.length ≤ 1000) :
    Calls Tryz.prog 157 #[.slice A0 a0.length c0] w fun e w' => e = .returned (.string (bs (movT a0))) ∧ Below w.heap.size w w' := by
  have l0 := h0.len
  have HH1 := Held.start Nob w
  refine enter (n := 18) Tryz.func157 rfl rfl rfl fun a_2 HE3 => ?_
  refine wp_seq ?_
  refine rg ?_
  refine pl_x HE3 HH1 (wt0 rfl) (x_assign rfl) rfl rfl fun a_4 HE5 => ?_
  refine wpList_nil ?_
  clear a_2 HE3
  refine nrm ?_
  refine wp_seq ?_
  refine rg ?_
  refine pl fun K_6 hK7 => ?_
  refine st_alloc HE5 HH1 tv_201 (wt0 rfl) rfl fun q21 a_8 w' HE9 HH10 => hK7 _ _ ?_
  refine wpList_nil ?_
  clear a_4 HE5 HH1 hK7 K_6
  refine nrm ?_
  refine wp_seq ?_
  refine wp_seq ?_
  refine rg ?_
  refine pl_x HE9 HH10 (wt0 rfl) (x_move rfl) rfl rfl fun a_11 HE12 => ?_
  refine pl_x HE12 HH10 (wt0 rfl) (x_len Tryz.underlying25 rfl) rfl rfl fun a_13 HE14 => ?_
  refine pl_x HE14 HH10 (wt0 rfl) (x_move rfl) rfl rfl fun a_15 HE16 => ?_
  refine wpList_nil ?_
  clear a_8 HE9 a_11 HE12 a_13 HE14
  refine nrm ?_
  refine wp_block ?_
  obtain ⟨Sr22, HH17⟩ := HH10.toBld (e := eBldT)
  have HH18 : Held Nob w [rBld w q21 Sr22 []] _ := HH17
  refine lp (fun m a w' => ∃ (k : Nat) (S_b3 : Nat → Prop), m = a0.length - k ∧ Env 18 [(8, .int .i64 (k : Int)), (3, .pointer (some ⟨q21, 0, none⟩)), (6, .slice A0 (a0.length) c0), (7, .int .i64 ((a0.length : Int)))] a ∧ Held Nob w [rBld w q21 S_b3 (movT (a0.take k))] w' ∧ (k ≤ a0.length)) (a0.length - (0)) ?_ ?_
  · have E23 : movT (a0.take 0) = [] := by
      first | rfl | simp
    exact ⟨0, Sr22, rfl, HE16.sub ⟨(lkI rfl (by first | rfl | omega | (simp []; done))), rfl, rfl, rfl, trivial⟩, ((HH18.sel [0] (by decide) rfl).to (by first | rfl | (rw [E23]; done) | (rw [E23]; rfl) | (simp only [E23]; done) | (simp only [E23]; rfl) | (rw [E23]; simp only [List.length_set]; done))), (by first | omega | assumption | (simp; done) | simp_all)⟩
  · rintro m a_19 w' ⟨k, S_b3, rfl, HE20, HH21, p24_0⟩
    have ol : (movT (a0.take k)).length ≤ 1000 := by rw [movT_len, List.length_take]; omega
    refine wp_seq ?_
    refine rg ?_
    refine pl_x HE20 HH21 (wt0 rfl) (x_lss rfl rfl) rfl rfl fun a_22 HE23 => ?_
    refine wpList_nil ?_
    clear HH10 HH17 a_15 HE16 HH18 a_19 HE20
    refine nrm ?_
    refine wp_seq ?_
    refine cnd_d HE23 rfl (fun hc25 => ?_) (fun hc25 => ?_)
    · refine wp_skip ?_
      refine nrm ?_
      refine wp_seq ?_
      refine wp_block ?_
      refine wp_seq ?_
      refine rg ?_
      have ke26 : k < a0.length := by omega
      obtain ⟨be26, fe26, ese26, Ae26, Re26, De26⟩ := el_old h0 ke26
      obtain ⟨e26, xe26⟩ : ∃ x_, x_ = a0[k] := ⟨_, rfl⟩
      rw [← xe26] at Re26
      have Qe26 := Re26
      obtain ⟨rfl, ie26⟩ := Re26
      have je26 := ie26; unfold I64 at je26
      have be26 := s0 e26 (by rw [xe26]; exact List.getElem_mem _)
      have ha0 : a0[k]'(by omega) = e26 := xe26.symm
      refine pl_x HE23 HH21 (wt0 rfl) (x_indexAddr ts_25 rfl rfl Ae26 rfl ke26) rfl rfl fun a_24 HE25 => ?_
      refine pl_x HE25 HH21 (wt0 rfl) (x_load1 tv_2 rfl (c_old (De26 0 _ rfl))) rfl rfl fun a_26 HE27 => ?_
      refine pl_x HE27 HH21 (wt0 rfl) (x_assign rfl) rfl rfl fun a_28 HE29 => ?_
      refine wpList_nil ?_
      clear a_22 HE23 a_24 HE25 a_26 HE27
      refine nrm ?_
      refine rg ?_
      refine pl_x HE29 HH21 (wt0 rfl) (x_move rfl) rfl rfl fun a_30 HE31 => ?_
      refine pl_x HE31 HH21 (wt0 rfl) (x_add rfl rfl (by exact ⟨by omega, by omega⟩)) rfl rfl fun a_32 HE33 => ?_
      have ke27 : ((e26 + 1)).toNat < List.length ([76, 83, 82] : List UInt8) := by first | omega | (simp only [List.length_cons, List.length_nil]; omega)
      obtain ⟨e27, xe27⟩ : ∃ x_, x_ = ([76, 83, 82] : List UInt8)[((e26 + 1)).toNat] := ⟨_, rfl⟩
      have je27 : 0 ≤ (e27.toNat : Int) ∧ (e27.toNat : Int) ≤ 255 := by have := e27.toNat_lt; omega
      have hb0 : e27 = ([76, 83, 82] : List UInt8).getD ((e26 + 1)).toNat 0 := by rw [xe27, List.getD_eq_getElem?_getD, List.getElem?_eq_getElem ke27]; rfl
      refine pl_x HE33 HH21 (wt0 rfl) (x_idxB Tryz.underlying9 rfl rfl (by omega) ke27 xe27) rfl rfl fun a_34 HE35 => ?_
      refine pl fun K_36 hK37 => ?_
      refine st_call HE35 (wt0 rfl) rfl rfl rfl en_195 rfl rfl (Builder_WriteByte (e27.toNat : Int) HH21 (by constructor <;> omega) (by first | omega | (simp only [List.length_append, List.length_cons, List.length_nil]; omega) | (simp; omega))) fun e w' hr => ?_
      obtain ⟨⟨_, rfl⟩, Sr28_, HH21⟩ := hr
      refine ⟨_, rfl, fun a_38 HE39 => hK37 _ _ ?_⟩
      refine wpList_nil ?_
      clear a_28 HE29 a_30 HE31 a_32 HE33 a_34 HE35 hK37 K_36
      refine blk_n ?_
      refine nrm ?_
      refine rg ?_
      refine pl_x HE39 HH21 (wt0 rfl) (x_add rfl rfl (by exact ⟨by omega, by omega⟩)) rfl rfl fun a_40 HE41 => ?_
      refine pl_x HE41 HH21 (wt0 rfl) (x_move rfl) rfl rfl fun a_42 HE43 => ?_
      refine wpList_nil ?_
      clear a_38 HE39 a_40 HE41
      have E29 : movT (a0.take (k + 1)) = (movT (a0.take k) ++ [UInt8.ofNat (e27.toNat : Int).toNat]) := by
        unfold movT; rw [List.take_succ_eq_append_getElem (by omega), List.map_append, ha0]; simp [movB, hb0]
      exact nrm ⟨a0.length - (k + 1), (by omega), k + 1, Sr28_, rfl, HE43.sub ⟨(lkI rfl (by first | rfl | omega | (simp [p24_0, hc25, xe26, xe27]; done))), rfl, rfl, rfl, trivial⟩, ((HH21.sel [0] (by decide) rfl).to (by first | rfl | (rw [E29]; done) | (rw [E29]; rfl) | (simp only [E29]; done) | (simp only [E29]; rfl) | (rw [E29]; simp only [List.length_set]; done))), (by first | omega | assumption | (simp; done) | simp_all)⟩
    · refine wp_exit ?_
      refine (thn_exit (thn_exit (blk_hit ?_)))
      refine nrm ?_
      refine wp_seq ?_
      refine rg ?_
      refine pl fun K_44 hK45 => ?_
      refine st_call HE23 (wt0 rfl) rfl rfl rfl en_186 rfl rfl (Builder_String HH21 (by first | omega | (simp only [List.length_append, List.length_cons, List.length_nil]; omega) | (simp; omega))) fun e w' hr => ?_
      obtain ⟨rfl, Sr30_, HH46⟩ := hr
      refine ⟨_, rfl, fun a_47 HE48 => hK45 _ _ ?_⟩
      refine pl_x HE48 HH46 (wt0 rfl) (x_assign rfl) rfl rfl fun a_49 HE50 => ?_
      refine wpList_nil ?_
      clear HH21 a_22 HE23 a_47 HE48 hK45 K_44
      refine nrm ?_
      refine wp_ret ?_
      refine ret1 HE50 rfl (rv_tmp rfl) ?_
      have hF : (movT a0) = movT (a0.take k) := by
        rw [List.take_of_length_le (by omega)]
      exact ⟨by first | (rw [hF] <;> rfl) | rfl | (rw [hF]; simp only [Ending.returned.injEq, Value.slice.injEq, true_and, and_true]; first | omega | (simp; done)) | (rw [hF]; simp; omega), HH46.below⟩

set_option maxRecDepth 100000 in
set_option maxHeartbeats 4000000 in
theorem impl_MultiText (es0 : List Value) (a0 : tMulti) (w : World) (h0 : eMulti.R w (Old w) es0 a0) (hG : Glob w) :
    Calls Tryz.prog 99 #[.agg es0.toArray] w fun e w' => e = .returned (.string (bs (multText a0))) ∧ Below w.heap.size w w' := by
  have H0 := h0
  obtain ⟨Az0_3, cz0_3, rfl, gz0_0, gz0_1, gz0_2, gz0_3⟩ := shape_Multi h0
  have jz0_0 := gz0_0; unfold I64 at jz0_0
  have jz0_1 := gz0_1; unfold I64 at jz0_1
  have jz0_2 := gz0_2; unfold I64 at jz0_2
  have lz0_3 := gz0_3.len
  have HH1 := Held.start Nob w
  refine enter (n := 48) Tryz.func99 rfl rfl rfl fun a_2 HE3 => ?_
  refine wp_seq ?_
  refine rg ?_
  refine pl fun K_4 hK5 => ?_
  refine st_box (cs := [.int .i64 (a0.1), .int .i64 (a0.2.1), .int .i64 (a0.2.2.1), .slice Az0_3 (a0.2.2.2.length) cz0_3]) HE3 HH1 rfl rfl (wt0 rfl) rfl fun q21 a_6 w' HE7 HH8 => hK5 _ _ ?_
  refine pl_x HE7 HH8 (wt0 rfl) (x_assign rfl) rfl rfl fun a_9 HE10 => ?_
  refine wpList_nil ?_
  clear a_2 HE3 HH1 a_6 HE7 hK5 K_4
  refine nrm ?_
  refine wp_seq ?_
  refine wp_seq ?_
  refine rg ?_
  refine pl_x HE10 HH8 (wt0 rfl) (x_loadN (cs := [.int .i64 (a0.1), .int .i64 (a0.2.1), .int .i64 (a0.2.2.1), .slice Az0_3 (a0.2.2.2.length) cz0_3]) tv_68 rfl rfl (c_blkN 0 rfl)) rfl rfl fun a_11 HE12 => ?_
  refine pl fun K_13 hK14 => ?_
  refine st_call HE12 (wt0 rfl) rfl rfl rfl en_98 rfl rfl (impl_ValidMulti [.int .i64 (a0.1), .int .i64 (a0.2.1), .int .i64 (a0.2.2.1), .slice Az0_3 (a0.2.2.2.length) cz0_3] a0 _ (HH8.oldR H0)) fun e w' hr => ?_
  obtain ⟨rfl, hbr22⟩ := hr
  have HH15 := HH8.on hbr22
  refine ⟨_, rfl, fun a_16 HE17 => hK14 _ _ ?_⟩
  refine pl_x HE17 HH15 (wt0 rfl) (x_not rfl) rfl rfl fun a_18 HE19 => ?_
  refine wpList_nil ?_
  clear a_9 HE10 HH8 a_11 HE12 a_16 HE17 hK14 K_13
  refine nrm ?_
  refine cnd_nb HE19 rfl (fun hc23 => ?_) (fun hc23 => ?_)
  · refine wp_seq ?_
    refine rg ?_
    refine pl_x HE19 HH15 (wt0 rfl) (x_assign rfl) rfl rfl fun a_20 HE21 => ?_
    refine wpList_nil ?_
    clear a_18 HE19
    refine nrm ?_
    refine wp_ret ?_
    refine (thn_ret ?_)
    refine ret1 HE21 rfl (rv_tmp rfl) ?_
    have hF : (multText a0) = [] := by
      unfold multText; first | (simp [hc23]; done) | (rw [if_pos ‹_›]; unfold multT; rw [join_head, List.take_of_length_le (by omega)])
    exact ⟨by first | (rw [hF] <;> rfl) | rfl | (rw [hF]; simp only [Ending.returned.injEq, Value.slice.injEq, true_and, and_true]; first | omega | (simp; done)) | (rw [hF]; simp; omega), HH15.below⟩
  · obtain ⟨v0, v1, v2, v3⟩ := validMulti_facts hc23
    have v4 := validMulti_ok hc23
    have v5 := headT_len (m := a0) ⟨v0, v1, v2⟩
    refine wp_skip ?_
    refine nrm ?_
    refine wp_seq ?_
    refine rg ?_
    refine pl_x HE19 HH15 (wt0 rfl) (x_fieldAddr fa_68_0 rfl) rfl rfl fun a_22 HE23 => ?_
    refine pl_x HE23 HH15 (wt0 rfl) (x_load1 tv_2 rfl (c_blk 0 rfl rfl)) rfl rfl fun a_24 HE25 => ?_
    refine pl_x HE25 HH15 (wt0 rfl) (x_fieldAddr fa_68_1 rfl) rfl rfl fun a_26 HE27 => ?_
    refine pl_x HE27 HH15 (wt0 rfl) (x_load1 tv_2 rfl (c_blk 0 rfl rfl)) rfl rfl fun a_28 HE29 => ?_
    refine pl_x HE29 HH15 (wt0 rfl) (x_fieldAddr fa_68_2 rfl) rfl rfl fun a_30 HE31 => ?_
    refine pl_x HE31 HH15 (wt0 rfl) (x_load1 tv_2 rfl (c_blk 0 rfl rfl)) rfl rfl fun a_32 HE33 => ?_
    refine pl fun K_34 hK35 => ?_
    refine st_lit (m := 3) (cs := [.int .i64 (a0.1), .int .i64 (a0.2.1), .int .i64 (a0.2.2.1)]) (e := 2) HE33 HH15 (run_lit ts_25 HE33 (vs := [.int .i64 (a0.1), .int .i64 (a0.2.1), .int .i64 (a0.2.2.1)]) rfl rfl (by simp [Value.cells]) rfl (by decide)) (wt0 rfl) rfl rfl fun q24 a_36 w' HE37 HH38 => hK35 _ _ ?_
    refine pl fun K_39 hK40 => ?_
    have HH41 := Held.vecFlat (E := eInt) (xs := [a0.1, a0.2.1, a0.2.2.1]) (css := [[.int .i64 (a0.1)], [.int .i64 (a0.2.1)], [.int .i64 (a0.2.2.1)]]) HH38 rfl (by unfold maxLen; simp) (fun i x hx => by match i with | 0 => exact ⟨_, rfl, fun _ => by simp at hx; subst hx; exact (oI (by exact ⟨by omega, by omega⟩))⟩ | 1 => exact ⟨_, rfl, fun _ => by simp at hx; subst hx; exact (oI (by exact ⟨by omega, by omega⟩))⟩ | 2 => exact ⟨_, rfl, fun _ => by simp at hx; subst hx; exact (oI (by exact ⟨by omega, by omega⟩))⟩ | i + 3 => simp at hx)
    refine st_call HE37 (wt0 rfl) rfl rfl rfl en_155 rfl rfl (impl_decimals _ _ ([a0.1, a0.2.1, a0.2.2.1] : List Int) ([32]) _ (HH41.vecSl (i := 0) rfl) (HH41.glob hG) (by first | omega | (simp; done) | (simp; omega)) (by first | omega | (simp; done))) fun e w' hr => ?_
    have hAr25_0 := decs_len (l := ([a0.1, a0.2.1, a0.2.2.1] : List Int)) (b := ([32])) (by first | assumption | exact Sl.i64 (by assumption) | (intro x hx; simp at hx; omega)) (by simp)
    have hAr25_1 := (show List.length ([a0.1, a0.2.1, a0.2.2.1] : List Int) = 3 from rfl)
    obtain ⟨rfl, hbr25⟩ := hr
    have HH42 := HH41.on hbr25
    refine ⟨_, rfl, fun a_43 HE44 => hK40 _ _ ?_⟩
    refine pl fun K_45 hK46 => ?_
    refine st_lit (m := 1) (cs := [.string (bs (decs ([a0.1, a0.2.1, a0.2.2.1] : List Int) ([32])))]) (e := 9) HE44 HH42 (run_lit ts_78 HE44 (vs := [.string (bs (decs ([a0.1, a0.2.1, a0.2.2.1] : List Int) ([32])))]) rfl rfl (by simp [Value.cells]) rfl (by decide)) (wt0 rfl) rfl rfl fun q26 a_47 w' HE48 HH49 => hK46 _ _ ?_
    refine pl_x HE48 HH49 (wt0 rfl) (x_assign rfl) rfl rfl fun a_50 HE51 => ?_
    refine wpList_nil ?_
    clear a_18 HE19 a_22 HE23 a_24 HE25 a_26 HE27 a_28 HE29 a_30 HE31 a_32 HE33 HH15 K_34 hK35 HH38 HH41 a_36 HE37 K_39 hK40 a_43 HE44 HH42 a_47 HE48 hK46 K_45
    refine nrm ?_
    refine wp_seq ?_
    refine wp_seq ?_
    refine rg ?_
    refine pl_x HE51 HH49 (wt0 rfl) (x_fieldAddr fa_68_3 rfl) rfl rfl fun a_52 HE53 => ?_
    refine pl_x HE53 HH49 (wt0 rfl) (x_load1 tv_66 rfl (c_blk 2 rfl rfl)) rfl rfl fun a_54 HE55 => ?_
    refine pl_x HE55 HH49 (wt0 rfl) (x_len Tryz.underlying66 rfl) rfl rfl fun a_56 HE57 => ?_
    refine pl_x HE57 HH49 (wt0 rfl) (x_move rfl) rfl rfl fun a_58 HE59 => ?_
    refine wpList_nil ?_
    clear a_50 HE51 a_52 HE53 a_54 HE55 a_56 HE57
    refine nrm ?_
    refine wp_block ?_
    have HH60 := Held.vecFlat (E := eTxt) (xs := [(decs ([a0.1, a0.2.1, a0.2.2.1] : List Int) ([32]))]) (css := [[.string (bs (decs ([a0.1, a0.2.1, a0.2.2.1] : List Int) ([32])))]]) HH49 rfl (by unfold maxLen; simp) (fun i x hx => by match i with | 0 => exact ⟨_, rfl, fun _ => by simp at hx; subst hx; exact (oS (by first | omega | (simp only [List.length_append, List.length_cons, List.length_nil]; omega) | (simp; omega)))⟩ | i + 1 => simp at hx)
    refine lp (fun m a w' => ∃ (k : Nat) (A_3 : Option Addr) (c_3 : Nat) (S_3 : Nat → Prop), m = a0.2.2.2.length - k ∧ Env 48 [(3, .slice A_3 (List.length ([headT a0] ++ (a0.2.2.2.take k).map mrT)) c_3), (21, .int .i64 (k : Int)), (19, .slice Az0_3 (a0.2.2.2.length) cz0_3), (20, .int .i64 ((a0.2.2.2.length : Int)))] a ∧ Held Nob w [rVec eTxt 9 S_3 A_3 c_3 ([headT a0] ++ (a0.2.2.2.take k).map mrT), rVec eInt 2 (fun b => b = q24) (some ⟨q24, 0, none⟩) (List.length (α := Int) [a0.1, a0.2.1, a0.2.2.1]) ([a0.1, a0.2.1, a0.2.2.1] : List Int), rBlk q21 68 [.int .i64 (a0.1), .int .i64 (a0.2.1), .int .i64 (a0.2.2.1), .slice Az0_3 (a0.2.2.2.length) cz0_3]] w' ∧ (k ≤ a0.2.2.2.length)) (a0.2.2.2.length - (0)) ?_ ?_
    · have E27 : [headT a0] ++ (a0.2.2.2.take 0).map mrT = ([(decs ([a0.1, a0.2.1, a0.2.2.1] : List Int) ([32]))] : List (List UInt8)) := by
        simp [headT]
      exact ⟨0, (some ⟨q26, 0, none⟩), (List.length (α := (List UInt8)) [(decs ([a0.1, a0.2.1, a0.2.2.1] : List Int) ([32]))]), (fun b => b = q26), rfl, HE59.sub ⟨(by rw [E27]; rfl), (lkI rfl (by first | rfl | omega | (simp [hc23]; done))), rfl, rfl, trivial⟩, ((HH60.sel [0, 1, 2] (by decide) rfl).to (by first | rfl | (rw [E27]; done) | (rw [E27]; rfl) | (simp only [E27]; done) | (simp only [E27]; rfl) | (rw [E27]; simp only [List.length_set]; done))), (by first | omega | assumption | (simp; done) | simp_all)⟩
    · rintro m a_61 w' ⟨k, A_3, c_3, S_3, rfl, HE62, HH63, p28_0⟩
      have ol : ([headT a0] ++ (a0.2.2.2.take k).map mrT).length ≤ 61 := by rw [List.length_append, List.length_map, List.length_take]; simp; omega
      have oj : (Go.Lib.join ([headT a0] ++ (a0.2.2.2.take k).map mrT) [10]).length ≤ 10000 := by have := jt_len v4 k; rw [join_head, List.length_append]; omega
      refine wp_seq ?_
      refine rg ?_
      refine pl_x HE62 HH63 (wt0 rfl) (x_lss rfl rfl) rfl rfl fun a_64 HE65 => ?_
      refine wpList_nil ?_
      clear HH49 a_58 HE59 HH60 a_61 HE62
      refine nrm ?_
      refine wp_seq ?_
      refine cnd_d HE65 rfl (fun hc29 => ?_) (fun hc29 => ?_)
      · refine wp_skip ?_
        refine nrm ?_
        refine wp_seq ?_
        refine wp_block ?_
        refine wp_seq ?_
        refine rg ?_
        have ke30 : k < a0.2.2.2.length := by omega
        obtain ⟨be30, fe30, ese30, Ae30, Re30, De30⟩ := el_old gz0_3 ke30
        obtain ⟨e30, xe30⟩ : ∃ x_, x_ = a0.2.2.2[k] := ⟨_, rfl⟩
        rw [← xe30] at Re30
        have Qe30 := Re30
        obtain ⟨Ae30_1, ce30_1, Ae30_2, ce30_2, Ae30_3, ce30_3, rfl, ge30_0, ge30_1, ge30_2, ge30_3, ge30_4⟩ := shape_MultiRule Re30
        have je30_0 := ge30_0; unfold I64 at je30_0
        have le30_1 := ge30_1.len
        have le30_2 := ge30_2.len
        have le30_3 := ge30_3.len
        have je30_4 := ge30_4; unfold I64 at je30_4
        have fe30 := v4 e30 (by rw [xe30]; exact List.getElem_mem _)
        obtain ⟨fae30, ⟨fbe30, fce30⟩, ⟨fde30, fee30⟩, ⟨ffe30, fge30⟩, fhe30⟩ := fe30
        refine pl_x HE65 HH63 (wt0 rfl) (x_indexAddr ts_66 rfl rfl Ae30 rfl ke30) rfl rfl fun a_66 HE67 => ?_
        refine pl_x HE67 HH63 (wt0 rfl) (x_loadN (cs := [.int .i64 (e30.1), .slice Ae30_1 (e30.2.1.length) ce30_1, .slice Ae30_2 (e30.2.2.1.length) ce30_2, .slice Ae30_3 (e30.2.2.2.1.length) ce30_3, .int .i64 (e30.2.2.2.2)]) tv_123 rfl rfl (c_oldN De30)) rfl rfl fun a_68 HE69 => ?_
        refine pl fun K_70 hK71 => ?_
        refine st_alloc HE69 HH63 tv_123 (wt0 rfl) rfl fun q31 a_72 w' HE73 HH74 => hK71 _ _ ?_
        refine pl fun K_75 hK76 => ?_
        refine st_store (vs := [.int .i64 (e30.1), .slice Ae30_1 (e30.2.1.length) ce30_1, .slice Ae30_2 (e30.2.2.1.length) ce30_2, .slice Ae30_3 (e30.2.2.2.1.length) ce30_3, .int .i64 (e30.2.2.2.2)]) 0 HE73 HH74 tv_123 rfl rfl rfl rfl rfl rfl (by simp [Value.oneCell']) (wt0 rfl) fun w' HH77 => hK76 _ _ ?_
        refine wpList_nil ?_
        clear a_64 HE65 a_66 HE67 a_68 HE69 HH63 K_70 hK71 HH74 hK76 K_75
        refine nrm ?_
        refine dr_start (Held Nob w [rBlk q31 123 [.int .i64 (e30.1), .slice Ae30_1 (e30.2.1.length) ce30_1, .slice Ae30_2 (e30.2.2.1.length) ce30_2, .slice Ae30_3 (e30.2.2.2.1.length) ce30_3, .int .i64 (e30.2.2.2.2)], rVec eInt 2 (fun b => b = q24) (some ⟨q24, 0, none⟩) (List.length (α := Int) [a0.1, a0.2.1, a0.2.2.1]) ([a0.1, a0.2.1, a0.2.2.1] : List Int), rBlk q21 68 [.int .i64 (a0.1), .int .i64 (a0.2.1), .int .i64 (a0.2.2.1), .slice Az0_3 (a0.2.2.2.length) cz0_3]]) 21 #[false, false, false, false, false, false, false, false, false, false, false, false, false, false, false, false, false, false, false, false, false] hmix rfl rfl HH77 (fun _ h => h.sel [0, 2, 3] (by decide) rfl) fun w' HH78 => ?_
        have HS79 := HH78.sel [0, 2, 3] (by decide) rfl
        refine dr_take (i := 0) (ls' := #[true, false, false, false, false, false, false, false, false, false, false, false, false, false, false, false, false, false, false, false, false]) HE73 HS79 rfl (by kernel_rfl) (by kernel_rfl) (by kernel_rfl) (fun _ _ _ h => h) rfl (wt0 rfl) (x_move rfl) rfl rfl fun a_80 HE81 => ?_
        refine dr_take (i := 1) (ls' := #[true, true, false, false, false, false, false, false, false, false, false, false, false, false, false, false, false, false, false, false, false]) HE81 HS79 rfl (by kernel_rfl) (by kernel_rfl) (by kernel_rfl) (fun _ _ _ h => h) rfl (wt0 rfl) (x_fieldAddr fa_123_0 rfl) rfl rfl fun a_82 HE83 => ?_
        refine dr_take (i := 2) (ls' := #[true, true, true, false, false, false, false, false, false, false, false, false, false, false, false, false, false, false, false, false, false]) HE83 HS79 rfl (by kernel_rfl) (by kernel_rfl) (by kernel_rfl) (fun _ _ _ h => h) rfl (wt0 rfl) (x_load1 tv_2 rfl (c_blk 0 rfl rfl)) rfl rfl fun a_84 HE85 => ?_
        refine dr_take (i := 4) (ls' := #[true, true, true, false, true, false, false, false, false, false, false, false, false, false, false, false, false, false, false, false, false]) HE85 HS79 rfl (by kernel_rfl) (by kernel_rfl) (by kernel_rfl) (fun _ _ _ h => h) rfl (wt0 rfl) (x_fieldAddr fa_123_1 rfl) rfl rfl fun a_86 HE87 => ?_
        refine dr_take (i := 5) (ls' := #[true, true, true, false, true, true, false, false, false, false, false, false, false, false, false, false, false, false, false, false, false]) HE87 HS79 rfl (by kernel_rfl) (by kernel_rfl) (by kernel_rfl) (fun _ _ _ h => h) rfl (wt0 rfl) (x_load1 tv_25 rfl (c_blk 0 rfl rfl)) rfl rfl fun a_88 HE89 => ?_
        refine dr_take (i := 7) (ls' := #[true, true, true, false, true, true, false, true, false, false, false, false, false, false, false, false, false, false, false, false, false]) HE89 HS79 rfl (by kernel_rfl) (by kernel_rfl) (by kernel_rfl) (fun _ _ _ h => h) rfl (wt0 rfl) (x_fieldAddr fa_123_2 rfl) rfl rfl fun a_90 HE91 => ?_
        refine dr_take (i := 8) (ls' := #[true, true, true, false, true, true, false, true, true, false, false, false, false, false, false, false, false, false, false, false, false]) HE91 HS79 rfl (by kernel_rfl) (by kernel_rfl) (by kernel_rfl) (fun _ _ _ h => h) rfl (wt0 rfl) (x_load1 tv_25 rfl (c_blk 0 rfl rfl)) rfl rfl fun a_92 HE93 => ?_
        refine dr_take (i := 10) (ls' := #[true, true, true, false, true, true, false, true, true, false, true, false, false, false, false, false, false, false, false, false, false]) HE93 HS79 rfl (by kernel_rfl) (by kernel_rfl) (by kernel_rfl) (fun _ _ _ h => h) rfl (wt0 rfl) (x_fieldAddr fa_123_3 rfl) rfl rfl fun a_94 HE95 => ?_
        refine dr_take (i := 11) (ls' := #[true, true, true, false, true, true, false, true, true, false, true, true, false, false, false, false, false, false, false, false, false]) HE95 HS79 rfl (by kernel_rfl) (by kernel_rfl) (by kernel_rfl) (fun _ _ _ h => h) rfl (wt0 rfl) (x_load1 tv_25 rfl (c_blk 0 rfl rfl)) rfl rfl fun a_96 HE97 => ?_
        refine dr_take (i := 13) (ls' := #[true, true, true, false, true, true, false, true, true, false, true, true, false, true, false, false, false, false, false, false, false]) HE97 HS79 rfl (by kernel_rfl) (by kernel_rfl) (by kernel_rfl) (fun _ _ _ h => h) rfl (wt0 rfl) (x_fieldAddr fa_123_4 rfl) rfl rfl fun a_98 HE99 => ?_
        refine dr_take (i := 14) (ls' := #[true, true, true, false, true, true, false, true, true, false, true, true, false, true, true, false, false, false, false, false, false]) HE99 HS79 rfl (by kernel_rfl) (by kernel_rfl) (by kernel_rfl) (fun _ _ _ h => h) rfl (wt0 rfl) (x_load1 tv_2 rfl (c_blk 0 rfl rfl)) rfl rfl fun a_100 HE101 => ?_
        refine dr_one (i := 3) (ls' := #[true, true, true, true, true, true, false, true, true, false, true, true, false, true, true, false, false, false, false, false, false]) rfl (by kernel_rfl) rfl fun K_102 hK103 => ?_
        refine st_call HE101 (wt0 rfl) rfl rfl rfl en_120 rfl rfl (impl_Decimal e30.1 _ (HH78.glob hG) (by omega)) fun e w' hr => ?_
        have hAr32_0 := itoa_len (n := e30.1) (by omega)
        obtain ⟨rfl, hbr32⟩ := hr
        have HH104 := HH78.on hbr32
        refine ⟨_, rfl, fun a_105 HE106 => hK103 _ _ (by exact HH104.sel [0, 2, 3] (by decide) rfl) ?_⟩
        have HS107 := HH104.sel [0, 2, 3] (by decide) rfl
        refine dr_one (i := 6) (ls' := #[true, true, true, true, true, true, true, true, true, false, true, true, false, true, true, false, false, false, false, false, false]) rfl (by kernel_rfl) rfl fun K_108 hK109 => ?_
        refine st_call HE106 (wt0 rfl) rfl rfl rfl en_156 rfl rfl (impl_digitsText _ _ e30.2.1 _ (HH104.old ge30_1) (by assumption) (by omega)) fun e w' hr => ?_
        have hAr33_0 := digT_len e30.2.1
        obtain ⟨rfl, hbr33⟩ := hr
        have HH110 := HH104.on hbr33
        refine ⟨_, rfl, fun a_111 HE112 => hK109 _ _ (by exact HH110.sel [0, 2, 3] (by decide) rfl) ?_⟩
        have HS113 := HH110.sel [0, 2, 3] (by decide) rfl
        refine dr_one (i := 9) (ls' := #[true, true, true, true, true, true, true, true, true, true, true, true, false, true, true, false, false, false, false, false, false]) rfl (by kernel_rfl) rfl fun K_114 hK115 => ?_
        refine st_call HE112 (wt0 rfl) rfl rfl rfl en_156 rfl rfl (impl_digitsText _ _ e30.2.2.1 _ (HH110.old ge30_2) (by assumption) (by omega)) fun e w' hr => ?_
        have hAr34_0 := digT_len e30.2.2.1
        obtain ⟨rfl, hbr34⟩ := hr
        have HH116 := HH110.on hbr34
        refine ⟨_, rfl, fun a_117 HE118 => hK115 _ _ (by exact HH116.sel [0, 2, 3] (by decide) rfl) ?_⟩
        have HS119 := HH116.sel [0, 2, 3] (by decide) rfl
        refine dr_one (i := 12) (ls' := #[true, true, true, true, true, true, true, true, true, true, true, true, true, true, true, false, false, false, false, false, false]) rfl (by kernel_rfl) rfl fun K_120 hK121 => ?_
        refine st_call HE118 (wt0 rfl) rfl rfl rfl en_157 rfl rfl (impl_movesText _ _ e30.2.2.2.1 _ (HH116.old ge30_3) (by assumption) (by omega)) fun e w' hr => ?_
        have hAr35_0 := movT_len e30.2.2.2.1
        obtain ⟨rfl, hbr35⟩ := hr
        have HH122 := HH116.on hbr35
        refine ⟨_, rfl, fun a_123 HE124 => hK121 _ _ (by exact HH122.sel [0, 2, 3] (by decide) rfl) ?_⟩
        have HS125 := HH122.sel [0, 2, 3] (by decide) rfl
        refine dr_one (i := 15) (ls' := #[true, true, true, true, true, true, true, true, true, true, true, true, true, true, true, true, false, false, false, false, false]) rfl (by kernel_rfl) rfl fun K_126 hK127 => ?_
        refine st_call HE124 (wt0 rfl) rfl rfl rfl en_120 rfl rfl (impl_Decimal e30.2.2.2.2 _ (HH122.glob hG) (by omega)) fun e w' hr => ?_
        have hAr36_0 := itoa_len (n := e30.2.2.2.2) (by omega)
        obtain ⟨rfl, hbr36⟩ := hr
        have HH128 := HH122.on hbr36
        refine ⟨_, rfl, fun a_129 HE130 => hK127 _ _ (by exact HH128.sel [0, 2, 3] (by decide) rfl) ?_⟩
        have HS131 := HH128.sel [0, 2, 3] (by decide) rfl
        refine dr_one (i := 16) (ls' := #[true, true, true, true, true, true, true, true, true, true, true, true, true, true, true, true, true, false, false, false, false]) rfl (by kernel_rfl) rfl fun K_132 hK133 => ?_
        refine st_lit (m := 5) (cs := [.string (bs (Go.Lib.itoa e30.1)), .string (bs (digT e30.2.1)), .string (bs (digT e30.2.2.1)), .string (bs (movT e30.2.2.2.1)), .string (bs (Go.Lib.itoa e30.2.2.2.2))]) (e := 9) HE130 HH128 (run_lit ts_78 HE130 (vs := [.string (bs (Go.Lib.itoa e30.1)), .string (bs (digT e30.2.1)), .string (bs (digT e30.2.2.1)), .string (bs (movT e30.2.2.2.1)), .string (bs (Go.Lib.itoa e30.2.2.2.2))]) rfl rfl (by simp [Value.cells]) rfl (by decide)) (wt0 rfl) rfl rfl fun q37 a_134 w' HE135 HH136 => hK133 _ _ (by exact HH136.sel [1, 3, 4] (by decide) rfl) ?_
        have HS137 := HH136.sel [1, 3, 4] (by decide) rfl
        refine dr_one (i := 17) (ls' := #[true, true, true, true, true, true, true, true, true, true, true, true, true, true, true, true, true, true, false, false, false]) rfl (by kernel_rfl) rfl fun K_138 hK139 => ?_
        have HH140 := Held.vecFlat (E := eTxt) (xs := [(Go.Lib.itoa e30.1), (digT e30.2.1), (digT e30.2.2.1), (movT e30.2.2.2.1), (Go.Lib.itoa e30.2.2.2.2)]) (css := [[.string (bs (Go.Lib.itoa e30.1))], [.string (bs (digT e30.2.1))], [.string (bs (digT e30.2.2.1))], [.string (bs (movT e30.2.2.2.1))], [.string (bs (Go.Lib.itoa e30.2.2.2.2))]]) HH136 rfl (by unfold maxLen; simp) (fun i x hx => by match i with | 0 => exact ⟨_, rfl, fun _ => by simp at hx; subst hx; exact (oS (by first | omega | (simp only [List.length_append, List.length_cons, List.length_nil]; omega) | (simp; omega)))⟩ | 1 => exact ⟨_, rfl, fun _ => by simp at hx; subst hx; exact (oS (by first | omega | (simp only [List.length_append, List.length_cons, List.length_nil]; omega) | (simp; omega)))⟩ | 2 => exact ⟨_, rfl, fun _ => by simp at hx; subst hx; exact (oS (by first | omega | (simp only [List.length_append, List.length_cons, List.length_nil]; omega) | (simp; omega)))⟩ | 3 => exact ⟨_, rfl, fun _ => by simp at hx; subst hx; exact (oS (by first | omega | (simp only [List.length_append, List.length_cons, List.length_nil]; omega) | (simp; omega)))⟩ | 4 => exact ⟨_, rfl, fun _ => by simp at hx; subst hx; exact (oS (by first | omega | (simp only [List.length_append, List.length_cons, List.length_nil]; omega) | (simp; omega)))⟩ | i + 5 => simp at hx)
        refine st_call HE135 (wt0 rfl) rfl rfl rfl en_144 rfl rfl (Join_Str _ _ ([(Go.Lib.itoa e30.1), (digT e30.2.1), (digT e30.2.2.1), (movT e30.2.2.2.1), (Go.Lib.itoa e30.2.2.2.2)] : List (List UInt8)) ([32]) _ (HH140.vecSl (i := 0) rfl) (by first | omega | (simp; done)) (by first | omega | (simp [Go.Lib.join, List.intercalate]; omega))) fun e w' hr => ?_
        have hAr38_0 := (by first | omega | (simp [Go.Lib.join, List.intercalate]; omega) : (Go.Lib.join ([(Go.Lib.itoa e30.1), (digT e30.2.1), (digT e30.2.2.1), (movT e30.2.2.2.1), (Go.Lib.itoa e30.2.2.2.2)] : List (List UInt8)) ([32])).length ≤ 1000000000)
        obtain ⟨rfl, hbr38⟩ := hr
        have HH141 := HH140.on hbr38
        refine ⟨_, rfl, fun a_142 HE143 => hK139 _ _ (by exact HH141.sel [1, 3, 4] (by decide) rfl) ?_⟩
        have HS144 := HH141.sel [1, 3, 4] (by decide) rfl
        refine dr_one (i := 18) (ls' := #[true, true, true, true, true, true, true, true, true, true, true, true, true, true, true, true, true, true, true, false, false]) rfl (by kernel_rfl) rfl fun K_145 hK146 => ?_
        refine st_lit (m := 1) (cs := [.string (bs (Go.Lib.join ([(Go.Lib.itoa e30.1), (digT e30.2.1), (digT e30.2.2.1), (movT e30.2.2.2.1), (Go.Lib.itoa e30.2.2.2.2)] : List (List UInt8)) ([32])))]) (e := 9) HE143 HH141 (run_lit ts_78 HE143 (vs := [.string (bs (Go.Lib.join ([(Go.Lib.itoa e30.1), (digT e30.2.1), (digT e30.2.2.1), (movT e30.2.2.2.1), (Go.Lib.itoa e30.2.2.2.2)] : List (List UInt8)) ([32])))]) rfl rfl (by simp [Value.cells]) rfl (by decide)) (wt0 rfl) rfl rfl fun q39 a_147 w' HE148 HH149 => hK146 _ _ (by exact HH149.sel [2, 4, 5] (by decide) rfl) ?_
        have HS150 := HH149.sel [2, 4, 5] (by decide) rfl
        refine dr_one (i := 19) (ls' := #[true, true, true, true, true, true, true, true, true, true, true, true, true, true, true, true, true, true, true, true, false]) rfl (by kernel_rfl) rfl fun K_151 hK152 => ?_
        refine st_app1F (Go.Lib.join ([(Go.Lib.itoa e30.1), (digT e30.2.1), (digT e30.2.2.1), (movT e30.2.2.2.1), (Go.Lib.itoa e30.2.2.2.2)] : List (List UInt8)) ([32])) HE148 HH149 ts_78 [3, 0, 1, 2, 4, 5] (by decide) rfl (fun _ => (oS (by first | omega | (simp only [List.length_append, List.length_cons, List.length_nil]; omega) | (simp; omega)))) rfl rfl (by simp [Value.oneCell']) (by unfold maxLen; first | omega | (simp; done) | (simp; omega)) (by first | omega | (simp; done) | (simp; omega)) (wt0 rfl) rfl fun A40 c41 S42 a_153 w' HE154 HH155 => hK152 _ _ (by exact HH155.sel [2, 3, 4] (by decide) rfl) ?_
        have HS156 := HH155.sel [2, 3, 4] (by decide) rfl
        refine dr_take (i := 20) (ls' := #[true, true, true, true, true, true, true, true, true, true, true, true, true, true, true, true, true, true, true, true, true]) HE154 HS156 rfl (by kernel_rfl) (by kernel_rfl) (by kernel_rfl) (fun _ _ _ h => h) rfl (wt0 rfl) (x_assign rfl) rfl rfl fun a_157 HE158 => ?_
        refine dr_done (by kernel_rfl) ?_
        clear HH77 a_72 HE73 a_80 HE81 a_82 HE83 a_84 HE85 a_86 HE87 a_88 HE89 a_90 HE91 a_92 HE93 a_94 HE95 a_96 HE97 a_98 HE99 HH78 a_100 HE101 HS79 K_102 hK103 HH104 a_105 HE106 HS107 K_108 hK109 HH110 a_111 HE112 HS113 K_114 hK115 HH116 a_117 HE118 HS119 K_120 hK121 HH122 a_123 HE124 HS125 K_126 hK127 a_129 HE130 HH128 HS131 K_132 hK133 HH136 HH140 a_134 HE135 HS137 K_138 hK139 a_142 HE143 HH141 HS144 K_145 hK146 a_147 HE148 HH149 HS150 a_153 HE154 hK152 K_151
        refine blk_n ?_
        refine nrm ?_
        refine rg ?_
        refine pl_x HE158 HH155 (wt0 rfl) (x_add rfl rfl (by exact ⟨by omega, by omega⟩)) rfl rfl fun a_159 HE160 => ?_
        refine pl_x HE160 HH155 (wt0 rfl) (x_move rfl) rfl rfl fun a_161 HE162 => ?_
        refine wpList_nil ?_
        clear a_157 HE158 a_159 HE160
        have E43 : [headT a0] ++ (a0.2.2.2.take (k + 1)).map mrT = ([headT a0] ++ (a0.2.2.2.take k).map mrT ++ [(Go.Lib.join ([(Go.Lib.itoa e30.1), (digT e30.2.1), (digT e30.2.2.1), (movT e30.2.2.2.1), (Go.Lib.itoa e30.2.2.2.2)] : List (List UInt8)) ([32]))]) := by
          rw [List.take_succ_eq_append_getElem (by omega), List.map_append, ← xe30]; simp [mrT]
        exact nrm ⟨a0.2.2.2.length - (k + 1), (by omega), k + 1, A40, c41, S42, rfl, HE162.sub ⟨(by rw [E43]; rfl), (lkI rfl (by first | rfl | omega | (simp [hc23, p28_0, hc29, xe30]; done))), rfl, rfl, trivial⟩, ((HH155.sel [0, 3, 4] (by decide) rfl).to (by first | rfl | (rw [E43]; done) | (rw [E43]; rfl) | (simp only [E43]; done) | (simp only [E43]; rfl) | (rw [E43]; simp only [List.length_set]; done))), (by first | omega | assumption | (simp; done) | simp_all)⟩
      · refine wp_exit ?_
        refine (thn_exit (thn_exit (blk_hit ?_)))
        refine nrm ?_
        refine wp_seq ?_
        refine rg ?_
        refine pl_x HE65 HH63 (wt0 rfl) (x_move rfl) rfl rfl fun a_163 HE164 => ?_
        refine pl fun K_165 hK166 => ?_
        refine st_call HE164 (wt0 rfl) rfl rfl rfl en_144 rfl rfl (Join_Str _ _ ([headT a0] ++ (a0.2.2.2.take k).map mrT) ([10]) _ (HH63.vecSl (i := 0) rfl) (by first | omega | (simp; done)) (by first | omega | (simp [Go.Lib.join, List.intercalate]; omega))) fun e w' hr => ?_
        have hAr44_0 := (by first | omega | (simp [Go.Lib.join, List.intercalate]; omega) : (Go.Lib.join ([headT a0] ++ (a0.2.2.2.take k).map mrT) ([10])).length ≤ 1000000000)
        obtain ⟨rfl, hbr44⟩ := hr
        have HH167 := HH63.on hbr44
        refine ⟨_, rfl, fun a_168 HE169 => hK166 _ _ ?_⟩
        refine pl_x HE169 HH167 (wt0 rfl) (x_assign rfl) rfl rfl fun a_170 HE171 => ?_
        refine wpList_nil ?_
        clear a_64 HE65 HH63 a_163 HE164 a_168 HE169 hK166 K_165
        refine nrm ?_
        refine wp_ret ?_
        refine ret1 HE171 rfl (rv_tmp rfl) ?_
        have hF : (multText a0) = (Go.Lib.join ([headT a0] ++ (a0.2.2.2.take k).map mrT) ([10])) := by
          unfold multText; first | (simp [hc23, p28_0, hc29]; done) | (rw [if_pos ‹_›]; unfold multT; rw [join_head, List.take_of_length_le (by omega)])
        exact ⟨by first | (rw [hF] <;> rfl) | rfl | (rw [hF]; simp only [Ending.returned.injEq, Value.slice.injEq, true_and, and_true]; first | omega | (simp; done)) | (rw [hF]; simp; omega), HH167.below⟩

set_option maxRecDepth 100000 in
set_option maxHeartbeats 4000000 in
theorem spec_l06Digits (A0 : Option Addr) (c0 : Nat) (a0 : (List Int)) (w : World) (h0 : Sl eInt w (Old w) A0 c0 a0) (s0 : ∀ x ∈ a0, 0 ≤ x ∧ x ≤ 9) (s1 : a0.length ≤ 1000000) :
    Calls Tryz.prog 149 #[.slice A0 a0.length c0] w fun e w' => e = .returned (.string (bs (digT a0))) ∧ Below w.heap.size w w' := by
  have l0 := h0.len
  have HH1 := Held.start Nob w
  refine enter (n := 19) Tryz.func149 rfl rfl rfl fun a_2 HE3 => ?_
  refine wp_seq ?_
  refine rg ?_
  refine pl_x HE3 HH1 (wt0 rfl) (x_assign rfl) rfl rfl fun a_4 HE5 => ?_
  refine wpList_nil ?_
  clear a_2 HE3
  refine nrm ?_
  refine wp_seq ?_
  refine rg ?_
  refine pl_x HE5 HH1 (wt0 rfl) (x_assign rfl) rfl rfl fun a_6 HE7 => ?_
  refine wpList_nil ?_
  clear a_4 HE5
  refine nrm ?_
  refine wp_seq ?_
  refine wp_seq ?_
  refine rg ?_
  refine pl_x HE7 HH1 (wt0 rfl) (x_assign rfl) rfl rfl fun a_8 HE9 => ?_
  refine wpList_nil ?_
  clear a_6 HE7
  refine nrm ?_
  refine wp_block ?_
  refine lp (fun m a w' => ∃ (k : Nat), m = a0.length - k ∧ Env 19 [(3, .string (bs (digT (a0.take k)))), (4, .int .i64 (k : Int)), (0, .slice A0 (a0.length) c0)] a ∧ Held Nob w [] w' ∧ (k ≤ a0.length)) (a0.length - (0)) ?_ ?_
  · exact ⟨0, rfl, HE9.sub ⟨(lkS rfl (by first | rfl | (simp []; done))), (lkI rfl (by first | rfl | omega | (simp []; done))), rfl, trivial⟩, (HH1.sel [] (by decide) rfl), (by first | omega | assumption | (simp; done) | simp_all)⟩
  · rintro m a_10 w' ⟨k, rfl, HE11, HH12, p21_0⟩
    have ol : (digT (a0.take k)).length ≤ 1000000 := by rw [digT_len, List.length_take]; omega
    refine wp_seq ?_
    refine wp_seq ?_
    refine rg ?_
    refine pl_x HE11 HH12 (wt0 rfl) (x_move rfl) rfl rfl fun a_13 HE14 => ?_
    refine pl_x HE14 HH12 (wt0 rfl) (x_move rfl) rfl rfl fun a_15 HE16 => ?_
    refine pl_x HE16 HH12 (wt0 rfl) (x_len Tryz.underlying25 rfl) rfl rfl fun a_17 HE18 => ?_
    refine pl_x HE18 HH12 (wt0 rfl) (x_lss rfl rfl) rfl rfl fun a_19 HE20 => ?_
    refine wpList_nil ?_
    clear a_8 HE9 HH1 a_10 HE11 a_13 HE14 a_15 HE16 a_17 HE18
    refine nrm ?_
    refine cnd_d HE20 rfl (fun hc22 => ?_) (fun hc22 => ?_)
    · refine wp_skip ?_
      refine nrm ?_
      refine wp_seq ?_
      refine wp_block ?_
      refine rg ?_
      refine pl_x HE20 HH12 (wt0 rfl) (x_move rfl) rfl rfl fun a_21 HE22 => ?_
      refine pl_x HE22 HH12 (wt0 rfl) (x_move rfl) rfl rfl fun a_23 HE24 => ?_
      refine pl_x HE24 HH12 (wt0 rfl) (x_move rfl) rfl rfl fun a_25 HE26 => ?_
      have ke23 : k < a0.length := by omega
      obtain ⟨be23, fe23, ese23, Ae23, Re23, De23⟩ := el_old h0 ke23
      obtain ⟨e23, xe23⟩ : ∃ x_, x_ = a0[k] := ⟨_, rfl⟩
      rw [← xe23] at Re23
      have Qe23 := Re23
      obtain ⟨rfl, ie23⟩ := Re23
      have je23 := ie23; unfold I64 at je23
      have be23 := s0 e23 (by rw [xe23]; exact List.getElem_mem _)
      refine pl_x HE26 HH12 (wt0 rfl) (x_indexAddr ts_25 rfl rfl Ae23 rfl ke23) rfl rfl fun a_27 HE28 => ?_
      refine pl_x HE28 HH12 (wt0 rfl) (x_load1 tv_2 rfl (c_old (De23 0 _ rfl))) rfl rfl fun a_29 HE30 => ?_
      refine pl fun K_31 hK32 => ?_
      refine st_call HE30 (wt0 rfl) rfl rfl rfl en_148 rfl rfl (spec_l01Dec e23 _ (by omega)) fun e w' hr => ?_
      have hAr24_0 := itoa_len (n := e23) (by omega)
      obtain ⟨rfl, hbr24⟩ := hr
      have HH33 := HH12.on hbr24
      refine ⟨_, rfl, fun a_34 HE35 => hK32 _ _ ?_⟩
      refine pl_x HE35 HH33 (wt0 rfl) (x_sadd rfl rfl (by first | omega | (simp only [List.length_append, List.length_cons, List.length_nil]; omega) | (simp; omega))) rfl rfl fun a_36 HE37 => ?_
      refine pl_x HE37 HH33 (wt0 rfl) (x_assign rfl) rfl rfl fun a_38 HE39 => ?_
      refine wpList_nil ?_
      clear a_19 HE20 a_21 HE22 a_23 HE24 a_25 HE26 a_27 HE28 HH12 a_29 HE30 a_34 HE35 a_36 HE37 hK32 K_31
      refine blk_n ?_
      refine nrm ?_
      refine rg ?_
      refine pl_x HE39 HH33 (wt0 rfl) (x_move rfl) rfl rfl fun a_40 HE41 => ?_
      refine pl_x HE41 HH33 (wt0 rfl) (x_add rfl rfl (by exact ⟨by omega, by omega⟩)) rfl rfl fun a_42 HE43 => ?_
      refine pl_x HE43 HH33 (wt0 rfl) (x_assign rfl) rfl rfl fun a_44 HE45 => ?_
      refine wpList_nil ?_
      clear a_38 HE39 a_40 HE41 a_42 HE43
      exact nrm ⟨a0.length - (k + 1), (by omega), k + 1, rfl, HE45.sub ⟨(lkS rfl (by rw [itoa_one (by omega)]; unfold digT; rw [List.take_succ_eq_append_getElem (by omega), List.map_append, ← xe23]; rfl)), (lkI rfl (by first | rfl | omega | (simp [p21_0, hc22, xe23]; done))), rfl, trivial⟩, (HH33.sel [] (by decide) rfl), (by first | omega | assumption | (simp; done) | simp_all)⟩
    · refine wp_exit ?_
      refine (thn_exit (thn_exit (blk_hit ?_)))
      refine nrm ?_
      refine wp_seq ?_
      refine rg ?_
      refine pl_x HE20 HH12 (wt0 rfl) (x_move rfl) rfl rfl fun a_46 HE47 => ?_
      refine pl_x HE47 HH12 (wt0 rfl) (x_assign rfl) rfl rfl fun a_48 HE49 => ?_
      refine wpList_nil ?_
      clear a_19 HE20 a_46 HE47
      refine nrm ?_
      refine wp_ret ?_
      refine ret1 HE49 rfl (rv_tmp rfl) ?_
      have hF : (digT a0) = (digT (a0.take k)) := by
        rw [List.take_of_length_le (by omega)]
      exact ⟨by first | (rw [hF] <;> rfl) | rfl | (rw [hF]; simp only [Ending.returned.injEq, Value.slice.injEq, true_and, and_true]; first | omega | (simp; done)) | (rw [hF]; simp; omega), HH12.below⟩

set_option maxRecDepth 100000 in
set_option maxHeartbeats 4000000 in
theorem spec_l06Moves (A0 : Option Addr) (c0 : Nat) (a0 : (List Int)) (w : World) (h0 : Sl eInt w (Old w) A0 c0 a0) (s0 : ∀ x ∈ a0, -1 ≤ x ∧ x ≤ 1) (s1 : a0.length ≤ 1000) :
    Calls Tryz.prog 150 #[.slice A0 a0.length c0] w fun e w' => e = .returned (.string (bs (movT a0))) ∧ Below w.heap.size w w' := by
  have l0 := h0.len
  have HH1 := Held.start Nob w
  refine enter (n := 24) Tryz.func150 rfl rfl rfl fun a_2 HE3 => ?_
  refine wp_seq ?_
  refine rg ?_
  refine pl_x HE3 HH1 (wt0 rfl) (x_assign rfl) rfl rfl fun a_4 HE5 => ?_
  refine wpList_nil ?_
  clear a_2 HE3
  refine nrm ?_
  refine wp_seq ?_
  refine rg ?_
  refine pl_x HE5 HH1 (wt0 rfl) (x_assign rfl) rfl rfl fun a_6 HE7 => ?_
  refine wpList_nil ?_
  clear a_4 HE5
  refine nrm ?_
  refine wp_seq ?_
  refine wp_seq ?_
  refine rg ?_
  refine pl_x HE7 HH1 (wt0 rfl) (x_assign rfl) rfl rfl fun a_8 HE9 => ?_
  refine wpList_nil ?_
  clear a_6 HE7
  refine nrm ?_
  refine wp_block ?_
  refine lp (fun m a w' => ∃ (k : Nat), m = a0.length - k ∧ Env 24 [(3, .string (bs (movT (a0.take k)))), (4, .int .i64 (k : Int)), (0, .slice A0 (a0.length) c0)] a ∧ Held Nob w [] w' ∧ (k ≤ a0.length)) (a0.length - (0)) ?_ ?_
  · exact ⟨0, rfl, HE9.sub ⟨(lkS rfl (by first | rfl | (simp []; done))), (lkI rfl (by first | rfl | omega | (simp []; done))), rfl, trivial⟩, (HH1.sel [] (by decide) rfl), (by first | omega | assumption | (simp; done) | simp_all)⟩
  · rintro m a_10 w' ⟨k, rfl, HE11, HH12, p21_0⟩
    have ol : (movT (a0.take k)).length ≤ 1000 := by rw [movT_len, List.length_take]; omega
    have hm0 : ∀ x : Int, -1 ≤ x ∧ x ≤ 1 → ((([76, 83, 82] : List UInt8).drop (x + 1).toNat).take (((x + 1) + 1).toNat - (x + 1).toNat)).length = 1 := fun x hx => by rw [mov_slice hx]; rfl
    refine wp_seq ?_
    refine wp_seq ?_
    refine rg ?_
    refine pl_x HE11 HH12 (wt0 rfl) (x_move rfl) rfl rfl fun a_13 HE14 => ?_
    refine pl_x HE14 HH12 (wt0 rfl) (x_move rfl) rfl rfl fun a_15 HE16 => ?_
    refine pl_x HE16 HH12 (wt0 rfl) (x_len Tryz.underlying25 rfl) rfl rfl fun a_17 HE18 => ?_
    refine pl_x HE18 HH12 (wt0 rfl) (x_lss rfl rfl) rfl rfl fun a_19 HE20 => ?_
    refine wpList_nil ?_
    clear a_8 HE9 HH1 a_10 HE11 a_13 HE14 a_15 HE16 a_17 HE18
    refine nrm ?_
    refine cnd_d HE20 rfl (fun hc22 => ?_) (fun hc22 => ?_)
    · refine wp_skip ?_
      refine nrm ?_
      refine wp_seq ?_
      refine wp_block ?_
      refine wp_seq ?_
      refine rg ?_
      refine pl_x HE20 HH12 (wt0 rfl) (x_move rfl) rfl rfl fun a_21 HE22 => ?_
      refine pl_x HE22 HH12 (wt0 rfl) (x_move rfl) rfl rfl fun a_23 HE24 => ?_
      have ke23 : k < a0.length := by omega
      obtain ⟨be23, fe23, ese23, Ae23, Re23, De23⟩ := el_old h0 ke23
      obtain ⟨e23, xe23⟩ : ∃ x_, x_ = a0[k] := ⟨_, rfl⟩
      rw [← xe23] at Re23
      have Qe23 := Re23
      obtain ⟨rfl, ie23⟩ := Re23
      have je23 := ie23; unfold I64 at je23
      have be23 := s0 e23 (by rw [xe23]; exact List.getElem_mem _)
      have ha0 : a0[k]'(by omega) = e23 := xe23.symm
      refine pl_x HE24 HH12 (wt0 rfl) (x_indexAddr ts_25 rfl rfl Ae23 rfl ke23) rfl rfl fun a_25 HE26 => ?_
      refine pl_x HE26 HH12 (wt0 rfl) (x_load1 tv_2 rfl (c_old (De23 0 _ rfl))) rfl rfl fun a_27 HE28 => ?_
      refine pl_x HE28 HH12 (wt0 rfl) (x_add rfl rfl (by exact ⟨by omega, by omega⟩)) rfl rfl fun a_29 HE30 => ?_
      refine pl_x HE30 HH12 (wt0 rfl) (x_assign rfl) rfl rfl fun a_31 HE32 => ?_
      refine wpList_nil ?_
      clear a_19 HE20 a_21 HE22 a_23 HE24 a_25 HE26 a_27 HE28 a_29 HE30
      refine nrm ?_
      refine rg ?_
      refine pl_x HE32 HH12 (wt0 rfl) (x_move rfl) rfl rfl fun a_33 HE34 => ?_
      refine pl_x HE34 HH12 (wt0 rfl) (x_move rfl) rfl rfl fun a_35 HE36 => ?_
      refine pl_x HE36 HH12 (wt0 rfl) (x_move rfl) rfl rfl fun a_37 HE38 => ?_
      refine pl_x HE38 HH12 (wt0 rfl) (x_add rfl rfl (by exact ⟨by omega, by omega⟩)) rfl rfl fun a_39 HE40 => ?_
      refine pl_x HE40 HH12 (wt0 rfl) (x_sliceSH (k := (((e23 + 1)).toNat)) (k2 := ((((e23 + 1) + 1)).toNat)) Tryz.underlying9 rfl rfl rfl (by omega) (by omega) (by omega) (by first | omega | (simp only [List.length_cons, List.length_nil]; omega) | (rw [hm0 _ (by omega)]; omega))) rfl rfl fun a_41 HE42 => ?_
      refine pl_x HE42 HH12 (wt0 rfl) (x_sadd rfl rfl (by first | omega | (simp only [List.length_cons, List.length_nil]; omega) | (rw [hm0 _ (by omega)]; omega))) rfl rfl fun a_43 HE44 => ?_
      refine pl_x HE44 HH12 (wt0 rfl) (x_assign rfl) rfl rfl fun a_45 HE46 => ?_
      refine wpList_nil ?_
      clear a_31 HE32 a_33 HE34 a_35 HE36 a_37 HE38 a_39 HE40 a_41 HE42 a_43 HE44
      refine blk_n ?_
      refine nrm ?_
      refine rg ?_
      refine pl_x HE46 HH12 (wt0 rfl) (x_move rfl) rfl rfl fun a_47 HE48 => ?_
      refine pl_x HE48 HH12 (wt0 rfl) (x_add rfl rfl (by exact ⟨by omega, by omega⟩)) rfl rfl fun a_49 HE50 => ?_
      refine pl_x HE50 HH12 (wt0 rfl) (x_assign rfl) rfl rfl fun a_51 HE52 => ?_
      refine wpList_nil ?_
      clear a_45 HE46 a_47 HE48 a_49 HE50
      exact nrm ⟨a0.length - (k + 1), (by omega), k + 1, rfl, HE52.sub ⟨(lkS rfl (by unfold movT; rw [List.take_succ_eq_append_getElem (by omega), List.map_append, ha0, mov_slice (by omega)]; rfl)), (lkI rfl (by first | rfl | omega | (simp [p21_0, hc22, xe23]; done))), rfl, trivial⟩, (HH12.sel [] (by decide) rfl), (by first | omega | assumption | (simp; done) | simp_all)⟩
    · refine wp_exit ?_
      refine (thn_exit (thn_exit (blk_hit ?_)))
      refine nrm ?_
      refine wp_seq ?_
      refine rg ?_
      refine pl_x HE20 HH12 (wt0 rfl) (x_move rfl) rfl rfl fun a_53 HE54 => ?_
      refine pl_x HE54 HH12 (wt0 rfl) (x_assign rfl) rfl rfl fun a_55 HE56 => ?_
      refine wpList_nil ?_
      clear a_19 HE20 a_53 HE54
      refine nrm ?_
      refine wp_ret ?_
      refine ret1 HE56 rfl (rv_tmp rfl) ?_
      have hF : (movT a0) = (movT (a0.take k)) := by
        rw [List.take_of_length_le (by omega)]
      exact ⟨by first | (rw [hF] <;> rfl) | rfl | (rw [hF]; simp only [Ending.returned.injEq, Value.slice.injEq, true_and, and_true]; first | omega | (simp; done)) | (rw [hF]; simp; omega), HH12.below⟩

end Go.Proofs.YtcfdkckchbdafaaGreatDoor
