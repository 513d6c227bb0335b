/- What the proof of FnExactReadTag needs: contracts of the functions that it reaches, each once. -/
import Derived.Test.YtcfdkckchbdafaaGreatDoorProg
import Derived.Test.YtcfdkckchbdafaaGreatDoorQMem
import Derived.Test.YtcfdkckchbdafaaGreatDoorQOpen
import Derived.Test.YtcfdkckchbdafaaGreatDoorLReadTaga
import Derived.Test.YtcfdkckchbdafaaGreatDoorLReadTagb
import Derived.WalkKit
import Derived.WalkSpells
import Derived.Below
import Derived.LoopTactic
import Derived.Outline
import Derived.Deep.QuietTactic
import Derived.BigQuiet
import Derived.Deep.LoopGhost
import Derived.Handy
import Derived.Lib.Hide
import Derived.Shelf.Abstract
import Derived.StillTailTactics
import Derived.OwnWalk
import Derived.Maps.AppendAt
import Derived.RegionTactic
import Derived.Deep.RegionHeld3
import Derived.IntWalk
import Derived.Deep.Upon
import Derived.Laws.OwnMore
import Derived.Maps.AppendAt
import Derived.Laws.BytesString
import Derived.Laws.Strings
import Derived.Lib.Bytes
import Derived.Lib.Strings
import Derived.Lib.FrozenHead
import Derived.Lib.RuneBytes
import Derived.Lib.LaidTab
import Derived.Laws.StructEq
import Derived.Lib.ItoaLen
import Derived.Lib.Join
import Derived.Shelf.Strconv.Itoa4
import Derived.Shelf.Strings.OnBuilder
import Derived.Shelf.Strings.BuilderK
import Derived.Shelf.Strings.BuilderRune
import Derived.Shelf.LaysM
import Derived.Ground.NamesProg
import Derived.Lib.ParseIntBTie
import Derived.Lib.SplitLaws
import Derived.Lib.Replace
import Derived.Shelf.LaysC
import Derived.Shelf.Strconv.ErrVarParseInt
import Derived.Shelf.Strconv.ParseIntPublic10
import Derived.Shelf.Strings.Prefix
import Derived.Shelf.Strings.Cut
import Derived.Shelf.Strings.Split
import Derived.Shelf.Strings.Replace
import Derived.Shelf.Small.Wraps
import Derived.Stop.IfaceNil
namespace Go.Proofs.YtcfdkckchbdafaaGreatDoor
open Go.RowKit

open Go.Lib in
theorem replaceK_one (a b : UInt8) : ∀ s : List UInt8, replaceK [a] [b] (count s [a]) s = subB a b s
  | [] => by rw [count_miss (by simp [index])]; rfl
  | x :: l => by
    have ih := replaceK_one a b l
    by_cases h : x = a
    · subst h
      rw [count_cons_eq, Nat.add_comm, replaceK, if_neg (by rw [index_one_eq]; decide), index_one_eq]
      simp only [Int.toNat_zero, List.take_zero, List.length_cons, List.length_nil, List.drop_succ_cons, List.drop_zero, Nat.zero_add, List.nil_append]
      rw [ih]
      simp [subB]
    · rw [count_cons_ne x a l h]
      have e0 : subB a b (x :: l) = x :: subB a b l := by simp [subB, h]
      rw [e0, ← ih]
      cases hk : count l [a] with
      | zero => rfl
      | succ k =>
        obtain ⟨j, hj⟩ := index_of_count (s := l) (old := [a]) (by omega)
        have hm : ¬ (index l [a] == -1) = true := by rw [hj]; intro e; have := beq_iff_eq.1 e; omega
        have hj2 : index (x :: l) [a] = ((j + 1 : Nat) : Int) := by rw [index_one_ne l h, if_neg hm, hj]; omega
        rw [replaceK_hit [a] [b] k l j hj, replaceK_hit [a] [b] k (x :: l) (j + 1) hj2]
        simp

open Go.Lib in
theorem replaceAll_one {a b : UInt8} (h : ¬ a = b) (s : List UInt8) : replaceAll s [a] [b] = subB a b s := by
  unfold replaceAll replace replaceNum
  rw [if_neg (by simpa using h), if_pos (.inl (by decide)), replaceK_one]

open Go.Lib in
theorem splitR_no {c : UInt8} : ∀ {l : List UInt8}, c ∉ l → splitR c l = [l]
  | [], _ => splitR_nil c
  | b :: l, h => by
    have h1 := splitR_no (c := c) (l := l) fun hm => h (List.mem_cons_of_mem _ hm)
    exact splitR_ne (fun e => h (by rw [e]; exact List.mem_cons_self)) h1

open Go.Lib in
theorem splitR_app {c : UInt8} {r : List UInt8} : ∀ {p : List UInt8}, c ∉ p → splitR c (p ++ c :: r) = p :: splitR c r
  | [], _ => splitR_eq c r
  | b :: l, h => splitR_ne (fun e => h (by rw [e]; exact List.mem_cons_self)) (splitR_app (p := l) fun hm => h (List.mem_cons_of_mem _ hm))

open Go.Lib in
/-- Pieces without c, joined by c, are divided into themselves. -/
theorem splitR_join {c : UInt8} {x : List UInt8} : ∀ {r : List (List UInt8)}, (∀ p ∈ x :: r, c ∉ p) → splitR c (join (x :: r) [c]) = x :: r
  | [], h => by rw [join_one]; exact splitR_no (h x (by simp))
  | y :: r, h => by
    have ih := splitR_join (x := y) (r := r) fun p hp => h p (List.mem_cons_of_mem _ hp)
    have e : join (x :: y :: r) [c] = x ++ c :: join (y :: r) [c] := by rw [join_cons, join_cons]; simp [joinTail]
    rw [e, splitR_app (h x (by simp)), ih]

open Go.Lib in
/-- .. and the other way. -/
theorem join_splitR (c : UInt8) : ∀ l : List UInt8, join (splitR c l) [c] = l ∧ ∀ p ∈ splitR c l, c ∉ p
  | [] => by rw [splitR_nil]; exact ⟨join_one _ _, by simp⟩
  | b :: l => by
    obtain ⟨h1, h2⟩ := join_splitR c l
    obtain ⟨p, r, e⟩ := splitR_some c l
    by_cases h : b = c
    · subst h
      rw [splitR_eq]
      refine ⟨?_, fun q hq => ?_⟩
      · rw [e] at h1 ⊢
        rw [join_cons] at h1 ⊢
        simp only [joinTail, List.map_cons, List.flatten_cons, List.nil_append, List.cons_append] at h1 ⊢
        rw [h1]
      · rcases List.mem_cons.1 hq with rfl | hq
        · simp
        · exact h2 q hq
    · rw [splitR_ne h e]
      rw [e] at h1 h2
      refine ⟨?_, fun q hq => ?_⟩
      · rw [join_cons] at h1 ⊢
        rw [List.cons_append, h1]
      · rcases List.mem_cons.1 hq with rfl | hq
        · intro hm
          rcases List.mem_cons.1 hm with hm | hm
          · exact h hm.symm
          · exact h2 p (by simp) hm
        · exact h2 q (List.mem_cons_of_mem _ hq)

open Go.Lib in
theorem splitR_len (c : UInt8) : ∀ l : List UInt8, (splitR c l).length ≤ l.length + 1 ∧ 1 ≤ (splitR c l).length
  | [] => by rw [splitR_nil]; simp
  | b :: l => by
    obtain ⟨h1, h2⟩ := splitR_len c l
    obtain ⟨p, r, e⟩ := splitR_some c l
    by_cases h : b = c
    · subst h; rw [splitR_eq]; simp only [List.length_cons]; omega
    · rw [splitR_ne h e]; rw [e] at h1 h2; simp only [List.length_cons] at h1 h2 ⊢; omega

open Go.Lib in
theorem splitR_piece (c : UInt8) : ∀ (l : List UInt8), ∀ p ∈ splitR c l, p.length ≤ l.length
  | [], p, hp => by rw [splitR_nil] at hp; rw [List.mem_singleton.1 hp]; simp
  | b :: l, p, hp => by
    obtain ⟨q, r, e⟩ := splitR_some c l
    by_cases h : b = c
    · subst h
      rw [splitR_eq] at hp
      rcases List.mem_cons.1 hp with rfl | hp
      · simp
      · have := splitR_piece b l p hp; simp only [List.length_cons]; omega
    · rw [splitR_ne h e] at hp
      rcases List.mem_cons.1 hp with rfl | hp
      · have := splitR_piece c l q (by rw [e]; simp); simp only [List.length_cons]; omega
      · have := splitR_piece c l p (by rw [e]; exact List.mem_cons_of_mem _ hp); simp only [List.length_cons]; omega

open Go.Lib in
def IfVar (w : World) (n : String) : Prop := ∃ tp p, w.var? Tryz.prog n = some #[.iface tp p]

open Go.Lib in
def MaxAt (w : World) : Prop := ∃ m, w.cell? ⟨0, 0, none⟩ = some (.int .i64 m)

open Go.Lib in
/-- What the library's readers look up. -/
def Glob2 (w : World) : Prop := Glob w ∧ (IfVar w "strconv.ErrSyntax" ∧ IfVar w "strconv.ErrRange") ∧ MaxAt w

open Go.Lib in
theorem synNum : Tryz.prog.globalNamed "strconv.ErrSyntax" = some 1 := by kernel_rfl

open Go.Lib in
theorem rngNum : Tryz.prog.globalNamed "strconv.ErrRange" = some 2 := by kernel_rfl

open Go.Lib in
theorem ifvar_below {w w' : World} {n : String} {g : Nat} (hg : Tryz.prog.globalNamed n = some g) (h : IfVar w n) (hb : Below w.heap.size w w') : IfVar w' n := by
  obtain ⟨tp, p, h⟩ := h
  refine ⟨tp, p, ?_⟩
  unfold World.var? at h ⊢
  rw [hg] at h ⊢
  simp only [Option.bind_some] at h ⊢
  have hlt : g < w.heap.size := by
    rcases Nat.lt_or_ge g w.heap.size with hlt | hge
    · exact hlt
    · rw [Array.getElem?_eq_none hge] at h; cases h
  rw [hb.block g hlt]
  exact h

open Go.Lib in
theorem max_below {w w' : World} (h : MaxAt w) (hb : Below w.heap.size w w') : MaxAt w' := by
  obtain ⟨m, h⟩ := h
  refine ⟨m, ?_⟩
  unfold World.cell? at h ⊢
  have hlt : 0 < w.heap.size := by
    rcases Nat.lt_or_ge 0 w.heap.size with hlt | hge
    · exact hlt
    · rw [Array.getElem?_eq_none hge] at h; cases h
  rw [hb.block _ hlt]
  exact h

open Go.Lib in
theorem Held.glob2 {w0 w : World} {rs : List Res} (h : Held Nob w0 rs w) (hG : Glob2 w0) : Glob2 w := ⟨h.glob hG.1, ⟨ifvar_below synNum hG.2.1.1 h.below, ifvar_below rngNum hG.2.1.2 h.below⟩, max_below hG.2.2 h.below⟩

open Go.Lib in
def shelf_C174_ren : Go.Shelf.Ren := ⟨fun | 174 => 119 | 247 => 162 | 245 => 163 | 287 => 198 | 279 => 199 | 280 => 200 | 281 => 201 | 282 => 202 | 321 => 218 | 322 => 219 | 316 => 220 | 171 => 222 | 205 => 221 | 243 => 234 | 246 => 203 | 283 => 223 | 284 => 224 | 285 => 225 | 286 => 226 | 129 => 236 | 317 => 235 | 318 => 237 | 319 => 238 | 320 => 239 | 337 => 240 | 338 => 241 | n => n, fun | 9 => 9 | 3 => 3 | 2 => 2 | 75 => 144 | 85 => 145 | 4 => 4 | 167 => 215 | 5 => 5 | 53 => 216 | 175 => 217 | 46 => 210 | 168 => 219 | 37 => 22 | 0 => 0 | 210 => 240 | 21 => 21 | 127 => 231 | 145 => 254 | 143 => 252 | 171 => 243 | 173 => 246 | 212 => 256 | 51 => 234 | 20 => 20 | 213 => 257 | 232 => 264 | 233 => 265 | 80 => 205 | n => n, fun | 15 => 1 | 16 => 2 | 17 => 3 | 18 => 6 | 19 => 7 | n => n⟩

open Go.Lib in
theorem shelf_C174 : Go.Proofs.LaysC.n174 Tryz.prog shelf_C174_ren := {
  mixed := by kernel_rfl
  f129 := Tryz.func236.trans (congrArg some (by kernel_rfl))
  f171 := Tryz.func222.trans (congrArg some (by kernel_rfl))
  f174 := Tryz.func119.trans (congrArg some (by kernel_rfl))
  f205 := Tryz.func221.trans (congrArg some (by kernel_rfl))
  f243 := Tryz.func234.trans (congrArg some (by kernel_rfl))
  f245 := Tryz.func163.trans (congrArg some (by kernel_rfl))
  f246 := Tryz.func203.trans (congrArg some (by kernel_rfl))
  f247 := Tryz.func162.trans (congrArg some (by kernel_rfl))
  f279 := Tryz.func199.trans (congrArg some (by kernel_rfl))
  f280 := Tryz.func200.trans (congrArg some (by kernel_rfl))
  f281 := Tryz.func201.trans (congrArg some (by kernel_rfl))
  f282 := Tryz.func202.trans (congrArg some (by kernel_rfl))
  f283 := Tryz.func223.trans (congrArg some (by kernel_rfl))
  f284 := Tryz.func224.trans (congrArg some (by kernel_rfl))
  f285 := Tryz.func225.trans (congrArg some (by kernel_rfl))
  f286 := Tryz.func226.trans (congrArg some (by kernel_rfl))
  f287 := Tryz.func198.trans (congrArg some (by kernel_rfl))
  f316 := Tryz.func220.trans (congrArg some (by kernel_rfl))
  f317 := Tryz.func235.trans (congrArg some (by kernel_rfl))
  f318 := Tryz.func237.trans (congrArg some (by kernel_rfl))
  f319 := Tryz.func238.trans (congrArg some (by kernel_rfl))
  f320 := Tryz.func239.trans (congrArg some (by kernel_rfl))
  f321 := Tryz.func218.trans (congrArg some (by kernel_rfl))
  f322 := Tryz.func219.trans (congrArg some (by kernel_rfl))
  f337 := Tryz.func240.trans (congrArg some (by kernel_rfl))
  f338 := Tryz.func241.trans (congrArg some (by kernel_rfl))
  t0 := Tryz.underlying0
  a0 := Tryz.isAgg0
  z0 := Tryz.sizeOf0
  v0 := Tryz.zeroValue0
  t2 := Tryz.underlying2
  a2 := Tryz.isAgg2
  z2 := Tryz.sizeOf2
  v2 := Tryz.zeroValue2
  t3 := Tryz.underlying3
  a3 := Tryz.isAgg3
  z3 := Tryz.sizeOf3
  v3 := Tryz.zeroValue3
  t4 := Tryz.underlying4
  a4 := Tryz.isAgg4
  z4 := Tryz.sizeOf4
  v4 := Tryz.zeroValue4
  t5 := Tryz.underlying5
  a5 := Tryz.isAgg5
  z5 := Tryz.sizeOf5
  v5 := Tryz.zeroValue5
  t9 := Tryz.underlying9
  a9 := Tryz.isAgg9
  z9 := Tryz.sizeOf9
  v9 := Tryz.zeroValue9
  t20 := Tryz.underlying20
  a20 := Tryz.isAgg20
  z20 := Tryz.sizeOf20
  v20 := Tryz.zeroValue20
  t21 := Tryz.underlying21
  a21 := Tryz.isAgg21
  z21 := Tryz.sizeOf21
  v21 := Tryz.zeroValue21
  t37 := Tryz.underlying22
  a37 := Tryz.isAgg22
  z37 := Tryz.sizeOf22
  v37 := Tryz.zeroValue22
  t46 := Tryz.underlying210
  a46 := Tryz.isAgg210
  z46 := Tryz.sizeOf210
  v46 := Tryz.zeroValue210
  t51 := Tryz.underlying234
  a51 := Tryz.isAgg234
  z51 := Tryz.sizeOf234
  v51 := Tryz.zeroValue234
  t53 := Tryz.underlying216
  a53 := Tryz.isAgg216
  z53 := Tryz.sizeOf216
  v53 := Tryz.zeroValue216
  t75 := Tryz.underlying144
  a75 := Tryz.isAgg144
  z75 := Tryz.sizeOf144
  v75 := Tryz.zeroValue144
  t85 := Tryz.underlying145
  a85 := Tryz.isAgg145
  z85 := Tryz.sizeOf145
  v85 := Tryz.zeroValue145
  t127 := Tryz.underlying231
  a127 := Tryz.isAgg231
  z127 := Tryz.sizeOf231
  v127 := Tryz.zeroValue231
  t143 := Tryz.underlying252
  a143 := Tryz.isAgg252
  z143 := Tryz.sizeOf252
  v143 := Tryz.zeroValue252
  t145 := Tryz.underlying254
  a145 := Tryz.isAgg254
  z145 := Tryz.sizeOf254
  v145 := Tryz.zeroValue254
  t167 := Tryz.underlying215
  a167 := Tryz.isAgg215
  z167 := Tryz.sizeOf215
  v167 := Tryz.zeroValue215
  t168 := Tryz.underlying219
  a168 := Tryz.isAgg219
  z168 := Tryz.sizeOf219
  v168 := Tryz.zeroValue219
  t171 := Tryz.underlying243
  a171 := Tryz.isAgg243
  z171 := Tryz.sizeOf243
  v171 := Tryz.zeroValue243
  t173 := Tryz.underlying246
  a173 := Tryz.isAgg246
  z173 := Tryz.sizeOf246
  v173 := Tryz.zeroValue246
  t175 := Tryz.underlying217
  a175 := Tryz.isAgg217
  z175 := Tryz.sizeOf217
  v175 := Tryz.zeroValue217
  t210 := Tryz.underlying240
  a210 := Tryz.isAgg240
  z210 := Tryz.sizeOf240
  v210 := Tryz.zeroValue240
  t212 := Tryz.underlying256
  a212 := Tryz.isAgg256
  z212 := Tryz.sizeOf256
  v212 := Tryz.zeroValue256
  t213 := Tryz.underlying257
  a213 := Tryz.isAgg257
  z213 := Tryz.sizeOf257
  t232 := Tryz.underlying264
  a232 := Tryz.isAgg264
  z232 := Tryz.sizeOf264
  v232 := Tryz.zeroValue264
  t233 := Tryz.underlying265
  a233 := Tryz.isAgg265
  z233 := Tryz.sizeOf265
  v233 := Tryz.zeroValue265
  g15 := by kernel_rfl
  g16 := by kernel_rfl
  g17 := by kernel_rfl
  g18 := by kernel_rfl
  g19 := by kernel_rfl
  t80 := Tryz.underlying205
  a80 := Tryz.isAgg205
  z80 := Tryz.sizeOf205
  v80 := Tryz.zeroValue205
  i0 := by kernel_rfl
  i2 := by kernel_rfl
  i3 := by kernel_rfl
  i4 := by kernel_rfl
  i5 := by kernel_rfl
  i9 := by kernel_rfl
  i20 := by kernel_rfl
  i21 := by kernel_rfl
  i37 := by kernel_rfl
  i46 := by kernel_rfl
  i51 := by kernel_rfl
  i53 := by kernel_rfl
  i75 := by kernel_rfl
  i80 := by kernel_rfl
  i85 := by kernel_rfl
  i127 := by kernel_rfl
  i143 := by kernel_rfl
  i145 := by kernel_rfl
  i167 := by kernel_rfl
  i168 := by kernel_rfl
  i171 := by kernel_rfl
  i173 := by kernel_rfl
  i175 := by kernel_rfl
  i210 := by kernel_rfl
  i212 := by kernel_rfl
  i232 := by kernel_rfl
  i233 := by kernel_rfl
  m15 := by kernel_rfl
  m16 := by kernel_rfl
  m17 := by kernel_rfl
  m18 := by kernel_rfl
  m19 := by kernel_rfl
  c0 := by kernel_rfl
  c2 := by kernel_rfl
  c3 := by kernel_rfl
  c4 := by kernel_rfl
  c5 := by kernel_rfl
  c9 := by kernel_rfl
  c20 := by kernel_rfl
  c21 := by kernel_rfl
  c37 := by kernel_rfl
  c46 := by kernel_rfl
  c51 := by kernel_rfl
  c53 := by kernel_rfl
  c75 := by kernel_rfl
  c80 := by kernel_rfl
  c85 := by kernel_rfl
  c127 := by kernel_rfl
  c143 := by kernel_rfl
  c145 := by kernel_rfl
  c167 := by kernel_rfl
  c168 := by kernel_rfl
  c171 := by kernel_rfl
  c173 := by kernel_rfl
  c175 := by kernel_rfl
  c210 := by kernel_rfl
  c212 := by kernel_rfl
  c213 := by kernel_rfl
  c232 := by kernel_rfl
  c233 := by kernel_rfl }

open Go.Lib in
def shelf_146_ren : Go.Shelf.Ren := ⟨fun | 146 => 78 | 221 => 128 | 268 => 170 | 138 => 171 | 143 => 172 | 195 => 209 | 197 => 210 | 218 => 211 | 219 => 161 | 260 => 229 | 217 => 196 | 225 => 191 | 224 => 190 | 267 => 197 | 266 => 216 | 314 => 217 | n => n, fun | 9 => 9 | 31 => 78 | 3 => 3 | 4 => 4 | 0 => 0 | 105 => 228 | 21 => 21 | 5 => 5 | 46 => 210 | 119 => 259 | 139 => 262 | 138 => 261 | 146 => 235 | 51 => 234 | n => n, fun | 1 => 0 | 3 => 4 | 4 => 5 | n => n⟩

open Go.Lib in
theorem shelf_146 : Go.Proofs.Lays.n146 Tryz.prog shelf_146_ren := {
  mixed := by kernel_rfl
  f138 := Tryz.func171.trans (congrArg some (by kernel_rfl))
  f143 := Tryz.func172.trans (congrArg some (by kernel_rfl))
  f146 := Tryz.func78.trans (congrArg some (by kernel_rfl))
  f195 := Tryz.func209.trans (congrArg some (by kernel_rfl))
  f197 := Tryz.func210.trans (congrArg some (by kernel_rfl))
  f217 := Tryz.func196.trans (congrArg some (by kernel_rfl))
  f218 := Tryz.func211.trans (congrArg some (by kernel_rfl))
  f219 := Tryz.func161.trans (congrArg some (by kernel_rfl))
  f221 := Tryz.func128.trans (congrArg some (by kernel_rfl))
  f224 := Tryz.func190.trans (congrArg some (by kernel_rfl))
  f225 := Tryz.func191.trans (congrArg some (by kernel_rfl))
  f260 := Tryz.func229.trans (congrArg some (by kernel_rfl))
  f266 := Tryz.func216.trans (congrArg some (by kernel_rfl))
  f267 := Tryz.func197.trans (congrArg some (by kernel_rfl))
  f268 := Tryz.func170.trans (congrArg some (by kernel_rfl))
  f314 := Tryz.func217.trans (congrArg some (by kernel_rfl))
  t0 := Tryz.underlying0
  a0 := Tryz.isAgg0
  z0 := Tryz.sizeOf0
  v0 := Tryz.zeroValue0
  t3 := Tryz.underlying3
  a3 := Tryz.isAgg3
  z3 := Tryz.sizeOf3
  v3 := Tryz.zeroValue3
  t4 := Tryz.underlying4
  a4 := Tryz.isAgg4
  z4 := Tryz.sizeOf4
  v4 := Tryz.zeroValue4
  t5 := Tryz.underlying5
  a5 := Tryz.isAgg5
  z5 := Tryz.sizeOf5
  v5 := Tryz.zeroValue5
  t9 := Tryz.underlying9
  a9 := Tryz.isAgg9
  z9 := Tryz.sizeOf9
  v9 := Tryz.zeroValue9
  t21 := Tryz.underlying21
  a21 := Tryz.isAgg21
  z21 := Tryz.sizeOf21
  v21 := Tryz.zeroValue21
  t31 := Tryz.underlying78
  a31 := Tryz.isAgg78
  z31 := Tryz.sizeOf78
  v31 := Tryz.zeroValue78
  t46 := Tryz.underlying210
  a46 := Tryz.isAgg210
  z46 := Tryz.sizeOf210
  v46 := Tryz.zeroValue210
  t51 := Tryz.underlying234
  a51 := Tryz.isAgg234
  z51 := Tryz.sizeOf234
  v51 := Tryz.zeroValue234
  t105 := Tryz.underlying228
  a105 := Tryz.isAgg228
  z105 := Tryz.sizeOf228
  v105 := Tryz.zeroValue228
  t119 := Tryz.underlying259
  a119 := Tryz.isAgg259
  z119 := Tryz.sizeOf259
  t138 := Tryz.underlying261
  a138 := Tryz.isAgg261
  z138 := Tryz.sizeOf261
  v138 := Tryz.zeroValue261
  t139 := Tryz.underlying262
  a139 := Tryz.isAgg262
  z139 := Tryz.sizeOf262
  v139 := Tryz.zeroValue262
  t146 := Tryz.underlying235
  a146 := Tryz.isAgg235
  z146 := Tryz.sizeOf235
  v146 := Tryz.zeroValue235
  g1 := by kernel_rfl
  g3 := by kernel_rfl
  g4 := by kernel_rfl }

open Go.Lib in
def shelf_101_ren : Go.Shelf.Ren := ⟨fun | 101 => 121 | 208 => 165 | 206 => 204 | n => n, fun | 9 => 9 | 4 => 4 | 3 => 3 | n => n, fun | n => n⟩

open Go.Lib in
theorem shelf_101 : Go.Proofs.Lays.n101 Tryz.prog shelf_101_ren := {
  mixed := by kernel_rfl
  f101 := Tryz.func121.trans (congrArg some (by kernel_rfl))
  f206 := Tryz.func204.trans (congrArg some (by kernel_rfl))
  f208 := Tryz.func165.trans (congrArg some (by kernel_rfl))
  t3 := Tryz.underlying3
  a3 := Tryz.isAgg3
  z3 := Tryz.sizeOf3
  v3 := Tryz.zeroValue3
  t4 := Tryz.underlying4
  a4 := Tryz.isAgg4
  z4 := Tryz.sizeOf4
  v4 := Tryz.zeroValue4
  t9 := Tryz.underlying9
  a9 := Tryz.isAgg9
  z9 := Tryz.sizeOf9
  v9 := Tryz.zeroValue9 }

open Go.Lib in
def shelf_155_ren : Go.Shelf.Ren := ⟨fun | 155 => 129 | 154 => 173 | 138 => 171 | 165 => 184 | 143 => 172 | 166 => 185 | 197 => 210 | 169 => 186 | 195 => 209 | 218 => 211 | 240 => 212 | 241 => 213 | 219 => 161 | 260 => 229 | 276 => 230 | 277 => 231 | 217 => 196 | 225 => 191 | 224 => 190 | 267 => 197 | 266 => 216 | 314 => 217 | n => n, fun | 9 => 9 | 3 => 3 | 4 => 4 | 72 => 201 | 0 => 0 | 76 => 203 | 105 => 228 | 21 => 21 | 5 => 5 | 70 => 199 | 20 => 20 | 37 => 22 | 75 => 144 | 127 => 231 | 164 => 249 | 46 => 210 | 119 => 259 | 139 => 262 | 138 => 261 | 146 => 235 | 51 => 234 | 80 => 205 | n => n, fun | 1 => 0 | 3 => 4 | 4 => 5 | n => n⟩

open Go.Lib in
theorem shelf_155 : Go.Proofs.Lays.n155 Tryz.prog shelf_155_ren := {
  mixed := by kernel_rfl
  f138 := Tryz.func171.trans (congrArg some (by kernel_rfl))
  f143 := Tryz.func172.trans (congrArg some (by kernel_rfl))
  f154 := Tryz.func173.trans (congrArg some (by kernel_rfl))
  f155 := Tryz.func129.trans (congrArg some (by kernel_rfl))
  f165 := Tryz.func184.trans (congrArg some (by kernel_rfl))
  f166 := Tryz.func185.trans (congrArg some (by kernel_rfl))
  f169 := Tryz.func186.trans (congrArg some (by kernel_rfl))
  f195 := Tryz.func209.trans (congrArg some (by kernel_rfl))
  f197 := Tryz.func210.trans (congrArg some (by kernel_rfl))
  f217 := Tryz.func196.trans (congrArg some (by kernel_rfl))
  f218 := Tryz.func211.trans (congrArg some (by kernel_rfl))
  f219 := Tryz.func161.trans (congrArg some (by kernel_rfl))
  f224 := Tryz.func190.trans (congrArg some (by kernel_rfl))
  f225 := Tryz.func191.trans (congrArg some (by kernel_rfl))
  f240 := Tryz.func212.trans (congrArg some (by kernel_rfl))
  f241 := Tryz.func213.trans (congrArg some (by kernel_rfl))
  f260 := Tryz.func229.trans (congrArg some (by kernel_rfl))
  f266 := Tryz.func216.trans (congrArg some (by kernel_rfl))
  f267 := Tryz.func197.trans (congrArg some (by kernel_rfl))
  f276 := Tryz.func230.trans (congrArg some (by kernel_rfl))
  f277 := Tryz.func231.trans (congrArg some (by kernel_rfl))
  f314 := Tryz.func217.trans (congrArg some (by kernel_rfl))
  t0 := Tryz.underlying0
  a0 := Tryz.isAgg0
  z0 := Tryz.sizeOf0
  v0 := Tryz.zeroValue0
  t3 := Tryz.underlying3
  a3 := Tryz.isAgg3
  z3 := Tryz.sizeOf3
  v3 := Tryz.zeroValue3
  t4 := Tryz.underlying4
  a4 := Tryz.isAgg4
  z4 := Tryz.sizeOf4
  v4 := Tryz.zeroValue4
  t5 := Tryz.underlying5
  a5 := Tryz.isAgg5
  z5 := Tryz.sizeOf5
  v5 := Tryz.zeroValue5
  t9 := Tryz.underlying9
  a9 := Tryz.isAgg9
  z9 := Tryz.sizeOf9
  v9 := Tryz.zeroValue9
  t20 := Tryz.underlying20
  a20 := Tryz.isAgg20
  z20 := Tryz.sizeOf20
  v20 := Tryz.zeroValue20
  t21 := Tryz.underlying21
  a21 := Tryz.isAgg21
  z21 := Tryz.sizeOf21
  v21 := Tryz.zeroValue21
  t37 := Tryz.underlying22
  a37 := Tryz.isAgg22
  z37 := Tryz.sizeOf22
  v37 := Tryz.zeroValue22
  t46 := Tryz.underlying210
  a46 := Tryz.isAgg210
  z46 := Tryz.sizeOf210
  v46 := Tryz.zeroValue210
  t51 := Tryz.underlying234
  a51 := Tryz.isAgg234
  z51 := Tryz.sizeOf234
  v51 := Tryz.zeroValue234
  t70 := Tryz.underlying199
  a70 := Tryz.isAgg199
  z70 := Tryz.sizeOf199
  v70 := Tryz.zeroValue199
  t72 := Tryz.underlying201
  a72 := Tryz.isAgg201
  z72 := Tryz.sizeOf201
  v72 := Tryz.zeroValue201
  t75 := Tryz.underlying144
  a75 := Tryz.isAgg144
  z75 := Tryz.sizeOf144
  v75 := Tryz.zeroValue144
  t76 := Tryz.underlying203
  a76 := Tryz.isAgg203
  z76 := Tryz.sizeOf203
  v76 := Tryz.zeroValue203
  t105 := Tryz.underlying228
  a105 := Tryz.isAgg228
  z105 := Tryz.sizeOf228
  v105 := Tryz.zeroValue228
  t119 := Tryz.underlying259
  a119 := Tryz.isAgg259
  z119 := Tryz.sizeOf259
  t127 := Tryz.underlying231
  a127 := Tryz.isAgg231
  z127 := Tryz.sizeOf231
  v127 := Tryz.zeroValue231
  t138 := Tryz.underlying261
  a138 := Tryz.isAgg261
  z138 := Tryz.sizeOf261
  v138 := Tryz.zeroValue261
  t139 := Tryz.underlying262
  a139 := Tryz.isAgg262
  z139 := Tryz.sizeOf262
  v139 := Tryz.zeroValue262
  t146 := Tryz.underlying235
  a146 := Tryz.isAgg235
  z146 := Tryz.sizeOf235
  v146 := Tryz.zeroValue235
  t164 := Tryz.underlying249
  a164 := Tryz.isAgg249
  z164 := Tryz.sizeOf249
  v164 := Tryz.zeroValue249
  g1 := by kernel_rfl
  g3 := by kernel_rfl
  g4 := by kernel_rfl }

open Go.Lib in
theorem shelf_X_Builder_Extra_155 : Builder.Extra Tryz.prog shelf_155_ren where
  sizeBuilder := by kernel_rfl
  liesBuilder := by kernel_rfl
  t5 := Tryz.underlying5
  a5 := Tryz.isAgg5
  z5 := Tryz.sizeOf5
  v5 := Tryz.zeroValue5
  infoByte := by kernel_rfl
  cellsByte := by kernel_rfl
  sizeByte := by kernel_rfl
  neB5 := by decide

open Go.Lib in
/-- An error value that is nil or not. -/
def IsErr (v : Value) (b : Bool) : Prop := if b = true then ∃ t x, v = .iface t x else v = .nilIface

open Go.Lib in
theorem x_neqNil {P : Program} {S : World → Prop} {L : List (Nat × Value)} {d : Option Tmp} {t t' : TypeId} {x : Operand} {v : Value} {r : Bool} {ty : TypeId} {pos : String} {af : Array Edge} {g : Option (Nat × Bool)} (hv : IsErr v r) (hi : P.isIface t = true) (hx : ev L x = some v) : XS P S L ⟨d, .binOp .neq t x (.const .nilIface) t', ty, pos, af, g⟩ (.bool r) := fun _ a w hE _ => by
  have hn : a.eval (.const .nilIface) = Value.nilIface := rfl
  cases r with
  | true =>
    obtain ⟨u, y, rfl⟩ := hv
    have hg : (eqGuard .neq t x (.const .nilIface) (.iface u y) .nilIface).run P w = .ok () w := rfl
    simp only [execOp, hE.ev hx, hn, Sem.run_bind, hg, Result.andThen_ok, run_neq_iface_nil w t hi u y, Sem.run_pure]
  | false =>
    obtain rfl := hv
    have hg : (eqGuard .neq t x (.const .nilIface) .nilIface .nilIface).run P w = .ok () w := by
      cases x <;> rfl
    simp only [execOp, hE.ev hx, hn, Sem.run_bind, hg, Result.andThen_ok, run_neq_nil_nil_at w t hi, Sem.run_pure]

open Go.Lib in
def parI (s : List UInt8) : Int × Bool := match parseIntB 64 s with
  | .ok v => (v, false)
  | .range => (Go.Lib.intSat 64 s, true)
  | _ => (0, true)

open Go.Lib in
theorem bs_list (s : List UInt8) : (bs s).data.toList = s := by simp [bs]

open Go.Lib in
theorem ParseInt_64 (a0 : List UInt8) (a1 a2 : Int) (w : World) (hG : Glob2 w) (s0 : a0.length ≤ 1000000000) (s1 : a1 = 10) (s2 : a2 = 64) :
    Calls Tryz.prog 119 #[.string (bs a0), .int .i64 a1, .int .i64 a2] w fun e w' => ∃ er, e = .returned (.tuple #[.int .i64 (parI a0).1, er]) ∧ IsErr er (parI a0).2 ∧ Below w.heap.size w w' := by
  subst s1; subst s2
  have hz := bs_size a0
  have hl := bs_list a0
  cases hp : parseIntB 64 a0 with
  | ok v =>
    refine (show Calls Tryz.prog 119 #[.string (bs a0), .int .i64 10, .int .i64 64] w _ from Any.strconv_ParseInt_10_at64_ok shelf_C174 (bs a0) (by omega) v (by rw [hl]; exact hp) w).mono ?_
    rintro e w' ⟨rfl, h⟩
    unfold parI; rw [hp]
    refine ⟨_, rfl, rfl, ?_⟩
    rcases h with rfl | ⟨t, rfl⟩
    · exact Below.refl _ _
    · exact Go.Lib.bytesWorld_below _ _ _
  | range =>
    obtain ⟨tp, p, hv⟩ := hG.2.1.2
    refine (show Calls Tryz.prog 119 #[.string (bs a0), .int .i64 10, .int .i64 64] w _ from Any.strconv_ParseInt_10_at64_range_var shelf_C174 (bs a0) (by omega) (by rw [hl]; exact hp) tp p w hv).mono ?_
    rintro e w' ⟨N, rfl, _, _, h⟩
    unfold parI; rw [hp]
    rw [hl]
    exact ⟨_, rfl, ⟨_, _, rfl⟩, h⟩
  | _ =>
    obtain ⟨tp, p, hv⟩ := hG.2.1.1
    refine (show Calls Tryz.prog 119 #[.string (bs a0), .int .i64 10, .int .i64 64] w _ from Any.strconv_ParseInt_10_at64_syntax_var shelf_C174 (bs a0) (by omega) (by rw [hl]; exact hp) tp p w hv).mono ?_
    rintro e w' ⟨N, rfl, _, _, h⟩
    unfold parI; rw [hp]
    exact ⟨_, rfl, ⟨_, _, rfl⟩, h⟩

open Go.Lib in
theorem so_txt_alloc (w : World) (t : TypeId) (xs : List (List UInt8)) (h : ∀ x ∈ xs, x.length ≤ 9223372036854775807) (hl : xs.length ≤ 1000000000000) : So eTxt (w.alloc (.cells (xs.map fun x => Value.string (bs x)).toArray t)) (Fr w (w.alloc (.cells (xs.map fun x => Value.string (bs x)).toArray t))) (some ⟨w.heap.size, 0, none⟩) xs.length xs := by
  refine ⟨Nat.le_refl _, by unfold maxLen; omega, fun _ => ⟨w.heap.size, 0, t, (xs.map fun x => Value.string (bs x)).toArray, fun _ _ => False, rfl, ⟨Nat.le_refl _, by simp⟩, Blk.new _ _ _, fun _ _ h => h.elim, fun _ _ _ h => h.elim, fun i x hx => ⟨[.string (bs x)], ⟨rfl, h x (List.mem_of_getElem? hx)⟩, fun j v hj => ?_⟩⟩⟩
  match j, hj with
  | 0, hj =>
    simp only [List.getElem?_cons_zero, Option.some.injEq] at hj
    subst hj
    simp [eTxt, hx]

open Go.Lib in
theorem split_bs (c : UInt8) (s : List UInt8) : (splitB (bs [c]) 0 (countB (bs s) (bs [c])) (bs s)).map Value.string = (splitR c s).map fun x => Value.string (bs x) := by
  have h1 := splitB_data (bs [c]) 0 (countB (bs s) (bs [c])) (bs s)
  have h2 : countB (bs s) (bs [c]) = count s [c] := by unfold countB; rw [bs_list, bs_list]
  rw [bs_list, bs_list, h2, split_one] at h1
  rw [← h1, List.map_map, h2]
  exact List.map_congr_left fun x _ => by simp [bs_eta]

open Go.Lib in
theorem split_count (c : UInt8) (s : List UInt8) : countB (bs s) (bs [c]) + 1 = (splitR c s).length := by
  have h := congrArg List.length (split_bs c s)
  rw [List.length_map, List.length_map, splitB_all (bs [c]) (by rw [bs_size]; simp) 0 _ (bs s) rfl] at h
  exact h

open Go.Lib in
theorem Split_1 (a0 a1 : List UInt8) (c : UInt8) (w : World) (hG : Glob2 w) (s0 : a0.length ≤ 1000000000) (s1 : a1 = [c]) :
    Calls Tryz.prog 78 #[.string (bs a0), .string (bs a1)] w fun e w' => ∃ A' c', e = .returned (.slice A' (splitR c a0).length c') ∧ So eTxt w' (Fr w w') A' c' (splitR c a0) ∧ Below w.heap.size w w' := by
  subst s1
  have hz := bs_size a0
  have h1 := splitR_len c a0
  obtain ⟨m, hm⟩ := hG.2.2
  refine (show Calls Tryz.prog 78 #[.string (bs a0), .string (bs [c])] w _ from Any.strings_Split shelf_146 (by kernel_rfl) (bs a0) (bs [c]) m w (by omega) hm (by rw [bs_size]; simp)).mono ?_
  rintro e w' ⟨rfl, rfl⟩
  rw [split_bs, split_count]
  exact ⟨_, _, rfl, so_txt_alloc w _ _ (fun x hx => by have := splitR_piece c a0 x hx; omega) (by omega), (Below.refl _ w).alloc (Nat.le_refl _) _⟩

open Go.Lib in
theorem TrimMinus (a0 a1 : List UInt8) (w : World) (s1 : a1 = [45]) :
    Calls Tryz.prog 121 #[.string (bs a0), .string (bs a1)] w fun e w' => e = .returned (.string (bs (unsg a0))) ∧ Below w.heap.size w w' := by
  subst s1
  refine (show Calls Tryz.prog 121 #[.string (bs a0), .string (bs [45])] w _ from Any.strings_TrimPrefix shelf_101 (bs a0) (bs [45]) w).mono ?_
  rintro e w' ⟨rfl, rfl⟩
  refine ⟨?_, Below.refl _ _⟩
  rw [bs_list, bs_list]
  have : trimPrefix a0 [45] = unsg a0 := by
    unfold trimPrefix unsg
    cases a0 with
    | nil => simp [hasPrefix]
    | cons x r =>
      by_cases h : x = 45
      · subst h; simp [hasPrefix, List.isPrefixOf]
      · have h2 : ¬ (45 : UInt8) = x := fun e => h e.symm
        simp [hasPrefix, h, h2, List.isPrefixOf]
  rw [this]

open Go.Lib in
theorem ReplaceAll_1 (a0 a1 a2 : List UInt8) (c d : UInt8) (w : World) (hG : Glob2 w) (s0 : a0.length ≤ 1000000000) (s1 : a1 = [c]) (s2 : a2 = [d]) (s3 : ¬ c = d) :
    Calls Tryz.prog 129 #[.string (bs a0), .string (bs a1), .string (bs a2)] w fun e w' => e = .returned (.string (bs (subB c d a0))) ∧ Below w.heap.size w w' := by
  subst s1; subst s2
  have hz := bs_size a0
  obtain ⟨m, hm⟩ := hG.2.2
  have hc := countB_le (bs [c]) (by rw [bs_size]; simp) (bs a0).size (bs a0) (Nat.le_refl _)
  refine (show Calls Tryz.prog 129 #[.string (bs a0), .string (bs [c]), .string (bs [d])] w _ from Any.strings_ReplaceAll shelf_155 shelf_X_Builder_Extra_155 (bs a0) (bs [c]) (bs [d]) m w (by omega) hm (by rw [bs_size]; simp) (by rw [bs_size [d]]; simp only [List.length_cons, List.length_nil]; omega)).mono ?_
  rintro e w' ⟨rfl, h⟩
  rw [bs_list, bs_list, bs_list, replaceAll_one s3]
  exact ⟨rfl, h⟩

open Go.Lib in
theorem unsg_len (s : List UInt8) : (unsg s).length ≤ s.length := by
  unfold unsg; split
  · simp
  · exact Nat.le_refl _

open Go.Lib in
theorem subB_len (a b : UInt8) (s : List UInt8) : (subB a b s).length = s.length := by simp [subB]

open Go.Lib in
theorem parI_bd {s : List UInt8} (h : (parI s).2 = false) : -9223372036854775808 ≤ (parI s).1 ∧ (parI s).1 ≤ 9223372036854775807 := by
  unfold parI at h ⊢
  cases hp : parseIntB 64 s with
  | ok v => have := parseIntB_bounds hp; rw [hp] at h; simp only; omega
  | _ => rw [hp] at h; exact absurd h (by simp)

open Go.Lib in
theorem numR_def (s : List UInt8) : numR s = if (parI s).2 = true then (0, false) else if Go.Lib.itoa (parI s).1 = s ∧ (unsg s).length ≤ 18 then ((parI s).1, true) else (0, false) := by
  unfold numR parI
  cases hp : parseIntB 64 s with
  | ok v => simp
  | _ => simp

open Go.Lib in
theorem numC_bd (s : List UInt8) : -1000000000000000000 < (numC s).1 ∧ (numC s).1 < 1000000000000000000 := by
  unfold numC
  split
  · rename_i h; exact (itoa_num h).2
  · decide

open Go.Lib in
theorem numR_bd (s : List UInt8) : -1000000000000000000 < (numR s).1 ∧ (numR s).1 < 1000000000000000000 := by rw [numR_eq]; exact numC_bd s

open Go.Lib in
def preP (p : List UInt8) : List (List UInt8) → List (List UInt8)
  | [] => [p]
  | q :: r => (p ++ q) :: r

open Go.Lib in
theorem spl_ne {c : UInt8} {s : List UInt8} {l : List (List UInt8)} {j : Int} {k : Nat} (h : splitR c s = l ++ preP ((s.drop j.toNat).take (k - j.toNat)) (splitR c (s.drop k))) (hk : k < s.length) (hj : 0 ≤ j ∧ j ≤ (k : Int)) (hn : ¬ s[k] = c) : splitR c s = l ++ preP ((s.drop j.toNat).take (k + 1 - j.toNat)) (splitR c (s.drop (k + 1))) := by
  rw [h]
  congr 1
  obtain ⟨p, r, e⟩ := splitR_some c (s.drop (k + 1))
  have e2 : (s.drop j.toNat).take (k + 1 - j.toNat) = (s.drop j.toNat).take (k - j.toNat) ++ [s[k]] := by
    rw [show k + 1 - j.toNat = (k - j.toNat) + 1 from by omega, List.take_succ_eq_append_getElem (by rw [List.length_drop]; omega), List.getElem_drop]
    congr 3
    omega
  rw [List.drop_eq_getElem_cons hk, splitR_ne hn e, e, e2, preP, preP]
  simp

open Go.Lib in
theorem spl_eq {c : UInt8} {s : List UInt8} {l : List (List UInt8)} {j : Int} {k : Nat} (h : splitR c s = l ++ preP ((s.drop j.toNat).take (k - j.toNat)) (splitR c (s.drop k))) (hk : k < s.length) (he : s[k] = c) : splitR c s = (l ++ [(s.drop j.toNat).take (k - j.toNat)]) ++ preP ((s.drop ((k : Int) + 1).toNat).take (k + 1 - ((k : Int) + 1).toNat)) (splitR c (s.drop (k + 1))) := by
  rw [h]
  obtain ⟨p, r, e⟩ := splitR_some c (s.drop (k + 1))
  rw [List.drop_eq_getElem_cons hk, he, splitR_eq, e, show k + 1 - ((k : Int) + 1).toNat = 0 from by omega, List.take_zero, preP, preP]
  simp

open Go.Lib in
theorem spl_end {c : UInt8} {s : List UInt8} {l : List (List UInt8)} {j : Int} {k : Nat} (h : splitR c s = l ++ preP ((s.drop j.toNat).take (k - j.toNat)) (splitR c (s.drop k))) (hk : k = s.length) : splitR c s = l ++ [s.drop j.toNat] := by
  rw [h]
  rw [List.drop_eq_nil_of_le (by omega : s.length ≤ k), splitR_nil, preP, List.append_nil, List.take_of_length_le (by rw [List.length_drop]; omega)]

open Go.Lib in
theorem spl_zero (c : UInt8) (s : List UInt8) : splitR c s = [] ++ preP ((s.drop (0 : Int).toNat).take (0 - (0 : Int).toNat)) (splitR c (s.drop 0)) := by
  obtain ⟨p, r, e⟩ := splitR_some c s
  simp [preP, e]

open Go.Lib in
/-- The place of the first digit. -/
def ofP (s : List UInt8) : Nat := if s.head? = some 45 then 1 else 0

open Go.Lib in
theorem unsg_drop (s : List UInt8) : unsg s = s.drop (ofP s) := by
  unfold unsg ofP; split
  · simp
  · rw [List.drop_zero]

open Go.Lib in
theorem ofP_neg {s : List UInt8} {e : UInt8} (h : 0 < s.length) (he : e = s[0]) (h45 : (e.toNat : Int) = 45) : ofP s = 1 := by
  have : e = 45 := UInt8.toNat_inj.1 (by have : (45 : UInt8).toNat = 45 := rfl; omega)
  unfold ofP
  cases s with
  | nil => simp at h
  | cons x r => simp only [List.getElem_cons_zero] at he; rw [← he, this]; rfl

open Go.Lib in
theorem ofP_pos {s : List UInt8} {e : UInt8} (h : 0 < s.length) (he : e = s[0]) (h45 : ¬ (e.toNat : Int) = 45) : ofP s = 0 := by
  unfold ofP
  cases s with
  | nil => simp at h
  | cons x r =>
    simp only [List.getElem_cons_zero] at he
    rw [if_neg]
    intro h2
    simp only [List.head?_cons, Option.some.injEq] at h2
    apply h45
    rw [he, h2]; rfl

open Go.Lib in
theorem ofP_nil {s : List UInt8} (h : ¬ 0 < s.length) : ofP s = 0 := by
  have : s = [] := List.eq_nil_of_length_eq_zero (by omega)
  subst this; rfl

open Go.Lib in
/-- The digits from the first one up to i. -/
def dgs (s : List UInt8) (i : Nat) : List UInt8 := (s.drop (ofP s)).take (i - ofP s)

open Go.Lib in
theorem dgs_step {s : List UInt8} {i : Nat} {e : UInt8} (h0 : ofP s ≤ i) (h1 : i < s.length) (he : e = s[i]) : dgs s (i + 1) = dgs s i ++ [e] := by
  unfold dgs
  rw [show i + 1 - ofP s = (i - ofP s) + 1 from by omega, List.take_succ_eq_append_getElem (by rw [List.length_drop]; omega), List.getElem_drop, he]
  congr 3
  omega

open Go.Lib in
theorem dgs_all {s : List UInt8} {i : Nat} {e : UInt8} (h : (dgs s i).all isDg = true) (h0 : ofP s ≤ i) (h1 : i < s.length) (he : e = s[i]) (hd : 48 ≤ (e.toNat : Int) ∧ (e.toNat : Int) ≤ 57) : (dgs s (i + 1)).all isDg = true := by
  rw [dgs_step h0 h1 he, List.all_append, h]
  simp only [List.all_cons, List.all_nil, Bool.and_true, Bool.true_and]
  exact isDg_iff.2 (by omega)

open Go.Lib in
theorem dgs_bd {s : List UInt8} {i : Nat} (h : (dgs s i).all isDg = true) (h1 : i < s.length) (h2 : s.length ≤ ofP s + 18) : valD 0 (dgs s i) < 100000000000000000 := by
  refine Nat.lt_of_lt_of_le (valD_lt _ 0 h) ?_
  have h3 : (dgs s i).length ≤ 17 := by unfold dgs; rw [List.length_take]; omega
  have := Nat.pow_le_pow_right (n := 10) (by omega) h3
  omega

open Go.Lib in
theorem dgs_full {s : List UInt8} {i : Nat} (h : s.length ≤ i) : dgs s i = unsg s := by
  unfold dgs; rw [unsg_drop, List.take_of_length_le (by rw [List.length_drop]; omega)]

open Go.Lib in
theorem numC_bad {s : List UInt8} (h : okNum s = false) : numC s = (0, false) := by unfold numC; rw [h]; rfl

open Go.Lib in
theorem numC_len0 {s : List UInt8} (h : s.length = ofP s) : numC s = (0, false) := by
  refine numC_bad ?_
  cases hq : okNum s with
  | false => rfl
  | true =>
    have h1 := ((okNum_iff s).1 hq).1
    rw [unsg_drop, List.drop_eq_nil_of_le (by omega)] at h1
    exact absurd rfl h1

open Go.Lib in
theorem numC_len18 {s : List UInt8} (h : ofP s + 18 < s.length) : numC s = (0, false) := by
  refine numC_bad ?_
  cases hq : okNum s with
  | false => rfl
  | true =>
    have h1 := ((okNum_iff s).1 hq).2.1
    rw [unsg_drop, List.length_drop] at h1
    omega

open Go.Lib in
theorem numC_zero {s : List UInt8} {i : Nat} {e : UInt8} (hi : i = ofP s) (h1 : i < s.length) (he : e = s[i]) (h48 : (e.toNat : Int) = 48) (h2 : 1 < s.length) : numC s = (0, false) := by
  refine numC_bad ?_
  cases hq : okNum s with
  | false => rfl
  | true =>
    have h3 := ((okNum_iff s).1 hq).2.2.2
    refine absurd ⟨?_, h2⟩ h3
    have e48 : e = 48 := UInt8.toNat_inj.1 (by have : (48 : UInt8).toNat = 48 := rfl; omega)
    subst hi
    rw [unsg_drop, List.drop_eq_getElem_cons h1, ← he, e48]; rfl

open Go.Lib in
theorem numC_dig {s : List UInt8} {i : Nat} {e : UInt8} (h0 : ofP s ≤ i) (h1 : i < s.length) (he : e = s[i]) (hd : ¬ (48 ≤ (e.toNat : Int) ∧ (e.toNat : Int) ≤ 57)) : numC s = (0, false) := by
  refine numC_bad ?_
  cases hq : okNum s with
  | false => rfl
  | true =>
    have h3 := ((okNum_iff s).1 hq).2.2.1
    rw [List.all_eq_true] at h3
    have hm : e ∈ unsg s := by
      rw [unsg_drop, he]
      exact List.mem_drop_iff_getElem.2 ⟨i - ofP s, by omega, by congr 1; omega⟩
    have := isDg_iff.1 (h3 e hm)
    exact absurd (by omega) hd

open Go.Lib in
theorem numC_ok {s : List UInt8} {i : Nat} {e : UInt8} {k : Nat} (hk : k = ofP s) (hl : k < s.length) (h18 : s.length ≤ ofP s + 18) (he : e = s[k]) (hz : ¬ ((e.toNat : Int) = 48 ∧ 1 < s.length)) (hi : s.length ≤ i) (ha : (dgs s i).all isDg = true) : okNum s = true := by
  rw [dgs_full hi] at ha
  subst hk
  refine (okNum_iff s).2 ⟨?_, by rw [unsg_drop, List.length_drop]; omega, ha, ?_⟩
  · rw [unsg_drop]; intro h; have := congrArg List.length h; rw [List.length_drop, List.length_nil] at this; omega
  · rintro ⟨h1, h2⟩
    rw [unsg_drop, List.drop_eq_getElem_cons hl, ← he] at h1
    simp only [List.head?_cons, Option.some.injEq] at h1
    exact hz ⟨by rw [h1]; rfl, h2⟩

open Go.Lib in
theorem numC_yes {s : List UInt8} {i : Nat} (hi : s.length ≤ i) (h : okNum s = true) : numC s = (if ofP s = 1 then -(valD 0 (dgs s i) : Int) else (valD 0 (dgs s i) : Int), true) := by
  unfold numC
  rw [if_pos h, dgs_full hi]
  unfold numOf ofP
  by_cases h45 : s.head? = some 45
  · rw [if_pos h45, if_pos h45, if_pos rfl]
  · rw [if_neg h45, if_neg h45, if_neg (by decide)]

open Go.Lib in
def digB (x : Int) : Bool := decide (48 ≤ x) && decide (x ≤ 57)

open Go.Lib in
theorem dgs_zero (s : List UInt8) : dgs s (ofP s) = [] := by unfold dgs; rw [Nat.sub_self, List.take_zero]

open Go.Lib in
theorem dgs_bd18 {s : List UInt8} {i : Nat} (h : (dgs s i).all isDg = true) (h2 : s.length ≤ ofP s + 18) : valD 0 (dgs s i) < 1000000000000000000 := by
  refine Nat.lt_of_lt_of_le (valD_lt _ 0 h) ?_
  have h3 : (dgs s i).length ≤ 18 := by unfold dgs; rw [List.length_take, List.length_drop]; omega
  have := Nat.pow_le_pow_right (n := 10) (by omega) h3
  omega

open Go.Lib in
def numL (f : List UInt8 → Int × Bool) (ps : List (List UInt8)) : List Int × Bool := if ps.all (fun p => (f p).2) = true then (ps.map (fun p => (f p).1), true) else ([], false)

open Go.Lib in
theorem all_snoc {α : Type} {f : α → Bool} {l : List α} {k : Nat} (hk : k < l.length) (h : (l.take k).all f = true) {e : α} (he : e = l[k]) (h2 : f e = true) : (l.take (k + 1)).all f = true := by
  rw [List.take_succ_eq_append_getElem hk, List.all_append, h, ← he]
  simp [h2]

open Go.Lib in
theorem numL_yes {f : List UInt8 → Int × Bool} {ps : List (List UInt8)} {k : Nat} (hk : ps.length ≤ k) (h : (ps.take k).all (fun p => (f p).2) = true) : numL f ps = ((ps.take k).map (fun p => (f p).1), true) := by
  rw [List.take_of_length_le hk] at h ⊢
  unfold numL; rw [if_pos h]

open Go.Lib in
theorem numL_no {f : List UInt8 → Int × Bool} {ps : List (List UInt8)} {k : Nat} (hk : k < ps.length) {e : List UInt8} (he : e = ps[k]) (h2 : (f e).2 = false) : numL f ps = ([], false) := by
  unfold numL
  rw [if_neg]
  intro h
  rw [List.all_eq_true] at h
  have := h e (by rw [he]; exact List.getElem_mem _)
  rw [h2] at this
  exact absurd this (by decide)

open Go.Lib in
theorem map_snoc {α β : Type} (f : α → β) {l : List α} {k : Nat} (hk : k < l.length) {e : α} (he : e = l[k]) : (l.take (k + 1)).map f = (l.take k).map f ++ [f e] := by
  rw [List.take_succ_eq_append_getElem hk, List.map_append, ← he]; rfl

open Go.Lib in
def decsR (s : List UInt8) : List Int × Bool := numL numR (splitR 44 s)

open Go.Lib in
theorem ff {b : Bool} (h : b = true) (h2 : b = false) : False := by rw [h] at h2; exact Bool.noConfusion h2

open Go.Lib in
theorem itoa_no {c : UInt8} (h45 : ¬ c = 45) (hd : isDg c = false) (v : Int) : c ∉ Go.Lib.itoa v := by
  have key : ∀ n : Nat, c ∉ decDigits n := fun n hm => ff (List.all_eq_true.1 (dec_dig n).1 c hm) hd
  unfold Go.Lib.itoa
  split
  · intro hm
    rcases List.mem_cons.1 hm with hm | hm
    · exact h45 hm
    · exact key _ hm
  · exact key _

open Go.Lib in
theorem subB_no {a b : UInt8} {p : List UInt8} (h : a ∉ p) : subB a b p = p := by
  unfold subB
  refine (List.map_congr_left fun x hx => ?_).trans (List.map_id p)
  exact if_neg fun e => h (by rw [← e]; exact hx)

open Go.Lib in
theorem subB_app (a b : UInt8) (p q : List UInt8) : subB a b (p ++ q) = subB a b p ++ subB a b q := by simp [subB]

open Go.Lib in
theorem subB_join {a b : UInt8} {x : List UInt8} : ∀ {r : List (List UInt8)}, (∀ p ∈ x :: r, a ∉ p) → subB a b (join (x :: r) [a]) = join (x :: r) [b]
  | [], h => by rw [join_one, join_one]; exact subB_no (h x (by simp))
  | y :: r, h => by
    have ih := subB_join (b := b) (x := y) (r := r) fun p hp => h p (List.mem_cons_of_mem _ hp)
    have e : ∀ c : UInt8, join (x :: y :: r) [c] = x ++ [c] ++ join (y :: r) [c] := fun c => by rw [join_cons, join_cons]; simp [joinTail]
    rw [e, e, subB_app, subB_app, ih, subB_no (h x (by simp))]
    simp [subB]

open Go.Lib in
theorem numC_itoa {v : Int} (h : -1000000000000000000 < v ∧ v < 1000000000000000000) : numC (Go.Lib.itoa v) = (v, true) := by
  obtain ⟨h1, h2⟩ := okNum_itoa h
  unfold numC; rw [if_pos h1, h2]

open Go.Lib in
theorem numR_itoa {v : Int} (h : -1000000000000000000 < v ∧ v < 1000000000000000000) : numR (Go.Lib.itoa v) = (v, true) := by rw [numR_eq]; exact numC_itoa h

open Go.Lib in
theorem numL_itoa {f : List UInt8 → Int × Bool} {l : List Int} (h : ∀ v ∈ l, f (Go.Lib.itoa v) = (v, true)) : numL f (l.map Go.Lib.itoa) = (l, true) := by
  unfold numL
  rw [if_pos]
  · rw [List.map_map]
    have : l.map ((fun p => (f p).1) ∘ Go.Lib.itoa) = l := (List.map_congr_left fun v hv => by show (f (Go.Lib.itoa v)).1 = id v; rw [h v hv]; rfl).trans (List.map_id l)
    rw [this]
  · rw [List.all_eq_true]
    intro p hp
    obtain ⟨v, hv, rfl⟩ := List.mem_map.1 hp
    rw [h v hv]

open Go.Lib in
theorem split_decs {c : UInt8} (h45 : ¬ c = 45) (hd : isDg c = false) {l : List Int} (hl : l ≠ []) : splitR c (decs l [c]) = l.map Go.Lib.itoa := by
  cases l with
  | nil => exact absurd rfl hl
  | cons v l =>
    unfold decs
    rw [List.map_cons]
    refine splitR_join fun p hp => ?_
    rw [← List.map_cons] at hp
    obtain ⟨u, _, rfl⟩ := List.mem_map.1 hp
    exact itoa_no h45 hd u

open Go.Lib in
theorem sub_decs {a b : UInt8} (h45 : ¬ a = 45) (hd : isDg a = false) {l : List Int} (hl : l ≠ []) : subB a b (decs l [a]) = decs l [b] := by
  cases l with
  | nil => exact absurd rfl hl
  | cons v l =>
    unfold decs
    rw [List.map_cons]
    refine subB_join fun p hp => ?_
    rw [← List.map_cons] at hp
    obtain ⟨u, _, rfl⟩ := List.mem_map.1 hp
    exact itoa_no h45 hd u

open Go.Lib in
theorem decsR_decs {l : List Int} (hl : l ≠ []) (hb : ∀ v ∈ l, -1000000000000000000 < v ∧ v < 1000000000000000000) : decsR (decs l [44]) = (l, true) := by
  unfold decsR
  rw [split_decs (by decide) (by decide) hl]
  exact numL_itoa fun v hv => numR_itoa (hb v hv)

open Go.Lib in
set_option maxRecDepth 100000 in
set_option maxHeartbeats 4000000 in
theorem impl_ReadDecimal (a0 : List UInt8) (w : World) (hG : Glob2 w) (s0 : a0.length ≤ 2000000) :
    Calls Tryz.prog 70 #[.string (bs a0)] w fun e w' => e = .returned (.tuple #[.int .i64 (numR a0).1, .bool (numR a0).2]) ∧ Below w.heap.size w w' := by
  have HH1 := Held.start Nob w
  refine enter (n := 26) Tryz.func70 rfl rfl rfl fun a_2 HE3 => ?_
  refine wp_seq ?_
  refine rg ?_
  refine pl_x HE3 HH1 (wt0 rfl) (x_assign rfl) rfl rfl fun a_4 HE5 => ?_
  refine pl_x HE5 HH1 (wt0 rfl) (x_assign rfl) rfl rfl fun a_6 HE7 => ?_
  refine wpList_nil ?_
  clear a_2 HE3 a_4 HE5
  refine nrm ?_
  refine wp_seq ?_
  refine rg ?_
  refine pl_x HE7 HH1 (wt0 rfl) (x_move rfl) rfl rfl fun a_8 HE9 => ?_
  refine pl fun K_10 hK11 => ?_
  refine st_call HE9 (wt0 rfl) rfl rfl rfl en_119 rfl rfl (ParseInt_64 a0 10 64 _ (HH1.glob2 hG) (by omega) (by rfl) (by rfl)) fun e w' hr => ?_
  obtain ⟨err21_1, rfl, her21_1, hbr21⟩ := hr
  have HH12 := HH1.on hbr21
  refine ⟨_, rfl, fun a_13 HE14 => hK11 _ _ ?_⟩
  refine pl_x HE14 HH12 (wt0 rfl) (x_move rfl) rfl rfl fun a_15 HE16 => ?_
  refine pl_x HE16 HH12 (wt0 rfl) (x_extract rfl rfl) rfl rfl fun a_17 HE18 => ?_
  refine pl_x HE18 HH12 (wt0 rfl) (x_extract rfl rfl) rfl rfl fun a_19 HE20 => ?_
  refine pl_x HE20 HH12 (wt0 rfl) (x_assign rfl) rfl rfl fun a_21 HE22 => ?_
  refine pl_x HE22 HH12 (wt0 rfl) (x_assign rfl) rfl rfl fun a_23 HE24 => ?_
  refine wpList_nil ?_
  clear a_6 HE7 HH1 a_8 HE9 a_13 HE14 a_15 HE16 a_17 HE18 a_19 HE20 a_21 HE22 hK11 K_10
  refine nrm ?_
  refine wp_seq ?_
  refine wp_seq ?_
  refine rg ?_
  refine pl_x HE24 HH12 (wt0 rfl) (x_move rfl) rfl rfl fun a_25 HE26 => ?_
  refine pl_x HE26 HH12 (wt0 rfl) (x_neqNil her21_1 (by kernel_rfl) rfl) rfl rfl fun a_27 HE28 => ?_
  refine pl_x HE28 HH12 (wt0 rfl) (x_move rfl) rfl rfl fun a_29 HE30 => ?_
  rcases Bool.eq_false_or_eq_true ((parI a0).2) with hc22 | hc22
  · refine pl_no HE30 (wtF HE30 rfl rfl rfl hc22) rfl rfl fun a_31 HE32 => ?_
    refine pl_no HE32 (wtF HE32 rfl rfl rfl hc22) rfl rfl fun a_33 HE34 => ?_
    refine pl_no HE34 (wtF HE34 rfl rfl rfl hc22) rfl rfl fun a_35 HE36 => ?_
    refine pl_no HE36 (wtF HE36 rfl rfl rfl hc22) rfl rfl fun a_37 HE38 => ?_
    refine pl_x HE38 HH12 (wt0 rfl) (x_pickT rfl hc22 rfl) rfl rfl fun a_39 HE40 => ?_
    refine pl_x HE40 HH12 (wt0 rfl) (x_move rfl) rfl rfl fun a_41 HE42 => ?_
    refine pl_no HE42 (wtF HE42 rfl rfl rfl rfl) rfl rfl fun a_43 HE44 => ?_
    refine pl_no HE44 (wtF HE44 rfl rfl rfl rfl) rfl rfl fun a_45 HE46 => ?_
    refine pl_no HE46 (wtF HE46 rfl rfl rfl rfl) rfl rfl fun a_47 HE48 => ?_
    refine pl_no HE48 (wtF HE48 rfl rfl rfl rfl) rfl rfl fun a_49 HE50 => ?_
    refine pl_x HE50 HH12 (wt0 rfl) (x_pickT rfl rfl rfl) rfl rfl fun a_51 HE52 => ?_
    refine wpList_nil ?_
    clear a_23 HE24 a_25 HE26 a_27 HE28 a_29 HE30 a_31 HE32 a_33 HE34 a_35 HE36 a_37 HE38 a_39 HE40 a_41 HE42 a_43 HE44 a_45 HE46 a_47 HE48 a_49 HE50
    refine nrm ?_
    refine cndT HE52 rfl rfl ?_
    refine wp_seq ?_
    refine rg ?_
    refine pl_x HE52 HH12 (wt0 rfl) (x_assign rfl) rfl rfl fun a_53 HE54 => ?_
    refine pl_x HE54 HH12 (wt0 rfl) (x_assign rfl) rfl rfl fun a_55 HE56 => ?_
    refine wpList_nil ?_
    clear a_51 HE52 a_53 HE54
    refine nrm ?_
    refine wp_ret ?_
    refine (thn_ret ?_)
    refine ret2 HE56 rfl (rv_tmp rfl) (rv_tmp rfl) ?_
    have hF : (numR a0) = (0, false) := by
      rw [numR_def]; first | (simp [hc22]; done) | (simp [hc22]; omega)
    exact ⟨by first | (rw [hF] <;> rfl) | rfl | (rw [hF]; simp only [Ending.returned.injEq, Value.slice.injEq, true_and, and_true]; first | omega | (simp; done)) | (rw [hF]; simp; omega), HH12.below⟩
  · have q0 := parI_bd hc22
    refine pl_x HE30 HH12 (wtT HE30 rfl rfl rfl hc22) (x_move rfl) rfl rfl fun a_57 HE58 => ?_
    refine pl fun K_59 hK60 => ?_
    refine st_call HE58 (wtT HE58 rfl rfl rfl hc22) rfl rfl rfl en_120 rfl rfl (impl_Decimal ((parI a0).1) _ (HH12.glob hG.1) (by omega)) fun e w' hr => ?_
    have hAr23_0 := itoa_len (n := ((parI a0).1)) (by omega)
    obtain ⟨rfl, hbr23⟩ := hr
    have HH61 := HH12.on hbr23
    refine ⟨_, rfl, fun a_62 HE63 => hK60 _ _ ?_⟩
    refine pl_x HE63 HH61 (wtT HE63 rfl rfl rfl hc22) (x_move rfl) rfl rfl fun a_64 HE65 => ?_
    refine pl_x HE65 HH61 (wtT HE65 rfl rfl rfl hc22) (x_sneqB rfl rfl) rfl rfl fun a_66 HE67 => ?_
    refine pl_x HE67 HH61 (wt0 rfl) (x_pickF rfl hc22 rfl) rfl rfl fun a_68 HE69 => ?_
    refine pl_x HE69 HH61 (wt0 rfl) (x_move rfl) rfl rfl fun a_70 HE71 => ?_
    by_cases hc24 : (Go.Lib.itoa ((parI a0).1)) = a0
    · refine pl_x HE71 HH61 (wtT HE71 rfl rfl rfl (not_f (decide_eq_true hc24))) (x_move rfl) rfl rfl fun a_72 HE73 => ?_
      refine pl fun K_74 hK75 => ?_
      refine st_call HE73 (wtT HE73 rfl rfl rfl (not_f (decide_eq_true hc24))) rfl rfl rfl en_121 rfl rfl (TrimMinus a0 ([45]) _ (by rfl)) fun e w' hr => ?_
      have hAr25_0 := unsg_len a0
      obtain ⟨rfl, hbr25⟩ := hr
      have HH76 := HH61.on hbr25
      refine ⟨_, rfl, fun a_77 HE78 => hK75 _ _ ?_⟩
      refine pl_x HE78 HH76 (wtT HE78 rfl rfl rfl (not_f (decide_eq_true hc24))) (x_lenB Tryz.underlying9 rfl) rfl rfl fun a_79 HE80 => ?_
      refine pl_x HE80 HH76 (wtT HE80 rfl rfl rfl (not_f (decide_eq_true hc24))) (x_gtr rfl rfl) rfl rfl fun a_81 HE82 => ?_
      refine pl_x HE82 HH76 (wt0 rfl) (x_pickF rfl (not_f (decide_eq_true hc24)) rfl) rfl rfl fun a_83 HE84 => ?_
      refine wpList_nil ?_
      clear a_23 HE24 a_25 HE26 a_27 HE28 a_29 HE30 HH12 a_57 HE58 a_62 HE63 a_64 HE65 a_66 HE67 a_68 HE69 a_70 HE71 K_59 hK60 HH61 a_72 HE73 a_77 HE78 a_79 HE80 a_81 HE82 hK75 K_74
      refine nrm ?_
      refine cnd_d HE84 rfl (fun hc26 => ?_) (fun hc26 => ?_)
      · refine wp_seq ?_
        refine rg ?_
        refine pl_x HE84 HH76 (wt0 rfl) (x_assign rfl) rfl rfl fun a_85 HE86 => ?_
        refine pl_x HE86 HH76 (wt0 rfl) (x_assign rfl) rfl rfl fun a_87 HE88 => ?_
        refine wpList_nil ?_
        clear a_83 HE84 a_85 HE86
        refine nrm ?_
        refine wp_ret ?_
        refine (thn_ret ?_)
        refine ret2 HE88 rfl (rv_tmp rfl) (rv_tmp rfl) ?_
        have hF : (numR a0) = (0, false) := by
          rw [numR_def]; first | (simp [hc22, hc24, hc26]; done) | (simp [hc22, hc24, hc26]; omega)
        exact ⟨by first | (rw [hF] <;> rfl) | rfl | (rw [hF]; simp only [Ending.returned.injEq, Value.slice.injEq, true_and, and_true]; first | omega | (simp; done)) | (rw [hF]; simp; omega), HH76.below⟩
      · refine wp_skip ?_
        refine nrm ?_
        refine wp_seq ?_
        refine rg ?_
        refine pl_x HE84 HH76 (wt0 rfl) (x_move rfl) rfl rfl fun a_89 HE90 => ?_
        refine pl_x HE90 HH76 (wt0 rfl) (x_assign rfl) rfl rfl fun a_91 HE92 => ?_
        refine pl_x HE92 HH76 (wt0 rfl) (x_assign rfl) rfl rfl fun a_93 HE94 => ?_
        refine wpList_nil ?_
        clear a_83 HE84 a_89 HE90 a_91 HE92
        refine nrm ?_
        refine wp_ret ?_
        refine ret2 HE94 rfl (rv_tmp rfl) (rv_tmp rfl) ?_
        have hF : (numR a0) = ((parI a0).1, true) := by
          rw [numR_def]; first | (simp [hc22, hc24, hc26]; done) | (simp [hc22, hc24, hc26]; omega)
        exact ⟨by first | (rw [hF] <;> rfl) | rfl | (rw [hF]; simp only [Ending.returned.injEq, Value.slice.injEq, true_and, and_true]; first | omega | (simp; done)) | (rw [hF]; simp; omega), HH76.below⟩
    · refine pl_no HE71 (wtF HE71 rfl rfl rfl (not_t (decide_eq_false hc24))) rfl rfl fun a_95 HE96 => ?_
      refine pl_no HE96 (wtF HE96 rfl rfl rfl (not_t (decide_eq_false hc24))) rfl rfl fun a_97 HE98 => ?_
      refine pl_no HE98 (wtF HE98 rfl rfl rfl (not_t (decide_eq_false hc24))) rfl rfl fun a_99 HE100 => ?_
      refine pl_no HE100 (wtF HE100 rfl rfl rfl (not_t (decide_eq_false hc24))) rfl rfl fun a_101 HE102 => ?_
      refine pl_x HE102 HH61 (wt0 rfl) (x_pickT rfl (not_t (decide_eq_false hc24)) rfl) rfl rfl fun a_103 HE104 => ?_
      refine wpList_nil ?_
      clear a_23 HE24 a_25 HE26 a_27 HE28 a_29 HE30 HH12 a_57 HE58 a_62 HE63 a_64 HE65 a_66 HE67 a_68 HE69 a_70 HE71 a_95 HE96 a_97 HE98 a_99 HE100 a_101 HE102 hK60 K_59
      refine nrm ?_
      refine cndT HE104 rfl rfl ?_
      refine wp_seq ?_
      refine rg ?_
      refine pl_x HE104 HH61 (wt0 rfl) (x_assign rfl) rfl rfl fun a_105 HE106 => ?_
      refine pl_x HE106 HH61 (wt0 rfl) (x_assign rfl) rfl rfl fun a_107 HE108 => ?_
      refine wpList_nil ?_
      clear a_103 HE104 a_105 HE106
      refine nrm ?_
      refine wp_ret ?_
      refine (thn_ret ?_)
      refine ret2 HE108 rfl (rv_tmp rfl) (rv_tmp rfl) ?_
      have hF : (numR a0) = (0, false) := by
        rw [numR_def]; first | (simp [hc22, hc24]; done) | (simp [hc22, hc24]; omega)
      exact ⟨by first | (rw [hF] <;> rfl) | rfl | (rw [hF]; simp only [Ending.returned.injEq, Value.slice.injEq, true_and, and_true]; first | omega | (simp; done)) | (rw [hF]; simp; omega), HH61.below⟩

open Go.Lib in
set_option maxRecDepth 100000 in
set_option maxHeartbeats 4000000 in
theorem spec_l01Split (a0 : List UInt8) (a1 : Int) (c : UInt8) (w : World) (s0 : a0.length ≤ 2000000) (s1 : a1 = (c.toNat : Int)) :
    Calls Tryz.prog 63 #[.string (bs a0), .int .u8 a1] w fun e w' => ∃ (A0' : Option Addr) (c0' : Nat), e = .returned (.slice A0' (splitR c a0).length c0') ∧ So eTxt w' (Fr w w') A0' c0' (splitR c a0) ∧ Below w.heap.size w w' := by
  have HH1 := Held.start Nob w
  refine enter (n := 35) Tryz.func63 rfl rfl rfl fun a_2 HE3 => ?_
  refine wp_seq ?_
  refine rg ?_
  refine pl_x HE3 HH1 (wt0 rfl) (x_assign rfl) rfl rfl fun a_4 HE5 => ?_
  refine wpList_nil ?_
  clear a_2 HE3
  refine nrm ?_
  refine wp_seq ?_
  refine rg ?_
  refine pl fun K_6 hK7 => ?_
  refine st_lit (m := 0) (cs := []) (e := 9) HE5 HH1 (run_lit ts_78 HE5 (vs := []) rfl rfl (by simp [Value.cells]) rfl (by decide)) (wt0 rfl) rfl rfl fun q21 a_8 w' HE9 HH10 => hK7 _ _ ?_
  refine pl_x HE9 HH10 (wt0 rfl) (x_assign rfl) rfl rfl fun a_11 HE12 => ?_
  refine wpList_nil ?_
  clear a_4 HE5 HH1 a_8 HE9 hK7 K_6
  refine nrm ?_
  refine wp_seq ?_
  refine rg ?_
  refine pl_x HE12 HH10 (wt0 rfl) (x_assign rfl) rfl rfl fun a_13 HE14 => ?_
  refine wpList_nil ?_
  clear a_11 HE12
  refine nrm ?_
  refine wp_seq ?_
  refine wp_seq ?_
  refine rg ?_
  refine pl_x HE14 HH10 (wt0 rfl) (x_assign rfl) rfl rfl fun a_15 HE16 => ?_
  refine wpList_nil ?_
  clear a_13 HE14
  refine nrm ?_
  refine wp_block ?_
  have HH17 := Held.vecFlat (E := eTxt) (xs := []) (css := []) HH10 rfl (Nat.zero_le _) (fun i x hx => by simp at hx)
  refine lp (fun m a w' => ∃ (k : Nat) (j : Int) (l : List (List UInt8)) (A_5 : Option Addr) (c_5 : Nat) (S_5 : Nat → Prop), m = a0.length - k ∧ Env 35 [(5, .slice A_5 (List.length l) c_5), (6, .int .i64 j), (7, .int .i64 (k : Int)), (0, .string (bs a0)), (1, .int .u8 (a1))] a ∧ Held Nob w [rVec eTxt 9 S_5 A_5 c_5 l] w' ∧ (0 ≤ j ∧ j ≤ (k : Int)) ∧ (k ≤ a0.length) ∧ (splitR c a0 = l ++ preP ((a0.drop j.toNat).take (k - j.toNat)) (splitR c (a0.drop k))) ∧ (l.length ≤ k)) (a0.length - (0)) ?_ ?_
  · have E22 : ([]) = ([] : List (List UInt8)) := by
      first | rfl | simp
    exact ⟨0, 0, [], (some ⟨q21, 0, none⟩), (List.length (α := (List UInt8)) []), (fun b => b = q21), rfl, HE16.sub ⟨(by rw [E22]; rfl), rfl, (lkI rfl (by first | rfl | omega | (simp []; done))), rfl, rfl, trivial⟩, ((HH17.sel [0] (by decide) rfl).to (by first | rfl | (rw [E22]; done) | (rw [E22]; rfl) | (simp only [E22]; done) | (simp only [E22]; rfl) | (rw [E22]; simp only [List.length_set]; done))), (by first | omega | assumption | (simp; done) | simp_all), (by first | omega | assumption | (simp; done) | simp_all), (by exact spl_zero c a0), (by first | omega | assumption | (simp; done) | simp_all)⟩
  · rintro m a_18 w' ⟨k, j, l, A_5, c_5, S_5, rfl, HE19, HH20, p23_0, p23_1, p23_2, p23_3⟩
    refine wp_seq ?_
    refine wp_seq ?_
    refine rg ?_
    refine pl_x HE19 HH20 (wt0 rfl) (x_move rfl) rfl rfl fun a_21 HE22 => ?_
    refine pl_x HE22 HH20 (wt0 rfl) (x_move rfl) rfl rfl fun a_23 HE24 => ?_
    refine pl_x HE24 HH20 (wt0 rfl) (x_lenB Tryz.underlying9 rfl) rfl rfl fun a_25 HE26 => ?_
    refine pl_x HE26 HH20 (wt0 rfl) (x_lss rfl rfl) rfl rfl fun a_27 HE28 => ?_
    refine wpList_nil ?_
    clear HH10 a_15 HE16 HH17 a_18 HE19 a_21 HE22 a_23 HE24 a_25 HE26
    refine nrm ?_
    refine cnd_d HE28 rfl (fun hc24 => ?_) (fun hc24 => ?_)
    · refine wp_skip ?_
      refine nrm ?_
      refine wp_seq ?_
      refine wp_block ?_
      refine wp_seq ?_
      refine rg ?_
      refine pl_x HE28 HH20 (wt0 rfl) (x_move rfl) rfl rfl fun a_29 HE30 => ?_
      refine pl_x HE30 HH20 (wt0 rfl) (x_move rfl) rfl rfl fun a_31 HE32 => ?_
      have ke25 : k < List.length a0 := by first | omega | (simp only [List.length_cons, List.length_nil]; omega)
      obtain ⟨e25, xe25⟩ : ∃ x_, x_ = a0[k] := ⟨_, rfl⟩
      have je25 : 0 ≤ (e25.toNat : Int) ∧ (e25.toNat : Int) ≤ 255 := by have := e25.toNat_lt; omega
      refine pl_x HE32 HH20 (wt0 rfl) (x_idxB Tryz.underlying9 rfl rfl rfl ke25 xe25) rfl rfl fun a_33 HE34 => ?_
      refine pl_x HE34 HH20 (wt0 rfl) (x_move rfl) rfl rfl fun a_35 HE36 => ?_
      refine pl_x HE36 HH20 (wt0 rfl) (x_eql rfl rfl) rfl rfl fun a_37 HE38 => ?_
      refine wpList_nil ?_
      clear a_27 HE28 a_29 HE30 a_31 HE32 a_33 HE34 a_35 HE36
      refine nrm ?_
      refine cnd_e HE38 rfl (fun hc26 => ?_) (fun hc26 => ?_)
      · refine wp_seq ?_
        refine rg ?_
        refine pl_x HE38 HH20 (wt0 rfl) (x_move rfl) rfl rfl fun a_39 HE40 => ?_
        refine pl_x HE40 HH20 (wt0 rfl) (x_move rfl) rfl rfl fun a_41 HE42 => ?_
        refine pl_x HE42 HH20 (wt0 rfl) (x_move rfl) rfl rfl fun a_43 HE44 => ?_
        refine pl_x HE44 HH20 (wt0 rfl) (x_move rfl) rfl rfl fun a_45 HE46 => ?_
        refine pl_x HE46 HH20 (wt0 rfl) (x_sliceSH (k := ((j).toNat)) (k2 := k) Tryz.underlying9 rfl rfl rfl (by omega) rfl (by omega) (by first | omega | (simp only [List.length_append, List.length_cons, List.length_nil]; omega) | (simp; omega))) rfl rfl fun a_47 HE48 => ?_
        refine pl fun K_49 hK50 => ?_
        refine st_lit (m := 1) (cs := [.string (bs ((a0.drop ((j).toNat)).take (k - (j).toNat)))]) (e := 9) HE48 HH20 (run_lit ts_78 HE48 (vs := [.string (bs ((a0.drop ((j).toNat)).take (k - (j).toNat)))]) rfl rfl (by simp [Value.cells]) rfl (by decide)) (wt0 rfl) rfl rfl fun q27 a_51 w' HE52 HH53 => hK50 _ _ ?_
        refine pl fun K_54 hK55 => ?_
        refine st_app1F ((a0.drop ((j).toNat)).take (k - (j).toNat)) HE52 HH53 ts_78 [1, 0] (by decide) rfl (fun _ => (oS (by first | omega | (simp only [List.length_append, List.length_cons, List.length_nil]; omega) | (simp; omega)))) rfl rfl (by simp [Value.oneCell']) (by unfold maxLen; first | omega | (simp; done) | (simp; omega)) (by first | omega | (simp; done) | (simp; omega)) (wt0 rfl) rfl fun A28 c29 S30 a_56 w' HE57 HH58 => hK55 _ _ ?_
        refine pl_x HE57 HH58 (wt0 rfl) (x_assign rfl) rfl rfl fun a_59 HE60 => ?_
        refine wpList_nil ?_
        clear a_37 HE38 a_39 HE40 a_41 HE42 a_43 HE44 a_45 HE46 a_47 HE48 HH20 K_49 hK50 a_51 HE52 HH53 a_56 HE57 hK55 K_54
        refine nrm ?_
        refine rg ?_
        refine pl_x HE60 HH58 (wt0 rfl) (x_move rfl) rfl rfl fun a_61 HE62 => ?_
        refine pl_x HE62 HH58 (wt0 rfl) (x_add rfl rfl (by exact ⟨by omega, by omega⟩)) rfl rfl fun a_63 HE64 => ?_
        refine pl_x HE64 HH58 (wt0 rfl) (x_assign rfl) rfl rfl fun a_65 HE66 => ?_
        refine wpList_nil ?_
        clear a_59 HE60 a_61 HE62 a_63 HE64
        refine blk_n ?_
        refine nrm ?_
        refine rg ?_
        refine pl_x HE66 HH58 (wt0 rfl) (x_move rfl) rfl rfl fun a_67 HE68 => ?_
        refine pl_x HE68 HH58 (wt0 rfl) (x_add rfl rfl (by exact ⟨by omega, by omega⟩)) rfl rfl fun a_69 HE70 => ?_
        refine pl_x HE70 HH58 (wt0 rfl) (x_assign rfl) rfl rfl fun a_71 HE72 => ?_
        refine wpList_nil ?_
        clear a_65 HE66 a_67 HE68 a_69 HE70
        have E31 : ((l ++ [((a0.drop ((j).toNat)).take (k - (j).toNat))])) = (l ++ [((a0.drop ((j).toNat)).take (k - (j).toNat))]) := by
          first | rfl | simp
        exact nrm ⟨a0.length - (k + 1), (by omega), k + 1, ((k : Int) + 1), (l ++ [((a0.drop ((j).toNat)).take (k - (j).toNat))]), A28, c29, S30, rfl, HE72.sub ⟨(by rw [E31]; rfl), rfl, (lkI rfl (by first | rfl | omega | (simp [p23_0, p23_1, p23_2, p23_3, hc24, xe25, hc26]; done))), rfl, rfl, trivial⟩, ((HH58.sel [0] (by decide) rfl).to (by first | rfl | (rw [E31]; done) | (rw [E31]; rfl) | (simp only [E31]; done) | (simp only [E31]; rfl) | (rw [E31]; simp only [List.length_set]; done))), (by first | omega | assumption | (simp; done) | simp_all), (by first | omega | assumption | (simp; done) | simp_all), (by first | exact spl_ne p23_2 (by omega) (by omega) (fun hh => hc26 (by rw [xe25, hh, s1])) | exact spl_eq p23_2 (by omega) (UInt8.toNat_inj.1 (by rw [← xe25]; omega))), (by first | omega | (rw [List.length_append]; simp; omega))⟩
      · refine wp_skip ?_
        refine blk_n ?_
        refine nrm ?_
        refine rg ?_
        refine pl_x HE38 HH20 (wt0 rfl) (x_move rfl) rfl rfl fun a_73 HE74 => ?_
        refine pl_x HE74 HH20 (wt0 rfl) (x_add rfl rfl (by exact ⟨by omega, by omega⟩)) rfl rfl fun a_75 HE76 => ?_
        refine pl_x HE76 HH20 (wt0 rfl) (x_assign rfl) rfl rfl fun a_77 HE78 => ?_
        refine wpList_nil ?_
        clear a_37 HE38 a_73 HE74 a_75 HE76
        exact nrm ⟨a0.length - (k + 1), (by omega), k + 1, j, l, A_5, c_5, S_5, rfl, HE78.sub ⟨rfl, rfl, (lkI rfl (by first | rfl | omega | (simp [p23_0, p23_1, p23_2, p23_3, hc24, xe25, hc26]; done))), rfl, rfl, trivial⟩, (HH20.sel [0] (by decide) rfl), (by first | omega | assumption | (simp; done) | simp_all), (by first | omega | assumption | (simp; done) | simp_all), (by first | exact spl_ne p23_2 (by omega) (by omega) (fun hh => hc26 (by rw [xe25, hh, s1])) | exact spl_eq p23_2 (by omega) (UInt8.toNat_inj.1 (by rw [← xe25]; omega))), (by first | omega | (rw [List.length_append]; simp; omega))⟩
    · refine wp_exit ?_
      refine (thn_exit (thn_exit (blk_hit ?_)))
      refine nrm ?_
      refine wp_seq ?_
      refine rg ?_
      refine pl_x HE28 HH20 (wt0 rfl) (x_move rfl) rfl rfl fun a_79 HE80 => ?_
      refine pl_x HE80 HH20 (wt0 rfl) (x_move rfl) rfl rfl fun a_81 HE82 => ?_
      refine pl_x HE82 HH20 (wt0 rfl) (x_move rfl) rfl rfl fun a_83 HE84 => ?_
      refine pl_x HE84 HH20 (wt0 rfl) (x_sliceSL (k := ((j).toNat)) Tryz.underlying9 rfl rfl (by omega) (by first | omega | (simp only [List.length_append, List.length_cons, List.length_nil]; omega) | (simp; omega))) rfl rfl fun a_85 HE86 => ?_
      refine pl fun K_87 hK88 => ?_
      refine st_lit (m := 1) (cs := [.string (bs (a0.drop ((j).toNat)))]) (e := 9) HE86 HH20 (run_lit ts_78 HE86 (vs := [.string (bs (a0.drop ((j).toNat)))]) rfl rfl (by simp [Value.cells]) rfl (by decide)) (wt0 rfl) rfl rfl fun q32 a_89 w' HE90 HH91 => hK88 _ _ ?_
      refine pl fun K_92 hK93 => ?_
      refine st_app1F (a0.drop ((j).toNat)) HE90 HH91 ts_78 [1, 0] (by decide) rfl (fun _ => (oS (by first | omega | (simp only [List.length_append, List.length_cons, List.length_nil]; omega) | (simp; omega)))) rfl rfl (by simp [Value.oneCell']) (by unfold maxLen; first | omega | (simp; done) | (simp; omega)) (by first | omega | (simp; done) | (simp; omega)) (wt0 rfl) rfl fun A33 c34 S35 a_94 w' HE95 HH96 => hK93 _ _ ?_
      refine pl_x HE95 HH96 (wt0 rfl) (x_assign rfl) rfl rfl fun a_97 HE98 => ?_
      refine wpList_nil ?_
      clear a_27 HE28 a_79 HE80 a_81 HE82 a_83 HE84 a_85 HE86 HH20 K_87 hK88 a_89 HE90 HH91 a_94 HE95 hK93 K_92
      refine nrm ?_
      refine wp_ret ?_
      refine ret1 HE98 rfl (rv_tmp rfl) ?_
      have HH99 := HH96.vecSo
      have hF : (splitR c a0) = (l ++ [(a0.drop ((j).toNat))]) := by
        exact spl_end p23_2 (by omega)
      exact ⟨A33, c34, by first | (rw [hF] <;> rfl) | rfl | (rw [hF]; simp only [Ending.returned.injEq, Value.slice.injEq, true_and, and_true]; first | omega | (simp; done)) | (rw [hF]; simp; omega), by rw [hF]; exact (HH99.so (i := 0) rfl), HH99.below⟩

open Go.Lib in
set_option maxRecDepth 100000 in
set_option maxHeartbeats 4000000 in
theorem spec_l01Digit (a0 : Int) (w : World)  :
    Calls Tryz.prog 116 #[.int .u8 a0] w fun e w' => e = .returned (.bool (digB a0)) ∧ Below w.heap.size w w' := by
  have HH1 := Held.start Nob w
  refine enter (n := 9) Tryz.func116 rfl rfl rfl fun a_2 HE3 => ?_
  refine wp_seq ?_
  refine rg ?_
  refine pl_x HE3 HH1 (wt0 rfl) (x_assign rfl) rfl rfl fun a_4 HE5 => ?_
  refine wpList_nil ?_
  clear a_2 HE3
  refine nrm ?_
  refine wp_seq ?_
  refine rg ?_
  refine pl_x HE5 HH1 (wt0 rfl) (x_move rfl) rfl rfl fun a_6 HE7 => ?_
  refine pl_x HE7 HH1 (wt0 rfl) (x_geq rfl rfl) rfl rfl fun a_8 HE9 => ?_
  refine pl_x HE9 HH1 (wt0 rfl) (x_move rfl) rfl rfl fun a_10 HE11 => ?_
  by_cases hc21 : 48 ≤ a0
  · refine pl_x HE11 HH1 (wtT HE11 rfl rfl rfl (decide_eq_true hc21)) (x_move rfl) rfl rfl fun a_12 HE13 => ?_
    refine pl_x HE13 HH1 (wtT HE13 rfl rfl rfl (decide_eq_true hc21)) (x_leq rfl rfl) rfl rfl fun a_14 HE15 => ?_
    refine pl_x HE15 HH1 (wt0 rfl) (x_pickT rfl (decide_eq_true hc21) rfl) rfl rfl fun a_16 HE17 => ?_
    refine pl_x HE17 HH1 (wt0 rfl) (x_assign rfl) rfl rfl fun a_18 HE19 => ?_
    refine wpList_nil ?_
    clear a_4 HE5 a_6 HE7 a_8 HE9 a_10 HE11 a_12 HE13 a_14 HE15 a_16 HE17
    refine nrm ?_
    refine wp_ret ?_
    refine ret1 HE19 rfl (rv_tmp rfl) ?_
    have hF : (digB a0) = decide (a0 ≤ 57) := by
      unfold digB; first | (simp [hc21]; done) | grind
    exact ⟨by first | (rw [hF] <;> rfl) | rfl | (rw [hF]; simp only [Ending.returned.injEq, Value.slice.injEq, true_and, and_true]; first | omega | (simp; done)) | (rw [hF]; simp; omega), HH1.below⟩
  · refine pl_no HE11 (wtF HE11 rfl rfl rfl (decide_eq_false hc21)) rfl rfl fun a_20 HE21 => ?_
    refine pl_no HE21 (wtF HE21 rfl rfl rfl (decide_eq_false hc21)) rfl rfl fun a_22 HE23 => ?_
    refine pl_x HE23 HH1 (wt0 rfl) (x_pickF rfl (decide_eq_false hc21) rfl) rfl rfl fun a_24 HE25 => ?_
    refine pl_x HE25 HH1 (wt0 rfl) (x_assign rfl) rfl rfl fun a_26 HE27 => ?_
    refine wpList_nil ?_
    clear a_4 HE5 a_6 HE7 a_8 HE9 a_10 HE11 a_20 HE21 a_22 HE23 a_24 HE25
    refine nrm ?_
    refine wp_ret ?_
    refine ret1 HE27 rfl (rv_tmp rfl) ?_
    have hF : (digB a0) = false := by
      unfold digB; first | (simp [hc21]; done) | grind
    exact ⟨by first | (rw [hF] <;> rfl) | rfl | (rw [hF]; simp only [Ending.returned.injEq, Value.slice.injEq, true_and, and_true]; first | omega | (simp; done)) | (rw [hF]; simp; omega), HH1.below⟩

end Go.Proofs.YtcfdkckchbdafaaGreatDoor
