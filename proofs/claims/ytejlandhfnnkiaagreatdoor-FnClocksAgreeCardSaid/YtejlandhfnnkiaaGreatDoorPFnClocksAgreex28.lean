/- A part of the walk of FnClocksAgree: which Lean function each Go function comes to, and that the machine's call does so. Written by a program of this repo (wip/gen/xprint.py). -/
import Derived.Test.YtejlandhfnnkiaaGreatDoorPFnClocksAgreex0
import Derived.Test.YtejlandhfnnkiaaGreatDoorPFnClocksAgreex6
import Derived.Test.YtejlandhfnnkiaaGreatDoorPFnClocksAgreex7
import Derived.Test.YtejlandhfnnkiaaGreatDoorPFnClocksAgreex17
import Derived.Test.YtejlandhfnnkiaaGreatDoorPFnClocksAgreex24
namespace Go.Proofs.YtejlandhfnnkiaaGreatDoor.PFnClocksAgree
open Go.RowKit Go.Proofs.YtejlandhfnnkiaaGreatDoorW.PrintWords Go.Proofs.YtejlandhfnnkiaaGreatDoorW.PrintLast Go.Proofs.YtejlandhfnnkiaaGreatDoorW.PrintMore
attribute [local go_sem] max2_int min2_int max_two min_two max_three min_three max_four min_four   -- for this text's walks alone
set_option linter.unusedVariables false
set_option linter.unusedSimpArgs false

/-! ### impl_ParseSpan: function 29 -/
def lay_atoi_ren : Go.Shelf.Ren := ⟨fun | 172 => 87 | 244 => 94 | 245 => 95 | 247 => 101 | 279 => 102 | 280 => 103 | 281 => 104 | 282 => 105 | 287 => 112 | 316 => 113 | 171 => 85 | 205 => 114 | 321 => 120 | 322 => 121 | 243 => 92 | 246 => 96 | 283 => 106 | 284 => 107 | 285 => 108 | 286 => 109 | 129 => 116 | 317 => 115 | 318 => 117 | 319 => 118 | 320 => 119 | 337 => 122 | 338 => 123 | n => n, fun | 9 => 9 | 3 => 3 | 75 => 94 | 76 => 95 | 4 => 4 | 5 => 5 | 167 => 106 | 37 => 22 | 0 => 0 | 85 => 107 | 2 => 2 | 168 => 109 | 53 => 64 | 175 => 120 | 46 => 101 | 210 => 124 | 127 => 132 | 145 => 135 | 143 => 133 | 21 => 21 | 171 => 112 | 173 => 115 | 212 => 127 | 51 => 117 | 20 => 20 | 213 => 128 | 232 => 137 | 233 => 138 | 80 => 139 | n => n, fun | 15 => 1 | 16 => 2 | 17 => 3 | 18 => 4 | 19 => 5 | n => n⟩
theorem lay_atoi : Go.Proofs.LaysC.n172 Tryz.prog lay_atoi_ren := {
  mixed := by kernel_rfl
  f129 := Tryz.func116.trans (congrArg some (by kernel_rfl))
  f171 := Tryz.func85.trans (congrArg some (by kernel_rfl))
  f172 := Tryz.func87.trans (congrArg some (by kernel_rfl))
  f205 := Tryz.func114.trans (congrArg some (by kernel_rfl))
  f243 := Tryz.func92.trans (congrArg some (by kernel_rfl))
  f244 := Tryz.func94.trans (congrArg some (by kernel_rfl))
  f245 := Tryz.func95.trans (congrArg some (by kernel_rfl))
  f246 := Tryz.func96.trans (congrArg some (by kernel_rfl))
  f247 := Tryz.func101.trans (congrArg some (by kernel_rfl))
  f279 := Tryz.func102.trans (congrArg some (by kernel_rfl))
  f280 := Tryz.func103.trans (congrArg some (by kernel_rfl))
  f281 := Tryz.func104.trans (congrArg some (by kernel_rfl))
  f282 := Tryz.func105.trans (congrArg some (by kernel_rfl))
  f283 := Tryz.func106.trans (congrArg some (by kernel_rfl))
  f284 := Tryz.func107.trans (congrArg some (by kernel_rfl))
  f285 := Tryz.func108.trans (congrArg some (by kernel_rfl))
  f286 := Tryz.func109.trans (congrArg some (by kernel_rfl))
  f287 := Tryz.func112.trans (congrArg some (by kernel_rfl))
  f316 := Tryz.func113.trans (congrArg some (by kernel_rfl))
  f317 := Tryz.func115.trans (congrArg some (by kernel_rfl))
  f318 := Tryz.func117.trans (congrArg some (by kernel_rfl))
  f319 := Tryz.func118.trans (congrArg some (by kernel_rfl))
  f320 := Tryz.func119.trans (congrArg some (by kernel_rfl))
  f321 := Tryz.func120.trans (congrArg some (by kernel_rfl))
  f322 := Tryz.func121.trans (congrArg some (by kernel_rfl))
  f337 := Tryz.func122.trans (congrArg some (by kernel_rfl))
  f338 := Tryz.func123.trans (congrArg some (by kernel_rfl))
  t0 := Tryz.underlying0
  a0 := Tryz.isAgg0
  z0 := Tryz.sizeOf0
  v0 := Tryz.zeroValue0
  t2 := Tryz.underlying2
  a2 := Tryz.isAgg2
  z2 := Tryz.sizeOf2
  v2 := Tryz.zeroValue2
  t3 := Tryz.underlying3
  a3 := Tryz.isAgg3
  z3 := Tryz.sizeOf3
  v3 := Tryz.zeroValue3
  t4 := Tryz.underlying4
  a4 := Tryz.isAgg4
  z4 := Tryz.sizeOf4
  v4 := Tryz.zeroValue4
  t5 := Tryz.underlying5
  a5 := Tryz.isAgg5
  z5 := Tryz.sizeOf5
  v5 := Tryz.zeroValue5
  t9 := Tryz.underlying9
  a9 := Tryz.isAgg9
  z9 := Tryz.sizeOf9
  v9 := Tryz.zeroValue9
  t20 := Tryz.underlying20
  a20 := Tryz.isAgg20
  z20 := Tryz.sizeOf20
  v20 := Tryz.zeroValue20
  t21 := Tryz.underlying21
  a21 := Tryz.isAgg21
  z21 := Tryz.sizeOf21
  v21 := Tryz.zeroValue21
  t37 := Tryz.underlying22
  a37 := Tryz.isAgg22
  z37 := Tryz.sizeOf22
  v37 := Tryz.zeroValue22
  t46 := Tryz.underlying101
  a46 := Tryz.isAgg101
  z46 := Tryz.sizeOf101
  v46 := Tryz.zeroValue101
  t51 := Tryz.underlying117
  a51 := Tryz.isAgg117
  z51 := Tryz.sizeOf117
  v51 := Tryz.zeroValue117
  t53 := Tryz.underlying64
  a53 := Tryz.isAgg64
  z53 := Tryz.sizeOf64
  v53 := Tryz.zeroValue64
  t75 := Tryz.underlying94
  a75 := Tryz.isAgg94
  z75 := Tryz.sizeOf94
  v75 := Tryz.zeroValue94
  t76 := Tryz.underlying95
  a76 := Tryz.isAgg95
  z76 := Tryz.sizeOf95
  v76 := Tryz.zeroValue95
  t85 := Tryz.underlying107
  a85 := Tryz.isAgg107
  z85 := Tryz.sizeOf107
  v85 := Tryz.zeroValue107
  t127 := Tryz.underlying132
  a127 := Tryz.isAgg132
  z127 := Tryz.sizeOf132
  v127 := Tryz.zeroValue132
  t143 := Tryz.underlying133
  a143 := Tryz.isAgg133
  z143 := Tryz.sizeOf133
  v143 := Tryz.zeroValue133
  t145 := Tryz.underlying135
  a145 := Tryz.isAgg135
  z145 := Tryz.sizeOf135
  v145 := Tryz.zeroValue135
  t167 := Tryz.underlying106
  a167 := Tryz.isAgg106
  z167 := Tryz.sizeOf106
  v167 := Tryz.zeroValue106
  t168 := Tryz.underlying109
  a168 := Tryz.isAgg109
  z168 := Tryz.sizeOf109
  v168 := Tryz.zeroValue109
  t171 := Tryz.underlying112
  a171 := Tryz.isAgg112
  z171 := Tryz.sizeOf112
  v171 := Tryz.zeroValue112
  t173 := Tryz.underlying115
  a173 := Tryz.isAgg115
  z173 := Tryz.sizeOf115
  v173 := Tryz.zeroValue115
  t175 := Tryz.underlying120
  a175 := Tryz.isAgg120
  z175 := Tryz.sizeOf120
  v175 := Tryz.zeroValue120
  t210 := Tryz.underlying124
  a210 := Tryz.isAgg124
  z210 := Tryz.sizeOf124
  v210 := Tryz.zeroValue124
  t212 := Tryz.underlying127
  a212 := Tryz.isAgg127
  z212 := Tryz.sizeOf127
  v212 := Tryz.zeroValue127
  t213 := Tryz.underlying128
  a213 := Tryz.isAgg128
  z213 := Tryz.sizeOf128
  t232 := Tryz.underlying137
  a232 := Tryz.isAgg137
  z232 := Tryz.sizeOf137
  v232 := Tryz.zeroValue137
  t233 := Tryz.underlying138
  a233 := Tryz.isAgg138
  z233 := Tryz.sizeOf138
  v233 := Tryz.zeroValue138
  g15 := by kernel_rfl
  g16 := by kernel_rfl
  g17 := by kernel_rfl
  g18 := by kernel_rfl
  g19 := by kernel_rfl
  t80 := Tryz.underlying139
  a80 := Tryz.isAgg139
  z80 := Tryz.sizeOf139
  v80 := Tryz.zeroValue139
  i0 := by kernel_rfl
  i2 := by kernel_rfl
  i3 := by kernel_rfl
  i4 := by kernel_rfl
  i5 := by kernel_rfl
  i9 := by kernel_rfl
  i20 := by kernel_rfl
  i21 := by kernel_rfl
  i37 := by kernel_rfl
  i46 := by kernel_rfl
  i51 := by kernel_rfl
  i53 := by kernel_rfl
  i75 := by kernel_rfl
  i76 := by kernel_rfl
  i80 := by kernel_rfl
  i85 := by kernel_rfl
  i127 := by kernel_rfl
  i143 := by kernel_rfl
  i145 := by kernel_rfl
  i167 := by kernel_rfl
  i168 := by kernel_rfl
  i171 := by kernel_rfl
  i173 := by kernel_rfl
  i175 := by kernel_rfl
  i210 := by kernel_rfl
  i212 := by kernel_rfl
  i232 := by kernel_rfl
  i233 := by kernel_rfl
  m15 := by kernel_rfl
  m16 := by kernel_rfl
  m17 := by kernel_rfl
  m18 := by kernel_rfl
  m19 := by kernel_rfl
  c0 := by kernel_rfl
  c2 := by kernel_rfl
  c3 := by kernel_rfl
  c4 := by kernel_rfl
  c5 := by kernel_rfl
  c9 := by kernel_rfl
  c20 := by kernel_rfl
  c21 := by kernel_rfl
  c37 := by kernel_rfl
  c46 := by kernel_rfl
  c51 := by kernel_rfl
  c53 := by kernel_rfl
  c75 := by kernel_rfl
  c76 := by kernel_rfl
  c80 := by kernel_rfl
  c85 := by kernel_rfl
  c127 := by kernel_rfl
  c143 := by kernel_rfl
  c145 := by kernel_rfl
  c167 := by kernel_rfl
  c168 := by kernel_rfl
  c171 := by kernel_rfl
  c173 := by kernel_rfl
  c175 := by kernel_rfl
  c210 := by kernel_rfl
  c212 := by kernel_rfl
  c213 := by kernel_rfl
  c232 := by kernel_rfl
  c233 := by kernel_rfl }
def lay_ixb_ren : Go.Shelf.Ren := ⟨fun | 217 => 97 | 266 => 110 | n => n, fun | 9 => 9 | 5 => 5 | 3 => 3 | n => n, fun | n => n⟩
theorem lay_ixb : Go.Proofs.Lays.n217 Tryz.prog lay_ixb_ren := {
  mixed := by kernel_rfl
  f217 := Tryz.func97.trans (congrArg some (by kernel_rfl))
  f266 := Tryz.func110.trans (congrArg some (by kernel_rfl))
  t3 := Tryz.underlying3
  a3 := Tryz.isAgg3
  z3 := Tryz.sizeOf3
  v3 := Tryz.zeroValue3
  t5 := Tryz.underlying5
  a5 := Tryz.isAgg5
  z5 := Tryz.sizeOf5
  v5 := Tryz.zeroValue5
  t9 := Tryz.underlying9
  a9 := Tryz.isAgg9
  z9 := Tryz.sizeOf9
  v9 := Tryz.zeroValue9 }
/-- The library's two sentinels, in this world and in each that goes on from it. -/
def HasErr (w : World) : Prop := (∃ tp p, w.var? Tryz.prog "strconv.ErrSyntax" = some #[.iface tp p]) ∧ ∃ tp p, w.var? Tryz.prog "strconv.ErrRange" = some #[.iface tp p]
theorem var_on {P : Program} {w w' : World} {n : String} {v : Array Value} (h : w.var? P n = some v) (hb : Below w.heap.size w w') : w'.var? P n = some v := by
  unfold World.var? at *
  cases hg : P.globalNamed n with
  | none => simp [hg] at h
  | some g =>
    simp only [hg, Option.bind_some] at h ⊢
    have hlt : g < w.heap.size := by
      rcases Nat.lt_or_ge g w.heap.size with h' | h'
      · exact h'
      rw [Array.getElem?_eq_none h'] at h; simp at h
    rw [hb.block g hlt]
    exact h
theorem HasErr.on {w w' : World} (h : HasErr w) (hb : Below w.heap.size w w') : HasErr w' := by
  obtain ⟨⟨a, b, h1⟩, c, d, h2⟩ := h
  exact ⟨⟨a, b, var_on h1 hb⟩, c, d, var_on h2 hb⟩
/-- What stands ahead of the first '/', and what behind it. -/
def ixS (s : ByteArray) : Int := Go.Lib.indexByte s.data.toList 47
def cutL (s : ByteArray) : ByteArray × ByteArray × Bool := if ixS s = -1 then (s, ⟨#[]⟩, false) else (s.extract 0 (ixS s).toNat, s.extract ((ixS s).toNat + 1) s.size, true)
theorem slIndexByte.calls (s : ByteArray) (w : World) : Calls Tryz.prog 97 #[.string s, .int .u8 47] w fun e w' => e = .returned (.int .i64 (ixS s)) ∧ w' = w :=
  Any.stringslite_IndexByte lay_ixb s 47 w
theorem ixS_lt (s : ByteArray) : -1 ≤ ixS s ∧ ixS s < s.size := by
  have key : ∀ l : List UInt8, -1 ≤ Go.Lib.indexByte l 47 ∧ Go.Lib.indexByte l 47 < (l.length : Int) := by
    intro l
    induction l with
    | nil => simp [Go.Lib.indexByte]
    | cons b l ih =>
      simp only [Go.Lib.indexByte, List.length_cons]
      split
      · omega
      split <;> omega
  have h := key s.data.toList
  rw [← Go.Lib.size_eq] at h
  exact h
set_option maxHeartbeats 4000000 in
set_option maxRecDepth 100000 in
theorem slIndex.calls (s : ByteArray) (w : World) : Calls Tryz.prog 93 #[.string s, .string ⟨#[47]⟩] w fun e w' => e = .returned (.int .i64 (ixS s)) ∧ Below w.heap.size w w' := by
  have C := fun W => slIndexByte.calls s W
  by_cases hs : s.toList = [47]
  · have e1 : s = ⟨#[47]⟩ := by
      rw [ByteArray.toList_eq] at hs
      obtain ⟨⟨l⟩⟩ := s
      have e2 : l = [47] := hs
      subst e2
      rfl
    have e0 : ixS s = 0 := by rw [e1]; decide
    have h1 : (([47] : List UInt8) == s.toList) = true := beq_iff_eq.mpr hs.symm
    rw [e0]
    clear C hs e1 e0
    go_enter Tryz.func93, Tryz.ntmps93
    go_wp2
    go_ret
    exact ⟨rfl, Below.refl _ _⟩
  have h1 : (([47] : List UInt8) == s.toList) = false := beq_eq_false_iff_ne.mpr (fun e => hs e.symm)
  clear hs
  go_enter Tryz.func93, Tryz.ntmps93
  go_wp2_with (go_at_call 97; refine (C _).mono ?_; rintro e w' ⟨rfl, rfl⟩)
  go_ret
  exact ⟨rfl, Below.refl _ _⟩
set_option maxHeartbeats 4000000 in
set_option maxRecDepth 100000 in
theorem slCut.calls (s : ByteArray) (hl : s.size ≤ 281474976710656) (w : World) : Calls Tryz.prog 86 #[.string s, .string ⟨#[47]⟩] w fun e w' => e = .returned (.tuple #[.string (cutL s).1, .string (cutL s).2.1, .bool (cutL s).2.2]) ∧ Below w.heap.size w w' := by
  have C := fun W => slIndex.calls s W
  have hb := ixS_lt s
  by_cases hi : ixS s = -1
  · have e : cutL s = (s, ⟨#[]⟩, false) := by unfold cutL; rw [if_pos hi]
    rw [e]
    rw [hi] at C
    clear hb hi e
    go_enter Tryz.func86, Tryz.ntmps86
    go_wp2_with (go_at_call 93; refine (C _).mono ?_; rintro e w' ⟨rfl, hb⟩)
    go_ret3
    exact ⟨rfl, hb⟩
  obtain ⟨i, hi2⟩ := Int.eq_ofNat_of_zero_le (show 0 ≤ ixS s by omega)
  have e : cutL s = (s.extract 0 i, s.extract (i + 1) s.size, true) := by unfold cutL; rw [if_neg hi, hi2]; rfl
  have hlt : i < s.size := by omega
  rw [e]
  rw [hi2] at C
  have c1 : (0 : Int) ≤ (i : Int) := by omega
  have c2 : (i : Int) ≤ (s.size : Int) := by omega
  have c3 : (0 : Int) ≤ (i : Int) + 1 := by omega
  have c4 : (i : Int) + 1 ≤ (s.size : Int) := by omega
  have c5 : wrap64 ((i : Int) + 1) = (i : Int) + 1 := by unfold wrap64; omega
  have mixed : Tryz.prog.follows .mixedOrders = true := by kernel_rfl
  clear hb hi hi2 e hl
  go_enter Tryz.func86, Tryz.ntmps86
  go_wp2_with (go_at_call 93; refine (C _).mono ?_; rintro e w' ⟨rfl, hb⟩)
  go_region_o
  go_wp2
  go_ret3
  exact ⟨by first | rfl | simp, below_drew1 hb⟩
set_option maxHeartbeats 4000000 in
set_option maxRecDepth 100000 in
theorem strings_Cut.calls (s : ByteArray) (hl : s.size ≤ 281474976710656) (w : World) : Calls Tryz.prog 70 #[.string s, .string ⟨#[47]⟩] w fun e w' => e = .returned (.tuple #[.string (cutL s).1, .string (cutL s).2.1, .bool (cutL s).2.2]) ∧ Below w.heap.size w w' := by
  have C := fun W => slCut.calls s hl W
  generalize cutL s = c at C
  obtain ⟨c1, c2, c3⟩ := c
  clear hl
  go_enter Tryz.func70, Tryz.ntmps70
  go_wp2_with (go_at_call 86; refine (C _).mono ?_; rintro e w' ⟨rfl, hb⟩)
  go_ret3
  exact ⟨rfl, hb⟩
/-- A numeral of a whole number from 0 to m. -/
def readN (s : ByteArray) (m : Int) : Int × Bool := match Go.Lib.atoiAll s.data.toList with
  | .ok v => if 0 ≤ v ∧ v ≤ m ∧ (Go.Lib.itoa v) = s.toList then (v, true) else (0, false)
  | _ => (0, false)
set_option maxHeartbeats 8000000 in
set_option maxRecDepth 100000 in
theorem impl_readNumber.calls (s : ByteArray) (m : Int) (hm : m ≤ 1000000) (hl : s.size ≤ 281474976710656) (w : World) (ht : HasTab w) (he : HasErr w) : Calls Tryz.prog 71 #[.string s, .int .i64 m] w fun e w' => e = .returned (.tuple #[.int .i64 (readN s m).1, .bool (readN s m).2]) ∧ Below w.heap.size w w' := by
  obtain ⟨⟨tp, p, h1⟩, tp2, p2, h2⟩ := he
  cases ha : Go.Lib.atoiAll s.data.toList with
  | ok v =>
    have C0 : Calls Tryz.prog 87 #[.string s] w fun e w' => e = .returned (.tuple #[.int .i64 v, .nilIface]) ∧ Below w.heap.size w w' := (Any.strconv_Atoi_ok lay_atoi s (by omega) v ha w).mono fun e w' ⟨h, h'⟩ => ⟨h, by
      rcases h' with rfl | ⟨t, rfl⟩
      · exact Below.refl _ _
      exact Go.Lib.bytesWorld_below _ _ _⟩
    have C1 := fun W => impl_within.calls v 0 m (decide (0 ≤ v ∧ v ≤ m)) W (within_val v 0 m)
    by_cases c : 0 ≤ v ∧ v ≤ m
    · rw [decide_eq_true c] at C1
      have C2 := fun W (hT : HasTab W) => strconv_Itoa.calls v (by omega) (by omega) W hT
      have et : (⟨(Go.Lib.itoa v).toArray⟩ : ByteArray).toList = Go.Lib.itoa v := by rw [ByteArray.toList_eq]
      generalize hT : (⟨(Go.Lib.itoa v).toArray⟩ : ByteArray) = T at C2 et
      by_cases q : Go.Lib.itoa v = s.toList
      · have e : readN s m = (v, true) := by unfold readN; rw [ha]; exact if_pos ⟨c.1, c.2, q⟩
        rw [e]
        have n1 : (T.toList == s.toList) = true := by rw [et]; exact beq_iff_eq.mpr q
        have n2 : (T.toList != s.toList) = false := by rw [et]; exact bne_eq_false_iff_eq.mpr q
        clear q e et hT c ha h1 h2 hl hm
        go_enter Tryz.func71, Tryz.ntmps71
        go_wp2_with (first
          | (go_at_call 87; refine C0.mono ?_; rintro e w1 ⟨rfl, hb1⟩)
          | (go_at_call 56; refine (C1 _).mono ?_; rintro e w2 ⟨rfl, hd2⟩; have hb2 := hd2.below; have C3 := C2 w2 (ht.on (below_step hb1 hb2)))
          | (go_at_call 85; refine C3.mono ?_; rintro e w3 ⟨rfl, hb3⟩))
        go_ret2
        exact ⟨rfl, below_step (below_step hb1 hb2) hb3⟩
      have e : readN s m = (0, false) := by unfold readN; rw [ha]; exact if_neg (fun x => q x.2.2)
      rw [e]
      have n1 : (T.toList == s.toList) = false := by rw [et]; exact beq_eq_false_iff_ne.mpr q
      have n2 : (T.toList != s.toList) = true := by rw [et]; exact bne_iff_ne.mpr q
      clear q e et hT c ha h1 h2 hl hm
      go_enter Tryz.func71, Tryz.ntmps71
      go_wp2_with (first
        | (go_at_call 87; refine C0.mono ?_; rintro e w1 ⟨rfl, hb1⟩)
        | (go_at_call 56; refine (C1 _).mono ?_; rintro e w2 ⟨rfl, hd2⟩; have hb2 := hd2.below; have C3 := C2 w2 (ht.on (below_step hb1 hb2)))
        | (go_at_call 85; refine C3.mono ?_; rintro e w3 ⟨rfl, hb3⟩))
      go_ret2
      exact ⟨rfl, below_step (below_step hb1 hb2) hb3⟩
    have e : readN s m = (0, false) := by unfold readN; rw [ha]; exact if_neg (fun x => c ⟨x.1, x.2.1⟩)
    rw [e]
    rw [decide_eq_false c] at C1
    clear e c ha h1 h2 hl hm
    go_enter Tryz.func71, Tryz.ntmps71
    go_wp2_with (first
      | (go_at_call 87; refine C0.mono ?_; rintro e w1 ⟨rfl, hb1⟩)
      | (go_at_call 56; refine (C1 _).mono ?_; rintro e w2 ⟨rfl, hd2⟩; have hb2 := hd2.below))
    go_ret2
    exact ⟨rfl, below_step hb1 hb2⟩
  | range =>
    have e : readN s m = (0, false) := by unfold readN; rw [ha]
    rw [e]
    have C0 := Any.strconv_Atoi_range_var lay_atoi s hl ha tp2 p2 w h2
    clear e ha h1 h2 hl hm ht
    go_enter Tryz.func71, Tryz.ntmps71
    go_wp2_with (first | (go_at_call 87; refine C0.mono ?_; rintro e w1 ⟨N, rfl, -, -, hb1⟩))
    go_ret2
    exact ⟨rfl, hb1⟩
  | _ =>
    have e : readN s m = (0, false) := by unfold readN; rw [ha]
    rw [e]
    have C0 := Any.strconv_Atoi_syntax_var lay_atoi s hl ha tp p w h1
    clear e ha h1 h2 hl hm ht
    go_enter Tryz.func71, Tryz.ntmps71
    go_wp2_with (first | (go_at_call 87; refine C0.mono ?_; rintro e w1 ⟨N, rfl, -, -, hb1⟩))
    go_ret2
    exact ⟨rfl, hb1⟩
def impl_ParseSpan.f (k : Nat) (s : ByteArray) : Option (Int × Int × Bool) := if (readN (cutL s).1 1000000).2 = true then (if (readN (cutL s).2.1 10000).2 = true then (impl_IsSpan.f k (readN (cutL s).1 1000000).1 (readN (cutL s).2.1 10000).1).bind fun t => if t = true then some ((readN (cutL s).1 1000000).1, (readN (cutL s).2.1 10000).1, true) else some (0, 0, false) else some (0, 0, false)) else some (0, 0, false)
set_option maxHeartbeats 8000000 in
set_option maxRecDepth 100000 in
theorem impl_ParseSpan.calls (k : Nat) (s : ByteArray) (r1 r2 : Int) (r3 : Bool) (w : World) (hl : s.size ≤ 281474976710656) (ht : HasTab w) (he : HasErr w) (h : impl_ParseSpan.f k s = some (r1, r2, r3)) :
    Calls Tryz.prog 29 #[.string s] w fun e w' => e = .returned (.tuple #[.agg #[.int .i64 r1, .int .i64 r2], .bool r3]) ∧ Below w.heap.size w w' := by
  have CC := fun W => strings_Cut.calls s hl W
  have hs : (cutL s).1.size ≤ s.size ∧ (cutL s).2.1.size ≤ s.size := by
    unfold cutL
    split
    · exact ⟨Nat.le_refl _, Nat.zero_le _⟩
    simp only [ByteArray.size_extract]; omega
  unfold impl_ParseSpan.f at h
  generalize cutL s = c at CC hs h
  obtain ⟨top, bot, fnd⟩ := c
  dsimp only at CC hs h
  have R1 := fun W (hb : Below w.heap.size w W) => impl_readNumber.calls top 1000000 (by omega) (by omega) W (ht.on hb) (he.on hb)
  have R2 := fun W (hb : Below w.heap.size w W) => impl_readNumber.calls bot 10000 (by omega) (by omega) W (ht.on hb) (he.on hb)
  generalize readN top 1000000 = x at R1 h
  generalize readN bot 10000 = y at R2 h
  obtain ⟨n, one⟩ := x
  obtain ⟨d, two⟩ := y
  dsimp only at R1 R2 h
  obtain ⟨ok, hok, hr⟩ : ∃ ok : Bool, (one = true → two = true → impl_IsSpan.f k n d = some ok) ∧ (r1, r2, r3) = (if one = true ∧ two = true ∧ ok = true then (n, d, true) else (0, 0, false)) := by
    cases one with
    | false => rw [if_neg (by simp)] at h; exact ⟨false, by simp, by rw [if_neg (by simp)]; exact (Option.some.inj h).symm⟩
    | true =>
      cases two with
      | false => rw [if_pos rfl, if_neg (by simp)] at h; exact ⟨false, by simp, by rw [if_neg (by simp)]; exact (Option.some.inj h).symm⟩
      | true =>
        rw [if_pos rfl, if_pos rfl] at h
        obtain ⟨t, e1, h⟩ := Option.bind_eq_some_iff.mp h
        refine ⟨t, fun _ _ => e1, ?_⟩
        cases t with
        | false => rw [if_neg (by simp)]; rw [if_neg (by simp)] at h; exact (Option.some.inj h).symm
        | true => rw [if_pos (by simp)]; rw [if_pos rfl] at h; exact (Option.some.inj h).symm
  clear h hl hs ht he
  have hu := Tryz.underlying30
  have CS := fun (o : one = true) (o2 : two = true) W => impl_IsSpan.calls k n d ok W (hok o o2)
  clear hok
  cases one with
  | false =>
    rw [if_neg (by simp)] at hr
    simp only [Prod.mk.injEq] at hr
    obtain ⟨rfl, rfl, rfl⟩ := hr
    go_enter Tryz.func29, Tryz.ntmps29
    go_upto_region 1 with (fail)
    refine Own.gen (Own.boxes1 w) ?_
    intro w1 HO
    generalize w.heap.size = g2 at HO ⊢
    go_upto_region 2 with (first | (go_at_call 70; refine (CC _).mono ?_; rintro e w2 ⟨rfl, hb⟩; replace HO := HO.call hb; clear hb CC))
    have R1' := R1 _ HO.below
    clear R1
    go_upto_region 3 with (first | (go_at_call 71; refine R1'.mono ?_; rintro e w3 ⟨rfl, hb⟩; replace HO := HO.call hb; clear hb R1'))
    have R2' := R2 _ HO.below
    clear R2
    go_upto_region 4 with (first | (go_at_call 71; refine R2'.mono ?_; rintro e w4 ⟨rfl, hb⟩; replace HO := HO.call hb; clear hb R2'))
    go_upto_region 5 with (fail)
    refine Own.gen (HO.alloc _) ?_
    clear HO
    intro w5 HO
    generalize w4.heap.size = g11 at HO ⊢
    replace HO : Own w [(g2, .cells #[.int .i64 0, .int .i64 0] 30 (0, 0)), (g11, .cells #[.int .i64 n, .int .i64 d] 30 (0, 0))] w5 := HO
    clear w4
    have Z2 := Aside0.mk (HO.at_ 0 g2 _ rfl).2
    have L2 := Aside0.mk (HO.at_ 0 g2 _ rfl).1
    have B2 := Aside0.mk HO.below
    obtain ⟨p2_0, p2_1, f2_0, f2_1⟩ := HO.c2 0 rfl
    have n2 : g2 ≠ g11 := HO.ne (i := 0) (j := 1) rfl rfl (by decide)
    clear HO
    go_wp2
    have G2 := blk_put (cs' := #[.int .i64 0, .int .i64 0]) (blk_put (cs' := #[.int .i64 0, .int .i64 0]) Z2.1 0 (.int .i64 0) rfl) 1 (.int .i64 0) rfl
    refine bodyPost_ret (results_ct rfl _ _ g2 30 #[.int .i64 0, .int .i64 0] (0, 0) _ rfl G2 Tryz.underlying30 rfl (by kernel_rfl)) rfl ?_
    exact ⟨rfl, below_set (below_set B2.1 L2.1) L2.1⟩
  | true =>
    cases two with
    | false =>
      rw [if_neg (by simp)] at hr
      simp only [Prod.mk.injEq] at hr
      obtain ⟨rfl, rfl, rfl⟩ := hr
      go_enter Tryz.func29, Tryz.ntmps29
      go_upto_region 1 with (fail)
      refine Own.gen (Own.boxes1 w) ?_
      intro w1 HO
      generalize w.heap.size = g2 at HO ⊢
      go_upto_region 2 with (first | (go_at_call 70; refine (CC _).mono ?_; rintro e w2 ⟨rfl, hb⟩; replace HO := HO.call hb; clear hb CC))
      have R1' := R1 _ HO.below
      clear R1
      go_upto_region 3 with (first | (go_at_call 71; refine R1'.mono ?_; rintro e w3 ⟨rfl, hb⟩; replace HO := HO.call hb; clear hb R1'))
      have R2' := R2 _ HO.below
      clear R2
      go_upto_region 4 with (first | (go_at_call 71; refine R2'.mono ?_; rintro e w4 ⟨rfl, hb⟩; replace HO := HO.call hb; clear hb R2'))
      go_upto_region 5 with (fail)
      refine Own.gen (HO.alloc _) ?_
      clear HO
      intro w5 HO
      generalize w4.heap.size = g11 at HO ⊢
      replace HO : Own w [(g2, .cells #[.int .i64 0, .int .i64 0] 30 (0, 0)), (g11, .cells #[.int .i64 n, .int .i64 d] 30 (0, 0))] w5 := HO
      clear w4
      have Z2 := Aside0.mk (HO.at_ 0 g2 _ rfl).2
      have L2 := Aside0.mk (HO.at_ 0 g2 _ rfl).1
      have B2 := Aside0.mk HO.below
      obtain ⟨p2_0, p2_1, f2_0, f2_1⟩ := HO.c2 0 rfl
      have n2 : g2 ≠ g11 := HO.ne (i := 0) (j := 1) rfl rfl (by decide)
      clear HO
      go_wp2
      have G2 := blk_put (cs' := #[.int .i64 0, .int .i64 0]) (blk_put (cs' := #[.int .i64 0, .int .i64 0]) Z2.1 0 (.int .i64 0) rfl) 1 (.int .i64 0) rfl
      refine bodyPost_ret (results_ct rfl _ _ g2 30 #[.int .i64 0, .int .i64 0] (0, 0) _ rfl G2 Tryz.underlying30 rfl (by kernel_rfl)) rfl ?_
      exact ⟨rfl, below_set (below_set B2.1 L2.1) L2.1⟩
    | true =>
      replace CS := CS rfl rfl
      cases ok with
      | false =>
        rw [if_neg (by simp)] at hr
        simp only [Prod.mk.injEq] at hr
        obtain ⟨rfl, rfl, rfl⟩ := hr
        go_enter Tryz.func29, Tryz.ntmps29
        go_upto_region 1 with (fail)
        refine Own.gen (Own.boxes1 w) ?_
        intro w1 HO
        generalize w.heap.size = g2 at HO ⊢
        go_upto_region 2 with (first | (go_at_call 70; refine (CC _).mono ?_; rintro e w2 ⟨rfl, hb⟩; replace HO := HO.call hb; clear hb CC))
        have R1' := R1 _ HO.below
        clear R1
        go_upto_region 3 with (first | (go_at_call 71; refine R1'.mono ?_; rintro e w3 ⟨rfl, hb⟩; replace HO := HO.call hb; clear hb R1'))
        have R2' := R2 _ HO.below
        clear R2
        go_upto_region 4 with (first | (go_at_call 71; refine R2'.mono ?_; rintro e w4 ⟨rfl, hb⟩; replace HO := HO.call hb; clear hb R2'))
        go_upto_region 5 with (fail)
        refine Own.gen (HO.alloc _) ?_
        clear HO
        intro w5 HO
        generalize w4.heap.size = g11 at HO ⊢
        replace HO : Own w [(g2, .cells #[.int .i64 0, .int .i64 0] 30 (0, 0)), (g11, .cells #[.int .i64 n, .int .i64 d] 30 (0, 0))] w5 := HO
        clear w4
        obtain ⟨p11_0, p11_1, f11_0, f11_1⟩ := HO.c2 1 rfl
        have Z2 := Aside0.mk (HO.at_ 0 g2 _ rfl).2
        have L2 := Aside0.mk (HO.at_ 0 g2 _ rfl).1
        have CS' := CS w5
        clear CS
        go_upto_region 6 with (first | (go_at_call 31; refine CS'.mono ?_; rintro e w6 ⟨rfl, hb⟩; replace HO := HO.call hb; clear hb CS' p11_0 p11_1 f11_0 f11_1))
        replace Z2 := Aside0.mk (HO.at_ 0 g2 _ rfl).2
        have B2 := Aside0.mk HO.below
        obtain ⟨p2_0, p2_1, f2_0, f2_1⟩ := HO.c2 0 rfl
        obtain ⟨p11_0, p11_1, f11_0, f11_1⟩ := HO.c2 1 rfl
        clear HO
        go_wp2
        have G2 := blk_put (cs' := #[.int .i64 0, .int .i64 0]) (blk_put (cs' := #[.int .i64 0, .int .i64 0]) Z2.1 0 (.int .i64 0) rfl) 1 (.int .i64 0) rfl
        refine bodyPost_ret (results_ct rfl _ _ g2 30 #[.int .i64 0, .int .i64 0] (0, 0) _ rfl G2 Tryz.underlying30 rfl (by kernel_rfl)) rfl ?_
        exact ⟨rfl, below_set (below_set B2.1 L2.1) L2.1⟩
      | true =>
        rw [if_pos (by simp)] at hr
        simp only [Prod.mk.injEq] at hr
        obtain ⟨e1, e2, rfl⟩ := hr
        obtain rfl := e1.symm
        obtain rfl := e2.symm
        clear e1 e2
        go_enter Tryz.func29, Tryz.ntmps29
        go_upto_region 1 with (fail)
        refine Own.gen (Own.boxes1 w) ?_
        intro w1 HO
        generalize w.heap.size = g2 at HO ⊢
        go_upto_region 2 with (first | (go_at_call 70; refine (CC _).mono ?_; rintro e w2 ⟨rfl, hb⟩; replace HO := HO.call hb; clear hb CC))
        have R1' := R1 _ HO.below
        clear R1
        go_upto_region 3 with (first | (go_at_call 71; refine R1'.mono ?_; rintro e w3 ⟨rfl, hb⟩; replace HO := HO.call hb; clear hb R1'))
        have R2' := R2 _ HO.below
        clear R2
        go_upto_region 4 with (first | (go_at_call 71; refine R2'.mono ?_; rintro e w4 ⟨rfl, hb⟩; replace HO := HO.call hb; clear hb R2'))
        go_upto_region 5 with (fail)
        refine Own.gen (HO.alloc _) ?_
        clear HO
        intro w5 HO
        generalize w4.heap.size = g11 at HO ⊢
        replace HO : Own w [(g2, .cells #[.int .i64 0, .int .i64 0] 30 (0, 0)), (g11, .cells #[.int .i64 n, .int .i64 d] 30 (0, 0))] w5 := HO
        clear w4
        obtain ⟨p11_0, p11_1, f11_0, f11_1⟩ := HO.c2 1 rfl
        have Z2 := Aside0.mk (HO.at_ 0 g2 _ rfl).2
        have L2 := Aside0.mk (HO.at_ 0 g2 _ rfl).1
        have CS' := CS w5
        clear CS
        go_upto_region 7 with (first | (go_at_call 31; refine CS'.mono ?_; rintro e w6 ⟨rfl, hb⟩; replace HO := HO.call hb; clear hb CS' p11_0 p11_1 f11_0 f11_1))
        replace Z2 := Aside0.mk (HO.at_ 0 g2 _ rfl).2
        have B2 := Aside0.mk HO.below
        obtain ⟨p2_0, p2_1, f2_0, f2_1⟩ := HO.c2 0 rfl
        obtain ⟨p11_0, p11_1, f11_0, f11_1⟩ := HO.c2 1 rfl
        clear HO
        go_wp2
        have G2 := blk_put (cs' := #[.int .i64 n, .int .i64 d]) (blk_put (cs' := #[.int .i64 n, .int .i64 0]) Z2.1 0 (.int .i64 n) rfl) 1 (.int .i64 d) rfl
        refine bodyPost_ret (results_ct rfl _ _ g2 30 #[.int .i64 n, .int .i64 d] (0, 0) _ rfl G2 Tryz.underlying30 rfl (by kernel_rfl)) rfl ?_
        exact ⟨rfl, below_set (below_set B2.1 L2.1) L2.1⟩

end Go.Proofs.YtejlandhfnnkiaaGreatDoor.PFnClocksAgree
