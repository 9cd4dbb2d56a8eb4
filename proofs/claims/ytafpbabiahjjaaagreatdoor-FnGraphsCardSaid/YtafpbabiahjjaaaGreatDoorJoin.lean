/- strings.Join at this program: the library's contract, laid. -/
import Derived.Shelf.Strings.OnBuilder
import Derived.Test.YtafpbabiahjjaaaGreatDoorItoa
import Derived.Test.YtafpbabiahjjaaaGreatDoorWWords
namespace Go.Proofs.YtafpbabiahjjaaaGreatDoorW.PrintWords
open Go.RowKit Go.Shelf
def lays156_ren : Go.Shelf.Ren := ⟨fun | 156 => 75 | 165 => 85 | 166 => 86 | 169 => 87 | 240 => 93 | 241 => 94 | 276 => 99 | 277 => 100 | n => n, fun | 31 => 51 | 9 => 9 | 3 => 3 | 4 => 4 | 0 => 0 | 20 => 20 | 72 => 77 | 76 => 80 | 70 => 75 | 37 => 22 | 75 => 79 | 127 => 88 | 164 => 95 | 5 => 5 | 80 => 82 | n => n, fun | n => n⟩
theorem lays156 : Go.Proofs.Lays.n156 Tryz.prog lays156_ren := {
  mixed := by kernel_rfl
  f156 := Tryz.func75.trans (congrArg some (by kernel_rfl))
  f165 := Tryz.func85.trans (congrArg some (by kernel_rfl))
  f166 := Tryz.func86.trans (congrArg some (by kernel_rfl))
  f169 := Tryz.func87.trans (congrArg some (by kernel_rfl))
  f240 := Tryz.func93.trans (congrArg some (by kernel_rfl))
  f241 := Tryz.func94.trans (congrArg some (by kernel_rfl))
  f276 := Tryz.func99.trans (congrArg some (by kernel_rfl))
  f277 := Tryz.func100.trans (congrArg some (by kernel_rfl))
  t0 := Tryz.underlying0
  a0 := Tryz.isAgg0
  z0 := Tryz.sizeOf0
  v0 := Tryz.zeroValue0
  t3 := Tryz.underlying3
  a3 := Tryz.isAgg3
  z3 := Tryz.sizeOf3
  v3 := Tryz.zeroValue3
  t4 := Tryz.underlying4
  a4 := Tryz.isAgg4
  z4 := Tryz.sizeOf4
  v4 := Tryz.zeroValue4
  t9 := Tryz.underlying9
  a9 := Tryz.isAgg9
  z9 := Tryz.sizeOf9
  v9 := Tryz.zeroValue9
  t20 := Tryz.underlying20
  a20 := Tryz.isAgg20
  z20 := Tryz.sizeOf20
  v20 := Tryz.zeroValue20
  t31 := Tryz.underlying51
  a31 := Tryz.isAgg51
  z31 := Tryz.sizeOf51
  v31 := Tryz.zeroValue51
  t37 := Tryz.underlying22
  a37 := Tryz.isAgg22
  z37 := Tryz.sizeOf22
  v37 := Tryz.zeroValue22
  t70 := Tryz.underlying75
  a70 := Tryz.isAgg75
  z70 := Tryz.sizeOf75
  v70 := Tryz.zeroValue75
  t72 := Tryz.underlying77
  a72 := Tryz.isAgg77
  z72 := Tryz.sizeOf77
  v72 := Tryz.zeroValue77
  t75 := Tryz.underlying79
  a75 := Tryz.isAgg79
  z75 := Tryz.sizeOf79
  v75 := Tryz.zeroValue79
  t76 := Tryz.underlying80
  a76 := Tryz.isAgg80
  z76 := Tryz.sizeOf80
  v76 := Tryz.zeroValue80
  t127 := Tryz.underlying88
  a127 := Tryz.isAgg88
  z127 := Tryz.sizeOf88
  v127 := Tryz.zeroValue88
  t164 := Tryz.underlying95
  a164 := Tryz.isAgg95
  z164 := Tryz.sizeOf95
  v164 := Tryz.zeroValue95 }
theorem Builder_Extra_156 : Builder.Extra Tryz.prog lays156_ren := {
  sizeBuilder := by kernel_rfl
  liesBuilder := by kernel_rfl
  t5 := Tryz.underlying5
  a5 := Tryz.isAgg5
  z5 := Tryz.sizeOf5
  v5 := Tryz.zeroValue5
  infoByte := by kernel_rfl
  cellsByte := by kernel_rfl
  sizeByte := by kernel_rfl
  neB5 := by decide }

theorem strings_Join.calls (A0 : Option Addr) (c0 : Nat) (l0 : List ByteArray) (a1 : ByteArray) (w : World) (hr0 : Kd.C Kd.string w A0 l0.length l0) (hc0 : l0.length ≤ c0)
    (h1 : l0.length ≤ 140737488355328) (h2 : (Lib.join (l0.map (·.data.toList)) a1.data.toList).length ≤ 140737488355328) :
    Calls Tryz.prog 75 #[.slice A0 l0.length c0, .string a1] w fun e w' => e = .returned (.string ⟨(Lib.join (l0.map (·.data.toList)) a1.data.toList).toArray⟩) ∧ Below w.heap.size w w' := by
  cases l0 with
  | nil =>
    refine (Any.strings_Join_none lays156 Builder_Extra_156 A0 c0 a1 w).mono ?_
    rintro e w' ⟨rfl, rfl⟩
    exact ⟨by simp [Lib.join_nil], Below.refl _ _⟩
  | cons x r =>
    obtain ⟨ad, hA, hc⟩ := Kd.at_string hr0 0 (by omega) (by simp)
    have cells : ∀ (j : Nat) y, (x :: r)[j]? = some y → w.cell? (ad.add j) = some (.string y) := by
      intro j y hj
      have hlt : j < (x :: r).length := by
        rcases Nat.lt_or_ge j (x :: r).length with g | g
        · exact g
        · rw [List.getElem?_eq_none g] at hj; cases hj
      obtain ⟨ad', hA', hc'⟩ := Kd.at_string hr0 (j : Int) (by omega) (by omega)
      rw [hA] at hA'
      obtain rfl := Option.some.inj hA'
      rw [Int.toNat_natCast] at hc'
      rw [hc']
      have : rdOf ByteArray.empty (x :: r) (j : Int) = y := by simp [rdOf, hj]
      rw [this]
    have h0 := cells 0 x rfl
    obtain ⟨bk, o, sp⟩ := ad
    have hsp : sp = none ∧ bk < w.heap.size := by
      rw [Addr.add_zero'] at h0
      simp only [World.cell?] at h0
      cases hh : w.heap[bk]? with
      | none => rw [hh] at h0; cases h0
      | some ob =>
        rw [hh] at h0
        refine ⟨?_, ?_⟩
        · cases ob with
          | cells c t f =>
            cases sp with
            | none => rfl
            | some _ => simp at h0
          | _ => cases h0
        · rcases Nat.lt_or_ge bk w.heap.size with g | g
          · exact g
          · rw [Array.getElem?_eq_none g] at hh; cases hh
    obtain ⟨rfl, hbk⟩ := hsp
    subst hA
    have cells' : ∀ (j : Nat) y, (x :: r)[j]? = some y → w.cell? ⟨bk, o + j, none⟩ = some (.string y) := by
      intro j y hj
      have := cells j y hj
      by_cases h0 : j = 0
      · subst h0; rw [Addr.add_zero'] at this; exact this
      · simpa [Addr.add, h0] using this
    exact Any.strings_Join lays156 Builder_Extra_156 bk o c0 (x :: r) a1 w cells' hbk h1 hc0 h2
end Go.Proofs.YtafpbabiahjjaaaGreatDoorW.PrintWords
