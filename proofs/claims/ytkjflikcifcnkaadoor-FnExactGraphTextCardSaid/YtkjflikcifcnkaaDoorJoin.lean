/- strings.Join at this program: the library's contract, laid. -/
import Derived.Shelf.Strings.OnBuilder
import Derived.Test.YtkjflikcifcnkaaDoorItoa
import Derived.Test.YtkjflikcifcnkaaDoorWWords
namespace Go.Proofs.YtkjflikcifcnkaaDoorW.PrintWords
open Go.RowKit Go.Shelf
def lays156_ren : Go.Shelf.Ren := ⟨fun | 156 => 39 | 165 => 44 | 166 => 45 | 169 => 46 | 240 => 51 | 241 => 52 | 276 => 62 | 277 => 63 | n => n, fun | 31 => 40 | 9 => 9 | 3 => 3 | 4 => 4 | 0 => 0 | 20 => 20 | 72 => 61 | 76 => 57 | 70 => 59 | 37 => 51 | 75 => 56 | 127 => 66 | 164 => 79 | 5 => 5 | 80 => 63 | n => n, fun | n => n⟩
theorem lays156 : Go.Proofs.Lays.n156 Tryd.prog lays156_ren := {
  mixed := by kernel_rfl
  f156 := Tryd.func39.trans (congrArg some (by kernel_rfl))
  f165 := Tryd.func44.trans (congrArg some (by kernel_rfl))
  f166 := Tryd.func45.trans (congrArg some (by kernel_rfl))
  f169 := Tryd.func46.trans (congrArg some (by kernel_rfl))
  f240 := Tryd.func51.trans (congrArg some (by kernel_rfl))
  f241 := Tryd.func52.trans (congrArg some (by kernel_rfl))
  f276 := Tryd.func62.trans (congrArg some (by kernel_rfl))
  f277 := Tryd.func63.trans (congrArg some (by kernel_rfl))
  t0 := Tryd.underlying0
  a0 := Tryd.isAgg0
  z0 := Tryd.sizeOf0
  v0 := Tryd.zeroValue0
  t3 := Tryd.underlying3
  a3 := Tryd.isAgg3
  z3 := Tryd.sizeOf3
  v3 := Tryd.zeroValue3
  t4 := Tryd.underlying4
  a4 := Tryd.isAgg4
  z4 := Tryd.sizeOf4
  v4 := Tryd.zeroValue4
  t9 := Tryd.underlying9
  a9 := Tryd.isAgg9
  z9 := Tryd.sizeOf9
  v9 := Tryd.zeroValue9
  t20 := Tryd.underlying20
  a20 := Tryd.isAgg20
  z20 := Tryd.sizeOf20
  v20 := Tryd.zeroValue20
  t31 := Tryd.underlying40
  a31 := Tryd.isAgg40
  z31 := Tryd.sizeOf40
  v31 := Tryd.zeroValue40
  t37 := Tryd.underlying51
  a37 := Tryd.isAgg51
  z37 := Tryd.sizeOf51
  v37 := Tryd.zeroValue51
  t70 := Tryd.underlying59
  a70 := Tryd.isAgg59
  z70 := Tryd.sizeOf59
  v70 := Tryd.zeroValue59
  t72 := Tryd.underlying61
  a72 := Tryd.isAgg61
  z72 := Tryd.sizeOf61
  v72 := Tryd.zeroValue61
  t75 := Tryd.underlying56
  a75 := Tryd.isAgg56
  z75 := Tryd.sizeOf56
  v75 := Tryd.zeroValue56
  t76 := Tryd.underlying57
  a76 := Tryd.isAgg57
  z76 := Tryd.sizeOf57
  v76 := Tryd.zeroValue57
  t127 := Tryd.underlying66
  a127 := Tryd.isAgg66
  z127 := Tryd.sizeOf66
  v127 := Tryd.zeroValue66
  t164 := Tryd.underlying79
  a164 := Tryd.isAgg79
  z164 := Tryd.sizeOf79
  v164 := Tryd.zeroValue79 }
theorem Builder_Extra_156 : Builder.Extra Tryd.prog lays156_ren := {
  sizeBuilder := by kernel_rfl
  liesBuilder := by kernel_rfl
  t5 := Tryd.underlying5
  a5 := Tryd.isAgg5
  z5 := Tryd.sizeOf5
  v5 := Tryd.zeroValue5
  infoByte := by kernel_rfl
  cellsByte := by kernel_rfl
  sizeByte := by kernel_rfl
  neB5 := by decide }


theorem strings_Join.calls (A0 : Option Addr) (c0 : Nat) (l0 : List ByteArray) (a1 : ByteArray) (w : World) (hr0 : Kd.C Kd.string w A0 l0.length l0) (hc0 : l0.length ≤ c0)
    (h1 : l0.length ≤ 140737488355328) (h2 : (Lib.join (l0.map (·.data.toList)) a1.data.toList).length ≤ 140737488355328) :
    Calls Tryd.prog 39 #[.slice A0 l0.length c0, .string a1] w fun e w' => e = .returned (.string ⟨(Lib.join (l0.map (·.data.toList)) a1.data.toList).toArray⟩) ∧ Below w.heap.size w w' := by
  cases l0 with
  | nil =>
    refine (Any.strings_Join_none lays156 Builder_Extra_156 A0 c0 a1 w).mono ?_
    rintro e w' ⟨rfl, rfl⟩
    exact ⟨by simp [Lib.join_nil], Below.refl _ _⟩
  | cons x r =>
    obtain ⟨ad, hA, hc⟩ := Kd.at_string hr0 0 (by omega) (by simp)
    have cells : ∀ (j : Nat) y, (x :: r)[j]? = some y → w.cell? (ad.add j) = some (.string y) := by
      intro j y hj
      have hlt : j < (x :: r).length := by
        rcases Nat.lt_or_ge j (x :: r).length with g | g
        · exact g
        · rw [List.getElem?_eq_none g] at hj; cases hj
      obtain ⟨ad', hA', hc'⟩ := Kd.at_string hr0 (j : Int) (by omega) (by omega)
      rw [hA] at hA'
      obtain rfl := Option.some.inj hA'
      rw [Int.toNat_natCast] at hc'
      rw [hc']
      have : rdOf ByteArray.empty (x :: r) (j : Int) = y := by simp [rdOf, hj]
      rw [this]
    have h0 := cells 0 x rfl
    obtain ⟨bk, o, sp⟩ := ad
    have hsp : sp = none ∧ bk < w.heap.size := by
      rw [Addr.add_zero'] at h0
      simp only [World.cell?] at h0
      cases hh : w.heap[bk]? with
      | none => rw [hh] at h0; cases h0
      | some ob =>
        rw [hh] at h0
        refine ⟨?_, ?_⟩
        · cases ob with
          | cells c t f =>
            cases sp with
            | none => rfl
            | some _ => simp at h0
          | _ => cases h0
        · rcases Nat.lt_or_ge bk w.heap.size with g | g
          · exact g
          · rw [Array.getElem?_eq_none g] at hh; cases hh
    obtain ⟨rfl, hbk⟩ := hsp
    subst hA
    have cells' : ∀ (j : Nat) y, (x :: r)[j]? = some y → w.cell? ⟨bk, o + j, none⟩ = some (.string y) := by
      intro j y hj
      have := cells j y hj
      by_cases h0 : j = 0
      · subst h0; rw [Addr.add_zero'] at this; exact this
      · simpa [Addr.add, h0] using this
    exact Any.strings_Join lays156 Builder_Extra_156 bk o c0 (x :: r) a1 w cells' hbk h1 hc0 h2
end Go.Proofs.YtkjflikcifcnkaaDoorW.PrintWords
