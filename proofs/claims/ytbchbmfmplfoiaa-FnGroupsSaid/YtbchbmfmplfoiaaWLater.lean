import Derived.KernelRfl
import Derived.Tactics
import Derived.Test.YtbchbmfmplfoiaaWLast
import Derived.Test.YtbchbmfmplfoiaaWApart
/-! Facts that are carried over what only adds to memory. -/
namespace Go.Proofs.YtbchbmfmplfoiaaW.PrintWords
open Go.RowKit Go.Proofs.YtbchbmfmplfoiaaW
class Later (w w1 : World) : Prop where
  below : Below w.heap.size w w1
instance later_refl (w : World) : Later w w := ⟨Below.refl _ _⟩
instance later_alloc {w w1 : World} [h : Later w w1] (o : Obj) : Later w (w1.alloc o) := ⟨below_alloc h.below o⟩
instance later_drew {w w1 : World} [h : Later w w1] : Later w w1.drew := ⟨below_drew h.below⟩
instance later_drewN {w w1 : World} [h : Later w w1] (n : Nat) : Later w (w1.drewN n) := ⟨pw_below_drewN h.below n⟩
theorem B_l {w w1 w2 : World} [h : Later w1 w2] (b : Below w.heap.size w w1) : Below w.heap.size w w2 := below_step b h.below
theorem C_l {α : Type} {d : Kd α} {w w1 : World} {xs : List α} {A : Option Addr} {n : Nat} [h : Later w w1] (c : d.C w A n xs) : d.C w1 A n xs := Kd.C_below c h.below
theorem R_l {α : Type} {d : Kd α} {e : Nat} {w w1 : World} {base : Nat} {ok : Nat → Prop} {v : Value} {xs : List α} [h : Later w w1] (c : d.R e w base ok v xs) : d.R e w1 base ok v xs := Kd.R_below c h.below
theorem S_l {α : Type} {d : Kd α} {e : Nat} {w w1 : World} {base : Nat} {ok : Nat → Prop} {v : Value} {xs : List α} [h : Later w w1] (c : Kd.S d e w base ok v xs) : Kd.S d e w1 base ok v xs := Kd.S_below c h.below
theorem gL {P : Program} {ops : Array Oper} {Q : Exit → Act → World → Prop} {rest : List Oper} {oi : Oper} {a : Act} {w : World} {fn : Func} {as : Array Operand} {ts : Array TypeId} (f : FuncId) (N : Option Tmp) (hf : P.funcs[f]? = some fn) (args : Array Value)
    (h : Calls P f args w fun e w' => ∃ v, e = .returned v ∧ wpList P ops Q rest (a.put N v) w')
    (hop : oi.op = .call { callee := .value (.func f), args := as, argTypes := ts } := by with_reducible rfl) (hd : oi.dst = N := by rfl) (hg : oi.guard = none := by rfl) (hname : (fn.name == "runtime.NumGoroutine") = false := by kernel_rfl) (hb : fn.body.isSome = true := by rfl)
    (hargs : as.map a.eval = args := by (try simp only [List.map_toArray, List.map_cons, List.map_nil]); first | done | rfl | (simp only [List.length_drop, List.length_take]; rfl)) : wpList P ops Q (oi :: rest) a w :=
  PrintLast.goesL_ N hd hg hf hname hb args hop hargs h
end Go.Proofs.YtbchbmfmplfoiaaW.PrintWords
