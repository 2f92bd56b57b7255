import Derived.Test.YtblgcekomnnfmaagCfg
namespace Go.Vai
open Go.Proofs Go.Vai
set_option linter.unusedSimpArgs false
set_option linter.unusedVariables false
theorem d33 : decide ((3 : Int) = 3) = true := rfl
theorem d77 : decide ((7 : Int) = 7) = true := rfl
theorem d10 : decide ((10 : Int) = 10) = true := rfl
theorem d01 : decide ((0 : Int) = 1) = false := rfl
theorem d10' : decide ((1 : Int) = 0) = false := rfl
theorem d00 : decide ((0 : Int) = 0) = true := rfl
theorem d11 : decide ((1 : Int) = 1) = true := rfl
theorem dtt : decide (true = true) = true := rfl
theorem dff : decide (false = false) = true := rfl
theorem dtf : decide (true = false) = false := rfl
theorem dft : decide (false = true) = false := rfl
theorem dnt : decide (true ≠ true) = false := rfl
theorem dnf : decide (false ≠ false) = false := rfl
theorem deq {α : Type} [DecidableEq α] (x : α) : decide (x = x) = true := decide_eq_true rfl
theorem d20 : decide ((2 : Int) = 0) = false := rfl
theorem d02 : decide ((0 : Int) = 2) = false := rfl
theorem d22 : decide ((2 : Int) = 2) = true := rfl
theorem d512 : decide ((512 : Int) = 512) = true := rfl
theorem d05 : decide ((0 : Int) = 5) = false := rfl
theorem d50 : decide ((5 : Int) = 0) = false := rfl
theorem d51 : decide ((5 : Int) = 1) = false := rfl
theorem d15 : decide ((1 : Int) = 5) = false := rfl
theorem d55 : decide ((5 : Int) = 5) = true := rfl
theorem d12 : decide ((1 : Int) = 2) = false := rfl
theorem d21 : decide ((2 : Int) = 1) = false := rfl
attribute [go_sem] d33 d77 d10 d01 d10' d00 d11 dtt dff dtf dft dnt dnf deq d20 d02 d22 d512 d05 d50 d51 d15 d55 d12 d21 Bool.not_true Bool.not_false Bool.true_and Bool.and_true beq_self_eq_true bne_self_eq_false decide_true decide_false Bool.or_false Bool.false_or Bool.or_true Bool.true_or Bool.and_false Bool.false_and
end Go.Vai
