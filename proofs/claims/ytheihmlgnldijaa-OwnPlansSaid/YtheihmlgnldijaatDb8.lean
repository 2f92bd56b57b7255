import Derived.Test.YtheihmlgnldijaatDb7
namespace Go.Vai.DB
open Go.Proofs Go.Vai Go.Vai.D Go.Vai.I Go.Vai.L Go.Vai.N Go.Vai.O
set_option linter.unusedSimpArgs false
set_option linter.unusedVariables false
theorem gd_fit {l : List Lsa} {t : Int} (pl : ∀ x ∈ l, fit x) : fit ((gK Lsa.o l t).getD default) := by
 cases h : gK Lsa.o l t with
 | none => exact ⟨by decide, fun _ => rfl⟩
 | some x => exact pl x (gK_mem h).1
theorem ins_fit {l : List Lsa} {x : Lsa} (pl : ∀ y ∈ l, fit y) (px : fit x) : ∀ y ∈ insP Lsa.o l x, fit y := fun y hy => by
 rcases insP_mem hy with rfl | h
 ·exact px
 ·exact pl y h
theorem ins_len {l : List Lsa} {x : Lsa} (h : dbOK l = true) (h1 : lsaOK x = true) : (insP Lsa.o l x).length ≤ 64 := db_len (ins_db h h1)
end Go.Vai.DB
