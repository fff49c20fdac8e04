/-
  Chapter 46 (pool), part KnownL: contracts of functions that the laws call, each for the heap it names.
-/
import Derived.Test.YteofigbgdbpjgaaPoolW
import Derived.Test.YteofigbgdbpjgaaTells
set_option linter.unusedVariables false
set_option maxRecDepth 20000
namespace Go.Proofs.Yteofigbgdbpjgaa

abbrev kS (now : Nat) (x : Cn) (Q : List Qp) (n : Nat) (E : List Pv) : PS := ⟨1, 1, 10, now, x :: List.replicate 63 ⟨0, 0, 0⟩, Q, n, E⟩
abbrev kq0 : PS := kS 0 ⟨0, 0, 0⟩ [] 0 []
abbrev kq1 : PS := kS 0 ⟨1, 5, 0⟩ [] 0 []
abbrev kq2 : PS := kS 0 ⟨1, 5, 0⟩ [⟨1, 6, 9⟩] 1 []
abbrev kq3 : PS := kS 1 ⟨2, 0, 0⟩ [⟨1, 6, 9⟩] 1 []
abbrev kq4 : PS := kS 2 ⟨2, 0, 0⟩ [] 1 [⟨1, 6, 0⟩]
abbrev kq5 : PS := kS 2 ⟨2, 0, 0⟩ [] 1 []
abbrev kq6 : PS := kS 3 ⟨3, 0, 3⟩ [] 1 []
abbrev kq7 : PS := kS 4 ⟨2, 0, 0⟩ [] 1 []
abbrev kq8 : PS := kS 4 ⟨3, 0, 4⟩ [] 1 []
abbrev kq9 : PS := kS 13 ⟨3, 0, 4⟩ [] 1 []
abbrev kq10 : PS := kS 14 ⟨0, 0, 0⟩ [] 1 [⟨5, -1, 0⟩]
abbrev kq11 : PS := kS 14 ⟨0, 0, 0⟩ [] 1 []
abbrev kq12 : PS := kS 14 ⟨1, 7, 0⟩ [] 1 []
abbrev kq13 : PS := kS 14 ⟨1, 7, 0⟩ [⟨2, 8, 20⟩] 2 []
abbrev kq14 : PS := kS 14 ⟨1, 7, 0⟩ [⟨2, 8, 20⟩] 2 []
abbrev kq15 : PS := kS 20 ⟨1, 7, 0⟩ [] 2 [⟨4, 8, -1⟩]
abbrev kq16 : PS := kS 20 ⟨1, 7, 0⟩ [] 2 []
abbrev kq17 : PS := kS 20 ⟨1, 7, 0⟩ [⟨3, 9, 30⟩] 3 []
abbrev kq18 : PS := kS 21 ⟨1, 9, 0⟩ [] 3 [⟨2, 9, 0⟩]
abbrev kq19 : PS := kS 21 ⟨1, 9, 0⟩ [] 3 []
abbrev kq20 : PS := kS 21 ⟨1, 9, 0⟩ [] 3 []
theorem kq0_eq : PS.new 1 1 10 = kq0 := by kernel_rfl
theorem kq1_eq : kq0.getS 5 0 9 = kq1 := by kernel_rfl
theorem kq2_eq : kq1.getS 6 0 9 = kq2 := by kernel_rfl
theorem kq3_eq : kq2.dialed 0 true 1 = kq3 := by kernel_rfl
theorem kq4_eq : kq3.put 0 true 2 = kq4 := by kernel_rfl
theorem kq5_eq : kq4.nx = kq5 := by kernel_rfl
theorem kq6_eq : kq5.put 0 true 3 = kq6 := by kernel_rfl
theorem kq7_eq : kq6.getS 7 4 9 = kq7 := by kernel_rfl
theorem kq8_eq : kq7.put 0 true 4 = kq8 := by kernel_rfl
theorem kq9_eq : kq8.advance 13 = kq9 := by
  rw [adv_eval (s := kq8) (s1 := kS 13 ⟨3, 0, 4⟩ [] 1 []) (L := []) (O := []) (now := 13) (by kernel_rfl) (by kernel_rfl) (Nat.le_of_ble_eq_true rfl) (by kernel_rfl) (by kernel_rfl) (Nat.le_of_ble_eq_true rfl)]
  kernel_rfl
theorem kq10_eq : kq9.advance 14 = kq10 := by
  rw [adv_eval (s := kq9) (s1 := kS 14 ⟨3, 0, 4⟩ [] 1 []) (L := []) (O := [0]) (now := 14) (by kernel_rfl) (by kernel_rfl) (Nat.le_of_ble_eq_true rfl) (by kernel_rfl) (by kernel_rfl) (Nat.le_of_ble_eq_true rfl)]
  kernel_rfl
theorem kq11_eq : kq10.nx = kq11 := by kernel_rfl
theorem kq12_eq : kq11.getS 7 14 99 = kq12 := by kernel_rfl
theorem kq13_eq : kq12.getS 8 14 20 = kq13 := by kernel_rfl
theorem kq14_eq : kq13.getS 8 14 20 = kq14 := by kernel_rfl
theorem kq15_eq : kq14.advance 20 = kq15 := by
  rw [adv_eval (s := kq14) (s1 := kS 20 ⟨1, 7, 0⟩ [] 2 [⟨4, 8, -1⟩]) (L := [⟨2, 8, 20⟩]) (O := []) (now := 20) (by kernel_rfl) (by kernel_rfl) (Nat.le_of_ble_eq_true rfl) (by kernel_rfl) (by kernel_rfl) (Nat.le_of_ble_eq_true rfl)]
  kernel_rfl
theorem kq16_eq : kq15.nx = kq16 := by kernel_rfl
theorem kq17_eq : kq16.getS 9 20 30 = kq17 := by kernel_rfl
theorem kq18_eq : kq17.dialed 0 false 21 = kq18 := by kernel_rfl
theorem kq19_eq : kq18.nx = kq19 := by kernel_rfl
theorem kq20_eq : kq19.put 0 true 21 = kq20 := by kernel_rfl
end Go.Proofs.Yteofigbgdbpjgaa
