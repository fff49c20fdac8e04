/-
  Integers of any kind: arithmetic with the result told, quotient, remainder, bits, shifts, conversions.
-/
import Derived.Test.YtiokpmgbabpikaaSLMarks
namespace Go.Proofs.Ytiokpmgbabpikaa
section
variable {X : Ctx} {E : Env} {H : Heap} {o : Oper} {t t' : TypeId} {x y : Operand} {k k' : IntKind} {m n r : Int}
theorem R_addR (ho : o.op = .binOp .add t x y t') (hx : ev E x = some (.int k m)) (hy : ev E y = some (.int k n)) (hr : k.wrap (m + n) = r) : Runs X o E H (.int k r) := hr ▸ R_addW ho hx hy
theorem R_subR (ho : o.op = .binOp .sub t x y t') (hx : ev E x = some (.int k m)) (hy : ev E y = some (.int k n)) (hr : k.wrap (m - n) = r) : Runs X o E H (.int k r) := hr ▸ R_subW ho hx hy
theorem R_mulR (ho : o.op = .binOp .mul t x y t') (hx : ev E x = some (.int k m)) (hy : ev E y = some (.int k n)) (hr : k.wrap (m * n) = r) : Runs X o E H (.int k r) := hr ▸ R_mulW ho hx hy
theorem R_quoR (ho : o.op = .binOp .quo t x y t') (hx : ev E x = some (.int k m)) (hy : ev E y = some (.int k n)) (hn : n ≠ 0) (hr : k.wrap (m.tdiv n) = r) : Runs X o E H (.int k r) :=
  R_arith ho hx hy fun w => by simp [go_sem, Op.intDiv, hn, hr]
theorem R_remR (ho : o.op = .binOp .rem t x y t') (hx : ev E x = some (.int k m)) (hy : ev E y = some (.int k n)) (hn : n ≠ 0) (hr : m.tmod n = r) : Runs X o E H (.int k r) :=
  R_arith ho hx hy fun w => by simp [go_sem, Op.intDiv, hn, hr]
theorem R_andR (ho : o.op = .binOp .and t x y t') (hx : ev E x = some (.int k m)) (hy : ev E y = some (.int k n)) (hr : k.wrap (BitVec.ofInt k.bits m &&& BitVec.ofInt k.bits n).toNat = r) : Runs X o E H (.int k r) :=
  R_arith ho hx hy fun w => by rw [← hr]; simp [go_sem, Op.intBits]
theorem R_orR (ho : o.op = .binOp .or t x y t') (hx : ev E x = some (.int k m)) (hy : ev E y = some (.int k n)) (hr : k.wrap (BitVec.ofInt k.bits m ||| BitVec.ofInt k.bits n).toNat = r) : Runs X o E H (.int k r) :=
  R_arith ho hx hy fun w => by rw [← hr]; simp [go_sem, Op.intBits]
theorem R_xorR (ho : o.op = .binOp .xor t x y t') (hx : ev E x = some (.int k m)) (hy : ev E y = some (.int k n)) (hr : k.wrap (BitVec.ofInt k.bits m ^^^ BitVec.ofInt k.bits n).toNat = r) : Runs X o E H (.int k r) :=
  R_arith ho hx hy fun w => by rw [← hr]; simp [go_sem, Op.intBits]
theorem R_shrR (ho : o.op = .binOp .shr t x y t') (hx : ev E x = some (.int k m)) (hy : ev E y = some (.int k' n)) (hn : ¬ n < 0) (hr : m.fdiv (2 ^ (min n.toNat k.bits)) = r) : Runs X o E H (.int k r) :=
  ⟨(by rw [ho]; intro c e; cases e), fun a w ha _ => by
    have h : (binOp .shr t (.int k m) (.int k' n)).run X.P w = .ok (.int k r) w := by rw [← hr]; simp only [binOp, Op.shift, if_neg hn, Sem.run_pure]
    simp only [execOp, ho, ha.eval hx, ha.eval hy]
    simp [eqGuard, h]⟩
theorem R_conv {src dst : TypeId} {u : TypeDesc} (ho : o.op = .convert src dst x) (hs : X.P.underlying src = some u) (hd : X.P.underlying dst = some (.int k')) (hx : ev E x = some (.int k m)) (hr : k'.wrap m = r) : Runs X o E H (.int k' r) :=
  ⟨(by rw [ho]; intro c e; cases e), fun a w ha _ => by
    have h : (convert src dst (.int k m)).run X.P w = .ok (.int k' r) w := by
      rw [← hr]
      simp only [convert, Sem.run_bind, run_underlying hs, run_underlying hd, Result.andThen_ok]
      cases u <;> simp [Conv.intToInt]
    simp [execOp, ho, ha.eval hx, h]⟩
theorem R_minR {tys : Array TypeId} (ho : o.op = .call { callee := .builtin .min, args := #[x, y], argTypes := tys }) (hx : ev E x = some (.int k m)) (hy : ev E y = some (.int k' n)) (hr : min m n = r) : Runs X o E H (.int k r) := hr ▸ R_min ho hx hy
theorem R_maxR {tys : Array TypeId} (ho : o.op = .call { callee := .builtin .max, args := #[x, y], argTypes := tys }) (hx : ev E x = some (.int k m)) (hy : ev E y = some (.int k' n)) (hr : max m n = r) : Runs X o E H (.int k r) := hr ▸ R_max ho hx hy
end
theorem w64 {n : Int} (h : 0 ≤ n ∧ n ≤ 18446744073709551615) : IntKind.u64.wrap n = n := IntWalk.u64_in n h
theorem q64 {m n : Int} (h : 0 ≤ m ∧ m ≤ 18446744073709551615 ∧ 1 ≤ n) : IntKind.u64.wrap (m.tdiv n) = m / n := IntWalk.u64_quo m n h
theorem bvN (b : Nat) (a : Nat) : (BitVec.ofInt b (a : Int)) = BitVec.ofNat b a := by simp
theorem xor32 {a b : Nat} (ha : a < 4294967296) (hb : b < 4294967296) : IntKind.u32.wrap (BitVec.ofInt IntKind.u32.bits (a : Int) ^^^ BitVec.ofInt IntKind.u32.bits (b : Int)).toNat = ((a ^^^ b : Nat) : Int) := by
  have h1 : a % 4294967296 = a := Nat.mod_eq_of_lt ha
  have h2 : b % 4294967296 = b := Nat.mod_eq_of_lt hb
  have hl : a ^^^ b < 2 ^ 32 := Nat.xor_lt_two_pow (by omega) (by omega)
  rw [bvN, bvN, BitVec.toNat_xor, BitVec.toNat_ofNat, BitVec.toNat_ofNat]
  simp only [IntKind.bits]
  rw [show (2 : Nat) ^ 32 = 4294967296 from rfl, h1, h2, IntKind.wrap_u32]
  omega
theorem xor64 {a b : Nat} (ha : a < 18446744073709551616) (hb : b < 18446744073709551616) : IntKind.u64.wrap (BitVec.ofInt IntKind.u64.bits (a : Int) ^^^ BitVec.ofInt IntKind.u64.bits (b : Int)).toNat = ((a ^^^ b : Nat) : Int) := by
  have h1 : a % 18446744073709551616 = a := Nat.mod_eq_of_lt ha
  have h2 : b % 18446744073709551616 = b := Nat.mod_eq_of_lt hb
  have hl : a ^^^ b < 2 ^ 64 := Nat.xor_lt_two_pow (by omega) (by omega)
  rw [bvN, bvN, BitVec.toNat_xor, BitVec.toNat_ofNat, BitVec.toNat_ofNat]
  simp only [IntKind.bits]
  rw [show (2 : Nat) ^ 64 = 18446744073709551616 from rfl, h1, h2]
  exact w64 ⟨by omega, by omega⟩
theorem and32 {a b : Nat} (ha : a < 4294967296) (hb : b < 4294967296) : IntKind.u32.wrap (BitVec.ofInt IntKind.u32.bits (a : Int) &&& BitVec.ofInt IntKind.u32.bits (b : Int)).toNat = ((a &&& b : Nat) : Int) := by
  have h1 : a % 4294967296 = a := Nat.mod_eq_of_lt ha
  have h2 : b % 4294967296 = b := Nat.mod_eq_of_lt hb
  have hl : a &&& b ≤ a := Nat.and_le_left
  rw [bvN, bvN, BitVec.toNat_and, BitVec.toNat_ofNat, BitVec.toNat_ofNat]
  simp only [IntKind.bits]
  rw [show (2 : Nat) ^ 32 = 4294967296 from rfl, h1, h2, IntKind.wrap_u32]
  omega
theorem shrN {a s : Nat} {b : Nat} (h : s ≤ b) : ((a : Int)).fdiv (2 ^ (min ((s : Nat) : Int).toNat b)) = ((a / 2 ^ s : Nat) : Int) := by
  rw [Int.toNat_natCast, Nat.min_eq_left h, Int.fdiv_eq_ediv_of_nonneg _ (by exact Int.le_of_lt (Int.pow_pos (by decide)))]
  simp
theorem remN {a b : Nat} : ((a : Int)).tmod (b : Int) = ((a % b : Nat) : Int) := by rw [Int.tmod_eq_emod_of_nonneg (by omega)]; simp
theorem quoN {a b : Nat} (ha : a < 18446744073709551616) (hb : 1 ≤ b) : IntKind.u64.wrap (((a : Int)).tdiv (b : Int)) = ((a / b : Nat) : Int) := by
  rw [q64 ⟨by omega, by omega, by omega⟩]; simp
end Go.Proofs.Ytiokpmgbabpikaa
