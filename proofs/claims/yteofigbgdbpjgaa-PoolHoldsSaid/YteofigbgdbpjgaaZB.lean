/-
  Loops in which a function is ranged over: each such range leaves a mark among the deferred calls; min and max of two numbers.
-/
import Derived.Test.YteofigbgdbpjgaaZA
import Derived.Lib.MinMax
import Derived.MapKept
import GoSem.Extern.MapsClone
import Derived.Laws.IdiomRangeMap
import Derived.ArgAppend
import Derived.Laws.CopyRow
section
namespace Go.Proofs.Yteofigbgdbpjgaa
section
variable {X : Ctx} {p : Post} {E : Env} {H : Heap} {o : Oper}
theorem R_max {x y : Operand} {tys : Array TypeId} {k k' : IntKind} {m n : Int} (ho : o.op = .call { callee := .builtin .max, args := #[x, y], argTypes := tys }) (hx : ev E x = some (.int k m)) (hy : ev E y = some (.int k' n)) : Runs X o E H (.int k (max m n)) :=
  ⟨(by rw [ho]; intro c e; cases e), fun a w ha _ => by
    simp [execOp, ho, resolve, ha.eval hx, ha.eval hy, invoke, builtin, Go.Lib.run_max_ints]⟩
theorem R_min {x y : Operand} {tys : Array TypeId} {k k' : IntKind} {m n : Int} (ho : o.op = .call { callee := .builtin .min, args := #[x, y], argTypes := tys }) (hx : ev E x = some (.int k m)) (hy : ev E y = some (.int k' n)) : Runs X o E H (.int k (min m n)) :=
  ⟨(by rw [ho]; intro c e; cases e), fun a w ha _ => by
    simp [execOp, ho, resolve, ha.eval hx, ha.eval hy, invoke, builtin, Go.Lib.run_min_ints]⟩

/-- What a round of a loop hands on, with the marks that it has left. -/
def NextD (X : Ctx) {G : Type} (I : G → Prop) (EI : G → Env) (HI : G → Heap) (DI : G → List Deferred) (μ : G → Nat) (m : Nat) (a : Act) (w : World) : Prop :=
  ∃ g, I g ∧ μ g < m ∧ AE { X with D := DI g } (EI g) a ∧ HW X.H0 X.w0 (HI g) w
theorem AE.toD {D : List Deferred} {a : Act} (h : AE X E a) (hD : D = X.D) : AE { X with D := D } E a := ⟨h.size, by rw [h.defers, hD], h.env⟩
theorem WC_loopHD {G : Type} {body : Code} (ds : List Nat) (I : G → Prop) (EI : G → Env) (HI : G → Heap) (DI : G → List Deferred) (μ : G → Nat) {F : Heap} (g0 : G) (h0 : I g0) (l : Lq (EI g0) E) (q : Pulls (HI g0) H F) (hD : DI g0 = X.D)
    (round : ∀ g, I g → WC { X with D := DI g } body (Post.to (NextD X I (fun g => EI g ++ dropE ds E) HI DI μ (μ g)) p) (EI g ++ dropE ds E) (HI g)) : WC X (.loop body) p E H := by
  intro a w ha hw
  refine wpIn_loop_ghost (fun m a w => ∃ g, μ g = m ∧ I g ∧ AE { X with D := DI g } (EI g ++ dropE ds E) a ∧ HW X.H0 X.w0 (HI g) w) (μ g0) ⟨g0, rfl, h0, (ha.toD hD).le ?_, (hw.perm q.perm).left⟩ ?_
  · intro s v hs
    rw [get_append] at hs
    cases h : gtE (EI g0) s with
    | some u => rw [h] at hs; simp at hs; subst hs; exact l s u h
    | none =>
      rw [h, get_dropE] at hs
      by_cases hm : s ∈ ds
      · simp [hm] at hs
      · simpa [hm] using hs
  · rintro m a w ⟨g, rfl, hg, ha, hw⟩
    refine wpIn_mono (round g hg a w ha hw) ?_
    intro e a' w' hq
    cases e with
    | normal => obtain ⟨g', h1, h2, h3, h4⟩ := hq; exact ⟨μ g', h2, g', rfl, h1, h3, h4⟩
    | _ => exact hq
theorem WQ_nextHD {D : List Deferred} {G : Type} {ds : List Nat} {E0 : Env} {I : G → Prop} {EI : G → Env} {HI : G → Heap} {DI : G → List Deferred} {μ : G → Nat} {m : Nat} {F : Heap} {gg : G} (g : G) (hI : I g) (hm : μ g < m) (l : Lq (EI g) E) (hp : Pushed ds (EI gg ++ dropE ds E0) E)
    (hs : subB (EI gg) ds = true) (q : Pulls (HI g) H F) (hD : DI g = D) : WQ { X with D := D } (NextD X I (fun g => EI g ++ dropE ds E0) HI DI μ m) E H :=
  fun _ _ ha hw => ⟨g, hI, hm, (AE.toD (X := { X with D := D }) ha hD).le (le_frame hp (subB_spec hs) l), (hw.perm q.perm).left⟩

theorem leavesM {fn : Func} {H0 : Heap} {w0 : World} {v : Value} {post : Value → Heap → Prop} {H' F F' : Heap} {tmps : Array Value} (hp : post v H') (hq : Pulls H' F F') (P : Program)
    (hr : ∀ w', HW H0 w0 F w' → (results fn tmps).run P w' = .ok v w') : ∀ (ds : List Nat) (w : World), HW H0 w0 (ds.map dlE ++ F) w →
      LeavesInM Fence.wide 0 P fn tmps (fun e w'' => ∃ v H', e = .returned v ∧ post v H' ∧ HW H0 w0 H' w'') (ds.map markOf) .returning w
  | [], w, hw => ⟨v, hr w hw, v, H', rfl, hp, (hw.perm hq.perm).left⟩
  | dl :: ds, w, hw => by
    have hw1 : HW H0 w0 (dlE dl :: (ds.map dlE ++ F)) w := hw
    have hw2 := (hw1.turn1 (.deferred none)).drop .head
    refine ⟨by simp, .inl ⟨dl, _, rfl, run_takeDeferred hw1.at, ?_⟩⟩
    exact leavesM hp hq P hr ds _ hw2
/-- The end of a function that has left several marks. -/
theorem WQ_retMs {fn : Func} {rs : List ResultVar} {vs : List Value} {v : Value} {post : Value → Heap → Prop} {F F' H' : Heap} (ds : List Nat) (hD : X.D = ds.map markOf) (hp1 : Pulls (ds.map dlE) H F) (hr : fn.results = rs.toArray)
    (h : RVs X E F rs vs) (hv : resV vs = v) (hp : post v H') (hq : Pulls H' F F') : WQ X (RetM X.P fn X.H0 X.w0 post) E H := by
  intro a w ha hw
  show LeavesInM Fence.wide 0 X.P fn a.tmps _ a.defers .returning w
  rw [ha.defers, hD]
  refine leavesM hp hq X.P (fun w' hw' => ?_) ds w (hw.perm hp1.perm)
  rw [run_results hr h ha hw', hv]
end
end Go.Proofs.Yteofigbgdbpjgaa

end
section
namespace Go.Proofs.Yteofigbgdbpjgaa
section
variable {X : Ctx} {E : Env} {H : Heap} {o : Oper} {t t' : TypeId} {x y : Operand} {k k' : IntKind} {m n r : Int}
theorem R_addR (ho : o.op = .binOp .add t x y t') (hx : ev E x = some (.int k m)) (hy : ev E y = some (.int k n)) (hr : k.wrap (m + n) = r) : Runs X o E H (.int k r) := hr ▸ R_addW ho hx hy
theorem R_subR (ho : o.op = .binOp .sub t x y t') (hx : ev E x = some (.int k m)) (hy : ev E y = some (.int k n)) (hr : k.wrap (m - n) = r) : Runs X o E H (.int k r) := hr ▸ R_subW ho hx hy
theorem R_mulR (ho : o.op = .binOp .mul t x y t') (hx : ev E x = some (.int k m)) (hy : ev E y = some (.int k n)) (hr : k.wrap (m * n) = r) : Runs X o E H (.int k r) := hr ▸ R_mulW ho hx hy
theorem R_quoR (ho : o.op = .binOp .quo t x y t') (hx : ev E x = some (.int k m)) (hy : ev E y = some (.int k n)) (hn : n ≠ 0) (hr : k.wrap (m.tdiv n) = r) : Runs X o E H (.int k r) :=
  R_arith ho hx hy fun w => by simp [go_sem, Op.intDiv, hn, hr]
theorem R_remR (ho : o.op = .binOp .rem t x y t') (hx : ev E x = some (.int k m)) (hy : ev E y = some (.int k n)) (hn : n ≠ 0) (hr : m.tmod n = r) : Runs X o E H (.int k r) :=
  R_arith ho hx hy fun w => by simp [go_sem, Op.intDiv, hn, hr]
theorem R_andR (ho : o.op = .binOp .and t x y t') (hx : ev E x = some (.int k m)) (hy : ev E y = some (.int k n)) (hr : k.wrap (BitVec.ofInt k.bits m &&& BitVec.ofInt k.bits n).toNat = r) : Runs X o E H (.int k r) :=
  R_arith ho hx hy fun w => by rw [← hr]; simp [go_sem, Op.intBits]
theorem R_orR (ho : o.op = .binOp .or t x y t') (hx : ev E x = some (.int k m)) (hy : ev E y = some (.int k n)) (hr : k.wrap (BitVec.ofInt k.bits m ||| BitVec.ofInt k.bits n).toNat = r) : Runs X o E H (.int k r) :=
  R_arith ho hx hy fun w => by rw [← hr]; simp [go_sem, Op.intBits]
theorem R_xorR (ho : o.op = .binOp .xor t x y t') (hx : ev E x = some (.int k m)) (hy : ev E y = some (.int k n)) (hr : k.wrap (BitVec.ofInt k.bits m ^^^ BitVec.ofInt k.bits n).toNat = r) : Runs X o E H (.int k r) :=
  R_arith ho hx hy fun w => by rw [← hr]; simp [go_sem, Op.intBits]
theorem R_shrR (ho : o.op = .binOp .shr t x y t') (hx : ev E x = some (.int k m)) (hy : ev E y = some (.int k' n)) (hn : ¬ n < 0) (hr : m.fdiv (2 ^ (min n.toNat k.bits)) = r) : Runs X o E H (.int k r) :=
  ⟨(by rw [ho]; intro c e; cases e), fun a w ha _ => by
    have h : (binOp .shr t (.int k m) (.int k' n)).run X.P w = .ok (.int k r) w := by rw [← hr]; simp only [binOp, Op.shift, if_neg hn, Sem.run_pure]
    simp only [execOp, ho, ha.eval hx, ha.eval hy]
    simp [eqGuard, h]⟩
theorem R_conv {src dst : TypeId} {u : TypeDesc} (ho : o.op = .convert src dst x) (hs : X.P.underlying src = some u) (hd : X.P.underlying dst = some (.int k')) (hx : ev E x = some (.int k m)) (hr : k'.wrap m = r) : Runs X o E H (.int k' r) :=
  ⟨(by rw [ho]; intro c e; cases e), fun a w ha _ => by
    have h : (convert src dst (.int k m)).run X.P w = .ok (.int k' r) w := by
      rw [← hr]
      simp only [convert, Sem.run_bind, run_underlying hs, run_underlying hd, Result.andThen_ok]
      cases u <;> simp [Conv.intToInt]
    simp [execOp, ho, ha.eval hx, h]⟩
theorem R_minR {tys : Array TypeId} (ho : o.op = .call { callee := .builtin .min, args := #[x, y], argTypes := tys }) (hx : ev E x = some (.int k m)) (hy : ev E y = some (.int k' n)) (hr : min m n = r) : Runs X o E H (.int k r) := hr ▸ R_min ho hx hy
theorem R_maxR {tys : Array TypeId} (ho : o.op = .call { callee := .builtin .max, args := #[x, y], argTypes := tys }) (hx : ev E x = some (.int k m)) (hy : ev E y = some (.int k' n)) (hr : max m n = r) : Runs X o E H (.int k r) := hr ▸ R_max ho hx hy
end
theorem w64 {n : Int} (h : 0 ≤ n ∧ n ≤ 18446744073709551615) : IntKind.u64.wrap n = n := IntWalk.u64_in n h
theorem q64 {m n : Int} (h : 0 ≤ m ∧ m ≤ 18446744073709551615 ∧ 1 ≤ n) : IntKind.u64.wrap (m.tdiv n) = m / n := IntWalk.u64_quo m n h
theorem bvN (b : Nat) (a : Nat) : (BitVec.ofInt b (a : Int)) = BitVec.ofNat b a := by simp
theorem xor32 {a b : Nat} (ha : a < 4294967296) (hb : b < 4294967296) : IntKind.u32.wrap (BitVec.ofInt IntKind.u32.bits (a : Int) ^^^ BitVec.ofInt IntKind.u32.bits (b : Int)).toNat = ((a ^^^ b : Nat) : Int) := by
  have h1 : a % 4294967296 = a := Nat.mod_eq_of_lt ha
  have h2 : b % 4294967296 = b := Nat.mod_eq_of_lt hb
  have hl : a ^^^ b < 2 ^ 32 := Nat.xor_lt_two_pow (by omega) (by omega)
  rw [bvN, bvN, BitVec.toNat_xor, BitVec.toNat_ofNat, BitVec.toNat_ofNat]
  simp only [IntKind.bits]
  rw [show (2 : Nat) ^ 32 = 4294967296 from rfl, h1, h2, IntKind.wrap_u32]
  omega
theorem xor64 {a b : Nat} (ha : a < 18446744073709551616) (hb : b < 18446744073709551616) : IntKind.u64.wrap (BitVec.ofInt IntKind.u64.bits (a : Int) ^^^ BitVec.ofInt IntKind.u64.bits (b : Int)).toNat = ((a ^^^ b : Nat) : Int) := by
  have h1 : a % 18446744073709551616 = a := Nat.mod_eq_of_lt ha
  have h2 : b % 18446744073709551616 = b := Nat.mod_eq_of_lt hb
  have hl : a ^^^ b < 2 ^ 64 := Nat.xor_lt_two_pow (by omega) (by omega)
  rw [bvN, bvN, BitVec.toNat_xor, BitVec.toNat_ofNat, BitVec.toNat_ofNat]
  simp only [IntKind.bits]
  rw [show (2 : Nat) ^ 64 = 18446744073709551616 from rfl, h1, h2]
  exact w64 ⟨by omega, by omega⟩
theorem and32 {a b : Nat} (ha : a < 4294967296) (hb : b < 4294967296) : IntKind.u32.wrap (BitVec.ofInt IntKind.u32.bits (a : Int) &&& BitVec.ofInt IntKind.u32.bits (b : Int)).toNat = ((a &&& b : Nat) : Int) := by
  have h1 : a % 4294967296 = a := Nat.mod_eq_of_lt ha
  have h2 : b % 4294967296 = b := Nat.mod_eq_of_lt hb
  have hl : a &&& b ≤ a := Nat.and_le_left
  rw [bvN, bvN, BitVec.toNat_and, BitVec.toNat_ofNat, BitVec.toNat_ofNat]
  simp only [IntKind.bits]
  rw [show (2 : Nat) ^ 32 = 4294967296 from rfl, h1, h2, IntKind.wrap_u32]
  omega
theorem shrN {a s : Nat} {b : Nat} (h : s ≤ b) : ((a : Int)).fdiv (2 ^ (min ((s : Nat) : Int).toNat b)) = ((a / 2 ^ s : Nat) : Int) := by
  rw [Int.toNat_natCast, Nat.min_eq_left h, Int.fdiv_eq_ediv_of_nonneg _ (by exact Int.le_of_lt (Int.pow_pos (by decide)))]
  simp
theorem remN {a b : Nat} : ((a : Int)).tmod (b : Int) = ((a % b : Nat) : Int) := by rw [Int.tmod_eq_emod_of_nonneg (by omega)]; simp
theorem quoN {a b : Nat} (ha : a < 18446744073709551616) (hb : 1 ≤ b) : IntKind.u64.wrap (((a : Int)).tdiv (b : Int)) = ((a / b : Nat) : Int) := by
  rw [q64 ⟨by omega, by omega, by omega⟩]; simp
end Go.Proofs.Yteofigbgdbpjgaa

end
section
namespace Go.Proofs.Yteofigbgdbpjgaa
open Go.RowKit (Below)
section
variable {X : Ctx} {ops : Array Oper} {p : Post} {C : World → Prop}

theorem wpOpIn_late {j : Nat} {oi oj : Oper} {v : Value} {K : Act → World → Prop} {a : Act} {w : World} (hj : ops[j]? = some oj) (hap : oi.apart ops oj = true)
    (hsj : ∀ cs b, oj.op ≠ .select cs b) (hdj : ∀ c, oj.op ≠ .defer c) (h : wpOpIn (fen X.ro) 0 X.P ops p.toQ j K a w) :
    wpOpIn (fen X.ro) 0 X.P ops p.toQ j (fun a'' w' => ∃ a', a'' = a'.put oi.dst v ∧ K a' w') (a.put oi.dst v) w := by
  obtain ⟨h1, h2, h3⟩ := Oper.apart_spec hap
  unfold wpOpIn at *
  simp only [hj] at *
  rw [wanted_put oj a oi.dst v h1]
  split
  · rename_i hw
    simp only [hw, if_true] at h
    unfold Oper.wpIn at *
    refine ⟨about_true, ?_⟩
    have h := h.2
    rw [semAt_of hdj] at h
    rw [semAt_of hdj, execOp_put oj hsj a oi.dst v h1]
    generalize (execOp a.eval oj).run X.P w = r at *
    cases r with
    | ok x w' =>
      cases x <;> simp only [Oper.uponIn] at h ⊢
      case value u => exact ⟨_, Act.put_comm a v u h2, h⟩
      case skip => exact ⟨_, Act.put_comm a v undef h2, h⟩
      case defer d => exact ⟨_, by rw [Act.put_defers, Act.put_comm _ v undef h2], h⟩
      case enter f args =>
        refine ⟨h.1, CallsIn.mono h.2 fun e w'' he => ?_⟩
        cases e with
        | returned u => exact ⟨_, Act.put_comm a v u h2, he⟩
        | panicked c => exact he
        | outgrown => exact he
      case row row args => exact ⟨h.1, RowsIn.mono h.2 fun u w'' he => ⟨_, Act.put_comm a v u h2, he⟩⟩
      case round l f tmps assign body =>
        refine ⟨h.1, RoundIn.mono h.2 fun e w'' he => ?_⟩
        cases e with
        | returned u => exact ⟨_, Act.put_comm a v u h2, he⟩
        | panicked c => exact he
        | outgrown => exact he
    | halt x w' =>
      cases x <;> simp only [Oper.uponIn] at h ⊢
      case panic u => exact h
  · rename_i hw
    simp only [hw] at h
    exact ⟨about_true, _, Act.put_comm a v undef h2, h.2⟩

theorem wpOpIn_keep {Z : Act → Prop} {j : Nat} {oj : Oper} {K : Act → World → Prop} {a : Act} {w : World} (hj : ops[j]? = some oj) (hdj : ∀ c, oj.op ≠ .defer c)
    (hZ : ∀ a u, Z a → Z (a.put oj.dst u)) (hZd : ∀ (a : Act) d, Z a → Z { a with defers := d :: a.defers }) (hz : Z a) (h : wpOpIn (fen X.ro) 0 X.P ops p.toQ j K a w) :
    wpOpIn (fen X.ro) 0 X.P ops p.toQ j (fun a' w' => Z a' ∧ K a' w') a w := by
  unfold wpOpIn at *
  simp only [hj] at *
  split
  · rename_i hw
    simp only [hw, if_true] at h
    unfold Oper.wpIn at *
    refine ⟨about_true, ?_⟩
    have h := h.2
    rw [semAt_of hdj] at h
    rw [semAt_of hdj]
    generalize (execOp a.eval oj).run X.P w = r at *
    cases r with
    | ok x w' =>
      cases x <;> simp only [Oper.uponIn] at h ⊢
      case value u => exact ⟨hZ _ _ hz, h⟩
      case skip => exact ⟨hZ _ _ hz, h⟩
      case defer d => exact ⟨hZ _ _ (hZd _ _ hz), h⟩
      case enter f args =>
        refine ⟨h.1, CallsIn.mono h.2 fun e w'' he => ?_⟩
        cases e with
        | returned u => exact ⟨hZ _ _ hz, he⟩
        | panicked c => exact he
        | outgrown => exact he
      case row row args => exact ⟨h.1, RowsIn.mono h.2 fun u w'' he => ⟨hZ _ _ hz, he⟩⟩
      case round l f tmps assign body =>
        refine ⟨h.1, RoundIn.mono h.2 fun e w'' he => ?_⟩
        cases e with
        | returned u => exact ⟨hZ _ _ hz, he⟩
        | panicked c => exact he
        | outgrown => exact he
    | halt x w' =>
      cases x <;> simp only [Oper.uponIn] at h ⊢
      case panic u => exact h
  · rename_i hw
    simp only [hw] at h
    exact ⟨about_true, hZ _ _ hz, h.2⟩
end

theorem pigeon : ∀ (ks m : List Nat), ks.Nodup → (∀ k ∈ ks, k ∈ m) → ks.length ≤ m.length
  | [], _, _, _ => Nat.zero_le _
  | k :: ks, m, hn, h => by
    have hk : k ∈ m := h k (List.mem_cons_self ..)
    obtain ⟨hk1, hn1⟩ := List.nodup_cons.1 hn
    have := pigeon ks (m.erase k) hn1 (fun x hx => (List.mem_erase_of_ne (by intro e; subst e; exact hk1 hx)).2 (h x (List.mem_cons_of_mem _ hx)))
    rw [List.length_erase_of_mem hk] at this
    have hp : 0 < m.length := List.length_pos_of_mem hk
    simp only [List.length_cons]
    omega

inductive Tag where
  | q
  | n (B : List Nat)
  | b (B : List Nat)
def Tag.isB : Tag → Bool
  | .b _ => true
  | _ => false

/-- An operation that only lays a new block. -/
structure Born (X : Ctx) (ops : Array Oper) (C : World → Prop) (o : Oper) (a : Act) (V : Nat → Value) (O : Obj) : Prop where
  want : Region.wanted o (yielded ops a.tmps) = true
  run : ∀ w, C w → (execOp a.eval o).run X.P w = .ok (.value (V w.heap.size)) (w.alloc O)
def Borns (X : Ctx) (ops : Array Oper) (C : World → Prop) (B : List Nat) (a : Act) : Prop := ∀ k ∈ B, ∃ o V O, ops[k]? = some o ∧ Born X ops C o a V O

/-- The walk in an order of ours; 'S': the blocks in play. -/
def BW (X : Ctx) (ops : Array Oper) (p : Post) (C : World → Prop) : List (Nat × Tag) → (Nat → Prop) → Act → World → Prop
  | [], _, a, w => p.nrm a w
  | (i, .q) :: r, S, a, w => ∃ o v, ops[i]? = some o ∧ YieldsC X ops C o v a ∧ ∀ w', Bel w w' → BW X ops p C r S (a.put o.dst v) w'
  | (i, .n B) :: r, S, a, w => Borns X ops C B a ∧ wpOpIn (fen X.ro) 0 X.P ops p.toQ i (fun a' w' => C w' ∧ w.heap.size ≤ w'.heap.size ∧ ∃ S' : Nat → Prop, (∀ k, S' k → (S k ∨ w.heap.size ≤ k) ∧ k < w'.heap.size) ∧ (∀ k, k < w.heap.size → ¬ S k → w'.heap[k]? = w.heap[k]?) ∧ ∀ w'', Bel w' w'' → BW X ops p C r S' a' w'') a w
  | (i, .b B) :: r, S, a, w => Borns X ops C B a ∧ ∃ o V O, ops[i]? = some o ∧ Born X ops C o a V O ∧ ∀ b w', Bel w w' → X.w0.heap.size ≤ b → w'.heap[b]? = some O → ¬ S b → BW X ops p C r (fun k => S k ∨ k = b) (a.put o.dst (V b)) w'

def apartK (ops : Array Oper) (i k : Nat) : Bool := match ops[i]?, ops[k]? with | some x, some y => x.apart ops y | _, _ => false
def okStep (ops : Array Oper) (i : Nat) (B : List Nat) (r : List (Nat × Tag)) (listed : Array Bool) : Bool :=
  (Region.ready .any ops listed).contains i && (Region.ready .any ops listed).all (fun k => k == i || B.contains k) && !B.contains i &&
  (Region.ready .any ops (B.foldr (fun k l => l.setIfInBounds k true) listed)).all (fun k => k == i) &&
  B.all (fun k => (Region.ready .any ops listed).contains k && apartK ops i k && apartK ops k i && r.any (fun t => t.1 == k && t.2.isB) && B.all (fun k' => k' == k || apartK ops k k'))
def orderW (ops : Array Oper) : List (Nat × Tag) → Array Bool → Bool
  | [], listed => (Region.ready .any ops listed).isEmpty
  | (i, tg) :: r, listed => (match tg with
      | .q => (Region.ready .any ops listed).contains i && Region.free .any ops listed i
      | .n B => okStep ops i B r listed
      | .b B => okStep ops i B r listed) && !(r.any fun t => t.1 == i) && orderW ops r (listed.setIfInBounds i true)

/-- What came up early. -/
structure Er where
  k : Nat
  o : Oper
  v : Value
  b : Nat
  O : Obj
  w : World
def puts (es : List Er) (a : Act) : Act := es.foldr (fun e a => a.put e.o.dst e.v) a
def marks (es : List Er) (l : Array Bool) : Array Bool := es.foldr (fun e l => l.setIfInBounds e.k true) l
section
variable {X : Ctx} {ops : Array Oper} {p : Post} {C : World → Prop}
structure ErOk (X : Ctx) (ops : Array Oper) (C : World → Prop) (S : Nat → Prop) (listed : Array Bool) (a : Act) (w : World) (e : Er) : Prop where
  op : ops[e.k]? = some e.o
  cw : C e.w
  run : (execOp a.eval e.o).run X.P e.w = .ok (.value e.v) (e.w.alloc e.O)
  num : e.b = e.w.heap.size
  here : w.heap[e.b]? = some e.O
  out : ¬ S e.b
  rdy : e.k ∈ Region.ready .any ops listed
def Apart (ops : Array Oper) (es : List Er) : Prop := es.Pairwise fun e f => e.o.apart ops f.o = true ∧ f.o.apart ops e.o = true
theorem alloc_inj {w : World} {O O' : Obj} (h : w.alloc O = w.alloc O') : O = O' := by
  have h1 : w.heap.push O = w.heap.push O' := congrArg World.heap h
  have h2 := congrArg Array.back? h1
  simpa using h2
theorem put_puts {o : Oper} {v : Value} : ∀ (es : List Er) (a : Act), (∀ e ∈ es, o.apart ops e.o = true) → (puts es a).put o.dst v = puts es (a.put o.dst v)
  | [], _, _ => rfl
  | e :: es, a, h => by
    obtain ⟨_, h2, _⟩ := Oper.apart_spec (h e (List.mem_cons_self ..))
    show ((puts es a).put e.o.dst e.v).put o.dst v = (puts es (a.put o.dst v)).put e.o.dst e.v
    rw [← put_puts es a (fun f hf => h f (List.mem_cons_of_mem _ hf)), Act.put_comm _ v e.v h2]
theorem exec_puts {o : Oper} (hs : ∀ cs b, o.op ≠ .select cs b) : ∀ (es : List Er) (a : Act), (∀ e ∈ es, e.o.apart ops o = true) → execOp (puts es a).eval o = execOp a.eval o
  | [], _, _ => rfl
  | e :: es, a, h => by
    obtain ⟨h1, _, _⟩ := Oper.apart_spec (h e (List.mem_cons_self ..))
    show execOp ((puts es a).put e.o.dst e.v).eval o = _
    rw [execOp_put o hs _ e.o.dst e.v h1]
    exact exec_puts hs es a (fun f hf => h f (List.mem_cons_of_mem _ hf))
theorem want_puts {o : Oper} : ∀ (es : List Er) (a : Act), (∀ e ∈ es, e.o.apart ops o = true) → Region.wanted o (yielded ops (puts es a).tmps) = Region.wanted o (yielded ops a.tmps)
  | [], _, _ => rfl
  | e :: es, a, h => by
    obtain ⟨h1, _, _⟩ := Oper.apart_spec (h e (List.mem_cons_self ..))
    show Region.wanted o (yielded ops ((puts es a).put e.o.dst e.v).tmps) = _
    rw [wanted_put o _ e.o.dst e.v h1]
    exact want_puts es a (fun f hf => h f (List.mem_cons_of_mem _ hf))
theorem wpOpIn_lates {j : Nat} {oj : Oper} {K : Act → World → Prop} {w : World} (hj : ops[j]? = some oj) (hsd : noSD ops = true) :
    ∀ (es : List Er) (a : Act), (∀ e ∈ es, e.o.apart ops oj = true) → wpOpIn (fen X.ro) 0 X.P ops p.toQ j K a w → wpOpIn (fen X.ro) 0 X.P ops p.toQ j (fun a'' w' => ∃ a', a'' = puts es a' ∧ K a' w') (puts es a) w
  | [], a, _, h => wpOpIn_mono (fun a' w' k => ⟨a', rfl, k⟩) h
  | e :: es, a, he, h => by
    have h1 := wpOpIn_lates hj hsd es a (fun f hf => he f (List.mem_cons_of_mem _ hf)) h
    have h2 := wpOpIn_late (v := e.v) hj (he e (List.mem_cons_self ..)) (noSD_sel hsd hj).1 (noSD_sel hsd hj).2 h1
    refine wpOpIn_mono ?_ h2
    rintro a'' w' ⟨a1, rfl, a2, rfl, k⟩
    exact ⟨a2, rfl, k⟩
theorem marks_getD {es : List Er} {l : Array Bool} {k : Nat} (d : Bool) (h : ∀ e ∈ es, e.k ≠ k) : (marks es l).getD k d = l.getD k d := by
  induction es with
  | nil => rfl
  | cons e es ih =>
    show ((marks es l).setIfInBounds e.k true).getD k d = _
    rw [getD_set_ne d (h e (List.mem_cons_self ..)), ih (fun f hf => h f (List.mem_cons_of_mem _ hf))]
theorem marks_set {es : List Er} {l : Array Bool} {i : Nat} (h : ∀ e ∈ es, e.k ≠ i) : (marks es l).setIfInBounds i true = marks es (l.setIfInBounds i true) := by
  induction es with
  | nil => rfl
  | cons e es ih =>
    show ((marks es l).setIfInBounds e.k true).setIfInBounds i true = (marks es (l.setIfInBounds i true)).setIfInBounds e.k true
    rw [← ih (fun f hf => h f (List.mem_cons_of_mem _ hf)), Array.setIfInBounds_comm _ _ (h e (List.mem_cons_self ..))]
/-- What is ready with the early ones done, is the one that is on or another of B. -/
theorem ready_back {es : List Er} {l : Array Bool} {i : Nat} {B : List Nat} (hB : ∀ e ∈ es, e.k ∈ B) (h2 : ∀ k ∈ Region.ready .any ops (B.foldr (fun k l => l.setIfInBounds k true) l), k = i) {k : Nat}
    (hk : k ∈ Region.ready .any ops (marks es l)) : k = i ∨ k ∈ B := by
  by_cases hkB : k ∈ B
  · exact .inr hkB
  left
  refine h2 k ?_
  have getB : ∀ (B : List Nat) (j : Nat) (d : Bool), j ∉ B → (B.foldr (fun k l => l.setIfInBounds k true) l).getD j d = l.getD j d := fun B => by
    induction B with
    | nil => intro j d _; rfl
    | cons b B ih =>
      intro j d hj
      simp only [List.foldr_cons]
      rw [getD_set_ne d (show b ≠ j from by rintro rfl; exact hj (List.mem_cons_self ..)), ih j d (fun h => hj (List.mem_cons_of_mem _ h))]
  have up : ∀ (B : List Nat) (j : Nat), l.getD j false = true → (B.foldr (fun k l => l.setIfInBounds k true) l).getD j false = true := fun B => by
    induction B with
    | nil => intro j h; exact h
    | cons b B ih => intro j h; exact getD_set_true (ih j h)
  have inB : ∀ (B : List Nat) (j : Nat), j ∈ B → j < l.size → (B.foldr (fun k l => l.setIfInBounds k true) l).getD j false = true := fun B => by
    induction B with
    | nil => intro j h; cases h
    | cons b B ih =>
      intro j h hl
      have hs : ∀ B : List Nat, (B.foldr (fun k l => l.setIfInBounds k true) l).size = l.size := fun B => by
        induction B with
        | nil => rfl
        | cons b B ih => simp only [List.foldr_cons, Array.size_setIfInBounds]; exact ih
      rcases List.mem_cons.1 h with rfl | h
      · simp [hs, hl]
      · exact getD_set_true (ih j h hl)
  rw [mem_ready] at hk ⊢
  obtain ⟨h0, o, ho, hall⟩ := hk
  have hne : ∀ e ∈ es, e.k ≠ k := fun e he e2 => hkB (e2 ▸ hB e he)
  rw [marks_getD true hne] at h0
  refine ⟨by rw [getB B k true hkB]; exact h0, o, ho, fun e he hb => ?_⟩
  have h3 := hall e he hb
  by_cases hj : e.on ∈ B
  · refine inB B _ hj ?_
    have hs : (marks es l).size = l.size := by
      clear hne h3 hall h0 hB
      induction es with
      | nil => rfl
      | cons f es ih => show ((marks es l).setIfInBounds f.k true).size = _; rw [Array.size_setIfInBounds]; exact ih
    rcases Nat.lt_or_ge e.on l.size with h | h
    · exact h
    · simp [Array.getElem?_eq_none (show (marks es l).size ≤ e.on by omega)] at h3
  · rw [marks_getD false (k := e.on) (fun f hf e2 => hj (by rw [← e2]; exact hB f hf))] at h3
    exact up B _ h3
theorem ready_marks {es : List Er} {l : Array Bool} {k : Nat} (hk : k ∈ Region.ready .any ops l) (h : ∀ e ∈ es, e.k ≠ k) : k ∈ Region.ready .any ops (marks es l) := by
  induction es with
  | nil => exact hk
  | cons e es ih => exact ready_mono (ih (fun f hf => h f (List.mem_cons_of_mem _ hf))) (Ne.symm (h e (List.mem_cons_self ..)))

structure Inv (X : Ctx) (ops : Array Oper) (C : World → Prop) (l : List (Nat × Tag)) (S : Nat → Prop) (listed : Array Bool) (es : List Er) (a : Act) (w : World) : Prop where
  ok : ∀ e ∈ es, ErOk X ops C S listed a w e
  nd : (es.map Er.k).Nodup
  ap : ∀ e ∈ es, ∀ f ∈ es, e.k ≠ f.k → e.o.apart ops f.o = true
  tg : ∀ e ∈ es, ∃ B, (e.k, Tag.b B) ∈ l
  bs : ∀ e ∈ es, ∀ f ∈ es, e.k ≠ f.k → e.b ≠ f.b
  cw : C w
  lt : ∀ k, S k → k < w.heap.size

theorem born_born {o : Oper} {a : Act} {V : Nat → Value} {O : Obj} {e : Er} (h : Born X ops C o a V O) (cw : C e.w) (hr : (execOp a.eval o).run X.P e.w = .ok (.value e.v) (e.w.alloc e.O)) (hb : e.b = e.w.heap.size) : e.v = V e.b ∧ e.O = O := by
  have := h.run e.w cw
  rw [hr] at this
  simp only [Result.ok.injEq, Next.value.injEq] at this
  rw [hb]
  exact ⟨this.1, alloc_inj this.2⟩

theorem apart_symm {x y : Oper} (h : x.apart ops y = true) : y.apart ops x = true := by
  obtain ⟨h1, h2, h3⟩ := Oper.apart_spec h
  unfold Oper.apart
  cases hx : x.dst with
  | none =>
    cases hy : y.dst with
    | none => rfl
    | some d => have := h3 d hy; simp [this]
  | some d =>
    have a1 := h1 d hx
    cases hy : y.dst with
    | none => simp [a1]
    | some d' =>
      have a3 := h3 d' hy
      have a2 := h2 d hx
      rw [hy] at a2
      have a2' : d ≠ d' := fun e => a2 (by rw [e])
      simp [a1, a3, a2']
theorem apartK_spec {i k : Nat} {x y : Oper} (h : apartK ops i k = true) (hx : ops[i]? = some x) (hy : ops[k]? = some y) : x.apart ops y = true := by
  simpa [apartK, hx, hy] using h
theorem marks_false {es : List Er} {l : Array Bool} {k : Nat} (h : (marks es l).getD k true = false) : l.getD k true = false := by
  induction es with
  | nil => exact h
  | cons e es ih =>
    apply ih
    by_cases e2 : e.k = k
    · subst e2
      have : ((marks es l).setIfInBounds e.k true).getD e.k true = false := h
      rcases Nat.lt_or_ge e.k (marks es l).size with hl | hl
      · simp [hl] at this
      · simp [Array.getElem?_eq_none (show ((marks es l).setIfInBounds e.k true).size ≤ e.k by simpa using hl)] at this
    · have : ((marks es l).setIfInBounds e.k true).getD k true = false := h
      rwa [getD_set_ne true e2] at this
theorem marks_mem {es : List Er} {l : Array Bool} {e : Er} (he : e ∈ es) : (marks es l).getD e.k true = true := by
  induction es with
  | nil => cases he
  | cons f es ih =>
    show ((marks es l).setIfInBounds f.k true).getD e.k true = true
    by_cases e2 : f.k = e.k
    · rw [e2]
      rcases Nat.lt_or_ge e.k (marks es l).size with hl | hl
      · simp [hl]
      · simp [Array.getElem?_eq_none (show ((marks es l).setIfInBounds e.k true).size ≤ e.k by simpa using hl)]
    · rw [getD_set_ne true e2]
      rcases List.mem_cons.1 he with rfl | h
      · exact absurd rfl e2
      · exact ih h
structure Step (ops : Array Oper) (i : Nat) (B : List Nat) (r : List (Nat × Tag)) (listed : Array Bool) : Prop where
  rdy : i ∈ Region.ready .any ops listed
  all : ∀ k ∈ Region.ready .any ops listed, k = i ∨ k ∈ B
  out : i ∉ B
  nxt : ∀ k ∈ Region.ready .any ops (B.foldr (fun k l => l.setIfInBounds k true) listed), k = i
  brd : ∀ k ∈ B, k ∈ Region.ready .any ops listed
  ap : ∀ k ∈ B, apartK ops i k = true
  tg : ∀ k ∈ B, ∃ B', (k, Tag.b B') ∈ r
  apb : ∀ k ∈ B, ∀ k' ∈ B, k' = k ∨ apartK ops k k' = true
theorem okStep_spec {i : Nat} {B : List Nat} {r : List (Nat × Tag)} {listed : Array Bool} (h : okStep ops i B r listed = true) : Step ops i B r listed := by
  simp only [okStep, Bool.and_eq_true, List.contains_iff_mem, List.all_eq_true, Bool.or_eq_true, beq_iff_eq, Bool.not_eq_true'] at h
  obtain ⟨⟨⟨⟨h1, h2⟩, h3⟩, h4⟩, h5⟩ := h
  refine ⟨h1, h2, fun hm => ?_, h4, fun k hk => (h5 k hk).1.1.1.1, fun k hk => (h5 k hk).1.1.1.2, fun k hk => ?_, fun k hk => (h5 k hk).2⟩
  · have : B.contains i = true := by simpa using hm
    rw [this] at h3; cases h3
  · have := (h5 k hk).1.2
    simp only [List.any_eq_true, Bool.and_eq_true, beq_iff_eq] at this
    obtain ⟨⟨k', tg⟩, hm, rfl, ht⟩ := this
    cases tg with
    | b B' => exact ⟨B', hm⟩
    | q => cases ht
    | n _ => cases ht

theorem AnyC.early {l : List (Nat × Tag)} {S : Nat → Prop} {listed : Array Bool} {es : List Er} {a : Act} {w : World} {m k i : Nat} {B : List Nat} {r : List (Nat × Tag)} (hCb : ∀ w w', C w → Bel w w' → C w') (hsd : noSD ops = true)
    (hI : Inv X ops C l S listed es a w) (hs : Step ops i B r listed) (hsub : ∀ x ∈ r, x ∈ l) (hB : Borns X ops C B a) (hkB : k ∈ B) (hk : k ∈ Region.ready .any ops (marks es listed)) (hes : ∀ e ∈ es, e.k = i ∨ e.k ∈ B)
    (go : ∀ e w'', Bel w w'' → Inv X ops C l S listed (e :: es) a w'' → AnyC X ops p C m (marks (e :: es) listed) (puts (e :: es) a) w'') :
    wpOpIn (fen X.ro) 0 X.P ops p.toQ k (fun a' w' => C w' ∧ ∀ w'', Bel w' w'' → AnyC X ops p C m ((marks es listed).setIfInBounds k true) a' w'') (puts es a) w := by
  obtain ⟨o, V, O, ho, hb⟩ := hB k hkB
  have hnk : ∀ e ∈ es, e.k ≠ k := fun e he e2 => by
    have h1 := (mem_ready.1 hk).1
    rw [← e2, marks_mem he] at h1; cases h1
  have hap : ∀ e ∈ es, e.o.apart ops o = true ∧ o.apart ops e.o = true := fun e he => by
    have hop := (hI.ok e he).op
    rcases hes e he with h | h
    · have := apartK_spec (hs.ap k hkB) (h ▸ hop) ho
      exact ⟨this, apart_symm this⟩
    · rcases hs.apb k hkB e.k h with h2 | h2
      · exact absurd h2 (hnk e he)
      · have := apartK_spec h2 ho hop
        exact ⟨apart_symm this, this⟩
  have hrun : (execOp (puts es a).eval o).run X.P w = .ok (.value (V w.heap.size)) (w.alloc O) := by
    rw [exec_puts (noSD_sel hsd ho).1 es a (fun e he => (hap e he).1)]
    exact hb.run w hI.cw
  have hbel : Bel w (w.alloc O) := Bel.alloc' w O
  have hnew : (w.alloc O).heap[w.heap.size]? = some O := by show (w.heap.push O)[w.heap.size]? = some O; simp
  have hsz : (w.alloc O).heap.size = w.heap.size + 1 := by show (w.heap.push O).size = _; simp
  unfold wpOpIn
  simp only [ho, want_puts es a (fun e he => (hap e he).1), hb.want, if_true]
  refine ⟨about_true, ?_⟩
  rw [semAt_of (noSD_sel hsd ho).2, hrun]
  refine ⟨hCb _ _ hI.cw hbel, fun w'' hb'' => ?_⟩
  refine go ⟨k, o, V w.heap.size, w.heap.size, O, w⟩ w'' (hbel.trans' hb'') ?_
  have hlt : ∀ e ∈ es, e.b < w.heap.size := fun e he => by
    have := (hI.ok e he).here
    exact (Array.getElem?_eq_some_iff.1 this).1
  refine ⟨fun e he => ?_, ?_, fun e he f hf => ?_, fun e he => ?_, fun e he f hf => ?_, hCb _ _ hI.cw (hbel.trans' hb''), fun x hx => Nat.lt_of_lt_of_le (hI.lt x hx) (hbel.trans' hb'').size⟩
  · rcases List.mem_cons.1 he with rfl | he
    · refine ⟨ho, hI.cw, hb.run w hI.cw, rfl, ?_, fun h => Nat.lt_irrefl _ (hI.lt _ h), hs.brd k hkB⟩
      show w''.heap[w.heap.size]? = some O
      rw [hb''.block _ (by rw [hsz]; omega)]
      exact hnew
    · have h := hI.ok e he
      exact ⟨h.op, h.cw, h.run, h.num, by rw [(hbel.trans' hb'').block _ (hlt e he)]; exact h.here, h.out, h.rdy⟩
  · rw [List.map_cons, List.nodup_cons]
    refine ⟨fun hm => ?_, hI.nd⟩
    obtain ⟨e, he, h⟩ := List.mem_map.1 hm
    exact hnk e he h
  · intro hne
    rcases List.mem_cons.1 he with rfl | he <;> rcases List.mem_cons.1 hf with rfl | hf
    · exact absurd rfl hne
    · exact (hap f hf).2
    · exact (hap e he).1
    · exact hI.ap e he f hf hne
  · rcases List.mem_cons.1 he with rfl | he
    · obtain ⟨B', h⟩ := hs.tg k hkB
      exact ⟨B', hsub _ h⟩
    · exact hI.tg e he
  · intro hne
    rcases List.mem_cons.1 he with rfl | he <;> rcases List.mem_cons.1 hf with rfl | hf
    · exact absurd rfl hne
    · exact (Nat.ne_of_lt (hlt f hf)).symm
    · exact Nat.ne_of_lt (hlt e he)
    · exact hI.bs e he f hf hne

theorem Inv.len {r : List (Nat × Tag)} {i : Nat} {tg : Tag} {S : Nat → Prop} {listed : Array Bool} {es : List Er} {a : Act} {w : World} (h : Inv X ops C ((i, tg) :: r) S listed es a w) (hne : ∀ e ∈ es, e.k ≠ i) : es.length ≤ r.length := by
  have := pigeon (es.map Er.k) (r.map (·.1)) h.nd (fun k hk => by
    obtain ⟨e, he, rfl⟩ := List.mem_map.1 hk
    obtain ⟨B, hb⟩ := h.tg e he
    rcases List.mem_cons.1 hb with e1 | hb
    · exact absurd (congrArg Prod.fst e1) (hne e he)
    · exact List.mem_map.2 ⟨_, hb, rfl⟩)
  simpa using this
theorem Inv.up {r : List (Nat × Tag)} {i : Nat} {tg : Tag} {S S' : Nat → Prop} {listed : Array Bool} {es : List Er} {a a' : Act} {w w' : World} (h : Inv X ops C ((i, tg) :: r) S listed es a w) (hne : ∀ e ∈ es, e.k ≠ i)
    (cw : C w') (hrun : ∀ e ∈ es, (execOp a'.eval e.o).run X.P e.w = (execOp a.eval e.o).run X.P e.w) (hh : ∀ e ∈ es, w'.heap[e.b]? = w.heap[e.b]?) (hout : ∀ e ∈ es, ¬ S' e.b) (hlt : ∀ k, S' k → k < w'.heap.size) :
    Inv X ops C r S' (listed.setIfInBounds i true) es a' w' := by
  refine ⟨fun e he => ?_, h.nd, h.ap, fun e he => ?_, h.bs, cw, hlt⟩
  · have k := h.ok e he
    exact ⟨k.op, k.cw, by rw [hrun e he]; exact k.run, k.num, by rw [hh e he]; exact k.here, hout e he, ready_mono k.rdy (hne e he)⟩
  · obtain ⟨B, hb⟩ := h.tg e he
    rcases List.mem_cons.1 hb with e1 | hb
    · exact absurd (congrArg Prod.fst e1) (hne e he)
    · exact ⟨B, hb⟩
theorem Inv.early_lt {l : List (Nat × Tag)} {S : Nat → Prop} {listed : Array Bool} {es : List Er} {a : Act} {w : World} (h : Inv X ops C l S listed es a w) : ∀ e ∈ es, e.b < w.heap.size := fun e he =>
  (Array.getElem?_eq_some_iff.1 (h.ok e he).here).1

theorem BW.turn {i : Nat} {B : List Nat} {r : List (Nat × Tag)} {listed : Array Bool} {S : Nat → Prop} {a : Act} (hC0 : ∀ w, C w → X.w0.heap.size ≤ w.heap.size) (hsd : noSD ops = true)
    (IH : ∀ (n : Nat) (es : List Er) (a : Act) (w : World) (S : Nat → Prop), r.length ≤ n + es.length → Inv X ops C r S (listed.setIfInBounds i true) es a w → (∀ w', Bel w w' → BW X ops p C r S a w') → AnyC X ops p C n (marks es (listed.setIfInBounds i true)) (puts es a) w)
    (n : Nat) (es : List Er) (w : World) (hn : ((i, Tag.b B) :: r).length ≤ n + es.length) (hI : Inv X ops C ((i, Tag.b B) :: r) S listed es a w) (hB : ∀ w', Bel w w' → BW X ops p C ((i, Tag.b B) :: r) S a w')
    (hex : ∃ e ∈ es, e.k = i) : AnyC X ops p C n (marks es listed) (puts es a) w := by
  obtain ⟨e, he, hei⟩ := hex
  obtain ⟨s, t, rfl⟩ := List.append_of_mem he
  have hnd := hI.nd
  simp only [List.map_append, List.map_cons] at hnd
  have hdis : ∀ f ∈ s ++ t, f.k ≠ e.k := fun f hf hk => by
    have h1 := List.nodup_append.1 hnd
    rcases List.mem_append.1 hf with hf | hf
    · exact h1.2.2 _ (List.mem_map.2 ⟨f, hf, rfl⟩) _ (List.mem_cons_self ..) hk
    · exact (List.nodup_cons.1 h1.2.1).1 (List.mem_map.2 ⟨f, hf, hk⟩)
  have hsub : ∀ f ∈ s ++ t, f ∈ s ++ e :: t := fun f hf => by
    rcases List.mem_append.1 hf with h | h
    · exact List.mem_append_left _ h
    · exact List.mem_append_right _ (List.mem_cons_of_mem _ h)
  have hap : ∀ f ∈ s ++ t, e.o.apart ops f.o = true := fun f hf => hI.ap e he f (hsub f hf) (Ne.symm (hdis f hf))
  have hne : ∀ f ∈ s ++ t, f.k ≠ i := fun f hf => by rw [← hei]; exact hdis f hf
  have hp : puts (s ++ e :: t) a = puts (s ++ t) (a.put e.o.dst e.v) := by
    unfold puts
    rw [List.foldr_append, List.foldr_append, List.foldr_cons]
    congr 1
    exact put_puts t a (fun f hf => hap f (List.mem_append_right _ hf))
  have hm : marks (s ++ e :: t) listed = marks (s ++ t) (listed.setIfInBounds i true) := by
    unfold marks
    rw [List.foldr_append, List.foldr_append, List.foldr_cons, hei]
    congr 1
    exact marks_set (fun f hf => hne f (List.mem_append_right _ hf))
  rw [hp, hm]
  have hke := hI.ok e he
  refine IH n (s ++ t) (a.put e.o.dst e.v) w (fun k => S k ∨ k = e.b) (by simp only [List.length_append, List.length_cons] at hn ⊢; omega) ?_ fun w' hb => ?_
  · refine ⟨fun f hf => ?_, ?_, fun f hf g hg => hI.ap f (hsub f hf) g (hsub g hg), fun f hf => ?_, fun f hf g hg => hI.bs f (hsub f hf) g (hsub g hg), hI.cw, fun k hk => ?_⟩
    · have h := hI.ok f (hsub f hf)
      refine ⟨h.op, h.cw, ?_, h.num, h.here, fun hS => ?_, ready_mono h.rdy (hne f hf)⟩
      · rw [execOp_put f.o (noSD_sel hsd h.op).1 a e.o.dst e.v (Oper.apart_spec (hap f hf)).1]; exact h.run
      · rcases hS with h1 | h1
        · exact h.out h1
        · exact hI.bs f (hsub f hf) e he (hdis f hf) h1
    · rw [List.map_append]
      have h1 := List.nodup_append.1 hnd
      refine List.nodup_append.2 ⟨h1.1, (List.nodup_cons.1 h1.2.1).2, fun x hx y hy => h1.2.2 x hx y (List.mem_cons_of_mem _ hy)⟩
    · obtain ⟨B', hb⟩ := hI.tg f (hsub f hf)
      rcases List.mem_cons.1 hb with e1 | hb
      · exact absurd (congrArg Prod.fst e1) (hne f hf)
      · exact ⟨B', hb⟩
    · rcases hk with hk | rfl
      · exact hI.lt k hk
      · exact hI.early_lt e he
  · obtain ⟨_, o, V, O, ho, hbn, hgo⟩ := hB w' hb
    have heo : e.o = o := by
      have := hke.op
      rw [hei, ho] at this
      exact (Option.some.inj this).symm
    subst heo
    obtain ⟨h1, h2⟩ := born_born hbn hke.cw hke.run hke.num
    have := hgo e.b w' (Bel.refl _) (by rw [hke.num]; exact hC0 _ hke.cw) (by rw [hb.block _ (hI.early_lt e he), ← h2]; exact hke.here) hke.out
    rw [h1]; exact this

theorem BW.any (hC0 : ∀ w, C w → X.w0.heap.size ≤ w.heap.size) (hCb : ∀ w w', C w → Bel w w' → C w') (hsd : noSD ops = true) : ∀ (l : List (Nat × Tag)) (listed : Array Bool), orderW ops l listed = true → ∀ (n : Nat) (es : List Er) (a : Act) (w : World) (S : Nat → Prop),
    l.length ≤ n + es.length → Inv X ops C l S listed es a w → (∀ w', Bel w w' → BW X ops p C l S a w') → AnyC X ops p C n (marks es listed) (puts es a) w
  | [], listed, hO, n, es, a, w, S, hn, hI, hB => by
    have : es = [] := by
      cases es with
      | nil => rfl
      | cons e es => obtain ⟨_, h⟩ := hI.tg e (List.mem_cons_self ..); cases h
    subst this
    have hr : Region.ready .any ops listed = [] := by simpa [orderW] using hO
    have hp : p.nrm a w := hB w (Bel.refl _)
    cases n with
    | zero => exact ⟨hr, hp⟩
    | succ n => exact ⟨fun _ => hp, fun i hi => by rw [show marks [] listed = listed from rfl, hr] at hi; cases hi⟩
  | (i, tg) :: r, listed, hO, n, es, a, w, S, hn, hI, hB => by
    simp only [orderW, Bool.and_eq_true, Bool.not_eq_true'] at hO
    obtain ⟨⟨hT, hir⟩, hR⟩ := hO
    have hir' : ∀ tg', (i, tg') ∉ r := fun tg' h => by
      have : (r.any fun t => t.1 == i) = true := List.any_eq_true.2 ⟨_, h, by simp⟩
      rw [this] at hir; cases hir
    have IH := BW.any hC0 hCb hsd r (listed.setIfInBounds i true) hR
    have hnb : ∀ e ∈ es, e.k = i → ∃ B, tg = .b B := fun e he hk => by
      obtain ⟨B, hb⟩ := hI.tg e he
      rcases List.mem_cons.1 hb with e1 | hb
      · exact ⟨B, (congrArg Prod.snd e1).symm⟩
      · rw [hk] at hb; exact absurd hb (hir' _)
    cases tg with
    | q =>
      have hne : ∀ e ∈ es, e.k ≠ i := fun e he hk => by obtain ⟨B, h⟩ := hnb e he hk; cases h
      have hl := hI.len hne
      simp only [Bool.and_eq_true, List.contains_iff_mem] at hT
      obtain ⟨hrd, hfr⟩ := hT
      obtain ⟨o, v, ho, hy, hk⟩ := hB w (Bel.refl _)
      cases n with
      | zero => simp only [List.length_cons] at hn; omega
      | succ m =>
        have hiun := (mem_ready.1 hrd).1
        have hap : ∀ e ∈ es, o.apart ops e.o = true := fun e he => by
          have h := hI.ok e he
          obtain ⟨hun, oe, hoe, hall⟩ := mem_ready.1 h.rdy
          rw [h.op] at hoe; cases hoe
          refine Region.free_spec ho hfr e.k e.o h.op (hne e he) hun (fun ed hed hb he2 => ?_)
          have h1 := hall ed hed hb
          rw [he2] at h1
          rcases Nat.lt_or_ge i listed.size with h' | h'
          · simp [h'] at hiun h1; rw [hiun] at h1; cases h1
          · simp [Array.getElem?_eq_none h'] at h1
        refine AnyC.take (v := v) hCb ho hsd m (marks es listed) (puts es a) w (fun j oj hj hji hun hno => Region.free_spec ho hfr j oj hj hji (marks_false hun) hno) (ready_marks hrd hne) ?_ hI.cw fun w' hb => ?_
        · unfold YieldsC QRun at hy ⊢
          rw [want_puts es a (fun e he => apart_symm (hap e he)), exec_puts (noSD_sel hsd ho).1 es a (fun e he => apart_symm (hap e he))]
          exact hy
        · rw [marks_set hne, put_puts es a hap]
          refine IH m es (a.put o.dst v) w' S (by simp only [List.length_cons] at hn; omega) (hI.up hne (hCb _ _ hI.cw hb) (fun e he => ?_) (fun e he => hb.block _ (hI.early_lt e he)) (fun e he => (hI.ok e he).out) (fun k h => Nat.lt_of_lt_of_le (hI.lt k h) hb.size)) (fun w'' hb' => hk w'' (hb.trans' hb'))
          rw [execOp_put e.o (noSD_sel hsd (hI.ok e he).op).1 a o.dst v (Oper.apart_spec (hap e he)).1]
    | n B =>
      have hs := okStep_spec hT
      have hne : ∀ e ∈ es, e.k ≠ i := fun e he hk => by obtain ⟨B, h⟩ := hnb e he hk; cases h
      have heB : ∀ e ∈ es, e.k ∈ B := fun e he => (hs.all _ (hI.ok e he).rdy).resolve_left (hne e he)
      clear hnb
      induction n generalizing es w with
      | zero => have hl := hI.len hne; simp only [List.length_cons] at hn; omega
      | succ m ihm =>
        refine ⟨fun h => (by have := ready_marks hs.rdy hne; rw [h] at this; cases this), fun k hk => ?_⟩
        obtain ⟨hBs, hwp⟩ := hB w (Bel.refl _)
        rcases ready_back heB hs.nxt hk with rfl | hkB
        · obtain ⟨_, oi, hoi, _⟩ := mem_ready.1 hs.rdy
          have hap : ∀ e ∈ es, e.o.apart ops oi = true := fun e he => apart_symm (apartK_spec (hs.ap _ (heB e he)) hoi (hI.ok e he).op)
          have h1 := wpOpIn_keep (Z := fun a' => ∀ e ∈ es, (execOp a'.eval e.o).run X.P e.w = (execOp a.eval e.o).run X.P e.w) hoi (noSD_sel hsd hoi).2
            (fun a' u hz e he => by rw [execOp_put e.o (noSD_sel hsd (hI.ok e he).op).1 a' oi.dst u (Oper.apart_spec (apart_symm (hap e he))).1]; exact hz e he) (fun a' d hz e he => hz e he) (fun e he => rfl) hwp
          refine wpOpIn_mono ?_ (wpOpIn_lates hoi hsd es a hap h1)
          rintro a'' w' ⟨a', rfl, hz, hc, hsz, S', hS, hkp, hgo⟩
          refine ⟨hc, fun w'' hb => ?_⟩
          rw [marks_set hne]
          refine IH m es a' w'' S' (by simp only [List.length_cons] at hn; omega) (hI.up hne (hCb _ _ hc hb) hz (fun e he => ?_) (fun e he h => ?_) (fun k h => Nat.lt_of_lt_of_le (hS k h).2 hb.size)) (fun w3 hb' => hgo w3 (hb.trans' hb'))
          · have hl := hI.early_lt e he
            rw [hb.block _ (Nat.lt_of_lt_of_le hl hsz)]
            exact hkp _ hl (hI.ok e he).out
          · rcases (hS _ h).1 with h | h
            · exact (hI.ok e he).out h
            · exact Nat.lt_irrefl _ (Nat.lt_of_lt_of_le (hI.early_lt e he) h)
        · refine AnyC.early hCb hsd hI hs (fun x hx => List.mem_cons_of_mem _ hx) hBs hkB hk (fun e he => .inr (heB e he)) fun e w'' hb hI' => ?_
          have hne' : ∀ f ∈ e :: es, f.k ≠ i := fun f hf hk => by
            obtain ⟨B', hb⟩ := hI'.tg f hf
            rcases List.mem_cons.1 hb with e1 | hb
            · exact absurd (congrArg Prod.snd e1) (by intro h; cases h)
            · rw [hk] at hb; exact hir' _ hb
          exact ihm (e :: es) w'' (by simp only [List.length_cons] at hn ⊢; omega) hI' (fun w3 hb' => hB w3 (hb.trans' hb')) hne' (fun f hf => (hs.all _ (hI'.ok f hf).rdy).resolve_left (hne' f hf))
    | b B =>
      have hs := okStep_spec hT
      have heB : ∀ e ∈ es, e.k = i ∨ e.k ∈ B := fun e he => hs.all _ (hI.ok e he).rdy
      clear hnb
      induction n generalizing es w with
      | zero =>
        by_cases hex : ∃ e ∈ es, e.k = i
        · exact BW.turn hC0 hsd IH 0 es w hn hI hB hex
        · have hne : ∀ e ∈ es, e.k ≠ i := fun e he hk => hex ⟨e, he, hk⟩
          have hl := hI.len hne; simp only [List.length_cons] at hn; omega
      | succ m ihm =>
        by_cases hex : ∃ e ∈ es, e.k = i
        · exact BW.turn hC0 hsd IH (m + 1) es w hn hI hB hex
        have hne : ∀ e ∈ es, e.k ≠ i := fun e he hk => hex ⟨e, he, hk⟩
        have heB' : ∀ e ∈ es, e.k ∈ B := fun e he => (heB e he).resolve_left (hne e he)
        refine ⟨fun h => (by have := ready_marks hs.rdy hne; rw [h] at this; cases this), fun k hk => ?_⟩
        obtain ⟨hBs, o, V, O, ho, hb, hgo⟩ := hB w (Bel.refl _)
        rcases ready_back heB' hs.nxt hk with rfl | hkB
        · have hap : ∀ e ∈ es, o.apart ops e.o = true := fun e he => apartK_spec (hs.ap _ (heB' e he)) ho (hI.ok e he).op
          have hbel : Bel w (w.alloc O) := Bel.alloc' w O
          have hnew : (w.alloc O).heap[w.heap.size]? = some O := by show (w.heap.push O)[w.heap.size]? = some O; simp
          have hsz : (w.alloc O).heap.size = w.heap.size + 1 := by show (w.heap.push O).size = _; simp
          unfold wpOpIn
          simp only [ho, want_puts es a (fun e he => apart_symm (hap e he)), hb.want, if_true]
          refine ⟨about_true, ?_⟩
          rw [semAt_of (noSD_sel hsd ho).2, exec_puts (noSD_sel hsd ho).1 es a (fun e he => apart_symm (hap e he)), hb.run w hI.cw]
          refine ⟨hCb _ _ hI.cw hbel, fun w'' hb'' => ?_⟩
          show AnyC X ops p C m _ ((puts es a).put o.dst (V w.heap.size)) w''
          rw [marks_set hne, put_puts es a hap]
          have hbb := hbel.trans' hb''
          refine IH m es (a.put o.dst (V w.heap.size)) w'' (fun k => S k ∨ k = w.heap.size) (by simp only [List.length_cons] at hn; omega)
            (hI.up hne (hCb _ _ hI.cw hbb) (fun e he => by rw [execOp_put e.o (noSD_sel hsd (hI.ok e he).op).1 a o.dst _ (Oper.apart_spec (hap e he)).1]) (fun e he => hbb.block _ (hI.early_lt e he)) (fun e he h => ?_) (fun k h => ?_))
            (fun w3 hb3 => hgo w.heap.size w3 (hbb.trans' hb3) (hC0 _ hI.cw) ?_ (fun h => Nat.lt_irrefl _ (hI.lt _ h)))
          · rcases h with h | h
            · exact (hI.ok e he).out h
            · exact Nat.lt_irrefl _ (h ▸ hI.early_lt e he)
          · rcases h with h | rfl
            · exact Nat.lt_of_lt_of_le (hI.lt k h) hbb.size
            · exact Nat.lt_of_lt_of_le (by rw [hsz]; omega) hb''.size
          · rw [(hb''.trans' hb3).block _ (by rw [hsz]; omega)]
            exact hnew
        · refine AnyC.early hCb hsd hI hs (fun x hx => List.mem_cons_of_mem _ hx) hBs hkB hk heB fun e w'' hb hI' => ?_
          exact ihm (e :: es) w'' (by simp only [List.length_cons] at hn ⊢; omega) hI' (fun w3 hb' => hB w3 (hb.trans' hb')) (fun f hf => hs.all _ (hI'.ok f hf).rdy)
end

/-! ### The walk over states -/
/-- The same walk, told from H and w on. -/
abbrev Ctx.at (X : Ctx) (H : Heap) (w : World) : Ctx := { X with H0 := H, w0 := w }
/-- An operation that only lays a block, in every memory that keeps what is named. -/
def Births (X : Ctx) (o : Oper) (E : Env) (H : Heap) (V : Nat → Value) (O : Obj) : Prop :=
  ∀ a w, AE X E a → HW X.H0 X.w0 H w → (execOp a.eval o).run X.P w = .ok (.value (V w.heap.size)) (w.alloc O)
def BornsE (X : Ctx) (ops : Array Oper) (Hq : Heap) (B : List Nat) (E : Env) : Prop :=
  ∀ k ∈ B, ∃ o V O, ops[k]? = some o ∧ wantedE ops E o = some true ∧ Births X o E Hq V O
/-- 'Hq': what no operation of the region turns. -/
def WB (X : Ctx) (ops : Array Oper) (p : Post) (Hq : Heap) (l : List (Nat × Tag)) (E : Env) (H : Heap) : Prop :=
  ∀ a w S, (∀ k, S k ↔ k ∈ keys H) → AE X E a → HW X.H0 X.w0 H w → BW X ops p (fun w => HW X.H0 X.w0 Hq w) l S a w
section
variable {X : Ctx} {ops : Array Oper} {p : Post} {Hq : Heap} {E : Env} {H F : Heap} {r : List (Nat × Tag)} {i : Nat} {o : Oper} {B : List Nat}
theorem BornsE.nil : BornsE X ops Hq [] E := fun _ h => by cases h
theorem BornsE.cons {k : Nat} {V : Nat → Value} {O : Obj} (ho : ops[k]? = some o) (hg : wantedE ops E o = some true) (h : Births X o E Hq V O) (t : BornsE X ops Hq B E) : BornsE X ops Hq (k :: B) E := fun j hj => by
  rcases List.mem_cons.1 hj with rfl | hj
  · exact ⟨o, V, O, ho, hg, h⟩
  · exact t j hj
theorem BornsE.borns {a : Act} (h : BornsE X ops Hq B E) (ha : AE X E a) : Borns X ops (fun w => HW X.H0 X.w0 Hq w) B a := fun k hk => by
  obtain ⟨o, V, O, ho, hg, hb⟩ := h k hk
  exact ⟨o, V, O, ho, wantedE_spec ha hg, fun w hw => hb a w ha hw⟩
theorem WC_drawB {id : Nat} {l : List Oper} (Hq : Heap) (ord : List (Nat × Tag)) (hm : X.P.follows .mixedOrders = true) (hsd : noSD l.toArray = true) (hlen : ord.length = l.length)
    (hB : orderW l.toArray ord (Array.replicate l.length false) = true) (hq : Pulls Hq H F) (h : WB X l.toArray p Hq ord E H) : WC X (.region id l.toArray true) p E H := by
  intro a w ha hw
  refine wpIn_region_any hm ?_
  have hb : Bel w { w with drawn := w.drawn + 1 } := Bel.drew' w
  have hw1 := hw.bel hb
  have h1 := BW.any (X := X) (p := p) (C := fun w => HW X.H0 X.w0 Hq w) (fun _ h => h.size) (fun _ _ h b => h.bel b) hsd ord _ hB ord.length [] a _ (fun k => k ∈ keys H) (by simp)
    ⟨fun e h => (by cases h), List.nodup_nil, fun e h => (by cases h), fun e h => (by cases h), fun e h => (by cases h), (hw1.perm hq.perm).left, fun k hk => hw1.hok.lt hk⟩
    (fun w' hb' => h a _ _ (fun _ => Iff.rfl) ha (hw1.bel hb'))
  rw [hlen] at h1
  have := AnyC.sound _ _ _ _ h1
  simpa [marks, puts] using this
theorem WB_nil (h : WQ X p.nrm E H) : WB X ops p Hq [] E H := fun a w _ _ ha hw => h a w ha hw
theorem WB_val {d : Nat} {v : Value} (ho : ops[i]? = some o) (hg : wantedE ops E o = some true) (hd : o.dst = some d) (hN : Nat.blt d X.N = true) (h : Runs X o E Hq v)
    (k : WB X ops p Hq r ((d, v) :: E) H) : WB X ops p Hq ((i, .q) :: r) E H := fun a w S hS ha hw =>
  ⟨o, v, ho, .inl ⟨wantedE_spec ha hg, fun w' hw' => .inl (h.2 a w' ha hw')⟩, fun w' hb => k _ _ S hS (by rw [hd]; exact ha.put d v hN) (hw.bel hb)⟩
theorem WB_skip {d : Nat} (ho : ops[i]? = some o) (hg : wantedE ops E o = some false) (hd : o.dst = some d) (hN : Nat.blt d X.N = true)
    (k : WB X ops p Hq r ((d, undef) :: E) H) : WB X ops p Hq ((i, .q) :: r) E H := fun a w S hS ha hw =>
  ⟨o, undef, ho, .inr ⟨wantedE_spec ha hg, rfl⟩, fun w' hb => k _ _ S hS (by rw [hd]; exact ha.put d undef hN) (hw.bel hb)⟩
theorem WB_split {s : Nat} {b : Bool} {l : List (Nat × Tag)} (h : gtE E s = some (.bool b)) (h1 : b = true → WB X ops p Hq l ((s, .bool true) :: E) H) (h2 : b = false → WB X ops p Hq l ((s, .bool false) :: E) H) : WB X ops p Hq l E H := by
  have key : ∀ (c : Bool), b = c → ∀ a, AE X E a → AE X ((s, .bool c) :: E) a := fun c hc a ha => ⟨ha.size, ha.defers, fun t v ht => by
    rw [get_cons] at ht
    split at ht
    · rename_i e; subst e; cases ht; rw [← hc]; exact ha.env _ _ h
    · exact ha.env _ _ ht⟩
  intro a w S hS ha hw
  cases hb : b with
  | true => exact h1 hb a w S hS (key true hb a ha) hw
  | false => exact h2 hb a w S hS (key false hb a ha) hw
theorem WB_splitD {s : Nat} {q : Prop} [Decidable q] {l : List (Nat × Tag)} (h : gtE E s = some (.bool (decide q))) (h1 : q → WB X ops p Hq l ((s, .bool true) :: E) H) (h2 : ¬ q → WB X ops p Hq l ((s, .bool false) :: E) H) : WB X ops p Hq l E H :=
  WB_split h (fun e => h1 (of_decide_eq_true e)) (fun e => h2 (of_decide_eq_false e))
theorem WB_set {s : Nat} {v v' : Value} {l : List (Nat × Tag)} (h : gtE E s = some v') (he : v' = v) (k : WB X ops p Hq l ((s, v) :: E) H) : WB X ops p Hq l E H := by
  subst he
  intro a w S hS ha hw
  refine k a w S hS ⟨ha.size, ha.defers, fun t v ht => ?_⟩ hw
  rw [get_cons] at ht
  split at ht
  · rename_i e; subst e; cases ht; exact ha.env _ _ h
  · exact ha.env _ _ ht
theorem WB_none {l : List (Nat × Tag)} (e : TypeId) (k : WB X ops p Hq l E (⟨none, cl [] e⟩ :: H)) : WB X ops p Hq l E H := fun a w S hS ha hw =>
  k a w S (fun j => by rw [hS j]; simp [keys]) ha (hw.addNone e)
theorem WB_perm {l : List (Nat × Tag)} {H' : Heap} (q : H.Perm H') (k : WB X ops p Hq l E H') : WB X ops p Hq l E H := fun a w S hS ha hw =>
  k a w S (fun j => by rw [hS j]; exact (keys_perm q).mem_iff) ha (hw.perm q)
theorem HW.self {H0 H H' : Heap} {w0 w w' : World} (hw : HW H0 w0 H w) (c : HW H w H' w') : HW H0 w0 H' w' := by
  have := hw.frame (Hp := H) (F := []) (by rw [List.append_nil]) c
  rwa [List.append_nil] at this
theorem WB_turn {a : Act} {w : World} {S : Nat → Prop} {R : Value → Heap → Prop} (hS : ∀ k, S k ↔ k ∈ keys H) (hbs : BornsE X ops Hq B E) (ho : ops[i]? = some o) (hg : wantedE ops E o = some true)
    (h : ∀ w, Does (X.at H w) o E H R) (ha : AE X E a) (hw : HW X.H0 X.w0 H w) (k : ∀ v H' w'', R v H' → HW X.H0 X.w0 H' w'' → (∃ F, Pulls Hq H' F) ∧ ∀ S', (∀ k, S' k ↔ k ∈ keys H') → BW X ops p (fun w => HW X.H0 X.w0 Hq w) r S' (a.put o.dst v) w'') :
    BW X ops p (fun w => HW X.H0 X.w0 Hq w) ((i, .n B) :: r) S a w := by
  refine ⟨hbs.borns ha, ?_⟩
  simp only [wpOpIn, ho, wantedE_spec ha hg, if_true]
  refine h w a w ⟨ha.size, ha.defers, ha.env⟩ (HW.start hw.hok) _ _ fun v H' w' hr (hw' : HW H w H' w') => ?_
  have hwX := hw.self hw'
  obtain ⟨⟨F, hq⟩, -⟩ := k v H' w' hr hwX
  refine ⟨(hwX.perm hq.perm).left, hw'.size, fun j => j ∈ keys H', fun j hj => ⟨?_, hw'.hok.lt hj⟩, fun j hj hn => hw'.kept j hj (fun h => hn ((hS j).2 h)), fun w'' hb => (k v H' w'' hr (hwX.bel hb)).2 _ fun _ => Iff.rfl⟩
  rcases hw'.own j hj with h | h
  · exact .inl ((hS j).2 h)
  · exact .inr h
/-- An operation that turns something, where beside it only births may come up. -/
theorem WB_do {d : Nat} {R : Value → Heap → Prop} (ho : ops[i]? = some o) (hg : wantedE ops E o = some true) (hd : o.dst = some d) (hN : Nat.blt d X.N = true) (hbs : BornsE X ops Hq B E) (h : ∀ w, Does (X.at H w) o E H R)
    (k : ∀ v H', R v H' → (∃ F, Pulls Hq H' F) ∧ WB X ops p Hq r ((d, v) :: E) H') : WB X ops p Hq ((i, .n B) :: r) E H := fun _ _ _ hS ha hw =>
  WB_turn hS hbs ho hg h ha hw fun v H' _ hr hw' => ⟨(k v H' hr).1, fun S' hS' => (k v H' hr).2 _ _ S' hS' (by rw [hd]; exact ha.put d v hN) hw'⟩
theorem WB_do0 {R : Value → Heap → Prop} (ho : ops[i]? = some o) (hg : wantedE ops E o = some true) (hd : o.dst = none) (hbs : BornsE X ops Hq B E) (h : ∀ w, Does (X.at H w) o E H R)
    (k : ∀ v H', R v H' → (∃ F, Pulls Hq H' F) ∧ WB X ops p Hq r E H') : WB X ops p Hq ((i, .n B) :: r) E H := fun _ _ _ hS ha hw =>
  WB_turn hS hbs ho hg h ha hw fun v H' _ hr hw' => ⟨(k v H' hr).1, fun S' hS' => (k v H' hr).2 _ _ S' hS' (by rw [hd]; exact ha.put0 v) hw'⟩
theorem WB_skipN {d : Nat} (ho : ops[i]? = some o) (hg : wantedE ops E o = some false) (hd : o.dst = some d) (hN : Nat.blt d X.N = true) (hbs : BornsE X ops Hq B E) (hq : Pulls Hq H F)
    (k : WB X ops p Hq r ((d, undef) :: E) H) : WB X ops p Hq ((i, .n B) :: r) E H := fun a w S hS ha hw => by
  refine ⟨hbs.borns ha, ?_⟩
  simp only [wpOpIn, ho, wantedE_spec ha hg, Bool.false_eq_true, if_false]
  exact ⟨about_true, (hw.perm hq.perm).left, Nat.le_refl _, S, fun j hj => ⟨.inl hj, hw.hok.lt ((hS j).1 hj)⟩, (by intros; first | rfl | trivial), fun w'' hb => k _ _ S hS (by rw [hd]; exact ha.put d undef hN) (hw.bel hb)⟩
theorem WB_skipN0 (ho : ops[i]? = some o) (hg : wantedE ops E o = some false) (hd : o.dst = none) (hbs : BornsE X ops Hq B E) (hq : Pulls Hq H F)
    (k : WB X ops p Hq r E H) : WB X ops p Hq ((i, .n B) :: r) E H := fun a w S hS ha hw => by
  refine ⟨hbs.borns ha, ?_⟩
  simp only [wpOpIn, ho, wantedE_spec ha hg, Bool.false_eq_true, if_false]
  exact ⟨about_true, (hw.perm hq.perm).left, Nat.le_refl _, S, fun j hj => ⟨.inl hj, hw.hok.lt ((hS j).1 hj)⟩, (by intros; first | rfl | trivial), fun w'' hb => k _ _ S hS (by rw [hd]; exact ha.put0 undef) (hw.bel hb)⟩
theorem WB_birth {d : Nat} {V : Nat → Value} {O : Obj} (ho : ops[i]? = some o) (hg : wantedE ops E o = some true) (hd : o.dst = some d) (hN : Nat.blt d X.N = true) (hbs : BornsE X ops Hq B E) (h : Births X o E Hq V O)
    (k : ∀ b, WB X ops p Hq r ((d, V b) :: E) (⟨some b, O⟩ :: H)) : WB X ops p Hq ((i, .b B) :: r) E H := fun a w S hS ha hw => by
  refine ⟨hbs.borns ha, o, V, O, ho, ⟨wantedE_spec ha hg, fun w' hw' => h a w' ha hw'⟩, fun b w' hb hge hO hn => ?_⟩
  have hw' := hw.bel hb
  refine k b _ w' _ (fun j => ?_) (by rw [hd]; exact ha.put d _ hN) ⟨⟨?_, fun x hx => ?_⟩, hw'.os, hw'.tape, hw'.output, hw'.size, hw'.kept, fun j hj => ?_, hw'.dr⟩
  · simp only [keys, List.filterMap_cons, List.mem_cons]
    rw [hS j, or_comm]; rfl
  · have hn' : b ∉ keys H := fun h => hn ((hS b).2 h)
    simpa [keys] using ⟨by simpa [keys] using hn', by simpa [keys] using hw'.hok.nodup⟩
  · rcases List.mem_cons.1 hx with rfl | hx
    · exact hO
    · exact hw'.hok.ok x hx
  · have hj' : j = b ∨ j ∈ keys H := by simpa [keys] using hj
    rcases hj' with rfl | hj'
    · exact .inr hge
    · exact hw'.own j hj'
theorem WB_call {d : Nat} {f : FuncId} {x : Operand} {args : List Operand} {tys : Array TypeId} {as vs fi ca : List Value} {Hp F : Heap} {v : Value} (ho : ops[i]? = some o)
    (hs : Spec X.P f as Hp (fun u H' => u = v ∧ ∃ G, H'.Perm (Hp ++ G))) (hg : wantedE ops E o = some true) (hd : o.dst = some d) (hN : Nat.blt d X.N = true)
    (hop : o.op = .call { callee := .value x, args := args.toArray, argTypes := tys }) (hx : callee E x = some (f, fi, ca)) (ha : evs E args = some vs) (he : fi ++ vs ++ ca = as) (hp : Pulls Hp Hq F)
    (k : WB X ops p Hq r ((d, v) :: E) H) : WB X ops p Hq ((i, .q) :: r) E H := by
  intro a w S hS hA hw
  refine ⟨o, v, ho, .inl ⟨wantedE_spec hA hg, fun w' hw' => .inr ?_⟩, fun w' hb => k _ _ S hS (by rw [hd]; exact hA.put d v hN) (hw.bel hb)⟩
  have hfe := callee_spec hx
  subst he
  refine ⟨f, (fi ++ vs ++ ca).toArray, ?_, ?_⟩
  · have hen := hs.enters (fi ++ vs ++ ca).toArray w'
    simp only [List.append_assoc] at hen
    simp [execOp, hop, resolve, hA.evals ha, hA.eval hfe, Deferred.ofValue, invoke, hen]
  · have hok := (hw'.perm hp.perm).left.hok
    have hc := hs.calls w' hok
    have hc2 : CallsIn (fen X.ro) (0 - 1) X.P f (fi ++ vs ++ ca).toArray w' (fun e w2 => ∃ u H', e = .returned u ∧ (u = v ∧ ∃ G, H'.Perm (Hp ++ G)) ∧ HW Hp w' H' w2) := by
      cases hr : X.ro with
      | none => exact hc
      | some l => exact CallsIn.inRound l hc
    refine hc2.mono ?_
    rintro e w'' ⟨u, H1, rfl, ⟨rfl, G, hG⟩, hw1⟩
    exact ⟨rfl, HW.belOf hok (hw1.perm hG).left⟩

theorem B_alloc {t : TypeId} {zs : List Value} (ho : o.op = .alloc t) (hz : Zv X.P t zs) : Births X o E H (fun b => .pointer (some ⟨b, 0, none⟩)) (cl zs t) := by
  intro a w ha hw
  obtain ⟨z, h1, h2⟩ := hz
  simp [execOp, ho, Instr.alloc, h2 w, newVar, newRow, h1, cl]
theorem B_box {t : TypeId} {x : Operand} {v : Value} {cs : List Value} (ho : o.op = .box t x) (hx : ev E x = some v) (hc : v.cells.toList = cs) : Births X o E H (fun b => .pointer (some ⟨b, 0, none⟩)) (cl cs t) := by
  intro a w ha hw
  simp [execOp, ho, Instr.box, newVar, newRow, ha.eval hx, cl, ← hc]
theorem B_make {t e : TypeId} {sz bytes n : Nat} {zs : List Value} {x y : Operand} {k : IntKind} (ho : o.op = .makeSlice t x y) (hs : SI X.P t e sz bytes zs) (hx : ev E x = some (.int k (n : Int))) (hy : ev E y = some (.int k (n : Int)))
    (hb : bytes * n ≤ 281474976710656) (hn : n ≤ 9223372036854775807) :
    Births X o E H (fun b => .slice (some ⟨b, 0, none⟩) n n) (cl (List.replicate n zs).flatten e) := by
  intro a w ha hw
  obtain ⟨h1, i, z, h2, h3, h4, h5, h6, h7, h8⟩ := hs
  have hb' : (i.bytes : Int) * (n : Int) ≤ 281474976710656 := by
    rw [h5, ← Int.natCast_mul]; omega
  have hr := run_make (P := X.P) w t e i z h1 h2 h3 k k n n (by omega) (by omega) hb' (by omega)
  simp only [Int.toNat_natCast] at hr
  rw [h4, h6, ← h7, made_eq zs n (by omega)] at hr
  simp only [execOp, ho, ha.eval hx, ha.eval hy, Sem.run_bind, hr, Result.andThen_ok, Sem.run_pure]; rfl
theorem B_buildSlice {t e : TypeId} {sz bytes n : Nat} {zs cs : List Value} {parts : List (Nat × Operand)} {vs : List (Nat × Value)} (ho : o.op = .buildSlice t n parts.toArray) (hs : SI X.P t e sz bytes zs)
    (hv : evParts E parts = some vs) (hf : fillS sz (List.replicate n zs).flatten vs = some cs) (hn : Nat.ble (n * sz) 16777216 = true) :
    Births X o E H (fun b => .slice (some ⟨b, 0, none⟩) n n) (cl cs e) := by
  intro a w ha hw
  obtain ⟨h1, i, z, h2, h3, h4, h5, h6, h7, h8⟩ := hs
  have hp := ha.parts hv
  have hpa : (parts.toArray.map fun (i, x) => (i, a.eval x)) = vs.toArray := by rw [← hp]; simp
  have hle : ¬ (n * sz > 16777216) := by simp only [Nat.ble_eq] at hn; omega
  have hfl := fillS_eq sz vs _ cs hf
  have hm := made_eq zs n (by omega)
  rw [h7] at hm
  by_cases h0 : n * sz = 0
  · have hn0 : n = 0 := by rcases Nat.mul_eq_zero.1 h0 with h | h <;> omega
    subst hn0
    simp only [List.replicate_zero, List.flatten_nil] at hfl
    simp [execOp, ho, Instr.buildSlice, run_underlying h1, sizeOf, typeInfo, h2, h4, hp, Array.range_zero', hfl, newRow, cl]
  · simp only [madeCells] at hm
    have hsz : (sizeOf e).run X.P w = .ok sz w := by simp [sizeOf, typeInfo, h2, h4]
    have hzv : (zeroValue e).run X.P w = .ok z w := by simp [zeroValue, typeInfo, h2, h3]
    have hb : (Instr.buildSlice t n vs.toArray).run X.P w = .ok (.slice (some ⟨w.heap.size, 0, none⟩) n n) (w.alloc (cl cs e)) := by
      simp only [Instr.buildSlice, Sem.run_bind, run_underlying h1, Result.andThen_ok, hsz, if_neg hle, if_neg h0, hzv, Sem.run_pure, h6, hm, hfl]
      simp [newRow, cl]
    simp only [execOp, ho, hpa, Sem.run_bind, hb, Result.andThen_ok, Sem.run_pure]
end

/-- The same two, told what the region turns: all else stays. -/
theorem pulls_rest {xs H Hq : Heap} (h : Pulls xs H Hq) : ∀ {X : Ctx} {w : World}, HW X.H0 X.w0 H w → HW X.H0 X.w0 Hq w := fun hw =>
  HW.left (hw.perm (h.perm.trans List.perm_append_comm))
theorem WC_drawR {X : Ctx} {p : Post} {E : Env} {H Hq : Heap} {id : Nat} {l : List Oper} (xs : Heap) (ord : List (Nat × Bool)) (hm : X.P.follows .mixedOrders = true) (hsd : noSD l.toArray = true) (hlen : ord.length = l.length)
    (hB : orderB l.toArray ord (Array.replicate l.length false) = true) (hq : Pulls xs H Hq) (h : WM X l.toArray p Hq ord E H) : WC X (.region id l.toArray true) p E H := by
  intro a w ha hw
  refine wpIn_region_any hm ?_
  have hb : Bel w { w with drawn := w.drawn + 1 } := Bel.drew' w
  have hw1 := hw.bel hb
  have h1 := MW.any (X := X) (p := p) (C := fun w => HW X.H0 X.w0 Hq w) (fun _ _ h b => h.bel b) hsd ord _ a _ hB (pulls_rest hq hw1) (h a _ ha hw1)
  rw [hlen] at h1
  have := AnyC.sound _ _ _ _ h1
  simpa using this
theorem WC_drawBR {X : Ctx} {p : Post} {E : Env} {H Hq : Heap} {id : Nat} {l : List Oper} (xs : Heap) (ord : List (Nat × Tag)) (hm : X.P.follows .mixedOrders = true) (hsd : noSD l.toArray = true) (hlen : ord.length = l.length)
    (hB : orderW l.toArray ord (Array.replicate l.length false) = true) (hq : Pulls xs H Hq) (h : WB X l.toArray p Hq ord E H) : WC X (.region id l.toArray true) p E H := by
  intro a w ha hw
  refine wpIn_region_any hm ?_
  have hb : Bel w { w with drawn := w.drawn + 1 } := Bel.drew' w
  have hw1 := hw.bel hb
  have h1 := BW.any (X := X) (p := p) (C := fun w => HW X.H0 X.w0 Hq w) (fun _ h => h.size) (fun _ _ h b => h.bel b) hsd ord _ hB ord.length [] a _ (fun k => k ∈ keys H) (by simp)
    ⟨fun e h => (by cases h), List.nodup_nil, fun e h => (by cases h), fun e h => (by cases h), fun e h => (by cases h), pulls_rest hq hw1, fun k hk => hw1.hok.lt hk⟩
    (fun w' hb' => h a _ _ (fun _ => Iff.rfl) ha (hw1.bel hb'))
  rw [hlen] at h1
  have := AnyC.sound _ _ _ _ h1
  simpa [marks, puts] using this
end Go.Proofs.Yteofigbgdbpjgaa

end
section
namespace Go.Proofs.Yteofigbgdbpjgaa
open Go.MapKept (IsKey)

/-- What lies in a map. -/
structure Mp {κ α : Type} (d : TypeDesc) (ek : κ → Value) (ev : α → Value) (es : Array MapEntry) (L : List (κ × α)) : Prop where
  perm : (es.toList.map fun e => (e.key, e.val)).Perm (L.map fun x => (ek x.1, ev x.2))
  nodup : (L.map (·.1)).Nodup
  key : ∀ k, IsKey d (ek k)
  inj : ∀ a b, ek a = ek b → a = b
section
variable {κ α : Type} {d : TypeDesc} {ek : κ → Value} {ev : α → Value} {es : Array MapEntry} {L L' : List (κ × α)}
theorem Mp.empty (hk : ∀ k, IsKey d (ek k)) (hi : ∀ a b, ek a = ek b → a = b) : Mp d ek ev #[] ([] : List (κ × α)) := ⟨by simp, by simp, hk, hi⟩
theorem Mp.to (h : Mp d ek ev es L) (p : L.Perm L') : Mp d ek ev es L' := ⟨h.perm.trans (p.map _), (p.map _).nodup_iff.1 h.nodup, h.key, h.inj⟩
theorem Mp.size (h : Mp d ek ev es L) : es.size = L.length := by
  have := h.perm.length_eq
  simpa using this
theorem Mp.keys (h : Mp d ek ev es L) : ∀ x ∈ es.toList, IsKey d x.key := fun x hx => by
  have : (x.key, x.val) ∈ L.map fun x => (ek x.1, ev x.2) := h.perm.mem_iff.1 (List.mem_map.2 ⟨x, hx, rfl⟩)
  obtain ⟨y, _, e⟩ := List.mem_map.1 this
  have e1 : ek y.1 = x.key := congrArg Prod.fst e
  rw [← e1]; exact h.key _
theorem Mp.has (h : Mp d ek ev es L) {x : κ × α} (hx : x ∈ L) : ∃ e ∈ es.toList, e.key = ek x.1 ∧ e.val = ev x.2 := by
  have : (ek x.1, ev x.2) ∈ es.toList.map fun e => (e.key, e.val) := h.perm.mem_iff.2 (List.mem_map.2 ⟨x, hx, rfl⟩)
  obtain ⟨e, he, hh⟩ := List.mem_map.1 this
  exact ⟨e, he, congrArg Prod.fst hh, congrArg Prod.snd hh⟩
theorem Mp.back (h : Mp d ek ev es L) {e : MapEntry} (he : e ∈ es.toList) : ∃ x ∈ L, e.key = ek x.1 ∧ e.val = ev x.2 := by
  have : (e.key, e.val) ∈ L.map fun x => (ek x.1, ev x.2) := h.perm.mem_iff.1 (List.mem_map.2 ⟨e, he, rfl⟩)
  obtain ⟨x, hx, hh⟩ := List.mem_map.1 this
  exact ⟨x, hx, (congrArg Prod.fst hh).symm, (congrArg Prod.snd hh).symm⟩
theorem key_uniq {L : List (κ × α)} (h : (L.map (·.1)).Nodup) {k : κ} {a b : α} (ha : (k, a) ∈ L) (hb : (k, b) ∈ L) : a = b := by
  induction L with
  | nil => cases ha
  | cons x L ih =>
    rw [List.map_cons, List.nodup_cons] at h
    rcases List.mem_cons.1 ha with e1 | ha2
    · rcases List.mem_cons.1 hb with e2 | hb2
      · have := e1.trans e2.symm; exact congrArg Prod.snd this
      · exact absurd (List.mem_map.2 ⟨(k, b), hb2, (congrArg Prod.fst e1 : k = x.1)⟩) h.1
    · rcases List.mem_cons.1 hb with e2 | hb2
      · exact absurd (List.mem_map.2 ⟨(k, a), ha2, (congrArg Prod.fst e2 : k = x.1)⟩) h.1
      · exact ih h.2 ha2 hb2
theorem Mp.find (h : Mp d ek ev es L) {k : κ} {a : α} (hx : (k, a) ∈ L) : ∃ j e, Instr.findNow d (ek k) es.toList 0 = some (some (j, ev a)) ∧ es.toList[j]? = some e ∧ e.key = ek k := by
  rcases MapKept.findNow_spec (h.key k) es.toList 0 h.keys with ⟨_, h2⟩ | ⟨j, e, h1, h2, h3⟩
  · obtain ⟨e, he, hk, _⟩ := h.has hx
    exact absurd hk (h2 e he)
  · obtain ⟨⟨k', b⟩, hy, e1, e2⟩ := h.back (List.mem_of_getElem? h2)
    obtain rfl := h.inj _ _ (e1.symm.trans h3)
    obtain rfl := key_uniq h.nodup hx hy
    exact ⟨j, e, by rw [h1, Nat.zero_add, e2], h2, h3⟩
theorem Mp.none (h : Mp d ek ev es L) {k : κ} (hx : k ∉ L.map (·.1)) : Instr.findNow d (ek k) es.toList 0 = some none ∧ ∀ e ∈ es.toList, e.key ≠ ek k := by
  rcases MapKept.findNow_spec (h.key k) es.toList 0 h.keys with h1 | ⟨j, e, _, h2, h3⟩
  · exact h1
  · obtain ⟨⟨k', b⟩, hy, e1, _⟩ := h.back (List.mem_of_getElem? h2)
    obtain rfl := h.inj _ _ (e1.symm.trans h3)
    exact absurd (List.mem_map.2 ⟨_, hy, rfl⟩) hx
theorem Mp.add (h : Mp d ek ev es L) {k : κ} (a : α) (c : Nat) (hx : k ∉ L.map (·.1)) : Mp d ek ev (es.push { key := ek k, val := ev a, born := c }) ((k, a) :: L) := by
  refine ⟨?_, by simpa using ⟨by simpa using hx, h.nodup⟩, h.key, h.inj⟩
  rw [Array.toList_push, List.map_append]
  exact List.perm_append_comm.trans (.cons _ h.perm)
theorem perm_middle_split {β : Type} {l : List β} {j : Nat} {e : β} (h : l[j]? = some e) : ∃ s t, l = s ++ e :: t ∧ s.length = j := by
  obtain ⟨hl, rfl⟩ := List.getElem?_eq_some_iff.1 h
  exact ⟨l.take j, l.drop (j + 1), by rw [List.getElem_cons_drop, List.take_append_drop], by simp; omega⟩
theorem modify_at {β : Type} (f : β → β) : ∀ (s t : List β) (e : β), (s ++ e :: t).modify s.length f = s ++ f e :: t
  | [], t, e => by simp
  | x :: s, t, e => by simpa using modify_at f s t e
theorem Mp.split (h : Mp d ek ev es L) {k : κ} {a : α} (hx : (k, a) ∈ L) {j : Nat} {e : MapEntry} (hj : es.toList[j]? = some e) (he : e.key = ek k) :
    ∃ s t A B, es.toList = s ++ e :: t ∧ s.length = j ∧ L = A ++ (k, a) :: B ∧ ((s ++ t).map fun e => (e.key, e.val)).Perm ((A ++ B).map fun x => (ek x.1, ev x.2)) := by
  obtain ⟨s, t, hs, hl⟩ := perm_middle_split hj
  obtain ⟨A, B, hL⟩ := List.append_of_mem hx
  refine ⟨s, t, A, B, hs, hl, hL, ?_⟩
  obtain ⟨⟨k', b⟩, hy, e1, e2⟩ := h.back (List.mem_of_getElem? hj)
  obtain rfl := h.inj _ _ (e1.symm.trans he)
  obtain rfl := key_uniq h.nodup hx hy
  have hp := h.perm
  rw [hs, hL] at hp
  simp only [List.map_append, List.map_cons] at hp ⊢
  have h1 := List.perm_middle.symm.trans (hp.trans List.perm_middle)
  rw [e1, e2] at h1
  exact List.Perm.cons_inv h1
theorem split_ne {A B : List (κ × α)} {k : κ} {a : α} (h : ((A ++ (k, a) :: B).map (·.1)).Nodup) : ∀ x ∈ A ++ B, x.1 ≠ k := by
  have h1 := ((List.perm_middle (l₁ := A) (a := (k, a)) (l₂ := B)).map (fun x : κ × α => x.1)).nodup_iff.1 h
  rw [List.map_cons, List.nodup_cons] at h1
  intro x hx e
  exact h1.1 (List.mem_map.2 ⟨x, hx, e⟩)
/-- What lies there after a key's value is set anew; after a key is taken out. -/
def setL [DecidableEq κ] (L : List (κ × α)) (k : κ) (a : α) : List (κ × α) := L.map fun x => if x.1 = k then (k, a) else x
def delL [DecidableEq κ] (L : List (κ × α)) (k : κ) : List (κ × α) := L.filter fun x => decide (x.1 ≠ k)
theorem setL_same [DecidableEq κ] {A : List (κ × α)} {k : κ} {a : α} (h : ∀ x ∈ A, x.1 ≠ k) : setL A k a = A := by
  induction A with
  | nil => rfl
  | cons x A ih =>
    show (if x.1 = k then (k, a) else x) :: setL A k a = _
    rw [if_neg (h x (List.mem_cons_self ..)), ih (fun y hy => h y (List.mem_cons_of_mem _ hy))]
theorem Mp.set [DecidableEq κ] (h : Mp d ek ev es L) {k : κ} {a : α} (b : α) (hx : (k, a) ∈ L) {j : Nat} {e : MapEntry} (hj : es.toList[j]? = some e) (he : e.key = ek k) :
    Mp d ek ev (es.modify j fun e => { e with key := ek k, val := ev b }) (setL L k b) := by
  obtain ⟨s, t, A, B, hs, hl, hL, hp⟩ := h.split hx hj he
  have hnd := h.nodup
  subst hL
  have hne := split_ne hnd
  have hA : setL A k b = A := setL_same fun x hx => hne x (List.mem_append_left _ hx)
  have hB : setL B k b = B := setL_same fun x hx => hne x (List.mem_append_right _ hx)
  have hset : setL (A ++ (k, a) :: B) k b = A ++ (k, b) :: B := by
    show List.map _ _ = _
    rw [List.map_append, List.map_cons, if_pos rfl]
    exact congr (congrArg _ hA) (congrArg _ hB)
  rw [hset]
  refine ⟨?_, by simpa using hnd, h.key, h.inj⟩
  have hm : (es.modify j fun e => { e with key := ek k, val := ev b }).toList = s ++ { e with key := ek k, val := ev b } :: t := by
    rw [Array.toList_modify, hs]
    subst hl
    exact modify_at _ s t e
  rw [hm]
  simp only [List.map_append, List.map_cons] at hp ⊢
  exact List.perm_middle.trans ((List.Perm.cons _ hp).trans List.perm_middle.symm)
theorem Mp.del [DecidableEq κ] (h : Mp d ek ev es L) {k : κ} {a : α} (hx : (k, a) ∈ L) {j : Nat} {e : MapEntry} (hj : es.toList[j]? = some e) (he : e.key = ek k) :
    Mp d ek ev (es.eraseIdxIfInBounds j) (delL L k) := by
  obtain ⟨s, t, A, B, hs, hl, hL, hp⟩ := h.split hx hj he
  have hnd := h.nodup
  subst hL
  have hne := split_ne hnd
  have hdel : delL (A ++ (k, a) :: B) k = A ++ B := by
    unfold delL
    rw [List.filter_append, List.filter_cons_of_neg (by simp)]
    rw [List.filter_eq_self.2 (fun x hx => by simpa using hne x (List.mem_append_left _ hx)), List.filter_eq_self.2 (fun x hx => by simpa using hne x (List.mem_append_right _ hx))]
  rw [hdel]
  refine ⟨?_, ?_, h.key, h.inj⟩
  · have hm : (es.eraseIdxIfInBounds j).toList = s ++ t := by
      rw [Array.toList_eraseIdxIfInBounds, hs]
      subst hl
      simp [List.eraseIdx_append_of_length_le]
    rw [hm]; exact hp
  · have := ((List.perm_middle (l₁ := A) (a := (k, a)) (l₂ := B)).map (fun x : κ × α => x.1)).nodup_iff.1 hnd
    rw [List.map_cons, List.nodup_cons] at this
    exact this.2
end
section
variable {X : Ctx} {E : Env} {H F : Heap} {o : Oper} {κ α : Type} {d : TypeDesc} {ek : κ → Value} {ev : α → Value} {es : Array MapEntry} {c b : Nat} {L : List (κ × α)} {mt kt et : TypeId} {x y z : Operand}
theorem HW.mapAt {H0 : Heap} {w0 w : World} (hw : HW H0 w0 H w) (hm : (⟨some b, .map es c⟩ : Ent) ∈ H) : w.heap[b]? = some (.map es c) := hw.hok.ok _ hm
theorem run_look {P : Program} {w : World} (hu : P.underlying mt = some (.map kt et)) (hk : P.underlying kt = some d) (hb : w.heap[b]? = some (.map es c)) (hM : Mp d ek ev es L) {k : κ} {a : α} (hx : (k, a) ∈ L) (q : Bool) :
    (Instr.lookup mt (.map (some b)) (ek k) q).run P w = .ok (if q then .tuple #[ev a, .bool true] else ev a) w := by
  obtain ⟨j, e, h1, _⟩ := hM.find hx
  simp [Instr.lookup, run_underlying hu, MapKept.run_getObj_map hb, MapKept.run_checkKey hk (hM.key k), MapKept.run_findKey hk h1, Result.andThen]
theorem run_look0 {P : Program} {w : World} {zv : Value} (hu : P.underlying mt = some (.map kt et)) (hk : P.underlying kt = some d) (hb : w.heap[b]? = some (.map es c)) (hM : Mp d ek ev es L) {k : κ} (hx : k ∉ L.map (·.1)) (hz : (zeroValue et).run P w = .ok zv w) (q : Bool) :
    (Instr.lookup mt (.map (some b)) (ek k) q).run P w = .ok (if q then .tuple #[zv, .bool false] else zv) w := by
  have h1 := (hM.none hx).1
  simp [Instr.lookup, run_underlying hu, MapKept.run_getObj_map hb, MapKept.run_checkKey hk (hM.key k), MapKept.run_findKey hk h1, hz, Result.andThen]
/-- v, is := m[k] -/
theorem R_lookT {k : κ} {a : α} (ho : o.op = .lookup mt x y true) (hu : X.P.underlying mt = some (.map kt et)) (hk : X.P.underlying kt = some d) (hx : Go.Proofs.Yteofigbgdbpjgaa.ev E x = some (.map (some b))) (hy : Go.Proofs.Yteofigbgdbpjgaa.ev E y = some (ek k)) (hm : (⟨some b, .map es c⟩ : Ent) ∈ H) (hM : Mp d ek ev es L) (hin : (k, a) ∈ L) :
    Runs X o E H (.tuple #[ev a, .bool true]) :=
  ⟨(by rw [ho]; intro c e; cases e), fun A w ha hw => by
    simp [execOp, ho, ha.eval hx, ha.eval hy, run_look hu hk (hw.mapAt hm) hM hin true]⟩
theorem R_lookF {k : κ} {zv : Value} (ho : o.op = .lookup mt x y true) (hu : X.P.underlying mt = some (.map kt et)) (hk : X.P.underlying kt = some d) (hx : Go.Proofs.Yteofigbgdbpjgaa.ev E x = some (.map (some b))) (hy : Go.Proofs.Yteofigbgdbpjgaa.ev E y = some (ek k)) (hm : (⟨some b, .map es c⟩ : Ent) ∈ H) (hM : Mp d ek ev es L) (hin : k ∉ L.map (·.1))
    (hz : ∀ w, (zeroValue et).run X.P w = .ok zv w) : Runs X o E H (.tuple #[zv, .bool false]) :=
  ⟨(by rw [ho]; intro c e; cases e), fun A w ha hw => by
    simp [execOp, ho, ha.eval hx, ha.eval hy, run_look0 hu hk (hw.mapAt hm) hM hin (hz w) true]⟩
/-- v := m[k] -/
theorem R_look {k : κ} {a : α} (ho : o.op = .lookup mt x y false) (hu : X.P.underlying mt = some (.map kt et)) (hk : X.P.underlying kt = some d) (hx : Go.Proofs.Yteofigbgdbpjgaa.ev E x = some (.map (some b))) (hy : Go.Proofs.Yteofigbgdbpjgaa.ev E y = some (ek k)) (hm : (⟨some b, .map es c⟩ : Ent) ∈ H) (hM : Mp d ek ev es L) (hin : (k, a) ∈ L) :
    Runs X o E H (ev a) :=
  ⟨(by rw [ho]; intro c e; cases e), fun A w ha hw => by
    simp [execOp, ho, ha.eval hx, ha.eval hy, run_look hu hk (hw.mapAt hm) hM hin false]⟩
theorem R_look0 {k : κ} {zv : Value} (ho : o.op = .lookup mt x y false) (hu : X.P.underlying mt = some (.map kt et)) (hk : X.P.underlying kt = some d) (hx : Go.Proofs.Yteofigbgdbpjgaa.ev E x = some (.map (some b))) (hy : Go.Proofs.Yteofigbgdbpjgaa.ev E y = some (ek k)) (hm : (⟨some b, .map es c⟩ : Ent) ∈ H) (hM : Mp d ek ev es L) (hin : k ∉ L.map (·.1))
    (hz : ∀ w, (zeroValue et).run X.P w = .ok zv w) : Runs X o E H zv :=
  ⟨(by rw [ho]; intro c e; cases e), fun A w ha hw => by
    simp [execOp, ho, ha.eval hx, ha.eval hy, run_look0 hu hk (hw.mapAt hm) hM hin (hz w) false]⟩
theorem R_lenMap (ho : o.op = .call { callee := .builtin .len, args := #[x], argTypes := #[mt] }) (hu : X.P.underlying mt = some (.map kt et)) (hx : Go.Proofs.Yteofigbgdbpjgaa.ev E x = some (.map (some b))) (hm : (⟨some b, .map es c⟩ : Ent) ∈ H) (hM : Mp d ek ev es L) :
    Runs X o E H (.int .i64 (L.length : Int)) :=
  ⟨(by rw [ho]; intro c e; cases e), fun A w ha hw => by
    have hg := MapKept.run_getObj_map (P := X.P) (hw.mapAt hm)
    have hl : (Builtin.len_ #[mt] o.type #[.map (some b)]).run X.P w = .ok (goInt L.length) w := by
      simp [Builtin.len_, run_underlying hu, hg, Result.andThen, hM.size]
    simp [execOp, ho, resolve, ha.eval hx, invoke, builtin, hl, goInt]⟩
theorem D_makeMap (ho : o.op = .makeMap mt none) : Does X o E H (fun v H' => ∃ b, v = .map (some b) ∧ H' = ⟨some b, .map #[] 0⟩ :: H) := by
  intro a w ha hw next Q k
  refine ⟨about_true, ?_⟩
  rw [semAt_of (by rw [ho]; intro c e; cases e)]
  have hrun : (execOp a.eval o).run X.P w = .ok (.value (.map (some w.heap.size))) (w.alloc (.map #[] 0)) := by
    have h : (Instr.makeMap mt none).run X.P w = .ok (.map (some w.heap.size)) (w.alloc (.map #[] 0)) := rfl
    simp [execOp, ho, h]
  rw [hrun]
  exact k _ _ _ ⟨_, rfl, rfl⟩ (hw.alloc _)
theorem B_makeMap (ho : o.op = .makeMap mt none) : Births X o E H (fun b => .map (some b)) (.map #[] 0) := by
  intro a w ha hw
  have h : (Instr.makeMap mt none).run X.P w = .ok (.map (some w.heap.size)) (w.alloc (.map #[] 0)) := rfl
  simp [execOp, ho, h]
theorem HW.turnMap {H0 : Heap} {w0 w : World} {ob : Obj} (hw : HW H0 w0 H w) (hp : Pull ⟨some b, .map es c⟩ H F) : HW H0 w0 (⟨some b, ob⟩ :: F) { w with heap := w.heap.setIfInBounds b ob } := by
  have hb : w.heap[b]? = some (.map es c) := hw.mapAt (pull_mem hp)
  obtain ⟨h1, h2⟩ := MapKept.heap_set (o' := ob) hb
  exact hw.turn hp (by simp) h1 (fun k hk => h2 k hk) rfl rfl rfl
/-- m[k] = v, of a key that lies there; of one that does not. -/
theorem D_mapSet [DecidableEq κ] {k : κ} {a v : α} (ho : o.op = .mapUpdate mt x y z) (hu : X.P.underlying mt = some (.map kt et)) (hk : X.P.underlying kt = some d) (hx : Go.Proofs.Yteofigbgdbpjgaa.ev E x = some (.map (some b))) (hy : Go.Proofs.Yteofigbgdbpjgaa.ev E y = some (ek k)) (hz : Go.Proofs.Yteofigbgdbpjgaa.ev E z = some (ev v)) (hp : Pull ⟨some b, .map es c⟩ H F) (hM : Mp d ek ev es L) (hin : (k, a) ∈ L) :
    Does X o E H (fun _ H' => ∃ es' c', Mp d ek ev es' (setL L k v) ∧ H' = ⟨some b, .map es' c'⟩ :: F) := by
  intro A w ha hw next Q kk
  refine ⟨about_true, ?_⟩
  rw [semAt_of (by rw [ho]; intro c e; cases e)]
  have hb := hw.mapAt (pull_mem hp)
  obtain ⟨j, e, h1, h2, h3⟩ := hM.find hin
  have hj : es[j]? = some e := by simpa using h2
  have hrun : (execOp A.eval o).run X.P w = .ok .skip { w with heap := w.heap.setIfInBounds b (.map (es.modify j fun e => { e with key := ek k, val := ev v }) c) } := by
    simp [execOp, ho, ha.eval hx, ha.eval hy, ha.eval hz, Instr.mapUpdate, run_underlying hu, MapKept.run_getObj_map hb, MapKept.run_checkKey hk (hM.key k), MapKept.run_findKey hk h1, hj, h3, MapKept.run_keyThatStays (hM.key k), MapKept.run_setObj_map _ hb, Result.andThen]
  rw [hrun]
  exact kk undef _ _ ⟨_, _, hM.set v hin h2 h3, rfl⟩ (hw.turnMap hp)
theorem D_mapAdd {k : κ} {v : α} (ho : o.op = .mapUpdate mt x y z) (hu : X.P.underlying mt = some (.map kt et)) (hk : X.P.underlying kt = some d) (hx : Go.Proofs.Yteofigbgdbpjgaa.ev E x = some (.map (some b))) (hy : Go.Proofs.Yteofigbgdbpjgaa.ev E y = some (ek k)) (hz : Go.Proofs.Yteofigbgdbpjgaa.ev E z = some (ev v)) (hp : Pull ⟨some b, .map es c⟩ H F) (hM : Mp d ek ev es L) (hin : k ∉ L.map (·.1)) :
    Does X o E H (fun _ H' => ∃ es' c', Mp d ek ev es' ((k, v) :: L) ∧ H' = ⟨some b, .map es' c'⟩ :: F) := by
  intro A w ha hw next Q kk
  refine ⟨about_true, ?_⟩
  rw [semAt_of (by rw [ho]; intro c e; cases e)]
  have hb := hw.mapAt (pull_mem hp)
  have h1 := (hM.none hin).1
  have hrun : (execOp A.eval o).run X.P w = .ok .skip { w with heap := w.heap.setIfInBounds b (.map (es.push { key := ek k, val := ev v, born := c }) (c + 1)) } := by
    simp [execOp, ho, ha.eval hx, ha.eval hy, ha.eval hz, Instr.mapUpdate, run_underlying hu, MapKept.run_getObj_map hb, MapKept.run_checkKey hk (hM.key k), MapKept.run_findKey hk h1, MapKept.run_setObj_map _ hb, Result.andThen]
  rw [hrun]
  exact kk undef _ _ ⟨_, _, hM.add v c hin, rfl⟩ (hw.turnMap hp)
/-- delete(m, k), of a key that lies there. -/
theorem D_delete [DecidableEq κ] {kt' : TypeId} {k : κ} {a : α} (ho : o.op = .call { callee := .builtin .delete, args := #[x, y], argTypes := #[mt, kt'] }) (hu : X.P.underlying mt = some (.map kt et)) (hk : X.P.underlying kt = some d) (hx : Go.Proofs.Yteofigbgdbpjgaa.ev E x = some (.map (some b))) (hy : Go.Proofs.Yteofigbgdbpjgaa.ev E y = some (ek k)) (hp : Pull ⟨some b, .map es c⟩ H F) (hM : Mp d ek ev es L) (hin : (k, a) ∈ L) :
    Does X o E H (fun _ H' => ∃ es' c', Mp d ek ev es' (delL L k) ∧ H' = ⟨some b, .map es' c'⟩ :: F) := by
  intro A w ha hw next Q kk
  refine ⟨about_true, ?_⟩
  rw [semAt_of (by rw [ho]; intro c e; cases e)]
  have hb := hw.mapAt (pull_mem hp)
  obtain ⟨j, e, h1, h2, h3⟩ := hM.find hin
  have hd : (Builtin.delete_ #[mt, kt'] o.type #[.map (some b), ek k]).run X.P w = .ok (.tuple #[]) { w with heap := w.heap.setIfInBounds b (.map (es.eraseIdxIfInBounds j) c) } := by
    simp [Builtin.delete_, run_underlying hu, MapKept.run_getObj_map hb, MapKept.run_checkKey hk (hM.key k), MapKept.run_findKey hk h1, MapKept.run_setObj_map _ hb, Result.andThen]
  have hrun : (execOp A.eval o).run X.P w = .ok (.value (.tuple #[])) { w with heap := w.heap.setIfInBounds b (.map (es.eraseIdxIfInBounds j) c) } := by
    simp [execOp, ho, resolve, ha.eval hx, ha.eval hy, invoke, builtin, hd]
  rw [hrun]
  exact kk _ _ _ ⟨_, _, hM.del hin h2 h3, rfl⟩ (hw.turnMap hp)
end
section
variable {X : Ctx} {E : Env} {H : Heap} {o : Oper} {x : Operand} {t : TypeId}
theorem eqi_map {P : Program} (w : World) (d : Nat) (t k e : TypeId) (r : Option Nat) (h : P.underlying t = some (.map k e)) : (Op.equalIn (d + 1) t (.map r) (.map none)).run P w = .ok r.isNone w := by
  cases r <;> simp [Op.equalIn, run_underlying h]
theorem R_mapEqNil {t' k e : TypeId} {r : Option Nat} (ho : o.op = .binOp .eql t x (.const (.map none)) t') (hu : X.P.underlying t = some (.map k e)) (hx : Go.Proofs.Yteofigbgdbpjgaa.ev E x = some (.map r)) : Runs X o E H (.bool r.isNone) :=
  R_bin ho hx rfl (fun w => by simp [eqGuard]) fun w => by
    have h := eqi_map (P := X.P) w 9999 t k e r hu
    simp only [binOp, Op.equal, Op.maxDepth, Sem.run_bind, h, Result.andThen_ok, Sem.run_pure]
theorem R_mkIface {d : TypeDesc} {v : Value} (ho : o.op = .makeInterface t x) (hu : X.P.underlying t = some d) (hd : ∀ ms, d ≠ .interface ms) (hx : Go.Proofs.Yteofigbgdbpjgaa.ev E x = some v) : Runs X o E H (.iface t v) :=
  ⟨(by rw [ho]; intro c e; cases e), fun a w ha _ => by
    have h : (Instr.makeInterface t v).run X.P w = .ok (.iface t v) w := by
      simp only [Instr.makeInterface, Sem.run_bind, run_underlying hu, Result.andThen_ok]
      cases d <;> simp_all
    simp [execOp, ho, ha.eval hx, h]⟩
theorem R_assert {tx : TypeId} {d : TypeDesc} {v : Value} (ho : o.op = .typeAssert x tx t false) (hu : X.P.underlying t = some d) (hd : ∀ ms, d ≠ .interface ms) (hx : Go.Proofs.Yteofigbgdbpjgaa.ev E x = some (.iface t v)) : Runs X o E H v :=
  ⟨(by rw [ho]; intro c e; cases e), fun a w ha _ => by
    have h : (Instr.typeAssert (.iface t v) tx t false).run X.P w = .ok v w := by
      simp only [Instr.typeAssert, Sem.run_bind, run_underlying hu, Result.andThen_ok]
      cases d <;> simp_all
    simp [execOp, ho, ha.eval hx, h]⟩
/-- The model's row maps.clone. -/
theorem D_mapsClone {f : FuncId} {fn : Func} {tys : Array TypeId} {mt : TypeId} {b : Nat} {es : Array MapEntry} {c : Nat} (hf : X.P.funcs[f]? = some fn) (hname : (fn.name == "runtime.NumGoroutine") = false) (hb : fn.body.isNone = true) (hn : Extern.findNext fn = none) (he : Extern.find fn = some Extern.MapsClone.clone)
    (ho : o.op = .call { callee := .value (.func f), args := #[x], argTypes := tys }) (hx : Go.Proofs.Yteofigbgdbpjgaa.ev E x = some (.iface mt (.map (some b)))) (hm : (⟨some b, .map es c⟩ : Ent) ∈ H) :
    Does X o E H (fun v H' => ∃ b2, v = .iface mt (.map (some b2)) ∧ H' = ⟨some b2, .map es c⟩ :: H) := by
  intro a w ha hw next Q k
  refine ⟨about_true, ?_⟩
  rw [semAt_of (by rw [ho]; intro c e; cases e)]
  have hbw := hw.mapAt hm
  have hc : (Extern.MapsClone.clone #[.iface mt (.map (some b))]).run X.P w = .ok (.iface mt (.map (some w.heap.size))) (w.alloc (.map es c)) := by
    have e : Extern.MapsClone.clone #[.iface mt (.map (some b))] = (getObj b >>= fun o => match o with
      | .map entries clock => (newObj (.map entries clock) >>= fun n => pure (.iface mt (.map (some n))))
      | _ => stuck "maps.clone: a map expected") := rfl
    rw [e]
    simp [MapKept.run_getObj_map hbw, Result.andThen]
  have hcall : (callFunc f #[.iface mt (.map (some b))]).run X.P w = .ok (.value (.iface mt (.map (some w.heap.size)))) (w.alloc (.map es c)) := by
    rw [run_callFunc_extern hf hname hb hn he, hc]; rfl
  have hrun : (execOp a.eval o).run X.P w = .ok (.value (.iface mt (.map (some w.heap.size)))) (w.alloc (.map es c)) := by
    have hfe : a.eval (.func f) = .func (.func f) #[] #[] := rfl
    simp [execOp, ho, resolve, ha.eval hx, hfe, Deferred.ofValue, invoke, hcall]
  rw [hrun]
  exact k _ _ _ ⟨_, rfl, rfl⟩ (hw.alloc _)
end
end Go.Proofs.Yteofigbgdbpjgaa

end
section
namespace Go.Proofs.Yteofigbgdbpjgaa
section
variable {X : Ctx} {E : Env} {H : Heap} {o : Oper} {t e : TypeId} {x y : Operand} {sz n : Nat}
theorem R_buildArr {parts : List (Nat × Operand)} {vs : List (Nat × Value)} {zs cs : List Value} (ho : o.op = .build t parts.toArray) (hu : X.P.underlying t = some (.array n e)) (hs : ∀ w, (sizeOf e).run X.P w = .ok sz w) (hz : Zv X.P t zs)
    (hv : evParts E parts = some vs) (hf : fillS sz zs vs = some cs) : Runs X o E H (.agg cs.toArray) :=
  ⟨(by rw [ho]; intro c e; cases e), fun a w ha _ => by
    obtain ⟨z, h1, h2⟩ := hz
    have hp := ha.parts hv
    have hfl := fillS_eq sz vs zs cs hf
    have hpa : (parts.toArray.map fun (i, x) => (i, a.eval x)) = vs.toArray := by rw [← hp]; simp
    simp only [execOp, ho, hpa, Instr.build]
    simp only [Sem.run_bind, h2 w, Result.andThen_ok, run_underlying hu, hs w, h1, hfl, Sem.run_pure]⟩
theorem R_indexArr {k : IntKind} {i : Int} {cs : List Value} {v : Value} (ho : o.op = .index t x y) (hu : X.P.underlying t = some (.array n e)) (hs : Sc X.P e) (hx : Go.Proofs.Yteofigbgdbpjgaa.ev E x = some (.agg cs.toArray)) (hy : Go.Proofs.Yteofigbgdbpjgaa.ev E y = some (.int k i)) (hi : 0 ≤ i ∧ i < n) (hv : cs[i.toNat]? = some v) : Runs X o E H v :=
  ⟨(by rw [ho]; intro c e; cases e), fun a w ha _ => by
    have h : (Instr.index t (.agg cs.toArray) (.int k i)).run X.P w = .ok v w := by
      simp [Instr.index, asIntOf, run_underlying hu, hi.1, hi.2, (hs w).1, (hs w).2, part, hv]
    simp [execOp, ho, ha.eval hx, ha.eval hy, h]⟩
theorem R_indexArrA {k : IntKind} {i : Int} {cs vs : List Value} (ho : o.op = .index t x y) (hu : X.P.underlying t = some (.array n e)) (hs : Ag X.P e sz) (hx : Go.Proofs.Yteofigbgdbpjgaa.ev E x = some (.agg cs.toArray)) (hy : Go.Proofs.Yteofigbgdbpjgaa.ev E y = some (.int k i)) (hi : 0 ≤ i ∧ i < n) (hn : vs.length = sz) (hv : At cs (i.toNat * sz) vs) : Runs X o E H (.agg vs.toArray) :=
  ⟨(by rw [ho]; intro c e; cases e), fun a w ha _ => by
    have hsub : List.take sz (List.drop (i.toNat * sz) cs) = vs := by
      apply List.ext_getElem?
      intro j
      by_cases hj : j < sz
      · rw [List.getElem?_take_of_lt hj, List.getElem?_drop]
        have hlt : j < vs.length := by omega
        rw [hv j vs[j] (by simp [hlt])]
        simp [hlt]
      · rw [List.getElem?_eq_none (by simp; omega), List.getElem?_eq_none (by omega)]
    have h : (Instr.index t (.agg cs.toArray) (.int k i)).run X.P w = .ok (.agg vs.toArray) w := by
      simp [Instr.index, asIntOf, run_underlying hu, hi.1, hi.2, (hs w).1, (hs w).2, part, hsub]
    simp [execOp, ho, ha.eval hx, ha.eval hy, h]⟩
end

section
variable {X : Ctx} {E : Env} {H : Heap} {o : Oper} {t u : TypeId} {x y : Operand} {sz len : Nat}
/-- The place of an array's element. -/
theorem R_indexAddrA {b k : Nat} {kk : IntKind} {i : Int} (ho : o.op = .indexAddr t x y) (hu : X.P.underlying t = some (.array len u)) (hs : ∀ w, (sizeOf u).run X.P w = .ok sz w)
    (hx : Go.Proofs.Yteofigbgdbpjgaa.ev E x = some (.pointer (some ⟨b, k, none⟩))) (hy : Go.Proofs.Yteofigbgdbpjgaa.ev E y = some (.int kk i)) (hi : 0 ≤ i ∧ i < len) : Runs X o E H (.pointer (some ⟨b, k + i.toNat * sz, none⟩)) :=
  ⟨(by rw [ho]; intro c e; cases e), fun a w ha _ => by
    have h : (Instr.indexAt t (.pointer (some ⟨b, k, none⟩)) (.int kk i)).run X.P w = .ok (.pointer (some ⟨b, k + i.toNat * sz, none⟩)) w := by
      simp [Instr.indexAt, Instr.sureAddr, asIntOf, run_underlying hu, hi.1, hi.2, hs w, add_at]
    simp [execOp, ho, ha.eval hx, ha.eval hy, h]⟩
theorem R_indexAddrAN {b k i : Nat} {kk : IntKind} (ho : o.op = .indexAddr t x y) (hu : X.P.underlying t = some (.array len u)) (hs : ∀ w, (sizeOf u).run X.P w = .ok sz w)
    (hx : Go.Proofs.Yteofigbgdbpjgaa.ev E x = some (.pointer (some ⟨b, k, none⟩))) (hy : Go.Proofs.Yteofigbgdbpjgaa.ev E y = some (.int kk (i : Int))) (hi : i < len) : Runs X o E H (.pointer (some ⟨b, k + i * sz, none⟩)) :=
  R_indexAddrA ho hu hs hx hy ⟨by omega, by omega⟩
end
/-- An array of one-cell elements, told by a function. -/
def arrV (n : Nat) (f : Nat → Value) : List Value := (List.range n).map f
theorem arr_len (n : Nat) (f : Nat → Value) : (arrV n f).length = n := by simp [arrV]
theorem arr_get {n i : Nat} (f : Nat → Value) (h : i < n) : (arrV n f)[0 + i * 1]? = some (f i) := by simp [arrV, h]
theorem rep_arr (n : Nat) (v : Value) : List.replicate n v = arrV n (fun _ => v) := by simp [arrV, List.map_const']
theorem arr_congr {n : Nat} {f g : Nat → Value} (h : ∀ j, j < n → f j = g j) : arrV n f = arrV n g := List.map_congr_left fun j hj => h j (List.mem_range.1 hj)
theorem arr_put {n i : Nat} {f g : Nat → Value} (h : i < n) (v : Value) (hv : g i = v) (hg : ∀ j, j < n → j ≠ i → g j = f j) : putAt (arrV n f) (0 + i * 1) [v] = arrV n g := by
  rw [putAt_cons, putAt_nil]
  apply List.ext_getElem?
  intro j
  rw [Nat.zero_add, Nat.mul_one, List.getElem?_set]
  by_cases e : i = j
  · subst e
    rw [if_pos rfl, if_pos (by rw [arr_len]; exact h)]
    simp [arrV, h, hv]
  · rw [if_neg e]
    by_cases hj : j < n
    · simp [arrV, hj, hg j hj (Ne.symm e)]
    · simp [arrV, hj]
end Go.Proofs.Yteofigbgdbpjgaa

end
section
namespace Go.Proofs.Yteofigbgdbpjgaa
section
variable {X : Ctx} {E : Env} {H : Heap} {o : Oper}
theorem addr_add0 (ad : Addr) : ad.add 0 = ad := by cases ad; simp [Addr.add]
/-- x[:h] of a slice. -/
theorem R_sliceTo {t u : TypeId} {x y : Operand} {ad : Option Addr} {n c sz m : Nat} {kk : IntKind} (ho : o.op = .slice t x none (some y) none) (hu : X.P.underlying t = some (.slice u)) (hs : ∀ w, (sizeOf u).run X.P w = .ok sz w)
    (hx : ev E x = some (.slice ad n c)) (hy : ev E y = some (.int kk (m : Int))) (hm : m ≤ c) : Runs X o E H (.slice ad m c) :=
  ⟨(by rw [ho]; intro c e; cases e), fun a w ha _ => by
    simp [execOp, ho, ha.eval hx, ha.eval hy, Instr.sliceAt, Instr.slice, Instr.sliceBounds, Instr.sliceBound, asIntOf, run_underlying hu, hs w, hm]
    cases ad <;> simp [addr_add0]⟩
/-- x[l:] of a slice. -/
theorem R_sliceFrom {t u : TypeId} {x y : Operand} {b k n c sz m : Nat} {kk : IntKind} (ho : o.op = .slice t x (some y) none none) (hu : X.P.underlying t = some (.slice u)) (hs : ∀ w, (sizeOf u).run X.P w = .ok sz w)
    (hx : ev E x = some (.slice (some ⟨b, k, none⟩) n c)) (hy : ev E y = some (.int kk (m : Int))) (hm : m ≤ n) : Runs X o E H (.slice (some (if c = m then ⟨b, k, none⟩ else ⟨b, k + m * sz, none⟩)) (n - m) (c - m)) :=
  ⟨(by rw [ho]; intro c e; cases e), fun a w ha _ => by
    simp [execOp, ho, ha.eval hx, ha.eval hy, Instr.sliceAt, Instr.slice, Instr.sliceBounds, Instr.sliceBound, asIntOf, run_underlying hu, hs w, hm]
    by_cases e : c = m <;> simp [e, Addr.add]⟩
theorem R_sliceFromK {t u : TypeId} {x y : Operand} {b k n c sz m : Nat} {kk : IntKind} (ho : o.op = .slice t x (some y) none none) (hu : X.P.underlying t = some (.slice u)) (hs : ∀ w, (sizeOf u).run X.P w = .ok sz w)
    (hx : ev E x = some (.slice (some ⟨b, k, none⟩) n c)) (hy : ev E y = some (.int kk (m : Int))) (hm : m ≤ n) : Runs X o E H (.slice (some ⟨b, if c = m then k else k + m * sz, none⟩) (n - m) (c - m)) := by
  have h := R_sliceFrom (H := H) ho hu hs hx hy hm
  by_cases e : c = m
  · rw [if_pos e] at h ⊢; exact h
  · rw [if_neg e] at h ⊢; exact h
/-- x[l:h] of a slice. -/
theorem R_sliceLH {t u : TypeId} {x y z : Operand} {b k n c sz m h : Nat} {kk kz : IntKind} (ho : o.op = .slice t x (some y) (some z) none) (hu : X.P.underlying t = some (.slice u)) (hs : ∀ w, (sizeOf u).run X.P w = .ok sz w)
    (hx : ev E x = some (.slice (some ⟨b, k, none⟩) n c)) (hy : ev E y = some (.int kk (m : Int))) (hz : ev E z = some (.int kz (h : Int))) (hm : m ≤ h) (hc : h ≤ c) : Runs X o E H (.slice (some (if c = m then ⟨b, k, none⟩ else ⟨b, k + m * sz, none⟩)) (h - m) (c - m)) :=
  ⟨(by rw [ho]; intro c e; cases e), fun a w ha _ => by
    simp [execOp, ho, ha.eval hx, ha.eval hy, ha.eval hz, Instr.sliceAt, Instr.slice, Instr.sliceBounds, Instr.sliceBound, asIntOf, run_underlying hu, hs w, hm, hc]
    by_cases e : c = m <;> simp [e, Addr.add]⟩
end
theorem quo4 {i q : Nat} (h0 : 0 < i) (hi : i < 4611686018427387904) (hq : q = (i - 1) / 4) : IntKind.i64.wrap (((i : Int) - 1).tdiv 4) = (q : Int) := by
  rw [show ((i : Int) - 1) = ((i - 1 : Nat) : Int) from by omega, Int.tdiv_eq_ediv_of_nonneg (by omega), IntWalk.i64_in _ (by omega)]; omega
end Go.Proofs.Yteofigbgdbpjgaa

end
section
namespace Go.Proofs.Yteofigbgdbpjgaa
open Go.RowKit (Below)
section
variable (X : Ctx) (ops : Array Oper) (p : Post) (C : World → Prop) (N : List Nat)
def AnyD : Nat → Array Bool → Act → World → Prop
  | 0, listed, a, w => Region.ready .any ops listed = [] ∧ p.nrm a w
  | fuel + 1, listed, a, w => (Region.ready .any ops listed = [] → p.nrm a w) ∧
    ∀ i ∈ Region.ready .any ops listed, wpOpIn (fen X.ro) 0 X.P ops p.toQ i (fun a' w' => C w' ∧ (N.contains i = false → Bel w w') ∧ ∀ w'', Bel w' w'' → AnyD fuel (listed.setIfInBounds i true) a' w'') a w
end
section
variable {X : Ctx} {ops : Array Oper} {p : Post} {C C1 : World → Prop} {N : List Nat}
theorem AnyD.sound : ∀ (fuel : Nat) (listed : Array Bool) (a : Act) (w : World), AnyD X ops p C N fuel listed a w → wpAnyIn (fen X.ro) 0 X.P .any ops p.toQ fuel listed a w
  | 0, _, _, _, h => h
  | fuel + 1, _, _, _, h => ⟨h.1, fun i hi => wpOpIn_mono (fun a' w' k => AnyD.sound fuel _ a' w' (k.2.2 w' (Bel.refl _))) (h.2 i hi)⟩
/-- A quiet operation, of any world in C. -/
theorem AnyD.take {i : Nat} {oi : Oper} {v : Value} (hCb : ∀ w w', C w → Bel w w' → C w') (hi : ops[i]? = some oi) (hsd : noSD ops = true) :
    ∀ (fuel : Nat) (listed : Array Bool) (a : Act) (w : World),
      (∀ j oj, ops[j]? = some oj → j ≠ i → listed.getD j true = false → (∀ e ∈ oj.after, Region.binds .any e = true → e.on ≠ i) → oi.apart ops oj = true) →
      i ∈ Region.ready .any ops listed → YieldsC X ops C oi v a → C w →
      (∀ w', Bel w w' → AnyD X ops p C N fuel (listed.setIfInBounds i true) (a.put oi.dst v) w') → AnyD X ops p C N (fuel + 1) listed a w := by
  intro fuel
  induction fuel with
  | zero =>
    intro listed a w _ hr hy hC H
    refine ⟨fun h => (by rw [h] at hr; cases hr), fun j hj => ?_⟩
    by_cases hji : j = i
    · subst hji
      exact hy.wpOp hi (noSD_sel hsd hi).2 hC fun w' hb => ⟨hCb w w' hC hb, fun _ => hb, fun w'' hb' => H w'' (hb.trans' hb')⟩
    · have := ready_mono hj hji
      rw [(H w (Bel.refl _)).1] at this
      cases this
  | succ fuel ih =>
    intro listed a w hfree hr hy hC H
    refine ⟨fun h => (by rw [h] at hr; cases hr), fun j hj => ?_⟩
    by_cases hji : j = i
    · subst hji
      exact hy.wpOp hi (noSD_sel hsd hi).2 hC fun w' hb => ⟨hCb w w' hC hb, fun _ => hb, fun w'' hb' => H w'' (hb.trans' hb')⟩
    · have h1 := (H w (Bel.refl _)).2 j (ready_mono hj hji)
      obtain ⟨hjun, oj, hoj, hall⟩ := mem_ready.1 hj
      have hnot : ∀ e ∈ oj.after, Region.binds .any e = true → e.on ≠ i := fun e he hb heq => by
        have h1 := hall e he hb
        have h0 := (mem_ready.1 hr).1
        rw [heq] at h1
        rcases Nat.lt_or_ge i listed.size with h' | h'
        · simp [h'] at h0 h1; rw [h0] at h1; cases h1
        · simp [Array.getElem?_eq_none h'] at h1
      have h2 := wpOpIn_putC hoj (hfree j oj hoj hji hjun hnot) (noSD_sel hsd hi).1 (noSD_sel hsd hoj).1 (noSD_sel hsd hoj).2 hy h1
      have hfree' : ∀ k ok, ops[k]? = some ok → k ≠ i → (listed.setIfInBounds j true).getD k true = false →
          (∀ e ∈ ok.after, Region.binds .any e = true → e.on ≠ i) → oi.apart ops ok = true := fun k ok hk hki hun hno => by
        refine hfree k ok hk hki ?_ hno
        by_cases hjk : j = k
        · subst hjk; exact hjun
        · rw [getD_set_ne true hjk] at hun; exact hun
      refine wpOpIn_mono (fun a' w' h3 => ⟨h3.2.1, h3.2.2.1, fun w'' hb => ?_⟩) h2
      refine ih (listed.setIfInBounds j true) a' w'' hfree' (ready_mono hr (Ne.symm hji)) h3.1 (hCb _ _ h3.2.1 hb) fun w3 hb3 => ?_
      rw [Array.setIfInBounds_comm _ _ hji]
      exact h3.2.2.2 w3 (hb.trans' hb3)
/-- What an operation waits for, near and far. -/
def reach (ops : Array Oper) (i : Nat) : Nat → Nat → Bool
  | 0, _ => false
  | n + 1, j => match ops[j]? with
    | some oj => oj.after.any fun e => Region.binds .any e && (e.on == i || reach ops i n e.on)
    | none => false
/-- What is listed, has all that it waits for listed. -/
def Closed (ops : Array Oper) (listed : Array Bool) : Prop := ∀ (k : Nat) (ok : Oper), ops[k]? = some ok → listed.getD k true = true → ∀ e ∈ ok.after, Region.binds .any e = true → listed.getD e.on true = true
theorem Closed.reach {listed : Array Bool} (hc : Closed ops listed) (i : Nat) : ∀ (n j : Nat) (oj : Oper), ops[j]? = some oj → (∀ e ∈ oj.after, Region.binds .any e = true → listed.getD e.on true = true) → reach ops i n j = true → listed.getD i true = true
  | 0, _, _, _, _, h => by cases h
  | n + 1, j, oj, hj, hd, h => by
    simp only [Go.Proofs.Yteofigbgdbpjgaa.reach, hj, Array.any_eq_true] at h
    obtain ⟨k, hk, h2⟩ := h
    simp only [Bool.and_eq_true, Bool.or_eq_true, beq_iff_eq] at h2
    have h3 := hd _ (Array.getElem_mem hk) h2.1
    rcases h2.2 with e | e
    · rw [← e]; exact h3
    · cases ho : ops[oj.after[k].on]? with
      | none => 
        cases n with
        | zero => cases e
        | succ n => simp only [Go.Proofs.Yteofigbgdbpjgaa.reach, ho] at e; cases e
      | some o2 => exact Closed.reach hc i n _ o2 ho (hc _ o2 ho h3) e
theorem getD_up {listed : Array Bool} {k : Nat} (h : listed.getD k false = true) : listed.getD k true = true := by
  rw [Array.getD_eq_getD_getElem?] at h ⊢
  cases e : listed[k]? with
  | none => rfl
  | some b => rw [e] at h; exact h
theorem getD_set {listed : Array Bool} {j k : Nat} (h : listed.getD k true = true) : (listed.setIfInBounds j true).getD k true = true := by
  by_cases e : j = k
  · subst e
    simp only [Array.getD_eq_getD_getElem?, Array.getElem?_setIfInBounds]
    by_cases h2 : j < listed.size <;> simp [h2]
  · rw [getD_set_ne true e]; exact h
theorem Closed.step {listed : Array Bool} (hc : Closed ops listed) {j : Nat} (hj : j ∈ Region.ready .any ops listed) : Closed ops (listed.setIfInBounds j true) := by
  intro k ok hk hl e he hb
  obtain ⟨_, oj, hoj, hall⟩ := mem_ready.1 hj
  by_cases ek : j = k
  · subst ek
    rw [hoj] at hk
    have := Option.some.inj hk
    subst this
    exact getD_set (getD_up (hall e he hb))
  · rw [getD_set_ne true ek] at hl
    exact getD_set (hc k ok hk hl e he hb)
/-- A quiet operation that all that turns something waits for: of any world in C1. -/
theorem AnyD.take1 {i : Nat} {oi : Oper} {v : Value} (h1b : ∀ w w', C1 w → Bel w w' → C1 w') (h1C : ∀ w, C1 w → C w) (hi : ops[i]? = some oi) (hsd : noSD ops = true)
    (hN : ∀ j oj, N.contains j = true → ops[j]? = some oj → ∃ n, reach ops i n j = true) :
    ∀ (fuel : Nat) (listed : Array Bool) (a : Act) (w : World), Closed ops listed →
      (∀ j oj, ops[j]? = some oj → j ≠ i → listed.getD j true = false → (∀ e ∈ oj.after, Region.binds .any e = true → e.on ≠ i) → oi.apart ops oj = true) →
      i ∈ Region.ready .any ops listed → YieldsC X ops C1 oi v a → C1 w →
      (∀ w', Bel w w' → AnyD X ops p C N fuel (listed.setIfInBounds i true) (a.put oi.dst v) w') → AnyD X ops p C N (fuel + 1) listed a w := by
  intro fuel
  induction fuel with
  | zero =>
    intro listed a w _ _ hr hy hC H
    refine ⟨fun h => (by rw [h] at hr; cases hr), fun j hj => ?_⟩
    by_cases hji : j = i
    · subst hji
      exact hy.wpOp hi (noSD_sel hsd hi).2 hC fun w' hb => ⟨h1C _ (h1b w w' hC hb), fun _ => hb, fun w'' hb' => H w'' (hb.trans' hb')⟩
    · have := ready_mono hj hji
      rw [(H w (Bel.refl _)).1] at this
      cases this
  | succ fuel ih =>
    intro listed a w hcl hfree hr hy hC H
    refine ⟨fun h => (by rw [h] at hr; cases hr), fun j hj => ?_⟩
    by_cases hji : j = i
    · subst hji
      exact hy.wpOp hi (noSD_sel hsd hi).2 hC fun w' hb => ⟨h1C _ (h1b w w' hC hb), fun _ => hb, fun w'' hb' => H w'' (hb.trans' hb')⟩
    · have h1 := (H w (Bel.refl _)).2 j (ready_mono hj hji)
      obtain ⟨hjun, oj, hoj, hall⟩ := mem_ready.1 hj
      have hnot : ∀ e ∈ oj.after, Region.binds .any e = true → e.on ≠ i := fun e he hb heq => by
        have h1 := hall e he hb
        have h0 := (mem_ready.1 hr).1
        rw [heq] at h1
        rcases Nat.lt_or_ge i listed.size with h' | h'
        · simp [h'] at h0 h1; rw [h0] at h1; cases h1
        · simp [Array.getElem?_eq_none h'] at h1
      have hjN : N.contains j = false := by
        cases hc : N.contains j with
        | false => rfl
        | true =>
          obtain ⟨n, hn⟩ := hN j oj hc hoj
          have h8 := hcl.reach i n j oj hoj (fun e he hb => getD_up (hall e he hb)) hn
          have h9 := (mem_ready.1 hr).1
          rw [h8] at h9; cases h9
      have h2 := wpOpIn_putC hoj (hfree j oj hoj hji hjun hnot) (noSD_sel hsd hi).1 (noSD_sel hsd hoj).1 (noSD_sel hsd hoj).2 hy h1
      have hfree' : ∀ k ok, ops[k]? = some ok → k ≠ i → (listed.setIfInBounds j true).getD k true = false →
          (∀ e ∈ ok.after, Region.binds .any e = true → e.on ≠ i) → oi.apart ops ok = true := fun k ok hk hki hun hno => by
        refine hfree k ok hk hki ?_ hno
        by_cases hjk : j = k
        · subst hjk; exact hjun
        · rw [getD_set_ne true hjk] at hun; exact hun
      refine wpOpIn_mono (fun a' w' h3 => ⟨h3.2.1, h3.2.2.1, fun w'' hb => ?_⟩) h2
      refine ih (listed.setIfInBounds j true) a' w'' (hcl.step hj) hfree' (ready_mono hr (Ne.symm hji)) h3.1 (h1b _ _ (h1b _ _ hC (h3.2.2.1 hjN)) hb) fun w3 hb3 => ?_
      rw [Array.setIfInBounds_comm _ _ hji]
      exact h3.2.2.2 w3 (hb.trans' hb3)
def noisyOf (r : List (Nat × Bool)) : List Nat := (r.filter (fun t => !t.2)).map (·.1)
theorem MW.anyD (hCb : ∀ w w', C w → Bel w w' → C w') (hsd : noSD ops = true) : ∀ (l : List (Nat × Bool)) (listed : Array Bool) (a : Act) (w : World), orderB ops l listed = true → (∀ t ∈ l, t.2 = false → N.contains t.1 = true) → C w → MW X ops p C l a w →
    AnyD X ops p C N l.length listed a w
  | [], listed, a, w, hB, _, _, h => ⟨by simpa [orderB] using hB, h⟩
  | (i, true) :: r, listed, a, w, hB, hn, hC, h => by
    simp only [orderB, cond_true, Bool.and_eq_true, List.contains_iff_mem] at hB
    obtain ⟨⟨h1, h2⟩, h3⟩ := hB
    obtain ⟨o, v, ho, hy, hk⟩ := h
    exact AnyD.take hCb ho hsd r.length listed a w (Region.free_spec ho h2) h1 hy hC fun w' hb => MW.anyD hCb hsd r _ _ w' h3 (fun t ht => hn t (List.mem_cons_of_mem _ ht)) (hCb w w' hC hb) (hk w' hb)
  | (i, false) :: r, listed, a, w, hB, hn, hC, h => by
    simp only [orderB, cond_false, Bool.and_eq_true, beq_iff_eq] at hB
    obtain ⟨h1, h3⟩ := hB
    refine ⟨fun e => (by rw [h1] at e; cases e), fun j hj => ?_⟩
    rw [h1, List.mem_singleton] at hj
    subst hj
    exact wpOpIn_mono (fun a' w' hk => ⟨hk.1, fun hf => (by rw [hn (j, false) (List.mem_cons_self ..) rfl] at hf; cases hf), fun w'' hb => MW.anyD hCb hsd r _ _ w'' h3 (fun t ht => hn t (List.mem_cons_of_mem _ ht)) (hCb _ _ hk.1 hb) (hk.2 w'' hb)⟩) h
/-- The first part: '(i, true)' reads memory as it was; '(i, false)': quiet in any world. -/
def ME (X : Ctx) (ops : Array Oper) (p : Post) (C1 C : World → Prop) (r : List (Nat × Bool)) : List (Nat × Bool) → Act → World → Prop
  | [], a, w => MW X ops p C r a w
  | (i, true) :: es, a, w => ∃ o v, ops[i]? = some o ∧ YieldsC X ops C1 o v a ∧ ∀ w', Bel w w' → ME X ops p C1 C r es (a.put o.dst v) w'
  | (i, false) :: es, a, w => ∃ o v, ops[i]? = some o ∧ YieldsC X ops C o v a ∧ ∀ w', Bel w w' → ME X ops p C1 C r es (a.put o.dst v) w'
def waitsFor (ops : Array Oper) (N : List Nat) (i : Nat) : Bool := N.all fun j => reach ops i ops.size j
def orderE (ops : Array Oper) (N : List Nat) (r : List (Nat × Bool)) : List (Nat × Bool) → Array Bool → Bool
  | [], listed => orderB ops r listed
  | (i, q) :: es, listed => (Region.ready .any ops listed).contains i && Region.free .any ops listed i && (!q || waitsFor ops N i) && orderE ops N r es (listed.setIfInBounds i true)
theorem waitsFor_spec {i : Nat} (h : waitsFor ops N i = true) (j : Nat) (oj : Oper) (hj : N.contains j = true) (_ : ops[j]? = some oj) : ∃ n, reach ops i n j = true :=
  ⟨_, List.all_eq_true.1 h j (List.contains_iff_mem.1 hj)⟩
theorem ME.anyD (r : List (Nat × Bool)) (h1b : ∀ w w', C1 w → Bel w w' → C1 w') (h1C : ∀ w, C1 w → C w) (hCb : ∀ w w', C w → Bel w w' → C w') (hsd : noSD ops = true) :
    ∀ (es : List (Nat × Bool)) (listed : Array Bool) (a : Act) (w : World), Closed ops listed → orderE ops (noisyOf r) r es listed = true → C1 w → ME X ops p C1 C r es a w → AnyD X ops p C (noisyOf r) (es.length + r.length) listed a w
  | [], listed, a, w, _, hB, hC, h => by
    simp only [List.length_nil, Nat.zero_add]
    exact MW.anyD hCb hsd r listed a w hB (fun t ht hf => List.contains_iff_mem.2 (List.mem_map.2 ⟨t, List.mem_filter.2 ⟨ht, by rw [hf]; rfl⟩, rfl⟩)) (h1C w hC) h
  | (i, true) :: es, listed, a, w, hcl, hB, hC, h => by
    simp only [orderE, Bool.and_eq_true, List.contains_iff_mem, Bool.not_true, Bool.false_or] at hB
    obtain ⟨⟨⟨h1, h2⟩, h3⟩, h4⟩ := hB
    obtain ⟨o, v, ho, hy, hk⟩ := h
    rw [show ((i, true) :: es).length + r.length = (es.length + r.length) + 1 from by simp only [List.length_cons]; omega]
    exact AnyD.take1 h1b h1C ho hsd (waitsFor_spec h3) _ listed a w hcl (Region.free_spec ho h2) h1 hy hC fun w' hb => ME.anyD r h1b h1C hCb hsd es _ _ w' (hcl.step h1) h4 (h1b w w' hC hb) (hk w' hb)
  | (i, false) :: es, listed, a, w, hcl, hB, hC, h => by
    simp only [orderE, Bool.and_eq_true, List.contains_iff_mem] at hB
    obtain ⟨⟨⟨h1, h2⟩, _⟩, h4⟩ := hB
    obtain ⟨o, v, ho, hy, hk⟩ := h
    rw [show ((i, false) :: es).length + r.length = (es.length + r.length) + 1 from by simp only [List.length_cons]; omega]
    exact AnyD.take hCb ho hsd _ listed a w (Region.free_spec ho h2) h1 hy (h1C w hC) fun w' hb => ME.anyD r h1b h1C hCb hsd es _ _ w' (hcl.step h1) h4 (h1b w w' hC hb) (hk w' hb)
end
/-- The walk over states, first part. -/
def WZ (X : Ctx) (ops : Array Oper) (p : Post) (Hq : Heap) (r es : List (Nat × Bool)) (E : Env) (H : Heap) : Prop := ∀ a w, AE X E a → HW X.H0 X.w0 H w → ME X ops p (fun w => HW X.H0 X.w0 H w) (fun w => HW X.H0 X.w0 Hq w) r es a w
section
variable {X : Ctx} {ops : Array Oper} {p : Post} {Hq : Heap} {E : Env} {H F : Heap} {r es : List (Nat × Bool)} {i : Nat} {o : Oper}
theorem closed0 (l : List Oper) : Closed l.toArray (Array.replicate l.length false) := by
  intro k ok hk hl
  have : k < l.length := by
    have := (Array.getElem?_eq_some_iff.1 hk).1
    simpa using this
  simp [Array.getD_eq_getD_getElem?, this] at hl
theorem WC_drawE {id : Nat} {l : List Oper} (xs : Heap) (es ord : List (Nat × Bool)) (hm : X.P.follows .mixedOrders = true) (hsd : noSD l.toArray = true) (hlen : es.length + ord.length = l.length)
    (hB : orderE l.toArray (noisyOf ord) ord es (Array.replicate l.length false) = true) (hq : Pulls xs H Hq) (h : WZ X l.toArray p Hq ord es E H) : WC X (.region id l.toArray true) p E H := by
  intro a w ha hw
  refine wpIn_region_any hm ?_
  have hb : Bel w { w with drawn := w.drawn + 1 } := Bel.drew' w
  have hw1 := hw.bel hb
  have h1 := ME.anyD (X := X) (p := p) (C1 := fun w => HW X.H0 X.w0 H w) (C := fun w => HW X.H0 X.w0 Hq w) ord (fun _ _ h b => h.bel b) (fun _ h => pulls_rest hq h) (fun _ _ h b => h.bel b) hsd es _ a _ (closed0 l) hB hw1 (h a _ ha hw1)
  rw [hlen] at h1
  have := AnyD.sound _ _ _ _ h1
  simpa using this
theorem WZ_rest (h : WM X ops p Hq r E H) : WZ X ops p Hq r [] E H := h
theorem WZ_early {d : Nat} {v : Value} (ho : ops[i]? = some o) (hg : wantedE ops E o = some true) (hd : o.dst = some d) (hN : Nat.blt d X.N = true) (h : Runs X o E H v)
    (k : WZ X ops p Hq r es ((d, v) :: E) H) : WZ X ops p Hq r ((i, true) :: es) E H := fun a w ha hw =>
  ⟨o, v, ho, .inl ⟨wantedE_spec ha hg, fun w' hw' => .inl (h.2 a w' ha hw')⟩, fun w' hb => k _ _ (by rw [hd]; exact ha.put d v hN) (hw.bel hb)⟩
theorem WZ_val {d : Nat} {v : Value} (ho : ops[i]? = some o) (hg : wantedE ops E o = some true) (hd : o.dst = some d) (hN : Nat.blt d X.N = true) (h : Runs X o E Hq v)
    (k : WZ X ops p Hq r es ((d, v) :: E) H) : WZ X ops p Hq r ((i, false) :: es) E H := fun a w ha hw =>
  ⟨o, v, ho, .inl ⟨wantedE_spec ha hg, fun w' hw' => .inl (h.2 a w' ha hw')⟩, fun w' hb => k _ _ (by rw [hd]; exact ha.put d v hN) (hw.bel hb)⟩
end
end Go.Proofs.Yteofigbgdbpjgaa

end
section
namespace Go.Proofs.Yteofigbgdbpjgaa
section
variable {X : Ctx} {E : Env} {H : Heap} {o : Oper}
theorem Own.void' {n c sz : Nat} {xs tl : List Value} (h : Own none n c sz xs tl) : n = 0 ∧ c = 0 ∧ xs = [] ∧ tl = [] := by
  have h1 := h.nil rfl
  have h2 := h.le
  have h3 := h.cap
  rw [h1, Nat.zero_mul] at h3
  exact ⟨by omega, h1, List.eq_nil_of_length_eq_zero (by omega), List.eq_nil_of_length_eq_zero (by omega)⟩
theorem run_append_nothing {P : Program} {t ty e : TypeId} {sz bytes n c : Nat} {zs : List Value} {ob : Option Nat} (hs : SI P t e sz bytes zs) (hle : n ≤ c) (w : World) :
    (Builtin.append_ #[t, t] ty #[slV ob n c, slV none 0 0]).run P w = .ok (slV ob n c) w := by
  obtain ⟨g1, i, z, g2, g3, g4, g5, g6, g7, g8⟩ := hs
  cases ob <;> simp [Builtin.append_, slV, run_underlying g1, sizeOf, typeInfo, g2, Builtin.lenOf, Builtin.firstCells, hle, storeCells]
/-- append(x, y...) where y may be nil. -/
theorem D_appendO {t e e2 : TypeId} {sz bytes n c m mc : Nat} {zs xs tl news ty : List Value} {ob oy : Option Nat} {x y : Operand} {F : Heap}
    (ho : o.op = .call { callee := .builtin .append, args := #[x, y], argTypes := #[t, t] }) (hs : SI X.P t e sz bytes zs) (hx : ev E x = some (slV ob n c)) (hown : Own ob n c sz xs tl) (hp : Pull ⟨ob, cl (xs ++ tl) e⟩ H F)
    (hy : ev E y = some (slV oy m mc)) (hown2 : Own oy m mc sz news ty) (hm : (⟨oy, cl (news ++ ty) e2⟩ : Ent) ∈ H) (h1 : news.all Value.oneCell' = true) (hroom : (n + m) * bytes ≤ 140737488355328) (h63 : n + m ≤ 9223372036854775807) :
    Does X o E H (fun v H' => ∃ ob' c' tl', v = slV ob' (n + m) c' ∧ Own ob' (n + m) c' sz (xs ++ news) tl' ∧ H' = ⟨ob', cl (xs ++ news ++ tl') e⟩ :: F) := by
  cases oy with
  | some b2 => exact D_append ho hs hx hown hp hy hm (fun j v hj => by rw [Nat.zero_add, List.getElem?_append_left (List.getElem?_eq_some_iff.1 hj).1]; exact hj : At (news ++ ty) 0 news) hown2.len h1 hroom h63
  | none =>
    obtain ⟨rfl, rfl, rfl, rfl⟩ := hown2.void'
    intro a w ha hw next Q kk
    refine ⟨about_true, ?_⟩
    rw [semAt_of (by rw [ho]; intro c e; cases e)]
    have hr := run_append_nothing (ty := o.type) (ob := ob) hs hown.le w
    have hexec : (execOp a.eval o).run X.P w = .ok (.value (slV ob n c)) w := by
      simp [execOp, ho, resolve, ha.eval hx, ha.eval hy, invoke, builtin, hr]
    rw [hexec]
    exact kk _ _ _ ⟨ob, c, tl, rfl, by rw [List.append_nil]; exact hown, rfl⟩ (by rw [List.append_nil]; exact hw.perm hp.perm)
end
end Go.Proofs.Yteofigbgdbpjgaa

end
section
set_option linter.unusedVariables false
set_option linter.unusedSimpArgs false
namespace Go.Proofs.Yteofigbgdbpjgaa

/-! ### Parts of a heap that stay as they are -/
theorem Pull.app {x : Ent} {B B' : Heap} (h : Pull x B B') : ∀ A : Heap, Pull x (A ++ B) (A ++ B')
  | [] => h
  | _ :: A => .tail (Pull.app h A)
theorem Pulls.app {ys B F : Heap} (h : Pulls ys B F) : ∀ A : Heap, Pulls (A ++ ys) (A ++ B) F
  | [] => h
  | _ :: A => .cons .head (Pulls.app h A)
theorem Pulls.skipA {xs B F : Heap} (h : Pulls xs B F) : ∀ A : Heap, Pulls xs (A ++ B) (A ++ F)
  | [] => h
  | _ :: A => .skip (Pulls.skipA h A)
theorem Pulls.appE (A B : Heap) : Pulls A (A ++ B) B := by
  have := Pulls.app (ys := []) (B := B) (F := B) .nil A
  rw [List.append_nil] at this; exact this
/-- A part of a heap taken out as a whole, wherever it lies. -/
inductive PullA (A : Heap) : Heap → Heap → Prop
  | here {B : Heap} : PullA A (A ++ B) B
  | all : PullA A A []
  | tail {y : Ent} {l l' : Heap} : PullA A l l' → PullA A (y :: l) (y :: l')
  | app {l l' : Heap} (C : Heap) : PullA A l l' → PullA A (C ++ l) (C ++ l')
theorem PullA.perm {A H F : Heap} (h : PullA A H F) : H.Perm (A ++ F) := by
  induction h with
  | here => exact .refl _
  | all => simp
  | tail _ ih => exact (List.Perm.cons _ ih).trans List.perm_middle.symm
  | app C _ ih =>
    refine (List.Perm.append_left C ih).trans ?_
    rw [← List.append_assoc, ← List.append_assoc]
    exact List.Perm.append_right _ List.perm_append_comm
theorem Pulls.chunk {A xs H H1 F : Heap} (h : PullA A H H1) (k : Pulls xs H1 F) : Pulls (A ++ xs) H F :=
  .ofPerm (h.perm.trans (by rw [List.append_assoc]; exact List.Perm.append_left A k.perm))
theorem Pulls.chunk1 {A H F : Heap} (h : PullA A H F) : Pulls A H F := .ofPerm h.perm
theorem Pull.assoc {x : Ent} {A B C F : Heap} (h : Pull x (A ++ (B ++ C)) F) : Pull x ((A ++ B) ++ C) F := by rw [List.append_assoc]; exact h
theorem PullA.assoc {X A B C F : Heap} (h : PullA X (A ++ (B ++ C)) F) : PullA X ((A ++ B) ++ C) F := by rw [List.append_assoc]; exact h
theorem Pulls.assoc {xs A B C F : Heap} (h : Pulls xs (A ++ (B ++ C)) F) : Pulls xs ((A ++ B) ++ C) F := by rw [List.append_assoc]; exact h
theorem Pulls.assocX {A B C H F : Heap} (h : Pulls (A ++ (B ++ C)) H F) : Pulls ((A ++ B) ++ C) H F := by rw [List.append_assoc]; exact h
theorem mem_assoc {x : Ent} {A B C : Heap} (h : x ∈ A ++ (B ++ C)) : x ∈ (A ++ B) ++ C := by rw [List.append_assoc]; exact h
theorem plY {x : Ent} {H F : Heap} (h : Pull x H F := by repeat (first | exact Pull.head | apply Pull.tail | apply Pull.assoc | apply Pull.app)) : Pull x H F := h
theorem pqY {A H F : Heap} (h : Pulls A H F := by repeat (first | exact Pulls.nil | exact Pulls.all | (apply Pulls.cons; (repeat (first | exact Pull.head | apply Pull.tail | apply Pull.assoc | apply Pull.app))) | apply Pulls.assocX | (apply Pulls.chunk; (repeat (first | exact PullA.here | exact PullA.all | apply PullA.tail | apply PullA.assoc | apply PullA.app))) | exact Pulls.appE _ _ | apply Pulls.skip | apply Pulls.assoc | apply Pulls.skipA)) : Pulls A H F := h
theorem mmY {x : Ent} {H : Heap} (h : x ∈ H := by repeat (first | exact List.Mem.head _ | refine List.Mem.tail _ ?_ | refine mem_assoc ?_ | refine List.mem_append_right _ ?_)) : x ∈ H := h
theorem HW.rebase {H H2 H' : Heap} {w w' : World} (hp : H2.Perm H) (r : HW H w H' w') : HW H2 w H' w' :=
  ⟨r.hok, r.os, r.tape, r.output, r.size, fun k hk hn => r.kept k hk (fun h => hn ((keys_perm hp).mem_iff.2 h)), fun k hk => (r.own k hk).imp (fun h => (keys_perm hp).mem_iff.2 h) id, r.dr⟩
theorem Spec.fr {P : Program} {f : FuncId} {args : List Value} {H : Heap} {post : Value → Heap → Prop} (h : Spec P f args H post) (F : Heap) : Spec P f args (H ++ F) (fun v H' => ∃ H1, post v H1 ∧ H' = H1 ++ F) :=
  ⟨h.enters, fun w hw => (h.calls w hw.left).mono fun e w' ⟨v, H', e1, p, r⟩ => ⟨v, H' ++ F, e1, ⟨H', p, rfl⟩, HW.frame (HW.start hw) (.refl _) r⟩⟩
theorem Spec.perm {P : Program} {f : FuncId} {args : List Value} {H H2 : Heap} {post : Value → Heap → Prop} (h : Spec P f args H post) (hp : H2.Perm H) : Spec P f args H2 post :=
  ⟨h.enters, fun w hw => (h.calls w (hw.perm hp)).mono fun e w' ⟨v, H', e1, p, r⟩ => ⟨v, H', e1, p, r.rebase hp⟩⟩

theorem Spec.re {P : Program} {f : FuncId} {args : List Value} {H : Heap} {post : Value → Heap → Prop} (h : Spec P f args H (fun r H' => ∃ H1, H'.Perm H1 ∧ post r H1)) : Spec P f args H post :=
  ⟨h.enters, fun w hw => (h.calls w hw).mono fun e w' ⟨v, H', e1, ⟨H1, p, q⟩, r⟩ => ⟨v, H1, e1, q, r.perm p⟩⟩

/-! ### Keys of any type -/
/-- Keys of a map's type, as the model handles them. -/
structure KeyOk (P : Program) (kt : TypeId) {κ : Type} (ek : κ → Value) : Prop where
  chk : ∀ (em : Bool) (k : κ) (w : World), (Instr.checkKey em 10000 kt (ek k)).run P w = .ok () w
  find : ∀ (k : κ) (l : List MapEntry) (w : World), (∀ x ∈ l, ∃ k', x.key = ek k') → ∃ r, (Instr.findKey kt (ek k) l).run P w = .ok r w ∧ ((r = none ∧ ∀ x ∈ l, x.key ≠ ek k) ∨ ∃ (j : Nat) (e : MapEntry), r = some (j, e.val) ∧ l[j]? = some e ∧ e.key = ek k)
  inj : ∀ a b, ek a = ek b → a = b
/-- What lies in a map, with the stamps of its entries. -/
structure Mk {κ α : Type} (ek : κ → Value) (ev : α → Value) (es : Array MapEntry) (c : Nat) (L : List (κ × α)) : Prop where
  perm : (es.toList.map fun e => (e.key, e.val)).Perm (L.map fun x => (ek x.1, ev x.2))
  nodup : (L.map (·.1)).Nodup
  born : ∀ e ∈ es.toList, e.born < c
  bnd : (es.toList.map (·.born)).Nodup
section
variable {κ α : Type} {P : Program} {kt : TypeId} {ek : κ → Value} {ev : α → Value} {es : Array MapEntry} {c : Nat} {L L' : List (κ × α)}
theorem Mk.empty : Mk ek ev #[] 0 ([] : List (κ × α)) := ⟨by simp, by simp, by simp, by simp⟩
theorem Mk.to (h : Mk ek ev es c L) (p : L.Perm L') : Mk ek ev es c L' := ⟨h.perm.trans (p.map _), (p.map _).nodup_iff.1 h.nodup, h.born, h.bnd⟩
theorem Mk.has (h : Mk ek ev es c L) {x : κ × α} (hx : x ∈ L) : ∃ e ∈ es.toList, e.key = ek x.1 ∧ e.val = ev x.2 := by
  have : (ek x.1, ev x.2) ∈ es.toList.map fun e => (e.key, e.val) := h.perm.mem_iff.2 (List.mem_map.2 ⟨x, hx, rfl⟩)
  obtain ⟨e, he, hh⟩ := List.mem_map.1 this
  exact ⟨e, he, congrArg Prod.fst hh, congrArg Prod.snd hh⟩
theorem Mk.back (h : Mk ek ev es c L) {e : MapEntry} (he : e ∈ es.toList) : ∃ x ∈ L, e.key = ek x.1 ∧ e.val = ev x.2 := by
  have : (e.key, e.val) ∈ L.map fun x => (ek x.1, ev x.2) := h.perm.mem_iff.1 (List.mem_map.2 ⟨e, he, rfl⟩)
  obtain ⟨x, hx, hh⟩ := List.mem_map.1 this
  exact ⟨x, hx, (congrArg Prod.fst hh).symm, (congrArg Prod.snd hh).symm⟩
theorem Mk.keys (h : Mk ek ev es c L) : ∀ x ∈ es.toList, ∃ k', x.key = ek k' := fun x hx => by
  obtain ⟨y, _, e1, _⟩ := h.back hx
  exact ⟨y.1, e1⟩
theorem Mk.find (K : KeyOk P kt ek) (h : Mk ek ev es c L) {k : κ} {a : α} (hx : (k, a) ∈ L) (w : World) : ∃ j, (Instr.findKey kt (ek k) es.toList).run P w = .ok (some (j, ev a)) w := by
  obtain ⟨r, h1, h2⟩ := K.find k es.toList w h.keys
  rcases h2 with ⟨_, h2⟩ | ⟨j, e, rfl, h2, h3⟩
  · obtain ⟨e, he, hk, _⟩ := h.has hx
    exact absurd hk (h2 e he)
  · obtain ⟨⟨k', b⟩, hy, e1, e2⟩ := h.back (List.mem_of_getElem? h2)
    obtain rfl := K.inj _ _ (e1.symm.trans h3)
    obtain rfl := key_uniq h.nodup hx hy
    exact ⟨j, by rw [h1, e2]⟩
theorem Mk.none (K : KeyOk P kt ek) (h : Mk ek ev es c L) {k : κ} (hx : k ∉ L.map (·.1)) (w : World) : (Instr.findKey kt (ek k) es.toList).run P w = .ok none w := by
  obtain ⟨r, h1, h2⟩ := K.find k es.toList w h.keys
  rcases h2 with ⟨rfl, _⟩ | ⟨j, e, rfl, h2, h3⟩
  · exact h1
  · obtain ⟨⟨k', b⟩, hy, e1, _⟩ := h.back (List.mem_of_getElem? h2)
    obtain rfl := K.inj _ _ (e1.symm.trans h3)
    exact absurd (List.mem_map.2 ⟨_, hy, rfl⟩) hx
theorem Mk.add (h : Mk ek ev es c L) {k : κ} (a : α) (hx : k ∉ L.map (·.1)) : Mk ek ev (es.push { key := ek k, val := ev a, born := c }) (c + 1) ((k, a) :: L) := by
  refine ⟨?_, by simpa using ⟨by simpa using hx, h.nodup⟩, fun e he => ?_, ?_⟩
  · rw [Array.toList_push, List.map_append]
    exact List.perm_append_comm.trans (.cons _ h.perm)
  · rw [Array.toList_push, List.mem_append, List.mem_singleton] at he
    rcases he with he | rfl
    · exact Nat.lt_succ_of_lt (h.born e he)
    · exact Nat.lt_succ_self c
  · rw [Array.toList_push, List.map_append, List.nodup_append]
    refine ⟨h.bnd, by simp, fun x hx y hy => ?_⟩
    obtain ⟨e, he, rfl⟩ := List.mem_map.1 hx
    have := h.born e he
    simp at hy
    omega
end
section
variable {X : Ctx} {E : Env} {H F : Heap} {o : Oper} {κ α : Type} {ek : κ → Value} {ev : α → Value} {es : Array MapEntry} {c b : Nat} {L : List (κ × α)} {mt kt et : TypeId} {x y z : Operand}
/-- v := m[k] -/
theorem R_lookK {k : κ} {a : α} (ho : o.op = .lookup mt x y false) (hu : X.P.underlying mt = some (.map kt et)) (K : KeyOk X.P kt ek) (hx : Go.Proofs.Yteofigbgdbpjgaa.ev E x = some (.map (some b))) (hy : Go.Proofs.Yteofigbgdbpjgaa.ev E y = some (ek k)) (hm : (⟨some b, .map es c⟩ : Ent) ∈ H) (hM : Mk ek ev es c L) (hin : (k, a) ∈ L) :
    Runs X o E H (ev a) :=
  ⟨(by rw [ho]; intro c e; cases e), fun A w ha hw => by
    obtain ⟨j, h1⟩ := hM.find K hin w
    have hl : (Instr.lookup mt (.map (some b)) (ek k) false).run X.P w = .ok (ev a) w := by
      simp [Instr.lookup, run_underlying hu, MapKept.run_getObj_map (hw.mapAt hm), K.chk, h1, Result.andThen]
    simp [execOp, ho, ha.eval hx, ha.eval hy, hl]⟩
theorem R_lookK0 {k : κ} {zv : Value} (ho : o.op = .lookup mt x y false) (hu : X.P.underlying mt = some (.map kt et)) (K : KeyOk X.P kt ek) (hx : Go.Proofs.Yteofigbgdbpjgaa.ev E x = some (.map (some b))) (hy : Go.Proofs.Yteofigbgdbpjgaa.ev E y = some (ek k)) (hm : (⟨some b, .map es c⟩ : Ent) ∈ H) (hM : Mk ek ev es c L) (hin : k ∉ L.map (·.1))
    (hz : ∀ w, (zeroValue et).run X.P w = .ok zv w) : Runs X o E H zv :=
  ⟨(by rw [ho]; intro c e; cases e), fun A w ha hw => by
    have h1 := hM.none K hin w
    have hl : (Instr.lookup mt (.map (some b)) (ek k) false).run X.P w = .ok zv w := by
      simp [Instr.lookup, run_underlying hu, MapKept.run_getObj_map (hw.mapAt hm), K.chk, h1, hz, Result.andThen]
    simp [execOp, ho, ha.eval hx, ha.eval hy, hl]⟩
/-- m[k] = v, of a key that does not lie there. -/
theorem D_mapAddK {k : κ} {v : α} (ho : o.op = .mapUpdate mt x y z) (hu : X.P.underlying mt = some (.map kt et)) (K : KeyOk X.P kt ek) (hx : Go.Proofs.Yteofigbgdbpjgaa.ev E x = some (.map (some b))) (hy : Go.Proofs.Yteofigbgdbpjgaa.ev E y = some (ek k)) (hz : Go.Proofs.Yteofigbgdbpjgaa.ev E z = some (ev v)) (hp : Pull ⟨some b, .map es c⟩ H F) (hM : Mk ek ev es c L) (hin : k ∉ L.map (·.1)) :
    Does X o E H (fun _ H' => ∃ es', Mk ek ev es' (c + 1) ((k, v) :: L) ∧ H' = ⟨some b, .map es' (c + 1)⟩ :: F) := by
  intro A w ha hw next Q kk
  refine ⟨about_true, ?_⟩
  rw [semAt_of (by rw [ho]; intro c e; cases e)]
  have hb := hw.mapAt (pull_mem hp)
  have h1 := hM.none K hin w
  have hrun : (execOp A.eval o).run X.P w = .ok .skip { w with heap := w.heap.setIfInBounds b (.map (es.push { key := ek k, val := ev v, born := c }) (c + 1)) } := by
    simp [execOp, ho, ha.eval hx, ha.eval hy, ha.eval hz, Instr.mapUpdate, run_underlying hu, MapKept.run_getObj_map hb, K.chk, h1, MapKept.run_setObj_map _ hb, Result.andThen]
  rw [hrun]
  exact kk undef _ _ ⟨_, hM.add v hin, rfl⟩ (hw.turnMap hp)
/-! ### for k, v := range m -/
theorem D_rangeMap (ho : o.op = .range mt x) (hu : X.P.underlying mt = some (.map kt et)) (hx : Go.Proofs.Yteofigbgdbpjgaa.ev E x = some (.map (some b))) (hm : (⟨some b, .map es c⟩ : Ent) ∈ H) :
    Does X o E H (fun v H' => ∃ bi, v = .pointer (some ⟨bi, 0, none⟩) ∧ H' = ⟨some bi, .mapIter (some b) c #[] c⟩ :: H) := by
  intro A w ha hw next Q kk
  refine ⟨about_true, ?_⟩
  rw [semAt_of (by rw [ho]; intro c e; cases e)]
  have hrun : (execOp A.eval o).run X.P w = .ok (.value (.pointer (some ⟨w.heap.size, 0, none⟩))) (w.alloc (.mapIter (some b) c #[] c)) := by
    simp [execOp, ho, ha.eval hx, run_range_map w mt kt et b es c hu (hw.mapAt hm)]
  rw [hrun]
  exact kk _ _ _ ⟨_, rfl, rfl⟩ (hw.alloc _)
theorem run_choose_next {P : Program} (w : World) {n : Nat} (hn : 0 < n) : ∃ j w1, j < n ∧ (w1 = w ∨ w1 = { w with drawn := w.drawn + 1 }) ∧ (choose (.mapNext n)).run P w = .ok j w1 := by
  by_cases hf : n ≤ 1
  · exact ⟨0, w, hn, .inl rfl, by simp [choose, Sem.run, Question.forced, hf]⟩
  · exact ⟨_, _, Nat.mod_lt _ hn, .inr rfl, by
      simp only [choose, Sem.run, Question.forced, decide_eq_true_eq, hf, if_false, Question.cut]
      rfl⟩
/-- The next entry, whichever; or none is left. -/
theorem D_nextMap {bi : Nat} {seen : Array Nat} (ho : o.op = .next x false) (hx : Go.Proofs.Yteofigbgdbpjgaa.ev E x = some (.pointer (some ⟨bi, 0, none⟩))) (hp : Pull ⟨some bi, .mapIter (some b) c seen c⟩ H F) (hm : (⟨some b, .map es c⟩ : Ent) ∈ H) (hb : ∀ e ∈ es.toList, e.born < c) :
    Does X o E H (fun v H' => (v = .tuple #[.bool false] ∧ H' = ⟨some bi, .mapIter (some b) c seen c⟩ :: F ∧ ∀ e ∈ es.toList, e.born ∈ seen) ∨ ∃ e ∈ es.toList, e.born ∉ seen ∧ v = .tuple #[.bool true, e.key, e.val] ∧ H' = ⟨some bi, .mapIter (some b) c (seen.push e.born) c⟩ :: F) := by
  intro A w ha hw next Q kk
  refine ⟨about_true, ?_⟩
  rw [semAt_of (by rw [ho]; intro c e; cases e)]
  have hmb := hw.mapAt hm
  have hw1 := hw.perm hp.perm
  have hib : w.heap[bi]? = some (.mapIter (some b) c seen c) := by
    have := hw1.hok.ok _ (List.mem_cons_self ..)
    simpa [Ent.ok] using this
  have hex : ∀ r, (Instr.next (.pointer (some ⟨bi, 0, none⟩)) false o.type).run X.P w = r → (execOp A.eval o).run X.P w = (r.andThen fun v w' => .ok (.value v) w') := fun r hr => by
    simp [execOp, ho, ha.eval hx, hr]
  have hg : (getObj bi).run X.P w = .ok (.mapIter (some b) c seen c) w := by simp [getObj, Sem.run, hib]
  have hg2 : (getObj b).run X.P w = .ok (.map es c) w := MapKept.run_getObj_map hmb
  have htest := next_test_false seen es c c hb (Nat.le_refl _)
  have e1 : (es.filter fun e => !seen.contains e.born).filter (fun x => decide (x.born < c)) = es.filter fun e => !seen.contains e.born := Array.filter_eq_self.2 (fun x hx => by
    have : x ∈ es.toList := by simp at hx ⊢; exact hx.1
    simpa using hb x this)
  have e2 : (es.filter fun e => !seen.contains e.born).filter (fun x => decide (x.born ≥ c)) = #[] := by
    rw [Array.filter_eq_empty_iff]
    intro x hx
    have : x ∈ es.toList := by simp at hx ⊢; exact hx.1
    have := hb x this
    simp
    omega
  have hmem : ∀ e, e ∈ es.filter (fun e => !seen.contains e.born) ↔ e ∈ es.toList ∧ e.born ∉ seen := fun e => by simp
  have hn : (Instr.next (.pointer (some ⟨bi, 0, none⟩)) false o.type).run X.P w = (if (es.filter fun e => !seen.contains e.born).isEmpty then .ok (.tuple #[.bool false]) w else
      (do let j ← choose (.mapNext (es.filter fun e => !seen.contains e.born).size)
          match ((es.filter fun e => !seen.contains e.born).map some)[j]? with
          | some (some e) => do
            setObj bi (.mapIter (some b) c (seen.push e.born) c)
            pure (.tuple #[.bool true, e.key, e.val])
          | some none => pure (.tuple #[.bool false])
          | none => stuck "Next: no such candidate" : Sem Value).run X.P w) := by
    simp only [Instr.next, Sem.run_bind, hg, hg2, Result.andThen_ok, htest, Bool.false_eq_true, if_false, e1, e2, Array.append_empty]
    by_cases h0 : (es.filter fun e => !seen.contains e.born).isEmpty = true
    · have : (es.filter fun e => !seen.contains e.born) = #[] := by simpa using h0
      rw [this]
      simp [choose, Sem.run, Question.forced, Result.andThen]
    · simp only [h0, if_false, Array.empty_append, Array.size_map, Bool.false_eq_true]
      rfl
  generalize es.filter (fun e => !seen.contains e.born) = Lf at hmem hn
  by_cases h0 : Lf.isEmpty = true
  · rw [if_pos h0] at hn
    rw [hex _ hn]
    refine kk _ _ _ (.inl ⟨rfl, rfl, fun e he => ?_⟩) hw1
    have hLe : Lf = #[] := by simpa using h0
    by_cases hs : e.born ∈ seen
    · exact hs
    · have := (hmem e).2 ⟨he, hs⟩
      rw [hLe] at this
      simp at this
  · rw [if_neg h0] at hn
    have hpos : 0 < Lf.size := by
      rcases Nat.eq_zero_or_pos Lf.size with h | h
      · exact absurd (by simpa using Array.eq_empty_of_size_eq_zero h) h0
      · exact h
    obtain ⟨j, w1, hj, hw1e, hrun⟩ := run_choose_next (P := X.P) w hpos
    have hb1 : Bel w w1 := by
      rcases hw1e with rfl | rfl
      · exact Bel.refl _
      · exact Bel.drew' w
    have hw2 := hw.bel hb1
    have hw2p := hw2.perm hp.perm
    have hlt : bi < w1.heap.size := hw2p.hok.lt (by simp [keys])
    have hib1 : w1.heap[bi]? = some (.mapIter (some b) c seen c) := by
      have := hw2p.hok.ok _ (List.mem_cons_self ..)
      simpa [Ent.ok] using this
    have hset : (setObj bi (.mapIter (some b) c (seen.push Lf[j].born) c)).run X.P w1 = .ok () { w1 with heap := w1.heap.setIfInBounds bi (.mapIter (some b) c (seen.push Lf[j].born) c) } := by
      simp only [setObj, Sem.run, hib1]
    have hn2 : (Instr.next (.pointer (some ⟨bi, 0, none⟩)) false o.type).run X.P w = .ok (.tuple #[.bool true, Lf[j].key, Lf[j].val]) { w1 with heap := w1.heap.setIfInBounds bi (.mapIter (some b) c (seen.push Lf[j].born) c) } := by
      rw [hn]
      simp only [Sem.run_bind, hrun, Result.andThen_ok, Array.getElem?_map, Array.getElem?_eq_getElem hj, Option.map_some, hset, Sem.run_pure]
    rw [hex _ hn2]
    have hin := (hmem Lf[j]).1 (Array.getElem_mem hj)
    refine kk _ _ _ (.inr ⟨Lf[j], hin.1, hin.2, rfl, rfl⟩) (hw2.turn hp (by simp) ?_ (fun k hk => ?_) rfl rfl rfl)
    · simp [Array.getElem?_setIfInBounds, hlt]
    · simp [Array.getElem?_setIfInBounds, Ne.symm hk]
/-- The key and the value of the round. -/
theorem R_entryMap {bi : Nat} {seen : Array Nat} {e : MapEntry} (ho : o.op = .entry x) (hx : Go.Proofs.Yteofigbgdbpjgaa.ev E x = some (.pointer (some ⟨bi, 0, none⟩))) (hi : (⟨some bi, .mapIter (some b) c (seen.push e.born) c⟩ : Ent) ∈ H) (hm : (⟨some b, .map es c⟩ : Ent) ∈ H) (he : e ∈ es.toList) (hn : (es.toList.map (·.born)).Nodup) : Runs X o E H (.tuple #[e.key, e.val]) :=
  ⟨(by rw [ho]; intro c e; cases e), fun A w ha hw => by
    have hmb := hw.mapAt hm
    have hib : w.heap[bi]? = some (.mapIter (some b) c (seen.push e.born) c) := by
      have := hw.hok.ok _ hi
      simpa [Ent.ok] using this
    have hg : (getObj bi).run X.P w = .ok (.mapIter (some b) c (seen.push e.born) c) w := by simp [getObj, Sem.run, hib]
    have hg2 : (getObj b).run X.P w = .ok (.map es c) w := MapKept.run_getObj_map hmb
    have hf : es.find? (·.born == e.born) = some e := by rw [← Array.find?_toList]; exact find_born e es.toList hn he
    have hl : (Instr.entry (.pointer (some ⟨bi, 0, none⟩))).run X.P w = .ok (.tuple #[e.key, e.val]) w := by
      simp only [Instr.entry, Sem.run_bind, hg, hg2, Result.andThen_ok, Array.back?_push, bne_self_eq_false, Bool.false_eq_true, if_false, hf]
      rfl
    simp [execOp, ho, ha.eval hx, hl]⟩
end
end Go.Proofs.Yteofigbgdbpjgaa

end
section
set_option linter.unusedVariables false
set_option linter.unusedSimpArgs false
namespace Go.Proofs.Yteofigbgdbpjgaa
abbrev sVal (ob : Option Nat) (k n c : Nat) : Value := .slice (ob.map fun b => ⟨b, k, none⟩) n c
/-- The cells of such a slice: 'pre' before it, 'xs' up to its length, 'tl' up to its capacity. -/
structure OwnS (ob : Option Nat) (k n c sz : Nat) (pre xs tl : List Value) : Prop where
  off : pre.length = k ∨ c = 0
  len : xs.length = n * sz
  cap : xs.length + tl.length = c * sz
  le : n ≤ c
  big : c ≤ 9223372036854775807
  nil : ob = none → c = 0 ∧ pre = []
theorem OwnS.empty (sz : Nat) : OwnS none 0 0 0 sz [] [] [] := ⟨.inl rfl, by simp, by simp, by simp, by simp, fun _ => ⟨rfl, rfl⟩⟩
theorem OwnS.of {ob : Option Nat} {n c sz : Nat} {xs tl : List Value} (h : Own ob n c sz xs tl) : OwnS ob 0 n c sz [] xs tl := ⟨.inl rfl, h.len, h.cap, h.le, h.big, fun e => ⟨h.nil e, rfl⟩⟩
section
variable {ob : Option Nat} {k n c sz : Nat} {pre xs tl : List Value}
theorem OwnS.some_of (h : OwnS ob k n c sz pre xs tl) (hn : 0 < n) : ∃ b, ob = some b := by
  cases ob with
  | some b => exact ⟨b, rfl⟩
  | none => have := (h.nil rfl).1; have := h.le; omega
theorem OwnS.at_ (h : OwnS ob k n c sz pre xs tl) (hn : 0 < n) : pre.length = k := by
  rcases h.off with e | e
  · exact e
  · have := h.le; omega
/-- x[1:] -/
theorem OwnS.cut {ys zs : List Value} {m : Nat} (h : OwnS ob k n c sz pre xs tl) (hx : xs = ys ++ zs) (hy : ys.length = sz) (hn : n = m + 1) : OwnS ob (if c = 1 then k else k + sz) m (c - 1) sz (pre ++ ys) zs tl := by
  have h1 := h.len
  have h2 := h.cap
  have h3 := h.le
  have h4 := h.at_ (by omega)
  obtain ⟨d, rfl⟩ : ∃ d, c = d + 1 := ⟨c - 1, by omega⟩
  subst hx
  rw [List.length_append, hy, hn, Nat.add_mul, Nat.one_mul] at h1
  rw [List.length_append, hy, Nat.add_mul, Nat.one_mul] at h2
  rw [Nat.add_sub_cancel]
  refine ⟨?_, by omega, by omega, by omega, by have := h.big; omega, fun e => by have := (h.nil e).1; omega⟩
  by_cases e : d = 0
  · exact .inr e
  · left
    rw [if_neg (by omega), List.length_append, hy, h4]
theorem OwnS.get {α : Type} {enc : α → List Value} {T : List α} (hk : ∀ x, (enc x).length = sz) (h : OwnS ob k n c sz pre (T.flatMap enc) tl) {i : Nat} {x : α} (hx : T[i]? = some x) (hi : i < n) {j : Nat} (hj : j < sz) : (pre ++ (T.flatMap enc ++ tl))[k + i * sz + j]? = (enc x)[j]? := by
  have h4 := h.at_ (by omega)
  rw [Nat.add_assoc, List.getElem?_append_right (by omega), show k + (i * sz + j) - pre.length = i * sz + j from by omega]
  exact fm_get hk hx hj tl
end
section
variable {X : Ctx} {E : Env} {H : Heap} {o : Oper}
theorem R_indexS {t u : TypeId} {x y : Operand} {ob : Option Nat} {b k n c sz i : Nat} {kk : IntKind} (hob : ob = some b) (ho : o.op = .indexAddr t x y) (hu : X.P.underlying t = some (.slice u)) (hs : ∀ w, (sizeOf u).run X.P w = .ok sz w)
    (hx : ev E x = some (sVal ob k n c)) (hy : ev E y = some (.int kk (i : Int))) (hi : i < n) : Runs X o E H (.pointer (some ⟨b, k + i * sz, none⟩)) := by
  subst hob
  exact R_indexAddrN ho hu hs hx hy hi
theorem R_cut1 {t u : TypeId} {x y : Operand} {ob : Option Nat} {b k n m c sz : Nat} {kk : IntKind} (hob : ob = some b) (ho : o.op = .slice t x (some y) none none) (hu : X.P.underlying t = some (.slice u)) (hs : ∀ w, (sizeOf u).run X.P w = .ok sz w)
    (hx : ev E x = some (sVal ob k n c)) (hy : ev E y = some (.int kk 1)) (hn : n = m + 1) : Runs X o E H (sVal ob (if c = 1 then k else k + sz) m (c - 1)) := by
  subst hob hn
  have h := R_sliceFromK (m := 1) (H := H) ho hu hs hx hy (by omega)
  rw [Nat.one_mul] at h
  exact h
theorem R_lenS {t : TypeId} {x : Operand} {u : TypeId} {ob : Option Nat} {k n c : Nat} (ho : o.op = .call { callee := .builtin .len, args := #[x], argTypes := #[t] }) (hu : X.P.underlying t = some (.slice u)) (hx : ev E x = some (sVal ob k n c)) : Runs X o E H (.int .i64 (n : Int)) := R_len ho hu hx
/-- append, from such a slice. -/
theorem D_appendS {t e e2 : TypeId} {sz bytes k n c m mc b2 k2 : Nat} {zs pre xs tl cs2 news : List Value} {ob : Option Nat} {x y : Operand} {F : Heap}
    (ho : o.op = .call { callee := .builtin .append, args := #[x, y], argTypes := #[t, t] }) (hs : SI X.P t e sz bytes zs) (hx : ev E x = some (sVal ob k n c)) (hown : OwnS ob k n c sz pre xs tl) (hp : Pull ⟨ob, cl (pre ++ (xs ++ tl)) e⟩ H F)
    (hy : ev E y = some (.slice (some ⟨b2, k2, none⟩) m mc)) (hm : (⟨some b2, cl cs2 e2⟩ : Ent) ∈ H) (hat : At cs2 k2 news) (hl : news.length = m * sz) (h1 : news.all Value.oneCell' = true) (hm0 : 0 < m) (hroom : (n + m) * bytes ≤ 140737488355328) (h63 : n + m ≤ 9223372036854775807) :
    Does X o E H (fun v H' => ∃ ob' k' c' pre' tl', v = sVal ob' k' (n + m) c' ∧ OwnS ob' k' (n + m) c' sz pre' (xs ++ news) tl' ∧ H' = ⟨ob', cl (pre' ++ (xs ++ news ++ tl')) e⟩ :: F) := by
  intro a w ha hw next Q kk
  obtain ⟨g1, i, z, g2, g3, g4, g5, g6, g7, g8⟩ := hs
  refine ⟨about_true, ?_⟩
  rw [semAt_of (by rw [ho]; intro c e; cases e)]
  have hnews := cells_at hw hm hat
  have hexec : ∀ v w', (Builtin.append_ #[t, t] o.type #[sVal ob k n c, .slice (some ⟨b2, k2, none⟩) m mc]).run X.P w = .ok v w' → (execOp a.eval o).run X.P w = .ok (.value v) w' := fun v w' h => by
    simp [execOp, ho, resolve, ha.eval hx, ha.eval hy, invoke, builtin, h]
  have hl' : news.length = m * i.size := by rw [g4]; exact hl
  cases ob with
  | none =>
    obtain ⟨hc, hpre⟩ := hown.nil rfl
    have hn : n = 0 := by have := hown.le; omega
    subst hn; subst hc; subst hpre
    have hxs : xs = [] := List.eq_nil_of_length_eq_zero (by simpa using hown.len)
    subst hxs
    have hr := run_append_nil (P := X.P) w t o.type e i z g1 g2 g3 ⟨b2, k2, none⟩ m mc news hl' hnews hm0 (by omega) (by rw [g5]; simp only [Nat.zero_add] at hroom; omega)
    rw [hexec _ _ hr]
    obtain ⟨tl', e1, e2⟩ := grown_own (w := w) (n := 0) (m := m) (c := 0) (e := e) (xs := []) (news := news) (zs := zs) (by simp) hl g7 h63 w.heap.size
    simp only [Nat.zero_add, List.nil_append, Array.empty_append] at e1 e2
    rw [g6]
    rw [e1]
    refine kk _ _ _ ⟨some w.heap.size, 0, _, [], tl', ?_, OwnS.of (by simpa using e2), rfl⟩ (((hw.drop hp).drew).alloc (cl (news ++ tl') e))
    simp
  | some b =>
    have hb : w.heap[b]? = some (cl (pre ++ (xs ++ tl)) e) := by
      have := hw.hok.ok _ (pull_mem hp)
      simpa [Ent.ok] using this
    by_cases hfit : n + m ≤ c
    · have hk : pre.length = k := by
        rcases hown.off with e9 | e9
        · exact e9
        · omega
      have hlen : (xs ++ news).length = (n + m) * sz := by rw [List.length_append, hown.len, hl, Nat.add_mul]
      have h3 := hown.cap
      have h5 := Nat.mul_le_mul_right sz hfit
      rw [← hlen, ← h3, List.length_append] at h5
      have hfc := run_firstCells_some (P := X.P) w i.size m ⟨b2, k2, none⟩ m mc news hl' hnews
      obtain ⟨w', s1, s2, s3, s4, s5, s6, s7, s8⟩ := run_storeCells_at (P := X.P) (b := b) (e := e) (k + n * i.size) news 0 (pre ++ (xs ++ tl)) w hb (by rw [g4, ← hown.len]; simp only [List.length_append]; omega) (List.all_eq_true.1 h1)
      have hr : (Builtin.append_ #[t, t] o.type #[sVal (some b) k n c, .slice (some ⟨b2, k2, none⟩) m mc]).run X.P w = .ok (sVal (some b) k (n + m) c) w' := by
        simp [Builtin.append_, run_underlying g1, sizeOf, typeInfo, g2, Builtin.lenOf, hfit, hfc, add_at, s1]
      rw [hexec _ _ hr]
      have hput : putAt (pre ++ (xs ++ tl)) (k + n * i.size + 0) news = pre ++ (xs ++ news ++ tl.drop news.length) := by
        rw [g4, ← hown.len, ← hk, Nat.add_zero, putAt_append, show xs.length = xs.length + 0 from rfl, putAt_append, putAt_eq _ _ _ (by omega)]
        simp
      refine kk _ _ _ ⟨some b, k, c, pre, tl.drop news.length, rfl, ⟨.inl hk, hlen, ?_, hfit, hown.big, fun h => by cases h⟩, rfl⟩ ?_
      · simp only [List.length_append, List.length_drop]
        omega
      · rw [hput] at s3
        exact hw.turn hp s2 s3 s4 s5 s6 s7 s8
    · have holds : ∀ j u, xs[j]? = some u → w.cell? ((⟨b, k, none⟩ : Addr).add j) = some u :=
        cells_at hw (pull_mem hp) (fun j u hj => by
          have hlt := (List.getElem?_eq_some_iff.1 hj).1
          have hn : 0 < n := by
            rcases Nat.eq_zero_or_pos n with q | q
            · have := hown.len; rw [q, Nat.zero_mul] at this; omega
            · exact q
          have hk := hown.at_ hn
          rw [List.getElem?_append_right (by omega), show k + j - pre.length = j from by omega, List.getElem?_append_left hlt]
          exact hj)
      have hr := run_append_grow (P := X.P) w t o.type e i z g1 g2 g3 ⟨b, k, none⟩ n c xs (by rw [g4]; exact hown.len) holds ⟨b2, k2, none⟩ m mc news hl' hnews (by omega) (by omega) (growslice_fits (by omega) (by rw [g5]; exact hroom))
      rw [hexec _ _ hr]
      obtain ⟨tl', e1, e2⟩ := grown_own (w := w) (n := n) (m := m) (c := c) (e := e) (xs := xs) (news := news) (zs := zs) hown.len hl g7 h63 w.heap.size
      rw [g6, e1]
      exact kk _ _ _ ⟨some w.heap.size, 0, _, [], tl', rfl, OwnS.of e2, rfl⟩ (((hw.drop hp).drew).alloc (cl (xs ++ news ++ tl') e))
end
end Go.Proofs.Yteofigbgdbpjgaa

end
section
namespace Go.Proofs.Yteofigbgdbpjgaa
section
variable {X : Ctx} {E : Env} {H : Heap} {o : Oper} {ob : Option Nat} {b : Nat}
theorem R_idxO {t u : TypeId} {x y : Operand} {n c sz i : Nat} {kk : IntKind} (hob : ob = some b) (ho : o.op = .indexAddr t x y) (hu : X.P.underlying t = some (.slice u)) (hs : ∀ w, (sizeOf u).run X.P w = .ok sz w)
    (hx : ev E x = some (slV ob n c)) (hy : ev E y = some (.int kk (i : Int))) (hi : i < n) : Runs X o E H (.pointer (some ⟨b, 0 + i * sz, none⟩)) := by
  subst hob
  exact R_indexAddrN ho hu hs hx hy hi
theorem R_loadO {t : TypeId} {x : Operand} {k : Nat} {cs : List Value} {e : TypeId} {v : Value} (hob : ob = some b) (ho : o.op = .load t x) (ht : Sc X.P t) (hx : ev E x = some (.pointer (some ⟨b, k, none⟩)))
    (hm : (⟨ob, cl cs e⟩ : Ent) ∈ H) (hv : cs[k]? = some v) : Runs X o E H v := by
  subst hob
  exact R_load ho ht hx hm hv
theorem R_loadAO {t : TypeId} {x : Operand} {k n : Nat} {cs : List Value} {e : TypeId} {vs : List Value} (hob : ob = some b) (ho : o.op = .load t x) (ht : Ag X.P t n) (hx : ev E x = some (.pointer (some ⟨b, k, none⟩)))
    (hm : (⟨ob, cl cs e⟩ : Ent) ∈ H) (hn : vs.length = n) (hv : At cs k vs) : Runs X o E H (.agg vs.toArray) := by
  subst hob
  exact R_loadA ho ht hx hm hn hv
theorem D_storeO {t : TypeId} {x y : Operand} {k n : Nat} {v : Value} {cs vs : List Value} {e : TypeId} {F : Heap} (hob : ob = some b) (ho : o.op = .store t x y) (hs : ∀ w, (sizeOf t).run X.P w = .ok n w)
    (hx : ev E x = some (.pointer (some ⟨b, k, none⟩))) (hy : ev E y = some v) (hv : v.cells.toList = vs) (hn : vs.length = n) (h1 : vs.all Value.oneCell' = true)
    (hp : Pull ⟨ob, cl cs e⟩ H F) (hk : k + n ≤ cs.length) : Does X o E H (fun _ H' => H' = ⟨ob, cl (putAt cs k vs) e⟩ :: F) := by
  subst hob
  exact D_store ho hs hx hy hv hn h1 hp hk
end
end Go.Proofs.Yteofigbgdbpjgaa

end
section
namespace Go.Proofs.Yteofigbgdbpjgaa
section
variable {X : Ctx} {E : Env} {H : Heap} {o : Oper}
theorem D_copy {t t2 e0 e e2 : TypeId} {sz bytes b k dl dc b2 k2 sl sc n : Nat} {zs cs cs2 news : List Value} {x y : Operand} {F : Heap}
    (ho : o.op = .call { callee := .builtin .copy, args := #[x, y], argTypes := #[t, t2] }) (hs : SI X.P t e0 sz bytes zs) (hx : ev E x = some (.slice (some ⟨b, k, none⟩) dl dc)) (hp : Pull ⟨some b, cl cs e⟩ H F)
    (hy : ev E y = some (.slice (some ⟨b2, k2, none⟩) sl sc)) (hm : (⟨some b2, cl cs2 e2⟩ : Ent) ∈ H) (hat : At cs2 k2 news) (hn : n = Nat.min sl dl) (hl : news.length = n * sz) (h1 : news.all Value.oneCell' = true) (hfit : k + news.length ≤ cs.length) :
    Does X o E H (fun v H' => v = .int .i64 (n : Int) ∧ H' = ⟨some b, cl (cs.take k ++ news ++ cs.drop (k + news.length)) e⟩ :: F) := by
  intro a w ha hw next Q kk
  obtain ⟨g1, i, z, g2, g3, g4, g5, g6, g7, g8⟩ := hs
  refine ⟨about_true, ?_⟩
  rw [semAt_of (by rw [ho]; intro c e; cases e)]
  have hnews := cells_at hw hm hat
  have hb : w.heap[b]? = some (cl cs e) := by
    have := hw.hok.ok _ (pull_mem hp)
    simpa [Ent.ok] using this
  have hf := run_firstCells_some (P := X.P) (w := w) i.size n ⟨b2, k2, none⟩ sl sc news (by rw [g4]; exact hl) hnews
  obtain ⟨w', q1, q2, q3, q4, q5, q6, q7, q8⟩ := run_storeCells_at (P := X.P) (b := b) (e := e) k news 0 cs w hb (by omega) (List.all_eq_true.1 h1)
  have hr : (Builtin.copy_ #[t, t2] o.type #[.slice (some ⟨b, k, none⟩) dl dc, .slice (some ⟨b2, k2, none⟩) sl sc]).run X.P w = .ok (.int .i64 (n : Int)) w' := by
    have hn2 : sl.min dl = n := hn.symm
    simp [Builtin.copy_, run_underlying g1, Builtin.lenOf, sizeOf, typeInfo, g2, goInt]
    rw [hn2, hf]
    simp [q1]
  have hexec : (execOp a.eval o).run X.P w = .ok (.value (.int .i64 (n : Int))) w' := by
    simp [execOp, ho, resolve, ha.eval hx, ha.eval hy, invoke, builtin, hr]
  rw [hexec]
  refine kk _ _ _ ⟨rfl, ?_⟩ (hw.turn hp q2 q3 q4 q5 q6 q7 q8)
  rw [Nat.add_zero, putAt_eq cs k news hfit]
end
end Go.Proofs.Yteofigbgdbpjgaa

end
