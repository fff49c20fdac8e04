/-
  Chapter 45 (rpc), part RpN: contracts of functions that the laws call, each for the heap it names.
-/
import Derived.Test.YtdelhikejgoffaaGreatY01
import Derived.Test.YtdelhikejgoffaaGreatRows
section
set_option linter.unusedVariables false
set_option maxRecDepth 20000
set_option maxHeartbeats 2000000
namespace Go.Proofs.YtdelhikejgoffaaGreat
theorem put_c0 (a v : Value) (Z : List Value) : putAt (a :: Z) (0 + 0) [v] = v :: Z := by cases Z <;> rfl
theorem foldV_lt : ∀ (l : Bs) (a : Nat), l.foldl (fun n x => (n * 256 + x.toNat) % 18446744073709551616) a ≤ (a + 1) * 256 ^ l.length - 1
  | [], a => by simp
  | x :: r, a => by
    have ih := foldV_lt r ((a * 256 + x.toNat) % 18446744073709551616)
    have h1 : (a * 256 + x.toNat) % 18446744073709551616 ≤ a * 256 + x.toNat := Nat.mod_le _ _
    have h2 := u8_lt x
    rw [List.foldl_cons, List.length_cons, Nat.pow_succ]
    have h3 : ((a * 256 + x.toNat) % 18446744073709551616 + 1) * 256 ^ r.length ≤ ((a + 1) * 256) * 256 ^ r.length := Nat.mul_le_mul_right _ (by omega)
    have h4 : (a + 1) * 256 * 256 ^ r.length = (a + 1) * (256 ^ r.length * 256) := by rw [Nat.mul_assoc, Nat.mul_comm 256]
    omega
theorem val4_lt (l : Bs) : valB (l.take 4) < 4294967296 := by
  have h := foldV_lt (l.take 4) 0
  have h2 : (l.take 4).length ≤ 4 := by simp; omega
  have h3 : 256 ^ (l.take 4).length ≤ 256 ^ 4 := Nat.pow_le_pow_right (by decide) h2
  have h4 : (256 : Nat) ^ 4 = 4294967296 := by decide
  unfold valB
  omega
theorem take_min (out : Bs) (n : Nat) : ∃ m : Nat, (min (n : Int) (out.length : Int) = (m : Int) ∧ m ≤ out.length) ∧ out.take n = out.take m ∧ out.drop n = out.drop m := by
  by_cases h : n ≤ out.length
  · exact ⟨n, ⟨by omega, h⟩, rfl, rfl⟩
  · exact ⟨out.length, ⟨by omega, Nat.le_refl _⟩, by rw [List.take_of_length_le (by omega), List.take_length], by rw [List.drop_eq_nil_of_le (by omega), List.drop_length]⟩
theorem must_ok (e : Int) : Spec Tryz.prog 68 [.bool true, .int .i64 e] [] (fun r H' => r = .tuple #[] ∧ H' = []) := by
  refine Spec.of (E := [(0, .bool true), (1, .int .i64 e)]) Tryz.func68 rfl (by kernel_rfl) Tryz.ntmps68 rfl rfl (fun w => ?_)
  refine WC_seq ?_
  refine WC_region ?_
  refine WL_val rfl rfl rfl (R_move rfl rfl) ?_
  refine WL_val rfl rfl rfl (R_not rfl rfl) ?_
  refine WL_nil ?_
  refine WQ_code ?_
  refine WC_F rfl ?_
  refine WC_skip ?_
  refine WQ_ret rfl rfl .nil rfl (by
      exact ⟨rfl, rfl⟩) (pqD)
theorem number_ok {l : Bs} {oa : Option Addr} {ent : Ent} {c : Nat} (hr : RdB oa ent l) (h4 : 4 ≤ l.length) (hl : l.length ≤ 1000000) (hc : l.length ≤ c) : Spec Tryz.prog 69 [.slice oa l.length c] [ent] (fun r H' => r = .int .i64 (valB (l.take 4) : Int) ∧ H' = [ent]) := by
  have hv := val4_lt l
  have hl4 : (l.take 4).length = 4 := by simp; omega
  refine Spec.of (E := [(0, .slice oa l.length c)]) Tryz.func69 rfl (by kernel_rfl) Tryz.ntmps69 rfl rfl (fun w => ?_)
  refine WC_seq ?_
  refine WC_region ?_
  refine WL_val rfl rfl rfl (R_assign rfl rfl) ?_
  refine WL_nil ?_
  refine WQ_code ?_
  refine WC_seq ?_
  refine WC_region ?_
  refine WL_val rfl rfl rfl (R_move rfl rfl) ?_
  refine WL_val rfl rfl rfl (R_sliceTo (m := 4) rfl Tryz.underlying26 Tryz.sizeOf5 rfl rfl (by omega)) ?_
  refine WL_set (s := 4) (v := .slice oa (l.take 4).length c) rfl (by rw [hl4]) ?_
  refine WL_do rfl rfl rfl (D_call (value_ok (hr.take 4) (by omega)) rfl rfl rfl rfl (pqD)) ?_
  rintro _ _ ⟨_, ⟨rfl, rfl⟩, rfl⟩
  refine WL_val rfl rfl rfl (R_conv (r := (valB (l.take 4) : Int)) rfl Tryz.underlying40 Tryz.underlying3 rfl (by rw [wrap64_in (by omega) (by omega)])) ?_
  refine WL_val rfl rfl rfl (R_assign rfl rfl) ?_
  refine WL_nil ?_
  refine WQ_code ?_
  refine WC_ret ?_
  refine WQ_ret rfl rfl (.cons (.tmp rfl) .nil) rfl (by
      exact ⟨rfl, rfl⟩) (pqD)
theorem send_ok (p ty : Nat) (Z : List Value) {out : Bs} {ob : Option Nat} {k c : Nat} {pre tl : List Value} (hO : OwnS ob k out.length c 1 pre (bvs out) tl) (kk : UInt8) (bp : Nat) (L : List Pt) (PH : Heap) (hL : 1 ≤ L.length) (hL2 : L.length ≤ 10) (hR : ∀ q ∈ L, ∃ ent ∈ PH, RdB q.oa ent q.l) (hT : ∀ q ∈ L, q.l.length ≤ 100000) (hlen : (joinL L).length ≤ 1024) (hout : out.length ≤ 1000000) :
    Spec Tryz.prog 42 [.pointer (some ⟨p, 0, none⟩), .int .u8 (kk.toNat : Int), slV (some bp) L.length L.length] ([⟨some p, cl (sVal ob k out.length c :: Z) ty⟩, ⟨ob, cl (pre ++ (bvs out ++ tl)) 5⟩] ++ ([⟨some bp, cl (L.flatMap encT) 26⟩] ++ PH))
      (fun r H' => ∃ ob' k' c' pre' tl', r = .tuple #[] ∧ H' = [⟨some p, cl (sVal ob' k' (out ++ encF kk (joinL L)).length c' :: Z) ty⟩, ⟨ob', cl (pre' ++ (bvs (out ++ encF kk (joinL L)) ++ tl')) 5⟩] ++ PH ∧ OwnS ob' k' (out ++ encF kk (joinL L)).length c' 1 pre' (bvs (out ++ encF kk (joinL L))) tl') := by
  have hel := encF_len kk (joinL L)
  refine Spec.of (E := [(0, .pointer (some ⟨p, 0, none⟩)), (1, .int .u8 (kk.toNat : Int)), (2, slV (some bp) L.length L.length)]) Tryz.func42 rfl (by kernel_rfl) Tryz.ntmps42 rfl rfl (fun w => ?_)
  refine WC_seq ?_
  refine WC_region ?_
  refine WL_val rfl rfl rfl (R_move rfl rfl) ?_
  refine WL_val rfl rfl rfl (R_move rfl rfl) ?_
  refine WL_do rfl rfl rfl (D_call (join_ok bp L PH hL hL2 hR hT) rfl rfl rfl rfl (pqD)) ?_
  rintro _ _ ⟨_, ⟨oa1, c1, e1, rfl, hr1, rfl⟩, rfl⟩
  refine WL_val rfl rfl rfl (R_build rfl zv112 pl112 rfl rfl) ?_
  refine WL_do rfl rfl rfl (D_call (encode_ok kk hr1 hlen) rfl rfl rfl rfl (pqD)) ?_
  rintro _ _ ⟨_, ⟨oa2, c2, e2, rfl, rfl, hr2⟩, rfl⟩
  refine WL_val rfl rfl rfl (R_move rfl rfl) ?_
  refine WL_val rfl rfl rfl (R_extract rfl rfl rfl) ?_
  refine WL_val rfl rfl rfl (R_extract rfl rfl rfl) ?_
  refine WL_val rfl rfl rfl (R_assign rfl rfl) ?_
  refine WL_val rfl rfl rfl (R_assign rfl rfl) ?_
  refine WL_nil ?_
  refine WQ_code ?_
  refine WC_region ?_
  refine WL_val rfl rfl rfl (R_move rfl rfl) ?_
  refine WL_val rfl rfl rfl (R_move rfl rfl) ?_
  refine WL_val rfl rfl rfl (R_nilCheck rfl rfl) ?_
  refine WL_val rfl rfl rfl (R_fieldAddr rfl fa31_0 rfl) ?_
  refine WL_val rfl rfl rfl (R_load rfl sc26 rfl (mmD) rfl) ?_
  refine WL_val rfl rfl rfl (R_move rfl rfl) ?_
  refine WL_do rfl rfl rfl (D_appendB rfl si26 rfl hO plD rfl hr2 mmD (by omega) (by omega)) ?_
  rintro _ _ ⟨ob3, k3, c3, pre3, tl3, rfl, own3, rfl, _⟩
  rw [← bvs_app, show out.length + (encF kk (joinL L)).length = (out ++ encF kk (joinL L)).length from by simp] at own3 ⊢
  refine WL_val rfl rfl rfl (R_nilCheck rfl rfl) ?_
  refine WL_val rfl rfl rfl (R_fieldAddr rfl fa31_0 rfl) ?_
  refine WL_do0 rfl rfl (D_store (vs := [_]) rfl Tryz.sizeOf26 rfl rfl rfl rfl rfl (plD) (by exact Nat.le_of_ble_eq_true rfl)) ?_
  rintro _ _ rfl
  rw [put_c0]
  refine WL_nil ?_
  refine WQ_ret rfl rfl .nil rfl (by
      exact ⟨ob3, k3, c3, pre3, tl3, rfl, rfl, own3⟩) (pqD)
theorem take_some (p ty : Nat) (Z : List Value) {out : Bs} {b : Nat} {k c : Nat} {pre tl : List Value} (hO : OwnS (some b) k out.length c 1 pre (bvs out) tl) (n : Nat) (hn : n ≤ 65536) (hout : out.length ≤ 1000000) : Spec Tryz.prog 60 [.pointer (some ⟨p, 0, none⟩), .int .i64 (n : Int)] [⟨some p, cl (sVal (some b) k out.length c :: Z) ty⟩, ⟨some b, cl (pre ++ (bvs out ++ tl)) 5⟩]
    (fun r H' => ∃ o c2 tl2 k' c' pre', r = .tuple #[slV o (out.take n).length c2, .int .i64 0] ∧ H' = [⟨some p, cl (sVal (some b) k' (out.drop n).length c' :: Z) ty⟩, ⟨some b, cl (pre' ++ (bvs (out.drop n) ++ tl)) 5⟩, ⟨o, cl (bvs (out.take n) ++ tl2) 5⟩] ∧ OwnS (some b) k' (out.drop n).length c' 1 pre' (bvs (out.drop n)) tl ∧ Own o (out.take n).length c2 1 (bvs (out.take n)) tl2) := by
  obtain ⟨m, ⟨hm, hml⟩, hmT, hmD⟩ := take_min out n
  refine Spec.of (E := [(0, .pointer (some ⟨p, 0, none⟩)), (1, .int .i64 (n : Int))]) Tryz.func60 rfl (by kernel_rfl) Tryz.ntmps60 rfl rfl (fun w => ?_)
  refine WC_seq ?_
  refine WC_region ?_
  refine WL_val rfl rfl rfl (R_assign rfl rfl) ?_
  refine WL_val rfl rfl rfl (R_assign rfl rfl) ?_
  refine WL_nil ?_
  refine WQ_code ?_
  refine WC_seq ?_
  refine WC_seq ?_
  refine WC_region ?_
  refine WL_val rfl rfl rfl (R_move rfl rfl) ?_
  refine WL_val rfl rfl rfl (R_lss rfl rfl rfl) ?_
  refine WL_val rfl rfl rfl (R_move rfl rfl) ?_
  refine WL_set (s := 10) (v := .bool false) rfl (by exact congrArg Value.bool (decide_eq_false (by omega))) ?_
  refine WL_val rfl rfl rfl (R_move rfl rfl) ?_
  refine WL_val rfl rfl rfl (R_gtr rfl rfl rfl) ?_
  refine WL_val rfl rfl rfl (R_pickF rfl rfl rfl) ?_
  refine WL_nil ?_
  refine WQ_code ?_
  refine WC_dF rfl (by omega) ?_
  refine WC_skip ?_
  refine WQ_code ?_
  refine WC_seq ?_
  refine WC_region ?_
  refine WL_val rfl rfl rfl (R_move rfl rfl) ?_
  refine WL_val rfl rfl rfl (R_move rfl rfl) ?_
  refine WL_val rfl rfl rfl (R_nilCheck rfl rfl) ?_
  refine WL_val rfl rfl rfl (R_fieldAddr rfl fa31_0 rfl) ?_
  refine WL_val rfl rfl rfl (R_load rfl sc26 rfl (mmD) rfl) ?_
  refine WL_val rfl rfl rfl (R_len rfl Tryz.underlying26 rfl) ?_
  refine WL_val rfl rfl rfl (R_minR (r := (m : Int)) rfl rfl rfl hm) ?_
  refine WL_val rfl rfl rfl (R_assign rfl rfl) ?_
  refine WL_nil ?_
  refine WQ_code ?_
  refine WC_seq ?_
  refine WC_region ?_
  refine WL_val rfl rfl rfl (R_move rfl rfl) ?_
  refine WL_val rfl rfl rfl (R_nilCheck rfl rfl) ?_
  refine WL_val rfl rfl rfl (R_fieldAddr rfl fa31_0 rfl) ?_
  refine WL_val rfl rfl rfl (R_load rfl sc26 rfl (mmD) rfl) ?_
  refine WL_val rfl rfl rfl (R_move rfl rfl) ?_
  refine WL_val rfl rfl rfl (R_sliceTo (m := m) rfl Tryz.underlying26 Tryz.sizeOf5 rfl rfl (by have := hO.le; omega)) ?_
  refine WL_set (s := 26) (v := .slice (some ⟨b, k, none⟩) (out.take m).length c) rfl (by rw [show (out.take m).length = m from by simp; omega]; rfl) ?_
  refine WL_do rfl rfl rfl (D_call (clone_some ((RdB.ownS hO).take m) (by simp; omega)) rfl rfl rfl rfl (pqD)) ?_
  rintro _ _ ⟨_, ⟨o9, c9, tl9, rfl, own9, rfl⟩, rfl⟩
  refine WL_val rfl rfl rfl (R_assign rfl rfl) ?_
  refine WL_nil ?_
  refine WQ_code ?_
  refine WC_seq ?_
  refine WC_region ?_
  refine WL_val rfl rfl rfl (R_move rfl rfl) ?_
  refine WL_val rfl rfl rfl (R_move rfl rfl) ?_
  refine WL_val rfl rfl rfl (R_nilCheck rfl rfl) ?_
  refine WL_val rfl rfl rfl (R_fieldAddr rfl fa31_0 rfl) ?_
  refine WL_val rfl rfl rfl (R_load rfl sc26 rfl (mmD) rfl) ?_
  refine WL_val rfl rfl rfl (R_move rfl rfl) ?_
  refine WL_val rfl rfl rfl (R_cutB (m := m) hO rfl Tryz.underlying26 Tryz.sizeOf5 rfl rfl (by omega)) ?_
  have hcut := hO.cutB (m := m) (by omega)
  rw [cutB_ent pre tl out m]
  refine WL_val rfl rfl rfl (R_nilCheck rfl rfl) ?_
  refine WL_val rfl rfl rfl (R_fieldAddr rfl fa31_0 rfl) ?_
  refine WL_do0 rfl rfl (D_store (vs := [_]) rfl Tryz.sizeOf26 rfl rfl rfl rfl rfl (plD) (by exact Nat.le_of_ble_eq_true rfl)) ?_
  rintro _ _ rfl
  rw [put_c0]
  refine WL_nil ?_
  refine WQ_code ?_
  refine WC_seq ?_
  refine WC_region ?_
  refine WL_val rfl rfl rfl (R_move rfl rfl) ?_
  refine WL_val rfl rfl rfl (R_assign rfl rfl) ?_
  refine WL_val rfl rfl rfl (R_assign rfl rfl) ?_
  refine WL_nil ?_
  refine WQ_code ?_
  refine WC_ret ?_
  refine WQ_ret rfl rfl (.cons (.tmp rfl) (.cons (.tmp rfl) .nil)) rfl (by
      rw [hmT, hmD]
      exact ⟨o9, c9, tl9, _, _, _, rfl, rfl, hcut, own9⟩) (pqD)
theorem take_none (p ty : Nat) (Z : List Value) (n : Nat) (hn : n ≤ 65536) : Spec Tryz.prog 60 [.pointer (some ⟨p, 0, none⟩), .int .i64 (n : Int)] [⟨some p, cl (.slice none 0 0 :: Z) ty⟩] (fun r H' => r = .tuple #[.slice none 0 0, .int .i64 0] ∧ H' = [⟨some p, cl (.slice none 0 0 :: Z) ty⟩]) := by
  refine Spec.of (E := [(0, .pointer (some ⟨p, 0, none⟩)), (1, .int .i64 (n : Int))]) Tryz.func60 rfl (by kernel_rfl) Tryz.ntmps60 rfl rfl (fun w => ?_)
  refine WC_seq ?_
  refine WC_region ?_
  refine WL_val rfl rfl rfl (R_assign rfl rfl) ?_
  refine WL_val rfl rfl rfl (R_assign rfl rfl) ?_
  refine WL_nil ?_
  refine WQ_code ?_
  refine WC_seq ?_
  refine WC_seq ?_
  refine WC_region ?_
  refine WL_val rfl rfl rfl (R_move rfl rfl) ?_
  refine WL_val rfl rfl rfl (R_lss rfl rfl rfl) ?_
  refine WL_val rfl rfl rfl (R_move rfl rfl) ?_
  refine WL_set (s := 10) (v := .bool false) rfl (by exact congrArg Value.bool (decide_eq_false (by omega))) ?_
  refine WL_val rfl rfl rfl (R_move rfl rfl) ?_
  refine WL_val rfl rfl rfl (R_gtr rfl rfl rfl) ?_
  refine WL_val rfl rfl rfl (R_pickF rfl rfl rfl) ?_
  refine WL_nil ?_
  refine WQ_code ?_
  refine WC_dF rfl (by omega) ?_
  refine WC_skip ?_
  refine WQ_code ?_
  refine WC_seq ?_
  refine WC_region ?_
  refine WL_val rfl rfl rfl (R_move rfl rfl) ?_
  refine WL_val rfl rfl rfl (R_move rfl rfl) ?_
  refine WL_val rfl rfl rfl (R_nilCheck rfl rfl) ?_
  refine WL_val rfl rfl rfl (R_fieldAddr rfl fa31_0 rfl) ?_
  refine WL_val rfl rfl rfl (R_load rfl sc26 rfl (mmD) rfl) ?_
  refine WL_val rfl rfl rfl (R_len rfl Tryz.underlying26 rfl) ?_
  refine WL_val rfl rfl rfl (R_minR (r := (0 : Int)) rfl rfl rfl (by omega)) ?_
  refine WL_val rfl rfl rfl (R_assign rfl rfl) ?_
  refine WL_nil ?_
  refine WQ_code ?_
  refine WC_seq ?_
  refine WC_region ?_
  refine WL_val rfl rfl rfl (R_move rfl rfl) ?_
  refine WL_val rfl rfl rfl (R_nilCheck rfl rfl) ?_
  refine WL_val rfl rfl rfl (R_fieldAddr rfl fa31_0 rfl) ?_
  refine WL_val rfl rfl rfl (R_load rfl sc26 rfl (mmD) rfl) ?_
  refine WL_val rfl rfl rfl (R_move rfl rfl) ?_
  refine WL_val rfl rfl rfl (R_sliceTo (m := 0) rfl Tryz.underlying26 Tryz.sizeOf5 rfl rfl (Nat.le_refl _)) ?_
  refine WL_do rfl rfl rfl (D_call (clone_nil) rfl rfl rfl rfl (pqD)) ?_
  rintro _ _ ⟨_, ⟨rfl, rfl⟩, rfl⟩
  refine WL_val rfl rfl rfl (R_assign rfl rfl) ?_
  refine WL_nil ?_
  refine WQ_code ?_
  refine WC_seq ?_
  refine WC_region ?_
  refine WL_val rfl rfl rfl (R_move rfl rfl) ?_
  refine WL_val rfl rfl rfl (R_move rfl rfl) ?_
  refine WL_val rfl rfl rfl (R_nilCheck rfl rfl) ?_
  refine WL_val rfl rfl rfl (R_fieldAddr rfl fa31_0 rfl) ?_
  refine WL_val rfl rfl rfl (R_load rfl sc26 rfl (mmD) rfl) ?_
  refine WL_val rfl rfl rfl (R_move rfl rfl) ?_
  refine WL_val rfl rfl rfl (R_sliceFromNil rfl Tryz.underlying26 Tryz.sizeOf5 rfl rfl) ?_
  refine WL_val rfl rfl rfl (R_nilCheck rfl rfl) ?_
  refine WL_val rfl rfl rfl (R_fieldAddr rfl fa31_0 rfl) ?_
  refine WL_do0 rfl rfl (D_store (vs := [_]) rfl Tryz.sizeOf26 rfl rfl rfl rfl rfl (plD) (by exact Nat.le_of_ble_eq_true rfl)) ?_
  rintro _ _ rfl
  rw [put_c0]
  refine WL_nil ?_
  refine WQ_code ?_
  refine WC_seq ?_
  refine WC_region ?_
  refine WL_val rfl rfl rfl (R_move rfl rfl) ?_
  refine WL_val rfl rfl rfl (R_assign rfl rfl) ?_
  refine WL_val rfl rfl rfl (R_assign rfl rfl) ?_
  refine WL_nil ?_
  refine WQ_code ?_
  refine WC_ret ?_
  refine WQ_ret rfl rfl (.cons (.tmp rfl) (.cons (.tmp rfl) .nil)) rfl (by
      exact ⟨rfl, rfl⟩) (pqD)
end Go.Proofs.YtdelhikejgoffaaGreat
end
section
set_option linter.unusedVariables false
set_option maxRecDepth 20000
namespace Go.Proofs.YtdelhikejgoffaaGreat
structure Sd where
  out : Bs
  bs : Bs
  rb : Int
  last : Nat
  br : Int
structure SdM where
  ob : Option Nat
  ok : Nat
  oc : Nat
  op : List Value
  ot : List Value
  ib : Option Nat
  ik : Nat
  ic : Nat
  ip : List Value
  it : List Value
structure Ca where
  id : Nat
  dl : Nat
deriving DecidableEq
abbrev encC (c : Ca) : List Value := [.int .i64 (c.id : Int), .int .u64 (c.dl : Int)]
abbrev caV (c : Ca) : Value := .agg #[.int .i64 (c.id : Int), .int .u64 (c.dl : Int)]
theorem encC2 (c : Ca) : (encC c).length = 2 := rfl
theorem encC_one (L : List Ca) : (L.flatMap encC).all Value.oneCell' = true := fm_all (fun _ => rfl) L
/-- A result (of a client) or a request (of a server), and where its body lies. -/
structure Rs where
  id : Int
  code : Int
  body : Bs
  o : Option Nat
  c : Nat
  tl : List Value
abbrev rsOk (r : Rs) : Prop := Own r.o r.body.length r.c 1 (bvs r.body) r.tl
abbrev rsE (r : Rs) : Ent := ⟨r.o, cl (bvs r.body ++ r.tl) 5⟩
def rsH (L : List Rs) : Heap := L.map rsE
abbrev encRs (r : Rs) : List Value := [.int .i64 r.id, .int .i64 r.code, slV r.o r.body.length r.c]
theorem encRs3 (r : Rs) : (encRs r).length = 3 := rfl
structure Cl where
  s : Sd
  now : Nat
  calls : List Ca
  res : List Rs
  closed : Bool
structure ClM where
  p : Nat
  sd : SdM
  cb : Option Nat
  cc : Nat
  ctl : List Value
  eb : Option Nat
  ek : Nat
  ec : Nat
  epre : List Value
  etl : List Value
abbrev oE (m : SdM) (s : Sd) : Ent := ⟨m.ob, cl (m.op ++ (bvs s.out ++ m.ot)) 5⟩
abbrev iE (m : SdM) (s : Sd) : Ent := ⟨m.ib, cl (m.ip ++ (bvs s.bs ++ m.it)) 5⟩
abbrev clC (m : ClM) (x : Cl) : List Value := [sVal m.sd.ob m.sd.ok x.s.out.length m.sd.oc, sVal m.sd.ib m.sd.ik x.s.bs.length m.sd.ic, .int .i64 x.s.rb, .int .i64 (x.s.last : Int), .int .i64 x.s.br, .int .u64 (x.now : Int), slV m.cb x.calls.length m.cc, sVal m.eb m.ek x.res.length m.ec, .bool x.closed]
abbrev clE (m : ClM) (x : Cl) : Ent := ⟨some m.p, cl (clC m x) 51⟩
abbrev caE (m : ClM) (x : Cl) : Ent := ⟨m.cb, cl (x.calls.flatMap encC ++ m.ctl) 96⟩
abbrev reE (m : ClM) (x : Cl) : Ent := ⟨m.eb, cl (m.epre ++ (x.res.flatMap encRs ++ m.etl)) 89⟩
abbrev clH (m : ClM) (x : Cl) : Heap := [clE m x, oE m.sd x.s, iE m.sd x.s, caE m x, reE m x] ++ rsH x.res
structure SdIs (m : SdM) (s : Sd) : Prop where
  oO : OwnS m.ob m.ok s.out.length m.oc 1 m.op (bvs s.out) m.ot
  iO : OwnS m.ib m.ik s.bs.length m.ic 1 m.ip (bvs s.bs) m.it
structure ClIs (m : ClM) (x : Cl) : Prop where
  sd : SdIs m.sd x.s
  cO : Own m.cb x.calls.length m.cc 2 (x.calls.flatMap encC) m.ctl
  eO : OwnS m.eb m.ek x.res.length m.ec 3 m.epre (x.res.flatMap encRs) m.etl
  rO : ∀ r ∈ x.res, rsOk r
/-- What is kept between the calls (the numbers are small). -/
structure ClB (x : Cl) : Prop where
  out : x.s.out.length ≤ 200000
  bs : x.s.bs.length ≤ 65536
  last : x.s.last ≤ 1000000
  calls : x.calls.length ≤ 32
  res : x.calls.length + x.res.length ≤ 100000
  now : x.now ≤ 18446744073709551615
  dl : ∀ c ∈ x.calls, c.dl ≤ 18446744073709551615
  ids : ∀ c ∈ x.calls, c.id ≤ 1000000
  rb : x.s.br = 0 → x.s.rb = 0
def Cl.put (x : Cl) (k : UInt8) (b : Bs) : Cl := { x with s := { x.s with out := x.s.out ++ encF k b } }
end Go.Proofs.YtdelhikejgoffaaGreat
end
section
set_option linter.unusedVariables false
set_option maxRecDepth 20000
set_option maxHeartbeats 4000000
namespace Go.Proofs.YtdelhikejgoffaaGreat
abbrev ptrC (p : Nat) : Value := .pointer (some ⟨p, 0, none⟩)
end Go.Proofs.YtdelhikejgoffaaGreat
end
section
set_option linter.unusedVariables false
set_option maxRecDepth 20000
set_option maxHeartbeats 2000000
namespace Go.Proofs.YtdelhikejgoffaaGreat
theorem put_b4 (a b c d e v : Value) (Z : List Value) : putAt (a :: b :: c :: d :: e :: Z) (0 + 4) [v] = a :: b :: c :: d :: v :: Z := by cases Z <;> rfl
theorem put_b0 (a v : Value) : putAt [a] 0 [v] = [v] := rfl
abbrev errV (e : Int) : Value := .iface 27 (.int .i64 e)
def rcvN {Q : Type} (step : Q → UInt8 → Bs → Q × Int) : Nat → Q → Bs → Q × Bs × Int × Int
  | 0, q, bs => (q, bs, 0, 0)
  | n + 1, q, bs => match nxt bs with
    | .wait => (q, bs, 0, 0)
    | .bad e => (q, bs, e, e)
    | .got k body m => if body.length < 4 then (q, bs.drop m, 0, 6) else if (step q k body).2 = 0 then rcvN step n (step q k body).1 (bs.drop m) else ((step q k body).1, bs.drop m, 0, (step q k body).2)
section
variable {Q : Type} {step : Q → UInt8 → Bs → Q × Int} {n m : Nat} {q : Q} {bs body : Bs} {e : Int} {k : UInt8}
theorem rcv_wait (h : nxt bs = .wait) : rcvN step (n + 1) q bs = (q, bs, 0, 0) := by simp [rcvN, h]
theorem rcv_bad (h : nxt bs = .bad e) : rcvN step (n + 1) q bs = (q, bs, e, e) := by simp [rcvN, h]
theorem rcv_short (h : nxt bs = .got k body m) (h4 : body.length < 4) : rcvN step (n + 1) q bs = (q, bs.drop m, 0, 6) := by simp [rcvN, h, h4]
theorem rcv_no (h : nxt bs = .got k body m) (h4 : 4 ≤ body.length) (h5 : (step q k body).2 ≠ 0) : rcvN step (n + 1) q bs = ((step q k body).1, bs.drop m, 0, (step q k body).2) := by
  simp only [rcvN, h]
  rw [if_neg (by omega), if_neg h5]
theorem rcv_ok (h : nxt bs = .got k body m) (h4 : 4 ≤ body.length) (h5 : (step q k body).2 = 0) : rcvN step (n + 1) q bs = rcvN step n (step q k body).1 (bs.drop m) := by
  simp only [rcvN, h]
  rw [if_neg (by omega), if_pos h5]
end
theorem nxt_bad_ne {l : Bs} {e : Int} (h : nxt l = .bad e) : e ≠ 0 := by
  unfold nxt at h
  (repeat' split at h) <;> cases h <;> decide
structure RcW (S : Type) where
  s : S
  n : Nat
  bs : Bs
  k : Nat
  c : Nat
  pre : List Value
theorem must_bad (e : Int) : PSpec Tryz.prog 68 [.bool false, .int .i64 e] [] (errV e) (fun H' => H' = []) := by
  refine PSpec.of (E := [(0, .bool false), (1, .int .i64 e)]) Tryz.func68 rfl (by kernel_rfl) Tryz.ntmps68 rfl rfl (fun w => ?_)
  refine WC_seq ?_
  refine WC_region ?_
  refine WL_val rfl rfl rfl (R_move rfl rfl) ?_
  refine WL_val rfl rfl rfl (R_not rfl rfl) ?_
  refine WL_set (s := 5) (v := .bool true) rfl (by rfl) ?_
  refine WL_nil ?_
  refine WQ_code ?_
  refine WC_T rfl ?_
  refine WC_region ?_
  refine WL_val rfl rfl rfl (R_move rfl rfl) ?_
  refine WL_val rfl rfl rfl (R_makeIface rfl (by kernel_rfl) rfl) ?_
  refine WL_panic rfl rfl rfl ?_
  refine WQ_pan rfl (by
      exact rfl) (pqD)
theorem rec_idle (p3 p6 : Value) : DSpec Tryz.prog 90 [p3, p6] .returning [] (fun H' => H' = []) .returning := by
  refine DSpec.recov (x1 := 5) (x2 := 2) (rv := .nilIface) (E := [(0, p3), (1, p6)]) Tryz.func90 rfl (by kernel_rfl) Tryz.ntmps90 rfl rfl rfl rfl rfl rfl rfl rfl rfl rfl recov_idle (fun w => ?_)
  refine WC_seq ?_
  refine WC_region ?_
  refine WL_val rfl rfl rfl (R_move rfl rfl) ?_
  refine WL_val rfl rfl rfl (R_ifaceNeNil rfl Tryz.underlying20 ⟨_, rfl⟩ rfl) ?_
  refine WL_nil ?_
  refine WQ_code ?_
  refine WC_F rfl ?_
  refine WC_skip ?_
  refine WQ_ret rfl rfl .nil rfl (by
      exact rfl) (pqD)
theorem rec_pan (p ty b3 b6 : Nat) (a v l : Value) (rb br e0 e : Int) (Z : List Value) : DSpec Tryz.prog 90 [.pointer (some ⟨b3, 0, none⟩), .pointer (some ⟨b6, 0, none⟩)] (.panicking (pent (errV e))) [⟨some b3, cl [.pointer (some ⟨p, 0, none⟩)] 132⟩, ⟨some b6, cl [.int .i64 e0] 27⟩, ⟨some p, cl (a :: v :: .int .i64 rb :: l :: .int .i64 br :: Z) ty⟩]
    (fun H' => H' = [⟨some b3, cl [.pointer (some ⟨p, 0, none⟩)] 132⟩, ⟨some b6, cl [.int .i64 e] 27⟩, ⟨some p, cl (a :: v :: .int .i64 rb :: l :: .int .i64 e :: Z) ty⟩]) (.panicking (pent (errV e) true)) := by
  refine DSpec.recov (x1 := 5) (x2 := 2) (rv := errV e) (E := [(0, .pointer (some ⟨b3, 0, none⟩)), (1, .pointer (some ⟨b6, 0, none⟩))]) Tryz.func90 rfl (by kernel_rfl) Tryz.ntmps90 rfl rfl rfl rfl rfl rfl rfl rfl rfl rfl (recov_pan (errV e)) (fun w => ?_)
  refine WC_seq ?_
  refine WC_region ?_
  refine WL_val rfl rfl rfl (R_move rfl rfl) ?_
  refine WL_val rfl rfl rfl (R_ifaceNe rfl Tryz.underlying20 ⟨_, rfl⟩ rfl) ?_
  refine WL_nil ?_
  refine WQ_code ?_
  refine WC_T rfl ?_
  refine WC_seq ?_
  refine WC_region ?_
  refine WL_val rfl rfl rfl (R_move rfl rfl) ?_
  refine WL_val rfl rfl rfl (R_assertOk rfl Tryz.underlying27 (by intro m e; cases e) rfl) ?_
  refine WL_val rfl rfl rfl (R_move rfl rfl) ?_
  refine WL_val rfl rfl rfl (R_extract rfl rfl rfl) ?_
  refine WL_val rfl rfl rfl (R_extract rfl rfl rfl) ?_
  refine WL_val rfl rfl rfl (R_assign rfl rfl) ?_
  refine WL_val rfl rfl rfl (R_assign rfl rfl) ?_
  refine WL_nil ?_
  refine WQ_code ?_
  refine WC_seq ?_
  refine WC_seq ?_
  refine WC_region ?_
  refine WL_val rfl rfl rfl (R_move rfl rfl) ?_
  refine WL_val rfl rfl rfl (R_not rfl rfl) ?_
  refine WL_nil ?_
  refine WQ_code ?_
  refine WC_F rfl ?_
  refine WC_skip ?_
  refine WQ_code ?_
  refine WC_region ?_
  refine WL_val rfl rfl rfl (R_load rfl sc132 rfl (mmD) rfl) ?_
  refine WL_val rfl rfl rfl (R_move rfl rfl) ?_
  refine WL_val rfl rfl rfl (R_move rfl rfl) ?_
  refine WL_val rfl rfl rfl (R_nilCheck rfl rfl) ?_
  refine WL_val rfl rfl rfl (R_fieldAddr rfl fa31_3 rfl) ?_
  refine WL_do0 rfl rfl (D_store (vs := [_]) rfl Tryz.sizeOf27 rfl rfl rfl rfl rfl (plD) (by exact Nat.le_of_ble_eq_true rfl)) ?_
  rintro _ _ rfl
  rw [put_b4]
  refine WL_do0 rfl rfl (D_store (vs := [_]) rfl Tryz.sizeOf27 rfl rfl rfl rfl rfl (plD) (by exact Nat.le_of_ble_eq_true rfl)) ?_
  rintro _ _ rfl
  rw [put_b0]
  refine WL_nil ?_
  refine WQ_ret rfl rfl .nil rfl (by
      exact rfl) (pqD)
end Go.Proofs.YtdelhikejgoffaaGreat
end
section
set_option linter.unusedVariables false
set_option maxRecDepth 20000
set_option maxHeartbeats 4000000
namespace Go.Proofs.YtdelhikejgoffaaGreat
theorem receive_ok {S Q : Type} (p ty : Nat) (a0 l3 : S → Value) (z : S → List Value) (HS : S → Heap) (I : Nat → S → Prop) (pi : S → Q) (step : Q → UInt8 → Bs → Q × Int) (hf : Nat) (hfi hca : List Value)
    (hmono : ∀ (s : S) (n m : Nat), I (n + m) s → I n s)
    (hok : ∀ (s : S) (k : UInt8) (body : Bs) (n : Nat), I (n + (body.length + 6)) s → 4 ≤ body.length → body.length ≤ 1024 → (step (pi s) k body).2 = 0 → ∀ (v : Value) (o : Option Nat) (c2 : Nat) (tl : List Value), Own o body.length c2 1 (bvs body) tl →
      Spec Tryz.prog hf (hfi ++ [.agg #[.int .u8 (k.toNat : Int), slV o body.length c2]] ++ hca) ([⟨some p, cl (a0 s :: v :: .int .i64 0 :: l3 s :: .int .i64 0 :: z s) ty⟩] ++ HS s ++ [⟨o, cl (bvs body ++ tl) 5⟩]) (fun r H' => ∃ s', I n s' ∧ pi s' = (step (pi s) k body).1 ∧ r = .tuple #[] ∧ H' = [⟨some p, cl (a0 s' :: v :: .int .i64 0 :: l3 s' :: .int .i64 0 :: z s') ty⟩] ++ HS s'))
    (hbad : ∀ (s : S) (k : UInt8) (body : Bs) (n : Nat), I (n + (body.length + 6)) s → 4 ≤ body.length → body.length ≤ 1024 → (step (pi s) k body).2 ≠ 0 → ∀ (v : Value) (o : Option Nat) (c2 : Nat) (tl : List Value), Own o body.length c2 1 (bvs body) tl →
      PSpec Tryz.prog hf (hfi ++ [.agg #[.int .u8 (k.toNat : Int), slV o body.length c2]] ++ hca) ([⟨some p, cl (a0 s :: v :: .int .i64 0 :: l3 s :: .int .i64 0 :: z s) ty⟩] ++ HS s ++ [⟨o, cl (bvs body ++ tl) 5⟩]) (errV (step (pi s) k body).2) (fun H' => ∃ s', I n s' ∧ pi s' = (step (pi s) k body).1 ∧ H' = [⟨some p, cl (a0 s' :: v :: .int .i64 0 :: l3 s' :: .int .i64 0 :: z s') ty⟩] ++ HS s')) {l : Bs} {oa : Option Addr} {ent : Ent} {c0 : Nat} (hr : RdB oa ent l) (s : S) {bs : Bs} (hs : I (bs.length + l.length) s) {ob : Option Nat} {k c : Nat} {pre tl : List Value} (hO : OwnS ob k bs.length c 1 pre (bvs bs) tl) (hl : l.length ≤ 65536) (hfit : bs.length + l.length ≤ 65536) :
    Spec Tryz.prog 58 [.pointer (some ⟨p, 0, none⟩), .slice oa l.length c0, .func (.func hf) hfi.toArray hca.toArray] ([⟨some p, cl (a0 s :: (sVal ob k bs.length c) :: .int .i64 0 :: l3 s :: .int .i64 0 :: z s) ty⟩] ++ [⟨ob, cl (pre ++ (bvs bs ++ tl)) 5⟩] ++ HS s ++ [ent])
      (fun r H' => ∃ s' ob' k' c' pre' tl', I (rcvN step (bs.length + l.length + 1) (pi s) (bs ++ l)).2.1.length s' ∧ pi s' = (rcvN step (bs.length + l.length + 1) (pi s) (bs ++ l)).1 ∧ r = .int .i64 (rcvN step (bs.length + l.length + 1) (pi s) (bs ++ l)).2.2.2 ∧
        OwnS ob' k' (rcvN step (bs.length + l.length + 1) (pi s) (bs ++ l)).2.1.length c' 1 pre' (bvs (rcvN step (bs.length + l.length + 1) (pi s) (bs ++ l)).2.1) tl' ∧
        H' = [⟨some p, cl (a0 s' :: (sVal ob' k' (rcvN step (bs.length + l.length + 1) (pi s) (bs ++ l)).2.1.length c') :: .int .i64 (rcvN step (bs.length + l.length + 1) (pi s) (bs ++ l)).2.2.1 :: l3 s' :: .int .i64 (rcvN step (bs.length + l.length + 1) (pi s) (bs ++ l)).2.2.2 :: z s') ty⟩] ++ [⟨ob', cl (pre' ++ (bvs (rcvN step (bs.length + l.length + 1) (pi s) (bs ++ l)).2.1 ++ tl')) 5⟩] ++ HS s' ++ [ent]) := by
  obtain ⟨R, hRd⟩ : ∃ R, R = rcvN step (bs.length + l.length + 1) (pi s) (bs ++ l) := ⟨_, rfl⟩
  rw [← hRd]
  refine Spec.ofD (E := [(0, .pointer (some ⟨p, 0, none⟩)), (1, .slice oa l.length c0), (2, .func (.func hf) hfi.toArray hca.toArray)]) Tryz.func58 rfl (by kernel_rfl) Tryz.ntmps58 rfl rfl (fun w => ?_)
  refine WC_seq ?_
  refine WC_region ?_
  refine WL_do rfl rfl rfl (D_box (cs := [_]) rfl rfl rfl) ?_
  rintro _ _ ⟨b1, rfl, rfl⟩
  refine WL_do rfl rfl rfl (D_alloc rfl zv27) ?_
  rintro _ _ ⟨b2, rfl, rfl⟩
  refine WL_nil ?_
  refine WQ_code ?_
  refine WC_seq ?_
  refine WC_seq ?_
  refine WC_region ?_
  refine WL_val rfl rfl rfl (R_load rfl sc132 rfl (mmD) rfl) ?_
  refine WL_val rfl rfl rfl (R_nilCheck rfl rfl) ?_
  refine WL_val rfl rfl rfl (R_fieldAddr rfl fa31_3 rfl) ?_
  refine WL_val rfl rfl rfl (R_load rfl sc27 rfl (mmD) rfl) ?_
  refine WL_val rfl rfl rfl (R_neq rfl rfl rfl) ?_
  refine WL_set (s := 15) (v := .bool false) rfl (by rfl) ?_
  refine WL_nil ?_
  refine WQ_code ?_
  refine WC_F rfl ?_
  refine WC_skip ?_
  refine WQ_code ?_
  refine WC_seq ?_
  refine WC_seq ?_
  refine WC_region ?_
  refine WL_val rfl rfl rfl (R_load rfl sc132 rfl (mmD) rfl) ?_
  refine WL_val rfl rfl rfl (R_nilCheck rfl rfl) ?_
  refine WL_val rfl rfl rfl (R_fieldAddr rfl fa31_1 rfl) ?_
  refine WL_val rfl rfl rfl (R_move rfl rfl) ?_
  refine WL_do rfl rfl rfl (D_call (feed_ok p ty (a0 s) (l3 s :: .int .i64 0 :: z s) hO hr hfit) rfl rfl rfl rfl (pqD)) ?_
  rintro _ _ ⟨_, ⟨ob1, k1, c1, pre1, tl1, rfl, rfl, hO1⟩, rfl⟩
  refine WL_val rfl rfl rfl (R_assign rfl rfl) ?_
  refine WL_nil ?_
  refine WQ_code ?_
  refine WC_seq ?_
  refine WC_region ?_
  refine WL_val rfl rfl rfl (R_move rfl rfl) ?_
  refine WL_val rfl rfl rfl (R_neq rfl rfl rfl) ?_
  refine WL_nil ?_
  refine WQ_code ?_
  refine WC_dF rfl (by decide) ?_
  refine WC_skip ?_
  refine WQ_code ?_
  refine WC_seq ?_
  refine WC_region ?_
  refine WL_val rfl rfl rfl (R_makeFunc rfl rfl rfl) ?_
  refine WL_defer rfl rfl rfl rfl rfl ?_
  refine WL_nil ?_
  refine WQ_code ?_
  refine WC_block ?_
  refine WC_loopF (G := RcW S) [8, 9, 10, 25, 26, 27, 28, 29, 30, 31, 32, 33, 34, 35, 36, 37, 38, 39, 40, 41, 42, 43, 44, 45, 46] (fun y => I y.bs.length y.s ∧ rcvN step (y.n + 1) (pi y.s) y.bs = R ∧ y.bs.length ≤ y.n ∧ y.bs.length ≤ 65536 ∧ OwnS ob1 y.k y.bs.length y.c 1 y.pre (bvs y.bs) tl1) (fun y => []) (fun y => [⟨some p, cl (a0 y.s :: (sVal ob1 y.k y.bs.length y.c) :: .int .i64 0 :: l3 y.s :: .int .i64 0 :: z y.s) ty⟩, ⟨ob1, cl (y.pre ++ (bvs y.bs ++ tl1)) 5⟩] ++ HS y.s) (fun y => y.bs.length) (⟨s, bs.length + l.length, bs ++ l, k1, c1, pre1⟩) (⟨by simpa using hs, hRd.symm, by simp, by simp; omega, hO1⟩) leZ (pqD) ?_
  rintro y ⟨hI, hR, hn, hbl, hO⟩
  refine WC_block ?_
  refine WC_seq ?_
  refine WC_region ?_
  refine WL_val rfl rfl rfl (R_load rfl sc132 rfl (mmD) rfl) ?_
  refine WL_val rfl rfl rfl (R_nilCheck rfl rfl) ?_
  refine WL_val rfl rfl rfl (R_fieldAddr rfl fa31_1 rfl) ?_
  rcases hN : nxt y.bs with _ | e | ⟨kk, body, mm⟩
  · have hR9 : R = (pi y.s, y.bs, 0, 0) := by rw [← hR, rcv_wait hN]
    subst hR9
    refine WL_do rfl rfl rfl (D_call (rnext_wait p ty _ _ hO hbl hN) rfl rfl rfl rfl (pqD)) ?_
    rintro _ _ ⟨_, ⟨k2, c2, rfl, rfl, hO2⟩, rfl⟩
    refine WL_val rfl rfl rfl (R_move rfl rfl) ?_
    refine WL_val rfl rfl rfl (R_extract rfl rfl rfl) ?_
    refine WL_val rfl rfl rfl (R_extract rfl rfl rfl) ?_
    refine WL_val rfl rfl rfl (R_extract rfl rfl rfl) ?_
    refine WL_do rfl rfl rfl (D_alloc rfl zv112) ?_
    rintro _ _ ⟨b3, rfl, rfl⟩
    refine WL_do0 rfl rfl (D_store (vs := [_, _]) rfl Tryz.sizeOf112 rfl rfl rfl rfl rfl (plD) (by exact Nat.le_of_ble_eq_true rfl)) ?_
    rintro _ _ rfl
    refine WL_val rfl rfl rfl (R_assign rfl rfl) ?_
    refine WL_val rfl rfl rfl (R_assign rfl rfl) ?_
    refine WL_nil ?_
    refine WQ_code ?_
    refine WC_seq ?_
    refine WC_region ?_
    refine WL_val rfl rfl rfl (R_move rfl rfl) ?_
    refine WL_val rfl rfl rfl (R_eql rfl rfl rfl) ?_
    refine WL_set (s := 34) (v := .bool true) rfl (by rfl) ?_
    refine WL_val rfl rfl rfl (R_move rfl rfl) ?_
    refine WL_do rfl rfl rfl (D_call (must_ok _) rfl rfl rfl rfl (pqD)) ?_
    rintro _ _ ⟨_, ⟨rfl, rfl⟩, rfl⟩
    refine WL_nil ?_
    refine WQ_code ?_
    refine WC_seq ?_
    refine WC_seq ?_
    refine WC_region ?_
    refine WL_val rfl rfl rfl (R_move rfl rfl) ?_
    refine WL_val rfl rfl rfl (R_not rfl rfl) ?_
    refine WL_nil ?_
    refine WQ_code ?_
    refine WC_T rfl ?_
    refine WC_seq ?_
    refine WC_region ?_
    refine WL_do0 rfl rfl (D_store (vs := [_]) rfl Tryz.sizeOf27 rfl rfl rfl rfl rfl (plD) (by exact Nat.le_of_ble_eq_true rfl)) ?_
    rintro _ _ rfl
    rw [put_b0]
    refine WL_nil ?_
    refine WQ_code ?_
    refine WC_ret ?_
    refine WQ_retD (rec_idle _ _) rfl (pqD) rfl (.cons (.cell1 rfl sc27 (mmD) rfl) .nil) rfl (by
        exact ⟨y.s, _, _, _, _, _, hI, rfl, rfl, hO2, rfl⟩) (pqD)
  · have hR9 : R = (pi y.s, y.bs, e, e) := by rw [← hR, rcv_bad hN]
    subst hR9
    refine WL_do rfl rfl rfl (D_call (rnext_bad p ty _ _ hO hbl (nxt_bad_ne hN) hN) rfl rfl rfl rfl (pqD)) ?_
    rintro _ _ ⟨_, ⟨rfl, rfl⟩, rfl⟩
    refine WL_val rfl rfl rfl (R_move rfl rfl) ?_
    refine WL_val rfl rfl rfl (R_extract rfl rfl rfl) ?_
    refine WL_val rfl rfl rfl (R_extract rfl rfl rfl) ?_
    refine WL_val rfl rfl rfl (R_extract rfl rfl rfl) ?_
    refine WL_do rfl rfl rfl (D_alloc rfl zv112) ?_
    rintro _ _ ⟨b4, rfl, rfl⟩
    refine WL_do0 rfl rfl (D_store (vs := [_, _]) rfl Tryz.sizeOf112 rfl rfl rfl rfl rfl (plD) (by exact Nat.le_of_ble_eq_true rfl)) ?_
    rintro _ _ rfl
    refine WL_val rfl rfl rfl (R_assign rfl rfl) ?_
    refine WL_val rfl rfl rfl (R_assign rfl rfl) ?_
    refine WL_nil ?_
    refine WQ_code ?_
    refine WC_seq ?_
    refine WC_region ?_
    refine WL_val rfl rfl rfl (R_move rfl rfl) ?_
    refine WL_val rfl rfl rfl (R_eql rfl rfl rfl) ?_
    refine WL_set (s := 34) (v := .bool false) rfl (by exact congrArg Value.bool (decide_eq_false (nxt_bad_ne hN))) ?_
    refine WL_val rfl rfl rfl (R_move rfl rfl) ?_
    refine WL_pcall rfl (must_bad _) rfl rfl rfl rfl (pqD) ?_
    rintro _ rfl
    refine WQ_panD (rec_pan p ty b1 b2 _ _ _ _ _ _ _ _) rfl (pqD) rfl (.cons (.cell1 rfl sc27 (mmD) rfl) .nil) rfl (by
        exact ⟨y.s, _, _, _, _, _, hI, rfl, rfl, hO, rfl⟩) (pqD)
  · obtain ⟨hm1, hm2, hm3⟩ := nxt_got hN
    have hI9 : I ((y.bs.drop mm).length + (body.length + 6)) y.s := by rw [show (y.bs.drop mm).length + (body.length + 6) = y.bs.length from by simp; omega]; exact hI
    refine WL_do rfl rfl rfl (D_call (rnext_got p ty _ _ hO hbl hN) rfl rfl rfl rfl (pqD)) ?_
    rintro _ _ ⟨_, ⟨o9, c9, tl9, k2, c2, pre2, rfl, rfl, hO2, own9⟩, rfl⟩
    refine WL_val rfl rfl rfl (R_move rfl rfl) ?_
    refine WL_val rfl rfl rfl (R_extract rfl rfl rfl) ?_
    refine WL_val rfl rfl rfl (R_extract rfl rfl rfl) ?_
    refine WL_val rfl rfl rfl (R_extract rfl rfl rfl) ?_
    refine WL_do rfl rfl rfl (D_alloc rfl zv112) ?_
    rintro _ _ ⟨b5, rfl, rfl⟩
    refine WL_do0 rfl rfl (D_store (vs := [_, _]) rfl Tryz.sizeOf112 rfl rfl rfl rfl rfl (plD) (by exact Nat.le_of_ble_eq_true rfl)) ?_
    rintro _ _ rfl
    refine WL_val rfl rfl rfl (R_assign rfl rfl) ?_
    refine WL_val rfl rfl rfl (R_assign rfl rfl) ?_
    refine WL_nil ?_
    refine WQ_code ?_
    refine WC_seq ?_
    refine WC_region ?_
    refine WL_val rfl rfl rfl (R_move rfl rfl) ?_
    refine WL_val rfl rfl rfl (R_eql rfl rfl rfl) ?_
    refine WL_set (s := 34) (v := .bool true) rfl (by rfl) ?_
    refine WL_val rfl rfl rfl (R_move rfl rfl) ?_
    refine WL_do rfl rfl rfl (D_call (must_ok _) rfl rfl rfl rfl (pqD)) ?_
    rintro _ _ ⟨_, ⟨rfl, rfl⟩, rfl⟩
    refine WL_nil ?_
    refine WQ_code ?_
    refine WC_seq ?_
    refine WC_seq ?_
    refine WC_region ?_
    refine WL_val rfl rfl rfl (R_move rfl rfl) ?_
    refine WL_val rfl rfl rfl (R_not rfl rfl) ?_
    refine WL_nil ?_
    refine WQ_code ?_
    refine WC_F rfl ?_
    refine WC_skip ?_
    refine WQ_code ?_
    refine WC_seq ?_
    refine WC_region ?_
    rcases Nat.lt_or_ge body.length 4 with h4 | h4
    · have hR9 : R = (pi y.s, y.bs.drop mm, 0, 6) := by rw [← hR, rcv_short hN h4]
      subst hR9
      refine WL_val rfl rfl rfl (R_fieldAddr rfl fa112_1 rfl) ?_
      refine WL_val rfl rfl rfl (R_load rfl sc26 rfl (mmD) rfl) ?_
      refine WL_val rfl rfl rfl (R_len rfl Tryz.underlying26 rfl) ?_
      refine WL_val rfl rfl rfl (R_geq rfl rfl rfl) ?_
      refine WL_set (s := 42) (v := .bool false) rfl (by exact congrArg Value.bool (decide_eq_false (by omega))) ?_
      refine WL_pcall rfl (must_bad _) rfl rfl rfl rfl (pqD) ?_
      rintro _ rfl
      refine WQ_panD (rec_pan p ty b1 b2 _ _ _ _ _ _ _ _) rfl (pqD) rfl (.cons (.cell1 rfl sc27 (mmD) rfl) .nil) rfl (by
          exact ⟨y.s, _, _, _, _, _, hmono _ _ _ hI9, rfl, rfl, hO2, rfl⟩) (pqD)
    · refine WL_val rfl rfl rfl (R_fieldAddr rfl fa112_1 rfl) ?_
      refine WL_val rfl rfl rfl (R_load rfl sc26 rfl (mmD) rfl) ?_
      refine WL_val rfl rfl rfl (R_len rfl Tryz.underlying26 rfl) ?_
      refine WL_val rfl rfl rfl (R_geq rfl rfl rfl) ?_
      refine WL_set (s := 42) (v := .bool true) rfl (by exact congrArg Value.bool (decide_eq_true (by omega))) ?_
      refine WL_do rfl rfl rfl (D_call (must_ok _) rfl rfl rfl rfl (pqD)) ?_
      rintro _ _ ⟨_, ⟨rfl, rfl⟩, rfl⟩
      refine WL_nil ?_
      refine WQ_code ?_
      refine WC_region ?_
      refine WL_val rfl rfl rfl (R_move rfl rfl) ?_
      refine WL_val rfl rfl rfl (R_loadA (vs := [_, _]) rfl ag112 rfl (mmD) rfl (atZ)) ?_
      by_cases h5 : (step (pi y.s) kk body).2 = 0
      · refine WL_do rfl rfl rfl (D_call (hok y.s kk body _ hI9 h4 hm3 h5 _ o9 c9 tl9 own9) rfl rfl rfl rfl (pqD)) ?_
        rintro _ _ ⟨_, ⟨s', hI', hpi, rfl, rfl⟩, rfl⟩
        obtain ⟨n9, hn9⟩ : ∃ n9, y.n = n9 + 1 := ⟨y.n - 1, by omega⟩
        have hR' : rcvN step (n9 + 1) (pi s') (y.bs.drop mm) = R := by rw [← hR, hn9, rcv_ok hN h4 h5, hpi]
        have hO' := hO2
        refine WL_nil ?_
        refine WQ_nextF (gg := y) (⟨s', n9, y.bs.drop mm, k2, c2, pre2⟩) (⟨hI', hR', by simp; omega, by simp; omega, hO'⟩) (by simp; omega) leZ (psZ) rfl (pqD)
      · refine WL_pcall rfl (hbad y.s kk body _ hI9 h4 hm3 h5 _ o9 c9 tl9 own9) rfl rfl rfl rfl (pqD) ?_
        rintro _ ⟨s', hI', hpi, rfl⟩
        refine WQ_panD (rec_pan p ty b1 b2 _ _ _ _ _ _ _ _) rfl (pqD) rfl (.cons (.cell1 rfl sc27 (mmD) rfl) .nil) rfl (by
            have hR9 : R = ((step (pi y.s) kk body).1, y.bs.drop mm, 0, (step (pi y.s) kk body).2) := by rw [← hR, rcv_no hN h4 h5]
            subst hR9
            exact ⟨s', _, _, _, _, _, hI', hpi, rfl, hO2, rfl⟩) (pqD)
end Go.Proofs.YtdelhikejgoffaaGreat
end
section
set_option linter.unusedVariables false
set_option maxRecDepth 20000
set_option maxHeartbeats 1000000
namespace Go.Proofs.YtdelhikejgoffaaGreat
theorem cid1_ok (c : Ca) (bi : Nat) (id : Int) : Spec Tryz.prog 50 [caV c, ptrC bi] [⟨some bi, cl [.int .i64 id] 3⟩] (fun r H' => r = .bool (decide ((c.id : Int) = id)) ∧ H' = [⟨some bi, cl [.int .i64 id] 3⟩]) := by
  refine Spec.of (E := [(0, caV c), (1, ptrC bi)]) Tryz.func50 rfl (by kernel_rfl) Tryz.ntmps50 rfl rfl (fun w => ?_)
  refine WC_seq ?_
  refine WC_region ?_
  refine WL_do rfl rfl rfl (D_box (cs := [_, _]) rfl rfl rfl) ?_
  rintro _ _ ⟨b1, rfl, rfl⟩
  refine WL_val rfl rfl rfl (R_assign rfl rfl) ?_
  refine WL_nil ?_
  refine WQ_code ?_
  refine WC_seq ?_
  refine WC_region ?_
  refine WL_val rfl rfl rfl (R_fieldAddr rfl fa96_0 rfl) ?_
  refine WL_val rfl rfl rfl (R_load rfl sc3 rfl (mmD) rfl) ?_
  refine WL_val rfl rfl rfl (R_load rfl sc3 rfl (mmD) rfl) ?_
  refine WL_val rfl rfl rfl (R_eql rfl rfl rfl) ?_
  refine WL_val rfl rfl rfl (R_assign rfl rfl) ?_
  refine WL_nil ?_
  refine WQ_code ?_
  refine WC_ret ?_
  refine WQ_ret rfl rfl (.cons (.tmp rfl) .nil) rfl (by
      exact ⟨rfl, rfl⟩) (pqD)
theorem cid2_ok (c : Ca) (bi : Nat) (id : Int) : Spec Tryz.prog 51 [caV c, ptrC bi] [⟨some bi, cl [.int .i64 id] 3⟩] (fun r H' => r = .bool (decide ((c.id : Int) = id)) ∧ H' = [⟨some bi, cl [.int .i64 id] 3⟩]) := by
  refine Spec.of (E := [(0, caV c), (1, ptrC bi)]) Tryz.func51 rfl (by kernel_rfl) Tryz.ntmps51 rfl rfl (fun w => ?_)
  refine WC_seq ?_
  refine WC_region ?_
  refine WL_do rfl rfl rfl (D_box (cs := [_, _]) rfl rfl rfl) ?_
  rintro _ _ ⟨b1, rfl, rfl⟩
  refine WL_val rfl rfl rfl (R_assign rfl rfl) ?_
  refine WL_nil ?_
  refine WQ_code ?_
  refine WC_seq ?_
  refine WC_region ?_
  refine WL_val rfl rfl rfl (R_fieldAddr rfl fa96_0 rfl) ?_
  refine WL_val rfl rfl rfl (R_load rfl sc3 rfl (mmD) rfl) ?_
  refine WL_val rfl rfl rfl (R_load rfl sc3 rfl (mmD) rfl) ?_
  refine WL_val rfl rfl rfl (R_eql rfl rfl rfl) ?_
  refine WL_val rfl rfl rfl (R_assign rfl rfl) ?_
  refine WL_nil ?_
  refine WQ_code ?_
  refine WC_ret ?_
  refine WQ_ret rfl rfl (.cons (.tmp rfl) .nil) rfl (by
      exact ⟨rfl, rfl⟩) (pqD)
theorem cid3_ok (c : Ca) (bi : Nat) (id : Int) : Spec Tryz.prog 71 [caV c, ptrC bi] [⟨some bi, cl [.int .i64 id] 3⟩] (fun r H' => r = .bool (decide ((c.id : Int) = id)) ∧ H' = [⟨some bi, cl [.int .i64 id] 3⟩]) := by
  refine Spec.of (E := [(0, caV c), (1, ptrC bi)]) Tryz.func71 rfl (by kernel_rfl) Tryz.ntmps71 rfl rfl (fun w => ?_)
  refine WC_seq ?_
  refine WC_region ?_
  refine WL_do rfl rfl rfl (D_box (cs := [_, _]) rfl rfl rfl) ?_
  rintro _ _ ⟨b1, rfl, rfl⟩
  refine WL_val rfl rfl rfl (R_assign rfl rfl) ?_
  refine WL_nil ?_
  refine WQ_code ?_
  refine WC_seq ?_
  refine WC_region ?_
  refine WL_val rfl rfl rfl (R_fieldAddr rfl fa96_0 rfl) ?_
  refine WL_val rfl rfl rfl (R_load rfl sc3 rfl (mmD) rfl) ?_
  refine WL_val rfl rfl rfl (R_load rfl sc3 rfl (mmD) rfl) ?_
  refine WL_val rfl rfl rfl (R_eql rfl rfl rfl) ?_
  refine WL_val rfl rfl rfl (R_assign rfl rfl) ?_
  refine WL_nil ?_
  refine WQ_code ?_
  refine WC_ret ?_
  refine WQ_ret rfl rfl (.cons (.tmp rfl) .nil) rfl (by
      exact ⟨rfl, rfl⟩) (pqD)
theorem call1_ok (c : Ca) : Spec Tryz.prog 73 [caV c] [] (fun r H' => r = .bool true ∧ H' = []) := by
  refine Spec.of (E := [(0, caV c)]) Tryz.func73 rfl (by kernel_rfl) Tryz.ntmps73 rfl rfl (fun w => ?_)
  refine WC_seq ?_
  refine WC_region ?_
  refine WL_do rfl rfl rfl (D_box (cs := [_, _]) rfl rfl rfl) ?_
  rintro _ _ ⟨b1, rfl, rfl⟩
  refine WL_val rfl rfl rfl (R_assign rfl rfl) ?_
  refine WL_nil ?_
  refine WQ_code ?_
  refine WC_seq ?_
  refine WC_region ?_
  refine WL_val rfl rfl rfl (R_assign rfl rfl) ?_
  refine WL_nil ?_
  refine WQ_code ?_
  refine WC_ret ?_
  refine WQ_ret rfl rfl (.cons (.tmp rfl) .nil) rfl (by
      exact ⟨rfl, rfl⟩) (pqD)
theorem call2_ok (c : Ca) : Spec Tryz.prog 72 [caV c] [] (fun r H' => r = .bool true ∧ H' = []) := by
  refine Spec.of (E := [(0, caV c)]) Tryz.func72 rfl (by kernel_rfl) Tryz.ntmps72 rfl rfl (fun w => ?_)
  refine WC_seq ?_
  refine WC_region ?_
  refine WL_do rfl rfl rfl (D_box (cs := [_, _]) rfl rfl rfl) ?_
  rintro _ _ ⟨b1, rfl, rfl⟩
  refine WL_val rfl rfl rfl (R_assign rfl rfl) ?_
  refine WL_nil ?_
  refine WQ_code ?_
  refine WC_seq ?_
  refine WC_region ?_
  refine WL_val rfl rfl rfl (R_assign rfl rfl) ?_
  refine WL_nil ?_
  refine WQ_code ?_
  refine WC_ret ?_
  refine WQ_ret rfl rfl (.cons (.tmp rfl) .nil) rfl (by
      exact ⟨rfl, rfl⟩) (pqD)
def passB (d now : Nat) : Bool := decide (now ≠ 18446744073709551615) && decide (d ≤ now)
theorem passed_ok (d now : Nat) : Spec Tryz.prog 48 [.int .u64 (d : Int), .int .u64 (now : Int)] [] (fun r H' => r = .bool (passB d now) ∧ H' = []) := by
  refine Spec.of (E := [(0, .int .u64 (d : Int)), (1, .int .u64 (now : Int))]) Tryz.func48 rfl (by kernel_rfl) Tryz.ntmps48 rfl rfl (fun w => ?_)
  refine WC_seq ?_
  refine WC_region ?_
  refine WL_val rfl rfl rfl (R_assign rfl rfl) ?_
  refine WL_nil ?_
  refine WQ_code ?_
  refine WC_seq ?_
  refine WC_region ?_
  refine WL_val rfl rfl rfl (R_move rfl rfl) ?_
  refine WL_val rfl rfl rfl (R_neq rfl rfl rfl) ?_
  refine WL_val rfl rfl rfl (R_move rfl rfl) ?_
  refine WL_splitD (s := 7) rfl (fun c1 => ?_) (fun c1 => ?_)
  · have hc := c1
    refine WL_val rfl rfl rfl (R_move rfl rfl) ?_
    refine WL_val rfl rfl rfl (R_move rfl rfl) ?_
    refine WL_val rfl rfl rfl (R_leq rfl rfl rfl) ?_
    refine WL_val rfl rfl rfl (R_pickT rfl rfl rfl) ?_
    refine WL_val rfl rfl rfl (R_assign rfl rfl) ?_
    refine WL_nil ?_
    refine WQ_code ?_
    refine WC_ret ?_
    refine WQ_ret rfl rfl (.cons (.tmp rfl) .nil) rfl (by
        exact ⟨congrArg Value.bool (by unfold passB; simp; omega), rfl⟩) (pqD)
  · have hc := c1
    refine WL_skip rfl rfl rfl ?_
    refine WL_skip rfl rfl rfl ?_
    refine WL_skip rfl rfl rfl ?_
    refine WL_val rfl rfl rfl (R_pickF rfl rfl rfl) ?_
    refine WL_val rfl rfl rfl (R_assign rfl rfl) ?_
    refine WL_nil ?_
    refine WQ_code ?_
    refine WC_ret ?_
    refine WQ_ret rfl rfl (.cons (.tmp rfl) .nil) rfl (by
        exact ⟨congrArg Value.bool (by unfold passB; simp; omega), rfl⟩) (pqD)
theorem cpass_ok (c : Ca) (bi : Nat) (now : Nat) : Spec Tryz.prog 47 [caV c, ptrC bi] [⟨some bi, cl [.int .u64 (now : Int)] 41⟩] (fun r H' => r = .bool (passB c.dl now) ∧ H' = [⟨some bi, cl [.int .u64 (now : Int)] 41⟩]) := by
  refine Spec.of (E := [(0, caV c), (1, ptrC bi)]) Tryz.func47 rfl (by kernel_rfl) Tryz.ntmps47 rfl rfl (fun w => ?_)
  refine WC_seq ?_
  refine WC_region ?_
  refine WL_do rfl rfl rfl (D_box (cs := [_, _]) rfl rfl rfl) ?_
  rintro _ _ ⟨b1, rfl, rfl⟩
  refine WL_val rfl rfl rfl (R_assign rfl rfl) ?_
  refine WL_nil ?_
  refine WQ_code ?_
  refine WC_seq ?_
  refine WC_region ?_
  refine WL_val rfl rfl rfl (R_fieldAddr rfl fa96_1 rfl) ?_
  refine WL_val rfl rfl rfl (R_load rfl sc41 rfl (mmD) rfl) ?_
  refine WL_val rfl rfl rfl (R_load rfl sc41 rfl (mmD) rfl) ?_
  refine WL_do rfl rfl rfl (D_call (passed_ok c.dl now) rfl rfl rfl rfl (pqD)) ?_
  rintro _ _ ⟨_, ⟨rfl, rfl⟩, rfl⟩
  refine WL_val rfl rfl rfl (R_assign rfl rfl) ?_
  refine WL_nil ?_
  refine WQ_code ?_
  refine WC_ret ?_
  refine WQ_ret rfl rfl (.cons (.tmp rfl) .nil) rfl (by
      exact ⟨rfl, rfl⟩) (pqD)
end Go.Proofs.YtdelhikejgoffaaGreat
end
section
set_option linter.unusedVariables false
set_option maxRecDepth 20000
set_option maxHeartbeats 4000000
namespace Go.Proofs.YtdelhikejgoffaaGreat
structure Res where
  id : Int
  code : Int
  body : Bs
deriving DecidableEq
def Rs.v (r : Rs) : Res := ⟨r.id, r.code, r.body⟩
theorem flt_snoc {q : Ca → Bool} {l : List Ca} {k : Nat} {c : Ca} (h : l[k]? = some c) : (l.take (k + 1)).filter q = (l.take k).filter q ++ if q c then [c] else [] := by
  rw [take_next h, List.filter_append]; by_cases e : q c <;> simp [e]
theorem flt_le (q : Ca → Bool) (l : List Ca) (k : Nat) : ((l.take k).filter q).length ≤ l.length := Nat.le_trans (List.length_filter_le ..) (by simp; omega)
def nq (q : Ca → Bool) (c : Ca) : Bool := !q c
structure EnW where
  k : Nat
  o1 : Option Nat
  c1 : Nat
  t1 : List Value
  o2 : Option Nat
  c2 : Nat
  t2 : List Value
  l1 : List Ca
  l2 : List Ca
structure ExW where
  k : Nat
  ns : List Rs
  rs : List Rs
  eb : Option Nat
  ek : Nat
  ec : Nat
  epre : List Value
  etl : List Value
theorem rsH_perm {l : List Rs} {r : Rs} : (rsE r :: rsH l).Perm (rsH (l ++ [r])) := by unfold rsH; rw [List.map_append]; exact List.perm_append_comm (l₁ := [rsE r])
theorem rsH_app (a b : List Rs) : rsH (a ++ b) = rsH a ++ rsH b := List.map_append
theorem ex_step {W : List Ca} {ns : List Rs} {k : Nat} {c : Ca} {code : Int} {body : Bs} (hc : W[k]? = some c) (hv : ns.map Rs.v = (W.take k).map fun c => ⟨(c.id : Int), code, body⟩) (r : Rs) (hr : r.v = ⟨(c.id : Int), code, body⟩) :
    (ns ++ [r]).map Rs.v = (W.take (k + 1)).map fun c => ⟨(c.id : Int), code, body⟩ := by
  rw [take_next hc, List.map_append, List.map_append, hv]; simp [hr]
theorem ex_len {W : List Ca} {ns : List Rs} {k : Nat} {code : Int} {body : Bs} (hk : k ≤ W.length) (hv : ns.map Rs.v = (W.take k).map fun c => (⟨(c.id : Int), code, body⟩ : Res)) : ns.length = k := by
  have := congrArg List.length hv
  simpa [Nat.min_eq_left hk] using this
theorem rs_snoc {ns : List Rs} {r : Rs} (h : ∀ x ∈ ns, rsOk x) (hr : rsOk r) : ∀ x ∈ ns ++ [r], rsOk x := fun x hx => by
  rcases List.mem_append.1 hx with h1 | h1
  · exact h x h1
  · rw [List.mem_singleton.1 h1]; exact hr
theorem clone_any {l : Bs} {oa : Option Addr} {ent : Ent} {c : Nat} (hr : RdB oa ent l) (hl : l.length ≤ 1000000) (hn : oa = none → c = 0) : Spec Tryz.prog 62 [.slice oa l.length c] [ent] (fun r H' => ∃ o c2 tl, r = slV o l.length c2 ∧ Own o l.length c2 1 (bvs l) tl ∧ H' = [⟨o, cl (bvs l ++ tl) 5⟩, ent]) := by
  cases oa with
  | some a => exact clone_some hr hl
  | none =>
    have h0 : l = [] := by
      rcases Nat.eq_zero_or_pos l.length with h | h
      · exact List.eq_nil_of_length_eq_zero h
      · obtain ⟨b, k, cs, e, fr, h1, _⟩ := hr h; cases h1
    subst h0
    rw [hn rfl]
    refine ⟨clone_nil.enters, fun w hw => (clone_nil.calls w ⟨by simp [keys], fun x hx => by cases hx⟩).mono fun e w' ⟨v, H', e1, ⟨e2, e3⟩, e4⟩ => ?_⟩
    subst e3
    refine ⟨v, _, e1, ⟨none, 0, [], by rw [e2]; rfl, Own.empty 1, rfl⟩, ?_⟩
    have h9 := HW.frame (HW.start hw) (List.Perm.refl [ent] : [ent].Perm ([] ++ [ent])) e4
    exact h9.addNone 5
theorem rs_both {a b : List Rs} (h : ∀ x ∈ a, rsOk x) (h2 : ∀ x ∈ b, rsOk x) : ∀ x ∈ a ++ b, rsOk x := fun x hx => by
  rcases List.mem_append.1 hx with h1 | h1
  · exact h x h1
  · exact h2 x h1
theorem end_ok (p : Nat) (a0 a1 a2 a3 a4 a5 a8 : Value) {calls : List Ca} {res : List Rs} {cb : Option Nat} {ccp : Nat} {ctl : List Value} {eb : Option Nat} {ek ec : Nat} {epre etl : List Value} (hC : Own cb calls.length ccp 2 (calls.flatMap encC) ctl) (hE0 : OwnS eb ek res.length ec 3 epre (res.flatMap encRs) etl) (hbc : calls.length ≤ 32) (hbr : res.length ≤ 100000) (code : Int) {body : Bs} {oa : Option Addr} {ent : Ent} {c0 : Nat} (hr : RdB oa ent body) (hrn : oa = none → c0 = 0) (hbl : body.length ≤ 1000000) (q : Ca → Bool) (pf : Nat) (pca : List Value) (PH : Heap) (hq : ∀ c, Spec Tryz.prog pf ([caV c] ++ pca) PH (fun r H' => r = .bool (q c) ∧ H' = PH)) (hcode : ¬ code = 12) : Spec Tryz.prog 46 [ptrC p, .int .i64 code, .slice oa body.length c0, .func (.func pf) #[] pca.toArray] ([⟨some p, cl [a0, a1, a2, a3, a4, a5, slV cb calls.length ccp, sVal eb ek res.length ec, a8] 51⟩, ⟨cb, cl (calls.flatMap encC ++ ctl) 96⟩, ⟨eb, cl (epre ++ (res.flatMap encRs ++ etl)) 89⟩] ++ [ent] ++ PH) (fun r H' => ∃ cb' cc' ctl' eb' ek' ec' epre' etl' ns o c1 tl, ∃ W : List Ca, W = calls.filter q ∧ r = slV o W.length c1 ∧ Own o W.length c1 2 (W.flatMap encC) tl ∧ ns.map Rs.v = W.map (fun c => (⟨(c.id : Int), code, body⟩ : Res)) ∧ (∀ r ∈ ns, rsOk r) ∧ Own cb' (calls.filter (nq q)).length cc' 2 ((calls.filter (nq q)).flatMap encC) ctl' ∧ OwnS eb' ek' (res ++ ns).length ec' 3 epre' ((res ++ ns).flatMap encRs) etl' ∧ H' = [⟨some p, cl [a0, a1, a2, a3, a4, a5, slV cb' (calls.filter (nq q)).length cc', sVal eb' ek' (res ++ ns).length ec', a8] 51⟩, ⟨cb', cl ((calls.filter (nq q)).flatMap encC ++ ctl') 96⟩, ⟨eb', cl (epre' ++ ((res ++ ns).flatMap encRs ++ etl')) 89⟩] ++ rsH ns ++ [⟨o, cl (W.flatMap encC ++ tl) 96⟩] ++ [ent] ++ PH) := by
  refine Spec.of (E := [(0, ptrC p), (1, .int .i64 code), (2, .slice oa body.length c0), (3, .func (.func pf) #[] pca.toArray)]) Tryz.func46 rfl (by kernel_rfl) Tryz.ntmps46 rfl rfl (fun w => ?_)
  refine WC_seq ?_
  refine WC_region ?_
  refine WL_val rfl rfl rfl (R_assign rfl rfl) ?_
  refine WL_nil ?_
  refine WQ_code ?_
  refine WC_seq ?_
  refine WC_region ?_
  refine WL_val rfl rfl rfl (R_assign rfl rfl) ?_
  refine WL_val rfl rfl rfl (R_assign rfl rfl) ?_
  refine WL_nil ?_
  refine WQ_code ?_
  refine WC_seq ?_
  refine WC_seq ?_
  refine WC_region ?_
  refine WL_val rfl rfl rfl (R_move rfl rfl) ?_
  refine WL_val rfl rfl rfl (R_nilCheck rfl rfl) ?_
  refine WL_val rfl rfl rfl (R_fieldAddr rfl fa51_2 rfl) ?_
  refine WL_val rfl rfl rfl (R_load rfl sc48 rfl (mmD) rfl) ?_
  refine WL_val rfl rfl rfl (R_len rfl Tryz.underlying48 rfl) ?_
  refine WL_val rfl rfl rfl (R_move rfl rfl) ?_
  refine WL_nil ?_
  refine WQ_code ?_
  refine WC_block ?_
  refine WC_none 96 ?_
  refine WC_none 96 ?_
  refine WC_loopF (G := EnW) [9, 10, 12, 20, 21, 22, 23, 24, 25, 26, 27, 28, 29, 30, 31, 32, 33, 34, 35] (fun y => y.k ≤ calls.length ∧ y.l1 = (calls.take y.k).filter q ∧ y.l2 = (calls.take y.k).filter (nq q) ∧ Own y.o1 y.l1.length y.c1 2 (y.l1.flatMap encC) y.t1 ∧ Own y.o2 y.l2.length y.c2 2 (y.l2.flatMap encC) y.t2) (fun y => [(20, .int .i64 (y.k : Int)), (9, slV y.o1 y.l1.length y.c1), (10, slV y.o2 y.l2.length y.c2)]) (fun y => [⟨y.o1, cl (y.l1.flatMap encC ++ y.t1) 96⟩, ⟨y.o2, cl (y.l2.flatMap encC ++ y.t2) 96⟩]) (fun y => calls.length - y.k) (⟨0, none, 0, [], none, 0, [], [], []⟩) (⟨Nat.zero_le _, rfl, rfl, Own.empty 2, Own.empty 2⟩) leZ (pqD) ?_
  rintro y ⟨hk, hl1, hl2, ho1, ho2⟩
  refine WC_seq ?_
  refine WC_region ?_
  refine WL_val rfl rfl rfl (R_lss rfl rfl rfl) ?_
  refine WL_nil ?_
  refine WQ_code ?_
  refine WC_seq ?_
  refine WC_dec rfl (fun c1 => ?_) (fun c1 => ?_)
  · refine WC_skip ?_
    refine WQ_code ?_
    refine WC_seq ?_
    refine WC_block ?_
    refine WC_seq ?_
    refine WC_region ?_
    obtain ⟨cc, hc⟩ := getE (T := calls) (i := y.k) (by omega)
    obtain ⟨wb, hcb⟩ := hC.some_of (by omega)
    have hle1 := flt_le q calls y.k
    have hle2 := flt_le (nq q) calls y.k
    rw [← hl1] at hle1
    rw [← hl2] at hle2
    refine WL_val rfl rfl rfl (R_idxO hcb rfl Tryz.underlying48 Tryz.sizeOf96 rfl rfl (by omega)) ?_
    refine WL_val rfl rfl rfl (R_loadAO (vs := encC cc) hcb rfl ag96 rfl (mmD) rfl (fm_at0 encC2 hc (j := 0) (vs := encC cc) (fun j v h => by rw [Nat.zero_add]; exact h) (Nat.le_refl _))) ?_
    refine WL_do rfl rfl rfl (D_alloc rfl zv96) ?_
    rintro _ _ ⟨b1, rfl, rfl⟩
    refine WL_do0 rfl rfl (D_store (vs := [_, _]) rfl Tryz.sizeOf96 rfl rfl rfl rfl rfl (plD) (by exact Nat.le_of_ble_eq_true rfl)) ?_
    rintro _ _ rfl
    refine WL_nil ?_
    refine WQ_code ?_
    refine WC_seq ?_
    refine WC_region ?_
    refine WL_val rfl rfl rfl (R_move rfl rfl) ?_
    refine WL_val rfl rfl rfl (R_loadA (vs := [_, _]) rfl ag96 rfl (mmD) rfl (atZ)) ?_
    refine WL_do rfl rfl rfl (D_call (hq cc) rfl rfl rfl rfl (pqD)) ?_
    rintro _ _ ⟨_, ⟨rfl, rfl⟩, rfl⟩
    refine WL_nil ?_
    refine WQ_code ?_
    refine WC_if rfl (fun c2 => ?_) (fun c2 => ?_)
    · have hcq := c2
      refine WC_region ?_
      refine WL_val rfl rfl rfl (R_move rfl rfl) ?_
      refine WL_val rfl rfl rfl (R_loadA (vs := [_, _]) rfl ag96 rfl (mmD) rfl (atZ)) ?_
      refine WL_do rfl rfl rfl (D_buildSlice rfl si48 rfl rfl rfl) ?_
      rintro _ _ ⟨b2, rfl, rfl⟩
      refine WL_do rfl rfl rfl (D_append rfl si48 rfl ho1 plD rfl mmD (atZ : At _ 0 [_, _]) rfl rfl (by omega) (by omega)) ?_
      rintro _ _ ⟨ob9, c9, tl9, rfl, own9, rfl⟩
      rw [show y.l1.flatMap encC ++ [Value.int .i64 (cc.id : Int), .int .u64 (cc.dl : Int)] = (y.l1 ++ [cc]).flatMap encC from by simp, show y.l1.length + 1 = (y.l1 ++ [cc]).length from by simp] at own9
      rw [show y.l1.flatMap encC ++ [Value.int .i64 (cc.id : Int), .int .u64 (cc.dl : Int)] = (y.l1 ++ [cc]).flatMap encC from by simp]
      refine WL_set (s := 30) (v := slV ob9 (y.l1 ++ [cc]).length c9) rfl (by rw [List.length_append]; rfl) ?_
      refine WL_val rfl rfl rfl (R_assign rfl rfl) ?_
      refine WL_nil ?_
      refine WQ_code ?_
      refine WC_region ?_
      refine WL_val rfl rfl rfl (R_add rfl rfl rfl (by omega)) ?_
      refine WL_val rfl rfl rfl (R_move rfl rfl) ?_
      refine WL_nil ?_
      refine WQ_nextF (⟨y.k + 1, ob9, c9, tl9, y.o2, y.c2, y.t2, y.l1 ++ [cc], y.l2⟩) (⟨by dsimp only; omega, by dsimp only; rw [flt_snoc hc, ← hl1, hcq]; rfl, by dsimp only; rw [flt_snoc hc, ← hl2]; simp [nq, hcq], own9, ho2⟩) (by dsimp only; omega) leZ (psZ) rfl (pqD)
    · have hcq := c2
      refine WC_region ?_
      refine WL_val rfl rfl rfl (R_move rfl rfl) ?_
      refine WL_val rfl rfl rfl (R_loadA (vs := [_, _]) rfl ag96 rfl (mmD) rfl (atZ)) ?_
      refine WL_do rfl rfl rfl (D_buildSlice rfl si48 rfl rfl rfl) ?_
      rintro _ _ ⟨b3, rfl, rfl⟩
      refine WL_do rfl rfl rfl (D_append rfl si48 rfl ho2 plD rfl mmD (atZ : At _ 0 [_, _]) rfl rfl (by omega) (by omega)) ?_
      rintro _ _ ⟨ob9, c9, tl9, rfl, own9, rfl⟩
      rw [show y.l2.flatMap encC ++ [Value.int .i64 (cc.id : Int), .int .u64 (cc.dl : Int)] = (y.l2 ++ [cc]).flatMap encC from by simp, show y.l2.length + 1 = (y.l2 ++ [cc]).length from by simp] at own9
      rw [show y.l2.flatMap encC ++ [Value.int .i64 (cc.id : Int), .int .u64 (cc.dl : Int)] = (y.l2 ++ [cc]).flatMap encC from by simp]
      refine WL_set (s := 34) (v := slV ob9 (y.l2 ++ [cc]).length c9) rfl (by rw [List.length_append]; rfl) ?_
      refine WL_val rfl rfl rfl (R_assign rfl rfl) ?_
      refine WL_nil ?_
      refine WQ_code ?_
      refine WC_region ?_
      refine WL_val rfl rfl rfl (R_add rfl rfl rfl (by omega)) ?_
      refine WL_val rfl rfl rfl (R_move rfl rfl) ?_
      refine WL_nil ?_
      refine WQ_nextF (⟨y.k + 1, y.o1, y.c1, y.t1, ob9, c9, tl9, y.l1, y.l2 ++ [cc]⟩) (⟨by dsimp only; omega, by dsimp only; rw [flt_snoc hc, ← hl1, hcq]; simp, by dsimp only; rw [flt_snoc hc, ← hl2]; simp [nq, hcq], ho1, own9⟩) (by dsimp only; omega) leZ (psZ) rfl (pqD)
  · have hkl : y.k = calls.length := by omega
    have hl1e : y.l1 = calls.filter q := by rw [hl1, hkl, List.take_length]
    have hl2e : y.l2 = calls.filter (nq q) := by rw [hl2, hkl, List.take_length]
    have hWl : y.l1.length ≤ 32 := Nat.le_trans (by rw [hl1e]; exact List.length_filter_le ..) hbc
    obtain ⟨W, hW⟩ : ∃ W, W = y.l1 := ⟨_, rfl⟩
    rw [← hW] at ho1 hWl hl1e
    rw [← hW]
    have hWo := ho1
    refine WC_exit ?_
    refine WQ_code ?_
    refine WC_seq ?_
    refine WC_region ?_
    refine WL_val rfl rfl rfl (R_move rfl rfl) ?_
    refine WL_val rfl rfl rfl (R_move rfl rfl) ?_
    refine WL_val rfl rfl rfl (R_nilCheck rfl rfl) ?_
    refine WL_val rfl rfl rfl (R_fieldAddr rfl fa51_2 rfl) ?_
    refine WL_do0 rfl rfl (D_store (vs := [_]) rfl Tryz.sizeOf48 rfl rfl rfl rfl rfl (plD) (by exact Nat.le_of_ble_eq_true rfl)) ?_
    rintro _ _ rfl
    refine WL_nil ?_
    refine WQ_code ?_
    refine WC_seq ?_
    refine WC_seq ?_
    refine WC_region ?_
    refine WL_val rfl rfl rfl (R_move rfl rfl) ?_
    refine WL_val rfl rfl rfl (R_eql rfl rfl rfl) ?_
    refine WL_nil ?_
    refine WQ_code ?_
    refine WC_dF rfl (by exact hcode) ?_
    refine WC_skip ?_
    refine WQ_code ?_
    refine WC_seq ?_
    refine WC_seq ?_
    refine WC_region ?_
    refine WL_val rfl rfl rfl (R_move rfl rfl) ?_
    refine WL_val rfl rfl rfl (R_len rfl Tryz.underlying48 rfl) ?_
    refine WL_val rfl rfl rfl (R_move rfl rfl) ?_
    refine WL_nil ?_
    refine WQ_code ?_
    refine WC_block ?_
    refine WC_loopF (G := ExW) [14, 46, 47, 48, 49, 50, 51, 52, 53, 54, 55, 56, 57, 58, 59, 60, 61, 62, 63, 64, 65] (fun u => u.k ≤ W.length ∧ u.ns.map Rs.v = (W.take u.k).map (fun c => (⟨(c.id : Int), code, body⟩ : Res)) ∧ (∀ r ∈ u.ns, rsOk r) ∧ OwnS u.eb u.ek u.rs.length u.ec 3 u.epre (u.rs.flatMap encRs) u.etl ∧ u.rs = res ++ u.ns) (fun u => [(46, .int .i64 (u.k : Int))]) (fun u => [⟨some p, cl [a0, a1, a2, a3, a4, a5, slV y.o2 y.l2.length y.c2, sVal u.eb u.ek u.rs.length u.ec, a8] 51⟩, ⟨u.eb, cl (u.epre ++ (u.rs.flatMap encRs ++ u.etl)) 89⟩] ++ rsH u.ns) (fun u => W.length - u.k) (⟨0, [], res, eb, ek, ec, epre, etl⟩) (⟨Nat.zero_le _, rfl, (fun r hr => by cases hr), hE0, (List.append_nil _).symm⟩) leZ (pqD) ?_
    rintro u ⟨huk, hns, hrs, hE, hre⟩
    refine WC_seq ?_
    refine WC_region ?_
    refine WL_val rfl rfl rfl (R_lss rfl rfl rfl) ?_
    refine WL_nil ?_
    refine WQ_code ?_
    refine WC_seq ?_
    refine WC_dec rfl (fun c3 => ?_) (fun c3 => ?_)
    · refine WC_skip ?_
      refine WQ_code ?_
      refine WC_seq ?_
      refine WC_block ?_
      refine WC_seq ?_
      refine WC_region ?_
      obtain ⟨cc, hc⟩ := getE (T := W) (i := u.k) (by omega)
      obtain ⟨wb, hcw⟩ := hWo.some_of (by omega)
      have hnl := ex_len huk hns
      have hrl : u.rs.length = res.length + u.ns.length := by rw [hre, List.length_append]
      refine WL_val rfl rfl rfl (R_idxO hcw rfl Tryz.underlying48 Tryz.sizeOf96 rfl rfl (by omega)) ?_
      refine WL_val rfl rfl rfl (R_loadAO (vs := encC cc) hcw rfl ag96 rfl (mmD) rfl (fm_at0 encC2 hc (j := 0) (vs := encC cc) (fun j v h => by rw [Nat.zero_add]; exact h) (Nat.le_refl _))) ?_
      refine WL_do rfl rfl rfl (D_alloc rfl zv96) ?_
      rintro _ _ ⟨b4, rfl, rfl⟩
      refine WL_do0 rfl rfl (D_store (vs := [_, _]) rfl Tryz.sizeOf96 rfl rfl rfl rfl rfl (plD) (by exact Nat.le_of_ble_eq_true rfl)) ?_
      rintro _ _ rfl
      refine WL_nil ?_
      refine WQ_code ?_
      refine WC_drawY (⟨some p, _⟩ :: [⟨u.eb, _⟩]) [(p, 7, sVal u.eb u.ek u.rs.length u.ec)] [15] [(0, false), (1, false), (2, false), (3, false), (4, true)] [(5, true), (6, true), (7, true), (8, true), (9, false), (10, true), (11, false), (12, false), (13, true), (14, true), (15, false)] followsMixed rfl rfl (by kernel_rfl) (pqD) (.cons (mmD) rfl .nil) ?_
      refine WYE_val rfl rfl rfl rfl (R_move rfl rfl) ?_
      refine WYE_val rfl rfl rfl rfl (R_move rfl rfl) ?_
      refine WYE_val rfl rfl rfl rfl (R_nilCheck rfl rfl) ?_
      refine WYE_val rfl rfl rfl rfl (R_fieldAddr rfl fa51_3 rfl) ?_
      refine WYE_early rfl rfl rfl rfl rfl sc49 rfl (by repeat (first | exact List.Mem.head _ | refine List.Mem.tail _ ?_)) ?_
      refine WYE_rest ?_
      refine WY_val rfl rfl rfl rfl (R_fieldAddr rfl fa96_0 rfl) ?_
      refine WY_val rfl rfl rfl rfl (R_load rfl sc3 rfl (mmD) rfl) ?_
      refine WY_val rfl rfl rfl rfl (R_move rfl rfl) ?_
      refine WY_val rfl rfl rfl rfl (R_move rfl rfl) ?_
      refine WY_do rfl rfl rfl rfl (D_call (clone_any hr hbl hrn) rfl rfl rfl rfl (pqD)) ?_
      rintro _ _ ⟨_, ⟨o8, c8, tl8, rfl, own8, rfl⟩, rfl⟩
      refine ⟨⟨_, pqD⟩, .inr (.cons (mmD) rfl .nil), ?_⟩
      refine WY_val rfl rfl rfl rfl (R_build rfl zv89 pl89 rfl rfl) ?_
      refine WY_do rfl rfl rfl rfl (D_buildSlice rfl si49 rfl rfl rfl) ?_
      rintro _ _ ⟨b5, rfl, rfl⟩
      refine ⟨⟨_, pqD⟩, .inr (.cons (mmD) rfl .nil), ?_⟩
      refine WY_do rfl rfl rfl rfl (D_appendS rfl si49 rfl hE plD rfl mmD (atZ : At _ 0 [_, _, _]) rfl rfl (by decide) (by omega) (by omega)) ?_
      rintro _ _ ⟨obS, kS, cS, preS, tlS, rfl, ownS, rfl⟩
      refine ⟨⟨_, pqD⟩, .inr (.cons (mmD) rfl .nil), ?_⟩
      rw [show u.rs.flatMap encRs ++ [Value.int .i64 (cc.id : Int), .int .i64 code, slV o8 body.length c8] = (u.rs ++ [(⟨(cc.id : Int), code, body, o8, c8, tl8⟩ : Rs)]).flatMap encRs from by simp, show u.rs.length + 1 = (u.rs ++ [(⟨(cc.id : Int), code, body, o8, c8, tl8⟩ : Rs)]).length from by simp] at ownS ⊢
      refine WY_val rfl rfl rfl rfl (R_nilCheck rfl rfl) ?_
      refine WY_val rfl rfl rfl rfl (R_fieldAddr rfl fa51_3 rfl) ?_
      refine WY_do0 rfl rfl rfl (D_store (vs := [_]) rfl Tryz.sizeOf49 rfl rfl rfl rfl rfl (plD) (by exact Nat.le_of_ble_eq_true rfl)) ?_
      rintro _ _ rfl
      refine ⟨⟨_, pqD⟩, .inl rfl, ?_⟩
      refine WY_nil ?_
      refine WQ_code ?_
      refine WC_region ?_
      refine WL_val rfl rfl rfl (R_add rfl rfl rfl (by omega)) ?_
      refine WL_val rfl rfl rfl (R_move rfl rfl) ?_
      refine WL_nil ?_
      refine WQshp (A := rsE (⟨(cc.id : Int), code, body, o8, c8, tl8⟩ : Rs) :: rsH u.ns) (A' := rsH (u.ns ++ [(⟨(cc.id : Int), code, body, o8, c8, tl8⟩ : Rs)])) pqD rsH_perm ?_
      refine WQ_nextF (⟨u.k + 1, u.ns ++ [⟨(cc.id : Int), code, body, o8, c8, tl8⟩], u.rs ++ [⟨(cc.id : Int), code, body, o8, c8, tl8⟩], obS, kS, cS, preS, tlS⟩) (⟨by dsimp only; omega, ex_step hc hns _ rfl, rs_snoc hrs own8, ownS, by dsimp only; rw [hre, List.append_assoc]⟩) (by dsimp only; omega) leZ (psZ) rfl (pqD)
    · have huw : u.k = W.length := by omega
      rw [huw, List.take_length] at hns
      rw [hl2e] at ho2 ⊢
      rw [hre] at hE ⊢
      refine WC_exit ?_
      refine WQ_code ?_
      refine WC_seq ?_
      refine WC_region ?_
      refine WL_val rfl rfl rfl (R_move rfl rfl) ?_
      refine WL_val rfl rfl rfl (R_assign rfl rfl) ?_
      refine WL_nil ?_
      refine WQ_code ?_
      refine WC_ret ?_
      refine WQ_ret rfl rfl (.cons (.tmp rfl) .nil) rfl (by
          exact ⟨y.o2, y.c2, y.t2, u.eb, u.ek, u.ec, u.epre, u.etl, u.ns, y.o1, y.c1, y.t1, W, hl1e, rfl, hWo, hns, hrs, ho2, hE, rfl⟩) (pqD)
def caLt (a b : Ca) : Prop := a.dl < b.dl ∨ (a.dl = b.dl ∧ a.id < b.id)
/-- What SortFunc does here (shown in RpSrt). -/
def CSortOk : Prop := ∀ (l : List Ca), l.length ≤ 1000000 → ∀ (ob : Option Nat) (c : Nat) (tl : List Value), Own ob l.length c 2 (l.flatMap encC) tl → Spec Tryz.prog 81 [slV ob l.length c, .func (.func 82) #[] #[]] [⟨ob, cl (l.flatMap encC ++ tl) 96⟩]
    (fun r H' => ∃ l' : List Ca, r = .tuple #[] ∧ l'.Perm l ∧ l'.Pairwise (fun a b => ¬ caLt b a) ∧ H' = [⟨ob, cl (l'.flatMap encC ++ tl) 96⟩])
theorem end_time (hsort : CSortOk) (p : Nat) (a0 a1 a2 a3 a4 a5 a8 : Value) {calls : List Ca} {res : List Rs} {cb : Option Nat} {ccp : Nat} {ctl : List Value} {eb : Option Nat} {ek ec : Nat} {epre etl : List Value} (hC : Own cb calls.length ccp 2 (calls.flatMap encC) ctl) (hE0 : OwnS eb ek res.length ec 3 epre (res.flatMap encRs) etl) (hbc : calls.length ≤ 32) (hbr : res.length ≤ 100000) (code : Int) {body : Bs} {oa : Option Addr} {ent : Ent} {c0 : Nat} (hr : RdB oa ent body) (hrn : oa = none → c0 = 0) (hbl : body.length ≤ 1000000) (q : Ca → Bool) (pf : Nat) (pca : List Value) (PH : Heap) (hq : ∀ c, Spec Tryz.prog pf ([caV c] ++ pca) PH (fun r H' => r = .bool (q c) ∧ H' = PH)) (hcode : code = 12) : Spec Tryz.prog 46 [ptrC p, .int .i64 code, .slice oa body.length c0, .func (.func pf) #[] pca.toArray] ([⟨some p, cl [a0, a1, a2, a3, a4, a5, slV cb calls.length ccp, sVal eb ek res.length ec, a8] 51⟩, ⟨cb, cl (calls.flatMap encC ++ ctl) 96⟩, ⟨eb, cl (epre ++ (res.flatMap encRs ++ etl)) 89⟩] ++ [ent] ++ PH) (fun r H' => ∃ cb' cc' ctl' eb' ek' ec' epre' etl' ns o c1 tl, ∃ W : List Ca, (W.Perm (calls.filter q) ∧ W.Pairwise (fun a b => ¬ caLt b a)) ∧ r = slV o W.length c1 ∧ Own o W.length c1 2 (W.flatMap encC) tl ∧ ns.map Rs.v = W.map (fun c => (⟨(c.id : Int), code, body⟩ : Res)) ∧ (∀ r ∈ ns, rsOk r) ∧ Own cb' (calls.filter (nq q)).length cc' 2 ((calls.filter (nq q)).flatMap encC) ctl' ∧ OwnS eb' ek' (res ++ ns).length ec' 3 epre' ((res ++ ns).flatMap encRs) etl' ∧ H' = [⟨some p, cl [a0, a1, a2, a3, a4, a5, slV cb' (calls.filter (nq q)).length cc', sVal eb' ek' (res ++ ns).length ec', a8] 51⟩, ⟨cb', cl ((calls.filter (nq q)).flatMap encC ++ ctl') 96⟩, ⟨eb', cl (epre' ++ ((res ++ ns).flatMap encRs ++ etl')) 89⟩] ++ rsH ns ++ [⟨o, cl (W.flatMap encC ++ tl) 96⟩] ++ [ent] ++ PH) := by
  refine Spec.of (E := [(0, ptrC p), (1, .int .i64 code), (2, .slice oa body.length c0), (3, .func (.func pf) #[] pca.toArray)]) Tryz.func46 rfl (by kernel_rfl) Tryz.ntmps46 rfl rfl (fun w => ?_)
  refine WC_seq ?_
  refine WC_region ?_
  refine WL_val rfl rfl rfl (R_assign rfl rfl) ?_
  refine WL_nil ?_
  refine WQ_code ?_
  refine WC_seq ?_
  refine WC_region ?_
  refine WL_val rfl rfl rfl (R_assign rfl rfl) ?_
  refine WL_val rfl rfl rfl (R_assign rfl rfl) ?_
  refine WL_nil ?_
  refine WQ_code ?_
  refine WC_seq ?_
  refine WC_seq ?_
  refine WC_region ?_
  refine WL_val rfl rfl rfl (R_move rfl rfl) ?_
  refine WL_val rfl rfl rfl (R_nilCheck rfl rfl) ?_
  refine WL_val rfl rfl rfl (R_fieldAddr rfl fa51_2 rfl) ?_
  refine WL_val rfl rfl rfl (R_load rfl sc48 rfl (mmD) rfl) ?_
  refine WL_val rfl rfl rfl (R_len rfl Tryz.underlying48 rfl) ?_
  refine WL_val rfl rfl rfl (R_move rfl rfl) ?_
  refine WL_nil ?_
  refine WQ_code ?_
  refine WC_block ?_
  refine WC_none 96 ?_
  refine WC_none 96 ?_
  refine WC_loopF (G := EnW) [9, 10, 12, 20, 21, 22, 23, 24, 25, 26, 27, 28, 29, 30, 31, 32, 33, 34, 35] (fun y => y.k ≤ calls.length ∧ y.l1 = (calls.take y.k).filter q ∧ y.l2 = (calls.take y.k).filter (nq q) ∧ Own y.o1 y.l1.length y.c1 2 (y.l1.flatMap encC) y.t1 ∧ Own y.o2 y.l2.length y.c2 2 (y.l2.flatMap encC) y.t2) (fun y => [(20, .int .i64 (y.k : Int)), (9, slV y.o1 y.l1.length y.c1), (10, slV y.o2 y.l2.length y.c2)]) (fun y => [⟨y.o1, cl (y.l1.flatMap encC ++ y.t1) 96⟩, ⟨y.o2, cl (y.l2.flatMap encC ++ y.t2) 96⟩]) (fun y => calls.length - y.k) (⟨0, none, 0, [], none, 0, [], [], []⟩) (⟨Nat.zero_le _, rfl, rfl, Own.empty 2, Own.empty 2⟩) leZ (pqD) ?_
  rintro y ⟨hk, hl1, hl2, ho1, ho2⟩
  refine WC_seq ?_
  refine WC_region ?_
  refine WL_val rfl rfl rfl (R_lss rfl rfl rfl) ?_
  refine WL_nil ?_
  refine WQ_code ?_
  refine WC_seq ?_
  refine WC_dec rfl (fun c1 => ?_) (fun c1 => ?_)
  · refine WC_skip ?_
    refine WQ_code ?_
    refine WC_seq ?_
    refine WC_block ?_
    refine WC_seq ?_
    refine WC_region ?_
    obtain ⟨cc, hc⟩ := getE (T := calls) (i := y.k) (by omega)
    obtain ⟨wb, hcb⟩ := hC.some_of (by omega)
    have hle1 := flt_le q calls y.k
    have hle2 := flt_le (nq q) calls y.k
    rw [← hl1] at hle1
    rw [← hl2] at hle2
    refine WL_val rfl rfl rfl (R_idxO hcb rfl Tryz.underlying48 Tryz.sizeOf96 rfl rfl (by omega)) ?_
    refine WL_val rfl rfl rfl (R_loadAO (vs := encC cc) hcb rfl ag96 rfl (mmD) rfl (fm_at0 encC2 hc (j := 0) (vs := encC cc) (fun j v h => by rw [Nat.zero_add]; exact h) (Nat.le_refl _))) ?_
    refine WL_do rfl rfl rfl (D_alloc rfl zv96) ?_
    rintro _ _ ⟨b1, rfl, rfl⟩
    refine WL_do0 rfl rfl (D_store (vs := [_, _]) rfl Tryz.sizeOf96 rfl rfl rfl rfl rfl (plD) (by exact Nat.le_of_ble_eq_true rfl)) ?_
    rintro _ _ rfl
    refine WL_nil ?_
    refine WQ_code ?_
    refine WC_seq ?_
    refine WC_region ?_
    refine WL_val rfl rfl rfl (R_move rfl rfl) ?_
    refine WL_val rfl rfl rfl (R_loadA (vs := [_, _]) rfl ag96 rfl (mmD) rfl (atZ)) ?_
    refine WL_do rfl rfl rfl (D_call (hq cc) rfl rfl rfl rfl (pqD)) ?_
    rintro _ _ ⟨_, ⟨rfl, rfl⟩, rfl⟩
    refine WL_nil ?_
    refine WQ_code ?_
    refine WC_if rfl (fun c2 => ?_) (fun c2 => ?_)
    · have hcq := c2
      refine WC_region ?_
      refine WL_val rfl rfl rfl (R_move rfl rfl) ?_
      refine WL_val rfl rfl rfl (R_loadA (vs := [_, _]) rfl ag96 rfl (mmD) rfl (atZ)) ?_
      refine WL_do rfl rfl rfl (D_buildSlice rfl si48 rfl rfl rfl) ?_
      rintro _ _ ⟨b2, rfl, rfl⟩
      refine WL_do rfl rfl rfl (D_append rfl si48 rfl ho1 plD rfl mmD (atZ : At _ 0 [_, _]) rfl rfl (by omega) (by omega)) ?_
      rintro _ _ ⟨ob9, c9, tl9, rfl, own9, rfl⟩
      rw [show y.l1.flatMap encC ++ [Value.int .i64 (cc.id : Int), .int .u64 (cc.dl : Int)] = (y.l1 ++ [cc]).flatMap encC from by simp, show y.l1.length + 1 = (y.l1 ++ [cc]).length from by simp] at own9
      rw [show y.l1.flatMap encC ++ [Value.int .i64 (cc.id : Int), .int .u64 (cc.dl : Int)] = (y.l1 ++ [cc]).flatMap encC from by simp]
      refine WL_set (s := 30) (v := slV ob9 (y.l1 ++ [cc]).length c9) rfl (by rw [List.length_append]; rfl) ?_
      refine WL_val rfl rfl rfl (R_assign rfl rfl) ?_
      refine WL_nil ?_
      refine WQ_code ?_
      refine WC_region ?_
      refine WL_val rfl rfl rfl (R_add rfl rfl rfl (by omega)) ?_
      refine WL_val rfl rfl rfl (R_move rfl rfl) ?_
      refine WL_nil ?_
      refine WQ_nextF (⟨y.k + 1, ob9, c9, tl9, y.o2, y.c2, y.t2, y.l1 ++ [cc], y.l2⟩) (⟨by dsimp only; omega, by dsimp only; rw [flt_snoc hc, ← hl1, hcq]; rfl, by dsimp only; rw [flt_snoc hc, ← hl2]; simp [nq, hcq], own9, ho2⟩) (by dsimp only; omega) leZ (psZ) rfl (pqD)
    · have hcq := c2
      refine WC_region ?_
      refine WL_val rfl rfl rfl (R_move rfl rfl) ?_
      refine WL_val rfl rfl rfl (R_loadA (vs := [_, _]) rfl ag96 rfl (mmD) rfl (atZ)) ?_
      refine WL_do rfl rfl rfl (D_buildSlice rfl si48 rfl rfl rfl) ?_
      rintro _ _ ⟨b3, rfl, rfl⟩
      refine WL_do rfl rfl rfl (D_append rfl si48 rfl ho2 plD rfl mmD (atZ : At _ 0 [_, _]) rfl rfl (by omega) (by omega)) ?_
      rintro _ _ ⟨ob9, c9, tl9, rfl, own9, rfl⟩
      rw [show y.l2.flatMap encC ++ [Value.int .i64 (cc.id : Int), .int .u64 (cc.dl : Int)] = (y.l2 ++ [cc]).flatMap encC from by simp, show y.l2.length + 1 = (y.l2 ++ [cc]).length from by simp] at own9
      rw [show y.l2.flatMap encC ++ [Value.int .i64 (cc.id : Int), .int .u64 (cc.dl : Int)] = (y.l2 ++ [cc]).flatMap encC from by simp]
      refine WL_set (s := 34) (v := slV ob9 (y.l2 ++ [cc]).length c9) rfl (by rw [List.length_append]; rfl) ?_
      refine WL_val rfl rfl rfl (R_assign rfl rfl) ?_
      refine WL_nil ?_
      refine WQ_code ?_
      refine WC_region ?_
      refine WL_val rfl rfl rfl (R_add rfl rfl rfl (by omega)) ?_
      refine WL_val rfl rfl rfl (R_move rfl rfl) ?_
      refine WL_nil ?_
      refine WQ_nextF (⟨y.k + 1, y.o1, y.c1, y.t1, ob9, c9, tl9, y.l1, y.l2 ++ [cc]⟩) (⟨by dsimp only; omega, by dsimp only; rw [flt_snoc hc, ← hl1, hcq]; simp, by dsimp only; rw [flt_snoc hc, ← hl2]; simp [nq, hcq], ho1, own9⟩) (by dsimp only; omega) leZ (psZ) rfl (pqD)
  · have hkl : y.k = calls.length := by omega
    have hl1e : y.l1 = calls.filter q := by rw [hl1, hkl, List.take_length]
    have hl2e : y.l2 = calls.filter (nq q) := by rw [hl2, hkl, List.take_length]
    have hWl : y.l1.length ≤ 32 := Nat.le_trans (by rw [hl1e]; exact List.length_filter_le ..) hbc
    refine WC_exit ?_
    refine WQ_code ?_
    refine WC_seq ?_
    refine WC_region ?_
    refine WL_val rfl rfl rfl (R_move rfl rfl) ?_
    refine WL_val rfl rfl rfl (R_move rfl rfl) ?_
    refine WL_val rfl rfl rfl (R_nilCheck rfl rfl) ?_
    refine WL_val rfl rfl rfl (R_fieldAddr rfl fa51_2 rfl) ?_
    refine WL_do0 rfl rfl (D_store (vs := [_]) rfl Tryz.sizeOf48 rfl rfl rfl rfl rfl (plD) (by exact Nat.le_of_ble_eq_true rfl)) ?_
    rintro _ _ rfl
    refine WL_nil ?_
    refine WQ_code ?_
    refine WC_seq ?_
    refine WC_seq ?_
    refine WC_region ?_
    refine WL_val rfl rfl rfl (R_move rfl rfl) ?_
    refine WL_val rfl rfl rfl (R_eql rfl rfl rfl) ?_
    refine WL_nil ?_
    refine WQ_code ?_
    refine WC_dT rfl (by exact hcode) ?_
    refine WC_region ?_
    refine WL_val rfl rfl rfl (R_move rfl rfl) ?_
    refine WL_do rfl rfl rfl (D_call (hsort y.l1 (by omega) y.o1 y.c1 y.t1 ho1) rfl rfl rfl rfl (pqD)) ?_
    rintro _ _ ⟨_, ⟨W, rfl, hWp, hWs, rfl⟩, rfl⟩
    have hWl2 := hWp.length_eq
    rw [← hWl2] at hWl
    have hWo : Own y.o1 W.length y.c1 2 (W.flatMap encC) y.t1 := ⟨by rw [fm_length encC2], by have h8 := ho1.cap; rw [fm_length encC2] at h8 ⊢; rw [hWl2]; exact h8, by rw [hWl2]; exact ho1.le, ho1.big, ho1.nil⟩
    refine WL_set (s := 9) (v := slV y.o1 W.length y.c1) rfl (by rw [hWl2]) ?_
    refine WL_nil ?_
    refine WQ_code ?_
    refine WC_seq ?_
    refine WC_seq ?_
    refine WC_region ?_
    refine WL_val rfl rfl rfl (R_move rfl rfl) ?_
    refine WL_val rfl rfl rfl (R_len rfl Tryz.underlying48 rfl) ?_
    refine WL_val rfl rfl rfl (R_move rfl rfl) ?_
    refine WL_nil ?_
    refine WQ_code ?_
    refine WC_block ?_
    refine WC_loopF (G := ExW) [14, 46, 47, 48, 49, 50, 51, 52, 53, 54, 55, 56, 57, 58, 59, 60, 61, 62, 63, 64, 65] (fun u => u.k ≤ W.length ∧ u.ns.map Rs.v = (W.take u.k).map (fun c => (⟨(c.id : Int), code, body⟩ : Res)) ∧ (∀ r ∈ u.ns, rsOk r) ∧ OwnS u.eb u.ek u.rs.length u.ec 3 u.epre (u.rs.flatMap encRs) u.etl ∧ u.rs = res ++ u.ns) (fun u => [(46, .int .i64 (u.k : Int))]) (fun u => [⟨some p, cl [a0, a1, a2, a3, a4, a5, slV y.o2 y.l2.length y.c2, sVal u.eb u.ek u.rs.length u.ec, a8] 51⟩, ⟨u.eb, cl (u.epre ++ (u.rs.flatMap encRs ++ u.etl)) 89⟩] ++ rsH u.ns) (fun u => W.length - u.k) (⟨0, [], res, eb, ek, ec, epre, etl⟩) (⟨Nat.zero_le _, rfl, (fun r hr => by cases hr), hE0, (List.append_nil _).symm⟩) leZ (pqD) ?_
    rintro u ⟨huk, hns, hrs, hE, hre⟩
    refine WC_seq ?_
    refine WC_region ?_
    refine WL_val rfl rfl rfl (R_lss rfl rfl rfl) ?_
    refine WL_nil ?_
    refine WQ_code ?_
    refine WC_seq ?_
    refine WC_dec rfl (fun c3 => ?_) (fun c3 => ?_)
    · refine WC_skip ?_
      refine WQ_code ?_
      refine WC_seq ?_
      refine WC_block ?_
      refine WC_seq ?_
      refine WC_region ?_
      obtain ⟨cc, hc⟩ := getE (T := W) (i := u.k) (by omega)
      obtain ⟨wb, hcw⟩ := hWo.some_of (by omega)
      have hnl := ex_len huk hns
      have hrl : u.rs.length = res.length + u.ns.length := by rw [hre, List.length_append]
      refine WL_val rfl rfl rfl (R_idxO hcw rfl Tryz.underlying48 Tryz.sizeOf96 rfl rfl (by omega)) ?_
      refine WL_val rfl rfl rfl (R_loadAO (vs := encC cc) hcw rfl ag96 rfl (mmD) rfl (fm_at0 encC2 hc (j := 0) (vs := encC cc) (fun j v h => by rw [Nat.zero_add]; exact h) (Nat.le_refl _))) ?_
      refine WL_do rfl rfl rfl (D_alloc rfl zv96) ?_
      rintro _ _ ⟨b4, rfl, rfl⟩
      refine WL_do0 rfl rfl (D_store (vs := [_, _]) rfl Tryz.sizeOf96 rfl rfl rfl rfl rfl (plD) (by exact Nat.le_of_ble_eq_true rfl)) ?_
      rintro _ _ rfl
      refine WL_nil ?_
      refine WQ_code ?_
      refine WC_drawY (⟨some p, _⟩ :: [⟨u.eb, _⟩]) [(p, 7, sVal u.eb u.ek u.rs.length u.ec)] [15] [(0, false), (1, false), (2, false), (3, false), (4, true)] [(5, true), (6, true), (7, true), (8, true), (9, false), (10, true), (11, false), (12, false), (13, true), (14, true), (15, false)] followsMixed rfl rfl (by kernel_rfl) (pqD) (.cons (mmD) rfl .nil) ?_
      refine WYE_val rfl rfl rfl rfl (R_move rfl rfl) ?_
      refine WYE_val rfl rfl rfl rfl (R_move rfl rfl) ?_
      refine WYE_val rfl rfl rfl rfl (R_nilCheck rfl rfl) ?_
      refine WYE_val rfl rfl rfl rfl (R_fieldAddr rfl fa51_3 rfl) ?_
      refine WYE_early rfl rfl rfl rfl rfl sc49 rfl (by repeat (first | exact List.Mem.head _ | refine List.Mem.tail _ ?_)) ?_
      refine WYE_rest ?_
      refine WY_val rfl rfl rfl rfl (R_fieldAddr rfl fa96_0 rfl) ?_
      refine WY_val rfl rfl rfl rfl (R_load rfl sc3 rfl (mmD) rfl) ?_
      refine WY_val rfl rfl rfl rfl (R_move rfl rfl) ?_
      refine WY_val rfl rfl rfl rfl (R_move rfl rfl) ?_
      refine WY_do rfl rfl rfl rfl (D_call (clone_any hr hbl hrn) rfl rfl rfl rfl (pqD)) ?_
      rintro _ _ ⟨_, ⟨o8, c8, tl8, rfl, own8, rfl⟩, rfl⟩
      refine ⟨⟨_, pqD⟩, .inr (.cons (mmD) rfl .nil), ?_⟩
      refine WY_val rfl rfl rfl rfl (R_build rfl zv89 pl89 rfl rfl) ?_
      refine WY_do rfl rfl rfl rfl (D_buildSlice rfl si49 rfl rfl rfl) ?_
      rintro _ _ ⟨b5, rfl, rfl⟩
      refine ⟨⟨_, pqD⟩, .inr (.cons (mmD) rfl .nil), ?_⟩
      refine WY_do rfl rfl rfl rfl (D_appendS rfl si49 rfl hE plD rfl mmD (atZ : At _ 0 [_, _, _]) rfl rfl (by decide) (by omega) (by omega)) ?_
      rintro _ _ ⟨obS, kS, cS, preS, tlS, rfl, ownS, rfl⟩
      refine ⟨⟨_, pqD⟩, .inr (.cons (mmD) rfl .nil), ?_⟩
      rw [show u.rs.flatMap encRs ++ [Value.int .i64 (cc.id : Int), .int .i64 code, slV o8 body.length c8] = (u.rs ++ [(⟨(cc.id : Int), code, body, o8, c8, tl8⟩ : Rs)]).flatMap encRs from by simp, show u.rs.length + 1 = (u.rs ++ [(⟨(cc.id : Int), code, body, o8, c8, tl8⟩ : Rs)]).length from by simp] at ownS ⊢
      refine WY_val rfl rfl rfl rfl (R_nilCheck rfl rfl) ?_
      refine WY_val rfl rfl rfl rfl (R_fieldAddr rfl fa51_3 rfl) ?_
      refine WY_do0 rfl rfl rfl (D_store (vs := [_]) rfl Tryz.sizeOf49 rfl rfl rfl rfl rfl (plD) (by exact Nat.le_of_ble_eq_true rfl)) ?_
      rintro _ _ rfl
      refine ⟨⟨_, pqD⟩, .inl rfl, ?_⟩
      refine WY_nil ?_
      refine WQ_code ?_
      refine WC_region ?_
      refine WL_val rfl rfl rfl (R_add rfl rfl rfl (by omega)) ?_
      refine WL_val rfl rfl rfl (R_move rfl rfl) ?_
      refine WL_nil ?_
      refine WQshp (A := rsE (⟨(cc.id : Int), code, body, o8, c8, tl8⟩ : Rs) :: rsH u.ns) (A' := rsH (u.ns ++ [(⟨(cc.id : Int), code, body, o8, c8, tl8⟩ : Rs)])) pqD rsH_perm ?_
      refine WQ_nextF (⟨u.k + 1, u.ns ++ [⟨(cc.id : Int), code, body, o8, c8, tl8⟩], u.rs ++ [⟨(cc.id : Int), code, body, o8, c8, tl8⟩], obS, kS, cS, preS, tlS⟩) (⟨by dsimp only; omega, ex_step hc hns _ rfl, rs_snoc hrs own8, ownS, by dsimp only; rw [hre, List.append_assoc]⟩) (by dsimp only; omega) leZ (psZ) rfl (pqD)
    · have huw : u.k = W.length := by omega
      rw [huw, List.take_length] at hns
      rw [hl2e] at ho2 ⊢
      rw [hre] at hE ⊢
      refine WC_exit ?_
      refine WQ_code ?_
      refine WC_seq ?_
      refine WC_region ?_
      refine WL_val rfl rfl rfl (R_move rfl rfl) ?_
      refine WL_val rfl rfl rfl (R_assign rfl rfl) ?_
      refine WL_nil ?_
      refine WQ_code ?_
      refine WC_ret ?_
      refine WQ_ret rfl rfl (.cons (.tmp rfl) .nil) rfl (by
          exact ⟨y.o2, y.c2, y.t2, u.eb, u.ek, u.ec, u.epre, u.etl, u.ns, y.o1, y.c1, y.t1, W, ⟨hl1e ▸ hWp, hWs⟩, rfl, hWo, hns, hrs, ho2, hE, rfl⟩) (pqD)
end Go.Proofs.YtdelhikejgoffaaGreat
end
section
set_option linter.unusedVariables false
set_option maxRecDepth 20000
set_option maxHeartbeats 4000000
namespace Go.Proofs.YtdelhikejgoffaaGreat
def idxC (q : Ca → Bool) : List Ca → Int
  | [] => -1
  | x :: r => if q x = true then 0 else if idxC q r = -1 then -1 else idxC q r + 1
theorem idxC_hit {q : Ca → Bool} {x : Ca} : ∀ {l : List Ca} {k : Nat}, (∀ v ∈ l.take k, q v = false) → l[k]? = some x → q x = true → idxC q l = k
  | [], k, _, hx, _ => by simp at hx
  | y :: r, 0, _, hx, hp => by simp at hx; subst hx; simp [idxC, hp]
  | y :: r, k + 1, h, hx, hp => by
    have h1 : q y = false := h y (by simp)
    have ih := idxC_hit (l := r) (k := k) (fun v hv => h v (by simp [hv])) (by simpa using hx) hp
    rw [idxC, if_neg (by rw [h1]; simp), ih, if_neg (by omega)]; omega
theorem idxC_none {q : Ca → Bool} : ∀ {l : List Ca}, (∀ v ∈ l, q v = false) → idxC q l = -1
  | [], _ => rfl
  | y :: r, h => by
    rw [idxC, if_neg (by rw [h y (by simp)]; simp), if_pos (idxC_none fun v hv => h v (by simp [hv]))]
theorem idxC_any (q : Ca → Bool) : ∀ l : List Ca, -1 ≤ idxC q l ∧ decide (0 ≤ idxC q l) = l.any q
  | [] => by simp [idxC]
  | y :: r => by
    obtain ⟨h1, h2⟩ := idxC_any q r
    rw [idxC, List.any_cons]
    by_cases e : q y = true
    · rw [if_pos e, e]; simp
    · have e2 : q y = false := by simpa using e
      rw [if_neg e, e2]
      by_cases e3 : idxC q r = -1
      · rw [if_pos e3, ← h2, e3]; simp
      · rw [if_neg e3, ← h2]
        refine ⟨by omega, ?_⟩
        rw [Bool.false_or]
        exact decide_eq_decide.2 (by omega)
theorem cidx_ok (l : List Ca) (hl : l.length ≤ 1000000) {o : Option Nat} {c : Nat} {tl : List Value} (own : Own o l.length c 2 (l.flatMap encC) tl) (PH : Heap) (q : Ca → Bool) (pf : Nat) (pca : List Value) (hq : ∀ c, Spec Tryz.prog pf ([caV c] ++ pca) PH (fun r H' => r = .bool (q c) ∧ H' = PH)) : Spec Tryz.prog 86 [slV o l.length c, .func (.func pf) #[] pca.toArray] ([⟨o, cl (l.flatMap encC ++ tl) 96⟩] ++ PH) (fun r H' => r = .int .i64 (idxC q l) ∧ H' = [⟨o, cl (l.flatMap encC ++ tl) 96⟩] ++ PH) := by
  refine Spec.of (E := [(0, slV o l.length c), (1, .func (.func pf) #[] pca.toArray)]) Tryz.func86 rfl (by kernel_rfl) Tryz.ntmps86 rfl rfl (fun w => ?_)
  refine WC_seq ?_
  refine WC_region ?_
  refine WL_val rfl rfl rfl (R_assign rfl rfl) ?_
  refine WL_nil ?_
  refine WQ_code ?_
  refine WC_seq ?_
  refine WC_seq ?_
  refine WC_region ?_
  refine WL_val rfl rfl rfl (R_move rfl rfl) ?_
  refine WL_val rfl rfl rfl (R_len rfl Tryz.underlying48 rfl) ?_
  refine WL_val rfl rfl rfl (R_move rfl rfl) ?_
  refine WL_nil ?_
  refine WQ_code ?_
  refine WC_block ?_
  refine WC_loopF (G := Nat) [4, 5, 8, 9, 10, 11, 12, 13, 14, 15, 16, 17, 18] (fun y => y ≤ l.length ∧ ∀ v ∈ l.take y, q v = false) (fun y => [(8, .int .i64 (y : Int))]) (fun y => []) (fun y => l.length - y) (0) (⟨Nat.zero_le _, by simp⟩) leZ (pqD) ?_
  rintro y ⟨hk, hz⟩
  refine WC_seq ?_
  refine WC_region ?_
  refine WL_val rfl rfl rfl (R_lss rfl rfl rfl) ?_
  refine WL_nil ?_
  refine WQ_code ?_
  refine WC_seq ?_
  refine WC_dec rfl (fun c1 => ?_) (fun c1 => ?_)
  · refine WC_skip ?_
    refine WQ_code ?_
    refine WC_seq ?_
    refine WC_block ?_
    refine WC_seq ?_
    refine WC_region ?_
    refine WL_val rfl rfl rfl (R_move rfl rfl) ?_
    refine WL_val rfl rfl rfl (R_assign rfl rfl) ?_
    refine WL_nil ?_
    refine WQ_code ?_
    refine WC_seq ?_
    refine WC_region ?_
    obtain ⟨cc, hc⟩ := getE (T := l) (i := y) (by omega)
    obtain ⟨wa, hwa⟩ := own.some_of (by omega)
    refine WL_val rfl rfl rfl (R_move rfl rfl) ?_
    refine WL_val rfl rfl rfl (R_move rfl rfl) ?_
    refine WL_val rfl rfl rfl (R_move rfl rfl) ?_
    refine WL_val rfl rfl rfl (R_idxO hwa rfl Tryz.underlying48 Tryz.sizeOf96 rfl rfl (by omega)) ?_
    refine WL_val rfl rfl rfl (R_loadAO (vs := encC cc) hwa rfl ag96 rfl (mmD) rfl (fm_at0 encC2 hc (j := 0) (vs := encC cc) (fun j v h => by rw [Nat.zero_add]; exact h) (Nat.le_refl _))) ?_
    refine WL_do rfl rfl rfl (D_call (hq cc) rfl rfl rfl rfl (pqD)) ?_
    rintro _ _ ⟨_, ⟨rfl, rfl⟩, rfl⟩
    refine WL_nil ?_
    refine WQ_code ?_
    refine WC_if rfl (fun c2 => ?_) (fun c2 => ?_)
    · have hcq := c2
      refine WC_seq ?_
      refine WC_region ?_
      refine WL_val rfl rfl rfl (R_move rfl rfl) ?_
      refine WL_val rfl rfl rfl (R_assign rfl rfl) ?_
      refine WL_nil ?_
      refine WQ_code ?_
      refine WC_ret ?_
      refine WQ_ret rfl rfl (.cons (.tmp rfl) .nil) rfl (by
          exact ⟨congrArg (Value.int .i64) (idxC_hit hz hc hcq).symm, rfl⟩) (pqD)
    · have hcq := c2
      refine WC_skip ?_
      refine WQ_code ?_
      refine WC_region ?_
      refine WL_val rfl rfl rfl (R_add rfl rfl rfl (by omega)) ?_
      refine WL_val rfl rfl rfl (R_move rfl rfl) ?_
      refine WL_nil ?_
      refine WQ_nextF (y + 1) (⟨by omega, fun v hv => by rw [take_next hc] at hv; rcases List.mem_append.1 hv with hv | hv; exact hz v hv; rw [List.mem_singleton.1 hv]; exact hcq⟩) (by omega) leZ (psZ) rfl (pqD)
  · have hkl : l.length ≤ y := by omega
    refine WC_exit ?_
    refine WQ_code ?_
    refine WC_seq ?_
    refine WC_region ?_
    refine WL_val rfl rfl rfl (R_assign rfl rfl) ?_
    refine WL_nil ?_
    refine WQ_code ?_
    refine WC_ret ?_
    refine WQ_ret rfl rfl (.cons (.tmp rfl) .nil) rfl (by
        exact ⟨congrArg (Value.int .i64) (idxC_none (by rw [List.take_of_length_le hkl] at hz; exact hz)).symm, rfl⟩) (pqD)
theorem ccont_ok (l : List Ca) (hl : l.length ≤ 1000000) {o : Option Nat} {c : Nat} {tl : List Value} (own : Own o l.length c 2 (l.flatMap encC) tl) (PH : Heap) (q : Ca → Bool) (pf : Nat) (pca : List Value) (hq : ∀ c, Spec Tryz.prog pf ([caV c] ++ pca) PH (fun r H' => r = .bool (q c) ∧ H' = PH)) : Spec Tryz.prog 49 [slV o l.length c, .func (.func pf) #[] pca.toArray] ([⟨o, cl (l.flatMap encC ++ tl) 96⟩] ++ PH) (fun r H' => r = .bool (l.any q) ∧ H' = [⟨o, cl (l.flatMap encC ++ tl) 96⟩] ++ PH) := by
  refine Spec.of (E := [(0, slV o l.length c), (1, .func (.func pf) #[] pca.toArray)]) Tryz.func49 rfl (by kernel_rfl) Tryz.ntmps49 rfl rfl (fun w => ?_)
  refine WC_seq ?_
  refine WC_region ?_
  refine WL_val rfl rfl rfl (R_assign rfl rfl) ?_
  refine WL_nil ?_
  refine WQ_code ?_
  refine WC_seq ?_
  refine WC_region ?_
  refine WL_val rfl rfl rfl (R_move rfl rfl) ?_
  refine WL_val rfl rfl rfl (R_move rfl rfl) ?_
  refine WL_do rfl rfl rfl (D_call (cidx_ok l hl own PH q pf pca hq) rfl rfl rfl rfl (pqD)) ?_
  rintro _ _ ⟨_, ⟨rfl, rfl⟩, rfl⟩
  refine WL_val rfl rfl rfl (R_geq rfl rfl rfl) ?_
  refine WL_val rfl rfl rfl (R_assign rfl rfl) ?_
  refine WL_nil ?_
  refine WQ_code ?_
  refine WC_ret ?_
  refine WQ_ret rfl rfl (.cons (.tmp rfl) .nil) rfl (by
      exact ⟨congrArg Value.bool (idxC_any q l).2, rfl⟩) (pqD)
def cnlF (W : List Ca) : Bs := W.flatMap fun c => encF 18 (bigB c.id 4)
theorem cnlF_snoc {W : List Ca} {k : Nat} {c : Ca} (h : W[k]? = some c) : cnlF (W.take (k + 1)) = cnlF (W.take k) ++ encF 18 (bigB c.id 4) := by unfold cnlF; rw [take_next h, List.flatMap_append]; simp
theorem cnlF_len (W : List Ca) : (cnlF W).length = 10 * W.length := by
  induction W with
  | nil => rfl
  | cons c r ih =>
    show (encF 18 (bigB c.id 4) ++ cnlF r).length = _
    rw [List.length_append, encF_len, bigB_len, ih, List.length_cons]; omega
structure CnW where
  k : Nat
  out : Bs
  ob : Option Nat
  ok : Nat
  c : Nat
  pre : List Value
  tl : List Value
theorem cnl_ok (p ty : Nat) (Z : List Value) {out : Bs} {ob : Option Nat} {k c : Nat} {pre tl : List Value} (hO : OwnS ob k out.length c 1 pre (bvs out) tl) (W : List Ca) (hW : W.length ≤ 32) (hid : ∀ c ∈ W, c.id ≤ 1000000) {o : Option Nat} {c1 : Nat} {tw : List Value} (hwo : Own o W.length c1 2 (W.flatMap encC) tw) (hout : out.length ≤ 200000) : Spec Tryz.prog 45 [.pointer (some ⟨p, 0, none⟩), slV o W.length c1] ([⟨some p, cl (sVal ob k out.length c :: Z) ty⟩, ⟨ob, cl (pre ++ (bvs out ++ tl)) 5⟩] ++ [⟨o, cl (W.flatMap encC ++ tw) 96⟩]) (fun r H' => ∃ ob' k' c' pre' tl', r = .tuple #[] ∧ H' = [⟨some p, cl (sVal ob' k' (out ++ cnlF W).length c' :: Z) ty⟩, ⟨ob', cl (pre' ++ (bvs (out ++ cnlF W) ++ tl')) 5⟩] ++ [⟨o, cl (W.flatMap encC ++ tw) 96⟩] ∧ OwnS ob' k' (out ++ cnlF W).length c' 1 pre' (bvs (out ++ cnlF W)) tl') := by
  refine Spec.of (E := [(0, .pointer (some ⟨p, 0, none⟩)), (1, slV o W.length c1)]) Tryz.func45 rfl (by kernel_rfl) Tryz.ntmps45 rfl rfl (fun w => ?_)
  refine WC_seq ?_
  refine WC_region ?_
  refine WL_val rfl rfl rfl (R_move rfl rfl) ?_
  refine WL_val rfl rfl rfl (R_len rfl Tryz.underlying48 rfl) ?_
  refine WL_val rfl rfl rfl (R_move rfl rfl) ?_
  refine WL_nil ?_
  refine WQ_code ?_
  refine WC_block ?_
  refine WC_loopF (G := CnW) [5, 8, 9, 10, 11, 12, 13, 14, 15, 16, 17, 18, 19, 20] (fun y => y.k ≤ W.length ∧ y.out = out ++ cnlF (W.take y.k) ∧ OwnS y.ob y.ok y.out.length y.c 1 y.pre (bvs y.out) y.tl) (fun y => [(8, .int .i64 (y.k : Int))]) (fun y => [⟨some p, cl (sVal y.ob y.ok y.out.length y.c :: Z) ty⟩, ⟨y.ob, cl (y.pre ++ (bvs y.out ++ y.tl)) 5⟩]) (fun y => W.length - y.k) (⟨0, out, ob, k, c, pre, tl⟩) (⟨Nat.zero_le _, by simp [cnlF], hO⟩) leZ (pqD) ?_
  rintro y ⟨hyk, hyo, hyO⟩
  refine WC_seq ?_
  refine WC_region ?_
  refine WL_val rfl rfl rfl (R_lss rfl rfl rfl) ?_
  refine WL_nil ?_
  refine WQ_code ?_
  refine WC_seq ?_
  refine WC_dec rfl (fun c1 => ?_) (fun c1 => ?_)
  · refine WC_skip ?_
    refine WQ_code ?_
    refine WC_seq ?_
    refine WC_block ?_
    refine WC_seq ?_
    refine WC_region ?_
    obtain ⟨cc, hc⟩ := getE (T := W) (i := y.k) (by omega)
    obtain ⟨wa, hwa⟩ := hwo.some_of (by omega)
    have hcid := hid cc (List.mem_of_getElem? hc)
    have hcl := cnlF_len (W.take y.k)
    have htk : (W.take y.k).length ≤ W.length := by simp; omega
    have hol : y.out.length = out.length + 10 * (W.take y.k).length := by rw [hyo, List.length_append, hcl]
    refine WL_val rfl rfl rfl (R_idxO hwa rfl Tryz.underlying48 Tryz.sizeOf96 rfl rfl (by omega)) ?_
    refine WL_val rfl rfl rfl (R_loadAO (vs := encC cc) hwa rfl ag96 rfl (mmD) rfl (fm_at0 encC2 hc (j := 0) (vs := encC cc) (fun j v h => by rw [Nat.zero_add]; exact h) (Nat.le_refl _))) ?_
    refine WL_do rfl rfl rfl (D_alloc rfl zv96) ?_
    rintro _ _ ⟨b1, rfl, rfl⟩
    refine WL_do0 rfl rfl (D_store (vs := [_, _]) rfl Tryz.sizeOf96 rfl rfl rfl rfl rfl (plD) (by exact Nat.le_of_ble_eq_true rfl)) ?_
    rintro _ _ rfl
    refine WL_nil ?_
    refine WQ_code ?_
    refine WC_drawR (⟨some p, _⟩ :: [⟨y.ob, _⟩]) [(0, true), (1, true), (2, true), (3, true), (4, true), (5, false), (6, false), (7, false)] followsMixed rfl rfl (by kernel_rfl) (pqD) ?_
    refine WM_val rfl rfl rfl rfl (R_move rfl rfl) ?_
    refine WM_val rfl rfl rfl rfl (R_nilCheck rfl rfl) ?_
    refine WM_val rfl rfl rfl rfl (R_fieldAddr rfl fa51_0 rfl) ?_
    refine WM_val rfl rfl rfl rfl (R_fieldAddr rfl fa96_0 rfl) ?_
    refine WM_val rfl rfl rfl rfl (R_load rfl sc3 rfl (mmD) rfl) ?_
    refine WM_do rfl rfl rfl rfl (D_call (four_ok cc.id (by omega)) rfl rfl rfl rfl (pqD)) ?_
    rintro _ _ ⟨_, ⟨b4, rfl, rfl⟩, rfl⟩
    refine ⟨⟨_, pqD⟩, ?_⟩
    refine WM_do rfl rfl rfl rfl (D_buildSlice rfl si133 rfl rfl rfl) ?_
    rintro _ _ ⟨b2, rfl, rfl⟩
    refine ⟨⟨_, pqD⟩, ?_⟩
    refine WM_do rfl rfl rfl rfl (D_call (send_ok p ty Z hyO 18 b2 [⟨some ⟨b4, 0, none⟩, 4, bigB cc.id 4⟩] [⟨some b4, cl (bvs (bigB cc.id 4)) 5⟩] (by simp) (by simp) (parts1 (RdB.blk b4 _)) (fun q hq => by rw [List.mem_singleton.1 hq]; simp [bigB_len]) (by simp [joinL, bigB_len]) (by omega)) rfl rfl rfl rfl (pqD)) ?_
    rintro _ _ ⟨_, ⟨ob3, k3, c3, pre3, tl3, rfl, rfl, own3⟩, rfl⟩
    refine ⟨⟨_, pqD⟩, ?_⟩
    rw [show joinL [⟨some ⟨b4, 0, none⟩, 4, bigB cc.id 4⟩] = bigB cc.id 4 from by simp [joinL]] at own3 ⊢
    refine WM_nil ?_
    refine WQ_code ?_
    refine WC_region ?_
    refine WL_val rfl rfl rfl (R_add rfl rfl rfl (by omega)) ?_
    refine WL_val rfl rfl rfl (R_move rfl rfl) ?_
    refine WL_nil ?_
    refine WQ_nextF (⟨y.k + 1, y.out ++ encF 18 (bigB cc.id 4), ob3, k3, c3, pre3, tl3⟩) (⟨by dsimp only; omega, by dsimp only; rw [hyo, cnlF_snoc hc, List.append_assoc], own3⟩) (by dsimp only; omega) leZ (psZ) rfl (pqD)
  · have hkl : y.k = W.length := by omega
    have hyo2 : y.out = out ++ cnlF W := by rw [hyo, hkl, List.take_length]
    refine WC_exit ?_
    refine WQ_ret rfl rfl .nil rfl (by
        rw [← hyo2]
        exact ⟨y.ob, y.ok, y.c, y.pre, y.tl, rfl, rfl, hyO⟩) (pqD)
end Go.Proofs.YtdelhikejgoffaaGreat
end
section
set_option linter.unusedVariables false
set_option maxRecDepth 20000
namespace Go.Proofs.YtdelhikejgoffaaGreat
instance : DecidableRel caLt := fun a b => by unfold caLt; exact inferInstance
def insC (c : Ca) : List Ca → List Ca
  | [] => [c]
  | d :: r => if caLt d c then d :: insC c r else c :: d :: r
def srtC : List Ca → List Ca
  | [] => []
  | c :: r => insC c (srtC r)
theorem insC_perm (c : Ca) : ∀ l, (insC c l).Perm (c :: l)
  | [] => .refl _
  | d :: r => by
    unfold insC
    split
    · exact ((insC_perm c r).cons d).trans (.swap ..)
    · exact .refl _
theorem srtC_perm : ∀ l, (srtC l).Perm l
  | [] => .refl _
  | c :: r => (insC_perm c _).trans ((srtC_perm r).cons c)
theorem caLt_tr {a b c : Ca} (h : caLt a b) (h2 : caLt b c) : caLt a c := by unfold caLt at *; omega
theorem caLt_asym {a b : Ca} (h : caLt a b) : ¬ caLt b a := by unfold caLt at *; omega
theorem caLt_ng {a b c : Ca} (h : ¬ caLt b a) (h2 : ¬ caLt c b) : ¬ caLt c a := by unfold caLt at *; omega
theorem caLt_eq {a b : Ca} (h : ¬ caLt a b) (h2 : ¬ caLt b a) : a = b := by
  obtain ⟨i, d⟩ := a; obtain ⟨j, e⟩ := b
  unfold caLt at *
  simp only at *
  have h1 : i = j := by omega
  have h3 : d = e := by omega
  rw [h1, h3]
theorem insC_pw (c : Ca) : ∀ l : List Ca, l.Pairwise (fun a b => ¬ caLt b a) → (insC c l).Pairwise (fun a b => ¬ caLt b a)
  | [], _ => List.pairwise_singleton ..
  | d :: r, h => by
    obtain ⟨h1, h2⟩ := List.pairwise_cons.1 h
    unfold insC
    split
    · rename_i hd
      refine List.pairwise_cons.2 ⟨fun b hb => ?_, insC_pw c r h2⟩
      rcases List.mem_cons.1 ((insC_perm c r).mem_iff.1 hb) with rfl | hb
      · exact caLt_asym hd
      · exact h1 b hb
    · rename_i hd
      refine List.pairwise_cons.2 ⟨fun b hb => ?_, h⟩
      rcases List.mem_cons.1 hb with rfl | hb
      · exact hd
      · exact caLt_ng hd (h1 b hb)
theorem srtC_pw : ∀ l, (srtC l).Pairwise (fun a b => ¬ caLt b a)
  | [] => .nil
  | c :: r => insC_pw c _ (srtC_pw r)
theorem srt_one : ∀ {a b : List Ca}, a.Perm b → a.Pairwise (fun a b => ¬ caLt b a) → b.Pairwise (fun a b => ¬ caLt b a) → a = b
  | [], b, h, _, _ => (List.Perm.nil_eq h)
  | x :: a, [], h, _, _ => absurd h.length_eq (by simp)
  | x :: a, y :: b, h, h1, h2 => by
    obtain ⟨h1a, h1b⟩ := List.pairwise_cons.1 h1
    obtain ⟨h2a, h2b⟩ := List.pairwise_cons.1 h2
    have e : x = y := by
      have hx : x ∈ y :: b := h.mem_iff.1 (by simp)
      have hy : y ∈ x :: a := h.mem_iff.2 (by simp)
      rcases List.mem_cons.1 hx with g | g
      · exact g
      · rcases List.mem_cons.1 hy with g2 | g2
        · exact g2.symm
        · exact caLt_eq (h2a x g) (h1a y g2)
    subst e
    rw [srt_one (List.Perm.cons_inv h) h1b h2b]
def overC (q : Ca → Bool) (code : Int) (l : List Ca) : List Ca := if code = 12 then srtC (l.filter q) else l.filter q
theorem overC_perm (q : Ca → Bool) (code : Int) (l : List Ca) : (overC q code l).Perm (l.filter q) := by
  unfold overC; split
  · exact srtC_perm _
  · exact .refl _
theorem overC_len (q : Ca → Bool) (code : Int) (l : List Ca) : (overC q code l).length ≤ l.length := by rw [(overC_perm q code l).length_eq]; exact List.length_filter_le ..
theorem overC_mem {q : Ca → Bool} {code : Int} {l : List Ca} {c : Ca} (h : c ∈ overC q code l) : c ∈ l := (List.mem_filter.1 ((overC_perm q code l).mem_iff.1 h)).1
structure PC where
  out : Bs
  bs : Bs
  rb : Int
  last : Nat
  br : Int
  now : Nat
  calls : List Ca
  res : List Res
  closed : Bool
deriving DecidableEq
def Cl.v (x : Cl) : PC := ⟨x.s.out, x.s.bs, x.s.rb, x.s.last, x.s.br, x.now, x.calls, x.res.map Rs.v, x.closed⟩
def isId (id : Int) (c : Ca) : Bool := decide ((c.id : Int) = id)
def PC.endW (x : PC) (q : Ca → Bool) (code : Int) (body : Bs) : PC := { x with calls := x.calls.filter (nq q), res := x.res ++ (overC q code x.calls).map fun c => ⟨(c.id : Int), code, body⟩ }
def PC.call (x : PC) (body : Bs) (dl : Nat) : PC × Int × Int :=
  if dl ≤ x.now then (x, 0, 2) else if x.closed = true ∨ x.br ≠ 0 then (x, 0, 8) else if 1012 < body.length then (x, 0, 5) else if 32 ≤ x.calls.length ∨ 65536 < x.out.length then (x, 0, 7)
  else ({ x with last := x.last + 1, calls := x.calls ++ [⟨x.last + 1, dl⟩], out := x.out ++ encF 16 (bigB (x.last + 1) 4 ++ (bigB dl 8 ++ body)) }, ((x.last + 1 : Nat) : Int), 0)
def PC.cancel (x : PC) (id : Int) : PC × Int :=
  if x.closed = true ∨ x.br ≠ 0 then (x, 8) else if x.calls.any (isId id) = false then (x, 9) else if 65536 < x.out.length then (x, 7)
  else ({ x.endW (isId id) 14 [] with out := x.out ++ cnlF (overC (isId id) 14 x.calls) }, 0)
def passQ (now : Nat) (c : Ca) : Bool := passB c.dl now
def PC.advance (x : PC) (now : Nat) : PC × Int :=
  if now < x.now ∨ now = 18446744073709551615 then (x, 3) else ({ ({ x with now := now } : PC).endW (passQ now) 12 [] with out := x.out ++ cnlF (overC (passQ now) 12 x.calls) }, 0)
def allQ (_ : Ca) : Bool := true
def PC.close (x : PC) : PC × Int := if x.closed = true ∨ x.br ≠ 0 then (x, 8) else (({ x with closed := true } : PC).endW allQ 14 [], 0)
def PC.next (x : PC) : PC × Option Res := match x.res with
  | [] => (x, none)
  | r :: l => ({ x with res := l }, some r)
def PC.take (x : PC) (n : Int) : PC × Bs × Int := if n < 0 ∨ 65536 < n then (x, [], 2) else ({ x with out := x.out.drop n.toNat }, x.out.take n.toNat, 0)
def PC.step (x : PC) (k : UInt8) (body : Bs) : PC × Int :=
  if ¬ (k = 17 ∧ 6 ≤ body.length) then (x, 6) else if ¬ (0 < valB (body.take 4) ∧ valB (body.take 4) ≤ x.last) then (x, 10)
  else (x.endW (isId (valB (body.take 4) : Int)) (valB ((body.drop 4).take 2) : Int) (body.drop 6), 0)
def PC.recv (x : PC) (b : Bs) : PC × Int :=
  if x.closed = true ∨ x.br ≠ 0 then (x, 8) else if 65536 < x.bs.length + b.length then (x, 7)
  else
    let R := rcvN PC.step (x.bs.length + b.length + 1) { x with bs := [] } (x.bs ++ b)
    let y : PC := { R.1 with bs := R.2.1, rb := R.2.2.1, br := R.2.2.2 }
    (if R.2.2.2 = 0 then y else y.endW allQ 14 [], R.2.2.2)
/-- What is kept between the calls (the numbers are small). -/
structure PCB (x : PC) : Prop where
  out : x.out.length ≤ 200000
  bs : x.bs.length ≤ 65536
  last : x.last ≤ 1000000
  calls : x.calls.length ≤ 32
  res : x.calls.length + x.res.length ≤ 100000
  now : x.now ≤ 18446744073709551615
  dl : ∀ c ∈ x.calls, c.dl ≤ 18446744073709551615
  ids : ∀ c ∈ x.calls, c.id ≤ 1000000
  rb : x.br = 0 → x.rb = 0
theorem PCB.cl {x : Cl} (h : PCB x.v) : ClB x := ⟨h.out, h.bs, h.last, h.calls, by have := h.res; simp only [Cl.v, List.length_map] at this; exact this, h.now, h.dl, h.ids, h.rb⟩
def CPost (p : Nat) (P : PC × Value) (r : Value) (H' : Heap) : Prop := ∃ m' x', m'.p = p ∧ ClIs m' x' ∧ x'.v = P.1 ∧ r = P.2 ∧ H' = clH m' x'
end Go.Proofs.YtdelhikejgoffaaGreat
end
section
set_option linter.unusedVariables false
set_option maxRecDepth 20000
set_option maxHeartbeats 1000000
namespace Go.Proofs.YtdelhikejgoffaaGreat
theorem endA_ok (hsort : CSortOk) (p : Nat) (a0 a1 a2 a3 a4 a5 a8 : Value) {calls : List Ca} {res : List Rs} {cb : Option Nat} {ccp : Nat} {ctl : List Value} {eb : Option Nat} {ek ec : Nat} {epre etl : List Value} (hC : Own cb calls.length ccp 2 (calls.flatMap encC) ctl) (hE0 : OwnS eb ek res.length ec 3 epre (res.flatMap encRs) etl) (hbc : calls.length ≤ 32) (hbr : res.length ≤ 100000) (code : Int) {body : Bs} {oa : Option Addr} {ent : Ent} {c0 : Nat} (hr : RdB oa ent body) (hrn : oa = none → c0 = 0) (hbl : body.length ≤ 1000000) (q : Ca → Bool) (pf : Nat) (pca : List Value) (PH : Heap) (hq : ∀ c, Spec Tryz.prog pf ([caV c] ++ pca) PH (fun r H' => r = .bool (q c) ∧ H' = PH)) : Spec Tryz.prog 46 [ptrC p, .int .i64 code, .slice oa body.length c0, .func (.func pf) #[] pca.toArray] ([⟨some p, cl [a0, a1, a2, a3, a4, a5, slV cb calls.length ccp, sVal eb ek res.length ec, a8] 51⟩, ⟨cb, cl (calls.flatMap encC ++ ctl) 96⟩, ⟨eb, cl (epre ++ (res.flatMap encRs ++ etl)) 89⟩] ++ [ent] ++ PH) (fun r H' => ∃ cb' cc' ctl' eb' ek' ec' epre' etl' ns o c1 tl, ∃ W : List Ca, W = overC q code calls ∧ r = slV o W.length c1 ∧ Own o W.length c1 2 (W.flatMap encC) tl ∧ ns.map Rs.v = W.map (fun c => (⟨(c.id : Int), code, body⟩ : Res)) ∧ (∀ r ∈ ns, rsOk r) ∧ Own cb' (calls.filter (nq q)).length cc' 2 ((calls.filter (nq q)).flatMap encC) ctl' ∧ OwnS eb' ek' (res ++ ns).length ec' 3 epre' ((res ++ ns).flatMap encRs) etl' ∧ H' = [⟨some p, cl [a0, a1, a2, a3, a4, a5, slV cb' (calls.filter (nq q)).length cc', sVal eb' ek' (res ++ ns).length ec', a8] 51⟩, ⟨cb', cl ((calls.filter (nq q)).flatMap encC ++ ctl') 96⟩, ⟨eb', cl (epre' ++ ((res ++ ns).flatMap encRs ++ etl')) 89⟩] ++ rsH ns ++ [⟨o, cl (W.flatMap encC ++ tl) 96⟩] ++ [ent] ++ PH) := by
  by_cases hcode : code = 12
  · refine (end_time hsort p a0 a1 a2 a3 a4 a5 a8 hC hE0 hbc hbr code hr hrn hbl q pf pca PH hq hcode).mono ?_
    rintro r H' ⟨x1, x2, x3, x4, x5, x6, x7, x8, ns, o, c1, tl, W, ⟨hp, hs⟩, k⟩
    refine ⟨x1, x2, x3, x4, x5, x6, x7, x8, ns, o, c1, tl, W, ?_, k⟩
    unfold overC
    rw [if_pos hcode]
    exact srt_one (hp.trans (srtC_perm _).symm) hs (srtC_pw _)
  · refine (end_ok p a0 a1 a2 a3 a4 a5 a8 hC hE0 hbc hbr code hr hrn hbl q pf pca PH hq hcode).mono ?_
    rintro r H' ⟨x1, x2, x3, x4, x5, x6, x7, x8, ns, o, c1, tl, W, hp, k⟩
    refine ⟨x1, x2, x3, x4, x5, x6, x7, x8, ns, o, c1, tl, W, ?_, k⟩
    unfold overC
    rw [if_neg hcode]
    exact hp
end Go.Proofs.YtdelhikejgoffaaGreat
end
section
set_option linter.unusedVariables false
set_option maxRecDepth 20000
set_option maxHeartbeats 4000000
namespace Go.Proofs.YtdelhikejgoffaaGreat
theorem bad_of {x : Cl} (h : ¬ (x.closed = true ∨ x.s.br ≠ 0)) : x.closed = false ∧ x.s.br = 0 := by
  simp only [not_or, Bool.not_eq_true, Decidable.not_not] at h; exact h
theorem cancel_state {m : ClM} {x : Cl} (h : ClIs m x) (hb : ClB x) (id : Int) (hst : x.closed = true ∨ x.s.br ≠ 0) : Spec Tryz.prog 20 [ptrC m.p, .int .i64 id] (clH m x) (CPost m.p (x.v, .int .i64 8)) := by
  rcases Bool.eq_false_or_eq_true x.closed with hcl | hcl
  · refine Spec.of (E := [(0, ptrC m.p), (1, .int .i64 id)]) Tryz.func20 rfl (by kernel_rfl) Tryz.ntmps20 rfl rfl (fun w => ?_)
    refine WC_seq ?_
    refine WC_region ?_
    refine WL_do rfl rfl rfl (D_box (cs := [_]) rfl rfl rfl) ?_
    rintro _ _ ⟨b1, rfl, rfl⟩
    refine WL_val rfl rfl rfl (R_assign rfl rfl) ?_
    refine WL_nil ?_
    refine WQ_code ?_
    refine WC_seq ?_
    refine WC_block ?_
    refine WC_seq ?_
    refine WC_region ?_
    refine WL_val rfl rfl rfl (R_move rfl rfl) ?_
    refine WL_val rfl rfl rfl (R_ptrEqNil rfl Tryz.underlying47 rfl) ?_
    refine WL_val rfl rfl rfl (R_assign rfl rfl) ?_
    refine WL_nil ?_
    refine WQ_code ?_
    refine WC_F rfl ?_
    refine WC_seq ?_
    refine WC_region ?_
    refine WL_val rfl rfl rfl (R_move rfl rfl) ?_
    refine WL_val rfl rfl rfl (R_nilCheck rfl rfl) ?_
    refine WL_val rfl rfl rfl (R_fieldAddr rfl fa51_4 rfl) ?_
    refine WL_val rfl rfl rfl (R_load rfl sc4 rfl (mmD) rfl) ?_
    refine WL_set (s := 12) (v := .bool true) rfl (by rw [hcl]) ?_
    refine WL_val rfl rfl rfl (R_move rfl rfl) ?_
    refine WL_skip rfl rfl rfl ?_
    refine WL_skip rfl rfl rfl ?_
    refine WL_skip rfl rfl rfl ?_
    refine WL_skip rfl rfl rfl ?_
    refine WL_skip rfl rfl rfl ?_
    refine WL_skip rfl rfl rfl ?_
    refine WL_val rfl rfl rfl (R_pickT rfl rfl rfl) ?_
    refine WL_val rfl rfl rfl (R_assign rfl rfl) ?_
    refine WL_nil ?_
    refine WQ_code ?_
    refine WC_T rfl ?_
    refine WC_seq ?_
    refine WC_region ?_
    refine WL_val rfl rfl rfl (R_assign rfl rfl) ?_
    refine WL_nil ?_
    refine WQ_code ?_
    refine WC_ret ?_
    refine WQ_ret rfl rfl (.cons (.tmp rfl) .nil) rfl (by
        exact ⟨m, x, rfl, h, rfl, rfl, rfl⟩) (pqD)
  · have hbr2 : x.s.br ≠ 0 := by rcases hst with e | e; rw [hcl] at e; cases e; exact e
    refine Spec.of (E := [(0, ptrC m.p), (1, .int .i64 id)]) Tryz.func20 rfl (by kernel_rfl) Tryz.ntmps20 rfl rfl (fun w => ?_)
    refine WC_seq ?_
    refine WC_region ?_
    refine WL_do rfl rfl rfl (D_box (cs := [_]) rfl rfl rfl) ?_
    rintro _ _ ⟨b1, rfl, rfl⟩
    refine WL_val rfl rfl rfl (R_assign rfl rfl) ?_
    refine WL_nil ?_
    refine WQ_code ?_
    refine WC_seq ?_
    refine WC_block ?_
    refine WC_seq ?_
    refine WC_region ?_
    refine WL_val rfl rfl rfl (R_move rfl rfl) ?_
    refine WL_val rfl rfl rfl (R_ptrEqNil rfl Tryz.underlying47 rfl) ?_
    refine WL_val rfl rfl rfl (R_assign rfl rfl) ?_
    refine WL_nil ?_
    refine WQ_code ?_
    refine WC_F rfl ?_
    refine WC_seq ?_
    refine WC_region ?_
    refine WL_val rfl rfl rfl (R_move rfl rfl) ?_
    refine WL_val rfl rfl rfl (R_nilCheck rfl rfl) ?_
    refine WL_val rfl rfl rfl (R_fieldAddr rfl fa51_4 rfl) ?_
    refine WL_val rfl rfl rfl (R_load rfl sc4 rfl (mmD) rfl) ?_
    refine WL_set (s := 12) (v := .bool false) rfl (by rw [hcl]) ?_
    refine WL_val rfl rfl rfl (R_move rfl rfl) ?_
    refine WL_val rfl rfl rfl (R_move rfl rfl) ?_
    refine WL_val rfl rfl rfl (R_nilCheck rfl rfl) ?_
    refine WL_val rfl rfl rfl (R_fieldAddr rfl fa51_0 rfl) ?_
    refine WL_val rfl rfl rfl (R_fieldAddr rfl fa31_3 rfl) ?_
    refine WL_val rfl rfl rfl (R_load rfl sc27 rfl (mmD) rfl) ?_
    refine WL_val rfl rfl rfl (R_neq rfl rfl rfl) ?_
    refine WL_set (s := 19) (v := .bool true) rfl (by exact congrArg Value.bool (decide_eq_true hbr2)) ?_
    refine WL_val rfl rfl rfl (R_pickF rfl rfl rfl) ?_
    refine WL_val rfl rfl rfl (R_assign rfl rfl) ?_
    refine WL_nil ?_
    refine WQ_code ?_
    refine WC_T rfl ?_
    refine WC_seq ?_
    refine WC_region ?_
    refine WL_val rfl rfl rfl (R_assign rfl rfl) ?_
    refine WL_nil ?_
    refine WQ_code ?_
    refine WC_ret ?_
    refine WQ_ret rfl rfl (.cons (.tmp rfl) .nil) rfl (by
        exact ⟨m, x, rfl, h, rfl, rfl, rfl⟩) (pqD)
theorem cancel_none {m : ClM} {x : Cl} (h : ClIs m x) (hb : ClB x) (id : Int) (hcl : x.closed = false) (hbr2 : x.s.br = 0) (hno : x.calls.any (isId id) = false) : Spec Tryz.prog 20 [ptrC m.p, .int .i64 id] (clH m x) (CPost m.p (x.v, .int .i64 9)) := by
  have hbc := hb.calls
  have hbr : x.res.length ≤ 100000 := by have := hb.res; omega
  have hbo := hb.out
  refine Spec.of (E := [(0, ptrC m.p), (1, .int .i64 id)]) Tryz.func20 rfl (by kernel_rfl) Tryz.ntmps20 rfl rfl (fun w => ?_)
  refine WC_seq ?_
  refine WC_region ?_
  refine WL_do rfl rfl rfl (D_box (cs := [_]) rfl rfl rfl) ?_
  rintro _ _ ⟨b1, rfl, rfl⟩
  refine WL_val rfl rfl rfl (R_assign rfl rfl) ?_
  refine WL_nil ?_
  refine WQ_code ?_
  refine WC_seq ?_
  refine WC_block ?_
  refine WC_seq ?_
  refine WC_region ?_
  refine WL_val rfl rfl rfl (R_move rfl rfl) ?_
  refine WL_val rfl rfl rfl (R_ptrEqNil rfl Tryz.underlying47 rfl) ?_
  refine WL_val rfl rfl rfl (R_assign rfl rfl) ?_
  refine WL_nil ?_
  refine WQ_code ?_
  refine WC_F rfl ?_
  refine WC_seq ?_
  refine WC_region ?_
  refine WL_val rfl rfl rfl (R_move rfl rfl) ?_
  refine WL_val rfl rfl rfl (R_nilCheck rfl rfl) ?_
  refine WL_val rfl rfl rfl (R_fieldAddr rfl fa51_4 rfl) ?_
  refine WL_val rfl rfl rfl (R_load rfl sc4 rfl (mmD) rfl) ?_
  refine WL_set (s := 12) (v := .bool false) rfl (by rw [hcl]) ?_
  refine WL_val rfl rfl rfl (R_move rfl rfl) ?_
  refine WL_val rfl rfl rfl (R_move rfl rfl) ?_
  refine WL_val rfl rfl rfl (R_nilCheck rfl rfl) ?_
  refine WL_val rfl rfl rfl (R_fieldAddr rfl fa51_0 rfl) ?_
  refine WL_val rfl rfl rfl (R_fieldAddr rfl fa31_3 rfl) ?_
  refine WL_val rfl rfl rfl (R_load rfl sc27 rfl (mmD) rfl) ?_
  refine WL_val rfl rfl rfl (R_neq rfl rfl rfl) ?_
  refine WL_set (s := 19) (v := .bool false) rfl (by rw [hbr2]; rfl) ?_
  refine WL_val rfl rfl rfl (R_pickF rfl rfl rfl) ?_
  refine WL_val rfl rfl rfl (R_assign rfl rfl) ?_
  refine WL_nil ?_
  refine WQ_code ?_
  refine WC_F rfl ?_
  refine WC_seq ?_
  refine WC_region ?_
  refine WL_val rfl rfl rfl (R_move rfl rfl) ?_
  refine WL_val rfl rfl rfl (R_nilCheck rfl rfl) ?_
  refine WL_val rfl rfl rfl (R_fieldAddr rfl fa51_2 rfl) ?_
  refine WL_val rfl rfl rfl (R_load rfl sc48 rfl (mmD) rfl) ?_
  refine WL_val rfl rfl rfl (R_makeFunc rfl rfl rfl) ?_
  refine WL_do rfl rfl rfl (D_call (ccont_ok x.calls (by omega) h.cO [⟨some b1, cl [.int .i64 id] 3⟩] (isId id) 50 [ptrC b1] (fun c => cid1_ok c b1 id)) rfl rfl rfl rfl (pqD)) ?_
  rintro _ _ ⟨_, ⟨rfl, rfl⟩, rfl⟩
  refine WL_set (s := 27) (v := .bool false) rfl (by rw [hno]) ?_
  refine WL_val rfl rfl rfl (R_not rfl rfl) ?_
  refine WL_val rfl rfl rfl (R_assign rfl rfl) ?_
  refine WL_nil ?_
  refine WQ_code ?_
  refine WC_T rfl ?_
  refine WC_seq ?_
  refine WC_region ?_
  refine WL_val rfl rfl rfl (R_assign rfl rfl) ?_
  refine WL_nil ?_
  refine WQ_code ?_
  refine WC_ret ?_
  refine WQ_ret rfl rfl (.cons (.tmp rfl) .nil) rfl (by
      exact ⟨m, x, rfl, h, rfl, rfl, rfl⟩) (pqD)
theorem cancel_full {m : ClM} {x : Cl} (h : ClIs m x) (hb : ClB x) (id : Int) (hcl : x.closed = false) (hbr2 : x.s.br = 0) (hyes : x.calls.any (isId id) = true) (hf : 65536 < x.s.out.length) : Spec Tryz.prog 20 [ptrC m.p, .int .i64 id] (clH m x) (CPost m.p (x.v, .int .i64 7)) := by
  have hbc := hb.calls
  have hbr : x.res.length ≤ 100000 := by have := hb.res; omega
  have hbo := hb.out
  refine Spec.of (E := [(0, ptrC m.p), (1, .int .i64 id)]) Tryz.func20 rfl (by kernel_rfl) Tryz.ntmps20 rfl rfl (fun w => ?_)
  refine WC_seq ?_
  refine WC_region ?_
  refine WL_do rfl rfl rfl (D_box (cs := [_]) rfl rfl rfl) ?_
  rintro _ _ ⟨b1, rfl, rfl⟩
  refine WL_val rfl rfl rfl (R_assign rfl rfl) ?_
  refine WL_nil ?_
  refine WQ_code ?_
  refine WC_seq ?_
  refine WC_block ?_
  refine WC_seq ?_
  refine WC_region ?_
  refine WL_val rfl rfl rfl (R_move rfl rfl) ?_
  refine WL_val rfl rfl rfl (R_ptrEqNil rfl Tryz.underlying47 rfl) ?_
  refine WL_val rfl rfl rfl (R_assign rfl rfl) ?_
  refine WL_nil ?_
  refine WQ_code ?_
  refine WC_F rfl ?_
  refine WC_seq ?_
  refine WC_region ?_
  refine WL_val rfl rfl rfl (R_move rfl rfl) ?_
  refine WL_val rfl rfl rfl (R_nilCheck rfl rfl) ?_
  refine WL_val rfl rfl rfl (R_fieldAddr rfl fa51_4 rfl) ?_
  refine WL_val rfl rfl rfl (R_load rfl sc4 rfl (mmD) rfl) ?_
  refine WL_set (s := 12) (v := .bool false) rfl (by rw [hcl]) ?_
  refine WL_val rfl rfl rfl (R_move rfl rfl) ?_
  refine WL_val rfl rfl rfl (R_move rfl rfl) ?_
  refine WL_val rfl rfl rfl (R_nilCheck rfl rfl) ?_
  refine WL_val rfl rfl rfl (R_fieldAddr rfl fa51_0 rfl) ?_
  refine WL_val rfl rfl rfl (R_fieldAddr rfl fa31_3 rfl) ?_
  refine WL_val rfl rfl rfl (R_load rfl sc27 rfl (mmD) rfl) ?_
  refine WL_val rfl rfl rfl (R_neq rfl rfl rfl) ?_
  refine WL_set (s := 19) (v := .bool false) rfl (by rw [hbr2]; rfl) ?_
  refine WL_val rfl rfl rfl (R_pickF rfl rfl rfl) ?_
  refine WL_val rfl rfl rfl (R_assign rfl rfl) ?_
  refine WL_nil ?_
  refine WQ_code ?_
  refine WC_F rfl ?_
  refine WC_seq ?_
  refine WC_region ?_
  refine WL_val rfl rfl rfl (R_move rfl rfl) ?_
  refine WL_val rfl rfl rfl (R_nilCheck rfl rfl) ?_
  refine WL_val rfl rfl rfl (R_fieldAddr rfl fa51_2 rfl) ?_
  refine WL_val rfl rfl rfl (R_load rfl sc48 rfl (mmD) rfl) ?_
  refine WL_val rfl rfl rfl (R_makeFunc rfl rfl rfl) ?_
  refine WL_do rfl rfl rfl (D_call (ccont_ok x.calls (by omega) h.cO [⟨some b1, cl [.int .i64 id] 3⟩] (isId id) 50 [ptrC b1] (fun c => cid1_ok c b1 id)) rfl rfl rfl rfl (pqD)) ?_
  rintro _ _ ⟨_, ⟨rfl, rfl⟩, rfl⟩
  refine WL_set (s := 27) (v := .bool true) rfl (by rw [hyes]) ?_
  refine WL_val rfl rfl rfl (R_not rfl rfl) ?_
  refine WL_val rfl rfl rfl (R_assign rfl rfl) ?_
  refine WL_nil ?_
  refine WQ_code ?_
  refine WC_F rfl ?_
  refine WC_seq ?_
  refine WC_region ?_
  refine WL_val rfl rfl rfl (R_move rfl rfl) ?_
  refine WL_val rfl rfl rfl (R_nilCheck rfl rfl) ?_
  refine WL_val rfl rfl rfl (R_fieldAddr rfl fa51_0 rfl) ?_
  refine WL_val rfl rfl rfl (R_fieldAddr rfl fa31_0 rfl) ?_
  refine WL_val rfl rfl rfl (R_load rfl sc26 rfl (mmD) rfl) ?_
  refine WL_val rfl rfl rfl (R_len rfl Tryz.underlying26 rfl) ?_
  refine WL_val rfl rfl rfl (R_gtr rfl rfl rfl) ?_
  refine WL_val rfl rfl rfl (R_assign rfl rfl) ?_
  refine WL_nil ?_
  refine WQ_code ?_
  refine WC_dT rfl (by omega) ?_
  refine WC_seq ?_
  refine WC_region ?_
  refine WL_val rfl rfl rfl (R_assign rfl rfl) ?_
  refine WL_nil ?_
  refine WQ_code ?_
  refine WC_ret ?_
  refine WQ_ret rfl rfl (.cons (.tmp rfl) .nil) rfl (by
      exact ⟨m, x, rfl, h, rfl, rfl, rfl⟩) (pqD)
theorem cancel_do {m : ClM} {x : Cl} (h : ClIs m x) (hb : ClB x) (hsort : CSortOk) (id : Int) (hcl : x.closed = false) (hbr2 : x.s.br = 0) (hyes : x.calls.any (isId id) = true) (hf : ¬ 65536 < x.s.out.length) : Spec Tryz.prog 20 [ptrC m.p, .int .i64 id] (clH m x) (CPost m.p ({ x.v.endW (isId id) 14 [] with out := x.v.out ++ cnlF (overC (isId id) 14 x.v.calls) }, .int .i64 0)) := by
  have hbc := hb.calls
  have hbr : x.res.length ≤ 100000 := by have := hb.res; omega
  have hbo := hb.out
  refine Spec.of (E := [(0, ptrC m.p), (1, .int .i64 id)]) Tryz.func20 rfl (by kernel_rfl) Tryz.ntmps20 rfl rfl (fun w => ?_)
  refine WC_seq ?_
  refine WC_region ?_
  refine WL_do rfl rfl rfl (D_box (cs := [_]) rfl rfl rfl) ?_
  rintro _ _ ⟨b1, rfl, rfl⟩
  refine WL_val rfl rfl rfl (R_assign rfl rfl) ?_
  refine WL_nil ?_
  refine WQ_code ?_
  refine WC_seq ?_
  refine WC_block ?_
  refine WC_seq ?_
  refine WC_region ?_
  refine WL_val rfl rfl rfl (R_move rfl rfl) ?_
  refine WL_val rfl rfl rfl (R_ptrEqNil rfl Tryz.underlying47 rfl) ?_
  refine WL_val rfl rfl rfl (R_assign rfl rfl) ?_
  refine WL_nil ?_
  refine WQ_code ?_
  refine WC_F rfl ?_
  refine WC_seq ?_
  refine WC_region ?_
  refine WL_val rfl rfl rfl (R_move rfl rfl) ?_
  refine WL_val rfl rfl rfl (R_nilCheck rfl rfl) ?_
  refine WL_val rfl rfl rfl (R_fieldAddr rfl fa51_4 rfl) ?_
  refine WL_val rfl rfl rfl (R_load rfl sc4 rfl (mmD) rfl) ?_
  refine WL_set (s := 12) (v := .bool false) rfl (by rw [hcl]) ?_
  refine WL_val rfl rfl rfl (R_move rfl rfl) ?_
  refine WL_val rfl rfl rfl (R_move rfl rfl) ?_
  refine WL_val rfl rfl rfl (R_nilCheck rfl rfl) ?_
  refine WL_val rfl rfl rfl (R_fieldAddr rfl fa51_0 rfl) ?_
  refine WL_val rfl rfl rfl (R_fieldAddr rfl fa31_3 rfl) ?_
  refine WL_val rfl rfl rfl (R_load rfl sc27 rfl (mmD) rfl) ?_
  refine WL_val rfl rfl rfl (R_neq rfl rfl rfl) ?_
  refine WL_set (s := 19) (v := .bool false) rfl (by rw [hbr2]; rfl) ?_
  refine WL_val rfl rfl rfl (R_pickF rfl rfl rfl) ?_
  refine WL_val rfl rfl rfl (R_assign rfl rfl) ?_
  refine WL_nil ?_
  refine WQ_code ?_
  refine WC_F rfl ?_
  refine WC_seq ?_
  refine WC_region ?_
  refine WL_val rfl rfl rfl (R_move rfl rfl) ?_
  refine WL_val rfl rfl rfl (R_nilCheck rfl rfl) ?_
  refine WL_val rfl rfl rfl (R_fieldAddr rfl fa51_2 rfl) ?_
  refine WL_val rfl rfl rfl (R_load rfl sc48 rfl (mmD) rfl) ?_
  refine WL_val rfl rfl rfl (R_makeFunc rfl rfl rfl) ?_
  refine WL_do rfl rfl rfl (D_call (ccont_ok x.calls (by omega) h.cO [⟨some b1, cl [.int .i64 id] 3⟩] (isId id) 50 [ptrC b1] (fun c => cid1_ok c b1 id)) rfl rfl rfl rfl (pqD)) ?_
  rintro _ _ ⟨_, ⟨rfl, rfl⟩, rfl⟩
  refine WL_set (s := 27) (v := .bool true) rfl (by rw [hyes]) ?_
  refine WL_val rfl rfl rfl (R_not rfl rfl) ?_
  refine WL_val rfl rfl rfl (R_assign rfl rfl) ?_
  refine WL_nil ?_
  refine WQ_code ?_
  refine WC_F rfl ?_
  refine WC_seq ?_
  refine WC_region ?_
  refine WL_val rfl rfl rfl (R_move rfl rfl) ?_
  refine WL_val rfl rfl rfl (R_nilCheck rfl rfl) ?_
  refine WL_val rfl rfl rfl (R_fieldAddr rfl fa51_0 rfl) ?_
  refine WL_val rfl rfl rfl (R_fieldAddr rfl fa31_0 rfl) ?_
  refine WL_val rfl rfl rfl (R_load rfl sc26 rfl (mmD) rfl) ?_
  refine WL_val rfl rfl rfl (R_len rfl Tryz.underlying26 rfl) ?_
  refine WL_val rfl rfl rfl (R_gtr rfl rfl rfl) ?_
  refine WL_val rfl rfl rfl (R_assign rfl rfl) ?_
  refine WL_nil ?_
  refine WQ_code ?_
  refine WC_dF rfl (by omega) ?_
  refine WC_skip ?_
  refine WQ_code ?_
  refine WC_seq ?_
  refine WC_region ?_
  refine WL_none 5 ?_
  refine WL_val rfl rfl rfl (R_move rfl rfl) ?_
  refine WL_val rfl rfl rfl (R_move rfl rfl) ?_
  refine WL_val rfl rfl rfl (R_makeFunc rfl rfl rfl) ?_
  refine WL_do rfl rfl rfl (D_call (endA_ok hsort m.p _ _ _ _ _ _ _ h.cO h.eO hbc hbr 14 (RdB.nil none ⟨none, cl [] 5⟩) (fun _ => rfl) (by simp) (isId id) 51 [ptrC b1] [⟨some b1, cl [.int .i64 id] 3⟩] (fun c => cid2_ok c b1 id)) rfl rfl rfl rfl (pqD)) ?_
  rintro _ _ ⟨_, ⟨cb9, cc9, ctl9, eb9, ek9, ec9, epre9, etl9, ns, wo, wc, wtl, W, hW, rfl, hWo, hns, hrs, hC9, hE9, rfl⟩, rfl⟩
  have hWl : W.length ≤ 32 := by rw [hW]; exact Nat.le_trans (overC_len ..) hbc
  have hWid : ∀ c ∈ W, c.id ≤ 1000000 := fun c hc => by rw [hW] at hc; exact hb.ids c (overC_mem hc)
  refine WL_do rfl rfl rfl (D_call (cnl_ok m.p 51 _ h.sd.oO W hWl hWid hWo (by omega)) rfl rfl rfl rfl (pqD)) ?_
  rintro _ _ ⟨_, ⟨ob3, k3, c3, pre3, tl3, rfl, rfl, own3⟩, rfl⟩
  refine WL_nil ?_
  refine WQ_code ?_
  refine WC_seq ?_
  refine WC_region ?_
  refine WL_val rfl rfl rfl (R_assign rfl rfl) ?_
  refine WL_nil ?_
  refine WQ_code ?_
  refine WC_ret ?_
  refine WQshp (A := rsH x.res ++ rsH ns) (A' := rsH (x.res ++ ns)) pqD (by rw [rsH_app]) ?_
  refine WQ_ret rfl rfl (.cons (.tmp rfl) .nil) rfl (by
      exact ⟨{ m with sd := { m.sd with ob := ob3, ok := k3, oc := c3, op := pre3, ot := tl3 }, cb := cb9, cc := cc9, ctl := ctl9, eb := eb9, ek := ek9, ec := ec9, epre := epre9, etl := etl9 }, { x with s := { x.s with out := x.s.out ++ cnlF W }, calls := x.calls.filter (nq (isId id)), res := x.res ++ ns }, rfl, ⟨⟨own3, h.sd.iO⟩, hC9, hE9, rs_both h.rO hrs⟩, by simp only [Cl.v, PC.endW, List.map_append, hns, hW], rfl, rfl⟩) (pqD)
theorem cancel_ok (hsort : CSortOk) {m : ClM} {x : Cl} (h : ClIs m x) (hb : ClB x) (id : Int) : Spec Tryz.prog 20 [ptrC m.p, .int .i64 id] (clH m x) (CPost m.p ((x.v.cancel id).1, .int .i64 (x.v.cancel id).2)) := by
  unfold PC.cancel
  by_cases h1 : x.closed = true ∨ x.s.br ≠ 0
  · rw [if_pos (show x.v.closed = true ∨ x.v.br ≠ 0 from h1)]; exact cancel_state h hb id h1
  rw [if_neg (show ¬ (x.v.closed = true ∨ x.v.br ≠ 0) from h1)]
  obtain ⟨hcl, hbr2⟩ := bad_of h1
  by_cases h2 : x.calls.any (isId id) = false
  · rw [if_pos (show x.v.calls.any (isId id) = false from h2)]; exact cancel_none h hb id hcl hbr2 h2
  rw [if_neg (show ¬ x.v.calls.any (isId id) = false from h2)]
  have h3 : x.calls.any (isId id) = true := by simpa using h2
  by_cases h4 : 65536 < x.s.out.length
  · rw [if_pos (show 65536 < x.v.out.length from h4)]; exact cancel_full h hb id hcl hbr2 h3 h4
  rw [if_neg (show ¬ 65536 < x.v.out.length from h4)]; exact cancel_do h hb hsort id hcl hbr2 h3 h4
end Go.Proofs.YtdelhikejgoffaaGreat
end
section
set_option linter.unusedVariables false
set_option maxRecDepth 20000
set_option maxHeartbeats 4000000
namespace Go.Proofs.YtdelhikejgoffaaGreat
theorem adv_bad {m : ClM} {x : Cl} (h : ClIs m x) (hb : ClB x) (now : Nat) (hst : now < x.now ∨ now = 18446744073709551615) : Spec Tryz.prog 19 [ptrC m.p, .int .u64 (now : Int)] (clH m x) (CPost m.p (x.v, .int .i64 3)) := by
  refine Spec.of (E := [(0, ptrC m.p), (1, .int .u64 (now : Int))]) Tryz.func19 rfl (by kernel_rfl) Tryz.ntmps19 rfl rfl (fun w => ?_)
  refine WC_seq ?_
  refine WC_region ?_
  refine WL_do rfl rfl rfl (D_box (cs := [_]) rfl rfl rfl) ?_
  rintro _ _ ⟨b1, rfl, rfl⟩
  refine WL_val rfl rfl rfl (R_assign rfl rfl) ?_
  refine WL_nil ?_
  refine WQ_code ?_
  refine WC_seq ?_
  refine WC_block ?_
  refine WC_seq ?_
  refine WC_region ?_
  refine WL_val rfl rfl rfl (R_move rfl rfl) ?_
  refine WL_val rfl rfl rfl (R_ptrEqNil rfl Tryz.underlying47 rfl) ?_
  refine WL_val rfl rfl rfl (R_assign rfl rfl) ?_
  refine WL_nil ?_
  refine WQ_code ?_
  refine WC_F rfl ?_
  refine WC_seq ?_
  refine WC_draw _ [(0, true), (1, true), (2, true), (3, true), (4, true), (5, true), (6, true), (7, true), (8, true), (9, true), (10, true)] followsMixed rfl rfl (by kernel_rfl) .all ?_
  refine WM_val rfl rfl rfl rfl (R_load rfl sc41 rfl (mmD) rfl) ?_
  refine WM_val rfl rfl rfl rfl (R_move rfl rfl) ?_
  refine WM_val rfl rfl rfl rfl (R_nilCheck rfl rfl) ?_
  refine WM_val rfl rfl rfl rfl (R_fieldAddr rfl fa51_1 rfl) ?_
  refine WM_val rfl rfl rfl rfl (R_load rfl sc41 rfl (mmD) rfl) ?_
  refine WM_val rfl rfl rfl rfl (R_lss rfl rfl rfl) ?_
  refine WM_val rfl rfl rfl rfl (R_move rfl rfl) ?_
  refine WM_splitD (s := 15) rfl (fun c1 => ?_) (fun c1 => ?_)
  · have hc := c1
    refine WM_skip rfl rfl rfl rfl ?_
    refine WM_skip rfl rfl rfl rfl ?_
    refine WM_val rfl rfl rfl rfl (R_pickT rfl rfl rfl) ?_
    refine WM_val rfl rfl rfl rfl (R_assign rfl rfl) ?_
    refine WM_nil ?_
    refine WQ_code ?_
    refine WC_T rfl ?_
    refine WC_seq ?_
    refine WC_region ?_
    refine WL_val rfl rfl rfl (R_assign rfl rfl) ?_
    refine WL_nil ?_
    refine WQ_code ?_
    refine WC_ret ?_
    refine WQ_ret rfl rfl (.cons (.tmp rfl) .nil) rfl (by
        exact ⟨m, x, rfl, h, rfl, rfl, rfl⟩) (pqD)
  · have hc := c1
    refine WM_val rfl rfl rfl rfl (R_load rfl sc41 rfl (mmD) rfl) ?_
    refine WM_val rfl rfl rfl rfl (R_eql rfl rfl rfl) ?_
    refine WM_val rfl rfl rfl rfl (R_pickF rfl rfl rfl) ?_
    refine WM_val rfl rfl rfl rfl (R_assign rfl rfl) ?_
    refine WM_nil ?_
    refine WQ_code ?_
    refine WC_dT rfl (by omega) ?_
    refine WC_seq ?_
    refine WC_region ?_
    refine WL_val rfl rfl rfl (R_assign rfl rfl) ?_
    refine WL_nil ?_
    refine WQ_code ?_
    refine WC_ret ?_
    refine WQ_ret rfl rfl (.cons (.tmp rfl) .nil) rfl (by
        exact ⟨m, x, rfl, h, rfl, rfl, rfl⟩) (pqD)
theorem adv_do {m : ClM} {x : Cl} (h : ClIs m x) (hb : ClB x) (hsort : CSortOk) (now : Nat) (hst : ¬ (now < x.now ∨ now = 18446744073709551615)) : Spec Tryz.prog 19 [ptrC m.p, .int .u64 (now : Int)] (clH m x) (CPost m.p ({ ({ x.v with now := now } : PC).endW (passQ now) 12 [] with out := x.v.out ++ cnlF (overC (passQ now) 12 x.v.calls) }, .int .i64 0)) := by
  have hbc := hb.calls
  have hbr : x.res.length ≤ 100000 := by have := hb.res; omega
  have hbo := hb.out
  refine Spec.of (E := [(0, ptrC m.p), (1, .int .u64 (now : Int))]) Tryz.func19 rfl (by kernel_rfl) Tryz.ntmps19 rfl rfl (fun w => ?_)
  refine WC_seq ?_
  refine WC_region ?_
  refine WL_do rfl rfl rfl (D_box (cs := [_]) rfl rfl rfl) ?_
  rintro _ _ ⟨b1, rfl, rfl⟩
  refine WL_val rfl rfl rfl (R_assign rfl rfl) ?_
  refine WL_nil ?_
  refine WQ_code ?_
  refine WC_seq ?_
  refine WC_block ?_
  refine WC_seq ?_
  refine WC_region ?_
  refine WL_val rfl rfl rfl (R_move rfl rfl) ?_
  refine WL_val rfl rfl rfl (R_ptrEqNil rfl Tryz.underlying47 rfl) ?_
  refine WL_val rfl rfl rfl (R_assign rfl rfl) ?_
  refine WL_nil ?_
  refine WQ_code ?_
  refine WC_F rfl ?_
  refine WC_seq ?_
  refine WC_draw _ [(0, true), (1, true), (2, true), (3, true), (4, true), (5, true), (6, true), (7, true), (8, true), (9, true), (10, true)] followsMixed rfl rfl (by kernel_rfl) .all ?_
  refine WM_val rfl rfl rfl rfl (R_load rfl sc41 rfl (mmD) rfl) ?_
  refine WM_val rfl rfl rfl rfl (R_move rfl rfl) ?_
  refine WM_val rfl rfl rfl rfl (R_nilCheck rfl rfl) ?_
  refine WM_val rfl rfl rfl rfl (R_fieldAddr rfl fa51_1 rfl) ?_
  refine WM_val rfl rfl rfl rfl (R_load rfl sc41 rfl (mmD) rfl) ?_
  refine WM_val rfl rfl rfl rfl (R_lss rfl rfl rfl) ?_
  refine WM_val rfl rfl rfl rfl (R_move rfl rfl) ?_
  refine WM_set (s := 15) (v := .bool false) rfl (by exact congrArg Value.bool (decide_eq_false (by omega))) ?_
  refine WM_val rfl rfl rfl rfl (R_load rfl sc41 rfl (mmD) rfl) ?_
  refine WM_val rfl rfl rfl rfl (R_eql rfl rfl rfl) ?_
  refine WM_val rfl rfl rfl rfl (R_pickF rfl rfl rfl) ?_
  refine WM_val rfl rfl rfl rfl (R_assign rfl rfl) ?_
  refine WM_nil ?_
  refine WQ_code ?_
  refine WC_dF rfl (by omega) ?_
  refine WC_skip ?_
  refine WQ_code ?_
  refine WC_seq ?_
  refine WC_region ?_
  refine WL_val rfl rfl rfl (R_move rfl rfl) ?_
  refine WL_val rfl rfl rfl (R_load rfl sc41 rfl (mmD) rfl) ?_
  refine WL_val rfl rfl rfl (R_nilCheck rfl rfl) ?_
  refine WL_val rfl rfl rfl (R_fieldAddr rfl fa51_1 rfl) ?_
  refine WL_do0 rfl rfl (D_store (vs := [_]) rfl Tryz.sizeOf41 rfl rfl rfl rfl rfl (plD) (by exact Nat.le_of_ble_eq_true rfl)) ?_
  rintro _ _ rfl
  refine WL_nil ?_
  refine WQ_code ?_
  refine WC_seq ?_
  refine WC_region ?_
  refine WL_none 5 ?_
  refine WL_val rfl rfl rfl (R_move rfl rfl) ?_
  refine WL_val rfl rfl rfl (R_move rfl rfl) ?_
  refine WL_val rfl rfl rfl (R_makeFunc rfl rfl rfl) ?_
  refine WL_do rfl rfl rfl (D_call (endA_ok hsort m.p _ _ _ _ _ _ _ h.cO h.eO hbc hbr 12 (RdB.nil none ⟨none, cl [] 5⟩) (fun _ => rfl) (by simp) (passQ now) 47 [ptrC b1] [⟨some b1, cl [.int .u64 (now : Int)] 41⟩] (fun c => cpass_ok c b1 now)) rfl rfl rfl rfl (pqD)) ?_
  rintro _ _ ⟨_, ⟨cb9, cc9, ctl9, eb9, ek9, ec9, epre9, etl9, ns, wo, wc, wtl, W, hW, rfl, hWo, hns, hrs, hC9, hE9, rfl⟩, rfl⟩
  have hWl : W.length ≤ 32 := by rw [hW]; exact Nat.le_trans (overC_len ..) hbc
  have hWid : ∀ c ∈ W, c.id ≤ 1000000 := fun c hc => by rw [hW] at hc; exact hb.ids c (overC_mem hc)
  refine WL_do rfl rfl rfl (D_call (cnl_ok m.p 51 _ h.sd.oO W hWl hWid hWo (by omega)) rfl rfl rfl rfl (pqD)) ?_
  rintro _ _ ⟨_, ⟨ob3, k3, c3, pre3, tl3, rfl, rfl, own3⟩, rfl⟩
  refine WL_nil ?_
  refine WQ_code ?_
  refine WC_seq ?_
  refine WC_region ?_
  refine WL_val rfl rfl rfl (R_assign rfl rfl) ?_
  refine WL_nil ?_
  refine WQ_code ?_
  refine WC_ret ?_
  refine WQshp (A := rsH x.res ++ rsH ns) (A' := rsH (x.res ++ ns)) pqD (by rw [rsH_app]) ?_
  refine WQ_ret rfl rfl (.cons (.tmp rfl) .nil) rfl (by
      exact ⟨{ m with sd := { m.sd with ob := ob3, ok := k3, oc := c3, op := pre3, ot := tl3 }, cb := cb9, cc := cc9, ctl := ctl9, eb := eb9, ek := ek9, ec := ec9, epre := epre9, etl := etl9 }, { x with s := { x.s with out := x.s.out ++ cnlF W }, now := now, calls := x.calls.filter (nq (passQ now)), res := x.res ++ ns }, rfl, ⟨⟨own3, h.sd.iO⟩, hC9, hE9, rs_both h.rO hrs⟩, by simp only [Cl.v, PC.endW, List.map_append, hns, hW], rfl, rfl⟩) (pqD)
theorem advance_ok (hsort : CSortOk) {m : ClM} {x : Cl} (h : ClIs m x) (hb : ClB x) (now : Nat) : Spec Tryz.prog 19 [ptrC m.p, .int .u64 (now : Int)] (clH m x) (CPost m.p ((x.v.advance now).1, .int .i64 (x.v.advance now).2)) := by
  unfold PC.advance
  by_cases h1 : now < x.now ∨ now = 18446744073709551615
  · rw [if_pos (show now < x.v.now ∨ now = 18446744073709551615 from h1)]; exact adv_bad h hb now h1
  rw [if_neg (show ¬ (now < x.v.now ∨ now = 18446744073709551615) from h1)]; exact adv_do h hb hsort now h1
theorem close_state {m : ClM} {x : Cl} (h : ClIs m x) (hb : ClB x) (hst : x.closed = true ∨ x.s.br ≠ 0) : Spec Tryz.prog 35 [ptrC m.p] (clH m x) (CPost m.p (x.v, .int .i64 8)) := by
  rcases Bool.eq_false_or_eq_true x.closed with hcl | hcl
  · refine Spec.of (E := [(0, ptrC m.p)]) Tryz.func35 rfl (by kernel_rfl) Tryz.ntmps35 rfl rfl (fun w => ?_)
    refine WC_seq ?_
    refine WC_region ?_
    refine WL_val rfl rfl rfl (R_assign rfl rfl) ?_
    refine WL_nil ?_
    refine WQ_code ?_
    refine WC_seq ?_
    refine WC_block ?_
    refine WC_seq ?_
    refine WC_region ?_
    refine WL_val rfl rfl rfl (R_move rfl rfl) ?_
    refine WL_val rfl rfl rfl (R_ptrEqNil rfl Tryz.underlying47 rfl) ?_
    refine WL_val rfl rfl rfl (R_assign rfl rfl) ?_
    refine WL_nil ?_
    refine WQ_code ?_
    refine WC_F rfl ?_
    refine WC_seq ?_
    refine WC_region ?_
    refine WL_val rfl rfl rfl (R_move rfl rfl) ?_
    refine WL_val rfl rfl rfl (R_nilCheck rfl rfl) ?_
    refine WL_val rfl rfl rfl (R_fieldAddr rfl fa51_4 rfl) ?_
    refine WL_val rfl rfl rfl (R_load rfl sc4 rfl (mmD) rfl) ?_
    refine WL_set (s := 10) (v := .bool true) rfl (by rw [hcl]) ?_
    refine WL_val rfl rfl rfl (R_move rfl rfl) ?_
    refine WL_skip rfl rfl rfl ?_
    refine WL_skip rfl rfl rfl ?_
    refine WL_skip rfl rfl rfl ?_
    refine WL_skip rfl rfl rfl ?_
    refine WL_skip rfl rfl rfl ?_
    refine WL_skip rfl rfl rfl ?_
    refine WL_val rfl rfl rfl (R_pickT rfl rfl rfl) ?_
    refine WL_val rfl rfl rfl (R_assign rfl rfl) ?_
    refine WL_nil ?_
    refine WQ_code ?_
    refine WC_T rfl ?_
    refine WC_seq ?_
    refine WC_region ?_
    refine WL_val rfl rfl rfl (R_assign rfl rfl) ?_
    refine WL_nil ?_
    refine WQ_code ?_
    refine WC_ret ?_
    refine WQ_ret rfl rfl (.cons (.tmp rfl) .nil) rfl (by
        exact ⟨m, x, rfl, h, rfl, rfl, rfl⟩) (pqD)
  · have hbr2 : x.s.br ≠ 0 := by rcases hst with e | e; rw [hcl] at e; cases e; exact e
    refine Spec.of (E := [(0, ptrC m.p)]) Tryz.func35 rfl (by kernel_rfl) Tryz.ntmps35 rfl rfl (fun w => ?_)
    refine WC_seq ?_
    refine WC_region ?_
    refine WL_val rfl rfl rfl (R_assign rfl rfl) ?_
    refine WL_nil ?_
    refine WQ_code ?_
    refine WC_seq ?_
    refine WC_block ?_
    refine WC_seq ?_
    refine WC_region ?_
    refine WL_val rfl rfl rfl (R_move rfl rfl) ?_
    refine WL_val rfl rfl rfl (R_ptrEqNil rfl Tryz.underlying47 rfl) ?_
    refine WL_val rfl rfl rfl (R_assign rfl rfl) ?_
    refine WL_nil ?_
    refine WQ_code ?_
    refine WC_F rfl ?_
    refine WC_seq ?_
    refine WC_region ?_
    refine WL_val rfl rfl rfl (R_move rfl rfl) ?_
    refine WL_val rfl rfl rfl (R_nilCheck rfl rfl) ?_
    refine WL_val rfl rfl rfl (R_fieldAddr rfl fa51_4 rfl) ?_
    refine WL_val rfl rfl rfl (R_load rfl sc4 rfl (mmD) rfl) ?_
    refine WL_set (s := 10) (v := .bool false) rfl (by rw [hcl]) ?_
    refine WL_val rfl rfl rfl (R_move rfl rfl) ?_
    refine WL_val rfl rfl rfl (R_move rfl rfl) ?_
    refine WL_val rfl rfl rfl (R_nilCheck rfl rfl) ?_
    refine WL_val rfl rfl rfl (R_fieldAddr rfl fa51_0 rfl) ?_
    refine WL_val rfl rfl rfl (R_fieldAddr rfl fa31_3 rfl) ?_
    refine WL_val rfl rfl rfl (R_load rfl sc27 rfl (mmD) rfl) ?_
    refine WL_val rfl rfl rfl (R_neq rfl rfl rfl) ?_
    refine WL_set (s := 17) (v := .bool true) rfl (by exact congrArg Value.bool (decide_eq_true hbr2)) ?_
    refine WL_val rfl rfl rfl (R_pickF rfl rfl rfl) ?_
    refine WL_val rfl rfl rfl (R_assign rfl rfl) ?_
    refine WL_nil ?_
    refine WQ_code ?_
    refine WC_T rfl ?_
    refine WC_seq ?_
    refine WC_region ?_
    refine WL_val rfl rfl rfl (R_assign rfl rfl) ?_
    refine WL_nil ?_
    refine WQ_code ?_
    refine WC_ret ?_
    refine WQ_ret rfl rfl (.cons (.tmp rfl) .nil) rfl (by
        exact ⟨m, x, rfl, h, rfl, rfl, rfl⟩) (pqD)
theorem close_do {m : ClM} {x : Cl} (h : ClIs m x) (hb : ClB x) (hsort : CSortOk) (hcl : x.closed = false) (hbr2 : x.s.br = 0) : Spec Tryz.prog 35 [ptrC m.p] (clH m x) (CPost m.p (({ x.v with closed := true } : PC).endW allQ 14 [], .int .i64 0)) := by
  have hbc := hb.calls
  have hbr : x.res.length ≤ 100000 := by have := hb.res; omega
  have hbo := hb.out
  refine Spec.of (E := [(0, ptrC m.p)]) Tryz.func35 rfl (by kernel_rfl) Tryz.ntmps35 rfl rfl (fun w => ?_)
  refine WC_seq ?_
  refine WC_region ?_
  refine WL_val rfl rfl rfl (R_assign rfl rfl) ?_
  refine WL_nil ?_
  refine WQ_code ?_
  refine WC_seq ?_
  refine WC_block ?_
  refine WC_seq ?_
  refine WC_region ?_
  refine WL_val rfl rfl rfl (R_move rfl rfl) ?_
  refine WL_val rfl rfl rfl (R_ptrEqNil rfl Tryz.underlying47 rfl) ?_
  refine WL_val rfl rfl rfl (R_assign rfl rfl) ?_
  refine WL_nil ?_
  refine WQ_code ?_
  refine WC_F rfl ?_
  refine WC_seq ?_
  refine WC_region ?_
  refine WL_val rfl rfl rfl (R_move rfl rfl) ?_
  refine WL_val rfl rfl rfl (R_nilCheck rfl rfl) ?_
  refine WL_val rfl rfl rfl (R_fieldAddr rfl fa51_4 rfl) ?_
  refine WL_val rfl rfl rfl (R_load rfl sc4 rfl (mmD) rfl) ?_
  refine WL_set (s := 10) (v := .bool false) rfl (by rw [hcl]) ?_
  refine WL_val rfl rfl rfl (R_move rfl rfl) ?_
  refine WL_val rfl rfl rfl (R_move rfl rfl) ?_
  refine WL_val rfl rfl rfl (R_nilCheck rfl rfl) ?_
  refine WL_val rfl rfl rfl (R_fieldAddr rfl fa51_0 rfl) ?_
  refine WL_val rfl rfl rfl (R_fieldAddr rfl fa31_3 rfl) ?_
  refine WL_val rfl rfl rfl (R_load rfl sc27 rfl (mmD) rfl) ?_
  refine WL_val rfl rfl rfl (R_neq rfl rfl rfl) ?_
  refine WL_set (s := 17) (v := .bool false) rfl (by rw [hbr2]; rfl) ?_
  refine WL_val rfl rfl rfl (R_pickF rfl rfl rfl) ?_
  refine WL_val rfl rfl rfl (R_assign rfl rfl) ?_
  refine WL_nil ?_
  refine WQ_code ?_
  refine WC_F rfl ?_
  refine WC_skip ?_
  refine WQ_code ?_
  refine WC_seq ?_
  refine WC_region ?_
  refine WL_val rfl rfl rfl (R_move rfl rfl) ?_
  refine WL_val rfl rfl rfl (R_nilCheck rfl rfl) ?_
  refine WL_val rfl rfl rfl (R_fieldAddr rfl fa51_4 rfl) ?_
  refine WL_do0 rfl rfl (D_store (vs := [_]) rfl Tryz.sizeOf4 rfl rfl rfl rfl rfl (plD) (by exact Nat.le_of_ble_eq_true rfl)) ?_
  rintro _ _ rfl
  refine WL_nil ?_
  refine WQ_code ?_
  refine WC_seq ?_
  refine WC_region ?_
  refine WL_none 5 ?_
  refine WL_val rfl rfl rfl (R_move rfl rfl) ?_
  refine WL_do rfl rfl rfl (D_call (endA_ok hsort m.p _ _ _ _ _ _ _ h.cO h.eO hbc hbr 14 (RdB.nil none ⟨none, cl [] 5⟩) (fun _ => rfl) (by simp) allQ 73 [] [] (fun c => call1_ok c)) rfl rfl rfl rfl (pqD)) ?_
  rintro _ _ ⟨_, ⟨cb9, cc9, ctl9, eb9, ek9, ec9, epre9, etl9, ns, wo, wc, wtl, W, hW, rfl, hWo, hns, hrs, hC9, hE9, rfl⟩, rfl⟩
  refine WL_nil ?_
  refine WQ_code ?_
  refine WC_seq ?_
  refine WC_region ?_
  refine WL_val rfl rfl rfl (R_assign rfl rfl) ?_
  refine WL_nil ?_
  refine WQ_code ?_
  refine WC_ret ?_
  refine WQshp (A := rsH x.res ++ rsH ns) (A' := rsH (x.res ++ ns)) pqD (by rw [rsH_app]) ?_
  refine WQ_ret rfl rfl (.cons (.tmp rfl) .nil) rfl (by
      exact ⟨{ m with cb := cb9, cc := cc9, ctl := ctl9, eb := eb9, ek := ek9, ec := ec9, epre := epre9, etl := etl9 }, { x with closed := true, calls := x.calls.filter (nq allQ), res := x.res ++ ns }, rfl, ⟨h.sd, hC9, hE9, rs_both h.rO hrs⟩, by simp only [Cl.v, PC.endW, List.map_append, hns, hW], rfl, rfl⟩) (pqD)
theorem close_ok (hsort : CSortOk) {m : ClM} {x : Cl} (h : ClIs m x) (hb : ClB x) : Spec Tryz.prog 35 [ptrC m.p] (clH m x) (CPost m.p (x.v.close.1, .int .i64 x.v.close.2)) := by
  unfold PC.close
  by_cases h1 : x.closed = true ∨ x.s.br ≠ 0
  · rw [if_pos (show x.v.closed = true ∨ x.v.br ≠ 0 from h1)]; exact close_state h hb h1
  rw [if_neg (show ¬ (x.v.closed = true ∨ x.v.br ≠ 0) from h1)]
  obtain ⟨hcl, hbr2⟩ := bad_of h1
  exact close_do h hb hsort hcl hbr2
end Go.Proofs.YtdelhikejgoffaaGreat
end
section
set_option linter.unusedVariables false
set_option maxRecDepth 20000
set_option maxHeartbeats 4000000
namespace Go.Proofs.YtdelhikejgoffaaGreat
theorem fr_app {P : Program} {f : FuncId} {args : List Value} {H : Heap} {post : Value → Heap → Prop} (h : Spec P f args H post) (F : Heap) : Spec P f args (H ++ F) (fun v H' => ∃ H1, post v H1 ∧ H' = H1 ++ F) :=
  ⟨h.enters, fun w hw => (h.calls w hw.left).mono fun e w' ⟨v, H', e1, p, r⟩ => ⟨v, H' ++ F, e1, ⟨H', p, rfl⟩, HW.frame (HW.start hw) (.refl _) r⟩⟩
/-- A nil block more. -/
theorem fr_none {P : Program} {f : FuncId} {args : List Value} {H : Heap} {post post' : Value → Heap → Prop} (e : TypeId) (h : Spec P f args H post) (k : ∀ v H', post v H' → ∃ H2, (⟨none, cl [] e⟩ :: H' : Heap).Perm H2 ∧ post' v H2) : Spec P f args H post' :=
  ⟨h.enters, fun w hw => (h.calls w hw).mono fun e1 w' ⟨v, H', e2, q, r⟩ => by
    obtain ⟨H2, hp, hq⟩ := k v H' q
    exact ⟨v, H2, e2, hq, (r.addNone e).perm hp⟩⟩
theorem take_arg (p ty : Nat) (Z : List Value) (n : Int) (hn : n < 0 ∨ 65536 < n) : Spec Tryz.prog 60 [.pointer (some ⟨p, 0, none⟩), .int .i64 n] [⟨some p, cl Z ty⟩] (fun r H' => r = .tuple #[.slice none 0 0, .int .i64 2] ∧ H' = [⟨some p, cl Z ty⟩]) := by
  refine Spec.of (E := [(0, .pointer (some ⟨p, 0, none⟩)), (1, .int .i64 n)]) Tryz.func60 rfl (by kernel_rfl) Tryz.ntmps60 rfl rfl (fun w => ?_)
  refine WC_seq ?_
  refine WC_region ?_
  refine WL_val rfl rfl rfl (R_assign rfl rfl) ?_
  refine WL_val rfl rfl rfl (R_assign rfl rfl) ?_
  refine WL_nil ?_
  refine WQ_code ?_
  refine WC_seq ?_
  refine WC_seq ?_
  refine WC_region ?_
  refine WL_val rfl rfl rfl (R_move rfl rfl) ?_
  refine WL_val rfl rfl rfl (R_lss rfl rfl rfl) ?_
  refine WL_val rfl rfl rfl (R_move rfl rfl) ?_
  refine WL_splitD (s := 10) rfl (fun c1 => ?_) (fun c1 => ?_)
  · have hc := c1
    refine WL_skip rfl rfl rfl ?_
    refine WL_skip rfl rfl rfl ?_
    refine WL_val rfl rfl rfl (R_pickT rfl rfl rfl) ?_
    refine WL_nil ?_
    refine WQ_code ?_
    refine WC_T rfl ?_
    refine WC_seq ?_
    refine WC_region ?_
    refine WL_val rfl rfl rfl (R_assign rfl rfl) ?_
    refine WL_val rfl rfl rfl (R_assign rfl rfl) ?_
    refine WL_nil ?_
    refine WQ_code ?_
    refine WC_ret ?_
    refine WQ_ret rfl rfl (.cons (.tmp rfl) (.cons (.tmp rfl) .nil)) rfl (by
        exact ⟨rfl, rfl⟩) (pqD)
  · have hc := c1
    refine WL_val rfl rfl rfl (R_move rfl rfl) ?_
    refine WL_val rfl rfl rfl (R_gtr rfl rfl rfl) ?_
    refine WL_val rfl rfl rfl (R_pickF rfl rfl rfl) ?_
    refine WL_nil ?_
    refine WQ_code ?_
    refine WC_dT rfl (by omega) ?_
    refine WC_seq ?_
    refine WC_region ?_
    refine WL_val rfl rfl rfl (R_assign rfl rfl) ?_
    refine WL_val rfl rfl rfl (R_assign rfl rfl) ?_
    refine WL_nil ?_
    refine WQ_code ?_
    refine WC_ret ?_
    refine WQ_ret rfl rfl (.cons (.tmp rfl) (.cons (.tmp rfl) .nil)) rfl (by
        exact ⟨rfl, rfl⟩) (pqD)
theorem take_any (p ty : Nat) (Z : List Value) {out : Bs} {ob : Option Nat} {k c : Nat} {pre tl : List Value} (hO : OwnS ob k out.length c 1 pre (bvs out) tl) (n : Nat) (hn : n ≤ 65536) (hout : out.length ≤ 1000000) : Spec Tryz.prog 60 [.pointer (some ⟨p, 0, none⟩), .int .i64 (n : Int)] [⟨some p, cl (sVal ob k out.length c :: Z) ty⟩, ⟨ob, cl (pre ++ (bvs out ++ tl)) 5⟩]
    (fun r H' => ∃ o c2 tl2 k' c' pre', r = .tuple #[slV o (out.take n).length c2, .int .i64 0] ∧ H' = [⟨some p, cl (sVal ob k' (out.drop n).length c' :: Z) ty⟩, ⟨ob, cl (pre' ++ (bvs (out.drop n) ++ tl)) 5⟩, ⟨o, cl (bvs (out.take n) ++ tl2) 5⟩] ∧ OwnS ob k' (out.drop n).length c' 1 pre' (bvs (out.drop n)) tl ∧ Own o (out.take n).length c2 1 (bvs (out.take n)) tl2) := by
  cases ob with
  | some b => exact take_some p ty Z hO n hn hout
  | none =>
    obtain ⟨hc, hpre⟩ := hO.nil rfl
    have hl := hO.le
    have h0 : out = [] := List.eq_nil_of_length_eq_zero (by omega)
    subst h0; subst hc; subst hpre
    have htl : tl = [] := List.eq_nil_of_length_eq_zero (by have := hO.cap; simpa using this)
    subst htl
    refine fr_none 5 (fr_app (take_none p ty Z n hn) [⟨none, cl [] 5⟩]) ?_
    rintro r H' ⟨H1, ⟨e1, e2⟩, e3⟩
    refine ⟨[⟨some p, cl (.slice none 0 0 :: Z) ty⟩, ⟨none, cl [] 5⟩, ⟨none, cl [] 5⟩], by rw [e3, e2]; exact .swap .., none, 0, [], 0, 0, [], by rw [e1, List.take_nil]; rfl, by rw [List.take_nil, List.drop_nil]; rfl, by simpa using OwnS.empty 1, by simpa using Own.empty 1⟩
theorem out_arg {m : ClM} {x : Cl} (h : ClIs m x) (hb : ClB x) (n : Int) (hn : n < 0 ∨ 65536 < n) : Spec Tryz.prog 37 [ptrC m.p, .int .i64 n] (clH m x) (CPost m.p (x.v, .tuple #[.slice none 0 0, .int .i64 2])) := by
  refine Spec.of (E := [(0, ptrC m.p), (1, .int .i64 n)]) Tryz.func37 rfl (by kernel_rfl) Tryz.ntmps37 rfl rfl (fun w => ?_)
  refine WC_seq ?_
  refine WC_region ?_
  refine WL_val rfl rfl rfl (R_assign rfl rfl) ?_
  refine WL_val rfl rfl rfl (R_assign rfl rfl) ?_
  refine WL_nil ?_
  refine WQ_code ?_
  refine WC_seq ?_
  refine WC_seq ?_
  refine WC_region ?_
  refine WL_val rfl rfl rfl (R_move rfl rfl) ?_
  refine WL_val rfl rfl rfl (R_ptrEqNil rfl Tryz.underlying47 rfl) ?_
  refine WL_nil ?_
  refine WQ_code ?_
  refine WC_F rfl ?_
  refine WC_skip ?_
  refine WQ_code ?_
  refine WC_seq ?_
  refine WC_region ?_
  refine WL_val rfl rfl rfl (R_move rfl rfl) ?_
  refine WL_val rfl rfl rfl (R_nilCheck rfl rfl) ?_
  refine WL_val rfl rfl rfl (R_fieldAddr rfl fa51_0 rfl) ?_
  refine WL_val rfl rfl rfl (R_move rfl rfl) ?_
  refine WL_do rfl rfl rfl (D_call (take_arg m.p 51 _ n hn) rfl rfl rfl rfl (pqD)) ?_
  rintro _ _ ⟨_, ⟨rfl, rfl⟩, rfl⟩
  refine WL_val rfl rfl rfl (R_extract rfl rfl rfl) ?_
  refine WL_val rfl rfl rfl (R_extract rfl rfl rfl) ?_
  refine WL_val rfl rfl rfl (R_assign rfl rfl) ?_
  refine WL_val rfl rfl rfl (R_assign rfl rfl) ?_
  refine WL_nil ?_
  refine WQ_code ?_
  refine WC_ret ?_
  refine WQ_ret rfl rfl (.cons (.tmp rfl) (.cons (.tmp rfl) .nil)) rfl (by
      exact ⟨m, x, rfl, h, rfl, rfl, rfl⟩) (pqD)
theorem out_do {m : ClM} {x : Cl} (h : ClIs m x) (hb : ClB x) (n : Nat) (hn : n ≤ 65536) : Spec Tryz.prog 37 [ptrC m.p, .int .i64 (n : Int)] (clH m x) (fun r H' => ∃ o c2 tl2 m' x', m'.p = m.p ∧ ClIs m' x' ∧ x'.v = { x.v with out := x.v.out.drop n } ∧ r = .tuple #[slV o (x.v.out.take n).length c2, .int .i64 0] ∧ Own o (x.v.out.take n).length c2 1 (bvs (x.v.out.take n)) tl2 ∧ H' = clH m' x' ++ [⟨o, cl (bvs (x.v.out.take n) ++ tl2) 5⟩]) := by
  have hbo := hb.out
  refine Spec.of (E := [(0, ptrC m.p), (1, .int .i64 (n : Int))]) Tryz.func37 rfl (by kernel_rfl) Tryz.ntmps37 rfl rfl (fun w => ?_)
  refine WC_seq ?_
  refine WC_region ?_
  refine WL_val rfl rfl rfl (R_assign rfl rfl) ?_
  refine WL_val rfl rfl rfl (R_assign rfl rfl) ?_
  refine WL_nil ?_
  refine WQ_code ?_
  refine WC_seq ?_
  refine WC_seq ?_
  refine WC_region ?_
  refine WL_val rfl rfl rfl (R_move rfl rfl) ?_
  refine WL_val rfl rfl rfl (R_ptrEqNil rfl Tryz.underlying47 rfl) ?_
  refine WL_nil ?_
  refine WQ_code ?_
  refine WC_F rfl ?_
  refine WC_skip ?_
  refine WQ_code ?_
  refine WC_seq ?_
  refine WC_region ?_
  refine WL_val rfl rfl rfl (R_move rfl rfl) ?_
  refine WL_val rfl rfl rfl (R_nilCheck rfl rfl) ?_
  refine WL_val rfl rfl rfl (R_fieldAddr rfl fa51_0 rfl) ?_
  refine WL_val rfl rfl rfl (R_move rfl rfl) ?_
  refine WL_do rfl rfl rfl (D_call (take_any m.p 51 _ h.sd.oO n hn (by omega)) rfl rfl rfl rfl (pqD)) ?_
  rintro _ _ ⟨_, ⟨o9, c9, tl9, k9, c8, pre9, rfl, rfl, hO9, own9⟩, rfl⟩
  refine WL_val rfl rfl rfl (R_extract rfl rfl rfl) ?_
  refine WL_val rfl rfl rfl (R_extract rfl rfl rfl) ?_
  refine WL_val rfl rfl rfl (R_assign rfl rfl) ?_
  refine WL_val rfl rfl rfl (R_assign rfl rfl) ?_
  refine WL_nil ?_
  refine WQ_code ?_
  refine WC_ret ?_
  refine WQ_ret rfl rfl (.cons (.tmp rfl) (.cons (.tmp rfl) .nil)) rfl (by
      exact ⟨o9, c9, tl9, { m with sd := { m.sd with ok := k9, oc := c8, op := pre9 } }, { x with s := { x.s with out := x.s.out.drop n } }, rfl, ⟨⟨hO9, h.sd.iO⟩, h.cO, h.eO, h.rO⟩, rfl, rfl, own9, rfl⟩) (pqD)
theorem next_empty {m : ClM} {x : Cl} (h : ClIs m x) (hb : ClB x) (he : x.res = []) : Spec Tryz.prog 36 [ptrC m.p] (clH m x) (CPost m.p (x.v, .tuple #[.agg #[.int .i64 0, .int .i64 0, .slice none 0 0], .bool false])) := by
  refine Spec.of (E := [(0, ptrC m.p)]) Tryz.func36 rfl (by kernel_rfl) Tryz.ntmps36 rfl rfl (fun w => ?_)
  refine WC_seq ?_
  refine WC_region ?_
  refine WL_do rfl rfl rfl (D_alloc rfl zv89) ?_
  rintro _ _ ⟨b1, rfl, rfl⟩
  refine WL_val rfl rfl rfl (R_assign rfl rfl) ?_
  refine WL_nil ?_
  refine WQ_code ?_
  refine WC_seq ?_
  refine WC_seq ?_
  refine WC_region ?_
  refine WL_val rfl rfl rfl (R_move rfl rfl) ?_
  refine WL_val rfl rfl rfl (R_ptrEqNil rfl Tryz.underlying47 rfl) ?_
  refine WL_val rfl rfl rfl (R_move rfl rfl) ?_
  refine WL_val rfl rfl rfl (R_move rfl rfl) ?_
  refine WL_val rfl rfl rfl (R_nilCheck rfl rfl) ?_
  refine WL_val rfl rfl rfl (R_fieldAddr rfl fa51_3 rfl) ?_
  refine WL_val rfl rfl rfl (R_load rfl sc49 rfl (mmD) rfl) ?_
  refine WL_val rfl rfl rfl (R_len rfl Tryz.underlying49 rfl) ?_
  refine WL_val rfl rfl rfl (R_eql rfl rfl rfl) ?_
  refine WL_set (s := 12) (v := .bool true) rfl (by rw [he]; rfl) ?_
  refine WL_val rfl rfl rfl (R_pickF rfl rfl rfl) ?_
  refine WL_nil ?_
  refine WQ_code ?_
  refine WC_T rfl ?_
  refine WC_seq ?_
  refine WC_region ?_
  refine WL_val rfl rfl rfl (R_build rfl zv89 pl89 rfl rfl) ?_
  refine WL_do0 rfl rfl (D_store (vs := [_, _, _]) rfl Tryz.sizeOf89 rfl rfl rfl rfl rfl (plD) (by exact Nat.le_of_ble_eq_true rfl)) ?_
  rintro _ _ rfl
  refine WL_val rfl rfl rfl (R_assign rfl rfl) ?_
  refine WL_nil ?_
  refine WQ_code ?_
  refine WC_ret ?_
  refine WQ_ret rfl rfl (.cons (.cell (vs := [_, _, _]) rfl ag89 (mmD) rfl (atZ)) (.cons (.tmp rfl) .nil)) rfl (by
      exact ⟨m, x, rfl, h, rfl, rfl, rfl⟩) (pqD)
theorem OwnS.atR {ob : Option Nat} {k n c : Nat} {pre tl : List Value} {T : List Rs} (h : OwnS ob k n c 3 pre (T.flatMap encRs) tl) {i : Nat} {x : Rs} (hx : T[i]? = some x) (hi : i < n) : At (pre ++ (T.flatMap encRs ++ tl)) (k + i * 3) (encRs x) := fun j v hj => by
  rw [h.get encRs3 hx hi (by have := (List.getElem?_eq_some_iff.1 hj).1; simpa using this)]; exact hj
theorem next_take {m : ClM} {x : Cl} (h : ClIs m x) (hb : ClB x) (r0 : Rs) (rest : List Rs) (he : x.res = r0 :: rest) : Spec Tryz.prog 36 [ptrC m.p] (clH m x) (fun r H' => ∃ m' x', m'.p = m.p ∧ ClIs m' x' ∧ x'.v = { x.v with res := rest.map Rs.v } ∧ r = .tuple #[.agg #[.int .i64 r0.id, .int .i64 r0.code, slV r0.o r0.body.length r0.c], .bool true] ∧ H' = clH m' x' ++ [rsE r0]) := by
  have heO := h.eO
  rw [he] at heO
  obtain ⟨wb, hwb⟩ := heO.some_of (Nat.succ_pos _)
  have hlen : x.res.length = rest.length + 1 := by rw [he]; rfl
  refine Spec.of (E := [(0, ptrC m.p)]) Tryz.func36 rfl (by kernel_rfl) Tryz.ntmps36 rfl rfl (fun w => ?_)
  refine WC_seq ?_
  refine WC_region ?_
  refine WL_do rfl rfl rfl (D_alloc rfl zv89) ?_
  rintro _ _ ⟨b1, rfl, rfl⟩
  refine WL_val rfl rfl rfl (R_assign rfl rfl) ?_
  refine WL_nil ?_
  refine WQ_code ?_
  refine WC_seq ?_
  refine WC_seq ?_
  refine WC_region ?_
  refine WL_val rfl rfl rfl (R_move rfl rfl) ?_
  refine WL_val rfl rfl rfl (R_ptrEqNil rfl Tryz.underlying47 rfl) ?_
  refine WL_val rfl rfl rfl (R_move rfl rfl) ?_
  refine WL_val rfl rfl rfl (R_move rfl rfl) ?_
  refine WL_val rfl rfl rfl (R_nilCheck rfl rfl) ?_
  refine WL_val rfl rfl rfl (R_fieldAddr rfl fa51_3 rfl) ?_
  refine WL_val rfl rfl rfl (R_load rfl sc49 rfl (mmD) rfl) ?_
  refine WL_val rfl rfl rfl (R_len rfl Tryz.underlying49 rfl) ?_
  refine WL_val rfl rfl rfl (R_eql rfl rfl rfl) ?_
  refine WL_set (s := 12) (v := .bool false) rfl (by rw [he]; rfl) ?_
  refine WL_val rfl rfl rfl (R_pickF rfl rfl rfl) ?_
  refine WL_nil ?_
  refine WQ_code ?_
  refine WC_F rfl ?_
  refine WC_skip ?_
  refine WQ_code ?_
  refine WC_seq ?_
  refine WC_drawY [⟨some b1, _⟩, ⟨some m.p, _⟩] [(m.p, 7, sVal m.eb m.ek x.res.length m.ec)] [15] [(0, false), (1, false), (2, false), (3, false), (4, true), (5, false), (6, false), (7, false), (8, false), (9, false), (10, true)] [(11, true), (12, false), (13, true), (14, true), (15, false)] followsMixed rfl rfl (by kernel_rfl) (pqD) (.cons (mmD) rfl .nil) ?_
  refine WYE_val rfl rfl rfl rfl (R_move rfl rfl) ?_
  refine WYE_val rfl rfl rfl rfl (R_move rfl rfl) ?_
  refine WYE_val rfl rfl rfl rfl (R_nilCheck rfl rfl) ?_
  refine WYE_val rfl rfl rfl rfl (R_fieldAddr rfl fa51_3 rfl) ?_
  refine WYE_early rfl rfl rfl rfl rfl sc49 rfl (by repeat (first | exact List.Mem.head _ | refine List.Mem.tail _ ?_)) ?_
  refine WYE_val rfl rfl rfl rfl (R_indexS (i := 0) hwb rfl Tryz.underlying49 Tryz.sizeOf89 rfl rfl (by omega)) ?_
  refine WYE_val rfl rfl rfl rfl (R_loadAO (vs := [.int .i64 r0.id, .int .i64 r0.code, slV r0.o r0.body.length r0.c]) hwb rfl ag89 rfl (mmD) rfl (h.eO.atR (i := 0) (x := r0) (by rw [he]; rfl) (by omega))) ?_
  refine WYE_val rfl rfl rfl rfl (R_move rfl rfl) ?_
  refine WYE_val rfl rfl rfl rfl (R_nilCheck rfl rfl) ?_
  refine WYE_val rfl rfl rfl rfl (R_fieldAddr rfl fa51_3 rfl) ?_
  refine WYE_early rfl rfl rfl rfl rfl sc49 rfl (by repeat (first | exact List.Mem.head _ | refine List.Mem.tail _ ?_)) ?_
  refine WYE_rest ?_
  refine WY_val rfl rfl rfl rfl (R_cut1 (m := rest.length) hwb rfl Tryz.underlying49 Tryz.sizeOf89 rfl rfl hlen) ?_
  refine WY_do0 rfl rfl rfl (D_store (vs := [_, _, _]) rfl Tryz.sizeOf89 rfl rfl rfl rfl rfl (plD) (by exact Nat.le_of_ble_eq_true rfl)) ?_
  rintro _ _ rfl
  refine ⟨⟨_, pqD⟩, .inr (.cons (mmD) rfl .nil), ?_⟩
  refine WY_val rfl rfl rfl rfl (R_nilCheck rfl rfl) ?_
  refine WY_val rfl rfl rfl rfl (R_fieldAddr rfl fa51_3 rfl) ?_
  refine WY_do0 rfl rfl rfl (D_store (vs := [_]) rfl Tryz.sizeOf49 rfl rfl rfl rfl rfl (plD) (by exact Nat.le_of_ble_eq_true rfl)) ?_
  rintro _ _ rfl
  refine ⟨⟨_, pqD⟩, .inl rfl, ?_⟩
  refine WY_nil ?_
  refine WQ_code ?_
  refine WC_seq ?_
  refine WC_region ?_
  refine WL_val rfl rfl rfl (R_loadA (vs := [_, _, _]) rfl ag89 rfl (mmD) rfl (atZ)) ?_
  refine WL_do0 rfl rfl (D_store (vs := [_, _, _]) rfl Tryz.sizeOf89 rfl rfl rfl rfl rfl (plD) (by exact Nat.le_of_ble_eq_true rfl)) ?_
  rintro _ _ rfl
  refine WL_val rfl rfl rfl (R_assign rfl rfl) ?_
  refine WL_nil ?_
  refine WQ_code ?_
  refine WC_ret ?_
  rw [show reE m x = (⟨m.eb, cl ((m.epre ++ encRs r0) ++ (rest.flatMap encRs ++ m.etl)) 89⟩ : Ent) from by unfold reE; rw [he]; simp, show rsH x.res = rsE r0 :: rsH rest from by rw [he]; rfl]
  refine WQ_ret rfl rfl (.cons (.cell (vs := [_, _, _]) rfl ag89 (mmD) rfl (atZ)) (.cons (.tmp rfl) .nil)) rfl (by
      exact ⟨{ m with ek := if m.ec = 1 then m.ek else m.ek + 3, ec := m.ec - 1, epre := m.epre ++ encRs r0 }, { x with res := rest }, rfl, ⟨h.sd, h.cO, heO.cut (ys := encRs r0) (zs := rest.flatMap encRs) (m := rest.length) rfl rfl rfl, fun r hr => h.rO r (by rw [he]; exact List.mem_cons_of_mem _ hr)⟩, rfl, rfl, rfl⟩) (pqD)
structure OpW where
  k : Nat
  o : Option Nat
  c : Nat
  tl : List Value
  l : List Int
theorem open_ok {m : ClM} {x : Cl} (h : ClIs m x) (hb : ClB x)  : Spec Tryz.prog 11 [ptrC m.p] (clH m x) (fun r H' => ∃ o c tl, r = slV o (x.calls.map fun c => (c.id : Int)).length c ∧ Own o (x.calls.map fun c => (c.id : Int)).length c 1 (ivs (x.calls.map fun c => (c.id : Int))) tl ∧ H' = clH m x ++ [⟨o, cl (ivs (x.calls.map fun c => (c.id : Int)) ++ tl) 3⟩]) := by
  have hbc := hb.calls
  refine Spec.of (E := [(0, ptrC m.p)]) Tryz.func11 rfl (by kernel_rfl) Tryz.ntmps11 rfl rfl (fun w => ?_)
  refine WC_seq ?_
  refine WC_region ?_
  refine WL_val rfl rfl rfl (R_assign rfl rfl) ?_
  refine WL_nil ?_
  refine WQ_code ?_
  refine WC_seq ?_
  refine WC_seq ?_
  refine WC_region ?_
  refine WL_val rfl rfl rfl (R_move rfl rfl) ?_
  refine WL_val rfl rfl rfl (R_ptrEqNil rfl Tryz.underlying47 rfl) ?_
  refine WL_nil ?_
  refine WQ_code ?_
  refine WC_F rfl ?_
  refine WC_skip ?_
  refine WQ_code ?_
  refine WC_seq ?_
  refine WC_region ?_
  refine WL_val rfl rfl rfl (R_assign rfl rfl) ?_
  refine WL_nil ?_
  refine WQ_code ?_
  refine WC_seq ?_
  refine WC_seq ?_
  refine WC_region ?_
  refine WL_val rfl rfl rfl (R_move rfl rfl) ?_
  refine WL_val rfl rfl rfl (R_nilCheck rfl rfl) ?_
  refine WL_val rfl rfl rfl (R_fieldAddr rfl fa51_2 rfl) ?_
  refine WL_val rfl rfl rfl (R_load rfl sc48 rfl (mmD) rfl) ?_
  refine WL_val rfl rfl rfl (R_len rfl Tryz.underlying48 rfl) ?_
  refine WL_val rfl rfl rfl (R_move rfl rfl) ?_
  refine WL_nil ?_
  refine WQ_code ?_
  refine WC_block ?_
  refine WC_none 3 ?_
  refine WC_loopF (G := OpW) [3, 5, 13, 14, 15, 16, 17, 18, 19, 20, 21, 22] (fun y => y.k ≤ x.calls.length ∧ y.l = (x.calls.take y.k).map (fun c => (c.id : Int)) ∧ Own y.o y.l.length y.c 1 (ivs y.l) y.tl) (fun y => [(13, .int .i64 (y.k : Int)), (3, slV y.o y.l.length y.c)]) (fun y => [⟨y.o, cl (ivs y.l ++ y.tl) 3⟩]) (fun y => x.calls.length - y.k) (⟨0, none, 0, [], []⟩) (⟨Nat.zero_le _, rfl, Own.empty 1⟩) leZ (pqD) ?_
  rintro y ⟨hk, hl, ho⟩
  refine WC_seq ?_
  refine WC_region ?_
  refine WL_val rfl rfl rfl (R_lss rfl rfl rfl) ?_
  refine WL_nil ?_
  refine WQ_code ?_
  refine WC_seq ?_
  refine WC_dec rfl (fun c1 => ?_) (fun c1 => ?_)
  · refine WC_skip ?_
    refine WQ_code ?_
    refine WC_seq ?_
    refine WC_block ?_
    refine WC_seq ?_
    refine WC_region ?_
    obtain ⟨cc, hc⟩ := getE (T := x.calls) (i := y.k) (by omega)
    obtain ⟨wa, hwa⟩ := h.cO.some_of (by omega)
    have hyl : y.l.length = y.k := by rw [hl]; simp; omega
    refine WL_val rfl rfl rfl (R_idxO hwa rfl Tryz.underlying48 Tryz.sizeOf96 rfl rfl (by omega)) ?_
    refine WL_val rfl rfl rfl (R_loadAO (vs := encC cc) hwa rfl ag96 rfl (mmD) rfl (fm_at0 encC2 hc (j := 0) (vs := encC cc) (fun j v h => by rw [Nat.zero_add]; exact h) (Nat.le_refl _))) ?_
    refine WL_do rfl rfl rfl (D_alloc rfl zv96) ?_
    rintro _ _ ⟨b1, rfl, rfl⟩
    refine WL_do0 rfl rfl (D_store (vs := [_, _]) rfl Tryz.sizeOf96 rfl rfl rfl rfl rfl (plD) (by exact Nat.le_of_ble_eq_true rfl)) ?_
    rintro _ _ rfl
    refine WL_nil ?_
    refine WQ_code ?_
    refine WC_region ?_
    refine WL_val rfl rfl rfl (R_move rfl rfl) ?_
    refine WL_val rfl rfl rfl (R_fieldAddr rfl fa96_0 rfl) ?_
    refine WL_val rfl rfl rfl (R_load rfl sc3 rfl (mmD) rfl) ?_
    refine WL_do rfl rfl rfl (D_buildSlice rfl si32 rfl rfl rfl) ?_
    rintro _ _ ⟨b2, rfl, rfl⟩
    refine WL_do rfl rfl rfl (D_append rfl si32 rfl ho plD rfl mmD (atZ : At _ 0 [_]) rfl rfl (by omega) (by omega)) ?_
    rintro _ _ ⟨ob9, c9, tl9, rfl, own9, rfl⟩
    rw [show ivs y.l ++ [Value.int .i64 (cc.id : Int)] = ivs (y.l ++ [(cc.id : Int)]) from by simp, show y.l.length + 1 = (y.l ++ [(cc.id : Int)]).length from by simp] at own9
    rw [show ivs y.l ++ [Value.int .i64 (cc.id : Int)] = ivs (y.l ++ [(cc.id : Int)]) from by simp]
    refine WL_set (s := 21) (v := slV ob9 (y.l ++ [(cc.id : Int)]).length c9) rfl (by rw [List.length_append]; rfl) ?_
    refine WL_val rfl rfl rfl (R_assign rfl rfl) ?_
    refine WL_nil ?_
    refine WQ_code ?_
    refine WC_region ?_
    refine WL_val rfl rfl rfl (R_add rfl rfl rfl (by omega)) ?_
    refine WL_val rfl rfl rfl (R_move rfl rfl) ?_
    refine WL_nil ?_
    refine WQ_nextF (⟨y.k + 1, ob9, c9, tl9, y.l ++ [(cc.id : Int)]⟩) (⟨by dsimp only; omega, by dsimp only; rw [take_next hc, List.map_append, hl]; rfl, own9⟩) (by dsimp only; omega) leZ (psZ) rfl (pqD)
  · have hyk : y.k = x.calls.length := by omega
    rw [hyk, List.take_length] at hl
    rw [← hl]
    refine WC_exit ?_
    refine WQ_code ?_
    refine WC_seq ?_
    refine WC_region ?_
    refine WL_val rfl rfl rfl (R_move rfl rfl) ?_
    refine WL_val rfl rfl rfl (R_assign rfl rfl) ?_
    refine WL_nil ?_
    refine WQ_code ?_
    refine WC_ret ?_
    refine WQ_ret rfl rfl (.cons (.tmp rfl) .nil) rfl (by
        exact ⟨y.o, y.c, y.tl, rfl, ho, rfl⟩) (pqD)
end Go.Proofs.YtdelhikejgoffaaGreat
end
section
set_option linter.unusedVariables false
set_option maxRecDepth 20000
set_option maxHeartbeats 4000000
namespace Go.Proofs.YtdelhikejgoffaaGreat
def CPostE (p : Nat) (P : PC × Int × Int) (ent : Ent) (r : Value) (H' : Heap) : Prop := ∃ m' x', m'.p = p ∧ ClIs m' x' ∧ x'.v = P.1 ∧ r = .tuple #[.int .i64 P.2.1, .int .i64 P.2.2] ∧ H' = clH m' x' ++ [ent]
theorem call_arg {m : ClM} {x : Cl} (h : ClIs m x) (hb : ClB x) {body : Bs} {oa : Option Addr} {ent : Ent} {c : Nat} (hr : RdB oa ent body) (dl : Nat) (hdl : dl ≤ 18446744073709551615) (hd : dl ≤ x.now) : Spec Tryz.prog 39 [ptrC m.p, .slice oa body.length c, .int .u64 (dl : Int)] (clH m x ++ [ent]) (CPostE m.p (x.v, 0, 2) ent) := by
  refine Spec.of (E := [(0, ptrC m.p), (1, .slice oa body.length c), (2, .int .u64 (dl : Int))]) Tryz.func39 rfl (by kernel_rfl) Tryz.ntmps39 rfl rfl (fun w => ?_)
  refine WC_seq ?_
  refine WC_region ?_
  refine WL_val rfl rfl rfl (R_assign rfl rfl) ?_
  refine WL_val rfl rfl rfl (R_assign rfl rfl) ?_
  refine WL_nil ?_
  refine WQ_code ?_
  refine WC_seq ?_
  refine WC_block ?_
  refine WC_seq ?_
  refine WC_region ?_
  refine WL_val rfl rfl rfl (R_move rfl rfl) ?_
  refine WL_val rfl rfl rfl (R_ptrEqNil rfl Tryz.underlying47 rfl) ?_
  refine WL_val rfl rfl rfl (R_assign rfl rfl) ?_
  refine WL_nil ?_
  refine WQ_code ?_
  refine WC_F rfl ?_
  refine WC_seq ?_
  refine WC_region ?_
  refine WL_val rfl rfl rfl (R_move rfl rfl) ?_
  refine WL_val rfl rfl rfl (R_move rfl rfl) ?_
  refine WL_val rfl rfl rfl (R_nilCheck rfl rfl) ?_
  refine WL_val rfl rfl rfl (R_fieldAddr rfl fa51_1 rfl) ?_
  refine WL_val rfl rfl rfl (R_load rfl sc41 rfl (mmD) rfl) ?_
  refine WL_val rfl rfl rfl (R_leq rfl rfl rfl) ?_
  refine WL_val rfl rfl rfl (R_assign rfl rfl) ?_
  refine WL_nil ?_
  refine WQ_code ?_
  refine WC_dT rfl (by omega) ?_
  refine WC_seq ?_
  refine WC_region ?_
  refine WL_val rfl rfl rfl (R_assign rfl rfl) ?_
  refine WL_val rfl rfl rfl (R_assign rfl rfl) ?_
  refine WL_nil ?_
  refine WQ_code ?_
  refine WC_ret ?_
  refine WQ_ret rfl rfl (.cons (.tmp rfl) (.cons (.tmp rfl) .nil)) rfl (by
      exact ⟨m, x, rfl, h, rfl, rfl, rfl⟩) (pqD)
theorem call_state {m : ClM} {x : Cl} (h : ClIs m x) (hb : ClB x) {body : Bs} {oa : Option Addr} {ent : Ent} {c : Nat} (hr : RdB oa ent body) (dl : Nat) (hdl : dl ≤ 18446744073709551615) (hd : x.now < dl) (hst : x.closed = true ∨ x.s.br ≠ 0) : Spec Tryz.prog 39 [ptrC m.p, .slice oa body.length c, .int .u64 (dl : Int)] (clH m x ++ [ent]) (CPostE m.p (x.v, 0, 8) ent) := by
  rcases Bool.eq_false_or_eq_true x.closed with hcl | hcl
  · refine Spec.of (E := [(0, ptrC m.p), (1, .slice oa body.length c), (2, .int .u64 (dl : Int))]) Tryz.func39 rfl (by kernel_rfl) Tryz.ntmps39 rfl rfl (fun w => ?_)
    refine WC_seq ?_
    refine WC_region ?_
    refine WL_val rfl rfl rfl (R_assign rfl rfl) ?_
    refine WL_val rfl rfl rfl (R_assign rfl rfl) ?_
    refine WL_nil ?_
    refine WQ_code ?_
    refine WC_seq ?_
    refine WC_block ?_
    refine WC_seq ?_
    refine WC_region ?_
    refine WL_val rfl rfl rfl (R_move rfl rfl) ?_
    refine WL_val rfl rfl rfl (R_ptrEqNil rfl Tryz.underlying47 rfl) ?_
    refine WL_val rfl rfl rfl (R_assign rfl rfl) ?_
    refine WL_nil ?_
    refine WQ_code ?_
    refine WC_F rfl ?_
    refine WC_seq ?_
    refine WC_region ?_
    refine WL_val rfl rfl rfl (R_move rfl rfl) ?_
    refine WL_val rfl rfl rfl (R_move rfl rfl) ?_
    refine WL_val rfl rfl rfl (R_nilCheck rfl rfl) ?_
    refine WL_val rfl rfl rfl (R_fieldAddr rfl fa51_1 rfl) ?_
    refine WL_val rfl rfl rfl (R_load rfl sc41 rfl (mmD) rfl) ?_
    refine WL_val rfl rfl rfl (R_leq rfl rfl rfl) ?_
    refine WL_val rfl rfl rfl (R_assign rfl rfl) ?_
    refine WL_nil ?_
    refine WQ_code ?_
    refine WC_dF rfl (by omega) ?_
    refine WC_seq ?_
    refine WC_region ?_
    refine WL_val rfl rfl rfl (R_move rfl rfl) ?_
    refine WL_val rfl rfl rfl (R_nilCheck rfl rfl) ?_
    refine WL_val rfl rfl rfl (R_fieldAddr rfl fa51_4 rfl) ?_
    refine WL_val rfl rfl rfl (R_load rfl sc4 rfl (mmD) rfl) ?_
    refine WL_set (s := 22) (v := .bool true) rfl (by rw [hcl]) ?_
    refine WL_val rfl rfl rfl (R_move rfl rfl) ?_
    refine WL_skip rfl rfl rfl ?_
    refine WL_skip rfl rfl rfl ?_
    refine WL_skip rfl rfl rfl ?_
    refine WL_skip rfl rfl rfl ?_
    refine WL_skip rfl rfl rfl ?_
    refine WL_skip rfl rfl rfl ?_
    refine WL_val rfl rfl rfl (R_pickT rfl rfl rfl) ?_
    refine WL_val rfl rfl rfl (R_assign rfl rfl) ?_
    refine WL_nil ?_
    refine WQ_code ?_
    refine WC_T rfl ?_
    refine WC_seq ?_
    refine WC_region ?_
    refine WL_val rfl rfl rfl (R_assign rfl rfl) ?_
    refine WL_val rfl rfl rfl (R_assign rfl rfl) ?_
    refine WL_nil ?_
    refine WQ_code ?_
    refine WC_ret ?_
    refine WQ_ret rfl rfl (.cons (.tmp rfl) (.cons (.tmp rfl) .nil)) rfl (by
        exact ⟨m, x, rfl, h, rfl, rfl, rfl⟩) (pqD)
  · have hbr2 : x.s.br ≠ 0 := by rcases hst with e | e; rw [hcl] at e; cases e; exact e
    refine Spec.of (E := [(0, ptrC m.p), (1, .slice oa body.length c), (2, .int .u64 (dl : Int))]) Tryz.func39 rfl (by kernel_rfl) Tryz.ntmps39 rfl rfl (fun w => ?_)
    refine WC_seq ?_
    refine WC_region ?_
    refine WL_val rfl rfl rfl (R_assign rfl rfl) ?_
    refine WL_val rfl rfl rfl (R_assign rfl rfl) ?_
    refine WL_nil ?_
    refine WQ_code ?_
    refine WC_seq ?_
    refine WC_block ?_
    refine WC_seq ?_
    refine WC_region ?_
    refine WL_val rfl rfl rfl (R_move rfl rfl) ?_
    refine WL_val rfl rfl rfl (R_ptrEqNil rfl Tryz.underlying47 rfl) ?_
    refine WL_val rfl rfl rfl (R_assign rfl rfl) ?_
    refine WL_nil ?_
    refine WQ_code ?_
    refine WC_F rfl ?_
    refine WC_seq ?_
    refine WC_region ?_
    refine WL_val rfl rfl rfl (R_move rfl rfl) ?_
    refine WL_val rfl rfl rfl (R_move rfl rfl) ?_
    refine WL_val rfl rfl rfl (R_nilCheck rfl rfl) ?_
    refine WL_val rfl rfl rfl (R_fieldAddr rfl fa51_1 rfl) ?_
    refine WL_val rfl rfl rfl (R_load rfl sc41 rfl (mmD) rfl) ?_
    refine WL_val rfl rfl rfl (R_leq rfl rfl rfl) ?_
    refine WL_val rfl rfl rfl (R_assign rfl rfl) ?_
    refine WL_nil ?_
    refine WQ_code ?_
    refine WC_dF rfl (by omega) ?_
    refine WC_seq ?_
    refine WC_region ?_
    refine WL_val rfl rfl rfl (R_move rfl rfl) ?_
    refine WL_val rfl rfl rfl (R_nilCheck rfl rfl) ?_
    refine WL_val rfl rfl rfl (R_fieldAddr rfl fa51_4 rfl) ?_
    refine WL_val rfl rfl rfl (R_load rfl sc4 rfl (mmD) rfl) ?_
    refine WL_set (s := 22) (v := .bool false) rfl (by rw [hcl]) ?_
    refine WL_val rfl rfl rfl (R_move rfl rfl) ?_
    refine WL_val rfl rfl rfl (R_move rfl rfl) ?_
    refine WL_val rfl rfl rfl (R_nilCheck rfl rfl) ?_
    refine WL_val rfl rfl rfl (R_fieldAddr rfl fa51_0 rfl) ?_
    refine WL_val rfl rfl rfl (R_fieldAddr rfl fa31_3 rfl) ?_
    refine WL_val rfl rfl rfl (R_load rfl sc27 rfl (mmD) rfl) ?_
    refine WL_val rfl rfl rfl (R_neq rfl rfl rfl) ?_
    refine WL_set (s := 29) (v := .bool true) rfl (by exact congrArg Value.bool (decide_eq_true hbr2)) ?_
    refine WL_val rfl rfl rfl (R_pickF rfl rfl rfl) ?_
    refine WL_val rfl rfl rfl (R_assign rfl rfl) ?_
    refine WL_nil ?_
    refine WQ_code ?_
    refine WC_T rfl ?_
    refine WC_seq ?_
    refine WC_region ?_
    refine WL_val rfl rfl rfl (R_assign rfl rfl) ?_
    refine WL_val rfl rfl rfl (R_assign rfl rfl) ?_
    refine WL_nil ?_
    refine WQ_code ?_
    refine WC_ret ?_
    refine WQ_ret rfl rfl (.cons (.tmp rfl) (.cons (.tmp rfl) .nil)) rfl (by
        exact ⟨m, x, rfl, h, rfl, rfl, rfl⟩) (pqD)
theorem call_long {m : ClM} {x : Cl} (h : ClIs m x) (hb : ClB x) {body : Bs} {oa : Option Addr} {ent : Ent} {c : Nat} (hr : RdB oa ent body) (dl : Nat) (hdl : dl ≤ 18446744073709551615) (hd : x.now < dl) (hcl : x.closed = false) (hbr : x.s.br = 0) (hl : 1012 < body.length) : Spec Tryz.prog 39 [ptrC m.p, .slice oa body.length c, .int .u64 (dl : Int)] (clH m x ++ [ent]) (CPostE m.p (x.v, 0, 5) ent) := by
  refine Spec.of (E := [(0, ptrC m.p), (1, .slice oa body.length c), (2, .int .u64 (dl : Int))]) Tryz.func39 rfl (by kernel_rfl) Tryz.ntmps39 rfl rfl (fun w => ?_)
  refine WC_seq ?_
  refine WC_region ?_
  refine WL_val rfl rfl rfl (R_assign rfl rfl) ?_
  refine WL_val rfl rfl rfl (R_assign rfl rfl) ?_
  refine WL_nil ?_
  refine WQ_code ?_
  refine WC_seq ?_
  refine WC_block ?_
  refine WC_seq ?_
  refine WC_region ?_
  refine WL_val rfl rfl rfl (R_move rfl rfl) ?_
  refine WL_val rfl rfl rfl (R_ptrEqNil rfl Tryz.underlying47 rfl) ?_
  refine WL_val rfl rfl rfl (R_assign rfl rfl) ?_
  refine WL_nil ?_
  refine WQ_code ?_
  refine WC_F rfl ?_
  refine WC_seq ?_
  refine WC_region ?_
  refine WL_val rfl rfl rfl (R_move rfl rfl) ?_
  refine WL_val rfl rfl rfl (R_move rfl rfl) ?_
  refine WL_val rfl rfl rfl (R_nilCheck rfl rfl) ?_
  refine WL_val rfl rfl rfl (R_fieldAddr rfl fa51_1 rfl) ?_
  refine WL_val rfl rfl rfl (R_load rfl sc41 rfl (mmD) rfl) ?_
  refine WL_val rfl rfl rfl (R_leq rfl rfl rfl) ?_
  refine WL_val rfl rfl rfl (R_assign rfl rfl) ?_
  refine WL_nil ?_
  refine WQ_code ?_
  refine WC_dF rfl (by omega) ?_
  refine WC_seq ?_
  refine WC_region ?_
  refine WL_val rfl rfl rfl (R_move rfl rfl) ?_
  refine WL_val rfl rfl rfl (R_nilCheck rfl rfl) ?_
  refine WL_val rfl rfl rfl (R_fieldAddr rfl fa51_4 rfl) ?_
  refine WL_val rfl rfl rfl (R_load rfl sc4 rfl (mmD) rfl) ?_
  refine WL_set (s := 22) (v := .bool false) rfl (by rw [hcl]) ?_
  refine WL_val rfl rfl rfl (R_move rfl rfl) ?_
  refine WL_val rfl rfl rfl (R_move rfl rfl) ?_
  refine WL_val rfl rfl rfl (R_nilCheck rfl rfl) ?_
  refine WL_val rfl rfl rfl (R_fieldAddr rfl fa51_0 rfl) ?_
  refine WL_val rfl rfl rfl (R_fieldAddr rfl fa31_3 rfl) ?_
  refine WL_val rfl rfl rfl (R_load rfl sc27 rfl (mmD) rfl) ?_
  refine WL_val rfl rfl rfl (R_neq rfl rfl rfl) ?_
  refine WL_set (s := 29) (v := .bool false) rfl (by rw [hbr]; rfl) ?_
  refine WL_val rfl rfl rfl (R_pickF rfl rfl rfl) ?_
  refine WL_val rfl rfl rfl (R_assign rfl rfl) ?_
  refine WL_nil ?_
  refine WQ_code ?_
  refine WC_F rfl ?_
  refine WC_seq ?_
  refine WC_region ?_
  refine WL_val rfl rfl rfl (R_move rfl rfl) ?_
  refine WL_val rfl rfl rfl (R_len rfl Tryz.underlying26 rfl) ?_
  refine WL_val rfl rfl rfl (R_gtr rfl rfl rfl) ?_
  refine WL_val rfl rfl rfl (R_assign rfl rfl) ?_
  refine WL_nil ?_
  refine WQ_code ?_
  refine WC_dT rfl (by omega) ?_
  refine WC_seq ?_
  refine WC_region ?_
  refine WL_val rfl rfl rfl (R_assign rfl rfl) ?_
  refine WL_val rfl rfl rfl (R_assign rfl rfl) ?_
  refine WL_nil ?_
  refine WQ_code ?_
  refine WC_ret ?_
  refine WQ_ret rfl rfl (.cons (.tmp rfl) (.cons (.tmp rfl) .nil)) rfl (by
      exact ⟨m, x, rfl, h, rfl, rfl, rfl⟩) (pqD)
theorem call_full {m : ClM} {x : Cl} (h : ClIs m x) (hb : ClB x) {body : Bs} {oa : Option Addr} {ent : Ent} {c : Nat} (hr : RdB oa ent body) (dl : Nat) (hdl : dl ≤ 18446744073709551615) (hd : x.now < dl) (hcl : x.closed = false) (hbr : x.s.br = 0) (hl : body.length ≤ 1012) (hf : 32 ≤ x.calls.length ∨ 65536 < x.s.out.length) : Spec Tryz.prog 39 [ptrC m.p, .slice oa body.length c, .int .u64 (dl : Int)] (clH m x ++ [ent]) (CPostE m.p (x.v, 0, 7) ent) := by
  refine Spec.of (E := [(0, ptrC m.p), (1, .slice oa body.length c), (2, .int .u64 (dl : Int))]) Tryz.func39 rfl (by kernel_rfl) Tryz.ntmps39 rfl rfl (fun w => ?_)
  refine WC_seq ?_
  refine WC_region ?_
  refine WL_val rfl rfl rfl (R_assign rfl rfl) ?_
  refine WL_val rfl rfl rfl (R_assign rfl rfl) ?_
  refine WL_nil ?_
  refine WQ_code ?_
  refine WC_seq ?_
  refine WC_block ?_
  refine WC_seq ?_
  refine WC_region ?_
  refine WL_val rfl rfl rfl (R_move rfl rfl) ?_
  refine WL_val rfl rfl rfl (R_ptrEqNil rfl Tryz.underlying47 rfl) ?_
  refine WL_val rfl rfl rfl (R_assign rfl rfl) ?_
  refine WL_nil ?_
  refine WQ_code ?_
  refine WC_F rfl ?_
  refine WC_seq ?_
  refine WC_region ?_
  refine WL_val rfl rfl rfl (R_move rfl rfl) ?_
  refine WL_val rfl rfl rfl (R_move rfl rfl) ?_
  refine WL_val rfl rfl rfl (R_nilCheck rfl rfl) ?_
  refine WL_val rfl rfl rfl (R_fieldAddr rfl fa51_1 rfl) ?_
  refine WL_val rfl rfl rfl (R_load rfl sc41 rfl (mmD) rfl) ?_
  refine WL_val rfl rfl rfl (R_leq rfl rfl rfl) ?_
  refine WL_val rfl rfl rfl (R_assign rfl rfl) ?_
  refine WL_nil ?_
  refine WQ_code ?_
  refine WC_dF rfl (by omega) ?_
  refine WC_seq ?_
  refine WC_region ?_
  refine WL_val rfl rfl rfl (R_move rfl rfl) ?_
  refine WL_val rfl rfl rfl (R_nilCheck rfl rfl) ?_
  refine WL_val rfl rfl rfl (R_fieldAddr rfl fa51_4 rfl) ?_
  refine WL_val rfl rfl rfl (R_load rfl sc4 rfl (mmD) rfl) ?_
  refine WL_set (s := 22) (v := .bool false) rfl (by rw [hcl]) ?_
  refine WL_val rfl rfl rfl (R_move rfl rfl) ?_
  refine WL_val rfl rfl rfl (R_move rfl rfl) ?_
  refine WL_val rfl rfl rfl (R_nilCheck rfl rfl) ?_
  refine WL_val rfl rfl rfl (R_fieldAddr rfl fa51_0 rfl) ?_
  refine WL_val rfl rfl rfl (R_fieldAddr rfl fa31_3 rfl) ?_
  refine WL_val rfl rfl rfl (R_load rfl sc27 rfl (mmD) rfl) ?_
  refine WL_val rfl rfl rfl (R_neq rfl rfl rfl) ?_
  refine WL_set (s := 29) (v := .bool false) rfl (by rw [hbr]; rfl) ?_
  refine WL_val rfl rfl rfl (R_pickF rfl rfl rfl) ?_
  refine WL_val rfl rfl rfl (R_assign rfl rfl) ?_
  refine WL_nil ?_
  refine WQ_code ?_
  refine WC_F rfl ?_
  refine WC_seq ?_
  refine WC_region ?_
  refine WL_val rfl rfl rfl (R_move rfl rfl) ?_
  refine WL_val rfl rfl rfl (R_len rfl Tryz.underlying26 rfl) ?_
  refine WL_val rfl rfl rfl (R_gtr rfl rfl rfl) ?_
  refine WL_val rfl rfl rfl (R_assign rfl rfl) ?_
  refine WL_nil ?_
  refine WQ_code ?_
  refine WC_dF rfl (by omega) ?_
  refine WC_seq ?_
  refine WC_region ?_
  refine WL_val rfl rfl rfl (R_move rfl rfl) ?_
  refine WL_val rfl rfl rfl (R_nilCheck rfl rfl) ?_
  refine WL_val rfl rfl rfl (R_fieldAddr rfl fa51_2 rfl) ?_
  refine WL_val rfl rfl rfl (R_load rfl sc48 rfl (mmD) rfl) ?_
  refine WL_val rfl rfl rfl (R_len rfl Tryz.underlying48 rfl) ?_
  refine WL_val rfl rfl rfl (R_geq rfl rfl rfl) ?_
  refine WL_val rfl rfl rfl (R_move rfl rfl) ?_
  refine WL_splitD (s := 42) rfl (fun c1 => ?_) (fun c1 => ?_)
  · have hc := c1
    refine WL_skip rfl rfl rfl ?_
    refine WL_skip rfl rfl rfl ?_
    refine WL_skip rfl rfl rfl ?_
    refine WL_skip rfl rfl rfl ?_
    refine WL_skip rfl rfl rfl ?_
    refine WL_skip rfl rfl rfl ?_
    refine WL_skip rfl rfl rfl ?_
    refine WL_val rfl rfl rfl (R_pickT rfl rfl rfl) ?_
    refine WL_val rfl rfl rfl (R_assign rfl rfl) ?_
    refine WL_nil ?_
    refine WQ_code ?_
    refine WC_T rfl ?_
    refine WC_seq ?_
    refine WC_region ?_
    refine WL_val rfl rfl rfl (R_assign rfl rfl) ?_
    refine WL_val rfl rfl rfl (R_assign rfl rfl) ?_
    refine WL_nil ?_
    refine WQ_code ?_
    refine WC_ret ?_
    refine WQ_ret rfl rfl (.cons (.tmp rfl) (.cons (.tmp rfl) .nil)) rfl (by
        exact ⟨m, x, rfl, h, rfl, rfl, rfl⟩) (pqD)
  · have hc := c1
    refine WL_val rfl rfl rfl (R_move rfl rfl) ?_
    refine WL_val rfl rfl rfl (R_nilCheck rfl rfl) ?_
    refine WL_val rfl rfl rfl (R_fieldAddr rfl fa51_0 rfl) ?_
    refine WL_val rfl rfl rfl (R_fieldAddr rfl fa31_0 rfl) ?_
    refine WL_val rfl rfl rfl (R_load rfl sc26 rfl (mmD) rfl) ?_
    refine WL_val rfl rfl rfl (R_len rfl Tryz.underlying26 rfl) ?_
    refine WL_val rfl rfl rfl (R_gtr rfl rfl rfl) ?_
    refine WL_val rfl rfl rfl (R_pickF rfl rfl rfl) ?_
    refine WL_val rfl rfl rfl (R_assign rfl rfl) ?_
    refine WL_nil ?_
    refine WQ_code ?_
    refine WC_dT rfl (by omega) ?_
    refine WC_seq ?_
    refine WC_region ?_
    refine WL_val rfl rfl rfl (R_assign rfl rfl) ?_
    refine WL_val rfl rfl rfl (R_assign rfl rfl) ?_
    refine WL_nil ?_
    refine WQ_code ?_
    refine WC_ret ?_
    refine WQ_ret rfl rfl (.cons (.tmp rfl) (.cons (.tmp rfl) .nil)) rfl (by
        exact ⟨m, x, rfl, h, rfl, rfl, rfl⟩) (pqD)
theorem call_do {m : ClM} {x : Cl} (h : ClIs m x) (hb : ClB x) {body : Bs} {oa : Option Addr} {ent : Ent} {c : Nat} (hr : RdB oa ent body) (dl : Nat) (hdl : dl ≤ 18446744073709551615) (hd : x.now < dl) (hcl : x.closed = false) (hbr : x.s.br = 0) (hl : body.length ≤ 1012) (hf : x.calls.length < 32) (ho : x.s.out.length ≤ 65536) : Spec Tryz.prog 39 [ptrC m.p, .slice oa body.length c, .int .u64 (dl : Int)] (clH m x ++ [ent]) (CPostE m.p ({ x.v with last := x.v.last + 1, calls := x.v.calls ++ [⟨x.v.last + 1, dl⟩], out := x.v.out ++ encF 16 (bigB (x.v.last + 1) 4 ++ (bigB dl 8 ++ body)) }, ((x.v.last + 1 : Nat) : Int), 0) ent) := by
  have hlast := hb.last
  have hsO := h.sd.oO
  refine Spec.of (E := [(0, ptrC m.p), (1, .slice oa body.length c), (2, .int .u64 (dl : Int))]) Tryz.func39 rfl (by kernel_rfl) Tryz.ntmps39 rfl rfl (fun w => ?_)
  refine WC_seq ?_
  refine WC_region ?_
  refine WL_val rfl rfl rfl (R_assign rfl rfl) ?_
  refine WL_val rfl rfl rfl (R_assign rfl rfl) ?_
  refine WL_nil ?_
  refine WQ_code ?_
  refine WC_seq ?_
  refine WC_block ?_
  refine WC_seq ?_
  refine WC_region ?_
  refine WL_val rfl rfl rfl (R_move rfl rfl) ?_
  refine WL_val rfl rfl rfl (R_ptrEqNil rfl Tryz.underlying47 rfl) ?_
  refine WL_val rfl rfl rfl (R_assign rfl rfl) ?_
  refine WL_nil ?_
  refine WQ_code ?_
  refine WC_F rfl ?_
  refine WC_seq ?_
  refine WC_region ?_
  refine WL_val rfl rfl rfl (R_move rfl rfl) ?_
  refine WL_val rfl rfl rfl (R_move rfl rfl) ?_
  refine WL_val rfl rfl rfl (R_nilCheck rfl rfl) ?_
  refine WL_val rfl rfl rfl (R_fieldAddr rfl fa51_1 rfl) ?_
  refine WL_val rfl rfl rfl (R_load rfl sc41 rfl (mmD) rfl) ?_
  refine WL_val rfl rfl rfl (R_leq rfl rfl rfl) ?_
  refine WL_val rfl rfl rfl (R_assign rfl rfl) ?_
  refine WL_nil ?_
  refine WQ_code ?_
  refine WC_dF rfl (by omega) ?_
  refine WC_seq ?_
  refine WC_region ?_
  refine WL_val rfl rfl rfl (R_move rfl rfl) ?_
  refine WL_val rfl rfl rfl (R_nilCheck rfl rfl) ?_
  refine WL_val rfl rfl rfl (R_fieldAddr rfl fa51_4 rfl) ?_
  refine WL_val rfl rfl rfl (R_load rfl sc4 rfl (mmD) rfl) ?_
  refine WL_set (s := 22) (v := .bool false) rfl (by rw [hcl]) ?_
  refine WL_val rfl rfl rfl (R_move rfl rfl) ?_
  refine WL_val rfl rfl rfl (R_move rfl rfl) ?_
  refine WL_val rfl rfl rfl (R_nilCheck rfl rfl) ?_
  refine WL_val rfl rfl rfl (R_fieldAddr rfl fa51_0 rfl) ?_
  refine WL_val rfl rfl rfl (R_fieldAddr rfl fa31_3 rfl) ?_
  refine WL_val rfl rfl rfl (R_load rfl sc27 rfl (mmD) rfl) ?_
  refine WL_val rfl rfl rfl (R_neq rfl rfl rfl) ?_
  refine WL_set (s := 29) (v := .bool false) rfl (by rw [hbr]; rfl) ?_
  refine WL_val rfl rfl rfl (R_pickF rfl rfl rfl) ?_
  refine WL_val rfl rfl rfl (R_assign rfl rfl) ?_
  refine WL_nil ?_
  refine WQ_code ?_
  refine WC_F rfl ?_
  refine WC_seq ?_
  refine WC_region ?_
  refine WL_val rfl rfl rfl (R_move rfl rfl) ?_
  refine WL_val rfl rfl rfl (R_len rfl Tryz.underlying26 rfl) ?_
  refine WL_val rfl rfl rfl (R_gtr rfl rfl rfl) ?_
  refine WL_val rfl rfl rfl (R_assign rfl rfl) ?_
  refine WL_nil ?_
  refine WQ_code ?_
  refine WC_dF rfl (by omega) ?_
  refine WC_seq ?_
  refine WC_region ?_
  refine WL_val rfl rfl rfl (R_move rfl rfl) ?_
  refine WL_val rfl rfl rfl (R_nilCheck rfl rfl) ?_
  refine WL_val rfl rfl rfl (R_fieldAddr rfl fa51_2 rfl) ?_
  refine WL_val rfl rfl rfl (R_load rfl sc48 rfl (mmD) rfl) ?_
  refine WL_val rfl rfl rfl (R_len rfl Tryz.underlying48 rfl) ?_
  refine WL_val rfl rfl rfl (R_geq rfl rfl rfl) ?_
  refine WL_val rfl rfl rfl (R_move rfl rfl) ?_
  refine WL_set (s := 42) (v := .bool false) rfl (by exact congrArg Value.bool (decide_eq_false (by omega))) ?_
  refine WL_val rfl rfl rfl (R_move rfl rfl) ?_
  refine WL_val rfl rfl rfl (R_nilCheck rfl rfl) ?_
  refine WL_val rfl rfl rfl (R_fieldAddr rfl fa51_0 rfl) ?_
  refine WL_val rfl rfl rfl (R_fieldAddr rfl fa31_0 rfl) ?_
  refine WL_val rfl rfl rfl (R_load rfl sc26 rfl (mmD) rfl) ?_
  refine WL_val rfl rfl rfl (R_len rfl Tryz.underlying26 rfl) ?_
  refine WL_val rfl rfl rfl (R_gtr rfl rfl rfl) ?_
  refine WL_val rfl rfl rfl (R_pickF rfl rfl rfl) ?_
  refine WL_val rfl rfl rfl (R_assign rfl rfl) ?_
  refine WL_nil ?_
  refine WQ_code ?_
  refine WC_dF rfl (by omega) ?_
  refine WC_skip ?_
  refine WQ_code ?_
  refine WC_seq ?_
  refine WC_region ?_
  refine WL_val rfl rfl rfl (R_move rfl rfl) ?_
  refine WL_val rfl rfl rfl (R_nilCheck rfl rfl) ?_
  refine WL_val rfl rfl rfl (R_fieldAddr rfl fa51_0 rfl) ?_
  refine WL_val rfl rfl rfl (R_fieldAddr rfl fa31_2 rfl) ?_
  refine WL_val rfl rfl rfl (R_load rfl sc3 rfl (mmD) rfl) ?_
  refine WL_val rfl rfl rfl (R_addR (r := ((x.s.last + 1 : Nat) : Int)) rfl rfl rfl (by rw [wrap64_in (by omega) (by omega)]; omega)) ?_
  refine WL_val rfl rfl rfl (R_nilCheck rfl rfl) ?_
  refine WL_val rfl rfl rfl (R_fieldAddr rfl fa51_0 rfl) ?_
  refine WL_val rfl rfl rfl (R_fieldAddr rfl fa31_2 rfl) ?_
  refine WL_do0 rfl rfl (D_store (vs := [_]) rfl Tryz.sizeOf3 rfl rfl rfl rfl rfl (plD) (by exact Nat.le_of_ble_eq_true rfl)) ?_
  rintro _ _ rfl
  refine WL_nil ?_
  refine WQ_code ?_
  refine WC_seq ?_
  refine WC_drawY (⟨some m.p, _⟩ :: [⟨m.cb, _⟩]) [(m.p, 6, slV m.cb x.calls.length m.cc), (m.p, 3, .int .i64 ((x.s.last + 1 : Nat) : Int))] [16] [(0, false), (1, false), (2, false), (3, false), (4, true), (5, false), (6, false), (7, false), (8, false), (9, true)] [(10, true), (11, true), (12, false), (13, false), (14, true), (15, true), (16, false)] followsMixed rfl rfl (by kernel_rfl) (pqD) (.cons (mmD) rfl (.cons (mmD) rfl .nil)) ?_
  refine WYE_val rfl rfl rfl rfl (R_move rfl rfl) ?_
  refine WYE_val rfl rfl rfl rfl (R_move rfl rfl) ?_
  refine WYE_val rfl rfl rfl rfl (R_nilCheck rfl rfl) ?_
  refine WYE_val rfl rfl rfl rfl (R_fieldAddr rfl fa51_2 rfl) ?_
  refine WYE_early rfl rfl rfl rfl rfl sc48 rfl (by repeat (first | exact List.Mem.head _ | refine List.Mem.tail _ ?_)) ?_
  refine WYE_val rfl rfl rfl rfl (R_move rfl rfl) ?_
  refine WYE_val rfl rfl rfl rfl (R_nilCheck rfl rfl) ?_
  refine WYE_val rfl rfl rfl rfl (R_fieldAddr rfl fa51_0 rfl) ?_
  refine WYE_val rfl rfl rfl rfl (R_fieldAddr rfl fa31_2 rfl) ?_
  refine WYE_early rfl rfl rfl rfl rfl sc3 rfl (by repeat (first | exact List.Mem.head _ | refine List.Mem.tail _ ?_)) ?_
  refine WYE_rest ?_
  refine WY_val rfl rfl rfl rfl (R_move rfl rfl) ?_
  refine WY_val rfl rfl rfl rfl (R_build rfl zv96 pl96 rfl rfl) ?_
  refine WY_do rfl rfl rfl rfl (D_buildSlice rfl si48 rfl rfl rfl) ?_
  rintro _ _ ⟨b1, rfl, rfl⟩
  refine ⟨⟨_, pqD⟩, .inr (.cons (mmD) rfl (.cons (mmD) rfl .nil)), ?_⟩
  refine WY_do rfl rfl rfl rfl (D_append rfl si48 rfl (h.cO) (plD) rfl (mmD) ((atZ : At _ 0 [_, _])) (rfl) (rfl) (by omega) (by omega)) ?_
  rintro _ _ ⟨ob2, cap2, tl2, rfl, own2, rfl⟩
  refine ⟨⟨_, pqD⟩, .inr (.cons (mmD) rfl (.cons (mmD) rfl .nil)), ?_⟩
  rw [show x.calls.flatMap encC ++ [Value.int .i64 ((x.s.last + 1 : Nat) : Int), .int .u64 (dl : Int)] = (x.calls ++ [(⟨x.s.last + 1, dl⟩ : Ca)]).flatMap encC from by simp, show x.calls.length + 1 = (x.calls ++ [(⟨x.s.last + 1, dl⟩ : Ca)]).length from by simp] at own2 ⊢
  refine WY_val rfl rfl rfl rfl (R_nilCheck rfl rfl) ?_
  refine WY_val rfl rfl rfl rfl (R_fieldAddr rfl fa51_2 rfl) ?_
  refine WY_do0 rfl rfl rfl (D_store (vs := [_]) rfl Tryz.sizeOf48 rfl rfl rfl rfl rfl (plD) (by exact Nat.le_of_ble_eq_true rfl)) ?_
  rintro _ _ rfl
  refine ⟨⟨_, pqD⟩, .inl rfl, ?_⟩
  refine WY_nil ?_
  refine WQ_code ?_
  refine WC_seq ?_
  refine WC_drawY (⟨some m.p, _⟩ :: [⟨m.sd.ob, _⟩]) [(m.p, 3, .int .i64 ((x.s.last + 1 : Nat) : Int))] [13] [(0, false), (1, false), (2, false), (3, false), (4, false), (5, false), (6, false), (7, true)] [(9, true), (11, true), (8, false), (10, false), (12, false), (13, false)] followsMixed rfl rfl (by kernel_rfl) (pqD) (.cons (mmD) rfl .nil) ?_
  refine WYE_val rfl rfl rfl rfl (R_move rfl rfl) ?_
  refine WYE_val rfl rfl rfl rfl (R_nilCheck rfl rfl) ?_
  refine WYE_val rfl rfl rfl rfl (R_fieldAddr rfl fa51_0 rfl) ?_
  refine WYE_val rfl rfl rfl rfl (R_move rfl rfl) ?_
  refine WYE_val rfl rfl rfl rfl (R_nilCheck rfl rfl) ?_
  refine WYE_val rfl rfl rfl rfl (R_fieldAddr rfl fa51_0 rfl) ?_
  refine WYE_val rfl rfl rfl rfl (R_fieldAddr rfl fa31_2 rfl) ?_
  refine WYE_early rfl rfl rfl rfl rfl sc3 rfl (by repeat (first | exact List.Mem.head _ | refine List.Mem.tail _ ?_)) ?_
  refine WYE_rest ?_
  refine WY_val rfl rfl rfl rfl (R_move rfl rfl) ?_
  refine WY_val rfl rfl rfl rfl (R_move rfl rfl) ?_
  refine WY_do rfl rfl rfl rfl (D_call (four_ok (x.s.last + 1) (by omega)) rfl rfl rfl rfl (pqD)) ?_
  rintro _ _ ⟨_, ⟨b4, rfl, rfl⟩, rfl⟩
  refine ⟨⟨_, pqD⟩, .inr (.cons (mmD) rfl .nil), ?_⟩
  refine WY_do rfl rfl rfl rfl (D_call (big_ok dl 8 (by omega) (by decide)) rfl rfl rfl rfl (pqD)) ?_
  rintro _ _ ⟨_, ⟨b8, rfl, rfl⟩, rfl⟩
  refine ⟨⟨_, pqD⟩, .inr (.cons (mmD) rfl .nil), ?_⟩
  refine WY_do rfl rfl rfl rfl (D_buildSlice rfl si133 rfl rfl rfl) ?_
  rintro _ _ ⟨b3, rfl, rfl⟩
  refine ⟨⟨_, pqD⟩, .inr (.cons (mmD) rfl .nil), ?_⟩
  refine WY_do rfl rfl rfl rfl (D_call (send_ok m.p 51 _ hsO 16 b3 [⟨some ⟨b4, 0, none⟩, 4, bigB (x.s.last + 1) 4⟩, ⟨some ⟨b8, 0, none⟩, 8, bigB dl 8⟩, ⟨oa, c, body⟩] [⟨some b4, cl (bvs (bigB (x.s.last + 1) 4)) 5⟩, ⟨some b8, cl (bvs (bigB dl 8)) 5⟩, ent] (by simp) (by simp) (parts3 (RdB.blk b4 _) (RdB.blk b8 _) hr) (short2 (by simp [bigB_len]) (by simp [bigB_len]) (by show body.length ≤ _; omega)) (by simp [joinL, bigB_len]; omega) (by omega)) rfl rfl rfl rfl (pqD)) ?_
  rintro _ _ ⟨_, ⟨ob3, k3, c3, pre3, tl3, rfl, rfl, own3⟩, rfl⟩
  refine ⟨⟨_, pqD⟩, .inl rfl, ?_⟩
  rw [show joinL [⟨some ⟨b4, 0, none⟩, 4, bigB (x.s.last + 1) 4⟩, ⟨some ⟨b8, 0, none⟩, 8, bigB dl 8⟩, ⟨oa, c, body⟩] = bigB (x.s.last + 1) 4 ++ (bigB dl 8 ++ body) from by simp [joinL]] at own3 ⊢
  refine WY_nil ?_
  refine WQ_code ?_
  refine WC_seq ?_
  refine WC_region ?_
  refine WL_val rfl rfl rfl (R_move rfl rfl) ?_
  refine WL_val rfl rfl rfl (R_nilCheck rfl rfl) ?_
  refine WL_val rfl rfl rfl (R_fieldAddr rfl fa51_0 rfl) ?_
  refine WL_val rfl rfl rfl (R_fieldAddr rfl fa31_2 rfl) ?_
  refine WL_val rfl rfl rfl (R_load rfl sc3 rfl (mmD) rfl) ?_
  refine WL_val rfl rfl rfl (R_assign rfl rfl) ?_
  refine WL_val rfl rfl rfl (R_assign rfl rfl) ?_
  refine WL_nil ?_
  refine WQ_code ?_
  refine WC_ret ?_
  refine WQ_ret rfl rfl (.cons (.tmp rfl) (.cons (.tmp rfl) .nil)) rfl (by
      exact ⟨{ m with sd := { m.sd with ob := ob3, ok := k3, oc := c3, op := pre3, ot := tl3 }, cb := ob2, cc := cap2, ctl := tl2 }, { x with s := { x.s with last := x.s.last + 1, out := x.s.out ++ encF 16 (bigB (x.s.last + 1) 4 ++ (bigB dl 8 ++ body)) }, calls := x.calls ++ [⟨x.s.last + 1, dl⟩] }, rfl, ⟨⟨own3, h.sd.iO⟩, own2, h.eO, h.rO⟩, rfl, rfl, rfl⟩) (pqD)
theorem call_ok {m : ClM} {x : Cl} (h : ClIs m x) (hb : ClB x) {body : Bs} {oa : Option Addr} {ent : Ent} {c : Nat} (hr : RdB oa ent body) (dl : Nat) (hdl : dl ≤ 18446744073709551615) : Spec Tryz.prog 39 [ptrC m.p, .slice oa body.length c, .int .u64 (dl : Int)] (clH m x ++ [ent]) (CPostE m.p (x.v.call body dl) ent) := by
  unfold PC.call
  by_cases h1 : dl ≤ x.now
  · rw [if_pos (show dl ≤ x.v.now from h1)]; exact call_arg h hb hr dl hdl h1
  rw [if_neg (show ¬ dl ≤ x.v.now from h1)]
  by_cases h2 : x.closed = true ∨ x.s.br ≠ 0
  · rw [if_pos (show x.v.closed = true ∨ x.v.br ≠ 0 from h2)]; exact call_state h hb hr dl hdl (by omega) h2
  rw [if_neg (show ¬ (x.v.closed = true ∨ x.v.br ≠ 0) from h2)]
  obtain ⟨hcl, hbr⟩ := bad_of h2
  by_cases h3 : 1012 < body.length
  · rw [if_pos h3]; exact call_long h hb hr dl hdl (by omega) hcl hbr h3
  rw [if_neg h3]
  by_cases h4 : 32 ≤ x.calls.length ∨ 65536 < x.s.out.length
  · rw [if_pos (show 32 ≤ x.v.calls.length ∨ 65536 < x.v.out.length from h4)]; exact call_full h hb hr dl hdl (by omega) hcl hbr (by omega) h4
  rw [if_neg (show ¬ (32 ≤ x.v.calls.length ∨ 65536 < x.v.out.length) from h4)]
  exact call_do h hb hr dl hdl (by omega) hcl hbr (by omega) (by omega) (by omega)
end Go.Proofs.YtdelhikejgoffaaGreat
end
