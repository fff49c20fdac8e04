/-
 Chapter 49 (proxy), part Plays: contracts of functions that the laws call, each for the heap it names.
-/
import Derived.Test.YtelmlkdibcdebaaGreatY06
import Derived.Test.YtelmlkdibcdebaaGreatRows
set_option linter.unusedVariables false
set_option maxRecDepth 20000
set_option maxHeartbeats 8000000
namespace Go.Proofs.YtelmlkdibcdebaaGreat
theorem md_pmB {M : MM} {x : PX} {i : Nat} {mi m1 : PM} {s' : PS} {b1 : Bm} (hmi : M.pm[i]? = some mi) (hp : m1.p = mi.p) (hb : b1.p = M.bm.p) (now : Nat) (b : BS) : ([mdE M { x with now := now }, mdQ M] : Heap).Perm [mdE { M with pm := M.pm.set i m1, bm := b1 } { x with now := now, P := x.P.set i s', b := b }, mdQ { M with pm := M.pm.set i m1, bm := b1 }] := by
 simp only [mdE, mdC, mdQ, List.length_set, pms_set hmi hp, hb]
 exact List.Perm.refl _
theorem mfld_in {x : PX} {A B : List Ss} {s : Ss} (hS : x.S = A ++ s :: B) (hn : (x.S.map (·.num)).Nodup) : x.mfld s = x.fldF s := by
 rw [fldF_eq hS hn]
 unfold PX.mfld PX.mset PX.mfail PX.mrem
 rw [filt_num hS hn, setS_at hS hn (show (x.later s).num = s.num from rfl)]
 rfl
theorem evS_dle (now : Nat) (P : List PS) : ∀ k, evS now (P.drop k) ≤ evS now P
 | 0 => Nat.le_refl _
 | k + 1 => by
  have ih := evS_dle now P k
  by_cases hk : k < P.length
  ·obtain ⟨si, hsi⟩ := getE (T := P) (i := k) hk
   have := evS_drop (now := now) hsi
   omega
  ·rw [List.drop_eq_nil_of_le (by omega)]; exact Nat.zero_le _
theorem mdo1_made {N : Nat} {M : MM} {x : PX} (h : MIs N M x) {w b e : Nat} (o : PXO w b e x) (hnm : ∀ s ∈ x.S, 0 ≤ s.num ∧ s.num ≤ 100) (hN : N ≤ 7000) (he9 : e ≤ 10000) (hb9 : b ≤ 1000000) (dl : Nat) (key : ByteArray) {A B : List Ss} {s : Ss} (hS : x.S = A ++ s :: B) (hst : s.st = 3) {now : Nat} (hb : now ≤ 18446744073709551615) (hm : x.may (decide (0 ≤ s.num ∧ s.num ≤ 100)) now = 0) {i : Nat} {si : PS} (hbe : s.be = (i : Int)) (hi : x.P[i]? = some si) : Spec Tryz.prog 52 [ptrP M.p, .agg #[.int .i64 1, .int .i64 s.num, .int .u64 (now : Int), .int .u64 (dl : Int), .string key, .bool true]] (mdH M x) (fun r H' => ∃ M', r = .int .i64 (0) ∧ H' = mdH M' (x.dialN s true now) ∧ MIs (N + 3) M' (x.dialN s true now) ∧ M'.p = M.p) := by
 have hSl := nums_len o.g.nd hnm
 have hE9 := o.e
 have hs : s ∈ x.S := by rw [hS]; exact List.mem_append_right _ (List.mem_cons_self ..)
 have hnd := o.g.nd
 have hid : idS s.num x.S = (A.length : Int) := idS_at hS hnd
 have hat : x.S[A.length]? = some s := by rw [hS, List.getElem?_append_right (Nat.le_refl _), Nat.sub_self]; rfl
 have hAl := (List.getElem?_eq_some_iff.1 hat).1
 obtain ⟨wa, hwa⟩ := h.sO.some_of (by omega)
 obtain ⟨mi, hmi⟩ := mpool_at h hi
 have hil := (List.getElem?_eq_some_iff.1 hi).1
 have hpl := h.oq.len
 obtain ⟨wq, hwq⟩ := h.oq.some_of (by omega)
 obtain ⟨hr9, hn1, hn2⟩ := xmay_zero_of hm
 have hr9 := of_decide_eq_true hr9
 have hm : x.may true now = 0 := by rw [← hm, decide_eq_true hr9]
 have ht := (o.g.ks s hs).2
 have hbl := o.g.bl
 have hsE := (o.b si (List.mem_of_getElem? hi)).1
 have hX : (x.dial1 s true now i si).mget s s.cn true = x.dialN s true now := by
  rw [dialN_eq hbe hi, if_pos rfl]
  unfold PX.mget PX.mset
  rw [setS_at (S := (x.dial1 s true now i si).S) hS hnd (show (gS s s.cn true).num = s.num from rfl), updS_at hS hnd]
  rfl
 refine Spec.of (E := [(0, ptrP M.p), (1, .agg #[.int .i64 1, .int .i64 s.num, .int .u64 (now : Int), .int .u64 (dl : Int), .string key, .bool true])]) Tryz.func52 rfl (by kernel_rfl) Tryz.ntmps52 rfl rfl (fun w => ?_)
 refine WCr (WLd Z (D_box (cs := [_, _, _, _, _, _]) Z Z Z) ?_)
 rintro _ _ ⟨b1, rfl, rfl⟩
 refine WLa Z (WL_nil (WQ_code (WCr (WLa Z (WLf Z fa43_0 (WLl Z sc3 mmD Z (WLa Z (WLa Z (WL_set (s := 14) (v := .bool false) Z (by simp) ?_)))))))))
 refine WLf Z fa43_1 (WLl Z sc3 mmD Z (WLa Z (WLa Z (WL_set (s := 18) (v := .bool true) Z (by exact congrArg Value.bool (decide_eq_true (by omega))) ?_))))
 refine WLf Z fa43_1 (WLl Z sc3 mmD Z (WLa Z (WLa Z (WLa Z (WL_set (s := 23) (v := .bool true) Z (by exact congrArg Value.bool (decide_eq_true (by omega))) ?_)))))
 refine WLf Z fa43_0 (WLl Z sc3 mmD Z (WLa Z (WLa Z (WL_set (s := 27) (v := .bool true) Z (by simp) ?_))))
 refine WLa Z (WLa Z (WLa Z (WLa Z (WLa Z (WLa Z (WLa Z ?_))))))
 first | refine WL_set (s := 34) (v := .bool true) rfl (by exact congrArg Value.bool (decide_eq_true (by omega))) ?_ | refine WL_set (s := 34) (v := .bool true) rfl rfl ?_
 refine WLf Z fa43_2 (WLl Z sc25 mmD Z (WLq Z (mwrong_ok M x true now) Z pqD ?_))
 refine WLa Z (WL_nil (WQ_code (WC_seq (WCr (WLa Z (WLa Z (WL_nil (WQ_code (WC_dF Z (by rw [hm]; simp) ?_)))))))))
 refine WC_skip (WQ_code (WCr (WLa Z (WLf Z fa43_1 (WLl Z sc3 mmD Z (WLq Z (mfind_ok M x h.sO (by omega) s.num) Z pqD ?_))))))
 rw [hid]
 refine WLa Z (WL_nil (WQ_code (WC_seq (WCr (WLf Z fa43_0 (WLl Z sc3 mmD Z (WL_nil (WQ_code (WC_block (WCr (WLa Z (WLa Z (WL_nil (WQ_code (WC_dF Z (by simp) ?_)))))))))))))))
 refine WCr (WLa Z (WLa Z (WL_nil (WQ_code (WC_dT Z (by simp) ?_)))))
 refine WC_seq (WCr (WLa Z (WLa Z (WLa Z (WL_set (s := 74) (v := .bool false) Z (by exact congrArg Value.bool (decide_eq_false (by omega))) ?_)))))
 refine WLa Z (WLa Z (WLf Z fa60_4 (WLl Z sc57 mmD Z (WLa Z (WLv Z (R_idxO hwa Z Tryz.underlying57 Tryz.sizeOf84 Z Z (by omega)) ?_)))))
 refine WLf Z fa84_5 (WLv Z (R_loadO (v := .int .i64 s.st) hwa Z sc49 Z mmD (fm_get0 encR9 hat (j := 5) (by omega))) ?_)
 refine WLa Z (WLa Z (WL_nil (WQ_code (WC_dF Z (by exact fun e9 => e9 hst) ?_))))
 refine WC_skip (WQ_code (WCr (WLa Z (WLf Z fa43_2 (WLl Z sc25 mmD Z (WLa Z (WLf Z fa60_3 (WLs (vs := [_]) Z Tryz.sizeOf25 Z Z plD (nb Z) ?_))))))))
 refine WL_shape (A := [mdE M { x with now := now }]) pqD (List.Perm.refl _) ?_
 refine WL_nil (WQ_code (WCr (WLa Z (WLa Z (WLf Z fa60_4 (WLl Z sc57 mmD Z (WLa Z (WLv Z (R_idxO hwa Z Tryz.underlying57 Tryz.sizeOf84 Z Z (by omega)) ?_))))))))
 refine WLv Z (R_loadAO (vs := encR s) hwa Z ag84 Z mmD Z (fm_at0 encR9 hat (j := 0) (vs := encR s) (fun j v h => by rw [Nat.zero_add]; exact h) (Nat.le_refl 9))) ?_
 refine WLd Z (D_alloc Z zv84) ?_
 rintro _ _ ⟨b2, rfl, rfl⟩
 refine WLs (vs := [_, _, _, _, _, _, _, _, _]) Z Tryz.sizeOf84 Z Z plD (nb Z) ?_
 refine WL_nil (WQ_code (WC_seq (WC_drawR (poolsH M.pm x.P) [(0, true), (1, true), (2, true), (3, true), (4, true), (5, true), (6, true), (7, true), (8, true), (9, true), (10, true), (11, true), (12, true), (13, true), (14, false)] followsMixed Z Z (by kernel_rfl) pqD ?_)))
 refine WMa Z (WMa Z (WMf Z fa60_1 (WMl Z sc56 mmD Z (WMf Z fa84_7 (WMl Z sc3 mmD Z (WM_set (s := 102) (v := .int .i64 (i : Int)) Z (by rw [hbe]) ?_))))))
 refine WMv Z (R_idxO hwq Z Tryz.underlying56 Tryz.sizeOf79 Z Z (by omega)) ?_
 refine WMv Z (R_loadO (v := ptrP mi.p) hwq Z sc79 Z mmD (fm_get0 encPq1 hmi (j := 0) (by omega))) ?_
 refine WMf Z fa84_8 (WMl Z sc3 mmD Z (WMf Z fa43_5 (WMl Z sc4 mmD Z (WMf Z fa43_2 (WMl Z sc25 mmD Z (WMd Z (D_call (xp_dialed hmi hi (h.po i mi si hmi hi) (by rw [hsE]; exact Nat.zero_le _) s.cn true now (by omega)) Z Z Z Z pqD) ?_))))))
 rintro _ _ ⟨_, ⟨m1, rfl, rfl, hp1, h1⟩, rfl⟩
 refine ⟨⟨_, pqD⟩, ?_⟩
 refine WM_nil (WQ_code (WC_seq (WCr (WLf Z fa43_5 (WLl Z sc4 mmD Z (WL_shape (A := [mdE M { x with now := now }, mdQ M]) pqD (md_pm (s' := si.dialed s.cn true now) hmi hp1 now) ?_))))))
 have h1x : MIs N { M with pm := M.pm.set i m1 } (x.dial1 s true now i si) := (h.at_ (now := now) (by omega)).pool (x := { x with now := now }) hmi hp1 h1
 refine WL_nil (WQ_code (WC_T Z (WCr (WLa Z (WLv Z (R_loadA (vs := [_, _, _, _, _, _, _, _, _]) Z ag84 Z mmD Z atZ) ?_)))))
 refine WLf Z fa84_8 (WLl Z sc3 mmD Z (WLc Z (mgets_ok { M with pm := M.pm.set i m1 } (x.dial1 s true now i si) h1x.sO (by show x.S.length ≤ _; omega) h1x.eO (by show x.E.length ≤ _; omega) hnd s s.cn true) Z pqD ?_))
 rintro _ _ ⟨_, ⟨so1, sc1, stl1, eb1, ek1, ec1, epre1, etl1, rfl, rfl, hO1, hV1⟩, rfl⟩
 refine WL_nil (WQ_code (WCr (WLa Z (WL_nil (WQ_code (WC_ret ?_))))))
 rw [← hX]
 refine WQ1 Z (by
   exact ⟨{ M with pm := M.pm.set i m1, so := so1, sc := sc1, stl := stl1, eb := eb1, ek := ek1, ec := ec1, epre := epre1, etl := etl1 }, rfl, rfl, (h1x.s3 (x2 := (x.dial1 s true now i si).mget s s.cn true) rfl rfl rfl rfl hO1 hV1).le (by omega), rfl⟩) pqD
theorem mdo1_lost {N : Nat} {M : MM} {x : PX} (h : MIs N M x) {w b e : Nat} (o : PXO w b e x) (hnm : ∀ s ∈ x.S, 0 ≤ s.num ∧ s.num ≤ 100) (hN : N ≤ 7000) (he9 : e ≤ 10000) (hb9 : b ≤ 1000000) (dl : Nat) (key : ByteArray) {A B : List Ss} {s : Ss} (hS : x.S = A ++ s :: B) (hst : s.st = 3) {now : Nat} (hb : now ≤ 18446744073709551615) (hm : x.may (decide (0 ≤ s.num ∧ s.num ≤ 100)) now = 0) {i : Nat} {si : PS} (hbe : s.be = (i : Int)) (hi : x.P[i]? = some si) : Spec Tryz.prog 52 [ptrP M.p, .agg #[.int .i64 1, .int .i64 s.num, .int .u64 (now : Int), .int .u64 (dl : Int), .string key, .bool false]] (mdH M x) (fun r H' => ∃ M', r = .int .i64 (0) ∧ H' = mdH M' (x.dialN s false now) ∧ MIs (N + 3) M' (x.dialN s false now) ∧ M'.p = M.p) := by
 have hSl := nums_len o.g.nd hnm
 have hE9 := o.e
 have hs : s ∈ x.S := by rw [hS]; exact List.mem_append_right _ (List.mem_cons_self ..)
 have hnd := o.g.nd
 have hid : idS s.num x.S = (A.length : Int) := idS_at hS hnd
 have hat : x.S[A.length]? = some s := by rw [hS, List.getElem?_append_right (Nat.le_refl _), Nat.sub_self]; rfl
 have hAl := (List.getElem?_eq_some_iff.1 hat).1
 obtain ⟨wa, hwa⟩ := h.sO.some_of (by omega)
 obtain ⟨mi, hmi⟩ := mpool_at h hi
 have hil := (List.getElem?_eq_some_iff.1 hi).1
 have hpl := h.oq.len
 obtain ⟨wq, hwq⟩ := h.oq.some_of (by omega)
 obtain ⟨hr9, hn1, hn2⟩ := xmay_zero_of hm
 have hr9 := of_decide_eq_true hr9
 have hm : x.may true now = 0 := by rw [← hm, decide_eq_true hr9]
 have ht := (o.g.ks s hs).2
 have hbl := o.g.bl
 have hsE := (o.b si (List.mem_of_getElem? hi)).1
 have hdE := dialed_E si s.cn false now
 rw [hsE, List.length_nil] at hdE
 have g1 := o.g.dial1 s false hi hn1
 have hi1 : (x.dial1 s false now i si).P[i]? = some (si.dialed s.cn false now) := List.getElem?_set_self hil
 have gd := g1.drain i
 have hdnum := drain_num (Q := fun n => 0 ≤ n ∧ n ≤ 100) g1 i hnm
 have hs3 : s ∈ ((x.dial1 s false now i si).drain i).S := drain_keep g1 i hs (by rw [hst]; decide)
 obtain ⟨A3, B3, hS3⟩ := List.append_of_mem hs3
 have hE3 : ((x.dial1 s false now i si).drain i).E.length ≤ x.E.length + (si.dialed s.cn false now).E.length := drain_E hi1
 have hSl3 := nums_len gd.nd hdnum
 have hX : PX.mfld { (x.dial1 s false now i si).drain i with b := ((x.dial1 s false now i si).drain i).b.doneX ((x.dial1 s false now i si).drain i).now s.cal false } s = x.dialN s false now := by
  rw [mfld_in (x := { (x.dial1 s false now i si).drain i with b := ((x.dial1 s false now i si).drain i).b.doneX ((x.dial1 s false now i si).drain i).now s.cal false }) hS3 gd.nd, dialN_eq hbe hi, if_neg (by decide), drain_now]
  rfl
 refine Spec.of (E := [(0, ptrP M.p), (1, .agg #[.int .i64 1, .int .i64 s.num, .int .u64 (now : Int), .int .u64 (dl : Int), .string key, .bool false])]) Tryz.func52 rfl (by kernel_rfl) Tryz.ntmps52 rfl rfl (fun w => ?_)
 refine WCr (WLd Z (D_box (cs := [_, _, _, _, _, _]) Z Z Z) ?_)
 rintro _ _ ⟨b1, rfl, rfl⟩
 refine WLa Z (WL_nil (WQ_code (WCr (WLa Z (WLf Z fa43_0 (WLl Z sc3 mmD Z (WLa Z (WLa Z (WL_set (s := 14) (v := .bool false) Z (by simp) ?_)))))))))
 refine WLf Z fa43_1 (WLl Z sc3 mmD Z (WLa Z (WLa Z (WL_set (s := 18) (v := .bool true) Z (by exact congrArg Value.bool (decide_eq_true (by omega))) ?_))))
 refine WLf Z fa43_1 (WLl Z sc3 mmD Z (WLa Z (WLa Z (WLa Z (WL_set (s := 23) (v := .bool true) Z (by exact congrArg Value.bool (decide_eq_true (by omega))) ?_)))))
 refine WLf Z fa43_0 (WLl Z sc3 mmD Z (WLa Z (WLa Z (WL_set (s := 27) (v := .bool true) Z (by simp) ?_))))
 refine WLa Z (WLa Z (WLa Z (WLa Z (WLa Z (WLa Z (WLa Z ?_))))))
 first | refine WL_set (s := 34) (v := .bool true) rfl (by exact congrArg Value.bool (decide_eq_true (by omega))) ?_ | refine WL_set (s := 34) (v := .bool true) rfl rfl ?_
 refine WLf Z fa43_2 (WLl Z sc25 mmD Z (WLq Z (mwrong_ok M x true now) Z pqD ?_))
 refine WLa Z (WL_nil (WQ_code (WC_seq (WCr (WLa Z (WLa Z (WL_nil (WQ_code (WC_dF Z (by rw [hm]; simp) ?_)))))))))
 refine WC_skip (WQ_code (WCr (WLa Z (WLf Z fa43_1 (WLl Z sc3 mmD Z (WLq Z (mfind_ok M x h.sO (by omega) s.num) Z pqD ?_))))))
 rw [hid]
 refine WLa Z (WL_nil (WQ_code (WC_seq (WCr (WLf Z fa43_0 (WLl Z sc3 mmD Z (WL_nil (WQ_code (WC_block (WCr (WLa Z (WLa Z (WL_nil (WQ_code (WC_dF Z (by simp) ?_)))))))))))))))
 refine WCr (WLa Z (WLa Z (WL_nil (WQ_code (WC_dT Z (by simp) ?_)))))
 refine WC_seq (WCr (WLa Z (WLa Z (WLa Z (WL_set (s := 74) (v := .bool false) Z (by exact congrArg Value.bool (decide_eq_false (by omega))) ?_)))))
 refine WLa Z (WLa Z (WLf Z fa60_4 (WLl Z sc57 mmD Z (WLa Z (WLv Z (R_idxO hwa Z Tryz.underlying57 Tryz.sizeOf84 Z Z (by omega)) ?_)))))
 refine WLf Z fa84_5 (WLv Z (R_loadO (v := .int .i64 s.st) hwa Z sc49 Z mmD (fm_get0 encR9 hat (j := 5) (by omega))) ?_)
 refine WLa Z (WLa Z (WL_nil (WQ_code (WC_dF Z (by exact fun e9 => e9 hst) ?_))))
 refine WC_skip (WQ_code (WCr (WLa Z (WLf Z fa43_2 (WLl Z sc25 mmD Z (WLa Z (WLf Z fa60_3 (WLs (vs := [_]) Z Tryz.sizeOf25 Z Z plD (nb Z) ?_))))))))
 refine WL_shape (A := [mdE M { x with now := now }]) pqD (List.Perm.refl _) ?_
 refine WL_nil (WQ_code (WCr (WLa Z (WLa Z (WLf Z fa60_4 (WLl Z sc57 mmD Z (WLa Z (WLv Z (R_idxO hwa Z Tryz.underlying57 Tryz.sizeOf84 Z Z (by omega)) ?_))))))))
 refine WLv Z (R_loadAO (vs := encR s) hwa Z ag84 Z mmD Z (fm_at0 encR9 hat (j := 0) (vs := encR s) (fun j v h => by rw [Nat.zero_add]; exact h) (Nat.le_refl 9))) ?_
 refine WLd Z (D_alloc Z zv84) ?_
 rintro _ _ ⟨b2, rfl, rfl⟩
 refine WLs (vs := [_, _, _, _, _, _, _, _, _]) Z Tryz.sizeOf84 Z Z plD (nb Z) ?_
 refine WL_nil (WQ_code (WC_seq (WC_drawR (poolsH M.pm x.P) [(0, true), (1, true), (2, true), (3, true), (4, true), (5, true), (6, true), (7, true), (8, true), (9, true), (10, true), (11, true), (12, true), (13, true), (14, false)] followsMixed Z Z (by kernel_rfl) pqD ?_)))
 refine WMa Z (WMa Z (WMf Z fa60_1 (WMl Z sc56 mmD Z (WMf Z fa84_7 (WMl Z sc3 mmD Z (WM_set (s := 102) (v := .int .i64 (i : Int)) Z (by rw [hbe]) ?_))))))
 refine WMv Z (R_idxO hwq Z Tryz.underlying56 Tryz.sizeOf79 Z Z (by omega)) ?_
 refine WMv Z (R_loadO (v := ptrP mi.p) hwq Z sc79 Z mmD (fm_get0 encPq1 hmi (j := 0) (by omega))) ?_
 refine WMf Z fa84_8 (WMl Z sc3 mmD Z (WMf Z fa43_5 (WMl Z sc4 mmD Z (WMf Z fa43_2 (WMl Z sc25 mmD Z (WMd Z (D_call (xp_dialed hmi hi (h.po i mi si hmi hi) (by rw [hsE]; exact Nat.zero_le _) s.cn false now (by omega)) Z Z Z Z pqD) ?_))))))
 rintro _ _ ⟨_, ⟨m1, rfl, rfl, hp1, h1⟩, rfl⟩
 refine ⟨⟨_, pqD⟩, ?_⟩
 refine WM_nil (WQ_code (WC_seq (WCr (WLf Z fa43_5 (WLl Z sc4 mmD Z (WL_shape (A := [mdE M { x with now := now }, mdQ M]) pqD (md_pm (s' := si.dialed s.cn false now) hmi hp1 now) ?_))))))
 have h1x : MIs N { M with pm := M.pm.set i m1 } (x.dial1 s false now i si) := (h.at_ (now := now) (by omega)).pool (x := { x with now := now }) hmi hp1 h1
 refine WL_nil (WQ_code (WC_F Z (WC_skip (WQ_code (WCr (WLa Z (WLf Z fa84_7 (WLl Z sc3 mmD Z (WL_set (s := 121) (v := .int .i64 (i : Int)) Z (by rw [hbe]) ?_)))))))))
 refine WLc Z (mdrain_ok h1x g1 hnm hi1 (by omega) (by show x.E.length + _ ≤ _; omega) (by omega)) Z pqD ?_
 rintro _ _ ⟨_, ⟨M2, N2, rfl, rfl, hN2, h2, hp2⟩, rfl⟩
 refine WL_nil (WQ_code (WC_seq (WC_drawR (balH M2.bm) [(0, true), (1, true), (2, true), (3, true), (4, true), (5, true), (6, true), (7, true), (8, false)] followsMixed Z Z (by kernel_rfl) pqD ?_)))
 refine WMa Z (WM_set (s := 123) (v := ptrP M2.p) Z (by rw [hp2]) ?_)
 refine WMa Z (WMf Z fa60_0 (WMl Z sc55 mmD Z (WMf Z fa43_2 (WMl Z sc25 mmD Z (WM_set (s := 128) (v := .int .u64 (((x.dial1 s false now i si).drain i).now : Int)) Z (by rw [drain_now]; rfl) ?_)))))
 refine WMf Z fa84_6 (WMl Z sc3 mmD Z (WMd Z (D_call (bdt_ok h2.bal (by omega) ((x.dial1 s false now i si).drain i).now s.cal false gd.bl h2.now) Z Z Z Z pqD) ?_))
 rintro _ _ ⟨_, ⟨bm1, e0, rfl, rfl, hbp1, hb1⟩, rfl⟩
 refine ⟨⟨_, pqD⟩, ?_⟩
 refine WM_nil (WQ_code (WC_region (WLa Z (WL_set (s := 132) (v := ptrP M2.p) Z (by rw [hp2]) ?_))))
 refine WL_shape (A := [mdE M2 ((x.dial1 s false now i si).drain i)]) pqD (List.Perm.of_eq (congrArg (fun q => [q]) (mdE_bm hbp1 (((x.dial1 s false now i si).drain i).b.doneX ((x.dial1 s false now i si).drain i).now s.cal false)))) ?_
 refine WLv Z (R_loadA (vs := [_, _, _, _, _, _, _, _, _]) Z ag84 Z mmD Z atZ) ?_
 refine WLc Z (mfailed_ok { M2 with bm := bm1 } { (x.dial1 s false now i si).drain i with b := ((x.dial1 s false now i si).drain i).b.doneX ((x.dial1 s false now i si).drain i).now s.cal false } h2.sO (by show ((x.dial1 s false now i si).drain i).S.length ≤ _; omega) h2.eO (by show ((x.dial1 s false now i si).drain i).E.length ≤ _; omega) gd.nd h2.ok h2.seed h2.now s (by omega)) Z pqD ?_
 rintro _ _ ⟨_, ⟨so1, sc1, stl1, eb1, ek1, ec1, epre1, etl1, rfl, rfl, hO1, hV1⟩, rfl⟩
 refine WL_nil (WQ_code (WCr (WLa Z (WL_nil (WQ_code (WC_ret ?_))))))
 have hf9 := mfld_f { (x.dial1 s false now i si).drain i with b := ((x.dial1 s false now i si).drain i).b.doneX ((x.dial1 s false now i si).drain i).now s.cal false } s
 rw [← hX]
 refine WQ1 Z (by
   exact ⟨{ M2 with bm := bm1, so := so1, sc := sc1, stl := stl1, eb := eb1, ek := ek1, ec := ec1, epre := epre1, etl := etl1 }, rfl, by unfold mdH; rw [hf9.2.1], ((h2.done hb1).s3 hf9.1 hf9.2.1 hf9.2.2.1 hf9.2.2.2 hO1 hV1).le (by omega), hp2⟩) pqD
theorem mdo2_ok {N : Nat} {M : MM} {x : PX} (h : MIs N M x) {w b e : Nat} (o : PXO w b e x) (hnm : ∀ s ∈ x.S, 0 ≤ s.num ∧ s.num ≤ 100) (hN : N ≤ 7000) (he9 : e ≤ 10000) (hb9 : b ≤ 1000000) (dl : Nat) (key : ByteArray) {A B : List Ss} {s : Ss} (hS : x.S = A ++ s :: B) (hst : s.st = 4) (good : Bool) {now : Nat} (hb : now ≤ 18446744073709551615) (hm : x.may (decide (0 ≤ s.num ∧ s.num ≤ 100)) now = 0) {i : Nat} {si : PS} (hbe : s.be = (i : Int)) (hi : x.P[i]? = some si) : Spec Tryz.prog 52 [ptrP M.p, .agg #[.int .i64 2, .int .i64 s.num, .int .u64 (now : Int), .int .u64 (dl : Int), .string key, .bool good]] (mdH M x) (fun r H' => ∃ M', r = .int .i64 (0) ∧ H' = mdH M' (x.endN s good now) ∧ MIs (N + 3) M' (x.endN s good now) ∧ M'.p = M.p) := by
 have hSl := nums_len o.g.nd hnm
 have hE9 := o.e
 have hs : s ∈ x.S := by rw [hS]; exact List.mem_append_right _ (List.mem_cons_self ..)
 have hnd := o.g.nd
 have hid : idS s.num x.S = (A.length : Int) := idS_at hS hnd
 have hat : x.S[A.length]? = some s := by rw [hS, List.getElem?_append_right (Nat.le_refl _), Nat.sub_self]; rfl
 have hAl := (List.getElem?_eq_some_iff.1 hat).1
 obtain ⟨wa, hwa⟩ := h.sO.some_of (by omega)
 obtain ⟨mi, hmi⟩ := mpool_at h hi
 have hil := (List.getElem?_eq_some_iff.1 hi).1
 have hpl := h.oq.len
 obtain ⟨wq, hwq⟩ := h.oq.some_of (by omega)
 obtain ⟨hr9, hn1, hn2⟩ := xmay_zero_of hm
 have hr9 := of_decide_eq_true hr9
 have hm : x.may true now = 0 := by rw [← hm, decide_eq_true hr9]
 have ht := (o.g.ks s hs).2
 have hbl := o.g.bl
 have hsE := (o.b si (List.mem_of_getElem? hi)).1
 have hpE := put_E si s.cn good now
 rw [hsE, List.length_nil] at hpE
 have g1 := o.g.end1 hS hst good hi hn1
 have hi1 : (x.P.set i (si.put s.cn good now))[i]? = some (si.put s.cn good now) := List.getElem?_set_self hil
 have hfl : x.S.filter (fun y => decide (y.num ≠ s.num)) = A ++ B := filt_num hS hnd
 have hnm2 : ∀ y ∈ A ++ B, 0 ≤ y.num ∧ y.num ≤ 100 := by rw [hS] at hnm; exact mem_drop (p := fun y => 0 ≤ y.num ∧ y.num ≤ 100) hnm
 have hX : x.endN s good now = PX.drain ({ x with now := now, P := x.P.set i (si.put s.cn good now), b := x.b.doneX now s.cal good, S := A ++ B } : PX) i := by
  rw [endN_eq hbe hi]; unfold PX.end1; rw [filt_num hS hnd]
 refine Spec.of (E := [(0, ptrP M.p), (1, .agg #[.int .i64 2, .int .i64 s.num, .int .u64 (now : Int), .int .u64 (dl : Int), .string key, .bool good])]) Tryz.func52 rfl (by kernel_rfl) Tryz.ntmps52 rfl rfl (fun w => ?_)
 refine WCr (WLd Z (D_box (cs := [_, _, _, _, _, _]) Z Z Z) ?_)
 rintro _ _ ⟨b1, rfl, rfl⟩
 refine WLa Z (WL_nil (WQ_code (WCr (WLa Z (WLf Z fa43_0 (WLl Z sc3 mmD Z (WLa Z (WLa Z (WL_set (s := 14) (v := .bool false) Z (by simp) ?_)))))))))
 refine WLf Z fa43_1 (WLl Z sc3 mmD Z (WLa Z (WLa Z (WL_set (s := 18) (v := .bool true) Z (by exact congrArg Value.bool (decide_eq_true (by omega))) ?_))))
 refine WLf Z fa43_1 (WLl Z sc3 mmD Z (WLa Z (WLa Z (WLa Z (WL_set (s := 23) (v := .bool true) Z (by exact congrArg Value.bool (decide_eq_true (by omega))) ?_)))))
 refine WLf Z fa43_0 (WLl Z sc3 mmD Z (WLa Z (WLa Z (WL_set (s := 27) (v := .bool true) Z (by simp) ?_))))
 refine WLa Z (WLa Z (WLa Z (WLa Z (WLa Z (WLa Z (WLa Z ?_))))))
 first | refine WL_set (s := 34) (v := .bool true) rfl (by exact congrArg Value.bool (decide_eq_true (by omega))) ?_ | refine WL_set (s := 34) (v := .bool true) rfl rfl ?_
 refine WLf Z fa43_2 (WLl Z sc25 mmD Z (WLq Z (mwrong_ok M x true now) Z pqD ?_))
 refine WLa Z (WL_nil (WQ_code (WC_seq (WCr (WLa Z (WLa Z (WL_nil (WQ_code (WC_dF Z (by rw [hm]; simp) ?_)))))))))
 refine WC_skip (WQ_code (WCr (WLa Z (WLf Z fa43_1 (WLl Z sc3 mmD Z (WLq Z (mfind_ok M x h.sO (by omega) s.num) Z pqD ?_))))))
 rw [hid]
 refine WLa Z (WL_nil (WQ_code (WC_seq (WCr (WLf Z fa43_0 (WLl Z sc3 mmD Z (WL_nil (WQ_code (WC_block (WCr (WLa Z (WLa Z (WL_nil (WQ_code (WC_dF Z (by simp) ?_)))))))))))))))
 refine WCr (WLa Z (WLa Z (WL_nil (WQ_code (WC_dF Z (by simp) ?_)))))
 refine WCr (WLa Z (WLa Z (WL_nil (WQ_code (WC_dT Z (by simp) ?_)))))
 refine WC_seq (WCr (WLa Z (WLa Z (WLa Z (WL_set (s := 139) (v := .bool false) Z (by exact congrArg Value.bool (decide_eq_false (by omega))) ?_)))))
 refine WLa Z (WLa Z (WLf Z fa60_4 (WLl Z sc57 mmD Z (WLa Z (WLv Z (R_idxO hwa Z Tryz.underlying57 Tryz.sizeOf84 Z Z (by omega)) ?_)))))
 refine WLf Z fa84_5 (WLv Z (R_loadO (v := .int .i64 s.st) hwa Z sc49 Z mmD (fm_get0 encR9 hat (j := 5) (by omega))) ?_)
 refine WLa Z (WLa Z (WL_nil (WQ_code (WC_dF Z (by exact fun e9 => e9 hst) ?_))))
 refine WC_skip (WQ_code (WCr (WLa Z (WLf Z fa43_2 (WLl Z sc25 mmD Z (WLa Z (WLf Z fa60_3 (WLs (vs := [_]) Z Tryz.sizeOf25 Z Z plD (nb Z) ?_))))))))
 refine WL_shape (A := [mdE M { x with now := now }]) pqD (List.Perm.refl _) ?_
 refine WL_nil (WQ_code (WCr (WLa Z (WLa Z (WLf Z fa60_4 (WLl Z sc57 mmD Z (WLa Z (WLv Z (R_idxO hwa Z Tryz.underlying57 Tryz.sizeOf84 Z Z (by omega)) ?_))))))))
 refine WLv Z (R_loadAO (vs := encR s) hwa Z ag84 Z mmD Z (fm_at0 encR9 hat (j := 0) (vs := encR s) (fun j v h => by rw [Nat.zero_add]; exact h) (Nat.le_refl 9))) ?_
 refine WLd Z (D_alloc Z zv84) ?_
 rintro _ _ ⟨b2, rfl, rfl⟩
 refine WLs (vs := [_, _, _, _, _, _, _, _, _]) Z Tryz.sizeOf84 Z Z plD (nb Z) ?_
 refine WL_nil (WQ_code (WC_seq (WC_drawR (poolsH M.pm x.P) [(0, true), (1, true), (2, true), (3, true), (4, true), (5, true), (6, true), (7, true), (8, true), (9, true), (10, true), (11, true), (12, true), (13, true), (14, false)] followsMixed Z Z (by kernel_rfl) pqD ?_)))
 refine WMa Z (WMa Z (WMf Z fa60_1 (WMl Z sc56 mmD Z (WMf Z fa84_7 (WMl Z sc3 mmD Z (WM_set (s := 167) (v := .int .i64 (i : Int)) Z (by rw [hbe]) ?_))))))
 refine WMv Z (R_idxO hwq Z Tryz.underlying56 Tryz.sizeOf79 Z Z (by omega)) ?_
 refine WMv Z (R_loadO (v := ptrP mi.p) hwq Z sc79 Z mmD (fm_get0 encPq1 hmi (j := 0) (by omega))) ?_
 refine WMf Z fa84_8 (WMl Z sc3 mmD Z (WMf Z fa43_5 (WMl Z sc4 mmD Z (WMf Z fa43_2 (WMl Z sc25 mmD Z (WMd Z (D_call (xp_put hmi hi (h.po i mi si hmi hi) (by rw [hsE]; exact Nat.zero_le _) s.cn good now (by omega)) Z Z Z Z pqD) ?_))))))
 rintro _ _ ⟨_, ⟨m1, rfl, rfl, hp1, h1⟩, rfl⟩
 refine ⟨⟨_, pqD⟩, ?_⟩
 refine WM_nil (WQ_code (WC_seq (WC_drawR (balH M.bm) [(0, true), (1, true), (2, true), (3, true), (4, true), (5, true), (6, true), (7, true), (8, true), (9, true), (10, false)] followsMixed Z Z (by kernel_rfl) pqD ?_)))
 refine WMa Z (WMa Z (WMf Z fa60_0 (WMl Z sc55 mmD Z (WMf Z fa43_2 (WMl Z sc25 mmD Z (WMf Z fa84_6 (WMl Z sc3 mmD Z (WMf Z fa43_5 (WMl Z sc4 mmD Z (WMd Z (D_call (bdt_ok h.bal (by omega) now s.cal good (by omega) (by omega)) Z Z Z Z pqD) ?_))))))))))
 rintro _ _ ⟨_, ⟨bm1, e0, rfl, rfl, hbp1, hb1⟩, rfl⟩
 refine ⟨⟨_, pqD⟩, ?_⟩
 refine WM_nil (WQ_code (WCr (WLa Z (WL_shape (A := [mdE M { x with now := now }, mdQ M]) pqD (md_pmB (s' := si.put s.cn good now) hmi hp1 hbp1 now (x.b.doneX now s.cal good)) ?_))))
 refine WLf Z fa43_1 (WLl Z sc3 mmD Z (WLc Z (mrem_ok { M with pm := M.pm.set i m1, bm := bm1 } ({ x with now := now, P := x.P.set i (si.put s.cn good now), b := x.b.doneX now s.cal good } : PX) h.sO (by show x.S.length ≤ _; omega) s.num) Z pqD ?_))
 rintro _ _ ⟨_, ⟨so1, sc1, stl1, rfl, rfl, hO1⟩, rfl⟩
 refine WL_nil (WQ_code (WC_region (WLa Z ?_)))
 rw [hfl] at hO1
 have h7 : MIs (N + 1) { M with pm := M.pm.set i m1, bm := bm1, so := so1, sc := sc1, stl := stl1 } ({ x with now := now, P := x.P.set i (si.put s.cn good now), b := x.b.doneX now s.cal good, S := A ++ B } : PX) := (((h.at_ (now := now) (by omega)).pool (x := { x with now := now }) hmi hp1 h1).done hb1).s3 (x2 := ({ x with now := now, P := x.P.set i (si.put s.cn good now), b := x.b.doneX now s.cal good, S := A ++ B } : PX)) (eb := M.eb) (ek := M.ek) (ec := M.ec) (epre := M.epre) (etl := M.etl) rfl rfl rfl rfl hO1 h.eO
 refine WL_shape (A := [mdE { M with pm := M.pm.set i m1, bm := bm1, so := so1, sc := sc1, stl := stl1 } { ({ x with now := now, P := x.P.set i (si.put s.cn good now), b := x.b.doneX now s.cal good } : PX) with S := x.S.filter fun y => decide (y.num ≠ s.num) }, mdS { M with pm := M.pm.set i m1, bm := bm1, so := so1, sc := sc1, stl := stl1 } { ({ x with now := now, P := x.P.set i (si.put s.cn good now), b := x.b.doneX now s.cal good } : PX) with S := x.S.filter fun y => decide (y.num ≠ s.num) }]) (A' := [mdE { M with pm := M.pm.set i m1, bm := bm1, so := so1, sc := sc1, stl := stl1 } ({ x with now := now, P := x.P.set i (si.put s.cn good now), b := x.b.doneX now s.cal good, S := A ++ B } : PX), mdS { M with pm := M.pm.set i m1, bm := bm1, so := so1, sc := sc1, stl := stl1 } ({ x with now := now, P := x.P.set i (si.put s.cn good now), b := x.b.doneX now s.cal good, S := A ++ B } : PX)]) pqD (by rw [hfl]) ?_
 refine WLf Z fa84_7 (WLl Z sc3 mmD Z (WL_set (s := 194) (v := .int .i64 (i : Int)) Z (by rw [hbe]) ?_))
 refine WLc Z (mdrain_ok h7 g1 hnm2 hi1 (by omega) (by show x.E.length + _ ≤ _; omega) (by omega)) Z pqD ?_
 rintro _ _ ⟨_, ⟨M2, N2, rfl, rfl, hN2, h2, hp2⟩, rfl⟩
 refine WL_nil (WQ_code (WCr (WLa Z (WL_nil (WQ_code (WC_ret ?_))))))
 rw [hX]
 refine WQ1 Z (by
   exact ⟨M2, rfl, rfl, h2.le (by omega), hp2⟩) pqD
theorem mdo3_ok {N : Nat} {M : MM} {x : PX} (h : MIs N M x) {w b e : Nat} (o : PXO w b e x) (hnm : ∀ s ∈ x.S, 0 ≤ s.num ∧ s.num ≤ 100) (hN : N ≤ 7000) (he9 : e ≤ 10000) (hb9 : b ≤ 1000000) (hw9 : w ≤ 400) (hPl : x.P.length ≤ 100) (n : Int) (dl : Nat) (key : ByteArray) (good : Bool) {now : Nat} (hb : now ≤ 18446744073709551615) (hm : x.may true now = 0) (h19 : ∀ si ∈ x.P, si.cnt 3 ≤ 19) : Spec Tryz.prog 52 [ptrP M.p, .agg #[.int .i64 3, .int .i64 n, .int .u64 (now : Int), .int .u64 (dl : Int), .string key, .bool good]] (mdH M x) (fun r H' => ∃ M', r = .int .i64 (0) ∧ H' = mdH M' (x.adv now) ∧ MIs (N + w + 101) M' (x.adv now) ∧ M'.p = M.p) := by
 have hSl := nums_len o.g.nd hnm
 have hE9 := o.e
 obtain ⟨_, hn1, hn2⟩ := xmay_zero_of hm
 have hev := evS_le o.g o.b now
 have hww := o.w
 have hwP : wP x.P ≤ wX x := Nat.le_add_right _ _
 have hB := o.b
 refine Spec.of (E := [(0, ptrP M.p), (1, .agg #[.int .i64 3, .int .i64 n, .int .u64 (now : Int), .int .u64 (dl : Int), .string key, .bool good])]) Tryz.func52 rfl (by kernel_rfl) Tryz.ntmps52 rfl rfl (fun w => ?_)
 refine WCr (WLd Z (D_box (cs := [_, _, _, _, _, _]) Z Z Z) ?_)
 rintro _ _ ⟨b1, rfl, rfl⟩
 refine WLa Z (WL_nil (WQ_code (WCr (WLa Z (WLf Z fa43_0 (WLl Z sc3 mmD Z (WLa Z (WLa Z (WL_set (s := 14) (v := .bool true) Z (by simp) ?_)))))))))
 refine WLa Z (WLa Z (WLa Z (WLa Z (WLa Z (WLa Z (WLa Z (WLa Z (WLa Z (WLa Z (WLa Z (WLa Z (WLa Z (WLa Z (WLa Z (WLa Z (WLa Z (WLa Z (WLa Z (WLa Z (WLf Z fa43_2 (WLl Z sc25 mmD Z (WLq Z (mwrong_ok M x true now) Z pqD ?_))))))))))))))))))))))
 refine WLa Z (WL_nil (WQ_code (WC_seq (WCr (WLa Z (WLa Z (WL_nil (WQ_code (WC_dF Z (by rw [hm]; simp) ?_)))))))))
 refine WC_skip (WQ_code (WCr (WLa Z (WLf Z fa43_1 (WLl Z sc3 mmD Z (WLq Z (mfind_ok M x h.sO (by omega) n) Z pqD ?_))))))
 refine WLa Z (WL_nil (WQ_code (WC_seq (WCr (WLf Z fa43_0 (WLl Z sc3 mmD Z (WL_nil (WQ_code (WC_block (WCr (WLa Z (WLa Z (WL_nil (WQ_code (WC_dF Z (by simp) ?_)))))))))))))))
 refine WCr (WLa Z (WLa Z (WL_nil (WQ_code (WC_dF Z (by simp) ?_)))))
 refine WCr (WLa Z (WLa Z (WL_nil (WQ_code (WC_dF Z (by simp) ?_)))))
 refine WCr (WLa Z (WLa Z (WL_nil (WQ_code (WC_dT Z (by simp) ?_)))))
 refine WCr (WLa Z (WLf Z fa43_2 (WLl Z sc25 mmD Z (WLa Z (WLf Z fa60_3 (WLs (vs := [_]) Z Tryz.sizeOf25 Z Z plD (nb Z) ?_))))))
 refine WL_shape (A := [mdE M { x with now := now }]) pqD (List.Perm.refl _) ?_
 have h0 : MIs N M { x with now := now } := h.at_ (by omega)
 have g0 := o.g.at_ hn1
 refine WL_nil (WQ_code (WC_seq (WCr (WLa Z (WL_nil (WQ_code (WC_block (WC_loopF (G := RtM) [9, 203, 204, 205, 206, 207, 208, 209, 210, 211, 212, 213, 214, 215, 216, 217, 218, 219, 220, 221, 222, 223, 224] (fun y => y.k ≤ x.P.length ∧ MIs y.N y.M y.x ∧ PXG y.x ∧ y.M.p = M.p ∧ y.x = x.advK now y.k ∧ y.N + evS now (x.P.drop y.k) ≤ N + evS now x.P ∧ y.x.E.length + evS now (x.P.drop y.k) ≤ x.E.length + evS now x.P ∧ ∀ s ∈ y.x.S, 0 ≤ s.num ∧ s.num ≤ 100) (fun y => [(9, .int .i64 (y.k : Int))]) (fun y => mdH y.M y.x) (fun y => x.P.length - y.k) (⟨0, M, { x with now := now }, N⟩) (⟨Nat.zero_le _, h0, g0, Z, Z, Nat.le_refl _, Nat.le_refl _, hnm⟩) leZ pqD ?_))))))))
 rintro y ⟨hk, gy, ggy, hyp, hyx, hyN, hyE, hny⟩
 have hyPl : y.x.P.length = x.P.length := by rw [hyx]; exact (advK_facts x now y.k).2.2.1
 refine WC_seq (WCr (WLa Z (WLa Z (WL_set (s := 204) (v := ptrP y.M.p) Z (by rw [hyp]) ?_))))
 refine WLa Z (WLf Z fa60_1 (WLl Z sc56 mmD Z (WLv Z (R_len Z Tryz.underlying56 Z) ?_)))
 refine WLa Z (WL_nil (WQ_code ?_))
 refine WC_dec Z (fun c1 => ?_) (fun c1 => ?_)
 ·have hyPl : y.x.P.length = x.P.length := by rw [hyx]; exact (advK_facts x now y.k).2.2.1
  obtain ⟨si, hsx⟩ := getE (T := x.P) (i := y.k) (by omega)
  have hsm := List.mem_of_getElem? hsx
  have hi : y.x.P[y.k]? = some si := by rw [hyx, (advK_facts x now y.k).2.2.2 y.k (Nat.le_refl _)]; exact hsx
  obtain ⟨my, hmy⟩ := mpool_at gy hi
  have hpl := gy.oq.len
  obtain ⟨wq, hwq⟩ := gy.oq.some_of (by omega)
  have hily := (List.getElem?_eq_some_iff.1 hi).1
  have hevd := evS_drop (now := now) hsx
  have hevl := evS_dle now x.P y.k
  have hynow : y.x.now = now := by rw [hyx]; exact (advK_facts x now y.k).1
  have hpo9 := ggy.po y.k si hi
  have hi1 : ({ y.x with P := y.x.P.set y.k (si.advance now) } : PX).P[y.k]? = some (si.advance now) := List.getElem?_set_self hily
  have gg1 : PXG { y.x with P := y.x.P.set y.k (si.advance now) } := by
   obtain ⟨q1, q2⟩ := ph_adv hpo9.ph hpo9.nw
   rw [hynow] at q1 q2
   exact ggy.pool hi (by rw [hynow] at hpo9 ⊢; exact hpo9.op (opd_adv (pend_who hpo9) now) q1 q2)
  have hadv : x.advK now (y.k + 1) = PX.drain { y.x with P := y.x.P.set y.k (si.advance now) } y.k := by
   rw [advK_next, ← hyx]
   unfold PX.advP
   rw [hi]
  have hE10 : (PX.drain { y.x with P := y.x.P.set y.k (si.advance now) } y.k).E.length ≤ y.x.E.length + (si.advance now).E.length := drain_E hi1
  have hn10 := drain_num (Q := fun n => 0 ≤ n ∧ n ≤ 100) gg1 y.k hny
  refine WC_skip (WQ_code (WC_seq (WC_block (WC_seq (WC_drawR (poolsH y.M.pm y.x.P) [(0, true), (1, true), (2, true), (3, true), (4, true), (5, true), (6, true), (7, true), (8, true), (9, false)] followsMixed Z Z (by kernel_rfl) pqD ?_)))))
  refine WMa Z (WM_set (s := 212) (v := ptrP y.M.p) Z (by rw [hyp]) ?_)
  refine WMa Z (WMf Z fa60_1 (WMl Z sc56 mmD Z (WMa Z (WMv Z (R_idxO hwq Z Tryz.underlying56 Tryz.sizeOf79 Z Z (by omega)) ?_))))
  refine WMv Z (R_loadO (v := ptrP my.p) hwq Z sc79 Z mmD (fm_get0 encPq1 hmy (j := 0) (by omega))) ?_
  refine WMf Z fa43_2 (WMl Z sc25 mmD Z (WMd Z (D_call (xp_adv hmy hi (gy.po _ _ _ hmy hi) (by rw [(hB si hsm).1]; exact Nat.zero_le _) now (by omega) (h19 si hsm)) Z Z Z Z pqD) ?_))
  rintro _ _ ⟨_, ⟨m1, rfl, rfl, hp1, h1⟩, rfl⟩
  refine ⟨⟨_, pqD⟩, ?_⟩
  refine WM_nil (WQ_code (WC_region (WLa Z (WL_set (s := 222) (v := ptrP y.M.p) Z (by rw [hyp]) ?_))))
  refine WL_shape (A := [mdE y.M { y.x with now := y.x.now }, mdQ y.M]) (A' := [mdE { y.M with pm := y.M.pm.set y.k m1 } { y.x with P := y.x.P.set y.k (si.advance now) }, mdQ { y.M with pm := y.M.pm.set y.k m1 }]) pqD (md_pm (s' := si.advance now) hmy hp1 y.x.now) ?_
  have gn0 : MIs y.N { y.M with pm := y.M.pm.set y.k m1 } { y.x with P := y.x.P.set y.k (si.advance now) } := gy.pool hmy hp1 h1
  refine WLa Z (WLc Z (mdrain_ok gn0 gg1 hny hi1 (by omega) (by show y.x.E.length + _ ≤ _; omega) (by omega)) Z pqD ?_)
  rintro _ _ ⟨_, ⟨M2, N2, rfl, rfl, hN2, g2, hp2⟩, rfl⟩
  refine WL_nil (WQ_code (WC_region (WLa Z (WLv Z (R_add Z Z Z (by omega)) ?_))))
  refine WLa Z (WL_nil ?_)
  refine WQ_nextF (⟨y.k + 1, M2, PX.drain { y.x with P := y.x.P.set y.k (si.advance now) } y.k, N2⟩) (⟨by dsimp only; omega, g2, gg1.drain y.k, hp2.trans hyp, hadv.symm, by dsimp only; omega, by show (PX.drain { y.x with P := y.x.P.set y.k (si.advance now) } y.k).E.length + evS now (x.P.drop (y.k + 1)) ≤ _; omega, hn10⟩) (by dsimp only; omega) leZ (psZ) Z pqD
 ·have hyPl : y.x.P.length = x.P.length := by rw [hyx]; exact (advK_facts x now y.k).2.2.1
  refine WC_exit (WQ_code (WC_region ?_))
  have hkl : y.k = x.P.length := by omega
  have hyx2 : y.x = x.advK now x.P.length := by rw [hyx, hkl]
  have hynow : y.x.now = now := by rw [hyx]; exact (advK_facts x now y.k).1
  have hBy : PXB (b + 1) y.x := by rw [hyx]; exact advK_B o.g hB now y.k
  have hdrop0 : evS now (x.P.drop y.k) = 0 := by rw [hkl, List.drop_length]; rfl
  refine WLa Z (WL_set (s := 225) (v := ptrP y.M.p) Z (by rw [hyp]) ?_)
  refine WLc Z (mretry_ok gy ggy hny (by omega) (by omega) hBy (by omega) (by rw [hynow]; exact hn2)) Z pqD ?_
  rintro _ _ ⟨_, ⟨M3, N3, rfl, rfl, hN3, h3, hp3⟩, rfl⟩
  refine WL_nil (WQ_code (WCr (WLa Z (WL_nil (WQ_code (WC_ret ?_))))))
  have hX9 : x.adv now = y.x.due.foldl (PX.dueF y.x.now) y.x := by rw [hynow, hyx2]; rfl
  rw [hX9]
  refine WQ1 Z (by
    exact ⟨M3, rfl, rfl, h3.le (by omega), hp3.trans hyp⟩) pqD
theorem xl_next {N : Nat} {m : XM} {x : PX} (h : PXIs N m x) : Spec Tryz.prog 20 [ptrP m.p] (pxH m x) (fun r H' => ∃ m', r = .tuple #[xvV (hdX x.E), .bool (!x.E.isEmpty)] ∧ H' = pxH m' x.nx ∧ PXIs N m' x.nx ∧ m'.p = m.p) := by
 cases hE : x.E with
 | nil =>
  have hX : x.nx = x := by unfold PX.nx; rw [hE]; show { x with E := [] } = x; rw [← hE]
  rw [hX]
  refine (pre1 (R := [pxM m, pxV m x, pxQ m] ++ (ssH x.S ++ (balH m.bm ++ poolsH m.pm x.P))) (xnext_none m x hE)).mono ?_
  rintro r H' ⟨h1, h2⟩
  exact ⟨m, h1, h2, h, rfl⟩
 | cons v q =>
  refine Spec.re ((((xnext_some m x h.eO hE).fr ([pxM m, pxQ m] ++ (ssH x.S ++ (balH m.bm ++ poolsH m.pm x.P)))).perm (List.Perm.cons _ (List.Perm.swap _ _ _))).mono ?_)
  rintro r H' ⟨H1, ⟨ek, ec, epre, hr, rfl, hO⟩, rfl⟩
  exact ⟨pxH { m with ek := ek, ec := ec, epre := epre } x.nx, List.Perm.cons _ (List.Perm.swap _ _ _), _, hr, rfl, ⟨h.bal, h.len, h.po, h.oq, h.mp, hO, h.ok, h.seed, h.num, h.vl, h.now⟩, rfl⟩
theorem xl_state {N : Nat} {m : XM} {x : PX} (h : PXIs N m x) (n : Int) : Spec Tryz.prog 18 [ptrP m.p, .int .i64 n] (pxH m x) (fun r H' => r = .tuple #[.int .i64 (x.stX n).1, .int .i64 (x.stX n).2.1, .int .i64 (x.stX n).2.2] ∧ H' = pxH m x) := by
 by_cases hin : n ∈ x.S.map (·.num)
 ·obtain ⟨s, hs, rfl⟩ := List.mem_map.1 hin
  have hnd : (x.S.map (·.num)).Nodup := by rw [← sesM_keys]; exact h.mp.nodup
  have hX : x.stX s.num = (s.st, s.be, s.cn) := by unfold PX.stX; rw [find_num hnd hs]
  obtain ⟨A, B, hS⟩ := List.append_of_mem hs
  have hperm : (ssH x.S).Perm (seE s :: ssH (A ++ B)) := by rw [hS]; exact ssH_split A B s
  rw [hX]
  refine Spec.re ((((xstate_in m x h.mp s (List.mem_map_of_mem (f := fun s : Ss => (s.num, s.p)) hs)).fr _).perm (px_perm5 hperm)).mono ?_)
  rintro r H' ⟨H1, ⟨hr, rfl⟩, rfl⟩
  exact ⟨pxH m x, (px_perm5 hperm).symm, hr, rfl⟩
 ·have hX : x.stX n = (0, -1, -1) := by unfold PX.stX; rw [find_out hin]
  rw [hX]
  exact pre2 (R := [pxV m x, pxQ m] ++ (ssH x.S ++ (balH m.bm ++ poolsH m.pm x.P))) (xstate_out m x h.mp n (by rw [sesM_keys]; exact hin))
theorem lis_ok {N : Nat} {m : XM} {x : PX} (h : PXIs N m x) (n st be cn : Int) : Spec Tryz.prog 21 [ptrP m.p, .int .i64 n, .int .i64 st, .int .i64 be, .int .i64 cn] (pxH m x) (fun r H' => r = .bool (decide (x.stX n = (st, be, cn))) ∧ H' = pxH m x) := by
 have key : (x.stX n = (st, be, cn)) ↔ (x.stX n).1 = st ∧ (x.stX n).2.1 = be ∧ (x.stX n).2.2 = cn := by
  rcases x.stX n with ⟨a, b, c⟩
  simp
 rw [decide_eq_decide.2 key]
 refine Spec.of (E := [(0, ptrP m.p), (1, .int .i64 n), (2, .int .i64 st), (3, .int .i64 be), (4, .int .i64 cn)]) Tryz.func21 rfl (by kernel_rfl) Tryz.ntmps21 rfl rfl (fun w => ?_)
 refine WCr (WLa Z (WL_nil (WQ_code (WCr (WLa Z (WLa Z (WLc Z (xl_state h n) Z pqD ?_)))))))
 rintro _ _ ⟨_, ⟨rfl, rfl⟩, rfl⟩
 refine WLa Z (WLa Z (WLa Z (WLa Z (WLa Z (WLa Z (WLa Z (WL_nil (WQ_code (WCr (WLa Z (WLa Z (WLa Z (WLa Z ?_)))))))))))))
 refine WL_splitD (s := 24) Z (fun c1 => ?_) (fun c1 => ?_)
 ·have hg1 := c1
  refine WLa Z (WLa Z (WLa Z (WLa Z (WLa Z ?_))))
  refine WL_splitD (s := 29) Z (fun c2 => ?_) (fun c2 => ?_)
  ·have hg2 := c2
   refine WLa Z (WLa Z (WLa Z (WLa Z (WLa Z (WL_nil (WQ_code (WC_ret ?_)))))))
   refine WQ1 Z (by
     first | exact ⟨congrArg Value.bool (decide_eq_decide.2 (by omega)), rfl⟩ | exact ⟨congrArg Value.bool (decide_eq_false (by omega)).symm, rfl⟩ | exact ⟨congrArg Value.bool (by simp_all), rfl⟩) pqD
  ·have hg2 := c2
   refine WLa Z (WLa Z (WLa Z (WLa Z (WLa Z (WL_nil (WQ_code (WC_ret ?_)))))))
   refine WQ1 Z (by
     first | exact ⟨congrArg Value.bool (decide_eq_decide.2 (by omega)), rfl⟩ | exact ⟨congrArg Value.bool (decide_eq_false (by omega)).symm, rfl⟩ | exact ⟨congrArg Value.bool (by simp_all), rfl⟩) pqD
 ·have hg1 := c1
  refine WLa Z (WLa Z (WLa Z (WLa Z (WLa Z (WLa Z (WLa Z (WLa Z (WLa Z (WLa Z (WL_nil (WQ_code (WC_ret ?_))))))))))))
  refine WQ1 Z (by
    first | exact ⟨congrArg Value.bool (decide_eq_decide.2 (by omega)), rfl⟩ | exact ⟨congrArg Value.bool (decide_eq_false (by omega)).symm, rfl⟩ | exact ⟨congrArg Value.bool (by simp_all), rfl⟩) pqD
theorem ltells_ok {N : Nat} {m : XM} {x : PX} (h : PXIs N m x) {k s b c e : Int} {r : List Xv} (hE : x.E = ⟨k, s, b, c, e⟩ :: r) : Spec Tryz.prog 25 [ptrP m.p, .int .i64 k, .int .i64 s, .int .i64 b, .int .i64 c, .int .i64 e] (pxH m x) (fun r H' => ∃ m', r = .bool true ∧ H' = pxH m' x.nx ∧ PXIs N m' x.nx ∧ m'.p = m.p) := by
 refine Spec.of (E := [(0, ptrP m.p), (1, .int .i64 k), (2, .int .i64 s), (3, .int .i64 b), (4, .int .i64 c), (5, .int .i64 e)]) Tryz.func25 rfl (by kernel_rfl) Tryz.ntmps25 rfl rfl (fun w => ?_)
 refine WCr (WLa Z (WL_nil (WQ_code (WCr (WLa Z (WLc Z (xl_next h) Z pqD ?_))))))
 rintro _ _ ⟨_, ⟨m1, rfl, rfl, h1, hp1⟩, rfl⟩
 rw [hE]
 refine WLa Z (WLa Z (WLa Z (WLd Z (D_alloc Z zv63) ?_)))
 rintro _ _ ⟨b1, rfl, rfl⟩
 refine WLs (vs := [_, _, _, _, _]) Z Tryz.sizeOf63 Z Z plD (nb Z) ?_
 refine WLa Z (WL_set (s := 14) (v := .bool true) Z (by rfl) ?_)
 refine WL_nil (WQ_code (WCr (WLa Z (WLa Z (WLv Z (R_loadA (vs := [_, _, _, _, _]) Z ag63 Z mmD Z atZ) ?_)))))
 refine WLa Z (WLa Z (WLa Z (WLa Z (WLa Z (WLv Z (R_build Z zv63 pl63 Z Z) ?_)))))
 refine WLv Z (R_seq63 Z Z Z Z) ?_
 refine WLa Z (WL_set (s := 30) (v := .bool true) Z (by exact congrArg Value.bool (by simp [hdX])) ?_)
 refine WLa Z (WL_nil (WQ_code (WC_ret ?_)))
 refine WQ1 Z (by
   exact ⟨m1, rfl, rfl, h1, hp1⟩) pqD
theorem lsett_ok : Spec Tryz.prog 24 [] [] (fun r H' => ∃ b, r = .agg (xsetL 1 (some ⟨b, 0, none⟩) 2 2 1 100 1 1 18446744073709551615 ⟨5, 5, 1, 1, 2, 0, 0⟩).toArray ∧ H' = [⟨some b, cl (ivs [1, 1]) 3⟩]) := by
 refine Spec.of (E := []) Tryz.func24 rfl (by kernel_rfl) Tryz.ntmps24 rfl rfl (fun w => ?_)
 refine WCr (WLd Z (D_alloc Z zv30) ?_)
 rintro _ _ ⟨b1, rfl, rfl⟩
 refine WL_nil (WQ_code (WCr (WLd Z (D_buildSlice Z si23 Z Z Z) ?_)))
 rintro _ _ ⟨b2, rfl, rfl⟩
 refine WLv Z (R_build Z zv28 pl28 Z Z) ?_
 refine WLv Z (R_build Z zv30 pl30 Z Z) ?_
 refine WLs (vs := [_, _, _, _, _, _, _, _, _, _, _, _, _, _]) Z Tryz.sizeOf30 Z Z plD (nb Z) ?_
 refine WL_nil (WQ_code (WC_ret ?_))
 refine WQ_ret Z Z (.cons (.cell (vs := [_, _, _, _, _, _, _, _, _, _, _, _, _, _]) Z ag30 mmD Z atZ) .nil) Z (by
   exact ⟨b2, rfl, rfl⟩) pqD
theorem PXO.new {k : Nat} {W : List Int} {limit : Int} {brk : Nat} {op idle : Int} {keep : Nat} {p : Plan} (hp : OkP p) (hq : POk op idle keep) : PXO 0 0 0 (px0 k W limit brk op idle keep p) := by
 have hC : ∀ x ∈ (PS.new op.toNat idle.toNat keep).C, x.st = 0 := fun x hx => by rw [List.eq_of_mem_replicate hx]
 refine ⟨⟨Nat.le_refl _, List.nodup_nil, fun s hs => (by cases hs), fun s hs => (by cases hs), fun i si hi => ?_⟩, ?_, fun si hs => ?_, Nat.le_refl _, ?_⟩
 ·have := List.mem_of_getElem? hi
  rw [List.eq_of_mem_replicate this]
  exact ⟨ph_new (by obtain ⟨a, b, c⟩ := hq; omega) (by obtain ⟨a, b, c⟩ := hq; omega), Nat.le_refl _, List.nodup_nil, fun e he => (by cases he), fun w hw => (by cases hw), fun c x hx hs => absurd (hC x (List.mem_of_getElem? hx)) (by rw [hs]; decide)⟩
 ·show ((List.replicate W.length (PS.new op.toNat idle.toNat keep)).map wt).sum + 0 ≤ 0
  rw [List.map_replicate, wt_new]
  simp
 ·rw [List.eq_of_mem_replicate hs]; exact ⟨rfl, Nat.le_refl _⟩
 ·obtain ⟨q1, q2, q3, q4, q5, q6, q7, q8, q9, q10⟩ := hp; exact q8
def pxK (m : XM) (x : PX) : Heap := pxH m x
theorem xm_begin {N : Nat} {m : XM} {x : PX} {w b e : Nat} (h : PXIs N m x) (o : PXO w b e x) (hN : N ≤ 8000) (hE : e ≤ 10000) (hB : b ≤ 1000000) (n : Int) (now dl : Nat) (hb : now ≤ 18446744073709551615) (key : ByteArray) :
  Spec Tryz.prog 12 [ptrP m.p, .int .i64 n, .int .u64 (now : Int), .int .u64 (dl : Int), .string key] (pxK m x) (fun r H' => ∃ m' x', r = .int .i64 (x.begE n now dl key) ∧ H' = pxK m' x' ∧ PXIs (N + 1) m' x' ∧ m'.p = m.p ∧ PXO (w + 1) (b + 1) (e + 1) x' ∧ ((x.begE n now dl key ≠ 0 ∧ x' = x) ∨ (x.begE n now dl key = 0 ∧ ∃ p, x' = x.begin n now dl key p))) := by
 unfold pxK; apply xl_begin <;> assumption
theorem xm_dialed {N : Nat} {m : XM} {x : PX} {w b e : Nat} (h : PXIs N m x) (o : PXO w b e x) (hN : N ≤ 7000) (hE : e ≤ 10000) (n : Int) (good : Bool) (now : Nat) (hb : now ≤ 18446744073709551615) :
  Spec Tryz.prog 13 [ptrP m.p, .int .i64 n, .bool good, .int .u64 (now : Int)] (pxK m x) (fun r H' => ∃ m', r = .int .i64 (x.inX n 3 now) ∧ H' = pxK m' (x.dialX n good now) ∧ PXIs (N + 21) m' (x.dialX n good now) ∧ m'.p = m.p ∧ PXO (w + 1) (b + 1) (e + 3) (x.dialX n good now)) := by
 unfold pxK; apply xl_dialed <;> assumption
theorem xm_end {N : Nat} {m : XM} {x : PX} {w b e : Nat} (h : PXIs N m x) (o : PXO w b e x) (hN : N ≤ 7000) (hE : e ≤ 10000) (n : Int) (good : Bool) (now : Nat) (hb : now ≤ 18446744073709551615) :
  Spec Tryz.prog 14 [ptrP m.p, .int .i64 n, .bool good, .int .u64 (now : Int)] (pxK m x) (fun r H' => ∃ m', r = .int .i64 (x.inX n 4 now) ∧ H' = pxK m' (x.endX n good now) ∧ PXIs (N + 21) m' (x.endX n good now) ∧ m'.p = m.p ∧ PXO (w + 1) (b + 1) (e + 3) (x.endX n good now)) := by
 unfold pxK; apply xl_end <;> assumption
theorem xm_adv {N : Nat} {m : XM} {x : PX} {w b e : Nat} (h : PXIs N m x) (o : PXO w b e x) (hN : N ≤ 7000) (hw : w ≤ 57) (hE : e ≤ 10000) (hB : b ≤ 1000000) (hP : x.P.length ≤ 100) (now : Nat) (hb : now ≤ 18446744073709551615) :
  Spec Tryz.prog 15 [ptrP m.p, .int .u64 (now : Int)] (pxK m x) (fun r H' => ∃ m', r = .int .i64 (x.may true now) ∧ H' = pxK m' (x.advX now) ∧ PXIs (N + w + 101) m' (x.advX now) ∧ m'.p = m.p ∧ PXO w (b + 102) (e + w + 101) (x.advX now)) := by
 unfold pxK; apply xl_adv <;> assumption
theorem xm_next {N : Nat} {m : XM} {x : PX} (h : PXIs N m x) : Spec Tryz.prog 20 [ptrP m.p] (pxK m x) (fun r H' => ∃ m', r = .tuple #[xvV (hdX x.E), .bool (!x.E.isEmpty)] ∧ H' = pxK m' x.nx ∧ PXIs N m' x.nx ∧ m'.p = m.p) := by
 unfold pxK; apply xl_next <;> assumption
theorem mis_ok {N : Nat} {m : XM} {x : PX} (h : PXIs N m x) (n st be cn : Int) : Spec Tryz.prog 21 [ptrP m.p, .int .i64 n, .int .i64 st, .int .i64 be, .int .i64 cn] (pxK m x) (fun r H' => r = .bool (decide (x.stX n = (st, be, cn))) ∧ H' = pxK m x) := by
 unfold pxK; apply lis_ok <;> assumption
theorem mtells_ok {N : Nat} {m : XM} {x : PX} (h : PXIs N m x) {k s b c e : Int} {r : List Xv} (hE : x.E = ⟨k, s, b, c, e⟩ :: r) : Spec Tryz.prog 25 [ptrP m.p, .int .i64 k, .int .i64 s, .int .i64 b, .int .i64 c, .int .i64 e] (pxK m x) (fun r H' => ∃ m', r = .bool true ∧ H' = pxK m' x.nx ∧ PXIs N m' x.nx ∧ m'.p = m.p) := by
 unfold pxK; apply ltells_ok <;> assumption
theorem xm_due {N : Nat} {m : XM} {x : PX} (h : PXIs N m x) (hn : (x.S.map (·.num)).Nodup) : Spec Tryz.prog 22 [ptrP m.p] (pxK m x) (fun r H' => r = .int .u64 (dueV x.S : Int) ∧ H' = pxK m x) := by
 unfold pxK; apply xdue_all <;> assumption
theorem xm_new (k : Nat) (W : List Int) (oa : Option Addr) (c : Nat) (ent : Ent) (ha : Rd oa ent W) (limit : Int) (brk : Nat) (op idle : Int) (keep : Nat) (p : Plan) (h : VOkB (k : Int) W limit brk) (hp : OkP p) (hq : POk op idle keep) (hsd : p.seed < 4294967296) (hkp : keep ≤ 18446744073709551615) : Spec Tryz.prog 9 [.agg (xsetL (k : Int) oa W.length c limit brk op idle keep p).toArray] [ent]
  (fun r H' => ∃ m, r = .tuple #[ptrP m.p, .int .i64 0] ∧ H' = ent :: pxK m (px0 k W limit brk op idle keep p) ∧ PXIs 0 m (px0 k W limit brk op idle keep p)) := by
 unfold pxK; apply xnew_ok <;> assumption
theorem xevcl_none {k c : Nat} {pre tl : List Value} {E : List Xv} (h : OwnS none k E.length c 5 pre (E.flatMap encX) tl) : Spec Tryz.prog 54 [sVal none k E.length c] [⟨none, cl (pre ++ (E.flatMap encX ++ tl)) 63⟩] (fun r H' => r = .slice none 0 0 ∧ H' = [⟨none, cl (pre ++ (E.flatMap encX ++ tl)) 63⟩]) := by
 refine Spec.of (E := [(0, sVal none k E.length c)]) Tryz.func54 rfl (by kernel_rfl) Tryz.ntmps54 rfl rfl (fun w => ?_)
 refine WCr (WLa Z (WL_nil (WQ_code (WC_seq (WCr (WLa Z (WLv Z (R_sliceEqNil Z Tryz.underlying58 Z) ?_)))))))
 refine WL_nil (WQ_code (WC_T Z (WCr (WLa Z (WL_nil (WQ_code (WC_ret ?_)))))))
 refine WQ1 Z (by
   exact ⟨rfl, rfl⟩) pqZ
theorem xevcl_some {b k c : Nat} {pre tl : List Value} {E : List Xv} (h : OwnS (some b) k E.length c 5 pre (E.flatMap encX) tl) (hl : E.length ≤ 1000000) : Spec Tryz.prog 54 [sVal (some b) k E.length c] [⟨some b, cl (pre ++ (E.flatMap encX ++ tl)) 63⟩] (fun r H' => ∃ o2 c2 tl2, r = slV o2 E.length c2 ∧ Own o2 E.length c2 5 (E.flatMap encX) tl2 ∧ H' = [⟨o2, cl (E.flatMap encX ++ tl2) 63⟩, ⟨some b, cl (pre ++ (E.flatMap encX ++ tl)) 63⟩]) := by
 refine Spec.of (E := [(0, sVal (some b) k E.length c)]) Tryz.func54 rfl (by kernel_rfl) Tryz.ntmps54 rfl rfl (fun w => ?_)
 refine WCr (WLa Z (WL_nil (WQ_code (WC_seq (WCr (WLa Z (WLv Z (R_sliceEqNil Z Tryz.underlying58 Z) ?_)))))))
 refine WL_nil (WQ_code (WC_F Z (WC_skip (WQ_code (WCr (WLd Z (D_buildSlice Z si58 Z Z Z) ?_))))))
 rintro _ _ ⟨b1, rfl, rfl⟩
 refine WLa Z (WLd Z (D_append Z si58 Z ((⟨by simp, by simp, by simp, by simp, fun h => by cases h⟩ : Own (some b1) 0 0 5 [] [])) plZ Z mmZ (h.atAll) (fm_length encX5 E) (encX_one E) (by omega) (by omega)) ?_)
 rintro _ _ ⟨ob2, cap2, tl2, rfl, own2, rfl⟩
 rw [Nat.zero_add, List.nil_append] at own2
 refine WLa Z (WL_nil (WQ_code (WC_ret ?_)))
 refine WQ1 Z (by
   exact ⟨ob2, cap2, tl2, by rw [Nat.zero_add]; try rfl, own2, rfl⟩) pqZ
theorem xevcl_ok {ob : Option Nat} {k c : Nat} {pre tl : List Value} {E : List Xv} (h : OwnS ob k E.length c 5 pre (E.flatMap encX) tl) (hl : E.length ≤ 1000000) : Spec Tryz.prog 54 [sVal ob k E.length c] [⟨ob, cl (pre ++ (E.flatMap encX ++ tl)) 63⟩] (fun r H' => ∃ o2 c2 tl2, r = slV o2 E.length c2 ∧ Own o2 E.length c2 5 (E.flatMap encX) tl2 ∧ H' = [⟨o2, cl (E.flatMap encX ++ tl2) 63⟩, ⟨ob, cl (pre ++ (E.flatMap encX ++ tl)) 63⟩]) := by
 cases ob with
 | some b => exact xevcl_some h hl
 | none =>
  have hE : E = [] := by
   rcases E with _ | ⟨v, r⟩
   ·rfl
   ·obtain ⟨b, hb⟩ := h.some_of (by simp)
    cases hb
  subst hE
  exact Spec.noneP 63 ((xevcl_none h).mono fun r H' ⟨h1, h2⟩ => ⟨⟨none, cl [] 63⟩, ⟨rfl, rfl⟩, none, 0, [], h1, Own.empty 5, by rw [h2]; rfl⟩)
theorem xbcopy_ok {N : Nat} {m : Bm} {s : BS} (h : BIs N m s) : Spec Tryz.prog 53 [ptrB m.p] (balH m) (fun r H' => ∃ m2, r = ptrB m2.p ∧ H' = balH m2 ++ balH m ∧ BIs N m2 s) :=
 (bcopy_ok m N s.C h.is).mono fun r H' ⟨m2, h1, h2, h3, h4, h5, h6, h7, h8, h9⟩ => ⟨m2, h1, h2, h3, h4.trans h.k, h9.trans h.V, h6.trans h.nx, h7.trans h.gv, h8.trans h.last⟩
theorem xpcopy_ok {ms : List PM} {ss : List PS} {i : Nat} {mi : PM} {si : PS} (h1 : ms[i]? = some mi) (h2 : ss[i]? = some si) (h : PIs mi si) (hE : si.E.length ≤ 1000000) : Spec Tryz.prog 55 [ptrP mi.p] (poolsH ms ss) (fun r H' => ∃ m2, r = ptrP m2.p ∧ H' = poH m2 si ++ poolsH ms ss ∧ PIs m2 si) := by
 obtain ⟨R, hR, _⟩ := pools_at h1 h2
 refine Spec.re ((((pcopy_ok h hE).fr R).perm hR).mono ?_)
 rintro r H' ⟨H1, ⟨m2, hr, rfl, hq⟩, rfl⟩
 exact ⟨_, by rw [List.append_assoc]; exact hR.symm.append_left _, m2, hr, rfl, hq⟩
def reK (S : List Ss) (f : Int → Nat) (n : Int) : Ss := { sesK S n with p := f n }
def reS (S : List Ss) (f : Int → Nat) : List Ss := S.map fun s => { s with p := f s.num }
theorem reS_num (S : List Ss) (f : Int → Nat) : (reS S f).map (·.num) = S.map (·.num) := by unfold reS; rw [List.map_map]; rfl
theorem reK_num {S : List Ss} {n : Int} (f : Int → Nat) (h : n ∈ S.map (·.num)) : (reK S f n).num = n := by
 obtain ⟨s, hs, rfl⟩ := List.mem_map.1 h
 show (sesK S s.num).num = _
 unfold sesK
 cases hf : S.find? (fun q => decide (q.num = s.num)) with
 | none => exact absurd (by simp) (List.find?_eq_none.1 hf s hs)
 | some q => have h1 := List.find?_some hf; exact of_decide_eq_true h1
theorem reK_perm {S : List Ss} (hn : (S.map (·.num)).Nodup) {ys : List Int} (hp : ys.Perm (S.map (·.num))) (f : Int → Nat) : (ys.map (reK S f)).Perm (reS S f) := by
 refine (hp.map _).trans (List.Perm.of_eq ?_)
 rw [List.map_map]
 refine List.map_congr_left fun s hs => ?_
 show reK S f s.num = _
 unfold reK
 rw [sesK_at hn hs]
def upF (f : Int → Nat) (n : Int) (b : Nat) : Int → Nat := fun k => if k = n then b else f k
theorem reK_up {S : List Ss} {ys : List Int} {n : Int} (f : Int → Nat) (b : Nat) (h : n ∉ ys) : ys.map (reK S (upF f n b)) = ys.map (reK S f) :=
 List.map_congr_left fun k hk => by
  have hne : k ≠ n := fun e => h (by rw [← e]; exact hk)
  show ({ sesK S k with p := if k = n then b else f k } : Ss) = { sesK S k with p := f k }
  rw [if_neg hne]
theorem reK_here (S : List Ss) (n : Int) (f : Int → Nat) (b : Nat) : reK S (upF f n b) n = { sesK S n with p := b } := by show ({ sesK S n with p := if n = n then b else f n } : Ss) = _; rw [if_pos rfl]
theorem re_list {S : List Ss} {s : Ss} (hs : s ∈ S) (hn : (S.map (·.num)).Nodup) {ys : List Int} (h : s.num ∉ ys) (f : Int → Nat) (b : Nat) : (ys ++ [s.num]).map (reK S (upF f s.num b)) = ys.map (reK S f) ++ [{ s with p := b }] := by
 rw [List.map_append, reK_up f b h, List.map_cons, List.map_nil, reK_here, sesK_at hn hs]
theorem re_snoc {S : List Ss} {s : Ss} (hs : s ∈ S) (hn : (S.map (·.num)).Nodup) {ys : List Int} (h : s.num ∉ ys) (f : Int → Nat) (b : Nat) : ((s.num, b) :: sesM (ys.map (reK S f))).Perm (sesM ((ys ++ [s.num]).map (reK S (upF f s.num b)))) := by
 rw [re_list hs hn h]
 unfold sesM
 rw [List.map_append]
 exact (List.perm_append_comm (l₁ := [(s.num, b)]))
theorem re_ssH {S : List Ss} {s : Ss} (hs : s ∈ S) (hn : (S.map (·.num)).Nodup) {ys : List Int} (h : s.num ∉ ys) (f : Int → Nat) (b : Nat) : ([seE { s with p := b }] ++ ssH (ys.map (reK S f))).Perm (ssH ((ys ++ [s.num]).map (reK S (upF f s.num b)))) := by
 rw [re_list hs hn h]
 exact ssH_snoc _ _
theorem re_nums {S : List Ss} {ys : List Int} {f : Int → Nat} (h : ∀ n ∈ ys, n ∈ S.map (·.num)) : (ys.map (reK S f)).map (·.num) = ys := by
 rw [List.map_map]
 exact (List.map_congr_left fun n hn => reK_num f (h n hn)).trans (List.map_id _)
theorem snoc_po {L : List PM} {P : List PS} {k : Nat} {pm : PM} {s : PS} (h : ∀ (i : Nat) (mi : PM) (si : PS), L[i]? = some mi → P[i]? = some si → PIs mi si) (hL : L.length = k) (hs : P[k]? = some s) (hp : PIs pm s) : ∀ (i : Nat) (mi : PM) (si : PS), (L ++ [pm])[i]? = some mi → P[i]? = some si → PIs mi si := fun i mi si h1 h2 => by
 rw [List.getElem?_append] at h1
 split at h1
 ·exact h i mi si h1 h2
 ·rename_i hge
  rw [List.getElem?_singleton] at h1
  split at h1
  ·obtain rfl : i = k := by omega
   cases h1; rw [hs] at h2; cases h2; exact hp
  ·cases h1
abbrev PX.re (x : PX) (f : Int → Nat) : PX := { x with S := reS x.S f }
structure CpX where
 k : Nat
 L : List PM
 B : Heap
 o : Option Nat
 c : Nat
 t : List Value
structure CsX where
 seen : Array Nat
 ys : List Int
 es : Array MapEntry
 c : Nat
 f : Int → Nat
theorem xcopy_ok {N : Nat} {m : XM} {x : PX} (h : PXIs N m x) (hn : (x.S.map (·.num)).Nodup) (hE : x.E.length ≤ 10000) (hpE : ∀ s ∈ x.P, s.E.length ≤ 10000) : Spec Tryz.prog 23 [ptrP m.p] (pxH m x) (fun r H' => ∃ m2 f, r = ptrP m2.p ∧ H' = pxH m2 (x.re f) ++ pxH m x ∧ PXIs N m2 (x.re f)) := by
 have hM := h.mp
 have hP64 : x.P.length ≤ 64 := by have h1 := h.bal.len; have h2 := h.vl; have h3 := h.bal.is.n; omega
 refine Spec.of (E := [(0, ptrP m.p)]) Tryz.func23 rfl (by kernel_rfl) Tryz.ntmps23 rfl rfl (fun w => ?_)
 refine WCr (WLa Z (WL_nil (WQ_code (WC_seq (WCr (WLa Z (WLv Z (R_ptrEqNil Z Tryz.underlying33 Z) ?_)))))))
 refine WLa Z (WLa Z (WLa Z (WLf Z fa68_4 (WLl Z sc66 mmD Z (WLv Z (R_mapEqNil Z Tryz.underlying66 Z) ?_)))))
 refine WL_set (s := 16) (v := .bool false) Z (by rfl) ?_
 refine WLa Z (WL_nil (WQ_code (WC_F Z (WC_skip (WQ_code (WCr (WLa Z (WLa Z (WLv Z (R_loadA (vs := [_, _, _, _, _, _, _, _, _, _, _, _]) Z ag68 Z mmD Z atZ) ?_)))))))))
 refine WLd Z (D_alloc Z zv68) ?_
 rintro _ _ ⟨b1, rfl, rfl⟩
 refine WLs (vs := [_, _, _, _, _, _, _, _, _, _, _, _]) Z Tryz.sizeOf68 Z Z plD (nb Z) ?_
 refine WL_nil (WQ_code (WC_seq (WC_drawBR [⟨some b1, _⟩] [(0, .q), (1, .q), (2, .q), (3, .q), (6, .q), (7, .q), (8, .q), (9, .q), (4, .n [5]), (10, .n [5]), (11, .q), (12, .n [5]), (13, .q), (14, .n [5]), (5, .b []), (15, .q), (16, .n []), (17, .q), (18, .n [])] followsMixed Z Z (by kernel_rfl) pqD ?_)))
 refine WB_val Z Z Z Z (R_move Z Z) ?_
 refine WB_val Z Z Z Z (R_nilCheck Z Z) ?_
 refine WB_val Z Z Z Z (R_fieldAddr Z fa68_0 Z) ?_
 refine WB_val Z Z Z Z (R_load Z sc55 Z mmD Z) ?_
 refine WB_val Z Z Z Z (R_move Z Z) ?_
 refine WB_val Z Z Z Z (R_nilCheck Z Z) ?_
 refine WB_val Z Z Z Z (R_fieldAddr Z fa68_5 Z) ?_
 refine WB_val Z Z Z Z (R_load Z sc58 Z mmD Z) ?_
 refine WB_do Z Z Z Z (.cons Z Z (B_makeMap Z) .nil) (fun _ => D_call (xbcopy_ok h.bal) Z Z Z Z pqD) ?_
 rintro _ _ ⟨_, ⟨bm2, rfl, rfl, hbm2⟩, rfl⟩
 refine ⟨⟨_, pqD⟩, ?_⟩
 refine WB_do Z Z Z Z (.cons Z Z (B_makeMap Z) .nil) (fun _ => D_call (xevcl_ok h.eO (by omega)) Z Z Z Z pqD) ?_
 rintro _ _ ⟨_, ⟨o2, c2, tl2, rfl, own2, rfl⟩, rfl⟩
 refine ⟨⟨_, pqD⟩, ?_⟩
 refine WB_val Z Z Z Z (R_fieldAddr Z fa68_0 Z) ?_
 refine WB_do0 Z Z Z (.cons Z Z (B_makeMap Z) .nil) (fun _ => D_store (vs := [_]) Z Tryz.sizeOf55 Z Z Z Z Z plD (nb Z)) ?_
 rintro _ _ rfl
 refine ⟨⟨_, pqD⟩, ?_⟩
 refine WB_val Z Z Z Z (R_fieldAddr Z fa68_1 Z) ?_
 refine WB_do0 Z Z Z (.cons Z Z (B_makeMap Z) .nil) (fun _ => D_store (vs := [_]) Z Tryz.sizeOf56 Z Z Z Z Z plD (nb Z)) ?_
 rintro _ _ rfl
 refine ⟨⟨_, pqD⟩, ?_⟩
 refine WB_birth Z Z Z Z .nil (B_makeMap Z) (fun b2 => ?_)
 refine WB_val Z Z Z Z (R_fieldAddr Z fa68_4 Z) ?_
 refine WB_do0 Z Z Z .nil (fun _ => D_store (vs := [_]) Z Tryz.sizeOf66 Z Z Z Z Z plD (nb Z)) ?_
 rintro _ _ rfl
 refine ⟨⟨_, pqD⟩, ?_⟩
 refine WB_val Z Z Z Z (R_fieldAddr Z fa68_5 Z) ?_
 refine WB_do0 Z Z Z .nil (fun _ => D_store (vs := [_]) Z Tryz.sizeOf58 Z Z Z Z Z plD (nb Z)) ?_
 rintro _ _ rfl
 refine ⟨⟨_, pqD⟩, ?_⟩
 refine WB_nil (WQ_code (WC_seq (WCr (WLa Z (WLa Z (WLf Z fa68_1 (WLl Z sc56 mmD Z (WLv Z (R_len Z Tryz.underlying56 Z) ?_))))))))
 refine WLa Z (WL_nil (WQ_code (WC_block (WC_none 79 ?_))))
 refine WC_loopF (G := CpX) [5, 41, 42, 43, 44, 45, 46, 47, 48, 49, 50, 51, 52] (fun y => y.k ≤ x.P.length ∧ y.L.length = y.k ∧ (∀ (i : Nat) (mi : PM) (si : PS), y.L[i]? = some mi → x.P[i]? = some si → PIs mi si) ∧ y.B = poolsH y.L (x.P.take y.k) ∧ Own y.o y.L.length y.c 1 (y.L.flatMap (fun q => [ptrP q.p])) y.t) (fun y => [(41, .int .i64 (y.k : Int))]) (fun y => [⟨some b1, cl ([ptrB bm2.p, slV y.o y.L.length y.c] ++ plL x.pl ++ [.int .u64 (x.now : Int), .map (some b2), slV o2 x.E.length c2]) 68⟩, ⟨y.o, cl (y.L.flatMap (fun q => [ptrP q.p]) ++ y.t) 79⟩] ++ y.B) (fun y => x.P.length - y.k) (⟨0, [], [], none, 0, []⟩) (⟨Nat.zero_le _, Z, fun i mi si h1 _ => by simp at h1, rfl, Own.empty 1⟩) leZ pqD ?_
 rintro y ⟨hyk, hyL, hyp, hyB, hyo⟩
 refine WCr (WLa Z (WL_nil (WQ_code (WC_seq ?_))))
 refine WC_dec Z (fun c1 => ?_) (fun c1 => ?_)
 ·refine WC_skip (WQ_code (WC_seq (WC_block (WCr ?_))))
  obtain ⟨mi, hmi⟩ := getE (T := m.pm) (i := y.k) (by rw [h.len]; omega)
  obtain ⟨si, hsi⟩ := getE (T := x.P) (i := y.k) (by omega)
  obtain ⟨wq, hwq⟩ := h.oq.some_of (by omega)
  refine WLv Z (R_idxO hwq Z Tryz.underlying56 Tryz.sizeOf79 Z Z (by omega)) ?_
  refine WLv Z (R_loadO (v := ptrP mi.p) hwq Z sc79 Z mmD (fm_get0 encPq1 hmi (j := 0) (by omega))) ?_
  refine WLa Z (WL_nil (WQ_code (WC_drawY (⟨some b1, _⟩ :: [⟨y.o, _⟩]) [(b1, 1, slV y.o y.L.length y.c)] [7] [(0, false), (1, true)] [(2, true), (3, false), (4, false), (5, false), (6, true), (7, false)] followsMixed Z Z (by kernel_rfl) pqD (.cons mmD Z .nil) ?_)))
  refine WYE_val Z Z Z Z (R_fieldAddr Z fa68_1 Z) ?_
  refine WYE_early Z Z Z Z Z sc56 Z (by repeat (first | exact List.Mem.head _ | refine List.Mem.tail _ ?_)) ?_
  refine WYE_rest ?_
  refine WY_val Z Z Z Z (R_move Z Z) ?_
  refine WY_do Z Z Z Z (D_call (xpcopy_ok hmi hsi (h.po _ _ _ hmi hsi) (by have := hpE si (List.mem_of_getElem? hsi); omega)) Z Z Z Z pqD) ?_
  rintro _ _ ⟨_, ⟨pm2, rfl, rfl, hpm2⟩, rfl⟩
  refine ⟨⟨_, pqD⟩, .inr (.cons mmD rfl .nil), ?_⟩
  refine WY_do Z Z Z Z (D_buildSlice Z si56 Z Z Z) ?_
  rintro _ _ ⟨b3, rfl, rfl⟩
  refine ⟨⟨_, pqD⟩, .inr (.cons mmD rfl .nil), ?_⟩
  refine WY_do Z Z Z Z (D_append Z si56 Z (hyo) plD Z mmD ((atZ : At _ 0 [_])) (Z) (Z) (by omega) (by omega)) ?_
  rintro _ _ ⟨ob4, cap4, tl4, rfl, own4, rfl⟩
  refine ⟨⟨_, pqD⟩, .inr (.cons mmD rfl .nil), ?_⟩
  rw [show y.L.flatMap (fun q => [ptrP q.p]) ++ [ptrP pm2.p] = (y.L ++ [pm2]).flatMap (fun q => [ptrP q.p]) from by simp, show y.L.length + 1 = (y.L ++ [pm2]).length from by simp] at own4 ⊢
  refine WY_val Z Z Z Z (R_fieldAddr Z fa68_1 Z) ?_
  refine WY_do0 Z Z Z (D_store (vs := [_]) Z Tryz.sizeOf56 Z Z Z Z Z plD (nb Z)) ?_
  rintro _ _ rfl
  refine ⟨⟨_, pqD⟩, .inl rfl, ?_⟩
  refine WY_nil ?_
  refine WQ_code (WC_region (WLv Z (R_add Z Z Z (by omega)) ?_))
  refine WLa Z (WL_nil ?_)
  refine WQ_nextF (⟨y.k + 1, y.L ++ [pm2], y.B ++ poH pm2 si, ob4, cap4, tl4⟩) (⟨by dsimp only; omega, by dsimp only; rw [List.length_append, hyL]; rfl, snoc_po hyp hyL hsi hpm2, by dsimp only; rw [hyB, take_next hsi, poolsH_snoc (by rw [hyL, List.length_take]; omega)], own4⟩) (by dsimp only; omega) leZ (psZ) Z pqD
 ·have hyk2 : y.k = x.P.length := by omega
  rw [hyk2] at hyL
  rw [hyk2, List.take_of_length_le (Nat.le_refl _)] at hyB
  rw [hyB, hyL]
  refine WC_exit (WQ_code (WC_seq (WCr (WLa Z (WLa Z (WLf Z fa68_4 (WLl Z sc66 mmD Z (WLd Z (D_rangeMap Z Tryz.underlying66 Z mmD) ?_))))))))
  rintro _ _ ⟨bi, rfl, rfl⟩
  refine WL_nil (WQ_code (WC_block (WC_loopF (G := CsX) [6, 7, 8, 58, 59, 60, 61, 62, 63, 64, 65, 66, 67, 68] (fun z => KsG ekW (sesM x.S) m.ses z.seen z.ys ∧ Mk ekW ptrS z.es z.c (sesM (z.ys.map (reK x.S z.f)))) (fun z => []) (fun z => [⟨some bi, .mapIter (some m.sb) m.smc z.seen m.smc⟩, ⟨some b2, .map z.es z.c⟩] ++ ssH (z.ys.map (reK x.S z.f))) (fun z => (sesM x.S).length - z.ys.length) (⟨#[], [], #[], 0, fun _ => 0⟩) (⟨KsG.new ekW (sesM x.S) m.ses, Mk.empty⟩) leZ pqD ?_)))
  rintro z ⟨hks, hzM⟩
  refine WCr (WLd Z (D_nextMap Z Z plD mmD hM.born) ?_)
  rintro _ _ (⟨rfl, rfl, hall⟩ | ⟨e, he, hns, rfl, rfl⟩)
  ·refine WLa Z (WL_set (s := 59) (v := .bool false) Z (by rfl) ?_)
   refine WL_nil (WQ_code (WC_seq (WC_F Z (WC_exit (WQ_code (WCr (WLa Z (WL_nil (WQ_code (WC_ret ?_))))))))))
   have hpm8 := hks.done hM hall
   rw [sesM_keys] at hpm8
   have hrp := reK_perm hn hpm8 z.f
   refine WQ_shape (A := ssH (z.ys.map (reK x.S z.f))) (A' := ssH (reS x.S z.f)) pqD (hrp.map _) ?_
   refine WQ1 Z (by
     exact ⟨⟨b1, bm2, y.L, y.o, y.c, y.t, b2, z.es, z.c, o2, 0, c2, [], tl2⟩, z.f, rfl, rfl, hbm2, hyL, hyp, by have h9 := hyo; rw [hyL] at h9; exact h9, hzM.to (hrp.map _), OwnS.of own2, h.ok, h.seed, fun s hs => by (obtain ⟨q, hq, rfl⟩ := List.mem_map.1 hs; exact h.num q hq), h.vl, h.now⟩) pqD
  ·refine WLa Z (WL_set (s := 59) (v := .bool true) Z (by rfl) ?_)
   refine WL_nil (WQ_code (WC_seq (WC_T Z (WC_skip (WQ_code (WC_block (WCr ?_)))))))
   obtain ⟨⟨k, v9⟩, hx, hek, hev⟩ := hM.back he
   dsimp only at hek hev
   obtain ⟨hmay, hks2⟩ := hks.next ekW_inj hM he hns hek
   obtain ⟨s, hs, hsx⟩ := List.mem_map.1 hx
   obtain ⟨rfl, rfl⟩ := Prod.mk.inj hsx
   obtain ⟨A, B, hS⟩ := List.append_of_mem hs
   have hsk := sesK_at hn hs
   have hno9 : s.num ∉ (sesM (z.ys.map (reK x.S z.f))).map (·.1) := by rw [sesM_keys, re_nums (fun n hn9 => by have := hks.src n hn9; rw [sesM_keys] at this; exact this)]; exact hmay.2
   refine WLv Z (R_entryMap Z Z mmD mmD he hM.bnd) ?_
   rw [hek, hev]
   refine WLa Z (WLa Z (WLa Z (WLa Z (WL_nil (WQ_code (WCr (WLa Z (WLa Z ?_))))))))
   have hpm9 : (ssH x.S).Perm (seE s :: ssH (A ++ B)) := by rw [hS]; exact ssH_split A B s
   refine WL_shape (A := ssH x.S) pqD hpm9 ?_
   refine WLv Z (R_loadA (vs := [_, _, _, _, _, _, _, _, _]) Z ag90 Z mmD Z atZ) ?_
   refine WLd Z (D_alloc Z zv90) ?_
   rintro _ _ ⟨b5, rfl, rfl⟩
   refine WLs (vs := [_, _, _, _, _, _, _, _, _]) Z Tryz.sizeOf90 Z Z plD (nb Z) ?_
   refine WL_nil (WQ_code (WC_region (WLf Z fa68_4 (WLl Z sc66 mmD Z (WLa Z (WL_do0 Z Z (D_mapAddK (k := s.num) (v := b5) Z Tryz.underlying66 int_key Z Z Z plD hzM hno9) ?_))))))
   rintro _ _ ⟨es9, hM9, rfl⟩
   refine WL_nil (WQ_shape (A := seE s :: ssH (A ++ B)) pqD hpm9.symm ?_)
   refine WQ_shape (A := [seE { s with p := b5 }] ++ ssH (z.ys.map (reK x.S z.f))) pqD (re_ssH hs hn hmay.2 z.f b5) ?_
   refine WQ_nextF (gg := z) (⟨z.seen.push e.born, z.ys ++ [s.num], es9, z.c + 1, upF z.f s.num b5⟩) (⟨hks2, hM9.to (re_snoc hs hn hmay.2 z.f b5)⟩) (by have := hks2.len; rw [List.length_append, List.length_singleton] at this; dsimp only; rw [List.length_append, List.length_singleton]; omega) leZ (psZ) Z pqD
theorem PoIn.re {S : List Ss} {now i : Nat} {s : PS} (h : PoIn S now i s) (f : Int → Nat) : PoIn (reS S f) now i s :=
 ⟨h.ph, h.nw, h.nd, h.ks, fun w hw => by obtain ⟨y, hy, q⟩ := h.wt w hw; exact ⟨{ y with p := f y.num }, List.mem_map_of_mem (f := fun s : Ss => { s with p := f s.num }) hy, q⟩, fun c x hx hs => by
  rcases h.dl c x hx hs with ⟨y, hy, q⟩ | q
  ·exact .inl ⟨{ y with p := f y.num }, List.mem_map_of_mem (f := fun s : Ss => { s with p := f s.num }) hy, q⟩
  ·exact .inr q⟩
theorem PXG.re {x : PX} (h : PXG x) (f : Int → Nat) : PXG (x.re f) :=
 ⟨h.bl, by show ((reS x.S f).map (·.num)).Nodup; rw [reS_num]; exact h.nd, fun s hs => by obtain ⟨y, hy, rfl⟩ := List.mem_map.1 hs; exact h.ks y hy, fun s hs h9 => by obtain ⟨y, hy, rfl⟩ := List.mem_map.1 hs; exact h.bk y hy h9, fun i si hi => (h.po i si hi).re f⟩
theorem lat_re (S : List Ss) (f : Int → Nat) : lat (reS S f) = lat S := by
 unfold lat reS
 first
 | rw [List.map_map]; rfl
 | (rw [List.filter_map, List.length_map]; rfl)
 | (rw [List.countP_map]; rfl)
theorem PXO.re {w b e : Nat} {x : PX} (h : PXO w b e x) (f : Int → Nat) : PXO w b e (x.re f) :=
 ⟨h.g.re f, by show wP x.P + lat (reS x.S f) ≤ w; rw [lat_re]; exact h.w, h.b, h.e, h.tr⟩
theorem xm_copy {N : Nat} {m : XM} {x : PX} (h : PXIs N m x) (hn : (x.S.map (·.num)).Nodup) (hE : x.E.length ≤ 10000) (hpE : ∀ s ∈ x.P, s.E.length ≤ 10000) : Spec Tryz.prog 23 [ptrP m.p] (pxK m x) (fun r H' => ∃ m2 f, r = ptrP m2.p ∧ H' = pxK m2 (x.re f) ++ pxK m x ∧ PXIs N m2 (x.re f)) := by
 unfold pxK; apply xcopy_ok <;> assumption
theorem md_fr1 {M : MM} {x : PX} {f : FuncId} {args : List Value} {v : Value} (h : Spec Tryz.prog f args [mdE M x] (fun r H' => r = v ∧ H' = [mdE M x])) : Spec Tryz.prog f args (mdH M x) (fun r H' => r = v ∧ H' = mdH M x) :=
 (h.fr ([mdS M x, mdV M x, mdQ M] ++ (balH M.bm ++ poolsH M.pm x.P))).mono fun r H' ⟨H1, ⟨e1, e2⟩, e3⟩ => ⟨e1, by rw [e3, e2]; rfl⟩
theorem md_fr2 {M : MM} {x : PX} {f : FuncId} {args : List Value} {v : Value} (h : Spec Tryz.prog f args [mdE M x, mdS M x] (fun r H' => r = v ∧ H' = [mdE M x, mdS M x])) : Spec Tryz.prog f args (mdH M x) (fun r H' => r = v ∧ H' = mdH M x) :=
 (h.fr ([mdV M x, mdQ M] ++ (balH M.bm ++ poolsH M.pm x.P))).mono fun r H' ⟨H1, ⟨e1, e2⟩, e3⟩ => ⟨e1, by rw [e3, e2]; rfl⟩
theorem mdoB {N : Nat} {M : MM} {x : PX} (h : MIs N M x) {w b e : Nat} (o : PXO w b e x) (hnm : ∀ s ∈ x.S, 0 ≤ s.num ∧ s.num ≤ 100) (hN : N ≤ 7000) (he9 : e ≤ 10000) (hb9 : b ≤ 1000000) (n : Int) (now dl : Nat) (key : ByteArray) (good : Bool) (hb : now ≤ 18446744073709551615) {x' : PX} (hx : (x.begE n now dl key ≠ 0 ∧ x' = x) ∨ (x.begE n now dl key = 0 ∧ ∃ p, x' = x.begin n now dl key p)) :
  Spec Tryz.prog 52 [ptrP M.p, .agg #[.int .i64 0, .int .i64 n, .int .u64 (now : Int), .int .u64 (dl : Int), .string key, .bool good]] (mdH M x) (fun r H' => ∃ M', r = .int .i64 (x.begE n now dl key) ∧ H' = mdH M' (x') ∧ MIs (N + 1) M' (x') ∧ M'.p = M.p) := by
 by_cases hm : x.may (decide ((0 ≤ n ∧ n ≤ 100) ∧ key.size ≤ 64)) now = 0
 ·rcases hx with ⟨h1, rfl⟩ | ⟨h1, p, rfl⟩
  ·have h9 := mdo0_ok h o hnm hN he9 hb9 n now dl key good hb hm 0
   rw [if_pos h1] at h9
   exact h9
  ·have h9 := mdo0_ok h o hnm hN he9 hb9 n now dl key good hb hm p
   rw [if_neg (fun e => e h1)] at h9
   exact h9
 ·have hE : x.begE n now dl key = x.may (decide ((0 ≤ n ∧ n ≤ 100) ∧ key.size ≤ 64)) now := by unfold PX.begE; rw [if_pos hm]
  rcases hx with ⟨_, rfl⟩ | ⟨h1, _⟩
  ·rw [hE]
   exact (md_fr1 (mdo0_bad M x' n now dl key good hm)).mono fun r H' ⟨e1, e2⟩ => ⟨M, e1, e2, h.le (by omega), rfl⟩
  ·exact absurd (hE ▸ h1) hm
theorem inX_bad {x : PX} {n st : Int} {now : Nat} (hm : x.may (decide (0 ≤ n ∧ n ≤ 100)) now ≠ 0) : x.inX n st now = x.may (decide (0 ≤ n ∧ n ≤ 100)) now := by unfold PX.inX; rw [if_pos hm]
theorem inX_none {x : PX} {n st : Int} {now : Nat} (hm : x.may (decide (0 ≤ n ∧ n ≤ 100)) now = 0) (hf : x.S.find? (fun s => decide (s.num = n)) = none) : x.inX n st now = 9 := by unfold PX.inX; rw [if_neg (fun e => e hm), hf]
theorem inX_some {x : PX} {n st : Int} {now : Nat} {s : Ss} (hm : x.may (decide (0 ≤ n ∧ n ≤ 100)) now = 0) (hf : x.S.find? (fun s => decide (s.num = n)) = some s) : x.inX n st now = if s.st = st then 0 else 9 := by unfold PX.inX; rw [if_neg (fun e => e hm), hf]
theorem mdoD {N : Nat} {M : MM} {x : PX} (h : MIs N M x) {w b e : Nat} (o : PXO w b e x) (hnm : ∀ s ∈ x.S, 0 ≤ s.num ∧ s.num ≤ 100) (hN : N ≤ 7000) (he9 : e ≤ 10000) (hb9 : b ≤ 1000000) (n : Int) (now dl : Nat) (key : ByteArray) (good : Bool) (hb : now ≤ 18446744073709551615) : Spec Tryz.prog 52 [ptrP M.p, .agg #[.int .i64 1, .int .i64 n, .int .u64 (now : Int), .int .u64 (dl : Int), .string key, .bool good]] (mdH M x) (fun r H' => ∃ M', r = .int .i64 (x.inX n 3 now) ∧ H' = mdH M' (x.dialX n good now) ∧ MIs (N + 3) M' (x.dialX n good now) ∧ M'.p = M.p) := by
 by_cases hm : x.may (decide (0 ≤ n ∧ n ≤ 100)) now = 0
 ·have same : ∀ {c : Int}, x.inX n 3 now = c → c ≠ 0 → x.dialX n good now = x := fun hc h0 => by unfold PX.dialX; rw [hc, if_pos h0]
  have none9 : x.inX n 3 now = 9 → Spec Tryz.prog 52 [ptrP M.p, .agg #[.int .i64 1, .int .i64 n, .int .u64 (now : Int), .int .u64 (dl : Int), .string key, .bool good]] (mdH M x) (fun r H' => ∃ M', r = .int .i64 (x.inX n 3 now) ∧ H' = mdH M' (x.dialX n good now) ∧ MIs (N + 3) M' (x.dialX n good now) ∧ M'.p = M.p) := fun h9 => by
   rw [same h9 (by decide), h9]
   exact (md_fr2 (mdo1_none h o hnm hN he9 hb9 n now dl key good hm h9)).mono fun r H' ⟨e1, e2⟩ => ⟨M, e1, e2, h.le (by omega), rfl⟩
  cases hf : x.S.find? (fun s => decide (s.num = n)) with
  | none => exact none9 (inX_none hm hf)
  | some s =>
   have hin := inX_some (st := 3) hm hf
   by_cases hst : s.st = 3
   ·rw [if_pos hst] at hin
    have hs := List.mem_of_find?_eq_some hf
    have hsn : s.num = n := by have h1 := List.find?_some hf; exact of_decide_eq_true h1
    subst hsn
    have hX : x.dialX s.num good now = x.dialN s good now := by unfold PX.dialX; rw [hin, if_neg (by decide), hf]
    rw [hX, hin]
    obtain ⟨A, B, hS⟩ := List.append_of_mem hs
    obtain ⟨i, hbe, hil⟩ := o.g.bk s hs (.inr (.inl hst))
    obtain ⟨si, hi⟩ := getE (T := x.P) (i := i) hil
    cases good
    ·exact mdo1_lost h o hnm hN he9 hb9 dl key hS hst hb hm hbe hi
    ·exact mdo1_made h o hnm hN he9 hb9 dl key hS hst hb hm hbe hi
   ·rw [if_neg hst] at hin; exact none9 hin
 ·have hE := inX_bad (st := 3) hm
  have hX : x.dialX n good now = x := by unfold PX.dialX; rw [hE, if_pos hm]
  rw [hX, hE]
  exact (md_fr1 (mdo1_bad M x n now dl key good hm)).mono fun r H' ⟨e1, e2⟩ => ⟨M, e1, e2, h.le (by omega), rfl⟩
theorem mdoE {N : Nat} {M : MM} {x : PX} (h : MIs N M x) {w b e : Nat} (o : PXO w b e x) (hnm : ∀ s ∈ x.S, 0 ≤ s.num ∧ s.num ≤ 100) (hN : N ≤ 7000) (he9 : e ≤ 10000) (hb9 : b ≤ 1000000) (n : Int) (now dl : Nat) (key : ByteArray) (good : Bool) (hb : now ≤ 18446744073709551615) : Spec Tryz.prog 52 [ptrP M.p, .agg #[.int .i64 2, .int .i64 n, .int .u64 (now : Int), .int .u64 (dl : Int), .string key, .bool good]] (mdH M x) (fun r H' => ∃ M', r = .int .i64 (x.inX n 4 now) ∧ H' = mdH M' (x.endX n good now) ∧ MIs (N + 3) M' (x.endX n good now) ∧ M'.p = M.p) := by
 by_cases hm : x.may (decide (0 ≤ n ∧ n ≤ 100)) now = 0
 ·have same : ∀ {c : Int}, x.inX n 4 now = c → c ≠ 0 → x.endX n good now = x := fun hc h0 => by unfold PX.endX; rw [hc, if_pos h0]
  have none9 : x.inX n 4 now = 9 → Spec Tryz.prog 52 [ptrP M.p, .agg #[.int .i64 2, .int .i64 n, .int .u64 (now : Int), .int .u64 (dl : Int), .string key, .bool good]] (mdH M x) (fun r H' => ∃ M', r = .int .i64 (x.inX n 4 now) ∧ H' = mdH M' (x.endX n good now) ∧ MIs (N + 3) M' (x.endX n good now) ∧ M'.p = M.p) := fun h9 => by
   rw [same h9 (by decide), h9]
   exact (md_fr2 (mdo2_none h o hnm hN he9 hb9 n now dl key good hm h9)).mono fun r H' ⟨e1, e2⟩ => ⟨M, e1, e2, h.le (by omega), rfl⟩
  cases hf : x.S.find? (fun s => decide (s.num = n)) with
  | none => exact none9 (inX_none hm hf)
  | some s =>
   have hin := inX_some (st := 4) hm hf
   by_cases hst : s.st = 4
   ·rw [if_pos hst] at hin
    have hs := List.mem_of_find?_eq_some hf
    have hsn : s.num = n := by have h1 := List.find?_some hf; exact of_decide_eq_true h1
    subst hsn
    have hX : x.endX s.num good now = x.endN s good now := by unfold PX.endX; rw [hin, if_neg (by decide), hf]
    rw [hX, hin]
    obtain ⟨A, B, hS⟩ := List.append_of_mem hs
    obtain ⟨i, hbe, hil⟩ := o.g.bk s hs (.inr (.inr hst))
    obtain ⟨si, hi⟩ := getE (T := x.P) (i := i) hil
    exact mdo2_ok h o hnm hN he9 hb9 dl key hS hst good hb hm hbe hi
   ·rw [if_neg hst] at hin; exact none9 hin
 ·have hE := inX_bad (st := 4) hm
  have hX : x.endX n good now = x := by unfold PX.endX; rw [hE, if_pos hm]
  rw [hX, hE]
  exact (md_fr1 (mdo2_bad M x n now dl key good hm)).mono fun r H' ⟨e1, e2⟩ => ⟨M, e1, e2, h.le (by omega), rfl⟩
theorem mdoA {N : Nat} {M : MM} {x : PX} (h : MIs N M x) {w b e : Nat} (o : PXO w b e x) (hnm : ∀ s ∈ x.S, 0 ≤ s.num ∧ s.num ≤ 100) (hN : N ≤ 7000) (he9 : e ≤ 10000) (hb9 : b ≤ 1000000) (hw9 : w ≤ 57) (hPl : x.P.length ≤ 100) (n : Int) (now dl : Nat) (key : ByteArray) (good : Bool) (hb : now ≤ 18446744073709551615) : Spec Tryz.prog 52 [ptrP M.p, .agg #[.int .i64 3, .int .i64 n, .int .u64 (now : Int), .int .u64 (dl : Int), .string key, .bool good]] (mdH M x) (fun r H' => ∃ M', r = .int .i64 (x.may true now) ∧ H' = mdH M' (x.advX now) ∧ MIs (N + w + 101) M' (x.advX now) ∧ M'.p = M.p) := by
 by_cases hm : x.may true now = 0
 ·have hX : x.advX now = x.adv now := by unfold PX.advX; rw [if_neg (fun e => e hm)]
  rw [hX, hm]
  exact mdo3_ok h o hnm hN he9 hb9 (by omega) hPl n dl key good hb hm (fun si hs => by have := o.cnt si hs; omega)
 ·have hX : x.advX now = x := by unfold PX.advX; rw [if_pos hm]
  rw [hX]
  exact (md_fr1 (mdo3_bad M x n now dl key good hm)).mono fun r H' ⟨e1, e2⟩ => ⟨M, e1, e2, h.le (by omega), rfl⟩
theorem reS_encR (S : List Ss) (f : Int → Nat) : (reS S f).flatMap encR = S.flatMap encR := by unfold reS; rw [List.flatMap_map]
theorem mdH_re (M : MM) (x : PX) (f : Int → Nat) : mdH M (x.re f) = mdH M x := by
 have hl : (x.re f).S.length = x.S.length := List.length_map ..
 have h1 : mdE M (x.re f) = mdE M x := by unfold mdE mdC; rw [hl]
 have h2 : mdS M (x.re f) = mdS M x := by show (⟨M.so, cl ((reS x.S f).flatMap encR ++ M.stl) 84⟩ : Ent) = _; rw [reS_encR]
 show [mdE M (x.re f), mdS M (x.re f), mdV M x, mdQ M] ++ (balH M.bm ++ poolsH M.pm x.P) = _
 rw [h1, h2]
theorem MIs.re {N : Nat} {M : MM} {x : PX} (h : MIs N M x) (f : Int → Nat) : MIs N M (x.re f) :=
 ⟨h.bal, h.len, h.po, h.oq, by show Own M.so (reS x.S f).length M.sc 9 ((reS x.S f).flatMap encR) M.stl; rw [reS_encR, show (reS x.S f).length = x.S.length from List.length_map ..]; exact h.sO, h.eO, h.ok, h.seed, h.vl, h.now⟩
theorem pxis_len {N : Nat} {m : XM} {x : PX} (h : PXIs N m x) : x.P.length ≤ 64 := by have h1 := h.bal.len; have h2 := h.vl; have h3 := h.bal.is.n; omega
theorem step0_ok {N N2 : Nat} {m : XM} {M : MM} {x : PX} {w b e : Nat} (h : PXIs N m x) (hM : MIs N2 M x) (o : PXO w b e x) (hN : N ≤ 6000) (hN2 : N2 ≤ 6000) (hw : w ≤ 40) (he : e ≤ 9000) (hb : b ≤ 1000000) (n : Int) (now dl : Nat) (key : ByteArray) (good : Bool) (hnow : now ≤ 18446744073709551615) : Spec Tryz.prog 19 [ptrP m.p, ptrP M.p, .agg #[.int .i64 0, .int .i64 n, .int .u64 (now : Int), .int .u64 (dl : Int), .string key, .bool good]] (pxK m x ++ mdH M x) (fun r H' => ∃ m' M' x', r = .tuple #[ptrP m'.p, .bool true] ∧ H' = pxK m' x' ++ mdH M' x' ∧ PXIs (N + 150) m' x' ∧ MIs (N2 + 150) M' x' ∧ M'.p = M.p ∧ PXO (w + 1) (b + 102) (e + 150) x') := by
 have hP64 := pxis_len h
 have hP100 : x.P.length ≤ 100 := by omega
 refine Spec.of (E := [(0, ptrP m.p), (1, ptrP M.p), (2, .agg #[.int .i64 0, .int .i64 n, .int .u64 (now : Int), .int .u64 (dl : Int), .string key, .bool good])]) Tryz.func19 rfl (by kernel_rfl) Tryz.ntmps19 rfl rfl (fun w => ?_)
 refine WCr (WLd Z (D_box (cs := [_, _, _, _, _, _]) Z Z Z) ?_)
 rintro _ _ ⟨b1, rfl, rfl⟩
 refine WLa Z (WLa Z (WL_nil (WQ_code (WC_seq (WCr (WLf Z fa43_0 (WLl Z sc3 mmD Z (WL_nil (WQ_code (WC_block (WCr (WLa Z (WLa Z (WL_nil (WQ_code (WC_dT Z (by rfl) ?_))))))))))))))))
 refine WC_seq (WC_drawR (pxK m x ++ mdH M x) [(0, true), (1, true), (2, true), (3, true), (4, true), (5, true), (6, true), (7, true), (8, true), (9, true), (11, true), (12, true), (10, false), (13, false), (14, true), (15, true), (16, true)] followsMixed Z Z (by kernel_rfl) pqD ?_)
 refine WMa Z (WMa Z (WMf Z fa43_1 (WMl Z sc3 mmD Z (WMf Z fa43_2 (WMl Z sc25 mmD Z (WMf Z fa43_3 (WMl Z sc25 mmD Z (WMf Z fa43_4 (WMl Z sc9 mmD Z (WMa Z (WMv Z (R_loadA (vs := [_, _, _, _, _, _]) Z ag43 Z mmD Z atZ) ?_)))))))))))
 refine WMd Z (D_call (xm_begin h o (by omega) (by omega) (by omega) n now dl hnow key) Z Z Z Z pqD) ?_
 rintro _ _ ⟨_, ⟨m1, x1, rfl, rfl, h1, hp1, o1, hx1⟩, rfl⟩
 refine ⟨⟨_, pqD⟩, ?_⟩
 refine WMd Z (D_call (mdoB hM o h.num (by omega) (by omega) (by omega) n now dl key good hnow hx1) Z Z Z Z pqD) ?_
 rintro _ _ ⟨_, ⟨M1, rfl, rfl, g1, hP1⟩, rfl⟩
 refine ⟨⟨_, pqD⟩, ?_⟩
 refine WMa Z (WM_set (s := 30) (v := .bool true) Z (by simp) ?_)
 refine WMa Z (WMa Z (WM_nil (WQ_code (WC_ret ?_))))
 refine WQ2 Z (by
   exact ⟨m1, M1, _, by rw [hp1]; try rfl, rfl, h1.le (by omega), g1.le (by omega), hP1, o1.le (by omega) (by omega) (by omega)⟩) pqD
theorem step1_ok {N N2 : Nat} {m : XM} {M : MM} {x : PX} {w b e : Nat} (h : PXIs N m x) (hM : MIs N2 M x) (o : PXO w b e x) (hN : N ≤ 6000) (hN2 : N2 ≤ 6000) (hw : w ≤ 40) (he : e ≤ 9000) (hb : b ≤ 1000000) (n : Int) (now dl : Nat) (key : ByteArray) (good : Bool) (hnow : now ≤ 18446744073709551615) : Spec Tryz.prog 19 [ptrP m.p, ptrP M.p, .agg #[.int .i64 1, .int .i64 n, .int .u64 (now : Int), .int .u64 (dl : Int), .string key, .bool good]] (pxK m x ++ mdH M x) (fun r H' => ∃ m' M' x', r = .tuple #[ptrP m'.p, .bool true] ∧ H' = pxK m' x' ++ mdH M' x' ∧ PXIs (N + 150) m' x' ∧ MIs (N2 + 150) M' x' ∧ M'.p = M.p ∧ PXO (w + 1) (b + 102) (e + 150) x') := by
 have hP64 := pxis_len h
 have hP100 : x.P.length ≤ 100 := by omega
 refine Spec.of (E := [(0, ptrP m.p), (1, ptrP M.p), (2, .agg #[.int .i64 1, .int .i64 n, .int .u64 (now : Int), .int .u64 (dl : Int), .string key, .bool good])]) Tryz.func19 rfl (by kernel_rfl) Tryz.ntmps19 rfl rfl (fun w => ?_)
 refine WCr (WLd Z (D_box (cs := [_, _, _, _, _, _]) Z Z Z) ?_)
 rintro _ _ ⟨b1, rfl, rfl⟩
 refine WLa Z (WLa Z (WL_nil (WQ_code (WC_seq (WCr (WLf Z fa43_0 (WLl Z sc3 mmD Z (WL_nil (WQ_code (WC_block (WCr (WLa Z (WLa Z (WL_nil (WQ_code (WC_dF Z (by decide) ?_))))))))))))))))
 refine WCr (WLa Z (WLa Z (WL_nil (WQ_code (WC_dT Z (by rfl) ?_)))))
 refine WC_seq (WC_drawR (pxK m x ++ mdH M x) [(0, true), (1, true), (2, true), (3, true), (4, true), (5, true), (6, true), (7, true), (9, true), (10, true), (8, false), (11, false), (12, true), (13, true), (14, true)] followsMixed Z Z (by kernel_rfl) pqD ?_)
 refine WMa Z (WMa Z (WMf Z fa43_1 (WMl Z sc3 mmD Z (WMf Z fa43_5 (WMl Z sc4 mmD Z (WMf Z fa43_2 (WMl Z sc25 mmD Z (WMa Z (WMv Z (R_loadA (vs := [_, _, _, _, _, _]) Z ag43 Z mmD Z atZ) ?_)))))))))
 refine WMd Z (D_call (xm_dialed h o (by omega) (by omega) n good now hnow) Z Z Z Z pqD) ?_
 rintro _ _ ⟨_, ⟨m1, rfl, rfl, h1, hp1, o1⟩, rfl⟩
 refine ⟨⟨_, pqD⟩, ?_⟩
 refine WMd Z (D_call (mdoD hM o h.num (by omega) (by omega) (by omega) n now dl key good hnow) Z Z Z Z pqD) ?_
 rintro _ _ ⟨_, ⟨M1, rfl, rfl, g1, hP1⟩, rfl⟩
 refine ⟨⟨_, pqD⟩, ?_⟩
 refine WMa Z (WM_set (s := 45) (v := .bool true) Z (by simp) ?_)
 refine WMa Z (WMa Z (WM_nil (WQ_code (WC_ret ?_))))
 refine WQ2 Z (by
   exact ⟨m1, M1, _, by rw [hp1]; try rfl, rfl, h1.le (by omega), g1.le (by omega), hP1, o1.le (by omega) (by omega) (by omega)⟩) pqD
theorem step2_ok {N N2 : Nat} {m : XM} {M : MM} {x : PX} {w b e : Nat} (h : PXIs N m x) (hM : MIs N2 M x) (o : PXO w b e x) (hN : N ≤ 6000) (hN2 : N2 ≤ 6000) (hw : w ≤ 40) (he : e ≤ 9000) (hb : b ≤ 1000000) (n : Int) (now dl : Nat) (key : ByteArray) (good : Bool) (hnow : now ≤ 18446744073709551615) : Spec Tryz.prog 19 [ptrP m.p, ptrP M.p, .agg #[.int .i64 2, .int .i64 n, .int .u64 (now : Int), .int .u64 (dl : Int), .string key, .bool good]] (pxK m x ++ mdH M x) (fun r H' => ∃ m' M' x', r = .tuple #[ptrP m'.p, .bool true] ∧ H' = pxK m' x' ++ mdH M' x' ∧ PXIs (N + 150) m' x' ∧ MIs (N2 + 150) M' x' ∧ M'.p = M.p ∧ PXO (w + 1) (b + 102) (e + 150) x') := by
 have hP64 := pxis_len h
 have hP100 : x.P.length ≤ 100 := by omega
 refine Spec.of (E := [(0, ptrP m.p), (1, ptrP M.p), (2, .agg #[.int .i64 2, .int .i64 n, .int .u64 (now : Int), .int .u64 (dl : Int), .string key, .bool good])]) Tryz.func19 rfl (by kernel_rfl) Tryz.ntmps19 rfl rfl (fun w => ?_)
 refine WCr (WLd Z (D_box (cs := [_, _, _, _, _, _]) Z Z Z) ?_)
 rintro _ _ ⟨b1, rfl, rfl⟩
 refine WLa Z (WLa Z (WL_nil (WQ_code (WC_seq (WCr (WLf Z fa43_0 (WLl Z sc3 mmD Z (WL_nil (WQ_code (WC_block (WCr (WLa Z (WLa Z (WL_nil (WQ_code (WC_dF Z (by decide) ?_))))))))))))))))
 refine WCr (WLa Z (WLa Z (WL_nil (WQ_code (WC_dF Z (by decide) ?_)))))
 refine WCr (WLa Z (WLa Z (WL_nil (WQ_code (WC_dT Z (by rfl) ?_)))))
 refine WC_seq (WC_drawR (pxK m x ++ mdH M x) [(0, true), (1, true), (2, true), (3, true), (4, true), (5, true), (6, true), (7, true), (9, true), (10, true), (8, false), (11, false), (12, true), (13, true), (14, true)] followsMixed Z Z (by kernel_rfl) pqD ?_)
 refine WMa Z (WMa Z (WMf Z fa43_1 (WMl Z sc3 mmD Z (WMf Z fa43_5 (WMl Z sc4 mmD Z (WMf Z fa43_2 (WMl Z sc25 mmD Z (WMa Z (WMv Z (R_loadA (vs := [_, _, _, _, _, _]) Z ag43 Z mmD Z atZ) ?_)))))))))
 refine WMd Z (D_call (xm_end h o (by omega) (by omega) n good now hnow) Z Z Z Z pqD) ?_
 rintro _ _ ⟨_, ⟨m1, rfl, rfl, h1, hp1, o1⟩, rfl⟩
 refine ⟨⟨_, pqD⟩, ?_⟩
 refine WMd Z (D_call (mdoE hM o h.num (by omega) (by omega) (by omega) n now dl key good hnow) Z Z Z Z pqD) ?_
 rintro _ _ ⟨_, ⟨M1, rfl, rfl, g1, hP1⟩, rfl⟩
 refine ⟨⟨_, pqD⟩, ?_⟩
 refine WMa Z (WM_set (s := 60) (v := .bool true) Z (by simp) ?_)
 refine WMa Z (WMa Z (WM_nil (WQ_code (WC_ret ?_))))
 refine WQ2 Z (by
   exact ⟨m1, M1, _, by rw [hp1]; try rfl, rfl, h1.le (by omega), g1.le (by omega), hP1, o1.le (by omega) (by omega) (by omega)⟩) pqD
theorem step3_ok {N N2 : Nat} {m : XM} {M : MM} {x : PX} {w b e : Nat} (h : PXIs N m x) (hM : MIs N2 M x) (o : PXO w b e x) (hN : N ≤ 6000) (hN2 : N2 ≤ 6000) (hw : w ≤ 40) (he : e ≤ 9000) (hb : b ≤ 1000000) (n : Int) (now dl : Nat) (key : ByteArray) (good : Bool) (hnow : now ≤ 18446744073709551615) : Spec Tryz.prog 19 [ptrP m.p, ptrP M.p, .agg #[.int .i64 3, .int .i64 n, .int .u64 (now : Int), .int .u64 (dl : Int), .string key, .bool good]] (pxK m x ++ mdH M x) (fun r H' => ∃ m' M' x', r = .tuple #[ptrP m'.p, .bool true] ∧ H' = pxK m' x' ++ mdH M' x' ∧ PXIs (N + 150) m' x' ∧ MIs (N2 + 150) M' x' ∧ M'.p = M.p ∧ PXO (w + 1) (b + 102) (e + 150) x') := by
 have hP64 := pxis_len h
 have hP100 : x.P.length ≤ 100 := by omega
 refine Spec.of (E := [(0, ptrP m.p), (1, ptrP M.p), (2, .agg #[.int .i64 3, .int .i64 n, .int .u64 (now : Int), .int .u64 (dl : Int), .string key, .bool good])]) Tryz.func19 rfl (by kernel_rfl) Tryz.ntmps19 rfl rfl (fun w => ?_)
 refine WCr (WLd Z (D_box (cs := [_, _, _, _, _, _]) Z Z Z) ?_)
 rintro _ _ ⟨b1, rfl, rfl⟩
 refine WLa Z (WLa Z (WL_nil (WQ_code (WC_seq (WCr (WLf Z fa43_0 (WLl Z sc3 mmD Z (WL_nil (WQ_code (WC_block (WCr (WLa Z (WLa Z (WL_nil (WQ_code (WC_dF Z (by decide) ?_))))))))))))))))
 refine WCr (WLa Z (WLa Z (WL_nil (WQ_code (WC_dF Z (by decide) ?_)))))
 refine WCr (WLa Z (WLa Z (WL_nil (WQ_code (WC_dF Z (by decide) ?_)))))
 refine WCr (WLa Z (WLa Z (WL_nil (WQ_code (WC_dT Z (by rfl) ?_)))))
 refine WC_seq (WC_drawR (pxK m x ++ mdH M x) [(0, true), (1, true), (2, true), (3, true), (5, true), (6, true), (4, false), (7, false), (8, true), (9, true), (10, true)] followsMixed Z Z (by kernel_rfl) pqD ?_)
 refine WMa Z (WMa Z (WMf Z fa43_2 (WMl Z sc25 mmD Z (WMa Z (WMv Z (R_loadA (vs := [_, _, _, _, _, _]) Z ag43 Z mmD Z atZ) ?_)))))
 refine WMd Z (D_call (xm_adv h o (by omega) (by omega) (by omega) (by omega) hP100 now hnow) Z Z Z Z pqD) ?_
 rintro _ _ ⟨_, ⟨m1, rfl, rfl, h1, hp1, o1⟩, rfl⟩
 refine ⟨⟨_, pqD⟩, ?_⟩
 refine WMd Z (D_call (mdoA hM o h.num (by omega) (by omega) (by omega) (by omega) hP100 n now dl key good hnow) Z Z Z Z pqD) ?_
 rintro _ _ ⟨_, ⟨M1, rfl, rfl, g1, hP1⟩, rfl⟩
 refine ⟨⟨_, pqD⟩, ?_⟩
 refine WMa Z (WM_set (s := 71) (v := .bool true) Z (by simp) ?_)
 refine WMa Z (WMa Z (WM_nil (WQ_code (WC_ret ?_))))
 refine WQ2 Z (by
   exact ⟨m1, M1, _, by rw [hp1]; try rfl, rfl, h1.le (by omega), g1.le (by omega), hP1, o1.le (by omega) (by omega) (by omega)⟩) pqD
theorem nx_nil9 {x : PX} (hE : x.E = []) : x.nx = x := by
 unfold PX.nx
 rw [hE]
 show ({ x with E := [] } : PX) = x
 rw [← hE]
theorem step4_nil {N N2 : Nat} {m : XM} {M : MM} {x : PX} {w b e : Nat} (h : PXIs N m x) (hM : MIs N2 M x) (o : PXO w b e x) (hN : N ≤ 6000) (hN2 : N2 ≤ 6000) (hw : w ≤ 40) (he : e ≤ 9000) (hb : b ≤ 1000000) (n : Int) (now dl : Nat) (key : ByteArray) (good : Bool) (hnow : now ≤ 18446744073709551615) (hE : x.E = []) : Spec Tryz.prog 19 [ptrP m.p, ptrP M.p, .agg #[.int .i64 4, .int .i64 n, .int .u64 (now : Int), .int .u64 (dl : Int), .string key, .bool good]] (pxK m x ++ mdH M x) (fun r H' => ∃ m' M' x', r = .tuple #[ptrP m'.p, .bool true] ∧ H' = pxK m' x' ++ mdH M' x' ∧ PXIs (N + 150) m' x' ∧ MIs (N2 + 150) M' x' ∧ M'.p = M.p ∧ PXO (w + 1) (b + 102) (e + 150) x') := by
 have hnx := nx_nil9 hE
 refine Spec.of (E := [(0, ptrP m.p), (1, ptrP M.p), (2, .agg #[.int .i64 4, .int .i64 n, .int .u64 (now : Int), .int .u64 (dl : Int), .string key, .bool good])]) Tryz.func19 rfl (by kernel_rfl) Tryz.ntmps19 rfl rfl (fun w => ?_)
 refine WCr (WLd Z (D_box (cs := [_, _, _, _, _, _]) Z Z Z) ?_)
 rintro _ _ ⟨b1, rfl, rfl⟩
 refine WLa Z (WLa Z (WL_nil (WQ_code (WC_seq (WCr (WLf Z fa43_0 (WLl Z sc3 mmD Z (WL_nil (WQ_code (WC_block (WCr (WLa Z (WLa Z (WL_nil (WQ_code (WC_dF Z (by decide) ?_))))))))))))))))
 refine WCr (WLa Z (WLa Z (WL_nil (WQ_code (WC_dF Z (by decide) ?_)))))
 refine WCr (WLa Z (WLa Z (WL_nil (WQ_code (WC_dF Z (by decide) ?_)))))
 refine WCr (WLa Z (WLa Z (WL_nil (WQ_code (WC_dF Z (by decide) ?_)))))
 refine WCr (WLa Z (WLa Z (WL_nil (WQ_code (WC_dT Z (by rfl) ?_)))))
 refine WCr (WLa Z (WLc Z (xm_next h) Z pqD ?_))
 rintro _ _ ⟨_, ⟨m1, rfl, rfl, h1, hp1⟩, rfl⟩
 rw [← hp1]
 rw [hnx] at h1 ⊢
 rw [hE]
 refine WLa Z (WLa Z (WLa Z (WLd Z (D_alloc Z zv63) ?_)))
 rintro _ _ ⟨b2, rfl, rfl⟩
 refine WLs (vs := [_, _, _, _, _]) Z Tryz.sizeOf63 Z Z plD (nb Z) ?_
 refine WLa Z (WL_nil (WQ_code (WC_seq (WCr (WLa Z (WLa Z (WLf Z fa60_5 (WLl Z sc58 mmD Z (WLv Z (R_len Z Tryz.underlying58 Z) ?_)))))))))
 refine WLa Z (WL_nil (WQ_code (WC_dT Z (by rw [hE]; rfl) ?_)))
 refine WCr (WLa Z (WLv Z (R_loadA (vs := [_, _, _, _, _]) Z ag63 Z mmD Z atZ) ?_))
 refine WLv Z (R_build Z zv63 pl63 Z Z) ?_
 refine WLv Z (R_seq63 Z Z Z Z) ?_
 refine WL_set (s := 88) (v := .bool true) Z (by rfl) ?_
 refine WLa Z (WLa Z (WLa Z (WL_set (s := 91) (v := .bool true) Z (by rfl) ?_)))
 refine WLa Z (WL_set (s := 92) (v := .bool true) Z (by rfl) ?_)
 refine WLa Z (WLa Z (WL_nil (WQ_code (WC_ret ?_))))
 refine WQ2 Z (by
   exact ⟨m1, M, x, rfl, rfl, h1.le (by omega), hM.le (by omega), rfl, o.le (by omega) (by omega) (by omega)⟩) pqD
theorem MIs.nx9 {N : Nat} {M : MM} {x : PX} (h : MIs N M x) {v : Xv} {r : List Xv} (hE : x.E = v :: r) : MIs N ({ M with ek := if M.ec = 1 then M.ek else M.ek + 5, ec := M.ec - 1, epre := M.epre ++ encX v } : MM) x.nx :=
 ⟨h.bal, h.len, h.po, h.oq, h.sO, by
  have heO := h.eO
  rw [hE] at heO
  show OwnS M.eb _ x.nx.E.length _ 5 _ (x.nx.E.flatMap encX) _
  rw [show x.nx.E = r from by show x.E.drop 1 = r; rw [hE]; rfl]
  exact heO.cut (ys := encX v) (zs := r.flatMap encX) (m := r.length) rfl rfl rfl, h.ok, h.seed, h.vl, h.now⟩
theorem step4_some {N N2 : Nat} {m : XM} {M : MM} {x : PX} {w b e : Nat} (h : PXIs N m x) (hM : MIs N2 M x) (o : PXO w b e x) (hN : N ≤ 6000) (hN2 : N2 ≤ 6000) (hw : w ≤ 40) (he : e ≤ 9000) (hb : b ≤ 1000000) (n : Int) (now dl : Nat) (key : ByteArray) (good : Bool) (hnow : now ≤ 18446744073709551615) {v : Xv} {r : List Xv} (hE : x.E = v :: r) : Spec Tryz.prog 19 [ptrP m.p, ptrP M.p, .agg #[.int .i64 4, .int .i64 n, .int .u64 (now : Int), .int .u64 (dl : Int), .string key, .bool good]] (pxK m x ++ mdH M x) (fun r H' => ∃ m' M' x', r = .tuple #[ptrP m'.p, .bool true] ∧ H' = pxK m' x' ++ mdH M' x' ∧ PXIs (N + 150) m' x' ∧ MIs (N2 + 150) M' x' ∧ M'.p = M.p ∧ PXO (w + 1) (b + 102) (e + 150) x') := by
 have hlen : x.E.length = r.length + 1 := by rw [hE]; rfl
 have hel := o.e
 obtain ⟨we, hwe⟩ := hM.eO.some_of (by rw [hE]; exact Nat.succ_pos _)
 have hnxE : x.nx.E = r := by show x.E.drop 1 = r; rw [hE]; rfl
 have heO := hM.eO
 rw [hE] at heO
 have hmE : mdE ({ M with ek := if M.ec = 1 then M.ek else M.ek + 5, ec := M.ec - 1, epre := M.epre ++ encX v } : MM) x.nx = ⟨some M.p, cl [ptrB M.bm.p, slV M.ob x.P.length M.oc, .int .u64 (x.pl.base : Int), .int .u64 (x.pl.most : Int), .int .i64 x.pl.num, .int .i64 x.pl.den, .int .i64 x.pl.tries, .int .i64 x.pl.jit, .int .u32 (x.pl.seed : Int), .int .u64 (x.now : Int), slV M.so x.S.length M.sc, sVal M.eb (if M.ec = 1 then M.ek else M.ek + 5) r.length (M.ec - 1)] 60⟩ := by unfold mdE mdC; rw [hnxE]; rfl
 have hmV : mdV ({ M with ek := if M.ec = 1 then M.ek else M.ek + 5, ec := M.ec - 1, epre := M.epre ++ encX v } : MM) x.nx = mdV M x := by unfold mdV; rw [hnxE, hE]; simp
 refine Spec.of (E := [(0, ptrP m.p), (1, ptrP M.p), (2, .agg #[.int .i64 4, .int .i64 n, .int .u64 (now : Int), .int .u64 (dl : Int), .string key, .bool good])]) Tryz.func19 rfl (by kernel_rfl) Tryz.ntmps19 rfl rfl (fun w => ?_)
 refine WCr (WLd Z (D_box (cs := [_, _, _, _, _, _]) Z Z Z) ?_)
 rintro _ _ ⟨b1, rfl, rfl⟩
 refine WLa Z (WLa Z (WL_nil (WQ_code (WC_seq (WCr (WLf Z fa43_0 (WLl Z sc3 mmD Z (WL_nil (WQ_code (WC_block (WCr (WLa Z (WLa Z (WL_nil (WQ_code (WC_dF Z (by decide) ?_))))))))))))))))
 refine WCr (WLa Z (WLa Z (WL_nil (WQ_code (WC_dF Z (by decide) ?_)))))
 refine WCr (WLa Z (WLa Z (WL_nil (WQ_code (WC_dF Z (by decide) ?_)))))
 refine WCr (WLa Z (WLa Z (WL_nil (WQ_code (WC_dF Z (by decide) ?_)))))
 refine WCr (WLa Z (WLa Z (WL_nil (WQ_code (WC_dT Z (by rfl) ?_)))))
 refine WCr (WLa Z (WLc Z (xm_next h) Z pqD ?_))
 rintro _ _ ⟨_, ⟨m1, rfl, rfl, h1, hp1⟩, rfl⟩
 rw [← hp1]
 rw [hE]
 refine WLa Z (WLa Z (WLa Z (WLd Z (D_alloc Z zv63) ?_)))
 rintro _ _ ⟨b2, rfl, rfl⟩
 refine WLs (vs := [_, _, _, _, _]) Z Tryz.sizeOf63 Z Z plD (nb Z) ?_
 refine WLa Z (WL_nil (WQ_code (WC_seq (WCr (WLa Z (WLa Z (WLf Z fa60_5 (WLl Z sc58 mmD Z (WLv Z (R_len Z Tryz.underlying58 Z) ?_)))))))))
 refine WLa Z (WL_nil (WQ_code (WC_dF Z (by omega) ?_)))
 refine WC_skip (WQ_code (WCr (WLa Z (WLa Z (WLf Z fa60_5 (WLl Z sc58 mmD Z (WLv Z (R_indexS (i := 0) hwe Z Tryz.underlying58 Tryz.sizeOf63 Z Z (by omega)) ?_)))))))
 refine WLv Z (R_loadAO (vs := [.int .i64 v.k, .int .i64 v.s, .int .i64 v.b, .int .i64 v.c, .int .i64 v.e]) hwe Z ag63 Z mmD Z (OwnS.atX hM.eO (i := 0) (x := v) (by rw [hE]; rfl) (by omega))) ?_
 refine WLd Z (D_alloc Z zv63) ?_
 rintro _ _ ⟨b3, rfl, rfl⟩
 refine WLs (vs := [_, _, _, _, _]) Z Tryz.sizeOf63 Z Z plD (nb Z) ?_
 refine WL_nil (WQ_code (WCr (WLa Z (WLa Z (WLa Z (WLf Z fa60_5 (WLl Z sc58 mmD Z (WLv Z (R_cut1 (m := r.length) hwe Z Tryz.underlying58 Tryz.sizeOf63 Z Z hlen) ?_))))))))
 refine WLa Z (WLf Z fa60_5 (WLs (vs := [_]) Z Tryz.sizeOf58 Z Z plD (nb Z) ?_))
 refine WL_nil (WQ_code (WCr (WLa Z (WLv Z (R_loadA (vs := [_, _, _, _, _]) Z ag63 Z mmD Z atZ) ?_))))
 refine WLv Z (R_loadA (vs := [_, _, _, _, _]) Z ag63 Z mmD Z atZ) ?_
 refine WLv Z (R_seq63 Z Z Z Z) ?_
 refine WL_set (s := 110) (v := .bool true) Z (by exact congrArg Value.bool (by simp [hdX])) ?_
 refine WLa Z (WLa Z (WLa Z (WL_set (s := 113) (v := .bool true) Z (by rfl) ?_)))
 refine WLa Z (WLa Z (WL_nil (WQ_code (WC_ret (WQ_shape (A := [⟨some M.p, cl [ptrB M.bm.p, slV M.ob x.P.length M.oc, .int .u64 (x.pl.base : Int), .int .u64 (x.pl.most : Int), .int .i64 x.pl.num, .int .i64 x.pl.den, .int .i64 x.pl.tries, .int .i64 x.pl.jit, .int .u32 (x.pl.seed : Int), .int .u64 (x.now : Int), slV M.so x.S.length M.sc, sVal M.eb (if M.ec = 1 then M.ek else M.ek + 5) r.length (M.ec - 1)] 60⟩]) (A' := [mdE ({ M with ek := if M.ec = 1 then M.ek else M.ek + 5, ec := M.ec - 1, epre := M.epre ++ encX v } : MM) x.nx]) pqD (List.Perm.of_eq (by rw [hmE])) ?_)))))
 refine WQ_shape (A := [mdV M x]) (A' := [mdV ({ M with ek := if M.ec = 1 then M.ek else M.ek + 5, ec := M.ec - 1, epre := M.epre ++ encX v } : MM) x.nx]) pqD (List.Perm.of_eq (by rw [hmV])) ?_
 refine WQ2 Z (by
   exact ⟨m1, ({ M with ek := if M.ec = 1 then M.ek else M.ek + 5, ec := M.ec - 1, epre := M.epre ++ encX v } : MM), x.nx, rfl, rfl, h1.le (by omega), (hM.nx9 hE).le (by omega), rfl, o.nx.le (by omega) (by omega) (by omega)⟩) pqD
theorem stepC_ok {N N2 : Nat} {m : XM} {M : MM} {x : PX} {w b e : Nat} (h : PXIs N m x) (hM : MIs N2 M x) (o : PXO w b e x) (hN : N ≤ 6000) (hN2 : N2 ≤ 6000) (hw : w ≤ 40) (he : e ≤ 9000) (hb : b ≤ 1000000) (n : Int) (now dl : Nat) (key : ByteArray) (good : Bool) (hnow : now ≤ 18446744073709551615) (wt : Int) (hwt : wt < 0 ∨ 4 < wt) : Spec Tryz.prog 19 [ptrP m.p, ptrP M.p, .agg #[.int .i64 wt, .int .i64 n, .int .u64 (now : Int), .int .u64 (dl : Int), .string key, .bool good]] (pxK m x ++ mdH M x) (fun r H' => ∃ m' M' x', r = .tuple #[ptrP m'.p, .bool true] ∧ H' = pxK m' x' ++ mdH M' x' ∧ PXIs (N + 150) m' x' ∧ MIs (N2 + 150) M' x' ∧ M'.p = M.p ∧ PXO (w + 1) (b + 102) (e + 150) x') := by
 have hxn := h.now
 refine Spec.shed ?_
 refine Spec.of (E := [(0, ptrP m.p), (1, ptrP M.p), (2, .agg #[.int .i64 wt, .int .i64 n, .int .u64 (now : Int), .int .u64 (dl : Int), .string key, .bool good])]) Tryz.func19 rfl (by kernel_rfl) Tryz.ntmps19 rfl rfl (fun w => ?_)
 refine WCr (WLd Z (D_box (cs := [_, _, _, _, _, _]) Z Z Z) ?_)
 rintro _ _ ⟨b1, rfl, rfl⟩
 refine WLa Z (WLa Z (WL_nil (WQ_code (WC_seq (WCr (WLf Z fa43_0 (WLl Z sc3 mmD Z (WL_nil (WQ_code (WC_block (WCr (WLa Z (WLa Z (WL_nil (WQ_code (WC_dF Z (by omega) ?_))))))))))))))))
 refine WCr (WLa Z (WLa Z (WL_nil (WQ_code (WC_dF Z (by omega) ?_)))))
 refine WCr (WLa Z (WLa Z (WL_nil (WQ_code (WC_dF Z (by omega) ?_)))))
 refine WCr (WLa Z (WLa Z (WL_nil (WQ_code (WC_dF Z (by omega) ?_)))))
 refine WCr (WLa Z (WLa Z (WL_nil (WQ_code (WC_dF Z (by omega) ?_)))))
 refine WC_skip (WQ_code (WCr (WLa Z (WLc Z (xm_copy h o.g.nd (by have := o.e; omega) (fun s hs => (o.b4 hb s hs).1)) Z pqD ?_))))
 rintro _ _ ⟨_, ⟨m2, f2, rfl, rfl, h2⟩, rfl⟩
 refine WLa Z (WL_nil (WQ_code (WCr (WLa Z (WLa Z (WLa Z (WLf Z fa60_3 (WLl Z sc25 mmD Z (WLc Z (xm_begin h o (by omega) (by omega) (by omega) 99 x.now 18446744073709551615 (by omega) ⟨#[122]⟩) Z pqD ?_)))))))))
 rintro _ _ ⟨_, ⟨m3, x3, rfl, rfl, h3, hp3, o3, hx3⟩, rfl⟩
 rw [← hp3]
 refine WL_nil (WQ_code (WCr (WLa Z (WLa Z (WLa Z (WLf Z fa60_3 (WLl Z sc25 mmD Z (WLc Z (xm_end h3 o3 (by omega) (by omega) 1 false x.now (by omega)) Z pqD ?_))))))))
 rintro _ _ ⟨_, ⟨m4, rfl, rfl, h4, hp4, o4⟩, rfl⟩
 rw [← hp4]
 refine WL_nil (WQ_code (WCr (WLa Z (WLa Z (WLa Z (WLf Z fa60_3 (WLl Z sc25 mmD Z (WLc Z (xm_dialed h4 o4 (by omega) (by omega) 1 false x.now (by omega)) Z pqD ?_))))))))
 rintro _ _ ⟨_, ⟨m5, rfl, rfl, h5, hp5, o5⟩, rfl⟩
 rw [← hp5]
 refine WL_nil (WQ_code (WCr (WLa Z (WLc Z (xm_next h5) Z pqD ?_))))
 rintro _ _ ⟨_, ⟨m6, rfl, rfl, h6, hp6⟩, rfl⟩
 refine WL_nil (WQ_code (WCr (WLa Z (WLa Z (WLv Z (R_ptrNeNil Z Tryz.underlying33 Z) ?_)))))
 refine WL_set (s := 138) (v := .bool true) Z (by rfl) ?_
 refine WLa Z (WLa Z (WL_nil (WQ_code (WC_ret ?_))))
 refine WQ2 Z (by
   exact ⟨pxK m2 (x.re f2) ++ mdH M x, pxK m6 ((x3.endX 1 false x.now).dialX 1 false x.now).nx, List.Perm.refl _, m2, M, x.re f2, rfl, by rw [mdH_re], h2.le (by omega), (hM.re f2).le (by omega), rfl, (o.re f2).le (by omega) (by omega) (by omega)⟩) pqD
theorem step_ok {N N2 : Nat} {m : XM} {M : MM} {x : PX} {w b e : Nat} (h : PXIs N m x) (hM : MIs N2 M x) (o : PXO w b e x) (hN : N ≤ 6000) (hN2 : N2 ≤ 6000) (hw : w ≤ 40) (he : e ≤ 9000) (hb : b ≤ 1000000) (a : A9) (hnow : a.now ≤ 18446744073709551615) : Spec Tryz.prog 19 [ptrP m.p, ptrP M.p, .agg (encA9 a).toArray] (pxK m x ++ mdH M x) (fun r H' => ∃ m' M' x', r = .tuple #[ptrP m'.p, .bool true] ∧ H' = pxK m' x' ++ mdH M' x' ∧ PXIs (N + 150) m' x' ∧ MIs (N2 + 150) M' x' ∧ M'.p = M.p ∧ PXO (w + 1) (b + 102) (e + 150) x') := by
 obtain ⟨wt, n, now, dl, key, good⟩ := a
 by_cases h0 : wt < 0 ∨ 4 < wt
 ·exact stepC_ok h hM o hN hN2 hw he hb n now dl key good hnow wt h0
 ·rcases (show wt = 0 ∨ wt = 1 ∨ wt = 2 ∨ wt = 3 ∨ wt = 4 by omega) with rfl | rfl | rfl | rfl | rfl
  ·exact step0_ok h hM o hN hN2 hw he hb n now dl key good hnow
  ·exact step1_ok h hM o hN hN2 hw he hb n now dl key good hnow
  ·exact step2_ok h hM o hN hN2 hw he hb n now dl key good hnow
  ·exact step3_ok h hM o hN hN2 hw he hb n now dl key good hnow
  ·cases hE : x.E with
   | nil => exact step4_nil h hM o hN hN2 hw he hb n now dl key good hnow hE
   | cons v r => exact step4_some h hM o hN hN2 hw he hb n now dl key good hnow hE
theorem adv_evalP {s s1 : PS} {now : Nat} {L : List Qp} {O : List Int} (hm : s.may true now = 0) (hl : s.Q.filter (fun x => decide (x.dl ≤ now)) = L) (hl1 : L.length ≤ 1) (h1 : L.foldl PS.tmo (s.at_ now) = s1) (ho : (allI 3 s1.C).filter (fun a => !young s1 now a) = O) (ho1 : O.length ≤ 1) : s.advance now = O.foldl PS.shut s1 := by
 have e1 : s.late now = L := by
  unfold PS.late
  rw [hl]
  match L, hl1 with
  | [], _ => simp
  | [x], _ => simp
 have e2 : s.adv1 now = s1 := by unfold PS.adv1; rw [e1, h1]
 have e3 : s1.old now = O := by
  unfold PS.old
  rw [ho]
  match O, ho1 with
  | [], _ => simp
  | [x], _ => simp
 rw [adv_ok hm, e2, e3]
theorem adv2_eval {x : PX} {now : Nat} {q0 q1 r0 r1 : PS} (hP : x.P = [q0, q1]) (h0 : q0.advance now = r0) (h1 : q1.advance now = r1) {y1 y2 : PX} (e1 : PX.drain { x with now := now, P := [r0, q1] } 0 = y1) (hy : y1.P[1]? = some q1) (e2 : PX.drain { y1 with P := y1.P.set 1 r1 } 1 = y2) {D : List Ss} (hD : y2.S.filter (fun s => decide (s.st = 1 ∧ s.til ≤ y2.now)) = D) (hl : D.length ≤ 1) : x.adv now = D.foldl (PX.dueF now) y2 := by
 have a1 : PX.advP now { x with now := now } 0 = y1 := by
  unfold PX.advP
  show (match x.P[0]? with | none => _ | some si => _) = _
  rw [hP]
  show PX.drain { x with now := now, P := [q0.advance now, q1] } 0 = y1
  rw [h0]; exact e1
 have a2 : PX.advP now y1 1 = y2 := by
  unfold PX.advP
  rw [hy]
  dsimp only
  rw [h1]; exact e2
 have a3 : x.advK now x.P.length = y2 := by
  have : x.P.length = 2 := by rw [hP]; rfl
  rw [this]
  show PX.advP now (PX.advP now { x with now := now } 0) 1 = y2
  rw [a1, a2]
 have a4 : y2.due = D := by
  unfold PX.due
  rw [hD]
  match D, hl with
  | [], _ => simp
  | [x], _ => simp
 unfold PX.adv
 rw [a3, a4]
abbrev kb : ByteArray := ⟨#[107]⟩
abbrev kpl : Plan := ⟨5, 5, 1, 1, 2, 0, 0⟩
abbrev kv (act : Int) (last : Nat) (gen st : Int) (opened : Nat) : Vw := (1, 0, act, true, ⟨1, 1, 100, last, gen, st, opened, 0, 0, 0⟩)
abbrev kq (now : Nat) (x : Cn) (Q : List Qp) (n : Nat) : PS := ⟨1, 1, 18446744073709551615, now, x :: List.replicate 63 ⟨0, 0, 0⟩, Q, n, []⟩
abbrev kx0 : PX := ⟨⟨1, [kv 0 0 0 0 0, kv 0 0 0 0 0], 0, 0, 0, []⟩, [kq 0 ⟨0, 0, 0⟩ [] 0, kq 0 ⟨0, 0, 0⟩ [] 0], kpl, 0, [], []⟩
abbrev kx1 (p : Nat) : PX := ⟨⟨1, [kv 1 0 0 0 0, kv 0 0 0 0 0], 1, 1, 0, [(1, (0, 0))]⟩, [kq 0 ⟨1, 7, 0⟩ [] 0, kq 0 ⟨0, 0, 0⟩ [] 0], kpl, 0, [⟨7, kb, 50, 0, 3, 0, 1, 0, 0, p⟩], [⟨2, 7, 0, 0, 0⟩]⟩
abbrev kx2 (p : Nat) : PX := ⟨⟨1, [kv 1 0 0 0 0, kv 0 0 0 0 0], 1, 1, 0, [(1, (0, 0))]⟩, [kq 0 ⟨1, 7, 0⟩ [] 0, kq 0 ⟨0, 0, 0⟩ [] 0], kpl, 0, [⟨7, kb, 50, 0, 3, 0, 1, 0, 0, p⟩], []⟩
abbrev kx3 (p : Nat) : PX := ⟨⟨1, [kv 1 0 0 0 0, kv 0 0 0 0 0], 1, 1, 0, [(1, (0, 0))]⟩, [kq 1 ⟨2, 0, 0⟩ [] 0, kq 0 ⟨0, 0, 0⟩ [] 0], kpl, 1, [⟨7, kb, 50, 0, 4, 0, 1, 0, 0, p⟩], [⟨1, 7, 0, 0, 0⟩]⟩
abbrev kx4 (p : Nat) : PX := ⟨⟨1, [kv 1 0 0 0 0, kv 0 0 0 0 0], 1, 1, 0, [(1, (0, 0))]⟩, [kq 1 ⟨2, 0, 0⟩ [] 0, kq 0 ⟨0, 0, 0⟩ [] 0], kpl, 1, [⟨7, kb, 50, 0, 4, 0, 1, 0, 0, p⟩], []⟩
abbrev kx5 (p q : Nat) : PX := ⟨⟨1, [kv 1 0 0 0 0, kv 1 1 0 0 0], 0, 2, 1, [(2, (1, 0)), (1, (0, 0))]⟩, [kq 1 ⟨2, 0, 0⟩ [] 0, kq 1 ⟨1, 8, 0⟩ [] 0], kpl, 1, [⟨7, kb, 50, 0, 4, 0, 1, 0, 0, p⟩, ⟨8, kb, 50, 0, 3, 0, 2, 1, 0, q⟩], [⟨2, 8, 1, 0, 0⟩]⟩
abbrev kx6 (p q : Nat) : PX := ⟨⟨1, [kv 1 0 0 0 0, kv 1 1 0 0 0], 0, 2, 1, [(2, (1, 0)), (1, (0, 0))]⟩, [kq 1 ⟨2, 0, 0⟩ [] 0, kq 1 ⟨1, 8, 0⟩ [] 0], kpl, 1, [⟨7, kb, 50, 0, 4, 0, 1, 0, 0, p⟩, ⟨8, kb, 50, 0, 3, 0, 2, 1, 0, q⟩], []⟩
abbrev kx7 (p q : Nat) : PX := ⟨⟨1, [kv 1 0 0 0 0, kv 0 2 1 1 2], 0, 2, 2, [(1, (0, 0))]⟩, [kq 1 ⟨2, 0, 0⟩ [] 0, kq 2 ⟨0, 0, 0⟩ [] 0], kpl, 2, [⟨7, kb, 50, 0, 4, 0, 1, 0, 0, p⟩, ⟨8, kb, 50, 1, 1, 7, 0, -1, -1, q⟩], []⟩
abbrev kx8 (p q : Nat) : PX := ⟨⟨1, [kv 2 7 0 0 0, kv 0 2 1 1 2], 1, 3, 7, [(3, (0, 0)), (1, (0, 0))]⟩, [kq 7 ⟨2, 0, 0⟩ [⟨1, 8, 50⟩] 1, kq 7 ⟨0, 0, 0⟩ [] 0], kpl, 7, [⟨7, kb, 50, 0, 4, 0, 1, 0, 0, p⟩, ⟨8, kb, 50, 1, 2, 7, 3, 0, -1, q⟩], []⟩
abbrev kx9 (q : Nat) : PX := ⟨⟨1, [kv 1 8 0 0 0, kv 0 2 1 1 2], 1, 3, 8, [(3, (0, 0))]⟩, [kq 8 ⟨2, 0, 0⟩ [] 1, kq 7 ⟨0, 0, 0⟩ [] 0], kpl, 8, [⟨8, kb, 50, 1, 4, 7, 3, 0, 0, q⟩], [⟨1, 8, 0, 0, 0⟩]⟩
abbrev kx10 (q : Nat) : PX := ⟨⟨1, [kv 1 8 0 0 0, kv 0 2 1 1 2], 1, 3, 8, [(3, (0, 0))]⟩, [kq 8 ⟨2, 0, 0⟩ [] 1, kq 7 ⟨0, 0, 0⟩ [] 0], kpl, 8, [⟨8, kb, 50, 1, 4, 7, 3, 0, 0, q⟩], []⟩
abbrev kx11 (q r : Nat) : PX := ⟨⟨1, [kv 2 8 0 0 0, kv 0 2 1 1 2], 1, 4, 8, [(4, (0, 0)), (3, (0, 0))]⟩, [kq 8 ⟨2, 0, 0⟩ [⟨2, 9, 20⟩] 2, kq 7 ⟨0, 0, 0⟩ [] 0], kpl, 8, [⟨8, kb, 50, 1, 4, 7, 3, 0, 0, q⟩, ⟨9, kb, 20, 0, 2, 0, 4, 0, -1, r⟩], []⟩
abbrev kx12 (q : Nat) : PX := ⟨⟨1, [kv 1 20 0 0 0, kv 0 2 1 1 2], 1, 4, 20, [(3, (0, 0))]⟩, [kq 20 ⟨2, 0, 0⟩ [] 2, kq 20 ⟨0, 0, 0⟩ [] 0], kpl, 20, [⟨8, kb, 50, 1, 4, 7, 3, 0, 0, q⟩], [⟨3, 9, -1, -1, 12⟩]⟩
theorem kx0_eq : px0 1 [1, 1] 1 100 1 1 18446744073709551615 ⟨5, 5, 1, 1, 2, 0, 0⟩ = kx0 := by kernel_rfl
theorem kx1_eq (p : Nat) : kx0.begin 7 0 50 kb p = kx1 p := by kernel_rfl
theorem kx2_eq (p : Nat) : (kx1 p).nx = kx2 p := by kernel_rfl
theorem kx3_eq (p : Nat) : (kx2 p).dialX 7 true 1 = kx3 p := by kernel_rfl
theorem kx4_eq (p : Nat) : (kx3 p).nx = kx4 p := by kernel_rfl
theorem kx5_eq (p q : Nat) : (kx4 p).begin 8 1 50 kb q = kx5 p q := by kernel_rfl
theorem kx6_eq (p q : Nat) : (kx5 p q).nx = kx6 p q := by kernel_rfl
theorem kx7_eq (p q : Nat) : (kx6 p q).dialX 8 false 2 = kx7 p q := by kernel_rfl
theorem kx7_nx (p q : Nat) : (kx7 p q).nx = kx7 p q := by kernel_rfl
theorem kx9_eq (p q : Nat) : (kx8 p q).endX 7 true 8 = kx9 q := by kernel_rfl
theorem kx10_eq (q : Nat) : (kx9 q).nx = kx10 q := by kernel_rfl
theorem kx11_eq (q r : Nat) : (kx10 q).begin 9 8 20 kb r = kx11 q r := by kernel_rfl
theorem kq_adv (now : Nat) (h : now ≠ 18446744073709551615) (t n : Nat) (c : Cn) (ht : t ≤ now) (hc : c.st = 2 ∨ c.st = 0) : (kq t c [] n).advance now = kq now c [] n := by
 have ha : allI 3 (kq now c [] n).C = [] := by
  have : ∀ (m : Nat) (k : Nat), allF 3 k (List.replicate m ⟨0, 0, 0⟩) = [] := by
   intro m
   induction m with
   | zero => intro k; rfl
   | succ m ih => intro k; rw [List.replicate_succ, allF, if_neg (by decide)]; exact ih _
  show allF 3 0 (c :: List.replicate 63 ⟨0, 0, 0⟩) = []
  rw [allF, if_neg (by omega)]
  exact this 63 1
 rw [adv_evalP (L := []) (O := []) (s1 := kq now c [] n) (may_fine rfl (by show ¬ (now < t ∨ _); omega)) rfl (Nat.zero_le _) rfl (by rw [ha]; rfl) (Nat.zero_le _)]
 rfl
theorem kx8_eq (p q : Nat) : (kx7 p q).advX 7 = kx8 p q := by
 have h : (kx7 p q).advX 7 = (kx7 p q).adv 7 := by kernel_rfl
 rw [h]
 exact (adv2_eval (x := kx7 p q) rfl (kq_adv 7 (by decide) 1 0 ⟨2, 0, 0⟩ (by decide) (.inl rfl)) (kq_adv 7 (by decide) 2 0 ⟨0, 0, 0⟩ (by decide) (.inr rfl)) (y1 := { kx7 p q with now := 7, P := [kq 7 ⟨2, 0, 0⟩ [] 0, kq 2 ⟨0, 0, 0⟩ [] 0] }) (by kernel_rfl) rfl (y2 := { kx7 p q with now := 7, P := [kq 7 ⟨2, 0, 0⟩ [] 0, kq 7 ⟨0, 0, 0⟩ [] 0] }) (by kernel_rfl) (D := [⟨8, kb, 50, 1, 1, 7, 0, -1, -1, q⟩]) (by kernel_rfl) (Nat.le_refl _)).trans (by kernel_rfl)
theorem kx12_q : (kq 8 ⟨2, 0, 0⟩ [⟨2, 9, 20⟩] 2).advance 20 = { kq 20 ⟨2, 0, 0⟩ [] 2 with E := [⟨4, 9, -1⟩] } := by
 rw [adv_evalP (s := kq 8 ⟨2, 0, 0⟩ [⟨2, 9, 20⟩] 2) (s1 := { kq 20 ⟨2, 0, 0⟩ [] 2 with E := [⟨4, 9, -1⟩] }) (L := [⟨2, 9, 20⟩]) (O := []) (now := 20) (by kernel_rfl) (by kernel_rfl) (nb rfl) (by kernel_rfl) (by kernel_rfl) (nb rfl)]
 kernel_rfl
theorem kx12_eq (q r : Nat) : (kx11 q r).advX 20 = kx12 q := by
 have h : (kx11 q r).advX 20 = (kx11 q r).adv 20 := by kernel_rfl
 rw [h]
 exact (adv2_eval (x := kx11 q r) rfl kx12_q (kq_adv 20 (by decide) 7 0 ⟨0, 0, 0⟩ (by decide) (.inr rfl)) (y1 := { kx12 q with P := [kq 20 ⟨2, 0, 0⟩ [] 2, kq 7 ⟨0, 0, 0⟩ [] 0] }) (by kernel_rfl) (by kernel_rfl) (y2 := kx12 q) (by kernel_rfl) (D := []) (by kernel_rfl) (Nat.zero_le _)).trans rfl
theorem known_ok : Spec Tryz.prog 8 [] [] (fun r H' => r = .bool true ∧ H' = []) := by
 refine Spec.of (E := []) Tryz.func8 rfl (by kernel_rfl) Tryz.ntmps8 rfl rfl (fun w => ?_)
 refine WCr (WLa Z (WL_nil (WQ_code (WCr (WLc Z (lsett_ok) Z pqD ?_)))))
 rintro _ _ ⟨_, ⟨ws, rfl, rfl⟩, rfl⟩
 refine WLc Z (xm_new 1 [1, 1] _ _ _ (Rd.own (e := 3) (own_lit _ [1, 1] (nb Z))) 1 100 1 1 18446744073709551615 ⟨5, 5, 1, 1, 2, 0, 0⟩ (by decide) (by decide) (by decide) (by decide) (Nat.le_refl _)) Z pqD ?_
 rintro _ _ ⟨_, ⟨m0, rfl, rfl, g0⟩, rfl⟩
 rw [kx0_eq] at g0 ⊢
 have o0 : PXO 0 0 0 kx0 := kx0_eq ▸ PXO.new (by decide) (by decide)
 refine WLa Z (WLa Z (WLa Z (WLa Z (WLa Z (WL_nil (WQ_code (WC_seq (WCr (WLa Z (WLv Z (R_ptrEqNil Z Tryz.underlying33 Z) ?_))))))))))
 refine WL_set (s := 11) (v := .bool false) Z (by rfl) ?_
 refine WLa Z (WLa Z (WLa Z (WLa Z (WLa Z (WL_set (s := 16) (v := .bool false) Z (by simp) ?_)))))
 refine WLa Z (WLc Z (xm_begin g0 o0 (by omega) (by omega) (by omega) 7 0 50 (by omega) kb) Z pqD ?_)
 rintro _ _ ⟨_, ⟨m1, x1, rfl, rfl, g1, p1, o1, hx1⟩, rfl⟩
 obtain ⟨q1, rfl⟩ : ∃ p, x1 = (kx0).begin 7 0 50 kb p := by rcases hx1 with ⟨e, _⟩ | ⟨_, e⟩; exact absurd (by kernel_rfl) e; exact e
 rw [kx1_eq] at g1 o1 ⊢
 rw [← p1]
 rw [show (kx0).begE 7 0 50 kb = 0 from by kernel_rfl]
 refine WLa Z (WLa Z (WLa Z (WL_set (s := 21) (v := .bool false) Z (by simp) ?_)))
 refine WLa Z (WLc Z (mtells_ok g1 (r := []) Z) Z pqD ?_)
 rintro _ _ ⟨_, ⟨m2, rfl, rfl, g2, p2⟩, rfl⟩
 rw [kx2_eq] at g2 ⊢
 rw [← p2]
 have o2 := o1.nx
 rw [kx2_eq] at o2
 refine WLa Z (WLa Z (WLa Z (WLa Z (WLc Z (xm_dialed g2 o2 (by omega) (by omega) 7 true 1 (by omega)) Z pqD ?_))))
 rintro _ _ ⟨_, ⟨m3, rfl, rfl, g3, p3, o3⟩, rfl⟩
 rw [kx3_eq] at g3 o3 ⊢
 rw [← p3]
 rw [show (kx2 q1).inX 7 3 1 = 0 from by kernel_rfl]
 refine WLa Z (WLa Z (WLa Z (WL_set (s := 31) (v := .bool false) Z (by simp) ?_)))
 refine WLa Z (WLc Z (mtells_ok g3 (r := []) Z) Z pqD ?_)
 rintro _ _ ⟨_, ⟨m4, rfl, rfl, g4, p4⟩, rfl⟩
 rw [kx4_eq] at g4 ⊢
 rw [← p4]
 have o4 := o3.nx
 rw [kx4_eq] at o4
 refine WLa Z (WLa Z (WL_nil (WQ_code (WC_F Z (WC_skip (WQ_code (WC_seq (WCr (WLa Z (WLc Z (xm_begin g4 o4 (by omega) (by omega) (by omega) 8 1 50 (by omega) kb) Z pqD ?_))))))))))
 rintro _ _ ⟨_, ⟨m5, x5, rfl, rfl, g5, p5, o5, hx5⟩, rfl⟩
 obtain ⟨q2, rfl⟩ : ∃ p, x5 = (kx4 q1).begin 8 1 50 kb p := by rcases hx5 with ⟨e, _⟩ | ⟨_, e⟩; exact absurd (by kernel_rfl) e; exact e
 rw [kx5_eq] at g5 o5 ⊢
 rw [← p5]
 rw [show (kx4 q1).begE 8 1 50 kb = 0 from by kernel_rfl]
 refine WLa Z (WLa Z (WL_set (s := 39) (v := .bool false) Z (by simp) ?_))
 refine WLa Z (WLc Z (mtells_ok g5 (r := []) Z) Z pqD ?_)
 rintro _ _ ⟨_, ⟨m6, rfl, rfl, g6, p6⟩, rfl⟩
 rw [kx6_eq] at g6 ⊢
 rw [← p6]
 have o6 := o5.nx
 rw [kx6_eq] at o6
 refine WLa Z (WLa Z (WLa Z (WLa Z (WLc Z (xm_dialed g6 o6 (by omega) (by omega) 8 false 2 (by omega)) Z pqD ?_))))
 rintro _ _ ⟨_, ⟨m7, rfl, rfl, g7, p7, o7⟩, rfl⟩
 rw [kx7_eq] at g7 o7 ⊢
 rw [← p7]
 rw [show (kx6 q1 q2).inX 8 3 2 = 0 from by kernel_rfl]
 refine WLa Z (WLa Z (WLa Z (WL_set (s := 49) (v := .bool false) Z (by simp) ?_)))
 refine WLa Z (WLq Z (mis_ok g7 8 1 (-1) (-1)) Z pqD ?_)
 refine WL_set (s := 51) (v := .bool true) Z (by exact congrArg Value.bool (decide_eq_true (by kernel_rfl))) ?_
 refine WLa Z (WLa Z (WLa Z (WLa Z (WLc Z (xm_due g7 o7.g.nd) Z pqD ?_))))
 rintro _ _ ⟨_, ⟨rfl, rfl⟩, rfl⟩
 rw [show dueV (kx7 q1 q2).S = 7 from by kernel_rfl]
 refine WLa Z (WLa Z (WL_nil (WQ_code (WC_dF Z (by simp) ?_))))
 refine WC_skip (WQ_code (WC_seq (WCr (WLa Z (WLc Z (xm_next g7) Z pqD ?_)))))
 rintro _ _ ⟨_, ⟨m8, rfl, rfl, g8, p8⟩, rfl⟩
 rw [kx7_nx] at g8 ⊢
 rw [← p8]
 refine WLa Z (WLa Z (WLa Z (WLd Z (D_alloc Z zv63) ?_)))
 rintro _ _ ⟨b1, rfl, rfl⟩
 refine WLs (vs := [_, _, _, _, _]) Z Tryz.sizeOf63 Z Z plD (nb Z) ?_
 refine WLa Z (WL_set (s := 4) (v := .bool false) Z (by rfl) ?_)
 refine WL_nil (WQ_code (WCr (WLa Z (WLa Z (WLa Z (WLc Z (xm_adv g8 o7 (by omega) (by omega) (by omega) (by omega) (nb Z) 7 (by omega)) Z pqD ?_))))))
 rintro _ _ ⟨_, ⟨m9, rfl, rfl, g9, p9, o9⟩, rfl⟩
 rw [kx8_eq] at g9 o9 ⊢
 rw [← p9]
 rw [show (kx7 q1 q2).may true 7 = 0 from by kernel_rfl]
 refine WLa Z (WLa Z (WLa Z (WL_set (s := 70) (v := .bool false) Z (by simp) ?_)))
 refine WLa Z (WLq Z (mis_ok g9 8 2 0 (-1)) Z pqD ?_)
 refine WL_set (s := 72) (v := .bool true) Z (by exact congrArg Value.bool (decide_eq_true (by kernel_rfl))) ?_
 refine WLa Z (WLa Z (WLa Z (WLa Z (WLc Z (xm_end g9 o9 (by omega) (by omega) 7 true 8 (by omega)) Z pqD ?_))))
 rintro _ _ ⟨_, ⟨m10, rfl, rfl, g10, p10, o10⟩, rfl⟩
 rw [kx9_eq] at g10 o10 ⊢
 rw [← p10]
 rw [show (kx8 q1 q2).inX 7 4 8 = 0 from by kernel_rfl]
 refine WLa Z (WLa Z (WLa Z (WL_set (s := 80) (v := .bool false) Z (by simp) ?_)))
 refine WLa Z (WLc Z (mtells_ok g10 (r := []) Z) Z pqD ?_)
 rintro _ _ ⟨_, ⟨m11, rfl, rfl, g11, p11⟩, rfl⟩
 rw [kx10_eq] at g11 ⊢
 rw [← p11]
 have o11 := o10.nx
 rw [kx10_eq] at o11
 refine WLa Z (WLa Z (WL_nil (WQ_code (WC_F Z (WC_skip (WQ_code (WCr (WLa Z (WLc Z (xm_begin g11 o11 (by omega) (by omega) (by omega) 9 8 20 (by omega) kb) Z pqD ?_)))))))))
 rintro _ _ ⟨_, ⟨m12, x12, rfl, rfl, g12, p12, o12, hx12⟩, rfl⟩
 obtain ⟨q3, rfl⟩ : ∃ p, x12 = (kx10 q2).begin 9 8 20 kb p := by rcases hx12 with ⟨e, _⟩ | ⟨_, e⟩; exact absurd (by kernel_rfl) e; exact e
 rw [kx11_eq] at g12 o12 ⊢
 rw [← p12]
 rw [show (kx10 q2).begE 9 8 20 kb = 0 from by kernel_rfl]
 refine WLa Z (WLa Z (WL_set (s := 88) (v := .bool true) Z (by simp) ?_))
 refine WLa Z (WLc Z (xm_adv g12 o12 (by omega) (by omega) (by omega) (by omega) (nb Z) 20 (by omega)) Z pqD ?_)
 rintro _ _ ⟨_, ⟨m13, rfl, rfl, g13, p13, o13⟩, rfl⟩
 rw [kx12_eq] at g13 o13 ⊢
 rw [← p13]
 rw [show (kx11 q2 q3).may true 20 = 0 from by kernel_rfl]
 refine WLa Z (WLa Z (WLa Z (WL_set (s := 93) (v := .bool true) Z (by simp) ?_)))
 refine WLa Z (WLc Z (mtells_ok g13 (r := []) Z) Z pqD ?_)
 rintro _ _ ⟨_, ⟨m14, rfl, rfl, g14, p14⟩, rfl⟩
 refine WLa Z (WLa Z (WL_nil (WQ_code (WC_ret ?_))))
 refine WQ1 Z (by
   exact ⟨rfl, rfl⟩) pqD
theorem mbeg_bad1 (k : Int) (W : List Int) (oa : Option Addr) (c : Nat) (ent : Ent) (ha : Rd oa ent W) (limit : Int) (brk : Nat) (op idle : Int) (keep : Nat) (p : Plan) (h : ¬ VOkB k W limit brk) : Spec Tryz.prog 10 [.agg (xsetL k oa W.length c limit brk op idle keep p).toArray] [ent] (fun r H' => r = .pointer none ∧ H' = [ent]) := by
 refine Spec.of (E := [(0, .agg (xsetL k oa W.length c limit brk op idle keep p).toArray)]) Tryz.func10 rfl (by kernel_rfl) Tryz.ntmps10 rfl rfl (fun w => ?_)
 refine WCr (WLd Z (D_box (cs := [_, _, _, _, _, _, _, _, _, _, _, _, _, _]) Z Z Z) ?_)
 rintro _ _ ⟨b1, rfl, rfl⟩
 refine WLa Z (WL_nil (WQ_code (WCr (WLf Z fa30_0 (WLl Z sc22 mmD Z (WLf Z fa30_1 (WLl Z sc23 mmD Z (WLf Z fa30_2 (WLl Z sc3 mmD Z (WLf Z fa30_3 (WLl Z sc25 mmD Z (WLc Z (xbnew_bad k W oa c ent ha limit brk h) Z pqD ?_))))))))))))
 rintro _ _ ⟨_, ⟨rfl, rfl⟩, rfl⟩
 refine WLa Z (WLa Z (WLa Z (WLa Z (WLa Z (WL_nil (WQ_code (WC_seq (WCr (WLa Z (WLa Z (WLa Z (WL_set (s := 23) (v := .bool true) Z (by rfl) ?_))))))))))))
 refine WLa Z (WLa Z (WLa Z (WLa Z (WLa Z (WL_nil (WQ_code (WC_T Z (WCr (WLa Z (WL_nil (WQ_code (WC_ret ?_))))))))))))
 refine WQ1 Z (by
   exact ⟨rfl, rfl⟩) pqD
theorem mbeg_bad2 (k : Nat) (W : List Int) (oa : Option Addr) (c : Nat) (ent : Ent) (ha : Rd oa ent W) (limit : Int) (brk : Nat) (op idle : Int) (keep : Nat) (p : Plan) (h : VOkB (k : Int) W limit brk) (hp : ¬ OkP p) : Spec Tryz.prog 10 [.agg (xsetL (k : Int) oa W.length c limit brk op idle keep p).toArray] [ent] (fun r H' => r = .pointer none ∧ H' = [ent]) := by
 refine Spec.of (E := [(0, .agg (xsetL (k : Int) oa W.length c limit brk op idle keep p).toArray)]) Tryz.func10 rfl (by kernel_rfl) Tryz.ntmps10 rfl rfl (fun w => ?_)
 refine WCr (WLd Z (D_box (cs := [_, _, _, _, _, _, _, _, _, _, _, _, _, _]) Z Z Z) ?_)
 rintro _ _ ⟨b1, rfl, rfl⟩
 refine WLa Z (WL_nil (WQ_code (WCr (WLf Z fa30_0 (WLl Z sc22 mmD Z (WLf Z fa30_1 (WLl Z sc23 mmD Z (WLf Z fa30_2 (WLl Z sc3 mmD Z (WLf Z fa30_3 (WLl Z sc25 mmD Z (WLc Z (xbnew_ok k W oa c ent ha limit brk h) Z pqD ?_))))))))))))
 rintro _ _ ⟨_, ⟨bm, rfl, rfl, hbm⟩, rfl⟩
 refine WLa Z (WLa Z (WLa Z (WLa Z (WLa Z (WL_nil (WQ_code (WC_seq (WCr (WLa Z (WLa Z (WLa Z (WL_set (s := 23) (v := .bool false) Z (by rfl) ?_))))))))))))
 refine WLf Z fa30_7 (WLv Z (R_loadA (vs := [_, _, _, _, _, _, _]) Z ag28 Z mmD Z ((atZ : At _ 7 [_, _, _, _, _, _, _]))) ?_)
 refine WLq Z (valid_ok p) Z pqD ?_
 refine WL_set (s := 26) (v := .bool false) Z (by exact congrArg Value.bool (decide_eq_false hp)) ?_
 refine WLa Z (WLa Z (WL_nil (WQ_code (WC_T Z (WCr (WLa Z (WL_nil (WQ_code (WC_ret ?_)))))))))
 refine WQ1 Z (by
   exact ⟨rfl, rfl⟩) pqD
theorem mbeg_bad3 (k : Nat) (W : List Int) (oa : Option Addr) (c : Nat) (ent : Ent) (ha : Rd oa ent W) (limit : Int) (brk : Nat) (op idle : Int) (keep : Nat) (p : Plan) (h : VOkB (k : Int) W limit brk) (hp : OkP p) (hq : ¬ POk op idle keep) : Spec Tryz.prog 10 [.agg (xsetL (k : Int) oa W.length c limit brk op idle keep p).toArray] [ent] (fun r H' => r = .pointer none ∧ H' = [ent]) := by
 have hWl := h.2.1
 refine Spec.of (E := [(0, .agg (xsetL (k : Int) oa W.length c limit brk op idle keep p).toArray)]) Tryz.func10 rfl (by kernel_rfl) Tryz.ntmps10 rfl rfl (fun w => ?_)
 refine WCr (WLd Z (D_box (cs := [_, _, _, _, _, _, _, _, _, _, _, _, _, _]) Z Z Z) ?_)
 rintro _ _ ⟨b1, rfl, rfl⟩
 refine WLa Z (WL_nil (WQ_code (WCr (WLf Z fa30_0 (WLl Z sc22 mmD Z (WLf Z fa30_1 (WLl Z sc23 mmD Z (WLf Z fa30_2 (WLl Z sc3 mmD Z (WLf Z fa30_3 (WLl Z sc25 mmD Z (WLc Z (xbnew_ok k W oa c ent ha limit brk h) Z pqD ?_))))))))))))
 rintro _ _ ⟨_, ⟨bm, rfl, rfl, hbm⟩, rfl⟩
 refine WLa Z (WLa Z (WLa Z (WLa Z (WLa Z (WL_nil (WQ_code (WC_seq (WCr (WLa Z (WLa Z (WLa Z (WL_set (s := 23) (v := .bool false) Z (by rfl) ?_))))))))))))
 refine WLf Z fa30_7 (WLv Z (R_loadA (vs := [_, _, _, _, _, _, _]) Z ag28 Z mmD Z ((atZ : At _ 7 [_, _, _, _, _, _, _]))) ?_)
 refine WLq Z (valid_ok p) Z pqD ?_
 refine WL_set (s := 26) (v := .bool true) Z (by exact congrArg Value.bool (decide_eq_true hp)) ?_
 refine WLa Z (WLa Z (WL_nil (WQ_code (WC_F Z (WC_skip (WQ_code (WCr (WLa Z (WLf Z fa30_7 (WLv Z (R_loadA (vs := [_, _, _, _, _, _, _]) Z ag28 Z mmD Z ((atZ : At _ 7 [_, _, _, _, _, _, _]))) ?_))))))))))
 refine WLv Z (R_build Z zv60 pl60 Z Z) ?_
 refine WLd Z (D_box (cs := [_, _, _, _, _, _, _, _, _, _, _, _]) Z Z Z) ?_
 rintro _ _ ⟨b2, rfl, rfl⟩
 refine WLa Z (WL_nil (WQ_code (WC_seq (WCr (WLa Z (WL_nil (WQ_code (WC_block (WC_loopF (G := Unit) [2, 6, 7, 8, 34, 35, 36, 37, 38, 39, 40, 41, 42, 43, 44, 45, 46, 47, 48, 49, 50, 51, 52, 53, 54, 55, 56, 57, 58, 59, 60, 61, 62] (fun y => True) (fun y => [(6, .int .i64 0)]) (fun y => []) (fun y => 0) (()) (trivial) leZ pqD ?_)))))))))
 rintro y _
 refine WC_seq (WCr (WLa Z (WLf Z fa30_1 (WLl Z sc23 mmD Z (WLv Z (R_len Z Tryz.underlying23 Z) ?_)))))
 refine WLa Z (WL_nil (WQ_code (WC_dT Z (by omega) ?_)))
 refine WC_skip (WQ_code (WC_seq (WC_block (WCr (WLf Z fa30_4 (WLl Z sc3 mmD Z (WLf Z fa30_5 (WLl Z sc3 mmD Z (WLf Z fa30_6 (WLl Z sc25 mmD Z (WLc Z (pnew_bad op idle keep (by unfold POk at hq; omega)) Z pqD ?_)))))))))))
 rintro _ _ ⟨_, ⟨rfl, rfl⟩, rfl⟩
 refine WLa Z (WLa Z (WLa Z (WLa Z (WLa Z (WL_nil (WQ_code (WC_seq (WCr (WLa Z (WLa Z (WL_nil (WQ_code (WC_dT Z (by decide) ?_)))))))))))))
 refine WCr (WLa Z (WL_nil (WQ_code (WC_ret ?_))))
 refine WQ1 Z (by
   exact ⟨rfl, rfl⟩) pqD
theorem mbeg_ok (k : Nat) (W : List Int) (oa : Option Addr) (c : Nat) (ent : Ent) (ha : Rd oa ent W) (limit : Int) (brk : Nat) (op idle : Int) (keep : Nat) (p : Plan) (h : VOkB (k : Int) W limit brk) (hp : OkP p) (hq : POk op idle keep) (hsd : p.seed < 4294967296) (hkp : keep ≤ 18446744073709551615) : Spec Tryz.prog 10 [.agg (xsetL (k : Int) oa W.length c limit brk op idle keep p).toArray] [ent]
  (fun r H' => ∃ M : MM, r = ptrP M.p ∧ H' = ent :: mdH M (px0 k W limit brk op idle keep p) ∧ MIs 0 M (px0 k W limit brk op idle keep p)) := by
 have hWl := h.2.1
 obtain ⟨⟨hq1, hq2⟩, ⟨hq3, hq4⟩, hq5⟩ := hq
 refine Spec.of (E := [(0, .agg (xsetL (k : Int) oa W.length c limit brk op idle keep p).toArray)]) Tryz.func10 rfl (by kernel_rfl) Tryz.ntmps10 rfl rfl (fun w => ?_)
 refine WCr (WLd Z (D_box (cs := [_, _, _, _, _, _, _, _, _, _, _, _, _, _]) Z Z Z) ?_)
 rintro _ _ ⟨b1, rfl, rfl⟩
 refine WLa Z (WL_nil (WQ_code (WCr (WLf Z fa30_0 (WLl Z sc22 mmD Z (WLf Z fa30_1 (WLl Z sc23 mmD Z (WLf Z fa30_2 (WLl Z sc3 mmD Z (WLf Z fa30_3 (WLl Z sc25 mmD Z (WLc Z (xbnew_ok k W oa c ent ha limit brk h) Z pqD ?_))))))))))))
 rintro _ _ ⟨_, ⟨bm, rfl, rfl, hbm⟩, rfl⟩
 refine WLa Z (WLa Z (WLa Z (WLa Z (WLa Z (WL_nil (WQ_code (WC_seq (WCr (WLa Z (WLa Z (WLa Z (WL_set (s := 23) (v := .bool false) Z (by rfl) ?_))))))))))))
 refine WLf Z fa30_7 (WLv Z (R_loadA (vs := [_, _, _, _, _, _, _]) Z ag28 Z mmD Z ((atZ : At _ 7 [_, _, _, _, _, _, _]))) ?_)
 refine WLq Z (valid_ok p) Z pqD ?_
 refine WL_set (s := 26) (v := .bool true) Z (by exact congrArg Value.bool (decide_eq_true hp)) ?_
 refine WLa Z (WLa Z (WL_nil (WQ_code (WC_F Z (WC_skip (WQ_code (WCr (WLa Z (WLf Z fa30_7 (WLv Z (R_loadA (vs := [_, _, _, _, _, _, _]) Z ag28 Z mmD Z ((atZ : At _ 7 [_, _, _, _, _, _, _]))) ?_))))))))))
 refine WLv Z (R_build Z zv60 pl60 Z Z) ?_
 refine WLd Z (D_box (cs := [_, _, _, _, _, _, _, _, _, _, _, _]) Z Z Z) ?_
 rintro _ _ ⟨b2, rfl, rfl⟩
 refine WLa Z (WL_nil (WQ_code (WC_seq (WCr (WLa Z (WL_nil (WQ_code (WC_block (WC_none 63 ?_)))))))))
 refine WC_none 84 ?_
 refine WC_none 79 ?_
 refine WC_loopF (G := XnW) [2, 6, 7, 8, 34, 35, 36, 37, 38, 39, 40, 41, 42, 43, 44, 45, 46, 47, 48, 49, 50, 51, 52, 53, 54, 55, 56, 57, 58, 59, 60, 61, 62] (fun y => y.j ≤ W.length ∧ y.L.length = y.j ∧ (∀ q ∈ y.L, PIs q (PS.new op.toNat idle.toNat keep)) ∧ y.B = poolsH y.L (List.replicate y.j (PS.new op.toNat idle.toNat keep)) ∧ Own y.o y.L.length y.c 1 (y.L.flatMap (fun q => [ptrP q.p])) y.t) (fun y => [(6, .int .i64 (y.j : Int))]) (fun y => [⟨some b2, cl ([ptrB bm.p, slV y.o y.L.length y.c] ++ plL p ++ [.int .u64 0, .slice none 0 0, .slice none 0 0]) 60⟩, ⟨y.o, cl (y.L.flatMap (fun q => [ptrP q.p]) ++ y.t) 79⟩] ++ y.B) (fun y => W.length - y.j) (⟨0, [], [], none, 0, []⟩) (⟨Nat.zero_le _, Z, fun q hq => (by cases hq), Z, Own.empty 1⟩) leZ pqD ?_
 rintro y ⟨hyj, hyL, hyp, hyB, hyo⟩
 refine WC_seq (WCr (WLa Z (WLf Z fa30_1 (WLl Z sc23 mmD Z (WLv Z (R_len Z Tryz.underlying23 Z) ?_)))))
 refine WLa Z (WL_nil (WQ_code ?_))
 refine WC_dec Z (fun c1 => ?_) (fun c1 => ?_)
 ·refine WC_skip (WQ_code (WC_seq (WC_block (WCr (WLf Z fa30_4 (WLl Z sc3 mmD Z (WL_set (s := 43) (v := .int .i64 ((op.toNat : Nat) : Int)) Z (by rw [Int.toNat_of_nonneg (by omega)]) ?_)))))))
  refine WLf Z fa30_5 (WLl Z sc3 mmD Z (WL_set (s := 45) (v := .int .i64 ((idle.toNat : Nat) : Int)) Z (by rw [Int.toNat_of_nonneg (by omega)]) ?_))
  refine WLf Z fa30_6 (WLl Z sc25 mmD Z (WLc Z (pnew_ok op.toNat idle.toNat keep ⟨by omega, by omega⟩ (by omega) ⟨hq5, hkp⟩) Z pqD ?_))
  rintro _ _ ⟨_, ⟨pm9, rfl, rfl, hpm9⟩, rfl⟩
  refine WLa Z (WLa Z (WLa Z (WLa Z (WLa Z (WL_nil (WQ_code (WC_seq (WCr (WLa Z (WLa Z (WL_nil (WQ_code (WC_dF Z (by decide) ?_)))))))))))))
  refine WC_skip (WQ_code (WC_region (WLa Z (WLa Z (WLa Z (WLf Z fa60_1 (WLl Z sc56 mmD Z (WLa Z (WLd Z (D_buildSlice Z si56 Z Z Z) ?_)))))))))
  rintro _ _ ⟨b3, rfl, rfl⟩
  refine WLd Z (D_append Z si56 Z (hyo) plD Z mmD ((atZ : At _ 0 [_])) (Z) (Z) (by omega) (by omega)) ?_
  rintro _ _ ⟨ob4, cap4, tl4, rfl, own4, rfl⟩
  rw [show y.L.flatMap (fun q => [ptrP q.p]) ++ [ptrP pm9.p] = (y.L ++ [pm9]).flatMap (fun q => [ptrP q.p]) from by simp, show y.L.length + 1 = (y.L ++ [pm9]).length from by simp] at own4 ⊢
  refine WLa Z (WLf Z fa60_1 (WLs (vs := [_]) Z Tryz.sizeOf56 Z Z plD (nb Z) ?_))
  refine WL_nil (WQ_code (WC_region (WLa Z (WLv Z (R_add Z Z Z (by omega)) ?_))))
  refine WLa Z (WL_nil ?_)
  refine WQ_nextF (⟨y.j + 1, y.L ++ [pm9], y.B ++ poH pm9 (PS.new op.toNat idle.toNat keep), ob4, cap4, tl4⟩) (⟨by dsimp only; omega, by dsimp only; rw [List.length_append, hyL]; rfl, fun q hq => by rcases List.mem_append.1 hq with hq | hq; exact hyp q hq; rw [List.mem_singleton.1 hq]; exact hpm9, by dsimp only; rw [hyB, List.replicate_succ', poolsH_snoc (by rw [List.length_replicate, hyL])], own4⟩) (by dsimp only; omega) leZ (psZ) Z pqD
 ·have hjl : y.j = W.length := by omega
  refine WC_exit (WQ_code (WCr (WLa Z (WLa Z (WL_nil (WQ_code (WC_ret ?_)))))))
  rw [hjl] at hyL hyB
  rw [hyB, hyL]
  have hlen : (px0 k W limit brk op idle keep p).P.length = W.length := List.length_replicate ..
  have hpx : mdH (⟨b2, bm, y.L, y.o, y.c, y.t, none, 0, [], none, 0, 0, [], []⟩ : MM) (px0 k W limit brk op idle keep p) = [⟨some b2, cl ([ptrB bm.p, slV y.o W.length y.c] ++ plL p ++ [.int .u64 0, .slice none 0 0, .slice none 0 0]) 60⟩, ⟨none, cl [] 84⟩, ⟨none, cl [] 63⟩, ⟨y.o, cl (y.L.flatMap (fun q => [ptrP q.p]) ++ y.t) 79⟩] ++ (balH bm ++ poolsH y.L (List.replicate W.length (PS.new op.toNat idle.toNat keep))) := by
   unfold mdH mdE mdC
   rw [hlen]; rfl
  refine WQ1 Z (by
    exact ⟨(⟨b2, bm, y.L, y.o, y.c, y.t, none, 0, [], none, 0, 0, [], []⟩ : MM), rfl, (congrArg (List.cons ent) hpx).symm, ⟨hbm, by rw [hlen]; exact hyL, fun i mi si h1 h2 => by (have h3 := List.mem_of_getElem? h2); rw [List.eq_of_mem_replicate h3]; exact hyp mi (List.mem_of_getElem? h1), by rw [hlen, ← hyL]; exact hyo, Own.empty 9, OwnS.empty 5, hp, hsd, by rw [hlen]; show (bs0 k W limit brk).V.length = _; unfold bs0; rw [List.length_map], Nat.zero_le _⟩⟩) pqD
structure LkW where
 k : Nat
 d : Nat
theorem mfind_k {N : Nat} {M : MM} {x : PX} (h : MIs N M x) (hl : x.S.length ≤ 1000) (n : Int) : Spec Tryz.prog 29 [ptrP M.p, .int .i64 n] (mdH M x) (fun r H' => r = .int .i64 (idS n x.S) ∧ H' = mdH M x) :=
 ((mfind_ok M x h.sO hl n).fr ([mdV M x, mdQ M] ++ (balH M.bm ++ poolsH M.pm x.P))).mono fun r H' ⟨H1, ⟨e1, e2⟩, e3⟩ => ⟨e1, by rw [e3, e2]; rfl⟩
theorem dueV_le : ∀ (S : List Ss) (a : Nat), (S.foldl (fun a s => if s.st = 1 then min a s.til else a) a ≤ a) ∧ (∀ s ∈ S, s.st = 1 → S.foldl (fun a s => if s.st = 1 then min a s.til else a) a ≤ s.til) ∧ (S.foldl (fun a s => if s.st = 1 then min a s.til else a) a = a ∨ ∃ s ∈ S, s.st = 1 ∧ S.foldl (fun a s => if s.st = 1 then min a s.til else a) a = s.til)
 | [], a => ⟨Nat.le_refl _, fun s hs => (by cases hs), .inl rfl⟩
 | s :: r, a => by
  obtain ⟨h1, h2, h3⟩ := dueV_le r (if s.st = 1 then min a s.til else a)
  rw [List.foldl_cons]
  refine ⟨?_, fun q hq hs => ?_, ?_⟩
  ·by_cases e : s.st = 1
   ·rw [if_pos e] at h1 ⊢; exact Nat.le_trans h1 (Nat.min_le_left _ _)
   ·rw [if_neg e] at h1 ⊢; exact h1
  ·rcases List.mem_cons.1 hq with rfl | hq
   ·rw [if_pos hs] at h1 ⊢; exact Nat.le_trans h1 (Nat.min_le_right _ _)
   ·exact h2 q hq hs
  ·rcases h3 with h3 | ⟨q, hq, e1, e2⟩
   ·by_cases e : s.st = 1
    ·rw [if_pos e] at h3 ⊢
     rw [h3]
     by_cases e2 : a ≤ s.til
     ·exact .inl (Nat.min_eq_left e2)
     ·exact .inr ⟨s, List.mem_cons_self .., e, Nat.min_eq_right (by omega)⟩
    ·rw [if_neg e] at h3 ⊢; exact .inl h3
   ·exact .inr ⟨q, List.mem_cons_of_mem _ hq, e1, e2⟩
theorem dueV_eq {S : List Ss} {d : Nat} (hd : d ≤ 18446744073709551615) (h1 : ∀ s ∈ S, s.st = 1 → d ≤ s.til) (h2 : d = 18446744073709551615 ∨ ∃ s ∈ S, s.st = 1 ∧ d = s.til) : dueV S = d := by
 obtain ⟨a, b, c⟩ := dueV_le S 18446744073709551615
 unfold dueV
 rcases c with c | ⟨s, hs, e1, e2⟩
 ·rcases h2 with h2 | ⟨q, hq, e3, e4⟩
  ·rw [c, h2]
  ·have := b q hq e3
   omega
 ·have h3 := h1 s hs e1
  rcases h2 with h2 | ⟨q, hq, e3, e4⟩
  ·omega
  ·have := b q hq e3
   omega
theorem malike_ok {N N2 : Nat} {m : XM} {M : MM} {x : PX} (hP : PXIs N m x) (hM : MIs N2 M x) (hn : (x.S.map (·.num)).Nodup) : Spec Tryz.prog 11 [ptrP m.p, ptrP M.p] (pxK m x ++ mdH M x) (fun r H' => r = .bool true ∧ H' = pxK m x ++ mdH M x) := by
 have hSl := nums_len hn hP.num
 refine Spec.of (E := [(0, ptrP m.p), (1, ptrP M.p)]) Tryz.func11 rfl (by kernel_rfl) Tryz.ntmps11 rfl rfl (fun w => ?_)
 refine WCr (WLa Z (WL_nil (WQ_code (WCr (WLa Z (WL_nil (WQ_code (WC_seq (WCr (WLa Z (WL_nil (WQ_code (WC_block (WC_loopF (G := LkW) [4, 5, 6, 7, 8, 9, 10, 11, 12, 13, 14, 15, 16, 17, 18, 19, 20, 21, 22, 23, 24, 25, 26, 27, 28, 29, 30, 31, 32, 33, 34, 35, 36, 37, 38, 39, 40, 41, 42, 43, 44, 45, 46, 47, 48, 49] (fun y => y.k ≤ 103 ∧ y.d ≤ 18446744073709551615 ∧ (∀ s ∈ x.S, s.num < (y.k : Int) - 1 → s.st = 1 → y.d ≤ s.til) ∧ (y.d = 18446744073709551615 ∨ ∃ s ∈ x.S, s.st = 1 ∧ y.d = s.til)) (fun y => [(6, .int .i64 ((y.k : Int) - 1)), (5, .int .u64 (y.d : Int))]) (fun y => []) (fun y => 103 - y.k) (⟨0, 18446744073709551615⟩) (⟨by decide, Nat.le_refl _, fun s hs h9 => by have := hP.num s hs; dsimp only at h9; omega, .inl rfl⟩) leZ pqD ?_))))))))))))))
 rintro y ⟨hk, hd0, hd1, hd2⟩
 refine WC_seq (WCr (WLa Z (WLa Z (WL_nil (WQ_code ?_)))))
 refine WC_dec Z (fun c1 => ?_) (fun c1 => ?_)
 ·rcases Classical.em (((y.k : Int) - 1) ∈ x.S.map (·.num)) with hin | hno
  ·obtain ⟨s, hs, hsn⟩ := List.mem_map.1 hin
   obtain ⟨A, B, hS⟩ := List.append_of_mem hs
   have hid : idS ((y.k : Int) - 1) x.S = (A.length : Int) := by rw [← hsn]; exact idS_at hS hn
   have hat : x.S[A.length]? = some s := by rw [hS, List.getElem?_append_right (Nat.le_refl _), Nat.sub_self]; rfl
   have hAl := (List.getElem?_eq_some_iff.1 hat).1
   obtain ⟨wa, hwa⟩ := hM.sO.some_of (by omega)
   have hst9 : x.stX ((y.k : Int) - 1) = (s.st, s.be, s.cn) := by unfold PX.stX; rw [← hsn, find_num hn hs]
   refine WC_skip (WQ_code (WC_seq (WC_block (WCr (WLa Z (WLa Z (WLc Z (mfind_k hM (by omega) ((y.k : Int) - 1)) Z pqD ?_)))))))
   rintro _ _ ⟨_, ⟨rfl, rfl⟩, rfl⟩
   rw [hid]
   refine WLa Z (WL_nil (WQ_code (WC_seq (WCr (WLa Z (WLa Z (WL_nil (WQ_code (WC_dF Z (by omega) ?_)))))))))
   refine WC_skip (WQ_code (WCr (WLa Z (WLa Z (WLf Z fa60_4 (WLl Z sc57 mmD Z (WLa Z (WLv Z (R_idxO hwa Z Tryz.underlying57 Tryz.sizeOf84 Z Z (by omega)) ?_))))))))
   refine WLv Z (R_loadAO (vs := encR s) hwa Z ag84 Z mmD Z (fm_at0 encR9 hat (j := 0) (vs := encR s) (fun j v h => by rw [Nat.zero_add]; exact h) (Nat.le_refl 9))) ?_
   refine WLd Z (D_alloc Z zv84) ?_
   rintro _ _ ⟨b1, rfl, rfl⟩
   refine WLs (vs := [_, _, _, _, _, _, _, _, _]) Z Tryz.sizeOf84 Z Z plD (nb Z) ?_
   refine WL_nil (WQ_code (WC_seq (WCr (WLa Z (WLa Z (WLf Z fa84_5 (WLl Z sc49 mmD Z (WLf Z fa84_7 (WLl Z sc3 mmD Z (WLf Z fa84_8 (WLl Z sc3 mmD Z (WLq Z (mis_ok hP ((y.k : Int) - 1) s.st s.be s.cn) Z pqD ?_))))))))))))
   refine WL_set (s := 37) (v := .bool true) Z (by exact congrArg Value.bool (decide_eq_true hst9)) ?_
   refine WLa Z (WL_nil (WQ_code (WC_F Z (WC_skip (WQ_code (WCr (WLf Z fa84_5 (WLl Z sc49 mmD Z (WLa Z (WLa Z ?_))))))))))
   refine WL_splitD (s := 42) Z (fun c2 => ?_) (fun c2 => ?_)
   ·have hq1 := c2
    refine WLf Z fa84_3 (WLl Z sc25 mmD Z (WLa Z (WLa Z (WLa Z (WL_nil (WQ_code ?_))))))
    refine WC_dec Z (fun c3 => ?_) (fun c3 => ?_)
    ·have hl9 : s.st = 1 ∧ s.til < y.d := ⟨hq1, by omega⟩
     refine WC_region (WLf Z fa84_3 (WLl Z sc25 mmD Z (WLa Z (WL_nil (WQ_code (WC_region (WLa Z (WLv Z (R_addR (r := ((y.k + 1 : Nat) : Int) - 1) Z Z Z (by rw [wrap64_in (by omega) (by omega)]; omega)) ?_))))))))
     refine WLa Z (WL_nil ?_)
     refine WQ_nextF (⟨y.k + 1, s.til⟩) (⟨by dsimp only; omega, by dsimp only; omega, fun q hq h9 h8 => by (dsimp only at h9 ⊢; rcases Classical.em (q.num = (y.k : Int) - 1) with e | e; (rw [uniq_num hn hq hs (e.trans hsn.symm)]; exact Nat.le_refl _); (have := hd1 q hq (by omega) h8; omega)), .inr ⟨s, hs, hl9.1, rfl⟩⟩) (by dsimp only; omega) leZ (psZ) Z pqD
    ·have hnl : ¬ (s.st = 1 ∧ s.til < y.d) := by omega
     refine WC_skip (WQ_code (WC_region (WLa Z (WLv Z (R_addR (r := ((y.k + 1 : Nat) : Int) - 1) Z Z Z (by rw [wrap64_in (by omega) (by omega)]; omega)) ?_))))
     refine WLa Z (WL_nil ?_)
     refine WQ_nextF (⟨y.k + 1, y.d⟩) (⟨by dsimp only; omega, hd0, fun q hq h9 h8 => by (dsimp only at h9 ⊢; rcases Classical.em (q.num = (y.k : Int) - 1) with e | e; (have h7 := uniq_num hn hq hs (e.trans hsn.symm); subst h7; omega); exact hd1 q hq (by omega) h8), hd2⟩) (by dsimp only; omega) leZ (psZ) Z pqD
   ·have hq1 := c2
    have hnl : ¬ (s.st = 1 ∧ s.til < y.d) := fun e => hq1 e.1
    refine WLa Z (WLa Z (WLa Z (WLa Z (WLa Z (WL_nil (WQ_code (WC_F Z (WC_skip (WQ_code (WC_region (WLa Z (WLv Z (R_addR (r := ((y.k + 1 : Nat) : Int) - 1) Z Z Z (by rw [wrap64_in (by omega) (by omega)]; omega)) ?_))))))))))))
    refine WLa Z (WL_nil ?_)
    refine WQ_nextF (⟨y.k + 1, y.d⟩) (⟨by dsimp only; omega, hd0, fun q hq h9 h8 => by (dsimp only at h9 ⊢; rcases Classical.em (q.num = (y.k : Int) - 1) with e | e; (have h7 := uniq_num hn hq hs (e.trans hsn.symm); subst h7; omega); exact hd1 q hq (by omega) h8), hd2⟩) (by dsimp only; omega) leZ (psZ) Z pqD
  ·have hid : idS ((y.k : Int) - 1) x.S = -1 := idS_no hno
   have hst9 : x.stX ((y.k : Int) - 1) = (0, -1, -1) := by unfold PX.stX; rw [find_out hno]
   refine WC_skip (WQ_code (WC_seq (WC_block (WCr (WLa Z (WLa Z (WLc Z (mfind_k hM (by omega) ((y.k : Int) - 1)) Z pqD ?_)))))))
   rintro _ _ ⟨_, ⟨rfl, rfl⟩, rfl⟩
   rw [hid]
   refine WLa Z (WL_nil (WQ_code (WC_seq (WCr (WLa Z (WLa Z (WL_nil (WQ_code (WC_dT Z (by decide) ?_)))))))))
   refine WC_seq (WCr (WLa Z (WLa Z (WLq Z (mis_ok hP ((y.k : Int) - 1) 0 (-1) (-1)) Z pqD ?_))))
   refine WL_set (s := 20) (v := .bool true) Z (by exact congrArg Value.bool (decide_eq_true hst9)) ?_
   refine WLa Z (WL_nil (WQ_code (WC_F Z (WC_skip (WQ_code (WC_exit (WQ_code (WC_region (WLa Z (WLv Z (R_addR (r := ((y.k + 1 : Nat) : Int) - 1) Z Z Z (by rw [wrap64_in (by omega) (by omega)]; omega)) ?_))))))))))
   refine WLa Z (WL_nil ?_)
   refine WQ_nextF (⟨y.k + 1, y.d⟩) (⟨by dsimp only; omega, hd0, fun q hq h9 h8 => by (dsimp only at h9 ⊢; rcases Classical.em (q.num = (y.k : Int) - 1) with e | e; (exact absurd (by rw [← e]; exact List.mem_map_of_mem hq) hno); exact hd1 q hq (by omega) h8), hd2⟩) (by dsimp only; omega) leZ (psZ) Z pqD
 ·refine WC_exit (WQ_code (WCr (WLa Z (WLc Z (xm_due hP hn) Z pqD ?_))))
  rintro _ _ ⟨_, ⟨rfl, rfl⟩, rfl⟩
  rw [dueV_eq (d := y.d) hd0 (fun s hs h9 => hd1 s hs (by have := hP.num s hs; omega) h9) hd2]
  refine WLa Z (WLa Z (WLa Z (WL_nil (WQ_code (WC_ret ?_)))))
  refine WQ1 Z (by
    exact ⟨congrArg Value.bool (by simp), rfl⟩) pqD
structure PyW where
 i : Nat
 m : XM
 M : MM
 x : PX
structure PzW where
 j : Nat
 m : XM
def PX.dr (x : PX) (j : Nat) : PX := { x with E := x.E.drop j }
theorem dr_nx (x : PX) (j : Nat) : (x.dr j).nx = x.dr (j + 1) := by
 show ({ x with E := (x.E.drop j).drop 1 } : PX) = { x with E := x.E.drop (j + 1) }
 rw [List.drop_drop]
theorem dr_cons {x : PX} {j : Nat} {v : Xv} (h : x.E[j]? = some v) : (x.dr j).E = v :: x.E.drop (j + 1) := by
 obtain ⟨h1, h2⟩ := List.getElem?_eq_some_iff.1 h
 show x.E.drop j = _
 rw [List.drop_eq_getElem_cons h1, h2]
theorem dr_hd {x : PX} {j : Nat} {v : Xv} (h : x.E[j]? = some v) : hdX (x.dr j).E = v := by rw [dr_cons h]; rfl
theorem dr_ne {x : PX} {j : Nat} {v : Xv} (h : x.E[j]? = some v) : (x.dr j).E.isEmpty = false := by rw [dr_cons h]; rfl
theorem dr_end {x : PX} {j : Nat} (h : x.E.length ≤ j) : (x.dr j).E.isEmpty = true := by
 show (x.E.drop j).isEmpty = true
 rw [List.drop_eq_nil_of_le h]; rfl
theorem plays_big (k : Int) (W : List Int) (oa : Option Addr) (c : Nat) (ent : Ent) (ha : Rd oa ent W) (limit : Int) (brk : Nat) (op idle : Int) (keep : Nat) (p : Plan) (T : List A9) (oa2 : Option Addr) (c2 : Nat) (en2 : Ent) (ha2 : Arg oa2 en2 6 encA9 T) (hW : W.length ≤ 9223372036854775807) (hT : T.length ≤ 9223372036854775807) (hf : ¬ fewB W.length T 40) : Spec Tryz.prog 5 [.agg (xsetL k oa W.length c limit brk op idle keep p).toArray, .slice oa2 T.length c2] [en2] (fun r H' => r = .bool true ∧ H' = [en2]) := by
 refine Spec.of (E := [(0, .agg (xsetL k oa W.length c limit brk op idle keep p).toArray), (1, .slice oa2 T.length c2)]) Tryz.func5 rfl (by kernel_rfl) Tryz.ntmps5 rfl rfl (fun w => ?_)
 refine WCr (WLd Z (D_box (cs := [_, _, _, _, _, _, _, _, _, _, _, _, _, _]) Z Z Z) ?_)
 rintro _ _ ⟨b1, rfl, rfl⟩
 refine WLa Z (WL_nil (WQ_code (WC_seq (WCr (WLv Z (R_loadA (vs := [_, _, _, _, _, _, _, _, _, _, _, _, _, _]) Z ag30 Z mmD Z atZ) ?_)))))
 refine WLa Z (WLq Z (few_ok k oa W.length c limit brk op idle keep p hW T oa2 c2 _ ha2 hT 40 (by omega)) Z pqD ?_)
 rw [decide_eq_false hf]
 refine WLa Z (WL_nil (WQ_code (WC_T Z (WCr (WLq Z (known_ok) Z pqD ?_)))))
 refine WLa Z (WL_nil (WQ_code (WC_ret ?_)))
 refine WQ1 Z (by
   exact ⟨rfl, rfl⟩) pqD
theorem plays_one1 (k : Int) (W : List Int) (oa : Option Addr) (c : Nat) (ent : Ent) (ha : Rd oa ent W) (limit : Int) (brk : Nat) (op idle : Int) (keep : Nat) (p : Plan) (T : List A9) (oa2 : Option Addr) (c2 : Nat) (ha2 : Arg oa2 ent 6 encA9 T) (hW : W.length ≤ 9223372036854775807) (hT : T.length ≤ 9223372036854775807) (hf : fewB W.length T 40) (h : ¬ VOkB k W limit brk) : Spec Tryz.prog 5 [.agg (xsetL k oa W.length c limit brk op idle keep p).toArray, .slice oa2 T.length c2] [ent] (fun r H' => r = .bool true ∧ H' = [ent]) := by
 refine Spec.of (E := [(0, .agg (xsetL k oa W.length c limit brk op idle keep p).toArray), (1, .slice oa2 T.length c2)]) Tryz.func5 rfl (by kernel_rfl) Tryz.ntmps5 rfl rfl (fun w => ?_)
 refine WCr (WLd Z (D_box (cs := [_, _, _, _, _, _, _, _, _, _, _, _, _, _]) Z Z Z) ?_)
 rintro _ _ ⟨b1, rfl, rfl⟩
 refine WLa Z (WL_nil (WQ_code (WC_seq (WCr (WLv Z (R_loadA (vs := [_, _, _, _, _, _, _, _, _, _, _, _, _, _]) Z ag30 Z mmD Z atZ) ?_)))))
 refine WLa Z (WLq Z (few_ok k oa W.length c limit brk op idle keep p hW T oa2 c2 _ ha2 hT 40 (by omega)) Z pqD ?_)
 rw [decide_eq_true hf]
 refine WLa Z (WL_nil (WQ_code (WC_F Z (WC_skip (WQ_code (WCr (WLv Z (R_loadA (vs := [_, _, _, _, _, _, _, _, _, _, _, _, _, _]) Z ag30 Z mmD Z atZ) ?_)))))))
 refine WLc Z (xnew_bad1 k W oa c ent ha limit brk op idle keep p h) Z pqD ?_
 rintro _ _ ⟨_, ⟨rfl, rfl⟩, rfl⟩
 refine WLa Z (WLa Z (WLa Z (WLa Z (WLa Z (WL_nil (WQ_code (WCr (WLv Z (R_loadA (vs := [_, _, _, _, _, _, _, _, _, _, _, _, _, _]) Z ag30 Z mmD Z atZ) ?_))))))))
 refine WLc Z (mbeg_bad1 k W oa c ent ha limit brk op idle keep p h) Z pqD ?_
 rintro _ _ ⟨_, ⟨rfl, rfl⟩, rfl⟩
 refine WLa Z (WL_nil (WQ_code (WC_seq (WCr (WLa Z (WLv Z (R_ptrEqNil Z Tryz.underlying37 Z) ?_))))))
 refine WL_nil (WQ_code (WC_T Z (WCr (WLq Z (known_ok) Z pqD ?_))))
 refine WLa Z (WL_nil (WQ_code (WC_ret ?_)))
 refine WQ1 Z (by
   exact ⟨rfl, rfl⟩) pqD
theorem plays_one2 (k : Nat) (W : List Int) (oa : Option Addr) (c : Nat) (ent : Ent) (ha : Rd oa ent W) (limit : Int) (brk : Nat) (op idle : Int) (keep : Nat) (p : Plan) (T : List A9) (oa2 : Option Addr) (c2 : Nat) (ha2 : Arg oa2 ent 6 encA9 T) (hW : W.length ≤ 9223372036854775807) (hT : T.length ≤ 9223372036854775807) (hf : fewB W.length T 40) (h : VOkB (k : Int) W limit brk) (hp : ¬ OkP p) : Spec Tryz.prog 5 [.agg (xsetL (k : Int) oa W.length c limit brk op idle keep p).toArray, .slice oa2 T.length c2] [ent] (fun r H' => r = .bool true ∧ H' = [ent]) := by
 refine Spec.of (E := [(0, .agg (xsetL (k : Int) oa W.length c limit brk op idle keep p).toArray), (1, .slice oa2 T.length c2)]) Tryz.func5 rfl (by kernel_rfl) Tryz.ntmps5 rfl rfl (fun w => ?_)
 refine WCr (WLd Z (D_box (cs := [_, _, _, _, _, _, _, _, _, _, _, _, _, _]) Z Z Z) ?_)
 rintro _ _ ⟨b1, rfl, rfl⟩
 refine WLa Z (WL_nil (WQ_code (WC_seq (WCr (WLv Z (R_loadA (vs := [_, _, _, _, _, _, _, _, _, _, _, _, _, _]) Z ag30 Z mmD Z atZ) ?_)))))
 refine WLa Z (WLq Z (few_ok (k : Int) oa W.length c limit brk op idle keep p hW T oa2 c2 _ ha2 hT 40 (by omega)) Z pqD ?_)
 rw [decide_eq_true hf]
 refine WLa Z (WL_nil (WQ_code (WC_F Z (WC_skip (WQ_code (WCr (WLv Z (R_loadA (vs := [_, _, _, _, _, _, _, _, _, _, _, _, _, _]) Z ag30 Z mmD Z atZ) ?_)))))))
 refine WLc Z (xnew_bad2 k W oa c ent ha limit brk op idle keep p h hp) Z pqD ?_
 rintro _ _ ⟨_, ⟨rfl, rfl⟩, rfl⟩
 refine WLa Z (WLa Z (WLa Z (WLa Z (WLa Z (WL_nil (WQ_code (WCr (WLv Z (R_loadA (vs := [_, _, _, _, _, _, _, _, _, _, _, _, _, _]) Z ag30 Z mmD Z atZ) ?_))))))))
 refine WLc Z (mbeg_bad2 k W oa c ent ha limit brk op idle keep p h hp) Z pqD ?_
 rintro _ _ ⟨_, ⟨rfl, rfl⟩, rfl⟩
 refine WLa Z (WL_nil (WQ_code (WC_seq (WCr (WLa Z (WLv Z (R_ptrEqNil Z Tryz.underlying37 Z) ?_))))))
 refine WL_nil (WQ_code (WC_T Z (WCr (WLq Z (known_ok) Z pqD ?_))))
 refine WLa Z (WL_nil (WQ_code (WC_ret ?_)))
 refine WQ1 Z (by
   exact ⟨rfl, rfl⟩) pqD
theorem plays_one3 (k : Nat) (W : List Int) (oa : Option Addr) (c : Nat) (ent : Ent) (ha : Rd oa ent W) (limit : Int) (brk : Nat) (op idle : Int) (keep : Nat) (p : Plan) (T : List A9) (oa2 : Option Addr) (c2 : Nat) (ha2 : Arg oa2 ent 6 encA9 T) (hW : W.length ≤ 9223372036854775807) (hT : T.length ≤ 9223372036854775807) (hf : fewB W.length T 40) (h : VOkB (k : Int) W limit brk) (hp : OkP p) (hq : ¬ POk op idle keep) : Spec Tryz.prog 5 [.agg (xsetL (k : Int) oa W.length c limit brk op idle keep p).toArray, .slice oa2 T.length c2] [ent] (fun r H' => r = .bool true ∧ H' = [ent]) := by
 refine Spec.of (E := [(0, .agg (xsetL (k : Int) oa W.length c limit brk op idle keep p).toArray), (1, .slice oa2 T.length c2)]) Tryz.func5 rfl (by kernel_rfl) Tryz.ntmps5 rfl rfl (fun w => ?_)
 refine WCr (WLd Z (D_box (cs := [_, _, _, _, _, _, _, _, _, _, _, _, _, _]) Z Z Z) ?_)
 rintro _ _ ⟨b1, rfl, rfl⟩
 refine WLa Z (WL_nil (WQ_code (WC_seq (WCr (WLv Z (R_loadA (vs := [_, _, _, _, _, _, _, _, _, _, _, _, _, _]) Z ag30 Z mmD Z atZ) ?_)))))
 refine WLa Z (WLq Z (few_ok (k : Int) oa W.length c limit brk op idle keep p hW T oa2 c2 _ ha2 hT 40 (by omega)) Z pqD ?_)
 rw [decide_eq_true hf]
 refine WLa Z (WL_nil (WQ_code (WC_F Z (WC_skip (WQ_code (WCr (WLv Z (R_loadA (vs := [_, _, _, _, _, _, _, _, _, _, _, _, _, _]) Z ag30 Z mmD Z atZ) ?_)))))))
 refine WLc Z (xnew_bad3 k W oa c ent ha limit brk op idle keep p h hp hq) Z pqD ?_
 rintro _ _ ⟨_, ⟨rfl, rfl⟩, rfl⟩
 refine WLa Z (WLa Z (WLa Z (WLa Z (WLa Z (WL_nil (WQ_code (WCr (WLv Z (R_loadA (vs := [_, _, _, _, _, _, _, _, _, _, _, _, _, _]) Z ag30 Z mmD Z atZ) ?_))))))))
 refine WLc Z (mbeg_bad3 k W oa c ent ha limit brk op idle keep p h hp hq) Z pqD ?_
 rintro _ _ ⟨_, ⟨rfl, rfl⟩, rfl⟩
 refine WLa Z (WL_nil (WQ_code (WC_seq (WCr (WLa Z (WLv Z (R_ptrEqNil Z Tryz.underlying37 Z) ?_))))))
 refine WL_nil (WQ_code (WC_T Z (WCr (WLq Z (known_ok) Z pqD ?_))))
 refine WLa Z (WL_nil (WQ_code (WC_ret ?_)))
 refine WQ1 Z (by
   exact ⟨rfl, rfl⟩) pqD
theorem plays_one (k : Nat) (W : List Int) (oa : Option Addr) (c : Nat) (ent : Ent) (ha : Rd oa ent W) (limit : Int) (brk : Nat) (op idle : Int) (keep : Nat) (p : Plan) (T : List A9) (oa2 : Option Addr) (c2 : Nat) (ha2 : Arg oa2 ent 6 encA9 T) (hW : W.length ≤ 9223372036854775807) (hT : T.length ≤ 9223372036854775807) (hf : fewB W.length T 40) (hG : ∀ a ∈ T, a.now ≤ 18446744073709551615) (h : VOkB (k : Int) W limit brk) (hp : OkP p) (hq : POk op idle keep) (hsd : p.seed < 4294967296) (hkp : keep ≤ 18446744073709551615) : Spec Tryz.prog 5 [.agg (xsetL (k : Int) oa W.length c limit brk op idle keep p).toArray, .slice oa2 T.length c2] [ent] (fun r H' => r = .bool true ∧ H' = [ent]) := by
 have hT40 : T.length ≤ 40 := hf.2.1
 refine Spec.of (E := [(0, .agg (xsetL (k : Int) oa W.length c limit brk op idle keep p).toArray), (1, .slice oa2 T.length c2)]) Tryz.func5 rfl (by kernel_rfl) Tryz.ntmps5 rfl rfl (fun w => ?_)
 refine WCr (WLd Z (D_box (cs := [_, _, _, _, _, _, _, _, _, _, _, _, _, _]) Z Z Z) ?_)
 rintro _ _ ⟨b1, rfl, rfl⟩
 refine WLa Z (WL_nil (WQ_code (WC_seq (WCr (WLv Z (R_loadA (vs := [_, _, _, _, _, _, _, _, _, _, _, _, _, _]) Z ag30 Z mmD Z atZ) ?_)))))
 refine WLa Z (WLq Z (few_ok (k : Int) oa W.length c limit brk op idle keep p hW T oa2 c2 _ ha2 hT 40 (by omega)) Z pqD ?_)
 rw [decide_eq_true hf]
 refine WLa Z (WL_nil (WQ_code (WC_F Z (WC_skip (WQ_code (WCr (WLv Z (R_loadA (vs := [_, _, _, _, _, _, _, _, _, _, _, _, _, _]) Z ag30 Z mmD Z atZ) ?_)))))))
 refine WLc Z (xm_new k W oa c ent ha limit brk op idle keep p h hp hq hsd hkp) Z pqD ?_
 rintro _ _ ⟨_, ⟨m0, rfl, rfl, g0⟩, rfl⟩
 refine WLa Z (WLa Z (WLa Z (WLa Z (WLa Z (WL_nil (WQ_code (WCr (WLv Z (R_loadA (vs := [_, _, _, _, _, _, _, _, _, _, _, _, _, _]) Z ag30 Z mmD Z atZ) ?_))))))))
 refine WLc Z (mbeg_ok k W oa c ent ha limit brk op idle keep p h hp hq hsd hkp) Z pqD ?_
 rintro _ _ ⟨_, ⟨M0, rfl, rfl, G0⟩, rfl⟩
 refine WLa Z (WL_nil (WQ_code (WC_seq (WCr (WLa Z (WLv Z (R_ptrEqNil Z Tryz.underlying37 Z) ?_))))))
 refine WL_set (s := 29) (v := .bool false) Z (by rfl) ?_
 refine WL_nil (WQ_code (WC_F Z (WC_skip (WQ_code (WC_seq (WCr (WLa Z (WLv Z (R_ptrEqNil Z Tryz.underlying33 Z) ?_))))))))
 refine WLa Z (WLa Z (WLa Z (WLa Z (WL_set (s := 36) (v := .bool false) Z (by rfl) ?_))))
 refine WL_nil (WQ_code (WC_F Z (WC_skip (WQ_code (WC_seq (WCr (WLa Z (WL_nil (WQ_code (WC_block (WC_loopF (G := PyW) [4, 5, 8, 9, 10, 37, 38, 39, 40, 41, 42, 43, 44, 45, 46, 47, 48, 49, 50, 51, 52, 53, 54, 55, 56, 57, 58, 59, 60, 61, 62, 63, 64, 65] (fun z => z.i ≤ T.length ∧ PXIs (150 * z.i) z.m z.x ∧ MIs (150 * z.i) z.M z.x ∧ z.M.p = M0.p ∧ PXO z.i (102 * z.i) (150 * z.i) z.x) (fun z => [(8, .int .i64 (z.i : Int)), (5, ptrP z.m.p)]) (fun z => pxK z.m z.x ++ mdH z.M z.x) (fun z => T.length - z.i) (⟨0, m0, M0, px0 k W limit brk op idle keep p⟩) (⟨Nat.zero_le _, g0, G0, Z, PXO.new hp hq⟩) leZ pqD ?_)))))))))))
 rintro z ⟨hzi, gP, gM, hzP, gO⟩
 rw [← hzP]
 have heE := gO.e
 refine WC_seq (WCr (WLa Z (WLa Z (WLv Z (R_len Z Tryz.underlying41 Z) ?_))))
 refine WLa Z (WL_nil (WQ_code ?_))
 refine WC_dec Z (fun c1 => ?_) (fun c1 => ?_)
 ·obtain ⟨a, hak⟩ := getE (T := T) (i := z.i) (by omega)
  have hba := hG a (List.mem_of_getElem? hak)
  obtain ⟨lb, lk, lcs, le, lfr, rfl, rfl, hat⟩ := ha2.some (by omega)
  refine WC_skip (WQ_code (WC_seq (WC_block (WCr (WLa Z (WLa Z (WLa Z (WLa Z (WLv Z (R_indexAddrN Z Tryz.underlying41 Tryz.sizeOf43 Z Z (by omega)) ?_)))))))))
  refine WLv Z (R_loadAG (vs := encA9 a) Z ag43 Z mmD Z (hat z.i a hak)) ?_
  refine WLc Z (step_ok gP gM gO (by omega) (by omega) (by omega) (by omega) (by omega) a hba) Z pqD ?_
  rintro _ _ ⟨_, ⟨m2, M2, x2, rfl, rfl, h2, g2, hp2, o2⟩, rfl⟩
  rw [← hp2]
  refine WLa Z (WLa Z (WLa Z (WLa Z (WLa Z (WL_nil (WQ_code (WC_seq (WCr (WLa Z (WLv Z (R_ptrEqNil Z Tryz.underlying33 Z) ?_))))))))))
  refine WLa Z (WLa Z (WLa Z (WLa Z (WL_set (s := 58) (v := .bool false) Z (by rfl) ?_))))
  refine WLa Z (WLa Z (WLa Z (WLq Z (malike_ok h2 g2 o2.g.nd) Z pqD ?_)))
  refine WLa Z (WLa Z (WL_set (s := 64) (v := .bool false) Z (by rfl) ?_))
  refine WL_nil (WQ_code (WC_F Z (WC_skip (WQ_code (WC_region (WLa Z (WLa Z (WL_nil (WQ_code (WC_region (WLa Z (WLv Z (R_add Z Z Z (by omega)) ?_))))))))))))
  refine WLa Z (WL_nil ?_)
  refine WQ_nextF (⟨z.i + 1, m2, M2, x2⟩) (⟨by dsimp only; omega, h2.le (by dsimp only; omega), g2.le (by dsimp only; omega), by first | rfl | exact hp2 | exact hp2.trans hzP, o2.le (by dsimp only; omega) (by dsimp only; omega) (by dsimp only; omega)⟩) (by dsimp only; omega) leZ (psZ) Z pqD
 ·refine WC_exit (WQ_code (WC_seq (WCr (WLa Z (WL_nil (WQ_code (WC_block (WC_loopF (G := PzW) [4, 11, 12, 13, 66, 67, 68, 69, 70, 71, 72, 73, 74, 75, 76, 77, 78, 79, 80, 81, 82, 83, 84, 85, 86, 87, 88, 89, 90, 91, 92] (fun y => y.j ≤ z.x.E.length ∧ PXIs (150 * z.i) y.m (z.x.dr y.j) ∧ y.m.p = z.m.p) (fun y => [(11, .int .i64 (y.j : Int))]) (fun y => pxK y.m (z.x.dr y.j)) (fun y => z.x.E.length - y.j) (⟨0, z.m⟩) (⟨Nat.zero_le _, gP, Z⟩) leZ pqD ?_))))))))
  rintro y ⟨hyj, gY, hyp⟩
  rw [← hyp]
  refine WC_seq (WCr (WLa Z (WLa Z (WLa Z (WLf Z fa60_5 (WLl Z sc58 mmD Z (WLv Z (R_lenS Z Tryz.underlying58 Z) ?_)))))))
  refine WLa Z (WL_nil (WQ_code ?_))
  refine WC_dec Z (fun c2 => ?_) (fun c2 => ?_)
  ·obtain ⟨v, hv⟩ := getE (T := z.x.E) (i := y.j) (by omega)
   obtain ⟨we, hwe⟩ := gM.eO.some_of (by omega)
   refine WC_skip (WQ_code (WC_seq (WC_block (WCr (WLa Z (WLc Z (xm_next gY) Z pqD ?_))))))
   rintro _ _ ⟨_, ⟨m1, rfl, rfl, h1, hp1⟩, rfl⟩
   rw [← hp1]
   rw [dr_nx] at h1 ⊢
   rw [dr_hd hv, dr_ne hv]
   refine WLa Z (WLa Z (WLa Z (WLd Z (D_alloc Z zv63) ?_)))
   rintro _ _ ⟨b2, rfl, rfl⟩
   refine WLs (vs := [_, _, _, _, _]) Z Tryz.sizeOf63 Z Z plD (nb Z) ?_
   refine WLa Z (WL_nil (WQ_code (WC_seq (WC_draw _ [(0, true), (1, true), (2, true), (3, true), (4, true), (5, true), (6, true), (7, true), (8, true), (9, true), (10, true), (11, true), (12, true)] followsMixed Z Z (by kernel_rfl) .all ?_))))
   refine WMa Z (WM_set (s := 80) (v := .bool true) Z (by rfl) ?_)
   refine WMa Z (WMa Z (WMv Z (R_loadA (vs := [_, _, _, _, _]) Z ag63 Z mmD Z atZ) ?_))
   refine WMa Z (WMa Z (WMf Z fa60_5 (WMl Z sc58 mmD Z (WMa Z (WMv Z (R_indexS (i := y.j) hwe Z Tryz.underlying58 Tryz.sizeOf63 Z Z (by omega)) ?_)))))
   refine WMv Z (R_loadAO (vs := [.int .i64 v.k, .int .i64 v.s, .int .i64 v.b, .int .i64 v.c, .int .i64 v.e]) hwe Z ag63 Z mmD Z (OwnS.atX gM.eO (i := y.j) (x := v) hv (by omega))) ?_
   refine WMv Z (R_sne63 Z Z Z Z) ?_
   refine WM_set (s := 91) (v := .bool false) Z (by exact congrArg Value.bool (by simp)) ?_
   refine WMa Z (WM_set (s := 92) (v := .bool false) Z (by rfl) ?_)
   refine WM_nil (WQ_code (WC_F Z (WC_skip (WQ_code (WC_region (WLa Z (WLv Z (R_add Z Z Z (by omega)) ?_)))))))
   refine WLa Z (WL_nil ?_)
   refine WQ_nextF (⟨y.j + 1, m1⟩) (⟨by dsimp only; omega, h1, by first | rfl | exact hp1 | exact hp1.trans hyp⟩) (by dsimp only; omega) leZ (psZ) Z pqD
  ·have hyl : z.x.E.length ≤ y.j := by omega
   refine WC_exit (WQ_code (WCr (WLa Z (WLc Z (xm_next gY) Z pqD ?_))))
   rintro _ _ ⟨_, ⟨m1, rfl, rfl, h1, hp1⟩, rfl⟩
   rw [dr_end hyl]
   refine WLa Z (WLa Z (WLa Z (WLd Z (D_alloc Z zv63) ?_)))
   rintro _ _ ⟨b3, rfl, rfl⟩
   refine WLs (vs := [_, _, _, _, _]) Z Tryz.sizeOf63 Z Z plD (nb Z) ?_
   refine WLa Z (WL_nil (WQ_code (WCr (WLa Z (WL_set (s := 98) (v := .bool false) Z (by rfl) ?_)))))
   refine WLa Z (WLa Z (WLq Z (known_ok) Z pqD ?_))
   refine WLa Z (WLa Z (WL_nil (WQ_code (WC_ret ?_))))
   refine WQ1 Z (by
     exact ⟨rfl, rfl⟩) pqD
theorem plays_two1 (k : Int) (W : List Int) (oa : Option Addr) (c : Nat) (ent : Ent) (ha : Rd oa ent W) (limit : Int) (brk : Nat) (op idle : Int) (keep : Nat) (p : Plan) (T : List A9) (oa2 : Option Addr) (c2 : Nat) (en2 : Ent) (ha2 : Arg oa2 en2 6 encA9 T) (hW : W.length ≤ 9223372036854775807) (hT : T.length ≤ 9223372036854775807) (hf : fewB W.length T 40) (h : ¬ VOkB k W limit brk) : Spec Tryz.prog 5 [.agg (xsetL k oa W.length c limit brk op idle keep p).toArray, .slice oa2 T.length c2] [ent, en2] (fun r H' => r = .bool true ∧ H' = [ent, en2]) := by
 refine Spec.of (E := [(0, .agg (xsetL k oa W.length c limit brk op idle keep p).toArray), (1, .slice oa2 T.length c2)]) Tryz.func5 rfl (by kernel_rfl) Tryz.ntmps5 rfl rfl (fun w => ?_)
 refine WCr (WLd Z (D_box (cs := [_, _, _, _, _, _, _, _, _, _, _, _, _, _]) Z Z Z) ?_)
 rintro _ _ ⟨b1, rfl, rfl⟩
 refine WLa Z (WL_nil (WQ_code (WC_seq (WCr (WLv Z (R_loadA (vs := [_, _, _, _, _, _, _, _, _, _, _, _, _, _]) Z ag30 Z mmD Z atZ) ?_)))))
 refine WLa Z (WLq Z (few_ok k oa W.length c limit brk op idle keep p hW T oa2 c2 _ ha2 hT 40 (by omega)) Z pqD ?_)
 rw [decide_eq_true hf]
 refine WLa Z (WL_nil (WQ_code (WC_F Z (WC_skip (WQ_code (WCr (WLv Z (R_loadA (vs := [_, _, _, _, _, _, _, _, _, _, _, _, _, _]) Z ag30 Z mmD Z atZ) ?_)))))))
 refine WLc Z (xnew_bad1 k W oa c ent ha limit brk op idle keep p h) Z pqD ?_
 rintro _ _ ⟨_, ⟨rfl, rfl⟩, rfl⟩
 refine WLa Z (WLa Z (WLa Z (WLa Z (WLa Z (WL_nil (WQ_code (WCr (WLv Z (R_loadA (vs := [_, _, _, _, _, _, _, _, _, _, _, _, _, _]) Z ag30 Z mmD Z atZ) ?_))))))))
 refine WLc Z (mbeg_bad1 k W oa c ent ha limit brk op idle keep p h) Z pqD ?_
 rintro _ _ ⟨_, ⟨rfl, rfl⟩, rfl⟩
 refine WLa Z (WL_nil (WQ_code (WC_seq (WCr (WLa Z (WLv Z (R_ptrEqNil Z Tryz.underlying37 Z) ?_))))))
 refine WL_nil (WQ_code (WC_T Z (WCr (WLq Z (known_ok) Z pqD ?_))))
 refine WLa Z (WL_nil (WQ_code (WC_ret ?_)))
 refine WQ1 Z (by
   exact ⟨rfl, rfl⟩) pqD
theorem plays_two2 (k : Nat) (W : List Int) (oa : Option Addr) (c : Nat) (ent : Ent) (ha : Rd oa ent W) (limit : Int) (brk : Nat) (op idle : Int) (keep : Nat) (p : Plan) (T : List A9) (oa2 : Option Addr) (c2 : Nat) (en2 : Ent) (ha2 : Arg oa2 en2 6 encA9 T) (hW : W.length ≤ 9223372036854775807) (hT : T.length ≤ 9223372036854775807) (hf : fewB W.length T 40) (h : VOkB (k : Int) W limit brk) (hp : ¬ OkP p) : Spec Tryz.prog 5 [.agg (xsetL (k : Int) oa W.length c limit brk op idle keep p).toArray, .slice oa2 T.length c2] [ent, en2] (fun r H' => r = .bool true ∧ H' = [ent, en2]) := by
 refine Spec.of (E := [(0, .agg (xsetL (k : Int) oa W.length c limit brk op idle keep p).toArray), (1, .slice oa2 T.length c2)]) Tryz.func5 rfl (by kernel_rfl) Tryz.ntmps5 rfl rfl (fun w => ?_)
 refine WCr (WLd Z (D_box (cs := [_, _, _, _, _, _, _, _, _, _, _, _, _, _]) Z Z Z) ?_)
 rintro _ _ ⟨b1, rfl, rfl⟩
 refine WLa Z (WL_nil (WQ_code (WC_seq (WCr (WLv Z (R_loadA (vs := [_, _, _, _, _, _, _, _, _, _, _, _, _, _]) Z ag30 Z mmD Z atZ) ?_)))))
 refine WLa Z (WLq Z (few_ok (k : Int) oa W.length c limit brk op idle keep p hW T oa2 c2 _ ha2 hT 40 (by omega)) Z pqD ?_)
 rw [decide_eq_true hf]
 refine WLa Z (WL_nil (WQ_code (WC_F Z (WC_skip (WQ_code (WCr (WLv Z (R_loadA (vs := [_, _, _, _, _, _, _, _, _, _, _, _, _, _]) Z ag30 Z mmD Z atZ) ?_)))))))
 refine WLc Z (xnew_bad2 k W oa c ent ha limit brk op idle keep p h hp) Z pqD ?_
 rintro _ _ ⟨_, ⟨rfl, rfl⟩, rfl⟩
 refine WLa Z (WLa Z (WLa Z (WLa Z (WLa Z (WL_nil (WQ_code (WCr (WLv Z (R_loadA (vs := [_, _, _, _, _, _, _, _, _, _, _, _, _, _]) Z ag30 Z mmD Z atZ) ?_))))))))
 refine WLc Z (mbeg_bad2 k W oa c ent ha limit brk op idle keep p h hp) Z pqD ?_
 rintro _ _ ⟨_, ⟨rfl, rfl⟩, rfl⟩
 refine WLa Z (WL_nil (WQ_code (WC_seq (WCr (WLa Z (WLv Z (R_ptrEqNil Z Tryz.underlying37 Z) ?_))))))
 refine WL_nil (WQ_code (WC_T Z (WCr (WLq Z (known_ok) Z pqD ?_))))
 refine WLa Z (WL_nil (WQ_code (WC_ret ?_)))
 refine WQ1 Z (by
   exact ⟨rfl, rfl⟩) pqD
theorem plays_two3 (k : Nat) (W : List Int) (oa : Option Addr) (c : Nat) (ent : Ent) (ha : Rd oa ent W) (limit : Int) (brk : Nat) (op idle : Int) (keep : Nat) (p : Plan) (T : List A9) (oa2 : Option Addr) (c2 : Nat) (en2 : Ent) (ha2 : Arg oa2 en2 6 encA9 T) (hW : W.length ≤ 9223372036854775807) (hT : T.length ≤ 9223372036854775807) (hf : fewB W.length T 40) (h : VOkB (k : Int) W limit brk) (hp : OkP p) (hq : ¬ POk op idle keep) : Spec Tryz.prog 5 [.agg (xsetL (k : Int) oa W.length c limit brk op idle keep p).toArray, .slice oa2 T.length c2] [ent, en2] (fun r H' => r = .bool true ∧ H' = [ent, en2]) := by
 refine Spec.of (E := [(0, .agg (xsetL (k : Int) oa W.length c limit brk op idle keep p).toArray), (1, .slice oa2 T.length c2)]) Tryz.func5 rfl (by kernel_rfl) Tryz.ntmps5 rfl rfl (fun w => ?_)
 refine WCr (WLd Z (D_box (cs := [_, _, _, _, _, _, _, _, _, _, _, _, _, _]) Z Z Z) ?_)
 rintro _ _ ⟨b1, rfl, rfl⟩
 refine WLa Z (WL_nil (WQ_code (WC_seq (WCr (WLv Z (R_loadA (vs := [_, _, _, _, _, _, _, _, _, _, _, _, _, _]) Z ag30 Z mmD Z atZ) ?_)))))
 refine WLa Z (WLq Z (few_ok (k : Int) oa W.length c limit brk op idle keep p hW T oa2 c2 _ ha2 hT 40 (by omega)) Z pqD ?_)
 rw [decide_eq_true hf]
 refine WLa Z (WL_nil (WQ_code (WC_F Z (WC_skip (WQ_code (WCr (WLv Z (R_loadA (vs := [_, _, _, _, _, _, _, _, _, _, _, _, _, _]) Z ag30 Z mmD Z atZ) ?_)))))))
 refine WLc Z (xnew_bad3 k W oa c ent ha limit brk op idle keep p h hp hq) Z pqD ?_
 rintro _ _ ⟨_, ⟨rfl, rfl⟩, rfl⟩
 refine WLa Z (WLa Z (WLa Z (WLa Z (WLa Z (WL_nil (WQ_code (WCr (WLv Z (R_loadA (vs := [_, _, _, _, _, _, _, _, _, _, _, _, _, _]) Z ag30 Z mmD Z atZ) ?_))))))))
 refine WLc Z (mbeg_bad3 k W oa c ent ha limit brk op idle keep p h hp hq) Z pqD ?_
 rintro _ _ ⟨_, ⟨rfl, rfl⟩, rfl⟩
 refine WLa Z (WL_nil (WQ_code (WC_seq (WCr (WLa Z (WLv Z (R_ptrEqNil Z Tryz.underlying37 Z) ?_))))))
 refine WL_nil (WQ_code (WC_T Z (WCr (WLq Z (known_ok) Z pqD ?_))))
 refine WLa Z (WL_nil (WQ_code (WC_ret ?_)))
 refine WQ1 Z (by
   exact ⟨rfl, rfl⟩) pqD
theorem plays_two (k : Nat) (W : List Int) (oa : Option Addr) (c : Nat) (ent : Ent) (ha : Rd oa ent W) (limit : Int) (brk : Nat) (op idle : Int) (keep : Nat) (p : Plan) (T : List A9) (oa2 : Option Addr) (c2 : Nat) (en2 : Ent) (ha2 : Arg oa2 en2 6 encA9 T) (hW : W.length ≤ 9223372036854775807) (hT : T.length ≤ 9223372036854775807) (hf : fewB W.length T 40) (hG : ∀ a ∈ T, a.now ≤ 18446744073709551615) (h : VOkB (k : Int) W limit brk) (hp : OkP p) (hq : POk op idle keep) (hsd : p.seed < 4294967296) (hkp : keep ≤ 18446744073709551615) : Spec Tryz.prog 5 [.agg (xsetL (k : Int) oa W.length c limit brk op idle keep p).toArray, .slice oa2 T.length c2] [ent, en2] (fun r H' => r = .bool true ∧ H' = [ent, en2]) := by
 have hT40 : T.length ≤ 40 := hf.2.1
 refine Spec.of (E := [(0, .agg (xsetL (k : Int) oa W.length c limit brk op idle keep p).toArray), (1, .slice oa2 T.length c2)]) Tryz.func5 rfl (by kernel_rfl) Tryz.ntmps5 rfl rfl (fun w => ?_)
 refine WCr (WLd Z (D_box (cs := [_, _, _, _, _, _, _, _, _, _, _, _, _, _]) Z Z Z) ?_)
 rintro _ _ ⟨b1, rfl, rfl⟩
 refine WLa Z (WL_nil (WQ_code (WC_seq (WCr (WLv Z (R_loadA (vs := [_, _, _, _, _, _, _, _, _, _, _, _, _, _]) Z ag30 Z mmD Z atZ) ?_)))))
 refine WLa Z (WLq Z (few_ok (k : Int) oa W.length c limit brk op idle keep p hW T oa2 c2 _ ha2 hT 40 (by omega)) Z pqD ?_)
 rw [decide_eq_true hf]
 refine WLa Z (WL_nil (WQ_code (WC_F Z (WC_skip (WQ_code (WCr (WLv Z (R_loadA (vs := [_, _, _, _, _, _, _, _, _, _, _, _, _, _]) Z ag30 Z mmD Z atZ) ?_)))))))
 refine WLc Z (xm_new k W oa c ent ha limit brk op idle keep p h hp hq hsd hkp) Z pqD ?_
 rintro _ _ ⟨_, ⟨m0, rfl, rfl, g0⟩, rfl⟩
 refine WLa Z (WLa Z (WLa Z (WLa Z (WLa Z (WL_nil (WQ_code (WCr (WLv Z (R_loadA (vs := [_, _, _, _, _, _, _, _, _, _, _, _, _, _]) Z ag30 Z mmD Z atZ) ?_))))))))
 refine WLc Z (mbeg_ok k W oa c ent ha limit brk op idle keep p h hp hq hsd hkp) Z pqD ?_
 rintro _ _ ⟨_, ⟨M0, rfl, rfl, G0⟩, rfl⟩
 refine WLa Z (WL_nil (WQ_code (WC_seq (WCr (WLa Z (WLv Z (R_ptrEqNil Z Tryz.underlying37 Z) ?_))))))
 refine WL_set (s := 29) (v := .bool false) Z (by rfl) ?_
 refine WL_nil (WQ_code (WC_F Z (WC_skip (WQ_code (WC_seq (WCr (WLa Z (WLv Z (R_ptrEqNil Z Tryz.underlying33 Z) ?_))))))))
 refine WLa Z (WLa Z (WLa Z (WLa Z (WL_set (s := 36) (v := .bool false) Z (by rfl) ?_))))
 refine WL_nil (WQ_code (WC_F Z (WC_skip (WQ_code (WC_seq (WCr (WLa Z (WL_nil (WQ_code (WC_block (WC_loopF (G := PyW) [4, 5, 8, 9, 10, 37, 38, 39, 40, 41, 42, 43, 44, 45, 46, 47, 48, 49, 50, 51, 52, 53, 54, 55, 56, 57, 58, 59, 60, 61, 62, 63, 64, 65] (fun z => z.i ≤ T.length ∧ PXIs (150 * z.i) z.m z.x ∧ MIs (150 * z.i) z.M z.x ∧ z.M.p = M0.p ∧ PXO z.i (102 * z.i) (150 * z.i) z.x) (fun z => [(8, .int .i64 (z.i : Int)), (5, ptrP z.m.p)]) (fun z => pxK z.m z.x ++ mdH z.M z.x) (fun z => T.length - z.i) (⟨0, m0, M0, px0 k W limit brk op idle keep p⟩) (⟨Nat.zero_le _, g0, G0, Z, PXO.new hp hq⟩) leZ pqD ?_)))))))))))
 rintro z ⟨hzi, gP, gM, hzP, gO⟩
 rw [← hzP]
 have heE := gO.e
 refine WC_seq (WCr (WLa Z (WLa Z (WLv Z (R_len Z Tryz.underlying41 Z) ?_))))
 refine WLa Z (WL_nil (WQ_code ?_))
 refine WC_dec Z (fun c1 => ?_) (fun c1 => ?_)
 ·obtain ⟨a, hak⟩ := getE (T := T) (i := z.i) (by omega)
  have hba := hG a (List.mem_of_getElem? hak)
  obtain ⟨lb, lk, lcs, le, lfr, rfl, rfl, hat⟩ := ha2.some (by omega)
  refine WC_skip (WQ_code (WC_seq (WC_block (WCr (WLa Z (WLa Z (WLa Z (WLa Z (WLv Z (R_indexAddrN Z Tryz.underlying41 Tryz.sizeOf43 Z Z (by omega)) ?_)))))))))
  refine WLv Z (R_loadAG (vs := encA9 a) Z ag43 Z mmD Z (hat z.i a hak)) ?_
  refine WLc Z (step_ok gP gM gO (by omega) (by omega) (by omega) (by omega) (by omega) a hba) Z pqD ?_
  rintro _ _ ⟨_, ⟨m2, M2, x2, rfl, rfl, h2, g2, hp2, o2⟩, rfl⟩
  rw [← hp2]
  refine WLa Z (WLa Z (WLa Z (WLa Z (WLa Z (WL_nil (WQ_code (WC_seq (WCr (WLa Z (WLv Z (R_ptrEqNil Z Tryz.underlying33 Z) ?_))))))))))
  refine WLa Z (WLa Z (WLa Z (WLa Z (WL_set (s := 58) (v := .bool false) Z (by rfl) ?_))))
  refine WLa Z (WLa Z (WLa Z (WLq Z (malike_ok h2 g2 o2.g.nd) Z pqD ?_)))
  refine WLa Z (WLa Z (WL_set (s := 64) (v := .bool false) Z (by rfl) ?_))
  refine WL_nil (WQ_code (WC_F Z (WC_skip (WQ_code (WC_region (WLa Z (WLa Z (WL_nil (WQ_code (WC_region (WLa Z (WLv Z (R_add Z Z Z (by omega)) ?_))))))))))))
  refine WLa Z (WL_nil ?_)
  refine WQ_nextF (⟨z.i + 1, m2, M2, x2⟩) (⟨by dsimp only; omega, h2.le (by dsimp only; omega), g2.le (by dsimp only; omega), by first | rfl | exact hp2 | exact hp2.trans hzP, o2.le (by dsimp only; omega) (by dsimp only; omega) (by dsimp only; omega)⟩) (by dsimp only; omega) leZ (psZ) Z pqD
 ·refine WC_exit (WQ_code (WC_seq (WCr (WLa Z (WL_nil (WQ_code (WC_block (WC_loopF (G := PzW) [4, 11, 12, 13, 66, 67, 68, 69, 70, 71, 72, 73, 74, 75, 76, 77, 78, 79, 80, 81, 82, 83, 84, 85, 86, 87, 88, 89, 90, 91, 92] (fun y => y.j ≤ z.x.E.length ∧ PXIs (150 * z.i) y.m (z.x.dr y.j) ∧ y.m.p = z.m.p) (fun y => [(11, .int .i64 (y.j : Int))]) (fun y => pxK y.m (z.x.dr y.j)) (fun y => z.x.E.length - y.j) (⟨0, z.m⟩) (⟨Nat.zero_le _, gP, Z⟩) leZ pqD ?_))))))))
  rintro y ⟨hyj, gY, hyp⟩
  rw [← hyp]
  refine WC_seq (WCr (WLa Z (WLa Z (WLa Z (WLf Z fa60_5 (WLl Z sc58 mmD Z (WLv Z (R_lenS Z Tryz.underlying58 Z) ?_)))))))
  refine WLa Z (WL_nil (WQ_code ?_))
  refine WC_dec Z (fun c2 => ?_) (fun c2 => ?_)
  ·obtain ⟨v, hv⟩ := getE (T := z.x.E) (i := y.j) (by omega)
   obtain ⟨we, hwe⟩ := gM.eO.some_of (by omega)
   refine WC_skip (WQ_code (WC_seq (WC_block (WCr (WLa Z (WLc Z (xm_next gY) Z pqD ?_))))))
   rintro _ _ ⟨_, ⟨m1, rfl, rfl, h1, hp1⟩, rfl⟩
   rw [← hp1]
   rw [dr_nx] at h1 ⊢
   rw [dr_hd hv, dr_ne hv]
   refine WLa Z (WLa Z (WLa Z (WLd Z (D_alloc Z zv63) ?_)))
   rintro _ _ ⟨b2, rfl, rfl⟩
   refine WLs (vs := [_, _, _, _, _]) Z Tryz.sizeOf63 Z Z plD (nb Z) ?_
   refine WLa Z (WL_nil (WQ_code (WC_seq (WC_draw _ [(0, true), (1, true), (2, true), (3, true), (4, true), (5, true), (6, true), (7, true), (8, true), (9, true), (10, true), (11, true), (12, true)] followsMixed Z Z (by kernel_rfl) .all ?_))))
   refine WMa Z (WM_set (s := 80) (v := .bool true) Z (by rfl) ?_)
   refine WMa Z (WMa Z (WMv Z (R_loadA (vs := [_, _, _, _, _]) Z ag63 Z mmD Z atZ) ?_))
   refine WMa Z (WMa Z (WMf Z fa60_5 (WMl Z sc58 mmD Z (WMa Z (WMv Z (R_indexS (i := y.j) hwe Z Tryz.underlying58 Tryz.sizeOf63 Z Z (by omega)) ?_)))))
   refine WMv Z (R_loadAO (vs := [.int .i64 v.k, .int .i64 v.s, .int .i64 v.b, .int .i64 v.c, .int .i64 v.e]) hwe Z ag63 Z mmD Z (OwnS.atX gM.eO (i := y.j) (x := v) hv (by omega))) ?_
   refine WMv Z (R_sne63 Z Z Z Z) ?_
   refine WM_set (s := 91) (v := .bool false) Z (by exact congrArg Value.bool (by simp)) ?_
   refine WMa Z (WM_set (s := 92) (v := .bool false) Z (by rfl) ?_)
   refine WM_nil (WQ_code (WC_F Z (WC_skip (WQ_code (WC_region (WLa Z (WLv Z (R_add Z Z Z (by omega)) ?_)))))))
   refine WLa Z (WL_nil ?_)
   refine WQ_nextF (⟨y.j + 1, m1⟩) (⟨by dsimp only; omega, h1, by first | rfl | exact hp1 | exact hp1.trans hyp⟩) (by dsimp only; omega) leZ (psZ) Z pqD
  ·have hyl : z.x.E.length ≤ y.j := by omega
   refine WC_exit (WQ_code (WCr (WLa Z (WLc Z (xm_next gY) Z pqD ?_))))
   rintro _ _ ⟨_, ⟨m1, rfl, rfl, h1, hp1⟩, rfl⟩
   rw [dr_end hyl]
   refine WLa Z (WLa Z (WLa Z (WLd Z (D_alloc Z zv63) ?_)))
   rintro _ _ ⟨b3, rfl, rfl⟩
   refine WLs (vs := [_, _, _, _, _]) Z Tryz.sizeOf63 Z Z plD (nb Z) ?_
   refine WLa Z (WL_nil (WQ_code (WCr (WLa Z (WL_set (s := 98) (v := .bool false) Z (by rfl) ?_)))))
   refine WLa Z (WLa Z (WLq Z (known_ok) Z pqD ?_))
   refine WLa Z (WLa Z (WL_nil (WQ_code (WC_ret ?_))))
   refine WQ1 Z (by
     exact ⟨rfl, rfl⟩) pqD
end Go.Proofs.YtelmlkdibcdebaaGreat
