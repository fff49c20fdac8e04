/-
 Chapter 49 (proxy), part MdF: contracts of functions that the laws call, each for the heap it names.
-/
import Derived.Test.YtelmlkdibcdebaaGreatY05
import Derived.Test.YtelmlkdibcdebaaGreatRows
set_option linter.unusedVariables false
set_option maxRecDepth 20000
set_option maxHeartbeats 8000000
namespace Go.Proofs.YtelmlkdibcdebaaGreat
def PX.dialX (x : PX) (n : Int) (good : Bool) (now : Nat) : PX := if x.inX n 3 now ≠ 0 then x else match x.S.find? (fun s => decide (s.num = n)) with
 | none => x
 | some s => x.dialN s good now
def PX.endX (x : PX) (n : Int) (good : Bool) (now : Nat) : PX := if x.inX n 4 now ≠ 0 then x else match x.S.find? (fun s => decide (s.num = n)) with
 | none => x
 | some s => x.endN s good now
def PX.advX (x : PX) (now : Nat) : PX := if x.may true now ≠ 0 then x else x.adv now
def PX.stX (x : PX) (n : Int) : Int × Int × Int := match x.S.find? (fun s => decide (s.num = n)) with
 | none => (0, -1, -1)
 | some s => (s.st, s.be, s.cn)
def hdX : List Xv → Xv
 | [] => ⟨0, 0, 0, 0, 0⟩
 | e :: _ => e
theorem find_out {S : List Ss} {n : Int} (h : n ∉ S.map (·.num)) : S.find? (fun s => decide (s.num = n)) = none := List.find?_eq_none.2 fun s hs => by
 simp only [decide_eq_true_eq]
 exact fun e => h (by rw [← e]; exact List.mem_map_of_mem hs)
theorem drainL_num {Q : Int → Prop} (i : Nat) : ∀ (n : Nat) (x : PX), PXG x → (∀ s ∈ x.S, Q s.num) → ∀ s ∈ (PX.drainL i n x).S, Q s.num
 | 0, _, _, hq => hq
 | n + 1, x, h, hq => by
  unfold PX.drainL
  split
  ·exact hq
  ·rename_i si hi
   split
   ·exact hq
   ·rename_i e r hE
    obtain ⟨hk, g2⟩ := drE_ok h hi hE
    refine drainL_num i n _ g2 ?_
    rcases hk with hk | ⟨hk, A, s9, B, hS, hw, hst9, _⟩
    ·rw [drE_5 hk]; exact hq
    ·rw [hS] at hq
     have h9 : Q s9.num := hq s9 (List.mem_append_right _ (List.mem_cons_self ..))
     rcases hk with hk | hk | hk
     ·rw [drE_1 (x := x.nxP i si) h.nd hS hw.symm hk]
      exact mem_swap (p := fun s => Q s.num) hq _ h9
     ·rw [drE_2 (x := x.nxP i si) h.nd hS hw.symm hk]
      exact mem_swap (p := fun s => Q s.num) hq _ h9
     ·rw [drE_4 (x := x.nxP i si) h.nd hS hw.symm hk]
      exact mem_drop (p := fun s => Q s.num) hq
theorem drain_num {Q : Int → Prop} {x : PX} (h : PXG x) (i : Nat) (hq : ∀ s ∈ x.S, Q s.num) : ∀ s ∈ (x.drain i).S, Q s.num := by obtain ⟨n, e⟩ := drain_eqL x i; rw [e]; exact drainL_num i n x h hq
theorem advP_num {Q : Int → Prop} {x : PX} (h : PXG x) (i : Nat) (hq : ∀ s ∈ x.S, Q s.num) : ∀ s ∈ (x.advP x.now i).S, Q s.num := by
 unfold PX.advP
 cases hi : x.P[i]? with
 | none => exact hq
 | some si =>
  have hp := h.po i si hi
  obtain ⟨a, b⟩ := ph_adv hp.ph hp.nw
  exact drain_num (h.pool hi (hp.op (opd_adv (pend_who hp) x.now) a b)) i hq
theorem advK_num {Q : Int → Prop} {x : PX} (h : PXG x) {now : Nat} (hn : x.now ≤ now) (hq : ∀ s ∈ x.S, Q s.num) : ∀ k, ∀ s ∈ (x.advK now k).S, Q s.num
 | 0 => hq
 | k + 1 => by
  have ih := advK_num h hn hq k
  have g := h.advK hn k
  have := advP_num g k ih
  rw [(advK_facts x now k).1] at this
  rw [advK_next]; exact this
theorem PXO.b4 {w b e : Nat} {x : PX} (h : PXO w b e x) (hb : b ≤ 1000000) : ∀ si ∈ x.P, si.E.length ≤ 10000 ∧ si.n < 1000000000000 := fun si hi => by
 have := h.b si hi
 rw [this.1]; exact ⟨Nat.zero_le _, by omega⟩
theorem pre2 {a b : Ent} {R : Heap} {F : FuncId} {args : List Value} {v : Value} (h : Spec Tryz.prog F args [a, b] (fun r H' => r = v ∧ H' = [a, b])) : Spec Tryz.prog F args ([a, b] ++ R) (fun r H' => r = v ∧ H' = [a, b] ++ R) :=
 (h.fr R).mono fun r H' ⟨H1, ⟨e1, e2⟩, e3⟩ => ⟨e1, by rw [e3, e2]⟩
theorem pre1 {a : Ent} {R : Heap} {F : FuncId} {args : List Value} {v : Value} (h : Spec Tryz.prog F args [a] (fun r H' => r = v ∧ H' = [a])) : Spec Tryz.prog F args ([a] ++ R) (fun r H' => r = v ∧ H' = [a] ++ R) :=
 (h.fr R).mono fun r H' ⟨H1, ⟨e1, e2⟩, e3⟩ => ⟨e1, by rw [e3, e2]⟩
theorem xl_begin {N : Nat} {m : XM} {x : PX} {w b e : Nat} (h : PXIs N m x) (o : PXO w b e x) (hN : N ≤ 8000) (hE : e ≤ 10000) (hB : b ≤ 1000000) (n : Int) (now dl : Nat) (hb : now ≤ 18446744073709551615) (key : ByteArray) :
  Spec Tryz.prog 12 [ptrP m.p, .int .i64 n, .int .u64 (now : Int), .int .u64 (dl : Int), .string key] (pxH m x) (fun r H' => ∃ m' x', r = .int .i64 (x.begE n now dl key) ∧ H' = pxH m' x' ∧ PXIs (N + 1) m' x' ∧ m'.p = m.p ∧ PXO (w + 1) (b + 1) (e + 1) x' ∧ ((x.begE n now dl key ≠ 0 ∧ x' = x) ∨ (x.begE n now dl key = 0 ∧ ∃ p, x' = x.begin n now dl key p))) := by
 by_cases he : x.begE n now dl key = 0
 ·refine (xbegin_ok h o.g (by omega) (Nat.le_trans o.e hE) (o.b4 hB) n now dl hb key he).mono ?_
  rintro r H' ⟨m', p, h1, h2, h3, h4⟩
  exact ⟨m', _, by rw [he]; exact h1, h2, h3, h4, o.begin p he, .inr ⟨he, p, rfl⟩⟩
 ·refine (pre2 (R := [pxV m x, pxQ m] ++ (ssH x.S ++ (balH m.bm ++ poolsH m.pm x.P))) (xbegin_bad h n now dl key he)).mono ?_
  rintro r H' ⟨h1, h2⟩
  exact ⟨m, x, h1, h2, h.le (Nat.le_succ N), rfl, o.le (Nat.le_succ _) (Nat.le_succ _) (Nat.le_succ _), .inl ⟨he, rfl⟩⟩
theorem xl_dialed {N : Nat} {m : XM} {x : PX} {w b e : Nat} (h : PXIs N m x) (o : PXO w b e x) (hN : N ≤ 7000) (hE : e ≤ 10000) (n : Int) (good : Bool) (now : Nat) (hb : now ≤ 18446744073709551615) :
  Spec Tryz.prog 13 [ptrP m.p, .int .i64 n, .bool good, .int .u64 (now : Int)] (pxH m x) (fun r H' => ∃ m', r = .int .i64 (x.inX n 3 now) ∧ H' = pxH m' (x.dialX n good now) ∧ PXIs (N + 21) m' (x.dialX n good now) ∧ m'.p = m.p ∧ PXO (w + 1) (b + 1) (e + 3) (x.dialX n good now)) := by
 by_cases he : x.inX n 3 now = 0
 ·obtain ⟨A, s, B, hS, rfl, hst, hm, hr, hn1, hn2⟩ := inX_zero he
  have hs : s ∈ x.S := by rw [hS]; exact List.mem_append_right _ (List.mem_cons_self ..)
  have hX : x.dialX s.num good now = x.dialN s good now := by unfold PX.dialX; rw [if_neg (by rw [he]; decide), find_num o.g.nd hs]
  obtain ⟨i, hbe, hil⟩ := o.g.bk s hs (.inr (.inl hst))
  obtain ⟨si, hi⟩ := getE (T := x.P) (i := i) hil
  have hsE := (o.b si (List.mem_of_getElem? hi)).1
  rw [he, hX]
  have oo := o.dialed hS hst good hn1 hn2
  have hdE := dialed_E si s.cn good now
  rw [hsE, List.length_nil] at hdE
  cases good with
  | true =>
   refine (xdialed_made h o.g (by omega) (Nat.le_trans o.e hE) hS hst hb hm hbe hi (by rw [hsE]; exact Nat.zero_le _)).mono ?_
   rintro r H' ⟨m', h1, h2, h3, h4⟩
   exact ⟨m', h1, h2, h3.le (by omega), h4, oo⟩
  | false =>
   refine (xdialed_lost h o.g (by omega) (Nat.le_trans o.e hE) hS hst hb hm hbe hi (by rw [hsE]; exact Nat.zero_le _) (by omega)).mono ?_
   rintro r H' ⟨m', h1, h2, h3, h4⟩
   exact ⟨m', h1, h2, h3, h4, oo⟩
 ·have hX : x.dialX n good now = x := by unfold PX.dialX; rw [if_pos he]
  rw [hX]
  refine (xdialed_err h n good now he).mono ?_
  rintro r H' ⟨h1, h2⟩
  exact ⟨m, h1, h2, h.le (by omega), rfl, o.le (by omega) (by omega) (by omega)⟩
theorem xl_end {N : Nat} {m : XM} {x : PX} {w b e : Nat} (h : PXIs N m x) (o : PXO w b e x) (hN : N ≤ 7000) (hE : e ≤ 10000) (n : Int) (good : Bool) (now : Nat) (hb : now ≤ 18446744073709551615) :
  Spec Tryz.prog 14 [ptrP m.p, .int .i64 n, .bool good, .int .u64 (now : Int)] (pxH m x) (fun r H' => ∃ m', r = .int .i64 (x.inX n 4 now) ∧ H' = pxH m' (x.endX n good now) ∧ PXIs (N + 21) m' (x.endX n good now) ∧ m'.p = m.p ∧ PXO (w + 1) (b + 1) (e + 3) (x.endX n good now)) := by
 by_cases he : x.inX n 4 now = 0
 ·obtain ⟨A, s, B, hS, rfl, hst, hm, hr, hn1, hn2⟩ := inX_zero he
  have hs : s ∈ x.S := by rw [hS]; exact List.mem_append_right _ (List.mem_cons_self ..)
  have hX : x.endX s.num good now = x.endN s good now := by unfold PX.endX; rw [if_neg (by rw [he]; decide), find_num o.g.nd hs]
  obtain ⟨i, hbe, hil⟩ := o.g.bk s hs (.inr (.inr hst))
  obtain ⟨si, hi⟩ := getE (T := x.P) (i := i) hil
  have hsE := (o.b si (List.mem_of_getElem? hi)).1
  rw [he, hX]
  have oo := o.end_ hS hst good hn1
  have hdE := put_E si s.cn good now
  rw [hsE, List.length_nil] at hdE
  refine (xend_ok h o.g (by omega) (Nat.le_trans o.e hE) hS hst good hb hm hbe hi (by rw [hsE]; exact Nat.zero_le _) (by omega)).mono ?_
  rintro r H' ⟨m', h1, h2, h3, h4⟩
  exact ⟨m', h1, h2, h3, h4, oo⟩
 ·have hX : x.endX n good now = x := by unfold PX.endX; rw [if_pos he]
  rw [hX]
  refine (xend_err h n good now he).mono ?_
  rintro r H' ⟨h1, h2⟩
  exact ⟨m, h1, h2, h.le (by omega), rfl, o.le (by omega) (by omega) (by omega)⟩
theorem xl_adv {N : Nat} {m : XM} {x : PX} {w b e : Nat} (h : PXIs N m x) (o : PXO w b e x) (hN : N ≤ 7000) (hw : w ≤ 57) (hE : e ≤ 10000) (hB : b ≤ 1000000) (hP : x.P.length ≤ 100) (now : Nat) (hb : now ≤ 18446744073709551615) :
  Spec Tryz.prog 15 [ptrP m.p, .int .u64 (now : Int)] (pxH m x) (fun r H' => ∃ m', r = .int .i64 (x.may true now) ∧ H' = pxH m' (x.advX now) ∧ PXIs (N + w + 101) m' (x.advX now) ∧ m'.p = m.p ∧ PXO w (b + 102) (e + w + 101) (x.advX now)) := by
 by_cases he : x.may true now = 0
 ·have hX : x.advX now = x.adv now := by unfold PX.advX; rw [if_neg (by rw [he]; decide)]
  obtain ⟨_, hn1, hn2⟩ := xmay_zero_of he
  have hev := evS_le o.g o.b now
  have hww := o.w
  have hwP : wP x.P ≤ wX x := Nat.le_add_right _ _
  rw [he, hX]
  refine (xadv_ok h o.g now hb he (Nat.le_trans o.e hE) hP o.b (by omega) (fun si hs => by have := o.cnt si hs; omega) (by omega)).mono ?_
  rintro r H' ⟨m', N', h1, h2, h3, h4, h5⟩
  refine ⟨m', h1, h2, h4.le (by omega), h5, o.adv hn1 h.num ?_⟩
  rw [List.length_map]
  exact nums_len (o.g.advK hn1 x.P.length).nd (advK_num (Q := fun n => 0 ≤ n ∧ n ≤ 100) o.g hn1 h.num x.P.length)
 ·have hX : x.advX now = x := by unfold PX.advX; rw [if_pos he]
  rw [hX]
  refine (pre1 (R := [pxM m, pxV m x, pxQ m] ++ (ssH x.S ++ (balH m.bm ++ poolsH m.pm x.P))) (xadv_err m x now he)).mono ?_
  rintro r H' ⟨h1, h2⟩
  exact ⟨m, h1, h2, h.le (by omega), rfl, o.le (by omega) (by omega) (by omega)⟩
abbrev encR (s : Ss) : List Value := [.int .i64 s.num, .string s.key, .int .u64 (s.dl : Int), .int .u64 (s.til : Int), .int .i64 (s.tr : Int), .int .i64 s.st, .int .i64 s.cal, .int .i64 s.be, .int .i64 s.cn]
abbrev rsV (s : Ss) : Value := .agg #[.int .i64 s.num, .string s.key, .int .u64 (s.dl : Int), .int .u64 (s.til : Int), .int .i64 (s.tr : Int), .int .i64 s.st, .int .i64 s.cal, .int .i64 s.be, .int .i64 s.cn]
theorem encR9 (s : Ss) : (encR s).length = 9 := rfl
theorem encR_one (S : List Ss) : (S.flatMap encR).all Value.oneCell' = true := fm_all (fun _ => rfl) S
structure MM where
 p : Nat
 bm : Bm
 pm : List PM
 ob : Option Nat
 oc : Nat
 otl : List Value
 so : Option Nat
 sc : Nat
 stl : List Value
 eb : Option Nat
 ek : Nat
 ec : Nat
 epre : List Value
 etl : List Value
abbrev mdC (M : MM) (x : PX) : List Value := [ptrB M.bm.p, slV M.ob x.P.length M.oc, .int .u64 (x.pl.base : Int), .int .u64 (x.pl.most : Int), .int .i64 x.pl.num, .int .i64 x.pl.den, .int .i64 x.pl.tries, .int .i64 x.pl.jit, .int .u32 (x.pl.seed : Int), .int .u64 (x.now : Int), slV M.so x.S.length M.sc, sVal M.eb M.ek x.E.length M.ec]
abbrev mdE (M : MM) (x : PX) : Ent := ⟨some M.p, cl (mdC M x) 60⟩
abbrev mdS (M : MM) (x : PX) : Ent := ⟨M.so, cl (x.S.flatMap encR ++ M.stl) 84⟩
abbrev mdV (M : MM) (x : PX) : Ent := ⟨M.eb, cl (M.epre ++ (x.E.flatMap encX ++ M.etl)) 63⟩
abbrev mdQ (M : MM) : Ent := ⟨M.ob, cl (M.pm.flatMap (fun q => [ptrP q.p]) ++ M.otl) 79⟩
abbrev mdH (M : MM) (x : PX) : Heap := [mdE M x, mdS M x, mdV M x, mdQ M] ++ (balH M.bm ++ poolsH M.pm x.P)
structure MIs (N : Nat) (M : MM) (x : PX) : Prop where
 bal : BIs N M.bm x.b
 len : M.pm.length = x.P.length
 po : ∀ (i : Nat) (mi : PM) (si : PS), M.pm[i]? = some mi → x.P[i]? = some si → PIs mi si
 oq : Own M.ob x.P.length M.oc 1 (M.pm.flatMap (fun q => [ptrP q.p])) M.otl
 sO : Own M.so x.S.length M.sc 9 (x.S.flatMap encR) M.stl
 eO : OwnS M.eb M.ek x.E.length M.ec 5 M.epre (x.E.flatMap encX) M.etl
 ok : OkP x.pl
 seed : x.pl.seed < 4294967296
 vl : x.b.V.length = x.P.length
 now : x.now ≤ 18446744073709551614
theorem MIs.le {N N2 : Nat} {M : MM} {x : PX} (h : MIs N M x) (hN : N ≤ N2) : MIs N2 M x := ⟨h.bal.le hN, h.len, h.po, h.oq, h.sO, h.eO, h.ok, h.seed, h.vl, h.now⟩
def idS (n : Int) : List Ss → Int
 | [] => -1
 | s :: r => if s.num = n then 0 else if idS n r = -1 then -1 else idS n r + 1
theorem idS_hit {n : Int} {y : Ss} : ∀ {l : List Ss} {k : Nat}, (∀ v ∈ l.take k, v.num ≠ n) → l[k]? = some y → y.num = n → idS n l = (k : Int)
 | [], k, _, hx, _ => by simp at hx
 | s :: r, 0, _, hx, hp => by simp at hx; subst hx; simp [idS, hp]
 | s :: r, k + 1, h, hx, hp => by
  have h1 : s.num ≠ n := h s (by simp)
  have ih := idS_hit (l := r) (k := k) (fun v hv => h v (by simp [hv])) (by simpa using hx) hp
  rw [idS, if_neg h1, ih, if_neg (by omega)]; omega
theorem idS_none {n : Int} : ∀ {l : List Ss}, (∀ v ∈ l, v.num ≠ n) → idS n l = -1
 | [], _ => rfl
 | s :: r, h => by rw [idS, if_neg (h s (by simp)), if_pos (idS_none fun v hv => h v (by simp [hv]))]
theorem idS_at {S A B : List Ss} {s : Ss} (hS : S = A ++ s :: B) (hn : (S.map (·.num)).Nodup) : idS s.num S = (A.length : Int) := by
 have h1 := num_split hS hn
 refine idS_hit (y := s) (fun v hv => ?_) ?_ rfl
 ·rw [hS, List.take_left'] at hv
  ·exact h1 v (List.mem_append_left _ hv)
  ·rfl
 ·rw [hS, List.getElem?_append_right (Nat.le_refl _), Nat.sub_self]; rfl
theorem idS_no {S : List Ss} {n : Int} (h : n ∉ S.map (·.num)) : idS n S = -1 := idS_none fun v hv e => h (by rw [← e]; exact List.mem_map_of_mem hv)
def setS (S : List Ss) (s : Ss) : List Ss := if s.num ∈ S.map (·.num) then updS S s.num fun _ => s else S ++ [s]
theorem setS_at {S A B : List Ss} {s s' : Ss} (hS : S = A ++ s :: B) (hn : (S.map (·.num)).Nodup) (h : s'.num = s.num) : setS S s' = A ++ s' :: B := by
 unfold setS
 rw [if_pos (by rw [h, hS]; exact List.mem_map_of_mem (List.mem_append_right _ (List.mem_cons_self ..))), h, updS_at hS hn]
theorem setS_new {S : List Ss} {s' : Ss} (h : s'.num ∉ S.map (·.num)) : setS S s' = S ++ [s'] := by unfold setS; rw [if_neg h]
structure RmW where
 k : Nat
 l : List Ss
 o : Option Nat
 c : Nat
 t : List Value
theorem filt_next {S : List Ss} {k : Nat} {y : Ss} (n : Int) (h : S[k]? = some y) : (S.take (k + 1)).filter (fun z => decide (z.num ≠ n)) = (S.take k).filter (fun z => decide (z.num ≠ n)) ++ (if y.num ≠ n then [y] else []) := by
 rw [take_next h, List.filter_append]
 by_cases e : y.num = n <;> simp [e]
section
section
variable {X : Ctx} {E : Env} {H : Heap} {o : Oper}
theorem R_sliceFromNil {t u : TypeId} {x y : Operand} {sz : Nat} {kk : IntKind} (ho : o.op = .slice t x (some y) none none) (hu : X.P.underlying t = some (.slice u)) (hs : ∀ w, (sizeOf u).run X.P w = .ok sz w)
    (hx : ev E x = some (.slice none 0 0)) (hy : ev E y = some (.int kk 0)) : Runs X o E H (.slice none 0 0) :=
  ⟨(by rw [ho]; intro c e; cases e), fun a w ha _ => by
    simp [execOp, ho, ha.eval hx, ha.eval hy, Instr.sliceAt, Instr.slice, Instr.sliceBounds, Instr.sliceBound, asIntOf, run_underlying hu, hs w]⟩
end
end
structure A9 where
 wt : Int
 n : Int
 now : Nat
 dl : Nat
 key : ByteArray
 good : Bool
abbrev encA9 (a : A9) : List Value := [.int .i64 a.wt, .int .i64 a.n, .int .u64 (a.now : Int), .int .u64 (a.dl : Int), .string a.key, .bool a.good]
def fewB (n : Nat) (T : List A9) (most : Nat) : Prop := (∀ a ∈ T.take most, a.key.size ≤ 100) ∧ T.length ≤ most ∧ (n ≤ 8 ∨ n = 65)
instance (n : Nat) (T : List A9) (most : Nat) : Decidable (fewB n T most) := by unfold fewB; infer_instance
theorem fewB_big {n y : Nat} {T : List A9} {most : Nat} {a : A9} (h : T[y]? = some a) (hy : (y : Int) < (most : Int)) (hk : 100 < (a.key.size : Int)) : ¬ fewB n T most := fun e => by
 have hm : a ∈ T.take most := List.mem_of_getElem? (i := y) (by rw [List.getElem?_take]; rw [if_pos (by omega)]; exact h)
 have := e.1 a hm
 omega
theorem fewB_end {n y : Nat} {T : List A9} {most : Nat} (h1 : y ≤ T.length) (h2 : y ≤ most) (h3 : ∀ a ∈ T.take y, a.key.size ≤ 100) (h4 : ¬ (y : Int) < (T.length : Int) ∨ ¬ (y : Int) < (most : Int)) : fewB n T most ↔ ((T.length : Int) ≤ (most : Int) ∧ ((n : Int) ≤ 8 ∨ (n : Int) = 65)) := by
 have h5 : ∀ a ∈ T.take most, a.key.size ≤ 100 := by
  rcases h4 with h4 | h4
  ·have : y = T.length := by omega
   subst this
   intro a ha
   rw [List.take_of_length_le (by omega)] at ha h3
   exact h3 a ha
  ·have : y = most := by omega
   subst this
   exact h3
 unfold fewB
 constructor
 ·rintro ⟨_, q1, q2⟩; omega
 ·rintro ⟨q1, q2⟩; exact ⟨h5, by omega, by omega⟩
theorem few_ok (k : Int) (oa : Option Addr) (n c : Nat) (limit : Int) (brk : Nat) (op idle : Int) (keep : Nat) (p : Plan) (hn : n ≤ 9223372036854775807) (T : List A9) (oa2 : Option Addr) (c2 : Nat) (en2 : Ent) (ha2 : Arg oa2 en2 6 encA9 T) (hT : T.length ≤ 9223372036854775807) (most : Nat) (hm : most ≤ 1000) :
  Spec Tryz.prog 7 [.agg (xsetL k oa n c limit brk op idle keep p).toArray, .slice oa2 T.length c2, .int .i64 (most : Int)] [en2] (fun r H' => r = .bool (decide (fewB n T most)) ∧ H' = [en2]) := by
 refine Spec.of (E := [(0, .agg (xsetL k oa n c limit brk op idle keep p).toArray), (1, .slice oa2 T.length c2), (2, .int .i64 (most : Int))]) Tryz.func7 rfl (by kernel_rfl) Tryz.ntmps7 rfl rfl (fun w => ?_)
 refine WCr (WLd Z (D_box (cs := [_, _, _, _, _, _, _, _, _, _, _, _, _, _]) Z Z Z) ?_)
 rintro _ _ ⟨b1, rfl, rfl⟩
 refine WLa Z (WL_nil (WQ_code (WC_seq (WCr (WLa Z (WL_nil (WQ_code (WC_block (WC_loopF (G := Nat) [6, 7, 8, 9, 10, 11, 12, 13, 14, 15, 16, 17, 18, 19, 20, 21, 22, 23, 24, 25] (fun y => y ≤ T.length ∧ y ≤ most ∧ ∀ a ∈ T.take y, a.key.size ≤ 100) (fun y => [(7, .int .i64 (y : Int))]) (fun y => []) (fun y => most - y) (0) (⟨Nat.zero_le _, Nat.zero_le _, by simp⟩) leZ pqZ ?_)))))))))
 rintro y ⟨hy1, hy2, hy3⟩
 refine WC_seq (WCr (WLa Z (WLa Z (WLv Z (R_len Z Tryz.underlying41 Z) ?_))))
 refine WLa Z (WLa Z ?_)
 refine WL_splitD (s := 12) Z (fun c1 => ?_) (fun c1 => ?_)
 ·refine WLa Z (WLa Z (WLa Z (WLa Z (WL_nil (WQ_code ?_)))))
  refine WC_dec Z (fun c2 => ?_) (fun c2 => ?_)
  ·refine WC_skip (WQ_code (WC_seq (WC_block (WCr ?_))))
   obtain ⟨a, hak⟩ := getE (T := T) (i := y) (by omega)
   obtain ⟨lb, lk, lcs, le, lfr, rfl, rfl, hat⟩ := ha2.some (by omega)
   refine WLa Z (WLa Z (WLv Z (R_indexAddr Z Tryz.underlying41 Tryz.sizeOf43 Z Z (by omega)) ?_))
   refine WLf Z fa43_4 (WLv Z (R_loadG (v := .string a.key) Z sc9 Z mmZ (hat y a hak 4 _ Z)) ?_)
   refine WLv Z (R_lenStr Z Tryz.underlying9 Z) ?_
   refine WLa Z (WL_nil (WQ_code ?_))
   refine WC_dec Z (fun c3 => ?_) (fun c3 => ?_)
   ·refine WCr (WLa Z (WL_nil (WQ_code (WC_ret ?_))))
    refine WQ1 Z (by
      refine ⟨congrArg Value.bool ?_, rfl⟩
      first | (rw [decide_eq_false (fewB_big hak (by omega) (by omega))]) | (have hE := fewB_end (n := n) hy1 hy2 hy3 (by omega); refine Bool.eq_iff_iff.2 ?_; refine Iff.trans ?_ decide_eq_true_iff.symm; refine Iff.trans ?_ hE.symm; clear hE hy3 ha2; grind)) pqZ
   ·refine WC_skip (WQ_code (WC_region (WLa Z (WLv Z (R_add Z Z Z (by omega)) ?_))))
    refine WLa Z (WL_nil ?_)
    refine WQ_nextF (y + 1) (⟨by omega, by omega, fun v hv => by rw [take_next hak] at hv; rcases List.mem_append.1 hv with hv | hv; exact hy3 v hv; rw [List.mem_singleton.1 hv]; omega⟩) (by omega) leZ (psZ) Z pqZ
  ·refine WC_exit (WQ_code (WCr (WLa Z (WLv Z (R_len Z Tryz.underlying41 Z) ?_))))
   refine WLa Z (WLa Z (WLa Z ?_))
   refine WL_splitD (s := 30) Z (fun c4 => ?_) (fun c4 => ?_)
   ·refine WLf Z fa30_1 (WLl Z sc23 mmZ Z (WLv Z (R_len Z Tryz.underlying23 Z) ?_))
    refine WLa Z (WLa Z ?_)
    refine WL_splitD (s := 35) Z (fun c5 => ?_) (fun c5 => ?_)
    ·refine WLa Z (WLa Z (WLa Z (WLa Z (WLa Z (WLa Z (WLa Z (WL_nil (WQ_code (WC_ret ?_)))))))))
     refine WQ1 Z (by
       refine ⟨congrArg Value.bool ?_, rfl⟩
       first | (rw [decide_eq_false (fewB_big hak (by omega) (by omega))]) | (have hE := fewB_end (n := n) hy1 hy2 hy3 (by omega); refine Bool.eq_iff_iff.2 ?_; refine Iff.trans ?_ decide_eq_true_iff.symm; refine Iff.trans ?_ hE.symm; clear hE hy3 ha2; grind)) pqZ
    ·refine WLf Z fa30_1 (WLl Z sc23 mmZ Z (WLv Z (R_len Z Tryz.underlying23 Z) ?_))
     refine WLa Z (WLa Z (WLa Z (WLa Z (WL_nil (WQ_code (WC_ret ?_))))))
     refine WQ1 Z (by
       refine ⟨congrArg Value.bool ?_, rfl⟩
       first | (rw [decide_eq_false (fewB_big hak (by omega) (by omega))]) | (have hE := fewB_end (n := n) hy1 hy2 hy3 (by omega); refine Bool.eq_iff_iff.2 ?_; refine Iff.trans ?_ decide_eq_true_iff.symm; refine Iff.trans ?_ hE.symm; clear hE hy3 ha2; grind)) pqZ
   ·refine WLa Z (WLa Z (WLa Z (WLa Z (WLa Z (WLa Z (WLa Z (WLa Z (WLa Z (WLa Z (WLa Z (WLa Z (WL_nil (WQ_code (WC_ret ?_))))))))))))))
    refine WQ1 Z (by
      refine ⟨congrArg Value.bool ?_, rfl⟩
      first | (rw [decide_eq_false (fewB_big hak (by omega) (by omega))]) | (have hE := fewB_end (n := n) hy1 hy2 hy3 (by omega); refine Bool.eq_iff_iff.2 ?_; refine Iff.trans ?_ decide_eq_true_iff.symm; refine Iff.trans ?_ hE.symm; clear hE hy3 ha2; grind)) pqZ
 ·refine WLa Z (WLa Z (WLa Z (WLa Z (WL_nil (WQ_code (WC_F Z (WC_exit (WQ_code (WCr (WLa Z (WLv Z (R_len Z Tryz.underlying41 Z) ?_)))))))))))
  refine WLa Z (WLa Z (WLa Z ?_))
  refine WL_splitD (s := 30) Z (fun c6 => ?_) (fun c6 => ?_)
  ·refine WLf Z fa30_1 (WLl Z sc23 mmZ Z (WLv Z (R_len Z Tryz.underlying23 Z) ?_))
   refine WLa Z (WLa Z ?_)
   refine WL_splitD (s := 35) Z (fun c7 => ?_) (fun c7 => ?_)
   ·refine WLa Z (WLa Z (WLa Z (WLa Z (WLa Z (WLa Z (WLa Z (WL_nil (WQ_code (WC_ret ?_)))))))))
    refine WQ1 Z (by
      refine ⟨congrArg Value.bool ?_, rfl⟩
      first | (rw [decide_eq_false (fewB_big hak (by omega) (by omega))]) | (have hE := fewB_end (n := n) hy1 hy2 hy3 (by omega); refine Bool.eq_iff_iff.2 ?_; refine Iff.trans ?_ decide_eq_true_iff.symm; refine Iff.trans ?_ hE.symm; clear hE hy3 ha2; grind)) pqZ
   ·refine WLf Z fa30_1 (WLl Z sc23 mmZ Z (WLv Z (R_len Z Tryz.underlying23 Z) ?_))
    refine WLa Z (WLa Z (WLa Z (WLa Z (WL_nil (WQ_code (WC_ret ?_))))))
    refine WQ1 Z (by
      refine ⟨congrArg Value.bool ?_, rfl⟩
      first | (rw [decide_eq_false (fewB_big hak (by omega) (by omega))]) | (have hE := fewB_end (n := n) hy1 hy2 hy3 (by omega); refine Bool.eq_iff_iff.2 ?_; refine Iff.trans ?_ decide_eq_true_iff.symm; refine Iff.trans ?_ hE.symm; clear hE hy3 ha2; grind)) pqZ
  ·refine WLa Z (WLa Z (WLa Z (WLa Z (WLa Z (WLa Z (WLa Z (WLa Z (WLa Z (WLa Z (WLa Z (WLa Z (WL_nil (WQ_code (WC_ret ?_))))))))))))))
   refine WQ1 Z (by
     refine ⟨congrArg Value.bool ?_, rfl⟩
     first | (rw [decide_eq_false (fewB_big hak (by omega) (by omega))]) | (have hE := fewB_end (n := n) hy1 hy2 hy3 (by omega); refine Bool.eq_iff_iff.2 ?_; refine Iff.trans ?_ decide_eq_true_iff.symm; refine Iff.trans ?_ hE.symm; clear hE hy3 ha2; grind)) pqZ
section
open Go.ChangeShapes Go.WideShapes Go.ChangeAt Go.RowKit Go.Joins Go.Deep
theorem decI {H : Type} {enc : TypeId × Value → H} {W : World} {sp : Nat → Bool} {held : Bool} (m : Nat) (cs : List Value) (y : DataW H × List MemPlace) (h : DataW.trod enc Tryz.prog W 0 sp held m 3 cs = some y) : ∃ x : Int, cs = encI x ∧ True := by
 obtain ⟨n, rfl, _, w⟩ := DataW.trod_int Tryz.underlying3 h
 exact ⟨n, rfl, trivial⟩
theorem decS {H : Type} {enc : TypeId × Value → H} {W : World} {sp : Nat → Bool} {held : Bool} (m : Nat) (cs : List Value) (y : DataW H × List MemPlace) (h : DataW.trod enc Tryz.prog W 0 sp held m 30 cs = some y) :
  ∃ (x0 : Int) (oa1 : Option Addr) (en1 : Ent) (l1 : List Int) (c1 : Nat) (x2 : Int) (x3 : Int) (x4 : Int) (x5 : Int) (x6 : Int) (x7 : Int) (x8 : Int) (x9 : Int) (x10 : Int) (x11 : Int) (x12 : Int) (x13 : Int), cs = [.int .i64 x0, .slice oa1 l1.length c1, .int .i64 x2, .int .u64 x3, .int .i64 x4, .int .i64 x5, .int .u64 x6, .int .u64 x7, .int .u64 x8, .int .i64 x9, .int .i64 x10, .int .i64 x11, .int .i64 x12, .int .u32 x13] ∧ (Lit.int .i64 x0).wf = true ∧ (Lit.int .i64 x2).wf = true ∧ (Lit.int .u64 x3).wf = true ∧ (Lit.int .i64 x4).wf = true ∧ (Lit.int .i64 x5).wf = true ∧ (Lit.int .u64 x6).wf = true ∧ (Lit.int .u64 x7).wf = true ∧ (Lit.int .u64 x8).wf = true ∧ (Lit.int .i64 x9).wf = true ∧ (Lit.int .i64 x10).wf = true ∧ (Lit.int .i64 x11).wf = true ∧ (Lit.int .i64 x12).wf = true ∧ (Lit.int .u32 x13).wf = true ∧ Arg oa1 en1 1 encI l1 ∧ en1.ok W ∧ l1.length ≤ maxLen ∧ (∀ y ∈ l1, (fun _ => True) y) ∧ True := by
 have hl : cs.length = 14 := (trod_len Tryz.underlying30 h).trans (by kernel_rfl)
 have s3 : Tryz.prog.cellsOf 3 = 1 := by kernel_rfl
 have s22 : Tryz.prog.cellsOf 22 = 1 := by kernel_rfl
 have s23 : Tryz.prog.cellsOf 23 = 1 := by kernel_rfl
 have s25 : Tryz.prog.cellsOf 25 = 1 := by kernel_rfl
 have s26 : Tryz.prog.cellsOf 26 = 1 := by kernel_rfl
 have s28 : Tryz.prog.cellsOf 28 = 7 := by kernel_rfl
 obtain ⟨ng0, yg0, g0⟩ := trod_fld Tryz.underlying30 h (i := 0) rfl
 obtain ⟨x0, e0, _, w0⟩ := DataW.trod_int Tryz.underlying22 g0
 have e0 : (cs.drop 0).take (Tryz.prog.cellsOf 22) = [.int .i64 x0] := e0
 simp only [s22] at e0
 have k0 : cs.drop 0 = .int .i64 x0 :: cs.drop 1 := drop_cons e0
 obtain ⟨ng1, yg1, g1⟩ := trod_fld Tryz.underlying30 h (i := 1) rfl
 obtain ⟨oa1, en1, l1, c1, e1, ha1, ho1, hb1, hg1⟩ := open_argT (enc' := encI) (G := fun _ => True) (sz := 1) Tryz.underlying23 (by kernel_rfl) (by omega) (fun m cs y h => decI m cs y h) g1
 have e1 : (cs.drop 1).take (Tryz.prog.cellsOf 23) = [.slice oa1 l1.length c1] := e1
 simp only [s23] at e1
 have k1 : cs.drop 1 = .slice oa1 l1.length c1 :: cs.drop 2 := drop_cons e1
 obtain ⟨ng2, yg2, g2⟩ := trod_fld Tryz.underlying30 h (i := 2) rfl
 obtain ⟨x2, e2, _, w2⟩ := DataW.trod_int Tryz.underlying3 g2
 have e2 : (cs.drop 2).take (Tryz.prog.cellsOf 3) = [.int .i64 x2] := e2
 simp only [s3] at e2
 have k2 : cs.drop 2 = .int .i64 x2 :: cs.drop 3 := drop_cons e2
 obtain ⟨ng3, yg3, g3⟩ := trod_fld Tryz.underlying30 h (i := 3) rfl
 obtain ⟨x3, e3, _, w3⟩ := DataW.trod_int Tryz.underlying25 g3
 have e3 : (cs.drop 3).take (Tryz.prog.cellsOf 25) = [.int .u64 x3] := e3
 simp only [s25] at e3
 have k3 : cs.drop 3 = .int .u64 x3 :: cs.drop 4 := drop_cons e3
 obtain ⟨ng4, yg4, g4⟩ := trod_fld Tryz.underlying30 h (i := 4) rfl
 obtain ⟨x4, e4, _, w4⟩ := DataW.trod_int Tryz.underlying3 g4
 have e4 : (cs.drop 4).take (Tryz.prog.cellsOf 3) = [.int .i64 x4] := e4
 simp only [s3] at e4
 have k4 : cs.drop 4 = .int .i64 x4 :: cs.drop 5 := drop_cons e4
 obtain ⟨ng5, yg5, g5⟩ := trod_fld Tryz.underlying30 h (i := 5) rfl
 obtain ⟨x5, e5, _, w5⟩ := DataW.trod_int Tryz.underlying3 g5
 have e5 : (cs.drop 5).take (Tryz.prog.cellsOf 3) = [.int .i64 x5] := e5
 simp only [s3] at e5
 have k5 : cs.drop 5 = .int .i64 x5 :: cs.drop 6 := drop_cons e5
 obtain ⟨ng6, yg6, g6⟩ := trod_fld Tryz.underlying30 h (i := 6) rfl
 obtain ⟨x6, e6, _, w6⟩ := DataW.trod_int Tryz.underlying25 g6
 have e6 : (cs.drop 6).take (Tryz.prog.cellsOf 25) = [.int .u64 x6] := e6
 simp only [s25] at e6
 have k6 : cs.drop 6 = .int .u64 x6 :: cs.drop 7 := drop_cons e6
 obtain ⟨ng7, yg7, g7⟩ := trod_fld Tryz.underlying30 h (i := 7) rfl
 obtain ⟨ng7_0, yg7_0, g7_0⟩ := trod_fld Tryz.underlying28 g7 (i := 0) rfl
 obtain ⟨x7, e7, _, w7⟩ := DataW.trod_int Tryz.underlying25 g7_0
 have e7 : (((cs.drop 7).take (Tryz.prog.cellsOf 28)).drop 0).take (Tryz.prog.cellsOf 25) = [.int .u64 x7] := e7
 simp only [s25, s28] at e7
 rw [sub_at cs 7 7 0 1 (by decide)] at e7
 have k7 : cs.drop 7 = .int .u64 x7 :: cs.drop 8 := drop_cons e7
 obtain ⟨ng7_1, yg7_1, g7_1⟩ := trod_fld Tryz.underlying28 g7 (i := 1) rfl
 obtain ⟨x8, e8, _, w8⟩ := DataW.trod_int Tryz.underlying25 g7_1
 have e8 : (((cs.drop 7).take (Tryz.prog.cellsOf 28)).drop 1).take (Tryz.prog.cellsOf 25) = [.int .u64 x8] := e8
 simp only [s25, s28] at e8
 rw [sub_at cs 7 7 1 1 (by decide)] at e8
 have k8 : cs.drop 8 = .int .u64 x8 :: cs.drop 9 := drop_cons e8
 obtain ⟨ng7_2, yg7_2, g7_2⟩ := trod_fld Tryz.underlying28 g7 (i := 2) rfl
 obtain ⟨x9, e9, _, w9⟩ := DataW.trod_int Tryz.underlying3 g7_2
 have e9 : (((cs.drop 7).take (Tryz.prog.cellsOf 28)).drop 2).take (Tryz.prog.cellsOf 3) = [.int .i64 x9] := e9
 simp only [s3, s28] at e9
 rw [sub_at cs 7 7 2 1 (by decide)] at e9
 have k9 : cs.drop 9 = .int .i64 x9 :: cs.drop 10 := drop_cons e9
 obtain ⟨ng7_3, yg7_3, g7_3⟩ := trod_fld Tryz.underlying28 g7 (i := 3) rfl
 obtain ⟨x10, e10, _, w10⟩ := DataW.trod_int Tryz.underlying3 g7_3
 have e10 : (((cs.drop 7).take (Tryz.prog.cellsOf 28)).drop 3).take (Tryz.prog.cellsOf 3) = [.int .i64 x10] := e10
 simp only [s3, s28] at e10
 rw [sub_at cs 7 7 3 1 (by decide)] at e10
 have k10 : cs.drop 10 = .int .i64 x10 :: cs.drop 11 := drop_cons e10
 obtain ⟨ng7_4, yg7_4, g7_4⟩ := trod_fld Tryz.underlying28 g7 (i := 4) rfl
 obtain ⟨x11, e11, _, w11⟩ := DataW.trod_int Tryz.underlying3 g7_4
 have e11 : (((cs.drop 7).take (Tryz.prog.cellsOf 28)).drop 4).take (Tryz.prog.cellsOf 3) = [.int .i64 x11] := e11
 simp only [s3, s28] at e11
 rw [sub_at cs 7 7 4 1 (by decide)] at e11
 have k11 : cs.drop 11 = .int .i64 x11 :: cs.drop 12 := drop_cons e11
 obtain ⟨ng7_5, yg7_5, g7_5⟩ := trod_fld Tryz.underlying28 g7 (i := 5) rfl
 obtain ⟨x12, e12, _, w12⟩ := DataW.trod_int Tryz.underlying3 g7_5
 have e12 : (((cs.drop 7).take (Tryz.prog.cellsOf 28)).drop 5).take (Tryz.prog.cellsOf 3) = [.int .i64 x12] := e12
 simp only [s3, s28] at e12
 rw [sub_at cs 7 7 5 1 (by decide)] at e12
 have k12 : cs.drop 12 = .int .i64 x12 :: cs.drop 13 := drop_cons e12
 obtain ⟨ng7_6, yg7_6, g7_6⟩ := trod_fld Tryz.underlying28 g7 (i := 6) rfl
 obtain ⟨x13, e13, _, w13⟩ := DataW.trod_int Tryz.underlying26 g7_6
 have e13 : (((cs.drop 7).take (Tryz.prog.cellsOf 28)).drop 6).take (Tryz.prog.cellsOf 26) = [.int .u32 x13] := e13
 simp only [s26, s28] at e13
 rw [sub_at cs 7 7 6 1 (by decide)] at e13
 have k13 : cs.drop 13 = .int .u32 x13 :: cs.drop 14 := drop_cons e13
 exact ⟨x0, oa1, en1, l1, c1, x2, x3, x4, x5, x6, x7, x8, x9, x10, x11, x12, x13, (List.drop_zero (l := cs)).symm.trans (k0.trans (congrArg (List.cons _) (k1.trans (congrArg (List.cons _) (k2.trans (congrArg (List.cons _) (k3.trans (congrArg (List.cons _) (k4.trans (congrArg (List.cons _) (k5.trans (congrArg (List.cons _) (k6.trans (congrArg (List.cons _) (k7.trans (congrArg (List.cons _) (k8.trans (congrArg (List.cons _) (k9.trans (congrArg (List.cons _) (k10.trans (congrArg (List.cons _) (k11.trans (congrArg (List.cons _) (k12.trans (congrArg (List.cons _) (k13.trans (congrArg (List.cons _) (List.drop_eq_nil_of_le (by omega)))))))))))))))))))))))))))))), w0, w2, w3, w4, w5, w6, w7, w8, w9, w10, w11, w12, w13, ha1, ho1, hb1, hg1, trivial⟩
end
section
open Go.ChangeShapes Go.WideShapes Go.ChangeAt Go.RowKit Go.Joins Go.Deep
theorem two_or {W : World} {e1 e2 : Ent} (h1 : e1.ok W) (h2 : e2.ok W) : HOK [e1, e2] W ∨ e1 = e2 := by
 have hall : ∀ x ∈ [e1, e2], x.ok W := fun x hx => by
  simp only [List.mem_cons, List.not_mem_nil, or_false] at hx
  rcases hx with rfl | rfl
  ·exact h1
  ·exact h2
 obtain ⟨b1, o1⟩ := e1
 obtain ⟨b2, o2⟩ := e2
 cases b1 with
 | none => exact .inl ⟨by cases b2 <;> simp [keys], hall⟩
 | some b1 =>
  cases b2 with
  | none => exact .inl ⟨by simp [keys], hall⟩
  | some b2 =>
   by_cases e : b1 = b2
   ·subst e
    have h3 : W.heap[b1]? = some o1 := h1
    have h4 : W.heap[b1]? = some o2 := h2
    rw [h3] at h4
    obtain rfl := Option.some.inj h4
    exact .inr rfl
   ·exact .inl ⟨by simp [keys, e], hall⟩
theorem decA9 {H : Type} {enc : TypeId × Value → H} {W : World} {sp : Nat → Bool} {held : Bool} (m : Nat) (cs : List Value) (y : DataW H × List MemPlace) (h : DataW.trod enc Tryz.prog W 0 sp held m 43 cs = some y) : ∃ x : A9, cs = encA9 x ∧ x.now ≤ 18446744073709551615 := by
 obtain ⟨wt, n, now9, dl9, key, good, rfl, _, _, wc, wd, _⟩ := decA m cs y h
 obtain ⟨now, rfl, hnow⟩ := wf_u64 wc
 obtain ⟨dl, rfl, hdl⟩ := wf_u64 wd
 exact ⟨⟨wt, n, now, dl, key, good⟩, rfl, hnow⟩
end
theorem mfind_ok (M : MM) (x : PX) (hO : Own M.so x.S.length M.sc 9 (x.S.flatMap encR) M.stl) (hl : x.S.length ≤ 1000) (n : Int) : Spec Tryz.prog 29 [ptrP M.p, .int .i64 n] [mdE M x, mdS M x] (fun r H' => r = .int .i64 (idS n x.S) ∧ H' = [mdE M x, mdS M x]) := by
 refine Spec.of (E := [(0, ptrP M.p), (1, .int .i64 n)]) Tryz.func29 rfl (by kernel_rfl) Tryz.ntmps29 rfl rfl (fun w => ?_)
 refine WCr (WLa Z (WL_nil (WQ_code (WC_seq (WCr (WLa Z (WL_nil (WQ_code (WC_block (WC_loopF (G := Nat) [4, 5, 6, 7, 8, 9, 10, 11, 12, 13, 14, 15, 16, 17, 18, 19, 20, 21, 22, 23, 24, 25] (fun k => k ≤ x.S.length ∧ ∀ v ∈ x.S.take k, v.num ≠ n) (fun k => [(5, .int .i64 (k : Int))]) (fun k => []) (fun k => x.S.length - k) (0) (⟨Nat.zero_le _, by simp⟩) leZ pqD ?_))))))))))
 rintro k ⟨hk, hz⟩
 refine WC_seq (WCr (WLa Z (WLa Z (WLa Z (WLf Z fa60_4 (WLl Z sc57 mmD Z (WLv Z (R_len Z Tryz.underlying57 Z) ?_)))))))
 refine WLa Z (WL_nil (WQ_code ?_))
 refine WC_dec Z (fun c1 => ?_) (fun c1 => ?_)
 ·refine WC_skip (WQ_code (WC_seq (WC_block (WCr (WLa Z (WLa Z (WLf Z fa60_4 ?_)))))))
  obtain ⟨y, hy⟩ := getE (T := x.S) (i := k) (by omega)
  obtain ⟨wa, hwa⟩ := hO.some_of (by omega)
  refine WLl Z sc57 mmD Z (WLa Z (WLv Z (R_idxO hwa Z Tryz.underlying57 Tryz.sizeOf84 Z Z (by omega)) ?_))
  refine WLf Z fa84_0 (WLv Z (R_loadO (v := .int .i64 y.num) hwa Z sc3 Z mmD (fm_get0 encR9 hy (j := 0) (by omega))) ?_)
  refine WLa Z (WLa Z (WL_nil (WQ_code ?_)))
  refine WC_dec Z (fun c2 => ?_) (fun c2 => ?_)
  ·have hc := c2
   refine WCr (WLa Z (WLa Z (WL_nil (WQ_code (WC_ret ?_)))))
   refine WQ1 Z (by
     exact ⟨congrArg (Value.int .i64) (idS_hit hz hy hc).symm, rfl⟩) pqD
  ·have hc := c2
   refine WC_skip (WQ_code (WC_region (WLa Z (WLv Z (R_add Z Z Z (by omega)) ?_))))
   refine WLa Z (WL_nil ?_)
   refine WQ_nextF (k + 1) (⟨by omega, fun v hv => by rw [take_next hy] at hv; rcases List.mem_append.1 hv with hv | hv; exact hz v hv; rw [List.mem_singleton.1 hv]; exact hc⟩) (by omega) leZ (psZ) Z pqD
 ·have hkl : x.S.length ≤ k := by omega
  refine WC_exit (WQ_code (WCr (WLa Z (WL_nil (WQ_code (WC_ret ?_))))))
  refine WQ1 Z (by
    exact ⟨congrArg (Value.int .i64) (idS_none (by rw [List.take_of_length_le hkl] at hz; exact hz)).symm, rfl⟩) pqD
theorem mset_at (M : MM) (x : PX) (hO : Own M.so x.S.length M.sc 9 (x.S.flatMap encR) M.stl) (hl : x.S.length ≤ 1000) (hn : (x.S.map (·.num)).Nodup) {A B : List Ss} {s s' : Ss} (hS : x.S = A ++ s :: B) (h : s'.num = s.num) : Spec Tryz.prog 145 [ptrP M.p, rsV s'] [mdE M x, mdS M x] (fun r H' => r = .tuple #[] ∧ H' = [mdE M { x with S := A ++ s' :: B }, mdS M { x with S := A ++ s' :: B }]) := by
 have hlS : x.S.length = (A ++ s' :: B).length := by rw [hS]; simp
 have hAl : A.length < x.S.length := by rw [hS]; simp
 have hat : x.S[A.length]? = some s := by rw [hS, List.getElem?_append_right (Nat.le_refl _), Nat.sub_self]; rfl
 have hset : x.S.set A.length s' = A ++ s' :: B := by rw [hS, List.set_append_right _ _ (Nat.le_refl _), Nat.sub_self]; rfl
 have hid : idS s'.num x.S = (A.length : Int) := by rw [h]; exact idS_at hS hn
 obtain ⟨wa, hwa⟩ := hO.some_of (by omega)
 refine Spec.of (E := [(0, ptrP M.p), (1, rsV s')]) Tryz.func145 rfl (by kernel_rfl) Tryz.ntmps145 rfl rfl (fun w => ?_)
 refine WCr (WLd Z (D_box (cs := [_, _, _, _, _, _, _, _, _]) Z Z Z) ?_)
 rintro _ _ ⟨b1, rfl, rfl⟩
 refine WL_nil (WQ_code (WCr (WLa Z (WLf Z fa84_0 (WLl Z sc3 mmD Z (WLq Z (mfind_ok M x hO hl s'.num) Z pqD ?_))))))
 rw [hid]
 refine WLa Z (WL_nil (WQ_code (WCr (WLa Z (WLa Z (WL_nil (WQ_code (WC_dT Z (by omega) ?_))))))))
 refine WC_drawR [mdS M x] [(0, true), (1, true), (2, true), (3, true), (4, true), (5, true), (6, true), (7, false)] followsMixed Z Z (by kernel_rfl) pqD ?_
 refine WMa Z (WMa Z (WMf Z fa60_4 (WMl Z sc57 mmD Z (WMa Z (WMv Z (R_loadA (vs := [_, _, _, _, _, _, _, _, _]) Z ag84 Z mmD Z atZ) ?_)))))
 refine WMv Z (R_idxO hwa Z Tryz.underlying57 Tryz.sizeOf84 Z Z (by omega)) ?_
 refine WM_do0 Z Z Z (D_storeO (vs := [_, _, _, _, _, _, _, _, _]) hwa Z Tryz.sizeOf84 Z Z Z Z Z plD (by exact fm_room0 encR9 hAl (j := 0) (by omega))) ?_
 rintro _ _ rfl
 refine ⟨⟨_, pqD⟩, ?_⟩
 have hput := fm_put0 encR9 s' hat (j := 0) (vs := encR s') (Nat.le_refl 9) rfl (tl := M.stl)
 rw [Nat.add_zero, hset] at hput
 rw [hput]
 refine WM_nil ?_
 rw [show mdE M x = mdE M { x with S := A ++ s' :: B } from by simp only [mdE, mdC, hlS]]
 refine WQ2 Z (by
   exact ⟨rfl, rfl⟩) pqD
theorem mset_new (M : MM) (x : PX) (hO : Own M.so x.S.length M.sc 9 (x.S.flatMap encR) M.stl) (hl : x.S.length ≤ 1000) {s' : Ss} (h : s'.num ∉ x.S.map (·.num)) : Spec Tryz.prog 145 [ptrP M.p, rsV s'] [mdE M x, mdS M x] (fun r H' => ∃ so sc stl, r = .tuple #[] ∧ H' = [mdE { M with so := so, sc := sc, stl := stl } { x with S := x.S ++ [s'] }, mdS { M with so := so, sc := sc, stl := stl } { x with S := x.S ++ [s'] }] ∧ Own so (x.S ++ [s']).length sc 9 ((x.S ++ [s']).flatMap encR) stl) := by
 have hid : idS s'.num x.S = -1 := idS_no h
 refine Spec.of (E := [(0, ptrP M.p), (1, rsV s')]) Tryz.func145 rfl (by kernel_rfl) Tryz.ntmps145 rfl rfl (fun w => ?_)
 refine WCr (WLd Z (D_box (cs := [_, _, _, _, _, _, _, _, _]) Z Z Z) ?_)
 rintro _ _ ⟨b1, rfl, rfl⟩
 refine WL_nil (WQ_code (WCr (WLa Z (WLf Z fa84_0 (WLl Z sc3 mmD Z (WLq Z (mfind_ok M x hO hl s'.num) Z pqD ?_))))))
 rw [hid]
 refine WLa Z (WL_nil (WQ_code (WCr (WLa Z (WLa Z (WL_nil (WQ_code (WC_dF Z (by omega) ?_))))))))
 refine WC_drawY (mdE M x :: [mdS M x]) [(M.p, 10, slV M.so x.S.length M.sc)] [10] [(0, false), (1, false), (2, false), (3, false), (4, true)] [(5, true), (6, false), (7, false), (8, true), (9, true), (10, false)] followsMixed Z Z (by kernel_rfl) pqD (.cons mmD Z .nil) ?_
 refine WYE_val Z Z Z Z (R_move Z Z) ?_
 refine WYE_val Z Z Z Z (R_move Z Z) ?_
 refine WYE_val Z Z Z Z (R_nilCheck Z Z) ?_
 refine WYE_val Z Z Z Z (R_fieldAddr Z fa60_4 Z) ?_
 refine WYE_early Z Z Z Z Z sc57 Z (by repeat (first | exact List.Mem.head _ | refine List.Mem.tail _ ?_)) ?_
 refine WYE_rest ?_
 refine WY_val Z Z Z Z (R_loadA (vs := [_, _, _, _, _, _, _, _, _]) Z ag84 Z mmD Z atZ) ?_
 refine WY_do Z Z Z Z (D_buildSlice Z si57 Z Z Z) ?_
 rintro _ _ ⟨b2, rfl, rfl⟩
 refine ⟨⟨_, pqD⟩, .inr (.cons mmD rfl .nil), ?_⟩
 refine WY_do Z Z Z Z (D_append Z si57 Z (hO) plD Z mmD ((atZ : At _ 0 [_, _, _, _, _, _, _, _, _])) (Z) (Z) (by omega) (by omega)) ?_
 rintro _ _ ⟨ob3, cap3, tl3, rfl, own3, rfl⟩
 refine ⟨⟨_, pqD⟩, .inr (.cons mmD rfl .nil), ?_⟩
 rw [show x.S.flatMap encR ++ encR s' = (x.S ++ [s']).flatMap encR from by simp, show x.S.length + 1 = (x.S ++ [s']).length from by simp] at own3 ⊢
 refine WY_val Z Z Z Z (R_nilCheck Z Z) ?_
 refine WY_val Z Z Z Z (R_fieldAddr Z fa60_4 Z) ?_
 refine WY_do0 Z Z Z (D_store (vs := [_]) Z Tryz.sizeOf57 Z Z Z Z Z plD (nb Z)) ?_
 rintro _ _ rfl
 refine ⟨⟨_, pqD⟩, .inl rfl, ?_⟩
 refine WY_nil ?_
 refine WQ2 Z (by
   exact ⟨ob3, cap3, tl3, rfl, rfl, own3⟩) pqD
theorem mrem_ok (M : MM) (x : PX) (hO : Own M.so x.S.length M.sc 9 (x.S.flatMap encR) M.stl) (hl : x.S.length ≤ 1000) (n : Int) : Spec Tryz.prog 101 [ptrP M.p, .int .i64 n] [mdE M x, mdS M x] (fun r H' => ∃ so sc stl, r = .tuple #[] ∧ H' = [mdE { M with so := so, sc := sc, stl := stl } { x with S := x.S.filter fun y => decide (y.num ≠ n) }, mdS { M with so := so, sc := sc, stl := stl } { x with S := x.S.filter fun y => decide (y.num ≠ n) }] ∧ Own so (x.S.filter fun y => decide (y.num ≠ n)).length sc 9 ((x.S.filter fun y => decide (y.num ≠ n)).flatMap encR) stl) := by
 refine Spec.of (E := [(0, ptrP M.p), (1, .int .i64 n)]) Tryz.func101 rfl (by kernel_rfl) Tryz.ntmps101 rfl rfl (fun w => ?_)
 refine WCr (WLa Z (WL_nil (WQ_code (WC_seq (WCr (WLa Z (WL_nil (WQ_code (WC_block (WC_none 84 ?_))))))))))
 refine WC_loopF (G := RmW) [4, 5, 6, 7, 8, 9, 10, 11, 12, 13, 14, 15, 16, 17, 18, 19, 20, 21, 22, 23, 24, 25, 26, 27, 28, 29, 30, 31, 32, 33, 34] (fun z => z.k ≤ x.S.length ∧ z.l = (x.S.take z.k).filter (fun y => decide (y.num ≠ n)) ∧ z.l.length ≤ z.k ∧ Own z.o z.l.length z.c 9 (z.l.flatMap encR) z.t) (fun z => [(5, .int .i64 (z.k : Int)), (4, slV z.o z.l.length z.c)]) (fun z => [⟨z.o, cl (z.l.flatMap encR ++ z.t) 84⟩]) (fun z => x.S.length - z.k) (⟨0, [], none, 0, []⟩) (⟨Nat.zero_le _, Z, Nat.le_refl _, Own.empty 9⟩) leZ pqD ?_
 rintro z ⟨hk, hzl, hzn, hzo⟩
 refine WC_seq (WCr (WLa Z (WLa Z (WLa Z (WLf Z fa60_4 (WLl Z sc57 mmD Z (WLv Z (R_len Z Tryz.underlying57 Z) ?_)))))))
 refine WLa Z (WL_nil (WQ_code ?_))
 refine WC_dec Z (fun c1 => ?_) (fun c1 => ?_)
 ·refine WC_skip (WQ_code (WC_seq (WC_block (WCr (WLa Z (WLa Z (WLf Z fa60_4 ?_)))))))
  obtain ⟨y, hy⟩ := getE (T := x.S) (i := z.k) (by omega)
  obtain ⟨wa, hwa⟩ := hO.some_of (by omega)
  refine WLl Z sc57 mmD Z (WLa Z (WLv Z (R_idxO hwa Z Tryz.underlying57 Tryz.sizeOf84 Z Z (by omega)) ?_))
  refine WLf Z fa84_0 (WLv Z (R_loadO (v := .int .i64 y.num) hwa Z sc3 Z mmD (fm_get0 encR9 hy (j := 0) (by omega))) ?_)
  refine WLa Z (WLa Z (WL_nil (WQ_code ?_)))
  refine WC_dec Z (fun c2 => ?_) (fun c2 => ?_)
  ·have hc := c2
   refine WC_region (WLa Z (WLa Z (WLa Z (WLf Z fa60_4 (WLl Z sc57 mmD Z (WLa Z (WLv Z (R_idxO hwa Z Tryz.underlying57 Tryz.sizeOf84 Z Z (by omega)) ?_)))))))
   refine WLv Z (R_loadAO (vs := encR y) hwa Z ag84 Z mmD Z (fm_at0 encR9 hy (j := 0) (vs := encR y) (fun j v h => by rw [Nat.zero_add]; exact h) (Nat.le_refl 9))) ?_
   refine WLd Z (D_buildSlice Z si57 Z Z Z) ?_
   rintro _ _ ⟨b1, rfl, rfl⟩
   refine WLd Z (D_append Z si57 Z (hzo) plD Z mmD ((atZ : At _ 0 [_, _, _, _, _, _, _, _, _])) (Z) (Z) (by omega) (by omega)) ?_
   rintro _ _ ⟨ob2, cap2, tl2, rfl, own2, rfl⟩
   rw [show z.l.flatMap encR ++ encR y = (z.l ++ [y]).flatMap encR from by simp, show z.l.length + 1 = (z.l ++ [y]).length from by simp] at own2 ⊢
   refine WLa Z (WL_nil (WQ_code (WC_region (WLa Z (WLv Z (R_add Z Z Z (by omega)) ?_)))))
   refine WLa Z (WL_nil ?_)
   refine WQ_nextF (⟨z.k + 1, z.l ++ [y], ob2, cap2, tl2⟩) (⟨by dsimp only; omega, by dsimp only; rw [filt_next n hy, if_pos hc, ← hzl], by dsimp only; rw [List.length_append, List.length_singleton]; omega, own2⟩) (by dsimp only; omega) leZ (psZ) Z pqD
  ·have hc := c2
   refine WC_skip (WQ_code (WC_region (WLa Z (WLv Z (R_add Z Z Z (by omega)) ?_))))
   refine WLa Z (WL_nil ?_)
   refine WQ_nextF (⟨z.k + 1, z.l, z.o, z.c, z.t⟩) (⟨by dsimp only; omega, by dsimp only; rw [filt_next n hy, if_neg hc, List.append_nil]; exact hzl, by dsimp only; omega, hzo⟩) (by dsimp only; omega) leZ (psZ) Z pqD
 ·have hkl : x.S.length ≤ z.k := by omega
  refine WC_exit (WQ_code (WC_region (WLa Z (WLa Z (WLa Z (WLf Z fa60_4 (WLs (vs := [_]) Z Tryz.sizeOf57 Z Z plD (nb Z) ?_)))))))
  refine WL_nil ?_
  rw [List.take_of_length_le hkl] at hzl
  rw [hzl] at hzo ⊢
  refine WQ2 Z (by
    exact ⟨z.o, z.c, z.t, rfl, rfl, hzo⟩) pqD
theorem mtell_ok (M : MM) (x : PX) (hO : OwnS M.eb M.ek x.E.length M.ec 5 M.epre (x.E.flatMap encX) M.etl) (hE : x.E.length ≤ 1000000) (k s b c e : Int) : Spec Tryz.prog 146 [ptrP M.p, .int .i64 k, .int .i64 s, .int .i64 b, .int .i64 c, .int .i64 e] [mdE M x, mdV M x] (fun r H' => ∃ eb ek ec epre etl, r = .tuple #[] ∧ H' = [mdE { M with eb := eb, ek := ek, ec := ec, epre := epre, etl := etl } (x.tell ⟨k, s, b, c, e⟩), mdV { M with eb := eb, ek := ek, ec := ec, epre := epre, etl := etl } (x.tell ⟨k, s, b, c, e⟩)] ∧ OwnS eb ek (x.tell ⟨k, s, b, c, e⟩).E.length ec 5 epre ((x.tell ⟨k, s, b, c, e⟩).E.flatMap encX) etl) := by
 refine Spec.of (E := [(0, ptrP M.p), (1, .int .i64 k), (2, .int .i64 s), (3, .int .i64 b), (4, .int .i64 c), (5, .int .i64 e)]) Tryz.func146 rfl (by kernel_rfl) Tryz.ntmps146 rfl rfl (fun w => ?_)
 refine WC_region (WLa Z (WLa Z (WLa Z (WLf Z fa60_5 (WLl Z sc58 mmD Z (WLa Z (WLa Z (WLa Z (WLa Z (WLa Z (WLv Z (R_build Z zv63 pl63 Z Z) ?_)))))))))))
 refine WLd Z (D_buildSlice Z si58 Z Z Z) ?_
 rintro _ _ ⟨b1, rfl, rfl⟩
 refine WLd Z (D_appendS Z si58 Z hO plZ Z mmZ (atZ : At _ 0 [_, _, _, _, _]) Z Z (by decide) (by omega) (by omega)) ?_
 rintro _ _ ⟨obS, kS, cS, preS, tlS, rfl, ownS, rfl⟩
 refine WLa Z (WLf Z fa60_5 (WLs (vs := [_]) Z Tryz.sizeOf58 Z Z plD (nb Z) ?_))
 refine WL_nil ?_
 rw [show x.E.flatMap encX ++ [Value.int .i64 k, .int .i64 s, .int .i64 b, .int .i64 c, .int .i64 e] = (x.tell ⟨k, s, b, c, e⟩).E.flatMap encX from by simp [PX.tell], show x.E.length + 1 = (x.tell ⟨k, s, b, c, e⟩).E.length from by simp [PX.tell]] at ownS ⊢
 refine WQ2 Z (by
   exact ⟨obS, kS, cS, preS, tlS, rfl, rfl, ownS⟩) pqD
def PX.mset (x : PX) (s : Ss) : PX := { x with S := setS x.S s }
def PX.mrem (x : PX) (n : Int) : PX := { x with S := x.S.filter fun y => decide (y.num ≠ n) }
def gS (s : Ss) (c : Int) (a : Bool) : Ss := { s with cn := c, st := if a = true then 4 else 3 }
def PX.mget (x : PX) (s : Ss) (c : Int) (a : Bool) : PX := (x.mset (gS s c a)).tell ⟨if a = true then 1 else 2, s.num, s.be, c, 0⟩
def PX.mfail (x : PX) (n code : Int) : PX := (x.mrem n).tell ⟨3, n, -1, -1, code⟩
def PX.mfld (x : PX) (s : Ss) : PX := if x.failE s = 0 then x.mset (x.later s) else x.mfail s.num (x.failE s)
theorem mset_ok (M : MM) (x : PX) (hO : Own M.so x.S.length M.sc 9 (x.S.flatMap encR) M.stl) (hl : x.S.length ≤ 1000) (hn : (x.S.map (·.num)).Nodup) (s' : Ss) : Spec Tryz.prog 145 [ptrP M.p, rsV s'] [mdE M x, mdS M x] (fun r H' => ∃ so sc stl, r = .tuple #[] ∧ H' = [mdE { M with so := so, sc := sc, stl := stl } (x.mset s'), mdS { M with so := so, sc := sc, stl := stl } (x.mset s')] ∧ Own so (x.mset s').S.length sc 9 ((x.mset s').S.flatMap encR) stl) := by
 by_cases h : s'.num ∈ x.S.map (·.num)
 ·obtain ⟨s, hs, e⟩ := List.mem_map.1 h
  obtain ⟨A, B, hS⟩ := List.append_of_mem hs
  have hX : x.mset s' = { x with S := A ++ s' :: B } := by unfold PX.mset; rw [setS_at hS hn e.symm]
  refine (mset_at M x hO hl hn hS e.symm).mono ?_
  rintro r H' ⟨h1, h2⟩
  refine ⟨M.so, M.sc, M.stl, h1, by rw [hX]; exact h2, ?_⟩
  rw [hX]
  have hlen : (A ++ s' :: B).length = x.S.length := by rw [hS]; simp
  refine ⟨?_, ?_, ?_, hO.big, hO.nil⟩
  ·show ((A ++ s' :: B).flatMap encR).length = (A ++ s' :: B).length * 9
   exact fm_length encR9 _
  ·have := hO.cap
   rw [fm_length encR9] at this ⊢
   rw [hlen]; exact this
  ·show (A ++ s' :: B).length ≤ M.sc
   rw [hlen]; exact hO.le
 ·have hX : x.mset s' = { x with S := x.S ++ [s'] } := by unfold PX.mset; rw [setS_new h]
  refine (mset_new M x hO hl h).mono ?_
  rintro r H' ⟨so, sc, stl, h1, h2, h3⟩
  exact ⟨so, sc, stl, h1, by rw [hX]; exact h2, by rw [hX]; exact h3⟩
theorem mset3_ok (M : MM) (x : PX) (hO : Own M.so x.S.length M.sc 9 (x.S.flatMap encR) M.stl) (hl : x.S.length ≤ 1000) (hV : OwnS M.eb M.ek x.E.length M.ec 5 M.epre (x.E.flatMap encX) M.etl) (hE : x.E.length ≤ 1000000) (hn : (x.S.map (·.num)).Nodup) (s' : Ss) : Spec Tryz.prog 145 [ptrP M.p, rsV s'] [mdE M x, mdS M x, mdV M x] (fun r H' => ∃ so sc stl eb ek ec epre etl, r = .tuple #[] ∧ H' = [mdE { M with so := so, sc := sc, stl := stl, eb := eb, ek := ek, ec := ec, epre := epre, etl := etl } (x.mset s'), mdS { M with so := so, sc := sc, stl := stl, eb := eb, ek := ek, ec := ec, epre := epre, etl := etl } (x.mset s'), mdV { M with so := so, sc := sc, stl := stl, eb := eb, ek := ek, ec := ec, epre := epre, etl := etl } (x.mset s')] ∧ Own so (x.mset s').S.length sc 9 ((x.mset s').S.flatMap encR) stl ∧ OwnS eb ek (x.mset s').E.length ec 5 epre ((x.mset s').E.flatMap encX) etl) := by
 refine ((mset_ok M x hO hl hn s').fr [mdV M x]).mono ?_
 rintro r H' ⟨H1, ⟨so, sc, stl, h1, rfl, h3⟩, rfl⟩
 exact ⟨so, sc, stl, M.eb, M.ek, M.ec, M.epre, M.etl, h1, rfl, h3, hV⟩
theorem mgets_ok (M : MM) (x : PX) (hO : Own M.so x.S.length M.sc 9 (x.S.flatMap encR) M.stl) (hl : x.S.length ≤ 1000) (hV : OwnS M.eb M.ek x.E.length M.ec 5 M.epre (x.E.flatMap encX) M.etl) (hE : x.E.length ≤ 1000000) (hn : (x.S.map (·.num)).Nodup) (s : Ss) (c : Int) (a : Bool) : Spec Tryz.prog 98 [ptrP M.p, rsV s, .int .i64 c, .bool a] [mdE M x, mdS M x, mdV M x] (fun r H' => ∃ so sc stl eb ek ec epre etl, r = .tuple #[] ∧ H' = [mdE { M with so := so, sc := sc, stl := stl, eb := eb, ek := ek, ec := ec, epre := epre, etl := etl } (x.mget s c a), mdS { M with so := so, sc := sc, stl := stl, eb := eb, ek := ek, ec := ec, epre := epre, etl := etl } (x.mget s c a), mdV { M with so := so, sc := sc, stl := stl, eb := eb, ek := ek, ec := ec, epre := epre, etl := etl } (x.mget s c a)] ∧ Own so (x.mget s c a).S.length sc 9 ((x.mget s c a).S.flatMap encR) stl ∧ OwnS eb ek (x.mget s c a).E.length ec 5 epre ((x.mget s c a).E.flatMap encX) etl) := by
 refine Spec.of (E := [(0, ptrP M.p), (1, rsV s), (2, .int .i64 c), (3, .bool a)]) Tryz.func98 rfl (by kernel_rfl) Tryz.ntmps98 rfl rfl (fun w => ?_)
 refine WCr (WLd Z (D_box (cs := [_, _, _, _, _, _, _, _, _]) Z Z Z) ?_)
 rintro _ _ ⟨b1, rfl, rfl⟩
 refine WL_nil (WQ_code (WCr (WLa Z (WLf Z fa84_8 (WLs (vs := [_]) Z Tryz.sizeOf3 Z Z plD (nb Z) ?_)))))
 refine WL_nil (WQ_code (WCr (WLa Z (WL_nil (WQ_code (WCr (WLf Z fa84_5 (WLs (vs := [_]) Z Tryz.sizeOf49 Z Z plD (nb Z) ?_))))))))
 refine WL_nil (WQ_code (WC_seq (WCr (WLa Z (WL_nil (WQ_code ?_))))))
 refine WC_if Z (fun c1 => ?_) (fun c1 => ?_)
 ·have ha : a = true := c1
  subst ha
  refine WC_region (WLa Z (WLf Z fa84_5 (WLs (vs := [_]) Z Tryz.sizeOf49 Z Z plD (nb Z) ?_)))
  refine WL_nil (WQ_code (WCr (WLa Z (WLv Z (R_loadA (vs := [_, _, _, _, _, _, _, _, _]) Z ag84 Z mmD Z atZ) ?_))))
  refine WLc Z (mset_ok M x hO hl hn (gS s c true)) Z pqD ?_
  rintro _ _ ⟨_, ⟨so1, sc1, stl1, rfl, rfl, hO1⟩, rfl⟩
  refine WL_nil (WQ_code (WC_region (WLa Z (WLa Z (WLf Z fa84_0 (WLl Z sc3 mmD Z (WLf Z fa84_7 (WLl Z sc3 mmD Z (WLa Z (WLc Z (mtell_ok { M with so := so1, sc := sc1, stl := stl1 } (x.mset (gS s c true)) hV hE 1 s.num s.be c 0) Z pqD ?_))))))))))
  rintro _ _ ⟨_, ⟨eb1, ek1, ec1, epre1, etl1, rfl, rfl, hV1⟩, rfl⟩
  refine WL_nil ?_
  refine WQ2 Z (by
    exact ⟨so1, sc1, stl1, eb1, ek1, ec1, epre1, etl1, rfl, rfl, hO1, hV1⟩) pqD
 ·have ha : a = false := by simpa using c1
  subst ha
  refine WC_skip (WQ_code (WCr (WLa Z (WLv Z (R_loadA (vs := [_, _, _, _, _, _, _, _, _]) Z ag84 Z mmD Z atZ) ?_))))
  refine WLc Z (mset_ok M x hO hl hn (gS s c false)) Z pqD ?_
  rintro _ _ ⟨_, ⟨so1, sc1, stl1, rfl, rfl, hO1⟩, rfl⟩
  refine WL_nil (WQ_code (WC_region (WLa Z (WLa Z (WLf Z fa84_0 (WLl Z sc3 mmD Z (WLf Z fa84_7 (WLl Z sc3 mmD Z (WLa Z (WLc Z (mtell_ok { M with so := so1, sc := sc1, stl := stl1 } (x.mset (gS s c false)) hV hE 2 s.num s.be c 0) Z pqD ?_))))))))))
  rintro _ _ ⟨_, ⟨eb1, ek1, ec1, epre1, etl1, rfl, rfl, hV1⟩, rfl⟩
  refine WL_nil ?_
  refine WQ2 Z (by
    exact ⟨so1, sc1, stl1, eb1, ek1, ec1, epre1, etl1, rfl, rfl, hO1, hV1⟩) pqD
theorem mfails_ok (M : MM) (x : PX) (hO : Own M.so x.S.length M.sc 9 (x.S.flatMap encR) M.stl) (hl : x.S.length ≤ 1000) (hV : OwnS M.eb M.ek x.E.length M.ec 5 M.epre (x.E.flatMap encX) M.etl) (hE : x.E.length ≤ 1000000) (n code : Int) : Spec Tryz.prog 147 [ptrP M.p, .int .i64 n, .int .i64 code] [mdE M x, mdS M x, mdV M x] (fun r H' => ∃ so sc stl eb ek ec epre etl, r = .tuple #[] ∧ H' = [mdE { M with so := so, sc := sc, stl := stl, eb := eb, ek := ek, ec := ec, epre := epre, etl := etl } (x.mfail n code), mdS { M with so := so, sc := sc, stl := stl, eb := eb, ek := ek, ec := ec, epre := epre, etl := etl } (x.mfail n code), mdV { M with so := so, sc := sc, stl := stl, eb := eb, ek := ek, ec := ec, epre := epre, etl := etl } (x.mfail n code)] ∧ Own so (x.mfail n code).S.length sc 9 ((x.mfail n code).S.flatMap encR) stl ∧ OwnS eb ek (x.mfail n code).E.length ec 5 epre ((x.mfail n code).E.flatMap encX) etl) := by
 refine Spec.of (E := [(0, ptrP M.p), (1, .int .i64 n), (2, .int .i64 code)]) Tryz.func147 rfl (by kernel_rfl) Tryz.ntmps147 rfl rfl (fun w => ?_)
 refine WCr (WLa Z (WLa Z (WLc Z (mrem_ok M x hO hl n) Z pqD ?_)))
 rintro _ _ ⟨_, ⟨so1, sc1, stl1, rfl, rfl, hO1⟩, rfl⟩
 refine WL_nil (WQ_code (WC_region (WLa Z (WLa Z (WLa Z (WLc Z (mtell_ok { M with so := so1, sc := sc1, stl := stl1 } (x.mrem n) hV hE 3 n (-1) (-1) code) Z pqD ?_))))))
 rintro _ _ ⟨_, ⟨eb1, ek1, ec1, epre1, etl1, rfl, rfl, hV1⟩, rfl⟩
 refine WL_nil ?_
 refine WQ2 Z (by
   exact ⟨so1, sc1, stl1, eb1, ek1, ec1, epre1, etl1, rfl, rfl, hO1, hV1⟩) pqD
theorem mfailed_ok (M : MM) (x : PX) (hO : Own M.so x.S.length M.sc 9 (x.S.flatMap encR) M.stl) (hl : x.S.length ≤ 1000) (hV : OwnS M.eb M.ek x.E.length M.ec 5 M.epre (x.E.flatMap encX) M.etl) (hE : x.E.length ≤ 1000000) (hn : (x.S.map (·.num)).Nodup) (hp : OkP x.pl) (hsd : x.pl.seed < 4294967296) (hnw : x.now ≤ 18446744073709551614) (s : Ss) (ht : s.tr ≤ 1000) : Spec Tryz.prog 100 [ptrP M.p, rsV s] [mdE M x, mdS M x, mdV M x] (fun r H' => ∃ so sc stl eb ek ec epre etl, r = .tuple #[] ∧ H' = [mdE { M with so := so, sc := sc, stl := stl, eb := eb, ek := ek, ec := ec, epre := epre, etl := etl } (x.mfld s), mdS { M with so := so, sc := sc, stl := stl, eb := eb, ek := ek, ec := ec, epre := epre, etl := etl } (x.mfld s), mdV { M with so := so, sc := sc, stl := stl, eb := eb, ek := ek, ec := ec, epre := epre, etl := etl } (x.mfld s)] ∧ Own so (x.mfld s).S.length sc 9 ((x.mfld s).S.flatMap encR) stl ∧ OwnS eb ek (x.mfld s).E.length ec 5 epre ((x.mfld s).E.flatMap encX) etl) := by
 have htr : 1 ≤ x.pl.tries ∧ x.pl.tries ≤ 100 := by obtain ⟨q1, q2, q3, q4, q5, q6, q7, q8, q9, q10⟩ := hp; exact ⟨q7, q8⟩
 have hdl := delayN_le hp (s.tr + 1)
 by_cases h9 : x.pl.tries ≤ (s.tr : Int) + 1
 ·have hX : x.mfld s = x.mfail s.num 15 := by
   have : x.failE s = 15 := by unfold PX.failE; rw [if_pos h9]
   unfold PX.mfld; rw [this, if_neg (by decide)]
  rw [hX]
  refine Spec.of (E := [(0, ptrP M.p), (1, rsV s)]) Tryz.func100 rfl (by kernel_rfl) Tryz.ntmps100 rfl rfl (fun w => ?_)
  refine WCr (WLd Z (D_box (cs := [_, _, _, _, _, _, _, _, _]) Z Z Z) ?_)
  rintro _ _ ⟨b1, rfl, rfl⟩
  refine WL_nil (WQ_code (WC_seq (WC_draw _ [(0, true), (1, true), (2, true), (3, true), (4, true), (5, true), (6, true), (7, false), (8, true), (9, true), (10, true), (11, true), (12, true)] followsMixed Z Z (by kernel_rfl) .all ?_)))
  refine WMa Z (WMa Z (WMf Z fa60_2 (WMv Z (R_loadA (vs := [_, _, _, _, _, _, _]) Z ag28 Z mmD Z atZ) ?_)))
  refine WMf Z fa84_4 (WMl Z sc3 mmD Z (WMv Z (R_addR (r := ((s.tr + 1 : Nat) : Int)) Z Z Z (by rw [wrap64_in (by omega) (by omega)]; omega)) ?_))
  refine WMd Z (D_call (dly_out x.pl hp hsd ((s.tr + 1 : Nat) : Int) (.inr (by omega))) Z Z Z Z pqD) ?_
  rintro _ _ ⟨_, ⟨rfl, rfl⟩, rfl⟩
  refine ⟨⟨_, pqD⟩, ?_⟩
  refine WMa Z (WMa Z (WMa Z (WMa Z (WMa Z (WM_nil (WQ_code (WC_seq (WCr (WLa Z (WLa Z (WL_nil (WQ_code (WC_dT Z (by decide) ?_)))))))))))))
  refine WCr (WLa Z (WLf Z fa84_0 (WLl Z sc3 mmD Z (WLc Z (mfails_ok M x hO hl hV hE s.num 15) Z pqD ?_))))
  rintro _ _ ⟨_, ⟨so1, sc1, stl1, eb1, ek1, ec1, epre1, etl1, rfl, rfl, hO1, hV1⟩, rfl⟩
  refine WL_nil (WQ_code (WC_ret ?_))
  refine WQ2 Z (by
    exact ⟨so1, sc1, stl1, eb1, ek1, ec1, epre1, etl1, rfl, rfl, hO1, hV1⟩) pqD
 ·have hsat : x.fut s = if x.now + delayN x.pl (s.tr + 1) < 18446744073709551615 then x.now + delayN x.pl (s.tr + 1) else 18446744073709551615 := by
   unfold PX.fut satN
   by_cases e : x.now + delayN x.pl (s.tr + 1) < 18446744073709551615
   ·rw [if_pos e, Nat.min_eq_left (Nat.le_of_lt e)]
   ·rw [if_neg e, Nat.min_eq_right (Nat.not_lt.1 e)]
  by_cases h8 : s.dl ≤ x.fut s
  ·have hX : x.mfld s = x.mfail s.num 12 := by
    have : x.failE s = 12 := by unfold PX.failE; rw [if_neg h9, if_pos h8]
    unfold PX.mfld; rw [this, if_neg (by decide)]
   rw [hX]
   refine Spec.of (E := [(0, ptrP M.p), (1, rsV s)]) Tryz.func100 rfl (by kernel_rfl) Tryz.ntmps100 rfl rfl (fun w => ?_)
   refine WCr (WLd Z (D_box (cs := [_, _, _, _, _, _, _, _, _]) Z Z Z) ?_)
   rintro _ _ ⟨b1, rfl, rfl⟩
   refine WL_nil (WQ_code (WC_seq (WC_draw _ [(0, true), (1, true), (2, true), (3, true), (4, true), (5, true), (6, true), (7, false), (8, true), (9, true), (10, true), (11, true), (12, true)] followsMixed Z Z (by kernel_rfl) .all ?_)))
   refine WMa Z (WMa Z (WMf Z fa60_2 (WMv Z (R_loadA (vs := [_, _, _, _, _, _, _]) Z ag28 Z mmD Z atZ) ?_)))
   refine WMf Z fa84_4 (WMl Z sc3 mmD Z (WMv Z (R_addR (r := ((s.tr + 1 : Nat) : Int)) Z Z Z (by rw [wrap64_in (by omega) (by omega)]; omega)) ?_))
   refine WMd Z (D_call (dly_in x.pl hp hsd (s.tr + 1) (by omega)) Z Z Z Z pqD) ?_
   rintro _ _ ⟨_, ⟨rfl, rfl⟩, rfl⟩
   refine ⟨⟨_, pqD⟩, ?_⟩
   refine WMa Z (WMa Z (WMa Z (WMa Z (WMa Z (WM_nil (WQ_code (WC_seq (WCr (WLa Z (WLa Z (WL_nil (WQ_code (WC_dF Z (by decide) ?_)))))))))))))
   refine WC_skip (WQ_code (WCr (WLa Z (WL_nil (WQ_code (WC_seq (WCr (WLa Z (WLa Z (WLf Z fa60_3 (WLl Z sc25 mmD Z (WLv Z (R_subR (r := ((18446744073709551615 - x.now : Nat) : Int)) Z Z Z (by rw [w64 ⟨by omega, by omega⟩]; omega)) ?_))))))))))))
   refine WLa Z (WLa Z (WL_nil (WQ_code ?_)))
   refine WC_dec Z (fun c1 => ?_) (fun c1 => ?_)
   ·have hc := c1
    refine WC_region (WLa Z (WLa Z (WLf Z fa60_3 (WLl Z sc25 mmD Z (WLa Z (WLv Z (R_addR (r := ((x.fut s : Nat) : Int)) Z Z Z (by rw [hsat, if_pos (by omega), w64 ⟨by omega, by omega⟩]; omega)) ?_))))))
    refine WLa Z (WL_nil (WQ_code (WC_seq (WCr (WLa Z (WLf Z fa84_2 (WLl Z sc25 mmD Z (WLa Z (WL_nil (WQ_code (WC_dT Z (by omega) ?_)))))))))))
    refine WCr (WLa Z (WLf Z fa84_0 (WLl Z sc3 mmD Z (WLc Z (mfails_ok M x hO hl hV hE s.num 12) Z pqD ?_))))
    rintro _ _ ⟨_, ⟨so1, sc1, stl1, eb1, ek1, ec1, epre1, etl1, rfl, rfl, hO1, hV1⟩, rfl⟩
    refine WL_nil (WQ_code (WC_ret ?_))
    refine WQ2 Z (by
      exact ⟨so1, sc1, stl1, eb1, ek1, ec1, epre1, etl1, rfl, rfl, hO1, hV1⟩) pqD
   ·have hc := c1
    refine WC_set (s := 6) (v := .int .u64 (x.fut s : Int)) Z (by rw [hsat, if_neg (by omega)]; rfl) ?_
    refine WC_skip (WQ_code (WC_seq (WCr (WLa Z (WLf Z fa84_2 (WLl Z sc25 mmD Z (WLa Z (WL_nil (WQ_code (WC_dT Z (by omega) ?_))))))))))
    refine WCr (WLa Z (WLf Z fa84_0 (WLl Z sc3 mmD Z (WLc Z (mfails_ok M x hO hl hV hE s.num 12) Z pqD ?_))))
    rintro _ _ ⟨_, ⟨so1, sc1, stl1, eb1, ek1, ec1, epre1, etl1, rfl, rfl, hO1, hV1⟩, rfl⟩
    refine WL_nil (WQ_code (WC_ret ?_))
    refine WQ2 Z (by
      exact ⟨so1, sc1, stl1, eb1, ek1, ec1, epre1, etl1, rfl, rfl, hO1, hV1⟩) pqD
  ·have hX : x.mfld s = x.mset (x.later s) := by
    have : x.failE s = 0 := by unfold PX.failE; rw [if_neg h9, if_neg h8]
    unfold PX.mfld; rw [this, if_pos rfl]
   rw [hX]
   refine Spec.of (E := [(0, ptrP M.p), (1, rsV s)]) Tryz.func100 rfl (by kernel_rfl) Tryz.ntmps100 rfl rfl (fun w => ?_)
   refine WCr (WLd Z (D_box (cs := [_, _, _, _, _, _, _, _, _]) Z Z Z) ?_)
   rintro _ _ ⟨b1, rfl, rfl⟩
   refine WL_nil (WQ_code (WC_seq (WC_draw _ [(0, true), (1, true), (2, true), (3, true), (4, true), (5, true), (6, true), (7, false), (8, true), (9, true), (10, true), (11, true), (12, true)] followsMixed Z Z (by kernel_rfl) .all ?_)))
   refine WMa Z (WMa Z (WMf Z fa60_2 (WMv Z (R_loadA (vs := [_, _, _, _, _, _, _]) Z ag28 Z mmD Z atZ) ?_)))
   refine WMf Z fa84_4 (WMl Z sc3 mmD Z (WMv Z (R_addR (r := ((s.tr + 1 : Nat) : Int)) Z Z Z (by rw [wrap64_in (by omega) (by omega)]; omega)) ?_))
   refine WMd Z (D_call (dly_in x.pl hp hsd (s.tr + 1) (by omega)) Z Z Z Z pqD) ?_
   rintro _ _ ⟨_, ⟨rfl, rfl⟩, rfl⟩
   refine ⟨⟨_, pqD⟩, ?_⟩
   refine WMa Z (WMa Z (WMa Z (WMa Z (WMa Z (WM_nil (WQ_code (WC_seq (WCr (WLa Z (WLa Z (WL_nil (WQ_code (WC_dF Z (by decide) ?_)))))))))))))
   refine WC_skip (WQ_code (WCr (WLa Z (WL_nil (WQ_code (WC_seq (WCr (WLa Z (WLa Z (WLf Z fa60_3 (WLl Z sc25 mmD Z (WLv Z (R_subR (r := ((18446744073709551615 - x.now : Nat) : Int)) Z Z Z (by rw [w64 ⟨by omega, by omega⟩]; omega)) ?_))))))))))))
   refine WLa Z (WLa Z (WL_nil (WQ_code ?_)))
   refine WC_dec Z (fun c1 => ?_) (fun c1 => ?_)
   ·have hc := c1
    refine WC_region (WLa Z (WLa Z (WLf Z fa60_3 (WLl Z sc25 mmD Z (WLa Z (WLv Z (R_addR (r := ((x.fut s : Nat) : Int)) Z Z Z (by rw [hsat, if_pos (by omega), w64 ⟨by omega, by omega⟩]; omega)) ?_))))))
    refine WLa Z (WL_nil (WQ_code (WC_seq (WCr (WLa Z (WLf Z fa84_2 (WLl Z sc25 mmD Z (WLa Z (WL_nil (WQ_code (WC_dF Z (by omega) ?_)))))))))))
    refine WC_skip (WQ_code (WCr (WLa Z (WLf Z fa84_4 (WLl Z sc3 mmD Z (WLv Z (R_addR (r := ((s.tr + 1 : Nat) : Int)) Z Z Z (by rw [wrap64_in (by omega) (by omega)]; omega)) ?_))))))
    refine WLf Z fa84_5 (WLs (vs := [_]) Z Tryz.sizeOf49 Z Z plD (nb Z) ?_)
    refine WLf Z fa84_3 (WLs (vs := [_]) Z Tryz.sizeOf25 Z Z plD (nb Z) ?_)
    refine WLf Z fa84_4 (WLs (vs := [_]) Z Tryz.sizeOf3 Z Z plD (nb Z) ?_)
    refine WLf Z fa84_7 (WLs (vs := [_]) Z Tryz.sizeOf3 Z Z plD (nb Z) ?_)
    refine WLf Z fa84_8 (WLs (vs := [_]) Z Tryz.sizeOf3 Z Z plD (nb Z) ?_)
    refine WLf Z fa84_6 (WLs (vs := [_]) Z Tryz.sizeOf3 Z Z plD (nb Z) ?_)
    refine WL_nil (WQ_code (WC_region (WLa Z (WLv Z (R_loadA (vs := [_, _, _, _, _, _, _, _, _]) Z ag84 Z mmD Z atZ) ?_))))
    refine WLc Z (mset3_ok M x hO hl hV hE hn (x.later s)) Z pqD ?_
    rintro _ _ ⟨_, ⟨so1, sc1, stl1, eb1, ek1, ec1, epre1, etl1, rfl, rfl, hO1, hV1⟩, rfl⟩
    refine WL_nil ?_
    refine WQ2 Z (by
      exact ⟨so1, sc1, stl1, eb1, ek1, ec1, epre1, etl1, rfl, rfl, hO1, hV1⟩) pqD
   ·have hc := c1
    refine WC_set (s := 6) (v := .int .u64 (x.fut s : Int)) Z (by rw [hsat, if_neg (by omega)]; rfl) ?_
    refine WC_skip (WQ_code (WC_seq (WCr (WLa Z (WLf Z fa84_2 (WLl Z sc25 mmD Z (WLa Z (WL_nil (WQ_code (WC_dF Z (by omega) ?_))))))))))
    refine WC_skip (WQ_code (WCr (WLa Z (WLf Z fa84_4 (WLl Z sc3 mmD Z (WLv Z (R_addR (r := ((s.tr + 1 : Nat) : Int)) Z Z Z (by rw [wrap64_in (by omega) (by omega)]; omega)) ?_))))))
    refine WLf Z fa84_5 (WLs (vs := [_]) Z Tryz.sizeOf49 Z Z plD (nb Z) ?_)
    refine WLf Z fa84_3 (WLs (vs := [_]) Z Tryz.sizeOf25 Z Z plD (nb Z) ?_)
    refine WLf Z fa84_4 (WLs (vs := [_]) Z Tryz.sizeOf3 Z Z plD (nb Z) ?_)
    refine WLf Z fa84_7 (WLs (vs := [_]) Z Tryz.sizeOf3 Z Z plD (nb Z) ?_)
    refine WLf Z fa84_8 (WLs (vs := [_]) Z Tryz.sizeOf3 Z Z plD (nb Z) ?_)
    refine WLf Z fa84_6 (WLs (vs := [_]) Z Tryz.sizeOf3 Z Z plD (nb Z) ?_)
    refine WL_nil (WQ_code (WC_region (WLa Z (WLv Z (R_loadA (vs := [_, _, _, _, _, _, _, _, _]) Z ag84 Z mmD Z atZ) ?_))))
    refine WLc Z (mset3_ok M x hO hl hV hE hn (x.later s)) Z pqD ?_
    rintro _ _ ⟨_, ⟨so1, sc1, stl1, eb1, ek1, ec1, epre1, etl1, rfl, rfl, hO1, hV1⟩, rfl⟩
    refine WL_nil ?_
    refine WQ2 Z (by
      exact ⟨so1, sc1, stl1, eb1, ek1, ec1, epre1, etl1, rfl, rfl, hO1, hV1⟩) pqD
def PX.matt (x : PX) (s : Ss) : PX :=
 if x.b.cand x.now = [] then x.mfld s
 else match x.P[x.pk s]? with
  | some si => { x.attX s si with S := setS x.S (x.attS s si) }
  | none => { x with S := setS x.S s }
theorem MIs.s3 {N : Nat} {M : MM} {x x2 : PX} (h : MIs N M x) {so : Option Nat} {sc : Nat} {stl : List Value} {eb : Option Nat} {ek ec : Nat} {epre etl : List Value} (hb : x2.b = x.b) (hP : x2.P = x.P) (hpl : x2.pl = x.pl) (hn : x2.now = x.now)
  (hO : Own so x2.S.length sc 9 (x2.S.flatMap encR) stl) (hV : OwnS eb ek x2.E.length ec 5 epre (x2.E.flatMap encX) etl) : MIs N { M with so := so, sc := sc, stl := stl, eb := eb, ek := ek, ec := ec, epre := epre, etl := etl } x2 :=
 ⟨by rw [hb]; exact h.bal, by rw [hP]; exact h.len, by rw [hP]; exact h.po, by rw [hP]; exact h.oq, hO, hV, by rw [hpl]; exact h.ok, by rw [hpl]; exact h.seed, by rw [hb, hP]; exact h.vl, by rw [hn]; exact h.now⟩
theorem mfld_f (x : PX) (s : Ss) : (x.mfld s).b = x.b ∧ (x.mfld s).P = x.P ∧ (x.mfld s).pl = x.pl ∧ (x.mfld s).now = x.now := by
 unfold PX.mfld
 split
 ·exact ⟨rfl, rfl, rfl, rfl⟩
 ·exact ⟨rfl, rfl, rfl, rfl⟩
theorem MIs.att0 {N : Nat} {M : MM} {x : PX} (h : MIs N M x) {s : Ss} {si : PS} {mi m' : PM} {bm1 : Bm} (hmi : M.pm[x.pk s]? = some mi) (hp : m'.p = mi.p) (hb : BIs (N + 1) bm1 (x.b.pick s.key x.now)) (hi : PIs m' (si.getS s.num x.now s.dl)) : MIs (N + 1) { M with bm := bm1, pm := M.pm.set (x.pk s) m' } (x.att0 s si) where
 bal := hb
 len := by show (M.pm.set _ _).length = (x.P.set _ _).length; rw [List.length_set, List.length_set]; exact h.len
 po := fun j a b h1 h2 => by
  have h1 : (M.pm.set (x.pk s) m')[j]? = some a := h1
  have h2 : (x.P.set (x.pk s) (si.getS s.num x.now s.dl))[j]? = some b := h2
  by_cases e : x.pk s = j
  ·subst e
   have hl := (List.getElem?_eq_some_iff.1 hmi).1
   rw [List.getElem?_set_self hl] at h1
   rw [List.getElem?_set_self (by rw [← h.len]; exact hl)] at h2
   rw [← Option.some.inj h1, ← Option.some.inj h2]; exact hi
  ·rw [List.getElem?_set_ne e] at h1 h2
   exact h.po j a b h1 h2
 oq := by
  show Own M.ob (x.P.set _ _).length M.oc 1 ((M.pm.set (x.pk s) m').flatMap (fun q => [ptrP q.p])) M.otl
  rw [List.length_set, pms_set hmi hp]; exact h.oq
 sO := h.sO
 eO := h.eO
 ok := h.ok
 seed := h.seed
 vl := by
  show ((pickS x.b.k (un x.b.V) x.now (x.b.cand x.now) (x.b.pickI s.key x.now).toNat).map vw).length = (x.P.set _ _).length
  rw [List.length_map, pickS_len, un_len, List.length_set]; exact h.vl
 now := h.now
theorem mpk_at {N : Nat} {M : MM} {x : PX} (h : MIs N M x) (s : Ss) (hne : x.b.cand x.now ≠ []) : x.b.pickI s.key x.now = (x.pk s : Int) ∧ ∃ mi si, M.pm[x.pk s]? = some mi ∧ x.P[x.pk s]? = some si := by
 obtain ⟨i, z, h1, h2, _⟩ := cand_mem (pickI_mem x.b.k (un x.b.V) x.b.nx s.key hne)
 have h1 : x.b.pickI s.key x.now = (i : Int) := h1
 have hl := (List.getElem?_eq_some_iff.1 h2).1
 rw [un_len] at hl
 have e : x.pk s = i := by unfold PX.pk; rw [h1]; rfl
 obtain ⟨mi, hmi⟩ := getE (T := M.pm) (i := i) (by rw [h.len, ← h.vl]; exact hl)
 obtain ⟨si, hsi⟩ := getE (T := x.P) (i := i) (by rw [← h.vl]; exact hl)
 rw [e]; exact ⟨h1, mi, si, hmi, hsi⟩
theorem md_ent {M : MM} {x : PX} {s : Ss} {si : PS} {mi m1 : PM} {b1 : Bm} (hmi : M.pm[x.pk s]? = some mi) (hp : m1.p = mi.p) (hb : b1.p = M.bm.p) : ([mdE M x, mdQ M] : Heap).Perm [mdE { M with bm := b1, pm := M.pm.set (x.pk s) m1 } (x.att0 s si), mdQ { M with bm := b1, pm := M.pm.set (x.pk s) m1 }] := by
 simp only [mdE, mdC, mdQ, PX.att0, List.length_set, pms_set hmi hp, hb]
 exact List.Perm.refl _
theorem matt_no {N : Nat} {M : MM} {x : PX} (h : MIs N M x) (hN : N ≤ 9000) (hE : x.E.length ≤ 1000000) (hl : x.S.length ≤ 1000) (hn : (x.S.map (·.num)).Nodup) (s : Ss) (hk : s.key.size ≤ 64) (ht : s.tr ≤ 1000) (hbl : x.b.last ≤ x.now) (hne : x.b.cand x.now = []) :
  Spec Tryz.prog 97 [ptrP M.p, rsV s] (mdH M x) (fun r H' => ∃ M', r = .tuple #[] ∧ H' = mdH M' (x.matt s) ∧ MIs (N + 1) M' (x.matt s) ∧ M'.p = M.p) := by
 have hnw := h.now
 have hX : x.matt s = x.mfld s := by unfold PX.matt; rw [if_pos hne]
 obtain ⟨f1, f2, f3, f4⟩ := mfld_f x s
 rw [hX]
 refine Spec.of (E := [(0, ptrP M.p), (1, rsV s)]) Tryz.func97 rfl (by kernel_rfl) Tryz.ntmps97 rfl rfl (fun w => ?_)
 refine WCr (WLd Z (D_box (cs := [_, _, _, _, _, _, _, _, _]) Z Z Z) ?_)
 rintro _ _ ⟨b1, rfl, rfl⟩
 refine WL_nil (WQ_code (WC_seq (WC_drawBR (balH M.bm) [(0, .q), (1, .q), (2, .q), (3, .q), (4, .q), (5, .q), (6, .q), (7, .q), (8, .q), (9, .q), (10, .n [14]), (11, .q), (12, .q), (13, .q), (14, .b []), (15, .n []), (16, .q)] followsMixed Z Z (by kernel_rfl) pqD ?_)))
 refine WB_val Z Z Z Z (R_move Z Z) ?_
 refine WB_val Z Z Z Z (R_nilCheck Z Z) ?_
 refine WB_val Z Z Z Z (R_fieldAddr Z fa60_0 Z) ?_
 refine WB_val Z Z Z Z (R_load Z sc55 Z mmD Z) ?_
 refine WB_val Z Z Z Z (R_move Z Z) ?_
 refine WB_val Z Z Z Z (R_nilCheck Z Z) ?_
 refine WB_val Z Z Z Z (R_fieldAddr Z fa60_3 Z) ?_
 refine WB_val Z Z Z Z (R_load Z sc25 Z mmD Z) ?_
 refine WB_val Z Z Z Z (R_fieldAddr Z fa84_1 Z) ?_
 refine WB_val Z Z Z Z (R_load Z sc9 Z mmD Z) ?_
 refine WB_do Z Z Z Z (.cons Z Z (B_alloc Z zv138) .nil) (fun _ => D_call (bpn_ok h.bal hN x.now s.key hk hbl hnw hne) Z Z Z Z pqD) ?_
 rintro _ _ ⟨_, ⟨rfl, rfl⟩, rfl⟩
 refine ⟨⟨_, pqD⟩, ?_⟩
 refine WB_val Z Z Z Z (R_move Z Z) ?_
 refine WB_val Z Z Z Z (R_extract Z Z Z) ?_
 refine WB_val Z Z Z Z (R_extract Z Z Z) ?_
 refine WB_birth Z Z Z Z .nil (B_alloc Z zv138) (fun b2 => ?_)
 refine WB_do0 Z Z Z .nil (fun _ => D_store (vs := [_, _]) Z Tryz.sizeOf138 Z Z Z Z Z plD (nb Z)) ?_
 rintro _ _ rfl
 refine ⟨⟨_, pqD⟩, ?_⟩
 refine WB_val Z Z Z Z (R_assign Z Z) ?_
 refine WB_nil (WQ_code (WC_seq (WC_seq (WC_draw _ [(0, true), (1, true), (2, true), (3, true), (4, true), (5, true), (6, true), (7, true), (8, true), (9, true), (10, true), (11, true), (12, true), (13, true), (14, true), (15, true), (16, true)] followsMixed Z Z (by kernel_rfl) .all ?_))))
 refine WMa Z (WMa Z (WMa Z (WM_set (s := 24) (v := .bool true) Z (by simp) ?_)))
 refine WMa Z (WMa Z (WMa Z (WMa Z (WMa Z (WMa Z (WMa Z (WMa Z (WMa Z (WMa Z (WMa Z (WMa Z (WMa Z (WMa Z (WM_nil (WQ_code (WC_T Z (WCr (WLa Z (WLv Z (R_loadA (vs := [_, _, _, _, _, _, _, _, _]) Z ag84 Z mmD Z atZ) ?_)))))))))))))))))))
 refine WLc Z (mfailed_ok M x h.sO hl h.eO hE hn h.ok h.seed hnw s ht) Z pqD ?_
 rintro _ _ ⟨_, ⟨so1, sc1, stl1, eb1, ek1, ec1, epre1, etl1, rfl, rfl, hO1, hV1⟩, rfl⟩
 refine WL_nil (WQ_code (WC_ret ?_))
 refine WQ2 Z (by
   exact ⟨{ M with so := so1, sc := sc1, stl := stl1, eb := eb1, ek := ek1, ec := ec1, epre := epre1, etl := etl1 }, rfl, by unfold mdH; rw [f2], (h.s3 f1 f2 f3 f4 hO1 hV1).le (Nat.le_succ N), rfl⟩) pqD
theorem matt_yes {N : Nat} {M : MM} {x : PX} (h : MIs N M x) (hN : N ≤ 9000) (hE : x.E.length ≤ 1000000) (hl : x.S.length ≤ 1000) (hn : (x.S.map (·.num)).Nodup) (s : Ss) (hk : s.key.size ≤ 64) (hbl : x.b.last ≤ x.now) (hne : x.b.cand x.now ≠ []) {mi : PM} {si : PS} (hmi : M.pm[x.pk s]? = some mi) (hsi : x.P[x.pk s]? = some si) (hpi : x.b.pickI s.key x.now = (x.pk s : Int)) (hiE : si.E.length ≤ 10000) (hin : si.n < 1000000000000) (hge : getE_ si s.num x.now s.dl = 0) :
  Spec Tryz.prog 97 [ptrP M.p, rsV s] (mdH M x) (fun r H' => ∃ M', r = .tuple #[] ∧ H' = mdH M' (x.matt s) ∧ MIs (N + 1) M' (x.matt s) ∧ M'.p = M.p) := by
 have hnw := h.now
 have hpl := h.oq.len
 have hil := (List.getElem?_eq_some_iff.1 hsi).1
 obtain ⟨wq, hwq⟩ := h.oq.some_of (by omega)
 have hk3 : (x.pv s si).k = 1 ∨ (x.pv s si).k = 2 ∨ (x.pv s si).k = 3 := getV_k hge
 have hX : x.matt s = { x.attX s si with S := setS x.S (x.attS s si) } := by unfold PX.matt; rw [if_neg hne, hsi]
 rw [hX]
 refine Spec.of (E := [(0, ptrP M.p), (1, rsV s)]) Tryz.func97 rfl (by kernel_rfl) Tryz.ntmps97 rfl rfl (fun w => ?_)
 refine WCr (WLd Z (D_box (cs := [_, _, _, _, _, _, _, _, _]) Z Z Z) ?_)
 rintro _ _ ⟨b1, rfl, rfl⟩
 refine WL_nil (WQ_code (WC_seq (WC_drawBR (balH M.bm) [(0, .q), (1, .q), (2, .q), (3, .q), (4, .q), (5, .q), (6, .q), (7, .q), (8, .q), (9, .q), (10, .n [14]), (11, .q), (12, .q), (13, .q), (14, .b []), (15, .n []), (16, .q)] followsMixed Z Z (by kernel_rfl) pqD ?_)))
 refine WB_val Z Z Z Z (R_move Z Z) ?_
 refine WB_val Z Z Z Z (R_nilCheck Z Z) ?_
 refine WB_val Z Z Z Z (R_fieldAddr Z fa60_0 Z) ?_
 refine WB_val Z Z Z Z (R_load Z sc55 Z mmD Z) ?_
 refine WB_val Z Z Z Z (R_move Z Z) ?_
 refine WB_val Z Z Z Z (R_nilCheck Z Z) ?_
 refine WB_val Z Z Z Z (R_fieldAddr Z fa60_3 Z) ?_
 refine WB_val Z Z Z Z (R_load Z sc25 Z mmD Z) ?_
 refine WB_val Z Z Z Z (R_fieldAddr Z fa84_1 Z) ?_
 refine WB_val Z Z Z Z (R_load Z sc9 Z mmD Z) ?_
 refine WB_do Z Z Z Z (.cons Z Z (B_alloc Z zv138) .nil) (fun _ => D_call (bp_ok h.bal hN x.now s.key hk hbl hnw hne) Z Z Z Z pqD) ?_
 rintro _ _ ⟨_, ⟨bm1, rfl, rfl, hbp, hb1⟩, rfl⟩
 refine ⟨⟨_, pqD⟩, ?_⟩
 refine WB_val Z Z Z Z (R_move Z Z) ?_
 refine WB_val Z Z Z Z (R_extract Z Z Z) ?_
 refine WB_val Z Z Z Z (R_extract Z Z Z) ?_
 refine WB_birth Z Z Z Z .nil (B_alloc Z zv138) (fun b2 => ?_)
 refine WB_do0 Z Z Z .nil (fun _ => D_store (vs := [_, _]) Z Tryz.sizeOf138 Z Z Z Z Z plD (nb Z)) ?_
 rintro _ _ rfl
 refine ⟨⟨_, pqD⟩, ?_⟩
 refine WB_val Z Z Z Z (R_assign Z Z) ?_
 refine WB_nil (WQ_code (WC_seq (WC_seq (WC_draw _ [(0, true), (1, true), (2, true), (3, true), (4, true), (5, true), (6, true), (7, true), (8, true), (9, true), (10, true), (11, true), (12, true), (13, true), (14, true), (15, true), (16, true)] followsMixed Z Z (by kernel_rfl) .all ?_))))
 refine WMa Z (WMa Z (WMa Z (WM_set (s := 24) (v := .bool false) Z (by simp) ?_)))
 refine WMf Z fa138_0 (WMl Z sc3 mmD Z (WMa Z (WMa Z (WMa Z (WM_set (s := 29) (v := .bool false) Z (by rw [hpi]; exact congrArg Value.bool (decide_eq_false (by omega))) ?_)))))
 refine WMf Z fa138_0 (WMl Z sc3 mmD Z (WMa Z (WMa Z (WMf Z fa60_1 (WMl Z sc56 mmD Z (WMv Z (R_len Z Tryz.underlying56 Z) ?_))))))
 refine WMa Z (WMa Z (WM_nil (WQ_code (WC_dF Z (by rw [hpi]; omega) ?_))))
 refine WC_skip (WQ_code (WC_seq (WC_drawR [⟨some b1, _⟩] [(0, true), (1, true), (2, true), (3, true), (4, true), (5, false), (6, true), (7, false), (8, true), (9, false)] followsMixed Z Z (by kernel_rfl) pqD ?_)))
 refine WMf Z fa138_0 (WMl Z sc3 mmD Z (WM_set (s := 43) (v := .int .i64 (x.pk s : Int)) Z (by rw [hpi]) ?_))
 refine WMf Z fa138_1 (WMl Z sc3 mmD Z (WMf Z fa84_7 (WM_do0 Z Z Z (D_store (vs := [_]) Z Tryz.sizeOf3 Z Z Z Z Z plD (nb Z)) ?_)))
 rintro _ _ rfl
 refine ⟨⟨_, pqD⟩, ?_⟩
 refine WMf Z fa84_6 (WM_do0 Z Z Z (D_store (vs := [_]) Z Tryz.sizeOf3 Z Z Z Z Z plD (nb Z)) ?_)
 rintro _ _ rfl
 refine ⟨⟨_, pqD⟩, ?_⟩
 refine WMf Z fa84_8 (WM_do0 Z Z Z (D_store (vs := [_]) Z Tryz.sizeOf3 Z Z Z Z Z plD (nb Z)) ?_)
 rintro _ _ rfl
 refine ⟨⟨_, pqD⟩, ?_⟩
 refine WM_nil (WQ_code (WC_seq (WC_drawBR (poolsH M.pm x.P) [(0, .q), (1, .q), (2, .q), (3, .q), (4, .q), (5, .q), (6, .q), (7, .q), (8, .q), (9, .q), (10, .q), (11, .q), (12, .q), (13, .q), (14, .q), (15, .q), (16, .n [20]), (17, .q), (18, .q), (19, .q), (20, .b []), (21, .n []), (22, .q)] followsMixed Z Z (by kernel_rfl) pqD ?_)))
 refine WB_val Z Z Z Z (R_move Z Z) ?_
 refine WB_val Z Z Z Z (R_nilCheck Z Z) ?_
 refine WB_val Z Z Z Z (R_fieldAddr Z fa60_1 Z) ?_
 refine WB_val Z Z Z Z (R_load Z sc56 Z mmD Z) ?_
 refine WB_val Z Z Z Z (R_fieldAddr Z fa138_0 Z) ?_
 refine WB_val Z Z Z Z (R_load Z sc3 Z mmD Z) ?_
 refine WB_set (s := 55) (v := .int .i64 (x.pk s : Int)) Z (by rw [hpi]) ?_
 refine WB_val Z Z Z Z (R_idxO hwq Z Tryz.underlying56 Tryz.sizeOf79 Z Z (by omega)) ?_
 refine WB_val Z Z Z Z (R_loadO (v := ptrP mi.p) hwq Z sc79 Z mmD (fm_get0 encPq1 hmi (j := 0) (by omega))) ?_
 refine WB_val Z Z Z Z (R_fieldAddr Z fa84_0 Z) ?_
 refine WB_val Z Z Z Z (R_load Z sc3 Z mmD Z) ?_
 refine WB_val Z Z Z Z (R_move Z Z) ?_
 refine WB_val Z Z Z Z (R_nilCheck Z Z) ?_
 refine WB_val Z Z Z Z (R_fieldAddr Z fa60_3 Z) ?_
 refine WB_val Z Z Z Z (R_load Z sc25 Z mmD Z) ?_
 refine WB_val Z Z Z Z (R_fieldAddr Z fa84_2 Z) ?_
 refine WB_val Z Z Z Z (R_load Z sc25 Z mmD Z) ?_
 refine WB_do Z Z Z Z (.cons Z Z (B_alloc Z zv143) .nil) (fun _ => D_call (xp_get hmi hsi (h.po _ _ _ hmi hsi) hiE hin s.num x.now s.dl (by omega)) Z Z Z Z pqD) ?_
 rintro _ _ ⟨_, ⟨mi1, rfl, rfl, hmp, hmi1⟩, rfl⟩
 refine ⟨⟨_, pqD⟩, ?_⟩
 refine WB_val Z Z Z Z (R_move Z Z) ?_
 refine WB_val Z Z Z Z (R_extract Z Z Z) ?_
 refine WB_val Z Z Z Z (R_extract Z Z Z) ?_
 refine WB_birth Z Z Z Z .nil (B_alloc Z zv143) (fun b3 => ?_)
 refine WB_do0 Z Z Z .nil (fun _ => D_store (vs := [_, _, _]) Z Tryz.sizeOf143 Z Z Z Z Z plD (nb Z)) ?_
 rintro _ _ rfl
 refine ⟨⟨_, pqD⟩, ?_⟩
 refine WB_val Z Z Z Z (R_assign Z Z) ?_
 refine WB_nil (WQ_code (WC_seq (WCr (WLf Z fa143_0 (WL_shape (A := [mdE M x, mdQ M]) pqD (md_ent (s := s) (si := si) hmi hmp hbp) ?_)))))
 refine WLl Z sc141 mmD Z (WLa Z (WL_nil (WQ_code ?_)))
 refine WC_dec Z (fun c1 => ?_) (fun c1 => ?_)
 ·have hk9 : (x.pv s si).k = 3 := c1
  have hk1 : ¬ (x.pv s si).k = 1 := by omega
  have hk2 : ¬ (x.pv s si).k = 2 := by omega
  refine WCr (WLf Z fa84_5 (WLs (vs := [_]) Z Tryz.sizeOf49 Z Z plD (nb Z) ?_))
  refine WL_nil (WQ_code (WCr (WLa Z (WLv Z (R_loadA (vs := [_, _, _, _, _, _, _, _, _]) Z ag84 Z mmD Z atZ) ?_))))
  refine WLc Z (mset3_ok { M with bm := bm1, pm := M.pm.set (x.pk s) mi1 } (x.att0 s si) h.sO hl h.eO hE hn { { s with be := (x.pk s : Int), cal := ((x.b.gv + 1 : Nat) : Int), cn := -1 } with st := 2 }) Z pqD ?_
  rintro _ _ ⟨_, ⟨so1, sc1, stl1, eb1, ek1, ec1, epre1, etl1, rfl, rfl, hO1, hV1⟩, rfl⟩
  refine WL_nil (WQ_code (WC_ret ?_))
  rw [(attX_3 hk1 hk2).1, (attX_3 hk1 hk2).2]
  refine WQ2 Z (by
    exact ⟨{ M with bm := bm1, pm := M.pm.set (x.pk s) mi1, so := so1, sc := sc1, stl := stl1, eb := eb1, ek := ek1, ec := ec1, epre := epre1, etl := etl1 }, rfl, rfl, (h.att0 hmi hmp hb1 hmi1).s3 rfl rfl rfl rfl hO1 hV1, rfl⟩) pqD
 ·have hk9 : ¬ (x.pv s si).k = 3 := c1
  refine WC_skip (WQ_code (WC_region (WLa Z (WLv Z (R_loadA (vs := [_, _, _, _, _, _, _, _, _]) Z ag84 Z mmD Z atZ) ?_))))
  refine WLf Z fa143_2 (WLl Z sc3 mmD Z (WLf Z fa143_0 (WLl Z sc141 mmD Z (WLa Z (WLc Z (mgets_ok { M with bm := bm1, pm := M.pm.set (x.pk s) mi1 } (x.att0 s si) h.sO hl h.eO hE hn { s with be := (x.pk s : Int), cal := ((x.b.gv + 1 : Nat) : Int), cn := -1 } (x.pv s si).c (decide ((x.pv s si).k = 1))) Z pqD ?_)))))
  rintro _ _ ⟨_, ⟨so1, sc1, stl1, eb1, ek1, ec1, epre1, etl1, rfl, rfl, hO1, hV1⟩, rfl⟩
  refine WL_nil ?_
  have hX9 : ({ x.attX s si with S := setS x.S (x.attS s si) } : PX) = (x.att0 s si).mget { s with be := (x.pk s : Int), cal := ((x.b.gv + 1 : Nat) : Int), cn := -1 } (x.pv s si).c (decide ((x.pv s si).k = 1)) := by
   rcases hk3 with e | e | e
   ·rw [(attX_1 e).1, (attX_1 e).2, decide_eq_true e]; rfl
   ·have h1 : ¬ (x.pv s si).k = 1 := by omega
    rw [(attX_2 h1 e).1, (attX_2 h1 e).2, decide_eq_false h1]; rfl
   ·exact absurd e hk9
  rw [hX9]
  refine WQ2 Z (by
    exact ⟨{ M with bm := bm1, pm := M.pm.set (x.pk s) mi1, so := so1, sc := sc1, stl := stl1, eb := eb1, ek := ek1, ec := ec1, epre := epre1, etl := etl1 }, rfl, rfl, (h.att0 hmi hmp hb1 hmi1).s3 rfl rfl rfl rfl hO1 hV1, rfl⟩) pqD
theorem mdE_bm {M : MM} {x : PX} {bm1 : Bm} (hbp : bm1.p = M.bm.p) (b : BS) : mdE M x = mdE { M with bm := bm1 } { x with b := b } := by simp only [mdE, mdC, hbp]
theorem md_pm {M : MM} {x : PX} {i : Nat} {mi m1 : PM} {s' : PS} (hmi : M.pm[i]? = some mi) (hp : m1.p = mi.p) (now : Nat) : ([mdE M { x with now := now }, mdQ M] : Heap).Perm [mdE { M with pm := M.pm.set i m1 } { x with now := now, P := x.P.set i s' }, mdQ { M with pm := M.pm.set i m1 }] := by
 simp only [mdE, mdC, mdQ, List.length_set, pms_set hmi hp]
 exact List.Perm.refl _
theorem MIs.pool {N : Nat} {M : MM} {x : PX} (h : MIs N M x) {i : Nat} {mi m' : PM} {s' : PS} (hmi : M.pm[i]? = some mi) (hp : m'.p = mi.p) (hi : PIs m' s') : MIs N { M with pm := M.pm.set i m' } { x with P := x.P.set i s' } where
 bal := h.bal
 len := by show (M.pm.set _ _).length = (x.P.set _ _).length; rw [List.length_set, List.length_set]; exact h.len
 po := fun j a b h1 h2 => by
  have h1 : (M.pm.set i m')[j]? = some a := h1
  have h2 : (x.P.set i s')[j]? = some b := h2
  by_cases e : i = j
  ·subst e
   have hl := (List.getElem?_eq_some_iff.1 hmi).1
   rw [List.getElem?_set_self hl] at h1
   rw [List.getElem?_set_self (by rw [← h.len]; exact hl)] at h2
   rw [← Option.some.inj h1, ← Option.some.inj h2]; exact hi
  ·rw [List.getElem?_set_ne e] at h1 h2
   exact h.po j a b h1 h2
 oq := by
  show Own M.ob (x.P.set _ _).length M.oc 1 ((M.pm.set i m').flatMap (fun q => [ptrP q.p])) M.otl
  rw [List.length_set, pms_set hmi hp]; exact h.oq
 sO := h.sO
 eO := h.eO
 ok := h.ok
 seed := h.seed
 vl := by show x.b.V.length = (x.P.set _ _).length; rw [List.length_set]; exact h.vl
 now := h.now
theorem MIs.done {N : Nat} {M : MM} {x : PX} (h : MIs N M x) {bm1 : Bm} {n : Int} {good : Bool} {now : Nat} (hI : BIs (N + 1) bm1 (x.b.doneX now n good)) : MIs (N + 1) { M with bm := bm1 } { x with b := x.b.doneX now n good } :=
 ⟨hI, h.len, h.po, h.oq, h.sO, h.eO, h.ok, h.seed, by show (x.b.doneX _ _ _).V.length = _; rw [doneX_len]; exact h.vl, h.now⟩
theorem MIs.at_ {N : Nat} {M : MM} {x : PX} (h : MIs N M x) {now : Nat} (hn : now ≤ 18446744073709551614) : MIs N M { x with now := now } := ⟨h.bal, h.len, h.po, h.oq, h.sO, h.eO, h.ok, h.seed, h.vl, hn⟩
theorem mpool_at {N : Nat} {M : MM} {x : PX} (h : MIs N M x) {i : Nat} {si : PS} (hi : x.P[i]? = some si) : ∃ mi, M.pm[i]? = some mi := getE (by rw [h.len]; exact (List.getElem?_eq_some_iff.1 hi).1)
theorem xp_nextH {ms : List PM} {ss : List PS} {i : Nat} {mi : PM} {si : PS} (h1 : ms[i]? = some mi) (h2 : ss[i]? = some si) (h : PIs mi si) : Spec Tryz.prog 66 [ptrP mi.p] (poolsH ms ss) (fun v H' => ∃ m', v = .tuple #[pvV (hdP si.E), .bool (!si.E.isEmpty)] ∧ H' = poolsH (ms.set i m') (ss.set i si.nx) ∧ m'.p = mi.p ∧ PIs m' si.nx) := by
 refine (xp_next h1 h2 h).mono ?_
 rintro v H' ⟨m', hv, e2, e3, e4⟩
 refine ⟨m', ?_, e2, e3, e4⟩
 rcases hv with ⟨e, rfl⟩ | ⟨q, r, e, rfl⟩
 ·rw [e]; rfl
 ·rw [e]; rfl
theorem drE_num {Q : Int → Prop} {x : PX} {i : Nat} {si : PS} {e : Pv} {r : List Pv} (h : PXG x) (hi : x.P[i]? = some si) (hE : si.E = e :: r) (hq : ∀ s ∈ x.S, Q s.num) : ∀ s ∈ ((x.nxP i si).drE i e).S, Q s.num := by
 obtain ⟨hk, g2⟩ := drE_ok h hi hE
 rcases hk with hk | ⟨hk, A, s9, B, hS, hw, hst9, _⟩
 ·rw [drE_5 hk]; exact hq
 ·rw [hS] at hq
  have h9 : Q s9.num := hq s9 (List.mem_append_right _ (List.mem_cons_self ..))
  rcases hk with hk | hk | hk
  ·rw [drE_1 (x := x.nxP i si) h.nd hS hw.symm hk]
   exact mem_swap (p := fun s => Q s.num) hq _ h9
  ·rw [drE_2 (x := x.nxP i si) h.nd hS hw.symm hk]
   exact mem_swap (p := fun s => Q s.num) hq _ h9
  ·rw [drE_4 (x := x.nxP i si) h.nd hS hw.symm hk]
   exact mem_drop (p := fun s => Q s.num) hq
structure DrM where
 k : Nat
 M : MM
 x : PX
 N : Nat
theorem m_tri {i : Nat} {x : PX} {e : Pv} (h : e.k = 5 ∨ ((e.k = 1 ∨ e.k = 2 ∨ e.k = 4) ∧ ∃ A s B, x.S = A ++ s :: B ∧ s.num = e.who ∧ s.st = 2 ∧ s.be = (i : Int))) :
  (e.k = 1 ∧ ∃ A s B, x.S = A ++ s :: B ∧ s.num = e.who ∧ s.st = 2 ∧ s.be = (i : Int)) ∨ (e.k = 2 ∧ ∃ A s B, x.S = A ++ s :: B ∧ s.num = e.who ∧ s.st = 2 ∧ s.be = (i : Int)) ∨ (e.k = 4 ∧ ∃ A s B, x.S = A ++ s :: B ∧ s.num = e.who ∧ s.st = 2 ∧ s.be = (i : Int)) ∨ e.k = 5 := by
 rcases h with h | ⟨h | h | h, q⟩
 ·exact .inr (.inr (.inr h))
 ·exact .inl ⟨h, q⟩
 ·exact .inr (.inl ⟨h, q⟩)
 ·exact .inr (.inr (.inl ⟨h, q⟩))
theorem mdrain_ok {N : Nat} {M : MM} {x0 : PX} (h : MIs N M x0) (hg : PXG x0) (hnm : ∀ s ∈ x0.S, 0 ≤ s.num ∧ s.num ≤ 100) {i : Nat} {si0 : PS} (hi : x0.P[i]? = some si0) (hN : N + si0.E.length ≤ 9000) (hE : x0.E.length + si0.E.length ≤ 900000) (h5 : si0.E.length ≤ 499) :
  Spec Tryz.prog 99 [ptrP M.p, .int .i64 (i : Int)] (mdH M x0) (fun r H' => ∃ M' N', r = .tuple #[] ∧ H' = mdH M' (x0.drain i) ∧ N' ≤ N + si0.E.length ∧ MIs N' M' (x0.drain i) ∧ M'.p = M.p) := by
 refine Spec.of (E := [(0, ptrP M.p), (1, .int .i64 (i : Int))]) Tryz.func99 rfl (by kernel_rfl) Tryz.ntmps99 rfl rfl (fun w => ?_)
 refine WCr (WLa Z (WL_nil (WQ_code (WC_block (WC_loopF (G := DrM) [4, 5, 6, 7, 8, 9, 10, 11, 12, 13, 14, 15, 16, 17, 18, 19, 20, 21, 22, 23, 24, 25, 26, 27, 28, 29, 30, 31, 32, 33, 34, 35, 36, 37, 38, 39, 40, 41, 42, 43, 44, 45, 46, 47, 48, 49, 50, 51, 52, 53, 54, 55, 56, 57, 58, 59, 60, 61, 62, 63, 64, 65, 66, 67, 68, 69, 70, 71, 72, 73, 74, 75, 76, 77, 78, 79, 80] (fun y => ∃ si, y.x.P[i]? = some si ∧ y.k + si.E.length ≤ si0.E.length ∧ y.N + si.E.length ≤ N + si0.E.length ∧ y.x.E.length + si.E.length ≤ x0.E.length + si0.E.length ∧ y.x.drain i = x0.drain i ∧ PXG y.x ∧ MIs y.N y.M y.x ∧ y.M.p = M.p ∧ ∀ s ∈ y.x.S, 0 ≤ s.num ∧ s.num ≤ 100) (fun y => [(4, .int .i64 (y.k : Int))]) (fun y => mdH y.M y.x) (fun y => 500 - y.k) (⟨0, M, x0, N⟩) (⟨si0, hi, by dsimp only; omega, Nat.le_refl _, Nat.le_refl _, rfl, hg, h, rfl, hnm⟩) leZ pqD ?_)))))
 rintro y ⟨si, hsi, hyk, hyN, hyE, hdr, gg, gy, hyp, hny⟩
 refine WC_seq (WCr (WLa Z (WLa Z (WL_nil (WQ_code (WC_dT Z (by omega) ?_))))))
 refine WC_skip (WQ_code (WC_seq (WC_block (WCr ?_))))
 obtain ⟨my, hmy⟩ := mpool_at gy hsi
 have hpl := gy.oq.len
 have hil := (List.getElem?_eq_some_iff.1 hsi).1
 obtain ⟨wq, hwq⟩ := gy.oq.some_of (by omega)
 have hSl := nums_len gg.nd hny
 refine WLa Z (WL_set (s := 13) (v := ptrP y.M.p) Z (by rw [hyp]) ?_)
 refine WLa Z (WLf Z fa60_1 (WLl Z sc56 mmD Z (WLa Z (WLv Z (R_idxO hwq Z Tryz.underlying56 Tryz.sizeOf79 Z Z (by omega)) ?_))))
 refine WLv Z (R_loadO (v := ptrP my.p) hwq Z sc79 Z mmD (fm_get0 encPq1 hmy (j := 0) (by omega))) ?_
 refine WLc Z (xp_nextH hmy hsi (gy.po _ _ _ hmy hsi)) Z pqD ?_
 rintro _ _ ⟨_, ⟨m1, rfl, rfl, hp1, h1⟩, rfl⟩
 refine WLa Z (WLa Z (WLa Z (WLd Z (D_alloc Z zv143) ?_)))
 rintro _ _ ⟨b1, rfl, rfl⟩
 refine WLs (vs := [_, _, _]) Z Tryz.sizeOf143 Z Z plD (nb Z) ?_
 refine WLa Z (WL_nil (WQ_code (WC_seq (WCr (WL_shape (A := [mdE y.M { y.x with now := y.x.now }, mdQ y.M]) (A' := [mdE { y.M with pm := y.M.pm.set i m1 } (y.x.nxP i si), mdQ { y.M with pm := y.M.pm.set i m1 }]) pqD (md_pm (s' := si.nx) hmy hp1 y.x.now) ?_)))))
 have gn0 : MIs y.N { y.M with pm := y.M.pm.set i m1 } (y.x.nxP i si) := gy.pool hmy hp1 h1
 refine WLa Z (WLa Z (WL_nil (WQ_code ?_)))
 refine WC_if Z (fun c1 => ?_) (fun c1 => ?_)
 ·have hE9 : si.E = [] := by
   cases hq : si.E with
   | nil => rfl
   | cons a r => rw [hq] at c1; simp at c1
  have hX9 : x0.drain i = y.x := by rw [← hdr, drain_nil hsi hE9]
  have hX8 : y.x.nxP i si = y.x := nxP_nil hsi hE9
  refine WC_ret ?_
  refine WQ2 Z (by
    exact ⟨{ y.M with pm := y.M.pm.set i m1 }, y.N, rfl, congrArg (mdH { y.M with pm := y.M.pm.set i m1 }) (hX8.trans hX9.symm), by omega, by rw [hX9]; rw [hX8] at gn0; exact gn0, hyp⟩) pqD
 ·have hE9 : si.E = hdP si.E :: si.nx.E := by
   cases hq : si.E with
   | nil => rw [hq] at c1; simp at c1
   | cons a r => unfold PS.nx; rw [hq]; rfl
  obtain ⟨hev9, gz2⟩ := drE_ok gg hsi hE9
  have hnz := drE_num (Q := fun n => 0 ≤ n ∧ n ≤ 100) gg hsi hE9 hny
  have hdr2 : ((y.x.nxP i si).drE i (hdP si.E)).drain i = x0.drain i := by rw [← drain_cons hsi hE9]; exact hdr
  have hsy : ((y.x.nxP i si).drE i (hdP si.E)).P[i]? = some si.nx := by rw [(drE_P i _ _).1]; exact List.getElem?_set_self hil
  rcases m_tri hev9 with ⟨hk9, hs9⟩ | ⟨hk9, hs9⟩ | ⟨hk9, hs9⟩ | hk9
  ·obtain ⟨A9, s9, B9, hS9, hw9, hst9, hbe9⟩ := hs9
   have hw9 := hw9.symm
   have hid9 : idS (hdP si.E).who (y.x.nxP i si).S = (A9.length : Int) := by rw [hw9]; exact idS_at hS9 gg.nd
   have hx9 : y.x.S[A9.length]? = some s9 := by rw [hS9, List.getElem?_append_right (Nat.le_refl _), Nat.sub_self]; rfl
   have hA9 : A9.length < y.x.S.length := (List.getElem?_eq_some_iff.1 hx9).1
   obtain ⟨wa, hwa⟩ := gy.sO.some_of (by omega)
   refine WC_skip (WQ_code (WCr (WLa Z (WL_set (s := 25) (v := ptrP y.M.p) Z (by rw [hyp]) ?_))))
   refine WLf Z fa143_1 (WLl Z sc3 mmD Z (WLq Z (mfind_ok { y.M with pm := y.M.pm.set i m1 } (y.x.nxP i si) gy.sO (by show y.x.S.length ≤ _; omega) (hdP si.E).who) Z pqD ?_))
   rw [hid9]
   refine WLa Z (WL_nil (WQ_code (WCr (WLf Z fa143_0 (WLl Z sc141 mmD Z (WL_set (s := 30) (v := .int .i64 1) Z (by rw [hk9]) ?_))))))
   refine WLa Z (WL_nil (WQ_code (WC_dF Z (by decide) ?_)))
   refine WCr (WLa Z (WLa Z (WLa Z (WL_set (s := 39) (v := .bool true) Z (by exact congrArg Value.bool (decide_eq_true (by omega))) ?_))))
   refine WLf Z fa143_0 (WLl Z sc141 mmD Z (WL_set (s := 41) (v := .int .i64 1) Z (by rw [hk9]) ?_))
   refine WLa Z (WLa Z (WL_nil (WQ_code (WC_dF Z (by decide) ?_))))
   refine WCr (WLa Z (WLa Z (WL_nil (WQ_code (WC_dT Z (by omega) ?_)))))
   refine WC_drawE (mdE { y.M with pm := y.M.pm.set i m1 } (y.x.nxP i si) :: mdS { y.M with pm := y.M.pm.set i m1 } (y.x.nxP i si) :: [mdV { y.M with pm := y.M.pm.set i m1 } (y.x.nxP i si)]) [(0, false), (1, false), (2, false), (3, false), (4, true), (5, false), (6, false), (7, true)] [(8, true), (9, true), (10, true), (11, true), (12, true), (13, false)] followsMixed Z Z (by kernel_rfl) pqD ?_
   refine WZ_val Z Z Z Z (R_move Z Z) ?_
   first | refine WM_set (s := 67) (v := ptrP y.M.p) rfl (by rw [hyp]) ?_ | refine WZ_set (s := 67) (v := ptrP y.M.p) rfl (by rw [hyp]) ?_
   refine WZ_val Z Z Z Z (R_move Z Z) ?_
   first | refine WM_set (s := 68) (v := ptrP y.M.p) rfl (by rw [hyp]) ?_ | refine WZ_set (s := 68) (v := ptrP y.M.p) rfl (by rw [hyp]) ?_
   refine WZ_val Z Z Z Z (R_nilCheck Z Z) ?_
   refine WZ_val Z Z Z Z (R_fieldAddr Z fa60_4 Z) ?_
   refine WZ_early Z Z Z Z (R_load Z sc57 Z mmD Z) ?_
   refine WZ_val Z Z Z Z (R_move Z Z) ?_
   refine WZ_val Z Z Z Z (R_idxO hwa Z Tryz.underlying57 Tryz.sizeOf84 Z Z (by omega)) ?_
   refine WZ_early Z Z Z Z (R_loadAO (vs := encR s9) hwa Z ag84 Z mmD Z (fm_at0 encR9 hx9 (j := 0) (vs := encR s9) (fun j v h => by rw [Nat.zero_add]; exact h) (Nat.le_refl 9))) ?_
   refine WZ_rest ?_
   refine WMf Z fa143_2 (WMl Z sc3 mmD Z (WMf Z fa143_0 (WMl Z sc141 mmD Z ?_)))
   first | refine WM_set (s := 78) (v := .int .i64 1) rfl (by rw [hk9]) ?_ | refine WZ_set (s := 78) (v := .int .i64 1) rfl (by rw [hk9]) ?_
   refine WMa Z (WMd Z (D_call (mgets_ok { y.M with pm := y.M.pm.set i m1 } (y.x.nxP i si) gy.sO (by show y.x.S.length ≤ _; omega) gy.eO (by show y.x.E.length ≤ _; omega) gg.nd s9 (hdP si.E).c true) Z Z Z Z pqD) ?_)
   rintro _ _ ⟨_, ⟨so1, sc1, stl1, eb1, ek1, ec1, epre1, etl1, rfl, rfl, hO1, hV1⟩, rfl⟩
   refine ⟨⟨_, pqD⟩, ?_⟩
   refine WM_nil (WQ_code (WC_region (WLa Z (WLv Z (R_add Z Z Z (by omega)) ?_))))
   refine WLa Z (WL_nil ?_)
   have hX9 : (y.x.nxP i si).mget s9 (hdP si.E).c true = (y.x.nxP i si).drE i (hdP si.E) := by rw [drE_1 (x := y.x.nxP i si) gg.nd hS9 hw9 hk9]; unfold PX.mget PX.mset; rw [setS_at (S := (y.x.nxP i si).S) hS9 gg.nd (show (gS s9 (hdP si.E).c true).num = s9.num from rfl)]; rfl
   rw [hX9] at hO1 hV1 ⊢
   obtain ⟨f1, f2, f3, f4⟩ : ((y.x.nxP i si).drE i (hdP si.E)).b = y.x.b ∧ ((y.x.nxP i si).drE i (hdP si.E)).P = (y.x.nxP i si).P ∧ ((y.x.nxP i si).drE i (hdP si.E)).pl = y.x.pl ∧ ((y.x.nxP i si).drE i (hdP si.E)).now = y.x.now := by rw [← hX9]; exact ⟨rfl, rfl, rfl, rfl⟩
   have gn9 : MIs (y.N + 1) { y.M with pm := y.M.pm.set i m1, so := so1, sc := sc1, stl := stl1, eb := eb1, ek := ek1, ec := ec1, epre := epre1, etl := etl1 } ((y.x.nxP i si).drE i (hdP si.E)) := (gn0.s3 f1 f2 f3 f4 hO1 hV1).le (Nat.le_succ _)
   have hdE := drE_E i (y.x.nxP i si) (hdP si.E)
   have hnx9 : si.nx.E.length + 1 = si.E.length := by rw [hE9]; rfl
   rw [show y.x.P.set i si.nx = ((y.x.nxP i si).drE i (hdP si.E)).P from f2.symm]
   refine WQ_nextF (⟨y.k + 1, { y.M with pm := y.M.pm.set i m1, so := so1, sc := sc1, stl := stl1, eb := eb1, ek := ek1, ec := ec1, epre := epre1, etl := etl1 }, (y.x.nxP i si).drE i (hdP si.E), y.N + 1⟩) (⟨si.nx, hsy, by dsimp only; omega, by dsimp only; omega, by show ((y.x.nxP i si).drE i (hdP si.E)).E.length + _ ≤ _; have h9 : (y.x.nxP i si).E.length = y.x.E.length := rfl; omega, hdr2, gz2, gn9, hyp, hnz⟩) (by dsimp only; omega) leZ (psZ) Z pqD
  ·obtain ⟨A9, s9, B9, hS9, hw9, hst9, hbe9⟩ := hs9
   have hw9 := hw9.symm
   have hid9 : idS (hdP si.E).who (y.x.nxP i si).S = (A9.length : Int) := by rw [hw9]; exact idS_at hS9 gg.nd
   have hx9 : y.x.S[A9.length]? = some s9 := by rw [hS9, List.getElem?_append_right (Nat.le_refl _), Nat.sub_self]; rfl
   have hA9 : A9.length < y.x.S.length := (List.getElem?_eq_some_iff.1 hx9).1
   obtain ⟨wa, hwa⟩ := gy.sO.some_of (by omega)
   refine WC_skip (WQ_code (WCr (WLa Z (WL_set (s := 25) (v := ptrP y.M.p) Z (by rw [hyp]) ?_))))
   refine WLf Z fa143_1 (WLl Z sc3 mmD Z (WLq Z (mfind_ok { y.M with pm := y.M.pm.set i m1 } (y.x.nxP i si) gy.sO (by show y.x.S.length ≤ _; omega) (hdP si.E).who) Z pqD ?_))
   rw [hid9]
   refine WLa Z (WL_nil (WQ_code (WCr (WLf Z fa143_0 (WLl Z sc141 mmD Z (WL_set (s := 30) (v := .int .i64 2) Z (by rw [hk9]) ?_))))))
   refine WLa Z (WL_nil (WQ_code (WC_dF Z (by decide) ?_)))
   refine WCr (WLa Z (WLa Z (WLa Z (WL_set (s := 39) (v := .bool true) Z (by exact congrArg Value.bool (decide_eq_true (by omega))) ?_))))
   refine WLf Z fa143_0 (WLl Z sc141 mmD Z (WL_set (s := 41) (v := .int .i64 2) Z (by rw [hk9]) ?_))
   refine WLa Z (WLa Z (WL_nil (WQ_code (WC_dF Z (by decide) ?_))))
   refine WCr (WLa Z (WLa Z (WL_nil (WQ_code (WC_dT Z (by omega) ?_)))))
   refine WC_drawE (mdE { y.M with pm := y.M.pm.set i m1 } (y.x.nxP i si) :: mdS { y.M with pm := y.M.pm.set i m1 } (y.x.nxP i si) :: [mdV { y.M with pm := y.M.pm.set i m1 } (y.x.nxP i si)]) [(0, false), (1, false), (2, false), (3, false), (4, true), (5, false), (6, false), (7, true)] [(8, true), (9, true), (10, true), (11, true), (12, true), (13, false)] followsMixed Z Z (by kernel_rfl) pqD ?_
   refine WZ_val Z Z Z Z (R_move Z Z) ?_
   first | refine WM_set (s := 67) (v := ptrP y.M.p) rfl (by rw [hyp]) ?_ | refine WZ_set (s := 67) (v := ptrP y.M.p) rfl (by rw [hyp]) ?_
   refine WZ_val Z Z Z Z (R_move Z Z) ?_
   first | refine WM_set (s := 68) (v := ptrP y.M.p) rfl (by rw [hyp]) ?_ | refine WZ_set (s := 68) (v := ptrP y.M.p) rfl (by rw [hyp]) ?_
   refine WZ_val Z Z Z Z (R_nilCheck Z Z) ?_
   refine WZ_val Z Z Z Z (R_fieldAddr Z fa60_4 Z) ?_
   refine WZ_early Z Z Z Z (R_load Z sc57 Z mmD Z) ?_
   refine WZ_val Z Z Z Z (R_move Z Z) ?_
   refine WZ_val Z Z Z Z (R_idxO hwa Z Tryz.underlying57 Tryz.sizeOf84 Z Z (by omega)) ?_
   refine WZ_early Z Z Z Z (R_loadAO (vs := encR s9) hwa Z ag84 Z mmD Z (fm_at0 encR9 hx9 (j := 0) (vs := encR s9) (fun j v h => by rw [Nat.zero_add]; exact h) (Nat.le_refl 9))) ?_
   refine WZ_rest ?_
   refine WMf Z fa143_2 (WMl Z sc3 mmD Z (WMf Z fa143_0 (WMl Z sc141 mmD Z ?_)))
   first | refine WM_set (s := 78) (v := .int .i64 2) rfl (by rw [hk9]) ?_ | refine WZ_set (s := 78) (v := .int .i64 2) rfl (by rw [hk9]) ?_
   refine WMa Z (WMd Z (D_call (mgets_ok { y.M with pm := y.M.pm.set i m1 } (y.x.nxP i si) gy.sO (by show y.x.S.length ≤ _; omega) gy.eO (by show y.x.E.length ≤ _; omega) gg.nd s9 (hdP si.E).c false) Z Z Z Z pqD) ?_)
   rintro _ _ ⟨_, ⟨so1, sc1, stl1, eb1, ek1, ec1, epre1, etl1, rfl, rfl, hO1, hV1⟩, rfl⟩
   refine ⟨⟨_, pqD⟩, ?_⟩
   refine WM_nil (WQ_code (WC_region (WLa Z (WLv Z (R_add Z Z Z (by omega)) ?_))))
   refine WLa Z (WL_nil ?_)
   have hX9 : (y.x.nxP i si).mget s9 (hdP si.E).c false = (y.x.nxP i si).drE i (hdP si.E) := by rw [drE_2 (x := y.x.nxP i si) gg.nd hS9 hw9 hk9]; unfold PX.mget PX.mset; rw [setS_at (S := (y.x.nxP i si).S) hS9 gg.nd (show (gS s9 (hdP si.E).c false).num = s9.num from rfl)]; rfl
   rw [hX9] at hO1 hV1 ⊢
   obtain ⟨f1, f2, f3, f4⟩ : ((y.x.nxP i si).drE i (hdP si.E)).b = y.x.b ∧ ((y.x.nxP i si).drE i (hdP si.E)).P = (y.x.nxP i si).P ∧ ((y.x.nxP i si).drE i (hdP si.E)).pl = y.x.pl ∧ ((y.x.nxP i si).drE i (hdP si.E)).now = y.x.now := by rw [← hX9]; exact ⟨rfl, rfl, rfl, rfl⟩
   have gn9 : MIs (y.N + 1) { y.M with pm := y.M.pm.set i m1, so := so1, sc := sc1, stl := stl1, eb := eb1, ek := ek1, ec := ec1, epre := epre1, etl := etl1 } ((y.x.nxP i si).drE i (hdP si.E)) := (gn0.s3 f1 f2 f3 f4 hO1 hV1).le (Nat.le_succ _)
   have hdE := drE_E i (y.x.nxP i si) (hdP si.E)
   have hnx9 : si.nx.E.length + 1 = si.E.length := by rw [hE9]; rfl
   rw [show y.x.P.set i si.nx = ((y.x.nxP i si).drE i (hdP si.E)).P from f2.symm]
   refine WQ_nextF (⟨y.k + 1, { y.M with pm := y.M.pm.set i m1, so := so1, sc := sc1, stl := stl1, eb := eb1, ek := ek1, ec := ec1, epre := epre1, etl := etl1 }, (y.x.nxP i si).drE i (hdP si.E), y.N + 1⟩) (⟨si.nx, hsy, by dsimp only; omega, by dsimp only; omega, by show ((y.x.nxP i si).drE i (hdP si.E)).E.length + _ ≤ _; have h9 : (y.x.nxP i si).E.length = y.x.E.length := rfl; omega, hdr2, gz2, gn9, hyp, hnz⟩) (by dsimp only; omega) leZ (psZ) Z pqD
  ·obtain ⟨A9, s9, B9, hS9, hw9, hst9, hbe9⟩ := hs9
   have hw9 := hw9.symm
   have hid9 : idS (hdP si.E).who (y.x.nxP i si).S = (A9.length : Int) := by rw [hw9]; exact idS_at hS9 gg.nd
   have hx9 : y.x.S[A9.length]? = some s9 := by rw [hS9, List.getElem?_append_right (Nat.le_refl _), Nat.sub_self]; rfl
   have hA9 : A9.length < y.x.S.length := (List.getElem?_eq_some_iff.1 hx9).1
   obtain ⟨wa, hwa⟩ := gy.sO.some_of (by omega)
   refine WC_skip (WQ_code (WCr (WLa Z (WL_set (s := 25) (v := ptrP y.M.p) Z (by rw [hyp]) ?_))))
   refine WLf Z fa143_1 (WLl Z sc3 mmD Z (WLq Z (mfind_ok { y.M with pm := y.M.pm.set i m1 } (y.x.nxP i si) gy.sO (by show y.x.S.length ≤ _; omega) (hdP si.E).who) Z pqD ?_))
   rw [hid9]
   refine WLa Z (WL_nil (WQ_code (WCr (WLf Z fa143_0 (WLl Z sc141 mmD Z (WL_set (s := 30) (v := .int .i64 4) Z (by rw [hk9]) ?_))))))
   refine WLa Z (WL_nil (WQ_code (WC_dF Z (by decide) ?_)))
   refine WCr (WLa Z (WLa Z (WLa Z (WL_set (s := 39) (v := .bool true) Z (by exact congrArg Value.bool (decide_eq_true (by omega))) ?_))))
   refine WLf Z fa143_0 (WLl Z sc141 mmD Z (WL_set (s := 41) (v := .int .i64 4) Z (by rw [hk9]) ?_))
   refine WLa Z (WLa Z (WL_nil (WQ_code (WC_dT Z (by decide) ?_))))
   refine WC_seq (WC_drawR (balH y.M.bm) [(0, true), (1, true), (2, true), (3, true), (4, true), (5, true), (6, true), (7, true), (8, true), (9, true), (10, true), (11, true), (12, true), (13, true), (14, true), (15, true), (16, false)] followsMixed Z Z (by kernel_rfl) pqD ?_)
   refine WMa Z (WM_set (s := 44) (v := ptrP y.M.p) Z (by rw [hyp]) ?_)
   refine WMa Z (WMf Z fa60_0 (WMl Z sc55 mmD Z (WMa Z (WM_set (s := 48) (v := ptrP y.M.p) Z (by rw [hyp]) ?_))))
   refine WMa Z (WMf Z fa60_3 (WMl Z sc25 mmD Z (WMa Z (WM_set (s := 52) (v := ptrP y.M.p) Z (by rw [hyp]) ?_))))
   refine WMa Z (WMf Z fa60_4 (WMl Z sc57 mmD Z (WMa Z (WMv Z (R_idxO hwa Z Tryz.underlying57 Tryz.sizeOf84 Z Z (by omega)) ?_))))
   refine WMf Z fa84_6 (WMv Z (R_loadO (v := .int .i64 s9.cal) hwa Z sc3 Z mmD (fm_get0 encR9 hx9 (j := 6) (by omega))) ?_)
   refine WMd Z (D_call (bdt_ok gy.bal (by omega) y.x.now s9.cal true gg.bl gy.now) Z Z Z Z pqD) ?_
   rintro _ _ ⟨_, ⟨bm1, e0, rfl, rfl, hbp1, hb1⟩, rfl⟩
   refine ⟨⟨_, pqD⟩, ?_⟩
   refine WM_nil (WQ_code (WC_region (WLa Z (WL_set (s := 61) (v := ptrP y.M.p) Z (by rw [hyp]) ?_))))
   refine WL_shape (A := [mdE { y.M with pm := y.M.pm.set i m1 } (y.x.nxP i si)]) pqD (List.Perm.of_eq (congrArg (fun q => [q]) (mdE_bm (M := { y.M with pm := y.M.pm.set i m1 }) (x := (y.x.nxP i si)) hbp1 (y.x.b.doneX y.x.now s9.cal true)))) ?_
   refine WLf Z fa143_1 (WLl Z sc3 mmD Z (WL_set (s := 63) (v := .int .i64 s9.num) Z (by rw [hw9]) ?_))
   refine WLc Z (mfails_ok { { y.M with pm := y.M.pm.set i m1 } with bm := bm1 } { (y.x.nxP i si) with b := y.x.b.doneX y.x.now s9.cal true } gy.sO (by show y.x.S.length ≤ _; omega) gy.eO (by show y.x.E.length ≤ _; omega) s9.num 12) Z pqD ?_
   rintro _ _ ⟨_, ⟨so1, sc1, stl1, eb1, ek1, ec1, epre1, etl1, rfl, rfl, hO1, hV1⟩, rfl⟩
   refine WL_nil (WQ_code (WC_region (WLa Z (WLv Z (R_add Z Z Z (by omega)) ?_))))
   refine WLa Z (WL_nil ?_)
   have hX9 : PX.mfail { y.x.nxP i si with b := y.x.b.doneX y.x.now s9.cal true } s9.num 12 = (y.x.nxP i si).drE i (hdP si.E) := by rw [drE_4 (x := y.x.nxP i si) gg.nd hS9 hw9 hk9]; unfold PX.mfail PX.mrem; rw [show (PX.S { y.x.nxP i si with b := y.x.b.doneX y.x.now s9.cal true }).filter (fun y => decide (y.num ≠ s9.num)) = A9 ++ B9 from filt_num hS9 gg.nd]; rfl
   rw [hX9] at hO1 hV1 ⊢
   obtain ⟨f1, f2, f3, f4⟩ : ((y.x.nxP i si).drE i (hdP si.E)).b = y.x.b.doneX y.x.now s9.cal true ∧ ((y.x.nxP i si).drE i (hdP si.E)).P = (y.x.nxP i si).P ∧ ((y.x.nxP i si).drE i (hdP si.E)).pl = y.x.pl ∧ ((y.x.nxP i si).drE i (hdP si.E)).now = y.x.now := by rw [← hX9]; exact ⟨rfl, rfl, rfl, rfl⟩
   have gn9 : MIs (y.N + 1) { y.M with pm := y.M.pm.set i m1, bm := bm1, so := so1, sc := sc1, stl := stl1, eb := eb1, ek := ek1, ec := ec1, epre := epre1, etl := etl1 } ((y.x.nxP i si).drE i (hdP si.E)) := (MIs.s3 (x := { y.x.nxP i si with b := y.x.b.doneX y.x.now s9.cal true }) (gn0.done hb1) f1 f2 f3 f4 hO1 hV1)
   have hdE := drE_E i (y.x.nxP i si) (hdP si.E)
   have hnx9 : si.nx.E.length + 1 = si.E.length := by rw [hE9]; rfl
   rw [show y.x.P.set i si.nx = ((y.x.nxP i si).drE i (hdP si.E)).P from f2.symm]
   refine WQ_nextF (⟨y.k + 1, { y.M with pm := y.M.pm.set i m1, bm := bm1, so := so1, sc := sc1, stl := stl1, eb := eb1, ek := ek1, ec := ec1, epre := epre1, etl := etl1 }, (y.x.nxP i si).drE i (hdP si.E), y.N + 1⟩) (⟨si.nx, hsy, by dsimp only; omega, by dsimp only; omega, by show ((y.x.nxP i si).drE i (hdP si.E)).E.length + _ ≤ _; have h9 : (y.x.nxP i si).E.length = y.x.E.length := rfl; omega, hdr2, gz2, gn9, hyp, hnz⟩) (by dsimp only; omega) leZ (psZ) Z pqD
  ·refine WC_skip (WQ_code (WCr (WLa Z (WL_set (s := 25) (v := ptrP y.M.p) Z (by rw [hyp]) ?_))))
   refine WLf Z fa143_1 (WLl Z sc3 mmD Z (WLq Z (mfind_ok { y.M with pm := y.M.pm.set i m1 } (y.x.nxP i si) gy.sO (by show y.x.S.length ≤ _; omega) (hdP si.E).who) Z pqD ?_))
   refine WLa Z (WL_nil (WQ_code (WCr (WLf Z fa143_0 (WLl Z sc141 mmD Z (WL_set (s := 30) (v := .int .i64 5) Z (by rw [hk9]) ?_))))))
   refine WLa Z (WL_nil (WQ_code (WC_dT Z (by rfl) ?_)))
   refine WC_region (WLa Z (WL_set (s := 32) (v := ptrP y.M.p) Z (by rw [hyp]) ?_))
   refine WLa Z (WLf Z fa143_2 (WLl Z sc3 mmD Z (WLc Z (mtell_ok { y.M with pm := y.M.pm.set i m1 } (y.x.nxP i si) gy.eO (by show y.x.E.length ≤ _; omega) 4 (-1) (i : Int) (hdP si.E).c 0) Z pqD ?_)))
   rintro _ _ ⟨_, ⟨eb1, ek1, ec1, epre1, etl1, rfl, rfl, hV1⟩, rfl⟩
   refine WL_nil (WQ_code (WC_region (WLa Z (WLv Z (R_add Z Z Z (by omega)) ?_))))
   refine WLa Z (WL_nil ?_)
   have hX9 : (y.x.nxP i si).tell ⟨4, -1, (i : Int), (hdP si.E).c, 0⟩ = (y.x.nxP i si).drE i (hdP si.E) := (drE_5 hk9).symm
   rw [hX9] at hV1 ⊢
   obtain ⟨f1, f2, f3, f4⟩ : ((y.x.nxP i si).drE i (hdP si.E)).b = y.x.b ∧ ((y.x.nxP i si).drE i (hdP si.E)).P = (y.x.nxP i si).P ∧ ((y.x.nxP i si).drE i (hdP si.E)).pl = y.x.pl ∧ ((y.x.nxP i si).drE i (hdP si.E)).now = y.x.now := by rw [← hX9]; exact ⟨rfl, rfl, rfl, rfl⟩
   have gn9 : MIs (y.N + 1) { y.M with pm := y.M.pm.set i m1, eb := eb1, ek := ek1, ec := ec1, epre := epre1, etl := etl1 } ((y.x.nxP i si).drE i (hdP si.E)) := (gn0.s3 (so := y.M.so) (sc := y.M.sc) (stl := y.M.stl) f1 f2 f3 f4 (by rw [← hX9]; exact gy.sO) hV1).le (Nat.le_succ _)
   have hdE := drE_E i (y.x.nxP i si) (hdP si.E)
   have hnx9 : si.nx.E.length + 1 = si.E.length := by rw [hE9]; rfl
   rw [show y.x.P.set i si.nx = ((y.x.nxP i si).drE i (hdP si.E)).P from f2.symm]
   refine WQ_shape (A := [mdS { y.M with pm := y.M.pm.set i m1 } (y.x.nxP i si)]) (A' := [mdS { y.M with pm := y.M.pm.set i m1 } ((y.x.nxP i si).drE i (hdP si.E))]) pqD (by rw [← hX9]; exact List.Perm.refl _) ?_
   refine WQ_nextF (⟨y.k + 1, { y.M with pm := y.M.pm.set i m1, eb := eb1, ek := ek1, ec := ec1, epre := epre1, etl := etl1 }, (y.x.nxP i si).drE i (hdP si.E), y.N + 1⟩) (⟨si.nx, hsy, by dsimp only; omega, by dsimp only; omega, by show ((y.x.nxP i si).drE i (hdP si.E)).E.length + _ ≤ _; have h9 : (y.x.nxP i si).E.length = y.x.E.length := rfl; omega, hdr2, gz2, gn9, hyp, hnz⟩) (by dsimp only; omega) leZ (psZ) Z pqD
theorem getE_free {x : PX} (h : PXG x) {s : Ss} (hs : s ∈ x.S) (hst : s.st ≠ 2) (hst3 : s.st ≠ 3) (hr : 0 ≤ s.num ∧ s.num ≤ 100) (hdl : ¬ s.dl ≤ x.now) (hnw : x.now ≠ 18446744073709551615) {i : Nat} {si : PS} (hi : x.P[i]? = some si) : getE_ si s.num x.now s.dl = 0 := by
 have hpn := (h.po i si hi).nw
 refine getE_ok (may_fine (decide_eq_true (by omega)) (by omega)) hdl ?_ ?_
 ·cases hw : si.waits s.num with
  | false => rfl
  | true =>
   obtain ⟨q, hq, e⟩ := List.any_eq_true.1 hw
   simp only [decide_eq_true_eq] at e
   exact absurd (by rw [← e]; exact List.mem_append_right _ (List.mem_map_of_mem (f := fun q : Qp => q.who) hq)) (h.noPend hs hst hi)
 ·cases hw : si.dials s.num with
  | false => rfl
  | true =>
   obtain ⟨q, hq, e⟩ := List.any_eq_true.1 hw
   simp only [decide_eq_true_eq] at e
   exact absurd e.2 (h.noDial hs hst hst3 i si hi q hq e.1)
theorem matt_ok {N : Nat} {M : MM} {x : PX} (h : MIs N M x) (hN : N ≤ 9000) (hE : x.E.length ≤ 900000) (hl : x.S.length ≤ 1000) (hn : (x.S.map (·.num)).Nodup) (s : Ss) (hk : s.key.size ≤ 64) (ht : s.tr ≤ 1000) (hbl : x.b.last ≤ x.now) (hpo : ∀ si ∈ x.P, si.E.length ≤ 10000 ∧ si.n < 1000000000000) (hge : ∀ (i : Nat) (si : PS), x.P[i]? = some si → getE_ si s.num x.now s.dl = 0) :
  Spec Tryz.prog 97 [ptrP M.p, rsV s] (mdH M x) (fun r H' => ∃ M', r = .tuple #[] ∧ H' = mdH M' (x.matt s) ∧ MIs (N + 1) M' (x.matt s) ∧ M'.p = M.p) := by
 by_cases hne : x.b.cand x.now = []
 ·exact matt_no h hN (by omega) hl hn s hk ht hbl hne
 ·obtain ⟨hpi, mi, si, hmi, hsi⟩ := mpk_at h s hne
  obtain ⟨q1, q2⟩ := hpo si (List.mem_of_getElem? hsi)
  exact matt_yes h hN (by omega) hl hn s hk hbl hne hmi hsi hpi q1 q2 (hge _ _ hsi)
theorem matt_in {x : PX} {A B : List Ss} {s : Ss} (hS : x.S = A ++ s :: B) (hn : (x.S.map (·.num)).Nodup) : x.matt s = x.attF s := by
 rw [← attF_eq hS hn]
 unfold PX.matt PX.att
 split
 ·unfold PX.mfld PX.mset PX.mfail PX.mrem
  rw [filt_num hS hn, setS_at hS hn (show (x.later s).num = s.num from rfl)]
  rfl
 ·cases hp : x.P[x.pk s]? with
  | none => dsimp only; rw [setS_at hS hn rfl, ← hS]
  | some si => dsimp only; rw [setS_at hS hn (attS_fields x s si).1]
theorem matt_new {x : PX} {s : Ss} (hno : s.num ∉ x.S.map (·.num)) (hn : ((x.S ++ [s]).map (·.num)).Nodup) : x.matt s = PX.attF { x with S := x.S ++ [s] } s := by
 have hS : ({ x with S := x.S ++ [s] } : PX).S = x.S ++ s :: [] := rfl
 rw [← attF_eq hS hn]
 unfold PX.matt PX.att
 by_cases hc : x.b.cand x.now = []
 ·rw [if_pos hc, if_pos (show ({ x with S := x.S ++ [s] } : PX).b.cand _ = [] from hc)]
  unfold PX.mfld PX.mset PX.mfail PX.mrem
  have hf : x.S.filter (fun y => decide (y.num ≠ s.num)) = x.S := List.filter_eq_self.2 fun y hy => decide_eq_true fun e => hno (by rw [← e]; exact List.mem_map_of_mem hy)
  rw [setS_new (show (x.later s).num ∉ _ from hno), hf]
  show _ = if x.failE s = 0 then _ else _
  split
  ·rfl
  ·show _ = ({ x.tell ⟨3, s.num, -1, -1, x.failE s⟩ with S := x.S ++ [] } : PX)
   rw [List.append_nil]; rfl
 ·rw [if_neg hc, if_neg (show ¬ ({ x with S := x.S ++ [s] } : PX).b.cand _ = [] from hc)]
  have hp9 : ({ x with S := x.S ++ [s] } : PX).P[({ x with S := x.S ++ [s] } : PX).pk s]? = x.P[x.pk s]? := rfl
  rw [hp9]
  cases hp : x.P[x.pk s]? with
  | none => dsimp only; rw [setS_new hno]
  | some si =>
   dsimp only
   rw [setS_new (by rw [(attS_fields x s si).1]; exact hno)]
   have e1 : ({ x with S := x.S ++ [s] } : PX).attS s si = x.attS s si := rfl
   have e2 : ∀ L : List Ss, ({ ({ x with S := x.S ++ [s] } : PX).attX s si with S := L } : PX) = { x.attX s si with S := L } := fun L => by
    by_cases h1 : (x.pv s si).k = 1
    ·rw [(attX_1 h1).1, (attX_1 (x := { x with S := x.S ++ [s] }) h1).1]; rfl
    ·by_cases h2 : (x.pv s si).k = 2
     ·rw [(attX_2 h1 h2).1, (attX_2 (x := { x with S := x.S ++ [s] }) h1 h2).1]; rfl
     ·rw [(attX_3 h1 h2).1, (attX_3 (x := { x with S := x.S ++ [s] }) h1 h2).1]; rfl
   rw [e2, e1]
theorem lat_T {s : Ss} {now : Nat} (h : s.st = 1 ∧ s.til ≤ now) : [s].filter (fun s => decide (s.st = 1 ∧ s.til ≤ now)) = [s] := by simp [h]
theorem at_dropR (D : List Ss) (y c : Nat) (hy : y ≤ D.length) (hc : D.length ≤ c) (tl : List Value) : At (D.flatMap encR ++ tl) (if c = y then 0 else 0 + y * 9) ((D.drop y).flatMap encR) := by
 have e : D.flatMap encR = (D.take y).flatMap encR ++ (D.drop y).flatMap encR := by rw [← List.flatMap_append, List.take_append_drop]
 have hlen : ((D.take y).flatMap encR).length = y * 9 := by rw [fm_length encR9, List.length_take, Nat.min_eq_left hy]
 split
 ·have : D.drop y = [] := List.drop_eq_nil_of_le (by omega)
  rw [this]
  intro j v hj; simp at hj
 ·intro j v hj
  rw [e, List.append_assoc, List.getElem?_append_right (by omega), List.getElem?_append_left (by have := (List.getElem?_eq_some_iff.1 hj).1; omega)]
  rw [← hj]; congr 1; omega
theorem at_takeR (D : List Ss) (y : Nat) (tl : List Value) : At (D.flatMap encR ++ tl) 0 ((D.take y).flatMap encR) := by
 have e : D.flatMap encR = (D.take y).flatMap encR ++ (D.drop y).flatMap encR := by rw [← List.flatMap_append, List.take_append_drop]
 intro j v hj
 rw [e, List.append_assoc, Nat.zero_add, List.getElem?_append_left (List.getElem?_eq_some_iff.1 hj).1]; exact hj
theorem own_litR (b : Nat) (s : Ss) : Own (some b) 1 1 9 (encR s) [] := ⟨rfl, rfl, Nat.le_refl _, by omega, fun e => by cases e⟩
theorem ins_srt {D : List Ss} {s : Ss} {y : Nat} (hy : y ≤ D.length) (hs : D.Pairwise ltS) (hn : ∀ z ∈ D, z.num ≠ s.num) (h1 : ∀ (j : Nat) (z : Ss), j < y → D[j]? = some z → ltS z s) (h2 : ∀ z, D[y]? = some z → ¬ ltS z s) : (D.take y ++ s :: D.drop y).Pairwise ltS := by
 have hsp : D = D.take y ++ D.drop y := (List.take_append_drop y D).symm
 have hs2 := hs
 rw [hsp, List.pairwise_append] at hs2
 obtain ⟨p1, p2, p3⟩ := hs2
 have hb : ∀ b ∈ D.drop y, ltS s b := by
  cases hd : D.drop y with
  | nil => intro b hb; cases hb
  | cons z r =>
   have hz : D[y]? = some z := by
    have := congrArg List.head? hd
    rw [List.head?_drop] at this
    exact this
   have hzn := hn z (List.mem_of_getElem? hz)
   have hzs := h2 z hz
   have hsz : ltS s z := by
    unfold ltS at hzs ⊢
    omega
   intro b hb
   rw [hd] at p2
   rcases List.mem_cons.1 hb with rfl | hb
   ·exact hsz
   ·have := (List.pairwise_cons.1 p2).1 b hb
    unfold ltS at this hsz ⊢
    omega
 rw [List.pairwise_append]
 refine ⟨p1, List.pairwise_cons.2 ⟨hb, p2⟩, fun a ha b hb2 => ?_⟩
 rcases List.mem_cons.1 hb2 with rfl | hb2
 ·obtain ⟨j, hj⟩ := List.mem_iff_getElem?.1 ha
  have hjl := (List.getElem?_eq_some_iff.1 hj).1
  rw [List.length_take] at hjl
  rw [List.getElem?_take_of_lt (by omega)] at hj
  exact h1 j a (by omega) hj
 ·exact p3 a ha b hb2
theorem due_uniq {x : PX} (hn : (x.S.map (·.num)).Nodup) {D : List Ss} (hp : D.Perm (x.S.filter (fun s => decide (s.st = 1 ∧ s.til ≤ x.now)))) (hs : D.Pairwise ltS) : D = x.due :=
 srt_uniq (lt := ltS) (hp.trans (due_perm x).symm) (hs.imp fun {a b} h => by unfold ltS at h ⊢; omega) (due_srt hn)
theorem dueF_num {x : PX} (h : PXG x) (now : Nat) {A B : List Ss} {s : Ss} (hS : x.S = A ++ s :: B) {Q : Int → Prop} (hq : ∀ y ∈ x.S, Q y.num) : ∀ y ∈ (x.dueF now s).S, Q y.num := by
 rw [hS] at hq
 have h9 : Q s.num := hq s (List.mem_append_right _ (List.mem_cons_self ..))
 have hd := mem_drop (p := fun s => Q s.num) hq
 unfold PX.dueF
 split
 ·rw [filt_num hS h.nd]; exact hd
 ·rw [← attF_eq hS h.nd]
  unfold PX.att
  split
  ·split
   ·exact mem_swap (p := fun s => Q s.num) hq _ h9
   ·exact hd
  ·cases hp : x.P[x.pk s]? with
   | none => rw [← hS] at hq; exact hq
   | some si => exact mem_swap (p := fun s => Q s.num) hq _ (by rw [(attS_fields x s si).1]; exact h9)
structure RtW where
 k : Nat
 D : List Ss
 o : Option Nat
 c : Nat
 t : List Value
structure RtM where
 k : Nat
 M : MM
 x : PX
 N : Nat
theorem mretry_ok {N : Nat} {M : MM} {x : PX} (h : MIs N M x) (hg : PXG x) (hnm : ∀ s ∈ x.S, 0 ≤ s.num ∧ s.num ≤ 100) (hN : N ≤ 8000) (hE : x.E.length ≤ 800000) {b : Nat} (hB : PXB b x) (hbb : b ≤ 1000000000) (hnw : x.now ≠ 18446744073709551615) :
  Spec Tryz.prog 102 [ptrP M.p] (mdH M x) (fun r H' => ∃ M' N', r = .tuple #[] ∧ H' = mdH M' (x.due.foldl (PX.dueF x.now) x) ∧ N' ≤ N + 101 ∧ MIs N' M' (x.due.foldl (PX.dueF x.now) x) ∧ M'.p = M.p) := by
 have hSl := nums_len hg.nd hnm
 have hO := h.sO
 have hpt : x.pl.tries ≤ 100 := by obtain ⟨q1, q2, q3, q4, q5, q6, q7, q8, q9, q10⟩ := h.ok; exact q8
 refine Spec.of (E := [(0, ptrP M.p)]) Tryz.func102 rfl (by kernel_rfl) Tryz.ntmps102 rfl rfl (fun w => ?_)
 refine WCr (WLa Z (WL_nil (WQ_code (WC_seq (WCr (WLa Z (WL_nil (WQ_code (WC_block (WC_none 84 ?_))))))))))
 refine WC_loopF (G := RtW) [2, 3, 4, 5, 6, 8, 9, 10, 11, 12, 13, 14, 15, 16, 17, 18, 19, 20, 21, 22, 23, 24, 25, 26, 27, 28, 29, 30, 31, 32, 33, 34, 35, 36, 37, 38, 39, 40, 41, 42, 43, 44, 45, 46, 47, 48, 49, 50, 51, 52, 53, 54, 55, 56, 57, 58, 59, 60, 61, 62, 63, 64, 65, 66, 67, 68, 69, 70, 71, 72, 73, 74, 75, 76, 77, 78, 79, 80, 81, 82, 83] (fun y => y.k ≤ x.S.length ∧ y.D.Perm ((x.S.take y.k).filter (fun s => decide (s.st = 1 ∧ s.til ≤ x.now))) ∧ y.D.Pairwise ltS ∧ y.D.length ≤ y.k ∧ (y.D = [] → y.o = none) ∧ Own y.o y.D.length y.c 9 (y.D.flatMap encR) y.t) (fun y => [(3, .int .i64 (y.k : Int)), (2, slV y.o y.D.length y.c)]) (fun y => [⟨y.o, cl (y.D.flatMap encR ++ y.t) 84⟩]) (fun y => x.S.length - y.k) (⟨0, [], none, 0, []⟩) (⟨Nat.zero_le _, .refl _, .nil, Nat.le_refl _, fun _ => Z, Own.empty 9⟩) leZ pqD ?_
 rintro y ⟨hk, hyp, hys, hyd, hyon, hyo⟩
 refine WC_seq (WCr (WLa Z (WLa Z (WLa Z (WLf Z fa60_4 (WLl Z sc57 mmD Z (WLv Z (R_len Z Tryz.underlying57 Z) ?_)))))))
 refine WLa Z (WL_nil (WQ_code ?_))
 refine WC_dec Z (fun c1 => ?_) (fun c1 => ?_)
 ·refine WC_skip (WQ_code (WC_seq (WC_block (WCr (WLa Z (WLa Z (WLf Z fa60_4 ?_)))))))
  obtain ⟨s, hs9⟩ := getE (T := x.S) (i := y.k) (by omega)
  obtain ⟨wa, hwa⟩ := hO.some_of (by omega)
  have hsS := List.mem_of_getElem? hs9
  refine WLl Z sc57 mmD Z (WLa Z (WLv Z (R_idxO hwa Z Tryz.underlying57 Tryz.sizeOf84 Z Z (by omega)) ?_))
  refine WLv Z (R_loadAO (vs := encR s) hwa Z ag84 Z mmD Z (fm_at0 encR9 hs9 (j := 0) (vs := encR s) (fun j v h => by rw [Nat.zero_add]; exact h) (Nat.le_refl 9))) ?_
  refine WLd Z (D_alloc Z zv84) ?_
  rintro _ _ ⟨b1, rfl, rfl⟩
  refine WLs (vs := [_, _, _, _, _, _, _, _, _]) Z Tryz.sizeOf84 Z Z plD (nb Z) ?_
  refine WL_nil (WQ_code (WC_seq (WC_seq (WC_draw _ [(0, true), (1, true), (2, true), (3, true), (4, true), (5, true), (6, true), (7, true), (8, true), (9, true), (10, true), (11, true)] followsMixed Z Z (by kernel_rfl) .all ?_))))
  refine WMf Z fa84_5 (WMl Z sc49 mmD Z (WMa Z (WMa Z ?_)))
  refine WM_splitD (s := 27) Z (fun c2 => ?_) (fun c2 => ?_)
  ·have hg1 := c2
   have hnl : ¬ (s.st = 1 ∧ s.til ≤ x.now) := fun e => hg1 e.1
   refine WMa Z (WMa Z (WMa Z (WMa Z (WMa Z (WMa Z (WMa Z (WMa Z (WM_nil (WQ_code (WC_T Z (WC_exit (WQ_code (WC_region (WLa Z (WLv Z (R_add Z Z Z (by omega)) ?_)))))))))))))))
   refine WLa Z (WL_nil ?_)
   refine WQ_nextF (⟨y.k + 1, y.D, y.o, y.c, y.t⟩) (⟨by dsimp only; omega, by dsimp only; rw [take_next hs9, List.filter_append, List.filter_cons_of_neg (by simpa using hnl), List.filter_nil, List.append_nil]; exact hyp, hys, by dsimp only; omega, hyon, hyo⟩) (by dsimp only; omega) leZ (psZ) Z pqD
  ·have hg1 := c2
   refine WMf Z fa84_3 (WMl Z sc25 mmD Z (WMa Z (WMa Z (WMf Z fa60_3 (WMl Z sc25 mmD Z (WMa Z (WMa Z (WM_nil (WQ_code ?_)))))))))
   refine WC_dec Z (fun c3 => ?_) (fun c3 => ?_)
   ·have hnl : ¬ (s.st = 1 ∧ s.til ≤ x.now) := by first | (intro e; omega) | (have h9 := c3; intro e; omega)
    refine WC_exit (WQ_code (WC_region (WLa Z (WLv Z (R_add Z Z Z (by omega)) ?_))))
    refine WLa Z (WL_nil ?_)
    refine WQ_nextF (⟨y.k + 1, y.D, y.o, y.c, y.t⟩) (⟨by dsimp only; omega, by dsimp only; rw [take_next hs9, List.filter_append, List.filter_cons_of_neg (by simpa using hnl), List.filter_nil, List.append_nil]; exact hyp, hys, by dsimp only; omega, hyon, hyo⟩) (by dsimp only; omega) leZ (psZ) Z pqD
   ·have hyl : s.st = 1 ∧ s.til ≤ x.now := by first | (constructor <;> omega) | (have h9 := c3; constructor <;> omega)
    have hnz : ∀ q ∈ y.D, q.num ≠ s.num := fun q hq e => by
     have h1 := (List.mem_filter.1 (hyp.mem_iff.1 hq)).1
     have h2 : s ∈ x.S.drop y.k := by rw [dropX hs9]; exact List.mem_cons_self ..
     have h3 := hg.nd
     rw [← List.take_append_drop y.k x.S, List.map_append, List.nodup_append] at h3
     exact h3.2.2 _ (List.mem_map_of_mem h1) _ (List.mem_map_of_mem h2) e
    rcases Classical.em (y.D = []) with hD9 | hD8
    ·refine WC_none 84 ?_
     have hon : y.o = none := hyon hD9
     have hcn : y.c = 0 := by have h9 := hyo; rw [hon] at h9; exact h9.void'.2.1
     have hsl9 : slV y.o y.D.length y.c = .slice none 0 0 := by rw [hon, hcn, hD9]; rfl
     refine WC_skip (WQ_code (WCr (WLa Z (WL_nil (WQ_code (WC_seq (WC_block (WC_loopF (G := Nat) [5, 36, 37, 38, 39, 40, 41, 42, 43, 44, 45, 46, 47, 48, 49, 50, 51, 52, 53, 54, 55, 56, 57, 58, 59, 60, 61, 62, 63, 64, 65, 66, 67, 68, 69, 70, 71] (fun z => z ≤ y.D.length ∧ ∀ (j : Nat) (q : Ss), j < z → y.D[j]? = some q → ltS q s) (fun z => [(5, .int .i64 (z : Int))]) (fun z => []) (fun z => y.D.length - z) (0) (⟨Nat.zero_le _, fun j q hj => absurd hj (Nat.not_lt_zero j)⟩) leZ pqD ?_))))))))
     rintro z ⟨hz, hjs⟩
     refine WC_seq (WC_seq (WC_draw _ [(0, true), (1, true), (2, true), (3, true), (4, true), (5, true), (6, true), (7, true), (8, true), (9, true), (10, true), (11, true), (12, true), (13, true), (14, true), (15, true), (16, true), (17, true), (18, true), (19, true), (20, true), (21, true), (22, true), (23, true), (24, true), (25, true), (26, true), (27, true), (28, true), (29, true), (30, true), (31, true), (32, true), (33, true)] followsMixed Z Z (by kernel_rfl) .all ?_))
     refine WMa Z (WMa Z (WMv Z (R_len Z Tryz.underlying57 Z) ?_))
     refine WMa Z (WMa Z ?_)
     refine WM_splitD (s := 40) Z (fun c4 => ?_) (fun c4 => ?_)
     ·exfalso; rw [hD9, List.length_nil] at c4; omega
     ·have hge9 : z = y.D.length := by omega
      have hnlt : ∀ q, y.D[z]? = some q → ¬ ltS q s := fun q hq => by rw [List.getElem?_eq_none (by omega)] at hq; cases hq
      refine WMa Z (WMa Z (WMa Z (WMa Z (WMa Z (WMa Z (WMa Z (WMa Z (WMa Z (WMa Z (WMa Z (WMa Z (WMa Z (WMa Z (WMa Z (WMa Z (WMa Z (WMa Z (WMa Z (WMa Z (WMa Z (WMa Z (WMa Z (WMa Z (WMa Z (WMa Z (WMa Z (WMa Z (WMa Z (WM_nil (WQ_code (WC_F Z (WC_exit (WQ_code (WC_seq (WC_draw _ [(0, true), (2, true), (3, true), (4, true), (1, false), (5, false), (6, true)] followsMixed Z Z (by kernel_rfl) .all ?_)))))))))))))))))))))))))))))))))))
      refine WMv Z (R_loadA (vs := [_, _, _, _, _, _, _, _, _]) Z ag84 Z mmD Z atZ) ?_
      refine WMa Z ?_
      first | refine WB_set (s := 74) (v := .slice none 0 0) rfl (by rw [hsl9]) ?_ | refine WM_set (s := 74) (v := .slice none 0 0) rfl (by rw [hsl9]) ?_
      refine WMa Z ?_
      have hz0 : z = 0 := by rw [hD9] at hge9; exact hge9
      first | refine WB_set (s := 75) (v := .int .i64 0) rfl (by rw [hz0]; rfl) ?_ | refine WM_set (s := 75) (v := .int .i64 0) rfl (by rw [hz0]; rfl) ?_
      refine WMv Z (R_sliceFromNil Z Tryz.underlying57 Tryz.sizeOf84 Z Z) ?_
      refine WMd Z (D_buildSlice Z si57 Z Z Z) ?_
      rintro _ _ ⟨b2, rfl, rfl⟩
      refine ⟨⟨_, pqD⟩, ?_⟩
      refine WMd Z (D_appendO Z si57 Z (own_litR _ s) plD Z (Own.empty 9) mmD Z (by omega) (by omega)) ?_
      rintro _ _ ⟨o5, c5, tl5, rfl, own5, rfl⟩
      refine ⟨⟨_, pqD⟩, ?_⟩
      refine WMa Z (WM_nil (WQ_code (WC_region (WLa Z (WL_set (s := 78) (v := .slice none 0 0) Z (by rw [hsl9]) ?_)))))
      refine WLa Z (WL_set (s := 79) (v := .int .i64 ((0 : Nat) : Int)) Z (by rw [hz0]) ?_)
      refine WLv Z (R_sliceTo (m := 0) Z Tryz.underlying57 Tryz.sizeOf84 Z Z (Nat.zero_le _)) ?_
      refine WLd Z (D_appendO Z si57 Z (Own.empty 9) plD Z (Own.empty 9) mmD Z (by omega) (by omega)) ?_
      rintro _ _ ⟨o6, c6, tl6, rfl, own6, rfl⟩
      refine WLa Z (WLd Z (D_appendO Z si57 Z own6 plD Z own5 mmD (encR_one (s :: [])) (by omega) (by omega)) ?_)
      rintro _ _ ⟨o7, c7, tl7, rfl, own7, rfl⟩
      have hfl : [] ++ [] ++ (encR s ++ []) = (y.D.take z ++ s :: y.D.drop z).flatMap encR := by rw [hD9]; simp
      have hln : 0 + 0 + (1 + 0) = (y.D.take z ++ s :: y.D.drop z).length := by rw [hD9]; simp
      rw [hfl, hln] at own7
      rw [hfl, hln]
      refine WLa Z (WL_nil (WQ_code (WC_region (WLa Z (WLv Z (R_add Z Z Z (by omega)) ?_)))))
      refine WLa Z (WL_nil ?_)
      refine WQ_nextF (⟨y.k + 1, y.D.take z ++ s :: y.D.drop z, o7, c7, tl7⟩) (⟨by dsimp only; omega, by dsimp only; rw [take_next hs9, List.filter_append, lat_T hyl]; refine List.perm_middle.trans ?_; rw [List.take_append_drop]; exact (List.Perm.cons s hyp).trans (List.perm_append_comm (l₁ := [s])), ins_srt hz hys hnz hjs hnlt, by dsimp only; rw [List.length_append, List.length_cons, List.length_take, List.length_drop]; omega, fun e => absurd e (by simp), own7⟩) (by dsimp only; omega) leZ (psZ) Z pqD
    ·refine WC_none 84 ?_
     have hD9 : 0 < y.D.length := List.length_pos_iff.2 hD8
     obtain ⟨wd, hod⟩ := hyo.some_of (by omega)
     refine WC_skip (WQ_code (WCr (WLa Z (WL_nil (WQ_code (WC_seq (WC_block (WC_loopF (G := Nat) [5, 36, 37, 38, 39, 40, 41, 42, 43, 44, 45, 46, 47, 48, 49, 50, 51, 52, 53, 54, 55, 56, 57, 58, 59, 60, 61, 62, 63, 64, 65, 66, 67, 68, 69, 70, 71] (fun z => z ≤ y.D.length ∧ ∀ (j : Nat) (q : Ss), j < z → y.D[j]? = some q → ltS q s) (fun z => [(5, .int .i64 (z : Int))]) (fun z => []) (fun z => y.D.length - z) (0) (⟨Nat.zero_le _, fun j q hj => absurd hj (Nat.not_lt_zero j)⟩) leZ pqD ?_))))))))
     rintro z ⟨hz, hjs⟩
     refine WC_seq (WC_seq (WC_draw _ [(0, true), (1, true), (2, true), (3, true), (4, true), (5, true), (6, true), (7, true), (8, true), (9, true), (10, true), (11, true), (12, true), (13, true), (14, true), (15, true), (16, true), (17, true), (18, true), (19, true), (20, true), (21, true), (22, true), (23, true), (24, true), (25, true), (26, true), (27, true), (28, true), (29, true), (30, true), (31, true), (32, true), (33, true)] followsMixed Z Z (by kernel_rfl) .all ?_))
     refine WMa Z (WMa Z (WMv Z (R_len Z Tryz.underlying57 Z) ?_))
     refine WMa Z (WMa Z ?_)
     refine WM_splitD (s := 40) Z (fun c5 => ?_) (fun c5 => ?_)
     ·have hlt9 : z < y.D.length := by omega
      obtain ⟨z9, hz9⟩ := getE (T := y.D) (i := z) hlt9
      refine WMa Z (WMa Z (WMv Z (R_idxO hod Z Tryz.underlying57 Tryz.sizeOf84 Z Z (by omega)) ?_))
      refine WMf Z fa84_3 (WMv Z (R_loadO (v := .int .u64 (z9.til : Int)) hod Z sc25 Z mmD (fm_get0 encR9 hz9 (j := 3) (by omega))) ?_)
      refine WMf Z fa84_3 (WMl Z sc25 mmD Z (WMa Z (WMa Z ?_)))
      refine WM_splitD (s := 49) Z (fun c6 => ?_) (fun c6 => ?_)
      ·have hq1 := c6
       have hltz : ltS z9 s := .inl (by omega)
       refine WMa Z (WMa Z (WMa Z (WMa Z (WMa Z (WMa Z (WMa Z (WMa Z (WMa Z (WMa Z (WMa Z (WMa Z (WMa Z (WMa Z (WMa Z (WMa Z (WMa Z (WMa Z (WMa Z (WMa Z (WM_nil (WQ_code (WC_T Z (WC_skip (WQ_code (WC_block (WC_region (WLa Z (WLv Z (R_add Z Z Z (by omega)) ?_))))))))))))))))))))))))))))
       refine WLa Z (WL_nil ?_)
       refine WQ_nextF (gg := z) (z + 1) (⟨by omega, fun j q hj hq => by rcases Nat.lt_or_ge j z with h9 | h9; exact hjs j q h9 hq; (obtain rfl : j = z := by omega); rw [hz9] at hq; obtain rfl := Option.some.inj hq; exact hltz⟩) (by omega) leZ (psZ) Z pqD
      ·have hq1 := c6
       refine WMa Z (WMa Z (WMv Z (R_idxO hod Z Tryz.underlying57 Tryz.sizeOf84 Z Z (by omega)) ?_))
       refine WMf Z fa84_3 (WMv Z (R_loadO (v := .int .u64 (z9.til : Int)) hod Z sc25 Z mmD (fm_get0 encR9 hz9 (j := 3) (by omega))) ?_)
       refine WMf Z fa84_3 (WMl Z sc25 mmD Z (WMa Z (WMa Z ?_)))
       refine WM_splitD (s := 58) Z (fun c7 => ?_) (fun c7 => ?_)
       ·have hq2 := c7
        refine WMa Z (WMa Z (WMv Z (R_idxO hod Z Tryz.underlying57 Tryz.sizeOf84 Z Z (by omega)) ?_))
        refine WMf Z fa84_0 (WMv Z (R_loadO (v := .int .i64 z9.num) hod Z sc3 Z mmD (fm_get0 encR9 hz9 (j := 0) (by omega))) ?_)
        refine WMf Z fa84_0 (WMl Z sc3 mmD Z (WMa Z (WMa Z (WMa Z (WMa Z (WM_nil (WQ_code ?_)))))))
        refine WC_dec Z (fun c8 => ?_) (fun c8 => ?_)
        ·have hltz : ltS z9 s := by first | (show _ ∨ _; omega) | (have h9 := c8; show _ ∨ _; omega)
         refine WC_skip (WQ_code (WC_block (WC_region (WLa Z (WLv Z (R_add Z Z Z (by omega)) ?_)))))
         refine WLa Z (WL_nil ?_)
         refine WQ_nextF (gg := z) (z + 1) (⟨by omega, fun j q hj hq => by rcases Nat.lt_or_ge j z with h9 | h9; exact hjs j q h9 hq; (obtain rfl : j = z := by omega); rw [hz9] at hq; obtain rfl := Option.some.inj hq; exact hltz⟩) (by omega) leZ (psZ) Z pqD
        ·have hnlt : ∀ q, y.D[z]? = some q → ¬ ltS q s := fun q hq => by first | (rw [hz9] at hq; obtain rfl := Option.some.inj hq; unfold ltS; omega) | (have h9 := c8; rw [hz9] at hq; obtain rfl := Option.some.inj hq; unfold ltS; omega) | (rw [List.getElem?_eq_none (by omega)] at hq; cases hq)
         refine WC_exit (WQ_code (WC_seq (WC_draw _ [(0, true), (2, true), (3, true), (4, true), (1, false), (5, false), (6, true)] followsMixed Z Z (by kernel_rfl) .all ?_)))
         refine WMv Z (R_loadA (vs := [_, _, _, _, _, _, _, _, _]) Z ag84 Z mmD Z atZ) ?_
         refine WMa Z ?_
         first | refine WB_set (s := 74) (v := slV (some wd) y.D.length y.c) rfl (by rw [hod]) ?_ | refine WM_set (s := 74) (v := slV (some wd) y.D.length y.c) rfl (by rw [hod]) ?_
         refine WMa Z (WMv Z (R_sliceFromK (m := z) Z Tryz.underlying57 Tryz.sizeOf84 Z Z (by omega)) ?_)
         refine WMd Z (D_buildSlice Z si57 Z Z Z) ?_
         rintro _ _ ⟨b3, rfl, rfl⟩
         refine ⟨⟨_, pqD⟩, ?_⟩
         refine WMd Z (D_append Z si57 Z (own_litR _ s) plD Z (by rw [← hod]; exact mmD) (at_dropR y.D z y.c hz hyo.le y.t) (by rw [fm_length encR9, List.length_drop]) (encR_one _) (by omega) (by omega)) ?_
         rintro _ _ ⟨o5, c5, tl5, rfl, own5, rfl⟩
         refine ⟨⟨_, pqD⟩, ?_⟩
         refine WMa Z (WM_nil (WQ_code (WC_region (WLa Z (WL_set (s := 78) (v := slV (some wd) y.D.length y.c) Z (by rw [hod]) ?_)))))
         refine WLa Z (WLv Z (R_sliceTo (m := z) Z Tryz.underlying57 Tryz.sizeOf84 Z Z (by have := hyo.le; omega)) ?_)
         refine WLd Z (D_append Z si57 Z (Own.empty 9) plD Z (by rw [← hod]; exact mmD) (at_takeR y.D z y.t) (by rw [fm_length encR9, List.length_take, Nat.min_eq_left hz]) (encR_one _) (by omega) (by omega)) ?_
         rintro _ _ ⟨o6, c6, tl6, rfl, own6, rfl⟩
         refine WLa Z (WLd Z (D_appendO Z si57 Z own6 plD Z own5 mmD (encR_one (s :: y.D.drop z)) (by omega) (by omega)) ?_)
         rintro _ _ ⟨o7, c7, tl7, rfl, own7, rfl⟩
         have hfl : [] ++ (y.D.take z).flatMap encR ++ (encR s ++ (y.D.drop z).flatMap encR) = (y.D.take z ++ s :: y.D.drop z).flatMap encR := by rw [List.flatMap_append, List.flatMap_cons, List.nil_append]
         have hln : 0 + z + (1 + (y.D.length - z)) = (y.D.take z ++ s :: y.D.drop z).length := by rw [List.length_append, List.length_cons, List.length_take, List.length_drop, Nat.min_eq_left hz]; omega
         rw [hfl, hln] at own7
         rw [hfl, hln]
         refine WLa Z (WL_nil (WQ_code (WC_region (WLa Z (WLv Z (R_add Z Z Z (by omega)) ?_)))))
         refine WLa Z (WL_nil ?_)
         refine WQ_nextF (⟨y.k + 1, y.D.take z ++ s :: y.D.drop z, o7, c7, tl7⟩) (⟨by dsimp only; omega, by dsimp only; rw [take_next hs9, List.filter_append, lat_T hyl]; refine List.perm_middle.trans ?_; rw [List.take_append_drop]; exact (List.Perm.cons s hyp).trans (List.perm_append_comm (l₁ := [s])), ins_srt hz hys hnz hjs hnlt, by dsimp only; rw [List.length_append, List.length_cons, List.length_take, List.length_drop]; omega, fun e => absurd e (by simp), own7⟩) (by dsimp only; omega) leZ (psZ) Z pqD
       ·have hq2 := c7
        have hnlt : ∀ q, y.D[z]? = some q → ¬ ltS q s := fun q hq => by rw [hz9] at hq; obtain rfl := Option.some.inj hq; unfold ltS; omega
        refine WMa Z (WMa Z (WMa Z (WMa Z (WMa Z (WMa Z (WMa Z (WMa Z (WMa Z (WMa Z (WMa Z (WM_nil (WQ_code (WC_F Z (WC_exit (WQ_code (WC_seq (WC_draw _ [(0, true), (2, true), (3, true), (4, true), (1, false), (5, false), (6, true)] followsMixed Z Z (by kernel_rfl) .all ?_)))))))))))))))))
        refine WMv Z (R_loadA (vs := [_, _, _, _, _, _, _, _, _]) Z ag84 Z mmD Z atZ) ?_
        refine WMa Z ?_
        first | refine WB_set (s := 74) (v := slV (some wd) y.D.length y.c) rfl (by rw [hod]) ?_ | refine WM_set (s := 74) (v := slV (some wd) y.D.length y.c) rfl (by rw [hod]) ?_
        refine WMa Z (WMv Z (R_sliceFromK (m := z) Z Tryz.underlying57 Tryz.sizeOf84 Z Z (by omega)) ?_)
        refine WMd Z (D_buildSlice Z si57 Z Z Z) ?_
        rintro _ _ ⟨b4, rfl, rfl⟩
        refine ⟨⟨_, pqD⟩, ?_⟩
        refine WMd Z (D_append Z si57 Z (own_litR _ s) plD Z (by rw [← hod]; exact mmD) (at_dropR y.D z y.c hz hyo.le y.t) (by rw [fm_length encR9, List.length_drop]) (encR_one _) (by omega) (by omega)) ?_
        rintro _ _ ⟨o5, c5, tl5, rfl, own5, rfl⟩
        refine ⟨⟨_, pqD⟩, ?_⟩
        refine WMa Z (WM_nil (WQ_code (WC_region (WLa Z (WL_set (s := 78) (v := slV (some wd) y.D.length y.c) Z (by rw [hod]) ?_)))))
        refine WLa Z (WLv Z (R_sliceTo (m := z) Z Tryz.underlying57 Tryz.sizeOf84 Z Z (by have := hyo.le; omega)) ?_)
        refine WLd Z (D_append Z si57 Z (Own.empty 9) plD Z (by rw [← hod]; exact mmD) (at_takeR y.D z y.t) (by rw [fm_length encR9, List.length_take, Nat.min_eq_left hz]) (encR_one _) (by omega) (by omega)) ?_
        rintro _ _ ⟨o6, c6, tl6, rfl, own6, rfl⟩
        refine WLa Z (WLd Z (D_appendO Z si57 Z own6 plD Z own5 mmD (encR_one (s :: y.D.drop z)) (by omega) (by omega)) ?_)
        rintro _ _ ⟨o7, c7, tl7, rfl, own7, rfl⟩
        have hfl : [] ++ (y.D.take z).flatMap encR ++ (encR s ++ (y.D.drop z).flatMap encR) = (y.D.take z ++ s :: y.D.drop z).flatMap encR := by rw [List.flatMap_append, List.flatMap_cons, List.nil_append]
        have hln : 0 + z + (1 + (y.D.length - z)) = (y.D.take z ++ s :: y.D.drop z).length := by rw [List.length_append, List.length_cons, List.length_take, List.length_drop, Nat.min_eq_left hz]; omega
        rw [hfl, hln] at own7
        rw [hfl, hln]
        refine WLa Z (WL_nil (WQ_code (WC_region (WLa Z (WLv Z (R_add Z Z Z (by omega)) ?_)))))
        refine WLa Z (WL_nil ?_)
        refine WQ_nextF (⟨y.k + 1, y.D.take z ++ s :: y.D.drop z, o7, c7, tl7⟩) (⟨by dsimp only; omega, by dsimp only; rw [take_next hs9, List.filter_append, lat_T hyl]; refine List.perm_middle.trans ?_; rw [List.take_append_drop]; exact (List.Perm.cons s hyp).trans (List.perm_append_comm (l₁ := [s])), ins_srt hz hys hnz hjs hnlt, by dsimp only; rw [List.length_append, List.length_cons, List.length_take, List.length_drop]; omega, fun e => absurd e (by simp), own7⟩) (by dsimp only; omega) leZ (psZ) Z pqD
     ·have hge9 : z = y.D.length := by omega
      have hnlt : ∀ q, y.D[z]? = some q → ¬ ltS q s := fun q hq => by rw [List.getElem?_eq_none (by omega)] at hq; cases hq
      refine WMa Z (WMa Z (WMa Z (WMa Z (WMa Z (WMa Z (WMa Z (WMa Z (WMa Z (WMa Z (WMa Z (WMa Z (WMa Z (WMa Z (WMa Z (WMa Z (WMa Z (WMa Z (WMa Z (WMa Z (WMa Z (WMa Z (WMa Z (WMa Z (WMa Z (WMa Z (WMa Z (WMa Z (WMa Z (WM_nil (WQ_code (WC_F Z (WC_exit (WQ_code (WC_seq (WC_draw _ [(0, true), (2, true), (3, true), (4, true), (1, false), (5, false), (6, true)] followsMixed Z Z (by kernel_rfl) .all ?_)))))))))))))))))))))))))))))))))))
      refine WMv Z (R_loadA (vs := [_, _, _, _, _, _, _, _, _]) Z ag84 Z mmD Z atZ) ?_
      refine WMa Z ?_
      first | refine WB_set (s := 74) (v := slV (some wd) y.D.length y.c) rfl (by rw [hod]) ?_ | refine WM_set (s := 74) (v := slV (some wd) y.D.length y.c) rfl (by rw [hod]) ?_
      refine WMa Z (WMv Z (R_sliceFromK (m := z) Z Tryz.underlying57 Tryz.sizeOf84 Z Z (by omega)) ?_)
      refine WMd Z (D_buildSlice Z si57 Z Z Z) ?_
      rintro _ _ ⟨b5, rfl, rfl⟩
      refine ⟨⟨_, pqD⟩, ?_⟩
      refine WMd Z (D_append Z si57 Z (own_litR _ s) plD Z (by rw [← hod]; exact mmD) (at_dropR y.D z y.c hz hyo.le y.t) (by rw [fm_length encR9, List.length_drop]) (encR_one _) (by omega) (by omega)) ?_
      rintro _ _ ⟨o5, c5, tl5, rfl, own5, rfl⟩
      refine ⟨⟨_, pqD⟩, ?_⟩
      refine WMa Z (WM_nil (WQ_code (WC_region (WLa Z (WL_set (s := 78) (v := slV (some wd) y.D.length y.c) Z (by rw [hod]) ?_)))))
      refine WLa Z (WLv Z (R_sliceTo (m := z) Z Tryz.underlying57 Tryz.sizeOf84 Z Z (by have := hyo.le; omega)) ?_)
      refine WLd Z (D_append Z si57 Z (Own.empty 9) plD Z (by rw [← hod]; exact mmD) (at_takeR y.D z y.t) (by rw [fm_length encR9, List.length_take, Nat.min_eq_left hz]) (encR_one _) (by omega) (by omega)) ?_
      rintro _ _ ⟨o6, c6, tl6, rfl, own6, rfl⟩
      refine WLa Z (WLd Z (D_appendO Z si57 Z own6 plD Z own5 mmD (encR_one (s :: y.D.drop z)) (by omega) (by omega)) ?_)
      rintro _ _ ⟨o7, c7, tl7, rfl, own7, rfl⟩
      have hfl : [] ++ (y.D.take z).flatMap encR ++ (encR s ++ (y.D.drop z).flatMap encR) = (y.D.take z ++ s :: y.D.drop z).flatMap encR := by rw [List.flatMap_append, List.flatMap_cons, List.nil_append]
      have hln : 0 + z + (1 + (y.D.length - z)) = (y.D.take z ++ s :: y.D.drop z).length := by rw [List.length_append, List.length_cons, List.length_take, List.length_drop, Nat.min_eq_left hz]; omega
      rw [hfl, hln] at own7
      rw [hfl, hln]
      refine WLa Z (WL_nil (WQ_code (WC_region (WLa Z (WLv Z (R_add Z Z Z (by omega)) ?_)))))
      refine WLa Z (WL_nil ?_)
      refine WQ_nextF (⟨y.k + 1, y.D.take z ++ s :: y.D.drop z, o7, c7, tl7⟩) (⟨by dsimp only; omega, by dsimp only; rw [take_next hs9, List.filter_append, lat_T hyl]; refine List.perm_middle.trans ?_; rw [List.take_append_drop]; exact (List.Perm.cons s hyp).trans (List.perm_append_comm (l₁ := [s])), ins_srt hz hys hnz hjs hnlt, by dsimp only; rw [List.length_append, List.length_cons, List.length_take, List.length_drop]; omega, fun e => absurd e (by simp), own7⟩) (by dsimp only; omega) leZ (psZ) Z pqD
 ·have hkl : y.k = x.S.length := by omega
  refine WC_exit (WQ_code (WCr (WLa Z (WL_nil (WQ_code (WC_block ?_))))))
  rw [hkl, List.take_length] at hyp
  have hDe : y.D = x.due := due_uniq hg.nd hyp hys
  rw [hDe] at hyo ⊢
  have hdl9 : x.due.length ≤ 101 := by rw [← hDe]; omega
  refine WC_loopF (G := RtM) [7, 84, 85, 86, 87, 88, 89, 90, 91, 92, 93, 94, 95, 96, 97, 98, 99, 100, 101, 102, 103, 104, 105, 106, 107, 108, 109, 110, 111, 112] (fun z => z.k ≤ x.due.length ∧ MIs z.N z.M z.x ∧ PXG z.x ∧ z.M.p = M.p ∧ z.x = (x.due.take z.k).foldl (PX.dueF x.now) x ∧ z.N ≤ N + z.k ∧ z.x.E.length ≤ x.E.length + z.k ∧ PXB (b + z.k) z.x ∧ z.x.now = x.now ∧ z.x.pl = x.pl ∧ (∀ s ∈ x.due.drop z.k, s ∈ z.x.S) ∧ ∀ s ∈ z.x.S, 0 ≤ s.num ∧ s.num ≤ 100) (fun z => [(7, .int .i64 (z.k : Int))]) (fun z => mdH z.M z.x) (fun z => x.due.length - z.k) (⟨0, M, x, N⟩) (⟨Nat.zero_le _, h, hg, Z, Z, Nat.le_refl _, Nat.le_refl _, hB, Z, Z, fun s hs => (due_mem hs).1, hnm⟩) leZ pqD ?_
  rintro z ⟨hzk, gz, ggz, hzp, hzx, hzN, hzE, hBz, hznow, hzpl, hrem, hznm⟩
  refine WC_seq (WCr (WLa Z (WLa Z (WLv Z (R_len Z Tryz.underlying57 Z) ?_))))
  refine WLa Z (WL_nil (WQ_code ?_))
  refine WC_dec Z (fun c9 => ?_) (fun c9 => ?_)
  ·refine WC_skip (WQ_code (WC_seq (WC_block (WC_seq (WC_draw _ [(0, true), (1, true), (2, true), (3, true), (4, true), (5, true), (6, true), (7, true), (8, true), (9, true)] followsMixed Z Z (by kernel_rfl) .all ?_)))))
   obtain ⟨s, hsd⟩ := getE (T := x.due) (i := z.k) (by omega)
   obtain ⟨hsS, hst1, _⟩ := due_mem (List.mem_of_getElem? hsd)
   have hsz : s ∈ z.x.S := hrem s (by rw [dropX hsd]; exact List.mem_cons_self ..)
   obtain ⟨A, B, hS⟩ := List.append_of_mem hsz
   obtain ⟨wd, hwd⟩ := hyo.some_of (by omega)
   have hrs := hnm s hsS
   have hks := hg.ks s hsS
   have hzl := nums_len ggz.nd hznm
   refine WMa Z (WMa Z (WMv Z (R_idxO hwd Z Tryz.underlying57 Tryz.sizeOf84 Z Z (by omega)) ?_))
   refine WMf Z fa84_2 (WMv Z (R_loadO (v := .int .u64 (s.dl : Int)) hwd Z sc25 Z mmD (fm_get0 encR9 hsd (j := 2) (by omega))) ?_)
   refine WMa Z (WM_set (s := 95) (v := ptrP z.M.p) Z (by rw [hzp]) ?_)
   refine WMa Z (WMf Z fa60_3 (WMl Z sc25 mmD Z (WMa Z (WM_nil (WQ_code ?_)))))
   refine WC_dec Z (fun c10 => ?_) (fun c10 => ?_)
   ·have hdl : s.dl ≤ z.x.now := by omega
    refine WC_region (WLa Z (WL_set (s := 100) (v := ptrP z.M.p) Z (by rw [hzp]) ?_))
    refine WLa Z (WLa Z (WLv Z (R_idxO hwd Z Tryz.underlying57 Tryz.sizeOf84 Z Z (by omega)) ?_))
    refine WLf Z fa84_0 (WLv Z (R_loadO (v := .int .i64 s.num) hwd Z sc3 Z mmD (fm_get0 encR9 hsd (j := 0) (by omega))) ?_)
    refine WLc Z (mfails_ok z.M z.x gz.sO (by omega) gz.eO (by omega) s.num 12) Z pqD ?_
    rintro _ _ ⟨_, ⟨so1, sc1, stl1, eb1, ek1, ec1, epre1, etl1, rfl, rfl, hO1, hV1⟩, rfl⟩
    refine WL_nil (WQ_code (WC_region (WLa Z (WLv Z (R_add Z Z Z (by omega)) ?_))))
    refine WLa Z (WL_nil ?_)
    obtain ⟨r1, r2, r3, r4, r5⟩ := dueF_rest ggz x.now s hBz
    have hS9 : ∀ q ∈ x.due.drop (z.k + 1), q ∈ (z.x.dueF x.now s).S := fun q hq => by
     have h1 := hrem q (by rw [dropX hsd]; exact List.mem_cons_of_mem _ hq)
     have h2 := due_nodup hg.nd
     have h3 : ((x.due.drop z.k).map (·.num)).Nodup := h2.sublist ((List.drop_sublist ..).map _)
     rw [dropX hsd, List.map_cons, List.nodup_cons] at h3
     exact dueF_only z.x x.now s q h1 (fun e => h3.1 (by rw [← e]; exact List.mem_map_of_mem hq))
    have hn9 := dueF_num (Q := fun n => 0 ≤ n ∧ n ≤ 100) ggz x.now hS hznm
    have hX9 : z.x.mfail s.num 12 = z.x.dueF x.now s := by unfold PX.dueF; rw [if_pos (by rw [← hznow]; exact hdl)]; rfl
    have g3 : MIs (z.N + 1) { z.M with so := so1, sc := sc1, stl := stl1, eb := eb1, ek := ek1, ec := ec1, epre := epre1, etl := etl1 } (z.x.mfail s.num 12) := (gz.s3 (x2 := z.x.mfail s.num 12) rfl rfl rfl rfl hO1 hV1).le (Nat.le_succ _)
    refine WQ_nextF (⟨z.k + 1, { z.M with so := so1, sc := sc1, stl := stl1, eb := eb1, ek := ek1, ec := ec1, epre := epre1, etl := etl1 }, z.x.mfail s.num 12, z.N + 1⟩) (⟨by dsimp only; omega, g3, by dsimp only; rw [hX9]; exact ggz.dueF x.now hS hst1 (by rw [hzpl]; exact hpt), by first | exact hzp | exact hp3.trans hzp, by dsimp only; rw [hX9, foldl_next hsd, ← hzx], by dsimp only; omega, by dsimp only; rw [hX9]; omega, by dsimp only; rw [hX9]; exact r4, by dsimp only; rw [hX9, r1]; exact hznow, by dsimp only; rw [hX9, r2]; exact hzpl, by dsimp only; rw [hX9]; exact hS9, by dsimp only; rw [hX9]; exact hn9⟩) (by dsimp only; omega) leZ (psZ) Z pqD
   ·have hdl : ¬ s.dl ≤ z.x.now := by omega
    refine WC_region (WLa Z (WL_set (s := 107) (v := ptrP z.M.p) Z (by rw [hzp]) ?_))
    refine WLa Z (WLa Z (WLv Z (R_idxO hwd Z Tryz.underlying57 Tryz.sizeOf84 Z Z (by omega)) ?_))
    refine WLv Z (R_loadAO (vs := encR s) hwd Z ag84 Z mmD Z (fm_at0 encR9 hsd (j := 0) (vs := encR s) (fun j v h => by rw [Nat.zero_add]; exact h) (Nat.le_refl 9))) ?_
    refine WLc Z (matt_ok gz (by omega) (by omega) (by omega) ggz.nd s hks.1 (by omega) ggz.bl (fun si hi => by have := hBz si hi; rw [this.1]; exact ⟨Nat.zero_le _, by omega⟩) (fun i si hi => getE_free ggz hsz (by rw [hst1]; decide) (by rw [hst1]; decide) hrs hdl (by rw [hznow]; exact hnw) hi)) Z pqD ?_
    rintro _ _ ⟨_, ⟨M3, rfl, rfl, g3, hp3⟩, rfl⟩
    refine WL_nil (WQ_code (WC_region (WLa Z (WLv Z (R_add Z Z Z (by omega)) ?_))))
    refine WLa Z (WL_nil ?_)
    obtain ⟨r1, r2, r3, r4, r5⟩ := dueF_rest ggz x.now s hBz
    have hS9 : ∀ q ∈ x.due.drop (z.k + 1), q ∈ (z.x.dueF x.now s).S := fun q hq => by
     have h1 := hrem q (by rw [dropX hsd]; exact List.mem_cons_of_mem _ hq)
     have h2 := due_nodup hg.nd
     have h3 : ((x.due.drop z.k).map (·.num)).Nodup := h2.sublist ((List.drop_sublist ..).map _)
     rw [dropX hsd, List.map_cons, List.nodup_cons] at h3
     exact dueF_only z.x x.now s q h1 (fun e => h3.1 (by rw [← e]; exact List.mem_map_of_mem hq))
    have hn9 := dueF_num (Q := fun n => 0 ≤ n ∧ n ≤ 100) ggz x.now hS hznm
    have hX9 : z.x.matt s = z.x.dueF x.now s := by unfold PX.dueF; rw [if_neg (by rw [← hznow]; exact hdl)]; exact matt_in hS ggz.nd
    refine WQ_nextF (⟨z.k + 1, M3, z.x.matt s, z.N + 1⟩) (⟨by dsimp only; omega, g3, by dsimp only; rw [hX9]; exact ggz.dueF x.now hS hst1 (by rw [hzpl]; exact hpt), by first | exact hzp | exact hp3.trans hzp, by dsimp only; rw [hX9, foldl_next hsd, ← hzx], by dsimp only; omega, by dsimp only; rw [hX9]; omega, by dsimp only; rw [hX9]; exact r4, by dsimp only; rw [hX9, r1]; exact hznow, by dsimp only; rw [hX9, r2]; exact hzpl, by dsimp only; rw [hX9]; exact hS9, by dsimp only; rw [hX9]; exact hn9⟩) (by dsimp only; omega) leZ (psZ) Z pqD
  ·refine WC_exit ?_
   have hzl : z.k = x.due.length := by omega
   have hX9 : x.due.foldl (PX.dueF x.now) x = z.x := by
    rw [hzx, hzl, List.take_length]
   rw [hX9]
   refine WQ2 Z (by
     exact ⟨z.M, z.N, rfl, rfl, by omega, gz, hzp⟩) pqD
theorem mwrong_ok (M : MM) (x : PX) (right : Bool) (now : Nat) : Spec Tryz.prog 96 [ptrP M.p, .bool right, .int .u64 (now : Int)] [mdE M x] (fun r H' => r = .int .i64 (x.may right now) ∧ H' = [mdE M x]) := by
 refine Spec.of (E := [(0, ptrP M.p), (1, .bool right), (2, .int .u64 (now : Int))]) Tryz.func96 rfl (by kernel_rfl) Tryz.ntmps96 rfl rfl (fun w => ?_)
 refine WCr (WLa Z (WL_nil (WQ_code (WC_seq (WCr (WLa Z (WLa Z (WL_nil (WQ_code ?_)))))))))
 refine WC_if Z (fun c1 => ?_) (fun c1 => ?_)
 ·have hr : right = false := by simpa using c1
  refine WCr (WLa Z (WL_nil (WQ_code (WC_ret ?_))))
  refine WQ1 Z (by
    first | exact ⟨congrArg (Value.int .i64) (by unfold PX.may; rw [if_pos hr]), rfl⟩ | exact ⟨congrArg (Value.int .i64) (by unfold PX.may; rw [if_neg (by rw [hr]; decide), if_pos (by omega)]), rfl⟩ | exact ⟨congrArg (Value.int .i64) (by unfold PX.may; rw [if_neg (by rw [hr]; decide), if_neg (by omega)]), rfl⟩) pqD
 ·have hr : right = true := by simpa using c1
  refine WC_skip (WQ_code (WC_seq (WCr (WLa Z (WLa Z (WLa Z (WLf Z fa60_3 (WLl Z sc25 mmD Z (WLa Z (WLa Z ?_))))))))))
  refine WL_splitD (s := 15) Z (fun c2 => ?_) (fun c2 => ?_)
  ·have hq := c2
   refine WLa Z (WLa Z (WLa Z (WL_nil (WQ_code (WC_T Z (WCr (WLa Z (WL_nil (WQ_code (WC_ret ?_))))))))))
   refine WQ1 Z (by
     first | exact ⟨congrArg (Value.int .i64) (by unfold PX.may; rw [if_pos hr]), rfl⟩ | exact ⟨congrArg (Value.int .i64) (by unfold PX.may; rw [if_neg (by rw [hr]; decide), if_pos (by omega)]), rfl⟩ | exact ⟨congrArg (Value.int .i64) (by unfold PX.may; rw [if_neg (by rw [hr]; decide), if_neg (by omega)]), rfl⟩) pqD
  ·have hq := c2
   refine WLa Z (WLa Z (WLa Z (WL_nil (WQ_code ?_))))
   refine WC_dec Z (fun c3 => ?_) (fun c3 => ?_)
   ·refine WCr (WLa Z (WL_nil (WQ_code (WC_ret ?_))))
    refine WQ1 Z (by
      first | exact ⟨congrArg (Value.int .i64) (by unfold PX.may; rw [if_pos hr]), rfl⟩ | exact ⟨congrArg (Value.int .i64) (by unfold PX.may; rw [if_neg (by rw [hr]; decide), if_pos (by omega)]), rfl⟩ | exact ⟨congrArg (Value.int .i64) (by unfold PX.may; rw [if_neg (by rw [hr]; decide), if_neg (by omega)]), rfl⟩) pqD
   ·refine WC_skip (WQ_code (WCr (WLa Z (WL_nil (WQ_code (WC_ret ?_))))))
    refine WQ1 Z (by
      first | exact ⟨congrArg (Value.int .i64) (by unfold PX.may; rw [if_pos hr]), rfl⟩ | exact ⟨congrArg (Value.int .i64) (by unfold PX.may; rw [if_neg (by rw [hr]; decide), if_pos (by omega)]), rfl⟩ | exact ⟨congrArg (Value.int .i64) (by unfold PX.may; rw [if_neg (by rw [hr]; decide), if_neg (by omega)]), rfl⟩) pqD
theorem mdo0_bad (M : MM) (x : PX) (n : Int) (now dl : Nat) (key : ByteArray) (good : Bool) (he : x.may (decide ((0 ≤ n ∧ n ≤ 100) ∧ key.size ≤ 64)) now ≠ 0) : Spec Tryz.prog 52 [ptrP M.p, .agg #[.int .i64 0, .int .i64 n, .int .u64 (now : Int), .int .u64 (dl : Int), .string key, .bool good]] [mdE M x] (fun r H' => r = .int .i64 (x.may (decide ((0 ≤ n ∧ n ≤ 100) ∧ key.size ≤ 64)) now) ∧ H' = [mdE M x]) := by
 refine Spec.of (E := [(0, ptrP M.p), (1, .agg #[.int .i64 0, .int .i64 n, .int .u64 (now : Int), .int .u64 (dl : Int), .string key, .bool good])]) Tryz.func52 rfl (by kernel_rfl) Tryz.ntmps52 rfl rfl (fun w => ?_)
 refine WCr (WLd Z (D_box (cs := [_, _, _, _, _, _]) Z Z Z) ?_)
 rintro _ _ ⟨b1, rfl, rfl⟩
 refine WLa Z (WL_nil (WQ_code (WCr (WLa Z (WLf Z fa43_0 (WLl Z sc3 mmD Z (WLa Z (WLa Z (WL_set (s := 14) (v := .bool false) Z (by simp) ?_)))))))))
 refine WLf Z fa43_1 (WLl Z sc3 mmD Z (WLa Z (WLa Z ?_)))
 refine WL_splitD (s := 18) Z (fun c1 => ?_) (fun c1 => ?_)
 ·have hq1 := c1
  refine WLf Z fa43_1 (WLl Z sc3 mmD Z (WLa Z (WLa Z (WLa Z ?_))))
  refine WL_splitD (s := 23) Z (fun c2 => ?_) (fun c2 => ?_)
  ·have hq2 := c2
   refine WLf Z fa43_0 (WLl Z sc3 mmD Z (WLa Z (WLa Z (WL_set (s := 27) (v := .bool false) Z (by simp) ?_))))
   refine WLf Z fa43_4 (WLl Z sc9 mmD Z (WLv Z (R_lenStr Z Tryz.underlying9 Z) ?_))
   refine WLa Z (WLa Z (WLa Z (WLa Z ?_)))
   first | refine WL_set (s := 34) (v := .bool (decide ((0 ≤ n ∧ n ≤ 100) ∧ key.size ≤ 64))) rfl (by exact congrArg Value.bool (decide_eq_decide.2 (by omega))) ?_ | refine WL_set (s := 34) (v := .bool (decide ((0 ≤ n ∧ n ≤ 100) ∧ key.size ≤ 64))) rfl (by exact congrArg Value.bool (decide_eq_false (by omega)).symm) ?_ | refine WL_set (s := 34) (v := .bool (decide ((0 ≤ n ∧ n ≤ 100) ∧ key.size ≤ 64))) rfl (by exact congrArg Value.bool (decide_eq_true (by omega)).symm) ?_
   refine WLf Z fa43_2 (WLl Z sc25 mmD Z (WLq Z (mwrong_ok M x (decide ((0 ≤ n ∧ n ≤ 100) ∧ key.size ≤ 64)) now) Z pqD ?_))
   refine WLa Z (WL_nil (WQ_code (WC_seq (WCr (WLa Z (WLa Z (WL_nil (WQ_code (WC_dT Z (by exact he) ?_)))))))))
   refine WCr (WLa Z (WLa Z (WL_nil (WQ_code (WC_ret ?_)))))
   refine WQ1 Z (by
     exact ⟨rfl, rfl⟩) pqD
  ·have hq2 := c2
   refine WLa Z (WLa Z (WLa Z (WLa Z (WLa Z (WLa Z (WLa Z (WLa Z (WLa Z (WLa Z (WLa Z ?_))))))))))
   first | refine WL_set (s := 34) (v := .bool (decide ((0 ≤ n ∧ n ≤ 100) ∧ key.size ≤ 64))) rfl (by exact congrArg Value.bool (decide_eq_decide.2 (by omega))) ?_ | refine WL_set (s := 34) (v := .bool (decide ((0 ≤ n ∧ n ≤ 100) ∧ key.size ≤ 64))) rfl (by exact congrArg Value.bool (decide_eq_false (by omega)).symm) ?_ | refine WL_set (s := 34) (v := .bool (decide ((0 ≤ n ∧ n ≤ 100) ∧ key.size ≤ 64))) rfl (by exact congrArg Value.bool (decide_eq_true (by omega)).symm) ?_
   refine WLf Z fa43_2 (WLl Z sc25 mmD Z (WLq Z (mwrong_ok M x (decide ((0 ≤ n ∧ n ≤ 100) ∧ key.size ≤ 64)) now) Z pqD ?_))
   refine WLa Z (WL_nil (WQ_code (WC_seq (WCr (WLa Z (WLa Z (WL_nil (WQ_code (WC_dT Z (by exact he) ?_)))))))))
   refine WCr (WLa Z (WLa Z (WL_nil (WQ_code (WC_ret ?_)))))
   refine WQ1 Z (by
     exact ⟨rfl, rfl⟩) pqD
 ·have hq1 := c1
  refine WLa Z (WLa Z (WLa Z (WLa Z (WLa Z (WLa Z (WLa Z (WLa Z (WLa Z (WLa Z (WLa Z (WLa Z (WLa Z (WLa Z (WLa Z (WLa Z ?_)))))))))))))))
  first | refine WL_set (s := 34) (v := .bool (decide ((0 ≤ n ∧ n ≤ 100) ∧ key.size ≤ 64))) rfl (by exact congrArg Value.bool (decide_eq_decide.2 (by omega))) ?_ | refine WL_set (s := 34) (v := .bool (decide ((0 ≤ n ∧ n ≤ 100) ∧ key.size ≤ 64))) rfl (by exact congrArg Value.bool (decide_eq_false (by omega)).symm) ?_ | refine WL_set (s := 34) (v := .bool (decide ((0 ≤ n ∧ n ≤ 100) ∧ key.size ≤ 64))) rfl (by exact congrArg Value.bool (decide_eq_true (by omega)).symm) ?_
  refine WLf Z fa43_2 (WLl Z sc25 mmD Z (WLq Z (mwrong_ok M x (decide ((0 ≤ n ∧ n ≤ 100) ∧ key.size ≤ 64)) now) Z pqD ?_))
  refine WLa Z (WL_nil (WQ_code (WC_seq (WCr (WLa Z (WLa Z (WL_nil (WQ_code (WC_dT Z (by exact he) ?_)))))))))
  refine WCr (WLa Z (WLa Z (WL_nil (WQ_code (WC_ret ?_)))))
  refine WQ1 Z (by
    exact ⟨rfl, rfl⟩) pqD
theorem mdo1_bad (M : MM) (x : PX) (n : Int) (now dl : Nat) (key : ByteArray) (good : Bool) (he : x.may (decide (0 ≤ n ∧ n ≤ 100)) now ≠ 0) : Spec Tryz.prog 52 [ptrP M.p, .agg #[.int .i64 1, .int .i64 n, .int .u64 (now : Int), .int .u64 (dl : Int), .string key, .bool good]] [mdE M x] (fun r H' => r = .int .i64 (x.may (decide (0 ≤ n ∧ n ≤ 100)) now) ∧ H' = [mdE M x]) := by
 refine Spec.of (E := [(0, ptrP M.p), (1, .agg #[.int .i64 1, .int .i64 n, .int .u64 (now : Int), .int .u64 (dl : Int), .string key, .bool good])]) Tryz.func52 rfl (by kernel_rfl) Tryz.ntmps52 rfl rfl (fun w => ?_)
 refine WCr (WLd Z (D_box (cs := [_, _, _, _, _, _]) Z Z Z) ?_)
 rintro _ _ ⟨b1, rfl, rfl⟩
 refine WLa Z (WL_nil (WQ_code (WCr (WLa Z (WLf Z fa43_0 (WLl Z sc3 mmD Z (WLa Z (WLa Z (WL_set (s := 14) (v := .bool false) Z (by simp) ?_)))))))))
 refine WLf Z fa43_1 (WLl Z sc3 mmD Z (WLa Z (WLa Z ?_)))
 refine WL_splitD (s := 18) Z (fun c1 => ?_) (fun c1 => ?_)
 ·have hq1 := c1
  refine WLf Z fa43_1 (WLl Z sc3 mmD Z (WLa Z (WLa Z (WLa Z ?_))))
  refine WL_splitD (s := 23) Z (fun c2 => ?_) (fun c2 => ?_)
  ·have hq2 := c2
   refine WLf Z fa43_0 (WLl Z sc3 mmD Z (WLa Z (WLa Z (WL_set (s := 27) (v := .bool true) Z (by simp) ?_))))
   refine WLa Z (WLa Z (WLa Z (WLa Z (WLa Z (WLa Z (WLa Z ?_))))))
   first | refine WL_set (s := 34) (v := .bool (decide (0 ≤ n ∧ n ≤ 100))) rfl (by exact congrArg Value.bool (decide_eq_decide.2 (by omega))) ?_ | refine WL_set (s := 34) (v := .bool (decide (0 ≤ n ∧ n ≤ 100))) rfl (by exact congrArg Value.bool (decide_eq_false (by omega)).symm) ?_ | refine WL_set (s := 34) (v := .bool (decide (0 ≤ n ∧ n ≤ 100))) rfl (by exact congrArg Value.bool (decide_eq_true (by omega)).symm) ?_
   refine WLf Z fa43_2 (WLl Z sc25 mmD Z (WLq Z (mwrong_ok M x (decide (0 ≤ n ∧ n ≤ 100)) now) Z pqD ?_))
   refine WLa Z (WL_nil (WQ_code (WC_seq (WCr (WLa Z (WLa Z (WL_nil (WQ_code (WC_dT Z (by exact he) ?_)))))))))
   refine WCr (WLa Z (WLa Z (WL_nil (WQ_code (WC_ret ?_)))))
   refine WQ1 Z (by
     exact ⟨rfl, rfl⟩) pqD
  ·have hq2 := c2
   refine WLa Z (WLa Z (WLa Z (WLa Z (WLa Z (WLa Z (WLa Z (WLa Z (WLa Z (WLa Z (WLa Z ?_))))))))))
   first | refine WL_set (s := 34) (v := .bool (decide (0 ≤ n ∧ n ≤ 100))) rfl (by exact congrArg Value.bool (decide_eq_decide.2 (by omega))) ?_ | refine WL_set (s := 34) (v := .bool (decide (0 ≤ n ∧ n ≤ 100))) rfl (by exact congrArg Value.bool (decide_eq_false (by omega)).symm) ?_ | refine WL_set (s := 34) (v := .bool (decide (0 ≤ n ∧ n ≤ 100))) rfl (by exact congrArg Value.bool (decide_eq_true (by omega)).symm) ?_
   refine WLf Z fa43_2 (WLl Z sc25 mmD Z (WLq Z (mwrong_ok M x (decide (0 ≤ n ∧ n ≤ 100)) now) Z pqD ?_))
   refine WLa Z (WL_nil (WQ_code (WC_seq (WCr (WLa Z (WLa Z (WL_nil (WQ_code (WC_dT Z (by exact he) ?_)))))))))
   refine WCr (WLa Z (WLa Z (WL_nil (WQ_code (WC_ret ?_)))))
   refine WQ1 Z (by
     exact ⟨rfl, rfl⟩) pqD
 ·have hq1 := c1
  refine WLa Z (WLa Z (WLa Z (WLa Z (WLa Z (WLa Z (WLa Z (WLa Z (WLa Z (WLa Z (WLa Z (WLa Z (WLa Z (WLa Z (WLa Z (WLa Z ?_)))))))))))))))
  first | refine WL_set (s := 34) (v := .bool (decide (0 ≤ n ∧ n ≤ 100))) rfl (by exact congrArg Value.bool (decide_eq_decide.2 (by omega))) ?_ | refine WL_set (s := 34) (v := .bool (decide (0 ≤ n ∧ n ≤ 100))) rfl (by exact congrArg Value.bool (decide_eq_false (by omega)).symm) ?_ | refine WL_set (s := 34) (v := .bool (decide (0 ≤ n ∧ n ≤ 100))) rfl (by exact congrArg Value.bool (decide_eq_true (by omega)).symm) ?_
  refine WLf Z fa43_2 (WLl Z sc25 mmD Z (WLq Z (mwrong_ok M x (decide (0 ≤ n ∧ n ≤ 100)) now) Z pqD ?_))
  refine WLa Z (WL_nil (WQ_code (WC_seq (WCr (WLa Z (WLa Z (WL_nil (WQ_code (WC_dT Z (by exact he) ?_)))))))))
  refine WCr (WLa Z (WLa Z (WL_nil (WQ_code (WC_ret ?_)))))
  refine WQ1 Z (by
    exact ⟨rfl, rfl⟩) pqD
theorem mdo2_bad (M : MM) (x : PX) (n : Int) (now dl : Nat) (key : ByteArray) (good : Bool) (he : x.may (decide (0 ≤ n ∧ n ≤ 100)) now ≠ 0) : Spec Tryz.prog 52 [ptrP M.p, .agg #[.int .i64 2, .int .i64 n, .int .u64 (now : Int), .int .u64 (dl : Int), .string key, .bool good]] [mdE M x] (fun r H' => r = .int .i64 (x.may (decide (0 ≤ n ∧ n ≤ 100)) now) ∧ H' = [mdE M x]) := by
 refine Spec.of (E := [(0, ptrP M.p), (1, .agg #[.int .i64 2, .int .i64 n, .int .u64 (now : Int), .int .u64 (dl : Int), .string key, .bool good])]) Tryz.func52 rfl (by kernel_rfl) Tryz.ntmps52 rfl rfl (fun w => ?_)
 refine WCr (WLd Z (D_box (cs := [_, _, _, _, _, _]) Z Z Z) ?_)
 rintro _ _ ⟨b1, rfl, rfl⟩
 refine WLa Z (WL_nil (WQ_code (WCr (WLa Z (WLf Z fa43_0 (WLl Z sc3 mmD Z (WLa Z (WLa Z (WL_set (s := 14) (v := .bool false) Z (by simp) ?_)))))))))
 refine WLf Z fa43_1 (WLl Z sc3 mmD Z (WLa Z (WLa Z ?_)))
 refine WL_splitD (s := 18) Z (fun c1 => ?_) (fun c1 => ?_)
 ·have hq1 := c1
  refine WLf Z fa43_1 (WLl Z sc3 mmD Z (WLa Z (WLa Z (WLa Z ?_))))
  refine WL_splitD (s := 23) Z (fun c2 => ?_) (fun c2 => ?_)
  ·have hq2 := c2
   refine WLf Z fa43_0 (WLl Z sc3 mmD Z (WLa Z (WLa Z (WL_set (s := 27) (v := .bool true) Z (by simp) ?_))))
   refine WLa Z (WLa Z (WLa Z (WLa Z (WLa Z (WLa Z (WLa Z ?_))))))
   first | refine WL_set (s := 34) (v := .bool (decide (0 ≤ n ∧ n ≤ 100))) rfl (by exact congrArg Value.bool (decide_eq_decide.2 (by omega))) ?_ | refine WL_set (s := 34) (v := .bool (decide (0 ≤ n ∧ n ≤ 100))) rfl (by exact congrArg Value.bool (decide_eq_false (by omega)).symm) ?_ | refine WL_set (s := 34) (v := .bool (decide (0 ≤ n ∧ n ≤ 100))) rfl (by exact congrArg Value.bool (decide_eq_true (by omega)).symm) ?_
   refine WLf Z fa43_2 (WLl Z sc25 mmD Z (WLq Z (mwrong_ok M x (decide (0 ≤ n ∧ n ≤ 100)) now) Z pqD ?_))
   refine WLa Z (WL_nil (WQ_code (WC_seq (WCr (WLa Z (WLa Z (WL_nil (WQ_code (WC_dT Z (by exact he) ?_)))))))))
   refine WCr (WLa Z (WLa Z (WL_nil (WQ_code (WC_ret ?_)))))
   refine WQ1 Z (by
     exact ⟨rfl, rfl⟩) pqD
  ·have hq2 := c2
   refine WLa Z (WLa Z (WLa Z (WLa Z (WLa Z (WLa Z (WLa Z (WLa Z (WLa Z (WLa Z (WLa Z ?_))))))))))
   first | refine WL_set (s := 34) (v := .bool (decide (0 ≤ n ∧ n ≤ 100))) rfl (by exact congrArg Value.bool (decide_eq_decide.2 (by omega))) ?_ | refine WL_set (s := 34) (v := .bool (decide (0 ≤ n ∧ n ≤ 100))) rfl (by exact congrArg Value.bool (decide_eq_false (by omega)).symm) ?_ | refine WL_set (s := 34) (v := .bool (decide (0 ≤ n ∧ n ≤ 100))) rfl (by exact congrArg Value.bool (decide_eq_true (by omega)).symm) ?_
   refine WLf Z fa43_2 (WLl Z sc25 mmD Z (WLq Z (mwrong_ok M x (decide (0 ≤ n ∧ n ≤ 100)) now) Z pqD ?_))
   refine WLa Z (WL_nil (WQ_code (WC_seq (WCr (WLa Z (WLa Z (WL_nil (WQ_code (WC_dT Z (by exact he) ?_)))))))))
   refine WCr (WLa Z (WLa Z (WL_nil (WQ_code (WC_ret ?_)))))
   refine WQ1 Z (by
     exact ⟨rfl, rfl⟩) pqD
 ·have hq1 := c1
  refine WLa Z (WLa Z (WLa Z (WLa Z (WLa Z (WLa Z (WLa Z (WLa Z (WLa Z (WLa Z (WLa Z (WLa Z (WLa Z (WLa Z (WLa Z (WLa Z ?_)))))))))))))))
  first | refine WL_set (s := 34) (v := .bool (decide (0 ≤ n ∧ n ≤ 100))) rfl (by exact congrArg Value.bool (decide_eq_decide.2 (by omega))) ?_ | refine WL_set (s := 34) (v := .bool (decide (0 ≤ n ∧ n ≤ 100))) rfl (by exact congrArg Value.bool (decide_eq_false (by omega)).symm) ?_ | refine WL_set (s := 34) (v := .bool (decide (0 ≤ n ∧ n ≤ 100))) rfl (by exact congrArg Value.bool (decide_eq_true (by omega)).symm) ?_
  refine WLf Z fa43_2 (WLl Z sc25 mmD Z (WLq Z (mwrong_ok M x (decide (0 ≤ n ∧ n ≤ 100)) now) Z pqD ?_))
  refine WLa Z (WL_nil (WQ_code (WC_seq (WCr (WLa Z (WLa Z (WL_nil (WQ_code (WC_dT Z (by exact he) ?_)))))))))
  refine WCr (WLa Z (WLa Z (WL_nil (WQ_code (WC_ret ?_)))))
  refine WQ1 Z (by
    exact ⟨rfl, rfl⟩) pqD
theorem mdo3_bad (M : MM) (x : PX) (n : Int) (now dl : Nat) (key : ByteArray) (good : Bool) (he : x.may true now ≠ 0) : Spec Tryz.prog 52 [ptrP M.p, .agg #[.int .i64 3, .int .i64 n, .int .u64 (now : Int), .int .u64 (dl : Int), .string key, .bool good]] [mdE M x] (fun r H' => r = .int .i64 (x.may true now) ∧ H' = [mdE M x]) := by
 refine Spec.of (E := [(0, ptrP M.p), (1, .agg #[.int .i64 3, .int .i64 n, .int .u64 (now : Int), .int .u64 (dl : Int), .string key, .bool good])]) Tryz.func52 rfl (by kernel_rfl) Tryz.ntmps52 rfl rfl (fun w => ?_)
 refine WCr (WLd Z (D_box (cs := [_, _, _, _, _, _]) Z Z Z) ?_)
 rintro _ _ ⟨b1, rfl, rfl⟩
 refine WLa Z (WL_nil (WQ_code (WCr (WLa Z (WLf Z fa43_0 (WLl Z sc3 mmD Z (WLa Z (WLa Z (WL_set (s := 14) (v := .bool true) Z (by simp) ?_)))))))))
 refine WLa Z (WLa Z (WLa Z (WLa Z (WLa Z (WLa Z (WLa Z (WLa Z (WLa Z (WLa Z (WLa Z (WLa Z (WLa Z (WLa Z (WLa Z (WLa Z (WLa Z (WLa Z (WLa Z (WLa Z (WLf Z fa43_2 (WLl Z sc25 mmD Z (WLq Z (mwrong_ok M x true now) Z pqD ?_))))))))))))))))))))))
 refine WLa Z (WL_nil (WQ_code (WC_seq (WCr (WLa Z (WLa Z (WL_nil (WQ_code (WC_dT Z (by exact he) ?_)))))))))
 refine WCr (WLa Z (WLa Z (WL_nil (WQ_code (WC_ret ?_)))))
 refine WQ1 Z (by
   exact ⟨rfl, rfl⟩) pqD
theorem mdo0_ok {N : Nat} {M : MM} {x : PX} (h : MIs N M x) {w b e : Nat} (o : PXO w b e x) (hnm : ∀ s ∈ x.S, 0 ≤ s.num ∧ s.num ≤ 100) (hN : N ≤ 7000) (he9 : e ≤ 10000) (hb9 : b ≤ 1000000) (n : Int) (now dl : Nat) (key : ByteArray) (good : Bool) (hb : now ≤ 18446744073709551615) (hm0 : x.may (decide ((0 ≤ n ∧ n ≤ 100) ∧ key.size ≤ 64)) now = 0) (p : Nat) : Spec Tryz.prog 52 [ptrP M.p, .agg #[.int .i64 0, .int .i64 n, .int .u64 (now : Int), .int .u64 (dl : Int), .string key, .bool good]] (mdH M x) (fun r H' => ∃ M', r = .int .i64 (x.begE n now dl key) ∧ H' = mdH M' (if x.begE n now dl key ≠ 0 then x else x.begin n now dl key p) ∧ MIs (N + 1) M' (if x.begE n now dl key ≠ 0 then x else x.begin n now dl key p) ∧ M'.p = M.p) := by
 have hSl := nums_len o.g.nd hnm
 have hE9 := o.e
 obtain ⟨hr9, hn1, hn2⟩ := xmay_zero_of hm0
 obtain ⟨hr, hk⟩ := of_decide_eq_true hr9
 have hm : x.may true now = 0 := by rw [← hm0, hr9]
 have hBE : x.begE n now dl key = if dl ≤ now then 3 else if n ∈ x.S.map (·.num) then 11 else 0 := by unfold PX.begE; rw [if_neg (by rw [hm0]; decide)]
 refine Spec.of (E := [(0, ptrP M.p), (1, .agg #[.int .i64 0, .int .i64 n, .int .u64 (now : Int), .int .u64 (dl : Int), .string key, .bool good])]) Tryz.func52 rfl (by kernel_rfl) Tryz.ntmps52 rfl rfl (fun w => ?_)
 refine WCr (WLd Z (D_box (cs := [_, _, _, _, _, _]) Z Z Z) ?_)
 rintro _ _ ⟨b1, rfl, rfl⟩
 refine WLa Z (WL_nil (WQ_code (WCr (WLa Z (WLf Z fa43_0 (WLl Z sc3 mmD Z (WLa Z (WLa Z (WL_set (s := 14) (v := .bool false) Z (by simp) ?_)))))))))
 refine WLf Z fa43_1 (WLl Z sc3 mmD Z (WLa Z (WLa Z (WL_set (s := 18) (v := .bool true) Z (by exact congrArg Value.bool (decide_eq_true (by omega))) ?_))))
 refine WLf Z fa43_1 (WLl Z sc3 mmD Z (WLa Z (WLa Z (WLa Z (WL_set (s := 23) (v := .bool true) Z (by exact congrArg Value.bool (decide_eq_true (by omega))) ?_)))))
 refine WLf Z fa43_0 (WLl Z sc3 mmD Z (WLa Z (WLa Z (WL_set (s := 27) (v := .bool false) Z (by simp) ?_))))
 refine WLf Z fa43_4 (WLl Z sc9 mmD Z (WLv Z (R_lenStr Z Tryz.underlying9 Z) ?_))
 refine WLa Z (WLa Z (WLa Z (WLa Z ?_)))
 first | refine WL_set (s := 34) (v := .bool true) rfl (by exact congrArg Value.bool (decide_eq_true (by omega))) ?_ | refine WL_set (s := 34) (v := .bool true) rfl rfl ?_
 refine WLf Z fa43_2 (WLl Z sc25 mmD Z (WLq Z (mwrong_ok M x true now) Z pqD ?_))
 refine WLa Z (WL_nil (WQ_code (WC_seq (WCr (WLa Z (WLa Z (WL_nil (WQ_code (WC_dF Z (by rw [hm]; simp) ?_)))))))))
 refine WC_skip (WQ_code (WCr (WLa Z (WLf Z fa43_1 (WLl Z sc3 mmD Z (WLq Z (mfind_ok M x h.sO (by omega) n) Z pqD ?_))))))
 refine WLa Z (WL_nil (WQ_code (WC_seq (WCr (WLf Z fa43_0 (WLl Z sc3 mmD Z (WL_nil (WQ_code (WC_block (WCr (WLa Z (WLa Z (WL_nil (WQ_code (WC_dT Z (by simp) ?_)))))))))))))))
 refine WC_seq (WCr (WLf Z fa43_3 (WLl Z sc25 mmD Z (WLf Z fa43_2 (WLl Z sc25 mmD Z (WLa Z (WL_nil (WQ_code ?_))))))))
 refine WC_dec Z (fun c1 => ?_) (fun c1 => ?_)
 ·have hdl : dl ≤ now := by omega
  have hB9 : x.begE n now dl key = 3 := by rw [hBE, if_pos hdl]
  refine WCr (WLa Z (WL_nil (WQ_code (WC_ret ?_))))
  rw [hB9, if_pos (by decide)]
  refine WQ1 Z (by
    exact ⟨M, rfl, rfl, h.le (Nat.le_succ N), rfl⟩) pqD
 ·have hdl : ¬ dl ≤ now := by omega
  refine WC_skip (WQ_code (WC_seq (WCr (WLa Z (WLa Z (WL_nil (WQ_code ?_)))))))
  refine WC_dec Z (fun c2 => ?_) (fun c2 => ?_)
  ·have hB9 : x.begE n now dl key = 11 := by
    rw [hBE, if_neg hdl, if_pos (Classical.byContradiction fun e9 => by rw [idS_no e9] at c2; omega)]
   refine WCr (WLa Z (WL_nil (WQ_code (WC_ret ?_))))
   rw [hB9, if_pos (by decide)]
   refine WQ1 Z (by
     exact ⟨M, rfl, rfl, h.le (Nat.le_succ N), rfl⟩) pqD
  ·have hno : n ∉ x.S.map (·.num) := fun e9 => by
    obtain ⟨s, hs, rfl⟩ := List.mem_map.1 e9
    obtain ⟨A, B, hS⟩ := List.append_of_mem hs
    rw [idS_at hS o.g.nd] at c2; omega
   have hB9 : x.begE n now dl key = 0 := by rw [hBE, if_neg hdl, if_neg hno]
   have gb0 := o.g.beg0 (dl := dl) p hk hn1 hno
   have hge9 : ∀ (i : Nat) (si : PS), x.P[i]? = some si → getE_ si n now dl = 0 := fun i si hi => getE_free gb0 (s := newS n dl key p) (List.mem_append_right _ (List.mem_singleton.2 rfl)) (by show (0 : Int) ≠ 2; decide) (by show (0 : Int) ≠ 3; decide) hr hdl hn2 hi
   have hX9 : PX.matt { x with now := now } (newS n dl key p) = x.begin n now dl key p := matt_new (x := { x with now := now }) hno gb0.nd
   refine WC_skip (WQ_code (WCr (WLa Z (WLf Z fa43_2 (WLl Z sc25 mmD Z (WLa Z (WLf Z fa60_3 (WLs (vs := [_]) Z Tryz.sizeOf25 Z Z plD (nb Z) ?_))))))))
   refine WL_shape (A := [mdE M { x with now := now }]) pqD (List.Perm.refl _) ?_
   refine WL_nil (WQ_code (WC_region (WLa Z (WLf Z fa43_1 (WLl Z sc3 mmD Z (WLf Z fa43_4 (WLl Z sc9 mmD Z (WLf Z fa43_3 (WLl Z sc25 mmD Z (WLv Z (R_build Z zv84 pl84 Z Z) ?_))))))))))
   refine WLc Z (matt_ok (h.at_ (now := now) (by omega)) (by omega) (by show x.E.length ≤ _; omega) (by show x.S.length ≤ _; omega) o.g.nd (newS n dl key p) hk (by show 0 ≤ 1000; omega) (by have := o.g.bl; show x.b.last ≤ now; omega) (o.b4 hb9) (fun i si hi => hge9 i si hi)) Z pqD ?_
   rintro _ _ ⟨_, ⟨M1, rfl, rfl, h1, hp1⟩, rfl⟩
   refine WL_nil (WQ_code (WCr (WLa Z (WL_nil (WQ_code (WC_ret ?_))))))
   rw [hB9, if_neg (by decide), ← hX9]
   refine WQ1 Z (by
     exact ⟨M1, rfl, rfl, h1, hp1⟩) pqD
theorem mdo1_none {N : Nat} {M : MM} {x : PX} (h : MIs N M x) {w b e : Nat} (o : PXO w b e x) (hnm : ∀ s ∈ x.S, 0 ≤ s.num ∧ s.num ≤ 100) (hN : N ≤ 7000) (he9 : e ≤ 10000) (hb9 : b ≤ 1000000) (n : Int) (now dl : Nat) (key : ByteArray) (good : Bool) (hm0 : x.may (decide (0 ≤ n ∧ n ≤ 100)) now = 0) (hX : x.inX n 3 now = 9) : Spec Tryz.prog 52 [ptrP M.p, .agg #[.int .i64 1, .int .i64 n, .int .u64 (now : Int), .int .u64 (dl : Int), .string key, .bool good]] [mdE M x, mdS M x] (fun r H' => r = .int .i64 9 ∧ H' = [mdE M x, mdS M x]) := by
 have hSl := nums_len o.g.nd hnm
 have hE9 := o.e
 obtain ⟨hr9, hn1, hn2⟩ := xmay_zero_of hm0
 have hr9 := of_decide_eq_true hr9
 have hm : x.may true now = 0 := by rw [← hm0, decide_eq_true hr9]
 by_cases hin : n ∈ x.S.map (·.num)
 ·obtain ⟨s, hs, rfl⟩ := List.mem_map.1 hin
  obtain ⟨A, B, hS⟩ := List.append_of_mem hs
  have hid : idS s.num x.S = (A.length : Int) := idS_at hS o.g.nd
  have hat : x.S[A.length]? = some s := by rw [hS, List.getElem?_append_right (Nat.le_refl _), Nat.sub_self]; rfl
  have hAl := (List.getElem?_eq_some_iff.1 hat).1
  have hst : s.st ≠ 3 := fun e9 => by unfold PX.inX at hX; rw [if_neg (by rw [hm0]; decide), find_num o.g.nd hs] at hX; dsimp only at hX; rw [if_pos e9] at hX; exact absurd hX (by decide)
  obtain ⟨wa, hwa⟩ := h.sO.some_of (by omega)
  refine Spec.of (E := [(0, ptrP M.p), (1, .agg #[.int .i64 1, .int .i64 s.num, .int .u64 (now : Int), .int .u64 (dl : Int), .string key, .bool good])]) Tryz.func52 rfl (by kernel_rfl) Tryz.ntmps52 rfl rfl (fun w => ?_)
  refine WCr (WLd Z (D_box (cs := [_, _, _, _, _, _]) Z Z Z) ?_)
  rintro _ _ ⟨b1, rfl, rfl⟩
  refine WLa Z (WL_nil (WQ_code (WCr (WLa Z (WLf Z fa43_0 (WLl Z sc3 mmD Z (WLa Z (WLa Z (WL_set (s := 14) (v := .bool false) Z (by simp) ?_)))))))))
  refine WLf Z fa43_1 (WLl Z sc3 mmD Z (WLa Z (WLa Z (WL_set (s := 18) (v := .bool true) Z (by exact congrArg Value.bool (decide_eq_true (by omega))) ?_))))
  refine WLf Z fa43_1 (WLl Z sc3 mmD Z (WLa Z (WLa Z (WLa Z (WL_set (s := 23) (v := .bool true) Z (by exact congrArg Value.bool (decide_eq_true (by omega))) ?_)))))
  refine WLf Z fa43_0 (WLl Z sc3 mmD Z (WLa Z (WLa Z (WL_set (s := 27) (v := .bool true) Z (by simp) ?_))))
  refine WLa Z (WLa Z (WLa Z (WLa Z (WLa Z (WLa Z (WLa Z ?_))))))
  first | refine WL_set (s := 34) (v := .bool true) rfl (by exact congrArg Value.bool (decide_eq_true (by omega))) ?_ | refine WL_set (s := 34) (v := .bool true) rfl rfl ?_
  refine WLf Z fa43_2 (WLl Z sc25 mmD Z (WLq Z (mwrong_ok M x true now) Z pqD ?_))
  refine WLa Z (WL_nil (WQ_code (WC_seq (WCr (WLa Z (WLa Z (WL_nil (WQ_code (WC_dF Z (by rw [hm]; simp) ?_)))))))))
  refine WC_skip (WQ_code (WCr (WLa Z (WLf Z fa43_1 (WLl Z sc3 mmD Z (WLq Z (mfind_ok M x h.sO (by omega) s.num) Z pqD ?_))))))
  rw [hid]
  refine WLa Z (WL_nil (WQ_code (WC_seq (WCr (WLf Z fa43_0 (WLl Z sc3 mmD Z (WL_nil (WQ_code (WC_block (WCr (WLa Z (WLa Z (WL_nil (WQ_code (WC_dF Z (by simp) ?_)))))))))))))))
  refine WCr (WLa Z (WLa Z (WL_nil (WQ_code (WC_dT Z (by simp) ?_)))))
  refine WC_seq (WCr (WLa Z (WLa Z (WLa Z (WL_set (s := 74) (v := .bool false) Z (by exact congrArg Value.bool (decide_eq_false (by omega))) ?_)))))
  refine WLa Z (WLa Z (WLf Z fa60_4 (WLl Z sc57 mmD Z (WLa Z (WLv Z (R_idxO hwa Z Tryz.underlying57 Tryz.sizeOf84 Z Z (by omega)) ?_)))))
  refine WLf Z fa84_5 (WLv Z (R_loadO (v := .int .i64 s.st) hwa Z sc49 Z mmD (fm_get0 encR9 hat (j := 5) (by omega))) ?_)
  refine WLa Z (WLa Z (WL_nil (WQ_code (WC_dT Z (by exact hst) ?_))))
  refine WCr (WLa Z (WL_nil (WQ_code (WC_ret ?_))))
  refine WQ1 Z (by
    exact ⟨rfl, rfl⟩) pqD
 ·have hid : idS n x.S = -1 := idS_no hin
  refine Spec.of (E := [(0, ptrP M.p), (1, .agg #[.int .i64 1, .int .i64 n, .int .u64 (now : Int), .int .u64 (dl : Int), .string key, .bool good])]) Tryz.func52 rfl (by kernel_rfl) Tryz.ntmps52 rfl rfl (fun w => ?_)
  refine WCr (WLd Z (D_box (cs := [_, _, _, _, _, _]) Z Z Z) ?_)
  rintro _ _ ⟨b1, rfl, rfl⟩
  refine WLa Z (WL_nil (WQ_code (WCr (WLa Z (WLf Z fa43_0 (WLl Z sc3 mmD Z (WLa Z (WLa Z (WL_set (s := 14) (v := .bool false) Z (by simp) ?_)))))))))
  refine WLf Z fa43_1 (WLl Z sc3 mmD Z (WLa Z (WLa Z (WL_set (s := 18) (v := .bool true) Z (by exact congrArg Value.bool (decide_eq_true (by omega))) ?_))))
  refine WLf Z fa43_1 (WLl Z sc3 mmD Z (WLa Z (WLa Z (WLa Z (WL_set (s := 23) (v := .bool true) Z (by exact congrArg Value.bool (decide_eq_true (by omega))) ?_)))))
  refine WLf Z fa43_0 (WLl Z sc3 mmD Z (WLa Z (WLa Z (WL_set (s := 27) (v := .bool true) Z (by simp) ?_))))
  refine WLa Z (WLa Z (WLa Z (WLa Z (WLa Z (WLa Z (WLa Z ?_))))))
  first | refine WL_set (s := 34) (v := .bool true) rfl (by exact congrArg Value.bool (decide_eq_true (by omega))) ?_ | refine WL_set (s := 34) (v := .bool true) rfl rfl ?_
  refine WLf Z fa43_2 (WLl Z sc25 mmD Z (WLq Z (mwrong_ok M x true now) Z pqD ?_))
  refine WLa Z (WL_nil (WQ_code (WC_seq (WCr (WLa Z (WLa Z (WL_nil (WQ_code (WC_dF Z (by rw [hm]; simp) ?_)))))))))
  refine WC_skip (WQ_code (WCr (WLa Z (WLf Z fa43_1 (WLl Z sc3 mmD Z (WLq Z (mfind_ok M x h.sO (by omega) n) Z pqD ?_))))))
  rw [hid]
  refine WLa Z (WL_nil (WQ_code (WC_seq (WCr (WLf Z fa43_0 (WLl Z sc3 mmD Z (WL_nil (WQ_code (WC_block (WCr (WLa Z (WLa Z (WL_nil (WQ_code (WC_dF Z (by simp) ?_)))))))))))))))
  refine WCr (WLa Z (WLa Z (WL_nil (WQ_code (WC_dT Z (by simp) ?_)))))
  refine WC_seq (WCr (WLa Z (WLa Z (WLa Z (WL_set (s := 74) (v := .bool true) Z (by exact congrArg Value.bool (decide_eq_true (by omega))) ?_)))))
  refine WLa Z (WLa Z (WLa Z (WLa Z (WLa Z (WLa Z (WLa Z (WLa Z (WLa Z (WLa Z (WL_nil (WQ_code (WC_T Z (WCr (WLa Z (WL_nil (WQ_code (WC_ret ?_)))))))))))))))))
  refine WQ1 Z (by
    exact ⟨rfl, rfl⟩) pqD
theorem mdo2_none {N : Nat} {M : MM} {x : PX} (h : MIs N M x) {w b e : Nat} (o : PXO w b e x) (hnm : ∀ s ∈ x.S, 0 ≤ s.num ∧ s.num ≤ 100) (hN : N ≤ 7000) (he9 : e ≤ 10000) (hb9 : b ≤ 1000000) (n : Int) (now dl : Nat) (key : ByteArray) (good : Bool) (hm0 : x.may (decide (0 ≤ n ∧ n ≤ 100)) now = 0) (hX : x.inX n 4 now = 9) : Spec Tryz.prog 52 [ptrP M.p, .agg #[.int .i64 2, .int .i64 n, .int .u64 (now : Int), .int .u64 (dl : Int), .string key, .bool good]] [mdE M x, mdS M x] (fun r H' => r = .int .i64 9 ∧ H' = [mdE M x, mdS M x]) := by
 have hSl := nums_len o.g.nd hnm
 have hE9 := o.e
 obtain ⟨hr9, hn1, hn2⟩ := xmay_zero_of hm0
 have hr9 := of_decide_eq_true hr9
 have hm : x.may true now = 0 := by rw [← hm0, decide_eq_true hr9]
 by_cases hin : n ∈ x.S.map (·.num)
 ·obtain ⟨s, hs, rfl⟩ := List.mem_map.1 hin
  obtain ⟨A, B, hS⟩ := List.append_of_mem hs
  have hid : idS s.num x.S = (A.length : Int) := idS_at hS o.g.nd
  have hat : x.S[A.length]? = some s := by rw [hS, List.getElem?_append_right (Nat.le_refl _), Nat.sub_self]; rfl
  have hAl := (List.getElem?_eq_some_iff.1 hat).1
  have hst : s.st ≠ 4 := fun e9 => by unfold PX.inX at hX; rw [if_neg (by rw [hm0]; decide), find_num o.g.nd hs] at hX; dsimp only at hX; rw [if_pos e9] at hX; exact absurd hX (by decide)
  obtain ⟨wa, hwa⟩ := h.sO.some_of (by omega)
  refine Spec.of (E := [(0, ptrP M.p), (1, .agg #[.int .i64 2, .int .i64 s.num, .int .u64 (now : Int), .int .u64 (dl : Int), .string key, .bool good])]) Tryz.func52 rfl (by kernel_rfl) Tryz.ntmps52 rfl rfl (fun w => ?_)
  refine WCr (WLd Z (D_box (cs := [_, _, _, _, _, _]) Z Z Z) ?_)
  rintro _ _ ⟨b1, rfl, rfl⟩
  refine WLa Z (WL_nil (WQ_code (WCr (WLa Z (WLf Z fa43_0 (WLl Z sc3 mmD Z (WLa Z (WLa Z (WL_set (s := 14) (v := .bool false) Z (by simp) ?_)))))))))
  refine WLf Z fa43_1 (WLl Z sc3 mmD Z (WLa Z (WLa Z (WL_set (s := 18) (v := .bool true) Z (by exact congrArg Value.bool (decide_eq_true (by omega))) ?_))))
  refine WLf Z fa43_1 (WLl Z sc3 mmD Z (WLa Z (WLa Z (WLa Z (WL_set (s := 23) (v := .bool true) Z (by exact congrArg Value.bool (decide_eq_true (by omega))) ?_)))))
  refine WLf Z fa43_0 (WLl Z sc3 mmD Z (WLa Z (WLa Z (WL_set (s := 27) (v := .bool true) Z (by simp) ?_))))
  refine WLa Z (WLa Z (WLa Z (WLa Z (WLa Z (WLa Z (WLa Z ?_))))))
  first | refine WL_set (s := 34) (v := .bool true) rfl (by exact congrArg Value.bool (decide_eq_true (by omega))) ?_ | refine WL_set (s := 34) (v := .bool true) rfl rfl ?_
  refine WLf Z fa43_2 (WLl Z sc25 mmD Z (WLq Z (mwrong_ok M x true now) Z pqD ?_))
  refine WLa Z (WL_nil (WQ_code (WC_seq (WCr (WLa Z (WLa Z (WL_nil (WQ_code (WC_dF Z (by rw [hm]; simp) ?_)))))))))
  refine WC_skip (WQ_code (WCr (WLa Z (WLf Z fa43_1 (WLl Z sc3 mmD Z (WLq Z (mfind_ok M x h.sO (by omega) s.num) Z pqD ?_))))))
  rw [hid]
  refine WLa Z (WL_nil (WQ_code (WC_seq (WCr (WLf Z fa43_0 (WLl Z sc3 mmD Z (WL_nil (WQ_code (WC_block (WCr (WLa Z (WLa Z (WL_nil (WQ_code (WC_dF Z (by simp) ?_)))))))))))))))
  refine WCr (WLa Z (WLa Z (WL_nil (WQ_code (WC_dF Z (by simp) ?_)))))
  refine WCr (WLa Z (WLa Z (WL_nil (WQ_code (WC_dT Z (by simp) ?_)))))
  refine WC_seq (WCr (WLa Z (WLa Z (WLa Z (WL_set (s := 139) (v := .bool false) Z (by exact congrArg Value.bool (decide_eq_false (by omega))) ?_)))))
  refine WLa Z (WLa Z (WLf Z fa60_4 (WLl Z sc57 mmD Z (WLa Z (WLv Z (R_idxO hwa Z Tryz.underlying57 Tryz.sizeOf84 Z Z (by omega)) ?_)))))
  refine WLf Z fa84_5 (WLv Z (R_loadO (v := .int .i64 s.st) hwa Z sc49 Z mmD (fm_get0 encR9 hat (j := 5) (by omega))) ?_)
  refine WLa Z (WLa Z (WL_nil (WQ_code (WC_dT Z (by exact hst) ?_))))
  refine WCr (WLa Z (WL_nil (WQ_code (WC_ret ?_))))
  refine WQ1 Z (by
    exact ⟨rfl, rfl⟩) pqD
 ·have hid : idS n x.S = -1 := idS_no hin
  refine Spec.of (E := [(0, ptrP M.p), (1, .agg #[.int .i64 2, .int .i64 n, .int .u64 (now : Int), .int .u64 (dl : Int), .string key, .bool good])]) Tryz.func52 rfl (by kernel_rfl) Tryz.ntmps52 rfl rfl (fun w => ?_)
  refine WCr (WLd Z (D_box (cs := [_, _, _, _, _, _]) Z Z Z) ?_)
  rintro _ _ ⟨b1, rfl, rfl⟩
  refine WLa Z (WL_nil (WQ_code (WCr (WLa Z (WLf Z fa43_0 (WLl Z sc3 mmD Z (WLa Z (WLa Z (WL_set (s := 14) (v := .bool false) Z (by simp) ?_)))))))))
  refine WLf Z fa43_1 (WLl Z sc3 mmD Z (WLa Z (WLa Z (WL_set (s := 18) (v := .bool true) Z (by exact congrArg Value.bool (decide_eq_true (by omega))) ?_))))
  refine WLf Z fa43_1 (WLl Z sc3 mmD Z (WLa Z (WLa Z (WLa Z (WL_set (s := 23) (v := .bool true) Z (by exact congrArg Value.bool (decide_eq_true (by omega))) ?_)))))
  refine WLf Z fa43_0 (WLl Z sc3 mmD Z (WLa Z (WLa Z (WL_set (s := 27) (v := .bool true) Z (by simp) ?_))))
  refine WLa Z (WLa Z (WLa Z (WLa Z (WLa Z (WLa Z (WLa Z ?_))))))
  first | refine WL_set (s := 34) (v := .bool true) rfl (by exact congrArg Value.bool (decide_eq_true (by omega))) ?_ | refine WL_set (s := 34) (v := .bool true) rfl rfl ?_
  refine WLf Z fa43_2 (WLl Z sc25 mmD Z (WLq Z (mwrong_ok M x true now) Z pqD ?_))
  refine WLa Z (WL_nil (WQ_code (WC_seq (WCr (WLa Z (WLa Z (WL_nil (WQ_code (WC_dF Z (by rw [hm]; simp) ?_)))))))))
  refine WC_skip (WQ_code (WCr (WLa Z (WLf Z fa43_1 (WLl Z sc3 mmD Z (WLq Z (mfind_ok M x h.sO (by omega) n) Z pqD ?_))))))
  rw [hid]
  refine WLa Z (WL_nil (WQ_code (WC_seq (WCr (WLf Z fa43_0 (WLl Z sc3 mmD Z (WL_nil (WQ_code (WC_block (WCr (WLa Z (WLa Z (WL_nil (WQ_code (WC_dF Z (by simp) ?_)))))))))))))))
  refine WCr (WLa Z (WLa Z (WL_nil (WQ_code (WC_dF Z (by simp) ?_)))))
  refine WCr (WLa Z (WLa Z (WL_nil (WQ_code (WC_dT Z (by simp) ?_)))))
  refine WC_seq (WCr (WLa Z (WLa Z (WLa Z (WL_set (s := 139) (v := .bool true) Z (by exact congrArg Value.bool (decide_eq_true (by omega))) ?_)))))
  refine WLa Z (WLa Z (WLa Z (WLa Z (WLa Z (WLa Z (WLa Z (WLa Z (WLa Z (WLa Z (WL_nil (WQ_code (WC_T Z (WCr (WLa Z (WL_nil (WQ_code (WC_ret ?_)))))))))))))))))
  refine WQ1 Z (by
    exact ⟨rfl, rfl⟩) pqD
end Go.Proofs.YtelmlkdibcdebaaGreat
