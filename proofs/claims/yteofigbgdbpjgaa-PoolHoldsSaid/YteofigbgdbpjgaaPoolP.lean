/-
  Chapter 46 (pool), part PoolP: contracts of functions that the laws call, each for the heap it names.
-/
import Derived.Test.YteofigbgdbpjgaaRows
import Derived.Test.YteofigbgdbpjgaaZB
import Derived.Test.YteofigbgdbpjgaaSLMapJ
import Derived.Test.YteofigbgdbpjgaaSLScope
import Derived.Test.YteofigbgdbpjgaaTab
import Derived.Test.YteofigbgdbpjgaaPoolM
set_option linter.unusedVariables false
set_option maxRecDepth 20000
namespace Go.Proofs.Yteofigbgdbpjgaa


theorem wq_del (Q : List Qp) (w : Int) : delL (wq Q) w = wq (Q.filter fun x => decide (x.who ≠ w)) := by
  unfold delL wq
  rw [List.filter_map]; rfl
theorem flt_all {Q : List Qp} {w : Int} (h : ∀ x ∈ Q, x.who ≠ w) : (Q.filter fun x => decide (x.who ≠ w)) = Q := List.filter_eq_self.2 fun x hx => decide_eq_true (h x hx)
theorem flt_head {x : Qp} {r : List Qp} (h : ((x :: r).map (·.who)).Nodup) : ((x :: r).filter fun y => decide (y.who ≠ x.who)) = r := by
  rw [List.map_cons, List.nodup_cons] at h
  rw [List.filter_cons_of_neg (by simp), flt_all fun y hy e => h.1 (by rw [← e]; exact List.mem_map_of_mem hy)]
theorem PIs.set {m : PM} {s : PS} (h : PIs m s) {i : Nat} {x : Cn} (h1 : x.since ≤ s.now) (h2 : 0 ≤ x.st ∧ x.st ≤ 3) : PIs m (s.set i x) :=
  ⟨by show (s.C.set i x).length = 64; rw [List.length_set]; exact h.cl, h.qk, h.qM, h.wM, h.eO, h.who, h.op, h.most, fun y hy => by rcases List.mem_or_eq_of_mem_set hy with hy | rfl; exact h.since y hy; exact h1, h.now, h.keep, fun y hy => by rcases List.mem_or_eq_of_mem_set hy with hy | rfl; exact h.st y hy; exact h2⟩
theorem PIs.at_ {m : PM} {s : PS} (h : PIs m s) {now : Nat} (h1 : s.now ≤ now) (h2 : now ≤ 18446744073709551614) : PIs m (s.at_ now) :=
  ⟨h.cl, h.qk, h.qM, h.wM, h.eO, h.who, h.op, h.most, fun y hy => Nat.le_trans (h.since y hy) h1, h2, h.keep, h.st⟩
theorem OwnS.atE {ob : Option Nat} {k n c : Nat} {pre tl : List Value} {T : List Pv} (h : OwnS ob k n c 3 pre (T.flatMap encV) tl) {i : Nat} {x : Pv} (hx : T[i]? = some x) (hi : i < n) : At (pre ++ (T.flatMap encV ++ tl)) (k + i * 3) (encV x) := fun j v hj => by
  rw [h.get encV3 hx hi (show j < 3 from (List.getElem?_eq_some_iff.1 hj).1)]; exact hj
theorem OwnS.atAll {ob : Option Nat} {k n c sz : Nat} {pre xs tl : List Value} (h : OwnS ob k n c sz pre xs tl) : At (pre ++ (xs ++ tl)) k xs := fun j v hj => by
  have hl := (List.getElem?_eq_some_iff.1 hj).1
  have hn : 0 < n := by
    rcases Nat.eq_zero_or_pos n with e | e
    · have := h.len; rw [e, Nat.zero_mul] at this; omega
    · exact e
  have h4 := h.at_ hn
  rw [List.getElem?_append_right (by omega), show k + j - pre.length = j from by omega, List.getElem?_append_left hl]; exact hj
theorem OwnS.nil_of {ob : Option Nat} {k c : Nat} {pre tl : List Value} {T : List Pv} (h : OwnS ob k T.length c 3 pre (T.flatMap encV) tl) (e : ob = none) : T = [] := by
  have := (h.nil e).1; have := h.le
  exact List.eq_nil_of_length_eq_zero (by omega)
theorem pC_len {m : PM} {s : PS} (h : s.C.length = 64) : (pC m s).length = 199 := by
  show (pcH s ++ (s.C.flatMap encC ++ pcT m s.E.length)).length = 199
  rw [List.length_append, List.length_append, pc_len h]; rfl
theorem at_all (cs : List Value) : At cs 0 cs := fun j v hj => by rw [Nat.zero_add]; exact hj
theorem pC_one {m : PM} {s : PS} : (pC m s).all Value.oneCell' = true := by
  show (pcH s ++ (s.C.flatMap encC ++ pcT m s.E.length)).all Value.oneCell' = true
  rw [List.all_append, List.all_append, fm_all (enc := encC) (fun _ => rfl)]; rfl
theorem putAt_all {cs vs : List Value} (h : cs.length = vs.length) : putAt cs 0 vs = vs := by
  rw [putAt_eq _ _ _ (by omega), List.take_zero, Nat.zero_add, List.drop_of_length_le (by omega)]; simp
theorem Spec.noneP {P : Program} {f : FuncId} {args : List Value} {H : Heap} {post : Value → Heap → Prop} (e : TypeId) (h : Spec P f args H (fun r H' => ∃ x : Ent, (x.b = Option.none ∧ x.o = Go.Proofs.Yteofigbgdbpjgaa.cl [] e) ∧ post r (x :: H'))) : Spec P f args H post :=
  ⟨h.enters, fun w hw => (h.calls w hw).mono fun _ _ ⟨v, H', e1, ⟨x, ⟨hx, hx2⟩, p⟩, r⟩ => ⟨v, x :: H', e1, p, by
    obtain ⟨b, o⟩ := x
    dsimp only at hx hx2
    subst hx hx2
    exact r.addNone e⟩⟩
theorem pc_now (m : PM) (s : PS) (now : Nat) : putAt (pC m s) (0 + 3) [.int .u64 (now : Int)] = pC m (s.at_ now) := by
  show _ :: _ :: _ :: _ :: putAt _ 0 [] = _
  rw [putAt_nil]; rfl
theorem pc_nowr (m : PM) (s : PS) : 0 + 3 + 1 ≤ (pC m s).length := by
  show _ ≤ (pcH s ++ _).length
  rw [List.length_append]
  show 4 ≤ 4 + _
  omega
theorem PIs.dial {m : PM} {s : PS} (h : PIs m s) (who : Int) : PIs m (s.dial who) := h.set (Nat.zero_le _) ⟨by show (0 : Int) ≤ 1; decide, by show (1 : Int) ≤ 3; decide⟩
theorem PIs.tell {m : PM} {s : PS} (h : PIs m s) {k who c : Int} {ob : Option Nat} {ek ec : Nat} {epre etl : List Value} (ho : OwnS ob ek (s.tell k who c).E.length ec 3 epre ((s.tell k who c).E.flatMap encV) etl) : PIs { m with eb := ob, ek := ek, ec := ec, epre := epre, etl := etl } (s.tell k who c) :=
  ⟨h.cl, h.qk, h.qM, h.wM, ho, h.who, h.op, h.most, h.since, h.now, h.keep, h.st⟩
theorem PIs.ev {m : PM} {s : PS} (h : PIs m s) {E' : List Pv} {ob : Option Nat} {ek ec : Nat} {epre etl : List Value} (ho : OwnS ob ek E'.length ec 3 epre (E'.flatMap encV) etl) : PIs { m with eb := ob, ek := ek, ec := ec, epre := epre, etl := etl } { s with E := E' } :=
  ⟨h.cl, h.qk, h.qM, h.wM, ho, h.who, h.op, h.most, h.since, h.now, h.keep, h.st⟩
theorem fq_app (Q : List Qp) (x : Qp) : fq (Q ++ [x]) = fq Q ++ [(x.t, x.who)] := by simp [fq]
theorem PIs.push {m : PM} {s : PS} (h : PIs m s) {who : Int} {dl : Nat} {qes : Array MapEntry} {qmc : Nat} {wes : Array MapEntry} (hw : 0 ≤ who ∧ who ≤ 1000) (hM : Mp (.int .u64) ekQ evQ qes (nds 0 0 (fq (s.Q ++ [⟨s.n + 1, who, dl⟩])))) (hW : Mk ekW evW wes (m.wmc + 1) ((who, (s.n + 1, dl)) :: wq s.Q)) : PIs { m with qes := qes, qmc := qmc, wes := wes, wmc := m.wmc + 1 } { s with Q := s.Q ++ [⟨s.n + 1, who, dl⟩], n := s.n + 1 } :=
  ⟨h.cl, by show Qk (fq (s.Q ++ [⟨s.n + 1, who, dl⟩])) (s.n + 1); rw [fq_app]; exact h.qk.push who, hM, hW.to (by show List.Perm _ (wq (s.Q ++ [_])); unfold wq; rw [List.map_append]; exact List.perm_append_comm (l₁ := [_])), h.eO, fun x hx => by
    rcases List.mem_append.1 hx with hx | hx
    · exact h.who x hx
    · rw [List.mem_singleton.1 hx]; exact hw, h.op, h.most, h.since, h.now, h.keep, h.st⟩
theorem PIs.q {m : PM} {s : PS} (h : PIs m s) {Q' : List Qp} {qes : Array MapEntry} {qmc : Nat} {wes : Array MapEntry} {wmc : Nat} (hk : Qk (fq Q') s.n) (hM : Mp (.int .u64) ekQ evQ qes (nds 0 0 (fq Q'))) (hW : Mk ekW evW wes wmc (wq Q')) (hs : ∀ x ∈ Q', x ∈ s.Q) : PIs { m with qes := qes, qmc := qmc, wes := wes, wmc := wmc } { s with Q := Q' } :=
  ⟨h.cl, hk, hM, hW, h.eO, fun x hx => h.who x (hs x hx), h.op, h.most, h.since, h.now, h.keep, h.st⟩
theorem qk_sub {Q Q' : List Qp} {n : Nat} (h : Qk (fq Q) n) (hs : Q'.Sublist Q) : Qk (fq Q') n :=
  ⟨fun x hx => h.pos x ((hs.map _).subset hx), h.ord.sublist (hs.map _)⟩

end Go.Proofs.Yteofigbgdbpjgaa
