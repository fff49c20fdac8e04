/-
  Top (TopStacks), part RpM: contracts of functions that the laws call, each for the heap it names.
-/
import Derived.Test.YtkcfgglmlogjbaaGreatY01
import Derived.Test.YtkcfgglmlogjbaaGreatRows
section
set_option linter.unusedVariables false
set_option linter.unusedSimpArgs false
namespace Go.Proofs.YtkcfgglmlogjbaaGreat
abbrev pent (v : Value) (r : Bool := false) : List PanicEntry := [{ v := v, recovered := r }]
/-- **A CONTRACT**: the function panics with v. -/
structure PSpec (P : Program) (f : FuncId) (args : List Value) (H : Heap) (v : Value) (post : Heap → Prop) : Prop where
  enters : Enters P f
  calls : ∀ w, HOK H w → CallsIn Fence.wide 0 P f args.toArray w (fun e w' => ∃ H', e = .panicked (pent v) ∧ post H' ∧ HW H w H' w')
theorem PSpec.mono {P : Program} {f : FuncId} {args : List Value} {H : Heap} {v : Value} {post post' : Heap → Prop} (h : PSpec P f args H v post) (hp : ∀ H', post H' → post' H') : PSpec P f args H v post' :=
  ⟨h.enters, fun w hw => (h.calls w hw).mono fun _ _ ⟨H', e, p, r⟩ => ⟨H', e, hp H' p, r⟩⟩
def PanK (H : Heap) (w : World) (v : Value) (post : Heap → Prop) (ch : List PanicEntry) (a : Act) (w' : World) : Prop := a.defers = [] ∧ ch = pent v ∧ ∃ H', post H' ∧ HW H w H' w'
abbrev fnPostP (H : Heap) (w : World) (v : Value) (post : Heap → Prop) : Post :=
  { nrm := fun _ _ => False, ret := fun _ _ => False, ex := fun _ _ _ => False, pan := PanK H w v post }
instance {H : Heap} {w : World} {v : Value} {post : Heap → Prop} : PanSt (fnPostP H w v post) := ⟨fun ch a w' d u h => ⟨by have := h.1; cases d <;> exact this, h.2⟩⟩
instance {H : Heap} {w : World} {v : Value} {post : Heap → Prop} {X : Ctx} {y : Code} : PanSt (Post.seq X y (fnPostP H w v post)) := PanSt.seq inferInstance
instance {X : Ctx} {y y2 : Code} {p : Post} [h : PanSt (Post.seq X y p)] : PanSt (Post.seq X y2 (Post.seq X y p)) := PanSt.seq h
theorem PSpec.of {P : Program} {f : FuncId} {fn : Func} {c : Code} {N : Nat} {ars : List Value} {E : Env} {H : Heap} {v : Value} {post : Heap → Prop}
    (hf : P.funcs[f]? = some fn) (hb : fn.body = some c) (hname : (fn.name == "runtime.NumGoroutine") = false) (hN : fn.ntmps = N) (hl : Nat.ble ars.length N = true) (hE : argEnv 0 ars = E)
    (h : ∀ w, WC ⟨P, none, N, [], H, w⟩ c (fnPostP H w v post) E H) : PSpec P f ars H v post := by
  refine ⟨Enters.mk hf hname hb, fun w hw => callsIn_of_wp hf hb trivial ?_⟩
  have hl' : ars.length ≤ N := by simpa [Nat.ble_eq] using hl
  subst hE
  refine wpIn_mono (h w _ w ⟨?_, rfl, ?_⟩ (HW.start hw)) ?_
  · simp [hN]; omega
  · intro s v hs
    obtain ⟨-, h2⟩ := get_argEnv ars 0 s v hs
    have h3 : ars[s]? = some v := by simpa using h2
    have hlt : s < ars.length := (List.getElem?_eq_some_iff.1 h3).1
    rw [Array.getElem?_append_left (by simpa using hlt)]
    simpa using h3
  · intro e a w' hq
    cases e with
    | panic ch => obtain ⟨h1, h2, H', h3, h4⟩ := hq; exact ⟨h1, H', by rw [h2], h3, h4⟩
    | _ => exact hq.elim
theorem eqi_ifn {P : Program} (w : World) (d : Nat) (t t2 : TypeId) (v : Value) (D : TypeDesc) (h : P.underlying t = some D) (hi : ∃ m, D = .interface m) : (Op.equalIn (d + 1) t (.iface t2 v) .nilIface).run P w = .ok false w := by
  obtain ⟨m, rfl⟩ := hi
  simp [Op.equalIn, run_underlying h]
theorem eqi_nn {P : Program} (w : World) (d : Nat) (t : TypeId) (D : TypeDesc) (h : P.underlying t = some D) (hi : ∃ m, D = .interface m) : (Op.equalIn (d + 1) t .nilIface .nilIface).run P w = .ok true w := by
  obtain ⟨m, rfl⟩ := hi
  simp [Op.equalIn, run_underlying h]
section
variable {X : Ctx} {p : Post} {E : Env} {H F : Heap} {o : Oper} {rest : List Oper} {ops : Array Oper}
/-- A call that panics. -/
theorem WL_pcall {f : FuncId} {x : Operand} {args : List Operand} {tys : Array TypeId} {ars vs fi ca : List Value} {Hp F : Heap} {v : Value} {post : Heap → Prop} (hg : wantedE ops E o = some true) (hs : PSpec X.P f ars Hp v post)
    (ho : o.op = .call { callee := .value x, args := args.toArray, argTypes := tys }) (hx : callee E x = some (f, fi, ca)) (ha : evs E args = some vs) (he : fi ++ vs ++ ca = ars) (hp : Pulls Hp H F)
    (k : ∀ H1, post H1 → WQ X (p.pan (pent v)) E (H1 ++ F)) : WL X ops p (o :: rest) E H := by
  intro a w hA hw
  unfold wpListIn
  rw [if_pos (wantedE_spec hA hg)]
  have hfe := callee_spec hx
  subst he
  refine ⟨about_true, ?_⟩
  rw [semAt_of (by rw [ho]; intro c e; cases e)]
  have hrun : (execOp a.eval o).run X.P w = .ok (.enter f (fi ++ vs ++ ca).toArray) w := by
    have hen := hs.enters (fi ++ vs ++ ca).toArray w
    simp only [List.append_assoc] at hen
    simp [execOp, ho, resolve, hA.evals ha, hA.eval hfe, Deferred.ofValue, invoke, hen]
  rw [hrun]
  refine ⟨fun h => by simp [fen, Fence.wide] at h, ?_⟩
  have hc := hs.calls w (hw.perm hp.perm).left.hok
  have hc2 : CallsIn (fen X.ro) (0 - 1) X.P f (fi ++ vs ++ ca).toArray w (fun e w' => ∃ H', e = .panicked (pent v) ∧ post H' ∧ HW Hp w H' w') := by
    cases hr : X.ro with
    | none => exact hc
    | some l => exact CallsIn.inRound l hc
  refine hc2.mono ?_
  rintro e w' ⟨H1, rfl, hpost, hw1⟩
  exact k H1 hpost a w' hA (hw.frame hp.perm hw1)
theorem WM_pcall {Hq : Heap} {r : List (Nat × Bool)} {i : Nat} {f : FuncId} {x : Operand} {args : List Operand} {tys : Array TypeId} {ars vs fi ca : List Value} {Hp F : Heap} {v : Value} {post : Heap → Prop} (hi : ops[i]? = some o) (hg : wantedE ops E o = some true) (hs : PSpec X.P f ars Hp v post)
    (ho : o.op = .call { callee := .value x, args := args.toArray, argTypes := tys }) (hx : callee E x = some (f, fi, ca)) (ha : evs E args = some vs) (he : fi ++ vs ++ ca = ars) (hp : Pulls Hp H F)
    (k : ∀ H1, post H1 → WQ X (p.pan (pent v)) E (H1 ++ F)) : WM X ops p Hq ((i, false) :: r) E H := by
  intro a w hA hw
  have h := WL_pcall (p := p) (ops := ops) (rest := []) hg hs ho hx ha he hp k a w hA hw
  simp only [MW, wpOpIn, hi, wantedE_spec hA hg, if_true]
  unfold wpListIn at h
  rw [if_pos (wantedE_spec hA hg)] at h
  have hfe := callee_spec hx
  subst he
  refine ⟨about_true, ?_⟩
  have h2 := h.2
  rw [semAt_of (by rw [ho]; intro c e; cases e)]
  rw [semAt_of (by rw [ho]; intro c e; cases e)] at h2
  have hrun : (execOp a.eval o).run X.P w = .ok (.enter f (fi ++ vs ++ ca).toArray) w := by
    have hen := hs.enters (fi ++ vs ++ ca).toArray w
    simp only [List.append_assoc] at hen
    simp [execOp, ho, resolve, hA.evals ha, hA.eval hfe, Deferred.ofValue, invoke, hen]
  rw [hrun]
  refine ⟨fun h => by simp [fen, Fence.wide] at h, ?_⟩
  have hc := hs.calls w (hw.perm hp.perm).left.hok
  have hc2 : CallsIn (fen X.ro) (0 - 1) X.P f (fi ++ vs ++ ca).toArray w (fun e w' => ∃ H', e = .panicked (pent v) ∧ post H' ∧ HW Hp w H' w') := by
    cases hr : X.ro with
    | none => exact hc
    | some l => exact CallsIn.inRound l hc
  refine hc2.mono ?_
  rintro e w' ⟨H1, rfl, hpost, hw1⟩
  exact k H1 hpost a w' hA (hw.frame hp.perm hw1)
/-- panic(x). -/
theorem WL_panic {x : Operand} {t : TypeId} {v : Value} (hg : wantedE ops E o = some true) (ho : o.op = .panic x) (hx : ev E x = some (.iface t v)) (k : WQ X (p.pan (pent (.iface t v))) E H) : WL X ops p (o :: rest) E H := by
  intro a w hA hw
  unfold wpListIn
  rw [if_pos (wantedE_spec hA hg)]
  refine ⟨about_true, ?_⟩
  rw [semAt_of (by rw [ho]; intro c e; cases e)]
  have hrun : (execOp a.eval o).run X.P w = .halt (.panic (.iface t v)) w := by
    have hx2 := hA.eval hx
    have hp : (Instr.panic (.iface t v)).run X.P w = .halt (.panic (.iface t v)) w := rfl
    simp only [execOp, ho, hx2, Sem.run_bind, hp]
    rfl
  rw [hrun]
  exact k a w hA hw
/-- The end of a function that panics. -/
theorem WQ_pan {v : Value} {H' : Heap} {post : Heap → Prop} (hD : X.D = []) (hp : post H') (hq : Pulls H' H F) : WQ X (PanK X.H0 X.w0 v post (pent v)) E H := by
  intro a w ha hw
  exact ⟨by rw [ha.defers, hD], rfl, H', hp, (hw.perm hq.perm).left⟩
theorem R_makeIface {t : TypeId} {x : Operand} {v : Value} (ho : o.op = .makeInterface t x) (hc : X.P.concrete t = true) (hx : ev E x = some v) : Runs X o E H (.iface t v) :=
  ⟨(by rw [ho]; intro c e; cases e), fun a w ha _ => by
    have h := run_makeInterface (P := X.P) w t v hc
    simp [execOp, ho, ha.eval hx, h]⟩
theorem R_assertOk {x : Operand} {xt t : TypeId} {v : Value} {d : TypeDesc} (ho : o.op = .typeAssert x xt t true) (hu : X.P.underlying t = some d) (hd : ∀ m, d ≠ .interface m) (hx : ev E x = some (.iface t v)) : Runs X o E H (.tuple [v, .bool true].toArray) :=
  ⟨(by rw [ho]; intro c e; cases e), fun a w ha _ => by
    have : (Instr.typeAssert (.iface t v) xt t true).run X.P w = .ok (.tuple #[v, .bool true]) w := by
      unfold Instr.typeAssert
      simp only [Sem.run_bind, run_underlying hu, Result.andThen_ok]
      cases d with
      | interface m => exact absurd rfl (hd m)
      | _ => simp
    simp [execOp, ho, ha.eval hx, this]⟩
theorem R_ifaceNe {x : Operand} {t t' t2 : TypeId} {v : Value} {d : TypeDesc} (ho : o.op = .binOp .neq t x (.const .nilIface) t') (hd : X.P.underlying t = some d) (hi : ∃ m, d = .interface m) (hx : ev E x = some (.iface t2 v)) : Runs X o E H (.bool true) :=
  R_bin ho hx rfl (fun w => by simp [go_sem]) fun w => by
    have h := eqi_ifn (P := X.P) w 9999 t t2 v d hd hi
    simp only [binOp, Op.equal, Op.maxDepth, Sem.run_bind, h, Result.andThen_ok, Sem.run_pure]
    rfl
theorem R_ifaceNeNil {x : Operand} {t t' : TypeId} {d : TypeDesc} (ho : o.op = .binOp .neq t x (.const .nilIface) t') (hd : X.P.underlying t = some d) (hi : ∃ m, d = .interface m) (hx : ev E x = some .nilIface) : Runs X o E H (.bool false) :=
  R_bin ho hx rfl (fun w => by simp [go_sem]) fun w => by
    have h := eqi_nn (P := X.P) w 9999 t d hd hi
    simp only [binOp, Op.equal, Op.maxDepth, Sem.run_bind, h, Result.andThen_ok, Sem.run_pure]
    rfl
/-- The end of a function that has deferred nothing yet. -/
theorem WQ_retD0 {fn : Func} {rs : List ResultVar} {vs : List Value} {v : Value} {H' F : Heap} {post : Value → Heap → Prop} (hD : X.D = []) (hr : fn.results = rs.toArray) (h : RVs X E H rs vs)
    (hv : resV vs = v) (hp : post v H') (hq : Pulls H' H F) : WQ X (RetD X.P fn X.H0 X.w0 post) E H := by
  intro a w ha hw
  show LeavesIn Fence.wide 0 X.P fn a.tmps _ a.defers .returning w
  rw [ha.defers, hD]
  exact ⟨v, by rw [run_results hr h ha hw, hv], v, H', rfl, hp, (hw.perm hq.perm).left⟩
/-- A panic is recovered by the one deferred closure. -/
theorem WQ_panD {fn : Func} {f : FuncId} {fi ca : List Value} {rs : List ResultVar} {vs : List Value} {pv v : Value} {H' Hp Hq F' : Heap} {post : Value → Heap → Prop} (hs : DSpec X.P f (fi ++ ca) (.panicking (pent pv)) Hp (fun H' => H' = Hq) (.panicking (pent pv true)))
    (hD : X.D = [{ target := .fn (.func f) ca.toArray, args := fi.toArray }]) (hp : Pulls Hp H F) (hr : fn.results = rs.toArray) (h : RVs X E (Hq ++ F) rs vs) (hv : resV vs = v) (hpost : post v H') (hq : Pulls H' (Hq ++ F) F') :
    WQ X (PanD X.P fn X.H0 X.w0 post (pent pv)) E H := by
  intro a w ha hw
  show LeavesIn Fence.wide 0 X.P fn a.tmps _ a.defers (.panicking (pent pv)) w
  rw [ha.defers, hD]
  have hw1 := hw.perm hp.perm
  refine leavesIn_cons (f := f) (args := (fi ++ ca).toArray) (by simp) (fun h => by simp [Fence.wide] at h) ?_ (fun _ _ => trivial) ?_
  · have hen := hs.enters (fi ++ ca).toArray w
    simp [invoke, hen]
  · refine (hs.calls w hw1.left.hok).mono ?_
    rintro e u' w' ⟨⟨x, rfl⟩, rfl, H1, rfl, hw2⟩
    have hw3 := hw.frame hp.perm hw2
    exact ⟨v, by rw [run_results hr h ha hw3, hv], v, H', rfl, hpost, (hw3.perm hq.perm).left⟩
end
theorem WQshp {X : Ctx} {K : Act → World → Prop} {E : Env} {H A A' F : Heap} (q : Pulls A H F) (hp : A.Perm A') (h : WQ X K E (A' ++ F)) : WQ X K E H := fun a w ha hw => h a w ha (hw.perm (q.perm.trans (hp.append_right F)))
def recov (cs : List Frame) : Value × List Frame := (recoverD cs).getD (.nilIface, cs)
theorem recov_idle (c : Frame) (cs : List Frame) (h : c.mode = .returning) : recov (c :: cs) = (.nilIface, { c with mode := .returning } :: cs) := by
  cases c; cases h; rfl
theorem recov_pan (v : Value) (c : Frame) (cs : List Frame) (h : c.mode = .panicking (pent v)) : recov (c :: cs) = (v, { c with mode := .panicking (pent v true) } :: cs) := by
  cases c; cases h; rfl
/-- A closure that begins with recover, ars a deferred call. -/
theorem DSpec.recov {P : Program} {f : FuncId} {fn : Func} {id x1 x2 : Nat} {o1 o2 : Oper} {rest : Code} {N : Nat} {ars : List Value} {E : Env} {H : Heap} {post : Heap → Prop} {u u' : FrameMode} {rv : Value} {tys : Array TypeId}
    (hf : P.funcs[f]? = some fn) (hb : fn.body = some (.seq (.region id #[o1, o2] false) rest)) (hname : (fn.name == "runtime.NumGoroutine") = false) (hN : fn.ntmps = N) (hl : Nat.ble ars.length N = true) (hE : argEnv 0 ars = E)
    (h1 : o1.op = .call { callee := .builtin .recover, args := #[], argTypes := tys }) (g1 : o1.guard = none) (e1 : o1.dst = some x1) (h2 : o2.op = .assign (.tmp x1)) (g2 : o2.guard = none) (e2 : o2.dst = some x2)
    (b1 : Nat.blt x1 N = true) (b2 : Nat.blt x2 N = true) (hrec : ∀ c cs, c.mode = u → recov (c :: cs) = (rv, { c with mode := u' } :: cs))
    (h : ∀ w, WC ⟨P, none, N, [], H, w⟩ rest (fnPost P fn H w (fun _ H' => post H')) ((x2, rv) :: (x1, rv) :: E) H) : DSpec P f ars u H post u' := by
  refine ⟨Enters.mk hf hname hb, fun w hw => callsDIn_of_wpSIn hf hb trivial fun c₀ cs hu => ?_⟩
  have hl' : ars.length ≤ N := by simpa [Nat.ble_eq] using hl
  subst hE
  have hae : AE ⟨P, none, N, [], H, w⟩ (argEnv 0 ars) { tmps := ars.toArray ++ Array.replicate (fn.ntmps - ars.toArray.size) undef, defers := [] } := by
    refine ⟨?_, rfl, ?_⟩
    · simp [hN]; omega
    · intro s v hs
      obtain ⟨-, h2⟩ := get_argEnv ars 0 s v hs
      have h3 : ars[s]? = some v := by simpa using h2
      have hlt : s < ars.length := (List.getElem?_eq_some_iff.1 h3).1
      rw [Array.getElem?_append_left (by simpa using hlt)]
      simpa using h3
  generalize ({ tmps := ars.toArray ++ Array.replicate (fn.ntmps - ars.toArray.size) undef, defers := [] } : Act) = a at hae
  apply wpSIn_seq
  apply wpSIn_region
  have hr := hrec c₀ cs hu
  have ha1 := hae.put x1 rv b1
  have ha2 := ha1.put x2 rv b2
  have hev : ((a.put (some x1) rv).eval (.tmp x1)) = rv := ha1.eval (by simp [ev, gtE])
  have hx1 : (execOp a.eval o1).run P w = .ok .recover w := by simp [execOp, h1, resolve, invoke, builtin]
  have hx2 : (execOp (a.put (some x1) rv).eval o2).run P w = .ok (.value rv) w := by simp [execOp, h2, hev]
  have hfin : wpOpsSIn Fence.wide 0 P #[o1, o2] (Exit.thenS (rest.wpSIn Fence.wide 0 P (bodyPostS P fn c₀ cs fun e v w' => (∃ x, e = .returned x) ∧ v = u' ∧ ∃ H', post H' ∧ HW H w H' w')) (bodyPostS P fn c₀ cs fun e v w' => (∃ x, e = .returned x) ∧ v = u' ∧ ∃ H', post H' ∧ HW H w H' w')) [] ((a.put (some x1) rv).put (some x2) rv) ({ c₀ with mode := u' } :: cs) w := by
    refine wpSIn_of_wpIn rfl (wpIn_mono (h w _ w ha2 (HW.start hw)) ?_)
    intro e a w' hq
    cases e with
    | normal => obtain ⟨q1, v, H', q2, q3, q4⟩ := hq; exact ⟨q1, u', rfl, v, q2, ⟨v, rfl⟩, rfl, H', q3, q4⟩
    | ret => obtain ⟨q1, v, H', q2, q3, q4⟩ := hq; exact ⟨q1, u', rfl, v, q2, ⟨v, rfl⟩, rfl, H', q3, q4⟩
    | _ => exact hq.elim
  have hw1 : Region.wanted o1 (yielded #[o1, o2] a.tmps) = true := by simp [Region.wanted, g1]
  have hw2 : Region.wanted o2 (yielded #[o1, o2] (a.put (some x1) rv).tmps) = true := by simp [Region.wanted, g2]
  show wpOpsSIn Fence.wide 0 P #[o1, o2] _ [0, 1] a (c₀ :: cs) w
  have hstep : wpOpsSIn Fence.wide 0 P #[o1, o2] (Exit.thenS (rest.wpSIn Fence.wide 0 P (bodyPostS P fn c₀ cs fun e v w' => (∃ x, e = .returned x) ∧ v = u' ∧ ∃ H', post H' ∧ HW H w H' w')) (bodyPostS P fn c₀ cs fun e v w' => (∃ x, e = .returned x) ∧ v = u' ∧ ∃ H', post H' ∧ HW H w H' w')) [1] (a.put (some x1) rv) ({ c₀ with mode := u' } :: cs) w := by
    unfold wpOpsSIn
    simp only [show (#[o1, o2] : Array Oper)[1]? = some o2 from rfl, hw2, if_true, hx2, e2]
    exact ⟨fun _ _ => trivial, hfin⟩
  unfold wpOpsSIn
  simp only [show (#[o1, o2] : Array Oper)[0]? = some o1 from rfl, hw1, if_true, hx1, e1]
  refine ⟨fun _ _ => trivial, ?_⟩
  unfold Go.Proofs.YtkcfgglmlogjbaaGreat.recov at hr
  cases hd : recoverD (c₀ :: cs) with
  | none =>
    rw [hd] at hr
    obtain ⟨h1, h2⟩ := Prod.mk.inj hr
    subst h1
    rw [← h2] at hstep
    exact hstep
  | some q =>
    obtain ⟨v9, cs9⟩ := q
    rw [hd] at hr
    obtain ⟨h1, h2⟩ := Prod.mk.inj hr
    subst h1
    rw [← h2] at hstep
    exact hstep
end Go.Proofs.YtkcfgglmlogjbaaGreat
end
section
set_option linter.unusedVariables false
set_option maxRecDepth 20000
set_option maxHeartbeats 2000000
namespace Go.Proofs.YtkcfgglmlogjbaaGreat
theorem put_c0 (a v : Value) (Z : List Value) : putAt (a :: Z) (0 + 0) [v] = v :: Z := by cases Z <;> rfl
theorem foldV_lt : ∀ (l : Bs) (a : Nat), l.foldl (fun n x => (n * 256 + x.toNat) % 18446744073709551616) a ≤ (a + 1) * 256 ^ l.length - 1
  | [], a => by simp
  | x :: r, a => by
    have ih := foldV_lt r ((a * 256 + x.toNat) % 18446744073709551616)
    have h1 : (a * 256 + x.toNat) % 18446744073709551616 ≤ a * 256 + x.toNat := Nat.mod_le _ _
    have h2 := u8_lt x
    rw [List.foldl_cons, List.length_cons, Nat.pow_succ]
    have h3 : ((a * 256 + x.toNat) % 18446744073709551616 + 1) * 256 ^ r.length ≤ ((a + 1) * 256) * 256 ^ r.length := Nat.mul_le_mul_right _ (by omega)
    have h4 : (a + 1) * 256 * 256 ^ r.length = (a + 1) * (256 ^ r.length * 256) := by rw [Nat.mul_assoc, Nat.mul_comm 256]
    omega
theorem val4_lt (l : Bs) : valB (l.take 4) < 4294967296 := by
  have h := foldV_lt (l.take 4) 0
  have h2 : (l.take 4).length ≤ 4 := by simp; omega
  have h3 : 256 ^ (l.take 4).length ≤ 256 ^ 4 := Nat.pow_le_pow_right (by decide) h2
  have h4 : (256 : Nat) ^ 4 = 4294967296 := by decide
  unfold valB
  omega
theorem take_min (out : Bs) (n : Nat) : ∃ m : Nat, (min (n : Int) (out.length : Int) = (m : Int) ∧ m ≤ out.length) ∧ out.take n = out.take m ∧ out.drop n = out.drop m := by
  by_cases h : n ≤ out.length
  · exact ⟨n, ⟨by omega, h⟩, rfl, rfl⟩
  · exact ⟨out.length, ⟨by omega, Nat.le_refl _⟩, by rw [List.take_of_length_le (by omega), List.take_length], by rw [List.drop_eq_nil_of_le (by omega), List.drop_length]⟩
theorem must_ok (e : Int) : Spec Tryz.prog 39 [.bool true, .int .i64 e] [] (fun r H' => r = .tuple #[] ∧ H' = []) := by
  refine Spec.of (E := [(0, .bool true), (1, .int .i64 e)]) Tryz.func39 rfl (by kernel_rfl) Tryz.ntmps39 rfl rfl (fun w => ?_)
  refine WC_seq ?_
  refine WC_region ?_
  refine WL_val rfl rfl rfl (R_move rfl rfl) ?_
  refine WL_val rfl rfl rfl (R_not rfl rfl) ?_
  refine WL_nil ?_
  refine WQ_code ?_
  refine WC_F rfl ?_
  refine WC_skip ?_
  refine WQ_ret rfl rfl .nil rfl (by
      exact ⟨rfl, rfl⟩) (pqD)
theorem number_ok {l : Bs} {oa : Option Addr} {ent : Ent} {c : Nat} (hr : RdB oa ent l) (h4 : 4 ≤ l.length) (hl : l.length ≤ 1000000) (hc : l.length ≤ c) : Spec Tryz.prog 40 [.slice oa l.length c] [ent] (fun r H' => r = .int .i64 (valB (l.take 4) : Int) ∧ H' = [ent]) := by
  have hv := val4_lt l
  have hl4 : (l.take 4).length = 4 := by simp; omega
  refine Spec.of (E := [(0, .slice oa l.length c)]) Tryz.func40 rfl (by kernel_rfl) Tryz.ntmps40 rfl rfl (fun w => ?_)
  refine WC_seq ?_
  refine WC_region ?_
  refine WL_val rfl rfl rfl (R_assign rfl rfl) ?_
  refine WL_nil ?_
  refine WQ_code ?_
  refine WC_seq ?_
  refine WC_region ?_
  refine WL_val rfl rfl rfl (R_move rfl rfl) ?_
  refine WL_val rfl rfl rfl (R_sliceTo (m := 4) rfl Tryz.underlying23 Tryz.sizeOf5 rfl rfl (by omega)) ?_
  refine WL_set (s := 4) (v := .slice oa (l.take 4).length c) rfl (by rw [hl4]) ?_
  refine WL_do rfl rfl rfl (D_call (value_ok (hr.take 4) (by omega)) rfl rfl rfl rfl (pqD)) ?_
  rintro _ _ ⟨_, ⟨rfl, rfl⟩, rfl⟩
  refine WL_val rfl rfl rfl (R_conv (r := (valB (l.take 4) : Int)) rfl Tryz.underlying35 Tryz.underlying3 rfl (by rw [wrap64_in (by omega) (by omega)])) ?_
  refine WL_val rfl rfl rfl (R_assign rfl rfl) ?_
  refine WL_nil ?_
  refine WQ_code ?_
  refine WC_ret ?_
  refine WQ_ret rfl rfl (.cons (.tmp rfl) .nil) rfl (by
      exact ⟨rfl, rfl⟩) (pqD)
theorem send_ok (p ty : Nat) (Z : List Value) {out : Bs} {ob : Option Nat} {k c : Nat} {pre tl : List Value} (hO : OwnS ob k out.length c 1 pre (bvs out) tl) (kk : UInt8) (bp : Nat) (L : List Pt) (PH : Heap) (hL : 1 ≤ L.length) (hL2 : L.length ≤ 10) (hR : ∀ q ∈ L, ∃ ent ∈ PH, RdB q.oa ent q.l) (hT : ∀ q ∈ L, q.l.length ≤ 100000) (hlen : (joinL L).length ≤ 1024) (hout : out.length ≤ 1000000) :
    Spec Tryz.prog 29 [.pointer (some ⟨p, 0, none⟩), .int .u8 (kk.toNat : Int), slV (some bp) L.length L.length] ([⟨some p, cl (sVal ob k out.length c :: Z) ty⟩, ⟨ob, cl (pre ++ (bvs out ++ tl)) 5⟩] ++ ([⟨some bp, cl (L.flatMap encT) 23⟩] ++ PH))
      (fun r H' => ∃ ob' k' c' pre' tl', r = .tuple #[] ∧ H' = [⟨some p, cl (sVal ob' k' (out ++ encF kk (joinL L)).length c' :: Z) ty⟩, ⟨ob', cl (pre' ++ (bvs (out ++ encF kk (joinL L)) ++ tl')) 5⟩] ++ PH ∧ OwnS ob' k' (out ++ encF kk (joinL L)).length c' 1 pre' (bvs (out ++ encF kk (joinL L))) tl') := by
  have hel := encF_len kk (joinL L)
  refine Spec.of (E := [(0, .pointer (some ⟨p, 0, none⟩)), (1, .int .u8 (kk.toNat : Int)), (2, slV (some bp) L.length L.length)]) Tryz.func29 rfl (by kernel_rfl) Tryz.ntmps29 rfl rfl (fun w => ?_)
  refine WC_seq ?_
  refine WC_region ?_
  refine WL_val rfl rfl rfl (R_move rfl rfl) ?_
  refine WL_val rfl rfl rfl (R_move rfl rfl) ?_
  refine WL_do rfl rfl rfl (D_call (join_ok bp L PH hL hL2 hR hT) rfl rfl rfl rfl (pqD)) ?_
  rintro _ _ ⟨_, ⟨oa1, c1, e1, rfl, hr1, rfl⟩, rfl⟩
  refine WL_val rfl rfl rfl (R_build rfl zv84 pl84 rfl rfl) ?_
  refine WL_do rfl rfl rfl (D_call (encode_ok kk hr1 hlen) rfl rfl rfl rfl (pqD)) ?_
  rintro _ _ ⟨_, ⟨oa2, c2, e2, rfl, rfl, hr2⟩, rfl⟩
  refine WL_val rfl rfl rfl (R_move rfl rfl) ?_
  refine WL_val rfl rfl rfl (R_extract rfl rfl rfl) ?_
  refine WL_val rfl rfl rfl (R_extract rfl rfl rfl) ?_
  refine WL_val rfl rfl rfl (R_assign rfl rfl) ?_
  refine WL_val rfl rfl rfl (R_assign rfl rfl) ?_
  refine WL_nil ?_
  refine WQ_code ?_
  refine WC_region ?_
  refine WL_val rfl rfl rfl (R_move rfl rfl) ?_
  refine WL_val rfl rfl rfl (R_move rfl rfl) ?_
  refine WL_val rfl rfl rfl (R_nilCheck rfl rfl) ?_
  refine WL_val rfl rfl rfl (R_fieldAddr rfl fa34_0 rfl) ?_
  refine WL_val rfl rfl rfl (R_load rfl sc23 rfl (mmD) rfl) ?_
  refine WL_val rfl rfl rfl (R_move rfl rfl) ?_
  refine WL_do rfl rfl rfl (D_appendB rfl si23 rfl hO plD rfl hr2 mmD (by omega) (by omega)) ?_
  rintro _ _ ⟨ob3, k3, c3, pre3, tl3, rfl, own3, rfl, _⟩
  rw [← bvs_app, show out.length + (encF kk (joinL L)).length = (out ++ encF kk (joinL L)).length from by simp] at own3 ⊢
  refine WL_val rfl rfl rfl (R_nilCheck rfl rfl) ?_
  refine WL_val rfl rfl rfl (R_fieldAddr rfl fa34_0 rfl) ?_
  refine WL_do0 rfl rfl (D_store (vs := [_]) rfl Tryz.sizeOf23 rfl rfl rfl rfl rfl (plD) (by exact Nat.le_of_ble_eq_true rfl)) ?_
  rintro _ _ rfl
  rw [put_c0]
  refine WL_nil ?_
  refine WQ_ret rfl rfl .nil rfl (by
      exact ⟨ob3, k3, c3, pre3, tl3, rfl, rfl, own3⟩) (pqD)
theorem take_some (p ty : Nat) (Z : List Value) {out : Bs} {b : Nat} {k c : Nat} {pre tl : List Value} (hO : OwnS (some b) k out.length c 1 pre (bvs out) tl) (n : Nat) (hn : n ≤ 65536) (hout : out.length ≤ 1000000) : Spec Tryz.prog 33 [.pointer (some ⟨p, 0, none⟩), .int .i64 (n : Int)] [⟨some p, cl (sVal (some b) k out.length c :: Z) ty⟩, ⟨some b, cl (pre ++ (bvs out ++ tl)) 5⟩]
    (fun r H' => ∃ o c2 tl2 k' c' pre', r = .tuple #[slV o (out.take n).length c2, .int .i64 0] ∧ H' = [⟨some p, cl (sVal (some b) k' (out.drop n).length c' :: Z) ty⟩, ⟨some b, cl (pre' ++ (bvs (out.drop n) ++ tl)) 5⟩, ⟨o, cl (bvs (out.take n) ++ tl2) 5⟩] ∧ OwnS (some b) k' (out.drop n).length c' 1 pre' (bvs (out.drop n)) tl ∧ Own o (out.take n).length c2 1 (bvs (out.take n)) tl2) := by
  obtain ⟨m, ⟨hm, hml⟩, hmT, hmD⟩ := take_min out n
  refine Spec.of (E := [(0, .pointer (some ⟨p, 0, none⟩)), (1, .int .i64 (n : Int))]) Tryz.func33 rfl (by kernel_rfl) Tryz.ntmps33 rfl rfl (fun w => ?_)
  refine WC_seq ?_
  refine WC_region ?_
  refine WL_val rfl rfl rfl (R_assign rfl rfl) ?_
  refine WL_val rfl rfl rfl (R_assign rfl rfl) ?_
  refine WL_nil ?_
  refine WQ_code ?_
  refine WC_seq ?_
  refine WC_seq ?_
  refine WC_region ?_
  refine WL_val rfl rfl rfl (R_move rfl rfl) ?_
  refine WL_val rfl rfl rfl (R_lss rfl rfl rfl) ?_
  refine WL_val rfl rfl rfl (R_move rfl rfl) ?_
  refine WL_set (s := 10) (v := .bool false) rfl (by exact congrArg Value.bool (decide_eq_false (by omega))) ?_
  refine WL_val rfl rfl rfl (R_move rfl rfl) ?_
  refine WL_val rfl rfl rfl (R_gtr rfl rfl rfl) ?_
  refine WL_val rfl rfl rfl (R_pickF rfl rfl rfl) ?_
  refine WL_nil ?_
  refine WQ_code ?_
  refine WC_dF rfl (by omega) ?_
  refine WC_skip ?_
  refine WQ_code ?_
  refine WC_seq ?_
  refine WC_region ?_
  refine WL_val rfl rfl rfl (R_move rfl rfl) ?_
  refine WL_val rfl rfl rfl (R_move rfl rfl) ?_
  refine WL_val rfl rfl rfl (R_nilCheck rfl rfl) ?_
  refine WL_val rfl rfl rfl (R_fieldAddr rfl fa34_0 rfl) ?_
  refine WL_val rfl rfl rfl (R_load rfl sc23 rfl (mmD) rfl) ?_
  refine WL_val rfl rfl rfl (R_len rfl Tryz.underlying23 rfl) ?_
  refine WL_val rfl rfl rfl (R_minR (r := (m : Int)) rfl rfl rfl hm) ?_
  refine WL_val rfl rfl rfl (R_assign rfl rfl) ?_
  refine WL_nil ?_
  refine WQ_code ?_
  refine WC_seq ?_
  refine WC_region ?_
  refine WL_val rfl rfl rfl (R_move rfl rfl) ?_
  refine WL_val rfl rfl rfl (R_nilCheck rfl rfl) ?_
  refine WL_val rfl rfl rfl (R_fieldAddr rfl fa34_0 rfl) ?_
  refine WL_val rfl rfl rfl (R_load rfl sc23 rfl (mmD) rfl) ?_
  refine WL_val rfl rfl rfl (R_move rfl rfl) ?_
  refine WL_val rfl rfl rfl (R_sliceTo (m := m) rfl Tryz.underlying23 Tryz.sizeOf5 rfl rfl (by have := hO.le; omega)) ?_
  refine WL_set (s := 26) (v := .slice (some ⟨b, k, none⟩) (out.take m).length c) rfl (by rw [show (out.take m).length = m from by simp; omega]; rfl) ?_
  refine WL_do rfl rfl rfl (D_call (clone_some ((RdB.ownS hO).take m) (by simp; omega)) rfl rfl rfl rfl (pqD)) ?_
  rintro _ _ ⟨_, ⟨o9, c9, tl9, rfl, own9, rfl⟩, rfl⟩
  refine WL_val rfl rfl rfl (R_assign rfl rfl) ?_
  refine WL_nil ?_
  refine WQ_code ?_
  refine WC_seq ?_
  refine WC_region ?_
  refine WL_val rfl rfl rfl (R_move rfl rfl) ?_
  refine WL_val rfl rfl rfl (R_move rfl rfl) ?_
  refine WL_val rfl rfl rfl (R_nilCheck rfl rfl) ?_
  refine WL_val rfl rfl rfl (R_fieldAddr rfl fa34_0 rfl) ?_
  refine WL_val rfl rfl rfl (R_load rfl sc23 rfl (mmD) rfl) ?_
  refine WL_val rfl rfl rfl (R_move rfl rfl) ?_
  refine WL_val rfl rfl rfl (R_cutB (m := m) hO rfl Tryz.underlying23 Tryz.sizeOf5 rfl rfl (by omega)) ?_
  have hcut := hO.cutB (m := m) (by omega)
  rw [cutB_ent pre tl out m]
  refine WL_val rfl rfl rfl (R_nilCheck rfl rfl) ?_
  refine WL_val rfl rfl rfl (R_fieldAddr rfl fa34_0 rfl) ?_
  refine WL_do0 rfl rfl (D_store (vs := [_]) rfl Tryz.sizeOf23 rfl rfl rfl rfl rfl (plD) (by exact Nat.le_of_ble_eq_true rfl)) ?_
  rintro _ _ rfl
  rw [put_c0]
  refine WL_nil ?_
  refine WQ_code ?_
  refine WC_seq ?_
  refine WC_region ?_
  refine WL_val rfl rfl rfl (R_move rfl rfl) ?_
  refine WL_val rfl rfl rfl (R_assign rfl rfl) ?_
  refine WL_val rfl rfl rfl (R_assign rfl rfl) ?_
  refine WL_nil ?_
  refine WQ_code ?_
  refine WC_ret ?_
  refine WQ_ret rfl rfl (.cons (.tmp rfl) (.cons (.tmp rfl) .nil)) rfl (by
      rw [hmT, hmD]
      exact ⟨o9, c9, tl9, _, _, _, rfl, rfl, hcut, own9⟩) (pqD)
theorem take_none (p ty : Nat) (Z : List Value) (n : Nat) (hn : n ≤ 65536) : Spec Tryz.prog 33 [.pointer (some ⟨p, 0, none⟩), .int .i64 (n : Int)] [⟨some p, cl (.slice none 0 0 :: Z) ty⟩] (fun r H' => r = .tuple #[.slice none 0 0, .int .i64 0] ∧ H' = [⟨some p, cl (.slice none 0 0 :: Z) ty⟩]) := by
  refine Spec.of (E := [(0, .pointer (some ⟨p, 0, none⟩)), (1, .int .i64 (n : Int))]) Tryz.func33 rfl (by kernel_rfl) Tryz.ntmps33 rfl rfl (fun w => ?_)
  refine WC_seq ?_
  refine WC_region ?_
  refine WL_val rfl rfl rfl (R_assign rfl rfl) ?_
  refine WL_val rfl rfl rfl (R_assign rfl rfl) ?_
  refine WL_nil ?_
  refine WQ_code ?_
  refine WC_seq ?_
  refine WC_seq ?_
  refine WC_region ?_
  refine WL_val rfl rfl rfl (R_move rfl rfl) ?_
  refine WL_val rfl rfl rfl (R_lss rfl rfl rfl) ?_
  refine WL_val rfl rfl rfl (R_move rfl rfl) ?_
  refine WL_set (s := 10) (v := .bool false) rfl (by exact congrArg Value.bool (decide_eq_false (by omega))) ?_
  refine WL_val rfl rfl rfl (R_move rfl rfl) ?_
  refine WL_val rfl rfl rfl (R_gtr rfl rfl rfl) ?_
  refine WL_val rfl rfl rfl (R_pickF rfl rfl rfl) ?_
  refine WL_nil ?_
  refine WQ_code ?_
  refine WC_dF rfl (by omega) ?_
  refine WC_skip ?_
  refine WQ_code ?_
  refine WC_seq ?_
  refine WC_region ?_
  refine WL_val rfl rfl rfl (R_move rfl rfl) ?_
  refine WL_val rfl rfl rfl (R_move rfl rfl) ?_
  refine WL_val rfl rfl rfl (R_nilCheck rfl rfl) ?_
  refine WL_val rfl rfl rfl (R_fieldAddr rfl fa34_0 rfl) ?_
  refine WL_val rfl rfl rfl (R_load rfl sc23 rfl (mmD) rfl) ?_
  refine WL_val rfl rfl rfl (R_len rfl Tryz.underlying23 rfl) ?_
  refine WL_val rfl rfl rfl (R_minR (r := (0 : Int)) rfl rfl rfl (by omega)) ?_
  refine WL_val rfl rfl rfl (R_assign rfl rfl) ?_
  refine WL_nil ?_
  refine WQ_code ?_
  refine WC_seq ?_
  refine WC_region ?_
  refine WL_val rfl rfl rfl (R_move rfl rfl) ?_
  refine WL_val rfl rfl rfl (R_nilCheck rfl rfl) ?_
  refine WL_val rfl rfl rfl (R_fieldAddr rfl fa34_0 rfl) ?_
  refine WL_val rfl rfl rfl (R_load rfl sc23 rfl (mmD) rfl) ?_
  refine WL_val rfl rfl rfl (R_move rfl rfl) ?_
  refine WL_val rfl rfl rfl (R_sliceTo (m := 0) rfl Tryz.underlying23 Tryz.sizeOf5 rfl rfl (Nat.le_refl _)) ?_
  refine WL_do rfl rfl rfl (D_call (clone_nil) rfl rfl rfl rfl (pqD)) ?_
  rintro _ _ ⟨_, ⟨rfl, rfl⟩, rfl⟩
  refine WL_val rfl rfl rfl (R_assign rfl rfl) ?_
  refine WL_nil ?_
  refine WQ_code ?_
  refine WC_seq ?_
  refine WC_region ?_
  refine WL_val rfl rfl rfl (R_move rfl rfl) ?_
  refine WL_val rfl rfl rfl (R_move rfl rfl) ?_
  refine WL_val rfl rfl rfl (R_nilCheck rfl rfl) ?_
  refine WL_val rfl rfl rfl (R_fieldAddr rfl fa34_0 rfl) ?_
  refine WL_val rfl rfl rfl (R_load rfl sc23 rfl (mmD) rfl) ?_
  refine WL_val rfl rfl rfl (R_move rfl rfl) ?_
  refine WL_val rfl rfl rfl (R_sliceFromNil rfl Tryz.underlying23 Tryz.sizeOf5 rfl rfl) ?_
  refine WL_val rfl rfl rfl (R_nilCheck rfl rfl) ?_
  refine WL_val rfl rfl rfl (R_fieldAddr rfl fa34_0 rfl) ?_
  refine WL_do0 rfl rfl (D_store (vs := [_]) rfl Tryz.sizeOf23 rfl rfl rfl rfl rfl (plD) (by exact Nat.le_of_ble_eq_true rfl)) ?_
  rintro _ _ rfl
  rw [put_c0]
  refine WL_nil ?_
  refine WQ_code ?_
  refine WC_seq ?_
  refine WC_region ?_
  refine WL_val rfl rfl rfl (R_move rfl rfl) ?_
  refine WL_val rfl rfl rfl (R_assign rfl rfl) ?_
  refine WL_val rfl rfl rfl (R_assign rfl rfl) ?_
  refine WL_nil ?_
  refine WQ_code ?_
  refine WC_ret ?_
  refine WQ_ret rfl rfl (.cons (.tmp rfl) (.cons (.tmp rfl) .nil)) rfl (by
      exact ⟨rfl, rfl⟩) (pqD)
end Go.Proofs.YtkcfgglmlogjbaaGreat
end
section
set_option linter.unusedVariables false
set_option maxRecDepth 20000
set_option maxHeartbeats 2000000
namespace Go.Proofs.YtkcfgglmlogjbaaGreat
abbrev ekW (k : Int) : Value := .int .i64 k
abbrev ptrW (p : Nat) : Value := .pointer (some ⟨p, 0, none⟩)
theorem int_key : KeyOk Tryz.prog 3 ekW := by
  refine ⟨fun em k w => MapKept.run_checkKey Tryz.underlying3 (show MapKept.IsKey (.int .i64) (.int .i64 k) from rfl) em 9999, fun k l w h => ?_, fun a b h => by simp only [ekW, Value.int.injEq, true_and] at h; exact h⟩
  rcases MapKept.findNow_spec (d := .int .i64) (k := ekW k) rfl l 0 (fun x hx => by obtain ⟨k', hk⟩ := h x hx; rw [hk]; rfl) with h1 | ⟨j, e, h1, h2, h3⟩
  · exact ⟨none, by simp [Instr.findKey, run_underlying Tryz.underlying3, h1.1, Result.andThen], .inl ⟨rfl, h1.2⟩⟩
  · exact ⟨some (j, e.val), by simp [Instr.findKey, run_underlying Tryz.underlying3, h1, Result.andThen], .inr ⟨j, e, rfl, h2, h3⟩⟩
theorem mmust_ok (e : Int) : Spec Tryz.prog 53 [.bool true, .int .i64 e] [] (fun r H' => r = .tuple #[] ∧ H' = []) := by
  refine Spec.of (E := [(0, .bool true), (1, .int .i64 e)]) Tryz.func53 rfl (by kernel_rfl) Tryz.ntmps53 rfl rfl (fun w => ?_)
  refine WC_seq ?_
  refine WC_region ?_
  refine WL_val rfl rfl rfl (R_move rfl rfl) ?_
  refine WL_val rfl rfl rfl (R_not rfl rfl) ?_
  refine WL_nil ?_
  refine WQ_code ?_
  refine WC_F rfl ?_
  refine WC_skip ?_
  refine WQ_ret rfl rfl .nil rfl (by
      exact ⟨rfl, rfl⟩) (pqD)
theorem mnone_ok (a0 a2 a3 a4 a6 : Value) (mb p : Nat) (s5 : Value) : Spec Tryz.prog 32 [ptrW p] [⟨some p, cl [a0, .map (some mb), a2, a3, a4, s5, a6, .int .i64 0] 70⟩] (fun r H' => r = .bool false ∧ H' = [⟨some p, cl [a0, .map (some mb), a2, a3, a4, s5, a6, .int .i64 0] 70⟩]) := by
  refine Spec.of (E := [(0, ptrW p)]) Tryz.func32 rfl (by kernel_rfl) Tryz.ntmps32 rfl rfl (fun w => ?_)
  refine WC_seq ?_
  refine WC_region ?_
  refine WL_val rfl rfl rfl (R_assign rfl rfl) ?_
  refine WL_nil ?_
  refine WQ_code ?_
  refine WC_seq ?_
  refine WC_region ?_
  refine WL_val rfl rfl rfl (R_move rfl rfl) ?_
  refine WL_val rfl rfl rfl (R_ptrEqNil rfl Tryz.underlying26 rfl) ?_
  refine WL_val rfl rfl rfl (R_move rfl rfl) ?_
  refine WL_val rfl rfl rfl (R_move rfl rfl) ?_
  refine WL_val rfl rfl rfl (R_nilCheck rfl rfl) ?_
  refine WL_val rfl rfl rfl (R_fieldAddr rfl fa70_1 rfl) ?_
  refine WL_val rfl rfl rfl (R_load rfl sc67 rfl (mmD) rfl) ?_
  refine WL_val rfl rfl rfl (R_mapEqNil rfl Tryz.underlying67 rfl) ?_
  refine WL_set (s := 10) (v := .bool false) rfl (by rfl) ?_
  refine WL_val rfl rfl rfl (R_pickF rfl rfl rfl) ?_
  refine WL_val rfl rfl rfl (R_assign rfl rfl) ?_
  refine WL_nil ?_
  refine WQ_code ?_
  refine WC_ret ?_
  refine WQ_ret rfl rfl (.cons (.tmp rfl) .nil) rfl (by
      exact ⟨rfl, rfl⟩) (pqD)
theorem mmay_ok (a0 a2 a3 a4 a6 : Value) (mb p : Nat) (s5 : Value) : Spec Tryz.prog 22 [ptrW p, .bool true] [⟨some p, cl [a0, .map (some mb), a2, a3, a4, s5, a6, .int .i64 0] 70⟩] (fun r H' => r = .int .i64 0 ∧ H' = [⟨some p, cl [a0, .map (some mb), a2, a3, a4, s5, a6, .int .i64 0] 70⟩]) := by
  refine Spec.of (E := [(0, ptrW p), (1, .bool true)]) Tryz.func22 rfl (by kernel_rfl) Tryz.ntmps22 rfl rfl (fun w => ?_)
  refine WC_seq ?_
  refine WC_region ?_
  refine WL_val rfl rfl rfl (R_assign rfl rfl) ?_
  refine WL_nil ?_
  refine WQ_code ?_
  refine WC_seq ?_
  refine WC_block ?_
  refine WC_seq ?_
  refine WC_region ?_
  refine WL_val rfl rfl rfl (R_move rfl rfl) ?_
  refine WL_do rfl rfl rfl (D_call (mnone_ok a0 a2 a3 a4 a6 mb p s5) rfl rfl rfl rfl (pqD)) ?_
  rintro _ _ ⟨_, ⟨rfl, rfl⟩, rfl⟩
  refine WL_val rfl rfl rfl (R_assign rfl rfl) ?_
  refine WL_nil ?_
  refine WQ_code ?_
  refine WC_F rfl ?_
  refine WC_seq ?_
  refine WC_region ?_
  refine WL_val rfl rfl rfl (R_move rfl rfl) ?_
  refine WL_val rfl rfl rfl (R_not rfl rfl) ?_
  refine WL_val rfl rfl rfl (R_assign rfl rfl) ?_
  refine WL_nil ?_
  refine WQ_code ?_
  refine WC_F rfl ?_
  refine WC_seq ?_
  refine WC_region ?_
  refine WL_val rfl rfl rfl (R_move rfl rfl) ?_
  refine WL_val rfl rfl rfl (R_nilCheck rfl rfl) ?_
  refine WL_val rfl rfl rfl (R_fieldAddr rfl fa70_7 rfl) ?_
  refine WL_val rfl rfl rfl (R_load rfl sc27 rfl (mmD) rfl) ?_
  refine WL_val rfl rfl rfl (R_neq rfl rfl rfl) ?_
  refine WL_val rfl rfl rfl (R_assign rfl rfl) ?_
  refine WL_nil ?_
  refine WQ_code ?_
  refine WC_dF rfl (by decide) ?_
  refine WC_skip ?_
  refine WQ_code ?_
  refine WC_seq ?_
  refine WC_region ?_
  refine WL_val rfl rfl rfl (R_assign rfl rfl) ?_
  refine WL_nil ?_
  refine WQ_code ?_
  refine WC_ret ?_
  refine WQ_ret rfl rfl (.cons (.tmp rfl) .nil) rfl (by
      exact ⟨rfl, rfl⟩) (pqD)
theorem mfull_ok (a0 a2 a3 a4 a6 : Value) (mb p : Nat) {out : Bs} {ob : Option Nat} {k c : Nat} {pre tl : List Value} (hO : OwnS ob k out.length c 1 pre (bvs out) tl) (hl : out.length ≤ 65536) : Spec Tryz.prog 23 [ptrW p] [⟨some p, cl [a0, .map (some mb), a2, a3, a4, sVal ob k out.length c, a6, .int .i64 0] 70⟩] (fun r H' => r = .int .i64 0 ∧ H' = [⟨some p, cl [a0, .map (some mb), a2, a3, a4, sVal ob k out.length c, a6, .int .i64 0] 70⟩]) := by
  refine Spec.of (E := [(0, ptrW p)]) Tryz.func23 rfl (by kernel_rfl) Tryz.ntmps23 rfl rfl (fun w => ?_)
  refine WC_seq ?_
  refine WC_region ?_
  refine WL_val rfl rfl rfl (R_assign rfl rfl) ?_
  refine WL_nil ?_
  refine WQ_code ?_
  refine WC_seq ?_
  refine WC_seq ?_
  refine WC_region ?_
  refine WL_val rfl rfl rfl (R_move rfl rfl) ?_
  refine WL_val rfl rfl rfl (R_nilCheck rfl rfl) ?_
  refine WL_val rfl rfl rfl (R_fieldAddr rfl fa70_5 rfl) ?_
  refine WL_val rfl rfl rfl (R_load rfl sc23 rfl (mmD) rfl) ?_
  refine WL_val rfl rfl rfl (R_len rfl Tryz.underlying23 rfl) ?_
  refine WL_val rfl rfl rfl (R_gtr rfl rfl rfl) ?_
  refine WL_nil ?_
  refine WQ_code ?_
  refine WC_dF rfl (by omega) ?_
  refine WC_skip ?_
  refine WQ_code ?_
  refine WC_seq ?_
  refine WC_region ?_
  refine WL_val rfl rfl rfl (R_assign rfl rfl) ?_
  refine WL_nil ?_
  refine WQ_code ?_
  refine WC_ret ?_
  refine WQ_ret rfl rfl (.cons (.tmp rfl) .nil) rfl (by
      exact ⟨rfl, rfl⟩) (pqD)
theorem merr_ok (a0 a2 a3 a4 a6 : Value) (mb p : Nat) (s5 : Value) : Spec Tryz.prog 12 [ptrW p] [⟨some p, cl [a0, .map (some mb), a2, a3, a4, s5, a6, .int .i64 0] 70⟩] (fun r H' => r = .int .i64 0 ∧ H' = [⟨some p, cl [a0, .map (some mb), a2, a3, a4, s5, a6, .int .i64 0] 70⟩]) := by
  refine Spec.of (E := [(0, ptrW p)]) Tryz.func12 rfl (by kernel_rfl) Tryz.ntmps12 rfl rfl (fun w => ?_)
  refine WC_seq ?_
  refine WC_region ?_
  refine WL_val rfl rfl rfl (R_assign rfl rfl) ?_
  refine WL_nil ?_
  refine WQ_code ?_
  refine WC_seq ?_
  refine WC_seq ?_
  refine WC_region ?_
  refine WL_val rfl rfl rfl (R_move rfl rfl) ?_
  refine WL_do rfl rfl rfl (D_call (mnone_ok a0 a2 a3 a4 a6 mb p s5) rfl rfl rfl rfl (pqD)) ?_
  rintro _ _ ⟨_, ⟨rfl, rfl⟩, rfl⟩
  refine WL_nil ?_
  refine WQ_code ?_
  refine WC_F rfl ?_
  refine WC_skip ?_
  refine WQ_code ?_
  refine WC_seq ?_
  refine WC_region ?_
  refine WL_val rfl rfl rfl (R_move rfl rfl) ?_
  refine WL_val rfl rfl rfl (R_nilCheck rfl rfl) ?_
  refine WL_val rfl rfl rfl (R_fieldAddr rfl fa70_7 rfl) ?_
  refine WL_val rfl rfl rfl (R_load rfl sc27 rfl (mmD) rfl) ?_
  refine WL_val rfl rfl rfl (R_assign rfl rfl) ?_
  refine WL_nil ?_
  refine WQ_code ?_
  refine WC_ret ?_
  refine WQ_ret rfl rfl (.cons (.tmp rfl) .nil) rfl (by
      exact ⟨rfl, rfl⟩) (pqD)
theorem mbytes_ok (n many : Nat) (hn : n < 9223372036854775808) (hm : many ≤ 8) : Spec Tryz.prog 26 [.int .i64 (n : Int), .int .i64 (many : Int)] [] (fun r H' => ∃ b, r = slV (some b) many many ∧ H' = [⟨some b, cl (bvs (bigB n many)) 5⟩]) := by
  refine Spec.of (E := [(0, .int .i64 (n : Int)), (1, .int .i64 (many : Int))]) Tryz.func26 rfl (by kernel_rfl) Tryz.ntmps26 rfl rfl (fun w => ?_)
  refine WC_seq ?_
  refine WC_region ?_
  refine WL_val rfl rfl rfl (R_assign rfl rfl) ?_
  refine WL_nil ?_
  refine WQ_code ?_
  refine WC_seq ?_
  refine WC_region ?_
  refine WL_val rfl rfl rfl (R_move rfl rfl) ?_
  refine WL_do rfl rfl rfl (D_make (n := many) rfl si23 rfl rfl (by omega) (by omega)) ?_
  rintro _ _ ⟨b1, rfl, rfl⟩
  refine WL_val rfl rfl rfl (R_assign rfl rfl) ?_
  refine WL_nil ?_
  refine WQ_code ?_
  refine WC_seq ?_
  refine WC_seq ?_
  refine WC_region ?_
  refine WL_val rfl rfl rfl (R_move rfl rfl) ?_
  refine WL_val rfl rfl rfl (R_move rfl rfl) ?_
  refine WL_nil ?_
  refine WQ_code ?_
  refine WC_block ?_
  rw [mk_zero]
  refine WC_loopF (G := BgW) [6, 10, 11, 12, 13, 14, 15, 16, 17, 18, 19, 20, 21, 22, 23, 24] (fun y => y.k ≤ many ∧ y.L.length = many ∧ ∀ i, i < y.k → y.L[i]? = (bigB n many)[i]?) (fun y => [(10, .int .i64 (y.k : Int))]) (fun y => [⟨some b1, cl (bvs y.L) 5⟩]) (fun y => many - y.k) (⟨0, List.replicate many 0⟩) (⟨Nat.zero_le _, List.length_replicate, fun i h => absurd h (Nat.not_lt_zero i)⟩) leZ (pqD) ?_
  rintro y ⟨hk, hL, hi⟩
  refine WC_seq ?_
  refine WC_region ?_
  refine WL_val rfl rfl rfl (R_lss rfl rfl rfl) ?_
  refine WL_nil ?_
  refine WQ_code ?_
  refine WC_seq ?_
  refine WC_dec rfl (fun c1 => ?_) (fun c1 => ?_)
  · refine WC_skip ?_
    refine WQ_code ?_
    refine WC_seq ?_
    refine WC_block ?_
    refine WC_seq ?_
    refine WC_region ?_
    refine WL_val rfl rfl rfl (R_move rfl rfl) ?_
    refine WL_val rfl rfl rfl (R_assign rfl rfl) ?_
    refine WL_nil ?_
    refine WQ_code ?_
    refine WC_region ?_
    obtain ⟨x, hx⟩ := getE (T := y.L) (i := y.k) (by omega)
    refine WL_val rfl rfl rfl (R_move rfl rfl) ?_
    refine WL_val rfl rfl rfl (R_move rfl rfl) ?_
    refine WL_val rfl rfl rfl (R_move rfl rfl) ?_
    refine WL_val rfl rfl rfl (R_move rfl rfl) ?_
    refine WL_val rfl rfl rfl (R_subR (r := ((many - 1 : Nat) : Int)) rfl rfl rfl (by rw [wrap64_in (by omega) (by omega)]; omega)) ?_
    refine WL_val rfl rfl rfl (R_move rfl rfl) ?_
    refine WL_val rfl rfl rfl (R_subR (r := ((many - 1 - y.k : Nat) : Int)) rfl rfl rfl (by rw [wrap64_in (by omega) (by omega)]; omega)) ?_
    refine WL_val rfl rfl rfl (R_mulR (r := ((8 * (many - 1 - y.k) : Nat) : Int)) rfl rfl rfl (by rw [wrap64_in (by omega) (by omega)]; omega)) ?_
    refine WL_val rfl rfl rfl (R_shrR (r := ((n / 2 ^ (8 * (many - 1 - y.k)) : Nat) : Int)) rfl rfl rfl (by omega) (shr_u64 (by omega) (by omega))) ?_
    refine WL_val rfl rfl rfl (R_conv (r := ((UInt8.ofNat (n / 2 ^ (8 * (many - 1 - y.k)))).toNat : Int)) rfl Tryz.underlying3 Tryz.underlying5 rfl (u8_of _)) ?_
    refine WL_val rfl rfl rfl (R_indexAddr rfl Tryz.underlying23 Tryz.sizeOf5 rfl rfl (by omega)) ?_
    refine WL_do0 rfl rfl (D_store (vs := [_]) rfl Tryz.sizeOf5 rfl rfl rfl rfl rfl (plD) (by show 0 + (((y.k : Nat) : Int)).toNat * 1 + 1 ≤ (bvs y.L).length; rw [bvs_len, Int.toNat_natCast]; omega)) ?_
    rintro _ _ rfl
    have hput := put_bvs hx (UInt8.ofNat (n / 2 ^ (8 * (many - 1 - y.k))))
    rw [Int.toNat_natCast, hput]
    refine WL_nil ?_
    refine WQ_code ?_
    refine WC_region ?_
    refine WL_val rfl rfl rfl (R_add rfl rfl rfl (by omega)) ?_
    refine WL_val rfl rfl rfl (R_move rfl rfl) ?_
    refine WL_nil ?_
    refine WQ_nextF (⟨y.k + 1, y.L.set y.k (UInt8.ofNat (n / 2 ^ (8 * (many - 1 - y.k))))⟩) (⟨by dsimp only; omega, by dsimp only; rw [List.length_set]; exact hL, big_step (by omega) hL hi⟩) (by dsimp only; omega) leZ (psZ) rfl (pqD)
  · have hE : y.L = bigB n many := big_end hL (by have := bigB_len n many; omega) fun i h => hi i (by omega)
    rw [hE]
    refine WC_exit ?_
    refine WQ_code ?_
    refine WC_seq ?_
    refine WC_region ?_
    refine WL_val rfl rfl rfl (R_move rfl rfl) ?_
    refine WL_val rfl rfl rfl (R_assign rfl rfl) ?_
    refine WL_nil ?_
    refine WQ_code ?_
    refine WC_ret ?_
    refine WQ_ret rfl rfl (.cons (.tmp rfl) .nil) rfl (by
        exact ⟨b1, rfl, rfl⟩) (pqD)
def numB (l : Bs) : Nat := l.foldl (fun n x => n * 256 + x.toNat) 0
theorem numB_snoc {l : Bs} {y : Nat} {x : UInt8} (h : l[y]? = some x) : numB (l.take (y + 1)) = numB (l.take y) * 256 + x.toNat := by unfold numB; rw [take_next h, List.foldl_append]; rfl
theorem numB_lt : ∀ (l : Bs) (a : Nat), l.foldl (fun n x => n * 256 + x.toNat) a + 1 ≤ (a + 1) * 256 ^ l.length
  | [], a => by simp
  | x :: r, a => by
    have ih := numB_lt r (a * 256 + x.toNat)
    have h2 := u8_lt x
    rw [List.foldl_cons, List.length_cons, Nat.pow_succ]
    have h3 : (a * 256 + x.toNat + 1) * 256 ^ r.length ≤ ((a + 1) * 256) * 256 ^ r.length := Nat.mul_le_mul_right _ (by omega)
    have h4 : (a + 1) * 256 * 256 ^ r.length = (a + 1) * (256 ^ r.length * 256) := by rw [Nat.mul_assoc, Nat.mul_comm 256]
    omega
theorem numB_4 {l : Bs} (h : l.length ≤ 4) : numB l < 4294967296 := by
  have h1 := numB_lt l 0
  have h3 : 256 ^ l.length ≤ 256 ^ 4 := Nat.pow_le_pow_right (by decide) h
  have h4 : (256 : Nat) ^ 4 = 4294967296 := by decide
  unfold numB
  omega
theorem shl8 {n : Nat} (h : n * 256 < 9223372036854775808) : IntKind.i64.wrap ((n : Int) * 2 ^ (min (8 : Int).toNat IntKind.i64.bits)) = ((n * 256 : Nat) : Int) := by
  rw [show min (8 : Int).toNat IntKind.i64.bits = 8 from rfl, wrap64_in (by omega) (by omega)]; omega
theorem mnum_ok {l : Bs} {oa : Option Addr} {ent : Ent} {c : Nat} (hr : RdB oa ent l) (h4 : l.length ≤ 4) : Spec Tryz.prog 73 [.slice oa l.length c] [ent] (fun r H' => r = .int .i64 (numB l : Int) ∧ H' = [ent]) := by
  refine Spec.of (E := [(0, .slice oa l.length c)]) Tryz.func73 rfl (by kernel_rfl) Tryz.ntmps73 rfl rfl (fun w => ?_)
  refine WC_seq ?_
  refine WC_region ?_
  refine WL_val rfl rfl rfl (R_assign rfl rfl) ?_
  refine WL_nil ?_
  refine WQ_code ?_
  refine WC_seq ?_
  refine WC_region ?_
  refine WL_val rfl rfl rfl (R_assign rfl rfl) ?_
  refine WL_nil ?_
  refine WQ_code ?_
  refine WC_seq ?_
  refine WC_seq ?_
  refine WC_region ?_
  refine WL_val rfl rfl rfl (R_move rfl rfl) ?_
  refine WL_val rfl rfl rfl (R_len rfl Tryz.underlying23 rfl) ?_
  refine WL_val rfl rfl rfl (R_move rfl rfl) ?_
  refine WL_nil ?_
  refine WQ_code ?_
  refine WC_block ?_
  refine WC_loopF (G := Nat) [3, 5, 8, 9, 10, 11, 12, 13, 14, 15, 16, 17] (fun y => y ≤ l.length) (fun y => [(8, .int .i64 (y : Int)), (3, .int .i64 (numB (l.take y) : Int))]) (fun y => []) (fun y => l.length - y) (0) (Nat.zero_le _) leZ (pqD) ?_
  rintro y hy
  refine WC_seq ?_
  refine WC_region ?_
  refine WL_val rfl rfl rfl (R_lss rfl rfl rfl) ?_
  refine WL_nil ?_
  refine WQ_code ?_
  refine WC_seq ?_
  refine WC_dec rfl (fun c1 => ?_) (fun c1 => ?_)
  · refine WC_skip ?_
    refine WQ_code ?_
    refine WC_seq ?_
    refine WC_block ?_
    refine WC_seq ?_
    refine WC_region ?_
    obtain ⟨x, hx⟩ := getE (T := l) (i := y) (by omega)
    obtain ⟨rb, rk, rcs, re, rfr, rfl, rfl, hat⟩ := hr (by omega)
    have hn4 := numB_4 (l := l.take y) (by rw [List.length_take]; omega)
    refine WL_val rfl rfl rfl (R_indexAddr rfl Tryz.underlying23 Tryz.sizeOf5 rfl rfl (by omega)) ?_
    refine WL_val rfl rfl rfl (R_loadG (v := .int .u8 (x.toNat : Int)) rfl sc5 rfl mmD (by rw [Nat.mul_one]; exact hat y _ (bvs_get hx))) ?_
    refine WL_val rfl rfl rfl (R_assign rfl rfl) ?_
    refine WL_nil ?_
    refine WQ_code ?_
    refine WC_region ?_
    refine WL_val rfl rfl rfl (R_move rfl rfl) ?_
    refine WL_val rfl rfl rfl (R_shlR (r := ((numB (l.take y) * 256 : Nat) : Int)) rfl rfl rfl (by decide) (shl8 (by omega))) ?_
    refine WL_val rfl rfl rfl (R_move rfl rfl) ?_
    refine WL_val rfl rfl rfl (R_conv (r := (x.toNat : Int)) rfl Tryz.underlying5 Tryz.underlying3 rfl (by have := u8_lt x; rw [wrap64_in (by omega) (by omega)])) ?_
    refine WL_val rfl rfl rfl (R_orR (r := (numB (l.take (y + 1)) : Int)) rfl rfl rfl (by have := u8_lt x; rw [numB_snoc hx]; exact or_i64 (by omega) (u8_lt x))) ?_
    refine WL_val rfl rfl rfl (R_assign rfl rfl) ?_
    refine WL_nil ?_
    refine WQ_code ?_
    refine WC_region ?_
    refine WL_val rfl rfl rfl (R_add rfl rfl rfl (by omega)) ?_
    refine WL_val rfl rfl rfl (R_move rfl rfl) ?_
    refine WL_nil ?_
    refine WQ_nextF (y + 1) (by omega) (by omega) leZ (psZ) rfl (pqD)
  · have hyl : y = l.length := by omega
    subst hyl
    rw [List.take_length]
    refine WC_exit ?_
    refine WQ_code ?_
    refine WC_seq ?_
    refine WC_region ?_
    refine WL_val rfl rfl rfl (R_move rfl rfl) ?_
    refine WL_val rfl rfl rfl (R_assign rfl rfl) ?_
    refine WL_nil ?_
    refine WQ_code ?_
    refine WC_ret ?_
    refine WQ_ret rfl rfl (.cons (.tmp rfl) .nil) rfl (by
        exact ⟨rfl, rfl⟩) (pqD)
end Go.Proofs.YtkcfgglmlogjbaaGreat
end
section
set_option linter.unusedVariables false
set_option maxRecDepth 20000
set_option maxHeartbeats 2000000
namespace Go.Proofs.YtkcfgglmlogjbaaGreat
theorem msend_ok (a0 a2 a3 a4 a6 : Value) (mb p : Nat) (a1 : Value) {out : Bs} {ob : Option Nat} {k c : Nat} {pre tl : List Value} (hO : OwnS ob k out.length c 1 pre (bvs out) tl) (kk : UInt8) (bp : Nat) (L : List Pt) (PH : Heap) (hL : 1 ≤ L.length) (hL2 : L.length ≤ 10) (hR : ∀ q ∈ L, ∃ ent ∈ PH, RdB q.oa ent q.l) (hT : ∀ q ∈ L, q.l.length ≤ 100000) (hlen : (joinL L).length ≤ 1024) (hout : out.length ≤ 1000000) :
    Spec Tryz.prog 25 [ptrW p, .int .u8 (kk.toNat : Int), slV (some bp) L.length L.length] ([⟨some p, cl [a0, a1, a2, a3, a4, sVal ob k out.length c, a6, .int .i64 0] 70⟩, ⟨ob, cl (pre ++ (bvs out ++ tl)) 5⟩] ++ ([⟨some bp, cl (L.flatMap encT) 23⟩] ++ PH))
      (fun r H' => ∃ ob' k' c' pre' tl', r = .tuple #[] ∧ H' = [⟨some p, cl [a0, a1, a2, a3, a4, sVal ob' k' (out ++ encF kk (joinL L)).length c', a6, .int .i64 0] 70⟩, ⟨ob', cl (pre' ++ (bvs (out ++ encF kk (joinL L)) ++ tl')) 5⟩] ++ PH ∧ OwnS ob' k' (out ++ encF kk (joinL L)).length c' 1 pre' (bvs (out ++ encF kk (joinL L))) tl') := by
  have hel := encF_len kk (joinL L)
  refine Spec.of (E := [(0, ptrW p), (1, .int .u8 (kk.toNat : Int)), (2, slV (some bp) L.length L.length)]) Tryz.func25 rfl (by kernel_rfl) Tryz.ntmps25 rfl rfl (fun w => ?_)
  refine WC_seq ?_
  refine WC_region ?_
  refine WL_val rfl rfl rfl (R_move rfl rfl) ?_
  refine WL_val rfl rfl rfl (R_move rfl rfl) ?_
  refine WL_do rfl rfl rfl (D_call (join_ok bp L PH hL hL2 hR hT) rfl rfl rfl rfl (pqD)) ?_
  rintro _ _ ⟨_, ⟨oa1, c1, e1, rfl, hr1, rfl⟩, rfl⟩
  refine WL_val rfl rfl rfl (R_build rfl zv84 pl84 rfl rfl) ?_
  refine WL_do rfl rfl rfl (D_call (encode_ok kk hr1 hlen) rfl rfl rfl rfl (pqD)) ?_
  rintro _ _ ⟨_, ⟨oa2, c2, e2, rfl, rfl, hr2⟩, rfl⟩
  refine WL_val rfl rfl rfl (R_move rfl rfl) ?_
  refine WL_val rfl rfl rfl (R_extract rfl rfl rfl) ?_
  refine WL_val rfl rfl rfl (R_extract rfl rfl rfl) ?_
  refine WL_val rfl rfl rfl (R_assign rfl rfl) ?_
  refine WL_val rfl rfl rfl (R_assign rfl rfl) ?_
  refine WL_nil ?_
  refine WQ_code ?_
  refine WC_region ?_
  refine WL_val rfl rfl rfl (R_move rfl rfl) ?_
  refine WL_val rfl rfl rfl (R_move rfl rfl) ?_
  refine WL_val rfl rfl rfl (R_nilCheck rfl rfl) ?_
  refine WL_val rfl rfl rfl (R_fieldAddr rfl fa70_5 rfl) ?_
  refine WL_val rfl rfl rfl (R_load rfl sc23 rfl (mmD) rfl) ?_
  refine WL_val rfl rfl rfl (R_move rfl rfl) ?_
  refine WL_do rfl rfl rfl (D_appendB rfl si23 rfl hO plD rfl hr2 mmD (by omega) (by omega)) ?_
  rintro _ _ ⟨ob3, k3, c3, pre3, tl3, rfl, own3, rfl, _⟩
  rw [← bvs_app, show out.length + (encF kk (joinL L)).length = (out ++ encF kk (joinL L)).length from by simp] at own3 ⊢
  refine WL_val rfl rfl rfl (R_nilCheck rfl rfl) ?_
  refine WL_val rfl rfl rfl (R_fieldAddr rfl fa70_5 rfl) ?_
  refine WL_do0 rfl rfl (D_store (vs := [_]) rfl Tryz.sizeOf23 rfl rfl rfl rfl rfl (plD) (by exact Nat.le_of_ble_eq_true rfl)) ?_
  rintro _ _ rfl
  refine WL_nil ?_
  refine WQ_ret rfl rfl .nil rfl (by
      exact ⟨ob3, k3, c3, pre3, tl3, rfl, rfl, own3⟩) (pqD)
theorem mout_some (a0 a2 a3 a4 a6 : Value) (mb p : Nat) {out : Bs} {b : Nat} {k c : Nat} {pre tl : List Value} (hO : OwnS (some b) k out.length c 1 pre (bvs out) tl) (n : Nat) (hn : n ≤ 65536) (hout : out.length ≤ 1000000) : Spec Tryz.prog 27 [ptrW p, .int .i64 (n : Int)] [⟨some p, cl [a0, .map (some mb), a2, a3, a4, sVal (some b) k out.length c, a6, .int .i64 0] 70⟩, ⟨some b, cl (pre ++ (bvs out ++ tl)) 5⟩]
    (fun r H' => ∃ o c2 tl2 k' c' pre', r = .tuple #[slV o (out.take n).length c2, .int .i64 0] ∧ H' = [⟨some p, cl [a0, .map (some mb), a2, a3, a4, sVal (some b) k' (out.drop n).length c', a6, .int .i64 0] 70⟩, ⟨some b, cl (pre' ++ (bvs (out.drop n) ++ tl)) 5⟩, ⟨o, cl (bvs (out.take n) ++ tl2) 5⟩] ∧ OwnS (some b) k' (out.drop n).length c' 1 pre' (bvs (out.drop n)) tl ∧ Own o (out.take n).length c2 1 (bvs (out.take n)) tl2) := by
  obtain ⟨m, ⟨hm, hml⟩, hmT, hmD⟩ := take_min out n
  refine Spec.of (E := [(0, ptrW p), (1, .int .i64 (n : Int))]) Tryz.func27 rfl (by kernel_rfl) Tryz.ntmps27 rfl rfl (fun w => ?_)
  refine WC_seq ?_
  refine WC_region ?_
  refine WL_val rfl rfl rfl (R_assign rfl rfl) ?_
  refine WL_val rfl rfl rfl (R_assign rfl rfl) ?_
  refine WL_nil ?_
  refine WQ_code ?_
  refine WC_seq ?_
  refine WC_block ?_
  refine WC_seq ?_
  refine WC_region ?_
  refine WL_val rfl rfl rfl (R_move rfl rfl) ?_
  refine WL_do rfl rfl rfl (D_call (mnone_ok a0 a2 a3 a4 a6 mb p _) rfl rfl rfl rfl (pqD)) ?_
  rintro _ _ ⟨_, ⟨rfl, rfl⟩, rfl⟩
  refine WL_val rfl rfl rfl (R_assign rfl rfl) ?_
  refine WL_nil ?_
  refine WQ_code ?_
  refine WC_F rfl ?_
  refine WC_seq ?_
  refine WC_region ?_
  refine WL_val rfl rfl rfl (R_move rfl rfl) ?_
  refine WL_val rfl rfl rfl (R_lss rfl rfl rfl) ?_
  refine WL_val rfl rfl rfl (R_move rfl rfl) ?_
  refine WL_set (s := 14) (v := .bool false) rfl (by exact congrArg Value.bool (decide_eq_false (by omega))) ?_
  refine WL_val rfl rfl rfl (R_move rfl rfl) ?_
  refine WL_val rfl rfl rfl (R_gtr rfl rfl rfl) ?_
  refine WL_val rfl rfl rfl (R_pickF rfl rfl rfl) ?_
  refine WL_val rfl rfl rfl (R_assign rfl rfl) ?_
  refine WL_nil ?_
  refine WQ_code ?_
  refine WC_dF rfl (by omega) ?_
  refine WC_skip ?_
  refine WQ_code ?_
  refine WC_seq ?_
  refine WC_region ?_
  refine WL_val rfl rfl rfl (R_move rfl rfl) ?_
  refine WL_val rfl rfl rfl (R_move rfl rfl) ?_
  refine WL_val rfl rfl rfl (R_nilCheck rfl rfl) ?_
  refine WL_val rfl rfl rfl (R_fieldAddr rfl fa70_5 rfl) ?_
  refine WL_val rfl rfl rfl (R_load rfl sc23 rfl (mmD) rfl) ?_
  refine WL_val rfl rfl rfl (R_len rfl Tryz.underlying23 rfl) ?_
  refine WL_val rfl rfl rfl (R_minR (r := (m : Int)) rfl rfl rfl hm) ?_
  refine WL_val rfl rfl rfl (R_assign rfl rfl) ?_
  refine WL_nil ?_
  refine WQ_code ?_
  refine WC_seq ?_
  refine WC_region ?_
  refine WL_val rfl rfl rfl (R_move rfl rfl) ?_
  refine WL_val rfl rfl rfl (R_nilCheck rfl rfl) ?_
  refine WL_val rfl rfl rfl (R_fieldAddr rfl fa70_5 rfl) ?_
  refine WL_val rfl rfl rfl (R_load rfl sc23 rfl (mmD) rfl) ?_
  refine WL_val rfl rfl rfl (R_move rfl rfl) ?_
  refine WL_val rfl rfl rfl (R_sliceTo (m := m) rfl Tryz.underlying23 Tryz.sizeOf5 rfl rfl (by have := hO.le; omega)) ?_
  refine WL_set (s := 30) (v := .slice (some ⟨b, k, none⟩) (out.take m).length c) rfl (by rw [show (out.take m).length = m from by simp; omega]; rfl) ?_
  refine WL_do rfl rfl rfl (D_call (clone_some ((RdB.ownS hO).take m) (by simp; omega)) rfl rfl rfl rfl (pqD)) ?_
  rintro _ _ ⟨_, ⟨o9, c9, tl9, rfl, own9, rfl⟩, rfl⟩
  refine WL_val rfl rfl rfl (R_assign rfl rfl) ?_
  refine WL_nil ?_
  refine WQ_code ?_
  refine WC_seq ?_
  refine WC_region ?_
  refine WL_val rfl rfl rfl (R_move rfl rfl) ?_
  refine WL_val rfl rfl rfl (R_move rfl rfl) ?_
  refine WL_val rfl rfl rfl (R_nilCheck rfl rfl) ?_
  refine WL_val rfl rfl rfl (R_fieldAddr rfl fa70_5 rfl) ?_
  refine WL_val rfl rfl rfl (R_load rfl sc23 rfl (mmD) rfl) ?_
  refine WL_val rfl rfl rfl (R_move rfl rfl) ?_
  refine WL_val rfl rfl rfl (R_cutB (m := m) hO rfl Tryz.underlying23 Tryz.sizeOf5 rfl rfl (by omega)) ?_
  have hcut := hO.cutB (m := m) (by omega)
  rw [cutB_ent pre tl out m]
  refine WL_val rfl rfl rfl (R_nilCheck rfl rfl) ?_
  refine WL_val rfl rfl rfl (R_fieldAddr rfl fa70_5 rfl) ?_
  refine WL_do0 rfl rfl (D_store (vs := [_]) rfl Tryz.sizeOf23 rfl rfl rfl rfl rfl (plD) (by exact Nat.le_of_ble_eq_true rfl)) ?_
  rintro _ _ rfl
  refine WL_nil ?_
  refine WQ_code ?_
  refine WC_seq ?_
  refine WC_region ?_
  refine WL_val rfl rfl rfl (R_move rfl rfl) ?_
  refine WL_val rfl rfl rfl (R_assign rfl rfl) ?_
  refine WL_val rfl rfl rfl (R_assign rfl rfl) ?_
  refine WL_nil ?_
  refine WQ_code ?_
  refine WC_ret ?_
  refine WQ_ret rfl rfl (.cons (.tmp rfl) (.cons (.tmp rfl) .nil)) rfl (by
      rw [hmT, hmD]
      exact ⟨o9, c9, tl9, _, _, _, rfl, rfl, hcut, own9⟩) (pqD)
theorem mout_none (a0 a2 a3 a4 a6 : Value) (mb p : Nat) (n : Nat) (hn : n ≤ 65536) : Spec Tryz.prog 27 [ptrW p, .int .i64 (n : Int)] [⟨some p, cl [a0, .map (some mb), a2, a3, a4, .slice none 0 0, a6, .int .i64 0] 70⟩] (fun r H' => r = .tuple #[.slice none 0 0, .int .i64 0] ∧ H' = [⟨some p, cl [a0, .map (some mb), a2, a3, a4, .slice none 0 0, a6, .int .i64 0] 70⟩]) := by
  refine Spec.of (E := [(0, ptrW p), (1, .int .i64 (n : Int))]) Tryz.func27 rfl (by kernel_rfl) Tryz.ntmps27 rfl rfl (fun w => ?_)
  refine WC_seq ?_
  refine WC_region ?_
  refine WL_val rfl rfl rfl (R_assign rfl rfl) ?_
  refine WL_val rfl rfl rfl (R_assign rfl rfl) ?_
  refine WL_nil ?_
  refine WQ_code ?_
  refine WC_seq ?_
  refine WC_block ?_
  refine WC_seq ?_
  refine WC_region ?_
  refine WL_val rfl rfl rfl (R_move rfl rfl) ?_
  refine WL_do rfl rfl rfl (D_call (mnone_ok a0 a2 a3 a4 a6 mb p _) rfl rfl rfl rfl (pqD)) ?_
  rintro _ _ ⟨_, ⟨rfl, rfl⟩, rfl⟩
  refine WL_val rfl rfl rfl (R_assign rfl rfl) ?_
  refine WL_nil ?_
  refine WQ_code ?_
  refine WC_F rfl ?_
  refine WC_seq ?_
  refine WC_region ?_
  refine WL_val rfl rfl rfl (R_move rfl rfl) ?_
  refine WL_val rfl rfl rfl (R_lss rfl rfl rfl) ?_
  refine WL_val rfl rfl rfl (R_move rfl rfl) ?_
  refine WL_set (s := 14) (v := .bool false) rfl (by exact congrArg Value.bool (decide_eq_false (by omega))) ?_
  refine WL_val rfl rfl rfl (R_move rfl rfl) ?_
  refine WL_val rfl rfl rfl (R_gtr rfl rfl rfl) ?_
  refine WL_val rfl rfl rfl (R_pickF rfl rfl rfl) ?_
  refine WL_val rfl rfl rfl (R_assign rfl rfl) ?_
  refine WL_nil ?_
  refine WQ_code ?_
  refine WC_dF rfl (by omega) ?_
  refine WC_skip ?_
  refine WQ_code ?_
  refine WC_seq ?_
  refine WC_region ?_
  refine WL_val rfl rfl rfl (R_move rfl rfl) ?_
  refine WL_val rfl rfl rfl (R_move rfl rfl) ?_
  refine WL_val rfl rfl rfl (R_nilCheck rfl rfl) ?_
  refine WL_val rfl rfl rfl (R_fieldAddr rfl fa70_5 rfl) ?_
  refine WL_val rfl rfl rfl (R_load rfl sc23 rfl (mmD) rfl) ?_
  refine WL_val rfl rfl rfl (R_len rfl Tryz.underlying23 rfl) ?_
  refine WL_val rfl rfl rfl (R_minR (r := (0 : Int)) rfl rfl rfl (by omega)) ?_
  refine WL_val rfl rfl rfl (R_assign rfl rfl) ?_
  refine WL_nil ?_
  refine WQ_code ?_
  refine WC_seq ?_
  refine WC_region ?_
  refine WL_val rfl rfl rfl (R_move rfl rfl) ?_
  refine WL_val rfl rfl rfl (R_nilCheck rfl rfl) ?_
  refine WL_val rfl rfl rfl (R_fieldAddr rfl fa70_5 rfl) ?_
  refine WL_val rfl rfl rfl (R_load rfl sc23 rfl (mmD) rfl) ?_
  refine WL_val rfl rfl rfl (R_move rfl rfl) ?_
  refine WL_val rfl rfl rfl (R_sliceTo (m := 0) rfl Tryz.underlying23 Tryz.sizeOf5 rfl rfl (Nat.le_refl _)) ?_
  refine WL_do rfl rfl rfl (D_call (clone_nil) rfl rfl rfl rfl (pqD)) ?_
  rintro _ _ ⟨_, ⟨rfl, rfl⟩, rfl⟩
  refine WL_val rfl rfl rfl (R_assign rfl rfl) ?_
  refine WL_nil ?_
  refine WQ_code ?_
  refine WC_seq ?_
  refine WC_region ?_
  refine WL_val rfl rfl rfl (R_move rfl rfl) ?_
  refine WL_val rfl rfl rfl (R_move rfl rfl) ?_
  refine WL_val rfl rfl rfl (R_nilCheck rfl rfl) ?_
  refine WL_val rfl rfl rfl (R_fieldAddr rfl fa70_5 rfl) ?_
  refine WL_val rfl rfl rfl (R_load rfl sc23 rfl (mmD) rfl) ?_
  refine WL_val rfl rfl rfl (R_move rfl rfl) ?_
  refine WL_val rfl rfl rfl (R_sliceFromNil rfl Tryz.underlying23 Tryz.sizeOf5 rfl rfl) ?_
  refine WL_val rfl rfl rfl (R_nilCheck rfl rfl) ?_
  refine WL_val rfl rfl rfl (R_fieldAddr rfl fa70_5 rfl) ?_
  refine WL_do0 rfl rfl (D_store (vs := [_]) rfl Tryz.sizeOf23 rfl rfl rfl rfl rfl (plD) (by exact Nat.le_of_ble_eq_true rfl)) ?_
  rintro _ _ rfl
  refine WL_nil ?_
  refine WQ_code ?_
  refine WC_seq ?_
  refine WC_region ?_
  refine WL_val rfl rfl rfl (R_move rfl rfl) ?_
  refine WL_val rfl rfl rfl (R_assign rfl rfl) ?_
  refine WL_val rfl rfl rfl (R_assign rfl rfl) ?_
  refine WL_nil ?_
  refine WQ_code ?_
  refine WC_ret ?_
  refine WQ_ret rfl rfl (.cons (.tmp rfl) (.cons (.tmp rfl) .nil)) rfl (by
      exact ⟨rfl, rfl⟩) (pqD)
theorem feed0_ok (p : Nat) {bs : Bs} {ob : Option Nat} {k c : Nat} {pre tl : List Value} (hO : OwnS ob k bs.length c 1 pre (bvs bs) tl) {l : Bs} {oa : Option Addr} {ent : Ent} {c2 : Nat} (hr : RdB oa ent l) (hfit : bs.length + l.length ≤ 65536) : Spec Tryz.prog 50 [ptrW p, .slice oa l.length c2] [⟨some p, cl [sVal ob k bs.length c, .int .i64 0] 32⟩, ⟨ob, cl (pre ++ (bvs bs ++ tl)) 5⟩, ent]
    (fun r H' => ∃ ob' k' c' pre' tl', r = .int .i64 0 ∧ H' = [⟨some p, cl [sVal ob' k' (bs ++ l).length c', .int .i64 0] 32⟩, ⟨ob', cl (pre' ++ (bvs (bs ++ l) ++ tl')) 5⟩, ent] ∧ OwnS ob' k' (bs ++ l).length c' 1 pre' (bvs (bs ++ l)) tl') := by
  refine Spec.of (E := [(0, ptrW p), (1, .slice oa l.length c2)]) Tryz.func50 rfl (by kernel_rfl) Tryz.ntmps50 rfl rfl (fun w => ?_)
  refine WC_seq ?_
  refine WC_region ?_
  refine WL_val rfl rfl rfl (R_assign rfl rfl) ?_
  refine WL_nil ?_
  refine WQ_code ?_
  refine WC_seq ?_
  refine WC_block ?_
  refine WC_seq ?_
  refine WC_region ?_
  refine WL_val rfl rfl rfl (R_move rfl rfl) ?_
  refine WL_val rfl rfl rfl (R_ptrEqNil rfl Tryz.underlying68 rfl) ?_
  refine WL_val rfl rfl rfl (R_assign rfl rfl) ?_
  refine WL_nil ?_
  refine WQ_code ?_
  refine WC_F rfl ?_
  refine WC_seq ?_
  refine WC_region ?_
  refine WL_val rfl rfl rfl (R_move rfl rfl) ?_
  refine WL_val rfl rfl rfl (R_nilCheck rfl rfl) ?_
  refine WL_val rfl rfl rfl (R_fieldAddr rfl fa32_1 rfl) ?_
  refine WL_val rfl rfl rfl (R_load rfl sc27 rfl (mmD) rfl) ?_
  refine WL_val rfl rfl rfl (R_neq rfl rfl rfl) ?_
  refine WL_val rfl rfl rfl (R_assign rfl rfl) ?_
  refine WL_nil ?_
  refine WQ_code ?_
  refine WC_dF rfl (by decide) ?_
  refine WC_seq ?_
  refine WC_region ?_
  refine WL_val rfl rfl rfl (R_move rfl rfl) ?_
  refine WL_val rfl rfl rfl (R_len rfl Tryz.underlying23 rfl) ?_
  refine WL_val rfl rfl rfl (R_move rfl rfl) ?_
  refine WL_val rfl rfl rfl (R_nilCheck rfl rfl) ?_
  refine WL_val rfl rfl rfl (R_fieldAddr rfl fa32_0 rfl) ?_
  refine WL_val rfl rfl rfl (R_load rfl sc23 rfl (mmD) rfl) ?_
  refine WL_val rfl rfl rfl (R_len rfl Tryz.underlying23 rfl) ?_
  refine WL_val rfl rfl rfl (R_subR (r := (65536 - (bs.length : Int))) rfl rfl rfl (by rw [wrap64_in (by omega) (by omega)])) ?_
  refine WL_val rfl rfl rfl (R_gtr rfl rfl rfl) ?_
  refine WL_val rfl rfl rfl (R_assign rfl rfl) ?_
  refine WL_nil ?_
  refine WQ_code ?_
  refine WC_dF rfl (by omega) ?_
  refine WC_skip ?_
  refine WQ_code ?_
  refine WC_seq ?_
  refine WC_region ?_
  refine WL_val rfl rfl rfl (R_move rfl rfl) ?_
  refine WL_val rfl rfl rfl (R_move rfl rfl) ?_
  refine WL_val rfl rfl rfl (R_nilCheck rfl rfl) ?_
  refine WL_val rfl rfl rfl (R_fieldAddr rfl fa32_0 rfl) ?_
  refine WL_val rfl rfl rfl (R_load rfl sc23 rfl (mmD) rfl) ?_
  refine WL_val rfl rfl rfl (R_move rfl rfl) ?_
  refine WL_do rfl rfl rfl (D_appendB rfl si23 rfl hO plD rfl hr mmD (by omega) (by omega)) ?_
  rintro _ _ ⟨ob2, k2, c3, pre2, tl2, rfl, own2, rfl, _⟩
  rw [← bvs_app, show bs.length + l.length = (bs ++ l).length from by simp] at own2 ⊢
  refine WL_val rfl rfl rfl (R_nilCheck rfl rfl) ?_
  refine WL_val rfl rfl rfl (R_fieldAddr rfl fa32_0 rfl) ?_
  refine WL_do0 rfl rfl (D_store (vs := [_]) rfl Tryz.sizeOf23 rfl rfl rfl rfl rfl (plD) (by exact Nat.le_of_ble_eq_true rfl)) ?_
  rintro _ _ rfl
  refine WL_nil ?_
  refine WQ_code ?_
  refine WC_seq ?_
  refine WC_region ?_
  refine WL_val rfl rfl rfl (R_assign rfl rfl) ?_
  refine WL_nil ?_
  refine WQ_code ?_
  refine WC_ret ?_
  refine WQ_ret rfl rfl (.cons (.tmp rfl) .nil) rfl (by
      exact ⟨ob2, k2, c3, pre2, tl2, rfl, rfl, own2⟩) (pqD)
theorem rnext0_wait (p : Nat) {bs : Bs} {ob : Option Nat} {k c : Nat} {pre tl : List Value} (hO : OwnS ob k bs.length c 1 pre (bvs bs) tl) (hl : bs.length ≤ 65536) (hN : nxt bs = .wait) : Spec Tryz.prog 52 [ptrW p] [⟨some p, cl [sVal ob k bs.length c, .int .i64 0] 32⟩, ⟨ob, cl (pre ++ (bvs bs ++ tl)) 5⟩]
    (fun r H' => ∃ k' c', r = .tuple #[.agg #[.int .u8 0, .slice none 0 0], .bool false, .int .i64 0] ∧ H' = [⟨some p, cl [sVal ob k' bs.length c', .int .i64 0] 32⟩, ⟨ob, cl (pre ++ (bvs bs ++ tl)) 5⟩] ∧ OwnS ob k' bs.length c' 1 pre (bvs bs) tl) := by
  refine Spec.of (E := [(0, ptrW p)]) Tryz.func52 rfl (by kernel_rfl) Tryz.ntmps52 rfl rfl (fun w => ?_)
  refine WC_seq ?_
  refine WC_region ?_
  refine WL_do rfl rfl rfl (D_alloc rfl zv84) ?_
  rintro _ _ ⟨b1, rfl, rfl⟩
  refine WL_val rfl rfl rfl (R_assign rfl rfl) ?_
  refine WL_val rfl rfl rfl (R_assign rfl rfl) ?_
  refine WL_nil ?_
  refine WQ_code ?_
  refine WC_seq ?_
  refine WC_block ?_
  refine WC_seq ?_
  refine WC_region ?_
  refine WL_val rfl rfl rfl (R_move rfl rfl) ?_
  refine WL_val rfl rfl rfl (R_ptrEqNil rfl Tryz.underlying68 rfl) ?_
  refine WL_val rfl rfl rfl (R_assign rfl rfl) ?_
  refine WL_nil ?_
  refine WQ_code ?_
  refine WC_F rfl ?_
  refine WC_seq ?_
  refine WC_region ?_
  refine WL_val rfl rfl rfl (R_move rfl rfl) ?_
  refine WL_val rfl rfl rfl (R_nilCheck rfl rfl) ?_
  refine WL_val rfl rfl rfl (R_fieldAddr rfl fa32_1 rfl) ?_
  refine WL_val rfl rfl rfl (R_load rfl sc27 rfl (mmD) rfl) ?_
  refine WL_val rfl rfl rfl (R_neq rfl rfl rfl) ?_
  refine WL_val rfl rfl rfl (R_assign rfl rfl) ?_
  refine WL_nil ?_
  refine WQ_code ?_
  refine WC_dF rfl (by decide) ?_
  refine WC_skip ?_
  refine WQ_code ?_
  refine WC_seq ?_
  refine WC_region ?_
  refine WL_val rfl rfl rfl (R_move rfl rfl) ?_
  refine WL_val rfl rfl rfl (R_nilCheck rfl rfl) ?_
  refine WL_val rfl rfl rfl (R_fieldAddr rfl fa32_0 rfl) ?_
  refine WL_val rfl rfl rfl (R_load rfl sc23 rfl (mmD) rfl) ?_
  refine WL_do rfl rfl rfl (D_call (next_wait (RdB.ownS hO) (by omega) hO.le hN) rfl rfl rfl rfl (pqD)) ?_
  rintro _ _ ⟨_, ⟨rfl, rfl⟩, rfl⟩
  refine WL_val rfl rfl rfl (R_move rfl rfl) ?_
  refine WL_val rfl rfl rfl (R_extract rfl rfl rfl) ?_
  refine WL_val rfl rfl rfl (R_extract rfl rfl rfl) ?_
  refine WL_val rfl rfl rfl (R_extract rfl rfl rfl) ?_
  refine WL_do0 rfl rfl (D_store (vs := [_, _]) rfl Tryz.sizeOf84 rfl rfl rfl rfl rfl (plD) (by exact Nat.le_of_ble_eq_true rfl)) ?_
  rintro _ _ rfl
  refine WL_val rfl rfl rfl (R_assign rfl rfl) ?_
  refine WL_val rfl rfl rfl (R_assign rfl rfl) ?_
  refine WL_nil ?_
  refine WQ_code ?_
  refine WC_seq ?_
  refine WC_seq ?_
  refine WC_region ?_
  refine WL_val rfl rfl rfl (R_move rfl rfl) ?_
  refine WL_val rfl rfl rfl (R_neq rfl rfl rfl) ?_
  refine WL_nil ?_
  refine WQ_code ?_
  refine WC_dF rfl (by decide) ?_
  refine WC_skip ?_
  refine WQ_code ?_
  refine WC_seq ?_
  refine WC_region ?_
  refine WL_val rfl rfl rfl (R_move rfl rfl) ?_
  refine WL_val rfl rfl rfl (R_move rfl rfl) ?_
  refine WL_val rfl rfl rfl (R_nilCheck rfl rfl) ?_
  refine WL_val rfl rfl rfl (R_fieldAddr rfl fa32_0 rfl) ?_
  refine WL_val rfl rfl rfl (R_load rfl sc23 rfl (mmD) rfl) ?_
  refine WL_val rfl rfl rfl (R_move rfl rfl) ?_
  refine WL_val rfl rfl rfl (R_cutB (m := 0) hO rfl Tryz.underlying23 Tryz.sizeOf5 rfl rfl (Nat.zero_le _)) ?_
  have hcut := hO.cutB (m := 0) (Nat.zero_le _)
  rw [show bvs (bs.take 0) = [] from rfl, List.append_nil, List.drop_zero] at hcut
  rw [List.drop_zero]
  refine WL_val rfl rfl rfl (R_nilCheck rfl rfl) ?_
  refine WL_val rfl rfl rfl (R_fieldAddr rfl fa32_0 rfl) ?_
  refine WL_do0 rfl rfl (D_store (vs := [_]) rfl Tryz.sizeOf23 rfl rfl rfl rfl rfl (plD) (by exact Nat.le_of_ble_eq_true rfl)) ?_
  rintro _ _ rfl
  refine WL_nil ?_
  refine WQ_code ?_
  refine WC_seq ?_
  refine WC_region ?_
  refine WL_val rfl rfl rfl (R_loadA (vs := [_, _]) rfl ag84 rfl (mmD) rfl (atZ)) ?_
  refine WL_val rfl rfl rfl (R_move rfl rfl) ?_
  refine WL_val rfl rfl rfl (R_gtr rfl rfl rfl) ?_
  refine WL_do0 rfl rfl (D_store (vs := [_, _]) rfl Tryz.sizeOf84 rfl rfl rfl rfl rfl (plD) (by exact Nat.le_of_ble_eq_true rfl)) ?_
  rintro _ _ rfl
  refine WL_val rfl rfl rfl (R_assign rfl rfl) ?_
  refine WL_val rfl rfl rfl (R_assign rfl rfl) ?_
  refine WL_nil ?_
  refine WQ_code ?_
  refine WC_ret ?_
  refine WQ_ret rfl rfl (.cons (.cell (vs := [_, _]) rfl ag84 (mmD) rfl (atZ)) (.cons (.tmp rfl) (.cons (.tmp rfl) .nil))) rfl (by
      exact ⟨_, _, rfl, rfl, hcut⟩) (pqD)
theorem rnext0_got (p : Nat) {bs : Bs} {ob : Option Nat} {k c : Nat} {pre tl : List Value} (hO : OwnS ob k bs.length c 1 pre (bvs bs) tl) (hl : bs.length ≤ 65536) {kk : UInt8} {body : Bs} {n : Nat} (hN : nxt bs = .got kk body n) : Spec Tryz.prog 52 [ptrW p] [⟨some p, cl [sVal ob k bs.length c, .int .i64 0] 32⟩, ⟨ob, cl (pre ++ (bvs bs ++ tl)) 5⟩]
    (fun r H' => ∃ o c2 tl2 k' c' pre', r = .tuple #[.agg #[.int .u8 (kk.toNat : Int), slV o body.length c2], .bool true, .int .i64 0] ∧ H' = [⟨some p, cl [sVal ob k' (bs.drop n).length c', .int .i64 0] 32⟩, ⟨ob, cl (pre' ++ (bvs (bs.drop n) ++ tl)) 5⟩, ⟨o, cl (bvs body ++ tl2) 5⟩] ∧ OwnS ob k' (bs.drop n).length c' 1 pre' (bvs (bs.drop n)) tl ∧ Own o body.length c2 1 (bvs body) tl2) := by
  obtain ⟨hn1, hn2, hn3⟩ := nxt_got hN
  refine Spec.of (E := [(0, ptrW p)]) Tryz.func52 rfl (by kernel_rfl) Tryz.ntmps52 rfl rfl (fun w => ?_)
  refine WC_seq ?_
  refine WC_region ?_
  refine WL_do rfl rfl rfl (D_alloc rfl zv84) ?_
  rintro _ _ ⟨b1, rfl, rfl⟩
  refine WL_val rfl rfl rfl (R_assign rfl rfl) ?_
  refine WL_val rfl rfl rfl (R_assign rfl rfl) ?_
  refine WL_nil ?_
  refine WQ_code ?_
  refine WC_seq ?_
  refine WC_block ?_
  refine WC_seq ?_
  refine WC_region ?_
  refine WL_val rfl rfl rfl (R_move rfl rfl) ?_
  refine WL_val rfl rfl rfl (R_ptrEqNil rfl Tryz.underlying68 rfl) ?_
  refine WL_val rfl rfl rfl (R_assign rfl rfl) ?_
  refine WL_nil ?_
  refine WQ_code ?_
  refine WC_F rfl ?_
  refine WC_seq ?_
  refine WC_region ?_
  refine WL_val rfl rfl rfl (R_move rfl rfl) ?_
  refine WL_val rfl rfl rfl (R_nilCheck rfl rfl) ?_
  refine WL_val rfl rfl rfl (R_fieldAddr rfl fa32_1 rfl) ?_
  refine WL_val rfl rfl rfl (R_load rfl sc27 rfl (mmD) rfl) ?_
  refine WL_val rfl rfl rfl (R_neq rfl rfl rfl) ?_
  refine WL_val rfl rfl rfl (R_assign rfl rfl) ?_
  refine WL_nil ?_
  refine WQ_code ?_
  refine WC_dF rfl (by decide) ?_
  refine WC_skip ?_
  refine WQ_code ?_
  refine WC_seq ?_
  refine WC_region ?_
  refine WL_val rfl rfl rfl (R_move rfl rfl) ?_
  refine WL_val rfl rfl rfl (R_nilCheck rfl rfl) ?_
  refine WL_val rfl rfl rfl (R_fieldAddr rfl fa32_0 rfl) ?_
  refine WL_val rfl rfl rfl (R_load rfl sc23 rfl (mmD) rfl) ?_
  refine WL_do rfl rfl rfl (D_call (next_got (RdB.ownS hO) (by omega) hO.le hN) rfl rfl rfl rfl (pqD)) ?_
  rintro _ _ ⟨_, ⟨o9, c9, tl9, rfl, rfl, own9⟩, rfl⟩
  refine WL_val rfl rfl rfl (R_move rfl rfl) ?_
  refine WL_val rfl rfl rfl (R_extract rfl rfl rfl) ?_
  refine WL_val rfl rfl rfl (R_extract rfl rfl rfl) ?_
  refine WL_val rfl rfl rfl (R_extract rfl rfl rfl) ?_
  refine WL_do0 rfl rfl (D_store (vs := [_, _]) rfl Tryz.sizeOf84 rfl rfl rfl rfl rfl (plD) (by exact Nat.le_of_ble_eq_true rfl)) ?_
  rintro _ _ rfl
  refine WL_val rfl rfl rfl (R_assign rfl rfl) ?_
  refine WL_val rfl rfl rfl (R_assign rfl rfl) ?_
  refine WL_nil ?_
  refine WQ_code ?_
  refine WC_seq ?_
  refine WC_seq ?_
  refine WC_region ?_
  refine WL_val rfl rfl rfl (R_move rfl rfl) ?_
  refine WL_val rfl rfl rfl (R_neq rfl rfl rfl) ?_
  refine WL_nil ?_
  refine WQ_code ?_
  refine WC_dF rfl (by decide) ?_
  refine WC_skip ?_
  refine WQ_code ?_
  refine WC_seq ?_
  refine WC_region ?_
  refine WL_val rfl rfl rfl (R_move rfl rfl) ?_
  refine WL_val rfl rfl rfl (R_move rfl rfl) ?_
  refine WL_val rfl rfl rfl (R_nilCheck rfl rfl) ?_
  refine WL_val rfl rfl rfl (R_fieldAddr rfl fa32_0 rfl) ?_
  refine WL_val rfl rfl rfl (R_load rfl sc23 rfl (mmD) rfl) ?_
  refine WL_val rfl rfl rfl (R_move rfl rfl) ?_
  refine WL_val rfl rfl rfl (R_cutB (m := n) hO rfl Tryz.underlying23 Tryz.sizeOf5 rfl rfl hn2) ?_
  have hcut := hO.cutB hn2
  rw [cutB_ent pre tl bs n]
  refine WL_val rfl rfl rfl (R_nilCheck rfl rfl) ?_
  refine WL_val rfl rfl rfl (R_fieldAddr rfl fa32_0 rfl) ?_
  refine WL_do0 rfl rfl (D_store (vs := [_]) rfl Tryz.sizeOf23 rfl rfl rfl rfl rfl (plD) (by exact Nat.le_of_ble_eq_true rfl)) ?_
  rintro _ _ rfl
  refine WL_nil ?_
  refine WQ_code ?_
  refine WC_seq ?_
  refine WC_region ?_
  refine WL_val rfl rfl rfl (R_loadA (vs := [_, _]) rfl ag84 rfl (mmD) rfl (atZ)) ?_
  refine WL_val rfl rfl rfl (R_move rfl rfl) ?_
  refine WL_val rfl rfl rfl (R_gtr rfl rfl rfl) ?_
  refine WL_set (s := 49) (v := .bool true) rfl (by exact congrArg Value.bool (decide_eq_true (by omega))) ?_
  refine WL_do0 rfl rfl (D_store (vs := [_, _]) rfl Tryz.sizeOf84 rfl rfl rfl rfl rfl (plD) (by exact Nat.le_of_ble_eq_true rfl)) ?_
  rintro _ _ rfl
  refine WL_val rfl rfl rfl (R_assign rfl rfl) ?_
  refine WL_val rfl rfl rfl (R_assign rfl rfl) ?_
  refine WL_nil ?_
  refine WQ_code ?_
  refine WC_ret ?_
  refine WQ_ret rfl rfl (.cons (.cell (vs := [_, _]) rfl ag84 (mmD) rfl (atZ)) (.cons (.tmp rfl) (.cons (.tmp rfl) .nil))) rfl (by
      exact ⟨o9, c9, tl9, _, _, _, rfl, rfl, hcut, own9⟩) (pqD)
end Go.Proofs.YtkcfgglmlogjbaaGreat
end
section
set_option linter.unusedVariables false
set_option maxRecDepth 20000
namespace Go.Proofs.YtkcfgglmlogjbaaGreat
/-- A session with one stream, the one with the number 1. -/
structure MxX where
  win : Nat
  own : Nat
  oth : Nat
  snd : Nat
  rcv : Nat
  cr : Nat
  out : Bs
  rd : Bs
  un : Bs
structure MxM where
  p : Nat
  mb : Nat
  sp : Nat
  rp : Nat
  es : Array MapEntry
  mc : Nat
  wv : Value
  ob : Option Nat
  ok : Nat
  oc : Nat
  op : List Value
  ot : List Value
  ub : Option Nat
  uk : Nat
  uc : Nat
  up : List Value
  ut : List Value
  rb : Option Nat
  rk : Nat
  rc : Nat
  rq : List Value
  rt : List Value
abbrev mxEc (m : MxM) (x : MxX) : List Value := [.int .i64 (x.win : Int), .map (some m.mb), .int .i64 (x.own : Int), .int .i64 (x.oth : Int), m.wv, sVal m.ob m.ok x.out.length m.oc, ptrW m.rp, .int .i64 0]
abbrev mxE (m : MxM) (x : MxX) : Ent := ⟨some m.p, cl (mxEc m x) 70⟩
abbrev mxM (m : MxM) : Ent := ⟨some m.mb, .map m.es m.mc⟩
abbrev mxS (m : MxM) (x : MxX) : Ent := ⟨some m.sp, cl [.int .i64 (x.snd : Int), .int .i64 0, .bool false, .bool false, .bool false, .int .i64 0, .int .i64 (x.rcv : Int), sVal m.ub m.uk x.un.length m.uc, .int .i64 (x.cr : Int)] 96⟩
abbrev mxR (m : MxM) (x : MxX) : Ent := ⟨some m.rp, cl [sVal m.rb m.rk x.rd.length m.rc, .int .i64 0] 32⟩
abbrev mxO (m : MxM) (x : MxX) : Ent := ⟨m.ob, cl (m.op ++ (bvs x.out ++ m.ot)) 5⟩
abbrev mxU (m : MxM) (x : MxX) : Ent := ⟨m.ub, cl (m.up ++ (bvs x.un ++ m.ut)) 5⟩
abbrev mxB (m : MxM) (x : MxX) : Ent := ⟨m.rb, cl (m.rq ++ (bvs x.rd ++ m.rt)) 5⟩
structure MxIs (m : MxM) (x : MxX) : Prop where
  mp : Mk ekW ptrW m.es m.mc [((1 : Int), m.sp)]
  oO : OwnS m.ob m.ok x.out.length m.oc 1 m.op (bvs x.out) m.ot
  uO : OwnS m.ub m.uk x.un.length m.uc 1 m.up (bvs x.un) m.ut
  rO : OwnS m.rb m.rk x.rd.length m.rc 1 m.rq (bvs x.rd) m.rt
  oo : x.own = 3 ∧ x.oth = 2 ∨ x.own = 2 ∧ x.oth = 3
  w : 1 ≤ x.win ∧ x.win ≤ 4096
  b : x.snd ≤ 10000 ∧ x.rcv ≤ 10000 ∧ x.cr ≤ 10000
end Go.Proofs.YtkcfgglmlogjbaaGreat
end
section
set_option linter.unusedVariables false
set_option maxRecDepth 20000
set_option maxHeartbeats 2000000
namespace Go.Proofs.YtkcfgglmlogjbaaGreat
theorem mlive_ok {m : MxM} {x : MxX} (h : MxIs m x) : Spec Tryz.prog 55 [ptrW m.p, .int .i64 1, .bool true] [mxE m x, mxM m, mxS m x] (fun r H' => r = .tuple #[ptrW m.sp, .int .i64 0] ∧ H' = [mxE m x, mxM m, mxS m x]) := by
  refine Spec.of (E := [(0, ptrW m.p), (1, .int .i64 1), (2, .bool true)]) Tryz.func55 rfl (by kernel_rfl) Tryz.ntmps55 rfl rfl (fun w => ?_)
  refine WC_seq ?_
  refine WC_region ?_
  refine WL_val rfl rfl rfl (R_assign rfl rfl) ?_
  refine WL_val rfl rfl rfl (R_assign rfl rfl) ?_
  refine WL_nil ?_
  refine WQ_code ?_
  refine WC_seq ?_
  refine WC_seq ?_
  refine WC_region ?_
  refine WL_val rfl rfl rfl (R_move rfl rfl) ?_
  refine WL_val rfl rfl rfl (R_move rfl rfl) ?_
  refine WL_do rfl rfl rfl (D_call (mmay_ok _ _ _ _ _ m.mb m.p _) rfl rfl rfl rfl (pqD)) ?_
  rintro _ _ ⟨_, ⟨rfl, rfl⟩, rfl⟩
  refine WL_val rfl rfl rfl (R_assign rfl rfl) ?_
  refine WL_nil ?_
  refine WQ_code ?_
  refine WC_seq ?_
  refine WC_region ?_
  refine WL_val rfl rfl rfl (R_move rfl rfl) ?_
  refine WL_val rfl rfl rfl (R_neq rfl rfl rfl) ?_
  refine WL_nil ?_
  refine WQ_code ?_
  refine WC_dF rfl (by decide) ?_
  refine WC_skip ?_
  refine WQ_code ?_
  refine WC_seq ?_
  refine WC_region ?_
  refine WL_val rfl rfl rfl (R_move rfl rfl) ?_
  refine WL_val rfl rfl rfl (R_nilCheck rfl rfl) ?_
  refine WL_val rfl rfl rfl (R_fieldAddr rfl fa70_1 rfl) ?_
  refine WL_val rfl rfl rfl (R_load rfl sc67 rfl (mmD) rfl) ?_
  refine WL_val rfl rfl rfl (R_move rfl rfl) ?_
  refine WL_val rfl rfl rfl (R_lookK (k := (1 : Int)) (a := m.sp) rfl Tryz.underlying67 int_key rfl rfl mmD h.mp (List.mem_cons_self ..)) ?_
  refine WL_val rfl rfl rfl (R_assign rfl rfl) ?_
  refine WL_nil ?_
  refine WQ_code ?_
  refine WC_seq ?_
  refine WC_block ?_
  refine WC_seq ?_
  refine WC_region ?_
  refine WL_val rfl rfl rfl (R_move rfl rfl) ?_
  refine WL_val rfl rfl rfl (R_ptrEqNil rfl Tryz.underlying92 rfl) ?_
  refine WL_val rfl rfl rfl (R_assign rfl rfl) ?_
  refine WL_nil ?_
  refine WQ_code ?_
  refine WC_F rfl ?_
  refine WC_seq ?_
  refine WC_region ?_
  refine WL_val rfl rfl rfl (R_move rfl rfl) ?_
  refine WL_val rfl rfl rfl (R_nilCheck rfl rfl) ?_
  refine WL_val rfl rfl rfl (R_fieldAddr rfl fa96_0 rfl) ?_
  refine WL_val rfl rfl rfl (R_fieldAddr rfl fa94_4 rfl) ?_
  refine WL_val rfl rfl rfl (R_load rfl sc4 rfl (mmD) rfl) ?_
  refine WL_val rfl rfl rfl (R_assign rfl rfl) ?_
  refine WL_set (s := 25) (v := .bool false) rfl (by rfl) ?_
  refine WL_nil ?_
  refine WQ_code ?_
  refine WC_F rfl ?_
  refine WC_skip ?_
  refine WQ_code ?_
  refine WC_seq ?_
  refine WC_region ?_
  refine WL_val rfl rfl rfl (R_move rfl rfl) ?_
  refine WL_val rfl rfl rfl (R_assign rfl rfl) ?_
  refine WL_val rfl rfl rfl (R_assign rfl rfl) ?_
  refine WL_nil ?_
  refine WQ_code ?_
  refine WC_ret ?_
  refine WQ_ret rfl rfl (.cons (.tmp rfl) (.cons (.tmp rfl) .nil)) rfl (by
      exact ⟨rfl, rfl⟩) (pqD)
theorem mdata_ok {m : MxM} {x : MxX} (h : MxIs m x) {l : Bs} {oa : Option Addr} {ent : Ent} {c : Nat} (hr : RdB oa ent l) (hl : l.length ≤ x.rcv) (hu : x.un.length ≤ 100000) : Spec Tryz.prog 83 [ptrW m.p, .int .i64 1, ptrW m.sp, .slice oa l.length c] [mxS m x, mxU m x, ent]
    (fun r H' => ∃ ub' uk' uc' up' ut', r = .tuple #[] ∧ MxIs { m with ub := ub', uk := uk', uc := uc', up := up', ut := ut' } ({ x with un := x.un ++ l, rcv := x.rcv - l.length }) ∧ H' = [mxS { m with ub := ub', uk := uk', uc := uc', up := up', ut := ut' } ({ x with un := x.un ++ l, rcv := x.rcv - l.length }), mxU { m with ub := ub', uk := uk', uc := uc', up := up', ut := ut' } ({ x with un := x.un ++ l, rcv := x.rcv - l.length }), ent]) := by
  have hb := h.b
  have hO := h.uO
  refine Spec.of (E := [(0, ptrW m.p), (1, .int .i64 1), (2, ptrW m.sp), (3, .slice oa l.length c)]) Tryz.func83 rfl (by kernel_rfl) Tryz.ntmps83 rfl rfl (fun w => ?_)
  refine WC_seq ?_
  refine WC_region ?_
  refine WL_val rfl rfl rfl (R_move rfl rfl) ?_
  refine WL_val rfl rfl rfl (R_nilCheck rfl rfl) ?_
  refine WL_val rfl rfl rfl (R_fieldAddr rfl fa96_0 rfl) ?_
  refine WL_val rfl rfl rfl (R_fieldAddr rfl fa94_3 rfl) ?_
  refine WL_val rfl rfl rfl (R_load rfl sc4 rfl (mmD) rfl) ?_
  refine WL_val rfl rfl rfl (R_not rfl rfl) ?_
  refine WL_val rfl rfl rfl (R_move rfl rfl) ?_
  refine WL_set (s := 14) (v := .bool true) rfl (by rfl) ?_
  refine WL_val rfl rfl rfl (R_move rfl rfl) ?_
  refine WL_val rfl rfl rfl (R_len rfl Tryz.underlying23 rfl) ?_
  refine WL_val rfl rfl rfl (R_move rfl rfl) ?_
  refine WL_val rfl rfl rfl (R_nilCheck rfl rfl) ?_
  refine WL_val rfl rfl rfl (R_fieldAddr rfl fa96_1 rfl) ?_
  refine WL_val rfl rfl rfl (R_load rfl sc3 rfl (mmD) rfl) ?_
  refine WL_val rfl rfl rfl (R_leq rfl rfl rfl) ?_
  refine WL_val rfl rfl rfl (R_pickT rfl rfl rfl) ?_
  refine WL_set (s := 22) (v := .bool true) rfl (by exact congrArg Value.bool (decide_eq_true (by omega))) ?_
  refine WL_do rfl rfl rfl (D_call (mmust_ok _) rfl rfl rfl rfl (pqD)) ?_
  rintro _ _ ⟨_, ⟨rfl, rfl⟩, rfl⟩
  refine WL_nil ?_
  refine WQ_code ?_
  refine WC_seq ?_
  refine WC_region ?_
  refine WL_val rfl rfl rfl (R_move rfl rfl) ?_
  refine WL_val rfl rfl rfl (R_move rfl rfl) ?_
  refine WL_val rfl rfl rfl (R_nilCheck rfl rfl) ?_
  refine WL_val rfl rfl rfl (R_fieldAddr rfl fa96_2 rfl) ?_
  refine WL_val rfl rfl rfl (R_load rfl sc23 rfl (mmD) rfl) ?_
  refine WL_val rfl rfl rfl (R_move rfl rfl) ?_
  refine WL_do rfl rfl rfl (D_appendB rfl si23 rfl hO plD rfl hr mmD (by omega) (by omega)) ?_
  rintro _ _ ⟨ob3, k3, c3, pre3, tl3, rfl, own3, rfl, _⟩
  rw [← bvs_app, show x.un.length + l.length = (x.un ++ l).length from by simp] at own3 ⊢
  refine WL_val rfl rfl rfl (R_nilCheck rfl rfl) ?_
  refine WL_val rfl rfl rfl (R_fieldAddr rfl fa96_2 rfl) ?_
  refine WL_do0 rfl rfl (D_store (vs := [_]) rfl Tryz.sizeOf23 rfl rfl rfl rfl rfl (plD) (by exact Nat.le_of_ble_eq_true rfl)) ?_
  rintro _ _ rfl
  refine WL_nil ?_
  refine WQ_code ?_
  refine WC_region ?_
  refine WL_val rfl rfl rfl (R_move rfl rfl) ?_
  refine WL_val rfl rfl rfl (R_nilCheck rfl rfl) ?_
  refine WL_val rfl rfl rfl (R_fieldAddr rfl fa96_1 rfl) ?_
  refine WL_val rfl rfl rfl (R_load rfl sc3 rfl (mmD) rfl) ?_
  refine WL_val rfl rfl rfl (R_move rfl rfl) ?_
  refine WL_val rfl rfl rfl (R_len rfl Tryz.underlying23 rfl) ?_
  refine WL_val rfl rfl rfl (R_subR (r := ((x.rcv - l.length : Nat) : Int)) rfl rfl rfl (by rw [wrap64_in (by omega) (by omega)]; omega)) ?_
  refine WL_val rfl rfl rfl (R_nilCheck rfl rfl) ?_
  refine WL_val rfl rfl rfl (R_fieldAddr rfl fa96_1 rfl) ?_
  refine WL_do0 rfl rfl (D_store (vs := [_]) rfl Tryz.sizeOf3 rfl rfl rfl rfl rfl (plD) (by exact Nat.le_of_ble_eq_true rfl)) ?_
  rintro _ _ rfl
  refine WL_nil ?_
  refine WQ_ret rfl rfl .nil rfl (by
      exact ⟨ob3, k3, c3, pre3, tl3, rfl, ⟨h.mp, h.oO, own3, h.rO, h.oo, h.w, by dsimp only; omega⟩, rfl⟩) (pqD)
theorem mcred_ok {m : MxM} {x : MxX} (h : MxIs m x) {l : Bs} {oa : Option Addr} {ent : Ent} {c : Nat} (hr : RdB oa ent l) (hl : l.length = 4) (hn : 0 < numB l ∧ numB l + x.snd ≤ x.win) : Spec Tryz.prog 84 [ptrW m.p, .int .i64 1, ptrW m.sp, .slice oa l.length c] [mxE m x, mxS m x, ent]
    (fun r H' => r = .tuple #[] ∧ MxIs m ({ x with snd := x.snd + numB l }) ∧ H' = [mxE m ({ x with snd := x.snd + numB l }), mxS m ({ x with snd := x.snd + numB l }), ent]) := by
  have hb := h.b
  have hw := h.w
  refine Spec.of (E := [(0, ptrW m.p), (1, .int .i64 1), (2, ptrW m.sp), (3, .slice oa l.length c)]) Tryz.func84 rfl (by kernel_rfl) Tryz.ntmps84 rfl rfl (fun w => ?_)
  refine WC_seq ?_
  refine WC_region ?_
  refine WL_val rfl rfl rfl (R_move rfl rfl) ?_
  refine WL_do rfl rfl rfl (D_call (mnum_ok hr (by omega)) rfl rfl rfl rfl (pqD)) ?_
  rintro _ _ ⟨_, ⟨rfl, rfl⟩, rfl⟩
  refine WL_val rfl rfl rfl (R_assign rfl rfl) ?_
  refine WL_nil ?_
  refine WQ_code ?_
  refine WC_seq ?_
  refine WC_draw _ [(0, true), (1, true), (2, true), (3, true), (4, true), (5, true), (6, true), (7, true), (8, true), (9, true), (10, true), (11, true), (12, true), (13, true), (14, true), (15, true), (16, false)] followsMixed rfl rfl (by kernel_rfl) .all ?_
  refine WM_val rfl rfl rfl rfl (R_move rfl rfl) ?_
  refine WM_val rfl rfl rfl rfl (R_gtr rfl rfl rfl) ?_
  refine WM_val rfl rfl rfl rfl (R_move rfl rfl) ?_
  refine WM_set (s := 13) (v := .bool true) rfl (by exact congrArg Value.bool (decide_eq_true (by omega))) ?_
  refine WM_val rfl rfl rfl rfl (R_move rfl rfl) ?_
  refine WM_val rfl rfl rfl rfl (R_move rfl rfl) ?_
  refine WM_val rfl rfl rfl rfl (R_nilCheck rfl rfl) ?_
  refine WM_val rfl rfl rfl rfl (R_fieldAddr rfl fa70_0 rfl) ?_
  refine WM_val rfl rfl rfl rfl (R_load rfl sc3 rfl (mmD) rfl) ?_
  refine WM_val rfl rfl rfl rfl (R_move rfl rfl) ?_
  refine WM_val rfl rfl rfl rfl (R_nilCheck rfl rfl) ?_
  refine WM_val rfl rfl rfl rfl (R_fieldAddr rfl fa96_0 rfl) ?_
  refine WM_val rfl rfl rfl rfl (R_fieldAddr rfl fa94_0 rfl) ?_
  refine WM_val rfl rfl rfl rfl (R_load rfl sc3 rfl (mmD) rfl) ?_
  refine WM_val rfl rfl rfl rfl (R_subR (r := ((x.win - x.snd : Nat) : Int)) rfl rfl rfl (by rw [wrap64_in (by omega) (by omega)]; omega)) ?_
  refine WM_val rfl rfl rfl rfl (R_leq rfl rfl rfl) ?_
  refine WM_val rfl rfl rfl rfl (R_pickT rfl rfl rfl) ?_
  refine WM_set (s := 26) (v := .bool true) rfl (by exact congrArg Value.bool (decide_eq_true (by omega))) ?_
  refine WM_do rfl rfl rfl rfl (D_call (mmust_ok _) rfl rfl rfl rfl (pqD)) ?_
  rintro _ _ ⟨_, ⟨rfl, rfl⟩, rfl⟩
  refine ⟨⟨_, pqD⟩, ?_⟩
  refine WM_nil ?_
  refine WQ_code ?_
  refine WC_region ?_
  refine WL_val rfl rfl rfl (R_move rfl rfl) ?_
  refine WL_val rfl rfl rfl (R_nilCheck rfl rfl) ?_
  refine WL_val rfl rfl rfl (R_fieldAddr rfl fa96_0 rfl) ?_
  refine WL_val rfl rfl rfl (R_fieldAddr rfl fa94_0 rfl) ?_
  refine WL_val rfl rfl rfl (R_load rfl sc3 rfl (mmD) rfl) ?_
  refine WL_val rfl rfl rfl (R_move rfl rfl) ?_
  refine WL_val rfl rfl rfl (R_addR (r := ((x.snd + numB l : Nat) : Int)) rfl rfl rfl (by rw [wrap64_in (by omega) (by omega)]; omega)) ?_
  refine WL_val rfl rfl rfl (R_nilCheck rfl rfl) ?_
  refine WL_val rfl rfl rfl (R_fieldAddr rfl fa96_0 rfl) ?_
  refine WL_val rfl rfl rfl (R_fieldAddr rfl fa94_0 rfl) ?_
  refine WL_do0 rfl rfl (D_store (vs := [_]) rfl Tryz.sizeOf3 rfl rfl rfl rfl rfl (plD) (by exact Nat.le_of_ble_eq_true rfl)) ?_
  rintro _ _ rfl
  refine WL_nil ?_
  refine WQ_ret rfl rfl .nil rfl (by
      exact ⟨rfl, ⟨h.mp, h.oO, h.uO, h.rO, h.oo, h.w, by dsimp only; omega⟩, rfl⟩) (pqD)
theorem mused_ok {m : MxM} {x : MxX} (h : MxIs m x) : Spec Tryz.prog 74 [ptrW m.p, .int .i64 1] [mxE m x] (fun r H' => r = .bool true ∧ H' = [mxE m x]) := by
  have hoo := h.oo
  refine Spec.of (E := [(0, ptrW m.p), (1, .int .i64 1)]) Tryz.func74 rfl (by kernel_rfl) Tryz.ntmps74 rfl rfl (fun w => ?_)
  refine WC_seq ?_
  refine WC_region ?_
  refine WL_val rfl rfl rfl (R_assign rfl rfl) ?_
  refine WL_nil ?_
  refine WQ_code ?_
  refine WC_seq ?_
  refine WC_seq ?_
  refine WC_region ?_
  refine WL_val rfl rfl rfl (R_move rfl rfl) ?_
  refine WL_val rfl rfl rfl (R_remR (r := ((1 : Nat) : Int)) rfl rfl rfl (by decide) (rfl)) ?_
  refine WL_val rfl rfl rfl (R_move rfl rfl) ?_
  refine WL_val rfl rfl rfl (R_nilCheck rfl rfl) ?_
  refine WL_val rfl rfl rfl (R_fieldAddr rfl fa70_2 rfl) ?_
  refine WL_val rfl rfl rfl (R_load rfl sc3 rfl (mmD) rfl) ?_
  refine WL_val rfl rfl rfl (R_remR (r := ((x.own % 2 : Nat) : Int)) rfl rfl rfl (by decide) (by rw [Int.tmod_eq_emod_of_nonneg (by omega)]; omega)) ?_
  refine WL_val rfl rfl rfl (R_eql rfl rfl rfl) ?_
  refine WL_nil ?_
  refine WQ_code ?_
  refine WC_dec rfl (fun c1 => ?_) (fun c1 => ?_)
  · refine WC_seq ?_
    refine WC_region ?_
    refine WL_val rfl rfl rfl (R_move rfl rfl) ?_
    refine WL_val rfl rfl rfl (R_gtr rfl rfl rfl) ?_
    refine WL_val rfl rfl rfl (R_move rfl rfl) ?_
    refine WL_set (s := 15) (v := .bool true) rfl (by rfl) ?_
    refine WL_val rfl rfl rfl (R_move rfl rfl) ?_
    refine WL_val rfl rfl rfl (R_move rfl rfl) ?_
    refine WL_val rfl rfl rfl (R_nilCheck rfl rfl) ?_
    refine WL_val rfl rfl rfl (R_fieldAddr rfl fa70_2 rfl) ?_
    refine WL_val rfl rfl rfl (R_load rfl sc3 rfl (mmD) rfl) ?_
    refine WL_val rfl rfl rfl (R_lss rfl rfl rfl) ?_
    refine WL_val rfl rfl rfl (R_pickT rfl rfl rfl) ?_
    refine WL_set (s := 22) (v := .bool true) rfl (by exact congrArg Value.bool (decide_eq_true (by omega))) ?_
    refine WL_val rfl rfl rfl (R_assign rfl rfl) ?_
    refine WL_nil ?_
    refine WQ_code ?_
    refine WC_ret ?_
    refine WQ_ret rfl rfl (.cons (.tmp rfl) .nil) rfl (by
        exact ⟨rfl, rfl⟩) (pqD)
  · refine WC_skip ?_
    refine WQ_code ?_
    refine WC_seq ?_
    refine WC_region ?_
    refine WL_val rfl rfl rfl (R_move rfl rfl) ?_
    refine WL_val rfl rfl rfl (R_gtr rfl rfl rfl) ?_
    refine WL_val rfl rfl rfl (R_move rfl rfl) ?_
    refine WL_set (s := 25) (v := .bool true) rfl (by rfl) ?_
    refine WL_val rfl rfl rfl (R_move rfl rfl) ?_
    refine WL_val rfl rfl rfl (R_move rfl rfl) ?_
    refine WL_val rfl rfl rfl (R_nilCheck rfl rfl) ?_
    refine WL_val rfl rfl rfl (R_fieldAddr rfl fa70_3 rfl) ?_
    refine WL_val rfl rfl rfl (R_load rfl sc3 rfl (mmD) rfl) ?_
    refine WL_val rfl rfl rfl (R_lss rfl rfl rfl) ?_
    refine WL_val rfl rfl rfl (R_pickT rfl rfl rfl) ?_
    refine WL_set (s := 32) (v := .bool true) rfl (by exact congrArg Value.bool (decide_eq_true (by omega))) ?_
    refine WL_val rfl rfl rfl (R_assign rfl rfl) ?_
    refine WL_nil ?_
    refine WQ_code ?_
    refine WC_ret ?_
    refine WQ_ret rfl rfl (.cons (.tmp rfl) .nil) rfl (by
        exact ⟨rfl, rfl⟩) (pqD)
end Go.Proofs.YtkcfgglmlogjbaaGreat
end
section
set_option linter.unusedVariables false
set_option maxRecDepth 20000
set_option maxHeartbeats 4000000
namespace Go.Proofs.YtkcfgglmlogjbaaGreat
theorem rdFrom {b m c : Nat} {cs : List Value} {e : TypeId} {fr : Nat × Nat} {l : Bs} (hat : At cs 0 (bvs l)) (hc : c = m → l.length ≤ m) : RdB (some ⟨b, if c = m then 0 else 0 + m * 1, none⟩) ⟨some b, .cells (List.toArray cs) e fr⟩ (l.drop m) := by
  by_cases h : c = m
  · rw [List.drop_eq_nil_of_le (hc h)]; exact fun hl => absurd hl (by simp)
  · rw [if_neg h, Nat.mul_one]
    have := rd_sub (b := b) (i := m) (n := l.length) (e := e) (fr := fr) hat
    rwa [List.take_of_length_le (by simp)] at this
theorem numB_big4 {n : Nat} (h : n < 4294967296) : numB (bigB n 4) = n := by
  show numB [UInt8.ofNat (n / 16777216), UInt8.ofNat (n / 65536), UInt8.ofNat (n / 256), UInt8.ofNat (n / 1)] = n
  simp only [numB, List.foldl_cons, List.foldl_nil, UInt8.toNat_ofNat']
  omega
abbrev kcV : List Value := [.int .i64 0, .int .i64 0, .nilFunc, .int .i64 0, .int .i64 0, .func (.func 82) #[] #[], .int .i64 1, .int .i64 256, .func (.func 83) #[] #[], .int .i64 4, .int .i64 4, .func (.func 84) #[] #[], .int .i64 0, .int .i64 0, .func (.func 85) #[] #[], .int .i64 2, .int .i64 2, .func (.func 86) #[] #[]]
theorem kinds_at2 : At kcV (2 * 3) [.int .i64 1, .int .i64 256, .func (.func 83) #[] #[]] := fun j v hj => by
  rcases j with _ | _ | _ | j
  · exact hj
  · exact hj
  · exact hj
  · cases hj
theorem kinds_at3 : At kcV (3 * 3) [.int .i64 4, .int .i64 4, .func (.func 84) #[] #[]] := fun j v hj => by
  rcases j with _ | _ | _ | j
  · exact hj
  · exact hj
  · exact hj
  · cases hj
theorem kinds_at1 : At kcV (1 * 3) [.int .i64 0, .int .i64 0, .func (.func 82) #[] #[]] := fun j v hj => by
  rcases j with _ | _ | _ | j
  · exact hj
  · exact hj
  · exact hj
  · cases hj
theorem kinds_ok : Spec Tryz.prog 72 [] [] (fun r H' => r = .agg kcV.toArray ∧ H' = []) := by
  refine Spec.of (E := []) Tryz.func72 rfl (by kernel_rfl) Tryz.ntmps72 rfl rfl (fun w => ?_)
  refine WC_seq ?_
  refine WC_region ?_
  refine WL_do rfl rfl rfl (D_alloc rfl zv125) ?_
  rintro _ _ ⟨b1, rfl, rfl⟩
  refine WL_nil ?_
  refine WQ_code ?_
  refine WC_seq ?_
  refine WC_region ?_
  refine WL_val rfl rfl rfl (R_build rfl zv124 pl124 rfl rfl) ?_
  refine WL_val rfl rfl rfl (R_build rfl zv124 pl124 rfl rfl) ?_
  refine WL_val rfl rfl rfl (R_build rfl zv124 pl124 rfl rfl) ?_
  refine WL_val rfl rfl rfl (R_build rfl zv124 pl124 rfl rfl) ?_
  refine WL_val rfl rfl rfl (R_build rfl zv124 pl124 rfl rfl) ?_
  refine WL_val rfl rfl rfl (R_buildArr rfl Tryz.underlying125 Tryz.sizeOf124 zv125 rfl rfl) ?_
  refine WL_do0 rfl rfl (D_store (vs := [_, _, _, _, _, _, _, _, _, _, _, _, _, _, _, _, _, _]) rfl Tryz.sizeOf125 rfl rfl rfl rfl rfl (plD) (by exact Nat.le_of_ble_eq_true rfl)) ?_
  rintro _ _ rfl
  refine WL_nil ?_
  refine WQ_code ?_
  refine WC_ret ?_
  refine WQ_ret rfl rfl (.cons (.cell (vs := [_, _, _, _, _, _, _, _, _, _, _, _, _, _, _, _, _, _]) rfl ag125 (mmD) rfl (atZ)) .nil) rfl (by
      exact ⟨rfl, rfl⟩) (pqD)
theorem mhandle_data {m : MxM} {x : MxX} (h : MxIs m x) (kk : UInt8) {body : Bs} (hb4 : body.take 4 = bigB 1 4) {o : Option Nat} {c2 : Nat} {tl : List Value} (own : Own o body.length c2 1 (bvs body) tl) (hk : kk.toNat = 2) (hd : 1 ≤ (body.drop 4).length ∧ (body.drop 4).length ≤ 256) (hl : (body.drop 4).length ≤ x.rcv) (hu : x.un.length ≤ 100000) : Spec Tryz.prog 54 [ptrW m.p, .agg #[.int .u8 (kk.toNat : Int), slV o body.length c2]] ([mxE m x, mxM m, mxS m x, mxU m x, ⟨o, cl (bvs body ++ tl) 5⟩])
    (fun r H' => ∃ ub' uk' uc' up' ut', r = .tuple #[] ∧ MxIs { m with ub := ub', uk := uk', uc := uc', up := up', ut := ut' } ({ x with un := x.un ++ body.drop 4, rcv := x.rcv - (body.drop 4).length }) ∧ H' = [mxE { m with ub := ub', uk := uk', uc := uc', up := up', ut := ut' } ({ x with un := x.un ++ body.drop 4, rcv := x.rcv - (body.drop 4).length }), mxM { m with ub := ub', uk := uk', uc := uc', up := up', ut := ut' }, mxS { m with ub := ub', uk := uk', uc := uc', up := up', ut := ut' } ({ x with un := x.un ++ body.drop 4, rcv := x.rcv - (body.drop 4).length }), mxU { m with ub := ub', uk := uk', uc := uc', up := up', ut := ut' } ({ x with un := x.un ++ body.drop 4, rcv := x.rcv - (body.drop 4).length })]) := by
  have hd4 := List.length_drop (i := 4) (l := body)
  have hle9 := own.le
  obtain ⟨wb, rfl⟩ := own.some_of (by omega)
  have hat : At (bvs body ++ tl) 0 (bvs body) := fun j v hj => by rw [Nat.zero_add, List.getElem?_append_left (List.getElem?_eq_some_iff.1 hj).1]; exact hj
  have hnum : ((numB (body.take 4) : Nat) : Int) = 1 := by rw [hb4]; rfl
  refine Spec.of (E := [(0, ptrW m.p), (1, .agg #[.int .u8 (kk.toNat : Int), slV (some wb) body.length c2])]) Tryz.func54 rfl (by kernel_rfl) Tryz.ntmps54 rfl rfl (fun w => ?_)
  refine WC_seq ?_
  refine WC_region ?_
  refine WL_do rfl rfl rfl (D_box (cs := [_, _]) rfl rfl rfl) ?_
  rintro _ _ ⟨b1, rfl, rfl⟩
  refine WL_nil ?_
  refine WQ_code ?_
  refine WC_seq ?_
  refine WC_region ?_
  refine WL_val rfl rfl rfl (R_fieldAddr rfl fa84_0 rfl) ?_
  refine WL_val rfl rfl rfl (R_load rfl sc5 rfl (mmD) rfl) ?_
  refine WL_val rfl rfl rfl (R_geq rfl rfl rfl) ?_
  refine WL_set (s := 9) (v := .bool true) rfl (by exact congrArg Value.bool (decide_eq_true (by omega))) ?_
  refine WL_val rfl rfl rfl (R_move rfl rfl) ?_
  refine WL_val rfl rfl rfl (R_fieldAddr rfl fa84_0 rfl) ?_
  refine WL_val rfl rfl rfl (R_load rfl sc5 rfl (mmD) rfl) ?_
  refine WL_val rfl rfl rfl (R_leq rfl rfl rfl) ?_
  refine WL_set (s := 13) (v := .bool true) rfl (by exact congrArg Value.bool (decide_eq_true (by omega))) ?_
  refine WL_val rfl rfl rfl (R_pickT rfl rfl rfl) ?_
  refine WL_do rfl rfl rfl (D_call (mmust_ok _) rfl rfl rfl rfl (pqD)) ?_
  rintro _ _ ⟨_, ⟨rfl, rfl⟩, rfl⟩
  refine WL_nil ?_
  refine WQ_code ?_
  refine WC_seq ?_
  refine WC_drawB _ [(1, .q), (2, .q), (0, .n [4]), (3, .q), (4, .b []), (5, .n [])] followsMixed rfl rfl (by kernel_rfl) .all ?_
  refine WB_val rfl rfl rfl rfl (R_fieldAddr rfl fa84_0 rfl) ?_
  refine WB_val rfl rfl rfl rfl (R_load rfl sc5 rfl (mmD) rfl) ?_
  refine WB_do rfl rfl rfl rfl (.cons rfl rfl (B_alloc rfl zv124) .nil) (fun _ => D_call (kinds_ok) rfl rfl rfl rfl (pqD)) ?_
  rintro _ _ ⟨_, ⟨rfl, rfl⟩, rfl⟩
  refine ⟨⟨_, pqD⟩, ?_⟩
  refine WB_val rfl rfl rfl rfl (R_indexArrA (sz := 3) (vs := [.int .i64 1, .int .i64 256, .func (.func 83) #[] #[]]) rfl Tryz.underlying125 ag124 rfl rfl ⟨by omega, by omega⟩ rfl (by rw [Int.toNat_natCast, hk]; exact kinds_at2)) ?_
  refine WB_birth rfl rfl rfl rfl .nil (B_alloc rfl zv124) (fun b2 => ?_)
  refine WB_do0 rfl rfl rfl .nil (fun _ => D_store (vs := [_, _, _]) rfl Tryz.sizeOf124 rfl rfl rfl rfl rfl (plD) (by exact Nat.le_of_ble_eq_true rfl)) ?_
  rintro _ _ rfl
  refine ⟨⟨_, pqD⟩, ?_⟩
  refine WB_nil ?_
  refine WQ_code ?_
  refine WC_seq ?_
  refine WC_region ?_
  refine WL_val rfl rfl rfl (R_fieldAddr rfl fa84_1 rfl) ?_
  refine WL_val rfl rfl rfl (R_load rfl sc23 rfl (mmD) rfl) ?_
  refine WL_val rfl rfl rfl (R_len rfl Tryz.underlying23 rfl) ?_
  refine WL_val rfl rfl rfl (R_fieldAddr rfl fa124_0 rfl) ?_
  refine WL_val rfl rfl rfl (R_load rfl sc3 rfl (mmD) rfl) ?_
  refine WL_val rfl rfl rfl (R_addR (r := 5) rfl rfl rfl (rfl)) ?_
  refine WL_val rfl rfl rfl (R_geq rfl rfl rfl) ?_
  refine WL_set (s := 26) (v := .bool true) rfl (by exact congrArg Value.bool (decide_eq_true (by omega))) ?_
  refine WL_val rfl rfl rfl (R_move rfl rfl) ?_
  refine WL_val rfl rfl rfl (R_fieldAddr rfl fa84_1 rfl) ?_
  refine WL_val rfl rfl rfl (R_load rfl sc23 rfl (mmD) rfl) ?_
  refine WL_val rfl rfl rfl (R_len rfl Tryz.underlying23 rfl) ?_
  refine WL_val rfl rfl rfl (R_fieldAddr rfl fa124_1 rfl) ?_
  refine WL_val rfl rfl rfl (R_load rfl sc3 rfl (mmD) rfl) ?_
  refine WL_val rfl rfl rfl (R_addR (r := 260) rfl rfl rfl (rfl)) ?_
  refine WL_val rfl rfl rfl (R_leq rfl rfl rfl) ?_
  refine WL_set (s := 34) (v := .bool true) rfl (by exact congrArg Value.bool (decide_eq_true (by omega))) ?_
  refine WL_val rfl rfl rfl (R_pickT rfl rfl rfl) ?_
  refine WL_do rfl rfl rfl (D_call (mmust_ok _) rfl rfl rfl rfl (pqD)) ?_
  rintro _ _ ⟨_, ⟨rfl, rfl⟩, rfl⟩
  refine WL_nil ?_
  refine WQ_code ?_
  refine WC_seq ?_
  refine WC_region ?_
  refine WL_val rfl rfl rfl (R_fieldAddr rfl fa84_1 rfl) ?_
  refine WL_val rfl rfl rfl (R_load rfl sc23 rfl (mmD) rfl) ?_
  refine WL_val rfl rfl rfl (R_sliceTo (m := 4) rfl Tryz.underlying23 Tryz.sizeOf5 rfl rfl (by have := own.le; omega)) ?_
  refine WL_set (s := 39) (v := .slice (some ⟨wb, 0, none⟩) (body.take 4).length c2) rfl (by rw [List.length_take, Nat.min_eq_left (by omega)]; rfl) ?_
  refine WL_do rfl rfl rfl (D_call (mnum_ok ((RdB.own own).take 4) (by rw [List.length_take]; omega)) rfl rfl rfl rfl (pqD)) ?_
  rintro _ _ ⟨_, ⟨rfl, rfl⟩, rfl⟩
  rw [hnum]
  refine WL_val rfl rfl rfl (R_assign rfl rfl) ?_
  refine WL_nil ?_
  refine WQ_code ?_
  refine WC_seq ?_
  refine WC_seq ?_
  refine WC_region ?_
  refine WL_val rfl rfl rfl (R_fieldAddr rfl fa84_0 rfl) ?_
  refine WL_val rfl rfl rfl (R_load rfl sc5 rfl (mmD) rfl) ?_
  refine WL_val rfl rfl rfl (R_eql rfl rfl rfl) ?_
  refine WL_nil ?_
  refine WQ_code ?_
  refine WC_dF rfl (by omega) ?_
  refine WC_skip ?_
  refine WQ_code ?_
  refine WC_seq ?_
  refine WC_region ?_
  refine WL_val rfl rfl rfl (R_move rfl rfl) ?_
  refine WL_val rfl rfl rfl (R_move rfl rfl) ?_
  refine WL_do rfl rfl rfl (D_call (mused_ok h) rfl rfl rfl rfl (pqD)) ?_
  rintro _ _ ⟨_, ⟨rfl, rfl⟩, rfl⟩
  refine WL_do rfl rfl rfl (D_call (mmust_ok _) rfl rfl rfl rfl (pqD)) ?_
  rintro _ _ ⟨_, ⟨rfl, rfl⟩, rfl⟩
  refine WL_nil ?_
  refine WQ_code ?_
  refine WC_seq ?_
  refine WC_region ?_
  refine WL_val rfl rfl rfl (R_move rfl rfl) ?_
  refine WL_val rfl rfl rfl (R_nilCheck rfl rfl) ?_
  refine WL_val rfl rfl rfl (R_fieldAddr rfl fa70_1 rfl) ?_
  refine WL_val rfl rfl rfl (R_load rfl sc67 rfl (mmD) rfl) ?_
  refine WL_val rfl rfl rfl (R_move rfl rfl) ?_
  refine WL_val rfl rfl rfl (R_lookK (k := (1 : Int)) (a := m.sp) rfl Tryz.underlying67 int_key rfl rfl mmD h.mp (List.mem_cons_self ..)) ?_
  refine WL_val rfl rfl rfl (R_assign rfl rfl) ?_
  refine WL_nil ?_
  refine WQ_code ?_
  refine WC_seq ?_
  refine WC_region ?_
  refine WL_val rfl rfl rfl (R_move rfl rfl) ?_
  refine WL_val rfl rfl rfl (R_ptrNeNil rfl Tryz.underlying92 rfl) ?_
  refine WL_val rfl rfl rfl (R_move rfl rfl) ?_
  refine WL_val rfl rfl rfl (R_move rfl rfl) ?_
  refine WL_val rfl rfl rfl (R_nilCheck rfl rfl) ?_
  refine WL_val rfl rfl rfl (R_fieldAddr rfl fa96_0 rfl) ?_
  refine WL_val rfl rfl rfl (R_fieldAddr rfl fa94_4 rfl) ?_
  refine WL_val rfl rfl rfl (R_load rfl sc4 rfl (mmD) rfl) ?_
  refine WL_val rfl rfl rfl (R_not rfl rfl) ?_
  refine WL_set (s := 67) (v := .bool true) rfl (by rfl) ?_
  refine WL_val rfl rfl rfl (R_pickT rfl rfl rfl) ?_
  refine WL_nil ?_
  refine WQ_code ?_
  refine WC_T rfl ?_
  refine WC_drawR [mxS m x, mxU m x] [(0, true), (1, true), (2, true), (3, true), (4, true), (5, true), (6, true), (7, true), (8, false)] followsMixed rfl rfl (by kernel_rfl) (pqD) ?_
  refine WM_val rfl rfl rfl rfl (R_fieldAddr rfl fa124_2 rfl) ?_
  refine WM_val rfl rfl rfl rfl (R_load rfl sc122 rfl (mmD) rfl) ?_
  refine WM_val rfl rfl rfl rfl (R_move rfl rfl) ?_
  refine WM_val rfl rfl rfl rfl (R_move rfl rfl) ?_
  refine WM_val rfl rfl rfl rfl (R_move rfl rfl) ?_
  refine WM_val rfl rfl rfl rfl (R_fieldAddr rfl fa84_1 rfl) ?_
  refine WM_val rfl rfl rfl rfl (R_load rfl sc23 rfl (mmD) rfl) ?_
  refine WM_val rfl rfl rfl rfl (R_sliceFromK (m := 4) rfl Tryz.underlying23 Tryz.sizeOf5 rfl rfl (by omega)) ?_
  refine WM_set (s := 76) (v := .slice (some ⟨wb, if c2 = 4 then 0 else 0 + 4 * 1, none⟩) (body.drop 4).length (c2 - 4)) rfl (by rw [List.length_drop]) ?_
  refine WM_do rfl rfl rfl rfl (D_call (mdata_ok h (rdFrom (m := 4) hat (by omega)) hl hu) rfl rfl rfl rfl (pqD)) ?_
  rintro _ _ ⟨_, ⟨ub', uk', uc', up', ut', rfl, hI', rfl⟩, rfl⟩
  refine ⟨⟨_, pqD⟩, ?_⟩
  refine WM_nil ?_
  refine WQ_ret rfl rfl .nil rfl (by
      exact ⟨ub', uk', uc', up', ut', rfl, hI', rfl⟩) (pqD)
theorem mhandle_cred {m : MxM} {x : MxX} (h : MxIs m x) (kk : UInt8) {body : Bs} (hb4 : body.take 4 = bigB 1 4) {o : Option Nat} {c2 : Nat} {tl : List Value} (own : Own o body.length c2 1 (bvs body) tl) (hk : kk.toNat = 3) (hd : (body.drop 4).length = 4) (hl : 0 < numB (body.drop 4) ∧ numB (body.drop 4) + x.snd ≤ x.win) : Spec Tryz.prog 54 [ptrW m.p, .agg #[.int .u8 (kk.toNat : Int), slV o body.length c2]] ([mxE m x, mxM m, mxS m x, mxU m x, ⟨o, cl (bvs body ++ tl) 5⟩])
    (fun r H' => r = .tuple #[] ∧ MxIs m ({ x with snd := x.snd + numB (body.drop 4) }) ∧ H' = [mxE m ({ x with snd := x.snd + numB (body.drop 4) }), mxM m, mxS m ({ x with snd := x.snd + numB (body.drop 4) }), mxU m ({ x with snd := x.snd + numB (body.drop 4) })]) := by
  have hd4 := List.length_drop (i := 4) (l := body)
  have hle9 := own.le
  obtain ⟨wb, rfl⟩ := own.some_of (by omega)
  have hat : At (bvs body ++ tl) 0 (bvs body) := fun j v hj => by rw [Nat.zero_add, List.getElem?_append_left (List.getElem?_eq_some_iff.1 hj).1]; exact hj
  have hnum : ((numB (body.take 4) : Nat) : Int) = 1 := by rw [hb4]; rfl
  refine Spec.of (E := [(0, ptrW m.p), (1, .agg #[.int .u8 (kk.toNat : Int), slV (some wb) body.length c2])]) Tryz.func54 rfl (by kernel_rfl) Tryz.ntmps54 rfl rfl (fun w => ?_)
  refine WC_seq ?_
  refine WC_region ?_
  refine WL_do rfl rfl rfl (D_box (cs := [_, _]) rfl rfl rfl) ?_
  rintro _ _ ⟨b1, rfl, rfl⟩
  refine WL_nil ?_
  refine WQ_code ?_
  refine WC_seq ?_
  refine WC_region ?_
  refine WL_val rfl rfl rfl (R_fieldAddr rfl fa84_0 rfl) ?_
  refine WL_val rfl rfl rfl (R_load rfl sc5 rfl (mmD) rfl) ?_
  refine WL_val rfl rfl rfl (R_geq rfl rfl rfl) ?_
  refine WL_set (s := 9) (v := .bool true) rfl (by exact congrArg Value.bool (decide_eq_true (by omega))) ?_
  refine WL_val rfl rfl rfl (R_move rfl rfl) ?_
  refine WL_val rfl rfl rfl (R_fieldAddr rfl fa84_0 rfl) ?_
  refine WL_val rfl rfl rfl (R_load rfl sc5 rfl (mmD) rfl) ?_
  refine WL_val rfl rfl rfl (R_leq rfl rfl rfl) ?_
  refine WL_set (s := 13) (v := .bool true) rfl (by exact congrArg Value.bool (decide_eq_true (by omega))) ?_
  refine WL_val rfl rfl rfl (R_pickT rfl rfl rfl) ?_
  refine WL_do rfl rfl rfl (D_call (mmust_ok _) rfl rfl rfl rfl (pqD)) ?_
  rintro _ _ ⟨_, ⟨rfl, rfl⟩, rfl⟩
  refine WL_nil ?_
  refine WQ_code ?_
  refine WC_seq ?_
  refine WC_drawB _ [(1, .q), (2, .q), (0, .n [4]), (3, .q), (4, .b []), (5, .n [])] followsMixed rfl rfl (by kernel_rfl) .all ?_
  refine WB_val rfl rfl rfl rfl (R_fieldAddr rfl fa84_0 rfl) ?_
  refine WB_val rfl rfl rfl rfl (R_load rfl sc5 rfl (mmD) rfl) ?_
  refine WB_do rfl rfl rfl rfl (.cons rfl rfl (B_alloc rfl zv124) .nil) (fun _ => D_call (kinds_ok) rfl rfl rfl rfl (pqD)) ?_
  rintro _ _ ⟨_, ⟨rfl, rfl⟩, rfl⟩
  refine ⟨⟨_, pqD⟩, ?_⟩
  refine WB_val rfl rfl rfl rfl (R_indexArrA (sz := 3) (vs := [.int .i64 4, .int .i64 4, .func (.func 84) #[] #[]]) rfl Tryz.underlying125 ag124 rfl rfl ⟨by omega, by omega⟩ rfl (by rw [Int.toNat_natCast, hk]; exact kinds_at3)) ?_
  refine WB_birth rfl rfl rfl rfl .nil (B_alloc rfl zv124) (fun b2 => ?_)
  refine WB_do0 rfl rfl rfl .nil (fun _ => D_store (vs := [_, _, _]) rfl Tryz.sizeOf124 rfl rfl rfl rfl rfl (plD) (by exact Nat.le_of_ble_eq_true rfl)) ?_
  rintro _ _ rfl
  refine ⟨⟨_, pqD⟩, ?_⟩
  refine WB_nil ?_
  refine WQ_code ?_
  refine WC_seq ?_
  refine WC_region ?_
  refine WL_val rfl rfl rfl (R_fieldAddr rfl fa84_1 rfl) ?_
  refine WL_val rfl rfl rfl (R_load rfl sc23 rfl (mmD) rfl) ?_
  refine WL_val rfl rfl rfl (R_len rfl Tryz.underlying23 rfl) ?_
  refine WL_val rfl rfl rfl (R_fieldAddr rfl fa124_0 rfl) ?_
  refine WL_val rfl rfl rfl (R_load rfl sc3 rfl (mmD) rfl) ?_
  refine WL_val rfl rfl rfl (R_addR (r := 8) rfl rfl rfl (rfl)) ?_
  refine WL_val rfl rfl rfl (R_geq rfl rfl rfl) ?_
  refine WL_set (s := 26) (v := .bool true) rfl (by exact congrArg Value.bool (decide_eq_true (by omega))) ?_
  refine WL_val rfl rfl rfl (R_move rfl rfl) ?_
  refine WL_val rfl rfl rfl (R_fieldAddr rfl fa84_1 rfl) ?_
  refine WL_val rfl rfl rfl (R_load rfl sc23 rfl (mmD) rfl) ?_
  refine WL_val rfl rfl rfl (R_len rfl Tryz.underlying23 rfl) ?_
  refine WL_val rfl rfl rfl (R_fieldAddr rfl fa124_1 rfl) ?_
  refine WL_val rfl rfl rfl (R_load rfl sc3 rfl (mmD) rfl) ?_
  refine WL_val rfl rfl rfl (R_addR (r := 8) rfl rfl rfl (rfl)) ?_
  refine WL_val rfl rfl rfl (R_leq rfl rfl rfl) ?_
  refine WL_set (s := 34) (v := .bool true) rfl (by exact congrArg Value.bool (decide_eq_true (by omega))) ?_
  refine WL_val rfl rfl rfl (R_pickT rfl rfl rfl) ?_
  refine WL_do rfl rfl rfl (D_call (mmust_ok _) rfl rfl rfl rfl (pqD)) ?_
  rintro _ _ ⟨_, ⟨rfl, rfl⟩, rfl⟩
  refine WL_nil ?_
  refine WQ_code ?_
  refine WC_seq ?_
  refine WC_region ?_
  refine WL_val rfl rfl rfl (R_fieldAddr rfl fa84_1 rfl) ?_
  refine WL_val rfl rfl rfl (R_load rfl sc23 rfl (mmD) rfl) ?_
  refine WL_val rfl rfl rfl (R_sliceTo (m := 4) rfl Tryz.underlying23 Tryz.sizeOf5 rfl rfl (by have := own.le; omega)) ?_
  refine WL_set (s := 39) (v := .slice (some ⟨wb, 0, none⟩) (body.take 4).length c2) rfl (by rw [List.length_take, Nat.min_eq_left (by omega)]; rfl) ?_
  refine WL_do rfl rfl rfl (D_call (mnum_ok ((RdB.own own).take 4) (by rw [List.length_take]; omega)) rfl rfl rfl rfl (pqD)) ?_
  rintro _ _ ⟨_, ⟨rfl, rfl⟩, rfl⟩
  rw [hnum]
  refine WL_val rfl rfl rfl (R_assign rfl rfl) ?_
  refine WL_nil ?_
  refine WQ_code ?_
  refine WC_seq ?_
  refine WC_seq ?_
  refine WC_region ?_
  refine WL_val rfl rfl rfl (R_fieldAddr rfl fa84_0 rfl) ?_
  refine WL_val rfl rfl rfl (R_load rfl sc5 rfl (mmD) rfl) ?_
  refine WL_val rfl rfl rfl (R_eql rfl rfl rfl) ?_
  refine WL_nil ?_
  refine WQ_code ?_
  refine WC_dF rfl (by omega) ?_
  refine WC_skip ?_
  refine WQ_code ?_
  refine WC_seq ?_
  refine WC_region ?_
  refine WL_val rfl rfl rfl (R_move rfl rfl) ?_
  refine WL_val rfl rfl rfl (R_move rfl rfl) ?_
  refine WL_do rfl rfl rfl (D_call (mused_ok h) rfl rfl rfl rfl (pqD)) ?_
  rintro _ _ ⟨_, ⟨rfl, rfl⟩, rfl⟩
  refine WL_do rfl rfl rfl (D_call (mmust_ok _) rfl rfl rfl rfl (pqD)) ?_
  rintro _ _ ⟨_, ⟨rfl, rfl⟩, rfl⟩
  refine WL_nil ?_
  refine WQ_code ?_
  refine WC_seq ?_
  refine WC_region ?_
  refine WL_val rfl rfl rfl (R_move rfl rfl) ?_
  refine WL_val rfl rfl rfl (R_nilCheck rfl rfl) ?_
  refine WL_val rfl rfl rfl (R_fieldAddr rfl fa70_1 rfl) ?_
  refine WL_val rfl rfl rfl (R_load rfl sc67 rfl (mmD) rfl) ?_
  refine WL_val rfl rfl rfl (R_move rfl rfl) ?_
  refine WL_val rfl rfl rfl (R_lookK (k := (1 : Int)) (a := m.sp) rfl Tryz.underlying67 int_key rfl rfl mmD h.mp (List.mem_cons_self ..)) ?_
  refine WL_val rfl rfl rfl (R_assign rfl rfl) ?_
  refine WL_nil ?_
  refine WQ_code ?_
  refine WC_seq ?_
  refine WC_region ?_
  refine WL_val rfl rfl rfl (R_move rfl rfl) ?_
  refine WL_val rfl rfl rfl (R_ptrNeNil rfl Tryz.underlying92 rfl) ?_
  refine WL_val rfl rfl rfl (R_move rfl rfl) ?_
  refine WL_val rfl rfl rfl (R_move rfl rfl) ?_
  refine WL_val rfl rfl rfl (R_nilCheck rfl rfl) ?_
  refine WL_val rfl rfl rfl (R_fieldAddr rfl fa96_0 rfl) ?_
  refine WL_val rfl rfl rfl (R_fieldAddr rfl fa94_4 rfl) ?_
  refine WL_val rfl rfl rfl (R_load rfl sc4 rfl (mmD) rfl) ?_
  refine WL_val rfl rfl rfl (R_not rfl rfl) ?_
  refine WL_set (s := 67) (v := .bool true) rfl (by rfl) ?_
  refine WL_val rfl rfl rfl (R_pickT rfl rfl rfl) ?_
  refine WL_nil ?_
  refine WQ_code ?_
  refine WC_T rfl ?_
  refine WC_drawR [mxE m x, mxS m x] [(0, true), (1, true), (2, true), (3, true), (4, true), (5, true), (6, true), (7, true), (8, false)] followsMixed rfl rfl (by kernel_rfl) (pqD) ?_
  refine WM_val rfl rfl rfl rfl (R_fieldAddr rfl fa124_2 rfl) ?_
  refine WM_val rfl rfl rfl rfl (R_load rfl sc122 rfl (mmD) rfl) ?_
  refine WM_val rfl rfl rfl rfl (R_move rfl rfl) ?_
  refine WM_val rfl rfl rfl rfl (R_move rfl rfl) ?_
  refine WM_val rfl rfl rfl rfl (R_move rfl rfl) ?_
  refine WM_val rfl rfl rfl rfl (R_fieldAddr rfl fa84_1 rfl) ?_
  refine WM_val rfl rfl rfl rfl (R_load rfl sc23 rfl (mmD) rfl) ?_
  refine WM_val rfl rfl rfl rfl (R_sliceFromK (m := 4) rfl Tryz.underlying23 Tryz.sizeOf5 rfl rfl (by omega)) ?_
  refine WM_set (s := 76) (v := .slice (some ⟨wb, if c2 = 4 then 0 else 0 + 4 * 1, none⟩) (body.drop 4).length (c2 - 4)) rfl (by rw [List.length_drop]) ?_
  refine WM_do rfl rfl rfl rfl (D_call (mcred_ok h (rdFrom (m := 4) hat (by omega)) hd hl) rfl rfl rfl rfl (pqD)) ?_
  rintro _ _ ⟨_, ⟨rfl, hI', rfl⟩, rfl⟩
  refine ⟨⟨_, pqD⟩, ?_⟩
  refine WM_nil ?_
  refine WQ_ret rfl rfl .nil rfl (by
      exact ⟨rfl, hI', rfl⟩) (pqD)
end Go.Proofs.YtkcfgglmlogjbaaGreat
end
section
set_option linter.unusedVariables false
set_option maxRecDepth 20000
namespace Go.Proofs.YtkcfgglmlogjbaaGreat
structure Sd where
  out : Bs
  bs : Bs
  rb : Int
  last : Nat
  br : Int
structure SdM where
  ob : Option Nat
  ok : Nat
  oc : Nat
  op : List Value
  ot : List Value
  ib : Option Nat
  ik : Nat
  ic : Nat
  ip : List Value
  it : List Value
structure Ca where
  id : Nat
  dl : Nat
deriving DecidableEq
abbrev encC (c : Ca) : List Value := [.int .i64 (c.id : Int), .int .u64 (c.dl : Int)]
abbrev caV (c : Ca) : Value := .agg #[.int .i64 (c.id : Int), .int .u64 (c.dl : Int)]
theorem encC2 (c : Ca) : (encC c).length = 2 := rfl
/-- A result (of a client) or a request (of a server), and where its body lies. -/
structure Rs where
  id : Int
  code : Int
  body : Bs
  o : Option Nat
  c : Nat
  tl : List Value
abbrev rsOk (r : Rs) : Prop := Own r.o r.body.length r.c 1 (bvs r.body) r.tl
abbrev rsE (r : Rs) : Ent := ⟨r.o, cl (bvs r.body ++ r.tl) 5⟩
def rsH (L : List Rs) : Heap := L.map rsE
abbrev encRs (r : Rs) : List Value := [.int .i64 r.id, .int .i64 r.code, slV r.o r.body.length r.c]
theorem encRs3 (r : Rs) : (encRs r).length = 3 := rfl
structure Cl where
  s : Sd
  now : Nat
  calls : List Ca
  res : List Rs
  closed : Bool
structure ClM where
  p : Nat
  sd : SdM
  cb : Option Nat
  cc : Nat
  ctl : List Value
  eb : Option Nat
  ek : Nat
  ec : Nat
  epre : List Value
  etl : List Value
abbrev oE (m : SdM) (s : Sd) : Ent := ⟨m.ob, cl (m.op ++ (bvs s.out ++ m.ot)) 5⟩
abbrev iE (m : SdM) (s : Sd) : Ent := ⟨m.ib, cl (m.ip ++ (bvs s.bs ++ m.it)) 5⟩
abbrev clC (m : ClM) (x : Cl) : List Value := [sVal m.sd.ob m.sd.ok x.s.out.length m.sd.oc, sVal m.sd.ib m.sd.ik x.s.bs.length m.sd.ic, .int .i64 x.s.rb, .int .i64 (x.s.last : Int), .int .i64 x.s.br, .int .u64 (x.now : Int), slV m.cb x.calls.length m.cc, sVal m.eb m.ek x.res.length m.ec, .bool x.closed]
abbrev clE (m : ClM) (x : Cl) : Ent := ⟨some m.p, cl (clC m x) 40⟩
abbrev caE (m : ClM) (x : Cl) : Ent := ⟨m.cb, cl (x.calls.flatMap encC ++ m.ctl) 76⟩
abbrev reE (m : ClM) (x : Cl) : Ent := ⟨m.eb, cl (m.epre ++ (x.res.flatMap encRs ++ m.etl)) 64⟩
abbrev clH (m : ClM) (x : Cl) : Heap := [clE m x, oE m.sd x.s, iE m.sd x.s, caE m x, reE m x] ++ rsH x.res
structure SdIs (m : SdM) (s : Sd) : Prop where
  oO : OwnS m.ob m.ok s.out.length m.oc 1 m.op (bvs s.out) m.ot
  iO : OwnS m.ib m.ik s.bs.length m.ic 1 m.ip (bvs s.bs) m.it
structure ClIs (m : ClM) (x : Cl) : Prop where
  sd : SdIs m.sd x.s
  cO : Own m.cb x.calls.length m.cc 2 (x.calls.flatMap encC) m.ctl
  eO : OwnS m.eb m.ek x.res.length m.ec 3 m.epre (x.res.flatMap encRs) m.etl
  rO : ∀ r ∈ x.res, rsOk r
/-- What is kept between the calls (the numbers are small). -/
structure ClB (x : Cl) : Prop where
  out : x.s.out.length ≤ 200000
  bs : x.s.bs.length ≤ 65536
  last : x.s.last ≤ 1000000
  calls : x.calls.length ≤ 32
  res : x.calls.length + x.res.length ≤ 100000
  now : x.now ≤ 18446744073709551615
  dl : ∀ c ∈ x.calls, c.dl ≤ 18446744073709551615
  ids : ∀ c ∈ x.calls, c.id ≤ 1000000
  rb : x.s.br = 0 → x.s.rb = 0
def Cl.put (x : Cl) (k : UInt8) (b : Bs) : Cl := { x with s := { x.s with out := x.s.out ++ encF k b } }
end Go.Proofs.YtkcfgglmlogjbaaGreat
end
section
set_option linter.unusedVariables false
set_option maxRecDepth 20000
set_option maxHeartbeats 4000000
namespace Go.Proofs.YtkcfgglmlogjbaaGreat
abbrev ptrC (p : Nat) : Value := .pointer (some ⟨p, 0, none⟩)
end Go.Proofs.YtkcfgglmlogjbaaGreat
end
section
set_option linter.unusedVariables false
set_option maxRecDepth 20000
set_option maxHeartbeats 2000000
namespace Go.Proofs.YtkcfgglmlogjbaaGreat
theorem put_b4 (a b c d e v : Value) (Z : List Value) : putAt (a :: b :: c :: d :: e :: Z) (0 + 4) [v] = a :: b :: c :: d :: v :: Z := by cases Z <;> rfl
theorem put_b0 (a v : Value) : putAt [a] 0 [v] = [v] := rfl
abbrev errV (e : Int) : Value := .iface 27 (.int .i64 e)
def rcvN {Q : Type} (step : Q → UInt8 → Bs → Q × Int) : Nat → Q → Bs → Q × Bs × Int × Int
  | 0, q, bs => (q, bs, 0, 0)
  | n + 1, q, bs => match nxt bs with
    | .wait => (q, bs, 0, 0)
    | .bad e => (q, bs, e, e)
    | .got k body m => if body.length < 4 then (q, bs.drop m, 0, 6) else if (step q k body).2 = 0 then rcvN step n (step q k body).1 (bs.drop m) else ((step q k body).1, bs.drop m, 0, (step q k body).2)
section
variable {Q : Type} {step : Q → UInt8 → Bs → Q × Int} {n m : Nat} {q : Q} {bs body : Bs} {e : Int} {k : UInt8}
theorem rcv_wait (h : nxt bs = .wait) : rcvN step (n + 1) q bs = (q, bs, 0, 0) := by simp [rcvN, h]
theorem rcv_bad (h : nxt bs = .bad e) : rcvN step (n + 1) q bs = (q, bs, e, e) := by simp [rcvN, h]
theorem rcv_short (h : nxt bs = .got k body m) (h4 : body.length < 4) : rcvN step (n + 1) q bs = (q, bs.drop m, 0, 6) := by simp [rcvN, h, h4]
theorem rcv_no (h : nxt bs = .got k body m) (h4 : 4 ≤ body.length) (h5 : (step q k body).2 ≠ 0) : rcvN step (n + 1) q bs = ((step q k body).1, bs.drop m, 0, (step q k body).2) := by
  simp only [rcvN, h]
  rw [if_neg (by omega), if_neg h5]
theorem rcv_ok (h : nxt bs = .got k body m) (h4 : 4 ≤ body.length) (h5 : (step q k body).2 = 0) : rcvN step (n + 1) q bs = rcvN step n (step q k body).1 (bs.drop m) := by
  simp only [rcvN, h]
  rw [if_neg (by omega), if_pos h5]
end
theorem nxt_bad_ne {l : Bs} {e : Int} (h : nxt l = .bad e) : e ≠ 0 := by
  unfold nxt at h
  (repeat' split at h) <;> cases h <;> decide
structure RcW (S : Type) where
  s : S
  n : Nat
  bs : Bs
  k : Nat
  c : Nat
  pre : List Value
theorem must_bad (e : Int) : PSpec Tryz.prog 39 [.bool false, .int .i64 e] [] (errV e) (fun H' => H' = []) := by
  refine PSpec.of (E := [(0, .bool false), (1, .int .i64 e)]) Tryz.func39 rfl (by kernel_rfl) Tryz.ntmps39 rfl rfl (fun w => ?_)
  refine WC_seq ?_
  refine WC_region ?_
  refine WL_val rfl rfl rfl (R_move rfl rfl) ?_
  refine WL_val rfl rfl rfl (R_not rfl rfl) ?_
  refine WL_set (s := 5) (v := .bool true) rfl (by rfl) ?_
  refine WL_nil ?_
  refine WQ_code ?_
  refine WC_T rfl ?_
  refine WC_region ?_
  refine WL_val rfl rfl rfl (R_move rfl rfl) ?_
  refine WL_val rfl rfl rfl (R_makeIface rfl (by kernel_rfl) rfl) ?_
  refine WL_panic rfl rfl rfl ?_
  refine WQ_pan rfl (by
      exact rfl) (pqD)
theorem rec_idle (p3 p6 : Value) : DSpec Tryz.prog 57 [p3, p6] .returning [] (fun H' => H' = []) .returning := by
  refine DSpec.recov (x1 := 5) (x2 := 2) (rv := .nilIface) (E := [(0, p3), (1, p6)]) Tryz.func57 rfl (by kernel_rfl) Tryz.ntmps57 rfl rfl rfl rfl rfl rfl rfl rfl rfl rfl recov_idle (fun w => ?_)
  refine WC_seq ?_
  refine WC_region ?_
  refine WL_val rfl rfl rfl (R_move rfl rfl) ?_
  refine WL_val rfl rfl rfl (R_ifaceNeNil rfl Tryz.underlying20 ⟨_, rfl⟩ rfl) ?_
  refine WL_nil ?_
  refine WQ_code ?_
  refine WC_F rfl ?_
  refine WC_skip ?_
  refine WQ_ret rfl rfl .nil rfl (by
      exact rfl) (pqD)
theorem rec_pan (p ty b3 b6 : Nat) (a v l : Value) (rb br e0 e : Int) (Z : List Value) : DSpec Tryz.prog 57 [.pointer (some ⟨b3, 0, none⟩), .pointer (some ⟨b6, 0, none⟩)] (.panicking (pent (errV e))) [⟨some b3, cl [.pointer (some ⟨p, 0, none⟩)] 103⟩, ⟨some b6, cl [.int .i64 e0] 27⟩, ⟨some p, cl (a :: v :: .int .i64 rb :: l :: .int .i64 br :: Z) ty⟩]
    (fun H' => H' = [⟨some b3, cl [.pointer (some ⟨p, 0, none⟩)] 103⟩, ⟨some b6, cl [.int .i64 e] 27⟩, ⟨some p, cl (a :: v :: .int .i64 rb :: l :: .int .i64 e :: Z) ty⟩]) (.panicking (pent (errV e) true)) := by
  refine DSpec.recov (x1 := 5) (x2 := 2) (rv := errV e) (E := [(0, .pointer (some ⟨b3, 0, none⟩)), (1, .pointer (some ⟨b6, 0, none⟩))]) Tryz.func57 rfl (by kernel_rfl) Tryz.ntmps57 rfl rfl rfl rfl rfl rfl rfl rfl rfl rfl (recov_pan (errV e)) (fun w => ?_)
  refine WC_seq ?_
  refine WC_region ?_
  refine WL_val rfl rfl rfl (R_move rfl rfl) ?_
  refine WL_val rfl rfl rfl (R_ifaceNe rfl Tryz.underlying20 ⟨_, rfl⟩ rfl) ?_
  refine WL_nil ?_
  refine WQ_code ?_
  refine WC_T rfl ?_
  refine WC_seq ?_
  refine WC_region ?_
  refine WL_val rfl rfl rfl (R_move rfl rfl) ?_
  refine WL_val rfl rfl rfl (R_assertOk rfl Tryz.underlying27 (by intro m e; cases e) rfl) ?_
  refine WL_val rfl rfl rfl (R_move rfl rfl) ?_
  refine WL_val rfl rfl rfl (R_extract rfl rfl rfl) ?_
  refine WL_val rfl rfl rfl (R_extract rfl rfl rfl) ?_
  refine WL_val rfl rfl rfl (R_assign rfl rfl) ?_
  refine WL_val rfl rfl rfl (R_assign rfl rfl) ?_
  refine WL_nil ?_
  refine WQ_code ?_
  refine WC_seq ?_
  refine WC_seq ?_
  refine WC_region ?_
  refine WL_val rfl rfl rfl (R_move rfl rfl) ?_
  refine WL_val rfl rfl rfl (R_not rfl rfl) ?_
  refine WL_nil ?_
  refine WQ_code ?_
  refine WC_F rfl ?_
  refine WC_skip ?_
  refine WQ_code ?_
  refine WC_region ?_
  refine WL_val rfl rfl rfl (R_load rfl sc103 rfl (mmD) rfl) ?_
  refine WL_val rfl rfl rfl (R_move rfl rfl) ?_
  refine WL_val rfl rfl rfl (R_move rfl rfl) ?_
  refine WL_val rfl rfl rfl (R_nilCheck rfl rfl) ?_
  refine WL_val rfl rfl rfl (R_fieldAddr rfl fa34_3 rfl) ?_
  refine WL_do0 rfl rfl (D_store (vs := [_]) rfl Tryz.sizeOf27 rfl rfl rfl rfl rfl (plD) (by exact Nat.le_of_ble_eq_true rfl)) ?_
  rintro _ _ rfl
  rw [put_b4]
  refine WL_do0 rfl rfl (D_store (vs := [_]) rfl Tryz.sizeOf27 rfl rfl rfl rfl rfl (plD) (by exact Nat.le_of_ble_eq_true rfl)) ?_
  rintro _ _ rfl
  rw [put_b0]
  refine WL_nil ?_
  refine WQ_ret rfl rfl .nil rfl (by
      exact rfl) (pqD)
end Go.Proofs.YtkcfgglmlogjbaaGreat
end
section
set_option linter.unusedVariables false
set_option maxRecDepth 20000
set_option maxHeartbeats 4000000
namespace Go.Proofs.YtkcfgglmlogjbaaGreat
theorem receive_ok {S Q : Type} (p ty : Nat) (a0 l3 : S → Value) (z : S → List Value) (HS : S → Heap) (I : Nat → S → Prop) (pi : S → Q) (step : Q → UInt8 → Bs → Q × Int) (hf : Nat) (hfi hca : List Value)
    (hmono : ∀ (s : S) (n m : Nat), I (n + m) s → I n s)
    (hok : ∀ (s : S) (k : UInt8) (body : Bs) (n : Nat), I (n + (body.length + 6)) s → 4 ≤ body.length → body.length ≤ 1024 → (step (pi s) k body).2 = 0 → ∀ (v : Value) (o : Option Nat) (c2 : Nat) (tl : List Value), Own o body.length c2 1 (bvs body) tl →
      Spec Tryz.prog hf (hfi ++ [.agg #[.int .u8 (k.toNat : Int), slV o body.length c2]] ++ hca) ([⟨some p, cl (a0 s :: v :: .int .i64 0 :: l3 s :: .int .i64 0 :: z s) ty⟩] ++ HS s ++ [⟨o, cl (bvs body ++ tl) 5⟩]) (fun r H' => ∃ s', I n s' ∧ pi s' = (step (pi s) k body).1 ∧ r = .tuple #[] ∧ H' = [⟨some p, cl (a0 s' :: v :: .int .i64 0 :: l3 s' :: .int .i64 0 :: z s') ty⟩] ++ HS s'))
    (hbad : ∀ (s : S) (k : UInt8) (body : Bs) (n : Nat), I (n + (body.length + 6)) s → 4 ≤ body.length → body.length ≤ 1024 → (step (pi s) k body).2 ≠ 0 → ∀ (v : Value) (o : Option Nat) (c2 : Nat) (tl : List Value), Own o body.length c2 1 (bvs body) tl →
      PSpec Tryz.prog hf (hfi ++ [.agg #[.int .u8 (k.toNat : Int), slV o body.length c2]] ++ hca) ([⟨some p, cl (a0 s :: v :: .int .i64 0 :: l3 s :: .int .i64 0 :: z s) ty⟩] ++ HS s ++ [⟨o, cl (bvs body ++ tl) 5⟩]) (errV (step (pi s) k body).2) (fun H' => ∃ s', I n s' ∧ pi s' = (step (pi s) k body).1 ∧ H' = [⟨some p, cl (a0 s' :: v :: .int .i64 0 :: l3 s' :: .int .i64 0 :: z s') ty⟩] ++ HS s')) {l : Bs} {oa : Option Addr} {ent : Ent} {c0 : Nat} (hr : RdB oa ent l) (s : S) {bs : Bs} (hs : I (bs.length + l.length) s) {ob : Option Nat} {k c : Nat} {pre tl : List Value} (hO : OwnS ob k bs.length c 1 pre (bvs bs) tl) (hl : l.length ≤ 65536) (hfit : bs.length + l.length ≤ 65536) :
    Spec Tryz.prog 36 [.pointer (some ⟨p, 0, none⟩), .slice oa l.length c0, .func (.func hf) hfi.toArray hca.toArray] ([⟨some p, cl (a0 s :: (sVal ob k bs.length c) :: .int .i64 0 :: l3 s :: .int .i64 0 :: z s) ty⟩] ++ [⟨ob, cl (pre ++ (bvs bs ++ tl)) 5⟩] ++ HS s ++ [ent])
      (fun r H' => ∃ s' ob' k' c' pre' tl', I (rcvN step (bs.length + l.length + 1) (pi s) (bs ++ l)).2.1.length s' ∧ pi s' = (rcvN step (bs.length + l.length + 1) (pi s) (bs ++ l)).1 ∧ r = .int .i64 (rcvN step (bs.length + l.length + 1) (pi s) (bs ++ l)).2.2.2 ∧
        OwnS ob' k' (rcvN step (bs.length + l.length + 1) (pi s) (bs ++ l)).2.1.length c' 1 pre' (bvs (rcvN step (bs.length + l.length + 1) (pi s) (bs ++ l)).2.1) tl' ∧
        H' = [⟨some p, cl (a0 s' :: (sVal ob' k' (rcvN step (bs.length + l.length + 1) (pi s) (bs ++ l)).2.1.length c') :: .int .i64 (rcvN step (bs.length + l.length + 1) (pi s) (bs ++ l)).2.2.1 :: l3 s' :: .int .i64 (rcvN step (bs.length + l.length + 1) (pi s) (bs ++ l)).2.2.2 :: z s') ty⟩] ++ [⟨ob', cl (pre' ++ (bvs (rcvN step (bs.length + l.length + 1) (pi s) (bs ++ l)).2.1 ++ tl')) 5⟩] ++ HS s' ++ [ent]) := by
  obtain ⟨R, hRd⟩ : ∃ R, R = rcvN step (bs.length + l.length + 1) (pi s) (bs ++ l) := ⟨_, rfl⟩
  rw [← hRd]
  refine Spec.ofD (E := [(0, .pointer (some ⟨p, 0, none⟩)), (1, .slice oa l.length c0), (2, .func (.func hf) hfi.toArray hca.toArray)]) Tryz.func36 rfl (by kernel_rfl) Tryz.ntmps36 rfl rfl (fun w => ?_)
  refine WC_seq ?_
  refine WC_region ?_
  refine WL_do rfl rfl rfl (D_box (cs := [_]) rfl rfl rfl) ?_
  rintro _ _ ⟨b1, rfl, rfl⟩
  refine WL_do rfl rfl rfl (D_alloc rfl zv27) ?_
  rintro _ _ ⟨b2, rfl, rfl⟩
  refine WL_nil ?_
  refine WQ_code ?_
  refine WC_seq ?_
  refine WC_seq ?_
  refine WC_region ?_
  refine WL_val rfl rfl rfl (R_load rfl sc103 rfl (mmD) rfl) ?_
  refine WL_val rfl rfl rfl (R_nilCheck rfl rfl) ?_
  refine WL_val rfl rfl rfl (R_fieldAddr rfl fa34_3 rfl) ?_
  refine WL_val rfl rfl rfl (R_load rfl sc27 rfl (mmD) rfl) ?_
  refine WL_val rfl rfl rfl (R_neq rfl rfl rfl) ?_
  refine WL_set (s := 15) (v := .bool false) rfl (by rfl) ?_
  refine WL_nil ?_
  refine WQ_code ?_
  refine WC_F rfl ?_
  refine WC_skip ?_
  refine WQ_code ?_
  refine WC_seq ?_
  refine WC_seq ?_
  refine WC_region ?_
  refine WL_val rfl rfl rfl (R_load rfl sc103 rfl (mmD) rfl) ?_
  refine WL_val rfl rfl rfl (R_nilCheck rfl rfl) ?_
  refine WL_val rfl rfl rfl (R_fieldAddr rfl fa34_1 rfl) ?_
  refine WL_val rfl rfl rfl (R_move rfl rfl) ?_
  refine WL_do rfl rfl rfl (D_call (feed_ok p ty (a0 s) (l3 s :: .int .i64 0 :: z s) hO hr hfit) rfl rfl rfl rfl (pqD)) ?_
  rintro _ _ ⟨_, ⟨ob1, k1, c1, pre1, tl1, rfl, rfl, hO1⟩, rfl⟩
  refine WL_val rfl rfl rfl (R_assign rfl rfl) ?_
  refine WL_nil ?_
  refine WQ_code ?_
  refine WC_seq ?_
  refine WC_region ?_
  refine WL_val rfl rfl rfl (R_move rfl rfl) ?_
  refine WL_val rfl rfl rfl (R_neq rfl rfl rfl) ?_
  refine WL_nil ?_
  refine WQ_code ?_
  refine WC_dF rfl (by decide) ?_
  refine WC_skip ?_
  refine WQ_code ?_
  refine WC_seq ?_
  refine WC_region ?_
  refine WL_val rfl rfl rfl (R_makeFunc rfl rfl rfl) ?_
  refine WL_defer rfl rfl rfl rfl rfl ?_
  refine WL_nil ?_
  refine WQ_code ?_
  refine WC_block ?_
  refine WC_loopF (G := RcW S) [8, 9, 10, 25, 26, 27, 28, 29, 30, 31, 32, 33, 34, 35, 36, 37, 38, 39, 40, 41, 42, 43, 44, 45, 46] (fun y => I y.bs.length y.s ∧ rcvN step (y.n + 1) (pi y.s) y.bs = R ∧ y.bs.length ≤ y.n ∧ y.bs.length ≤ 65536 ∧ OwnS ob1 y.k y.bs.length y.c 1 y.pre (bvs y.bs) tl1) (fun y => []) (fun y => [⟨some p, cl (a0 y.s :: (sVal ob1 y.k y.bs.length y.c) :: .int .i64 0 :: l3 y.s :: .int .i64 0 :: z y.s) ty⟩, ⟨ob1, cl (y.pre ++ (bvs y.bs ++ tl1)) 5⟩] ++ HS y.s) (fun y => y.bs.length) (⟨s, bs.length + l.length, bs ++ l, k1, c1, pre1⟩) (⟨by simpa using hs, hRd.symm, by simp, by simp; omega, hO1⟩) leZ (pqD) ?_
  rintro y ⟨hI, hR, hn, hbl, hO⟩
  refine WC_block ?_
  refine WC_seq ?_
  refine WC_region ?_
  refine WL_val rfl rfl rfl (R_load rfl sc103 rfl (mmD) rfl) ?_
  refine WL_val rfl rfl rfl (R_nilCheck rfl rfl) ?_
  refine WL_val rfl rfl rfl (R_fieldAddr rfl fa34_1 rfl) ?_
  rcases hN : nxt y.bs with _ | e | ⟨kk, body, mm⟩
  · have hR9 : R = (pi y.s, y.bs, 0, 0) := by rw [← hR, rcv_wait hN]
    subst hR9
    refine WL_do rfl rfl rfl (D_call (rnext_wait p ty _ _ hO hbl hN) rfl rfl rfl rfl (pqD)) ?_
    rintro _ _ ⟨_, ⟨k2, c2, rfl, rfl, hO2⟩, rfl⟩
    refine WL_val rfl rfl rfl (R_move rfl rfl) ?_
    refine WL_val rfl rfl rfl (R_extract rfl rfl rfl) ?_
    refine WL_val rfl rfl rfl (R_extract rfl rfl rfl) ?_
    refine WL_val rfl rfl rfl (R_extract rfl rfl rfl) ?_
    refine WL_do rfl rfl rfl (D_alloc rfl zv84) ?_
    rintro _ _ ⟨b3, rfl, rfl⟩
    refine WL_do0 rfl rfl (D_store (vs := [_, _]) rfl Tryz.sizeOf84 rfl rfl rfl rfl rfl (plD) (by exact Nat.le_of_ble_eq_true rfl)) ?_
    rintro _ _ rfl
    refine WL_val rfl rfl rfl (R_assign rfl rfl) ?_
    refine WL_val rfl rfl rfl (R_assign rfl rfl) ?_
    refine WL_nil ?_
    refine WQ_code ?_
    refine WC_seq ?_
    refine WC_region ?_
    refine WL_val rfl rfl rfl (R_move rfl rfl) ?_
    refine WL_val rfl rfl rfl (R_eql rfl rfl rfl) ?_
    refine WL_set (s := 34) (v := .bool true) rfl (by rfl) ?_
    refine WL_val rfl rfl rfl (R_move rfl rfl) ?_
    refine WL_do rfl rfl rfl (D_call (must_ok _) rfl rfl rfl rfl (pqD)) ?_
    rintro _ _ ⟨_, ⟨rfl, rfl⟩, rfl⟩
    refine WL_nil ?_
    refine WQ_code ?_
    refine WC_seq ?_
    refine WC_seq ?_
    refine WC_region ?_
    refine WL_val rfl rfl rfl (R_move rfl rfl) ?_
    refine WL_val rfl rfl rfl (R_not rfl rfl) ?_
    refine WL_nil ?_
    refine WQ_code ?_
    refine WC_T rfl ?_
    refine WC_seq ?_
    refine WC_region ?_
    refine WL_do0 rfl rfl (D_store (vs := [_]) rfl Tryz.sizeOf27 rfl rfl rfl rfl rfl (plD) (by exact Nat.le_of_ble_eq_true rfl)) ?_
    rintro _ _ rfl
    rw [put_b0]
    refine WL_nil ?_
    refine WQ_code ?_
    refine WC_ret ?_
    refine WQ_retD (rec_idle _ _) rfl (pqD) rfl (.cons (.cell1 rfl sc27 (mmD) rfl) .nil) rfl (by
        exact ⟨y.s, _, _, _, _, _, hI, rfl, rfl, hO2, rfl⟩) (pqD)
  · have hR9 : R = (pi y.s, y.bs, e, e) := by rw [← hR, rcv_bad hN]
    subst hR9
    refine WL_do rfl rfl rfl (D_call (rnext_bad p ty _ _ hO hbl (nxt_bad_ne hN) hN) rfl rfl rfl rfl (pqD)) ?_
    rintro _ _ ⟨_, ⟨rfl, rfl⟩, rfl⟩
    refine WL_val rfl rfl rfl (R_move rfl rfl) ?_
    refine WL_val rfl rfl rfl (R_extract rfl rfl rfl) ?_
    refine WL_val rfl rfl rfl (R_extract rfl rfl rfl) ?_
    refine WL_val rfl rfl rfl (R_extract rfl rfl rfl) ?_
    refine WL_do rfl rfl rfl (D_alloc rfl zv84) ?_
    rintro _ _ ⟨b4, rfl, rfl⟩
    refine WL_do0 rfl rfl (D_store (vs := [_, _]) rfl Tryz.sizeOf84 rfl rfl rfl rfl rfl (plD) (by exact Nat.le_of_ble_eq_true rfl)) ?_
    rintro _ _ rfl
    refine WL_val rfl rfl rfl (R_assign rfl rfl) ?_
    refine WL_val rfl rfl rfl (R_assign rfl rfl) ?_
    refine WL_nil ?_
    refine WQ_code ?_
    refine WC_seq ?_
    refine WC_region ?_
    refine WL_val rfl rfl rfl (R_move rfl rfl) ?_
    refine WL_val rfl rfl rfl (R_eql rfl rfl rfl) ?_
    refine WL_set (s := 34) (v := .bool false) rfl (by exact congrArg Value.bool (decide_eq_false (nxt_bad_ne hN))) ?_
    refine WL_val rfl rfl rfl (R_move rfl rfl) ?_
    refine WL_pcall rfl (must_bad _) rfl rfl rfl rfl (pqD) ?_
    rintro _ rfl
    refine WQ_panD (rec_pan p ty b1 b2 _ _ _ _ _ _ _ _) rfl (pqD) rfl (.cons (.cell1 rfl sc27 (mmD) rfl) .nil) rfl (by
        exact ⟨y.s, _, _, _, _, _, hI, rfl, rfl, hO, rfl⟩) (pqD)
  · obtain ⟨hm1, hm2, hm3⟩ := nxt_got hN
    have hI9 : I ((y.bs.drop mm).length + (body.length + 6)) y.s := by rw [show (y.bs.drop mm).length + (body.length + 6) = y.bs.length from by simp; omega]; exact hI
    refine WL_do rfl rfl rfl (D_call (rnext_got p ty _ _ hO hbl hN) rfl rfl rfl rfl (pqD)) ?_
    rintro _ _ ⟨_, ⟨o9, c9, tl9, k2, c2, pre2, rfl, rfl, hO2, own9⟩, rfl⟩
    refine WL_val rfl rfl rfl (R_move rfl rfl) ?_
    refine WL_val rfl rfl rfl (R_extract rfl rfl rfl) ?_
    refine WL_val rfl rfl rfl (R_extract rfl rfl rfl) ?_
    refine WL_val rfl rfl rfl (R_extract rfl rfl rfl) ?_
    refine WL_do rfl rfl rfl (D_alloc rfl zv84) ?_
    rintro _ _ ⟨b5, rfl, rfl⟩
    refine WL_do0 rfl rfl (D_store (vs := [_, _]) rfl Tryz.sizeOf84 rfl rfl rfl rfl rfl (plD) (by exact Nat.le_of_ble_eq_true rfl)) ?_
    rintro _ _ rfl
    refine WL_val rfl rfl rfl (R_assign rfl rfl) ?_
    refine WL_val rfl rfl rfl (R_assign rfl rfl) ?_
    refine WL_nil ?_
    refine WQ_code ?_
    refine WC_seq ?_
    refine WC_region ?_
    refine WL_val rfl rfl rfl (R_move rfl rfl) ?_
    refine WL_val rfl rfl rfl (R_eql rfl rfl rfl) ?_
    refine WL_set (s := 34) (v := .bool true) rfl (by rfl) ?_
    refine WL_val rfl rfl rfl (R_move rfl rfl) ?_
    refine WL_do rfl rfl rfl (D_call (must_ok _) rfl rfl rfl rfl (pqD)) ?_
    rintro _ _ ⟨_, ⟨rfl, rfl⟩, rfl⟩
    refine WL_nil ?_
    refine WQ_code ?_
    refine WC_seq ?_
    refine WC_seq ?_
    refine WC_region ?_
    refine WL_val rfl rfl rfl (R_move rfl rfl) ?_
    refine WL_val rfl rfl rfl (R_not rfl rfl) ?_
    refine WL_nil ?_
    refine WQ_code ?_
    refine WC_F rfl ?_
    refine WC_skip ?_
    refine WQ_code ?_
    refine WC_seq ?_
    refine WC_region ?_
    rcases Nat.lt_or_ge body.length 4 with h4 | h4
    · have hR9 : R = (pi y.s, y.bs.drop mm, 0, 6) := by rw [← hR, rcv_short hN h4]
      subst hR9
      refine WL_val rfl rfl rfl (R_fieldAddr rfl fa84_1 rfl) ?_
      refine WL_val rfl rfl rfl (R_load rfl sc23 rfl (mmD) rfl) ?_
      refine WL_val rfl rfl rfl (R_len rfl Tryz.underlying23 rfl) ?_
      refine WL_val rfl rfl rfl (R_geq rfl rfl rfl) ?_
      refine WL_set (s := 42) (v := .bool false) rfl (by exact congrArg Value.bool (decide_eq_false (by omega))) ?_
      refine WL_pcall rfl (must_bad _) rfl rfl rfl rfl (pqD) ?_
      rintro _ rfl
      refine WQ_panD (rec_pan p ty b1 b2 _ _ _ _ _ _ _ _) rfl (pqD) rfl (.cons (.cell1 rfl sc27 (mmD) rfl) .nil) rfl (by
          exact ⟨y.s, _, _, _, _, _, hmono _ _ _ hI9, rfl, rfl, hO2, rfl⟩) (pqD)
    · refine WL_val rfl rfl rfl (R_fieldAddr rfl fa84_1 rfl) ?_
      refine WL_val rfl rfl rfl (R_load rfl sc23 rfl (mmD) rfl) ?_
      refine WL_val rfl rfl rfl (R_len rfl Tryz.underlying23 rfl) ?_
      refine WL_val rfl rfl rfl (R_geq rfl rfl rfl) ?_
      refine WL_set (s := 42) (v := .bool true) rfl (by exact congrArg Value.bool (decide_eq_true (by omega))) ?_
      refine WL_do rfl rfl rfl (D_call (must_ok _) rfl rfl rfl rfl (pqD)) ?_
      rintro _ _ ⟨_, ⟨rfl, rfl⟩, rfl⟩
      refine WL_nil ?_
      refine WQ_code ?_
      refine WC_region ?_
      refine WL_val rfl rfl rfl (R_move rfl rfl) ?_
      refine WL_val rfl rfl rfl (R_loadA (vs := [_, _]) rfl ag84 rfl (mmD) rfl (atZ)) ?_
      by_cases h5 : (step (pi y.s) kk body).2 = 0
      · refine WL_do rfl rfl rfl (D_call (hok y.s kk body _ hI9 h4 hm3 h5 _ o9 c9 tl9 own9) rfl rfl rfl rfl (pqD)) ?_
        rintro _ _ ⟨_, ⟨s', hI', hpi, rfl, rfl⟩, rfl⟩
        obtain ⟨n9, hn9⟩ : ∃ n9, y.n = n9 + 1 := ⟨y.n - 1, by omega⟩
        have hR' : rcvN step (n9 + 1) (pi s') (y.bs.drop mm) = R := by rw [← hR, hn9, rcv_ok hN h4 h5, hpi]
        have hO' := hO2
        refine WL_nil ?_
        refine WQ_nextF (gg := y) (⟨s', n9, y.bs.drop mm, k2, c2, pre2⟩) (⟨hI', hR', by simp; omega, by simp; omega, hO'⟩) (by simp; omega) leZ (psZ) rfl (pqD)
      · refine WL_pcall rfl (hbad y.s kk body _ hI9 h4 hm3 h5 _ o9 c9 tl9 own9) rfl rfl rfl rfl (pqD) ?_
        rintro _ ⟨s', hI', hpi, rfl⟩
        refine WQ_panD (rec_pan p ty b1 b2 _ _ _ _ _ _ _ _) rfl (pqD) rfl (.cons (.cell1 rfl sc27 (mmD) rfl) .nil) rfl (by
            have hR9 : R = ((step (pi y.s) kk body).1, y.bs.drop mm, 0, (step (pi y.s) kk body).2) := by rw [← hR, rcv_no hN h4 h5]
            subst hR9
            exact ⟨s', _, _, _, _, _, hI', hpi, rfl, hO2, rfl⟩) (pqD)
end Go.Proofs.YtkcfgglmlogjbaaGreat
end
section
set_option linter.unusedVariables false
set_option maxRecDepth 20000
set_option maxHeartbeats 1000000
namespace Go.Proofs.YtkcfgglmlogjbaaGreat
theorem cid3_ok (c : Ca) (bi : Nat) (id : Int) : Spec Tryz.prog 43 [caV c, ptrC bi] [⟨some bi, cl [.int .i64 id] 3⟩] (fun r H' => r = .bool (decide ((c.id : Int) = id)) ∧ H' = [⟨some bi, cl [.int .i64 id] 3⟩]) := by
  refine Spec.of (E := [(0, caV c), (1, ptrC bi)]) Tryz.func43 rfl (by kernel_rfl) Tryz.ntmps43 rfl rfl (fun w => ?_)
  refine WC_seq ?_
  refine WC_region ?_
  refine WL_do rfl rfl rfl (D_box (cs := [_, _]) rfl rfl rfl) ?_
  rintro _ _ ⟨b1, rfl, rfl⟩
  refine WL_val rfl rfl rfl (R_assign rfl rfl) ?_
  refine WL_nil ?_
  refine WQ_code ?_
  refine WC_seq ?_
  refine WC_region ?_
  refine WL_val rfl rfl rfl (R_fieldAddr rfl fa76_0 rfl) ?_
  refine WL_val rfl rfl rfl (R_load rfl sc3 rfl (mmD) rfl) ?_
  refine WL_val rfl rfl rfl (R_load rfl sc3 rfl (mmD) rfl) ?_
  refine WL_val rfl rfl rfl (R_eql rfl rfl rfl) ?_
  refine WL_val rfl rfl rfl (R_assign rfl rfl) ?_
  refine WL_nil ?_
  refine WQ_code ?_
  refine WC_ret ?_
  refine WQ_ret rfl rfl (.cons (.tmp rfl) .nil) rfl (by
      exact ⟨rfl, rfl⟩) (pqD)
theorem call2_ok (c : Ca) : Spec Tryz.prog 44 [caV c] [] (fun r H' => r = .bool true ∧ H' = []) := by
  refine Spec.of (E := [(0, caV c)]) Tryz.func44 rfl (by kernel_rfl) Tryz.ntmps44 rfl rfl (fun w => ?_)
  refine WC_seq ?_
  refine WC_region ?_
  refine WL_do rfl rfl rfl (D_box (cs := [_, _]) rfl rfl rfl) ?_
  rintro _ _ ⟨b1, rfl, rfl⟩
  refine WL_val rfl rfl rfl (R_assign rfl rfl) ?_
  refine WL_nil ?_
  refine WQ_code ?_
  refine WC_seq ?_
  refine WC_region ?_
  refine WL_val rfl rfl rfl (R_assign rfl rfl) ?_
  refine WL_nil ?_
  refine WQ_code ?_
  refine WC_ret ?_
  refine WQ_ret rfl rfl (.cons (.tmp rfl) .nil) rfl (by
      exact ⟨rfl, rfl⟩) (pqD)
end Go.Proofs.YtkcfgglmlogjbaaGreat
end
section
set_option linter.unusedVariables false
set_option maxRecDepth 20000
set_option maxHeartbeats 4000000
namespace Go.Proofs.YtkcfgglmlogjbaaGreat
structure Res where
  id : Int
  code : Int
  body : Bs
deriving DecidableEq
def Rs.v (r : Rs) : Res := ⟨r.id, r.code, r.body⟩
theorem flt_snoc {q : Ca → Bool} {l : List Ca} {k : Nat} {c : Ca} (h : l[k]? = some c) : (l.take (k + 1)).filter q = (l.take k).filter q ++ if q c then [c] else [] := by
  rw [take_next h, List.filter_append]; by_cases e : q c <;> simp [e]
theorem flt_le (q : Ca → Bool) (l : List Ca) (k : Nat) : ((l.take k).filter q).length ≤ l.length := Nat.le_trans (List.length_filter_le ..) (by simp; omega)
def nq (q : Ca → Bool) (c : Ca) : Bool := !q c
structure EnW where
  k : Nat
  o1 : Option Nat
  c1 : Nat
  t1 : List Value
  o2 : Option Nat
  c2 : Nat
  t2 : List Value
  l1 : List Ca
  l2 : List Ca
structure ExW where
  k : Nat
  ns : List Rs
  rs : List Rs
  eb : Option Nat
  ek : Nat
  ec : Nat
  epre : List Value
  etl : List Value
theorem rsH_perm {l : List Rs} {r : Rs} : (rsE r :: rsH l).Perm (rsH (l ++ [r])) := by unfold rsH; rw [List.map_append]; exact List.perm_append_comm (l₁ := [rsE r])
theorem rsH_app (a b : List Rs) : rsH (a ++ b) = rsH a ++ rsH b := List.map_append
theorem ex_step {W : List Ca} {ns : List Rs} {k : Nat} {c : Ca} {code : Int} {body : Bs} (hc : W[k]? = some c) (hv : ns.map Rs.v = (W.take k).map fun c => ⟨(c.id : Int), code, body⟩) (r : Rs) (hr : r.v = ⟨(c.id : Int), code, body⟩) :
    (ns ++ [r]).map Rs.v = (W.take (k + 1)).map fun c => ⟨(c.id : Int), code, body⟩ := by
  rw [take_next hc, List.map_append, List.map_append, hv]; simp [hr]
theorem ex_len {W : List Ca} {ns : List Rs} {k : Nat} {code : Int} {body : Bs} (hk : k ≤ W.length) (hv : ns.map Rs.v = (W.take k).map fun c => (⟨(c.id : Int), code, body⟩ : Res)) : ns.length = k := by
  have := congrArg List.length hv
  simpa [Nat.min_eq_left hk] using this
theorem rs_snoc {ns : List Rs} {r : Rs} (h : ∀ x ∈ ns, rsOk x) (hr : rsOk r) : ∀ x ∈ ns ++ [r], rsOk x := fun x hx => by
  rcases List.mem_append.1 hx with h1 | h1
  · exact h x h1
  · rw [List.mem_singleton.1 h1]; exact hr
theorem clone_any {l : Bs} {oa : Option Addr} {ent : Ent} {c : Nat} (hr : RdB oa ent l) (hl : l.length ≤ 1000000) (hn : oa = none → c = 0) : Spec Tryz.prog 49 [.slice oa l.length c] [ent] (fun r H' => ∃ o c2 tl, r = slV o l.length c2 ∧ Own o l.length c2 1 (bvs l) tl ∧ H' = [⟨o, cl (bvs l ++ tl) 5⟩, ent]) := by
  cases oa with
  | some a => exact clone_some hr hl
  | none =>
    have h0 : l = [] := by
      rcases Nat.eq_zero_or_pos l.length with h | h
      · exact List.eq_nil_of_length_eq_zero h
      · obtain ⟨b, k, cs, e, fr, h1, _⟩ := hr h; cases h1
    subst h0
    rw [hn rfl]
    refine ⟨clone_nil.enters, fun w hw => (clone_nil.calls w ⟨by simp [keys], fun x hx => by cases hx⟩).mono fun e w' ⟨v, H', e1, ⟨e2, e3⟩, e4⟩ => ?_⟩
    subst e3
    refine ⟨v, _, e1, ⟨none, 0, [], by rw [e2]; rfl, Own.empty 1, rfl⟩, ?_⟩
    have h9 := HW.frame (HW.start hw) (List.Perm.refl [ent] : [ent].Perm ([] ++ [ent])) e4
    exact h9.addNone 5
theorem rs_both {a b : List Rs} (h : ∀ x ∈ a, rsOk x) (h2 : ∀ x ∈ b, rsOk x) : ∀ x ∈ a ++ b, rsOk x := fun x hx => by
  rcases List.mem_append.1 hx with h1 | h1
  · exact h x h1
  · exact h2 x h1
theorem end_ok (p : Nat) (a0 a1 a2 a3 a4 a5 a8 : Value) {calls : List Ca} {res : List Rs} {cb : Option Nat} {ccp : Nat} {ctl : List Value} {eb : Option Nat} {ek ec : Nat} {epre etl : List Value} (hC : Own cb calls.length ccp 2 (calls.flatMap encC) ctl) (hE0 : OwnS eb ek res.length ec 3 epre (res.flatMap encRs) etl) (hbc : calls.length ≤ 32) (hbr : res.length ≤ 100000) (code : Int) {body : Bs} {oa : Option Addr} {ent : Ent} {c0 : Nat} (hr : RdB oa ent body) (hrn : oa = none → c0 = 0) (hbl : body.length ≤ 1000000) (q : Ca → Bool) (pf : Nat) (pca : List Value) (PH : Heap) (hq : ∀ c, Spec Tryz.prog pf ([caV c] ++ pca) PH (fun r H' => r = .bool (q c) ∧ H' = PH)) (hcode : ¬ code = 12) : Spec Tryz.prog 41 [ptrC p, .int .i64 code, .slice oa body.length c0, .func (.func pf) #[] pca.toArray] ([⟨some p, cl [a0, a1, a2, a3, a4, a5, slV cb calls.length ccp, sVal eb ek res.length ec, a8] 40⟩, ⟨cb, cl (calls.flatMap encC ++ ctl) 76⟩, ⟨eb, cl (epre ++ (res.flatMap encRs ++ etl)) 64⟩] ++ [ent] ++ PH) (fun r H' => ∃ cb' cc' ctl' eb' ek' ec' epre' etl' ns o c1 tl, ∃ W : List Ca, W = calls.filter q ∧ r = slV o W.length c1 ∧ Own o W.length c1 2 (W.flatMap encC) tl ∧ ns.map Rs.v = W.map (fun c => (⟨(c.id : Int), code, body⟩ : Res)) ∧ (∀ r ∈ ns, rsOk r) ∧ Own cb' (calls.filter (nq q)).length cc' 2 ((calls.filter (nq q)).flatMap encC) ctl' ∧ OwnS eb' ek' (res ++ ns).length ec' 3 epre' ((res ++ ns).flatMap encRs) etl' ∧ H' = [⟨some p, cl [a0, a1, a2, a3, a4, a5, slV cb' (calls.filter (nq q)).length cc', sVal eb' ek' (res ++ ns).length ec', a8] 40⟩, ⟨cb', cl ((calls.filter (nq q)).flatMap encC ++ ctl') 76⟩, ⟨eb', cl (epre' ++ ((res ++ ns).flatMap encRs ++ etl')) 64⟩] ++ rsH ns ++ [⟨o, cl (W.flatMap encC ++ tl) 76⟩] ++ [ent] ++ PH) := by
  refine Spec.of (E := [(0, ptrC p), (1, .int .i64 code), (2, .slice oa body.length c0), (3, .func (.func pf) #[] pca.toArray)]) Tryz.func41 rfl (by kernel_rfl) Tryz.ntmps41 rfl rfl (fun w => ?_)
  refine WC_seq ?_
  refine WC_region ?_
  refine WL_val rfl rfl rfl (R_assign rfl rfl) ?_
  refine WL_nil ?_
  refine WQ_code ?_
  refine WC_seq ?_
  refine WC_region ?_
  refine WL_val rfl rfl rfl (R_assign rfl rfl) ?_
  refine WL_val rfl rfl rfl (R_assign rfl rfl) ?_
  refine WL_nil ?_
  refine WQ_code ?_
  refine WC_seq ?_
  refine WC_seq ?_
  refine WC_region ?_
  refine WL_val rfl rfl rfl (R_move rfl rfl) ?_
  refine WL_val rfl rfl rfl (R_nilCheck rfl rfl) ?_
  refine WL_val rfl rfl rfl (R_fieldAddr rfl fa40_2 rfl) ?_
  refine WL_val rfl rfl rfl (R_load rfl sc37 rfl (mmD) rfl) ?_
  refine WL_val rfl rfl rfl (R_len rfl Tryz.underlying37 rfl) ?_
  refine WL_val rfl rfl rfl (R_move rfl rfl) ?_
  refine WL_nil ?_
  refine WQ_code ?_
  refine WC_block ?_
  refine WC_none 76 ?_
  refine WC_none 76 ?_
  refine WC_loopF (G := EnW) [9, 10, 12, 20, 21, 22, 23, 24, 25, 26, 27, 28, 29, 30, 31, 32, 33, 34, 35] (fun y => y.k ≤ calls.length ∧ y.l1 = (calls.take y.k).filter q ∧ y.l2 = (calls.take y.k).filter (nq q) ∧ Own y.o1 y.l1.length y.c1 2 (y.l1.flatMap encC) y.t1 ∧ Own y.o2 y.l2.length y.c2 2 (y.l2.flatMap encC) y.t2) (fun y => [(20, .int .i64 (y.k : Int)), (9, slV y.o1 y.l1.length y.c1), (10, slV y.o2 y.l2.length y.c2)]) (fun y => [⟨y.o1, cl (y.l1.flatMap encC ++ y.t1) 76⟩, ⟨y.o2, cl (y.l2.flatMap encC ++ y.t2) 76⟩]) (fun y => calls.length - y.k) (⟨0, none, 0, [], none, 0, [], [], []⟩) (⟨Nat.zero_le _, rfl, rfl, Own.empty 2, Own.empty 2⟩) leZ (pqD) ?_
  rintro y ⟨hk, hl1, hl2, ho1, ho2⟩
  refine WC_seq ?_
  refine WC_region ?_
  refine WL_val rfl rfl rfl (R_lss rfl rfl rfl) ?_
  refine WL_nil ?_
  refine WQ_code ?_
  refine WC_seq ?_
  refine WC_dec rfl (fun c1 => ?_) (fun c1 => ?_)
  · refine WC_skip ?_
    refine WQ_code ?_
    refine WC_seq ?_
    refine WC_block ?_
    refine WC_seq ?_
    refine WC_region ?_
    obtain ⟨cc, hc⟩ := getE (T := calls) (i := y.k) (by omega)
    obtain ⟨wb, hcb⟩ := hC.some_of (by omega)
    have hle1 := flt_le q calls y.k
    have hle2 := flt_le (nq q) calls y.k
    rw [← hl1] at hle1
    rw [← hl2] at hle2
    refine WL_val rfl rfl rfl (R_idxO hcb rfl Tryz.underlying37 Tryz.sizeOf76 rfl rfl (by omega)) ?_
    refine WL_val rfl rfl rfl (R_loadAO (vs := encC cc) hcb rfl ag76 rfl (mmD) rfl (fm_at0 encC2 hc (j := 0) (vs := encC cc) (fun j v h => by rw [Nat.zero_add]; exact h) (Nat.le_refl _))) ?_
    refine WL_do rfl rfl rfl (D_alloc rfl zv76) ?_
    rintro _ _ ⟨b1, rfl, rfl⟩
    refine WL_do0 rfl rfl (D_store (vs := [_, _]) rfl Tryz.sizeOf76 rfl rfl rfl rfl rfl (plD) (by exact Nat.le_of_ble_eq_true rfl)) ?_
    rintro _ _ rfl
    refine WL_nil ?_
    refine WQ_code ?_
    refine WC_seq ?_
    refine WC_region ?_
    refine WL_val rfl rfl rfl (R_move rfl rfl) ?_
    refine WL_val rfl rfl rfl (R_loadA (vs := [_, _]) rfl ag76 rfl (mmD) rfl (atZ)) ?_
    refine WL_do rfl rfl rfl (D_call (hq cc) rfl rfl rfl rfl (pqD)) ?_
    rintro _ _ ⟨_, ⟨rfl, rfl⟩, rfl⟩
    refine WL_nil ?_
    refine WQ_code ?_
    refine WC_if rfl (fun c2 => ?_) (fun c2 => ?_)
    · have hcq := c2
      refine WC_region ?_
      refine WL_val rfl rfl rfl (R_move rfl rfl) ?_
      refine WL_val rfl rfl rfl (R_loadA (vs := [_, _]) rfl ag76 rfl (mmD) rfl (atZ)) ?_
      refine WL_do rfl rfl rfl (D_buildSlice rfl si37 rfl rfl rfl) ?_
      rintro _ _ ⟨b2, rfl, rfl⟩
      refine WL_do rfl rfl rfl (D_append rfl si37 rfl ho1 plD rfl mmD (atZ : At _ 0 [_, _]) rfl rfl (by omega) (by omega)) ?_
      rintro _ _ ⟨ob9, c9, tl9, rfl, own9, rfl⟩
      rw [show y.l1.flatMap encC ++ [Value.int .i64 (cc.id : Int), .int .u64 (cc.dl : Int)] = (y.l1 ++ [cc]).flatMap encC from by simp, show y.l1.length + 1 = (y.l1 ++ [cc]).length from by simp] at own9
      rw [show y.l1.flatMap encC ++ [Value.int .i64 (cc.id : Int), .int .u64 (cc.dl : Int)] = (y.l1 ++ [cc]).flatMap encC from by simp]
      refine WL_set (s := 30) (v := slV ob9 (y.l1 ++ [cc]).length c9) rfl (by rw [List.length_append]; rfl) ?_
      refine WL_val rfl rfl rfl (R_assign rfl rfl) ?_
      refine WL_nil ?_
      refine WQ_code ?_
      refine WC_region ?_
      refine WL_val rfl rfl rfl (R_add rfl rfl rfl (by omega)) ?_
      refine WL_val rfl rfl rfl (R_move rfl rfl) ?_
      refine WL_nil ?_
      refine WQ_nextF (⟨y.k + 1, ob9, c9, tl9, y.o2, y.c2, y.t2, y.l1 ++ [cc], y.l2⟩) (⟨by dsimp only; omega, by dsimp only; rw [flt_snoc hc, ← hl1, hcq]; rfl, by dsimp only; rw [flt_snoc hc, ← hl2]; simp [nq, hcq], own9, ho2⟩) (by dsimp only; omega) leZ (psZ) rfl (pqD)
    · have hcq := c2
      refine WC_region ?_
      refine WL_val rfl rfl rfl (R_move rfl rfl) ?_
      refine WL_val rfl rfl rfl (R_loadA (vs := [_, _]) rfl ag76 rfl (mmD) rfl (atZ)) ?_
      refine WL_do rfl rfl rfl (D_buildSlice rfl si37 rfl rfl rfl) ?_
      rintro _ _ ⟨b3, rfl, rfl⟩
      refine WL_do rfl rfl rfl (D_append rfl si37 rfl ho2 plD rfl mmD (atZ : At _ 0 [_, _]) rfl rfl (by omega) (by omega)) ?_
      rintro _ _ ⟨ob9, c9, tl9, rfl, own9, rfl⟩
      rw [show y.l2.flatMap encC ++ [Value.int .i64 (cc.id : Int), .int .u64 (cc.dl : Int)] = (y.l2 ++ [cc]).flatMap encC from by simp, show y.l2.length + 1 = (y.l2 ++ [cc]).length from by simp] at own9
      rw [show y.l2.flatMap encC ++ [Value.int .i64 (cc.id : Int), .int .u64 (cc.dl : Int)] = (y.l2 ++ [cc]).flatMap encC from by simp]
      refine WL_set (s := 34) (v := slV ob9 (y.l2 ++ [cc]).length c9) rfl (by rw [List.length_append]; rfl) ?_
      refine WL_val rfl rfl rfl (R_assign rfl rfl) ?_
      refine WL_nil ?_
      refine WQ_code ?_
      refine WC_region ?_
      refine WL_val rfl rfl rfl (R_add rfl rfl rfl (by omega)) ?_
      refine WL_val rfl rfl rfl (R_move rfl rfl) ?_
      refine WL_nil ?_
      refine WQ_nextF (⟨y.k + 1, y.o1, y.c1, y.t1, ob9, c9, tl9, y.l1, y.l2 ++ [cc]⟩) (⟨by dsimp only; omega, by dsimp only; rw [flt_snoc hc, ← hl1, hcq]; simp, by dsimp only; rw [flt_snoc hc, ← hl2]; simp [nq, hcq], ho1, own9⟩) (by dsimp only; omega) leZ (psZ) rfl (pqD)
  · have hkl : y.k = calls.length := by omega
    have hl1e : y.l1 = calls.filter q := by rw [hl1, hkl, List.take_length]
    have hl2e : y.l2 = calls.filter (nq q) := by rw [hl2, hkl, List.take_length]
    have hWl : y.l1.length ≤ 32 := Nat.le_trans (by rw [hl1e]; exact List.length_filter_le ..) hbc
    obtain ⟨W, hW⟩ : ∃ W, W = y.l1 := ⟨_, rfl⟩
    rw [← hW] at ho1 hWl hl1e
    rw [← hW]
    have hWo := ho1
    refine WC_exit ?_
    refine WQ_code ?_
    refine WC_seq ?_
    refine WC_region ?_
    refine WL_val rfl rfl rfl (R_move rfl rfl) ?_
    refine WL_val rfl rfl rfl (R_move rfl rfl) ?_
    refine WL_val rfl rfl rfl (R_nilCheck rfl rfl) ?_
    refine WL_val rfl rfl rfl (R_fieldAddr rfl fa40_2 rfl) ?_
    refine WL_do0 rfl rfl (D_store (vs := [_]) rfl Tryz.sizeOf37 rfl rfl rfl rfl rfl (plD) (by exact Nat.le_of_ble_eq_true rfl)) ?_
    rintro _ _ rfl
    refine WL_nil ?_
    refine WQ_code ?_
    refine WC_seq ?_
    refine WC_seq ?_
    refine WC_region ?_
    refine WL_val rfl rfl rfl (R_move rfl rfl) ?_
    refine WL_val rfl rfl rfl (R_eql rfl rfl rfl) ?_
    refine WL_nil ?_
    refine WQ_code ?_
    refine WC_dF rfl (by exact hcode) ?_
    refine WC_skip ?_
    refine WQ_code ?_
    refine WC_seq ?_
    refine WC_seq ?_
    refine WC_region ?_
    refine WL_val rfl rfl rfl (R_move rfl rfl) ?_
    refine WL_val rfl rfl rfl (R_len rfl Tryz.underlying37 rfl) ?_
    refine WL_val rfl rfl rfl (R_move rfl rfl) ?_
    refine WL_nil ?_
    refine WQ_code ?_
    refine WC_block ?_
    refine WC_loopF (G := ExW) [14, 46, 47, 48, 49, 50, 51, 52, 53, 54, 55, 56, 57, 58, 59, 60, 61, 62, 63, 64, 65] (fun u => u.k ≤ W.length ∧ u.ns.map Rs.v = (W.take u.k).map (fun c => (⟨(c.id : Int), code, body⟩ : Res)) ∧ (∀ r ∈ u.ns, rsOk r) ∧ OwnS u.eb u.ek u.rs.length u.ec 3 u.epre (u.rs.flatMap encRs) u.etl ∧ u.rs = res ++ u.ns) (fun u => [(46, .int .i64 (u.k : Int))]) (fun u => [⟨some p, cl [a0, a1, a2, a3, a4, a5, slV y.o2 y.l2.length y.c2, sVal u.eb u.ek u.rs.length u.ec, a8] 40⟩, ⟨u.eb, cl (u.epre ++ (u.rs.flatMap encRs ++ u.etl)) 64⟩] ++ rsH u.ns) (fun u => W.length - u.k) (⟨0, [], res, eb, ek, ec, epre, etl⟩) (⟨Nat.zero_le _, rfl, (fun r hr => by cases hr), hE0, (List.append_nil _).symm⟩) leZ (pqD) ?_
    rintro u ⟨huk, hns, hrs, hE, hre⟩
    refine WC_seq ?_
    refine WC_region ?_
    refine WL_val rfl rfl rfl (R_lss rfl rfl rfl) ?_
    refine WL_nil ?_
    refine WQ_code ?_
    refine WC_seq ?_
    refine WC_dec rfl (fun c3 => ?_) (fun c3 => ?_)
    · refine WC_skip ?_
      refine WQ_code ?_
      refine WC_seq ?_
      refine WC_block ?_
      refine WC_seq ?_
      refine WC_region ?_
      obtain ⟨cc, hc⟩ := getE (T := W) (i := u.k) (by omega)
      obtain ⟨wb, hcw⟩ := hWo.some_of (by omega)
      have hnl := ex_len huk hns
      have hrl : u.rs.length = res.length + u.ns.length := by rw [hre, List.length_append]
      refine WL_val rfl rfl rfl (R_idxO hcw rfl Tryz.underlying37 Tryz.sizeOf76 rfl rfl (by omega)) ?_
      refine WL_val rfl rfl rfl (R_loadAO (vs := encC cc) hcw rfl ag76 rfl (mmD) rfl (fm_at0 encC2 hc (j := 0) (vs := encC cc) (fun j v h => by rw [Nat.zero_add]; exact h) (Nat.le_refl _))) ?_
      refine WL_do rfl rfl rfl (D_alloc rfl zv76) ?_
      rintro _ _ ⟨b4, rfl, rfl⟩
      refine WL_do0 rfl rfl (D_store (vs := [_, _]) rfl Tryz.sizeOf76 rfl rfl rfl rfl rfl (plD) (by exact Nat.le_of_ble_eq_true rfl)) ?_
      rintro _ _ rfl
      refine WL_nil ?_
      refine WQ_code ?_
      refine WC_drawY (⟨some p, _⟩ :: [⟨u.eb, _⟩]) [(p, 7, sVal u.eb u.ek u.rs.length u.ec)] [15] [(0, false), (1, false), (2, false), (3, false), (4, true)] [(5, true), (6, true), (7, true), (8, true), (9, false), (10, true), (11, false), (12, false), (13, true), (14, true), (15, false)] followsMixed rfl rfl (by kernel_rfl) (pqD) (.cons (mmD) rfl .nil) ?_
      refine WYE_val rfl rfl rfl rfl (R_move rfl rfl) ?_
      refine WYE_val rfl rfl rfl rfl (R_move rfl rfl) ?_
      refine WYE_val rfl rfl rfl rfl (R_nilCheck rfl rfl) ?_
      refine WYE_val rfl rfl rfl rfl (R_fieldAddr rfl fa40_3 rfl) ?_
      refine WYE_early rfl rfl rfl rfl rfl sc38 rfl (by repeat (first | exact List.Mem.head _ | refine List.Mem.tail _ ?_)) ?_
      refine WYE_rest ?_
      refine WY_val rfl rfl rfl rfl (R_fieldAddr rfl fa76_0 rfl) ?_
      refine WY_val rfl rfl rfl rfl (R_load rfl sc3 rfl (mmD) rfl) ?_
      refine WY_val rfl rfl rfl rfl (R_move rfl rfl) ?_
      refine WY_val rfl rfl rfl rfl (R_move rfl rfl) ?_
      refine WY_do rfl rfl rfl rfl (D_call (clone_any hr hbl hrn) rfl rfl rfl rfl (pqD)) ?_
      rintro _ _ ⟨_, ⟨o8, c8, tl8, rfl, own8, rfl⟩, rfl⟩
      refine ⟨⟨_, pqD⟩, .inr (.cons (mmD) rfl .nil), ?_⟩
      refine WY_val rfl rfl rfl rfl (R_build rfl zv64 pl64 rfl rfl) ?_
      refine WY_do rfl rfl rfl rfl (D_buildSlice rfl si38 rfl rfl rfl) ?_
      rintro _ _ ⟨b5, rfl, rfl⟩
      refine ⟨⟨_, pqD⟩, .inr (.cons (mmD) rfl .nil), ?_⟩
      refine WY_do rfl rfl rfl rfl (D_appendS rfl si38 rfl hE plD rfl mmD (atZ : At _ 0 [_, _, _]) rfl rfl (by decide) (by omega) (by omega)) ?_
      rintro _ _ ⟨obS, kS, cS, preS, tlS, rfl, ownS, rfl⟩
      refine ⟨⟨_, pqD⟩, .inr (.cons (mmD) rfl .nil), ?_⟩
      rw [show u.rs.flatMap encRs ++ [Value.int .i64 (cc.id : Int), .int .i64 code, slV o8 body.length c8] = (u.rs ++ [(⟨(cc.id : Int), code, body, o8, c8, tl8⟩ : Rs)]).flatMap encRs from by simp, show u.rs.length + 1 = (u.rs ++ [(⟨(cc.id : Int), code, body, o8, c8, tl8⟩ : Rs)]).length from by simp] at ownS ⊢
      refine WY_val rfl rfl rfl rfl (R_nilCheck rfl rfl) ?_
      refine WY_val rfl rfl rfl rfl (R_fieldAddr rfl fa40_3 rfl) ?_
      refine WY_do0 rfl rfl rfl (D_store (vs := [_]) rfl Tryz.sizeOf38 rfl rfl rfl rfl rfl (plD) (by exact Nat.le_of_ble_eq_true rfl)) ?_
      rintro _ _ rfl
      refine ⟨⟨_, pqD⟩, .inl rfl, ?_⟩
      refine WY_nil ?_
      refine WQ_code ?_
      refine WC_region ?_
      refine WL_val rfl rfl rfl (R_add rfl rfl rfl (by omega)) ?_
      refine WL_val rfl rfl rfl (R_move rfl rfl) ?_
      refine WL_nil ?_
      refine WQshp (A := rsE (⟨(cc.id : Int), code, body, o8, c8, tl8⟩ : Rs) :: rsH u.ns) (A' := rsH (u.ns ++ [(⟨(cc.id : Int), code, body, o8, c8, tl8⟩ : Rs)])) pqD rsH_perm ?_
      refine WQ_nextF (⟨u.k + 1, u.ns ++ [⟨(cc.id : Int), code, body, o8, c8, tl8⟩], u.rs ++ [⟨(cc.id : Int), code, body, o8, c8, tl8⟩], obS, kS, cS, preS, tlS⟩) (⟨by dsimp only; omega, ex_step hc hns _ rfl, rs_snoc hrs own8, ownS, by dsimp only; rw [hre, List.append_assoc]⟩) (by dsimp only; omega) leZ (psZ) rfl (pqD)
    · have huw : u.k = W.length := by omega
      rw [huw, List.take_length] at hns
      rw [hl2e] at ho2 ⊢
      rw [hre] at hE ⊢
      refine WC_exit ?_
      refine WQ_code ?_
      refine WC_seq ?_
      refine WC_region ?_
      refine WL_val rfl rfl rfl (R_move rfl rfl) ?_
      refine WL_val rfl rfl rfl (R_assign rfl rfl) ?_
      refine WL_nil ?_
      refine WQ_code ?_
      refine WC_ret ?_
      refine WQ_ret rfl rfl (.cons (.tmp rfl) .nil) rfl (by
          exact ⟨y.o2, y.c2, y.t2, u.eb, u.ek, u.ec, u.epre, u.etl, u.ns, y.o1, y.c1, y.t1, W, hl1e, rfl, hWo, hns, hrs, ho2, hE, rfl⟩) (pqD)
def caLt (a b : Ca) : Prop := a.dl < b.dl ∨ (a.dl = b.dl ∧ a.id < b.id)
/-- What SortFunc does here (shown in RpSrt). -/
def CSortOk : Prop := ∀ (l : List Ca), l.length ≤ 1000000 → ∀ (ob : Option Nat) (c : Nat) (tl : List Value), Own ob l.length c 2 (l.flatMap encC) tl → Spec Tryz.prog 58 [slV ob l.length c, .func (.func 59) #[] #[]] [⟨ob, cl (l.flatMap encC ++ tl) 76⟩]
    (fun r H' => ∃ l' : List Ca, r = .tuple #[] ∧ l'.Perm l ∧ l'.Pairwise (fun a b => ¬ caLt b a) ∧ H' = [⟨ob, cl (l'.flatMap encC ++ tl) 76⟩])
theorem end_time (hsort : CSortOk) (p : Nat) (a0 a1 a2 a3 a4 a5 a8 : Value) {calls : List Ca} {res : List Rs} {cb : Option Nat} {ccp : Nat} {ctl : List Value} {eb : Option Nat} {ek ec : Nat} {epre etl : List Value} (hC : Own cb calls.length ccp 2 (calls.flatMap encC) ctl) (hE0 : OwnS eb ek res.length ec 3 epre (res.flatMap encRs) etl) (hbc : calls.length ≤ 32) (hbr : res.length ≤ 100000) (code : Int) {body : Bs} {oa : Option Addr} {ent : Ent} {c0 : Nat} (hr : RdB oa ent body) (hrn : oa = none → c0 = 0) (hbl : body.length ≤ 1000000) (q : Ca → Bool) (pf : Nat) (pca : List Value) (PH : Heap) (hq : ∀ c, Spec Tryz.prog pf ([caV c] ++ pca) PH (fun r H' => r = .bool (q c) ∧ H' = PH)) (hcode : code = 12) : Spec Tryz.prog 41 [ptrC p, .int .i64 code, .slice oa body.length c0, .func (.func pf) #[] pca.toArray] ([⟨some p, cl [a0, a1, a2, a3, a4, a5, slV cb calls.length ccp, sVal eb ek res.length ec, a8] 40⟩, ⟨cb, cl (calls.flatMap encC ++ ctl) 76⟩, ⟨eb, cl (epre ++ (res.flatMap encRs ++ etl)) 64⟩] ++ [ent] ++ PH) (fun r H' => ∃ cb' cc' ctl' eb' ek' ec' epre' etl' ns o c1 tl, ∃ W : List Ca, (W.Perm (calls.filter q) ∧ W.Pairwise (fun a b => ¬ caLt b a)) ∧ r = slV o W.length c1 ∧ Own o W.length c1 2 (W.flatMap encC) tl ∧ ns.map Rs.v = W.map (fun c => (⟨(c.id : Int), code, body⟩ : Res)) ∧ (∀ r ∈ ns, rsOk r) ∧ Own cb' (calls.filter (nq q)).length cc' 2 ((calls.filter (nq q)).flatMap encC) ctl' ∧ OwnS eb' ek' (res ++ ns).length ec' 3 epre' ((res ++ ns).flatMap encRs) etl' ∧ H' = [⟨some p, cl [a0, a1, a2, a3, a4, a5, slV cb' (calls.filter (nq q)).length cc', sVal eb' ek' (res ++ ns).length ec', a8] 40⟩, ⟨cb', cl ((calls.filter (nq q)).flatMap encC ++ ctl') 76⟩, ⟨eb', cl (epre' ++ ((res ++ ns).flatMap encRs ++ etl')) 64⟩] ++ rsH ns ++ [⟨o, cl (W.flatMap encC ++ tl) 76⟩] ++ [ent] ++ PH) := by
  refine Spec.of (E := [(0, ptrC p), (1, .int .i64 code), (2, .slice oa body.length c0), (3, .func (.func pf) #[] pca.toArray)]) Tryz.func41 rfl (by kernel_rfl) Tryz.ntmps41 rfl rfl (fun w => ?_)
  refine WC_seq ?_
  refine WC_region ?_
  refine WL_val rfl rfl rfl (R_assign rfl rfl) ?_
  refine WL_nil ?_
  refine WQ_code ?_
  refine WC_seq ?_
  refine WC_region ?_
  refine WL_val rfl rfl rfl (R_assign rfl rfl) ?_
  refine WL_val rfl rfl rfl (R_assign rfl rfl) ?_
  refine WL_nil ?_
  refine WQ_code ?_
  refine WC_seq ?_
  refine WC_seq ?_
  refine WC_region ?_
  refine WL_val rfl rfl rfl (R_move rfl rfl) ?_
  refine WL_val rfl rfl rfl (R_nilCheck rfl rfl) ?_
  refine WL_val rfl rfl rfl (R_fieldAddr rfl fa40_2 rfl) ?_
  refine WL_val rfl rfl rfl (R_load rfl sc37 rfl (mmD) rfl) ?_
  refine WL_val rfl rfl rfl (R_len rfl Tryz.underlying37 rfl) ?_
  refine WL_val rfl rfl rfl (R_move rfl rfl) ?_
  refine WL_nil ?_
  refine WQ_code ?_
  refine WC_block ?_
  refine WC_none 76 ?_
  refine WC_none 76 ?_
  refine WC_loopF (G := EnW) [9, 10, 12, 20, 21, 22, 23, 24, 25, 26, 27, 28, 29, 30, 31, 32, 33, 34, 35] (fun y => y.k ≤ calls.length ∧ y.l1 = (calls.take y.k).filter q ∧ y.l2 = (calls.take y.k).filter (nq q) ∧ Own y.o1 y.l1.length y.c1 2 (y.l1.flatMap encC) y.t1 ∧ Own y.o2 y.l2.length y.c2 2 (y.l2.flatMap encC) y.t2) (fun y => [(20, .int .i64 (y.k : Int)), (9, slV y.o1 y.l1.length y.c1), (10, slV y.o2 y.l2.length y.c2)]) (fun y => [⟨y.o1, cl (y.l1.flatMap encC ++ y.t1) 76⟩, ⟨y.o2, cl (y.l2.flatMap encC ++ y.t2) 76⟩]) (fun y => calls.length - y.k) (⟨0, none, 0, [], none, 0, [], [], []⟩) (⟨Nat.zero_le _, rfl, rfl, Own.empty 2, Own.empty 2⟩) leZ (pqD) ?_
  rintro y ⟨hk, hl1, hl2, ho1, ho2⟩
  refine WC_seq ?_
  refine WC_region ?_
  refine WL_val rfl rfl rfl (R_lss rfl rfl rfl) ?_
  refine WL_nil ?_
  refine WQ_code ?_
  refine WC_seq ?_
  refine WC_dec rfl (fun c1 => ?_) (fun c1 => ?_)
  · refine WC_skip ?_
    refine WQ_code ?_
    refine WC_seq ?_
    refine WC_block ?_
    refine WC_seq ?_
    refine WC_region ?_
    obtain ⟨cc, hc⟩ := getE (T := calls) (i := y.k) (by omega)
    obtain ⟨wb, hcb⟩ := hC.some_of (by omega)
    have hle1 := flt_le q calls y.k
    have hle2 := flt_le (nq q) calls y.k
    rw [← hl1] at hle1
    rw [← hl2] at hle2
    refine WL_val rfl rfl rfl (R_idxO hcb rfl Tryz.underlying37 Tryz.sizeOf76 rfl rfl (by omega)) ?_
    refine WL_val rfl rfl rfl (R_loadAO (vs := encC cc) hcb rfl ag76 rfl (mmD) rfl (fm_at0 encC2 hc (j := 0) (vs := encC cc) (fun j v h => by rw [Nat.zero_add]; exact h) (Nat.le_refl _))) ?_
    refine WL_do rfl rfl rfl (D_alloc rfl zv76) ?_
    rintro _ _ ⟨b1, rfl, rfl⟩
    refine WL_do0 rfl rfl (D_store (vs := [_, _]) rfl Tryz.sizeOf76 rfl rfl rfl rfl rfl (plD) (by exact Nat.le_of_ble_eq_true rfl)) ?_
    rintro _ _ rfl
    refine WL_nil ?_
    refine WQ_code ?_
    refine WC_seq ?_
    refine WC_region ?_
    refine WL_val rfl rfl rfl (R_move rfl rfl) ?_
    refine WL_val rfl rfl rfl (R_loadA (vs := [_, _]) rfl ag76 rfl (mmD) rfl (atZ)) ?_
    refine WL_do rfl rfl rfl (D_call (hq cc) rfl rfl rfl rfl (pqD)) ?_
    rintro _ _ ⟨_, ⟨rfl, rfl⟩, rfl⟩
    refine WL_nil ?_
    refine WQ_code ?_
    refine WC_if rfl (fun c2 => ?_) (fun c2 => ?_)
    · have hcq := c2
      refine WC_region ?_
      refine WL_val rfl rfl rfl (R_move rfl rfl) ?_
      refine WL_val rfl rfl rfl (R_loadA (vs := [_, _]) rfl ag76 rfl (mmD) rfl (atZ)) ?_
      refine WL_do rfl rfl rfl (D_buildSlice rfl si37 rfl rfl rfl) ?_
      rintro _ _ ⟨b2, rfl, rfl⟩
      refine WL_do rfl rfl rfl (D_append rfl si37 rfl ho1 plD rfl mmD (atZ : At _ 0 [_, _]) rfl rfl (by omega) (by omega)) ?_
      rintro _ _ ⟨ob9, c9, tl9, rfl, own9, rfl⟩
      rw [show y.l1.flatMap encC ++ [Value.int .i64 (cc.id : Int), .int .u64 (cc.dl : Int)] = (y.l1 ++ [cc]).flatMap encC from by simp, show y.l1.length + 1 = (y.l1 ++ [cc]).length from by simp] at own9
      rw [show y.l1.flatMap encC ++ [Value.int .i64 (cc.id : Int), .int .u64 (cc.dl : Int)] = (y.l1 ++ [cc]).flatMap encC from by simp]
      refine WL_set (s := 30) (v := slV ob9 (y.l1 ++ [cc]).length c9) rfl (by rw [List.length_append]; rfl) ?_
      refine WL_val rfl rfl rfl (R_assign rfl rfl) ?_
      refine WL_nil ?_
      refine WQ_code ?_
      refine WC_region ?_
      refine WL_val rfl rfl rfl (R_add rfl rfl rfl (by omega)) ?_
      refine WL_val rfl rfl rfl (R_move rfl rfl) ?_
      refine WL_nil ?_
      refine WQ_nextF (⟨y.k + 1, ob9, c9, tl9, y.o2, y.c2, y.t2, y.l1 ++ [cc], y.l2⟩) (⟨by dsimp only; omega, by dsimp only; rw [flt_snoc hc, ← hl1, hcq]; rfl, by dsimp only; rw [flt_snoc hc, ← hl2]; simp [nq, hcq], own9, ho2⟩) (by dsimp only; omega) leZ (psZ) rfl (pqD)
    · have hcq := c2
      refine WC_region ?_
      refine WL_val rfl rfl rfl (R_move rfl rfl) ?_
      refine WL_val rfl rfl rfl (R_loadA (vs := [_, _]) rfl ag76 rfl (mmD) rfl (atZ)) ?_
      refine WL_do rfl rfl rfl (D_buildSlice rfl si37 rfl rfl rfl) ?_
      rintro _ _ ⟨b3, rfl, rfl⟩
      refine WL_do rfl rfl rfl (D_append rfl si37 rfl ho2 plD rfl mmD (atZ : At _ 0 [_, _]) rfl rfl (by omega) (by omega)) ?_
      rintro _ _ ⟨ob9, c9, tl9, rfl, own9, rfl⟩
      rw [show y.l2.flatMap encC ++ [Value.int .i64 (cc.id : Int), .int .u64 (cc.dl : Int)] = (y.l2 ++ [cc]).flatMap encC from by simp, show y.l2.length + 1 = (y.l2 ++ [cc]).length from by simp] at own9
      rw [show y.l2.flatMap encC ++ [Value.int .i64 (cc.id : Int), .int .u64 (cc.dl : Int)] = (y.l2 ++ [cc]).flatMap encC from by simp]
      refine WL_set (s := 34) (v := slV ob9 (y.l2 ++ [cc]).length c9) rfl (by rw [List.length_append]; rfl) ?_
      refine WL_val rfl rfl rfl (R_assign rfl rfl) ?_
      refine WL_nil ?_
      refine WQ_code ?_
      refine WC_region ?_
      refine WL_val rfl rfl rfl (R_add rfl rfl rfl (by omega)) ?_
      refine WL_val rfl rfl rfl (R_move rfl rfl) ?_
      refine WL_nil ?_
      refine WQ_nextF (⟨y.k + 1, y.o1, y.c1, y.t1, ob9, c9, tl9, y.l1, y.l2 ++ [cc]⟩) (⟨by dsimp only; omega, by dsimp only; rw [flt_snoc hc, ← hl1, hcq]; simp, by dsimp only; rw [flt_snoc hc, ← hl2]; simp [nq, hcq], ho1, own9⟩) (by dsimp only; omega) leZ (psZ) rfl (pqD)
  · have hkl : y.k = calls.length := by omega
    have hl1e : y.l1 = calls.filter q := by rw [hl1, hkl, List.take_length]
    have hl2e : y.l2 = calls.filter (nq q) := by rw [hl2, hkl, List.take_length]
    have hWl : y.l1.length ≤ 32 := Nat.le_trans (by rw [hl1e]; exact List.length_filter_le ..) hbc
    refine WC_exit ?_
    refine WQ_code ?_
    refine WC_seq ?_
    refine WC_region ?_
    refine WL_val rfl rfl rfl (R_move rfl rfl) ?_
    refine WL_val rfl rfl rfl (R_move rfl rfl) ?_
    refine WL_val rfl rfl rfl (R_nilCheck rfl rfl) ?_
    refine WL_val rfl rfl rfl (R_fieldAddr rfl fa40_2 rfl) ?_
    refine WL_do0 rfl rfl (D_store (vs := [_]) rfl Tryz.sizeOf37 rfl rfl rfl rfl rfl (plD) (by exact Nat.le_of_ble_eq_true rfl)) ?_
    rintro _ _ rfl
    refine WL_nil ?_
    refine WQ_code ?_
    refine WC_seq ?_
    refine WC_seq ?_
    refine WC_region ?_
    refine WL_val rfl rfl rfl (R_move rfl rfl) ?_
    refine WL_val rfl rfl rfl (R_eql rfl rfl rfl) ?_
    refine WL_nil ?_
    refine WQ_code ?_
    refine WC_dT rfl (by exact hcode) ?_
    refine WC_region ?_
    refine WL_val rfl rfl rfl (R_move rfl rfl) ?_
    refine WL_do rfl rfl rfl (D_call (hsort y.l1 (by omega) y.o1 y.c1 y.t1 ho1) rfl rfl rfl rfl (pqD)) ?_
    rintro _ _ ⟨_, ⟨W, rfl, hWp, hWs, rfl⟩, rfl⟩
    have hWl2 := hWp.length_eq
    rw [← hWl2] at hWl
    have hWo : Own y.o1 W.length y.c1 2 (W.flatMap encC) y.t1 := ⟨by rw [fm_length encC2], by have h8 := ho1.cap; rw [fm_length encC2] at h8 ⊢; rw [hWl2]; exact h8, by rw [hWl2]; exact ho1.le, ho1.big, ho1.nil⟩
    refine WL_set (s := 9) (v := slV y.o1 W.length y.c1) rfl (by rw [hWl2]) ?_
    refine WL_nil ?_
    refine WQ_code ?_
    refine WC_seq ?_
    refine WC_seq ?_
    refine WC_region ?_
    refine WL_val rfl rfl rfl (R_move rfl rfl) ?_
    refine WL_val rfl rfl rfl (R_len rfl Tryz.underlying37 rfl) ?_
    refine WL_val rfl rfl rfl (R_move rfl rfl) ?_
    refine WL_nil ?_
    refine WQ_code ?_
    refine WC_block ?_
    refine WC_loopF (G := ExW) [14, 46, 47, 48, 49, 50, 51, 52, 53, 54, 55, 56, 57, 58, 59, 60, 61, 62, 63, 64, 65] (fun u => u.k ≤ W.length ∧ u.ns.map Rs.v = (W.take u.k).map (fun c => (⟨(c.id : Int), code, body⟩ : Res)) ∧ (∀ r ∈ u.ns, rsOk r) ∧ OwnS u.eb u.ek u.rs.length u.ec 3 u.epre (u.rs.flatMap encRs) u.etl ∧ u.rs = res ++ u.ns) (fun u => [(46, .int .i64 (u.k : Int))]) (fun u => [⟨some p, cl [a0, a1, a2, a3, a4, a5, slV y.o2 y.l2.length y.c2, sVal u.eb u.ek u.rs.length u.ec, a8] 40⟩, ⟨u.eb, cl (u.epre ++ (u.rs.flatMap encRs ++ u.etl)) 64⟩] ++ rsH u.ns) (fun u => W.length - u.k) (⟨0, [], res, eb, ek, ec, epre, etl⟩) (⟨Nat.zero_le _, rfl, (fun r hr => by cases hr), hE0, (List.append_nil _).symm⟩) leZ (pqD) ?_
    rintro u ⟨huk, hns, hrs, hE, hre⟩
    refine WC_seq ?_
    refine WC_region ?_
    refine WL_val rfl rfl rfl (R_lss rfl rfl rfl) ?_
    refine WL_nil ?_
    refine WQ_code ?_
    refine WC_seq ?_
    refine WC_dec rfl (fun c3 => ?_) (fun c3 => ?_)
    · refine WC_skip ?_
      refine WQ_code ?_
      refine WC_seq ?_
      refine WC_block ?_
      refine WC_seq ?_
      refine WC_region ?_
      obtain ⟨cc, hc⟩ := getE (T := W) (i := u.k) (by omega)
      obtain ⟨wb, hcw⟩ := hWo.some_of (by omega)
      have hnl := ex_len huk hns
      have hrl : u.rs.length = res.length + u.ns.length := by rw [hre, List.length_append]
      refine WL_val rfl rfl rfl (R_idxO hcw rfl Tryz.underlying37 Tryz.sizeOf76 rfl rfl (by omega)) ?_
      refine WL_val rfl rfl rfl (R_loadAO (vs := encC cc) hcw rfl ag76 rfl (mmD) rfl (fm_at0 encC2 hc (j := 0) (vs := encC cc) (fun j v h => by rw [Nat.zero_add]; exact h) (Nat.le_refl _))) ?_
      refine WL_do rfl rfl rfl (D_alloc rfl zv76) ?_
      rintro _ _ ⟨b4, rfl, rfl⟩
      refine WL_do0 rfl rfl (D_store (vs := [_, _]) rfl Tryz.sizeOf76 rfl rfl rfl rfl rfl (plD) (by exact Nat.le_of_ble_eq_true rfl)) ?_
      rintro _ _ rfl
      refine WL_nil ?_
      refine WQ_code ?_
      refine WC_drawY (⟨some p, _⟩ :: [⟨u.eb, _⟩]) [(p, 7, sVal u.eb u.ek u.rs.length u.ec)] [15] [(0, false), (1, false), (2, false), (3, false), (4, true)] [(5, true), (6, true), (7, true), (8, true), (9, false), (10, true), (11, false), (12, false), (13, true), (14, true), (15, false)] followsMixed rfl rfl (by kernel_rfl) (pqD) (.cons (mmD) rfl .nil) ?_
      refine WYE_val rfl rfl rfl rfl (R_move rfl rfl) ?_
      refine WYE_val rfl rfl rfl rfl (R_move rfl rfl) ?_
      refine WYE_val rfl rfl rfl rfl (R_nilCheck rfl rfl) ?_
      refine WYE_val rfl rfl rfl rfl (R_fieldAddr rfl fa40_3 rfl) ?_
      refine WYE_early rfl rfl rfl rfl rfl sc38 rfl (by repeat (first | exact List.Mem.head _ | refine List.Mem.tail _ ?_)) ?_
      refine WYE_rest ?_
      refine WY_val rfl rfl rfl rfl (R_fieldAddr rfl fa76_0 rfl) ?_
      refine WY_val rfl rfl rfl rfl (R_load rfl sc3 rfl (mmD) rfl) ?_
      refine WY_val rfl rfl rfl rfl (R_move rfl rfl) ?_
      refine WY_val rfl rfl rfl rfl (R_move rfl rfl) ?_
      refine WY_do rfl rfl rfl rfl (D_call (clone_any hr hbl hrn) rfl rfl rfl rfl (pqD)) ?_
      rintro _ _ ⟨_, ⟨o8, c8, tl8, rfl, own8, rfl⟩, rfl⟩
      refine ⟨⟨_, pqD⟩, .inr (.cons (mmD) rfl .nil), ?_⟩
      refine WY_val rfl rfl rfl rfl (R_build rfl zv64 pl64 rfl rfl) ?_
      refine WY_do rfl rfl rfl rfl (D_buildSlice rfl si38 rfl rfl rfl) ?_
      rintro _ _ ⟨b5, rfl, rfl⟩
      refine ⟨⟨_, pqD⟩, .inr (.cons (mmD) rfl .nil), ?_⟩
      refine WY_do rfl rfl rfl rfl (D_appendS rfl si38 rfl hE plD rfl mmD (atZ : At _ 0 [_, _, _]) rfl rfl (by decide) (by omega) (by omega)) ?_
      rintro _ _ ⟨obS, kS, cS, preS, tlS, rfl, ownS, rfl⟩
      refine ⟨⟨_, pqD⟩, .inr (.cons (mmD) rfl .nil), ?_⟩
      rw [show u.rs.flatMap encRs ++ [Value.int .i64 (cc.id : Int), .int .i64 code, slV o8 body.length c8] = (u.rs ++ [(⟨(cc.id : Int), code, body, o8, c8, tl8⟩ : Rs)]).flatMap encRs from by simp, show u.rs.length + 1 = (u.rs ++ [(⟨(cc.id : Int), code, body, o8, c8, tl8⟩ : Rs)]).length from by simp] at ownS ⊢
      refine WY_val rfl rfl rfl rfl (R_nilCheck rfl rfl) ?_
      refine WY_val rfl rfl rfl rfl (R_fieldAddr rfl fa40_3 rfl) ?_
      refine WY_do0 rfl rfl rfl (D_store (vs := [_]) rfl Tryz.sizeOf38 rfl rfl rfl rfl rfl (plD) (by exact Nat.le_of_ble_eq_true rfl)) ?_
      rintro _ _ rfl
      refine ⟨⟨_, pqD⟩, .inl rfl, ?_⟩
      refine WY_nil ?_
      refine WQ_code ?_
      refine WC_region ?_
      refine WL_val rfl rfl rfl (R_add rfl rfl rfl (by omega)) ?_
      refine WL_val rfl rfl rfl (R_move rfl rfl) ?_
      refine WL_nil ?_
      refine WQshp (A := rsE (⟨(cc.id : Int), code, body, o8, c8, tl8⟩ : Rs) :: rsH u.ns) (A' := rsH (u.ns ++ [(⟨(cc.id : Int), code, body, o8, c8, tl8⟩ : Rs)])) pqD rsH_perm ?_
      refine WQ_nextF (⟨u.k + 1, u.ns ++ [⟨(cc.id : Int), code, body, o8, c8, tl8⟩], u.rs ++ [⟨(cc.id : Int), code, body, o8, c8, tl8⟩], obS, kS, cS, preS, tlS⟩) (⟨by dsimp only; omega, ex_step hc hns _ rfl, rs_snoc hrs own8, ownS, by dsimp only; rw [hre, List.append_assoc]⟩) (by dsimp only; omega) leZ (psZ) rfl (pqD)
    · have huw : u.k = W.length := by omega
      rw [huw, List.take_length] at hns
      rw [hl2e] at ho2 ⊢
      rw [hre] at hE ⊢
      refine WC_exit ?_
      refine WQ_code ?_
      refine WC_seq ?_
      refine WC_region ?_
      refine WL_val rfl rfl rfl (R_move rfl rfl) ?_
      refine WL_val rfl rfl rfl (R_assign rfl rfl) ?_
      refine WL_nil ?_
      refine WQ_code ?_
      refine WC_ret ?_
      refine WQ_ret rfl rfl (.cons (.tmp rfl) .nil) rfl (by
          exact ⟨y.o2, y.c2, y.t2, u.eb, u.ek, u.ec, u.epre, u.etl, u.ns, y.o1, y.c1, y.t1, W, ⟨hl1e ▸ hWp, hWs⟩, rfl, hWo, hns, hrs, ho2, hE, rfl⟩) (pqD)
end Go.Proofs.YtkcfgglmlogjbaaGreat
end
section
set_option linter.unusedVariables false
set_option maxRecDepth 20000
namespace Go.Proofs.YtkcfgglmlogjbaaGreat
instance : DecidableRel caLt := fun a b => by unfold caLt; exact inferInstance
def insC (c : Ca) : List Ca → List Ca
  | [] => [c]
  | d :: r => if caLt d c then d :: insC c r else c :: d :: r
def srtC : List Ca → List Ca
  | [] => []
  | c :: r => insC c (srtC r)
theorem insC_perm (c : Ca) : ∀ l, (insC c l).Perm (c :: l)
  | [] => .refl _
  | d :: r => by
    unfold insC
    split
    · exact ((insC_perm c r).cons d).trans (.swap ..)
    · exact .refl _
theorem srtC_perm : ∀ l, (srtC l).Perm l
  | [] => .refl _
  | c :: r => (insC_perm c _).trans ((srtC_perm r).cons c)
theorem caLt_tr {a b c : Ca} (h : caLt a b) (h2 : caLt b c) : caLt a c := by unfold caLt at *; omega
theorem caLt_asym {a b : Ca} (h : caLt a b) : ¬ caLt b a := by unfold caLt at *; omega
theorem caLt_ng {a b c : Ca} (h : ¬ caLt b a) (h2 : ¬ caLt c b) : ¬ caLt c a := by unfold caLt at *; omega
theorem caLt_eq {a b : Ca} (h : ¬ caLt a b) (h2 : ¬ caLt b a) : a = b := by
  obtain ⟨i, d⟩ := a; obtain ⟨j, e⟩ := b
  unfold caLt at *
  simp only at *
  have h1 : i = j := by omega
  have h3 : d = e := by omega
  rw [h1, h3]
theorem insC_pw (c : Ca) : ∀ l : List Ca, l.Pairwise (fun a b => ¬ caLt b a) → (insC c l).Pairwise (fun a b => ¬ caLt b a)
  | [], _ => List.pairwise_singleton ..
  | d :: r, h => by
    obtain ⟨h1, h2⟩ := List.pairwise_cons.1 h
    unfold insC
    split
    · rename_i hd
      refine List.pairwise_cons.2 ⟨fun b hb => ?_, insC_pw c r h2⟩
      rcases List.mem_cons.1 ((insC_perm c r).mem_iff.1 hb) with rfl | hb
      · exact caLt_asym hd
      · exact h1 b hb
    · rename_i hd
      refine List.pairwise_cons.2 ⟨fun b hb => ?_, h⟩
      rcases List.mem_cons.1 hb with rfl | hb
      · exact hd
      · exact caLt_ng hd (h1 b hb)
theorem srtC_pw : ∀ l, (srtC l).Pairwise (fun a b => ¬ caLt b a)
  | [] => .nil
  | c :: r => insC_pw c _ (srtC_pw r)
theorem srt_one : ∀ {a b : List Ca}, a.Perm b → a.Pairwise (fun a b => ¬ caLt b a) → b.Pairwise (fun a b => ¬ caLt b a) → a = b
  | [], b, h, _, _ => (List.Perm.nil_eq h)
  | x :: a, [], h, _, _ => absurd h.length_eq (by simp)
  | x :: a, y :: b, h, h1, h2 => by
    obtain ⟨h1a, h1b⟩ := List.pairwise_cons.1 h1
    obtain ⟨h2a, h2b⟩ := List.pairwise_cons.1 h2
    have e : x = y := by
      have hx : x ∈ y :: b := h.mem_iff.1 (by simp)
      have hy : y ∈ x :: a := h.mem_iff.2 (by simp)
      rcases List.mem_cons.1 hx with g | g
      · exact g
      · rcases List.mem_cons.1 hy with g2 | g2
        · exact g2.symm
        · exact caLt_eq (h2a x g) (h1a y g2)
    subst e
    rw [srt_one (List.Perm.cons_inv h) h1b h2b]
def overC (q : Ca → Bool) (code : Int) (l : List Ca) : List Ca := if code = 12 then srtC (l.filter q) else l.filter q
theorem overC_perm (q : Ca → Bool) (code : Int) (l : List Ca) : (overC q code l).Perm (l.filter q) := by
  unfold overC; split
  · exact srtC_perm _
  · exact .refl _
structure PC where
  out : Bs
  bs : Bs
  rb : Int
  last : Nat
  br : Int
  now : Nat
  calls : List Ca
  res : List Res
  closed : Bool
deriving DecidableEq
def Cl.v (x : Cl) : PC := ⟨x.s.out, x.s.bs, x.s.rb, x.s.last, x.s.br, x.now, x.calls, x.res.map Rs.v, x.closed⟩
def isId (id : Int) (c : Ca) : Bool := decide ((c.id : Int) = id)
def PC.endW (x : PC) (q : Ca → Bool) (code : Int) (body : Bs) : PC := { x with calls := x.calls.filter (nq q), res := x.res ++ (overC q code x.calls).map fun c => ⟨(c.id : Int), code, body⟩ }
def PC.call (x : PC) (body : Bs) (dl : Nat) : PC × Int × Int :=
  if dl ≤ x.now then (x, 0, 2) else if x.closed = true ∨ x.br ≠ 0 then (x, 0, 8) else if 1012 < body.length then (x, 0, 5) else if 32 ≤ x.calls.length ∨ 65536 < x.out.length then (x, 0, 7)
  else ({ x with last := x.last + 1, calls := x.calls ++ [⟨x.last + 1, dl⟩], out := x.out ++ encF 16 (bigB (x.last + 1) 4 ++ (bigB dl 8 ++ body)) }, ((x.last + 1 : Nat) : Int), 0)
def allQ (_ : Ca) : Bool := true
def PC.close (x : PC) : PC × Int := if x.closed = true ∨ x.br ≠ 0 then (x, 8) else (({ x with closed := true } : PC).endW allQ 14 [], 0)
def PC.next (x : PC) : PC × Option Res := match x.res with
  | [] => (x, none)
  | r :: l => ({ x with res := l }, some r)
def PC.take (x : PC) (n : Int) : PC × Bs × Int := if n < 0 ∨ 65536 < n then (x, [], 2) else ({ x with out := x.out.drop n.toNat }, x.out.take n.toNat, 0)
def PC.step (x : PC) (k : UInt8) (body : Bs) : PC × Int :=
  if ¬ (k = 17 ∧ 6 ≤ body.length) then (x, 6) else if ¬ (0 < valB (body.take 4) ∧ valB (body.take 4) ≤ x.last) then (x, 10)
  else (x.endW (isId (valB (body.take 4) : Int)) (valB ((body.drop 4).take 2) : Int) (body.drop 6), 0)
def PC.recv (x : PC) (b : Bs) : PC × Int :=
  if x.closed = true ∨ x.br ≠ 0 then (x, 8) else if 65536 < x.bs.length + b.length then (x, 7)
  else
    let R := rcvN PC.step (x.bs.length + b.length + 1) { x with bs := [] } (x.bs ++ b)
    let y : PC := { R.1 with bs := R.2.1, rb := R.2.2.1, br := R.2.2.2 }
    (if R.2.2.2 = 0 then y else y.endW allQ 14 [], R.2.2.2)
/-- What is kept between the calls (the numbers are small). -/
structure PCB (x : PC) : Prop where
  out : x.out.length ≤ 200000
  bs : x.bs.length ≤ 65536
  last : x.last ≤ 1000000
  calls : x.calls.length ≤ 32
  res : x.calls.length + x.res.length ≤ 100000
  now : x.now ≤ 18446744073709551615
  dl : ∀ c ∈ x.calls, c.dl ≤ 18446744073709551615
  ids : ∀ c ∈ x.calls, c.id ≤ 1000000
  rb : x.br = 0 → x.rb = 0
theorem PCB.cl {x : Cl} (h : PCB x.v) : ClB x := ⟨h.out, h.bs, h.last, h.calls, by have := h.res; simp only [Cl.v, List.length_map] at this; exact this, h.now, h.dl, h.ids, h.rb⟩
def CPost (p : Nat) (P : PC × Value) (r : Value) (H' : Heap) : Prop := ∃ m' x', m'.p = p ∧ ClIs m' x' ∧ x'.v = P.1 ∧ r = P.2 ∧ H' = clH m' x'
end Go.Proofs.YtkcfgglmlogjbaaGreat
end
section
set_option linter.unusedVariables false
set_option maxRecDepth 20000
set_option maxHeartbeats 1000000
namespace Go.Proofs.YtkcfgglmlogjbaaGreat
theorem endA_ok (hsort : CSortOk) (p : Nat) (a0 a1 a2 a3 a4 a5 a8 : Value) {calls : List Ca} {res : List Rs} {cb : Option Nat} {ccp : Nat} {ctl : List Value} {eb : Option Nat} {ek ec : Nat} {epre etl : List Value} (hC : Own cb calls.length ccp 2 (calls.flatMap encC) ctl) (hE0 : OwnS eb ek res.length ec 3 epre (res.flatMap encRs) etl) (hbc : calls.length ≤ 32) (hbr : res.length ≤ 100000) (code : Int) {body : Bs} {oa : Option Addr} {ent : Ent} {c0 : Nat} (hr : RdB oa ent body) (hrn : oa = none → c0 = 0) (hbl : body.length ≤ 1000000) (q : Ca → Bool) (pf : Nat) (pca : List Value) (PH : Heap) (hq : ∀ c, Spec Tryz.prog pf ([caV c] ++ pca) PH (fun r H' => r = .bool (q c) ∧ H' = PH)) : Spec Tryz.prog 41 [ptrC p, .int .i64 code, .slice oa body.length c0, .func (.func pf) #[] pca.toArray] ([⟨some p, cl [a0, a1, a2, a3, a4, a5, slV cb calls.length ccp, sVal eb ek res.length ec, a8] 40⟩, ⟨cb, cl (calls.flatMap encC ++ ctl) 76⟩, ⟨eb, cl (epre ++ (res.flatMap encRs ++ etl)) 64⟩] ++ [ent] ++ PH) (fun r H' => ∃ cb' cc' ctl' eb' ek' ec' epre' etl' ns o c1 tl, ∃ W : List Ca, W = overC q code calls ∧ r = slV o W.length c1 ∧ Own o W.length c1 2 (W.flatMap encC) tl ∧ ns.map Rs.v = W.map (fun c => (⟨(c.id : Int), code, body⟩ : Res)) ∧ (∀ r ∈ ns, rsOk r) ∧ Own cb' (calls.filter (nq q)).length cc' 2 ((calls.filter (nq q)).flatMap encC) ctl' ∧ OwnS eb' ek' (res ++ ns).length ec' 3 epre' ((res ++ ns).flatMap encRs) etl' ∧ H' = [⟨some p, cl [a0, a1, a2, a3, a4, a5, slV cb' (calls.filter (nq q)).length cc', sVal eb' ek' (res ++ ns).length ec', a8] 40⟩, ⟨cb', cl ((calls.filter (nq q)).flatMap encC ++ ctl') 76⟩, ⟨eb', cl (epre' ++ ((res ++ ns).flatMap encRs ++ etl')) 64⟩] ++ rsH ns ++ [⟨o, cl (W.flatMap encC ++ tl) 76⟩] ++ [ent] ++ PH) := by
  by_cases hcode : code = 12
  · refine (end_time hsort p a0 a1 a2 a3 a4 a5 a8 hC hE0 hbc hbr code hr hrn hbl q pf pca PH hq hcode).mono ?_
    rintro r H' ⟨x1, x2, x3, x4, x5, x6, x7, x8, ns, o, c1, tl, W, ⟨hp, hs⟩, k⟩
    refine ⟨x1, x2, x3, x4, x5, x6, x7, x8, ns, o, c1, tl, W, ?_, k⟩
    unfold overC
    rw [if_pos hcode]
    exact srt_one (hp.trans (srtC_perm _).symm) hs (srtC_pw _)
  · refine (end_ok p a0 a1 a2 a3 a4 a5 a8 hC hE0 hbc hbr code hr hrn hbl q pf pca PH hq hcode).mono ?_
    rintro r H' ⟨x1, x2, x3, x4, x5, x6, x7, x8, ns, o, c1, tl, W, hp, k⟩
    refine ⟨x1, x2, x3, x4, x5, x6, x7, x8, ns, o, c1, tl, W, ?_, k⟩
    unfold overC
    rw [if_neg hcode]
    exact hp
end Go.Proofs.YtkcfgglmlogjbaaGreat
end
section
set_option linter.unusedVariables false
set_option maxRecDepth 20000
set_option maxHeartbeats 4000000
namespace Go.Proofs.YtkcfgglmlogjbaaGreat
theorem bad_of {x : Cl} (h : ¬ (x.closed = true ∨ x.s.br ≠ 0)) : x.closed = false ∧ x.s.br = 0 := by
  simp only [not_or, Bool.not_eq_true, Decidable.not_not] at h; exact h
end Go.Proofs.YtkcfgglmlogjbaaGreat
end
section
set_option linter.unusedVariables false
set_option maxRecDepth 20000
set_option maxHeartbeats 4000000
namespace Go.Proofs.YtkcfgglmlogjbaaGreat
theorem fr_app {P : Program} {f : FuncId} {args : List Value} {H : Heap} {post : Value → Heap → Prop} (h : Spec P f args H post) (F : Heap) : Spec P f args (H ++ F) (fun v H' => ∃ H1, post v H1 ∧ H' = H1 ++ F) :=
  ⟨h.enters, fun w hw => (h.calls w hw.left).mono fun e w' ⟨v, H', e1, p, r⟩ => ⟨v, H' ++ F, e1, ⟨H', p, rfl⟩, HW.frame (HW.start hw) (.refl _) r⟩⟩
/-- A nil block more. -/
theorem fr_none {P : Program} {f : FuncId} {args : List Value} {H : Heap} {post post' : Value → Heap → Prop} (e : TypeId) (h : Spec P f args H post) (k : ∀ v H', post v H' → ∃ H2, (⟨none, cl [] e⟩ :: H' : Heap).Perm H2 ∧ post' v H2) : Spec P f args H post' :=
  ⟨h.enters, fun w hw => (h.calls w hw).mono fun e1 w' ⟨v, H', e2, q, r⟩ => by
    obtain ⟨H2, hp, hq⟩ := k v H' q
    exact ⟨v, H2, e2, hq, (r.addNone e).perm hp⟩⟩
theorem take_any (p ty : Nat) (Z : List Value) {out : Bs} {ob : Option Nat} {k c : Nat} {pre tl : List Value} (hO : OwnS ob k out.length c 1 pre (bvs out) tl) (n : Nat) (hn : n ≤ 65536) (hout : out.length ≤ 1000000) : Spec Tryz.prog 33 [.pointer (some ⟨p, 0, none⟩), .int .i64 (n : Int)] [⟨some p, cl (sVal ob k out.length c :: Z) ty⟩, ⟨ob, cl (pre ++ (bvs out ++ tl)) 5⟩]
    (fun r H' => ∃ o c2 tl2 k' c' pre', r = .tuple #[slV o (out.take n).length c2, .int .i64 0] ∧ H' = [⟨some p, cl (sVal ob k' (out.drop n).length c' :: Z) ty⟩, ⟨ob, cl (pre' ++ (bvs (out.drop n) ++ tl)) 5⟩, ⟨o, cl (bvs (out.take n) ++ tl2) 5⟩] ∧ OwnS ob k' (out.drop n).length c' 1 pre' (bvs (out.drop n)) tl ∧ Own o (out.take n).length c2 1 (bvs (out.take n)) tl2) := by
  cases ob with
  | some b => exact take_some p ty Z hO n hn hout
  | none =>
    obtain ⟨hc, hpre⟩ := hO.nil rfl
    have hl := hO.le
    have h0 : out = [] := List.eq_nil_of_length_eq_zero (by omega)
    subst h0; subst hc; subst hpre
    have htl : tl = [] := List.eq_nil_of_length_eq_zero (by have := hO.cap; simpa using this)
    subst htl
    refine fr_none 5 (fr_app (take_none p ty Z n hn) [⟨none, cl [] 5⟩]) ?_
    rintro r H' ⟨H1, ⟨e1, e2⟩, e3⟩
    refine ⟨[⟨some p, cl (.slice none 0 0 :: Z) ty⟩, ⟨none, cl [] 5⟩, ⟨none, cl [] 5⟩], by rw [e3, e2]; exact .swap .., none, 0, [], 0, 0, [], by rw [e1, List.take_nil]; rfl, by rw [List.take_nil, List.drop_nil]; rfl, by simpa using OwnS.empty 1, by simpa using Own.empty 1⟩
theorem out_do {m : ClM} {x : Cl} (h : ClIs m x) (hb : ClB x) (n : Nat) (hn : n ≤ 65536) : Spec Tryz.prog 13 [ptrC m.p, .int .i64 (n : Int)] (clH m x) (fun r H' => ∃ o c2 tl2 m' x', m'.p = m.p ∧ ClIs m' x' ∧ x'.v = { x.v with out := x.v.out.drop n } ∧ r = .tuple #[slV o (x.v.out.take n).length c2, .int .i64 0] ∧ Own o (x.v.out.take n).length c2 1 (bvs (x.v.out.take n)) tl2 ∧ H' = clH m' x' ++ [⟨o, cl (bvs (x.v.out.take n) ++ tl2) 5⟩]) := by
  have hbo := hb.out
  refine Spec.of (E := [(0, ptrC m.p), (1, .int .i64 (n : Int))]) Tryz.func13 rfl (by kernel_rfl) Tryz.ntmps13 rfl rfl (fun w => ?_)
  refine WC_seq ?_
  refine WC_region ?_
  refine WL_val rfl rfl rfl (R_assign rfl rfl) ?_
  refine WL_val rfl rfl rfl (R_assign rfl rfl) ?_
  refine WL_nil ?_
  refine WQ_code ?_
  refine WC_seq ?_
  refine WC_seq ?_
  refine WC_region ?_
  refine WL_val rfl rfl rfl (R_move rfl rfl) ?_
  refine WL_val rfl rfl rfl (R_ptrEqNil rfl Tryz.underlying30 rfl) ?_
  refine WL_nil ?_
  refine WQ_code ?_
  refine WC_F rfl ?_
  refine WC_skip ?_
  refine WQ_code ?_
  refine WC_seq ?_
  refine WC_region ?_
  refine WL_val rfl rfl rfl (R_move rfl rfl) ?_
  refine WL_val rfl rfl rfl (R_nilCheck rfl rfl) ?_
  refine WL_val rfl rfl rfl (R_fieldAddr rfl fa40_0 rfl) ?_
  refine WL_val rfl rfl rfl (R_move rfl rfl) ?_
  refine WL_do rfl rfl rfl (D_call (take_any m.p 40 _ h.sd.oO n hn (by omega)) rfl rfl rfl rfl (pqD)) ?_
  rintro _ _ ⟨_, ⟨o9, c9, tl9, k9, c8, pre9, rfl, rfl, hO9, own9⟩, rfl⟩
  refine WL_val rfl rfl rfl (R_extract rfl rfl rfl) ?_
  refine WL_val rfl rfl rfl (R_extract rfl rfl rfl) ?_
  refine WL_val rfl rfl rfl (R_assign rfl rfl) ?_
  refine WL_val rfl rfl rfl (R_assign rfl rfl) ?_
  refine WL_nil ?_
  refine WQ_code ?_
  refine WC_ret ?_
  refine WQ_ret rfl rfl (.cons (.tmp rfl) (.cons (.tmp rfl) .nil)) rfl (by
      exact ⟨o9, c9, tl9, { m with sd := { m.sd with ok := k9, oc := c8, op := pre9 } }, { x with s := { x.s with out := x.s.out.drop n } }, rfl, ⟨⟨hO9, h.sd.iO⟩, h.cO, h.eO, h.rO⟩, rfl, rfl, own9, rfl⟩) (pqD)
theorem next_empty {m : ClM} {x : Cl} (h : ClIs m x) (hb : ClB x) (he : x.res = []) : Spec Tryz.prog 21 [ptrC m.p] (clH m x) (CPost m.p (x.v, .tuple #[.agg #[.int .i64 0, .int .i64 0, .slice none 0 0], .bool false])) := by
  refine Spec.of (E := [(0, ptrC m.p)]) Tryz.func21 rfl (by kernel_rfl) Tryz.ntmps21 rfl rfl (fun w => ?_)
  refine WC_seq ?_
  refine WC_region ?_
  refine WL_do rfl rfl rfl (D_alloc rfl zv64) ?_
  rintro _ _ ⟨b1, rfl, rfl⟩
  refine WL_val rfl rfl rfl (R_assign rfl rfl) ?_
  refine WL_nil ?_
  refine WQ_code ?_
  refine WC_seq ?_
  refine WC_seq ?_
  refine WC_region ?_
  refine WL_val rfl rfl rfl (R_move rfl rfl) ?_
  refine WL_val rfl rfl rfl (R_ptrEqNil rfl Tryz.underlying30 rfl) ?_
  refine WL_val rfl rfl rfl (R_move rfl rfl) ?_
  refine WL_val rfl rfl rfl (R_move rfl rfl) ?_
  refine WL_val rfl rfl rfl (R_nilCheck rfl rfl) ?_
  refine WL_val rfl rfl rfl (R_fieldAddr rfl fa40_3 rfl) ?_
  refine WL_val rfl rfl rfl (R_load rfl sc38 rfl (mmD) rfl) ?_
  refine WL_val rfl rfl rfl (R_len rfl Tryz.underlying38 rfl) ?_
  refine WL_val rfl rfl rfl (R_eql rfl rfl rfl) ?_
  refine WL_set (s := 12) (v := .bool true) rfl (by rw [he]; rfl) ?_
  refine WL_val rfl rfl rfl (R_pickF rfl rfl rfl) ?_
  refine WL_nil ?_
  refine WQ_code ?_
  refine WC_T rfl ?_
  refine WC_seq ?_
  refine WC_region ?_
  refine WL_val rfl rfl rfl (R_build rfl zv64 pl64 rfl rfl) ?_
  refine WL_do0 rfl rfl (D_store (vs := [_, _, _]) rfl Tryz.sizeOf64 rfl rfl rfl rfl rfl (plD) (by exact Nat.le_of_ble_eq_true rfl)) ?_
  rintro _ _ rfl
  refine WL_val rfl rfl rfl (R_assign rfl rfl) ?_
  refine WL_nil ?_
  refine WQ_code ?_
  refine WC_ret ?_
  refine WQ_ret rfl rfl (.cons (.cell (vs := [_, _, _]) rfl ag64 (mmD) rfl (atZ)) (.cons (.tmp rfl) .nil)) rfl (by
      exact ⟨m, x, rfl, h, rfl, rfl, rfl⟩) (pqD)
theorem OwnS.atR {ob : Option Nat} {k n c : Nat} {pre tl : List Value} {T : List Rs} (h : OwnS ob k n c 3 pre (T.flatMap encRs) tl) {i : Nat} {x : Rs} (hx : T[i]? = some x) (hi : i < n) : At (pre ++ (T.flatMap encRs ++ tl)) (k + i * 3) (encRs x) := fun j v hj => by
  rw [h.get encRs3 hx hi (by have := (List.getElem?_eq_some_iff.1 hj).1; simpa using this)]; exact hj
theorem next_take {m : ClM} {x : Cl} (h : ClIs m x) (hb : ClB x) (r0 : Rs) (rest : List Rs) (he : x.res = r0 :: rest) : Spec Tryz.prog 21 [ptrC m.p] (clH m x) (fun r H' => ∃ m' x', m'.p = m.p ∧ ClIs m' x' ∧ x'.v = { x.v with res := rest.map Rs.v } ∧ r = .tuple #[.agg #[.int .i64 r0.id, .int .i64 r0.code, slV r0.o r0.body.length r0.c], .bool true] ∧ H' = clH m' x' ++ [rsE r0]) := by
  have heO := h.eO
  rw [he] at heO
  obtain ⟨wb, hwb⟩ := heO.some_of (Nat.succ_pos _)
  have hlen : x.res.length = rest.length + 1 := by rw [he]; rfl
  refine Spec.of (E := [(0, ptrC m.p)]) Tryz.func21 rfl (by kernel_rfl) Tryz.ntmps21 rfl rfl (fun w => ?_)
  refine WC_seq ?_
  refine WC_region ?_
  refine WL_do rfl rfl rfl (D_alloc rfl zv64) ?_
  rintro _ _ ⟨b1, rfl, rfl⟩
  refine WL_val rfl rfl rfl (R_assign rfl rfl) ?_
  refine WL_nil ?_
  refine WQ_code ?_
  refine WC_seq ?_
  refine WC_seq ?_
  refine WC_region ?_
  refine WL_val rfl rfl rfl (R_move rfl rfl) ?_
  refine WL_val rfl rfl rfl (R_ptrEqNil rfl Tryz.underlying30 rfl) ?_
  refine WL_val rfl rfl rfl (R_move rfl rfl) ?_
  refine WL_val rfl rfl rfl (R_move rfl rfl) ?_
  refine WL_val rfl rfl rfl (R_nilCheck rfl rfl) ?_
  refine WL_val rfl rfl rfl (R_fieldAddr rfl fa40_3 rfl) ?_
  refine WL_val rfl rfl rfl (R_load rfl sc38 rfl (mmD) rfl) ?_
  refine WL_val rfl rfl rfl (R_len rfl Tryz.underlying38 rfl) ?_
  refine WL_val rfl rfl rfl (R_eql rfl rfl rfl) ?_
  refine WL_set (s := 12) (v := .bool false) rfl (by rw [he]; rfl) ?_
  refine WL_val rfl rfl rfl (R_pickF rfl rfl rfl) ?_
  refine WL_nil ?_
  refine WQ_code ?_
  refine WC_F rfl ?_
  refine WC_skip ?_
  refine WQ_code ?_
  refine WC_seq ?_
  refine WC_drawY [⟨some b1, _⟩, ⟨some m.p, _⟩] [(m.p, 7, sVal m.eb m.ek x.res.length m.ec)] [15] [(0, false), (1, false), (2, false), (3, false), (4, true), (5, false), (6, false), (7, false), (8, false), (9, false), (10, true)] [(11, true), (12, false), (13, true), (14, true), (15, false)] followsMixed rfl rfl (by kernel_rfl) (pqD) (.cons (mmD) rfl .nil) ?_
  refine WYE_val rfl rfl rfl rfl (R_move rfl rfl) ?_
  refine WYE_val rfl rfl rfl rfl (R_move rfl rfl) ?_
  refine WYE_val rfl rfl rfl rfl (R_nilCheck rfl rfl) ?_
  refine WYE_val rfl rfl rfl rfl (R_fieldAddr rfl fa40_3 rfl) ?_
  refine WYE_early rfl rfl rfl rfl rfl sc38 rfl (by repeat (first | exact List.Mem.head _ | refine List.Mem.tail _ ?_)) ?_
  refine WYE_val rfl rfl rfl rfl (R_indexS (i := 0) hwb rfl Tryz.underlying38 Tryz.sizeOf64 rfl rfl (by omega)) ?_
  refine WYE_val rfl rfl rfl rfl (R_loadAO (vs := [.int .i64 r0.id, .int .i64 r0.code, slV r0.o r0.body.length r0.c]) hwb rfl ag64 rfl (mmD) rfl (h.eO.atR (i := 0) (x := r0) (by rw [he]; rfl) (by omega))) ?_
  refine WYE_val rfl rfl rfl rfl (R_move rfl rfl) ?_
  refine WYE_val rfl rfl rfl rfl (R_nilCheck rfl rfl) ?_
  refine WYE_val rfl rfl rfl rfl (R_fieldAddr rfl fa40_3 rfl) ?_
  refine WYE_early rfl rfl rfl rfl rfl sc38 rfl (by repeat (first | exact List.Mem.head _ | refine List.Mem.tail _ ?_)) ?_
  refine WYE_rest ?_
  refine WY_val rfl rfl rfl rfl (R_cut1 (m := rest.length) hwb rfl Tryz.underlying38 Tryz.sizeOf64 rfl rfl hlen) ?_
  refine WY_do0 rfl rfl rfl (D_store (vs := [_, _, _]) rfl Tryz.sizeOf64 rfl rfl rfl rfl rfl (plD) (by exact Nat.le_of_ble_eq_true rfl)) ?_
  rintro _ _ rfl
  refine ⟨⟨_, pqD⟩, .inr (.cons (mmD) rfl .nil), ?_⟩
  refine WY_val rfl rfl rfl rfl (R_nilCheck rfl rfl) ?_
  refine WY_val rfl rfl rfl rfl (R_fieldAddr rfl fa40_3 rfl) ?_
  refine WY_do0 rfl rfl rfl (D_store (vs := [_]) rfl Tryz.sizeOf38 rfl rfl rfl rfl rfl (plD) (by exact Nat.le_of_ble_eq_true rfl)) ?_
  rintro _ _ rfl
  refine ⟨⟨_, pqD⟩, .inl rfl, ?_⟩
  refine WY_nil ?_
  refine WQ_code ?_
  refine WC_seq ?_
  refine WC_region ?_
  refine WL_val rfl rfl rfl (R_loadA (vs := [_, _, _]) rfl ag64 rfl (mmD) rfl (atZ)) ?_
  refine WL_do0 rfl rfl (D_store (vs := [_, _, _]) rfl Tryz.sizeOf64 rfl rfl rfl rfl rfl (plD) (by exact Nat.le_of_ble_eq_true rfl)) ?_
  rintro _ _ rfl
  refine WL_val rfl rfl rfl (R_assign rfl rfl) ?_
  refine WL_nil ?_
  refine WQ_code ?_
  refine WC_ret ?_
  rw [show reE m x = (⟨m.eb, cl ((m.epre ++ encRs r0) ++ (rest.flatMap encRs ++ m.etl)) 64⟩ : Ent) from by unfold reE; rw [he]; simp, show rsH x.res = rsE r0 :: rsH rest from by rw [he]; rfl]
  refine WQ_ret rfl rfl (.cons (.cell (vs := [_, _, _]) rfl ag64 (mmD) rfl (atZ)) (.cons (.tmp rfl) .nil)) rfl (by
      exact ⟨{ m with ek := if m.ec = 1 then m.ek else m.ek + 3, ec := m.ec - 1, epre := m.epre ++ encRs r0 }, { x with res := rest }, rfl, ⟨h.sd, h.cO, heO.cut (ys := encRs r0) (zs := rest.flatMap encRs) (m := rest.length) rfl rfl rfl, fun r hr => h.rO r (by rw [he]; exact List.mem_cons_of_mem _ hr)⟩, rfl, rfl, rfl⟩) (pqD)
structure OpW where
  k : Nat
  o : Option Nat
  c : Nat
  tl : List Value
  l : List Int
theorem open_ok {m : ClM} {x : Cl} (h : ClIs m x) (hb : ClB x)  : Spec Tryz.prog 11 [ptrC m.p] (clH m x) (fun r H' => ∃ o c tl, r = slV o (x.calls.map fun c => (c.id : Int)).length c ∧ Own o (x.calls.map fun c => (c.id : Int)).length c 1 (ivs (x.calls.map fun c => (c.id : Int))) tl ∧ H' = clH m x ++ [⟨o, cl (ivs (x.calls.map fun c => (c.id : Int)) ++ tl) 3⟩]) := by
  have hbc := hb.calls
  refine Spec.of (E := [(0, ptrC m.p)]) Tryz.func11 rfl (by kernel_rfl) Tryz.ntmps11 rfl rfl (fun w => ?_)
  refine WC_seq ?_
  refine WC_region ?_
  refine WL_val rfl rfl rfl (R_assign rfl rfl) ?_
  refine WL_nil ?_
  refine WQ_code ?_
  refine WC_seq ?_
  refine WC_seq ?_
  refine WC_region ?_
  refine WL_val rfl rfl rfl (R_move rfl rfl) ?_
  refine WL_val rfl rfl rfl (R_ptrEqNil rfl Tryz.underlying30 rfl) ?_
  refine WL_nil ?_
  refine WQ_code ?_
  refine WC_F rfl ?_
  refine WC_skip ?_
  refine WQ_code ?_
  refine WC_seq ?_
  refine WC_region ?_
  refine WL_val rfl rfl rfl (R_assign rfl rfl) ?_
  refine WL_nil ?_
  refine WQ_code ?_
  refine WC_seq ?_
  refine WC_seq ?_
  refine WC_region ?_
  refine WL_val rfl rfl rfl (R_move rfl rfl) ?_
  refine WL_val rfl rfl rfl (R_nilCheck rfl rfl) ?_
  refine WL_val rfl rfl rfl (R_fieldAddr rfl fa40_2 rfl) ?_
  refine WL_val rfl rfl rfl (R_load rfl sc37 rfl (mmD) rfl) ?_
  refine WL_val rfl rfl rfl (R_len rfl Tryz.underlying37 rfl) ?_
  refine WL_val rfl rfl rfl (R_move rfl rfl) ?_
  refine WL_nil ?_
  refine WQ_code ?_
  refine WC_block ?_
  refine WC_none 3 ?_
  refine WC_loopF (G := OpW) [3, 5, 13, 14, 15, 16, 17, 18, 19, 20, 21, 22] (fun y => y.k ≤ x.calls.length ∧ y.l = (x.calls.take y.k).map (fun c => (c.id : Int)) ∧ Own y.o y.l.length y.c 1 (ivs y.l) y.tl) (fun y => [(13, .int .i64 (y.k : Int)), (3, slV y.o y.l.length y.c)]) (fun y => [⟨y.o, cl (ivs y.l ++ y.tl) 3⟩]) (fun y => x.calls.length - y.k) (⟨0, none, 0, [], []⟩) (⟨Nat.zero_le _, rfl, Own.empty 1⟩) leZ (pqD) ?_
  rintro y ⟨hk, hl, ho⟩
  refine WC_seq ?_
  refine WC_region ?_
  refine WL_val rfl rfl rfl (R_lss rfl rfl rfl) ?_
  refine WL_nil ?_
  refine WQ_code ?_
  refine WC_seq ?_
  refine WC_dec rfl (fun c1 => ?_) (fun c1 => ?_)
  · refine WC_skip ?_
    refine WQ_code ?_
    refine WC_seq ?_
    refine WC_block ?_
    refine WC_seq ?_
    refine WC_region ?_
    obtain ⟨cc, hc⟩ := getE (T := x.calls) (i := y.k) (by omega)
    obtain ⟨wa, hwa⟩ := h.cO.some_of (by omega)
    have hyl : y.l.length = y.k := by rw [hl]; simp; omega
    refine WL_val rfl rfl rfl (R_idxO hwa rfl Tryz.underlying37 Tryz.sizeOf76 rfl rfl (by omega)) ?_
    refine WL_val rfl rfl rfl (R_loadAO (vs := encC cc) hwa rfl ag76 rfl (mmD) rfl (fm_at0 encC2 hc (j := 0) (vs := encC cc) (fun j v h => by rw [Nat.zero_add]; exact h) (Nat.le_refl _))) ?_
    refine WL_do rfl rfl rfl (D_alloc rfl zv76) ?_
    rintro _ _ ⟨b1, rfl, rfl⟩
    refine WL_do0 rfl rfl (D_store (vs := [_, _]) rfl Tryz.sizeOf76 rfl rfl rfl rfl rfl (plD) (by exact Nat.le_of_ble_eq_true rfl)) ?_
    rintro _ _ rfl
    refine WL_nil ?_
    refine WQ_code ?_
    refine WC_region ?_
    refine WL_val rfl rfl rfl (R_move rfl rfl) ?_
    refine WL_val rfl rfl rfl (R_fieldAddr rfl fa76_0 rfl) ?_
    refine WL_val rfl rfl rfl (R_load rfl sc3 rfl (mmD) rfl) ?_
    refine WL_do rfl rfl rfl (D_buildSlice rfl si42 rfl rfl rfl) ?_
    rintro _ _ ⟨b2, rfl, rfl⟩
    refine WL_do rfl rfl rfl (D_append rfl si42 rfl ho plD rfl mmD (atZ : At _ 0 [_]) rfl rfl (by omega) (by omega)) ?_
    rintro _ _ ⟨ob9, c9, tl9, rfl, own9, rfl⟩
    rw [show ivs y.l ++ [Value.int .i64 (cc.id : Int)] = ivs (y.l ++ [(cc.id : Int)]) from by simp, show y.l.length + 1 = (y.l ++ [(cc.id : Int)]).length from by simp] at own9
    rw [show ivs y.l ++ [Value.int .i64 (cc.id : Int)] = ivs (y.l ++ [(cc.id : Int)]) from by simp]
    refine WL_set (s := 21) (v := slV ob9 (y.l ++ [(cc.id : Int)]).length c9) rfl (by rw [List.length_append]; rfl) ?_
    refine WL_val rfl rfl rfl (R_assign rfl rfl) ?_
    refine WL_nil ?_
    refine WQ_code ?_
    refine WC_region ?_
    refine WL_val rfl rfl rfl (R_add rfl rfl rfl (by omega)) ?_
    refine WL_val rfl rfl rfl (R_move rfl rfl) ?_
    refine WL_nil ?_
    refine WQ_nextF (⟨y.k + 1, ob9, c9, tl9, y.l ++ [(cc.id : Int)]⟩) (⟨by dsimp only; omega, by dsimp only; rw [take_next hc, List.map_append, hl]; rfl, own9⟩) (by dsimp only; omega) leZ (psZ) rfl (pqD)
  · have hyk : y.k = x.calls.length := by omega
    rw [hyk, List.take_length] at hl
    rw [← hl]
    refine WC_exit ?_
    refine WQ_code ?_
    refine WC_seq ?_
    refine WC_region ?_
    refine WL_val rfl rfl rfl (R_move rfl rfl) ?_
    refine WL_val rfl rfl rfl (R_assign rfl rfl) ?_
    refine WL_nil ?_
    refine WQ_code ?_
    refine WC_ret ?_
    refine WQ_ret rfl rfl (.cons (.tmp rfl) .nil) rfl (by
        exact ⟨y.o, y.c, y.tl, rfl, ho, rfl⟩) (pqD)
end Go.Proofs.YtkcfgglmlogjbaaGreat
end
