/- The library's functions, walked: what the walks need; slices.Clone. -/
import Derived.Test.YtibgbgjocbaflaaGreatDoorMd
import Derived.WalkKit
import Derived.Lib.SliceRun
import Derived.Shelf.RegionOpen
import Derived.Lib.AppendZerosOnto
namespace Go.VC
open Go Go.RowKit

/-- Some operands' values. -/
def ev1 (l : List (Nat × V)) : Operand → V
  | .tmp i => (l.lookup i).getD .und
  | .const v => ofC 6 v
  | .global _ => .und
  | .func f => .fn (.func f) [] []
def xe1 (l : List (Nat × V)) : XO → V
  | .t i => (l.lookup i).getD .und
  | .c v => v
  | .g _ => .und

theorem ops1 (l : List (Nat × V)) : OpsR (ev1 l) (xe1 l) := by
  intro x y hxy
  cases x with
  | tmp i => simp only [cO, Option.some.injEq] at hxy; subst hxy; rfl
  | const v =>
    simp only [cO] at hxy
    split at hxy <;> first | (cases hxy; done) | skip
    simp only [Option.some.injEq] at hxy
    subst hxy; rfl
  | global n => simp only [cO, Option.some.injEq] at hxy; subst hxy; rfl
  | func f => simp only [cO, Option.some.injEq] at hxy; subst hxy; rfl

theorem ev1_rel {w : World} {g : G} {l : List (Nat × V)} {a : Act} (h : ∀ p ∈ l, VR w g p.2 (a.tmps.getD p.1 undef)) (x : Operand) : VR w g (ev1 l x) (a.eval x) := by
  cases x with
  | tmp i =>
    simp only [ev1, Act.eval]
    cases hl : l.lookup i with
    | none => exact .und _
    | some v =>
      have : (i, v) ∈ l := by
        clear h
        induction l with
        | nil => cases hl
        | cons p l ih =>
          obtain ⟨k, u⟩ := p
          simp only [List.lookup] at hl
          split at hl
          · rename_i he
            cases hl
            have : i = k := by simpa using he
            subst this; simp
          · exact List.mem_cons_of_mem _ (ih hl)
      exact h _ this
  | const v => exact ofC_rel g w _ v
  | global n => exact .und _
  | func f => exact .fn _ _ _ _ _ rfl rfl (fun _ _ h => by simp at h) (fun _ _ h => by simp at h)

section
variable {E : Env} {g : G} {m m' : XM} {w : World} {v : V} {r : Option Nat}

/-- An operation of the machine's, in a walk. -/
theorem wl_step {ops : Array Oper} {Q : Exit → Act → World → Prop} {rest : List Oper} {o : Oper} {a : Act} (l : List (Nat × V)) (hg : o.guard = none) (hos : OStep E m (ev1 l) o.op v m') (hr : Rel g m w) (hev : ∀ p ∈ l, VR w g p.2 (a.tmps.getD p.1 undef)) (hnd : ∀ c, o.op ≠ .defer c)
    (hk : ∀ g' w' cv, Rel g' m' w' → g.to w g' w' → VR w' g' v cv → wpListIn (FZ r) 0 E.P ops Q rest (a.put o.dst cv) w') : wpListIn (FZ r) 0 E.P ops Q (o :: rest) a w := by
  obtain ⟨cv, w', g', k1, k2, k3, k4⟩ := hos hr (ev1_rel hev)
  refine wpListIn_plain hg fun K hK => ?_
  refine ⟨fun _ _ => trivial, ?_⟩
  show o.uponIn (FZ r) 0 E.P a K Q ((o.semAt r a.eval).run E.P w)
  rw [Oper.semAt_eq r _ _ hnd]
  have := k1 o.dst o.type o.pos o.after o.guard
  rcases this with h | ⟨h, rfl⟩
  · rw [show o = ⟨o.dst, o.op, o.type, o.pos, o.after, o.guard⟩ from rfl, h, Oper.uponIn_value]
    exact hK _ _ (hk g' w' cv k2 k3 k4)
  · rw [show o = ⟨o.dst, o.op, o.type, o.pos, o.after, o.guard⟩ from rfl, h, Oper.uponIn_skip]
    exact hK _ _ (hk g' w' _ k2 k3 k4)

/-- An operation whose run is known. -/
theorem wl_run {P : Program} {ops : Array Oper} {Q : Exit → Act → World → Prop} {rest : List Oper} {o : Oper} {a : Act} {cv : Value} {w' : World} (hg : o.guard = none) (hnd : ∀ c, o.op ≠ .defer c) (h : (execOp a.eval o).run P w = .ok (.value cv) w')
    (hk : wpListIn (FZ r) 0 P ops Q rest (a.put o.dst cv) w') : wpListIn (FZ r) 0 P ops Q (o :: rest) a w := by
  refine wpListIn_plain hg fun K hK => ?_
  refine ⟨fun _ _ => trivial, ?_⟩
  show o.uponIn (FZ r) 0 P a K Q ((o.semAt r a.eval).run P w)
  rw [Oper.semAt_eq r _ _ hnd, h, Oper.uponIn_value]
  exact hK _ _ hk

end

/-- slices.Clone's code. -/
def cloneC (t : TypeId) : Code :=
  (Code.region 0 [⟨some 2, .assign (.const (.slice none 0 0)), t, "slices.go:355", #[], none⟩].toArray false).seq
    (((Code.region 1 [⟨some 3, .move (.tmp 0), t, "slices.go:357", #[], none⟩, ⟨some 4, .binOp .eql t (.tmp 3) (.const (.slice none 0 0)) t, 4, "slices.go:357", #[⟨0, .data⟩], none⟩].toArray false).seq
      (.cond (.tmp 4) ((Code.region 2 [⟨some 2, .assign (.const (.slice none 0 0)), t, "slices.go:358", #[], none⟩].toArray false).seq .ret) .skip)).seq
    ((Code.region 3 [⟨some 5, .buildSlice t 0 #[], t, "slices.go:362", #[], none⟩, ⟨some 6, .move (.tmp 0), t, "slices.go:362", #[], none⟩,
        ⟨some 7, .call { callee := .builtin .append, args := #[.tmp 5, .tmp 6], argTypes := #[t, t] }, t, "slices.go:362", #[⟨0, .data⟩, ⟨1, .data⟩], none⟩,
        ⟨some 2, .assign (.tmp 7), t, "slices.go:362", #[⟨2, .data⟩, ⟨2, .chain⟩, ⟨0, .phase⟩, ⟨1, .phase⟩, ⟨2, .phase⟩], none⟩].toArray false).seq .ret))

/-- slices.Clone at a type. -/
structure CloneI (P : Program) (f : Nat) (L : XL) (t : TypeId) : Prop where
  fn : ∃ fn, P.funcs[f]? = some fn ∧ fn.body = some (cloneC t) ∧ fn.ntmps = 8 ∧ fn.results = #[.tmp 2]
  ty : P.underlying t = some (.slice L.el)
  ag : tag P L.el = some L.ag
  s : tsz P L.el = some L.s
  by_ : tby P L.el = some L.by_
  z : ∃ z, cZ P L.el = some z
  s0 : L.s ≠ 0

theorem ofReturn {P : Program} {fn : Func} {a : Act} {w : World} {R : Ending → World → Prop} {i : Nat} (hr : fn.results = #[.tmp i]) (hd : a.defers = []) (h : R (.returned (a.tmps.getD i undef)) w) : bodyPost P fn R .ret a w := by
  refine ⟨hd, _, ?_, h⟩
  simp [results, hr, Sem.run]

/-- A nil slice has no elements. -/
theorem nil_none {g : G} {m : XM} {w : World} (hr : Rel g m w) {a : V} {s k k' c : Nat} {ys : List V} (hx : xcells m s a = some (k, ys)) (ha : VR w g a (.slice none k' c)) : k' = 0 := by
  cases a <;> simp only [xcells, reduceCtorEq] at hx
  case psl rows => cases ha; rfl
  case nsl => cases ha; rfl
  case sl b e off len cap =>
    split at hx <;> first | (cases hx; done) | skip
    rename_i cells ty ag sz ep hm
    split at hx <;> first | (cases hx; done) | skip
    rename_i hc
    obtain ⟨rfl, _, _⟩ := hc
    have he := hr.slEp hm ha
    cases ha with
    | sl _ _ _ _ _ _ cap' h1 h2 h3 h4 =>
      rcases h4 he with h | ⟨c, base, _, h, _⟩
      · omega
      · cases h

theorem clone_sound {E : Env} {f : Nat} {L : XL} {t : TypeId} (I : CloneI E.P f L t) {g : G} {m : XM} {w : World} {a : V} {ca : Value} {r : V × XM} (hx : (match xcells m L.s a with
    | some (0, _) => some (.nsl, m)
    | some (k, ys) => if k ≤ 1073741824 ∧ k * L.by_ ≤ 140737488355328 then some (.sl m.length 0 0 k none, m ++ [.row ys L.el L.ag L.s 0]) else none
    | none => none) = some r) (hr : Rel g m w) (ha : VR w g a ca) : CallsIn (FZ none) 0 E.P f #[ca] w (CallR g w (.inl r.1) r.2) := by
  obtain ⟨fn, hf, hb, hn, hres⟩ := I.fn
  refine callsIn_of_wp hf hb trivial ?_
  simp only [hn, List.size_toArray, List.length_cons, List.length_nil, Nat.reduceAdd, Nat.reduceSub, Array.replicate_succ, Array.replicate_zero, List.push_toArray, List.append_toArray, List.nil_append, List.cons_append]
  unfold cloneC FZ
  have q : ∀ (w : World) (a : Option Addr) (n c n' c' : Nat), (binOp .eql t (.slice a n c) (.slice none n' c')).run E.P w = .ok (.bool a.isNone) w := fun w a n c n' c' => Lib.run_eql_slice_nil w _ _ a n c n' c' I.ty
  obtain ⟨k, ys, hc⟩ : ∃ k ys, xcells m L.s a = some (k, ys) := by
    cases hc : xcells m L.s a with
    | none => rw [hc] at hx; cases hx
    | some q => exact ⟨q.1, q.2, rfl⟩
  obtain ⟨p, c1, c2⟩ := xcells_vcells hc
  obtain ⟨ya, yc, arr, rfl, hkc, hrd, hcr, hsz, hone⟩ := vcells_sound (P := E.P) I.s0 c1 c2 hr ha
  cases ya with
  | none =>
    have hk0 : k = 0 := nil_none hr hc ha
    subst hk0
    rw [hc] at hx
    cases hx
    gi_wp2
    exact ofReturn hres rfl ⟨g, G.to.refl _ _, hr, _, rfl, .nsl _⟩
  | some ad =>
    obtain ⟨z, hz⟩ := I.z
    have hbs : OStep E m (ev1 []) (.buildSlice t 0 #[]) .nsl m := x_bsl (ops1 []) I.ty hz I.ag I.s I.s0 (by omega) (qs := []) rfl (fun _ => rfl) rfl
    gi_wp2_with (refine wl_step [] rfl hbs hr (fun _ h => by cases h) (fun _ h => by cases h) ?_)
    intro g1 w1 cv hr1 ht1 hv1
    obtain ⟨a0, rfl⟩ : ∃ a0, cv = .slice a0 0 0 := by cases hv1; exact ⟨_, rfl⟩
    unfold FZ
    have hmono := ha.mono ht1.tole
    by_cases hk0 : k = 0
    · subst hk0
      rw [hc] at hx
      cases hx
      obtain ⟨i, hi, _⟩ := Option.map_eq_some_iff.1 I.s
      have hrun : ∀ o : Oper, o.op = .call { callee := .builtin .append, args := #[.tmp 5, .tmp 6], argTypes := #[t, t] } → ∀ ac : Act, ac.eval (.tmp 5) = .slice a0 0 0 → ac.eval (.tmp 6) = .slice (some ad) 0 yc → (execOp ac.eval o).run E.P w1 = .ok (.value (.slice a0 0 0)) w1 := fun o ho ac h5 h6 => by
        simp [execOp, ho, resolve, invoke, builtin, h5, h6, run_append_none (P := E.P) (w := w1) (a := some ad) (b := a0) I.ty I.ty hi (Nat.le_refl 0)]
      gi_wp2_with (refine wl_run rfl (fun _ h => by cases h) (hrun _ rfl _ rfl rfl) ?_)
      unfold FZ
      gi_wp2
      exact ofReturn hres rfl ⟨g1, ht1, hr1, _, rfl, .nsl _⟩
    · have hle : k ≤ 1073741824 ∧ k * L.by_ ≤ 140737488355328 ∧ r = (.sl m.length 0 0 k none, m ++ [.row ys L.el L.ag L.s 0]) := by
        rw [hc] at hx
        split at hx <;> first | (cases hx; done) | skip
        · rename_i h; cases h; exact absurd rfl hk0
        · rename_i h
          cases h
          split at hx <;> first | (cases hx; done) | skip
          rename_i h2
          cases hx
          exact ⟨h2.1, h2.2, rfl⟩
      obtain ⟨h1, h2, rfl⟩ := hle
      have hap : OStep E m (ev1 [(5, .nsl), (6, a)]) (.call { callee := .builtin .append, args := #[.tmp 5, .tmp 6], argTypes := #[t, t] }) (.sl m.length 0 0 k none) (m ++ [.row ys L.el L.ag L.s 0]) :=
        x_app (ops1 _) rfl rfl I.ty I.ty hz I.ag I.s I.s0 I.by_ (by
          have e5 : xe1 [(5, V.nsl), (6, a)] (.t 5) = .nsl := rfl
          have e6 : xe1 [(5, V.nsl), (6, a)] (.t 6) = a := rfl
          simp only [xop, e5, e6, hc, h1, h2, and_self, if_true])
      gi_wp2_with (refine wl_step [(5, .nsl), (6, a)] rfl hap hr1 (by simp; exact ⟨.nsl _, hmono⟩) (fun _ h => by cases h) ?_)
      intro g2 w2 cv2 hr2 ht2 hv2
      unfold FZ
      gi_wp2
      exact ofReturn hres rfl ⟨g2, ht1.trans ht2, hr2, _, rfl, hv2⟩
end Go.VC

/- The library's functions, walked: slices.Insert at the end of a slice. -/
namespace Go.VC
open Go Go.RowKit

/-- A type of slices, as the library's functions take it. -/
structure SliceI (P : Program) (L : XL) (t : TypeId) : Prop where
  ty : P.underlying t = some (.slice L.el)
  ag : tag P L.el = some L.ag
  s : tsz P L.el = some L.s
  by_ : tby P L.el = some L.by_
  z : ∃ z, cZ P L.el = some z
  s0 : L.s ≠ 0

section
variable {E : Env} {g : G} {m : XM} {w : World} {L : XL} {t : TypeId}

/-- append, as an operation on values. -/
def xapp (L : XL) (m : XM) (a y : V) : Option (V × XM) := xop m (xe1 [(0, a), (1, y)]) (.app L.el L.ag L.s L.by_ (.t 0) (.t 1))

theorem app_ostep (I : SliceI E.P L t) {i j : Nat} (hij : i ≠ j) {a y : V} {r : V × XM} (h : xapp L m a y = some r) :
    OStep E m (ev1 [(i, a), (j, y)]) (.call { callee := .builtin .append, args := #[.tmp i, .tmp j], argTypes := #[t, t] }) r.1 r.2 := by
  obtain ⟨z, hz⟩ := I.z
  refine x_app (x' := .t i) (y' := .t j) (ops1 _) rfl rfl I.ty I.ty hz I.ag I.s I.s0 I.by_ ?_
  have e1 : xe1 [(i, a), (j, y)] (.t i) = a := by simp [xe1, List.lookup]
  have e2 : xe1 [(i, a), (j, y)] (.t j) = y := by
    have : (j == i) = false := by simpa using fun h => hij h.symm
    simp [xe1, List.lookup, this]
  have f1 : xe1 [(0, a), (1, y)] (.t 0) = a := rfl
  have f2 : xe1 [(0, a), (1, y)] (.t 1) = y := rfl
  simp only [xapp, xop, f1, f2] at h
  simp only [xop, e1, e2]
  exact h

/-- append of nothing leaves the slice and the world as they are. -/
theorem app_none (I : SliceI E.P L t) (hr : Rel g m w) {a y : V} {r : V × XM} (h : xapp L m a y = some r) {ad vb : Option Addr} {n c vc : Nat} (hn : n ≤ c) (ha : VR w g a (.slice ad n c)) (hy : VR w g y (.slice vb 0 vc)) :
    ∃ g', Rel g' r.2 w ∧ g.to w g' w ∧ VR w g' r.1 (.slice ad n c) := by
  have hos := @app_ostep E m L t I 0 1 (by decide) a y r h
  obtain ⟨i, hi, _⟩ := Option.map_eq_some_iff.1 I.s
  let ac : Act := { tmps := #[.slice ad n c, .slice vb 0 vc], defers := [] }
  obtain ⟨cv, w', g', k1, k2, k3, k4⟩ := hos hr (ev1_rel (a := ac) (by
    intro p hp
    simp only [List.mem_cons, List.mem_nil_iff, or_false] at hp
    rcases hp with rfl | rfl
    · exact ha
    · exact hy))
  have := k1 none 0 "" #[] none
  have hrun : (execOp ac.eval ⟨none, .call { callee := .builtin .append, args := #[.tmp 0, .tmp 1], argTypes := #[t, t] }, 0, "", #[], none⟩).run E.P w = .ok (.value (.slice ad n c)) w := by
    have e0 : ac.eval (.tmp 0) = .slice ad n c := rfl
    have e1 : ac.eval (.tmp 1) = .slice vb 0 vc := rfl
    simp [execOp, resolve, invoke, builtin, e0, e1, run_append_none (P := E.P) (w := w) (a := vb) (b := ad) I.ty I.ty hi hn]
  rcases this with h1 | ⟨h1, _⟩
  · rw [hrun] at h1
    simp only [Result.ok.injEq, Next.value.injEq] at h1
    obtain ⟨rfl, rfl⟩ := h1
    exact ⟨g', k2, k3, k4⟩
  · rw [hrun] at h1
    cases h1

theorem OStep.und {op : Op} {ev : Operand → V} {v : V} {m' : XM} (h : OStep E m ev op v m') : OStep E m ev op .und m' := by
  intro g w ρ hr hev
  obtain ⟨cv, w', g', k1, k2, k3, k4⟩ := h hr hev
  exact ⟨cv, w', g', k1, k2, k3, .und _⟩

end

/-- slices.Insert's code, as far as it is walked. -/
def insertC (t : TypeId) (rest : Code) : Code :=
  (Code.region 0 [⟨some 6, .assign (.const (.slice none 0 0)), t, "slices.go:136", #[], none⟩].toArray false).seq
    ((Code.region 1 [⟨some 10, .move (.tmp 0), t, "slices.go:137", #[], none⟩, ⟨some 11, .move (.tmp 1), 3, "slices.go:137", #[], none⟩, ⟨some 12, .slice t (.tmp 10) (some (.tmp 11)) none none, t, "slices.go:137", #[⟨0, .data⟩, ⟨1, .data⟩], none⟩].toArray false).seq
      ((Code.region 2 [⟨some 13, .move (.tmp 2), t, "slices.go:139", #[], none⟩, ⟨some 14, .call { callee := .builtin .len, args := #[.tmp 13], argTypes := #[t] }, 3, "slices.go:139", #[⟨0, .data⟩], none⟩, ⟨some 7, .assign (.tmp 14), 3, "slices.go:139", #[⟨1, .data⟩, ⟨0, .phase⟩, ⟨1, .phase⟩], none⟩].toArray false).seq
        (((Code.region 3 [⟨some 15, .move (.tmp 7), 3, "slices.go:140", #[], none⟩, ⟨some 16, .binOp .eql 3 (.tmp 15) (.const (.int .i64 0)) 3, 4, "slices.go:140", #[⟨0, .data⟩], none⟩].toArray false).seq
            (.cond (.tmp 16)
              ((Code.region 4 [⟨some 17, .move (.tmp 0), t, "slices.go:141", #[], none⟩, ⟨some 6, .assign (.tmp 17), t, "slices.go:141", #[⟨0, .data⟩, ⟨0, .phase⟩], none⟩].toArray false).seq .ret) .skip)).seq
          ((Code.region 5 [⟨some 18, .move (.tmp 0), t, "slices.go:143", #[], none⟩, ⟨some 19, .call { callee := .builtin .len, args := #[.tmp 18], argTypes := #[t] }, 3, "slices.go:143", #[⟨0, .data⟩], none⟩, ⟨some 8, .assign (.tmp 19), 3, "slices.go:143", #[⟨1, .data⟩, ⟨0, .phase⟩, ⟨1, .phase⟩], none⟩].toArray false).seq
            (((Code.region 6 [⟨some 20, .move (.tmp 1), 3, "slices.go:144", #[], none⟩, ⟨some 21, .move (.tmp 8), 3, "slices.go:144", #[], none⟩, ⟨some 22, .binOp .eql 3 (.tmp 20) (.tmp 21) 3, 4, "slices.go:144", #[⟨0, .data⟩, ⟨1, .data⟩], none⟩].toArray false).seq
                (.cond (.tmp 22)
                  ((Code.region 7 [⟨some 23, .move (.tmp 0), t, "slices.go:145", #[], none⟩, ⟨some 24, .move (.tmp 2), t, "slices.go:145", #[], none⟩, ⟨some 25, .call { callee := .builtin .append, args := #[.tmp 23, .tmp 24], argTypes := #[t, t] }, t, "slices.go:145", #[⟨0, .data⟩, ⟨1, .data⟩], none⟩,
                    ⟨some 6, .assign (.tmp 25), t, "slices.go:145", #[⟨2, .data⟩, ⟨2, .chain⟩, ⟨0, .phase⟩, ⟨1, .phase⟩, ⟨2, .phase⟩], none⟩].toArray false).seq .ret) .skip)).seq rest)))))

structure InsertI (P : Program) (f : Nat) (L : XL) (t : TypeId) : Prop extends SliceI P L t where
  fn : ∃ fn rest, P.funcs[f]? = some fn ∧ fn.body = some (insertC t rest) ∧ fn.ntmps = 95 ∧ fn.results = #[.tmp 6]
  int : P.underlying 3 = some (.int .i64)

section
variable {E : Env} {g : G} {m : XM} {w : World} {L : XL} {t : TypeId}

/-- What is put at the end is appended. -/
theorem splice_end {a v : V} {k : Nat} {ys : List V} {r : V × XM} (hv : xcells m L.s v = some (k, ys)) (h : xsplice L m a (vlen a) (vlen a) k ys = some r) : xapp L m a v = some r := by
  have f1 : xe1 [(0, a), (1, v)] (.t 0) = a := rfl
  have f2 : xe1 [(0, a), (1, v)] (.t 1) = v := rfl
  simp only [xapp, xop, f1, f2, hv]
  unfold xsplice at h
  split at h <;> first | (cases h; done) | skip
  · split at h <;> first | (cases h; done) | skip
    rename_i hc
    rw [if_pos ⟨hc.2.2.1, hc.2.2.2⟩]
    exact h
  · rename_i b e off len cap
    dsimp only at h ⊢
    split at h <;> first | (cases h; done) | skip
    rename_i cells ty ag sz ep hm
    split at h <;> first | (cases h; done) | skip
    rename_i hc
    obtain ⟨rfl, rfl, rfl, h4, h5, h6, h7, h8, h9⟩ := hc
    rw [if_pos ⟨rfl, rfl, rfl, h4, h8, h9⟩]
    simp only [vlen, Int.toNat_natCast, Nat.sub_self, Nat.sub_zero, Option.some.injEq] at h ⊢
    rw [← h]
    have e1 : List.take (len * L.s) (List.take (len * L.s) (List.drop off cells)) = List.take (len * L.s) (List.drop off cells) := List.take_of_length_le (by simp; omega)
    have e2 : List.drop (len * L.s) (List.take (len * L.s) (List.drop off cells)) = [] := List.drop_of_length_le (by simp; omega)
    rw [e1, e2, List.append_nil]

theorem insert_sound {f : Nat} (I : InsertI E.P f L t) {a v : V} {ca cv : Value} {k : Nat} {ys : List V} {r : V × XM} (hv : xcells m L.s v = some (k, ys)) (h : xsplice L m a (vlen a) (vlen a) k ys = some r)
    (hr : Rel g m w) (ha : VR w g a ca) (hcv : VR w g v cv) : CallsIn (FZ none) 0 E.P f #[ca, .int .i64 (vlen a), cv] w (CallR g w (.inl r.1) r.2) := by
  obtain ⟨fn, rest, hf, hb, hn, hres⟩ := I.fn
  have happ := splice_end hv h
  obtain ⟨p, c1, c2⟩ := xcells_vcells hv
  obtain ⟨ya, yc, arr, rfl, hkc, hrd, hcr, hsz, hone⟩ := vcells_sound (P := E.P) I.s0 c1 c2 hr hcv
  obtain ⟨ad, c, rfl, hac⟩ : ∃ ad c, ca = .slice ad (vlen a) c ∧ vlen a ≤ c := by
    unfold xsplice at h
    split at h <;> first | (cases h; done) | skip
    · cases ha; exact ⟨_, _, rfl, Nat.le_refl _⟩
    · cases ha; exact ⟨_, _, rfl, by assumption⟩
  have hsl : OStep E m (ev1 [(10, a), (11, .int .i64 (vlen a))]) (.slice t (.tmp 10) (some (.tmp 11)) none none) .und m := by
    have e1 : xe1 [(10, a), (11, .int .i64 (vlen a))] (.t 10) = a := by simp [xe1, List.lookup]
    have e2 : xe1 [(10, a), (11, .int .i64 (vlen a))] (.t 11) = .int .i64 (vlen a) := by simp [xe1, List.lookup]
    obtain ⟨v', hx⟩ : ∃ v', xop m (xe1 [(10, a), (11, .int .i64 (vlen a))]) (.sll L.s (.t 10) (some (.t 11)) none none) = some (v', m) := by
      simp only [xop, e1, Option.map_some, Option.map_none, e2]
      unfold xsplice at h
      split at h <;> first | (cases h; done) | skip
      · exact ⟨.nsl, by simp [xbounds, vlen]⟩
      · rename_i b e off len cap
        split at h <;> first | (cases h; done) | skip
        rename_i cells ty ag sz ep hm
        split at h <;> first | (cases h; done) | skip
        rename_i hc
        obtain ⟨rfl, rfl, _⟩ := hc
        have hb : xbounds len (some (.int .i64 (vlen (V.sl b ep off len cap)))) none none = some (len, len, none) := by simp [xbounds, vlen]
        simp only [hm, hb, and_self, if_true]
        exact ⟨_, rfl⟩
    exact @OStep.und E m _ _ v' m (x_sll (lo := some (.tmp 11)) (hi := none) (mx := none) (x := .tmp 10) (ops1 _) rfl rfl rfl rfl (by simp) I.ty I.s hx)
  refine callsIn_of_wp hf hb trivial ?_
  simp only [hn, List.size_toArray, List.length_cons, List.length_nil, Nat.reduceAdd, Nat.reduceSub, Array.replicate_succ, Array.replicate_zero, List.push_toArray, List.append_toArray, List.nil_append, List.cons_append]
  unfold insertC FZ
  have u3 : ∀ w, Sem.run E.P (underlying 3) w = .ok (.int .i64) w := run_underlying I.int
  have ut : ∀ w, Sem.run E.P (underlying t) w = .ok (.slice L.el) w := run_underlying I.ty
  have hlen : ∀ (w : World) (ty : TypeId) (a : Option Addr) (n c : Nat), Sem.run E.P (Builtin.len_ #[t] ty #[.slice a n c]) w = .ok (.int .i64 n) w := fun w ty a n c => by simp [Builtin.len_, ut, goInt]
  gi_wp2_with (refine wl_step [(10, a), (11, .int .i64 (vlen a))] rfl hsl hr (by simp; exact ⟨ha, .int _ _⟩) (fun _ h => by cases h) ?_)
  intro g1 w1 cv1 hr1 ht1 _
  unfold FZ
  by_cases hk0 : k = 0
  · subst hk0
    obtain ⟨g2, hr2, ht2, hv2⟩ := app_none I.toSliceI hr1 happ hac (ha.mono ht1.tole) (hcv.mono ht1.tole)
    gi_wp2
    exact ofReturn hres rfl ⟨g2, ht1.trans ht2, hr2, _, rfl, hv2⟩
  · have hap : OStep E m (ev1 [(23, a), (24, v)]) (.call { callee := .builtin .append, args := #[.tmp 23, .tmp 24], argTypes := #[t, t] }) r.1 r.2 := @app_ostep E m L t I.toSliceI 23 24 (by decide) a v r happ
    gi_wp2_with (refine wl_step [(23, a), (24, v)] rfl hap hr1 (by simp; exact ⟨ha.mono ht1.tole, hcv.mono ht1.tole⟩) (fun _ h => by cases h) ?_)
    intro g2 w2 cv2 hr2 ht2 hv2
    unfold FZ
    gi_wp2
    exact ofReturn hres rfl ⟨g2, ht1.trans ht2, hr2, _, rfl, hv2⟩
end
end Go.VC

/- The library's functions, walked: slices.Replace where nothing grows. -/
namespace Go.VC
open Go Go.RowKit

/-- slices.Replace's code, as far as it is walked. -/
def replaceC (t : TypeId) (gA gB : Code) : Code :=
  ((Code.region 0 ([⟨some 8, .assign (.const (Value.slice none 0 0)), t, "slices.go:262", #[], none⟩] : List Oper).toArray false).seq ((Code.region 1 ([⟨some 15, .move (.tmp 0), t, "slices.go:263", #[], none⟩, ⟨some 16, .move (.tmp 1), 3, "slices.go:263", #[], none⟩, ⟨some 17, .move (.tmp 2), 3, "slices.go:263", #[], none⟩, ⟨some 18, .slice t (.tmp 15) (some (.tmp 16)) (some (.tmp 17)) none, t, "slices.go:263", #[⟨0, .data⟩, ⟨1, .data⟩, ⟨2, .data⟩], none⟩] : List Oper).toArray false).seq (((Code.region 2 ([⟨some 19, .move (.tmp 1), 3, "slices.go:265", #[], none⟩, ⟨some 20, .move (.tmp 2), 3, "slices.go:265", #[], none⟩, ⟨some 21, .binOp .eql 3 (.tmp 19) (.tmp 20) 3, 4, "slices.go:265", #[⟨0, .data⟩, ⟨1, .data⟩], none⟩] : List Oper).toArray false).seq (Code.cond (.tmp 21) ((Code.region 3 ([⟨some 22, .move (.tmp 0), t, "slices.go:266", #[], none⟩, ⟨some 23, .move (.tmp 1), 3, "slices.go:266", #[], none⟩, ⟨some 24, .move (.tmp 3), t, "slices.go:266", #[], none⟩, ⟨some 25, .call { callee := .value (.func 204), args := #[.tmp 22, .tmp 23, .tmp 24], argTypes := #[t, 3, t] }, t, "slices.go:266", #[⟨0, .data⟩, ⟨1, .data⟩, ⟨2, .data⟩], none⟩, ⟨some 8, .assign (.tmp 25), t, "slices.go:266", #[⟨3, .data⟩, ⟨3, .chain⟩, ⟨0, .phase⟩, ⟨1, .phase⟩, ⟨2, .phase⟩, ⟨3, .phase⟩], none⟩] : List Oper).toArray false).seq Code.ret) Code.skip)).seq (((Code.region 4 ([⟨some 26, .move (.tmp 2), 3, "slices.go:268", #[], none⟩, ⟨some 27, .move (.tmp 0), t, "slices.go:268", #[], none⟩, ⟨some 28, .call { callee := .builtin .len, args := #[.tmp 27], argTypes := #[t] }, 3, "slices.go:268", #[⟨1, .data⟩], none⟩, ⟨some 29, .binOp .eql 3 (.tmp 26) (.tmp 28) 3, 4, "slices.go:268", #[⟨0, .data⟩, ⟨2, .data⟩], none⟩] : List Oper).toArray false).seq (Code.cond (.tmp 29) ((Code.region 5 ([⟨some 30, .move (.tmp 0), t, "slices.go:269", #[], none⟩, ⟨some 31, .move (.tmp 1), 3, "slices.go:269", #[], none⟩, ⟨some 32, .slice t (.tmp 30) none (some (.tmp 31)) none, t, "slices.go:269", #[⟨0, .data⟩, ⟨1, .data⟩], none⟩, ⟨some 33, .move (.tmp 3), t, "slices.go:269", #[], none⟩, ⟨some 34, .call { callee := .builtin .append, args := #[.tmp 32, .tmp 33], argTypes := #[t, t] }, t, "slices.go:269", #[⟨2, .data⟩, ⟨3, .data⟩], none⟩, ⟨some 9, .assign (.tmp 34), t, "slices.go:269", #[⟨4, .data⟩, ⟨4, .chain⟩, ⟨0, .phase⟩, ⟨1, .phase⟩, ⟨2, .phase⟩, ⟨3, .phase⟩, ⟨4, .phase⟩], none⟩] : List Oper).toArray false).seq (((Code.region 6 ([⟨some 35, .move (.tmp 9), t, "slices.go:270", #[], none⟩, ⟨some 36, .call { callee := .builtin .len, args := #[.tmp 35], argTypes := #[t] }, 3, "slices.go:270", #[⟨0, .data⟩], none⟩, ⟨some 37, .move (.tmp 0), t, "slices.go:270", #[], none⟩, ⟨some 38, .call { callee := .builtin .len, args := #[.tmp 37], argTypes := #[t] }, 3, "slices.go:270", #[⟨2, .data⟩], none⟩, ⟨some 39, .binOp .lss 3 (.tmp 36) (.tmp 38) 3, 4, "slices.go:270", #[⟨1, .data⟩, ⟨3, .data⟩], none⟩] : List Oper).toArray false).seq (Code.cond (.tmp 39) (Code.region 7 ([⟨some 40, .move (.tmp 0), t, "slices.go:271", #[], none⟩, ⟨some 41, .move (.tmp 9), t, "slices.go:271", #[], none⟩, ⟨some 42, .call { callee := .builtin .len, args := #[.tmp 41], argTypes := #[t] }, 3, "slices.go:271", #[⟨1, .data⟩], none⟩, ⟨some 43, .slice t (.tmp 40) (some (.tmp 42)) none none, t, "slices.go:271", #[⟨0, .data⟩, ⟨2, .data⟩], none⟩, ⟨none, .call { callee := .builtin .clear, args := #[.tmp 43], argTypes := #[t] }, 0, "slices.go:271", #[⟨3, .data⟩], none⟩] : List Oper).toArray false) Code.skip)).seq ((Code.region 8 ([⟨some 44, .move (.tmp 9), t, "slices.go:273", #[], none⟩, ⟨some 8, .assign (.tmp 44), t, "slices.go:273", #[⟨0, .data⟩, ⟨0, .phase⟩], none⟩] : List Oper).toArray false).seq Code.ret))) Code.skip)).seq ((Code.region 9 ([⟨some 45, .move (.tmp 0), t, "slices.go:276", #[], none⟩, ⟨some 46, .move (.tmp 1), 3, "slices.go:276", #[], none⟩, ⟨some 47, .slice t (.tmp 45) none (some (.tmp 46)) none, t, "slices.go:276", #[⟨0, .data⟩, ⟨1, .data⟩], none⟩, ⟨some 48, .call { callee := .builtin .len, args := #[.tmp 47], argTypes := #[t] }, 3, "slices.go:276", #[⟨2, .data⟩], none⟩, ⟨some 49, .move (.tmp 3), t, "slices.go:276", #[], none⟩, ⟨some 50, .call { callee := .builtin .len, args := #[.tmp 49], argTypes := #[t] }, 3, "slices.go:276", #[⟨4, .data⟩], none⟩, ⟨some 51, .binOp .add 3 (.tmp 48) (.tmp 50) 3, 3, "slices.go:276", #[⟨3, .data⟩, ⟨5, .data⟩], none⟩, ⟨some 52, .move (.tmp 0), t, "slices.go:276", #[], none⟩, ⟨some 53, .move (.tmp 2), 3, "slices.go:276", #[], none⟩, ⟨some 54, .slice t (.tmp 52) (some (.tmp 53)) none none, t, "slices.go:276", #[⟨7, .data⟩, ⟨8, .data⟩], none⟩, ⟨some 55, .call { callee := .builtin .len, args := #[.tmp 54], argTypes := #[t] }, 3, "slices.go:276", #[⟨9, .data⟩], none⟩, ⟨some 56, .binOp .add 3 (.tmp 51) (.tmp 55) 3, 3, "slices.go:276", #[⟨6, .data⟩, ⟨10, .data⟩], none⟩, ⟨some 10, .assign (.tmp 56), 3, "slices.go:276", #[⟨11, .data⟩, ⟨0, .phase⟩, ⟨1, .phase⟩, ⟨2, .phase⟩, ⟨3, .phase⟩, ⟨4, .phase⟩, ⟨5, .phase⟩, ⟨6, .phase⟩, ⟨7, .phase⟩, ⟨8, .phase⟩, ⟨9, .phase⟩, ⟨10, .phase⟩, ⟨11, .phase⟩], none⟩] : List Oper).toArray true).seq (((Code.region 10 ([⟨some 57, .move (.tmp 10), 3, "slices.go:277", #[], none⟩, ⟨some 58, .move (.tmp 0), t, "slices.go:277", #[], none⟩, ⟨some 59, .call { callee := .builtin .cap, args := #[.tmp 58], argTypes := #[t] }, 3, "slices.go:277", #[⟨1, .data⟩], none⟩, ⟨some 60, .binOp .gtr 3 (.tmp 57) (.tmp 59) 3, 4, "slices.go:277", #[⟨0, .data⟩, ⟨2, .data⟩], none⟩] : List Oper).toArray false).seq (Code.cond (.tmp 60) gA Code.skip)).seq ((Code.region 15 ([⟨some 84, .move (.tmp 0), t, "slices.go:285", #[], none⟩, ⟨some 85, .move (.tmp 10), 3, "slices.go:285", #[], none⟩, ⟨some 86, .slice t (.tmp 84) none (some (.tmp 85)) none, t, "slices.go:285", #[⟨0, .data⟩, ⟨1, .data⟩], none⟩, ⟨some 12, .assign (.tmp 86), t, "slices.go:285", #[⟨2, .data⟩, ⟨0, .phase⟩, ⟨1, .phase⟩, ⟨2, .phase⟩], none⟩] : List Oper).toArray false).seq (((Code.region 16 ([⟨some 87, .move (.tmp 1), 3, "slices.go:287", #[], none⟩, ⟨some 88, .move (.tmp 3), t, "slices.go:287", #[], none⟩, ⟨some 89, .call { callee := .builtin .len, args := #[.tmp 88], argTypes := #[t] }, 3, "slices.go:287", #[⟨1, .data⟩], none⟩, ⟨some 90, .binOp .add 3 (.tmp 87) (.tmp 89) 3, 3, "slices.go:287", #[⟨0, .data⟩, ⟨2, .data⟩], none⟩, ⟨some 91, .move (.tmp 2), 3, "slices.go:287", #[], none⟩, ⟨some 92, .binOp .leq 3 (.tmp 90) (.tmp 91) 3, 4, "slices.go:287", #[⟨3, .data⟩, ⟨4, .data⟩], none⟩] : List Oper).toArray false).seq (Code.cond (.tmp 92) ((Code.region 17 ([⟨some 93, .move (.tmp 12), t, "slices.go:289", #[], none⟩, ⟨some 94, .move (.tmp 1), 3, "slices.go:289", #[], none⟩, ⟨some 95, .slice t (.tmp 93) (some (.tmp 94)) none none, t, "slices.go:289", #[⟨0, .data⟩, ⟨1, .data⟩], none⟩, ⟨some 96, .move (.tmp 3), t, "slices.go:289", #[], none⟩, ⟨some 97, .call { callee := .builtin .copy, args := #[.tmp 95, .tmp 96], argTypes := #[t, t] }, 3, "slices.go:289", #[⟨2, .data⟩, ⟨3, .data⟩], none⟩] : List Oper).toArray false).seq ((Code.region 18 ([⟨some 98, .move (.tmp 12), t, "slices.go:290", #[], none⟩, ⟨some 99, .move (.tmp 1), 3, "slices.go:290", #[], none⟩, ⟨some 100, .move (.tmp 3), t, "slices.go:290", #[], none⟩, ⟨some 101, .call { callee := .builtin .len, args := #[.tmp 100], argTypes := #[t] }, 3, "slices.go:290", #[⟨2, .data⟩], none⟩, ⟨some 102, .binOp .add 3 (.tmp 99) (.tmp 101) 3, 3, "slices.go:290", #[⟨1, .data⟩, ⟨3, .data⟩], none⟩, ⟨some 103, .slice t (.tmp 98) (some (.tmp 102)) none none, t, "slices.go:290", #[⟨0, .data⟩, ⟨4, .data⟩], none⟩, ⟨some 104, .move (.tmp 0), t, "slices.go:290", #[], none⟩, ⟨some 105, .move (.tmp 2), 3, "slices.go:290", #[], none⟩, ⟨some 106, .slice t (.tmp 104) (some (.tmp 105)) none none, t, "slices.go:290", #[⟨6, .data⟩, ⟨7, .data⟩], none⟩, ⟨some 107, .call { callee := .builtin .copy, args := #[.tmp 103, .tmp 106], argTypes := #[t, t] }, 3, "slices.go:290", #[⟨5, .data⟩, ⟨8, .data⟩], none⟩] : List Oper).toArray true).seq ((Code.region 19 ([⟨some 108, .move (.tmp 0), t, "slices.go:291", #[], none⟩, ⟨some 109, .move (.tmp 10), 3, "slices.go:291", #[], none⟩, ⟨some 110, .slice t (.tmp 108) (some (.tmp 109)) none none, t, "slices.go:291", #[⟨0, .data⟩, ⟨1, .data⟩], none⟩, ⟨none, .call { callee := .builtin .clear, args := #[.tmp 110], argTypes := #[t] }, 0, "slices.go:291", #[⟨2, .data⟩], none⟩] : List Oper).toArray false).seq ((Code.region 20 ([⟨some 111, .move (.tmp 12), t, "slices.go:292", #[], none⟩, ⟨some 8, .assign (.tmp 111), t, "slices.go:292", #[⟨0, .data⟩, ⟨0, .phase⟩], none⟩] : List Oper).toArray false).seq Code.ret)))) Code.skip)).seq gB))))))))

structure ReplaceI (P : Program) (f : Nat) (L : XL) (t : TypeId) : Prop extends SliceI P L t where
  fn : ∃ fn gA gB, P.funcs[f]? = some fn ∧ fn.body = some (replaceC t gA gB) ∧ fn.ntmps = 224 ∧ fn.results = #[.tmp 8]
  int : P.underlying 3 = some (.int .i64)
  one : ∃ z, cZ P L.el = some z ∧ z.all V.one = true
  mixed : P.follows .mixedOrders = true

section
variable {E : Env} {g : G} {m : XM} {w : World} {L : XL} {t : TypeId}

/-- clear, as an operation on values. -/
theorem x_clr (I : SliceI E.P L t) {z : List V} (hz : cZ E.P L.el = some z) (hz1 : z.all V.one = true) {b e off len : Nat} {cap : Option Nat} {cells : List V} {ty : TypeId} {ag : Bool} (hr : Rel g m w) (hm : m[b]? = some (.row cells ty ag L.s e)) (hfit : off + len * L.s ≤ cells.length) {ca : Value} (ha : VR w g (.sl b e off len cap) ca) :
    ∃ zs w', zs.length = len * L.s ∧ (∀ ty, Sem.run E.P (Builtin.clear_ #[t] ty #[ca]) w = .ok (.tuple #[]) w') ∧ Rel g (m.set b (.row (xfill cells off zs) ty ag L.s e)) w' ∧ g.to w g w' := by
  have ut : ∀ w, Sem.run E.P (underlying t) w = .ok (.slice L.el) w := run_underlying I.ty
  obtain ⟨zv, k1, k2, rfl, k4⟩ := cZ_spec hz
  obtain ⟨cz, hcz, hzr⟩ : ∃ cz, (∀ w, Sem.run E.P (zeroValue L.el) w = .ok cz w) ∧ ∀ g, VR w g zv cz := by
    obtain ⟨v, hv, rfl⟩ := Option.map_eq_some_iff.1 k1
    obtain ⟨i, hi, hz⟩ := Option.bind_eq_some_iff.1 hv
    exact ⟨v, fun w => by simp [zeroValue, typeInfo, program, hi, Sem.run, hz], fun g => ofC_rel g w 6 v⟩
  obtain ⟨ax, cap', rfl, hlc, _, hd⟩ := hr.sl hm ha
  have hzl : zv.cells.length = L.s := Option.some.inj (k4.symm.trans I.s)
  have hcr : CR w g zv.cells cz.cells := (hzr g).cells_rel (V.ok_ne k2)
  have hself : m.set b (.row (xfill cells off []) ty ag L.s e) = m := by
    simp only [xfill, List.nil_append, List.length_nil, Nat.add_zero, List.take_append_drop]
    apply List.ext_getElem?; intro j
    by_cases hj : b = j
    · subst hj; rw [List.getElem?_set_self (List.getElem?_eq_some_iff.1 hm).1, hm]
    · rw [List.getElem?_set_ne hj]
  by_cases h0 : len = 0
  · subst h0
    refine ⟨[], w, by simp, fun ty => ?_, by rw [hself]; exact hr, G.to.refl _ _⟩
    cases ax <;> simp [Builtin.clear_, ut]
  · rcases hd with hd | ⟨c, base, hb, rfl, hext⟩
    · omega
    · have hze := CR.zeros (n := len) hcr (by rw [hzl]; exact I.s0)
      have hvl : (vzeros zv len).length = len * L.s := by rw [vzeros_length, hzl]
      have hall : (vzeros zv len).all V.one = true := by
        rw [List.all_eq_true] at hz1 ⊢
        intro u hu
        simp only [vzeros, List.mem_flatten, List.mem_replicate] at hu
        obtain ⟨l, ⟨_, rfl⟩, hu⟩ := hu
        exact hz1 u hu
      have hzc : Builtin.zeroCells cz.cells len = (Array.range (len * zv.cells.length)).map fun i => cz.cells[i % cz.cells.size]! := by
        simp only [Builtin.zeroCells, hcr.1]
      obtain ⟨w', q1, q2, q3⟩ := Rel.storeCells (P := E.P) (vzeros zv len) (Builtin.zeroCells cz.cells len).toList m w cells 0 hr (o := off) hm hb (by rw [hvl]; omega) (by rw [← hze.1, hzc]; simp) (fun j u hu => by
        have := hze.2 j u hu
        rw [hzc, List.getD_eq_getElem?_getD, Array.getElem?_toList]
        simpa [Array.getD_eq_getD_getElem?] using this) hall
      rw [Nat.add_zero, vsetL_eq _ _ _ (by rw [hvl]; omega)] at q2
      have e2 : vfill cells off (vzeros zv len) = xfill cells off (vzeros zv len) := by simp [vfill, xfill]
      rw [e2] at q2
      refine ⟨_, w', hvl, fun ty => ?_, q2, q3⟩
      obtain ⟨n, rfl⟩ : ∃ n, len = n + 1 := ⟨len - 1, by omega⟩
      simp [Builtin.clear_, ut, hcz, q1]

/-- The state behind it, as if it had been appended to. -/
theorem bump (I : SliceI E.P L t) (hr : Rel g m w) {b e off len : Nat} {cap : Option Nat} {cells : List V} {ag : Bool} (hm : m[b]? = some (.row cells L.el ag L.s e)) (hfit : off + len * L.s ≤ cells.length) (hl : len ≤ 1073741824) (hb : len * L.by_ ≤ 140737488355328)
    {ax : Option Addr} {c : Nat} (ha : VR w g (.sl b e off len cap) (.slice ax len c)) :
    ∃ g', Rel g' (m.set b (.row ((cells.drop off).take (len * L.s)) L.el ag L.s (e + 1))) w ∧ g.to w g' w ∧ VR w g' (.sl b (e + 1) 0 len none) (.slice ax len c) := by
  have hc : len ≤ c := by cases ha; assumption
  have hy : VR w g .nsl (.slice none 0 0) := .nsl _
  have f1 : xe1 [(0, V.sl b e off len cap), (1, .nsl)] (.t 0) = .sl b e off len cap := rfl
  have f2 : xe1 [(0, V.sl b e off len cap), (1, .nsl)] (.t 1) = .nsl := rfl
  have := app_none (r := (.sl b (e + 1) 0 len none, m.set b (.row ((cells.drop off).take (len * L.s)) L.el ag L.s (e + 1)))) I hr (a := .sl b e off len cap) (y := .nsl) (by
    simp only [xapp, xop, f1, f2, xcells, hm]
    rw [if_pos ⟨trivial, trivial, trivial, hfit, hl, hb⟩, List.append_nil]
    rfl) hc ha hy
  exact this

set_option maxRecDepth 100000 in
set_option maxHeartbeats 4000000 in
theorem replace_a {f : Nat} (I : ReplaceI E.P f L t) (hr : Rel g m w) {b e off len i : Nat} {cap : Option Nat} {cells : List V} {ag : Bool} (hm : m[b]? = some (.row cells L.el ag L.s e)) (hfit : off + len * L.s ≤ cells.length) (hl : len ≤ 1073741824) (hb : len * L.by_ ≤ 140737488355328)
    {ax : Option Addr} {c : Nat} (ha : VR w g (.sl b e off len cap) (.slice ax len c)) (h1 : i < len) (ya : Option Addr) (yc : Nat) :
    CallsIn (FZ none) 0 E.P f #[.slice ax len c, .int .i64 i, .int .i64 len, .slice ya 0 yc] w (CallR g w (.inl (.sl b (e + 1) 0 i none)) (m.set b (.row (((cells.drop off).take (len * L.s)).take (i * L.s)) L.el ag L.s (e + 1)))) := by
  obtain ⟨fn, gA, gB, hf, hbd, hn, hres⟩ := I.fn
  obtain ⟨z, hz, hz1⟩ := I.one
  obtain ⟨inf, hinf, _⟩ := Option.map_eq_some_iff.1 I.s
  have ut : ∀ w, Sem.run E.P (underlying t) w = .ok (.slice L.el) w := run_underlying I.ty
  have u3 : ∀ w, Sem.run E.P (underlying 3) w = .ok (.int .i64) w := run_underlying I.int
  have hs : ∀ w, Sem.run E.P (sizeOf L.el) w = .ok L.s w := fun w => run_sizeOf I.s w
  have hlen : ∀ (w : World) (ty : TypeId) (a : Option Addr) (n c : Nat), Sem.run E.P (Builtin.len_ #[t] ty #[.slice a n c]) w = .ok (.int .i64 n) w := fun w ty a n c => by simp [Builtin.len_, ut, goInt]
  obtain ⟨ax', c', hca, hlc, _, hd⟩ := hr.sl hm ha
  cases hca
  obtain ⟨c0, base, hβ, rfl, hext⟩ : ∃ c0 base, g.β b = some (c0, base) ∧ ax = some ⟨c0, base + off, none⟩ ∧ base + off + c * g.sz b ≤ g.ext b := by
    rcases hd with hd | ⟨c0, base, h1, h2, h3⟩
    · omega
    · exact ⟨c0, base, h1, h2, h3⟩
  have hszb : g.sz b = L.s := by
    obtain ⟨_, hszb, _⟩ := hr.objs b _ _ hm hβ
    exact hszb
  have hep := hr.slEp hm ha
  have r1 : ∀ w, Sem.run E.P (Instr.sliceAt t (.slice (some ⟨c0, base + off, none⟩) len c) (some (.int .i64 i)) (some (.int .i64 len)) none) w = .ok (.slice (some ⟨c0, base + off + i * L.s, none⟩) (len - i) (c - i)) w := fun w => by
    have q1 : len ≤ c := hlc
    have q2 : i ≤ len := by omega
    have q3 : ¬ c = i := by omega
    simp [Instr.sliceAt, Instr.slice, ut, Instr.sliceBounds, hs, go_sem, q1, q2, q3, Addr.add_none]
  have r2 : ∀ w, Sem.run E.P (Instr.sliceAt t (.slice (some ⟨c0, base + off, none⟩) len c) none (some (.int .i64 i)) none) w = .ok (.slice (some ⟨c0, base + off, none⟩) i c) w := fun w => by
    have q1 : i ≤ c := by omega
    have q3 : ¬ c = 0 := by omega
    simp [Instr.sliceAt, Instr.slice, ut, Instr.sliceBounds, hs, go_sem, q1, q3, Addr.add_none]
  have r3 : ∀ w, Sem.run E.P (Instr.sliceAt t (.slice (some ⟨c0, base + off, none⟩) len c) (some (.int .i64 i)) none none) w = .ok (.slice (some ⟨c0, base + off + i * L.s, none⟩) (len - i) (c - i)) w := fun w => by
    have q2 : i ≤ len := by omega
    have q3 : ¬ c = i := by omega
    simp [Instr.sliceAt, Instr.slice, ut, Instr.sliceBounds, hs, go_sem, q2, q3, Addr.add_none]
  have happ : ∀ o : Oper, o.op = .call { callee := .builtin .append, args := #[.tmp 32, .tmp 33], argTypes := #[t, t] } → ∀ ac : Act, ac.eval (.tmp 32) = .slice (some ⟨c0, base + off, none⟩) i c → ac.eval (.tmp 33) = .slice ya 0 yc → (execOp ac.eval o).run E.P w = .ok (.value (.slice (some ⟨c0, base + off, none⟩) i c)) w := fun o ho ac h5 h6 => by
    simp [execOp, ho, resolve, invoke, builtin, h5, h6, run_append_none (P := E.P) (w := w) (a := ya) (b := some ⟨c0, base + off, none⟩) I.ty I.ty hinf (show i ≤ c by omega)]
  have v1 : VR w g (.sl b e off i none) (.slice (some ⟨c0, base + off, none⟩) i c) := .sl _ _ _ _ _ _ _ (by omega) (by omega) (fun c hc => by cases hc) fun _ => .inr ⟨c0, base, hβ, rfl, hext⟩
  have v2 : VR w g (.sl b e (off + i * L.s) (len - i) none) (.slice (some ⟨c0, base + off + i * L.s, none⟩) (len - i) (c - i)) := .sl _ _ _ _ _ _ _ (by omega) (by omega) (fun c hc => by cases hc) fun _ => .inr ⟨c0, base, hβ, by rw [Nat.add_assoc], by
    rw [hszb] at hext ⊢
    have : i * L.s + (c - i) * L.s = c * L.s := by rw [← Nat.add_mul]; congr 1; omega
    omega⟩
  have hmul : i * L.s + (len - i) * L.s = len * L.s := by rw [← Nat.add_mul]; congr 1; omega
  obtain ⟨zs, w', hzl, hclr, hr', ht'⟩ := x_clr I.toSliceI hz hz1 hr hm (by omega) v2
  have hlt : b < m.length := (List.getElem?_eq_some_iff.1 hm).1
  have him : i * L.s ≤ len * L.s := Nat.mul_le_mul_right _ (by omega)
  obtain ⟨g2, hr2, ht2, hv2⟩ := bump (len := i) (off := off) I.toSliceI hr' (by rw [List.getElem?_set_self hlt]) (by
      simp only [xfill, List.length_append, List.length_take, List.length_drop]
      omega) (by omega) (Nat.le_trans (Nat.mul_le_mul_right _ (by omega)) hb) (v1.mono ht'.tole)
  rw [List.set_set] at hr2
  have hcells : ((xfill cells (off + i * L.s) zs).drop off).take (i * L.s) = ((cells.drop off).take (len * L.s)).take (i * L.s) := by
    apply List.ext_getElem?
    intro q
    simp only [List.getElem?_take, List.getElem?_drop, xfill]
    by_cases hq : q < i * L.s
    · rw [if_pos hq, if_pos hq, if_pos (by omega), List.getElem?_append_left (by simp; omega), List.getElem?_take, if_pos (by omega)]
    · rw [if_neg hq, if_neg hq]
  rw [hcells] at hr2
  refine callsIn_of_wp hf hbd trivial ?_
  simp only [hn, List.size_toArray, List.length_cons, List.length_nil, Nat.reduceAdd, Nat.reduceSub, Array.replicate_succ, Array.replicate_zero, List.push_toArray, List.append_toArray, List.nil_append, List.cons_append]
  unfold replaceC FZ
  have e1 : ¬ ((i : Int) = len) := by omega
  have e2 : (i : Int) < len := by omega
  gi_wp2_with (refine wl_run rfl (fun _ h => by cases h) (happ _ rfl _ rfl rfl) ?_)
  unfold FZ
  gi_wp2
  exact ofReturn hres rfl ⟨g2, ht'.trans ht2, hr2, _, rfl, hv2⟩

set_option maxRecDepth 100000 in
set_option maxHeartbeats 4000000 in
theorem replace_b {f : Nat} (I : ReplaceI E.P f L t) (hr : Rel g m w) {b e off len i j k : Nat} {cap : Option Nat} {cells ys : List V} {ag : Bool} (hm : m[b]? = some (.row cells L.el ag L.s e)) (hfit : off + len * L.s ≤ cells.length) (hl : len ≤ 1073741824) (hb : len * L.by_ ≤ 140737488355328)
    {ax : Option Addr} {c : Nat} (ha : VR w g (.sl b e off len cap) (.slice ax len c)) (h1 : i < j) (h2 : j < len) (h3 : i + k = j) (hone : xone ((cells.drop off).take (len * L.s)) = true) {v : V} (hv : xcells m L.s v = some (k, ys)) {ya : Option Addr} {yc : Nat} (hcv : VR w g v (.slice ya k yc)) :
    CallsIn (FZ none) 0 E.P f #[.slice ax len c, .int .i64 i, .int .i64 j, .slice ya k yc] w
      (CallR g w (.inl (.sl b (e + 1) 0 len none)) (m.set b (.row (((cells.drop off).take (len * L.s)).take (i * L.s) ++ (ys ++ ((cells.drop off).take (len * L.s)).drop (j * L.s))) L.el ag L.s (e + 1)))) := by
  obtain ⟨fn, gA, gB, hf, hbd, hn, hres⟩ := I.fn
  obtain ⟨z, hz, hz1⟩ := I.one
  have ut : ∀ w, Sem.run E.P (underlying t) w = .ok (.slice L.el) w := run_underlying I.ty
  have u3 : ∀ w, Sem.run E.P (underlying 3) w = .ok (.int .i64) w := run_underlying I.int
  have hs : ∀ w, Sem.run E.P (sizeOf L.el) w = .ok L.s w := fun w => run_sizeOf I.s w
  have hlen : ∀ (w : World) (ty : TypeId) (a : Option Addr) (n c : Nat), Sem.run E.P (Builtin.len_ #[t] ty #[.slice a n c]) w = .ok (.int .i64 n) w := fun w ty a n c => by simp [Builtin.len_, ut, goInt]
  have hcap : ∀ (w : World) (ty : TypeId) (a : Option Addr) (n c : Nat), Sem.run E.P (Builtin.cap_ #[t] ty #[.slice a n c]) w = .ok (.int .i64 c) w := fun w ty a n c => by simp [Builtin.cap_, ut, goInt]
  obtain ⟨ax', c', hca, hlc, _, hd⟩ := hr.sl hm ha
  cases hca
  obtain ⟨c0, base, hβ, rfl, hext⟩ : ∃ c0 base, g.β b = some (c0, base) ∧ ax = some ⟨c0, base + off, none⟩ ∧ base + off + c * g.sz b ≤ g.ext b := by
    rcases hd with hd | ⟨c0, base, h1, h2, h3⟩
    · omega
    · exact ⟨c0, base, h1, h2, h3⟩
  have hszb : g.sz b = L.s := by
    obtain ⟨_, hszb, _⟩ := hr.objs b _ _ hm hβ
    exact hszb
  have hep := hr.slEp hm ha
  have hlt : b < m.length := (List.getElem?_eq_some_iff.1 hm).1
  have him : i * L.s ≤ len * L.s := Nat.mul_le_mul_right _ (by omega)
  have part : ∀ q, q < len → VR w g (.sl b e (off + q * L.s) (len - q) none) (.slice (some ⟨c0, base + off + q * L.s, none⟩) (len - q) (c - q)) := fun q hq => .sl _ _ _ _ _ _ _ (by omega) (by omega) (fun c hc => by cases hc) fun _ => .inr ⟨c0, base, hβ, by rw [Nat.add_assoc], by
    rw [hszb] at hext ⊢
    have : q * L.s + (c - q) * L.s = c * L.s := by rw [← Nat.add_mul]; congr 1; omega
    omega⟩
  have from_ : ∀ q, q < len → ∀ w, Sem.run E.P (Instr.sliceAt t (.slice (some ⟨c0, base + off, none⟩) len c) (some (.int .i64 q)) none none) w = .ok (.slice (some ⟨c0, base + off + q * L.s, none⟩) (len - q) (c - q)) w := fun q hq w => by
    have q2 : q ≤ len := by omega
    have q3 : ¬ c = q := by omega
    simp [Instr.sliceAt, Instr.slice, ut, Instr.sliceBounds, hs, go_sem, q2, q3, Addr.add_none]
  have r1 : ∀ w, Sem.run E.P (Instr.sliceAt t (.slice (some ⟨c0, base + off, none⟩) len c) (some (.int .i64 i)) (some (.int .i64 j)) none) w = .ok (.slice (some ⟨c0, base + off + i * L.s, none⟩) (j - i) (c - i)) w := fun w => by
    have q1 : j ≤ c := by omega
    have q2 : i ≤ j := by omega
    have q3 : ¬ c = i := by omega
    simp [Instr.sliceAt, Instr.slice, ut, Instr.sliceBounds, hs, go_sem, q1, q2, q3, Addr.add_none]
  have upto : ∀ q, q ≤ len → ∀ w, Sem.run E.P (Instr.sliceAt t (.slice (some ⟨c0, base + off, none⟩) len c) none (some (.int .i64 q)) none) w = .ok (.slice (some ⟨c0, base + off, none⟩) q c) w := fun q hq w => by
    have q1 : q ≤ c := by omega
    have q3 : ¬ c = 0 := by omega
    simp [Instr.sliceAt, Instr.slice, ut, Instr.sliceBounds, hs, go_sem, q1, q3, Addr.add_none]
  have r2 := upto i (by omega)
  have r3 := from_ j h2
  have r4 := upto len (Nat.le_refl _)
  have r5 := from_ i (by omega)
  obtain ⟨a6, r6⟩ : ∃ ad, ∀ w, Sem.run E.P (Instr.sliceAt t (.slice (some ⟨c0, base + off, none⟩) len c) (some (.int .i64 len)) none none) w = .ok (.slice (some ad) 0 (c - len)) w := by
    by_cases q3 : c = len
    · exact ⟨_, fun w => by simp [Instr.sliceAt, Instr.slice, ut, Instr.sliceBounds, hs, go_sem, q3]; rfl⟩
    · exact ⟨_, fun w => by simp [Instr.sliceAt, Instr.slice, ut, Instr.sliceBounds, hs, go_sem, q3]; rfl⟩
  have hclr : ∀ (w : World) (ty : TypeId) (a : Option Addr) (c : Nat), Sem.run E.P (Builtin.clear_ #[t] ty #[.slice a 0 c]) w = .ok (.tuple #[]) w := fun w ty a c => by cases a <;> simp [Builtin.clear_, ut]
  have w1 : IntKind.i64.wrap ((i : Int) + (k : Int)) = (j : Int) := by rw [IntKind.wrap_i64]; omega
  have w2 : IntKind.i64.wrap ((j : Int) + ((len - j : Nat) : Int)) = (len : Int) := by rw [IntKind.wrap_i64]; omega
  obtain ⟨p, c1, c2⟩ := xcells_vcells hv
  obtain ⟨ya', yc', arr, hcyv, hkc, hrd, hcr, hsz, hyone⟩ := vcells_sound (P := E.P) I.s0 c1 c2 hr hcv
  have hysl : ys.length = k * L.s := by rw [← hcr.1, hsz]
  have hij : i * L.s + k * L.s = j * L.s := by rw [← Nat.add_mul, h3]
  have hjl : j * L.s + (len - j) * L.s = len * L.s := by rw [← Nat.add_mul]; congr 1; omega
  have hil : i * L.s + (len - i) * L.s = len * L.s := by rw [← Nat.add_mul]; congr 1; omega
  -- the first copy
  have hc1 : OStep E m (ev1 [(95, .sl b e (off + i * L.s) (len - i) none), (96, v)]) (.call { callee := .builtin .copy, args := #[.tmp 95, .tmp 96], argTypes := #[t, t] }) (.int .i64 k) (m.set b (.row (xfill cells (off + i * L.s) ys) L.el ag L.s e)) := by
    refine x_cpy (x' := .t 95) (y' := .t 96) (ops1 _) rfl rfl I.ty I.s I.s0 ?_
    have g1 : xe1 [(95, V.sl b e (off + i * L.s) (len - i) none), (96, v)] (.t 95) = .sl b e (off + i * L.s) (len - i) none := rfl
    have g2 : xe1 [(95, V.sl b e (off + i * L.s) (len - i) none), (96, v)] (.t 96) = v := rfl
    have hmin : Nat.min k (len - i) = k := Nat.min_eq_left (by omega)
    simp only [xop, g1, g2, hm, hv]
    rw [if_pos ⟨trivial, trivial, by omega⟩, hmin, List.take_of_length_le (by omega)]
  obtain ⟨hrw, htw⟩ := hr.drewR
  -- the second copy
  have hlen1 : (xfill cells (off + i * L.s) ys).length = cells.length := by
    simp only [xfill, List.length_append, List.length_take, List.length_drop]; omega
  have htail : ((xfill cells (off + i * L.s) ys).drop (off + j * L.s)).take ((len - j) * L.s) = ((cells.drop off).take (len * L.s)).drop (j * L.s) := by
    apply List.ext_getElem?
    intro q
    simp only [List.getElem?_take, List.getElem?_drop, xfill]
    by_cases hq : q < (len - j) * L.s
    · rw [if_pos hq, if_pos (by omega), List.getElem?_append_right (by simp; omega), List.getElem?_append_right (by simp; omega), List.getElem?_drop]
      congr 1
      simp only [List.length_take]
      omega
    · rw [if_neg hq, if_neg (by omega)]
  have hsame : xfill (xfill cells (off + i * L.s) ys) (off + j * L.s) (((xfill cells (off + i * L.s) ys).drop (off + j * L.s)).take ((len - j) * L.s)) = xfill cells (off + i * L.s) ys := by
    generalize xfill cells (off + i * L.s) ys = u at hlen1 ⊢
    unfold xfill
    rw [List.length_take, List.length_drop, Nat.min_eq_left (by omega)]
    have e1 : List.drop (off + j * L.s + (len - j) * L.s) u = (u.drop (off + j * L.s)).drop ((len - j) * L.s) := by rw [List.drop_drop]
    rw [e1, List.take_append_drop, List.take_append_drop]
  have hc2 : ∀ {w1 : World} {g1 : G}, Rel g1 (m.set b (.row (xfill cells (off + i * L.s) ys) L.el ag L.s e)) w1 → g.to w g1 w1 → ∃ w2 g2, (∀ ty, Sem.run E.P (Builtin.copy_ #[t, t] ty #[.slice (some ⟨c0, base + off + j * L.s, none⟩) (len - j) (c - j), .slice (some ⟨c0, base + off + j * L.s, none⟩) (len - j) (c - j)]) w1 = .ok (.int .i64 ((len - j : Nat) : Int)) w2) ∧
      Rel g2 (m.set b (.row (xfill cells (off + i * L.s) ys) L.el ag L.s e)) w2 ∧ g1.to w1 g2 w2 := fun {w1 g1} hr1 ht1 => by
    let ac : Act := { tmps := #[.slice (some ⟨c0, base + off + j * L.s, none⟩) (len - j) (c - j)], defers := [] }
    have hos : OStep E (m.set b (.row (xfill cells (off + i * L.s) ys) L.el ag L.s e)) (ev1 [(0, .sl b e (off + j * L.s) (len - j) none)]) (.call { callee := .builtin .copy, args := #[.tmp 0, .tmp 0], argTypes := #[t, t] }) (.int .i64 ((len - j : Nat) : Int)) (m.set b (.row (xfill cells (off + i * L.s) ys) L.el ag L.s e)) := by
      refine x_cpy (x' := .t 0) (y' := .t 0) (ops1 _) rfl rfl I.ty I.s I.s0 ?_
      have g1 : xe1 [(0, V.sl b e (off + j * L.s) (len - j) none)] (.t 0) = .sl b e (off + j * L.s) (len - j) none := rfl
      have hx : xcells (m.set b (.row (xfill cells (off + i * L.s) ys) L.el ag L.s e)) L.s (.sl b e (off + j * L.s) (len - j) none) = some (len - j, ((xfill cells (off + i * L.s) ys).drop (off + j * L.s)).take ((len - j) * L.s)) := by
        simp only [xcells, List.getElem?_set_self hlt]
        rw [if_pos ⟨trivial, trivial, by rw [hlen1]; omega⟩, if_pos]
        rw [htail]
        unfold xone at hone ⊢
        rw [List.all_eq_true] at hone ⊢
        exact fun u hu => hone u (List.mem_of_mem_drop hu)
      simp only [xop, g1, hx, List.getElem?_set_self hlt]
      rw [if_pos ⟨trivial, trivial, by rw [hlen1]; omega⟩]
      have hmin : Nat.min (len - j) (len - j) = len - j := Nat.min_self _
      rw [hmin, List.take_take, Nat.min_self, hsame, List.set_set]
    obtain ⟨cv, w2, g2, k1, k2, k3, k4⟩ := hos hr1 (ev1_rel (a := ac) (by
      intro p hp
      simp only [List.mem_cons, List.mem_nil_iff, or_false] at hp
      subst hp
      exact (part j h2).mono ht1.tole))
    refine ⟨w2, g2, fun ty => ?_, k2, k3⟩
    have e0 : ac.eval (.tmp 0) = .slice (some ⟨c0, base + off + j * L.s, none⟩) (len - j) (c - j) := rfl
    obtain rfl : cv = .int .i64 ((len - j : Nat) : Int) := by cases k4; rfl
    rcases k1 none ty "" #[] none with h | ⟨_, h⟩
    · simp only [execOp, resolve, invoke, builtin, Sem.run_bind, Sem.run_pure, Result.andThen_ok, List.map_toArray, List.map_cons, List.map_nil, e0] at h
      cases hq : Sem.run E.P (Builtin.copy_ #[t, t] ty #[.slice (some ⟨c0, base + off + j * L.s, none⟩) (len - j) (c - j), .slice (some ⟨c0, base + off + j * L.s, none⟩) (len - j) (c - j)]) w1 with
      | ok a b => rw [hq] at h; simpa [Result.andThen] using h
      | halt a b => rw [hq] at h; simp [Result.andThen] at h
    · cases h
  refine callsIn_of_wp hf hbd trivial ?_
  simp only [hn, List.size_toArray, List.length_cons, List.length_nil, Nat.reduceAdd, Nat.reduceSub, Array.replicate_succ, Array.replicate_zero, List.push_toArray, List.append_toArray, List.nil_append, List.cons_append]
  unfold replaceC FZ
  have e1 : ¬ ((i : Int) = j) := by omega
  have e2 : ¬ ((j : Int) = len) := by omega
  have e3 : ¬ ((c : Int) < len) := by omega
  have mixed := I.mixed
  gi_wp2
  gi_region_o
  gi_wp2_with (refine wl_step [(95, .sl b e (off + i * L.s) (len - i) none), (96, v)] rfl hc1 hrw (by simp; exact ⟨(part i (by omega)).mono htw.tole, hcv.mono htw.tole⟩) (fun _ h => by cases h) ?_)
  intro g1 w1 cv1 hr1 ht1 hv1
  obtain rfl : cv1 = .int .i64 k := by cases hv1; rfl
  unfold FZ
  obtain ⟨hr1d, ht1d⟩ := hr1.drewR
  obtain ⟨w2, g2, hcp, hr2, ht2⟩ := hc2 hr1d ((htw.trans ht1).trans ht1d)
  gi_wp2
  gi_region_o
  gi_wp2
  obtain ⟨g3, hr3, ht3, hv3⟩ := bump (len := len) (off := off) I.toSliceI hr2 (by rw [List.getElem?_set_self hlt]) (by rw [hlen1]; exact hfit) hl hb (ha.mono (((htw.trans ht1).trans ht1d).trans ht2).tole)
  rw [List.set_set] at hr3
  have hcells : ((xfill cells (off + i * L.s) ys).drop off).take (len * L.s) = ((cells.drop off).take (len * L.s)).take (i * L.s) ++ (ys ++ ((cells.drop off).take (len * L.s)).drop (j * L.s)) := by
    apply List.ext_getElem?
    intro q
    simp only [List.getElem?_take, List.getElem?_drop, xfill, List.getElem?_append, List.length_take, List.length_drop]
    by_cases q1 : q < i * L.s
    · rw [if_pos (by omega), if_pos (by omega), if_pos (by omega), if_pos (by omega), if_pos (by omega), if_pos (by omega)]
    · by_cases q2 : q < i * L.s + ys.length
      · rw [if_pos (by omega), if_neg (by omega), if_pos (by omega), if_neg (by omega), if_pos (by omega)]
        congr 1; omega
      · by_cases q3 : q < len * L.s
        · rw [if_pos (by omega), if_neg (by omega), if_neg (by omega), if_neg (by omega), if_neg (by omega), if_pos (by omega)]
          congr 1; omega
        · rw [if_neg (by omega), if_neg (by omega), if_neg (by omega), if_neg (by omega)]
  rw [hcells] at hr3
  exact ofReturn hres rfl ⟨g3, (((htw.trans ht1).trans ht1d).trans ht2).trans ht3, hr3, _, rfl, hv3⟩

end
end Go.VC

/- The library's functions, walked: slices.Grow of a slice that has nothing. -/
namespace Go.VC
open Go Go.RowKit

/-- slices.Grow's code. -/
def growC (t : TypeId) : Code :=
  ((Code.region 0 ([⟨some 4, .assign (.const (Value.slice none 0 0)), t, "slices.go:422", #[], none⟩] : List Oper).toArray false).seq (((Code.region 1 ([⟨some 5, .move (.tmp 1), 3, "slices.go:423", #[], none⟩, ⟨some 6, .binOp .lss 3 (.tmp 5) (.const (Value.int IntKind.i64 0)) 3, 4, "slices.go:423", #[⟨0, .data⟩], none⟩] : List Oper).toArray false).seq (Code.cond (.tmp 6) (Code.region 2 ([⟨some 7, .makeInterface 9 (.const (Value.string { data := #[99, 97, 110, 110, 111, 116, 32, 98, 101, 32, 110, 101, 103, 97, 116, 105, 118, 101] })), 20, "slices.go:424", #[], none⟩, ⟨none, .panic (.tmp 7), 0, "slices.go:424", #[⟨0, .data⟩], none⟩] : List Oper).toArray false) Code.skip)).seq (((Code.region 3 ([⟨some 8, .move (.tmp 1), 3, "slices.go:426", #[], none⟩, ⟨some 9, .move (.tmp 0), t, "slices.go:426", #[], none⟩, ⟨some 10, .call { callee := .builtin .cap, args := #[.tmp 9], argTypes := #[t] }, 3, "slices.go:426", #[⟨1, .data⟩], none⟩, ⟨some 11, .move (.tmp 0), t, "slices.go:426", #[], none⟩, ⟨some 12, .call { callee := .builtin .len, args := #[.tmp 11], argTypes := #[t] }, 3, "slices.go:426", #[⟨3, .data⟩], none⟩, ⟨some 13, .binOp .sub 3 (.tmp 10) (.tmp 12) 3, 3, "slices.go:426", #[⟨2, .data⟩, ⟨4, .data⟩], none⟩, ⟨some 14, .binOp .sub 3 (.tmp 8) (.tmp 13) 3, 3, "slices.go:426", #[⟨0, .data⟩, ⟨5, .data⟩], none⟩, ⟨some 1, .assign (.tmp 14), 3, "slices.go:426", #[⟨6, .data⟩, ⟨0, .phase⟩, ⟨1, .phase⟩, ⟨2, .phase⟩, ⟨3, .phase⟩, ⟨4, .phase⟩, ⟨5, .phase⟩, ⟨6, .phase⟩], none⟩] : List Oper).toArray false).seq ((Code.region 4 ([⟨some 15, .move (.tmp 1), 3, "slices.go:426", #[], none⟩, ⟨some 16, .binOp .gtr 3 (.tmp 15) (.const (Value.int IntKind.i64 0)) 3, 4, "slices.go:426", #[⟨0, .data⟩], none⟩] : List Oper).toArray false).seq (Code.cond (.tmp 16) (Code.region 5 ([⟨some 17, .move (.tmp 0), t, "slices.go:428", #[], none⟩, ⟨some 18, .move (.tmp 0), t, "slices.go:428", #[], none⟩, ⟨some 19, .call { callee := .builtin .cap, args := #[.tmp 18], argTypes := #[t] }, 3, "slices.go:428", #[⟨1, .data⟩], none⟩, ⟨some 20, .slice t (.tmp 17) none (some (.tmp 19)) none, t, "slices.go:428", #[⟨0, .data⟩, ⟨2, .data⟩], none⟩, ⟨some 21, .move (.tmp 1), 3, "slices.go:428", #[], none⟩, ⟨some 22, .call { callee := .builtin .append, args := #[.tmp 20, .tmp 21], argTypes := #[t, 3] }, t, "slices.go:428", #[⟨3, .data⟩, ⟨4, .data⟩], none⟩, ⟨some 23, .move (.tmp 0), t, "slices.go:428", #[], none⟩, ⟨some 24, .call { callee := .builtin .len, args := #[.tmp 23], argTypes := #[t] }, 3, "slices.go:428", #[⟨6, .data⟩], none⟩, ⟨some 25, .slice t (.tmp 22) none (some (.tmp 24)) none, t, "slices.go:428", #[⟨5, .data⟩, ⟨7, .data⟩], none⟩, ⟨some 0, .assign (.tmp 25), t, "slices.go:428", #[⟨8, .data⟩, ⟨5, .chain⟩, ⟨0, .phase⟩, ⟨1, .phase⟩, ⟨2, .phase⟩, ⟨3, .phase⟩, ⟨4, .phase⟩, ⟨5, .phase⟩, ⟨6, .phase⟩, ⟨7, .phase⟩, ⟨8, .phase⟩], none⟩] : List Oper).toArray false) Code.skip))).seq ((Code.region 6 ([⟨some 26, .move (.tmp 0), t, "slices.go:430", #[], none⟩, ⟨some 4, .assign (.tmp 26), t, "slices.go:430", #[⟨0, .data⟩, ⟨0, .phase⟩], none⟩] : List Oper).toArray false).seq Code.ret))))

structure GrowI (P : Program) (f : Nat) (L : XL) (t : TypeId) : Prop extends SliceI P L t where
  fn : ∃ fn, P.funcs[f]? = some fn ∧ fn.body = some (growC t) ∧ fn.ntmps = 27 ∧ fn.results = #[.tmp 4]
  int : P.underlying 3 = some (.int .i64)

section
variable {E : Env} {g : G} {m : XM} {w : World} {L : XL} {t : TypeId}

/-- An operation whose run is known (the fence spelt out). -/
theorem wl_run2 {P : Program} {ops : Array Oper} {Q : Exit → Act → World → Prop} {rest : List Oper} {o : Oper} {a : Act} {cv : Value} {w w' : World} (hg : o.guard = none) (hnd : ∀ c, o.op ≠ .defer c) (h : (execOp a.eval o).run P w = .ok (.value cv) w')
    (hk : wpListIn { fn := fun _ => True, depth := none, alive := false, round := none } 0 P ops Q rest (a.put o.dst cv) w') : wpListIn { fn := fun _ => True, depth := none, alive := false, round := none } 0 P ops Q (o :: rest) a w := wl_run (r := none) hg hnd h hk

theorem grow_sound {f : Nat} (I : GrowI E.P f L t) (hr : Rel g m w) (ax : Option Addr) (n : Nat) (h1 : n ≤ 1048576) (h2 : n * L.by_ ≤ 140737488355328) :
    CallsIn (FZ none) 0 E.P f #[.slice ax 0 0, .int .i64 n] w (CallR g w (.inl (.sl m.length 0 0 0 none)) (m ++ [.row [] L.el L.ag L.s 0])) := by
  obtain ⟨fn, hf, hbd, hn, hres⟩ := I.fn
  obtain ⟨z, hz⟩ := I.z
  obtain ⟨zv, k1, k2, rfl, k4⟩ := cZ_spec hz
  obtain ⟨inf, hinf, hsz⟩ := Option.map_eq_some_iff.1 I.s
  obtain ⟨inf', hinf', hby⟩ := Option.map_eq_some_iff.1 I.by_
  obtain rfl : inf = inf' := Option.some.inj (hinf.symm.trans hinf')
  obtain ⟨cz, hcz⟩ : ∃ cz, inf.zero = some cz := by
    obtain ⟨v, hv, _⟩ := Option.map_eq_some_iff.1 k1
    obtain ⟨i, hi, hz⟩ := Option.bind_eq_some_iff.1 hv
    rw [hinf] at hi; cases hi
    exact ⟨v, hz⟩
  have ut : ∀ w, Sem.run E.P (underlying t) w = .ok (.slice L.el) w := run_underlying I.ty
  have u3 : ∀ w, Sem.run E.P (underlying 3) w = .ok (.int .i64) w := run_underlying I.int
  have hs : ∀ w, Sem.run E.P (sizeOf L.el) w = .ok L.s w := fun w => run_sizeOf I.s w
  have hlen : ∀ (w : World) (ty : TypeId) (a : Option Addr) (n c : Nat), Sem.run E.P (Builtin.len_ #[t] ty #[.slice a n c]) w = .ok (.int .i64 n) w := fun w ty a n c => by simp [Builtin.len_, ut, goInt]
  have hcap : ∀ (w : World) (ty : TypeId) (a : Option Addr) (n c : Nat), Sem.run E.P (Builtin.cap_ #[t] ty #[.slice a n c]) w = .ok (.int .i64 c) w := fun w ty a n c => by simp [Builtin.cap_, ut, goInt]
  have r1 : ∀ w, Sem.run E.P (Instr.sliceAt t (.slice ax 0 0) none (some (.int .i64 0)) none) w = .ok (.slice ax 0 0) w := fun w => by
    simp [Instr.sliceAt, Instr.slice, ut, Instr.sliceBounds, hs, go_sem]
  have r2 : ∀ (b c : Nat) w, 0 < c → Sem.run E.P (Instr.sliceAt t (.slice (some ⟨b, 0, none⟩) n c) none (some (.int .i64 0)) none) w = .ok (.slice (some ⟨b, 0, none⟩) 0 c) w := fun b c w hc => by
    have q3 : ¬ c = 0 := by omega
    simp [Instr.sliceAt, Instr.slice, ut, Instr.sliceBounds, hs, go_sem, q3, Addr.add_none]
  have w1 : IntKind.i64.wrap ((n : Int) - 0) = (n : Int) := by rw [IntKind.wrap_i64]; omega
  have w2 : IntKind.i64.wrap (n : Int) = (n : Int) := by rw [IntKind.wrap_i64]; omega
  have w0 : IntKind.i64.wrap 0 = 0 := by rw [IntKind.wrap_i64]; omega
  have hneg : ¬ ((n : Int) < 0) := by omega
  obtain ⟨hm1, hn1⟩ := hr.more (.row [] L.el L.ag L.s 0) rfl
  refine callsIn_of_wp hf hbd trivial ?_
  simp only [hn, List.size_toArray, List.length_cons, List.length_nil, Nat.reduceAdd, Nat.reduceSub, Array.replicate_succ, Array.replicate_zero, List.push_toArray, List.append_toArray, List.nil_append, List.cons_append]
  unfold growC FZ
  by_cases h0 : n = 0
  · subst h0
    gi_wp2
    exact ofReturn hres rfl ⟨g, G.to.refl _ _, hm1, _, rfl, .sl _ _ _ _ _ _ _ (Nat.zero_le _) (Nat.le_refl _) (fun c hc => by cases hc) fun _ => .inl rfl⟩
  · have hpos : (0 : Int) < n := by omega
    have hbs : n * inf.bytes ≤ 140737488355328 := by rw [hby]; exact h2
    obtain ⟨arr, harr, hasz⟩ : ∃ arr, Builtin.zeroCells cz.cells n ++ Builtin.zeroCells cz.cells (grownCap w n 0 L.el - n) = arr ∧ arr.size = grownCap w n 0 L.el * L.s := by
      have hge := grownCap_ge w n 0 L.el
      have hczs : cz.cells.size = L.s := by
        have h3 : zv = ofC 6 cz := by
          obtain ⟨v, hv, hv2⟩ := Option.map_eq_some_iff.1 k1
          obtain ⟨i, hi, hz⟩ := Option.bind_eq_some_iff.1 hv
          rw [hinf] at hi; cases hi
          rw [hcz] at hz; cases hz
          exact hv2.symm
        have := (ofC_rel g w 6 cz).cells_rel (V.ok_ne (by rw [← h3]; exact k2))
        rw [← h3] at this
        exact this.1.trans (Option.some.inj (k4.symm.trans I.s))
      refine ⟨_, rfl, ?_⟩
      rw [Array.size_append, size_zeroCells, size_zeroCells, hczs, ← Nat.add_mul]
      congr 1; omega
    have happ : ∀ o : Oper, o.op = .call { callee := .builtin .append, args := #[.tmp 20, .tmp 21], argTypes := #[t, 3] } → ∀ ac : Act, ac.eval (.tmp 20) = .slice ax 0 0 → ac.eval (.tmp 21) = .int .i64 n →
        (execOp ac.eval o).run E.P w = .ok (.value (.slice (some ⟨w.heap.size, 0, none⟩) n (grownCap w n 0 L.el))) (w.drew.alloc (.cells arr L.el)) := fun o ho ac h5 h6 => by
      have := Lib.run_append_grow_zeros (P := E.P) w t 3 o.type L.el inf cz .i64 .i64 I.ty I.int hinf hcz ax 0 0 [] (by cases ax <;> simp [Builtin.firstCells, loadCells, loadCellsFrom]) n (by omega) (by have := I.s0; omega) (by omega) (by omega) (by omega) (by
        rw [Nat.zero_add, nextslicecap_zero (by omega)]; omega)
      simp only [Nat.zero_add, Array.empty_append] at this
      rw [harr] at this
      simp [execOp, ho, resolve, invoke, builtin, h5, h6, this]
    have hge := grownCap_ge w n 0 L.el
    have r2' := r2 w.heap.size (grownCap w n 0 L.el)
    have r3 := fun w => r2' w (by omega)
    gi_wp2_with (refine wl_run2 rfl (fun _ h => by cases h) (happ _ rfl _ rfl rfl) ?_)
    have h00 := hr.fresh _ (Nat.le_refl m.length)
    have hp0 := hr.pd_out (b := m.length) (Nat.le_refl _)
    obtain ⟨hd1, hd2⟩ := hm1.drewR
    obtain ⟨h3, h4⟩ := hd1.row hn1 (cells := []) (ty := L.el) (ag := L.ag) (sz := L.s) (ep := 0) (by simp) (Nat.le_of_eq h00) (cs := arr) (by simp) (fun j u hu => by simp at hu)
    refine ofReturn hres rfl ⟨_, hd2.trans (h4.of_np (G.put_pd _ hp0 _ _ _ _)), h3, _, rfl, .sl _ _ _ _ _ _ (grownCap w n 0 L.el) (Nat.zero_le _) (Nat.zero_le _) (fun c hc => by cases hc) fun _ => .inr ⟨w.heap.size, 0, by simp [G.put], rfl, ?_⟩⟩
    simp only [G.put, if_true]
    rw [hasz]; omega
end
end Go.VC

/- The library's functions do what they are taken for. -/
namespace Go.VC
open Go Go.RowKit

section
variable {E : Env} {g : G} {m : XM} {w : World}

/-- A function of the library's, at its type. -/
inductive LibI (P : Program) (f : Nat) (L : XL) : Prop
  | clone (t : TypeId) (h : L.k = .clone) (I : CloneI P f L t)
  | insert (t : TypeId) (h : L.k = .insert) (I : InsertI P f L t)
  | replace (t : TypeId) (h : L.k = .replace) (I : ReplaceI P f L t)
  | grow (t : TypeId) (h : L.k = .grow) (I : GrowI P f L t)
  | delete (h : L.k = .delete)

theorem AR.one {xs' : Array Value} {a : V} (h : AR w g [a] xs') : ∃ ca, xs' = #[ca] ∧ VR w g a ca := by
  obtain ⟨l⟩ := xs'
  have h1 : l.length = 1 := h.1
  match l, h1 with
  | [x], _ => exact ⟨x, rfl, by simpa using h.2 0 a rfl⟩

theorem AR.two {xs' : Array Value} {a b : V} (h : AR w g [a, b] xs') : ∃ ca cb, xs' = #[ca, cb] ∧ VR w g a ca ∧ VR w g b cb := by
  obtain ⟨l⟩ := xs'
  have h1 : l.length = 2 := h.1
  match l, h1 with
  | [x, y], _ => exact ⟨x, y, rfl, by simpa using h.2 0 a rfl, by simpa using h.2 1 b rfl⟩

theorem AR.three {xs' : Array Value} {a b c : V} (h : AR w g [a, b, c] xs') : ∃ ca cb cc, xs' = #[ca, cb, cc] ∧ VR w g a ca ∧ VR w g b cb ∧ VR w g c cc := by
  obtain ⟨l⟩ := xs'
  have h1 : l.length = 3 := h.1
  match l, h1 with
  | [x, y, z], _ => exact ⟨x, y, z, rfl, by simpa using h.2 0 a rfl, by simpa using h.2 1 b rfl, by simpa using h.2 2 c rfl⟩

theorem AR.four {xs' : Array Value} {a b c d : V} (h : AR w g [a, b, c, d] xs') : ∃ ca cb cc cd, xs' = #[ca, cb, cc, cd] ∧ VR w g a ca ∧ VR w g b cb ∧ VR w g c cc ∧ VR w g d cd := by
  obtain ⟨l⟩ := xs'
  have h1 : l.length = 4 := h.1
  match l, h1 with
  | [x, y, z, u], _ => exact ⟨x, y, z, u, rfl, by simpa using h.2 0 a rfl, by simpa using h.2 1 b rfl, by simpa using h.2 2 c rfl, by simpa using h.2 3 d rfl⟩

theorem lib_sound {f : Nat} {L : XL} (I : LibI E.P f L) {xs : List V} {r : V × XM} (h : xlib L m xs = some r) (hr : Rel g m w) {xs' : Array Value} (hx : AR w g xs xs') : CallsIn (FZ none) 0 E.P f xs' w (CallR g w (.inl r.1) r.2) := by
  unfold xlib at h
  cases I with
  | delete hk => rw [hk] at h; cases h
  | clone t hk I =>
    rw [hk] at h
    dsimp only at h
    split at h <;> first | (cases h; done) | skip
    all_goals try (rename_i h0; cases h0; done)
    rename_i a h0
    obtain ⟨ca, rfl, ha⟩ := hx.one
    exact clone_sound I h hr ha
  | insert t hk I =>
    rw [hk] at h
    split at h <;> first | (cases h; done) | skip
    all_goals try (rename_i h0; cases h0; done)
    rename_i a i v h0
    split at h <;> first | (cases h; done) | skip
    rename_i hi
    subst hi
    obtain ⟨⟨k, ys⟩, hv, h⟩ := Option.bind_eq_some_iff.1 h
    obtain ⟨ca, cb, cc, rfl, ha, hb, hc⟩ := hx.three
    cases hb
    exact insert_sound I hv h hr ha hc
  | replace t hk I =>
    rw [hk] at h
    split at h <;> first | (cases h; done) | skip
    all_goals try (rename_i h0; cases h0; done)
    rename_i a i j v h0
    obtain ⟨⟨k, ys⟩, hv, h⟩ := Option.bind_eq_some_iff.1 h
    dsimp only at h
    split at h <;> first | (cases h; done) | skip
    rename_i hc
    obtain ⟨ca, cb, cc, cd, rfl, ha, hb, hcc, hd⟩ := hx.four
    cases hb
    cases hcc
    unfold xsplice at h
    split at h <;> first | (cases h; done) | skip
    · rename_i hsh
      split at h <;> first | (cases h; done) | skip
      rename_i h2
      omega
    · rename_i b e off len cap hsh
      split at h <;> first | (cases h; done) | skip
      rename_i cells ty ag sz ep hm
      split at h <;> first | (cases h; done) | skip
      rename_i h2
      obtain ⟨rfl, rfl, rfl, h3, h4, h5, h6, h7, h8⟩ := h2
      simp only [Option.some.injEq] at h
      subst h
      obtain ⟨p, c1, c2⟩ := xcells_vcells hv
      obtain ⟨ya, yc, arr, rfl, hkc, hrd, hcr, hsz, hone⟩ := vcells_sound (P := E.P) I.s0 c1 c2 hr hd
      obtain ⟨i, rfl⟩ : ∃ n : Nat, i = n := ⟨i.toNat, by omega⟩
      obtain ⟨j, rfl⟩ : ∃ n : Nat, j = n := ⟨j.toNat, by omega⟩
      obtain ⟨ax, c, rfl, hlc, _, _⟩ := hr.sl hm ha
      simp only [Int.toNat_natCast]
      obtain ⟨hij, hc⟩ := hc
      simp only [vlen] at hc
      rcases hc with ⟨hj, rfl⟩ | ⟨hj, hk2, hca⟩
      · obtain rfl : j = len := by omega
        have hys : ys = [] := List.eq_nil_of_length_eq_zero (by rw [← hcr.1, hsz]; simp)
        subst hys
        have := replace_a I hr hm h3 (by omega) (by simpa using h8) ha (i := i) (by omega) ya yc
        have e1 : ((cells.drop off).take (j * L.s)).drop (j * L.s) = [] := List.drop_of_length_le (by simp; omega)
        rw [e1, List.append_nil, List.append_nil, show j + 0 - (j - i) = i by omega]
        exact this
      · have hone : xone ((cells.drop off).take (len * L.s)) = true := by
          simp only [xcells, hm] at hca
          rw [if_pos ⟨trivial, trivial, h3⟩] at hca
          cases hq : xone ((cells.drop off).take (len * L.s)) with
          | true => rfl
          | false => rw [hq] at hca; simp at hca
        have := replace_b I hr hm h3 (by omega) (Nat.le_trans (Nat.mul_le_mul_right _ (by omega)) h8) ha (i := i) (j := j) (k := k) (by omega) (by omega) (by omega) hone hv hd
        rw [show len + k - (j - i) = len by omega]
        exact this
  | grow t hk I =>
    rw [hk] at h
    split at h <;> first | (cases h; done) | skip
    all_goals try (rename_i h0; cases h0; done)
    rename_i n h0
    split at h <;> first | (cases h; done) | skip
    rename_i hc
    cases h
    obtain ⟨ca, cb, rfl, ha, hb⟩ := hx.two
    cases hb
    obtain ⟨n, rfl⟩ : ∃ k : Nat, n = k := ⟨n.toNat, by omega⟩
    cases ha
    exact grow_sound I hr _ n (by omega) (by have := hc.2.2; rw [← Int.natCast_mul] at this; omega)

end
end Go.VC

