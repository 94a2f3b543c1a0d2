/- Calls: what is asked of them; calls that are made apart. -/
import Derived.Test.YtibgbgjocbaflaaGreatDoorMc
import Derived.Laws.Sem
namespace Go.VC
open Go Go.RowKit

/-- The fence that asks nothing, in a round or not. -/
def FZ (r : Option Nat) : Fence := { fn := fun _ => True, depth := none, alive := false, round := r }

theorem FZ_room (r : Option Nat) (n : Nat) : (FZ r).room n := fun _ h => by cases h

/-- What code of the program is what code of the machine. -/
def LK (E : Env) : Code → XC → Prop := fun c x => cC E.P c = some x ∧ x.noD = true

def OutR (w : World) (g : G) : Sum V V → Ending → Prop
  | .inl v, e => ∃ cv, e = .returned cv ∧ VR w g v cv
  | .inr v, e => ∃ cv, e = .panicked [{ v := cv, recovered := false }] ∧ VR w g v cv

/-- How a call ends. -/
def CallR (g : G) (w : World) (out : Sum V V) (m' : XM) : Ending → World → Prop := fun e w' => ∃ g', g.to w g' w' ∧ Rel g' m' w' ∧ OutR w' g' out e

/-- What is asked of the machine's calls. -/
def CS (E : Env) (C : XCall) : Prop := ∀ {f : Nat} {m : XM} {xs : List V} {r : XR}, C f m xs = some r → ∀ {g : G} {w : World} {xs' : Array Value}, Rel g m w → GlobR E w g → g.lk = LK E → AR w g xs xs' →
  CallsIn (FZ none) 0 E.P f xs' w (CallR g w r.out r.m)

def LibS (E : Env) (X : XP) : Prop := ∀ {f : Nat} {L : XL} {m : XM} {xs : List V} {r : V × XM}, X.lib f = some L → xlib L m xs = some r → ∀ {g : G} {w : World} {xs' : Array Value}, Rel g m w → GlobR E w g → g.lk = LK E → AR w g xs xs' →
  CallsIn (FZ none) 0 E.P f xs' w (CallR g w (.inl r.1) r.2)

section
variable {E : Env} {g : G} {m : XM} {w : World}

theorem frz_pure (g2 : G) : ∀ (n : Nat) (v : V) (cv : Value), xpure n v = true → VR w g v cv → VR w (g2.iso g.I) (xfrz m n v) cv := by
  intro n
  induction n with
  | zero =>
    intro v cv hp hv
    cases v <;> simp only [xfrz] <;> first | exact .und _ | skip
    all_goals first
      | (cases hv; first | exact .int _ _ | exact .bool _ | exact .str _ | exact .nsl _ | exact .nptr | exact .nmap | exact .nfn | exact .nifc; done)
      | exact hv.move (fun _ _ h => h) (.inl ⟨_, rfl⟩)
      | exact hv.move (fun _ _ h => h) (.inr (.inl ⟨_, rfl⟩))
      | exact hv.move (fun _ _ h => h) (.inr (.inr ⟨_, _, rfl⟩))
  | succ n ih =>
    intro v cv hp hv
    have list : ∀ (cs : List V) (vs : Array Value), cs.all (xpure n) = true → (∀ (i : Nat) c, cs[i]? = some c → VR w g c (vs.getD i undef)) → ∀ (i : Nat) c, (cs.map (xfrz m n))[i]? = some c → VR w (g2.iso g.I) c (vs.getD i undef) := by
      intro cs vs h1 h2 i c hc
      simp only [List.getElem?_map, Option.map_eq_some_iff] at hc
      obtain ⟨x, hx, rfl⟩ := hc
      exact ih _ _ (List.all_eq_true.1 h1 x (List.mem_of_getElem? hx)) (h2 i x hx)
    cases v <;> try simp only [xfrz]
    all_goals first | exact .und _ | skip
    all_goals first
      | (cases hv; first | exact .int _ _ | exact .bool _ | exact .str _ | exact .nsl _ | exact .nptr | exact .nmap | exact .nfn | exact .nifc; done)
      | exact hv.move (fun _ _ h => h) (.inl ⟨_, rfl⟩)
      | exact hv.move (fun _ _ h => h) (.inr (.inl ⟨_, rfl⟩))
      | exact hv.move (fun _ _ h => h) (.inr (.inr ⟨_, _, rfl⟩))
      | skip
    case agg cs =>
      cases hv with
      | agg _ vs hl h => exact .agg _ vs (by simpa using hl) (list cs vs (by simpa [xpure] using hp) h)
    case tup cs =>
      cases hv with
      | tup _ vs hl h => exact .tup _ vs (by simpa using hl) (list cs vs (by simpa [xpure] using hp) h)
    case ifc t v =>
      cases hv with
      | ifc _ _ v' h => exact .ifc _ _ _ (ih _ _ (by simpa [xpure] using hp) h)
    case fn f xs ys =>
      cases f <;> simp only [xfrz] <;> first | exact .und _ | skip
      cases hv with
      | fn _ _ _ xs' ys' hx hy h1 h2 =>
        simp only [xpure, Bool.and_eq_true] at hp
        exact .fn _ _ _ _ _ (by simpa using hx) (by simpa using hy) (list xs xs' hp.1 h1) (list ys ys' hp.2 h2)
    case sl => simp [xpure] at hp
    case ptr => simp [xpure] at hp
    case map => simp [xpure] at hp

theorem flat_rel {g g' : G} {w : World} : ∀ (n : Nat) (v : V) (cv : Value), xflat n v = true → VR w g v cv → VR w g' v cv := by
  intro n
  induction n with
  | zero =>
    intro v cv hf hv
    cases hv <;> first | (simp [xflat] at hf; done) | skip
    all_goals first | exact .int _ _ | exact .bool _ | exact .str _ | exact .nsl _ | exact .nptr | exact .nmap | exact .nfn | exact .nifc | exact .pnil _ | skip
    case psl rows n sz blk off cap val hn hs hc h1 h2 h3 =>
      cases rows with
      | nil => exact .psl _ n sz blk off cap val hn hs hc (fun i r j c a => by simp at a) (fun i r j c a => by simp at a) (fun i r j c a => by simp at a)
      | cons a b => simp [xflat] at hf
  | succ n ih =>
    intro v cv hf hv
    cases hv <;> first | (simp [xflat] at hf; done) | skip
    all_goals first | exact .int _ _ | exact .bool _ | exact .str _ | exact .nsl _ | exact .nptr | exact .nmap | exact .nfn | exact .nifc | exact .pnil _ | skip
    case psl rows n sz blk off cap val hn hs hc h1 h2 h3 =>
      cases rows with
      | nil => exact .psl _ n sz blk off cap val hn hs hc (fun i r j c a => by simp at a) (fun i r j c a => by simp at a) (fun i r j c a => by simp at a)
      | cons a b => simp [xflat] at hf
    case agg cs vs hl h =>
      have hf : cs.all (xflat n) = true := by simpa [xflat] using hf
      exact .agg cs vs hl fun i c hc => ih _ _ (List.all_eq_true.1 hf c (List.mem_of_getElem? hc)) (h i c hc)
    case tup cs vs hl h =>
      have hf : cs.all (xflat n) = true := by simpa [xflat] using hf
      exact .tup cs vs hl fun i c hc => ih _ _ (List.all_eq_true.1 hf c (List.mem_of_getElem? hc)) (h i c hc)

theorem Rel.iso (g : G) {I : Nat → Nat → Prop} (hI : ∀ blk o, I blk o → blk < w.heap.size) : Rel (g.iso I) [] w where
  objs b o c h := by simp at h
  dom b c h := by cases h
  fresh _ _ := rfl
  eps b o h := by simp at h
  own b c h := by cases h
  inj b b' c c' h := by cases h
  imm blk o h := ⟨hI _ _ h, fun b c h => by cases h⟩
  pend b o h := by cases h

theorem GlobR.iso (h : GlobR E w g) {I : Nat → Nat → Prop} (hI : ∀ b o, g.I b o → I b o) (g2 : G) : GlobR E w (g2.iso I) := fun n cs hn => (h n cs hn).move hI (.inr (.inl ⟨_, rfl⟩))

theorem callp_sound {C : XCall} (hC : CS E C) {f : Nat} {xs : List V} {out : Sum V V} {m2 : XM} (h : xcallp C f m xs = some (out, m2)) (hr : Rel g m w) (hg : GlobR E w g) (hlk : g.lk = LK E) {xs' : Array Value} (hx : AR w g xs xs') :
    CallsIn (FZ none) 0 E.P f xs' w (CallR g w out m2) := by
  unfold xcallp at h
  split at h <;> first | (cases h; done) | skip
  rename_i v m' hc
  dsimp only at h
  split at h <;> first | (cases h; done) | skip
  rename_i hcond
  simp only [Option.some.injEq, Prod.mk.injEq] at h
  obtain ⟨rfl, rfl⟩ := h
  have main : ∀ I0 : Nat → Nat → Prop, (∀ blk o, I0 blk o → blk < w.heap.size) → (∀ b o, g.I b o → I0 b o) → AR w (g.iso I0) (xs.map (xfrz m 9)) xs' →
      (∀ g1 w', (g.iso I0).to w g1 w' → Rel g1 m' w' → ∀ cv, VR w' g1 v cv → VR w' { g with I := fun b o => g.I b o ∨ (w.heap.size ≤ b ∧ b < w'.heap.size) } (xfrz m' 9 v) cv) →
      CallsIn (FZ none) 0 E.P f xs' w (CallR g w (.inl (xfrz m' 9 v)) m) := by
    intro I0 h1 h2 h3 h4
    refine (hC hc (Rel.iso g h1) (hg.iso h2 g) hlk h3).mono fun e w' he => ?_
    obtain ⟨g1, k1, k2, cv, rfl, k3⟩ := he
    have hb : Below w.heap.size w w' := ⟨k1.env.1, k1.env.2.1, k1.env.2.2, k1.size, fun k hk => k1.oth k hk fun b c h => by cases h⟩
    obtain ⟨q1, q2⟩ := hr.grow hb
    exact ⟨_, q2, q1, cv, rfl, h4 g1 w' k1 k2 cv k3⟩
  have arr : ∀ I0 : Nat → Nat → Prop, (∀ b c o, g.β b = some c → I0 c.1 o) → (∀ b o, g.I b o → I0 b o) → AR w (g.iso I0) (xs.map (xfrz m 9)) xs' := fun I0 h1 h2 =>
    ⟨by simpa using hx.1, fun i u hu => by
      simp only [List.getElem?_map, Option.map_eq_some_iff] at hu
      obtain ⟨x, hxx, rfl⟩ := hu
      exact frz_rel hr g h1 9 _ _ (.inr h2) (hx.2 i x hxx)⟩
  have allI : AR w (g.iso fun b _ => b < w.heap.size) (xs.map (xfrz m 9)) xs' := arr _ (fun b c o h => hr.own b c h) (fun b o h => (hr.imm b o h).1)
  have own1 : ∀ {I0 : Nat → Nat → Prop} {g1 : G} {w' : World}, (g.iso I0).to w g1 w' → Rel g1 m' w' → ∀ b c (o : Nat), g1.β b = some c → g.I c.1 o ∨ (w.heap.size ≤ c.1 ∧ c.1 < w'.heap.size) := fun k1 k2 b c o hb => by
    rcases k1.new b c hb with h | ⟨_, _, h, _⟩
    · exact .inr ⟨h, k2.own b c hb⟩
    · cases h
  have down : ∀ {w' : World} {v : V} {cv : Value}, VR w' (g.iso fun b o => g.I b o ∨ (w.heap.size ≤ b ∧ b < w'.heap.size)) v cv → VR w' { g with I := fun b o => g.I b o ∨ (w.heap.size ≤ b ∧ b < w'.heap.size) } v cv := fun {w' v cv} h =>
    VR.mono (g := g.iso fun b o => g.I b o ∨ (w.heap.size ≤ b ∧ b < w'.heap.size)) (g' := { g with I := fun b o => g.I b o ∨ (w.heap.size ≤ b ∧ b < w'.heap.size) }) ⟨fun _ _ h => h, fun _ _ _ => rfl, fun _ => Nat.zero_le _, fun _ _ _ h => by cases h⟩ h
  simp only [Bool.or_eq_true] at hcond
  rcases hcond with (hflat | hpure) | hfresh
  · refine main _ (fun _ _ h => h) (fun b o h => (hr.imm b o h).1) allI fun g1 w' k1 k2 cv k3 => ?_
    have := frz_rel (I := fun b _ => b < w'.heap.size) k2 g (fun b c o h => k2.own b c h) 9 v cv (.inr fun b o h => (k2.imm b o h).1) k3
    exact flat_rel 9 _ _ hflat this
  · refine main g.I (fun b o h => (hr.imm b o h).1) (fun _ _ h => h) ⟨by simpa using hx.1, fun i u hu => ?_⟩ fun g1 w' k1 k2 cv k3 => ?_
    · simp only [List.getElem?_map, Option.map_eq_some_iff] at hu
      obtain ⟨x, hxx, rfl⟩ := hu
      exact frz_pure g 9 _ _ (List.all_eq_true.1 hpure x (List.mem_of_getElem? hxx)) (hx.2 i x hxx)
    · refine down (frz_rel k2 g (own1 k1 k2) 9 v cv (.inr fun b o h => ?_) k3)
      rcases k1.Inew b o h with h1 | h1
      · exact .inl h1
      · exact .inr ⟨h1, (k2.imm b o h).1⟩
  · refine main _ (fun _ _ h => h) (fun b o h => (hr.imm b o h).1) allI fun g1 w' k1 k2 cv k3 => ?_
    exact down (frz_rel k2 g (own1 k1 k2) 9 v cv (.inl hfresh) k3)

/-- A call of a function by its number. -/
theorem callf_sound {X : XP} {C : XCall} (hC : CS E C) (hL : LibS E X) {f : Nat} {xs : List V} {out : Sum V V} {m2 : XM} (h : xcallf X C f m xs = some (out, m2)) (hr : Rel g m w) (hg : GlobR E w g) (hlk : g.lk = LK E) {xs' : Array Value} (hx : AR w g xs xs') :
    CallsIn (FZ none) 0 E.P f xs' w (CallR g w out m2) := by
  unfold xcallf at h
  split at h
  · split at h <;> first | (cases h; done) | skip
    rename_i L hl
    obtain ⟨r, h1, h2⟩ := Option.map_eq_some_iff.1 h
    simp only [Prod.mk.injEq] at h2
    obtain ⟨rfl, rfl⟩ := h2
    exact hL hl h1 hr hg hlk hx
  · rename_i F hF
    split at h
    · rename_i r hr1
      simp only [Option.some.injEq] at h
      subst h
      cases hp : F.pure with
      | false => rw [hp] at hr1; cases hr1
      | true => rw [hp] at hr1; exact callp_sound hC hr1 hr hg hlk hx
    · obtain ⟨r, h1, h2⟩ := Option.map_eq_some_iff.1 h
      simp only [Prod.mk.injEq] at h2
      obtain ⟨rfl, rfl⟩ := h2
      exact hC h1 hr hg hlk hx

end
end Go.VC

/- One operation of the machine, calls and all. -/
namespace Go.VC
open Go Go.RowKit

/-- The machine's tables are the program's. -/
structure LinkS (E : Env) (X : XP) : Prop where
  fn : ∀ {f F}, X.fn f = some F → ∃ fn p, E.P.funcs[f]? = some fn ∧ cF E.P p fn = some F
  lib : LibS E X
  libfn : ∀ {f L}, X.lib f = some L → ∃ fn, E.P.funcs[f]? = some fn ∧ (fn.name == "runtime.NumGoroutine") = false ∧ fn.body.isNone = false
  gl : X.gl = E.Γ
  mixed : E.P.follows .mixedOrders = true

/-- What is asked of a round. -/
def YS (E : Env) (Y : XYield) : Prop := ∀ {b : Nat} {m : XM} {xs : List V} {r : Sum V V × XM}, Y b m xs = some r → ∀ {g : G} {w : World} {xs' : Array Value} {fs cs : List V} {cv : Value}, Rel g m w → GlobR E w g → g.lk = LK E → AR w g xs xs' →
  VR w g (.fn (.yield b) fs cs) cv → ∃ l f tmps assign body, cv = .func (.yield l) #[] #[] ∧ (Instr.yield l xs').run E.P w = .ok (.round l f tmps assign body) w ∧ RoundIn (FZ none) 0 E.P l f tmps assign body w (CallR g w r.1 r.2)

/-- The deferred calls that wait, and the marks among them (blocks that 'lo' allows, each before those above it). -/
inductive DefB (E : Env) (lo : Nat → Prop) (w : World) (g : G) : Nat → List (Nat × List V) → List Deferred → Prop
  | nil {hi : Nat} : DefB E lo w g hi [] []
  | mark {hi : Nat} {df : List (Nat × List V)} {ds : List Deferred} (r : Nat) (h0 : lo r) (h1 : r < hi) (h2 : w.heap[r]? = some (.deferred (some []))) (h3 : ∀ b c, g.β b = some c → c.1 ≠ r) (h4 : ∀ o, ¬ g.I r o) (h : DefB E lo w g r df ds) :
      DefB E lo w g hi df ({ target := .collected r, args := #[] } :: ds)
  | call {hi : Nat} {df : List (Nat × List V)} {ds : List Deferred} (f : Nat) (xs : List V) (xs' : Array Value) (h1 : AR w g xs xs') (h : DefB E lo w g hi df ds) : DefB E lo w g hi ((f, xs) :: df) ({ target := .fn (.func f) #[], args := xs' } :: ds)

def DefR (E : Env) (lo : Nat → Prop) (w : World) (g : G) (df : List (Nat × List V)) (ds : List Deferred) : Prop := DefB E lo w g w.heap.size df ds

theorem DefB.up {E : Env} {lo : Nat → Prop} {hi hi' : Nat} {w : World} {g : G} {df : List (Nat × List V)} {ds : List Deferred} (h : DefB E lo w g hi df ds) (hle : hi ≤ hi') : DefB E lo w g hi' df ds := by
  induction h generalizing hi' with
  | nil => exact .nil
  | mark r h0 h1 h2 h3 h4 h _ => exact .mark r h0 (by omega) h2 h3 h4 h
  | call f xs xs' h1 _ ih => exact .call f xs xs' h1 (ih hle)

theorem DefB.mono {E : Env} {lo : Nat → Prop} {hi : Nat} {w w' : World} {g g' : G} (hle : g.np.to w g'.np w') {df : List (Nat × List V)} {ds : List Deferred} (h : DefB E lo w g hi df ds) : DefB E lo w' g' hi df ds := by
  induction h with
  | nil => exact .nil
  | mark r h0 h1 h2 h3 h4 _ ih =>
    have hlt : r < w.heap.size := (Array.getElem?_eq_some_iff.1 h2).1
    refine .mark r h0 h1 ((hle.oth r hlt h3).trans h2) (fun b c hc => ?_) (fun o ho => ?_) ih
    · rcases hle.new b c hc with h5 | ⟨b2, c2, h5, h6⟩
      · omega
      · rw [← h6]; exact h3 b2 c2 h5
    · rcases hle.Inew r o ho with h5 | h5
      · exact h4 o h5
      · omega
  | call f xs xs' h1 _ ih => exact .call f xs xs' (h1.mono hle.tole.of_np) ih

theorem DefR.mono {E : Env} {lo : Nat → Prop} {w w' : World} {g g' : G} (hle : g.np.to w g'.np w') {df : List (Nat × List V)} {ds : List Deferred} (h : DefR E lo w g df ds) : DefR E lo w' g' df ds :=
  (DefB.mono hle h).up hle.size

section
variable {E : Env} {X : XP} {g : G} {m : XM} {w : World} {r : Option Nat}

theorem LinkS.ops (h : LinkS E X) (t : List V) : OpsR (evl E t) (xev X t) := by
  intro x y hxy
  cases x with
  | tmp i => simp only [cO, Option.some.injEq] at hxy; subst hxy; rfl
  | const v =>
    simp only [cO] at hxy
    split at hxy <;> first | (cases hxy; done) | skip
    simp only [Option.some.injEq] at hxy
    subst hxy; rfl
  | global n =>
    simp only [cO, Option.some.injEq] at hxy
    subst hxy
    simp only [xev, evl, h.gl]
    cases E.Γ n <;> rfl
  | func f => simp only [cO, Option.some.injEq] at hxy; subst hxy; rfl

theorem cF_spec {P : Program} {p : Bool} {fn : Func} {F : XF} (h : cF P p fn = some F) : (fn.name == "runtime.NumGoroutine") = false ∧ ∃ c, fn.body = some c ∧ cC P c = some F.body ∧ F.n = fn.ntmps ∧
    fn.results.toList.mapM (fun | .tmp t => some (XS.t t) | .cell a t => do some (XS.cell a (← tag P t) (← tsz P t))) = some F.res := by
  unfold cF at h
  split at h <;> first | (cases h; done) | skip
  rename_i hn
  simp only [Option.bind_eq_bind, Option.bind_eq_some_iff, Option.some.injEq] at h
  obtain ⟨c, h1, b, h2, res, h3, rfl⟩ := h
  exact ⟨by simpa using hn, c, h1, h2, rfl, h3⟩

theorem run_callFunc {P : Program} {f : Nat} {fn : Func} (h1 : P.funcs[f]? = some fn) (h2 : (fn.name == "runtime.NumGoroutine") = false) (h3 : fn.body.isNone = false) (args : Array Value) (w : World) : (callFunc f args).run P w = .ok (.enter f args) w := by
  have h2' : ¬ fn.name = "runtime.NumGoroutine" := by simpa using h2
  have h3' : ¬ fn.body = none := by intro e; rw [e] at h3; cases h3
  simp [callFunc, program, Sem.run, h1, h2', h3']

theorem callable (hX : LinkS E X) {C : XCall} {f : Nat} {xs : List V} {res : Sum V V × XM} (h : xcallf X C f m xs = some res) (args : Array Value) (w : World) : (callFunc f args).run E.P w = .ok (.enter f args) w := by
  unfold xcallf at h
  split at h
  · split at h <;> first | (cases h; done) | skip
    rename_i L hl
    obtain ⟨fn, h1, h2, h3⟩ := hX.libfn hl
    exact run_callFunc h1 h2 h3 args w
  · rename_i F hF
    obtain ⟨fn, p, h1, h2⟩ := hX.fn hF
    obtain ⟨h3, c, h4, _⟩ := cF_spec h2
    exact run_callFunc h1 h3 (by rw [h4]; rfl) args w

theorem callsIn_FZ {n : Nat} {P : Program} {f : FuncId} {args : Array Value} {w : World} {R : Ending → World → Prop} (h : CallsIn (FZ none) 0 P f args w R) : CallsIn (FZ r) n P f args w R :=
  ⟨trivial, fun cs _ => h.2 cs (FZ_room _ _)⟩

theorem roundIn_FZ {n : Nat} {P : Program} {l : Nat} {f : FuncId} {tmps : Array Value} {c1 c2 : Code} {w : World} {R : Ending → World → Prop} (h : RoundIn (FZ none) 0 P l f tmps c1 c2 w R) : RoundIn (FZ r) n P l f tmps c1 c2 w R :=
  ⟨trivial, fun c cs _ => h.2 c cs (FZ_room _ _)⟩

theorem call_wp {o : Oper} {a : Act} {f : FuncId} {args : Array Value} {out : Sum V V} {m' : XM} {next : Act → World → Prop} {Q : Exit → Act → World → Prop}
    (hcall : CallsIn (FZ none) 0 E.P f args w (CallR g w out m')) (hexec : (o.semAt r a.eval).run E.P w = .ok (.enter f args) w)
    (hret : ∀ g' w' v cv, out = .inl v → g.to w g' w' → Rel g' m' w' → VR w' g' v cv → next (a.put o.dst cv) w')
    (hpan : ∀ g' w' v cv, out = .inr v → g.to w g' w' → Rel g' m' w' → VR w' g' v cv → Q (.panic [{ v := cv, recovered := false }]) a w') : o.wpIn (FZ r) 0 E.P a w next Q := by
  refine ⟨fun _ _ => trivial, ?_⟩
  show o.uponIn (FZ r) 0 E.P a next Q ((o.semAt r a.eval).run E.P w)
  rw [hexec, Oper.uponIn_enter]
  refine ⟨(fun h => by cases h), (callsIn_FZ hcall).mono fun e w' he => ?_⟩
  obtain ⟨g', k1, k2, k3⟩ := he
  cases out with
  | inl v =>
    obtain ⟨cv, rfl, k4⟩ := k3
    exact hret g' w' v cv rfl k1 k2 k4
  | inr v =>
    obtain ⟨cv, rfl, k4⟩ := k3
    exact hpan g' w' v cv rfl k1 k2 k4

theorem round_wp {o : Oper} {a : Act} {l : Nat} {f : FuncId} {tmps : Array Value} {c1 c2 : Code} {out : Sum V V} {m' : XM} {next : Act → World → Prop} {Q : Exit → Act → World → Prop}
    (hcall : RoundIn (FZ none) 0 E.P l f tmps c1 c2 w (CallR g w out m')) (hexec : (o.semAt r a.eval).run E.P w = .ok (.round l f tmps c1 c2) w)
    (hret : ∀ g' w' v cv, out = .inl v → g.to w g' w' → Rel g' m' w' → VR w' g' v cv → next (a.put o.dst cv) w')
    (hpan : ∀ g' w' v cv, out = .inr v → g.to w g' w' → Rel g' m' w' → VR w' g' v cv → Q (.panic [{ v := cv, recovered := false }]) a w') : o.wpIn (FZ r) 0 E.P a w next Q := by
  refine ⟨fun _ _ => trivial, ?_⟩
  show o.uponIn (FZ r) 0 E.P a next Q ((o.semAt r a.eval).run E.P w)
  rw [hexec, Oper.uponIn_round]
  refine ⟨(fun h => by cases h), (roundIn_FZ hcall).mono fun e w' he => ?_⟩
  obtain ⟨g', k1, k2, k3⟩ := he
  cases out with
  | inl v =>
    obtain ⟨cv, rfl, k4⟩ := k3
    exact hret g' w' v cv rfl k1 k2 k4
  | inr v =>
    obtain ⟨cv, rfl, k4⟩ := k3
    exact hpan g' w' v cv rfl k1 k2 k4

theorem AR.args {t : List V} {a : Act} (hX : LinkS E X) (hev : ∀ x, VR w g (evl E t x) (a.eval x)) {xs : Array Operand} {xs' : List XO} (h : cOs xs = some xs') : AR w g (xs'.map (xev X t)) (xs.map a.eval) := by
  have h1 := (hX.ops t).list xs.toList xs' h
  rw [h1]
  refine ⟨by simp, fun i v hv => ?_⟩
  simp only [List.getElem?_map, Array.getElem?_toList, Option.map_eq_some_iff] at hv
  obtain ⟨x, hx, rfl⟩ := hv
  simp only [Array.getD_eq_getD_getElem?, Array.getElem?_map, hx, Option.map_some, Option.getD_some]
  exact hev x

theorem AR.app {xs ys : List V} {a b : Array Value} (h : AR w g xs a) (k : AR w g ys b) : AR w g (xs ++ ys) (a ++ b) := by
  refine ⟨by simp [h.1, k.1], fun i c hc => ?_⟩
  by_cases hi : i < xs.length
  · rw [List.getElem?_append_left hi] at hc
    have := h.2 i c hc
    simpa [Array.getD_eq_getD_getElem?, Array.getElem?_append, show i < a.size by rw [h.1]; exact hi] using this
  · rw [List.getElem?_append_right (by omega)] at hc
    have := k.2 _ c hc
    simpa [Array.getD_eq_getD_getElem?, Array.getElem?_append, hi, h.1] using this

/-- Which function a method's name leads to. -/
theorem method_spec {P : Program} {name : String} {t : TypeId} {f : Nat} (h : (cTab P name).lookup t = some f) (n : Nat) (v : Value) (w : World) : (method (n + 1) t v name).run P w = .ok (f, v) w := by
  have hmem : (t, f) ∈ cTab P name := by
    have key : ∀ (l : List (Nat × Nat)), l.lookup t = some f → (t, f) ∈ l := by
      intro l
      induction l with
      | nil => intro h; cases h
      | cons q l ih =>
        obtain ⟨a, b⟩ := q
        intro h
        simp only [List.lookup] at h
        split at h
        · rename_i he
          simp only [Option.some.injEq] at h
          have : t = a := by simpa using he
          subst this; subst h; simp
        · exact List.mem_cons_of_mem _ (ih h)
    exact key _ h
  unfold cTab at hmem
  obtain ⟨t', _, ht⟩ := List.mem_filterMap.1 hmem
  obtain ⟨i, hi, ht⟩ := Option.bind_eq_some_iff.1 ht
  obtain ⟨mm, hm, ht⟩ := Option.bind_eq_some_iff.1 ht
  split at ht <;> first | (cases ht; done) | skip
  rename_i hp
  obtain ⟨⟨f', p⟩, hf, ht⟩ := Option.bind_eq_some_iff.1 ht
  have hp0 : mm.path = #[] := by simpa using hp
  have hgen : ∀ (hu : ∃ d, P.underlying t = some d ∧ ((p = true ∧ ∃ e, d = .pointer e) ∨ (p = false ∧ (∀ e, d ≠ .pointer e)))), t' = t → f' = f → (method (n + 1) t v name).run P w = .ok (f, v) w := by
    rintro ⟨d, hu, hd⟩ rfl rfl
    simp only [method, typeInfo, program, Sem.run_bind, Sem.run, hi, Sem.run_pure, Result.andThen_ok, hm, hp0, hf, follow, List.toList_toArray]
    rcases hd with ⟨rfl, e, rfl⟩ | ⟨rfl, hd⟩
    · simp [receiverAt, run_underlying hu, Place.get, follow]
    · cases d <;> first | exact absurd rfl (hd _) | simp [receiverAt, run_underlying hu, Place.get, follow]
  cases hu : P.underlying t' with
  | none => rw [hu] at ht; cases ht
  | some d =>
    rw [hu] at ht
    have key : t' = t ∧ f' = f ∧ ((p = true ∧ ∃ e, d = .pointer e) ∨ (p = false ∧ (∀ e, d ≠ .pointer e))) := by
      cases p <;> cases d <;> simp only [reduceCtorEq, Option.some.injEq, Prod.mk.injEq] at ht <;> simp [ht]
    obtain ⟨rfl, rfl, k3⟩ := key
    exact hgen ⟨_, hu, k3⟩ rfl rfl

end
end Go.VC

/- One operation of the machine, as the program makes it. -/
namespace Go.VC
open Go Go.RowKit

section
variable {E : Env} {X : XP} {g : G} {m : XM} {w : World} {r : Option Nat} {C : XCall} {Y : XYield}

/-- What code an operation of the machine's that is a call, or the like, comes from. -/
theorem cOp_inv {P : Program} {op : Op} {a : XOp} (hc : cOp P op = some a) :
    (∀ f xs, a = .call f xs → ∃ args tys, op = .call { callee := .value (.func f), args := args, argTypes := tys } ∧ cOs args = some xs) ∧
    (∀ f' xs, a = .cav f' xs → ∃ f args tys, op = .call { callee := .value f, args := args, argTypes := tys } ∧ cO f = some f' ∧ cOs args = some xs) ∧
    (∀ tab r' xs, a = .inv tab r' xs → ∃ rc name args tys, op = .call { callee := .invoke rc name, args := args, argTypes := tys } ∧ tab = cTab P name ∧ cO rc = some r' ∧ cOs args = some xs) ∧
    (∀ f xs, a = .dfr f xs → ∃ args tys, op = .defer { callee := .value (.func f), args := args, argTypes := tys } ∧ cOs args = some xs) ∧
    (∀ x', a = .pan x' → ∃ x, op = .panic x ∧ cO x = some x') ∧ ((∃ c, op = .defer c) → ∃ f xs, a = .dfr f xs) := by
  unfold cOp at hc
  split at hc
  all_goals try simp only [Option.bind_eq_bind, Option.bind_eq_some_iff, Option.map_eq_some_iff, Option.some.injEq, Option.pure_def, reduceCtorEq] at hc
  case h_34 => obtain ⟨_, h1, rfl⟩ := hc; exact ⟨by simp, by simp, by simp, by simp, fun x' h => by cases h; exact ⟨_, rfl, h1⟩, by simp⟩
  case h_35 => obtain ⟨_, h1, rfl⟩ := hc; exact ⟨by simp, by simp, by simp, fun f xs h => by cases h; exact ⟨_, _, rfl, h1⟩, by simp, fun _ => ⟨_, _, rfl⟩⟩
  case h_36 => obtain ⟨_, h1, rfl⟩ := hc; exact ⟨fun f xs h => by cases h; exact ⟨_, _, rfl, h1⟩, by simp, by simp, by simp, by simp, by simp⟩
  case h_37 => obtain ⟨_, h1, _, h2, rfl⟩ := hc; exact ⟨by simp, fun f xs h => by cases h; exact ⟨_, _, _, rfl, h1, h2⟩, by simp, by simp, by simp, by simp⟩
  case h_38 => obtain ⟨_, h1, _, h2, rfl⟩ := hc; exact ⟨by simp, by simp, fun tab r' xs h => by cases h; exact ⟨_, _, _, _, rfl, rfl, h1, h2⟩, by simp, by simp, by simp⟩
  all_goals
    repeat' split at hc
    all_goals try simp only [Option.bind_eq_bind, Option.bind_eq_some_iff, Option.map_eq_some_iff, Option.some.injEq, Option.pure_def, reduceCtorEq] at hc
    all_goals first | (cases hc; done) | skip
    all_goals
      first
        | (obtain ⟨_, _, rfl⟩ := hc; simp; done)
        | (obtain ⟨_, _, _, _, rfl⟩ := hc; simp; done)
        | (obtain ⟨_, _, _, _, _, _, rfl⟩ := hc; simp; done)
        | (obtain ⟨_, _, _, _, _, _, _, _, rfl⟩ := hc; simp; done)
        | (obtain ⟨_, _, _, _, _, _, _, _, _, _, rfl⟩ := hc; simp; done)
        | (subst hc; simp; done)
        | (obtain ⟨_, _, _, _, hc⟩ := hc; split at hc <;> first | (cases hc; done) | skip; simp only [Option.bind_eq_some_iff, Option.some.injEq] at hc; obtain ⟨_, _, rfl⟩ := hc; simp; done)
        | (obtain ⟨_, _, _, _, _, _, _, _, hc⟩ := hc; split at hc <;> first | (cases hc; done) | skip; simp only [Option.bind_eq_some_iff, Option.some.injEq] at hc; obtain ⟨_, _, _, _, _, _, _, _, rfl⟩ := hc; simp; done)
        | (obtain ⟨_, _, _, _, _, _, hc⟩ := hc; split at hc <;> first | (cases hc; done) | skip; simp only [Option.bind_eq_some_iff, Option.some.injEq] at hc; obtain ⟨_, _, _, _, rfl⟩ := hc; simp; done)
        | (obtain ⟨_, _, _, _, _, _, hc⟩ := hc; split at hc <;> first | (cases hc; done) | skip; simp only [Option.bind_eq_some_iff, Option.some.injEq] at hc; obtain ⟨_, _, _, _, _, _, _, _, rfl⟩ := hc; simp; done)

/-- An operation: a call, or none. -/
def xdo (X : XP) (C : XCall) (Y : XYield) (m : XM) (ev : XO → V) (op : XOp) : Option (Sum V V × XM) :=
  bif op.isCall then xcalls X C Y m ev op else (xop m ev op).map fun (v, m) => (.inl v, m)

theorem xdo_xos {xe xe' : XO → V} {a : XOp} (h : ∀ x ∈ a.xos, xe x = xe' x) : xdo X C Y m xe a = xdo X C Y m xe' a := by
  unfold xdo
  rw [xop_xos h]
  cases a <;> simp only [XOp.isCall, cond_false, cond_true]
  case call f xs =>
    simp only [XOp.xos] at h
    simp only [xcalls, List.map_congr_left h]
  case cav f xs =>
    simp only [XOp.xos, List.mem_cons, forall_eq_or_imp] at h
    simp only [xcalls, h.1, List.map_congr_left h.2]
  case inv tab x xs =>
    simp only [XOp.xos, List.mem_cons, forall_eq_or_imp] at h
    simp only [xcalls, h.1, List.map_congr_left h.2]

theorem OpsR.args {ev : Operand → V} {xe : XO → V} (ho : OpsR ev xe) {a : Act} (hev : ∀ x, VR w g (ev x) (a.eval x)) {xs : Array Operand} {xs' : List XO} (h : cOs xs = some xs') : AR w g (xs'.map xe) (xs.map a.eval) := by
  rw [ho.list xs.toList xs' h]
  refine ⟨by simp, fun i v hv => ?_⟩
  simp only [List.getElem?_map, Array.getElem?_toList, Option.map_eq_some_iff] at hv
  obtain ⟨x, hx, rfl⟩ := hv
  simp only [Array.getD_eq_getD_getElem?, Array.getElem?_map, hx, Option.map_some, Option.getD_some]
  exact hev x

theorem do_sound (hX : LinkS E X) (hC : CS E C) (hY : YS E Y) {o : Oper} {xop : XOp} (hop : cOp E.P o.op = some xop) {ev : Operand → V} {xe : XO → V} (ho : OpsR ev xe) {out : Sum V V} {m' : XM} (hs : xdo X C Y m xe xop = some (out, m'))
    (hr : Rel g m w) (hg : GlobR E w g) (hlk : g.lk = LK E) {a : Act} (hev : ∀ x, VR w g (ev x) (a.eval x)) {next : Act → World → Prop} {Q : Exit → Act → World → Prop}
    (hret : ∀ g' w' v cv, out = .inl v → g.to w g' w' → Rel g' m' w' → VR w' g' v cv → next (a.put o.dst cv) w')
    (hpan : ∀ g' w' v cv, out = .inr v → g.to w g' w' → Rel g' m' w' → VR w' g' v cv → Q (.panic [{ v := cv, recovered := false }]) a w') : o.wpIn (FZ r) 0 E.P a w next Q := by
  obtain ⟨i1, i2, i3, i4, i5, i6⟩ := cOp_inv hop
  unfold xdo at hs
  cases hcl : xop.isCall with
  | false =>
    rw [hcl] at hs
    simp only [cond_false] at hs
    obtain ⟨⟨v, m2⟩, h1, h2⟩ := Option.map_eq_some_iff.1 hs
    simp only [Prod.mk.injEq] at h2
    obtain ⟨rfl, rfl⟩ := h2
    have hnd : ∀ c, o.op ≠ .defer c := fun c hc => by
      obtain ⟨f, xs, rfl⟩ := i6 ⟨c, hc⟩
      cases h1
    obtain ⟨cv, w', g', k1, k2, k3, k4⟩ := cOp_sound ho hop h1 hr hev
    refine ⟨fun _ _ => trivial, ?_⟩
    show o.uponIn (FZ r) 0 E.P a next Q ((o.semAt r a.eval).run E.P w)
    rw [Oper.semAt_eq r _ _ hnd]
    have := k1 o.dst o.type o.pos o.after o.guard
    rcases this with h | ⟨h, rfl⟩
    · rw [show o = ⟨o.dst, o.op, o.type, o.pos, o.after, o.guard⟩ from rfl, h, Oper.uponIn_value]
      exact hret g' w' v cv rfl k3 k2 k4
    · rw [show o = ⟨o.dst, o.op, o.type, o.pos, o.after, o.guard⟩ from rfl, h, Oper.uponIn_skip]
      exact hret g' w' v _ rfl k3 k2 k4
  | true =>
    rw [hcl] at hs
    simp only [cond_true] at hs
    cases xop <;> try (cases hcl; done)
    all_goals clear hcl
    case call f xs =>
      obtain ⟨args, tys, h1, h2⟩ := i1 f xs rfl
      simp only [xcalls] at hs
      have hx := ho.args hev h2
      refine call_wp (callf_sound hC hX.lib hs hr hg hlk hx) ?_ hret hpan
      rw [Oper.semAt_eq r _ _ (fun c hc => by rw [h1] at hc; cases hc)]
      simp only [execOp, h1, Sem.run_bind, resolve, Act.eval, Deferred.ofValue, Sem.run_pure, Result.andThen_ok, invoke]
      simpa using callable hX hs (args.map a.eval) w
    case cav f' xs =>
      obtain ⟨f, args, tys, h1, h2, h3⟩ := i2 f' xs rfl
      have hx := ho.args hev h3
      have hf := hev f
      rw [← ho _ _ h2] at hf
      simp only [xcalls] at hs
      split at hs <;> first | (cases hs; done) | skip
      · rename_i n first caps hxe
        rw [hxe] at hf
        generalize hcf : a.eval f = cf at hf
        cases hf with
        | fn _ _ _ xs1 ys1 q1 q2 q3 q4 =>
          have hall : AR w g (first ++ (xs.map xe ++ caps)) (xs1 ++ (args.map a.eval ++ ys1)) := AR.app ⟨q1, q3⟩ (AR.app hx ⟨q2, q4⟩)
          refine call_wp (callf_sound hC hX.lib hs hr hg hlk hall) ?_ hret hpan
          rw [Oper.semAt_eq r _ _ (fun c hc => by rw [h1] at hc; cases hc)]
          simp only [execOp, h1, Sem.run_bind, resolve, hcf, Deferred.ofValue, Sem.run_pure, Result.andThen_ok, invoke]
          rw [Array.append_assoc]
          exact callable hX hs _ w
      · rename_i b fs cs hxe
        rw [hxe] at hf
        obtain ⟨l, fn, tmps, c1, c2, hcv, hrun, hround⟩ := hY hs hr hg hlk hx hf
        refine round_wp hround ?_ hret hpan
        rw [Oper.semAt_eq r _ _ (fun c hc => by rw [h1] at hc; cases hc)]
        simp only [execOp, h1, Sem.run_bind, resolve, hcv, Deferred.ofValue, Sem.run_pure, Result.andThen_ok, invoke]
        simpa using hrun
    case inv tab r' xs =>
      obtain ⟨rc, name, args, tys, h1, rfl, h2, h3⟩ := i3 tab r' xs rfl
      have hx := ho.args hev h3
      have hf := hev rc
      rw [← ho _ _ h2] at hf
      simp only [xcalls] at hs
      split at hs <;> first | (cases hs; done) | skip
      rename_i t v hxe
      split at hs <;> first | (cases hs; done) | skip
      rename_i f hl
      rw [hxe] at hf
      generalize hcf : a.eval rc = cf at hf
      cases hf with
      | ifc _ _ v' hv =>
        have h0 : AR w g [v] #[v'] := ⟨rfl, fun i c hc => by
          cases i with
          | zero => simp at hc; subst hc; exact hv
          | succ i => simp at hc⟩
        have hall : AR w g (v :: xs.map xe) (#[v'] ++ args.map a.eval) := AR.app (xs := [v]) h0 hx
        refine call_wp (callf_sound hC hX.lib hs hr hg hlk hall) ?_ hret hpan
        rw [Oper.semAt_eq r _ _ (fun c hc => by rw [h1] at hc; cases hc)]
        simp only [execOp, h1, Sem.run_bind, resolve, hcf, Sem.run_pure, Result.andThen_ok, invoke]
        have hm := method_spec (P := E.P) hl (E.P.types.size + Made.depth - 1) v' w
        have hpos : E.P.types.size + Made.depth - 1 + 1 = E.P.types.size + Made.depth := by
          have : 0 < Made.depth := by decide
          omega
        rw [hpos] at hm
        have h0' : ((#[Value.iface t v'] ++ args.map a.eval)[0]? : Option Value) = some (.iface t v') := by rw [Array.getElem?_append_left (by simp)]; rfl
        have h1' : (#[Value.iface t v'] ++ args.map a.eval).extract 1 (#[Value.iface t v'] ++ args.map a.eval).size = args.map a.eval := by
          apply Array.ext'
          simp
          exact List.take_of_length_le (by simp)
        rw [h0', h1']
        simp only [callMethod, program, Sem.run_bind, Sem.run, Sem.run_pure, Result.andThen_ok, hm]
        exact callable hX hs (#[v'] ++ args.map a.eval) w

end
end Go.VC

/- Regions in text order. -/
namespace Go.VC
open Go Go.RowKit

/-- Where an activation stands. -/
def StR (E : Env) (lo : Nat → Prop) (g0 : G) (w0 : World) (st : XSt) (a : Act) (w : World) : Prop := ∃ g, g0.to w0 g w ∧ Rel g st.m w ∧ AR w g st.t a.tmps ∧ DefR E lo w g st.df a.defers

/-- How code is left. -/
def PostX (E : Env) (lo : Nat → Prop) (g0 : G) (w0 : World) : XE × XSt → Exit → Act → World → Prop
  | (.nrm, st), e, a, w => e = .normal ∧ StR E lo g0 w0 st a w
  | (.exit i, st), e, a, w => e = .exit i ∧ StR E lo g0 w0 st a w
  | (.ret, st), e, a, w => e = .ret ∧ StR E lo g0 w0 st a w
  | (.pan v, st), e, a, w => ∃ cv, e = .panic [{ v := cv, recovered := false }] ∧ ∃ g, g0.to w0 g w ∧ Rel g st.m w ∧ DefR E lo w g st.df a.defers ∧ VR w g v cv

theorem putV_xput (t : List V) (d : Option Nat) (v : V) : putV t d v = xput t d v := by cases d <;> rfl

section
variable {E : Env} {X : XP} {g : G} {m : XM} {w : World} {r : Option Nat} {C : XCall} {Y : XYield}

theorem cI_spec {P : Program} {ops : Array Oper} {o : Oper} {xi : XI} (h : cI P ops o = some xi) : xi.dst = o.dst ∧ cOp P o.op = some xi.op ∧
    ((o.guard = none ∧ xi.grd = none) ∨ ∃ j b q d, o.guard = some (j, b) ∧ ops[j]? = some q ∧ q.dst = some d ∧ xi.grd = some (d, b)) := by
  unfold cI at h
  cases hg : o.guard with
  | none =>
    rw [hg] at h
    obtain ⟨a, h2, rfl⟩ := Option.map_eq_some_iff.1 h
    exact ⟨rfl, h2, .inl ⟨rfl, rfl⟩⟩
  | some jb =>
    obtain ⟨j, b⟩ := jb
    rw [hg] at h
    obtain ⟨gg, h1, h⟩ := Option.bind_eq_some_iff.1 h
    obtain ⟨a, h2, rfl⟩ := Option.map_eq_some_iff.1 h
    obtain ⟨q, h3, h1⟩ := Option.bind_eq_some_iff.1 h1
    obtain ⟨d, h4, rfl⟩ := Option.map_eq_some_iff.1 h1
    exact ⟨rfl, h2, .inr ⟨j, b, q, d, rfl, h3, h4, rfl⟩⟩

theorem put_defers (a : Act) (d : Option Tmp) (v : Value) : (a.put d v).defers = a.defers := by cases d <;> rfl

theorem want_spec {P : Program} {ops : Array Oper} {o : Oper} {xi : XI} (h : cI P ops o = some xi) {t : List V} {a : Array Value} {b : Bool} (hw : xwant t xi.grd = some b)
    (hat : ∀ d v, xi.grd = some (d, v) → VR w g (t.getD d .und) (a.getD d undef)) : Region.wanted o (yielded ops a) = b := by
  obtain ⟨_, _, h3⟩ := cI_spec h
  rcases h3 with ⟨h1, h2⟩ | ⟨j, b0, q, d, h1, h2, h4, h5⟩
  · rw [h2] at hw
    simp only [xwant, Option.some.injEq] at hw
    subst hw
    simp [Region.wanted, h1]
  · have hv := hat d b0 h5
    rw [h5] at hw
    simp only [xwant] at hw
    split at hw <;> first | (cases hw; done) | skip
    · rename_i c hc
      rw [hc] at hv
      simp only [Option.some.injEq] at hw
      subst hw
      generalize hca : a.getD d undef = ca at hv
      cases hv
      have hca' : a[d]?.getD undef = .bool c := by simpa [Array.getD_eq_getD_getElem?] using hca
      have hd : a[d]? = some (.bool c) := by
        cases hd : a[d]? with
        | none => rw [hd] at hca'; simp [undef] at hca'
        | some v => rw [hd] at hca'; simp only [Option.getD_some] at hca'; rw [hca']
      simp [Region.wanted, h1, yielded, h2, h4, hd]
    · rename_i hc
      rw [hc] at hv
      simp only [Option.some.injEq] at hw
      subst hw
      generalize hca : a.getD d undef = ca at hv
      cases hv
      have hca' : a[d]?.getD undef = undef := by simpa [Array.getD_eq_getD_getElem?] using hca
      cases hd : a[d]? with
      | none => simp [Region.wanted, h1, yielded, h2, h4, hd]
      | some v =>
        rw [hd] at hca'
        simp only [Option.getD_some] at hca'
        subst hca'
        simp [Region.wanted, h1, yielded, h2, h4, hd, undef]

/-- One operation in text order. -/
theorem step_sound (hX : LinkS E X) (hC : CS E C) (hY : YS E Y) {o : Oper} {xi : XI} (hop : cOp E.P o.op = some xi.op) (hdst : xi.dst = o.dst) (hnd : r.isSome = true → ∀ f xs, xi.op ≠ .dfr f xs) {lo : Nat → Prop} {st st' : XSt} {res : Sum Unit V}
    (hs : xstep X C Y st xi = some (res, st')) (hr : Rel g st.m w) (hg : GlobR E w g) (hlk : g.lk = LK E) {a : Act} (hev : ∀ x, VR w g (evl E st.t x) (a.eval x)) (hdf : DefR E lo w g st.df a.defers) {next : Act → World → Prop} {Q : Exit → Act → World → Prop}
    (hret : res = .inl () → ∀ g' w' v cv ds, g.to w g' w' → Rel g' st'.m w' → VR w' g' v cv → st'.t = xput st.t xi.dst v → DefR E lo w' g' st'.df ds → next ({ a with defers := ds }.put o.dst cv) w')
    (hpan : ∀ v, res = .inr v → ∀ g' w' cv, g.to w g' w' → Rel g' st'.m w' → VR w' g' v cv → DefR E lo w' g' st'.df a.defers → Q (.panic [{ v := cv, recovered := false }]) a w') : o.wpIn (FZ r) 0 E.P a w next Q := by
  obtain ⟨i1, i2, i3, i4, i5, i6⟩ := cOp_inv hop
  have gen : ∀ out m', xdo X C Y st.m (xev X st.t) xi.op = some (out, m') → (∀ v, out = .inl v → res = .inl () ∧ st' = { st with t := xput st.t xi.dst v, m := m' }) → (∀ v, out = .inr v → res = .inr v ∧ st' = { st with m := m' }) → o.wpIn (FZ r) 0 E.P a w next Q := by
    intro out m' h1 h2 h3
    refine do_sound hX hC hY hop (hX.ops st.t) h1 hr hg hlk hev (fun g' w' v cv ho k1 k2 k3 => ?_) (fun g' w' v cv ho k1 k2 k3 => ?_)
    · obtain ⟨q1, q2⟩ := h2 v ho
      have := hret q1 g' w' v cv a.defers k1 (by rw [q2]; exact k2) k3 (by rw [q2]) (by rw [q2]; exact DefR.mono k1.np hdf)
      simpa using this
    · obtain ⟨q1, q2⟩ := h3 v ho
      exact hpan v q1 g' w' cv k1 (by rw [q2]; exact k2) k3 (by rw [q2]; exact DefR.mono k1.np hdf)
  unfold xstep at hs
  dsimp only at hs
  cases hcl : xi.op.isCall with
  | true =>
    rw [hcl] at hs
    simp only [cond_true] at hs
    split at hs <;> first | (cases hs; done) | skip
    · rename_i v m' hx
      simp only [Option.some.injEq, Prod.mk.injEq] at hs
      obtain ⟨rfl, rfl⟩ := hs
      exact gen (.inl v) m' (by simp only [xdo, hcl, cond_true, hx]) (fun v' h => by cases h; exact ⟨rfl, rfl⟩) (fun v' h => by cases h)
    · rename_i v m' hx
      simp only [Option.some.injEq, Prod.mk.injEq] at hs
      obtain ⟨rfl, rfl⟩ := hs
      exact gen (.inr v) m' (by simp only [xdo, hcl, cond_true, hx]) (fun v' h => by cases h) (fun v' h => by cases h; exact ⟨rfl, rfl⟩)
  | false =>
    rw [hcl] at hs
    simp only [cond_false] at hs
    split at hs
    · rename_i f xs hxo
      simp only [Option.some.injEq, Prod.mk.injEq] at hs
      obtain ⟨rfl, rfl⟩ := hs
      obtain ⟨args, tys, h1, h2⟩ := i4 f xs hxo
      have hrn : r = none := by
        cases hrr : r with
        | none => rfl
        | some l => exact absurd hxo (hnd (by rw [hrr]; rfl) f xs)
      subst hrn
      have hx := (hX.ops st.t).args hev h2
      refine ⟨fun _ _ => trivial, ?_⟩
      show o.uponIn (FZ none) 0 E.P a next Q ((o.semAt none a.eval).run E.P w)
      have hrun : (o.semAt none a.eval).run E.P w = .ok (.defer { target := .fn (.func f) #[], args := args.map a.eval }) w := by
        simp [Oper.semAt_none, execOp, h1, resolve, Act.eval, Deferred.ofValue]
      rw [hrun, Oper.uponIn_defer]
      exact hret rfl g w .und undef _ (G.to.refl _ _) hr (.und _) rfl (DefB.call f _ _ hx hdf)
    · rename_i x' hxo
      split at hs <;> first | (cases hs; done) | skip
      rename_i t v hxv
      simp only [Option.some.injEq, Prod.mk.injEq] at hs
      obtain ⟨rfl, rfl⟩ := hs
      obtain ⟨x, h1, h2⟩ := i5 x' hxo
      have hv := hev x
      rw [← (hX.ops st.t) _ _ h2, hxv] at hv
      refine ⟨fun _ _ => trivial, ?_⟩
      show o.uponIn (FZ r) 0 E.P a next Q ((o.semAt r a.eval).run E.P w)
      rw [Oper.semAt_eq r _ _ (fun c hc => by rw [h1] at hc; cases hc)]
      generalize hca : a.eval x = ca at hv
      have hv0 := hv
      cases hv with
      | ifc _ _ v' hv' =>
        have hrun : (execOp a.eval o).run E.P w = .halt (.panic (.iface t v')) w := by
          simp [execOp, h1, hca, Instr.panic, Sem.run]
        rw [hrun, Oper.uponIn_panic]
        exact hpan _ rfl g w _ (G.to.refl _ _) hr hv0 hdf
    · split at hs <;> first | (cases hs; done) | skip
      rename_i v m' hx
      simp only [Option.some.injEq, Prod.mk.injEq] at hs
      obtain ⟨rfl, rfl⟩ := hs
      exact gen (.inl v) m' (by simp only [xdo, hcl, cond_false, hx, Option.map_some]) (fun v' h => by cases h; exact ⟨rfl, rfl⟩) (fun v' h => by cases h)

/-- Operations in text order. -/
theorem ops_sound (hX : LinkS E X) (hC : CS E C) (hY : YS E Y) {ops : Array Oper} {lo : Nat → Prop} {g0 : G} {w0 : World} {res : XE × XSt} (hg0 : GlobR E w0 g0) (hlk0 : g0.lk = LK E) : ∀ (l : List XI) (k : Nat) (st : XSt) (a : Act) (w : World), k + l.length = ops.size →
    (∀ i xi, l[i]? = some xi → ∃ o, ops[k + i]? = some o ∧ cI E.P ops o = some xi) → (r.isSome = true → ∀ xi ∈ l, ∀ f xs, xi.op ≠ .dfr f xs) → xops X C Y l st = some res → StR E lo g0 w0 st a w →
    wpOpsIn (FZ r) 0 E.P ops (PostX E lo g0 w0 res) (List.range' k l.length) a w := by
  intro l
  induction l with
  | nil =>
    intro k st a w _ _ _ hs hst
    simp only [xops, Option.some.injEq] at hs
    subst hs
    exact ⟨rfl, hst⟩
  | cons xi l ih =>
    intro k st a w hk hl hnd hs hst
    obtain ⟨o, ho, hxi⟩ := hl 0 xi rfl
    rw [Nat.add_zero] at ho
    obtain ⟨g, hle, hr, har, hdf⟩ := hst
    have hg : GlobR E w g := hg0.mono hle.tole
    have hlk : g.lk = LK E := hle.lk.1.trans hlk0
    have hev := evl_rel (E := E) har hg
    obtain ⟨h1, h2, h3⟩ := cI_spec hxi
    simp only [List.length_cons] at hk
    have hl' : ∀ i yi, l[i]? = some yi → ∃ o, ops[k + 1 + i]? = some o ∧ cI E.P ops o = some yi := fun i yi hi => by
      have := hl (i + 1) yi (by simpa using hi)
      rwa [show k + (i + 1) = k + 1 + i by omega] at this
    have hnd' : r.isSome = true → ∀ xi ∈ l, ∀ f xs, xi.op ≠ .dfr f xs := fun h xi hx => hnd h xi (by simp [hx])
    simp only [List.length_cons, List.range'_succ, wpOpsIn, ho]
    simp only [xops] at hs
    cases hw : xwant st.t xi.grd with
    | none => rw [hw] at hs; cases hs
    | some b =>
      rw [hw] at hs
      have hwant := want_spec hxi hw (fun d v _ => har.get d)
      cases b with
      | false =>
        simp only [hwant, Bool.false_eq_true, if_false]
        refine ⟨fun _ _ => trivial, ih (k + 1) _ _ _ (by omega) hl' hnd' hs ⟨g, hle, hr, ?_, by rw [put_defers]; exact hdf⟩⟩
        rw [← h1, ← putV_xput]
        exact har.put xi.dst .udf
      | true =>
        simp only [hwant, if_true]
        dsimp only at hs
        cases hst : xstep X C Y st xi with
        | none => rw [hst] at hs; cases hs
        | some q =>
          obtain ⟨q, st'⟩ := q
          rw [hst] at hs
          refine step_sound hX hC hY h2 h1 (fun h => hnd h xi (by simp)) hst hr hg hlk hev hdf (fun hq g' w' v cv ds k1 k2 k3 k4 k5 => ?_) (fun v hq g' w' cv k1 k2 k3 k4 => ?_)
          · subst hq
            dsimp only at hs
            refine ih (k + 1) st' _ w' (by omega) hl' hnd' hs ⟨g', hle.trans k1, k2, ?_, ?_⟩
            · rw [k4, ← h1, ← putV_xput]
              exact AR.put (a := { a with defers := ds }) (har.mono k1.tole) xi.dst k3
            · have : (({ a with defers := ds } : Act).put o.dst cv).defers = ds := by cases o.dst <;> rfl
              rw [this]; exact k5
          · subst hq
            simp only [Option.some.injEq] at hs
            subst hs
            exact ⟨cv, rfl, g', hle.trans k1, k2, k4, k3⟩

end
end Go.VC

/- Regions whose order is open: where such a region stands. -/
namespace Go.VC
open Go Go.RowKit

mutual
theorem vbeq_eq : ∀ (a b : V), vbeq a b = true → a = b
  | .int k a, b, h => by cases b <;> simp_all [vbeq]
  | .bool a, b, h => by cases b <;> simp_all [vbeq]
  | .str a, b, h => by cases b <;> simp_all [vbeq]
  | .agg a, b, h => by cases b <;> simp only [vbeq, Bool.false_eq_true] at h; rw [vbeqL_eq _ _ h]
  | .tup a, b, h => by cases b <;> simp only [vbeq, Bool.false_eq_true] at h; rw [vbeqL_eq _ _ h]
  | .psl a, b, h => by cases b <;> simp only [vbeq, Bool.false_eq_true] at h; rw [vbeqL_eq _ _ h]
  | .nsl, b, h => by cases b <;> simp_all [vbeq]
  | .sl _ _ _ _ _, b, h => by cases b <;> simp_all [vbeq]
  | .pref a, b, h => by cases b <;> simp only [vbeq, Bool.false_eq_true] at h; rw [vbeqL_eq _ _ h]
  | .ptr _ _ _, b, h => by cases b <;> simp_all [vbeq]
  | .nptr, b, h => by cases b <;> simp_all [vbeq]
  | .map _, b, h => by cases b <;> simp_all [vbeq]
  | .pmap a c, b, h => by cases b <;> simp only [vbeq, Bool.false_eq_true, Bool.and_eq_true] at h; rw [vbeqL_eq _ _ h.1, vbeqL_eq _ _ h.2]
  | .nmap, b, h => by cases b <;> simp_all [vbeq]
  | .fn f a c, b, h => by
    cases f <;> cases b <;> try (simp [vbeq] at h; done)
    rename_i f' x y
    cases f' <;> try (simp [vbeq] at h; done)
    simp only [vbeq, Bool.and_eq_true, beq_iff_eq] at h
    rw [h.1.1, vbeqL_eq _ _ h.1.2, vbeqL_eq _ _ h.2]
  | .nfn, b, h => by cases b <;> simp_all [vbeq]
  | .ifc _ v, b, h => by cases b <;> simp only [vbeq, Bool.false_eq_true, Bool.and_eq_true, beq_iff_eq] at h; rw [h.1, vbeq_eq _ _ h.2]
  | .nifc, b, h => by cases b <;> simp_all [vbeq]
  | .und, b, h => by cases b <;> simp [vbeq] at h
  | .udf, b, h => by cases b <;> simp [vbeq] at h
theorem vbeqL_eq : ∀ (a b : List V), vbeqL a b = true → a = b
  | [], b, h => by cases b <;> simp_all [vbeqL]
  | x :: a, b, h => by
    cases b with
    | nil => simp [vbeqL] at h
    | cons y b =>
      simp only [vbeqL, Bool.and_eq_true] at h
      rw [vbeq_eq _ _ h.1, vbeqL_eq _ _ h.2]
end

theorem getD_set (l : List V) (d : Nat) (v : V) (x : Nat) : (l.set d v).getD x .und = if x = d ∧ d < l.length then v else l.getD x .und := by
  simp only [List.getD_eq_getElem?_getD]
  by_cases h : d = x
  · subst h
    by_cases hl : d < l.length
    · simp [hl]
    · simp [List.set_eq_of_length_le (Nat.le_of_not_lt hl), hl]
  · rw [List.getElem?_set_ne h]
    simp [Ne.symm h]

theorem getD_out {l : List V} {x : Nat} (h : l.length ≤ x) : l.getD x .und = .und := by
  simp [List.getD_eq_getElem?_getD, List.getElem?_eq_none h]

theorem length_xput (t : List V) (d : Option Nat) (v : V) : (xput t d v).length = t.length := by cases d <;> simp [xput]

theorem getD_xput_ne {t : List V} {d : Option Nat} {v : V} {x : Nat} (h : d ≠ some x) : (xput t d v).getD x .und = t.getD x .und := by
  cases d with
  | none => rfl
  | some d =>
    have : x ≠ d := fun e => h (by rw [e])
    simp only [xput]; rw [getD_set, if_neg (fun h => this h.1)]

theorem getD_xput_eq {t : List V} {v : V} {x : Nat} (h : x < t.length) : (xput t (some x) v).getD x .und = v := by simp only [xput]; rw [getD_set, if_pos ⟨rfl, h⟩]

/-- What is known of a region whose order is open. -/
structure DS (E : Env) (ops : Array Oper) (its : List XI) (eds : List (List Nat)) : Prop where
  len : its.length = ops.size
  it : ∀ {i : Nat} {xi : XI}, its[i]? = some xi → ∃ o, ops[i]? = some o ∧ cI E.P ops o = some xi
  of : ∀ {i : Nat} {o : Oper}, ops[i]? = some o → ∃ xi : XI, its[i]? = some xi
  ed : ∀ {i : Nat} {o : Oper}, ops[i]? = some o → eds.getD i [] = dEds o
  drawn : ∀ {i : Nat} {xi : XI}, its[i]? = some xi → xi.op.drawn = true
  lt : ∀ {i : Nat} {xi : XI} {e : Nat}, its[i]? = some xi → e ∈ eds.getD i [] → e < i
  tmp : ∀ {i k : Nat} {xi xk : XI} {d : Nat}, its[i]? = some xi → its[k]? = some xk → i ≠ k → xk.dst = some d → xi.dst ≠ some d ∧ (d ∈ xi.looks → k ∈ eds.getD i [] ∨ i ∈ eds.getD k [])

/-- Done by the machine, and still to come. -/
def Pend (dn : Nat) (L : Array Bool) (i : Nat) : Prop := dn.testBit i = true ∧ L.getD i false = false

/-- What is known of an operation that is still to come. -/
def Rec (X : XP) (m : XM) (live : XLv) (g : G) (tf : Nat → List V) (vf : Nat → V) (bf : Nat → Option Nat) (i : Nat) (xi : XI) : Prop :=
  (xwant (tf i) xi.grd = some false ∧ vf i = .udf ∧ bf i = none) ∨
  (xwant (tf i) xi.grd = some true ∧ xi.op.alc = false ∧ xop m (xev X (tf i)) xi.op = some (vf i, m) ∧ (xi.op.mem = true → (i, tf i, xi, vf i) ∈ live) ∧ bf i = none) ∨
  (xwant (tf i) xi.grd = some true ∧ xi.op.alc = true ∧ ∃ m1 o, xop m1 (xev X (tf i)) xi.op = some (vf i, m1 ++ [o]) ∧ g.pd m1.length = some o ∧ bf i = some m1.length)

structure DInv (E : Env) (X : XP) (its : List XI) (eds : List (List Nat)) (g0 : G) (w0 : World) (pl : List Nat) (dn : Nat) (live : XLv) (st : XSt) (L : Array Bool) (a : Act) (w : World) (ds : List Deferred)
    (g : G) (c : List V) (tf : Nat → List V) (vf : Nat → V) (bf : Nat → Option Nat) : Prop where
  size : L.size = its.length
  sub : ∀ i, L.getD i false = true → dn.testBit i = true
  eff : ∀ {i : Nat} {xi : XI}, its[i]? = some xi → xi.op.eff = true → dn.testBit i = true → L.getD i false = true
  dcl : ∀ {i : Nat} {xi : XI} {e : Nat}, its[i]? = some xi → dn.testBit i = true → e ∈ eds.getD i [] → dn.testBit e = true
  lcl : ∀ {i : Nat} {xi : XI} {e : Nat}, its[i]? = some xi → L.getD i false = true → e ∈ eds.getD i [] → L.getD e false = true
  to : g0.np.to w0 g.np w
  rel : Rel g st.m w
  car : AR w g c a.tmps
  clen : c.length = st.t.length
  dfr : a.defers = ds
  c1 : ∀ x, (∀ (i : Nat) (xi : XI), its[i]? = some xi → Pend dn L i → xi.dst ≠ some x) → c.getD x .und = st.t.getD x .und
  c2 : ∀ {i : Nat} {xi : XI}, its[i]? = some xi → Pend dn L i → ∀ x, x ∈ xi.looks → (∀ (k : Nat) (xk : XI), its[k]? = some xk → Pend dn L k → k ∈ eds.getD i [] → xk.dst ≠ some x) → c.getD x .und = (tf i).getD x .und
  c3 : ∀ {i : Nat} {xi : XI} {d : Nat}, its[i]? = some xi → Pend dn L i → xi.dst = some d → d < st.t.length → st.t.getD d .und = vf i
  c4 : ∀ {i : Nat} {xi : XI} {k : Nat} {xk : XI} {d : Nat}, its[i]? = some xi → its[k]? = some xk → Pend dn L i → Pend dn L k → k ∈ eds.getD i [] → d ∈ xi.looks → xk.dst = some d → d < st.t.length → (tf i).getD d .und = vf k
  rc : ∀ {i : Nat} {xi : XI}, its[i]? = some xi → Pend dn L i → Rec X st.m live g tf vf bf i xi
  tl : ∀ {i : Nat} {xi : XI}, its[i]? = some xi → Pend dn L i → (tf i).length = st.t.length
  pl : ∀ {i : Nat} {xi : XI}, its[i]? = some xi → Pend dn L i → xi.op.mem = true → i ∈ pl
  pd : ∀ b, (∀ (i : Nat) (xi : XI), its[i]? = some xi → Pend dn L i → bf i ≠ some b) → g.pd b = g0.pd b
  bf0 : ∀ {i : Nat} {xi : XI} {b : Nat}, its[i]? = some xi → Pend dn L i → bf i = some b → g0.pd b = none
  bfi : ∀ {i : Nat} {xi : XI} {j : Nat} {xj : XI} {b : Nat}, its[i]? = some xi → its[j]? = some xj → Pend dn L i → Pend dn L j → bf i = some b → bf j = some b → i = j

section
variable {E : Env} {X : XP} {ops : Array Oper} {its : List XI} {eds : List (List Nat)} {g0 : G} {w0 : World} {pl : List Nat} {dn : Nat} {live : XLv} {st : XSt} {L : Array Bool} {a : Act} {w : World} {ds : List Deferred}
  {g : G} {c : List V} {tf : Nat → List V} {vf : Nat → V} {bf : Nat → Option Nat}

theorem getD_set_iff {i j : Nat} (h : i < L.size) : (L.setIfInBounds i true).getD j false = true ↔ j = i ∨ L.getD j false = true := by
  by_cases hij : i = j
  · subst hij; simp [h]
  · rw [getD_set_ne false hij]; constructor
    · exact .inr
    · rintro (h | h)
      · exact absurd h.symm hij
      · exact h

theorem pend_set {i j : Nat} (h : i < L.size) : Pend dn (L.setIfInBounds i true) j ↔ Pend dn L j ∧ j ≠ i := by
  have := getD_set_iff (L := L) (i := i) (j := j) h
  unfold Pend
  by_cases hji : j = i
  · subst hji
    have : (L.setIfInBounds j true).getD j false = true := this.2 (.inl rfl)
    simp [this]
  · rw [getD_set_ne false (Ne.symm hji)]; simp [hji]

/-- An operation that was still to come has come. -/
theorem DInv.exec (hS : DS E ops its eds) (h : DInv E X its eds g0 w0 pl dn live st L a w ds g c tf vf bf) {i : Nat} {xi : XI} (hi : its[i]? = some xi) (hp : Pend dn L i) (hrd : ∀ e ∈ eds.getD i [], L.getD e false = true)
    {g' : G} {w' : World} {cv : Value} (hto : g.np.to w g'.np w') (hrel : Rel g' st.m w') (hv : VR w' g' (vf i) cv) (hpd : ∀ b, g'.pd b = if bf i = some b then none else g.pd b) :
    DInv E X its eds g0 w0 pl dn live st (L.setIfInBounds i true) (a.put xi.dst cv) w' ds g' (xput c xi.dst (vf i)) tf vf bf := by
  have hlt : i < L.size := by rw [h.size]; exact (List.getElem?_eq_some_iff.1 hi).1
  have hle : g.le w g' w' := hto.tole.of_np
  have other : ∀ {k : Nat} {xk : XI} {d : Nat}, its[k]? = some xk → Pend dn L k → k ≠ i → xi.dst = some d → d ∈ xk.looks → i ∈ eds.getD k [] := by
    intro k xk d hk hpk hne hd hl
    rcases (hS.tmp hk hi hne hd).2 hl with h1 | h1
    · exact h1
    · have := hrd k h1; rw [hpk.2] at this; cases this
  refine { size := by simpa using h.size, sub := fun j hj => ?_, eff := fun hj he hd => ?_, dcl := h.dcl, lcl := fun {j xj e} hj hl he => ?_, to := h.to.trans hto, rel := hrel, car := ?_, clen := by rw [length_xput]; exact h.clen, dfr := by rw [put_defers]; exact h.dfr, c1 := fun x hx => ?_, c2 := fun {j xj} hj hpj x hx hno => ?_, c3 := fun hj hpj => h.c3 hj ((pend_set hlt).1 hpj).1, c4 := fun hj hk hpj hpk => h.c4 hj hk ((pend_set hlt).1 hpj).1 ((pend_set hlt).1 hpk).1, rc := fun {j xj} hj hpj => ?_, tl := fun hj hpj => h.tl hj ((pend_set hlt).1 hpj).1, pl := fun hj hpj => h.pl hj ((pend_set hlt).1 hpj).1, pd := fun b hb => ?_, bf0 := fun hj hpj => h.bf0 hj ((pend_set hlt).1 hpj).1, bfi := fun hj hk hpj hpk => h.bfi hj hk ((pend_set hlt).1 hpj).1 ((pend_set hlt).1 hpk).1 }
  · rcases (getD_set_iff hlt).1 hj with rfl | hj
    · exact hp.1
    · exact h.sub j hj
  · exact (getD_set_iff hlt).2 (.inr (h.eff hj he hd))
  · rcases (getD_set_iff hlt).1 hl with rfl | hl
    · exact (getD_set_iff hlt).2 (.inr (hrd e he))
    · exact (getD_set_iff hlt).2 (.inr (h.lcl hj hl he))
  · rw [← putV_xput]
    exact AR.put (h.car.mono hle) xi.dst hv
  · by_cases hd : xi.dst = some x
    · by_cases hxl : x < st.t.length
      · rw [hd, getD_xput_eq (by rw [h.clen]; exact hxl), h.c3 hi hp hd hxl]
      · rw [getD_out (by rw [length_xput, h.clen]; omega), getD_out (by omega)]
    · rw [getD_xput_ne hd]
      refine h.c1 x fun j xj hj hpj => ?_
      by_cases hji : j = i
      · subst hji; rw [hi] at hj; cases hj; exact hd
      · exact hx j xj hj ((pend_set hlt).2 ⟨hpj, hji⟩)
  · obtain ⟨hpj, hji⟩ := (pend_set hlt).1 hpj
    by_cases hd : xi.dst = some x
    · have hij := other hj hpj hji hd hx
      by_cases hxl : x < st.t.length
      · rw [hd, getD_xput_eq (by rw [h.clen]; exact hxl), h.c4 hj hi hpj hp hij hx hd hxl]
      · rw [getD_out (by rw [length_xput, h.clen]; omega), getD_out (by rw [h.tl hj hpj]; omega)]
    · rw [getD_xput_ne hd]
      refine h.c2 hj hpj x hx fun k xk hk hpk hkj => ?_
      by_cases hki : k = i
      · subst hki; rw [hi] at hk; cases hk; exact hd
      · exact hno k xk hk ((pend_set hlt).2 ⟨hpk, hki⟩) hkj
  · obtain ⟨hpj, hji⟩ := (pend_set hlt).1 hpj
    rcases h.rc hj hpj with h1 | h1 | ⟨h1, h2, m1, o, h3, h4, h5⟩
    · exact .inl h1
    · exact .inr (.inl h1)
    · refine .inr (.inr ⟨h1, h2, m1, o, h3, ?_, h5⟩)
      rw [hpd, if_neg fun hb => hji (h.bfi hj hi hpj hp h5 hb)]
      exact h4
  · rw [hpd]
    by_cases hb2 : bf i = some b
    · rw [if_pos hb2, h.bf0 hi hp hb2]
    · rw [if_neg hb2]
      refine h.pd b fun j xj hj hpj => ?_
      by_cases hji : j = i
      · subst hji; exact hb2
      · exact hb j xj hj ((pend_set hlt).2 ⟨hpj, hji⟩)

theorem testBit_or_two (dn i j : Nat) : (dn ||| 2 ^ i).testBit j = true ↔ dn.testBit j = true ∨ j = i := by
  rw [Nat.testBit_or, Bool.or_eq_true, Nat.testBit_two_pow, decide_eq_true_iff]
  constructor <;> (rintro (h | h) <;> simp [h])

theorem Rel.wait_le (g : G) (b : Nat) (o : XObj) (w : World) : g.le w (g.wait b o) w := ⟨fun _ _ h => h, fun _ _ _ => rfl, fun _ => Nat.le_refl _, fun _ _ _ h => ⟨h, rfl, rfl⟩⟩

/-- The machine does what is no effect. -/
theorem DInv.quiet (hX : LinkS E X) (hS : DS E ops its eds) (h : DInv E X its eds g0 w0 pl dn live st L a w ds g c tf vf bf) {i : Nat} {xi : XI} (hi : its[i]? = some xi) (hne : xi.op.eff = false) (hnd : dn.testBit i = false)
    (hed : ∀ e ∈ eds.getD i [], dn.testBit e = true) {live' : XLv} {st' : XSt} {v : V}
    (hst : (xwant st.t xi.grd = some false ∧ v = .udf ∧ st' = { st with t := xput st.t xi.dst .udf } ∧ live' = live) ∨
      (xwant st.t xi.grd = some true ∧ ∃ m', xop st.m (xev X st.t) xi.op = some (v, m') ∧ st' = { st with t := xput st.t xi.dst v, m := m' } ∧ live' = bif xi.op.mem then (i, st.t, xi, v) :: live else live)) :
    ∃ g' tf' vf' bf', DInv E X its eds g0 w0 (pl ++ (if xi.op.mem = true then [i] else [])) (dn ||| 2 ^ i) live' st' L a w ds g' c tf' vf' bf' := by
  have hLi : L.getD i false = false := by
    cases hl : L.getD i false with
    | false => rfl
    | true => have := h.sub i hl; rw [hnd] at this; cases this
  have hpend : ∀ j, Pend (dn ||| 2 ^ i) L j ↔ Pend dn L j ∨ j = i := by
    intro j
    unfold Pend
    rw [testBit_or_two]
    constructor
    · rintro ⟨h1 | h1, h2⟩
      · exact .inl ⟨h1, h2⟩
      · exact .inr h1
    · rintro (⟨h1, h2⟩ | rfl)
      · exact ⟨.inl h1, h2⟩
      · exact ⟨.inr rfl, hLi⟩
  have hpi : ∀ j, Pend dn L j → j ≠ i := by rintro j hj rfl; rw [hj.1] at hnd; cases hnd
  -- the memory, and what is pending
  have mem : ∃ g' b', Rel g' st'.m w ∧ g.le w g' w ∧ g'.np = g.np ∧ (∃ l, st'.m = st.m ++ l) ∧ (∀ b, g'.pd b = g.pd b ∨ b = st.m.length) ∧ (b' = none → g'.pd = g.pd) ∧
      ((xwant st.t xi.grd = some false ∧ v = .udf ∧ b' = none) ∨ (xwant st.t xi.grd = some true ∧ xi.op.alc = false ∧ xop st'.m (xev X st.t) xi.op = some (v, st'.m) ∧ b' = none) ∨
        (xwant st.t xi.grd = some true ∧ xi.op.alc = true ∧ ∃ o, xop st.m (xev X st.t) xi.op = some (v, st.m ++ [o]) ∧ g'.pd st.m.length = some o ∧ b' = some st.m.length)) := by
    rcases hst with ⟨h1, h2, rfl, _⟩ | ⟨h1, m', h2, rfl, _⟩
    · exact ⟨g, none, h.rel, G.le.refl _ _, rfl, ⟨[], by simp⟩, fun _ => .inl rfl, fun _ => rfl, .inl ⟨h1, h2, rfl⟩⟩
    · cases hal : xi.op.alc with
      | false =>
        have hm : m' = st.m ∧ xop st.m (xev X st.t) xi.op = some (v, st.m) := by
          cases hme : xi.op.mem with
          | true => obtain ⟨q1, q2⟩ := xop_mem hme [] h2; simp only [List.append_nil] at q2; exact ⟨q1, q2⟩
          | false => obtain ⟨q1, q2⟩ := xop_free hne hal hme h2; exact ⟨q1, q2 _⟩
        obtain ⟨rfl, hm2⟩ := hm
        exact ⟨g, none, h.rel, G.le.refl _ _, rfl, ⟨[], by simp⟩, fun _ => .inl rfl, fun _ => rfl, .inr (.inl ⟨h1, rfl, hm2, rfl⟩)⟩
      | true =>
        obtain ⟨o', ho', hci⟩ := hS.it hi
        obtain ⟨_, hop, _⟩ := cI_spec hci
        obtain ⟨o, rfl, hA⟩ := cOp_alc (ev := evl E st.t) (hX.ops st.t) hop hal h2
        refine ⟨g.wait st.m.length o, some st.m.length, h.rel.moreP o (by rw [hA.1]; exact Nat.one_pos), Rel.wait_le _ _ _ _, rfl, ⟨[o], rfl⟩, fun b => ?_, (fun hb => by cases hb), .inr (.inr ⟨h1, rfl, o, h2, by simp [G.wait], rfl⟩)⟩
        by_cases hb : b = st.m.length
        · exact .inr hb
        · left; simp [G.wait, hb]
  obtain ⟨g', b', m1, m2, m3, ⟨l, m4⟩, m5, m6, m7⟩ := mem
  have ht : st'.t = xput st.t xi.dst v := by rcases hst with ⟨_, rfl, rfl, _⟩ | ⟨_, _, _, rfl, _⟩ <;> rfl
  have htl : st'.t.length = st.t.length := by rw [ht, length_xput]
  have hliv : ∀ q, q ∈ live → q ∈ live' := by
    rcases hst with ⟨_, _, _, rfl⟩ | ⟨_, _, _, _, rfl⟩
    · exact fun q hq => hq
    · intro q hq; cases xi.op.mem <;> simp [hq]
  have hpb : ∀ {j : Nat} {xj : XI} {b : Nat}, its[j]? = some xj → Pend dn L j → bf j = some b → b < st.m.length ∧ ∃ o, g.pd b = some o := by
    intro j xj b hj hpj hb
    rcases h.rc hj hpj with ⟨_, _, h1⟩ | ⟨_, _, _, _, h1⟩ | ⟨_, _, k1, o, _, h4, h5⟩
    · rw [hb] at h1; cases h1
    · rw [hb] at h1; cases h1
    · rw [hb] at h5; cases h5
      exact ⟨(List.getElem?_eq_some_iff.1 (h.rel.pend _ _ h4).1).1, o, h4⟩
  refine ⟨g', fun j => if j = i then st.t else tf j, fun j => if j = i then v else vf j, fun j => if j = i then b' else bf j,
    { size := h.size, sub := fun j hj => (testBit_or_two _ _ _).2 (.inl (h.sub j hj)), eff := fun {j xj} hj he hd => ?_, dcl := fun {j xj e} hj hd he => ?_, lcl := h.lcl, to := by rw [m3]; exact h.to, rel := m1, car := h.car.mono m2, clen := by rw [htl]; exact h.clen, dfr := h.dfr, c1 := fun x hx => ?_, c2 := fun {j xj} hj hpj x hx hno => ?_, c3 := fun {j xj d} hj hpj hd hdl => ?_, c4 := fun {j xj k xk d} hj hk hpj hpk hkj hdl hd hl => ?_, rc := fun {j xj} hj hpj => ?_, tl := fun {j xj} hj hpj => ?_, pl := fun {j xj} hj hpj hm => ?_, pd := fun b hb => ?_, bf0 := fun {j xj b} hj hpj hb => ?_, bfi := fun {j xj k xk b} hj hk hpj hpk hb hb2 => ?_ }⟩
  · rcases (testBit_or_two _ _ _).1 hd with hd | rfl
    · exact h.eff hj he hd
    · rw [hi] at hj; cases hj; rw [hne] at he; cases he
  · refine (testBit_or_two _ _ _).2 (.inl ?_)
    rcases (testBit_or_two _ _ _).1 hd with hd | rfl
    · exact h.dcl hj hd he
    · exact hed e he
  · have h1 : xi.dst ≠ some x := hx i xi hi ((hpend i).2 (.inr rfl))
    rw [ht, getD_xput_ne h1]
    exact h.c1 x fun j xj hj hpj => hx j xj hj ((hpend j).2 (.inl hpj))
  · replace hpj := (hpend j).1 hpj
    rcases hpj with hpj | rfl
    · rw [if_neg (hpi j hpj)]
      exact h.c2 hj hpj x hx fun k xk hk hpk => hno k xk hk ((hpend k).2 (.inl hpk))
    · rw [if_pos rfl]
      rw [hi] at hj; cases hj
      refine h.c1 x fun k xk hk hpk hd => ?_
      rcases (hS.tmp hi hk (Ne.symm (hpi k hpk)) hd).2 hx with h1 | h1
      · exact hno k xk hk ((hpend k).2 (.inl hpk)) h1 hd
      · have := h.dcl hk hpk.1 h1; rw [hnd] at this; cases this
  · rw [htl] at hdl
    replace hpj := (hpend j).1 hpj
    rcases hpj with hpj | rfl
    · rw [if_neg (hpi j hpj), ht, getD_xput_ne (hS.tmp hi hj (Ne.symm (hpi j hpj)) hd).1]
      exact h.c3 hj hpj hd hdl
    · rw [if_pos rfl]
      rw [hi] at hj; cases hj
      rw [ht, hd, getD_xput_eq hdl]
  · rw [htl] at hl
    replace hpj := (hpend j).1 hpj
    rcases hpj with hpj | rfl
    · replace hpk := (hpend k).1 hpk
      rcases hpk with hpk | rfl
      · rw [if_neg (hpi j hpj), if_neg (hpi k hpk)]
        exact h.c4 hj hk hpj hpk hkj hdl hd hl
      · have := h.dcl hj hpj.1 hkj; rw [hnd] at this; cases this
    · replace hpk := (hpend k).1 hpk
      rcases hpk with hpk | rfl
      · rw [if_pos rfl, if_neg (hpi k hpk)]
        exact h.c3 hk hpk hd hl
      · exact absurd (hS.lt hj hkj) (Nat.lt_irrefl _)
  · replace hpj := (hpend j).1 hpj
    rcases hpj with hpj | rfl
    · have hn := hpi j hpj
      unfold Rec
      simp only [if_neg hn]
      rcases h.rc hj hpj with h1 | ⟨h1, h2, h3, h4, h5⟩ | ⟨h1, h2, k1, o, h3, h4, h5⟩
      · exact .inl h1
      · refine .inr (.inl ⟨h1, h2, ?_, fun hm => hliv _ (h4 hm), h5⟩)
        rw [m4]
        cases hme : xj.op.mem with
        | true => exact (xop_mem hme l h3).2
        | false =>
          have hef : xj.op.eff = false := by
            cases he : xj.op.eff with
            | false => rfl
            | true => have := h.eff hj he hpj.1; rw [hpj.2] at this; cases this
          exact (xop_free hef h2 hme h3).2 _
      · refine .inr (.inr ⟨h1, h2, k1, o, h3, ?_, h5⟩)
        have hlt := (List.getElem?_eq_some_iff.1 (h.rel.pend _ _ h4).1).1
        rcases m5 k1.length with h6 | h6
        · rw [h6]; exact h4
        · omega
    · rw [hi] at hj; cases hj
      unfold Rec
      simp only [if_true]
      rcases m7 with ⟨h1, h2, h3⟩ | ⟨h1, h2, h3, h4⟩ | ⟨h1, h2, o, h3, h4, h5⟩
      · exact .inl ⟨h1, h2, h3⟩
      · refine .inr (.inl ⟨h1, h2, h3, fun hm => ?_, h4⟩)
        rcases hst with ⟨h1', _⟩ | ⟨_, _, _, _, rfl⟩
        · rw [h1] at h1'; cases h1'
        · rw [hm]; simp
      · exact .inr (.inr ⟨h1, h2, st.m, o, h3, h4, h5⟩)
  · replace hpj := (hpend j).1 hpj
    rcases hpj with hpj | rfl
    · rw [if_neg (hpi j hpj), htl]; exact h.tl hj hpj
    · rw [if_pos rfl, htl]
  · replace hpj := (hpend j).1 hpj
    rcases hpj with hpj | rfl
    · exact List.mem_append_left _ (h.pl hj hpj hm)
    · rw [hi] at hj; cases hj
      rw [if_pos hm]; simp
  · have h1 := hb i xi hi ((hpend i).2 (.inr rfl))
    simp only [if_true] at h1
    have h2 : ∀ (j : Nat) (xj : XI), its[j]? = some xj → Pend dn L j → bf j ≠ some b := fun j xj hj hpj => by
      have := hb j xj hj ((hpend j).2 (.inl hpj))
      rwa [if_neg (hpi j hpj)] at this
    rw [← h.pd b h2]
    rcases m5 b with h3 | rfl
    · exact h3
    · cases hb' : b' with
      | none => rw [m6 hb']
      | some q =>
        exfalso
        rcases m7 with ⟨_, _, h3⟩ | ⟨_, _, _, h4⟩ | ⟨_, _, o, _, _, h5⟩
        · rw [hb'] at h3; cases h3
        · rw [hb'] at h4; cases h4
        · exact h1 h5
  · replace hpj := (hpend j).1 hpj
    rcases hpj with hpj | rfl
    · rw [if_neg (hpi j hpj)] at hb; exact h.bf0 hj hpj hb
    · rw [if_pos rfl] at hb
      have hbe : b = st.m.length := by
        rcases m7 with ⟨_, _, h3⟩ | ⟨_, _, _, h4⟩ | ⟨_, _, o, _, _, h5⟩
        · rw [hb] at h3; cases h3
        · rw [hb] at h4; cases h4
        · rw [hb] at h5; cases h5; rfl
      subst hbe
      rw [← h.pd _ fun k xk hk hpk hbk => by have := (hpb hk hpk hbk).1; omega]
      exact h.rel.pd_out (Nat.le_refl _)
  · have fresh : ∀ {k : Nat} {xk : XI}, its[k]? = some xk → Pend dn L k → bf k = some b → b' ≠ some b := by
      intro k xk hk hpk hbk hb3
      have := (hpb hk hpk hbk).1
      rcases m7 with ⟨_, _, h3⟩ | ⟨_, _, _, h4⟩ | ⟨_, _, o, _, _, h5⟩
      · rw [hb3] at h3; cases h3
      · rw [hb3] at h4; cases h4
      · rw [hb3] at h5; cases h5; omega
    replace hpj := (hpend j).1 hpj
    rcases hpj with hpj | rfl
    · rw [if_neg (hpi j hpj)] at hb
      replace hpk := (hpend k).1 hpk
      rcases hpk with hpk | rfl
      · rw [if_neg (hpi k hpk)] at hb2
        exact h.bfi hj hk hpj hpk hb hb2
      · rw [if_pos rfl] at hb2
        exact absurd hb2 (fresh hj hpj hb)
    · rw [if_pos rfl] at hb
      replace hpk := (hpend k).1 hpk
      rcases hpk with hpk | rfl
      · rw [if_neg (hpi k hpk)] at hb2
        exact absurd hb (fresh hk hpk hb2)
      · rfl

end
end Go.VC

/- Regions whose order is open: every order is the machine's. -/
namespace Go.VC
open Go Go.RowKit

section
variable {E : Env} {X : XP} {ops : Array Oper} {its : List XI} {eds : List (List Nat)} {g0 : G} {w0 : World} {pl : List Nat} {dn : Nat} {live : XLv} {st : XSt} {L : Array Bool} {a : Act} {w : World} {ds : List Deferred}
  {g : G} {c : List V} {tf : Nat → List V} {vf : Nat → V} {bf : Nat → Option Nat} {r : Option Nat} {C : XCall} {Y : XYield}

theorem looks_want {xi : XI} {t t' : List V} (h : ∀ x ∈ xi.looks, t.getD x .und = t'.getD x .und) : xwant t xi.grd = xwant t' xi.grd := by
  unfold XI.looks at h
  cases hg : xi.grd with
  | none => rfl
  | some q =>
    obtain ⟨d, b⟩ := q
    rw [hg] at h
    simp only [xwant, h d (by simp)]

theorem looks_xev {xi : XI} {t t' : List V} (h : ∀ x ∈ xi.looks, t.getD x .und = t'.getD x .und) : ∀ y ∈ xi.op.xos, xev X t y = xev X t' y := by
  intro y hy
  cases y with
  | t i => exact h i (List.mem_append_right _ (List.mem_filterMap.2 ⟨_, hy, rfl⟩))
  | c v => rfl
  | g n => rfl

theorem does_wp {o : Oper} {cv : Value} {w' : World} (h : Does E a.eval o.op w cv w') (hnd : ∀ c, o.op ≠ .defer c) {next : Act → World → Prop} {Q : Exit → Act → World → Prop} (hk : next (a.put o.dst cv) w') : o.wpIn (FZ r) 0 E.P a w next Q := by
  refine ⟨fun _ _ => trivial, ?_⟩
  show o.uponIn (FZ r) 0 E.P a next Q ((o.semAt r a.eval).run E.P w)
  rw [Oper.semAt_eq r _ _ hnd]
  rcases h o.dst o.type o.pos o.after o.guard with h9 | ⟨h9, h8⟩
  · rw [show o = ⟨o.dst, o.op, o.type, o.pos, o.after, o.guard⟩ from rfl, h9, Oper.uponIn_value]
    exact hk
  · rw [show o = ⟨o.dst, o.op, o.type, o.pos, o.after, o.guard⟩ from rfl, h9, Oper.uponIn_skip]
    rw [h8] at hk
    exact hk

theorem DInv.at_pend (hS : DS E ops its eds) (h : DInv E X its eds g0 w0 pl dn live st L a w ds g c tf vf bf) {i : Nat} {xi : XI} (hi : its[i]? = some xi) (hp : Pend dn L i) (hrd : ∀ e ∈ eds.getD i [], L.getD e false = true) :
    ∀ x ∈ xi.looks, c.getD x .und = (tf i).getD x .und := fun x hx => h.c2 hi hp x hx fun k xk hk hpk hki => by
  have := hrd k hki; rw [hpk.2] at this; cases this

theorem DInv.at_eff (hS : DS E ops its eds) (h : DInv E X its eds g0 w0 pl dn live st L a w ds g c tf vf bf) {i : Nat} {xi : XI} (hi : its[i]? = some xi) (hnd : dn.testBit i = false) (hrd : ∀ e ∈ eds.getD i [], L.getD e false = true) :
    ∀ x ∈ xi.looks, c.getD x .und = st.t.getD x .und := fun x hx => h.c1 x fun k xk hk hpk hd => by
  have hki : i ≠ k := by rintro rfl; rw [hpk.1] at hnd; cases hnd
  rcases (hS.tmp hi hk hki hd).2 hx with h1 | h1
  · have := hrd k h1; rw [hpk.2] at this; cases this
  · have := h.dcl hk hpk.1 h1; rw [hnd] at this; cases this

/-- An effect has come. -/
theorem DInv.effect (hS : DS E ops its eds) (h : DInv E X its eds g0 w0 pl dn live st L a w ds g c tf vf bf) {i : Nat} {xi : XI} (hi : its[i]? = some xi) (hnd : dn.testBit i = false) (hrd : ∀ e ∈ eds.getD i [], L.getD e false = true)
    {g' : G} {w' : World} {cv : Value} {v : V} {st' : XSt} {live' : XLv} {pl' : List Nat} (hto : g.np.to w g'.np w') (hpdq : g'.pd = g.pd) (hrel : Rel g' st'.m w') (hv : VR w' g' v cv) (ht : st'.t = xput st.t xi.dst v)
    (hrc : ∀ {j : Nat} {xj : XI}, its[j]? = some xj → Pend dn L j → Rec X st'.m live' g' tf vf bf j xj) (hpl : ∀ {j : Nat} {xj : XI}, its[j]? = some xj → Pend dn L j → xj.op.mem = true → j ∈ pl') :
    DInv E X its eds g0 w0 pl' (dn ||| 2 ^ i) live' st' (L.setIfInBounds i true) (a.put xi.dst cv) w' ds g' (xput c xi.dst v) tf vf bf := by
  have hlt : i < L.size := by rw [h.size]; exact (List.getElem?_eq_some_iff.1 hi).1
  have hle : g.le w g' w' := hto.tole.of_np
  have htl : st'.t.length = st.t.length := by rw [ht, length_xput]
  have hp : ∀ j, Pend (dn ||| 2 ^ i) (L.setIfInBounds i true) j ↔ Pend dn L j := by
    intro j
    rw [pend_set hlt]
    unfold Pend
    rw [testBit_or_two]
    constructor
    · rintro ⟨⟨h1 | h1, h2⟩, h3⟩
      · exact ⟨h1, h2⟩
      · exact absurd h1 h3
    · rintro ⟨h1, h2⟩
      exact ⟨⟨.inl h1, h2⟩, by rintro rfl; rw [hnd] at h1; cases h1⟩
  have hpi : ∀ {j}, Pend dn L j → i ≠ j := by rintro j hj rfl; rw [hj.1] at hnd; cases hnd
  refine { size := by simpa using h.size, sub := fun j hj => ?_, eff := fun {j xj} hj he hd => ?_, dcl := fun {j xj e} hj hd he => ?_, lcl := fun {j xj e} hj hl he => ?_, to := h.to.trans hto, rel := hrel, car := ?_, clen := by rw [length_xput, htl]; exact h.clen, dfr := by rw [put_defers]; exact h.dfr, c1 := fun x hx => ?_, c2 := fun {j xj} hj hpj x hx hno => ?_, c3 := fun {j xj d} hj hpj hd hdl => ?_, c4 := fun {j xj k xk d} hj hk hpj hpk hkj hdl hd hl => ?_, rc := fun hj hpj => hrc hj ((hp _).1 hpj), tl := fun hj hpj => by rw [htl]; exact h.tl hj ((hp _).1 hpj), pl := fun hj hpj => hpl hj ((hp _).1 hpj), pd := fun b hb => ?_, bf0 := fun hj hpj => h.bf0 hj ((hp _).1 hpj), bfi := fun hj hk hpj hpk => h.bfi hj hk ((hp _).1 hpj) ((hp _).1 hpk) }
  · rw [testBit_or_two]
    rcases (getD_set_iff hlt).1 hj with rfl | hj
    · exact .inr rfl
    · exact .inl (h.sub j hj)
  · rcases (testBit_or_two _ _ _).1 hd with hd | rfl
    · exact (getD_set_iff hlt).2 (.inr (h.eff hj he hd))
    · exact (getD_set_iff hlt).2 (.inl rfl)
  · rw [testBit_or_two]
    rcases (testBit_or_two _ _ _).1 hd with hd | rfl
    · exact .inl (h.dcl hj hd he)
    · exact .inl (h.sub e (hrd e he))
  · rcases (getD_set_iff hlt).1 hl with rfl | hl
    · exact (getD_set_iff hlt).2 (.inr (hrd e he))
    · exact (getD_set_iff hlt).2 (.inr (h.lcl hj hl he))
  · rw [← putV_xput]
    exact AR.put (h.car.mono hle) xi.dst hv
  · rw [ht]
    by_cases hd : xi.dst = some x
    · by_cases hxl : x < st.t.length
      · rw [hd, getD_xput_eq (by rw [h.clen]; exact hxl), getD_xput_eq hxl]
      · rw [getD_out (by rw [length_xput, h.clen]; omega), getD_out (by rw [length_xput]; omega)]
    · rw [getD_xput_ne hd, getD_xput_ne hd]
      exact h.c1 x fun j xj hj hpj => hx j xj hj ((hp j).2 hpj)
  · replace hpj := (hp j).1 hpj
    have hd : xi.dst ≠ some x := fun hd => by
      rcases (hS.tmp hj hi (Ne.symm (hpi hpj)) hd).2 hx with h1 | h1
      · have := h.dcl hj hpj.1 h1; rw [hnd] at this; cases this
      · have := hrd j h1; rw [hpj.2] at this; cases this
    rw [getD_xput_ne hd]
    exact h.c2 hj hpj x hx fun k xk hk hpk => hno k xk hk ((hp k).2 hpk)
  · replace hpj := (hp j).1 hpj
    rw [htl] at hdl
    rw [ht, getD_xput_ne (hS.tmp hi hj (hpi hpj) hd).1]
    exact h.c3 hj hpj hd hdl
  · rw [htl] at hl
    exact h.c4 hj hk ((hp j).1 hpj) ((hp k).1 hpk) hkj hdl hd hl
  · rw [hpdq]
    exact h.pd b fun j xj hj hpj => hb j xj hj ((hp j).2 hpj)

/-- How many operations are still to come. -/
def unl (L : Array Bool) : Nat := L.toList.countP (fun b => !b)

theorem countP_set_true : ∀ (l : List Bool) (i : Nat), l[i]? = some false → (l.set i true).countP (fun b => !b) + 1 = l.countP (fun b => !b) := by
  intro l
  induction l with
  | nil => intro i h; simp at h
  | cons b l ih =>
    intro i h
    cases i with
    | zero => simp at h; subst h; simp [List.countP_cons]
    | succ i =>
      have := ih i (by simpa using h)
      simp only [List.set_cons_succ, List.countP_cons]
      omega

theorem unl_set {i : Nat} (h : i < L.size) (hi : L.getD i false = false) : unl (L.setIfInBounds i true) + 1 = unl L := by
  unfold unl
  rw [Array.toList_setIfInBounds]
  refine countP_set_true _ i ?_
  rw [Array.getElem?_toList, Array.getElem?_eq_getElem h]
  simp only [Array.getD_eq_getD_getElem?, Array.getElem?_eq_getElem h, Option.getD_some] at hi
  rw [hi]

theorem unl_zero (h : unl L = 0) {i : Nat} (hi : i < L.size) : L.getD i false = true := by
  unfold unl at h
  rw [List.countP_eq_zero] at h
  have := h L[i] (by simp)
  simp only [Array.getD_eq_getD_getElem?, Array.getElem?_eq_getElem hi, Option.getD_some]
  simpa using this

/-- What is claimed of a place in such a region: whatever the order, it ends well. -/
def BClaim (E : Env) (X : XP) (r : Option Nat) (ops : Array Oper) (its : List XI) (eds : List (List Nat)) (g0 : G) (w0 : World) (ds : List Deferred) (Q : Exit → Act → World → Prop) (pl : List Nat) (dn : Nat) (live : XLv) (st : XSt) : Prop :=
  ∀ (fuel : Nat) (L : Array Bool) (a : Act) (w : World) (g : G) (c : List V) (tf : Nat → List V) (vf : Nat → V) (bf : Nat → Option Nat),
    DInv E X its eds g0 w0 pl dn live st L a w ds g c tf vf bf → unl L ≤ fuel → wpAnyIn (FZ r) 0 E.P .any ops Q fuel L a w

theorem xstep_do {xi : XI} (hd : xi.op.drawn = true) {u : Unit} {st1 : XSt} (h : xstep X C Y st xi = some (.inl u, st1)) : ∃ v m', xdo X C Y st.m (xev X st.t) xi.op = some (.inl v, m') ∧ st1 = { st with t := xput st.t xi.dst v, m := m' } := by
  unfold xstep at h
  dsimp only at h
  cases hcl : xi.op.isCall with
  | true =>
    rw [hcl] at h
    simp only [cond_true] at h
    split at h <;> first | (cases h; done) | skip
    rename_i v m' hx
    simp only [Option.some.injEq, Prod.mk.injEq] at h
    obtain ⟨_, rfl⟩ := h
    exact ⟨v, m', by simp only [xdo, hcl, cond_true, hx], rfl⟩
  | false =>
    rw [hcl] at h
    simp only [cond_false] at h
    split at h
    · rename_i f xs hxo; rw [hxo] at hd; cases hd
    · rename_i x hxo; rw [hxo] at hd; cases hd
    · split at h <;> first | (cases h; done) | skip
      rename_i v m' hx
      simp only [Option.some.injEq, Prod.mk.injEq] at h
      obtain ⟨_, rfl⟩ := h
      exact ⟨v, m', by simp only [xdo, hcl, cond_false, hx, Option.map_some], rfl⟩

theorem listed_all (hS : DS E ops its eds) (hsz : L.size = its.length) (h : Region.ready .any ops L = []) : ∀ i, i < its.length → L.getD i false = true := by
  intro i
  induction i using Nat.strongRecOn with
  | _ i ih =>
    intro hi
    cases hL : L.getD i false with
    | true => rfl
    | false =>
      exfalso
      have hlt : i < ops.size := by rw [← hS.len]; exact hi
      have hmem : i ∈ Region.ready .any ops L := by
        refine mem_ready.2 ⟨?_, ops[i], Array.getElem?_eq_getElem hlt, fun e he hb => ?_⟩
        · have : i < L.size := by omega
          simp only [Array.getD_eq_getD_getElem?, Array.getElem?_eq_getElem this, Option.getD_some] at hL ⊢
          exact hL
        · obtain ⟨xi, hxi⟩ := hS.of (Array.getElem?_eq_getElem hlt)
          have hmem : e.on ∈ eds.getD i [] := by
            rw [hS.ed (Array.getElem?_eq_getElem hlt)]
            exact List.mem_map.2 ⟨e, List.mem_filter.2 ⟨by simpa using he, hb⟩, rfl⟩
          have := hS.lt hxi hmem
          exact ih e.on this (by omega)
      rw [h] at hmem
      cases hmem

/-- One place in such a region. -/
theorem node_claim (hX : LinkS E X) (hC : CS E C) (hY : YS E Y) (hS : DS E ops its eds) (hg0 : GlobR E w0 g0) (hlk0 : g0.lk = LK E) {bs : List Nat}
    (hbs : ∀ {L : Array Bool} {i : Nat} {xi : XI} {x : Nat}, its[i]? = some xi → (∀ e ∈ eds.getD i [], L.getD e false = true) → (∀ {j : Nat} {xj : XI} {e : Nat}, its[j]? = some xj → L.getD j false = true → e ∈ eds.getD j [] → L.getD e false = true) → (bs.getD i 0).testBit x = true → L.getD x false = true)
    {Q : Exit → Act → World → Prop}
    (hcomp : ∀ (i : Nat) (xi : XI), its[i]? = some xi → dn.testBit i = false → (∀ e ∈ eds.getD i [], dn.testBit e = true) → xi.op.eff = true ∧ ∃ keep live' st', xeffect X C Y xi keep live st = some (live', st') ∧ (∀ j ∈ pl, j ∉ keep → (bs.getD i 0).testBit j = true) ∧
      BClaim E X r ops its eds g0 w0 ds Q keep (dn ||| 2 ^ i) live' st')
    (hfin : (∀ (i : Nat) (xi : XI), its[i]? = some xi → dn.testBit i = true) → ∀ a w, a.defers = ds → (∃ g, g0.to w0 g w ∧ Rel g st.m w ∧ AR w g st.t a.tmps) → Q .normal a w) :
    BClaim E X r ops its eds g0 w0 ds Q pl dn live st := by
  have fin : ∀ (L : Array Bool) (a : Act) (w : World) (g : G) (c : List V) (tf : Nat → List V) (vf : Nat → V) (bf : Nat → Option Nat), DInv E X its eds g0 w0 pl dn live st L a w ds g c tf vf bf → (∀ i, i < its.length → L.getD i false = true) → Q .normal a w := by
    intro L a w g c tf vf bf h hall
    have hno : ∀ i xi, its[i]? = some xi → ¬ Pend dn L i := fun i xi hi hp => by
      have := hall i (List.getElem?_eq_some_iff.1 hi).1; rw [hp.2] at this; cases this
    refine hfin (fun i xi hi => h.sub i (hall i (List.getElem?_eq_some_iff.1 hi).1)) a w h.dfr ⟨g, h.to.of_np ?_, h.rel, ?_⟩
    · funext b
      exact h.pd b fun i xi hi hp => absurd hp (hno i xi hi)
    · have hct : c = st.t := by
        apply List.ext_getElem?
        intro x
        have h1 := h.c1 x fun i xi hi hp => absurd hp (hno i xi hi)
        by_cases hx : x < st.t.length
        · rw [List.getD_eq_getElem?_getD, List.getD_eq_getElem?_getD, List.getElem?_eq_getElem (by rw [h.clen]; exact hx), List.getElem?_eq_getElem hx] at h1
          rw [List.getElem?_eq_getElem (by rw [h.clen]; exact hx), List.getElem?_eq_getElem hx]
          simpa using h1
        · rw [List.getElem?_eq_none (by rw [h.clen]; omega), List.getElem?_eq_none (by omega)]
      rw [← hct]; exact h.car
  intro fuel
  induction fuel with
  | zero =>
    intro L a w g c tf vf bf h hu
    have hall : ∀ i, i < its.length → L.getD i false = true := fun i hi => unl_zero (by omega) (by rw [h.size]; exact hi)
    refine ⟨?_, fin L a w g c tf vf bf h hall⟩
    cases hr : Region.ready .any ops L with
    | nil => rfl
    | cons i l =>
      exfalso
      have hm : i ∈ Region.ready .any ops L := by rw [hr]; simp
      obtain ⟨h1, o, h2, _⟩ := mem_ready.1 hm
      have hlt : i < its.length := by rw [hS.len]; exact (Array.getElem?_eq_some_iff.1 h2).1
      have := hall i hlt
      have hls : i < L.size := by rw [h.size]; exact hlt
      simp only [Array.getD_eq_getD_getElem?, Array.getElem?_eq_getElem hls, Option.getD_some] at h1 this
      rw [h1] at this; cases this
  | succ fuel ih =>
    intro L a w g c tf vf bf h hu
    refine ⟨fun hr => fin L a w g c tf vf bf h (listed_all hS h.size hr), fun i hm => ?_⟩
    obtain ⟨h1, o, h2, h3⟩ := mem_ready.1 hm
    obtain ⟨xi, hi⟩ := hS.of h2
    have hlt : i < its.length := (List.getElem?_eq_some_iff.1 hi).1
    have hls : i < L.size := by rw [h.size]; exact hlt
    have hLi : L.getD i false = false := by
      simp only [Array.getD_eq_getD_getElem?, Array.getElem?_eq_getElem hls, Option.getD_some] at h1 ⊢
      exact h1
    have hul := unl_set hls hLi
    have hrd : ∀ e ∈ eds.getD i [], L.getD e false = true := fun e he => by
      rw [hS.ed h2] at he
      obtain ⟨e', he', rfl⟩ := List.mem_map.1 he
      obtain ⟨q1, q2⟩ := List.mem_filter.1 he'
      exact h3 e' (by simpa using q1) q2
    obtain ⟨o', ho', hci⟩ := hS.it hi
    obtain rfl : o = o' := Option.some.inj (h2.symm.trans ho')
    obtain ⟨k1, k2, _⟩ := cI_spec hci
    have hgl : GlobR E w g := hg0.mono h.to.tole.of_np
    have hlk : g.lk = LK E := h.to.lk.1.trans hlk0
    have hev := evl_rel (E := E) h.car hgl
    have hdr := hS.drawn hi
    have hndf : ∀ c, o.op ≠ .defer c := fun c hc => by
      obtain ⟨_, _, _, _, _, i6⟩ := cOp_inv k2
      obtain ⟨f, xs, hx⟩ := i6 ⟨c, hc⟩
      rw [hx] at hdr; cases hdr
    unfold wpOpIn
    simp only [h2]
    cases hdn : dn.testBit i with
    | true =>
      have hp : Pend dn L i := ⟨hdn, hLi⟩
      have hlk2 := h.at_pend hS hi hp hrd
      have hwc := looks_want hlk2
      have hxc := looks_xev (X := X) hlk2
      have go : ∀ {g' w' cv}, g.np.to w g'.np w' → Rel g' st.m w' → VR w' g' (vf i) cv → (∀ b, g'.pd b = if bf i = some b then none else g.pd b) → wpAnyIn (FZ r) 0 E.P .any ops Q fuel (L.setIfInBounds i true) (a.put o.dst cv) w' := by
        intro g' w' cv q1 q2 q3 q4
        have := h.exec hS hi hp hrd q1 q2 q3 q4
        rw [k1] at this
        exact ih _ _ _ _ _ _ _ _ this (by omega)
      rcases h.rc hi hp with ⟨q1, q2, q3⟩ | ⟨q1, q2, q3, _, q5⟩ | ⟨q1, q2, m1, ob, q3, q4, q5⟩
      · rw [← hwc] at q1
        have hwant := want_spec hci q1 (fun d v _ => h.car.get d)
        simp only [hwant, Bool.false_eq_true, if_false]
        exact ⟨fun _ _ => trivial, go (G.to.refl _ _) h.rel (by rw [q2]; exact .udf) (fun b => by rw [q3]; simp)⟩
      · rw [← hwc] at q1
        have hwant := want_spec hci q1 (fun d v _ => h.car.get d)
        simp only [hwant, if_true]
        rw [← xop_xos hxc] at q3
        obtain ⟨cv, w', g', p1, p2, p3, p4⟩ := cOp_sound (ev := evl E c) (hX.ops c) k2 q3 h.rel hev
        exact does_wp p1 hndf (go p3.np p2 p4 (fun b => by rw [q5, p3.lk.2]; simp))
      · rw [← hwc] at q1
        have hwant := want_spec hci q1 (fun d v _ => h.car.get d)
        simp only [hwant, if_true]
        rw [← xop_xos hxc] at q3
        obtain ⟨o2, e1, hA⟩ := cOp_alc (ev := evl E c) (hX.ops c) k2 q2 q3
        obtain rfl : ob = o2 := by simpa using e1
        obtain ⟨cv, w', g', p1, p2, p3, p4, p5⟩ := hA.lay h.rel q4 hev
        refine does_wp p1 hndf (go p3 p2 p4 (fun b => ?_))
        rw [p5, q5]
        by_cases hb : b = m1.length
        · simp [hb]
        · have : ¬ m1.length = b := fun e => hb e.symm
          simp [hb, this]
    | false =>
      obtain ⟨he, keep, live', st', hx, hk, hB⟩ := hcomp i xi hi hdn (fun e he => h.sub e (hrd e he))
      have hlk2 := h.at_eff hS hi hdn hrd
      have hwc := looks_want hlk2
      have hxc := looks_xev (X := X) hlk2
      have hpl : ∀ {j : Nat} {xj : XI}, its[j]? = some xj → Pend dn L j → xj.op.mem = true → j ∈ keep := by
        intro j xj hj hpj hm
        have := h.pl hj hpj hm
        refine Classical.byContradiction fun hn => ?_
        have := hbs hi hrd h.lcl (hk j this hn)
        rw [hpj.2] at this; cases this
      unfold xeffect at hx
      rw [← hwc] at hx
      cases hw : xwant c xi.grd with
      | none => rw [hw] at hx; cases hx
      | some b =>
        rw [hw] at hx
        have hwant := want_spec hci hw (fun d v _ => h.car.get d)
        cases b with
        | false =>
          simp only [hwant, Bool.false_eq_true, if_false]
          simp only [Option.some.injEq, Prod.mk.injEq] at hx
          obtain ⟨rfl, rfl⟩ := hx
          refine ⟨fun _ _ => trivial, ?_⟩
          have := h.effect hS hi hdn hrd (g' := g) (w' := w) (cv := undef) (v := .udf) (st' := { st with t := xput st.t xi.dst .udf }) (live' := live.filter fun x => keep.contains x.1) (pl' := keep) (G.to.refl _ _) rfl h.rel .udf rfl (fun {j xj} hj hpj => by
            rcases h.rc hj hpj with q | ⟨q1, q2, q3, q4, q5⟩ | q
            · exact .inl q
            · refine .inr (.inl ⟨q1, q2, q3, fun hm => ?_, q5⟩)
              exact List.mem_filter.2 ⟨q4 hm, by simpa using hpl hj hpj hm⟩
            · exact .inr (.inr q)) hpl
          rw [k1] at this hB
          exact hB fuel _ _ _ _ _ _ _ _ this (by omega)
        | true =>
          simp only [hwant, if_true]
          dsimp only at hx
          cases hs : xstep X C Y st xi with
          | none => rw [hs] at hx; cases hx
          | some q =>
            obtain ⟨q, st1⟩ := q
            rw [hs] at hx
            cases q with
            | inr v => cases hx
            | inl u =>
              dsimp only at hx
              cases hall : (live.filter fun x => keep.contains x.1).all (xsame X st1.m) with
              | false => rw [hall] at hx; cases hx
              | true =>
                rw [hall] at hx
                simp only [cond_true, Option.some.injEq, Prod.mk.injEq] at hx
                obtain ⟨rfl, rfl⟩ := hx
                obtain ⟨v, m', hdo, rfl⟩ := xstep_do hdr hs
                rw [← xdo_xos hxc] at hdo
                refine do_sound hX hC hY k2 (hX.ops c) hdo h.rel hgl hlk hev (fun g' w' v' cv hv q1 q2 q3 => ?_) (fun g' w' v' cv hv => by cases hv)
                obtain rfl : v = v' := by cases hv; rfl
                have := h.effect hS hi hdn hrd (g' := g') (w' := w') (cv := cv) (v := v) (st' := { st with t := xput st.t xi.dst v, m := m' }) (live' := live.filter fun x => keep.contains x.1) (pl' := keep) q1.np q1.lk.2 q2 q3 rfl (fun {j xj} hj hpj => by
                  rcases h.rc hj hpj with p | ⟨p1, p2, p3, p4, p5⟩ | ⟨p1, p2, m1, ob, p3, p4, p5⟩
                  · exact .inl p
                  · have hef : xj.op.eff = false := by
                      cases hee : xj.op.eff with
                      | false => rfl
                      | true => have := h.eff hj hee hpj.1; rw [hpj.2] at this; cases this
                    cases hme : xj.op.mem with
                    | false => exact .inr (.inl ⟨p1, p2, (xop_free hef p2 hme p3).2 _, fun hm => (by rw [hme] at hm; cases hm), p5⟩)
                    | true =>
                      have hmem : (j, tf j, xj, vf j) ∈ live.filter fun x => keep.contains x.1 := List.mem_filter.2 ⟨p4 hme, by simpa using hpl hj hpj hme⟩
                      have hsm := List.all_eq_true.1 hall _ hmem
                      unfold xsame at hsm
                      dsimp only at hsm
                      split at hsm <;> first | (cases hsm; done) | skip
                      rename_i v2 m2 hx2
                      have hv2 := vbeq_eq _ _ hsm
                      subst hv2
                      obtain ⟨e1, _⟩ := xop_mem hme [] hx2
                      refine .inr (.inl ⟨p1, p2, ?_, fun _ => hmem, p5⟩)
                      rw [hx2, e1]
                  · exact .inr (.inr ⟨p1, p2, m1, ob, p3, by rw [q1.lk.2]; exact p4, p5⟩)) hpl
                rw [k1] at this hB
                exact hB fuel _ _ _ _ _ _ _ _ this (by omega)

end
end Go.VC

/- Regions whose order is open: whole. -/
namespace Go.VC
open Go Go.RowKit

section
variable {E : Env} {X : XP} {ops : Array Oper} {its : List XI} {eds : List (List Nat)} {g0 : G} {w0 : World} {pl : List Nat} {dn : Nat} {live live' : XLv} {st st' : XSt} {L : Array Bool} {a : Act} {w : World} {ds : List Deferred}
  {r : Option Nat} {C : XCall} {Y : XYield}

theorem bif_some {α : Type} {b : Bool} {x : Option α} {y : α} (h : (bif b then x else none) = some y) : b = true ∧ x = some y := by cases b <;> simp_all

theorem xquiet_df : ∀ (l : List (Nat × XI)) (live live' : XLv) (st st' : XSt), xquiet X l live st = some (live', st') → st'.df = st.df := by
  intro l
  induction l with
  | nil => intro live live' st st' h; simp only [xquiet, Option.some.injEq, Prod.mk.injEq] at h; rw [h.2]
  | cons q l ih =>
    obtain ⟨i, o⟩ := q
    intro live live' st st' h
    simp only [xquiet] at h
    split at h <;> first | (cases h; done) | skip
    · split at h <;> first | (cases h; done) | skip
      have := ih _ _ _ _ h
      exact this
    · have := ih _ _ _ _ h
      exact this

theorem xeffect_df {e : XI} {keep : List Nat} (hd : e.op.drawn = true) (h : xeffect X C Y e keep live st = some (live', st')) : st'.df = st.df := by
  unfold xeffect at h
  split at h <;> first | (cases h; done) | skip
  · split at h <;> first | (cases h; done) | skip
    rename_i hs
    dsimp only at h
    cases hall : (live.filter fun x => keep.contains x.1).all (xsame X _) with
    | false => rw [hall] at h; cases h
    | true =>
      rw [hall] at h
      simp only [cond_true, Option.some.injEq, Prod.mk.injEq] at h
      obtain ⟨_, rfl⟩ := h
      obtain ⟨_, _, _, rfl⟩ := xstep_do hd hs
      rfl
  · simp only [Option.some.injEq, Prod.mk.injEq] at h
    rw [← h.2]

theorem dReady_spec {dn i : Nat} : dReady eds dn i = true ↔ dn.testBit i = false ∧ ∀ e ∈ eds.getD i [], dn.testBit e = true := by
  simp [dReady]

theorem dQs_low : ∀ (m k dn e : Nat), e < k → (dQs its eds (List.range' k m) dn).2.testBit e = dn.testBit e := by
  intro m
  induction m with
  | zero => intro k dn e h; simp [dQs]
  | succ m ih =>
    intro k dn e h
    simp only [List.range'_succ, dQs]
    split
    · cases hc : (!(_ : XI).op.eff && dReady eds dn k) with
      | true =>
        simp only [cond_true]
        rw [ih _ _ _ (by omega), Nat.testBit_or, Nat.testBit_two_pow_of_ne (by omega), Bool.or_false]
      | false =>
        simp only [cond_false]
        exact ih _ _ _ (by omega)
    · exact ih _ _ _ (by omega)

theorem dQs_mono : ∀ (l : List Nat) (dn e : Nat), dn.testBit e = true → (dQs its eds l dn).2.testBit e = true := by
  intro l
  induction l with
  | nil => intro dn e h; exact h
  | cons k l ih =>
    intro dn e h
    simp only [dQs]
    split
    · cases hc : (!(_ : XI).op.eff && dReady eds dn k) with
      | true => simp only [cond_true]; exact ih _ _ (by rw [Nat.testBit_or, h, Bool.true_or])
      | false => simp only [cond_false]; exact ih _ _ h
    · exact ih _ _ h

/-- What is no effect and can come, has come. -/
theorem dQs_complete (hlt : ∀ {i : Nat} {xi : XI} {e : Nat}, its[i]? = some xi → e ∈ eds.getD i [] → e < i) : ∀ (m k dn i : Nat) (xi : XI), k ≤ i → i < k + m → its[i]? = some xi → xi.op.eff = false → (dQs its eds (List.range' k m) dn).2.testBit i = false →
    ∃ e ∈ eds.getD i [], (dQs its eds (List.range' k m) dn).2.testBit e = false := by
  intro m
  induction m with
  | zero => intro k dn i xi h1 h2; omega
  | succ m ih =>
    intro k dn i xi h1 h2 hi he hn
    simp only [List.range'_succ, dQs] at hn ⊢
    by_cases hik : i = k
    · subst hik
      simp only [hi] at hn ⊢
      cases hc : (!xi.op.eff && dReady eds dn i) with
      | true =>
        rw [hc] at hn
        simp only [cond_true] at hn
        rw [dQs_low _ _ _ _ (Nat.lt_succ_self i), Nat.testBit_or, Nat.testBit_two_pow_self, Bool.or_true] at hn
        cases hn
      | false =>
        rw [hc] at hn
        simp only [cond_false] at hn ⊢
        simp only [he, Bool.not_false, Bool.true_and] at hc
        rw [dQs_low _ _ _ _ (Nat.lt_succ_self i)] at hn
        have : ¬ (dn.testBit i = false ∧ ∀ e ∈ eds.getD i [], dn.testBit e = true) := fun h => by rw [dReady_spec.2 h] at hc; cases hc
        have hex : ∃ e ∈ eds.getD i [], dn.testBit e = false := by
          refine Classical.byContradiction fun hne => this ⟨hn, fun e he => ?_⟩
          cases hte : dn.testBit e with
          | true => rfl
          | false => exact absurd ⟨e, he, hte⟩ hne
        obtain ⟨e, he1, he2⟩ := hex
        exact ⟨e, he1, by rw [dQs_low _ _ _ _ (by have := hlt hi he1; omega)]; exact he2⟩
    · split at hn
      · cases hc : (!(_ : XI).op.eff && dReady eds dn k) with
        | true =>
          rw [hc] at hn
          simp only [cond_true] at hn ⊢
          exact ih _ _ _ _ (by omega) (by omega) hi he hn
        | false =>
          rw [hc] at hn
          simp only [cond_false] at hn ⊢
          exact ih _ _ _ _ (by omega) (by omega) hi he hn
      · exact ih _ _ _ _ (by omega) (by omega) hi he hn

/-- The machine does what is no effect, one after the other. -/
theorem DInv.quiets (hX : LinkS E X) (hS : DS E ops its eds) : ∀ (l : List Nat) (pl : List Nat) (dn : Nat) (live live' : XLv) (st st' : XSt) (g : G) (tf : Nat → List V) (vf : Nat → V) (bf : Nat → Option Nat) {L : Array Bool} {a : Act} {w : World} {c : List V},
    xquiet X (dQs its eds l dn).1 live st = some (live', st') → DInv E X its eds g0 w0 pl dn live st L a w ds g c tf vf bf →
    ∃ g' tf' vf' bf', DInv E X its eds g0 w0 (pl ++ ((dQs its eds l dn).1.filter fun x => x.2.op.mem).map (·.1)) (dQs its eds l dn).2 live' st' L a w ds g' c tf' vf' bf' := by
  intro l
  induction l with
  | nil =>
    intro pl dn live live' st st' g tf vf bf L a w c h hI
    simp only [dQs, xquiet, Option.some.injEq, Prod.mk.injEq] at h
    obtain ⟨rfl, rfl⟩ := h
    exact ⟨g, tf, vf, bf, by simpa [dQs] using hI⟩
  | cons i l ih =>
    intro pl dn live live' st st' g tf vf bf L a w c h hI
    simp only [dQs] at h ⊢
    cases hi : its[i]? with
    | none =>
      simp only [hi] at h ⊢
      exact ih _ _ _ _ _ _ _ _ _ _ h hI
    | some xi =>
      simp only [hi] at h ⊢
      cases hc : (!xi.op.eff && dReady eds dn i) with
      | false =>
        rw [hc] at h
        simp only [cond_false] at h ⊢
        exact ih _ _ _ _ _ _ _ _ _ _ h hI
      | true =>
        rw [hc] at h
        simp only [cond_true] at h ⊢
        simp only [Bool.and_eq_true, Bool.not_eq_true'] at hc
        obtain ⟨hnd, hed⟩ := dReady_spec.1 hc.2
        simp only [xquiet] at h
        have fin : ∀ {live1 : XLv} {st1 : XSt} {v : V}, xquiet X (dQs its eds l (dn ||| 2 ^ i)).1 live1 st1 = some (live', st') →
            ((xwant st.t xi.grd = some false ∧ v = .udf ∧ st1 = { st with t := xput st.t xi.dst .udf } ∧ live1 = live) ∨
              (xwant st.t xi.grd = some true ∧ ∃ m', xop st.m (xev X st.t) xi.op = some (v, m') ∧ st1 = { st with t := xput st.t xi.dst v, m := m' } ∧ live1 = bif xi.op.mem then (i, st.t, xi, v) :: live else live)) →
            ∃ g' tf' vf' bf', DInv E X its eds g0 w0 (pl ++ (((i, xi) :: (dQs its eds l (dn ||| 2 ^ i)).1).filter fun x => x.2.op.mem).map (·.1)) (dQs its eds l (dn ||| 2 ^ i)).2 live' st' L a w ds g' c tf' vf' bf' := by
          intro live1 st1 v h1 h2
          obtain ⟨g1, tf1, vf1, bf1, hI1⟩ := hI.quiet hX hS hi hc.1 hnd hed h2
          obtain ⟨g2, tf2, vf2, bf2, hI2⟩ := ih _ _ _ _ _ _ _ _ _ _ h1 hI1
          refine ⟨g2, tf2, vf2, bf2, ?_⟩
          have : pl ++ (((i, xi) :: (dQs its eds l (dn ||| 2 ^ i)).1).filter fun x => x.2.op.mem).map (·.1) = pl ++ (if xi.op.mem = true then [i] else []) ++ ((dQs its eds l (dn ||| 2 ^ i)).1.filter fun x => x.2.op.mem).map (·.1) := by
            cases hm : xi.op.mem <;> simp [List.filter_cons, hm]
          rw [this]; exact hI2
        cases hw : xwant st.t xi.grd with
        | none => rw [hw] at h; cases h
        | some b =>
          rw [hw] at h
          cases b with
          | false => exact fin h (.inl ⟨hw, rfl, rfl, rfl⟩)
          | true =>
            dsimp only at h
            cases hx : xop st.m (xev X st.t) xi.op with
            | none => rw [hx] at h; cases h
            | some q =>
              obtain ⟨v, m'⟩ := q
              rw [hx] at h
              exact fin h (.inr ⟨hw, m', hx, rfl, rfl⟩)

/-! ### What surely comes before -/
theorem dOr_spec (acc : List Nat) : ∀ (es : List Nat) (x : Nat), (dOr acc es).testBit x = true → ∃ e ∈ es, x = e ∨ (acc.getD e 0).testBit x = true := by
  intro es
  induction es with
  | nil => intro x h; simp [dOr] at h
  | cons e es ih =>
    intro x h
    simp only [dOr, Nat.testBit_or, Bool.or_eq_true, Nat.testBit_two_pow, decide_eq_true_iff] at h
    rcases h with (h | h) | h
    · exact ⟨e, by simp, .inl h.symm⟩
    · exact ⟨e, by simp, .inr h⟩
    · obtain ⟨e', h1, h2⟩ := ih x h
      exact ⟨e', by simp [h1], h2⟩

theorem dB_spec : ∀ (es : List (List Nat)) (acc : List Nat), (∀ i, i < acc.length → (dB es acc).getD i 0 = acc.getD i 0) ∧
    ∀ k, k < es.length → ∀ x, ((dB es acc).getD (acc.length + k) 0).testBit x = true → ∃ e ∈ es.getD k [], x = e ∨ ((dB es acc).getD e 0).testBit x = true := by
  intro es
  induction es with
  | nil => intro acc; exact ⟨fun i _ => rfl, fun k h => by simp at h⟩
  | cons q es ih =>
    intro acc
    simp only [dB]
    obtain ⟨h1, h2⟩ := ih (acc ++ [dOr acc q])
    have hlow : ∀ i, i < acc.length → (dB es (acc ++ [dOr acc q])).getD i 0 = acc.getD i 0 := fun i hi => by
      rw [h1 i (by simp; omega)]
      simp [List.getD_eq_getElem?_getD, List.getElem?_append_left hi]
    refine ⟨hlow, fun k hk x hx => ?_⟩
    cases k with
    | zero =>
      rw [Nat.add_zero, h1 acc.length (by simp)] at hx
      have : (acc ++ [dOr acc q]).getD acc.length 0 = dOr acc q := by simp [List.getD_eq_getElem?_getD]
      rw [this] at hx
      obtain ⟨e, he1, he2⟩ := dOr_spec _ _ _ hx
      refine ⟨e, by simpa using he1, he2.imp id fun h => ?_⟩
      by_cases hel : e < acc.length
      · rw [hlow e hel]; exact h
      · rw [List.getD_eq_getElem?_getD, List.getElem?_eq_none (by omega)] at h
        simp at h
    | succ k =>
      have := h2 k (by simpa using hk) x (by simpa [Nat.add_assoc, Nat.add_comm 1] using hx)
      simpa using this

theorem bs_listed (hlt : ∀ {i : Nat} {xi : XI} {e : Nat}, its[i]? = some xi → e ∈ eds.getD i [] → e < i) (hel : eds.length = its.length) {L : Array Bool} (hcl : ∀ {j : Nat} {xj : XI} {e : Nat}, its[j]? = some xj → L.getD j false = true → e ∈ eds.getD j [] → L.getD e false = true) :
    ∀ (i : Nat) (xi : XI), its[i]? = some xi → (∀ e ∈ eds.getD i [], L.getD e false = true) → ∀ x, ((dB eds []).getD i 0).testBit x = true → L.getD x false = true := by
  intro i
  induction i using Nat.strongRecOn with
  | _ i ih =>
    intro xi hi hed x hx
    have hil : i < eds.length := by rw [hel]; exact (List.getElem?_eq_some_iff.1 hi).1
    obtain ⟨e, he1, he2⟩ := (dB_spec eds []).2 i hil x (by simpa using hx)
    rcases he2 with rfl | he2
    · exact hed x he1
    · have hei := hlt hi he1
      have hil2 : e < its.length := by have := (List.getElem?_eq_some_iff.1 hi).1; omega
      exact ih e hei _ (List.getElem?_eq_getElem hil2) (fun e' he' => hcl (List.getElem?_eq_getElem hil2) (hed e he1) he') x he2

/-- Two stores into different blocks: in whatever order. -/
theorem two_comm {oa ob : XI} {ka kb : List Nat} {l1 l2 l3 l4 : XLv} {s1 s2 s3 s4 : XSt} (hap : xapart X st.t oa ob = true) (h1 : xeffect X C Y oa ka live st = some (l1, s1)) (h2 : xeffect X C Y ob kb l1 s1 = some (l2, s2))
    (h3 : xeffect X C Y ob kb live st = some (l3, s3)) (h4 : xeffect X C Y oa ka l3 s3 = some (l4, s4)) : s4 = s2 := by
  unfold xapart at hap
  split at hap <;> first | (cases hap; done) | skip
  rename_i sa x u sb y v
  split at hap <;> first | (cases hap; done) | skip
  rename_i b1 e1 o1 b2 e2 o2 hx hy
  have hne : b1 ≠ b2 := by simpa using hap
  have sto : ∀ {s : Nat} {p q : XO} {k : List Nat} {lv lv' : XLv} {m : XM} {st1 : XSt} {b e o : Nat}, xev X st.t p = .ptr b e o → xeffect X C Y ⟨none, .st s p q, none⟩ k lv { st with m := m } = some (lv', st1) →
      ∃ cells ty ag sz ep, m[b]? = some (.row cells ty ag sz ep) ∧ st1 = { st with m := m.set b (.row (xfill cells o (xev X st.t q).cells) ty ag sz ep) } := by
    intro s p q k lv lv' m st1 b e o hp h
    unfold xeffect at h
    simp only [xwant] at h
    cases hs : xstep X C Y { st with m := m } ⟨none, .st s p q, none⟩ with
    | none => rw [hs] at h; cases h
    | some z =>
      obtain ⟨z, st2⟩ := z
      rw [hs] at h
      cases z with
      | inr v => cases h
      | inl uu =>
        dsimp only at h
        obtain ⟨v', m', hdo, e2⟩ := xstep_do (by rfl) hs
        have e3 : st1 = st2 := by
          cases hall : (lv.filter fun x => k.contains x.1).all (xsame X st2.m) with
          | false => rw [hall] at h; cases h
          | true =>
            rw [hall] at h
            simp only [cond_true, Option.some.injEq, Prod.mk.injEq] at h
            exact h.2.symm
        subst e3
        simp only [xdo, XOp.isCall, cond_false] at hdo
        obtain ⟨⟨v2, m2⟩, hx2, e4⟩ := Option.map_eq_some_iff.1 hdo
        simp only [Prod.mk.injEq, Sum.inl.injEq] at e4
        obtain ⟨rfl, rfl⟩ := e4
        simp only [xop, hp] at hx2
        split at hx2 <;> first | (cases hx2; done) | skip
        rename_i cells ty ag sz ep hm
        split at hx2 <;> first | (cases hx2; done) | skip
        simp only [Option.some.injEq, Prod.mk.injEq] at hx2
        obtain ⟨_, rfl⟩ := hx2
        refine ⟨cells, ty, ag, sz, ep, hm, ?_⟩
        rw [e2]
        rfl
  obtain ⟨ca, ta, aa, za, pa, q1, rfl⟩ := sto (m := st.m) hx h1
  obtain ⟨cb, tb, ab, zb, pb, q3, rfl⟩ := sto (m := st.m) hy h3
  obtain ⟨cb2, tb2, ab2, zb2, pb2, q2, rfl⟩ := sto hy h2
  obtain ⟨ca2, ta2, aa2, za2, pa2, q4, rfl⟩ := sto hx h4
  rw [List.getElem?_set_ne hne] at q2
  rw [List.getElem?_set_ne (Ne.symm hne)] at q4
  rw [q3] at q2
  rw [q1] at q4
  cases q2; cases q4
  rw [List.set_comm _ _ hne]

theorem cXD_claim (hX : LinkS E X) (hC : CS E C) (hY : YS E Y) (hS : DS E ops its eds) (hel : eds.length = its.length) (hg0 : GlobR E w0 g0) (hlk0 : g0.lk = LK E) {Q : Exit → Act → World → Prop} {stf : XSt}
    (hfin : ∀ a w, a.defers = ds → (∃ g, g0.to w0 g w ∧ Rel g stf.m w ∧ AR w g stf.t a.tmps) → Q .normal a w) :
    ∀ (f dn : Nat) (pl : List Nat) (d : XD), cXD its eds (dB eds []) f dn pl = some d → ∀ (live : XLv) (st : XSt), xdrw X C Y d live st = some stf → BClaim E X r ops its eds g0 w0 ds Q pl dn live st ∧ stf.df = st.df := by
  have hbs : ∀ {L : Array Bool} {i : Nat} {xi : XI} {x : Nat}, its[i]? = some xi → (∀ e ∈ eds.getD i [], L.getD e false = true) → (∀ {j : Nat} {xj : XI} {e : Nat}, its[j]? = some xj → L.getD j false = true → e ∈ eds.getD j [] → L.getD e false = true) → ((dB eds []).getD i 0).testBit x = true → L.getD x false = true :=
    fun {L i xi x} hi hed hcl hx => bs_listed hS.lt hel hcl i xi hi hed x hx
  intro f
  induction f with
  | zero => intro dn pl d h; simp [cXD] at h
  | succ f ih =>
    intro dn pl d h live st hrun
    simp only [cXD] at h
    generalize hq : dQs its eds (List.range its.length) dn = q at h
    obtain ⟨qs, dn'⟩ := q
    dsimp only at h
    -- what is no effect comes first
    have hqs : (dQs its eds (List.range its.length) dn).1 = qs := by rw [hq]
    have hdn' : (dQs its eds (List.range its.length) dn).2 = dn' := by rw [hq]
    have quiets : ∀ {live1 : XLv} {st1 : XSt}, xquiet X qs live st = some (live1, st1) → BClaim E X r ops its eds g0 w0 ds Q (pl ++ (qs.filter fun x => x.2.op.mem).map (·.1)) dn' live1 st1 → BClaim E X r ops its eds g0 w0 ds Q pl dn live st := by
      intro live1 st1 h1 h2 fuel L a w g c tf vf bf hI hu
      obtain ⟨g', tf', vf', bf', hI'⟩ := DInv.quiets hX hS (List.range its.length) pl dn live live1 st st1 g tf vf bf (by rw [hqs]; exact h1) hI
      rw [hqs, hdn'] at hI'
      exact h2 fuel L a w g' c tf' vf' bf' hI' hu
    have comp : ∀ (i : Nat) (xi : XI), its[i]? = some xi → dn'.testBit i = false → (∀ e ∈ eds.getD i [], dn'.testBit e = true) → i ∈ dEffs its eds dn' ∧ xi.op.eff = true := by
      intro i xi hi hn he
      have hil := (List.getElem?_eq_some_iff.1 hi).1
      cases hef : xi.op.eff with
      | false =>
        exfalso
        obtain ⟨e, h1, h2⟩ := dQs_complete (its := its) (eds := eds) hS.lt its.length 0 dn i xi (Nat.zero_le _) (by omega) hi hef (by rw [← List.range_eq_range', hdn']; exact hn)
        rw [← List.range_eq_range', hdn', he e h1] at h2
        cases h2
      | true =>
        refine ⟨?_, rfl⟩
        unfold dEffs
        refine List.mem_filter.2 ⟨List.mem_range.2 hil, ?_⟩
        simp only [hi, hef, Bool.true_and]
        exact dReady_spec.2 ⟨hn, he⟩
    generalize hpl2 : pl ++ (qs.filter fun x => x.2.op.mem).map (·.1) = pl2 at h quiets
    have effIn : ∀ {i : Nat}, i ∈ dEffs its eds dn' → ∃ xi, its[i]? = some xi ∧ xi.op.eff = true ∧ dn'.testBit i = false ∧ ∀ e ∈ eds.getD i [], dn'.testBit e = true := by
      intro i hi
      unfold dEffs at hi
      obtain ⟨_, h2⟩ := List.mem_filter.1 hi
      split at h2
      · rename_i xi hxi
        simp only [Bool.and_eq_true] at h2
        obtain ⟨h3, h4⟩ := dReady_spec.1 h2.2
        exact ⟨xi, hxi, h2.1, h3, h4⟩
      · cases h2
    split at h
    · -- the end
      rename_i heff
      cases hfull : dFull its.length dn' with
      | false => rw [hfull] at h; cases h
      | true =>
        rw [hfull] at h
        simp only [cond_true, Option.some.injEq] at h
        subst h
        simp only [xdrw] at hrun
        split at hrun <;> first | (cases hrun; done) | skip
        rename_i live1 st1 hxq
        simp only [Option.some.injEq] at hrun
        subst hrun
        refine ⟨quiets hxq (node_claim hX hC hY hS hg0 hlk0 hbs (fun i xi hi hn he => ?_) (fun _ => hfin)), xquiet_df _ _ _ _ _ hxq⟩
        have := (comp i xi hi hn he).1
        rw [heff] at this
        cases this
    · -- one effect
      rename_i e heff
      split at h <;> first | (cases h; done) | skip
      rename_i oe hoe
      obtain ⟨d', hd', rfl⟩ := Option.map_eq_some_iff.1 h
      simp only [xdrw] at hrun
      split at hrun <;> first | (cases hrun; done) | skip
      rename_i live1 st1 hxq
      split at hrun <;> first | (cases hrun; done) | skip
      rename_i live2 st2 hxe
      obtain ⟨hB, hdf⟩ := ih _ _ _ hd' live2 st2 hrun
      refine ⟨quiets hxq (node_claim hX hC hY hS hg0 hlk0 hbs (fun i xi hi hn he => ?_) (fun hall => ?_)), hdf.trans ((xeffect_df (hS.drawn hoe) hxe).trans (xquiet_df _ _ _ _ _ hxq))⟩
      · obtain ⟨h1, h2⟩ := comp i xi hi hn he
        rw [heff] at h1
        obtain rfl : i = e := by simpa using h1
        rw [hoe] at hi; cases hi
        exact ⟨h2, _, _, _, hxe, fun j hj hnk => by
          refine Classical.byContradiction fun hb => hnk (List.mem_filter.2 ⟨hj, ?_⟩)
          simpa using hb, hB⟩
      · obtain ⟨xi, h1, _, h3, _⟩ := effIn (i := e) (by rw [heff]; simp)
        have := hall e xi h1
        rw [h3] at this; cases this
    · -- two stores at the end
      rename_i ia ib heff
      split at h <;> first | (cases h; done) | skip
      rename_i oa ob hoa hob
      cases hfull : dFull its.length (dn' ||| 2 ^ ia ||| 2 ^ ib) with
      | false => rw [hfull] at h; cases h
      | true =>
        rw [hfull] at h
        simp only [cond_true, Option.some.injEq] at h
        subst h
        simp only [xdrw] at hrun
        split at hrun <;> first | (cases hrun; done) | skip
        rename_i live1 st1 hxq
        obtain ⟨hcond, hrun⟩ := bif_some hrun
        simp only [Bool.and_eq_true] at hcond
        obtain ⟨hap, hc2⟩ := hcond
        split at hrun <;> first | (cases hrun; done) | skip
        rename_i la sa hxa
        split at hrun <;> first | (cases hrun; done) | skip
        rename_i lab sab hxab
        simp only [Option.some.injEq] at hrun
        subst hrun
        split at hc2 <;> first | (cases hc2; done) | skip
        rename_i lb sb hxb
        obtain ⟨⟨lba, sba⟩, hxba⟩ := Option.isSome_iff_exists.1 hc2
        have hsame := two_comm hap hxa hxab hxb hxba
        subst hsame
        have hall2 : ∀ i, i < its.length → i = ia ∨ i = ib ∨ dn'.testBit i = true := by
          intro i hi
          have := List.all_eq_true.1 hfull i (List.mem_range.2 hi)
          rcases (testBit_or_two _ _ _).1 this with h1 | h1
          · rcases (testBit_or_two _ _ _).1 h1 with h2 | h2
            · exact .inr (.inr h2)
            · exact .inl h2
          · exact .inr (.inl h1)
        obtain ⟨xa, ha1, ha2, ha3, _⟩ := effIn (i := ia) (by rw [heff]; simp)
        obtain ⟨xb, hb1, hb2, hb3, _⟩ := effIn (i := ib) (by rw [heff]; simp)
        rw [hoa] at ha1; cases ha1
        rw [hob] at hb1; cases hb1
        have hdfs : ∀ {s : XSt}, s = sba → s.df = st.df := fun hs => by
          rw [hs]
          exact (xeffect_df (hS.drawn hoa) hxba).trans ((xeffect_df (hS.drawn hob) hxb).trans (xquiet_df _ _ _ _ _ hxq))
        have keepc : ∀ {i : Nat} {p : List Nat}, (∀ j, j ∈ p → j ∈ pl2) → ∀ j ∈ p, j ∉ (pl2.filter fun k => !((dB eds []).getD i 0).testBit k) → ((dB eds []).getD i 0).testBit j = true := by
          intro i p hsub j hj hnk
          refine Classical.byContradiction fun hb => hnk (List.mem_filter.2 ⟨hsub j hj, ?_⟩)
          simpa using hb
        have full : ∀ {x y : Nat}, (x = ia ∧ y = ib ∨ x = ib ∧ y = ia) → ∀ {k : List Nat} {l : XLv}, BClaim E X r ops its eds g0 w0 ds Q k (dn' ||| 2 ^ x ||| 2 ^ y) l sba := by
          intro x y hxy k l
          refine node_claim hX hC hY hS hg0 hlk0 hbs (fun i xi hi hn _ => ?_) (fun _ => hfin)
          exfalso
          have hil := (List.getElem?_eq_some_iff.1 hi).1
          have : (dn' ||| 2 ^ x ||| 2 ^ y).testBit i = true := by
            rw [testBit_or_two, testBit_or_two]
            rcases hall2 i hil with rfl | rfl | h3
            · rcases hxy with ⟨rfl, rfl⟩ | ⟨rfl, rfl⟩ <;> simp
            · rcases hxy with ⟨rfl, rfl⟩ | ⟨rfl, rfl⟩ <;> simp
            · simp [h3]
          rw [hn] at this; cases this
        refine ⟨quiets hxq (node_claim hX hC hY hS hg0 hlk0 hbs (fun i xi hi hn he => ?_) (fun hall => ?_)), hdfs rfl⟩
        · obtain ⟨h1, h2⟩ := comp i xi hi hn he
          refine ⟨h2, ?_⟩
          rw [heff] at h1
          have hor : i = ia ∨ i = ib := by simpa using h1
          rcases hor with rfl | rfl
          · rw [hoa] at hi; cases hi
            refine ⟨_, _, _, hxa, keepc fun j hj => hj, node_claim hX hC hY hS hg0 hlk0 hbs (fun k xk hk hkn hke => ?_) (fun hall => ?_)⟩
            · have hkl := (List.getElem?_eq_some_iff.1 hk).1
              have hkb : k = ib := by
                rcases hall2 k hkl with rfl | h3 | h3
                · rw [(testBit_or_two _ _ _).2 (.inr rfl)] at hkn; cases hkn
                · exact h3
                · rw [(testBit_or_two _ _ _).2 (.inl h3)] at hkn; cases hkn
              subst hkb
              rw [hob] at hk; cases hk
              exact ⟨hb2, _, _, _, hxab, keepc fun j hj => (List.mem_filter.1 hj).1, full (.inl ⟨rfl, rfl⟩)⟩
            · have := hall ib ob hob
              rcases (testBit_or_two _ _ _).1 this with h3 | h3
              · rw [hb3] at h3; cases h3
              · subst h3
                intro a w hd he
                exfalso
                have hnd : (dEffs its eds dn').Nodup := by unfold dEffs; exact List.Pairwise.filter _ List.nodup_range
                rw [heff] at hnd
                simp at hnd
          · rw [hob] at hi; cases hi
            refine ⟨_, _, _, hxb, keepc fun j hj => hj, node_claim hX hC hY hS hg0 hlk0 hbs (fun k xk hk hkn hke => ?_) (fun hall => ?_)⟩
            · have hkl := (List.getElem?_eq_some_iff.1 hk).1
              have hkb : k = ia := by
                rcases hall2 k hkl with h3 | rfl | h3
                · exact h3
                · rw [(testBit_or_two _ _ _).2 (.inr rfl)] at hkn; cases hkn
                · rw [(testBit_or_two _ _ _).2 (.inl h3)] at hkn; cases hkn
              subst hkb
              rw [hoa] at hk; cases hk
              exact ⟨ha2, _, _, _, hxba, keepc fun j hj => (List.mem_filter.1 hj).1, full (.inr ⟨rfl, rfl⟩)⟩
            · have := hall ia oa hoa
              rcases (testBit_or_two _ _ _).1 this with h3 | h3
              · rw [ha3] at h3; cases h3
              · subst h3
                intro a w hd he
                exfalso
                have hnd : (dEffs its eds dn').Nodup := by unfold dEffs; exact List.Pairwise.filter _ List.nodup_range
                rw [heff] at hnd
                simp at hnd
        · have := hall ia oa hoa
          rw [ha3] at this; cases this
    · cases h

end
end Go.VC

/- Code of the machine. -/
namespace Go.VC
open Go Go.RowKit

section
variable {E : Env} {X : XP} {g : G} {m : XM} {w : World} {r : Option Nat} {C : XCall} {Y : XYield}

theorem mapM_spec {α β : Type} {f : α → Option β} : ∀ (l : List α) (l' : List β), l.mapM f = some l' → l'.length = l.length ∧ (∀ (i : Nat) (x : α), l[i]? = some x → ∃ y, l'[i]? = some y ∧ f x = some y) ∧ ∀ (i : Nat) (y : β), l'[i]? = some y → ∃ x, l[i]? = some x ∧ f x = some y := by
  intro l
  induction l with
  | nil => intro l' h; simp at h; subst h; simp
  | cons x l ih =>
    intro l' h
    simp only [List.mapM_cons, Option.pure_def, Option.bind_eq_bind] at h
    obtain ⟨y, hy, h⟩ := Option.bind_eq_some_iff.1 h
    obtain ⟨ys, hys, h⟩ := Option.bind_eq_some_iff.1 h
    simp only [Option.some.injEq] at h
    subst h
    obtain ⟨h1, h2, h3⟩ := ih ys hys
    refine ⟨by simp [h1], fun i z hz => ?_, fun i z hz => ?_⟩
    · cases i with
      | zero => simp at hz; subst hz; exact ⟨y, rfl, hy⟩
      | succ i => simpa using h2 i z (by simpa using hz)
    · cases i with
      | zero => simp at hz; subst hz; exact ⟨x, rfl, hy⟩
      | succ i => simpa using h3 i z (by simpa using hz)

theorem DS.of_cDrw {ops : Array Oper} {its : List XI} {d : XD} (h1 : ops.toList.mapM (cI E.P ops) = some its) (h2 : cDrw its (ops.toList.map dEds) = some d) :
    DS E ops its (ops.toList.map dEds) ∧ cXD its (ops.toList.map dEds) (dB (ops.toList.map dEds) []) (its.length + 1) 0 [] = some d := by
  obtain ⟨q1, q2, q3⟩ := mapM_spec _ _ h1
  unfold cDrw at h2
  obtain ⟨hc, h2⟩ := bif_some h2
  simp only [Bool.and_eq_true, List.all_eq_true, List.mem_range] at hc
  obtain ⟨c1, c2⟩ := hc
  have hlen : its.length = ops.size := by simpa using q1
  refine ⟨{ len := hlen, it := fun {i xi} hi => ?_, of := fun {i o} ho => ?_, ed := fun {i o} ho => ?_, drawn := fun {i xi} hi => c1 xi (List.mem_of_getElem? hi), lt := fun {i xi e} hi he => ?_, tmp := fun {i k xi xk d} hi hk hik hd => ?_ }, h2⟩
  · obtain ⟨o, ho, hc⟩ := q3 i xi hi
    exact ⟨o, by simpa using ho, hc⟩
  · obtain ⟨xi, hxi, _⟩ := q2 i o (by simpa using ho)
    exact ⟨xi, hxi⟩
  · simp [List.getD_eq_getElem?_getD, ho]
  · have := (c2 i (List.getElem?_eq_some_iff.1 hi).1).2 e he
    simpa using this
  · have := (c2 i (List.getElem?_eq_some_iff.1 hi).1).1
    unfold dTmp at this
    rw [hi] at this
    have := List.all_eq_true.1 this k (List.mem_range.2 (List.getElem?_eq_some_iff.1 hk).1)
    rw [hk] at this
    simp only [hd] at this
    simp only [Bool.or_eq_true, beq_iff_eq, Bool.and_eq_true, bne_iff_ne, Bool.not_eq_true', List.contains_eq_mem, decide_eq_true_eq, decide_eq_false_iff_not] at this
    rcases this with h3 | ⟨h3, h4⟩
    · exact absurd h3 hik
    · refine ⟨h3, fun hl => ?_⟩
      rcases h4 with (h4 | h4) | h4
      · exact absurd hl h4
      · exact .inl h4
      · exact .inr h4

theorem unl_replicate (n : Nat) : unl (Array.replicate n false) ≤ n := by
  unfold unl
  refine Nat.le_trans List.countP_le_length ?_
  simp

theorem drw_sound (hX : LinkS E X) (hC : CS E C) (hY : YS E Y) {id : Nat} {ops : Array Oper} {its : List XI} {d : XD} (h1 : ops.toList.mapM (cI E.P ops) = some its) (h2 : cDrw its (ops.toList.map dEds) = some d)
    {lo : Nat → Prop} {G0 : G} {W0 : World} (hg0 : GlobR E W0 G0) (hlk0 : G0.lk = LK E) {st stf : XSt} {a : Act} (hrun : xdrw X C Y d [] st = some stf) (hst : StR E lo G0 W0 st a w) :
    (Code.region id ops true).wpIn (FZ r) 0 E.P (PostX E lo G0 W0 (.nrm, stf)) a w := by
  obtain ⟨hS, hx⟩ := DS.of_cDrw h1 h2
  obtain ⟨g, hle, hr, har, hdf⟩ := hst
  obtain ⟨hr2, hle2⟩ := hr.drewR
  refine wpIn_region_any hX.mixed ?_
  show wpAnyIn (FZ r) 0 E.P .any ops _ ops.size (Array.replicate ops.size false) a w.drew
  have hle3 := hle.trans hle2
  have hgl : GlobR E w.drew g := hg0.mono hle3.tole
  have hlk : g.lk = LK E := hle.lk.1.trans hlk0
  have hdf2 : DefR E lo w.drew g st.df a.defers := DefR.mono hle2.np hdf
  have hdfs : stf.df = st.df := (cXD_claim (r := r) (ds := a.defers) (w0 := w.drew) (g0 := g) (Q := fun _ _ _ => True) hX hC hY hS (by simpa using hS.len.symm) hgl hlk (fun _ _ _ _ => trivial) _ _ _ _ hx [] st hrun).2
  obtain ⟨hB, _⟩ := cXD_claim (r := r) (ds := a.defers) (w0 := w.drew) (g0 := g) (Q := PostX E lo G0 W0 (.nrm, stf)) hX hC hY hS (by simpa using hS.len.symm) hgl hlk (fun a' w' hd he => by
    obtain ⟨g', k1, k2, k3⟩ := he
    refine ⟨rfl, g', hle3.trans k1, k2, k3, ?_⟩
    rw [hd, hdfs]
    exact DefR.mono k1.np hdf2) _ _ _ _ hx [] st hrun
  have hno : ∀ {i : Nat}, ¬ Pend 0 (Array.replicate ops.size false) i := fun h => by have := h.1; simp at this
  have hLf : ∀ i, (Array.replicate ops.size false).getD i false = false := fun i => by
    simp only [Array.getD_eq_getD_getElem?, Array.getElem?_replicate]
    split <;> rfl
  refine hB ops.size _ a w.drew g st.t (fun _ => []) (fun _ => .und) (fun _ => none) ?_ (unl_replicate _)
  exact { size := by simp [hS.len], sub := fun i hi => (by rw [hLf] at hi; cases hi), eff := fun _ _ h => (by simp at h), dcl := fun _ h => (by simp at h), lcl := fun _ h => (by rw [hLf] at h; cases h), to := G.to.refl _ _, rel := hr2, car := har.mono hle2.tole, clen := rfl, dfr := rfl, c1 := (fun _ _ => rfl), c2 := fun _ h => absurd h hno, c3 := fun _ h => absurd h hno, c4 := fun _ _ h => absurd h hno, rc := fun _ h => absurd h hno, tl := fun _ h => absurd h hno, pl := fun _ h => absurd h hno, pd := fun _ _ => rfl, bf0 := fun _ h => absurd h hno, bfi := fun _ _ h => absurd h hno }

end
end Go.VC

/- Code of the machine, as the program's code is walked. -/
namespace Go.VC
open Go Go.RowKit

section
variable {P : Program} {b : Frame} {a : Act} {k : List Item} {cs : List Frame} {w : World}

theorem stepR_scope {c : Code} : step P (lone (b.atR a (.code (.scope c) :: k)) cs w) = .next (lone (b.atR a (.code c :: .inScope c :: k)) cs w) :=
  step_lone_go (by simp [stepG, stepG.exec, Frame.atR])
theorem stepR_inScope {c : Code} : step P (lone (b.atR a (.inScope c :: k)) cs w) = .next (lone (b.atR a k) cs w) :=
  step_lone_go (by simp [stepG, stepG.exec, Frame.atR])

theorem wpIn_scope {F : Fence} {n : Nat} {Q : Exit → Act → World → Prop} {c : Code} (h : c.wpIn F n P Q a w) (hQ : ∀ l a w, ¬ Q (.goto l) a w) : (Code.scope c).wpIn F n P Q a w := by
  intro b k cs hro hb hr
  have h0 : (lone (b.atR a (.code (.scope c) :: k)) cs w).fenced P F := fenced_calm hb hr rfl
  obtain ⟨e, a₁, w₁, hq, harr⟩ := h b (.inScope c :: k) cs hro hb hr
  cases e with
  | normal => exact ⟨.normal, a₁, w₁, hq, .head h0 stepR_scope (StepsIn.trans harr (.one (fenced_calm hb hr rfl) stepR_inScope))⟩
  | exit id =>
    have hx : exitTo id (.inScope c :: k) = exitTo id k := by simp [exitTo]
    exact ⟨.exit id, a₁, w₁, hq, fun k' hk => .head h0 stepR_scope (harr.1 k' (by rw [hx]; exact hk)),
      fun hr' hk => let ⟨k₁, h1, h2⟩ := harr.2 hr' (by rw [hx]; exact hk); ⟨k₁, h1, .head h0 stepR_scope h2⟩⟩
  | goto l => exact (hQ _ _ _ hq).elim
  | ret => exact ⟨_, a₁, w₁, hq, .of_steps (.one h0 stepR_scope) harr⟩
  | panic ch => exact ⟨_, a₁, w₁, hq, .of_steps (.one h0 stepR_scope) harr⟩
  | outgrown => exact ⟨_, a₁, w₁, hq, .of_steps (.one h0 stepR_scope) harr⟩
end

section
variable {E : Env} {X : XP} {g : G} {m : XM} {w : World} {r : Option Nat} {C : XCall} {Y : XYield}

/-- A block of others. -/
theorem Rel.other (h : Rel g m w) (o : Obj) : Rel g m (w.alloc o) ∧ g.to w g (w.alloc o) := by
  have hle : g.to w g (w.alloc o) := ⟨⟨fun _ _ h => h, fun k o hi => Below.heap_alloc _ _ _ (h.imm k o hi).1, fun _ => Nat.le_refl _, fun _ _ _ h => ⟨h, rfl, rfl⟩⟩, ⟨rfl, rfl⟩, ⟨rfl, rfl, rfl⟩, by simp, fun k hk _ => Below.heap_alloc _ _ _ hk, fun b c h => .inr ⟨b, c, h, rfl⟩, fun _ _ h => .inl h⟩
  have hs : (w.alloc o).heap.size = w.heap.size + 1 := by simp
  refine ⟨⟨fun b o' c hb hc => (h.objs b o' c hb hc).mono hle.np hc rfl fun c2 h2 => Below.heap_alloc _ _ _ (h.own b c2 h2), h.dom, h.fresh, h.eps, fun b c hb => ?_, h.inj, fun blk o' hi => ?_, h.pend⟩, hle⟩
  · have := h.own b c hb; omega
  · obtain ⟨a1, a2⟩ := h.imm blk o' hi
    exact ⟨by omega, a2⟩

theorem PostX.noGoto {lo : Nat → Prop} {g0 : G} {w0 : World} {res : XE × XSt} : ∀ l a w, ¬ PostX E lo g0 w0 res (.goto l) a w := by
  intro l a w h
  obtain ⟨e, st⟩ := res
  cases e with
  | nrm => cases h.1
  | exit i => cases h.1
  | ret => cases h.1
  | pan v => obtain ⟨_, h1, _⟩ := h; cases h1

theorem PostX.then {lo : Nat → Prop} {g0 : G} {w0 : World} {e : XE} {st : XSt} {next : Act → World → Prop} {Q : Exit → Act → World → Prop} (h1 : e = .nrm → ∀ a w, StR E lo g0 w0 st a w → next a w) (h2 : e ≠ .nrm → ∀ x a w, PostX E lo g0 w0 (e, st) x a w → Q x a w) :
    ∀ x a w, PostX E lo g0 w0 (e, st) x a w → Exit.then next Q x a w := by
  intro x a w h
  cases e with
  | nrm => obtain ⟨rfl, h⟩ := h; exact h1 rfl a w h
  | exit i => have h3 := h2 (by simp) x a w h; obtain ⟨rfl, _⟩ := h; exact h3
  | ret => have h3 := h2 (by simp) x a w h; obtain ⟨rfl, _⟩ := h; exact h3
  | pan v => have h3 := h2 (by simp) x a w h; obtain ⟨cv, rfl, _⟩ := h; exact h3

/-- The machine's code does what the program's does. -/
theorem code_sound (hX : LinkS E X) (hC : CS E C) (hY : YS E Y) {lo : Nat → Prop} {g0 : G} {w0 : World} (hg0 : GlobR E w0 g0) (hlk0 : g0.lk = LK E) {B : Nat} : ∀ (c : Code) (x : XC), cC E.P c = some x → ((r.isSome = true ∨ ∃ k, w0.heap.size ≤ k ∧ ¬ lo k) → x.noD = true) →
    ∀ (st : XSt) (res : XE × XSt), xcode X C Y B x st = some res → ∀ (a : Act) (w : World), StR E lo g0 w0 st a w → c.wpIn (FZ r) 0 E.P (PostX E lo g0 w0 res) a w := by
  intro c
  induction c with
  | skip =>
    intro x hc _ st res h a w hst
    simp only [cC, Option.some.injEq] at hc
    subst hc
    simp only [xcode, Option.some.injEq] at h
    subst h
    exact wpIn_skip ⟨rfl, hst⟩
  | label l =>
    intro x hc _ st res h a w hst
    simp only [cC, Option.some.injEq] at hc
    subst hc
    simp only [xcode, Option.some.injEq] at h
    subst h
    exact wpIn_label ⟨rfl, hst⟩
  | ret =>
    intro x hc _ st res h a w hst
    simp only [cC, Option.some.injEq] at hc
    subst hc
    simp only [xcode, Option.some.injEq] at h
    subst h
    exact wpIn_ret ⟨rfl, hst⟩
  | exit id =>
    intro x hc _ st res h a w hst
    simp only [cC, Option.some.injEq] at hc
    subst hc
    simp only [xcode, Option.some.injEq] at h
    subst h
    exact wpIn_exit ⟨rfl, hst⟩
  | goto l => intro x hc; simp [cC] at hc
  | refuse s => intro x hc; simp [cC] at hc
  | scope c ih =>
    intro x hc hnd st res h a w hst
    exact wpIn_scope (ih x (by simpa [cC] using hc) hnd st res h a w hst) PostX.noGoto
  | block id c ih =>
    intro x hc hnd st res h a w hst
    simp only [cC, Option.map_eq_some_iff] at hc
    obtain ⟨y, hy, rfl⟩ := hc
    simp only [xcode] at h
    refine wpIn_block ?_
    cases hx : xcode X C Y B y st with
    | none => rw [hx] at h; cases h
    | some q =>
      rw [hx] at h
      refine wpIn_mono (ih y hy hnd st q hx a w hst) fun e a' w' hq => ?_
      obtain ⟨e', st'⟩ := q
      cases e' with
      | exit i =>
        dsimp only at h
        simp only [Option.some.injEq] at h
        obtain ⟨rfl, hs⟩ := hq
        simp only [Exit.inBlock]
        by_cases hid : i = id
        · rw [if_pos hid] at h ⊢
          subst h
          exact ⟨rfl, hs⟩
        · rw [if_neg hid] at h ⊢
          subst h
          exact ⟨rfl, hs⟩
      | nrm => simp only [Option.some.injEq] at h; subst h; obtain ⟨rfl, hs⟩ := hq; exact ⟨rfl, hs⟩
      | ret => simp only [Option.some.injEq] at h; subst h; obtain ⟨rfl, hs⟩ := hq; exact ⟨rfl, hs⟩
      | pan v => simp only [Option.some.injEq] at h; subst h; obtain ⟨cv, rfl, hs⟩ := hq; exact ⟨cv, rfl, hs⟩
  | seq c1 c2 ih1 ih2 =>
    intro x hc hnd st res h a w hst
    simp only [cC, Option.bind_eq_bind, Option.bind_eq_some_iff, Option.some.injEq] at hc
    obtain ⟨x1, h1, x2, h2, rfl⟩ := hc
    simp only [XC.noD, Bool.and_eq_true] at hnd
    simp only [xcode] at h
    refine wpIn_seq ?_
    cases hx : xcode X C Y B x1 st with
    | none => rw [hx] at h; cases h
    | some q =>
      rw [hx] at h
      obtain ⟨e', st'⟩ := q
      refine wpIn_mono (ih1 x1 h1 (fun hr => (hnd hr).1) st _ hx a w hst) (PostX.then (fun he a' w' hs => ?_) (fun he x' a' w' hp => ?_))
      · subst he
        exact ih2 x2 h2 (fun hr => (hnd hr).2) st' res h a' w' hs
      · cases e' <;> first | (exact absurd rfl he) | (simp only [Option.some.injEq] at h; subst h; exact hp)
  | cond o c1 c2 ih1 ih2 =>
    intro x hc hnd st res h a w hst
    simp only [cC, Option.bind_eq_bind, Option.bind_eq_some_iff, Option.some.injEq] at hc
    obtain ⟨o', h0, x1, h1, x2, h2, rfl⟩ := hc
    simp only [XC.noD, Bool.and_eq_true] at hnd
    simp only [xcode] at h
    have hst0 := hst
    obtain ⟨g, hle, hr, har, hdf⟩ := hst0
    have hv := evl_rel (E := E) har (hg0.mono hle.tole) o
    rw [← (hX.ops st.t) _ _ h0] at hv
    split at h <;> first | (cases h; done) | skip
    · rename_i hb
      rw [hb] at hv
      generalize hca : a.eval o = ca at hv
      cases hv
      exact wpIn_cond_true hca (ih1 x1 h1 (fun hr => (hnd hr).1) st res h a w hst)
    · rename_i hb
      rw [hb] at hv
      generalize hca : a.eval o = ca at hv
      cases hv
      exact wpIn_cond_false hca (ih2 x2 h2 (fun hr => (hnd hr).2) st res h a w hst)
  | loop c ih =>
    intro x hc hnd st res h a w hst
    simp only [cC, Option.map_eq_some_iff] at hc
    obtain ⟨y, hy, rfl⟩ := hc
    simp only [xcode] at h
    have key : ∀ (n : Nat) (st : XSt) (a : Act) (w : World), xiter (xcode X C Y B y) n st = some res → StR E lo g0 w0 st a w → Code.roundsIn (FZ r) 0 E.P c (PostX E lo g0 w0 res) n a w := by
      intro n
      induction n with
      | zero => intro st a w h; simp [xiter] at h
      | succ n ihn =>
        intro st a w h hst
        simp only [xiter] at h
        rw [roundsIn_succ]
        cases hx : xcode X C Y B y st with
        | none => rw [hx] at h; cases h
        | some q =>
          rw [hx] at h
          obtain ⟨e', st'⟩ := q
          refine wpIn_mono (ih y hy hnd st _ hx a w hst) (PostX.then (fun he a' w' hs => ?_) (fun he x' a' w' hp => ?_))
          · subst he
            exact ihn st' a' w' h hs
          · cases e' <;> first | (exact absurd rfl he) | (simp only [Option.some.injEq] at h; subst h; exact hp)
    exact wpIn_loop_rounds B (key B st a w h hst)
  | region id ops draw =>
    intro x hc hnd st res h a w hst
    cases draw with
    | true =>
      simp only [cC] at hc
      obtain ⟨its, h1, hc⟩ := Option.bind_eq_some_iff.1 hc
      obtain ⟨d, h2, rfl⟩ := Option.map_eq_some_iff.1 hc
      simp only [xcode, Option.map_eq_some_iff] at h
      obtain ⟨stf, h3, rfl⟩ := h
      exact drw_sound hX hC hY h1 h2 hg0 hlk0 h3 hst
    | false =>
      simp only [cC, Option.map_eq_some_iff] at hc
      obtain ⟨its, h1, rfl⟩ := hc
      simp only [xcode] at h
      obtain ⟨q1, q2, q3⟩ := mapM_spec _ _ h1
      have hlen : its.length = ops.size := by simpa using q1
      refine wpIn_region ?_
      have := ops_sound (r := r) hX hC hY (ops := ops) hg0 hlk0 its 0 st a w (by omega) (fun i xi hi => by
        obtain ⟨o, ho, hco⟩ := q3 i xi hi
        exact ⟨o, by simpa using ho, hco⟩) (fun hr xi hxi f xs hop => by
        have := hnd (.inl hr)
        simp only [XC.noD, List.all_eq_true] at this
        have := this xi hxi
        rw [hop] at this
        cases this) h hst
      rwa [List.range_eq_range', ← hlen]
  | rangeFunc o ps c1 c2 ih1 ih2 =>
    intro x hc hnd st res h a w hst
    simp only [cC] at hc
    obtain ⟨o', h0, hc⟩ := Option.bind_eq_some_iff.1 hc
    obtain ⟨x1, h1, hc⟩ := Option.bind_eq_some_iff.1 hc
    obtain ⟨x2, h2, hc⟩ := Option.bind_eq_some_iff.1 hc
    obtain ⟨hno, hc⟩ := bif_some hc
    simp only [Option.some.injEq] at hc
    subst hc
    have hrn : r = none := by
      cases hr : r with
      | none => rfl
      | some l => have := hnd (.inl (by rw [hr]; rfl)); simp [XC.noD] at this
    have hlo : ∀ k, w0.heap.size ≤ k → lo k := fun k hk => Classical.byContradiction fun hn => by have := hnd (.inr ⟨k, hk, hn⟩); simp [XC.noD] at this
    subst hrn
    simp only [Bool.and_eq_true] at hno
    obtain ⟨g, hle, hr, har, hdf⟩ := hst
    have hgl : GlobR E w g := hg0.mono hle.tole
    have hlk : g.lk = LK E := hle.lk.1.trans hlk0
    have hv := evl_rel (E := E) har hgl o
    rw [← (hX.ops st.t) _ _ h0] at hv
    simp only [xcode] at h
    split at h <;> first | (cases h; done) | skip
    rename_i n first caps hxe
    rw [hxe] at hv
    generalize hca : a.eval o = ca at hv
    cases hv with
    | fn _ _ _ xs1 ys1 p1 p2 p3 p4 =>
    -- the block for the deferred calls, and the record
    obtain ⟨hr1, hle1⟩ := hr.other (.deferred (some []))
    generalize hw1 : w.alloc (.deferred (some [])) = w1 at hr1 hle1
    have hw1s : w1.heap.size = w.heap.size + 1 := by rw [← hw1]; simp
    have hw1h : w1.heap[w.heap.size]? = some (.deferred (some [])) := by rw [← hw1]; exact heap_alloc_same _ _
    obtain ⟨hr2, hβ0⟩ := hr1.more (.loop 0 none st.t ps.toList x1 x2) rfl
    have hep0 : g.ep st.m.length = 0 := hr1.fresh _ (Nat.le_refl _)
    have hpd0 : g.pd st.m.length = none := hr1.pd_out (Nat.le_refl _)
    refine wpIn_rangeFunc fun fn _ => ?_
    let lp : Loop := { state := .ready, pending := none, fn, tmps := a.tmps, params := ps, assign := c1, body := c2, defers := w.heap.size }
    have hto2 := G.put_to hr2 hβ0 hpd0 0 0 0 0 (Nat.le_of_eq hep0) (.loop lp)
    have hr3 := hr2.lay hβ0 (b := st.m.length) (o := .loop 0 none st.t ps.toList x1 x2) (by simp) (Nat.le_of_eq hep0) (.loop lp) 0 0
      ⟨by simp [G.put, XObj.ep], _, lp, by simp [G.put], heap_alloc_same _ _, trivial, trivial, rfl, fun _ => ⟨har.1, fun j v hj => (har.2 j v hj).mono (hle1.tole.trans hto2.tole), by
        show g.lk c1 x1
        rw [hlk]; exact ⟨h1, hno.1⟩, by
        show g.lk c2 x2
        rw [hlk]; exact ⟨h2, hno.2⟩⟩⟩
    have hto3 := hle1.trans hto2
    generalize hg2 : g.put st.m.length (w1.heap.size, 0) 0 0 (XObj.loop 0 none st.t ps.toList x1 x2).ep = g2 at hr3
    have hg2' : g.put st.m.length (w1.heap.size, 0) 0 0 0 = g2 := hg2
    rw [hg2'] at hto2 hto3
    generalize hw2 : w1.alloc (.loop lp) = w2 at hr3 hto2 hto3
    have hβ2 : g2.β st.m.length = some (w1.heap.size, 0) := by rw [← hg2]; simp [G.put]
    have hep2 : g2.ep st.m.length = 0 := by rw [← hg2']; simp [G.put]
    have hy : VR w2 g2 (.fn (.yield st.m.length) [] []) (.func (.yield w1.heap.size) #[] #[]) := .yld _ _ fun _ => hβ2
    have hargs : AR w2 g2 (first ++ (.fn (.yield st.m.length) [] [] :: caps)) (xs1 ++ (#[.func (.yield w1.heap.size) #[] #[]] ++ ys1)) :=
      AR.app (AR.mono hto3.tole ⟨p1, p3⟩) (AR.app (xs := [.fn (.yield st.m.length) [] []]) ⟨rfl, fun i c hc => by
        cases i with
        | zero => simp at hc; subst hc; exact hy
        | succ i => simp at hc⟩ (AR.mono hto3.tole ⟨p2, p4⟩))
    have hgl2 : GlobR E w2 g2 := hgl.mono hto3.tole
    have hlk2 : g2.lk = LK E := hto3.lk.1.trans hlk
    have hdf2 : DefB E lo w2 g2 w.heap.size st.df a.defers := DefB.mono hto3.np hdf
    have hsz2 : w.heap.size + 2 = w2.heap.size := by rw [← hw2]; simp [hw1s]
    have hmark : DefR E lo w2 g2 st.df ({ target := .collected w.heap.size, args := #[] } :: a.defers) := by
      refine DefB.mark _ (hlo _ hle.size) (by omega) ?_ (fun b c hb => ?_) (fun o ho => ?_) hdf2
      · rw [← hw2, Below.heap_alloc _ _ _ (by omega)]; exact hw1h
      · rcases hto3.new b c hb with h9 | ⟨b2, c2, h9, h8⟩
        · intro e
          have hb' : g2.β b = some c := hb
          rw [← hg2'] at hb'
          by_cases hbb : b = st.m.length
          · simp [G.put, hbb] at hb'
            rw [← hb'] at e; simp at e; omega
          · have : g.β b = some c := by simpa [G.put, hbb] using hb'
            have := hr.own b c this; omega
        · have := hr.own b2 c2 h9; omega
      · have ho' : g2.I w.heap.size o := ho
        rw [← hg2'] at ho'
        have : g.I w.heap.size o := ho'
        have := (hr.imm _ _ this).1
        omega
    refine ⟨w1.heap.size, [{ target := .collected w.heap.size, args := #[] }], w2, { target := .fn (.func n) ys1, args := xs1 ++ #[.func (.yield w1.heap.size) #[] #[]] }, w2, n, xs1 ++ (#[.func (.yield w1.heap.size) #[] #[]] ++ ys1), w2, ?_, ?_, fun _ _ => trivial, ?_, fun h => (by cases h), ?_⟩
    · show (Instr.enterLoop fn a.tmps ps c1 c2 none).run E.P w = _
      simp only [Instr.enterLoop, Sem.run_bind, newObj, Sem.run, Result.andThen_ok, Sem.run_pure]
      rw [← hw2, ← hw1]
      rfl
    · show (Deferred.ofValue (a.eval o) ((#[Operand.const (.func (.yield w1.heap.size) #[] #[])] : Array Operand).map a.eval)).run E.P w2 = _
      rw [hca]
      simp [Deferred.ofValue, Act.eval]
    · show (invoke (.fn (.func n) ys1) (xs1 ++ #[.func (.yield w1.heap.size) #[] #[]])).run E.P w2 = _
      cases hcf : xcallf X C n (st.m ++ [.loop 0 none st.t ps.toList x1 x2]) (first ++ (.fn (.yield st.m.length) [] [] :: caps)) with
      | none => rw [hcf] at h; cases h
      | some q =>
        have := callable hX hcf (xs1 ++ (#[.func (.yield w1.heap.size) #[] #[]] ++ ys1)) w2
        simpa [invoke] using this
    · cases hcf : xcallf X C n (st.m ++ [.loop 0 none st.t ps.toList x1 x2]) (first ++ (.fn (.yield st.m.length) [] [] :: caps)) with
      | none => rw [hcf] at h; cases h
      | some q =>
        obtain ⟨out, m'⟩ := q
        rw [hcf] at h
        refine (callsIn_FZ (callf_sound hC hX.lib hcf hr3 hgl2 hlk2 hargs)).mono fun e w3 he => ?_
        obtain ⟨g3, k1, k2, k3⟩ := he
        have hle3 := (hle.trans hto3).trans k1
        have har3 : AR w3 g3 st.t a.tmps := har.mono (hto3.trans k1).tole
        have hdf3 : DefR E lo w3 g3 st.df ({ target := .collected w.heap.size, args := #[] } :: a.defers) := DefR.mono k1.np hmark
        cases out with
        | inr v =>
          obtain ⟨cv, rfl, k4⟩ := k3
          dsimp only at h
          simp only [Option.some.injEq] at h
          subst h
          exact ⟨cv, rfl, g3, hle3, k2, hdf3, k4⟩
        | inl v =>
          obtain ⟨cv, rfl, k4⟩ := k3
          dsimp only at h
          split at h <;> first | (cases h; done) | skip
          rename_i s p t9 ps9 a9 b9 hml
          split at h <;> first | (cases h; done) | skip
          rename_i hs1
          simp only [Option.some.injEq] at h
          subst h
          have hpd3 : g3.pd st.m.length = none := by
            rw [k1.lk.2, hto3.lk.2, hpd0]
          have hep3 : g3.ep st.m.length = 0 := k2.eps _ _ hml hpd3
          obtain ⟨hβ3, _, _⟩ := k1.β st.m.length _ (by rw [hep3, hep2]) hβ2
          obtain ⟨_, rr, lp3, q3, q4, q5, q6, q7, q8⟩ := k2.objs _ _ _ hml hβ3
          obtain rfl : w1.heap.size = rr := by simpa using hβ3.symm.trans q3
          let w4 : World := { w3 with heap := w3.heap.setIfInBounds w1.heap.size (.loop { lp3 with state := .exhausted }) }
          have hlt4 : w1.heap.size < w3.heap.size := k2.own _ _ hβ3
          obtain ⟨c1', c2'⟩ := k2.change hml (o' := .loop 3 p [] ps9 .skip .skip) rfl hβ3 (w' := w4) ⟨rfl, rfl, rfl⟩ (by simp [w4]) (fun k hk => by simp only [w4]; rw [Array.getElem?_setIfInBounds_ne (Ne.symm hk)])
            (fun _ => ⟨hep3, _, { lp3 with state := .exhausted }, hβ3, by simp [w4, hlt4], trivial, q6, q7, fun h3 => absurd rfl h3⟩)
          have hst4 : StR E lo g0 w0 { st with m := m'.set st.m.length (.loop 3 p [] ps9 .skip .skip) } { a with defers := [{ target := .collected w.heap.size, args := #[] }] ++ a.defers } w4 :=
            ⟨g3, hle3.trans c2', c1', har3.mono c2'.tole, DefR.mono c2'.np hdf3⟩
          refine ⟨lp3.pending, w4, ?_, ?_⟩
          · have hnb : (lp3.state == .busy) = false := by
              match s, lp3.state, q5, hs1 with
              | 0, .ready, _, _ => rfl
              | 1, .busy, _, h => exact absurd rfl h
              | 2, .done, _, _ => rfl
              | 3, .exhausted, _, _ => rfl
            simp only [Instr.endLoop, Instr.getLoop, Sem.run_bind, getObj, Sem.run, q4, Sem.run_pure, Result.andThen_ok, hnb, Bool.false_eq_true, if_false, setObj]
            rfl
          · match p, lp3.pending, q6 with
            | none, none, _ => exact ⟨rfl, hst4⟩
            | some .ret, some .ret, _ => exact wpIn_ret ⟨rfl, hst4⟩
            | some (.exit i), some (.exit j), hij =>
              obtain rfl : i = j := hij
              exact wpIn_exit ⟨rfl, hst4⟩

end
end Go.VC

/- Rounds, deferred calls and functions of the machine. -/
namespace Go.VC
open Go Go.RowKit

section
variable {E : Env} {X : XP} {g : G} {m : XM} {w : World} {C : XCall} {Y : XYield}

theorem xzip_rel : ∀ (ps : List Nat) (t xs : List V) (tm : Array Value) (ys : List Value), AR w g t tm → xs.length = ps.length → ys.length = xs.length → (∀ (i : Nat) c, xs[i]? = some c → VR w g c (ys.getD i undef)) →
    AR w g (xzip t ps xs) ((ps.zip ys).foldl (fun tmps (t, a) => tmps.setIfInBounds t a) tm) := by
  intro ps
  induction ps with
  | nil => intro t xs tm ys h h1 h2 h3; cases xs <;> simpa [xzip] using h
  | cons p ps ih =>
    intro t xs tm ys h h1 h2 h3
    cases xs with
    | nil => simp at h1
    | cons x xs =>
    cases ys with
    | nil => simp at h2
    | cons y ys =>
      simp only [xzip, List.zip_cons_cons, List.foldl_cons]
      refine ih _ _ _ _ ?_ (by simpa using h1) (by simpa using h2) (fun i c hc => by simpa using h3 (i + 1) c (by simpa using hc))
      have h0 := h3 0 x rfl
      simp only [List.getD_cons_zero] at h0
      have := AR.put (a := { tmps := tm, defers := [] }) h (some p) h0
      exact this

/-- A round. -/
theorem round_sound (hX : LinkS E X) (hC : CS E C) (hY : YS E Y) {B : Nat} : YS E (fun b m xs => xround X C Y B b m xs) := by
  intro b m xs res h g w xs' fs cs cv hr hg hlk hx hv
  dsimp only at h
  unfold xround at h
  split at h <;> first | (cases h; done) | skip
  rename_i p0 t ps xa xb hm
  obtain ⟨hps, h⟩ := bif_some h
  have hps : xs.length = ps.length := Nat.eq_of_beq_eq_true hps
  have hep : g.ep b = 0 := by
    cases hp : g.pd b with
    | none => exact hr.eps _ _ hm hp
    | some o =>
      obtain ⟨e1, e2, _⟩ := hr.pend _ _ hp
      rw [hm] at e1; cases e1
      simp [XObj.ep] at e2
  cases hv with
  | yld _ l hh =>
  have hβ := hh hep
  obtain ⟨_, rr, lp, q1, q2, q3, q4, q5, q6⟩ := hr.objs _ _ _ hm hβ
  obtain rfl : l = rr := by simpa using hβ.symm.trans q1
  obtain ⟨k1, k2, k3, k4⟩ := q6 (by omega)
  rw [hlk] at k3 k4
  have hready : lp.state = .ready := by
    match lp.state, q3 with
    | .ready, _ => rfl
  have hsz : xs'.size = lp.params.size := by rw [hx.1, hps, ← q5]; simp
  refine ⟨l, lp.fn, (lp.params.zip xs').foldl (fun tmps (t, a) => tmps.setIfInBounds t a) lp.tmps, lp.assign, lp.body, rfl, ?_, ?_⟩
  · simp [Instr.yield, Instr.getLoop, getObj, Sem.run, q2, hsz]
  · refine roundIn_of_wpIn (F := FZ none) trivial ?_
    show lp.assign.wpIn (FZ (some l)) 0 E.P _ _ w
    have har0 : AR w g (xzip t ps xs) ((lp.params.zip xs').foldl (fun tmps (t, a) => tmps.setIfInBounds t a) lp.tmps) := by
      have := xzip_rel (w := w) (g := g) ps t xs lp.tmps xs'.toList ⟨k1, k2⟩ hps (by simpa using hx.1) (fun i c hc => by simpa [Array.getD_eq_getD_getElem?] using hx.2 i c hc)
      rw [← Array.foldl_toList, Array.toList_zip, q5]
      exact this
    cases hxa : xcode X C Y B xa { t := xzip t ps xs, m := m, df := [] } with
    | none => rw [hxa] at h; cases h
    | some ra =>
      obtain ⟨ea, sa⟩ := ra
      rw [hxa] at h
      cases ea with
      | exit i => cases h
      | ret => cases h
      | pan v => cases h
      | nrm =>
      dsimp only at h
      refine wpIn_mono (code_sound (r := some l) (lo := fun _ => False) hX hC hY hg hlk lp.assign xa k3.1 (fun _ => k3.2) _ _ hxa _ w ⟨g, G.to.refl _ _, hr, har0, DefB.nil⟩) (PostX.then (fun _ a1 w1 hs => ?_) (fun he => absurd rfl he))
      obtain ⟨g1, l1, l2, l3, l4⟩ := hs
      split at h <;> first | (cases h; done) | skip
      rename_i p2 t2 ps2 a2 b2 hm1
      have hpd1 : g1.pd b = none := by rw [l1.lk.2]; exact hr.pd_β hβ
      have hep1 : g1.ep b = 0 := l2.eps _ _ hm1 hpd1
      obtain ⟨hβ1, _, _⟩ := l1.β b _ (by rw [hep1, hep]) hβ
      obtain ⟨_, rr1, lp1, u1, u2, u3, u4, u5, u6⟩ := l2.objs _ _ _ hm1 hβ1
      obtain rfl : l = rr1 := by simpa using hβ1.symm.trans u1
      obtain ⟨v1, v2, v3, v4⟩ := u6 (by omega)
      have hready1 : lp1.state = .ready := by
        match lp1.state, u3 with
        | .ready, _ => rfl
      have hlt1 : l < w1.heap.size := l2.own _ _ hβ1
      let w2 : World := { w1 with heap := w1.heap.setIfInBounds l (.loop { lp1 with state := .busy }) }
      obtain ⟨c1, c2⟩ := l2.change hm1 (o' := .loop 1 p2 t2 ps2 a2 b2) rfl hβ1 (w' := w2) ⟨rfl, rfl, rfl⟩ (by simp [w2]) (fun k hk => by simp only [w2]; rw [Array.getElem?_setIfInBounds_ne (Ne.symm hk)])
        (fun hle => ⟨hep1, l, { lp1 with state := .busy }, hβ1, by simp [w2, hlt1], trivial, u4, u5, fun _ => ⟨v1, fun j v hj => (v2 j v hj).mono hle.tole, v3, v4⟩⟩)
      refine ⟨w2, ?_, ?_⟩
      · simp only [Instr.beginRound, Instr.getLoop, Sem.run_bind, getObj, Sem.run, u2, Sem.run_pure, Result.andThen_ok, setObj, hready1]
        rfl
      show lp.body.wpIn (FZ (some l)) 0 E.P _ a1 w2
      cases hxb : xcode X C Y B xb { sa with m := sa.m.set b (.loop 1 p2 t2 ps2 a2 b2) } with
      | none => rw [hxb] at h; cases h
      | some rb =>
        obtain ⟨eb, sb⟩ := rb
        rw [hxb] at h
        dsimp only at h
        split at h <;> first | (cases h; done) | skip
        rename_i p3 t3 ps3 a3 b3 hm3
        refine wpIn_mono (code_sound (r := some l) (lo := fun _ => False) hX hC hY hg hlk lp.body xb k4.1 (fun _ => k4.2) _ _ hxb a1 w2 ⟨g1, l1.trans c2, c1, l3.mono c2.tole, DefR.mono c2.np l4⟩) (fun x a3' w3 hp => ?_)
        have fin : ∀ {g3 : G}, g.to w g3 w3 → Rel g3 sb.m w3 → ∀ (jump : Option XE) (cj : Option Code) (s : Nat) (stt : LoopState), LoopR s stt → s ≠ 3 → JumpR jump cj → (stt = if cj.isNone then .ready else .done) →
            ∃ v w4, (Instr.endRound l cj).run E.P w3 = .ok v w4 ∧ CallR g w (.inl (.bool cj.isNone)) (sb.m.set b (.loop s jump t3 ps3 a3 b3)) (.returned v) w4 := by
          intro g3 o1 o2 jump cj s stt hs hs3 hj hstt
          have hpd3 : g3.pd b = none := by rw [o1.lk.2]; exact hr.pd_β hβ
          have hep3 : g3.ep b = 0 := o2.eps _ _ hm3 hpd3
          obtain ⟨hβ3, _, _⟩ := o1.β b _ (by rw [hep3, hep]) hβ
          obtain ⟨_, rr3, lp3, y1, y2, y3, y4, y5, y6⟩ := o2.objs _ _ _ hm3 hβ3
          obtain rfl : l = rr3 := by simpa using hβ3.symm.trans y1
          obtain ⟨z1, z2, z3, z4⟩ := y6 (by omega)
          have hlt3 : l < w3.heap.size := o2.own _ _ hβ3
          let w4 : World := { w3 with heap := w3.heap.setIfInBounds l (.loop { lp3 with state := stt, pending := cj }) }
          obtain ⟨d1, d2⟩ := o2.change hm3 (o' := .loop s jump t3 ps3 a3 b3) rfl hβ3 (w' := w4) ⟨rfl, rfl, rfl⟩ (by simp [w4]) (fun k hk => by simp only [w4]; rw [Array.getElem?_setIfInBounds_ne (Ne.symm hk)])
            (fun hle => ⟨hep3, l, { lp3 with state := stt, pending := cj }, hβ3, by simp [w4, hlt3], hs, hj, y5, fun _ => ⟨z1, fun j v hj => (z2 j v hj).mono hle.tole, z3, z4⟩⟩)
          refine ⟨.bool cj.isNone, w4, ?_, g3, o1.trans d2, d1, _, rfl, .bool _⟩
          simp only [Instr.endRound, Instr.getLoop, Sem.run_bind, getObj, Sem.run, y2, Sem.run_pure, Result.andThen_ok, setObj, ← hstt]
          rfl
        cases eb with
        | nrm =>
          dsimp only at h
          simp only [Option.some.injEq] at h
          subst h
          obtain ⟨rfl, g3, o1, o2, _, _⟩ := hp
          exact fin o1 o2 none none 0 .ready trivial (by omega) trivial rfl
        | ret =>
          dsimp only at h
          simp only [Option.some.injEq] at h
          subst h
          obtain ⟨rfl, g3, o1, o2, _, _⟩ := hp
          exact fin o1 o2 (some .ret) (some .ret) 2 .done trivial (by omega) trivial rfl
        | exit i =>
          dsimp only at h
          simp only [Option.some.injEq] at h
          subst h
          obtain ⟨rfl, g3, o1, o2, _, _⟩ := hp
          exact fin o1 o2 (some (.exit i)) (some (.exit i)) 2 .done trivial (by omega) rfl rfl
        | pan v => cases h

end
end Go.VC

/- Deferred calls and functions of the machine. -/
namespace Go.VC
open Go Go.RowKit

/-- The panic that is under way, and the mode of the frame below. -/
def UR (w : World) (g : G) : Option V → FrameMode → Prop
  | none, u => u = .returning ∨ ∃ cv, u = .panicking [{ v := cv, recovered := true }]
  | some v, u => ∃ cv, u = .panicking [{ v := cv, recovered := false }] ∧ VR w g v cv

/-- How the body of a deferred call is left. -/
def PostS (E : Env) (lo : Nat → Prop) (g0 : G) (w0 : World) (c0 : Frame) (cs : List Frame) (r : XE × XSt × Option V) : Exit → Act → List Frame → World → Prop := fun x a cs' w =>
  PostX E lo g0 w0 (r.1, r.2.1) x a w ∧ ∃ u, cs' = { c0 with mode := u } :: cs ∧ UR w0 g0 r.2.2 u

section
variable {E : Env} {X : XP} {g : G} {m : XM} {w : World} {C : XCall} {Y : XYield} {lo : Nat → Prop}

theorem wpSIn_mono {F : Fence} {n : Nat} {P : Program} {c : Code} {Q Q' : Exit → Act → List Frame → World → Prop} {a : Act} {cs : List Frame} (h : c.wpSIn F n P Q a cs w) (hq : ∀ e a cs w, Q e a cs w → Q' e a cs w) : c.wpSIn F n P Q' a cs w :=
  fun b k hb hr hF hroom => let ⟨e, a', cs', w', l, q, r⟩ := h b k hb hr hF hroom; ⟨e, a', cs', w', l, hq _ _ _ _ q, r⟩

theorem cOp_rcv {P : Program} {op : Op} (hc : cOp P op = some .rcv) : ∃ args tys, op = .call { callee := .builtin .recover, args := args, argTypes := tys } := by
  unfold cOp at hc
  split at hc
  all_goals try simp only [Option.bind_eq_bind, Option.bind_eq_some_iff, Option.map_eq_some_iff, Option.some.injEq, Option.pure_def, reduceCtorEq, and_false, exists_false, exists_const] at hc
  case h_44 => exact ⟨_, _, rfl⟩
  all_goals
    exfalso
    repeat' split at hc
    all_goals try simp only [Option.bind_eq_bind, Option.bind_eq_some_iff, Option.map_eq_some_iff, Option.some.injEq, Option.pure_def, reduceCtorEq, and_false, exists_false, exists_const] at hc
    all_goals first | (cases hc; done) | skip
    all_goals
      first
        | (obtain ⟨_, _, _, _, hc⟩ := hc; split at hc <;> first | (cases hc; done) | skip; simp only [Option.bind_eq_some_iff, Option.some.injEq, reduceCtorEq, and_false, exists_false, exists_const] at hc; done)
        | (obtain ⟨_, _, _, _, _, _, _, _, hc⟩ := hc; split at hc <;> first | (cases hc; done) | skip; simp only [Option.bind_eq_some_iff, Option.some.injEq, reduceCtorEq, and_false, exists_false, exists_const] at hc; done)
        | (obtain ⟨_, _, _, _, _, _, hc⟩ := hc; split at hc <;> first | (cases hc; done) | skip; simp only [Option.bind_eq_some_iff, Option.some.injEq, reduceCtorEq, and_false, exists_false, exists_const] at hc; done)

theorem code_soundS (hX : LinkS E X) (hC : CS E C) (hY : YS E Y) {g0 : G} {w0 : World} (hg0 : GlobR E w0 g0) (hlk0 : g0.lk = LK E) {B : Nat} : ∀ (c : Code) (x : XC), cC E.P c = some x → ((∃ k, w0.heap.size ≤ k ∧ ¬ lo k) → x.noD = true) →
    ∀ (st : XSt) (p : Option V) (res : XE × XSt × Option V), xcodeS X C Y B x st p = some res → ∀ (a : Act) (w : World) (c0 : Frame) (cs : List Frame) (u : FrameMode), StR E lo g0 w0 st a w → UR w0 g0 p u →
    c.wpSIn (FZ none) 0 E.P (PostS E lo g0 w0 c0 cs res) a ({ c0 with mode := u } :: cs) w := by
  intro c
  have plain : ∀ (c : Code) (x : XC), cC E.P c = some x → ((∃ k, w0.heap.size ≤ k ∧ ¬ lo k) → x.noD = true) → ∀ (st : XSt) (p : Option V) (res : XE × XSt × Option V), (xcode X C Y B x st).map (fun (e, st) => (e, st, p)) = some res →
      ∀ (a : Act) (w : World) (c0 : Frame) (cs : List Frame) (u : FrameMode), StR E lo g0 w0 st a w → UR w0 g0 p u → c.wpSIn (FZ none) 0 E.P (PostS E lo g0 w0 c0 cs res) a ({ c0 with mode := u } :: cs) w := by
    intro c x hc hnd st p res h a w c0 cs u hst hu
    obtain ⟨⟨e, st'⟩, h1, rfl⟩ := Option.map_eq_some_iff.1 h
    refine wpSIn_of_wpIn rfl (wpIn_mono (code_sound (r := none) hX hC hY hg0 hlk0 c x hc (fun hq => hnd (hq.resolve_left (by simp))) st _ h1 a w hst) fun e' a' w' hp => ⟨hp, u, rfl, hu⟩)
  induction c with
  | seq c1 c2 ih1 ih2 =>
    intro x hc hnd st p res h a w c0 cs u hst hu
    simp only [cC, Option.bind_eq_bind, Option.bind_eq_some_iff, Option.some.injEq] at hc
    obtain ⟨x1, h1, x2, h2, rfl⟩ := hc
    simp only [XC.noD, Bool.and_eq_true] at hnd
    simp only [xcodeS] at h
    refine wpSIn_seq ?_
    cases hx : xcodeS X C Y B x1 st p with
    | none => rw [hx] at h; cases h
    | some q =>
      rw [hx] at h
      obtain ⟨e', st', p'⟩ := q
      refine wpSIn_mono (ih1 x1 h1 (fun hq => (hnd hq).1) st p _ hx a w c0 cs u hst hu) fun x' a' cs' w' hp => ?_
      obtain ⟨hp1, u', rfl, hu'⟩ := hp
      cases e' with
      | nrm =>
        obtain ⟨rfl, hs⟩ := hp1
        exact ih2 x2 h2 (fun hq => (hnd hq).2) st' p' res h a' w' c0 cs u' hs hu'
      | exit i => simp only [Option.some.injEq] at h; subst h; obtain ⟨rfl, hs⟩ := hp1; exact ⟨⟨rfl, hs⟩, u', rfl, hu'⟩
      | ret => simp only [Option.some.injEq] at h; subst h; obtain ⟨rfl, hs⟩ := hp1; exact ⟨⟨rfl, hs⟩, u', rfl, hu'⟩
      | pan v => simp only [Option.some.injEq] at h; subst h; obtain ⟨cv, rfl, hs⟩ := hp1; exact ⟨⟨cv, rfl, hs⟩, u', rfl, hu'⟩
  | region id ops draw =>
    intro x hc hnd st p res h a w c0 cs u hst hu
    unfold xcodeS at h
    split at h
    · cases draw <;> simp only [cC, Option.map_eq_some_iff, Option.bind_eq_some_iff, reduceCtorEq, and_false, exists_false] at hc
    · rename_i dst
      clear plain
      cases draw with
      | true => simp only [cC, Option.map_eq_some_iff, Option.bind_eq_some_iff, reduceCtorEq, and_false, exists_false] at hc
      | false =>
        simp only [cC, Option.map_eq_some_iff, XC.reg.injEq] at hc
        obtain ⟨its, h1, rfl⟩ := hc
        simp only [Option.some.injEq] at h
        subst h
        obtain ⟨q1, q2, q3⟩ := mapM_spec _ _ h1
        obtain ⟨o, ho, hco⟩ := q3 0 _ rfl
        have hops : ops = #[o] := by
          apply Array.ext'
          have hl : ops.toList.length = 1 := by simpa using q1.symm
          obtain ⟨y, hy⟩ := List.length_eq_one_iff.1 hl
          rw [hy] at ho ⊢
          simp only [List.getElem?_cons_zero, Option.some.injEq] at ho
          rw [ho]
        subst hops
        obtain ⟨k1, k2, k3⟩ := cI_spec hco
        obtain ⟨args, tys, hop⟩ := cOp_rcv k2
        have hgd : o.guard = none := by
          rcases k3 with ⟨h3, _⟩ | ⟨_, _, _, _, _, _, _, h3⟩
          · exact h3
          · cases h3
        obtain ⟨g, hle, hr, har, hdf⟩ := hst
        refine wpSIn_region ?_
        have hw : Region.wanted o (yielded #[o] a.tmps) = true := by simp [Region.wanted, hgd]
        have hrun : (execOp a.eval o).run E.P w = .ok .recover w := by simp [execOp, hop, resolve, invoke, builtin]
        have hk1 : dst = o.dst := k1
        show wpOpsSIn (FZ none) 0 E.P #[o] _ [0] a _ w
        simp only [wpOpsSIn, List.getElem?_toArray, List.getElem?_cons_zero, hw, if_true, hrun]
        refine ⟨fun _ _ => trivial, ?_⟩
        cases p with
        | none =>
          have hrec : recoverD ({ c0 with mode := u } :: cs) = none := by
            rcases hu with rfl | ⟨cv, rfl⟩ <;> rfl
          rw [hrec]
          refine ⟨⟨rfl, g, hle, hr, ?_, by rw [put_defers]; exact hdf⟩, u, rfl, hu⟩
          rw [hk1, ← putV_xput]
          exact har.put o.dst .nifc
        | some v =>
          obtain ⟨cv, rfl, hv⟩ := hu
          have hrec : recoverD ({ c0 with mode := .panicking [{ v := cv, recovered := false }] } :: cs) = some (cv, { c0 with mode := .panicking [{ v := cv, recovered := true }] } :: cs) := rfl
          rw [hrec]
          refine ⟨⟨rfl, g, hle, hr, ?_, by rw [put_defers]; exact hdf⟩, _, rfl, .inr ⟨cv, rfl⟩⟩
          rw [hk1, ← putV_xput]
          exact har.put o.dst (hv.mono hle.tole)
    · exact plain _ x hc hnd st p res h a w c0 cs u hst hu
  | scope c ih =>
    intro x hc hnd st p res h a w c0 cs u hst hu
    have hin := ih x (by simpa [cC] using hc) hnd st p res h a w c0 cs u hst hu
    intro b k hb hr hF hroom
    have h0 : (lone (b.atR a (.code (.scope c) :: k)) ({ c0 with mode := u } :: cs) w).fenced E.P (FZ none) := fenced_calm hF hroom rfl
    obtain ⟨e, a₁, cs₁, w₁, hl, hq, harr⟩ := hin b (.inScope c :: k) hb hr hF hroom
    cases e with
    | normal => exact ⟨.normal, a₁, cs₁, w₁, hl, hq, .head h0 stepR_scope (StepsIn.trans harr (.one (fenced_calm hF (hl ▸ hroom) rfl) stepR_inScope))⟩
    | exit id =>
      have hx : exitTo id (.inScope c :: k) = exitTo id k := by simp [exitTo]
      exact ⟨.exit id, a₁, cs₁, w₁, hl, hq, fun k' hk => .head h0 stepR_scope (harr.1 k' (by rw [hx]; exact hk)),
        fun hr' hk => let ⟨k₁, h1, h2⟩ := harr.2 hr' (by rw [hx]; exact hk); ⟨k₁, h1, .head h0 stepR_scope h2⟩⟩
    | goto l => exact (PostX.noGoto _ _ _ hq.1).elim
    | ret => exact ⟨_, a₁, cs₁, w₁, hl, hq, .of_steps (.one h0 stepR_scope) harr⟩
    | panic ch => exact ⟨_, a₁, cs₁, w₁, hl, hq, .of_steps (.one h0 stepR_scope) harr⟩
    | outgrown => exact ⟨_, a₁, cs₁, w₁, hl, hq, .of_steps (.one h0 stepR_scope) harr⟩
  | _ =>
    intro x hc hnd st p res h a w c0 cs u hst hu
    have hx : xcodeS X C Y B x st p = (xcode X C Y B x st).map (fun (e, st) => (e, st, p)) := by
      simp only [cC] at hc
      first
        | (simp only [Option.some.injEq] at hc; subst hc; rfl)
        | (simp only [Option.map_eq_some_iff] at hc; obtain ⟨_, _, rfl⟩ := hc; rfl)
        | (simp only [Option.bind_eq_bind, Option.bind_eq_some_iff, Option.some.injEq] at hc; obtain ⟨_, _, _, _, _, _, rfl⟩ := hc; rfl)
        | (obtain ⟨_, _, hc⟩ := Option.bind_eq_some_iff.1 hc; obtain ⟨_, _, hc⟩ := Option.bind_eq_some_iff.1 hc; obtain ⟨_, _, hc⟩ := Option.bind_eq_some_iff.1 hc; obtain ⟨_, hc⟩ := bif_some hc; simp only [Option.some.injEq] at hc; subst hc; rfl)
        | (cases hc; done)
    rw [hx] at h
    exact plain _ x hc hnd st p res h a w c0 cs u hst hu

end
end Go.VC

/- Functions of the machine. -/
namespace Go.VC
open Go Go.RowKit

section
variable {E : Env} {X : XP} {g : G} {m : XM} {w : World} {C : XCall} {Y : XYield}

theorem xload_vload {t : TypeId} {ag : Bool} {s : Nat} (hag : tag E.P t = some ag) (hs : tsz E.P t = some s) {cs : List V} {v : V} (hv : xload ag s cs = some v) : ∃ p, vload E.P t cs = some (v, p) ∧ p := by
  unfold xload at hv
  cases ag with
  | true =>
    simp only [if_true] at hv
    split at hv <;> first | (cases hv; done) | skip
    rename_i hle
    simp only [Option.some.injEq] at hv
    subst hv
    exact ⟨s ≤ cs.length, by simp [vload, hag, hs], hle⟩
  | false =>
    simp only [Bool.false_eq_true, if_false] at hv
    exact ⟨True, by simp only [vload, hag]; rw [List.head?_eq_getElem?] at hv; rw [hv]; rfl, trivial⟩

theorem ld_run {t : TypeId} {ag : Bool} {s : Nat} (hag : tag E.P t = some ag) (hs : tsz E.P t = some s) {xv v : V} {m' : XM} (h : xop m (fun _ => xv) (.ld ag s (.t 0)) = some (v, m')) (hr : Rel g m w) {cv : Value} (hv : VR w g xv cv) :
    ∃ A rv, cv = .pointer (some A) ∧ (loadVar t A).run E.P w = .ok rv w ∧ VR w g v rv := by
  simp only [xop] at h
  split at h <;> first | (cases h; done) | skip
  · rename_i cs
    obtain ⟨v', hl, h⟩ := Option.map_eq_some_iff.1 h
    simp only [Prod.mk.injEq] at h
    obtain ⟨rfl, rfl⟩ := h
    obtain ⟨p, k1, k2⟩ := xload_vload hag hs hl
    cases hv with
    | pref _ blk off val hI hw hv =>
      obtain ⟨rv, r1, r2⟩ := run_loadVar (P := E.P) (g := g) k1 k2 blk off val hw (fun j c hc => (hv j c hc).mono (G.le.of_pure g w))
      exact ⟨_, rv, rfl, r1, r2⟩
  · rename_i b e o
    split at h <;> first | (cases h; done) | skip
    rename_i cells ty ag2 sz ep hm
    split at h <;> first | (cases h; done) | skip
    rename_i he
    obtain ⟨v', hl, h⟩ := Option.map_eq_some_iff.1 h
    simp only [Prod.mk.injEq] at h
    obtain ⟨rfl, rfl⟩ := h
    obtain ⟨p, k1, k2⟩ := xload_vload hag hs hl
    have he' : ep = e := by first | exact he | exact he.1
    subst he'
    obtain ⟨c, base, cs, rfl, hb, h4, h5, h6, h7⟩ := hr.ptr hm hv
    have hlen : ∀ (j : Nat) c', (cells.drop o)[j]? = some c' → o + j < cells.length := fun j c' hc => by
      rw [List.getElem?_drop] at hc
      exact (List.getElem?_eq_some_iff.1 hc).1
    obtain ⟨rv, r1, r2⟩ := run_loadVar (P := E.P) (g := g) k1 k2 c (base + o) (fun j => cs.getD (base + o + j) undef) (fun j c' hc => cell_of_heap h4 (by have := hlen j c' hc; omega)) (fun j c' hc => by
      have := hlen j c' hc
      rw [List.getElem?_drop] at hc
      rw [Nat.add_assoc]; exact h7 _ _ hc)
    exact ⟨_, rv, rfl, r1, r2⟩

/-- What a function hands back. -/
theorem results_sound {fn : Func} {res : List XS} (hres : fn.results.toList.mapM (fun | .tmp t => some (XS.t t) | .cell a t => do some (XS.cell a (← tag E.P t) (← tsz E.P t))) = some res) {t : List V} {tm : Array Value} (hr : Rel g m w) (har : AR w g t tm) {vs : List V}
    (h : xres m t res = some vs) : ∃ cv, (results fn tm).run E.P w = .ok cv w ∧ VR w g (xpack vs) cv := by
  have key : ∀ (l : List ResultVar) (res : List XS) (vs : List V), l.mapM (fun | .tmp t => some (XS.t t) | .cell a t => do some (XS.cell a (← tag E.P t) (← tsz E.P t))) = some res → xres m t res = some vs →
      ∃ cvs : List Value, (l.mapM (m := Sem) fun | .tmp t => pure (tm.getD t undef) | .cell a t => do loadVar t (← asAddr (tm.getD a undef))).run E.P w = .ok cvs w ∧ cvs.length = vs.length ∧ ∀ (i : Nat) v, vs[i]? = some v → VR w g v (cvs.getD i undef) := by
    intro l
    induction l with
    | nil =>
      intro res vs h1 h2
      simp at h1
      subst h1
      simp only [xres, Option.some.injEq] at h2
      subst h2
      exact ⟨[], by simp, rfl, fun i v hi => by simp at hi⟩
    | cons q l ih =>
      intro res vs h1 h2
      simp only [List.mapM_cons, Option.pure_def, Option.bind_eq_bind] at h1
      obtain ⟨y, hy, h1⟩ := Option.bind_eq_some_iff.1 h1
      obtain ⟨ys, hys, h1⟩ := Option.bind_eq_some_iff.1 h1
      simp only [Option.some.injEq] at h1
      subst h1
      have fin : ∀ {v cv vs'}, xres m t ys = some vs' → vs = v :: vs' → (match q with | .tmp t => (pure (tm.getD t undef) : Sem Value) | .cell a t => do loadVar t (← asAddr (tm.getD a undef))).run E.P w = .ok cv w → VR w g v cv →
          ∃ cvs : List Value, ((q :: l).mapM (m := Sem) fun | .tmp t => pure (tm.getD t undef) | .cell a t => do loadVar t (← asAddr (tm.getD a undef))).run E.P w = .ok cvs w ∧ cvs.length = vs.length ∧ ∀ (i : Nat) v, vs[i]? = some v → VR w g v (cvs.getD i undef) := by
        intro v cv vs' e1 e2 e3 e4
        obtain ⟨cvs, k1, k2, k3⟩ := ih ys vs' hys e1
        refine ⟨cv :: cvs, ?_, by simp [e2, k2], fun i u hu => ?_⟩
        · rw [List.mapM_cons, Sem.run_bind]
          rw [e3]
          simp only [Result.andThen_ok, Sem.run_bind, k1, Sem.run_pure]
        · subst e2
          cases i with
          | zero => simp at hu; subst hu; exact e4
          | succ i => simpa using k3 i u (by simpa using hu)
      cases q with
      | tmp i =>
        simp only [Option.some.injEq] at hy
        subst hy
        simp only [xres, Option.map_eq_some_iff] at h2
        obtain ⟨vs', e1, rfl⟩ := h2
        exact fin e1 rfl (by simp) (har.get i)
      | cell a ty =>
        simp only [Option.bind_eq_bind, Option.bind_eq_some_iff, Option.some.injEq] at hy
        obtain ⟨ag, hag, s, hs, rfl⟩ := hy
        simp only [xres] at h2
        split at h2 <;> first | (cases h2; done) | skip
        rename_i v m2 vs' hx e1
        simp only [Option.some.injEq] at h2
        obtain ⟨A, rv, q1, q2, q3⟩ := ld_run hag hs hx hr (har.get a)
        exact fin e1 h2.symm (by simp [q1, asAddr, q2]) q3
  obtain ⟨cvs, k1, k2, k3⟩ := key _ _ _ hres h
  have hm : (fn.results.mapM (m := Sem) fun | .tmp t => pure (tm.getD t undef) | .cell a t => do loadVar t (← asAddr (tm.getD a undef))).run E.P w = .ok cvs.toArray w := by
    rw [Array.mapM_eq_mapM_toList]
    rw [map_eq_pure_bind, Sem.run_bind, k1]
    simp
  refine ⟨if h : cvs.toArray.size = 1 then cvs.toArray[0] else .tuple cvs.toArray, ?_, ?_⟩
  · rw [show results fn tm = ((fn.results.mapM (m := Sem) fun | .tmp t => pure (tm.getD t undef) | .cell a t => do loadVar t (← asAddr (tm.getD a undef))) >>= fun vs => pure (if h : vs.size = 1 then vs[0] else .tuple vs)) from rfl]
    rw [Sem.run_bind, hm]
    simp
  · match vs, cvs, k2, k3 with
    | [v], [c], _, k3 => simpa [xpack] using k3 0 v rfl
    | [], [], _, k3 => exact .tup _ _ rfl fun i c hc => by simp at hc
    | a :: b :: l, c :: d :: l', k2, k3 =>
      have : ¬ (c :: d :: l').toArray.size = 1 := by simp
      rw [dif_neg this]
      exact .tup _ _ (by simpa using k2) fun i c hc => by simpa [Array.getD_eq_getD_getElem?] using k3 i c hc

/-- A block of others is changed. -/
theorem Rel.touch (h : Rel g m w) {r : Nat} (h3 : ∀ b c, g.β b = some c → c.1 ≠ r) (h4 : ∀ o, ¬ g.I r o) (ob : Obj) :
    Rel g m { w with heap := w.heap.setIfInBounds r ob } ∧ g.le w g { w with heap := w.heap.setIfInBounds r ob } := by
  have hne : ∀ k, k ≠ r → (w.heap.setIfInBounds r ob)[k]? = w.heap[k]? := fun k hk => Array.getElem?_setIfInBounds_ne (Ne.symm hk)
  have hle : g.le w g { w with heap := w.heap.setIfInBounds r ob } := ⟨fun _ _ h => h, fun b o hi => hne b (by rintro rfl; exact h4 o hi), fun _ => Nat.le_refl _, fun _ _ _ h => ⟨h, rfl, rfl⟩⟩
  refine ⟨⟨fun b o c hb hc => ?_, h.dom, h.fresh, h.eps, fun b c hb => by simpa using h.own b c hb, h.inj, fun blk o hi => by simpa using h.imm blk o hi, h.pend⟩, hle⟩
  have ho := h.objs b o c hb hc
  cases o with
  | row cells ty ag sz ep =>
    obtain ⟨k1, k2, c', base, cs, q3, q4, q5, q6, q7⟩ := ho
    exact ⟨k1, k2, c', base, cs, q3, (hne _ (h3 _ _ q3)).trans q4, q5, q6, fun j v hv => (q7 j v hv).mono hle⟩
  | map es clock =>
    obtain ⟨k1, rr, ces, q3, q4, q5, q6⟩ := ho
    exact ⟨k1, rr, ces, q3, (hne _ (h3 _ _ q3)).trans q4, q5, fun j k v n hj => by
      obtain ⟨e, e1, e2, e3, e4⟩ := q6 j k v n hj
      exact ⟨e, e1, e2.mono hle, e3.mono hle, e4⟩⟩
  | loop st pend t ps a body =>
    obtain ⟨k1, rr, l, q3, q4, q5, q6, q7, q8⟩ := ho
    refine ⟨k1, rr, l, q3, (hne _ (h3 _ _ q3)).trans q4, q5, q6, q7, fun hs => ?_⟩
    obtain ⟨a1, a2, a3, a4⟩ := q8 hs
    exact ⟨a1, fun j v hv => (a2 j v hv).mono hle, a3, a4⟩
  | none => trivial

theorem UR.mono {w' : World} {g' : G} (hle : g.le w g' w') {p : Option V} {u : FrameMode} (h : UR w g p u) : UR w' g' p u := by
  cases p with
  | none => exact h
  | some v => obtain ⟨cv, h1, h2⟩ := h; exact ⟨cv, h1, h2.mono hle⟩

/-- The mode of a frame that leaves. -/
def US (w : World) (g : G) : Option V → FrameMode → Prop
  | none, u => u = .returning
  | some v, u => ∃ cv, u = .panicking [{ v := cv, recovered := false }] ∧ VR w g v cv

theorem US.mono {w' : World} {g' : G} (hle : g.le w g' w') {p : Option V} {u : FrameMode} (h : US w g p u) : US w' g' p u := by
  cases p with
  | none => exact h
  | some v => obtain ⟨cv, h1, h2⟩ := h; exact ⟨cv, h1, h2.mono hle⟩

theorem UR.settle {p : Option V} {u : FrameMode} (h : UR w g p u) : US w g p (settle u) := by
  cases p with
  | none => rcases h with rfl | ⟨cv, rfl⟩ <;> rfl
  | some v => obtain ⟨cv, rfl, h2⟩ := h; exact ⟨cv, rfl, h2⟩

theorem US.ur {p : Option V} {u : FrameMode} (h : US w g p u) : UR w g p u := by
  cases p with
  | none => exact .inl h
  | some v => exact h

/-- A deferred call. -/
theorem def_sound (hX : LinkS E X) (hC : CS E C) (hY : YS E Y) {B : Nat} {f : Nat} {p p' : Option V} {m' : XM} {xs : List V} (h : xdef X C Y B f p m xs = some (p', m')) (hr : Rel g m w) (hg : GlobR E w g) (hlk : g.lk = LK E) {xs' : Array Value} (hx : AR w g xs xs') {u : FrameMode} (hu : US w g p u) :
    (∃ fn, E.P.funcs[f]? = some fn ∧ (fn.name == "runtime.NumGoroutine") = false ∧ fn.body.isNone = false) ∧ CallsDIn (FZ none) 0 E.P f xs' u w fun e u' w' => ∃ g', g.to w g' w' ∧ Rel g' m' w' ∧ UR w' g' p' u' ∧ ∃ v, e = .returned v := by
  unfold xdef at h
  split at h <;> first | (cases h; done) | skip
  rename_i F hF
  split at h <;> first | (cases h; done) | skip
  rename_i hcond
  simp only [Bool.and_eq_true] at hcond
  obtain ⟨hres0, hnd⟩ := hcond
  obtain ⟨fn, pp, h1, h2⟩ := hX.fn hF
  obtain ⟨h3, c, h4, h5, h6, h7⟩ := cF_spec h2
  refine ⟨⟨fn, h1, h3, by rw [h4]; rfl⟩, ?_⟩
  have hur := hu.ur
  refine callsDIn_of_wpSIn h1 h4 trivial fun c0 cs hc0 => ?_
  have hc0' : c0 = { c0 with mode := u } := by subst hc0; rfl
  have har : AR w g (xs ++ List.replicate (F.n - xs.length) .und) (xs' ++ Array.replicate (fn.ntmps - xs'.size) undef) := by
    refine AR.app hx ⟨by simp [h6, hx.1], fun i c hc => ?_⟩
    have : c = .und := by
      have := List.mem_of_getElem? hc
      simp at this
      exact this.2
    subst this; exact .und _
  have hst : StR E (fun _ => False) g w { t := xs ++ List.replicate (F.n - xs.length) .und, m := m, df := [] } { tmps := xs' ++ Array.replicate (fn.ntmps - xs'.size) undef, defers := [] } w := ⟨g, G.to.refl _ _, hr, har, DefB.nil⟩
  have nodef : ∀ {hi : Nat} {w : World} {g : G} {ds : List Deferred}, DefB E (fun _ => False) w g hi [] ds → ds = [] := by
    intro hi w g ds hd
    cases hd with
    | nil => rfl
    | mark r h0 => exact h0.elim
  cases hxs : xcodeS X C Y B F.body { t := xs ++ List.replicate (F.n - xs.length) .und, m := m, df := [] } p with
  | none => rw [hxs] at h; cases h
  | some q =>
    obtain ⟨e, st, p1⟩ := q
    rw [hxs] at h
    have hrun := code_soundS (lo := fun _ => False) hX hC hY hg hlk c F.body h5 (fun _ => hnd) _ p _ hxs _ w c0 cs u hst hur
    rw [← hc0'] at hrun
    refine wpSIn_mono hrun fun x a' cs' w' hp => ?_
    obtain ⟨hp1, u', hcs, hu'⟩ := hp
    have hresz : fn.results = #[] := by
      obtain ⟨q1, _, _⟩ := mapM_spec _ _ h7
      have hF0 : F.res = [] := by simpa using hres0
      rw [hF0] at q1
      exact Array.ext' (List.eq_nil_of_length_eq_zero (by simpa using q1.symm))
    have fin : (match (some (p1, st.m) : Option (Option V × XM)) with | some q => bif st.df.isEmpty then some q else none | none => none) = some (p', m') → StR E (fun _ => False) g w st a' w' →
        a'.defers = [] ∧ ∃ u', cs' = { c0 with mode := u' } :: cs ∧ ∃ v, (results fn a'.tmps).run E.P w' = .ok v w' ∧ ∃ g', g.to w g' w' ∧ Rel g' m' w' ∧ UR w' g' p' u' ∧ ∃ v', (Ending.returned v : Ending) = .returned v' := by
      intro hh hs
      obtain ⟨g', k1, k2, k3, k4⟩ := hs
      obtain ⟨hdf0, hh⟩ := bif_some hh
      simp only [Option.some.injEq, Prod.mk.injEq] at hh
      obtain ⟨rfl, rfl⟩ := hh
      have hdf : st.df = [] := by simpa using hdf0
      have k4' : DefB E (fun _ => False) w' g' w'.heap.size [] a'.defers := by rw [← hdf]; exact k4
      refine ⟨nodef k4', u', hcs, .tuple #[], ?_, g', k1, k2, hu'.mono k1.tole, _, rfl⟩
      simp [results, hresz]
    have hfix : ∀ b : Bool, (if b = true then some (p1, st.m) else none) = bif b then some (p1, st.m) else none := fun b => by cases b <;> rfl
    cases e with
    | nrm =>
      dsimp only at h
      rw [hfix] at h
      obtain ⟨rfl, hs⟩ := hp1
      exact fin h hs
    | ret =>
      dsimp only at h
      rw [hfix] at h
      obtain ⟨rfl, hs⟩ := hp1
      exact fin h hs
    | exit i => cases h
    | pan v => cases h

/-- A frame leaves: its deferred calls, its marks. -/
theorem leave_sound (hX : LinkS E X) (hC : CS E C) (hY : YS E Y) {B : Nat} {g0 : G} {w0 : World} {gs : G} {ws : World} {fn : Func} {tm : Array Value} {R : Ending → World → Prop} {p' : Option V} {m' : XM}
    (hg : GlobR E ws gs) (hlk : gs.lk = LK E)
    (hfin : ∀ g' w' u', g0.to w0 g' w' → gs.le ws g' w' → Rel g' m' w' → US w' g' p' u' → LeavesIn (FZ none) 0 E.P fn tm R [] u' w') :
    ∀ (ds : List Deferred) (hi : Nat) (df : List (Nat × List V)) (p : Option V) (m : XM) (g : G) (w : World) (u : FrameMode), DefB E (fun k => w0.heap.size ≤ k) w g hi df ds → xleave X C Y B df p m = some (p', m') → g0.to w0 g w → gs.le ws g w → g.lk = LK E → Rel g m w → US w g p u →
      LeavesInM (FZ none) 0 E.P fn tm R ds u w := by
  intro ds
  induction ds with
  | nil =>
    intro hi df p m g w u hd hx h1 h2 h2' h3 h4
    cases hd
    simp only [xleave, Option.some.injEq, Prod.mk.injEq] at hx
    obtain ⟨rfl, rfl⟩ := hx
    exact hfin g w u h1 h2 h3 h4
  | cons d ds ih =>
    intro hi df p m g w u hd hx h1 h2 h2' h3 h4
    have hune : u ≠ .run := by
      cases p with
      | none => have : u = .returning := h4; rw [this]; simp
      | some v => obtain ⟨cv, rfl, _⟩ := h4; simp
    refine ⟨hune, ?_⟩
    cases hd with
    | mark r k0 k1 k2 k3 k4 k5 =>
      left
      obtain ⟨t1, t2⟩ := h3.touch k3 k4 (.deferred none)
      have hne : ∀ k, k ≠ r → (w.heap.setIfInBounds r (.deferred none))[k]? = w.heap[k]? := fun k hk => Array.getElem?_setIfInBounds_ne (Ne.symm hk)
      refine ⟨r, { w with heap := w.heap.setIfInBounds r (.deferred none) }, rfl, ?_, ?_⟩
      · simp [Instr.takeDeferred, getObj, setObj, Sem.run, k2]
      · refine ih r df p m g _ u ?_ hx ?_ (h2.trans t2) h2' t1 (h4.mono t2)
        · -- the rest lies before it
          have key : ∀ {hi df ds}, DefB E (fun k => w0.heap.size ≤ k) w g hi df ds → hi ≤ r → DefB E (fun k => w0.heap.size ≤ k) { w with heap := w.heap.setIfInBounds r (.deferred none) } g hi df ds := by
            intro hi df ds hd
            induction hd with
            | nil => exact fun _ => .nil
            | mark r2 e0 e1 e2 e3 e4 _ ih2 => exact fun hle => .mark r2 e0 e1 ((hne r2 (by omega)).trans e2) e3 e4 (ih2 (by omega))
            | call f xs xs' e1 _ ih2 => exact fun hle => .call f xs xs' (e1.mono t2) (ih2 hle)
          exact key k5 (Nat.le_refl _)
        · exact ⟨h1.tole.trans t2, h1.lk, h1.env, by simpa using h1.size, fun k hk hno => (hne k (by omega)).trans (h1.oth k hk hno), h1.new, h1.Inew⟩
    | call f xs xs' k1 k2 =>
      right
      simp only [xleave] at hx
      cases hxd : xdef X C Y B f p m xs with
      | none => rw [hxd] at hx; cases hx
      | some q =>
        obtain ⟨p1, m1⟩ := q
        rw [hxd] at hx
        dsimp only at hx
        have hgw : GlobR E w g := hg.mono h2
        obtain ⟨⟨fn2, e1, e2, e3⟩, hcall⟩ := def_sound hX hC hY hxd h3 hgw h2' k1 h4
        refine ⟨fun h => (by cases h), .func f, #[], f, xs', rfl, ?_, fun _ _ => trivial, ?_⟩
        · simpa [invoke] using run_callFunc e1 e2 e3 xs' w
        · refine CallsDIn.mono (F := FZ none) hcall fun e u' w' he => ?_
          obtain ⟨g', l1, l2, l3, v, rfl⟩ := he
          exact ih hi _ p1 m1 g' w' (settle u') (DefB.mono l1.np k2) hx (h1.trans l1) (h2.trans l1.tole) (l1.lk.1.trans h2') l2 l3.settle

end
end Go.VC

/- THE MACHINE IS SOUND: what it runs to, the program runs to. -/
namespace Go.VC
open Go Go.RowKit

section
variable {E : Env} {X : XP}

theorem run_sound (hX : LinkS E X) (B : Nat) : ∀ n, CS E (xrun X B n) ∧ YS E (xyield X B n) := by
  intro n
  induction n with
  | zero => exact ⟨fun h => by simp [xrun] at h, fun h => by simp [xyield] at h⟩
  | succ n ih =>
    obtain ⟨hC, hY⟩ := ih
    refine ⟨?_, fun h => round_sound hX hC hY (B := B) (by simpa only [xyield] using h)⟩
    intro f m xs r h g w xs' hr hg hlk hx
    simp only [xrun] at h
    cases hF : X.fn f with
    | none => rw [hF] at h; cases h
    | some F =>
      rw [hF] at h
      dsimp only at h
      obtain ⟨fn, pp, h1, h2⟩ := hX.fn hF
      obtain ⟨h3, c, h4, h5, h6, h7⟩ := cF_spec h2
      have har : AR w g (xs ++ List.replicate (F.n - xs.length) .und) (xs' ++ Array.replicate (fn.ntmps - xs'.size) undef) := by
        refine AR.app hx ⟨by simp [h6, hx.1], fun i c hc => ?_⟩
        have : c = .und := by
          have := List.mem_of_getElem? hc
          simp at this
          exact this.2
        subst this; exact .und _
      have hst : StR E (fun k => w.heap.size ≤ k) g w { t := xs ++ List.replicate (F.n - xs.length) .und, m := m, df := [] } { tmps := xs' ++ Array.replicate (fn.ntmps - xs'.size) undef, defers := [] } w := ⟨g, G.to.refl _ _, hr, har, DefB.nil⟩
      refine callsIn_of_wp_marks h1 h4 trivial ?_
      cases hxc : xcode X (xrun X B n) (xyield X B n) B F.body { t := xs ++ List.replicate (F.n - xs.length) .und, m := m, df := [] } with
      | none => rw [hxc] at h; cases h
      | some q =>
        obtain ⟨e, st⟩ := q
        rw [hxc] at h
        refine wpIn_mono (code_sound (r := none) (lo := fun k => w.heap.size ≤ k) hX hC hY hg hlk c F.body h5 (fun hq => by
          rcases hq with hq | ⟨k, hk, hq⟩
          · simp at hq
          · exact absurd hk hq) _ _ hxc _ w hst) fun x a' w' hp => ?_
        have norm : ∀ {a' : Act} {w' : World}, (match xleave X (xrun X B n) (xyield X B n) B st.df none st.m with
            | some (none, m) => (xres m st.t F.res).map fun vs => ({ out := .inl (xpack vs), m := m } : XR)
            | _ => none) = some r → StR E (fun k => w.heap.size ≤ k) g w st a' w' → LeavesInM (FZ none) 0 E.P fn a'.tmps (CallR g w r.out r.m) a'.defers .returning w' := by
          intro a' w' h hs
          obtain ⟨g', k1, k2, k3, k4⟩ := hs
          cases hxl : xleave X (xrun X B n) (xyield X B n) B st.df none st.m with
          | none => rw [hxl] at h; cases h
          | some q =>
            obtain ⟨p2, m2⟩ := q
            rw [hxl] at h
            cases p2 with
            | some v => cases h
            | none =>
              dsimp only at h
              obtain ⟨vs, q1, rfl⟩ := Option.map_eq_some_iff.1 h
              refine leave_sound hX hC hY (g0 := g) (w0 := w) (gs := g') (ws := w') (hg.mono k1.tole) (k1.lk.1.trans hlk) (fun g2 w2 u2 l1 l2 l3 l4 => ?_) _ _ _ _ _ _ _ _ k4 hxl k1 (G.le.refl _ _) (k1.lk.1.trans hlk) k2 rfl
              have hu2 : u2 = .returning := l4
              subst hu2
              obtain ⟨cv, r1, r2⟩ := results_sound h7 l3 (k3.mono l2) q1
              exact ⟨cv, r1, g2, l1, l3, cv, rfl, r2⟩
        cases e with
        | exit i => cases h
        | nrm =>
          obtain ⟨rfl, hs⟩ := hp
          exact norm h hs
        | ret =>
          obtain ⟨rfl, hs⟩ := hp
          exact norm h hs
        | pan v =>
          obtain ⟨cv, rfl, g', k1, k2, k4, k5⟩ := hp
          dsimp only at h
          cases hxl : xleave X (xrun X B n) (xyield X B n) B st.df (some v) st.m with
          | none => rw [hxl] at h; cases h
          | some q =>
            obtain ⟨p2, m2⟩ := q
            rw [hxl] at h
            refine leave_sound hX hC hY (g0 := g) (w0 := w) (gs := g') (ws := w') (hg.mono k1.tole) (k1.lk.1.trans hlk) (fun g2 w2 u2 l1 l2 l3 l4 => ?_) _ _ _ _ _ _ _ _ k4 hxl k1 (G.le.refl _ _) (k1.lk.1.trans hlk) k2 ⟨cv, rfl, k5⟩
            cases p2 with
            | none =>
              have hu2 : u2 = .returning := l4
              subst hu2
              dsimp only at h
              split at h <;> first | (cases h; done) | skip
              rename_i hres0
              simp only [Option.some.injEq] at h
              subst h
              have hresz : fn.results = #[] := by
                obtain ⟨q1, _, _⟩ := mapM_spec _ _ h7
                have hF0 : F.res = [] := by simpa using hres0
                rw [hF0] at q1
                exact Array.ext' (List.eq_nil_of_length_eq_zero (by simpa using q1.symm))
              exact ⟨.tuple #[], by simp [results, hresz], g2, l1, l3, _, rfl, .tup _ _ rfl fun i c hc => by simp at hc⟩
            | some v2 =>
              obtain ⟨cv2, rfl, r2⟩ := l4
              dsimp only at h
              simp only [Option.some.injEq] at h
              subst h
              exact ⟨g2, l1, l3, cv2, rfl, r2⟩

end
end Go.VC

