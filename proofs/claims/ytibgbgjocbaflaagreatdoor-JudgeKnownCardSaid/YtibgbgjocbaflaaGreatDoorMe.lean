/- The machine with calls that are known already: what it finds, the machine finds. -/
import Derived.Test.YtibgbgjocbaflaaGreatDoorMb
import Derived.Test.YtibgbgjocbaflaaGreatDoorMd
namespace Go.VC
open Go

/-- A call that is made apart: the function, the arguments, what comes back, and whether it comes back whatever the arguments were. -/
structure XEnt where
  f : Nat
  xs : List V
  r : V
  ok : Bool

def kfind (f : Nat) (xs : List V) : List XEnt → Option XEnt
  | [] => none
  | e :: t => bif Nat.beq e.f f && vbeqL e.xs xs then some e else kfind f xs t

def kC (P : XP) (T : List XEnt) (C : XCall) : XCall := fun f m xs => match P.fn f with
  | some F => bif F.pure then (match kfind f (xs.map (xfrz m 9)) T with
      | some e => bif e.ok || xs.all (xpure 9) then some ⟨.inl e.r, m⟩ else C f m xs
      | none => none) else C f m xs
  | none => none

def noPure (P : XP) : XP := { P with fn := fun f => (P.fn f).map fun F => { F with pure := false } }

mutual
def krun (P : XP) (T : List XEnt) (L : Nat) : Nat → Nat → XM → List V → Option XR
  | 0, _, _, _ => none
  | n + 1, f, m, xs => match P.fn f with
    | none => none
    | some F => match xcode (noPure P) (kC P T (krun P T L n)) (kyield P T L n) L F.body { t := xs ++ List.replicate (F.n - xs.length) .und, m := m, df := [] } with
      | some (.nrm, st) | some (.ret, st) => match xleave (noPure P) (kC P T (krun P T L n)) (kyield P T L n) L st.df none st.m with
        | some (none, m) => (xres m st.t F.res).map fun vs => { out := .inl (xpack vs), m := m }
        | _ => none
      | some (.pan v, st) => match xleave (noPure P) (kC P T (krun P T L n)) (kyield P T L n) L st.df (some v) st.m with
        | some (none, m) => if F.res.isEmpty then some { out := .inl (.tup []), m := m } else none
        | some (some v, m) => some { out := .inr v, m := m }
        | none => none
      | _ => none
def kyield (P : XP) (T : List XEnt) (L : Nat) : Nat → Nat → XM → List V → Option (Sum V V × XM)
  | 0, _, _, _ => none
  | n + 1, b, m, xs => xround (noPure P) (kC P T (krun P T L n)) (kyield P T L n) L b m xs
end

/-- This call is as it is told. -/
def kent (P : XP) (T : List XEnt) (L n : Nat) (e : XEnt) : Bool := match krun P T L n e.f [] e.xs with
  | some ⟨.inl v, m⟩ => vbeq (xfrz m 9 v) e.r && ((xflat 9 e.r || xfresh m 9 v) == e.ok)
  | _ => false
end Go.VC

/- What the machine finds with fewer calls known, it finds with more. -/
namespace Go.VC
open Go

structure MonoH (P1 P2 : XP) (C1 C2 : XCall) (Y1 Y2 : XYield) : Prop where
  gl : P1.gl = P2.gl
  fn : ∀ {f F}, P1.fn f = some F → ∃ F', P2.fn f = some F' ∧ F'.res = F.res ∧ F'.body = F.body ∧ F'.n = F.n
  call : ∀ {f m xs r}, xcallf P1 C1 f m xs = some r → xcallf P2 C2 f m xs = some r
  yld : ∀ {b m xs r}, Y1 b m xs = some r → Y2 b m xs = some r

section
variable {P1 P2 : XP} {C1 C2 : XCall} {Y1 Y2 : XYield} (H : MonoH P1 P2 C1 C2 Y1 Y2)
include H

theorem MonoH.ev : xev P1 = xev P2 := by
  funext t x
  cases x <;> simp [xev, H.gl]

theorem MonoH.calls {m : XM} {ev : XO → V} {o : XOp} {r : Sum V V × XM} (h : xcalls P1 C1 Y1 m ev o = some r) : xcalls P2 C2 Y2 m ev o = some r := by
  cases o with
  | call f xs => exact H.call h
  | cav f xs =>
    simp only [xcalls] at h ⊢
    split at h <;> first | (cases h; done) | skip
    · exact H.call h
    · exact H.yld h
  | inv tab x xs =>
    simp only [xcalls] at h ⊢
    split at h <;> first | (cases h; done) | skip
    split at h <;> first | (cases h; done) | skip
    exact H.call h
  | _ => cases h

theorem MonoH.step {st : XSt} {o : XI} {r : Sum Unit V × XSt} (h : xstep P1 C1 Y1 st o = some r) : xstep P2 C2 Y2 st o = some r := by
  unfold xstep at h ⊢
  rw [← H.ev]
  cases hc : o.op.isCall
  · simp only [hc, cond_false] at h ⊢; exact h
  · simp only [hc, cond_true] at h ⊢
    cases hk : xcalls P1 C1 Y1 st.m (xev P1 st.t) o.op with
    | none => rw [hk] at h; cases h
    | some q => rw [hk] at h; rw [H.calls hk]; exact h

theorem MonoH.ops {l : List XI} : ∀ {st : XSt} {r : XE × XSt}, xops P1 C1 Y1 l st = some r → xops P2 C2 Y2 l st = some r := by
  induction l with
  | nil => intro st r h; exact h
  | cons o l ih =>
    intro st r h
    simp only [xops] at h ⊢
    split at h <;> first | (cases h; done) | skip
    · cases hk : xstep P1 C1 Y1 st o with
      | none => rw [hk] at h; cases h
      | some q =>
        rw [hk] at h; rw [H.step hk]
        obtain ⟨q | q, st'⟩ := q
        · exact ih h
        · exact h
    · exact ih h

theorem MonoH.quiet {l : List (Nat × XI)} : ∀ {live : XLv} {st : XSt} {r : XLv × XSt}, xquiet P1 l live st = some r → xquiet P2 l live st = some r := by
  induction l with
  | nil => intro live st r h; exact h
  | cons o l ih =>
    intro live st r h
    obtain ⟨i, o⟩ := o
    simp only [xquiet] at h ⊢
    rw [← H.ev]
    split at h <;> first | (cases h; done) | skip
    · split at h <;> first | (cases h; done) | skip
      exact ih h
    · exact ih h

theorem MonoH.same {m : XM} (x : Nat × List V × XI × V) : xsame P1 m x = xsame P2 m x := by
  unfold xsame; rw [H.ev]

theorem MonoH.effect {e : XI} {keep : List Nat} {live : XLv} {st : XSt} {r : XLv × XSt} (h : xeffect P1 C1 Y1 e keep live st = some r) : xeffect P2 C2 Y2 e keep live st = some r := by
  unfold xeffect at h ⊢
  split at h <;> first | (cases h; done) | skip
  · cases hk : xstep P1 C1 Y1 st e with
    | none => rw [hk] at h; cases h
    | some q =>
      rw [hk] at h; rw [H.step hk]
      obtain ⟨q | q, st'⟩ := q
      · simp only at h ⊢
        have : xsame P1 = xsame P2 := by funext m x; exact H.same x
        rw [← this]; exact h
      · exact h
  · exact h

theorem MonoH.drw {d : XD} : ∀ {live : XLv} {st : XSt} {r : XSt}, xdrw P1 C1 Y1 d live st = some r → xdrw P2 C2 Y2 d live st = some r := by
  induction d with
  | fin qs =>
    intro live st r h
    simp only [xdrw] at h ⊢
    cases hk : xquiet P1 qs live st with
    | none => rw [hk] at h; cases h
    | some q => rw [hk] at h; rw [H.quiet hk]; exact h
  | one qs i e keep d ih =>
    intro live st r h
    simp only [xdrw] at h ⊢
    cases hk : xquiet P1 qs live st with
    | none => rw [hk] at h; cases h
    | some q =>
      rw [hk] at h; rw [H.quiet hk]
      simp only at h ⊢
      cases hk : xeffect P1 C1 Y1 e keep q.1 q.2 with
      | none => rw [hk] at h; cases h
      | some q => rw [hk] at h; rw [H.effect hk]; exact ih h
  | two qs i a ka j b kb =>
    intro live st r h
    simp only [xdrw] at h ⊢
    cases hk : xquiet P1 qs live st with
    | none => rw [hk] at h; cases h
    | some q =>
      rw [hk] at h; rw [H.quiet hk]
      obtain ⟨live, st⟩ := q
      simp only at h ⊢
      have hap : xapart P2 st.t a b = xapart P1 st.t a b := by unfold xapart; rw [H.ev]
      rw [hap]
      cases hap2 : xapart P1 st.t a b
      · rw [hap2] at h; simp at h
      rw [hap2] at h
      cases hkb : xeffect P1 C1 Y1 b kb live st with
      | none => rw [hkb] at h; simp at h
      | some qb =>
        rw [hkb] at h; rw [H.effect hkb]
        simp only [Bool.true_and] at h ⊢
        cases hka : xeffect P1 C1 Y1 a ka qb.1 qb.2 with
        | none => rw [hka] at h; simp at h
        | some qa =>
          rw [hka] at h; rw [H.effect hka]
          simp only [Option.isSome_some, cond_true] at h ⊢
          cases hk : xeffect P1 C1 Y1 a ka live st with
          | none => rw [hk] at h; cases h
          | some q =>
            rw [hk] at h; rw [H.effect hk]
            simp only at h ⊢
            cases hk : xeffect P1 C1 Y1 b kb q.1 q.2 with
            | none => rw [hk] at h; cases h
            | some q => rw [hk] at h; rw [H.effect hk]; exact h

omit H in
theorem xiter_mono {b1 b2 : XSt → Option (XE × XSt)} (hb : ∀ {st r}, b1 st = some r → b2 st = some r) : ∀ (n : Nat) {st : XSt} {r : XE × XSt}, xiter b1 n st = some r → xiter b2 n st = some r := by
  intro n
  induction n with
  | zero => intro st r h; cases h
  | succ n ih =>
    intro st r h
    simp only [xiter] at h ⊢
    cases hk : b1 st with
    | none => rw [hk] at h; cases h
    | some q =>
      rw [hk] at h; rw [hb hk]
      obtain ⟨e, st'⟩ := q
      cases e <;> first | exact ih h | exact h

theorem MonoH.code {L : Nat} {c : XC} : ∀ {st : XSt} {r : XE × XSt}, xcode P1 C1 Y1 L c st = some r → xcode P2 C2 Y2 L c st = some r := by
  induction c with
  | skip => intro st r h; exact h
  | reg ops => intro st r h; exact H.ops h
  | drw d =>
    intro st r h
    simp only [xcode] at h ⊢
    cases hk : xdrw P1 C1 Y1 d [] st with
    | none => rw [hk] at h; cases h
    | some q => rw [hk] at h; rw [H.drw hk]; exact h
  | seq a b iha ihb =>
    intro st r h
    simp only [xcode] at h ⊢
    cases hk : xcode P1 C1 Y1 L a st with
    | none => rw [hk] at h; cases h
    | some q =>
      rw [hk] at h; rw [iha hk]
      obtain ⟨e, st'⟩ := q
      cases e <;> first | exact ihb h | exact h
  | cond c a b iha ihb =>
    intro st r h
    simp only [xcode] at h ⊢
    rw [← H.ev]
    split at h <;> first | (cases h; done) | exact iha h | exact ihb h
  | block id b ih =>
    intro st r h
    simp only [xcode] at h ⊢
    cases hk : xcode P1 C1 Y1 L b st with
    | none => rw [hk] at h; cases h
    | some q => rw [hk] at h; rw [ih hk]; exact h
  | loop b ih => intro st r h; exact xiter_mono (fun h => ih h) L h
  | exit id => intro st r h; exact h
  | ret => intro st r h; exact h
  | rfn f ps a b iha ihb =>
    intro st r h
    simp only [xcode] at h ⊢
    rw [← H.ev]
    split at h <;> first | (cases h; done) | skip
    rename_i n first caps hf
    cases hk : xcallf P1 C1 n (st.m ++ [.loop 0 none st.t ps a b]) (first ++ (.fn (.yield st.m.length) [] [] :: caps)) with
    | none => rw [hk] at h; cases h
    | some q => rw [hk] at h; rw [H.call hk]; exact h
  | bad => intro st r h; cases h

theorem MonoH.codeS {L : Nat} {c : XC} : ∀ {st : XSt} {p : Option V} {r : XE × XSt × Option V}, xcodeS P1 C1 Y1 L c st p = some r → xcodeS P2 C2 Y2 L c st p = some r := by
  have key : ∀ (c : XC) {st : XSt} {p : Option V} {r : XE × XSt × Option V}, ((xcode P1 C1 Y1 L c st).map fun (e, st) => (e, st, p)) = some r → ((xcode P2 C2 Y2 L c st).map fun (e, st) => (e, st, p)) = some r := by
    intro c st p r h
    cases hk : xcode P1 C1 Y1 L c st with
    | none => rw [hk] at h; cases h
    | some q => rw [hk] at h; rw [H.code hk]; exact h
  induction c with
  | seq a b iha ihb =>
    intro st p r h
    simp only [xcodeS] at h ⊢
    cases hk : xcodeS P1 C1 Y1 L a st p with
    | none => rw [hk] at h; cases h
    | some q =>
      rw [hk] at h; rw [iha hk]
      obtain ⟨e, st', p'⟩ := q
      cases e <;> first | exact ihb h | exact h
  | reg ops =>
    intro st p r h
    rcases ops with _ | ⟨⟨dst, op, grd⟩, _ | ⟨o2, ops⟩⟩
    · exact key _ h
    · cases op <;> cases grd <;> first | exact key _ h | exact h
    · cases op <;> cases grd <;> exact key _ h
  | _ => intro st p r h; exact key _ h

theorem MonoH.def {L f : Nat} {p : Option V} {m : XM} {xs : List V} {r : Option V × XM} (h : xdef P1 C1 Y1 L f p m xs = some r) : xdef P2 C2 Y2 L f p m xs = some r := by
  unfold xdef at h ⊢
  cases hf : P1.fn f with
  | none => rw [hf] at h; cases h
  | some F =>
    obtain ⟨F', h1, h2, h3, h4⟩ := H.fn hf
    rw [hf] at h; rw [h1]
    simp only [h2, h3, h4] at h ⊢
    split at h <;> first | (cases h; done) | skip
    rename_i hc
    rw [if_pos hc]
    cases hk : xcodeS P1 C1 Y1 L F.body { t := xs ++ List.replicate (F.n - xs.length) .und, m := m, df := [] } p with
    | none => rw [hk] at h; cases h
    | some q => rw [hk] at h; rw [H.codeS hk]; exact h

theorem MonoH.leave {L : Nat} {l : List (Nat × List V)} : ∀ {p : Option V} {m : XM} {r : Option V × XM}, xleave P1 C1 Y1 L l p m = some r → xleave P2 C2 Y2 L l p m = some r := by
  induction l with
  | nil => intro p m r h; exact h
  | cons o l ih =>
    intro p m r h
    obtain ⟨f, xs⟩ := o
    simp only [xleave] at h ⊢
    cases hk : xdef P1 C1 Y1 L f p m xs with
    | none => rw [hk] at h; cases h
    | some q => rw [hk] at h; rw [H.def hk]; exact ih h

theorem MonoH.round {L b : Nat} {m : XM} {xs : List V} {r : Sum V V × XM} (h : xround P1 C1 Y1 L b m xs = some r) : xround P2 C2 Y2 L b m xs = some r := by
  unfold xround at h ⊢
  split at h <;> first | (cases h; done) | skip
  rename_i pd t ps a body hm
  cases hb : Nat.beq xs.length ps.length
  · rw [hb] at h; cases h
  rw [hb] at h
  simp only [cond_true] at h ⊢
  cases hk : xcode P1 C1 Y1 L a { t := xzip t ps xs, m := m, df := [] } with
  | none => rw [hk] at h; cases h
  | some q =>
    rw [hk] at h; rw [H.code hk]
    obtain ⟨e, st⟩ := q
    cases e <;> first | (cases h; done) | skip
    simp only at h ⊢
    split at h <;> first | (cases h; done) | skip
    rename_i p2 t2 ps2 a2 b2 hm2
    cases hk : xcode P1 C1 Y1 L body { st with m := st.m.set b (.loop 1 p2 t2 ps2 a2 b2) } with
    | none => rw [hk] at h; cases h
    | some q => rw [hk] at h; rw [H.code hk]; exact h

end

/-- The call is as it is told, however deep the machine may go from some depth on. -/
def XEnt.holds (P : XP) (L : Nat) (e : XEnt) : Prop := ∃ N, ∀ n, N ≤ n → ∃ v m', xrun P L n e.f [] e.xs = some ⟨.inl v, m'⟩ ∧ xfrz m' 9 v = e.r ∧ (xflat 9 e.r || xfresh m' 9 v) = e.ok

theorem kfind_spec {f : Nat} {xs : List V} : ∀ {T : List XEnt} {e : XEnt}, kfind f xs T = some e → e ∈ T ∧ e.f = f ∧ e.xs = xs
  | [], e, h => by cases h
  | a :: t, e, h => by
    simp only [kfind] at h
    cases hc : Nat.beq a.f f && vbeqL a.xs xs
    · rw [hc] at h
      obtain ⟨h1, h2⟩ := kfind_spec (T := t) h
      exact ⟨List.mem_cons_of_mem _ h1, h2⟩
    · rw [hc] at h
      simp only [cond_true, Option.some.injEq] at h
      subst h
      simp only [Bool.and_eq_true] at hc
      exact ⟨List.mem_cons_self, Nat.eq_of_beq_eq_true hc.1, vbeqL_eq _ _ hc.2⟩

theorem kC_sound {P : XP} {T : List XEnt} {C : XCall} {Cx : XCall} (hT : ∀ e ∈ T, ∃ v m', Cx e.f [] e.xs = some ⟨.inl v, m'⟩ ∧ xfrz m' 9 v = e.r ∧ (xflat 9 e.r || xfresh m' 9 v) = e.ok)
    (hC : ∀ {f m xs r}, C f m xs = some r → Cx f m xs = some r) {f : Nat} {m : XM} {xs : List V} {r : Sum V V × XM} (h : xcallf (noPure P) (kC P T C) f m xs = some r) : xcallf P Cx f m xs = some r := by
  have hmap : ∀ {r : Sum V V × XM}, (C f m xs).map (fun r => (r.out, r.m)) = some r → (Cx f m xs).map (fun r => (r.out, r.m)) = some r := by
    intro r h
    cases hk : C f m xs with
    | none => rw [hk] at h; cases h
    | some q => rw [hk] at h; rw [hC hk]; exact h
  unfold xcallf at h ⊢
  cases hf : P.fn f with
  | none => simp only [noPure, hf, Option.map_none] at h ⊢; exact h
  | some F =>
    simp only [noPure, hf, Option.map_some, cond_false] at h ⊢
    simp only [kC, hf] at h
    cases hp : F.pure
    · simp only [hp, cond_false] at h ⊢
      exact hmap h
    · simp only [hp, cond_true] at h ⊢
      cases hk : kfind f (xs.map (xfrz m 9)) T with
      | none => rw [hk] at h; cases h
      | some e =>
        rw [hk] at h
        simp only at h
        obtain ⟨h1, h2, h3⟩ := kfind_spec hk
        obtain ⟨v, m', h4, h5, h6⟩ := hT e h1
        rw [h2, h3] at h4
        have hx : xcallp Cx f m xs = if e.ok = true ∨ xs.all (xpure 9) = true then some (.inl e.r, m) else none := by
          unfold xcallp
          rw [h4]
          simp only [h5, ← h6, Bool.or_eq_true]
          congr 1
          apply propext
          constructor
          · rintro ((a | a) | a)
            · exact .inl (.inl a)
            · exact .inr a
            · exact .inl (.inr a)
          · rintro ((a | a) | a)
            · exact .inl (.inl a)
            · exact .inr a
            · exact .inl (.inr a)
        rw [hx]
        cases hq : e.ok || xs.all (xpure 9)
        · rw [hq] at h
          rw [if_neg (by simpa [Bool.or_eq_false_iff] using hq)]
          exact hmap h
        · rw [hq] at h
          rw [if_pos (by simpa [Bool.or_eq_true] using hq)]
          exact h

theorem krun_sound {P : XP} {T : List XEnt} {L N : Nat} (hT : ∀ e ∈ T, ∀ n, N ≤ n → ∃ v m', xrun P L n e.f [] e.xs = some ⟨.inl v, m'⟩ ∧ xfrz m' 9 v = e.r ∧ (xflat 9 e.r || xfresh m' 9 v) = e.ok) : ∀ (n : Nat),
    (∀ {f m xs r}, krun P T L n f m xs = some r → ∀ k, n + N ≤ k → xrun P L k f m xs = some r) ∧ (∀ {b m xs r}, kyield P T L n b m xs = some r → ∀ k, n + N ≤ k → xyield P L k b m xs = some r) := by
  intro n
  induction n with
  | zero => exact ⟨fun h => by simp [krun] at h, fun h => by simp [kyield] at h⟩
  | succ n ih =>
    have hM : ∀ k, n + N ≤ k → MonoH (noPure P) P (kC P T (krun P T L n)) (xrun P L k) (kyield P T L n) (xyield P L k) := fun k hk =>
      { gl := rfl
        fn := fun {f F} h => by
          simp only [noPure, Option.map_eq_some_iff] at h
          obtain ⟨F', h1, rfl⟩ := h
          exact ⟨F', h1, rfl, rfl, rfl⟩
        call := fun h => kC_sound (fun e he => hT e he k (by omega)) (fun h => ih.1 h k hk) h
        yld := fun h => ih.2 h k hk }
    refine ⟨fun {f m xs r} h k hk => ?_, fun {b m xs r} h k hk => ?_⟩
    · obtain ⟨k, rfl⟩ : ∃ k', k = k' + 1 := ⟨k - 1, by omega⟩
      have H := hM k (by omega)
      simp only [krun] at h
      simp only [xrun]
      cases hf : P.fn f with
      | none => rw [hf] at h; cases h
      | some F =>
        rw [hf] at h
        simp only at h ⊢
        cases hc : xcode (noPure P) (kC P T (krun P T L n)) (kyield P T L n) L F.body { t := xs ++ List.replicate (F.n - xs.length) .und, m := m, df := [] } with
        | none => rw [hc] at h; cases h
        | some q =>
          rw [hc] at h; rw [H.code hc]
          obtain ⟨e, st⟩ := q
          have hl : ∀ p, ∀ {z}, xleave (noPure P) (kC P T (krun P T L n)) (kyield P T L n) L st.df p st.m = some z → xleave P (xrun P L k) (xyield P L k) L st.df p st.m = some z := fun p {z} h => H.leave h
          cases e with
          | nrm =>
            simp only at h ⊢
            cases hk2 : xleave (noPure P) (kC P T (krun P T L n)) (kyield P T L n) L st.df none st.m with
            | none => rw [hk2] at h; cases h
            | some z => rw [hk2] at h; rw [hl _ hk2]; exact h
          | ret =>
            simp only at h ⊢
            cases hk2 : xleave (noPure P) (kC P T (krun P T L n)) (kyield P T L n) L st.df none st.m with
            | none => rw [hk2] at h; cases h
            | some z => rw [hk2] at h; rw [hl _ hk2]; exact h
          | pan v =>
            simp only at h ⊢
            cases hk2 : xleave (noPure P) (kC P T (krun P T L n)) (kyield P T L n) L st.df (some v) st.m with
            | none => rw [hk2] at h; cases h
            | some z => rw [hk2] at h; rw [hl _ hk2]; exact h
          | exit i => cases h
    · obtain ⟨k, rfl⟩ : ∃ k', k = k' + 1 := ⟨k - 1, by omega⟩
      have H := hM k (by omega)
      simp only [kyield] at h
      simp only [xyield]
      exact H.round h

theorem XEnt.common {P : XP} {L : Nat} : ∀ {T : List XEnt}, (∀ e ∈ T, e.holds P L) → ∃ N, ∀ e ∈ T, ∀ n, N ≤ n → ∃ v m', xrun P L n e.f [] e.xs = some ⟨.inl v, m'⟩ ∧ xfrz m' 9 v = e.r ∧ (xflat 9 e.r || xfresh m' 9 v) = e.ok
  | [], _ => ⟨0, fun _ h => by cases h⟩
  | a :: t, h => by
    obtain ⟨N, hN⟩ := XEnt.common (fun e he => h e (List.mem_cons_of_mem _ he))
    obtain ⟨M, hM⟩ := h a List.mem_cons_self
    refine ⟨N + M, fun e he n hn => ?_⟩
    rcases List.mem_cons.1 he with rfl | he
    · exact hM n (by omega)
    · exact hN e he n (by omega)

/-- A call is as it is told, if those that it makes are. -/
theorem kent_holds {P : XP} {T : List XEnt} {L n : Nat} {e : XEnt} (hk : kent P T L n e = true) (hT : ∀ x ∈ T, x.holds P L) : e.holds P L := by
  obtain ⟨N, hN⟩ := XEnt.common hT
  refine ⟨n + N, fun k hk2 => ?_⟩
  unfold kent at hk
  split at hk <;> first | (cases hk; done) | skip
  rename_i v m hr
  simp only [Bool.and_eq_true, beq_iff_eq] at hk
  exact ⟨v, m, (krun_sound hN n).1 hr k hk2, vbeq_eq _ _ hk.1, hk.2⟩

end Go.VC

/- The machine again, made for evaluation: temporaries and memory are trees. -/
namespace Go.VC.K
open Go Go.VC

inductive KT (α : Type) where
  | leaf (v : α)
  | node (l r : KT α)

noncomputable section
variable {α : Type}

def KT.get (d : α) (t : KT α) : Nat → α := KT.rec (motive := fun _ => Nat → α) (fun v i => Bool.rec d v (Nat.beq i 0)) (fun _ _ gl gr i => Bool.rec (gr (Nat.div i 2)) (gl (Nat.div i 2)) (Nat.beq (Nat.mod i 2) 0)) t
def KT.set (t : KT α) : Nat → α → KT α := KT.rec (motive := fun _ => Nat → α → KT α) (fun v i x => Bool.rec (.leaf v) (.leaf x) (Nat.beq i 0)) (fun l r sl sr i x => Bool.rec (.node l (sr (Nat.div i 2) x)) (.node (sl (Nat.div i 2) x) r) (Nat.beq (Nat.mod i 2) 0)) t
def KT.has (t : KT α) : Nat → Bool := KT.rec (motive := fun _ => Nat → Bool) (fun _ i => Nat.beq i 0) (fun _ _ gl gr i => Bool.rec (gr (Nat.div i 2)) (gl (Nat.div i 2)) (Nat.beq (Nat.mod i 2) 0)) t
def KT.full (d : α) (n : Nat) : KT α := Nat.rec (.leaf d) (fun _ t => .node t t) n

/-- The memory. -/
structure KM where
  t : KT (Option XObj)
  len : Nat
  cap : Nat

def KM.get (m : KM) (b : Nat) : Option XObj := m.t.get none b
def KM.set (m : KM) (b : Nat) (o : XObj) : KM := ⟨m.t.set b (some o), m.len, m.cap⟩
def KM.push (m : KM) (o : XObj) : KM := ⟨m.t.set m.len (some o), Nat.succ m.len, m.cap⟩

/-- Does it fit? -/
def kfit {α : Type} (r : Option (α × KM)) : Option (α × KM) := match r with
  | some (v, m) => Bool.rec none (some (v, m)) (Nat.ble m.len m.cap)
  | none => none

structure KSt where
  t : KT V
  m : KM
  df : List (Nat × List V)

abbrev KCallT := Nat → KM → List V → Option (Sum V V × KM)
abbrev KYieldT := Nat → KM → List V → Option (Sum V V × KM)

def kgl (P : XP) (n : Nat) : V := match P.gl n with
  | some cs => .pref cs
  | none => .und

def kev (P : XP) (t : KT V) (x : XO) : V := XO.rec (motive := fun _ => V) (fun i => t.get .und i) (fun v => v) (kgl P) x

def kadd : V → V → Option V
  | .int k a, .int k' b => if k = k' then some (.int k (k.wrap (a + b))) else none
  | .str a, .str b => if a.length + b.length ≤ 9223372036854775807 then some (.str (a ++ b)) else none
  | _, _ => none
def ksub : V → V → Option V
  | .int k a, .int k' b => if k = k' then some (.int k (k.wrap (a - b))) else none
  | _, _ => none
def klss : V → V → Option V
  | .int k a, .int k' b => if k = k' then some (.bool (decide (a < b))) else none
  | _, _ => none
def kleq : V → V → Option V
  | .int k a, .int k' b => if k = k' then some (.bool (decide (a ≤ b))) else none
  | _, _ => none
def kgtr : V → V → Option V
  | .int k a, .int k' b => if k = k' then some (.bool (decide (b < a))) else none
  | _, _ => none
def kgeq : V → V → Option V
  | .int k a, .int k' b => if k = k' then some (.bool (decide (b ≤ a))) else none
  | _, _ => none
def kari : BinOp → V → V → Option V
  | .add => kadd
  | .sub => ksub
  | .lss => klss
  | .leq => kleq
  | .gtr => kgtr
  | .geq => kgeq
  | op => xari op

/-! ### What a value is once nobody writes the own blocks any more -/
def kcells (look : Nat → Option XObj) (s : Nat) : V → Option (Nat × List V)
  | .psl rows => if rows.all fun r => decide (r.cells.length = s) && xone r.cells then some (rows.length, (rows.map V.cells).flatten) else none
  | .nsl => some (0, [])
  | .sl b e off len _ => match look b with
    | some (.row cells _ _ sz ep) => if ep = e ∧ sz = s ∧ off + len * s ≤ cells.length then
        (let cs := (cells.drop off).take (len * s); if xone cs then some (len, cs) else none) else none
    | _ => none
  | _ => none

def kfrz (look : Nat → Option XObj) : Nat → V → V
  | n + 1, .agg cs => .agg (cs.map (kfrz look n))
  | n + 1, .tup cs => .tup (cs.map (kfrz look n))
  | n + 1, .ifc t v => .ifc t (kfrz look n v)
  | n + 1, .fn (.func f) xs ys => .fn (.func f) (xs.map (kfrz look n)) (ys.map (kfrz look n))
  | n + 1, .sl b e off len _ => match look b with
    | some (.row cells _ ag sz ep) => if ep = e ∧ off + len * sz ≤ cells.length ∧ sz ≠ 0 ∧ (ag = true ∨ sz = 1) then .psl (xchunks ag sz len (((cells.drop off).take (len * sz)).map (kfrz look n))) else .und
    | _ => .und
  | n + 1, .ptr b e off => match look b with
    | some (.row cells _ _ _ ep) => if ep = e then .pref ((cells.drop off).map (kfrz look n)) else .und
    | _ => .und
  | n + 1, .map b => match look b with
    | some (.map es _) => .pmap (es.map fun e => kfrz look n e.1) (es.map fun e => kfrz look n e.2.1)
    | _ => .und
  | _, .nsl => .nsl
  | _, .int k n => .int k n
  | _, .bool b => .bool b
  | _, .str s => .str s
  | _, .psl rows => .psl rows
  | _, .pmap ks vs => .pmap ks vs
  | _, .pref cs => .pref cs
  | _, .nptr => .nptr
  | _, .nmap => .nmap
  | _, .nfn => .nfn
  | _, .nifc => .nifc
  | _, _ => .und


def kfresh (look : Nat → Option XObj) : Nat → V → Bool
  | _, .int _ _ | _, .bool _ | _, .str _ | _, .nptr | _, .nmap | _, .nfn | _, .nifc | _, .nsl => true
  | _, .psl [] => true
  | n + 1, .agg cs => cs.all (kfresh look n)
  | n + 1, .tup cs => cs.all (kfresh look n)
  | n + 1, .ifc _ v => kfresh look n v
  | n + 1, .fn (.func _) xs ys => xs.all (kfresh look n) && ys.all (kfresh look n)
  | n + 1, .sl b _ off len _ => match look b with
    | some (.row cells _ _ sz _) => ((cells.drop off).take (len * sz)).all (kfresh look n)
    | _ => false
  | n + 1, .ptr b _ off => match look b with
    | some (.row cells _ _ _ _) => (cells.drop off).all (kfresh look n)
    | _ => false
  | n + 1, .map b => match look b with
    | some (.map es _) => es.all fun e => kfresh look n e.1 && kfresh look n e.2.1
    | _ => false
  | _, _ => false


def ksplice (L : XL) (m : KM) (a : V) (i j : Int) (k : Nat) (ys : List V) : Option (V × KM) :=
  match a with
  | .nsl => if i = 0 ∧ j = 0 ∧ k ≤ 1073741824 ∧ k * L.by_ ≤ 140737488355328 then some (.sl m.len 0 0 k none, m.push (.row ys L.el L.ag L.s 0)) else none
  | .sl b e off len _ => match m.get b with
    | some (.row cells ty ag sz ep) => if ep = e ∧ sz = L.s ∧ ty = L.el ∧ off + len * sz ≤ cells.length ∧ 0 ≤ i ∧ i ≤ j ∧ j ≤ len ∧ len + k ≤ 1073741824 ∧ (len + k) * L.by_ ≤ 140737488355328 then
        (let cs := (cells.drop off).take (len * sz)
         some (.sl b (e + 1) 0 (len + k - (j.toNat - i.toNat)) none, m.set b (.row (cs.take (i.toNat * sz) ++ (ys ++ cs.drop (j.toNat * sz))) ty ag sz (e + 1)))) else none
    | _ => none
  | _ => none

def klib (L : XL) (m : KM) (xs : List V) : Option (V × KM) :=
  match L.k, xs with
  | .clone, [a] => match kcells m.get L.s a with
    | some (0, _) => some (.nsl, m)
    | some (k, ys) => if k ≤ 1073741824 ∧ k * L.by_ ≤ 140737488355328 then some (.sl m.len 0 0 k none, m.push (.row ys L.el L.ag L.s 0)) else none
    | none => none
  | .insert, [a, .int .i64 i, v] => if i = vlen a then (kcells m.get L.s v).bind fun (k, ys) => ksplice L m a i i k ys else none
  | .replace, [a, .int .i64 i, .int .i64 j, v] => (kcells m.get L.s v).bind fun (k, ys) => if i < j ∧ (j = vlen a ∧ k = 0 ∨ j < vlen a ∧ i + k = j ∧ (kcells m.get L.s a).isSome = true) then ksplice L m a i j k ys else none
  | .grow, [.nsl, .int .i64 n] => if 0 ≤ n ∧ n ≤ 1048576 ∧ n * L.by_ ≤ 140737488355328 then some (.sl m.len 0 0 0 none, m.push (.row [] L.el L.ag L.s 0)) else none
  | _, _ => none


def kMvO (x : XO) (m : KM) (ev : XO → V) : Option (V × KM) := some (ev x, m)
def kPickO (c : XO) (a : XO) (b : XO) (m : KM) (ev : XO → V) : Option (V × KM) := match ev c with
    | .bool c => some (if c then ev a else ev b, m)
    | _ => none
def kAriO (op : BinOp) (x : XO) (y : XO) (m : KM) (ev : XO → V) : Option (V × KM) := (kari op (ev x) (ev y)).map fun v => (v, m)
def kEqO (neg : Bool) (k : XK) (x : XO) (y : XO) (m : KM) (ev : XO → V) : Option (V × KM) := (xeq k (ev x) (ev y)).map fun b => (.bool (b != neg), m)
def kNotO (x : XO) (m : KM) (ev : XO → V) : Option (V × KM) := match ev x with
    | .bool b => some (.bool (!b), m)
    | _ => none
def kNegO (x : XO) (m : KM) (ev : XO → V) : Option (V × KM) := match ev x with
    | .int k n => some (.int k (k.wrap (0 - n)), m)
    | _ => none
def kXorO (x : XO) (m : KM) (ev : XO → V) : Option (V × KM) := match ev x with
    | .int k n => (xari .xor (.int k (if k.signed then -1 else k.max)) (.int k n)).map fun v => (v, m)
    | _ => none
def kCviO (k : IntKind) (x : XO) (m : KM) (ev : XO → V) : Option (V × KM) := match ev x with
    | .int _ n => some (.int k (k.wrap n), m)
    | _ => none
def kCvsO (x : XO) (m : KM) (ev : XO → V) : Option (V × KM) := match ev x with
    | .str s => some (.str s, m)
    | _ => none
def kCvbO (x : XO) (m : KM) (ev : XO → V) : Option (V × KM) := match kcells m.get 1 (ev x) with
    | some (_, cs) => (xbytes cs).map fun l => (.str l, m)
    | none => none
def kIfcO (t : Nat) (x : XO) (m : KM) (ev : XO → V) : Option (V × KM) := some (.ifc t (ev x), m)
def kFncO (f : Nat) (xs : List XO) (ys : List XO) (m : KM) (ev : XO → V) : Option (V × KM) := some (.fn (.func f) (xs.map ev) (ys.map ev), m)
def kExtO (x : XO) (i : Nat) (m : KM) (ev : XO → V) : Option (V × KM) := match ev x with
    | .tup vs => (vs[i]?).map fun v => (v, m)
    | _ => none
def kFldO (ag : Bool) (s : Nat) (off : Nat) (x : XO) (m : KM) (ev : XO → V) : Option (V × KM) := match ev x with
    | .agg cs => (xpart ag s cs off).map fun v => (v, m)
    | _ => none
def kFadO (off : Nat) (x : XO) (m : KM) (ev : XO → V) : Option (V × KM) := match ev x with
    | .pref cs => some (.pref (cs.drop off), m)
    | .ptr b e o => some (.ptr b e (o + off), m)
    | _ => none
def kIasO (s : Nat) (x : XO) (i : XO) (m : KM) (ev : XO → V) : Option (V × KM) := match ev x, ev i with
    | .psl rows, .int _ i => if 0 ≤ i then (match rows[i.toNat]? with
        | some r => if r.cells.length = s then some (.pref r.cells, m) else none
        | none => none) else none
    | .sl b e off len _, .int _ i => match m.get b with
      | some (.row _ _ _ _ ep) => if ep = e ∧ 0 ≤ i ∧ i < len then some (.ptr b e (off + i.toNat * s), m) else none
      | _ => none
    | _, _ => none
def kIaaO (n : Nat) (s : Nat) (x : XO) (i : XO) (m : KM) (ev : XO → V) : Option (V × KM) := match ev x, ev i with
    | .pref cs, .int _ i => if 0 ≤ i ∧ i < n then some (.pref (cs.drop (i.toNat * s)), m) else none
    | .ptr b e o, .int _ i => if 0 ≤ i ∧ i < n then some (.ptr b e (o + i.toNat * s), m) else none
    | _, _ => none
def kIxaO (n : Nat) (ag : Bool) (s : Nat) (x : XO) (i : XO) (m : KM) (ev : XO → V) : Option (V × KM) := match ev x, ev i with
    | .agg cs, .int _ i => if 0 ≤ i ∧ i < n then (xpart ag s cs (i.toNat * s)).map fun v => (v, m) else none
    | _, _ => none
def kIxsO (x : XO) (i : XO) (m : KM) (ev : XO → V) : Option (V × KM) := match ev x, ev i with
    | .str l, .int _ i => if 0 ≤ i then (l[i.toNat]?).map fun c => (.int .u8 c.toNat, m) else none
    | _, _ => none
def kSlsO (x : XO) (lo : Option XO) (hi : Option XO) (mx : Option XO) (m : KM) (ev : XO → V) : Option (V × KM) := match ev x with
    | .str l => match xbounds l.length (lo.map ev) (hi.map ev) (mx.map ev) with
      | some (a, b, none) => some (.str ((l.take b).drop a), m)
      | _ => none
    | _ => none
def kSllO (s : Nat) (x : XO) (lo : Option XO) (hi : Option XO) (mx : Option XO) (m : KM) (ev : XO → V) : Option (V × KM) := match ev x with
    | .psl rows => match xbounds rows.length (lo.map ev) (hi.map ev) (mx.map ev) with
      | some (a, b, c) => if c = some a then some (.nsl, m) else if (rows.headD .und).cells.length = s ∨ rows = [] then some (.psl ((rows.take b).drop a), m) else none
      | none => none
    | .nsl => match xbounds 0 (lo.map ev) (hi.map ev) (mx.map ev) with
      | some _ => some (.nsl, m)
      | none => none
    | .sl b e off len cap => match m.get b with
      | some (.row _ _ _ sz ep) => if ep = e ∧ sz = s then (match xbounds len (lo.map ev) (hi.map ev) (mx.map ev) with
          | some (a, b', c) => some (if xcap cap c = some a then .nsl else .sl b e (off + a * s) (b' - a) ((xcap cap c).map (· - a)), m)
          | none => none) else none
      | _ => none
    | _ => none
def kNilcO (x : XO) (m : KM) (ev : XO → V) : Option (V × KM) := match ev x with
    | .pref cs => some (.pref cs, m)
    | .ptr b e o => some (.ptr b e o, m)
    | _ => none
def kBldO (z : List V) (parts : List (Nat × Nat × XO)) (m : KM) (ev : XO → V) : Option (V × KM) := (xbuild z (parts.map fun (o, s, x) => (o, s, ev x))).map fun r => (.agg r, m)
def kLensO (x : XO) (m : KM) (ev : XO → V) : Option (V × KM) := match ev x with
    | .str l => some (.int .i64 l.length, m)
    | _ => none
def kLenO (x : XO) (m : KM) (ev : XO → V) : Option (V × KM) := match ev x with
    | .psl rows => some (.int .i64 rows.length, m)
    | .nsl => some (.int .i64 0, m)
    | .sl _ _ _ n _ => some (.int .i64 n, m)
    | _ => none
def kLenaO (n : Nat) (m : KM) (ev : XO → V) : Option (V × KM) := some (.int .i64 n, m)
def kMinO (x : XO) (y : XO) (m : KM) (ev : XO → V) : Option (V × KM) := match ev x, ev y with
    | .int k a, .int k' b => if k = k' then some (.int k (if b < a then b else a), m) else none
    | _, _ => none
def kMaxO (x : XO) (y : XO) (m : KM) (ev : XO → V) : Option (V × KM) := match ev x, ev y with
    | .int k a, .int k' b => if k = k' then some (.int k (if a < b then b else a), m) else none
    | _, _ => none
def kLdO (ag : Bool) (s : Nat) (a : XO) (m : KM) (ev : XO → V) : Option (V × KM) := match ev a with
    | .pref cs => (xload ag s cs).map fun v => (v, m)
    | .ptr b e o => match m.get b with
      | some (.row cells _ _ _ ep) => if ep = e then (xload ag s (cells.drop o)).map fun v => (v, m) else none
      | _ => none
    | _ => none
def kStO (s : Nat) (a : XO) (x : XO) (m : KM) (ev : XO → V) : Option (V × KM) := match ev a with
    | .ptr b e o => match m.get b with
      | some (.row cells ty ag sz ep) =>
        let v := ev x
        if ep = e ∧ v.ok = true ∧ v.cells.length = s ∧ o + s ≤ cells.length ∧ xone v.cells = true then some (.und, m.set b (.row (xfill cells o v.cells) ty ag sz ep)) else none
      | _ => none
    | _ => none
def kAlO (z : List V) (ty : Nat) (ag : Bool) (s : Nat) (m : KM) (ev : XO → V) : Option (V × KM) := some (.ptr m.len 1 0, m.push (.row z ty ag s 1))
def kBxO (ty : Nat) (ag : Bool) (s : Nat) (x : XO) (m : KM) (ev : XO → V) : Option (V × KM) := let v := ev x; if v.ok then some (.ptr m.len 1 0, m.push (.row v.cells ty ag s 1)) else none
def kBslO (el : Nat) (ag : Bool) (s : Nat) (z : List V) (n : Nat) (parts : List (Nat × Nat × XO)) (m : KM) (ev : XO → V) : Option (V × KM) := if n = 0 then some (.nsl, m) else
      (xbuild (xzeros z n) (parts.map fun (o, s, x) => (o, s, ev x))).map fun r => (.sl m.len 1 0 n (some n), m.push (.row r el ag s 1))
def kMslO (el : Nat) (ag : Bool) (s : Nat) (z : List V) (by_ : Nat) (l : XO) (c : XO) (m : KM) (ev : XO → V) : Option (V × KM) := match ev l, ev c with
    | .int _ n, .int _ k => if 0 ≤ n ∧ n ≤ k ∧ k ≤ 1073741824 ∧ (by_ : Int) * k ≤ 281474976710656 then
        some (.sl m.len 1 0 n.toNat (some k.toNat), m.push (.row (xzeros z k.toNat) el ag s 1)) else none
    | _, _ => none
def kMmpO  (m : KM) (ev : XO → V) : Option (V × KM) := some (.map m.len, m.push (.map [] 0))
def kAppO (el : Nat) (ag : Bool) (s : Nat) (by_ : Nat) (a : XO) (y : XO) (m : KM) (ev : XO → V) : Option (V × KM) := match kcells m.get s (ev y) with
    | some (k, ys) => match ev a with
      | .nsl => if k ≤ 1073741824 ∧ k * by_ ≤ 140737488355328 then some (.sl m.len 0 0 k none, m.push (.row ys el ag s 0)) else none
      | .sl b e off len _ => match m.get b with
        | some (.row cells ty ag' sz ep) => if ep = e ∧ sz = s ∧ ty = el ∧ off + len * s ≤ cells.length ∧ len + k ≤ 1073741824 ∧ (len + k) * by_ ≤ 140737488355328 then
            some (.sl b (e + 1) 0 (len + k) none, m.set b (.row ((cells.drop off).take (len * s) ++ ys) ty ag' sz (e + 1))) else none
        | _ => none
      | _ => none
    | none => none
def kCpyO (s : Nat) (x : XO) (y : XO) (m : KM) (ev : XO → V) : Option (V × KM) := match ev x with
    | .nsl => match kcells m.get s (ev y) with
      | some _ => some (.int .i64 0, m)
      | none => none
    | .sl b e off len _ => match m.get b, kcells m.get s (ev y) with
      | some (.row cells ty ag sz ep), some (k, ys) => if ep = e ∧ sz = s ∧ off + len * s ≤ cells.length then
          (let n := Nat.min k len; some (.int .i64 n, m.set b (.row (xfill cells off (ys.take (n * s))) ty ag sz ep))) else none
      | _, _ => none
    | _ => none
def kLkuO (kk : XK) (z : V) (mp : XO) (k : XO) (ok : Bool) (m : KM) (ev : XO → V) : Option (V × KM) := bif !xkok kk (ev k) then none else match ev mp with
    | .nmap => some (if ok then .tup [z, .bool false] else z, m)
    | .pmap ks vs => match xpkey kk (ev k) ks vs with
      | some (some v) => some (if ok then .tup [v, .bool true] else v, m)
      | some none => some (if ok then .tup [z, .bool false] else z, m)
      | none => none
    | .map b => match m.get b with
      | some (.map es _) => match xkey kk (ev k) es 0 with
        | some (some (_, v, _)) => some (if ok then .tup [v, .bool true] else v, m)
        | some none => some (if ok then .tup [z, .bool false] else z, m)
        | none => none
      | _ => none
    | _ => none
def kUpdO (kk : XK) (mp : XO) (k : XO) (x : XO) (m : KM) (ev : XO → V) : Option (V × KM) := bif !xkok kk (ev k) then none else match ev mp with
    | .map b => match m.get b with
      | some (.map es clock) => match xkey kk (ev k) es 0 with
        | some (some (i, _, n)) => some (.und, m.set b (.map (es.set i (ev k, ev x, n)) clock))
        | some none => some (.und, m.set b (.map (es ++ [(ev k, ev x, clock)]) (clock + 1)))
        | none => none
      | _ => none
    | _ => none
def kMpeO (kk : XK) (z : V) (mp : XO) (k : XO) (m : KM) (ev : XO → V) : Option (V × KM) := bif !xkok kk (ev k) then none else match ev mp with
    | .map b => match m.get b with
      | some (.map es clock) => match xkey kk (ev k) es 0 with
        | some (some (i, v, n)) => some (.tup [v, .int .i64 n], m.set b (.map (es.set i (ev k, v, n)) clock))
        | some none => some (.tup [z, .int .i64 clock], m.set b (.map (es ++ [(ev k, z, clock)]) (clock + 1)))
        | none => none
      | _ => none
    | _ => none
def kEstO (mp : XO) (s : XO) (x : XO) (m : KM) (ev : XO → V) : Option (V × KM) := match ev mp, ev s with
    | .map b, .int _ n => match m.get b with
      | some (.map es clock) => match es.findIdx? (fun e => (e.2.2 : Int) == n) with
        | some i => match es[i]? with
          | some (k, _, j) => some (.und, m.set b (.map (es.set i (k, ev x, j)) clock))
          | none => none
        | none => none
      | _ => none
    | _, _ => none
def kLenmO (x : XO) (m : KM) (ev : XO → V) : Option (V × KM) := match ev x with
    | .nmap => some (.int .i64 0, m)
    | .pmap ks _ => some (.int .i64 ks.length, m)
    | .map b => match m.get b with
      | some (.map es _) => some (.int .i64 es.length, m)
      | _ => none
    | _ => none
def kTasO (t : Nat) (z : V) (x : XO) (m : KM) (ev : XO → V) : Option (V × KM) := match ev x with
    | .nifc => some (.tup [z, .bool false], m)
    | .ifc t' v => some (if t = t' then .tup [v, .bool true] else .tup [z, .bool false], m)
    | _ => none

def kNo (_ : KM) (_ : XO → V) : Option (V × KM) := none
def kopR (o : XOp) : KM → (XO → V) → Option (V × KM) := XOp.rec (motive := fun _ => KM → (XO → V) → Option (V × KM))
    kMvO
    kPickO
    kAriO
    kEqO
    kNotO
    kNegO
    kXorO
    kCviO
    kCvsO
    kCvbO
    kIfcO
    kFncO
    kExtO
    kFldO
    kFadO
    kIasO
    kIaaO
    kIxaO
    kIxsO
    kSlsO
    kSllO
    kNilcO
    kBldO
    kLenO
    kLensO
    kLenaO
    kMinO
    kMaxO
    kLdO
    kStO
    kAlO
    kBxO
    kBslO
    kMslO
    kMmpO
    kAppO
    kCpyO
    kLkuO
    kUpdO
    kMpeO
    kEstO
    kLenmO
    (fun _ _ => kNo)
    (fun _ _ => kNo)
    (fun _ _ _ => kNo)
    (fun _ _ => kNo)
    kNo
    (fun _ => kNo)
    kTasO o
def kop (o : XOp) (m : KM) (ev : XO → V) : Option (V × KM) := kfit (kopR o m ev)

/-- Calls and their like. -/
inductive KK where
  | op | call | cav | inv | dfr | pan

def kkind (o : XOp) : KK := XOp.rec (motive := fun _ => KK)
    (fun _ => .op)
    (fun _ _ _ => .op)
    (fun _ _ _ => .op)
    (fun _ _ _ _ => .op)
    (fun _ => .op)
    (fun _ => .op)
    (fun _ => .op)
    (fun _ _ => .op)
    (fun _ => .op)
    (fun _ => .op)
    (fun _ _ => .op)
    (fun _ _ _ => .op)
    (fun _ _ => .op)
    (fun _ _ _ _ => .op)
    (fun _ _ => .op)
    (fun _ _ _ => .op)
    (fun _ _ _ _ => .op)
    (fun _ _ _ _ _ => .op)
    (fun _ _ => .op)
    (fun _ _ _ _ => .op)
    (fun _ _ _ _ _ => .op)
    (fun _ => .op)
    (fun _ _ => .op)
    (fun _ => .op)
    (fun _ => .op)
    (fun _ => .op)
    (fun _ _ => .op)
    (fun _ _ => .op)
    (fun _ _ _ => .op)
    (fun _ _ _ => .op)
    (fun _ _ _ _ => .op)
    (fun _ _ _ _ => .op)
    (fun _ _ _ _ _ _ => .op)
    (fun _ _ _ _ _ _ _ => .op)
    .op
    (fun _ _ _ _ _ _ => .op)
    (fun _ _ _ => .op)
    (fun _ _ _ _ _ => .op)
    (fun _ _ _ _ => .op)
    (fun _ _ _ _ => .op)
    (fun _ _ _ => .op)
    (fun _ => .op)
    (fun _ _ => .call)
    (fun _ _ => .cav)
    (fun _ _ _ => .inv)
    (fun _ _ => .dfr)
    .op
    (fun _ => .pan)
    (fun _ _ _ => .op) o

def kput (N : Nat) (t : KT V) (d : Option Nat) (v : V) : Option (KT V) := match d with
  | none => some t
  | some d => Bool.rec none (some (t.set d v)) (Nat.ble (Nat.succ d) N)

/-- What has been found is put where it belongs. -/
def kdone (N : Nat) (d : Option Nat) (st : KSt) (r : Option (V × KM)) : Option (Sum V KSt) := match r with
  | some (v, m) => match kput N st.t d v with
    | some t => some (.inr ⟨t, m, st.df⟩)
    | none => none
  | none => none

def kcalled (N : Nat) (d : Option Nat) (st : KSt) (r : Option (Sum V V × KM)) : Option (Sum V KSt × KM) := match r with
  | some (.inl v, m) => match kput N st.t d v with
    | some t => some (.inr ⟨t, m, st.df⟩, m)
    | none => none
  | some (.inr v, m) => some (.inl v, m)
  | none => none

def kcalls (C : KCallT) (Y : KYieldT) (m : KM) (ev : XO → V) : XOp → Option (Sum V V × KM)
  | .call f xs => C f m (xs.map ev)
  | .cav f xs => match ev f with
    | .fn (.func n) first caps => C n m (first ++ (xs.map ev ++ caps))
    | .fn (.yield b) _ _ => Y b m (xs.map ev)
    | _ => none
  | .inv tab x xs => match ev x with
    | .ifc t v => match tab.lookup t with
      | some f => C f m (v :: xs.map ev)
      | none => none
    | _ => none
  | _ => none

def kplain (P : XP) (N : Nat) (st : KSt) (o : XI) : Option (Sum Unit V × KSt) := match kop o.op st.m (kev P st.t) with
  | some (v, m) => match kput N st.t o.dst v with
    | some t => some (.inl (), ⟨t, m, st.df⟩)
    | none => none
  | none => none

def kcall (P : XP) (C : KCallT) (Y : KYieldT) (N : Nat) (st : KSt) (o : XI) : Option (Sum Unit V × KSt) := match kcalls C Y st.m (kev P st.t) o.op with
  | some (.inl v, m) => match kput N st.t o.dst v with
    | some t => some (.inl (), ⟨t, m, st.df⟩)
    | none => none
  | some (.inr v, m) => some (.inr v, ⟨st.t, m, st.df⟩)
  | none => none

def kdfr (P : XP) (N : Nat) (st : KSt) (o : XI) : Option (Sum Unit V × KSt) := match o.op with
  | .dfr f xs => match kput N st.t o.dst .und with
    | some t => some (.inl (), ⟨t, st.m, (f, xs.map (kev P st.t)) :: st.df⟩)
    | none => none
  | _ => none

def kpan (P : XP) (st : KSt) (o : XI) : Option (Sum Unit V × KSt) := match o.op with
  | .pan x => match kev P st.t x with
    | .ifc t v => some (.inr (.ifc t v), st)
    | _ => none
  | _ => none

def kstep (P : XP) (C : KCallT) (Y : KYieldT) (N : Nat) (st : KSt) (o : XI) : Option (Sum Unit V × KSt) := match kkind o.op with
  | .op => kplain P N st o
  | .dfr => kdfr P N st o
  | .pan => kpan P st o
  | _ => kcall P C Y N st o

def kwant (t : KT V) : Option (Nat × Bool) → Option Bool
  | none => some true
  | some (s, b) => match t.get .und s with
    | .bool c => some (c == b)
    | .udf => some false
    | _ => none

def kskip (N : Nat) (o : XI) (st : KSt) : Option KSt := match kput N st.t o.dst .udf with
  | some t => some ⟨t, st.m, st.df⟩
  | none => none

def kops1 (P : XP) (C : KCallT) (Y : KYieldT) (N : Nat) (o : XI) (next : KSt → Option (XE × KSt)) (st : KSt) : Option (XE × KSt) := match kwant st.t o.grd with
  | some true => match kstep P C Y N st o with
    | some (.inl _, st) => next st
    | some (.inr v, st) => some (.pan v, st)
    | none => none
  | some false => match kskip N o st with
    | some st => next st
    | none => none
  | none => none

def kops (P : XP) (C : KCallT) (Y : KYieldT) (N : Nat) (l : List XI) : KSt → Option (XE × KSt) := List.rec (motive := fun _ => KSt → Option (XE × KSt)) (fun st => some (.nrm, st)) (fun o _ next st => kops1 P C Y N o next st) l

abbrev KLv := List (Nat × KT V × XI × V)

def ksame (P : XP) (m : KM) (x : Nat × KT V × XI × V) : Bool := match kop x.2.2.1.op m (kev P x.2.1) with
  | some (v, _) => vbeq v x.2.2.2
  | none => false

def kquiet1 (P : XP) (N : Nat) (o : Nat × XI) (next : KLv → KSt → Option (KLv × KSt)) (live : KLv) (st : KSt) : Option (KLv × KSt) := match kwant st.t o.2.grd with
  | some true => match kop o.2.op st.m (kev P st.t) with
    | some (v, m) => match kput N st.t o.2.dst v with
      | some t => next (bif o.2.op.mem then (o.1, st.t, o.2, v) :: live else live) ⟨t, m, st.df⟩
      | none => none
    | none => none
  | some false => match kskip N o.2 st with
    | some st => next live st
    | none => none
  | none => none

def kquiet (P : XP) (N : Nat) (l : List (Nat × XI)) : KLv → KSt → Option (KLv × KSt) := List.rec (motive := fun _ => KLv → KSt → Option (KLv × KSt)) (fun live st => some (live, st)) (fun o _ next live st => kquiet1 P N o next live st) l

def keffect (P : XP) (C : KCallT) (Y : KYieldT) (N : Nat) (e : XI) (keep : List Nat) (live : KLv) (st : KSt) : Option (KLv × KSt) :=
  match kwant st.t e.grd with
  | some true => match kstep P C Y N st e with
    | some (.inl _, st) => let live := live.filter fun x => keep.contains x.1
      bif live.all (ksame P st.m) then some (live, st) else none
    | _ => none
  | some false => match kskip N e st with
    | some st => some (live.filter fun x => keep.contains x.1, st)
    | none => none
  | none => none

def kapart (P : XP) (t : KT V) (a b : XI) : Bool := match a, b with
  | ⟨none, .st _ x _, none⟩, ⟨none, .st _ y _, none⟩ => match kev P t x, kev P t y with
    | .ptr c _ _, .ptr d _ _ => c != d
    | _, _ => false
  | _, _ => false

def kdrw (P : XP) (C : KCallT) (Y : KYieldT) (N : Nat) : XD → KLv → KSt → Option KSt
  | .fin qs, live, st => match kquiet P N qs live st with
    | some (_, st) => some st
    | none => none
  | .one qs _ e keep d, live, st => match kquiet P N qs live st with
    | some (live, st) => match keffect P C Y N e keep live st with
      | some (live, st) => kdrw P C Y N d live st
      | none => none
    | none => none
  | .two qs _ a ka _ b kb, live, st => match kquiet P N qs live st with
    | some (live, st) =>
      bif kapart P st.t a b && (match keffect P C Y N b kb live st with
        | some (live, st) => (keffect P C Y N a ka live st).isSome
        | none => false) then
      match keffect P C Y N a ka live st with
      | some (live, st) => match keffect P C Y N b kb live st with
        | some (_, st) => some st
        | none => none
      | none => none
      else none
    | none => none

def kiter (body : KSt → Option (XE × KSt)) (n : Nat) : KSt → Option (XE × KSt) := Nat.rec (motive := fun _ => KSt → Option (XE × KSt)) (fun _ => none) (fun _ next st => match body st with
  | some (.nrm, st) => next st
  | r => r) n

def ktl (N : Nat) (t : KT V) : List V := (List.range N).map (t.get .und)

/-- Temporaries out of a list. -/
def kfill (l : List V) : Nat → KT V → KT V := List.rec (motive := fun _ => Nat → KT V → KT V) (fun _ t => t) (fun v _ next i t => next (Nat.succ i) (t.set i v)) l
def kmk (N : Nat) (l : List V) : KT V := kfill l 0 (.full .und (Nat.succ (Nat.log2 N)))

def krfn (P : XP) (C : KCallT) (N : Nat) (f : XO) (ps : List Nat) (a b : XC) (st : KSt) : Option (XE × KSt) := match kev P st.t f with
    | .fn (.func n) first caps => bif Nat.blt st.m.len st.m.cap then match C n (st.m.push (.loop 0 none (ktl N st.t) ps a b)) (first ++ (.fn (.yield st.m.len) [] [] :: caps)) with
      | some (.inl _, m) => match m.get st.m.len with
        | some (.loop s p _ ps _ _) => if s = 1 then none else some ((p.getD .nrm), ⟨st.t, m.set st.m.len (.loop 3 p [] ps .skip .skip), st.df⟩)
        | _ => none
      | some (.inr v, m) => some (.pan v, ⟨st.t, m, st.df⟩)
      | none => none
      else none
    | _ => none

def kthen (r : Option (XE × KSt)) (next : KSt → Option (XE × KSt)) : Option (XE × KSt) := match r with
  | some (.nrm, st) => next st
  | r => r
def kcond (P : XP) (c : XO) (a b : KSt → Option (XE × KSt)) (st : KSt) : Option (XE × KSt) := match kev P st.t c with
  | .bool true => a st
  | .bool false => b st
  | _ => none
def kblock (id : Nat) (r : Option (XE × KSt)) : Option (XE × KSt) := match r with
  | some (.exit i, st) => some (if i = id then .nrm else .exit i, st)
  | r => r
def kdrw1 (P : XP) (C : KCallT) (Y : KYieldT) (N : Nat) (d : XD) (st : KSt) : Option (XE × KSt) := match kdrw P C Y N d [] st with
  | some st => some (.nrm, st)
  | none => none

def kcode (P : XP) (C : KCallT) (Y : KYieldT) (N L : Nat) (c : XC) : KSt → Option (XE × KSt) := XC.rec (motive := fun _ => KSt → Option (XE × KSt))
  (fun st => some (.nrm, st))
  (kops P C Y N)
  (kdrw1 P C Y N)
  (fun _ _ ka kb st => kthen (ka st) kb)
  (fun c _ _ ka kb st => kcond P c ka kb st)
  (fun id _ kb st => kblock id (kb st))
  (fun _ kb st => kiter kb L st)
  (fun id st => some (.exit id, st))
  (fun st => some (.ret, st))
  (fun f ps a b _ _ st => krfn P C N f ps a b st)
  (fun _ => none) c

/-- A round of a loop over a function. -/
def kround (P : XP) (C : KCallT) (Y : KYieldT) (L : Nat) (b : Nat) (m : KM) (xs : List V) : Option (Sum V V × KM) :=
  match m.get b with
  | some (.loop 0 _ t ps a body) => bif Nat.beq xs.length ps.length then
      match kcode P C Y t.length L a ⟨kmk t.length (xzip t ps xs), m, []⟩ with
      | some (.nrm, st) => match st.m.get b with
        | some (.loop 0 p2 t2 ps2 a2 b2) => match kcode P C Y t.length L body ⟨st.t, st.m.set b (.loop 1 p2 t2 ps2 a2 b2), st.df⟩ with
          | some (e, st) => match st.m.get b with
            | some (.loop 1 _ t3 ps3 a3 b3) => match e with
              | .nrm => some (.inl (.bool true), st.m.set b (.loop 0 none t3 ps3 a3 b3))
              | .ret => some (.inl (.bool false), st.m.set b (.loop 2 (some .ret) t3 ps3 a3 b3))
              | .exit i => some (.inl (.bool false), st.m.set b (.loop 2 (some (.exit i)) t3 ps3 a3 b3))
              | .pan _ => none
            | _ => none
          | none => none
        | _ => none
      | _ => none
    else none
  | _ => none

def kres (m : KM) (t : KT V) : List XS → Option (List V)
  | [] => some []
  | .t i :: r => (kres m t r).map fun vs => t.get .und i :: vs
  | .cell a ag s :: r => match kop (.ld ag s (.t 0)) m (fun _ => t.get .und a), kres m t r with
    | some (v, _), some vs => some (v :: vs)
    | _, _ => none

def kcodeS (P : XP) (C : KCallT) (Y : KYieldT) (N L : Nat) : XC → KSt → Option V → Option (XE × KSt × Option V)
  | .seq a b, st, p => match kcodeS P C Y N L a st p with
    | some (.nrm, st, p) => kcodeS P C Y N L b st p
    | r => r
  | .reg [⟨dst, .rcv, none⟩], st, p => match kput N st.t dst (p.getD .nifc) with
    | some t => some (.nrm, ⟨t, st.m, st.df⟩, none)
    | none => none
  | c, st, p => (kcode P C Y N L c st).map fun (e, st) => (e, st, p)

def kdef (P : XP) (C : KCallT) (Y : KYieldT) (L : Nat) (f : Nat) (p : Option V) (m : KM) (xs : List V) : Option (Option V × KM) :=
  match P.fn f with
  | some F => if F.res.isEmpty && F.body.noD && Nat.ble xs.length F.n then (match kcodeS P C Y F.n L F.body ⟨kmk F.n xs, m, []⟩ p with
    | some (.nrm, st, p) | some (.ret, st, p) => if st.df.isEmpty then some (p, st.m) else none
    | _ => none) else none
  | none => none

def kleave (P : XP) (C : KCallT) (Y : KYieldT) (L : Nat) : List (Nat × List V) → Option V → KM → Option (Option V × KM)
  | [], p, m => some (p, m)
  | (f, xs) :: r, p, m => match kdef P C Y L f p m xs with
    | some (p, m) => kleave P C Y L r p m
    | none => none

/-- A function's body. -/
def kbody (P : XP) (C : KCallT) (Y : KYieldT) (L : Nat) (F : XF) (m : KM) (xs : List V) : Option (Sum V V × KM) :=
  bif Nat.ble xs.length F.n then
  (match kcode P C Y F.n L F.body ⟨kmk F.n xs, m, []⟩ with
      | some (.nrm, st) | some (.ret, st) => match kleave P C Y L st.df none st.m with
        | some (none, m) => (kres m st.t F.res).map fun vs => (.inl (xpack vs), m)
        | _ => none
      | some (.pan v, st) => match kleave P C Y L st.df (some v) st.m with
        | some (none, m) => if F.res.isEmpty then some (.inl (.tup []), m) else none
        | some (some v, m) => some (.inr v, m)
        | none => none
      | _ => none) else none

/-- A call: known already, or made here. -/
def kcf (P : XP) (T : List XEnt) (C : XF → KM → List V → Option (Sum V V × KM)) (f : Nat) (m : KM) (xs : List V) : Option (Sum V V × KM) := match P.fn f with
  | none => match P.lib f with
    | some L => match kfit (klib L m xs) with
      | some (v, m) => some (.inl v, m)
      | none => none
    | none => none
  | some F => bif F.pure then (match kfind f (xs.map (kfrz m.get 9)) T with
      | some e => bif e.ok || xs.all (xpure 9) then some (.inl e.r, m) else C F m xs
      | none => none) else C F m xs

/-- The machine: calls (left), rounds (right), to some depth. -/
def kmach (P : XP) (T : List XEnt) (L : Nat) (n : Nat) : (XF → KM → List V → Option (Sum V V × KM)) × KYieldT :=
  Nat.rec (fun _ _ _ => none, fun _ _ _ => none) (fun _ K => (kbody P (kcf P T K.1) K.2 L, kround P (kcf P T K.1) K.2 L)) n

/-- This call is as it is told. -/
def kchk (P : XP) (T : List XEnt) (L n D : Nat) (e : XEnt) : Bool := match P.fn e.f with
  | some F => match (kmach P T L n).1 F ⟨.full none D, 0, 2 ^ D⟩ e.xs with
    | some (.inl v, m) => vbeq (kfrz m.get 9 v) e.r && ((xflat 9 e.r || kfresh m.get 9 v) == e.ok)
    | _ => false
  | none => false

end
end Go.VC.K

/- The machine for evaluation finds what the machine finds: trees, operations. -/
namespace Go.VC.K
open Go Go.VC

theorem nbeq {i j : Nat} (h : ¬ i = j) : Nat.beq i j = false := by
  cases hb : Nat.beq i j
  · rfl
  · exact absurd (Nat.eq_of_beq_eq_true hb) h

section
variable {α : Type}

theorem KT.get_leaf (d v : α) (i : Nat) : (KT.leaf v).get d i = if i = 0 then v else d := by
  by_cases h : i = 0
  · subst h; rfl
  · have : Nat.beq i 0 = false := nbeq h
    show (Bool.rec d v (Nat.beq i 0) : α) = _
    rw [this, if_neg h]

theorem KT.get_node (d : α) (l r : KT α) (i : Nat) : (KT.node l r).get d i = if i % 2 = 0 then l.get d (i / 2) else r.get d (i / 2) := by
  show (Bool.rec (r.get d (i / 2)) (l.get d (i / 2)) (Nat.beq (i % 2) 0) : α) = _
  by_cases h : i % 2 = 0
  · rw [h]; rfl
  · have : Nat.beq (i % 2) 0 = false := nbeq h
    rw [this, if_neg h]

theorem KT.set_leaf (v x : α) (i : Nat) : (KT.leaf v).set i x = if i = 0 then .leaf x else .leaf v := by
  by_cases h : i = 0
  · subst h; rfl
  · have : Nat.beq i 0 = false := nbeq h
    show (Bool.rec (KT.leaf v) (KT.leaf x) (Nat.beq i 0) : KT α) = _
    rw [this, if_neg h]

theorem KT.set_node (l r : KT α) (i : Nat) (x : α) : (KT.node l r).set i x = if i % 2 = 0 then .node (l.set (i / 2) x) r else .node l (r.set (i / 2) x) := by
  show (Bool.rec (KT.node l (r.set (i / 2) x)) (KT.node (l.set (i / 2) x) r) (Nat.beq (i % 2) 0) : KT α) = _
  by_cases h : i % 2 = 0
  · rw [h]; rfl
  · have : Nat.beq (i % 2) 0 = false := nbeq h
    rw [this, if_neg h]

theorem KT.has_leaf (v : α) (i : Nat) : (KT.leaf v).has i = decide (i = 0) := by
  show Nat.beq i 0 = _
  by_cases h : i = 0
  · subst h; rfl
  · have : Nat.beq i 0 = false := nbeq h
    rw [this]; simp [h]

theorem KT.has_node (l r : KT α) (i : Nat) : (KT.node l r).has i = if i % 2 = 0 then l.has (i / 2) else r.has (i / 2) := by
  show (Bool.rec (r.has (i / 2)) (l.has (i / 2)) (Nat.beq (i % 2) 0) : Bool) = _
  by_cases h : i % 2 = 0
  · rw [h]; rfl
  · have : Nat.beq (i % 2) 0 = false := nbeq h
    rw [this, if_neg h]

theorem KT.get_set (d : α) (t : KT α) : ∀ (i j : Nat) (x : α), t.has i = true → (t.set i x).get d j = if j = i then x else t.get d j := by
  induction t with
  | leaf v =>
    intro i j x h
    rw [KT.has_leaf] at h
    have : i = 0 := by simpa using h
    subst this
    rw [KT.set_leaf, if_pos rfl, KT.get_leaf, KT.get_leaf]
    by_cases hj : j = 0 <;> simp [hj]
  | node l r ihl ihr =>
    intro i j x h
    rw [KT.has_node] at h
    rw [KT.set_node]
    by_cases hi : i % 2 = 0
    · rw [if_pos hi] at h ⊢
      rw [KT.get_node, KT.get_node, ihl _ _ _ h]
      by_cases hj : j % 2 = 0
      · rw [if_pos hj, if_pos hj]
        by_cases hij : j = i
        · rw [if_pos (by rw [hij]), if_pos hij]
        · rw [if_neg (by omega), if_neg hij]
      · rw [if_neg hj, if_neg hj, if_neg (by omega)]
    · rw [if_neg hi] at h ⊢
      rw [KT.get_node, KT.get_node, ihr _ _ _ h]
      by_cases hj : j % 2 = 0
      · rw [if_pos hj, if_pos hj, if_neg (by omega)]
      · rw [if_neg hj, if_neg hj]
        by_cases hij : j = i
        · rw [if_pos (by rw [hij]), if_pos hij]
        · rw [if_neg (by omega), if_neg hij]

theorem KT.has_set (t : KT α) : ∀ (i j : Nat) (x : α), (t.set i x).has j = t.has j := by
  induction t with
  | leaf v =>
    intro i j x
    rw [KT.set_leaf]
    by_cases hi : i = 0
    · rw [if_pos hi, KT.has_leaf, KT.has_leaf]
    · rw [if_neg hi]
  | node l r ihl ihr =>
    intro i j x
    rw [KT.set_node]
    by_cases hi : i % 2 = 0
    · rw [if_pos hi, KT.has_node, KT.has_node, ihl]
    · rw [if_neg hi, KT.has_node, KT.has_node, ihr]

theorem KT.full_succ (d : α) (n : Nat) : KT.full d (n + 1) = .node (KT.full d n) (KT.full d n) := rfl

theorem KT.get_full (d : α) : ∀ (n i : Nat), (KT.full d n).get d i = d
  | 0, i => by rw [show KT.full d 0 = KT.leaf d from rfl, KT.get_leaf]; split <;> rfl
  | n + 1, i => by rw [KT.full_succ, KT.get_node, KT.get_full d n, ite_self]

theorem KT.has_full (d : α) : ∀ (n i : Nat), i < 2 ^ n → (KT.full d n).has i = true
  | 0, i, h => by rw [show KT.full d 0 = KT.leaf d from rfl, KT.has_leaf]; simp at h; simp [h]
  | n + 1, i, h => by rw [KT.full_succ, KT.has_node, KT.has_full d n (i / 2) (by rw [Nat.pow_succ] at h; omega), ite_self]
end

/-- A tree that holds temporaries. -/
structure TR (N : Nat) (k : KT V) (t : List V) : Prop where
  len : t.length = N
  has : ∀ i, i < N → k.has i = true
  get : ∀ i, k.get .und i = t.getD i .und

/-- A tree that holds a memory. -/
structure MR (k : KM) (m : XM) : Prop where
  len : k.len = m.length
  fit : k.len ≤ k.cap
  has : ∀ i, i < k.cap → k.t.has i = true
  get : ∀ i, k.get i = m[i]?

variable {N : Nat} {k : KM} {m : XM} {kt : KT V} {t : List V}

theorem TR.set (h : TR N kt t) {d : Nat} (hd : d < N) (v : V) : TR N (kt.set d v) (t.set d v) := by
  refine ⟨by simp [h.len], fun i hi => by rw [KT.has_set]; exact h.has i hi, fun i => ?_⟩
  rw [KT.get_set _ _ _ _ _ (h.has d hd), h.get]
  simp only [List.getD_eq_getElem?_getD, List.getElem?_set]
  by_cases hi : i = d
  · subst hi
    simp [h.len, hd]
  · rw [if_neg hi, if_neg (fun e => hi e.symm)]

theorem TR.put (h : TR N kt t) {d : Option Nat} {v : V} {kt' : KT V} (hp : kput N kt d v = some kt') : TR N kt' (xput t d v) := by
  cases d with
  | none => simp only [kput, Option.some.injEq] at hp; subst hp; exact h
  | some d =>
    by_cases hd : d < N
    · have h1 : Nat.ble (Nat.succ d) N = true := Nat.ble_eq_true_of_le hd
      simp only [kput, h1, Option.some.injEq] at hp
      subst hp
      exact h.set hd v
    · have h1 : Nat.ble (Nat.succ d) N = false := by
        cases hb : Nat.ble (Nat.succ d) N
        · rfl
        · exact absurd (Nat.le_of_ble_eq_true hb) hd
      simp only [kput, h1] at hp
      cases hp

theorem MR.set (h : MR k m) {b : Nat} {o o' : XObj} (hb : m[b]? = some o') : MR (k.set b o) (m.set b o) := by
  have hlt : b < m.length := (List.getElem?_eq_some_iff.1 hb).1
  refine ⟨by simp [KM.set, h.len], h.fit, fun i hi => ?_, fun i => ?_⟩
  · show (k.t.set b (some o)).has i = true
    rw [KT.has_set]; exact h.has i hi
  · show (k.t.set b (some o)).get none i = _
    rw [KT.get_set _ _ _ _ _ (h.has b (by have := h.fit; have := h.len; omega))]
    have := h.get i
    simp only [KM.get] at this
    rw [this, List.getElem?_set]
    by_cases hi : i = b
    · subst hi; simp [hlt]
    · rw [if_neg hi, if_neg (fun e => hi e.symm)]

theorem MR.push (h : MR k m) (o : XObj) (hD : k.len < k.cap) : MR (k.push o) (m ++ [o]) := by
  refine ⟨by simp [KM.push, h.len], hD, fun i hi => ?_, fun i => ?_⟩
  · show (k.t.set k.len (some o)).has i = true
    rw [KT.has_set]; exact h.has i hi
  · show (k.t.set k.len (some o)).get none i = _
    rw [KT.get_set _ _ _ _ _ (h.has k.len hD), h.len]
    have := h.get i
    simp only [KM.get] at this
    rw [this]
    by_cases hi : i = m.length
    · subst hi; simp
    · rw [if_neg hi, List.getElem?_append]
      by_cases h2 : i < m.length
      · rw [if_pos h2]
      · rw [if_neg h2, List.getElem?_eq_none (by omega), List.getElem?_eq_none (by simp; omega)]

end Go.VC.K

/- The machine for evaluation finds what the machine finds: operations. -/
namespace Go.VC.K
open Go Go.VC

variable {N : Nat} {k : KM} {m : XM} {kt : KT V} {t : List V} {P : XP}

theorem TR.ev (h : TR N kt t) : kev P kt = xev P t := by
  funext x
  cases x with
  | t i => exact h.get i
  | c v => rfl
  | g n => rfl

theorem kari_eq (op : BinOp) (a b : V) : kari op a b = xari op a b := by
  cases op <;> first | rfl | (cases a <;> cases b <;> rfl)

theorem kcells_eq (h : MR k m) (s : Nat) (v : V) : kcells k.get s v = xcells m s v := by
  cases v <;> first | rfl | skip
  simp only [kcells, xcells, h.get]
  rfl

theorem kfrz_eq (h : MR k m) : ∀ (n : Nat) (v : V), kfrz k.get n v = xfrz m n v := by
  intro n
  induction n with
  | zero => intro v; cases v <;> rfl
  | succ n ih =>
    have : kfrz k.get n = xfrz m n := funext ih
    intro v
    cases v with
    | fn f a b => cases f <;> simp only [kfrz, xfrz, this]
    | sl b e off len c => simp only [kfrz, xfrz, this, h.get]; rfl
    | ptr b e off => simp only [kfrz, xfrz, this, h.get]; rfl
    | map b => simp only [kfrz, xfrz, this, h.get]; rfl
    | _ => simp only [kfrz, xfrz, this]

theorem kfresh_eq (h : MR k m) : ∀ (n : Nat) (v : V), kfresh k.get n v = xfresh m n v := by
  intro n
  induction n with
  | zero =>
    intro v
    cases v with
    | psl rows => cases rows <;> rfl
    | fn f a b => cases f <;> rfl
    | _ => rfl
  | succ n ih =>
    have : kfresh k.get n = xfresh m n := funext ih
    intro v
    cases v with
    | fn f a b => cases f <;> simp only [kfresh, xfresh, this]
    | psl rows => cases rows <;> simp only [kfresh, xfresh]
    | sl b e off len c => simp only [kfresh, xfresh, this, h.get]; rfl
    | ptr b e off => simp only [kfresh, xfresh, this, h.get]; rfl
    | map b => simp only [kfresh, xfresh, this, h.get]; rfl
    | _ => simp only [kfresh, xfresh, this]

theorem map_pair {α β γ : Type} (o : Option α) (f : α → β) (a b : γ) : (o.map fun v => (f v, a)) = ((o.map fun v => (f v, b)).map fun r => (r.1, a)) := by
  cases o <;> rfl

/-- Operations that leave the memory as it is. -/
theorem kop_keep (h : MR k m) (ev : XO → V) (o : XOp) (h1 : o.eff = false) (h2 : o.alc = false) : kopR o k ev = (xop m ev o).map fun r => (r.1, k) := by
  cases o <;> first | (cases h1; done) | (cases h2; done) | skip
  case mv => rfl
  case pick c a b => simp only [kopR, kPickO, xop]; cases ev c <;> rfl
  case ari => simp only [kopR, kAriO, xop, kari_eq]; (simp only [Option.map_map]; rfl)
  case eq => simp only [kopR, kEqO, xop]; (simp only [Option.map_map]; rfl)
  case not x => simp only [kopR, kNotO, xop]; cases ev x <;> rfl
  case neg x => simp only [kopR, kNegO, xop]; cases ev x <;> rfl
  case xor x => simp only [kopR, kXorO, xop]; cases ev x <;> first | rfl | (simp only [Option.map_map]; rfl)
  case cvi _ x => simp only [kopR, kCviO, xop]; cases ev x <;> rfl
  case cvs x => simp only [kopR, kCvsO, xop]; cases ev x <;> rfl
  case cvb x =>
    simp only [kopR, kCvbO, xop, kcells_eq h]
    cases xcells m 1 (ev x) with
    | none => rfl
    | some q => (simp only [Option.map_map]; rfl)
  case ifc => rfl
  case fnc => rfl
  case ext x _ => simp only [kopR, kExtO, xop]; cases ev x <;> first | rfl | (simp only [Option.map_map]; rfl)
  case fld _ _ _ x => simp only [kopR, kFldO, xop]; cases ev x <;> first | rfl | (simp only [Option.map_map]; rfl)
  case fad _ x => simp only [kopR, kFadO, xop]; cases ev x <;> rfl
  case ias s x i =>
    simp only [kopR, kIasO, xop, h.get]
    cases ev x <;> first | rfl | (try dsimp only)
    · rename_i rows
      cases ev i <;> first | rfl | (try dsimp only)
      rename_i k2 n
      by_cases h1 : 0 ≤ n
      · simp only [if_pos h1]
        cases rows[n.toNat]? with
        | none => rfl
        | some r =>
          by_cases h2 : r.cells.length = s
          · simp only [if_pos h2]; rfl
          · simp only [if_neg h2]; rfl
      · simp only [if_neg h1]; rfl
    · rename_i b e off len c
      cases ev i <;> first | rfl | (try dsimp only)
      rename_i k2 n
      cases m[b]? with
      | none => rfl
      | some o =>
        cases o <;> first | rfl | (try dsimp only)
        rename_i cells ty ag sz ep
        by_cases h1 : ep = e ∧ 0 ≤ n ∧ n < len
        · simp only [if_pos h1]; rfl
        · simp only [if_neg h1]; rfl
  case iaa n s x i =>
    simp only [kopR, kIaaO, xop]
    cases ev x <;> first | rfl | (try dsimp only)
    all_goals
      cases ev i <;> first | rfl | (try dsimp only)
      rename_i k2 j
      by_cases h1 : 0 ≤ j ∧ j < n
      · simp only [if_pos h1]; rfl
      · simp only [if_neg h1]; rfl
  case ixa n ag s x i =>
    simp only [kopR, kIxaO, xop]
    cases ev x <;> first | rfl | (try dsimp only)
    cases ev i <;> first | rfl | (try dsimp only)
    rename_i k2 j
    by_cases h1 : 0 ≤ j ∧ j < n
    · simp only [if_pos h1]; (simp only [Option.map_map]; rfl)
    · simp only [if_neg h1]; rfl
  case ixs x i =>
    simp only [kopR, kIxsO, xop]
    cases ev x <;> first | rfl | (try dsimp only)
    cases ev i <;> first | rfl | (try dsimp only)
    rename_i k2 j
    by_cases h1 : 0 ≤ j
    · simp only [if_pos h1]; (simp only [Option.map_map]; rfl)
    · simp only [if_neg h1]; rfl
  case sls x a b c =>
    simp only [kopR, kSlsO, xop]
    cases ev x <;> first | rfl | (try dsimp only)
    rename_i l
    cases xbounds l.length (a.map ev) (b.map ev) (c.map ev) with
    | none => rfl
    | some q =>
      obtain ⟨_, _, c⟩ := q
      cases c <;> rfl
  case sll s x lo hi mx =>
    simp only [kopR, kSllO, xop, h.get]
    cases ev x <;> first | rfl | (try dsimp only)
    · rename_i rows
      cases xbounds rows.length (lo.map ev) (hi.map ev) (mx.map ev) with
      | none => rfl
      | some q =>
        obtain ⟨a, b, c⟩ := q
        dsimp only
        by_cases h1 : c = some a
        · simp only [if_pos h1]; rfl
        · simp only [if_neg h1]
          by_cases h2 : (rows.headD V.und).cells.length = s ∨ rows = []
          · simp only [if_pos h2]; rfl
          · simp only [if_neg h2]; rfl
    · cases xbounds 0 (lo.map ev) (hi.map ev) (mx.map ev) <;> rfl
    · rename_i b e off len c
      cases m[b]? with
      | none => rfl
      | some o =>
        cases o <;> first | rfl | (try dsimp only)
        rename_i cells ty ag sz ep
        by_cases h1 : ep = e ∧ sz = s
        · simp only [if_pos h1]
          cases xbounds len (lo.map ev) (hi.map ev) (mx.map ev) <;> rfl
        · simp only [if_neg h1]; rfl
  case nilc x => simp only [kopR, kNilcO, xop]; cases ev x <;> rfl
  case bld => simp only [kopR, kBldO, xop]; (simp only [Option.map_map]; rfl)
  case bsl el ag s z n parts =>
    have : n = 0 := by simpa [XOp.alc] using h2
    subst this
    rfl
  case len x => simp only [kopR, kLenO, xop]; cases ev x <;> rfl
  case lens x => simp only [kopR, kLensO, xop]; cases ev x <;> rfl
  case lena => rfl
  case min x y =>
    simp only [kopR, kMinO, xop]
    cases ev x <;> first | rfl | (try dsimp only)
    cases ev y <;> first | rfl | (try dsimp only)
    rename_i k1 a k2 b
    by_cases h1 : k1 = k2
    · simp only [if_pos h1]; rfl
    · simp only [if_neg h1]; rfl
  case max x y =>
    simp only [kopR, kMaxO, xop]
    cases ev x <;> first | rfl | (try dsimp only)
    cases ev y <;> first | rfl | (try dsimp only)
    rename_i k1 a k2 b
    by_cases h1 : k1 = k2
    · simp only [if_pos h1]; rfl
    · simp only [if_neg h1]; rfl
  case ld ag s a =>
    simp only [kopR, kLdO, xop, h.get]
    cases ev a <;> first | rfl | (simp only [Option.map_map]; rfl) | (try dsimp only)
    rename_i b e off
    cases m[b]? with
    | none => rfl
    | some o =>
      cases o <;> first | rfl | (try dsimp only)
      rename_i cells ty ag sz ep
      by_cases h1 : ep = e
      · simp only [if_pos h1]; (simp only [Option.map_map]; rfl)
      · simp only [if_neg h1]; rfl
  case lku kk z mp key ok =>
    simp only [kopR, kLkuO, xop, h.get]
    cases hk : !xkok kk (ev key)
    · simp only [cond_false]
      cases ev mp <;> first | rfl | (try dsimp only)
      · rename_i b
        cases m[b]? with
        | none => rfl
        | some o =>
          cases o <;> first | rfl | (try dsimp only)
          rename_i es clock
          cases xkey kk (ev key) es 0 with
          | none => rfl
          | some q => cases q <;> rfl
      · rename_i ks vs
        cases xpkey kk (ev key) ks vs with
        | none => rfl
        | some q => cases q <;> rfl
    · rfl
  case lenm x =>
    simp only [kopR, kLenmO, xop, h.get]
    cases ev x <;> first | rfl | (try dsimp only)
    rename_i b
    cases m[b]? with
    | none => rfl
    | some o => cases o <;> rfl
  case tas t z x => simp only [kopR, kTasO, xop]; cases ev x <;> rfl
  all_goals rfl

/-- Where the memory changes: what is put there. -/
theorem kop_put (h : MR k m) (ev : XO → V) (o : XOp) {v : V} {k' : KM} (hk : kopR o k ev = some (v, k')) (hfit : k'.len ≤ k'.cap) (h1 : (o.eff || o.alc) = true) : ∃ m', xop m ev o = some (v, m') ∧ MR k' m' := by
  have hpush : ∀ o, (k.push o).len ≤ (k.push o).cap → MR (k.push o) (m ++ [o]) := fun o hf => h.push o hf
  cases o <;> first | (cases h1; done) | (cases hk; done) | skip
  case st s a x =>
    simp only [kopR, kStO, h.get] at hk
    simp only [xop]
    split at hk <;> first | (cases hk; done) | skip
    rename_i b e o ha
    rw [ha]
    dsimp only
    split at hk <;> first | (cases hk; done) | skip
    rename_i cells ty ag sz ep hm
    rw [hm]
    dsimp only at hk ⊢
    split at hk <;> first | (cases hk; done) | skip
    rename_i hc
    rw [if_pos hc]
    cases hk
    exact ⟨_, rfl, h.set hm⟩
  case al z ty ag s =>
    simp only [kopR, kAlO, Option.some.injEq, Prod.mk.injEq] at hk
    obtain ⟨rfl, rfl⟩ := hk
    exact ⟨_, by rw [xop, h.len], hpush _ hfit⟩
  case bx ty ag s x =>
    simp only [kopR, kBxO] at hk
    split at hk <;> first | (cases hk; done) | skip
    rename_i hc
    cases hk
    exact ⟨_, by simp only [xop, hc, if_true, h.len], hpush _ hfit⟩
  case bsl el ag s z n parts =>
    simp only [kopR, kBslO] at hk
    simp only [xop]
    split at hk
    · rename_i hn
      cases hk
      rw [if_pos hn]
      exact ⟨_, rfl, h⟩
    · rename_i hn
      rw [if_neg hn]
      simp only [Option.map_eq_some_iff, Prod.mk.injEq] at hk
      obtain ⟨r, hr, rfl, rfl⟩ := hk
      exact ⟨_, by rw [hr, h.len]; rfl, hpush _ hfit⟩
  case msl el ag s z by_ l c =>
    simp only [kopR, kMslO] at hk
    simp only [xop]
    split at hk <;> first | (cases hk; done) | skip
    rename_i hl hc
    rw [hl, hc]
    dsimp only
    split at hk <;> first | (cases hk; done) | skip
    rename_i hq
    rw [if_pos hq]
    cases hk
    exact ⟨_, by rw [h.len], hpush _ hfit⟩
  case mmp =>
    simp only [kopR, kMmpO, Option.some.injEq, Prod.mk.injEq] at hk
    obtain ⟨rfl, rfl⟩ := hk
    exact ⟨_, by rw [xop, h.len], hpush _ hfit⟩
  case app el ag s by_ a y =>
    simp only [kopR, kAppO, kcells_eq h, h.get] at hk
    simp only [xop]
    split at hk <;> first | (cases hk; done) | skip
    rename_i q hq
    rw [hq]
    dsimp only
    split at hk <;> first | (cases hk; done) | skip
    · rename_i ha
      rw [ha]
      dsimp only
      split at hk <;> first | (cases hk; done) | skip
      rename_i hc
      rw [if_pos hc]
      cases hk
      exact ⟨_, by rw [h.len], hpush _ hfit⟩
    · rename_i b e off len c ha
      rw [ha]
      dsimp only
      split at hk <;> first | (cases hk; done) | skip
      rename_i cells ty ag2 sz ep hm
      rw [hm]
      dsimp only
      split at hk <;> first | (cases hk; done) | skip
      rename_i hc
      rw [if_pos hc]
      cases hk
      exact ⟨_, rfl, h.set hm⟩
  case cpy s x y =>
    simp only [kopR, kCpyO, kcells_eq h, h.get] at hk
    simp only [xop]
    split at hk <;> first | (cases hk; done) | skip
    · rename_i hx
      rw [hx]
      dsimp only
      split at hk <;> first | (cases hk; done) | skip
      rename_i q hq
      rw [hq]
      cases hk
      exact ⟨_, rfl, h⟩
    · rename_i b e off len c hx
      rw [hx]
      dsimp only
      split at hk <;> first | (cases hk; done) | skip
      rename_i cells ty ag sz ep k2 ys hm hq
      rw [hm, hq]
      dsimp only at hk ⊢
      split at hk <;> first | (cases hk; done) | skip
      rename_i hc
      rw [if_pos hc]
      cases hk
      exact ⟨_, rfl, h.set hm⟩
  case upd kk mp key x =>
    simp only [kopR, kUpdO, h.get] at hk
    simp only [xop]
    cases hkk : !xkok kk (ev key) <;> simp only [hkk, cond_true, cond_false] at hk ⊢ <;> first | (cases hk; done) | skip
    split at hk <;> first | (cases hk; done) | skip
    rename_i b hb
    rw [hb]
    dsimp only
    split at hk <;> first | (cases hk; done) | skip
    rename_i es clock hm
    rw [hm]
    dsimp only
    split at hk <;> first | (cases hk; done) | skip
    all_goals
      rename_i hq
      rw [hq]
      cases hk
      exact ⟨_, rfl, h.set hm⟩
  case mpe kk z mp key =>
    simp only [kopR, kMpeO, h.get] at hk
    simp only [xop]
    cases hkk : !xkok kk (ev key) <;> simp only [hkk, cond_true, cond_false] at hk ⊢ <;> first | (cases hk; done) | skip
    split at hk <;> first | (cases hk; done) | skip
    rename_i b hb
    rw [hb]
    dsimp only
    split at hk <;> first | (cases hk; done) | skip
    rename_i es clock hm
    rw [hm]
    dsimp only
    split at hk <;> first | (cases hk; done) | skip
    all_goals
      rename_i hq
      rw [hq]
      cases hk
      exact ⟨_, rfl, h.set hm⟩
  case est mp s x =>
    simp only [kopR, kEstO, h.get] at hk
    simp only [xop]
    split at hk <;> first | (cases hk; done) | skip
    rename_i b k2 n hb hs
    rw [hb, hs]
    dsimp only
    split at hk <;> first | (cases hk; done) | skip
    rename_i es clock hm
    rw [hm]
    dsimp only
    split at hk <;> first | (cases hk; done) | skip
    rename_i i hi
    rw [hi]
    dsimp only
    split at hk <;> first | (cases hk; done) | skip
    rename_i key v2 j he
    rw [he]
    cases hk
    exact ⟨_, rfl, h.set hm⟩

theorem kfit_some {α : Type} {r : Option (α × KM)} {v : α} {k' : KM} (h : kfit r = some (v, k')) : r = some (v, k') ∧ k'.len ≤ k'.cap := by
  cases r with
  | none => cases h
  | some q =>
    obtain ⟨a, b⟩ := q
    cases hb : Nat.ble b.len b.cap
    · simp only [kfit, hb] at h; cases h
    · simp only [kfit, hb, Option.some.injEq, Prod.mk.injEq] at h
      obtain ⟨rfl, rfl⟩ := h
      exact ⟨rfl, Nat.le_of_ble_eq_true hb⟩

theorem kop_sound (h : MR k m) (ev : XO → V) (o : XOp) {v : V} {k' : KM} (hk : kop o k ev = some (v, k')) : ∃ m', xop m ev o = some (v, m') ∧ MR k' m' := by
  obtain ⟨h1, h2⟩ := kfit_some hk
  cases hp : o.eff || o.alc
  · simp only [Bool.or_eq_false_iff] at hp
    rw [kop_keep h ev o hp.1 hp.2] at h1
    simp only [Option.map_eq_some_iff, Prod.mk.injEq] at h1
    obtain ⟨⟨v0, m0⟩, h3, rfl, rfl⟩ := h1
    have hm : m0 = m := by
      cases hmem : o.mem
      · exact (xop_free hp.1 hp.2 hmem h3).1
      · exact (xop_mem hmem [] h3).1
    subst hm
    exact ⟨m0, h3, h⟩
  · exact kop_put h ev o h1 h2 hp

end Go.VC.K

