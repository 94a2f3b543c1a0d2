/- The machine for evaluation finds what the machine finds: code. -/
import Derived.Test.YtibgbgjocbaflaaGreatDoorMe
namespace Go.VC.K
open Go Go.VC

/-- What its calls and rounds find, the machine's find. -/
structure KH (P Q : XP) (C : KCallT) (Y : KYieldT) (Cx : XCall) (Yx : XYield) : Prop where
  gl : Q.gl = P.gl
  call : ∀ {f k m xs out k'}, C f k xs = some (out, k') → MR k m → ∃ m', xcallf Q Cx f m xs = some (out, m') ∧ MR k' m'
  yld : ∀ {b k m xs out k'}, Y b k xs = some (out, k') → MR k m → ∃ m', Yx b m xs = some (out, m') ∧ MR k' m'

structure SR (N : Nat) (s : KSt) (st : XSt) : Prop where
  t : TR N s.t st.t
  m : MR s.m st.m
  df : s.df = st.df

section
variable {P Q : XP} {C : KCallT} {Y : KYieldT} {Cx : XCall} {Yx : XYield} {N : Nat} {s s' : KSt} {st : XSt} {k k' : KM} {m : XM}

theorem KH.ev (H : KH P Q C Y Cx Yx) {kt : KT V} {t : List V} (h : TR N kt t) : kev P kt = xev Q t := by
  rw [h.ev]
  funext x
  cases x <;> simp [xev, H.gl]

theorem KH.calls (H : KH P Q C Y Cx Yx) (hm : MR k m) (ev : XO → V) {o : XOp} {out : Sum V V} (h : kcalls C Y k ev o = some (out, k')) : ∃ m', xcalls Q Cx Yx m ev o = some (out, m') ∧ MR k' m' := by
  cases o with
  | call f xs => exact H.call h hm
  | cav f xs =>
    simp only [kcalls] at h
    simp only [xcalls]
    split at h <;> first | (cases h; done) | skip
    · rename_i n first caps hf
      rw [hf]; exact H.call h hm
    · rename_i b x y hf
      rw [hf]; exact H.yld h hm
  | inv tab x xs =>
    simp only [kcalls] at h
    simp only [xcalls]
    split at h <;> first | (cases h; done) | skip
    rename_i t v hx
    rw [hx]
    dsimp only
    split at h <;> first | (cases h; done) | skip
    rename_i f hf
    rw [hf]
    exact H.call h hm
  | _ => cases h

theorem kkind_spec (o : XOp) : (match kkind o with
    | .op => o.isCall = false ∧ (∀ f xs, o ≠ .dfr f xs) ∧ (∀ x, o ≠ .pan x)
    | .dfr => ∃ f xs, o = .dfr f xs
    | .pan => ∃ x, o = .pan x
    | _ => o.isCall = true) := by
  cases o <;> first | exact ⟨rfl, (fun _ _ h => by cases h), (fun _ h => by cases h)⟩ | rfl | exact ⟨_, _, rfl⟩ | exact ⟨_, rfl⟩

theorem KH.step (H : KH P Q C Y Cx Yx) (hs : SR N s st) {o : XI} {r : Sum Unit V} (h : kstep P C Y N s o = some (r, s')) : ∃ st', xstep Q Cx Yx st o = some (r, st') ∧ SR N s' st' := by
  have hev := H.ev hs.t
  have hk := kkind_spec o.op
  unfold kstep at h
  cases hkk : kkind o.op <;> rw [hkk] at h hk <;> dsimp only at h hk
  case op =>
    obtain ⟨h1, h2, h3⟩ := hk
    unfold kplain at h
    rw [hev] at h
    cases hop : kop o.op s.m (xev Q st.t) with
    | none => rw [hop] at h; cases h
    | some q =>
      obtain ⟨v, k2⟩ := q
      rw [hop] at h
      dsimp only at h
      obtain ⟨m', h4, h5⟩ := kop_sound hs.m _ _ hop
      cases hp : kput N s.t o.dst v with
      | none => rw [hp] at h; cases h
      | some t2 =>
        rw [hp] at h
        simp only [Option.some.injEq, Prod.mk.injEq] at h
        obtain ⟨rfl, rfl⟩ := h
        refine ⟨{ st with t := xput st.t o.dst v, m := m' }, ?_, hs.t.put hp, h5, hs.df⟩
        unfold xstep
        rw [h1]
        simp only [cond_false]
        rw [h4]
  case dfr =>
    obtain ⟨f, xs, ho⟩ := hk
    unfold kdfr at h
    rw [ho] at h
    dsimp only at h
    cases hp : kput N s.t o.dst .und with
    | none => rw [hp] at h; cases h
    | some t2 =>
      rw [hp] at h
      simp only [Option.some.injEq, Prod.mk.injEq] at h
      obtain ⟨rfl, rfl⟩ := h
      refine ⟨{ st with t := xput st.t o.dst .und, df := (f, xs.map (xev Q st.t)) :: st.df }, ?_, hs.t.put hp, hs.m, by rw [hev, hs.df]⟩
      unfold xstep
      rw [ho]
      rfl
  case pan =>
    obtain ⟨x, ho⟩ := hk
    unfold kpan at h
    rw [ho] at h
    dsimp only at h
    rw [hev] at h
    split at h <;> first | (cases h; done) | skip
    rename_i t v hx
    simp only [Option.some.injEq, Prod.mk.injEq] at h
    obtain ⟨rfl, rfl⟩ := h
    refine ⟨st, ?_, hs⟩
    unfold xstep
    rw [ho]
    simp only [XOp.isCall, cond_false]
    rw [hx]
  all_goals
    unfold kcall at h
    rw [hev] at h
    cases hop : kcalls C Y s.m (xev Q st.t) o.op with
    | none => rw [hop] at h; cases h
    | some q =>
      obtain ⟨v | v, k2⟩ := q
      · rw [hop] at h
        dsimp only at h
        obtain ⟨m', h4, h5⟩ := H.calls hs.m _ hop
        cases hp : kput N s.t o.dst v with
        | none => rw [hp] at h; cases h
        | some t2 =>
          rw [hp] at h
          simp only [Option.some.injEq, Prod.mk.injEq] at h
          obtain ⟨rfl, rfl⟩ := h
          refine ⟨{ st with t := xput st.t o.dst v, m := m' }, ?_, hs.t.put hp, h5, hs.df⟩
          unfold xstep
          rw [hk]
          simp only [cond_true]
          rw [h4]
      · rw [hop] at h
        dsimp only at h
        obtain ⟨m', h4, h5⟩ := H.calls hs.m _ hop
        simp only [Option.some.injEq, Prod.mk.injEq] at h
        obtain ⟨rfl, rfl⟩ := h
        refine ⟨{ st with m := m' }, ?_, hs.t, h5, hs.df⟩
        unfold xstep
        rw [hk]
        simp only [cond_true]
        rw [h4]

theorem kwant_eq {kt : KT V} {t : List V} (h : TR N kt t) (g : Option (Nat × Bool)) : kwant kt g = xwant t g := by
  cases g with
  | none => rfl
  | some g =>
    obtain ⟨a, b⟩ := g
    simp only [kwant, xwant, h.get]
    rfl

theorem kskip_spec (hs : SR N s st) {o : XI} (h : kskip N o s = some s') : SR N s' { st with t := xput st.t o.dst .udf } := by
  unfold kskip at h
  cases hp : kput N s.t o.dst .udf with
  | none => rw [hp] at h; cases h
  | some t2 =>
    rw [hp] at h
    cases h
    exact ⟨hs.t.put hp, hs.m, hs.df⟩

theorem KH.ops (H : KH P Q C Y Cx Yx) {l : List XI} : ∀ {s : KSt} {st : XSt} {e : XE}, SR N s st → kops P C Y N l s = some (e, s') → ∃ st', xops Q Cx Yx l st = some (e, st') ∧ SR N s' st' := by
  induction l with
  | nil => intro s st e hs h; cases h; exact ⟨st, rfl, hs⟩
  | cons o l ih =>
    intro s st e hs h
    change kops1 P C Y N o (kops P C Y N l) s = _ at h
    simp only [kops1, kwant_eq hs.t] at h
    simp only [xops]
    cases hw : xwant st.t o.grd with
    | none => rw [hw] at h; cases h
    | some b =>
      rw [hw] at h
      cases b
      · dsimp only at h ⊢
        cases hk : kskip N o s with
        | none => rw [hk] at h; cases h
        | some s2 => rw [hk] at h; exact ih (kskip_spec hs hk) h
      · dsimp only at h ⊢
        cases hk : kstep P C Y N s o with
        | none => rw [hk] at h; cases h
        | some q =>
          obtain ⟨r, s2⟩ := q
          rw [hk] at h
          obtain ⟨st2, h1, h2⟩ := H.step hs hk
          rw [h1]
          cases r with
          | inl _ => exact ih h2 h
          | inr v =>
            dsimp only at h ⊢
            cases h
            exact ⟨st2, rfl, h2⟩

/-- What has looked at the memory. -/
inductive LR (N : Nat) : KLv → XLv → Prop
  | nil : LR N [] []
  | cons {i : Nat} {kt : KT V} {t : List V} {o : XI} {v : V} {a : KLv} {b : XLv} (h : TR N kt t) (h2 : LR N a b) : LR N ((i, kt, o, v) :: a) ((i, t, o, v) :: b)

theorem LR.filter {a : KLv} {b : XLv} (h : LR N a b) (keep : List Nat) : LR N (a.filter fun x => keep.contains x.1) (b.filter fun x => keep.contains x.1) := by
  induction h with
  | nil => exact .nil
  | @cons i kt t o v a b h h2 ih =>
    simp only [List.filter_cons]
    split
    · exact .cons h ih
    · exact ih

theorem KH.same (H : KH P Q C Y Cx Yx) (hm : MR k m) {kt : KT V} {t : List V} (h : TR N kt t) {i : Nat} {o : XI} {v : V} (hk : ksame P k (i, kt, o, v) = true) : xsame Q m (i, t, o, v) = true := by
  unfold ksame at hk
  unfold xsame
  dsimp only at hk ⊢
  rw [H.ev h] at hk
  cases hop : kop o.op k (xev Q t) with
  | none => rw [hop] at hk; cases hk
  | some q =>
    obtain ⟨v2, k2⟩ := q
    rw [hop] at hk
    obtain ⟨m', h4, _⟩ := kop_sound hm _ _ hop
    rw [h4]
    exact hk

theorem KH.all (H : KH P Q C Y Cx Yx) (hm : MR k m) {a : KLv} {b : XLv} (h : LR N a b) (hk : a.all (ksame P k) = true) : b.all (xsame Q m) = true := by
  induction h with
  | nil => rfl
  | cons h h2 ih =>
    simp only [List.all_cons, Bool.and_eq_true] at hk ⊢
    exact ⟨H.same hm h hk.1, ih hk.2⟩

theorem KH.quiet (H : KH P Q C Y Cx Yx) {l : List (Nat × XI)} : ∀ {a : KLv} {b : XLv} {s : KSt} {st : XSt} {a' : KLv}, LR N a b → SR N s st → kquiet P N l a s = some (a', s') → ∃ b' st', xquiet Q l b st = some (b', st') ∧ LR N a' b' ∧ SR N s' st' := by
  induction l with
  | nil => intro a b s st a' ha hs h; cases h; exact ⟨b, st, rfl, ha, hs⟩
  | cons o l ih =>
    intro a b s st a' ha hs h
    obtain ⟨i, o⟩ := o
    change kquiet1 P N (i, o) (kquiet P N l) a s = _ at h
    simp only [kquiet1, kwant_eq hs.t] at h
    simp only [xquiet]
    cases hw : xwant st.t o.grd with
    | none => rw [hw] at h; cases h
    | some c =>
      rw [hw] at h
      cases c
      · dsimp only at h ⊢
        cases hk : kskip N o s with
        | none => rw [hk] at h; cases h
        | some s2 => rw [hk] at h; exact ih ha (kskip_spec hs hk) h
      · dsimp only at h ⊢
        rw [H.ev hs.t] at h
        cases hk : kop o.op s.m (xev Q st.t) with
        | none => rw [hk] at h; cases h
        | some q =>
          obtain ⟨v, k2⟩ := q
          rw [hk] at h
          obtain ⟨m', h1, h2⟩ := kop_sound hs.m _ _ hk
          rw [h1]
          dsimp only at h ⊢
          cases hp : kput N s.t o.dst v with
          | none => rw [hp] at h; cases h
          | some t2 =>
            rw [hp] at h
            dsimp only at h
            refine ih ?_ ?_ h
            · cases o.op.mem
              · exact ha
              · exact .cons hs.t ha
            · exact ⟨hs.t.put hp, h2, hs.df⟩

theorem KH.effect (H : KH P Q C Y Cx Yx) {e : XI} {keep : List Nat} {a a' : KLv} {b : XLv} (ha : LR N a b) (hs : SR N s st) (h : keffect P C Y N e keep a s = some (a', s')) : ∃ b' st', xeffect Q Cx Yx e keep b st = some (b', st') ∧ LR N a' b' ∧ SR N s' st' := by
  unfold keffect at h
  unfold xeffect
  rw [kwant_eq hs.t] at h
  cases hw : xwant st.t e.grd with
  | none => rw [hw] at h; cases h
  | some c =>
    rw [hw] at h
    cases c
    · dsimp only at h ⊢
      cases hk : kskip N e s with
      | none => rw [hk] at h; cases h
      | some s2 =>
        rw [hk] at h
        cases h
        exact ⟨_, _, rfl, ha.filter keep, kskip_spec hs hk⟩
    · dsimp only at h ⊢
      cases hk : kstep P C Y N s e with
      | none => rw [hk] at h; cases h
      | some q =>
        obtain ⟨r, s2⟩ := q
        rw [hk] at h
        obtain ⟨st2, h1, h2⟩ := H.step hs hk
        rw [h1]
        cases r with
        | inr v => cases h
        | inl _ =>
          dsimp only at h ⊢
          cases hal : (a.filter fun x => keep.contains x.1).all (ksame P s2.m)
          · rw [hal] at h; cases h
          · rw [hal] at h
            cases h
            rw [H.all h2.m (ha.filter keep) hal]
            exact ⟨_, _, rfl, ha.filter keep, h2⟩

theorem KH.drw (H : KH P Q C Y Cx Yx) {d : XD} : ∀ {a : KLv} {b : XLv} {s : KSt} {st : XSt}, LR N a b → SR N s st → kdrw P C Y N d a s = some s' → ∃ st', xdrw Q Cx Yx d b st = some st' ∧ SR N s' st' := by
  induction d with
  | fin qs =>
    intro a b s st ha hs h
    simp only [kdrw] at h
    simp only [xdrw]
    cases hk : kquiet P N qs a s with
    | none => rw [hk] at h; cases h
    | some q =>
      obtain ⟨a2, s2⟩ := q
      rw [hk] at h
      cases h
      obtain ⟨b2, st2, h1, h2, h3⟩ := H.quiet ha hs hk
      rw [h1]
      exact ⟨_, rfl, h3⟩
  | one qs i e keep d ih =>
    intro a b s st ha hs h
    simp only [kdrw] at h
    simp only [xdrw]
    cases hk : kquiet P N qs a s with
    | none => rw [hk] at h; cases h
    | some q =>
      obtain ⟨a2, s2⟩ := q
      rw [hk] at h
      dsimp only at h
      obtain ⟨b2, st2, h1, h2, h3⟩ := H.quiet ha hs hk
      rw [h1]
      dsimp only
      cases hk : keffect P C Y N e keep a2 s2 with
      | none => rw [hk] at h; cases h
      | some q =>
        obtain ⟨a3, s3⟩ := q
        rw [hk] at h
        dsimp only at h
        obtain ⟨b3, st3, h4, h5, h6⟩ := H.effect h2 h3 hk
        rw [h4]
        exact ih h5 h6 h
  | two qs i x kx j y ky =>
    intro a b s st ha hs h
    simp only [kdrw] at h
    simp only [xdrw]
    cases hk : kquiet P N qs a s with
    | none => rw [hk] at h; cases h
    | some q =>
      obtain ⟨a2, s2⟩ := q
      rw [hk] at h
      dsimp only at h
      obtain ⟨b2, st2, h1, h2, h3⟩ := H.quiet ha hs hk
      rw [h1]
      dsimp only
      have hap : kapart P s2.t x y = xapart Q st2.t x y := by
        unfold kapart xapart
        rw [H.ev h3.t]
        rfl
      rw [hap] at h
      cases hc : xapart Q st2.t x y
      · rw [hc] at h; simp at h
      rw [hc] at h
      cases hky : keffect P C Y N y ky a2 s2 with
      | none => rw [hky] at h; simp at h
      | some q =>
        obtain ⟨a3, s3⟩ := q
        rw [hky] at h
        obtain ⟨b3, st3, h4, h5, h6⟩ := H.effect h2 h3 hky
        rw [h4]
        simp only [Bool.true_and] at h ⊢
        cases hkx : keffect P C Y N x kx a3 s3 with
        | none => rw [hkx] at h; simp at h
        | some q =>
          obtain ⟨a4, s4⟩ := q
          rw [hkx] at h
          obtain ⟨b4, st4, h7, h8, h9⟩ := H.effect h5 h6 hkx
          rw [h7]
          simp only [Option.isSome_some, cond_true] at h ⊢
          cases hka : keffect P C Y N x kx a2 s2 with
          | none => rw [hka] at h; cases h
          | some q =>
            obtain ⟨a5, s5⟩ := q
            rw [hka] at h
            obtain ⟨b5, st5, g1, g2, g3⟩ := H.effect h2 h3 hka
            rw [g1]
            dsimp only at h ⊢
            cases hkb : keffect P C Y N y ky a5 s5 with
            | none => rw [hkb] at h; cases h
            | some q =>
              obtain ⟨a6, s6⟩ := q
              rw [hkb] at h
              cases h
              obtain ⟨b6, st6, g4, g5, g6⟩ := H.effect g2 g3 hkb
              rw [g4]
              exact ⟨_, rfl, g6⟩

end
end Go.VC.K

/- The machine for evaluation finds what the machine finds: calls. -/
namespace Go.VC.K
open Go Go.VC

section
variable {P Q : XP} {C : KCallT} {Y : KYieldT} {Cx : XCall} {Yx : XYield} {N L : Nat} {s s' : KSt} {st : XSt} {k k' : KM} {m : XM}

theorem kiter_spec {b1 : KSt → Option (XE × KSt)} {b2 : XSt → Option (XE × XSt)} (hb : ∀ {s s' st e}, SR N s st → b1 s = some (e, s') → ∃ st', b2 st = some (e, st') ∧ SR N s' st') : ∀ (n : Nat) {s s' : KSt} {st : XSt} {e : XE}, SR N s st → kiter b1 n s = some (e, s') → ∃ st', xiter b2 n st = some (e, st') ∧ SR N s' st' := by
  intro n
  induction n with
  | zero => intro s s' st e _ h; cases h
  | succ n ih =>
    intro s s' st e hs h
    change (match b1 s with | some (.nrm, st) => kiter b1 n st | r => r) = _ at h
    simp only [xiter]
    cases hk : b1 s with
    | none => rw [hk] at h; cases h
    | some q =>
      obtain ⟨e2, s2⟩ := q
      rw [hk] at h
      obtain ⟨st2, h1, h2⟩ := hb hs hk
      rw [h1]
      cases e2 <;> first | exact ih h2 h | (cases h; exact ⟨_, rfl, h2⟩)

theorem ktl_eq {kt : KT V} {t : List V} (h : TR N kt t) : ktl N kt = t := by
  apply List.ext_getElem?
  intro i
  unfold ktl
  rw [List.getElem?_map]
  by_cases hi : i < N
  · rw [List.getElem?_range hi]
    simp only [Option.map_some, h.get i, List.getD_eq_getElem?_getD]
    have : i < t.length := by rw [h.len]; exact hi
    rw [List.getElem?_eq_getElem this]; rfl
  · rw [List.getElem?_eq_none (by simp; omega), List.getElem?_eq_none (by rw [h.len]; omega)]; rfl

theorem kfill_spec : ∀ (l : List V) (i : Nat) {kt : KT V} {t : List V}, TR N kt t → i + l.length ≤ N → TR N (kfill l i kt) (t.take i ++ (l ++ t.drop (i + l.length)))
  | [], i, kt, t, h, _ => by
    have : t.take i ++ ([] ++ t.drop (i + 0)) = t := by simp
    rw [show ([] : List V).length = 0 from rfl, this]; exact h
  | v :: l, i, kt, t, h, hl => by
    simp only [List.length_cons] at hl
    have h1 := kfill_spec l (i + 1) (h.set (d := i) (by omega) v) (by omega)
    have he : (t.set i v).take (i + 1) ++ (l ++ (t.set i v).drop (i + 1 + l.length)) = t.take i ++ (v :: l ++ t.drop (i + (v :: l).length)) := by
      have hi : i < t.length := by rw [h.len]; omega
      rw [List.set_eq_take_append_cons_drop, if_pos hi, List.take_append, List.drop_append]
      simp only [List.length_take, List.take_take, List.length_cons, List.drop_take]
      have e1 : min i t.length = i := by omega
      rw [e1]
      have e2 : i + 1 - i = 1 := by omega
      have e3 : i + 1 + l.length - i = l.length + 1 := by omega
      have e4 : min (i + 1) i = i := by omega
      rw [e2, e3, e4]
      simp only [List.take_succ_cons, List.take_zero, List.drop_succ_cons, List.append_assoc]
      have e5 : i - (i + 1 + l.length) = 0 := by omega
      rw [e5, List.take_zero, List.drop_drop]
      simp only [List.nil_append, List.cons_append]
      have e6 : i + 1 + l.length = i + (l.length + 1) := by omega
      rw [e6]
    rw [← he]
    exact h1

theorem kmk_spec {l : List V} (h : l.length ≤ N) : TR N (kmk N l) (l ++ List.replicate (N - l.length) .und) := by
  have h0 : TR N (KT.full V.und (Nat.succ (Nat.log2 N))) (List.replicate N .und) := by
    refine ⟨by simp, fun i hi => ?_, fun i => ?_⟩
    · apply KT.has_full
      exact Nat.lt_trans hi Nat.lt_log2_self
    · rw [KT.get_full, List.getD_eq_getElem?_getD, List.getElem?_replicate]
      split <;> rfl
  have h1 := kfill_spec l 0 h0 (by omega)
  have h2 : (List.replicate N V.und).take 0 ++ (l ++ (List.replicate N V.und).drop (0 + l.length)) = l ++ List.replicate (N - l.length) .und := by simp
  rw [h2] at h1
  exact h1

theorem KH.rfn (H : KH P Q C Y Cx Yx) {f : XO} {ps : List Nat} {a b : XC} {e : XE} (hs : SR N s st) (h : krfn P C N f ps a b s = some (e, s')) : ∃ st', xcode Q Cx Yx L (.rfn f ps a b) st = some (e, st') ∧ SR N s' st' := by
  unfold krfn at h
  simp only [xcode]
  rw [H.ev hs.t] at h
  split at h <;> first | (cases h; done) | skip
  rename_i n first caps hf
  rw [hf]
  dsimp only
  cases hlt : Nat.blt s.m.len s.m.cap
  · rw [hlt] at h; cases h
  rw [hlt] at h
  simp only [cond_true] at h
  have hlt' : s.m.len < s.m.cap := Nat.le_of_ble_eq_true hlt
  rw [ktl_eq hs.t, hs.m.len] at h
  cases hc : C n (s.m.push (.loop 0 none st.t ps a b)) (first ++ (.fn (.yield st.m.length) [] [] :: caps)) with
  | none => rw [hc] at h; cases h
  | some q =>
    obtain ⟨out, k2⟩ := q
    rw [hc] at h
    obtain ⟨m2, h1, h2⟩ := H.call hc (hs.m.push _ hlt')
    rw [h1]
    cases out with
    | inl v =>
      dsimp only at h ⊢
      rw [h2.get] at h
      split at h <;> first | (cases h; done) | skip
      rename_i hm
      rw [hm]
      dsimp only
      split at h <;> first | (cases h; done) | skip
      rename_i hne
      rw [if_neg hne]
      cases h
      exact ⟨_, rfl, hs.t, h2.set hm, hs.df⟩
    | inr v =>
      dsimp only at h ⊢
      cases h
      exact ⟨_, rfl, hs.t, h2, hs.df⟩

theorem KH.code (H : KH P Q C Y Cx Yx) {c : XC} : ∀ {s s' : KSt} {st : XSt} {e : XE}, SR N s st → kcode P C Y N L c s = some (e, s') → ∃ st', xcode Q Cx Yx L c st = some (e, st') ∧ SR N s' st' := by
  induction c with
  | skip => intro s s' st e hs h; cases h; exact ⟨_, rfl, hs⟩
  | reg ops => intro s s' st e hs h; exact H.ops hs h
  | drw d =>
    intro s s' st e hs h
    change kdrw1 P C Y N d s = _ at h
    unfold kdrw1 at h
    simp only [xcode]
    cases hk : kdrw P C Y N d [] s with
    | none => rw [hk] at h; cases h
    | some s2 =>
      rw [hk] at h
      cases h
      obtain ⟨st2, h1, h2⟩ := H.drw .nil hs hk
      rw [h1]
      exact ⟨_, rfl, h2⟩
  | seq a b iha ihb =>
    intro s s' st e hs h
    change kthen (kcode P C Y N L a s) (kcode P C Y N L b) = _ at h
    unfold kthen at h
    simp only [xcode]
    cases hk : kcode P C Y N L a s with
    | none => rw [hk] at h; cases h
    | some q =>
      obtain ⟨e2, s2⟩ := q
      rw [hk] at h
      obtain ⟨st2, h1, h2⟩ := iha hs hk
      rw [h1]
      cases e2 <;> first | exact ihb h2 h | (cases h; exact ⟨_, rfl, h2⟩)
  | cond c a b iha ihb =>
    intro s s' st e hs h
    change kcond P c (kcode P C Y N L a) (kcode P C Y N L b) s = _ at h
    unfold kcond at h
    simp only [xcode]
    rw [H.ev hs.t] at h
    split at h <;> first | (cases h; done) | skip
    · rename_i hc; rw [hc]; exact iha hs h
    · rename_i hc; rw [hc]; exact ihb hs h
  | block id b ih =>
    intro s s' st e hs h
    change kblock id (kcode P C Y N L b s) = _ at h
    unfold kblock at h
    simp only [xcode]
    cases hk : kcode P C Y N L b s with
    | none => rw [hk] at h; cases h
    | some q =>
      obtain ⟨e2, s2⟩ := q
      rw [hk] at h
      obtain ⟨st2, h1, h2⟩ := ih hs hk
      rw [h1]
      cases e2 <;> (cases h; exact ⟨_, rfl, h2⟩)
  | loop b ih => intro s s' st e hs h; exact kiter_spec (fun hs h => ih hs h) L hs h
  | exit id => intro s s' st e hs h; cases h; exact ⟨_, rfl, hs⟩
  | ret => intro s s' st e hs h; cases h; exact ⟨_, rfl, hs⟩
  | rfn f ps a b iha ihb => intro s s' st e hs h; exact H.rfn hs h
  | bad => intro s s' st e hs h; cases h

theorem xzip_len : ∀ (ps : List Nat) (t : List V) (xs : List V), (xzip t ps xs).length = t.length
  | [], t, xs => by simp [xzip]
  | p :: ps, t, [] => by simp [xzip]
  | p :: ps, t, v :: vs => by simp only [xzip]; rw [xzip_len ps]; simp

theorem KH.round (H : KH P Q C Y Cx Yx) {b : Nat} {xs : List V} {out : Sum V V} (hm : MR k m) (h : kround P C Y L b k xs = some (out, k')) : ∃ m', xround Q Cx Yx L b m xs = some (out, m') ∧ MR k' m' := by
  unfold kround at h
  unfold xround
  rw [hm.get] at h
  split at h <;> first | (cases h; done) | skip
  rename_i pd t ps a body hmb
  simp only [hmb]
  cases hb : Nat.beq xs.length ps.length
  · rw [hb] at h; cases h
  rw [hb] at h
  simp only [cond_true] at h ⊢
  have ht0 : TR t.length (kmk t.length (xzip t ps xs)) (xzip t ps xs) := by
    have := kmk_spec (N := t.length) (l := xzip t ps xs) (Nat.le_of_eq (xzip_len _ _ _))
    rw [xzip_len] at this
    simpa using this
  have hs0 : SR t.length ⟨kmk t.length (xzip t ps xs), k, []⟩ { t := xzip t ps xs, m := m, df := [] } := ⟨ht0, hm, rfl⟩
  cases hk : kcode P C Y t.length L a ⟨kmk t.length (xzip t ps xs), k, []⟩ with
  | none => rw [hk] at h; cases h
  | some q =>
    obtain ⟨e1, s1⟩ := q
    rw [hk] at h
    obtain ⟨st1, h1, h2⟩ := H.code hs0 hk
    rw [h1]
    cases e1 <;> first | (cases h; done) | skip
    dsimp only at h ⊢
    rw [h2.m.get] at h
    split at h <;> first | (cases h; done) | skip
    rename_i p2 t2 ps2 a2 b2 hm2
    simp only [hm2]
    cases hk : kcode P C Y t.length L body ⟨s1.t, s1.m.set b (.loop 1 p2 t2 ps2 a2 b2), s1.df⟩ with
    | none => rw [hk] at h; cases h
    | some q =>
      obtain ⟨e2, s2⟩ := q
      rw [hk] at h
      obtain ⟨st2, h3, h4⟩ := H.code (s := ⟨s1.t, s1.m.set b (.loop 1 p2 t2 ps2 a2 b2), s1.df⟩) (st := { st1 with m := st1.m.set b (.loop 1 p2 t2 ps2 a2 b2) }) ⟨h2.t, h2.m.set hm2, h2.df⟩ hk
      rw [h3]
      dsimp only at h ⊢
      rw [h4.m.get] at h
      split at h <;> first | (cases h; done) | skip
      rename_i p3 t3 ps3 a3 b3 hm3
      simp only [hm3]
      cases e2 <;> first | (cases h; done) | (cases h; exact ⟨_, rfl, h4.m.set hm3⟩)

theorem kres_spec (hm : MR k m) {kt : KT V} {t : List V} (ht : TR N kt t) : ∀ {l : List XS} {vs : List V}, kres k kt l = some vs → xres m t l = some vs := by
  intro l
  induction l with
  | nil => intro vs h; exact h
  | cons x l ih =>
    intro vs h
    cases x with
    | t i =>
      simp only [kres] at h
      simp only [xres]
      cases hk : kres k kt l with
      | none => rw [hk] at h; cases h
      | some q => rw [hk] at h; rw [ih hk, ← ht.get]; exact h
    | cell a ag s =>
      simp only [kres] at h
      simp only [xres]
      rw [ht.get] at h
      cases hop : kop (.ld ag s (.t 0)) k (fun _ => t.getD a .und) with
      | none => rw [hop] at h; cases h
      | some q =>
        obtain ⟨v, k2⟩ := q
        rw [hop] at h
        obtain ⟨m', h1, _⟩ := kop_sound hm _ _ hop
        rw [h1]
        cases hk : kres k kt l with
        | none => rw [hk] at h; cases h
        | some q => rw [hk] at h; rw [ih hk]; exact h

theorem KH.codeS (H : KH P Q C Y Cx Yx) {c : XC} : ∀ {s s' : KSt} {st : XSt} {p p' : Option V} {e : XE}, SR N s st → kcodeS P C Y N L c s p = some (e, s', p') → ∃ st', xcodeS Q Cx Yx L c st p = some (e, st', p') ∧ SR N s' st' := by
  have key : ∀ (c : XC) {s s' : KSt} {st : XSt} {p p' : Option V} {e : XE}, SR N s st → ((kcode P C Y N L c s).map fun (e, st) => (e, st, p)) = some (e, s', p') → ∃ st', ((xcode Q Cx Yx L c st).map fun (e, st) => (e, st, p)) = some (e, st', p') ∧ SR N s' st' := by
    intro c s s' st p p' e hs h
    cases hk : kcode P C Y N L c s with
    | none => rw [hk] at h; cases h
    | some q =>
      obtain ⟨e2, s2⟩ := q
      rw [hk] at h
      cases h
      obtain ⟨st2, h1, h2⟩ := H.code hs hk
      rw [h1]
      exact ⟨_, rfl, h2⟩
  induction c with
  | seq a b iha ihb =>
    intro s s' st p p' e hs h
    simp only [kcodeS] at h
    simp only [xcodeS]
    cases hk : kcodeS P C Y N L a s p with
    | none => rw [hk] at h; cases h
    | some q =>
      obtain ⟨e2, s2, p2⟩ := q
      rw [hk] at h
      obtain ⟨st2, h1, h2⟩ := iha hs hk
      rw [h1]
      cases e2 <;> first | exact ihb h2 h | (cases h; exact ⟨_, rfl, h2⟩)
  | reg ops =>
    intro s s' st p p' e hs h
    rcases ops with _ | ⟨⟨dst, op, grd⟩, _ | ⟨o2, ops⟩⟩
    · exact key _ hs h
    · by_cases hr : op = .rcv ∧ grd = none
      · obtain ⟨rfl, rfl⟩ := hr
        change (match kput N s.t dst (p.getD .nifc) with
          | some t => some (XE.nrm, KSt.mk t s.m s.df, none)
          | none => none) = _ at h
        cases hp : kput N s.t dst (p.getD .nifc) with
        | none => rw [hp] at h; cases h
        | some t2 =>
          rw [hp] at h
          cases h
          exact ⟨_, rfl, hs.t.put hp, hs.m, hs.df⟩
      · have e1 : kcodeS P C Y N L (.reg [⟨dst, op, grd⟩]) s p = ((kcode P C Y N L (.reg [⟨dst, op, grd⟩]) s).map fun (e, st) => (e, st, p)) := by
          cases op <;> cases grd <;> first | rfl | exact absurd ⟨rfl, rfl⟩ hr
        have e2 : xcodeS Q Cx Yx L (.reg [⟨dst, op, grd⟩]) st p = ((xcode Q Cx Yx L (.reg [⟨dst, op, grd⟩]) st).map fun (e, st) => (e, st, p)) := by
          cases op <;> cases grd <;> first | rfl | exact absurd ⟨rfl, rfl⟩ hr
        rw [e1] at h
        rw [e2]
        exact key _ hs h
    · have e1 : kcodeS P C Y N L (.reg (⟨dst, op, grd⟩ :: o2 :: ops)) s p = ((kcode P C Y N L (.reg (⟨dst, op, grd⟩ :: o2 :: ops)) s).map fun (e, st) => (e, st, p)) := by
        cases op <;> cases grd <;> rfl
      have e2 : xcodeS Q Cx Yx L (.reg (⟨dst, op, grd⟩ :: o2 :: ops)) st p = ((xcode Q Cx Yx L (.reg (⟨dst, op, grd⟩ :: o2 :: ops)) st).map fun (e, st) => (e, st, p)) := by
        cases op <;> cases grd <;> rfl
      rw [e1] at h
      rw [e2]
      exact key _ hs h
  | _ => intro s s' st p p' e hs h; exact key _ hs h

end
end Go.VC.K

/- What the machine for evaluation finds is so. -/
namespace Go.VC.K
open Go Go.VC

section
variable {P Q : XP} {C : KCallT} {Y : KYieldT} {Cx : XCall} {Yx : XYield} {N L : Nat} {s s' : KSt} {st : XSt} {k k' : KM} {m : XM}

/-- The functions are the same, but for the mark. -/
def SameF (P Q : XP) : Prop := ∀ {f F}, P.fn f = some F → ∃ F', Q.fn f = some F' ∧ F'.res = F.res ∧ F'.body = F.body ∧ F'.n = F.n

theorem KH.def (H : KH P Q C Y Cx Yx) (hF : SameF P Q) {f : Nat} {p p' : Option V} {xs : List V} (hm : MR k m) (h : kdef P C Y L f p k xs = some (p', k')) : ∃ m', xdef Q Cx Yx L f p m xs = some (p', m') ∧ MR k' m' := by
  unfold kdef at h
  unfold xdef
  cases hf : P.fn f with
  | none => rw [hf] at h; cases h
  | some F =>
    obtain ⟨F', h1, h2, h3, h4⟩ := hF hf
    rw [hf] at h
    rw [h1]
    simp only [h2, h3, h4] at h ⊢
    split at h <;> first | (cases h; done) | skip
    rename_i hc
    simp only [Bool.and_eq_true] at hc
    obtain ⟨⟨hc1, hc2⟩, hc3⟩ := hc
    rw [if_pos (by rw [hc1, hc2]; rfl)]
    have hs0 : SR F.n ⟨kmk F.n xs, k, []⟩ { t := xs ++ List.replicate (F.n - xs.length) .und, m := m, df := [] } := ⟨kmk_spec (Nat.le_of_ble_eq_true hc3), hm, rfl⟩
    cases hk : kcodeS P C Y F.n L F.body ⟨kmk F.n xs, k, []⟩ p with
    | none => rw [hk] at h; cases h
    | some q =>
      obtain ⟨e, s2, p2⟩ := q
      rw [hk] at h
      obtain ⟨st2, h5, h6⟩ := H.codeS hs0 hk
      rw [h5]
      cases e <;> first | (cases h; done) | skip
      all_goals
        dsimp only at h ⊢
        rw [h6.df] at h
        split at h <;> first | (cases h; done) | skip
        rename_i hd
        rw [if_pos hd]
        cases h
        exact ⟨_, rfl, h6.m⟩

theorem KH.leave (H : KH P Q C Y Cx Yx) (hF : SameF P Q) {l : List (Nat × List V)} : ∀ {p p' : Option V} {k k' : KM} {m : XM}, MR k m → kleave P C Y L l p k = some (p', k') → ∃ m', xleave Q Cx Yx L l p m = some (p', m') ∧ MR k' m' := by
  induction l with
  | nil => intro p p' k k' m hm h; cases h; exact ⟨_, rfl, hm⟩
  | cons o l ih =>
    intro p p' k k' m hm h
    obtain ⟨f, xs⟩ := o
    simp only [kleave] at h
    simp only [xleave]
    cases hk : kdef P C Y L f p k xs with
    | none => rw [hk] at h; cases h
    | some q =>
      obtain ⟨p2, k2⟩ := q
      rw [hk] at h
      obtain ⟨m2, h1, h2⟩ := H.def hF hm hk
      rw [h1]
      exact ih h2 h

end

theorem sameF_noPure (P : XP) : SameF P (noPure P) := by
  intro f F h
  exact ⟨{ F with pure := false }, by simp [noPure, h], rfl, rfl, rfl⟩

section
variable {P : XP} {T : List XEnt} {L : Nat} {k k' : KM} {m : XM}

theorem klib_spec (hm : MR k m) {Lk : XL} {xs : List V} {v : V} (h : kfit (klib Lk k xs) = some (v, k')) : ∃ m', xlib Lk m xs = some (v, m') ∧ MR k' m' := by
  obtain ⟨h1, hfit⟩ := kfit_some h
  have hpush : ∀ o, (k.push o).len ≤ (k.push o).cap → MR (k.push o) (m ++ [o]) := fun o hf => hm.push o hf
  have hspl : ∀ {a : V} {i j : Int} {n : Nat} {ys : List V} {v : V} {k' : KM}, ksplice Lk k a i j n ys = some (v, k') → k'.len ≤ k'.cap → ∃ m', xsplice Lk m a i j n ys = some (v, m') ∧ MR k' m' := by
    intro a i j n ys v k' h hfit
    unfold ksplice at h
    unfold xsplice
    rw [hm.len] at h
    split at h <;> first | (cases h; done) | skip
    · split at h <;> first | (cases h; done) | skip
      rename_i hc
      rw [if_pos hc]
      cases h
      exact ⟨_, rfl, hpush _ hfit⟩
    · dsimp only at h ⊢
      rw [hm.get] at h
      split at h <;> first | (cases h; done) | skip
      rename_i hmb
      rw [hmb]
      dsimp only
      split at h <;> first | (cases h; done) | skip
      rename_i hc
      rw [if_pos hc]
      cases h
      exact ⟨_, rfl, hm.set hmb⟩
  unfold klib at h1
  unfold xlib
  split at h1 <;> first | (cases h1; done) | skip
  · rename_i a hk
    rw [hk]
    dsimp only
    rw [kcells_eq hm] at h1
    split at h1 <;> first | (cases h1; done) | skip
    · rename_i y hq; rw [hq]; cases h1; exact ⟨_, rfl, hm⟩
    · rename_i n ys hne hq
      rw [hq]
      split at h1 <;> first | (cases h1; done) | skip
      rename_i hc
      cases h1
      cases n with
      | zero => first | exact (hne rfl).elim | exact (hne _ rfl).elim | exact (hne _ rfl rfl).elim
      | succ n =>
        simp only [if_pos hc, hm.len]
        exact ⟨_, rfl, hpush _ hfit⟩
  · rename_i a i v2 hk
    rw [hk]
    dsimp only
    split at h1 <;> first | (cases h1; done) | skip
    rename_i hc
    rw [if_pos hc]
    rw [kcells_eq hm] at h1
    cases hq : xcells m Lk.s v2 with
    | none => rw [hq] at h1; cases h1
    | some q => rw [hq] at h1; exact hspl h1 hfit
  · rename_i a i j v2 hk
    rw [hk]
    dsimp only
    simp only [kcells_eq hm] at h1
    cases hq : xcells m Lk.s v2 with
    | none => rw [hq] at h1; cases h1
    | some q =>
      rw [hq] at h1
      simp only [Option.bind_some] at h1 ⊢
      split at h1 <;> first | (cases h1; done) | skip
      rename_i hc
      rw [if_pos hc]
      exact hspl h1 hfit
  · rename_i n hk
    rw [hk]
    dsimp only
    split at h1 <;> first | (cases h1; done) | skip
    rename_i hc
    rw [if_pos hc]
    cases h1
    rw [hm.len]
    exact ⟨_, rfl, hpush _ hfit⟩

/-- What the machine's calls are to the machine's for evaluation. -/
def CallOk (P : XP) (K : XF → KM → List V → Option (Sum V V × KM)) (C : XCall) : Prop := ∀ f F k m xs out k', P.fn f = some F → K F k xs = some (out, k') → MR k m → ∃ m', C f m xs = some ⟨out, m'⟩ ∧ MR k' m'

theorem kcf_spec {K : XF → KM → List V → Option (Sum V V × KM)} {C : XCall} (hK : CallOk P K C) {f : Nat} {xs : List V} {out : Sum V V} (hm : MR k m) (h : kcf P T K f k xs = some (out, k')) : ∃ m', xcallf (noPure P) (kC P T C) f m xs = some (out, m') ∧ MR k' m' := by
  unfold kcf at h
  unfold xcallf
  cases hf : P.fn f with
  | none =>
    rw [hf] at h
    simp only [noPure, hf, Option.map_none]
    dsimp only at h
    cases hl : P.lib f with
    | none => rw [hl] at h; cases h
    | some Lk =>
      rw [hl] at h
      dsimp only at h ⊢
      cases hq : kfit (klib Lk k xs) with
      | none => rw [hq] at h; cases h
      | some q =>
        obtain ⟨v, k2⟩ := q
        rw [hq] at h
        cases h
        obtain ⟨m', h1, h2⟩ := klib_spec hm hq
        rw [h1]
        exact ⟨_, rfl, h2⟩
  | some F =>
    rw [hf] at h
    simp only [noPure, hf, Option.map_some, cond_false]
    simp only [kC, hf]
    have hin : K F k xs = some (out, k') → ∃ m', (C f m xs).map (fun r => (r.out, r.m)) = some (out, m') ∧ MR k' m' := by
      intro h
      obtain ⟨m', h1, h2⟩ := hK _ _ _ _ _ _ _ hf h hm
      rw [h1]
      exact ⟨_, rfl, h2⟩
    cases hp : F.pure
    · simp only [hp, cond_false] at h ⊢
      exact hin h
    · simp only [hp, cond_true] at h ⊢
      have hfz : xs.map (kfrz k.get 9) = xs.map (xfrz m 9) := by
        congr 1; funext v; exact kfrz_eq hm 9 v
      rw [hfz] at h
      cases hk : kfind f (xs.map (xfrz m 9)) T with
      | none => rw [hk] at h; cases h
      | some e =>
        rw [hk] at h
        dsimp only at h ⊢
        cases hq : e.ok || xs.all (xpure 9)
        · rw [hq] at h
          exact hin h
        · rw [hq] at h
          cases h
          exact ⟨_, rfl, hm⟩

theorem kbody_spec {C : KCallT} {Y : KYieldT} {n : Nat} (H : KH P (noPure P) C Y (kC P T (krun P T L n)) (kyield P T L n)) : CallOk P (kbody P C Y L) (krun P T L (n + 1)) := by
  intro f F k m xs out k' hf h hm
  unfold kbody at h
  simp only [krun, hf]
  cases hb : Nat.ble xs.length F.n
  · rw [hb] at h; cases h
  rw [hb] at h
  simp only [cond_true] at h
  have hs0 : SR F.n ⟨kmk F.n xs, k, []⟩ { t := xs ++ List.replicate (F.n - xs.length) .und, m := m, df := [] } := ⟨kmk_spec (Nat.le_of_ble_eq_true hb), hm, rfl⟩
  cases hk : kcode P C Y F.n L F.body ⟨kmk F.n xs, k, []⟩ with
  | none => rw [hk] at h; cases h
  | some q =>
    obtain ⟨e, s2⟩ := q
    rw [hk] at h
    obtain ⟨st2, h5, h6⟩ := H.code hs0 hk
    rw [h5]
    have hret : ∀ {q : Option V}, (match kleave P C Y L s2.df q s2.m with
          | some (none, m) => (kres m s2.t F.res).map fun vs => (Sum.inl (xpack vs), m)
          | _ => none) = some (out, k') → ∃ m', (match xleave (noPure P) (kC P T (krun P T L n)) (kyield P T L n) L st2.df q st2.m with
          | some (none, m) => (xres m st2.t F.res).map fun vs => ({ out := .inl (xpack vs), m := m } : XR)
          | _ => none) = some ⟨out, m'⟩ ∧ MR k' m' := by
      intro q h
      cases hl : kleave P C Y L s2.df q s2.m with
      | none => rw [hl] at h; cases h
      | some z =>
        obtain ⟨p, k2⟩ := z
        rw [hl] at h
        rw [h6.df] at hl
        obtain ⟨m2, h7, h8⟩ := H.leave (sameF_noPure P) h6.m hl
        rw [h7]
        cases p with
        | some v => cases h
        | none =>
          dsimp only at h ⊢
          cases hr : kres k2 s2.t F.res with
          | none => rw [hr] at h; cases h
          | some vs =>
            rw [hr] at h
            cases h
            rw [kres_spec h8 h6.t hr]
            exact ⟨_, rfl, h8⟩
    cases e with
    | nrm => exact hret h
    | ret => exact hret h
    | exit i => cases h
    | pan v =>
      dsimp only at h ⊢
      cases hl : kleave P C Y L s2.df (some v) s2.m with
      | none => rw [hl] at h; cases h
      | some z =>
        obtain ⟨p, k2⟩ := z
        rw [hl] at h
        rw [h6.df] at hl
        obtain ⟨m2, h7, h8⟩ := H.leave (sameF_noPure P) h6.m hl
        rw [h7]
        cases p with
        | some v => cases h; exact ⟨_, rfl, h8⟩
        | none =>
          dsimp only at h ⊢
          split at h <;> first | (cases h; done) | skip
          rename_i hc
          cases h
          rw [if_pos hc]
          exact ⟨_, rfl, h8⟩

theorem kmach_spec : ∀ (n : Nat), CallOk P (kmach P T L n).1 (krun P T L n) ∧ (∀ b k m xs out k', (kmach P T L n).2 b k xs = some (out, k') → MR k m → ∃ m', kyield P T L n b m xs = some (out, m') ∧ MR k' m')
  | 0 => ⟨fun _ _ _ _ _ _ _ _ h _ => by (change none = _ at h; cases h), fun _ _ _ _ _ _ h _ => by (change none = _ at h; cases h)⟩
  | n + 1 => by
    obtain ⟨h1, h2⟩ := kmach_spec n
    have H : KH P (noPure P) (kcf P T (kmach P T L n).1) (kmach P T L n).2 (kC P T (krun P T L n)) (kyield P T L n) :=
      { gl := rfl
        call := fun h hm => kcf_spec h1 hm h
        yld := fun h hm => h2 _ _ _ _ _ _ h hm }
    refine ⟨kbody_spec H, fun b k m xs out k' h hm => ?_⟩
    change kround P (kcf P T (kmach P T L n).1) (kmach P T L n).2 L b k xs = _ at h
    simp only [kyield]
    exact H.round hm h

/-- A call is as it is told, if those that it makes are. -/
theorem kchk_holds {n D : Nat} {e : XEnt} (hk : kchk P T L n D e = true) (hT : ∀ x ∈ T, x.holds P L) : e.holds P L := by
  unfold kchk at hk
  cases hf : P.fn e.f with
  | none => rw [hf] at hk; cases hk
  | some F =>
    rw [hf] at hk
    dsimp only at hk
    have hm0 : MR ⟨.full none D, 0, 2 ^ D⟩ [] := ⟨rfl, Nat.zero_le _, fun i hi => KT.has_full _ _ _ hi, fun i => by show KT.get none (KT.full none D) i = _; rw [KT.get_full]; simp⟩
    split at hk <;> first | (cases hk; done) | skip
    rename_i v k' hr
    obtain ⟨m', h1, h2⟩ := (kmach_spec n).1 _ _ _ _ _ _ _ hf hr hm0
    apply kent_holds (n := n) (T := T) ?_ hT
    unfold kent
    rw [h1]
    dsimp only
    rw [kfrz_eq h2, kfresh_eq h2] at hk
    exact hk

end
end Go.VC.K

