/- The machine's operations do what the program's do: a key may be looked up. -/
import Derived.Test.YtibgbgjocbaflaaGreatDoorMb
namespace Go.VC
open Go Go.RowKit

section
variable {P : Program} {g : G} {w : World}

theorem xsames_length {l : List Nat} : ∀ {A B : List V} {b}, xsames l A B = some b → A.length = l.length ∧ B.length = l.length := by
  induction l with
  | nil => intro A B b h; obtain ⟨rfl, rfl, _⟩ := xsames_nil h; simp
  | cons k l ih2 =>
    intro A B b h
    unfold xsames at h
    split at h <;> first | (cases h; done) | skip
    · rename_i heq; cases heq
    · rename_i heq
      simp only [List.cons.injEq] at heq
      obtain ⟨_, rfl⟩ := heq
      split at h <;> first | (cases h; done) | skip
      obtain ⟨r, hr, _⟩ := Option.map_eq_some_iff.1 h
      simp [ih2 hr]
    all_goals
      rename_i heq
      simp only [List.cons.injEq] at heq
      obtain ⟨_, rfl⟩ := heq
      obtain ⟨r, hr, _⟩ := Option.map_eq_some_iff.1 h
      simp [ih2 hr]

/-- A part of a struct, with its cells. -/
theorem part_shape {K : Option (List Nat)} {t : TypeId} {l : List Nat} {off : Nat} (hK : tag P t = some true ∨ (tag P t = some false ∧ l.length = 1)) (hs : tsz P t = some l.length) (cs : List V) (vs : Array Value) (h1 : vs.size = cs.length)
    (h2 : ∀ (i : Nat) c, cs[i]? = some c → VR w g c (vs.getD i undef)) (h3 : ((cs.drop off).take l.length).length = l.length) :
    ∃ v cv, Shape P t v ((cs.drop off).take l.length) ∧ (part t vs off).run P w = .ok cv w ∧ VR w g v cv := by
  rcases hK with ht | ⟨ht, hl1⟩
  · obtain ⟨cv, r1, r2⟩ := vpart_sound (E := ⟨P, fun _ => none⟩) (t := t) (cs := cs) (off := off) (v := .agg ((cs.drop off).take l.length)) (by simp [vpart, ht, hs]) h1 h2
    exact ⟨_, cv, .inl ⟨ht, rfl⟩, r1, r2⟩
  · rw [hl1] at h3 ⊢
    obtain ⟨v, hv⟩ : ∃ v, (cs.drop off).take 1 = [v] := List.length_eq_one_iff.1 h3
    have hv0 : cs[off]? = some v := by
      have : ((cs.drop off).take 1)[0]? = some v := by rw [hv]; rfl
      rw [List.getElem?_take, if_pos (by omega), List.getElem?_drop] at this
      simpa using this
    obtain ⟨cv, r1, r2⟩ := vpart_sound (E := ⟨P, fun _ => none⟩) (t := t) (cs := cs) (off := off) (v := v) (by simp [vpart, ht, hv0]) h1 h2
    exact ⟨v, cv, .inr ⟨ht, hv⟩, r1, r2⟩

def kstep (e : Bool) (d : Nat) (vs : Array Value) (f : Field) (_ : PUnit.{1}) : Sem (ForInStep PUnit.{1}) :=
  if f.name ≠ "_" then do
    let v ← part f.type vs f.offset
    Instr.checkKey e d f.type v
    pure (ForInStep.yield PUnit.unit)
  else pure (ForInStep.yield PUnit.unit)

theorem kstep_all {K : TypeId → Option (List Nat)} {e : Bool} {d : Nat} {cs : List V} {vs : Array Value} (hK : ∀ t l, K t = some l → tag P t = some true ∨ (tag P t = some false ∧ l.length = 1)) (h1 : vs.size = cs.length)
    (h2 : ∀ (i : Nat) c, cs[i]? = some c → VR w g c (vs.getD i undef))
    (ih : ∀ t ks v cs cv, K t = some ks → Shape P t v cs → cs.length = ks.length → VR w g v cv → (Instr.checkKey e d t cv).run P w = .ok () w) :
    ∀ (fs : List Field) (o : Nat) (ks : List Nat), tkL P K fs o = some ks → o + ks.length ≤ cs.length → (forIn fs PUnit.unit (kstep e d vs) : Sem PUnit).run P w = .ok PUnit.unit w := by
  intro fs
  induction fs with
  | nil => intro o ks _ _; simp
  | cons f fs ihf =>
    intro o ks hk hl0
    unfold tkL at hk
    split at hk <;> first | (cases hk; done) | skip
    rename_i hn
    simp only [not_or, Decidable.not_not] at hn
    obtain ⟨hn, rfl⟩ := hn
    split at hk <;> first | (cases hk; done) | skip
    rename_i l hl
    split at hk <;> first | (cases hk; done) | skip
    rename_i hs
    obtain ⟨ks', hk', rfl⟩ := Option.map_eq_some_iff.1 hk
    rw [List.length_append] at hl0
    have h3 : ((cs.drop f.offset).take l.length).length = l.length := by simp; omega
    obtain ⟨v, cv, s1, p1, v1⟩ := part_shape (K := none) (hK _ _ hl) hs cs vs h1 h2 h3
    have hc := ih _ _ _ _ _ hl s1 h3 v1
    have hr := ihf _ _ hk' (by omega)
    simp only [List.forIn_cons, kstep, hn, ne_eq, not_false_eq_true, if_true, Sem.run_bind, p1, hc, Result.andThen_ok, Sem.run_pure]
    exact hr

theorem checkKey_kinds {e : Bool} : ∀ (n : Nat) (t : TypeId) (ks : List Nat) (d : Nat) (v : V) (cs : List V) (cv : Value), tkinds P n t = some ks → n ≤ d → Shape P t v cs → cs.length = ks.length → VR w g v cv →
    (Instr.checkKey e d t cv).run P w = .ok () w := by
  intro n
  induction n with
  | zero => intro t ks d v cs cv h; cases h
  | succ n ih =>
    intro t ks d v cs cv h hd s1 hl h1
    obtain ⟨d, rfl⟩ : ∃ d', d = d' + 1 := ⟨d - 1, by omega⟩
    unfold tkinds at h
    split at h <;> first | (cases h; done) | skip
    all_goals rename_i hu
    · simp [Instr.checkKey, run_underlying hu]
    · simp [Instr.checkKey, run_underlying hu]
    · simp [Instr.checkKey, run_underlying hu]
    · rename_i fs
      split at h <;> first | (cases h; done) | skip
      have ht : tag P t = some true := by simp [tag, hu, aggD]
      obtain rfl : v = .agg cs := by
        rcases s1 with ⟨_, h1⟩ | ⟨h1, _⟩
        · exact h1
        · rw [ht] at h1; cases h1
      cases h1 with
      | agg _ vs hl1 hv1 =>
        have := kstep_all (K := tkinds P n) (e := e) (d := d) (fun t l => tkinds_tag) hl1 hv1 (fun t ks v cs cv k1 k2 k3 k4 => ih t ks d v cs cv k1 (by omega) k2 k3 k4) fs.toList 0 ks h (by omega)
        simp only [Instr.checkKey, Sem.run_bind, run_underlying hu, Result.andThen_ok]
        rw [← Array.forIn_toList]
        change (Sem.run P (forIn fs.toList PUnit.unit (kstep e d vs)) w).andThen _ = _
        rw [this]
        rfl

end
end Go.VC

/- The machine's operations do what the program's do: a key is found. -/
namespace Go.VC
open Go Go.RowKit

section
variable {P : Program} {g : G} {w : World}

theorem xkey_spec {kk : XK} {k : V} : ∀ (es : List (V × V × Nat)) (i j : Nat) (v : V) (n : Nat), xkey kk k es i = some (some (j, v, n)) → i ≤ j ∧ ∃ k', es[j - i]? = some (k', v, n) ∧ xeq kk k k' = some true := by
  intro es
  induction es with
  | nil => intro i j v n h; simp [xkey] at h
  | cons e es ih =>
    obtain ⟨k', v', n'⟩ := e
    intro i j v n h
    unfold xkey at h
    split at h <;> first | (cases h; done) | skip
    · rename_i hx
      simp only [Option.some.injEq, Prod.mk.injEq] at h
      obtain ⟨rfl, rfl, rfl⟩ := h
      exact ⟨Nat.le_refl _, k', by simp, hx⟩
    · obtain ⟨h1, k2, h2, h3⟩ := ih _ _ _ _ h
      refine ⟨by omega, k2, ?_, h3⟩
      rw [show j - i = (j - (i + 1)) + 1 by omega]
      simpa using h2

/-- What is found is what the machine finds. -/
def FoundR (w : World) (g : G) : Option (Nat × V × Nat) → Option (Nat × Value) → Prop
  | none, none => True
  | some (j, v, _), some (j', cv) => j = j' ∧ VR w g v cv
  | _, _ => False

/-- A kind and a key's type. -/
def KindT (P : Program) (t : TypeId) : XK → Prop
  | .int => ∃ k, P.underlying t = some (.int k)
  | .str => P.underlying t = some .string
  | .bool => P.underlying t = some .bool
  | .flat ks => tkinds P 4 t = some ks ∧ ∃ fs, P.underlying t = some (.struct fs)
  | _ => False

theorem findNow_sound {kk : XK} {d : TypeDesc} (hd : (kk = .int ∧ ∃ k, d = .int k) ∨ (kk = .str ∧ d = .string) ∨ (kk = .bool ∧ d = .bool)) {k : V} {ck : Value} (hk : VR w g k ck) :
    ∀ (es : List (V × V × Nat)) (ces : List MapEntry) (i : Nat) (r : Option (Nat × V × Nat)), ces.length = es.length →
      (∀ (j : Nat) k v n, es[j]? = some (k, v, n) → ∃ e : MapEntry, ces[j]? = some e ∧ VR w g k e.key ∧ VR w g v e.val) → xkey kk k es i = some r →
      ∃ r', Instr.findNow d ck ces i = some r' ∧ FoundR w g r r' := by
  intro es
  induction es with
  | nil =>
    intro ces i r hl _ h
    obtain rfl : ces = [] := List.eq_nil_of_length_eq_zero (by simpa using hl)
    simp only [xkey, Option.some.injEq] at h
    subst h
    exact ⟨none, rfl, trivial⟩
  | cons e es ih =>
    obtain ⟨k', v', n'⟩ := e
    intro ces i r hl hv h
    cases ces with
    | nil => simp at hl
    | cons ce ces =>
      obtain ⟨ce', e1, e2, e3⟩ := hv 0 k' v' n' rfl
      obtain rfl : ce = ce' := by simpa using e1
      have hsame : ∀ b, xeq kk k k' = some b → Instr.sameNow d ck ce.key = some b := by
        intro b hb
        rcases hd with ⟨rfl, kd, rfl⟩ | ⟨rfl, rfl⟩ | ⟨rfl, rfl⟩
        · cases hk <;> simp only [xeq, reduceCtorEq] at hb
          generalize hkey : ce.key = key at e2
          cases e2 <;> simp only [xeq, reduceCtorEq] at hb
          simpa [Instr.sameNow] using hb
        · cases hk <;> simp only [xeq, reduceCtorEq] at hb
          generalize hkey : ce.key = key at e2
          cases e2 <;> simp only [xeq, reduceCtorEq] at hb
          simp only [Instr.sameNow]
          rw [beq_toListBytes, toList_mk, toList_mk]
          exact hb
        · cases hk <;> simp only [xeq, reduceCtorEq] at hb
          generalize hkey : ce.key = key at e2
          cases e2 <;> simp only [xeq, reduceCtorEq] at hb
          simpa [Instr.sameNow] using hb
      unfold xkey at h
      split at h <;> first | (cases h; done) | skip
      · rename_i hx
        simp only [Option.some.injEq] at h
        subst h
        exact ⟨some (i, ce.val), by simp [Instr.findNow, hsame _ hx], rfl, e3⟩
      · rename_i hx
        obtain ⟨r', h1, h2⟩ := ih ces (i + 1) r (by simpa using hl) (fun j k v n hj => by simpa using hv (j + 1) k v n (by simpa using hj)) h
        exact ⟨r', by simp [Instr.findNow, hsame _ hx, h1], h2⟩

theorem findAsking_sound {kt : TypeId} {ks : List Nat} (hks : tkinds P 4 kt = some ks) (hag : tag P kt = some true) {k : V} {ck : Value} (hk : VR w g k ck) :
    ∀ (es : List (V × V × Nat)) (ces : List MapEntry) (i : Nat) (r : Option (Nat × V × Nat)), ces.length = es.length →
      (∀ (j : Nat) k v n, es[j]? = some (k, v, n) → ∃ e : MapEntry, ces[j]? = some e ∧ VR w g k e.key ∧ VR w g v e.val) → xkey (.flat ks) k es i = some r →
      ∃ r', (Instr.findAsking kt ck ces i).run P w = .ok r' w ∧ FoundR w g r r' := by
  intro es
  induction es with
  | nil =>
    intro ces i r hl _ h
    obtain rfl : ces = [] := List.eq_nil_of_length_eq_zero (by simpa using hl)
    simp only [xkey, Option.some.injEq] at h
    subst h
    exact ⟨none, by simp [Instr.findAsking], trivial⟩
  | cons e es ih =>
    obtain ⟨k', v', n'⟩ := e
    intro ces i r hl hv h
    cases ces with
    | nil => simp at hl
    | cons ce ces =>
      obtain ⟨ce', e1, e2, e3⟩ := hv 0 k' v' n' rfl
      obtain rfl : ce = ce' := by simpa using e1
      have hsame : ∀ b, xeq (.flat ks) k k' = some b → (Op.equal kt ck ce.key).run P w = .ok b w := by
        intro b hb
        cases k <;> simp only [xeq, reduceCtorEq] at hb
        cases k' <;> simp only [xeq, reduceCtorEq] at hb
        exact equalIn_kinds 4 kt ks 10000 _ _ _ _ b _ _ hks (by omega) (.inl ⟨hag, rfl⟩) (.inl ⟨hag, rfl⟩) hb hk e2
      unfold xkey at h
      split at h <;> first | (cases h; done) | skip
      · rename_i hx
        simp only [Option.some.injEq] at h
        subst h
        exact ⟨some (i, ce.val), by simp [Instr.findAsking, hsame _ hx], rfl, e3⟩
      · rename_i hx
        obtain ⟨r', h1, h2⟩ := ih ces (i + 1) r (by simpa using hl) (fun j k v n hj => by simpa using hv (j + 1) k v n (by simpa using hj)) h
        exact ⟨r', by simp [Instr.findAsking, hsame _ hx, h1], h2⟩

theorem findKey_sound {kt : TypeId} {kk : XK} (hkt : KindT P kt kk) {k : V} {ck : Value} (hk : VR w g k ck) {es : List (V × V × Nat)} {ces : List MapEntry} {r : Option (Nat × V × Nat)} (hl : ces.length = es.length)
    (hv : ∀ (j : Nat) k v n, es[j]? = some (k, v, n) → ∃ e : MapEntry, ces[j]? = some e ∧ VR w g k e.key ∧ VR w g v e.val) (h : xkey kk k es 0 = some r) :
    ∃ r', (Instr.findKey kt ck ces).run P w = .ok r' w ∧ FoundR w g r r' := by
  have scalar : ∀ {d}, P.underlying kt = some d → ((kk = .int ∧ ∃ k, d = .int k) ∨ (kk = .str ∧ d = .string) ∨ (kk = .bool ∧ d = .bool)) → ∃ r', (Instr.findKey kt ck ces).run P w = .ok r' w ∧ FoundR w g r r' := by
    intro d hu hd
    obtain ⟨r', h1, h2⟩ := findNow_sound hd hk es ces 0 r hl hv h
    exact ⟨r', by simp [Instr.findKey, run_underlying hu, h1], h2⟩
  cases kk <;> try exact hkt.elim
  case int =>
    obtain ⟨k, hu⟩ := hkt
    exact scalar hu (.inl ⟨rfl, k, rfl⟩)
  case str => exact scalar hkt (.inr (.inl ⟨rfl, rfl⟩))
  case bool => exact scalar hkt (.inr (.inr ⟨rfl, rfl⟩))
  case flat ks =>
    obtain ⟨hks, fs, hu⟩ := hkt
    obtain ⟨r', h1, h2⟩ := findAsking_sound hks (by simp [tag, hu, aggD]) hk es ces 0 r hl hv h
    cases ces with
    | nil =>
      simp [Instr.findAsking] at h1
      subst h1
      exact ⟨none, by simp [Instr.findKey, run_underlying hu, Instr.findNow], h2⟩
    | cons ce ces =>
      refine ⟨r', ?_, h2⟩
      have : Instr.findNow (.struct fs) ck (ce :: ces) 0 = none := by simp [Instr.findNow, Instr.sameNow]
      simp [Instr.findKey, run_underlying hu, this, h1]

end
end Go.VC

/- The machine's operations do what the program's do: lookups. -/
namespace Go.VC
open Go Go.RowKit

section
variable {E : Env} {m : XM} {ev : Operand → V} {xe : XO → V} {v : V} {m' : XM}

theorem checkKey_scalar {P : Program} {w : World} {kt : TypeId} {dd : TypeDesc} (hu : P.underlying kt = some dd) (h : (∃ k, dd = .int k) ∨ dd = .string ∨ dd = .bool) (ck : Value) (e : Bool) (d : Nat) : (Instr.checkKey e (d + 1) kt ck).run P w = .ok () w := by
  rcases h with ⟨k, rfl⟩ | rfl | rfl <;> simp [Instr.checkKey, run_underlying hu]

theorem checkKey_ok {P : Program} {g : G} {w : World} {kt : TypeId} {kk : XK} (hkt : KindT P kt kk) {k : V} {ck : Value} (hk : VR w g k ck) (h : xkok kk k = true) (e : Bool) : (Instr.checkKey e 10000 kt ck).run P w = .ok () w := by
  cases kk <;> try exact hkt.elim
  case int =>
    obtain ⟨k, hu⟩ := hkt
    exact checkKey_scalar hu (.inl ⟨k, rfl⟩) ck e 9999
  case str =>
    exact checkKey_scalar (dd := .string) hkt (.inr (.inl rfl)) ck e 9999
  case bool =>
    exact checkKey_scalar (dd := .bool) hkt (.inr (.inr rfl)) ck e 9999
  case flat ks =>
    obtain ⟨hks, fs, hu⟩ := hkt
    cases k <;> simp only [xkok, Bool.false_eq_true, decide_eq_true_eq] at h
    exact checkKey_kinds 4 kt ks 10000 _ _ _ hks (by omega) (.inl ⟨by simp [tag, hu, aggD], rfl⟩) h hk

/-- What is found where each comparison is known and one key at most is the same. -/
def KeyIs (kk : XK) (k : V) (l : List (V × V)) (r : Option V) : Prop := (∀ p ∈ l, ∃ b, xeq kk k p.1 = some b) ∧ (l.filter fun p => xeq kk k p.1 == some true).map (·.2) = r.toList

theorem xpkey_is {kk : XK} {k : V} : ∀ (ks vs : List V) (r : Option V), vs.length = ks.length → xpkey kk k ks vs = some r → KeyIs kk k (ks.zip vs) r := by
  intro ks
  induction ks with
  | nil => intro vs r _ h; simp only [xpkey, Option.some.injEq] at h; subst h; exact ⟨fun p hp => by simp at hp, by simp⟩
  | cons k0 ks ih =>
    intro vs r hl h
    cases vs with
    | nil => simp at hl
    | cons v0 vs =>
      have hl' : vs.length = ks.length := by simpa using hl
      simp only [xpkey] at h
      split at h <;> first | (cases h; done) | skip
      · rename_i hx
        split at h <;> first | (cases h; done) | skip
        rename_i hn
        simp only [Option.some.injEq] at h
        subst h
        obtain ⟨h1, h2⟩ := ih vs none hl' hn
        refine ⟨fun p hp => ?_, ?_⟩
        · rcases List.mem_cons.1 hp with rfl | hp
          · exact ⟨_, hx⟩
          · exact h1 p hp
        · rw [List.zip_cons_cons, List.filter_cons, if_pos (by simp [hx]), List.map_cons, h2]; rfl
      · rename_i hx
        obtain ⟨h1, h2⟩ := ih vs r hl' h
        refine ⟨fun p hp => ?_, ?_⟩
        · rcases List.mem_cons.1 hp with rfl | hp
          · exact ⟨_, hx⟩
          · exact h1 p hp
        · rw [List.zip_cons_cons, List.filter_cons, if_neg (by simp [hx]), h2]

theorem KeyIs.perm {kk : XK} {k : V} {l l' : List (V × V)} {r : Option V} (h : KeyIs kk k l r) (hp : l'.Perm l) : KeyIs kk k l' r := by
  refine ⟨fun p hm => h.1 p (hp.mem_iff.1 hm), ?_⟩
  have h1 := (hp.filter fun p => xeq kk k p.1 == some true).map (·.2)
  rw [h.2] at h1
  cases r with
  | none => simpa using h1
  | some v => simpa using h1

theorem KeyIs.key {kk : XK} {k : V} : ∀ (l : List (V × V)) (i : Nat) (r : Option V), KeyIs kk k l r →
    ∃ r', xkey kk k (l.map fun p => (p.1, p.2, 0)) i = some r' ∧ r'.map (fun x => x.2.1) = r
  | [], i, r, h => by
    have := h.2
    cases r with
    | none => exact ⟨none, by simp [xkey], rfl⟩
    | some v => simp at this
  | p :: l, i, r, h => by
    obtain ⟨b, hb⟩ := h.1 p List.mem_cons_self
    cases b
    · have h2 : KeyIs kk k l r := ⟨fun q hq => h.1 q (List.mem_cons_of_mem _ hq), by
        have := h.2
        rwa [List.filter_cons, if_neg (by simp [hb])] at this⟩
      obtain ⟨r', h3, h4⟩ := KeyIs.key l (i + 1) r h2
      exact ⟨r', by simp only [List.map_cons, xkey, hb]; exact h3, h4⟩
    · have h2 := h.2
      rw [List.filter_cons, if_pos (by simp [hb]), List.map_cons] at h2
      cases r with
      | none => simp at h2
      | some v =>
        simp only [Option.toList_some, List.cons.injEq] at h2
        exact ⟨some (i, p.2, 0), by simp only [List.map_cons, xkey, hb], by simp [h2.1]⟩

theorem xpkey_xkey {kk : XK} {k : V} (ks vs ks' vs' : List V) (hp : (ks'.zip vs').Perm (ks.zip vs)) (r : Option V) (hl : vs.length = ks.length) (h : xpkey kk k ks vs = some r) :
    ∃ r', xkey kk k ((ks'.zip vs').map fun p => (p.1, p.2, 0)) 0 = some r' ∧ r'.map (fun x => x.2.1) = r :=
  KeyIs.key _ 0 r ((xpkey_is ks vs r hl h).perm hp)

theorem x_lku {t kt et : TypeId} {kk : XK} {z : V} {mp k : Operand} {mp' k' : XO} {ok : Bool} (ho : OpsR ev xe) (h1 : cO mp = some mp') (h2 : cO k = some k') (hu : E.P.underlying t = some (.map kt et)) (hkt : KindT E.P kt kk) (hz : tzero E.P et = some z)
    (h : xop m xe (.lku kk z mp' k' ok) = some (v, m')) : OStep E m ev (.lookup t mp k ok) v m' := by
  intro g w ρ hr hev
  have hx := hev mp
  have hkv := hev k
  simp only [xop, ho _ _ h1, ho _ _ h2] at h
  cases hko : xkok kk (ev k) with
  | false => rw [hko] at h; cases h
  | true =>
    rw [hko] at h
    simp only [Bool.not_true, cond_false] at h
    obtain ⟨cz, hrz, hvz⟩ := run_zero (P := E.P) hz w
    have hck := fun e => checkKey_ok (e := e) hkt hkv hko
    split at h <;> first | (cases h; done) | skip
    · rename_i hxa
      simp only [Option.some.injEq, Prod.mk.injEq] at h
      obtain ⟨rfl, rfl⟩ := h
      rw [hxa] at hx
      generalize hcx : ρ mp = cx at hx
      cases hx
      obtain ⟨r', f1, f2⟩ := findKey_sound (P := E.P) (w := w) (g := g) hkt hkv (es := []) (ces := []) (r := none) rfl (fun j k v n hj => by simp at hj) (by simp [xkey])
      cases r' with
      | some x => exact f2.elim
      | none =>
        cases ok
        · exact ⟨cz, w, g, fun _ _ _ _ _ => .inl (by simp [execOp, Instr.lookup, hcx, run_underlying hu, hck, f1, hrz]), hr, G.to.refl _ _, hvz g⟩
        · exact ⟨.tuple #[cz, .bool false], w, g, fun _ _ _ _ _ => .inl (by simp [execOp, Instr.lookup, hcx, run_underlying hu, hck, f1, hrz]), hr, G.to.refl _ _, (hvz g).two (.bool _)⟩
    · rename_i ks vs hxa
      rw [hxa] at hx
      generalize hcx : ρ mp = cx at hx
      cases hx with
      | pmap _ _ r clock ces ks' vs' hperm p2 p3 hI hw e1 e0 hkk hvv =>
      have e2' : ∀ (j : Nat) k v n, ((ks'.zip vs').map fun p => (p.1, p.2, 0))[j]? = some (k, v, n) → ∃ e : MapEntry, ces.toList[j]? = some e ∧ VR w g k e.key ∧ VR w g v e.val := by
        intro j k0 v0 n hj
        simp only [List.getElem?_map, List.getElem?_zip_eq_some, Option.map_eq_some_iff, Prod.mk.injEq] at hj
        obtain ⟨⟨a, b⟩, ⟨ha, hb⟩, rfl, rfl, rfl⟩ := hj
        have hlt : j < ces.size := by rw [e1]; exact (List.getElem?_eq_some_iff.1 ha).1
        exact ⟨ces[j], by simp [hlt], (hkk j _ _ (by simp [hlt]) ha).mono (G.le.of_pure g w), (hvv j _ _ (by simp [hlt]) hb).mono (G.le.of_pure g w)⟩
      split at h <;> first | (cases h; done) | skip
      · rename_i u hf
        obtain ⟨r0, f0, f3⟩ := xpkey_xkey ks vs ks' vs' hperm _ e0 hf
        obtain ⟨⟨j, u', n⟩, rfl, rfl⟩ := Option.map_eq_some_iff.1 f3
        obtain ⟨r', f1, f2⟩ := findKey_sound (P := E.P) (w := w) (g := g) hkt hkv (ces := ces.toList) (by simp [e1, p3]) e2' f0
        cases r' with
        | none => exact f2.elim
        | some q =>
          obtain ⟨j', cv⟩ := q
          simp only [Option.some.injEq, Prod.mk.injEq] at h
          obtain ⟨rfl, rfl⟩ := h
          cases ok
          · exact ⟨cv, w, g, fun _ _ _ _ _ => .inl (by simp [execOp, Instr.lookup, hcx, run_underlying hu, hck, f1, getObj, Sem.run, hw]), hr, G.to.refl _ _, f2.2⟩
          · exact ⟨.tuple #[cv, .bool true], w, g, fun _ _ _ _ _ => .inl (by simp [execOp, Instr.lookup, hcx, run_underlying hu, hck, f1, getObj, Sem.run, hw]), hr, G.to.refl _ _, f2.2.two (.bool _)⟩
      · rename_i hf
        obtain ⟨r0, f0, f3⟩ := xpkey_xkey ks vs ks' vs' hperm _ e0 hf
        obtain rfl : r0 = none := by simpa using f3
        obtain ⟨r', f1, f2⟩ := findKey_sound (P := E.P) (w := w) (g := g) hkt hkv (ces := ces.toList) (by simp [e1, p3]) e2' f0
        cases r' with
        | some x => exact f2.elim
        | none =>
          simp only [Option.some.injEq, Prod.mk.injEq] at h
          obtain ⟨rfl, rfl⟩ := h
          cases ok
          · exact ⟨cz, w, g, fun _ _ _ _ _ => .inl (by simp [execOp, Instr.lookup, hcx, run_underlying hu, hck, f1, getObj, Sem.run, hw, hrz]), hr, G.to.refl _ _, hvz g⟩
          · exact ⟨.tuple #[cz, .bool false], w, g, fun _ _ _ _ _ => .inl (by simp [execOp, Instr.lookup, hcx, run_underlying hu, hck, f1, getObj, Sem.run, hw, hrz]), hr, G.to.refl _ _, (hvz g).two (.bool _)⟩
    · rename_i b hxa
      split at h <;> first | (cases h; done) | skip
      rename_i es clock hm
      rw [hxa] at hx
      obtain ⟨r, ces, hcx, hb, hw, e1, e2⟩ := hr.mapAt hm hx
      have e2' : ∀ (j : Nat) k v n, es[j]? = some (k, v, n) → ∃ e : MapEntry, ces.toList[j]? = some e ∧ VR w g k e.key ∧ VR w g v e.val := fun j k v n hj => by
        obtain ⟨e, h1, h2⟩ := e2 j k v n hj
        exact ⟨e, by simpa using h1, h2.1, h2.2.1⟩
      split at h <;> first | (cases h; done) | skip
      · rename_i j u n hf
        obtain ⟨r', f1, f2⟩ := findKey_sound (P := E.P) (w := w) (g := g) hkt hkv (ces := ces.toList) (by simpa using e1) e2' hf
        cases r' with
        | none => exact f2.elim
        | some q =>
          obtain ⟨j', cv⟩ := q
          simp only [Option.some.injEq, Prod.mk.injEq] at h
          obtain ⟨rfl, rfl⟩ := h
          cases ok
          · exact ⟨cv, w, g, fun _ _ _ _ _ => .inl (by simp [execOp, Instr.lookup, hcx, run_underlying hu, hck, f1, getObj, Sem.run, hw]), hr, G.to.refl _ _, f2.2⟩
          · exact ⟨.tuple #[cv, .bool true], w, g, fun _ _ _ _ _ => .inl (by simp [execOp, Instr.lookup, hcx, run_underlying hu, hck, f1, getObj, Sem.run, hw]), hr, G.to.refl _ _, f2.2.two (.bool _)⟩
      · rename_i hf
        obtain ⟨r', f1, f2⟩ := findKey_sound (P := E.P) (w := w) (g := g) hkt hkv (ces := ces.toList) (by simpa using e1) e2' hf
        cases r' with
        | some x => exact f2.elim
        | none =>
          simp only [Option.some.injEq, Prod.mk.injEq] at h
          obtain ⟨rfl, rfl⟩ := h
          cases ok
          · exact ⟨cz, w, g, fun _ _ _ _ _ => .inl (by simp [execOp, Instr.lookup, hcx, run_underlying hu, hck, f1, getObj, Sem.run, hw, hrz]), hr, G.to.refl _ _, hvz g⟩
          · exact ⟨.tuple #[cz, .bool false], w, g, fun _ _ _ _ _ => .inl (by simp [execOp, Instr.lookup, hcx, run_underlying hu, hck, f1, getObj, Sem.run, hw, hrz]), hr, G.to.refl _ _, (hvz g).two (.bool _)⟩

end
end Go.VC

/- The machine's operations do what the program's do: copy; stores into maps. -/
namespace Go.VC
open Go Go.RowKit

section
variable {E : Env} {m : XM} {ev : Operand → V} {xe : XO → V} {v : V} {m' : XM}

theorem loadCells_prefix {P : Program} {w : World} (a : Addr) : ∀ (N i : Nat) (acc arr : Array Value) (w' : World), (loadCellsFrom a i N acc).run P w = .ok arr w' →
    w' = w ∧ ∃ vs : List Value, vs.length = N ∧ arr = acc ++ vs.toArray ∧ ∀ n, n ≤ N → ∀ acc' : Array Value, (loadCellsFrom a i n acc').run P w = .ok (acc' ++ (vs.take n).toArray) w := by
  intro N
  induction N with
  | zero =>
    intro i acc arr w' h
    simp only [loadCellsFrom, Sem.run_pure, Result.ok.injEq] at h
    obtain ⟨rfl, rfl⟩ := h
    refine ⟨rfl, [], rfl, by simp, fun n hn acc' => ?_⟩
    obtain rfl : n = 0 := Nat.le_zero.1 hn
    simp [loadCellsFrom]
  | succ N ih =>
    intro i acc arr w' h
    simp only [loadCellsFrom, Sem.run_bind] at h
    have hl : ∀ r w1, (load (a.add i)).run P w = .ok r w1 → w1 = w := fun r w1 h1 => by
      simp only [load, Sem.run] at h1
      split at h1
      · simp only [Result.ok.injEq] at h1; exact h1.2.symm
      · split at h1
        · simp only [Result.ok.injEq] at h1; exact h1.2.symm
        · cases h1
    cases h1 : (load (a.add i)).run P w with
    | halt x w1 => rw [h1] at h; simp [Result.andThen] at h
    | ok r w1 =>
      rw [h1] at h
      obtain rfl := hl r w1 h1
      simp only [Result.andThen_ok] at h
      obtain ⟨e1, vs, e2, e3, e4⟩ := ih _ _ _ _ h
      refine ⟨e1, r :: vs, by simp [e2], by rw [e3]; simp, fun n hn acc' => ?_⟩
      cases n with
      | zero => simp [loadCellsFrom]
      | succ n =>
        simp only [loadCellsFrom, Sem.run_bind, h1, Result.andThen_ok]
        rw [e4 n (by omega)]
        simp

/-- The first cells of a slice that can be read. -/
theorem Reads.less {P : Program} {w : World} {s k n : Nat} {a : Option Addr} {len c : Nat} {arr : Array Value} (h : Reads P w s k (.slice a len c) arr) (hn : n ≤ k) (hsz : arr.size = k * s) :
    ∃ arr', (Builtin.firstCells s n (.slice a len c)).run P w = .ok arr' w ∧ arr'.toList = arr.toList.take (n * s) := by
  have h := h w fun _ => rfl
  cases a with
  | none =>
    simp only [Builtin.firstCells, Sem.run_pure, Result.ok.injEq] at h
    obtain ⟨rfl, _⟩ := h
    exact ⟨#[], by simp [Builtin.firstCells], by simp⟩
  | some a =>
    simp only [Builtin.firstCells, loadCells] at h ⊢
    obtain ⟨_, vs, e2, e3, e4⟩ := loadCells_prefix a _ _ _ _ _ h
    refine ⟨_, e4 (n * s) (Nat.mul_le_mul_right _ hn) #[], ?_⟩
    rw [e3]; simp

theorem x_cpy {t t2 el : TypeId} {x y : Operand} {x' y' : XO} {s : Nat} (ho : OpsR ev xe) (h1 : cO x = some x') (h2 : cO y = some y') (hu : E.P.underlying t = some (.slice el)) (hs : tsz E.P el = some s) (hs0 : s ≠ 0)
    (h : xop m xe (.cpy s x' y') = some (v, m')) : OStep E m ev (.call { callee := .builtin .copy, args := #[x, y], argTypes := #[t, t2] }) v m' := by
  intro g w ρ hr hev
  have hx := hev x
  have hy := hev y
  simp only [xop, ho _ _ h1, ho _ _ h2] at h
  split at h <;> first | (cases h; done) | skip
  · rename_i hxa
    split at h <;> first | (cases h; done) | skip
    rename_i kys hcy
    obtain ⟨k, ys⟩ := kys
    simp only [Option.some.injEq, Prod.mk.injEq] at h
    obtain ⟨rfl, rfl⟩ := h
    obtain ⟨p, c1, c2⟩ := xcells_vcells hcy
    obtain ⟨ya, yc, arr, hcyv, hkc, hrd, hcr, hsz, hone⟩ := vcells_sound (P := E.P) hs0 c1 c2 hr hy
    rw [hxa] at hx
    generalize hcx : ρ x = cx at hx
    cases hx with
    | nsl ad =>
      rw [hcyv] at hrd
      obtain ⟨arr', r1, r2⟩ := hrd.less (Nat.zero_le k) hsz
      have e0 : arr' = #[] := by simpa using r2
      subst e0
      refine ⟨_, w, g, fun _ _ _ _ _ => .inl ?_, hr, G.to.refl _ _, .int _ _⟩
      cases ad <;> simp [execOp, resolve, invoke, builtin, Builtin.copy_, run_underlying hu, hcx, hcyv, Builtin.lenOf, run_sizeOf hs, r1, goInt, Go.storeCells]
  · rename_i b e off len cap hxa
    split at h <;> first | (cases h; done) | skip
    rename_i cells ty ag sz ep k ys hm hcy
    split at h <;> first | (cases h; done) | skip
    rename_i hc
    obtain ⟨rfl, rfl, hfit⟩ := hc
    simp only [Option.some.injEq, Prod.mk.injEq] at h
    obtain ⟨rfl, rfl⟩ := h
    obtain ⟨p, c1, c2⟩ := xcells_vcells hcy
    obtain ⟨ya, yc, arr, hcyv, hkc, hrd, hcr, hsz, hone⟩ := vcells_sound (P := E.P) hs0 c1 c2 hr hy
    rw [hxa] at hx
    obtain ⟨ax, cap', hca, hlc, _, hd⟩ := hr.sl hm hx
    rw [hcyv] at hrd
    obtain ⟨arr', r1, r2⟩ := hrd.less (Nat.min_le_left k len) hsz
    have hysl : ys.length = k * sz := by rw [← hcr.1, hsz]
    have hmin : Nat.min k len ≤ k := Nat.min_le_left _ _
    have hmin2 : Nat.min k len ≤ len := Nat.min_le_right _ _
    have hm1 : Nat.min k len * sz ≤ k * sz := Nat.mul_le_mul_right _ hmin
    have hm2 : Nat.min k len * sz ≤ len * sz := Nat.mul_le_mul_right _ hmin2
    have htl : (ys.take (Nat.min k len * sz)).length = Nat.min k len * sz := by rw [List.length_take, hysl]; omega
    have hal : arr'.toList.length = Nat.min k len * sz := by rw [r2, List.length_take, Array.length_toList, hsz]; exact Nat.min_eq_left hm1
    rcases hd with hd | ⟨c, base, hb, hax, hext⟩
    · obtain rfl : len = 0 := by omega
      have e0 : arr' = #[] := by
        apply Array.toList_eq_nil_iff.1
        rw [r2]; simp
      subst e0
      have r1' : (Builtin.firstCells sz 0 (.slice ya k yc)).run E.P w = .ok #[] w := by simpa [show Nat.min k 0 = 0 from Nat.min_zero k] using r1
      have e1 : m.set b (.row (xfill cells off (ys.take (Nat.min k 0 * sz))) ty ag sz ep) = m := by
        have : Nat.min k 0 = 0 := Nat.min_zero k
        rw [this]
        simp only [Nat.zero_mul, List.take_zero, xfill, List.nil_append, List.length_nil, Nat.add_zero, List.take_append_drop]
        apply List.ext_getElem?; intro j
        by_cases hj : b = j
        · subst hj; rw [List.getElem?_set_self (List.getElem?_eq_some_iff.1 hm).1, hm]
        · rw [List.getElem?_set_ne hj]
      rw [e1]
      refine ⟨_, w, g, fun _ _ _ _ _ => .inl ?_, hr, G.to.refl _ _, .int _ _⟩
      cases ax <;> simp [execOp, resolve, invoke, builtin, Builtin.copy_, run_underlying hu, hca, hcyv, Builtin.lenOf, run_sizeOf hs, r1', goInt, Go.storeCells]
    · subst hax
      have hone' : (ys.take (Nat.min k len * sz)).all V.one = true := by
        rw [List.all_eq_true] at hone ⊢
        exact fun u hu => hone u (List.mem_of_mem_take hu)
      obtain ⟨w', q1, q2, q3⟩ := Rel.storeCells (P := E.P) (ys.take (Nat.min k len * sz)) arr'.toList m w cells 0 hr (o := off) hm hb (by rw [htl]; omega) (by rw [htl, hal]) (fun j u hu => by
        have hj := (List.getElem?_eq_some_iff.1 hu).1
        rw [htl] at hj
        rw [List.getElem?_take, if_pos hj] at hu
        have := hcr.2 j u hu
        rw [List.getD_eq_getElem?_getD, r2, List.getElem?_take, if_pos hj]
        simpa [Array.getD_eq_getD_getElem?] using this) hone'
      rw [Nat.add_zero, vsetL_eq _ _ _ (by rw [htl]; omega)] at q2
      have e2 : vfill cells off (ys.take (Nat.min k len * sz)) = xfill cells off (ys.take (Nat.min k len * sz)) := by simp [vfill, xfill]
      rw [e2] at q2
      refine ⟨_, w', g, fun _ _ _ _ _ => .inl ?_, q2, q3, .int _ _⟩
      simp [execOp, resolve, invoke, builtin, Builtin.copy_, run_underlying hu, hca, hcyv, Builtin.lenOf, run_sizeOf hs, r1, goInt, q1]

theorem bytes_beq (a : List UInt8) : ((⟨a.toArray⟩ : ByteArray) == ⟨a.toArray⟩) = true := by
  first | exact beq_self_eq_true _ | (show (a.toArray == a.toArray) = true; simp)

theorem sameBits_of {kk : XK} {k k' : V} {ck ck' : Value} {g : G} {w : World} (h : xeq kk k k' = some true) (hkk : xkk kk = true) (h1 : VR w g k ck) (h2 : VR w g k' ck') : Instr.sameBits 10000 ck' ck = true := by
  cases kk <;> simp only [xkk, Bool.false_eq_true] at hkk
  case int =>
    unfold xeq at h
    split at h <;> first | (cases h; done) | (simp at *; done) | skip
    rename_i k1 a k2 b _
    split at h <;> first | (cases h; done) | skip
    rename_i hk
    simp only [Option.some.injEq, beq_iff_eq] at h
    subst hk; subst h
    cases h1; cases h2
    simp [Instr.sameBits]
  case bool =>
    unfold xeq at h
    split at h <;> first | (cases h; done) | (simp at *; done) | skip
    rename_i a b _
    simp only [Option.some.injEq, beq_iff_eq] at h
    subst h
    cases h1; cases h2
    simp [Instr.sameBits]
  case str =>
    unfold xeq at h
    split at h <;> first | (cases h; done) | (simp at *; done) | skip
    rename_i a b _
    simp only [Option.some.injEq, beq_iff_eq] at h
    subst h
    cases h1; cases h2
    rw [show (10000 : Nat) = 9999 + 1 from rfl, Instr.sameBits]
    exact bytes_beq a
  case flat ks =>
    unfold xeq at h
    split at h <;> first | (cases h; done) | (simp at *; done) | skip
    rename_i ks' a b heq
    cases h1 with
    | agg _ va hl hv =>
    cases h2 with
    | agg _ vb hl' hv' =>
    have key : ∀ (ks : List Nat) (as bs : List V), xsames ks as bs = some true → ∀ (la lb : List Value), la.length = as.length → lb.length = bs.length → (∀ (i : Nat) c, as[i]? = some c → VR w g c (la.getD i undef)) → (∀ (i : Nat) c, bs[i]? = some c → VR w g c (lb.getD i undef)) →
        la.length = lb.length ∧ ((lb.zip la).all fun (x, y) => Instr.sameBits 9999 x y) = true := by
      intro ks
      induction ks with
      | nil =>
        intro as bs h la lb e1 e2 _ _
        unfold xsames at h
        split at h <;> first | (cases h; done) | (simp at *; done) | skip
        simp at e1 e2
        subst e1; subst e2
        simp
      | cons k ks ih =>
        intro as bs h la lb e1 e2 f1 f2
        unfold xsames at h
        split at h <;> first | (cases h; done) | (simp at *; done) | skip
        · rename_i ks0 k1 a0 as0 k2 b0 bs0 he
          simp only [List.cons.injEq] at he
          obtain ⟨rfl, rfl⟩ := he
          split at h <;> first | (cases h; done) | skip
          rename_i hk
          subst hk
          obtain ⟨r, hr, he⟩ := Option.map_eq_some_iff.1 h
          simp only [Bool.and_eq_true, beq_iff_eq] at he
          obtain ⟨rfl, rfl⟩ := he
          cases la with
          | nil => simp at e1
          | cons x la =>
          cases lb with
          | nil => simp at e2
          | cons y lb =>
          have g1 := f1 0 _ rfl
          have g2 := f2 0 _ rfl
          simp only [List.getD_cons_zero] at g1 g2
          cases g1; cases g2
          obtain ⟨q1, q2⟩ := ih _ _ hr la lb (by simpa using e1) (by simpa using e2) (fun i c hc => by simpa using f1 (i + 1) c (by simpa using hc)) (fun i c hc => by simpa using f2 (i + 1) c (by simpa using hc))
          refine ⟨by simp [q1], ?_⟩
          simp only [List.zip_cons_cons, List.all_cons, Bool.and_eq_true]
          exact ⟨by simp [Instr.sameBits], q2⟩
        · rename_i ks0 a0 as0 b0 bs0 he
          simp only [List.cons.injEq] at he
          obtain ⟨rfl, rfl⟩ := he
          obtain ⟨r, hr, he⟩ := Option.map_eq_some_iff.1 h
          simp only [Bool.and_eq_true, beq_iff_eq] at he
          obtain ⟨rfl, rfl⟩ := he
          cases la with
          | nil => simp at e1
          | cons x la =>
          cases lb with
          | nil => simp at e2
          | cons y lb =>
          have g1 := f1 0 _ rfl
          have g2 := f2 0 _ rfl
          simp only [List.getD_cons_zero] at g1 g2
          cases g1; cases g2
          obtain ⟨q1, q2⟩ := ih _ _ hr la lb (by simpa using e1) (by simpa using e2) (fun i c hc => by simpa using f1 (i + 1) c (by simpa using hc)) (fun i c hc => by simpa using f2 (i + 1) c (by simpa using hc))
          refine ⟨by simp [q1], ?_⟩
          simp only [List.zip_cons_cons, List.all_cons, Bool.and_eq_true]
          exact ⟨by simp [Instr.sameBits], q2⟩
        · rename_i ks0 a0 as0 b0 bs0 he
          simp only [List.cons.injEq] at he
          obtain ⟨rfl, rfl⟩ := he
          obtain ⟨r, hr, he⟩ := Option.map_eq_some_iff.1 h
          simp only [Bool.and_eq_true, beq_iff_eq] at he
          obtain ⟨rfl, rfl⟩ := he
          cases la with
          | nil => simp at e1
          | cons x la =>
          cases lb with
          | nil => simp at e2
          | cons y lb =>
          have g1 := f1 0 _ rfl
          have g2 := f2 0 _ rfl
          simp only [List.getD_cons_zero] at g1 g2
          cases g1; cases g2
          obtain ⟨q1, q2⟩ := ih _ _ hr la lb (by simpa using e1) (by simpa using e2) (fun i c hc => by simpa using f1 (i + 1) c (by simpa using hc)) (fun i c hc => by simpa using f2 (i + 1) c (by simpa using hc))
          refine ⟨by simp [q1], ?_⟩
          simp only [List.zip_cons_cons, List.all_cons, Bool.and_eq_true]
          exact ⟨by rw [Instr.sameBits]; exact bytes_beq _, q2⟩
    obtain ⟨q1, q2⟩ := key _ _ _ h va.toList vb.toList (by simpa using hl) (by simpa using hl') (fun i c hc => by simpa [Array.getD_eq_getD_getElem?] using hv i c hc) (fun i c hc => by simpa [Array.getD_eq_getD_getElem?] using hv' i c hc)
    rw [show (10000 : Nat) = 9999 + 1 from rfl, Instr.sameBits]
    simp only [Bool.and_eq_true, beq_iff_eq]
    exact ⟨by simpa using q1.symm, q2⟩

/-- The map's entries, one of them changed. -/
theorem Rel.mapSet {g : G} {w : World} (h : Rel g m w) {b r : Nat} {es es' : List (V × V × Nat)} {clock clock' : Nat} {ces ces' : Array MapEntry} (hm : m[b]? = some (.map es clock)) (hb : g.β b = some (r, 0)) (hw : w.heap[r]? = some (.map ces clock))
    (hl : ces'.size = es'.length) (hv : ∀ (j : Nat) k v n, es'[j]? = some (k, v, n) → ∃ e : MapEntry, ces'[j]? = some e ∧ VR w g k e.key ∧ VR w g v e.val ∧ e.born = n) :
    Rel g (m.set b (.map es' clock')) { w with heap := w.heap.setIfInBounds r (.map ces' clock') } ∧ g.to w g { w with heap := w.heap.setIfInBounds r (.map ces' clock') } := by
  obtain ⟨h1, _⟩ := h.objs b _ _ hm hb
  have hlt : r < w.heap.size := h.own b _ hb
  refine h.change hm (o' := .map es' clock') rfl hb ⟨rfl, rfl, rfl⟩ (by simp) (fun k hk => by simp [Array.getElem?_setIfInBounds_ne (Ne.symm hk)]) fun hle => ?_
  exact ⟨h1, r, ces', hb, by simp [hlt], hl, fun j k v n hj => by
    obtain ⟨e, e1, e2, e3, e4⟩ := hv j k v n hj
    exact ⟨e, e1, e2.mono hle.tole, e3.mono hle.tole, e4⟩⟩

theorem run_setMap {P : Program} {w : World} {r : Nat} {es es' : Array MapEntry} {c c' : Nat} (h : w.heap[r]? = some (.map es c)) : (setObj r (.map es' c')).run P w = .ok () { w with heap := w.heap.setIfInBounds r (.map es' c') } := by
  simp [setObj, Sem.run, h]

theorem run_keyThatStays {P : Program} {w : World} {a b : Value} (h : Instr.sameBits 10000 a b = true) : (Instr.keyThatStays a b).run P w = .ok b w := by
  simp [Instr.keyThatStays, h]

section
variable {t kt et : TypeId} {kk : XK} {mp k : Operand} {mp' k' : XO}

/-- An entry that is there is found, with its key; its key and value are changed. -/
theorem entries_set {g : G} {w : World} {es : List (V × V × Nat)} {ces : Array MapEntry} (hl : ces.size = es.length) (hv : ∀ (j : Nat) k v n, es[j]? = some (k, v, n) → ∃ e : MapEntry, ces[j]? = some e ∧ VR w g k e.key ∧ VR w g v e.val ∧ e.born = n)
    {i n : Nat} {k0 u0 k1 u1 : V} {ck : Value} (h0 : es[i]? = some (k0, u0, n)) (hk : VR w g k1 ck) (f : MapEntry → MapEntry) (hf : ∀ e : MapEntry, ces[i]? = some e → (f e).key = ck ∧ VR w g u1 (f e).val ∧ (f e).born = e.born) :
    (ces.modify i f).size = (es.set i (k1, u1, n)).length ∧
      ∀ (j : Nat) k v n', (es.set i (k1, u1, n))[j]? = some (k, v, n') → ∃ e : MapEntry, (ces.modify i f)[j]? = some e ∧ VR w g k e.key ∧ VR w g v e.val ∧ e.born = n' := by
  refine ⟨by simp [hl], fun j k v n' hj => ?_⟩
  obtain ⟨e, e1, e2, e3, e4⟩ := hv i _ _ _ h0
  have hlt := (List.getElem?_eq_some_iff.1 h0).1
  by_cases hij : i = j
  · subst hij
    rw [List.getElem?_set_self hlt] at hj
    simp only [Option.some.injEq, Prod.mk.injEq] at hj
    obtain ⟨rfl, rfl, rfl⟩ := hj
    obtain ⟨q1, q2, q3⟩ := hf e e1
    exact ⟨f e, by simp [Array.getElem?_modify, e1], by rw [q1]; exact hk, q2, q3.trans e4⟩
  · rw [List.getElem?_set_ne hij] at hj
    obtain ⟨e', f1, f2, f3, f4⟩ := hv j _ _ _ hj
    exact ⟨e', by simp [Array.getElem?_modify, hij, f1], f2, f3, f4⟩

theorem entries_push {g : G} {w : World} {es : List (V × V × Nat)} {ces : Array MapEntry} (hl : ces.size = es.length) (hv : ∀ (j : Nat) k v n, es[j]? = some (k, v, n) → ∃ e : MapEntry, ces[j]? = some e ∧ VR w g k e.key ∧ VR w g v e.val ∧ e.born = n)
    {n : Nat} {k1 u1 : V} {e0 : MapEntry} (hk : VR w g k1 e0.key) (hu : VR w g u1 e0.val) (hn : e0.born = n) :
    (ces.push e0).size = (es ++ [(k1, u1, n)]).length ∧
      ∀ (j : Nat) k v n', (es ++ [(k1, u1, n)])[j]? = some (k, v, n') → ∃ e : MapEntry, (ces.push e0)[j]? = some e ∧ VR w g k e.key ∧ VR w g v e.val ∧ e.born = n' := by
  refine ⟨by simp [hl], fun j k v n' hj => ?_⟩
  by_cases hjl : j < es.length
  · rw [List.getElem?_append_left hjl] at hj
    obtain ⟨e', f1, f2, f3, f4⟩ := hv j _ _ _ hj
    have hlt := (Array.getElem?_eq_some_iff.1 f1).1
    exact ⟨e', by rw [Array.getElem?_push_lt hlt, ← f1]; simp [hlt], f2, f3, f4⟩
  · have hlt := (List.getElem?_eq_some_iff.1 hj).1
    simp only [List.length_append, List.length_singleton] at hlt
    obtain rfl : j = es.length := by omega
    rw [List.getElem?_append_right (Nat.le_refl _)] at hj
    simp at hj
    obtain ⟨rfl, rfl, rfl⟩ := hj
    exact ⟨e0, by rw [← hl]; simp, hk, hu, hn⟩

theorem x_upd {x : Operand} {x' : XO} (ho : OpsR ev xe) (h1 : cO mp = some mp') (h2 : cO k = some k') (h3 : cO x = some x') (hu : E.P.underlying t = some (.map kt et)) (hkt : KindT E.P kt kk) (hkk : xkk kk = true)
    (h : xop m xe (.upd kk mp' k' x') = some (v, m')) : OStep E m ev (.mapUpdate t mp k x) v m' := by
  intro g w ρ hr hev
  have hx := hev mp
  have hkv := hev k
  have hxv := hev x
  simp only [xop, ho _ _ h1, ho _ _ h2, ho _ _ h3] at h
  cases hko : xkok kk (ev k) with
  | false => rw [hko] at h; cases h
  | true =>
    rw [hko] at h
    simp only [Bool.not_true, cond_false] at h
    have hck := fun e => checkKey_ok (e := e) hkt hkv hko
    split at h <;> first | (cases h; done) | skip
    rename_i b hxa
    split at h <;> first | (cases h; done) | skip
    rename_i es clock hm
    rw [hxa] at hx
    obtain ⟨r, ces, hcx, hb, hw, e1, e2⟩ := hr.mapAt hm hx
    have e2' : ∀ (j : Nat) k v n, es[j]? = some (k, v, n) → ∃ e : MapEntry, ces.toList[j]? = some e ∧ VR w g k e.key ∧ VR w g v e.val := fun j k v n hj => by
      obtain ⟨e, h1, h2⟩ := e2 j k v n hj
      exact ⟨e, by simpa using h1, h2.1, h2.2.1⟩
    split at h <;> first | (cases h; done) | skip
    · rename_i j u n hf
      obtain ⟨r', f1, f2⟩ := findKey_sound (P := E.P) (w := w) (g := g) hkt hkv (ces := ces.toList) (by simpa using e1) e2' hf
      obtain ⟨_, k0, g1, g2⟩ := xkey_spec _ _ _ _ _ hf
      rw [Nat.sub_zero] at g1
      cases r' with
      | none => exact f2.elim
      | some q =>
        obtain ⟨j', cv⟩ := q
        obtain ⟨rfl, f3⟩ := f2
        simp only [Option.some.injEq, Prod.mk.injEq] at h
        obtain ⟨rfl, rfl⟩ := h
        obtain ⟨e0, a1, a2, a3, a4⟩ := e2 j _ _ _ g1
        have hst := run_keyThatStays (P := E.P) (w := w) (sameBits_of g2 hkk hkv a2)
        obtain ⟨b1, b2⟩ := entries_set e1 e2 g1 hkv (u1 := ev x) (fun e => { e with key := ρ k, val := ρ x }) (fun e _ => ⟨rfl, hxv, rfl⟩)
        obtain ⟨c1, c2⟩ := hr.mapSet hm hb hw b1 b2
        refine ⟨undef, _, g, fun _ _ _ _ _ => .inr ⟨?_, rfl⟩, c1, c2, .und _⟩
        simp only [execOp, Instr.mapUpdate, Sem.run_bind, run_underlying hu, Result.andThen_ok, hcx, getObj, Sem.run, hw, hck, f1, a1, Option.map_some, Option.getD_some, hst, run_setMap hw, Sem.run_pure]
    · rename_i hf
      obtain ⟨r', f1, f2⟩ := findKey_sound (P := E.P) (w := w) (g := g) hkt hkv (ces := ces.toList) (by simpa using e1) e2' hf
      cases r' with
      | some x => exact f2.elim
      | none =>
        simp only [Option.some.injEq, Prod.mk.injEq] at h
        obtain ⟨rfl, rfl⟩ := h
        obtain ⟨b1, b2⟩ := entries_push e1 e2 (k1 := ev k) (u1 := ev x) (e0 := { key := ρ k, val := ρ x, born := clock }) hkv hxv rfl
        obtain ⟨c1, c2⟩ := hr.mapSet (clock' := clock + 1) hm hb hw b1 b2
        refine ⟨undef, _, g, fun _ _ _ _ _ => .inr ⟨?_, rfl⟩, c1, c2, .und _⟩
        simp only [execOp, Instr.mapUpdate, Sem.run_bind, run_underlying hu, Result.andThen_ok, hcx, getObj, Sem.run, hw, hck, f1, run_setMap hw, Sem.run_pure]

theorem x_mpe {z : V} (ho : OpsR ev xe) (h1 : cO mp = some mp') (h2 : cO k = some k') (hu : E.P.underlying t = some (.map kt et)) (hkt : KindT E.P kt kk) (hkk : xkk kk = true) (hz : tzero E.P et = some z)
    (h : xop m xe (.mpe kk z mp' k') = some (v, m')) : OStep E m ev (.mapEntry t mp k) v m' := by
  intro g w ρ hr hev
  have hx := hev mp
  have hkv := hev k
  simp only [xop, ho _ _ h1, ho _ _ h2] at h
  cases hko : xkok kk (ev k) with
  | false => rw [hko] at h; cases h
  | true =>
    rw [hko] at h
    simp only [Bool.not_true, cond_false] at h
    have hck := fun e => checkKey_ok (e := e) hkt hkv hko
    split at h <;> first | (cases h; done) | skip
    rename_i b hxa
    split at h <;> first | (cases h; done) | skip
    rename_i es clock hm
    rw [hxa] at hx
    obtain ⟨cz, hrz, hvz⟩ := run_zero (P := E.P) hz w
    obtain ⟨r, ces, hcx, hb, hw, e1, e2⟩ := hr.mapAt hm hx
    have e2' : ∀ (j : Nat) k v n, es[j]? = some (k, v, n) → ∃ e : MapEntry, ces.toList[j]? = some e ∧ VR w g k e.key ∧ VR w g v e.val := fun j k v n hj => by
      obtain ⟨e, h1, h2⟩ := e2 j k v n hj
      exact ⟨e, by simpa using h1, h2.1, h2.2.1⟩
    split at h <;> first | (cases h; done) | skip
    · rename_i j u n hf
      obtain ⟨r', f1, f2⟩ := findKey_sound (P := E.P) (w := w) (g := g) hkt hkv (ces := ces.toList) (by simpa using e1) e2' hf
      obtain ⟨_, k0, g1, g2⟩ := xkey_spec _ _ _ _ _ hf
      rw [Nat.sub_zero] at g1
      cases r' with
      | none => exact f2.elim
      | some q =>
        obtain ⟨j', cv⟩ := q
        obtain ⟨rfl, f3⟩ := f2
        simp only [Option.some.injEq, Prod.mk.injEq] at h
        obtain ⟨rfl, rfl⟩ := h
        obtain ⟨e0, a1, a2, a3, a4⟩ := e2 j _ _ _ g1
        have hst := run_keyThatStays (P := E.P) (w := w) (sameBits_of g2 hkk hkv a2)
        obtain ⟨b1, b2⟩ := entries_set e1 e2 g1 hkv (u1 := u) (fun e => { e with key := ρ k }) (fun e he => ⟨rfl, by rw [a1] at he; cases he; exact a3, rfl⟩)
        obtain ⟨c1, c2⟩ := hr.mapSet hm hb hw b1 b2
        refine ⟨.tuple #[cv, goInt n], _, g, fun _ _ _ _ _ => .inl ?_, c1, c2, (f3.mono c2.tole).two (.int _ _)⟩
        simp only [execOp, Instr.mapEntry, Sem.run_bind, run_underlying hu, Result.andThen_ok, hcx, getObj, Sem.run, hw, hck, f1, a1, Option.map_some, Option.getD_some, hst, run_setMap hw, Sem.run_pure, a4]
    · rename_i hf
      obtain ⟨r', f1, f2⟩ := findKey_sound (P := E.P) (w := w) (g := g) hkt hkv (ces := ces.toList) (by simpa using e1) e2' hf
      cases r' with
      | some x => exact f2.elim
      | none =>
        simp only [Option.some.injEq, Prod.mk.injEq] at h
        obtain ⟨rfl, rfl⟩ := h
        obtain ⟨b1, b2⟩ := entries_push e1 e2 (k1 := ev k) (u1 := z) (e0 := { key := ρ k, val := cz, born := clock }) hkv (hvz g) rfl
        obtain ⟨c1, c2⟩ := hr.mapSet (clock' := clock + 1) hm hb hw b1 b2
        refine ⟨.tuple #[cz, goInt clock], _, g, fun _ _ _ _ _ => .inl ?_, c1, c2, ((hvz g).mono c2.tole).two (.int _ _)⟩
        simp only [execOp, Instr.mapEntry, Sem.run_bind, run_underlying hu, Result.andThen_ok, hcx, getObj, Sem.run, hw, hck, f1, hrz, run_setMap hw, Sem.run_pure]

theorem x_est {s x : Operand} {s' x' : XO} (ho : OpsR ev xe) (h1 : cO mp = some mp') (h2 : cO s = some s') (h3 : cO x = some x') (h : xop m xe (.est mp' s' x') = some (v, m')) : OStep E m ev (.entryStore t mp s x) v m' := by
  intro g w ρ hr hev
  have hx := hev mp
  have hsv := hev s
  have hxv := hev x
  simp only [xop, ho _ _ h1, ho _ _ h2, ho _ _ h3] at h
  split at h <;> first | (cases h; done) | skip
  rename_i b kn n hxa hsa
  split at h <;> first | (cases h; done) | skip
  rename_i es clock hm
  split at h <;> first | (cases h; done) | skip
  rename_i i hi
  split at h <;> first | (cases h; done) | skip
  rename_i k0 u0 j hj
  simp only [Option.some.injEq, Prod.mk.injEq] at h
  obtain ⟨rfl, rfl⟩ := h
  rw [hxa] at hx
  rw [hsa] at hsv
  generalize hcs : ρ s = cs at hsv
  cases hsv
  obtain ⟨r, ces, hcx, hb, hw, e1, e2⟩ := hr.mapAt hm hx
  have hfi : ces.findIdx? (fun e => (e.born : Int) == n) = some i := by
    rw [show ces.findIdx? (fun e => (e.born : Int) == n) = ces.toList.findIdx? (fun e => (e.born : Int) == n) by rw [← List.findIdx?_toArray]]; rw [List.findIdx?_eq_some_iff_getElem]
    obtain ⟨q1, q2, q3⟩ := List.findIdx?_eq_some_iff_getElem.1 hi
    refine ⟨by simpa [e1] using q1, ?_, fun l hl => ?_⟩
    · obtain ⟨e, a1, _, _, a4⟩ := e2 i _ _ _ (List.getElem?_eq_getElem q1)
      obtain ⟨hlt, rfl⟩ := Array.getElem?_eq_some_iff.1 a1
      simp only [Array.getElem_toList, a4]
      exact q2
    · have hl2 : l < es.length := by omega
      obtain ⟨e, a1, _, _, a4⟩ := e2 l _ _ _ (List.getElem?_eq_getElem hl2)
      obtain ⟨hlt, rfl⟩ := Array.getElem?_eq_some_iff.1 a1
      simp only [Array.getElem_toList, a4]
      exact q3 l hl
  obtain ⟨e0, a1, a2, a3, a4⟩ := e2 i _ _ _ hj
  obtain ⟨b1, b2⟩ := entries_set e1 e2 hj a2 (u1 := ev x) (fun e => { e with val := ρ x }) (fun e he => ⟨by rw [a1] at he; cases he; rfl, hxv, rfl⟩)
  obtain ⟨c1, c2⟩ := hr.mapSet (clock' := clock) hm hb hw b1 b2
  refine ⟨undef, _, g, fun _ _ _ _ _ => .inr ⟨?_, rfl⟩, c1, c2, .und _⟩
  simp only [execOp, Instr.entryStore, Sem.run_bind, Result.andThen_ok, hcx, hcs, getObj, Sem.run, hw, asInt, asIntOf, hfi, run_setMap hw, Sem.run_pure]

end
end
end Go.VC

/- The machine's operations do what the program's do: all of them. -/
namespace Go.VC
open Go Go.RowKit

section
variable {E : Env} {m : XM} {ev : Operand → V} {xe : XO → V} {v : V} {m' : XM}

theorem cKK_kind {P : Program} {t : TypeId} {kk : XK} (h : cKK P t = some kk) : ∃ kt et, P.underlying t = some (.map kt et) ∧ KindT P kt kk ∧ xkk kk = true := by
  unfold cKK at h
  split at h <;> first | (cases h; done) | skip
  rename_i kt et hu
  obtain ⟨k0, h1, h2⟩ := Option.bind_eq_some_iff.1 h
  split at h2 <;> first | (cases h2; done) | skip
  rename_i hx
  simp only [Option.some.injEq] at h2
  subst h2
  refine ⟨kt, et, hu, ?_, hx⟩
  unfold cK at h1
  split at h1 <;> first | (cases h1; done) | skip
  all_goals first | (simp only [Option.some.injEq] at h1; subst h1; first | (simp [xkk] at hx; done) | skip) | skip
  · rename_i k hk; exact ⟨k, hk⟩
  · assumption
  · assumption
  · rename_i fs hk
    obtain ⟨l, hl, rfl⟩ := Option.map_eq_some_iff.1 h1
    exact ⟨hl, fs, hk⟩

theorem cEl_spec {P : Program} {t el : TypeId} (h : cEl P t = some el) : P.underlying t = some (.slice el) := by
  unfold cEl at h
  split at h <;> first | (cases h; done) | skip
  simp only [Option.some.injEq] at h
  subst h; assumption

theorem cOp_sound {op : Op} {a : XOp} (ho : OpsR ev xe) (hc : cOp E.P op = some a) (h : xop m xe a = some (v, m')) : OStep E m ev op v m' := by
  unfold cOp at hc
  split at hc
  all_goals try simp only [Option.bind_eq_bind, Option.bind_eq_some_iff, Option.map_eq_some_iff, Option.some.injEq, Option.pure_def, reduceCtorEq] at hc
  case h_1 => exact (x_mv ho (Option.map_eq_some_iff.2 hc) h).1
  case h_2 => exact (x_mv ho (Option.map_eq_some_iff.2 hc) h).2
  case h_3 => obtain ⟨_, h1, _, h2, _, h3, rfl⟩ := hc; exact x_pick ho h1 h2 h3 h
  case h_4 => obtain ⟨_, h1, _, h2, _, h3, rfl⟩ := hc; exact x_eq (neg := false) ho h2 h3 h1 h
  case h_5 => obtain ⟨_, h1, _, h2, _, h3, rfl⟩ := hc; exact x_eq (neg := true) ho h2 h3 h1 h
  case h_6 =>
    obtain ⟨_, h1, _, h2, rfl⟩ := hc
    rename_i n2 n1
    exact x_ari ho h1 h2 (by rintro rfl; simp at *) (by rintro rfl; simp at *) h
  case h_7 => obtain ⟨_, h1, rfl⟩ := hc; exact x_not ho h1 h
  case h_8 => obtain ⟨_, h1, rfl⟩ := hc; exact x_neg ho h1 h
  case h_9 => obtain ⟨_, h1, rfl⟩ := hc; exact x_xor ho h1 h
  case h_10 =>
    split at hc <;> first | (cases hc; done) | skip
    · rename_i hs hd; obtain ⟨_, h1, rfl⟩ := Option.map_eq_some_iff.1 hc; exact x_cvi ho h1 hs hd h
    · rename_i hs hd; obtain ⟨_, h1, rfl⟩ := Option.map_eq_some_iff.1 hc; exact x_cvs ho h1 hs hd h
    · rename_i hs hd
      split at hc <;> first | (cases hc; done) | skip
      rename_i hel
      split at hc <;> first | (cases hc; done) | skip
      rename_i hsz
      obtain ⟨_, h1, rfl⟩ := Option.map_eq_some_iff.1 hc; exact x_cvb ho h1 hs hd hel hsz h
  case h_11 =>
    split at hc <;> first | (cases hc; done) | skip
    rename_i ht
    obtain ⟨_, h1, rfl⟩ := Option.map_eq_some_iff.1 hc; exact x_ifc ho h1 ht h
  case h_12 => obtain ⟨_, h1, _, h2, rfl⟩ := hc; exact x_fnc ho h1 h2 h
  case h_13 => obtain ⟨_, h1, rfl⟩ := hc; exact x_ext ho h1 h
  case h_14 =>
    split at hc <;> first | (cases hc; done) | skip
    rename_i hu
    try simp only [Option.bind_eq_bind, Option.bind_eq_some_iff, Option.some.injEq] at hc
    obtain ⟨d, hd, ag, hag, s, hs, x', h1, rfl⟩ := hc
    exact x_fld ho h1 hu hd hag hs h
  case h_15 =>
    split at hc <;> first | (cases hc; done) | skip
    rename_i hu
    try simp only [Option.bind_eq_bind, Option.bind_eq_some_iff] at hc
    obtain ⟨d, hd, s, hs, hc⟩ := hc
    split at hc <;> first | (cases hc; done) | skip
    rename_i h0
    simp only [Option.bind_eq_some_iff, Option.some.injEq] at hc
    obtain ⟨x', h1, rfl⟩ := hc
    exact x_fad ho h1 hu hd hs h0 h
  case h_16 =>
    split at hc <;> first | (cases hc; done) | skip
    · rename_i hu
      try simp only [Option.bind_eq_bind, Option.bind_eq_some_iff, Option.some.injEq] at hc
      obtain ⟨s, hs, x', h1, i', h2, rfl⟩ := hc
      exact x_ias ho h1 h2 hu hs h
    · rename_i hu
      try simp only [Option.bind_eq_bind, Option.bind_eq_some_iff, Option.some.injEq] at hc
      obtain ⟨s, hs, x', h1, i', h2, rfl⟩ := hc
      exact x_iaa ho h1 h2 hu hs h
  case h_17 =>
    split at hc <;> first | (cases hc; done) | skip
    · rename_i hu
      try simp only [Option.bind_eq_bind, Option.bind_eq_some_iff, Option.some.injEq] at hc
      obtain ⟨ag, hag, s, hs, x', h1, i', h2, rfl⟩ := hc
      exact x_ixa ho h1 h2 hu hag hs h
    · rename_i hu
      try simp only [Option.bind_eq_bind, Option.bind_eq_some_iff, Option.some.injEq] at hc
      obtain ⟨x', h1, i', h2, rfl⟩ := hc
      exact x_ixs ho h1 h2 hu h
  case h_18 =>
    split at hc <;> first | (cases hc; done) | skip
    rename_i lo hi mx hh
    have hh' : ¬ (hi = none ∧ mx.isSome = true) := by
      rintro ⟨rfl, h2⟩
      exact hh (by simp [h2])
    split at hc <;> first | (cases hc; done) | skip
    · rename_i hu
      try simp only [Option.bind_eq_bind, Option.bind_eq_some_iff, Option.some.injEq] at hc
      obtain ⟨x', h1, lo', h2, hi', h3, mx', h4, rfl⟩ := hc
      exact @x_sls E m ev xe v m' _ _ _ _ _ _ _ _ _ ho h1 h2 h3 h4 hh' hu h
    · rename_i hu
      try simp only [Option.bind_eq_bind, Option.bind_eq_some_iff, Option.some.injEq] at hc
      obtain ⟨s, hs, x', h1, lo', h2, hi', h3, mx', h4, rfl⟩ := hc
      exact @x_sll E m ev xe v m' _ _ _ _ _ _ _ _ _ _ _ ho h1 h2 h3 h4 hh' hu hs h
  case h_19 => obtain ⟨_, h1, rfl⟩ := hc; exact x_nilc ho h1 h
  case h_20 =>
    try simp only [Option.bind_eq_bind, Option.bind_eq_some_iff, Option.some.injEq] at hc
    obtain ⟨z, hz, pl, hpl, qs, hq, rfl⟩ := hc
    exact x_build ho hz hpl hq h
  case h_21 => obtain ⟨_, h1, _, h2, _, h3, rfl⟩ := hc; exact x_load ho h3 h1 h2 h
  case h_22 => obtain ⟨_, h1, _, h2, _, h3, rfl⟩ := hc; exact x_store ho h2 h3 h1 h
  case h_23 =>
    try simp only [Option.bind_eq_bind, Option.bind_eq_some_iff, Option.some.injEq] at hc
    obtain ⟨z, hz, ag, hag, s, hs, rfl⟩ := hc
    exact x_alloc hz hag hs h
  case h_24 => obtain ⟨_, h1, _, h2, _, h3, rfl⟩ := hc; exact x_box ho h3 h1 h2 h
  case h_25 =>
    try simp only [Option.bind_eq_bind, Option.bind_eq_some_iff] at hc
    obtain ⟨el, hel, s, hs, z, hz, hc⟩ := hc
    split at hc <;> first | (cases hc; done) | skip
    rename_i ps hcond
    simp only [Option.bind_eq_some_iff, Option.some.injEq] at hc
    obtain ⟨ag, hag, qs, hq, rfl⟩ := hc
    simp only [not_or, not_and, Bool.not_eq_true, Decidable.not_not] at hcond
    obtain ⟨c1, c2, c3⟩ := hcond
    refine x_bsl ho (cEl_spec hel) hz hag hs c1 (by omega) hq (fun hn => ?_) h
    have := c3 hn
    have : ps = #[] := by simpa using this
    subst this
    simpa [cParts] using hq.symm
  case h_26 =>
    try simp only [Option.bind_eq_bind, Option.bind_eq_some_iff] at hc
    obtain ⟨el, hel, s, hs, z, hz, hc⟩ := hc
    split at hc <;> first | (cases hc; done) | skip
    rename_i h0
    simp only [Option.bind_eq_some_iff, Option.some.injEq] at hc
    obtain ⟨ag, hag, by_, hby, l', h1, c', h2, rfl⟩ := hc
    exact x_msl ho h1 h2 (cEl_spec hel) hz hag hs h0 hby h
  case h_27 => subst hc; exact x_mmp h
  case h_28 =>
    split at hc <;> first | (cases hc; done) | skip
    rename_i hu
    try simp only [Option.bind_eq_bind, Option.bind_eq_some_iff, Option.some.injEq] at hc
    obtain ⟨kk, hkk, z, hz, m2, h1, k', h2, rfl⟩ := hc
    obtain ⟨kt, et, hu2, hkt, _⟩ := cKK_kind hkk
    rw [hu] at hu2; cases hu2
    exact x_lku ho h1 h2 hu hkt hz h
  case h_29 =>
    try simp only [Option.bind_eq_bind, Option.bind_eq_some_iff, Option.some.injEq] at hc
    obtain ⟨kk, hkk, m2, h1, k', h2, x', h3, rfl⟩ := hc
    obtain ⟨kt, et, hu2, hkt, hx⟩ := cKK_kind hkk
    exact x_upd ho h1 h2 h3 hu2 hkt hx h
  case h_30 =>
    try simp only [Option.bind_eq_bind, Option.bind_eq_some_iff, Option.some.injEq] at hc
    obtain ⟨kk, hkk, m2, h1, k', h2, x', h3, rfl⟩ := hc
    obtain ⟨kt, et, hu2, hkt, hx⟩ := cKK_kind hkk
    exact x_upd ho h1 h2 h3 hu2 hkt hx h
  case h_31 =>
    split at hc <;> first | (cases hc; done) | skip
    rename_i hu
    try simp only [Option.bind_eq_bind, Option.bind_eq_some_iff, Option.some.injEq] at hc
    obtain ⟨kk, hkk, z, hz, m2, h1, k', h2, rfl⟩ := hc
    obtain ⟨kt, et, hu2, hkt, hx⟩ := cKK_kind hkk
    rw [hu] at hu2; cases hu2
    exact x_mpe ho h1 h2 hu hkt hx hz h
  case h_32 => obtain ⟨_, h1, _, h2, _, h3, rfl⟩ := hc; exact x_est ho h1 h2 h3 h
  case h_33 =>
    split at hc <;> first | (cases hc; done) | skip
    rename_i hni hu
    try simp only [Option.bind_eq_bind, Option.bind_eq_some_iff, Option.some.injEq] at hc
    obtain ⟨z, hz, x', h1, rfl⟩ := hc
    exact x_tas ho h1 hu (fun ms e => hni ms e) hz h
  case h_34 => obtain ⟨_, h1, rfl⟩ := hc; cases h
  case h_35 => obtain ⟨_, h1, rfl⟩ := hc; cases h
  case h_36 => obtain ⟨_, h1, rfl⟩ := hc; cases h
  case h_37 => obtain ⟨_, h1, _, h2, rfl⟩ := hc; cases h
  case h_38 => obtain ⟨_, h1, _, h2, rfl⟩ := hc; cases h
  case h_39 =>
    split at hc <;> first | (cases hc; done) | skip
    rename_i x t ha ht
    obtain rfl : _ = #[x] := Array.ext' ha
    obtain rfl : _ = #[t] := Array.ext' ht
    split at hc <;> first | (cases hc; done) | skip
    · rename_i hu; obtain ⟨_, h1, rfl⟩ := Option.map_eq_some_iff.1 hc; exact x_lens ho h1 hu h
    · rename_i hu; obtain ⟨_, h1, rfl⟩ := Option.map_eq_some_iff.1 hc; exact x_len ho h1 hu h
    · rename_i hu; simp only [Option.some.injEq] at hc; subst hc; exact x_lena hu h
    · rename_i hu; obtain ⟨_, h1, rfl⟩ := Option.map_eq_some_iff.1 hc; exact x_lenm ho h1 hu h
  case h_40 =>
    split at hc <;> first | (cases hc; done) | skip
    rename_i x y ha
    obtain rfl : _ = #[x, y] := Array.ext' ha
    try simp only [Option.bind_eq_bind, Option.bind_eq_some_iff, Option.some.injEq] at hc
    obtain ⟨_, h1, _, h2, rfl⟩ := hc
    exact x_min ho h1 h2 h
  case h_41 =>
    split at hc <;> first | (cases hc; done) | skip
    rename_i x y ha
    obtain rfl : _ = #[x, y] := Array.ext' ha
    try simp only [Option.bind_eq_bind, Option.bind_eq_some_iff, Option.some.injEq] at hc
    obtain ⟨_, h1, _, h2, rfl⟩ := hc
    exact x_max ho h1 h2 h
  case h_42 =>
    split at hc <;> first | (cases hc; done) | skip
    rename_i x y t t2 ha ht
    obtain rfl : _ = #[x, y] := Array.ext' ha
    obtain rfl : _ = #[t, t2] := Array.ext' ht
    try simp only [Option.bind_eq_bind, Option.bind_eq_some_iff] at hc
    obtain ⟨el, hel, el2, hel2, s, hs, z, hz, hc⟩ := hc
    split at hc <;> first | (cases hc; done) | skip
    rename_i h0
    simp only [Option.bind_eq_some_iff, Option.some.injEq] at hc
    obtain ⟨ag, hag, by_, hby, x', h1, y', h2, rfl⟩ := hc
    exact x_app ho h1 h2 (cEl_spec hel) (cEl_spec hel2) hz hag hs h0 hby h
  case h_43 =>
    split at hc <;> first | (cases hc; done) | skip
    rename_i x y t t2 ha ht
    obtain rfl : _ = #[x, y] := Array.ext' ha
    obtain rfl : _ = #[t, t2] := Array.ext' ht
    try simp only [Option.bind_eq_bind, Option.bind_eq_some_iff] at hc
    obtain ⟨el, hel, el2, hel2, s, hs, hc⟩ := hc
    split at hc <;> first | (cases hc; done) | skip
    rename_i h0
    simp only [Option.bind_eq_some_iff, Option.some.injEq] at hc
    obtain ⟨x', h1, y', h2, rfl⟩ := hc
    exact x_cpy ho h1 h2 (cEl_spec hel) hs h0 h
  case h_44 => subst hc; cases h

end
end Go.VC

/- What the machine's operations look at, and what they leave as it is. -/
namespace Go.VC
open Go Go.RowKit

section
variable {E : Env} {m : XM} {ev : Operand → V} {xe xe' : XO → V} {v : V} {m' : XM}

theorem xm_alloc {t : TypeId} {z : List V} {ag : Bool} {s : Nat} (hz : cZ E.P t = some z) (hag : tag E.P t = some ag) (hs : tsz E.P t = some s) (h : xop m xe (.al z t ag s) = some (v, m')) : ∃ o, m' = m ++ [o] ∧ AStep E ev (.alloc t) m.length v o := by
  simp only [xop, Option.some.injEq, Prod.mk.injEq] at h
  obtain ⟨rfl, rfl⟩ := h
  obtain ⟨zv, k1, k2, rfl, k4⟩ := cZ_spec hz
  exact amop_alloc (p := zv.ok = true) (by simp only [mop, k1, hag, hs, Option.bind_some, Option.map_some]) k2

theorem xm_box {t : TypeId} {ag : Bool} {s : Nat} {x : Operand} {x' : XO} (ho : OpsR ev xe) (h1 : cO x = some x') (hag : tag E.P t = some ag) (hs : tsz E.P t = some s) (h : xop m xe (.bx t ag s x') = some (v, m')) : ∃ o, m' = m ++ [o] ∧ AStep E ev (.box t x) m.length v o := by
  simp only [xop, ho _ _ h1] at h
  split at h <;> first | (cases h; done) | skip
  rename_i hok
  simp only [Option.some.injEq, Prod.mk.injEq] at h
  obtain ⟨rfl, rfl⟩ := h
  exact amop_box (p := (ev x).ok = true) (by simp only [mop, hag, hs, Option.bind_some, Option.map_some]) hok

theorem xm_bsl {t el : TypeId} {n : Nat} {ps : Array (Nat × Operand)} {z : List V} {ag : Bool} {s : Nat} {qs : List (Nat × Nat × XO)} (ho : OpsR ev xe) (hu : E.P.underlying t = some (.slice el)) (hz : cZ E.P el = some z) (hag : tag E.P el = some ag)
    (hs : tsz E.P el = some s) (h0 : s ≠ 0) (hbig : n * s ≤ 16777216) (hq : cParts (fun i => some (i * s, s)) ps = some qs) (hn : n ≠ 0) (h : xop m xe (.bsl el ag s z n qs) = some (v, m')) : ∃ o, m' = m ++ [o] ∧ AStep E ev (.buildSlice t n ps) m.length v o := by
  obtain ⟨zv, k1, k2, rfl, k4⟩ := cZ_spec hz
  simp only [xop] at h
  rw [if_neg hn] at h
  obtain ⟨r, hr, h⟩ := Option.map_eq_some_iff.1 h
  simp only [Prod.mk.injEq] at h
  obtain ⟨rfl, rfl⟩ := h
  rw [xzeros_vzeros] at hr
  obtain ⟨p, h1, h2⟩ := xbuild_vbuild (pl := fun i => some (i * s, s)) ho ps.toList qs _ _ hq hr
  have hzs : zv.cells.length = s := Option.some.inj (k4.symm.trans hs)
  exact amop_buildSlice (p := (s ≠ 0 ∧ zv.ok = true ∧ zv.cells.length = s ∧ n * s ≤ 16777216) ∧ p) (by simp only [mop, hu, hs, k1, hag, Option.bind_some, if_neg hn, h1, Option.map_some]) (And.intro ⟨h0, k2, hzs, hbig⟩ h2) hn

theorem xm_msl {t el : TypeId} {l c : Operand} {l' c' : XO} {z : List V} {ag : Bool} {s by_ : Nat} (ho : OpsR ev xe) (h1 : cO l = some l') (h2 : cO c = some c') (hu : E.P.underlying t = some (.slice el)) (hz : cZ E.P el = some z) (hag : tag E.P el = some ag)
    (hs : tsz E.P el = some s) (h0 : s ≠ 0) (hby : tby E.P el = some by_) (h : xop m xe (.msl el ag s z by_ l' c') = some (v, m')) : ∃ o, m' = m ++ [o] ∧ AStep E ev (.makeSlice t l c) m.length v o := by
  obtain ⟨zv, k1, k2, rfl, k4⟩ := cZ_spec hz
  simp only [xop, ho _ _ h1, ho _ _ h2] at h
  split at h <;> first | (cases h; done) | skip
  rename_i kl n kc k hl hc
  split at h <;> first | (cases h; done) | skip
  rename_i hh
  simp only [Option.some.injEq, Prod.mk.injEq] at h
  obtain ⟨rfl, rfl⟩ := h
  rw [xzeros_vzeros]
  have hzs : zv.cells.length = s := Option.some.inj (k4.symm.trans hs)
  exact amop_makeSlice (p := 0 ≤ n ∧ n ≤ k ∧ k ≤ 1073741824 ∧ (by_ : Int) * k ≤ 281474976710656 ∧ zv.ok = true ∧ zv.cells.length = s ∧ s ≠ 0) (by simp only [mop, hu, hl, hc, hs, k1, hag, hby, Option.bind_some, Option.map_some]) ⟨hh.1, hh.2.1, hh.2.2.1, hh.2.2.2, k2, hzs, h0⟩

/-- An operation that makes a block. -/
theorem cOp_alc {op : Op} {a : XOp} (ho : OpsR ev xe) (hc : cOp E.P op = some a) (ha : a.alc = true) (h : xop m xe a = some (v, m')) : ∃ o, m' = m ++ [o] ∧ AStep E ev op m.length v o := by
  unfold cOp at hc
  split at hc
  all_goals try simp only [Option.bind_eq_bind, Option.bind_eq_some_iff, Option.map_eq_some_iff, Option.some.injEq, Option.pure_def, reduceCtorEq] at hc
  case h_23 => obtain ⟨z, hz, ag, hag, s, hs, rfl⟩ := hc; exact xm_alloc hz hag hs h
  case h_24 => obtain ⟨_, h1, _, h2, _, h3, rfl⟩ := hc; exact xm_box ho h3 h1 h2 h
  case h_25 =>
    obtain ⟨el, hel, s, hs, z, hz, hc⟩ := hc
    split at hc <;> first | (cases hc; done) | skip
    rename_i ps hcond
    simp only [Option.bind_eq_some_iff, Option.some.injEq] at hc
    obtain ⟨ag, hag, qs, hq, rfl⟩ := hc
    simp only [not_or, not_and, Bool.not_eq_true, Decidable.not_not] at hcond
    obtain ⟨c1, c2, c3⟩ := hcond
    exact xm_bsl ho (cEl_spec hel) hz hag hs c1 (by omega) hq (by simpa [XOp.alc] using ha) h
  case h_26 =>
    obtain ⟨el, hel, s, hs, z, hz, hc⟩ := hc
    split at hc <;> first | (cases hc; done) | skip
    rename_i h0
    simp only [Option.bind_eq_some_iff, Option.some.injEq] at hc
    obtain ⟨ag, hag, by_, hby, l', h1, c', h2, rfl⟩ := hc
    exact xm_msl ho h1 h2 (cEl_spec hel) hz hag hs h0 hby h
  case h_27 =>
    subst hc
    simp only [xop, Option.some.injEq, Prod.mk.injEq] at h
    obtain ⟨rfl, rfl⟩ := h
    exact amop_makeMap (p := True) (by simp only [mop])
  all_goals
    exfalso
    repeat' split at hc
    all_goals try simp only [Option.bind_eq_bind, Option.bind_eq_some_iff, Option.map_eq_some_iff, Option.some.injEq, Option.pure_def, reduceCtorEq] at hc
    all_goals first | (cases hc; done) | skip
    all_goals
      first
        | (obtain ⟨_, _, rfl⟩ := hc; cases ha; done)
        | (obtain ⟨_, _, _, _, rfl⟩ := hc; cases ha; done)
        | (obtain ⟨_, _, _, _, _, _, rfl⟩ := hc; cases ha; done)
        | (obtain ⟨_, _, _, _, _, _, _, _, rfl⟩ := hc; cases ha; done)
        | (obtain ⟨_, _, _, _, _, _, _, _, _, _, rfl⟩ := hc; cases ha; done)
        | (subst hc; cases ha; done)
        | (obtain ⟨_, _, _, _, hc⟩ := hc; split at hc <;> first | (cases hc; done) | skip; simp only [Option.bind_eq_some_iff, Option.some.injEq] at hc; obtain ⟨_, _, rfl⟩ := hc; cases ha; done)
        | (obtain ⟨_, _, _, _, _, _, _, _, hc⟩ := hc; split at hc <;> first | (cases hc; done) | skip; simp only [Option.bind_eq_some_iff, Option.some.injEq] at hc; obtain ⟨_, _, _, _, _, _, _, _, rfl⟩ := hc; cases ha; done)
        | (obtain ⟨_, _, _, _, _, _, hc⟩ := hc; split at hc <;> first | (cases hc; done) | skip; simp only [Option.bind_eq_some_iff, Option.some.injEq] at hc; obtain ⟨_, _, _, _, rfl⟩ := hc; cases ha; done)

/-- It looks at its operands alone. -/
theorem xop_xos {a : XOp} (h : ∀ x ∈ a.xos, xe x = xe' x) : xop m xe a = xop m xe' a := by
  have ho : ∀ o : Option XO, (∀ x ∈ o.toList, xe x = xe' x) → o.map xe = o.map xe' := fun o h => by
    cases o with
    | none => rfl
    | some x => simp [h x (by simp)]
  cases a <;> simp only [XOp.xos, List.mem_cons, List.not_mem_nil, or_false, forall_eq_or_imp, forall_eq, List.mem_append] at h
  case fnc f xs ys =>
    have e1 : xs.map xe = xs.map xe' := List.map_congr_left fun x hx => h x (.inl hx)
    have e2 : ys.map xe = ys.map xe' := List.map_congr_left fun x hx => h x (.inr hx)
    simp only [xop, e1, e2]
  case sls x lo hi mx =>
    obtain ⟨h1, h2⟩ := h
    simp only [xop, h1, ho lo (fun x hx => h2 x (.inl (.inl hx))), ho hi (fun x hx => h2 x (.inl (.inr hx))), ho mx (fun x hx => h2 x (.inr hx))]
  case sll s x lo hi mx =>
    obtain ⟨h1, h2⟩ := h
    simp only [xop, h1, ho lo (fun x hx => h2 x (.inl (.inl hx))), ho hi (fun x hx => h2 x (.inl (.inr hx))), ho mx (fun x hx => h2 x (.inr hx))]
  case bld z ps =>
    have e1 : (ps.map fun (o, s, x) => (o, s, xe x)) = ps.map fun (o, s, x) => (o, s, xe' x) := List.map_congr_left fun q hq => by
      obtain ⟨o, s, x⟩ := q
      simp [h x (List.mem_map.2 ⟨_, hq, rfl⟩)]
    simp only [xop, e1]
  case bsl el ag s z n ps =>
    have e1 : (ps.map fun (o, s, x) => (o, s, xe x)) = ps.map fun (o, s, x) => (o, s, xe' x) := List.map_congr_left fun q hq => by
      obtain ⟨o, s, x⟩ := q
      simp [h x (List.mem_map.2 ⟨_, hq, rfl⟩)]
    simp only [xop, e1]
  all_goals first | (simp only [xop, h]; done) | (simp only [xop, h.1, h.2]; done) | (simp only [xop, h.1, h.2.1, h.2.2]; done) | (simp only [xop]; done) | rfl

theorem xcells_more {s : Nat} {x : V} {r : Nat × List V} (l : XM) (h : xcells m s x = some r) : xcells (m ++ l) s x = some r := by
  cases x <;> simp only [xcells, reduceCtorEq] at h ⊢ <;> first | exact h | skip
  split at h <;> first | (cases h; done) | skip
  rename_i hm
  rw [List.getElem?_append_left (List.getElem?_eq_some_iff.1 hm).1, hm]
  exact h

/-- What looks at the memory leaves it as it is, and finds the same in a longer one. -/
theorem xop_mem {a : XOp} (ha : a.mem = true) (l : XM) (h : xop m xe a = some (v, m')) : m' = m ∧ xop (m ++ l) xe a = some (v, m ++ l) := by
  have hm : ∀ {b : Nat} {o : XObj}, m[b]? = some o → (m ++ l)[b]? = some o := fun hb => by rw [List.getElem?_append_left (List.getElem?_eq_some_iff.1 hb).1, hb]
  cases a <;> simp only [XOp.mem, Bool.false_eq_true] at ha
  case ld ag s x =>
    simp only [xop] at h ⊢
    split at h <;> first | (cases h; done) | skip
    · obtain ⟨u, hu, h⟩ := Option.map_eq_some_iff.1 h
      simp only [Prod.mk.injEq] at h
      obtain ⟨rfl, rfl⟩ := h
      simp [hu]
    · split at h <;> first | (cases h; done) | skip
      rename_i hb
      rw [hm hb]
      dsimp only
      split at h <;> first | (cases h; done) | skip
      rename_i he
      rw [if_pos he]
      obtain ⟨u, hu, h⟩ := Option.map_eq_some_iff.1 h
      simp only [Prod.mk.injEq] at h
      obtain ⟨rfl, rfl⟩ := h
      simp [hu]
  case ias s x i =>
    simp only [xop] at h ⊢
    split at h <;> first | (cases h; done) | skip
    · split at h <;> first | (cases h; done) | skip
      split at h <;> first | (cases h; done) | skip
      split at h <;> first | (cases h; done) | skip
      rename_i h1 _ _ h2 h3
      simp only [Option.some.injEq, Prod.mk.injEq] at h
      obtain ⟨rfl, rfl⟩ := h
      simp [h1, h2, h3]
    · split at h <;> first | (cases h; done) | skip
      rename_i hb
      rw [hm hb]
      split at h <;> first | (cases h; done) | skip
      rename_i he
      simp only [Option.some.injEq, Prod.mk.injEq] at h
      obtain ⟨rfl, rfl⟩ := h
      simp [he]
  case sll s x lo hi mx =>
    simp only [xop] at h ⊢
    split at h <;> first | (cases h; done) | skip
    · split at h <;> first | (cases h; done) | skip
      rename_i rows _ _ a b c _
      by_cases c1 : c = some a
      · simp only [if_pos c1, Option.some.injEq, Prod.mk.injEq] at h ⊢
        obtain ⟨rfl, rfl⟩ := h
        simp
      · simp only [if_neg c1] at h ⊢
        by_cases c2 : (rows.headD .und).cells.length = s ∨ rows = []
        · simp only [if_pos c2, Option.some.injEq, Prod.mk.injEq] at h ⊢
          obtain ⟨rfl, rfl⟩ := h
          simp
        · simp only [if_neg c2, reduceCtorEq] at h
    · split at h <;> first | (cases h; done) | skip
      simp only [Option.some.injEq, Prod.mk.injEq] at h
      obtain ⟨rfl, rfl⟩ := h
      simp
    · split at h <;> first | (cases h; done) | skip
      rename_i hb
      rw [hm hb]
      split at h <;> first | (cases h; done) | skip
      rename_i he
      split at h <;> first | (cases h; done) | skip
      simp only [Option.some.injEq, Prod.mk.injEq] at h
      obtain ⟨rfl, rfl⟩ := h
      simp [he]
  case cvb x =>
    simp only [xop] at h ⊢
    split at h <;> first | (cases h; done) | skip
    rename_i hx
    rw [xcells_more l hx]
    obtain ⟨u, hu, h⟩ := Option.map_eq_some_iff.1 h
    simp only [Prod.mk.injEq] at h
    obtain ⟨rfl, rfl⟩ := h
    simp [hu]
  case lku kk z mp k ok =>
    simp only [xop] at h ⊢
    cases hk : !xkok kk (xe k) with
    | true => rw [hk] at h; cases h
    | false =>
      rw [hk] at h
      simp only [cond_false] at h ⊢
      split at h <;> first | (cases h; done) | skip
      · simp only [Option.some.injEq, Prod.mk.injEq] at h
        obtain ⟨rfl, rfl⟩ := h
        simp
      · split at h <;> first | (cases h; done) | skip
        all_goals
          simp only [Option.some.injEq, Prod.mk.injEq] at h
          obtain ⟨rfl, rfl⟩ := h
          simp
      · split at h <;> first | (cases h; done) | skip
        rename_i hb
        rw [hm hb]
        dsimp only
        split at h <;> first | (cases h; done) | skip
        all_goals
          simp only [Option.some.injEq, Prod.mk.injEq] at h
          obtain ⟨rfl, rfl⟩ := h
          simp
  case lenm x =>
    simp only [xop] at h ⊢
    split at h <;> first | (cases h; done) | skip
    · simp only [Option.some.injEq, Prod.mk.injEq] at h
      obtain ⟨rfl, rfl⟩ := h
      simp
    · simp only [Option.some.injEq, Prod.mk.injEq] at h
      obtain ⟨rfl, rfl⟩ := h
      simp
    · split at h <;> first | (cases h; done) | skip
      rename_i hb
      rw [hm hb]
      simp only [Option.some.injEq, Prod.mk.injEq] at h
      obtain ⟨rfl, rfl⟩ := h
      simp

theorem xop_free {a : XOp} (h1 : a.eff = false) (h2 : a.alc = false) (h3 : a.mem = false) (h : xop m xe a = some (v, m')) : m' = m ∧ ∀ m2, xop m2 xe a = some (v, m2) := by
  cases a <;> simp only [XOp.eff, XOp.alc, XOp.mem, Bool.true_eq_false] at h1 h2 h3
  case bsl el ag s z n ps =>
    have hn : n = 0 := by simpa using h2
    subst hn
    simp only [xop, if_true, Option.some.injEq, Prod.mk.injEq] at h ⊢
    obtain ⟨rfl, rfl⟩ := h
    simp
  case min x y =>
    simp only [xop] at h ⊢
    split at h <;> first | (cases h; done) | skip
    split at h <;> first | (cases h; done) | skip
    rename_i hk
    simp only [Option.some.injEq, Prod.mk.injEq] at h
    obtain ⟨rfl, rfl⟩ := h
    exact ⟨rfl, fun m2 => by rw [if_pos hk]⟩
  case max x y =>
    simp only [xop] at h ⊢
    split at h <;> first | (cases h; done) | skip
    split at h <;> first | (cases h; done) | skip
    rename_i hk
    simp only [Option.some.injEq, Prod.mk.injEq] at h
    obtain ⟨rfl, rfl⟩ := h
    exact ⟨rfl, fun m2 => by rw [if_pos hk]⟩
  all_goals
    simp only [xop] at h ⊢
    first
      | (simp only [Option.some.injEq, Prod.mk.injEq] at h; obtain ⟨rfl, rfl⟩ := h; simp; done)
      | (obtain ⟨u, hu, h⟩ := Option.map_eq_some_iff.1 h; simp only [Prod.mk.injEq] at h; obtain ⟨rfl, rfl⟩ := h; simp [hu]; done)
      | (repeat' split at h
         all_goals first | (cases h; done) | skip
         all_goals first
           | (simp only [Option.some.injEq, Prod.mk.injEq] at h; obtain ⟨rfl, rfl⟩ := h; simp_all; done)
           | (obtain ⟨u, hu, h⟩ := Option.map_eq_some_iff.1 h; simp only [Prod.mk.injEq] at h; obtain ⟨rfl, rfl⟩ := h; simp_all; done))

end
end Go.VC

/- Values when nobody writes the own blocks any more; calls that are made apart. -/
namespace Go.VC
open Go Go.RowKit

/-- Nothing but fixed cells; the code's relation stays. -/
def G.iso (g : G) (I : Nat → Nat → Prop) : G := { pureG I with lk := g.lk }

section
variable {E : Env} {g : G} {m : XM} {w : World}

theorem G.iso_pure (g : G) (I : Nat → Nat → Prop) (w : World) : (g.iso I).le w (pureG I) w := ⟨fun _ _ h => h, fun _ _ _ => rfl, fun _ => Nat.le_refl _, fun _ _ _ h => by cases h⟩
theorem G.pure_iso (g : G) (I : Nat → Nat → Prop) (w : World) : (pureG I).le w (g.iso I) w := ⟨fun _ _ h => h, fun _ _ _ => rfl, fun _ => Nat.le_refl _, fun _ _ _ h => by cases h⟩

theorem xna_cells (v : V) : (xna v).cells = [xna v] := by cases v <;> rfl
theorem xna_rel {g : G} {w : World} {v : V} {cv : Value} (h : VR w g v cv) : VR w g (xna v) cv := by cases v <;> first | exact .und _ | exact h

theorem xchunks_length (ag : Bool) (sz : Nat) : ∀ n cs, (xchunks ag sz n cs).length = n := by
  intro n
  induction n with
  | zero => intro cs; rfl
  | succ n ih => intro cs; simp [xchunks, ih]

theorem xchunks_get (ag : Bool) (sz : Nat) : ∀ n cs i, i < n → (xchunks ag sz n cs)[i]? = some (if ag then .agg ((cs.drop (i * sz)).take sz) else xna ((cs.drop (i * sz)).headD .und)) := by
  intro n
  induction n with
  | zero => intro cs i h; omega
  | succ n ih =>
    intro cs i h
    cases i with
    | zero => simp [xchunks]
    | succ i =>
      simp only [xchunks, List.getElem?_cons_succ]
      rw [ih _ _ (by omega)]
      rw [List.drop_drop, Nat.succ_mul, Nat.add_comm sz]

/-- A value that only fixed cells bear. -/
theorem VR.move {g g' : G} {w : World} {v : V} {cv : Value} (h : VR w g v cv) (hI : ∀ b o, g.I b o → g'.I b o) (hp : (∃ r, v = .psl r) ∨ (∃ c, v = .pref c) ∨ (∃ a b, v = .pmap a b)) : VR w g' v cv := by
  have hle : (pureG g.I).le w (pureG g'.I) w := ⟨hI, fun _ _ _ => rfl, fun _ => Nat.le_refl _, fun _ _ _ h => by cases h⟩
  cases h with
  | pnil a => exact .pnil a
  | psl rows n sz blk off cap val hn hs hc h1 h2 h3 => exact .psl rows n sz blk off cap val hn hs hc (fun i r j c a b => hI _ _ (h1 i r j c a b)) h2 fun i r j c a b => (h3 i r j c a b).mono hle
  | pref cs blk off val h1 h2 h3 => exact .pref cs blk off val (fun j c a => hI _ _ (h1 j c a)) h2 fun j c a => (h3 j c a).mono hle
  | pmap ks vs r clock es ks' vs' p1 p2 p3 h1 h2 e1 e2 h3 h4 => exact .pmap ks vs r clock es ks' vs' p1 p2 p3 (hI _ _ h1) h2 e1 e2 (fun i e k a b => (h3 i e k a b).mono hle) fun i e k a b => (h4 i e k a b).mono hle
  | _ => rcases hp with ⟨_, hp⟩ | ⟨_, hp⟩ | ⟨_, _, hp⟩ <;> cases hp

/-- What a value is once nobody writes the own blocks any more. -/
theorem frz_rel (hr : Rel g m w) (g2 : G) {I : Nat → Nat → Prop} (hown : ∀ b c o, g.β b = some c → I c.1 o) : ∀ (n : Nat) (v : V) (cv : Value), (xfresh m n v = true ∨ ∀ b o, g.I b o → I b o) → VR w g v cv → VR w (g2.iso I) (xfrz m n v) cv := by
  intro n
  induction n with
  | zero =>
    intro v cv hf hv
    cases v <;> simp only [xfrz] <;> first | exact .und _ | skip
    all_goals first
      | (cases hv; first | exact .int _ _ | exact .bool _ | exact .str _ | exact .nsl _ | exact .nptr | exact .nmap | exact .nfn | exact .nifc; done)
      | skip
    case psl rows =>
      rcases hf with hf | hf
      · cases rows with
        | nil => cases hv with
          | pnil a => exact .pnil a
          | psl _ n sz blk off cap val hn hs hc h1 h2 h3 => exact .psl _ n sz blk off cap val hn (fun r hr => by cases hr) hc (fun i r j c a => by simp at a) (fun i r j c a => by simp at a) (fun i r j c a => by simp at a)
        | cons a b => simp [xfresh] at hf
      · exact hv.move hf (.inl ⟨_, rfl⟩)
    case pref cs =>
      rcases hf with hf | hf
      · simp [xfresh] at hf
      · exact hv.move hf (.inr (.inl ⟨_, rfl⟩))
    case pmap a b =>
      rcases hf with hf | hf
      · simp [xfresh] at hf
      · exact hv.move hf (.inr (.inr ⟨_, _, rfl⟩))
  | succ n ih =>
    intro v cv hf hv
    have list : ∀ (cs : List V) (vs : Array Value), (cs.all (xfresh m n) = true ∨ ∀ b o, g.I b o → I b o) → (∀ (i : Nat) c, cs[i]? = some c → VR w g c (vs.getD i undef)) → ∀ (i : Nat) c, (cs.map (xfrz m n))[i]? = some c → VR w (g2.iso I) c (vs.getD i undef) := by
      intro cs vs h1 h2 i c hc
      simp only [List.getElem?_map, Option.map_eq_some_iff] at hc
      obtain ⟨x, hx, rfl⟩ := hc
      exact ih _ _ (h1.imp (fun h => List.all_eq_true.1 h x (List.mem_of_getElem? hx)) id) (h2 i x hx)
    cases v <;> try simp only [xfrz]
    all_goals first | exact .und _ | skip
    all_goals first
      | (cases hv; first | exact .int _ _ | exact .bool _ | exact .str _ | exact .nsl _ | exact .nptr | exact .nmap | exact .nfn | exact .nifc; done)
      | skip
    case psl rows =>
      rcases hf with hf | hf
      · cases rows with
        | nil => cases hv with
          | pnil a => exact .pnil a
          | psl _ n sz blk off cap val hn hs hc h1 h2 h3 => exact .psl _ n sz blk off cap val hn (fun r hr => by cases hr) hc (fun i r j c a => by simp at a) (fun i r j c a => by simp at a) (fun i r j c a => by simp at a)
        | cons a b => simp [xfresh] at hf
      · exact hv.move hf (.inl ⟨_, rfl⟩)
    case pref cs =>
      rcases hf with hf | hf
      · simp [xfresh] at hf
      · exact hv.move hf (.inr (.inl ⟨_, rfl⟩))
    case pmap a b =>
      rcases hf with hf | hf
      · simp [xfresh] at hf
      · exact hv.move hf (.inr (.inr ⟨_, _, rfl⟩))
    case agg cs =>
      cases hv with
      | agg _ vs hl h => exact .agg _ vs (by simpa using hl) (list cs vs (by simpa [xfresh] using hf) h)
    case tup cs =>
      cases hv with
      | tup _ vs hl h => exact .tup _ vs (by simpa using hl) (list cs vs (by simpa [xfresh] using hf) h)
    case ifc t v =>
      cases hv with
      | ifc _ _ v' h => exact .ifc _ _ _ (ih _ _ (by simpa [xfresh] using hf) h)
    case fn f xs ys =>
      cases f <;> simp only [xfrz] <;> first | exact .und _ | skip
      cases hv with
      | fn _ _ _ xs' ys' hx hy h1 h2 =>
        have hf2 : (xs.all (xfresh m n) = true ∧ ys.all (xfresh m n) = true) ∨ ∀ b o, g.I b o → I b o := by
          rcases hf with hf | hf
          · simp only [xfresh, Bool.and_eq_true] at hf; exact .inl hf
          · exact .inr hf
        exact .fn _ _ _ _ _ (by simpa using hx) (by simpa using hy) (list xs xs' (hf2.imp (·.1) id) h1) (list ys ys' (hf2.imp (·.2) id) h2)
    case sl b e off len cap =>
      split
      · rename_i cells ty ag sz ep hm
        split
        · rename_i hc
          obtain ⟨rfl, hfit, hs0, hag⟩ := hc
          obtain ⟨a, cap', rfl, hlc, _, hd⟩ := hr.sl hm hv
          rcases hd with hd | ⟨c, base, hb, rfl, hext⟩
          · obtain rfl : len = 0 := by omega
            rw [hd, show xchunks ag sz 0 _ = [] from rfl]
            exact .pnil _
          · obtain ⟨_, hsz, c', base', cs, h3, h4, h5, h6, h7⟩ := hr.objs b _ _ hm hb
            obtain ⟨rfl, rfl⟩ : c = c' ∧ base = base' := by simpa using hb.symm.trans h3
            have hcell : ∀ j, j < len * sz → ∀ u, cells[off + j]? = some u → VR w (g2.iso I) (xfrz m n u) (cs.getD (base + off + j) undef) := by
              intro j hj u hu
              refine ih _ _ (hf.imp (fun hf => ?_) id) (by rw [Nat.add_assoc]; exact h7 _ _ hu)
              simp only [xfresh, hm] at hf
              refine List.all_eq_true.1 hf u ?_
              refine List.mem_of_getElem? (i := j) ?_
              rw [List.getElem?_take, if_pos hj, List.getElem?_drop, hu]
            have hcs : ∀ i j u, i < len → j < sz → (((cells.drop off).take (len * sz)).map (xfrz m n))[i * sz + j]? = some u → VR w (g2.iso I) u (cs.getD (base + off + (i * sz + j)) undef) := by
              intro i j u hi hj hu
              have hlt : i * sz + j < len * sz := by
                have : (i + 1) * sz ≤ len * sz := Nat.mul_le_mul_right _ hi
                rw [Nat.succ_mul] at this; omega
              simp only [List.getElem?_map, Option.map_eq_some_iff] at hu
              obtain ⟨x, hx, rfl⟩ := hu
              rw [List.getElem?_take, if_pos hlt, List.getElem?_drop] at hx
              exact hcell _ hlt _ hx
            have hlen2 : (((cells.drop off).take (len * sz)).map (xfrz m n)).length = len * sz := by simp; omega
            generalize hK : ((cells.drop off).take (len * sz)).map (xfrz m n) = K at hcs hlen2
            have hrow : ∀ i r, (xchunks ag sz len K)[i]? = some r → i < len ∧ r.cells.length = sz ∧ ∀ j c, r.cells[j]? = some c → j < sz ∧ VR w (g2.iso I) c (cs.getD (base + off + (i * sz + j)) undef) := by
              intro i r hir
              have hi : i < len := by have := (List.getElem?_eq_some_iff.1 hir).1; rwa [xchunks_length] at this
              have hfull : i * sz + sz ≤ len * sz := by rw [← Nat.succ_mul]; exact Nat.mul_le_mul_right _ hi
              rw [xchunks_get _ _ _ _ _ hi] at hir
              simp only [Option.some.injEq] at hir
              subst hir
              refine ⟨hi, ?_⟩
              rcases hag with rfl | rfl
              · simp only [if_true, V.cells_agg]
                refine ⟨by simp; omega, fun j c hj => ?_⟩
                have hjs : j < sz := by have := (List.getElem?_eq_some_iff.1 hj).1; simp at this; omega
                rw [List.getElem?_take, if_pos hjs, List.getElem?_drop] at hj
                exact ⟨hjs, hcs i j c hi hjs hj⟩
              · cases ag
                · have hx : ∃ x, K[i * 1]? = some x := ⟨K[i * 1], List.getElem?_eq_getElem (by omega)⟩
                  obtain ⟨x, hx⟩ := hx
                  have hh : (K.drop (i * 1)).headD .und = x := by rw [List.headD_eq_head?_getD, List.head?_drop, hx]; rfl
                  simp only [Bool.false_eq_true, if_false, hh, xna_cells]
                  refine ⟨rfl, fun j c hj => ?_⟩
                  cases j with
                  | zero => simp at hj; subst hj; exact ⟨Nat.one_pos, xna_rel (hcs i 0 x hi Nat.one_pos (by simpa using hx))⟩
                  | succ j => simp at hj
                · simp only [if_true, V.cells_agg]
                  refine ⟨by simp; omega, fun j c hj => ?_⟩
                  have hjs : j < 1 := by have := (List.getElem?_eq_some_iff.1 hj).1; simp at this; omega
                  rw [List.getElem?_take, if_pos hjs, List.getElem?_drop] at hj
                  exact ⟨hjs, hcs i j c hi hjs hj⟩
            refine .psl _ len sz c (base + off) cap' (fun i j => cs.getD (base + off + (i * sz + j)) undef) (xchunks_length _ _ _ _).symm (fun r hr => ?_) hlc (fun i r j c hi hj => hown b (_, base) _ hb) (fun i r j c2 hi hj => ?_) (fun i r j c2 hi hj => ?_)
            · obtain ⟨i, hi⟩ := List.getElem?_of_mem hr
              exact (hrow i r hi).2.1
            · obtain ⟨q1, q2, q3⟩ := hrow i r hi
              obtain ⟨q4, q5⟩ := q3 j c2 hj
              have : (i + 1) * sz ≤ len * sz := Nat.mul_le_mul_right _ q1
              rw [Nat.succ_mul] at this
              rw [Nat.add_assoc (base + off), cell_of_heap h4 (by omega)]
            · obtain ⟨q1, q2, q3⟩ := hrow i r hi
              obtain ⟨q4, q5⟩ := q3 j c2 hj
              exact q5.mono (G.iso_pure g2 I w)
        · exact .und _
      · exact .und _
    case ptr b e off =>
      split
      · rename_i cells ty ag sz ep hm
        split
        · rename_i he
          subst he
          obtain ⟨c, base, cs, rfl, hb, h4, h5, h6, h7⟩ := hr.ptr hm hv
          have hj : ∀ j u, ((cells.drop off).map (xfrz m n))[j]? = some u → ∃ x, cells[off + j]? = some x ∧ u = xfrz m n x := by
            intro j u hu
            simp only [List.getElem?_map, Option.map_eq_some_iff] at hu
            obtain ⟨x, hx, rfl⟩ := hu
            rw [List.getElem?_drop] at hx
            exact ⟨x, hx, rfl⟩
          refine .pref _ c (base + off) (fun j => cs.getD (base + off + j) undef) (fun j u hu => hown b _ _ hb) (fun j u hu => ?_) (fun j u hu => ?_)
          · obtain ⟨x, hx, _⟩ := hj j u hu
            have := (List.getElem?_eq_some_iff.1 hx).1
            exact cell_of_heap h4 (by omega)
          · obtain ⟨x, hx, rfl⟩ := hj j u hu
            refine (ih _ _ (hf.imp (fun hf => ?_) id) (by rw [Nat.add_assoc]; exact h7 _ _ hx)).mono (G.iso_pure g2 I w)
            simp only [xfresh, hm] at hf
            refine List.all_eq_true.1 hf x (List.mem_of_getElem? (i := j) ?_)
            rw [List.getElem?_drop, hx]
        · exact .und _
      · exact .und _
    case map b =>
      split
      · rename_i es clock hm
        obtain ⟨r, ces, rfl, hb, hw, e1, e2⟩ := hr.mapAt hm hv
        have hes : ∀ (i : Nat) (e : MapEntry), ces[i]? = some e → ∃ k v nn, es[i]? = some (k, v, nn) ∧ VR w g k e.key ∧ VR w g v e.val := by
          intro i e he
          have hlt : i < es.length := by rw [← e1]; exact (Array.getElem?_eq_some_iff.1 he).1
          obtain ⟨e', h1, h2, h3, _⟩ := e2 i _ _ _ (List.getElem?_eq_getElem hlt)
          obtain rfl : e = e' := Option.some.inj (he.symm.trans h1)
          exact ⟨_, _, _, List.getElem?_eq_getElem hlt, h2, h3⟩
        refine .pmap _ _ r clock ces _ _ (List.Perm.refl _) rfl (by simp) (hown b _ _ hb) hw (by simpa using e1) (by simp) (fun i e k he hk => ?_) (fun i e k he hk => ?_)
        · obtain ⟨k0, v0, n0, h1, h2, h3⟩ := hes i e he
          simp only [List.getElem?_map, h1, Option.map_some, Option.some.injEq] at hk
          subst hk
          refine (ih _ _ (hf.imp (fun hf => ?_) id) h2).mono (G.iso_pure g2 I w)
          simp only [xfresh, hm] at hf
          have := List.all_eq_true.1 hf _ (List.mem_of_getElem? h1)
          simp only [Bool.and_eq_true] at this
          exact this.1
        · obtain ⟨k0, v0, n0, h1, h2, h3⟩ := hes i e he
          simp only [List.getElem?_map, h1, Option.map_some, Option.some.injEq] at hk
          subst hk
          refine (ih _ _ (hf.imp (fun hf => ?_) id) h3).mono (G.iso_pure g2 I w)
          simp only [xfresh, hm] at hf
          have := List.all_eq_true.1 hf _ (List.mem_of_getElem? h1)
          simp only [Bool.and_eq_true] at this
          exact this.2
      · exact .und _

end
end Go.VC

