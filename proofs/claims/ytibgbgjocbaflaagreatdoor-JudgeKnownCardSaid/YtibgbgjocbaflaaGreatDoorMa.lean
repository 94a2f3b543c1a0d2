/- Abstract values; the code and the memory of the abstract machine. -/
import Derived.TacticsIn
import Derived.RangeFuncIn
import Derived.DefersIn
import Derived.RecoverIn
import Derived.RangeFuncLeaves
import Derived.OrdersIn
import Derived.WalkKit
import Derived.LoopNIn
namespace Go.VC
open Go

/-- Abstract values. -/
inductive V where
  | int (k : IntKind) (n : Int)
  | bool (b : Bool)
  | str (s : List UInt8)
  | agg (cs : List V)
  | tup (vs : List V)
  | psl (rows : List V)
  | nsl
  | sl (b e off len : Nat) (cap : Option Nat)
  | pref (cs : List V)
  | ptr (b e off : Nat)
  | nptr
  | map (b : Nat)
  | pmap (ks vs : List V)
  | nmap
  | fn (f : Fn) (first caps : List V)
  | nfn
  | ifc (t : TypeId) (v : V)
  | nifc
  | und
  | udf
  deriving Inhabited

/-- The cells of a value. -/
def V.cells : V → List V
  | .agg cs => cs
  | v => [v]

@[simp] theorem V.cells_agg (cs : List V) : (V.agg cs).cells = cs := rfl

/-- A value of one cell. -/
def V.one : V → Bool
  | .agg _ | .tup _ | .und | .udf => false
  | _ => true

/-- A value that is known. -/
def V.ok : V → Bool
  | .und | .udf => false
  | _ => true

theorem V.ok_ne {v : V} (h : v.ok = true) : v ≠ .und := by rintro rfl; cases h

/-- Operands. -/
inductive XO where
  | t (i : Nat)
  | c (v : V)
  | g (n : Nat)
  deriving Inhabited

/-- What '==' compares. -/
inductive XK where
  | int | bool | str
  | ptr | map | fn | ifc     -- against nil
  | flat (ks : List Nat)     -- structs whose cells are numbers (0), booleans (1), strings (2)
  deriving Inhabited

inductive XOp where
  | mv (x : XO)
  | pick (c a b : XO)
  | ari (op : BinOp) (x y : XO)
  | eq (neg : Bool) (k : XK) (x y : XO)
  | not (x : XO)
  | neg (x : XO)
  | xor (x : XO)
  | cvi (k : IntKind) (x : XO)
  | cvs (x : XO)
  | cvb (x : XO)
  | ifc (t : Nat) (x : XO)
  | fnc (f : Nat) (xs ys : List XO)
  | ext (x : XO) (i : Nat)
  | fld (ag : Bool) (s off : Nat) (x : XO)
  | fad (off : Nat) (x : XO)
  | ias (s : Nat) (x i : XO)
  | iaa (n s : Nat) (x i : XO)
  | ixa (n : Nat) (ag : Bool) (s : Nat) (x i : XO)
  | ixs (x i : XO)
  | sls (x : XO) (lo hi mx : Option XO)
  | sll (s : Nat) (x : XO) (lo hi mx : Option XO)
  | nilc (x : XO)
  | bld (z : List V) (parts : List (Nat × Nat × XO))
  | len (x : XO)
  | lens (x : XO)
  | lena (n : Nat)
  | min (x y : XO)
  | max (x y : XO)
  | ld (ag : Bool) (s : Nat) (a : XO)
  | st (s : Nat) (a x : XO)
  | al (z : List V) (ty : Nat) (ag : Bool) (s : Nat)
  | bx (ty : Nat) (ag : Bool) (s : Nat) (x : XO)
  | bsl (el : Nat) (ag : Bool) (s : Nat) (z : List V) (n : Nat) (parts : List (Nat × Nat × XO))
  | msl (el : Nat) (ag : Bool) (s : Nat) (z : List V) (by_ : Nat) (l c : XO)
  | mmp
  | app (el : Nat) (ag : Bool) (s : Nat) (by_ : Nat) (a y : XO)
  | cpy (s : Nat) (x y : XO)
  | lku (kk : XK) (z : V) (m k : XO) (ok : Bool)
  | upd (kk : XK) (m k x : XO)
  | mpe (kk : XK) (z : V) (m k : XO)
  | est (m s x : XO)
  | lenm (x : XO)
  | call (f : Nat) (xs : List XO)
  | cav (f : XO) (xs : List XO)
  | inv (tab : List (Nat × Nat)) (x : XO) (xs : List XO)
  | dfr (f : Nat) (xs : List XO)
  | rcv
  | pan (x : XO)
  | tas (t : Nat) (z : V) (x : XO)      -- comma ok, to a type that is no interface
  deriving Inhabited

structure XI where
  dst : Option Nat
  op : XOp
  grd : Option (Nat × Bool)     -- the slot that is looked at
  deriving Inhabited

/-- A region whose order is open: what only looks, then one effect, and so on; at the end two stores whose order is open may stand. 'keep': what of that which only looks may still be to come behind the effect. -/
inductive XD where
  | fin (qs : List (Nat × XI))
  | one (qs : List (Nat × XI)) (i : Nat) (e : XI) (keep : List Nat) (d : XD)
  | two (qs : List (Nat × XI)) (i : Nat) (a : XI) (ka : List Nat) (j : Nat) (b : XI) (kb : List Nat)
  deriving Inhabited

inductive XC where
  | skip
  | reg (ops : List XI)
  | drw (d : XD)
  | seq (a b : XC)
  | cond (c : XO) (a b : XC)
  | block (id : Nat) (b : XC)
  | loop (b : XC)
  | exit (id : Nat)
  | ret
  | rfn (f : XO) (ps : List Nat) (a b : XC)
  | bad
  deriving Inhabited

inductive XS where
  | t (i : Nat)
  | cell (a : Nat) (ag : Bool) (s : Nat)
  deriving Inhabited

structure XF where
  n : Nat
  res : List XS
  pure : Bool
  body : XC
  deriving Inhabited

/-- How code is left. -/
inductive XE where
  | nrm
  | exit (id : Nat)
  | ret
  | pan (v : V)
  deriving Inhabited

/-- Objects of the abstract memory. -/
inductive XObj where
  | row (cells : List V) (ty : Nat) (ag : Bool) (sz ep : Nat)
  | map (es : List (V × V × Nat)) (clock : Nat)
  | loop (state : Nat) (pending : Option XE) (t : List V) (ps : List Nat) (a b : XC)     -- 0 ready, 1 busy, 2 done, 3 exhausted
  | none
  deriving Inhabited

abbrev XM := List XObj


def XObj.ep : XObj → Nat
  | .row _ _ _ _ ep => ep
  | .map _ _ => 1
  | _ => 0

end Go.VC

/- When a concrete value is an abstract one. -/
namespace Go.VC
open Go

/-- What the calculus knows of a world beside the values: which cells nobody writes any more, where the own blocks lie, their epochs, how many cells they have, and the size of their elements; what code of the program is what code of the machine; which blocks the memory names that are not laid yet, and what will lie there. -/
structure G where
  lk : Code → XC → Prop
  I : Nat → Nat → Prop
  β : Nat → Option (Nat × Nat)
  ep : Nat → Nat
  ext : Nat → Nat
  sz : Nat → Nat
  pd : Nat → Option XObj

/-- Nothing but fixed cells. -/
def pureG (I : Nat → Nat → Prop) : G := { lk := fun _ _ => False, I := I, β := fun _ => none, ep := fun _ => 0, ext := fun _ => 0, sz := fun _ => 0, pd := fun _ => none }

/-- A concrete value is, in a world, an abstract one. What lies in fixed cells never points to an own block. -/
inductive VR (w : World) : G → V → Value → Prop
  | int {g} (k : IntKind) (n : Int) : VR w g (.int k n) (.int k n)
  | bool {g} (b : Bool) : VR w g (.bool b) (.bool b)
  | str {g} (s : List UInt8) : VR w g (.str s) (.string ⟨s.toArray⟩)
  | agg {g} (cs : List V) (vs : Array Value) (hl : vs.size = cs.length) (h : ∀ i c, cs[i]? = some c → VR w g c (vs.getD i undef)) : VR w g (.agg cs) (.agg vs)
  | tup {g} (cs : List V) (vs : Array Value) (hl : vs.size = cs.length) (h : ∀ i c, cs[i]? = some c → VR w g c (vs.getD i undef)) : VR w g (.tup cs) (.tuple vs)
  | psl {g} (rows : List V) (n sz blk off cap : Nat) (val : Nat → Nat → Value) (hn : n = rows.length) (hs : ∀ r ∈ rows, r.cells.length = sz) (hc : n ≤ cap)
      (hI : ∀ i r j c, rows[i]? = some r → r.cells[j]? = some c → g.I blk (off + i * sz + j))
      (hw : ∀ i r j c, rows[i]? = some r → r.cells[j]? = some c → w.cell? ⟨blk, off + i * sz + j, none⟩ = some (val i j))
      (hv : ∀ i r j c, rows[i]? = some r → r.cells[j]? = some c → VR w (pureG g.I) c (val i j)) :
      VR w g (.psl rows) (.slice (some ⟨blk, off, none⟩) n cap)
  | pnil {g} (a : Option Addr) : VR w g (.psl []) (.slice a 0 0)
  | nsl {g} (a : Option Addr) : VR w g .nsl (.slice a 0 0)
  | sl {g} (b e off len : Nat) (cap : Option Nat) (a : Option Addr) (cap' : Nat) (he : e ≤ g.ep b) (hl : len ≤ cap') (hcap : ∀ c, cap = some c → cap' = c)
      (h : g.ep b = e → cap' = 0 ∨ ∃ c base, g.β b = some (c, base) ∧ a = some ⟨c, base + off, none⟩ ∧ base + off + cap' * g.sz b ≤ g.ext b) :
      VR w g (.sl b e off len cap) (.slice a len cap')
  | pref {g} (cs : List V) (blk off : Nat) (val : Nat → Value)
      (hI : ∀ j c, cs[j]? = some c → g.I blk (off + j))
      (hw : ∀ j c, cs[j]? = some c → w.cell? ⟨blk, off + j, none⟩ = some (val j))
      (hv : ∀ j c, cs[j]? = some c → VR w (pureG g.I) c (val j)) :
      VR w g (.pref cs) (.pointer (some ⟨blk, off, none⟩))
  | ptr {g} (b e off : Nat) (a : Addr) (he : e ≤ g.ep b) (h : g.ep b = e → ∃ c base, g.β b = some (c, base) ∧ a = ⟨c, base + off, none⟩) :
      VR w g (.ptr b e off) (.pointer (some a))
  | nptr {g} : VR w g .nptr (.pointer none)
  | map {g} (b r : Nat) (he : 1 ≤ g.ep b) (h : g.ep b = 1 → g.β b = some (r, 0)) : VR w g (.map b) (.map (some r))
  | pmap {g} (ks vs : List V) (r clock : Nat) (es : Array MapEntry) (ks' vs' : List V) (hp : (ks'.zip vs').Perm (ks.zip vs)) (h0 : ks'.length = ks.length) (h3 : vs'.length = ks'.length)
      (hI : g.I r 0) (hw : w.heap[r]? = some (.map es clock)) (h1 : es.size = ks'.length) (h2 : vs.length = ks.length)
      (hk : ∀ (i : Nat) (e : MapEntry) k, es[i]? = some e → ks'[i]? = some k → VR w (pureG g.I) k e.key)
      (hv : ∀ (i : Nat) (e : MapEntry) v, es[i]? = some e → vs'[i]? = some v → VR w (pureG g.I) v e.val) : VR w g (.pmap ks vs) (.map (some r))
  | nmap {g} : VR w g .nmap (.map none)
  | yld {g} (b r : Nat) (h : g.ep b = 0 → g.β b = some (r, 0)) : VR w g (.fn (.yield b) [] []) (.func (.yield r) #[] #[])
  | fn {g} (f : FuncId) (xs ys : List V) (xs' ys' : Array Value) (hx : xs'.size = xs.length) (hy : ys'.size = ys.length)
      (h1 : ∀ i c, xs[i]? = some c → VR w g c (xs'.getD i undef)) (h2 : ∀ i c, ys[i]? = some c → VR w g c (ys'.getD i undef)) :
      VR w g (.fn (.func f) xs ys) (.func (.func f) xs' ys')
  | nfn {g} : VR w g .nfn .nilFunc
  | ifc {g} (t : TypeId) (v : V) (v' : Value) (h : VR w g v v') : VR w g (.ifc t v) (.iface t v')
  | nifc {g} : VR w g .nifc .nilIface
  | und {g} (v : Value) : VR w g .und v
  | udf {g} : VR w g .udf undef

/-- What is known stays true: fixed cells hold what they held, epochs go up alone, and a block whose epoch is as it was lies where it lay. -/
structure G.le (g : G) (w : World) (g' : G) (w' : World) : Prop where
  I : ∀ b o, g.I b o → g'.I b o
  blk : ∀ b o, g.I b o → w'.heap[b]? = w.heap[b]?
  ep : ∀ b, g.ep b ≤ g'.ep b
  β : ∀ b c, g'.ep b = g.ep b → g.β b = some c → g'.β b = some c ∧ g'.ext b = g.ext b ∧ g'.sz b = g.sz b

theorem cell_of_blk {w w' : World} {b : Nat} (h : w'.heap[b]? = w.heap[b]?) (o : Nat) : w'.cell? ⟨b, o, none⟩ = w.cell? ⟨b, o, none⟩ := by
  simp only [World.cell?, h]

theorem G.le.cell {g g' : G} {w w' : World} (h : g.le w g' w') (b o : Nat) (hi : g.I b o) : w'.cell? ⟨b, o, none⟩ = w.cell? ⟨b, o, none⟩ := cell_of_blk (h.blk b o hi) o

theorem G.le.refl (g : G) (w : World) : g.le w g w := ⟨fun _ _ h => h, fun _ _ _ => rfl, fun _ => Nat.le_refl _, fun _ _ _ h => ⟨h, rfl, rfl⟩⟩

theorem G.le.trans {g g' g'' : G} {w w' w'' : World} (h : g.le w g' w') (k : g'.le w' g'' w'') : g.le w g'' w'' :=
  ⟨fun b o hi => k.I b o (h.I b o hi), fun b o hi => (k.blk b o (h.I b o hi)).trans (h.blk b o hi), fun b => Nat.le_trans (h.ep b) (k.ep b), fun b c he hb => by
    have h1 := h.ep b
    have h2 := k.ep b
    obtain ⟨a1, a2, a3⟩ := h.β b c (by omega) hb
    obtain ⟨b1, b2, b3⟩ := k.β b c (by omega) a1
    exact ⟨b1, b2.trans a2, b3.trans a3⟩⟩

theorem G.le.pure {g g' : G} {w w' : World} (h : g.le w g' w') : (pureG g.I).le w (pureG g'.I) w' :=
  ⟨h.I, h.blk, fun _ => Nat.le_refl _, fun _ _ _ h => by cases h⟩

theorem G.le.of_pure (g : G) (w : World) : (pureG g.I).le w g w :=
  ⟨fun _ _ h => h, fun _ _ _ => rfl, fun _ => Nat.zero_le _, fun _ _ _ h => by cases h⟩

/-- A value stays what it is. -/
theorem VR.mono {g g' : G} {w w' : World} (hle : g.le w g' w') {v : V} {cv : Value} (h : VR w g v cv) : VR w' g' v cv := by
  induction h generalizing g' with
  | int k n => exact .int k n
  | bool b => exact .bool b
  | str s => exact .str s
  | agg cs vs hl _ ih => exact .agg cs vs hl fun i c hc => ih i c hc hle
  | tup cs vs hl _ ih => exact .tup cs vs hl fun i c hc => ih i c hc hle
  | psl rows n sz blk off cap val hn hs hc hI hw _ ih =>
    exact .psl rows n sz blk off cap val hn hs hc (fun i r j c h1 h2 => hle.I _ _ (hI i r j c h1 h2)) (fun i r j c h1 h2 => (hle.cell _ _ (hI i r j c h1 h2)).trans (hw i r j c h1 h2))
      fun i r j c h1 h2 => ih i r j c h1 h2 hle.pure
  | pnil a => exact .pnil a
  | nsl a => exact .nsl a
  | sl b e off len cap a cap' he hl hcap h =>
    refine .sl b e off len cap a cap' (Nat.le_trans he (hle.ep b)) hl hcap fun heq => ?_
    have h1 := hle.ep b
    rcases h (by omega) with h0 | ⟨c, base, hb, ha, hx⟩
    · exact .inl h0
    obtain ⟨k1, k2, k3⟩ := hle.β b _ (by omega) hb
    exact .inr ⟨c, base, k1, ha, by rw [k2, k3]; exact hx⟩
  | pref cs blk off val hI hw _ ih =>
    exact .pref cs blk off val (fun j c h1 => hle.I _ _ (hI j c h1)) (fun j c h1 => (hle.cell _ _ (hI j c h1)).trans (hw j c h1)) fun j c h1 => ih j c h1 hle.pure
  | ptr b e off a he h =>
    refine .ptr b e off a (Nat.le_trans he (hle.ep b)) fun heq => ?_
    have h1 := hle.ep b
    obtain ⟨c, base, hb, ha⟩ := h (by omega)
    exact ⟨c, base, (hle.β b _ (by omega) hb).1, ha⟩
  | nptr => exact .nptr
  | map b r he h =>
    refine .map b r (Nat.le_trans he (hle.ep b)) fun heq => ?_
    have h1 := hle.ep b
    exact (hle.β b _ (by omega) (h (by omega))).1
  | pmap ks vs r clock es ks' vs' hp h0 h3 hI hw h1 h2 _ _ ihk ihv =>
    exact .pmap ks vs r clock es ks' vs' hp h0 h3 (hle.I _ _ hI) ((hle.blk _ _ hI).trans hw) h1 h2 (fun i e k he hk => ihk i e k he hk hle.pure) fun i e v he hv => ihv i e v he hv hle.pure
  | nmap => exact .nmap
  | yld b r h =>
    refine .yld b r fun heq => ?_
    have h1 := hle.ep b
    exact (hle.β b _ (by omega) (h (by omega))).1
  | fn f xs ys xs' ys' hx hy _ _ ih1 ih2 => exact .fn f xs ys xs' ys' hx hy (fun i c hc => ih1 i c hc hle) (fun i c hc => ih2 i c hc hle)
  | nfn => exact .nfn
  | ifc t v v' _ ih => exact .ifc t v v' (ih hle)
  | nifc => exact .nifc
  | und v => exact .und v
  | udf => exact .udf

/-- A step from one state to another: what is known stays true; the blocks of others are as they were; the own blocks are new ones or were own. -/
structure G.to (g : G) (w : World) (g' : G) (w' : World) : Prop extends G.le g w g' w' where
  lk : g'.lk = g.lk ∧ g'.pd = g.pd
  env : w'.os = w.os ∧ w'.tape = w.tape ∧ w'.output = w.output
  size : w.heap.size ≤ w'.heap.size
  oth : ∀ k, k < w.heap.size → (∀ b c, g.β b = some c → c.1 ≠ k) → w'.heap[k]? = w.heap[k]?
  new : ∀ b c, g'.β b = some c → w.heap.size ≤ c.1 ∨ ∃ b2 c2, g.β b2 = some c2 ∧ c2.1 = c.1
  Inew : ∀ b o, g'.I b o → g.I b o ∨ w.heap.size ≤ b

theorem G.to.refl (g : G) (w : World) : g.to w g w := ⟨G.le.refl g w, ⟨rfl, rfl⟩, ⟨rfl, rfl, rfl⟩, Nat.le_refl _, fun _ _ _ => rfl, fun b c h => .inr ⟨b, c, h, rfl⟩, fun _ _ h => .inl h⟩

theorem G.to.trans {g g' g'' : G} {w w' w'' : World} (h : g.to w g' w') (k : g'.to w' g'' w'') : g.to w g'' w'' := by
  refine ⟨h.tole.trans k.tole, ⟨k.lk.1.trans h.lk.1, k.lk.2.trans h.lk.2⟩, ⟨k.env.1.trans h.env.1, k.env.2.1.trans h.env.2.1, k.env.2.2.trans h.env.2.2⟩, Nat.le_trans h.size k.size, fun i hi ho => ?_, fun b c hb => ?_, fun b o hi => ?_⟩
  · have h1 := h.size
    refine (k.oth i (by omega) fun b c hb e => ?_).trans (h.oth i hi ho)
    rcases h.new b c hb with h2 | ⟨b2, c2, h2, h3⟩
    · omega
    · exact ho b2 c2 h2 (h3.trans e)
  · have h1 := h.size
    rcases k.new b c hb with h2 | ⟨b2, c2, h2, h3⟩
    · exact .inl (by omega)
    · rcases h.new b2 c2 h2 with h4 | ⟨b3, c3, h4, h5⟩
      · exact .inl (by omega)
      · exact .inr ⟨b3, c3, h4, h5.trans h3⟩
  · have h1 := h.size
    rcases k.Inew b o hi with h2 | h2
    · exact h.Inew b o h2
    · exact .inr (by omega)

/-- How a loop over a function stands, and which jump is pending. -/
def LoopR : Nat → LoopState → Prop
  | 0, .ready => True
  | 1, .busy => True
  | 2, .done => True
  | 3, .exhausted => True
  | _, _ => False

def JumpR : Option XE → Option Code → Prop
  | none, none => True
  | some .ret, some .ret => True
  | some (.exit i), some (.exit j) => i = j
  | _, _ => False

def ObjR (g : G) (w : World) (b : Nat) : XObj → Prop
  | .row cells ty _ sz ep => g.ep b = ep ∧ g.sz b = sz ∧ ∃ c base cs, g.β b = some (c, base) ∧ w.heap[c]? = some (.cells cs ty (0, 0)) ∧ cs.size = g.ext b ∧
      base + cells.length ≤ cs.size ∧ ∀ (j : Nat) v, cells[j]? = some v → VR w g v (cs.getD (base + j) undef)
  | .map es clock => g.ep b = 1 ∧ ∃ r ces, g.β b = some (r, 0) ∧ w.heap[r]? = some (.map ces clock) ∧ ces.size = es.length ∧
      ∀ (j : Nat) k v n, es[j]? = some (k, v, n) → ∃ e : MapEntry, ces[j]? = some e ∧ VR w g k e.key ∧ VR w g v e.val ∧ e.born = n
  | .loop st pend t ps a body => g.ep b = 0 ∧ ∃ r l, g.β b = some (r, 0) ∧ w.heap[r]? = some (.loop l) ∧ LoopR st l.state ∧ JumpR pend l.pending ∧ l.params.toList = ps ∧
      (st ≠ 3 → l.tmps.size = t.length ∧ (∀ (j : Nat) v, t[j]? = some v → VR w g v (l.tmps.getD j undef)) ∧ g.lk l.assign a ∧ g.lk l.body body)
  | .none => True

/-- The state of memory. What the memory says of a block that has been laid holds; an own block is no other's and holds no fixed cell. A block that is pending is named by the memory, with what will lie there, and not laid yet (a statement whose order is open). -/
structure Rel (g : G) (m : XM) (w : World) : Prop where
  objs : ∀ (b : Nat) o c, m[b]? = some o → g.β b = some c → ObjR g w b o
  dom : ∀ b c, g.β b = some c → b < m.length
  fresh : ∀ b, m.length ≤ b → g.ep b = 0
  eps : ∀ (b : Nat) o, m[b]? = some o → g.pd b = none → g.ep b = o.ep
  own : ∀ b c, g.β b = some c → c.1 < w.heap.size
  inj : ∀ b b' c c', g.β b = some c → g.β b' = some c' → c.1 = c'.1 → b = b'
  imm : ∀ blk o, g.I blk o → blk < w.heap.size ∧ ∀ b c, g.β b = some c → c.1 ≠ blk
  pend : ∀ (b : Nat) o, g.pd b = some o → m[b]? = some o ∧ g.ep b < o.ep ∧ g.β b = none

end Go.VC

/- Steps of the memory: a new block, a store, what a call leaves. -/
namespace Go.VC
open Go Go.RowKit

/-- A block is laid. -/
def G.put (g : G) (b : Nat) (c : Nat × Nat) (ext sz e : Nat) : G :=
  { g with β := fun i => if i = b then some c else g.β i, ext := fun i => if i = b then ext else g.ext i, sz := fun i => if i = b then sz else g.sz i, ep := fun i => if i = b then e else g.ep i, pd := fun i => if i = b then none else g.pd i }

/-- What is pending, left out. -/
def G.np (g : G) : G := { g with pd := fun _ => none }

theorem G.le.np {g g' : G} {w w' : World} (h : g.le w g' w') : g.np.le w g'.np w' := ⟨h.I, h.blk, h.ep, h.β⟩
theorem G.le.of_np {g g' : G} {w w' : World} (h : g.np.le w g'.np w') : g.le w g' w' := ⟨h.I, h.blk, h.ep, h.β⟩
theorem G.to.np {g g' : G} {w w' : World} (h : g.to w g' w') : g.np.to w g'.np w' := ⟨h.tole.np, ⟨h.lk.1, rfl⟩, h.env, h.size, h.oth, h.new, h.Inew⟩
theorem G.to.of_np {g g' : G} {w w' : World} (h : g.np.to w g'.np w') (hp : g'.pd = g.pd) : g.to w g' w' := ⟨h.tole.of_np, ⟨h.lk.1, hp⟩, h.env, h.size, h.oth, h.new, h.Inew⟩

theorem heap_alloc_same (w : World) (o : Obj) : (w.alloc o).heap[w.heap.size]? = some o := by
  show (w.heap.push o)[w.heap.size]? = _
  simp

section
variable {g : G} {m : XM} {w : World}

theorem G.put_tp (h : Rel g m w) {b : Nat} (hn : g.β b = none) (off ext sz e : Nat) (he : g.ep b ≤ e) (o : Obj) :
    g.np.to w (g.put b (w.heap.size, off) ext sz e).np (w.alloc o) := by
  refine ⟨⟨fun _ _ h => h, fun k o' hi => Below.heap_alloc _ _ _ (h.imm k o' hi).1, fun i => ?_, fun i c' _ hc => ?_⟩, ⟨rfl, rfl⟩, ⟨rfl, rfl, rfl⟩, by simp, fun k hk _ => Below.heap_alloc _ _ _ hk, fun i c hc => ?_, fun _ _ h => .inl h⟩
  · by_cases hib : i = b
    · subst hib; simpa [G.put, G.np] using he
    · simp [G.put, G.np, hib]
  · have : i ≠ b := by rintro rfl; simp only [G.np] at hc; rw [hn] at hc; cases hc
    have hc : g.β i = some c' := hc
    simp [G.put, G.np, this, hc]
  · by_cases hib : i = b
    · obtain rfl : (w.heap.size, off) = c := by simpa [G.put, G.np, hib] using hc
      exact .inl (Nat.le_refl _)
    · exact .inr ⟨i, c, by simpa [G.put, G.np, hib] using hc, rfl⟩

theorem Rel.np_of (h : Rel g m w) {b : Nat} {o : XObj} (hm : m[b]? = some o) (he : o.ep ≤ g.ep b) : g.pd b = none ∧ g.ep b = o.ep := by
  have hp : g.pd b = none := by
    cases hp : g.pd b with
    | none => rfl
    | some o' =>
      obtain ⟨a1, a2, _⟩ := h.pend b o' hp
      obtain rfl : o = o' := Option.some.inj (hm.symm.trans a1)
      omega
  exact ⟨hp, h.eps b o hm hp⟩

theorem Rel.pd_β (h : Rel g m w) {b : Nat} {c : Nat × Nat} (hb : g.β b = some c) : g.pd b = none := by
  cases hp : g.pd b with
  | none => rfl
  | some o' => have := (h.pend b o' hp).2.2; rw [hb] at this; cases this

theorem Rel.pd_out (h : Rel g m w) {b : Nat} (hb : m.length ≤ b) : g.pd b = none := by
  cases hp : g.pd b with
  | none => rfl
  | some o' => have := (List.getElem?_eq_some_iff.1 (h.pend b o' hp).1).1; omega

theorem G.put_pd (g : G) {b : Nat} (hp : g.pd b = none) (c : Nat × Nat) (ext sz e : Nat) : (g.put b c ext sz e).pd = g.pd := by
  funext i
  by_cases hib : i = b
  · subst hib; simp [G.put, hp]
  · simp [G.put, hib]

theorem G.put_to (h : Rel g m w) {b : Nat} (hn : g.β b = none) (hp : g.pd b = none) (off ext sz e : Nat) (he : g.ep b ≤ e) (o : Obj) :
    g.to w (g.put b (w.heap.size, off) ext sz e) (w.alloc o) := (G.put_tp h hn off ext sz e he o).of_np (g.put_pd hp _ _ _ _)

theorem ObjR.mono {g g' : G} {w w' : World} (hle : g.np.to w g'.np w') {b : Nat} {o : XObj} {c : Nat × Nat} (hc : g.β b = some c) (he : g'.ep b = g.ep b)
    (hh : ∀ c, g.β b = some c → w'.heap[c.1]? = w.heap[c.1]?) (h : ObjR g w b o) : ObjR g' w' b o := by
  obtain ⟨k1, k2, k3⟩ := hle.β b c he hc
  have hlv := hle.tole.of_np
  cases o with
  | row cells ty ag sz ep =>
    obtain ⟨h1, h2, c', base, cs, h3, h4, h5, h6, h7⟩ := h
    obtain rfl : c = (c', base) := Option.some.inj (hc.symm.trans h3)
    exact ⟨he.trans h1, k3.trans h2, c', base, cs, k1, by rw [hh _ h3]; exact h4, h5.trans k2.symm, h6, fun j v hv => (h7 j v hv).mono hlv⟩
  | map es clock =>
    obtain ⟨h1, r, ces, h3, h4, h5, h6⟩ := h
    obtain rfl : c = (r, 0) := Option.some.inj (hc.symm.trans h3)
    exact ⟨he.trans h1, r, ces, k1, by rw [hh _ h3]; exact h4, h5, fun j k v n hj => by
      obtain ⟨e, e1, e2, e3, e4⟩ := h6 j k v n hj
      exact ⟨e, e1, e2.mono hlv, e3.mono hlv, e4⟩⟩
  | loop st pend t ps a body =>
    obtain ⟨h1, r, l, h3, h4, h5, h6, h7, h8⟩ := h
    obtain rfl : c = (r, 0) := Option.some.inj (hc.symm.trans h3)
    refine ⟨he.trans h1, r, l, k1, by rw [hh _ h3]; exact h4, h5, h6, h7, fun hs => ?_⟩
    obtain ⟨a1, a2, a3, a4⟩ := h8 hs
    have hlk : g'.lk = g.lk := hle.lk.1
    rw [hlk]
    exact ⟨a1, fun j v hv => (a2 j v hv).mono hlv, a3, a4⟩
  | none => trivial

/-- A new block, as the memory has it. -/
theorem Rel.lay (h : Rel g m w) {b : Nat} (hn : g.β b = none) {o : XObj} (ho : m[b]? = some o) (he : g.ep b ≤ o.ep) (c : Obj) (ext sz : Nat)
    (hobj : ObjR (g.put b (w.heap.size, 0) ext sz o.ep) (w.alloc c) b o) :
    Rel (g.put b (w.heap.size, 0) ext sz o.ep) m (w.alloc c) := by
  have hle := G.put_tp h hn 0 ext sz o.ep he c
  have hsz : (w.alloc c).heap.size = w.heap.size + 1 := by simp
  have hlt : b < m.length := (List.getElem?_eq_some_iff.1 ho).1
  refine ⟨fun i o' c' hi hc => ?_, fun i c' hc => ?_, fun i hi => ?_, fun i o' hi hpi => ?_, fun i c' hc => ?_, fun i j c1 c2 h1 h2 he => ?_, fun blk k hi => ?_, fun i o' hi => ?_⟩
  · by_cases hib : i = b
    · subst hib
      obtain rfl : o = o' := Option.some.inj (ho.symm.trans hi)
      exact hobj
    · have hc0 : g.β i = some c' := by simpa [G.put, hib] using hc
      exact (h.objs i o' c' hi hc0).mono hle hc0 (by simp [G.put, hib]) fun c2 h2 => by rw [Below.heap_alloc _ _ _ (h.own i c2 h2)]
  · by_cases hib : i = b
    · subst hib; exact hlt
    · exact h.dom i c' (by simpa [G.put, hib] using hc)
  · have hib : i ≠ b := by omega
    simp only [G.put, if_neg hib]; exact h.fresh i hi
  · by_cases hib : i = b
    · subst hib
      obtain rfl : o = o' := Option.some.inj (ho.symm.trans hi)
      simp [G.put]
    · simp only [G.put, if_neg hib] at hpi ⊢; exact h.eps i _ hi hpi
  · by_cases hib : i = b
    · obtain rfl : (w.heap.size, 0) = c' := by simpa [G.put, hib] using hc
      simp only [hsz]; omega
    · have := h.own i c' (by simpa [G.put, hib] using hc)
      rw [hsz]; omega
  · by_cases hib : i = b <;> by_cases hjb : j = b
    · rw [hib, hjb]
    · obtain rfl : (w.heap.size, 0) = c1 := by simpa [G.put, hib] using h1
      have := h.own j c2 (by simpa [G.put, hjb] using h2)
      simp at he; omega
    · obtain rfl : (w.heap.size, 0) = c2 := by simpa [G.put, hjb] using h2
      have := h.own i c1 (by simpa [G.put, hib] using h1)
      simp at he; omega
    · exact h.inj i j c1 c2 (by simpa [G.put, hib] using h1) (by simpa [G.put, hjb] using h2) he
  · obtain ⟨a2, a3⟩ := h.imm blk k hi
    refine ⟨by rw [hsz]; omega, fun i c' hc => ?_⟩
    by_cases hib : i = b
    · obtain rfl : (w.heap.size, 0) = c' := by simpa [G.put, hib] using hc
      simp; omega
    · exact a3 i c' (by simpa [G.put, hib] using hc)
  · have hib : i ≠ b := by rintro rfl; simp [G.put] at hi
    simp only [G.put, if_neg hib] at hi ⊢
    exact h.pend i o' hi

/-- A new row. -/
theorem Rel.row (h : Rel g m w) {b : Nat} (hn : g.β b = none) {cells : List V} {ty : TypeId} {ag : Bool} {sz ep : Nat} (ho : m[b]? = some (.row cells ty ag sz ep)) (he : g.ep b ≤ ep)
    {cs : Array Value} (hl : cells.length ≤ cs.size) (hv : ∀ j v, cells[j]? = some v → VR w g v (cs.getD j undef)) :
    Rel (g.put b (w.heap.size, 0) cs.size sz ep) m (w.alloc (.cells cs ty)) ∧ g.np.to w (g.put b (w.heap.size, 0) cs.size sz ep).np (w.alloc (.cells cs ty)) := by
  have hle := G.put_tp h hn 0 cs.size sz ep he (.cells cs ty)
  refine ⟨h.lay hn ho he _ _ _ ⟨by simp [G.put, XObj.ep], by simp [G.put], w.heap.size, 0, cs, by simp [G.put], heap_alloc_same _ _, by simp [G.put], by simpa using hl, fun j v hj => ?_⟩, hle⟩
  rw [Nat.zero_add]; exact (hv j v hj).mono hle.tole.of_np

/-- The memory's object at a place, changed; the heap's block there, and nothing else. -/
theorem Rel.change (h : Rel g m w) {b : Nat} {o o' : XObj} (ho : m[b]? = some o) (hep : o'.ep = o.ep) {c : Nat × Nat} (hb : g.β b = some c) {w' : World}
    (henv : w'.os = w.os ∧ w'.tape = w.tape ∧ w'.output = w.output) (hsz : w'.heap.size = w.heap.size) (hh : ∀ k, k ≠ c.1 → w'.heap[k]? = w.heap[k]?) (hobj : g.to w g w' → ObjR g w' b o') :
    Rel g (m.set b o') w' ∧ g.to w g w' := by
  have hle : g.to w g w' := ⟨⟨fun _ _ h => h, fun k o hi => hh k fun e => (h.imm k o hi).2 b c hb e.symm, fun _ => Nat.le_refl _, fun _ _ _ h => ⟨h, rfl, rfl⟩⟩, ⟨rfl, rfl⟩, henv, by omega,
    fun k _ hk => hh k fun e => hk b c hb e.symm, fun b c h => .inr ⟨b, c, h, rfl⟩, fun _ _ h => .inl h⟩
  have hlt : b < m.length := (List.getElem?_eq_some_iff.1 ho).1
  refine ⟨⟨fun i o2 c2 hi hc => ?_, fun i c2 hc => by simpa using h.dom i c2 hc, fun i hi => h.fresh i (by simpa using hi), fun i o2 hi hp => ?_, fun i c2 hc => by rw [hsz]; exact h.own i c2 hc, h.inj, fun blk k hi => by rw [hsz]; exact h.imm blk k hi, fun i o2 hi => ?_⟩, hle⟩
  · by_cases hib : i = b
    · subst hib
      obtain rfl : o' = o2 := by simpa [hlt] using hi
      exact hobj hle
    · rw [List.getElem?_set_ne (by omega)] at hi
      exact (h.objs i o2 c2 hi hc).mono hle.np hc rfl fun c3 h3' => by
        refine hh _ fun e => ?_
        exact hib (h.inj i b c3 _ h3' hb e)
  · by_cases hib : i = b
    · subst hib
      obtain rfl : o' = o2 := by simpa [hlt] using hi
      rw [hep]
      exact h.eps i _ ho hp
    · rw [List.getElem?_set_ne (by omega)] at hi
      exact h.eps i _ hi hp
  · obtain ⟨a1, a2, a3⟩ := h.pend i o2 hi
    have hib : i ≠ b := by rintro rfl; rw [hb] at a3; cases a3
    exact ⟨by rw [List.getElem?_set_ne (by omega)]; exact a1, a2, a3⟩

/-- A store into an own block. -/
theorem Rel.store (h : Rel g m w) {b : Nat} {cells : List V} {ty : TypeId} {ag : Bool} {sz ep : Nat} (ho : m[b]? = some (.row cells ty ag sz ep)) {c base j : Nat}
    (hb : g.β b = some (c, base)) (hj : j < cells.length) {v : V} {cv : Value} (hv : VR w g v cv) :
    Rel g (m.set b (.row (cells.set j v) ty ag sz ep)) (w.setCell ⟨c, base + j, none⟩ cv) ∧ g.to w g (w.setCell ⟨c, base + j, none⟩ cv) := by
  obtain ⟨h1, h2, c', base', cs, h3, h4, h5, h6, h7⟩ := h.objs b _ _ ho hb
  obtain ⟨rfl, rfl⟩ : c = c' ∧ base = base' := by simpa using hb.symm.trans h3
  refine h.change ho (o' := .row (cells.set j v) ty ag sz ep) rfl hb (w' := w.setCell ⟨c, base + j, none⟩ cv) ⟨rfl, rfl, rfl⟩ (by simp [World.setCell]) (fun k hk => Below.heap_setCell _ _ _ _ hk) fun hle => ?_
  refine ⟨h1, h2, c, base, cs.setIfInBounds (base + j) cv, h3, ?_, by simpa using h5, by simpa using h6, fun i2 v2 hv2 => ?_⟩
  · simp [World.setCell, Array.getElem?_modify, h4]
  · by_cases hij : i2 = j
    · subst hij
      obtain rfl : v = v2 := by simpa [hj] using hv2
      have : base + i2 < cs.size := by omega
      simp only [Array.getD_eq_getD_getElem?, Array.getElem?_setIfInBounds_self_of_lt this, Option.getD_some]
      exact hv.mono hle.tole
    · rw [List.getElem?_set_ne (by omega)] at hv2
      simp only [Array.getD_eq_getD_getElem?, Array.getElem?_setIfInBounds_ne (show base + j ≠ base + i2 by omega)]
      have := (h7 i2 v2 hv2).mono hle.tole
      simpa [Array.getD_eq_getD_getElem?] using this

/-- The world grows by blocks of others (a call that keeps to itself): they may be fixed from now on. -/
theorem Rel.grow (h : Rel g m w) {w' : World} (hb : Below w.heap.size w w') :
    Rel { g with I := fun b o => g.I b o ∨ (w.heap.size ≤ b ∧ b < w'.heap.size) } m w' ∧ g.to w { g with I := fun b o => g.I b o ∨ (w.heap.size ≤ b ∧ b < w'.heap.size) } w' := by
  have hle : g.to w { g with I := fun b o => g.I b o ∨ (w.heap.size ≤ b ∧ b < w'.heap.size) } w' :=
    ⟨⟨fun _ _ h => .inl h, fun k o hi => hb.block _ (h.imm k o hi).1, fun _ => Nat.le_refl _, fun _ _ _ h => ⟨h, rfl, rfl⟩⟩, ⟨rfl, rfl⟩, ⟨hb.os, hb.tape, hb.output⟩, hb.size, fun k hk _ => hb.block _ hk, fun b c h => .inr ⟨b, c, h, rfl⟩,
      fun b o h => h.elim .inl fun h => .inr h.1⟩
  have hs := hb.size
  refine ⟨⟨fun i o' c2 hi hc => ?_, h.dom, h.fresh, h.eps, fun i c2 hc => ?_, h.inj, fun blk k hi => ?_, h.pend⟩, hle⟩
  · exact (h.objs i o' c2 hi hc).mono hle.np hc rfl fun c3 h3 => hb.block _ (h.own i c3 h3)
  · have := h.own i c2 hc; omega
  · rcases hi with hi | ⟨h1, h2⟩
    · obtain ⟨a2, a3⟩ := h.imm blk k hi
      exact ⟨by omega, a3⟩
    · exact ⟨h2, fun b c hc e => by have := h.own b c hc; omega⟩

end
end Go.VC

/- Operations that touch no memory of the call's own: what they do to abstract values. -/
namespace Go.VC
open Go Go.RowKit

structure Env where
  P : Program
  Γ : Nat → Option (List V)

/-- A constant of the program's text. -/
def ofC : Nat → Value → V
  | _, .int k n => .int k n
  | _, .bool b => .bool b
  | _, .string s => .str s.data.toList
  | _, .pointer none => .nptr
  | _, .slice none 0 0 => .nsl
  | _, .map none => .nmap
  | _, .nilFunc => .nfn
  | _, .nilIface => .nifc
  | n + 1, .agg cs => .agg (cs.toList.map (ofC n))
  | n + 1, .iface t v => .ifc t (ofC n v)
  | _, _ => .und

theorem ofC_rel (g : G) (w : World) : ∀ (n : Nat) (v : Value), VR w g (ofC n v) v := by
  intro n
  induction n with
  | zero =>
    intro v
    unfold ofC
    split <;> first | exact .int _ _ | exact .bool _ | exact .nptr | exact .nsl _ | exact .nmap | exact .nfn | exact .nifc | exact .und _ | (rename_i s; exact .str s.data.toList) | skip
    all_goals omega
  | succ n ih =>
    intro v
    unfold ofC
    split <;> first | exact .int _ _ | exact .bool _ | exact .nptr | exact .nsl _ | exact .nmap | exact .nfn | exact .nifc | exact .und _ | (rename_i s; exact .str s.data.toList) | skip
    · rename_i n' cs h
      obtain rfl : n = n' := by omega
      refine .agg _ _ (by simp) fun i c hc => ?_
      simp only [List.getElem?_map, Array.getElem?_toList, Option.map_eq_some_iff] at hc
      obtain ⟨x, hx, rfl⟩ := hc
      simp only [Array.getD_eq_getD_getElem?, hx, Option.getD_some]
      exact ih x
    · rename_i n' t v h
      obtain rfl : n = n' := by omega
      exact .ifc _ _ _ (ih v)

/-- The value of an operand. -/
def evl (E : Env) (t : List V) : Operand → V
  | .tmp i => t.getD i .und
  | .const v => ofC 6 v
  | .global n => match E.Γ n with
    | some cs => .pref cs
    | none => .und
  | .func f => .fn (.func f) [] []

@[simp] theorem evl_tmp (E : Env) (t : List V) (i : Nat) : evl E t (.tmp i) = t.getD i .und := rfl
@[simp] theorem evl_const (E : Env) (t : List V) (v : Value) : evl E t (.const v) = ofC 6 v := rfl
@[simp] theorem evl_func (E : Env) (t : List V) (f : FuncId) : evl E t (.func f) = .fn (.func f) [] [] := rfl

/-- The frame's temporaries. -/
def AR (w : World) (g : G) (t : List V) (a : Array Value) : Prop := a.size = t.length ∧ ∀ (i : Nat) v, t[i]? = some v → VR w g v (a.getD i undef)

/-- The package-level variables that are known. -/
def GlobR (E : Env) (w : World) (g : G) : Prop := ∀ n cs, E.Γ n = some cs → VR w g (.pref cs) (.pointer (some ⟨n, 0, none⟩))

theorem AR.mono {g g' : G} {w w' : World} (hle : g.le w g' w') {t : List V} {a : Array Value} (h : AR w g t a) : AR w' g' t a := ⟨h.1, fun i v hv => (h.2 i v hv).mono hle⟩
theorem GlobR.mono {E : Env} {g g' : G} {w w' : World} (hle : g.le w g' w') (h : GlobR E w g) : GlobR E w' g' := fun n cs hn => (h n cs hn).mono hle

theorem AR.get {g : G} {w : World} {t : List V} {a : Array Value} (h : AR w g t a) (i : Nat) : VR w g (t.getD i .und) (a.getD i undef) := by
  rw [List.getD_eq_getElem?_getD]
  cases hi : t[i]? with
  | none => exact .und _
  | some v => exact h.2 i v hi

theorem evl_rel {E : Env} {g : G} {w : World} {t : List V} {a : Act} (h : AR w g t a.tmps) (hg : GlobR E w g) (x : Operand) : VR w g (evl E t x) (a.eval x) := by
  cases x with
  | tmp i => exact h.get i
  | const v => exact ofC_rel g w _ v
  | global n =>
    simp only [evl, Act.eval]
    split
    · rename_i cs hn; exact hg n cs hn
    · exact .und _
  | func f => exact .fn _ _ _ _ _ rfl rfl (fun _ _ h => by simp at h) (fun _ _ h => by simp at h)

/-- A result put into its slot. -/
def putV (t : List V) (dst : Option Nat) (v : V) : List V :=
  match dst with
  | some d => t.set d v
  | none => t

@[simp] theorem putV_some (t : List V) (d : Nat) (v : V) : putV t (some d) v = t.set d v := rfl
@[simp] theorem putV_none (t : List V) (v : V) : putV t none v = t := rfl

theorem AR.put {g : G} {w : World} {t : List V} {a : Act} (h : AR w g t a.tmps) (dst : Option Nat) {v : V} {cv : Value} (hv : VR w g v cv) : AR w g (putV t dst v) (a.put dst cv).tmps := by
  cases dst with
  | none => exact h
  | some d =>
    refine ⟨by simp [Act.put, h.1], fun i u hu => ?_⟩
    simp only [Act.put, putV_some] at hu ⊢
    by_cases hid : d = i
    · subst hid
      have hlt : d < t.length := by
        have := (List.getElem?_eq_some_iff.1 hu).1
        simpa using this
      obtain rfl : v = u := by simpa [hlt] using hu
      have : d < a.tmps.size := by rw [h.1]; exact hlt
      simp only [Array.getD_eq_getD_getElem?, Array.getElem?_setIfInBounds_self_of_lt this, Option.getD_some]
      exact hv
    · rw [List.getElem?_set_ne hid] at hu
      simp only [Array.getD_eq_getD_getElem?, Array.getElem?_setIfInBounds_ne hid]
      simpa [Array.getD_eq_getD_getElem?] using h.2 i u hu

/-! ### Facts on types, as far as the calculus asks for them -/
def tsz (P : Program) (t : TypeId) : Option Nat := (P.info? t).map (·.size)
def aggD : TypeDesc → Bool
  | .struct _ => true
  | .array _ _ => true
  | _ => false
def tag (P : Program) (t : TypeId) : Option Bool := (P.underlying t).map aggD
def tzero (P : Program) (t : TypeId) : Option V := ((P.info? t).bind (·.zero)).map (ofC 6)
def tnoIface (P : Program) (t : TypeId) : Bool := match P.underlying t with | none | some (.interface _) => false | _ => true

theorem run_sizeOf {P : Program} {t : TypeId} {s : Nat} (h : tsz P t = some s) (w : World) : (sizeOf t).run P w = .ok s w := by
  simp only [tsz, Option.map_eq_some_iff] at h
  obtain ⟨i, hi, rfl⟩ := h
  simp [sizeOf, typeInfo, program, hi, Sem.run]

theorem run_isAgg {P : Program} {t : TypeId} {b : Bool} (h : tag P t = some b) (w : World) : (isAgg t).run P w = .ok b w := by
  obtain ⟨d, hd, rfl⟩ := Option.map_eq_some_iff.1 h
  simp only [isAgg, Sem.run_bind, run_underlying hd, Result.andThen_ok]
  cases d <;> rfl

/-! ### Arithmetic -/
def varith : BinOp → IntKind → Int → Int → Option (V × Prop)
  | .add, k, a, b => some (.int k (k.wrap (a + b)), True)
  | .sub, k, a, b => some (.int k (k.wrap (a - b)), True)
  | .mul, k, a, b => some (.int k (k.wrap (a * b)), True)
  | .quo, k, a, b => some (.int k (k.wrap (a.tdiv b)), b ≠ 0)
  | .rem, k, a, b => some (.int k (a.tmod b), b ≠ 0)
  | .and, k, a, b => some (.int k (k.wrap (BitVec.ofInt k.bits a &&& BitVec.ofInt k.bits b).toNat), True)
  | .or, k, a, b => some (.int k (k.wrap (BitVec.ofInt k.bits a ||| BitVec.ofInt k.bits b).toNat), True)
  | .xor, k, a, b => some (.int k (k.wrap (BitVec.ofInt k.bits a ^^^ BitVec.ofInt k.bits b).toNat), True)
  | .andNot, k, a, b => some (.int k (k.wrap (BitVec.ofInt k.bits a &&& ~~~ BitVec.ofInt k.bits b).toNat), True)
  | .eql, _, a, b => some (.bool (a == b), True)
  | .neq, _, a, b => some (.bool (a != b), True)
  | .lss, _, a, b => some (.bool (decide (a < b)), True)
  | .leq, _, a, b => some (.bool (decide (a ≤ b)), True)
  | .gtr, _, a, b => some (.bool (decide (b < a)), True)
  | .geq, _, a, b => some (.bool (decide (b ≤ a)), True)
  | _, _, _, _ => none

def vstr : BinOp → List UInt8 → List UInt8 → Option (V × Prop)
  | .add, a, b => some (.str (a ++ b), a.length + b.length ≤ 9223372036854775807)
  | .eql, a, b => some (.bool (a == b), True)
  | .neq, a, b => some (.bool (a != b), True)
  | _, _, _ => none

/-- Two values of one cell, of a kind that '==' compares at once. -/
def vsame : V → V → Option Bool
  | .int k a, .int k' b => if k = k' then some (a == b) else none
  | .bool a, .bool b => some (a == b)
  | .str a, .str b => some (a == b)
  | _, _ => none

/-- Is a value of these cells compared cell by cell? (All its fields are named, of one cell, of the kinds that vsame knows, and lie one behind the other.) -/
def tflat (P : Program) : Nat → TypeId → Bool
  | 0, _ => false
  | n + 1, t => match P.underlying t with
    | some (.int _) | some .bool | some .string => tsz P t == some 1
    | some (.struct fs) => !P.stoodInHeld t && !P.eqGuardType P.depth t && tsz P t == some (fs.foldl (fun o f => o + (tsz P f.type).getD 0) 0) &&
        (fs.foldl (fun (s : Nat × Bool) f => (s.1 + (tsz P f.type).getD 0, s.2 && f.name != "_" && f.offset == s.1 && tflat P n f.type)) (0, true)).2
    | _ => false

def vbin (E : Env) (op : BinOp) (t : TypeId) : V → V → Option (V × Prop)
  | .int k a, .int k' b => match op with
    | .shl => some (.int k (k.wrap (a * 2 ^ (min b.toNat k.bits))), 0 ≤ b)
    | .shr => some (.int k (a.fdiv (2 ^ (min b.toNat k.bits))), 0 ≤ b)
    | op => if k = k' then varith op k a b else none
  | .str a, .str b => vstr op a b
  | .bool a, .bool b => match op with
    | .eql => some (.bool (a == b), E.P.underlying t = some .bool)
    | .neq => some (.bool (a != b), E.P.underlying t = some .bool)
    | _ => none
  | .nptr, .nptr => match op, E.P.underlying t with
    | .eql, some (.pointer _) => some (.bool true, True)
    | .neq, some (.pointer _) => some (.bool false, True)
    | _, _ => none
  | .pref _, .nptr | .ptr _ _ _, .nptr => match op, E.P.underlying t with
    | .eql, some (.pointer _) => some (.bool false, True)
    | .neq, some (.pointer _) => some (.bool true, True)
    | _, _ => none
  | .nmap, .nmap => match op, E.P.underlying t with
    | .eql, some (.map _ _) => some (.bool true, True)
    | .neq, some (.map _ _) => some (.bool false, True)
    | _, _ => none
  | .map _, .nmap | .pmap _ _, .nmap => match op, E.P.underlying t with
    | .eql, some (.map _ _) => some (.bool false, True)
    | .neq, some (.map _ _) => some (.bool true, True)
    | _, _ => none
  | .nfn, .nfn => match op, E.P.underlying t with
    | .eql, some (.func _ _ _) => some (.bool true, True)
    | .neq, some (.func _ _ _) => some (.bool false, True)
    | _, _ => none
  | .fn _ _ _, .nfn => match op, E.P.underlying t with
    | .eql, some (.func _ _ _) => some (.bool false, True)
    | .neq, some (.func _ _ _) => some (.bool true, True)
    | _, _ => none
  | _, _ => none

section
variable {P : Program} {E : Env} {g : G} {w : World}

theorem varith_sound {t : TypeId} {op : BinOp} {k : IntKind} {a b : Int} {v : V} {p : Prop} (h : varith op k a b = some (v, p)) (hp : p) (h1 : op ≠ .shl) (h2 : op ≠ .shr) :
    ∃ cv, (Go.binOp op t (.int k a) (.int k b)).run P w = .ok cv w ∧ VR w g v cv := by
  cases op <;> simp only [varith, Option.some.injEq, Prod.mk.injEq, reduceCtorEq] at h <;> first | (exact absurd rfl h1) | (exact absurd rfl h2) | skip
  all_goals obtain ⟨rfl, rfl⟩ := h
  all_goals first
    | (refine ⟨_, ?_, .int _ _⟩; simp [Go.binOp, Op.intArith, Op.intBits]; done)
    | (refine ⟨_, ?_, .int _ _⟩; simp [Go.binOp, Op.intDiv, if_neg hp]; done)
    | (refine ⟨_, ?_, .bool _⟩; simp [Go.binOp, Op.intCmp]; done)

theorem toList_mk (l : List UInt8) : ByteArray.toList ⟨l.toArray⟩ = l := by
  rw [show ByteArray.toList ⟨l.toArray⟩ = (⟨l.toArray⟩ : ByteArray).data.toList from by simp [ByteArray.toList_eq]]

theorem vstr_sound {t : TypeId} {op : BinOp} {a b : List UInt8} {v : V} {p : Prop} (h : vstr op a b = some (v, p)) (hp : p) :
    ∃ cv, (Go.binOp op t (.string ⟨a.toArray⟩) (.string ⟨b.toArray⟩)).run P w = .ok cv w ∧ VR w g v cv := by
  cases op <;> simp only [vstr, Option.some.injEq, Prod.mk.injEq, reduceCtorEq] at h
  all_goals obtain ⟨rfl, rfl⟩ := h
  · refine ⟨_, ?_, .str _⟩
    have hlt : ¬ (((a.length + b.length : Nat) : Int) > 9223372036854775807) := by omega
    have hmax : IntKind.i64.max = 9223372036854775807 := by decide
    simp only [Go.binOp, Op.stringOp, hmax]
    rw [if_neg (by simpa [ByteArray.size] using hlt)]
    simp only [Sem.run_pure, Result.ok.injEq, Value.string.injEq, and_true]
    apply ByteArray.ext; simp
  · refine ⟨_, ?_, .bool _⟩
    simp [Go.binOp, Op.stringOp, toList_mk]
  · refine ⟨_, ?_, .bool _⟩
    simp [Go.binOp, Op.stringOp, toList_mk, bne]

theorem run_eqGuard_one {op : BinOp} {t : TypeId} {x y : Operand} {a b : Value} (h : ∀ cs ds, a = .agg cs → b ≠ .agg ds) (h2 : a = .nilIface → b ≠ .nilIface) :
    (eqGuard op t x y a b).run P w = .ok () w := by
  have key : ∀ (c : Prop) [Decidable c] (y : Sem Unit), y.run P w = .ok () w → (if c then pure () else y : Sem Unit).run P w = .ok () w := by
    intro c _ y hy; split
    · rfl
    · exact hy
  unfold eqGuard
  apply key
  cases a <;> cases b <;> first | rfl | (exact absurd rfl (h _ _ rfl)) | (exact absurd rfl (h2 rfl))

theorem run_equal_bool' {t : TypeId} (h : P.underlying t = some .bool) (a b : Bool) (d : Nat) : (Op.equalIn (d + 1) t (.bool a) (.bool b)).run P w = .ok (a == b) w := by
  simp only [Op.equalIn]
  simp [run_underlying h]
theorem run_equal_bool {t : TypeId} (h : P.underlying t = some .bool) (a b : Bool) : (Op.equal t (.bool a) (.bool b)).run P w = .ok (a == b) w := run_equal_bool' h a b 9999
theorem run_equal_ptr' {t e : TypeId} (h : P.underlying t = some (.pointer e)) (a : Option Addr) (d : Nat) : (Op.equalIn (d + 1) t (.pointer a) (.pointer none)).run P w = .ok a.isNone w := by
  simp only [Op.equalIn]
  cases a <;> simp [run_underlying h]
theorem run_equal_ptr {t e : TypeId} (h : P.underlying t = some (.pointer e)) (a : Option Addr) : (Op.equal t (.pointer a) (.pointer none)).run P w = .ok a.isNone w := run_equal_ptr' h a 9999
theorem run_equal_map' {t k e : TypeId} (h : P.underlying t = some (.map k e)) (a : Option Nat) (d : Nat) : (Op.equalIn (d + 1) t (.map a) (.map none)).run P w = .ok a.isNone w := by
  simp only [Op.equalIn]
  cases a <;> simp [run_underlying h]
theorem run_equal_map {t k e : TypeId} (h : P.underlying t = some (.map k e)) (a : Option Nat) : (Op.equal t (.map a) (.map none)).run P w = .ok a.isNone w := run_equal_map' h a 9999
theorem run_equal_func' {t : TypeId} {ps rs : Array TypeId} {vr : Bool} (h : P.underlying t = some (.func ps rs vr)) (f : Fn) (a b : Array Value) (d : Nat) : (Op.equalIn (d + 1) t (.func f a b) .nilFunc).run P w = .ok false w := by
  simp only [Op.equalIn]
  simp [run_underlying h]
theorem run_equal_func {t : TypeId} {ps rs : Array TypeId} {vr : Bool} (h : P.underlying t = some (.func ps rs vr)) (f : Fn) (a b : Array Value) : (Op.equal t (.func f a b) .nilFunc).run P w = .ok false w := run_equal_func' h f a b 9999
theorem run_equal_nilfunc' {t : TypeId} {ps rs : Array TypeId} {vr : Bool} (h : P.underlying t = some (.func ps rs vr)) (d : Nat) : (Op.equalIn (d + 1) t .nilFunc .nilFunc).run P w = .ok true w := by
  simp only [Op.equalIn]
  simp [run_underlying h]
theorem run_equal_nilfunc {t : TypeId} {ps rs : Array TypeId} {vr : Bool} (h : P.underlying t = some (.func ps rs vr)) : (Op.equal t .nilFunc .nilFunc).run P w = .ok true w := run_equal_nilfunc' h 9999

theorem vbin_sound {t : TypeId} {op : BinOp} {x y : V} {v : V} {p : Prop} (h : vbin E op t x y = some (v, p)) (hp : p) {cx cy : Value} (hx : VR w g x cx) (hy : VR w g y cy) (ox oy : Operand) :
    ∃ cv, (eqGuard op t ox oy cx cy).run E.P w = .ok () w ∧ (Go.binOp op t cx cy).run E.P w = .ok cv w ∧ VR w g v cv := by
  have fin : (∀ cs ds, cx = .agg cs → cy ≠ .agg ds) → (cx = .nilIface → cy ≠ .nilIface) → (∃ cv, (Go.binOp op t cx cy).run E.P w = .ok cv w ∧ VR w g v cv) → ∃ cv, (eqGuard op t ox oy cx cy).run E.P w = .ok () w ∧ (Go.binOp op t cx cy).run E.P w = .ok cv w ∧ VR w g v cv :=
    fun h1 h2 ⟨cv, h3, h4⟩ => ⟨cv, run_eqGuard_one h1 h2, h3, h4⟩
  cases hx <;> simp only [vbin, reduceCtorEq] at h
  case int k a =>
    cases hy <;> simp only [reduceCtorEq] at h
    rename_i k' b
    refine fin (fun _ _ e => by cases e) (fun e => by cases e) ?_
    split at h
    · simp only [Option.some.injEq, Prod.mk.injEq] at h
      obtain ⟨rfl, rfl⟩ := h
      exact ⟨_, by simp [Go.binOp, Op.shift, show ¬ b < 0 by omega], .int _ _⟩
    · simp only [Option.some.injEq, Prod.mk.injEq] at h
      obtain ⟨rfl, rfl⟩ := h
      exact ⟨_, by simp [Go.binOp, Op.shift, show ¬ b < 0 by omega], .int _ _⟩
    · rename_i h1 h2
      split at h
      · rename_i hk
        subst hk
        exact varith_sound h hp (fun e => h1 e) (fun e => h2 e)
      · cases h
  case str a =>
    cases hy <;> simp only [reduceCtorEq] at h
    exact fin (fun _ _ e => by cases e) (fun e => by cases e) (vstr_sound h hp)
  case bool a =>
    cases hy <;> simp only [reduceCtorEq] at h
    refine fin (fun _ _ e => by cases e) (fun e => by cases e) ?_
    split at h <;> simp only [Option.some.injEq, Prod.mk.injEq, reduceCtorEq] at h
    all_goals
      obtain ⟨rfl, rfl⟩ := h
      exact ⟨_, by simp [Go.binOp, run_equal_bool hp, bne], .bool _⟩
  case nptr =>
    cases hy <;> simp only [reduceCtorEq] at h
    refine fin (fun _ _ e => by cases e) (fun e => by cases e) ?_
    split at h <;> simp only [Option.some.injEq, Prod.mk.injEq, reduceCtorEq] at h
    all_goals
      rename_i hu
      obtain ⟨rfl, rfl⟩ := h
      exact ⟨_, by simp [Go.binOp, run_equal_ptr hu]; try rfl, .bool _⟩
  case pref =>
    cases hy <;> simp only [reduceCtorEq] at h
    refine fin (fun _ _ e => by cases e) (fun e => by cases e) ?_
    split at h <;> simp only [Option.some.injEq, Prod.mk.injEq, reduceCtorEq] at h
    all_goals
      rename_i hu
      obtain ⟨rfl, rfl⟩ := h
      exact ⟨_, by simp [Go.binOp, run_equal_ptr hu]; try rfl, .bool _⟩
  case ptr =>
    cases hy <;> simp only [reduceCtorEq] at h
    refine fin (fun _ _ e => by cases e) (fun e => by cases e) ?_
    split at h <;> simp only [Option.some.injEq, Prod.mk.injEq, reduceCtorEq] at h
    all_goals
      rename_i hu
      obtain ⟨rfl, rfl⟩ := h
      exact ⟨_, by simp [Go.binOp, run_equal_ptr hu]; try rfl, .bool _⟩
  case nmap =>
    cases hy <;> simp only [reduceCtorEq] at h
    refine fin (fun _ _ e => by cases e) (fun e => by cases e) ?_
    split at h <;> simp only [Option.some.injEq, Prod.mk.injEq, reduceCtorEq] at h
    all_goals
      rename_i hu
      obtain ⟨rfl, rfl⟩ := h
      exact ⟨_, by simp [Go.binOp, run_equal_map hu]; try rfl, .bool _⟩
  case map =>
    cases hy <;> simp only [reduceCtorEq] at h
    refine fin (fun _ _ e => by cases e) (fun e => by cases e) ?_
    split at h <;> simp only [Option.some.injEq, Prod.mk.injEq, reduceCtorEq] at h
    all_goals
      rename_i hu
      obtain ⟨rfl, rfl⟩ := h
      exact ⟨_, by simp [Go.binOp, run_equal_map hu]; try rfl, .bool _⟩
  case pmap =>
    cases hy <;> simp only [reduceCtorEq] at h
    refine fin (fun _ _ e => by cases e) (fun e => by cases e) ?_
    split at h <;> simp only [Option.some.injEq, Prod.mk.injEq, reduceCtorEq] at h
    all_goals
      rename_i hu
      obtain ⟨rfl, rfl⟩ := h
      exact ⟨_, by simp [Go.binOp, run_equal_map hu]; try rfl, .bool _⟩
  case nfn =>
    cases hy <;> simp only [reduceCtorEq] at h
    refine fin (fun _ _ e => by cases e) (fun e => by cases e) ?_
    split at h <;> simp only [Option.some.injEq, Prod.mk.injEq, reduceCtorEq] at h
    all_goals
      rename_i hu
      obtain ⟨rfl, rfl⟩ := h
      exact ⟨_, by simp [Go.binOp, run_equal_nilfunc hu]; try rfl, .bool _⟩
  case fn =>
    cases hy <;> simp only [reduceCtorEq] at h
    refine fin (fun _ _ e => by cases e) (fun e => by cases e) ?_
    split at h <;> simp only [Option.some.injEq, Prod.mk.injEq, reduceCtorEq] at h
    all_goals
      rename_i hu
      obtain ⟨rfl, rfl⟩ := h
      exact ⟨_, by simp [Go.binOp, run_equal_func hu]; try rfl, .bool _⟩
  case yld =>
    cases hy <;> simp only [reduceCtorEq] at h
    refine fin (fun _ _ e => by cases e) (fun e => by cases e) ?_
    split at h <;> simp only [Option.some.injEq, Prod.mk.injEq, reduceCtorEq] at h
    all_goals
      rename_i hu
      obtain ⟨rfl, rfl⟩ := h
      exact ⟨_, by simp [Go.binOp, run_equal_func hu]; try rfl, .bool _⟩

end
end Go.VC

/- Operations that touch no memory of the call's own, continued: addresses, parts, slices, structs. -/
namespace Go.VC
open Go Go.RowKit

/-- All elements have s cells. -/
def RowSz (s : Nat) (rows : List V) : Prop := ∀ r ∈ rows, r.cells.length = s

/-- A part of an aggregate. -/
def vpart (P : Program) (t : TypeId) (cs : List V) (off : Nat) : Option V :=
  match tag P t with
  | some true => (tsz P t).map fun s => .agg ((cs.drop off).take s)
  | some false => cs[off]?
  | none => none

def vpick (c : Bool) (a b : V) : V := if c = true then a else b
@[simp] theorem vpick_true (a b : V) : vpick true a b = a := rfl
@[simp] theorem vpick_false (a b : V) : vpick false a b = b := rfl
@[simp] theorem vpick_bool (c x y : Bool) : vpick c (.bool x) (.bool y) = .bool (if c = true then x else y) := by cases c <;> rfl

/-- Where the fields of a struct begin, and how many cells they have. -/
def tpl (P : Program) (t : TypeId) : Option (List (Nat × Nat)) :=
  match P.underlying t with
  | some (.struct fs) => fs.toList.mapM fun f => (P.info? f.type).map fun i => (f.offset, i.size)
  | _ => none

/-- How many cells an array's elements have. -/
def tarr (P : Program) (t : TypeId) : Option Nat :=
  match P.underlying t with
  | some (.array _ e) => tsz P e
  | _ => none

def tplace (P : Program) (t : TypeId) : Option (Nat → Option (Nat × Nat)) :=
  match tpl P t with
  | some pl => some (fun i => pl[i]?)
  | none => (tarr P t).map fun s i => some (i * s, s)

def vfill (cells : List V) (off : Nat) (vs : List V) : List V := cells.take off ++ vs ++ cells.drop (off + vs.length)

def vbuild (place : Nat → Option (Nat × Nat)) : List V → List (Nat × V) → Option (List V × Prop)
  | cells, [] => some (cells, True)
  | cells, (i, v) :: rest => match place i with
    | none => none
    | some (off, s) => match vbuild place (vfill cells off v.cells) rest with
      | none => none
      | some (r, p) => some (r, (v.ok = true ∧ v.cells.length = s ∧ off + s ≤ cells.length) ∧ p)

/-- The bounds of a slice expression: low, high, max. -/
def vbound : V → Option Int
  | .int _ i => some i
  | _ => none

def vsl3 (len cap : Nat) (capOk : Bool) (lo hi mx : Option V) : Option ((Nat × Nat × Option Nat) × Prop) :=
  match lo, hi, mx with
  | none, none, none => some ((0, len, if capOk then some cap else none), True)
  | some (.int _ l), none, none => some ((l.toNat, len, if capOk then some cap else none), 0 ≤ l ∧ l.toNat ≤ len)
  | none, some (.int _ h), none => some ((0, h.toNat, if capOk then some cap else none), 0 ≤ h ∧ h.toNat ≤ len)
  | some (.int _ l), some (.int _ h), none => some ((l.toNat, h.toNat, if capOk then some cap else none), 0 ≤ l ∧ l ≤ h ∧ h.toNat ≤ len)
  | none, some (.int _ h), some (.int _ m) => some ((0, h.toNat, some m.toNat), 0 ≤ h ∧ h ≤ m ∧ m.toNat ≤ len)
  | some (.int _ l), some (.int _ h), some (.int _ m) => some ((l.toNat, h.toNat, some m.toNat), 0 ≤ l ∧ l ≤ h ∧ h ≤ m ∧ m.toNat ≤ len)
  | _, _, _ => none

def vop (E : Env) (ev : Operand → V) : Op → Option (V × Prop)
  | .move x | .assign x => some (ev x, True)
  | .pick c a b => match ev c with
    | .bool c => some (vpick c (ev a) (ev b), True)
    | _ => none
  | .binOp op t x y _ => vbin E op t (ev x) (ev y)
  | .unOp .not _ x => match ev x with
    | .bool b => some (.bool (!b), True)
    | _ => none
  | .unOp .neg _ x => match ev x with
    | .int k n => some (.int k (k.wrap (0 - n)), True)
    | _ => none
  | .unOp .xor _ x => match ev x with
    | .int k n => varith .xor k (if k.signed then -1 else k.max) n
    | _ => none
  | .convert s d x => match E.P.underlying s, E.P.underlying d, ev x with
    | some _, some (.int k), .int _ n => some (.int k (k.wrap n), True)
    | some _, some .string, .str l => some (.str l, True)
    | _, _, _ => none
  | .makeInterface t x => if tnoIface E.P t = true then some (.ifc t (ev x), True) else none
  | .makeFunc (.func f) xs ys => some (.fn (.func f) (xs.toList.map ev) (ys.toList.map ev), True)
  | .extract x i => match ev x with
    | .tup vs => (vs[i]?).map fun v => (v, True)
    | _ => none
  | .field t x f => match E.P.underlying t, ev x with
    | some (.struct fs), .agg cs => (fs[f]?).bind fun d => (vpart E.P d.type cs d.offset).map fun v => (v, True)
    | _, _ => none
  | .fieldAddr t x f => match E.P.underlying t, ev x with
    | some (.struct fs), .pref cs => (fs[f]?).bind fun d => (tsz E.P d.type).bind fun s => if s = 0 then none else some (.pref (cs.drop d.offset), True)
    | some (.struct fs), .ptr b e o => (fs[f]?).bind fun d => (tsz E.P d.type).bind fun s => if s = 0 then none else some (.ptr b e (o + d.offset), True)
    | _, _ => none
  | .indexAddr t x i => match E.P.underlying t, ev x, ev i with
    | some (.slice el), .psl rows, .int _ i => (tsz E.P el).map fun s => (.pref (rows.getD i.toNat .und).cells, (0 ≤ i ∧ i.toNat < rows.length) ∧ (rows.getD i.toNat .und).cells.length = s)
    | some (.array n el), .pref cs, .int _ i => (tsz E.P el).map fun s => (.pref (cs.drop (i.toNat * s)), 0 ≤ i ∧ i.toNat < n)
    | some (.array n el), .ptr b e o, .int _ i => (tsz E.P el).map fun s => (.ptr b e (o + i.toNat * s), 0 ≤ i ∧ i.toNat < n)
    | _, _, _ => none
  | .index t x i => match E.P.underlying t, ev x, ev i with
    | some (.array n el), .agg cs, .int _ i => (tsz E.P el).bind fun s => (vpart E.P el cs (i.toNat * s)).map fun v => (v, 0 ≤ i ∧ i.toNat < n)
    | some .string, .str l, .int _ i => some (.int .u8 (l.getD i.toNat 0).toNat, 0 ≤ i ∧ i.toNat < l.length)
    | _, _, _ => none
  | .slice t x lo hi mx => match E.P.underlying t, ev x with
    | some .string, .str l => match vsl3 l.length l.length false (lo.map ev) (hi.map ev) (mx.map ev) with
      | some ((a, b, none), p) => some (.str ((l.take b).drop a), p)
      | _ => none
    | some (.slice el), .psl rows => match vsl3 rows.length 0 false (lo.map ev) (hi.map ev) (mx.map ev), tsz E.P el with
      | some ((a, b, c), p), some s => some (if c = some a then .nsl else .psl ((rows.take b).drop a), p ∧ (c = some a ∨ rows = [] ∨ (rows.headD .und).cells.length = s))
      | _, _ => none
    | some (.slice el), .nsl => match vsl3 0 0 true (lo.map ev) (hi.map ev) (mx.map ev), tsz E.P el with
      | some ((_, _, _), p), some _ => some (.nsl, p)
      | _, _ => none
    | _, _ => none
  | .nilCheck x => match ev x with
    | .pref cs => some (.pref cs, True)
    | .ptr b e o => some (.ptr b e o, True)
    | _ => none
  | .build t parts => (tzero E.P t).bind fun z => (tplace E.P t).bind fun pl => (vbuild pl z.cells (parts.toList.map fun (i, x) => (i, ev x))).map fun (r, p) => (.agg r, z.ok = true ∧ p)
  | .call { callee := .builtin .len, args, argTypes } => match args.toList, argTypes.toList with
    | [x], [t] => match E.P.underlying t, ev x with
      | some .string, .str l => some (.int .i64 l.length, True)
      | some (.array n _), _ => some (.int .i64 n, True)
      | some (.slice _), .psl rows => some (.int .i64 rows.length, True)
      | some (.slice _), .nsl => some (.int .i64 0, True)
      | some (.slice _), .sl _ _ _ len _ => some (.int .i64 len, True)
      | _, _ => none
    | _, _ => none
  | .call { callee := .builtin .min, args, .. } => match args.toList.map ev with
    | [.int k a, .int k' b] => if k = k' then some (.int k (if b < a then b else a), True) else none
    | _ => none
  | .call { callee := .builtin .max, args, .. } => match args.toList.map ev with
    | [.int k a, .int k' b] => if k = k' then some (.int k (if a < b then b else a), True) else none
    | _ => none
  | _ => none

section
variable {E : Env} {g : G} {w : World} {ev : Operand → V} {ρ : Operand → Value}

theorem vpart_sound {t : TypeId} {cs : List V} {off : Nat} {v : V} (h : vpart E.P t cs off = some v) {vs : Array Value} (hl : vs.size = cs.length) (hv : ∀ (i : Nat) c, cs[i]? = some c → VR w g c (vs.getD i undef)) :
    ∃ cv, (part t vs off).run E.P w = .ok cv w ∧ VR w g v cv := by
  unfold vpart at h
  split at h
  · rename_i hag
    obtain ⟨s, hs, rfl⟩ := Option.map_eq_some_iff.1 h
    refine ⟨_, by simp only [part, Sem.run_bind, run_isAgg hag, Result.andThen_ok, if_true, run_sizeOf hs]; rfl, .agg _ _ (by simp; omega) fun i c hc => ?_⟩
    rw [List.getElem?_take] at hc
    split at hc
    · rename_i hi
      rw [List.getElem?_drop] at hc
      have hlt := (List.getElem?_eq_some_iff.1 hc).1
      have := hv _ _ hc
      rw [Array.getD_eq_getD_getElem?, Array.getElem?_extract]
      rw [Array.getD_eq_getD_getElem?] at this
      rw [if_pos (by omega)]
      exact this
    · cases hc
  · rename_i hag
    have hlt := (List.getElem?_eq_some_iff.1 h).1
    have hx := hv _ _ h
    refine ⟨vs[off]'(by omega), ?_, ?_⟩
    · simp [part, run_isAgg hag, Array.getElem?_eq_getElem (show off < vs.size by omega)]
    · simpa [Array.getD_eq_getD_getElem?, Array.getElem?_eq_getElem (show off < vs.size by omega)] using hx
  · cases h

theorem size_mk (l : List UInt8) : (ByteArray.mk l.toArray).size = l.length := by
  show l.toArray.size = _
  simp

theorem Addr.add_none (b o n : Nat) : (⟨b, o, none⟩ : Addr).add n = ⟨b, o + n, none⟩ := by unfold Addr.add; split <;> simp_all

theorem VR.drop {cs : List V} {blk off : Nat} (h : VR w g (.pref cs) (.pointer (some ⟨blk, off, none⟩))) (n : Nat) : VR w g (.pref (cs.drop n)) (.pointer (some ⟨blk, off + n, none⟩)) := by
  cases h with
  | pref _ _ _ val hI hw hv =>
    refine .pref _ _ _ (fun j => val (n + j)) (fun j c hc => ?_) (fun j c hc => ?_) (fun j c hc => ?_)
    all_goals rw [List.getElem?_drop] at hc
    · rw [Nat.add_assoc]; exact hI _ _ hc
    · rw [Nat.add_assoc]; exact hw _ _ hc
    · exact hv _ _ hc

/-- What an operation that makes a value comes to. -/
def Makes (E : Env) (ρ : Operand → Value) (op : Op) (w : World) (cv : Value) : Prop := ∀ (dst : Option Tmp) ty pos after guard, (execOp ρ ⟨dst, op, ty, pos, after, guard⟩).run E.P w = .ok (.value cv) w

theorem vindex_sound {t : TypeId} {x ix : Operand} {v : V} {p : Prop} (h : vop E ev (.index t x ix) = some (v, p)) (hp : p) (hev : ∀ x, VR w g (ev x) (ρ x)) : ∃ cv, Makes E ρ (.index t x ix) w cv ∧ VR w g v cv := by
  have hx := hev x
  have hi := hev ix
  simp only [vop] at h
  split at h <;> first | (cases h; done) | skip
  · rename_i n el cs k i hu h1 h2
    obtain ⟨s, hs, h⟩ := Option.bind_eq_some_iff.1 h
    obtain ⟨v', hv', h⟩ := Option.map_eq_some_iff.1 h
    simp only [Prod.mk.injEq] at h
    obtain ⟨rfl, rfl⟩ := h
    rw [h1] at hx; rw [h2] at hi
    generalize hcx : ρ x = cx at hx
    generalize hci : ρ ix = ci at hi
    cases hx with
    | agg _ vs hl hv =>
      cases hi
      obtain ⟨cv, hr, hvr⟩ := vpart_sound hv' hl hv
      refine ⟨cv, fun _ _ _ _ _ => ?_, hvr⟩
      have : (0 : Int) ≤ i ∧ i < (n : Int) := by omega
      simp [execOp, Instr.index, hcx, hci, asIntOf, run_underlying hu, this, run_sizeOf hs, hr]
  · rename_i l k i hu h1 h2
    simp only [Option.some.injEq, Prod.mk.injEq] at h
    obtain ⟨rfl, rfl⟩ := h
    rw [h1] at hx; rw [h2] at hi
    generalize hcx : ρ x = cx at hx
    generalize hci : ρ ix = ci at hi
    cases hx; cases hi
    refine ⟨_, fun _ _ _ _ _ => ?_, .int _ _⟩
    have h0 : (0 : Int) ≤ i := hp.1
    have hlt := hp.2
    have : (ByteArray.mk l.toArray)[i.toNat]? = some (l.getD i.toNat 0) := by
      have hsz : i.toNat < (ByteArray.mk l.toArray).size := by simpa [ByteArray.size] using hlt
      rw [getElem?_pos (ByteArray.mk l.toArray) i.toNat hsz]
      simp [List.getD_eq_getElem?_getD, List.getElem?_eq_getElem hlt]
      rfl
    simp [execOp, Instr.index, hcx, hci, asIntOf, run_underlying hu, h0, this]

theorem vindexAddr_sound {t : TypeId} {x ix : Operand} {v : V} {p : Prop} (h : vop E ev (.indexAddr t x ix) = some (v, p)) (hp : p) (hev : ∀ x, VR w g (ev x) (ρ x)) : ∃ cv, Makes E ρ (.indexAddr t x ix) w cv ∧ VR w g v cv := by
  have hx := hev x
  have hi := hev ix
  simp only [vop] at h
  split at h <;> first | (cases h; done) | skip
  all_goals
    rename_i hu h1 h2
    obtain ⟨s, hs, h⟩ := Option.map_eq_some_iff.1 h
    simp only [Prod.mk.injEq] at h
    obtain ⟨rfl, rfl⟩ := h
    rw [h1] at hx; rw [h2] at hi
    generalize hcx : ρ x = cx at hx
    generalize hci : ρ ix = ci at hi
    cases hi
  · rename_i el rows k i
    obtain ⟨⟨h0, hlt⟩, hsz⟩ := hp
    cases hx with
    | pnil _ => simp at hlt
    | psl _ n sz blk off cap val hn hss hc hI hw hv =>
      subst hn
      have hr : rows[i.toNat]? = some (rows.getD i.toNat .und) := by simp [List.getD_eq_getElem?_getD, List.getElem?_eq_getElem hlt]
      have hmem : rows.getD i.toNat .und ∈ rows := List.mem_of_getElem? hr
      obtain rfl : sz = s := (hss _ hmem).symm.trans hsz
      refine ⟨_, fun _ _ _ _ _ => ?_, .pref _ blk (off + i.toNat * sz) (val i.toNat) (fun j c hc => hI _ _ j c hr hc) (fun j c hc => hw _ _ j c hr hc) (fun j c hc => hv _ _ j c hr hc)⟩
      have : (0 : Int) ≤ i ∧ i < (rows.length : Int) := by omega
      simp [execOp, Instr.indexAt, hcx, hci, asIntOf, run_underlying hu, this, run_sizeOf hs, Addr.add_none]
  · rename_i n el cs k i
    obtain ⟨h0, hlt⟩ := hp
    cases hx with
    | pref _ blk off val hI hw hv =>
      refine ⟨_, fun _ _ _ _ _ => ?_, VR.drop (.pref _ blk off val hI hw hv) _⟩
      have : (0 : Int) ≤ i ∧ i < (n : Int) := by omega
      simp [execOp, Instr.indexAt, hcx, hci, asIntOf, run_underlying hu, this, run_sizeOf hs, Addr.add_none, Instr.sureAddr]
  · rename_i n el b e o k i
    obtain ⟨h0, hlt⟩ := hp
    cases hx with
    | ptr _ _ _ a he hh =>
      refine ⟨_, fun _ _ _ _ _ => ?_, .ptr b e (o + i.toNat * s) (a.add (i.toNat * s)) he fun heq => ?_⟩
      · have : (0 : Int) ≤ i ∧ i < (n : Int) := by omega
        simp [execOp, Instr.indexAt, hcx, hci, asIntOf, run_underlying hu, this, run_sizeOf hs, Instr.sureAddr]
      · obtain ⟨c, base, h1, rfl⟩ := hh heq
        exact ⟨c, base, h1, by rw [Addr.add_none, Nat.add_assoc]⟩

theorem vfieldAddr_sound {t : TypeId} {x : Operand} {f : Nat} {v : V} {p : Prop} (h : vop E ev (.fieldAddr t x f) = some (v, p)) (hev : ∀ x, VR w g (ev x) (ρ x)) : ∃ cv, Makes E ρ (.fieldAddr t x f) w cv ∧ VR w g v cv := by
  have hx := hev x
  simp only [vop] at h
  split at h <;> first | (cases h; done) | skip
  all_goals
    rename_i hu h1
    obtain ⟨d, hd, h⟩ := Option.bind_eq_some_iff.1 h
    obtain ⟨s, hs, h⟩ := Option.bind_eq_some_iff.1 h
    split at h
    · cases h
    rename_i hs0
    simp only [Option.some.injEq, Prod.mk.injEq] at h
    obtain ⟨rfl, rfl⟩ := h
    rw [h1] at hx
    generalize hcx : ρ x = cx at hx
  · cases hx with
    | pref _ blk off val hI hw hv =>
    refine ⟨_, fun _ _ _ _ _ => ?_, VR.drop (.pref _ blk off val hI hw hv) _⟩
    simp [execOp, Instr.fieldAt, hcx, run_underlying hu, hd, Instr.sureAddr, fieldPlace, run_sizeOf hs, hs0, Addr.add_none]
  · cases hx with
    | ptr _ _ _ a he hh =>
    refine ⟨_, fun _ _ _ _ _ => ?_, .ptr _ _ _ (a.add d.offset) he fun heq => ?_⟩
    · simp [execOp, Instr.fieldAt, hcx, run_underlying hu, hd, Instr.sureAddr, fieldPlace, run_sizeOf hs, hs0]
    · obtain ⟨c, base, h1, rfl⟩ := hh heq
      exact ⟨c, base, h1, by rw [Addr.add_none, Nat.add_assoc]⟩

theorem vlen_sound {x : Operand} {t : TypeId} {v : V} {p : Prop} (h : vop E ev (.call { callee := .builtin .len, args := #[x], argTypes := #[t] }) = some (v, p)) (hev : ∀ x, VR w g (ev x) (ρ x)) :
    ∃ cv, Makes E ρ (.call { callee := .builtin .len, args := #[x], argTypes := #[t] }) w cv ∧ VR w g v cv := by
  have hx := hev x
  simp only [vop] at h
  split at h <;> first | (cases h; done) | skip
  · rename_i l hu h1
    simp only [Option.some.injEq, Prod.mk.injEq] at h
    obtain ⟨rfl, rfl⟩ := h
    rw [h1] at hx
    generalize hcx : ρ x = cx at hx
    cases hx
    exact ⟨_, fun _ _ _ _ _ => by simp [execOp, resolve, invoke, builtin, Builtin.len_, hcx, run_underlying hu, goInt, size_mk], .int _ _⟩
  · rename_i n el hu
    simp only [Option.some.injEq, Prod.mk.injEq] at h
    obtain ⟨rfl, rfl⟩ := h
    exact ⟨_, fun _ _ _ _ _ => by simp [execOp, resolve, invoke, builtin, Builtin.len_, run_underlying hu, goInt], .int _ _⟩
  all_goals
    rename_i hu h1
    simp only [Option.some.injEq, Prod.mk.injEq] at h
    obtain ⟨rfl, rfl⟩ := h
    rw [h1] at hx
    generalize hcx : ρ x = cx at hx
  · cases hx with
    | psl _ n sz blk off cap val hn hss hc hI hw hv =>
      subst hn
      exact ⟨_, fun _ _ _ _ _ => by simp [execOp, resolve, invoke, builtin, Builtin.len_, hcx, run_underlying hu, goInt], .int _ _⟩
    | pnil _ => exact ⟨_, fun _ _ _ _ _ => by simp [execOp, resolve, invoke, builtin, Builtin.len_, hcx, run_underlying hu, goInt], .int _ _⟩
  · cases hx
    exact ⟨_, fun _ _ _ _ _ => by simp [execOp, resolve, invoke, builtin, Builtin.len_, hcx, run_underlying hu, goInt], .int _ _⟩
  · cases hx
    exact ⟨_, fun _ _ _ _ _ => by simp [execOp, resolve, invoke, builtin, Builtin.len_, hcx, run_underlying hu, goInt], .int _ _⟩

/-- The bounds of a slice expression over a value that is a slice (true) or a string (false). -/
theorem vsl3_sound {len cap cap' : Nat} {ok isS : Bool} {lo hi mx : Option V} {a b : Nat} {c : Option Nat} {p : Prop} (h : vsl3 len cap ok lo hi mx = some ((a, b, c), p)) (hp : p) (hc : len ≤ cap')
    (hok : ok = true → cap' = cap) {clo chi cmx : Option Value} (hlo : ∀ v, lo = some v → ∃ cv, clo = some cv ∧ VR w g v cv) (hhi : ∀ v, hi = some v → ∃ cv, chi = some cv ∧ VR w g v cv) (hmx : ∀ v, mx = some v → ∃ cv, cmx = some cv ∧ VR w g v cv)
    (nlo : lo = none → clo = none) (nhi : hi = none → chi = none) (nmx : mx = none → cmx = none) :
    ∃ m, (Instr.sliceBounds isS len cap' clo chi cmx).run E.P w = .ok (a, b, m) w ∧ a ≤ b ∧ b ≤ len ∧ b ≤ m ∧ m ≤ cap' ∧ (∀ x, c = some x → m = x) := by
  have int_of : ∀ {k i cv}, VR w g (.int k i) cv → cv = .int k i := fun h => by cases h; rfl
  have bound : ∀ {k : IntKind} {i : Int} {y : Nat} {code : BoundsCode}, 0 ≤ i → i ≤ y → (Instr.sliceBound (.int k i) y code).run E.P w = .ok i.toNat w := fun h0 h1 => by
    simp [Instr.sliceBound, asIntOf, h0, h1]
  unfold vsl3 at h
  split at h <;> simp only [Option.some.injEq, Prod.mk.injEq, reduceCtorEq] at h
  all_goals obtain ⟨⟨rfl, rfl, rfl⟩, rfl⟩ := h
  · rw [nlo rfl, nhi rfl, nmx rfl]
    refine ⟨cap', by simp [Instr.sliceBounds], Nat.zero_le _, Nat.le_refl _, hc, Nat.le_refl _, fun x hx => ?_⟩
    split at hx
    · rename_i ho; cases hx; exact hok ho
    · cases hx
  · obtain ⟨cl, rfl, hl⟩ := hlo _ rfl
    rw [nhi rfl, nmx rfl, int_of hl]
    refine ⟨cap', by simp [Instr.sliceBounds, bound hp.1 (show _ ≤ ((len : Nat) : Int) by omega)], hp.2, Nat.le_refl _, hc, Nat.le_refl _, fun x hx => ?_⟩
    split at hx
    · rename_i ho; cases hx; exact hok ho
    · cases hx
  · obtain ⟨ch, rfl, hh⟩ := hhi _ rfl
    rw [nlo rfl, nmx rfl, int_of hh]
    refine ⟨cap', by simp [Instr.sliceBounds, bound hp.1 (show _ ≤ ((cap' : Nat) : Int) by omega)], Nat.zero_le _, hp.2, by omega, Nat.le_refl _, fun x hx => ?_⟩
    split at hx
    · rename_i ho; cases hx; exact hok ho
    · cases hx
  · obtain ⟨cl, rfl, hl⟩ := hlo _ rfl
    obtain ⟨ch, rfl, hh⟩ := hhi _ rfl
    rw [nmx rfl, int_of hh, int_of hl]
    rename_i l _ h' 
    have h1 : (0 : Int) ≤ h' := by omega
    refine ⟨cap', by simp [Instr.sliceBounds, bound h1 (show _ ≤ ((cap' : Nat) : Int) by omega), bound hp.1 (show _ ≤ ((h'.toNat : Nat) : Int) by omega)], by omega, hp.2.2, by omega, Nat.le_refl _, fun x hx => ?_⟩
    split at hx
    · rename_i ho; cases hx; exact hok ho
    · cases hx
  · obtain ⟨ch, rfl, hh⟩ := hhi _ rfl
    obtain ⟨cm, rfl, hm⟩ := hmx _ rfl
    rw [nlo rfl, int_of hh, int_of hm]
    rename_i h' _ m'
    have h1 : (0 : Int) ≤ m' := by omega
    refine ⟨m'.toNat, by simp [Instr.sliceBounds, bound h1 (show _ ≤ ((cap' : Nat) : Int) by omega), bound hp.1 (show _ ≤ ((m'.toNat : Nat) : Int) by omega)], Nat.zero_le _, by omega, by omega, by omega, fun x hx => by cases hx; rfl⟩
  · obtain ⟨cl, rfl, hl⟩ := hlo _ rfl
    obtain ⟨ch, rfl, hh⟩ := hhi _ rfl
    obtain ⟨cm, rfl, hm⟩ := hmx _ rfl
    rw [int_of hl, int_of hh, int_of hm]
    rename_i l' _ h' _ m'
    have h1 : (0 : Int) ≤ m' := by omega
    have h2 : (0 : Int) ≤ h' := by omega
    refine ⟨m'.toNat, by simp [Instr.sliceBounds, bound h1 (show _ ≤ ((cap' : Nat) : Int) by omega), bound h2 (show _ ≤ ((m'.toNat : Nat) : Int) by omega), bound hp.1 (show _ ≤ ((h'.toNat : Nat) : Int) by omega)], by omega, by omega, by omega, by omega, fun x hx => by cases hx; rfl⟩

end
end Go.VC

/- Operations that touch no memory of the call's own: slice expressions, struct literals, and all of them together. -/
namespace Go.VC
open Go Go.RowKit
section
variable {E : Env} {g : G} {w : World} {ev : Operand → V} {ρ : Operand → Value}

theorem VR.rows {rows : List V} {n sz blk off : Nat} {val : Nat → Nat → Value} (hs : ∀ r ∈ rows, r.cells.length = sz)
    (hI : ∀ i r j c, rows[i]? = some r → r.cells[j]? = some c → g.I blk (off + i * sz + j))
    (hw : ∀ i r j c, rows[i]? = some r → r.cells[j]? = some c → w.cell? ⟨blk, off + i * sz + j, none⟩ = some (val i j))
    (hv : ∀ i r j c, rows[i]? = some r → r.cells[j]? = some c → VR w (pureG g.I) c (val i j)) (a b m : Nat) (hab : a ≤ b) (hb : b ≤ rows.length) (hm : b ≤ m) (hn : n = b - a) :
    VR w g (.psl ((rows.take b).drop a)) (.slice (some ⟨blk, off + a * sz, none⟩) n (m - a)) := by
  have hg : ∀ (i : Nat) r, ((rows.take b).drop a)[i]? = some r → rows[a + i]? = some r := fun i r h => by
    rw [List.getElem?_drop, List.getElem?_take] at h
    split at h
    · exact h
    · cases h
  refine .psl _ _ sz _ _ _ (fun i => val (a + i)) (by simp; omega) (fun r hr => hs r (List.mem_of_mem_take (List.mem_of_mem_drop hr))) (by omega) (fun i r j c h1 h2 => ?_) (fun i r j c h1 h2 => ?_)
    (fun i r j c h1 h2 => hv _ r j c (hg i r h1) h2)
  · have := hI _ r j c (hg i r h1) h2
    rwa [Nat.add_mul, ← Nat.add_assoc] at this
  · have := hw _ r j c (hg i r h1) h2
    rwa [Nat.add_mul, ← Nat.add_assoc] at this

theorem vslice_sound {t : TypeId} {x : Operand} {lo hi mx : Option Operand} {v : V} {p : Prop} (h : vop E ev (.slice t x lo hi mx) = some (v, p)) (hp : p) (hev : ∀ x, VR w g (ev x) (ρ x)) :
    ∃ cv, Makes E ρ (.slice t x lo hi mx) w cv ∧ VR w g v cv := by
  have hx := hev x
  have op : ∀ (o : Option Operand), (∀ v, o.map ev = some v → ∃ cv, o.map ρ = some cv ∧ VR w g v cv) ∧ (o.map ev = none → o.map ρ = none) := fun o => by
    cases o with
    | none => simp
    | some y => exact ⟨fun v hv => ⟨ρ y, rfl, by simp at hv; subst hv; exact hev y⟩, fun h => by simp at h⟩
  simp only [vop] at h
  split at h <;> first | (cases h; done) | skip
  · rename_i l hu h1
    split at h <;> first | (cases h; done) | skip
    rename_i a b p' h3
    simp only [Option.some.injEq, Prod.mk.injEq] at h
    obtain ⟨rfl, rfl⟩ := h
    rw [h1] at hx
    generalize hcx : ρ x = cx at hx
    cases hx
    obtain ⟨m, hr, hab, hb, _, _, _⟩ := vsl3_sound (E := E) (w := w) (g := g) (isS := false) h3 hp (Nat.le_refl _) (fun h => by cases h) (op lo).1 (op hi).1 (op mx).1 (op lo).2 (op hi).2 (op mx).2
    have hmx : mx = none := by
      cases mx with
      | none => rfl
      | some y =>
        exfalso
        revert h3
        simp only [Option.map_some]
        unfold vsl3
        split <;> simp_all
    subst hmx
    refine ⟨_, fun _ _ _ _ _ => ?_, .str _⟩
    simp only [Option.map_none] at hr
    have : ((⟨l.toArray⟩ : ByteArray).extract a b) = ⟨((l.take b).drop a).toArray⟩ := by
      apply ByteArray.ext; simp [List.extract_toArray, List.extract_eq_take_drop, List.drop_take]
    simp [execOp, Instr.sliceAt, Instr.slice, hcx, run_underlying hu, hr, size_mk, this]
  · rename_i el rows hu h1
    split at h <;> first | (cases h; done) | skip
    rename_i a b c p' s h3 hs
    simp only [Option.some.injEq, Prod.mk.injEq] at h
    obtain ⟨rfl, rfl⟩ := h
    rw [h1] at hx
    generalize hcx : ρ x = cx at hx
    cases hx with
    | pnil _ =>
      obtain ⟨m, hr, hab, hb, hbm, hmc, _⟩ := vsl3_sound (E := E) (w := w) (g := g) (isS := true) (cap' := 0) h3 hp.1 (Nat.le_refl _) (fun h => by cases h) (op lo).1 (op hi).1 (op mx).1 (op lo).2 (op hi).2 (op mx).2
      simp only [List.length_nil] at hr hb
      obtain rfl : b = 0 := by omega
      obtain rfl : a = 0 := by omega
      obtain rfl : m = 0 := by omega
      refine ⟨_, fun _ _ _ _ _ => by simp [execOp, Instr.sliceAt, Instr.slice, hcx, run_underlying hu, hr, run_sizeOf hs]; rfl, ?_⟩
      split
      · exact .nsl _
      · exact .pnil _
    | psl _ n sz blk off cap val hn hss hc hI hw hv =>
      subst hn
      obtain ⟨m, hr, hab, hb, hbm, hmc, hcc⟩ := vsl3_sound (E := E) (w := w) (g := g) (isS := true) (cap' := cap) h3 hp.1 hc (fun h => by cases h) (op lo).1 (op hi).1 (op mx).1 (op lo).2 (op hi).2 (op mx).2
      by_cases hca : c = some a
      · obtain rfl : m = a := hcc _ hca
        obtain rfl : b = m := by omega
        rw [if_pos hca]
        exact ⟨.slice (some ⟨blk, off, none⟩) 0 0, fun _ _ _ _ _ => by simp [execOp, Instr.sliceAt, Instr.slice, hcx, run_underlying hu, hr, run_sizeOf hs], .nsl _⟩
      rw [if_neg hca]
      by_cases hma : m = a
      · obtain rfl : b = a := by omega
        refine ⟨.slice (some ⟨blk, off, none⟩) 0 (m - b), fun _ _ _ _ _ => by simp [execOp, Instr.sliceAt, Instr.slice, hcx, run_underlying hu, hr, run_sizeOf hs, hma], ?_⟩
        have := VR.rows (n := 0) (w := w) hss hI hw hv 0 0 (m - b) (Nat.le_refl _) (Nat.zero_le _) (Nat.zero_le _) rfl
        simpa [List.drop_take] using this
      · by_cases hr0 : rows = []
        · subst hr0
          simp only [List.length_nil] at hb hr
          obtain rfl : b = 0 := by omega
          obtain rfl : a = 0 := by omega
          refine ⟨.slice (some ⟨blk, off, none⟩) 0 m, fun _ _ _ _ _ => by simp [execOp, Instr.sliceAt, Instr.slice, hcx, run_underlying hu, hr, run_sizeOf hs, Addr.add_none], ?_⟩
          simpa using VR.rows (n := 0) (w := w) hss hI hw hv 0 0 m (Nat.le_refl _) (Nat.zero_le _) (Nat.zero_le _) rfl
        · have hrm : rows.headD .und ∈ rows := by
            cases rows with
            | nil => exact absurd rfl hr0
            | cons r _ => simp
          obtain rfl : sz = s := (hss _ hrm).symm.trans ((hp.2.resolve_left hca).resolve_left hr0)
          refine ⟨.slice (some ⟨blk, off + a * sz, none⟩) (b - a) (m - a), fun _ _ _ _ _ => by simp [execOp, Instr.sliceAt, Instr.slice, hcx, run_underlying hu, hr, run_sizeOf hs, hma, Addr.add_none], ?_⟩
          exact VR.rows hss hI hw hv a b m hab hb hbm rfl
  · rename_i el hu h1
    split at h <;> first | (cases h; done) | skip
    rename_i a b c p' s h3 hs
    simp only [Option.some.injEq, Prod.mk.injEq] at h
    obtain ⟨rfl, rfl⟩ := h
    rw [h1] at hx
    generalize hcx : ρ x = cx at hx
    cases hx
    obtain ⟨m, hr, hab, hb, hbm, hmc, _⟩ := vsl3_sound (E := E) (w := w) (g := g) (isS := true) (cap' := 0) h3 hp (Nat.le_refl _) (fun _ => rfl) (op lo).1 (op hi).1 (op mx).1 (op lo).2 (op hi).2 (op mx).2
    obtain rfl : b = 0 := by omega
    obtain rfl : a = 0 := by omega
    obtain rfl : m = 0 := by omega
    exact ⟨_, fun _ _ _ _ _ => by simp [execOp, Instr.sliceAt, Instr.slice, hcx, run_underlying hu, hr, run_sizeOf hs]; rfl, .nsl _⟩

/-! ### Struct literals -/
theorem fold_set (v : List Value) : ∀ (k : Nat) (a : Array Value) (off : Nat),
    ((v.zipIdx k).foldl (fun cs (x : Value × Nat) => cs.setIfInBounds (off + x.2) x.1) a).size = a.size ∧
    ∀ i, i < a.size → ((v.zipIdx k).foldl (fun cs (x : Value × Nat) => cs.setIfInBounds (off + x.2) x.1) a).getD i undef =
      if off + k ≤ i ∧ i < off + k + v.length then v.getD (i - off - k) undef else a.getD i undef := by
  induction v with
  | nil =>
    intro k a off
    refine ⟨by simp, fun i _ => ?_⟩
    rw [if_neg (by simp)]; rfl
  | cons c v ih =>
    intro k a off
    simp only [List.zipIdx_cons, List.foldl_cons]
    obtain ⟨h1, h2⟩ := ih (k + 1) (a.setIfInBounds (off + k) c) off
    refine ⟨by simpa using h1, fun i hi => ?_⟩
    rw [h2 i (by simpa using hi)]
    simp only [List.length_cons]
    by_cases hk : i = off + k
    · subst hk
      rw [if_neg (by omega), if_pos (by omega)]
      simp only [Array.getD_eq_getD_getElem?, Array.getElem?_setIfInBounds_self_of_lt hi, Option.getD_some]
      rw [show off + k - off - k = 0 from by omega]; rfl
    · by_cases hin : off + (k + 1) ≤ i ∧ i < off + (k + 1) + v.length
      · rw [if_pos hin, if_pos (by omega), show i - off - k = (i - off - (k + 1)) + 1 from by omega]; rfl
      · rw [if_neg hin, if_neg (by omega)]
        simp only [Array.getD_eq_getD_getElem?, Array.getElem?_setIfInBounds_ne (show off + k ≠ i by omega)]

/-- Cells and what they are. -/
def CR (w : World) (g : G) (cs : List V) (vs : Array Value) : Prop := vs.size = cs.length ∧ ∀ (i : Nat) c, cs[i]? = some c → VR w g c (vs.getD i undef)

theorem VR.cells_rel {v : V} {cv : Value} (h : VR w g v cv) (hv : v ≠ .und) : CR w g v.cells cv.cells := by
  cases h with
  | agg cs vs hl hh => exact ⟨hl, hh⟩
  | und => exact absurd rfl hv
  | _ =>
    refine ⟨rfl, fun i c hc => ?_⟩
    simp only [V.cells] at hc
    have h0 : i = 0 := by
      have := (List.getElem?_eq_some_iff.1 hc).1
      simpa using this
    subst h0
    simp only [List.getElem?_cons_zero, Option.some.injEq] at hc
    subst hc
    first
      | exact .int _ _ | exact .bool _ | exact .str _ | exact .pnil _ | exact .nsl _ | exact .nptr | exact .nmap | exact .nfn | exact .nifc
      | (simp only [Value.cells]; constructor <;> assumption)

theorem CR.fill {cells vs : List V} {a b : Array Value} (h : CR w g cells a) (hv : CR w g vs b) {off : Nat} (hle : off + vs.length ≤ cells.length) :
    CR w g (vfill cells off vs) (b.zipIdx.foldl (fun cs (x : Value × Nat) => cs.setIfInBounds (off + x.2) x.1) a) := by
  have e : b.zipIdx.foldl (fun cs (x : Value × Nat) => cs.setIfInBounds (off + x.2) x.1) a = (b.toList.zipIdx 0).foldl (fun cs (x : Value × Nat) => cs.setIfInBounds (off + x.2) x.1) a := by
    rw [← Array.foldl_toList, Array.toList_zipIdx]
  rw [e]
  obtain ⟨h1, h2⟩ := fold_set b.toList 0 a off
  have hb : b.toList.length = vs.length := by simpa using hv.1
  refine ⟨by rw [h1, h.1]; simp [vfill]; omega, fun i c hc => ?_⟩
  have hi : i < cells.length := by
    have := (List.getElem?_eq_some_iff.1 hc).1
    simp only [vfill, List.length_append, List.length_take, List.length_drop] at this
    omega
  rw [h2 i (by rw [h.1]; exact hi), hb]
  simp only [vfill, List.append_assoc] at hc
  by_cases ho : i < off
  · rw [if_neg (by omega)]
    rw [List.getElem?_append_left (by simp; omega), List.getElem?_take, if_pos ho] at hc
    exact h.2 i c hc
  · rw [List.getElem?_append_right (by simp; omega)] at hc
    simp only [List.length_take] at hc
    rw [show i - min off cells.length = i - off from by omega] at hc
    by_cases hin : i < off + vs.length
    · rw [if_pos (by omega)]
      rw [List.getElem?_append_left (by omega)] at hc
      have := hv.2 _ c hc
      simpa [Array.getD_eq_getD_getElem?, List.getD_eq_getElem?_getD] using this
    · rw [if_neg (by omega)]
      rw [List.getElem?_append_right (by omega), List.getElem?_drop] at hc
      refine h.2 i c ?_
      rw [← hc]; congr 1; omega

theorem vfill_length {cells vs : List V} {off : Nat} (hle : off + vs.length ≤ cells.length) : (vfill cells off vs).length = cells.length := by
  simp [vfill]; omega

theorem vbuild_sound {place : Nat → Option (Nat × Nat)} : ∀ (parts : List (Nat × Operand)) (cells : List V) (a : Array Value) (r : List V) (p : Prop),
    vbuild place cells (parts.map fun (i, x) => (i, ev x)) = some (r, p) → p → (∀ x, VR w g (ev x) (ρ x)) → CR w g cells a →
    ∃ b, Instr.fill place a (parts.map fun (i, x) => (i, ρ x)) = some b ∧ CR w g r b := by
  intro parts
  induction parts with
  | nil =>
    intro cells a r p h _ _ hc
    simp only [List.map_nil, vbuild, Option.some.injEq, Prod.mk.injEq] at h
    obtain ⟨rfl, _⟩ := h
    exact ⟨a, rfl, hc⟩
  | cons q parts ih =>
    obtain ⟨i, x⟩ := q
    intro cells a r p h hp hev hc
    simp only [List.map_cons, vbuild] at h
    split at h
    · cases h
    · rename_i off s hpl
      split at h
      · cases h
      · rename_i r' p' hb
        simp only [Option.some.injEq, Prod.mk.injEq] at h
        obtain ⟨rfl, rfl⟩ := h
        obtain ⟨⟨hok, hs, hle⟩, hp'⟩ := hp
        have hcx := (hev x).cells_rel (V.ok_ne hok)
        have hsz : (ρ x).cells.size = s := hcx.1.trans hs
        obtain ⟨b, hb1, hb2⟩ := ih _ _ r' p' hb hp' hev (hc.fill hcx (off := off) (by omega))
        refine ⟨b, ?_, hb2⟩
        simp only [List.map_cons, Instr.fill, hpl, hsz]
        rw [if_neg (by simp; rw [hc.1]; exact hle)]
        exact hb1

theorem run_zero {P : Program} {t : TypeId} {z : V} (h : tzero P t = some z) (w : World) : ∃ cv, (zeroValue t).run P w = .ok cv w ∧ ∀ g, VR w g z cv := by
  obtain ⟨v, hv, rfl⟩ := Option.map_eq_some_iff.1 h
  obtain ⟨i, hi, hz⟩ := Option.bind_eq_some_iff.1 hv
  exact ⟨v, by simp [zeroValue, typeInfo, program, hi, Sem.run, hz], fun g => ofC_rel g w 6 v⟩

theorem vbuildOp_sound {t : TypeId} {parts : Array (Nat × Operand)} {v : V} {p : Prop} (h : vop E ev (.build t parts) = some (v, p)) (hp : p) (hev : ∀ x, VR w g (ev x) (ρ x)) :
    ∃ cv, Makes E ρ (.build t parts) w cv ∧ VR w g v cv := by
  simp only [vop] at h
  obtain ⟨z, hz, h⟩ := Option.bind_eq_some_iff.1 h
  obtain ⟨pl, hpl, h⟩ := Option.bind_eq_some_iff.1 h
  obtain ⟨⟨r, p'⟩, hb, h⟩ := Option.map_eq_some_iff.1 h
  simp only [Prod.mk.injEq] at h
  obtain ⟨rfl, rfl⟩ := h
  obtain ⟨cz, hrz, hvz⟩ := run_zero (P := E.P) hz w
  obtain ⟨b, hf, hcb⟩ := vbuild_sound parts.toList _ _ r p' hb hp.2 hev ((hvz g).cells_rel (V.ok_ne hp.1))
  refine ⟨.agg b, fun _ _ _ _ _ => ?_, .agg _ _ hcb.1 hcb.2⟩
  have hmap : (parts.map fun (i, x) => (i, ρ x)).toList = parts.toList.map fun (i, x) => (i, ρ x) := by simp
  unfold tplace at hpl
  split at hpl
  · rename_i pl' hpl'
    simp only [Option.some.injEq] at hpl
    subst hpl
    unfold tpl at hpl'
    split at hpl'
    · rename_i fs hu
      simp [execOp, Instr.build, run_underlying hu, hrz, Array.mapM_eq_mapM_toList, run_places w _ _ hpl', hf]
    · cases hpl'
  · obtain ⟨s, hs, rfl⟩ := Option.map_eq_some_iff.1 hpl
    unfold tarr at hs
    split at hs
    · rename_i n e hu
      simp [execOp, Instr.build, run_underlying hu, hrz, run_sizeOf hs, hf]
    · cases hs

/-- ALL OF THEM. -/
theorem vop_sound {op : Op} {v : V} {p : Prop} (h : vop E ev op = some (v, p)) (hp : p) (hev : ∀ x, VR w g (ev x) (ρ x)) : ∃ cv, Makes E ρ op w cv ∧ VR w g v cv := by
  cases op
  case index t x i => exact vindex_sound h hp hev
  case indexAddr t x i => exact vindexAddr_sound h hp hev
  case fieldAddr t x f => exact vfieldAddr_sound h hev
  case slice t x lo hi mx => exact vslice_sound h hp hev
  case build t parts => exact vbuildOp_sound h hp hev
  case move x =>
    simp only [vop, Option.some.injEq, Prod.mk.injEq] at h
    obtain ⟨rfl, rfl⟩ := h
    exact ⟨_, fun _ _ _ _ _ => rfl, hev x⟩
  case assign x =>
    simp only [vop, Option.some.injEq, Prod.mk.injEq] at h
    obtain ⟨rfl, rfl⟩ := h
    exact ⟨_, fun _ _ _ _ _ => rfl, hev x⟩
  case pick c a b =>
    simp only [vop] at h
    split at h <;> first | (cases h; done) | skip
    rename_i cb hc
    simp only [Option.some.injEq, Prod.mk.injEq] at h
    obtain ⟨rfl, rfl⟩ := h
    have h1 := hev c
    rw [hc] at h1
    generalize hcc : ρ c = cc at h1
    cases h1
    refine ⟨if cb = true then ρ a else ρ b, fun _ _ _ _ _ => by simp [execOp, hcc, asBool], ?_⟩
    cases cb
    · exact hev b
    · exact hev a
  case binOp op t x y ty =>
    obtain ⟨cv, h1, h2, h3⟩ := vbin_sound (E := E) (g := g) (w := w) h hp (hev x) (hev y) x y
    exact ⟨cv, fun _ _ _ _ _ => by simp [execOp, h1, h2], h3⟩
  case unOp op t x =>
    have h1 := hev x
    cases op <;> simp only [vop, reduceCtorEq] at h <;> split at h <;> first | (cases h; done) | skip
    all_goals
      rename_i hx
      rw [hx] at h1
      generalize hcc : ρ x = cc at h1
      cases h1
    · simp only [Option.some.injEq, Prod.mk.injEq] at h
      obtain ⟨rfl, rfl⟩ := h
      exact ⟨_, fun _ _ _ _ _ => by simp [execOp, Op.unary, Op.intArith, hcc], .int _ _⟩
    · simp only [varith, Option.some.injEq, Prod.mk.injEq] at h
      obtain ⟨rfl, rfl⟩ := h
      exact ⟨_, fun _ _ _ _ _ => by simp [execOp, Op.unary, Op.intBits, hcc], .int _ _⟩
    · simp only [Option.some.injEq, Prod.mk.injEq] at h
      obtain ⟨rfl, rfl⟩ := h
      exact ⟨_, fun _ _ _ _ _ => by simp [execOp, Op.unary, hcc], .bool _⟩
  case convert s d x =>
    have h1 := hev x
    simp only [vop] at h
    split at h <;> first | (cases h; done) | skip
    all_goals
      rename_i hs hd hx
      simp only [Option.some.injEq, Prod.mk.injEq] at h
      obtain ⟨rfl, rfl⟩ := h
      rw [hx] at h1
      generalize hcc : ρ x = cc at h1
      cases h1
    · exact ⟨_, fun _ _ _ _ _ => by simp [execOp, Go.convert, run_underlying hs, run_underlying hd, Conv.intToInt, hcc], .int _ _⟩
    · refine ⟨_, fun _ _ _ _ _ => ?_, .str _⟩
      simp only [execOp, Go.convert, Sem.run_bind, run_underlying hs, run_underlying hd, hcc, Result.andThen_ok]
      rfl
  case makeInterface t x =>
    simp only [vop] at h
    split at h
    · rename_i hn
      simp only [Option.some.injEq, Prod.mk.injEq] at h
      obtain ⟨rfl, rfl⟩ := h
      refine ⟨_, fun _ _ _ _ _ => ?_, .ifc _ _ _ (hev x)⟩
      unfold tnoIface at hn
      cases hu : E.P.underlying t with
      | none => simp [hu] at hn
      | some d =>
        simp only [execOp, Instr.makeInterface, Sem.run_bind, run_underlying hu, Result.andThen_ok]
        cases d <;> first | rfl | (simp [hu] at hn)
    · cases h
  case makeFunc f xs ys =>
    cases f <;> simp only [vop, reduceCtorEq, Option.some.injEq, Prod.mk.injEq] at h
    obtain ⟨rfl, rfl⟩ := h
    refine ⟨_, fun _ _ _ _ _ => rfl, .fn _ _ _ _ _ (by simp) (by simp) (fun i c hc => ?_) (fun i c hc => ?_)⟩
    all_goals
      simp only [List.getElem?_map, Array.getElem?_toList, Option.map_eq_some_iff] at hc
      obtain ⟨y, hy, rfl⟩ := hc
      simp only [Array.getD_eq_getD_getElem?, Array.getElem?_map, hy, Option.map_some, Option.getD_some]
      exact hev y
  case extract x i =>
    have h1 := hev x
    simp only [vop] at h
    split at h <;> first | (cases h; done) | skip
    rename_i vs hx
    obtain ⟨v', hv, h⟩ := Option.map_eq_some_iff.1 h
    simp only [Prod.mk.injEq] at h
    obtain ⟨rfl, rfl⟩ := h
    rw [hx] at h1
    generalize hcc : ρ x = cc at h1
    cases h1 with
    | tup _ us hl hh =>
      have hlt : i < us.size := by rw [hl]; exact (List.getElem?_eq_some_iff.1 hv).1
      refine ⟨us[i], fun _ _ _ _ _ => by simp [execOp, Instr.extract, hcc, Array.getElem?_eq_getElem hlt], ?_⟩
      simpa [Array.getD_eq_getD_getElem?, Array.getElem?_eq_getElem hlt] using hh i _ hv
  case field t x f =>
    have h1 := hev x
    simp only [vop] at h
    split at h <;> first | (cases h; done) | skip
    rename_i fs cs hu hx
    obtain ⟨d, hd, h⟩ := Option.bind_eq_some_iff.1 h
    obtain ⟨v', hv, h⟩ := Option.map_eq_some_iff.1 h
    simp only [Prod.mk.injEq] at h
    obtain ⟨rfl, rfl⟩ := h
    rw [hx] at h1
    generalize hcc : ρ x = cc at h1
    cases h1 with
    | agg _ us hl hh =>
      obtain ⟨cv, hr, hvr⟩ := vpart_sound hv hl hh
      exact ⟨cv, fun _ _ _ _ _ => by simp [execOp, Instr.field, hcc, run_underlying hu, hd, asAgg, hr], hvr⟩
  case nilCheck x =>
    have h1 := hev x
    simp only [vop] at h
    split at h <;> first | (cases h; done) | skip
    all_goals
      rename_i hx
      simp only [Option.some.injEq, Prod.mk.injEq] at h
      obtain ⟨rfl, rfl⟩ := h
      rw [hx] at h1
      have h2 := h1
      generalize hcc : ρ x = cc at h1 h2
      cases h1
      exact ⟨_, fun _ _ _ _ _ => by simp [execOp, hcc], h2⟩
  case call c =>
    obtain ⟨callee, args, tys⟩ := c
    cases callee with
    | value f => simp [vop] at h
    | invoke r m => simp [vop] at h
    | builtin b =>
      obtain ⟨args⟩ := args
      obtain ⟨tys⟩ := tys
      cases b <;> first | (simp [vop] at h; done) | skip
      · rcases args with _ | ⟨x, _ | ⟨y, args⟩⟩ <;> first | (simp [vop] at h; done) | skip
        rcases tys with _ | ⟨t, _ | ⟨y, tys⟩⟩ <;> first | (simp [vop] at h; done) | skip
        exact vlen_sound h hev
      all_goals
        rcases args with _ | ⟨x, _ | ⟨y, _ | ⟨z, args⟩⟩⟩ <;> first | (simp [vop] at h; done) | skip
        have h1 := hev x
        have h2 := hev y
        simp only [vop, List.map_cons, List.map_nil] at h
        split at h <;> first | (cases h; done) | skip
        rename_i k a k' b heq
        simp only [List.cons.injEq, and_true] at heq
        split at h
        · rename_i hk
          subst hk
          simp only [Option.some.injEq, Prod.mk.injEq] at h
          obtain ⟨rfl, rfl⟩ := h
          rw [heq.1] at h1; rw [heq.2] at h2
          generalize hcx : ρ x = cx at h1
          generalize hcy : ρ y = cy at h2
          cases h1; cases h2
          exact ⟨_, fun _ _ _ _ _ => by simp [execOp, resolve, invoke, builtin, Builtin.min_, Builtin.max_, Builtin.min2, Builtin.max2, hcx, hcy], .int _ _⟩
        · cases h
  all_goals simp [vop] at h

end
end Go.VC

/- Operations on memory: loads, stores, new blocks. -/
namespace Go.VC
open Go Go.RowKit

/-- What is read of cells. -/
def vload (P : Program) (t : TypeId) (cs : List V) : Option (V × Prop) :=
  match tag P t with
  | some true => (tsz P t).map fun s => (.agg (cs.take s), s ≤ cs.length)
  | some false => (cs[0]?).map fun v => (v, True)
  | none => none

section
variable {E : Env} {g : G} {m : XM} {w : World} {P : Program}

theorem run_loadCellsFrom (w : World) (a : Addr) (f : Nat → Value) : ∀ (n i : Nat) (acc : Array Value), (∀ j, j < n → w.cell? (a.add (i + j)) = some (f (i + j))) →
    (loadCellsFrom a i n acc).run P w = .ok (acc ++ ((List.range n).map fun j => f (i + j)).toArray) w := by
  intro n
  induction n with
  | zero => intro i acc _; simp [loadCellsFrom]
  | succ n ih =>
    intro i acc h
    have h0 := h 0 (by omega)
    simp only [Nat.add_zero] at h0
    simp only [loadCellsFrom, Sem.run_bind]
    rw [show (load (a.add i)).run P w = .ok (f i) w by simp [load, Sem.run, h0]]
    simp only [Result.andThen_ok]
    rw [ih (i + 1) _ (fun j hj => by have := h (j + 1) (by omega); rw [show i + (j + 1) = i + 1 + j by omega] at this; exact this)]
    simp [List.range_succ_eq_map, Function.comp_def, Nat.add_assoc, Nat.add_comm 1]

theorem run_loadCells (w : World) (a : Addr) (f : Nat → Value) (n : Nat) (h : ∀ j, j < n → w.cell? (a.add j) = some (f j)) :
    (loadCells a n).run P w = .ok ((List.range n).map f).toArray w := by
  have := run_loadCellsFrom (P := P) w a f n 0 #[] (by simpa using h)
  simpa [loadCells] using this

/-- A variable is read whose cells are known. -/
theorem run_loadVar {t : TypeId} {cs : List V} {v : V} {p : Prop} (h : vload P t cs = some (v, p)) (hp : p) (b o : Nat) (f : Nat → Value)
    (hc : ∀ (j : Nat) c, cs[j]? = some c → w.cell? ⟨b, o + j, none⟩ = some (f j)) (hv : ∀ (j : Nat) c, cs[j]? = some c → VR w g c (f j)) :
    ∃ cv, (loadVar t ⟨b, o, none⟩).run P w = .ok cv w ∧ VR w g v cv := by
  unfold vload at h
  split at h
  · rename_i hag
    obtain ⟨s, hs, h⟩ := Option.map_eq_some_iff.1 h
    simp only [Prod.mk.injEq] at h
    obtain ⟨rfl, rfl⟩ := h
    refine ⟨.agg ((List.range s).map f).toArray, ?_, .agg _ _ (by simp; omega) fun i c hi => ?_⟩
    · have := run_loadCells (P := P) w ⟨b, o, none⟩ f s (fun j hj => by
        rw [Addr.add_none]
        exact hc j _ (List.getElem?_eq_getElem (by omega)))
      simp [loadVar, run_isAgg hag, run_sizeOf hs, this]
    · rw [List.getElem?_take] at hi
      split at hi
      · rename_i his
        have := hv i c hi
        simpa [Array.getD_eq_getD_getElem?, his] using this
      · cases hi
  · rename_i hag
    obtain ⟨v', hv', h⟩ := Option.map_eq_some_iff.1 h
    simp only [Prod.mk.injEq] at h
    obtain ⟨rfl, rfl⟩ := h
    have := hc 0 _ hv'
    rw [Nat.add_zero] at this
    exact ⟨f 0, by simp [loadVar, run_isAgg hag, load, Sem.run, this], hv 0 _ hv'⟩
  · cases h

/-- Where a pointer into an own block leads. -/
theorem Rel.ptr (h : Rel g m w) {b e o : Nat} {cells : List V} {ty : TypeId} {ag : Bool} {sz : Nat} (hm : m[b]? = some (.row cells ty ag sz e)) {cv : Value} (hv : VR w g (.ptr b e o) cv) :
    ∃ c base cs, cv = .pointer (some ⟨c, base + o, none⟩) ∧ g.β b = some (c, base) ∧ w.heap[c]? = some (.cells cs ty (0, 0)) ∧ cs.size = g.ext b ∧ base + cells.length ≤ cs.size ∧
      ∀ (j : Nat) v, cells[j]? = some v → VR w g v (cs.getD (base + j) undef) := by
  cases hv with
  | ptr _ _ _ a he hh =>
    obtain ⟨c, base, hb, rfl⟩ := hh (h.np_of hm he).2
    obtain ⟨_, _, c', base', cs, h3, h4, h5, h6, h7⟩ := h.objs b _ _ hm hb
    obtain ⟨rfl, rfl⟩ : c = c' ∧ base = base' := by simpa using hb.symm.trans h3
    exact ⟨c, base, cs, rfl, hb, h4, h5, h6, h7⟩

theorem cell_of_heap {w : World} {c : Nat} {cs : Array Value} {ty : TypeId} {fr : Nat × Nat} (h : w.heap[c]? = some (.cells cs ty fr)) {o : Nat} (ho : o < cs.size) : w.cell? ⟨c, o, none⟩ = some (cs.getD o undef) := by
  simp [World.cell?, h, Array.getD_eq_getD_getElem?, Array.getElem?_eq_getElem ho]

theorem frozen_of_heap {w : World} {c : Nat} {cs : Array Value} {ty : TypeId} (h : w.heap[c]? = some (.cells cs ty (0, 0))) (o : Nat) (s : Option Nat) : w.frozen? ⟨c, o, s⟩ = false := by
  simp [World.frozen?, h]

theorem VR.oneCell {v : V} {cv : Value} (h : VR w g v cv) (h1 : v.one = true) : ∀ cs, cv ≠ .agg cs ∧ cv ≠ .tuple cs := by
  intro cs
  cases h <;> first | (cases h1; done) | exact ⟨by simp, by simp⟩

/-- Cells written one behind the other. -/
def vsetL (cells : List V) (o : Nat) : List V → List V
  | [] => cells
  | v :: r => vsetL (cells.set o v) (o + 1) r

theorem vsetL_eq : ∀ (vs cells : List V) (o : Nat), o + vs.length ≤ cells.length → vsetL cells o vs = vfill cells o vs := by
  intro vs
  induction vs with
  | nil => intro cells o _; simp [vsetL, vfill]
  | cons v vs ih =>
    intro cells o h
    simp only [List.length_cons] at h
    rw [vsetL, ih _ _ (by simp; omega)]
    apply List.ext_getElem?
    intro i
    simp only [vfill, List.append_assoc, List.length_cons]
    by_cases h1 : i < o
    · rw [List.getElem?_append_left (by simp; omega), List.getElem?_append_left (by simp; omega), List.getElem?_take, List.getElem?_take, if_pos (by omega), if_pos h1, List.getElem?_set_ne (by omega)]
    · rw [List.getElem?_append_right (l₁ := List.take o cells) (by simp; omega)]
      by_cases h2 : i = o
      · subst h2
        rw [List.getElem?_append_left (by simp; omega), List.getElem?_take, if_pos (by omega)]
        simp only [List.length_take, show min i cells.length = i by omega, Nat.sub_self]
        rw [List.getElem?_set_self (by omega)]; rfl
      · rw [List.getElem?_append_right (l₁ := List.take (o + 1) _) (by simp; omega)]
        simp only [List.length_take, List.length_set, show min o cells.length = o by omega, show min (o + 1) cells.length = o + 1 by omega]
        rw [show i - o = (i - (o + 1)) + 1 by omega, List.cons_append, List.getElem?_cons_succ]
        by_cases h3 : i - (o + 1) < vs.length
        · rw [List.getElem?_append_left h3, List.getElem?_append_left h3]
        · rw [List.getElem?_append_right (by omega), List.getElem?_append_right (by omega), List.getElem?_drop, List.getElem?_drop, List.getElem?_set_ne (by omega)]
          congr 1; omega

theorem Rel.storeCells : ∀ (vs : List V) (cvs : List Value) (m : XM) (w : World) (cells : List V) (i : Nat), Rel g m w → ∀ {b : Nat} {ty : TypeId} {ag : Bool} {sz ep c base o : Nat}, m[b]? = some (.row cells ty ag sz ep) → g.β b = some (c, base) →
    o + i + vs.length ≤ cells.length → vs.length = cvs.length → (∀ (j : Nat) v, vs[j]? = some v → VR w g v (cvs.getD j undef)) → vs.all V.one = true →
    ∃ w', (Go.storeCells ⟨c, base + o, none⟩ cvs i).run P w = .ok () w' ∧ Rel g (m.set b (.row (vsetL cells (o + i) vs) ty ag sz ep)) w' ∧ g.to w g w' := by
  intro vs
  induction vs with
  | nil =>
    intro cvs m w cells i h b ty ag sz ep c base o hm hb _ hl _ _
    obtain rfl : cvs = [] := List.eq_nil_of_length_eq_zero (by simpa using hl.symm)
    refine ⟨w, by simp [Go.storeCells], ?_, G.to.refl _ _⟩
    rw [vsetL, show m.set b (.row cells ty ag sz ep) = m by
      apply List.ext_getElem?; intro j
      by_cases hj : b = j
      · subst hj; rw [List.getElem?_set_self (List.getElem?_eq_some_iff.1 hm).1, hm]
      · rw [List.getElem?_set_ne hj]]
    exact h
  | cons v vs ih =>
    intro cvs m w cells i h b ty ag sz ep c base o hm hb hle hl hv hone
    cases cvs with
    | nil => simp at hl
    | cons cv cvs =>
      simp only [List.length_cons] at hle hl
      simp only [List.all_cons, Bool.and_eq_true] at hone
      have hv0 : VR w g v cv := hv 0 v rfl
      obtain ⟨h1, h2⟩ := h.store hm hb (j := o + i) (by omega) hv0
      obtain ⟨_, _, c', base', cs, k3, k4, k5, k6, k7⟩ := h.objs b _ _ hm hb
      obtain ⟨rfl, rfl⟩ : c = c' ∧ base = base' := by simpa using hb.symm.trans k3
      have hlt : b < m.length := (List.getElem?_eq_some_iff.1 hm).1
      obtain ⟨w', r1, r2, r3⟩ := ih cvs _ _ (cells.set (o + i) v) (i + 1) h1 (o := o) (base := base) (c := c) (by rw [List.getElem?_set_self hlt]) hb (by simp; omega) (by omega) (fun j u hu => (hv (j + 1) u hu).mono h2.tole) hone.2
      refine ⟨w', ?_, ?_, h2.trans r3⟩
      · simp only [Go.storeCells, Sem.run_bind, Addr.add_none]
        have hcell := cell_of_heap k4 (o := base + o + i) (by omega)
        have hst : (Go.store ⟨c, base + o + i, none⟩ cv).run P w = .ok () (w.setCell ⟨c, base + (o + i), none⟩ cv) := by
          have hone' := hv0.oneCell hone.1
          rw [← Nat.add_assoc]
          unfold Go.store
          cases cv <;> first | (exact absurd rfl (hone' _).1) | (exact absurd rfl (hone' _).2) | (simp [Sem.run, hcell, frozen_of_heap k4])
        rw [hst]
        exact r1
      · rw [List.set_set] at r2
        rw [vsetL, show o + i + 1 = o + (i + 1) by omega]
        exact r2

end
end Go.VC

/- Operations on memory, continued: what each comes to. -/
namespace Go.VC
open Go Go.RowKit

def vzeros (z : V) (n : Nat) : List V := (List.replicate n z.cells).flatten

def tby (P : Program) (t : TypeId) : Option Nat := (P.info? t).map (·.bytes)

/-- The operations on memory but for append, maps and calls: the value, the memory, what is owed. -/
def mop (E : Env) (m : XM) (ev : Operand → V) : Op → Option (V × XM × Prop)
  | .load t a => match ev a with
    | .pref cs => (vload E.P t cs).map fun (v, p) => (v, m, p)
    | .ptr b e o => match m[b]? with
      | some (.row cells _ _ _ ep) => (vload E.P t (cells.drop o)).map fun (v, p) => (v, m, ep = e ∧ p)
      | _ => none
    | _ => none
  | .store t a x => match ev a with
    | .ptr b e o => match m[b]? with
      | some (.row cells ty ag sz ep) => (tsz E.P t).map fun s => (.und, m.set b (.row (vfill cells o (ev x).cells) ty ag sz ep), ep = e ∧ (ev x).ok = true ∧ (ev x).cells.length = s ∧ o + s ≤ cells.length ∧ (ev x).cells.all V.one = true)
      | _ => none
    | _ => none
  | .alloc t => (tzero E.P t).bind fun z => (tag E.P t).bind fun ag => (tsz E.P t).map fun s => (.ptr m.length 1 0, m ++ [.row z.cells t ag s 1], z.ok = true)
  | .box t x => (tag E.P t).bind fun ag => (tsz E.P t).map fun s => (.ptr m.length 1 0, m ++ [.row (ev x).cells t ag s 1], (ev x).ok = true)
  | .buildSlice t len parts => match E.P.underlying t with
    | some (.slice el) => (tsz E.P el).bind fun s => (tzero E.P el).bind fun z => (tag E.P el).bind fun ag => if len = 0 then (match parts.toList with | [] => some (.nsl, m, True) | _ => none) else
        (vbuild (fun i => some (i * s, s)) (vzeros z len) (parts.toList.map fun (i, x) => (i, ev x))).map fun (r, p) =>
          (.sl m.length 1 0 len (some len), m ++ [.row r el ag s 1], (s ≠ 0 ∧ z.ok = true ∧ z.cells.length = s ∧ len * s ≤ 16777216) ∧ p)
    | _ => none
  | .makeSlice t l c => match E.P.underlying t, ev l, ev c with
    | some (.slice el), .int _ n, .int _ k => (tsz E.P el).bind fun s => (tzero E.P el).bind fun z => (tag E.P el).bind fun ag => (tby E.P el).map fun (by_ : Nat) =>
        (.sl m.length 1 0 n.toNat (some k.toNat), m ++ [.row (vzeros z k.toNat) el ag s 1], 0 ≤ n ∧ n ≤ k ∧ k ≤ 1073741824 ∧ (by_ : Int) * k ≤ 281474976710656 ∧ z.ok = true ∧ z.cells.length = s ∧ s ≠ 0)
    | _, _, _ => none
  | .makeMap _ none => some (.map m.length, m ++ [.map [] 0], True)
  | .indexAddr t x i => match E.P.underlying t, ev x, ev i with
    | some (.slice el), .sl b e off len _, .int _ i => match m[b]?, tsz E.P el with
      | some (.row _ _ _ _ ep), some s => some (.ptr b e (off + i.toNat * s), m, ep = e ∧ 0 ≤ i ∧ i.toNat < len)
      | _, _ => none
    | _, _, _ => none
  | .slice t x lo hi mx => match E.P.underlying t, ev x with
    | some (.slice el), .sl b e off len cap => match m[b]?, tsz E.P el, vsl3 len (cap.getD 0) cap.isSome (lo.map ev) (hi.map ev) (mx.map ev) with
      | some (.row _ _ _ sz ep), some s, some ((a, b', c'), p) => some (if c' = some a then .nsl else .sl b e (off + a * s) (b' - a) (c'.map (· - a)), m, (ep = e ∧ sz = s) ∧ p)
      | _, _, _ => none
    | _, _ => none
  | _ => none

section
variable {E : Env} {g : G} {m : XM} {w : World} {P : Program} {ev : Operand → V} {ρ : Operand → Value}

/-- What an operation does: a value, or nothing. -/
def Does (E : Env) (ρ : Operand → Value) (op : Op) (w : World) (cv : Value) (w' : World) : Prop :=
  ∀ (dst : Option Tmp) ty pos after guard, (execOp ρ ⟨dst, op, ty, pos, after, guard⟩).run E.P w = .ok (.value cv) w' ∨ ((execOp ρ ⟨dst, op, ty, pos, after, guard⟩).run E.P w = .ok .skip w' ∧ cv = undef)

theorem Makes.does {op : Op} {cv : Value} (h : Makes E ρ op w cv) : Does E ρ op w cv w := fun d t p a g => .inl (h d t p a g)

/-- The step that an operation makes, in a world that is as the memory says. -/
def OStep (E : Env) (m : XM) (ev : Operand → V) (op : Op) (v : V) (m' : XM) : Prop :=
  ∀ {g : G} {w : World} {ρ : Operand → Value}, Rel g m w → (∀ x, VR w g (ev x) (ρ x)) →
    ∃ cv w' g', Does E ρ op w cv w' ∧ Rel g' m' w' ∧ g.to w g' w' ∧ VR w' g' v cv

theorem Rel.β_out (h : Rel g m w) {b : Nat} (hb : m.length ≤ b) : g.β b = none := by
  cases hc : g.β b with
  | none => rfl
  | some c => have := h.dom _ c hc; omega

theorem Rel.more (h : Rel g m w) (o : XObj) (ho : o.ep = 0) : Rel g (m ++ [o]) w ∧ g.β m.length = none := by
  have hn : g.β m.length = none := h.β_out (Nat.le_refl _)
  refine ⟨⟨fun b o' c hb hc => ?_, fun b c hc => by have := h.dom b c hc; simp; omega, fun b hb => h.fresh b (by simp at hb; omega), fun b o' hb hp => ?_, h.own, h.inj, h.imm, fun b o' hb => ?_⟩, hn⟩
  · have := h.dom b c hc
    rw [List.getElem?_append_left this] at hb
    exact h.objs b o' c hb hc
  · by_cases hl : b < m.length
    · rw [List.getElem?_append_left hl] at hb; exact h.eps b o' hb hp
    · have hlt := (List.getElem?_eq_some_iff.1 hb).1
      simp only [List.length_append, List.length_singleton] at hlt
      obtain rfl : b = m.length := by omega
      rw [List.getElem?_append_right (Nat.le_refl _)] at hb
      simp at hb
      subst hb
      rw [ho]; exact h.fresh _ (Nat.le_refl _)
  · obtain ⟨a1, a2, a3⟩ := h.pend b o' hb
    exact ⟨by rw [List.getElem?_append_left (List.getElem?_eq_some_iff.1 a1).1]; exact a1, a2, a3⟩

/-- A block more that is pending. -/
def G.wait (g : G) (b : Nat) (o : XObj) : G := { g with pd := fun i => if i = b then some o else g.pd i }

theorem Rel.moreP (h : Rel g m w) (o : XObj) (ho : 0 < o.ep) : Rel (g.wait m.length o) (m ++ [o]) w := by
  have hn : g.β m.length = none := h.β_out (Nat.le_refl _)
  have hle : g.np.to w (g.wait m.length o).np w := G.to.refl _ _
  refine ⟨fun b o' c hb hc => ?_, fun b c hc => by have := h.dom b c hc; simp; omega, fun b hb => h.fresh b (by simp at hb; omega), fun b o' hb hp => ?_, h.own, h.inj, h.imm, fun b o' hb => ?_⟩
  · have hc : g.β b = some c := hc
    have := h.dom b c hc
    rw [List.getElem?_append_left this] at hb
    exact (h.objs b o' c hb hc).mono hle hc rfl fun _ _ => rfl
  · by_cases hl : b < m.length
    · rw [List.getElem?_append_left hl] at hb
      have hne : b ≠ m.length := by omega
      simp only [G.wait, if_neg hne] at hp
      exact h.eps b o' hb hp
    · have hlt := (List.getElem?_eq_some_iff.1 hb).1
      simp only [List.length_append, List.length_singleton] at hlt
      obtain rfl : b = m.length := by omega
      simp [G.wait] at hp
  · by_cases hbm : b = m.length
    · subst hbm
      obtain rfl : o = o' := by simpa [G.wait] using hb
      have h0 := h.fresh _ (Nat.le_refl _)
      exact ⟨by simp, by show g.ep _ < _; omega, hn⟩
    · simp only [G.wait, if_neg hbm] at hb
      obtain ⟨a1, a2, a3⟩ := h.pend b o' hb
      exact ⟨by rw [List.getElem?_append_left (List.getElem?_eq_some_iff.1 a1).1]; exact a1, a2, a3⟩

/-- A new row, at the memory's end. -/
theorem Rel.newRow (h : Rel g m w) {cells : List V} {ty : TypeId} {ag : Bool} {sz : Nat} {cs : Array Value} (hc : CR w g cells cs) :
    ∃ g', Rel g' (m ++ [.row cells ty ag sz 1]) (w.alloc (.cells cs ty)) ∧ g.to w g' (w.alloc (.cells cs ty)) ∧ g'.β m.length = some (w.heap.size, 0) ∧ g'.ext m.length = cs.size ∧ g'.sz m.length = sz ∧ g'.ep m.length = 1 := by
  have hp := h.pd_out (b := m.length) (Nat.le_refl _)
  have h0 := h.fresh _ (Nat.le_refl m.length)
  have h1 := h.moreP (.row cells ty ag sz 1) (by simp [XObj.ep])
  have hle0 : (g.np).to w (g.wait m.length (.row cells ty ag sz 1)).np w := G.to.refl _ _
  obtain ⟨h2, h3⟩ := h1.row (h.β_out (Nat.le_refl _)) (b := m.length) (cells := cells) (ty := ty) (ag := ag) (sz := sz) (ep := 1) (by simp) (by show g.ep _ ≤ 1; omega) (cs := cs) (Nat.le_of_eq hc.1.symm) (fun j v hv => (hc.2 j v hv).mono hle0.tole.of_np)
  refine ⟨_, h2, h3.of_np (g := g) ?_, by simp [G.put], by simp [G.put], by simp [G.put], by simp [G.put]⟩
  funext i
  by_cases hi : i = m.length
  · subst hi; simp [G.put, hp]
  · simp [G.put, G.wait, hi]

/-- An operation that makes the block b, in whatever world. -/
def AStep (E : Env) (ev : Operand → V) (op : Op) (b : Nat) (v : V) (o : XObj) : Prop :=
  o.ep = 1 ∧ ∀ {g : G} {w : World} {ρ : Operand → Value}, (∀ x, VR w g (ev x) (ρ x)) → ∃ cv c ext sz, Does E ρ op w cv (w.alloc c) ∧
    ∀ g' : G, g'.β b = some (w.heap.size, 0) → g'.ext b = ext → g'.sz b = sz → g'.ep b = 1 → g.le w g' (w.alloc c) → ObjR g' (w.alloc c) b o ∧ VR (w.alloc c) g' v cv

/-- A block that is pending is laid. -/
theorem AStep.lay {op : Op} {b : Nat} {v : V} {o : XObj} (h : AStep E ev op b v o) (hr : Rel g m w) (hp : g.pd b = some o) (hev : ∀ x, VR w g (ev x) (ρ x)) :
    ∃ cv w' g', Does E ρ op w cv w' ∧ Rel g' m w' ∧ g.np.to w g'.np w' ∧ VR w' g' v cv ∧ g'.pd = fun i => if i = b then none else g.pd i := by
  obtain ⟨ho, h⟩ := h
  obtain ⟨cv, c, ext, sz, h1, h2⟩ := h hev
  obtain ⟨a1, a2, a3⟩ := hr.pend b o hp
  have hle := G.put_tp hr a3 0 ext sz o.ep (Nat.le_of_lt a2) c
  obtain ⟨h3, h4⟩ := h2 (g.put b (w.heap.size, 0) ext sz o.ep) (by simp [G.put]) (by simp [G.put]) (by simp [G.put]) (by simp [G.put, ho]) hle.tole.of_np
  exact ⟨cv, _, _, h1, hr.lay a3 a1 (Nat.le_of_lt a2) c ext sz h3, hle, h4, rfl⟩

/-- It makes a new one. -/
theorem AStep.step {op : Op} {v : V} {o : XObj} (h : AStep E ev op m.length v o) : OStep E m ev op v (m ++ [o]) := by
  intro g w ρ hr hev
  have hp := hr.pd_out (b := m.length) (Nat.le_refl _)
  have h1 := hr.moreP o (by rw [h.1]; exact Nat.one_pos)
  have hle0 : (g.np).to w (g.wait m.length o).np w := G.to.refl _ _
  obtain ⟨cv, w', g', k1, k2, k3, k4, k5⟩ := h.lay h1 (by simp [G.wait]) (fun x => (hev x).mono hle0.tole.of_np)
  refine ⟨cv, w', g', k1, k2, (hle0.trans k3).of_np ?_, k4⟩
  rw [k5]
  funext i
  by_cases hi : i = m.length
  · subst hi; simp [hp]
  · simp [G.wait, hi]

theorem AStep.row {op : Op} {b : Nat} {v : V} {cells : List V} {ty : TypeId} {ag : Bool} {sz : Nat}
    (h : ∀ {g : G} {w : World} {ρ : Operand → Value}, (∀ x, VR w g (ev x) (ρ x)) → ∃ cv cs, Does E ρ op w cv (w.alloc (.cells cs ty)) ∧ CR w g cells cs ∧
      ∀ g' w', g'.β b = some (w.heap.size, 0) → g'.ext b = cs.size → g'.sz b = sz → g'.ep b = 1 → VR w' g' v cv) : AStep E ev op b v (.row cells ty ag sz 1) :=
  ⟨rfl, fun hev => by
    rename_i g w ρ
    obtain ⟨cv, cs, h1, h2, h3⟩ := h hev
    refine ⟨cv, .cells cs ty, cs.size, sz, h1, fun g' k1 k2 k3 k4 hle => ⟨⟨k4, k3, _, 0, cs, k1, heap_alloc_same _ _, k2.symm, by rw [Nat.zero_add]; exact Nat.le_of_eq h2.1.symm, fun j u hu => ?_⟩, h3 g' _ k1 k2 k3 k4⟩⟩
    rw [Nat.zero_add]; exact (h2.2 j u hu).mono hle⟩

theorem run_newVar (t : TypeId) (v : Value) : (newVar t v).run P w = .ok ⟨w.heap.size, 0, none⟩ (w.alloc (.cells v.cells t)) := by
  simp [newVar, Go.newRow]

theorem amop_alloc {t : TypeId} {v : V} {m' : XM} {p : Prop} (h : mop E m ev (.alloc t) = some (v, m', p)) (hp : p) : ∃ o, m' = m ++ [o] ∧ AStep E ev (.alloc t) m.length v o := by
  simp only [mop] at h
  obtain ⟨z, hz, h⟩ := Option.bind_eq_some_iff.1 h
  obtain ⟨ag, hag, h⟩ := Option.bind_eq_some_iff.1 h
  obtain ⟨s, hs, h⟩ := Option.map_eq_some_iff.1 h
  simp only [Prod.mk.injEq] at h
  obtain ⟨rfl, rfl, rfl⟩ := h
  refine ⟨_, rfl, AStep.row fun hev => ?_⟩
  rename_i g w ρ
  obtain ⟨cz, hrz, hvz⟩ := run_zero (P := E.P) hz w
  exact ⟨_, _, fun _ _ _ _ _ => .inl (by simp [execOp, Instr.alloc, hrz, run_newVar]), (hvz g).cells_rel (V.ok_ne hp), fun g' w' k1 k2 k3 k4 => .ptr _ _ _ _ (Nat.le_of_eq k4.symm) fun _ => ⟨_, _, k1, rfl⟩⟩

theorem mop_alloc {t : TypeId} {v : V} {m' : XM} {p : Prop} (h : mop E m ev (.alloc t) = some (v, m', p)) (hp : p) : OStep E m ev (.alloc t) v m' := by
  obtain ⟨o, rfl, h2⟩ := amop_alloc h hp
  exact fun {_ _ _} => h2.step

theorem amop_box {t : TypeId} {x : Operand} {v : V} {m' : XM} {p : Prop} (h : mop E m ev (.box t x) = some (v, m', p)) (hp : p) : ∃ o, m' = m ++ [o] ∧ AStep E ev (.box t x) m.length v o := by
  simp only [mop] at h
  obtain ⟨ag, hag, h⟩ := Option.bind_eq_some_iff.1 h
  obtain ⟨s, hs, h⟩ := Option.map_eq_some_iff.1 h
  simp only [Prod.mk.injEq] at h
  obtain ⟨rfl, rfl, rfl⟩ := h
  refine ⟨_, rfl, AStep.row fun hev => ?_⟩
  exact ⟨_, _, fun _ _ _ _ _ => .inl (by simp [execOp, Instr.box, run_newVar]), (hev x).cells_rel (V.ok_ne hp), fun g' w' k1 k2 k3 k4 => .ptr _ _ _ _ (Nat.le_of_eq k4.symm) fun _ => ⟨_, _, k1, rfl⟩⟩

theorem mop_box {t : TypeId} {x : Operand} {v : V} {m' : XM} {p : Prop} (h : mop E m ev (.box t x) = some (v, m', p)) (hp : p) : OStep E m ev (.box t x) v m' := by
  obtain ⟨o, rfl, h2⟩ := amop_box h hp
  exact fun {_ _ _} => h2.step

theorem mop_load {t : TypeId} {a : Operand} {v : V} {m' : XM} {p : Prop} (h : mop E m ev (.load t a) = some (v, m', p)) (hp : p) : OStep E m ev (.load t a) v m' := by
  intro g w ρ hr hev
  have ha := hev a
  simp only [mop] at h
  split at h <;> first | (cases h; done) | skip
  · rename_i cs hx
    obtain ⟨⟨v', p'⟩, hl, h⟩ := Option.map_eq_some_iff.1 h
    simp only [Prod.mk.injEq] at h
    obtain ⟨rfl, rfl, rfl⟩ := h
    rw [hx] at ha
    generalize hca : ρ a = ca at ha
    cases ha with
    | pref _ blk off val hI hw hv =>
      obtain ⟨cv, r1, r2⟩ := run_loadVar (P := E.P) (g := g) hl hp blk off val hw (fun j c hc => (hv j c hc).mono (G.le.of_pure g w))
      exact ⟨cv, w, g, fun _ _ _ _ _ => .inl (by simp [execOp, Instr.loadAt, Instr.sureAddr, hca, r1]), hr, G.to.refl _ _, r2⟩
  · rename_i b e o hx
    split at h <;> first | (cases h; done) | skip
    rename_i cells ty ag sz ep hm
    obtain ⟨⟨v', p'⟩, hl, h⟩ := Option.map_eq_some_iff.1 h
    simp only [Prod.mk.injEq] at h
    obtain ⟨rfl, rfl, rfl⟩ := h
    obtain ⟨rfl, hp'⟩ := hp
    rw [hx] at ha
    obtain ⟨c, base, cs, hca, hb, h4, h5, h6, h7⟩ := hr.ptr hm ha
    have hlen : ∀ (j : Nat) c', (cells.drop o)[j]? = some c' → o + j < cells.length := fun j c' hc => by
      rw [List.getElem?_drop] at hc
      exact (List.getElem?_eq_some_iff.1 hc).1
    obtain ⟨cv, r1, r2⟩ := run_loadVar (P := E.P) (g := g) hl hp' c (base + o) (fun j => cs.getD (base + o + j) undef) (fun j c' hc => cell_of_heap h4 (by have := hlen j c' hc; omega)) (fun j c' hc => by
      have := hlen j c' hc
      rw [List.getElem?_drop] at hc
      rw [Nat.add_assoc]; exact h7 _ _ hc)
    exact ⟨cv, w, g, fun _ _ _ _ _ => .inl (by simp [execOp, Instr.loadAt, Instr.sureAddr, hca, r1]), hr, G.to.refl _ _, r2⟩

theorem mop_store {t : TypeId} {a x : Operand} {v : V} {m' : XM} {p : Prop} (h : mop E m ev (.store t a x) = some (v, m', p)) (hp : p) : OStep E m ev (.store t a x) v m' := by
  intro g w ρ hr hev
  have ha := hev a
  simp only [mop] at h
  split at h <;> first | (cases h; done) | skip
  rename_i b e o hx
  split at h <;> first | (cases h; done) | skip
  rename_i cells ty ag sz ep hm
  obtain ⟨s, hs, h⟩ := Option.map_eq_some_iff.1 h
  simp only [Prod.mk.injEq] at h
  obtain ⟨rfl, rfl, rfl⟩ := h
  obtain ⟨rfl, hok, hlen, hle, hone⟩ := hp
  rw [hx] at ha
  obtain ⟨c, base, cs, hca, hb, h4, h5, h6, h7⟩ := hr.ptr hm ha
  have hcr := (hev x).cells_rel (V.ok_ne hok)
  have hcl : (ρ x).cells.toList.length = (ev x).cells.length := by simpa using hcr.1
  obtain ⟨w', r1, r2, r3⟩ := Rel.storeCells (P := E.P) (ev x).cells (ρ x).cells.toList m w cells 0 hr (o := o) hm hb (by omega) hcl.symm (fun j u hu => by
    have := hcr.2 j u hu
    simpa [Array.getD_eq_getD_getElem?, List.getD_eq_getElem?_getD] using this) hone
  refine ⟨undef, w', g, fun _ _ _ _ _ => .inr ⟨?_, rfl⟩, ?_, r3, .und _⟩
  · have hsz : (ρ x).cells.size = s := hcr.1.trans hlen
    simp [execOp, Instr.storeAt, storeVar, Instr.sureAddr, hca, run_sizeOf hs, hsz, r1]
  · rw [Nat.add_zero, vsetL_eq _ _ _ (by omega)] at r2
    exact r2

end
end Go.VC

/- Operations on memory, continued: slices made, indexed and cut. -/
namespace Go.VC
open Go Go.RowKit
section
variable {E : Env} {g : G} {m : XM} {w : World} {P : Program} {ev : Operand → V} {ρ : Operand → Value}

theorem flatten_replicate (l : List V) (hs : l.length ≠ 0) : ∀ (n i : Nat), (List.replicate n l).flatten[i]? = if i < n * l.length then l[i % l.length]? else none := by
  intro n
  induction n with
  | zero => intro i; simp
  | succ n ih =>
    intro i
    rw [List.replicate_succ, List.flatten_cons]
    by_cases h : i < l.length
    · rw [List.getElem?_append_left h, if_pos (by rw [Nat.succ_mul]; omega), Nat.mod_eq_of_lt h]
    · rw [List.getElem?_append_right (by omega), ih]
      have e : i = (i - l.length) + l.length := by omega
      rw [Nat.succ_mul]
      by_cases h2 : i - l.length < n * l.length
      · rw [if_pos h2, if_pos (by omega)]
        conv => rhs; rw [e, Nat.add_mod_right]
      · rw [if_neg h2, if_neg (by omega)]

theorem vzeros_length (z : V) (n : Nat) : (vzeros z n).length = n * z.cells.length := by
  simp [vzeros, List.length_flatten]

theorem CR.zeros {z : V} {cz : Value} (h : CR w g z.cells cz.cells) (hs : z.cells.length ≠ 0) (n : Nat) :
    CR w g (vzeros z n) ((Array.range (n * z.cells.length)).map fun i => cz.cells[i % cz.cells.size]!) := by
  refine ⟨by simp [vzeros_length], fun i c hc => ?_⟩
  rw [vzeros, flatten_replicate _ hs] at hc
  split at hc
  · rename_i hi
    have := h.2 _ c hc
    have hsz : cz.cells.size = z.cells.length := h.1
    have hm : i % z.cells.length < z.cells.length := Nat.mod_lt _ (by omega)
    simp only [Array.getD_eq_getD_getElem?, Array.getElem?_map, Array.getElem?_range, if_pos hi, Option.map_some, Option.getD_some, hsz]
    rw [getElem!_pos cz.cells (i % z.cells.length) (by omega)]
    simpa [Array.getD_eq_getD_getElem?, Array.getElem?_eq_getElem (show i % z.cells.length < cz.cells.size by omega)] using this
  · cases hc

theorem zero_ite {k : Nat} (hs : k ≠ 0) {cz : Value} {t : TypeId} (hz : (zeroValue t).run P w = .ok cz w) :
    ((if k = 0 then pure #[] else do pure (← zeroValue t).cells : Sem (Array Value))).run P w = .ok cz.cells w := by
  rw [if_neg hs]; simp [hz]

theorem amop_buildSlice {t : TypeId} {len : Nat} {parts : Array (Nat × Operand)} {v : V} {m' : XM} {p : Prop} (h : mop E m ev (.buildSlice t len parts) = some (v, m', p)) (hp : p) (hlen : len ≠ 0) : ∃ o, m' = m ++ [o] ∧ AStep E ev (.buildSlice t len parts) m.length v o := by
  simp only [mop] at h
  split at h <;> first | (cases h; done) | skip
  rename_i el hu
  obtain ⟨s, hs, h⟩ := Option.bind_eq_some_iff.1 h
  obtain ⟨z, hz, h⟩ := Option.bind_eq_some_iff.1 h
  obtain ⟨ag, hag, h⟩ := Option.bind_eq_some_iff.1 h
  rw [if_neg hlen] at h
  obtain ⟨⟨r, p'⟩, hb, h⟩ := Option.map_eq_some_iff.1 h
  simp only [Prod.mk.injEq] at h
  obtain ⟨rfl, rfl, rfl⟩ := h
  obtain ⟨⟨hs0, hok, hzs, hbig⟩, hp'⟩ := hp
  refine ⟨_, rfl, AStep.row fun hev => ?_⟩
  rename_i g w ρ
  obtain ⟨cz, hrz, hvz⟩ := run_zero (P := E.P) hz w
  have hcz := (hvz g).cells_rel (V.ok_ne hok)
  obtain ⟨b, hf, hcb⟩ := vbuild_sound (w := w) (g := g) (ρ := ρ) parts.toList _ _ r p' hb hp' hev (hcz.zeros (by omega) len)
  have hmap : (parts.map fun (i, x) => (i, ρ x)).toList = parts.toList.map fun (i, x) => (i, ρ x) := by simp
  have hne : len * s ≠ 0 := Nat.mul_ne_zero hlen hs0
  have hrl : r.length = len * s := by
    have e1 : b.size = ((Array.range (len * z.cells.length)).map fun i => cz.cells[i % cz.cells.size]!).size := by
      clear hcb hmap
      revert hf
      generalize ((Array.range (len * z.cells.length)).map fun i => cz.cells[i % cz.cells.size]!) = a0
      generalize (parts.toList.map fun (x : Nat × Operand) => (x.1, ρ x.2)) = ps
      induction ps generalizing a0 with
      | nil => intro hf; simp [Instr.fill] at hf; rw [hf]
      | cons q ps ih =>
        obtain ⟨i, q⟩ := q
        intro hf
        simp only [Instr.fill] at hf
        split at hf
        · cases hf
        · rw [ih _ hf]
          rw [← Array.foldl_toList, Array.toList_zipIdx]
          exact (fold_set _ 0 a0 _).1
    have e2 := hcb.1
    rw [e1] at e2
    simp at e2
    rw [← e2, hzs]
  refine ⟨_, b, fun _ _ _ _ _ => .inl ?_, hcb, fun g' w' k1 k2 k3 k4 => .sl _ _ _ _ _ _ len (Nat.le_of_eq k4.symm) (Nat.le_refl _) (fun c hc => by simpa using hc) fun _ => .inr ⟨_, _, k1, rfl, ?_⟩⟩
  · have : ¬ len * s > 2 ^ 24 := by omega
    simp only [execOp, Instr.buildSlice, Sem.run_bind, run_underlying hu, run_sizeOf hs, Result.andThen_ok, if_neg this, Sem.run_pure]
    rw [if_neg hne]
    rw [hzs] at hf
    simp only [Sem.run_bind, hrz, Result.andThen_ok, Sem.run_pure, hmap]
    simp [hf, Go.newRow]
  · rw [k2, k3, hcb.1, hrl]; omega

theorem mop_buildSlice {t : TypeId} {len : Nat} {parts : Array (Nat × Operand)} {v : V} {m' : XM} {p : Prop} (h : mop E m ev (.buildSlice t len parts) = some (v, m', p)) (hp : p) : OStep E m ev (.buildSlice t len parts) v m' := by
  intro g w ρ hr hev
  by_cases hlen : len = 0
  · simp only [mop] at h
    split at h <;> first | (cases h; done) | skip
    rename_i el hu
    obtain ⟨s, hs, h⟩ := Option.bind_eq_some_iff.1 h
    obtain ⟨z, hz, h⟩ := Option.bind_eq_some_iff.1 h
    obtain ⟨ag, hag, h⟩ := Option.bind_eq_some_iff.1 h
    rw [if_pos hlen] at h
    split at h <;> first | (cases h; done) | skip
    rename_i hpl
    simp only [Option.some.injEq, Prod.mk.injEq] at h
    obtain ⟨rfl, rfl, rfl⟩ := h
    obtain rfl : parts = #[] := by simpa using hpl
    subst hlen
    have hg := hr.grow (w' := w.alloc (.cells #[] el)) ((Below.refl _ w).alloc (Nat.le_refl _) _)
    exact ⟨.slice (some ⟨w.heap.size, 0, none⟩) 0 0, w.alloc (.cells #[] el), _, fun _ _ _ _ _ => .inl (by simp [execOp, Instr.buildSlice, run_underlying hu, run_sizeOf hs, Instr.fill, Go.newRow, show Array.range 0 = #[] from rfl]), hg.1, hg.2, .nsl _⟩
  · obtain ⟨o, rfl, h2⟩ := amop_buildSlice h hp hlen
    exact h2.step hr hev

theorem amop_makeMap {t : TypeId} {r : Option Operand} {v : V} {m' : XM} {p : Prop} (h : mop E m ev (.makeMap t r) = some (v, m', p)) : ∃ o, m' = m ++ [o] ∧ AStep E ev (.makeMap t r) m.length v o := by
  cases r with
  | some x => simp [mop] at h
  | none =>
    simp only [mop, Option.some.injEq, Prod.mk.injEq] at h
    obtain ⟨rfl, rfl, rfl⟩ := h
    exact ⟨_, rfl, rfl, fun hev => ⟨_, .map #[] 0, 0, 0, fun _ _ _ _ _ => .inl (by simp [execOp, Instr.makeMap]), fun g' k1 k2 k3 k4 hle => ⟨⟨k4, _, #[], k1, heap_alloc_same _ _, rfl, fun j k v n hj => by simp at hj⟩, .map _ _ (Nat.le_of_eq k4.symm) fun _ => k1⟩⟩⟩

theorem mop_makeMap {t : TypeId} {r : Option Operand} {v : V} {m' : XM} {p : Prop} (h : mop E m ev (.makeMap t r) = some (v, m', p)) : OStep E m ev (.makeMap t r) v m' := by
  obtain ⟨o, rfl, h2⟩ := amop_makeMap h
  exact fun {_ _ _} => h2.step

theorem Rel.slEp (h : Rel g m w) {b e off len : Nat} {cap : Option Nat} {cells : List V} {ty : TypeId} {ag : Bool} {sz : Nat} (hm : m[b]? = some (.row cells ty ag sz e)) {cv : Value} (hv : VR w g (.sl b e off len cap) cv) : g.ep b = e := by
  cases hv with
  | sl _ _ _ _ _ a cap' he hl hcap hh => exact (h.np_of hm he).2

theorem Rel.sl (h : Rel g m w) {b e off len : Nat} {cap : Option Nat} {cells : List V} {ty : TypeId} {ag : Bool} {sz : Nat} (hm : m[b]? = some (.row cells ty ag sz e)) {cv : Value} (hv : VR w g (.sl b e off len cap) cv) :
    ∃ a cap', cv = .slice a len cap' ∧ len ≤ cap' ∧ (∀ c, cap = some c → cap' = c) ∧ (cap' = 0 ∨ ∃ c base, g.β b = some (c, base) ∧ a = some ⟨c, base + off, none⟩ ∧ base + off + cap' * g.sz b ≤ g.ext b) := by
  cases hv with
  | sl _ _ _ _ _ a cap' he hl hcap hh => exact ⟨a, cap', rfl, hl, hcap, hh (h.np_of hm he).2⟩

theorem mop_indexAddr {t : TypeId} {x ix : Operand} {v : V} {m' : XM} {p : Prop} (h : mop E m ev (.indexAddr t x ix) = some (v, m', p)) (hp : p) : OStep E m ev (.indexAddr t x ix) v m' := by
  intro g w ρ hr hev
  have hx := hev x
  have hi := hev ix
  simp only [mop] at h
  split at h <;> first | (cases h; done) | skip
  rename_i el b e off len cap k i hu h1 h2
  split at h <;> first | (cases h; done) | skip
  rename_i cells ty ag sz ep s hm hs
  simp only [Option.some.injEq, Prod.mk.injEq] at h
  obtain ⟨rfl, rfl, rfl⟩ := h
  obtain ⟨rfl, h0, hlt⟩ := hp
  rw [h1] at hx; rw [h2] at hi
  generalize hci : ρ ix = ci at hi
  cases hi
  have hep := hr.slEp hm hx
  obtain ⟨a, cap', hcx, hlc, _, hd⟩ := hr.sl hm hx
  rcases hd with hd | ⟨c, base, hb, rfl, hext⟩
  · omega
  have : (0 : Int) ≤ i ∧ i < (len : Int) := by omega
  exact ⟨_, w, g, fun _ _ _ _ _ => .inl (by simp [execOp, Instr.indexAt, hcx, hci, asIntOf, run_underlying hu, this, run_sizeOf hs, Addr.add_none]; rfl), hr, G.to.refl _ _,
    .ptr _ _ _ _ (Nat.le_of_eq hep.symm) fun _ => ⟨c, base, hb, by rw [Nat.add_assoc]⟩⟩

theorem mop_slice {t : TypeId} {x : Operand} {lo hi mx : Option Operand} {v : V} {m' : XM} {p : Prop} (h : mop E m ev (.slice t x lo hi mx) = some (v, m', p)) (hp : p) : OStep E m ev (.slice t x lo hi mx) v m' := by
  intro g w ρ hr hev
  have hx := hev x
  have op : ∀ (o : Option Operand), (∀ v, o.map ev = some v → ∃ cv, o.map ρ = some cv ∧ VR w g v cv) ∧ (o.map ev = none → o.map ρ = none) := fun o => by
    cases o with
    | none => simp
    | some y => exact ⟨fun v hv => ⟨ρ y, rfl, by simp at hv; subst hv; exact hev y⟩, fun h => by simp at h⟩
  simp only [mop] at h
  split at h <;> first | (cases h; done) | skip
  rename_i el b e off len cap hu h1
  split at h <;> first | (cases h; done) | skip
  rename_i cells ty ag sz ep s a b' c' p' hm hs h3
  simp only [Option.some.injEq, Prod.mk.injEq] at h
  obtain ⟨rfl, rfl, rfl⟩ := h
  obtain ⟨⟨rfl, rfl⟩, hp⟩ := hp
  rw [h1] at hx
  have hep := hr.slEp hm hx
  obtain ⟨ad, cap', hcx, hlc, hcap, hd⟩ := hr.sl hm hx
  obtain ⟨mm, hrun, hab, hb, hbm, hmc, hcc⟩ := vsl3_sound (E := E) (w := w) (g := g) (isS := true) (cap' := cap') h3 hp hlc (fun hsome => by
    cases cap with
    | none => cases hsome
    | some c => exact hcap c rfl) (op lo).1 (op hi).1 (op mx).1 (op lo).2 (op hi).2 (op mx).2
  refine ⟨.slice (if mm = a then ad else ad.map (·.add (a * sz))) (b' - a) (mm - a), w, g, fun _ _ _ _ _ => .inl (by simp [execOp, Instr.sliceAt, Instr.slice, hcx, run_underlying hu, hrun, run_sizeOf hs]), hr, G.to.refl _ _, ?_⟩
  by_cases hca : c' = some a
  · obtain rfl : mm = a := hcc _ hca
    obtain rfl : b' = mm := by omega
    rw [if_pos hca, Nat.sub_self]
    exact .nsl _
  rw [if_neg hca]
  refine .sl _ _ _ _ _ _ _ (Nat.le_of_eq hep.symm) (by omega) (fun c hc => ?_) fun _ => ?_
  · obtain ⟨c2, h4, rfl⟩ := Option.map_eq_some_iff.1 hc
    rw [hcc c2 h4]
  · by_cases hma : mm = a
    · exact .inl (by omega)
    · rcases hd with hd | ⟨c, base, hb2, rfl, hext⟩
      · exact .inl (by omega)
      · refine .inr ⟨c, base, hb2, by simp [hma, Addr.add_none, Nat.add_assoc], ?_⟩
        obtain ⟨_, hsz, _⟩ := hr.objs b _ _ hm hb2
        rw [hsz] at hext ⊢
        have : a * sz + (mm - a) * sz ≤ cap' * sz := by rw [← Nat.add_mul]; exact Nat.mul_le_mul_right _ (by omega)
        omega

end
end Go.VC

/- append; make. -/
namespace Go.VC
open Go Go.RowKit

/-- The elements of a slice: how many, their cells, what is owed. -/
def vcells (m : XM) (s : Nat) : V → Option (Nat × List V × Prop)
  | .psl rows => some (rows.length, (rows.map V.cells).flatten, RowSz s rows ∧ ∀ r ∈ rows, r.cells.all V.one = true)
  | .nsl => some (0, [], True)
  | .sl b e off len _ => match m[b]? with
    | some (.row cells _ _ sz ep) => some (len, (cells.drop off).take (len * s), ep = e ∧ sz = s ∧ off + len * s ≤ cells.length ∧ ((cells.drop off).take (len * s)).all V.one = true)
    | _ => none
  | _ => none

def mappend (E : Env) (m : XM) (ev : Operand → V) (a y : Operand) (t t2 : TypeId) : Option (V × XM × Prop) :=
  match E.P.underlying t, E.P.underlying t2 with
  | some (.slice el), some (.slice _) => (tsz E.P el).bind fun s => (tby E.P el).bind fun by_ => (tag E.P el).bind fun ag => (tzero E.P el).bind fun z => (vcells m s (ev y)).bind fun (k, ys, p) => match ev a with
    | .nsl => some (.sl m.length 0 0 k none, m ++ [.row ys el ag s 0], ((z.ok = true ∧ z.cells.length = s) ∧ s ≠ 0 ∧ k ≤ 1073741824 ∧ k * by_ ≤ 140737488355328) ∧ p)
    | .sl b e off len _ => match m[b]? with
      | some (.row cells ty ag' sz ep) => some (.sl b (e + 1) 0 (len + k) none, m.set b (.row ((cells.drop off).take (len * s) ++ ys) ty ag' sz (e + 1)),
          ((z.ok = true ∧ z.cells.length = s) ∧ s ≠ 0 ∧ ep = e ∧ sz = s ∧ ty = el ∧ off + len * s ≤ cells.length ∧ len + k ≤ 1073741824 ∧ (len + k) * by_ ≤ 140737488355328) ∧ p)
      | _ => none
    | _ => none
  | _, _ => none

section
variable {E : Env} {g : G} {m : XM} {w : World} {P : Program} {ev : Operand → V} {ρ : Operand → Value}

/-- The first cells of a slice, in whatever world has these cells. -/
def Reads (P : Program) (w : World) (s n : Nat) (cv : Value) (arr : Array Value) : Prop :=
  ∀ w' : World, (∀ a, w'.cell? a = w.cell? a) → (Builtin.firstCells s n cv).run P w' = .ok arr w'

theorem reads_some {s n blk off len cap : Nat} {arr : Array Value} (hl : arr.size = n * s) (h : ∀ j, j < n * s → w.cell? ⟨blk, off + j, none⟩ = some (arr.getD j undef)) :
    Reads P w s n (.slice (some ⟨blk, off, none⟩) len cap) arr := by
  intro w' hw
  have := run_firstCells_some (P := P) w' s n ⟨blk, off, none⟩ len cap arr.toList (by simpa using hl) (fun j v hj => by
    have hlt := (List.getElem?_eq_some_iff.1 hj).1
    rw [Addr.add_none, hw, h j (by simpa [hl] using hlt)]
    simp only [Array.getD_eq_getD_getElem?, ← Array.getElem?_toList, hj, Option.getD_some])
  simpa using this

theorem reads_zero {s len cap : Nat} {a : Option Addr} : Reads P w s 0 (.slice a len cap) #[] := by
  intro w' _
  cases a <;> simp [Builtin.firstCells, loadCells, loadCellsFrom]

theorem flatten_rows {s : Nat} (hs : s ≠ 0) : ∀ (rows : List V), RowSz s rows → ∀ j, ((rows.map V.cells).flatten)[j]? = (rows[j / s]?).bind fun r => r.cells[j % s]? := by
  intro rows
  induction rows with
  | nil => intro _ j; simp
  | cons r rows ih =>
    intro h j
    have hr : r.cells.length = s := h r (by simp)
    simp only [List.map_cons, List.flatten_cons]
    by_cases hj : j < s
    · rw [List.getElem?_append_left (by omega), Nat.div_eq_of_lt hj, Nat.mod_eq_of_lt hj]; simp
    · rw [List.getElem?_append_right (by omega), hr, ih (fun r hr => h r (by simp [hr]))]
      have e : j = (j - s) + s := by omega
      conv => rhs; rw [e, Nat.add_div_right _ (by omega), Nat.add_mod_right]
      simp

theorem flatten_length {s : Nat} : ∀ (rows : List V), RowSz s rows → ((rows.map V.cells).flatten).length = rows.length * s := by
  intro rows
  induction rows with
  | nil => intro _; simp
  | cons r rows ih =>
    intro h
    have hr : r.cells.length = s := h r (by simp)
    simp only [List.map_cons, List.flatten_cons, List.length_append, List.length_cons, hr, ih (fun r hr => h r (by simp [hr])), Nat.succ_mul]
    omega

theorem vcells_sound {s k : Nat} {ys : List V} {p : Prop} (hs : s ≠ 0) {v : V} {cv : Value} (h : vcells m s v = some (k, ys, p)) (hp : p) (hr : Rel g m w) (hv : VR w g v cv) :
    ∃ a c arr, cv = .slice a k c ∧ k ≤ c ∧ Reads P w s k cv arr ∧ CR w g ys arr ∧ arr.size = k * s ∧ ys.all V.one = true := by
  cases v <;> simp only [vcells, reduceCtorEq] at h
  case psl rows =>
    simp only [Option.some.injEq, Prod.mk.injEq] at h
    obtain ⟨rfl, rfl, rfl⟩ := h
    obtain ⟨hsz, hone⟩ := hp
    have hall : ((rows.map V.cells).flatten).all V.one = true := by
      simp only [List.all_eq_true, List.mem_flatten, List.mem_map] at hone ⊢
      rintro x ⟨l, ⟨r, hr, rfl⟩, hx⟩
      exact hone r hr x hx
    cases hv with
    | pnil a => exact ⟨a, 0, #[], rfl, Nat.le_refl _, reads_zero, ⟨rfl, fun i c hc => by simp at hc⟩, by simp, hall⟩
    | psl _ n sz blk off cap val hn hss hc hI hw hv =>
      subst hn
      by_cases hr0 : rows = []
      · subst hr0
        exact ⟨_, _, #[], rfl, hc, reads_zero, ⟨rfl, fun i c hc => by simp at hc⟩, by simp, hall⟩
      obtain ⟨r, hrm⟩ := List.exists_mem_of_ne_nil _ hr0
      obtain rfl : sz = s := (hss _ hrm).symm.trans (hsz _ hrm)
      have hlen := flatten_length rows hsz
      refine ⟨_, _, ((List.range (rows.length * sz)).map fun j => val (j / sz) (j % sz)).toArray, rfl, hc, reads_some (by simp) fun j hj => ?_, ⟨by simp [hlen], fun j c hc => ?_⟩, by simp, hall⟩
      · have hq : j / sz < rows.length := (Nat.div_lt_iff_lt_mul (by omega)).2 hj
        have hm : j % sz < (rows[j / sz]).cells.length := by rw [hsz _ (List.getElem_mem hq)]; exact Nat.mod_lt _ (by omega)
        have := hw (j / sz) _ (j % sz) _ (List.getElem?_eq_getElem hq) (List.getElem?_eq_getElem hm)
        rw [show off + j = off + j / sz * sz + j % sz by rw [Nat.add_assoc, Nat.div_add_mod']]
        rw [this]
        simp [Array.getD_eq_getD_getElem?, hj]
      · rw [flatten_rows hs rows hsz] at hc
        obtain ⟨r', h1, h2⟩ := Option.bind_eq_some_iff.1 hc
        have hj : j < rows.length * sz := (Nat.div_lt_iff_lt_mul (by omega)).1 (List.getElem?_eq_some_iff.1 h1).1
        have := (hv _ _ _ _ h1 h2).mono (G.le.of_pure g w)
        simpa [Array.getD_eq_getD_getElem?, hj] using this
  case nsl =>
    simp only [Option.some.injEq, Prod.mk.injEq] at h
    obtain ⟨rfl, rfl, rfl⟩ := h
    cases hv
    exact ⟨_, 0, #[], rfl, Nat.le_refl _, reads_zero, ⟨rfl, fun i c hc => by simp at hc⟩, by simp, rfl⟩
  case sl b e off len cap =>
    split at h <;> first | (cases h; done) | skip
    rename_i cells ty ag sz ep hm
    simp only [Option.some.injEq, Prod.mk.injEq] at h
    obtain ⟨rfl, rfl, rfl⟩ := h
    obtain ⟨rfl, rfl, hfit, hone⟩ := hp
    obtain ⟨a, cap', rfl, hlc, _, hd⟩ := hr.sl hm hv
    rcases hd with hd | ⟨c, base, hb, rfl, hext⟩
    · obtain rfl : len = 0 := by omega
      exact ⟨a, cap', #[], rfl, hlc, reads_zero, ⟨by simp, fun i c hc => by simp at hc⟩, by simp, hone⟩
    obtain ⟨_, hsz, c', base', cs, h3, h4, h5, h6, h7⟩ := hr.objs b _ _ hm hb
    obtain ⟨rfl, rfl⟩ : c = c' ∧ base = base' := by simpa using hb.symm.trans h3
    have hl2 : ((cells.drop off).take (len * sz)).length = len * sz := by simp; omega
    refine ⟨_, cap', ((List.range (len * sz)).map fun j => cs.getD (base + off + j) undef).toArray, rfl, hlc, reads_some (by simp) fun j hj => ?_, ⟨by simp; omega, fun j v hj => ?_⟩, by simp, hone⟩
    · rw [cell_of_heap h4 (by omega)]
      simp [Array.getD_eq_getD_getElem?, hj]
    · have hlt := (List.getElem?_eq_some_iff.1 hj).1
      rw [List.getElem?_take, if_pos (by omega), List.getElem?_drop] at hj
      have := h7 _ _ hj
      rw [hl2] at hlt
      rw [← Nat.add_assoc] at this
      simpa [Array.getD_eq_getD_getElem?, hlt] using this

/-- append, where there is no room. -/
theorem run_append_more {t t2 ty el : TypeId} {i : TypeInfo} {z : Value} {d2 : TypeId} (ht : P.underlying t = some (.slice el)) (ht2 : P.underlying t2 = some (.slice d2)) (hi : P.info? el = some i) (hz : i.zero = some z)
    {b a : Option Addr} {len cap n c : Nat} {olds news : Array Value} (ho : Reads P w i.size len (.slice b len cap) olds) (hn : Reads P w i.size n (.slice a n c) news)
    (hg : cap < len + n) (h63 : len + n ≤ 1073741824) (hfit : Builtin.nextslicecap (len + n) cap * i.bytes ≤ 281474976710656) :
    (Builtin.append_ #[t, t2] ty #[.slice b len cap, .slice a n c]).run P w =
      .ok (.slice (some ⟨w.heap.size, 0, none⟩) (len + n) (grownCap w (len + n) cap el)) (w.drew.alloc (.cells (olds ++ news ++ Builtin.zeroCells z.cells (grownCap w (len + n) cap el - (len + n))) el)) := by
  have hn1 : ¬ (len + n ≤ cap) := by omega
  have h63' : ¬ (9223372036854775807 < ((len : Int) + (n : Int))) := by omega
  have h48' : ¬ (281474976710656 < Builtin.nextslicecap (len + n) cap * i.bytes) := by omega
  have h1 := ho w.drew (by simp)
  have h2 := hn w.drew (by simp)
  simp [Builtin.append_, run_underlying ht, run_underlying ht2, sizeOf, typeInfo, zeroValue, hi, hz, Builtin.lenOf, hn1, h63', h48', Question.forced, h1, h2, Go.newRow, grownCap]

end
end Go.VC

/- append, continued: the block that is appended to. -/
namespace Go.VC
open Go Go.RowKit
section
variable {E : Env} {g : G} {m : XM} {w : World} {P : Program} {ev : Operand → V} {ρ : Operand → Value}

/-- The block b is laid anew: a later epoch, another place or the same. -/
def G.anew (g : G) (b : Nat) (e : Nat) (c : Option (Nat × Nat)) (ext sz : Nat) : G :=
  { g with β := fun i => if i = b then c else g.β i, ep := fun i => if i = b then e else g.ep i, ext := fun i => if i = b then ext else g.ext i, sz := fun i => if i = b then sz else g.sz i }

theorem Rel.anew (h : Rel g m w) {b e sz : Nat} {o : XObj} (hm : m[b]? = some o) (hnp : g.pd b = none) (he : o.ep < e) {cells : List V} {ty : TypeId} {ag : Bool} {cl : Option (Nat × Nat)} {ext : Nat} {w' : World}
    (hos : w'.os = w.os) (htape : w'.tape = w.tape) (hout : w'.output = w.output) (hsize : w.heap.size ≤ w'.heap.size)
    (hoth : ∀ k, k < w.heap.size → (∀ c, cl = some c → k ≠ c.1) → w'.heap[k]? = w.heap[k]?)
    (hloc : ∀ c, cl = some c → (w.heap.size ≤ c.1 ∨ ∃ c0, g.β b = some c0 ∧ c0.1 = c.1) ∧ c.1 < w'.heap.size ∧
      ∃ cs, w'.heap[c.1]? = some (.cells cs ty (0, 0)) ∧ cs.size = ext ∧ c.2 + cells.length ≤ cs.size ∧ ∀ (j : Nat) v, cells[j]? = some v → VR w g v (cs.getD (c.2 + j) undef)) :
    Rel (g.anew b e cl ext sz) (m.set b (.row cells ty ag sz e)) w' ∧ g.to w (g.anew b e cl ext sz) w' := by
  have hep := h.eps b _ hm hnp
  have hlt : b < m.length := (List.getElem?_eq_some_iff.1 hm).1
  have hfix : ∀ blk o, g.I blk o → w'.heap[blk]? = w.heap[blk]? := fun blk o hi => by
    obtain ⟨a2, a3⟩ := h.imm blk o hi
    refine hoth blk a2 fun c hc e => ?_
    rcases (hloc c hc).1 with h1 | ⟨c0, h1, h2⟩
    · omega
    · exact a3 b c0 h1 (by omega)
  have hle : g.to w (g.anew b e cl ext sz) w' := by
    refine ⟨⟨fun _ _ h => h, hfix, fun i => ?_, fun i c hi hc => ?_⟩, ⟨rfl, rfl⟩, ⟨hos, htape, hout⟩, hsize, fun k hk ho => hoth k hk fun c hc e => ?_, fun i c hc => ?_, fun _ _ h => .inl h⟩
    · by_cases hib : i = b
      · subst hib; simp [G.anew]; omega
      · simp [G.anew, hib]
    · by_cases hib : i = b
      · subst hib; simp [G.anew] at hi; omega
      · simp [G.anew, hib, hc]
    · rcases (hloc c hc).1 with h1 | ⟨c0, h1, h2⟩
      · omega
      · exact ho b c0 h1 (by omega)
    · by_cases hib : i = b
      · have hcl : cl = some c := by simpa [G.anew, hib] using hc
        rcases (hloc c hcl).1 with h1 | ⟨c0, h1, h2⟩
        · exact .inl h1
        · exact .inr ⟨b, c0, h1, h2⟩
      · exact .inr ⟨i, c, by simpa [G.anew, hib] using hc, rfl⟩
  refine ⟨⟨fun i o' c hi hc => ?_, fun i c hc => ?_, fun i hi => ?_, fun i o' hi hpi => ?_, fun i c hc => ?_, fun i j c1 c2 h1 h2 e12 => ?_, fun blk k hi => ?_, fun i o' hi => ?_⟩, hle⟩
  · by_cases hib : i = b
    · subst hib
      obtain rfl : XObj.row cells ty ag sz e = o' := by simpa [hlt] using hi
      have hcl : cl = some c := by simpa [G.anew] using hc
      obtain ⟨_, _, cs, k1, k2, k3, k4⟩ := hloc c hcl
      exact ⟨by simp [G.anew], by simp [G.anew], c.1, c.2, cs, by simp [G.anew, hcl], k1, by simp [G.anew, k2], k3, fun j v hj => (k4 j v hj).mono hle.tole⟩
    · rw [List.getElem?_set_ne (by omega)] at hi
      have hc0 : g.β i = some c := by simpa [G.anew, hib] using hc
      refine (h.objs i o' c hi hc0).mono hle.np hc0 (by simp [G.anew, hib]) fun c2 h2 => hoth _ (h.own i c2 h2) fun c3 h3 e => ?_
      rcases (hloc c3 h3).1 with h4 | ⟨c0, h4, h5⟩
      · have := h.own i c2 h2; omega
      · exact hib (h.inj i b c2 c0 h2 h4 (by omega))
  · by_cases hib : i = b
    · subst hib; simpa using hlt
    · simpa using h.dom i c (by simpa [G.anew, hib] using hc)
  · have hib : i ≠ b := by rintro rfl; simp at hi; omega
    simp only [G.anew, if_neg hib]; exact h.fresh i (by simpa using hi)
  · by_cases hib : i = b
    · subst hib
      obtain rfl : XObj.row cells ty ag sz e = o' := by simpa [hlt] using hi
      simp [G.anew, XObj.ep]
    · rw [List.getElem?_set_ne (by omega)] at hi
      simp only [G.anew, if_neg hib]; exact h.eps i _ hi hpi
  · by_cases hib : i = b
    · have hcl : cl = some c := by simpa [G.anew, hib] using hc
      exact (hloc c hcl).2.1
    · have := h.own i c (by simpa [G.anew, hib] using hc); omega
  · by_cases hib : i = b <;> by_cases hjb : j = b
    · rw [hib, hjb]
    · have hcl : cl = some c1 := by simpa [G.anew, hib] using h1
      have h2' : g.β j = some c2 := by simpa [G.anew, hjb] using h2
      rcases (hloc c1 hcl).1 with k1 | ⟨c0, k1, k3⟩
      · have := h.own j c2 h2'; omega
      · exact absurd (h.inj j b c2 c0 h2' k1 (by omega)) hjb
    · have hcl : cl = some c2 := by simpa [G.anew, hjb] using h2
      have h1' : g.β i = some c1 := by simpa [G.anew, hib] using h1
      rcases (hloc c2 hcl).1 with k1 | ⟨c0, k1, k3⟩
      · have := h.own i c1 h1'; omega
      · exact absurd (h.inj i b c1 c0 h1' k1 (by omega)) hib
    · exact h.inj i j c1 c2 (by simpa [G.anew, hib] using h1) (by simpa [G.anew, hjb] using h2) e12
  · obtain ⟨a2, a3⟩ := h.imm blk k hi
    refine ⟨by omega, fun i c hc => ?_⟩
    by_cases hib : i = b
    · have hcl : cl = some c := by simpa [G.anew, hib] using hc
      rcases (hloc c hcl).1 with k1 | ⟨c0, k1, k3⟩
      · omega
      · have := a3 b c0 k1; omega
    · exact a3 i c (by simpa [G.anew, hib] using hc)
  · have hi2 : g.pd i = some o' := hi
    have hib : i ≠ b := by rintro rfl; rw [hnp] at hi2; cases hi2
    obtain ⟨a1, a2, a3⟩ := h.pend i o' hi2
    simp only [G.anew, if_neg hib]
    exact ⟨by rw [List.getElem?_set_ne (by omega)]; exact a1, a2, a3⟩

theorem CR.append {xs ys : List V} {a b : Array Value} (h : CR w g xs a) (k : CR w g ys b) : CR w g (xs ++ ys) (a ++ b) := by
  refine ⟨by simp [h.1, k.1], fun i c hc => ?_⟩
  by_cases hi : i < xs.length
  · rw [List.getElem?_append_left hi] at hc
    have := h.2 i c hc
    rw [Array.getD_eq_getD_getElem?, Array.getElem?_append_left (by rw [h.1]; exact hi)]
    rwa [Array.getD_eq_getD_getElem?] at this
  · rw [List.getElem?_append_right (by omega)] at hc
    have := k.2 _ c hc
    rw [Array.getD_eq_getD_getElem?, Array.getElem?_append_right (by rw [h.1]; omega), h.1]
    rwa [Array.getD_eq_getD_getElem?] at this

theorem CR.more {xs : List V} {a b : Array Value} (h : CR w g xs a) : ∀ (j : Nat) v, xs[j]? = some v → VR w g v ((a ++ b).getD (0 + j) undef) := by
  intro j v hj
  have hlt := (List.getElem?_eq_some_iff.1 hj).1
  have := h.2 j v hj
  rw [Nat.zero_add, Array.getD_eq_getD_getElem?, Array.getElem?_append_left (by rw [h.1]; exact hlt)]
  rwa [Array.getD_eq_getD_getElem?] at this

/-- append, where nothing is to be put. -/
theorem run_append_none {t t2 ty el : TypeId} {i : TypeInfo} {d2 : TypeId} (ht : P.underlying t = some (.slice el)) (ht2 : P.underlying t2 = some (.slice d2)) (hi : P.info? el = some i)
    {b a : Option Addr} {len cap c : Nat} (hl : len ≤ cap) :
    (Builtin.append_ #[t, t2] ty #[.slice b len cap, .slice a 0 c]).run P w = .ok (.slice b len cap) w := by
  have : (Builtin.firstCells i.size 0 (.slice a 0 c)).run P w = .ok #[] w := by cases a <;> simp [Builtin.firstCells, loadCells, loadCellsFrom]
  cases b <;> simp [Builtin.append_, run_underlying ht, run_underlying ht2, sizeOf, typeInfo, hi, Builtin.lenOf, hl, this, Go.storeCells]

/-- append, where there is room. -/
theorem run_append_room' {t t2 ty el : TypeId} {i : TypeInfo} {d2 : TypeId} (ht : P.underlying t = some (.slice el)) (ht2 : P.underlying t2 = some (.slice d2)) (hi : P.info? el = some i)
    {blk off len cap n c : Nat} {a : Option Addr} {news : Array Value} (hn : Reads P w i.size n (.slice a n c) news) (hg : len + n ≤ cap) (h1 : ∀ v ∈ news.toList, v.oneCell' = true)
    {cur : Array Value} {tb : TypeId} (hc : w.heap[blk]? = some (.cells cur tb (0, 0))) (hfit : off + len * i.size + news.size ≤ cur.size) :
    (Builtin.append_ #[t, t2] ty #[.slice (some ⟨blk, off, none⟩) len cap, .slice a n c]).run P w =
      .ok (.slice (some ⟨blk, off, none⟩) (len + n) cap) (w.setRow blk (cur.toList.take (off + len * i.size) ++ news.toList ++ cur.toList.drop (off + len * i.size + news.size)).toArray) := by
  have hst := run_storeCells_at P blk (off + len * i.size) tb news.toList 0 cur w hc (by simpa using hfit) h1
  simp only [Nat.add_zero, Array.length_toList] at hst
  simp [Builtin.append_, run_underlying ht, run_underlying ht2, sizeOf, typeInfo, hi, Builtin.lenOf, hg, hn w (fun _ => rfl), Addr.add_none, hst]

theorem oneCell'_of {v : V} {cv : Value} (h : VR w g v cv) (h1 : v.one = true) : cv.oneCell' = true := by
  cases h <;> first | rfl | (cases h1)

end
end Go.VC

/- append and make, as steps. -/
namespace Go.VC
open Go Go.RowKit
section
variable {E : Env} {g : G} {m : XM} {w : World} {P : Program} {ev : Operand → V} {ρ : Operand → Value}

theorem Rel.drewR (h : Rel g m w) : Rel g m w.drew ∧ g.to w g w.drew := by
  have hle : g.to w g w.drew := ⟨⟨fun _ _ h => h, fun _ _ _ => rfl, fun _ => Nat.le_refl _, fun _ _ _ h => ⟨h, rfl, rfl⟩⟩, ⟨rfl, rfl⟩, ⟨rfl, rfl, rfl⟩, Nat.le_refl _, fun _ _ _ => rfl, fun b c h => .inr ⟨b, c, h, rfl⟩, fun _ _ h => .inl h⟩
  exact ⟨⟨fun b o c hb hc => (h.objs b o c hb hc).mono hle.np hc rfl fun _ _ => rfl, h.dom, h.fresh, h.eps, h.own, h.inj, h.imm, h.pend⟩, hle⟩

theorem mappend_sound {a y : Operand} {t t2 : TypeId} {v : V} {m' : XM} {p : Prop} (h : mappend E m ev a y t t2 = some (v, m', p)) (hp : p) :
    OStep E m ev (.call { callee := .builtin .append, args := #[a, y], argTypes := #[t, t2] }) v m' := by
  intro g w ρ hr hev
  have ha := hev a
  have hy := hev y
  unfold mappend at h
  split at h <;> first | (cases h; done) | skip
  rename_i el d2 ht ht2
  obtain ⟨s, hs, h⟩ := Option.bind_eq_some_iff.1 h
  obtain ⟨by_, hby, h⟩ := Option.bind_eq_some_iff.1 h
  obtain ⟨ag, hag, h⟩ := Option.bind_eq_some_iff.1 h
  obtain ⟨z, hz, h⟩ := Option.bind_eq_some_iff.1 h
  obtain ⟨⟨k, ys, p'⟩, hvc, h⟩ := Option.bind_eq_some_iff.1 h
  obtain ⟨i, hi, rfl⟩ := Option.map_eq_some_iff.1 hs
  obtain ⟨i2, hi2, rfl⟩ := Option.map_eq_some_iff.1 hby
  obtain rfl : i = i2 := Option.some.inj (hi.symm.trans hi2)
  obtain ⟨cz, hcz, hzr⟩ : ∃ cz, i.zero = some cz ∧ z = ofC 6 cz := by
    obtain ⟨v, hv, hz0⟩ := Option.map_eq_some_iff.1 hz
    obtain ⟨i', hi', hz'⟩ := Option.bind_eq_some_iff.1 hv
    rw [hi] at hi'; cases hi'; exact ⟨v, hz', hz0.symm⟩
  have hzc : z.ok = true ∧ z.cells.length = i.size → cz.cells.size = i.size := fun hh => by
    have := (ofC_rel g w 6 cz).cells_rel (V.ok_ne (by rw [← hzr]; exact hh.1))
    rw [← hzr] at this
    exact this.1.trans hh.2
  have does : ∀ {cv w'} , (∀ ty, (Builtin.append_ #[t, t2] ty #[ρ a, ρ y]).run E.P w = .ok cv w') → Does E ρ (.call { callee := .builtin .append, args := #[a, y], argTypes := #[t, t2] }) w cv w' :=
    fun h _ ty _ _ _ => .inl (by simp [execOp, resolve, invoke, builtin, h ty])
  dsimp only at h
  split at h <;> first | (cases h; done) | skip
  · rename_i hxa
    simp only [Option.some.injEq, Prod.mk.injEq] at h
    obtain ⟨rfl, rfl, rfl⟩ := h
    obtain ⟨⟨hzz, hs0, hk, hkb⟩, hp'⟩ := hp
    have hzc := hzc hzz
    rw [hxa] at ha
    obtain ⟨ya, yc, arr, hcy, hkc, hrd, hcr, hsz, hone⟩ := vcells_sound (P := E.P) hs0 hvc hp' hr hy
    generalize hca : ρ a = ca at ha
    cases ha with
    | nsl ad =>
      obtain ⟨h1, hn⟩ := hr.more (.row ys el ag i.size 0) rfl
      have h00 := hr.fresh _ (Nat.le_refl m.length)
      have hp0 := hr.pd_out (b := m.length) (Nat.le_refl _)
      have hlt : (m ++ [XObj.row ys el ag i.size 0])[m.length]? = some (.row ys el ag i.size 0) := by simp
      by_cases hk0 : k = 0
      · subst hk0
        rw [hcy] at hrd
        refine ⟨.slice ad 0 0, w, g, does fun ty => by rw [hca, hcy]; exact run_append_none ht ht2 hi (Nat.le_refl _), h1, G.to.refl _ _, .sl _ _ _ _ _ _ _ (Nat.zero_le _) (Nat.le_refl _) (fun c hc => by cases hc) fun _ => .inl rfl⟩
      · rw [hcy] at hrd
        have hrun := run_append_more (ty := 0) ht ht2 hi hcz (b := ad) (cap := 0) (len := 0) reads_zero hrd (by omega) (by omega) (by rw [Nat.zero_add]; exact growslice_fits (by omega) hkb)
        simp only [Nat.zero_add, Array.empty_append] at hrun
        obtain ⟨h2, hle2⟩ := h1.drewR
        have hge := grownCap_ge w k 0 el
        obtain ⟨h3, h4⟩ := h2.row hn (cells := ys) (ty := el) (ag := ag) (sz := i.size) hlt (Nat.le_of_eq h00) (cs := arr ++ Builtin.zeroCells cz.cells (grownCap w k 0 el - k)) (by simp [hcr.1]) (fun j u hu => by
          have := CR.more (b := Builtin.zeroCells cz.cells (grownCap w k 0 el - k)) hcr j u hu
          rw [Nat.zero_add] at this
          exact this.mono hle2.tole)
        refine ⟨_, _, _, does fun ty => ?_, h3, hle2.trans (h4.of_np (G.put_pd _ hp0 _ _ _ _)), .sl _ _ _ _ _ _ (grownCap w k 0 el) (Nat.zero_le _) hge (fun c hc => by cases hc) fun _ => .inr ⟨w.heap.size, 0, by simp [G.put], rfl, ?_⟩⟩
        · rw [hca, hcy]
          have := run_append_more (ty := ty) ht ht2 hi hcz (b := ad) (cap := 0) (len := 0) reads_zero hrd (by omega) (by omega) (by rw [Nat.zero_add]; exact growslice_fits (by omega) hkb)
          simpa only [Nat.zero_add, Array.empty_append] using this
        · have hext : (arr ++ Builtin.zeroCells cz.cells (grownCap w k 0 el - k)).size = grownCap w k 0 el * i.size := by
            rw [Array.size_append, hsz, size_zeroCells, hzc, ← Nat.add_mul]; congr 1; omega
          simp only [G.put, if_true]
          rw [hext]; omega
  · rename_i b e off len cap hxa
    split at h <;> first | (cases h; done) | skip
    rename_i cells tyb ag' sz ep hm
    simp only [Option.some.injEq, Prod.mk.injEq] at h
    obtain ⟨rfl, rfl, rfl⟩ := h
    obtain ⟨⟨hzz, hs0, rfl, rfl, rfl, hfit, hk, hkb⟩, hp'⟩ := hp
    have hzc := hzc hzz
    rw [hxa] at ha
    obtain ⟨ya, yc, arr, hcy, hkc, hrd, hcr, hsz, hone⟩ := vcells_sound (P := E.P) hs0 hvc hp' hr hy
    have hnp : g.pd b = none := (hr.np_of hm (Nat.le_of_eq (hr.slEp hm ha).symm)).1
    obtain ⟨ax, cap', hca, hlc, _, hd⟩ := hr.sl hm ha
    rw [hcy] at hrd
    have holdl : ((cells.drop off).take (len * i.size)).length = len * i.size := by simp; omega
    by_cases hroom : len + k ≤ cap'
    · rcases hd with hd | ⟨c, base, hb, hax, hext⟩
      · -- nothing is there, and nothing is put
        obtain rfl : k = 0 := by omega
        obtain rfl : len = 0 := by omega
        have hys : ys = [] := List.eq_nil_of_length_eq_zero (by rw [← hcr.1, hsz]; simp)
        subst hys
        obtain ⟨h1, h2⟩ := hr.anew (e := ep + 1) (sz := i.size) (cells := ((cells.drop off).take (0 * i.size) ++ [])) (ty := tyb) (ag := ag') (cl := none) (ext := 0) hm hnp (by simp [XObj.ep]) (w' := w) rfl rfl rfl (Nat.le_refl _) (fun _ _ _ => rfl) (fun c hc => by cases hc)
        refine ⟨.slice ax 0 cap', w, _, does fun ty => by rw [hca, hcy]; exact run_append_none ht ht2 hi hlc, h1, h2, .sl _ _ _ _ _ _ _ (by simp [G.anew]) hlc (fun c hc => by cases hc) fun _ => .inl hd⟩
      · -- in place
        obtain ⟨_, hszb, c', base', cs, h3, h4, h5, h6, h7⟩ := hr.objs b _ _ hm hb
        obtain ⟨rfl, rfl⟩ : c = c' ∧ base = base' := by simpa using hb.symm.trans h3
        subst hax
        have hmul : len * i.size + k * i.size ≤ cap' * i.size := by rw [← Nat.add_mul]; exact Nat.mul_le_mul_right _ hroom
        rw [hszb] at hext
        have hone' : ∀ v ∈ arr.toList, v.oneCell' = true := fun v hv => by
          obtain ⟨j, hj, rfl⟩ := List.getElem_of_mem hv
          have hj2 : j < ys.length := by rw [← hcr.1]; simpa using hj
          have := hcr.2 j _ (List.getElem?_eq_getElem hj2)
          have h8 := oneCell'_of this (List.all_eq_true.1 hone _ (List.getElem_mem hj2))
          simpa [Array.getD_eq_getD_getElem?, Array.getElem?_eq_getElem (show j < arr.size by simpa using hj)] using h8
        have hrun := fun ty => run_append_room' (P := E.P) (ty := ty) ht ht2 hi (off := base + off) hrd hroom hone' h4 (by omega)
        generalize hnew : (cs.toList.take (base + off + len * i.size) ++ arr.toList ++ cs.toList.drop (base + off + len * i.size + arr.size)).toArray = cs' at hrun
        have hcsz : cs'.size = cs.size := by rw [← hnew]; simp; omega
        have hle0 : g.to w g w := G.to.refl _ _
        obtain ⟨h1, h2⟩ := hr.anew (e := ep + 1) (sz := i.size) (cells := ((cells.drop off).take (len * i.size) ++ ys)) (ty := tyb) (ag := ag') (cl := some (c, base + off)) (ext := cs.size) hm hnp (by simp [XObj.ep]) (w' := w.setRow c cs') rfl rfl rfl (by simp)
          (fun k2 _ hk2 => setRow_other w c k2 _ (by have := hk2 _ rfl; exact this)) (fun c2 hc2 => by
            cases hc2
            refine ⟨.inr ⟨_, hb, rfl⟩, by simpa using hr.own b _ hb, cs', setRow_heap w c cs _ _ _ h4, hcsz, by rw [List.length_append, holdl, ← hcr.1, hsz, hcsz]; omega, fun j u hu => ?_⟩
            by_cases hj : j < len * i.size
            · rw [List.getElem?_append_left (by omega), List.getElem?_take, if_pos hj, List.getElem?_drop] at hu
              have := h7 _ _ hu
              rw [← Nat.add_assoc] at this
              have e : cs'.getD (base + off + j) undef = cs.getD (base + off + j) undef := by
                rw [← hnew]
                simp only [Array.getD_eq_getD_getElem?, List.getElem?_toArray, List.append_assoc]
                rw [List.getElem?_append_left (by simp; omega), List.getElem?_take, if_pos (by omega)]
                simp
              rw [e]; exact this
            · rw [List.getElem?_append_right (by omega), holdl] at hu
              have hlt := (List.getElem?_eq_some_iff.1 hu).1
              have := hcr.2 _ _ hu
              have e : cs'.getD (base + off + j) undef = arr.getD (j - len * i.size) undef := by
                rw [← hnew]
                simp only [Array.getD_eq_getD_getElem?, List.getElem?_toArray, List.append_assoc]
                rw [List.getElem?_append_right (by simp; omega), List.getElem?_append_left (by simp; have := hcr.1; omega)]
                simp only [List.length_take, Array.length_toList, show min (base + off + len * i.size) cs.size = base + off + len * i.size by omega, show base + off + j - (base + off + len * i.size) = j - len * i.size by omega]
                simp
              rw [e]; exact this)
        refine ⟨_, _, _, does fun ty => by rw [hca, hcy]; exact hrun ty, h1, h2, .sl _ _ _ _ _ _ cap' (by simp [G.anew]) hroom (fun c hc => by cases hc) fun _ => .inr ⟨c, base + off, by simp [G.anew], rfl, ?_⟩⟩
        simp only [G.anew, if_true]
        omega
    · -- no room
      have holds : ∃ olds, Reads E.P w i.size len (.slice ax len cap') olds ∧ CR w g ((cells.drop off).take (len * i.size)) olds ∧ olds.size = len * i.size := by
        rcases hd with hd | ⟨c, base, hb, hax, hext⟩
        · obtain rfl : len = 0 := by omega
          exact ⟨#[], reads_zero, ⟨by simp, fun i c hc => by simp at hc⟩, by simp⟩
        · obtain ⟨_, hszb, c', base', cs, h3, h4, h5, h6, h7⟩ := hr.objs b _ _ hm hb
          obtain ⟨rfl, rfl⟩ : c = c' ∧ base = base' := by simpa using hb.symm.trans h3
          subst hax
          refine ⟨((List.range (len * i.size)).map fun j => cs.getD (base + off + j) undef).toArray, reads_some (by simp) fun j hj => ?_, ⟨by simp; omega, fun j v hj => ?_⟩, by simp⟩
          · rw [cell_of_heap h4 (by omega)]
            simp [Array.getD_eq_getD_getElem?, hj]
          · have hlt := (List.getElem?_eq_some_iff.1 hj).1
            rw [List.getElem?_take, if_pos (by omega), List.getElem?_drop] at hj
            have := h7 _ _ hj
            rw [holdl] at hlt
            rw [← Nat.add_assoc] at this
            simpa [Array.getD_eq_getD_getElem?, hlt] using this
      obtain ⟨olds, ho1, ho2, ho3⟩ := holds
      have hrun := fun ty => run_append_more (P := E.P) (ty := ty) ht ht2 hi hcz ho1 hrd (by omega) hk (growslice_fits (by omega) hkb)
      have hge := grownCap_ge w (len + k) cap' tyb
      have hall := ho2.append hcr
      generalize hnew : olds ++ arr ++ Builtin.zeroCells cz.cells (grownCap w (len + k) cap' tyb - (len + k)) = cs' at hrun
      have hcsz : cs'.size = grownCap w (len + k) cap' tyb * i.size := by
        rw [← hnew, Array.size_append, Array.size_append, ho3, hsz, size_zeroCells, hzc, ← Nat.add_mul, ← Nat.add_mul]; congr 1; omega
      obtain ⟨h1, h2⟩ := hr.anew (e := ep + 1) (sz := i.size) (cells := ((cells.drop off).take (len * i.size) ++ ys)) (ty := tyb) (ag := ag') (cl := some (w.heap.size, 0)) (ext := cs'.size) hm hnp (by simp [XObj.ep]) (w' := w.drew.alloc (.cells cs' tyb)) rfl rfl rfl (by simp)
        (fun k2 hk2 _ => Below.heap_alloc w.drew _ k2 hk2) (fun c2 hc2 => by
          cases hc2
          refine ⟨.inl (Nat.le_refl _), by simp, cs', heap_alloc_same w.drew _, rfl, ?_, fun j u hu => ?_⟩
          · have := hall.1
            rw [← hnew]; simp only [Array.size_append] at this ⊢; omega
          · rw [← hnew]; exact CR.more hall j u hu)
      refine ⟨_, _, _, does fun ty => by rw [hca, hcy]; exact hrun ty, h1, h2, .sl _ _ _ _ _ _ _ (by simp [G.anew]) hge (fun c hc => by cases hc) fun _ => .inr ⟨w.heap.size, 0, by simp [G.anew], rfl, ?_⟩⟩
      simp only [G.anew, if_true]
      rw [hcsz]; omega

end
end Go.VC

/- make; all operations but calls and maps. -/
namespace Go.VC
open Go Go.RowKit

def aop (E : Env) (m : XM) (ev : Operand → V) (op : Op) : Option (V × XM × Prop) :=
  match vop E ev op with
  | some (v, p) => some (v, m, p)
  | none => match op with
    | .call { callee := .builtin .append, args, argTypes } => match args.toList, argTypes.toList with
      | [a, y], [t, t2] => mappend E m ev a y t t2
      | _, _ => none
    | op => mop E m ev op

section
variable {E : Env} {g : G} {m : XM} {w : World} {P : Program} {ev : Operand → V} {ρ : Operand → Value}

theorem amop_makeSlice {t : TypeId} {l c : Operand} {v : V} {m' : XM} {p : Prop} (h : mop E m ev (.makeSlice t l c) = some (v, m', p)) (hp : p) : ∃ o, m' = m ++ [o] ∧ AStep E ev (.makeSlice t l c) m.length v o := by
  simp only [mop] at h
  split at h <;> first | (cases h; done) | skip
  rename_i el kl n kc k hu hl hc
  obtain ⟨s, hs, h⟩ := Option.bind_eq_some_iff.1 h
  obtain ⟨z, hz, h⟩ := Option.bind_eq_some_iff.1 h
  obtain ⟨ag, hag, h⟩ := Option.bind_eq_some_iff.1 h
  obtain ⟨by_, hby, h⟩ := Option.map_eq_some_iff.1 h
  simp only [Prod.mk.injEq] at h
  obtain ⟨rfl, rfl, rfl⟩ := h
  obtain ⟨h0, hnk, hk, hb, hok, hzs, hs0⟩ := hp
  refine ⟨_, rfl, AStep.row fun hev => ?_⟩
  rename_i g w ρ
  have h1 := hev l
  have h2 := hev c
  rw [hl] at h1; rw [hc] at h2
  generalize hcl : ρ l = cl at h1
  generalize hcc : ρ c = cc at h2
  cases h1; cases h2
  obtain ⟨cz, hrz, hvz⟩ := run_zero (P := E.P) hz w
  have hcz := (hvz g).cells_rel (V.ok_ne hok)
  have hcs := hcz.zeros (by omega) k.toNat
  obtain ⟨i, hi, rfl⟩ := Option.map_eq_some_iff.1 hby
  have e1 : IntKind.i64.wrap n = n := IntWalk.i64_in _ (by omega)
  have e2 : IntKind.i64.wrap k = k := IntWalk.i64_in _ (by omega)
  refine ⟨_, _, fun _ _ _ _ _ => .inl ?_, hcs, fun g' w' k1 k2 k3 k4 => .sl _ _ _ _ _ _ k.toNat (Nat.le_of_eq k4.symm) (by omega) (fun c hc => by simpa using hc) fun _ => .inr ⟨_, _, k1, rfl, ?_⟩⟩
  · have c1 : ¬ k < 0 := by omega
    have c2 : ¬ n < 0 := by omega
    have c3 : ¬ n > k := by omega
    have c4 : ¬ ((i.bytes : Int) * k > 2 ^ 48) := by omega
    have hask : ∀ b, (askRoom b).run E.P w = .ok () w := fun b => by unfold askRoom; split <;> rfl
    simp only [execOp, Instr.makeSlice, Sem.run_bind, run_underlying hu, Result.andThen_ok, hcl, hcc, asInt, asIntOf, Sem.run_pure, typeInfo, program, Sem.run, hi, e1, e2]
    have c1' : (decide (k < 0) || decide ((i.bytes : Int) * k > 2 ^ 48) || decide (n < 0) || decide (n > k)) = false := by simp; omega
    rw [if_neg (by simpa using c1')]
    simp only [Sem.run_bind, hask, Result.andThen_ok, run_sizeOf hs]
    by_cases hk0 : k.toNat * s = 0
    · rw [if_pos hk0]
      have hk1 : k.toNat = 0 := by rcases Nat.mul_eq_zero.1 hk0 with h | h <;> omega
      simp [hk1, Go.newRow, hzs, show Array.range 0 = #[] from rfl]
    · rw [if_neg hk0]
      simp [hrz, Go.newRow, hzs]
  · rw [k2, k3]; simp [hzs]

theorem mop_makeSlice {t : TypeId} {l c : Operand} {v : V} {m' : XM} {p : Prop} (h : mop E m ev (.makeSlice t l c) = some (v, m', p)) (hp : p) : OStep E m ev (.makeSlice t l c) v m' := by
  obtain ⟨o, rfl, h2⟩ := amop_makeSlice h hp
  exact fun {_ _ _} => h2.step

theorem mop_sound {op : Op} {v : V} {m' : XM} {p : Prop} (h : mop E m ev op = some (v, m', p)) (hp : p) : OStep E m ev op v m' := by
  cases op
  case load t a => exact mop_load h hp
  case store t a x => exact mop_store h hp
  case alloc t => exact mop_alloc h hp
  case box t x => exact mop_box h hp
  case buildSlice t l ps => exact mop_buildSlice h hp
  case makeSlice t l c => exact mop_makeSlice h hp
  case makeMap t r => exact mop_makeMap h
  case indexAddr t x i => exact mop_indexAddr h hp
  case slice t x lo hi mx => exact mop_slice h hp
  all_goals simp [mop] at h

theorem aop_sound {op : Op} {v : V} {m' : XM} {p : Prop} (h : aop E m ev op = some (v, m', p)) (hp : p) : OStep E m ev op v m' := by
  unfold aop at h
  split at h
  · rename_i v' p' hv
    simp only [Option.some.injEq, Prod.mk.injEq] at h
    obtain ⟨rfl, rfl, rfl⟩ := h
    intro g w ρ hr hev
    obtain ⟨cv, h1, h2⟩ := vop_sound (w := w) (g := g) hv hp hev
    exact ⟨cv, w, g, h1.does, hr, G.to.refl _ _, h2⟩
  · split at h
    · rename_i args tys _
      obtain ⟨args⟩ := args
      obtain ⟨tys⟩ := tys
      dsimp only at h
      split at h <;> first | (cases h; done) | skip
      exact mappend_sound h hp
    · exact mop_sound h hp

end
end Go.VC

