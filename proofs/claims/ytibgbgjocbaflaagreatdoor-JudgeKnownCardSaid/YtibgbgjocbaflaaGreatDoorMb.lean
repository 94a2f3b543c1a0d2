/- The abstract machine: operations and code as it reads them, and what it does. Nothing is proved here. -/
import Derived.Test.YtibgbgjocbaflaaGreatDoorMa
import Derived.Laws.StructEq
namespace Go.VC
open Go

structure XSt where
  t : List V
  m : XM
  df : List (Nat × List V)
  deriving Inhabited

/-- How a call ends: what it hands back, or a panic; the memory. -/
structure XR where
  out : Sum V V
  m : XM

abbrev XCall := Nat → XM → List V → Option XR
abbrev XYield := Nat → XM → List V → Option (Sum V V × XM)

/-- Functions of Go's package slices that are taken at their word: which, and the element's type. -/
inductive XLk where
  | clone | insert | delete | replace | grow
  deriving Inhabited, DecidableEq

structure XL where
  k : XLk
  el : Nat
  ag : Bool
  s : Nat
  by_ : Nat
  deriving Inhabited

/-- The data of a program that code needs. -/
structure XP where
  fn : Nat → Option XF
  lib : Nat → Option XL
  gl : Nat → Option (List V)

def xev (P : XP) (t : List V) : XO → V
  | .t i => t.getD i .und
  | .c v => v
  | .g n => match P.gl n with
    | some cs => .pref cs
    | none => .und

def xari (op : BinOp) : V → V → Option V
  | .int k a, .int k' b => match op with
    | .shl => if 0 ≤ b then some (.int k (k.wrap (a * 2 ^ (Nat.min b.toNat k.bits)))) else none
    | .shr => if 0 ≤ b then some (.int k (a.fdiv (2 ^ (Nat.min b.toNat k.bits)))) else none
    | op => if k = k' then (match op with
      | .add => some (.int k (k.wrap (a + b)))
      | .sub => some (.int k (k.wrap (a - b)))
      | .mul => some (.int k (k.wrap (a * b)))
      | .quo => if b = 0 then none else some (.int k (k.wrap (a.tdiv b)))
      | .rem => if b = 0 then none else some (.int k (a.tmod b))
      | .and => some (.int k (k.wrap (BitVec.ofInt k.bits a &&& BitVec.ofInt k.bits b).toNat))
      | .or => some (.int k (k.wrap (BitVec.ofInt k.bits a ||| BitVec.ofInt k.bits b).toNat))
      | .xor => some (.int k (k.wrap (BitVec.ofInt k.bits a ^^^ BitVec.ofInt k.bits b).toNat))
      | .andNot => some (.int k (k.wrap (BitVec.ofInt k.bits a &&& ~~~ BitVec.ofInt k.bits b).toNat))
      | .lss => some (.bool (decide (a < b)))
      | .leq => some (.bool (decide (a ≤ b)))
      | .gtr => some (.bool (decide (b < a)))
      | .geq => some (.bool (decide (b ≤ a)))
      | _ => none) else none
  | .str a, .str b => match op with
    | .add => if a.length + b.length ≤ 9223372036854775807 then some (.str (a ++ b)) else none
    | _ => none
  | _, _ => none

/-- Cells of given kinds. -/
def xsames : List Nat → List V → List V → Option Bool
  | [], [], [] => some true
  | 0 :: ks, .int k a :: as, .int k' b :: bs => if k = k' then (xsames ks as bs).map fun r => a == b && r else none
  | 1 :: ks, .bool a :: as, .bool b :: bs => (xsames ks as bs).map fun r => a == b && r
  | 2 :: ks, .str a :: as, .str b :: bs => (xsames ks as bs).map fun r => a == b && r
  | _, _, _ => none

def xeq : XK → V → V → Option Bool
  | .int, .int k a, .int k' b => if k = k' then some (a == b) else none
  | .str, .str a, .str b => some (a == b)
  | .bool, .bool a, .bool b => some (a == b)
  | .ptr, .nptr, .nptr => some true
  | .ptr, .pref _, .nptr => some false
  | .ptr, .ptr _ _ _, .nptr => some false
  | .map, .nmap, .nmap => some true
  | .map, .map _, .nmap => some false
  | .map, .pmap _ _, .nmap => some false
  | .fn, .nfn, .nfn => some true
  | .fn, .fn _ _ _, .nfn => some false
  | .ifc, .nifc, .nifc => some true
  | .ifc, .ifc _ _, .nifc => some false
  | .flat ks, .agg a, .agg b => xsames ks a b
  | _, _, _ => none

def xone : List V → Bool := fun l => l.all V.one

def xpart (ag : Bool) (s : Nat) (cs : List V) (off : Nat) : Option V :=
  if ag then some (.agg ((cs.drop off).take s)) else cs[off]?

def xload (ag : Bool) (s : Nat) (cs : List V) : Option V :=
  if ag then (if s ≤ cs.length then some (.agg (cs.take s)) else none) else cs.head?

def xfill (cells : List V) (off : Nat) (vs : List V) : List V := cells.take off ++ (vs ++ cells.drop (off + vs.length))

/-- Bounds of a slice expression: from, to, max. -/
def xbounds (len : Nat) (lo hi mx : Option V) : Option (Nat × Nat × Option Nat) :=
  let l : Option Int := match lo with | none => some 0 | some (.int _ i) => some i | _ => none
  let h : Option Int := match hi with | none => some len | some (.int _ i) => some i | _ => none
  match l, h with
  | some l, some h => if 0 ≤ l ∧ l ≤ h ∧ h ≤ len then (match mx with
      | none => some (l.toNat, h.toNat, none)
      | some (.int _ m) => if h ≤ m ∧ m ≤ len then some (l.toNat, h.toNat, some m.toNat) else none
      | _ => none) else none
  | _, _ => none

/-- The capacity behind a slice expression, from the slice's beginning. -/
def xcap (cap c : Option Nat) : Option Nat := match c with
  | some c => some c
  | none => cap

def xzeros (z : List V) : Nat → List V
  | 0 => []
  | n + 1 => z ++ xzeros z n

def xbuild : List V → List (Nat × Nat × V) → Option (List V)
  | cells, [] => some cells
  | cells, (off, s, v) :: rest => if v.ok && decide (v.cells.length = s) && decide (off + s ≤ cells.length) then xbuild (xfill cells off v.cells) rest else none

/-- The cells of a slice's elements, and how many elements there are. -/
def xcells (m : XM) (s : Nat) : V → Option (Nat × List V)
  | .psl rows => if rows.all fun r => decide (r.cells.length = s) && xone r.cells then some (rows.length, (rows.map V.cells).flatten) else none
  | .nsl => some (0, [])
  | .sl b e off len _ => match m[b]? with
    | some (.row cells _ _ sz ep) => if ep = e ∧ sz = s ∧ off + len * s ≤ cells.length then
        (let cs := (cells.drop off).take (len * s); if xone cs then some (len, cs) else none) else none
    | _ => none
  | _ => none

def xbytes : List V → Option (List UInt8)
  | [] => some []
  | .int .u8 n :: r => (xbytes r).map fun l => UInt8.ofNat n.toNat :: l
  | _ => none

/-- Where a key lies. -/
def xpkey (kk : XK) (k : V) : List V → List V → Option (Option V)
  | k' :: ks, v :: vs => match xeq kk k k' with
    | some true => match xpkey kk k ks vs with
      | some none => some (some v)
      | _ => none
    | some false => xpkey kk k ks vs
    | none => none
  | _, _ => some none

def xkey (kk : XK) (k : V) : List (V × V × Nat) → Nat → Option (Option (Nat × V × Nat))
  | [], _ => some none
  | (k', v, n) :: rest, i => match xeq kk k k' with
    | some true => some (some (i, v, n))
    | some false => xkey kk k rest (i + 1)
    | none => none

/-- May this key be looked up? -/
def xkok : XK → V → Bool
  | .flat ks, .agg cs => decide (cs.length = ks.length)
  | .flat _, _ => false
  | _, _ => true

/-- Kinds that a key may have. -/
def xkk : XK → Bool
  | .int | .bool | .str | .flat _ => true
  | _ => false

/-- The operations but for calls and their like. -/
def xop (m : XM) (ev : XO → V) : XOp → Option (V × XM)
  | .mv x => some (ev x, m)
  | .pick c a b => match ev c with
    | .bool c => some (if c then ev a else ev b, m)
    | _ => none
  | .ari op x y => (xari op (ev x) (ev y)).map fun v => (v, m)
  | .eq neg k x y => (xeq k (ev x) (ev y)).map fun b => (.bool (b != neg), m)
  | .not x => match ev x with
    | .bool b => some (.bool (!b), m)
    | _ => none
  | .neg x => match ev x with
    | .int k n => some (.int k (k.wrap (0 - n)), m)
    | _ => none
  | .xor x => match ev x with
    | .int k n => (xari .xor (.int k (if k.signed then -1 else k.max)) (.int k n)).map fun v => (v, m)
    | _ => none
  | .cvi k x => match ev x with
    | .int _ n => some (.int k (k.wrap n), m)
    | _ => none
  | .cvs x => match ev x with
    | .str s => some (.str s, m)
    | _ => none
  | .cvb x => match xcells m 1 (ev x) with
    | some (_, cs) => (xbytes cs).map fun l => (.str l, m)
    | none => none
  | .ifc t x => some (.ifc t (ev x), m)
  | .fnc f xs ys => some (.fn (.func f) (xs.map ev) (ys.map ev), m)
  | .ext x i => match ev x with
    | .tup vs => (vs[i]?).map fun v => (v, m)
    | _ => none
  | .fld ag s off x => match ev x with
    | .agg cs => (xpart ag s cs off).map fun v => (v, m)
    | _ => none
  | .fad off x => match ev x with
    | .pref cs => some (.pref (cs.drop off), m)
    | .ptr b e o => some (.ptr b e (o + off), m)
    | _ => none
  | .ias s x i => match ev x, ev i with
    | .psl rows, .int _ i => if 0 ≤ i then (match rows[i.toNat]? with
        | some r => if r.cells.length = s then some (.pref r.cells, m) else none
        | none => none) else none
    | .sl b e off len _, .int _ i => match m[b]? with
      | some (.row _ _ _ _ ep) => if ep = e ∧ 0 ≤ i ∧ i < len then some (.ptr b e (off + i.toNat * s), m) else none
      | _ => none
    | _, _ => none
  | .iaa n s x i => match ev x, ev i with
    | .pref cs, .int _ i => if 0 ≤ i ∧ i < n then some (.pref (cs.drop (i.toNat * s)), m) else none
    | .ptr b e o, .int _ i => if 0 ≤ i ∧ i < n then some (.ptr b e (o + i.toNat * s), m) else none
    | _, _ => none
  | .ixa n ag s x i => match ev x, ev i with
    | .agg cs, .int _ i => if 0 ≤ i ∧ i < n then (xpart ag s cs (i.toNat * s)).map fun v => (v, m) else none
    | _, _ => none
  | .ixs x i => match ev x, ev i with
    | .str l, .int _ i => if 0 ≤ i then (l[i.toNat]?).map fun c => (.int .u8 c.toNat, m) else none
    | _, _ => none
  | .sls x lo hi mx => match ev x with
    | .str l => match xbounds l.length (lo.map ev) (hi.map ev) (mx.map ev) with
      | some (a, b, none) => some (.str ((l.take b).drop a), m)
      | _ => none
    | _ => none
  | .sll s x lo hi mx => match ev x with
    | .psl rows => match xbounds rows.length (lo.map ev) (hi.map ev) (mx.map ev) with
      | some (a, b, c) => if c = some a then some (.nsl, m) else if (rows.headD .und).cells.length = s ∨ rows = [] then some (.psl ((rows.take b).drop a), m) else none
      | none => none
    | .nsl => match xbounds 0 (lo.map ev) (hi.map ev) (mx.map ev) with
      | some _ => some (.nsl, m)
      | none => none
    | .sl b e off len cap => match m[b]? with
      | some (.row _ _ _ sz ep) => if ep = e ∧ sz = s then (match xbounds len (lo.map ev) (hi.map ev) (mx.map ev) with
          | some (a, b', c) => some (if xcap cap c = some a then .nsl else .sl b e (off + a * s) (b' - a) ((xcap cap c).map (· - a)), m)
          | none => none) else none
      | _ => none
    | _ => none
  | .nilc x => match ev x with
    | .pref cs => some (.pref cs, m)
    | .ptr b e o => some (.ptr b e o, m)
    | _ => none
  | .bld z parts => (xbuild z (parts.map fun (o, s, x) => (o, s, ev x))).map fun r => (.agg r, m)
  | .lens x => match ev x with
    | .str l => some (.int .i64 l.length, m)
    | _ => none
  | .len x => match ev x with
    | .psl rows => some (.int .i64 rows.length, m)
    | .nsl => some (.int .i64 0, m)
    | .sl _ _ _ n _ => some (.int .i64 n, m)
    | _ => none
  | .lena n => some (.int .i64 n, m)
  | .min x y => match ev x, ev y with
    | .int k a, .int k' b => if k = k' then some (.int k (if b < a then b else a), m) else none
    | _, _ => none
  | .max x y => match ev x, ev y with
    | .int k a, .int k' b => if k = k' then some (.int k (if a < b then b else a), m) else none
    | _, _ => none
  | .ld ag s a => match ev a with
    | .pref cs => (xload ag s cs).map fun v => (v, m)
    | .ptr b e o => match m[b]? with
      | some (.row cells _ _ _ ep) => if ep = e then (xload ag s (cells.drop o)).map fun v => (v, m) else none
      | _ => none
    | _ => none
  | .st s a x => match ev a with
    | .ptr b e o => match m[b]? with
      | some (.row cells ty ag sz ep) =>
        let v := ev x
        if ep = e ∧ v.ok = true ∧ v.cells.length = s ∧ o + s ≤ cells.length ∧ xone v.cells = true then some (.und, m.set b (.row (xfill cells o v.cells) ty ag sz ep)) else none
      | _ => none
    | _ => none
  | .al z ty ag s => some (.ptr m.length 1 0, m ++ [.row z ty ag s 1])
  | .bx ty ag s x => let v := ev x; if v.ok then some (.ptr m.length 1 0, m ++ [.row v.cells ty ag s 1]) else none
  | .bsl el ag s z n parts => if n = 0 then some (.nsl, m) else
      (xbuild (xzeros z n) (parts.map fun (o, s, x) => (o, s, ev x))).map fun r => (.sl m.length 1 0 n (some n), m ++ [.row r el ag s 1])
  | .msl el ag s z by_ l c => match ev l, ev c with
    | .int _ n, .int _ k => if 0 ≤ n ∧ n ≤ k ∧ k ≤ 1073741824 ∧ (by_ : Int) * k ≤ 281474976710656 then
        some (.sl m.length 1 0 n.toNat (some k.toNat), m ++ [.row (xzeros z k.toNat) el ag s 1]) else none
    | _, _ => none
  | .mmp => some (.map m.length, m ++ [.map [] 0])
  | .app el ag s by_ a y => match xcells m s (ev y) with
    | some (k, ys) => match ev a with
      | .nsl => if k ≤ 1073741824 ∧ k * by_ ≤ 140737488355328 then some (.sl m.length 0 0 k none, m ++ [.row ys el ag s 0]) else none
      | .sl b e off len _ => match m[b]? with
        | some (.row cells ty ag' sz ep) => if ep = e ∧ sz = s ∧ ty = el ∧ off + len * s ≤ cells.length ∧ len + k ≤ 1073741824 ∧ (len + k) * by_ ≤ 140737488355328 then
            some (.sl b (e + 1) 0 (len + k) none, m.set b (.row ((cells.drop off).take (len * s) ++ ys) ty ag' sz (e + 1))) else none
        | _ => none
      | _ => none
    | none => none
  | .cpy s x y => match ev x with
    | .nsl => match xcells m s (ev y) with
      | some _ => some (.int .i64 0, m)
      | none => none
    | .sl b e off len _ => match m[b]?, xcells m s (ev y) with
      | some (.row cells ty ag sz ep), some (k, ys) => if ep = e ∧ sz = s ∧ off + len * s ≤ cells.length then
          (let n := Nat.min k len; some (.int .i64 n, m.set b (.row (xfill cells off (ys.take (n * s))) ty ag sz ep))) else none
      | _, _ => none
    | _ => none
  | .lku kk z mp k ok => bif !xkok kk (ev k) then none else match ev mp with
    | .nmap => some (if ok then .tup [z, .bool false] else z, m)
    | .pmap ks vs => match xpkey kk (ev k) ks vs with
      | some (some v) => some (if ok then .tup [v, .bool true] else v, m)
      | some none => some (if ok then .tup [z, .bool false] else z, m)
      | none => none
    | .map b => match m[b]? with
      | some (.map es _) => match xkey kk (ev k) es 0 with
        | some (some (_, v, _)) => some (if ok then .tup [v, .bool true] else v, m)
        | some none => some (if ok then .tup [z, .bool false] else z, m)
        | none => none
      | _ => none
    | _ => none
  | .upd kk mp k x => bif !xkok kk (ev k) then none else match ev mp with
    | .map b => match m[b]? with
      | some (.map es clock) => match xkey kk (ev k) es 0 with
        | some (some (i, _, n)) => some (.und, m.set b (.map (es.set i (ev k, ev x, n)) clock))
        | some none => some (.und, m.set b (.map (es ++ [(ev k, ev x, clock)]) (clock + 1)))
        | none => none
      | _ => none
    | _ => none
  | .mpe kk z mp k => bif !xkok kk (ev k) then none else match ev mp with
    | .map b => match m[b]? with
      | some (.map es clock) => match xkey kk (ev k) es 0 with
        | some (some (i, v, n)) => some (.tup [v, .int .i64 n], m.set b (.map (es.set i (ev k, v, n)) clock))
        | some none => some (.tup [z, .int .i64 clock], m.set b (.map (es ++ [(ev k, z, clock)]) (clock + 1)))
        | none => none
      | _ => none
    | _ => none
  | .est mp s x => match ev mp, ev s with
    | .map b, .int _ n => match m[b]? with
      | some (.map es clock) => match es.findIdx? (fun e => (e.2.2 : Int) == n) with
        | some i => match es[i]? with
          | some (k, _, j) => some (.und, m.set b (.map (es.set i (k, ev x, j)) clock))
          | none => none
        | none => none
      | _ => none
    | _, _ => none
  | .lenm x => match ev x with
    | .nmap => some (.int .i64 0, m)
    | .pmap ks _ => some (.int .i64 ks.length, m)
    | .map b => match m[b]? with
      | some (.map es _) => some (.int .i64 es.length, m)
      | _ => none
    | _ => none
  | .tas t z x => match ev x with
    | .nifc => some (.tup [z, .bool false], m)
    | .ifc t' v => some (if t = t' then .tup [v, .bool true] else .tup [z, .bool false], m)
    | _ => none
  | _ => none

/-- A value of one cell. -/
def xna : V → V
  | .agg _ => .und
  | v => v

/-- What a value is once nobody writes the own blocks any more. -/
def xchunks (ag : Bool) (sz : Nat) : Nat → List V → List V
  | 0, _ => []
  | n + 1, cs => (if ag then .agg (cs.take sz) else xna (cs.headD .und)) :: xchunks ag sz n (cs.drop sz)

def xfrz (m : XM) : Nat → V → V
  | n + 1, .agg cs => .agg (cs.map (xfrz m n))
  | n + 1, .tup cs => .tup (cs.map (xfrz m n))
  | n + 1, .ifc t v => .ifc t (xfrz m n v)
  | n + 1, .fn (.func f) xs ys => .fn (.func f) (xs.map (xfrz m n)) (ys.map (xfrz m n))
  | n + 1, .sl b e off len _ => match m[b]? with
    | some (.row cells _ ag sz ep) => if ep = e ∧ off + len * sz ≤ cells.length ∧ sz ≠ 0 ∧ (ag = true ∨ sz = 1) then .psl (xchunks ag sz len (((cells.drop off).take (len * sz)).map (xfrz m n))) else .und
    | _ => .und
  | n + 1, .ptr b e off => match m[b]? with
    | some (.row cells _ _ _ ep) => if ep = e then .pref ((cells.drop off).map (xfrz m n)) else .und
    | _ => .und
  | n + 1, .map b => match m[b]? with
    | some (.map es _) => .pmap (es.map fun e => xfrz m n e.1) (es.map fun e => xfrz m n e.2.1)
    | _ => .und
  | _, .nsl => .nsl
  | _, .int k n => .int k n
  | _, .bool b => .bool b
  | _, .str s => .str s
  | _, .psl rows => .psl rows
  | _, .pmap ks vs => .pmap ks vs
  | _, .pref cs => .pref cs
  | _, .nptr => .nptr
  | _, .nmap => .nmap
  | _, .nfn => .nfn
  | _, .nifc => .nifc
  | _, _ => .und

def xput (t : List V) : Option Nat → V → List V
  | none, _ => t
  | some d, v => t.set d v

/-- All to which it leads has been made in this memory. -/
def xfresh (m : XM) : Nat → V → Bool
  | _, .int _ _ | _, .bool _ | _, .str _ | _, .nptr | _, .nmap | _, .nfn | _, .nifc | _, .nsl => true
  | _, .psl [] => true
  | n + 1, .agg cs => cs.all (xfresh m n)
  | n + 1, .tup cs => cs.all (xfresh m n)
  | n + 1, .ifc _ v => xfresh m n v
  | n + 1, .fn (.func _) xs ys => xs.all (xfresh m n) && ys.all (xfresh m n)
  | n + 1, .sl b _ off len _ => match m[b]? with
    | some (.row cells _ _ sz _) => ((cells.drop off).take (len * sz)).all (xfresh m n)
    | _ => false
  | n + 1, .ptr b _ off => match m[b]? with
    | some (.row cells _ _ _ _) => (cells.drop off).all (xfresh m n)
    | _ => false
  | n + 1, .map b => match m[b]? with
    | some (.map es _) => es.all fun e => xfresh m n e.1 && xfresh m n e.2.1
    | _ => false
  | _, _ => false

/-- Nothing in it leads to an own block. -/
def xpure : Nat → V → Bool
  | _, .int _ _ | _, .bool _ | _, .str _ | _, .psl _ | _, .pmap _ _ | _, .pref _ | _, .nsl | _, .nptr | _, .nmap | _, .nfn | _, .nifc => true
  | n + 1, .agg cs => cs.all (xpure n)
  | n + 1, .tup cs => cs.all (xpure n)
  | n + 1, .ifc _ v => xpure n v
  | n + 1, .fn (.func _) xs ys => xs.all (xpure n) && ys.all (xpure n)
  | _, _ => false

/-- Nothing in it leads anywhere. -/
def xflat : Nat → V → Bool
  | _, .int _ _ | _, .bool _ | _, .str _ | _, .nsl | _, .nptr | _, .nmap | _, .nfn | _, .nifc => true
  | _, .psl [] => true
  | n + 1, .agg cs => cs.all (xflat n)
  | n + 1, .tup cs => cs.all (xflat n)
  | _, _ => false

/-- How many elements a slice has that is no fixed one. -/
def vlen : V → Nat
  | .sl _ _ _ n _ => n
  | _ => 0

/-- Cells i to j of a slice are replaced by others. -/
def xsplice (L : XL) (m : XM) (a : V) (i j : Int) (k : Nat) (ys : List V) : Option (V × XM) :=
  match a with
  | .nsl => if i = 0 ∧ j = 0 ∧ k ≤ 1073741824 ∧ k * L.by_ ≤ 140737488355328 then some (.sl m.length 0 0 k none, m ++ [.row ys L.el L.ag L.s 0]) else none
  | .sl b e off len _ => match m[b]? with
    | some (.row cells ty ag sz ep) => if ep = e ∧ sz = L.s ∧ ty = L.el ∧ off + len * sz ≤ cells.length ∧ 0 ≤ i ∧ i ≤ j ∧ j ≤ len ∧ len + k ≤ 1073741824 ∧ (len + k) * L.by_ ≤ 140737488355328 then
        (let cs := (cells.drop off).take (len * sz)
         some (.sl b (e + 1) 0 (len + k - (j.toNat - i.toNat)) none, m.set b (.row (cs.take (i.toNat * sz) ++ (ys ++ cs.drop (j.toNat * sz))) ty ag sz (e + 1)))) else none
    | _ => none
  | _ => none

def xlib (L : XL) (m : XM) (xs : List V) : Option (V × XM) :=
  match L.k, xs with
  | .clone, [a] => match xcells m L.s a with
    | some (0, _) => some (.nsl, m)
    | some (k, ys) => if k ≤ 1073741824 ∧ k * L.by_ ≤ 140737488355328 then some (.sl m.length 0 0 k none, m ++ [.row ys L.el L.ag L.s 0]) else none
    | none => none
  | .insert, [a, .int .i64 i, v] => if i = vlen a then (xcells m L.s v).bind fun (k, ys) => xsplice L m a i i k ys else none
  | .replace, [a, .int .i64 i, .int .i64 j, v] => (xcells m L.s v).bind fun (k, ys) => if i < j ∧ (j = vlen a ∧ k = 0 ∨ j < vlen a ∧ i + k = j ∧ (xcells m L.s a).isSome = true) then xsplice L m a i j k ys else none
  | .grow, [.nsl, .int .i64 n] => if 0 ≤ n ∧ n ≤ 1048576 ∧ n * L.by_ ≤ 140737488355328 then some (.sl m.length 0 0 0 none, m ++ [.row [] L.el L.ag L.s 0]) else none
  | _, _ => none

/-- A call that is made with what the arguments are if nobody writes the own blocks any more, in a memory of its own; nothing of the own blocks may come back. -/
def xcallp (C : XCall) (f : Nat) (m : XM) (xs : List V) : Option (Sum V V × XM) :=
  match C f [] (xs.map (xfrz m 9)) with
  | some { out := .inl v, m := m' } =>
    let r := xfrz m' 9 v
    if xflat 9 r || xs.all (xpure 9) || xfresh m' 9 v then some (.inl r, m) else none
  | _ => none

/-- A call of a function by its number: apart, if the table says so and that goes through; else in this memory. -/
def xcallf (P : XP) (C : XCall) (f : Nat) (m : XM) (xs : List V) : Option (Sum V V × XM) :=
  match P.fn f with
  | none => match P.lib f with
    | some L => (xlib L m xs).map fun (v, m) => (.inl v, m)
    | none => none
  | some F => match (bif F.pure then xcallp C f m xs else none) with
    | some r => some r
    | none => (C f m xs).map fun r => (r.out, r.m)

/-- Operations that change what is there, or may. -/
def XOp.eff : XOp → Bool
  | .st .. | .app .. | .cpy .. | .upd .. | .mpe .. | .est .. | .call .. | .cav .. | .inv .. | .dfr .. | .rcv | .pan _ => true
  | _ => false

/-- Operations that make a block. -/
def XOp.alc : XOp → Bool
  | .al .. | .bx .. | .msl .. | .mmp => true
  | .bsl _ _ _ _ n _ => n != 0
  | _ => false

/-- The calls. -/
def XOp.isCall : XOp → Bool
  | .call .. | .cav .. | .inv .. => true
  | _ => false

/-- A call: of which function, with which arguments. -/
def xcalls (P : XP) (C : XCall) (Y : XYield) (m : XM) (ev : XO → V) : XOp → Option (Sum V V × XM)
  | .call f xs => xcallf P C f m (xs.map ev)
  | .cav f xs => match ev f with
    | .fn (.func n) first caps => xcallf P C n m (first ++ (xs.map ev ++ caps))
    | .fn (.yield b) _ _ => Y b m (xs.map ev)
    | _ => none
  | .inv tab x xs => match ev x with
    | .ifc t v => match tab.lookup t with
      | some f => xcallf P C f m (v :: xs.map ev)
      | none => none
    | _ => none
  | _ => none

/-- One operation, calls and all: what it yields (left), or a panic. -/
def xstep (P : XP) (C : XCall) (Y : XYield) (st : XSt) (o : XI) : Option (Sum Unit V × XSt) :=
  let ev := xev P st.t
  bif o.op.isCall then match xcalls P C Y st.m ev o.op with
    | some (.inl v, m) => some (.inl (), { st with t := xput st.t o.dst v, m := m })
    | some (.inr v, m) => some (.inr v, { st with m := m })
    | none => none
  else match o.op with
  | .dfr f xs => some (.inl (), { st with t := xput st.t o.dst .und, df := (f, xs.map ev) :: st.df })
  | .pan x => match ev x with
    | .ifc t v => some (.inr (.ifc t v), st)
    | _ => none
  | op => match xop st.m ev op with
    | some (v, m) => some (.inl (), { st with t := xput st.t o.dst v, m := m })
    | none => none

def xwant (t : List V) : Option (Nat × Bool) → Option Bool
  | none => some true
  | some (s, b) => match t.getD s .und with
    | .bool c => some (c == b)
    | .udf => some false
    | _ => none

def xops (P : XP) (C : XCall) (Y : XYield) : List XI → XSt → Option (XE × XSt)
  | [], st => some (.nrm, st)
  | o :: rest, st => match xwant st.t o.grd with
    | some true => match xstep P C Y st o with
      | some (.inl _, st) => xops P C Y rest st
      | some (.inr v, st) => some (.pan v, st)
      | none => none
    | some false => xops P C Y rest { st with t := xput st.t o.dst .udf }
    | none => none

mutual
/-- Two values are the same. -/
def vbeq : V → V → Bool
  | .int k a, .int k' b => k == k' && a == b
  | .bool a, .bool b => a == b
  | .str a, .str b => a == b
  | .agg a, .agg b => vbeqL a b
  | .tup a, .tup b => vbeqL a b
  | .psl a, .psl b => vbeqL a b
  | .nsl, .nsl => true
  | .sl b e o n c, .sl b' e' o' n' c' => b == b' && e == e' && o == o' && n == n' && c == c'
  | .pref a, .pref b => vbeqL a b
  | .ptr b e o, .ptr b' e' o' => b == b' && e == e' && o == o'
  | .nptr, .nptr => true
  | .map b, .map b' => b == b'
  | .pmap a b, .pmap a' b' => vbeqL a a' && vbeqL b b'
  | .nmap, .nmap => true
  | .fn (.func f) a b, .fn (.func f') a' b' => f == f' && vbeqL a a' && vbeqL b b'
  | .nfn, .nfn => true
  | .ifc t v, .ifc t' v' => t == t' && vbeq v v'
  | .nifc, .nifc => true
  | _, _ => false
def vbeqL : List V → List V → Bool
  | [], [] => true
  | a :: as, b :: bs => vbeq a b && vbeqL as bs
  | _, _ => false
end

/-- Operations that look at the memory and leave it as it is. -/
def XOp.mem : XOp → Bool
  | .ld .. | .ias .. | .sll .. | .cvb _ | .lku .. | .lenm _ => true
  | _ => false

/-- What has looked at the memory: its number, the temporaries at which it looked, itself, what it found. -/
abbrev XLv := List (Nat × List V × XI × V)

/-- It finds the same as it did. -/
def xsame (P : XP) (m : XM) (x : Nat × List V × XI × V) : Bool := match xop m (xev P x.2.1) x.2.2.1.op with
  | some (v, _) => vbeq v x.2.2.2
  | none => false

/-- Operations of a region whose order is open: those that are no effects. -/
def xquiet (P : XP) : List (Nat × XI) → XLv → XSt → Option (XLv × XSt)
  | [], live, st => some (live, st)
  | (i, o) :: rest, live, st => match xwant st.t o.grd with
    | some true => match xop st.m (xev P st.t) o.op with
      | some (v, m) => xquiet P rest (bif o.op.mem then (i, st.t, o, v) :: live else live) { st with t := xput st.t o.dst v, m := m }
      | none => none
    | some false => xquiet P rest live { st with t := xput st.t o.dst .udf }
    | none => none

/-- An effect; what may still be to come finds behind it what it found before. -/
def xeffect (P : XP) (C : XCall) (Y : XYield) (e : XI) (keep : List Nat) (live : XLv) (st : XSt) : Option (XLv × XSt) :=
  match xwant st.t e.grd with
  | some true => match xstep P C Y st e with
    | some (.inl _, st) => let live := live.filter fun x => keep.contains x.1
      bif live.all (xsame P st.m) then some (live, st) else none
    | _ => none
  | some false => some (live.filter fun x => keep.contains x.1, { st with t := xput st.t e.dst .udf })
  | none => none

/-- Two stores into different blocks. -/
def xapart (P : XP) (t : List V) (a b : XI) : Bool := match a, b with
  | ⟨none, .st _ x _, none⟩, ⟨none, .st _ y _, none⟩ => match xev P t x, xev P t y with
    | .ptr c _ _, .ptr d _ _ => c != d
    | _, _ => false
  | _, _ => false

def xdrw (P : XP) (C : XCall) (Y : XYield) : XD → XLv → XSt → Option XSt
  | .fin qs, live, st => match xquiet P qs live st with
    | some (_, st) => some st
    | none => none
  | .one qs _ e keep d, live, st => match xquiet P qs live st with
    | some (live, st) => match xeffect P C Y e keep live st with
      | some (live, st) => xdrw P C Y d live st
      | none => none
    | none => none
  | .two qs _ a ka _ b kb, live, st => match xquiet P qs live st with
    | some (live, st) =>
      bif xapart P st.t a b && (match xeffect P C Y b kb live st with
        | some (live, st) => (xeffect P C Y a ka live st).isSome
        | none => false) then
      match xeffect P C Y a ka live st with
      | some (live, st) => match xeffect P C Y b kb live st with
        | some (_, st) => some st
        | none => none
      | none => none
      else none
    | none => none

def xiter (body : XSt → Option (XE × XSt)) : Nat → XSt → Option (XE × XSt)
  | 0, _ => none
  | n + 1, st => match body st with
    | some (.nrm, st) => xiter body n st
    | r => r

def xcode (P : XP) (C : XCall) (Y : XYield) (L : Nat) : XC → XSt → Option (XE × XSt)
  | .skip, st => some (.nrm, st)
  | .reg ops, st => xops P C Y ops st
  | .drw d, st => (xdrw P C Y d [] st).map fun st => (.nrm, st)
  | .seq a b, st => match xcode P C Y L a st with
    | some (.nrm, st) => xcode P C Y L b st
    | r => r
  | .cond c a b, st => match xev P st.t c with
    | .bool true => xcode P C Y L a st
    | .bool false => xcode P C Y L b st
    | _ => none
  | .block id b, st => match xcode P C Y L b st with
    | some (.exit i, st) => some (if i = id then .nrm else .exit i, st)
    | r => r
  | .loop b, st => xiter (xcode P C Y L b) L st
  | .exit id, st => some (.exit id, st)
  | .ret, st => some (.ret, st)
  | .rfn f ps a b, st => match xev P st.t f with
    | .fn (.func n) first caps =>
      let l := st.m.length
      match xcallf P C n (st.m ++ [.loop 0 none st.t ps a b]) (first ++ (.fn (.yield l) [] [] :: caps)) with
      | some (.inl _, m) => match m[l]? with
        | some (.loop s p _ ps _ _) => if s = 1 then none else some ((p.getD .nrm), { st with m := m.set l (.loop 3 p [] ps .skip .skip) })
        | _ => none
      | some (.inr v, m) => some (.pan v, { st with m := m })
      | none => none
    | _ => none
  | .bad, _ => none

def xzip (t : List V) : List Nat → List V → List V
  | p :: ps, v :: vs => xzip (t.set p v) ps vs
  | _, _ => t

/-- A round of a loop over a function. -/
def xround (P : XP) (C : XCall) (Y : XYield) (L : Nat) (b : Nat) (m : XM) (xs : List V) : Option (Sum V V × XM) :=
  match m[b]? with
  | some (.loop 0 _ t ps a body) => bif Nat.beq xs.length ps.length then
      match xcode P C Y L a { t := xzip t ps xs, m := m, df := [] } with
      | some (.nrm, st) => match st.m[b]? with
        | some (.loop 0 p2 t2 ps2 a2 b2) => match xcode P C Y L body { st with m := st.m.set b (.loop 1 p2 t2 ps2 a2 b2) } with
          | some (e, st) => match st.m[b]? with
            | some (.loop 1 _ t3 ps3 a3 b3) => match e with
              | .nrm => some (.inl (.bool true), st.m.set b (.loop 0 none t3 ps3 a3 b3))
              | .ret => some (.inl (.bool false), st.m.set b (.loop 2 (some .ret) t3 ps3 a3 b3))
              | .exit i => some (.inl (.bool false), st.m.set b (.loop 2 (some (.exit i)) t3 ps3 a3 b3))
              | .pan _ => none
            | _ => none
          | none => none
        | _ => none
      | _ => none
    else none
  | _ => none

def xres (m : XM) (t : List V) : List XS → Option (List V)
  | [] => some []
  | .t i :: r => (xres m t r).map fun vs => t.getD i .und :: vs
  | .cell a ag s :: r => match xop m (fun _ => t.getD a .und) (.ld ag s (.t 0)), xres m t r with
    | some (v, _), some vs => some (v :: vs)
    | _, _ => none

def xpack : List V → V
  | [v] => v
  | vs => .tup vs

def XC.noD : XC → Bool
  | .reg ops => ops.all fun o => match o.op with | .dfr .. => false | _ => true
  | .seq a b | .cond _ a b => a.noD && b.noD
  | .rfn .. => false
  | .block _ b | .loop b => b.noD
  | _ => true

/-- The body of a function that is entered as a deferred call; it may recover the panic that is under way. -/
def xcodeS (P : XP) (C : XCall) (Y : XYield) (L : Nat) : XC → XSt → Option V → Option (XE × XSt × Option V)
  | .seq a b, st, p => match xcodeS P C Y L a st p with
    | some (.nrm, st, p) => xcodeS P C Y L b st p
    | r => r
  | .reg [⟨dst, .rcv, none⟩], st, p => some (.nrm, { st with t := xput st.t dst (p.getD .nifc) }, none)
  | c, st, p => (xcode P C Y L c st).map fun (e, st) => (e, st, p)

/-- A deferred call. -/
def xdef (P : XP) (C : XCall) (Y : XYield) (L : Nat) (f : Nat) (p : Option V) (m : XM) (xs : List V) : Option (Option V × XM) :=
  match P.fn f with
  | some F => if F.res.isEmpty && F.body.noD then (match xcodeS P C Y L F.body { t := xs ++ List.replicate (F.n - xs.length) .und, m := m, df := [] } p with
    | some (.nrm, st, p) | some (.ret, st, p) => if st.df.isEmpty then some (p, st.m) else none
    | _ => none) else none
  | none => none

/-- The deferred calls, one after the other; the panic that is under way. -/
def xleave (P : XP) (C : XCall) (Y : XYield) (L : Nat) : List (Nat × List V) → Option V → XM → Option (Option V × XM)
  | [], p, m => some (p, m)
  | (f, xs) :: r, p, m => match xdef P C Y L f p m xs with
    | some (p, m) => xleave P C Y L r p m
    | none => none

mutual
def xrun (P : XP) (L : Nat) : Nat → Nat → XM → List V → Option XR
  | 0, _, _, _ => none
  | n + 1, f, m, xs => match P.fn f with
    | none => none
    | some F => match xcode P (xrun P L n) (xyield P L n) L F.body { t := xs ++ List.replicate (F.n - xs.length) .und, m := m, df := [] } with
      | some (.nrm, st) | some (.ret, st) => match xleave P (xrun P L n) (xyield P L n) L st.df none st.m with
        | some (none, m) => (xres m st.t F.res).map fun vs => { out := .inl (xpack vs), m := m }
        | _ => none
      | some (.pan v, st) => match xleave P (xrun P L n) (xyield P L n) L st.df (some v) st.m with
        | some (none, m) => if F.res.isEmpty then some { out := .inl (.tup []), m := m } else none
        | some (some v, m) => some { out := .inr v, m := m }
        | none => none
      | _ => none
def xyield (P : XP) (L : Nat) : Nat → Nat → XM → List V → Option (Sum V V × XM)
  | 0, _, _, _ => none
  | n + 1, b, m, xs => xround P (xrun P L n) (xyield P L n) L b m xs
end

end Go.VC

/- From the program's code to the abstract machine's. Nothing is proved here. -/
namespace Go.VC
open Go

def cO : Operand → Option XO
  | .tmp i => some (.t i)
  | .const v => match ofC 6 v with
    | .und => none
    | v => some (.c v)
  | .global n => some (.g n)
  | .func f => some (.c (.fn (.func f) [] []))

def cOs (xs : Array Operand) : Option (List XO) := xs.toList.mapM cO

def cOo : Option Operand → Option (Option XO)
  | none => some none
  | some x => (cO x).map some

def tkL (P : Program) (K : TypeId → Option (List Nat)) : List Field → Nat → Option (List Nat)
  | [], _ => some []
  | f :: fs, o => if f.name = "_" ∨ f.offset ≠ o then none else match K f.type with
    | some l => if tsz P f.type = some l.length then (tkL P K fs (o + l.length)).map (l ++ ·) else none
    | none => none

/-- The kinds of the cells of a type that is compared cell by cell. -/
def tkinds (P : Program) : Nat → TypeId → Option (List Nat)
  | 0, _ => none
  | n + 1, t => match P.underlying t with
    | some (.int _) => some [0]
    | some .bool => some [1]
    | some .string => some [2]
    | some (.struct fs) => if P.stoodInHeld t || P.eqGuardType P.depth t then none else tkL P (tkinds P n) fs.toList 0
    | _ => none

def cK (P : Program) (t : TypeId) (y : Operand) : Option XK := match P.underlying t with
  | some (.int _) => some .int
  | some .string => some .str
  | some .bool => some .bool
  | some (.pointer _) => some .ptr
  | some (.map _ _) => some .map
  | some (.func _ _ _) => some .fn
  | some (.interface _) => match y with
    | .const _ => some .ifc
    | _ => none
  | some (.struct _) => (tkinds P 4 t).map .flat
  | _ => none

def cKK (P : Program) (t : TypeId) : Option XK := match P.underlying t with
  | some (.map k _) => (cK P k (.tmp 0)).bind fun kk => if xkk kk then some kk else none
  | _ => none

def cEl (P : Program) (t : TypeId) : Option TypeId := match P.underlying t with
  | some (.slice el) => some el
  | _ => none

def cZ (P : Program) (t : TypeId) : Option (List V) := (tzero P t).bind fun z => if z.ok && decide (some z.cells.length = tsz P t) then some z.cells else none

def cParts (pl : Nat → Option (Nat × Nat)) (ps : Array (Nat × Operand)) : Option (List (Nat × Nat × XO)) :=
  ps.toList.mapM fun (i, x) => (pl i).bind fun (o, s) => (cO x).map fun x => (o, s, x)

/-- Which function a method's name leads to, for each type that has it as its own. -/
def cTab (P : Program) (name : String) : List (Nat × Nat) :=
  (List.range P.types.size).filterMap fun t => (P.info? t).bind fun i => (i.methods.find? (·.name == name)).bind fun m =>
    if m.path.isEmpty then m.func.bind fun (f, p) => match P.underlying t, p with
      | some (.pointer _), true => some (t, f)
      | some (.pointer _), false => none
      | some (.interface _), _ => none
      | some _, false => some (t, f)
      | _, _ => none
    else none

def cOp (P : Program) : Op → Option XOp
  | .move x | .assign x => (cO x).map .mv
  | .pick c a b => do some (.pick (← cO c) (← cO a) (← cO b))
  | .binOp .eql t x y _ => do some (.eq false (← cK P t y) (← cO x) (← cO y))
  | .binOp .neq t x y _ => do some (.eq true (← cK P t y) (← cO x) (← cO y))
  | .binOp op _ x y _ => do some (.ari op (← cO x) (← cO y))
  | .unOp .not _ x => (cO x).map .not
  | .unOp .neg _ x => (cO x).map .neg
  | .unOp .xor _ x => (cO x).map .xor
  | .convert s d x => match P.underlying s, P.underlying d with
    | some (.int _), some (.int k) => (cO x).map (.cvi k)
    | some .string, some .string => (cO x).map .cvs
    | some (.slice el), some .string => match P.underlying el with
      | some (.int .u8) => if tsz P el = some 1 then (cO x).map .cvb else none
      | _ => none
    | _, _ => none
  | .makeInterface t x => if tnoIface P t then (cO x).map (.ifc t) else none
  | .makeFunc (.func f) xs ys => do some (.fnc f (← cOs xs) (← cOs ys))
  | .extract x i => (cO x).map (.ext · i)
  | .field t x f => match P.underlying t with
    | some (.struct fs) => do let d ← fs[f]?; some (.fld (← tag P d.type) (← tsz P d.type) d.offset (← cO x))
    | _ => none
  | .fieldAddr t x f => match P.underlying t with
    | some (.struct fs) => do let d ← fs[f]?; let s ← tsz P d.type; if s = 0 then none else some (.fad d.offset (← cO x))
    | _ => none
  | .indexAddr t x i => match P.underlying t with
    | some (.slice el) => do some (.ias (← tsz P el) (← cO x) (← cO i))
    | some (.array n el) => do some (.iaa n (← tsz P el) (← cO x) (← cO i))
    | _ => none
  | .index t x i => match P.underlying t with
    | some (.array n el) => do some (.ixa n (← tag P el) (← tsz P el) (← cO x) (← cO i))
    | some .string => do some (.ixs (← cO x) (← cO i))
    | _ => none
  | .slice t x lo hi mx => if hi.isNone && mx.isSome then none else match P.underlying t with
    | some .string => do some (.sls (← cO x) (← cOo lo) (← cOo hi) (← cOo mx))
    | some (.slice el) => do some (.sll (← tsz P el) (← cO x) (← cOo lo) (← cOo hi) (← cOo mx))
    | _ => none
  | .nilCheck x => (cO x).map .nilc
  | .build t ps => do some (.bld (← cZ P t) (← cParts (← tplace P t) ps))
  | .load t a => do some (.ld (← tag P t) (← tsz P t) (← cO a))
  | .store t a x => do some (.st (← tsz P t) (← cO a) (← cO x))
  | .alloc t => do some (.al (← cZ P t) t (← tag P t) (← tsz P t))
  | .box t x => do some (.bx t (← tag P t) (← tsz P t) (← cO x))
  | .buildSlice t n ps => do
    let el ← cEl P t; let s ← tsz P el; let z ← cZ P el
    if s = 0 ∨ n * s > 16777216 ∨ (n = 0 ∧ ¬ ps.isEmpty) then none else some (.bsl el (← tag P el) s z n (← cParts (fun i => some (i * s, s)) ps))
  | .makeSlice t l c => do
    let el ← cEl P t; let s ← tsz P el; let z ← cZ P el
    if s = 0 then none else some (.msl el (← tag P el) s z (← tby P el) (← cO l) (← cO c))
  | .makeMap _ none => some .mmp
  | .lookup t m k ok => match P.underlying t with
    | some (.map _ el) => do some (.lku (← cKK P t) (← tzero P el) (← cO m) (← cO k) ok)
    | _ => none
  | .mapUpdate t m k x | .insert t m k x => do some (.upd (← cKK P t) (← cO m) (← cO k) (← cO x))
  | .mapEntry t m k => match P.underlying t with
    | some (.map _ el) => do some (.mpe (← cKK P t) (← tzero P el) (← cO m) (← cO k))
    | _ => none
  | .entryStore _ m s x => do some (.est (← cO m) (← cO s) (← cO x))
  | .typeAssert x _ t true => match P.underlying t with
    | some (.interface _) => none
    | some _ => do some (.tas t (← tzero P t) (← cO x))
    | none => none
  | .panic x => (cO x).map .pan
  | .defer { callee := .value (.func f), args, .. } => do some (.dfr f (← cOs args))
  | .call { callee := .value (.func f), args, .. } => do some (.call f (← cOs args))
  | .call { callee := .value f, args, .. } => do some (.cav (← cO f) (← cOs args))
  | .call { callee := .invoke r name, args, .. } => do some (.inv (cTab P name) (← cO r) (← cOs args))
  | .call { callee := .builtin .len, args, argTypes } => match args.toList, argTypes.toList with
    | [x], [t] => match P.underlying t with
      | some .string => (cO x).map .lens
      | some (.slice _) => (cO x).map .len
      | some (.array n _) => some (.lena n)
      | some (.map _ _) => (cO x).map .lenm
      | _ => none
    | _, _ => none
  | .call { callee := .builtin .min, args, .. } => match args.toList with
    | [x, y] => do some (.min (← cO x) (← cO y))
    | _ => none
  | .call { callee := .builtin .max, args, .. } => match args.toList with
    | [x, y] => do some (.max (← cO x) (← cO y))
    | _ => none
  | .call { callee := .builtin .append, args, argTypes } => match args.toList, argTypes.toList with
    | [x, y], [t, t2] => do
      let el ← cEl P t; let _ ← cEl P t2; let s ← tsz P el; let _ ← cZ P el
      if s = 0 then none else some (.app el (← tag P el) s (← tby P el) (← cO x) (← cO y))
    | _, _ => none
  | .call { callee := .builtin .copy, args, argTypes } => match args.toList, argTypes.toList with
    | [x, y], [t, t2] => do
      let el ← cEl P t; let _ ← cEl P t2; let s ← tsz P el
      if s = 0 then none else some (.cpy s (← cO x) (← cO y))
    | _, _ => none
  | .call { callee := .builtin .recover, .. } => some .rcv
  | _ => none

def cI (P : Program) (ops : Array Oper) (o : Oper) : Option XI := do
  let g ← match o.guard with
    | none => some none
    | some (j, b) => (ops[j]?).bind fun q => q.dst.map fun d => some (d, b)
  (cOp P o.op).map fun a => { dst := o.dst, op := a, grd := g }

/-- The operands. -/
def XOp.xos : XOp → List XO
  | .mv x | .not x | .neg x | .xor x | .cvi _ x | .cvs x | .cvb x | .ifc _ x | .ext x _ | .fld _ _ _ x | .fad _ x | .nilc x | .len x | .lens x | .ld _ _ x | .bx _ _ _ x | .lenm x | .pan x | .tas _ _ x => [x]
  | .pick a b c => [a, b, c]
  | .ari _ x y | .eq _ _ x y | .ias _ x y | .iaa _ _ x y | .ixa _ _ _ x y | .ixs x y | .min x y | .max x y | .st _ x y | .msl _ _ _ _ _ x y | .app _ _ _ _ x y | .cpy _ x y | .lku _ _ x y _ | .mpe _ _ x y => [x, y]
  | .fnc _ xs ys => xs ++ ys
  | .sls x a b c | .sll _ x a b c => x :: (a.toList ++ b.toList ++ c.toList)
  | .bld _ ps | .bsl _ _ _ _ _ ps => ps.map (·.2.2)
  | .lena _ | .al .. | .mmp | .rcv => []
  | .upd _ x y z | .est x y z => [x, y, z]
  | .call _ xs | .dfr _ xs => xs
  | .cav x xs | .inv _ x xs => x :: xs

def xoT : XO → Option Nat
  | .t i => some i
  | _ => none

/-- The temporaries at which an operation looks. -/
def XI.looks (o : XI) : List Nat := (match o.grd with | some (d, _) => [d] | none => []) ++ o.op.xos.filterMap xoT

/-- An operation that a region whose order is open may hold. -/
def XOp.drawn : XOp → Bool
  | .dfr .. | .rcv | .pan _ => false
  | _ => true

/-! ### Regions whose order is open -/
/-- What binds. -/
def dEds (o : Oper) : List Nat := (o.after.toList.filter (Region.binds .any)).map (·.on)

/-- All that surely comes before, as bits. -/
def dOr (acc : List Nat) : List Nat → Nat
  | [] => 0
  | e :: r => 2 ^ e ||| acc.getD e 0 ||| dOr acc r

def dB : List (List Nat) → List Nat → List Nat
  | [], acc => acc
  | es :: r, acc => dB r (acc ++ [dOr acc es])

def dReady (eds : List (List Nat)) (dn : Nat) (i : Nat) : Bool := !dn.testBit i && (eds.getD i []).all fun e => dn.testBit e

/-- What is no effect, and can come now. -/
def dQs (its : List XI) (eds : List (List Nat)) : List Nat → Nat → List (Nat × XI) × Nat
  | [], dn => ([], dn)
  | i :: r, dn => match its[i]? with
    | some o => bif !o.op.eff && dReady eds dn i then (let q := dQs its eds r (dn ||| 2 ^ i); ((i, o) :: q.1, q.2)) else dQs its eds r dn
    | none => dQs its eds r dn

def dEffs (its : List XI) (eds : List (List Nat)) (dn : Nat) : List Nat := (List.range its.length).filter fun i => match its[i]? with
  | some o => o.op.eff && dReady eds dn i
  | none => false

def dFull (n dn : Nat) : Bool := (List.range n).all fun i => dn.testBit i

def cXD (its : List XI) (eds : List (List Nat)) (bs : List Nat) : Nat → Nat → List Nat → Option XD
  | 0, _, _ => none
  | f + 1, dn, pend =>
    let q := dQs its eds (List.range its.length) dn
    let pend := pend ++ (q.1.filter fun x => x.2.op.mem).map (·.1)
    match dEffs its eds q.2 with
    | [] => bif dFull its.length q.2 then some (.fin q.1) else none
    | [e] => match its[e]? with
      | some o => let keep := pend.filter fun i => !(bs.getD e 0).testBit i
        (cXD its eds bs f (q.2 ||| 2 ^ e) keep).map (.one q.1 e o keep)
      | none => none
    | [a, b] => match its[a]?, its[b]? with
      | some oa, some ob => bif dFull its.length (q.2 ||| 2 ^ a ||| 2 ^ b) then some (.two q.1 a oa (pend.filter fun i => !(bs.getD a 0).testBit i) b ob (pend.filter fun i => !(bs.getD b 0).testBit i)) else none
      | _, _ => none
    | _ => none

/-- Who writes what another looks at is bound to it; no two write the same. -/
def dTmp (its : List XI) (eds : List (List Nat)) (i : Nat) : Bool :=
  match its[i]? with
  | none => false
  | some o => (List.range its.length).all fun k => i == k || match its[k]? with
    | none => false
    | some q => match q.dst with
      | none => true
      | some d => (o.dst != some d) && (!o.looks.contains d || (eds.getD i []).contains k || (eds.getD k []).contains i)

/-- A region whose order is open, in the order in which the machine goes. -/
def cDrw (its : List XI) (eds : List (List Nat)) : Option XD :=
  bif its.all (fun o => o.op.drawn) && (List.range its.length).all (fun i => dTmp its eds i && (eds.getD i []).all (Nat.blt · i)) then cXD its eds (dB eds []) (its.length + 1) 0 [] else none

def cC (P : Program) : Code → Option XC
  | .skip => some .skip
  | .region _ ops false => (ops.toList.mapM (cI P ops)).map .reg
  | .region _ ops true => (ops.toList.mapM (cI P ops)).bind fun its => (cDrw its (ops.toList.map dEds)).map .drw
  | .seq a b => do some (.seq (← cC P a) (← cC P b))
  | .cond c a b => do some (.cond (← cO c) (← cC P a) (← cC P b))
  | .block id b => (cC P b).map (.block id)
  | .loop b => (cC P b).map .loop
  | .exit id => some (.exit id)
  | .ret => some .ret
  | .scope b => cC P b
  | .label _ => some .skip
  | .rangeFunc f ps a b => (cO f).bind fun f' => (cC P a).bind fun a' => (cC P b).bind fun b' => bif a'.noD && b'.noD then some (.rfn f' ps.toList a' b') else none
  | _ => none

def cF (P : Program) (pure : Bool) (F : Func) : Option XF := if F.name == "runtime.NumGoroutine" then none else do
  let b ← cC P (← F.body)
  let res ← F.results.toList.mapM fun
    | .tmp t => some (XS.t t)
    | .cell a t => do some (XS.cell a (← tag P t) (← tsz P t))
  some { n := F.ntmps, res, pure, body := b }

end Go.VC

/- The machine's operations do what the program's do: first part. -/
namespace Go.VC
open Go Go.RowKit

section
variable {E : Env} {m : XM} {ev : Operand → V} {xe : XO → V} {v : V} {m' : XM}

/-- The machine's operands have the values that the program's have. -/
def OpsR (ev : Operand → V) (xe : XO → V) : Prop := ∀ x y, cO x = some y → xe y = ev x

theorem OpsR.list {ev : Operand → V} {xe : XO → V} (h : OpsR ev xe) : ∀ (l : List Operand) (l' : List XO), l.mapM cO = some l' → l'.map xe = l.map ev := by
  intro l
  induction l with
  | nil => intro l' h'; simp at h'; subst h'; rfl
  | cons x l ih =>
    intro l' h'
    simp only [List.mapM_cons, Option.pure_def, Option.bind_eq_bind] at h'
    obtain ⟨y, hy, h'⟩ := Option.bind_eq_some_iff.1 h'
    obtain ⟨ys, hys, h'⟩ := Option.bind_eq_some_iff.1 h'
    simp only [Option.some.injEq] at h'
    subst h'
    simp [h _ _ hy, ih _ hys]

theorem OpsR.opt {ev : Operand → V} {xe : XO → V} (h : OpsR ev xe) {x : Option Operand} {y : Option XO} (hc : cOo x = some y) : y.map xe = x.map ev := by
  cases x with
  | none => simp [cOo] at hc; subst hc; rfl
  | some x =>
    simp only [cOo, Option.map_eq_some_iff] at hc
    obtain ⟨z, hz, rfl⟩ := hc
    simp [h _ _ hz]

theorem aop_of_vop {op : Op} {p : Prop} (h : vop E ev op = some (v, p)) : aop E m ev op = some (v, m, p) := by
  unfold aop; rw [h]

theorem step_v {op : Op} {p : Prop} (h : vop E ev op = some (v, p)) (hp : p) : OStep E m ev op v m := aop_sound (aop_of_vop h) hp

theorem x_mv {x : Operand} {a : XOp} (ho : OpsR ev xe) (hc : (cO x).map .mv = some a) (h : xop m xe a = some (v, m')) : OStep E m ev (.move x) v m' ∧ OStep E m ev (.assign x) v m' := by
  obtain ⟨y, hy, rfl⟩ := Option.map_eq_some_iff.1 hc
  simp only [xop, Option.some.injEq, Prod.mk.injEq] at h
  obtain ⟨rfl, rfl⟩ := h
  rw [ho _ _ hy]
  exact ⟨step_v (p := True) rfl trivial, step_v (p := True) rfl trivial⟩

theorem x_pick {c a b : Operand} {c' a' b' : XO} (ho : OpsR ev xe) (h1 : cO c = some c') (h2 : cO a = some a') (h3 : cO b = some b') (h : xop m xe (.pick c' a' b') = some (v, m')) : OStep E m ev (.pick c a b) v m' := by
  simp only [xop, ho _ _ h1, ho _ _ h2, ho _ _ h3] at h
  split at h <;> first | (cases h; done) | skip
  rename_i cb hcb
  simp only [Option.some.injEq, Prod.mk.injEq] at h
  obtain ⟨rfl, rfl⟩ := h
  exact step_v (p := True) (by simp [vop, hcb, vpick]) trivial

theorem xari_vbin {op : BinOp} {t : TypeId} {x y v : V} (h : xari op x y = some v) (h1 : op ≠ .eql) (h2 : op ≠ .neq) : ∃ p, vbin E op t x y = some (v, p) ∧ p := by
  unfold xari at h
  split at h <;> first | (cases h; done) | skip
  · rename_i k a k' b
    cases op <;> simp only [reduceCtorEq, ite_self] at h <;> first | (exact absurd rfl h1) | (exact absurd rfl h2) | skip
    all_goals
      repeat' split at h
    all_goals first | (cases h; done) | skip
    all_goals
      simp only [Option.some.injEq] at h
      subst h
      simp only [vbin, varith, if_true, *]
      exact ⟨_, rfl, by first | trivial | assumption⟩
  · rename_i a b
    cases op <;> simp only [reduceCtorEq] at h
    split at h <;> first | (cases h; done) | skip
    rename_i hl
    simp only [Option.some.injEq] at h
    subst h
    exact ⟨_, rfl, hl⟩

theorem x_ari {op : BinOp} {t ty : TypeId} {x y : Operand} {x' y' : XO} (ho : OpsR ev xe) (h1 : cO x = some x') (h2 : cO y = some y') (n1 : op ≠ .eql) (n2 : op ≠ .neq) (h : xop m xe (.ari op x' y') = some (v, m')) :
    OStep E m ev (.binOp op t x y ty) v m' := by
  simp only [xop, ho _ _ h1, ho _ _ h2, Option.map_eq_some_iff, Prod.mk.injEq] at h
  obtain ⟨v', hv, rfl, rfl⟩ := h
  obtain ⟨p, hp1, hp2⟩ := xari_vbin (E := E) (t := t) hv n1 n2
  exact step_v (p := p) (by simpa [vop] using hp1) hp2

theorem x_not {t : TypeId} {x : Operand} {x' : XO} (ho : OpsR ev xe) (h1 : cO x = some x') (h : xop m xe (.not x') = some (v, m')) : OStep E m ev (.unOp .not t x) v m' := by
  simp only [xop, ho _ _ h1] at h
  split at h <;> first | (cases h; done) | skip
  rename_i b hb
  simp only [Option.some.injEq, Prod.mk.injEq] at h
  obtain ⟨rfl, rfl⟩ := h
  exact step_v (p := True) (by simp [vop, hb]) trivial

theorem x_neg {t : TypeId} {x : Operand} {x' : XO} (ho : OpsR ev xe) (h1 : cO x = some x') (h : xop m xe (.neg x') = some (v, m')) : OStep E m ev (.unOp .neg t x) v m' := by
  simp only [xop, ho _ _ h1] at h
  split at h <;> first | (cases h; done) | skip
  rename_i k n hb
  simp only [Option.some.injEq, Prod.mk.injEq] at h
  obtain ⟨rfl, rfl⟩ := h
  exact step_v (p := True) (by simp [vop, hb]) trivial

theorem x_xor {t : TypeId} {x : Operand} {x' : XO} (ho : OpsR ev xe) (h1 : cO x = some x') (h : xop m xe (.xor x') = some (v, m')) : OStep E m ev (.unOp .xor t x) v m' := by
  simp only [xop, ho _ _ h1] at h
  split at h <;> first | (cases h; done) | skip
  rename_i k n hb
  simp only [xari, if_true, Option.map_some, Option.some.injEq, Prod.mk.injEq] at h
  obtain ⟨rfl, rfl⟩ := h
  exact step_v (p := True) (by simp [vop, hb, varith]) trivial

theorem x_cvi {s d : TypeId} {k : IntKind} {x : Operand} {x' : XO} (ho : OpsR ev xe) (h1 : cO x = some x') {ks : IntKind} (hs : E.P.underlying s = some (.int ks)) (hd : E.P.underlying d = some (.int k)) (h : xop m xe (.cvi k x') = some (v, m')) :
    OStep E m ev (.convert s d x) v m' := by
  simp only [xop, ho _ _ h1] at h
  split at h <;> first | (cases h; done) | skip
  rename_i k' n hb
  simp only [Option.some.injEq, Prod.mk.injEq] at h
  obtain ⟨rfl, rfl⟩ := h
  exact step_v (p := True) (by simp [vop, hs, hd, hb]) trivial

theorem x_cvs {s d : TypeId} {x : Operand} {x' : XO} (ho : OpsR ev xe) (h1 : cO x = some x') (hs : E.P.underlying s = some .string) (hd : E.P.underlying d = some .string) (h : xop m xe (.cvs x') = some (v, m')) :
    OStep E m ev (.convert s d x) v m' := by
  simp only [xop, ho _ _ h1] at h
  split at h <;> first | (cases h; done) | skip
  rename_i l hb
  simp only [Option.some.injEq, Prod.mk.injEq] at h
  obtain ⟨rfl, rfl⟩ := h
  exact step_v (p := True) (by simp [vop, hs, hd, hb]) trivial

theorem x_ifc {t : TypeId} {x : Operand} {x' : XO} (ho : OpsR ev xe) (h1 : cO x = some x') (ht : tnoIface E.P t = true) (h : xop m xe (.ifc t x') = some (v, m')) : OStep E m ev (.makeInterface t x) v m' := by
  simp only [xop, ho _ _ h1, Option.some.injEq, Prod.mk.injEq] at h
  obtain ⟨rfl, rfl⟩ := h
  exact step_v (p := True) (by simp [vop, ht]) trivial

theorem x_fnc {f : FuncId} {xs ys : Array Operand} {xs' ys' : List XO} (ho : OpsR ev xe) (h1 : cOs xs = some xs') (h2 : cOs ys = some ys') (h : xop m xe (.fnc f xs' ys') = some (v, m')) : OStep E m ev (.makeFunc (.func f) xs ys) v m' := by
  simp only [xop, ho.list _ _ h1, ho.list _ _ h2, Option.some.injEq, Prod.mk.injEq] at h
  obtain ⟨rfl, rfl⟩ := h
  exact step_v (p := True) (by simp [vop]) trivial

theorem x_ext {x : Operand} {i : Nat} {x' : XO} (ho : OpsR ev xe) (h1 : cO x = some x') (h : xop m xe (.ext x' i) = some (v, m')) : OStep E m ev (.extract x i) v m' := by
  simp only [xop, ho _ _ h1] at h
  split at h <;> first | (cases h; done) | skip
  rename_i vs hb
  obtain ⟨v', hv, h⟩ := Option.map_eq_some_iff.1 h
  simp only [Prod.mk.injEq] at h
  obtain ⟨rfl, rfl⟩ := h
  exact step_v (p := True) (by simp [vop, hb, hv]) trivial

theorem xpart_vpart {t : TypeId} {ag : Bool} {s off : Nat} {cs : List V} (h1 : tag E.P t = some ag) (h2 : tsz E.P t = some s) : vpart E.P t cs off = xpart ag s cs off := by
  unfold vpart xpart
  rw [h1, h2]
  cases ag <;> rfl

theorem x_fld {t : TypeId} {x : Operand} {x' : XO} {f : Nat} {fs : Array Field} {d : Field} {ag : Bool} {s : Nat} (ho : OpsR ev xe) (h1 : cO x = some x') (hu : E.P.underlying t = some (.struct fs)) (hd : fs[f]? = some d)
    (hag : tag E.P d.type = some ag) (hs : tsz E.P d.type = some s) (h : xop m xe (.fld ag s d.offset x') = some (v, m')) : OStep E m ev (.field t x f) v m' := by
  simp only [xop, ho _ _ h1] at h
  split at h <;> first | (cases h; done) | skip
  rename_i cs hb
  obtain ⟨v', hv, h⟩ := Option.map_eq_some_iff.1 h
  simp only [Prod.mk.injEq] at h
  obtain ⟨rfl, rfl⟩ := h
  exact step_v (p := True) (by simp [vop, hb, hu, hd, xpart_vpart hag hs, hv]) trivial

theorem x_fad {t : TypeId} {x : Operand} {x' : XO} {f : Nat} {fs : Array Field} {d : Field} {s : Nat} (ho : OpsR ev xe) (h1 : cO x = some x') (hu : E.P.underlying t = some (.struct fs)) (hd : fs[f]? = some d)
    (hs : tsz E.P d.type = some s) (h0 : s ≠ 0) (h : xop m xe (.fad d.offset x') = some (v, m')) : OStep E m ev (.fieldAddr t x f) v m' := by
  simp only [xop, ho _ _ h1] at h
  split at h <;> first | (cases h; done) | skip
  all_goals
    rename_i hb
    simp only [Option.some.injEq, Prod.mk.injEq] at h
    obtain ⟨rfl, rfl⟩ := h
    exact step_v (p := True) (by simp [vop, hb, hu, hd, hs, h0]) trivial

theorem x_nilc {x : Operand} {x' : XO} (ho : OpsR ev xe) (h1 : cO x = some x') (h : xop m xe (.nilc x') = some (v, m')) : OStep E m ev (.nilCheck x) v m' := by
  simp only [xop, ho _ _ h1] at h
  split at h <;> first | (cases h; done) | skip
  all_goals
    rename_i hb
    simp only [Option.some.injEq, Prod.mk.injEq] at h
    obtain ⟨rfl, rfl⟩ := h
    exact step_v (p := True) (by simp [vop, hb]) trivial

end
end Go.VC

/- The machine's operations do what the program's do: second part. -/
namespace Go.VC
open Go Go.RowKit

section
variable {E : Env} {m : XM} {ev : Operand → V} {xe : XO → V} {v : V} {m' : XM}

theorem aop_of_mop {op : Op} {p : Prop} (h0 : vop E ev op = none) (hc : ∀ c, op ≠ .call c) (h : mop E m ev op = some (v, m', p)) : aop E m ev op = some (v, m', p) := by
  unfold aop
  rw [h0]
  cases op <;> first | exact h | exact absurd rfl (hc _)

theorem step_m {op : Op} {p : Prop} (h : mop E m ev op = some (v, m', p)) (hp : p) : OStep E m ev op v m' := mop_sound h hp

theorem x_ias {t el : TypeId} {x i : Operand} {x' i' : XO} {s : Nat} (ho : OpsR ev xe) (h1 : cO x = some x') (h2 : cO i = some i') (hu : E.P.underlying t = some (.slice el)) (hs : tsz E.P el = some s) (h : xop m xe (.ias s x' i') = some (v, m')) :
    OStep E m ev (.indexAddr t x i) v m' := by
  simp only [xop, ho _ _ h1, ho _ _ h2] at h
  split at h <;> first | (cases h; done) | skip
  · rename_i rows k n hx hi
    split at h <;> first | (cases h; done) | skip
    rename_i h0
    split at h <;> first | (cases h; done) | skip
    rename_i r hr
    split at h <;> first | (cases h; done) | skip
    rename_i hsz
    simp only [Option.some.injEq, Prod.mk.injEq] at h
    obtain ⟨rfl, rfl⟩ := h
    have hlt := (List.getElem?_eq_some_iff.1 hr).1
    have hg : rows.getD n.toNat .und = r := by simp [List.getD_eq_getElem?_getD, hr]
    have hst : OStep E m ev (.indexAddr t x i) (.pref (rows.getD n.toNat .und).cells) m :=
      step_v (p := (0 ≤ n ∧ n.toNat < rows.length) ∧ (rows.getD n.toNat V.und).cells.length = s) (by simp only [vop, hu, hx, hi, hs, Option.map_some]) ⟨⟨h0, hlt⟩, by rw [hg]; exact hsz⟩
    rw [hg] at hst
    exact @hst
  · rename_i b e off len cap k n hx hi
    split at h <;> first | (cases h; done) | skip
    rename_i cells ty ag sz ep hm
    split at h <;> first | (cases h; done) | skip
    rename_i hh
    simp only [Option.some.injEq, Prod.mk.injEq] at h
    obtain ⟨rfl, rfl⟩ := h
    refine step_m (p := ep = e ∧ 0 ≤ n ∧ n.toNat < len) ?_ ⟨hh.1, hh.2.1, by omega⟩
    simp only [mop, hu, hx, hi, hm, hs]

theorem x_iaa {t el : TypeId} {n s : Nat} {x i : Operand} {x' i' : XO} (ho : OpsR ev xe) (h1 : cO x = some x') (h2 : cO i = some i') (hu : E.P.underlying t = some (.array n el)) (hs : tsz E.P el = some s) (h : xop m xe (.iaa n s x' i') = some (v, m')) :
    OStep E m ev (.indexAddr t x i) v m' := by
  simp only [xop, ho _ _ h1, ho _ _ h2] at h
  split at h <;> first | (cases h; done) | skip
  all_goals
    rename_i k j hx hi
    split at h <;> first | (cases h; done) | skip
    rename_i hh
    simp only [Option.some.injEq, Prod.mk.injEq] at h
    obtain ⟨rfl, rfl⟩ := h
    refine step_v (p := 0 ≤ j ∧ j.toNat < n) ?_ ⟨hh.1, by omega⟩
    simp only [vop, hu, hx, hi, hs, Option.map_some]

theorem x_ixa {t el : TypeId} {n s : Nat} {ag : Bool} {x i : Operand} {x' i' : XO} (ho : OpsR ev xe) (h1 : cO x = some x') (h2 : cO i = some i') (hu : E.P.underlying t = some (.array n el)) (hag : tag E.P el = some ag) (hs : tsz E.P el = some s)
    (h : xop m xe (.ixa n ag s x' i') = some (v, m')) : OStep E m ev (.index t x i) v m' := by
  simp only [xop, ho _ _ h1, ho _ _ h2] at h
  split at h <;> first | (cases h; done) | skip
  rename_i cs k j hx hi
  split at h <;> first | (cases h; done) | skip
  rename_i hh
  obtain ⟨v', hv, h⟩ := Option.map_eq_some_iff.1 h
  simp only [Prod.mk.injEq] at h
  obtain ⟨rfl, rfl⟩ := h
  refine step_v (p := 0 ≤ j ∧ j.toNat < n) ?_ ⟨hh.1, by omega⟩
  simp only [vop, hu, hx, hi, hs, Option.bind_some, xpart_vpart hag hs, hv, Option.map_some]

theorem x_ixs {t : TypeId} {x i : Operand} {x' i' : XO} (ho : OpsR ev xe) (h1 : cO x = some x') (h2 : cO i = some i') (hu : E.P.underlying t = some .string) (h : xop m xe (.ixs x' i') = some (v, m')) : OStep E m ev (.index t x i) v m' := by
  simp only [xop, ho _ _ h1, ho _ _ h2] at h
  split at h <;> first | (cases h; done) | skip
  rename_i l k j hx hi
  split at h <;> first | (cases h; done) | skip
  rename_i h0
  obtain ⟨c, hc, h⟩ := Option.map_eq_some_iff.1 h
  simp only [Prod.mk.injEq] at h
  obtain ⟨rfl, rfl⟩ := h
  refine step_v (p := 0 ≤ j ∧ j.toNat < l.length) ?_ ⟨h0, (List.getElem?_eq_some_iff.1 hc).1⟩
  simp only [vop, hu, hx, hi, List.getD_eq_getElem?_getD, hc, Option.getD_some]

/-- The machine's bounds are the calculus'. -/
theorem xbounds_vsl3 {len cap : Nat} {ok : Bool} {lo hi mx : Option V} {a b : Nat} {c : Option Nat} (h : xbounds len lo hi mx = some (a, b, c)) (hh : ¬ (hi = none ∧ mx.isSome = true)) :
    ∃ p, vsl3 len cap ok lo hi mx = some ((a, b, xcap (if ok then some cap else none) c), p) ∧ p := by
  unfold xbounds at h
  dsimp only at h
  split at h <;> first | (cases h; done) | skip
  rename_i l u hl hu
  split at h <;> first | (cases h; done) | skip
  rename_i h0
  have hlo : (lo = none ∧ l = 0) ∨ ∃ k, lo = some (.int k l) := by
    split at hl <;> first | (cases hl; done) | skip
    · exact .inl ⟨rfl, (Option.some.inj hl).symm⟩
    · exact .inr ⟨_, by rw [Option.some.inj hl]⟩
  have hhi : (hi = none ∧ u = len) ∨ ∃ k, hi = some (.int k u) := by
    split at hu <;> first | (cases hu; done) | skip
    · exact .inl ⟨rfl, (Option.some.inj hu).symm⟩
    · exact .inr ⟨_, by rw [Option.some.inj hu]⟩
  split at h
  · simp only [Option.some.injEq, Prod.mk.injEq] at h
    obtain ⟨rfl, rfl, rfl⟩ := h
    rcases hlo with ⟨rfl, rfl⟩ | ⟨k, rfl⟩ <;> rcases hhi with ⟨rfl, rfl⟩ | ⟨k', rfl⟩
    · exact ⟨_, by simp only [xcap, vsl3, Int.toNat_natCast]; rfl, trivial⟩
    · exact ⟨_, by simp only [xcap, vsl3]; rfl, by omega⟩
    · exact ⟨_, by simp only [xcap, vsl3, Int.toNat_natCast]; rfl, by omega⟩
    · exact ⟨_, by simp only [xcap, vsl3]; rfl, by omega⟩
  · split at h <;> first | (cases h; done) | skip
    rename_i mk mm h1
    simp only [Option.some.injEq, Prod.mk.injEq] at h
    obtain ⟨rfl, rfl, rfl⟩ := h
    rcases hhi with ⟨rfl, rfl⟩ | ⟨k', rfl⟩
    · exact absurd ⟨rfl, rfl⟩ hh
    · rcases hlo with ⟨rfl, rfl⟩ | ⟨k, rfl⟩
      · exact ⟨_, by simp only [xcap, vsl3]; rfl, by omega⟩
      · exact ⟨_, by simp only [xcap, vsl3]; rfl, by omega⟩
  · cases h

end
end Go.VC

/- The machine's operations do what the program's do: third part. -/
namespace Go.VC
open Go Go.RowKit

section
variable {E : Env} {m : XM} {ev : Operand → V} {xe : XO → V} {v : V} {m' : XM}

theorem hh_map {hi mx : Option Operand} (hh : ¬ (hi = none ∧ mx.isSome = true)) : ¬ (hi.map ev = none ∧ (mx.map ev).isSome = true) := by
  intro ⟨h1, h2⟩
  exact hh ⟨by simpa using h1, by simpa using h2⟩

theorem x_sls {t : TypeId} {x : Operand} {lo hi mx : Option Operand} {x' : XO} {lo' hi' mx' : Option XO} (ho : OpsR ev xe) (h1 : cO x = some x') (h2 : cOo lo = some lo') (h3 : cOo hi = some hi') (h4 : cOo mx = some mx')
    (hh : ¬ (hi = none ∧ mx.isSome = true)) (hu : E.P.underlying t = some .string) (h : xop m xe (.sls x' lo' hi' mx') = some (v, m')) : OStep E m ev (.slice t x lo hi mx) v m' := by
  simp only [xop, ho _ _ h1, ho.opt h2, ho.opt h3, ho.opt h4] at h
  split at h <;> first | (cases h; done) | skip
  rename_i l hx
  split at h <;> first | (cases h; done) | skip
  rename_i a b hb
  simp only [Option.some.injEq, Prod.mk.injEq] at h
  obtain ⟨rfl, rfl⟩ := h
  obtain ⟨p, h5, h6⟩ := xbounds_vsl3 (cap := l.length) (ok := false) hb (hh_map hh)
  refine @step_v _ _ _ _ _ p ?_ h6
  have h7 : xcap (if false = true then some l.length else none) none = none := rfl
  rw [h7] at h5
  simp only [vop, hu, hx, h5]

theorem x_sll {t el : TypeId} {s : Nat} {x : Operand} {lo hi mx : Option Operand} {x' : XO} {lo' hi' mx' : Option XO} (ho : OpsR ev xe) (h1 : cO x = some x') (h2 : cOo lo = some lo') (h3 : cOo hi = some hi') (h4 : cOo mx = some mx')
    (hh : ¬ (hi = none ∧ mx.isSome = true)) (hu : E.P.underlying t = some (.slice el)) (hs : tsz E.P el = some s) (h : xop m xe (.sll s x' lo' hi' mx') = some (v, m')) : OStep E m ev (.slice t x lo hi mx) v m' := by
  simp only [xop, ho _ _ h1, ho.opt h2, ho.opt h3, ho.opt h4] at h
  split at h <;> first | (cases h; done) | skip
  · rename_i rows hx
    split at h <;> first | (cases h; done) | skip
    rename_i a b c hb
    obtain ⟨p, h5, h6⟩ := xbounds_vsl3 (cap := 0) (ok := false) hb (hh_map hh)
    have hc : xcap (if false = true then some 0 else none) c = c := by cases c <;> rfl
    rw [hc] at h5
    split at h
    · rename_i hca
      simp only [Option.some.injEq, Prod.mk.injEq] at h
      obtain ⟨rfl, rfl⟩ := h
      have : vop E ev (.slice t x lo hi mx) = some (.nsl, p ∧ (c = some a ∨ rows = [] ∨ (rows.headD .und).cells.length = s)) := by
        simp only [vop, hu, hx, h5, hs, if_pos hca]
      exact @step_v _ _ _ _ _ _ this ⟨h6, .inl hca⟩
    · rename_i hca
      split at h <;> first | (cases h; done) | skip
      rename_i hr
      simp only [Option.some.injEq, Prod.mk.injEq] at h
      obtain ⟨rfl, rfl⟩ := h
      have : vop E ev (.slice t x lo hi mx) = some (.psl ((rows.take b).drop a), p ∧ (c = some a ∨ rows = [] ∨ (rows.headD .und).cells.length = s)) := by
        simp only [vop, hu, hx, h5, hs, if_neg hca]
      exact @step_v _ _ _ _ _ _ this ⟨h6, .inr hr.symm⟩
  · rename_i hx
    split at h <;> first | (cases h; done) | skip
    rename_i r hb
    obtain ⟨a, b, c⟩ := r
    simp only [Option.some.injEq, Prod.mk.injEq] at h
    obtain ⟨rfl, rfl⟩ := h
    obtain ⟨p, h5, h6⟩ := xbounds_vsl3 (cap := 0) (ok := true) hb (hh_map hh)
    have : vop E ev (.slice t x lo hi mx) = some (.nsl, p) := by
      simp only [vop, hu, hx, h5, hs]
    exact @step_v _ _ _ _ _ _ this h6
  · rename_i b e off len cap hx
    split at h <;> first | (cases h; done) | skip
    rename_i cells ty ag sz ep hm
    split at h <;> first | (cases h; done) | skip
    rename_i he
    split at h <;> first | (cases h; done) | skip
    rename_i a b' c hb
    obtain ⟨p, h5, h6⟩ := xbounds_vsl3 (cap := cap.getD 0) (ok := cap.isSome) hb (hh_map hh)
    have hc : (if cap.isSome = true then some (cap.getD 0) else none) = cap := by cases cap <;> rfl
    rw [hc] at h5
    simp only [Option.some.injEq, Prod.mk.injEq] at h
    obtain ⟨rfl, rfl⟩ := h
    exact @step_m E m ev _ m (.slice t x lo hi mx) ((ep = e ∧ sz = s) ∧ p) (by simp only [mop, hu, hx, hm, hs, h5]) ⟨he, h6⟩

theorem x_load {t : TypeId} {ag : Bool} {s : Nat} {a : Operand} {a' : XO} (ho : OpsR ev xe) (h1 : cO a = some a') (hag : tag E.P t = some ag) (hs : tsz E.P t = some s) (h : xop m xe (.ld ag s a') = some (v, m')) : OStep E m ev (.load t a) v m' := by
  have key : ∀ {cs : List V} {v}, xload ag s cs = some v → ∃ p, vload E.P t cs = some (v, p) ∧ p := by
    intro cs v hv
    unfold xload at hv
    cases ag with
    | true =>
      simp only [if_true] at hv
      split at hv <;> first | (cases hv; done) | skip
      rename_i hle
      simp only [Option.some.injEq] at hv
      subst hv
      exact ⟨s ≤ cs.length, by simp [vload, hag, hs], hle⟩
    | false =>
      simp only [Bool.false_eq_true, if_false] at hv
      exact ⟨True, by simp only [vload, hag]; rw [List.head?_eq_getElem?] at hv; rw [hv]; rfl, trivial⟩
  simp only [xop, ho _ _ h1] at h
  split at h <;> first | (cases h; done) | skip
  · rename_i cs hx
    obtain ⟨v', hv, h⟩ := Option.map_eq_some_iff.1 h
    simp only [Prod.mk.injEq] at h
    obtain ⟨rfl, rfl⟩ := h
    obtain ⟨p, k1, k2⟩ := key hv
    exact @step_m E m ev _ m (.load t a) p (by simp only [mop, hx, k1, Option.map_some]) k2
  · rename_i b e o hx
    split at h <;> first | (cases h; done) | skip
    rename_i cells ty ag' sz ep hm
    split at h <;> first | (cases h; done) | skip
    rename_i he
    obtain ⟨v', hv, h⟩ := Option.map_eq_some_iff.1 h
    simp only [Prod.mk.injEq] at h
    obtain ⟨rfl, rfl⟩ := h
    obtain ⟨p, k1, k2⟩ := key hv
    exact @step_m E m ev _ m (.load t a) (ep = e ∧ p) (by simp only [mop, hx, hm, k1, Option.map_some]) ⟨he, k2⟩

theorem xfill_vfill (cells : List V) (o : Nat) (vs : List V) : xfill cells o vs = vfill cells o vs := by simp [xfill, vfill]

theorem x_store {t : TypeId} {s : Nat} {a x : Operand} {a' x' : XO} (ho : OpsR ev xe) (h1 : cO a = some a') (h2 : cO x = some x') (hs : tsz E.P t = some s) (h : xop m xe (.st s a' x') = some (v, m')) : OStep E m ev (.store t a x) v m' := by
  simp only [xop, ho _ _ h1, ho _ _ h2] at h
  split at h <;> first | (cases h; done) | skip
  rename_i b e o hx
  split at h <;> first | (cases h; done) | skip
  rename_i cells ty ag' sz ep hm
  split at h <;> first | (cases h; done) | skip
  rename_i hh
  simp only [Option.some.injEq, Prod.mk.injEq] at h
  obtain ⟨rfl, rfl⟩ := h
  rw [xfill_vfill]
  exact @step_m E m ev _ _ (.store t a x) _ (by simp only [mop, hx, hm, hs, Option.map_some]; rfl) hh

theorem cZ_spec {t : TypeId} {z : List V} (h : cZ E.P t = some z) : ∃ zv, tzero E.P t = some zv ∧ zv.ok = true ∧ zv.cells = z ∧ tsz E.P t = some z.length := by
  unfold cZ at h
  obtain ⟨zv, hz, h⟩ := Option.bind_eq_some_iff.1 h
  split at h <;> first | (cases h; done) | skip
  rename_i hc
  simp only [Option.some.injEq] at h
  subst h
  simp only [Bool.and_eq_true, decide_eq_true_eq] at hc
  exact ⟨zv, hz, hc.1, rfl, hc.2.symm⟩

theorem x_alloc {t : TypeId} {z : List V} {ag : Bool} {s : Nat} (hz : cZ E.P t = some z) (hag : tag E.P t = some ag) (hs : tsz E.P t = some s) (h : xop m xe (.al z t ag s) = some (v, m')) : OStep E m ev (.alloc t) v m' := by
  simp only [xop, Option.some.injEq, Prod.mk.injEq] at h
  obtain ⟨rfl, rfl⟩ := h
  obtain ⟨zv, k1, k2, rfl, k4⟩ := cZ_spec hz
  exact @step_m E m ev _ _ (.alloc t) (zv.ok = true) (by simp only [mop, k1, hag, hs, Option.bind_some, Option.map_some]) k2

theorem x_box {t : TypeId} {ag : Bool} {s : Nat} {x : Operand} {x' : XO} (ho : OpsR ev xe) (h1 : cO x = some x') (hag : tag E.P t = some ag) (hs : tsz E.P t = some s) (h : xop m xe (.bx t ag s x') = some (v, m')) : OStep E m ev (.box t x) v m' := by
  simp only [xop, ho _ _ h1] at h
  split at h <;> first | (cases h; done) | skip
  rename_i hok
  simp only [Option.some.injEq, Prod.mk.injEq] at h
  obtain ⟨rfl, rfl⟩ := h
  exact @step_m E m ev _ _ (.box t x) ((ev x).ok = true) (by simp only [mop, hag, hs, Option.bind_some, Option.map_some]) hok

end
end Go.VC

/- The machine's operations do what the program's do: fourth part. -/
namespace Go.VC
open Go Go.RowKit

section
variable {E : Env} {m : XM} {ev : Operand → V} {xe : XO → V} {v : V} {m' : XM}

/-- Parts of a literal. -/
theorem xbuild_vbuild {pl : Nat → Option (Nat × Nat)} (ho : OpsR ev xe) : ∀ (ps : List (Nat × Operand)) (qs : List (Nat × Nat × XO)) (cells r : List V),
    (ps.mapM fun (i, x) => (pl i).bind fun (o, s) => (cO x).map fun x => (o, s, x)) = some qs → xbuild cells (qs.map fun (o, s, x) => (o, s, xe x)) = some r →
    ∃ p, vbuild pl cells (ps.map fun (i, x) => (i, ev x)) = some (r, p) ∧ p := by
  intro ps
  induction ps with
  | nil =>
    intro qs cells r hq h
    simp at hq; subst hq
    simp only [List.map_nil, xbuild, Option.some.injEq] at h
    subst h
    exact ⟨True, rfl, trivial⟩
  | cons q ps ih =>
    intro qs cells r hq h
    obtain ⟨i, x⟩ := q
    simp only [List.mapM_cons, Option.pure_def, Option.bind_eq_bind] at hq
    obtain ⟨y, hy, hq⟩ := Option.bind_eq_some_iff.1 hq
    obtain ⟨ys, hys, hq⟩ := Option.bind_eq_some_iff.1 hq
    simp only [Option.some.injEq] at hq
    subst hq
    obtain ⟨⟨o, s⟩, hpl, hy⟩ := Option.bind_eq_some_iff.1 hy
    obtain ⟨x', hx, rfl⟩ := Option.map_eq_some_iff.1 hy
    simp only [List.map_cons, xbuild, ho _ _ hx] at h
    split at h <;> first | (cases h; done) | skip
    rename_i hc
    simp only [Bool.and_eq_true, decide_eq_true_eq] at hc
    rw [xfill_vfill] at h
    obtain ⟨p, k1, k2⟩ := ih _ _ _ hys h
    exact ⟨((ev x).ok = true ∧ (ev x).cells.length = s ∧ o + s ≤ cells.length) ∧ p, by simp only [List.map_cons, vbuild, hpl, k1], ⟨hc.1.1, hc.1.2, hc.2⟩, k2⟩

theorem x_build {t : TypeId} {ps : Array (Nat × Operand)} {z : List V} {pl : Nat → Option (Nat × Nat)} {qs : List (Nat × Nat × XO)} (ho : OpsR ev xe) (hz : cZ E.P t = some z) (hpl : tplace E.P t = some pl) (hq : cParts pl ps = some qs)
    (h : xop m xe (.bld z qs) = some (v, m')) : OStep E m ev (.build t ps) v m' := by
  obtain ⟨r, hr, h⟩ := Option.map_eq_some_iff.1 h
  simp only [Prod.mk.injEq] at h
  obtain ⟨rfl, rfl⟩ := h
  obtain ⟨zv, k1, k2, rfl, k4⟩ := cZ_spec hz
  obtain ⟨p, h1, h2⟩ := xbuild_vbuild ho ps.toList qs _ _ hq hr
  exact @step_v E m ev (.agg r) (.build t ps) (zv.ok = true ∧ p) (by simp only [vop, k1, hpl, Option.bind_some, h1, Option.map_some]) ⟨k2, h2⟩

theorem xzeros_vzeros (z : V) : ∀ n, xzeros z.cells n = vzeros z n := by
  intro n
  induction n with
  | zero => simp [xzeros, vzeros]
  | succ n ih => simp [xzeros, ih, vzeros, List.replicate_succ]

theorem x_bsl {t el : TypeId} {n : Nat} {ps : Array (Nat × Operand)} {z : List V} {ag : Bool} {s : Nat} {qs : List (Nat × Nat × XO)} (ho : OpsR ev xe) (hu : E.P.underlying t = some (.slice el)) (hz : cZ E.P el = some z) (hag : tag E.P el = some ag)
    (hs : tsz E.P el = some s) (h0 : s ≠ 0) (hbig : n * s ≤ 16777216) (hq : cParts (fun i => some (i * s, s)) ps = some qs) (hn : n = 0 → qs = []) (h : xop m xe (.bsl el ag s z n qs) = some (v, m')) : OStep E m ev (.buildSlice t n ps) v m' := by
  obtain ⟨zv, k1, k2, rfl, k4⟩ := cZ_spec hz
  simp only [xop] at h
  split at h
  · rename_i hn0
    subst hn0
    simp only [Option.some.injEq, Prod.mk.injEq] at h
    obtain ⟨rfl, rfl⟩ := h
    have hps : ps.toList = [] := by
      have := hn rfl
      subst this
      unfold cParts at hq
      cases hl : ps.toList with
      | nil => rfl
      | cons q r =>
        rw [hl] at hq
        simp only [List.mapM_cons, Option.pure_def, Option.bind_eq_bind] at hq
        obtain ⟨y, hy, hq⟩ := Option.bind_eq_some_iff.1 hq
        obtain ⟨ys, hys, hq⟩ := Option.bind_eq_some_iff.1 hq
        cases hq
    exact @step_m E m ev _ _ (.buildSlice t 0 ps) True (by simp only [mop, hu, hs, k1, hag, Option.bind_some, if_true, hps]) trivial
  · rename_i hn0
    obtain ⟨r, hr, h⟩ := Option.map_eq_some_iff.1 h
    simp only [Prod.mk.injEq] at h
    obtain ⟨rfl, rfl⟩ := h
    rw [xzeros_vzeros] at hr
    obtain ⟨p, h1, h2⟩ := xbuild_vbuild (pl := fun i => some (i * s, s)) ho ps.toList qs _ _ hq hr
    have hzs : zv.cells.length = s := Option.some.inj (k4.symm.trans hs)
    exact @step_m E m ev _ _ (.buildSlice t n ps) ((s ≠ 0 ∧ zv.ok = true ∧ zv.cells.length = s ∧ n * s ≤ 16777216) ∧ p) (by simp only [mop, hu, hs, k1, hag, Option.bind_some, if_neg hn0, h1, Option.map_some]) (And.intro ⟨h0, k2, hzs, hbig⟩ h2)

theorem x_msl {t el : TypeId} {l c : Operand} {l' c' : XO} {z : List V} {ag : Bool} {s by_ : Nat} (ho : OpsR ev xe) (h1 : cO l = some l') (h2 : cO c = some c') (hu : E.P.underlying t = some (.slice el)) (hz : cZ E.P el = some z) (hag : tag E.P el = some ag)
    (hs : tsz E.P el = some s) (h0 : s ≠ 0) (hby : tby E.P el = some by_) (h : xop m xe (.msl el ag s z by_ l' c') = some (v, m')) : OStep E m ev (.makeSlice t l c) v m' := by
  obtain ⟨zv, k1, k2, rfl, k4⟩ := cZ_spec hz
  simp only [xop, ho _ _ h1, ho _ _ h2] at h
  split at h <;> first | (cases h; done) | skip
  rename_i kl n kc k hl hc
  split at h <;> first | (cases h; done) | skip
  rename_i hh
  simp only [Option.some.injEq, Prod.mk.injEq] at h
  obtain ⟨rfl, rfl⟩ := h
  rw [xzeros_vzeros]
  have hzs : zv.cells.length = s := Option.some.inj (k4.symm.trans hs)
  exact @step_m E m ev _ _ (.makeSlice t l c) (0 ≤ n ∧ n ≤ k ∧ k ≤ 1073741824 ∧ (by_ : Int) * k ≤ 281474976710656 ∧ zv.ok = true ∧ zv.cells.length = s ∧ s ≠ 0) (by simp only [mop, hu, hl, hc, hs, k1, hag, hby, Option.bind_some, Option.map_some]) ⟨hh.1, hh.2.1, hh.2.2.1, hh.2.2.2, k2, hzs, h0⟩

theorem x_mmp {t : TypeId} (h : xop m xe .mmp = some (v, m')) : OStep E m ev (.makeMap t none) v m' := by
  simp only [xop, Option.some.injEq, Prod.mk.injEq] at h
  obtain ⟨rfl, rfl⟩ := h
  exact @step_m E m ev _ _ (.makeMap t none) True (by simp only [mop]) trivial

theorem x_min {x y : Operand} {x' y' : XO} {ts : Array TypeId} (ho : OpsR ev xe) (h1 : cO x = some x') (h2 : cO y = some y') (h : xop m xe (.min x' y') = some (v, m')) : OStep E m ev (.call { callee := .builtin .min, args := #[x, y], argTypes := ts }) v m' := by
  simp only [xop, ho _ _ h1, ho _ _ h2] at h
  split at h <;> first | (cases h; done) | skip
  rename_i k a k' b ha hb
  split at h <;> first | (cases h; done) | skip
  rename_i hk
  simp only [Option.some.injEq, Prod.mk.injEq] at h
  obtain ⟨rfl, rfl⟩ := h
  exact @step_v E m ev _ _ True (by simp only [vop, List.map_cons, List.map_nil, ha, hb, hk, if_true]) trivial

theorem x_max {x y : Operand} {x' y' : XO} {ts : Array TypeId} (ho : OpsR ev xe) (h1 : cO x = some x') (h2 : cO y = some y') (h : xop m xe (.max x' y') = some (v, m')) : OStep E m ev (.call { callee := .builtin .max, args := #[x, y], argTypes := ts }) v m' := by
  simp only [xop, ho _ _ h1, ho _ _ h2] at h
  split at h <;> first | (cases h; done) | skip
  rename_i k a k' b ha hb
  split at h <;> first | (cases h; done) | skip
  rename_i hk
  simp only [Option.some.injEq, Prod.mk.injEq] at h
  obtain ⟨rfl, rfl⟩ := h
  exact @step_v E m ev _ _ True (by simp only [vop, List.map_cons, List.map_nil, ha, hb, hk, if_true]) trivial

theorem x_lens {t : TypeId} {x : Operand} {x' : XO} (ho : OpsR ev xe) (h1 : cO x = some x') (hu : E.P.underlying t = some .string) (h : xop m xe (.lens x') = some (v, m')) :
    OStep E m ev (.call { callee := .builtin .len, args := #[x], argTypes := #[t] }) v m' := by
  simp only [xop, ho _ _ h1] at h
  split at h <;> first | (cases h; done) | skip
  rename_i l hx
  simp only [Option.some.injEq, Prod.mk.injEq] at h
  obtain ⟨rfl, rfl⟩ := h
  exact @step_v E m ev _ _ True (by simp only [vop, hu, hx]) trivial

theorem x_len {t el : TypeId} {x : Operand} {x' : XO} (ho : OpsR ev xe) (h1 : cO x = some x') (hu : E.P.underlying t = some (.slice el)) (h : xop m xe (.len x') = some (v, m')) :
    OStep E m ev (.call { callee := .builtin .len, args := #[x], argTypes := #[t] }) v m' := by
  simp only [xop, ho _ _ h1] at h
  split at h <;> first | (cases h; done) | skip
  all_goals
    rename_i hx
    simp only [Option.some.injEq, Prod.mk.injEq] at h
    obtain ⟨rfl, rfl⟩ := h
    exact @step_v E m ev _ _ True (by simp only [vop, hu, hx]) trivial

theorem x_lena {t el : TypeId} {n : Nat} {x : Operand} (hu : E.P.underlying t = some (.array n el)) (h : xop m xe (.lena n) = some (v, m')) :
    OStep E m ev (.call { callee := .builtin .len, args := #[x], argTypes := #[t] }) v m' := by
  simp only [xop, Option.some.injEq, Prod.mk.injEq] at h
  obtain ⟨rfl, rfl⟩ := h
  exact @step_v E m ev _ _ True (by simp only [vop, hu]) trivial

theorem xcells_vcells {s k : Nat} {w : V} {ys : List V} (h : xcells m s w = some (k, ys)) : ∃ p, vcells m s w = some (k, ys, p) ∧ p := by
  unfold xcells at h
  split at h <;> first | (cases h; done) | skip
  · rename_i rows
    split at h <;> first | (cases h; done) | skip
    rename_i hc
    simp only [Option.some.injEq, Prod.mk.injEq] at h
    obtain ⟨rfl, rfl⟩ := h
    simp only [List.all_eq_true, Bool.and_eq_true, decide_eq_true_eq] at hc
    exact ⟨_, rfl, fun r hr => (hc r hr).1, fun r hr => (hc r hr).2⟩
  · simp only [Option.some.injEq, Prod.mk.injEq] at h
    obtain ⟨rfl, rfl⟩ := h
    exact ⟨_, rfl, trivial⟩
  · rename_i b e off len cap
    split at h <;> first | (cases h; done) | skip
    rename_i cells ty ag sz ep hm
    split at h <;> first | (cases h; done) | skip
    rename_i hh
    dsimp only at h
    split at h <;> first | (cases h; done) | skip
    rename_i hone
    simp only [Option.some.injEq, Prod.mk.injEq] at h
    obtain ⟨rfl, rfl⟩ := h
    exact ⟨ep = e ∧ sz = s ∧ off + len * s ≤ cells.length ∧ ((cells.drop off).take (len * s)).all V.one = true, by simp only [vcells, hm], hh.1, hh.2.1, hh.2.2, hone⟩

theorem x_app {t t2 el el2 : TypeId} {x y : Operand} {x' y' : XO} {z : List V} {ag : Bool} {s by_ : Nat} (ho : OpsR ev xe) (h1 : cO x = some x') (h2 : cO y = some y') (hu : E.P.underlying t = some (.slice el)) (hu2 : E.P.underlying t2 = some (.slice el2))
    (hz : cZ E.P el = some z) (hag : tag E.P el = some ag) (hs : tsz E.P el = some s) (h0 : s ≠ 0) (hby : tby E.P el = some by_) (h : xop m xe (.app el ag s by_ x' y') = some (v, m')) :
    OStep E m ev (.call { callee := .builtin .append, args := #[x, y], argTypes := #[t, t2] }) v m' := by
  obtain ⟨zv, k1, k2, rfl, k4⟩ := cZ_spec hz
  have hzs : zv.cells.length = s := Option.some.inj (k4.symm.trans hs)
  simp only [xop, ho _ _ h1, ho _ _ h2] at h
  split at h <;> first | (cases h; done) | skip
  rename_i k ys hc
  obtain ⟨p, c1, c2⟩ := xcells_vcells hc
  split at h <;> first | (cases h; done) | skip
  · rename_i hx
    split at h <;> first | (cases h; done) | skip
    rename_i hh
    simp only [Option.some.injEq, Prod.mk.injEq] at h
    obtain ⟨rfl, rfl⟩ := h
    exact @mappend_sound E m ev x y t t2 _ _ (((zv.ok = true ∧ zv.cells.length = s) ∧ s ≠ 0 ∧ k ≤ 1073741824 ∧ k * by_ ≤ 140737488355328) ∧ p) (by simp only [mappend, hu, hu2, hs, hby, hag, k1, c1, hx, Option.bind_some]) ⟨⟨⟨k2, hzs⟩, h0, hh.1, hh.2⟩, c2⟩
  · rename_i b e off len cap hx
    split at h <;> first | (cases h; done) | skip
    rename_i cells ty ag' sz ep hm
    split at h <;> first | (cases h; done) | skip
    rename_i hh
    simp only [Option.some.injEq, Prod.mk.injEq] at h
    obtain ⟨rfl, rfl⟩ := h
    exact @mappend_sound E m ev x y t t2 _ _ (((zv.ok = true ∧ zv.cells.length = s) ∧ s ≠ 0 ∧ ep = e ∧ sz = s ∧ ty = el ∧ off + len * s ≤ cells.length ∧ len + k ≤ 1073741824 ∧ (len + k) * by_ ≤ 140737488355328) ∧ p)
      (by simp only [mappend, hu, hu2, hs, hby, hag, k1, c1, hx, hm, Option.bind_some]) ⟨⟨⟨k2, hzs⟩, h0, hh⟩, c2⟩

end
end Go.VC

/- The machine's operations do what the program's do: comparisons. -/
namespace Go.VC
open Go Go.RowKit

section
variable {E : Env} {m : XM} {ev : Operand → V} {xe : XO → V} {v : V} {m' : XM}

/-- The kinds that the calculus compares. -/
theorem xeq_vbin {t : TypeId} {k : XK} {x y : V} {b neg : Bool} {yo : Operand} (hk : cK E.P t yo = some k) (hf : ∀ ks, k ≠ .flat ks) (hi : k ≠ .ifc) (h : xeq k x y = some b) :
    ∃ p, vbin E (if neg then .neq else .eql) t x y = some (.bool (b != neg), p) ∧ p := by
  have hu : ∃ d, E.P.underlying t = some d ∧ ((k = .bool → d = .bool) ∧ (k = .ptr → ∃ e, d = .pointer e) ∧ (k = .map → ∃ a b, d = .map a b) ∧ (k = .fn → ∃ a b c, d = .func a b c)) := by
    unfold cK at hk
    split at hk <;> first | (cases hk; done) | skip
    all_goals
      rename_i hu
      refine ⟨_, hu, ?_⟩
    all_goals try (simp only [Option.some.injEq] at hk; subst hk; simp; done)
    · split at hk <;> first | (cases hk; done) | skip
      simp only [Option.some.injEq] at hk; subst hk; simp
    · obtain ⟨l, _, rfl⟩ := Option.map_eq_some_iff.1 hk
      simp
  obtain ⟨d, hu, hb, hp, hm, hfn⟩ := hu
  unfold xeq at h
  split at h <;> first | (cases h; done) | (exact absurd rfl (hf _)) | (exact absurd rfl hi) | skip
  · split at h <;> first | (cases h; done) | skip
    rename_i hkk
    simp only [Option.some.injEq] at h
    subst h
    cases neg
    · exact ⟨True, by simp [vbin, varith, hkk], trivial⟩
    · exact ⟨True, by simp [vbin, varith, hkk, bne], trivial⟩
  · simp only [Option.some.injEq] at h
    subst h
    cases neg
    · exact ⟨True, by simp [vbin, vstr], trivial⟩
    · exact ⟨True, by simp [vbin, vstr, bne], trivial⟩
  · simp only [Option.some.injEq] at h
    subst h
    obtain rfl := hb rfl
    cases neg
    · exact ⟨E.P.underlying t = some .bool, by simp [vbin], hu⟩
    · exact ⟨E.P.underlying t = some .bool, by simp [vbin, bne], hu⟩
  all_goals
    simp only [Option.some.injEq] at h
    subst h
  · obtain ⟨e, rfl⟩ := hp rfl
    cases neg <;> exact ⟨True, by simp [vbin, hu], trivial⟩
  · obtain ⟨e, rfl⟩ := hp rfl
    cases neg <;> exact ⟨True, by simp [vbin, hu], trivial⟩
  · obtain ⟨e, rfl⟩ := hp rfl
    cases neg <;> exact ⟨True, by simp [vbin, hu], trivial⟩
  · obtain ⟨a, b, rfl⟩ := hm rfl
    cases neg <;> exact ⟨True, by simp [vbin, hu], trivial⟩
  · obtain ⟨a, b, rfl⟩ := hm rfl
    cases neg <;> exact ⟨True, by simp [vbin, hu], trivial⟩
  · obtain ⟨a, b, rfl⟩ := hm rfl
    cases neg <;> exact ⟨True, by simp [vbin, hu], trivial⟩
  · obtain ⟨a, b, c, rfl⟩ := hfn rfl
    cases neg <;> exact ⟨True, by simp [vbin, hu], trivial⟩
  · obtain ⟨a, b, c, rfl⟩ := hfn rfl
    cases neg <;> exact ⟨True, by simp [vbin, hu], trivial⟩

end
end Go.VC

/- The machine's operations do what the program's do: structs compared. -/
namespace Go.VC
open Go Go.RowKit

theorem xsames_nil {A B : List V} {b : Bool} (h : xsames [] A B = some b) : A = [] ∧ B = [] ∧ b = true := by
  cases A <;> cases B <;> simp_all [xsames]

theorem xsames_append : ∀ (l ks : List Nat) (A B : List V) (b : Bool), xsames (l ++ ks) A B = some b →
    ∃ b1 b2, xsames l (A.take l.length) (B.take l.length) = some b1 ∧ xsames ks (A.drop l.length) (B.drop l.length) = some b2 ∧ b = (b1 && b2) := by
  intro l
  induction l with
  | nil => intro ks A B b h; exact ⟨true, b, by simp [xsames], by simpa using h, by simp⟩
  | cons k l ih =>
    intro ks A B b h
    rw [List.cons_append] at h
    unfold xsames at h
    split at h <;> first | (cases h; done) | skip
    · rename_i heq; cases heq
    · rename_i ks0 k1 a as k2 b' bs heq
      simp only [List.cons.injEq] at heq
      obtain ⟨rfl, rfl⟩ := heq
      split at h <;> first | (cases h; done) | skip
      rename_i hk
      obtain ⟨r, hr, rfl⟩ := Option.map_eq_some_iff.1 h
      obtain ⟨b1, b2, i1, i2, rfl⟩ := ih _ _ _ _ hr
      exact ⟨a == b' && b1, b2, by simp [xsames, hk, i1], by simpa using i2, by simp [Bool.and_assoc]⟩
    · rename_i ks0 a as b' bs heq
      simp only [List.cons.injEq] at heq
      obtain ⟨rfl, rfl⟩ := heq
      obtain ⟨r, hr, rfl⟩ := Option.map_eq_some_iff.1 h
      obtain ⟨b1, b2, i1, i2, rfl⟩ := ih _ _ _ _ hr
      exact ⟨a == b' && b1, b2, by simp [xsames, i1], by simpa using i2, by simp [Bool.and_assoc]⟩
    · rename_i ks0 a as b' bs heq
      simp only [List.cons.injEq] at heq
      obtain ⟨rfl, rfl⟩ := heq
      obtain ⟨r, hr, rfl⟩ := Option.map_eq_some_iff.1 h
      obtain ⟨b1, b2, i1, i2, rfl⟩ := ih _ _ _ _ hr
      exact ⟨a == b' && b1, b2, by simp [xsames, i1], by simpa using i2, by simp [Bool.and_assoc]⟩

section
variable {P : Program} {g : G} {w : World}

/-- A value and its cells. -/
def Shape (P : Program) (t : TypeId) (v : V) (cs : List V) : Prop := (tag P t = some true ∧ v = .agg cs) ∨ (tag P t = some false ∧ cs = [v])

theorem tkinds_tag {n : Nat} {t : TypeId} {l : List Nat} (h : tkinds P n t = some l) : tag P t = some true ∨ (tag P t = some false ∧ l.length = 1) := by
  cases n with
  | zero => cases h
  | succ n =>
    unfold tkinds at h
    split at h <;> first | (cases h; done) | skip
    all_goals rename_i hu
    · cases h; exact .inr ⟨by simp [tag, hu, aggD], rfl⟩
    · cases h; exact .inr ⟨by simp [tag, hu, aggD], rfl⟩
    · cases h; exact .inr ⟨by simp [tag, hu, aggD], rfl⟩
    · exact .inl (by simp [tag, hu, aggD])

theorem eqFields_kinds {K : TypeId → Option (List Nat)} {d : Nat} {as bs : List V} {xs ys : Array Value} (hK : ∀ t l, K t = some l → tag P t = some true ∨ (tag P t = some false ∧ l.length = 1))
    (hx : xs.size = as.length) (hxv : ∀ (i : Nat) c, as[i]? = some c → VR w g c (xs.getD i undef)) (hy : ys.size = bs.length) (hyv : ∀ (i : Nat) c, bs[i]? = some c → VR w g c (ys.getD i undef))
    (ih : ∀ t ks va vb as bs b cx cy, K t = some ks → Shape P t va as → Shape P t vb bs → xsames ks as bs = some b → VR w g va cx → VR w g vb cy → (Op.equalIn d t cx cy).run P w = .ok b w) :
    ∀ (fs : List Field) (o : Nat) (ks : List Nat) (b : Bool), tkL P K fs o = some ks → xsames ks (as.drop o) (bs.drop o) = some b → (Op.eqFields d xs ys fs).run P w = .ok b w := by
  have nonempty : ∀ {l : List Nat} {A B : List V} {b}, xsames l A B = some b → A.length = l.length ∧ B.length = l.length := by
    intro l
    induction l with
    | nil => intro A B b h; obtain ⟨rfl, rfl, _⟩ := xsames_nil h; simp
    | cons k l ih2 =>
      intro A B b h
      unfold xsames at h
      split at h <;> first | (cases h; done) | skip
      · rename_i heq; cases heq
      · rename_i heq
        simp only [List.cons.injEq] at heq
        obtain ⟨_, rfl⟩ := heq
        split at h <;> first | (cases h; done) | skip
        obtain ⟨r, hr, _⟩ := Option.map_eq_some_iff.1 h
        simp [ih2 hr]
      all_goals
        rename_i heq
        simp only [List.cons.injEq] at heq
        obtain ⟨_, rfl⟩ := heq
        obtain ⟨r, hr, _⟩ := Option.map_eq_some_iff.1 h
        simp [ih2 hr]
  intro fs
  induction fs with
  | nil =>
    intro o ks b hk h
    simp only [tkL, Option.some.injEq] at hk
    subst hk
    obtain ⟨_, _, rfl⟩ := xsames_nil h
    simp [Op.eqFields]
  | cons f fs ihf =>
    intro o ks b hk h
    unfold tkL at hk
    split at hk <;> first | (cases hk; done) | skip
    rename_i hn
    simp only [not_or, Decidable.not_not] at hn
    obtain ⟨hn, rfl⟩ := hn
    split at hk <;> first | (cases hk; done) | skip
    rename_i l hl
    split at hk <;> first | (cases hk; done) | skip
    rename_i hs
    obtain ⟨ks', hk', rfl⟩ := Option.map_eq_some_iff.1 hk
    obtain ⟨b1, b2, i1, i2, rfl⟩ := xsames_append _ _ _ _ _ h
    have hlen := nonempty i1
    have part_of : ∀ (cs : List V) (vs : Array Value), vs.size = cs.length → (∀ (i : Nat) c, cs[i]? = some c → VR w g c (vs.getD i undef)) → ((cs.drop f.offset).take l.length).length = l.length →
        ∃ v cv, Shape P f.type v ((cs.drop f.offset).take l.length) ∧ (part f.type vs f.offset).run P w = .ok cv w ∧ VR w g v cv := by
      intro cs vs h1 h2 h3
      rcases hK _ _ hl with ht | ⟨ht, hl1⟩
      · obtain ⟨cv, r1, r2⟩ := vpart_sound (E := ⟨P, fun _ => none⟩) (t := f.type) (cs := cs) (off := f.offset) (v := .agg ((cs.drop f.offset).take l.length)) (by simp [vpart, ht, hs]) h1 h2
        exact ⟨_, cv, .inl ⟨ht, rfl⟩, r1, r2⟩
      · rw [hl1] at h3 ⊢
        obtain ⟨v, hv⟩ : ∃ v, (cs.drop f.offset).take 1 = [v] := List.length_eq_one_iff.1 h3
        have hv0 : cs[f.offset]? = some v := by
          have : ((cs.drop f.offset).take 1)[0]? = some v := by rw [hv]; rfl
          rw [List.getElem?_take, if_pos (by omega), List.getElem?_drop] at this
          simpa using this
        obtain ⟨cv, r1, r2⟩ := vpart_sound (E := ⟨P, fun _ => none⟩) (t := f.type) (cs := cs) (off := f.offset) (v := v) (by simp [vpart, ht, hv0]) h1 h2
        exact ⟨v, cv, .inr ⟨ht, hv⟩, r1, r2⟩
    obtain ⟨va, ca, s1, p1, v1⟩ := part_of as xs hx hxv hlen.1
    obtain ⟨vb, cb, s2, p2, v2⟩ := part_of bs ys hy hyv hlen.2
    have he := ih _ _ _ _ _ _ _ _ _ hl s1 s2 i1 v1 v2
    have hrest := ihf _ _ b2 hk' (by simpa [List.drop_drop] using i2)
    simp only [Op.eqFields, hn, ne_eq, not_false_eq_true, if_true, Sem.run_bind, p1, p2, he, Result.andThen_ok]
    cases b1
    · simp
    · simpa using hrest

theorem equalIn_kinds : ∀ (n : Nat) (t : TypeId) (ks : List Nat) (d : Nat) (va vb : V) (as bs : List V) (b : Bool) (cx cy : Value), tkinds P n t = some ks → n ≤ d → Shape P t va as → Shape P t vb bs → xsames ks as bs = some b →
    VR w g va cx → VR w g vb cy → (Op.equalIn d t cx cy).run P w = .ok b w := by
  intro n
  induction n with
  | zero => intro t ks d va vb as bs b cx cy h; cases h
  | succ n ih =>
    intro t ks d va vb as bs b cx cy h hd s1 s2 hx h1 h2
    obtain ⟨d, rfl⟩ : ∃ d', d = d' + 1 := ⟨d - 1, by omega⟩
    unfold tkinds at h
    have sc : ∀ {v cs}, Shape P t v cs → tag P t = some false → cs = [v] := fun hs ht => by
      rcases hs with ⟨h1, _⟩ | ⟨_, h1⟩
      · rw [ht] at h1; cases h1
      · exact h1
    split at h <;> first | (cases h; done) | skip
    all_goals rename_i hu
    · cases h
      have ht : tag P t = some false := by simp [tag, hu, aggD]
      obtain rfl := sc s1 ht
      obtain rfl := sc s2 ht
      cases h1 <;> cases h2 <;> simp only [xsames, reduceCtorEq] at hx
      split at hx <;> first | (cases hx; done) | skip
      rename_i hk
      subst hk
      simp at hx
      subst hx
      exact run_equalIn_int w d t _ _ _ _ hu
    · cases h
      have ht : tag P t = some false := by simp [tag, hu, aggD]
      obtain rfl := sc s1 ht
      obtain rfl := sc s2 ht
      cases h1 <;> cases h2 <;> simp only [xsames, reduceCtorEq] at hx
      simp at hx
      subst hx
      exact run_equalIn_bool' w d t _ _ hu
    · cases h
      have ht : tag P t = some false := by simp [tag, hu, aggD]
      obtain rfl := sc s1 ht
      obtain rfl := sc s2 ht
      cases h1 <;> cases h2 <;> simp only [xsames, reduceCtorEq] at hx
      simp at hx
      subst hx
      rw [run_equalIn_string w d t _ _ hu, toList_mk, toList_mk]
    · rename_i fs
      split at h <;> first | (cases h; done) | skip
      rename_i hg
      simp only [Bool.or_eq_true, not_or, Bool.not_eq_true] at hg
      have ht : tag P t = some true := by simp [tag, hu, aggD]
      have ag : ∀ {v cs}, Shape P t v cs → v = .agg cs := fun hs => by
        rcases hs with ⟨_, h1⟩ | ⟨h1, _⟩
        · exact h1
        · rw [ht] at h1; cases h1
      obtain rfl := ag s1
      obtain rfl := ag s2
      have hfo : P.fieldsOf t = fs := by simp [Program.fieldsOf, hu]
      cases h1 with
      | agg _ xs hl1 hv1 =>
        cases h2 with
        | agg _ ys hl2 hv2 =>
          rw [run_equalIn_agg w d t xs ys (by rw [hfo]; exact hu) hg.1, hfo]
          exact eqFields_kinds (K := tkinds P n) (fun t l => tkinds_tag) hl1 hv1 hl2 hv2 (fun t ks va vb as bs b cx cy k1 k2 k3 k4 k5 k6 => ih t ks d va vb as bs b cx cy k1 (by omega) k2 k3 k4 k5 k6) fs.toList 0 ks b h (by simpa using hx)

end
end Go.VC

/- The machine's operations do what the program's do: all comparisons; type assertions; bytes to a string. -/
namespace Go.VC
open Go Go.RowKit

section
variable {E : Env} {m : XM} {ev : Operand → V} {xe : XO → V} {v : V} {m' : XM}

theorem run_equal_ifc' {P : Program} {w : World} {t : TypeId} {ms} (h : P.underlying t = some (.interface ms)) (d : Nat) : (Op.equalIn (d + 1) t .nilIface .nilIface).run P w = .ok true w ∧
    ∀ t' u, (Op.equalIn (d + 1) t (.iface t' u) .nilIface).run P w = .ok false w := by
  simp only [Op.equalIn]
  simp [run_underlying h]

theorem run_equal_ifc {P : Program} {w : World} {t : TypeId} {ms} (h : P.underlying t = some (.interface ms)) : (Op.equal t .nilIface .nilIface).run P w = .ok true w ∧
    ∀ t' u, (Op.equal t (.iface t' u) .nilIface).run P w = .ok false w := run_equal_ifc' h 9999

theorem x_eq {neg : Bool} {t ty : TypeId} {k : XK} {x y : Operand} {x' y' : XO} (ho : OpsR ev xe) (h1 : cO x = some x') (h2 : cO y = some y') (hk : cK E.P t y = some k) (h : xop m xe (.eq neg k x' y') = some (v, m')) :
    OStep E m ev (.binOp (if neg then .neq else .eql) t x y ty) v m' := by
  intro g w ρ hr hev
  simp only [xop, ho _ _ h1, ho _ _ h2, Option.map_eq_some_iff, Prod.mk.injEq] at h
  obtain ⟨b, hb, rfl, rfl⟩ := h
  by_cases hfl : ∃ ks, k = .flat ks
  · obtain ⟨ks, rfl⟩ := hfl
    have hx := hev x
    have hy := hev y
    unfold xeq at hb
    split at hb <;> first | (cases hb; done) | skip
    all_goals first | (rename_i hk' _ _; cases hk'; done) | skip
    rename_i ks' as bs hk' hxa hya
    cases hk'
    rw [hxa] at hx
    rw [hya] at hy
    have hs : ∃ fs, E.P.underlying t = some (.struct fs) ∧ tkinds E.P 4 t = some ks := by
      unfold cK at hk
      split at hk <;> first | (cases hk; done) | skip
      · split at hk <;> cases hk
      · rename_i fs hu
        obtain ⟨l, hl, hl2⟩ := Option.map_eq_some_iff.1 hk
        cases hl2
        exact ⟨fs, hu, hl⟩
    obtain ⟨fs, hu, hks⟩ := hs
    have hg : E.P.eqGuardType E.P.depth t = false := by
      unfold tkinds at hks
      rw [hu] at hks
      dsimp only at hks
      split at hks <;> first | (cases hks; done) | skip
      rename_i hg
      simp only [Bool.or_eq_true, not_or, Bool.not_eq_true] at hg
      exact hg.2
    have hag : tag E.P t = some true := by simp [tag, hu, aggD]
    generalize hcx : ρ x = cx at hx
    generalize hcy : ρ y = cy at hy
    have hxr := hx
    have hyr := hy
    cases hx with
    | agg _ xs _ _ =>
      cases hy with
      | agg _ ys _ _ =>
        have heq := equalIn_kinds (P := E.P) (w := w) 4 t ks 10000 _ _ as bs b _ _ hks (by omega) (.inl ⟨hag, rfl⟩) (.inl ⟨hag, rfl⟩) hb hxr hyr
        refine ⟨.bool (b != neg), w, g, fun _ _ _ _ _ => .inl ?_, hr, G.to.refl _ _, .bool _⟩
        cases neg
        · simp [execOp, hcx, hcy, run_eqGuard_agg w _ t x y xs ys hg, run_eql_struct, heq]
        · simp [execOp, hcx, hcy, run_eqGuard_agg w _ t x y xs ys hg, run_neq_struct, heq]
  by_cases hif : k = .ifc
  · subst hif
    have hx := hev x
    have hy := hev y
    have hs : ∃ ms c, E.P.underlying t = some (.interface ms) ∧ y = .const c := by
      unfold cK at hk
      split at hk <;> first | (cases hk; done) | skip
      · rename_i ms hu
        split at hk <;> first | (cases hk; done) | skip
        exact ⟨ms, _, hu, rfl⟩
      · obtain ⟨l, hl, hl2⟩ := Option.map_eq_some_iff.1 hk
        cases hl2
    obtain ⟨ms, c, hu, rfl⟩ := hs
    obtain ⟨e1, e2⟩ := run_equal_ifc (w := w) hu
    unfold xeq at hb
    split at hb <;> first | (cases hb; done) | skip
    all_goals first | (rename_i hk' _ _; cases hk'; done) | (rename_i hk' _ _ _; cases hk'; done) | skip
    all_goals
      rename_i hxa hya
      simp only [Option.some.injEq] at hb
      subst hb
      rw [hxa] at hx
      rw [hya] at hy
      generalize hcx : ρ x = cx at hx
      generalize hcy : ρ (.const c) = cy at hy
      cases hx; cases hy
      refine ⟨_, w, g, fun _ _ _ _ _ => .inl ?_, hr, G.to.refl _ _, .bool _⟩
      cases neg <;> simp [execOp, hcx, hcy, eqGuard, Go.binOp, e1, e2]
  obtain ⟨p, hp1, hp2⟩ := xeq_vbin (E := E) (t := t) (neg := neg) hk (fun ks e => hfl ⟨ks, e⟩) hif hb
  exact @step_v E m ev _ (.binOp (if neg then .neq else .eql) t x y ty) p (by simpa [vop] using hp1) hp2 g w ρ hr hev

end
end Go.VC

/- The machine's operations do what the program's do: type assertions, lookups. -/
namespace Go.VC
open Go Go.RowKit

section
variable {E : Env} {m : XM} {ev : Operand → V} {xe : XO → V} {v : V} {m' : XM}

theorem VR.two {g : G} {w : World} {a b : V} {ca cb : Value} (h1 : VR w g a ca) (h2 : VR w g b cb) : VR w g (.tup [a, b]) (.tuple #[ca, cb]) := by
  refine .tup _ _ rfl fun i c hc => ?_
  match i, hc with
  | 0, hc => simp at hc; subst hc; exact h1
  | 1, hc => simp at hc; subst hc; exact h2
  | n + 2, hc => simp at hc

theorem x_tas {t xt : TypeId} {d : TypeDesc} {z : V} {x : Operand} {x' : XO} (ho : OpsR ev xe) (h1 : cO x = some x') (hu : E.P.underlying t = some d) (hd : ∀ ms, d ≠ .interface ms) (hz : tzero E.P t = some z)
    (h : xop m xe (.tas t z x') = some (v, m')) : OStep E m ev (.typeAssert x xt t true) v m' := by
  intro g w ρ hr hev
  have hx := hev x
  simp only [xop, ho _ _ h1] at h
  obtain ⟨cz, hrz, hvz⟩ := run_zero (P := E.P) hz w
  split at h <;> first | (cases h; done) | skip
  · rename_i hxa
    simp only [Option.some.injEq, Prod.mk.injEq] at h
    obtain ⟨rfl, rfl⟩ := h
    rw [hxa] at hx
    generalize hcx : ρ x = cx at hx
    cases hx
    refine ⟨.tuple #[cz, .bool false], w, g, fun _ _ _ _ _ => .inl ?_, hr, G.to.refl _ _, (hvz g).two (.bool _)⟩
    cases d <;> first | (exact absurd rfl (hd _)) | (simp [execOp, Instr.typeAssert, hcx, run_underlying hu, hrz])
  · rename_i t' u hxa
    simp only [Option.some.injEq, Prod.mk.injEq] at h
    obtain ⟨rfl, rfl⟩ := h
    rw [hxa] at hx
    generalize hcx : ρ x = cx at hx
    cases hx with
    | ifc _ _ u' hu' =>
      by_cases ht : t = t'
      · subst ht
        refine ⟨.tuple #[u', .bool true], w, g, fun _ _ _ _ _ => .inl ?_, hr, G.to.refl _ _, by rw [if_pos rfl]; exact hu'.two (.bool _)⟩
        cases d <;> first | (exact absurd rfl (hd _)) | (simp [execOp, Instr.typeAssert, hcx, run_underlying hu])
      · refine ⟨.tuple #[cz, .bool false], w, g, fun _ _ _ _ _ => .inl ?_, hr, G.to.refl _ _, by rw [if_neg ht]; exact (hvz g).two (.bool _)⟩
        have ht' : ¬ t' = t := fun e => ht e.symm
        cases d <;> first | (exact absurd rfl (hd _)) | (simp [execOp, Instr.typeAssert, hcx, run_underlying hu, hrz, ht'])

end
end Go.VC

/- The machine's operations do what the program's do: bytes to a string. -/
namespace Go.VC
open Go Go.RowKit

section
variable {E : Env} {m : XM} {ev : Operand → V} {xe : XO → V} {v : V} {m' : XM}

def bstep (c : Value) (s : ByteArray) : Sem (ForInStep ByteArray) := match c with
  | .int .u8 n => pure (ForInStep.yield (s.push (UInt8.ofNat n.toNat)))
  | _ => do
    stuck (α := PUnit) "bytesToString: byte expected"
    pure (ForInStep.yield s)

theorem xbytes_forIn {P : Program} {w w0 : World} {g : G} : ∀ (cs : List V) (bs : List UInt8) (vs : List Value) (s : ByteArray), xbytes cs = some bs → vs.length = cs.length → (∀ (i : Nat) c, cs[i]? = some c → VR w0 g c (vs.getD i undef)) →
    (forIn vs s bstep : Sem ByteArray).run P w = .ok ⟨s.data ++ bs.toArray⟩ w := by
  intro cs
  induction cs with
  | nil =>
    intro bs vs s h hl _
    simp only [xbytes, Option.some.injEq] at h
    subst h
    obtain rfl : vs = [] := List.eq_nil_of_length_eq_zero (by simpa using hl)
    simp
  | cons c cs ih =>
    intro bs vs s h hl hv
    cases vs with
    | nil => simp at hl
    | cons u vs =>
      unfold xbytes at h
      split at h <;> first | (cases h; done) | skip
      · rename_i heq; cases heq
      · rename_i n r heq
        simp only [List.cons.injEq] at heq
        obtain ⟨rfl, rfl⟩ := heq
        obtain ⟨l, hl2, rfl⟩ := Option.map_eq_some_iff.1 h
        have h0 := hv 0 _ rfl
        simp only [List.getD_cons_zero] at h0
        cases h0
        simp only [List.forIn_cons, Sem.run_bind, bstep, Sem.run_pure, Result.andThen_ok]
        rw [ih l vs _ hl2 (by simpa using hl) (fun i c hc => by simpa using hv (i + 1) c (by simpa using hc))]
        simp

theorem x_cvb {s d el : TypeId} {x : Operand} {x' : XO} (ho : OpsR ev xe) (h1 : cO x = some x') (hs : E.P.underlying s = some (.slice el)) (hd : E.P.underlying d = some .string) (hel : E.P.underlying el = some (.int .u8)) (hsz : tsz E.P el = some 1)
    (h : xop m xe (.cvb x') = some (v, m')) : OStep E m ev (.convert s d x) v m' := by
  intro g w ρ hr hev
  have hx := hev x
  simp only [xop, ho _ _ h1] at h
  split at h <;> first | (cases h; done) | skip
  rename_i k cs hc
  obtain ⟨l, hl, h⟩ := Option.map_eq_some_iff.1 h
  simp only [Prod.mk.injEq] at h
  obtain ⟨rfl, rfl⟩ := h
  obtain ⟨p, c1, c2⟩ := xcells_vcells hc
  obtain ⟨ya, yc, arr, hcy, hkc, hrd, hcr, hsz2, hone⟩ := vcells_sound (P := E.P) (by omega) c1 c2 hr hx
  refine ⟨.string ⟨l.toArray⟩, w, g, fun _ _ _ _ _ => .inl ?_, hr, G.to.refl _ _, .str _⟩
  have hrun := hrd w fun _ => rfl
  rw [hcy] at hrun
  have hfor := xbytes_forIn (P := E.P) (w := w) cs l arr.toList ByteArray.empty hl (by simpa using hcr.1) (fun i c hc => by
    have := hcr.2 i c hc
    simpa [Array.getD_eq_getD_getElem?, List.getD_eq_getElem?_getD] using this)
  simp only [execOp, Go.convert, Sem.run_bind, run_underlying hs, run_underlying hd, hcy, Result.andThen_ok, run_underlying hel]
  cases ya with
  | none =>
    simp only [Builtin.firstCells, Sem.run_pure, Result.ok.injEq, and_true] at hrun
    subst hrun
    have hcs : cs = [] := List.eq_nil_of_length_eq_zero (by simpa using hcr.1.symm)
    subst hcs
    simp only [xbytes, Option.some.injEq] at hl
    subst hl
    rfl
  | some a =>
    simp only [Builtin.firstCells, Nat.mul_one] at hrun
    simp only [Conv.bytesToString, Sem.run_bind, hrun, Result.andThen_ok]
    rw [← Array.forIn_toList]
    change ((Sem.run E.P (forIn arr.toList ByteArray.empty bstep) w).andThen _).andThen _ = _
    rw [hfor]
    simp

end
end Go.VC

/- The machine's operations do what the program's do: the number of a map's entries. -/
namespace Go.VC
open Go Go.RowKit

section
variable {E : Env} {m : XM} {ev : Operand → V} {xe : XO → V} {v : V} {m' : XM}

/-- Where a map lies. -/
theorem Rel.mapAt {g : G} {w : World} (h : Rel g m w) {b : Nat} {es : List (V × V × Nat)} {clock : Nat} (hm : m[b]? = some (.map es clock)) {cv : Value} (hv : VR w g (.map b) cv) :
    ∃ r ces, cv = .map (some r) ∧ g.β b = some (r, 0) ∧ w.heap[r]? = some (.map ces clock) ∧ ces.size = es.length ∧
      ∀ (j : Nat) k v n, es[j]? = some (k, v, n) → ∃ e : MapEntry, ces[j]? = some e ∧ VR w g k e.key ∧ VR w g v e.val ∧ e.born = n := by
  cases hv with
  | map _ r he hb =>
    have hb := hb (h.np_of hm he).2
    obtain ⟨_, r', ces, h1, h2, h3, h4⟩ := h.objs b _ _ hm hb
    obtain rfl : r = r' := by simpa using hb.symm.trans h1
    exact ⟨r, ces, rfl, hb, h2, h3, h4⟩

theorem x_lenm {t kt et : TypeId} {x : Operand} {x' : XO} (ho : OpsR ev xe) (h1 : cO x = some x') (hu : E.P.underlying t = some (.map kt et)) (h : xop m xe (.lenm x') = some (v, m')) :
    OStep E m ev (.call { callee := .builtin .len, args := #[x], argTypes := #[t] }) v m' := by
  intro g w ρ hr hev
  have hx := hev x
  simp only [xop, ho _ _ h1] at h
  split at h <;> first | (cases h; done) | skip
  · rename_i hxa
    simp only [Option.some.injEq, Prod.mk.injEq] at h
    obtain ⟨rfl, rfl⟩ := h
    rw [hxa] at hx
    generalize hcx : ρ x = cx at hx
    cases hx
    exact ⟨_, w, g, fun _ _ _ _ _ => .inl (by simp [execOp, resolve, invoke, builtin, Builtin.len_, hcx, run_underlying hu, goInt]), hr, G.to.refl _ _, .int _ _⟩
  · rename_i ks vs hxa
    simp only [Option.some.injEq, Prod.mk.injEq] at h
    obtain ⟨rfl, rfl⟩ := h
    rw [hxa] at hx
    generalize hcx : ρ x = cx at hx
    cases hx with
    | pmap _ _ r clock es ks' vs' p1 p2 p3 hI hw e1' e2 _ _ =>
      have e1 := e1'.trans p2
      exact ⟨_, w, g, fun _ _ _ _ _ => .inl (by simp [execOp, resolve, invoke, builtin, Builtin.len_, hcx, run_underlying hu, goInt, getObj, Sem.run, hw, e1]), hr, G.to.refl _ _, .int _ _⟩
  · rename_i b hxa
    split at h <;> first | (cases h; done) | skip
    rename_i es clock hm
    simp only [Option.some.injEq, Prod.mk.injEq] at h
    obtain ⟨rfl, rfl⟩ := h
    rw [hxa] at hx
    obtain ⟨r, ces, hcx, hb, hw, e1, _⟩ := hr.mapAt hm hx
    exact ⟨_, w, g, fun _ _ _ _ _ => .inl (by simp [execOp, resolve, invoke, builtin, Builtin.len_, hcx, run_underlying hu, goInt, getObj, Sem.run, hw, e1]), hr, G.to.refl _ _, .int _ _⟩

end
end Go.VC

