/- The table of questions and functions that JudgeKnown's row lists is to the machine what its table says. -/
import Derived.Test.YtibgbgjocbaflaaGreatDoorMm
import Derived.Below
import Derived.Test.YtibgbgjocbaflaaGreatDoorMg
namespace Go.VC.Tz
open Go Go.VC Go.RowKit Go.ChangeShapes Go.Proofs Go.Proofs.YtibgbgjocbaflaaGreatDoor

theorem str_inj {a b : String} (h : a.toUTF8.data.toList = b.toUTF8.data.toList) : a = b := by
  have h1 : a.toUTF8 = b.toUTF8 := by
    have : a.toUTF8.data = b.toUTF8.data := Array.toList_inj.1 h
    cases hx : a.toUTF8; cases hy : b.toUTF8
    rw [hx, hy] at this
    simp only at this
    rw [this]
  exact String.toByteArray_inj.1 h1

/-- The function that a name tells. -/
theorem func_of {tok : List UInt8} {ty : TypeId} {v : Value} {nm : String} {f : Nat} (h : tok = funcToken Tryz.prog (ty, v)) (h1 : nm.toUTF8.data.toList = tok) (h2 : tok.isEmpty = false) (h3 : Tryz.prog.funcNamed nm = some f) : v = .func (.func f) #[] #[] := by
  cases tok with
  | nil => cases h2
  | cons b r =>
    obtain ⟨f', fn, rfl, _, h4, h5⟩ := funcToken_tells h.symm
    have : fn.name = nm := str_inj (h5.trans h1.symm)
    rw [this, h3] at h4
    cases h4
    rfl

section
variable {W : World} {g : G}

theorem questions_of_laid (hL : laidMetH Tryz.prog Rows.judgeKnownRow.laid W) (hI : ∀ b o, b < W.heap.size → g.I b o) : VR W g (.pref [ques]) (.pointer (some ⟨0, 0, none⟩)) := by
  unfold laidMetH at hL
  rw [knownLaid] at hL
  have hq := hL.2 _ (List.mem_singleton.2 rfl)
  change funcsAt Tryz.prog W "ablaut/judge.questions" _ at hq
  obtain ⟨n0, ty0, cs0, f0, p0, hg, ht, hv, hd⟩ := hq
  obtain rfl := Option.some.inj (g0.symm.trans hg)
  obtain rfl := Option.some.inj (t0.symm.trans ht)
  obtain ⟨blk, off, cap, hcs, hcap, hrow⟩ := laid_rows (e := 150) (ds := qul) (ps := #[45]) (rs := #[46]) (vd := false) (f0 := { name := "op", type := 3, offset := 0, embedded := false, tag := "", pkgPath := "ablaut/judge", byteOffset := 0 }) (f1 := { name := "cmds", type := 148, offset := 1, embedded := false, tag := "", pkgPath := "ablaut/judge", byteOffset := 8 })
    (by kernel_rfl) (by kernel_rfl) rfl rfl rfl ⟨.i64, by kernel_rfl⟩ (by kernel_rfl) (by kernel_rfl) (by kernel_rfl) (by kernel_rfl) (by decide) (by
      intro d hd
      simp only [qul, Rows.laid_ablaut_judge_questions, DataW.funcsOut, DataW.funcsOutAll, List.mem_cons, List.not_mem_nil, or_false] at hd
      rcases hd with rfl | rfl | rfl | rfl | rfl <;> exact ⟨_, _, rfl⟩) hd
  have one : ∀ (i : Nat) (z : Int) (tok0 : List UInt8) (nm : String) (f : Nat), qul[i]? = some (.agg [.lit (.int .i64 z), .held tok0]) → nm.toUTF8.data.toList = tok0 → tok0.isEmpty = false → Tryz.prog.funcNamed nm = some f →
      W.cell? ⟨blk, off + i * 2, none⟩ = some (.int .i64 z) ∧ W.cell? ⟨blk, off + i * 2 + 1, none⟩ = some (.func (.func f) #[] #[]) := by
    intro i z tok0 nm f hi h1 h2 h3
    obtain ⟨k, n, fv, tok, x, e1, e2, e3, e4, e5⟩ := hrow i _ hi
    simp only [DataW.agg.injEq, List.cons.injEq, DataW.held.injEq, and_true] at e1
    obtain ⟨rfl, rfl⟩ := e1
    simp only [litV, V.int.injEq] at e2
    obtain ⟨rfl, rfl⟩ := e2
    exact ⟨e3, by rw [e4, func_of e5 h1 h2 h3]⟩
  obtain ⟨a0, b0⟩ := one 0 20 _ "ablaut/judge.questions$1" 359 rfl (by decide +kernel) rfl (by kernel_rfl)
  obtain ⟨a1, b1⟩ := one 1 21 _ "ablaut/judge.questions$2" 360 rfl (by decide +kernel) rfl (by kernel_rfl)
  obtain ⟨a2, b2⟩ := one 2 22 _ "ablaut/judge.questions$3" 361 rfl (by decide +kernel) rfl (by kernel_rfl)
  obtain ⟨a3, b3⟩ := one 3 23 _ "ablaut/judge.questions$4" 362 rfl (by decide +kernel) rfl (by kernel_rfl)
  obtain ⟨a4, b4⟩ := one 4 24 _ "ablaut/judge.questions$5" 363 rfl (by decide +kernel) rfl (by kernel_rfl)
  have hblk : blk < W.heap.size := by
    unfold World.cell? at a0
    split at a0 <;> first | (cases a0; done) | skip
    rename_i hh
    exact (Array.getElem?_eq_some_iff.1 hh).1
  have hmain : VR W (pureG g.I) ques (.slice (some ⟨blk, off, none⟩) qul.length cap) := by
    have hone : ∀ (i j : Nat) (r c : V), [V.agg [.int .i64 20, .fn (.func 359) [] []], .agg [.int .i64 21, .fn (.func 360) [] []], .agg [.int .i64 22, .fn (.func 361) [] []], .agg [.int .i64 23, .fn (.func 362) [] []], .agg [.int .i64 24, .fn (.func 363) [] []]][i]? = some r → r.cells[j]? = some c →
        ∃ v, W.cell? ⟨blk, off + i * 2 + j, none⟩ = some v ∧ VR W (pureG (pureG g.I).I) c v := by
      intro i j r c hi hj
      have fin : ∀ (z : Int) (f : Nat), r = .agg [.int .i64 z, .fn (.func f) [] []] → W.cell? ⟨blk, off + i * 2, none⟩ = some (.int .i64 z) → W.cell? ⟨blk, off + i * 2 + 1, none⟩ = some (.func (.func f) #[] #[]) → ∃ v, W.cell? ⟨blk, off + i * 2 + j, none⟩ = some v ∧ VR W (pureG (pureG g.I).I) c v := by
        intro z f hr ha hb
        subst hr
        match j, hj with
        | 0, hj => simp only [V.cells_agg, List.getElem?_cons_zero, Option.some.injEq] at hj; subst hj; exact ⟨_, ha, .int _ _⟩
        | 1, hj =>
          simp only [V.cells_agg, List.getElem?_cons_succ, List.getElem?_cons_zero, Option.some.injEq] at hj
          subst hj
          exact ⟨_, hb, .fn _ _ _ _ _ rfl rfl (fun i c h => by simp at h) (fun i c h => by simp at h)⟩
        | j + 2, hj => simp at hj
      match i, hi with
      | 0, hi => cases hi; exact fin 20 359 rfl a0 b0
      | 1, hi => cases hi; exact fin 21 360 rfl a1 b1
      | 2, hi => cases hi; exact fin 22 361 rfl a2 b2
      | 3, hi => cases hi; exact fin 23 362 rfl a3 b3
      | 4, hi => cases hi; exact fin 24 363 rfl a4 b4
      | i + 5, hi => simp at hi
    refine .psl _ _ 2 blk off cap (fun i j => (W.cell? ⟨blk, off + i * 2 + j, none⟩).getD undef) rfl (fun r hr => ?_) hcap (fun i r j c hi hj => hI _ _ hblk) (fun i r j c hi hj => ?_) (fun i r j c hi hj => ?_)
    · simp only [List.mem_cons, List.not_mem_nil, or_false] at hr
      rcases hr with rfl | rfl | rfl | rfl | rfl <;> rfl
    · obtain ⟨v, h1, _⟩ := hone i j r c hi hj
      rw [h1]; rfl
    · obtain ⟨v, h1, h2⟩ := hone i j r c hi hj
      rw [h1]; exact h2
  have h0 : (0 : Nat) < W.heap.size := by
    have := World.var?_cell g0 hv 0
    have h1 : cs0[0]? = some (.slice (some ⟨blk, off, none⟩) qul.length cap) := by
      rw [← Array.getElem?_toList, hcs]; rfl
    rw [h1] at this
    unfold World.cell? at this
    split at this <;> first | (cases this; done) | skip
    rename_i hh
    exact (Array.getElem?_eq_some_iff.1 hh).1
  refine pref_of (fun i => World.var?_cell g0 hv i) (fun o => hI _ o h0) fun j c hj => ?_
  cases j with
  | zero =>
    simp only [List.getElem?_cons_zero, Option.some.injEq] at hj
    subst hj
    exact ⟨_, by rw [hcs]; rfl, hmain⟩
  | succ j => simp at hj

theorem globals_of_laid (hL : laidMetH Tryz.prog Rows.judgeKnownRow.laid W) (hI : ∀ b o, b < W.heap.size → g.I b o) : GlobR ⟨Tryz.prog, gls⟩ W g := by
  obtain ⟨h2, h5, h4, h1⟩ := plain_of_laid hL hI
  have h0 := questions_of_laid hL hI
  intro n cs hn
  change gls n = some cs at hn
  match n, hn with
  | 0, hn => cases hn; exact h0
  | 1, hn => cases hn; exact h1
  | 2, hn => cases hn; exact h2
  | 3, hn => cases hn
  | 4, hn => cases hn; exact h4
  | 5, hn => cases hn; exact h5
  | n + 6, hn => cases hn

end
end Go.VC.Tz

/- JudgeKnown() returns true and leaves what was there, if the library's functions do what they are taken for. -/
namespace Go.VC.Tz
open Go Go.VC Go.RowKit Go.Proofs Go.Proofs.YtibgbgjocbaflaaGreatDoor

noncomputable def tzE : Env := ⟨Tryz.prog, gls⟩

noncomputable def libOk (x : Nat × XL) : Bool := match Tryz.prog.funcs[x.1]? with
  | some fn => !(fn.name == "runtime.NumGoroutine") && !fn.body.isNone
  | none => false

theorem libOk_true : libL.all libOk = true := by kernel_rfl

theorem mem_of_lookup {α : Type} {f : Nat} {a : α} : ∀ {l : List (Nat × α)}, l.lookup f = some a → (f, a) ∈ l
  | [], h => by cases h
  | (k, b) :: l, h => by
    simp only [List.lookup] at h
    split at h
    · rename_i he
      cases h
      have : f = k := by simpa using he
      subst this; simp
    · exact List.mem_cons_of_mem _ (mem_of_lookup h)

theorem link (hLib : LibS tzE xp) : LinkS tzE xp where
  fn := fun {f F} h => by
    change (bif (libL.lookup f).isSome then none else (Tryz.prog.funcs[f]?).bind (cF Tryz.prog (!memL.contains f))) = some F at h
    cases hc : (libL.lookup f).isSome
    · rw [hc, cond_false] at h
      obtain ⟨fn, h1, h2⟩ := Option.bind_eq_some_iff.1 h
      exact ⟨fn, _, h1, h2⟩
    · rw [hc, cond_true] at h; cases h
  lib := hLib
  libfn := fun {f L} h => by
    change libL.lookup f = some L at h
    generalize hll : libL = ll at h
    have hm : (f, L) ∈ ll := mem_of_lookup h
    rw [← hll] at hm
    have h1 : libOk (f, L) = true := List.all_eq_true.1 libOk_true _ hm
    unfold libOk at h1
    split at h1 <;> first | (cases h1; done) | skip
    rename_i fn hf
    simp only [Bool.and_eq_true, Bool.not_eq_true'] at h1
    exact ⟨fn, hf, h1.1, h1.2⟩
  gl := rfl
  mixed := by kernel_rfl

theorem known_calls (hX : LinkS tzE xp) {W : World} (hL : laidMetH Tryz.prog Rows.judgeKnownRow.laid W) : CallsIn (FZ none) 0 Tryz.prog 7 #[] W fun e W' => e = .returned (.bool true) ∧ Below W.heap.size W W' := by
  obtain ⟨N, hN⟩ := h432
  obtain ⟨v, m', h1, h2, _⟩ := hN N (Nat.le_refl _)
  have hv : v = .bool true := by
    change xfrz m' 9 v = .bool true at h2
    cases v with
    | bool b => simpa [xfrz] using h2
    | fn f a b => cases f <;> simp [xfrz] at h2
    | sl b e o n c => simp only [xfrz] at h2; split at h2 <;> first | (cases h2; done) | (split at h2 <;> cases h2)
    | ptr b e o => simp only [xfrz] at h2; split at h2 <;> first | (cases h2; done) | (split at h2 <;> cases h2)
    | map b => simp only [xfrz] at h2; split at h2 <;> cases h2
    | _ => simp [xfrz] at h2
  subst hv
  have hcs := (run_sound hX 100000 N).1 h1 (g := ({ pureG (fun _ _ => False) with lk := LK tzE } : G).iso fun b _ => b < W.heap.size) (w := W) (xs' := #[]) (Rel.iso _ fun _ _ h => h) (globals_of_laid hL fun _ _ h => h) rfl ⟨rfl, fun i v h => by simp [e432] at h⟩
  refine hcs.mono fun e W' h => ?_
  obtain ⟨g', h4, h5, cv, rfl, h6⟩ := h
  cases h6
  exact ⟨rfl, h4.env.1, h4.env.2.1, h4.env.2.2, h4.size, fun k hk => h4.oth k hk fun b c hb => by cases hb⟩

end Go.VC.Tz

/- The library's functions of this program do what they are taken for. -/
namespace Go.VC.Tz
open Go Go.VC Go.RowKit Go.Proofs

theorem someOf {α : Type} {o : Option α} (h : o.isSome = true) : ∃ z, o = some z := Option.isSome_iff_exists.1 h

theorem tag33 : tag Tryz.prog 33 = some true := by kernel_rfl
theorem tsz33 : tsz Tryz.prog 33 = some 2 := by kernel_rfl
theorem tby33 : tby Tryz.prog 33 = some 8 := by kernel_rfl
theorem cZ33 : (cZ Tryz.prog 33).isSome = true := by kernel_rfl
theorem tag9 : tag Tryz.prog 9 = some false := by kernel_rfl
theorem tsz9 : tsz Tryz.prog 9 = some 1 := by kernel_rfl
theorem tby9 : tby Tryz.prog 9 = some 16 := by kernel_rfl
theorem cZ9 : (cZ Tryz.prog 9).isSome = true := by kernel_rfl
theorem tag113 : tag Tryz.prog 113 = some true := by kernel_rfl
theorem tsz113 : tsz Tryz.prog 113 = some 3 := by kernel_rfl
theorem tby113 : tby Tryz.prog 113 = some 24 := by kernel_rfl
theorem cZ113 : (cZ Tryz.prog 113).isSome = true := by kernel_rfl
theorem tag115 : tag Tryz.prog 115 = some true := by kernel_rfl
theorem tsz115 : tsz Tryz.prog 115 = some 4 := by kernel_rfl
theorem tby115 : tby Tryz.prog 115 = some 32 := by kernel_rfl
theorem cZ115 : (cZ Tryz.prog 115).isSome = true := by kernel_rfl
theorem tag81 : tag Tryz.prog 81 = some true := by kernel_rfl
theorem tsz81 : tsz Tryz.prog 81 = some 2 := by kernel_rfl
theorem tby81 : tby Tryz.prog 81 = some 24 := by kernel_rfl
theorem cZ81 : (cZ Tryz.prog 81).isSome = true := by kernel_rfl
theorem tag3 : tag Tryz.prog 3 = some false := by kernel_rfl
theorem tsz3 : tsz Tryz.prog 3 = some 1 := by kernel_rfl
theorem tby3 : tby Tryz.prog 3 = some 8 := by kernel_rfl
theorem cZ3 : (cZ Tryz.prog 3).isSome = true := by kernel_rfl
theorem tag69 : tag Tryz.prog 69 = some true := by kernel_rfl
theorem tsz69 : tsz Tryz.prog 69 = some 18 := by kernel_rfl
theorem tby69 : tby Tryz.prog 69 = some 200 := by kernel_rfl
theorem cZ69 : (cZ Tryz.prog 69).isSome = true := by kernel_rfl
theorem tag79 : tag Tryz.prog 79 = some false := by kernel_rfl
theorem tsz79 : tsz Tryz.prog 79 = some 1 := by kernel_rfl
theorem tby79 : tby Tryz.prog 79 = some 24 := by kernel_rfl
theorem cZ79 : (cZ Tryz.prog 79).isSome = true := by kernel_rfl
theorem tag60 : tag Tryz.prog 60 = some true := by kernel_rfl
theorem tsz60 : tsz Tryz.prog 60 = some 2 := by kernel_rfl
theorem tby60 : tby Tryz.prog 60 = some 32 := by kernel_rfl
theorem cZ60 : (cZ Tryz.prog 60).isSome = true := by kernel_rfl
theorem tag83 : tag Tryz.prog 83 = some true := by kernel_rfl
theorem tsz83 : tsz Tryz.prog 83 = some 2 := by kernel_rfl
theorem tby83 : tby Tryz.prog 83 = some 40 := by kernel_rfl
theorem cZ83 : (cZ Tryz.prog 83).isSome = true := by kernel_rfl
theorem tag154 : tag Tryz.prog 154 = some true := by kernel_rfl
theorem tsz154 : tsz Tryz.prog 154 = some 25 := by kernel_rfl
theorem tby154 : tby Tryz.prog 154 = some 272 := by kernel_rfl
theorem cZ154 : (cZ Tryz.prog 154).isSome = true := by kernel_rfl
theorem tag71 : tag Tryz.prog 71 = some true := by kernel_rfl
theorem tsz71 : tsz Tryz.prog 71 = some 24 := by kernel_rfl
theorem tby71 : tby Tryz.prog 71 = some 264 := by kernel_rfl
theorem cZ71 : (cZ Tryz.prog 71).isSome = true := by kernel_rfl
theorem tag172 : tag Tryz.prog 172 = some true := by kernel_rfl
theorem tsz172 : tsz Tryz.prog 172 = some 6 := by kernel_rfl
theorem tby172 : tby Tryz.prog 172 = some 32 := by kernel_rfl
theorem cZ172 : (cZ Tryz.prog 172).isSome = true := by kernel_rfl
theorem tag66 : tag Tryz.prog 66 = some true := by kernel_rfl
theorem tsz66 : tsz Tryz.prog 66 = some 7 := by kernel_rfl
theorem tby66 : tby Tryz.prog 66 = some 64 := by kernel_rfl
theorem cZ66 : (cZ Tryz.prog 66).isSome = true := by kernel_rfl
theorem mixed : Tryz.prog.follows .mixedOrders = true := by kernel_rfl
theorem cZv33 : cZ Tryz.prog 33 = some [.int .u32 0, .int .u32 0] := by kernel_rfl
theorem lib98 : LibI Tryz.prog 98 ⟨.clone, 33, true, 2, 8⟩ :=
  .clone 23 rfl ⟨⟨Tryz.f98, Tryz.func98, rfl, rfl, rfl⟩, Tryz.underlying23, tag33, tsz33, tby33, someOf cZ33, by decide⟩
theorem lib102 : LibI Tryz.prog 102 ⟨.clone, 9, false, 1, 16⟩ :=
  .clone 35 rfl ⟨⟨Tryz.f102, Tryz.func102, rfl, rfl, rfl⟩, Tryz.underlying35, tag9, tsz9, tby9, someOf cZ9, by decide⟩
theorem lib103 : LibI Tryz.prog 103 ⟨.clone, 113, true, 3, 24⟩ :=
  .clone 36 rfl ⟨⟨Tryz.f103, Tryz.func103, rfl, rfl, rfl⟩, Tryz.underlying36, tag113, tsz113, tby113, someOf cZ113, by decide⟩
theorem lib104 : LibI Tryz.prog 104 ⟨.clone, 115, true, 4, 32⟩ :=
  .clone 37 rfl ⟨⟨Tryz.f104, Tryz.func104, rfl, rfl, rfl⟩, Tryz.underlying37, tag115, tsz115, tby115, someOf cZ115, by decide⟩
theorem lib105 : LibI Tryz.prog 105 ⟨.clone, 81, true, 2, 24⟩ :=
  .clone 38 rfl ⟨⟨Tryz.f105, Tryz.func105, rfl, rfl, rfl⟩, Tryz.underlying38, tag81, tsz81, tby81, someOf cZ81, by decide⟩
theorem lib109 : LibI Tryz.prog 109 ⟨.clone, 3, false, 1, 8⟩ :=
  .clone 79 rfl ⟨⟨Tryz.f109, Tryz.func109, rfl, rfl, rfl⟩, Tryz.underlying79, tag3, tsz3, tby3, someOf cZ3, by decide⟩
theorem lib114 : LibI Tryz.prog 114 ⟨.clone, 69, true, 18, 200⟩ :=
  .clone 22 rfl ⟨⟨Tryz.f114, Tryz.func114, rfl, rfl, rfl⟩, Tryz.underlying22, tag69, tsz69, tby69, someOf cZ69, by decide⟩
theorem lib115 : LibI Tryz.prog 115 ⟨.clone, 79, false, 1, 24⟩ :=
  .clone 39 rfl ⟨⟨Tryz.f115, Tryz.func115, rfl, rfl, rfl⟩, Tryz.underlying39, tag79, tsz79, tby79, someOf cZ79, by decide⟩
theorem lib117 : LibI Tryz.prog 117 ⟨.clone, 60, true, 2, 32⟩ :=
  .clone 42 rfl ⟨⟨Tryz.f117, Tryz.func117, rfl, rfl, rfl⟩, Tryz.underlying42, tag60, tsz60, tby60, someOf cZ60, by decide⟩
theorem lib118 : LibI Tryz.prog 118 ⟨.clone, 83, true, 2, 40⟩ :=
  .clone 43 rfl ⟨⟨Tryz.f118, Tryz.func118, rfl, rfl, rfl⟩, Tryz.underlying43, tag83, tsz83, tby83, someOf cZ83, by decide⟩
theorem lib135 : LibI Tryz.prog 135 ⟨.insert, 3, false, 1, 8⟩ :=
  .insert 79 rfl ⟨⟨Tryz.underlying79, tag3, tsz3, tby3, someOf cZ3, by decide⟩, ⟨Tryz.f135, _, Tryz.func135, rfl, rfl, rfl⟩, Tryz.underlying3⟩
theorem lib136 : LibI Tryz.prog 136 ⟨.delete, 3, false, 1, 8⟩ :=
  .delete rfl
theorem lib146 : LibI Tryz.prog 146 ⟨.clone, 154, true, 25, 272⟩ :=
  .clone 90 rfl ⟨⟨Tryz.f146, Tryz.func146, rfl, rfl, rfl⟩, Tryz.underlying90, tag154, tsz154, tby154, someOf cZ154, by decide⟩
theorem lib147 : LibI Tryz.prog 147 ⟨.clone, 71, true, 24, 264⟩ :=
  .clone 46 rfl ⟨⟨Tryz.f147, Tryz.func147, rfl, rfl, rfl⟩, Tryz.underlying46, tag71, tsz71, tby71, someOf cZ71, by decide⟩
theorem lib161 : LibI Tryz.prog 161 ⟨.replace, 33, true, 2, 8⟩ :=
  .replace 23 rfl ⟨⟨Tryz.underlying23, tag33, tsz33, tby33, someOf cZ33, by decide⟩, ⟨Tryz.f161, _, _, Tryz.func161, rfl, rfl, rfl⟩, Tryz.underlying3, ⟨_, cZv33, rfl⟩, mixed⟩
theorem lib171 : LibI Tryz.prog 171 ⟨.clone, 172, true, 6, 32⟩ :=
  .clone 67 rfl ⟨⟨Tryz.f171, Tryz.func171, rfl, rfl, rfl⟩, Tryz.underlying67, tag172, tsz172, tby172, someOf cZ172, by decide⟩
theorem lib204 : LibI Tryz.prog 204 ⟨.insert, 33, true, 2, 8⟩ :=
  .insert 23 rfl ⟨⟨Tryz.underlying23, tag33, tsz33, tby33, someOf cZ33, by decide⟩, ⟨Tryz.f204, _, Tryz.func204, rfl, rfl, rfl⟩, Tryz.underlying3⟩
theorem lib218 : LibI Tryz.prog 218 ⟨.clone, 66, true, 7, 64⟩ :=
  .clone 64 rfl ⟨⟨Tryz.f218, Tryz.func218, rfl, rfl, rfl⟩, Tryz.underlying64, tag66, tsz66, tby66, someOf cZ66, by decide⟩
theorem lib326 : LibI Tryz.prog 326 ⟨.grow, 33, true, 2, 8⟩ :=
  .grow 23 rfl ⟨⟨Tryz.underlying23, tag33, tsz33, tby33, someOf cZ33, by decide⟩, ⟨Tryz.f326, Tryz.func326, rfl, rfl, rfl⟩, Tryz.underlying3⟩

theorem lib_all : ∀ x ∈ libL, LibI Tryz.prog x.1 x.2 := by
  intro x hx
  simp only [libL, List.mem_cons, List.mem_nil_iff, or_false] at hx
  rcases hx with rfl | rfl | rfl | rfl | rfl | rfl | rfl | rfl | rfl | rfl | rfl | rfl | rfl | rfl | rfl | rfl | rfl | rfl | rfl
  · exact lib98
  · exact lib102
  · exact lib103
  · exact lib104
  · exact lib105
  · exact lib109
  · exact lib114
  · exact lib115
  · exact lib117
  · exact lib118
  · exact lib135
  · exact lib136
  · exact lib146
  · exact lib147
  · exact lib161
  · exact lib171
  · exact lib204
  · exact lib218
  · exact lib326

theorem libS : LibS tzE xp := by
  intro f L m xs r hl h g w xs' hr hg hlk hx
  exact lib_sound (E := tzE) (lib_all (f, L) (mem_of_lookup hl)) h hr hx

end Go.VC.Tz

