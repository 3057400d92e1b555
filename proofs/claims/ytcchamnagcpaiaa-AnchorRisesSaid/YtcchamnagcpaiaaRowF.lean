/- 'deedboxlaw14.AnchorRises' returns true whatever acts it is given, and they read behind the call as they did before it. No condition. -/
import Derived.Test.YtcchamnagcpaiaaRowH
import Derived.Test.YtcchamnagcpaiaaLawF
set_option linter.unusedVariables false
namespace Go.GW
open Go Go.ChangeShapes Go.WideShapes Go.ChangeAt Go.RowKit Go.Deep
open Go.Proofs

theorem cells153_ : Try.prog.cellsOf 153 = 3 := by kernel_rfl
theorem cells3_ : Try.prog.cellsOf 3 = 1 := by kernel_rfl
theorem cells26_ : Try.prog.cellsOf 26 = 1 := by kernel_rfl
theorem cells5_ : Try.prog.cellsOf 5 = 1 := by kernel_rfl
theorem cells60_ : Try.prog.cellsOf 60 = 8 := by kernel_rfl
theorem cells58_ : Try.prog.cellsOf 58 = 1 := by kernel_rfl
theorem cells86_ : Try.prog.cellsOf 86 = 14 := by kernel_rfl
theorem cells4_ : Try.prog.cellsOf 4 = 1 := by kernel_rfl
set_option maxRecDepth 100000 in
theorem open_153 {H : Type} {enc : TypeId × Value → H} {w : World} {spare : Nat → Bool} {held : Bool} {fuel : Nat} {cs : List Value} {x : DataW H × List MemPlace} (h : DataW.trod enc Try.prog w 0 spare held fuel 153 cs = some x) :
    ∃ a : Kk, cs = SV.vals (a.cells) ∧ a.k.ok (HW w) := by
  obtain ⟨xs, n, _, _, hl, hxs, hf⟩ := DataW.trod_struct Try.underlying153 h
  rw [cells153_] at hl
  obtain ⟨v0, v1, v2, rfl⟩ : ∃ v0 v1 v2, cs = [v0, v1, v2] := by
    match cs, hl with
    | [w0, w1, w2], _ => exact ⟨w0, w1, w2, rfl⟩
  have hxk : xs.length = 3 := hxs
  have g0 : DataW.trod enc Try.prog w 0 spare held n 3 (([v0, v1, v2].drop 0).take (Try.prog.cellsOf 3)) = xs[0]? := hf 0 _ rfl
  rw [cells3_, List.getElem?_eq_getElem (by omega)] at g0
  have h0 : DataW.trod enc Try.prog w 0 spare held n 3 [v0] = some (xs[0]'(by omega)) := g0
  clear g0
  have g1 : DataW.trod enc Try.prog w 0 spare held n 3 (([v0, v1, v2].drop 1).take (Try.prog.cellsOf 3)) = xs[1]? := hf 1 _ rfl
  rw [cells3_, List.getElem?_eq_getElem (by omega)] at g1
  have h1 : DataW.trod enc Try.prog w 0 spare held n 3 [v1] = some (xs[1]'(by omega)) := g1
  clear g1
  have g2 : DataW.trod enc Try.prog w 0 spare held n 26 (([v0, v1, v2].drop 2).take (Try.prog.cellsOf 26)) = xs[2]? := hf 2 _ rfl
  rw [cells26_, List.getElem?_eq_getElem (by omega)] at g2
  have h2 : DataW.trod enc Try.prog w 0 spare held n 26 [v2] = some (xs[2]'(by omega)) := g2
  clear g2
  obtain ⟨i0, e0, lo0, hi0⟩ := open_i Try.underlying3 h0
  simp only [List.cons.injEq, and_true] at e0
  subst e0
  obtain ⟨i1, e1, lo1, hi1⟩ := open_i Try.underlying3 h1
  simp only [List.cons.injEq, and_true] at e1
  subst e1
  obtain ⟨A2, n2, c2, xs2, e2, hb2⟩ := open_bsl Try.underlying26 Try.underlying5 cells5_ h2
  simp only [List.cons.injEq, and_true] at e2
  subst e2
  exact ⟨⟨i0, i1, ⟨A2, n2, c2, xs2⟩⟩, rfl, hb2⟩

theorem open_58 {H : Type} {enc : TypeId × Value → H} {w : World} {spare : Nat → Bool} {held : Bool} {fuel : Nat} {cs : List Value} {x : DataW H × List MemPlace} (h : DataW.trod enc Try.prog w 0 spare held fuel 58 cs = some x) :
    ∃ A n c, ∃ ks : List (Kk), cs = [SV.val (.sl A n c)] ∧ RR (HW w) A (ks.flatMap (Kk.cells)) ∧ ks.length = n ∧ n ≤ c ∧ c ≤ maxLen ∧ ∀ k ∈ ks, (fun k => k.k.ok (HW w)) k :=
  open_rows (default) (Kk.cells) 3 (fun _ => rfl) (by decide) (fun k => k.k.ok (HW w)) Try.underlying58 cells153_ (fun h => open_153 h) h

set_option maxRecDepth 100000 in
theorem open_60 {H : Type} {enc : TypeId × Value → H} {w : World} {spare : Nat → Bool} {held : Bool} {fuel : Nat} {cs : List Value} {x : DataW H × List MemPlace} (h : DataW.trod enc Try.prog w 0 spare held fuel 60 cs = some x) :
    ∃ a : An, cs = SV.vals (a.cells) ∧ An.raw (HW w) a := by
  obtain ⟨xs, n, _, _, hl, hxs, hf⟩ := DataW.trod_struct Try.underlying60 h
  rw [cells60_] at hl
  obtain ⟨v0, v1, v2, v3, v4, v5, v6, v7, rfl⟩ : ∃ v0 v1 v2 v3 v4 v5 v6 v7, cs = [v0, v1, v2, v3, v4, v5, v6, v7] := by
    match cs, hl with
    | [w0, w1, w2, w3, w4, w5, w6, w7], _ => exact ⟨w0, w1, w2, w3, w4, w5, w6, w7, rfl⟩
  have hxk : xs.length = 8 := hxs
  have g0 : DataW.trod enc Try.prog w 0 spare held n 3 (([v0, v1, v2, v3, v4, v5, v6, v7].drop 0).take (Try.prog.cellsOf 3)) = xs[0]? := hf 0 _ rfl
  rw [cells3_, List.getElem?_eq_getElem (by omega)] at g0
  have h0 : DataW.trod enc Try.prog w 0 spare held n 3 [v0] = some (xs[0]'(by omega)) := g0
  clear g0
  have g1 : DataW.trod enc Try.prog w 0 spare held n 3 (([v0, v1, v2, v3, v4, v5, v6, v7].drop 1).take (Try.prog.cellsOf 3)) = xs[1]? := hf 1 _ rfl
  rw [cells3_, List.getElem?_eq_getElem (by omega)] at g1
  have h1 : DataW.trod enc Try.prog w 0 spare held n 3 [v1] = some (xs[1]'(by omega)) := g1
  clear g1
  have g2 : DataW.trod enc Try.prog w 0 spare held n 3 (([v0, v1, v2, v3, v4, v5, v6, v7].drop 2).take (Try.prog.cellsOf 3)) = xs[2]? := hf 2 _ rfl
  rw [cells3_, List.getElem?_eq_getElem (by omega)] at g2
  have h2 : DataW.trod enc Try.prog w 0 spare held n 3 [v2] = some (xs[2]'(by omega)) := g2
  clear g2
  have g3 : DataW.trod enc Try.prog w 0 spare held n 3 (([v0, v1, v2, v3, v4, v5, v6, v7].drop 3).take (Try.prog.cellsOf 3)) = xs[3]? := hf 3 _ rfl
  rw [cells3_, List.getElem?_eq_getElem (by omega)] at g3
  have h3 : DataW.trod enc Try.prog w 0 spare held n 3 [v3] = some (xs[3]'(by omega)) := g3
  clear g3
  have g4 : DataW.trod enc Try.prog w 0 spare held n 3 (([v0, v1, v2, v3, v4, v5, v6, v7].drop 4).take (Try.prog.cellsOf 3)) = xs[4]? := hf 4 _ rfl
  rw [cells3_, List.getElem?_eq_getElem (by omega)] at g4
  have h4 : DataW.trod enc Try.prog w 0 spare held n 3 [v4] = some (xs[4]'(by omega)) := g4
  clear g4
  have g5 : DataW.trod enc Try.prog w 0 spare held n 3 (([v0, v1, v2, v3, v4, v5, v6, v7].drop 5).take (Try.prog.cellsOf 3)) = xs[5]? := hf 5 _ rfl
  rw [cells3_, List.getElem?_eq_getElem (by omega)] at g5
  have h5 : DataW.trod enc Try.prog w 0 spare held n 3 [v5] = some (xs[5]'(by omega)) := g5
  clear g5
  have g6 : DataW.trod enc Try.prog w 0 spare held n 26 (([v0, v1, v2, v3, v4, v5, v6, v7].drop 6).take (Try.prog.cellsOf 26)) = xs[6]? := hf 6 _ rfl
  rw [cells26_, List.getElem?_eq_getElem (by omega)] at g6
  have h6 : DataW.trod enc Try.prog w 0 spare held n 26 [v6] = some (xs[6]'(by omega)) := g6
  clear g6
  have g7 : DataW.trod enc Try.prog w 0 spare held n 58 (([v0, v1, v2, v3, v4, v5, v6, v7].drop 7).take (Try.prog.cellsOf 58)) = xs[7]? := hf 7 _ rfl
  rw [cells58_, List.getElem?_eq_getElem (by omega)] at g7
  have h7 : DataW.trod enc Try.prog w 0 spare held n 58 [v7] = some (xs[7]'(by omega)) := g7
  clear g7
  obtain ⟨i0, e0, lo0, hi0⟩ := open_i Try.underlying3 h0
  simp only [List.cons.injEq, and_true] at e0
  subst e0
  obtain ⟨i1, e1, lo1, hi1⟩ := open_i Try.underlying3 h1
  simp only [List.cons.injEq, and_true] at e1
  subst e1
  obtain ⟨i2, e2, lo2, hi2⟩ := open_i Try.underlying3 h2
  simp only [List.cons.injEq, and_true] at e2
  subst e2
  obtain ⟨i3, e3, lo3, hi3⟩ := open_i Try.underlying3 h3
  simp only [List.cons.injEq, and_true] at e3
  subst e3
  obtain ⟨i4, e4, lo4, hi4⟩ := open_i Try.underlying3 h4
  simp only [List.cons.injEq, and_true] at e4
  subst e4
  obtain ⟨i5, e5, lo5, hi5⟩ := open_i Try.underlying3 h5
  simp only [List.cons.injEq, and_true] at e5
  subst e5
  obtain ⟨A6, n6, c6, xs6, e6, hb6⟩ := open_bsl Try.underlying26 Try.underlying5 cells5_ h6
  simp only [List.cons.injEq, and_true] at e6
  subst e6
  obtain ⟨A7, n7, c7, l7, e7, hb7⟩ := open_58 h7
  simp only [List.cons.injEq, and_true] at e7
  subst e7
  exact ⟨⟨i0, i1, i2, i3, i4, i5, ⟨A6, n6, c6, xs6⟩, A7, n7, c7, l7⟩, rfl, ⟨hb6, ⟨hb7.1, hb7.2.1, hb7.2.2.1, hb7.2.2.2.2⟩⟩⟩

set_option maxRecDepth 100000 in
theorem open_86 {H : Type} {enc : TypeId × Value → H} {w : World} {spare : Nat → Bool} {held : Bool} {fuel : Nat} {cs : List Value} {x : DataW H × List MemPlace} (h : DataW.trod enc Try.prog w 0 spare held fuel 86 cs = some x) :
    ∃ a : Act14, cs = SV.vals (a.cells) ∧ An.raw (HW w) a.a ∧ a.n ≤ 9223372036854775807 := by
  obtain ⟨xs, n, _, _, hl, hxs, hf⟩ := DataW.trod_struct Try.underlying86 h
  rw [cells86_] at hl
  obtain ⟨v0, v1, v2, v3, v4, v5, v6, v7, v8, v9, v10, v11, v12, v13, rfl⟩ : ∃ v0 v1 v2 v3 v4 v5 v6 v7 v8 v9 v10 v11 v12 v13, cs = [v0, v1, v2, v3, v4, v5, v6, v7, v8, v9, v10, v11, v12, v13] := by
    match cs, hl with
    | [w0, w1, w2, w3, w4, w5, w6, w7, w8, w9, w10, w11, w12, w13], _ => exact ⟨w0, w1, w2, w3, w4, w5, w6, w7, w8, w9, w10, w11, w12, w13, rfl⟩
  have hxk : xs.length = 7 := hxs
  have g0 : DataW.trod enc Try.prog w 0 spare held n 3 (([v0, v1, v2, v3, v4, v5, v6, v7, v8, v9, v10, v11, v12, v13].drop 0).take (Try.prog.cellsOf 3)) = xs[0]? := hf 0 _ rfl
  rw [cells3_, List.getElem?_eq_getElem (by omega)] at g0
  have h0 : DataW.trod enc Try.prog w 0 spare held n 3 [v0] = some (xs[0]'(by omega)) := g0
  clear g0
  have g1 : DataW.trod enc Try.prog w 0 spare held n 60 (([v0, v1, v2, v3, v4, v5, v6, v7, v8, v9, v10, v11, v12, v13].drop 1).take (Try.prog.cellsOf 60)) = xs[1]? := hf 1 _ rfl
  rw [cells60_, List.getElem?_eq_getElem (by omega)] at g1
  have h1 : DataW.trod enc Try.prog w 0 spare held n 60 [v1, v2, v3, v4, v5, v6, v7, v8] = some (xs[1]'(by omega)) := g1
  clear g1
  have g2 : DataW.trod enc Try.prog w 0 spare held n 3 (([v0, v1, v2, v3, v4, v5, v6, v7, v8, v9, v10, v11, v12, v13].drop 9).take (Try.prog.cellsOf 3)) = xs[2]? := hf 2 _ rfl
  rw [cells3_, List.getElem?_eq_getElem (by omega)] at g2
  have h2 : DataW.trod enc Try.prog w 0 spare held n 3 [v9] = some (xs[2]'(by omega)) := g2
  clear g2
  have g3 : DataW.trod enc Try.prog w 0 spare held n 3 (([v0, v1, v2, v3, v4, v5, v6, v7, v8, v9, v10, v11, v12, v13].drop 10).take (Try.prog.cellsOf 3)) = xs[3]? := hf 3 _ rfl
  rw [cells3_, List.getElem?_eq_getElem (by omega)] at g3
  have h3 : DataW.trod enc Try.prog w 0 spare held n 3 [v10] = some (xs[3]'(by omega)) := g3
  clear g3
  have g4 : DataW.trod enc Try.prog w 0 spare held n 3 (([v0, v1, v2, v3, v4, v5, v6, v7, v8, v9, v10, v11, v12, v13].drop 11).take (Try.prog.cellsOf 3)) = xs[4]? := hf 4 _ rfl
  rw [cells3_, List.getElem?_eq_getElem (by omega)] at g4
  have h4 : DataW.trod enc Try.prog w 0 spare held n 3 [v11] = some (xs[4]'(by omega)) := g4
  clear g4
  have g5 : DataW.trod enc Try.prog w 0 spare held n 3 (([v0, v1, v2, v3, v4, v5, v6, v7, v8, v9, v10, v11, v12, v13].drop 12).take (Try.prog.cellsOf 3)) = xs[5]? := hf 5 _ rfl
  rw [cells3_, List.getElem?_eq_getElem (by omega)] at g5
  have h5 : DataW.trod enc Try.prog w 0 spare held n 3 [v12] = some (xs[5]'(by omega)) := g5
  clear g5
  have g6 : DataW.trod enc Try.prog w 0 spare held n 4 (([v0, v1, v2, v3, v4, v5, v6, v7, v8, v9, v10, v11, v12, v13].drop 13).take (Try.prog.cellsOf 4)) = xs[6]? := hf 6 _ rfl
  rw [cells4_, List.getElem?_eq_getElem (by omega)] at g6
  have h6 : DataW.trod enc Try.prog w 0 spare held n 4 [v13] = some (xs[6]'(by omega)) := g6
  clear g6
  obtain ⟨i0, e0, lo0, hi0⟩ := open_i Try.underlying3 h0
  simp only [List.cons.injEq, and_true] at e0
  subst e0
  obtain ⟨i1, e1, hb1⟩ := open_60 h1
  have e1q : [v1, v2, v3, v4, v5, v6, v7, v8] = SV.vals [.i i1.seq, .i i1.epoch, .i i1.given_, .i i1.root, .i i1.rep, .i i1.pending, .sl i1.m.A i1.m.n i1.m.c, .sl i1.A i1.n i1.c] := e1
  simp only [SV.vals, List.cons.injEq, and_true] at e1q
  obtain ⟨rfl, rfl, rfl, rfl, rfl, rfl, rfl, rfl⟩ := e1q
  obtain ⟨i2, e2, lo2, hi2⟩ := open_i Try.underlying3 h2
  simp only [List.cons.injEq, and_true] at e2
  subst e2
  obtain ⟨i3, e3, lo3, hi3⟩ := open_i Try.underlying3 h3
  simp only [List.cons.injEq, and_true] at e3
  subst e3
  obtain ⟨i4, e4, lo4, hi4⟩ := open_i Try.underlying3 h4
  simp only [List.cons.injEq, and_true] at e4
  subst e4
  obtain ⟨i5, e5, lo5, hi5⟩ := open_i Try.underlying3 h5
  simp only [List.cons.injEq, and_true] at e5
  subst e5
  obtain ⟨i6, e6⟩ := open_b Try.underlying4 h6
  simp only [List.cons.injEq, and_true] at e6
  subst e6
  exact ⟨⟨i0, i1, i2, i3, i4, i5, i6⟩, rfl, ⟨hb1, hi5⟩⟩

theorem open_70 {H : Type} {enc : TypeId × Value → H} {w : World} {spare : Nat → Bool} {held : Bool} {fuel : Nat} {cs : List Value} {x : DataW H × List MemPlace} (h : DataW.trod enc Try.prog w 0 spare held fuel 70 cs = some x) :
    ∃ A n c, ∃ ks : List (Act14), cs = [SV.val (.sl A n c)] ∧ RR (HW w) A (ks.flatMap (Act14.cells)) ∧ ks.length = n ∧ n ≤ c ∧ c ≤ maxLen ∧ ∀ k ∈ ks, (fun o => An.raw (HW w) o.a ∧ o.n ≤ 9223372036854775807) k :=
  open_rows (default) (Act14.cells) 14 (fun _ => rfl) (by decide) (fun o => An.raw (HW w) o.a ∧ o.n ≤ 9223372036854775807) Try.underlying70 cells86_ (fun h => open_86 h) h

end Go.GW
namespace Go.Proofs.Ytcchamnagcpaiaa
open Go.ChangeShapes Go.WideShapes Go.ChangeAt Go.RowKit Go.GW

theorem own_anchorRises : ownKnob Try.prog.godebug = none := by kernel_rfl
theorem laid_anchorRises : laidOutB Try.prog = true := by kernel_rfl
theorem rd_anchorRises70 : Try.prog.readableRec 70 = true := by kernel_rfl
theorem sm_anchorRises {n : Nat} (h : Nat.blt n Try.prog.types.size = true) : n < Try.prog.types.size := by simpa [Nat.blt_eq] using h

set_option maxRecDepth 100000 in
theorem anchorRises_lifted (os : Os) (started : os.Started) (H : Type) (enc : TypeId × Value → H) :
    ReturnsInHanded {} Try.checked os 7 .any (Rows.anchorRisesSpec.pre6 enc Try.prog Try.f7 Rows.anchorRisesRow.domain false) (Rows.anchorRisesSpec.post enc Try.prog Try.f7 false true false false) := by
  refine returnsInHanded_of_change (C := Try.checked) own_anchorRises started (by kernel_rfl) Try.func7
    (ChangeSpec.witness6 (enc := enc) (C := Try.checked) false ⟨#[], #[.slice none 0 0], []⟩ 8 (by kernel_rfl) (by kernel_rfl) (by kernel_rfl) (by kernel_rfl)) ?_
  intro W base args ds gs before hval0 hW _ _
  have hval : ∀ (j : Nat) t v, Try.f7.params[j]? = some t → args[j]? = some v → Value.okWide Try.prog W .any base t v := hval0
  have hW' := hW
  obtain ⟨p, q, hA0, hV, rfl, hfz, hnd⟩ := hW
  have hA : DataW.TrodAll enc Try.prog W 0 (fun _ => true) true Try.f7.params.toList args.toList ds p := hA0
  rw [Try.params7] at hA hval
  obtain ⟨v0, d0, hargs, rfl, h0⟩ := trodAll_one hA
  obtain ⟨rfl, rfl⟩ := trodVars_none hV
  subst hargs
  obtain ⟨a0, l0, m0, rfl⟩ := okWide_slice Try.underlying70 (hval 0 70 v0 rfl rfl)
  obtain ⟨f0, t0⟩ := trod_v h0
  obtain ⟨A0, n0, c0, l0, e0, hb0⟩ := open_70 t0
  have q0 := one_v rfl e0
  rw [q0] at hW'
  rw [q0]
  exact law_post laid_anchorRises (s := Rows.anchorRisesSpec) rfl rfl rfl rfl (tb := 4) rfl Try.underlying4
    (fun t ht => by
      rw [Try.params7] at ht
      simp only [List.mem_cons, List.not_mem_nil, or_false] at ht
      subst ht
      exact ⟨rd_anchorRises70, sm_anchorRises (by kernel_rfl)⟩)
    hW' rfl (Rises_hc ⟨hb0.1, hb0.2.1, hb0.2.2.1, fun o ho => (hb0.2.2.2.2 o ho).1, fun o ho => (hb0.2.2.2.2 o ho).2⟩)

theorem anchorRises_holds : Rows.AnchorRisesSaid :=
  OpenClaim.holds_of_wide 7 Try.f7 rfl rfl rfl rfl rfl rfl rfl ⟨rfl, rfl, rfl, rfl, rfl⟩ rfl rfl rfl rfl rfl (by kernel_rfl) Try.func7 (by kernel_rfl)
    (of_decide_eq_true (by kernel_rfl)) (by unfold Func.isWrapper; rw [if_neg (by decide +kernel)]; exact ⟨rfl, rfl⟩)
    (fun os started H enc _ => anchorRises_lifted os started H enc)
#print axioms anchorRises_holds
end Go.Proofs.Ytcchamnagcpaiaa
