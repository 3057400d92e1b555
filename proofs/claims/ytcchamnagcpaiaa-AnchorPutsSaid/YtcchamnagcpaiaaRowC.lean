/- 'deedboxlaw14.AnchorPuts' returns true whatever anchors and bytes it is given, and they read behind the call as they did before it. No condition. -/
import Derived.Test.YtcchamnagcpaiaaRowB
import Derived.Test.YtcchamnagcpaiaaLawC
namespace Go.GW
open Go Go.ChangeShapes Go.WideShapes Go.ChangeAt Go.RowKit Go.Deep
open Go.Proofs

theorem cells3 : Try.prog.cellsOf 3 = 1 := by kernel_rfl
theorem cells5 : Try.prog.cellsOf 5 = 1 := by kernel_rfl
theorem cells26 : Try.prog.cellsOf 26 = 1 := by kernel_rfl
theorem cells58 : Try.prog.cellsOf 58 = 1 := by kernel_rfl
theorem cells153 : Try.prog.cellsOf 153 = 3 := by kernel_rfl
theorem cells60 : Try.prog.cellsOf 60 = 8 := by kernel_rfl

set_option maxRecDepth 100000 in
theorem open_anc {H : Type} {enc : TypeId × Value → H} {w : World} {spare : Nat → Bool} {held : Bool} {fuel : Nat} {cs : List Value} {x : DataW H × List MemPlace}
    (h : DataW.trod enc Try.prog w 0 spare held fuel 60 cs = some x) : ∃ a : An, cs = SV.vals a.cells ∧ An.raw (HW w) a := by
  obtain ⟨xs, n, _, _, hl, hxs, hf⟩ := DataW.trod_struct Try.underlying60 h
  rw [cells60] at hl
  obtain ⟨v0, v1, v2, v3, v4, v5, v6, v7, rfl⟩ : ∃ v0 v1 v2 v3 v4 v5 v6 v7, cs = [v0, v1, v2, v3, v4, v5, v6, v7] := by
    match cs, hl with
    | [a, b, c, d, e, f, g, i], _ => exact ⟨a, b, c, d, e, f, g, i, rfl⟩
  have hx8 : xs.length = 8 := hxs
  have g0 : DataW.trod enc Try.prog w 0 spare held n 3 (([v0, v1, v2, v3, v4, v5, v6, v7].drop 0).take (Try.prog.cellsOf 3)) = xs[0]? := hf 0 _ rfl
  rw [cells3] at g0
  have h0 : DataW.trod enc Try.prog w 0 spare held n 3 [v0] = xs[0]? := g0
  have g1 : DataW.trod enc Try.prog w 0 spare held n 3 (([v0, v1, v2, v3, v4, v5, v6, v7].drop 1).take (Try.prog.cellsOf 3)) = xs[1]? := hf 1 _ rfl
  rw [cells3] at g1
  have h1 : DataW.trod enc Try.prog w 0 spare held n 3 [v1] = xs[1]? := g1
  have g2 : DataW.trod enc Try.prog w 0 spare held n 3 (([v0, v1, v2, v3, v4, v5, v6, v7].drop 2).take (Try.prog.cellsOf 3)) = xs[2]? := hf 2 _ rfl
  rw [cells3] at g2
  have h2 : DataW.trod enc Try.prog w 0 spare held n 3 [v2] = xs[2]? := g2
  have g3 : DataW.trod enc Try.prog w 0 spare held n 3 (([v0, v1, v2, v3, v4, v5, v6, v7].drop 3).take (Try.prog.cellsOf 3)) = xs[3]? := hf 3 _ rfl
  rw [cells3] at g3
  have h3 : DataW.trod enc Try.prog w 0 spare held n 3 [v3] = xs[3]? := g3
  have g4 : DataW.trod enc Try.prog w 0 spare held n 3 (([v0, v1, v2, v3, v4, v5, v6, v7].drop 4).take (Try.prog.cellsOf 3)) = xs[4]? := hf 4 _ rfl
  rw [cells3] at g4
  have h4 : DataW.trod enc Try.prog w 0 spare held n 3 [v4] = xs[4]? := g4
  have g5 : DataW.trod enc Try.prog w 0 spare held n 3 (([v0, v1, v2, v3, v4, v5, v6, v7].drop 5).take (Try.prog.cellsOf 3)) = xs[5]? := hf 5 _ rfl
  rw [cells3] at g5
  have h5 : DataW.trod enc Try.prog w 0 spare held n 3 [v5] = xs[5]? := g5
  have g6 : DataW.trod enc Try.prog w 0 spare held n 26 (([v0, v1, v2, v3, v4, v5, v6, v7].drop 6).take (Try.prog.cellsOf 26)) = xs[6]? := hf 6 _ rfl
  rw [cells26] at g6
  have h6 : DataW.trod enc Try.prog w 0 spare held n 26 [v6] = xs[6]? := g6
  have g7 : DataW.trod enc Try.prog w 0 spare held n 58 (([v0, v1, v2, v3, v4, v5, v6, v7].drop 7).take (Try.prog.cellsOf 58)) = xs[7]? := hf 7 _ rfl
  rw [cells58] at g7
  have h7 : DataW.trod enc Try.prog w 0 spare held n 58 [v7] = xs[7]? := g7
  rw [List.getElem?_eq_getElem (by omega)] at h0 h1 h2 h3 h4 h5 h6 h7
  obtain ⟨i0, e0, _, _⟩ := DataW.trod_int Try.underlying3 h0
  obtain ⟨i1, e1, _, _⟩ := DataW.trod_int Try.underlying3 h1
  obtain ⟨i2, e2, _, _⟩ := DataW.trod_int Try.underlying3 h2
  obtain ⟨i3, e3, _, _⟩ := DataW.trod_int Try.underlying3 h3
  obtain ⟨i4, e4, _, _⟩ := DataW.trod_int Try.underlying3 h4
  obtain ⟨i5, e5, _, _⟩ := DataW.trod_int Try.underlying3 h5
  obtain ⟨A6, n6, c6, xs6, e6, hb6⟩ := open_bsl Try.underlying26 Try.underlying5 cells5 h6
  obtain ⟨A7, n7, c7, ks7, e7, hk7⟩ := open_keks Try.underlying58 Try.underlying153 Try.underlying3 Try.underlying3 Try.underlying26 Try.underlying5 cells5 cells153 rfl rfl rfl cells3 cells3 cells26 h7
  simp only [List.cons.injEq, and_true] at e0 e1 e2 e3 e4 e5 e6 e7
  subst e0 e1 e2 e3 e4 e5 e6 e7
  exact ⟨⟨i0, i1, i2, i3, i4, i5, ⟨A6, n6, c6, xs6⟩, A7, n7, c7, ks7⟩, rfl, ⟨hb6, hk7⟩⟩

set_option maxRecDepth 100000 in
theorem open_ancv {H : Type} {enc : TypeId × Value → H} {w : World} {r : Reach} {b0 : Nat} {v : Value} {d : DataW H} {p : List MemPlace} (hv : Value.okWide Try.prog w r b0 60 v) (h : DataW.Trod enc Try.prog w 0 (fun _ => true) true 60 v d p) :
    ∃ a : An, v = SV.val (.agg a.cells) ∧ An.raw (HW w) a := by
  obtain ⟨cs, rfl, _⟩ := okWide_struct Try.underlying60 hv
  obtain ⟨fuel, hf⟩ := h
  obtain ⟨a, ha, hr⟩ := open_anc hf
  refine ⟨a, ?_, hr⟩
  simp only [Value.cells] at ha
  simp only [SV.val]
  rw [← ha]

set_option maxRecDepth 100000 in
theorem open_bslv {H : Type} {enc : TypeId × Value → H} {w : World} {r : Reach} {b0 : Nat} {v : Value} {d : DataW H} {p : List MemPlace} (hv : Value.okWide Try.prog w r b0 26 v) (h : DataW.Trod enc Try.prog w 0 (fun _ => true) true 26 v d p) :
    ∃ A n c xs, v = SV.val (.sl A n c) ∧ BS (HW w) A n c xs := by
  obtain ⟨a0, len, cap, rfl⟩ := okWide_slice Try.underlying26 hv
  obtain ⟨fuel, hf⟩ := h
  obtain ⟨A, n, c, xs, ha, hb⟩ := open_bsl Try.underlying26 Try.underlying5 cells5 hf
  refine ⟨A, n, c, xs, ?_, hb⟩
  simpa [Value.cells] using ha

end Go.GW
namespace Go.Proofs.Ytcchamnagcpaiaa
open Go.ChangeShapes Go.WideShapes Go.ChangeAt Go.RowKit Go.GW

theorem own_ : ownKnob Try.prog.godebug = none := by kernel_rfl
theorem laidOut_ : laidOutB Try.prog = true := by kernel_rfl
theorem read60 : Try.prog.readableRec 60 = true := by kernel_rfl
theorem read26 : Try.prog.readableRec 26 = true := by kernel_rfl
theorem small_ {n : Nat} (h : Nat.blt n Try.prog.types.size = true) : n < Try.prog.types.size := by simpa [Nat.blt_eq] using h

set_option maxRecDepth 100000 in
theorem anchorPuts_lifted (os : Os) (started : os.Started) (H : Type) (enc : TypeId × Value → H) :
    ReturnsInHanded {} Try.checked os 4 .any (Rows.anchorPutsSpec.pre6 enc Try.prog Try.f4 Rows.anchorPutsRow.domain false) (Rows.anchorPutsSpec.post enc Try.prog Try.f4 false true false false) := by
  refine returnsInHanded_of_change (C := Try.checked) own_ started (by kernel_rfl) Try.func4
    (ChangeSpec.witness6 (enc := enc) (C := Try.checked) false ⟨#[], #[.agg #[.int .i64 0, .int .i64 0, .int .i64 0, .int .i64 0, .int .i64 0, .int .i64 0, .slice none 0 0, .slice none 0 0], .agg #[.int .i64 0, .int .i64 0, .int .i64 0, .int .i64 0, .int .i64 0, .int .i64 0, .slice none 0 0, .slice none 0 0], .slice none 0 0], []⟩ 8 (by kernel_rfl) (by kernel_rfl) (by kernel_rfl) (by kernel_rfl)) ?_
  intro W base args ds gs before hval0 hW _ _
  have hval : ∀ (j : Nat) t v, Try.f4.params[j]? = some t → args[j]? = some v → Value.okWide Try.prog W .any base t v := hval0
  have hW' := hW
  obtain ⟨p, q, hA0, hV, rfl, hfz, hnd⟩ := hW
  have hA : DataW.TrodAll enc Try.prog W 0 (fun _ => true) true Try.f4.params.toList args.toList ds p := hA0
  rw [Try.params4] at hA hval
  obtain ⟨v0, v1, v2, d0, d1, d2, p0, p1, p2, hargs, rfl, rfl, h0, h1, h2⟩ := trodAll_three hA
  obtain ⟨rfl, rfl⟩ := trodVars_none hV
  subst hargs
  obtain ⟨a, rfl, ra⟩ := open_ancv (hval 0 60 v0 rfl rfl) h0
  obtain ⟨o, rfl, ro⟩ := open_ancv (hval 1 60 v1 rfl rfl) h1
  obtain ⟨A, n, c, xs, rfl, hx⟩ := open_bslv (hval 2 26 v2 rfl rfl) h2
  exact law_post laidOut_ (s := Rows.anchorPutsSpec) rfl rfl rfl rfl (tb := 4) rfl Try.underlying4
    (fun t ht => by
      rw [Try.params4] at ht
      simp only [List.mem_cons, List.not_mem_nil, or_false] at ht
      rcases ht with rfl | rfl | rfl
      · exact ⟨read60, small_ (by kernel_rfl)⟩
      · exact ⟨read60, small_ (by kernel_rfl)⟩
      · exact ⟨read26, small_ (by kernel_rfl)⟩)
    hW' rfl (Puts_hc ra ro hx)

theorem anchorPuts_holds : Rows.AnchorPutsSaid :=
  OpenClaim.holds_of_wide 4 Try.f4 rfl rfl rfl rfl rfl rfl rfl ⟨rfl, rfl, rfl, rfl, rfl⟩ rfl rfl rfl rfl rfl (by kernel_rfl) Try.func4 (by kernel_rfl)
    (of_decide_eq_true (by kernel_rfl)) (by unfold Func.isWrapper; rw [if_neg (by decide +kernel)]; exact ⟨rfl, rfl⟩)
    (fun os started H enc _ => anchorPuts_lifted os started H enc)
end Go.Proofs.Ytcchamnagcpaiaa
