/- 'deedboxlaw06.GcmOpens' returns true whatever it is given, and that reads behind the call as it did before it. No condition. -/
import Derived.Test.YtcchamnagcpaiaaRowH
import Derived.Test.YtcchamnagcpaiaaLawI
set_option linter.unusedVariables false
namespace Go.GW
open Go Go.ChangeShapes Go.WideShapes Go.ChangeAt Go.RowKit Go.Deep
open Go.Proofs

theorem cells26_ : Try.prog.cellsOf 26 = 1 := by kernel_rfl
theorem cells5_ : Try.prog.cellsOf 5 = 1 := by kernel_rfl
end Go.GW
namespace Go.Proofs.Ytcchamnagcpaiaa
open Go.ChangeShapes Go.WideShapes Go.ChangeAt Go.RowKit Go.GW

theorem own_gcmOpens : ownKnob Try.prog.godebug = none := by kernel_rfl
theorem laid_gcmOpens : laidOutB Try.prog = true := by kernel_rfl
theorem rd_gcmOpens26 : Try.prog.readableRec 26 = true := by kernel_rfl
theorem sm_gcmOpens {n : Nat} (h : Nat.blt n Try.prog.types.size = true) : n < Try.prog.types.size := by simpa [Nat.blt_eq] using h

set_option maxRecDepth 100000 in
theorem gcmOpens_lifted (os : Os) (started : os.Started) (H : Type) (enc : TypeId × Value → H) :
    ReturnsInHanded {} Try.checked os 9 .any (Rows.gcmOpensSpec.pre6 enc Try.prog Try.f9 Rows.gcmOpensRow.domain false) (Rows.gcmOpensSpec.post enc Try.prog Try.f9 false true false false) := by
  refine returnsInHanded_of_change (C := Try.checked) own_gcmOpens started (by kernel_rfl) Try.func9
    (ChangeSpec.witness6 (enc := enc) (C := Try.checked) false ⟨#[], #[.slice none 0 0, .slice none 0 0, .slice none 0 0, .slice none 0 0], []⟩ 8 (by kernel_rfl) (by kernel_rfl) (by kernel_rfl) (by kernel_rfl)) ?_
  intro W base args ds gs before hval0 hW _ _
  have hval : ∀ (j : Nat) t v, Try.f9.params[j]? = some t → args[j]? = some v → Value.okWide Try.prog W .any base t v := hval0
  have hW' := hW
  obtain ⟨p, q, hA0, hV, rfl, hfz, hnd⟩ := hW
  have hA : DataW.TrodAll enc Try.prog W 0 (fun _ => true) true Try.f9.params.toList args.toList ds p := hA0
  rw [Try.params9] at hA hval
  obtain ⟨v0, v1, v2, v3, d0, d1, d2, d3, p0, p1, p2, p3, hargs, rfl, rfl, h0, h1, h2, h3⟩ := trodAll_four hA
  obtain ⟨rfl, rfl⟩ := trodVars_none hV
  subst hargs
  obtain ⟨a0, l0, m0, rfl⟩ := okWide_slice Try.underlying26 (hval 0 26 v0 rfl rfl)
  obtain ⟨f0, t0⟩ := trod_v h0
  obtain ⟨A0, n0, c0, xs0, e0, hb0⟩ := open_bsl Try.underlying26 Try.underlying5 cells5_ t0
  have q0 := one_v rfl e0
  rw [q0] at hW'
  obtain ⟨a1, l1, m1, rfl⟩ := okWide_slice Try.underlying26 (hval 1 26 v1 rfl rfl)
  obtain ⟨f1, t1⟩ := trod_v h1
  obtain ⟨A1, n1, c1, xs1, e1, hb1⟩ := open_bsl Try.underlying26 Try.underlying5 cells5_ t1
  have q1 := one_v rfl e1
  rw [q1] at hW'
  obtain ⟨a2, l2, m2, rfl⟩ := okWide_slice Try.underlying26 (hval 2 26 v2 rfl rfl)
  obtain ⟨f2, t2⟩ := trod_v h2
  obtain ⟨A2, n2, c2, xs2, e2, hb2⟩ := open_bsl Try.underlying26 Try.underlying5 cells5_ t2
  have q2 := one_v rfl e2
  rw [q2] at hW'
  obtain ⟨a3, l3, m3, rfl⟩ := okWide_slice Try.underlying26 (hval 3 26 v3 rfl rfl)
  obtain ⟨f3, t3⟩ := trod_v h3
  obtain ⟨A3, n3, c3, xs3, e3, hb3⟩ := open_bsl Try.underlying26 Try.underlying5 cells5_ t3
  have q3 := one_v rfl e3
  rw [q3] at hW'
  rw [q0, q1, q2, q3]
  exact law_post laid_gcmOpens (s := Rows.gcmOpensSpec) rfl rfl rfl rfl (tb := 4) rfl Try.underlying4
    (fun t ht => by
      rw [Try.params9] at ht
      simp only [List.mem_cons, List.not_mem_nil, or_false] at ht
      rcases ht with rfl | rfl | rfl | rfl
      · exact ⟨rd_gcmOpens26, sm_gcmOpens (by kernel_rfl)⟩
      · exact ⟨rd_gcmOpens26, sm_gcmOpens (by kernel_rfl)⟩
      · exact ⟨rd_gcmOpens26, sm_gcmOpens (by kernel_rfl)⟩
      · exact ⟨rd_gcmOpens26, sm_gcmOpens (by kernel_rfl)⟩)
    hW' rfl (Opens_hc hb0 hb1 hb2 hb3)

theorem gcmOpens_holds : Rows.GcmOpensSaid :=
  OpenClaim.holds_of_wide 9 Try.f9 rfl rfl rfl rfl rfl rfl rfl ⟨rfl, rfl, rfl, rfl, rfl⟩ rfl rfl rfl rfl rfl (by kernel_rfl) Try.func9 (by kernel_rfl)
    (of_decide_eq_true (by kernel_rfl)) (by unfold Func.isWrapper; rw [if_neg (by decide +kernel)]; exact ⟨rfl, rfl⟩)
    (fun os started H enc _ => gcmOpens_lifted os started H enc)
#print axioms gcmOpens_holds
end Go.Proofs.Ytcchamnagcpaiaa
