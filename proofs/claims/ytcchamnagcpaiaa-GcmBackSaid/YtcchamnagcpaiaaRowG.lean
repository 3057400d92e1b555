/- 'deedboxlaw06.GcmBack' returns true whatever it is given, and that reads behind the call as it did before it. No condition. -/
import Derived.Test.YtcchamnagcpaiaaRowH
import Derived.Test.YtcchamnagcpaiaaLawG
set_option linter.unusedVariables false
namespace Go.GW
open Go Go.ChangeShapes Go.WideShapes Go.ChangeAt Go.RowKit Go.Deep
open Go.Proofs

theorem cells26_ : Try.prog.cellsOf 26 = 1 := by kernel_rfl
theorem cells5_ : Try.prog.cellsOf 5 = 1 := by kernel_rfl
theorem cells116_ : Try.prog.cellsOf 116 = 12 := by kernel_rfl
end Go.GW
namespace Go.Proofs.Ytcchamnagcpaiaa
open Go.ChangeShapes Go.WideShapes Go.ChangeAt Go.RowKit Go.GW

theorem own_gcmBack : ownKnob Try.prog.godebug = none := by kernel_rfl
theorem laid_gcmBack : laidOutB Try.prog = true := by kernel_rfl
theorem rd_gcmBack26 : Try.prog.readableRec 26 = true := by kernel_rfl
theorem rd_gcmBack116 : Try.prog.readableRec 116 = true := by kernel_rfl
theorem sm_gcmBack {n : Nat} (h : Nat.blt n Try.prog.types.size = true) : n < Try.prog.types.size := by simpa [Nat.blt_eq] using h

set_option maxRecDepth 100000 in
theorem gcmBack_lifted (os : Os) (started : os.Started) (H : Type) (enc : TypeId × Value → H) :
    ReturnsInHanded {} Try.checked os 10 .any (Rows.gcmBackSpec.pre6 enc Try.prog Try.f10 Rows.gcmBackRow.domain false) (Rows.gcmBackSpec.post enc Try.prog Try.f10 false true false false) := by
  refine returnsInHanded_of_change (C := Try.checked) own_gcmBack started (by kernel_rfl) Try.func10
    (ChangeSpec.witness6 (enc := enc) (C := Try.checked) false ⟨#[], #[.slice none 0 0, .agg #[.int .u8 0, .int .u8 0, .int .u8 0, .int .u8 0, .int .u8 0, .int .u8 0, .int .u8 0, .int .u8 0, .int .u8 0, .int .u8 0, .int .u8 0, .int .u8 0], .slice none 0 0, .slice none 0 0, .slice none 0 0], []⟩ 8 (by kernel_rfl) (by kernel_rfl) (by kernel_rfl) (by kernel_rfl)) ?_
  intro W base args ds gs before hval0 hW _ _
  have hval : ∀ (j : Nat) t v, Try.f10.params[j]? = some t → args[j]? = some v → Value.okWide Try.prog W .any base t v := hval0
  have hW' := hW
  obtain ⟨p, q, hA0, hV, rfl, hfz, hnd⟩ := hW
  have hA : DataW.TrodAll enc Try.prog W 0 (fun _ => true) true Try.f10.params.toList args.toList ds p := hA0
  rw [Try.params10] at hA hval
  obtain ⟨v0, vs0, d0, ds0, p0, q0, hargs0, rfl, rfl, h0, hR0⟩ := trodAll_cons hA
  obtain ⟨v1, vs1, d1, ds1, p1, q1, rfl, rfl, rfl, h1, hR1⟩ := trodAll_cons hR0
  obtain ⟨v2, vs2, d2, ds2, p2, q2, rfl, rfl, rfl, h2, hR2⟩ := trodAll_cons hR1
  obtain ⟨v3, vs3, d3, ds3, p3, q3, rfl, rfl, rfl, h3, hR3⟩ := trodAll_cons hR2
  obtain ⟨v4, vs4, d4, ds4, p4, q4, rfl, rfl, rfl, h4, hR4⟩ := trodAll_cons hR3
  obtain ⟨rfl, rfl, rfl⟩ := trodAll_nil hR4
  have hargs : args = #[v0, v1, v2, v3, v4] := by cases args; simp_all
  obtain ⟨rfl, rfl⟩ := trodVars_none hV
  subst hargs
  obtain ⟨a0, l0, m0, rfl⟩ := okWide_slice Try.underlying26 (hval 0 26 v0 rfl rfl)
  obtain ⟨f0, t0⟩ := trod_v h0
  obtain ⟨A0, n0, c0, xs0, e0, hb0⟩ := open_bsl Try.underlying26 Try.underlying5 cells5_ t0
  have q0 := one_v rfl e0
  rw [q0] at hW'
  obtain ⟨cs1, rfl⟩ := okWide_arr Try.underlying116 (hval 1 116 v1 rfl rfl)
  obtain ⟨f1, t1⟩ := trod_v h1
  obtain ⟨z1, e1, hb1⟩ := open_arr8 Try.underlying116 Try.underlying5 cells5_ cells116_ t1
  have q1 := agg_v e1
  rw [q1] at hW'
  obtain ⟨a2, l2, m2, rfl⟩ := okWide_slice Try.underlying26 (hval 2 26 v2 rfl rfl)
  obtain ⟨f2, t2⟩ := trod_v h2
  obtain ⟨A2, n2, c2, xs2, e2, hb2⟩ := open_bsl Try.underlying26 Try.underlying5 cells5_ t2
  have q2 := one_v rfl e2
  rw [q2] at hW'
  obtain ⟨a3, l3, m3, rfl⟩ := okWide_slice Try.underlying26 (hval 3 26 v3 rfl rfl)
  obtain ⟨f3, t3⟩ := trod_v h3
  obtain ⟨A3, n3, c3, xs3, e3, hb3⟩ := open_bsl Try.underlying26 Try.underlying5 cells5_ t3
  have q3 := one_v rfl e3
  rw [q3] at hW'
  obtain ⟨a4, l4, m4, rfl⟩ := okWide_slice Try.underlying26 (hval 4 26 v4 rfl rfl)
  obtain ⟨f4, t4⟩ := trod_v h4
  obtain ⟨A4, n4, c4, xs4, e4, hb4⟩ := open_bsl Try.underlying26 Try.underlying5 cells5_ t4
  have q4 := one_v rfl e4
  rw [q4] at hW'
  rw [q0, q1, q2, q3, q4]
  exact law_post laid_gcmBack (s := Rows.gcmBackSpec) rfl rfl rfl rfl (tb := 4) rfl Try.underlying4
    (fun t ht => by
      rw [Try.params10] at ht
      simp only [List.mem_cons, List.not_mem_nil, or_false] at ht
      rcases ht with rfl | rfl | rfl | rfl | rfl
      · exact ⟨rd_gcmBack26, sm_gcmBack (by kernel_rfl)⟩
      · exact ⟨rd_gcmBack116, sm_gcmBack (by kernel_rfl)⟩
      · exact ⟨rd_gcmBack26, sm_gcmBack (by kernel_rfl)⟩
      · exact ⟨rd_gcmBack26, sm_gcmBack (by kernel_rfl)⟩
      · exact ⟨rd_gcmBack26, sm_gcmBack (by kernel_rfl)⟩)
    hW' rfl (Back_hc hb0 hb1 hb2 hb3 hb4)

theorem gcmBack_holds : Rows.GcmBackSaid :=
  OpenClaim.holds_of_wide 10 Try.f10 rfl rfl rfl rfl rfl rfl rfl ⟨rfl, rfl, rfl, rfl, rfl⟩ rfl rfl rfl rfl rfl (by kernel_rfl) Try.func10 (by kernel_rfl)
    (of_decide_eq_true (by kernel_rfl)) (by unfold Func.isWrapper; rw [if_neg (by decide +kernel)]; exact ⟨rfl, rfl⟩)
    (fun os started H enc _ => gcmBack_lifted os started H enc)
#print axioms gcmBack_holds
end Go.Proofs.Ytcchamnagcpaiaa
