/- Own words, part O: an owned row that a callee reads and hands back. -/
import Derived.Test.YtcchamnagcpaiaaGwN
set_option linter.unusedVariables false
set_option linter.unusedSimpArgs false
namespace Go.GW
open Go

/-- A row lent for a call: the callee sees it as what all may read, and it is owned again behind the call. -/
theorem HC.lend {P : Program} {f : FuncId} {args : List SV} {S : Res} {H : Hp} {A : Option Addr} {tt : TypeId} {cs : List SV} {m : Nat} {R : Hp → SV → Res → Hp → Prop}
    (h : ∀ H1, HLe H H1 → RR H1 A cs → HC P f args S H1 (R H1)) : HC P f args (.own A tt cs m :: S) H (fun r S' H' => ∃ S0 H1 H0, S' = .own A tt cs m :: S0 ∧ H' = H ∧ R H1 r S0 H0) := by
  intro w hw
  obtain ⟨H1, h1, h2, h3⟩ := At.pub (kk := 0) hw rfl
  have h3 : At (base w (.own A tt cs m :: S) H) S H1 w := h3
  refine (h H1 h1 h2 w h3.start).mono ?_
  rintro e w' ⟨r, S0, H0, he, ha, hR⟩
  refine ⟨r, .own A tt cs m :: S0, H, he, ?_, S0, H1, H0, rfl, rfl, hR⟩
  have hd : Res.dom (.own A tt cs m :: S) = (Chunk.own A tt cs m).dom ++ S.dom := by simp [Res.dom]
  have hd' : Res.dom (.own A tt cs m :: S0) = (Chunk.own A tt cs m).dom ++ S0.dom := by simp [Res.dom]
  have hnd := hw.nd
  rw [hd] at hnd
  have hdj : ∀ g ∈ (Chunk.own A tt cs m).dom, g ∉ S.dom := fun g h1 h2 => (List.nodup_append.1 hnd).2.2 g h1 g h2 rfl
  have hlt : ∀ g ∈ (Chunk.own A tt cs m).dom, g < w.heap.size := fun g hg => hw.dom_lt (by rw [hd]; exact List.mem_append.2 (.inl hg))
  have hout : ∀ g ∈ S0.dom, g ∈ S.dom ∨ w.heap.size ≤ g := fun g hg => ha.fresh g hg
  have hle0 : ∀ g o, H g = some o → H0 g = some o := fun g o ho => ha.le g o (h1 g o ho)
  refine ⟨ha.same, ha.size, ?_, ?_, ?_, ?_, ?_, ?_, fun _ _ e => e, fun _ _ e => .inl e⟩
  · intro g hg hF
    refine ha.frame g hg fun h4 => hF ?_
    show g ∈ Res.dom (.own A tt cs m :: S)
    rw [hd]; exact List.mem_append.2 (.inr h4)
  · intro c hc
    rcases List.mem_cons.1 hc with rfl | hc
    · refine Chunk.holds_congr (hw.res _ (List.mem_cons_self ..)) fun g hg => ?_
      exact ha.frame g (hlt g hg) (hdj g hg)
    · exact ha.res c hc
  · rw [hd']
    refine List.nodup_append.2 ⟨(List.nodup_append.1 hnd).1, ha.nd, fun a h4 b h5 e => ?_⟩
    subst e
    rcases hout a h5 with h6 | h6
    · exact hdj a h4 h6
    · have := hlt a h4; omega
  · exact fun g o ho => ha.hp g o (hle0 g o ho)
  · intro g hg
    rw [hd'] at hg
    rcases List.mem_append.1 hg with hg | hg
    · exact hw.dis g (by rw [hd]; exact List.mem_append.2 (.inl hg))
    · cases hH : H g with
      | none => rfl
      | some o => have h4 := hle0 g o hH; rw [ha.dis g hg] at h4; cases h4
  · intro g hg
    rw [hd'] at hg
    rcases List.mem_append.1 hg with hg | hg
    · left; show g ∈ Res.dom (.own A tt cs m :: S); rw [hd]; exact List.mem_append.2 (.inl hg)
    · rcases hout g hg with h4 | h4
      · left; show g ∈ Res.dom (.own A tt cs m :: S); rw [hd]; exact List.mem_append.2 (.inr h4)
      · exact .inr h4

end Go.GW
