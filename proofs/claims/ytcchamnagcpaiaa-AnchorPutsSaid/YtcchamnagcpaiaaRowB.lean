/- Own words: anchors that are handed in, as the row reads them. -/
import Derived.Test.YtcchamnagcpaiaaRowA
import Derived.Test.YtcchamnagcpaiaaLawA
import Derived.OpenShut
namespace Go.GW
open Go Go.ChangeShapes Go.WideShapes Go.ChangeAt Go.RowKit Go.Deep

section
variable {H : Type} {enc : TypeId × Value → H} {w : World} {spare : Nat → Bool} {held : Bool} {fuel : Nat} {t : TypeId} {cs : List Value} {x : DataW H × List MemPlace} {P : Program}

theorem open_bsl {e : TypeId} (ht : P.underlying t = some (.slice e)) (he : P.underlying e = some (.int .u8)) (hc : P.cellsOf e = 1) (h : DataW.trod enc P w 0 spare held fuel t cs = some x) :
    ∃ A n c xs, cs = [SV.val (.sl A n c)] ∧ BS (HW w) A n c xs := by
  rcases open_ints ht he hc h with ⟨hcs, _⟩ | ⟨a, len, cap, zs, hcs, _, hl, _, hz, _, hcell, hwf⟩
  · exact ⟨none, 0, 0, [], hcs, .nil, rfl, Nat.le_refl _⟩
  · have hzl : len ≤ zs.length := by rw [hz]; split <;> omega
    refine ⟨some a, len, cap, (zs.take len).map (fun z => UInt8.ofNat z.toNat), hcs, .inr ⟨a, rfl, fun j sv hj => ?_⟩, by simp; omega, hl⟩
    rw [List.map_map] at hj
    have hjl : j < (zs.take len).length := by
      have := (List.getElem?_eq_some_iff.1 hj).1
      simpa using this
    rw [List.length_take] at hjl
    have hj2 : j < zs.length := by omega
    rw [List.getElem?_map, List.getElem?_take, if_pos (by omega), List.getElem?_eq_getElem hj2] at hj
    simp only [Option.map_some, Option.some.injEq, Function.comp] at hj
    subst hj
    rw [cellH_HW, hcell j hj2]
    have hb := bounds_u8 (hwf zs[j] (List.getElem_mem hj2))
    have hd : zs.getD j 0 = zs[j] := by simp [hj2]
    rw [hd]
    simp only [SV.val, UInt8.toNat_ofNat']
    congr 2
    omega

theorem cells_get {base : Nat} {a : Addr} {n : Nat} {cs : List Value} (h : w.cells? base a n = some cs) : cs.length = n ∧ ∀ i, i < n → w.cell? (a.add i) = cs[i]? := by
  unfold World.cells? at h
  split at h
  · have hl := mapM_some_length h
    refine ⟨by simpa using hl, fun i hi => ?_⟩
    exact mapM_some_get h i i (by simp [hi])
  · cases h

theorem open_kek {fb fg fk : Field} {e : TypeId} (ht : P.underlying t = some (.struct #[fb, fg, fk])) (hb : P.underlying fb.type = some (.int .i64)) (hg : P.underlying fg.type = some (.int .i64)) (hk : P.underlying fk.type = some (.slice e)) (he : P.underlying e = some (.int .u8))
    (hc : P.cellsOf e = 1) (hc3 : P.cellsOf t = 3) (o0 : fb.offset = 0) (o1 : fg.offset = 1) (o2 : fk.offset = 2) (c0 : P.cellsOf fb.type = 1) (c1 : P.cellsOf fg.type = 1) (c2 : P.cellsOf fk.type = 1)
    (h : DataW.trod enc P w 0 spare held fuel t cs = some x) : ∃ k : Kk, cs = SV.vals k.cells ∧ k.k.ok (HW w) := by
  obtain ⟨xs, n, _, _, hl, hxs, hf⟩ := DataW.trod_struct ht h
  rw [hc3] at hl
  obtain ⟨v0, v1, v2, rfl⟩ : ∃ v0 v1 v2, cs = [v0, v1, v2] := by
    match cs, hl with
    | [a, b, c], _ => exact ⟨a, b, c, rfl⟩
  have hx3 : xs.length = 3 := hxs
  have h0 := hf 0 fb rfl
  have h1 := hf 1 fg rfl
  have h2 := hf 2 fk rfl
  rw [o0, c0] at h0
  rw [o1, c1] at h1
  rw [o2, c2] at h2
  simp only [List.drop_zero, List.drop_succ_cons, List.take_succ_cons, List.take_zero] at h0 h1 h2
  rw [List.getElem?_eq_getElem (by omega)] at h0 h1 h2
  obtain ⟨b, e0, _, _⟩ := DataW.trod_int hb h0
  obtain ⟨g, e1, _, _⟩ := DataW.trod_int hg h1
  obtain ⟨A, n', c, ks, e2, hbs⟩ := open_bsl hk he hc h2
  simp only [List.cons.injEq, and_true] at e0 e1 e2
  subst e0 e1 e2
  exact ⟨⟨b, g, ⟨A, n', c, ks⟩⟩, rfl, hbs⟩

theorem open_keks {e ek : TypeId} {fb fg fk : Field} (hts : P.underlying t = some (.slice ek)) (ht : P.underlying ek = some (.struct #[fb, fg, fk])) (hb : P.underlying fb.type = some (.int .i64)) (hg : P.underlying fg.type = some (.int .i64)) (hk : P.underlying fk.type = some (.slice e)) (he : P.underlying e = some (.int .u8))
    (hc : P.cellsOf e = 1) (hc3 : P.cellsOf ek = 3) (o0 : fb.offset = 0) (o1 : fg.offset = 1) (o2 : fk.offset = 2) (c0 : P.cellsOf fb.type = 1) (c1 : P.cellsOf fg.type = 1) (c2 : P.cellsOf fk.type = 1)
    (h : DataW.trod enc P w 0 spare held fuel t cs = some x) : ∃ A n c ks, cs = [SV.val (.sl A n c)] ∧ KS (HW w) A n c ks := by
  rcases open_slice hts h with ⟨hcs, _⟩ | ⟨a, len, cap, m, n, D, Pl, hcs, _, hl, _, hm, _, hel⟩
  · exact ⟨none, 0, 0, [], hcs, .nil, rfl, Nat.le_refl _, by simp⟩
  · have hml : len ≤ m := by rw [hm]; split <;> omega
    have hx : ∀ i, ∃ k : Kk, i < len → (∀ j, j < 3 → w.cell? ((a.add (i * 3)).add j) = (SV.vals k.cells)[j]?) ∧ k.k.ok (HW w) := by
      intro i
      by_cases hi : i < len
      · obtain ⟨cs', h1, h2⟩ := hel i (by omega)
        rw [hc3] at h1
        obtain ⟨k, rfl, hko⟩ := open_kek ht hb hg hk he hc hc3 o0 o1 o2 c0 c1 c2 h2
        exact ⟨k, fun _ => ⟨(cells_get h1).2, hko⟩⟩
      · exact ⟨default, fun h => absurd h hi⟩
    let K : Nat → Kk := fun i => Classical.choose (hx i)
    have hK : ∀ i, i < len → (∀ j, j < 3 → w.cell? ((a.add (i * 3)).add j) = (SV.vals (K i).cells)[j]?) ∧ (K i).k.ok (HW w) := fun i hi => Classical.choose_spec (hx i) hi
    refine ⟨some a, len, cap, (List.range len).map K, hcs, .inr ⟨a, rfl, fun q sv hq => ?_⟩, by simp, hl, fun y hy => ?_⟩
    · have hq3 : q < len * 3 := by
        have := (List.getElem?_eq_some_iff.1 hq).1
        rw [kcells_len] at this
        simpa using this
      have hi : q / 3 < len := by omega
      have hr : q % 3 < 3 := by omega
      have hg1 : ((List.range len).map K).getD (q / 3) default = K (q / 3) := by simp [hi]
      have hc1 : (K (q / 3)).cells[q % 3]? = some sv := by
        have hlt : q % 3 < (K (q / 3)).cells.length := hr
        obtain ⟨sv', hsv⟩ : ∃ sv', (K (q / 3)).cells[q % 3]? = some sv' := ⟨_, List.getElem?_eq_getElem hlt⟩
        have := kcells_get ((List.range len).map K) (j := q / 3) (i := q % 3) (sv := sv') (by simpa using hi) (by rw [hg1]; exact hsv)
        rw [show q / 3 * 3 + q % 3 = q by omega, hq] at this
        rw [hsv, this]
      rw [cellH_HW]
      have h1 := (hK (q / 3) hi).1 (q % 3) hr
      rw [add_add, show q / 3 * 3 + q % 3 = q by omega, vals_get, hc1] at h1
      exact h1
    · obtain ⟨i, hi, rfl⟩ := List.mem_map.1 hy
      exact (hK i (by simpa using hi)).2
end

end Go.GW
