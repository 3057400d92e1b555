/- Own words, part N: arrays in boxes, boxes that all may read, lists that a loop fills. -/
import Derived.Test.YtcchamnagcpaiaaGwM
set_option linter.unusedVariables false
set_option linter.unusedSimpArgs false
namespace Go.GW
open Go

/-! ### a list that a loop fills from its first place on -/
def pl {α : Type} (f d : Nat → α) (n k : Nat) : List α := (List.range n).map fun i => if i < k then f i else d i
theorem pl_len {α : Type} (f d : Nat → α) (n k : Nat) : (pl f d n k).length = n := by simp [pl]
theorem pl_get {α : Type} (f d : Nat → α) (n k : Nat) (z : α) {j : Nat} (h : j < n) : (pl f d n k).getD j z = if j < k then f j else d j := by simp [pl, h]
theorem pl_set {α : Type} (f d : Nat → α) {n k : Nat} {v : α} (hv : v = f k) : (pl f d n k).set k v = pl f d n (k + 1) := by
  subst hv
  apply List.ext_getElem
  · simp [pl]
  · intro j h1 h2
    simp only [pl, List.getElem_set, List.getElem_map, List.getElem_range]
    by_cases hj : k = j
    · subst hj; simp
    · rw [if_neg hj]
      by_cases h3 : j < k
      · rw [if_pos h3, if_pos (by omega)]
      · rw [if_neg h3, if_neg (by omega)]
theorem pl_zero {α : Type} (f d : Nat → α) (n : Nat) : pl f d n 0 = (List.range n).map d := by simp [pl]
theorem pl_all {α : Type} (f d : Nat → α) {n k : Nat} (h : n ≤ k) : pl f d n k = (List.range n).map f := by
  unfold pl
  apply List.map_congr_left
  intro i hi
  rw [if_pos (Nat.lt_of_lt_of_le (List.mem_range.1 hi) h)]
theorem range_list {α : Type} (l : List α) (z : α) {n : Nat} (h : l.length = n) : (List.range n).map (fun i => l.getD i z) = l := by
  subst h
  apply List.ext_getElem
  · simp
  · intro i h1 h2
    simp at h1
    simp [h1]
theorem range_rep {α : Type} (z : α) (n : Nat) : (List.range n).map (fun _ => z) = List.replicate n z := by
  apply List.ext_getElem
  · simp
  · intro i h1 h2; simp

/-- the first k of a row -/
def rgf {α : Type} (f : Nat → α) (k : Nat) : List α := (List.range k).map f
theorem rgf_len {α : Type} (f : Nat → α) (k : Nat) : (rgf f k).length = k := by simp [rgf]
theorem rgf_snoc {α : Type} (f : Nat → α) {k : Nat} {x : α} (h : x = f k) : rgf f k ++ [x] = rgf f (k + 1) := by subst h; unfold rgf; rw [List.range_succ, List.map_append]; rfl
theorem rgf_get {α : Type} (f : Nat → α) {k i : Nat} (z : α) (h : i < k) : (rgf f k).getD i z = f i := by simp [rgf, h]
theorem rgf_map {α β : Type} (f : Nat → α) (C : α → β) {k : Nat} {x : α} (h : x = f k) : (rgf f k).map C ++ [C x] = (rgf f (k + 1)).map C := by rw [← rgf_snoc f h, List.map_append]; rfl

def z8 : Nat → UInt8 := fun _ => 0
theorem setM {α : Type} (C : α → SV) {l l' : List α} {k : Nat} {x : α} (hl : l.set k x = l') : (l.map C).set k (C x) = l'.map C := by subst hl; rw [List.map_set]

/-! ### places in a box -/
theorem nth_map {α : Type} (C : α → SV) (l : List α) (z : α) {k : Nat} (h : k < l.length) : nth (l.map C) k = some (C (l.getD k z)) := by
  rw [nth_eq]; simp [h]
theorem nth_left {l r : List SV} {k : Nat} {v : SV} (h : nth l k = some v) : nth (l ++ r) k = some v := by
  rw [nth_eq] at h ⊢
  rw [List.getElem?_append_left (List.getElem?_eq_some_iff.1 h).1]
  exact h
theorem nth_right {l r : List SV} {k j : Nat} {v : SV} (hk : k = l.length + j) (h : nth r j = some v) : nth (l ++ r) k = some v := by
  subst hk
  rw [nth_eq] at h ⊢
  rw [List.getElem?_append_right (by omega), Nat.add_sub_cancel_left]
  exact h
theorem putL_set (cs : List SV) (k : Nat) (sv : SV) (h : k < cs.length) : putL cs k [sv] = cs.set k sv := by
  rw [putL_spec cs k [sv] (by simp; omega), List.set_eq_take_append_cons_drop, if_pos h]
  simp
theorem putL_map {α : Type} (C : α → SV) (l l' : List α) {k : Nat} {x : α} (h : k < l.length) (hl : l.set k x = l') : putL (l.map C) k [C x] = l'.map C := by
  subst hl
  rw [putL_set _ _ _ (by simpa using h), List.map_set]
theorem putL_left {l r l' : List SV} {k : Nat} {x : List SV} (h : k + x.length ≤ l.length) (hl : putL l k x = l') : putL (l ++ r) k x = l' ++ r := by
  subst hl
  rw [putL_spec _ _ _ (by simp; omega), putL_spec _ _ _ h]
  rw [List.take_append_of_le_length (by omega), List.drop_append_of_le_length (by omega)]
  simp
theorem putL_right {l r r' : List SV} {k j : Nat} {x : List SV} (hk : k = l.length + j) (h : j + x.length ≤ r.length) (hl : putL r j x = r') : putL (l ++ r) k x = l ++ r' := by
  subst hk hl
  rw [putL_spec _ _ _ (by simp; omega), putL_spec _ _ _ h]
  rw [List.take_append, List.take_of_length_le (by omega), List.drop_append, List.drop_of_length_le (by omega)]
  rw [show l.length + j - l.length = j by omega, show l.length + j + x.length - l.length = j + x.length by omega]
  simp

theorem putM {α : Type} (C : α → SV) {l l' : List α} {k i : Nat} {x : α} (hk : k = i) (hi : i < l.length) (hl : l.set i x = l') : putL (l.map C) k [C x] = l'.map C := by
  subst hk; exact putL_map C l l' hi hl
theorem putMR {α : Type} (C : α → SV) {A : List SV} {l l' : List α} {k i : Nat} {x : α} (hk : k = A.length + i) (hi : i < l.length) (hl : l.set i x = l') : putL (A ++ l.map C) k [C x] = A ++ l'.map C :=
  putL_right hk (by simp; omega) (putL_map C l l' hi hl)
theorem putML {α : Type} (C : α → SV) {B : List SV} {l l' : List α} {k i : Nat} {x : α} (hk : k = i) (hi : i < l.length) (hl : l.set i x = l') : putL (l.map C ++ B) k [C x] = l'.map C ++ B :=
  putL_left (by simp; omega) (putM C hk hi hl)
theorem nthM {α : Type} (C : α → SV) {l : List α} (z : α) {k i : Nat} (hk : k = i) (hi : i < l.length) : nth (l.map C) k = some (C (l.getD i z)) := by
  subst hk; exact nth_map C l z hi
theorem putL_all (cs l : List SV) (h : l.length = cs.length) : putL cs 0 l = l := by
  rw [putL_spec cs 0 l (by omega)]
  simp [h]

/-! ### a box that all may read -/
theorem At.pubBox {B : Base} {S : Res} {H : Hp} {w : World} {gb : Nat} {tt : TypeId} {cs : List SV} {kk : Nat} (hw : At B S H w) (hb : nth S kk = some (.box gb tt cs)) : ∃ H', HLe H H' ∧ RR H' (some ⟨gb, 0, none⟩) cs ∧ At B (S.eraseIdx kk) H' w := by
  have h2 : w.heap[gb]? = some (.cells ⟨SV.vals cs⟩ tt (0, 0)) := hw.res _ (List.mem_of_getElem? (nth_get hb))
  have h7 := hw.publish hb (g := gb) (o := .cells ⟨SV.vals cs⟩ tt (0, 0)) rfl h2
  have hn : H gb = none := hw.dis gb (List.mem_flatMap.2 ⟨_, List.mem_of_getElem? (nth_get hb), by simp [Chunk.dom]⟩)
  refine ⟨_, fun g o ho => ?_, .inr ⟨_, rfl, fun j sv hj => ?_⟩, h7⟩
  · unfold Hp.add
    split
    · rename_i hgb; subst hgb; rw [hn] at ho; cases ho
    · exact ho
  · rw [add_lit, Nat.zero_add]
    have h8 : (SV.vals cs)[j]? = some sv.val := by rw [vals_get, hj]; rfl
    unfold cellH Hp.add
    simp [h8]
section
variable {P : Program} {n : Nat} {B : Base} {k : List Kont} {ops : List Oper} {C : Option (Res × Hp)} {need : Nat → Bool} {t : XT} {e : Env} {S : Res} {H : Hp}
theorem pubBE {gb : Nat} {tt : TypeId} {cs : List SV} {S' : Res} {c : Code} (kk : Nat) (hb : nth S kk = some (.box gb tt cs)) (hS : S.eraseIdx kk = S')
    (hk : ∀ H', HLe H H' → RR H' (some ⟨gb, 0, none⟩) cs → EW P n B c k e S' H') : EW P n B c k e S H := fun a w he hw => by
  obtain ⟨H', h1, h2, h3⟩ := hw.pubBox hb
  exact hk H' h1 h2 a w he (hS ▸ h3)
theorem pubBN {gb : Nat} {tt : TypeId} {cs : List SV} {S' : Res} (kk : Nat) (hb : nth S kk = some (.box gb tt cs)) (hS : S.eraseIdx kk = S')
    (hk : ∀ H', HLe H H' → RR H' (some ⟨gb, 0, none⟩) cs → NK P n B k e S' H') : NK P n B k e S H := fun a w he hw => by
  obtain ⟨H', h1, h2, h3⟩ := hw.pubBox hb
  exact hk H' h1 h2 a w he (hS ▸ h3)
theorem pubBX {gb : Nat} {tt : TypeId} {cs : List SV} {S' : Res} (kk : Nat) (hb : nth S kk = some (.box gb tt cs)) (hS : S.eraseIdx kk = S')
    (hk : ∀ H', HLe H H' → RR H' (some ⟨gb, 0, none⟩) cs → XD P n B ops C need k t e S' H') : XD P n B ops C need k t e S H := fun hdo a w he hw => by
  obtain ⟨H', h1, h2, h3⟩ := hw.pubBox hb
  exact hk H' h1 h2 hdo a w he (hS ▸ h3)
end

/-- a cell of a box that all may read -/
theorem RR.at_ {H : Hp} {g : Nat} {cs : List SV} (h : RR H (some ⟨g, 0, none⟩) cs) {j : Nat} {sv : SV} (hj : nth cs j = some sv) : cellH H ⟨g, j, none⟩ = some sv.val := by
  have := h.cell (nth_get hj)
  rwa [eaddr_lit, Nat.zero_add] at this
/-- cells from the off-th on, as a slice -/
theorem RR.from {H : Hp} {g off : Nat} {cs l : List SV} (h : RR H (some ⟨g, 0, none⟩) cs) (hl : part cs off l.length = l) : RR H (some ⟨g, off, none⟩) l := by
  refine .inr ⟨_, rfl, fun j sv hj => ?_⟩
  rw [add_lit]
  refine h.at_ ?_
  rw [← hl] at hj
  unfold part at hj
  rw [List.getElem?_take] at hj
  split at hj
  · rw [List.getElem?_drop] at hj; rw [nth_eq]; exact hj
  · cases hj

end Go.GW
