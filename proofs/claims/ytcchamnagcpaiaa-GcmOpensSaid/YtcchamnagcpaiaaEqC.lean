/- Own words: the two ciphers agree on a block. Plain Lean. -/
import Derived.Test.YtcchamnagcpaiaaEqB
set_option linter.unusedVariables false
set_option linter.unusedSimpArgs false
namespace Go.GW
open Go

theorem flat_get {α : Type} (f : α → List UInt8) (hf : ∀ x, (f x).length = 4) (d : α) : ∀ (l : List α) (q r : Nat), q < l.length → r < 4 → (l.flatMap f).getD (4 * q + r) 0 = (f (l.getD q d)).getD r 0
  | [], _, _, h, _ => absurd h (by simp)
  | x :: l, 0, r, _, hr => by
    simp only [List.flatMap_cons, List.getD_eq_getElem?_getD]
    rw [List.getElem?_append_left (by rw [hf]; omega), show 4 * 0 + r = r by omega]
    rfl
  | x :: l, q + 1, r, h, hr => by
    have ih := flat_get f hf d l q r (by simpa using h) hr
    simp only [List.flatMap_cons, List.getD_eq_getElem?_getD] at ih ⊢
    rw [List.getElem?_append_right (by rw [hf]; omega), hf, show 4 * (q + 1) + r - 4 = 4 * q + r by omega, ih]
    rfl
theorem keys_get (key : List UInt8) {q r : Nat} (hq : q < 60) (hr : r < 4) : (aesKeys key).getD (4 * q + r) 0 = (w4 (wd key q)).getD r 0 := by
  unfold aesKeys kb
  have hl := wx_len key 60
  rw [show (wx key 60).1.take 60 = (wx key 60).1 from List.take_of_length_le (by omega), show List.replicate (240 - 4 * 60) (0 : UInt8) = [] from rfl, List.append_nil]
  rw [flat_get _ (fun x => putN_length 4 _) 0 _ _ _ (by omega) hr, wx_stays key (by omega), w4_eq]
theorem rk_eq {ws : List (List UInt8)} {f : Nat → UInt32} (h : ∀ j, j < 60 → ws.getD j [] = w4 (f j)) {r : Nat} (hr : r ≤ 14) : rkR ws r 4 = w4 (f (4 * r)) ++ w4 (f (4 * r + 1)) ++ w4 (f (4 * r + 2)) ++ w4 (f (4 * r + 3)) := by
  simp only [rkR, List.nil_append]
  rw [h _ (by omega), h _ (by omega), h _ (by omega), h _ (by omega), Nat.add_zero]
theorem rk_get {ws : List (List UInt8)} {f : Nat → UInt32} (h : ∀ j, j < 60 → ws.getD j [] = w4 (f j)) {r : Nat} (hr : r ≤ 14) {q i : Nat} (hq : q < 4) (hi : i < 4) : (rkR ws r 4).getD (4 * q + i) 0 = (w4 (f (4 * r + q))).getD i 0 := by
  rw [rk_eq h hr]
  rcases (by omega : q = 0 ∨ q = 1 ∨ q = 2 ∨ q = 3) with rfl | rfl | rfl | rfl <;> rcases (by omega : i = 0 ∨ i = 1 ∨ i = 2 ∨ i = 3) with rfl | rfl | rfl | rfl <;> rfl
section
variable {key : List UInt8} {ws : List (List UInt8)} (h : ∀ j, j < 60 → ws.getD j [] = w4 (wd key j))
include h
theorem add_eq {b : List UInt8} (hb : b.length = 16) {r : Nat} (hr : r ≤ 14) : bothR b (rkR ws r 4) = addF (aesKeys key) b r := by
  unfold bothR addF
  rw [hb]
  refine rgf_congr fun i hi => ?_
  refine congrArg (fun z => b.getD i 0 ^^^ z) ?_
  have e : i = 4 * (i / 4) + i % 4 := by omega
  have e2 : 16 * r + i = 4 * (4 * r + i / 4) + i % 4 := by omega
  rw [e2, keys_get key (by omega) (by omega)]
  have h := rk_get h hr (q := i / 4) (i := i % 4) (by omega) (by omega)
  rwa [← e] at h
theorem rnd_eq {b : List UInt8} (hb : b.length = 16) : ∀ k, k ≤ 13 → rndR aesBox ws b k = rnd (aesKeys key) b k
  | 0, _ => by rw [rndR, rnd, add_eq h hb (by omega)]
  | k + 1, hk => by rw [rndR, rnd, add_eq h (mixedR_len _) (by omega), mixed_eq, shifted_eq, rnd_eq hb k (by omega)]
theorem block_eq1 {b : List UInt8} (hb : b.length = 16) : blockR aesBox ws b = blockF (aesKeys key) b := by
  unfold blockR blockF
  rw [add_eq h (shiftedR_len _ _) (by omega), shifted_eq, rnd_eq h hb 13 (Nat.le_refl _)]
end
theorem block_eq {key : List UInt8} (hk : key.length = 32) {ws : List (List UInt8)} (hw : ws = (wr boxesR key 52).1) {b : List UInt8} (hb : b.length = 16) : blockR boxesR ws b = blockF (aesKeys key) b := by
  rw [boxes_eq] at hw ⊢
  refine block_eq1 (fun j hj => ?_) hb
  rw [hw]
  exact (wr_eq hk 52 (by decide)).1 j hj
end Go.GW
