/- Contracts of functions of the loaded program, printed by our own program gen.py. -/
import Derived.Test.YtcchamnagcpaiaaCellB
namespace Go.GW
open Go Go.Proofs


def small (n : Int) : Prop := 0 ≤ n ∧ n ≤ 1099511627776
instance (n : Int) : Decidable (small n) := inferInstanceAs (Decidable (_ ∧ _))

/-- a bucket's key -/
structure KekV where
  b : Int
  g : Int
  key : List UInt8
deriving DecidableEq

def KekV.code (k : KekV) : Int := if k.b < 0 ∨ 65535 < k.b ∨ k.g < 0 ∨ 65535 < k.g then 2 else if k.key.length ≠ 32 then 17 else 0
def keksCode : List KekV → Int
  | [] => 0
  | k :: r => if k.code = 0 then keksCode r else k.code

/-- an anchor -/
structure Anc where
  seq : Int
  epoch : Int
  given_ : Int
  root : Int
  rep : Int
  pending : Int
  master : List UInt8
  keks : List KekV
deriving DecidableEq

def Anc.check (a : Anc) : Int :=
  if a.seq < 1 ∨ ¬ small a.seq ∨ ¬ small a.epoch ∨ ¬ small a.given_ ∨ ¬ small a.rep ∨ a.given_ < a.epoch then 2
  else if a.root < -1 ∨ 4096 ≤ a.root ∨ a.pending < 0 ∨ 4096 ≤ a.pending then 2
  else if a.master.length ≠ 32 ∨ 16 < a.keks.length then 17 else keksCode a.keks

/-! ### as the program has them -/
structure Kk where
  b : Int
  g : Int
  k : Sli
instance : Inhabited Kk := ⟨⟨0, 0, default⟩⟩
def Kk.v (x : Kk) : KekV := ⟨x.b, x.g, x.k.xs⟩
def Kk.cells (x : Kk) : List SV := [.i x.b, .i x.g, .sl x.k.A x.k.n x.k.c]
def kcells (ks : List Kk) : List SV := ks.flatMap Kk.cells
theorem kcells_len (ks : List Kk) : (kcells ks).length = ks.length * 3 := by
  induction ks with
  | nil => rfl
  | cons k r ih => simp only [kcells, List.flatMap_cons, List.length_append, List.length_cons] at ih ⊢; rw [ih]; simp [Kk.cells]; omega
theorem kcells_one (ks : List Kk) : ∀ s ∈ kcells ks, s.one = true := by
  intro s hs
  obtain ⟨k, _, h⟩ := List.mem_flatMap.1 hs
  simp only [Kk.cells, List.mem_cons, List.not_mem_nil, or_false] at h
  rcases h with rfl | rfl | rfl <;> rfl
theorem kcells_get : ∀ (ks : List Kk) {j i : Nat} {sv : SV}, j < ks.length → (ks.getD j default).cells[i]? = some sv → (kcells ks)[j * 3 + i]? = some sv
  | [], _, _, _, h, _ => absurd h (by simp)
  | k :: r, 0, i, sv, _, h => by
    have hi : i < 3 := by
      have := (List.getElem?_eq_some_iff.1 h).1
      simpa [Kk.cells] using this
    simp only [kcells, List.flatMap_cons]
    rw [List.getElem?_append_left (by simp [Kk.cells]; omega)]
    simpa using h
  | k :: r, j + 1, i, sv, hj, h => by
    simp only [kcells, List.flatMap_cons]
    rw [List.getElem?_append_right (by simp [Kk.cells]; omega)]
    have := kcells_get r (j := j) (i := i) (sv := sv) (by simpa using hj) (by simpa using h)
    rw [← this]
    simp [kcells, Kk.cells]
    congr 1
    omega

structure KS (H : Hp) (A : Option Addr) (n c : Nat) (ks : List Kk) : Prop where
  rr : RR H A (kcells ks)
  len : ks.length = n
  cap : n ≤ c
  each : ∀ x ∈ ks, x.k.ok H
theorem KS.mono {H H' : Hp} {A : Option Addr} {n c : Nat} {ks : List Kk} (h : KS H A n c ks) (hle : HLe H H') : KS H' A n c ks := ⟨h.rr.mono hle, h.len, h.cap, fun p hp => BS.mono (h.each p hp) hle⟩
theorem KS.ne {H : Hp} {A : Option Addr} {n c : Nat} {ks : List Kk} (h : KS H A n c ks) (h0 : 0 < n) : A.isSome = true := h.rr.isSome (by rw [kcells_len, h.len]; omega)
theorem KS.nil {H : Hp} {A : Option Addr} {c : Nat} : KS H A 0 c [] := ⟨.nil, rfl, Nat.zero_le _, by simp⟩
theorem KS.get {H : Hp} {A : Option Addr} {n c : Nat} {ks : List Kk} (h : KS H A n c ks) {j : Nat} (hj : j < n) : ∀ i sv, (ks.getD j default).cells[i]? = some sv → cellH H ((eaddr A (j * 3)).add i) = some sv.val := by
  intro i sv hs
  have := h.rr.cell (kcells_get ks (by rw [h.len]; exact hj) hs)
  rw [← this]
  congr 1
  by_cases h0 : i = 0
  · subst h0; rw [Nat.add_zero]; simp [eaddr, Addr.add]
  · by_cases h1 : j * 3 = 0
    · simp [eaddr, Addr.add, h1]
    · simp [eaddr, Addr.add, h0, h1, Nat.add_assoc]
theorem KS.at_ {H : Hp} {A : Option Addr} {n c : Nat} {ks : List Kk} (h : KS H A n c ks) {j : Nat} (hj : j < n) : (ks.getD j default).k.ok H := by
  have hl : j < ks.length := by rw [h.len]; exact hj
  have : ks.getD j default = ks[j] := by simp [hl]
  rw [this]
  exact h.each _ (List.getElem_mem hl)
theorem kk_drop {ks : List Kk} {k : Nat} (h : k < ks.length) : ks.drop k = ks.getD k default :: ks.drop (k + 1) := by
  rw [List.drop_eq_getElem_cons h]
  simp [h]

structure An where
  seq : Int
  epoch : Int
  given_ : Int
  root : Int
  rep : Int
  pending : Int
  m : Sli
  A : Option Addr
  n : Nat
  c : Nat
  ks : List Kk
def An.cells (a : An) : List SV := [.i a.seq, .i a.epoch, .i a.given_, .i a.root, .i a.rep, .i a.pending, .sl a.m.A a.m.n a.m.c, .sl a.A a.n a.c]
def An.v (a : An) : Anc := ⟨a.seq, a.epoch, a.given_, a.root, a.rep, a.pending, a.m.xs, a.ks.map Kk.v⟩
/-- none is beyond all measure -/
structure KL (ks : List Kk) : Prop where
  n : ks.length ≤ 1099511627776
  k : ∀ x ∈ ks, x.k.n ≤ 1099511627776
theorem KL.at_ {ks : List Kk} (h : KL ks) (j : Nat) : (ks.getD j default).k.n ≤ 1099511627776 := by
  by_cases hj : j < ks.length
  · have : ks.getD j default = ks[j] := by simp [hj]
    rw [this]
    exact h.k _ (List.getElem_mem hj)
  · have : ks.getD j default = default := by simp [Nat.le_of_not_lt hj]
    rw [this]
    decide
structure An.ok (H : Hp) (a : An) : Prop where
  m : a.m.ok H
  ks : KS H a.A a.n a.c a.ks
  lm : a.m.n ≤ 1099511627776
  lk : KL a.ks
theorem An.ok.mono {H H' : Hp} {a : An} (h : An.ok H a) (hle : HLe H H') : An.ok H' a := ⟨BS.mono h.m hle, h.ks.mono hle, h.lm, h.lk⟩

theorem AChk1_hc {H : Hp} {n : Int} :
  HC Try.prog 94 [.i n] [] H (fun r S' H' => r = .b (decide (small n)) ∧ S' = [] ∧ H' = H) := by
 refine hc_intro (n := 9) Try.func94 rfl Try.ntmps94 rfl (fun B hB => ?_)
 refine ew_cut (e' := [(0, _)]) [0] rfl ?_
 refine ew_seq ?_
 refine rg (.q 0 XT.done) (by kernel_rfl) (by kernel_rfl) ?_
 refine q_as (sv := .b false) rfl rfl rfl ?_
 refine x_end ?_
 refine nk_cut (e' := [(0, _), (2, _)]) [0, 2] rfl ?_
 refine nk_seq ?_
 refine ew_seq ?_
 by_cases h1 : 0 ≤ n
 ·skip
  refine rg (.q 0 (.q 1 (.q 2 (.q 3 (.q 4 (.q 5 (.q 6 XT.done))))))) (by kernel_rfl) (by kernel_rfl) ?_
  refine q_mv rfl rfl rfl ?_
  refine q_ge rfl rfl rfl rfl ?_
  refine x_T (decide_eq_true h1) ?_
  refine q_mv rfl rfl rfl ?_
  refine q_mv rfl rfl rfl ?_
  refine q_le rfl rfl rfl rfl ?_
  refine q_pkT rfl rfl rfl rfl ?_
  refine q_as rfl rfl rfl ?_
  refine x_end ?_
  refine nk_cut (e' := [(0, _), (2, _)]) [0, 2] rfl ?_
  refine nk_seq ?_
  refine ew_retS rfl rfl (.cons (.tmp rfl) .nil) ?_
  exact ⟨congrArg SV.b (by simp [small, h1]), rfl, rfl⟩
 ·skip
  refine rg (.q 0 (.q 1 (.q 2 (.q 3 (.q 4 (.q 5 (.q 6 XT.done))))))) (by kernel_rfl) (by kernel_rfl) ?_
  refine q_mv rfl rfl rfl ?_
  refine q_ge rfl rfl rfl rfl ?_
  refine x_F (decide_eq_false h1) ?_
  refine q_mv rfl rfl rfl ?_
  refine q_skip rfl rfl ?_
  refine q_skip rfl rfl ?_
  refine q_pkF rfl rfl rfl rfl ?_
  refine q_as rfl rfl rfl ?_
  refine x_end ?_
  refine nk_cut (e' := [(0, _), (2, _)]) [0, 2] rfl ?_
  refine nk_seq ?_
  refine ew_retS rfl rfl (.cons (.tmp rfl) .nil) ?_
  exact ⟨congrArg SV.b (by simp [small, h1]), rfl, rfl⟩


theorem RSmall_hc {H : Hp} {n : Int} :
  HC Try.prog 95 [.i n] [] H (fun r S' H' => r = .b (decide (small n)) ∧ S' = [] ∧ H' = H) := by
 refine hc_intro (n := 9) Try.func95 rfl Try.ntmps95 rfl (fun B hB => ?_)
 refine ew_cut (e' := [(0, _)]) [0] rfl ?_
 refine ew_seq ?_
 refine rg (.q 0 XT.done) (by kernel_rfl) (by kernel_rfl) ?_
 refine q_as (sv := .b false) rfl rfl rfl ?_
 refine x_end ?_
 refine nk_cut (e' := [(0, _), (2, _)]) [0, 2] rfl ?_
 refine nk_seq ?_
 refine ew_seq ?_
 by_cases h1 : 0 ≤ n
 ·skip
  refine rg (.q 0 (.q 1 (.q 2 (.q 3 (.q 4 (.q 5 (.q 6 XT.done))))))) (by kernel_rfl) (by kernel_rfl) ?_
  refine q_mv rfl rfl rfl ?_
  refine q_ge rfl rfl rfl rfl ?_
  refine x_T (decide_eq_true h1) ?_
  refine q_mv rfl rfl rfl ?_
  refine q_mv rfl rfl rfl ?_
  refine q_le rfl rfl rfl rfl ?_
  refine q_pkT rfl rfl rfl rfl ?_
  refine q_as rfl rfl rfl ?_
  refine x_end ?_
  refine nk_cut (e' := [(0, _), (2, _)]) [0, 2] rfl ?_
  refine nk_seq ?_
  refine ew_retS rfl rfl (.cons (.tmp rfl) .nil) ?_
  exact ⟨congrArg SV.b (by simp [small, h1]), rfl, rfl⟩
 ·skip
  refine rg (.q 0 (.q 1 (.q 2 (.q 3 (.q 4 (.q 5 (.q 6 XT.done))))))) (by kernel_rfl) (by kernel_rfl) ?_
  refine q_mv rfl rfl rfl ?_
  refine q_ge rfl rfl rfl rfl ?_
  refine x_F (decide_eq_false h1) ?_
  refine q_mv rfl rfl rfl ?_
  refine q_skip rfl rfl ?_
  refine q_skip rfl rfl ?_
  refine q_pkF rfl rfl rfl rfl ?_
  refine q_as rfl rfl rfl ?_
  refine x_end ?_
  refine nk_cut (e' := [(0, _), (2, _)]) [0, 2] rfl ?_
  refine nk_seq ?_
  refine ew_retS rfl rfl (.cons (.tmp rfl) .nil) ?_
  exact ⟨congrArg SV.b (by simp [small, h1]), rfl, rfl⟩


theorem AChk_hc {H : Hp} {a : An} (ha : An.ok H a) :
  HC Try.prog 35 [.agg a.cells] [] H (fun r S' H' => r = .i a.v.check ∧ S' = [] ∧ H' = H) := by
 have hml : a.m.xs.length = a.m.n := BS.len ha.m
 have hkl := ha.ks.len
 refine hc_intro (n := 105) Try.func35 rfl Try.ntmps35 rfl (fun B hB => ?_)
 refine ew_cut (e' := [(0, _)]) [0] rfl ?_
 refine ew_sub (e' := [(0, .agg [_, _, _, _, _, _, _, _])]) ⟨rfl, trivial⟩ ?_
 refine ew_seq ?_
 refine rg (.h 0 (.q 1 XT.done)) (by kernel_rfl) (by kernel_rfl) ?_
 refine h_boxS rfl rfl rfl ?_
 intro g1
 refine ⟨kp0, ?_⟩
 refine q_as (sv := .i 0) rfl rfl rfl ?_
 refine x_end ?_
 refine nk_cut (e' := [(0, _), (1, _), (2, _)]) [0, 1, 2] rfl ?_
 refine nk_seq ?_
 refine ew_seq ?_
 refine rg (.q 0 XT.done) (by kernel_rfl) (by kernel_rfl) ?_
 refine q_as rfl rfl rfl ?_
 refine x_end ?_
 refine nk_cut (e' := [(0, _), (1, _), (2, _), (3, _)]) [0, 1, 2, 3] rfl ?_
 refine nk_seq ?_
 refine ew_seq ?_
 refine ew_block ?_
 refine ew_seq ?_
 by_cases h1 : a.seq < 1
 ·skip
  refine rg (.q 0 (.q 1 (.q 2 (.q 3 (.q 4 (.q 5 (.q 6 (.h 7 (.q 8 (.q 9 (.q 10 (.q 11 (.q 12 (.q 13 (.h 14 (.q 15 (.q 16 (.q 17 (.q 18 (.q 19 (.q 20 (.h 21 (.q 22 (.q 23 (.q 24 (.q 25 (.q 26 (.q 27 (.h 28 (.q 29 (.q 30 (.q 31 (.q 32 (.q 33 (.q 34 (.q 35 (.q 36 (.q 37 (.q 38 XT.done))))))))))))))))))))))))))))))))))))))) (by kernel_rfl) (by kernel_rfl) ?_
  refine q_fa fa_60_0 rfl rfl rfl ?_
  refine q_ld 0 Try.isAgg3 rfl rfl rfl rfl rfl ?_
  refine q_lt rfl rfl rfl rfl ?_
  refine x_T (decide_eq_true h1) ?_
  refine q_mv rfl rfl rfl ?_
  iterate 3 refine q_skip rfl rfl ?_
  refine h_skip rfl rfl ?_
  refine q_skip rfl rfl ?_
  refine q_pkT rfl rfl rfl rfl ?_
  refine q_mv rfl rfl rfl ?_
  iterate 3 refine q_skip rfl rfl ?_
  refine h_skip rfl rfl ?_
  refine q_skip rfl rfl ?_
  refine q_pkT rfl rfl rfl rfl ?_
  refine q_mv rfl rfl rfl ?_
  iterate 3 refine q_skip rfl rfl ?_
  refine h_skip rfl rfl ?_
  refine q_skip rfl rfl ?_
  refine q_pkT rfl rfl rfl rfl ?_
  refine q_mv rfl rfl rfl ?_
  iterate 3 refine q_skip rfl rfl ?_
  refine h_skip rfl rfl ?_
  refine q_skip rfl rfl ?_
  refine q_pkT rfl rfl rfl rfl ?_
  refine q_mv rfl rfl rfl ?_
  iterate 5 refine q_skip rfl rfl ?_
  refine q_pkT rfl rfl rfl rfl ?_
  refine q_as rfl rfl rfl ?_
  refine x_end ?_
  refine nk_cut (e' := [(0, _), (1, _), (2, _), (3, _), (6, _)]) [0, 1, 2, 3, 6] rfl ?_
  refine nk_seq ?_
  refine ew_true rfl ?_
  refine ew_seq ?_
  refine rg (.q 0 XT.done) (by kernel_rfl) (by kernel_rfl) ?_
  refine q_as (sv := .i 2) rfl rfl rfl ?_
  refine x_end ?_
  refine nk_cut (e' := [(0, _), (1, _), (2, _), (3, _), (6, _)]) [0, 1, 2, 3, 6] rfl ?_
  refine nk_seq ?_
  refine ew_retS rfl rfl (.cons (.tmp rfl) .nil) ?_
  exact ⟨congrArg SV.i (by simp [An.v, Anc.check, h1]), rfl, rfl⟩
 ·skip
  by_cases h2 : small a.seq
  ·skip
   by_cases h3 : small a.epoch
   ·skip
    by_cases h4 : small a.given_
    ·skip
     by_cases h5 : small a.rep
     ·skip
      refine rg (.q 0 (.q 1 (.q 2 (.q 3 (.q 4 (.q 5 (.q 6 (.h 7 (.q 8 (.q 9 (.q 10 (.q 11 (.q 12 (.q 13 (.h 14 (.q 15 (.q 16 (.q 17 (.q 18 (.q 19 (.q 20 (.h 21 (.q 22 (.q 23 (.q 24 (.q 25 (.q 26 (.q 27 (.h 28 (.q 29 (.q 30 (.q 31 (.q 32 (.q 33 (.q 34 (.q 35 (.q 36 (.q 37 (.q 38 XT.done))))))))))))))))))))))))))))))))))))))) (by kernel_rfl) (by kernel_rfl) ?_
      refine q_fa fa_60_0 rfl rfl rfl ?_
      refine q_ld 0 Try.isAgg3 rfl rfl rfl rfl rfl ?_
      refine q_lt rfl rfl rfl rfl ?_
      refine x_F (decide_eq_false h1) ?_
      refine q_mv rfl rfl rfl ?_
      refine q_mv rfl rfl rfl ?_
      refine q_fa fa_60_0 rfl rfl rfl ?_
      refine q_ld 0 Try.isAgg3 rfl rfl rfl rfl rfl ?_
      refine h_callv Try.call94 (S2 := [_]) rfl rfl rfl rfl rfl (List.Perm.refl _) (AChk1_hc) ?_
      rintro r_ S_ H hl1 ⟨rfl, rfl, rfl⟩
      refine ⟨kp0, ?_⟩
      refine x_S (S' := [_]) rfl ?_
      refine q_not rfl rfl rfl ?_
      refine x_F (by simp [h2]) ?_
      refine q_pkF rfl rfl rfl rfl ?_
      refine q_mv rfl rfl rfl ?_
      refine q_mv rfl rfl rfl ?_
      refine q_fa fa_60_1 rfl rfl rfl ?_
      refine q_ld 0 Try.isAgg3 rfl rfl rfl rfl rfl ?_
      refine h_callv Try.call94 (S2 := [_]) rfl rfl rfl rfl rfl (List.Perm.refl _) (AChk1_hc) ?_
      rintro r_ S_ H hl2 ⟨rfl, rfl, rfl⟩
      refine ⟨kp0, ?_⟩
      refine x_S (S' := [_]) rfl ?_
      refine q_not rfl rfl rfl ?_
      refine x_F (by simp [h3]) ?_
      refine q_pkF rfl rfl rfl rfl ?_
      refine q_mv rfl rfl rfl ?_
      refine q_mv rfl rfl rfl ?_
      refine q_fa fa_60_2 rfl rfl rfl ?_
      refine q_ld 0 Try.isAgg3 rfl rfl rfl rfl rfl ?_
      refine h_callv Try.call94 (S2 := [_]) rfl rfl rfl rfl rfl (List.Perm.refl _) (AChk1_hc) ?_
      rintro r_ S_ H hl3 ⟨rfl, rfl, rfl⟩
      refine ⟨kp0, ?_⟩
      refine x_S (S' := [_]) rfl ?_
      refine q_not rfl rfl rfl ?_
      refine x_F (by simp [h4]) ?_
      refine q_pkF rfl rfl rfl rfl ?_
      refine q_mv rfl rfl rfl ?_
      refine q_mv rfl rfl rfl ?_
      refine q_fa fa_60_4 rfl rfl rfl ?_
      refine q_ld 0 Try.isAgg3 rfl rfl rfl rfl rfl ?_
      refine h_callv Try.call94 (S2 := [_]) rfl rfl rfl rfl rfl (List.Perm.refl _) (AChk1_hc) ?_
      rintro r_ S_ H hl4 ⟨rfl, rfl, rfl⟩
      refine ⟨kp0, ?_⟩
      refine x_S (S' := [_]) rfl ?_
      refine q_not rfl rfl rfl ?_
      refine x_F (by simp [h5]) ?_
      refine q_pkF rfl rfl rfl rfl ?_
      refine q_mv rfl rfl rfl ?_
      refine q_fa fa_60_1 rfl rfl rfl ?_
      refine q_ld 0 Try.isAgg3 rfl rfl rfl rfl rfl ?_
      refine q_fa fa_60_2 rfl rfl rfl ?_
      refine q_ld 0 Try.isAgg3 rfl rfl rfl rfl rfl ?_
      refine q_gt rfl rfl rfl rfl ?_
      refine q_pkF rfl rfl rfl rfl ?_
      refine q_as rfl rfl rfl ?_
      refine x_end ?_
      refine nk_cut (e' := [(0, _), (1, _), (2, _), (3, _), (6, _)]) [0, 1, 2, 3, 6] rfl ?_
      refine nk_seq ?_
      refine ew_cond rfl ?_ ?_
      ·intro hc6
       try simp only [decide_eq_true_eq] at hc6
       refine ew_seq ?_
       refine rg (.q 0 XT.done) (by kernel_rfl) (by kernel_rfl) ?_
       refine q_as (sv := .i 2) rfl rfl rfl ?_
       refine x_end ?_
       refine nk_cut (e' := [(0, _), (1, _), (2, _), (3, _), (6, _)]) [0, 1, 2, 3, 6] rfl ?_
       refine nk_seq ?_
       refine ew_retS rfl rfl (.cons (.tmp rfl) .nil) ?_
       exact ⟨congrArg SV.i (by simp [An.v, Anc.check, hc6]), rfl, rfl⟩
      ·intro hc6
       try simp only [decide_eq_false_iff_not] at hc6
       refine ew_seq ?_
       by_cases q1 : a.root < -1
       ·skip
        refine rg (.q 0 (.q 1 (.q 2 (.q 3 (.q 4 (.q 5 (.q 6 (.q 7 (.q 8 (.q 9 (.q 10 (.q 11 (.q 12 (.q 13 (.q 14 (.q 15 (.q 16 (.q 17 (.q 18 XT.done))))))))))))))))))) (by kernel_rfl) (by kernel_rfl) ?_
        refine q_fa fa_60_3 rfl rfl rfl ?_
        refine q_ld 0 Try.isAgg3 rfl rfl rfl rfl rfl ?_
        refine q_lt rfl rfl rfl rfl ?_
        refine x_T (decide_eq_true q1) ?_
        refine q_mv rfl rfl rfl ?_
        iterate 3 refine q_skip rfl rfl ?_
        refine q_pkT rfl rfl rfl rfl ?_
        refine q_mv rfl rfl rfl ?_
        iterate 3 refine q_skip rfl rfl ?_
        refine q_pkT rfl rfl rfl rfl ?_
        refine q_mv rfl rfl rfl ?_
        iterate 3 refine q_skip rfl rfl ?_
        refine q_pkT rfl rfl rfl rfl ?_
        refine q_as rfl rfl rfl ?_
        refine x_end ?_
        refine nk_cut (e' := [(0, _), (1, _), (2, _), (3, _), (6, _), (45, _)]) [0, 1, 2, 3, 6, 45] rfl ?_
        refine nk_seq ?_
        refine ew_true rfl ?_
        refine ew_seq ?_
        refine rg (.q 0 XT.done) (by kernel_rfl) (by kernel_rfl) ?_
        refine q_as (sv := .i 2) rfl rfl rfl ?_
        refine x_end ?_
        refine nk_cut (e' := [(0, _), (1, _), (2, _), (3, _), (6, _), (45, _)]) [0, 1, 2, 3, 6, 45] rfl ?_
        refine nk_seq ?_
        refine ew_retS rfl rfl (.cons (.tmp rfl) .nil) ?_
        exact ⟨congrArg SV.i (by simp [An.v, Anc.check, h1, h2, h3, h4, h5, show ¬ a.given_ < a.epoch by omega, q1]), rfl, rfl⟩
       ·skip
        by_cases q2 : 4096 ≤ a.root
        ·skip
         refine rg (.q 0 (.q 1 (.q 2 (.q 3 (.q 4 (.q 5 (.q 6 (.q 7 (.q 8 (.q 9 (.q 10 (.q 11 (.q 12 (.q 13 (.q 14 (.q 15 (.q 16 (.q 17 (.q 18 XT.done))))))))))))))))))) (by kernel_rfl) (by kernel_rfl) ?_
         refine q_fa fa_60_3 rfl rfl rfl ?_
         refine q_ld 0 Try.isAgg3 rfl rfl rfl rfl rfl ?_
         refine q_lt rfl rfl rfl rfl ?_
         refine x_F (decide_eq_false q1) ?_
         refine q_mv rfl rfl rfl ?_
         refine q_fa fa_60_3 rfl rfl rfl ?_
         refine q_ld 0 Try.isAgg3 rfl rfl rfl rfl rfl ?_
         refine q_ge rfl rfl rfl rfl ?_
         refine x_T (decide_eq_true q2) ?_
         refine q_pkF rfl rfl rfl rfl ?_
         refine q_mv rfl rfl rfl ?_
         iterate 3 refine q_skip rfl rfl ?_
         refine q_pkT rfl rfl rfl rfl ?_
         refine q_mv rfl rfl rfl ?_
         iterate 3 refine q_skip rfl rfl ?_
         refine q_pkT rfl rfl rfl rfl ?_
         refine q_as rfl rfl rfl ?_
         refine x_end ?_
         refine nk_cut (e' := [(0, _), (1, _), (2, _), (3, _), (6, _), (45, _)]) [0, 1, 2, 3, 6, 45] rfl ?_
         refine nk_seq ?_
         refine ew_true rfl ?_
         refine ew_seq ?_
         refine rg (.q 0 XT.done) (by kernel_rfl) (by kernel_rfl) ?_
         refine q_as (sv := .i 2) rfl rfl rfl ?_
         refine x_end ?_
         refine nk_cut (e' := [(0, _), (1, _), (2, _), (3, _), (6, _), (45, _)]) [0, 1, 2, 3, 6, 45] rfl ?_
         refine nk_seq ?_
         refine ew_retS rfl rfl (.cons (.tmp rfl) .nil) ?_
         exact ⟨congrArg SV.i (by simp [An.v, Anc.check, h1, h2, h3, h4, h5, show ¬ a.given_ < a.epoch by omega, q2]), rfl, rfl⟩
        ·skip
         by_cases q3 : a.pending < 0
         ·skip
          refine rg (.q 0 (.q 1 (.q 2 (.q 3 (.q 4 (.q 5 (.q 6 (.q 7 (.q 8 (.q 9 (.q 10 (.q 11 (.q 12 (.q 13 (.q 14 (.q 15 (.q 16 (.q 17 (.q 18 XT.done))))))))))))))))))) (by kernel_rfl) (by kernel_rfl) ?_
          refine q_fa fa_60_3 rfl rfl rfl ?_
          refine q_ld 0 Try.isAgg3 rfl rfl rfl rfl rfl ?_
          refine q_lt rfl rfl rfl rfl ?_
          refine x_F (decide_eq_false q1) ?_
          refine q_mv rfl rfl rfl ?_
          refine q_fa fa_60_3 rfl rfl rfl ?_
          refine q_ld 0 Try.isAgg3 rfl rfl rfl rfl rfl ?_
          refine q_ge rfl rfl rfl rfl ?_
          refine x_F (decide_eq_false q2) ?_
          refine q_pkF rfl rfl rfl rfl ?_
          refine q_mv rfl rfl rfl ?_
          refine q_fa fa_60_5 rfl rfl rfl ?_
          refine q_ld 0 Try.isAgg3 rfl rfl rfl rfl rfl ?_
          refine q_lt rfl rfl rfl rfl ?_
          refine x_T (decide_eq_true q3) ?_
          refine q_pkF rfl rfl rfl rfl ?_
          refine q_mv rfl rfl rfl ?_
          iterate 3 refine q_skip rfl rfl ?_
          refine q_pkT rfl rfl rfl rfl ?_
          refine q_as rfl rfl rfl ?_
          refine x_end ?_
          refine nk_cut (e' := [(0, _), (1, _), (2, _), (3, _), (6, _), (45, _)]) [0, 1, 2, 3, 6, 45] rfl ?_
          refine nk_seq ?_
          refine ew_true rfl ?_
          refine ew_seq ?_
          refine rg (.q 0 XT.done) (by kernel_rfl) (by kernel_rfl) ?_
          refine q_as (sv := .i 2) rfl rfl rfl ?_
          refine x_end ?_
          refine nk_cut (e' := [(0, _), (1, _), (2, _), (3, _), (6, _), (45, _)]) [0, 1, 2, 3, 6, 45] rfl ?_
          refine nk_seq ?_
          refine ew_retS rfl rfl (.cons (.tmp rfl) .nil) ?_
          exact ⟨congrArg SV.i (by simp [An.v, Anc.check, h1, h2, h3, h4, h5, show ¬ a.given_ < a.epoch by omega, q3]), rfl, rfl⟩
         ·skip
          refine rg (.q 0 (.q 1 (.q 2 (.q 3 (.q 4 (.q 5 (.q 6 (.q 7 (.q 8 (.q 9 (.q 10 (.q 11 (.q 12 (.q 13 (.q 14 (.q 15 (.q 16 (.q 17 (.q 18 XT.done))))))))))))))))))) (by kernel_rfl) (by kernel_rfl) ?_
          refine q_fa fa_60_3 rfl rfl rfl ?_
          refine q_ld 0 Try.isAgg3 rfl rfl rfl rfl rfl ?_
          refine q_lt rfl rfl rfl rfl ?_
          refine x_F (decide_eq_false q1) ?_
          refine q_mv rfl rfl rfl ?_
          refine q_fa fa_60_3 rfl rfl rfl ?_
          refine q_ld 0 Try.isAgg3 rfl rfl rfl rfl rfl ?_
          refine q_ge rfl rfl rfl rfl ?_
          refine x_F (decide_eq_false q2) ?_
          refine q_pkF rfl rfl rfl rfl ?_
          refine q_mv rfl rfl rfl ?_
          refine q_fa fa_60_5 rfl rfl rfl ?_
          refine q_ld 0 Try.isAgg3 rfl rfl rfl rfl rfl ?_
          refine q_lt rfl rfl rfl rfl ?_
          refine x_F (decide_eq_false q3) ?_
          refine q_pkF rfl rfl rfl rfl ?_
          refine q_mv rfl rfl rfl ?_
          refine q_fa fa_60_5 rfl rfl rfl ?_
          refine q_ld 0 Try.isAgg3 rfl rfl rfl rfl rfl ?_
          refine q_ge rfl rfl rfl rfl ?_
          refine q_pkF rfl rfl rfl rfl ?_
          refine q_as rfl rfl rfl ?_
          refine x_end ?_
          refine nk_cut (e' := [(0, _), (1, _), (2, _), (3, _), (6, _), (45, _)]) [0, 1, 2, 3, 6, 45] rfl ?_
          refine nk_seq ?_
          refine ew_cond rfl ?_ ?_
          ·intro hc45
           try simp only [decide_eq_true_eq] at hc45
           refine ew_seq ?_
           refine rg (.q 0 XT.done) (by kernel_rfl) (by kernel_rfl) ?_
           refine q_as (sv := .i 2) rfl rfl rfl ?_
           refine x_end ?_
           refine nk_cut (e' := [(0, _), (1, _), (2, _), (3, _), (6, _), (45, _)]) [0, 1, 2, 3, 6, 45] rfl ?_
           refine nk_seq ?_
           refine ew_retS rfl rfl (.cons (.tmp rfl) .nil) ?_
           exact ⟨congrArg SV.i (by simp [An.v, Anc.check, h1, h2, h3, h4, h5, show ¬ a.given_ < a.epoch by omega, q1, q2, q3, show 4096 ≤ a.pending by omega]), rfl, rfl⟩
          ·intro hc45
           try simp only [decide_eq_false_iff_not] at hc45
           refine ew_seq ?_
           by_cases f1 : ¬ (a.m.n : Int) = 32
           ·skip
            refine rg (.q 0 (.q 1 (.q 2 (.q 3 (.q 4 (.q 5 (.q 6 (.q 7 (.q 8 (.q 9 (.q 10 XT.done))))))))))) (by kernel_rfl) (by kernel_rfl) ?_
            refine q_fa fa_60_6 rfl rfl rfl ?_
            refine q_ld 0 Try.isAgg26 rfl rfl rfl rfl rfl ?_
            refine q_len Try.underlying26 rfl rfl rfl ?_
            refine q_ne rfl rfl rfl rfl ?_
            refine x_T (by simpa using f1) ?_
            refine q_mv rfl rfl rfl ?_
            iterate 4 refine q_skip rfl rfl ?_
            refine q_pkT rfl rfl rfl rfl ?_
            refine q_as rfl rfl rfl ?_
            refine x_end ?_
            refine nk_cut (e' := [(0, _), (1, _), (2, _), (3, _), (6, _), (45, _), (64, _)]) [0, 1, 2, 3, 6, 45, 64] rfl ?_
            refine nk_seq ?_
            refine ew_true rfl ?_
            refine ew_seq ?_
            refine rg (.q 0 XT.done) (by kernel_rfl) (by kernel_rfl) ?_
            refine q_as (sv := .i 17) rfl rfl rfl ?_
            refine x_end ?_
            refine nk_cut (e' := [(0, _), (1, _), (2, _), (3, _), (6, _), (45, _), (64, _)]) [0, 1, 2, 3, 6, 45, 64] rfl ?_
            refine nk_seq ?_
            refine ew_retS rfl rfl (.cons (.tmp rfl) .nil) ?_
            exact ⟨congrArg SV.i (by simp [An.v, Anc.check, h1, h2, h3, h4, h5, show ¬ a.given_ < a.epoch by omega, q1, q2, q3, show ¬ 4096 ≤ a.pending by omega, show a.m.xs.length ≠ 32 by omega]), rfl, rfl⟩
           ·skip
            refine rg (.q 0 (.q 1 (.q 2 (.q 3 (.q 4 (.q 5 (.q 6 (.q 7 (.q 8 (.q 9 (.q 10 XT.done))))))))))) (by kernel_rfl) (by kernel_rfl) ?_
            refine q_fa fa_60_6 rfl rfl rfl ?_
            refine q_ld 0 Try.isAgg26 rfl rfl rfl rfl rfl ?_
            refine q_len Try.underlying26 rfl rfl rfl ?_
            refine q_ne rfl rfl rfl rfl ?_
            refine x_F (by simpa using f1) ?_
            refine q_mv rfl rfl rfl ?_
            refine q_fa fa_60_7 rfl rfl rfl ?_
            refine q_ld 0 Try.isAgg58 rfl rfl rfl rfl rfl ?_
            refine q_len Try.underlying58 rfl rfl rfl ?_
            refine q_gt rfl rfl rfl rfl ?_
            refine q_pkF rfl rfl rfl rfl ?_
            refine q_as rfl rfl rfl ?_
            refine x_end ?_
            refine nk_cut (e' := [(0, _), (1, _), (2, _), (3, _), (6, _), (45, _), (64, _)]) [0, 1, 2, 3, 6, 45, 64] rfl ?_
            refine nk_seq ?_
            refine ew_cond rfl ?_ ?_
            ·intro hc64
             try simp only [decide_eq_true_eq] at hc64
             refine ew_seq ?_
             refine rg (.q 0 XT.done) (by kernel_rfl) (by kernel_rfl) ?_
             refine q_as (sv := .i 17) rfl rfl rfl ?_
             refine x_end ?_
             refine nk_cut (e' := [(0, _), (1, _), (2, _), (3, _), (6, _), (45, _), (64, _)]) [0, 1, 2, 3, 6, 45, 64] rfl ?_
             refine nk_seq ?_
             refine ew_retS rfl rfl (.cons (.tmp rfl) .nil) ?_
             exact ⟨congrArg SV.i (by simp [An.v, Anc.check, h1, h2, h3, h4, h5, show ¬ a.given_ < a.epoch by omega, q1, q2, q3, show ¬ 4096 ≤ a.pending by omega, show 16 < a.ks.length by omega]), rfl, rfl⟩
            ·intro hc64
             try simp only [decide_eq_false_iff_not] at hc64
             have hck : a.v.check = keksCode (a.ks.map Kk.v) := by
              have e1 : ¬ 16 < (a.ks.map Kk.v).length := by rw [List.length_map, hkl]; omega
              have e2 : a.m.xs.length = 32 := by omega
              have e3 : ¬ a.given_ < a.epoch := by omega
              have e4 : ¬ 4096 ≤ a.pending := by omega
              simp only [Anc.check, An.v, h1, h2, h3, h4, h5, q1, q2, q3, e1, e2, e3, e4, ne_eq, not_true, not_false_eq_true, or_false, if_false]
             refine ew_skip ?_
             refine nk_blk ?_
             refine nk_seq ?_
             refine ew_seq ?_
             refine ew_seq ?_
             refine rg (.q 0 (.q 1 (.q 2 (.q 3 XT.done)))) (by kernel_rfl) (by kernel_rfl) ?_
             refine q_fa fa_60_7 rfl rfl rfl ?_
             refine q_ld 0 Try.isAgg58 rfl rfl rfl rfl rfl ?_
             refine q_len Try.underlying58 rfl rfl rfl ?_
             refine q_mv (sv := .i 0) rfl rfl rfl ?_
             refine x_end ?_
             refine nk_cut (e' := [(0, _), (1, _), (2, _), (3, _), (6, _), (45, _), (64, _), (76, _), (77, _), (78, _)]) [0, 1, 2, 3, 6, 45, 64, 76, 77, 78] rfl ?_
             refine nk_seq ?_
             refine ew_block ?_
             let Ev1 : Nat → Env := fun k => [(78, .i (k : Int))]
             let Gv1 : Nat → Hp → Prop := fun k H' => H = H' ∧ (k ≤ a.n ∧ keksCode (a.ks.map Kk.v) = keksCode ((a.ks.drop k).map Kk.v))
             let Mv1 : Nat → Nat := fun k => a.n - k
             refine ew_loop (mkE [(0, _), (1, _), (2, _), (3, _), (6, _), (45, _), (64, _), (76, _), (77, _)] Ev1) (mkS [_] (fun _ => [])) Gv1 Mv1 (0 : Nat) ⟨rfl, rfl, rfl, rfl, rfl, rfl, rfl, rfl, rfl, rfl, trivial⟩ rfl ⟨rfl, ⟨by omega, rfl⟩⟩ ?_
             rintro k H' ⟨rfl, hG⟩
             obtain ⟨hk, hkd⟩ := hG
             refine ew_S (S' := [_]) rfl ?_
             refine ew_cut (e' := [(78, _), (0, _), (1, _), (2, _), (3, _), (6, _), (45, _), (64, _), (76, _), (77, _)]) [78, 0, 1, 2, 3, 6, 45, 64, 76, 77] rfl ?_
             refine ew_seq ?_
             refine rg (.q 0 XT.done) (by kernel_rfl) (by kernel_rfl) ?_
             refine q_lt rfl rfl rfl rfl ?_
             refine x_end ?_
             refine nk_cut (e' := [(0, _), (1, _), (2, _), (3, _), (6, _), (45, _), (64, _), (76, _), (77, _), (78, _), (79, _)]) [0, 1, 2, 3, 6, 45, 64, 76, 77, 78, 79] rfl ?_
             refine nk_seq ?_
             refine ew_seq ?_
             refine ew_cond rfl ?_ ?_
             ·intro hc79
              try simp only [decide_eq_true_eq] at hc79
              refine ew_skip ?_
              refine nk_seq ?_
              refine ew_seq ?_
              refine ew_block ?_
              refine ew_seq ?_
              refine rg (.q 0 (.q 1 (.h 2 (.h 3 XT.done)))) (by kernel_rfl) (by kernel_rfl) ?_
              refine q_ixs Try.underlying58 Try.sizeOf153 rfl rfl rfl rfl rfl (ha.ks.ne (by omega)) (by omega) (by omega) ?_
              refine q_ldSr Try.isAgg153 Try.sizeOf153 rfl rfl rfl (ha.ks.get (j := k) (by omega)) rfl ?_
              refine h_alloc (cs := [_, _, _]) Try.zeroValue153 rfl rfl (zc_153 Try.zeroValue153) ?_
              intro g2
              refine ⟨kp0, ?_⟩
              refine h_stS (cs' := [_, _, _]) (S' := [_, _]) 0 Try.sizeOf153 rfl rfl rfl rfl rfl (allOne rfl) rfl (leb rfl) rfl rfl kp0 ?_
              refine x_end ?_
              refine nk_cut (e' := [(0, _), (1, _), (2, _), (3, _), (5, _), (6, _), (45, _), (64, _), (76, _), (77, _), (78, _), (79, _)]) [0, 1, 2, 3, 5, 6, 45, 64, 76, 77, 78, 79] rfl ?_
              refine nk_seq ?_
              refine ew_seq ?_
              refine ew_seq ?_
              by_cases c1 : (a.ks.getD k default).b < 0
              ·skip
               refine rg (.q 0 (.q 1 (.q 2 (.q 3 (.q 4 (.q 5 (.q 6 (.q 7 (.q 8 (.q 9 (.q 10 (.q 11 (.q 12 (.q 13 (.q 14 (.q 15 (.q 16 (.q 17 XT.done)))))))))))))))))) (by kernel_rfl) (by kernel_rfl) ?_
               refine q_fa fa_153_0 rfl rfl rfl ?_
               refine q_ld 0 Try.isAgg3 rfl rfl rfl rfl rfl ?_
               refine q_lt rfl rfl rfl rfl ?_
               refine x_T (decide_eq_true c1) ?_
               refine q_mv rfl rfl rfl ?_
               iterate 3 refine q_skip rfl rfl ?_
               refine q_pkT rfl rfl rfl rfl ?_
               refine q_mv rfl rfl rfl ?_
               iterate 3 refine q_skip rfl rfl ?_
               refine q_pkT rfl rfl rfl rfl ?_
               refine q_mv rfl rfl rfl ?_
               iterate 3 refine q_skip rfl rfl ?_
               refine q_pkT rfl rfl rfl rfl ?_
               refine x_end ?_
               refine nk_cut (e' := [(0, _), (1, _), (2, _), (3, _), (5, _), (6, _), (45, _), (64, _), (76, _), (77, _), (78, _), (79, _), (99, _)]) [0, 1, 2, 3, 5, 6, 45, 64, 76, 77, 78, 79, 99] rfl ?_
               refine nk_seq ?_
               refine ew_true rfl ?_
               refine ew_seq ?_
               refine rg (.q 0 XT.done) (by kernel_rfl) (by kernel_rfl) ?_
               refine q_as (sv := .i 2) rfl rfl rfl ?_
               refine x_end ?_
               refine nk_cut (e' := [(0, _), (1, _), (2, _), (3, _), (5, _), (6, _), (45, _), (64, _), (76, _), (77, _), (78, _), (79, _), (99, _)]) [0, 1, 2, 3, 5, 6, 45, 64, 76, 77, 78, 79, 99] rfl ?_
               refine nk_seq ?_
               refine ew_retS rfl rfl (.cons (.tmp rfl) .nil) ?_
               have hcode : (a.ks.getD k default).v.code = 2 := if_pos (show (a.ks.getD k default).b < 0 ∨ 65535 < (a.ks.getD k default).b ∨ (a.ks.getD k default).g < 0 ∨ 65535 < (a.ks.getD k default).g by omega)
               exact ⟨congrArg SV.i (by rw [hck, hkd, kk_drop (by omega), List.map_cons]; simp only [keksCode]; rw [hcode]; rfl), rfl, rfl⟩
              ·skip
               by_cases c2 : 65535 < (a.ks.getD k default).b
               ·skip
                refine rg (.q 0 (.q 1 (.q 2 (.q 3 (.q 4 (.q 5 (.q 6 (.q 7 (.q 8 (.q 9 (.q 10 (.q 11 (.q 12 (.q 13 (.q 14 (.q 15 (.q 16 (.q 17 XT.done)))))))))))))))))) (by kernel_rfl) (by kernel_rfl) ?_
                refine q_fa fa_153_0 rfl rfl rfl ?_
                refine q_ld 0 Try.isAgg3 rfl rfl rfl rfl rfl ?_
                refine q_lt rfl rfl rfl rfl ?_
                refine x_F (decide_eq_false c1) ?_
                refine q_mv rfl rfl rfl ?_
                refine q_fa fa_153_0 rfl rfl rfl ?_
                refine q_ld 0 Try.isAgg3 rfl rfl rfl rfl rfl ?_
                refine q_gt rfl rfl rfl rfl ?_
                refine x_T (decide_eq_true c2) ?_
                refine q_pkF rfl rfl rfl rfl ?_
                refine q_mv rfl rfl rfl ?_
                iterate 3 refine q_skip rfl rfl ?_
                refine q_pkT rfl rfl rfl rfl ?_
                refine q_mv rfl rfl rfl ?_
                iterate 3 refine q_skip rfl rfl ?_
                refine q_pkT rfl rfl rfl rfl ?_
                refine x_end ?_
                refine nk_cut (e' := [(0, _), (1, _), (2, _), (3, _), (5, _), (6, _), (45, _), (64, _), (76, _), (77, _), (78, _), (79, _), (99, _)]) [0, 1, 2, 3, 5, 6, 45, 64, 76, 77, 78, 79, 99] rfl ?_
                refine nk_seq ?_
                refine ew_true rfl ?_
                refine ew_seq ?_
                refine rg (.q 0 XT.done) (by kernel_rfl) (by kernel_rfl) ?_
                refine q_as (sv := .i 2) rfl rfl rfl ?_
                refine x_end ?_
                refine nk_cut (e' := [(0, _), (1, _), (2, _), (3, _), (5, _), (6, _), (45, _), (64, _), (76, _), (77, _), (78, _), (79, _), (99, _)]) [0, 1, 2, 3, 5, 6, 45, 64, 76, 77, 78, 79, 99] rfl ?_
                refine nk_seq ?_
                refine ew_retS rfl rfl (.cons (.tmp rfl) .nil) ?_
                have hcode : (a.ks.getD k default).v.code = 2 := if_pos (show (a.ks.getD k default).b < 0 ∨ 65535 < (a.ks.getD k default).b ∨ (a.ks.getD k default).g < 0 ∨ 65535 < (a.ks.getD k default).g by omega)
                exact ⟨congrArg SV.i (by rw [hck, hkd, kk_drop (by omega), List.map_cons]; simp only [keksCode]; rw [hcode]; rfl), rfl, rfl⟩
               ·skip
                by_cases c3 : (a.ks.getD k default).g < 0
                ·skip
                 refine rg (.q 0 (.q 1 (.q 2 (.q 3 (.q 4 (.q 5 (.q 6 (.q 7 (.q 8 (.q 9 (.q 10 (.q 11 (.q 12 (.q 13 (.q 14 (.q 15 (.q 16 (.q 17 XT.done)))))))))))))))))) (by kernel_rfl) (by kernel_rfl) ?_
                 refine q_fa fa_153_0 rfl rfl rfl ?_
                 refine q_ld 0 Try.isAgg3 rfl rfl rfl rfl rfl ?_
                 refine q_lt rfl rfl rfl rfl ?_
                 refine x_F (decide_eq_false c1) ?_
                 refine q_mv rfl rfl rfl ?_
                 refine q_fa fa_153_0 rfl rfl rfl ?_
                 refine q_ld 0 Try.isAgg3 rfl rfl rfl rfl rfl ?_
                 refine q_gt rfl rfl rfl rfl ?_
                 refine x_F (decide_eq_false c2) ?_
                 refine q_pkF rfl rfl rfl rfl ?_
                 refine q_mv rfl rfl rfl ?_
                 refine q_fa fa_153_1 rfl rfl rfl ?_
                 refine q_ld 0 Try.isAgg3 rfl rfl rfl rfl rfl ?_
                 refine q_lt rfl rfl rfl rfl ?_
                 refine x_T (decide_eq_true c3) ?_
                 refine q_pkF rfl rfl rfl rfl ?_
                 refine q_mv rfl rfl rfl ?_
                 iterate 3 refine q_skip rfl rfl ?_
                 refine q_pkT rfl rfl rfl rfl ?_
                 refine x_end ?_
                 refine nk_cut (e' := [(0, _), (1, _), (2, _), (3, _), (5, _), (6, _), (45, _), (64, _), (76, _), (77, _), (78, _), (79, _), (99, _)]) [0, 1, 2, 3, 5, 6, 45, 64, 76, 77, 78, 79, 99] rfl ?_
                 refine nk_seq ?_
                 refine ew_true rfl ?_
                 refine ew_seq ?_
                 refine rg (.q 0 XT.done) (by kernel_rfl) (by kernel_rfl) ?_
                 refine q_as (sv := .i 2) rfl rfl rfl ?_
                 refine x_end ?_
                 refine nk_cut (e' := [(0, _), (1, _), (2, _), (3, _), (5, _), (6, _), (45, _), (64, _), (76, _), (77, _), (78, _), (79, _), (99, _)]) [0, 1, 2, 3, 5, 6, 45, 64, 76, 77, 78, 79, 99] rfl ?_
                 refine nk_seq ?_
                 refine ew_retS rfl rfl (.cons (.tmp rfl) .nil) ?_
                 have hcode : (a.ks.getD k default).v.code = 2 := if_pos (show (a.ks.getD k default).b < 0 ∨ 65535 < (a.ks.getD k default).b ∨ (a.ks.getD k default).g < 0 ∨ 65535 < (a.ks.getD k default).g by omega)
                 exact ⟨congrArg SV.i (by rw [hck, hkd, kk_drop (by omega), List.map_cons]; simp only [keksCode]; rw [hcode]; rfl), rfl, rfl⟩
                ·skip
                 refine rg (.q 0 (.q 1 (.q 2 (.q 3 (.q 4 (.q 5 (.q 6 (.q 7 (.q 8 (.q 9 (.q 10 (.q 11 (.q 12 (.q 13 (.q 14 (.q 15 (.q 16 (.q 17 XT.done)))))))))))))))))) (by kernel_rfl) (by kernel_rfl) ?_
                 refine q_fa fa_153_0 rfl rfl rfl ?_
                 refine q_ld 0 Try.isAgg3 rfl rfl rfl rfl rfl ?_
                 refine q_lt rfl rfl rfl rfl ?_
                 refine x_F (decide_eq_false c1) ?_
                 refine q_mv rfl rfl rfl ?_
                 refine q_fa fa_153_0 rfl rfl rfl ?_
                 refine q_ld 0 Try.isAgg3 rfl rfl rfl rfl rfl ?_
                 refine q_gt rfl rfl rfl rfl ?_
                 refine x_F (decide_eq_false c2) ?_
                 refine q_pkF rfl rfl rfl rfl ?_
                 refine q_mv rfl rfl rfl ?_
                 refine q_fa fa_153_1 rfl rfl rfl ?_
                 refine q_ld 0 Try.isAgg3 rfl rfl rfl rfl rfl ?_
                 refine q_lt rfl rfl rfl rfl ?_
                 refine x_F (decide_eq_false c3) ?_
                 refine q_pkF rfl rfl rfl rfl ?_
                 refine q_mv rfl rfl rfl ?_
                 refine q_fa fa_153_1 rfl rfl rfl ?_
                 refine q_ld 0 Try.isAgg3 rfl rfl rfl rfl rfl ?_
                 refine q_gt rfl rfl rfl rfl ?_
                 refine q_pkF rfl rfl rfl rfl ?_
                 refine x_end ?_
                 refine nk_cut (e' := [(0, _), (1, _), (2, _), (3, _), (5, _), (6, _), (45, _), (64, _), (76, _), (77, _), (78, _), (79, _), (99, _)]) [0, 1, 2, 3, 5, 6, 45, 64, 76, 77, 78, 79, 99] rfl ?_
                 refine nk_seq ?_
                 refine ew_cond rfl ?_ ?_
                 ·intro hc99
                  try simp only [decide_eq_true_eq] at hc99
                  refine ew_seq ?_
                  refine rg (.q 0 XT.done) (by kernel_rfl) (by kernel_rfl) ?_
                  refine q_as (sv := .i 2) rfl rfl rfl ?_
                  refine x_end ?_
                  refine nk_cut (e' := [(0, _), (1, _), (2, _), (3, _), (5, _), (6, _), (45, _), (64, _), (76, _), (77, _), (78, _), (79, _), (99, _)]) [0, 1, 2, 3, 5, 6, 45, 64, 76, 77, 78, 79, 99] rfl ?_
                  refine nk_seq ?_
                  refine ew_retS rfl rfl (.cons (.tmp rfl) .nil) ?_
                  have hcode : (a.ks.getD k default).v.code = 2 := if_pos (show (a.ks.getD k default).b < 0 ∨ 65535 < (a.ks.getD k default).b ∨ (a.ks.getD k default).g < 0 ∨ 65535 < (a.ks.getD k default).g by omega)
                  exact ⟨congrArg SV.i (by rw [hck, hkd, kk_drop (by omega), List.map_cons]; simp only [keksCode]; rw [hcode]; rfl), rfl, rfl⟩
                 ·intro hc99
                  try simp only [decide_eq_false_iff_not] at hc99
                  refine ew_skip ?_
                  refine nk_seq ?_
                  refine ew_seq ?_
                  refine rg (.q 0 (.q 1 (.q 2 (.q 3 XT.done)))) (by kernel_rfl) (by kernel_rfl) ?_
                  refine q_fa fa_153_2 rfl rfl rfl ?_
                  refine q_ld 0 Try.isAgg26 rfl rfl rfl rfl rfl ?_
                  refine q_len Try.underlying26 rfl rfl rfl ?_
                  refine q_ne rfl rfl rfl rfl ?_
                  refine x_end ?_
                  refine nk_cut (e' := [(0, _), (1, _), (2, _), (3, _), (5, _), (6, _), (45, _), (64, _), (76, _), (77, _), (78, _), (79, _), (99, _), (103, _)]) [0, 1, 2, 3, 5, 6, 45, 64, 76, 77, 78, 79, 99, 103] rfl ?_
                  refine nk_seq ?_
                  refine ew_cond rfl ?_ ?_
                  ·intro hc103
                   try simp only [decide_eq_true_eq] at hc103
                   refine ew_seq ?_
                   refine rg (.q 0 XT.done) (by kernel_rfl) (by kernel_rfl) ?_
                   refine q_as (sv := .i 17) rfl rfl rfl ?_
                   refine x_end ?_
                   refine nk_cut (e' := [(0, _), (1, _), (2, _), (3, _), (5, _), (6, _), (45, _), (64, _), (76, _), (77, _), (78, _), (79, _), (99, _), (103, _)]) [0, 1, 2, 3, 5, 6, 45, 64, 76, 77, 78, 79, 99, 103] rfl ?_
                   refine nk_seq ?_
                   refine ew_retS rfl rfl (.cons (.tmp rfl) .nil) ?_
                   have hkl2 : (a.ks.getD k default).k.xs.length = (a.ks.getD k default).k.n := (ha.ks.at_ (j := k) (by omega)).len
                   have hcode : (a.ks.getD k default).v.code = 17 := (if_neg (show ¬ ((a.ks.getD k default).b < 0 ∨ 65535 < (a.ks.getD k default).b ∨ (a.ks.getD k default).g < 0 ∨ 65535 < (a.ks.getD k default).g) by omega)).trans (if_pos (show (a.ks.getD k default).k.xs.length ≠ 32 by omega))
                   exact ⟨congrArg SV.i (by rw [hck, hkd, kk_drop (by omega), List.map_cons]; simp only [keksCode]; rw [hcode]; rfl), rfl, rfl⟩
                  ·intro hc103
                   try simp only [decide_eq_false_iff_not] at hc103
                   have hkl2 : (a.ks.getD k default).k.xs.length = (a.ks.getD k default).k.n := (ha.ks.at_ (j := k) (by omega)).len
                   have hcode : (a.ks.getD k default).v.code = 0 := (if_neg (show ¬ ((a.ks.getD k default).b < 0 ∨ 65535 < (a.ks.getD k default).b ∨ (a.ks.getD k default).g < 0 ∨ 65535 < (a.ks.getD k default).g) by omega)).trans (if_neg (show ¬ (a.ks.getD k default).k.xs.length ≠ 32 by omega))
                   refine ew_skip ?_
                   refine nk_blk ?_
                   refine nk_seq ?_
                   refine rg (.q 0 (.q 1 XT.done)) (by kernel_rfl) (by kernel_rfl) ?_
                   refine q_add rfl rfl rfl rfl (by omega) (by omega) ?_
                   refine q_mv rfl rfl rfl ?_
                   refine x_end ?_
                   refine nk_cut (e' := [(0, _), (1, _), (2, _), (3, _), (5, _), (6, _), (45, _), (64, _), (76, _), (77, _), (78, _), (79, _), (99, _), (103, _)]) [0, 1, 2, 3, 5, 6, 45, 64, 76, 77, 78, 79, 99, 103] rfl ?_
                   refine nk_perm (S' := [_, _]) (permL [1, 0] rfl) ?_
                   refine nk_drop (S := [_]) (S' := [_]) ?_
                   refine nk_round (μ := Mv1) (i := k) (S := _) (G := Gv1) (k + 1 : Nat) ?_ ?_ ?_ ?_
                   ·exact ⟨rfl, rfl, rfl, rfl, rfl, rfl, rfl, rfl, rfl, rfl, trivial⟩
                   ·exact rfl
                   ·exact ⟨rfl, ⟨by omega, by rw [hkd, kk_drop (by omega), List.map_cons]; simp only [keksCode]; rw [if_pos hcode]⟩⟩
                   ·dsimp only [Mv1]; omega
             ·intro hc79
              try simp only [decide_eq_false_iff_not] at hc79
              refine ew_exit _ rfl ?_
              refine nk_seq ?_
              refine ew_seq ?_
              refine rg (.q 0 XT.done) (by kernel_rfl) (by kernel_rfl) ?_
              refine q_as (sv := .i 0) rfl rfl rfl ?_
              refine x_end ?_
              refine nk_cut (e' := [(0, _), (1, _), (2, _), (3, _), (6, _), (45, _), (64, _), (76, _), (77, _), (78, _), (79, _)]) [0, 1, 2, 3, 6, 45, 64, 76, 77, 78, 79] rfl ?_
              refine nk_seq ?_
              refine ew_retS rfl rfl (.cons (.tmp rfl) .nil) ?_
              exact ⟨congrArg SV.i (by rw [hck, hkd, List.drop_of_length_le (by omega)]; rfl), rfl, rfl⟩
     ·skip
      refine rg (.q 0 (.q 1 (.q 2 (.q 3 (.q 4 (.q 5 (.q 6 (.h 7 (.q 8 (.q 9 (.q 10 (.q 11 (.q 12 (.q 13 (.h 14 (.q 15 (.q 16 (.q 17 (.q 18 (.q 19 (.q 20 (.h 21 (.q 22 (.q 23 (.q 24 (.q 25 (.q 26 (.q 27 (.h 28 (.q 29 (.q 30 (.q 31 (.q 32 (.q 33 (.q 34 (.q 35 (.q 36 (.q 37 (.q 38 XT.done))))))))))))))))))))))))))))))))))))))) (by kernel_rfl) (by kernel_rfl) ?_
      refine q_fa fa_60_0 rfl rfl rfl ?_
      refine q_ld 0 Try.isAgg3 rfl rfl rfl rfl rfl ?_
      refine q_lt rfl rfl rfl rfl ?_
      refine x_F (decide_eq_false h1) ?_
      refine q_mv rfl rfl rfl ?_
      refine q_mv rfl rfl rfl ?_
      refine q_fa fa_60_0 rfl rfl rfl ?_
      refine q_ld 0 Try.isAgg3 rfl rfl rfl rfl rfl ?_
      refine h_callv Try.call94 (S2 := [_]) rfl rfl rfl rfl rfl (List.Perm.refl _) (AChk1_hc) ?_
      rintro r_ S_ H hl5 ⟨rfl, rfl, rfl⟩
      refine ⟨kp0, ?_⟩
      refine x_S (S' := [_]) rfl ?_
      refine q_not rfl rfl rfl ?_
      refine x_F (by simp [h2]) ?_
      refine q_pkF rfl rfl rfl rfl ?_
      refine q_mv rfl rfl rfl ?_
      refine q_mv rfl rfl rfl ?_
      refine q_fa fa_60_1 rfl rfl rfl ?_
      refine q_ld 0 Try.isAgg3 rfl rfl rfl rfl rfl ?_
      refine h_callv Try.call94 (S2 := [_]) rfl rfl rfl rfl rfl (List.Perm.refl _) (AChk1_hc) ?_
      rintro r_ S_ H hl6 ⟨rfl, rfl, rfl⟩
      refine ⟨kp0, ?_⟩
      refine x_S (S' := [_]) rfl ?_
      refine q_not rfl rfl rfl ?_
      refine x_F (by simp [h3]) ?_
      refine q_pkF rfl rfl rfl rfl ?_
      refine q_mv rfl rfl rfl ?_
      refine q_mv rfl rfl rfl ?_
      refine q_fa fa_60_2 rfl rfl rfl ?_
      refine q_ld 0 Try.isAgg3 rfl rfl rfl rfl rfl ?_
      refine h_callv Try.call94 (S2 := [_]) rfl rfl rfl rfl rfl (List.Perm.refl _) (AChk1_hc) ?_
      rintro r_ S_ H hl7 ⟨rfl, rfl, rfl⟩
      refine ⟨kp0, ?_⟩
      refine x_S (S' := [_]) rfl ?_
      refine q_not rfl rfl rfl ?_
      refine x_F (by simp [h4]) ?_
      refine q_pkF rfl rfl rfl rfl ?_
      refine q_mv rfl rfl rfl ?_
      refine q_mv rfl rfl rfl ?_
      refine q_fa fa_60_4 rfl rfl rfl ?_
      refine q_ld 0 Try.isAgg3 rfl rfl rfl rfl rfl ?_
      refine h_callv Try.call94 (S2 := [_]) rfl rfl rfl rfl rfl (List.Perm.refl _) (AChk1_hc) ?_
      rintro r_ S_ H hl8 ⟨rfl, rfl, rfl⟩
      refine ⟨kp0, ?_⟩
      refine x_S (S' := [_]) rfl ?_
      refine q_not rfl rfl rfl ?_
      refine x_T (by simp [h5]) ?_
      refine q_pkF rfl rfl rfl rfl ?_
      refine q_mv rfl rfl rfl ?_
      iterate 5 refine q_skip rfl rfl ?_
      refine q_pkT rfl rfl rfl rfl ?_
      refine q_as rfl rfl rfl ?_
      refine x_end ?_
      refine nk_cut (e' := [(0, _), (1, _), (2, _), (3, _), (6, _)]) [0, 1, 2, 3, 6] rfl ?_
      refine nk_seq ?_
      refine ew_true rfl ?_
      refine ew_seq ?_
      refine rg (.q 0 XT.done) (by kernel_rfl) (by kernel_rfl) ?_
      refine q_as (sv := .i 2) rfl rfl rfl ?_
      refine x_end ?_
      refine nk_cut (e' := [(0, _), (1, _), (2, _), (3, _), (6, _)]) [0, 1, 2, 3, 6] rfl ?_
      refine nk_seq ?_
      refine ew_retS rfl rfl (.cons (.tmp rfl) .nil) ?_
      exact ⟨congrArg SV.i (by simp [An.v, Anc.check, h5]), rfl, rfl⟩
    ·skip
     refine rg (.q 0 (.q 1 (.q 2 (.q 3 (.q 4 (.q 5 (.q 6 (.h 7 (.q 8 (.q 9 (.q 10 (.q 11 (.q 12 (.q 13 (.h 14 (.q 15 (.q 16 (.q 17 (.q 18 (.q 19 (.q 20 (.h 21 (.q 22 (.q 23 (.q 24 (.q 25 (.q 26 (.q 27 (.h 28 (.q 29 (.q 30 (.q 31 (.q 32 (.q 33 (.q 34 (.q 35 (.q 36 (.q 37 (.q 38 XT.done))))))))))))))))))))))))))))))))))))))) (by kernel_rfl) (by kernel_rfl) ?_
     refine q_fa fa_60_0 rfl rfl rfl ?_
     refine q_ld 0 Try.isAgg3 rfl rfl rfl rfl rfl ?_
     refine q_lt rfl rfl rfl rfl ?_
     refine x_F (decide_eq_false h1) ?_
     refine q_mv rfl rfl rfl ?_
     refine q_mv rfl rfl rfl ?_
     refine q_fa fa_60_0 rfl rfl rfl ?_
     refine q_ld 0 Try.isAgg3 rfl rfl rfl rfl rfl ?_
     refine h_callv Try.call94 (S2 := [_]) rfl rfl rfl rfl rfl (List.Perm.refl _) (AChk1_hc) ?_
     rintro r_ S_ H hl9 ⟨rfl, rfl, rfl⟩
     refine ⟨kp0, ?_⟩
     refine x_S (S' := [_]) rfl ?_
     refine q_not rfl rfl rfl ?_
     refine x_F (by simp [h2]) ?_
     refine q_pkF rfl rfl rfl rfl ?_
     refine q_mv rfl rfl rfl ?_
     refine q_mv rfl rfl rfl ?_
     refine q_fa fa_60_1 rfl rfl rfl ?_
     refine q_ld 0 Try.isAgg3 rfl rfl rfl rfl rfl ?_
     refine h_callv Try.call94 (S2 := [_]) rfl rfl rfl rfl rfl (List.Perm.refl _) (AChk1_hc) ?_
     rintro r_ S_ H hl10 ⟨rfl, rfl, rfl⟩
     refine ⟨kp0, ?_⟩
     refine x_S (S' := [_]) rfl ?_
     refine q_not rfl rfl rfl ?_
     refine x_F (by simp [h3]) ?_
     refine q_pkF rfl rfl rfl rfl ?_
     refine q_mv rfl rfl rfl ?_
     refine q_mv rfl rfl rfl ?_
     refine q_fa fa_60_2 rfl rfl rfl ?_
     refine q_ld 0 Try.isAgg3 rfl rfl rfl rfl rfl ?_
     refine h_callv Try.call94 (S2 := [_]) rfl rfl rfl rfl rfl (List.Perm.refl _) (AChk1_hc) ?_
     rintro r_ S_ H hl11 ⟨rfl, rfl, rfl⟩
     refine ⟨kp0, ?_⟩
     refine x_S (S' := [_]) rfl ?_
     refine q_not rfl rfl rfl ?_
     refine x_T (by simp [h4]) ?_
     refine q_pkF rfl rfl rfl rfl ?_
     refine q_mv rfl rfl rfl ?_
     iterate 3 refine q_skip rfl rfl ?_
     refine h_skip rfl rfl ?_
     refine q_skip rfl rfl ?_
     refine q_pkT rfl rfl rfl rfl ?_
     refine q_mv rfl rfl rfl ?_
     iterate 5 refine q_skip rfl rfl ?_
     refine q_pkT rfl rfl rfl rfl ?_
     refine q_as rfl rfl rfl ?_
     refine x_end ?_
     refine nk_cut (e' := [(0, _), (1, _), (2, _), (3, _), (6, _)]) [0, 1, 2, 3, 6] rfl ?_
     refine nk_seq ?_
     refine ew_true rfl ?_
     refine ew_seq ?_
     refine rg (.q 0 XT.done) (by kernel_rfl) (by kernel_rfl) ?_
     refine q_as (sv := .i 2) rfl rfl rfl ?_
     refine x_end ?_
     refine nk_cut (e' := [(0, _), (1, _), (2, _), (3, _), (6, _)]) [0, 1, 2, 3, 6] rfl ?_
     refine nk_seq ?_
     refine ew_retS rfl rfl (.cons (.tmp rfl) .nil) ?_
     exact ⟨congrArg SV.i (by simp [An.v, Anc.check, h4]), rfl, rfl⟩
   ·skip
    refine rg (.q 0 (.q 1 (.q 2 (.q 3 (.q 4 (.q 5 (.q 6 (.h 7 (.q 8 (.q 9 (.q 10 (.q 11 (.q 12 (.q 13 (.h 14 (.q 15 (.q 16 (.q 17 (.q 18 (.q 19 (.q 20 (.h 21 (.q 22 (.q 23 (.q 24 (.q 25 (.q 26 (.q 27 (.h 28 (.q 29 (.q 30 (.q 31 (.q 32 (.q 33 (.q 34 (.q 35 (.q 36 (.q 37 (.q 38 XT.done))))))))))))))))))))))))))))))))))))))) (by kernel_rfl) (by kernel_rfl) ?_
    refine q_fa fa_60_0 rfl rfl rfl ?_
    refine q_ld 0 Try.isAgg3 rfl rfl rfl rfl rfl ?_
    refine q_lt rfl rfl rfl rfl ?_
    refine x_F (decide_eq_false h1) ?_
    refine q_mv rfl rfl rfl ?_
    refine q_mv rfl rfl rfl ?_
    refine q_fa fa_60_0 rfl rfl rfl ?_
    refine q_ld 0 Try.isAgg3 rfl rfl rfl rfl rfl ?_
    refine h_callv Try.call94 (S2 := [_]) rfl rfl rfl rfl rfl (List.Perm.refl _) (AChk1_hc) ?_
    rintro r_ S_ H hl12 ⟨rfl, rfl, rfl⟩
    refine ⟨kp0, ?_⟩
    refine x_S (S' := [_]) rfl ?_
    refine q_not rfl rfl rfl ?_
    refine x_F (by simp [h2]) ?_
    refine q_pkF rfl rfl rfl rfl ?_
    refine q_mv rfl rfl rfl ?_
    refine q_mv rfl rfl rfl ?_
    refine q_fa fa_60_1 rfl rfl rfl ?_
    refine q_ld 0 Try.isAgg3 rfl rfl rfl rfl rfl ?_
    refine h_callv Try.call94 (S2 := [_]) rfl rfl rfl rfl rfl (List.Perm.refl _) (AChk1_hc) ?_
    rintro r_ S_ H hl13 ⟨rfl, rfl, rfl⟩
    refine ⟨kp0, ?_⟩
    refine x_S (S' := [_]) rfl ?_
    refine q_not rfl rfl rfl ?_
    refine x_T (by simp [h3]) ?_
    refine q_pkF rfl rfl rfl rfl ?_
    refine q_mv rfl rfl rfl ?_
    iterate 3 refine q_skip rfl rfl ?_
    refine h_skip rfl rfl ?_
    refine q_skip rfl rfl ?_
    refine q_pkT rfl rfl rfl rfl ?_
    refine q_mv rfl rfl rfl ?_
    iterate 3 refine q_skip rfl rfl ?_
    refine h_skip rfl rfl ?_
    refine q_skip rfl rfl ?_
    refine q_pkT rfl rfl rfl rfl ?_
    refine q_mv rfl rfl rfl ?_
    iterate 5 refine q_skip rfl rfl ?_
    refine q_pkT rfl rfl rfl rfl ?_
    refine q_as rfl rfl rfl ?_
    refine x_end ?_
    refine nk_cut (e' := [(0, _), (1, _), (2, _), (3, _), (6, _)]) [0, 1, 2, 3, 6] rfl ?_
    refine nk_seq ?_
    refine ew_true rfl ?_
    refine ew_seq ?_
    refine rg (.q 0 XT.done) (by kernel_rfl) (by kernel_rfl) ?_
    refine q_as (sv := .i 2) rfl rfl rfl ?_
    refine x_end ?_
    refine nk_cut (e' := [(0, _), (1, _), (2, _), (3, _), (6, _)]) [0, 1, 2, 3, 6] rfl ?_
    refine nk_seq ?_
    refine ew_retS rfl rfl (.cons (.tmp rfl) .nil) ?_
    exact ⟨congrArg SV.i (by simp [An.v, Anc.check, h3]), rfl, rfl⟩
  ·skip
   refine rg (.q 0 (.q 1 (.q 2 (.q 3 (.q 4 (.q 5 (.q 6 (.h 7 (.q 8 (.q 9 (.q 10 (.q 11 (.q 12 (.q 13 (.h 14 (.q 15 (.q 16 (.q 17 (.q 18 (.q 19 (.q 20 (.h 21 (.q 22 (.q 23 (.q 24 (.q 25 (.q 26 (.q 27 (.h 28 (.q 29 (.q 30 (.q 31 (.q 32 (.q 33 (.q 34 (.q 35 (.q 36 (.q 37 (.q 38 XT.done))))))))))))))))))))))))))))))))))))))) (by kernel_rfl) (by kernel_rfl) ?_
   refine q_fa fa_60_0 rfl rfl rfl ?_
   refine q_ld 0 Try.isAgg3 rfl rfl rfl rfl rfl ?_
   refine q_lt rfl rfl rfl rfl ?_
   refine x_F (decide_eq_false h1) ?_
   refine q_mv rfl rfl rfl ?_
   refine q_mv rfl rfl rfl ?_
   refine q_fa fa_60_0 rfl rfl rfl ?_
   refine q_ld 0 Try.isAgg3 rfl rfl rfl rfl rfl ?_
   refine h_callv Try.call94 (S2 := [_]) rfl rfl rfl rfl rfl (List.Perm.refl _) (AChk1_hc) ?_
   rintro r_ S_ H hl14 ⟨rfl, rfl, rfl⟩
   refine ⟨kp0, ?_⟩
   refine x_S (S' := [_]) rfl ?_
   refine q_not rfl rfl rfl ?_
   refine x_T (by simp [h2]) ?_
   refine q_pkF rfl rfl rfl rfl ?_
   refine q_mv rfl rfl rfl ?_
   iterate 3 refine q_skip rfl rfl ?_
   refine h_skip rfl rfl ?_
   refine q_skip rfl rfl ?_
   refine q_pkT rfl rfl rfl rfl ?_
   refine q_mv rfl rfl rfl ?_
   iterate 3 refine q_skip rfl rfl ?_
   refine h_skip rfl rfl ?_
   refine q_skip rfl rfl ?_
   refine q_pkT rfl rfl rfl rfl ?_
   refine q_mv rfl rfl rfl ?_
   iterate 3 refine q_skip rfl rfl ?_
   refine h_skip rfl rfl ?_
   refine q_skip rfl rfl ?_
   refine q_pkT rfl rfl rfl rfl ?_
   refine q_mv rfl rfl rfl ?_
   iterate 5 refine q_skip rfl rfl ?_
   refine q_pkT rfl rfl rfl rfl ?_
   refine q_as rfl rfl rfl ?_
   refine x_end ?_
   refine nk_cut (e' := [(0, _), (1, _), (2, _), (3, _), (6, _)]) [0, 1, 2, 3, 6] rfl ?_
   refine nk_seq ?_
   refine ew_true rfl ?_
   refine ew_seq ?_
   refine rg (.q 0 XT.done) (by kernel_rfl) (by kernel_rfl) ?_
   refine q_as (sv := .i 2) rfl rfl rfl ?_
   refine x_end ?_
   refine nk_cut (e' := [(0, _), (1, _), (2, _), (3, _), (6, _)]) [0, 1, 2, 3, 6] rfl ?_
   refine nk_seq ?_
   refine ew_retS rfl rfl (.cons (.tmp rfl) .nil) ?_
   exact ⟨congrArg SV.i (by simp [An.v, Anc.check, h2]), rfl, rfl⟩


theorem RAChk_hc {H : Hp} {a : An} (ha : An.ok H a) :
  HC Try.prog 36 [.agg a.cells] [] H (fun r S' H' => r = .i a.v.check ∧ S' = [] ∧ H' = H) := by
 have hml : a.m.xs.length = a.m.n := BS.len ha.m
 have hkl := ha.ks.len
 refine hc_intro (n := 101) Try.func36 rfl Try.ntmps36 rfl (fun B hB => ?_)
 refine ew_cut (e' := [(0, _)]) [0] rfl ?_
 refine ew_sub (e' := [(0, .agg [_, _, _, _, _, _, _, _])]) ⟨rfl, trivial⟩ ?_
 refine ew_seq ?_
 refine rg (.h 0 (.q 1 XT.done)) (by kernel_rfl) (by kernel_rfl) ?_
 refine h_boxS rfl rfl rfl ?_
 intro g1
 refine ⟨kp0, ?_⟩
 refine q_as (sv := .i 0) rfl rfl rfl ?_
 refine x_end ?_
 refine nk_cut (e' := [(0, _), (1, _), (2, _)]) [0, 1, 2] rfl ?_
 refine nk_seq ?_
 refine ew_seq ?_
 refine ew_seq ?_
 by_cases h1 : a.seq < 1
 ·skip
  refine rg (.q 0 (.q 1 (.q 2 (.q 3 (.q 4 (.q 5 (.h 6 (.q 7 (.q 8 (.q 9 (.q 10 (.q 11 (.h 12 (.q 13 (.q 14 (.q 15 (.q 16 (.q 17 (.h 18 (.q 19 (.q 20 (.q 21 (.q 22 (.q 23 (.h 24 (.q 25 (.q 26 (.q 27 (.q 28 (.q 29 (.q 30 (.q 31 (.q 32 (.q 33 XT.done)))))))))))))))))))))))))))))))))) (by kernel_rfl) (by kernel_rfl) ?_
  refine q_fa fa_60_0 rfl rfl rfl ?_
  refine q_ld 0 Try.isAgg3 rfl rfl rfl rfl rfl ?_
  refine q_lt rfl rfl rfl rfl ?_
  refine x_T (decide_eq_true h1) ?_
  refine q_mv rfl rfl rfl ?_
  refine q_skip rfl rfl ?_
  refine q_skip rfl rfl ?_
  refine h_skip rfl rfl ?_
  refine q_skip rfl rfl ?_
  refine q_pkT rfl rfl rfl rfl ?_
  refine q_mv rfl rfl rfl ?_
  refine q_skip rfl rfl ?_
  refine q_skip rfl rfl ?_
  refine h_skip rfl rfl ?_
  refine q_skip rfl rfl ?_
  refine q_pkT rfl rfl rfl rfl ?_
  refine q_mv rfl rfl rfl ?_
  refine q_skip rfl rfl ?_
  refine q_skip rfl rfl ?_
  refine h_skip rfl rfl ?_
  refine q_skip rfl rfl ?_
  refine q_pkT rfl rfl rfl rfl ?_
  refine q_mv rfl rfl rfl ?_
  refine q_skip rfl rfl ?_
  refine q_skip rfl rfl ?_
  refine h_skip rfl rfl ?_
  refine q_skip rfl rfl ?_
  refine q_pkT rfl rfl rfl rfl ?_
  refine q_mv rfl rfl rfl ?_
  iterate 5 refine q_skip rfl rfl ?_
  refine q_pkT rfl rfl rfl rfl ?_
  refine x_end ?_
  refine nk_cut (e' := [(0, _), (1, _), (2, _), (38, _)]) [0, 1, 2, 38] rfl ?_
  refine nk_seq ?_
  refine ew_true rfl ?_
  refine ew_seq ?_
  refine rg (.q 0 XT.done) (by kernel_rfl) (by kernel_rfl) ?_
  refine q_as (sv := .i 2) rfl rfl rfl ?_
  refine x_end ?_
  refine nk_cut (e' := [(0, _), (1, _), (2, _), (38, _)]) [0, 1, 2, 38] rfl ?_
  refine nk_seq ?_
  refine ew_retS rfl rfl (.cons (.tmp rfl) .nil) ?_
  exact ⟨congrArg SV.i (by simp [An.v, Anc.check, h1]), rfl, rfl⟩
 ·skip
  by_cases h2 : small a.seq
  ·skip
   by_cases h3 : small a.epoch
   ·skip
    by_cases h4 : small a.given_
    ·skip
     by_cases h5 : small a.rep
     ·skip
      refine rg (.q 0 (.q 1 (.q 2 (.q 3 (.q 4 (.q 5 (.h 6 (.q 7 (.q 8 (.q 9 (.q 10 (.q 11 (.h 12 (.q 13 (.q 14 (.q 15 (.q 16 (.q 17 (.h 18 (.q 19 (.q 20 (.q 21 (.q 22 (.q 23 (.h 24 (.q 25 (.q 26 (.q 27 (.q 28 (.q 29 (.q 30 (.q 31 (.q 32 (.q 33 XT.done)))))))))))))))))))))))))))))))))) (by kernel_rfl) (by kernel_rfl) ?_
      refine q_fa fa_60_0 rfl rfl rfl ?_
      refine q_ld 0 Try.isAgg3 rfl rfl rfl rfl rfl ?_
      refine q_lt rfl rfl rfl rfl ?_
      refine x_F (decide_eq_false h1) ?_
      refine q_mv rfl rfl rfl ?_
      refine q_fa fa_60_0 rfl rfl rfl ?_
      refine q_ld 0 Try.isAgg3 rfl rfl rfl rfl rfl ?_
      refine h_call0 Try.call95 rfl rfl rfl (RSmall_hc) ?_
      rintro r_ S_ H hl1 ⟨rfl, rfl, rfl⟩
      refine ⟨kp0, ?_⟩
      refine x_S (S' := [_]) rfl ?_
      refine q_not rfl rfl rfl ?_
      refine x_F (by simp [h2]) ?_
      refine q_pkF rfl rfl rfl rfl ?_
      refine q_mv rfl rfl rfl ?_
      refine q_fa fa_60_1 rfl rfl rfl ?_
      refine q_ld 0 Try.isAgg3 rfl rfl rfl rfl rfl ?_
      refine h_call0 Try.call95 rfl rfl rfl (RSmall_hc) ?_
      rintro r_ S_ H hl2 ⟨rfl, rfl, rfl⟩
      refine ⟨kp0, ?_⟩
      refine x_S (S' := [_]) rfl ?_
      refine q_not rfl rfl rfl ?_
      refine x_F (by simp [h3]) ?_
      refine q_pkF rfl rfl rfl rfl ?_
      refine q_mv rfl rfl rfl ?_
      refine q_fa fa_60_2 rfl rfl rfl ?_
      refine q_ld 0 Try.isAgg3 rfl rfl rfl rfl rfl ?_
      refine h_call0 Try.call95 rfl rfl rfl (RSmall_hc) ?_
      rintro r_ S_ H hl3 ⟨rfl, rfl, rfl⟩
      refine ⟨kp0, ?_⟩
      refine x_S (S' := [_]) rfl ?_
      refine q_not rfl rfl rfl ?_
      refine x_F (by simp [h4]) ?_
      refine q_pkF rfl rfl rfl rfl ?_
      refine q_mv rfl rfl rfl ?_
      refine q_fa fa_60_4 rfl rfl rfl ?_
      refine q_ld 0 Try.isAgg3 rfl rfl rfl rfl rfl ?_
      refine h_call0 Try.call95 rfl rfl rfl (RSmall_hc) ?_
      rintro r_ S_ H hl4 ⟨rfl, rfl, rfl⟩
      refine ⟨kp0, ?_⟩
      refine x_S (S' := [_]) rfl ?_
      refine q_not rfl rfl rfl ?_
      refine x_F (by simp [h5]) ?_
      refine q_pkF rfl rfl rfl rfl ?_
      refine q_mv rfl rfl rfl ?_
      refine q_fa fa_60_1 rfl rfl rfl ?_
      refine q_ld 0 Try.isAgg3 rfl rfl rfl rfl rfl ?_
      refine q_fa fa_60_2 rfl rfl rfl ?_
      refine q_ld 0 Try.isAgg3 rfl rfl rfl rfl rfl ?_
      refine q_gt rfl rfl rfl rfl ?_
      refine q_pkF rfl rfl rfl rfl ?_
      refine x_end ?_
      refine nk_cut (e' := [(0, _), (1, _), (2, _), (38, _)]) [0, 1, 2, 38] rfl ?_
      refine nk_seq ?_
      refine ew_cond rfl ?_ ?_
      ·intro hc38
       try simp only [decide_eq_true_eq] at hc38
       refine ew_seq ?_
       refine rg (.q 0 XT.done) (by kernel_rfl) (by kernel_rfl) ?_
       refine q_as (sv := .i 2) rfl rfl rfl ?_
       refine x_end ?_
       refine nk_cut (e' := [(0, _), (1, _), (2, _), (38, _)]) [0, 1, 2, 38] rfl ?_
       refine nk_seq ?_
       refine ew_retS rfl rfl (.cons (.tmp rfl) .nil) ?_
       exact ⟨congrArg SV.i (by simp [An.v, Anc.check, hc38]), rfl, rfl⟩
      ·intro hc38
       try simp only [decide_eq_false_iff_not] at hc38
       refine ew_skip ?_
       refine nk_seq ?_
       refine ew_seq ?_
       refine ew_seq ?_
       by_cases q1 : a.root < -1
       ·skip
        refine rg (.q 0 (.q 1 (.q 2 (.q 3 (.q 4 (.q 5 (.q 6 (.q 7 (.q 8 (.q 9 (.q 10 (.q 11 (.q 12 (.q 13 (.q 14 (.q 15 (.q 16 (.q 17 XT.done)))))))))))))))))) (by kernel_rfl) (by kernel_rfl) ?_
        refine q_fa fa_60_3 rfl rfl rfl ?_
        refine q_ld 0 Try.isAgg3 rfl rfl rfl rfl rfl ?_
        refine q_lt rfl rfl rfl rfl ?_
        refine x_T (decide_eq_true q1) ?_
        refine q_mv rfl rfl rfl ?_
        iterate 3 refine q_skip rfl rfl ?_
        refine q_pkT rfl rfl rfl rfl ?_
        refine q_mv rfl rfl rfl ?_
        iterate 3 refine q_skip rfl rfl ?_
        refine q_pkT rfl rfl rfl rfl ?_
        refine q_mv rfl rfl rfl ?_
        iterate 3 refine q_skip rfl rfl ?_
        refine q_pkT rfl rfl rfl rfl ?_
        refine x_end ?_
        refine nk_cut (e' := [(0, _), (1, _), (2, _), (38, _), (56, _)]) [0, 1, 2, 38, 56] rfl ?_
        refine nk_seq ?_
        refine ew_true rfl ?_
        refine ew_seq ?_
        refine rg (.q 0 XT.done) (by kernel_rfl) (by kernel_rfl) ?_
        refine q_as (sv := .i 2) rfl rfl rfl ?_
        refine x_end ?_
        refine nk_cut (e' := [(0, _), (1, _), (2, _), (38, _), (56, _)]) [0, 1, 2, 38, 56] rfl ?_
        refine nk_seq ?_
        refine ew_retS rfl rfl (.cons (.tmp rfl) .nil) ?_
        exact ⟨congrArg SV.i (by simp [An.v, Anc.check, h1, h2, h3, h4, h5, show ¬ a.given_ < a.epoch by omega, q1]), rfl, rfl⟩
       ·skip
        by_cases q2 : 4096 ≤ a.root
        ·skip
         refine rg (.q 0 (.q 1 (.q 2 (.q 3 (.q 4 (.q 5 (.q 6 (.q 7 (.q 8 (.q 9 (.q 10 (.q 11 (.q 12 (.q 13 (.q 14 (.q 15 (.q 16 (.q 17 XT.done)))))))))))))))))) (by kernel_rfl) (by kernel_rfl) ?_
         refine q_fa fa_60_3 rfl rfl rfl ?_
         refine q_ld 0 Try.isAgg3 rfl rfl rfl rfl rfl ?_
         refine q_lt rfl rfl rfl rfl ?_
         refine x_F (decide_eq_false q1) ?_
         refine q_mv rfl rfl rfl ?_
         refine q_fa fa_60_3 rfl rfl rfl ?_
         refine q_ld 0 Try.isAgg3 rfl rfl rfl rfl rfl ?_
         refine q_ge rfl rfl rfl rfl ?_
         refine x_T (decide_eq_true q2) ?_
         refine q_pkF rfl rfl rfl rfl ?_
         refine q_mv rfl rfl rfl ?_
         iterate 3 refine q_skip rfl rfl ?_
         refine q_pkT rfl rfl rfl rfl ?_
         refine q_mv rfl rfl rfl ?_
         iterate 3 refine q_skip rfl rfl ?_
         refine q_pkT rfl rfl rfl rfl ?_
         refine x_end ?_
         refine nk_cut (e' := [(0, _), (1, _), (2, _), (38, _), (56, _)]) [0, 1, 2, 38, 56] rfl ?_
         refine nk_seq ?_
         refine ew_true rfl ?_
         refine ew_seq ?_
         refine rg (.q 0 XT.done) (by kernel_rfl) (by kernel_rfl) ?_
         refine q_as (sv := .i 2) rfl rfl rfl ?_
         refine x_end ?_
         refine nk_cut (e' := [(0, _), (1, _), (2, _), (38, _), (56, _)]) [0, 1, 2, 38, 56] rfl ?_
         refine nk_seq ?_
         refine ew_retS rfl rfl (.cons (.tmp rfl) .nil) ?_
         exact ⟨congrArg SV.i (by simp [An.v, Anc.check, h1, h2, h3, h4, h5, show ¬ a.given_ < a.epoch by omega, q2]), rfl, rfl⟩
        ·skip
         by_cases q3 : a.pending < 0
         ·skip
          refine rg (.q 0 (.q 1 (.q 2 (.q 3 (.q 4 (.q 5 (.q 6 (.q 7 (.q 8 (.q 9 (.q 10 (.q 11 (.q 12 (.q 13 (.q 14 (.q 15 (.q 16 (.q 17 XT.done)))))))))))))))))) (by kernel_rfl) (by kernel_rfl) ?_
          refine q_fa fa_60_3 rfl rfl rfl ?_
          refine q_ld 0 Try.isAgg3 rfl rfl rfl rfl rfl ?_
          refine q_lt rfl rfl rfl rfl ?_
          refine x_F (decide_eq_false q1) ?_
          refine q_mv rfl rfl rfl ?_
          refine q_fa fa_60_3 rfl rfl rfl ?_
          refine q_ld 0 Try.isAgg3 rfl rfl rfl rfl rfl ?_
          refine q_ge rfl rfl rfl rfl ?_
          refine x_F (decide_eq_false q2) ?_
          refine q_pkF rfl rfl rfl rfl ?_
          refine q_mv rfl rfl rfl ?_
          refine q_fa fa_60_5 rfl rfl rfl ?_
          refine q_ld 0 Try.isAgg3 rfl rfl rfl rfl rfl ?_
          refine q_lt rfl rfl rfl rfl ?_
          refine x_T (decide_eq_true q3) ?_
          refine q_pkF rfl rfl rfl rfl ?_
          refine q_mv rfl rfl rfl ?_
          iterate 3 refine q_skip rfl rfl ?_
          refine q_pkT rfl rfl rfl rfl ?_
          refine x_end ?_
          refine nk_cut (e' := [(0, _), (1, _), (2, _), (38, _), (56, _)]) [0, 1, 2, 38, 56] rfl ?_
          refine nk_seq ?_
          refine ew_true rfl ?_
          refine ew_seq ?_
          refine rg (.q 0 XT.done) (by kernel_rfl) (by kernel_rfl) ?_
          refine q_as (sv := .i 2) rfl rfl rfl ?_
          refine x_end ?_
          refine nk_cut (e' := [(0, _), (1, _), (2, _), (38, _), (56, _)]) [0, 1, 2, 38, 56] rfl ?_
          refine nk_seq ?_
          refine ew_retS rfl rfl (.cons (.tmp rfl) .nil) ?_
          exact ⟨congrArg SV.i (by simp [An.v, Anc.check, h1, h2, h3, h4, h5, show ¬ a.given_ < a.epoch by omega, q3]), rfl, rfl⟩
         ·skip
          refine rg (.q 0 (.q 1 (.q 2 (.q 3 (.q 4 (.q 5 (.q 6 (.q 7 (.q 8 (.q 9 (.q 10 (.q 11 (.q 12 (.q 13 (.q 14 (.q 15 (.q 16 (.q 17 XT.done)))))))))))))))))) (by kernel_rfl) (by kernel_rfl) ?_
          refine q_fa fa_60_3 rfl rfl rfl ?_
          refine q_ld 0 Try.isAgg3 rfl rfl rfl rfl rfl ?_
          refine q_lt rfl rfl rfl rfl ?_
          refine x_F (decide_eq_false q1) ?_
          refine q_mv rfl rfl rfl ?_
          refine q_fa fa_60_3 rfl rfl rfl ?_
          refine q_ld 0 Try.isAgg3 rfl rfl rfl rfl rfl ?_
          refine q_ge rfl rfl rfl rfl ?_
          refine x_F (decide_eq_false q2) ?_
          refine q_pkF rfl rfl rfl rfl ?_
          refine q_mv rfl rfl rfl ?_
          refine q_fa fa_60_5 rfl rfl rfl ?_
          refine q_ld 0 Try.isAgg3 rfl rfl rfl rfl rfl ?_
          refine q_lt rfl rfl rfl rfl ?_
          refine x_F (decide_eq_false q3) ?_
          refine q_pkF rfl rfl rfl rfl ?_
          refine q_mv rfl rfl rfl ?_
          refine q_fa fa_60_5 rfl rfl rfl ?_
          refine q_ld 0 Try.isAgg3 rfl rfl rfl rfl rfl ?_
          refine q_ge rfl rfl rfl rfl ?_
          refine q_pkF rfl rfl rfl rfl ?_
          refine x_end ?_
          refine nk_cut (e' := [(0, _), (1, _), (2, _), (38, _), (56, _)]) [0, 1, 2, 38, 56] rfl ?_
          refine nk_seq ?_
          refine ew_cond rfl ?_ ?_
          ·intro hc56
           try simp only [decide_eq_true_eq] at hc56
           refine ew_seq ?_
           refine rg (.q 0 XT.done) (by kernel_rfl) (by kernel_rfl) ?_
           refine q_as (sv := .i 2) rfl rfl rfl ?_
           refine x_end ?_
           refine nk_cut (e' := [(0, _), (1, _), (2, _), (38, _), (56, _)]) [0, 1, 2, 38, 56] rfl ?_
           refine nk_seq ?_
           refine ew_retS rfl rfl (.cons (.tmp rfl) .nil) ?_
           exact ⟨congrArg SV.i (by simp [An.v, Anc.check, h1, h2, h3, h4, h5, show ¬ a.given_ < a.epoch by omega, q1, q2, q3, show 4096 ≤ a.pending by omega]), rfl, rfl⟩
          ·intro hc56
           try simp only [decide_eq_false_iff_not] at hc56
           refine ew_skip ?_
           refine nk_seq ?_
           refine ew_seq ?_
           refine ew_seq ?_
           by_cases f1 : ¬ (a.m.n : Int) = 32
           ·skip
            refine rg (.q 0 (.q 1 (.q 2 (.q 3 (.q 4 (.q 5 (.q 6 (.q 7 (.q 8 (.q 9 XT.done)))))))))) (by kernel_rfl) (by kernel_rfl) ?_
            refine q_fa fa_60_6 rfl rfl rfl ?_
            refine q_ld 0 Try.isAgg26 rfl rfl rfl rfl rfl ?_
            refine q_len Try.underlying26 rfl rfl rfl ?_
            refine q_ne rfl rfl rfl rfl ?_
            refine x_T (by simpa using f1) ?_
            refine q_mv rfl rfl rfl ?_
            iterate 4 refine q_skip rfl rfl ?_
            refine q_pkT rfl rfl rfl rfl ?_
            refine x_end ?_
            refine nk_cut (e' := [(0, _), (1, _), (2, _), (38, _), (56, _), (66, _)]) [0, 1, 2, 38, 56, 66] rfl ?_
            refine nk_seq ?_
            refine ew_true rfl ?_
            refine ew_seq ?_
            refine rg (.q 0 XT.done) (by kernel_rfl) (by kernel_rfl) ?_
            refine q_as (sv := .i 17) rfl rfl rfl ?_
            refine x_end ?_
            refine nk_cut (e' := [(0, _), (1, _), (2, _), (38, _), (56, _), (66, _)]) [0, 1, 2, 38, 56, 66] rfl ?_
            refine nk_seq ?_
            refine ew_retS rfl rfl (.cons (.tmp rfl) .nil) ?_
            exact ⟨congrArg SV.i (by simp [An.v, Anc.check, h1, h2, h3, h4, h5, show ¬ a.given_ < a.epoch by omega, q1, q2, q3, show ¬ 4096 ≤ a.pending by omega, show a.m.xs.length ≠ 32 by omega]), rfl, rfl⟩
           ·skip
            refine rg (.q 0 (.q 1 (.q 2 (.q 3 (.q 4 (.q 5 (.q 6 (.q 7 (.q 8 (.q 9 XT.done)))))))))) (by kernel_rfl) (by kernel_rfl) ?_
            refine q_fa fa_60_6 rfl rfl rfl ?_
            refine q_ld 0 Try.isAgg26 rfl rfl rfl rfl rfl ?_
            refine q_len Try.underlying26 rfl rfl rfl ?_
            refine q_ne rfl rfl rfl rfl ?_
            refine x_F (by simpa using f1) ?_
            refine q_mv rfl rfl rfl ?_
            refine q_fa fa_60_7 rfl rfl rfl ?_
            refine q_ld 0 Try.isAgg58 rfl rfl rfl rfl rfl ?_
            refine q_len Try.underlying58 rfl rfl rfl ?_
            refine q_gt rfl rfl rfl rfl ?_
            refine q_pkF rfl rfl rfl rfl ?_
            refine x_end ?_
            refine nk_cut (e' := [(0, _), (1, _), (2, _), (38, _), (56, _), (66, _)]) [0, 1, 2, 38, 56, 66] rfl ?_
            refine nk_seq ?_
            refine ew_cond rfl ?_ ?_
            ·intro hc66
             try simp only [decide_eq_true_eq] at hc66
             refine ew_seq ?_
             refine rg (.q 0 XT.done) (by kernel_rfl) (by kernel_rfl) ?_
             refine q_as (sv := .i 17) rfl rfl rfl ?_
             refine x_end ?_
             refine nk_cut (e' := [(0, _), (1, _), (2, _), (38, _), (56, _), (66, _)]) [0, 1, 2, 38, 56, 66] rfl ?_
             refine nk_seq ?_
             refine ew_retS rfl rfl (.cons (.tmp rfl) .nil) ?_
             exact ⟨congrArg SV.i (by simp [An.v, Anc.check, h1, h2, h3, h4, h5, show ¬ a.given_ < a.epoch by omega, q1, q2, q3, show ¬ 4096 ≤ a.pending by omega, show 16 < a.ks.length by omega]), rfl, rfl⟩
            ·intro hc66
             try simp only [decide_eq_false_iff_not] at hc66
             have hck : a.v.check = keksCode (a.ks.map Kk.v) := by
              have e1 : ¬ 16 < (a.ks.map Kk.v).length := by rw [List.length_map, hkl]; omega
              have e2 : a.m.xs.length = 32 := by omega
              have e3 : ¬ a.given_ < a.epoch := by omega
              have e4 : ¬ 4096 ≤ a.pending := by omega
              simp only [Anc.check, An.v, h1, h2, h3, h4, h5, q1, q2, q3, e1, e2, e3, e4, ne_eq, not_true, not_false_eq_true, or_false, if_false]
             refine ew_skip ?_
             refine nk_seq ?_
             refine ew_seq ?_
             refine ew_seq ?_
             refine rg (.q 0 XT.done) (by kernel_rfl) (by kernel_rfl) ?_
             refine q_as (sv := .i 0) rfl rfl rfl ?_
             refine x_end ?_
             refine nk_cut (e' := [(0, _), (1, _), (2, _), (3, _), (38, _), (56, _), (66, _)]) [0, 1, 2, 3, 38, 56, 66] rfl ?_
             refine nk_seq ?_
             refine ew_block ?_
             let Ev1 : Nat → Env := fun k => [(3, .i (k : Int))]
             let Gv1 : Nat → Hp → Prop := fun k H' => H = H' ∧ (k ≤ a.n ∧ keksCode (a.ks.map Kk.v) = keksCode ((a.ks.drop k).map Kk.v))
             let Mv1 : Nat → Nat := fun k => a.n - k
             refine ew_loop (mkE [(0, _), (1, _), (2, _), (38, _), (56, _), (66, _)] Ev1) (mkS [_] (fun _ => [])) Gv1 Mv1 (0 : Nat) ⟨rfl, rfl, rfl, rfl, rfl, rfl, rfl, trivial⟩ rfl ⟨rfl, ⟨by omega, rfl⟩⟩ ?_
             rintro k H' ⟨rfl, hG⟩
             obtain ⟨hk, hkd⟩ := hG
             refine ew_S (S' := [_]) rfl ?_
             refine ew_cut (e' := [(3, _), (0, _), (1, _), (2, _), (38, _), (56, _), (66, _)]) [3, 0, 1, 2, 38, 56, 66] rfl ?_
             refine ew_seq ?_
             refine ew_seq ?_
             refine rg (.q 0 (.q 1 (.q 2 (.q 3 (.q 4 XT.done))))) (by kernel_rfl) (by kernel_rfl) ?_
             refine q_mv rfl rfl rfl ?_
             refine q_fa fa_60_7 rfl rfl rfl ?_
             refine q_ld 0 Try.isAgg58 rfl rfl rfl rfl rfl ?_
             refine q_len Try.underlying58 rfl rfl rfl ?_
             refine q_lt rfl rfl rfl rfl ?_
             refine x_end ?_
             refine nk_cut (e' := [(0, _), (1, _), (2, _), (3, _), (38, _), (56, _), (66, _), (71, _)]) [0, 1, 2, 3, 38, 56, 66, 71] rfl ?_
             refine nk_seq ?_
             refine ew_cond rfl ?_ ?_
             ·intro hc71
              try simp only [decide_eq_true_eq] at hc71
              refine ew_skip ?_
              refine nk_seq ?_
              refine ew_seq ?_
              refine ew_block ?_
              refine ew_seq ?_
              refine rg (.q 0 (.q 1 (.q 2 (.q 3 (.q 4 (.h 5 (.h 6 XT.done))))))) (by kernel_rfl) (by kernel_rfl) ?_
              refine q_fa fa_60_7 rfl rfl rfl ?_
              refine q_ld 0 Try.isAgg58 rfl rfl rfl rfl rfl ?_
              refine q_mv rfl rfl rfl ?_
              refine q_ixs Try.underlying58 Try.sizeOf153 rfl rfl rfl rfl rfl (ha.ks.ne (by omega)) (by omega) (by omega) ?_
              refine q_ldSr Try.isAgg153 Try.sizeOf153 rfl rfl rfl (ha.ks.get (j := k) (by omega)) rfl ?_
              refine h_alloc (cs := [_, _, _]) Try.zeroValue153 rfl rfl (zc_153 Try.zeroValue153) ?_
              intro g2
              refine ⟨kp0, ?_⟩
              refine h_stS (cs' := [_, _, _]) (S' := [_, _]) 0 Try.sizeOf153 rfl rfl rfl rfl rfl (allOne rfl) rfl (leb rfl) rfl rfl kp0 ?_
              refine x_end ?_
              refine nk_cut (e' := [(0, _), (1, _), (2, _), (3, _), (4, _), (38, _), (56, _), (66, _), (71, _)]) [0, 1, 2, 3, 4, 38, 56, 66, 71] rfl ?_
              refine nk_seq ?_
              refine ew_seq ?_
              refine ew_seq ?_
              by_cases c1 : (a.ks.getD k default).b < 0
              ·skip
               refine rg (.q 0 (.q 1 (.q 2 (.q 3 (.q 4 (.q 5 (.q 6 (.q 7 (.q 8 (.q 9 (.q 10 (.q 11 (.q 12 (.q 13 (.q 14 (.q 15 (.q 16 (.q 17 XT.done)))))))))))))))))) (by kernel_rfl) (by kernel_rfl) ?_
               refine q_fa fa_153_0 rfl rfl rfl ?_
               refine q_ld 0 Try.isAgg3 rfl rfl rfl rfl rfl ?_
               refine q_lt rfl rfl rfl rfl ?_
               refine x_T (decide_eq_true c1) ?_
               refine q_mv rfl rfl rfl ?_
               iterate 3 refine q_skip rfl rfl ?_
               refine q_pkT rfl rfl rfl rfl ?_
               refine q_mv rfl rfl rfl ?_
               iterate 3 refine q_skip rfl rfl ?_
               refine q_pkT rfl rfl rfl rfl ?_
               refine q_mv rfl rfl rfl ?_
               iterate 3 refine q_skip rfl rfl ?_
               refine q_pkT rfl rfl rfl rfl ?_
               refine x_end ?_
               refine nk_cut (e' := [(0, _), (1, _), (2, _), (3, _), (4, _), (38, _), (56, _), (66, _), (71, _), (96, _)]) [0, 1, 2, 3, 4, 38, 56, 66, 71, 96] rfl ?_
               refine nk_seq ?_
               refine ew_true rfl ?_
               refine ew_seq ?_
               refine rg (.q 0 XT.done) (by kernel_rfl) (by kernel_rfl) ?_
               refine q_as (sv := .i 2) rfl rfl rfl ?_
               refine x_end ?_
               refine nk_cut (e' := [(0, _), (1, _), (2, _), (3, _), (4, _), (38, _), (56, _), (66, _), (71, _), (96, _)]) [0, 1, 2, 3, 4, 38, 56, 66, 71, 96] rfl ?_
               refine nk_seq ?_
               refine ew_retS rfl rfl (.cons (.tmp rfl) .nil) ?_
               have hcode : (a.ks.getD k default).v.code = 2 := if_pos (show (a.ks.getD k default).b < 0 ∨ 65535 < (a.ks.getD k default).b ∨ (a.ks.getD k default).g < 0 ∨ 65535 < (a.ks.getD k default).g by omega)
               exact ⟨congrArg SV.i (by rw [hck, hkd, kk_drop (by omega), List.map_cons]; simp only [keksCode]; rw [hcode]; rfl), rfl, rfl⟩
              ·skip
               by_cases c2 : 65535 < (a.ks.getD k default).b
               ·skip
                refine rg (.q 0 (.q 1 (.q 2 (.q 3 (.q 4 (.q 5 (.q 6 (.q 7 (.q 8 (.q 9 (.q 10 (.q 11 (.q 12 (.q 13 (.q 14 (.q 15 (.q 16 (.q 17 XT.done)))))))))))))))))) (by kernel_rfl) (by kernel_rfl) ?_
                refine q_fa fa_153_0 rfl rfl rfl ?_
                refine q_ld 0 Try.isAgg3 rfl rfl rfl rfl rfl ?_
                refine q_lt rfl rfl rfl rfl ?_
                refine x_F (decide_eq_false c1) ?_
                refine q_mv rfl rfl rfl ?_
                refine q_fa fa_153_0 rfl rfl rfl ?_
                refine q_ld 0 Try.isAgg3 rfl rfl rfl rfl rfl ?_
                refine q_gt rfl rfl rfl rfl ?_
                refine x_T (decide_eq_true c2) ?_
                refine q_pkF rfl rfl rfl rfl ?_
                refine q_mv rfl rfl rfl ?_
                iterate 3 refine q_skip rfl rfl ?_
                refine q_pkT rfl rfl rfl rfl ?_
                refine q_mv rfl rfl rfl ?_
                iterate 3 refine q_skip rfl rfl ?_
                refine q_pkT rfl rfl rfl rfl ?_
                refine x_end ?_
                refine nk_cut (e' := [(0, _), (1, _), (2, _), (3, _), (4, _), (38, _), (56, _), (66, _), (71, _), (96, _)]) [0, 1, 2, 3, 4, 38, 56, 66, 71, 96] rfl ?_
                refine nk_seq ?_
                refine ew_true rfl ?_
                refine ew_seq ?_
                refine rg (.q 0 XT.done) (by kernel_rfl) (by kernel_rfl) ?_
                refine q_as (sv := .i 2) rfl rfl rfl ?_
                refine x_end ?_
                refine nk_cut (e' := [(0, _), (1, _), (2, _), (3, _), (4, _), (38, _), (56, _), (66, _), (71, _), (96, _)]) [0, 1, 2, 3, 4, 38, 56, 66, 71, 96] rfl ?_
                refine nk_seq ?_
                refine ew_retS rfl rfl (.cons (.tmp rfl) .nil) ?_
                have hcode : (a.ks.getD k default).v.code = 2 := if_pos (show (a.ks.getD k default).b < 0 ∨ 65535 < (a.ks.getD k default).b ∨ (a.ks.getD k default).g < 0 ∨ 65535 < (a.ks.getD k default).g by omega)
                exact ⟨congrArg SV.i (by rw [hck, hkd, kk_drop (by omega), List.map_cons]; simp only [keksCode]; rw [hcode]; rfl), rfl, rfl⟩
               ·skip
                by_cases c3 : (a.ks.getD k default).g < 0
                ·skip
                 refine rg (.q 0 (.q 1 (.q 2 (.q 3 (.q 4 (.q 5 (.q 6 (.q 7 (.q 8 (.q 9 (.q 10 (.q 11 (.q 12 (.q 13 (.q 14 (.q 15 (.q 16 (.q 17 XT.done)))))))))))))))))) (by kernel_rfl) (by kernel_rfl) ?_
                 refine q_fa fa_153_0 rfl rfl rfl ?_
                 refine q_ld 0 Try.isAgg3 rfl rfl rfl rfl rfl ?_
                 refine q_lt rfl rfl rfl rfl ?_
                 refine x_F (decide_eq_false c1) ?_
                 refine q_mv rfl rfl rfl ?_
                 refine q_fa fa_153_0 rfl rfl rfl ?_
                 refine q_ld 0 Try.isAgg3 rfl rfl rfl rfl rfl ?_
                 refine q_gt rfl rfl rfl rfl ?_
                 refine x_F (decide_eq_false c2) ?_
                 refine q_pkF rfl rfl rfl rfl ?_
                 refine q_mv rfl rfl rfl ?_
                 refine q_fa fa_153_1 rfl rfl rfl ?_
                 refine q_ld 0 Try.isAgg3 rfl rfl rfl rfl rfl ?_
                 refine q_lt rfl rfl rfl rfl ?_
                 refine x_T (decide_eq_true c3) ?_
                 refine q_pkF rfl rfl rfl rfl ?_
                 refine q_mv rfl rfl rfl ?_
                 iterate 3 refine q_skip rfl rfl ?_
                 refine q_pkT rfl rfl rfl rfl ?_
                 refine x_end ?_
                 refine nk_cut (e' := [(0, _), (1, _), (2, _), (3, _), (4, _), (38, _), (56, _), (66, _), (71, _), (96, _)]) [0, 1, 2, 3, 4, 38, 56, 66, 71, 96] rfl ?_
                 refine nk_seq ?_
                 refine ew_true rfl ?_
                 refine ew_seq ?_
                 refine rg (.q 0 XT.done) (by kernel_rfl) (by kernel_rfl) ?_
                 refine q_as (sv := .i 2) rfl rfl rfl ?_
                 refine x_end ?_
                 refine nk_cut (e' := [(0, _), (1, _), (2, _), (3, _), (4, _), (38, _), (56, _), (66, _), (71, _), (96, _)]) [0, 1, 2, 3, 4, 38, 56, 66, 71, 96] rfl ?_
                 refine nk_seq ?_
                 refine ew_retS rfl rfl (.cons (.tmp rfl) .nil) ?_
                 have hcode : (a.ks.getD k default).v.code = 2 := if_pos (show (a.ks.getD k default).b < 0 ∨ 65535 < (a.ks.getD k default).b ∨ (a.ks.getD k default).g < 0 ∨ 65535 < (a.ks.getD k default).g by omega)
                 exact ⟨congrArg SV.i (by rw [hck, hkd, kk_drop (by omega), List.map_cons]; simp only [keksCode]; rw [hcode]; rfl), rfl, rfl⟩
                ·skip
                 refine rg (.q 0 (.q 1 (.q 2 (.q 3 (.q 4 (.q 5 (.q 6 (.q 7 (.q 8 (.q 9 (.q 10 (.q 11 (.q 12 (.q 13 (.q 14 (.q 15 (.q 16 (.q 17 XT.done)))))))))))))))))) (by kernel_rfl) (by kernel_rfl) ?_
                 refine q_fa fa_153_0 rfl rfl rfl ?_
                 refine q_ld 0 Try.isAgg3 rfl rfl rfl rfl rfl ?_
                 refine q_lt rfl rfl rfl rfl ?_
                 refine x_F (decide_eq_false c1) ?_
                 refine q_mv rfl rfl rfl ?_
                 refine q_fa fa_153_0 rfl rfl rfl ?_
                 refine q_ld 0 Try.isAgg3 rfl rfl rfl rfl rfl ?_
                 refine q_gt rfl rfl rfl rfl ?_
                 refine x_F (decide_eq_false c2) ?_
                 refine q_pkF rfl rfl rfl rfl ?_
                 refine q_mv rfl rfl rfl ?_
                 refine q_fa fa_153_1 rfl rfl rfl ?_
                 refine q_ld 0 Try.isAgg3 rfl rfl rfl rfl rfl ?_
                 refine q_lt rfl rfl rfl rfl ?_
                 refine x_F (decide_eq_false c3) ?_
                 refine q_pkF rfl rfl rfl rfl ?_
                 refine q_mv rfl rfl rfl ?_
                 refine q_fa fa_153_1 rfl rfl rfl ?_
                 refine q_ld 0 Try.isAgg3 rfl rfl rfl rfl rfl ?_
                 refine q_gt rfl rfl rfl rfl ?_
                 refine q_pkF rfl rfl rfl rfl ?_
                 refine x_end ?_
                 refine nk_cut (e' := [(0, _), (1, _), (2, _), (3, _), (4, _), (38, _), (56, _), (66, _), (71, _), (96, _)]) [0, 1, 2, 3, 4, 38, 56, 66, 71, 96] rfl ?_
                 refine nk_seq ?_
                 refine ew_cond rfl ?_ ?_
                 ·intro hc96
                  try simp only [decide_eq_true_eq] at hc96
                  refine ew_seq ?_
                  refine rg (.q 0 XT.done) (by kernel_rfl) (by kernel_rfl) ?_
                  refine q_as (sv := .i 2) rfl rfl rfl ?_
                  refine x_end ?_
                  refine nk_cut (e' := [(0, _), (1, _), (2, _), (3, _), (4, _), (38, _), (56, _), (66, _), (71, _), (96, _)]) [0, 1, 2, 3, 4, 38, 56, 66, 71, 96] rfl ?_
                  refine nk_seq ?_
                  refine ew_retS rfl rfl (.cons (.tmp rfl) .nil) ?_
                  have hcode : (a.ks.getD k default).v.code = 2 := if_pos (show (a.ks.getD k default).b < 0 ∨ 65535 < (a.ks.getD k default).b ∨ (a.ks.getD k default).g < 0 ∨ 65535 < (a.ks.getD k default).g by omega)
                  exact ⟨congrArg SV.i (by rw [hck, hkd, kk_drop (by omega), List.map_cons]; simp only [keksCode]; rw [hcode]; rfl), rfl, rfl⟩
                 ·intro hc96
                  try simp only [decide_eq_false_iff_not] at hc96
                  refine ew_skip ?_
                  refine nk_seq ?_
                  refine ew_seq ?_
                  refine rg (.q 0 (.q 1 (.q 2 (.q 3 XT.done)))) (by kernel_rfl) (by kernel_rfl) ?_
                  refine q_fa fa_153_2 rfl rfl rfl ?_
                  refine q_ld 0 Try.isAgg26 rfl rfl rfl rfl rfl ?_
                  refine q_len Try.underlying26 rfl rfl rfl ?_
                  refine q_ne rfl rfl rfl rfl ?_
                  refine x_end ?_
                  refine nk_cut (e' := [(0, _), (1, _), (2, _), (3, _), (4, _), (38, _), (56, _), (66, _), (71, _), (96, _), (100, _)]) [0, 1, 2, 3, 4, 38, 56, 66, 71, 96, 100] rfl ?_
                  refine nk_seq ?_
                  refine ew_cond rfl ?_ ?_
                  ·intro hc100
                   try simp only [decide_eq_true_eq] at hc100
                   refine ew_seq ?_
                   refine rg (.q 0 XT.done) (by kernel_rfl) (by kernel_rfl) ?_
                   refine q_as (sv := .i 17) rfl rfl rfl ?_
                   refine x_end ?_
                   refine nk_cut (e' := [(0, _), (1, _), (2, _), (3, _), (4, _), (38, _), (56, _), (66, _), (71, _), (96, _), (100, _)]) [0, 1, 2, 3, 4, 38, 56, 66, 71, 96, 100] rfl ?_
                   refine nk_seq ?_
                   refine ew_retS rfl rfl (.cons (.tmp rfl) .nil) ?_
                   have hkl2 : (a.ks.getD k default).k.xs.length = (a.ks.getD k default).k.n := (ha.ks.at_ (j := k) (by omega)).len
                   have hcode : (a.ks.getD k default).v.code = 17 := (if_neg (show ¬ ((a.ks.getD k default).b < 0 ∨ 65535 < (a.ks.getD k default).b ∨ (a.ks.getD k default).g < 0 ∨ 65535 < (a.ks.getD k default).g) by omega)).trans (if_pos (show (a.ks.getD k default).k.xs.length ≠ 32 by omega))
                   exact ⟨congrArg SV.i (by rw [hck, hkd, kk_drop (by omega), List.map_cons]; simp only [keksCode]; rw [hcode]; rfl), rfl, rfl⟩
                  ·intro hc100
                   try simp only [decide_eq_false_iff_not] at hc100
                   have hkl2 : (a.ks.getD k default).k.xs.length = (a.ks.getD k default).k.n := (ha.ks.at_ (j := k) (by omega)).len
                   have hcode : (a.ks.getD k default).v.code = 0 := (if_neg (show ¬ ((a.ks.getD k default).b < 0 ∨ 65535 < (a.ks.getD k default).b ∨ (a.ks.getD k default).g < 0 ∨ 65535 < (a.ks.getD k default).g) by omega)).trans (if_neg (show ¬ (a.ks.getD k default).k.xs.length ≠ 32 by omega))
                   refine ew_skip ?_
                   refine nk_blk ?_
                   refine nk_seq ?_
                   refine rg (.q 0 (.q 1 (.q 2 XT.done))) (by kernel_rfl) (by kernel_rfl) ?_
                   refine q_mv rfl rfl rfl ?_
                   refine q_add rfl rfl rfl rfl (by omega) (by omega) ?_
                   refine q_as rfl rfl rfl ?_
                   refine x_end ?_
                   refine nk_cut (e' := [(0, _), (1, _), (2, _), (3, _), (4, _), (38, _), (56, _), (66, _), (71, _), (96, _), (100, _)]) [0, 1, 2, 3, 4, 38, 56, 66, 71, 96, 100] rfl ?_
                   refine nk_perm (S' := [_, _]) (permL [1, 0] rfl) ?_
                   refine nk_drop (S := [_]) (S' := [_]) ?_
                   refine nk_round (μ := Mv1) (i := k) (S := _) (G := Gv1) (k + 1 : Nat) ?_ ?_ ?_ ?_
                   ·exact ⟨rfl, rfl, rfl, rfl, rfl, rfl, rfl, trivial⟩
                   ·exact rfl
                   ·exact ⟨rfl, ⟨by omega, by rw [hkd, kk_drop (by omega), List.map_cons]; simp only [keksCode]; rw [if_pos hcode]⟩⟩
                   ·dsimp only [Mv1]; omega
             ·intro hc71
              try simp only [decide_eq_false_iff_not] at hc71
              refine ew_exit _ rfl ?_
              refine nk_seq ?_
              refine ew_seq ?_
              refine rg (.q 0 XT.done) (by kernel_rfl) (by kernel_rfl) ?_
              refine q_as (sv := .i 0) rfl rfl rfl ?_
              refine x_end ?_
              refine nk_cut (e' := [(0, _), (1, _), (2, _), (3, _), (38, _), (56, _), (66, _), (71, _)]) [0, 1, 2, 3, 38, 56, 66, 71] rfl ?_
              refine nk_seq ?_
              refine ew_retS rfl rfl (.cons (.tmp rfl) .nil) ?_
              exact ⟨congrArg SV.i (by rw [hck, hkd, List.drop_of_length_le (by omega)]; rfl), rfl, rfl⟩
     ·skip
      refine rg (.q 0 (.q 1 (.q 2 (.q 3 (.q 4 (.q 5 (.h 6 (.q 7 (.q 8 (.q 9 (.q 10 (.q 11 (.h 12 (.q 13 (.q 14 (.q 15 (.q 16 (.q 17 (.h 18 (.q 19 (.q 20 (.q 21 (.q 22 (.q 23 (.h 24 (.q 25 (.q 26 (.q 27 (.q 28 (.q 29 (.q 30 (.q 31 (.q 32 (.q 33 XT.done)))))))))))))))))))))))))))))))))) (by kernel_rfl) (by kernel_rfl) ?_
      refine q_fa fa_60_0 rfl rfl rfl ?_
      refine q_ld 0 Try.isAgg3 rfl rfl rfl rfl rfl ?_
      refine q_lt rfl rfl rfl rfl ?_
      refine x_F (decide_eq_false h1) ?_
      refine q_mv rfl rfl rfl ?_
      refine q_fa fa_60_0 rfl rfl rfl ?_
      refine q_ld 0 Try.isAgg3 rfl rfl rfl rfl rfl ?_
      refine h_call0 Try.call95 rfl rfl rfl (RSmall_hc) ?_
      rintro r_ S_ H hl5 ⟨rfl, rfl, rfl⟩
      refine ⟨kp0, ?_⟩
      refine x_S (S' := [_]) rfl ?_
      refine q_not rfl rfl rfl ?_
      refine x_F (by simp [h2]) ?_
      refine q_pkF rfl rfl rfl rfl ?_
      refine q_mv rfl rfl rfl ?_
      refine q_fa fa_60_1 rfl rfl rfl ?_
      refine q_ld 0 Try.isAgg3 rfl rfl rfl rfl rfl ?_
      refine h_call0 Try.call95 rfl rfl rfl (RSmall_hc) ?_
      rintro r_ S_ H hl6 ⟨rfl, rfl, rfl⟩
      refine ⟨kp0, ?_⟩
      refine x_S (S' := [_]) rfl ?_
      refine q_not rfl rfl rfl ?_
      refine x_F (by simp [h3]) ?_
      refine q_pkF rfl rfl rfl rfl ?_
      refine q_mv rfl rfl rfl ?_
      refine q_fa fa_60_2 rfl rfl rfl ?_
      refine q_ld 0 Try.isAgg3 rfl rfl rfl rfl rfl ?_
      refine h_call0 Try.call95 rfl rfl rfl (RSmall_hc) ?_
      rintro r_ S_ H hl7 ⟨rfl, rfl, rfl⟩
      refine ⟨kp0, ?_⟩
      refine x_S (S' := [_]) rfl ?_
      refine q_not rfl rfl rfl ?_
      refine x_F (by simp [h4]) ?_
      refine q_pkF rfl rfl rfl rfl ?_
      refine q_mv rfl rfl rfl ?_
      refine q_fa fa_60_4 rfl rfl rfl ?_
      refine q_ld 0 Try.isAgg3 rfl rfl rfl rfl rfl ?_
      refine h_call0 Try.call95 rfl rfl rfl (RSmall_hc) ?_
      rintro r_ S_ H hl8 ⟨rfl, rfl, rfl⟩
      refine ⟨kp0, ?_⟩
      refine x_S (S' := [_]) rfl ?_
      refine q_not rfl rfl rfl ?_
      refine x_T (by simp [h5]) ?_
      refine q_pkF rfl rfl rfl rfl ?_
      refine q_mv rfl rfl rfl ?_
      iterate 5 refine q_skip rfl rfl ?_
      refine q_pkT rfl rfl rfl rfl ?_
      refine x_end ?_
      refine nk_cut (e' := [(0, _), (1, _), (2, _), (38, _)]) [0, 1, 2, 38] rfl ?_
      refine nk_seq ?_
      refine ew_true rfl ?_
      refine ew_seq ?_
      refine rg (.q 0 XT.done) (by kernel_rfl) (by kernel_rfl) ?_
      refine q_as (sv := .i 2) rfl rfl rfl ?_
      refine x_end ?_
      refine nk_cut (e' := [(0, _), (1, _), (2, _), (38, _)]) [0, 1, 2, 38] rfl ?_
      refine nk_seq ?_
      refine ew_retS rfl rfl (.cons (.tmp rfl) .nil) ?_
      exact ⟨congrArg SV.i (by simp [An.v, Anc.check, h5]), rfl, rfl⟩
    ·skip
     refine rg (.q 0 (.q 1 (.q 2 (.q 3 (.q 4 (.q 5 (.h 6 (.q 7 (.q 8 (.q 9 (.q 10 (.q 11 (.h 12 (.q 13 (.q 14 (.q 15 (.q 16 (.q 17 (.h 18 (.q 19 (.q 20 (.q 21 (.q 22 (.q 23 (.h 24 (.q 25 (.q 26 (.q 27 (.q 28 (.q 29 (.q 30 (.q 31 (.q 32 (.q 33 XT.done)))))))))))))))))))))))))))))))))) (by kernel_rfl) (by kernel_rfl) ?_
     refine q_fa fa_60_0 rfl rfl rfl ?_
     refine q_ld 0 Try.isAgg3 rfl rfl rfl rfl rfl ?_
     refine q_lt rfl rfl rfl rfl ?_
     refine x_F (decide_eq_false h1) ?_
     refine q_mv rfl rfl rfl ?_
     refine q_fa fa_60_0 rfl rfl rfl ?_
     refine q_ld 0 Try.isAgg3 rfl rfl rfl rfl rfl ?_
     refine h_call0 Try.call95 rfl rfl rfl (RSmall_hc) ?_
     rintro r_ S_ H hl9 ⟨rfl, rfl, rfl⟩
     refine ⟨kp0, ?_⟩
     refine x_S (S' := [_]) rfl ?_
     refine q_not rfl rfl rfl ?_
     refine x_F (by simp [h2]) ?_
     refine q_pkF rfl rfl rfl rfl ?_
     refine q_mv rfl rfl rfl ?_
     refine q_fa fa_60_1 rfl rfl rfl ?_
     refine q_ld 0 Try.isAgg3 rfl rfl rfl rfl rfl ?_
     refine h_call0 Try.call95 rfl rfl rfl (RSmall_hc) ?_
     rintro r_ S_ H hl10 ⟨rfl, rfl, rfl⟩
     refine ⟨kp0, ?_⟩
     refine x_S (S' := [_]) rfl ?_
     refine q_not rfl rfl rfl ?_
     refine x_F (by simp [h3]) ?_
     refine q_pkF rfl rfl rfl rfl ?_
     refine q_mv rfl rfl rfl ?_
     refine q_fa fa_60_2 rfl rfl rfl ?_
     refine q_ld 0 Try.isAgg3 rfl rfl rfl rfl rfl ?_
     refine h_call0 Try.call95 rfl rfl rfl (RSmall_hc) ?_
     rintro r_ S_ H hl11 ⟨rfl, rfl, rfl⟩
     refine ⟨kp0, ?_⟩
     refine x_S (S' := [_]) rfl ?_
     refine q_not rfl rfl rfl ?_
     refine x_T (by simp [h4]) ?_
     refine q_pkF rfl rfl rfl rfl ?_
     refine q_mv rfl rfl rfl ?_
     refine q_skip rfl rfl ?_
     refine q_skip rfl rfl ?_
     refine h_skip rfl rfl ?_
     refine q_skip rfl rfl ?_
     refine q_pkT rfl rfl rfl rfl ?_
     refine q_mv rfl rfl rfl ?_
     iterate 5 refine q_skip rfl rfl ?_
     refine q_pkT rfl rfl rfl rfl ?_
     refine x_end ?_
     refine nk_cut (e' := [(0, _), (1, _), (2, _), (38, _)]) [0, 1, 2, 38] rfl ?_
     refine nk_seq ?_
     refine ew_true rfl ?_
     refine ew_seq ?_
     refine rg (.q 0 XT.done) (by kernel_rfl) (by kernel_rfl) ?_
     refine q_as (sv := .i 2) rfl rfl rfl ?_
     refine x_end ?_
     refine nk_cut (e' := [(0, _), (1, _), (2, _), (38, _)]) [0, 1, 2, 38] rfl ?_
     refine nk_seq ?_
     refine ew_retS rfl rfl (.cons (.tmp rfl) .nil) ?_
     exact ⟨congrArg SV.i (by simp [An.v, Anc.check, h4]), rfl, rfl⟩
   ·skip
    refine rg (.q 0 (.q 1 (.q 2 (.q 3 (.q 4 (.q 5 (.h 6 (.q 7 (.q 8 (.q 9 (.q 10 (.q 11 (.h 12 (.q 13 (.q 14 (.q 15 (.q 16 (.q 17 (.h 18 (.q 19 (.q 20 (.q 21 (.q 22 (.q 23 (.h 24 (.q 25 (.q 26 (.q 27 (.q 28 (.q 29 (.q 30 (.q 31 (.q 32 (.q 33 XT.done)))))))))))))))))))))))))))))))))) (by kernel_rfl) (by kernel_rfl) ?_
    refine q_fa fa_60_0 rfl rfl rfl ?_
    refine q_ld 0 Try.isAgg3 rfl rfl rfl rfl rfl ?_
    refine q_lt rfl rfl rfl rfl ?_
    refine x_F (decide_eq_false h1) ?_
    refine q_mv rfl rfl rfl ?_
    refine q_fa fa_60_0 rfl rfl rfl ?_
    refine q_ld 0 Try.isAgg3 rfl rfl rfl rfl rfl ?_
    refine h_call0 Try.call95 rfl rfl rfl (RSmall_hc) ?_
    rintro r_ S_ H hl12 ⟨rfl, rfl, rfl⟩
    refine ⟨kp0, ?_⟩
    refine x_S (S' := [_]) rfl ?_
    refine q_not rfl rfl rfl ?_
    refine x_F (by simp [h2]) ?_
    refine q_pkF rfl rfl rfl rfl ?_
    refine q_mv rfl rfl rfl ?_
    refine q_fa fa_60_1 rfl rfl rfl ?_
    refine q_ld 0 Try.isAgg3 rfl rfl rfl rfl rfl ?_
    refine h_call0 Try.call95 rfl rfl rfl (RSmall_hc) ?_
    rintro r_ S_ H hl13 ⟨rfl, rfl, rfl⟩
    refine ⟨kp0, ?_⟩
    refine x_S (S' := [_]) rfl ?_
    refine q_not rfl rfl rfl ?_
    refine x_T (by simp [h3]) ?_
    refine q_pkF rfl rfl rfl rfl ?_
    refine q_mv rfl rfl rfl ?_
    refine q_skip rfl rfl ?_
    refine q_skip rfl rfl ?_
    refine h_skip rfl rfl ?_
    refine q_skip rfl rfl ?_
    refine q_pkT rfl rfl rfl rfl ?_
    refine q_mv rfl rfl rfl ?_
    refine q_skip rfl rfl ?_
    refine q_skip rfl rfl ?_
    refine h_skip rfl rfl ?_
    refine q_skip rfl rfl ?_
    refine q_pkT rfl rfl rfl rfl ?_
    refine q_mv rfl rfl rfl ?_
    iterate 5 refine q_skip rfl rfl ?_
    refine q_pkT rfl rfl rfl rfl ?_
    refine x_end ?_
    refine nk_cut (e' := [(0, _), (1, _), (2, _), (38, _)]) [0, 1, 2, 38] rfl ?_
    refine nk_seq ?_
    refine ew_true rfl ?_
    refine ew_seq ?_
    refine rg (.q 0 XT.done) (by kernel_rfl) (by kernel_rfl) ?_
    refine q_as (sv := .i 2) rfl rfl rfl ?_
    refine x_end ?_
    refine nk_cut (e' := [(0, _), (1, _), (2, _), (38, _)]) [0, 1, 2, 38] rfl ?_
    refine nk_seq ?_
    refine ew_retS rfl rfl (.cons (.tmp rfl) .nil) ?_
    exact ⟨congrArg SV.i (by simp [An.v, Anc.check, h3]), rfl, rfl⟩
  ·skip
   refine rg (.q 0 (.q 1 (.q 2 (.q 3 (.q 4 (.q 5 (.h 6 (.q 7 (.q 8 (.q 9 (.q 10 (.q 11 (.h 12 (.q 13 (.q 14 (.q 15 (.q 16 (.q 17 (.h 18 (.q 19 (.q 20 (.q 21 (.q 22 (.q 23 (.h 24 (.q 25 (.q 26 (.q 27 (.q 28 (.q 29 (.q 30 (.q 31 (.q 32 (.q 33 XT.done)))))))))))))))))))))))))))))))))) (by kernel_rfl) (by kernel_rfl) ?_
   refine q_fa fa_60_0 rfl rfl rfl ?_
   refine q_ld 0 Try.isAgg3 rfl rfl rfl rfl rfl ?_
   refine q_lt rfl rfl rfl rfl ?_
   refine x_F (decide_eq_false h1) ?_
   refine q_mv rfl rfl rfl ?_
   refine q_fa fa_60_0 rfl rfl rfl ?_
   refine q_ld 0 Try.isAgg3 rfl rfl rfl rfl rfl ?_
   refine h_call0 Try.call95 rfl rfl rfl (RSmall_hc) ?_
   rintro r_ S_ H hl14 ⟨rfl, rfl, rfl⟩
   refine ⟨kp0, ?_⟩
   refine x_S (S' := [_]) rfl ?_
   refine q_not rfl rfl rfl ?_
   refine x_T (by simp [h2]) ?_
   refine q_pkF rfl rfl rfl rfl ?_
   refine q_mv rfl rfl rfl ?_
   refine q_skip rfl rfl ?_
   refine q_skip rfl rfl ?_
   refine h_skip rfl rfl ?_
   refine q_skip rfl rfl ?_
   refine q_pkT rfl rfl rfl rfl ?_
   refine q_mv rfl rfl rfl ?_
   refine q_skip rfl rfl ?_
   refine q_skip rfl rfl ?_
   refine h_skip rfl rfl ?_
   refine q_skip rfl rfl ?_
   refine q_pkT rfl rfl rfl rfl ?_
   refine q_mv rfl rfl rfl ?_
   refine q_skip rfl rfl ?_
   refine q_skip rfl rfl ?_
   refine h_skip rfl rfl ?_
   refine q_skip rfl rfl ?_
   refine q_pkT rfl rfl rfl rfl ?_
   refine q_mv rfl rfl rfl ?_
   iterate 5 refine q_skip rfl rfl ?_
   refine q_pkT rfl rfl rfl rfl ?_
   refine x_end ?_
   refine nk_cut (e' := [(0, _), (1, _), (2, _), (38, _)]) [0, 1, 2, 38] rfl ?_
   refine nk_seq ?_
   refine ew_true rfl ?_
   refine ew_seq ?_
   refine rg (.q 0 XT.done) (by kernel_rfl) (by kernel_rfl) ?_
   refine q_as (sv := .i 2) rfl rfl rfl ?_
   refine x_end ?_
   refine nk_cut (e' := [(0, _), (1, _), (2, _), (38, _)]) [0, 1, 2, 38] rfl ?_
   refine nk_seq ?_
   refine ew_retS rfl rfl (.cons (.tmp rfl) .nil) ?_
   exact ⟨congrArg SV.i (by simp [An.v, Anc.check, h2]), rfl, rfl⟩


theorem kv_snoc {ks : List Kk} {k : Nat} (h : k < ks.length) : (ks.take (k + 1)).map Kk.v = (ks.take k).map Kk.v ++ [(ks.getD k default).v] := by
  rw [List.take_succ_eq_append_getElem h, List.map_append]
  simp [h]
theorem kv_ne {ks ks2 : List Kk} {k : Nat} (h : k < ks.length) (h2 : k < ks2.length) (hne : ¬ (ks.getD k default).v = (ks2.getD k default).v) : ¬ ks.map Kk.v = ks2.map Kk.v := by
  intro he
  apply hne
  have := congrArg (fun l => l[k]?) he
  simpa [h, h2] using this
theorem kv_ne2 {a b : An} {k : Nat} (h : k < a.ks.length) (h2 : k < b.ks.length) (hne : ¬ (a.ks.getD k default).v = (b.ks.getD k default).v) : ¬ a.v = b.v := fun he => kv_ne h h2 hne (congrArg Anc.keks he)
theorem kv_all {ks ks2 : List Kk} {k n : Nat} (h : ks.length = n) (h2 : ks2.length = n) (hk : n ≤ k) (he : (ks.take k).map Kk.v = (ks2.take k).map Kk.v) : ks.map Kk.v = ks2.map Kk.v := by
  rwa [List.take_of_length_le (by omega), List.take_of_length_le (by omega)] at he
theorem kv_len {ks ks2 : List Kk} (h : ¬ ks.length = ks2.length) : ¬ ks.map Kk.v = ks2.map Kk.v := by
  intro he
  apply h
  simpa using congrArg List.length he

theorem ASame1_hc {H : Hp} {x y : Kk} (hx : x.k.ok H) (hy : y.k.ok H) (hxn : x.k.n ≤ 1099511627776) :
  HC Try.prog 98 [.agg x.cells, .agg y.cells] [] H (fun r S' H' => r = .b (decide (x.v = y.v)) ∧ S' = [] ∧ H' = H) := by
 refine hc_intro (n := 24) Try.func98 rfl Try.ntmps98 rfl (fun B hB => ?_)
 refine ew_cut (e' := [(0, _), (1, _)]) [0, 1] rfl ?_
 refine ew_sub (e' := [(0, .agg [_, _, _]), (1, .agg [_, _, _])]) ⟨rfl, rfl, trivial⟩ ?_
 refine ew_seq ?_
 refine rg (.h 0 (.h 1 (.q 2 XT.done))) (by kernel_rfl) (by kernel_rfl) ?_
 refine h_boxS rfl rfl rfl ?_
 intro g1
 refine ⟨kp0, ?_⟩
 refine h_boxS rfl rfl rfl ?_
 intro g2
 refine ⟨kp0, ?_⟩
 refine q_as (sv := .b false) rfl rfl rfl ?_
 refine x_end ?_
 refine nk_cut (e' := [(0, _), (1, _), (2, _), (3, _), (4, _)]) [0, 1, 2, 3, 4] rfl ?_
 refine nk_seq ?_
 refine ew_seq ?_
 by_cases e1 : x.b = y.b
 ·skip
  by_cases e2 : x.g = y.g
  ·skip
   refine rg (.q 0 (.q 1 (.q 2 (.q 3 (.q 4 (.q 5 (.q 6 (.q 7 (.q 8 (.q 9 (.q 10 (.q 11 (.q 12 (.q 13 (.q 14 (.q 15 (.q 16 (.h 17 (.q 18 (.q 19 XT.done)))))))))))))))))))) (by kernel_rfl) (by kernel_rfl) ?_
   refine q_fa fa_153_0 rfl rfl rfl ?_
   refine q_ld 1 Try.isAgg3 rfl rfl rfl rfl rfl ?_
   refine q_fa fa_153_0 rfl rfl rfl ?_
   refine q_ld 0 Try.isAgg3 rfl rfl rfl rfl rfl ?_
   refine q_eq rfl rfl rfl rfl ?_
   refine x_T (decide_eq_true e1) ?_
   refine q_mv rfl rfl rfl ?_
   refine q_fa fa_153_1 rfl rfl rfl ?_
   refine q_ld 1 Try.isAgg3 rfl rfl rfl rfl rfl ?_
   refine q_fa fa_153_1 rfl rfl rfl ?_
   refine q_ld 0 Try.isAgg3 rfl rfl rfl rfl rfl ?_
   refine q_eq rfl rfl rfl rfl ?_
   refine x_T (decide_eq_true e2) ?_
   refine q_pkT rfl rfl rfl rfl ?_
   refine q_mv rfl rfl rfl ?_
   refine q_fa fa_153_2 rfl rfl rfl ?_
   refine q_ld 1 Try.isAgg26 rfl rfl rfl rfl rfl ?_
   refine q_fa fa_153_2 rfl rfl rfl ?_
   refine q_ld 0 Try.isAgg26 rfl rfl rfl rfl rfl ?_
   refine h_call0 Try.call96 rfl rfl rfl (Same_hc hx hy (by omega)) ?_
   rintro r_ S_ H hl1 ⟨rfl, rfl, rfl⟩
   refine ⟨kp0, ?_⟩
   refine x_S (S' := [_, _]) rfl ?_
   refine q_pkT rfl rfl rfl rfl ?_
   refine q_as rfl rfl rfl ?_
   refine x_end ?_
   refine nk_cut (e' := [(0, _), (1, _), (2, _), (3, _), (4, _)]) [0, 1, 2, 3, 4] rfl ?_
   refine nk_seq ?_
   refine ew_retS rfl rfl (.cons (.tmp rfl) .nil) ?_
   exact ⟨congrArg SV.b (by simp [Kk.v, *]), rfl, rfl⟩
  ·skip
   refine rg (.q 0 (.q 1 (.q 2 (.q 3 (.q 4 (.q 5 (.q 6 (.q 7 (.q 8 (.q 9 (.q 10 (.q 11 (.q 12 (.q 13 (.q 14 (.q 15 (.q 16 (.h 17 (.q 18 (.q 19 XT.done)))))))))))))))))))) (by kernel_rfl) (by kernel_rfl) ?_
   refine q_fa fa_153_0 rfl rfl rfl ?_
   refine q_ld 1 Try.isAgg3 rfl rfl rfl rfl rfl ?_
   refine q_fa fa_153_0 rfl rfl rfl ?_
   refine q_ld 0 Try.isAgg3 rfl rfl rfl rfl rfl ?_
   refine q_eq rfl rfl rfl rfl ?_
   refine x_T (decide_eq_true e1) ?_
   refine q_mv rfl rfl rfl ?_
   refine q_fa fa_153_1 rfl rfl rfl ?_
   refine q_ld 1 Try.isAgg3 rfl rfl rfl rfl rfl ?_
   refine q_fa fa_153_1 rfl rfl rfl ?_
   refine q_ld 0 Try.isAgg3 rfl rfl rfl rfl rfl ?_
   refine q_eq rfl rfl rfl rfl ?_
   refine x_F (decide_eq_false e2) ?_
   refine q_pkT rfl rfl rfl rfl ?_
   refine q_mv rfl rfl rfl ?_
   iterate 4 refine q_skip rfl rfl ?_
   refine h_skip rfl rfl ?_
   refine q_pkF rfl rfl rfl rfl ?_
   refine q_as rfl rfl rfl ?_
   refine x_end ?_
   refine nk_cut (e' := [(0, _), (1, _), (2, _), (3, _), (4, _)]) [0, 1, 2, 3, 4] rfl ?_
   refine nk_seq ?_
   refine ew_retS rfl rfl (.cons (.tmp rfl) .nil) ?_
   exact ⟨congrArg SV.b (by simp [Kk.v, *]), rfl, rfl⟩
 ·skip
  refine rg (.q 0 (.q 1 (.q 2 (.q 3 (.q 4 (.q 5 (.q 6 (.q 7 (.q 8 (.q 9 (.q 10 (.q 11 (.q 12 (.q 13 (.q 14 (.q 15 (.q 16 (.h 17 (.q 18 (.q 19 XT.done)))))))))))))))))))) (by kernel_rfl) (by kernel_rfl) ?_
  refine q_fa fa_153_0 rfl rfl rfl ?_
  refine q_ld 1 Try.isAgg3 rfl rfl rfl rfl rfl ?_
  refine q_fa fa_153_0 rfl rfl rfl ?_
  refine q_ld 0 Try.isAgg3 rfl rfl rfl rfl rfl ?_
  refine q_eq rfl rfl rfl rfl ?_
  refine x_F (decide_eq_false e1) ?_
  refine q_mv rfl rfl rfl ?_
  iterate 5 refine q_skip rfl rfl ?_
  refine q_pkF rfl rfl rfl rfl ?_
  refine q_mv rfl rfl rfl ?_
  iterate 4 refine q_skip rfl rfl ?_
  refine h_skip rfl rfl ?_
  refine q_pkF rfl rfl rfl rfl ?_
  refine q_as rfl rfl rfl ?_
  refine x_end ?_
  refine nk_cut (e' := [(0, _), (1, _), (2, _), (3, _), (4, _)]) [0, 1, 2, 3, 4] rfl ?_
  refine nk_seq ?_
  refine ew_retS rfl rfl (.cons (.tmp rfl) .nil) ?_
  exact ⟨congrArg SV.b (by simp [Kk.v, *]), rfl, rfl⟩


theorem AEqF_hc {H : Hp} {A A2 : Option Addr} {n c n2 c2 : Nat} {ks ks2 : List Kk} (hx : KS H A n c ks) (hy : KS H A2 n2 c2 ks2) (hkx : KL ks) (hky : KL ks2) :
  HC Try.prog 97 [.sl A n c, .sl A2 n2 c2, .fn 98 []] [] H (fun r S' H' => r = .b (decide (ks.map Kk.v = ks2.map Kk.v)) ∧ S' = [] ∧ H' = H) := by
 have hxl := hx.len
 have hyl := hy.len
 have hkxn := hkx.n
 have hkyn := hky.n
 refine hc_intro (n := 32) Try.func97 rfl Try.ntmps97 rfl (fun B hB => ?_)
 refine ew_cut (e' := [(0, _), (1, _), (2, _)]) [0, 1, 2] rfl ?_
 refine ew_seq ?_
 refine rg (.q 0 XT.done) (by kernel_rfl) (by kernel_rfl) ?_
 refine q_as (sv := .b false) rfl rfl rfl ?_
 refine x_end ?_
 refine nk_cut (e' := [(0, _), (1, _), (2, _), (6, _)]) [0, 1, 2, 6] rfl ?_
 refine nk_seq ?_
 refine ew_seq ?_
 refine ew_seq ?_
 refine rg (.q 0 (.q 1 (.q 2 (.q 3 (.q 4 XT.done))))) (by kernel_rfl) (by kernel_rfl) ?_
 refine q_mv rfl rfl rfl ?_
 refine q_len Try.underlying58 rfl rfl rfl ?_
 refine q_mv rfl rfl rfl ?_
 refine q_len Try.underlying58 rfl rfl rfl ?_
 refine q_ne rfl rfl rfl rfl ?_
 refine x_end ?_
 refine nk_cut (e' := [(0, _), (1, _), (2, _), (6, _), (14, _)]) [0, 1, 2, 6, 14] rfl ?_
 refine nk_seq ?_
 refine ew_cond rfl ?_ ?_
 ·intro hc14
  replace hc14 : ¬ ks.length = ks2.length := by have h := of_decide_eq_true hc14; omega
  refine ew_seq ?_
  refine rg (.q 0 XT.done) (by kernel_rfl) (by kernel_rfl) ?_
  refine q_as (sv := .b false) rfl rfl rfl ?_
  refine x_end ?_
  refine nk_cut (e' := [(0, _), (1, _), (2, _), (6, _), (14, _)]) [0, 1, 2, 6, 14] rfl ?_
  refine nk_seq ?_
  refine ew_retS rfl rfl (.cons (.tmp rfl) .nil) ?_
  exact ⟨congrArg SV.b (decide_eq_false (kv_len hc14)).symm, rfl, rfl⟩
 ·intro hc14
  replace hc14 : ks.length = ks2.length := by have h := of_decide_eq_false hc14; omega
  refine ew_skip ?_
  refine nk_seq ?_
  refine ew_seq ?_
  refine ew_seq ?_
  refine rg (.q 0 (.q 1 (.q 2 XT.done))) (by kernel_rfl) (by kernel_rfl) ?_
  refine q_mv rfl rfl rfl ?_
  refine q_len Try.underlying58 rfl rfl rfl ?_
  refine q_mv (sv := .i 0) rfl rfl rfl ?_
  refine x_end ?_
  refine nk_cut (e' := [(0, _), (1, _), (2, _), (6, _), (14, _), (15, _), (16, _), (17, _)]) [0, 1, 2, 6, 14, 15, 16, 17] rfl ?_
  refine nk_seq ?_
  refine ew_block ?_
  let Ev1 : Nat → Env := fun k => [(17, .i (k : Int))]
  let Gv1 : Nat → Hp → Prop := fun k H' => H = H' ∧ (k ≤ n ∧ (ks.take k).map Kk.v = (ks2.take k).map Kk.v)
  let Mv1 : Nat → Nat := fun k => n - k
  refine ew_loop (mkE [(0, _), (1, _), (2, _), (6, _), (14, _), (15, _), (16, _)] Ev1) (mkS [] (fun _ => [])) Gv1 Mv1 (0 : Nat) ⟨rfl, rfl, rfl, rfl, rfl, rfl, rfl, rfl, trivial⟩ rfl ⟨rfl, ⟨by omega, rfl⟩⟩ ?_
  rintro k H' ⟨rfl, hG⟩
  obtain ⟨hk, hkd⟩ := hG
  refine ew_S (S' := []) rfl ?_
  refine ew_cut (e' := [(17, _), (0, _), (1, _), (2, _), (6, _), (14, _), (15, _), (16, _)]) [17, 0, 1, 2, 6, 14, 15, 16] rfl ?_
  refine ew_seq ?_
  refine rg (.q 0 XT.done) (by kernel_rfl) (by kernel_rfl) ?_
  refine q_lt rfl rfl rfl rfl ?_
  refine x_end ?_
  refine nk_cut (e' := [(0, _), (1, _), (2, _), (6, _), (14, _), (15, _), (16, _), (17, _), (18, _)]) [0, 1, 2, 6, 14, 15, 16, 17, 18] rfl ?_
  refine nk_seq ?_
  refine ew_seq ?_
  refine ew_cond rfl ?_ ?_
  ·intro hc18
   try simp only [decide_eq_true_eq] at hc18
   refine ew_skip ?_
   refine nk_seq ?_
   refine ew_seq ?_
   refine ew_block ?_
   refine ew_seq ?_
   refine rg (.q 0 (.q 1 (.q 2 (.h 3 (.q 4 (.h 5 XT.done)))))) (by kernel_rfl) (by kernel_rfl) ?_
   refine q_mv rfl rfl rfl ?_
   refine q_ixs Try.underlying58 Try.sizeOf153 rfl rfl rfl rfl rfl (hx.ne (by omega)) (by omega) (by omega) ?_
   refine q_ldSr Try.isAgg153 Try.sizeOf153 rfl rfl rfl (hx.get (j := k) (by omega)) rfl ?_
   refine h_alloc (cs := [_, _, _]) Try.zeroValue153 rfl rfl (zc_153 Try.zeroValue153) ?_
   intro g1
   refine ⟨kp0, ?_⟩
   refine q_as rfl rfl rfl ?_
   refine h_stS (cs' := [_, _, _]) (S' := [_]) 0 Try.sizeOf153 rfl rfl rfl rfl rfl (allOne rfl) rfl (leb rfl) rfl rfl kp0 ?_
   refine x_end ?_
   refine nk_cut (e' := [(0, _), (1, _), (2, _), (6, _), (7, _), (8, _), (14, _), (15, _), (16, _), (17, _), (18, _)]) [0, 1, 2, 6, 7, 8, 14, 15, 16, 17, 18] rfl ?_
   refine nk_seq ?_
   refine ew_seq ?_
   refine rg (.q 0 (.q 1 (.q 2 (.q 3 (.h 4 (.h 5 XT.done)))))) (by kernel_rfl) (by kernel_rfl) ?_
   refine q_mv rfl rfl rfl ?_
   refine q_mv rfl rfl rfl ?_
   refine q_ixs Try.underlying58 Try.sizeOf153 rfl rfl rfl rfl rfl (hy.ne (by omega)) (by omega) (by omega) ?_
   refine q_ldSr Try.isAgg153 Try.sizeOf153 rfl rfl rfl (hy.get (j := k) (by omega)) rfl ?_
   refine h_alloc (cs := [_, _, _]) Try.zeroValue153 rfl rfl (zc_153 Try.zeroValue153) ?_
   intro g2
   refine ⟨kp0, ?_⟩
   refine h_stS (cs' := [_, _, _]) (S' := [_, _]) 0 Try.sizeOf153 rfl rfl rfl rfl rfl (allOne rfl) rfl (leb rfl) rfl rfl kp0 ?_
   refine x_end ?_
   refine nk_cut (e' := [(0, _), (1, _), (2, _), (6, _), (7, _), (8, _), (9, _), (14, _), (15, _), (16, _), (17, _), (18, _)]) [0, 1, 2, 6, 7, 8, 9, 14, 15, 16, 17, 18] rfl ?_
   refine nk_seq ?_
   refine ew_seq ?_
   refine rg (.q 0 (.q 1 (.q 2 (.h 3 (.q 4 XT.done))))) (by kernel_rfl) (by kernel_rfl) ?_
   refine q_mv rfl rfl rfl ?_
   refine q_ldS 1 Try.isAgg153 Try.sizeOf153 rfl rfl rfl rfl rfl ?_
   refine q_ldS 0 Try.isAgg153 Try.sizeOf153 rfl rfl rfl rfl rfl ?_
   refine h_callv Try.call98 (S2 := [_, _]) rfl rfl rfl rfl rfl (List.Perm.refl _) (ASame1_hc (hx.at_ (j := k) (by omega)) (hy.at_ (j := k) (by omega)) (by first | assumption | exact hkx.at_ _)) ?_
   rintro r_ S_ H hl1 ⟨rfl, rfl, rfl⟩
   refine ⟨kp0, ?_⟩
   refine x_S (S' := [_, _]) rfl ?_
   refine q_not rfl rfl rfl ?_
   refine x_end ?_
   refine nk_cut (e' := [(0, _), (1, _), (2, _), (6, _), (7, _), (8, _), (9, _), (14, _), (15, _), (16, _), (17, _), (18, _), (30, _)]) [0, 1, 2, 6, 7, 8, 9, 14, 15, 16, 17, 18, 30] rfl ?_
   refine nk_seq ?_
   refine ew_cond rfl ?_ ?_
   ·intro hc30
    simp only [Bool.not_eq_true', Bool.not_eq_false', decide_eq_true_eq, decide_eq_false_iff_not] at hc30
    refine ew_seq ?_
    refine rg (.q 0 XT.done) (by kernel_rfl) (by kernel_rfl) ?_
    refine q_as (sv := .b false) rfl rfl rfl ?_
    refine x_end ?_
    refine nk_cut (e' := [(0, _), (1, _), (2, _), (6, _), (7, _), (8, _), (9, _), (14, _), (15, _), (16, _), (17, _), (18, _), (30, _)]) [0, 1, 2, 6, 7, 8, 9, 14, 15, 16, 17, 18, 30] rfl ?_
    refine nk_seq ?_
    refine ew_retS rfl rfl (.cons (.tmp rfl) .nil) ?_
    exact ⟨congrArg SV.b (decide_eq_false (kv_ne (by omega) (by omega) hc30)).symm, rfl, rfl⟩
   ·intro hc30
    simp only [Bool.not_eq_true', Bool.not_eq_false', decide_eq_true_eq, decide_eq_false_iff_not] at hc30
    refine ew_skip ?_
    refine nk_blk ?_
    refine nk_seq ?_
    refine rg (.q 0 (.q 1 XT.done)) (by kernel_rfl) (by kernel_rfl) ?_
    refine q_add rfl rfl rfl rfl (by omega) (by omega) ?_
    refine q_mv rfl rfl rfl ?_
    refine x_end ?_
    refine nk_cut (e' := [(0, _), (1, _), (2, _), (6, _), (7, _), (8, _), (9, _), (14, _), (15, _), (16, _), (17, _), (18, _), (30, _)]) [0, 1, 2, 6, 7, 8, 9, 14, 15, 16, 17, 18, 30] rfl ?_
    refine nk_drop (S := []) (S' := [_, _]) ?_
    refine nk_round (μ := Mv1) (i := k) (S := _) (G := Gv1) (k + 1 : Nat) ?_ ?_ ?_ ?_
    ·exact ⟨rfl, rfl, rfl, rfl, rfl, rfl, rfl, rfl, trivial⟩
    ·exact rfl
    ·exact ⟨rfl, ⟨by omega, by rw [kv_snoc (by omega), kv_snoc (by omega), hkd, hc30]⟩⟩
    ·dsimp only [Mv1]; omega
  ·intro hc18
   try simp only [decide_eq_false_iff_not] at hc18
   refine ew_exit _ rfl ?_
   refine nk_seq ?_
   refine ew_seq ?_
   refine rg (.q 0 XT.done) (by kernel_rfl) (by kernel_rfl) ?_
   refine q_as (sv := .b true) rfl rfl rfl ?_
   refine x_end ?_
   refine nk_cut (e' := [(0, _), (1, _), (2, _), (6, _), (14, _), (15, _), (16, _), (17, _), (18, _)]) [0, 1, 2, 6, 14, 15, 16, 17, 18] rfl ?_
   refine nk_seq ?_
   refine ew_retS rfl rfl (.cons (.tmp rfl) .nil) ?_
   exact ⟨congrArg SV.b (decide_eq_true (kv_all (n := n) (by omega) (by omega) (by omega) hkd)).symm, rfl, rfl⟩


theorem ASame_hc {H : Hp} {a b : An} (ha : An.ok H a) (hb : An.ok H b) :
  HC Try.prog 38 [.agg a.cells, .agg b.cells] [] H (fun r S' H' => r = .b (decide (a.v = b.v)) ∧ S' = [] ∧ H' = H) := by
 have ham := ha.lm
 have hbm := hb.lm
 have hakl := ha.ks.len
 have hbkl := hb.ks.len
 have hakn := ha.lk.n
 have hbkn := hb.lk.n
 refine hc_intro (n := 57) Try.func38 rfl Try.ntmps38 rfl (fun B hB => ?_)
 refine ew_cut (e' := [(0, _), (1, _)]) [0, 1] rfl ?_
 refine ew_sub (e' := [(0, .agg [_, _, _, _, _, _, _, _]), (1, .agg [_, _, _, _, _, _, _, _])]) ⟨rfl, rfl, trivial⟩ ?_
 refine ew_seq ?_
 refine rg (.h 0 (.h 1 (.q 2 XT.done))) (by kernel_rfl) (by kernel_rfl) ?_
 refine h_boxS rfl rfl rfl ?_
 intro g1
 refine ⟨kp0, ?_⟩
 refine h_boxS rfl rfl rfl ?_
 intro g2
 refine ⟨kp0, ?_⟩
 refine q_as (sv := .b false) rfl rfl rfl ?_
 refine x_end ?_
 refine nk_cut (e' := [(0, _), (1, _), (2, _), (3, _), (4, _)]) [0, 1, 2, 3, 4] rfl ?_
 refine nk_seq ?_
 refine ew_seq ?_
 refine ew_seq ?_
 by_cases e0 : ¬ a.seq = b.seq
 ·skip
  refine rg (.q 0 (.q 1 (.q 2 (.q 3 (.q 4 (.q 5 (.q 6 (.q 7 (.q 8 (.q 9 (.q 10 (.q 11 (.q 12 (.q 13 (.q 14 (.q 15 (.q 16 (.q 17 (.q 18 (.q 19 (.q 20 (.q 21 (.q 22 (.q 23 (.q 24 (.q 25 (.q 26 (.q 27 (.q 28 (.q 29 (.q 30 (.q 31 (.q 32 (.q 33 (.q 34 (.q 35 (.q 36 (.q 37 (.q 38 (.q 39 XT.done)))))))))))))))))))))))))))))))))))))))) (by kernel_rfl) (by kernel_rfl) ?_
  refine q_fa fa_60_0 rfl rfl rfl ?_
  refine q_ld 1 Try.isAgg3 rfl rfl rfl rfl rfl ?_
  refine q_fa fa_60_0 rfl rfl rfl ?_
  refine q_ld 0 Try.isAgg3 rfl rfl rfl rfl rfl ?_
  refine q_ne rfl rfl rfl rfl ?_
  refine x_T (by simpa using e0) ?_
  refine q_mv rfl rfl rfl ?_
  iterate 5 refine q_skip rfl rfl ?_
  refine q_pkT rfl rfl rfl rfl ?_
  refine q_mv rfl rfl rfl ?_
  iterate 5 refine q_skip rfl rfl ?_
  refine q_pkT rfl rfl rfl rfl ?_
  refine q_mv rfl rfl rfl ?_
  iterate 5 refine q_skip rfl rfl ?_
  refine q_pkT rfl rfl rfl rfl ?_
  refine q_mv rfl rfl rfl ?_
  iterate 5 refine q_skip rfl rfl ?_
  refine q_pkT rfl rfl rfl rfl ?_
  refine q_mv rfl rfl rfl ?_
  iterate 5 refine q_skip rfl rfl ?_
  refine q_pkT rfl rfl rfl rfl ?_
  refine x_end ?_
  refine nk_cut (e' := [(0, _), (1, _), (2, _), (3, _), (4, _), (44, _)]) [0, 1, 2, 3, 4, 44] rfl ?_
  refine nk_seq ?_
  refine ew_true rfl ?_
  refine ew_seq ?_
  refine rg (.q 0 XT.done) (by kernel_rfl) (by kernel_rfl) ?_
  refine q_as (sv := .b false) rfl rfl rfl ?_
  refine x_end ?_
  refine nk_cut (e' := [(0, _), (1, _), (2, _), (3, _), (4, _), (44, _)]) [0, 1, 2, 3, 4, 44] rfl ?_
  refine nk_seq ?_
  refine ew_retS rfl rfl (.cons (.tmp rfl) .nil) ?_
  exact ⟨congrArg SV.b (by (try simp only [Classical.not_not, ne_eq] at *); simp [An.v, *]), rfl, rfl⟩
 ·skip
  by_cases e1 : ¬ a.epoch = b.epoch
  ·skip
   refine rg (.q 0 (.q 1 (.q 2 (.q 3 (.q 4 (.q 5 (.q 6 (.q 7 (.q 8 (.q 9 (.q 10 (.q 11 (.q 12 (.q 13 (.q 14 (.q 15 (.q 16 (.q 17 (.q 18 (.q 19 (.q 20 (.q 21 (.q 22 (.q 23 (.q 24 (.q 25 (.q 26 (.q 27 (.q 28 (.q 29 (.q 30 (.q 31 (.q 32 (.q 33 (.q 34 (.q 35 (.q 36 (.q 37 (.q 38 (.q 39 XT.done)))))))))))))))))))))))))))))))))))))))) (by kernel_rfl) (by kernel_rfl) ?_
   refine q_fa fa_60_0 rfl rfl rfl ?_
   refine q_ld 1 Try.isAgg3 rfl rfl rfl rfl rfl ?_
   refine q_fa fa_60_0 rfl rfl rfl ?_
   refine q_ld 0 Try.isAgg3 rfl rfl rfl rfl rfl ?_
   refine q_ne rfl rfl rfl rfl ?_
   refine x_F (by simpa using e0) ?_
   refine q_mv rfl rfl rfl ?_
   refine q_fa fa_60_1 rfl rfl rfl ?_
   refine q_ld 1 Try.isAgg3 rfl rfl rfl rfl rfl ?_
   refine q_fa fa_60_1 rfl rfl rfl ?_
   refine q_ld 0 Try.isAgg3 rfl rfl rfl rfl rfl ?_
   refine q_ne rfl rfl rfl rfl ?_
   refine x_T (by simpa using e1) ?_
   refine q_pkF rfl rfl rfl rfl ?_
   refine q_mv rfl rfl rfl ?_
   iterate 5 refine q_skip rfl rfl ?_
   refine q_pkT rfl rfl rfl rfl ?_
   refine q_mv rfl rfl rfl ?_
   iterate 5 refine q_skip rfl rfl ?_
   refine q_pkT rfl rfl rfl rfl ?_
   refine q_mv rfl rfl rfl ?_
   iterate 5 refine q_skip rfl rfl ?_
   refine q_pkT rfl rfl rfl rfl ?_
   refine q_mv rfl rfl rfl ?_
   iterate 5 refine q_skip rfl rfl ?_
   refine q_pkT rfl rfl rfl rfl ?_
   refine x_end ?_
   refine nk_cut (e' := [(0, _), (1, _), (2, _), (3, _), (4, _), (44, _)]) [0, 1, 2, 3, 4, 44] rfl ?_
   refine nk_seq ?_
   refine ew_true rfl ?_
   refine ew_seq ?_
   refine rg (.q 0 XT.done) (by kernel_rfl) (by kernel_rfl) ?_
   refine q_as (sv := .b false) rfl rfl rfl ?_
   refine x_end ?_
   refine nk_cut (e' := [(0, _), (1, _), (2, _), (3, _), (4, _), (44, _)]) [0, 1, 2, 3, 4, 44] rfl ?_
   refine nk_seq ?_
   refine ew_retS rfl rfl (.cons (.tmp rfl) .nil) ?_
   exact ⟨congrArg SV.b (by (try simp only [Classical.not_not, ne_eq] at *); simp [An.v, *]), rfl, rfl⟩
  ·skip
   by_cases e2 : ¬ a.given_ = b.given_
   ·skip
    refine rg (.q 0 (.q 1 (.q 2 (.q 3 (.q 4 (.q 5 (.q 6 (.q 7 (.q 8 (.q 9 (.q 10 (.q 11 (.q 12 (.q 13 (.q 14 (.q 15 (.q 16 (.q 17 (.q 18 (.q 19 (.q 20 (.q 21 (.q 22 (.q 23 (.q 24 (.q 25 (.q 26 (.q 27 (.q 28 (.q 29 (.q 30 (.q 31 (.q 32 (.q 33 (.q 34 (.q 35 (.q 36 (.q 37 (.q 38 (.q 39 XT.done)))))))))))))))))))))))))))))))))))))))) (by kernel_rfl) (by kernel_rfl) ?_
    refine q_fa fa_60_0 rfl rfl rfl ?_
    refine q_ld 1 Try.isAgg3 rfl rfl rfl rfl rfl ?_
    refine q_fa fa_60_0 rfl rfl rfl ?_
    refine q_ld 0 Try.isAgg3 rfl rfl rfl rfl rfl ?_
    refine q_ne rfl rfl rfl rfl ?_
    refine x_F (by simpa using e0) ?_
    refine q_mv rfl rfl rfl ?_
    refine q_fa fa_60_1 rfl rfl rfl ?_
    refine q_ld 1 Try.isAgg3 rfl rfl rfl rfl rfl ?_
    refine q_fa fa_60_1 rfl rfl rfl ?_
    refine q_ld 0 Try.isAgg3 rfl rfl rfl rfl rfl ?_
    refine q_ne rfl rfl rfl rfl ?_
    refine x_F (by simpa using e1) ?_
    refine q_pkF rfl rfl rfl rfl ?_
    refine q_mv rfl rfl rfl ?_
    refine q_fa fa_60_2 rfl rfl rfl ?_
    refine q_ld 1 Try.isAgg3 rfl rfl rfl rfl rfl ?_
    refine q_fa fa_60_2 rfl rfl rfl ?_
    refine q_ld 0 Try.isAgg3 rfl rfl rfl rfl rfl ?_
    refine q_ne rfl rfl rfl rfl ?_
    refine x_T (by simpa using e2) ?_
    refine q_pkF rfl rfl rfl rfl ?_
    refine q_mv rfl rfl rfl ?_
    iterate 5 refine q_skip rfl rfl ?_
    refine q_pkT rfl rfl rfl rfl ?_
    refine q_mv rfl rfl rfl ?_
    iterate 5 refine q_skip rfl rfl ?_
    refine q_pkT rfl rfl rfl rfl ?_
    refine q_mv rfl rfl rfl ?_
    iterate 5 refine q_skip rfl rfl ?_
    refine q_pkT rfl rfl rfl rfl ?_
    refine x_end ?_
    refine nk_cut (e' := [(0, _), (1, _), (2, _), (3, _), (4, _), (44, _)]) [0, 1, 2, 3, 4, 44] rfl ?_
    refine nk_seq ?_
    refine ew_true rfl ?_
    refine ew_seq ?_
    refine rg (.q 0 XT.done) (by kernel_rfl) (by kernel_rfl) ?_
    refine q_as (sv := .b false) rfl rfl rfl ?_
    refine x_end ?_
    refine nk_cut (e' := [(0, _), (1, _), (2, _), (3, _), (4, _), (44, _)]) [0, 1, 2, 3, 4, 44] rfl ?_
    refine nk_seq ?_
    refine ew_retS rfl rfl (.cons (.tmp rfl) .nil) ?_
    exact ⟨congrArg SV.b (by (try simp only [Classical.not_not, ne_eq] at *); simp [An.v, *]), rfl, rfl⟩
   ·skip
    by_cases e3 : ¬ a.root = b.root
    ·skip
     refine rg (.q 0 (.q 1 (.q 2 (.q 3 (.q 4 (.q 5 (.q 6 (.q 7 (.q 8 (.q 9 (.q 10 (.q 11 (.q 12 (.q 13 (.q 14 (.q 15 (.q 16 (.q 17 (.q 18 (.q 19 (.q 20 (.q 21 (.q 22 (.q 23 (.q 24 (.q 25 (.q 26 (.q 27 (.q 28 (.q 29 (.q 30 (.q 31 (.q 32 (.q 33 (.q 34 (.q 35 (.q 36 (.q 37 (.q 38 (.q 39 XT.done)))))))))))))))))))))))))))))))))))))))) (by kernel_rfl) (by kernel_rfl) ?_
     refine q_fa fa_60_0 rfl rfl rfl ?_
     refine q_ld 1 Try.isAgg3 rfl rfl rfl rfl rfl ?_
     refine q_fa fa_60_0 rfl rfl rfl ?_
     refine q_ld 0 Try.isAgg3 rfl rfl rfl rfl rfl ?_
     refine q_ne rfl rfl rfl rfl ?_
     refine x_F (by simpa using e0) ?_
     refine q_mv rfl rfl rfl ?_
     refine q_fa fa_60_1 rfl rfl rfl ?_
     refine q_ld 1 Try.isAgg3 rfl rfl rfl rfl rfl ?_
     refine q_fa fa_60_1 rfl rfl rfl ?_
     refine q_ld 0 Try.isAgg3 rfl rfl rfl rfl rfl ?_
     refine q_ne rfl rfl rfl rfl ?_
     refine x_F (by simpa using e1) ?_
     refine q_pkF rfl rfl rfl rfl ?_
     refine q_mv rfl rfl rfl ?_
     refine q_fa fa_60_2 rfl rfl rfl ?_
     refine q_ld 1 Try.isAgg3 rfl rfl rfl rfl rfl ?_
     refine q_fa fa_60_2 rfl rfl rfl ?_
     refine q_ld 0 Try.isAgg3 rfl rfl rfl rfl rfl ?_
     refine q_ne rfl rfl rfl rfl ?_
     refine x_F (by simpa using e2) ?_
     refine q_pkF rfl rfl rfl rfl ?_
     refine q_mv rfl rfl rfl ?_
     refine q_fa fa_60_3 rfl rfl rfl ?_
     refine q_ld 1 Try.isAgg3 rfl rfl rfl rfl rfl ?_
     refine q_fa fa_60_3 rfl rfl rfl ?_
     refine q_ld 0 Try.isAgg3 rfl rfl rfl rfl rfl ?_
     refine q_ne rfl rfl rfl rfl ?_
     refine x_T (by simpa using e3) ?_
     refine q_pkF rfl rfl rfl rfl ?_
     refine q_mv rfl rfl rfl ?_
     iterate 5 refine q_skip rfl rfl ?_
     refine q_pkT rfl rfl rfl rfl ?_
     refine q_mv rfl rfl rfl ?_
     iterate 5 refine q_skip rfl rfl ?_
     refine q_pkT rfl rfl rfl rfl ?_
     refine x_end ?_
     refine nk_cut (e' := [(0, _), (1, _), (2, _), (3, _), (4, _), (44, _)]) [0, 1, 2, 3, 4, 44] rfl ?_
     refine nk_seq ?_
     refine ew_true rfl ?_
     refine ew_seq ?_
     refine rg (.q 0 XT.done) (by kernel_rfl) (by kernel_rfl) ?_
     refine q_as (sv := .b false) rfl rfl rfl ?_
     refine x_end ?_
     refine nk_cut (e' := [(0, _), (1, _), (2, _), (3, _), (4, _), (44, _)]) [0, 1, 2, 3, 4, 44] rfl ?_
     refine nk_seq ?_
     refine ew_retS rfl rfl (.cons (.tmp rfl) .nil) ?_
     exact ⟨congrArg SV.b (by (try simp only [Classical.not_not, ne_eq] at *); simp [An.v, *]), rfl, rfl⟩
    ·skip
     by_cases e4 : ¬ a.rep = b.rep
     ·skip
      refine rg (.q 0 (.q 1 (.q 2 (.q 3 (.q 4 (.q 5 (.q 6 (.q 7 (.q 8 (.q 9 (.q 10 (.q 11 (.q 12 (.q 13 (.q 14 (.q 15 (.q 16 (.q 17 (.q 18 (.q 19 (.q 20 (.q 21 (.q 22 (.q 23 (.q 24 (.q 25 (.q 26 (.q 27 (.q 28 (.q 29 (.q 30 (.q 31 (.q 32 (.q 33 (.q 34 (.q 35 (.q 36 (.q 37 (.q 38 (.q 39 XT.done)))))))))))))))))))))))))))))))))))))))) (by kernel_rfl) (by kernel_rfl) ?_
      refine q_fa fa_60_0 rfl rfl rfl ?_
      refine q_ld 1 Try.isAgg3 rfl rfl rfl rfl rfl ?_
      refine q_fa fa_60_0 rfl rfl rfl ?_
      refine q_ld 0 Try.isAgg3 rfl rfl rfl rfl rfl ?_
      refine q_ne rfl rfl rfl rfl ?_
      refine x_F (by simpa using e0) ?_
      refine q_mv rfl rfl rfl ?_
      refine q_fa fa_60_1 rfl rfl rfl ?_
      refine q_ld 1 Try.isAgg3 rfl rfl rfl rfl rfl ?_
      refine q_fa fa_60_1 rfl rfl rfl ?_
      refine q_ld 0 Try.isAgg3 rfl rfl rfl rfl rfl ?_
      refine q_ne rfl rfl rfl rfl ?_
      refine x_F (by simpa using e1) ?_
      refine q_pkF rfl rfl rfl rfl ?_
      refine q_mv rfl rfl rfl ?_
      refine q_fa fa_60_2 rfl rfl rfl ?_
      refine q_ld 1 Try.isAgg3 rfl rfl rfl rfl rfl ?_
      refine q_fa fa_60_2 rfl rfl rfl ?_
      refine q_ld 0 Try.isAgg3 rfl rfl rfl rfl rfl ?_
      refine q_ne rfl rfl rfl rfl ?_
      refine x_F (by simpa using e2) ?_
      refine q_pkF rfl rfl rfl rfl ?_
      refine q_mv rfl rfl rfl ?_
      refine q_fa fa_60_3 rfl rfl rfl ?_
      refine q_ld 1 Try.isAgg3 rfl rfl rfl rfl rfl ?_
      refine q_fa fa_60_3 rfl rfl rfl ?_
      refine q_ld 0 Try.isAgg3 rfl rfl rfl rfl rfl ?_
      refine q_ne rfl rfl rfl rfl ?_
      refine x_F (by simpa using e3) ?_
      refine q_pkF rfl rfl rfl rfl ?_
      refine q_mv rfl rfl rfl ?_
      refine q_fa fa_60_4 rfl rfl rfl ?_
      refine q_ld 1 Try.isAgg3 rfl rfl rfl rfl rfl ?_
      refine q_fa fa_60_4 rfl rfl rfl ?_
      refine q_ld 0 Try.isAgg3 rfl rfl rfl rfl rfl ?_
      refine q_ne rfl rfl rfl rfl ?_
      refine x_T (by simpa using e4) ?_
      refine q_pkF rfl rfl rfl rfl ?_
      refine q_mv rfl rfl rfl ?_
      iterate 5 refine q_skip rfl rfl ?_
      refine q_pkT rfl rfl rfl rfl ?_
      refine x_end ?_
      refine nk_cut (e' := [(0, _), (1, _), (2, _), (3, _), (4, _), (44, _)]) [0, 1, 2, 3, 4, 44] rfl ?_
      refine nk_seq ?_
      refine ew_true rfl ?_
      refine ew_seq ?_
      refine rg (.q 0 XT.done) (by kernel_rfl) (by kernel_rfl) ?_
      refine q_as (sv := .b false) rfl rfl rfl ?_
      refine x_end ?_
      refine nk_cut (e' := [(0, _), (1, _), (2, _), (3, _), (4, _), (44, _)]) [0, 1, 2, 3, 4, 44] rfl ?_
      refine nk_seq ?_
      refine ew_retS rfl rfl (.cons (.tmp rfl) .nil) ?_
      exact ⟨congrArg SV.b (by (try simp only [Classical.not_not, ne_eq] at *); simp [An.v, *]), rfl, rfl⟩
     ·skip
      refine rg (.q 0 (.q 1 (.q 2 (.q 3 (.q 4 (.q 5 (.q 6 (.q 7 (.q 8 (.q 9 (.q 10 (.q 11 (.q 12 (.q 13 (.q 14 (.q 15 (.q 16 (.q 17 (.q 18 (.q 19 (.q 20 (.q 21 (.q 22 (.q 23 (.q 24 (.q 25 (.q 26 (.q 27 (.q 28 (.q 29 (.q 30 (.q 31 (.q 32 (.q 33 (.q 34 (.q 35 (.q 36 (.q 37 (.q 38 (.q 39 XT.done)))))))))))))))))))))))))))))))))))))))) (by kernel_rfl) (by kernel_rfl) ?_
      refine q_fa fa_60_0 rfl rfl rfl ?_
      refine q_ld 1 Try.isAgg3 rfl rfl rfl rfl rfl ?_
      refine q_fa fa_60_0 rfl rfl rfl ?_
      refine q_ld 0 Try.isAgg3 rfl rfl rfl rfl rfl ?_
      refine q_ne rfl rfl rfl rfl ?_
      refine x_F (by simpa using e0) ?_
      refine q_mv rfl rfl rfl ?_
      refine q_fa fa_60_1 rfl rfl rfl ?_
      refine q_ld 1 Try.isAgg3 rfl rfl rfl rfl rfl ?_
      refine q_fa fa_60_1 rfl rfl rfl ?_
      refine q_ld 0 Try.isAgg3 rfl rfl rfl rfl rfl ?_
      refine q_ne rfl rfl rfl rfl ?_
      refine x_F (by simpa using e1) ?_
      refine q_pkF rfl rfl rfl rfl ?_
      refine q_mv rfl rfl rfl ?_
      refine q_fa fa_60_2 rfl rfl rfl ?_
      refine q_ld 1 Try.isAgg3 rfl rfl rfl rfl rfl ?_
      refine q_fa fa_60_2 rfl rfl rfl ?_
      refine q_ld 0 Try.isAgg3 rfl rfl rfl rfl rfl ?_
      refine q_ne rfl rfl rfl rfl ?_
      refine x_F (by simpa using e2) ?_
      refine q_pkF rfl rfl rfl rfl ?_
      refine q_mv rfl rfl rfl ?_
      refine q_fa fa_60_3 rfl rfl rfl ?_
      refine q_ld 1 Try.isAgg3 rfl rfl rfl rfl rfl ?_
      refine q_fa fa_60_3 rfl rfl rfl ?_
      refine q_ld 0 Try.isAgg3 rfl rfl rfl rfl rfl ?_
      refine q_ne rfl rfl rfl rfl ?_
      refine x_F (by simpa using e3) ?_
      refine q_pkF rfl rfl rfl rfl ?_
      refine q_mv rfl rfl rfl ?_
      refine q_fa fa_60_4 rfl rfl rfl ?_
      refine q_ld 1 Try.isAgg3 rfl rfl rfl rfl rfl ?_
      refine q_fa fa_60_4 rfl rfl rfl ?_
      refine q_ld 0 Try.isAgg3 rfl rfl rfl rfl rfl ?_
      refine q_ne rfl rfl rfl rfl ?_
      refine x_F (by simpa using e4) ?_
      refine q_pkF rfl rfl rfl rfl ?_
      refine q_mv rfl rfl rfl ?_
      refine q_fa fa_60_5 rfl rfl rfl ?_
      refine q_ld 1 Try.isAgg3 rfl rfl rfl rfl rfl ?_
      refine q_fa fa_60_5 rfl rfl rfl ?_
      refine q_ld 0 Try.isAgg3 rfl rfl rfl rfl rfl ?_
      refine q_ne rfl rfl rfl rfl ?_
      refine q_pkF rfl rfl rfl rfl ?_
      refine x_end ?_
      refine nk_cut (e' := [(0, _), (1, _), (2, _), (3, _), (4, _), (44, _)]) [0, 1, 2, 3, 4, 44] rfl ?_
      refine nk_seq ?_
      refine ew_cond rfl ?_ ?_
      ·intro hc44
       try simp only [decide_eq_true_eq] at hc44
       refine ew_seq ?_
       refine rg (.q 0 XT.done) (by kernel_rfl) (by kernel_rfl) ?_
       refine q_as (sv := .b false) rfl rfl rfl ?_
       refine x_end ?_
       refine nk_cut (e' := [(0, _), (1, _), (2, _), (3, _), (4, _), (44, _)]) [0, 1, 2, 3, 4, 44] rfl ?_
       refine nk_seq ?_
       refine ew_retS rfl rfl (.cons (.tmp rfl) .nil) ?_
       exact ⟨congrArg SV.b (by (try simp only [Classical.not_not, ne_eq] at *); simp [An.v, *]), rfl, rfl⟩
      ·intro hc44
       try simp only [decide_eq_false_iff_not] at hc44
       refine ew_skip ?_
       refine nk_seq ?_
       refine ew_seq ?_
       by_cases f1 : a.m.xs = b.m.xs
       ·skip
        refine rg (.q 0 (.q 1 (.q 2 (.q 3 (.h 4 (.q 5 (.q 6 (.q 7 (.q 8 (.q 9 (.h 10 (.q 11 (.q 12 XT.done))))))))))))) (by kernel_rfl) (by kernel_rfl) ?_
        refine q_fa fa_60_6 rfl rfl rfl ?_
        refine q_ld 1 Try.isAgg26 rfl rfl rfl rfl rfl ?_
        refine q_fa fa_60_6 rfl rfl rfl ?_
        refine q_ld 0 Try.isAgg26 rfl rfl rfl rfl rfl ?_
        refine h_call0 Try.call96 rfl rfl rfl (Same_hc ha.m hb.m (by omega)) ?_
        rintro r_ S_ H hl1 ⟨rfl, rfl, rfl⟩
        refine ⟨kp0, ?_⟩
        refine x_S (S' := [_, _]) rfl ?_
        refine x_T (decide_eq_true f1) ?_
        refine q_mv rfl rfl rfl ?_
        refine q_fa fa_60_7 rfl rfl rfl ?_
        refine q_ld 1 Try.isAgg58 rfl rfl rfl rfl rfl ?_
        refine q_fa fa_60_7 rfl rfl rfl ?_
        refine q_ld 0 Try.isAgg58 rfl rfl rfl rfl rfl ?_
        refine h_call0 Try.call97 rfl rfl rfl (AEqF_hc ha.ks hb.ks ha.lk hb.lk) ?_
        rintro r_ S_ H hl2 ⟨rfl, rfl, rfl⟩
        refine ⟨kp0, ?_⟩
        refine x_S (S' := [_, _]) rfl ?_
        refine q_pkT rfl rfl rfl rfl ?_
        refine q_as rfl rfl rfl ?_
        refine x_end ?_
        refine nk_cut (e' := [(0, _), (1, _), (2, _), (3, _), (4, _), (44, _)]) [0, 1, 2, 3, 4, 44] rfl ?_
        refine nk_seq ?_
        refine ew_retS rfl rfl (.cons (.tmp rfl) .nil) ?_
        exact ⟨congrArg SV.b (by (try simp only [Classical.not_not, ne_eq] at *); simp [An.v, *]), rfl, rfl⟩
       ·skip
        refine rg (.q 0 (.q 1 (.q 2 (.q 3 (.h 4 (.q 5 (.q 6 (.q 7 (.q 8 (.q 9 (.h 10 (.q 11 (.q 12 XT.done))))))))))))) (by kernel_rfl) (by kernel_rfl) ?_
        refine q_fa fa_60_6 rfl rfl rfl ?_
        refine q_ld 1 Try.isAgg26 rfl rfl rfl rfl rfl ?_
        refine q_fa fa_60_6 rfl rfl rfl ?_
        refine q_ld 0 Try.isAgg26 rfl rfl rfl rfl rfl ?_
        refine h_call0 Try.call96 rfl rfl rfl (Same_hc ha.m hb.m (by omega)) ?_
        rintro r_ S_ H hl3 ⟨rfl, rfl, rfl⟩
        refine ⟨kp0, ?_⟩
        refine x_S (S' := [_, _]) rfl ?_
        refine x_F (decide_eq_false f1) ?_
        refine q_mv rfl rfl rfl ?_
        iterate 4 refine q_skip rfl rfl ?_
        refine h_skip rfl rfl ?_
        refine q_pkF rfl rfl rfl rfl ?_
        refine q_as rfl rfl rfl ?_
        refine x_end ?_
        refine nk_cut (e' := [(0, _), (1, _), (2, _), (3, _), (4, _), (44, _)]) [0, 1, 2, 3, 4, 44] rfl ?_
        refine nk_seq ?_
        refine ew_retS rfl rfl (.cons (.tmp rfl) .nil) ?_
        exact ⟨congrArg SV.b (by (try simp only [Classical.not_not, ne_eq] at *); simp [An.v, *]), rfl, rfl⟩


theorem RASame_hc {H : Hp} {a b : An} (ha : An.ok H a) (hb : An.ok H b) :
  HC Try.prog 37 [.agg a.cells, .agg b.cells] [] H (fun r S' H' => r = .b (decide (a.v = b.v)) ∧ S' = [] ∧ H' = H) := by
 have ham := ha.lm
 have hbm := hb.lm
 have hakl := ha.ks.len
 have hbkl := hb.ks.len
 have hakn := ha.lk.n
 have hbkn := hb.lk.n
 refine hc_intro (n := 114) Try.func37 rfl Try.ntmps37 rfl (fun B hB => ?_)
 refine ew_cut (e' := [(0, _), (1, _)]) [0, 1] rfl ?_
 refine ew_sub (e' := [(0, .agg [_, _, _, _, _, _, _, _]), (1, .agg [_, _, _, _, _, _, _, _])]) ⟨rfl, rfl, trivial⟩ ?_
 refine ew_seq ?_
 refine rg (.h 0 (.h 1 (.q 2 XT.done))) (by kernel_rfl) (by kernel_rfl) ?_
 refine h_boxS rfl rfl rfl ?_
 intro g1
 refine ⟨kp0, ?_⟩
 refine h_boxS rfl rfl rfl ?_
 intro g2
 refine ⟨kp0, ?_⟩
 refine q_as (sv := .b false) rfl rfl rfl ?_
 refine x_end ?_
 refine nk_cut (e' := [(0, _), (1, _), (2, _), (3, _), (4, _)]) [0, 1, 2, 3, 4] rfl ?_
 refine nk_seq ?_
 refine ew_seq ?_
 refine ew_seq ?_
 by_cases e0 : ¬ a.seq = b.seq
 ·skip
  refine rg (.q 0 (.q 1 (.q 2 (.q 3 (.q 4 (.q 5 (.q 6 (.q 7 (.q 8 (.q 9 (.q 10 (.q 11 (.q 12 (.q 13 (.q 14 (.q 15 (.q 16 (.q 17 (.q 18 (.q 19 (.q 20 (.q 21 (.q 22 (.q 23 (.q 24 (.q 25 (.q 26 (.q 27 (.q 28 (.q 29 (.q 30 (.q 31 (.q 32 (.q 33 (.q 34 (.q 35 (.q 36 (.q 37 (.q 38 (.q 39 (.q 40 (.q 41 (.q 42 (.q 43 (.q 44 (.h 45 (.q 46 (.q 47 (.q 48 (.q 49 (.q 50 (.q 51 (.q 52 (.q 53 (.q 54 (.q 55 (.q 56 XT.done))))))))))))))))))))))))))))))))))))))))))))))))))))))))) (by kernel_rfl) (by kernel_rfl) ?_
  refine q_fa fa_60_0 rfl rfl rfl ?_
  refine q_ld 1 Try.isAgg3 rfl rfl rfl rfl rfl ?_
  refine q_fa fa_60_0 rfl rfl rfl ?_
  refine q_ld 0 Try.isAgg3 rfl rfl rfl rfl rfl ?_
  refine q_ne rfl rfl rfl rfl ?_
  refine x_T (by simpa using e0) ?_
  refine q_mv rfl rfl rfl ?_
  iterate 5 refine q_skip rfl rfl ?_
  refine q_pkT rfl rfl rfl rfl ?_
  refine q_mv rfl rfl rfl ?_
  iterate 5 refine q_skip rfl rfl ?_
  refine q_pkT rfl rfl rfl rfl ?_
  refine q_mv rfl rfl rfl ?_
  iterate 5 refine q_skip rfl rfl ?_
  refine q_pkT rfl rfl rfl rfl ?_
  refine q_mv rfl rfl rfl ?_
  iterate 5 refine q_skip rfl rfl ?_
  refine q_pkT rfl rfl rfl rfl ?_
  refine q_mv rfl rfl rfl ?_
  iterate 5 refine q_skip rfl rfl ?_
  refine q_pkT rfl rfl rfl rfl ?_
  refine q_mv rfl rfl rfl ?_
  iterate 4 refine q_skip rfl rfl ?_
  refine h_skip rfl rfl ?_
  refine q_skip rfl rfl ?_
  refine q_pkT rfl rfl rfl rfl ?_
  refine q_mv rfl rfl rfl ?_
  iterate 7 refine q_skip rfl rfl ?_
  refine q_pkT rfl rfl rfl rfl ?_
  refine x_end ?_
  refine nk_cut (e' := [(0, _), (1, _), (2, _), (3, _), (4, _), (62, _)]) [0, 1, 2, 3, 4, 62] rfl ?_
  refine nk_seq ?_
  refine ew_true rfl ?_
  refine ew_seq ?_
  refine rg (.q 0 XT.done) (by kernel_rfl) (by kernel_rfl) ?_
  refine q_as (sv := .b false) rfl rfl rfl ?_
  refine x_end ?_
  refine nk_cut (e' := [(0, _), (1, _), (2, _), (3, _), (4, _), (62, _)]) [0, 1, 2, 3, 4, 62] rfl ?_
  refine nk_seq ?_
  refine ew_retS rfl rfl (.cons (.tmp rfl) .nil) ?_
  exact ⟨congrArg SV.b (by (try simp only [Classical.not_not, ne_eq] at *); simp [An.v, *]), rfl, rfl⟩
 ·skip
  by_cases e1 : ¬ a.epoch = b.epoch
  ·skip
   refine rg (.q 0 (.q 1 (.q 2 (.q 3 (.q 4 (.q 5 (.q 6 (.q 7 (.q 8 (.q 9 (.q 10 (.q 11 (.q 12 (.q 13 (.q 14 (.q 15 (.q 16 (.q 17 (.q 18 (.q 19 (.q 20 (.q 21 (.q 22 (.q 23 (.q 24 (.q 25 (.q 26 (.q 27 (.q 28 (.q 29 (.q 30 (.q 31 (.q 32 (.q 33 (.q 34 (.q 35 (.q 36 (.q 37 (.q 38 (.q 39 (.q 40 (.q 41 (.q 42 (.q 43 (.q 44 (.h 45 (.q 46 (.q 47 (.q 48 (.q 49 (.q 50 (.q 51 (.q 52 (.q 53 (.q 54 (.q 55 (.q 56 XT.done))))))))))))))))))))))))))))))))))))))))))))))))))))))))) (by kernel_rfl) (by kernel_rfl) ?_
   refine q_fa fa_60_0 rfl rfl rfl ?_
   refine q_ld 1 Try.isAgg3 rfl rfl rfl rfl rfl ?_
   refine q_fa fa_60_0 rfl rfl rfl ?_
   refine q_ld 0 Try.isAgg3 rfl rfl rfl rfl rfl ?_
   refine q_ne rfl rfl rfl rfl ?_
   refine x_F (by simpa using e0) ?_
   refine q_mv rfl rfl rfl ?_
   refine q_fa fa_60_1 rfl rfl rfl ?_
   refine q_ld 1 Try.isAgg3 rfl rfl rfl rfl rfl ?_
   refine q_fa fa_60_1 rfl rfl rfl ?_
   refine q_ld 0 Try.isAgg3 rfl rfl rfl rfl rfl ?_
   refine q_ne rfl rfl rfl rfl ?_
   refine x_T (by simpa using e1) ?_
   refine q_pkF rfl rfl rfl rfl ?_
   refine q_mv rfl rfl rfl ?_
   iterate 5 refine q_skip rfl rfl ?_
   refine q_pkT rfl rfl rfl rfl ?_
   refine q_mv rfl rfl rfl ?_
   iterate 5 refine q_skip rfl rfl ?_
   refine q_pkT rfl rfl rfl rfl ?_
   refine q_mv rfl rfl rfl ?_
   iterate 5 refine q_skip rfl rfl ?_
   refine q_pkT rfl rfl rfl rfl ?_
   refine q_mv rfl rfl rfl ?_
   iterate 5 refine q_skip rfl rfl ?_
   refine q_pkT rfl rfl rfl rfl ?_
   refine q_mv rfl rfl rfl ?_
   iterate 4 refine q_skip rfl rfl ?_
   refine h_skip rfl rfl ?_
   refine q_skip rfl rfl ?_
   refine q_pkT rfl rfl rfl rfl ?_
   refine q_mv rfl rfl rfl ?_
   iterate 7 refine q_skip rfl rfl ?_
   refine q_pkT rfl rfl rfl rfl ?_
   refine x_end ?_
   refine nk_cut (e' := [(0, _), (1, _), (2, _), (3, _), (4, _), (62, _)]) [0, 1, 2, 3, 4, 62] rfl ?_
   refine nk_seq ?_
   refine ew_true rfl ?_
   refine ew_seq ?_
   refine rg (.q 0 XT.done) (by kernel_rfl) (by kernel_rfl) ?_
   refine q_as (sv := .b false) rfl rfl rfl ?_
   refine x_end ?_
   refine nk_cut (e' := [(0, _), (1, _), (2, _), (3, _), (4, _), (62, _)]) [0, 1, 2, 3, 4, 62] rfl ?_
   refine nk_seq ?_
   refine ew_retS rfl rfl (.cons (.tmp rfl) .nil) ?_
   exact ⟨congrArg SV.b (by (try simp only [Classical.not_not, ne_eq] at *); simp [An.v, *]), rfl, rfl⟩
  ·skip
   by_cases e2 : ¬ a.given_ = b.given_
   ·skip
    refine rg (.q 0 (.q 1 (.q 2 (.q 3 (.q 4 (.q 5 (.q 6 (.q 7 (.q 8 (.q 9 (.q 10 (.q 11 (.q 12 (.q 13 (.q 14 (.q 15 (.q 16 (.q 17 (.q 18 (.q 19 (.q 20 (.q 21 (.q 22 (.q 23 (.q 24 (.q 25 (.q 26 (.q 27 (.q 28 (.q 29 (.q 30 (.q 31 (.q 32 (.q 33 (.q 34 (.q 35 (.q 36 (.q 37 (.q 38 (.q 39 (.q 40 (.q 41 (.q 42 (.q 43 (.q 44 (.h 45 (.q 46 (.q 47 (.q 48 (.q 49 (.q 50 (.q 51 (.q 52 (.q 53 (.q 54 (.q 55 (.q 56 XT.done))))))))))))))))))))))))))))))))))))))))))))))))))))))))) (by kernel_rfl) (by kernel_rfl) ?_
    refine q_fa fa_60_0 rfl rfl rfl ?_
    refine q_ld 1 Try.isAgg3 rfl rfl rfl rfl rfl ?_
    refine q_fa fa_60_0 rfl rfl rfl ?_
    refine q_ld 0 Try.isAgg3 rfl rfl rfl rfl rfl ?_
    refine q_ne rfl rfl rfl rfl ?_
    refine x_F (by simpa using e0) ?_
    refine q_mv rfl rfl rfl ?_
    refine q_fa fa_60_1 rfl rfl rfl ?_
    refine q_ld 1 Try.isAgg3 rfl rfl rfl rfl rfl ?_
    refine q_fa fa_60_1 rfl rfl rfl ?_
    refine q_ld 0 Try.isAgg3 rfl rfl rfl rfl rfl ?_
    refine q_ne rfl rfl rfl rfl ?_
    refine x_F (by simpa using e1) ?_
    refine q_pkF rfl rfl rfl rfl ?_
    refine q_mv rfl rfl rfl ?_
    refine q_fa fa_60_2 rfl rfl rfl ?_
    refine q_ld 1 Try.isAgg3 rfl rfl rfl rfl rfl ?_
    refine q_fa fa_60_2 rfl rfl rfl ?_
    refine q_ld 0 Try.isAgg3 rfl rfl rfl rfl rfl ?_
    refine q_ne rfl rfl rfl rfl ?_
    refine x_T (by simpa using e2) ?_
    refine q_pkF rfl rfl rfl rfl ?_
    refine q_mv rfl rfl rfl ?_
    iterate 5 refine q_skip rfl rfl ?_
    refine q_pkT rfl rfl rfl rfl ?_
    refine q_mv rfl rfl rfl ?_
    iterate 5 refine q_skip rfl rfl ?_
    refine q_pkT rfl rfl rfl rfl ?_
    refine q_mv rfl rfl rfl ?_
    iterate 5 refine q_skip rfl rfl ?_
    refine q_pkT rfl rfl rfl rfl ?_
    refine q_mv rfl rfl rfl ?_
    iterate 4 refine q_skip rfl rfl ?_
    refine h_skip rfl rfl ?_
    refine q_skip rfl rfl ?_
    refine q_pkT rfl rfl rfl rfl ?_
    refine q_mv rfl rfl rfl ?_
    iterate 7 refine q_skip rfl rfl ?_
    refine q_pkT rfl rfl rfl rfl ?_
    refine x_end ?_
    refine nk_cut (e' := [(0, _), (1, _), (2, _), (3, _), (4, _), (62, _)]) [0, 1, 2, 3, 4, 62] rfl ?_
    refine nk_seq ?_
    refine ew_true rfl ?_
    refine ew_seq ?_
    refine rg (.q 0 XT.done) (by kernel_rfl) (by kernel_rfl) ?_
    refine q_as (sv := .b false) rfl rfl rfl ?_
    refine x_end ?_
    refine nk_cut (e' := [(0, _), (1, _), (2, _), (3, _), (4, _), (62, _)]) [0, 1, 2, 3, 4, 62] rfl ?_
    refine nk_seq ?_
    refine ew_retS rfl rfl (.cons (.tmp rfl) .nil) ?_
    exact ⟨congrArg SV.b (by (try simp only [Classical.not_not, ne_eq] at *); simp [An.v, *]), rfl, rfl⟩
   ·skip
    by_cases e3 : ¬ a.root = b.root
    ·skip
     refine rg (.q 0 (.q 1 (.q 2 (.q 3 (.q 4 (.q 5 (.q 6 (.q 7 (.q 8 (.q 9 (.q 10 (.q 11 (.q 12 (.q 13 (.q 14 (.q 15 (.q 16 (.q 17 (.q 18 (.q 19 (.q 20 (.q 21 (.q 22 (.q 23 (.q 24 (.q 25 (.q 26 (.q 27 (.q 28 (.q 29 (.q 30 (.q 31 (.q 32 (.q 33 (.q 34 (.q 35 (.q 36 (.q 37 (.q 38 (.q 39 (.q 40 (.q 41 (.q 42 (.q 43 (.q 44 (.h 45 (.q 46 (.q 47 (.q 48 (.q 49 (.q 50 (.q 51 (.q 52 (.q 53 (.q 54 (.q 55 (.q 56 XT.done))))))))))))))))))))))))))))))))))))))))))))))))))))))))) (by kernel_rfl) (by kernel_rfl) ?_
     refine q_fa fa_60_0 rfl rfl rfl ?_
     refine q_ld 1 Try.isAgg3 rfl rfl rfl rfl rfl ?_
     refine q_fa fa_60_0 rfl rfl rfl ?_
     refine q_ld 0 Try.isAgg3 rfl rfl rfl rfl rfl ?_
     refine q_ne rfl rfl rfl rfl ?_
     refine x_F (by simpa using e0) ?_
     refine q_mv rfl rfl rfl ?_
     refine q_fa fa_60_1 rfl rfl rfl ?_
     refine q_ld 1 Try.isAgg3 rfl rfl rfl rfl rfl ?_
     refine q_fa fa_60_1 rfl rfl rfl ?_
     refine q_ld 0 Try.isAgg3 rfl rfl rfl rfl rfl ?_
     refine q_ne rfl rfl rfl rfl ?_
     refine x_F (by simpa using e1) ?_
     refine q_pkF rfl rfl rfl rfl ?_
     refine q_mv rfl rfl rfl ?_
     refine q_fa fa_60_2 rfl rfl rfl ?_
     refine q_ld 1 Try.isAgg3 rfl rfl rfl rfl rfl ?_
     refine q_fa fa_60_2 rfl rfl rfl ?_
     refine q_ld 0 Try.isAgg3 rfl rfl rfl rfl rfl ?_
     refine q_ne rfl rfl rfl rfl ?_
     refine x_F (by simpa using e2) ?_
     refine q_pkF rfl rfl rfl rfl ?_
     refine q_mv rfl rfl rfl ?_
     refine q_fa fa_60_3 rfl rfl rfl ?_
     refine q_ld 1 Try.isAgg3 rfl rfl rfl rfl rfl ?_
     refine q_fa fa_60_3 rfl rfl rfl ?_
     refine q_ld 0 Try.isAgg3 rfl rfl rfl rfl rfl ?_
     refine q_ne rfl rfl rfl rfl ?_
     refine x_T (by simpa using e3) ?_
     refine q_pkF rfl rfl rfl rfl ?_
     refine q_mv rfl rfl rfl ?_
     iterate 5 refine q_skip rfl rfl ?_
     refine q_pkT rfl rfl rfl rfl ?_
     refine q_mv rfl rfl rfl ?_
     iterate 5 refine q_skip rfl rfl ?_
     refine q_pkT rfl rfl rfl rfl ?_
     refine q_mv rfl rfl rfl ?_
     iterate 4 refine q_skip rfl rfl ?_
     refine h_skip rfl rfl ?_
     refine q_skip rfl rfl ?_
     refine q_pkT rfl rfl rfl rfl ?_
     refine q_mv rfl rfl rfl ?_
     iterate 7 refine q_skip rfl rfl ?_
     refine q_pkT rfl rfl rfl rfl ?_
     refine x_end ?_
     refine nk_cut (e' := [(0, _), (1, _), (2, _), (3, _), (4, _), (62, _)]) [0, 1, 2, 3, 4, 62] rfl ?_
     refine nk_seq ?_
     refine ew_true rfl ?_
     refine ew_seq ?_
     refine rg (.q 0 XT.done) (by kernel_rfl) (by kernel_rfl) ?_
     refine q_as (sv := .b false) rfl rfl rfl ?_
     refine x_end ?_
     refine nk_cut (e' := [(0, _), (1, _), (2, _), (3, _), (4, _), (62, _)]) [0, 1, 2, 3, 4, 62] rfl ?_
     refine nk_seq ?_
     refine ew_retS rfl rfl (.cons (.tmp rfl) .nil) ?_
     exact ⟨congrArg SV.b (by (try simp only [Classical.not_not, ne_eq] at *); simp [An.v, *]), rfl, rfl⟩
    ·skip
     by_cases e4 : ¬ a.rep = b.rep
     ·skip
      refine rg (.q 0 (.q 1 (.q 2 (.q 3 (.q 4 (.q 5 (.q 6 (.q 7 (.q 8 (.q 9 (.q 10 (.q 11 (.q 12 (.q 13 (.q 14 (.q 15 (.q 16 (.q 17 (.q 18 (.q 19 (.q 20 (.q 21 (.q 22 (.q 23 (.q 24 (.q 25 (.q 26 (.q 27 (.q 28 (.q 29 (.q 30 (.q 31 (.q 32 (.q 33 (.q 34 (.q 35 (.q 36 (.q 37 (.q 38 (.q 39 (.q 40 (.q 41 (.q 42 (.q 43 (.q 44 (.h 45 (.q 46 (.q 47 (.q 48 (.q 49 (.q 50 (.q 51 (.q 52 (.q 53 (.q 54 (.q 55 (.q 56 XT.done))))))))))))))))))))))))))))))))))))))))))))))))))))))))) (by kernel_rfl) (by kernel_rfl) ?_
      refine q_fa fa_60_0 rfl rfl rfl ?_
      refine q_ld 1 Try.isAgg3 rfl rfl rfl rfl rfl ?_
      refine q_fa fa_60_0 rfl rfl rfl ?_
      refine q_ld 0 Try.isAgg3 rfl rfl rfl rfl rfl ?_
      refine q_ne rfl rfl rfl rfl ?_
      refine x_F (by simpa using e0) ?_
      refine q_mv rfl rfl rfl ?_
      refine q_fa fa_60_1 rfl rfl rfl ?_
      refine q_ld 1 Try.isAgg3 rfl rfl rfl rfl rfl ?_
      refine q_fa fa_60_1 rfl rfl rfl ?_
      refine q_ld 0 Try.isAgg3 rfl rfl rfl rfl rfl ?_
      refine q_ne rfl rfl rfl rfl ?_
      refine x_F (by simpa using e1) ?_
      refine q_pkF rfl rfl rfl rfl ?_
      refine q_mv rfl rfl rfl ?_
      refine q_fa fa_60_2 rfl rfl rfl ?_
      refine q_ld 1 Try.isAgg3 rfl rfl rfl rfl rfl ?_
      refine q_fa fa_60_2 rfl rfl rfl ?_
      refine q_ld 0 Try.isAgg3 rfl rfl rfl rfl rfl ?_
      refine q_ne rfl rfl rfl rfl ?_
      refine x_F (by simpa using e2) ?_
      refine q_pkF rfl rfl rfl rfl ?_
      refine q_mv rfl rfl rfl ?_
      refine q_fa fa_60_3 rfl rfl rfl ?_
      refine q_ld 1 Try.isAgg3 rfl rfl rfl rfl rfl ?_
      refine q_fa fa_60_3 rfl rfl rfl ?_
      refine q_ld 0 Try.isAgg3 rfl rfl rfl rfl rfl ?_
      refine q_ne rfl rfl rfl rfl ?_
      refine x_F (by simpa using e3) ?_
      refine q_pkF rfl rfl rfl rfl ?_
      refine q_mv rfl rfl rfl ?_
      refine q_fa fa_60_4 rfl rfl rfl ?_
      refine q_ld 1 Try.isAgg3 rfl rfl rfl rfl rfl ?_
      refine q_fa fa_60_4 rfl rfl rfl ?_
      refine q_ld 0 Try.isAgg3 rfl rfl rfl rfl rfl ?_
      refine q_ne rfl rfl rfl rfl ?_
      refine x_T (by simpa using e4) ?_
      refine q_pkF rfl rfl rfl rfl ?_
      refine q_mv rfl rfl rfl ?_
      iterate 5 refine q_skip rfl rfl ?_
      refine q_pkT rfl rfl rfl rfl ?_
      refine q_mv rfl rfl rfl ?_
      iterate 4 refine q_skip rfl rfl ?_
      refine h_skip rfl rfl ?_
      refine q_skip rfl rfl ?_
      refine q_pkT rfl rfl rfl rfl ?_
      refine q_mv rfl rfl rfl ?_
      iterate 7 refine q_skip rfl rfl ?_
      refine q_pkT rfl rfl rfl rfl ?_
      refine x_end ?_
      refine nk_cut (e' := [(0, _), (1, _), (2, _), (3, _), (4, _), (62, _)]) [0, 1, 2, 3, 4, 62] rfl ?_
      refine nk_seq ?_
      refine ew_true rfl ?_
      refine ew_seq ?_
      refine rg (.q 0 XT.done) (by kernel_rfl) (by kernel_rfl) ?_
      refine q_as (sv := .b false) rfl rfl rfl ?_
      refine x_end ?_
      refine nk_cut (e' := [(0, _), (1, _), (2, _), (3, _), (4, _), (62, _)]) [0, 1, 2, 3, 4, 62] rfl ?_
      refine nk_seq ?_
      refine ew_retS rfl rfl (.cons (.tmp rfl) .nil) ?_
      exact ⟨congrArg SV.b (by (try simp only [Classical.not_not, ne_eq] at *); simp [An.v, *]), rfl, rfl⟩
     ·skip
      by_cases e5 : ¬ a.pending = b.pending
      ·skip
       refine rg (.q 0 (.q 1 (.q 2 (.q 3 (.q 4 (.q 5 (.q 6 (.q 7 (.q 8 (.q 9 (.q 10 (.q 11 (.q 12 (.q 13 (.q 14 (.q 15 (.q 16 (.q 17 (.q 18 (.q 19 (.q 20 (.q 21 (.q 22 (.q 23 (.q 24 (.q 25 (.q 26 (.q 27 (.q 28 (.q 29 (.q 30 (.q 31 (.q 32 (.q 33 (.q 34 (.q 35 (.q 36 (.q 37 (.q 38 (.q 39 (.q 40 (.q 41 (.q 42 (.q 43 (.q 44 (.h 45 (.q 46 (.q 47 (.q 48 (.q 49 (.q 50 (.q 51 (.q 52 (.q 53 (.q 54 (.q 55 (.q 56 XT.done))))))))))))))))))))))))))))))))))))))))))))))))))))))))) (by kernel_rfl) (by kernel_rfl) ?_
       refine q_fa fa_60_0 rfl rfl rfl ?_
       refine q_ld 1 Try.isAgg3 rfl rfl rfl rfl rfl ?_
       refine q_fa fa_60_0 rfl rfl rfl ?_
       refine q_ld 0 Try.isAgg3 rfl rfl rfl rfl rfl ?_
       refine q_ne rfl rfl rfl rfl ?_
       refine x_F (by simpa using e0) ?_
       refine q_mv rfl rfl rfl ?_
       refine q_fa fa_60_1 rfl rfl rfl ?_
       refine q_ld 1 Try.isAgg3 rfl rfl rfl rfl rfl ?_
       refine q_fa fa_60_1 rfl rfl rfl ?_
       refine q_ld 0 Try.isAgg3 rfl rfl rfl rfl rfl ?_
       refine q_ne rfl rfl rfl rfl ?_
       refine x_F (by simpa using e1) ?_
       refine q_pkF rfl rfl rfl rfl ?_
       refine q_mv rfl rfl rfl ?_
       refine q_fa fa_60_2 rfl rfl rfl ?_
       refine q_ld 1 Try.isAgg3 rfl rfl rfl rfl rfl ?_
       refine q_fa fa_60_2 rfl rfl rfl ?_
       refine q_ld 0 Try.isAgg3 rfl rfl rfl rfl rfl ?_
       refine q_ne rfl rfl rfl rfl ?_
       refine x_F (by simpa using e2) ?_
       refine q_pkF rfl rfl rfl rfl ?_
       refine q_mv rfl rfl rfl ?_
       refine q_fa fa_60_3 rfl rfl rfl ?_
       refine q_ld 1 Try.isAgg3 rfl rfl rfl rfl rfl ?_
       refine q_fa fa_60_3 rfl rfl rfl ?_
       refine q_ld 0 Try.isAgg3 rfl rfl rfl rfl rfl ?_
       refine q_ne rfl rfl rfl rfl ?_
       refine x_F (by simpa using e3) ?_
       refine q_pkF rfl rfl rfl rfl ?_
       refine q_mv rfl rfl rfl ?_
       refine q_fa fa_60_4 rfl rfl rfl ?_
       refine q_ld 1 Try.isAgg3 rfl rfl rfl rfl rfl ?_
       refine q_fa fa_60_4 rfl rfl rfl ?_
       refine q_ld 0 Try.isAgg3 rfl rfl rfl rfl rfl ?_
       refine q_ne rfl rfl rfl rfl ?_
       refine x_F (by simpa using e4) ?_
       refine q_pkF rfl rfl rfl rfl ?_
       refine q_mv rfl rfl rfl ?_
       refine q_fa fa_60_5 rfl rfl rfl ?_
       refine q_ld 1 Try.isAgg3 rfl rfl rfl rfl rfl ?_
       refine q_fa fa_60_5 rfl rfl rfl ?_
       refine q_ld 0 Try.isAgg3 rfl rfl rfl rfl rfl ?_
       refine q_ne rfl rfl rfl rfl ?_
       refine x_T (by simpa using e5) ?_
       refine q_pkF rfl rfl rfl rfl ?_
       refine q_mv rfl rfl rfl ?_
       iterate 4 refine q_skip rfl rfl ?_
       refine h_skip rfl rfl ?_
       refine q_skip rfl rfl ?_
       refine q_pkT rfl rfl rfl rfl ?_
       refine q_mv rfl rfl rfl ?_
       iterate 7 refine q_skip rfl rfl ?_
       refine q_pkT rfl rfl rfl rfl ?_
       refine x_end ?_
       refine nk_cut (e' := [(0, _), (1, _), (2, _), (3, _), (4, _), (62, _)]) [0, 1, 2, 3, 4, 62] rfl ?_
       refine nk_seq ?_
       refine ew_true rfl ?_
       refine ew_seq ?_
       refine rg (.q 0 XT.done) (by kernel_rfl) (by kernel_rfl) ?_
       refine q_as (sv := .b false) rfl rfl rfl ?_
       refine x_end ?_
       refine nk_cut (e' := [(0, _), (1, _), (2, _), (3, _), (4, _), (62, _)]) [0, 1, 2, 3, 4, 62] rfl ?_
       refine nk_seq ?_
       refine ew_retS rfl rfl (.cons (.tmp rfl) .nil) ?_
       exact ⟨congrArg SV.b (by (try simp only [Classical.not_not, ne_eq] at *); simp [An.v, *]), rfl, rfl⟩
      ·skip
       by_cases e6 : a.m.xs = b.m.xs
       ·skip
        refine rg (.q 0 (.q 1 (.q 2 (.q 3 (.q 4 (.q 5 (.q 6 (.q 7 (.q 8 (.q 9 (.q 10 (.q 11 (.q 12 (.q 13 (.q 14 (.q 15 (.q 16 (.q 17 (.q 18 (.q 19 (.q 20 (.q 21 (.q 22 (.q 23 (.q 24 (.q 25 (.q 26 (.q 27 (.q 28 (.q 29 (.q 30 (.q 31 (.q 32 (.q 33 (.q 34 (.q 35 (.q 36 (.q 37 (.q 38 (.q 39 (.q 40 (.q 41 (.q 42 (.q 43 (.q 44 (.h 45 (.q 46 (.q 47 (.q 48 (.q 49 (.q 50 (.q 51 (.q 52 (.q 53 (.q 54 (.q 55 (.q 56 XT.done))))))))))))))))))))))))))))))))))))))))))))))))))))))))) (by kernel_rfl) (by kernel_rfl) ?_
        refine q_fa fa_60_0 rfl rfl rfl ?_
        refine q_ld 1 Try.isAgg3 rfl rfl rfl rfl rfl ?_
        refine q_fa fa_60_0 rfl rfl rfl ?_
        refine q_ld 0 Try.isAgg3 rfl rfl rfl rfl rfl ?_
        refine q_ne rfl rfl rfl rfl ?_
        refine x_F (by simpa using e0) ?_
        refine q_mv rfl rfl rfl ?_
        refine q_fa fa_60_1 rfl rfl rfl ?_
        refine q_ld 1 Try.isAgg3 rfl rfl rfl rfl rfl ?_
        refine q_fa fa_60_1 rfl rfl rfl ?_
        refine q_ld 0 Try.isAgg3 rfl rfl rfl rfl rfl ?_
        refine q_ne rfl rfl rfl rfl ?_
        refine x_F (by simpa using e1) ?_
        refine q_pkF rfl rfl rfl rfl ?_
        refine q_mv rfl rfl rfl ?_
        refine q_fa fa_60_2 rfl rfl rfl ?_
        refine q_ld 1 Try.isAgg3 rfl rfl rfl rfl rfl ?_
        refine q_fa fa_60_2 rfl rfl rfl ?_
        refine q_ld 0 Try.isAgg3 rfl rfl rfl rfl rfl ?_
        refine q_ne rfl rfl rfl rfl ?_
        refine x_F (by simpa using e2) ?_
        refine q_pkF rfl rfl rfl rfl ?_
        refine q_mv rfl rfl rfl ?_
        refine q_fa fa_60_3 rfl rfl rfl ?_
        refine q_ld 1 Try.isAgg3 rfl rfl rfl rfl rfl ?_
        refine q_fa fa_60_3 rfl rfl rfl ?_
        refine q_ld 0 Try.isAgg3 rfl rfl rfl rfl rfl ?_
        refine q_ne rfl rfl rfl rfl ?_
        refine x_F (by simpa using e3) ?_
        refine q_pkF rfl rfl rfl rfl ?_
        refine q_mv rfl rfl rfl ?_
        refine q_fa fa_60_4 rfl rfl rfl ?_
        refine q_ld 1 Try.isAgg3 rfl rfl rfl rfl rfl ?_
        refine q_fa fa_60_4 rfl rfl rfl ?_
        refine q_ld 0 Try.isAgg3 rfl rfl rfl rfl rfl ?_
        refine q_ne rfl rfl rfl rfl ?_
        refine x_F (by simpa using e4) ?_
        refine q_pkF rfl rfl rfl rfl ?_
        refine q_mv rfl rfl rfl ?_
        refine q_fa fa_60_5 rfl rfl rfl ?_
        refine q_ld 1 Try.isAgg3 rfl rfl rfl rfl rfl ?_
        refine q_fa fa_60_5 rfl rfl rfl ?_
        refine q_ld 0 Try.isAgg3 rfl rfl rfl rfl rfl ?_
        refine q_ne rfl rfl rfl rfl ?_
        refine x_F (by simpa using e5) ?_
        refine q_pkF rfl rfl rfl rfl ?_
        refine q_mv rfl rfl rfl ?_
        refine q_fa fa_60_6 rfl rfl rfl ?_
        refine q_ld 1 Try.isAgg26 rfl rfl rfl rfl rfl ?_
        refine q_fa fa_60_6 rfl rfl rfl ?_
        refine q_ld 0 Try.isAgg26 rfl rfl rfl rfl rfl ?_
        refine h_call0 Try.call24 rfl rfl rfl (RSame_hc ha.m hb.m (by omega)) ?_
        rintro r_ S_ H hl1 ⟨rfl, rfl, rfl⟩
        refine ⟨kp0, ?_⟩
        refine x_S (S' := [_, _]) rfl ?_
        refine q_not rfl rfl rfl ?_
        refine x_F (by simp [e6]) ?_
        refine q_pkF rfl rfl rfl rfl ?_
        refine q_mv rfl rfl rfl ?_
        refine q_fa fa_60_7 rfl rfl rfl ?_
        refine q_ld 1 Try.isAgg58 rfl rfl rfl rfl rfl ?_
        refine q_len Try.underlying58 rfl rfl rfl ?_
        refine q_fa fa_60_7 rfl rfl rfl ?_
        refine q_ld 0 Try.isAgg58 rfl rfl rfl rfl rfl ?_
        refine q_len Try.underlying58 rfl rfl rfl ?_
        refine q_ne rfl rfl rfl rfl ?_
        refine q_pkF rfl rfl rfl rfl ?_
        refine x_end ?_
        refine nk_cut (e' := [(0, _), (1, _), (2, _), (3, _), (4, _), (62, _)]) [0, 1, 2, 3, 4, 62] rfl ?_
        refine nk_seq ?_
        refine ew_cond rfl ?_ ?_
        ·intro hc62
         try simp only [decide_eq_true_eq] at hc62
         refine ew_seq ?_
         refine rg (.q 0 XT.done) (by kernel_rfl) (by kernel_rfl) ?_
         refine q_as (sv := .b false) rfl rfl rfl ?_
         refine x_end ?_
         refine nk_cut (e' := [(0, _), (1, _), (2, _), (3, _), (4, _), (62, _)]) [0, 1, 2, 3, 4, 62] rfl ?_
         refine nk_seq ?_
         refine ew_retS rfl rfl (.cons (.tmp rfl) .nil) ?_
         have hkl := kv_len (show ¬ a.ks.length = b.ks.length by omega)
         exact ⟨congrArg SV.b (by (try simp only [Classical.not_not, ne_eq] at *); simp [An.v, *]), rfl, rfl⟩
        ·intro hc62
         try simp only [decide_eq_false_iff_not] at hc62
         refine ew_skip ?_
         refine nk_seq ?_
         refine ew_seq ?_
         refine ew_seq ?_
         refine rg (.q 0 XT.done) (by kernel_rfl) (by kernel_rfl) ?_
         refine q_as (sv := .i 0) rfl rfl rfl ?_
         refine x_end ?_
         refine nk_cut (e' := [(0, _), (1, _), (2, _), (3, _), (4, _), (5, _), (62, _)]) [0, 1, 2, 3, 4, 5, 62] rfl ?_
         refine nk_seq ?_
         refine ew_block ?_
         let Ev1 : Nat → Env := fun k => [(5, .i (k : Int))]
         let Gv1 : Nat → Hp → Prop := fun k H' => H = H' ∧ (k ≤ a.n ∧ (a.ks.take k).map Kk.v = (b.ks.take k).map Kk.v)
         let Mv1 : Nat → Nat := fun k => a.n - k
         refine ew_loop (mkE [(0, _), (1, _), (2, _), (3, _), (4, _), (62, _)] Ev1) (mkS [_, _] (fun _ => [])) Gv1 Mv1 (0 : Nat) ⟨rfl, rfl, rfl, rfl, rfl, rfl, rfl, trivial⟩ rfl ⟨rfl, ⟨by omega, rfl⟩⟩ ?_
         rintro k H' ⟨rfl, hG⟩
         obtain ⟨hk, hkd⟩ := hG
         refine ew_S (S' := [_, _]) rfl ?_
         refine ew_cut (e' := [(5, _), (0, _), (1, _), (2, _), (3, _), (4, _), (62, _)]) [5, 0, 1, 2, 3, 4, 62] rfl ?_
         refine ew_seq ?_
         refine ew_seq ?_
         refine rg (.q 0 (.q 1 (.q 2 (.q 3 (.q 4 XT.done))))) (by kernel_rfl) (by kernel_rfl) ?_
         refine q_mv rfl rfl rfl ?_
         refine q_fa fa_60_7 rfl rfl rfl ?_
         refine q_ld 1 Try.isAgg58 rfl rfl rfl rfl rfl ?_
         refine q_len Try.underlying58 rfl rfl rfl ?_
         refine q_lt rfl rfl rfl rfl ?_
         refine x_end ?_
         refine nk_cut (e' := [(0, _), (1, _), (2, _), (3, _), (4, _), (5, _), (62, _), (67, _)]) [0, 1, 2, 3, 4, 5, 62, 67] rfl ?_
         refine nk_seq ?_
         refine ew_cond rfl ?_ ?_
         ·intro hc67
          try simp only [decide_eq_true_eq] at hc67
          refine ew_skip ?_
          refine nk_seq ?_
          refine ew_seq ?_
          refine ew_block ?_
          refine ew_seq ?_
          by_cases c1 : ¬ (a.ks.getD k default).b = (b.ks.getD k default).b
          ·skip
           refine rd (by kernel_rfl) [0, 1, 2, 3, 4, 5, 6, 7, 8, 9, 10, 11, 12, 13, 14, 15, 16, 17, 18, 19, 20, 21, 22, 23, 24, 25, 26, 27, 28, 29, 30, 31, 32, 33, 34, 35, 36, 37, 38, 39, 40, 42, 43] [0, 1, 2, 3, 4, 5, 6, 7, 8, 9, 10, 11, 12, 13, 14, 15, 16, 17, 18, 19, 20, 21, 22, 23, 24, 25, 26, 27, 28, 29, 30, 31, 32, 33, 34, 35, 36, 37, 38, 39, 40, 41, 42, 43] (.q 0 (.q 1 (.q 2 (.q 3 (.q 4 (.q 5 (.q 6 (.q 7 (.q 8 (.q 9 (.q 10 (.q 11 (.q 12 (.q 13 (.q 14 (.q 15 (.q 16 (.q 17 (.q 18 (.q 19 (.q 20 (.q 21 (.q 22 (.q 23 (.q 24 (.q 25 (.q 26 (.q 27 (.q 28 (.q 29 (.q 30 (.q 31 (.q 32 (.q 33 (.q 34 (.q 35 (.q 36 (.q 37 (.q 38 (.q 39 (.q 40 (.h 41 (.q 42 (.q 43 XT.done)))))))))))))))))))))))))))))))))))))))))))) (by kernel_rfl) (by kernel_rfl) (keepL _ [0, 1]) (keepL_sub _ _) ?_
           refine q_fa fa_60_7 rfl rfl rfl ?_
           refine q_ld 1 Try.isAgg58 rfl rfl rfl rfl rfl ?_
           refine q_mv rfl rfl rfl ?_
           refine q_ixs Try.underlying58 Try.sizeOf153 rfl rfl rfl rfl rfl (ha.ks.ne (by omega)) (by omega) (by omega) ?_
           refine q_fap fa_153_0 rfl rfl rfl ?_
           refine q_ldp Try.isAgg3 rfl rfl rfl (ha.ks.get (j := k) (by omega) 0 _ rfl) ?_
           refine q_fa fa_60_7 rfl rfl rfl ?_
           refine q_ld 0 Try.isAgg58 rfl rfl rfl rfl rfl ?_
           refine q_mv rfl rfl rfl ?_
           refine q_ixs Try.underlying58 Try.sizeOf153 rfl rfl rfl rfl rfl (hb.ks.ne (by omega)) (by omega) (by omega) ?_
           refine q_fap fa_153_0 rfl rfl rfl ?_
           refine q_ldp Try.isAgg3 rfl rfl rfl (hb.ks.get (j := k) (by omega) 0 _ rfl) ?_
           refine q_ne rfl rfl rfl rfl ?_
           refine x_T (by simpa using c1) ?_
           refine q_mv rfl rfl rfl ?_
           iterate 13 refine q_skip rfl rfl ?_
           refine q_pkT rfl rfl rfl rfl ?_
           refine q_mv rfl rfl rfl ?_
           iterate 12 refine q_skip rfl rfl ?_
           refine h_skip rfl rfl ?_
           refine q_skip rfl rfl ?_
           refine q_pkT rfl rfl rfl rfl ?_
           refine x_end ?_
           refine nk_cut (e' := [(0, _), (1, _), (2, _), (3, _), (4, _), (5, _), (62, _), (67, _), (113, _)]) [0, 1, 2, 3, 4, 5, 62, 67, 113] rfl ?_
           refine nk_seq ?_
           refine ew_true rfl ?_
           refine ew_seq ?_
           refine rg (.q 0 XT.done) (by kernel_rfl) (by kernel_rfl) ?_
           refine q_as (sv := .b false) rfl rfl rfl ?_
           refine x_end ?_
           refine nk_cut (e' := [(0, _), (1, _), (2, _), (3, _), (4, _), (5, _), (62, _), (67, _), (113, _)]) [0, 1, 2, 3, 4, 5, 62, 67, 113] rfl ?_
           refine nk_seq ?_
           refine ew_retS rfl rfl (.cons (.tmp rfl) .nil) ?_
           exact ⟨congrArg SV.b (decide_eq_false (kv_ne2 (k := k) (by omega) (by omega) (fun h => c1 (congrArg KekV.b h)))).symm, rfl, rfl⟩
          ·skip
           by_cases c2 : ¬ (a.ks.getD k default).g = (b.ks.getD k default).g
           ·skip
            refine rd (by kernel_rfl) [0, 1, 2, 3, 4, 5, 6, 7, 8, 9, 10, 11, 12, 13, 14, 15, 16, 17, 18, 19, 20, 21, 22, 23, 24, 25, 26, 27, 28, 29, 30, 31, 32, 33, 34, 35, 36, 37, 38, 39, 40, 42, 43] [0, 1, 2, 3, 4, 5, 6, 7, 8, 9, 10, 11, 12, 13, 14, 15, 16, 17, 18, 19, 20, 21, 22, 23, 24, 25, 26, 27, 28, 29, 30, 31, 32, 33, 34, 35, 36, 37, 38, 39, 40, 41, 42, 43] (.q 0 (.q 1 (.q 2 (.q 3 (.q 4 (.q 5 (.q 6 (.q 7 (.q 8 (.q 9 (.q 10 (.q 11 (.q 12 (.q 13 (.q 14 (.q 15 (.q 16 (.q 17 (.q 18 (.q 19 (.q 20 (.q 21 (.q 22 (.q 23 (.q 24 (.q 25 (.q 26 (.q 27 (.q 28 (.q 29 (.q 30 (.q 31 (.q 32 (.q 33 (.q 34 (.q 35 (.q 36 (.q 37 (.q 38 (.q 39 (.q 40 (.h 41 (.q 42 (.q 43 XT.done)))))))))))))))))))))))))))))))))))))))))))) (by kernel_rfl) (by kernel_rfl) (keepL _ [0, 1]) (keepL_sub _ _) ?_
            refine q_fa fa_60_7 rfl rfl rfl ?_
            refine q_ld 1 Try.isAgg58 rfl rfl rfl rfl rfl ?_
            refine q_mv rfl rfl rfl ?_
            refine q_ixs Try.underlying58 Try.sizeOf153 rfl rfl rfl rfl rfl (ha.ks.ne (by omega)) (by omega) (by omega) ?_
            refine q_fap fa_153_0 rfl rfl rfl ?_
            refine q_ldp Try.isAgg3 rfl rfl rfl (ha.ks.get (j := k) (by omega) 0 _ rfl) ?_
            refine q_fa fa_60_7 rfl rfl rfl ?_
            refine q_ld 0 Try.isAgg58 rfl rfl rfl rfl rfl ?_
            refine q_mv rfl rfl rfl ?_
            refine q_ixs Try.underlying58 Try.sizeOf153 rfl rfl rfl rfl rfl (hb.ks.ne (by omega)) (by omega) (by omega) ?_
            refine q_fap fa_153_0 rfl rfl rfl ?_
            refine q_ldp Try.isAgg3 rfl rfl rfl (hb.ks.get (j := k) (by omega) 0 _ rfl) ?_
            refine q_ne rfl rfl rfl rfl ?_
            refine x_F (by simpa using c1) ?_
            refine q_mv rfl rfl rfl ?_
            refine q_fa fa_60_7 rfl rfl rfl ?_
            refine q_ld 1 Try.isAgg58 rfl rfl rfl rfl rfl ?_
            refine q_mv rfl rfl rfl ?_
            refine q_ixs Try.underlying58 Try.sizeOf153 rfl rfl rfl rfl rfl (ha.ks.ne (by omega)) (by omega) (by omega) ?_
            refine q_fap fa_153_1 rfl rfl rfl ?_
            refine q_ldp Try.isAgg3 rfl rfl rfl (ha.ks.get (j := k) (by omega) 1 _ rfl) ?_
            refine q_fa fa_60_7 rfl rfl rfl ?_
            refine q_ld 0 Try.isAgg58 rfl rfl rfl rfl rfl ?_
            refine q_mv rfl rfl rfl ?_
            refine q_ixs Try.underlying58 Try.sizeOf153 rfl rfl rfl rfl rfl (hb.ks.ne (by omega)) (by omega) (by omega) ?_
            refine q_fap fa_153_1 rfl rfl rfl ?_
            refine q_ldp Try.isAgg3 rfl rfl rfl (hb.ks.get (j := k) (by omega) 1 _ rfl) ?_
            refine q_ne rfl rfl rfl rfl ?_
            refine x_T (by simpa using c2) ?_
            refine q_pkF rfl rfl rfl rfl ?_
            refine q_mv rfl rfl rfl ?_
            iterate 12 refine q_skip rfl rfl ?_
            refine h_skip rfl rfl ?_
            refine q_skip rfl rfl ?_
            refine q_pkT rfl rfl rfl rfl ?_
            refine x_end ?_
            refine nk_cut (e' := [(0, _), (1, _), (2, _), (3, _), (4, _), (5, _), (62, _), (67, _), (113, _)]) [0, 1, 2, 3, 4, 5, 62, 67, 113] rfl ?_
            refine nk_seq ?_
            refine ew_true rfl ?_
            refine ew_seq ?_
            refine rg (.q 0 XT.done) (by kernel_rfl) (by kernel_rfl) ?_
            refine q_as (sv := .b false) rfl rfl rfl ?_
            refine x_end ?_
            refine nk_cut (e' := [(0, _), (1, _), (2, _), (3, _), (4, _), (5, _), (62, _), (67, _), (113, _)]) [0, 1, 2, 3, 4, 5, 62, 67, 113] rfl ?_
            refine nk_seq ?_
            refine ew_retS rfl rfl (.cons (.tmp rfl) .nil) ?_
            exact ⟨congrArg SV.b (decide_eq_false (kv_ne2 (k := k) (by omega) (by omega) (fun h => c2 (congrArg KekV.g h)))).symm, rfl, rfl⟩
           ·skip
            refine rd (by kernel_rfl) [0, 1, 2, 3, 4, 5, 6, 7, 8, 9, 10, 11, 12, 13, 14, 15, 16, 17, 18, 19, 20, 21, 22, 23, 24, 25, 26, 27, 28, 29, 30, 31, 32, 33, 34, 35, 36, 37, 38, 39, 40, 42, 43] [0, 1, 2, 3, 4, 5, 6, 7, 8, 9, 10, 11, 12, 13, 14, 15, 16, 17, 18, 19, 20, 21, 22, 23, 24, 25, 26, 27, 28, 29, 30, 31, 32, 33, 34, 35, 36, 37, 38, 39, 40, 41, 42, 43] (.q 0 (.q 1 (.q 2 (.q 3 (.q 4 (.q 5 (.q 6 (.q 7 (.q 8 (.q 9 (.q 10 (.q 11 (.q 12 (.q 13 (.q 14 (.q 15 (.q 16 (.q 17 (.q 18 (.q 19 (.q 20 (.q 21 (.q 22 (.q 23 (.q 24 (.q 25 (.q 26 (.q 27 (.q 28 (.q 29 (.q 30 (.q 31 (.q 32 (.q 33 (.q 34 (.q 35 (.q 36 (.q 37 (.q 38 (.q 39 (.q 40 (.h 41 (.q 42 (.q 43 XT.done)))))))))))))))))))))))))))))))))))))))))))) (by kernel_rfl) (by kernel_rfl) (keepL _ [0, 1]) (keepL_sub _ _) ?_
            refine q_fa fa_60_7 rfl rfl rfl ?_
            refine q_ld 1 Try.isAgg58 rfl rfl rfl rfl rfl ?_
            refine q_mv rfl rfl rfl ?_
            refine q_ixs Try.underlying58 Try.sizeOf153 rfl rfl rfl rfl rfl (ha.ks.ne (by omega)) (by omega) (by omega) ?_
            refine q_fap fa_153_0 rfl rfl rfl ?_
            refine q_ldp Try.isAgg3 rfl rfl rfl (ha.ks.get (j := k) (by omega) 0 _ rfl) ?_
            refine q_fa fa_60_7 rfl rfl rfl ?_
            refine q_ld 0 Try.isAgg58 rfl rfl rfl rfl rfl ?_
            refine q_mv rfl rfl rfl ?_
            refine q_ixs Try.underlying58 Try.sizeOf153 rfl rfl rfl rfl rfl (hb.ks.ne (by omega)) (by omega) (by omega) ?_
            refine q_fap fa_153_0 rfl rfl rfl ?_
            refine q_ldp Try.isAgg3 rfl rfl rfl (hb.ks.get (j := k) (by omega) 0 _ rfl) ?_
            refine q_ne rfl rfl rfl rfl ?_
            refine x_F (by simpa using c1) ?_
            refine q_mv rfl rfl rfl ?_
            refine q_fa fa_60_7 rfl rfl rfl ?_
            refine q_ld 1 Try.isAgg58 rfl rfl rfl rfl rfl ?_
            refine q_mv rfl rfl rfl ?_
            refine q_ixs Try.underlying58 Try.sizeOf153 rfl rfl rfl rfl rfl (ha.ks.ne (by omega)) (by omega) (by omega) ?_
            refine q_fap fa_153_1 rfl rfl rfl ?_
            refine q_ldp Try.isAgg3 rfl rfl rfl (ha.ks.get (j := k) (by omega) 1 _ rfl) ?_
            refine q_fa fa_60_7 rfl rfl rfl ?_
            refine q_ld 0 Try.isAgg58 rfl rfl rfl rfl rfl ?_
            refine q_mv rfl rfl rfl ?_
            refine q_ixs Try.underlying58 Try.sizeOf153 rfl rfl rfl rfl rfl (hb.ks.ne (by omega)) (by omega) (by omega) ?_
            refine q_fap fa_153_1 rfl rfl rfl ?_
            refine q_ldp Try.isAgg3 rfl rfl rfl (hb.ks.get (j := k) (by omega) 1 _ rfl) ?_
            refine q_ne rfl rfl rfl rfl ?_
            refine x_F (by simpa using c2) ?_
            refine q_pkF rfl rfl rfl rfl ?_
            refine q_mv rfl rfl rfl ?_
            refine q_fa fa_60_7 rfl rfl rfl ?_
            refine q_ld 1 Try.isAgg58 rfl rfl rfl rfl rfl ?_
            refine q_mv rfl rfl rfl ?_
            refine q_ixs Try.underlying58 Try.sizeOf153 rfl rfl rfl rfl rfl (ha.ks.ne (by omega)) (by omega) (by omega) ?_
            refine q_fap fa_153_2 rfl rfl rfl ?_
            refine q_ldp Try.isAgg26 rfl rfl rfl (ha.ks.get (j := k) (by omega) 2 _ rfl) ?_
            refine q_fa fa_60_7 rfl rfl rfl ?_
            refine q_ld 0 Try.isAgg58 rfl rfl rfl rfl rfl ?_
            refine q_mv rfl rfl rfl ?_
            refine q_ixs Try.underlying58 Try.sizeOf153 rfl rfl rfl rfl rfl (hb.ks.ne (by omega)) (by omega) (by omega) ?_
            refine q_fap fa_153_2 rfl rfl rfl ?_
            refine q_ldp Try.isAgg26 rfl rfl rfl (hb.ks.get (j := k) (by omega) 2 _ rfl) ?_
            refine h_call0 Try.call24 rfl rfl rfl (RSame_hc (ha.ks.at_ (j := k) (by omega)) (hb.ks.at_ (j := k) (by omega)) (ha.lk.at_ k)) ?_
            rintro r_ S_ H hl2 ⟨rfl, rfl, rfl⟩
            refine ⟨(fun _ => ⟨by first | exact kpL [0, 1] rfl | simp [keepL, nth], HLe.refl _⟩), ?_⟩
            refine x_S (S' := [_, _]) rfl ?_
            refine q_not rfl rfl rfl ?_
            refine q_pkF rfl rfl rfl rfl ?_
            refine x_end ?_
            refine nk_cut (e' := [(0, _), (1, _), (2, _), (3, _), (4, _), (5, _), (62, _), (67, _), (113, _)]) [0, 1, 2, 3, 4, 5, 62, 67, 113] rfl ?_
            refine nk_seq ?_
            refine ew_cond rfl ?_ ?_
            ·intro hc113
             simp only [Bool.not_eq_true', Bool.not_eq_false', decide_eq_true_eq, decide_eq_false_iff_not] at hc113
             refine ew_seq ?_
             refine rg (.q 0 XT.done) (by kernel_rfl) (by kernel_rfl) ?_
             refine q_as (sv := .b false) rfl rfl rfl ?_
             refine x_end ?_
             refine nk_cut (e' := [(0, _), (1, _), (2, _), (3, _), (4, _), (5, _), (62, _), (67, _), (113, _)]) [0, 1, 2, 3, 4, 5, 62, 67, 113] rfl ?_
             refine nk_seq ?_
             refine ew_retS rfl rfl (.cons (.tmp rfl) .nil) ?_
             exact ⟨congrArg SV.b (decide_eq_false (kv_ne2 (k := k) (by omega) (by omega) (fun h => hc113 (congrArg KekV.key h)))).symm, rfl, rfl⟩
            ·intro hc113
             simp only [Bool.not_eq_true', Bool.not_eq_false', decide_eq_true_eq, decide_eq_false_iff_not] at hc113
             have hv : (a.ks.getD k default).v = (b.ks.getD k default).v := by simp only [Classical.not_not] at c1 c2; simp only [Kk.v, c1, c2, hc113]
             refine ew_skip ?_
             refine nk_blk ?_
             refine nk_seq ?_
             refine rg (.q 0 (.q 1 (.q 2 XT.done))) (by kernel_rfl) (by kernel_rfl) ?_
             refine q_mv rfl rfl rfl ?_
             refine q_add rfl rfl rfl rfl (by omega) (by omega) ?_
             refine q_as rfl rfl rfl ?_
             refine x_end ?_
             refine nk_cut (e' := [(0, _), (1, _), (2, _), (3, _), (4, _), (5, _), (62, _), (67, _), (113, _)]) [0, 1, 2, 3, 4, 5, 62, 67, 113] rfl ?_
             refine nk_round (μ := Mv1) (i := k) (S := _) (G := Gv1) (k + 1 : Nat) ?_ ?_ ?_ ?_
             ·exact ⟨rfl, rfl, rfl, rfl, rfl, rfl, rfl, trivial⟩
             ·exact rfl
             ·exact ⟨rfl, ⟨by omega, by rw [kv_snoc (by omega), kv_snoc (by omega), hkd, hv]⟩⟩
             ·dsimp only [Mv1]; omega
         ·intro hc67
          try simp only [decide_eq_false_iff_not] at hc67
          refine ew_exit _ rfl ?_
          refine nk_seq ?_
          refine ew_seq ?_
          refine rg (.q 0 XT.done) (by kernel_rfl) (by kernel_rfl) ?_
          refine q_as (sv := .b true) rfl rfl rfl ?_
          refine x_end ?_
          refine nk_cut (e' := [(0, _), (1, _), (2, _), (3, _), (4, _), (5, _), (62, _), (67, _)]) [0, 1, 2, 3, 4, 5, 62, 67] rfl ?_
          refine nk_seq ?_
          refine ew_retS rfl rfl (.cons (.tmp rfl) .nil) ?_
          have hall := kv_all (n := a.n) (by omega) (by omega) (by omega) hkd
          exact ⟨congrArg SV.b (by (try simp only [Classical.not_not, ne_eq] at *); simp [An.v, *]), rfl, rfl⟩
       ·skip
        refine rg (.q 0 (.q 1 (.q 2 (.q 3 (.q 4 (.q 5 (.q 6 (.q 7 (.q 8 (.q 9 (.q 10 (.q 11 (.q 12 (.q 13 (.q 14 (.q 15 (.q 16 (.q 17 (.q 18 (.q 19 (.q 20 (.q 21 (.q 22 (.q 23 (.q 24 (.q 25 (.q 26 (.q 27 (.q 28 (.q 29 (.q 30 (.q 31 (.q 32 (.q 33 (.q 34 (.q 35 (.q 36 (.q 37 (.q 38 (.q 39 (.q 40 (.q 41 (.q 42 (.q 43 (.q 44 (.h 45 (.q 46 (.q 47 (.q 48 (.q 49 (.q 50 (.q 51 (.q 52 (.q 53 (.q 54 (.q 55 (.q 56 XT.done))))))))))))))))))))))))))))))))))))))))))))))))))))))))) (by kernel_rfl) (by kernel_rfl) ?_
        refine q_fa fa_60_0 rfl rfl rfl ?_
        refine q_ld 1 Try.isAgg3 rfl rfl rfl rfl rfl ?_
        refine q_fa fa_60_0 rfl rfl rfl ?_
        refine q_ld 0 Try.isAgg3 rfl rfl rfl rfl rfl ?_
        refine q_ne rfl rfl rfl rfl ?_
        refine x_F (by simpa using e0) ?_
        refine q_mv rfl rfl rfl ?_
        refine q_fa fa_60_1 rfl rfl rfl ?_
        refine q_ld 1 Try.isAgg3 rfl rfl rfl rfl rfl ?_
        refine q_fa fa_60_1 rfl rfl rfl ?_
        refine q_ld 0 Try.isAgg3 rfl rfl rfl rfl rfl ?_
        refine q_ne rfl rfl rfl rfl ?_
        refine x_F (by simpa using e1) ?_
        refine q_pkF rfl rfl rfl rfl ?_
        refine q_mv rfl rfl rfl ?_
        refine q_fa fa_60_2 rfl rfl rfl ?_
        refine q_ld 1 Try.isAgg3 rfl rfl rfl rfl rfl ?_
        refine q_fa fa_60_2 rfl rfl rfl ?_
        refine q_ld 0 Try.isAgg3 rfl rfl rfl rfl rfl ?_
        refine q_ne rfl rfl rfl rfl ?_
        refine x_F (by simpa using e2) ?_
        refine q_pkF rfl rfl rfl rfl ?_
        refine q_mv rfl rfl rfl ?_
        refine q_fa fa_60_3 rfl rfl rfl ?_
        refine q_ld 1 Try.isAgg3 rfl rfl rfl rfl rfl ?_
        refine q_fa fa_60_3 rfl rfl rfl ?_
        refine q_ld 0 Try.isAgg3 rfl rfl rfl rfl rfl ?_
        refine q_ne rfl rfl rfl rfl ?_
        refine x_F (by simpa using e3) ?_
        refine q_pkF rfl rfl rfl rfl ?_
        refine q_mv rfl rfl rfl ?_
        refine q_fa fa_60_4 rfl rfl rfl ?_
        refine q_ld 1 Try.isAgg3 rfl rfl rfl rfl rfl ?_
        refine q_fa fa_60_4 rfl rfl rfl ?_
        refine q_ld 0 Try.isAgg3 rfl rfl rfl rfl rfl ?_
        refine q_ne rfl rfl rfl rfl ?_
        refine x_F (by simpa using e4) ?_
        refine q_pkF rfl rfl rfl rfl ?_
        refine q_mv rfl rfl rfl ?_
        refine q_fa fa_60_5 rfl rfl rfl ?_
        refine q_ld 1 Try.isAgg3 rfl rfl rfl rfl rfl ?_
        refine q_fa fa_60_5 rfl rfl rfl ?_
        refine q_ld 0 Try.isAgg3 rfl rfl rfl rfl rfl ?_
        refine q_ne rfl rfl rfl rfl ?_
        refine x_F (by simpa using e5) ?_
        refine q_pkF rfl rfl rfl rfl ?_
        refine q_mv rfl rfl rfl ?_
        refine q_fa fa_60_6 rfl rfl rfl ?_
        refine q_ld 1 Try.isAgg26 rfl rfl rfl rfl rfl ?_
        refine q_fa fa_60_6 rfl rfl rfl ?_
        refine q_ld 0 Try.isAgg26 rfl rfl rfl rfl rfl ?_
        refine h_call0 Try.call24 rfl rfl rfl (RSame_hc ha.m hb.m (by omega)) ?_
        rintro r_ S_ H hl3 ⟨rfl, rfl, rfl⟩
        refine ⟨kp0, ?_⟩
        refine x_S (S' := [_, _]) rfl ?_
        refine q_not rfl rfl rfl ?_
        refine x_T (by simp [e6]) ?_
        refine q_pkF rfl rfl rfl rfl ?_
        refine q_mv rfl rfl rfl ?_
        iterate 7 refine q_skip rfl rfl ?_
        refine q_pkT rfl rfl rfl rfl ?_
        refine x_end ?_
        refine nk_cut (e' := [(0, _), (1, _), (2, _), (3, _), (4, _), (62, _)]) [0, 1, 2, 3, 4, 62] rfl ?_
        refine nk_seq ?_
        refine ew_true rfl ?_
        refine ew_seq ?_
        refine rg (.q 0 XT.done) (by kernel_rfl) (by kernel_rfl) ?_
        refine q_as (sv := .b false) rfl rfl rfl ?_
        refine x_end ?_
        refine nk_cut (e' := [(0, _), (1, _), (2, _), (3, _), (4, _), (62, _)]) [0, 1, 2, 3, 4, 62] rfl ?_
        refine nk_seq ?_
        refine ew_retS rfl rfl (.cons (.tmp rfl) .nil) ?_
        exact ⟨congrArg SV.b (by (try simp only [Classical.not_not, ne_eq] at *); simp [An.v, *]), rfl, rfl⟩

end Go.GW
