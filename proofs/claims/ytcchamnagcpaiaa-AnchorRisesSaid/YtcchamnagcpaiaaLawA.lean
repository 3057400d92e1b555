/- Contracts of functions of the loaded program, printed by our own program gen.py. -/
import Derived.Test.YtcchamnagcpaiaaAncF
namespace Go.GW
open Go Go.Proofs


/-- an anchor as it is handed in: of any size -/
structure An.raw (H : Hp) (a : An) : Prop where
  m : a.m.ok H
  ks : KS H a.A a.n a.c a.ks
theorem An.raw.mono {H H' : Hp} {a : An} (h : An.raw H a) (hle : HLe H H') : An.raw H' a := ⟨BS.mono h.m hle, h.ks.mono hle⟩
def lightA (a : An) : Prop := a.m.n ≤ 100 ∧ a.n ≤ 30 ∧ ∀ x ∈ a.ks, x.k.n ≤ 100
instance (a : An) : Decidable (lightA a) := inferInstanceAs (Decidable (_ ∧ _))
theorem An.raw.lt {H : Hp} {a : An} (h : An.raw H a) (l : lightA a) : An.ok H a := by
  have hl := h.ks.len
  exact ⟨h.m, h.ks, by have := l.1; omega, ⟨by have := l.2.1; omega, fun x hx => Nat.le_trans (l.2.2 x hx) (by decide)⟩⟩
theorem An.raw.not3 {H : Hp} {a : An} (h : An.raw H a) {k : Nat} (hk : k < a.n) (hn : ¬ (a.ks.getD k default).k.n ≤ 100) : ¬ lightA a := by
  intro l
  have hl := h.ks.len
  apply hn
  have h2 : a.ks.getD k default = a.ks[k]'(by omega) := by simp [show k < a.ks.length by omega]
  rw [h2]
  exact l.2.2 _ (List.getElem_mem _)
theorem An.raw.yes {H : Hp} {a : An} (h : An.raw H a) (hm : a.m.n ≤ 100) (hn : a.n ≤ 30) (hk : ∀ j, j < a.n → (a.ks.getD j default).k.n ≤ 100) : lightA a := by
  have hl := h.ks.len
  refine ⟨hm, hn, fun x hx => ?_⟩
  obtain ⟨j, hj, rfl⟩ := List.getElem_of_mem hx
  have h1 := hk j (by omega)
  have h2 : a.ks.getD j default = a.ks[j] := by simp [hj]
  rwa [h2] at h1
theorem An.raw.fine {H : Hp} {a : An} (h : An.raw H a) (hm : a.m.n ≤ 100) (hn : a.n ≤ 30) (hk : ∀ j, j < a.n → (a.ks.getD j default).k.n ≤ 100) : An.ok H a := by
  have hl := h.ks.len
  refine ⟨h.m, h.ks, by omega, ⟨by omega, fun x hx => ?_⟩⟩
  obtain ⟨j, hj, rfl⟩ := List.getElem_of_mem hx
  have h1 := hk j (by omega)
  have h2 : a.ks.getD j default = a.ks[j] := by simp [hj]
  rw [h2] at h1
  omega

theorem Light_hc {H : Hp} {a : An} (ha : An.raw H a) :
  HC Try.prog 29 [.agg a.cells] [] H (fun r S' H' => r = .b (decide (lightA a)) ∧ S' = [] ∧ H' = H) := by
 have hkl := ha.ks.len
 refine hc_intro (n := 29) Try.func29 rfl Try.ntmps29 rfl (fun B hB => ?_)
 refine ew_cut (e' := [(0, _)]) [0] rfl ?_
 refine ew_sub (e' := [(0, .agg [_, _, _, _, _, _, _, _])]) ⟨rfl, trivial⟩ ?_
 refine ew_seq ?_
 refine rg (.h 0 (.q 1 XT.done)) (by kernel_rfl) (by kernel_rfl) ?_
 refine h_boxS rfl rfl rfl ?_
 intro g1
 refine ⟨kp0, ?_⟩
 refine q_as (sv := .b false) rfl rfl rfl ?_
 refine x_end ?_
 refine nk_cut (e' := [(0, _), (1, _), (2, _)]) [0, 1, 2] rfl ?_
 refine nk_seq ?_
 refine ew_seq ?_
 refine ew_seq ?_
 by_cases h1 : 100 < (a.m.n : Int)
 ·skip
  refine rg (.q 0 (.q 1 (.q 2 (.q 3 (.q 4 (.q 5 (.q 6 (.q 7 (.q 8 (.q 9 XT.done)))))))))) (by kernel_rfl) (by kernel_rfl) ?_
  refine q_fa fa_60_6 rfl rfl rfl ?_
  refine q_ld 0 Try.isAgg26 rfl rfl rfl rfl rfl ?_
  refine q_len Try.underlying26 rfl rfl rfl ?_
  refine q_gt rfl rfl rfl rfl ?_
  refine x_T (decide_eq_true h1) ?_
  refine q_mv rfl rfl rfl ?_
  iterate 4 refine q_skip rfl rfl ?_
  refine q_pkT rfl rfl rfl rfl ?_
  refine x_end ?_
  refine nk_cut (e' := [(0, _), (1, _), (2, _), (13, _)]) [0, 1, 2, 13] rfl ?_
  refine nk_seq ?_
  refine ew_true rfl ?_
  refine ew_seq ?_
  refine rg (.q 0 XT.done) (by kernel_rfl) (by kernel_rfl) ?_
  refine q_as (sv := .b false) rfl rfl rfl ?_
  refine x_end ?_
  refine nk_cut (e' := [(0, _), (1, _), (2, _), (13, _)]) [0, 1, 2, 13] rfl ?_
  refine nk_seq ?_
  refine ew_retS rfl rfl (.cons (.tmp rfl) .nil) ?_
  exact ⟨congrArg SV.b (decide_eq_false (fun l => by have := l.1; omega)).symm, rfl, rfl⟩
 ·skip
  refine rg (.q 0 (.q 1 (.q 2 (.q 3 (.q 4 (.q 5 (.q 6 (.q 7 (.q 8 (.q 9 XT.done)))))))))) (by kernel_rfl) (by kernel_rfl) ?_
  refine q_fa fa_60_6 rfl rfl rfl ?_
  refine q_ld 0 Try.isAgg26 rfl rfl rfl rfl rfl ?_
  refine q_len Try.underlying26 rfl rfl rfl ?_
  refine q_gt rfl rfl rfl rfl ?_
  refine x_F (decide_eq_false h1) ?_
  refine q_mv rfl rfl rfl ?_
  refine q_fa fa_60_7 rfl rfl rfl ?_
  refine q_ld 0 Try.isAgg58 rfl rfl rfl rfl rfl ?_
  refine q_len Try.underlying58 rfl rfl rfl ?_
  refine q_gt rfl rfl rfl rfl ?_
  refine q_pkF rfl rfl rfl rfl ?_
  refine x_end ?_
  refine nk_cut (e' := [(0, _), (1, _), (2, _), (13, _)]) [0, 1, 2, 13] rfl ?_
  refine nk_seq ?_
  refine ew_cond rfl ?_ ?_
  ·intro hc13
   try simp only [decide_eq_true_eq] at hc13
   refine ew_seq ?_
   refine rg (.q 0 XT.done) (by kernel_rfl) (by kernel_rfl) ?_
   refine q_as (sv := .b false) rfl rfl rfl ?_
   refine x_end ?_
   refine nk_cut (e' := [(0, _), (1, _), (2, _), (13, _)]) [0, 1, 2, 13] rfl ?_
   refine nk_seq ?_
   refine ew_retS rfl rfl (.cons (.tmp rfl) .nil) ?_
   exact ⟨congrArg SV.b (decide_eq_false (fun l => by have := l.2.1; omega)).symm, rfl, rfl⟩
  ·intro hc13
   try simp only [decide_eq_false_iff_not] at hc13
   refine ew_skip ?_
   refine nk_seq ?_
   refine ew_seq ?_
   refine ew_seq ?_
   refine rg (.q 0 XT.done) (by kernel_rfl) (by kernel_rfl) ?_
   refine q_as (sv := .i 0) rfl rfl rfl ?_
   refine x_end ?_
   refine nk_cut (e' := [(0, _), (1, _), (2, _), (3, _), (13, _)]) [0, 1, 2, 3, 13] rfl ?_
   refine nk_seq ?_
   refine ew_block ?_
   let Ev1 : Nat → Env := fun k => [(3, .i (k : Int))]
   let Gv1 : Nat → Hp → Prop := fun k H' => H = H' ∧ (k ≤ a.n ∧ ∀ j, j < k → (a.ks.getD j default).k.n ≤ 100)
   let Mv1 : Nat → Nat := fun k => a.n - k
   refine ew_loop (mkE [(0, _), (1, _), (2, _), (13, _)] Ev1) (mkS [_] (fun _ => [])) Gv1 Mv1 (0 : Nat) ⟨rfl, rfl, rfl, rfl, rfl, trivial⟩ rfl ⟨rfl, ⟨by omega, by omega⟩⟩ ?_
   rintro k H' ⟨rfl, hG⟩
   obtain ⟨hk, hkd⟩ := hG
   refine ew_S (S' := [_]) rfl ?_
   refine ew_cut (e' := [(3, _), (0, _), (1, _), (2, _), (13, _)]) [3, 0, 1, 2, 13] rfl ?_
   refine ew_seq ?_
   refine ew_seq ?_
   refine rg (.q 0 (.q 1 (.q 2 (.q 3 (.q 4 XT.done))))) (by kernel_rfl) (by kernel_rfl) ?_
   refine q_mv rfl rfl rfl ?_
   refine q_fa fa_60_7 rfl rfl rfl ?_
   refine q_ld 0 Try.isAgg58 rfl rfl rfl rfl rfl ?_
   refine q_len Try.underlying58 rfl rfl rfl ?_
   refine q_lt rfl rfl rfl rfl ?_
   refine x_end ?_
   refine nk_cut (e' := [(0, _), (1, _), (2, _), (3, _), (13, _), (18, _)]) [0, 1, 2, 3, 13, 18] rfl ?_
   refine nk_seq ?_
   refine ew_cond rfl ?_ ?_
   ·intro hc18
    try simp only [decide_eq_true_eq] at hc18
    refine ew_skip ?_
    refine nk_seq ?_
    refine ew_seq ?_
    refine ew_block ?_
    refine ew_seq ?_
    refine rg (.q 0 (.q 1 (.q 2 (.q 3 (.q 4 (.q 5 (.q 6 (.q 7 XT.done)))))))) (by kernel_rfl) (by kernel_rfl) ?_
    refine q_fa fa_60_7 rfl rfl rfl ?_
    refine q_ld 0 Try.isAgg58 rfl rfl rfl rfl rfl ?_
    refine q_mv rfl rfl rfl ?_
    refine q_ixs Try.underlying58 Try.sizeOf153 rfl rfl rfl rfl rfl (ha.ks.ne (by omega)) (by omega) (by omega) ?_
    refine q_fap fa_153_2 rfl rfl rfl ?_
    refine q_ldp Try.isAgg26 rfl rfl rfl (ha.ks.get (j := k) (by omega) 2 _ rfl) ?_
    refine q_len Try.underlying26 rfl rfl rfl ?_
    refine q_gt rfl rfl rfl rfl ?_
    refine x_end ?_
    refine nk_cut (e' := [(0, _), (1, _), (2, _), (3, _), (13, _), (18, _), (28, _)]) [0, 1, 2, 3, 13, 18, 28] rfl ?_
    refine nk_seq ?_
    refine ew_cond rfl ?_ ?_
    ·intro hc28
     try simp only [decide_eq_true_eq] at hc28
     refine ew_seq ?_
     refine rg (.q 0 XT.done) (by kernel_rfl) (by kernel_rfl) ?_
     refine q_as (sv := .b false) rfl rfl rfl ?_
     refine x_end ?_
     refine nk_cut (e' := [(0, _), (1, _), (2, _), (3, _), (13, _), (18, _), (28, _)]) [0, 1, 2, 3, 13, 18, 28] rfl ?_
     refine nk_seq ?_
     refine ew_retS rfl rfl (.cons (.tmp rfl) .nil) ?_
     exact ⟨congrArg SV.b (decide_eq_false (ha.not3 (k := k) (by omega) (by omega))).symm, rfl, rfl⟩
    ·intro hc28
     try simp only [decide_eq_false_iff_not] at hc28
     refine ew_skip ?_
     refine nk_blk ?_
     refine nk_seq ?_
     refine rg (.q 0 (.q 1 (.q 2 XT.done))) (by kernel_rfl) (by kernel_rfl) ?_
     refine q_mv rfl rfl rfl ?_
     refine q_add rfl rfl rfl rfl (by omega) (by omega) ?_
     refine q_as rfl rfl rfl ?_
     refine x_end ?_
     refine nk_cut (e' := [(0, _), (1, _), (2, _), (3, _), (13, _), (18, _), (28, _)]) [0, 1, 2, 3, 13, 18, 28] rfl ?_
     refine nk_round (μ := Mv1) (i := k) (S := _) (G := Gv1) (k + 1 : Nat) ?_ ?_ ?_ ?_
     ·exact ⟨rfl, rfl, rfl, rfl, rfl, trivial⟩
     ·exact rfl
     ·exact ⟨rfl, ⟨by omega, fun j hj => (Nat.lt_or_eq_of_le (show j ≤ k by omega)).elim (hkd j) (fun h => by subst h; omega)⟩⟩
     ·dsimp only [Mv1]; omega
   ·intro hc18
    try simp only [decide_eq_false_iff_not] at hc18
    refine ew_exit _ rfl ?_
    refine nk_seq ?_
    refine ew_seq ?_
    refine rg (.q 0 XT.done) (by kernel_rfl) (by kernel_rfl) ?_
    refine q_as (sv := .b true) rfl rfl rfl ?_
    refine x_end ?_
    refine nk_cut (e' := [(0, _), (1, _), (2, _), (3, _), (13, _), (18, _)]) [0, 1, 2, 3, 13, 18] rfl ?_
    refine nk_seq ?_
    refine ew_retS rfl rfl (.cons (.tmp rfl) .nil) ?_
    exact ⟨congrArg SV.b (decide_eq_true (ha.yes (by omega) (by omega) (fun j hj => hkd j (by omega)))).symm, rfl, rfl⟩

end Go.GW
