/- Contracts of functions of the loaded program, printed by our own program gen.py. -/
import Derived.Test.YtcchamnagcpaiaaFldB
import Derived.Test.YtcchamnagcpaiaaAesC
namespace Go.GW
open Go Go.Proofs
set_option linter.unusedSimpArgs false
set_option linter.unusedVariables false


def xorF (a b : List UInt8) : List UInt8 := List.zipWith (· ^^^ ·) a b
theorem xorF_len (a b : List UInt8) : (xorF a b).length = min a.length b.length := by simp [xorF]
theorem xor_range (a b : List UInt8) {n : Nat} (h : n = min a.length b.length) : (List.range n).map (fun i => a.getD i 0 ^^^ b.getD i 0) = xorF a b := by
  subst h
  apply List.ext_getElem
  · simp [xorF]
  · intro i h1 h2
    simp at h1
    simp [xorF, show i < a.length by omega, show i < b.length by omega]

theorem Xor_hc {H : Hp} {A1 A2 : Option Addr} {n1 c1 n2 c2 : Nat} {xs ys : List UInt8} (hx : BS H A1 n1 c1 xs) (hy : BS H A2 n2 c2 ys) (hn : n1 ≤ 1099511627776) :
  HC Try.prog 145 [.sl A1 n1 c1, .sl A2 n2 c2] [] H (fun r S' H' => ∃ A c, r = .sl A (xorF xs ys).length c ∧ S' = [.own A 5 ((xorF xs ys).map SV.u8) (c * 1)] ∧ (xorF xs ys).length ≤ c ∧ H' = H) := by
 have hlx := hx.len
 have hly := hy.len
 refine hc_intro (n := 32) Try.func145 rfl Try.ntmps145 rfl (fun B hB => ?_)
 refine ew_cut (e' := [(0, _), (1, _)]) [0, 1] rfl ?_
 refine ew_seq ?_
 refine rg (.q 0 XT.done) (by kernel_rfl) (by kernel_rfl) ?_
 refine q_as (sv := .sl none 0 0) rfl rfl rfl ?_
 refine x_end ?_
 refine nk_cut (e' := [(0, _), (1, _), (4, _)]) [0, 1, 4] rfl ?_
 refine nk_seq ?_
 refine ew_seq ?_
 refine rg (.q 0 (.q 1 (.q 2 (.q 3 (.q 4 (.h 5 (.q 6 XT.done))))))) (by kernel_rfl) (by kernel_rfl) ?_
 refine q_mv rfl rfl rfl ?_
 refine q_len Try.underlying26 rfl rfl rfl ?_
 refine q_mv rfl rfl rfl ?_
 refine q_len Try.underlying26 rfl rfl rfl ?_
 refine q_min rfl rfl rfl rfl ?_
 refine h_mk (z := .u8 0) Try.underlying26 info_5 rfl rfl rfl rfl rfl rfl rfl (by omega) (by omega) (by simp only [by_5]; omega) (by omega) ?_
 intro g1
 refine ⟨kp0, ?_⟩
 refine q_as rfl rfl rfl ?_
 refine x_end ?_
 refine nk_cut (e' := [(0, _), (1, _), (4, _), (5, _)]) [0, 1, 4, 5] rfl ?_
 refine nk_seq ?_
 refine ew_seq ?_
 refine ew_seq ?_
 refine rg (.q 0 (.q 1 (.q 2 XT.done))) (by kernel_rfl) (by kernel_rfl) ?_
 refine q_mv rfl rfl rfl ?_
 refine q_len Try.underlying26 rfl rfl rfl ?_
 refine q_mv (sv := .i 0) rfl rfl rfl ?_
 refine x_end ?_
 refine nk_cut (e' := [(0, _), (1, _), (4, _), (5, _), (14, _), (15, _)]) [0, 1, 4, 5, 14, 15] rfl ?_
 refine nk_seq ?_
 refine ew_block ?_
 let Ev1 : Nat → Env := fun k => [(15, .i (k : Int))]
 let Sv1 : Nat → Res := fun k => [.own (some ⟨g1, 0, none⟩) 5 ((pl (fun i => xs.getD i 0 ^^^ ys.getD i 0) z8 (min (n1 : Int) (n2 : Int)).toNat k).map SV.u8) (min (n1 : Int) (n2 : Int)).toNat]
 let Gv1 : Nat → Hp → Prop := fun k H' => H = H' ∧ (k ≤ (min (n1 : Int) (n2 : Int)).toNat)
 let Mv1 : Nat → Nat := fun k => (min (n1 : Int) (n2 : Int)).toNat - k
 refine ew_loop (mkE [(0, _), (1, _), (4, _), (5, _), (14, _)] Ev1) (Sv1) Gv1 Mv1 (0 : Nat) ⟨rfl, rfl, rfl, rfl, rfl, rfl, trivial⟩ (by dsimp only [Sv1]; rw [pl_zero, show (List.range (min (n1 : Int) (n2 : Int)).toNat).map z8 = List.replicate (min (n1 : Int) (n2 : Int)).toNat 0 from range_rep 0 _, List.map_replicate]) ⟨rfl, (by omega)⟩ ?_
 rintro k H' ⟨rfl, hG⟩
 have hpl := pl_len (fun i => xs.getD i 0 ^^^ ys.getD i 0) z8 (min (n1 : Int) (n2 : Int)).toNat k
 refine ew_S (S' := [_]) rfl ?_
 refine ew_cut (e' := [(15, _), (0, _), (1, _), (4, _), (5, _), (14, _)]) [15, 0, 1, 4, 5, 14] rfl ?_
 refine ew_seq ?_
 refine rg (.q 0 XT.done) (by kernel_rfl) (by kernel_rfl) ?_
 refine q_lt rfl rfl rfl rfl ?_
 refine x_end ?_
 refine nk_cut (e' := [(0, _), (1, _), (4, _), (5, _), (14, _), (15, _), (16, _)]) [0, 1, 4, 5, 14, 15, 16] rfl ?_
 refine nk_seq ?_
 refine ew_seq ?_
 refine ew_cond rfl ?_ ?_
 ·intro hc16
  try simp only [decide_eq_true_eq] at hc16
  refine ew_skip ?_
  refine nk_seq ?_
  refine ew_seq ?_
  refine ew_block ?_
  refine ew_seq ?_
  refine rg (.q 0 (.q 1 XT.done)) (by kernel_rfl) (by kernel_rfl) ?_
  refine q_mv rfl rfl rfl ?_
  refine q_as rfl rfl rfl ?_
  refine x_end ?_
  refine nk_cut (e' := [(0, _), (1, _), (4, _), (5, _), (6, _), (14, _), (15, _), (16, _)]) [0, 1, 4, 5, 6, 14, 15, 16] rfl ?_
  refine nk_seq ?_
  refine rd (by kernel_rfl) [0, 1, 2, 3, 4, 5, 6, 7, 8, 9, 10, 11] [0, 1, 2, 3, 4, 5, 6, 7, 8, 9, 10, 11] (.q 0 (.q 1 (.q 2 (.q 3 (.q 4 (.q 5 (.q 6 (.q 7 (.q 8 (.q 9 (.q 10 (.q 11 (.h 12 XT.done))))))))))))) (by kernel_rfl) (by kernel_rfl) (keepL _ []) (keepL_sub _ _) ?_
  iterate 4 refine q_mv rfl rfl rfl ?_
  refine q_ixs1 Try.underlying26 Try.sizeOf5 rfl rfl rfl rfl rfl (hx.ne (by omega)) (by omega) (by omega) ?_
  refine q_ldp Try.isAgg5 rfl rfl rfl (hx.cell (j := k) (by omega)) ?_
  refine q_mv rfl rfl rfl ?_
  refine q_mv rfl rfl rfl ?_
  refine q_ixs1 Try.underlying26 Try.sizeOf5 rfl rfl rfl rfl rfl (hy.ne (by omega)) (by omega) (by omega) ?_
  refine q_ldp Try.isAgg5 rfl rfl rfl (hy.cell (j := k) (by omega)) ?_
  refine q_xor_u8 rfl rfl rfl rfl ?_
  refine q_ixs1 Try.underlying26 Try.sizeOf5 rfl rfl rfl rfl rfl rfl (by omega) (by omega) ?_
  refine h_sto (cs' := ((pl (fun i => xs.getD i 0 ^^^ ys.getD i 0) z8 (min (n1 : Int) (n2 : Int)).toNat (k + 1)).map SV.u8)) (S' := [_]) 0 Try.sizeOf5 rfl rfl rfl rfl rfl rfl (by rw [List.length_map, hpl]; omega) (setM SV.u8 (pl_set _ _ rfl)) rfl (fun h => absurd h (by decide)) ?_
  refine x_end ?_
  refine nk_cut (e' := [(0, _), (1, _), (4, _), (5, _), (6, _), (14, _), (15, _), (16, _)]) [0, 1, 4, 5, 6, 14, 15, 16] rfl ?_
  refine nk_blk ?_
  refine nk_seq ?_
  refine rg (.q 0 (.q 1 XT.done)) (by kernel_rfl) (by kernel_rfl) ?_
  refine q_add rfl rfl rfl rfl (by omega) (by omega) ?_
  refine q_mv rfl rfl rfl ?_
  refine x_end ?_
  refine nk_cut (e' := [(0, _), (1, _), (4, _), (5, _), (6, _), (14, _), (15, _), (16, _)]) [0, 1, 4, 5, 6, 14, 15, 16] rfl ?_
  refine nk_round (μ := Mv1) (i := k) (S := Sv1) (G := Gv1) (k + 1 : Nat) ?_ ?_ ?_ ?_
  ·exact ⟨rfl, rfl, rfl, rfl, rfl, rfl, trivial⟩
  ·exact rfl
  ·exact ⟨rfl, by omega⟩
  ·dsimp only [Mv1]; omega
 ·intro hc16
  try simp only [decide_eq_false_iff_not] at hc16
  have hk : k = (min (n1 : Int) (n2 : Int)).toNat := by omega
  subst hk
  refine ew_exit _ rfl ?_
  refine nk_seq ?_
  refine ew_seq ?_
  refine rg (.q 0 (.q 1 XT.done)) (by kernel_rfl) (by kernel_rfl) ?_
  refine q_mv rfl rfl rfl ?_
  refine q_as rfl rfl rfl ?_
  refine x_end ?_
  refine nk_cut (e' := [(0, _), (1, _), (4, _), (5, _), (14, _), (15, _), (16, _)]) [0, 1, 4, 5, 14, 15, 16] rfl ?_
  refine nk_seq ?_
  refine ew_retk 0 rfl rfl (.cons (.tmp rfl) .nil) rfl rfl ?_
  have hxl := xorF_len xs ys
  rw [pl_all _ _ (Nat.le_refl _), xor_range xs ys (by omega)]
  exact ⟨_, _, congrArg (fun z => SV.sl _ z _) (by omega), by rw [Nat.mul_one], by omega, rfl⟩


theorem drop_more (b : List UInt8) {j n : Nat} (hn : (b.drop (16 * j)).length = n) : (b.drop (16 * j)).drop (min (n : Int) 16).toNat = b.drop (16 * (j + 1)) := by
  rw [List.drop_drop]
  rw [List.length_drop] at hn
  by_cases h : 16 ≤ n
  · congr 1; omega
  · rw [List.drop_of_length_le (by omega), List.drop_of_length_le (by omega)]
theorem take_more (b : List UInt8) {j n : Nat} (hn : (b.drop (16 * j)).length = n) : (b.drop (16 * j)).take (min (n : Int) 16).toNat = (b.drop (16 * j)).take 16 := by
  by_cases h : 16 ≤ n
  · congr 1; omega
  · rw [List.take_of_length_le (by omega), List.take_of_length_le (by omega)]

theorem ElHash_hc {H : Hp} {gh : Nat} {h y : El} {A0 : Option Addr} {n0 c0 : Nat} {b : List UInt8} (ht : TabE H gh h) (hb : BS H A0 n0 c0 b) :
  HC Try.prog 147 [.p ⟨gh, 0, none⟩, .agg y.cells, .sl A0 n0 c0] [] H (fun r S' H' => r = .agg (hashF h y b).cells ∧ S' = [] ∧ HLe H H') := by
 have hbl := hb.len
 refine hc_intro (n := 26) Try.func147 rfl Try.ntmps147 rfl (fun B hB => ?_)
 refine ew_cut (e' := [(0, _), (1, _), (2, _)]) [0, 1, 2] rfl ?_
 refine ew_sub (e' := [(0, _), (1, .agg [_, _]), (2, _)]) ⟨rfl, rfl, rfl, trivial⟩ ?_
 refine ew_seq ?_
 refine rg (.h 0 (.h 1 XT.done)) (by kernel_rfl) (by kernel_rfl) ?_
 refine h_boxS rfl rfl rfl ?_
 intro g1
 refine ⟨kp0, ?_⟩
 refine h_alloc (cs := [_, _]) Try.zeroValue187 rfl rfl (zc_187 Try.zeroValue187) ?_
 intro g2
 refine ⟨kp0, ?_⟩
 refine x_end ?_
 refine nk_cut (e' := [(0, _), (1, _), (2, _), (4, _), (6, _)]) [0, 1, 2, 4, 6] rfl ?_
 refine nk_seq ?_
 refine ew_seq ?_
 refine ew_block ?_
 let Ev1 : Nat × Option Addr × Nat × Nat → Env := fun ⟨j, A, n, c⟩ => [(2, .sl A n c)]
 let Sv1 : Nat × Option Addr × Nat × Nat → Res := fun ⟨j, A, n, c⟩ => [.box g2 187 [.u64 0, .u64 0], .box g1 187 (hashK h y b j).cells]
 let Gv1 : Nat × Option Addr × Nat × Nat → Hp → Prop := fun ⟨j, A, n, c⟩ H' => HLe H H' ∧ (BS H' A n c (b.drop (16 * j)) ∧ j ≤ (b.length + 15) / 16)
 let Mv1 : Nat × Option Addr × Nat × Nat → Nat := fun ⟨j, A, n, c⟩ => n
 refine ew_loop (mkE [(0, _), (1, _), (4, _), (6, _)] Ev1) (Sv1) Gv1 Mv1 (⟨0, A0, n0, c0⟩ : Nat × Option Addr × Nat × Nat) ⟨rfl, rfl, rfl, rfl, rfl, trivial⟩ rfl ⟨HLe.refl _, ⟨by rw [Nat.mul_zero, List.drop_zero]; exact hb, by omega⟩⟩ ?_
 rintro ⟨j, A, n, c⟩ Hl1 ⟨hl1, hG⟩
 replace ht := ht.mono hl1
 replace hb := hb.mono hl1
 obtain ⟨hbj, hj⟩ := hG
 have hjl := hbj.len
 have hjc := hbj.cap
 have hjd : (b.drop (16 * j)).length = b.length - 16 * j := List.length_drop
 refine ew_S (S' := [_, .box _ _ [_, _]]) rfl ?_
 refine ew_S (S' := [_, _]) rfl ?_
 refine ew_cut (e' := [(2, _), (0, _), (1, _), (4, _), (6, _)]) [2, 0, 1, 4, 6] rfl ?_
 refine ew_seq ?_
 refine ew_seq ?_
 refine rg (.q 0 (.q 1 (.q 2 XT.done))) (by kernel_rfl) (by kernel_rfl) ?_
 refine q_mv rfl rfl rfl ?_
 refine q_len Try.underlying26 rfl rfl rfl ?_
 refine q_gt rfl rfl rfl rfl ?_
 refine x_end ?_
 refine nk_cut (e' := [(0, _), (1, _), (2, _), (4, _), (6, _), (10, _)]) [0, 1, 2, 4, 6, 10] rfl ?_
 refine nk_seq ?_
 refine ew_cond rfl ?_ ?_
 ·intro hc10
  try simp only [decide_eq_true_eq] at hc10
  refine ew_skip ?_
  refine nk_seq ?_
  refine ew_block ?_
  refine ew_seq ?_
  refine rg (.q 0 (.q 1 (.q 2 (.q 3 XT.done)))) (by kernel_rfl) (by kernel_rfl) ?_
  refine q_mv rfl rfl rfl ?_
  refine q_len Try.underlying26 rfl rfl rfl ?_
  refine q_min rfl rfl rfl rfl ?_
  refine q_as rfl rfl rfl ?_
  refine x_end ?_
  refine nk_cut (e' := [(0, _), (1, _), (2, _), (4, _), (6, _), (7, _), (10, _)]) [0, 1, 2, 4, 6, 7, 10] rfl ?_
  refine nk_seq ?_
  refine ew_seq ?_
  refine rd (by kernel_rfl) [0, 1, 2, 3, 4] [0, 1, 2, 3, 4, 5, 6] (.q 0 (.q 1 (.q 2 (.q 3 (.q 4 (.h 5 (.h 6 (.h 7 (.h 8 XT.done))))))))) (by kernel_rfl) (by kernel_rfl) (keepL _ [1]) (keepL_sub _ _) ?_
  refine q_mv rfl rfl rfl ?_
  refine q_ldS 0 Try.isAgg187 Try.sizeOf187 rfl rfl rfl rfl rfl ?_
  refine q_mv rfl rfl rfl ?_
  refine q_mv rfl rfl rfl ?_
  refine q_sl_h Try.underlying26 Try.sizeOf5 rfl rfl rfl rfl (by omega) (by omega) ?_
  have hcf := ElFrom_hc (hbj.take (m := (min (n : Int) 16).toNat) (by omega))
  rw [take_more b hjl] at hcf
  refine h_call0 Try.call106 rfl rfl rfl (hcf) ?_
  rintro r_ S_ Hn1 hl2 ⟨rfl, rfl, hle1⟩
  replace ht := ht.mono hl2
  replace hb := hb.mono hl2
  replace hbj := hbj.mono hl2
  refine ⟨(fun _ => ⟨by first | exact kpL [1] rfl | simp [keepL, nth], hl2⟩), ?_⟩
  refine x_S (S' := [_, _]) rfl ?_
  refine h_call0 Try.call143 rfl rfl rfl (ElAdd_hc (a := hashK h y b j) (b := El.of ((b.drop (16 * j)).take 16))) ?_
  rintro r_ S_ Hn1 hl3 ⟨rfl, rfl, rfl⟩
  refine ⟨(fun _ => ⟨by first | exact kpL [1] rfl | simp [keepL, nth], hl2⟩), ?_⟩
  refine x_S (S' := [_, _]) rfl ?_
  refine h_call0 Try.call161 rfl rfl rfl (ElTimes_hc (e := (hashK h y b j).add (El.of ((b.drop (16 * j)).take 16))) ht) ?_
  rintro r_ S_ Hn1 hl4 ⟨rfl, rfl, rfl⟩
  refine ⟨(fun h => absurd h (by decide)), ?_⟩
  refine x_S (S' := [_, _]) rfl ?_
  refine h_stS (cs' := (hashK h y b (j + 1)).cells) (S' := [_, _]) 1 Try.sizeOf187 rfl rfl rfl rfl rfl (allOne rfl) rfl (leb rfl) rfl rfl (fun h => absurd h (by decide)) ?_
  refine x_end ?_
  refine nk_cut (e' := [(0, _), (1, _), (2, _), (4, _), (6, _), (7, _), (10, _)]) [0, 1, 2, 4, 6, 7, 10] rfl ?_
  refine nk_seq ?_
  refine rg (.q 0 (.q 1 (.q 2 (.q 3 XT.done)))) (by kernel_rfl) (by kernel_rfl) ?_
  refine q_mv rfl rfl rfl ?_
  refine q_mv rfl rfl rfl ?_
  refine q_sl_l Try.underlying26 Try.sizeOf5 rfl rfl rfl rfl (by omega) (by omega) ?_
  refine q_as rfl rfl rfl ?_
  refine x_end ?_
  refine nk_cut (e' := [(0, _), (1, _), (2, _), (4, _), (6, _), (7, _), (10, _)]) [0, 1, 2, 4, 6, 7, 10] rfl ?_
  refine nk_blk ?_
  refine nk_round (μ := Mv1) (i := (j, A, n, c)) (S := Sv1) (G := Gv1) (⟨j + 1, cutA A c (min (n : Int) 16).toNat 1, n - (min (n : Int) 16).toNat, c - (min (n : Int) 16).toNat⟩ : Nat × Option Addr × Nat × Nat) ?_ ?_ ?_ ?_
  ·exact ⟨rfl, rfl, rfl, rfl, rfl, trivial⟩
  ·exact rfl
  ·exact ⟨(hl1.trans hl2), ⟨by have h := hbj.drop (L := (min (n : Int) 16).toNat) (by omega); rwa [drop_more b hjl] at h, by omega⟩⟩
  ·dsimp only [Mv1]; omega
 ·intro hc10
  try simp only [decide_eq_false_iff_not] at hc10
  have hjj : j = (b.length + 15) / 16 := by omega
  subst hjj
  refine ew_exit _ rfl ?_
  refine nk_seq ?_
  refine ew_seq ?_
  refine rg (.q 0 (.h 1 XT.done)) (by kernel_rfl) (by kernel_rfl) ?_
  refine q_ldS 1 Try.isAgg187 Try.sizeOf187 rfl rfl rfl rfl rfl ?_
  refine h_stS (cs' := [_, _]) (S' := [_, _]) 0 Try.sizeOf187 rfl rfl rfl rfl rfl (allOne rfl) rfl (leb rfl) rfl rfl kp0 ?_
  refine x_end ?_
  refine nk_cut (e' := [(0, _), (1, _), (2, _), (4, _), (6, _), (10, _)]) [0, 1, 2, 4, 6, 10] rfl ?_
  refine nk_seq ?_
  refine ew_retS rfl rfl (.cons (.agg 0 Try.isAgg187 Try.sizeOf187 rfl rfl rfl) .nil) ?_
  exact ⟨rfl, rfl, hl1⟩

end Go.GW
