/- Contracts of functions of the loaded program, printed by our own program gen.py. -/
import Derived.Test.YtcchamnagcpaiaaRefB
namespace Go.GW
open Go Go.Proofs
set_option linter.unusedSimpArgs false
set_option linter.unusedVariables false


structure WP (H : Hp) (ps : List Sli) (ws : List (List UInt8)) : Prop where
  xs : ps.map (·.xs) = ws
  ok : ∀ p ∈ ps, p.ok H
  four : ∀ w ∈ ws, w.length = 4
theorem WP.mono {H H' : Hp} {ps : List Sli} {ws : List (List UInt8)} (h : WP H ps ws) (hle : HLe H H') : WP H' ps ws := ⟨h.xs, fun p hp => BS.mono (h.ok p hp) hle, h.four⟩
theorem WP.nil {H : Hp} : WP H [] [] := ⟨rfl, by simp, by simp⟩
theorem WP.len {H : Hp} {ps : List Sli} {ws : List (List UInt8)} (h : WP H ps ws) : ps.length = ws.length := by rw [← h.xs, List.length_map]
theorem WP.snoc {H : Hp} {ps : List Sli} {ws ws' : List (List UInt8)} (h : WP H ps ws) {A : Option Addr} {n c : Nat} {w : List UInt8} (hb : BS H A n c w) (h4 : w.length = 4) (he : ws ++ [w] = ws') : WP H (ps ++ [⟨A, n, c, w⟩]) ws' := by
  subst he
  refine ⟨by rw [List.map_append, h.xs]; rfl, fun p hp => ?_, fun x hx => ?_⟩
  · rcases List.mem_append.1 hp with hp | hp
    · exact h.ok p hp
    · simp only [List.mem_singleton] at hp; subst hp; exact hb
  · rcases List.mem_append.1 hx with hx | hx
    · exact h.four x hx
    · simp only [List.mem_singleton] at hx; subst hx; exact h4
theorem WP.at_ {H : Hp} {ps : List Sli} {ws : List (List UInt8)} (h : WP H ps ws) {j : Nat} (hj : j < ps.length) : BS H (ps.getD j default).A (ps.getD j default).n (ps.getD j default).c (ws.getD j []) ∧ (ws.getD j []).length = 4 := by
  have e0 : ps.getD j default = ps[j] := by simp [hj]
  have e : (ps.getD j default).xs = ws.getD j [] := by
    rw [← h.xs]
    simp [hj]
  have hb : BS H (ps.getD j default).A (ps.getD j default).n (ps.getD j default).c (ps.getD j default).xs := by rw [e0]; exact h.ok _ (List.getElem_mem hj)
  rw [e] at hb
  refine ⟨hb, h.four _ ?_⟩
  rw [← e, e0, ← h.xs]
  exact List.mem_map.2 ⟨_, List.getElem_mem hj, rfl⟩
theorem WP.cell {H : Hp} {ps : List Sli} {ws : List (List UInt8)} (_ : WP H ps ws) {k j : Nat} (hk : k = j) (hj : j < ps.length) : (ps.map Sli.sv)[k]? = some (.sl (ps.getD j default).A (ps.getD j default).n (ps.getD j default).c) := by
  subst hk
  simp [hj, Sli.sv]
theorem WP.ws {H : Hp} {ps : List Sli} {ws : List (List UInt8)} (h : WP H ps ws) {A : Option Addr} {n c : Nat} (hr : RR H A (ps.map Sli.sv)) (hn : ws.length = n) (hc : n ≤ c) : WS H A n c ws ps := ⟨⟨hr, by rw [h.len, hn], hc, h.ok⟩, h.xs, h.four⟩
def key4 (key : List UInt8) (j : Nat) : List UInt8 := (key.drop (4 * j)).take 4
def bxa (bx x : List UInt8) (j : Nat) : UInt8 := bx.getD (x.getD j 0).toNat 0
def turnR (bx x : List UInt8) (r : UInt8) : List UInt8 := [bxa bx x 1 ^^^ r, bxa bx x 2, bxa bx x 3, bxa bx x 0]
def subR (bx x : List UInt8) : List UInt8 := [bxa bx x 0, bxa bx x 1, bxa bx x 2, bxa bx x 3]
/-- the word ahead, as it is taken in -/
def wmid (bx x : List UInt8) (r : UInt8) (i : Nat) : List UInt8 := if (8 + i) % 8 = 0 then turnR bx x r else if (8 + i) % 8 = 4 then subR bx x else x
def wr (bx key : List UInt8) : Nat → List (List UInt8) × UInt8
  | 0 => (rgf (key4 key) 8, 1)
  | i + 1 => ((wr bx key i).1 ++ [bothR ((wr bx key i).1.getD i []) (wmid bx ((wr bx key i).1.getD (i + 7) []) (wr bx key i).2 i)], if (8 + i) % 8 = 0 then timesR (wr bx key i).2 2 else (wr bx key i).2)
theorem wr_len (bx key : List UInt8) (i : Nat) : (wr bx key i).1.length = 8 + i := by
  induction i with
  | zero => exact rgf_len _ _
  | succ i ih => rw [wr, List.length_append, ih]; rfl

theorem RWords_hc {H : Hp} {A1 A2 : Option Addr} {c1 c2 : Nat} {bx key : List UInt8} (hbx : BS H A1 256 c1 bx) (hk : BS H A2 32 c2 key) :
  HC Try.prog 113 [.sl A1 256 c1, .sl A2 32 c2] [] H (fun z S' H' => ∃ A c ps, z = .sl A 60 c ∧ S' = [] ∧ WS H' A 60 c (wr bx key 52).1 ps ∧ HLe H H') := by
 have hkl := hk.len
 have hkc := hk.cap
 refine hc_intro (n := 104) Try.func113 rfl Try.ntmps113 rfl (fun B hB => ?_)
 refine ew_cut (e' := [(0, _), (1, _)]) [0, 1] rfl ?_
 refine ew_seq ?_
 refine rg (.q 0 XT.done) (by kernel_rfl) (by kernel_rfl) ?_
 refine q_as (sv := .sl none 0 0) rfl rfl rfl ?_
 refine x_end ?_
 refine nk_cut (e' := [(0, _), (1, _), (4, _)]) [0, 1, 4] rfl ?_
 refine nk_seq ?_
 refine ew_seq ?_
 refine rg (.q 0 XT.done) (by kernel_rfl) (by kernel_rfl) ?_
 refine q_as (sv := .sl none 0 0) rfl rfl rfl ?_
 refine x_nil 26 ?_
 refine x_end ?_
 refine nk_cut (e' := [(0, _), (1, _), (4, _), (5, _)]) [0, 1, 4, 5] rfl ?_
 refine nk_seq ?_
 refine ew_seq ?_
 refine ew_seq ?_
 refine rg (.q 0 XT.done) (by kernel_rfl) (by kernel_rfl) ?_
 refine q_as (sv := .i 0) rfl rfl rfl ?_
 refine x_end ?_
 refine nk_cut (e' := [(0, _), (1, _), (4, _), (5, _), (6, _)]) [0, 1, 4, 5, 6] rfl ?_
 refine nk_seq ?_
 refine ew_block ?_
 let Ev1 : Nat × Option Addr × Nat × List Sli → Env := fun ⟨k, A, c, ps⟩ => [(6, .i (k : Int)), (5, .sl A k c)]
 let Sv1 : Nat × Option Addr × Nat × List Sli → Res := fun ⟨k, A, c, ps⟩ => [.own A 26 (ps.map Sli.sv) (c * 1)]
 let Gv1 : Nat × Option Addr × Nat × List Sli → Hp → Prop := fun ⟨k, A, c, ps⟩ H' => HLe H H' ∧ (k ≤ 8 ∧ k ≤ c ∧ WP H' ps (rgf (key4 key) k))
 let Mv1 : Nat × Option Addr × Nat × List Sli → Nat := fun ⟨k, A, c, ps⟩ => 8 - k
 refine ew_loop (mkE [(0, _), (1, _), (4, _)] Ev1) (Sv1) Gv1 Mv1 (⟨0, none, 0, []⟩ : Nat × Option Addr × Nat × List Sli) ⟨rfl, rfl, rfl, rfl, rfl, trivial⟩ rfl ⟨HLe.refl _, ⟨by omega, by omega, WP.nil⟩⟩ ?_
 rintro ⟨k, A, c, ps⟩ Hl1 ⟨hl1, hG⟩
 replace hbx := hbx.mono hl1
 replace hk := hk.mono hl1
 obtain ⟨hk8, hkc2, hwp⟩ := hG
 have hpl := hwp.len
 rw [rgf_len] at hpl
 refine ew_S (S' := [_]) rfl ?_
 refine ew_cut (e' := [(6, _), (5, _), (0, _), (1, _), (4, _)]) [6, 5, 0, 1, 4] rfl ?_
 refine ew_seq ?_
 refine ew_seq ?_
 refine rg (.q 0 (.q 1 XT.done)) (by kernel_rfl) (by kernel_rfl) ?_
 refine q_mv rfl rfl rfl ?_
 refine q_lt rfl rfl rfl rfl ?_
 refine x_end ?_
 refine nk_cut (e' := [(0, _), (1, _), (4, _), (5, _), (6, _), (11, _)]) [0, 1, 4, 5, 6, 11] rfl ?_
 refine nk_seq ?_
 refine ew_cond rfl ?_ ?_
 ·intro hc11
  try simp only [decide_eq_true_eq] at hc11
  have hks : BS Hl1 (cutA A2 c2 (4 * (k : Int)).toNat 1) ((4 * (k : Int) + 4).toNat - (4 * (k : Int)).toNat) (c2 - (4 * (k : Int)).toNat) (key4 key k) := by
   have h := (hk.drop (L := (4 * (k : Int)).toNat) (by omega)).take (m := (4 * (k : Int) + 4).toNat - (4 * (k : Int)).toNat) (by omega)
   have e : (key.drop (4 * (k : Int)).toNat).take ((4 * (k : Int) + 4).toNat - (4 * (k : Int)).toNat) = key4 key k := by
    unfold key4
    rw [show (4 * (k : Int)).toNat = 4 * k by omega, show (4 * (k : Int) + 4).toNat - 4 * k = 4 by omega]
   rwa [e] at h
  refine ew_skip ?_
  refine nk_seq ?_
  refine ew_seq ?_
  refine ew_block ?_
  refine rg (.q 0 (.q 1 (.q 2 (.q 3 (.q 4 (.q 5 (.q 6 (.q 7 (.h 8 (.h 9 (.q 10 XT.done))))))))))) (by kernel_rfl) (by kernel_rfl) ?_
  iterate 3 refine q_mv rfl rfl rfl ?_
  refine q_mul rfl rfl rfl rfl (by omega) (by omega) ?_
  refine q_mv rfl rfl rfl ?_
  refine q_mul rfl rfl rfl rfl (by omega) (by omega) ?_
  refine q_add rfl rfl rfl rfl (by omega) (by omega) ?_
  refine q_sl_lh Try.underlying26 Try.sizeOf5 rfl rfl rfl rfl rfl (by omega) (by omega) (by omega) ?_
  refine h_bs (cs := [_]) Try.underlying77 info_26 rfl rfl rfl rfl rfl rfl rfl rfl rfl (by decide) ?_
  intro g2
  refine ⟨kp0, ?_⟩
  refine h_appO (sz := 1) (S1 := [_]) 0 0 Try.underlying77 info_26 rfl rfl rfl (by decide) rfl rfl rfl rfl rfl rfl rfl rfl (by rw [List.length_map, hpl, Nat.mul_one]) hkc2 rfl (allOne rfl) (by simp only [by_26]; omega) (by omega) ?_
  intro A1 c1 hcap1
  refine ⟨kp0, ?_⟩
  refine x_S (S' := [_]) rfl ?_
  refine q_as rfl rfl rfl ?_
  refine x_end ?_
  refine nk_cut (e' := [(0, _), (1, _), (4, _), (5, _), (6, _), (11, _)]) [0, 1, 4, 5, 6, 11] rfl ?_
  refine nk_blk ?_
  refine nk_seq ?_
  refine rg (.q 0 (.q 1 (.q 2 XT.done))) (by kernel_rfl) (by kernel_rfl) ?_
  refine q_mv rfl rfl rfl ?_
  refine q_add rfl rfl rfl rfl (by omega) (by omega) ?_
  refine q_as rfl rfl rfl ?_
  refine x_end ?_
  refine nk_cut (e' := [(0, _), (1, _), (4, _), (5, _), (6, _), (11, _)]) [0, 1, 4, 5, 6, 11] rfl ?_
  refine nk_round (μ := Mv1) (i := (k, A, c, ps)) (S := Sv1) (G := Gv1) (⟨k + 1, A1, c1, ps ++ [⟨cutA A2 c2 (4 * (k : Int)).toNat 1, (4 * (k : Int) + 4).toNat - (4 * (k : Int)).toNat, c2 - (4 * (k : Int)).toNat, key4 key k⟩]⟩ : Nat × Option Addr × Nat × List Sli) ?_ ?_ ?_ ?_
  ·exact ⟨rfl, rfl, rfl, rfl, rfl, trivial⟩
  ·exact (by dsimp only [Sv1]; rw [List.map_append]; rfl)
  ·exact ⟨hl1, ⟨by omega, by omega, hwp.snoc hks (by unfold key4; rw [List.length_take, List.length_drop]; omega) (rgf_snoc _ rfl)⟩⟩
  ·dsimp only [Mv1]; omega
 ·intro hc11
  try simp only [decide_eq_false_iff_not] at hc11
  have hk88 : k = 8 := by omega
  subst hk88
  refine ew_exit _ rfl ?_
  refine nk_seq ?_
  refine ew_seq ?_
  refine rg (.q 0 XT.done) (by kernel_rfl) (by kernel_rfl) ?_
  refine q_as (sv := .u8 1) rfl rfl rfl ?_
  refine x_end ?_
  refine nk_cut (e' := [(0, _), (1, _), (4, _), (5, _), (6, _), (7, _), (11, _)]) [0, 1, 4, 5, 6, 7, 11] rfl ?_
  refine nk_seq ?_
  refine ew_seq ?_
  refine ew_seq ?_
  refine rg (.q 0 XT.done) (by kernel_rfl) (by kernel_rfl) ?_
  refine q_as (sv := .i 8) rfl rfl rfl ?_
  refine x_end ?_
  refine nk_cut (e' := [(0, _), (1, _), (4, _), (5, _), (6, _), (7, _), (8, _), (11, _)]) [0, 1, 4, 5, 6, 7, 8, 11] rfl ?_
  refine nk_seq ?_
  refine ew_block ?_
  let Ev2 : Nat × Option Addr × Nat × List Sli → Env := fun ⟨i, A, c, ps⟩ => [(8, .i (8 + (i : Int))), (7, .u8 (wr bx key i).2), (5, .sl A (8 + i) c)]
  let Sv2 : Nat × Option Addr × Nat × List Sli → Res := fun ⟨i, A, c, ps⟩ => [.own A 26 (ps.map Sli.sv) (c * 1)]
  let Gv2 : Nat × Option Addr × Nat × List Sli → Hp → Prop := fun ⟨i, A, c, ps⟩ H' => HLe Hl1 H' ∧ (i ≤ 52 ∧ 8 + i ≤ c ∧ WP H' ps (wr bx key i).1)
  let Mv2 : Nat × Option Addr × Nat × List Sli → Nat := fun ⟨i, A, c, ps⟩ => 52 - i
  refine ew_loop (mkE [(0, _), (1, _), (4, _), (11, _)] Ev2) (Sv2) Gv2 Mv2 (⟨0, A, c, ps⟩ : Nat × Option Addr × Nat × List Sli) ⟨congrArg (fun z => some (SV.i z)) (by omega), rfl, rfl, rfl, rfl, rfl, rfl, trivial⟩ rfl ⟨HLe.refl _, ⟨by omega, by omega, hwp⟩⟩ ?_
  rintro ⟨i, A, c, ps⟩ Hl2 ⟨hl2, hG⟩
  replace hbx := hbx.mono hl2
  replace hk := hk.mono hl2
  replace hwp := hwp.mono hl2
  obtain ⟨hi, hic, hwp2⟩ := hG
  have hpl := hwp2.len
  rw [wr_len] at hpl
  obtain ⟨hx0, hx4⟩ := hwp2.at_ (j := i + 7) (by omega)
  obtain ⟨hwi, hw4⟩ := hwp2.at_ (j := i) (by omega)
  have hxn := hx0.len
  have hwn := hwi.len
  refine ew_S (S' := [_]) rfl ?_
  refine ew_cut (e' := [(8, _), (7, _), (5, _), (0, _), (1, _), (4, _), (11, _)]) [8, 7, 5, 0, 1, 4, 11] rfl ?_
  refine ew_seq ?_
  refine ew_seq ?_
  refine rg (.q 0 (.q 1 XT.done)) (by kernel_rfl) (by kernel_rfl) ?_
  refine q_mv rfl rfl rfl ?_
  refine q_lt rfl rfl rfl rfl ?_
  refine x_end ?_
  refine nk_cut (e' := [(0, _), (1, _), (4, _), (5, _), (7, _), (8, _), (11, _), (25, _)]) [0, 1, 4, 5, 7, 8, 11, 25] rfl ?_
  refine nk_seq ?_
  refine ew_cond rfl ?_ ?_
  ·intro hc25
   try simp only [decide_eq_true_eq] at hc25
   refine ew_skip ?_
   refine nk_seq ?_
   refine ew_seq ?_
   refine ew_block ?_
   refine ew_seq ?_
   refine rg (.q 0 (.q 1 (.q 2 (.q 3 (.q 4 (.q 5 XT.done)))))) (by kernel_rfl) (by kernel_rfl) ?_
   refine q_mv rfl rfl rfl ?_
   refine q_mv rfl rfl rfl ?_
   refine q_sub rfl rfl rfl rfl (by omega) (by omega) ?_
   refine x_own 0 rfl (by rw [List.length_map]; omega) ?_
   intro hAs
   refine q_ixs1 Try.underlying77 Try.sizeOf26 rfl rfl rfl rfl rfl hAs (by omega) (by omega) ?_
   refine q_ldo 0 Try.isAgg26 rfl rfl rfl rfl (hwp2.cell (j := i + 7) (by omega) (by omega)) ?_
   refine q_as rfl rfl rfl ?_
   refine x_end ?_
   refine nk_cut (e' := [(0, _), (1, _), (4, _), (5, _), (7, _), (8, _), (9, _), (11, _), (25, _)]) [0, 1, 4, 5, 7, 8, 9, 11, 25] rfl ?_
   refine nk_seq ?_
   refine ew_seq ?_
   refine ew_seq ?_
   refine rg (.q 0 (.q 1 (.q 2 XT.done))) (by kernel_rfl) (by kernel_rfl) ?_
   refine q_mv rfl rfl rfl ?_
   refine q_rem rfl rfl rfl rfl (by omega) (by omega) (by omega) ?_
   refine q_eq rfl rfl rfl rfl ?_
   refine x_end ?_
   refine nk_cut (e' := [(0, _), (1, _), (4, _), (5, _), (7, _), (8, _), (9, _), (11, _), (25, _), (35, _)]) [0, 1, 4, 5, 7, 8, 9, 11, 25, 35] rfl ?_
   refine nk_seq ?_
   refine ew_cond rfl ?_ ?_
   ·intro hc35
    try simp only [decide_eq_true_eq] at hc35
    refine ew_seq ?_
    refine rd (by kernel_rfl) [0, 1, 2, 3, 4, 5, 6, 7, 8, 9, 10, 11, 12, 13, 14, 15, 16, 17, 18, 19, 20, 21, 22, 23, 24, 25, 27] [0, 1, 2, 3, 4, 5, 6, 7, 8, 9, 10, 11, 12, 13, 14, 15, 16, 17, 18, 19, 20, 21, 22, 23, 24, 25, 26, 27] (.q 0 (.q 1 (.q 2 (.q 3 (.q 4 (.q 5 (.q 6 (.q 7 (.q 8 (.q 9 (.q 10 (.q 11 (.q 12 (.q 13 (.q 14 (.q 15 (.q 16 (.q 17 (.q 18 (.q 19 (.q 20 (.q 21 (.q 22 (.q 23 (.q 24 (.q 25 (.h 26 (.q 27 XT.done)))))))))))))))))))))))))))) (by kernel_rfl) (by kernel_rfl) (keepL _ []) (keepL_sub _ _) ?_
    refine q_mv rfl rfl rfl ?_
    refine q_mv rfl rfl rfl ?_
    refine q_ixs1 Try.underlying26 Try.sizeOf5 rfl rfl rfl rfl rfl (hx0.ne (by omega)) (by omega) (by omega) ?_
    refine q_ldp Try.isAgg5 rfl rfl rfl (hx0.cell (j := 1) (by omega)) ?_
    refine q_ixs1 Try.underlying26 Try.sizeOf5 rfl rfl rfl rfl rfl (hbx.ne (by omega)) (by omega) (u8_lt _) ?_
    refine q_ldp Try.isAgg5 rfl rfl rfl (hbx.cell (j := (((wr bx key i).1.getD (i + 7) []).getD 1 0).toNat) (UInt8.toNat_lt _)) ?_
    refine q_mv rfl rfl rfl ?_
    refine q_xor_u8 rfl rfl rfl rfl ?_
    refine q_mv rfl rfl rfl ?_
    refine q_mv rfl rfl rfl ?_
    refine q_ixs1 Try.underlying26 Try.sizeOf5 rfl rfl rfl rfl rfl (hx0.ne (by omega)) (by omega) (by omega) ?_
    refine q_ldp Try.isAgg5 rfl rfl rfl (hx0.cell (j := 2) (by omega)) ?_
    refine q_ixs1 Try.underlying26 Try.sizeOf5 rfl rfl rfl rfl rfl (hbx.ne (by omega)) (by omega) (u8_lt _) ?_
    refine q_ldp Try.isAgg5 rfl rfl rfl (hbx.cell (j := (((wr bx key i).1.getD (i + 7) []).getD 2 0).toNat) (UInt8.toNat_lt _)) ?_
    refine q_mv rfl rfl rfl ?_
    refine q_mv rfl rfl rfl ?_
    refine q_ixs1 Try.underlying26 Try.sizeOf5 rfl rfl rfl rfl rfl (hx0.ne (by omega)) (by omega) (by omega) ?_
    refine q_ldp Try.isAgg5 rfl rfl rfl (hx0.cell (j := 3) (by omega)) ?_
    refine q_ixs1 Try.underlying26 Try.sizeOf5 rfl rfl rfl rfl rfl (hbx.ne (by omega)) (by omega) (u8_lt _) ?_
    refine q_ldp Try.isAgg5 rfl rfl rfl (hbx.cell (j := (((wr bx key i).1.getD (i + 7) []).getD 3 0).toNat) (UInt8.toNat_lt _)) ?_
    refine q_mv rfl rfl rfl ?_
    refine q_mv rfl rfl rfl ?_
    refine q_ixs1 Try.underlying26 Try.sizeOf5 rfl rfl rfl rfl rfl (hx0.ne (by omega)) (by omega) (by omega) ?_
    refine q_ldp Try.isAgg5 rfl rfl rfl (hx0.cell (j := 0) (by omega)) ?_
    refine q_ixs1 Try.underlying26 Try.sizeOf5 rfl rfl rfl rfl rfl (hbx.ne (by omega)) (by omega) (u8_lt _) ?_
    refine q_ldp Try.isAgg5 rfl rfl rfl (hbx.cell (j := (((wr bx key i).1.getD (i + 7) []).getD 0 0).toNat) (UInt8.toNat_lt _)) ?_
    refine h_bs (cs := [_, _, _, _]) Try.underlying26 info_5 rfl rfl rfl rfl rfl rfl rfl rfl rfl (by decide) ?_
    intro g3
    refine ⟨(fun _ => ⟨by first | exact kpL [] rfl | simp [keepL, nth], HLe.refl _⟩), ?_⟩
    refine q_as rfl rfl rfl ?_
    refine x_end ?_
    refine nk_cut (e' := [(0, _), (1, _), (4, _), (5, _), (7, _), (8, _), (9, _), (11, _), (25, _), (35, _)]) [0, 1, 4, 5, 7, 8, 9, 11, 25, 35] rfl ?_
    refine nk_seq ?_
    refine rg (.q 0 (.h 1 (.q 2 XT.done))) (by kernel_rfl) (by kernel_rfl) ?_
    refine q_mv rfl rfl rfl ?_
    refine h_call0 Try.call154 rfl rfl rfl (RTm8_hc) ?_
    rintro r_ S_ Hl2 hl3 ⟨rfl, rfl, rfl⟩
    refine ⟨kp0, ?_⟩
    refine x_S (S' := [_, _]) rfl ?_
    refine q_as rfl rfl rfl ?_
    refine x_end ?_
    refine nk_cut (e' := [(0, _), (1, _), (4, _), (5, _), (7, _), (8, _), (9, _), (11, _), (25, _), (35, _)]) [0, 1, 4, 5, 7, 8, 9, 11, 25, 35] rfl ?_
    refine nk_seq ?_
    refine ew_seq ?_
    refine ew_seq ?_
    refine rg (.q 0 (.q 1 (.q 2 XT.done))) (by kernel_rfl) (by kernel_rfl) ?_
    refine q_mv rfl rfl rfl ?_
    refine q_rem rfl rfl rfl rfl (by omega) (by omega) (by omega) ?_
    refine q_eq rfl rfl rfl rfl ?_
    refine x_end ?_
    refine nk_cut (e' := [(0, _), (1, _), (4, _), (5, _), (7, _), (8, _), (9, _), (11, _), (25, _), (35, _), (67, _)]) [0, 1, 4, 5, 7, 8, 9, 11, 25, 35, 67] rfl ?_
    refine nk_seq ?_
    refine ew_cond rfl ?_ ?_
    ·intro hc67
     try simp only [decide_eq_true_eq] at hc67
     omega
    ·intro hc67
     try simp only [decide_eq_false_iff_not] at hc67
     refine ew_skip ?_
     refine nk_seq ?_
     refine rg (.q 0 (.q 1 (.q 2 (.q 3 (.q 4 (.q 5 (.q 6 (.h 7 (.h 8 (.h 9 (.q 10 XT.done))))))))))) (by kernel_rfl) (by kernel_rfl) ?_
     iterate 3 refine q_mv rfl rfl rfl ?_
     refine q_sub rfl rfl rfl rfl (by omega) (by omega) ?_
     refine x_own 1 rfl (by rw [List.length_map]; omega) ?_
     intro hAs2
     refine q_ixs1 Try.underlying77 Try.sizeOf26 rfl rfl rfl rfl rfl hAs2 (by omega) (by omega) ?_
     refine q_ldo 1 Try.isAgg26 rfl rfl rfl rfl (hwp2.cell (j := i) (by omega) (by omega)) ?_
     refine q_mv rfl rfl rfl ?_
     refine pubX (S' := [_]) 0 rfl rfl ?_
     intro Hp1 hp1 hr1
     replace hbx := hbx.mono hp1
     replace hk := hk.mono hp1
     replace hwp := hwp.mono hp1
     replace hwp2 := hwp2.mono hp1
     replace hx0 := hx0.mono hp1
     replace hwi := hwi.mono hp1
     refine h_call0 Try.call155 rfl rfl rfl (RBoth_hc hwi (BS.of (xs := turnR bx ((wr bx key i).1.getD (i + 7) []) (wr bx key i).2) hr1 rfl (Nat.le_refl 4)) (by omega) (by omega)) ?_
     rintro r_ S_ Hp1 hl4 ⟨A2, c2, rfl, rfl, hcap2, rfl⟩
     refine ⟨kp0, ?_⟩
     refine x_S (S' := [_, _]) rfl ?_
     refine pubX (S' := [_]) 0 rfl rfl ?_
     intro Hp2 hp2 hr2
     replace hbx := hbx.mono hp2
     replace hk := hk.mono hp2
     replace hwp := hwp.mono hp2
     replace hwp2 := hwp2.mono hp2
     replace hx0 := hx0.mono hp2
     replace hwi := hwi.mono hp2
     replace hr1 := hr1.mono hp2
     refine h_bs (cs := [_]) Try.underlying77 info_26 rfl rfl rfl rfl rfl rfl rfl rfl rfl (by decide) ?_
     intro g5
     refine ⟨kp0, ?_⟩
     refine h_appO (sz := 1) (S1 := [_]) 0 0 Try.underlying77 info_26 rfl rfl rfl (by decide) rfl rfl rfl rfl rfl rfl rfl rfl (by rw [List.length_map, hpl, Nat.mul_one]) hic rfl (allOne rfl) (by simp only [by_26]; omega) (by omega) ?_
     intro A3 c3 hcap3
     refine ⟨kp0, ?_⟩
     refine x_S (S' := [_]) rfl ?_
     refine q_as rfl rfl rfl ?_
     refine x_end ?_
     refine nk_cut (e' := [(0, _), (1, _), (4, _), (5, _), (7, _), (8, _), (9, _), (11, _), (25, _), (35, _), (67, _)]) [0, 1, 4, 5, 7, 8, 9, 11, 25, 35, 67] rfl ?_
     refine nk_blk ?_
     refine nk_seq ?_
     refine rg (.q 0 (.q 1 (.q 2 XT.done))) (by kernel_rfl) (by kernel_rfl) ?_
     refine q_mv rfl rfl rfl ?_
     refine q_add rfl rfl rfl rfl (by omega) (by omega) ?_
     refine q_as rfl rfl rfl ?_
     refine x_end ?_
     refine nk_cut (e' := [(0, _), (1, _), (4, _), (5, _), (7, _), (8, _), (9, _), (11, _), (25, _), (35, _), (67, _)]) [0, 1, 4, 5, 7, 8, 9, 11, 25, 35, 67] rfl ?_
     have hwm : wmid bx ((wr bx key i).1.getD (i + 7) []) (wr bx key i).2 i = turnR bx ((wr bx key i).1.getD (i + 7) []) (wr bx key i).2 := if_pos (by omega)
     refine nk_round (μ := Mv2) (i := (i, A, c, ps)) (S := Sv2) (G := Gv2) (⟨i + 1, A3, c3, ps ++ [⟨A2, ((wr bx key i).1.getD i []).length, c2, bothR ((wr bx key i).1.getD i []) (turnR bx ((wr bx key i).1.getD (i + 7) []) (wr bx key i).2)⟩]⟩ : Nat × Option Addr × Nat × List Sli) ?_ ?_ ?_ ?_
     ·exact ⟨congrArg (fun z => some (SV.i z)) (by omega), congrArg (fun z => some (SV.u8 z)) (if_pos (by omega)).symm, congrArg (fun z => some (SV.sl _ z _)) (by omega), rfl, rfl, rfl, rfl, trivial⟩
     ·exact (by dsimp only [Sv2]; rw [List.map_append]; rfl)
     ·exact ⟨((hl2.trans hp1).trans hp2), ⟨by omega, by omega, hwp2.snoc ⟨hr2, bothR_len _ _, hcap2⟩ (by rw [bothR_len]; exact hw4) (by rw [wr, hwm])⟩⟩
     ·dsimp only [Mv2]; omega
   ·intro hc35
    try simp only [decide_eq_false_iff_not] at hc35
    refine ew_skip ?_
    refine nk_seq ?_
    refine ew_seq ?_
    refine ew_seq ?_
    refine rg (.q 0 (.q 1 (.q 2 XT.done))) (by kernel_rfl) (by kernel_rfl) ?_
    refine q_mv rfl rfl rfl ?_
    refine q_rem rfl rfl rfl rfl (by omega) (by omega) (by omega) ?_
    refine q_eq rfl rfl rfl rfl ?_
    refine x_end ?_
    refine nk_cut (e' := [(0, _), (1, _), (4, _), (5, _), (7, _), (8, _), (9, _), (11, _), (25, _), (35, _), (67, _)]) [0, 1, 4, 5, 7, 8, 9, 11, 25, 35, 67] rfl ?_
    refine nk_seq ?_
    refine ew_cond rfl ?_ ?_
    ·intro hc67
     try simp only [decide_eq_true_eq] at hc67
     refine rd (by kernel_rfl) [0, 1, 2, 3, 4, 5, 6, 7, 8, 9, 10, 11, 12, 13, 14, 15, 16, 17, 18, 19, 20, 21, 22, 23, 25] [0, 1, 2, 3, 4, 5, 6, 7, 8, 9, 10, 11, 12, 13, 14, 15, 16, 17, 18, 19, 20, 21, 22, 23, 24, 25] (.q 0 (.q 1 (.q 2 (.q 3 (.q 4 (.q 5 (.q 6 (.q 7 (.q 8 (.q 9 (.q 10 (.q 11 (.q 12 (.q 13 (.q 14 (.q 15 (.q 16 (.q 17 (.q 18 (.q 19 (.q 20 (.q 21 (.q 22 (.q 23 (.h 24 (.q 25 XT.done)))))))))))))))))))))))))) (by kernel_rfl) (by kernel_rfl) (keepL _ []) (keepL_sub _ _) ?_
     refine q_mv rfl rfl rfl ?_
     refine q_mv rfl rfl rfl ?_
     refine q_ixs1 Try.underlying26 Try.sizeOf5 rfl rfl rfl rfl rfl (hx0.ne (by omega)) (by omega) (by omega) ?_
     refine q_ldp Try.isAgg5 rfl rfl rfl (hx0.cell (j := 0) (by omega)) ?_
     refine q_ixs1 Try.underlying26 Try.sizeOf5 rfl rfl rfl rfl rfl (hbx.ne (by omega)) (by omega) (u8_lt _) ?_
     refine q_ldp Try.isAgg5 rfl rfl rfl (hbx.cell (j := (((wr bx key i).1.getD (i + 7) []).getD 0 0).toNat) (UInt8.toNat_lt _)) ?_
     refine q_mv rfl rfl rfl ?_
     refine q_mv rfl rfl rfl ?_
     refine q_ixs1 Try.underlying26 Try.sizeOf5 rfl rfl rfl rfl rfl (hx0.ne (by omega)) (by omega) (by omega) ?_
     refine q_ldp Try.isAgg5 rfl rfl rfl (hx0.cell (j := 1) (by omega)) ?_
     refine q_ixs1 Try.underlying26 Try.sizeOf5 rfl rfl rfl rfl rfl (hbx.ne (by omega)) (by omega) (u8_lt _) ?_
     refine q_ldp Try.isAgg5 rfl rfl rfl (hbx.cell (j := (((wr bx key i).1.getD (i + 7) []).getD 1 0).toNat) (UInt8.toNat_lt _)) ?_
     refine q_mv rfl rfl rfl ?_
     refine q_mv rfl rfl rfl ?_
     refine q_ixs1 Try.underlying26 Try.sizeOf5 rfl rfl rfl rfl rfl (hx0.ne (by omega)) (by omega) (by omega) ?_
     refine q_ldp Try.isAgg5 rfl rfl rfl (hx0.cell (j := 2) (by omega)) ?_
     refine q_ixs1 Try.underlying26 Try.sizeOf5 rfl rfl rfl rfl rfl (hbx.ne (by omega)) (by omega) (u8_lt _) ?_
     refine q_ldp Try.isAgg5 rfl rfl rfl (hbx.cell (j := (((wr bx key i).1.getD (i + 7) []).getD 2 0).toNat) (UInt8.toNat_lt _)) ?_
     refine q_mv rfl rfl rfl ?_
     refine q_mv rfl rfl rfl ?_
     refine q_ixs1 Try.underlying26 Try.sizeOf5 rfl rfl rfl rfl rfl (hx0.ne (by omega)) (by omega) (by omega) ?_
     refine q_ldp Try.isAgg5 rfl rfl rfl (hx0.cell (j := 3) (by omega)) ?_
     refine q_ixs1 Try.underlying26 Try.sizeOf5 rfl rfl rfl rfl rfl (hbx.ne (by omega)) (by omega) (u8_lt _) ?_
     refine q_ldp Try.isAgg5 rfl rfl rfl (hbx.cell (j := (((wr bx key i).1.getD (i + 7) []).getD 3 0).toNat) (UInt8.toNat_lt _)) ?_
     refine h_bs (cs := [_, _, _, _]) Try.underlying26 info_5 rfl rfl rfl rfl rfl rfl rfl rfl rfl (by decide) ?_
     intro g6
     refine ⟨(fun _ => ⟨by first | exact kpL [] rfl | simp [keepL, nth], HLe.refl _⟩), ?_⟩
     refine q_as rfl rfl rfl ?_
     refine x_end ?_
     refine nk_cut (e' := [(0, _), (1, _), (4, _), (5, _), (7, _), (8, _), (9, _), (11, _), (25, _), (35, _), (67, _)]) [0, 1, 4, 5, 7, 8, 9, 11, 25, 35, 67] rfl ?_
     refine nk_seq ?_
     refine rg (.q 0 (.q 1 (.q 2 (.q 3 (.q 4 (.q 5 (.q 6 (.h 7 (.h 8 (.h 9 (.q 10 XT.done))))))))))) (by kernel_rfl) (by kernel_rfl) ?_
     iterate 3 refine q_mv rfl rfl rfl ?_
     refine q_sub rfl rfl rfl rfl (by omega) (by omega) ?_
     refine x_own 1 rfl (by rw [List.length_map]; omega) ?_
     intro hAs2
     refine q_ixs1 Try.underlying77 Try.sizeOf26 rfl rfl rfl rfl rfl hAs2 (by omega) (by omega) ?_
     refine q_ldo 1 Try.isAgg26 rfl rfl rfl rfl (hwp2.cell (j := i) (by omega) (by omega)) ?_
     refine q_mv rfl rfl rfl ?_
     refine pubX (S' := [_]) 0 rfl rfl ?_
     intro Hp3 hp3 hr3
     replace hbx := hbx.mono hp3
     replace hk := hk.mono hp3
     replace hwp := hwp.mono hp3
     replace hwp2 := hwp2.mono hp3
     replace hx0 := hx0.mono hp3
     replace hwi := hwi.mono hp3
     refine h_call0 Try.call155 rfl rfl rfl (RBoth_hc hwi (BS.of (xs := subR bx ((wr bx key i).1.getD (i + 7) [])) hr3 rfl (Nat.le_refl 4)) (by omega) (by omega)) ?_
     rintro r_ S_ Hp3 hl5 ⟨A4, c4, rfl, rfl, hcap4, rfl⟩
     refine ⟨kp0, ?_⟩
     refine x_S (S' := [_, _]) rfl ?_
     refine pubX (S' := [_]) 0 rfl rfl ?_
     intro Hp4 hp4 hr4
     replace hbx := hbx.mono hp4
     replace hk := hk.mono hp4
     replace hwp := hwp.mono hp4
     replace hwp2 := hwp2.mono hp4
     replace hx0 := hx0.mono hp4
     replace hwi := hwi.mono hp4
     replace hr3 := hr3.mono hp4
     refine h_bs (cs := [_]) Try.underlying77 info_26 rfl rfl rfl rfl rfl rfl rfl rfl rfl (by decide) ?_
     intro g8
     refine ⟨kp0, ?_⟩
     refine h_appO (sz := 1) (S1 := [_]) 0 0 Try.underlying77 info_26 rfl rfl rfl (by decide) rfl rfl rfl rfl rfl rfl rfl rfl (by rw [List.length_map, hpl, Nat.mul_one]) hic rfl (allOne rfl) (by simp only [by_26]; omega) (by omega) ?_
     intro A5 c5 hcap5
     refine ⟨kp0, ?_⟩
     refine x_S (S' := [_]) rfl ?_
     refine q_as rfl rfl rfl ?_
     refine x_end ?_
     refine nk_cut (e' := [(0, _), (1, _), (4, _), (5, _), (7, _), (8, _), (9, _), (11, _), (25, _), (35, _), (67, _)]) [0, 1, 4, 5, 7, 8, 9, 11, 25, 35, 67] rfl ?_
     refine nk_blk ?_
     refine nk_seq ?_
     refine rg (.q 0 (.q 1 (.q 2 XT.done))) (by kernel_rfl) (by kernel_rfl) ?_
     refine q_mv rfl rfl rfl ?_
     refine q_add rfl rfl rfl rfl (by omega) (by omega) ?_
     refine q_as rfl rfl rfl ?_
     refine x_end ?_
     refine nk_cut (e' := [(0, _), (1, _), (4, _), (5, _), (7, _), (8, _), (9, _), (11, _), (25, _), (35, _), (67, _)]) [0, 1, 4, 5, 7, 8, 9, 11, 25, 35, 67] rfl ?_
     have hwm : wmid bx ((wr bx key i).1.getD (i + 7) []) (wr bx key i).2 i = subR bx ((wr bx key i).1.getD (i + 7) []) := (if_neg (by omega)).trans (if_pos (by omega))
     refine nk_round (μ := Mv2) (i := (i, A, c, ps)) (S := Sv2) (G := Gv2) (⟨i + 1, A5, c5, ps ++ [⟨A4, ((wr bx key i).1.getD i []).length, c4, bothR ((wr bx key i).1.getD i []) (subR bx ((wr bx key i).1.getD (i + 7) []))⟩]⟩ : Nat × Option Addr × Nat × List Sli) ?_ ?_ ?_ ?_
     ·exact ⟨congrArg (fun z => some (SV.i z)) (by omega), congrArg (fun z => some (SV.u8 z)) (if_neg (by omega)).symm, congrArg (fun z => some (SV.sl _ z _)) (by omega), rfl, rfl, rfl, rfl, trivial⟩
     ·exact (by dsimp only [Sv2]; rw [List.map_append]; rfl)
     ·exact ⟨((hl2.trans hp3).trans hp4), ⟨by omega, by omega, hwp2.snoc ⟨hr4, bothR_len _ _, hcap4⟩ (by rw [bothR_len]; exact hw4) (by rw [wr, hwm])⟩⟩
     ·dsimp only [Mv2]; omega
    ·intro hc67
     try simp only [decide_eq_false_iff_not] at hc67
     refine ew_skip ?_
     refine nk_seq ?_
     refine rg (.q 0 (.q 1 (.q 2 (.q 3 (.q 4 (.q 5 (.q 6 (.h 7 (.h 8 (.h 9 (.q 10 XT.done))))))))))) (by kernel_rfl) (by kernel_rfl) ?_
     iterate 3 refine q_mv rfl rfl rfl ?_
     refine q_sub rfl rfl rfl rfl (by omega) (by omega) ?_
     refine x_own 0 rfl (by rw [List.length_map]; omega) ?_
     intro hAs2
     refine q_ixs1 Try.underlying77 Try.sizeOf26 rfl rfl rfl rfl rfl hAs2 (by omega) (by omega) ?_
     refine q_ldo 0 Try.isAgg26 rfl rfl rfl rfl (hwp2.cell (j := i) (by omega) (by omega)) ?_
     refine q_mv rfl rfl rfl ?_
     refine h_call0 Try.call155 rfl rfl rfl (RBoth_hc hwi hx0 (by omega) (by omega)) ?_
     rintro r_ S_ Hl2 hl6 ⟨A6, c6, rfl, rfl, hcap6, rfl⟩
     refine ⟨kp0, ?_⟩
     refine x_S (S' := [_, _]) rfl ?_
     refine pubX (S' := [_]) 0 rfl rfl ?_
     intro Hp5 hp5 hr5
     replace hbx := hbx.mono hp5
     replace hk := hk.mono hp5
     replace hwp := hwp.mono hp5
     replace hwp2 := hwp2.mono hp5
     replace hx0 := hx0.mono hp5
     replace hwi := hwi.mono hp5
     refine h_bs (cs := [_]) Try.underlying77 info_26 rfl rfl rfl rfl rfl rfl rfl rfl rfl (by decide) ?_
     intro g10
     refine ⟨kp0, ?_⟩
     refine h_appO (sz := 1) (S1 := [_]) 0 0 Try.underlying77 info_26 rfl rfl rfl (by decide) rfl rfl rfl rfl rfl rfl rfl rfl (by rw [List.length_map, hpl, Nat.mul_one]) hic rfl (allOne rfl) (by simp only [by_26]; omega) (by omega) ?_
     intro A7 c7 hcap7
     refine ⟨kp0, ?_⟩
     refine x_S (S' := [_]) rfl ?_
     refine q_as rfl rfl rfl ?_
     refine x_end ?_
     refine nk_cut (e' := [(0, _), (1, _), (4, _), (5, _), (7, _), (8, _), (9, _), (11, _), (25, _), (35, _), (67, _)]) [0, 1, 4, 5, 7, 8, 9, 11, 25, 35, 67] rfl ?_
     refine nk_blk ?_
     refine nk_seq ?_
     refine rg (.q 0 (.q 1 (.q 2 XT.done))) (by kernel_rfl) (by kernel_rfl) ?_
     refine q_mv rfl rfl rfl ?_
     refine q_add rfl rfl rfl rfl (by omega) (by omega) ?_
     refine q_as rfl rfl rfl ?_
     refine x_end ?_
     refine nk_cut (e' := [(0, _), (1, _), (4, _), (5, _), (7, _), (8, _), (9, _), (11, _), (25, _), (35, _), (67, _)]) [0, 1, 4, 5, 7, 8, 9, 11, 25, 35, 67] rfl ?_
     have hwm : wmid bx ((wr bx key i).1.getD (i + 7) []) (wr bx key i).2 i = ((wr bx key i).1.getD (i + 7) []) := (if_neg (by omega)).trans (if_neg (by omega))
     refine nk_round (μ := Mv2) (i := (i, A, c, ps)) (S := Sv2) (G := Gv2) (⟨i + 1, A7, c7, ps ++ [⟨A6, ((wr bx key i).1.getD i []).length, c6, bothR ((wr bx key i).1.getD i []) (((wr bx key i).1.getD (i + 7) []))⟩]⟩ : Nat × Option Addr × Nat × List Sli) ?_ ?_ ?_ ?_
     ·exact ⟨congrArg (fun z => some (SV.i z)) (by omega), congrArg (fun z => some (SV.u8 z)) (if_neg (by omega)).symm, congrArg (fun z => some (SV.sl _ z _)) (by omega), rfl, rfl, rfl, rfl, trivial⟩
     ·exact (by dsimp only [Sv2]; rw [List.map_append]; rfl)
     ·exact ⟨(hl2.trans hp5), ⟨by omega, by omega, hwp2.snoc ⟨hr5, bothR_len _ _, hcap6⟩ (by rw [bothR_len]; exact hw4) (by rw [wr, hwm])⟩⟩
     ·dsimp only [Mv2]; omega
  ·intro hc25
   try simp only [decide_eq_false_iff_not] at hc25
   have hi52 : i = 52 := by omega
   subst hi52
   refine ew_exit _ rfl ?_
   refine nk_seq ?_
   refine ew_seq ?_
   refine rg (.q 0 (.q 1 XT.done)) (by kernel_rfl) (by kernel_rfl) ?_
   refine q_mv rfl rfl rfl ?_
   refine q_as rfl rfl rfl ?_
   refine x_end ?_
   refine nk_cut (e' := [(0, _), (1, _), (4, _), (5, _), (7, _), (8, _), (11, _), (25, _)]) [0, 1, 4, 5, 7, 8, 11, 25] rfl ?_
   refine nk_seq ?_
   refine pubE (S' := []) 0 rfl rfl ?_
   intro Hp6 hp6 hr6
   replace hbx := hbx.mono hp6
   replace hk := hk.mono hp6
   replace hwp := hwp.mono hp6
   replace hwp2 := hwp2.mono hp6
   replace hx0 := hx0.mono hp6
   replace hwi := hwi.mono hp6
   refine ew_retS rfl rfl (.cons (.tmp rfl) .nil) ?_
   exact ⟨A, c, ps, rfl, rfl, hwp2.ws hr6 (wr_len _ _ _) hic, ((hl1.trans hl2).trans hp6)⟩

end Go.GW
