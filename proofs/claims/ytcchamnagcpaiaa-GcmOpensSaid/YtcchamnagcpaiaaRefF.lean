/- Contracts of functions of the loaded program, printed by our own program gen.py. -/
import Derived.Test.YtcchamnagcpaiaaRefE
namespace Go.GW
open Go Go.Proofs
set_option linter.unusedSimpArgs false
set_option linter.unusedVariables false


theorem oneM {α : Type} {C : α → SV} (h : ∀ x, (C x).one = true) (l : List α) : ∀ c ∈ l.map C, c.one = true := by
  intro c hc
  obtain ⟨x, _, rfl⟩ := List.mem_map.1 hc
  exact h x
def addB (z v : List Bool) : List Bool := pl (fun j => z.getD j false != v.getD j false) (fun j => z.getD j false) 128 128
def shB (v : List Bool) : Nat → Bool
  | 0 => false
  | j + 1 => v.getD j false
def zB : Nat → Bool := fun _ => false
def flipB (l : List Bool) (j : Nat) : List Bool := l.set j (!l.getD j false)
def upB (v : List Bool) : List Bool := pl (shB v) zB 128 128
def nxtB (v : List Bool) : List Bool := if v.getD 127 false then flipB (flipB (flipB (flipB (upB v) 0) 1) 2) 7 else upB v
def tmK (a b : List Bool) : Nat → List Bool × List Bool
  | 0 => (List.replicate 128 false, b)
  | i + 1 => (if a.getD i false then addB (tmK a b i).1 (tmK a b i).2 else (tmK a b i).1, nxtB (tmK a b i).2)
def timesB (a b : List Bool) : List Bool := (tmK a b 128).1
theorem addB_len (z v : List Bool) : (addB z v).length = 128 := pl_len _ _ _ _
theorem upB_len (v : List Bool) : (upB v).length = 128 := pl_len _ _ _ _
theorem flipB_len (l : List Bool) (j : Nat) : (flipB l j).length = l.length := by simp [flipB]
theorem nxtB_len (v : List Bool) : (nxtB v).length = 128 := by
  unfold nxtB
  split
  · rw [flipB_len, flipB_len, flipB_len, flipB_len, upB_len]
  · exact upB_len v
theorem tmK_len {a b : List Bool} (hb : b.length = 128) (i : Nat) : (tmK a b i).1.length = 128 ∧ (tmK a b i).2.length = 128 := by
  induction i with
  | zero => exact ⟨List.length_replicate .., hb⟩
  | succ i ih =>
    refine ⟨?_, nxtB_len _⟩
    rw [tmK]
    simp only
    split
    · exact addB_len _ _
    · exact ih.1
theorem timesB_len {a b : List Bool} (hb : b.length = 128) : (timesB a b).length = 128 := (tmK_len hb 128).1
theorem tmK_T {a b : List Bool} {i : Nat} (h : a.getD i false = true) : (tmK a b (i + 1)).1 = addB (tmK a b i).1 (tmK a b i).2 := by rw [tmK]; exact if_pos h
theorem tmK_F {a b : List Bool} {i : Nat} (h : a.getD i false = false) : (tmK a b (i + 1)).1 = (tmK a b i).1 := by rw [tmK]; exact if_neg (by rw [h]; decide)
theorem tmK_v (a b : List Bool) (i : Nat) : (tmK a b (i + 1)).2 = nxtB (tmK a b i).2 := by rw [tmK]
theorem nxtB_T {v : List Bool} (h : v.getD 127 false = true) : nxtB v = flipB (flipB (flipB (flipB (upB v) 0) 1) 2) 7 := if_pos h
theorem nxtB_F {v : List Bool} (h : v.getD 127 false = false) : nxtB v = upB v := if_neg (by rw [h]; decide)

theorem RfTm_hc {H : Hp} {A1 A2 : Option Addr} {c1 c2 : Nat} {a b : List Bool} (ha : LB H A1 128 c1 a) (hb : LB H A2 128 c2 b) :
  HC Try.prog 162 [.sl A1 128 c1, .sl A2 128 c2] [] H (fun r S' H' => ∃ A c, r = .sl A 128 c ∧ S' = [.own A 4 ((timesB a b).map SV.b) (c * 1)] ∧ 128 ≤ c ∧ H' = H) := by
 have hal := ha.len
 have hbl := hb.len
 refine hc_intro (n := 83) Try.func162 rfl Try.ntmps162 rfl (fun B hB => ?_)
 refine ew_cut (e' := [(0, _), (1, _)]) [0, 1] rfl ?_
 refine ew_seq ?_
 refine rg (.q 0 XT.done) (by kernel_rfl) (by kernel_rfl) ?_
 refine q_as (sv := .sl none 0 0) rfl rfl rfl ?_
 refine x_end ?_
 refine nk_cut (e' := [(0, _), (1, _), (4, _)]) [0, 1, 4] rfl ?_
 refine nk_seq ?_
 refine ew_seq ?_
 refine rg (.h 0 (.q 1 XT.done)) (by kernel_rfl) (by kernel_rfl) ?_
 refine h_mk (z := .b false) Try.underlying48 info_4 rfl rfl rfl rfl rfl rfl rfl (by omega) (by omega) (by simp only [by_4]; omega) (by omega) ?_
 intro g1
 refine ⟨kp0, ?_⟩
 refine q_as rfl rfl rfl ?_
 refine x_end ?_
 refine nk_cut (e' := [(0, _), (1, _), (4, _), (5, _)]) [0, 1, 4, 5] rfl ?_
 refine nk_seq ?_
 refine ew_seq ?_
 refine rg (.q 0 XT.done) (by kernel_rfl) (by kernel_rfl) ?_
 refine q_as (sv := .sl none 0 0) rfl rfl rfl ?_
 refine x_nil 4 ?_
 refine x_end ?_
 refine nk_cut (e' := [(0, _), (1, _), (4, _), (5, _), (6, _)]) [0, 1, 4, 5, 6] rfl ?_
 refine nk_seq ?_
 refine ew_seq ?_
 refine rg (.q 0 (.q 1 (.h 2 (.q 3 XT.done)))) (by kernel_rfl) (by kernel_rfl) ?_
 refine q_mv rfl rfl rfl ?_
 refine q_mv rfl rfl rfl ?_
 refine h_app (sz := 1) 0 Try.underlying48 info_4 rfl rfl rfl (by decide) rfl rfl rfl rfl rfl rfl rfl (Nat.le_refl _) hb.rr (by rw [List.length_map]; omega) (oneM (C := SV.b) (fun _ => rfl) _) (by simp only [by_4]; omega) (by omega) ?_
 intro A1 c1 hcap1
 refine ⟨kp0, ?_⟩
 refine x_S (S' := [_, _]) rfl ?_
 refine q_as rfl rfl rfl ?_
 refine x_end ?_
 refine nk_cut (e' := [(0, _), (1, _), (4, _), (5, _), (6, _)]) [0, 1, 4, 5, 6] rfl ?_
 refine nk_seq ?_
 refine ew_seq ?_
 refine ew_seq ?_
 refine rg (.q 0 XT.done) (by kernel_rfl) (by kernel_rfl) ?_
 refine q_as (sv := .i 0) rfl rfl rfl ?_
 refine x_end ?_
 refine nk_cut (e' := [(0, _), (1, _), (4, _), (5, _), (6, _), (7, _)]) [0, 1, 4, 5, 6, 7] rfl ?_
 refine nk_seq ?_
 refine ew_block ?_
 let Ev1 : Nat × Option Addr × Nat → Env := fun ⟨i, A, c⟩ => [(7, .i (i : Int)), (6, .sl A 128 c)]
 let Sv1 : Nat × Option Addr × Nat → Res := fun ⟨i, A, c⟩ => [.own A 4 ((tmK a b i).2.map SV.b) (c * 1), .own (some ⟨g1, 0, none⟩) 4 ((tmK a b i).1.map SV.b) 128]
 let Gv1 : Nat × Option Addr × Nat → Hp → Prop := fun ⟨i, A, c⟩ H' => H = H' ∧ (i ≤ 128 ∧ 128 ≤ c)
 let Mv1 : Nat × Option Addr × Nat → Nat := fun ⟨i, A, c⟩ => 128 - i
 refine ew_loop (mkE [(0, _), (1, _), (4, _), (5, _)] Ev1) (Sv1) Gv1 Mv1 (⟨0, A1, c1⟩ : Nat × Option Addr × Nat) ⟨rfl, rfl, rfl, rfl, rfl, rfl, trivial⟩ (by dsimp only [Sv1, tmK]; rw [List.map_replicate] <;> rfl) ⟨rfl, ⟨by omega, by omega⟩⟩ ?_
 rintro ⟨i, A, c⟩ H' ⟨rfl, hG⟩
 obtain ⟨hi, hic⟩ := hG
 obtain ⟨hzl, hvl⟩ := tmK_len (a := a) hbl i
 refine ew_S (S' := [_, _]) rfl ?_
 refine ew_cut (e' := [(7, _), (6, _), (0, _), (1, _), (4, _), (5, _)]) [7, 6, 0, 1, 4, 5] rfl ?_
 refine ew_seq ?_
 refine ew_seq ?_
 refine rg (.q 0 (.q 1 XT.done)) (by kernel_rfl) (by kernel_rfl) ?_
 refine q_mv rfl rfl rfl ?_
 refine q_lt rfl rfl rfl rfl ?_
 refine x_end ?_
 refine nk_cut (e' := [(0, _), (1, _), (4, _), (5, _), (6, _), (7, _), (17, _)]) [0, 1, 4, 5, 6, 7, 17] rfl ?_
 refine nk_seq ?_
 refine ew_cond rfl ?_ ?_
 ·intro hc17
  try simp only [decide_eq_true_eq] at hc17
  refine ew_skip ?_
  refine nk_seq ?_
  refine ew_seq ?_
  refine ew_block ?_
  refine ew_seq ?_
  refine ew_seq ?_
  refine rg (.q 0 (.q 1 (.q 2 (.q 3 XT.done)))) (by kernel_rfl) (by kernel_rfl) ?_
  refine q_mv rfl rfl rfl ?_
  refine q_mv rfl rfl rfl ?_
  refine q_ixs1 Try.underlying48 Try.sizeOf4 rfl rfl rfl rfl rfl (ha.ne (by omega)) (by omega) (by omega) ?_
  refine q_ldp Try.isAgg4 rfl rfl rfl (ha.at_ (j := i) (by omega) (by omega)) ?_
  refine x_end ?_
  refine nk_cut (e' := [(0, _), (1, _), (4, _), (5, _), (6, _), (7, _), (17, _), (23, _)]) [0, 1, 4, 5, 6, 7, 17, 23] rfl ?_
  refine nk_seq ?_
  refine ew_cond rfl ?_ ?_
  ·intro hc23
   try simp only [decide_eq_true_eq] at hc23
   refine ew_seq ?_
   refine rg (.q 0 XT.done) (by kernel_rfl) (by kernel_rfl) ?_
   refine q_as (sv := .i 0) rfl rfl rfl ?_
   refine x_end ?_
   refine nk_cut (e' := [(0, _), (1, _), (4, _), (5, _), (6, _), (7, _), (8, _), (17, _), (23, _)]) [0, 1, 4, 5, 6, 7, 8, 17, 23] rfl ?_
   refine nk_seq ?_
   refine ew_block ?_
   let Ev2 : Nat → Env := fun k => [(8, .i (k : Int))]
   let Sv2 : Nat → Res := fun k => [.own A 4 ((tmK a b i).2.map SV.b) (c * 1), .own (some ⟨g1, 0, none⟩) 4 ((pl (fun j => (tmK a b i).1.getD j false != (tmK a b i).2.getD j false) (fun j => (tmK a b i).1.getD j false) 128 k).map SV.b) 128]
   let Gv2 : Nat → Hp → Prop := fun k H' => H = H' ∧ (k ≤ 128)
   let Mv2 : Nat → Nat := fun k => 128 - k
   refine ew_loop (mkE [(0, _), (1, _), (4, _), (5, _), (6, _), (7, _), (17, _), (23, _)] Ev2) (Sv2) Gv2 Mv2 (0 : Nat) ⟨rfl, rfl, rfl, rfl, rfl, rfl, rfl, rfl, rfl, trivial⟩ (by dsimp only [Sv2]; rw [pl_zero, range_list _ _ hzl] <;> rfl) ⟨rfl, (by omega)⟩ ?_
   rintro k H' ⟨rfl, hG⟩
   have hpl := pl_len (fun j => (tmK a b i).1.getD j false != (tmK a b i).2.getD j false) (fun j => (tmK a b i).1.getD j false) 128 k
   refine ew_S (S' := [_, _]) rfl ?_
   refine ew_cut (e' := [(8, _), (0, _), (1, _), (4, _), (5, _), (6, _), (7, _), (17, _), (23, _)]) [8, 0, 1, 4, 5, 6, 7, 17, 23] rfl ?_
   refine ew_seq ?_
   refine ew_seq ?_
   refine rg (.q 0 (.q 1 XT.done)) (by kernel_rfl) (by kernel_rfl) ?_
   refine q_mv rfl rfl rfl ?_
   refine q_lt rfl rfl rfl rfl ?_
   refine x_end ?_
   refine nk_cut (e' := [(0, _), (1, _), (4, _), (5, _), (6, _), (7, _), (8, _), (17, _), (23, _), (25, _)]) [0, 1, 4, 5, 6, 7, 8, 17, 23, 25] rfl ?_
   refine nk_seq ?_
   refine ew_cond rfl ?_ ?_
   ·intro hc25
    try simp only [decide_eq_true_eq] at hc25
    refine ew_skip ?_
    refine nk_seq ?_
    refine ew_seq ?_
    refine ew_block ?_
    refine rd (by kernel_rfl) [0, 1, 2, 3, 4, 5, 6, 7, 8, 9, 10, 11] [0, 1, 2, 3, 4, 5, 6, 7, 8, 9, 10, 11] (.q 0 (.q 1 (.q 2 (.q 3 (.q 4 (.q 5 (.q 6 (.q 7 (.q 8 (.q 9 (.q 10 (.q 11 (.h 12 XT.done))))))))))))) (by kernel_rfl) (by kernel_rfl) (keepL _ [0, 1]) (keepL_sub _ _) ?_
    iterate 4 refine q_mv rfl rfl rfl ?_
    refine q_ixs1 Try.underlying48 Try.sizeOf4 rfl rfl rfl rfl rfl rfl (by omega) (by omega) ?_
    refine q_ldo 1 Try.isAgg4 rfl rfl rfl rfl (getM SV.b false (i := k) (by omega) (by rw [hpl]; omega)) ?_
    refine q_mv rfl rfl rfl ?_
    refine q_mv rfl rfl rfl ?_
    refine x_own 0 rfl (by rw [List.length_map]; omega) ?_
    intro hAv
    refine q_ixs1 Try.underlying48 Try.sizeOf4 rfl rfl rfl rfl rfl hAv (by omega) (by omega) ?_
    refine q_ldo 0 Try.isAgg4 rfl rfl rfl rfl (getM SV.b false (i := k) (by omega) (by rw [hvl]; omega)) ?_
    refine q_ne_b Try.underlying4 rfl rfl rfl rfl ?_
    refine q_ixs1 Try.underlying48 Try.sizeOf4 rfl rfl rfl rfl rfl rfl (by omega) (by omega) ?_
    refine h_sto (cs' := ((pl (fun j => (tmK a b i).1.getD j false != (tmK a b i).2.getD j false) (fun j => (tmK a b i).1.getD j false) 128 (k + 1)).map SV.b)) (S' := [_, _]) 1 Try.sizeOf4 rfl rfl rfl rfl rfl rfl (by rw [List.length_map, hpl]; omega) (setM SV.b (pl_set _ _ (by rw [pl_get _ _ _ _ _ (by omega), if_neg (Nat.lt_irrefl _)] <;> rfl))) rfl (fun h => absurd h (by decide)) ?_
    refine x_end ?_
    refine nk_cut (e' := [(0, _), (1, _), (4, _), (5, _), (6, _), (7, _), (8, _), (17, _), (23, _), (25, _)]) [0, 1, 4, 5, 6, 7, 8, 17, 23, 25] rfl ?_
    refine nk_blk ?_
    refine nk_seq ?_
    refine rg (.q 0 (.q 1 (.q 2 XT.done))) (by kernel_rfl) (by kernel_rfl) ?_
    refine q_mv rfl rfl rfl ?_
    refine q_add rfl rfl rfl rfl (by omega) (by omega) ?_
    refine q_as rfl rfl rfl ?_
    refine x_end ?_
    refine nk_cut (e' := [(0, _), (1, _), (4, _), (5, _), (6, _), (7, _), (8, _), (17, _), (23, _), (25, _)]) [0, 1, 4, 5, 6, 7, 8, 17, 23, 25] rfl ?_
    refine nk_round (μ := Mv2) (i := k) (S := Sv2) (G := Gv2) (k + 1 : Nat) ?_ ?_ ?_ ?_
    ·exact ⟨rfl, rfl, rfl, rfl, rfl, rfl, rfl, rfl, rfl, trivial⟩
    ·exact rfl
    ·exact ⟨rfl, by omega⟩
    ·dsimp only [Mv2]; omega
   ·intro hc25
    try simp only [decide_eq_false_iff_not] at hc25
    have hk : k = 128 := by omega
    subst hk
    refine ew_exit _ rfl ?_
    refine nk_seq ?_
    refine ew_seq ?_
    refine rg (.q 0 (.q 1 (.q 2 (.q 3 XT.done)))) (by kernel_rfl) (by kernel_rfl) ?_
    refine q_mv rfl rfl rfl ?_
    refine x_own 0 rfl (by rw [List.length_map]; omega) ?_
    intro hAv2
    refine q_ixs1 Try.underlying48 Try.sizeOf4 rfl rfl rfl rfl rfl hAv2 (by omega) (by omega) ?_
    refine q_ldo 0 Try.isAgg4 rfl rfl rfl rfl (getM SV.b false (i := 127) (by omega) (by rw [hvl]; omega)) ?_
    refine q_as rfl rfl rfl ?_
    refine x_end ?_
    refine nk_cut (e' := [(0, _), (1, _), (4, _), (5, _), (6, _), (7, _), (8, _), (9, _), (17, _), (23, _), (25, _)]) [0, 1, 4, 5, 6, 7, 8, 9, 17, 23, 25] rfl ?_
    refine nk_seq ?_
    refine ew_seq ?_
    refine rg (.h 0 (.q 1 XT.done)) (by kernel_rfl) (by kernel_rfl) ?_
    refine h_mk (z := .b false) Try.underlying48 info_4 rfl rfl rfl rfl rfl rfl rfl (by omega) (by omega) (by simp only [by_4]; omega) (by omega) ?_
    intro g3
    refine ⟨kp0, ?_⟩
    refine q_as rfl rfl rfl ?_
    refine x_end ?_
    refine nk_cut (e' := [(0, _), (1, _), (4, _), (5, _), (6, _), (7, _), (8, _), (9, _), (10, _), (17, _), (23, _), (25, _)]) [0, 1, 4, 5, 6, 7, 8, 9, 10, 17, 23, 25] rfl ?_
    refine nk_seq ?_
    refine ew_seq ?_
    refine ew_seq ?_
    refine rg (.q 0 XT.done) (by kernel_rfl) (by kernel_rfl) ?_
    refine q_as (sv := .i 1) rfl rfl rfl ?_
    refine x_end ?_
    refine nk_cut (e' := [(0, _), (1, _), (4, _), (5, _), (6, _), (7, _), (8, _), (9, _), (10, _), (11, _), (17, _), (23, _), (25, _)]) [0, 1, 4, 5, 6, 7, 8, 9, 10, 11, 17, 23, 25] rfl ?_
    refine nk_seq ?_
    refine ew_block ?_
    let Ev3 : Nat → Env := fun k => [(11, .i (1 + (k : Int)))]
    let Sv3 : Nat → Res := fun k => [.own (some ⟨g3, 0, none⟩) 4 ((pl (shB (tmK a b i).2) zB 128 (k + 1)).map SV.b) 128, .own A 4 ((tmK a b i).2.map SV.b) (c * 1), .own (some ⟨g1, 0, none⟩) 4 ((addB (tmK a b i).1 (tmK a b i).2).map SV.b) 128]
    let Gv3 : Nat → Hp → Prop := fun k H' => H = H' ∧ (k ≤ 127)
    let Mv3 : Nat → Nat := fun k => 127 - k
    refine ew_loop (mkE [(0, _), (1, _), (4, _), (5, _), (6, _), (7, _), (9, _), (10, _), (17, _), (23, _), (25, _)] Ev3) (Sv3) Gv3 Mv3 (0 : Nat) ⟨congrArg (fun z => some (SV.i z)) (by omega), rfl, rfl, rfl, rfl, rfl, rfl, rfl, rfl, rfl, rfl, rfl, trivial⟩ (by dsimp only [Sv3]; rw [← pl_set (shB (tmK a b i).2) zB (v := false) rfl, pl_zero, show (List.range 128).map zB = List.replicate 128 false from range_rep _ _] <;> rfl) ⟨rfl, (by omega)⟩ ?_
    rintro k H' ⟨rfl, hG⟩
    have hwl := pl_len (shB (tmK a b i).2) zB 128 (k + 1)
    refine ew_S (S' := [_, _, _]) rfl ?_
    refine ew_cut (e' := [(11, _), (0, _), (1, _), (4, _), (5, _), (6, _), (7, _), (9, _), (10, _), (17, _), (23, _), (25, _)]) [11, 0, 1, 4, 5, 6, 7, 9, 10, 17, 23, 25] rfl ?_
    refine ew_seq ?_
    refine ew_seq ?_
    refine rg (.q 0 (.q 1 XT.done)) (by kernel_rfl) (by kernel_rfl) ?_
    refine q_mv rfl rfl rfl ?_
    refine q_lt rfl rfl rfl rfl ?_
    refine x_end ?_
    refine nk_cut (e' := [(0, _), (1, _), (4, _), (5, _), (6, _), (7, _), (9, _), (10, _), (11, _), (17, _), (23, _), (25, _), (45, _)]) [0, 1, 4, 5, 6, 7, 9, 10, 11, 17, 23, 25, 45] rfl ?_
    refine nk_seq ?_
    refine ew_cond rfl ?_ ?_
    ·intro hc45
     try simp only [decide_eq_true_eq] at hc45
     refine ew_skip ?_
     refine nk_seq ?_
     refine ew_seq ?_
     refine ew_block ?_
     refine rg (.q 0 (.q 1 (.q 2 (.q 3 (.q 4 (.q 5 (.q 6 (.q 7 (.h 8 XT.done))))))))) (by kernel_rfl) (by kernel_rfl) ?_
     iterate 4 refine q_mv rfl rfl rfl ?_
     refine q_sub rfl rfl rfl rfl (by omega) (by omega) ?_
     refine x_own 1 rfl (by rw [List.length_map]; omega) ?_
     intro hAv3
     refine q_ixs1 Try.underlying48 Try.sizeOf4 rfl rfl rfl rfl rfl hAv3 (by omega) (by omega) ?_
     refine q_ldo 1 Try.isAgg4 rfl rfl rfl rfl (getM SV.b false (i := k) (by omega) (by rw [hvl]; omega)) ?_
     refine q_ixs1 Try.underlying48 Try.sizeOf4 rfl rfl rfl rfl rfl rfl (by omega) (by omega) ?_
     refine h_sto (cs' := ((pl (shB (tmK a b i).2) zB 128 (k + 1 + 1)).map SV.b)) (S' := [_, _, _]) 0 Try.sizeOf4 rfl rfl rfl rfl rfl rfl (by rw [List.length_map, hwl]; omega) (by rw [show (1 + (k : Int)).toNat = k + 1 by omega]; exact setM SV.b (pl_set _ _ rfl)) rfl kp0 ?_
     refine x_end ?_
     refine nk_cut (e' := [(0, _), (1, _), (4, _), (5, _), (6, _), (7, _), (9, _), (10, _), (11, _), (17, _), (23, _), (25, _), (45, _)]) [0, 1, 4, 5, 6, 7, 9, 10, 11, 17, 23, 25, 45] rfl ?_
     refine nk_blk ?_
     refine nk_seq ?_
     refine rg (.q 0 (.q 1 (.q 2 XT.done))) (by kernel_rfl) (by kernel_rfl) ?_
     refine q_mv rfl rfl rfl ?_
     refine q_add rfl rfl rfl rfl (by omega) (by omega) ?_
     refine q_as rfl rfl rfl ?_
     refine x_end ?_
     refine nk_cut (e' := [(0, _), (1, _), (4, _), (5, _), (6, _), (7, _), (9, _), (10, _), (11, _), (17, _), (23, _), (25, _), (45, _)]) [0, 1, 4, 5, 6, 7, 9, 10, 11, 17, 23, 25, 45] rfl ?_
     refine nk_round (μ := Mv3) (i := k) (S := Sv3) (G := Gv3) (k + 1 : Nat) ?_ ?_ ?_ ?_
     ·exact ⟨congrArg (fun z => some (SV.i z)) (by omega), rfl, rfl, rfl, rfl, rfl, rfl, rfl, rfl, rfl, rfl, rfl, trivial⟩
     ·exact rfl
     ·exact ⟨rfl, by omega⟩
     ·dsimp only [Mv3]; omega
    ·intro hc45
     try simp only [decide_eq_false_iff_not] at hc45
     have hk2 : k = 127 := by omega
     subst hk2
     refine ew_exit _ rfl ?_
     refine nk_seq ?_
     refine ew_seq ?_
     refine ew_seq ?_
     refine rg (.q 0 XT.done) (by kernel_rfl) (by kernel_rfl) ?_
     refine q_mv rfl rfl rfl ?_
     refine x_end ?_
     refine nk_cut (e' := [(0, _), (1, _), (4, _), (5, _), (6, _), (7, _), (9, _), (10, _), (11, _), (17, _), (23, _), (25, _), (45, _), (56, _)]) [0, 1, 4, 5, 6, 7, 9, 10, 11, 17, 23, 25, 45, 56] rfl ?_
     refine nk_seq ?_
     refine ew_cond rfl ?_ ?_
     ·intro hc56
      try simp only [decide_eq_true_eq] at hc56
      refine ew_seq ?_
      refine rg (.q 0 (.q 1 (.q 2 (.q 3 (.q 4 (.q 5 (.h 6 XT.done))))))) (by kernel_rfl) (by kernel_rfl) ?_
      refine q_mv rfl rfl rfl ?_
      refine q_mv rfl rfl rfl ?_
      refine q_ixs1 Try.underlying48 Try.sizeOf4 rfl rfl rfl rfl rfl rfl (by omega) (by omega) ?_
      refine q_ldo 0 Try.isAgg4 rfl rfl rfl rfl (getM SV.b false (i := 0) (by omega) (by rw [hwl]; omega)) ?_
      refine q_not rfl rfl rfl ?_
      refine q_ixs1 Try.underlying48 Try.sizeOf4 rfl rfl rfl rfl rfl rfl (by omega) (by omega) ?_
      refine h_sto (cs' := ((flipB (upB (tmK a b i).2) 0).map SV.b)) (S' := [_, _, _]) 0 Try.sizeOf4 rfl rfl rfl rfl rfl rfl (by rw [List.length_map, hwl]; decide) (setM SV.b rfl) rfl kp0 ?_
      refine x_end ?_
      refine nk_cut (e' := [(0, _), (1, _), (4, _), (5, _), (6, _), (7, _), (9, _), (10, _), (11, _), (17, _), (23, _), (25, _), (45, _), (56, _)]) [0, 1, 4, 5, 6, 7, 9, 10, 11, 17, 23, 25, 45, 56] rfl ?_
      refine nk_seq ?_
      refine ew_seq ?_
      refine rg (.q 0 (.q 1 (.q 2 (.q 3 (.q 4 (.q 5 (.h 6 XT.done))))))) (by kernel_rfl) (by kernel_rfl) ?_
      refine q_mv rfl rfl rfl ?_
      refine q_mv rfl rfl rfl ?_
      refine q_ixs1 Try.underlying48 Try.sizeOf4 rfl rfl rfl rfl rfl rfl (by omega) (by omega) ?_
      refine q_ldo 0 Try.isAgg4 rfl rfl rfl rfl (getM SV.b false (i := 1) (by omega) (by rw [flipB_len, upB_len]; omega)) ?_
      refine q_not rfl rfl rfl ?_
      refine q_ixs1 Try.underlying48 Try.sizeOf4 rfl rfl rfl rfl rfl rfl (by omega) (by omega) ?_
      refine h_sto (cs' := ((flipB (flipB (upB (tmK a b i).2) 0) 1).map SV.b)) (S' := [_, _, _]) 0 Try.sizeOf4 rfl rfl rfl rfl rfl rfl (by rw [List.length_map, flipB_len, upB_len]; decide) (setM SV.b rfl) rfl kp0 ?_
      refine x_end ?_
      refine nk_cut (e' := [(0, _), (1, _), (4, _), (5, _), (6, _), (7, _), (9, _), (10, _), (11, _), (17, _), (23, _), (25, _), (45, _), (56, _)]) [0, 1, 4, 5, 6, 7, 9, 10, 11, 17, 23, 25, 45, 56] rfl ?_
      refine nk_seq ?_
      refine ew_seq ?_
      refine rg (.q 0 (.q 1 (.q 2 (.q 3 (.q 4 (.q 5 (.h 6 XT.done))))))) (by kernel_rfl) (by kernel_rfl) ?_
      refine q_mv rfl rfl rfl ?_
      refine q_mv rfl rfl rfl ?_
      refine q_ixs1 Try.underlying48 Try.sizeOf4 rfl rfl rfl rfl rfl rfl (by omega) (by omega) ?_
      refine q_ldo 0 Try.isAgg4 rfl rfl rfl rfl (getM SV.b false (i := 2) (by omega) (by rw [flipB_len, flipB_len, upB_len]; omega)) ?_
      refine q_not rfl rfl rfl ?_
      refine q_ixs1 Try.underlying48 Try.sizeOf4 rfl rfl rfl rfl rfl rfl (by omega) (by omega) ?_
      refine h_sto (cs' := ((flipB (flipB (flipB (upB (tmK a b i).2) 0) 1) 2).map SV.b)) (S' := [_, _, _]) 0 Try.sizeOf4 rfl rfl rfl rfl rfl rfl (by rw [List.length_map, flipB_len, flipB_len, upB_len]; decide) (setM SV.b rfl) rfl kp0 ?_
      refine x_end ?_
      refine nk_cut (e' := [(0, _), (1, _), (4, _), (5, _), (6, _), (7, _), (9, _), (10, _), (11, _), (17, _), (23, _), (25, _), (45, _), (56, _)]) [0, 1, 4, 5, 6, 7, 9, 10, 11, 17, 23, 25, 45, 56] rfl ?_
      refine nk_seq ?_
      refine rg (.q 0 (.q 1 (.q 2 (.q 3 (.q 4 (.q 5 (.h 6 XT.done))))))) (by kernel_rfl) (by kernel_rfl) ?_
      refine q_mv rfl rfl rfl ?_
      refine q_mv rfl rfl rfl ?_
      refine q_ixs1 Try.underlying48 Try.sizeOf4 rfl rfl rfl rfl rfl rfl (by omega) (by omega) ?_
      refine q_ldo 0 Try.isAgg4 rfl rfl rfl rfl (getM SV.b false (i := 7) (by omega) (by rw [flipB_len, flipB_len, flipB_len, upB_len]; omega)) ?_
      refine q_not rfl rfl rfl ?_
      refine q_ixs1 Try.underlying48 Try.sizeOf4 rfl rfl rfl rfl rfl rfl (by omega) (by omega) ?_
      refine h_sto (cs' := ((flipB (flipB (flipB (flipB (upB (tmK a b i).2) 0) 1) 2) 7).map SV.b)) (S' := [_, _, _]) 0 Try.sizeOf4 rfl rfl rfl rfl rfl rfl (by rw [List.length_map, flipB_len, flipB_len, flipB_len, upB_len]; decide) (setM SV.b rfl) rfl kp0 ?_
      refine x_end ?_
      refine nk_cut (e' := [(0, _), (1, _), (4, _), (5, _), (6, _), (7, _), (9, _), (10, _), (11, _), (17, _), (23, _), (25, _), (45, _), (56, _)]) [0, 1, 4, 5, 6, 7, 9, 10, 11, 17, 23, 25, 45, 56] rfl ?_
      refine nk_seq ?_
      refine rg (.q 0 (.q 1 XT.done)) (by kernel_rfl) (by kernel_rfl) ?_
      refine q_mv rfl rfl rfl ?_
      refine q_as rfl rfl rfl ?_
      refine x_end ?_
      refine nk_cut (e' := [(0, _), (1, _), (4, _), (5, _), (6, _), (7, _), (9, _), (10, _), (11, _), (17, _), (23, _), (25, _), (45, _), (56, _)]) [0, 1, 4, 5, 6, 7, 9, 10, 11, 17, 23, 25, 45, 56] rfl ?_
      refine nk_blk ?_
      refine nk_seq ?_
      refine rg (.q 0 (.q 1 (.q 2 XT.done))) (by kernel_rfl) (by kernel_rfl) ?_
      refine q_mv rfl rfl rfl ?_
      refine q_add rfl rfl rfl rfl (by omega) (by omega) ?_
      refine q_as rfl rfl rfl ?_
      refine x_end ?_
      refine nk_cut (e' := [(0, _), (1, _), (4, _), (5, _), (6, _), (7, _), (9, _), (10, _), (11, _), (17, _), (23, _), (25, _), (45, _), (56, _)]) [0, 1, 4, 5, 6, 7, 9, 10, 11, 17, 23, 25, 45, 56] rfl ?_
      have hz1 := tmK_T (a := a) (b := b) (i := i) hc23
      have hv1 := (tmK_v a b i).trans (nxtB_T hc56)
      refine nk_perm (S' := [_, _, _]) (permL [0, 2, 1] rfl) ?_
      refine nk_drop (S := [_, _]) (S' := [_]) ?_
      refine nk_round (μ := Mv1) (i := (i, A, c)) (S := Sv1) (G := Gv1) (⟨i + 1, some ⟨g3, 0, none⟩, 128⟩ : Nat × Option Addr × Nat) ?_ ?_ ?_ ?_
      ·exact ⟨rfl, rfl, rfl, rfl, rfl, rfl, trivial⟩
      ·exact (by dsimp only [Sv1]; rw [hz1, hv1] <;> rfl)
      ·exact ⟨rfl, ⟨by omega, by omega⟩⟩
      ·dsimp only [Mv1]; omega
     ·intro hc56
      try simp only [decide_eq_false_iff_not] at hc56
      refine ew_skip ?_
      refine nk_seq ?_
      refine rg (.q 0 (.q 1 XT.done)) (by kernel_rfl) (by kernel_rfl) ?_
      refine q_mv rfl rfl rfl ?_
      refine q_as rfl rfl rfl ?_
      refine x_end ?_
      refine nk_cut (e' := [(0, _), (1, _), (4, _), (5, _), (6, _), (7, _), (9, _), (10, _), (11, _), (17, _), (23, _), (25, _), (45, _), (56, _)]) [0, 1, 4, 5, 6, 7, 9, 10, 11, 17, 23, 25, 45, 56] rfl ?_
      refine nk_blk ?_
      refine nk_seq ?_
      refine rg (.q 0 (.q 1 (.q 2 XT.done))) (by kernel_rfl) (by kernel_rfl) ?_
      refine q_mv rfl rfl rfl ?_
      refine q_add rfl rfl rfl rfl (by omega) (by omega) ?_
      refine q_as rfl rfl rfl ?_
      refine x_end ?_
      refine nk_cut (e' := [(0, _), (1, _), (4, _), (5, _), (6, _), (7, _), (9, _), (10, _), (11, _), (17, _), (23, _), (25, _), (45, _), (56, _)]) [0, 1, 4, 5, 6, 7, 9, 10, 11, 17, 23, 25, 45, 56] rfl ?_
      have hz1 := tmK_T (a := a) (b := b) (i := i) hc23
      have hv1 := (tmK_v a b i).trans (nxtB_F hc56)
      refine nk_perm (S' := [_, _, _]) (permL [0, 2, 1] rfl) ?_
      refine nk_drop (S := [_, _]) (S' := [_]) ?_
      refine nk_round (μ := Mv1) (i := (i, A, c)) (S := Sv1) (G := Gv1) (⟨i + 1, some ⟨g3, 0, none⟩, 128⟩ : Nat × Option Addr × Nat) ?_ ?_ ?_ ?_
      ·exact ⟨rfl, rfl, rfl, rfl, rfl, rfl, trivial⟩
      ·exact (by dsimp only [Sv1]; rw [hz1, hv1] <;> rfl)
      ·exact ⟨rfl, ⟨by omega, by omega⟩⟩
      ·dsimp only [Mv1]; omega
  ·intro hc23
   try simp only [decide_eq_false_iff_not] at hc23
   refine ew_skip ?_
   refine nk_seq ?_
   refine ew_seq ?_
   refine rg (.q 0 (.q 1 (.q 2 (.q 3 XT.done)))) (by kernel_rfl) (by kernel_rfl) ?_
   refine q_mv rfl rfl rfl ?_
   refine x_own 0 rfl (by rw [List.length_map]; omega) ?_
   intro hAv2
   refine q_ixs1 Try.underlying48 Try.sizeOf4 rfl rfl rfl rfl rfl hAv2 (by omega) (by omega) ?_
   refine q_ldo 0 Try.isAgg4 rfl rfl rfl rfl (getM SV.b false (i := 127) (by omega) (by rw [hvl]; omega)) ?_
   refine q_as rfl rfl rfl ?_
   refine x_end ?_
   refine nk_cut (e' := [(0, _), (1, _), (4, _), (5, _), (6, _), (7, _), (9, _), (17, _), (23, _)]) [0, 1, 4, 5, 6, 7, 9, 17, 23] rfl ?_
   refine nk_seq ?_
   refine ew_seq ?_
   refine rg (.h 0 (.q 1 XT.done)) (by kernel_rfl) (by kernel_rfl) ?_
   refine h_mk (z := .b false) Try.underlying48 info_4 rfl rfl rfl rfl rfl rfl rfl (by omega) (by omega) (by simp only [by_4]; omega) (by omega) ?_
   intro g4
   refine ⟨kp0, ?_⟩
   refine q_as rfl rfl rfl ?_
   refine x_end ?_
   refine nk_cut (e' := [(0, _), (1, _), (4, _), (5, _), (6, _), (7, _), (9, _), (10, _), (17, _), (23, _)]) [0, 1, 4, 5, 6, 7, 9, 10, 17, 23] rfl ?_
   refine nk_seq ?_
   refine ew_seq ?_
   refine ew_seq ?_
   refine rg (.q 0 XT.done) (by kernel_rfl) (by kernel_rfl) ?_
   refine q_as (sv := .i 1) rfl rfl rfl ?_
   refine x_end ?_
   refine nk_cut (e' := [(0, _), (1, _), (4, _), (5, _), (6, _), (7, _), (9, _), (10, _), (11, _), (17, _), (23, _)]) [0, 1, 4, 5, 6, 7, 9, 10, 11, 17, 23] rfl ?_
   refine nk_seq ?_
   refine ew_block ?_
   let Ev4 : Nat → Env := fun k => [(11, .i (1 + (k : Int)))]
   let Sv4 : Nat → Res := fun k => [.own (some ⟨g4, 0, none⟩) 4 ((pl (shB (tmK a b i).2) zB 128 (k + 1)).map SV.b) 128, .own A 4 ((tmK a b i).2.map SV.b) (c * 1), .own (some ⟨g1, 0, none⟩) 4 ((tmK a b i).1.map SV.b) 128]
   let Gv4 : Nat → Hp → Prop := fun k H' => H = H' ∧ (k ≤ 127)
   let Mv4 : Nat → Nat := fun k => 127 - k
   refine ew_loop (mkE [(0, _), (1, _), (4, _), (5, _), (6, _), (7, _), (9, _), (10, _), (17, _), (23, _)] Ev4) (Sv4) Gv4 Mv4 (0 : Nat) ⟨congrArg (fun z => some (SV.i z)) (by omega), rfl, rfl, rfl, rfl, rfl, rfl, rfl, rfl, rfl, rfl, trivial⟩ (by dsimp only [Sv4]; rw [← pl_set (shB (tmK a b i).2) zB (v := false) rfl, pl_zero, show (List.range 128).map zB = List.replicate 128 false from range_rep _ _] <;> rfl) ⟨rfl, (by omega)⟩ ?_
   rintro k H' ⟨rfl, hG⟩
   have hwl := pl_len (shB (tmK a b i).2) zB 128 (k + 1)
   refine ew_S (S' := [_, _, _]) rfl ?_
   refine ew_cut (e' := [(11, _), (0, _), (1, _), (4, _), (5, _), (6, _), (7, _), (9, _), (10, _), (17, _), (23, _)]) [11, 0, 1, 4, 5, 6, 7, 9, 10, 17, 23] rfl ?_
   refine ew_seq ?_
   refine ew_seq ?_
   refine rg (.q 0 (.q 1 XT.done)) (by kernel_rfl) (by kernel_rfl) ?_
   refine q_mv rfl rfl rfl ?_
   refine q_lt rfl rfl rfl rfl ?_
   refine x_end ?_
   refine nk_cut (e' := [(0, _), (1, _), (4, _), (5, _), (6, _), (7, _), (9, _), (10, _), (11, _), (17, _), (23, _), (45, _)]) [0, 1, 4, 5, 6, 7, 9, 10, 11, 17, 23, 45] rfl ?_
   refine nk_seq ?_
   refine ew_cond rfl ?_ ?_
   ·intro hc45
    try simp only [decide_eq_true_eq] at hc45
    refine ew_skip ?_
    refine nk_seq ?_
    refine ew_seq ?_
    refine ew_block ?_
    refine rg (.q 0 (.q 1 (.q 2 (.q 3 (.q 4 (.q 5 (.q 6 (.q 7 (.h 8 XT.done))))))))) (by kernel_rfl) (by kernel_rfl) ?_
    iterate 4 refine q_mv rfl rfl rfl ?_
    refine q_sub rfl rfl rfl rfl (by omega) (by omega) ?_
    refine x_own 1 rfl (by rw [List.length_map]; omega) ?_
    intro hAv3
    refine q_ixs1 Try.underlying48 Try.sizeOf4 rfl rfl rfl rfl rfl hAv3 (by omega) (by omega) ?_
    refine q_ldo 1 Try.isAgg4 rfl rfl rfl rfl (getM SV.b false (i := k) (by omega) (by rw [hvl]; omega)) ?_
    refine q_ixs1 Try.underlying48 Try.sizeOf4 rfl rfl rfl rfl rfl rfl (by omega) (by omega) ?_
    refine h_sto (cs' := ((pl (shB (tmK a b i).2) zB 128 (k + 1 + 1)).map SV.b)) (S' := [_, _, _]) 0 Try.sizeOf4 rfl rfl rfl rfl rfl rfl (by rw [List.length_map, hwl]; omega) (by rw [show (1 + (k : Int)).toNat = k + 1 by omega]; exact setM SV.b (pl_set _ _ rfl)) rfl kp0 ?_
    refine x_end ?_
    refine nk_cut (e' := [(0, _), (1, _), (4, _), (5, _), (6, _), (7, _), (9, _), (10, _), (11, _), (17, _), (23, _), (45, _)]) [0, 1, 4, 5, 6, 7, 9, 10, 11, 17, 23, 45] rfl ?_
    refine nk_blk ?_
    refine nk_seq ?_
    refine rg (.q 0 (.q 1 (.q 2 XT.done))) (by kernel_rfl) (by kernel_rfl) ?_
    refine q_mv rfl rfl rfl ?_
    refine q_add rfl rfl rfl rfl (by omega) (by omega) ?_
    refine q_as rfl rfl rfl ?_
    refine x_end ?_
    refine nk_cut (e' := [(0, _), (1, _), (4, _), (5, _), (6, _), (7, _), (9, _), (10, _), (11, _), (17, _), (23, _), (45, _)]) [0, 1, 4, 5, 6, 7, 9, 10, 11, 17, 23, 45] rfl ?_
    refine nk_round (μ := Mv4) (i := k) (S := Sv4) (G := Gv4) (k + 1 : Nat) ?_ ?_ ?_ ?_
    ·exact ⟨congrArg (fun z => some (SV.i z)) (by omega), rfl, rfl, rfl, rfl, rfl, rfl, rfl, rfl, rfl, rfl, trivial⟩
    ·exact rfl
    ·exact ⟨rfl, by omega⟩
    ·dsimp only [Mv4]; omega
   ·intro hc45
    try simp only [decide_eq_false_iff_not] at hc45
    have hk2 : k = 127 := by omega
    subst hk2
    refine ew_exit _ rfl ?_
    refine nk_seq ?_
    refine ew_seq ?_
    refine ew_seq ?_
    refine rg (.q 0 XT.done) (by kernel_rfl) (by kernel_rfl) ?_
    refine q_mv rfl rfl rfl ?_
    refine x_end ?_
    refine nk_cut (e' := [(0, _), (1, _), (4, _), (5, _), (6, _), (7, _), (9, _), (10, _), (11, _), (17, _), (23, _), (45, _), (56, _)]) [0, 1, 4, 5, 6, 7, 9, 10, 11, 17, 23, 45, 56] rfl ?_
    refine nk_seq ?_
    refine ew_cond rfl ?_ ?_
    ·intro hc56
     try simp only [decide_eq_true_eq] at hc56
     refine ew_seq ?_
     refine rg (.q 0 (.q 1 (.q 2 (.q 3 (.q 4 (.q 5 (.h 6 XT.done))))))) (by kernel_rfl) (by kernel_rfl) ?_
     refine q_mv rfl rfl rfl ?_
     refine q_mv rfl rfl rfl ?_
     refine q_ixs1 Try.underlying48 Try.sizeOf4 rfl rfl rfl rfl rfl rfl (by omega) (by omega) ?_
     refine q_ldo 0 Try.isAgg4 rfl rfl rfl rfl (getM SV.b false (i := 0) (by omega) (by rw [hwl]; omega)) ?_
     refine q_not rfl rfl rfl ?_
     refine q_ixs1 Try.underlying48 Try.sizeOf4 rfl rfl rfl rfl rfl rfl (by omega) (by omega) ?_
     refine h_sto (cs' := ((flipB (upB (tmK a b i).2) 0).map SV.b)) (S' := [_, _, _]) 0 Try.sizeOf4 rfl rfl rfl rfl rfl rfl (by rw [List.length_map, hwl]; decide) (setM SV.b rfl) rfl kp0 ?_
     refine x_end ?_
     refine nk_cut (e' := [(0, _), (1, _), (4, _), (5, _), (6, _), (7, _), (9, _), (10, _), (11, _), (17, _), (23, _), (45, _), (56, _)]) [0, 1, 4, 5, 6, 7, 9, 10, 11, 17, 23, 45, 56] rfl ?_
     refine nk_seq ?_
     refine ew_seq ?_
     refine rg (.q 0 (.q 1 (.q 2 (.q 3 (.q 4 (.q 5 (.h 6 XT.done))))))) (by kernel_rfl) (by kernel_rfl) ?_
     refine q_mv rfl rfl rfl ?_
     refine q_mv rfl rfl rfl ?_
     refine q_ixs1 Try.underlying48 Try.sizeOf4 rfl rfl rfl rfl rfl rfl (by omega) (by omega) ?_
     refine q_ldo 0 Try.isAgg4 rfl rfl rfl rfl (getM SV.b false (i := 1) (by omega) (by rw [flipB_len, upB_len]; omega)) ?_
     refine q_not rfl rfl rfl ?_
     refine q_ixs1 Try.underlying48 Try.sizeOf4 rfl rfl rfl rfl rfl rfl (by omega) (by omega) ?_
     refine h_sto (cs' := ((flipB (flipB (upB (tmK a b i).2) 0) 1).map SV.b)) (S' := [_, _, _]) 0 Try.sizeOf4 rfl rfl rfl rfl rfl rfl (by rw [List.length_map, flipB_len, upB_len]; decide) (setM SV.b rfl) rfl kp0 ?_
     refine x_end ?_
     refine nk_cut (e' := [(0, _), (1, _), (4, _), (5, _), (6, _), (7, _), (9, _), (10, _), (11, _), (17, _), (23, _), (45, _), (56, _)]) [0, 1, 4, 5, 6, 7, 9, 10, 11, 17, 23, 45, 56] rfl ?_
     refine nk_seq ?_
     refine ew_seq ?_
     refine rg (.q 0 (.q 1 (.q 2 (.q 3 (.q 4 (.q 5 (.h 6 XT.done))))))) (by kernel_rfl) (by kernel_rfl) ?_
     refine q_mv rfl rfl rfl ?_
     refine q_mv rfl rfl rfl ?_
     refine q_ixs1 Try.underlying48 Try.sizeOf4 rfl rfl rfl rfl rfl rfl (by omega) (by omega) ?_
     refine q_ldo 0 Try.isAgg4 rfl rfl rfl rfl (getM SV.b false (i := 2) (by omega) (by rw [flipB_len, flipB_len, upB_len]; omega)) ?_
     refine q_not rfl rfl rfl ?_
     refine q_ixs1 Try.underlying48 Try.sizeOf4 rfl rfl rfl rfl rfl rfl (by omega) (by omega) ?_
     refine h_sto (cs' := ((flipB (flipB (flipB (upB (tmK a b i).2) 0) 1) 2).map SV.b)) (S' := [_, _, _]) 0 Try.sizeOf4 rfl rfl rfl rfl rfl rfl (by rw [List.length_map, flipB_len, flipB_len, upB_len]; decide) (setM SV.b rfl) rfl kp0 ?_
     refine x_end ?_
     refine nk_cut (e' := [(0, _), (1, _), (4, _), (5, _), (6, _), (7, _), (9, _), (10, _), (11, _), (17, _), (23, _), (45, _), (56, _)]) [0, 1, 4, 5, 6, 7, 9, 10, 11, 17, 23, 45, 56] rfl ?_
     refine nk_seq ?_
     refine rg (.q 0 (.q 1 (.q 2 (.q 3 (.q 4 (.q 5 (.h 6 XT.done))))))) (by kernel_rfl) (by kernel_rfl) ?_
     refine q_mv rfl rfl rfl ?_
     refine q_mv rfl rfl rfl ?_
     refine q_ixs1 Try.underlying48 Try.sizeOf4 rfl rfl rfl rfl rfl rfl (by omega) (by omega) ?_
     refine q_ldo 0 Try.isAgg4 rfl rfl rfl rfl (getM SV.b false (i := 7) (by omega) (by rw [flipB_len, flipB_len, flipB_len, upB_len]; omega)) ?_
     refine q_not rfl rfl rfl ?_
     refine q_ixs1 Try.underlying48 Try.sizeOf4 rfl rfl rfl rfl rfl rfl (by omega) (by omega) ?_
     refine h_sto (cs' := ((flipB (flipB (flipB (flipB (upB (tmK a b i).2) 0) 1) 2) 7).map SV.b)) (S' := [_, _, _]) 0 Try.sizeOf4 rfl rfl rfl rfl rfl rfl (by rw [List.length_map, flipB_len, flipB_len, flipB_len, upB_len]; decide) (setM SV.b rfl) rfl kp0 ?_
     refine x_end ?_
     refine nk_cut (e' := [(0, _), (1, _), (4, _), (5, _), (6, _), (7, _), (9, _), (10, _), (11, _), (17, _), (23, _), (45, _), (56, _)]) [0, 1, 4, 5, 6, 7, 9, 10, 11, 17, 23, 45, 56] rfl ?_
     refine nk_seq ?_
     refine rg (.q 0 (.q 1 XT.done)) (by kernel_rfl) (by kernel_rfl) ?_
     refine q_mv rfl rfl rfl ?_
     refine q_as rfl rfl rfl ?_
     refine x_end ?_
     refine nk_cut (e' := [(0, _), (1, _), (4, _), (5, _), (6, _), (7, _), (9, _), (10, _), (11, _), (17, _), (23, _), (45, _), (56, _)]) [0, 1, 4, 5, 6, 7, 9, 10, 11, 17, 23, 45, 56] rfl ?_
     refine nk_blk ?_
     refine nk_seq ?_
     refine rg (.q 0 (.q 1 (.q 2 XT.done))) (by kernel_rfl) (by kernel_rfl) ?_
     refine q_mv rfl rfl rfl ?_
     refine q_add rfl rfl rfl rfl (by omega) (by omega) ?_
     refine q_as rfl rfl rfl ?_
     refine x_end ?_
     refine nk_cut (e' := [(0, _), (1, _), (4, _), (5, _), (6, _), (7, _), (9, _), (10, _), (11, _), (17, _), (23, _), (45, _), (56, _)]) [0, 1, 4, 5, 6, 7, 9, 10, 11, 17, 23, 45, 56] rfl ?_
     have hz1 := tmK_F (a := a) (b := b) (i := i) hc23
     have hv1 := (tmK_v a b i).trans (nxtB_T hc56)
     refine nk_perm (S' := [_, _, _]) (permL [0, 2, 1] rfl) ?_
     refine nk_drop (S := [_, _]) (S' := [_]) ?_
     refine nk_round (μ := Mv1) (i := (i, A, c)) (S := Sv1) (G := Gv1) (⟨i + 1, some ⟨g4, 0, none⟩, 128⟩ : Nat × Option Addr × Nat) ?_ ?_ ?_ ?_
     ·exact ⟨rfl, rfl, rfl, rfl, rfl, rfl, trivial⟩
     ·exact (by dsimp only [Sv1]; rw [hz1, hv1] <;> rfl)
     ·exact ⟨rfl, ⟨by omega, by omega⟩⟩
     ·dsimp only [Mv1]; omega
    ·intro hc56
     try simp only [decide_eq_false_iff_not] at hc56
     refine ew_skip ?_
     refine nk_seq ?_
     refine rg (.q 0 (.q 1 XT.done)) (by kernel_rfl) (by kernel_rfl) ?_
     refine q_mv rfl rfl rfl ?_
     refine q_as rfl rfl rfl ?_
     refine x_end ?_
     refine nk_cut (e' := [(0, _), (1, _), (4, _), (5, _), (6, _), (7, _), (9, _), (10, _), (11, _), (17, _), (23, _), (45, _), (56, _)]) [0, 1, 4, 5, 6, 7, 9, 10, 11, 17, 23, 45, 56] rfl ?_
     refine nk_blk ?_
     refine nk_seq ?_
     refine rg (.q 0 (.q 1 (.q 2 XT.done))) (by kernel_rfl) (by kernel_rfl) ?_
     refine q_mv rfl rfl rfl ?_
     refine q_add rfl rfl rfl rfl (by omega) (by omega) ?_
     refine q_as rfl rfl rfl ?_
     refine x_end ?_
     refine nk_cut (e' := [(0, _), (1, _), (4, _), (5, _), (6, _), (7, _), (9, _), (10, _), (11, _), (17, _), (23, _), (45, _), (56, _)]) [0, 1, 4, 5, 6, 7, 9, 10, 11, 17, 23, 45, 56] rfl ?_
     have hz1 := tmK_F (a := a) (b := b) (i := i) hc23
     have hv1 := (tmK_v a b i).trans (nxtB_F hc56)
     refine nk_perm (S' := [_, _, _]) (permL [0, 2, 1] rfl) ?_
     refine nk_drop (S := [_, _]) (S' := [_]) ?_
     refine nk_round (μ := Mv1) (i := (i, A, c)) (S := Sv1) (G := Gv1) (⟨i + 1, some ⟨g4, 0, none⟩, 128⟩ : Nat × Option Addr × Nat) ?_ ?_ ?_ ?_
     ·exact ⟨rfl, rfl, rfl, rfl, rfl, rfl, trivial⟩
     ·exact (by dsimp only [Sv1]; rw [hz1, hv1] <;> rfl)
     ·exact ⟨rfl, ⟨by omega, by omega⟩⟩
     ·dsimp only [Mv1]; omega
 ·intro hc17
  try simp only [decide_eq_false_iff_not] at hc17
  have hi1 : i = 128 := by omega
  subst hi1
  refine ew_exit _ rfl ?_
  refine nk_seq ?_
  refine ew_seq ?_
  refine rg (.q 0 (.q 1 XT.done)) (by kernel_rfl) (by kernel_rfl) ?_
  refine q_mv rfl rfl rfl ?_
  refine q_as rfl rfl rfl ?_
  refine x_end ?_
  refine nk_cut (e' := [(0, _), (1, _), (4, _), (5, _), (6, _), (7, _), (17, _)]) [0, 1, 4, 5, 6, 7, 17] rfl ?_
  refine nk_seq ?_
  refine ew_retk 1 rfl rfl (.cons (.tmp rfl) .nil) rfl rfl ?_
  exact ⟨_, _, rfl, rfl, Nat.le_refl _, rfl⟩

end Go.GW
