/- Contracts of functions of the loaded program, printed by our own program gen.py. -/
import Derived.Test.YtcchamnagcpaiaaAesA
namespace Go.GW
open Go Go.Proofs
set_option linter.unusedSimpArgs false
set_option linter.unusedVariables false


def sbx (n : Nat) : UInt8 := aesBox.getD n 0
def stw (n : Nat) : UInt8 := aesTwo.getD n 0
theorem tab_box {H : Hp} {g : Nat} (h : TabP H g) {k i : Nat} (hk : k = i) (hi : i < 256) : cellH H ⟨g, k, none⟩ = some (SV.val (.u8 (sbx i))) :=
  h.at_ (nth_left (nthM SV.u8 0 hk (by rw [aesBox_len]; exact hi)))
theorem tab_two {H : Hp} {g : Nat} (h : TabP H g) {k i : Nat} (hk : k = 256 + i) (hi : i < 256) : cellH H ⟨g, k, none⟩ = some (SV.val (.u8 (stw i))) :=
  h.at_ (nth_right (by rw [List.length_map, aesBox_len]; exact hk) (nthM SV.u8 0 rfl (by rw [aesTwo_len]; exact hi)))
theorem shr24_lt (n : UInt32) : (shr_u32 n 24).toNat < 256 := by
  unfold shr_u32
  have := n.toNat_lt
  rw [UInt32.toNat_ofNat', Nat.shiftRight_eq_div_pow]
  omega
theorem and255_lt (n : UInt32) : (n &&& 255).toNat < 256 := by
  rw [UInt32.toNat_and]
  exact Nat.lt_succ_of_le Nat.and_le_right
def wordF (n : UInt32) : UInt32 := shl_u32 (sbx (shr_u32 n 24).toNat).toUInt32 24 ||| shl_u32 (sbx (shr_u32 n 16 &&& 255).toNat).toUInt32 16 ||| shl_u32 (sbx (shr_u32 n 8 &&& 255).toNat).toUInt32 8 ||| (sbx (n &&& 255).toNat).toUInt32
/-- a cipher: its tables, its rounds' keys -/
structure CipP (H : Hp) (gc gt : Nat) (ks : List UInt8) : Prop where
  row : RR H (some ⟨gc, 0, none⟩) (.p ⟨gt, 0, none⟩ :: ks.map SV.u8)
  len : ks.length = 240
  tab : TabP H gt
theorem CipP.mono {H H' : Hp} {gc gt : Nat} {ks : List UInt8} (h : CipP H gc gt ks) (hle : HLe H H') : CipP H' gc gt ks := ⟨RR.mono h.row hle, h.len, h.tab.mono hle⟩
theorem CipP.key {H : Hp} {gc gt : Nat} {ks : List UInt8} (h : CipP H gc gt ks) {k i : Nat} (hk : k = 1 + i) (hi : i < 240) : cellH H ⟨gc, k, none⟩ = some (SV.val (.u8 (ks.getD i 0))) :=
  h.row.at_ (nth_right (l := [.p ⟨gt, 0, none⟩]) hk (nthM SV.u8 0 rfl (by rw [h.len]; exact hi)))
def addF (ks b : List UInt8) (r : Nat) : List UInt8 := (List.range 16).map fun i => b.getD i 0 ^^^ ks.getD (16 * r + i) 0
def shiftF (b : List UInt8) : List UInt8 := (List.range 16).map fun i => sbx (b.getD ((i + 4 * (i % 4)) % 16) 0).toNat
def allB (b : List UInt8) (q : Nat) : UInt8 := b.getD (4 * q) 0 ^^^ b.getD (4 * q + 1) 0 ^^^ b.getD (4 * q + 2) 0 ^^^ b.getD (4 * q + 3) 0
def mixAt (b : List UInt8) (q k : Nat) : UInt8 := b.getD (4 * q + k) 0 ^^^ allB b q ^^^ stw (b.getD (4 * q + k) 0 ^^^ b.getD (4 * q + (k + 1) % 4) 0).toNat
def mixF (b : List UInt8) : List UInt8 := (List.range 16).map fun j => mixAt b (j / 4) (j % 4)
theorem mixF_at (b : List UInt8) {q k : Nat} (hk : k < 4) : mixAt b q k = (fun j => mixAt b (j / 4) (j % 4)) (4 * q + k) := by
  simp only
  rw [show (4 * q + k) / 4 = q by omega, show (4 * q + k) % 4 = k by omega]
theorem addF_len (ks b : List UInt8) (r : Nat) : (addF ks b r).length = 16 := by simp [addF]
theorem shiftF_len (b : List UInt8) : (shiftF b).length = 16 := by simp [shiftF]
theorem mixF_len (b : List UInt8) : (mixF b).length = 16 := by simp [mixF]
def rnd (ks b : List UInt8) : Nat → List UInt8
  | 0 => addF ks b 0
  | r + 1 => addF ks (mixF (shiftF (rnd ks b r))) (r + 1)
def blockF (ks b : List UInt8) : List UInt8 := addF ks (shiftF (rnd ks b 13)) 14
theorem rnd_len (ks b : List UInt8) (r : Nat) : (rnd ks b r).length = 16 := by cases r <;> exact addF_len ..
theorem blockF_len (ks b : List UInt8) : (blockF ks b).length = 16 := addF_len ..

theorem AesWord_hc {H : Hp} {gt : Nat} {n : UInt32} (ht : TabP H gt) :
  HC Try.prog 138 [.p ⟨gt, 0, none⟩, .u32 n] [] H (fun r S' H' => r = .u32 (wordF n) ∧ S' = [] ∧ H' = H) := by
 have h1 := shr24_lt n
 have h2 := and255_lt (shr_u32 n 16)
 have h3 := and255_lt (shr_u32 n 8)
 have h4 := and255_lt n
 refine hc_intro (n := 45) Try.func138 rfl Try.ntmps138 rfl (fun B hB => ?_)
 refine ew_cut (e' := [(0, _), (1, _)]) [0, 1] rfl ?_
 refine ew_seq ?_
 refine rg (.q 0 XT.done) (by kernel_rfl) (by kernel_rfl) ?_
 refine q_as (sv := .u32 0) rfl rfl rfl ?_
 refine x_end ?_
 refine nk_cut (e' := [(0, _), (1, _), (4, _)]) [0, 1, 4] rfl ?_
 refine nk_seq ?_
 refine ew_seq ?_
 refine rd (by kernel_rfl) [0, 1, 2, 3, 4, 5, 6, 7, 8, 9, 10, 11, 12, 13, 14, 15, 16, 17, 18, 19, 20, 21, 22, 23, 24, 25, 26, 27, 28, 29, 30, 31, 32, 33, 34, 35, 36, 37, 38, 39, 40] [0, 1, 2, 3, 4, 5, 6, 7, 8, 9, 10, 11, 12, 13, 14, 15, 16, 17, 18, 19, 20, 21, 22, 23, 24, 25, 26, 27, 28, 29, 30, 31, 32, 33, 34, 35, 36, 37, 38, 39, 40] (.q 0 (.q 1 (.q 2 (.q 3 (.q 4 (.q 5 (.q 6 (.q 7 (.q 8 (.q 9 (.q 10 (.q 11 (.q 12 (.q 13 (.q 14 (.q 15 (.q 16 (.q 17 (.q 18 (.q 19 (.q 20 (.q 21 (.q 22 (.q 23 (.q 24 (.q 25 (.q 26 (.q 27 (.q 28 (.q 29 (.q 30 (.q 31 (.q 32 (.q 33 (.q 34 (.q 35 (.q 36 (.q 37 (.q 38 (.q 39 (.q 40 XT.done))))))))))))))))))))))))))))))))))))))))) (by kernel_rfl) (by kernel_rfl) (keepL _ []) (keepL_sub _ _) ?_
 refine q_mv rfl rfl rfl ?_
 refine q_mv rfl rfl rfl ?_
 refine q_shr_u32u rfl rfl rfl rfl ?_
 refine q_nil rfl rfl rfl ?_
 refine q_fa fa_193_0 rfl rfl rfl ?_
 refine q_ixa1 Try.underlying191 Try.sizeOf5 rfl rfl rfl rfl rfl (by omega) (Int.ofNat_lt.2 h1) ?_
 refine q_ldp Try.isAgg5 rfl rfl rfl (tab_box ht (i := (shr_u32 n 24).toNat) (Nat.zero_add _) h1) ?_
 refine q_cv_u8_u32 Try.underlying227 (by kernel_rfl) rfl rfl rfl ?_
 refine q_shl_u32u rfl rfl rfl rfl ?_
 refine q_mv rfl rfl rfl ?_
 refine q_mv rfl rfl rfl ?_
 refine q_shr_u32u rfl rfl rfl rfl ?_
 refine q_and_u32 rfl rfl rfl rfl ?_
 refine q_nil rfl rfl rfl ?_
 refine q_fa fa_193_0 rfl rfl rfl ?_
 refine q_ixa1 Try.underlying191 Try.sizeOf5 rfl rfl rfl rfl rfl (by omega) (Int.ofNat_lt.2 h2) ?_
 refine q_ldp Try.isAgg5 rfl rfl rfl (tab_box ht (i := (shr_u32 n 16 &&& 255).toNat) (Nat.zero_add _) h2) ?_
 refine q_cv_u8_u32 Try.underlying227 (by kernel_rfl) rfl rfl rfl ?_
 refine q_shl_u32u rfl rfl rfl rfl ?_
 refine q_or_u32 rfl rfl rfl rfl ?_
 refine q_mv rfl rfl rfl ?_
 refine q_mv rfl rfl rfl ?_
 refine q_shr_u32u rfl rfl rfl rfl ?_
 refine q_and_u32 rfl rfl rfl rfl ?_
 refine q_nil rfl rfl rfl ?_
 refine q_fa fa_193_0 rfl rfl rfl ?_
 refine q_ixa1 Try.underlying191 Try.sizeOf5 rfl rfl rfl rfl rfl (by omega) (Int.ofNat_lt.2 h3) ?_
 refine q_ldp Try.isAgg5 rfl rfl rfl (tab_box ht (i := (shr_u32 n 8 &&& 255).toNat) (Nat.zero_add _) h3) ?_
 refine q_cv_u8_u32 Try.underlying227 (by kernel_rfl) rfl rfl rfl ?_
 refine q_shl_u32u rfl rfl rfl rfl ?_
 refine q_or_u32 rfl rfl rfl rfl ?_
 refine q_mv rfl rfl rfl ?_
 refine q_mv rfl rfl rfl ?_
 refine q_and_u32 rfl rfl rfl rfl ?_
 refine q_nil rfl rfl rfl ?_
 refine q_fa fa_193_0 rfl rfl rfl ?_
 refine q_ixa1 Try.underlying191 Try.sizeOf5 rfl rfl rfl rfl rfl (by omega) (Int.ofNat_lt.2 h4) ?_
 refine q_ldp Try.isAgg5 rfl rfl rfl (tab_box ht (i := (n &&& 255).toNat) (Nat.zero_add _) h4) ?_
 refine q_cv_u8_u32 Try.underlying227 (by kernel_rfl) rfl rfl rfl ?_
 refine q_or_u32 rfl rfl rfl rfl ?_
 refine q_as rfl rfl rfl ?_
 refine x_end ?_
 refine nk_cut (e' := [(0, _), (1, _), (4, _)]) [0, 1, 4] rfl ?_
 refine nk_seq ?_
 refine ew_retS rfl rfl (.cons (.tmp rfl) .nil) ?_
 exact ⟨rfl, rfl, rfl⟩


theorem AesAdd_hc {H : Hp} {gc gt : Nat} {ks b : List UInt8} (hc : CipP H gc gt ks) (hb : b.length = 16) {r : Int} (hr : 0 ≤ r) (hr2 : r ≤ 14) :
  HC Try.prog 139 [.p ⟨gc, 0, none⟩, .agg (b.map SV.u8), .i r] [] H (fun z S' H' => z = .agg ((addF ks b r.toNat).map SV.u8) ∧ S' = [] ∧ H' = H) := by
 refine hc_intro (n := 26) Try.func139 rfl Try.ntmps139 rfl (fun B hB => ?_)
 refine ew_cut (e' := [(0, _), (1, _), (2, _)]) [0, 1, 2] rfl ?_
 refine ew_seq ?_
 refine rg (.h 0 (.h 1 XT.done)) (by kernel_rfl) (by kernel_rfl) ?_
 refine h_boxS rfl rfl rfl ?_
 intro g1
 refine ⟨kp0, ?_⟩
 refine h_alloc (cs := _) Try.zeroValue182 rfl rfl (zc_182 Try.zeroValue182) ?_
 intro g2
 refine ⟨kp0, ?_⟩
 refine x_end ?_
 refine nk_cut (e' := [(0, _), (1, _), (2, _), (4, _), (6, _)]) [0, 1, 2, 4, 6] rfl ?_
 refine nk_seq ?_
 refine ew_seq ?_
 refine ew_seq ?_
 refine rg (.q 0 XT.done) (by kernel_rfl) (by kernel_rfl) ?_
 refine q_mv (sv := .i 0) rfl rfl rfl ?_
 refine x_end ?_
 refine nk_cut (e' := [(0, _), (1, _), (2, _), (4, _), (6, _), (8, _)]) [0, 1, 2, 4, 6, 8] rfl ?_
 refine nk_seq ?_
 refine ew_block ?_
 let Ev1 : Nat → Env := fun k => [(8, .i (k : Int))]
 let Sv1 : Nat → Res := fun k => [.box g2 182 (List.replicate 16 (SV.u8 0)), .box g1 182 ((pl (fun i => b.getD i 0 ^^^ ks.getD (16 * r.toNat + i) 0) (fun i => b.getD i 0) 16 k).map SV.u8)]
 let Gv1 : Nat → Hp → Prop := fun k H' => H = H' ∧ (k ≤ 16)
 let Mv1 : Nat → Nat := fun k => 16 - k
 refine ew_loop (mkE [(0, _), (1, _), (2, _), (4, _), (6, _)] Ev1) (Sv1) Gv1 Mv1 (0 : Nat) ⟨rfl, rfl, rfl, rfl, rfl, rfl, trivial⟩ (by dsimp only [Sv1]; rw [pl_zero, range_list b 0 hb]; rfl) ⟨rfl, (by omega)⟩ ?_
 rintro k H' ⟨rfl, hG⟩
 have hpl := pl_len (fun i => b.getD i 0 ^^^ ks.getD (16 * r.toNat + i) 0) (fun i => b.getD i 0) 16 k
 refine ew_S (S' := [_, _]) rfl ?_
 refine ew_cut (e' := [(8, _), (0, _), (1, _), (2, _), (4, _), (6, _)]) [8, 0, 1, 2, 4, 6] rfl ?_
 refine ew_seq ?_
 refine rg (.q 0 XT.done) (by kernel_rfl) (by kernel_rfl) ?_
 refine q_lt rfl rfl rfl rfl ?_
 refine x_end ?_
 refine nk_cut (e' := [(0, _), (1, _), (2, _), (4, _), (6, _), (8, _), (9, _)]) [0, 1, 2, 4, 6, 8, 9] rfl ?_
 refine nk_seq ?_
 refine ew_seq ?_
 refine ew_cond rfl ?_ ?_
 ·intro hc9
  try simp only [decide_eq_true_eq] at hc9
  refine ew_skip ?_
  refine nk_seq ?_
  refine ew_seq ?_
  refine ew_block ?_
  refine ew_seq ?_
  refine rg (.q 0 (.q 1 XT.done)) (by kernel_rfl) (by kernel_rfl) ?_
  refine q_mv rfl rfl rfl ?_
  refine q_as rfl rfl rfl ?_
  refine x_end ?_
  refine nk_cut (e' := [(0, _), (1, _), (2, _), (4, _), (6, _), (7, _), (8, _), (9, _)]) [0, 1, 2, 4, 6, 7, 8, 9] rfl ?_
  refine nk_seq ?_
  refine rd (by kernel_rfl) [0, 1, 2, 3, 4, 5, 6, 7, 8, 9, 10, 11, 12] [0, 1, 2, 3, 4, 5, 6, 7, 8, 9, 10, 11, 12] (.q 0 (.q 1 (.q 2 (.q 3 (.q 4 (.q 5 (.q 6 (.q 7 (.q 8 (.q 9 (.q 10 (.q 11 (.q 12 (.h 13 XT.done)))))))))))))) (by kernel_rfl) (by kernel_rfl) (keepL _ [1]) (keepL_sub _ _) ?_
  refine q_mv rfl rfl rfl ?_
  refine q_ixa1 Try.underlying182 Try.sizeOf5 rfl rfl rfl rfl rfl (by omega) (by omega) ?_
  refine q_ld 0 Try.isAgg5 rfl rfl rfl rfl (nthM SV.u8 0 (i := k) (Nat.zero_add _) (by rw [hpl]; omega)) ?_
  iterate 3 refine q_mv rfl rfl rfl ?_
  refine q_nil rfl rfl rfl ?_
  refine q_fa fa_226_1 rfl rfl rfl ?_
  refine q_ixa Try.underlying224 Try.sizeOf182 rfl rfl rfl rfl rfl (by omega) (by omega) ?_
  refine q_ixa1 Try.underlying182 Try.sizeOf5 rfl rfl rfl rfl rfl (by omega) (by omega) ?_
  refine q_ldp Try.isAgg5 rfl rfl rfl (hc.key (i := 16 * r.toNat + k) (by omega) (by omega)) ?_
  refine q_xor_u8 rfl rfl rfl rfl ?_
  refine q_ixa1 Try.underlying182 Try.sizeOf5 rfl rfl rfl rfl rfl (by omega) (by omega) ?_
  refine h_st (cs' := ((pl (fun i => b.getD i 0 ^^^ ks.getD (16 * r.toNat + i) 0) (fun i => b.getD i 0) 16 (k + 1)).map SV.u8)) (S' := [_, _]) 1 Try.sizeOf5 rfl rfl rfl rfl rfl rfl (by rw [List.length_map, hpl]; omega) (putM SV.u8 (by omega) (by rw [hpl]; omega) (pl_set _ _ (by rw [pl_get _ _ _ _ _ (by omega), if_neg (Nat.lt_irrefl _)]))) rfl (fun h => absurd h (by decide)) ?_
  refine x_end ?_
  refine nk_cut (e' := [(0, _), (1, _), (2, _), (4, _), (6, _), (7, _), (8, _), (9, _)]) [0, 1, 2, 4, 6, 7, 8, 9] rfl ?_
  refine nk_blk ?_
  refine nk_seq ?_
  refine rg (.q 0 (.q 1 XT.done)) (by kernel_rfl) (by kernel_rfl) ?_
  refine q_add rfl rfl rfl rfl (by omega) (by omega) ?_
  refine q_mv rfl rfl rfl ?_
  refine x_end ?_
  refine nk_cut (e' := [(0, _), (1, _), (2, _), (4, _), (6, _), (7, _), (8, _), (9, _)]) [0, 1, 2, 4, 6, 7, 8, 9] rfl ?_
  refine nk_round (μ := Mv1) (i := k) (S := Sv1) (G := Gv1) (k + 1 : Nat) ?_ ?_ ?_ ?_
  ·exact ⟨rfl, rfl, rfl, rfl, rfl, rfl, trivial⟩
  ·exact rfl
  ·exact ⟨rfl, by omega⟩
  ·dsimp only [Mv1]; omega
 ·intro hc9
  try simp only [decide_eq_false_iff_not] at hc9
  have hk16 : k = 16 := by omega
  subst hk16
  refine ew_exit _ rfl ?_
  refine nk_seq ?_
  refine ew_seq ?_
  refine rg (.q 0 (.h 1 XT.done)) (by kernel_rfl) (by kernel_rfl) ?_
  refine q_ldS 1 Try.isAgg182 Try.sizeOf182 rfl rfl rfl rfl rfl ?_
  refine h_stS (cs' := ((pl (fun i => b.getD i 0 ^^^ ks.getD (16 * r.toNat + i) 0) (fun i => b.getD i 0) 16 16).map SV.u8)) (S' := [_, _]) 0 Try.sizeOf182 rfl rfl rfl rfl rfl (oneU8 _) rfl (leb rfl) (putL_all _ _ (by rw [List.length_map, pl_len]; rfl)) rfl kp0 ?_
  refine x_end ?_
  refine nk_cut (e' := [(0, _), (1, _), (2, _), (4, _), (6, _), (8, _), (9, _)]) [0, 1, 2, 4, 6, 8, 9] rfl ?_
  refine nk_seq ?_
  refine ew_retS rfl rfl (.cons (.agg 0 Try.isAgg182 Try.sizeOf182 rfl rfl rfl) .nil) ?_
  rw [pl_all _ _ (Nat.le_refl _)]
  exact ⟨rfl, rfl, rfl⟩


theorem AesShift_hc {H : Hp} {gc gt : Nat} {ks b : List UInt8} (hc : CipP H gc gt ks) (hb : b.length = 16) :
  HC Try.prog 141 [.p ⟨gc, 0, none⟩, .agg (b.map SV.u8)] [] H (fun z S' H' => z = .agg ((shiftF b).map SV.u8) ∧ S' = [] ∧ H' = H) := by
 have ht := hc.tab
 refine hc_intro (n := 30) Try.func141 rfl Try.ntmps141 rfl (fun B hB => ?_)
 refine ew_cut (e' := [(0, _), (1, _)]) [0, 1] rfl ?_
 refine ew_seq ?_
 refine rg (.h 0 (.h 1 XT.done)) (by kernel_rfl) (by kernel_rfl) ?_
 refine h_boxS rfl rfl rfl ?_
 intro g1
 refine ⟨kp0, ?_⟩
 refine h_alloc (cs := _) Try.zeroValue182 rfl rfl (zc_182 Try.zeroValue182) ?_
 intro g2
 refine ⟨kp0, ?_⟩
 refine x_end ?_
 refine nk_cut (e' := [(0, _), (1, _), (3, _), (4, _)]) [0, 1, 3, 4] rfl ?_
 refine nk_seq ?_
 refine ew_seq ?_
 refine rg (.h 0 XT.done) (by kernel_rfl) (by kernel_rfl) ?_
 refine h_alloc (cs := _) Try.zeroValue182 rfl rfl (zc_182 Try.zeroValue182) ?_
 intro g3
 refine ⟨kp0, ?_⟩
 refine x_end ?_
 refine nk_cut (e' := [(0, _), (1, _), (3, _), (4, _), (5, _)]) [0, 1, 3, 4, 5] rfl ?_
 refine nk_seq ?_
 refine ew_seq ?_
 refine ew_seq ?_
 refine rg (.q 0 XT.done) (by kernel_rfl) (by kernel_rfl) ?_
 refine q_mv (sv := .i 0) rfl rfl rfl ?_
 refine x_end ?_
 refine nk_cut (e' := [(0, _), (1, _), (3, _), (4, _), (5, _), (7, _)]) [0, 1, 3, 4, 5, 7] rfl ?_
 refine nk_seq ?_
 refine ew_block ?_
 let Ev1 : Nat → Env := fun k => [(7, .i (k : Int))]
 let Sv1 : Nat → Res := fun k => [.box g3 182 ((pl (fun i => sbx (b.getD ((i + 4 * (i % 4)) % 16) 0).toNat) z8 16 k).map SV.u8), .box g2 182 (List.replicate 16 (SV.u8 0)), .box g1 182 (b.map SV.u8)]
 let Gv1 : Nat → Hp → Prop := fun k H' => H = H' ∧ (k ≤ 16)
 let Mv1 : Nat → Nat := fun k => 16 - k
 refine ew_loop (mkE [(0, _), (1, _), (3, _), (4, _), (5, _)] Ev1) (Sv1) Gv1 Mv1 (0 : Nat) ⟨rfl, rfl, rfl, rfl, rfl, rfl, trivial⟩ (by dsimp only [Sv1]; rw [pl_zero]; rfl) ⟨rfl, (by omega)⟩ ?_
 rintro k H' ⟨rfl, hG⟩
 have hpl := pl_len (fun i => sbx (b.getD ((i + 4 * (i % 4)) % 16) 0).toNat) z8 16 k
 refine ew_S (S' := [_, _, _]) rfl ?_
 refine ew_cut (e' := [(7, _), (0, _), (1, _), (3, _), (4, _), (5, _)]) [7, 0, 1, 3, 4, 5] rfl ?_
 refine ew_seq ?_
 refine rg (.q 0 XT.done) (by kernel_rfl) (by kernel_rfl) ?_
 refine q_lt rfl rfl rfl rfl ?_
 refine x_end ?_
 refine nk_cut (e' := [(0, _), (1, _), (3, _), (4, _), (5, _), (7, _), (8, _)]) [0, 1, 3, 4, 5, 7, 8] rfl ?_
 refine nk_seq ?_
 refine ew_seq ?_
 refine ew_cond rfl ?_ ?_
 ·intro hc8
  try simp only [decide_eq_true_eq] at hc8
  refine ew_skip ?_
  refine nk_seq ?_
  refine ew_seq ?_
  refine ew_block ?_
  refine ew_seq ?_
  refine rg (.q 0 (.q 1 XT.done)) (by kernel_rfl) (by kernel_rfl) ?_
  refine q_mv rfl rfl rfl ?_
  refine q_as rfl rfl rfl ?_
  refine x_end ?_
  refine nk_cut (e' := [(0, _), (1, _), (3, _), (4, _), (5, _), (6, _), (7, _), (8, _)]) [0, 1, 3, 4, 5, 6, 7, 8] rfl ?_
  refine nk_seq ?_
  refine rd (by kernel_rfl) [0, 1, 2, 3, 4, 5, 6, 7, 8, 9, 10, 11, 12, 13, 14, 15, 16, 17] [0, 1, 2, 3, 4, 5, 6, 7, 8, 9, 10, 11, 12, 13, 14, 15, 16, 17] (.q 0 (.q 1 (.q 2 (.q 3 (.q 4 (.q 5 (.q 6 (.q 7 (.q 8 (.q 9 (.q 10 (.q 11 (.q 12 (.q 13 (.q 14 (.q 15 (.q 16 (.q 17 (.h 18 XT.done))))))))))))))))))) (by kernel_rfl) (by kernel_rfl) (keepL _ [2]) (keepL_sub _ _) ?_
  refine q_mv rfl rfl rfl ?_
  refine q_mv rfl rfl rfl ?_
  refine q_nil rfl rfl rfl ?_
  refine q_fa fa_226_0 rfl rfl rfl ?_
  refine q_ldp Try.isAgg107 rfl rfl rfl (hc.row.at_ (rfl)) ?_
  refine q_mv rfl rfl rfl ?_
  refine q_mv rfl rfl rfl ?_
  refine q_rem rfl rfl rfl rfl (by omega) (by omega) (by omega) ?_
  refine q_mul rfl rfl rfl rfl (by omega) (by omega) ?_
  refine q_add rfl rfl rfl rfl (by omega) (by omega) ?_
  refine q_rem rfl rfl rfl rfl (by omega) (by omega) (by omega) ?_
  refine q_ixa1 Try.underlying182 Try.sizeOf5 rfl rfl rfl rfl rfl (by omega) (by omega) ?_
  refine q_ld 0 Try.isAgg5 rfl rfl rfl rfl (nthM SV.u8 0 (i := (k + 4 * (k % 4)) % 16) (by omega) (by omega)) ?_
  refine q_nil rfl rfl rfl ?_
  refine q_fa fa_193_0 rfl rfl rfl ?_
  refine q_ixa1 Try.underlying191 Try.sizeOf5 rfl rfl rfl rfl rfl (by omega) (u8_lt _) ?_
  refine q_ldp Try.isAgg5 rfl rfl rfl (tab_box ht (i := (b.getD ((k + 4 * (k % 4)) % 16) 0).toNat) (Nat.zero_add _) (UInt8.toNat_lt _)) ?_
  refine q_ixa1 Try.underlying182 Try.sizeOf5 rfl rfl rfl rfl rfl (by omega) (by omega) ?_
  refine h_st (cs' := ((pl (fun i => sbx (b.getD ((i + 4 * (i % 4)) % 16) 0).toNat) z8 16 (k + 1)).map SV.u8)) (S' := [_, _, _]) 0 Try.sizeOf5 rfl rfl rfl rfl rfl rfl (by rw [List.length_map, hpl]; omega) (putM SV.u8 (by omega) (by rw [hpl]; omega) (pl_set _ _ rfl)) rfl (fun h => absurd h (by decide)) ?_
  refine x_end ?_
  refine nk_cut (e' := [(0, _), (1, _), (3, _), (4, _), (5, _), (6, _), (7, _), (8, _)]) [0, 1, 3, 4, 5, 6, 7, 8] rfl ?_
  refine nk_blk ?_
  refine nk_seq ?_
  refine rg (.q 0 (.q 1 XT.done)) (by kernel_rfl) (by kernel_rfl) ?_
  refine q_add rfl rfl rfl rfl (by omega) (by omega) ?_
  refine q_mv rfl rfl rfl ?_
  refine x_end ?_
  refine nk_cut (e' := [(0, _), (1, _), (3, _), (4, _), (5, _), (6, _), (7, _), (8, _)]) [0, 1, 3, 4, 5, 6, 7, 8] rfl ?_
  refine nk_round (μ := Mv1) (i := k) (S := Sv1) (G := Gv1) (k + 1 : Nat) ?_ ?_ ?_ ?_
  ·exact ⟨rfl, rfl, rfl, rfl, rfl, rfl, trivial⟩
  ·exact rfl
  ·exact ⟨rfl, by omega⟩
  ·dsimp only [Mv1]; omega
 ·intro hc8
  try simp only [decide_eq_false_iff_not] at hc8
  have hk16 : k = 16 := by omega
  subst hk16
  refine ew_exit _ rfl ?_
  refine nk_seq ?_
  refine ew_seq ?_
  refine rg (.q 0 (.h 1 XT.done)) (by kernel_rfl) (by kernel_rfl) ?_
  refine q_ldS 0 Try.isAgg182 Try.sizeOf182 rfl rfl rfl rfl rfl ?_
  refine h_stS (cs' := ((pl (fun i => sbx (b.getD ((i + 4 * (i % 4)) % 16) 0).toNat) z8 16 16).map SV.u8)) (S' := [_, _, _]) 1 Try.sizeOf182 rfl rfl rfl rfl rfl (oneU8 _) rfl (leb rfl) (putL_all _ _ (by rw [List.length_map, pl_len]; rfl)) rfl kp0 ?_
  refine x_end ?_
  refine nk_cut (e' := [(0, _), (1, _), (3, _), (4, _), (5, _), (7, _), (8, _)]) [0, 1, 3, 4, 5, 7, 8] rfl ?_
  refine nk_seq ?_
  refine ew_retS rfl rfl (.cons (.agg 1 Try.isAgg182 Try.sizeOf182 rfl rfl rfl) .nil) ?_
  rw [pl_all _ _ (Nat.le_refl _)]
  exact ⟨rfl, rfl, rfl⟩


theorem AesMix_hc {H : Hp} {gc gt : Nat} {ks b : List UInt8} (hc : CipP H gc gt ks) (hb : b.length = 16) :
  HC Try.prog 140 [.p ⟨gc, 0, none⟩, .agg (b.map SV.u8)] [] H (fun z S' H' => z = .agg ((mixF b).map SV.u8) ∧ S' = [] ∧ H' = H) := by
 have ht := hc.tab
 refine hc_intro (n := 69) Try.func140 rfl Try.ntmps140 rfl (fun B hB => ?_)
 refine ew_cut (e' := [(0, _), (1, _)]) [0, 1] rfl ?_
 refine ew_seq ?_
 refine rg (.h 0 (.h 1 XT.done)) (by kernel_rfl) (by kernel_rfl) ?_
 refine h_boxS rfl rfl rfl ?_
 intro g1
 refine ⟨kp0, ?_⟩
 refine h_alloc (cs := _) Try.zeroValue182 rfl rfl (zc_182 Try.zeroValue182) ?_
 intro g2
 refine ⟨kp0, ?_⟩
 refine x_end ?_
 refine nk_cut (e' := [(0, _), (1, _), (3, _), (4, _)]) [0, 1, 3, 4] rfl ?_
 refine nk_seq ?_
 refine ew_seq ?_
 refine rg (.h 0 XT.done) (by kernel_rfl) (by kernel_rfl) ?_
 refine h_alloc (cs := _) Try.zeroValue182 rfl rfl (zc_182 Try.zeroValue182) ?_
 intro g3
 refine ⟨kp0, ?_⟩
 refine x_end ?_
 refine nk_cut (e' := [(0, _), (1, _), (3, _), (4, _), (5, _)]) [0, 1, 3, 4, 5] rfl ?_
 refine nk_seq ?_
 refine ew_seq ?_
 refine ew_seq ?_
 refine rg (.q 0 XT.done) (by kernel_rfl) (by kernel_rfl) ?_
 refine q_as (sv := .i 0) rfl rfl rfl ?_
 refine x_end ?_
 refine nk_cut (e' := [(0, _), (1, _), (3, _), (4, _), (5, _), (6, _)]) [0, 1, 3, 4, 5, 6] rfl ?_
 refine nk_seq ?_
 refine ew_block ?_
 let Ev1 : Nat → Env := fun q => [(6, .i (4 * (q : Int)))]
 let Sv1 : Nat → Res := fun q => [.box g3 182 ((pl (fun j => mixAt b (j / 4) (j % 4)) z8 16 (4 * q)).map SV.u8), .box g2 182 (List.replicate 16 (SV.u8 0)), .box g1 182 (b.map SV.u8)]
 let Gv1 : Nat → Hp → Prop := fun q H' => H = H' ∧ (q ≤ 4)
 let Mv1 : Nat → Nat := fun q => 4 - q
 refine ew_loop (mkE [(0, _), (1, _), (3, _), (4, _), (5, _)] Ev1) (Sv1) Gv1 Mv1 (0 : Nat) ⟨rfl, rfl, rfl, rfl, rfl, rfl, trivial⟩ (by dsimp only [Sv1]; rw [Nat.mul_zero, pl_zero]; rfl) ⟨rfl, (by omega)⟩ ?_
 rintro q H' ⟨rfl, hG⟩
 refine ew_S (S' := [_, _, _]) rfl ?_
 refine ew_cut (e' := [(6, _), (0, _), (1, _), (3, _), (4, _), (5, _)]) [6, 0, 1, 3, 4, 5] rfl ?_
 refine ew_seq ?_
 refine ew_seq ?_
 refine rg (.q 0 (.q 1 XT.done)) (by kernel_rfl) (by kernel_rfl) ?_
 refine q_mv rfl rfl rfl ?_
 refine q_lt rfl rfl rfl rfl ?_
 refine x_end ?_
 refine nk_cut (e' := [(0, _), (1, _), (3, _), (4, _), (5, _), (6, _), (10, _)]) [0, 1, 3, 4, 5, 6, 10] rfl ?_
 refine nk_seq ?_
 refine ew_cond rfl ?_ ?_
 ·intro hc10
  try simp only [decide_eq_true_eq] at hc10
  refine ew_skip ?_
  refine nk_seq ?_
  refine ew_seq ?_
  refine ew_block ?_
  refine ew_seq ?_
  refine rd (by kernel_rfl) [0, 1, 2, 3, 4, 5, 6, 7, 8, 9, 10, 11, 12, 13, 14, 15, 16, 17, 18] [0, 1, 2, 3, 4, 5, 6, 7, 8, 9, 10, 11, 12, 13, 14, 15, 16, 17, 18] (.q 0 (.q 1 (.q 2 (.q 3 (.q 4 (.q 5 (.q 6 (.q 7 (.q 8 (.q 9 (.q 10 (.q 11 (.q 12 (.q 13 (.q 14 (.q 15 (.q 16 (.q 17 (.q 18 XT.done))))))))))))))))))) (by kernel_rfl) (by kernel_rfl) (keepL _ [2]) (keepL_sub _ _) ?_
  refine q_mv rfl rfl rfl ?_
  refine q_ixa1 Try.underlying182 Try.sizeOf5 rfl rfl rfl rfl rfl (by omega) (by omega) ?_
  refine q_ld 0 Try.isAgg5 rfl rfl rfl rfl (nthM SV.u8 0 (i := 4 * q) (by omega) (by omega)) ?_
  refine q_mv rfl rfl rfl ?_
  refine q_add rfl rfl rfl rfl (by omega) (by omega) ?_
  refine q_ixa1 Try.underlying182 Try.sizeOf5 rfl rfl rfl rfl rfl (by omega) (by omega) ?_
  refine q_ld 0 Try.isAgg5 rfl rfl rfl rfl (nthM SV.u8 0 (i := 4 * q + 1) (by omega) (by omega)) ?_
  refine q_xor_u8 rfl rfl rfl rfl ?_
  refine q_mv rfl rfl rfl ?_
  refine q_add rfl rfl rfl rfl (by omega) (by omega) ?_
  refine q_ixa1 Try.underlying182 Try.sizeOf5 rfl rfl rfl rfl rfl (by omega) (by omega) ?_
  refine q_ld 0 Try.isAgg5 rfl rfl rfl rfl (nthM SV.u8 0 (i := 4 * q + 2) (by omega) (by omega)) ?_
  refine q_xor_u8 rfl rfl rfl rfl ?_
  refine q_mv rfl rfl rfl ?_
  refine q_add rfl rfl rfl rfl (by omega) (by omega) ?_
  refine q_ixa1 Try.underlying182 Try.sizeOf5 rfl rfl rfl rfl rfl (by omega) (by omega) ?_
  refine q_ld 0 Try.isAgg5 rfl rfl rfl rfl (nthM SV.u8 0 (i := 4 * q + 3) (by omega) (by omega)) ?_
  refine q_xor_u8 rfl rfl rfl rfl ?_
  refine q_as rfl rfl rfl ?_
  refine x_end ?_
  refine nk_cut (e' := [(0, _), (1, _), (3, _), (4, _), (5, _), (6, _), (7, _), (10, _)]) [0, 1, 3, 4, 5, 6, 7, 10] rfl ?_
  refine nk_seq ?_
  refine ew_seq ?_
  refine rg (.q 0 XT.done) (by kernel_rfl) (by kernel_rfl) ?_
  refine q_mv (sv := .i 0) rfl rfl rfl ?_
  refine x_end ?_
  refine nk_cut (e' := [(0, _), (1, _), (3, _), (4, _), (5, _), (6, _), (7, _), (10, _), (31, _)]) [0, 1, 3, 4, 5, 6, 7, 10, 31] rfl ?_
  refine nk_seq ?_
  refine ew_block ?_
  let Ev2 : Nat → Env := fun k => [(31, .i (k : Int))]
  let Sv2 : Nat → Res := fun k => [.box g3 182 ((pl (fun j => mixAt b (j / 4) (j % 4)) z8 16 (4 * q + k)).map SV.u8), .box g2 182 (List.replicate 16 (SV.u8 0)), .box g1 182 (b.map SV.u8)]
  let Gv2 : Nat → Hp → Prop := fun k H' => H = H' ∧ (k ≤ 4)
  let Mv2 : Nat → Nat := fun k => 4 - k
  refine ew_loop (mkE [(0, _), (1, _), (3, _), (4, _), (5, _), (6, _), (7, _), (10, _)] Ev2) (Sv2) Gv2 Mv2 (0 : Nat) ⟨rfl, rfl, rfl, rfl, rfl, rfl, rfl, rfl, rfl, trivial⟩ rfl ⟨rfl, (by omega)⟩ ?_
  rintro k H' ⟨rfl, hG⟩
  have hpl := pl_len (fun j => mixAt b (j / 4) (j % 4)) z8 16 (4 * q + k)
  refine ew_S (S' := [_, _, _]) rfl ?_
  refine ew_cut (e' := [(31, _), (0, _), (1, _), (3, _), (4, _), (5, _), (6, _), (7, _), (10, _)]) [31, 0, 1, 3, 4, 5, 6, 7, 10] rfl ?_
  refine ew_seq ?_
  refine rg (.q 0 XT.done) (by kernel_rfl) (by kernel_rfl) ?_
  refine q_lt rfl rfl rfl rfl ?_
  refine x_end ?_
  refine nk_cut (e' := [(0, _), (1, _), (3, _), (4, _), (5, _), (6, _), (7, _), (10, _), (31, _), (32, _)]) [0, 1, 3, 4, 5, 6, 7, 10, 31, 32] rfl ?_
  refine nk_seq ?_
  refine ew_seq ?_
  refine ew_cond rfl ?_ ?_
  ·intro hc32
   try simp only [decide_eq_true_eq] at hc32
   refine ew_skip ?_
   refine nk_seq ?_
   refine ew_seq ?_
   refine ew_block ?_
   refine ew_seq ?_
   refine rg (.q 0 (.q 1 XT.done)) (by kernel_rfl) (by kernel_rfl) ?_
   refine q_mv rfl rfl rfl ?_
   refine q_as rfl rfl rfl ?_
   refine x_end ?_
   refine nk_cut (e' := [(0, _), (1, _), (3, _), (4, _), (5, _), (6, _), (7, _), (8, _), (10, _), (31, _), (32, _)]) [0, 1, 3, 4, 5, 6, 7, 8, 10, 31, 32] rfl ?_
   refine nk_seq ?_
   refine rd (by kernel_rfl) [0, 1, 2, 3, 4, 5, 6, 7, 8, 9, 10, 11, 12, 13, 14, 15, 16, 17, 18, 19, 20, 21, 22, 23, 24, 25, 26, 27, 28, 29, 30, 31, 32] [0, 1, 2, 3, 4, 5, 6, 7, 8, 9, 10, 11, 12, 13, 14, 15, 16, 17, 18, 19, 20, 21, 22, 23, 24, 25, 26, 27, 28, 29, 30, 31, 32] (.q 0 (.q 1 (.q 2 (.q 3 (.q 4 (.q 5 (.q 6 (.q 7 (.q 8 (.q 9 (.q 10 (.q 11 (.q 12 (.q 13 (.q 14 (.q 15 (.q 16 (.q 17 (.q 18 (.q 19 (.q 20 (.q 21 (.q 22 (.q 23 (.q 24 (.q 25 (.q 26 (.q 27 (.q 28 (.q 29 (.q 30 (.q 31 (.q 32 (.h 33 XT.done)))))))))))))))))))))))))))))))))) (by kernel_rfl) (by kernel_rfl) (keepL _ [2]) (keepL_sub _ _) ?_
   refine q_mv rfl rfl rfl ?_
   refine q_mv rfl rfl rfl ?_
   refine q_add rfl rfl rfl rfl (by omega) (by omega) ?_
   refine q_mv rfl rfl rfl ?_
   refine q_mv rfl rfl rfl ?_
   refine q_add rfl rfl rfl rfl (by omega) (by omega) ?_
   refine q_ixa1 Try.underlying182 Try.sizeOf5 rfl rfl rfl rfl rfl (by omega) (by omega) ?_
   refine q_ld 0 Try.isAgg5 rfl rfl rfl rfl (nthM SV.u8 0 (i := 4 * q + k) (by omega) (by omega)) ?_
   refine q_mv rfl rfl rfl ?_
   refine q_xor_u8 rfl rfl rfl rfl ?_
   refine q_mv rfl rfl rfl ?_
   refine q_nil rfl rfl rfl ?_
   refine q_fa fa_226_0 rfl rfl rfl ?_
   refine q_ldp Try.isAgg107 rfl rfl rfl (hc.row.at_ (rfl)) ?_
   refine q_mv rfl rfl rfl ?_
   refine q_mv rfl rfl rfl ?_
   refine q_add rfl rfl rfl rfl (by omega) (by omega) ?_
   refine q_ixa1 Try.underlying182 Try.sizeOf5 rfl rfl rfl rfl rfl (by omega) (by omega) ?_
   refine q_ld 0 Try.isAgg5 rfl rfl rfl rfl (nthM SV.u8 0 (i := 4 * q + k) (by omega) (by omega)) ?_
   refine q_mv rfl rfl rfl ?_
   refine q_mv rfl rfl rfl ?_
   refine q_add rfl rfl rfl rfl (by omega) (by omega) ?_
   refine q_rem rfl rfl rfl rfl (by omega) (by omega) (by omega) ?_
   refine q_add rfl rfl rfl rfl (by omega) (by omega) ?_
   refine q_ixa1 Try.underlying182 Try.sizeOf5 rfl rfl rfl rfl rfl (by omega) (by omega) ?_
   refine q_ld 0 Try.isAgg5 rfl rfl rfl rfl (nthM SV.u8 0 (i := 4 * q + (k + 1) % 4) (by omega) (by omega)) ?_
   refine q_xor_u8 rfl rfl rfl rfl ?_
   refine q_nil rfl rfl rfl ?_
   refine q_fa fa_193_1 rfl rfl rfl ?_
   refine q_ixa1 Try.underlying191 Try.sizeOf5 rfl rfl rfl rfl rfl (by omega) (u8_lt _) ?_
   refine q_ldp Try.isAgg5 rfl rfl rfl (tab_two ht (i := (b.getD (4 * q + k) 0 ^^^ b.getD (4 * q + (k + 1) % 4) 0).toNat) rfl (UInt8.toNat_lt _)) ?_
   refine q_xor_u8 rfl rfl rfl rfl ?_
   refine q_ixa1 Try.underlying182 Try.sizeOf5 rfl rfl rfl rfl rfl (by omega) (by omega) ?_
   refine h_st (cs' := ((pl (fun j => mixAt b (j / 4) (j % 4)) z8 16 (4 * q + k + 1)).map SV.u8)) (S' := [_, _, _]) 0 Try.sizeOf5 rfl rfl rfl rfl rfl rfl (by rw [List.length_map, hpl]; omega) (putM SV.u8 (by omega) (by rw [hpl]; omega) (pl_set _ _ (mixF_at b (by omega)))) rfl (fun h => absurd h (by decide)) ?_
   refine x_end ?_
   refine nk_cut (e' := [(0, _), (1, _), (3, _), (4, _), (5, _), (6, _), (7, _), (8, _), (10, _), (31, _), (32, _)]) [0, 1, 3, 4, 5, 6, 7, 8, 10, 31, 32] rfl ?_
   refine nk_blk ?_
   refine nk_seq ?_
   refine rg (.q 0 (.q 1 XT.done)) (by kernel_rfl) (by kernel_rfl) ?_
   refine q_add rfl rfl rfl rfl (by omega) (by omega) ?_
   refine q_mv rfl rfl rfl ?_
   refine x_end ?_
   refine nk_cut (e' := [(0, _), (1, _), (3, _), (4, _), (5, _), (6, _), (7, _), (8, _), (10, _), (31, _), (32, _)]) [0, 1, 3, 4, 5, 6, 7, 8, 10, 31, 32] rfl ?_
   refine nk_round (μ := Mv2) (i := k) (S := Sv2) (G := Gv2) (k + 1 : Nat) ?_ ?_ ?_ ?_
   ·exact ⟨rfl, rfl, rfl, rfl, rfl, rfl, rfl, rfl, rfl, trivial⟩
   ·exact (by dsimp only [Sv2]; rw [Nat.add_assoc])
   ·exact ⟨rfl, by omega⟩
   ·dsimp only [Mv2]; omega
  ·intro hc32
   try simp only [decide_eq_false_iff_not] at hc32
   have hk4 : k = 4 := by omega
   subst hk4
   refine ew_exit _ rfl ?_
   refine nk_blk ?_
   refine nk_seq ?_
   refine rg (.q 0 (.q 1 (.q 2 XT.done))) (by kernel_rfl) (by kernel_rfl) ?_
   refine q_mv rfl rfl rfl ?_
   refine q_add rfl rfl rfl rfl (by omega) (by omega) ?_
   refine q_as rfl rfl rfl ?_
   refine x_end ?_
   refine nk_cut (e' := [(0, _), (1, _), (3, _), (4, _), (5, _), (6, _), (7, _), (10, _), (31, _), (32, _)]) [0, 1, 3, 4, 5, 6, 7, 10, 31, 32] rfl ?_
   refine nk_round (μ := Mv1) (i := q) (S := Sv1) (G := Gv1) (q + 1 : Nat) ?_ ?_ ?_ ?_
   ·exact ⟨congrArg (fun z => some (SV.i z)) (by omega), rfl, rfl, rfl, rfl, rfl, trivial⟩
   ·exact (by dsimp only [Sv1]; rw [show 4 * (q + 1) = 4 * q + 4 by omega])
   ·exact ⟨rfl, by omega⟩
   ·dsimp only [Mv1]; omega
 ·intro hc10
  try simp only [decide_eq_false_iff_not] at hc10
  have hq4 : q = 4 := by omega
  subst hq4
  refine ew_exit _ rfl ?_
  refine nk_seq ?_
  refine ew_seq ?_
  refine rg (.q 0 (.h 1 XT.done)) (by kernel_rfl) (by kernel_rfl) ?_
  refine q_ldS 0 Try.isAgg182 Try.sizeOf182 rfl rfl rfl rfl rfl ?_
  refine h_stS (cs' := ((pl (fun j => mixAt b (j / 4) (j % 4)) z8 16 (4 * 4)).map SV.u8)) (S' := [_, _, _]) 1 Try.sizeOf182 rfl rfl rfl rfl rfl (oneU8 _) rfl (leb rfl) (putL_all _ _ (by rw [List.length_map, pl_len]; rfl)) rfl kp0 ?_
  refine x_end ?_
  refine nk_cut (e' := [(0, _), (1, _), (3, _), (4, _), (5, _), (6, _), (10, _)]) [0, 1, 3, 4, 5, 6, 10] rfl ?_
  refine nk_seq ?_
  refine ew_retS rfl rfl (.cons (.agg 1 Try.isAgg182 Try.sizeOf182 rfl rfl rfl) .nil) ?_
  rw [pl_all _ _ (Nat.le_refl _)]
  exact ⟨rfl, rfl, rfl⟩

end Go.GW
