/- Contracts of functions of the loaded program, printed by our own program gen.py. -/
import Derived.Test.YtcchamnagcpaiaaAesB
namespace Go.GW
open Go Go.Proofs
set_option linter.unusedSimpArgs false
set_option linter.unusedVariables false


theorem AesBlk_hc {H : Hp} {gc gt : Nat} {ks b : List UInt8} (hc : CipP H gc gt ks) (hb : b.length = 16) :
  HC Try.prog 104 [.p ⟨gc, 0, none⟩, .agg (b.map SV.u8)] [] H (fun z S' H' => z = .agg ((blockF ks b).map SV.u8) ∧ S' = [] ∧ H' = H) := by
 refine hc_intro (n := 26) Try.func104 rfl Try.ntmps104 rfl (fun B hB => ?_)
 refine ew_cut (e' := [(0, _), (1, _)]) [0, 1] rfl ?_
 refine ew_seq ?_
 refine rg (.h 0 (.h 1 XT.done)) (by kernel_rfl) (by kernel_rfl) ?_
 refine h_boxS rfl rfl rfl ?_
 intro g1
 refine ⟨kp0, ?_⟩
 refine h_alloc (cs := _) Try.zeroValue182 rfl rfl (zc_182 Try.zeroValue182) ?_
 intro g2
 refine ⟨kp0, ?_⟩
 refine x_end ?_
 refine nk_cut (e' := [(0, _), (1, _), (3, _), (4, _)]) [0, 1, 3, 4] rfl ?_
 refine nk_seq ?_
 refine ew_seq ?_
 refine rg (.q 0 (.q 1 (.h 2 (.h 3 XT.done)))) (by kernel_rfl) (by kernel_rfl) ?_
 refine q_mv rfl rfl rfl ?_
 refine q_ldS 1 Try.isAgg182 Try.sizeOf182 rfl rfl rfl rfl (by rw [List.length_map, hb]) ?_
 refine h_call0 Try.call139 rfl rfl rfl (AesAdd_hc (r := 0) hc hb (by decide) (by decide)) ?_
 rintro r_ S_ H hl1 ⟨rfl, rfl, rfl⟩
 refine ⟨kp0, ?_⟩
 refine x_S (S' := [_, _]) rfl ?_
 refine h_stS (cs' := ((rnd ks b 0).map SV.u8)) (S' := [_, _]) 1 Try.sizeOf182 rfl rfl rfl rfl rfl (oneU8 _) rfl (by rw [List.length_map, List.length_map, hb, addF_len]; decide) (putL_all _ _ (by rw [List.length_map, List.length_map, hb, addF_len])) rfl kp0 ?_
 refine x_end ?_
 refine nk_cut (e' := [(0, _), (1, _), (3, _), (4, _)]) [0, 1, 3, 4] rfl ?_
 refine nk_seq ?_
 refine ew_seq ?_
 refine ew_seq ?_
 refine rg (.q 0 XT.done) (by kernel_rfl) (by kernel_rfl) ?_
 refine q_as (sv := .i 1) rfl rfl rfl ?_
 refine x_end ?_
 refine nk_cut (e' := [(0, _), (1, _), (3, _), (4, _), (5, _)]) [0, 1, 3, 4, 5] rfl ?_
 refine nk_seq ?_
 refine ew_block ?_
 let Ev1 : Nat → Env := fun r => [(5, .i ((r : Int) + 1))]
 let Sv1 : Nat → Res := fun r => [.box g2 182 (List.replicate 16 (SV.u8 0)), .box g1 182 ((rnd ks b r).map SV.u8)]
 let Gv1 : Nat → Hp → Prop := fun r H' => H = H' ∧ (r ≤ 13)
 let Mv1 : Nat → Nat := fun r => 13 - r
 refine ew_loop (mkE [(0, _), (1, _), (3, _), (4, _)] Ev1) (Sv1) Gv1 Mv1 (0 : Nat) ⟨congrArg (fun z => some (SV.i z)) (by omega), rfl, rfl, rfl, rfl, trivial⟩ rfl ⟨rfl, (by omega)⟩ ?_
 rintro r H' ⟨rfl, hG⟩
 refine ew_S (S' := [_, _]) rfl ?_
 refine ew_cut (e' := [(5, _), (0, _), (1, _), (3, _), (4, _)]) [5, 0, 1, 3, 4] rfl ?_
 refine ew_seq ?_
 refine ew_seq ?_
 refine rg (.q 0 (.q 1 XT.done)) (by kernel_rfl) (by kernel_rfl) ?_
 refine q_mv rfl rfl rfl ?_
 refine q_lt rfl rfl rfl rfl ?_
 refine x_end ?_
 refine nk_cut (e' := [(0, _), (1, _), (3, _), (4, _), (5, _), (10, _)]) [0, 1, 3, 4, 5, 10] rfl ?_
 refine nk_seq ?_
 refine ew_cond rfl ?_ ?_
 ·intro hc10
  try simp only [decide_eq_true_eq] at hc10
  refine ew_skip ?_
  refine nk_seq ?_
  refine ew_seq ?_
  refine ew_block ?_
  refine rg (.q 0 (.q 1 (.q 2 (.q 3 (.h 4 (.h 5 (.q 6 (.h 7 (.h 8 XT.done))))))))) (by kernel_rfl) (by kernel_rfl) ?_
  iterate 3 refine q_mv rfl rfl rfl ?_
  refine q_ldS 1 Try.isAgg182 Try.sizeOf182 rfl rfl rfl rfl (by rw [List.length_map, rnd_len]) ?_
  refine h_call0 Try.call141 rfl rfl rfl (AesShift_hc hc (rnd_len ks b r)) ?_
  rintro r_ S_ H hl2 ⟨rfl, rfl, rfl⟩
  refine ⟨kp0, ?_⟩
  refine x_S (S' := [_, _]) rfl ?_
  refine h_call0 Try.call140 rfl rfl rfl (AesMix_hc hc (shiftF_len _)) ?_
  rintro r_ S_ H hl3 ⟨rfl, rfl, rfl⟩
  refine ⟨kp0, ?_⟩
  refine x_S (S' := [_, _]) rfl ?_
  refine q_mv rfl rfl rfl ?_
  refine h_call0 Try.call139 rfl rfl rfl (AesAdd_hc (r := (r : Int) + 1) hc (mixF_len _) (by omega) (by omega)) ?_
  rintro r_ S_ H hl4 ⟨rfl, rfl, rfl⟩
  refine ⟨kp0, ?_⟩
  refine x_S (S' := [_, _]) rfl ?_
  refine h_stS (cs' := ((rnd ks b (r + 1)).map SV.u8)) (S' := [_, _]) 1 Try.sizeOf182 rfl rfl rfl rfl rfl (oneU8 _) rfl (by rw [List.length_map, List.length_map, rnd_len, addF_len]; decide) (putL_all _ _ (by rw [List.length_map, List.length_map, rnd_len, addF_len])) rfl kp0 ?_
  refine x_end ?_
  refine nk_cut (e' := [(0, _), (1, _), (3, _), (4, _), (5, _), (10, _)]) [0, 1, 3, 4, 5, 10] rfl ?_
  refine nk_blk ?_
  refine nk_seq ?_
  refine rg (.q 0 (.q 1 (.q 2 XT.done))) (by kernel_rfl) (by kernel_rfl) ?_
  refine q_mv rfl rfl rfl ?_
  refine q_add rfl rfl rfl rfl (by omega) (by omega) ?_
  refine q_as rfl rfl rfl ?_
  refine x_end ?_
  refine nk_cut (e' := [(0, _), (1, _), (3, _), (4, _), (5, _), (10, _)]) [0, 1, 3, 4, 5, 10] rfl ?_
  refine nk_round (μ := Mv1) (i := r) (S := Sv1) (G := Gv1) (r + 1 : Nat) ?_ ?_ ?_ ?_
  ·exact ⟨rfl, rfl, rfl, rfl, rfl, trivial⟩
  ·exact rfl
  ·exact ⟨rfl, by omega⟩
  ·dsimp only [Mv1]; omega
 ·intro hc10
  try simp only [decide_eq_false_iff_not] at hc10
  have hr13 : r = 13 := by omega
  subst hr13
  refine ew_exit _ rfl ?_
  refine nk_seq ?_
  refine ew_seq ?_
  refine rg (.q 0 (.q 1 (.q 2 (.h 3 (.h 4 (.h 5 XT.done)))))) (by kernel_rfl) (by kernel_rfl) ?_
  refine q_mv rfl rfl rfl ?_
  refine q_mv rfl rfl rfl ?_
  refine q_ldS 1 Try.isAgg182 Try.sizeOf182 rfl rfl rfl rfl (by rw [List.length_map, rnd_len]) ?_
  refine h_call0 Try.call141 rfl rfl rfl (AesShift_hc hc (rnd_len ks b 13)) ?_
  rintro r_ S_ H hl5 ⟨rfl, rfl, rfl⟩
  refine ⟨kp0, ?_⟩
  refine x_S (S' := [_, _]) rfl ?_
  refine h_call0 Try.call139 rfl rfl rfl (AesAdd_hc (r := 14) hc (shiftF_len _) (by decide) (by decide)) ?_
  rintro r_ S_ H hl6 ⟨rfl, rfl, rfl⟩
  refine ⟨kp0, ?_⟩
  refine x_S (S' := [_, _]) rfl ?_
  refine h_stS (cs' := ((blockF ks b).map SV.u8)) (S' := [_, _]) 0 Try.sizeOf182 rfl rfl rfl rfl rfl (oneU8 _) rfl (leb rfl) (putL_all _ _ (by rw [List.length_map, addF_len]; rfl)) rfl kp0 ?_
  refine x_end ?_
  refine nk_cut (e' := [(0, _), (1, _), (3, _), (4, _), (5, _), (10, _)]) [0, 1, 3, 4, 5, 10] rfl ?_
  refine nk_seq ?_
  refine ew_retS rfl rfl (.cons (.agg 0 Try.isAgg182 Try.sizeOf182 rfl rfl rfl) .nil) ?_
  exact ⟨rfl, rfl, rfl⟩


def wlast (w : List UInt32) (i : Nat) : UInt32 := w.getD (i - 1) 0
def wstep (key : List UInt8) (i : Nat) (s : List UInt32 × UInt8) : List UInt32 × UInt8 :=
  if i < 8 then (s.1.set i (getN ((key.drop (4 * i)).take 4)).toUInt32, s.2)
  else if i % 8 = 0 then (s.1.set i (s.1.getD (i - 8) 0 ^^^ (wordF (shl_u32 (wlast s.1 i) 8 ||| shr_u32 (wlast s.1 i) 24) ^^^ shl_u32 s.2.toUInt32 24)), dbl s.2)
  else if i % 8 = 4 then (s.1.set i (s.1.getD (i - 8) 0 ^^^ wordF (wlast s.1 i)), s.2)
  else (s.1.set i (s.1.getD (i - 8) 0 ^^^ wlast s.1 i), s.2)
def wx (key : List UInt8) : Nat → List UInt32 × UInt8
  | 0 => (List.replicate 60 0, 1)
  | i + 1 => wstep key i (wx key i)
theorem wx_1 (key : List UInt8) {i : Nat} (h : i < 8) : wx key (i + 1) = ((wx key i).1.set i (getN ((key.drop (4 * i)).take 4)).toUInt32, (wx key i).2) := if_pos h
theorem wx_2 (key : List UInt8) {i : Nat} (h : ¬ i < 8) (h2 : i % 8 = 0) : wx key (i + 1) = ((wx key i).1.set i ((wx key i).1.getD (i - 8) 0 ^^^ (wordF (shl_u32 (wlast (wx key i).1 i) 8 ||| shr_u32 (wlast (wx key i).1 i) 24) ^^^ shl_u32 (wx key i).2.toUInt32 24)), dbl (wx key i).2) := (if_neg h).trans (if_pos h2)
theorem wx_3 (key : List UInt8) {i : Nat} (h : ¬ i < 8) (h2 : ¬ i % 8 = 0) (h3 : i % 8 = 4) : wx key (i + 1) = ((wx key i).1.set i ((wx key i).1.getD (i - 8) 0 ^^^ wordF (wlast (wx key i).1 i)), (wx key i).2) := (if_neg h).trans ((if_neg h2).trans (if_pos h3))
theorem wx_4 (key : List UInt8) {i : Nat} (h : ¬ i < 8) (h2 : ¬ i % 8 = 0) (h3 : ¬ i % 8 = 4) : wx key (i + 1) = ((wx key i).1.set i ((wx key i).1.getD (i - 8) 0 ^^^ wlast (wx key i).1 i), (wx key i).2) := (if_neg h).trans ((if_neg h2).trans (if_neg h3))
theorem wx_len (key : List UInt8) (i : Nat) : (wx key i).1.length = 60 := by
  induction i with
  | zero => exact List.length_replicate
  | succ i ih =>
    by_cases h : i < 8
    · rw [wx_1 key h, List.length_set, ih]
    · by_cases h2 : i % 8 = 0
      · rw [wx_2 key h h2, List.length_set, ih]
      · by_cases h3 : i % 8 = 4
        · rw [wx_3 key h h2 h3, List.length_set, ih]
        · rw [wx_4 key h h2 h3, List.length_set, ih]
/-- the words' bytes, so many words, the rest noughts -/
def kb (w : List UInt32) (j : Nat) : List UInt8 := (w.take j).flatMap (fun x => putN x.toUInt64 4) ++ List.replicate (240 - 4 * j) 0
theorem flat4_len (w : List UInt32) : (w.flatMap (fun x => putN x.toUInt64 4)).length = 4 * w.length := by
  induction w with
  | nil => rfl
  | cons x r ih => rw [List.flatMap_cons, List.length_append, ih, putN_length, List.length_cons]; omega
theorem kb_len (w : List UInt32) (j : Nat) (h : w.length = 60) (hj : j ≤ 60) : (kb w j).length = 240 := by
  unfold kb; rw [List.length_append, flat4_len, List.length_take, List.length_replicate, h]; omega
theorem kb_step (g : Nat) (w : List UInt32) {j off l : Nat} (h : w.length = 60) (hj : j < 60) (ho : off = 1 + 4 * j) (hl : 4 ≤ l) :
    putL (.p ⟨g, 0, none⟩ :: (kb w j).map SV.u8) off (((putN (w.getD j 0).toUInt64 4).map SV.u8).take l) = .p ⟨g, 0, none⟩ :: (kb w (j + 1)).map SV.u8 := by
  subst ho
  have h4 : ((putN (w.getD j 0).toUInt64 4).map SV.u8).length = 4 := by rw [List.length_map, putN_length]
  rw [List.take_of_length_le (by omega)]
  have hk := kb_len w j h (by omega)
  rw [putL_spec _ _ _ (by simp only [List.length_cons, List.length_map, hk, putN_length]; omega), h4]
  rw [show 1 + 4 * j = 4 * j + 1 by omega, List.take_succ_cons, show 4 * j + 1 + 4 = (4 * j + 4) + 1 by omega, List.drop_succ_cons]
  have e1 : (w.take (j + 1)).flatMap (fun x => putN x.toUInt64 4) = (w.take j).flatMap (fun x => putN x.toUInt64 4) ++ putN (w.getD j 0).toUInt64 4 := by
    rw [List.take_succ_eq_append_getElem (by omega), List.flatMap_append]
    simp [show j < w.length by omega]
  have e2 : ((w.take j).flatMap (fun x => putN x.toUInt64 4)).length = 4 * j := by rw [flat4_len, List.length_take]; omega
  unfold kb
  rw [e1, List.map_append, List.map_append, List.map_append]
  rw [List.take_append_of_le_length (by rw [List.length_map, e2]; omega), List.take_of_length_le (by rw [List.length_map, e2]; omega)]
  rw [List.drop_append, List.drop_of_length_le (by rw [List.length_map, e2]; omega), List.length_map, e2, List.nil_append, List.map_replicate, List.drop_replicate]
  rw [show 240 - 4 * j - (4 * j + 4 - 4 * j) = 240 - 4 * (j + 1) by omega, List.map_replicate]
  simp
def aesKeys (key : List UInt8) : List UInt8 := kb (wx key 60).1 60
theorem aesKeys_len (key : List UInt8) : (aesKeys key).length = 240 := kb_len _ _ (wx_len ..) (Nat.le_refl _)

theorem AesNewNo_hc {H : Hp} {gt : Nat} {A : Option Addr} {n c : Nat} {key : List UInt8} (ht : TabP H gt) (hk : BS H A n c key) (hn : n ≠ 32) :
  HC Try.prog 103 [.p ⟨gt, 0, none⟩, .sl A n c] [] H (fun z S' H' => z = .tup [.np, .i 17] ∧ S' = [] ∧ H' = H) := by
 refine hc_intro (n := 93) Try.func103 rfl Try.ntmps103 rfl (fun B hB => ?_)
 refine ew_cut (e' := [(0, _), (1, _)]) [0, 1] rfl ?_
 refine ew_seq ?_
 refine rg (.q 0 (.q 1 XT.done)) (by kernel_rfl) (by kernel_rfl) ?_
 refine q_as (sv := .np) rfl rfl rfl ?_
 refine q_as (sv := .i 0) rfl rfl rfl ?_
 refine x_end ?_
 refine nk_cut (e' := [(0, _), (1, _), (4, _), (5, _)]) [0, 1, 4, 5] rfl ?_
 refine nk_seq ?_
 refine ew_seq ?_
 refine ew_seq ?_
 refine rg (.q 0 (.q 1 XT.done)) (by kernel_rfl) (by kernel_rfl) ?_
 refine q_mv rfl rfl rfl ?_
 refine q_eq_pn Try.underlying107 rfl rfl rfl rfl ?_
 refine x_end ?_
 refine nk_cut (e' := [(0, _), (1, _), (4, _), (5, _), (14, _)]) [0, 1, 4, 5, 14] rfl ?_
 refine nk_seq ?_
 refine ew_false rfl ?_
 refine ew_skip ?_
 refine nk_seq ?_
 refine ew_seq ?_
 refine ew_seq ?_
 refine rg (.q 0 (.q 1 (.q 2 XT.done))) (by kernel_rfl) (by kernel_rfl) ?_
 refine q_mv rfl rfl rfl ?_
 refine q_len Try.underlying26 rfl rfl rfl ?_
 refine q_ne rfl rfl rfl rfl ?_
 refine x_end ?_
 refine nk_cut (e' := [(0, _), (1, _), (4, _), (5, _), (14, _), (17, _)]) [0, 1, 4, 5, 14, 17] rfl ?_
 refine nk_seq ?_
 refine ew_cond rfl ?_ ?_
 ·intro hc17
  refine ew_seq ?_
  refine rg (.q 0 (.q 1 XT.done)) (by kernel_rfl) (by kernel_rfl) ?_
  refine q_as (sv := .np) rfl rfl rfl ?_
  refine q_as (sv := .i 17) rfl rfl rfl ?_
  refine x_end ?_
  refine nk_cut (e' := [(0, _), (1, _), (4, _), (5, _), (14, _), (17, _)]) [0, 1, 4, 5, 14, 17] rfl ?_
  refine nk_seq ?_
  refine ew_ret (r := .tup [_, _]) rfl rfl (.cons (.tmp rfl) (.cons (.tmp rfl) .nil)) rfl ?_
  exact ⟨rfl, rfl, rfl⟩
 ·intro hc17
  simp at hc17; omega

set_option maxRecDepth 100000 in
theorem AesNew_hc {H : Hp} {gt : Nat} {A : Option Addr} {n c : Nat} {key : List UInt8} (ht : TabP H gt) (hk : BS H A n c key) (hn : n = 32) :
  HC Try.prog 103 [.p ⟨gt, 0, none⟩, .sl A n c] [] H (fun z S' H' => ∃ gc, z = .tup [.p ⟨gc, 0, none⟩, .i 0] ∧ CipP H' gc gt (aesKeys key) ∧ S' = [] ∧ HLe H H') := by
 have hkl := hk.len
 have hkc := hk.cap
 refine hc_intro (n := 93) Try.func103 rfl Try.ntmps103 rfl (fun B hB => ?_)
 refine ew_cut (e' := [(0, _), (1, _)]) [0, 1] rfl ?_
 refine ew_seq ?_
 refine rg (.q 0 (.q 1 XT.done)) (by kernel_rfl) (by kernel_rfl) ?_
 refine q_as (sv := .np) rfl rfl rfl ?_
 refine q_as (sv := .i 0) rfl rfl rfl ?_
 refine x_end ?_
 refine nk_cut (e' := [(0, _), (1, _), (4, _), (5, _)]) [0, 1, 4, 5] rfl ?_
 refine nk_seq ?_
 refine ew_seq ?_
 refine ew_seq ?_
 refine rg (.q 0 (.q 1 XT.done)) (by kernel_rfl) (by kernel_rfl) ?_
 refine q_mv rfl rfl rfl ?_
 refine q_eq_pn Try.underlying107 rfl rfl rfl rfl ?_
 refine x_end ?_
 refine nk_cut (e' := [(0, _), (1, _), (4, _), (5, _), (14, _)]) [0, 1, 4, 5, 14] rfl ?_
 refine nk_seq ?_
 refine ew_false rfl ?_
 refine ew_skip ?_
 refine nk_seq ?_
 refine ew_seq ?_
 refine ew_seq ?_
 refine rg (.q 0 (.q 1 (.q 2 XT.done))) (by kernel_rfl) (by kernel_rfl) ?_
 refine q_mv rfl rfl rfl ?_
 refine q_len Try.underlying26 rfl rfl rfl ?_
 refine q_ne rfl rfl rfl rfl ?_
 refine x_end ?_
 refine nk_cut (e' := [(0, _), (1, _), (4, _), (5, _), (14, _), (17, _)]) [0, 1, 4, 5, 14, 17] rfl ?_
 refine nk_seq ?_
 refine ew_cond rfl ?_ ?_
 ·intro hc17
  simp at hc17; omega
 ·intro hc17
  refine ew_skip ?_
  refine nk_seq ?_
  refine ew_seq ?_
  refine rg (.q 0 (.q 1 (.h 2 (.q 3 XT.done)))) (by kernel_rfl) (by kernel_rfl) ?_
  refine q_mv rfl rfl rfl ?_
  refine q_bld (cs := _) bf_226 rfl rfl rfl rfl ?_
  refine x_v (v' := .agg (.p ⟨gt, 0, none⟩ :: (List.replicate 240 (0 : UInt8)).map SV.u8)) (congrArg SV.agg (show putL ([SV.np] ++ List.replicate 240 (.u8 0)) 0 [.p ⟨gt, 0, none⟩] = _ by rw [putL_left (l' := [.p ⟨gt, 0, none⟩]) (Nat.le_refl 1) rfl, List.map_replicate]; rfl)) ?_
  refine h_boxS rfl rfl rfl ?_
  intro g1
  refine ⟨kp0, ?_⟩
  refine q_as rfl rfl rfl ?_
  refine x_end ?_
  refine nk_cut (e' := [(0, _), (1, _), (4, _), (5, _), (6, _), (14, _), (17, _)]) [0, 1, 4, 5, 6, 14, 17] rfl ?_
  refine nk_seq ?_
  refine ew_seq ?_
  refine rg (.h 0 XT.done) (by kernel_rfl) (by kernel_rfl) ?_
  refine h_alloc (cs := _) Try.zeroValue228 rfl rfl (zc_228 Try.zeroValue228) ?_
  intro g2
  refine ⟨kp0, ?_⟩
  refine x_end ?_
  refine nk_cut (e' := [(0, _), (1, _), (4, _), (5, _), (6, _), (7, _), (14, _), (17, _)]) [0, 1, 4, 5, 6, 7, 14, 17] rfl ?_
  refine nk_seq ?_
  refine ew_seq ?_
  refine rg (.q 0 XT.done) (by kernel_rfl) (by kernel_rfl) ?_
  refine q_as (sv := .u8 1) rfl rfl rfl ?_
  refine x_end ?_
  refine nk_cut (e' := [(0, _), (1, _), (4, _), (5, _), (6, _), (7, _), (8, _), (14, _), (17, _)]) [0, 1, 4, 5, 6, 7, 8, 14, 17] rfl ?_
  refine nk_seq ?_
  refine ew_seq ?_
  refine ew_seq ?_
  refine rg (.q 0 XT.done) (by kernel_rfl) (by kernel_rfl) ?_
  refine q_mv (sv := .i 0) rfl rfl rfl ?_
  refine x_end ?_
  refine nk_cut (e' := [(0, _), (1, _), (4, _), (5, _), (6, _), (7, _), (8, _), (14, _), (17, _), (21, _)]) [0, 1, 4, 5, 6, 7, 8, 14, 17, 21] rfl ?_
  refine nk_seq ?_
  refine ew_block ?_
  let Ev1 : Nat → Env := fun i => [(21, .i (i : Int)), (8, .u8 (wx key i).2)]
  let Sv1 : Nat → Res := fun i => [.box g2 228 ((wx key i).1.map SV.u32), .box g1 226 (.p ⟨gt, 0, none⟩ :: (List.replicate 240 (0 : UInt8)).map SV.u8)]
  let Gv1 : Nat → Hp → Prop := fun i H' => H = H' ∧ (i ≤ 60)
  let Mv1 : Nat → Nat := fun i => 60 - i
  refine ew_loop (mkE [(0, _), (1, _), (4, _), (5, _), (6, _), (7, _), (14, _), (17, _)] Ev1) (Sv1) Gv1 Mv1 (0 : Nat) ⟨rfl, rfl, rfl, rfl, rfl, rfl, rfl, rfl, rfl, rfl, trivial⟩ (by dsimp only [Sv1, wx]; rw [List.map_replicate, List.map_replicate]) ⟨rfl, (by omega)⟩ ?_
  rintro i H' ⟨rfl, hG⟩
  have hwl := wx_len key i
  refine ew_S (S' := [_, _]) rfl ?_
  refine ew_cut (e' := [(21, _), (8, _), (0, _), (1, _), (4, _), (5, _), (6, _), (7, _), (14, _), (17, _)]) [21, 8, 0, 1, 4, 5, 6, 7, 14, 17] rfl ?_
  refine ew_seq ?_
  refine rg (.q 0 XT.done) (by kernel_rfl) (by kernel_rfl) ?_
  refine q_lt rfl rfl rfl rfl ?_
  refine x_end ?_
  refine nk_cut (e' := [(0, _), (1, _), (4, _), (5, _), (6, _), (7, _), (8, _), (14, _), (17, _), (21, _), (22, _)]) [0, 1, 4, 5, 6, 7, 8, 14, 17, 21, 22] rfl ?_
  refine nk_seq ?_
  refine ew_seq ?_
  refine ew_cond rfl ?_ ?_
  ·intro hc22
   try simp only [decide_eq_true_eq] at hc22
   refine ew_skip ?_
   refine nk_seq ?_
   refine ew_seq ?_
   refine ew_block ?_
   refine ew_seq ?_
   refine rg (.q 0 (.q 1 XT.done)) (by kernel_rfl) (by kernel_rfl) ?_
   refine q_mv rfl rfl rfl ?_
   refine q_as rfl rfl rfl ?_
   refine x_end ?_
   refine nk_cut (e' := [(0, _), (1, _), (4, _), (5, _), (6, _), (7, _), (8, _), (9, _), (14, _), (17, _), (21, _), (22, _)]) [0, 1, 4, 5, 6, 7, 8, 9, 14, 17, 21, 22] rfl ?_
   refine nk_seq ?_
   refine ew_seq ?_
   refine ew_seq ?_
   refine rg (.q 0 (.q 1 XT.done)) (by kernel_rfl) (by kernel_rfl) ?_
   refine q_mv rfl rfl rfl ?_
   refine q_lt rfl rfl rfl rfl ?_
   refine x_end ?_
   refine nk_cut (e' := [(0, _), (1, _), (4, _), (5, _), (6, _), (7, _), (8, _), (9, _), (14, _), (17, _), (21, _), (22, _), (25, _)]) [0, 1, 4, 5, 6, 7, 8, 9, 14, 17, 21, 22, 25] rfl ?_
   refine nk_seq ?_
   refine ew_cond rfl ?_ ?_
   ·intro hc25
    try simp only [decide_eq_true_eq] at hc25
    refine ew_seq ?_
    refine rg (.q 0 (.q 1 (.q 2 (.q 3 (.q 4 (.q 5 (.q 6 (.q 7 (.h 8 (.q 9 (.q 10 (.h 11 XT.done)))))))))))) (by kernel_rfl) (by kernel_rfl) ?_
    iterate 3 refine q_mv rfl rfl rfl ?_
    refine q_mul rfl rfl rfl rfl (by omega) (by omega) ?_
    refine q_mv rfl rfl rfl ?_
    refine q_mul rfl rfl rfl rfl (by omega) (by omega) ?_
    refine q_add rfl rfl rfl rfl (by omega) (by omega) ?_
    refine q_sl_lh Try.underlying26 Try.sizeOf5 rfl rfl rfl rfl rfl (by omega) (by omega) (by omega) ?_
    refine h_call0 Try.call130 rfl rfl rfl (Get_hc ((hk.drop (L := (4 * (i : Int)).toNat) (by omega)).take (m := (4 * (i : Int) + 4).toNat - (4 * (i : Int)).toNat) (by omega)) (by omega)) ?_
    rintro r_ S_ H hl1 ⟨rfl, rfl, rfl⟩
    refine ⟨kp0, ?_⟩
    refine x_S (S' := [_, _]) rfl ?_
    refine x_v (v' := .u64 (getN ((key.drop (4 * i)).take 4))) (by rw [show (4 * (i : Int)).toNat = 4 * i by omega, show (4 * (i : Int) + 4).toNat - 4 * i = 4 by omega]) ?_
    refine q_cv_u64_u32 Try.underlying227 (by kernel_rfl) rfl rfl rfl ?_
    refine q_ixa1 Try.underlying228 Try.sizeOf227 rfl rfl rfl rfl rfl (by omega) (by omega) ?_
    refine h_st (cs' := ((wx key (i + 1)).1.map SV.u32)) (S' := [_, _]) 0 Try.sizeOf227 rfl rfl rfl rfl rfl rfl (by rw [List.length_map, hwl]; omega) (putM SV.u32 (i := i) (by omega) (by rw [hwl]; omega) (by rw [wx_1 key (by omega)] <;> rfl)) rfl kp0 ?_
    refine x_end ?_
    refine nk_cut (e' := [(0, _), (1, _), (4, _), (5, _), (6, _), (7, _), (8, _), (9, _), (14, _), (17, _), (21, _), (22, _), (25, _)]) [0, 1, 4, 5, 6, 7, 8, 9, 14, 17, 21, 22, 25] rfl ?_
    refine nk_seq ?_
    refine ew_exit _ rfl ?_
    refine nk_seq ?_
    refine rg (.q 0 (.q 1 XT.done)) (by kernel_rfl) (by kernel_rfl) ?_
    refine q_add rfl rfl rfl rfl (by omega) (by omega) ?_
    refine q_mv rfl rfl rfl ?_
    refine x_end ?_
    refine nk_cut (e' := [(0, _), (1, _), (4, _), (5, _), (6, _), (7, _), (8, _), (9, _), (14, _), (17, _), (21, _), (22, _), (25, _)]) [0, 1, 4, 5, 6, 7, 8, 9, 14, 17, 21, 22, 25] rfl ?_
    refine nk_round (μ := Mv1) (i := i) (S := Sv1) (G := Gv1) (i + 1 : Nat) ?_ ?_ ?_ ?_
    ·exact ⟨rfl, congrArg (fun z => some (SV.u8 z)) (by rw [wx_1 key (by omega)]), rfl, rfl, rfl, rfl, rfl, rfl, rfl, rfl, trivial⟩
    ·exact rfl
    ·exact ⟨rfl, by omega⟩
    ·dsimp only [Mv1]; omega
   ·intro hc25
    try simp only [decide_eq_false_iff_not] at hc25
    refine ew_skip ?_
    refine nk_seq ?_
    refine ew_seq ?_
    refine rg (.q 0 (.q 1 (.q 2 (.q 3 (.q 4 XT.done))))) (by kernel_rfl) (by kernel_rfl) ?_
    refine q_mv rfl rfl rfl ?_
    refine q_sub rfl rfl rfl rfl (by omega) (by omega) ?_
    refine q_ixa1 Try.underlying228 Try.sizeOf227 rfl rfl rfl rfl rfl (by omega) (by omega) ?_
    refine q_ld 0 Try.isAgg227 rfl rfl rfl rfl (nthM SV.u32 0 (i := i - 1) (by omega) (by omega)) ?_
    refine x_v (v' := .u32 (wlast (wx key i).1 i)) rfl ?_
    refine q_as rfl rfl rfl ?_
    refine x_end ?_
    refine nk_cut (e' := [(0, _), (1, _), (4, _), (5, _), (6, _), (7, _), (8, _), (9, _), (10, _), (14, _), (17, _), (21, _), (22, _), (25, _)]) [0, 1, 4, 5, 6, 7, 8, 9, 10, 14, 17, 21, 22, 25] rfl ?_
    refine nk_seq ?_
    refine ew_seq ?_
    refine ew_seq ?_
    refine rg (.q 0 (.q 1 XT.done)) (by kernel_rfl) (by kernel_rfl) ?_
    refine q_mv rfl rfl rfl ?_
    refine q_rem rfl rfl rfl rfl (by omega) (by omega) (by omega) ?_
    refine x_end ?_
    refine nk_cut (e' := [(0, _), (1, _), (4, _), (5, _), (6, _), (7, _), (8, _), (9, _), (10, _), (14, _), (17, _), (21, _), (22, _), (25, _), (42, _)]) [0, 1, 4, 5, 6, 7, 8, 9, 10, 14, 17, 21, 22, 25, 42] rfl ?_
    refine nk_seq ?_
    refine ew_block ?_
    refine ew_seq ?_
    refine rg (.q 0 (.q 1 XT.done)) (by kernel_rfl) (by kernel_rfl) ?_
    refine q_eq rfl rfl rfl rfl ?_
    refine q_as rfl rfl rfl ?_
    refine x_end ?_
    refine nk_cut (e' := [(0, _), (1, _), (4, _), (5, _), (6, _), (7, _), (8, _), (9, _), (10, _), (14, _), (17, _), (21, _), (22, _), (25, _), (42, _), (43, _)]) [0, 1, 4, 5, 6, 7, 8, 9, 10, 14, 17, 21, 22, 25, 42, 43] rfl ?_
    refine nk_seq ?_
    refine ew_cond rfl ?_ ?_
    ·intro hc43
     try simp only [decide_eq_true_eq] at hc43
     refine ew_seq ?_
     refine rg (.q 0 (.q 1 (.q 2 (.q 3 (.q 4 (.q 5 (.h 6 (.q 7 (.q 8 (.q 9 (.q 10 (.q 11 XT.done)))))))))))) (by kernel_rfl) (by kernel_rfl) ?_
     refine q_mv rfl rfl rfl ?_
     refine q_mv rfl rfl rfl ?_
     refine q_shl_u32u rfl rfl rfl rfl ?_
     refine q_mv rfl rfl rfl ?_
     refine q_shr_u32u rfl rfl rfl rfl ?_
     refine q_or_u32 rfl rfl rfl rfl ?_
     refine h_call0 Try.call138 rfl rfl rfl (AesWord_hc ht) ?_
     rintro r_ S_ H hl2 ⟨rfl, rfl, rfl⟩
     refine ⟨kp0, ?_⟩
     refine x_S (S' := [_, _]) rfl ?_
     refine q_mv rfl rfl rfl ?_
     refine q_cv_u8_u32 Try.underlying227 (by kernel_rfl) rfl rfl rfl ?_
     refine q_shl_u32u rfl rfl rfl rfl ?_
     refine q_xor_u32 rfl rfl rfl rfl ?_
     refine q_as rfl rfl rfl ?_
     refine x_end ?_
     refine nk_cut (e' := [(0, _), (1, _), (4, _), (5, _), (6, _), (7, _), (8, _), (9, _), (10, _), (14, _), (17, _), (21, _), (22, _), (25, _), (42, _), (43, _)]) [0, 1, 4, 5, 6, 7, 8, 9, 10, 14, 17, 21, 22, 25, 42, 43] rfl ?_
     refine nk_seq ?_
     refine rg (.q 0 (.h 1 (.q 2 XT.done))) (by kernel_rfl) (by kernel_rfl) ?_
     refine q_mv rfl rfl rfl ?_
     refine h_call0 Try.call107 rfl rfl rfl (Dbl_hc) ?_
     rintro r_ S_ H hl3 ⟨rfl, rfl, rfl⟩
     refine ⟨kp0, ?_⟩
     refine x_S (S' := [_, _]) rfl ?_
     refine q_as rfl rfl rfl ?_
     refine x_end ?_
     refine nk_cut (e' := [(0, _), (1, _), (4, _), (5, _), (6, _), (7, _), (8, _), (9, _), (10, _), (14, _), (17, _), (21, _), (22, _), (25, _), (42, _), (43, _)]) [0, 1, 4, 5, 6, 7, 8, 9, 10, 14, 17, 21, 22, 25, 42, 43] rfl ?_
     refine nk_blk ?_
     refine nk_seq ?_
     refine rg (.q 0 (.q 1 (.q 2 (.q 3 (.q 4 (.q 5 (.q 6 (.q 7 (.h 8 XT.done))))))))) (by kernel_rfl) (by kernel_rfl) ?_
     refine q_mv rfl rfl rfl ?_
     refine q_mv rfl rfl rfl ?_
     refine q_sub rfl rfl rfl rfl (by omega) (by omega) ?_
     refine q_ixa1 Try.underlying228 Try.sizeOf227 rfl rfl rfl rfl rfl (by omega) (by omega) ?_
     refine q_ld 0 Try.isAgg227 rfl rfl rfl rfl (nthM SV.u32 0 (i := i - 8) (by omega) (by omega)) ?_
     refine q_mv rfl rfl rfl ?_
     refine q_xor_u32 rfl rfl rfl rfl ?_
     refine q_ixa1 Try.underlying228 Try.sizeOf227 rfl rfl rfl rfl rfl (by omega) (by omega) ?_
     refine h_st (cs' := ((wx key (i + 1)).1.map SV.u32)) (S' := [_, _]) 0 Try.sizeOf227 rfl rfl rfl rfl rfl rfl (by rw [List.length_map, hwl]; omega) (putM SV.u32 (i := i) (by omega) (by rw [hwl]; omega) (by rw [wx_2 key (by omega) (by omega)] <;> rfl)) rfl kp0 ?_
     refine x_end ?_
     refine nk_cut (e' := [(0, _), (1, _), (4, _), (5, _), (6, _), (7, _), (8, _), (9, _), (10, _), (14, _), (17, _), (21, _), (22, _), (25, _), (42, _), (43, _)]) [0, 1, 4, 5, 6, 7, 8, 9, 10, 14, 17, 21, 22, 25, 42, 43] rfl ?_
     refine nk_blk ?_
     refine nk_seq ?_
     refine rg (.q 0 (.q 1 XT.done)) (by kernel_rfl) (by kernel_rfl) ?_
     refine q_add rfl rfl rfl rfl (by omega) (by omega) ?_
     refine q_mv rfl rfl rfl ?_
     refine x_end ?_
     refine nk_cut (e' := [(0, _), (1, _), (4, _), (5, _), (6, _), (7, _), (8, _), (9, _), (10, _), (14, _), (17, _), (21, _), (22, _), (25, _), (42, _), (43, _)]) [0, 1, 4, 5, 6, 7, 8, 9, 10, 14, 17, 21, 22, 25, 42, 43] rfl ?_
     refine nk_round (μ := Mv1) (i := i) (S := Sv1) (G := Gv1) (i + 1 : Nat) ?_ ?_ ?_ ?_
     ·exact ⟨rfl, congrArg (fun z => some (SV.u8 z)) (by rw [wx_2 key (by omega) (by omega)]), rfl, rfl, rfl, rfl, rfl, rfl, rfl, rfl, trivial⟩
     ·exact rfl
     ·exact ⟨rfl, by omega⟩
     ·dsimp only [Mv1]; omega
    ·intro hc43
     try simp only [decide_eq_false_iff_not] at hc43
     refine ew_seq ?_
     refine rg (.q 0 (.q 1 XT.done)) (by kernel_rfl) (by kernel_rfl) ?_
     refine q_eq rfl rfl rfl rfl ?_
     refine q_as rfl rfl rfl ?_
     refine x_end ?_
     refine nk_cut (e' := [(0, _), (1, _), (4, _), (5, _), (6, _), (7, _), (8, _), (9, _), (10, _), (14, _), (17, _), (21, _), (22, _), (25, _), (42, _), (43, _), (58, _)]) [0, 1, 4, 5, 6, 7, 8, 9, 10, 14, 17, 21, 22, 25, 42, 43, 58] rfl ?_
     refine nk_seq ?_
     refine ew_cond rfl ?_ ?_
     ·intro hc58
      try simp only [decide_eq_true_eq] at hc58
      refine rg (.q 0 (.q 1 (.h 2 (.q 3 XT.done)))) (by kernel_rfl) (by kernel_rfl) ?_
      refine q_mv rfl rfl rfl ?_
      refine q_mv rfl rfl rfl ?_
      refine h_call0 Try.call138 rfl rfl rfl (AesWord_hc ht) ?_
      rintro r_ S_ H hl4 ⟨rfl, rfl, rfl⟩
      refine ⟨kp0, ?_⟩
      refine x_S (S' := [_, _]) rfl ?_
      refine q_as rfl rfl rfl ?_
      refine x_end ?_
      refine nk_cut (e' := [(0, _), (1, _), (4, _), (5, _), (6, _), (7, _), (8, _), (9, _), (10, _), (14, _), (17, _), (21, _), (22, _), (25, _), (42, _), (43, _), (58, _)]) [0, 1, 4, 5, 6, 7, 8, 9, 10, 14, 17, 21, 22, 25, 42, 43, 58] rfl ?_
      refine nk_blk ?_
      refine nk_seq ?_
      refine rg (.q 0 (.q 1 (.q 2 (.q 3 (.q 4 (.q 5 (.q 6 (.q 7 (.h 8 XT.done))))))))) (by kernel_rfl) (by kernel_rfl) ?_
      refine q_mv rfl rfl rfl ?_
      refine q_mv rfl rfl rfl ?_
      refine q_sub rfl rfl rfl rfl (by omega) (by omega) ?_
      refine q_ixa1 Try.underlying228 Try.sizeOf227 rfl rfl rfl rfl rfl (by omega) (by omega) ?_
      refine q_ld 0 Try.isAgg227 rfl rfl rfl rfl (nthM SV.u32 0 (i := i - 8) (by omega) (by omega)) ?_
      refine q_mv rfl rfl rfl ?_
      refine q_xor_u32 rfl rfl rfl rfl ?_
      refine q_ixa1 Try.underlying228 Try.sizeOf227 rfl rfl rfl rfl rfl (by omega) (by omega) ?_
      refine h_st (cs' := ((wx key (i + 1)).1.map SV.u32)) (S' := [_, _]) 0 Try.sizeOf227 rfl rfl rfl rfl rfl rfl (by rw [List.length_map, hwl]; omega) (putM SV.u32 (i := i) (by omega) (by rw [hwl]; omega) (by rw [wx_3 key (by omega) (by omega) (by omega)] <;> rfl)) rfl kp0 ?_
      refine x_end ?_
      refine nk_cut (e' := [(0, _), (1, _), (4, _), (5, _), (6, _), (7, _), (8, _), (9, _), (10, _), (14, _), (17, _), (21, _), (22, _), (25, _), (42, _), (43, _), (58, _)]) [0, 1, 4, 5, 6, 7, 8, 9, 10, 14, 17, 21, 22, 25, 42, 43, 58] rfl ?_
      refine nk_blk ?_
      refine nk_seq ?_
      refine rg (.q 0 (.q 1 XT.done)) (by kernel_rfl) (by kernel_rfl) ?_
      refine q_add rfl rfl rfl rfl (by omega) (by omega) ?_
      refine q_mv rfl rfl rfl ?_
      refine x_end ?_
      refine nk_cut (e' := [(0, _), (1, _), (4, _), (5, _), (6, _), (7, _), (8, _), (9, _), (10, _), (14, _), (17, _), (21, _), (22, _), (25, _), (42, _), (43, _), (58, _)]) [0, 1, 4, 5, 6, 7, 8, 9, 10, 14, 17, 21, 22, 25, 42, 43, 58] rfl ?_
      refine nk_round (μ := Mv1) (i := i) (S := Sv1) (G := Gv1) (i + 1 : Nat) ?_ ?_ ?_ ?_
      ·exact ⟨rfl, congrArg (fun z => some (SV.u8 z)) (by rw [wx_3 key (by omega) (by omega) (by omega)]), rfl, rfl, rfl, rfl, rfl, rfl, rfl, rfl, trivial⟩
      ·exact rfl
      ·exact ⟨rfl, by omega⟩
      ·dsimp only [Mv1]; omega
     ·intro hc58
      try simp only [decide_eq_false_iff_not] at hc58
      refine ew_skip ?_
      refine nk_blk ?_
      refine nk_seq ?_
      refine rg (.q 0 (.q 1 (.q 2 (.q 3 (.q 4 (.q 5 (.q 6 (.q 7 (.h 8 XT.done))))))))) (by kernel_rfl) (by kernel_rfl) ?_
      refine q_mv rfl rfl rfl ?_
      refine q_mv rfl rfl rfl ?_
      refine q_sub rfl rfl rfl rfl (by omega) (by omega) ?_
      refine q_ixa1 Try.underlying228 Try.sizeOf227 rfl rfl rfl rfl rfl (by omega) (by omega) ?_
      refine q_ld 0 Try.isAgg227 rfl rfl rfl rfl (nthM SV.u32 0 (i := i - 8) (by omega) (by omega)) ?_
      refine q_mv rfl rfl rfl ?_
      refine q_xor_u32 rfl rfl rfl rfl ?_
      refine q_ixa1 Try.underlying228 Try.sizeOf227 rfl rfl rfl rfl rfl (by omega) (by omega) ?_
      refine h_st (cs' := ((wx key (i + 1)).1.map SV.u32)) (S' := [_, _]) 0 Try.sizeOf227 rfl rfl rfl rfl rfl rfl (by rw [List.length_map, hwl]; omega) (putM SV.u32 (i := i) (by omega) (by rw [hwl]; omega) (by rw [wx_4 key (by omega) (by omega) (by omega)] <;> rfl)) rfl kp0 ?_
      refine x_end ?_
      refine nk_cut (e' := [(0, _), (1, _), (4, _), (5, _), (6, _), (7, _), (8, _), (9, _), (10, _), (14, _), (17, _), (21, _), (22, _), (25, _), (42, _), (43, _), (58, _)]) [0, 1, 4, 5, 6, 7, 8, 9, 10, 14, 17, 21, 22, 25, 42, 43, 58] rfl ?_
      refine nk_blk ?_
      refine nk_seq ?_
      refine rg (.q 0 (.q 1 XT.done)) (by kernel_rfl) (by kernel_rfl) ?_
      refine q_add rfl rfl rfl rfl (by omega) (by omega) ?_
      refine q_mv rfl rfl rfl ?_
      refine x_end ?_
      refine nk_cut (e' := [(0, _), (1, _), (4, _), (5, _), (6, _), (7, _), (8, _), (9, _), (10, _), (14, _), (17, _), (21, _), (22, _), (25, _), (42, _), (43, _), (58, _)]) [0, 1, 4, 5, 6, 7, 8, 9, 10, 14, 17, 21, 22, 25, 42, 43, 58] rfl ?_
      refine nk_round (μ := Mv1) (i := i) (S := Sv1) (G := Gv1) (i + 1 : Nat) ?_ ?_ ?_ ?_
      ·exact ⟨rfl, congrArg (fun z => some (SV.u8 z)) (by rw [wx_4 key (by omega) (by omega) (by omega)]), rfl, rfl, rfl, rfl, rfl, rfl, rfl, rfl, trivial⟩
      ·exact rfl
      ·exact ⟨rfl, by omega⟩
      ·dsimp only [Mv1]; omega
  ·intro hc22
   try simp only [decide_eq_false_iff_not] at hc22
   have hi60 : i = 60 := by omega
   subst hi60
   refine ew_exit _ rfl ?_
   refine nk_seq ?_
   refine ew_seq ?_
   refine ew_seq ?_
   refine rg (.q 0 (.q 1 XT.done)) (by kernel_rfl) (by kernel_rfl) ?_
   refine q_ldS 0 Try.isAgg228 Try.sizeOf228 rfl rfl rfl rfl (by rw [List.length_map, hwl]) ?_
   refine q_mv (sv := .i 0) rfl rfl rfl ?_
   refine x_end ?_
   refine nk_cut (e' := [(0, _), (1, _), (4, _), (5, _), (6, _), (7, _), (8, _), (14, _), (17, _), (21, _), (22, _), (72, _), (73, _)]) [0, 1, 4, 5, 6, 7, 8, 14, 17, 21, 22, 72, 73] rfl ?_
   refine nk_seq ?_
   refine ew_block ?_
   refine ew_perm (S' := [_, _]) (permL [1, 0] rfl) ?_
   refine ew_drop (S := [_]) (S' := [_]) ?_
   let Ev2 : Nat → Env := fun j => [(73, .i (j : Int))]
   let Sv2 : Nat → Res := fun j => [.box g1 226 (.p ⟨gt, 0, none⟩ :: (kb (wx key 60).1 j).map SV.u8)]
   let Gv2 : Nat → Hp → Prop := fun j H' => HLe H H' ∧ (j ≤ 60)
   let Mv2 : Nat → Nat := fun j => 60 - j
   refine ew_loop (mkE [(0, _), (1, _), (4, _), (5, _), (6, _), (14, _), (17, _), (21, _), (22, _), (72, _)] Ev2) (Sv2) Gv2 Mv2 (0 : Nat) ⟨rfl, rfl, rfl, rfl, rfl, rfl, rfl, rfl, rfl, rfl, rfl, trivial⟩ (by dsimp only [Sv2, kb]; rw [List.take_zero]; rfl) ⟨HLe.refl _, (by omega)⟩ ?_
   rintro j Hl1 ⟨hl5, hG⟩
   replace ht := ht.mono hl5
   replace hk := hk.mono hl5
   have hkl2 := kb_len (wx key 60).1 j hwl (by omega)
   refine ew_S (S' := [_]) rfl ?_
   refine ew_cut (e' := [(73, _), (0, _), (1, _), (4, _), (5, _), (6, _), (14, _), (17, _), (21, _), (22, _), (72, _)]) [73, 0, 1, 4, 5, 6, 14, 17, 21, 22, 72] rfl ?_
   refine ew_seq ?_
   refine rg (.q 0 XT.done) (by kernel_rfl) (by kernel_rfl) ?_
   refine q_lt rfl rfl rfl rfl ?_
   refine x_end ?_
   refine nk_cut (e' := [(0, _), (1, _), (4, _), (5, _), (6, _), (14, _), (17, _), (21, _), (22, _), (72, _), (73, _), (74, _)]) [0, 1, 4, 5, 6, 14, 17, 21, 22, 72, 73, 74] rfl ?_
   refine nk_seq ?_
   refine ew_seq ?_
   refine ew_cond rfl ?_ ?_
   ·intro hc74
    try simp only [decide_eq_true_eq] at hc74
    refine ew_skip ?_
    refine nk_seq ?_
    refine ew_seq ?_
    refine ew_block ?_
    refine ew_seq ?_
    refine rg (.q 0 (.q 1 (.q 2 (.q 3 XT.done)))) (by kernel_rfl) (by kernel_rfl) ?_
    refine q_mv rfl rfl rfl ?_
    refine q_idx Try.underlying228 Try.sizeOf227 Try.isAgg227 rfl rfl rfl rfl rfl (by omega) (by omega) (nth_get (nthM SV.u32 0 (i := j) rfl (by omega))) ?_
    refine q_as rfl rfl rfl ?_
    refine q_as rfl rfl rfl ?_
    refine x_end ?_
    refine nk_cut (e' := [(0, _), (1, _), (4, _), (5, _), (6, _), (11, _), (12, _), (14, _), (17, _), (21, _), (22, _), (72, _), (73, _), (74, _)]) [0, 1, 4, 5, 6, 11, 12, 14, 17, 21, 22, 72, 73, 74] rfl ?_
    refine nk_seq ?_
    refine rd (by kernel_rfl) [0, 1, 2, 3, 4, 5, 6, 7, 8, 9, 10, 11] [0, 1, 2, 3, 4, 5, 6, 7, 8, 9, 10, 11, 12] (.q 0 (.q 1 (.q 2 (.q 3 (.q 4 (.q 5 (.q 6 (.q 7 (.q 8 (.q 9 (.q 10 (.q 11 (.h 12 (.h 13 XT.done)))))))))))))) (by kernel_rfl) (by kernel_rfl) (keepL _ []) (keepL_sub _ _) ?_
    refine q_mv rfl rfl rfl ?_
    refine q_mv rfl rfl rfl ?_
    refine q_quo rfl rfl rfl rfl (by omega) (by omega) (by omega) ?_
    refine q_nil rfl rfl rfl ?_
    refine q_fa fa_226_1 rfl rfl rfl ?_
    refine q_ixa Try.underlying224 Try.sizeOf182 rfl rfl rfl rfl rfl (by omega) (by omega) ?_
    refine q_mv rfl rfl rfl ?_
    refine q_rem rfl rfl rfl rfl (by omega) (by omega) (by omega) ?_
    refine q_mul rfl rfl rfl rfl (by omega) (by omega) ?_
    refine q_ar_l Try.underlying182 Try.sizeOf5 rfl rfl rfl rfl (by omega) (by omega) ?_
    refine q_mv rfl rfl rfl ?_
    refine q_cv_u32_u64 Try.underlying156 (by kernel_rfl) rfl rfl rfl ?_
    refine h_call0 Try.call84 rfl rfl rfl (Put_hc (by decide) (by decide)) ?_
    rintro r_ S_ Hl1 hl6 ⟨A1, c1, rfl, rfl, hcap1, rfl⟩
    refine ⟨(fun _ => ⟨by first | exact kpL [] rfl | simp [keepL, nth], HLe.refl _⟩), ?_⟩
    refine x_S (S' := [_, _]) rfl ?_
    refine pubX (S' := [_]) 0 rfl rfl ?_
    intro Hp1 hp1 hr1
    replace ht := ht.mono hp1
    replace hk := hk.mono hp1
    refine h_cpB (cs' := (.p ⟨gt, 0, none⟩ :: (kb (wx key 60).1 (j + 1)).map SV.u8)) (S' := [_]) 0 Try.underlying26 info_5 rfl rfl rfl rfl rfl rfl (by rw [List.length_cons, List.length_map, hkl2]; omega) hr1 (by rw [List.length_map, putN_length]) (oneU8 _) (kb_step gt _ hwl (by omega) (by omega) (by omega)) rfl (fun h => absurd h (by decide)) ?_
    refine x_end ?_
    refine nk_cut (e' := [(0, _), (1, _), (4, _), (5, _), (6, _), (11, _), (12, _), (14, _), (17, _), (21, _), (22, _), (72, _), (73, _), (74, _)]) [0, 1, 4, 5, 6, 11, 12, 14, 17, 21, 22, 72, 73, 74] rfl ?_
    refine nk_blk ?_
    refine nk_seq ?_
    refine rg (.q 0 (.q 1 XT.done)) (by kernel_rfl) (by kernel_rfl) ?_
    refine q_add rfl rfl rfl rfl (by omega) (by omega) ?_
    refine q_mv rfl rfl rfl ?_
    refine x_end ?_
    refine nk_cut (e' := [(0, _), (1, _), (4, _), (5, _), (6, _), (11, _), (12, _), (14, _), (17, _), (21, _), (22, _), (72, _), (73, _), (74, _)]) [0, 1, 4, 5, 6, 11, 12, 14, 17, 21, 22, 72, 73, 74] rfl ?_
    refine nk_round (μ := Mv2) (i := j) (S := Sv2) (G := Gv2) (j + 1 : Nat) ?_ ?_ ?_ ?_
    ·exact ⟨rfl, rfl, rfl, rfl, rfl, rfl, rfl, rfl, rfl, rfl, rfl, trivial⟩
    ·exact rfl
    ·exact ⟨(hl5.trans hp1), by omega⟩
    ·dsimp only [Mv2]; omega
   ·intro hc74
    try simp only [decide_eq_false_iff_not] at hc74
    have hj60 : j = 60 := by omega
    subst hj60
    refine ew_exit _ rfl ?_
    refine nk_seq ?_
    refine ew_seq ?_
    refine rg (.q 0 (.q 1 (.q 2 XT.done))) (by kernel_rfl) (by kernel_rfl) ?_
    refine q_mv rfl rfl rfl ?_
    refine q_as rfl rfl rfl ?_
    refine q_as (sv := .i 0) rfl rfl rfl ?_
    refine x_end ?_
    refine nk_cut (e' := [(0, _), (1, _), (4, _), (5, _), (6, _), (14, _), (17, _), (21, _), (22, _), (72, _), (73, _), (74, _)]) [0, 1, 4, 5, 6, 14, 17, 21, 22, 72, 73, 74] rfl ?_
    refine nk_seq ?_
    refine pubBE 0 rfl rfl ?_
    intro Hq hlq hrq
    replace ht := ht.mono hlq
    refine ew_ret (r := .tup [_, _]) rfl rfl (.cons (.tmp rfl) (.cons (.tmp rfl) .nil)) rfl ?_
    exact ⟨_, rfl, ⟨hrq, aesKeys_len key, ht⟩, rfl, (hl5.trans hlq)⟩

end Go.GW
