/- Contracts of functions of the loaded program, printed by our own program gen.py. -/
import Derived.Test.YtcchamnagcpaiaaGcmA
namespace Go.GW
open Go Go.Proofs
set_option linter.unusedSimpArgs false
set_option linter.unusedVariables false


theorem GcmStream_hc {H : Hp} {gg gc gt gh : Nat} {ks : List UInt8} (hg : GcmP H gg gc gt gh ks) {An : Option Addr} {nn cn : Nat} {nonce : List UInt8} (hno : BS H An nn cn nonce) (hn12 : nonce.length = 12) {A0 : Option Addr} {n0 c0 : Nat} {b : List UInt8} (hb : BS H A0 n0 c0 b) (hn0 : n0 ≤ 549755813888) :
  HC Try.prog 108 [.p ⟨gg, 0, none⟩, .sl An nn cn, .sl A0 n0 c0] [] H (fun r S' H' => ∃ A c, r = .sl A (streamF ks nonce b).length c ∧ S' = [.own A 5 ((streamF ks nonce b).map SV.u8) (c * 1)] ∧ (streamF ks nonce b).length ≤ c ∧ HLe H H') := by
 have hbl := hb.len
 refine hc_intro (n := 41) Try.func108 rfl Try.ntmps108 rfl (fun B hB => ?_)
 refine ew_cut (e' := [(0, _), (1, _), (2, _)]) [0, 1, 2] rfl ?_
 refine ew_seq ?_
 refine rg (.q 0 XT.done) (by kernel_rfl) (by kernel_rfl) ?_
 refine q_as (sv := .sl none 0 0) rfl rfl rfl ?_
 refine x_end ?_
 refine nk_cut (e' := [(0, _), (1, _), (2, _), (6, _)]) [0, 1, 2, 6] rfl ?_
 refine nk_seq ?_
 refine ew_seq ?_
 refine rg (.q 0 (.q 1 (.h 2 (.q 3 XT.done)))) (by kernel_rfl) (by kernel_rfl) ?_
 refine q_mv rfl rfl rfl ?_
 refine q_len Try.underlying26 rfl rfl rfl ?_
 refine h_mk (z := .u8 0) Try.underlying26 info_5 rfl rfl rfl rfl rfl rfl rfl (by omega) (by omega) (by simp only [by_5]; omega) (by omega) ?_
 intro g1
 refine ⟨kp0, ?_⟩
 refine q_as rfl rfl rfl ?_
 refine x_end ?_
 refine nk_cut (e' := [(0, _), (1, _), (2, _), (6, _), (7, _)]) [0, 1, 2, 6, 7] rfl ?_
 refine nk_seq ?_
 refine ew_seq ?_
 refine ew_seq ?_
 refine rg (.q 0 XT.done) (by kernel_rfl) (by kernel_rfl) ?_
 refine q_as (sv := .u32 2) rfl rfl rfl ?_
 refine x_end ?_
 refine nk_cut (e' := [(0, _), (1, _), (2, _), (6, _), (7, _), (8, _)]) [0, 1, 2, 6, 7, 8] rfl ?_
 refine nk_seq ?_
 refine ew_block ?_
 let Ev1 : Nat × Option Addr × Nat × Nat × Option Addr × Nat → Env := fun ⟨j, A, n, c, Ao, co⟩ => [(2, .sl A n c), (7, .sl Ao (streamK ks nonce b j).length co), (8, .u32 (UInt32.ofNat (2 + j)))]
 let Sv1 : Nat × Option Addr × Nat × Nat × Option Addr × Nat → Res := fun ⟨j, A, n, c, Ao, co⟩ => [.own Ao 5 ((streamK ks nonce b j).map SV.u8) (co * 1)]
 let Gv1 : Nat × Option Addr × Nat × Nat × Option Addr × Nat → Hp → Prop := fun ⟨j, A, n, c, Ao, co⟩ H' => HLe H H' ∧ (BS H' A n c (b.drop (16 * j)) ∧ j ≤ (b.length + 15) / 16 ∧ (streamK ks nonce b j).length ≤ co)
 let Mv1 : Nat × Option Addr × Nat × Nat × Option Addr × Nat → Nat := fun ⟨j, A, n, c, Ao, co⟩ => n
 refine ew_loop (mkE [(0, _), (1, _), (6, _)] Ev1) (Sv1) Gv1 Mv1 (⟨0, A0, n0, c0, some ⟨g1, 0, none⟩, n0⟩ : Nat × Option Addr × Nat × Nat × Option Addr × Nat) ⟨rfl, rfl, rfl, rfl, rfl, rfl, trivial⟩ (by dsimp only [Sv1, streamK]; rw [Nat.mul_one]; rfl) ⟨HLe.refl _, ⟨by rw [Nat.mul_zero, List.drop_zero]; exact hb, by omega, Nat.zero_le _⟩⟩ ?_
 rintro ⟨j, A, n, c, Ao, co⟩ Hl1 ⟨hl1, hG⟩
 replace hg := hg.mono hl1
 replace hno := hno.mono hl1
 replace hb := hb.mono hl1
 obtain ⟨hbj, hj, hco⟩ := hG
 have hjl := hbj.len
 have hjc := hbj.cap
 have hjd : (b.drop (16 * j)).length = b.length - 16 * j := List.length_drop
 have hsl := streamK_len ks nonce b j
 have hsl2 := streamK_len ks nonce b (j + 1)
 have hse : (streamK ks nonce b (j + 1)).length = (streamK ks nonce b j).length + (xorF ((b.drop (16 * j)).take 16) (blockF ks (ctrF nonce (UInt32.ofNat (2 + j))))).length := by rw [streamK, List.length_append]
 refine ew_S (S' := [_]) rfl ?_
 refine ew_cut (e' := [(2, _), (7, _), (8, _), (0, _), (1, _), (6, _)]) [2, 7, 8, 0, 1, 6] rfl ?_
 refine ew_seq ?_
 refine ew_seq ?_
 refine rg (.q 0 (.q 1 (.q 2 XT.done))) (by kernel_rfl) (by kernel_rfl) ?_
 refine q_mv rfl rfl rfl ?_
 refine q_len Try.underlying26 rfl rfl rfl ?_
 refine q_gt rfl rfl rfl rfl ?_
 refine x_end ?_
 refine nk_cut (e' := [(0, _), (1, _), (2, _), (6, _), (7, _), (8, _), (16, _)]) [0, 1, 2, 6, 7, 8, 16] rfl ?_
 refine nk_seq ?_
 refine ew_cond rfl ?_ ?_
 ·intro hc16
  try simp only [decide_eq_true_eq] at hc16
  refine ew_skip ?_
  refine nk_seq ?_
  refine ew_seq ?_
  refine ew_block ?_
  refine ew_seq ?_
  refine rd (by kernel_rfl) [0, 1, 2, 3, 4, 5] [0, 1, 2, 3, 4, 5, 6, 7, 8] (.q 0 (.q 1 (.q 2 (.q 3 (.q 4 (.q 5 (.br 6 (.br 7 (.h 8 (.h 9 XT.done)) 8 (.h 7 (.h 9 XT.done))) 8 (.h 6 (.h 7 (.h 9 XT.done)))))))))) (by kernel_rfl) (by kernel_rfl) (keepL _ []) (keepL_sub _ _) ?_
  refine q_mv rfl rfl rfl ?_
  refine q_nil rfl rfl rfl ?_
  refine q_fa fa_190_0 rfl rfl rfl ?_
  refine q_ldp Try.isAgg179 rfl rfl rfl (hg.row.at_ (rfl)) ?_
  refine q_mv rfl rfl rfl ?_
  refine q_mv rfl rfl rfl ?_
  refine x_br ?_ ?_
  ·skip
   refine h_call0 Try.call144 rfl rfl rfl (GcmCtr_hc hno hn12) ?_
   rintro r_ S_ Hn1 hl2 ⟨rfl, rfl, hle1⟩
   replace hg := hg.mono hl2
   replace hno := hno.mono hl2
   replace hb := hb.mono hl2
   replace hbj := hbj.mono hl2
   refine ⟨(fun _ => ⟨by first | exact kpL [] rfl | simp [keepL, nth], hl2⟩), ?_⟩
   refine x_S (S' := [_]) rfl ?_
   refine x_br ?_ ?_
   ·skip
    refine h_call0 Try.call104 rfl rfl rfl (AesBlk_hc hg.c (ctrF_len hn12 _)) ?_
    rintro r_ S_ Hn1 hl3 ⟨rfl, rfl, rfl⟩
    refine ⟨(fun _ => ⟨by first | exact kpL [] rfl | simp [keepL, nth], hl2⟩), ?_⟩
    refine x_S (S' := [_]) rfl ?_
    refine h_alloc (cs := _) Try.zeroValue182 rfl rfl (zc_182 Try.zeroValue182) ?_
    intro g2
    refine ⟨(fun _ => ⟨by first | exact kpL [] rfl | simp [keepL, nth], hl2⟩), ?_⟩
    refine h_stS (cs' := ((blockF ks (ctrF nonce (UInt32.ofNat (2 + j)))).map SV.u8)) (S' := [_, _]) 0 Try.sizeOf182 rfl rfl rfl rfl (by rw [List.length_map, blockF_len]) (oneU8 _) rfl (by rw [List.length_map, blockF_len]; decide) (putL_all _ _ (by rw [List.length_map, blockF_len]; rfl)) rfl (fun h => absurd h (by decide)) ?_
    refine x_end ?_
    refine nk_cut (e' := [(0, _), (1, _), (2, _), (6, _), (7, _), (8, _), (9, _), (16, _)]) [0, 1, 2, 6, 7, 8, 9, 16] rfl ?_
    refine nk_seq ?_
    refine ew_seq ?_
    refine rg (.q 0 (.q 1 (.q 2 (.q 3 XT.done)))) (by kernel_rfl) (by kernel_rfl) ?_
    refine q_mv rfl rfl rfl ?_
    refine q_len Try.underlying26 rfl rfl rfl ?_
    refine q_min rfl rfl rfl rfl ?_
    refine q_as rfl rfl rfl ?_
    refine x_end ?_
    refine nk_cut (e' := [(0, _), (1, _), (2, _), (6, _), (7, _), (8, _), (9, _), (10, _), (16, _)]) [0, 1, 2, 6, 7, 8, 9, 10, 16] rfl ?_
    refine nk_seq ?_
    refine ew_seq ?_
    refine pubBE (S' := [_]) 0 rfl rfl ?_
    intro Hq1 hq1 hpb1
    replace hg := hg.mono hq1
    replace hno := hno.mono hq1
    replace hb := hb.mono hq1
    replace hbj := hbj.mono hq1
    refine rd (by kernel_rfl) [0, 1, 2, 3, 4, 7] [0, 1, 2, 3, 4, 5, 6, 7] (.q 0 (.q 1 (.q 2 (.q 3 (.q 4 (.h 5 (.h 6 (.q 7 XT.done)))))))) (by kernel_rfl) (by kernel_rfl) (keepL _ []) (keepL_sub _ _) ?_
    iterate 3 refine q_mv rfl rfl rfl ?_
    refine q_sl_h Try.underlying26 Try.sizeOf5 rfl rfl rfl rfl (by omega) (by omega) ?_
    refine q_ar_a Try.underlying182 Try.sizeOf5 rfl rfl rfl  ?_
    have hcx := Xor_hc (hbj.take (m := (min (n : Int) 16).toNat) (by omega)) (BS.of (xs := blockF ks (ctrF nonce (UInt32.ofNat (2 + j)))) (n := 16) (c := 16) hpb1 (blockF_len _ _) (by decide)) (by omega)
    rw [take_more b hjl] at hcx
    refine h_call0 Try.call145 rfl rfl rfl (hcx) ?_
    rintro r_ S_ Hq1 hl4 ⟨A1, c1, rfl, rfl, hcap1, rfl⟩
    refine ⟨(fun _ => ⟨by first | exact kpL [] rfl | simp [keepL, nth], HLe.refl _⟩), ?_⟩
    refine x_S (S' := [_, _]) rfl ?_
    refine h_appO (sz := 1) (S1 := [_]) 0 0 Try.underlying26 info_5 rfl rfl rfl (by decide) rfl rfl rfl rfl rfl rfl rfl rfl (by rw [List.length_map, Nat.mul_one]) hco (by rw [List.length_map, Nat.mul_one]) (oneU8 _) (by simp only [by_5]; omega) (by omega) ?_
    intro A2 c2 hcap2
    refine ⟨(fun _ => ⟨by first | exact kpL [] rfl | simp [keepL, nth], HLe.refl _⟩), ?_⟩
    refine x_S (S' := [_]) rfl ?_
    refine q_as rfl rfl rfl ?_
    refine x_end ?_
    refine nk_cut (e' := [(0, _), (1, _), (2, _), (6, _), (7, _), (8, _), (9, _), (10, _), (16, _)]) [0, 1, 2, 6, 7, 8, 9, 10, 16] rfl ?_
    refine nk_seq ?_
    refine rg (.q 0 (.q 1 (.q 2 (.q 3 XT.done)))) (by kernel_rfl) (by kernel_rfl) ?_
    refine q_mv rfl rfl rfl ?_
    refine q_mv rfl rfl rfl ?_
    refine q_sl_l Try.underlying26 Try.sizeOf5 rfl rfl rfl rfl (by omega) (by omega) ?_
    refine q_as rfl rfl rfl ?_
    refine x_end ?_
    refine nk_cut (e' := [(0, _), (1, _), (2, _), (6, _), (7, _), (8, _), (9, _), (10, _), (16, _)]) [0, 1, 2, 6, 7, 8, 9, 10, 16] rfl ?_
    refine nk_blk ?_
    refine nk_seq ?_
    refine rg (.q 0 (.q 1 (.q 2 XT.done))) (by kernel_rfl) (by kernel_rfl) ?_
    refine q_mv rfl rfl rfl ?_
    refine q_add_u32 rfl rfl rfl rfl ?_
    refine q_as rfl rfl rfl ?_
    refine x_end ?_
    refine nk_cut (e' := [(0, _), (1, _), (2, _), (6, _), (7, _), (8, _), (9, _), (10, _), (16, _)]) [0, 1, 2, 6, 7, 8, 9, 10, 16] rfl ?_
    refine nk_round (μ := Mv1) (i := (j, A, n, c, Ao, co)) (S := Sv1) (G := Gv1) (⟨j + 1, cutA A c (min (n : Int) 16).toNat 1, n - (min (n : Int) 16).toNat, c - (min (n : Int) 16).toNat, A2, c2⟩ : Nat × Option Addr × Nat × Nat × Option Addr × Nat) ?_ ?_ ?_ ?_
    ·exact ⟨rfl, congrArg (fun z => some (SV.sl _ z _)) hse.symm, congrArg (fun z => some (SV.u32 z)) (u32_succ j), rfl, rfl, rfl, trivial⟩
    ·exact (by dsimp only [Sv1]; rw [← List.map_append]; rfl)
    ·exact ⟨((hl1.trans hl2).trans hq1), ⟨by have h := hbj.drop (L := (min (n : Int) 16).toNat) (by omega); rwa [drop_more b hjl] at h, by omega, by omega⟩⟩
    ·dsimp only [Mv1]; omega
   ·skip
    refine h_alloc (cs := _) Try.zeroValue182 rfl rfl (zc_182 Try.zeroValue182) ?_
    intro g4
    refine ⟨(fun _ => ⟨by first | exact kpL [] rfl | simp [keepL, nth], hl2⟩), ?_⟩
    refine h_call0 Try.call104 rfl rfl rfl (AesBlk_hc hg.c (ctrF_len hn12 _)) ?_
    rintro r_ S_ Hn1 hl5 ⟨rfl, rfl, rfl⟩
    refine ⟨(fun _ => ⟨by first | exact kpL [] rfl | simp [keepL, nth], hl2⟩), ?_⟩
    refine x_S (S' := [_, _]) rfl ?_
    refine h_stS (cs' := ((blockF ks (ctrF nonce (UInt32.ofNat (2 + j)))).map SV.u8)) (S' := [_, _]) 0 Try.sizeOf182 rfl rfl rfl rfl (by rw [List.length_map, blockF_len]) (oneU8 _) rfl (by rw [List.length_map, blockF_len]; decide) (putL_all _ _ (by rw [List.length_map, blockF_len]; rfl)) rfl (fun h => absurd h (by decide)) ?_
    refine x_end ?_
    refine nk_cut (e' := [(0, _), (1, _), (2, _), (6, _), (7, _), (8, _), (9, _), (16, _)]) [0, 1, 2, 6, 7, 8, 9, 16] rfl ?_
    refine nk_seq ?_
    refine ew_seq ?_
    refine rg (.q 0 (.q 1 (.q 2 (.q 3 XT.done)))) (by kernel_rfl) (by kernel_rfl) ?_
    refine q_mv rfl rfl rfl ?_
    refine q_len Try.underlying26 rfl rfl rfl ?_
    refine q_min rfl rfl rfl rfl ?_
    refine q_as rfl rfl rfl ?_
    refine x_end ?_
    refine nk_cut (e' := [(0, _), (1, _), (2, _), (6, _), (7, _), (8, _), (9, _), (10, _), (16, _)]) [0, 1, 2, 6, 7, 8, 9, 10, 16] rfl ?_
    refine nk_seq ?_
    refine ew_seq ?_
    refine pubBE (S' := [_]) 0 rfl rfl ?_
    intro Hq2 hq2 hpb2
    replace hg := hg.mono hq2
    replace hno := hno.mono hq2
    replace hb := hb.mono hq2
    replace hbj := hbj.mono hq2
    refine rd (by kernel_rfl) [0, 1, 2, 3, 4, 7] [0, 1, 2, 3, 4, 5, 6, 7] (.q 0 (.q 1 (.q 2 (.q 3 (.q 4 (.h 5 (.h 6 (.q 7 XT.done)))))))) (by kernel_rfl) (by kernel_rfl) (keepL _ []) (keepL_sub _ _) ?_
    iterate 3 refine q_mv rfl rfl rfl ?_
    refine q_sl_h Try.underlying26 Try.sizeOf5 rfl rfl rfl rfl (by omega) (by omega) ?_
    refine q_ar_a Try.underlying182 Try.sizeOf5 rfl rfl rfl  ?_
    have hcx := Xor_hc (hbj.take (m := (min (n : Int) 16).toNat) (by omega)) (BS.of (xs := blockF ks (ctrF nonce (UInt32.ofNat (2 + j)))) (n := 16) (c := 16) hpb2 (blockF_len _ _) (by decide)) (by omega)
    rw [take_more b hjl] at hcx
    refine h_call0 Try.call145 rfl rfl rfl (hcx) ?_
    rintro r_ S_ Hq2 hl6 ⟨A3, c3, rfl, rfl, hcap3, rfl⟩
    refine ⟨(fun _ => ⟨by first | exact kpL [] rfl | simp [keepL, nth], HLe.refl _⟩), ?_⟩
    refine x_S (S' := [_, _]) rfl ?_
    refine h_appO (sz := 1) (S1 := [_]) 0 0 Try.underlying26 info_5 rfl rfl rfl (by decide) rfl rfl rfl rfl rfl rfl rfl rfl (by rw [List.length_map, Nat.mul_one]) hco (by rw [List.length_map, Nat.mul_one]) (oneU8 _) (by simp only [by_5]; omega) (by omega) ?_
    intro A4 c4 hcap4
    refine ⟨(fun _ => ⟨by first | exact kpL [] rfl | simp [keepL, nth], HLe.refl _⟩), ?_⟩
    refine x_S (S' := [_]) rfl ?_
    refine q_as rfl rfl rfl ?_
    refine x_end ?_
    refine nk_cut (e' := [(0, _), (1, _), (2, _), (6, _), (7, _), (8, _), (9, _), (10, _), (16, _)]) [0, 1, 2, 6, 7, 8, 9, 10, 16] rfl ?_
    refine nk_seq ?_
    refine rg (.q 0 (.q 1 (.q 2 (.q 3 XT.done)))) (by kernel_rfl) (by kernel_rfl) ?_
    refine q_mv rfl rfl rfl ?_
    refine q_mv rfl rfl rfl ?_
    refine q_sl_l Try.underlying26 Try.sizeOf5 rfl rfl rfl rfl (by omega) (by omega) ?_
    refine q_as rfl rfl rfl ?_
    refine x_end ?_
    refine nk_cut (e' := [(0, _), (1, _), (2, _), (6, _), (7, _), (8, _), (9, _), (10, _), (16, _)]) [0, 1, 2, 6, 7, 8, 9, 10, 16] rfl ?_
    refine nk_blk ?_
    refine nk_seq ?_
    refine rg (.q 0 (.q 1 (.q 2 XT.done))) (by kernel_rfl) (by kernel_rfl) ?_
    refine q_mv rfl rfl rfl ?_
    refine q_add_u32 rfl rfl rfl rfl ?_
    refine q_as rfl rfl rfl ?_
    refine x_end ?_
    refine nk_cut (e' := [(0, _), (1, _), (2, _), (6, _), (7, _), (8, _), (9, _), (10, _), (16, _)]) [0, 1, 2, 6, 7, 8, 9, 10, 16] rfl ?_
    refine nk_round (μ := Mv1) (i := (j, A, n, c, Ao, co)) (S := Sv1) (G := Gv1) (⟨j + 1, cutA A c (min (n : Int) 16).toNat 1, n - (min (n : Int) 16).toNat, c - (min (n : Int) 16).toNat, A4, c4⟩ : Nat × Option Addr × Nat × Nat × Option Addr × Nat) ?_ ?_ ?_ ?_
    ·exact ⟨rfl, congrArg (fun z => some (SV.sl _ z _)) hse.symm, congrArg (fun z => some (SV.u32 z)) (u32_succ j), rfl, rfl, rfl, trivial⟩
    ·exact (by dsimp only [Sv1]; rw [← List.map_append]; rfl)
    ·exact ⟨((hl1.trans hl2).trans hq2), ⟨by have h := hbj.drop (L := (min (n : Int) 16).toNat) (by omega); rwa [drop_more b hjl] at h, by omega, by omega⟩⟩
    ·dsimp only [Mv1]; omega
  ·skip
   refine h_alloc (cs := _) Try.zeroValue182 rfl rfl (zc_182 Try.zeroValue182) ?_
   intro g6
   refine ⟨(fun _ => ⟨by first | exact kpL [] rfl | simp [keepL, nth], HLe.refl _⟩), ?_⟩
   refine h_call0 Try.call144 rfl rfl rfl (GcmCtr_hc hno hn12) ?_
   rintro r_ S_ Hn2 hl7 ⟨rfl, rfl, hle2⟩
   replace hg := hg.mono hl7
   replace hno := hno.mono hl7
   replace hb := hb.mono hl7
   replace hbj := hbj.mono hl7
   refine ⟨(fun _ => ⟨by first | exact kpL [] rfl | simp [keepL, nth], hl7⟩), ?_⟩
   refine x_S (S' := [_, _]) rfl ?_
   refine h_call0 Try.call104 rfl rfl rfl (AesBlk_hc hg.c (ctrF_len hn12 _)) ?_
   rintro r_ S_ Hn2 hl8 ⟨rfl, rfl, rfl⟩
   refine ⟨(fun _ => ⟨by first | exact kpL [] rfl | simp [keepL, nth], hl7⟩), ?_⟩
   refine x_S (S' := [_, _]) rfl ?_
   refine h_stS (cs' := ((blockF ks (ctrF nonce (UInt32.ofNat (2 + j)))).map SV.u8)) (S' := [_, _]) 0 Try.sizeOf182 rfl rfl rfl rfl (by rw [List.length_map, blockF_len]) (oneU8 _) rfl (by rw [List.length_map, blockF_len]; decide) (putL_all _ _ (by rw [List.length_map, blockF_len]; rfl)) rfl (fun h => absurd h (by decide)) ?_
   refine x_end ?_
   refine nk_cut (e' := [(0, _), (1, _), (2, _), (6, _), (7, _), (8, _), (9, _), (16, _)]) [0, 1, 2, 6, 7, 8, 9, 16] rfl ?_
   refine nk_seq ?_
   refine ew_seq ?_
   refine rg (.q 0 (.q 1 (.q 2 (.q 3 XT.done)))) (by kernel_rfl) (by kernel_rfl) ?_
   refine q_mv rfl rfl rfl ?_
   refine q_len Try.underlying26 rfl rfl rfl ?_
   refine q_min rfl rfl rfl rfl ?_
   refine q_as rfl rfl rfl ?_
   refine x_end ?_
   refine nk_cut (e' := [(0, _), (1, _), (2, _), (6, _), (7, _), (8, _), (9, _), (10, _), (16, _)]) [0, 1, 2, 6, 7, 8, 9, 10, 16] rfl ?_
   refine nk_seq ?_
   refine ew_seq ?_
   refine pubBE (S' := [_]) 0 rfl rfl ?_
   intro Hq3 hq3 hpb3
   replace hg := hg.mono hq3
   replace hno := hno.mono hq3
   replace hb := hb.mono hq3
   replace hbj := hbj.mono hq3
   refine rd (by kernel_rfl) [0, 1, 2, 3, 4, 7] [0, 1, 2, 3, 4, 5, 6, 7] (.q 0 (.q 1 (.q 2 (.q 3 (.q 4 (.h 5 (.h 6 (.q 7 XT.done)))))))) (by kernel_rfl) (by kernel_rfl) (keepL _ []) (keepL_sub _ _) ?_
   iterate 3 refine q_mv rfl rfl rfl ?_
   refine q_sl_h Try.underlying26 Try.sizeOf5 rfl rfl rfl rfl (by omega) (by omega) ?_
   refine q_ar_a Try.underlying182 Try.sizeOf5 rfl rfl rfl  ?_
   have hcx := Xor_hc (hbj.take (m := (min (n : Int) 16).toNat) (by omega)) (BS.of (xs := blockF ks (ctrF nonce (UInt32.ofNat (2 + j)))) (n := 16) (c := 16) hpb3 (blockF_len _ _) (by decide)) (by omega)
   rw [take_more b hjl] at hcx
   refine h_call0 Try.call145 rfl rfl rfl (hcx) ?_
   rintro r_ S_ Hq3 hl9 ⟨A5, c5, rfl, rfl, hcap5, rfl⟩
   refine ⟨(fun _ => ⟨by first | exact kpL [] rfl | simp [keepL, nth], HLe.refl _⟩), ?_⟩
   refine x_S (S' := [_, _]) rfl ?_
   refine h_appO (sz := 1) (S1 := [_]) 0 0 Try.underlying26 info_5 rfl rfl rfl (by decide) rfl rfl rfl rfl rfl rfl rfl rfl (by rw [List.length_map, Nat.mul_one]) hco (by rw [List.length_map, Nat.mul_one]) (oneU8 _) (by simp only [by_5]; omega) (by omega) ?_
   intro A6 c6 hcap6
   refine ⟨(fun _ => ⟨by first | exact kpL [] rfl | simp [keepL, nth], HLe.refl _⟩), ?_⟩
   refine x_S (S' := [_]) rfl ?_
   refine q_as rfl rfl rfl ?_
   refine x_end ?_
   refine nk_cut (e' := [(0, _), (1, _), (2, _), (6, _), (7, _), (8, _), (9, _), (10, _), (16, _)]) [0, 1, 2, 6, 7, 8, 9, 10, 16] rfl ?_
   refine nk_seq ?_
   refine rg (.q 0 (.q 1 (.q 2 (.q 3 XT.done)))) (by kernel_rfl) (by kernel_rfl) ?_
   refine q_mv rfl rfl rfl ?_
   refine q_mv rfl rfl rfl ?_
   refine q_sl_l Try.underlying26 Try.sizeOf5 rfl rfl rfl rfl (by omega) (by omega) ?_
   refine q_as rfl rfl rfl ?_
   refine x_end ?_
   refine nk_cut (e' := [(0, _), (1, _), (2, _), (6, _), (7, _), (8, _), (9, _), (10, _), (16, _)]) [0, 1, 2, 6, 7, 8, 9, 10, 16] rfl ?_
   refine nk_blk ?_
   refine nk_seq ?_
   refine rg (.q 0 (.q 1 (.q 2 XT.done))) (by kernel_rfl) (by kernel_rfl) ?_
   refine q_mv rfl rfl rfl ?_
   refine q_add_u32 rfl rfl rfl rfl ?_
   refine q_as rfl rfl rfl ?_
   refine x_end ?_
   refine nk_cut (e' := [(0, _), (1, _), (2, _), (6, _), (7, _), (8, _), (9, _), (10, _), (16, _)]) [0, 1, 2, 6, 7, 8, 9, 10, 16] rfl ?_
   refine nk_round (μ := Mv1) (i := (j, A, n, c, Ao, co)) (S := Sv1) (G := Gv1) (⟨j + 1, cutA A c (min (n : Int) 16).toNat 1, n - (min (n : Int) 16).toNat, c - (min (n : Int) 16).toNat, A6, c6⟩ : Nat × Option Addr × Nat × Nat × Option Addr × Nat) ?_ ?_ ?_ ?_
   ·exact ⟨rfl, congrArg (fun z => some (SV.sl _ z _)) hse.symm, congrArg (fun z => some (SV.u32 z)) (u32_succ j), rfl, rfl, rfl, trivial⟩
   ·exact (by dsimp only [Sv1]; rw [← List.map_append]; rfl)
   ·exact ⟨((hl1.trans hl7).trans hq3), ⟨by have h := hbj.drop (L := (min (n : Int) 16).toNat) (by omega); rwa [drop_more b hjl] at h, by omega, by omega⟩⟩
   ·dsimp only [Mv1]; omega
 ·intro hc16
  try simp only [decide_eq_false_iff_not] at hc16
  have hjj : j = (b.length + 15) / 16 := by omega
  subst hjj
  refine ew_exit _ rfl ?_
  refine nk_seq ?_
  refine ew_seq ?_
  refine rg (.q 0 (.q 1 XT.done)) (by kernel_rfl) (by kernel_rfl) ?_
  refine q_mv rfl rfl rfl ?_
  refine q_as rfl rfl rfl ?_
  refine x_end ?_
  refine nk_cut (e' := [(0, _), (1, _), (2, _), (6, _), (7, _), (8, _), (16, _)]) [0, 1, 2, 6, 7, 8, 16] rfl ?_
  refine nk_seq ?_
  refine ew_retk 0 rfl rfl (.cons (.tmp rfl) .nil) rfl rfl ?_
  exact ⟨Ao, co, rfl, rfl, hco, hl1⟩


theorem GcmBits_hc {H : Hp} {A : Option Addr} {n c : Nat} {b : List UInt8} (hb : BS H A n c b) :
  HC Try.prog 146 [.sl A n c] [] H (fun r S' H' => ∃ A c, r = .sl A 8 c ∧ S' = [.own A 5 ((bits8 b.length).map SV.u8) (c * 1)] ∧ 8 ≤ c ∧ H' = H) := by
 have hbl := hb.len
 refine hc_intro (n := 8) Try.func146 rfl Try.ntmps146 rfl (fun B hB => ?_)
 refine ew_cut (e' := [(0, _)]) [0] rfl ?_
 refine ew_seq ?_
 refine rg (.q 0 XT.done) (by kernel_rfl) (by kernel_rfl) ?_
 refine q_as (sv := .sl none 0 0) rfl rfl rfl ?_
 refine x_end ?_
 refine nk_cut (e' := [(0, _), (2, _)]) [0, 2] rfl ?_
 refine nk_seq ?_
 refine ew_seq ?_
 refine rg (.q 0 (.q 1 (.q 2 (.q 3 (.h 4 (.q 5 XT.done)))))) (by kernel_rfl) (by kernel_rfl) ?_
 refine q_mv rfl rfl rfl ?_
 refine q_len Try.underlying26 rfl rfl rfl ?_
 refine q_cv_i_u64 Try.underlying156 (by kernel_rfl) rfl rfl rfl (by omega) ?_
 refine q_mul_u64 rfl rfl rfl rfl ?_
 refine h_call0 Try.call84 rfl rfl rfl (Put_hc (by decide) (by decide)) ?_
 rintro r_ S_ H hl1 ⟨A1, c1, rfl, rfl, hcap1, rfl⟩
 refine ⟨kp0, ?_⟩
 refine x_S (S' := [_]) rfl ?_
 refine q_as rfl rfl rfl ?_
 refine x_end ?_
 refine nk_cut (e' := [(0, _), (2, _)]) [0, 2] rfl ?_
 refine nk_seq ?_
 refine ew_retk 0 rfl rfl (.cons (.tmp rfl) .nil) rfl rfl ?_
 exact ⟨_, _, rfl, by rw [hbl]; rfl, by assumption, rfl⟩


theorem GcmTagC_hc {H : Hp} {gg gc gt gh : Nat} {ks : List UInt8} (hg : GcmP H gg gc gt gh ks) {An : Option Addr} {nn cn : Nat} {nonce : List UInt8} (hno : BS H An nn cn nonce) (hn12 : nonce.length = 12) {A1 A2 : Option Addr} {n1 c1 n2 c2 : Nat} {bs sd : List UInt8} (hbs : BS H A1 n1 c1 bs) (hsd : BS H A2 n2 c2 sd) :
  HC Try.prog 109 [.p ⟨gg, 0, none⟩, .sl An nn cn, .sl A1 n1 c1, .sl A2 n2 c2] [] H (fun r S' H' => ∃ A c, r = .sl A (tagF ks nonce bs sd).length c ∧ S' = [.own A 5 ((tagF ks nonce bs sd).map SV.u8) (c * 1)] ∧ (tagF ks nonce bs sd).length ≤ c ∧ HLe H H') := by
 refine hc_intro (n := 51) Try.func109 rfl Try.ntmps109 rfl (fun B hB => ?_)
 refine ew_cut (e' := [(0, _), (1, _), (2, _), (3, _)]) [0, 1, 2, 3] rfl ?_
 refine ew_seq ?_
 refine rg (.q 0 XT.done) (by kernel_rfl) (by kernel_rfl) ?_
 refine q_as (sv := .sl none 0 0) rfl rfl rfl ?_
 refine x_end ?_
 refine nk_cut (e' := [(0, _), (1, _), (2, _), (3, _), (8, _)]) [0, 1, 2, 3, 8] rfl ?_
 refine nk_seq ?_
 refine ew_seq ?_
 refine rg (.q 0 XT.done) (by kernel_rfl) (by kernel_rfl) ?_
 refine q_as rfl rfl rfl ?_
 refine x_end ?_
 refine nk_cut (e' := [(0, _), (1, _), (2, _), (3, _), (8, _), (9, _)]) [0, 1, 2, 3, 8, 9] rfl ?_
 refine nk_seq ?_
 refine ew_seq ?_
 refine rg (.q 0 (.q 1 (.q 2 (.q 3 (.q 4 (.q 5 (.h 6 (.h 7 (.h 8 XT.done))))))))) (by kernel_rfl) (by kernel_rfl) ?_
 refine q_mv rfl rfl rfl ?_
 refine q_nil rfl rfl rfl ?_
 refine q_fa fa_190_1 rfl rfl rfl ?_
 refine q_ldp Try.isAgg184 rfl rfl rfl (hg.row.at_ (rfl)) ?_
 refine q_bld (cs := [_, _]) bf_187 rfl rfl rfl rfl ?_
 refine q_mv rfl rfl rfl ?_
 refine h_call0 Try.call147 rfl rfl rfl (ElHash_hc (y := ⟨0, 0⟩) hg.h hbs) ?_
 rintro r_ S_ Hn1 hl1 ⟨rfl, rfl, hle1⟩
 replace hg := hg.mono hl1
 replace hno := hno.mono hl1
 replace hbs := hbs.mono hl1
 replace hsd := hsd.mono hl1
 refine ⟨kp0, ?_⟩
 refine x_S (S' := []) rfl ?_
 refine h_alloc (cs := [_, _]) Try.zeroValue187 rfl rfl (zc_187 Try.zeroValue187) ?_
 intro g1
 refine ⟨kp0, ?_⟩
 refine h_stS (cs' := [_, _]) (S' := [_]) 0 Try.sizeOf187 rfl rfl rfl rfl rfl (allOne rfl) rfl (leb rfl) rfl rfl kp0 ?_
 refine x_end ?_
 refine nk_cut (e' := [(0, _), (1, _), (2, _), (3, _), (8, _), (9, _), (10, _)]) [0, 1, 2, 3, 8, 9, 10] rfl ?_
 refine nk_seq ?_
 refine ew_seq ?_
 refine rd (by kernel_rfl) [0, 1, 2, 3, 4, 5] [0, 1, 2, 3, 4, 5] (.q 0 (.q 1 (.q 2 (.q 3 (.q 4 (.q 5 (.h 6 (.h 7 XT.done)))))))) (by kernel_rfl) (by kernel_rfl) (keepL _ [0]) (keepL_sub _ _) ?_
 refine q_mv rfl rfl rfl ?_
 refine q_nil rfl rfl rfl ?_
 refine q_fa fa_190_1 rfl rfl rfl ?_
 refine q_ldp Try.isAgg184 rfl rfl rfl (hg.row.at_ (rfl)) ?_
 refine q_ldS 0 Try.isAgg187 Try.sizeOf187 rfl rfl rfl rfl rfl ?_
 refine q_mv rfl rfl rfl ?_
 refine h_call0 Try.call147 rfl rfl rfl (ElHash_hc (y := hashF (hkey ks) ⟨0, 0⟩ bs) hg.h hsd) ?_
 rintro r_ S_ Hn2 hl2 ⟨rfl, rfl, hle2⟩
 replace hg := hg.mono hl2
 replace hno := hno.mono hl2
 replace hbs := hbs.mono hl2
 replace hsd := hsd.mono hl2
 refine ⟨(fun h => absurd h (by decide)), ?_⟩
 refine x_S (S' := [_]) rfl ?_
 refine h_stS (cs' := [_, _]) (S' := [_]) 0 Try.sizeOf187 rfl rfl rfl rfl rfl (allOne rfl) rfl (leb rfl) rfl rfl (fun h => absurd h (by decide)) ?_
 refine x_end ?_
 refine nk_cut (e' := [(0, _), (1, _), (2, _), (3, _), (8, _), (9, _), (10, _)]) [0, 1, 2, 3, 8, 9, 10] rfl ?_
 refine nk_seq ?_
 refine ew_seq ?_
 refine rd (by kernel_rfl) [0, 1, 2, 3, 4, 5, 6, 8, 9] [0, 1, 2, 3, 4, 5, 6, 7, 8, 9, 10, 11, 12] (.q 0 (.q 1 (.q 2 (.q 3 (.q 4 (.q 5 (.q 6 (.q 8 (.q 9 (.h 7 (.h 10 (.h 11 (.h 12 (.h 13 (.h 14 XT.done))))))))))))))) (by kernel_rfl) (by kernel_rfl) (keepL _ [0]) (keepL_sub _ _) ?_
 refine q_mv rfl rfl rfl ?_
 refine q_nil rfl rfl rfl ?_
 refine q_fa fa_190_1 rfl rfl rfl ?_
 refine q_ldp Try.isAgg184 rfl rfl rfl (hg.row.at_ (rfl)) ?_
 refine q_ldS 0 Try.isAgg187 Try.sizeOf187 rfl rfl rfl rfl rfl ?_
 iterate 4 refine q_mv rfl rfl rfl ?_
 refine h_callv Try.call146 (S2 := [_]) rfl rfl rfl rfl rfl (List.Perm.refl _) (GcmBits_hc hbs) ?_
 rintro r_ S_ Hn2 hl3 ⟨A1, c1, rfl, rfl, hcap1, rfl⟩
 refine ⟨(fun _ => ⟨by first | exact kpL [1] rfl | simp [keepL, nth], HLe.refl _⟩), ?_⟩
 refine x_S (S' := [_, _]) rfl ?_
 refine h_callv Try.call146 (S2 := [_, _]) rfl rfl rfl rfl rfl (List.Perm.refl _) (GcmBits_hc hsd) ?_
 rintro r_ S_ Hn2 hl4 ⟨A2, c2, rfl, rfl, hcap2, rfl⟩
 refine ⟨(fun _ => ⟨by first | exact kpL [2] rfl | simp [keepL, nth], HLe.refl _⟩), ?_⟩
 refine x_S (S' := [_, _, _]) rfl ?_
 refine h_bs (cs := [_, _]) Try.underlying77 info_26 rfl rfl rfl rfl rfl rfl rfl rfl rfl (by decide) ?_
 intro g4
 refine ⟨(fun _ => ⟨by first | exact kpL [3] rfl | simp [keepL, nth], HLe.refl _⟩), ?_⟩
 refine pubX (S' := [_, _, _]) 2 rfl rfl ?_
 intro Hp1 hp1 hr1
 replace hg := hg.mono hp1
 replace hno := hno.mono hp1
 replace hbs := hbs.mono hp1
 replace hsd := hsd.mono hp1
 refine pubX (S' := [_, _]) 1 rfl rfl ?_
 intro Hp2 hp2 hr2
 replace hg := hg.mono hp2
 replace hno := hno.mono hp2
 replace hbs := hbs.mono hp2
 replace hsd := hsd.mono hp2
 replace hr1 := hr1.mono hp2
 refine pubX (S' := [_]) 0 rfl rfl ?_
 intro Hp3 hp3 hr3
 replace hg := hg.mono hp3
 replace hno := hno.mono hp3
 replace hbs := hbs.mono hp3
 replace hsd := hsd.mono hp3
 replace hr1 := hr1.mono hp3
 replace hr2 := hr2.mono hp3
 refine h_call0 Try.call80 rfl rfl rfl (Join2_hc hr3 (xs := bits8 bs.length) (ys := bits8 sd.length) ⟨hr1, putN_length _ _, (by assumption)⟩ ⟨hr2, putN_length _ _, (by assumption)⟩ (by decide)) ?_
 rintro r_ S_ Hp3 hl5 ⟨A3, c3, rfl, rfl, hcap3, rfl⟩
 refine ⟨(fun _ => ⟨by first | exact kpL [1] rfl | simp [keepL, nth], ((hp1.trans hp2).trans hp3)⟩), ?_⟩
 refine x_S (S' := [_, _]) rfl ?_
 refine pubX (S' := [_]) 0 rfl rfl ?_
 intro Hp4 hp4 hr4
 replace hg := hg.mono hp4
 replace hno := hno.mono hp4
 replace hbs := hbs.mono hp4
 replace hsd := hsd.mono hp4
 replace hr1 := hr1.mono hp4
 replace hr2 := hr2.mono hp4
 replace hr3 := hr3.mono hp4
 refine h_call0 Try.call147 rfl rfl rfl (ElHash_hc (y := hashF (hkey ks) (hashF (hkey ks) ⟨0, 0⟩ bs) sd) hg.h ⟨hr4, rfl, hcap3⟩) ?_
 rintro r_ S_ Hn3 hl6 ⟨rfl, rfl, hle3⟩
 replace hg := hg.mono hl6
 replace hno := hno.mono hl6
 replace hbs := hbs.mono hl6
 replace hsd := hsd.mono hl6
 replace hr1 := hr1.mono hl6
 replace hr2 := hr2.mono hl6
 replace hr3 := hr3.mono hl6
 replace hr4 := hr4.mono hl6
 refine ⟨(fun h => absurd h (by decide)), ?_⟩
 refine x_S (S' := [_]) rfl ?_
 refine h_stS (cs' := [_, _]) (S' := [_]) 0 Try.sizeOf187 rfl rfl rfl rfl rfl (allOne rfl) rfl (leb rfl) rfl rfl (fun h => absurd h (by decide)) ?_
 refine x_end ?_
 refine nk_cut (e' := [(0, _), (1, _), (2, _), (3, _), (8, _), (9, _), (10, _)]) [0, 1, 2, 3, 8, 9, 10] rfl ?_
 refine nk_seq ?_
 refine ew_seq ?_
 refine rd (by kernel_rfl) [0, 1, 2, 3, 4] [0, 1, 2, 3, 4, 5, 6, 7] (.q 0 (.q 1 (.q 2 (.q 3 (.q 4 (.br 5 (.br 6 (.h 7 (.h 8 XT.done)) 7 (.h 6 (.h 8 XT.done))) 7 (.h 5 (.h 6 (.h 8 XT.done))))))))) (by kernel_rfl) (by kernel_rfl) (keepL _ []) (keepL_sub _ _) ?_
 refine q_mv rfl rfl rfl ?_
 refine q_nil rfl rfl rfl ?_
 refine q_fa fa_190_0 rfl rfl rfl ?_
 refine q_ldp Try.isAgg179 rfl rfl rfl (hg.row.at_ (rfl)) ?_
 refine q_mv rfl rfl rfl ?_
 refine x_br ?_ ?_
 ·skip
  refine h_call0 Try.call144 rfl rfl rfl (GcmCtr_hc hno hn12) ?_
  rintro r_ S_ Hn4 hl7 ⟨rfl, rfl, hle4⟩
  replace hg := hg.mono hl7
  replace hno := hno.mono hl7
  replace hbs := hbs.mono hl7
  replace hsd := hsd.mono hl7
  replace hr1 := hr1.mono hl7
  replace hr2 := hr2.mono hl7
  replace hr3 := hr3.mono hl7
  replace hr4 := hr4.mono hl7
  refine ⟨(fun _ => ⟨by first | exact kpL [] rfl | simp [keepL, nth], hl7⟩), ?_⟩
  refine x_S (S' := [_]) rfl ?_
  refine x_br ?_ ?_
  ·skip
   refine h_call0 Try.call104 rfl rfl rfl (AesBlk_hc hg.c (ctrF_len hn12 _)) ?_
   rintro r_ S_ Hn4 hl8 ⟨rfl, rfl, rfl⟩
   refine ⟨(fun _ => ⟨by first | exact kpL [] rfl | simp [keepL, nth], hl7⟩), ?_⟩
   refine x_S (S' := [_]) rfl ?_
   refine h_alloc (cs := _) Try.zeroValue182 rfl rfl (zc_182 Try.zeroValue182) ?_
   intro g6
   refine ⟨(fun _ => ⟨by first | exact kpL [] rfl | simp [keepL, nth], hl7⟩), ?_⟩
   refine h_stS (cs' := ((blockF ks (ctrF nonce 1)).map SV.u8)) (S' := [_, _]) 0 Try.sizeOf182 rfl rfl rfl rfl (by rw [List.length_map, blockF_len]) (oneU8 _) rfl (by rw [List.length_map, blockF_len]; decide) (putL_all _ _ (by rw [List.length_map, blockF_len]; rfl)) rfl (fun h => absurd h (by decide)) ?_
   refine x_end ?_
   refine nk_cut (e' := [(0, _), (1, _), (2, _), (3, _), (8, _), (9, _), (10, _), (11, _)]) [0, 1, 2, 3, 8, 9, 10, 11] rfl ?_
   refine nk_seq ?_
   refine ew_seq ?_
   refine pubBE (S' := [_]) 0 rfl rfl ?_
   intro Hq1 hq1 hpb1
   replace hg := hg.mono hq1
   replace hno := hno.mono hq1
   replace hbs := hbs.mono hq1
   replace hsd := hsd.mono hq1
   replace hr1 := hr1.mono hq1
   replace hr2 := hr2.mono hq1
   replace hr3 := hr3.mono hq1
   replace hr4 := hr4.mono hq1
   refine rd (by kernel_rfl) [0, 2, 4] [0, 1, 2, 3, 4] (.q 0 (.q 2 (.h 1 (.h 3 (.q 4 XT.done))))) (by kernel_rfl) (by kernel_rfl) (keepL _ [0]) (keepL_sub _ _) ?_
   refine q_ldS 0 Try.isAgg187 Try.sizeOf187 rfl rfl rfl rfl rfl ?_
   refine q_ar_a Try.underlying182 Try.sizeOf5 rfl rfl rfl  ?_
   refine h_call0 Try.call148 rfl rfl rfl (ElBytes_hc (e := hashF (hkey ks) (hashF (hkey ks) (hashF (hkey ks) ⟨0, 0⟩ bs) sd) (bits8 bs.length ++ bits8 sd.length))) ?_
   rintro r_ S_ Hn5 hl9 ⟨A4, c4, rfl, rfl, hcap4, hle5⟩
   replace hg := hg.mono hl9
   replace hno := hno.mono hl9
   replace hbs := hbs.mono hl9
   replace hsd := hsd.mono hl9
   replace hr1 := hr1.mono hl9
   replace hr2 := hr2.mono hl9
   replace hr3 := hr3.mono hl9
   replace hr4 := hr4.mono hl9
   replace hpb1 := hpb1.mono hl9
   refine ⟨(fun _ => ⟨by first | exact kpL [1] rfl | simp [keepL, nth], hl9⟩), ?_⟩
   refine x_S (S' := [_, _]) rfl ?_
   refine pubX (S' := [_]) 0 rfl rfl ?_
   intro Hp5 hp5 hr5
   replace hg := hg.mono hp5
   replace hno := hno.mono hp5
   replace hbs := hbs.mono hp5
   replace hsd := hsd.mono hp5
   replace hr1 := hr1.mono hp5
   replace hr2 := hr2.mono hp5
   replace hr3 := hr3.mono hp5
   replace hr4 := hr4.mono hp5
   replace hpb1 := hpb1.mono hp5
   refine h_call0 Try.call145 rfl rfl rfl (Xor_hc ⟨hr5, El.bytes_len _, hcap4⟩ (BS.of (xs := blockF ks (ctrF nonce 1)) (n := 16) (c := 16) hpb1 (blockF_len _ _) (by decide)) (by decide)) ?_
   rintro r_ S_ Hp5 hl10 ⟨A5, c5, rfl, rfl, hcap5, rfl⟩
   refine ⟨(fun _ => ⟨by first | exact kpL [1] rfl | simp [keepL, nth], (hl9.trans hp5)⟩), ?_⟩
   refine x_S (S' := [_, _]) rfl ?_
   refine q_as rfl rfl rfl ?_
   refine x_end ?_
   refine nk_cut (e' := [(0, _), (1, _), (2, _), (3, _), (8, _), (9, _), (10, _), (11, _)]) [0, 1, 2, 3, 8, 9, 10, 11] rfl ?_
   refine nk_seq ?_
   refine ew_retk 0 rfl rfl (.cons (.tmp rfl) .nil) rfl rfl ?_
   exact ⟨_, _, rfl, rfl, by assumption, ((((((((((hl1.trans hl2).trans hp1).trans hp2).trans hp3).trans hp4).trans hl6).trans hl7).trans hq1).trans hl9).trans hp5)⟩
  ·skip
   refine h_alloc (cs := _) Try.zeroValue182 rfl rfl (zc_182 Try.zeroValue182) ?_
   intro g9
   refine ⟨(fun _ => ⟨by first | exact kpL [] rfl | simp [keepL, nth], hl7⟩), ?_⟩
   refine h_call0 Try.call104 rfl rfl rfl (AesBlk_hc hg.c (ctrF_len hn12 _)) ?_
   rintro r_ S_ Hn4 hl11 ⟨rfl, rfl, rfl⟩
   refine ⟨(fun _ => ⟨by first | exact kpL [] rfl | simp [keepL, nth], hl7⟩), ?_⟩
   refine x_S (S' := [_, _]) rfl ?_
   refine h_stS (cs' := ((blockF ks (ctrF nonce 1)).map SV.u8)) (S' := [_, _]) 0 Try.sizeOf182 rfl rfl rfl rfl (by rw [List.length_map, blockF_len]) (oneU8 _) rfl (by rw [List.length_map, blockF_len]; decide) (putL_all _ _ (by rw [List.length_map, blockF_len]; rfl)) rfl (fun h => absurd h (by decide)) ?_
   refine x_end ?_
   refine nk_cut (e' := [(0, _), (1, _), (2, _), (3, _), (8, _), (9, _), (10, _), (11, _)]) [0, 1, 2, 3, 8, 9, 10, 11] rfl ?_
   refine nk_seq ?_
   refine ew_seq ?_
   refine pubBE (S' := [_]) 0 rfl rfl ?_
   intro Hq2 hq2 hpb2
   replace hg := hg.mono hq2
   replace hno := hno.mono hq2
   replace hbs := hbs.mono hq2
   replace hsd := hsd.mono hq2
   replace hr1 := hr1.mono hq2
   replace hr2 := hr2.mono hq2
   replace hr3 := hr3.mono hq2
   replace hr4 := hr4.mono hq2
   refine rd (by kernel_rfl) [0, 2, 4] [0, 1, 2, 3, 4] (.q 0 (.q 2 (.h 1 (.h 3 (.q 4 XT.done))))) (by kernel_rfl) (by kernel_rfl) (keepL _ [0]) (keepL_sub _ _) ?_
   refine q_ldS 0 Try.isAgg187 Try.sizeOf187 rfl rfl rfl rfl rfl ?_
   refine q_ar_a Try.underlying182 Try.sizeOf5 rfl rfl rfl  ?_
   refine h_call0 Try.call148 rfl rfl rfl (ElBytes_hc (e := hashF (hkey ks) (hashF (hkey ks) (hashF (hkey ks) ⟨0, 0⟩ bs) sd) (bits8 bs.length ++ bits8 sd.length))) ?_
   rintro r_ S_ Hn6 hl12 ⟨A6, c6, rfl, rfl, hcap6, hle6⟩
   replace hg := hg.mono hl12
   replace hno := hno.mono hl12
   replace hbs := hbs.mono hl12
   replace hsd := hsd.mono hl12
   replace hr1 := hr1.mono hl12
   replace hr2 := hr2.mono hl12
   replace hr3 := hr3.mono hl12
   replace hr4 := hr4.mono hl12
   replace hpb2 := hpb2.mono hl12
   refine ⟨(fun _ => ⟨by first | exact kpL [1] rfl | simp [keepL, nth], hl12⟩), ?_⟩
   refine x_S (S' := [_, _]) rfl ?_
   refine pubX (S' := [_]) 0 rfl rfl ?_
   intro Hp6 hp6 hr6
   replace hg := hg.mono hp6
   replace hno := hno.mono hp6
   replace hbs := hbs.mono hp6
   replace hsd := hsd.mono hp6
   replace hr1 := hr1.mono hp6
   replace hr2 := hr2.mono hp6
   replace hr3 := hr3.mono hp6
   replace hr4 := hr4.mono hp6
   replace hpb2 := hpb2.mono hp6
   refine h_call0 Try.call145 rfl rfl rfl (Xor_hc ⟨hr6, El.bytes_len _, hcap6⟩ (BS.of (xs := blockF ks (ctrF nonce 1)) (n := 16) (c := 16) hpb2 (blockF_len _ _) (by decide)) (by decide)) ?_
   rintro r_ S_ Hp6 hl13 ⟨A7, c7, rfl, rfl, hcap7, rfl⟩
   refine ⟨(fun _ => ⟨by first | exact kpL [1] rfl | simp [keepL, nth], (hl12.trans hp6)⟩), ?_⟩
   refine x_S (S' := [_, _]) rfl ?_
   refine q_as rfl rfl rfl ?_
   refine x_end ?_
   refine nk_cut (e' := [(0, _), (1, _), (2, _), (3, _), (8, _), (9, _), (10, _), (11, _)]) [0, 1, 2, 3, 8, 9, 10, 11] rfl ?_
   refine nk_seq ?_
   refine ew_retk 0 rfl rfl (.cons (.tmp rfl) .nil) rfl rfl ?_
   exact ⟨_, _, rfl, rfl, by assumption, ((((((((((hl1.trans hl2).trans hp1).trans hp2).trans hp3).trans hp4).trans hl6).trans hl7).trans hq2).trans hl12).trans hp6)⟩
 ·skip
  refine h_alloc (cs := _) Try.zeroValue182 rfl rfl (zc_182 Try.zeroValue182) ?_
  intro g12
  refine ⟨(fun _ => ⟨by first | exact kpL [] rfl | simp [keepL, nth], HLe.refl _⟩), ?_⟩
  refine h_call0 Try.call144 rfl rfl rfl (GcmCtr_hc hno hn12) ?_
  rintro r_ S_ Hn7 hl14 ⟨rfl, rfl, hle7⟩
  replace hg := hg.mono hl14
  replace hno := hno.mono hl14
  replace hbs := hbs.mono hl14
  replace hsd := hsd.mono hl14
  replace hr1 := hr1.mono hl14
  replace hr2 := hr2.mono hl14
  replace hr3 := hr3.mono hl14
  replace hr4 := hr4.mono hl14
  refine ⟨(fun _ => ⟨by first | exact kpL [] rfl | simp [keepL, nth], hl14⟩), ?_⟩
  refine x_S (S' := [_, _]) rfl ?_
  refine h_call0 Try.call104 rfl rfl rfl (AesBlk_hc hg.c (ctrF_len hn12 _)) ?_
  rintro r_ S_ Hn7 hl15 ⟨rfl, rfl, rfl⟩
  refine ⟨(fun _ => ⟨by first | exact kpL [] rfl | simp [keepL, nth], hl14⟩), ?_⟩
  refine x_S (S' := [_, _]) rfl ?_
  refine h_stS (cs' := ((blockF ks (ctrF nonce 1)).map SV.u8)) (S' := [_, _]) 0 Try.sizeOf182 rfl rfl rfl rfl (by rw [List.length_map, blockF_len]) (oneU8 _) rfl (by rw [List.length_map, blockF_len]; decide) (putL_all _ _ (by rw [List.length_map, blockF_len]; rfl)) rfl (fun h => absurd h (by decide)) ?_
  refine x_end ?_
  refine nk_cut (e' := [(0, _), (1, _), (2, _), (3, _), (8, _), (9, _), (10, _), (11, _)]) [0, 1, 2, 3, 8, 9, 10, 11] rfl ?_
  refine nk_seq ?_
  refine ew_seq ?_
  refine pubBE (S' := [_]) 0 rfl rfl ?_
  intro Hq3 hq3 hpb3
  replace hg := hg.mono hq3
  replace hno := hno.mono hq3
  replace hbs := hbs.mono hq3
  replace hsd := hsd.mono hq3
  replace hr1 := hr1.mono hq3
  replace hr2 := hr2.mono hq3
  replace hr3 := hr3.mono hq3
  replace hr4 := hr4.mono hq3
  refine rd (by kernel_rfl) [0, 2, 4] [0, 1, 2, 3, 4] (.q 0 (.q 2 (.h 1 (.h 3 (.q 4 XT.done))))) (by kernel_rfl) (by kernel_rfl) (keepL _ [0]) (keepL_sub _ _) ?_
  refine q_ldS 0 Try.isAgg187 Try.sizeOf187 rfl rfl rfl rfl rfl ?_
  refine q_ar_a Try.underlying182 Try.sizeOf5 rfl rfl rfl  ?_
  refine h_call0 Try.call148 rfl rfl rfl (ElBytes_hc (e := hashF (hkey ks) (hashF (hkey ks) (hashF (hkey ks) ⟨0, 0⟩ bs) sd) (bits8 bs.length ++ bits8 sd.length))) ?_
  rintro r_ S_ Hn8 hl16 ⟨A8, c8, rfl, rfl, hcap8, hle8⟩
  replace hg := hg.mono hl16
  replace hno := hno.mono hl16
  replace hbs := hbs.mono hl16
  replace hsd := hsd.mono hl16
  replace hr1 := hr1.mono hl16
  replace hr2 := hr2.mono hl16
  replace hr3 := hr3.mono hl16
  replace hr4 := hr4.mono hl16
  replace hpb3 := hpb3.mono hl16
  refine ⟨(fun _ => ⟨by first | exact kpL [1] rfl | simp [keepL, nth], hl16⟩), ?_⟩
  refine x_S (S' := [_, _]) rfl ?_
  refine pubX (S' := [_]) 0 rfl rfl ?_
  intro Hp7 hp7 hr7
  replace hg := hg.mono hp7
  replace hno := hno.mono hp7
  replace hbs := hbs.mono hp7
  replace hsd := hsd.mono hp7
  replace hr1 := hr1.mono hp7
  replace hr2 := hr2.mono hp7
  replace hr3 := hr3.mono hp7
  replace hr4 := hr4.mono hp7
  replace hpb3 := hpb3.mono hp7
  refine h_call0 Try.call145 rfl rfl rfl (Xor_hc ⟨hr7, El.bytes_len _, hcap8⟩ (BS.of (xs := blockF ks (ctrF nonce 1)) (n := 16) (c := 16) hpb3 (blockF_len _ _) (by decide)) (by decide)) ?_
  rintro r_ S_ Hp7 hl17 ⟨A9, c9, rfl, rfl, hcap9, rfl⟩
  refine ⟨(fun _ => ⟨by first | exact kpL [1] rfl | simp [keepL, nth], (hl16.trans hp7)⟩), ?_⟩
  refine x_S (S' := [_, _]) rfl ?_
  refine q_as rfl rfl rfl ?_
  refine x_end ?_
  refine nk_cut (e' := [(0, _), (1, _), (2, _), (3, _), (8, _), (9, _), (10, _), (11, _)]) [0, 1, 2, 3, 8, 9, 10, 11] rfl ?_
  refine nk_seq ?_
  refine ew_retk 0 rfl rfl (.cons (.tmp rfl) .nil) rfl rfl ?_
  exact ⟨_, _, rfl, rfl, by assumption, ((((((((((hl1.trans hl2).trans hp1).trans hp2).trans hp3).trans hp4).trans hl6).trans hl14).trans hq3).trans hl16).trans hp7)⟩

end Go.GW
