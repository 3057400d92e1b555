/- Contracts of functions of the loaded program, printed by our own program gen.py. -/
import Derived.Test.YtcchamnagcpaiaaRefJ
import Derived.Test.YtcchamnagcpaiaaGcmW
namespace Go.GW
open Go Go.Proofs
set_option linter.unusedSimpArgs false
set_option linter.unusedVariables false


theorem ROpen_hc {H : Hp} {Ab : Option Addr} {cb : Nat} {Aw : Option Addr} {cw : Nat} {ps : List Sli} {Ah : Option Addr} {ch : Nat} {ws : List (List UInt8)} {h : List Bool} (hk : RKey H Ab cb Aw cw ps Ah ch ws h) {An : Option Addr} {nn cn : Nat} {nonce : List UInt8} (hno : BS H An nn cn nonce) {A1 A2 : Option Addr} {n1 c1 n2 c2 : Nat} {bs sd : List UInt8} (hbs : BS H A1 n1 c1 bs) (hsd : BS H A2 n2 c2 sd) (hb1 : n1 ≤ 1099511627776) (hb2 : n2 ≤ 1099511627776) :
  HC Try.prog 65 [.agg [.sl Ab 256 cb, .sl Aw 60 cw, .sl Ah 128 ch], .sl An nn cn, .sl A1 n1 c1, .sl A2 n2 c2] [] H (fun r S' H' => ∃ A c, r = .tup [.sl A (openR ws h nonce bs sd).1.length c, .i (openR ws h nonce bs sd).2] ∧ S' = [.own A 5 ((openR ws h nonce bs sd).1.map SV.u8) (c * 1)] ∧ (openR ws h nonce bs sd).1.length ≤ c ∧ HLe H H') := by
 have hnl := hno.len
 have hsl := hsd.len
 have hsc := hsd.cap
 refine hc_intro (n := 37) Try.func65 rfl Try.ntmps65 rfl (fun B hB => ?_)
 refine ew_cut (e' := [(0, _), (1, _), (2, _), (3, _)]) [0, 1, 2, 3] rfl ?_
 refine ew_seq ?_
 refine rg (.h 0 (.q 1 (.q 2 XT.done))) (by kernel_rfl) (by kernel_rfl) ?_
 refine h_boxS rfl rfl rfl ?_
 intro g1
 refine ⟨kp0, ?_⟩
 refine q_as (sv := .sl none 0 0) rfl rfl rfl ?_
 refine q_as (sv := .i 0) rfl rfl rfl ?_
 refine x_end ?_
 refine nk_cut (e' := [(0, _), (1, _), (2, _), (3, _), (4, _), (8, _), (9, _)]) [0, 1, 2, 3, 4, 8, 9] rfl ?_
 refine nk_seq ?_
 refine ew_seq ?_
 refine ew_seq ?_
 refine rg (.q 0 (.q 1 (.q 2 XT.done))) (by kernel_rfl) (by kernel_rfl) ?_
 refine q_mv rfl rfl rfl ?_
 refine q_len Try.underlying26 rfl rfl rfl ?_
 refine q_ne rfl rfl rfl rfl ?_
 refine x_end ?_
 refine nk_cut (e' := [(0, _), (1, _), (2, _), (3, _), (4, _), (8, _), (9, _), (13, _)]) [0, 1, 2, 3, 4, 8, 9, 13] rfl ?_
 refine nk_seq ?_
 refine ew_cond rfl ?_ ?_
 ·intro hc13
  try simp only [ne_eq, decide_eq_true_eq, decide_eq_false_iff_not, Decidable.not_not] at hc13
  have hn12 : nonce.length ≠ 12 := by omega
  refine ew_seq ?_
  refine rg (.q 0 (.q 1 XT.done)) (by kernel_rfl) (by kernel_rfl) ?_
  refine q_as (sv := .sl none 0 0) rfl rfl rfl ?_
  refine q_as (sv := .i 17) rfl rfl rfl ?_
  refine x_end ?_
  refine nk_cut (e' := [(0, _), (1, _), (2, _), (3, _), (4, _), (8, _), (9, _), (13, _)]) [0, 1, 2, 3, 4, 8, 9, 13] rfl ?_
  refine nk_seq ?_
  refine ew_nil 5 ?_
  refine ew_ret1 (r := .tup [_, _]) 0 rfl rfl (.cons (.tmp rfl) (.cons (.tmp rfl) .nil)) rfl rfl ?_
  rw [openR_1 hn12]
  exact ⟨none, 0, rfl, rfl, Nat.le_refl _, HLe.refl _⟩
 ·intro hc13
  try simp only [ne_eq, decide_eq_true_eq, decide_eq_false_iff_not, Decidable.not_not] at hc13
  have hn12 : nonce.length = 12 := by omega
  refine ew_skip ?_
  refine nk_seq ?_
  refine ew_seq ?_
  refine rg (.q 0 (.q 1 (.q 2 (.q 3 XT.done)))) (by kernel_rfl) (by kernel_rfl) ?_
  refine q_mv rfl rfl rfl ?_
  refine q_len Try.underlying26 rfl rfl rfl ?_
  refine q_sub rfl rfl rfl rfl (by omega) (by omega) ?_
  refine q_as rfl rfl rfl ?_
  refine x_end ?_
  refine nk_cut (e' := [(0, _), (1, _), (2, _), (3, _), (4, _), (8, _), (9, _), (10, _), (13, _)]) [0, 1, 2, 3, 4, 8, 9, 10, 13] rfl ?_
  refine nk_seq ?_
  refine ew_seq ?_
  refine ew_seq ?_
  refine rg (.q 0 (.q 1 XT.done)) (by kernel_rfl) (by kernel_rfl) ?_
  refine q_mv rfl rfl rfl ?_
  refine q_lt rfl rfl rfl rfl ?_
  refine x_end ?_
  refine nk_cut (e' := [(0, _), (1, _), (2, _), (3, _), (4, _), (8, _), (9, _), (10, _), (13, _), (18, _)]) [0, 1, 2, 3, 4, 8, 9, 10, 13, 18] rfl ?_
  refine nk_seq ?_
  refine ew_cond rfl ?_ ?_
  ·intro hc18
   try simp only [decide_eq_true_eq] at hc18
   refine ew_seq ?_
   refine rg (.q 0 (.q 1 XT.done)) (by kernel_rfl) (by kernel_rfl) ?_
   refine q_as (sv := .sl none 0 0) rfl rfl rfl ?_
   refine q_as (sv := .i 3) rfl rfl rfl ?_
   refine x_end ?_
   refine nk_cut (e' := [(0, _), (1, _), (2, _), (3, _), (4, _), (8, _), (9, _), (10, _), (13, _), (18, _)]) [0, 1, 2, 3, 4, 8, 9, 10, 13, 18] rfl ?_
   refine nk_seq ?_
   refine ew_nil 5 ?_
   refine ew_ret1 (r := .tup [_, _]) 0 rfl rfl (.cons (.tmp rfl) (.cons (.tmp rfl) .nil)) rfl rfl ?_
   rw [openR_2 hn12 (by omega)]
   exact ⟨none, 0, rfl, rfl, Nat.le_refl _, HLe.refl _⟩
  ·intro hc18
   try simp only [decide_eq_false_iff_not] at hc18
   have htk : sd.take ((n2 : Int) - 16).toNat = sd.take (sd.length - 16) := by congr 1; omega
   have hdk : sd.drop ((n2 : Int) - 16).toNat = sd.drop (sd.length - 16) := by congr 1; omega
   refine ew_skip ?_
   refine nk_seq ?_
   refine ew_seq ?_
   refine ew_seq ?_
   refine rd (by kernel_rfl) [0, 1, 2, 3, 4, 5, 7, 8, 9, 11] [0, 1, 2, 3, 4, 5, 6, 7, 8, 9, 10, 11] (.q 0 (.q 1 (.q 2 (.q 3 (.q 4 (.q 5 (.q 7 (.q 8 (.q 9 (.h 6 (.h 10 (.q 11 XT.done)))))))))))) (by kernel_rfl) (by kernel_rfl) (keepL _ [0]) (keepL_sub _ _) ?_
   refine q_ldS 0 Try.isAgg113 Try.sizeOf113 rfl rfl rfl rfl rfl ?_
   iterate 4 refine q_mv rfl rfl rfl ?_
   refine q_sl_h Try.underlying26 Try.sizeOf5 rfl rfl rfl rfl (by omega) (by omega) ?_
   refine q_mv rfl rfl rfl ?_
   refine q_mv rfl rfl rfl ?_
   refine q_sl_l Try.underlying26 Try.sizeOf5 rfl rfl rfl rfl (by omega) (by omega) ?_
   have hct := RTag_hc hk hno hn12 hbs (hsd.take (m := ((n2 : Int) - 16).toNat) (by omega)) hb1 (by omega)
   rw [htk] at hct
   refine h_call0 Try.call111 rfl rfl rfl (hct) ?_
   rintro r_ S_ Hn1 hl1 ⟨A1, c1, rfl, rfl, hcap1, hle1⟩
   replace hk := hk.mono hl1
   replace hno := hno.mono hl1
   replace hbs := hbs.mono hl1
   replace hsd := hsd.mono hl1
   refine ⟨(fun _ => ⟨by first | exact kpL [1] rfl | simp [keepL, nth], hl1⟩), ?_⟩
   refine x_S (S' := [_, _]) rfl ?_
   refine pubX (S' := [_]) 0 rfl rfl ?_
   intro Hp1 hp1 hr1
   replace hk := hk.mono hp1
   replace hno := hno.mono hp1
   replace hbs := hbs.mono hp1
   replace hsd := hsd.mono hp1
   refine h_call0 Try.call24 rfl rfl rfl (RSame_hc (BS.of (xs := tagR ws h nonce bs (sd.take (sd.length - 16))) hr1 (tagR_len _ _ _ _ _) hcap1) (hsd.drop (L := ((n2 : Int) - 16).toNat) (by omega)) (by decide)) ?_
   rintro r_ S_ Hp1 hl2 ⟨rfl, rfl, rfl⟩
   refine ⟨(fun _ => ⟨by first | exact kpL [0] rfl | simp [keepL, nth], (hl1.trans hp1)⟩), ?_⟩
   refine x_S (S' := [_]) rfl ?_
   refine q_not rfl rfl rfl ?_
   refine x_end ?_
   refine nk_cut (e' := [(0, _), (1, _), (2, _), (3, _), (4, _), (8, _), (9, _), (10, _), (13, _), (18, _), (30, _)]) [0, 1, 2, 3, 4, 8, 9, 10, 13, 18, 30] rfl ?_
   refine nk_seq ?_
   refine ew_cond rfl ?_ ?_
   ·intro hc30
    simp only [Bool.not_eq_true', Bool.not_eq_false', decide_eq_true_eq, decide_eq_false_iff_not, hdk] at hc30
    refine ew_seq ?_
    refine rg (.q 0 (.q 1 XT.done)) (by kernel_rfl) (by kernel_rfl) ?_
    refine q_as (sv := .sl none 0 0) rfl rfl rfl ?_
    refine q_as (sv := .i 6) rfl rfl rfl ?_
    refine x_end ?_
    refine nk_cut (e' := [(0, _), (1, _), (2, _), (3, _), (4, _), (8, _), (9, _), (10, _), (13, _), (18, _), (30, _)]) [0, 1, 2, 3, 4, 8, 9, 10, 13, 18, 30] rfl ?_
    refine nk_seq ?_
    refine ew_nil 5 ?_
    refine ew_ret1 (r := .tup [_, _]) 0 rfl rfl (.cons (.tmp rfl) (.cons (.tmp rfl) .nil)) rfl rfl ?_
    rw [openR_3 hn12 (by omega) hc30]
    exact ⟨none, 0, rfl, rfl, Nat.le_refl _, (hl1.trans hp1)⟩
   ·intro hc30
    simp only [Bool.not_eq_true', Bool.not_eq_false', decide_eq_true_eq, decide_eq_false_iff_not, hdk] at hc30
    refine ew_skip ?_
    refine nk_seq ?_
    refine ew_seq ?_
    refine rd (by kernel_rfl) [0, 1, 2, 3, 4, 6, 7] [0, 1, 2, 3, 4, 5, 6, 7] (.q 0 (.q 1 (.q 2 (.q 3 (.q 4 (.h 5 (.q 6 (.q 7 XT.done)))))))) (by kernel_rfl) (by kernel_rfl) (keepL _ [0]) (keepL_sub _ _) ?_
    refine q_ldS 0 Try.isAgg113 Try.sizeOf113 rfl rfl rfl rfl rfl ?_
    iterate 3 refine q_mv rfl rfl rfl ?_
    refine q_sl_h Try.underlying26 Try.sizeOf5 rfl rfl rfl rfl (by omega) (by omega) ?_
    have hcs := RStream_hc hk hno hn12 (hsd.take (m := ((n2 : Int) - 16).toNat) (by omega)) (by omega)
    rw [htk] at hcs
    refine h_call0 Try.call110 rfl rfl rfl (hcs) ?_
    rintro r_ S_ Hn2 hl3 ⟨A2, c2, rfl, rfl, hcap2, hle2⟩
    replace hk := hk.mono hl3
    replace hno := hno.mono hl3
    replace hbs := hbs.mono hl3
    replace hsd := hsd.mono hl3
    replace hr1 := hr1.mono hl3
    refine ⟨(fun _ => ⟨by first | exact kpL [1] rfl | simp [keepL, nth], hl3⟩), ?_⟩
    refine x_S (S' := [_, _]) rfl ?_
    refine q_as rfl rfl rfl ?_
    refine q_as (sv := .i 0) rfl rfl rfl ?_
    refine x_end ?_
    refine nk_cut (e' := [(0, _), (1, _), (2, _), (3, _), (4, _), (8, _), (9, _), (10, _), (13, _), (18, _), (30, _)]) [0, 1, 2, 3, 4, 8, 9, 10, 13, 18, 30] rfl ?_
    refine nk_seq ?_
    refine ew_ret1 (r := .tup [_, _]) 0 rfl rfl (.cons (.tmp rfl) (.cons (.tmp rfl) .nil)) rfl rfl ?_
    rw [openR_4 hn12 (by omega) hc30]
    exact ⟨_, _, congrArg (fun z => SV.tup [SV.sl _ z _, .i 0]) (streamR_len _ _ _).symm, rfl, by rw [streamR_len]; exact hcap2, ((hl1.trans hp1).trans hl3)⟩


def wsR (key : List UInt8) : List (List UInt8) := (wr boxesR key 52).1
def hkR (key : List UInt8) : List Bool := bitsB (blockR boxesR (wsR key) (zer 16))
theorem boxesR_len : boxesR.length = 256 := rgf_len _ _

theorem RNew_hc {H : Hp} {A : Option Addr} {c : Nat} {key : List UInt8} (hk : BS H A 32 c key) :
  HC Try.prog 63 [.sl A 32 c] [] H (fun r S' H' => ∃ Ab cb Aw cw ps Ah ch, r = .agg [.sl Ab 256 cb, .sl Aw 60 cw, .sl Ah 128 ch] ∧ S' = [] ∧ RKey H' Ab cb Aw cw ps Ah ch (wsR key) (hkR key) ∧ HLe H H') := by
 refine hc_intro (n := 20) Try.func63 rfl Try.ntmps63 rfl (fun B hB => ?_)
 refine ew_cut (e' := [(0, _)]) [0] rfl ?_
 refine ew_seq ?_
 refine rg (.h 0 XT.done) (by kernel_rfl) (by kernel_rfl) ?_
 refine h_alloc (cs := [_, _, _]) Try.zeroValue113 rfl rfl (zc_113 Try.zeroValue113) ?_
 intro g1
 refine ⟨kp0, ?_⟩
 refine x_end ?_
 refine nk_cut (e' := [(0, _), (2, _)]) [0, 2] rfl ?_
 refine nk_seq ?_
 refine ew_seq ?_
 refine rg (.h 0 (.q 1 (.h 2 (.h 3 XT.done)))) (by kernel_rfl) (by kernel_rfl) ?_
 refine h_call0 Try.call112 rfl rfl rfl (RBoxes_hc) ?_
 rintro r_ S_ H hl1 ⟨A1, c1, rfl, rfl, hcap1, rfl⟩
 refine ⟨kp0, ?_⟩
 refine x_S (S' := [_, _]) rfl ?_
 refine q_bld (cs := [_, _, _]) bf_113 rfl rfl rfl rfl ?_
 refine h_alloc (cs := [_, _, _]) Try.zeroValue113 rfl rfl (zc_113 Try.zeroValue113) ?_
 intro g3
 refine ⟨kp0, ?_⟩
 refine h_stS (cs' := [_, _, _]) (S' := [_, _, _]) 0 Try.sizeOf113 rfl rfl rfl rfl rfl (allOne rfl) rfl (leb rfl) rfl rfl kp0 ?_
 refine x_end ?_
 refine nk_cut (e' := [(0, _), (2, _), (3, _)]) [0, 2, 3] rfl ?_
 refine nk_seq ?_
 refine ew_seq ?_
 refine rg (.q 0 (.q 1 (.q 2 (.h 3 (.q 4 (.h 5 XT.done)))))) (by kernel_rfl) (by kernel_rfl) ?_
 refine q_fa fa_113_0 rfl rfl rfl ?_
 refine q_ld 0 Try.isAgg26 rfl rfl rfl rfl rfl ?_
 refine q_mv rfl rfl rfl ?_
 refine pubX (S' := [_, _]) 1 rfl rfl ?_
 intro Hp1 hp1 hr1
 replace hk := hk.mono hp1
 refine h_call0 Try.call113 rfl rfl rfl (RWords_hc (BS.of (xs := boxesR) hr1 boxesR_len hcap1) hk) ?_
 rintro r_ S_ Hn1 hl2 ⟨A2, c2, ps1, rfl, rfl, hws1, hle1⟩
 replace hk := hk.mono hl2
 replace hr1 := hr1.mono hl2
 refine ⟨kp0, ?_⟩
 refine x_S (S' := [_, _]) rfl ?_
 refine q_fa fa_113_1 rfl rfl rfl ?_
 refine h_st (cs' := [_, _, _]) (S' := [_, _]) 0 Try.sizeOf77 rfl rfl rfl rfl rfl rfl (ltb rfl) rfl rfl kp0 ?_
 refine x_end ?_
 refine nk_cut (e' := [(0, _), (2, _), (3, _)]) [0, 2, 3] rfl ?_
 refine nk_seq ?_
 refine ew_seq ?_
 refine rd (by kernel_rfl) [0, 1, 2, 3, 7] [0, 1, 2, 3, 4, 5, 6, 7] (.q 0 (.q 1 (.q 2 (.q 3 (.h 4 (.h 5 (.h 6 (.q 7 (.h 8 XT.done))))))))) (by kernel_rfl) (by kernel_rfl) (keepL _ [0]) (keepL_sub _ _) ?_
 refine q_fa fa_113_0 rfl rfl rfl ?_
 refine q_ld 0 Try.isAgg26 rfl rfl rfl rfl rfl ?_
 refine q_fa fa_113_1 rfl rfl rfl ?_
 refine q_ld 0 Try.isAgg77 rfl rfl rfl rfl rfl ?_
 refine h_mk (z := .u8 0) Try.underlying26 info_5 rfl rfl rfl rfl rfl rfl rfl (by omega) (by omega) (by simp only [by_5]; omega) (by omega) ?_
 intro g4
 refine ⟨(fun _ => ⟨by first | exact kpL [1] rfl | simp [keepL, nth], HLe.refl _⟩), ?_⟩
 refine pubX (S' := [_, _]) 0 rfl rfl ?_
 intro Hp2 hp2 hr2
 replace hk := hk.mono hp2
 replace hr1 := hr1.mono hp2
 replace hws1 := hws1.mono hp2
 refine h_call0 Try.call115 rfl rfl rfl (RBlock_hc (BS.of (xs := boxesR) hr1 boxesR_len hcap1) hws1 (BS.of (xs := zer 16) (by rw [zer, List.map_replicate]; exact hr2) (List.length_replicate ..) (Nat.le_refl _))) ?_
 rintro r_ S_ Hn2 hl3 ⟨A3, c3, rfl, rfl, hcap2, hle2⟩
 replace hk := hk.mono hl3
 replace hr1 := hr1.mono hl3
 replace hws1 := hws1.mono hl3
 replace hr2 := hr2.mono hl3
 refine ⟨(fun _ => ⟨by first | exact kpL [1] rfl | simp [keepL, nth], (hp2.trans hl3)⟩), ?_⟩
 refine x_S (S' := [_, _, _]) rfl ?_
 refine pubX (S' := [_, _]) 0 rfl rfl ?_
 intro Hp3 hp3 hr3
 replace hk := hk.mono hp3
 replace hr1 := hr1.mono hp3
 replace hws1 := hws1.mono hp3
 replace hr2 := hr2.mono hp3
 refine h_call0 Try.call114 rfl rfl rfl (RfBits_hc (BS.of (xs := blockR boxesR (wsR key) (zer 16)) hr3 (blockR_len _ _ _) hcap2) (by decide)) ?_
 rintro r_ S_ Hp3 hl4 ⟨A4, c4, rfl, rfl, hcap3, rfl⟩
 refine ⟨(fun _ => ⟨by first | exact kpL [1] rfl | simp [keepL, nth], ((hp2.trans hl3).trans hp3)⟩), ?_⟩
 refine x_S (S' := [_, _, _]) rfl ?_
 refine q_fa fa_113_2 rfl rfl rfl ?_
 refine h_st (cs' := [_, _, _]) (S' := [_, _, _]) 1 Try.sizeOf48 rfl rfl rfl rfl rfl rfl (ltb rfl) rfl rfl (fun h => absurd h (by decide)) ?_
 refine x_end ?_
 refine nk_cut (e' := [(0, _), (2, _), (3, _)]) [0, 2, 3] rfl ?_
 refine nk_seq ?_
 refine ew_seq ?_
 refine rg (.q 0 (.h 1 XT.done)) (by kernel_rfl) (by kernel_rfl) ?_
 refine q_ldS 1 Try.isAgg113 Try.sizeOf113 rfl rfl rfl rfl rfl ?_
 refine h_stS (cs' := [_, _, _]) (S' := [_, _, _]) 2 Try.sizeOf113 rfl rfl rfl rfl rfl (allOne rfl) rfl (leb rfl) rfl rfl kp0 ?_
 refine x_end ?_
 refine nk_cut (e' := [(0, _), (2, _), (3, _)]) [0, 2, 3] rfl ?_
 refine nk_seq ?_
 refine pubE (S' := [_, _]) 0 rfl rfl ?_
 intro Hp4 hp4 hr4
 replace hk := hk.mono hp4
 replace hr1 := hr1.mono hp4
 replace hws1 := hws1.mono hp4
 replace hr2 := hr2.mono hp4
 replace hr3 := hr3.mono hp4
 refine ew_retS rfl rfl (.cons (.agg 1 Try.isAgg113 Try.sizeOf113 rfl rfl rfl) .nil) ?_
 exact ⟨_, _, _, _, _, _, _, rfl, rfl, ⟨(BS.of (xs := boxesR) hr1 boxesR_len hcap1), hws1, (LB.of (xs := hkR key) hr4 (bitsB_len _) hcap3)⟩, (((((hp1.trans hl2).trans hp2).trans hl3).trans hp3).trans hp4)⟩

end Go.GW
