/- Contracts of functions of the loaded program, printed by our own program gen.py. -/
import Derived.Test.YtcchamnagcpaiaaRefI
import Derived.Test.YtcchamnagcpaiaaGwO
namespace Go.GW
open Go Go.Proofs
set_option linter.unusedSimpArgs false
set_option linter.unusedVariables false


def z128 : List Bool := List.replicate 128 false
def lensR (n m : Nat) : List UInt8 := putN (8 * UInt64.ofNat n) 8 ++ putN (8 * UInt64.ofNat m) 8
theorem lensR_len (n m : Nat) : (lensR n m).length = 16 := by rw [lensR, List.length_append, putN_length, putN_length]
def tagR (ws : List (List UInt8)) (h : List Bool) (nonce bs sd : List UInt8) : List UInt8 := bothR (bytesB (hashB h (hashB h (hashB h z128 bs) sd) (lensR bs.length sd.length))) (ctrR ws nonce 1)
theorem tagR_len (ws : List (List UInt8)) (h : List Bool) (nonce bs sd : List UInt8) : (tagR ws h nonce bs sd).length = 16 := by rw [tagR, bothR_len, bytesB_len]
def sealR (ws : List (List UInt8)) (h : List Bool) (nonce bs sd : List UInt8) : List UInt8 × Int := if nonce.length ≠ 12 then ([], 17) else (streamR ws nonce sd ++ tagR ws h nonce bs (streamR ws nonce sd), 0)
def openR (ws : List (List UInt8)) (h : List Bool) (nonce bs s : List UInt8) : List UInt8 × Int :=
  if nonce.length ≠ 12 then ([], 17) else if s.length < 16 then ([], 3)
  else if tagR ws h nonce bs (s.take (s.length - 16)) = s.drop (s.length - 16) then (streamR ws nonce (s.take (s.length - 16)), 0) else ([], 6)
section
variable {ws : List (List UInt8)} {h : List Bool} {nonce bs s : List UInt8}
theorem openR_1 (h1 : nonce.length ≠ 12) : openR ws h nonce bs s = ([], 17) := if_pos h1
theorem openR_2 (h1 : nonce.length = 12) (h2 : s.length < 16) : openR ws h nonce bs s = ([], 3) := (if_neg (fun h3 => h3 h1)).trans (if_pos h2)
theorem openR_3 (h1 : nonce.length = 12) (h2 : ¬ s.length < 16) (h3 : ¬ tagR ws h nonce bs (s.take (s.length - 16)) = s.drop (s.length - 16)) : openR ws h nonce bs s = ([], 6) := (if_neg (fun h3 => h3 h1)).trans ((if_neg h2).trans (if_neg h3))
theorem openR_4 (h1 : nonce.length = 12) (h2 : ¬ s.length < 16) (h3 : tagR ws h nonce bs (s.take (s.length - 16)) = s.drop (s.length - 16)) : openR ws h nonce bs s = (streamR ws nonce (s.take (s.length - 16)), 0) := (if_neg (fun h3 => h3 h1)).trans ((if_neg h2).trans (if_pos h3))
end

theorem RTag_hc {H : Hp} {Ab : Option Addr} {cb : Nat} {Aw : Option Addr} {cw : Nat} {ps : List Sli} {Ah : Option Addr} {ch : Nat} {ws : List (List UInt8)} {h : List Bool} (hk : RKey H Ab cb Aw cw ps Ah ch ws h) {An : Option Addr} {nn cn : Nat} {nonce : List UInt8} (hno : BS H An nn cn nonce) (hn12 : nonce.length = 12) {A1 A2 : Option Addr} {n1 c1 n2 c2 : Nat} {bs sd : List UInt8} (hbs : BS H A1 n1 c1 bs) (hsd : BS H A2 n2 c2 sd) (hb1 : n1 ≤ 1099511627776) (hb2 : n2 ≤ 1099511627776) :
  HC Try.prog 111 [.agg [.sl Ab 256 cb, .sl Aw 60 cw, .sl Ah 128 ch], .sl An nn cn, .sl A1 n1 c1, .sl A2 n2 c2] [] H (fun r S' H' => ∃ A c, r = .sl A 16 c ∧ S' = [.own A 5 ((tagR ws h nonce bs sd).map SV.u8) (c * 1)] ∧ 16 ≤ c ∧ HLe H H') := by
 refine hc_intro (n := 43) Try.func111 rfl Try.ntmps111 rfl (fun B hB => ?_)
 refine ew_cut (e' := [(0, _), (1, _), (2, _), (3, _)]) [0, 1, 2, 3] rfl ?_
 refine ew_seq ?_
 refine rg (.h 0 (.q 1 XT.done)) (by kernel_rfl) (by kernel_rfl) ?_
 refine h_boxS rfl rfl rfl ?_
 intro g1
 refine ⟨kp0, ?_⟩
 refine q_as (sv := .sl none 0 0) rfl rfl rfl ?_
 refine x_end ?_
 refine nk_cut (e' := [(0, _), (1, _), (2, _), (3, _), (4, _), (8, _)]) [0, 1, 2, 3, 4, 8] rfl ?_
 refine nk_seq ?_
 refine ew_seq ?_
 refine rd (by kernel_rfl) [0, 1, 3, 5] [0, 1, 2, 3, 4, 5] (.q 0 (.q 1 (.q 3 (.h 2 (.h 4 (.q 5 XT.done)))))) (by kernel_rfl) (by kernel_rfl) (keepL _ [0]) (keepL_sub _ _) ?_
 refine q_fa fa_113_2 rfl rfl rfl ?_
 refine q_ld 0 Try.isAgg48 rfl rfl rfl rfl rfl ?_
 refine q_mv rfl rfl rfl ?_
 refine h_mk (z := .b false) Try.underlying48 info_4 rfl rfl rfl rfl rfl rfl rfl (by omega) (by omega) (by simp only [by_4]; omega) (by omega) ?_
 intro g2
 refine ⟨(fun _ => ⟨by first | exact kpL [1] rfl | simp [keepL, nth], HLe.refl _⟩), ?_⟩
 refine pubX (S' := [_]) 0 rfl rfl ?_
 intro Hp1 hp1 hr1
 replace hk := hk.mono hp1
 replace hno := hno.mono hp1
 replace hbs := hbs.mono hp1
 replace hsd := hsd.mono hp1
 refine h_call0 Try.call150 rfl rfl rfl (RfHash_hc hk.hh (LB.of (xs := z128) (by rw [z128, List.map_replicate]; exact hr1) (List.length_replicate ..) (Nat.le_refl _)) hbs (by omega)) ?_
 rintro r_ S_ Hn1 hl1 ⟨A1, c1, rfl, rfl, hlb1, hle1⟩
 replace hk := hk.mono hl1
 replace hno := hno.mono hl1
 replace hbs := hbs.mono hl1
 replace hsd := hsd.mono hl1
 replace hr1 := hr1.mono hl1
 refine ⟨(fun _ => ⟨by first | exact kpL [0] rfl | simp [keepL, nth], (hp1.trans hl1)⟩), ?_⟩
 refine x_S (S' := [_]) rfl ?_
 refine q_as rfl rfl rfl ?_
 refine x_end ?_
 refine nk_cut (e' := [(0, _), (1, _), (2, _), (3, _), (4, _), (8, _), (9, _)]) [0, 1, 2, 3, 4, 8, 9] rfl ?_
 refine nk_seq ?_
 refine ew_seq ?_
 refine rg (.q 0 (.q 1 (.q 2 (.q 3 (.h 4 (.q 5 XT.done)))))) (by kernel_rfl) (by kernel_rfl) ?_
 refine q_fa fa_113_2 rfl rfl rfl ?_
 refine q_ld 0 Try.isAgg48 rfl rfl rfl rfl rfl ?_
 refine q_mv rfl rfl rfl ?_
 refine q_mv rfl rfl rfl ?_
 refine h_call0 Try.call150 rfl rfl rfl (RfHash_hc hk.hh hlb1 hsd (by omega)) ?_
 rintro r_ S_ Hn2 hl2 ⟨A2, c2, rfl, rfl, hlb2, hle2⟩
 replace hk := hk.mono hl2
 replace hno := hno.mono hl2
 replace hbs := hbs.mono hl2
 replace hsd := hsd.mono hl2
 replace hr1 := hr1.mono hl2
 replace hlb1 := hlb1.mono hl2
 refine ⟨kp0, ?_⟩
 refine x_S (S' := [_]) rfl ?_
 refine q_as rfl rfl rfl ?_
 refine x_end ?_
 refine nk_cut (e' := [(0, _), (1, _), (2, _), (3, _), (4, _), (8, _), (9, _)]) [0, 1, 2, 3, 4, 8, 9] rfl ?_
 refine nk_seq ?_
 refine ew_seq ?_
 refine rg (.q 0 (.q 1 (.q 2 (.q 3 (.h 4 (.q 5 (.q 6 (.q 7 (.q 8 (.h 9 (.h 10 (.q 11 XT.done)))))))))))) (by kernel_rfl) (by kernel_rfl) ?_
 refine q_mv rfl rfl rfl ?_
 refine q_len Try.underlying26 rfl rfl rfl ?_
 refine q_cv_i_u64 Try.underlying156 (by kernel_rfl) rfl rfl rfl (by omega) ?_
 refine q_mul_u64 rfl rfl rfl rfl ?_
 refine h_call0 Try.call85 rfl rfl rfl (RPut_hc _ _ _ rfl (by decide) (by decide)) ?_
 rintro r_ S_ Hn2 hl3 ⟨A3, c3, rfl, rfl, hcap1, rfl⟩
 refine ⟨kp0, ?_⟩
 refine x_S (S' := [_, _]) rfl ?_
 refine q_mv rfl rfl rfl ?_
 refine q_len Try.underlying26 rfl rfl rfl ?_
 refine q_cv_i_u64 Try.underlying156 (by kernel_rfl) rfl rfl rfl (by omega) ?_
 refine q_mul_u64 rfl rfl rfl rfl ?_
 refine h_call0 Try.call85 rfl rfl rfl (RPut_hc _ _ _ rfl (by decide) (by decide)) ?_
 rintro r_ S_ Hn2 hl4 ⟨A4, c4, rfl, rfl, hcap2, rfl⟩
 refine ⟨kp0, ?_⟩
 refine x_S (S' := [_, _, _]) rfl ?_
 refine h_appO (sz := 1) (S1 := [_, _]) 0 0 Try.underlying26 info_5 rfl rfl rfl (by decide) rfl rfl rfl rfl rfl rfl rfl rfl (by rw [List.length_map, putN_length, Nat.mul_one]) (by omega) (by rw [List.length_map, putN_length, Nat.mul_one]) (oneU8 _) (by simp only [by_5]; omega) (by omega) ?_
 intro A5 c5 hcap3
 refine ⟨kp0, ?_⟩
 refine x_S (S' := [_, _]) rfl ?_
 refine q_as rfl rfl rfl ?_
 refine x_end ?_
 refine nk_cut (e' := [(0, _), (1, _), (2, _), (3, _), (4, _), (8, _), (9, _), (10, _)]) [0, 1, 2, 3, 4, 8, 9, 10] rfl ?_
 refine nk_seq ?_
 refine ew_seq ?_
 refine rg (.q 0 (.q 1 (.q 2 (.q 3 (.h 4 (.q 5 XT.done)))))) (by kernel_rfl) (by kernel_rfl) ?_
 refine q_fa fa_113_2 rfl rfl rfl ?_
 refine q_ld 1 Try.isAgg48 rfl rfl rfl rfl rfl ?_
 refine q_mv rfl rfl rfl ?_
 refine q_mv rfl rfl rfl ?_
 refine pubX (S' := [_]) 0 rfl rfl ?_
 intro Hp2 hp2 hr2
 replace hk := hk.mono hp2
 replace hno := hno.mono hp2
 replace hbs := hbs.mono hp2
 replace hsd := hsd.mono hp2
 replace hr1 := hr1.mono hp2
 replace hlb1 := hlb1.mono hp2
 replace hlb2 := hlb2.mono hp2
 refine h_call0 Try.call150 rfl rfl rfl (RfHash_hc hk.hh hlb2 (BS.of (xs := lensR n1 n2) (by rw [lensR, List.map_append]; exact hr2) (lensR_len _ _) hcap3) (by decide)) ?_
 rintro r_ S_ Hn3 hl5 ⟨A6, c6, rfl, rfl, hlb3, hle3⟩
 replace hk := hk.mono hl5
 replace hno := hno.mono hl5
 replace hbs := hbs.mono hl5
 replace hsd := hsd.mono hl5
 replace hr1 := hr1.mono hl5
 replace hlb1 := hlb1.mono hl5
 replace hlb2 := hlb2.mono hl5
 replace hr2 := hr2.mono hl5
 refine ⟨kp0, ?_⟩
 refine x_S (S' := [_]) rfl ?_
 refine q_as rfl rfl rfl ?_
 refine x_end ?_
 refine nk_cut (e' := [(0, _), (1, _), (2, _), (3, _), (4, _), (8, _), (9, _), (10, _)]) [0, 1, 2, 3, 4, 8, 9, 10] rfl ?_
 refine nk_seq ?_
 refine ew_seq ?_
 refine rd (by kernel_rfl) [0, 2, 3, 6] [0, 1, 2, 3, 4, 5, 6] (.q 0 (.q 2 (.q 3 (.h 1 (.h 4 (.h 5 (.q 6 XT.done))))))) (by kernel_rfl) (by kernel_rfl) (keepL _ [0]) (keepL_sub _ _) ?_
 refine q_mv rfl rfl rfl ?_
 refine q_ldS 0 Try.isAgg113 Try.sizeOf113 rfl rfl rfl rfl rfl ?_
 refine q_mv rfl rfl rfl ?_
 refine h_call0 Try.call152 rfl rfl rfl (RfBytes_hc hlb3) ?_
 rintro r_ S_ Hn3 hl6 ⟨A7, c7, rfl, rfl, hcap4, rfl⟩
 refine ⟨(fun _ => ⟨by first | exact kpL [1] rfl | simp [keepL, nth], HLe.refl _⟩), ?_⟩
 refine x_S (S' := [_, _]) rfl ?_
 refine h_call0 Try.call149 rfl rfl rfl (RCtr_hc hk hno hn12 (v := 1) (by decide)) ?_
 rintro r_ S_ Hn4 hl7 ⟨A8, c8, rfl, rfl, hcap5, hle4⟩
 replace hk := hk.mono hl7
 replace hno := hno.mono hl7
 replace hbs := hbs.mono hl7
 replace hsd := hsd.mono hl7
 replace hr1 := hr1.mono hl7
 replace hlb1 := hlb1.mono hl7
 replace hlb2 := hlb2.mono hl7
 replace hr2 := hr2.mono hl7
 replace hlb3 := hlb3.mono hl7
 refine ⟨(fun _ => ⟨by first | exact kpL [2] rfl | simp [keepL, nth], hl7⟩), ?_⟩
 refine x_S (S' := [_, _, _]) rfl ?_
 refine pubX (S' := [_, _]) 1 rfl rfl ?_
 intro Hp3 hp3 hr3
 replace hk := hk.mono hp3
 replace hno := hno.mono hp3
 replace hbs := hbs.mono hp3
 replace hsd := hsd.mono hp3
 replace hr1 := hr1.mono hp3
 replace hlb1 := hlb1.mono hp3
 replace hlb2 := hlb2.mono hp3
 replace hr2 := hr2.mono hp3
 replace hlb3 := hlb3.mono hp3
 refine pubX (S' := [_]) 0 rfl rfl ?_
 intro Hp4 hp4 hr4
 replace hk := hk.mono hp4
 replace hno := hno.mono hp4
 replace hbs := hbs.mono hp4
 replace hsd := hsd.mono hp4
 replace hr1 := hr1.mono hp4
 replace hlb1 := hlb1.mono hp4
 replace hlb2 := hlb2.mono hp4
 replace hr2 := hr2.mono hp4
 replace hlb3 := hlb3.mono hp4
 replace hr3 := hr3.mono hp4
 refine h_call0 Try.call151 rfl rfl rfl (RXor_hc (BS.of (xs := bytesB (hashB h (hashB h (hashB h z128 bs) sd) (lensR n1 n2))) hr3 (bytesB_len _) hcap4) (BS.of (xs := ctrR ws nonce 1) hr4 (ctrR_len _ _ _) hcap5) (by decide) (by decide)) ?_
 rintro r_ S_ Hp4 hl8 ⟨A9, c9, rfl, rfl, hcap6, rfl⟩
 refine ⟨(fun _ => ⟨by first | exact kpL [1] rfl | simp [keepL, nth], ((hl7.trans hp3).trans hp4)⟩), ?_⟩
 refine x_S (S' := [_, _]) rfl ?_
 refine q_as rfl rfl rfl ?_
 refine x_end ?_
 refine nk_cut (e' := [(0, _), (1, _), (2, _), (3, _), (4, _), (8, _), (9, _), (10, _)]) [0, 1, 2, 3, 4, 8, 9, 10] rfl ?_
 refine nk_seq ?_
 refine ew_retk 0 rfl rfl (.cons (.tmp rfl) .nil) rfl rfl ?_
 rw [tagR, hbs.len, hsd.len]
 exact ⟨_, _, congrArg (fun z => SV.sl _ z _) (bytesB_len _), rfl, by have := hcap6; rwa [bytesB_len] at this, (((((((hp1.trans hl1).trans hl2).trans hp2).trans hl5).trans hl7).trans hp3).trans hp4)⟩


theorem RSeal_hc {H : Hp} {Ab : Option Addr} {cb : Nat} {Aw : Option Addr} {cw : Nat} {ps : List Sli} {Ah : Option Addr} {ch : Nat} {ws : List (List UInt8)} {h : List Bool} (hk : RKey H Ab cb Aw cw ps Ah ch ws h) {An : Option Addr} {nn cn : Nat} {nonce : List UInt8} (hno : BS H An nn cn nonce) {A1 A2 : Option Addr} {n1 c1 n2 c2 : Nat} {bs sd : List UInt8} (hbs : BS H A1 n1 c1 bs) (hsd : BS H A2 n2 c2 sd) (hb1 : n1 ≤ 1099511627776) (hb2 : n2 ≤ 1099511627776) :
  HC Try.prog 62 [.agg [.sl Ab 256 cb, .sl Aw 60 cw, .sl Ah 128 ch], .sl An nn cn, .sl A1 n1 c1, .sl A2 n2 c2] [] H (fun r S' H' => ∃ A c, r = .tup [.sl A (sealR ws h nonce bs sd).1.length c, .i (sealR ws h nonce bs sd).2] ∧ S' = [.own A 5 ((sealR ws h nonce bs sd).1.map SV.u8) (c * 1)] ∧ (sealR ws h nonce bs sd).1.length ≤ c ∧ HLe H H') := by
 have hnl := hno.len
 have hsl := hsd.len
 refine hc_intro (n := 25) Try.func62 rfl Try.ntmps62 rfl (fun B hB => ?_)
 refine ew_cut (e' := [(0, _), (1, _), (2, _), (3, _)]) [0, 1, 2, 3] rfl ?_
 refine ew_seq ?_
 refine rg (.h 0 (.q 1 (.q 2 XT.done))) (by kernel_rfl) (by kernel_rfl) ?_
 refine h_boxS rfl rfl rfl ?_
 intro g1
 refine ⟨kp0, ?_⟩
 refine q_as (sv := .sl none 0 0) rfl rfl rfl ?_
 refine q_as (sv := .i 0) rfl rfl rfl ?_
 refine x_end ?_
 refine nk_cut (e' := [(0, _), (1, _), (2, _), (3, _), (4, _), (8, _), (9, _)]) [0, 1, 2, 3, 4, 8, 9] rfl ?_
 refine nk_seq ?_
 refine ew_seq ?_
 refine ew_seq ?_
 refine rg (.q 0 (.q 1 (.q 2 XT.done))) (by kernel_rfl) (by kernel_rfl) ?_
 refine q_mv rfl rfl rfl ?_
 refine q_len Try.underlying26 rfl rfl rfl ?_
 refine q_ne rfl rfl rfl rfl ?_
 refine x_end ?_
 refine nk_cut (e' := [(0, _), (1, _), (2, _), (3, _), (4, _), (8, _), (9, _), (13, _)]) [0, 1, 2, 3, 4, 8, 9, 13] rfl ?_
 refine nk_seq ?_
 refine ew_cond rfl ?_ ?_
 ·intro hc13
  try simp only [ne_eq, decide_eq_true_eq, decide_eq_false_iff_not, Decidable.not_not] at hc13
  have hn12 : nonce.length ≠ 12 := by omega
  refine ew_seq ?_
  refine rg (.q 0 (.q 1 XT.done)) (by kernel_rfl) (by kernel_rfl) ?_
  refine q_as (sv := .sl none 0 0) rfl rfl rfl ?_
  refine q_as (sv := .i 17) rfl rfl rfl ?_
  refine x_end ?_
  refine nk_cut (e' := [(0, _), (1, _), (2, _), (3, _), (4, _), (8, _), (9, _), (13, _)]) [0, 1, 2, 3, 4, 8, 9, 13] rfl ?_
  refine nk_seq ?_
  refine ew_nil 5 ?_
  refine ew_ret1 (r := .tup [_, _]) 0 rfl rfl (.cons (.tmp rfl) (.cons (.tmp rfl) .nil)) rfl rfl ?_
  rw [show sealR ws h nonce bs sd = ([], 17) from if_pos hn12]
  exact ⟨none, 0, rfl, rfl, Nat.le_refl _, HLe.refl _⟩
 ·intro hc13
  try simp only [ne_eq, decide_eq_true_eq, decide_eq_false_iff_not, Decidable.not_not] at hc13
  have hn12 : nonce.length = 12 := by omega
  refine ew_skip ?_
  refine nk_seq ?_
  refine ew_seq ?_
  refine rg (.q 0 (.q 1 (.q 2 (.h 3 (.q 4 XT.done))))) (by kernel_rfl) (by kernel_rfl) ?_
  refine q_ldS 0 Try.isAgg113 Try.sizeOf113 rfl rfl rfl rfl rfl ?_
  refine q_mv rfl rfl rfl ?_
  refine q_mv rfl rfl rfl ?_
  refine h_call0 Try.call110 rfl rfl rfl (RStream_hc hk hno hn12 hsd (by omega)) ?_
  rintro r_ S_ Hn1 hl1 ⟨A1, c1, rfl, rfl, hcap1, hle1⟩
  replace hk := hk.mono hl1
  replace hno := hno.mono hl1
  replace hbs := hbs.mono hl1
  replace hsd := hsd.mono hl1
  refine ⟨kp0, ?_⟩
  refine x_S (S' := [_, _]) rfl ?_
  refine q_as rfl rfl rfl ?_
  refine x_end ?_
  refine nk_cut (e' := [(0, _), (1, _), (2, _), (3, _), (4, _), (8, _), (9, _), (10, _), (13, _)]) [0, 1, 2, 3, 4, 8, 9, 10, 13] rfl ?_
  refine nk_seq ?_
  refine ew_seq ?_
  refine rg (.q 0 (.q 1 (.q 2 (.q 3 (.q 4 (.h 5 (.h 6 (.q 7 (.q 8 XT.done))))))))) (by kernel_rfl) (by kernel_rfl) ?_
  refine q_mv rfl rfl rfl ?_
  refine q_ldS 1 Try.isAgg113 Try.sizeOf113 rfl rfl rfl rfl rfl ?_
  iterate 3 refine q_mv rfl rfl rfl ?_
  refine h_call Try.call111 (S2 := [_]) rfl rfl rfl (nth_split (k := 0) rfl) (HC.lend fun H1 hl1 hr1 => RTag_hc (hk.mono hl1) (hno.mono hl1) hn12 (hbs.mono hl1) (BS.of (xs := streamR ws nonce sd) hr1 (streamR_len _ _ _) hcap1) (by omega) (by omega)) ?_
  rintro r_ S_ Hn1 hl2 ⟨_, _, _, rfl, rfl, A2, c2, rfl, rfl, hcap2, _⟩
  refine ⟨kp0, ?_⟩
  refine x_S (S' := [_, _, _]) rfl ?_
  refine h_appO (sz := 1) (S1 := [_, _]) 1 0 Try.underlying26 info_5 rfl rfl rfl (by decide) rfl rfl rfl rfl rfl rfl rfl rfl (by rw [List.length_map, streamR_len, Nat.mul_one]) hcap1 (by rw [List.length_map, tagR_len]) (oneU8 _) (by simp only [by_5]; omega) (by omega) ?_
  intro A3 c3 hcap3
  refine ⟨kp0, ?_⟩
  refine x_S (S' := [_, _]) rfl ?_
  refine q_as rfl rfl rfl ?_
  refine q_as (sv := .i 0) rfl rfl rfl ?_
  refine x_end ?_
  refine nk_cut (e' := [(0, _), (1, _), (2, _), (3, _), (4, _), (8, _), (9, _), (10, _), (13, _)]) [0, 1, 2, 3, 4, 8, 9, 10, 13] rfl ?_
  refine nk_seq ?_
  refine ew_ret1 (r := .tup [_, _]) 0 rfl rfl (.cons (.tmp rfl) (.cons (.tmp rfl) .nil)) rfl rfl ?_
  have he : sealR ws h nonce bs sd = (streamR ws nonce sd ++ tagR ws h nonce bs (streamR ws nonce sd), 0) := if_neg (fun h => h hn12)
  have htl := tagR_len ws h nonce bs (streamR ws nonce sd)
  have hstl := streamR_len ws nonce sd
  rw [he, List.map_append]
  exact ⟨_, _, congrArg (fun z => SV.tup [SV.sl _ z _, .i 0]) (by rw [List.length_append]; omega), rfl, by rw [List.length_append]; omega, hl1⟩

end Go.GW
