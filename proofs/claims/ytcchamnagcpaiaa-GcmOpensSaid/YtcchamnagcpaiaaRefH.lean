/- Contracts of functions of the loaded program, printed by our own program gen.py. -/
import Derived.Test.YtcchamnagcpaiaaRefG
import Derived.Test.YtcchamnagcpaiaaReadA
namespace Go.GW
open Go Go.Proofs
set_option linter.unusedSimpArgs false
set_option linter.unusedVariables false


theorem RXor_hc {H : Hp} {A1 A2 : Option Addr} {n1 c1 n2 c2 : Nat} {xs ys : List UInt8} (hx : BS H A1 n1 c1 xs) (hy : BS H A2 n2 c2 ys) (hn : n1 ≤ 1099511627776) (hle : n1 ≤ n2) :
  HC Try.prog 151 [.sl A1 n1 c1, .sl A2 n2 c2] [] H (fun r S' H' => ∃ A c, r = .sl A xs.length c ∧ S' = [.own A 5 ((bothR xs ys).map SV.u8) (c * 1)] ∧ xs.length ≤ c ∧ H' = H) := by
 have hlx := hx.len
 have hly := hy.len
 refine hc_intro (n := 32) Try.func151 rfl Try.ntmps151 rfl (fun B hB => ?_)
 refine ew_cut (e' := [(0, _), (1, _)]) [0, 1] rfl ?_
 refine ew_seq ?_
 refine rg (.q 0 XT.done) (by kernel_rfl) (by kernel_rfl) ?_
 refine q_as (sv := .sl none 0 0) rfl rfl rfl ?_
 refine x_end ?_
 refine nk_cut (e' := [(0, _), (1, _), (4, _)]) [0, 1, 4] rfl ?_
 refine nk_seq ?_
 refine ew_seq ?_
 refine rg (.q 0 XT.done) (by kernel_rfl) (by kernel_rfl) ?_
 refine q_as (sv := .sl none 0 0) rfl rfl rfl ?_
 refine x_nil 5 ?_
 refine x_end ?_
 refine nk_cut (e' := [(0, _), (1, _), (4, _), (5, _)]) [0, 1, 4, 5] rfl ?_
 refine nk_seq ?_
 refine ew_seq ?_
 refine ew_seq ?_
 refine rg (.q 0 XT.done) (by kernel_rfl) (by kernel_rfl) ?_
 refine q_as (sv := .i 0) rfl rfl rfl ?_
 refine x_end ?_
 refine nk_cut (e' := [(0, _), (1, _), (4, _), (5, _), (6, _)]) [0, 1, 4, 5, 6] rfl ?_
 refine nk_seq ?_
 refine ew_block ?_
 let Ev1 : Nat × Option Addr × Nat → Env := fun ⟨k, A, c⟩ => [(6, .i (k : Int)), (5, .sl A k c)]
 let Sv1 : Nat × Option Addr × Nat → Res := fun ⟨k, A, c⟩ => [.own A 5 ((rgf (fun i => xs.getD i 0 ^^^ ys.getD i 0) k).map SV.u8) (c * 1)]
 let Gv1 : Nat × Option Addr × Nat → Hp → Prop := fun ⟨k, A, c⟩ H' => H = H' ∧ (k ≤ n1 ∧ k ≤ c)
 let Mv1 : Nat × Option Addr × Nat → Nat := fun ⟨k, A, c⟩ => n1 - k
 refine ew_loop (mkE [(0, _), (1, _), (4, _)] Ev1) (Sv1) Gv1 Mv1 (⟨0, none, 0⟩ : Nat × Option Addr × Nat) ⟨rfl, rfl, rfl, rfl, rfl, trivial⟩ rfl ⟨rfl, ⟨by omega, Nat.zero_le _⟩⟩ ?_
 rintro ⟨k, A, c⟩ H' ⟨rfl, hG⟩
 obtain ⟨hk, hkc⟩ := hG
 have hrl := rgf_len (fun i => xs.getD i 0 ^^^ ys.getD i 0) k
 refine ew_S (S' := [_]) rfl ?_
 refine ew_cut (e' := [(6, _), (5, _), (0, _), (1, _), (4, _)]) [6, 5, 0, 1, 4] rfl ?_
 refine ew_seq ?_
 refine ew_seq ?_
 refine rg (.q 0 (.q 1 (.q 2 (.q 3 (.q 4 (.q 5 (.q 6 (.q 7 (.q 8 (.q 9 XT.done)))))))))) (by kernel_rfl) (by kernel_rfl) ?_
 refine q_mv rfl rfl rfl ?_
 refine q_mv rfl rfl rfl ?_
 refine q_len Try.underlying26 rfl rfl rfl ?_
 refine q_lt rfl rfl rfl rfl ?_
 refine q_mv rfl rfl rfl ?_
 refine x_spl (d := 11) rfl ?_ ?_
 ·intro hb11
  try simp only [Bool.not_eq_true', Bool.not_eq_false', decide_eq_true_eq, decide_eq_false_iff_not, ne_eq, Decidable.not_not] at hb11
  refine q_mv rfl rfl rfl ?_
  refine q_mv rfl rfl rfl ?_
  refine q_len Try.underlying26 rfl rfl rfl ?_
  refine q_lt rfl rfl rfl rfl ?_
  refine q_pkT rfl rfl rfl rfl ?_
  refine x_end ?_
  refine nk_cut (e' := [(0, _), (1, _), (4, _), (5, _), (6, _), (16, _)]) [0, 1, 4, 5, 6, 16] rfl ?_
  refine nk_seq ?_
  refine ew_cond rfl ?_ ?_
  ·intro hc16
   try simp only [decide_eq_true_eq] at hc16
   refine ew_skip ?_
   refine nk_seq ?_
   refine ew_seq ?_
   refine ew_block ?_
   refine rd (by kernel_rfl) [0, 1, 2, 3, 4, 5, 6, 7, 8, 9, 12] [0, 1, 2, 3, 4, 5, 6, 7, 8, 9, 10, 11, 12] (.q 0 (.q 1 (.q 2 (.q 3 (.q 4 (.q 5 (.q 6 (.q 7 (.q 8 (.q 9 (.h 10 (.h 11 (.q 12 XT.done))))))))))))) (by kernel_rfl) (by kernel_rfl) (keepL _ []) (keepL_sub _ _) ?_
   iterate 3 refine q_mv rfl rfl rfl ?_
   refine q_ixs1 Try.underlying26 Try.sizeOf5 rfl rfl rfl rfl rfl (hx.ne (by omega)) (by omega) (by omega) ?_
   refine q_ldp Try.isAgg5 rfl rfl rfl (hx.cell (j := k) (by omega)) ?_
   refine q_mv rfl rfl rfl ?_
   refine q_mv rfl rfl rfl ?_
   refine q_ixs1 Try.underlying26 Try.sizeOf5 rfl rfl rfl rfl rfl (hy.ne (by omega)) (by omega) (by omega) ?_
   refine q_ldp Try.isAgg5 rfl rfl rfl (hy.cell (j := k) (by omega)) ?_
   refine q_xor_u8 rfl rfl rfl rfl ?_
   refine h_bs (cs := [_]) Try.underlying26 info_5 rfl rfl rfl rfl rfl rfl rfl rfl rfl (by decide) ?_
   intro g2
   refine ⟨(fun _ => ⟨by first | exact kpL [] rfl | simp [keepL, nth], HLe.refl _⟩), ?_⟩
   refine h_appO (sz := 1) (S1 := [_]) 0 0 Try.underlying26 info_5 rfl rfl rfl (by decide) rfl rfl rfl rfl rfl rfl rfl rfl (by rw [List.length_map, hrl, Nat.mul_one]) hkc rfl (allOne rfl) (by simp only [by_5]; omega) (by omega) ?_
   intro A1 c1 hcap1
   refine ⟨(fun _ => ⟨by first | exact kpL [] rfl | simp [keepL, nth], HLe.refl _⟩), ?_⟩
   refine x_S (S' := [_]) rfl ?_
   refine q_as rfl rfl rfl ?_
   refine x_end ?_
   refine nk_cut (e' := [(0, _), (1, _), (4, _), (5, _), (6, _), (16, _)]) [0, 1, 4, 5, 6, 16] rfl ?_
   refine nk_blk ?_
   refine nk_seq ?_
   refine rg (.q 0 (.q 1 (.q 2 XT.done))) (by kernel_rfl) (by kernel_rfl) ?_
   refine q_mv rfl rfl rfl ?_
   refine q_add rfl rfl rfl rfl (by omega) (by omega) ?_
   refine q_as rfl rfl rfl ?_
   refine x_end ?_
   refine nk_cut (e' := [(0, _), (1, _), (4, _), (5, _), (6, _), (16, _)]) [0, 1, 4, 5, 6, 16] rfl ?_
   refine nk_round (μ := Mv1) (i := (k, A, c)) (S := Sv1) (G := Gv1) (⟨k + 1, A1, c1⟩ : Nat × Option Addr × Nat) ?_ ?_ ?_ ?_
   ·exact ⟨rfl, rfl, rfl, rfl, rfl, trivial⟩
   ·exact (by dsimp only [Sv1]; rw [← rgf_map (fun i => xs.getD i 0 ^^^ ys.getD i 0) SV.u8 rfl] <;> rfl)
   ·exact ⟨rfl, ⟨by omega, by omega⟩⟩
   ·dsimp only [Mv1]; omega
  ·intro hc16
   try simp only [decide_eq_false_iff_not] at hc16
   omega
 ·intro hb11
  try simp only [Bool.not_eq_true', Bool.not_eq_false', decide_eq_true_eq, decide_eq_false_iff_not, ne_eq, Decidable.not_not] at hb11
  have hk : k = xs.length := by omega
  subst hk
  iterate 4 refine q_skip rfl rfl ?_
  refine q_pkF rfl rfl rfl rfl ?_
  refine x_end ?_
  refine nk_cut (e' := [(0, _), (1, _), (4, _), (5, _), (6, _), (16, _)]) [0, 1, 4, 5, 6, 16] rfl ?_
  refine nk_seq ?_
  refine ew_false rfl ?_
  refine ew_exit _ rfl ?_
  refine nk_seq ?_
  refine ew_seq ?_
  refine rg (.q 0 (.q 1 XT.done)) (by kernel_rfl) (by kernel_rfl) ?_
  refine q_mv rfl rfl rfl ?_
  refine q_as rfl rfl rfl ?_
  refine x_end ?_
  refine nk_cut (e' := [(0, _), (1, _), (4, _), (5, _), (6, _), (16, _)]) [0, 1, 4, 5, 6, 16] rfl ?_
  refine nk_seq ?_
  refine ew_retk 0 rfl rfl (.cons (.tmp rfl) .nil) rfl rfl ?_
  exact ⟨A, c, rfl, rfl, hkc, rfl⟩


structure RKey (H : Hp) (Ab : Option Addr) (cb : Nat) (Aw : Option Addr) (cw : Nat) (ps : List Sli) (Ah : Option Addr) (ch : Nat) (ws : List (List UInt8)) (h : List Bool) : Prop where
  bx : BS H Ab 256 cb boxesR
  ws : WS H Aw 60 cw ws ps
  hh : LB H Ah 128 ch h
theorem RKey.mono {H H' : Hp} {Ab : Option Addr} {cb : Nat} {Aw : Option Addr} {cw : Nat} {ps : List Sli} {Ah : Option Addr} {ch : Nat} {ws : List (List UInt8)} {h : List Bool} (k : RKey H Ab cb Aw cw ps Ah ch ws h) (hle : HLe H H') : RKey H' Ab cb Aw cw ps Ah ch ws h := ⟨k.bx.mono hle, k.ws.mono hle, k.hh.mono hle⟩
def ctrR (ws : List (List UInt8)) (nonce : List UInt8) (v : Nat) : List UInt8 := blockR boxesR ws (nonce ++ putN (UInt64.ofNat v) 4)
theorem ctrR_len (ws : List (List UInt8)) (nonce : List UInt8) (v : Nat) : (ctrR ws nonce v).length = 16 := blockR_len _ _ _
def stR (ws : List (List UInt8)) (nonce xs : List UInt8) (i : Nat) : UInt8 := xs.getD i 0 ^^^ (ctrR ws nonce (2 + i / 16)).getD (i % 16) 0
def streamR (ws : List (List UInt8)) (nonce xs : List UInt8) : List UInt8 := rgf (stR ws nonce xs) xs.length
theorem streamR_len (ws : List (List UInt8)) (nonce xs : List UInt8) : (streamR ws nonce xs).length = xs.length := rgf_len _ _

theorem RCtr_hc {H : Hp} {Ab : Option Addr} {cb : Nat} {Aw : Option Addr} {cw : Nat} {ps : List Sli} {Ah : Option Addr} {ch : Nat} {ws : List (List UInt8)} {h : List Bool} (hk : RKey H Ab cb Aw cw ps Ah ch ws h) {An : Option Addr} {nn cn : Nat} {nonce : List UInt8} (hno : BS H An nn cn nonce) (hn12 : nonce.length = 12) {v : Int} (hv : 0 ≤ v) :
  HC Try.prog 149 [.agg [.sl Ab 256 cb, .sl Aw 60 cw, .sl Ah 128 ch], .sl An nn cn, .i v] [] H (fun r S' H' => ∃ A c, r = .sl A 16 c ∧ S' = [.own A 5 ((ctrR ws nonce v.toNat).map SV.u8) (c * 1)] ∧ 16 ≤ c ∧ HLe H H') := by
 have hnl := hno.len
 refine hc_intro (n := 21) Try.func149 rfl Try.ntmps149 rfl (fun B hB => ?_)
 refine ew_cut (e' := [(0, _), (1, _), (2, _)]) [0, 1, 2] rfl ?_
 refine ew_seq ?_
 refine rg (.h 0 (.q 1 XT.done)) (by kernel_rfl) (by kernel_rfl) ?_
 refine h_boxS rfl rfl rfl ?_
 intro g1
 refine ⟨kp0, ?_⟩
 refine q_as (sv := .sl none 0 0) rfl rfl rfl ?_
 refine x_end ?_
 refine nk_cut (e' := [(0, _), (1, _), (2, _), (3, _), (6, _)]) [0, 1, 2, 3, 6] rfl ?_
 refine nk_seq ?_
 refine ew_seq ?_
 refine rg (.q 0 XT.done) (by kernel_rfl) (by kernel_rfl) ?_
 refine q_as (sv := .sl none 0 0) rfl rfl rfl ?_
 refine x_nil 5 ?_
 refine x_end ?_
 refine nk_cut (e' := [(0, _), (1, _), (2, _), (3, _), (6, _), (7, _)]) [0, 1, 2, 3, 6, 7] rfl ?_
 refine nk_seq ?_
 refine ew_seq ?_
 refine rg (.q 0 (.q 1 (.h 2 (.q 3 XT.done)))) (by kernel_rfl) (by kernel_rfl) ?_
 refine q_mv rfl rfl rfl ?_
 refine q_mv rfl rfl rfl ?_
 refine h_app (sz := 1) 0 Try.underlying26 info_5 rfl rfl rfl (by decide) rfl rfl rfl rfl rfl rfl rfl (Nat.le_refl _) hno.rr (by rw [List.length_map]; omega) (oneU8 _) (by simp only [by_5]; omega) (by omega) ?_
 intro A1 c1 hcap1
 refine ⟨kp0, ?_⟩
 refine x_S (S' := [_, _]) rfl ?_
 refine q_as rfl rfl rfl ?_
 refine x_end ?_
 refine nk_cut (e' := [(0, _), (1, _), (2, _), (3, _), (6, _), (7, _)]) [0, 1, 2, 3, 6, 7] rfl ?_
 refine nk_seq ?_
 refine ew_seq ?_
 refine rd (by kernel_rfl) [0, 1, 2, 3, 4, 5, 6, 10] [0, 1, 2, 3, 4, 5, 6, 7, 8, 9, 10] (.q 0 (.q 1 (.q 2 (.q 3 (.q 4 (.q 5 (.q 6 (.h 7 (.h 8 (.h 9 (.q 10 XT.done))))))))))) (by kernel_rfl) (by kernel_rfl) (keepL _ [1]) (keepL_sub _ _) ?_
 refine q_fa fa_113_0 rfl rfl rfl ?_
 refine q_ld 0 Try.isAgg26 rfl rfl rfl rfl rfl ?_
 refine q_fa fa_113_1 rfl rfl rfl ?_
 refine q_ld 0 Try.isAgg77 rfl rfl rfl rfl rfl ?_
 refine q_mv rfl rfl rfl ?_
 refine q_mv rfl rfl rfl ?_
 refine q_cv_i_u64 Try.underlying156 (by kernel_rfl) rfl rfl rfl (by omega) ?_
 refine h_call0 Try.call85 rfl rfl rfl (RPut_hc _ _ _ rfl (by decide) (by decide)) ?_
 rintro r_ S_ H hl1 ⟨A2, c2, rfl, rfl, hcap2, rfl⟩
 refine ⟨(fun _ => ⟨by first | exact kpL [2] rfl | simp [keepL, nth], HLe.refl _⟩), ?_⟩
 refine x_S (S' := [_, _, _]) rfl ?_
 refine h_appO (sz := 1) (S1 := [_, _]) 0 0 Try.underlying26 info_5 rfl rfl rfl (by decide) rfl rfl rfl rfl rfl rfl rfl rfl (by simp; omega) (by omega) (by rw [List.length_map, putN_length, Nat.mul_one]) (oneU8 _) (by simp only [by_5]; omega) (by omega) ?_
 intro A3 c3 hcap3
 refine ⟨(fun _ => ⟨by first | exact kpL [1] rfl | simp [keepL, nth], HLe.refl _⟩), ?_⟩
 refine x_S (S' := [_, _]) rfl ?_
 refine x_v (v' := .sl A3 16 c3) (congrArg (fun z => SV.sl _ z _) (by omega)) ?_
 refine pubX (S' := [_]) 0 rfl rfl ?_
 intro Hp1 hp1 hr1
 replace hk := hk.mono hp1
 replace hno := hno.mono hp1
 refine h_call0 Try.call115 rfl rfl rfl (RBlock_hc hk.bx hk.ws (BS.of (xs := nonce ++ putN (UInt64.ofNat v.toNat) 4) (n := 16) (by rw [List.map_append]; exact hr1) (by rw [List.length_append, putN_length]; omega) (by omega))) ?_
 rintro r_ S_ Hn1 hl2 ⟨A4, c4, rfl, rfl, hcap4, hle1⟩
 replace hk := hk.mono hl2
 replace hno := hno.mono hl2
 replace hr1 := hr1.mono hl2
 refine ⟨(fun _ => ⟨by first | exact kpL [1] rfl | simp [keepL, nth], (hp1.trans hl2)⟩), ?_⟩
 refine x_S (S' := [_, _]) rfl ?_
 refine q_as rfl rfl rfl ?_
 refine x_end ?_
 refine nk_cut (e' := [(0, _), (1, _), (2, _), (3, _), (6, _), (7, _)]) [0, 1, 2, 3, 6, 7] rfl ?_
 refine nk_seq ?_
 refine ew_retk 0 rfl rfl (.cons (.tmp rfl) .nil) rfl rfl ?_
 rw [ctrR]
 exact ⟨_, _, rfl, rfl, hcap4, (hp1.trans hl2)⟩

end Go.GW
