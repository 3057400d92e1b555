/- Contracts of functions of the loaded program, printed by our own program gen.py. -/
import Derived.Test.YtcchamnagcpaiaaXorA
namespace Go.GW
open Go Go.Proofs
set_option linter.unusedSimpArgs false
set_option linter.unusedVariables false


def zer (n : Nat) : List UInt8 := List.replicate n 0
def hkey (ks : List UInt8) : El := El.of (blockF ks (zer 16))
/-- a key, ready: the cipher, the table -/
structure GcmP (H : Hp) (gg gc gt gh : Nat) (ks : List UInt8) : Prop where
  row : RR H (some ⟨gg, 0, none⟩) [.p ⟨gc, 0, none⟩, .p ⟨gh, 0, none⟩]
  c : CipP H gc gt ks
  h : TabE H gh (hkey ks)
theorem GcmP.mono {H H' : Hp} {gg gc gt gh : Nat} {ks : List UInt8} (h : GcmP H gg gc gt gh ks) (hle : HLe H H') : GcmP H' gg gc gt gh ks := ⟨RR.mono h.row hle, h.c.mono hle, h.h.mono hle⟩
def ctrF (nonce : List UInt8) (n : UInt32) : List UInt8 := nonce ++ putN n.toUInt64 4
theorem ctrF_len {nonce : List UInt8} (h : nonce.length = 12) (n : UInt32) : (ctrF nonce n).length = 16 := by unfold ctrF; rw [List.length_append, putN_length, h]
def streamK (ks nonce b : List UInt8) : Nat → List UInt8
  | 0 => []
  | j + 1 => streamK ks nonce b j ++ xorF ((b.drop (16 * j)).take 16) (blockF ks (ctrF nonce (UInt32.ofNat (2 + j))))
def streamF (ks nonce b : List UInt8) : List UInt8 := streamK ks nonce b ((b.length + 15) / 16)
theorem streamK_len (ks nonce b : List UInt8) (j : Nat) : (streamK ks nonce b j).length = min (16 * j) b.length := by
  induction j with
  | zero => simp [streamK]
  | succ j ih => rw [streamK, List.length_append, ih, xorF_len, blockF_len, List.length_take, List.length_drop]; omega
theorem streamF_len (ks nonce b : List UInt8) : (streamF ks nonce b).length = b.length := by unfold streamF; rw [streamK_len]; omega
def bits8 (n : Nat) : List UInt8 := putN (8 * UInt64.ofNat n) 8
def tagF (ks nonce beside sealed_ : List UInt8) : List UInt8 :=
  xorF (hashF (hkey ks) (hashF (hkey ks) (hashF (hkey ks) ⟨0, 0⟩ beside) sealed_) (bits8 beside.length ++ bits8 sealed_.length)).bytes (blockF ks (ctrF nonce 1))
theorem El.bytes_len (e : El) : e.bytes.length = 16 := by unfold El.bytes; rw [List.length_append, putN_length, putN_length]
theorem tagF_len (ks nonce beside sealed_ : List UInt8) : (tagF ks nonce beside sealed_).length = 16 := by unfold tagF; rw [xorF_len, El.bytes_len, blockF_len]; rfl
def sealF (ks nonce beside text : List UInt8) : List UInt8 := streamF ks nonce text ++ tagF ks nonce beside (streamF ks nonce text)
theorem sealF_len (ks nonce beside text : List UInt8) : (sealF ks nonce beside text).length = text.length + 16 := by unfold sealF; rw [List.length_append, tagF_len, streamF_len]
def openF (ks nonce beside s : List UInt8) : List UInt8 × Int :=
  if nonce.length ≠ 12 then ([], 17) else if s.length < 16 then ([], 3)
  else if tagF ks nonce beside (s.take (s.length - 16)) = s.drop (s.length - 16) then (streamF ks nonce (s.take (s.length - 16)), 0) else ([], 6)
theorem u32_succ (j : Nat) : UInt32.ofNat (2 + j) + 1 = UInt32.ofNat (2 + (j + 1)) := by
  apply UInt32.toNat_inj.1
  rw [UInt32.toNat_add, UInt32.toNat_ofNat', UInt32.toNat_ofNat', show (1 : UInt32).toNat = 1 from rfl]
  omega
theorem ctr_put1 {nonce : List UInt8} (h : nonce.length = 12) : putL (List.replicate 16 (SV.u8 0)) 0 ((nonce.map SV.u8).take 16) = (nonce ++ zer 4).map SV.u8 := by
  rw [List.take_of_length_le (by rw [List.length_map, h]; decide), putL_spec _ _ _ (by rw [List.length_map, List.length_replicate, h]; decide)]
  simp [h, zer]
theorem ctr_put2 {nonce l : List UInt8} {k m : Nat} (h : nonce.length = 12) (hl : l.length = 4) (hk : k = 12) (hm : 4 ≤ m) : putL ((nonce ++ zer 4).map SV.u8) k ((l.map SV.u8).take m) = (nonce ++ l).map SV.u8 := by
  subst hk
  rw [List.take_of_length_le (by rw [List.length_map, hl]; exact hm), List.map_append]
  rw [putL_right (r' := l.map SV.u8) (j := 0) (by rw [List.length_map, h]) (by rw [List.length_map, List.length_map, hl]; decide) (putL_all _ _ (by rw [List.length_map, List.length_map, hl]; rfl)), List.map_append]

theorem GcmCtr_hc {H : Hp} {An : Option Addr} {nn cn : Nat} {nonce : List UInt8} (hno : BS H An nn cn nonce) (hn12 : nonce.length = 12) {n : UInt32} :
  HC Try.prog 144 [.sl An nn cn, .u32 n] [] H (fun r S' H' => r = .agg ((ctrF nonce n).map SV.u8) ∧ S' = [] ∧ HLe H H') := by
 have hnl := hno.len
 refine hc_intro (n := 15) Try.func144 rfl Try.ntmps144 rfl (fun B hB => ?_)
 refine ew_cut (e' := [(0, _), (1, _)]) [0, 1] rfl ?_
 refine ew_seq ?_
 refine rg (.h 0 XT.done) (by kernel_rfl) (by kernel_rfl) ?_
 refine h_alloc (cs := _) Try.zeroValue182 rfl rfl (zc_182 Try.zeroValue182) ?_
 intro g1
 refine ⟨kp0, ?_⟩
 refine x_end ?_
 refine nk_cut (e' := [(0, _), (1, _), (4, _)]) [0, 1, 4] rfl ?_
 refine nk_seq ?_
 refine ew_seq ?_
 refine rg (.h 0 XT.done) (by kernel_rfl) (by kernel_rfl) ?_
 refine h_alloc (cs := _) Try.zeroValue182 rfl rfl (zc_182 Try.zeroValue182) ?_
 intro g2
 refine ⟨kp0, ?_⟩
 refine x_end ?_
 refine nk_cut (e' := [(0, _), (1, _), (4, _), (5, _)]) [0, 1, 4, 5] rfl ?_
 refine nk_seq ?_
 refine ew_seq ?_
 refine rg (.q 0 (.q 1 (.h 2 XT.done))) (by kernel_rfl) (by kernel_rfl) ?_
 refine q_ar_a Try.underlying182 Try.sizeOf5 rfl rfl rfl  ?_
 refine q_mv rfl rfl rfl ?_
 refine h_cpB (cs' := ((nonce ++ zer 4).map SV.u8)) (S' := [_, _]) 0 Try.underlying26 info_5 rfl rfl rfl rfl rfl rfl (by decide) hno.rr (by rw [List.length_map, hnl]) (oneU8 _) (ctr_put1 hn12) rfl kp0 ?_
 refine x_end ?_
 refine nk_cut (e' := [(0, _), (1, _), (4, _), (5, _)]) [0, 1, 4, 5] rfl ?_
 refine nk_seq ?_
 refine ew_seq ?_
 refine rd (by kernel_rfl) [0, 1, 2] [0, 1, 2, 3] (.q 0 (.q 1 (.q 2 (.h 3 (.h 4 XT.done))))) (by kernel_rfl) (by kernel_rfl) (keepL _ []) (keepL_sub _ _) ?_
 refine q_ar_l Try.underlying182 Try.sizeOf5 rfl rfl rfl rfl (by decide) (by decide) ?_
 refine q_mv rfl rfl rfl ?_
 refine q_cv_u32_u64 Try.underlying156 (by kernel_rfl) rfl rfl rfl ?_
 refine h_call0 Try.call84 rfl rfl rfl (Put_hc (by decide) (by decide)) ?_
 rintro r_ S_ H hl1 ⟨A1, c1, rfl, rfl, hcap1, rfl⟩
 refine ⟨(fun _ => ⟨by first | exact kpL [] rfl | simp [keepL, nth], HLe.refl _⟩), ?_⟩
 refine x_S (S' := [_, _, _]) rfl ?_
 refine pubX (S' := [_, _]) 0 rfl rfl ?_
 intro Hp1 hp1 hr1
 replace hno := hno.mono hp1
 refine h_cpB (cs' := ((ctrF nonce n).map SV.u8)) (S' := [_, _]) 0 Try.underlying26 info_5 rfl rfl rfl rfl rfl rfl (by rw [List.length_map, List.length_append, hn12]; decide) hr1 (by rw [List.length_map, putN_length]) (oneU8 _) (ctr_put2 hn12 (putN_length _ _) rfl (by decide)) rfl (fun h => absurd h (by decide)) ?_
 refine x_end ?_
 refine nk_cut (e' := [(0, _), (1, _), (4, _), (5, _)]) [0, 1, 4, 5] rfl ?_
 refine nk_seq ?_
 refine ew_seq ?_
 refine rg (.q 0 (.h 1 XT.done)) (by kernel_rfl) (by kernel_rfl) ?_
 refine q_ldS 0 Try.isAgg182 Try.sizeOf182 rfl rfl rfl rfl (by rw [List.length_map, ctrF_len hn12]) ?_
 refine h_stS (cs' := ((ctrF nonce n).map SV.u8)) (S' := [_, _]) 1 Try.sizeOf182 rfl rfl rfl rfl (by rw [List.length_map, ctrF_len hn12]) (oneU8 _) rfl (by rw [List.length_map, ctrF_len hn12]; decide) (putL_all _ _ (by rw [List.length_map, ctrF_len hn12]; rfl)) rfl kp0 ?_
 refine x_end ?_
 refine nk_cut (e' := [(0, _), (1, _), (4, _), (5, _)]) [0, 1, 4, 5] rfl ?_
 refine nk_seq ?_
 refine ew_retS rfl rfl (.cons (.agg 1 Try.isAgg182 Try.sizeOf182 rfl rfl (by rw [List.length_map, ctrF_len hn12])) .nil) ?_
 exact ⟨rfl, rfl, hp1⟩


theorem GcmNewNo_hc {H : Hp} {gt : Nat} {A : Option Addr} {n c : Nat} {key : List UInt8} (ht : TabP H gt) (hk : BS H A n c key) (hn : n ≠ 32) :
  HC Try.prog 58 [.p ⟨gt, 0, none⟩, .sl A n c] [] H (fun z S' H' => z = .tup [.np, .i 17] ∧ S' = [] ∧ HLe H H') := by
 refine hc_intro (n := 27) Try.func58 rfl Try.ntmps58 rfl (fun B hB => ?_)
 refine ew_cut (e' := [(0, _), (1, _)]) [0, 1] rfl ?_
 refine ew_seq ?_
 refine rg (.q 0 (.q 1 XT.done)) (by kernel_rfl) (by kernel_rfl) ?_
 refine q_as (sv := .np) rfl rfl rfl ?_
 refine q_as (sv := .i 0) rfl rfl rfl ?_
 refine x_end ?_
 refine nk_cut (e' := [(0, _), (1, _), (4, _), (5, _)]) [0, 1, 4, 5] rfl ?_
 refine nk_seq ?_
 refine ew_seq ?_
 refine rg (.q 0 (.q 1 (.h 2 (.q 3 (.q 4 (.q 5 (.q 6 (.q 7 XT.done)))))))) (by kernel_rfl) (by kernel_rfl) ?_
 refine q_mv rfl rfl rfl ?_
 refine q_mv rfl rfl rfl ?_
 refine h_call0 Try.call103 rfl rfl rfl (AesNewNo_hc ht hk hn) ?_
 rintro r_ S_ H hl1 ⟨rfl, rfl, rfl⟩
 refine ⟨kp0, ?_⟩
 refine x_S (S' := []) rfl ?_
 refine q_mv rfl rfl rfl ?_
 refine q_ext rfl rfl rfl rfl ?_
 refine q_ext rfl rfl rfl rfl ?_
 refine q_as rfl rfl rfl ?_
 refine q_as rfl rfl rfl ?_
 refine x_end ?_
 refine nk_cut (e' := [(0, _), (1, _), (4, _), (5, _), (6, _), (7, _)]) [0, 1, 4, 5, 6, 7] rfl ?_
 refine nk_seq ?_
 refine ew_seq ?_
 refine ew_seq ?_
 refine rg (.q 0 (.q 1 XT.done)) (by kernel_rfl) (by kernel_rfl) ?_
 refine q_mv rfl rfl rfl ?_
 refine q_ne rfl rfl rfl rfl ?_
 refine x_T (by simp) ?_
 refine x_end ?_
 refine nk_cut (e' := [(0, _), (1, _), (4, _), (5, _), (6, _), (7, _), (16, _)]) [0, 1, 4, 5, 6, 7, 16] rfl ?_
 refine nk_seq ?_
 refine ew_true rfl ?_
 refine ew_seq ?_
 refine rg (.q 0 (.q 1 (.q 2 XT.done))) (by kernel_rfl) (by kernel_rfl) ?_
 refine q_mv rfl rfl rfl ?_
 refine q_as (sv := .np) rfl rfl rfl ?_
 refine q_as rfl rfl rfl ?_
 refine x_end ?_
 refine nk_cut (e' := [(0, _), (1, _), (4, _), (5, _), (6, _), (7, _), (16, _)]) [0, 1, 4, 5, 6, 7, 16] rfl ?_
 refine nk_seq ?_
 refine ew_ret (r := .tup [_, _]) rfl rfl (.cons (.tmp rfl) (.cons (.tmp rfl) .nil)) rfl ?_
 exact ⟨rfl, rfl, HLe.refl _⟩


theorem GcmNew_hc {H : Hp} {gt : Nat} {A : Option Addr} {n c : Nat} {key : List UInt8} (ht : TabP H gt) (hk : BS H A n c key) (hn : n = 32) :
  HC Try.prog 58 [.p ⟨gt, 0, none⟩, .sl A n c] [] H (fun z S' H' => ∃ gg gc gh, z = .tup [.p ⟨gg, 0, none⟩, .i 0] ∧ GcmP H' gg gc gt gh (aesKeys key) ∧ S' = [] ∧ HLe H H') := by
 refine hc_intro (n := 27) Try.func58 rfl Try.ntmps58 rfl (fun B hB => ?_)
 refine ew_cut (e' := [(0, _), (1, _)]) [0, 1] rfl ?_
 refine ew_seq ?_
 refine rg (.q 0 (.q 1 XT.done)) (by kernel_rfl) (by kernel_rfl) ?_
 refine q_as (sv := .np) rfl rfl rfl ?_
 refine q_as (sv := .i 0) rfl rfl rfl ?_
 refine x_end ?_
 refine nk_cut (e' := [(0, _), (1, _), (4, _), (5, _)]) [0, 1, 4, 5] rfl ?_
 refine nk_seq ?_
 refine ew_seq ?_
 refine rg (.q 0 (.q 1 (.h 2 (.q 3 (.q 4 (.q 5 (.q 6 (.q 7 XT.done)))))))) (by kernel_rfl) (by kernel_rfl) ?_
 refine q_mv rfl rfl rfl ?_
 refine q_mv rfl rfl rfl ?_
 refine h_call0 Try.call103 rfl rfl rfl (AesNew_hc ht hk hn) ?_
 rintro r_ S_ Hn1 hl1 ⟨gc1, rfl, hcip1, rfl, hle1⟩
 replace ht := ht.mono hl1
 replace hk := hk.mono hl1
 refine ⟨kp0, ?_⟩
 refine x_S (S' := []) rfl ?_
 refine q_mv rfl rfl rfl ?_
 refine q_ext rfl rfl rfl rfl ?_
 refine q_ext rfl rfl rfl rfl ?_
 refine q_as rfl rfl rfl ?_
 refine q_as rfl rfl rfl ?_
 refine x_end ?_
 refine nk_cut (e' := [(0, _), (1, _), (4, _), (5, _), (6, _), (7, _)]) [0, 1, 4, 5, 6, 7] rfl ?_
 refine nk_seq ?_
 refine ew_seq ?_
 refine ew_seq ?_
 refine rg (.q 0 (.q 1 XT.done)) (by kernel_rfl) (by kernel_rfl) ?_
 refine q_mv rfl rfl rfl ?_
 refine q_ne rfl rfl rfl rfl ?_
 refine x_F (by simp) ?_
 refine x_end ?_
 refine nk_cut (e' := [(0, _), (1, _), (4, _), (5, _), (6, _), (7, _), (16, _)]) [0, 1, 4, 5, 6, 7, 16] rfl ?_
 refine nk_seq ?_
 refine ew_false rfl ?_
 refine ew_skip ?_
 refine nk_seq ?_
 refine ew_seq ?_
 refine rg (.q 0 (.q 1 (.h 2 (.h 3 (.h 4 XT.done))))) (by kernel_rfl) (by kernel_rfl) ?_
 refine q_mv rfl rfl rfl ?_
 refine q_bld (cs := ((zer 16).map SV.u8)) bf_182 rfl rfl rfl rfl ?_
 refine h_call0 Try.call104 rfl rfl rfl (AesBlk_hc hcip1 (by rfl)) ?_
 rintro r_ S_ Hn1 hl2 ⟨rfl, rfl, rfl⟩
 refine ⟨kp0, ?_⟩
 refine x_S (S' := []) rfl ?_
 refine h_alloc (cs := _) Try.zeroValue182 rfl rfl (zc_182 Try.zeroValue182) ?_
 intro g1
 refine ⟨kp0, ?_⟩
 refine h_stS (cs' := ((blockF (aesKeys key) (zer 16)).map SV.u8)) (S' := [_]) 0 Try.sizeOf182 rfl rfl rfl rfl (by rw [List.length_map, blockF_len]) (oneU8 _) rfl (by rw [List.length_map, blockF_len]; decide) (putL_all _ _ (by rw [List.length_map, blockF_len]; rfl)) rfl kp0 ?_
 refine x_end ?_
 refine nk_cut (e' := [(0, _), (1, _), (4, _), (5, _), (6, _), (7, _), (8, _), (16, _)]) [0, 1, 4, 5, 6, 7, 8, 16] rfl ?_
 refine nk_seq ?_
 refine ew_seq ?_
 refine pubBE (S' := []) 0 rfl rfl ?_
 intro Hq1 hq1 hpb1
 replace ht := ht.mono hq1
 replace hk := hk.mono hq1
 replace hcip1 := hcip1.mono hq1
 refine rg (.q 0 (.q 1 (.h 2 (.h 3 (.q 4 (.h 5 (.q 6 (.q 7 XT.done)))))))) (by kernel_rfl) (by kernel_rfl) ?_
 refine q_mv rfl rfl rfl ?_
 refine q_ar_a Try.underlying182 Try.sizeOf5 rfl rfl rfl  ?_
 refine h_call0 Try.call106 rfl rfl rfl (ElFrom_hc (BS.of (xs := blockF (aesKeys key) (zer 16)) hpb1 (blockF_len _ _) (by decide))) ?_
 rintro r_ S_ Hn2 hl3 ⟨rfl, rfl, hle2⟩
 replace ht := ht.mono hl3
 replace hk := hk.mono hl3
 replace hcip1 := hcip1.mono hl3
 replace hpb1 := hpb1.mono hl3
 refine ⟨kp0, ?_⟩
 refine x_S (S' := []) rfl ?_
 refine h_call0 Try.call105 rfl rfl rfl (FldBuild_hc (e := hkey (aesKeys key))) ?_
 rintro r_ S_ Hn3 hl4 ⟨gh1, rfl, rfl, htab1, hle3⟩
 replace ht := ht.mono hl4
 replace hk := hk.mono hl4
 replace hcip1 := hcip1.mono hl4
 replace hpb1 := hpb1.mono hl4
 refine ⟨kp0, ?_⟩
 refine x_S (S' := []) rfl ?_
 refine q_bld (cs := [_, _]) bf_190 rfl rfl rfl rfl ?_
 refine h_boxS rfl rfl rfl ?_
 intro g2
 refine ⟨kp0, ?_⟩
 refine pubBX (S' := []) 0 rfl rfl ?_
 intro Hq2 hq2 hpb2
 replace ht := ht.mono hq2
 replace hk := hk.mono hq2
 replace hcip1 := hcip1.mono hq2
 replace hpb1 := hpb1.mono hq2
 replace htab1 := htab1.mono hq2
 refine q_as rfl rfl rfl ?_
 refine q_as (sv := .i 0) rfl rfl rfl ?_
 refine x_end ?_
 refine nk_cut (e' := [(0, _), (1, _), (4, _), (5, _), (6, _), (7, _), (8, _), (16, _)]) [0, 1, 4, 5, 6, 7, 8, 16] rfl ?_
 refine nk_seq ?_
 refine ew_ret (r := .tup [_, _]) rfl rfl (.cons (.tmp rfl) (.cons (.tmp rfl) .nil)) rfl ?_
 exact ⟨_, _, _, rfl, ⟨hpb2, hcip1, htab1⟩, rfl, ((((hl1.trans hq1).trans hl3).trans hl4).trans hq2)⟩

end Go.GW
