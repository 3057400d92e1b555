/- Contracts of functions of the loaded program, printed by our own program gen.py. -/
import Derived.Test.YtcchamnagcpaiaaAncE
namespace Go.GW
open Go Go.Proofs


theorem RKSave_hc {H : Hp} {k : Kp} {m : Int} (hko : k.ok m) (hmm : m ≤ 1000000000) {a : An} {A : Option Addr} {c : Nat} {ps : List Sli} (hks : RKpS H a A c ps k) {b : An} (hb : An.ok H b) :
  HC Try.prog 44 [.agg (rkpCells k.p A c k.c.writes a k.has), .agg b.cells] [] H (fun rr S' H' => ∃ a' A' c' ps', rr = .tup [.agg (rkpCells ((k.save b.v).1).p A' c' ((k.save b.v).1).c.writes a' ((k.save b.v).1).has), .i (k.save b.v).2] ∧ RKpS H' a' A' c' ps' ((k.save b.v).1) ∧ S' = [] ∧ HLe H H') := by
 have hka : An.ok H a := hks.an
 have hav := hks.av
 have hcs := hks.cs
 have hpw := hko.pw (by omega)
 have hse := hko.seq
 have hgi := hko.giv
 rw [← hav] at hse hgi
 have hse0 : 0 ≤ a.seq := hse.1
 have hse1 : a.seq ≤ 1099511627776 := hse.2
 have hgi0 : 0 ≤ a.given_ := hgi.1
 have hgi1 : a.given_ ≤ 1099511627776 := hgi.2
 have hww := hko.w1
 have hsq : (k.last.seq + 1) % 2 = (a.seq + 1) % 2 := by rw [← hav]; rfl
 refine hc_intro (n := 47) Try.func44 rfl Try.ntmps44 rfl (fun B hB => ?_)
 refine ew_cut (e' := [(0, _), (1, _)]) [0, 1] rfl ?_
 refine ew_sub (e' := [(0, (.agg [_, _, _, _, _, _, _, _, _, _, _, _, _, _, _])), (1, (.agg [_, _, _, _, _, _, _, _]))]) ⟨rfl, rfl, trivial⟩ ?_
 refine ew_seq ?_
 refine rg (.h 0 (.h 1 (.h 2 (.q 3 XT.done)))) (by kernel_rfl) (by kernel_rfl) ?_
 refine h_boxS rfl rfl rfl ?_
 intro g1
 refine ⟨kp0, ?_⟩
 refine h_boxS rfl rfl rfl ?_
 intro g2
 refine ⟨kp0, ?_⟩
 refine h_alloc (cs := [_, _, _, _, _, _, _, _, _, _, _, _, _, _, _]) Try.zeroValue81 rfl rfl (zc_81 Try.zeroValue81) ?_
 intro g3
 refine ⟨kp0, ?_⟩
 refine q_as (sv := .i 0) rfl rfl rfl ?_
 refine x_end ?_
 refine nk_cut (e' := [(0, _), (1, _), (2, _), (3, _), (4, _), (5, _)]) [0, 1, 2, 3, 4, 5] rfl ?_
 refine nk_seq ?_
 refine ew_seq ?_
 refine rg (.q 0 (.h 1 (.h 2 XT.done))) (by kernel_rfl) (by kernel_rfl) ?_
 refine q_ldS 1 Try.isAgg60 Try.sizeOf60 rfl rfl rfl rfl rfl ?_
 refine h_alloc (cs := [_, _, _, _, _, _, _, _]) Try.zeroValue60 rfl rfl (zc_60 Try.zeroValue60) ?_
 intro g4
 refine ⟨kp0, ?_⟩
 refine h_stS (cs' := [_, _, _, _, _, _, _, _]) (S' := [_, _, _, _]) 0 Try.sizeOf60 rfl rfl rfl rfl rfl (allOne rfl) rfl (leb rfl) rfl rfl kp0 ?_
 refine x_end ?_
 refine nk_cut (e' := [(0, _), (1, _), (2, _), (3, _), (4, _), (5, _), (6, _)]) [0, 1, 2, 3, 4, 5, 6] rfl ?_
 refine nk_seq ?_
 refine ew_seq ?_
 refine rg (.q 0 (.q 1 (.q 2 (.q 3 (.q 4 (.h 5 XT.done)))))) (by kernel_rfl) (by kernel_rfl) ?_
 refine q_fa fa_81_1 rfl rfl rfl ?_
 refine q_fa fa_60_0 rfl rfl rfl ?_
 refine q_ld 3 Try.isAgg3 rfl rfl rfl rfl rfl ?_
 refine q_add rfl rfl rfl rfl (by omega) (by omega) ?_
 refine q_fa fa_60_0 rfl rfl rfl ?_
 refine h_st (cs' := [_, _, _, _, _, _, _, _]) (S' := [_, _, _, _]) 0 Try.sizeOf3 rfl rfl rfl rfl rfl rfl (ltb rfl) rfl rfl kp0 ?_
 refine x_end ?_
 refine nk_cut (e' := [(0, _), (1, _), (2, _), (3, _), (4, _), (5, _), (6, _)]) [0, 1, 2, 3, 4, 5, 6] rfl ?_
 have hxa : An.ok H ⟨a.seq + 1, b.epoch, b.given_, b.root, b.rep, b.pending, b.m, b.A, b.n, b.c, b.ks⟩ := hb.cong rfl rfl rfl rfl rfl
 have hxv : An.v ⟨a.seq + 1, b.epoch, b.given_, b.root, b.rep, b.pending, b.m, b.A, b.n, b.c, b.ks⟩ = { b.v with seq := k.last.seq + 1 } := by rw [← hav]; rfl
 have hcells : An.cells ⟨a.seq + 1, b.epoch, b.given_, b.root, b.rep, b.pending, b.m, b.A, b.n, b.c, b.ks⟩ = [.i (a.seq + 1), .i (b.epoch), .i (b.given_), .i (b.root), .i (b.rep), .i (b.pending), .sl b.m.A b.m.n b.m.c, .sl b.A b.n b.c] := rfl
 refine nk_seq ?_
 refine ew_seq ?_
 refine rg (.q 0 (.h 1 (.q 2 (.q 3 (.q 4 (.q 5 (.q 6 XT.done))))))) (by kernel_rfl) (by kernel_rfl) ?_
 refine q_ldS 0 Try.isAgg60 Try.sizeOf60 rfl rfl rfl rfl rfl ?_
 have hca := RAPut_hc hxa
 rw [hcells, hxv] at hca
 generalize hxe : ({ b.v with seq := k.last.seq + 1 } : Anc) = xv at hca hxv
 refine h_call0 Try.call32 rfl rfl rfl (hca) ?_
 rintro r_ S_ H hl1 ⟨A1, c1, rfl, hcap1, rfl, rfl⟩
 refine ⟨kp0, ?_⟩
 refine x_S (S' := [_, _, _, _, _]) rfl ?_
 refine q_mv rfl rfl rfl ?_
 refine q_ext rfl rfl rfl rfl ?_
 refine q_ext rfl rfl rfl rfl ?_
 refine q_as rfl rfl rfl ?_
 refine q_as rfl rfl rfl ?_
 refine x_end ?_
 refine nk_cut (e' := [(0, _), (1, _), (2, _), (3, _), (4, _), (5, _), (6, _), (7, _), (8, _)]) [0, 1, 2, 3, 4, 5, 6, 7, 8] rfl ?_
 refine nk_seq ?_
 refine ew_seq ?_
 refine ew_seq ?_
 refine rg (.q 0 (.q 1 XT.done)) (by kernel_rfl) (by kernel_rfl) ?_
 refine q_mv rfl rfl rfl ?_
 refine q_ne rfl rfl rfl rfl ?_
 refine x_end ?_
 refine nk_cut (e' := [(0, _), (1, _), (2, _), (3, _), (4, _), (5, _), (6, _), (7, _), (8, _), (24, _)]) [0, 1, 2, 3, 4, 5, 6, 7, 8, 24] rfl ?_
 refine nk_seq ?_
 refine ew_cond rfl ?_ ?_
 ·intro hc24
  simp only [ne_eq, decide_eq_true_eq, decide_eq_false_iff_not, Decidable.not_not] at hc24
  refine ew_seq ?_
  refine rg (.q 0 (.q 1 (.h 2 (.q 3 XT.done)))) (by kernel_rfl) (by kernel_rfl) ?_
  refine q_ldS 4 Try.isAgg81 Try.sizeOf81 rfl rfl rfl rfl rfl ?_
  refine q_mv rfl rfl rfl ?_
  refine h_stS (cs' := [_, _, _, _, _, _, _, _, _, _, _, _, _, _, _]) (S' := [_, _, _, _, _]) 2 Try.sizeOf81 rfl rfl rfl rfl rfl (allOne rfl) rfl (leb rfl) rfl rfl kp0 ?_
  refine q_as rfl rfl rfl ?_
  refine x_end ?_
  refine nk_cut (e' := [(0, _), (1, _), (2, _), (3, _), (4, _), (5, _), (6, _), (7, _), (8, _), (24, _)]) [0, 1, 2, 3, 4, 5, 6, 7, 8, 24] rfl ?_
  refine nk_seq ?_
  refine ew_ret (r := .tup [_, _]) rfl rfl (.cons (.agg 2 Try.isAgg81 Try.sizeOf81 rfl rfl rfl) (.cons (.tmp rfl) .nil)) rfl ?_
  rw [Kp.save_1 hxe hc24]
  exact ⟨a, A, c, ps, rfl, hks, rfl, HLe.refl _⟩
 ·intro hc24
  simp only [ne_eq, decide_eq_true_eq, decide_eq_false_iff_not, Decidable.not_not] at hc24
  refine ew_skip ?_
  refine nk_seq ?_
  refine ew_seq ?_
  refine rg (.q 0 (.q 1 (.q 2 (.q 3 (.q 4 (.q 5 (.h 6 (.q 7 (.q 8 (.q 9 (.h 10 (.h 11 (.q 12 XT.done))))))))))))) (by kernel_rfl) (by kernel_rfl) ?_
  refine q_fa fa_81_0 rfl rfl rfl ?_
  refine q_ldSp (cs' := [_, _, _, _, _, _]) 4 Try.isAgg79 Try.sizeOf79 rfl rfl rfl rfl rfl (leb rfl) ?_
  refine q_fa fa_60_0 rfl rfl rfl ?_
  refine q_ld 1 Try.isAgg3 rfl rfl rfl rfl rfl ?_
  refine q_rem rfl rfl rfl rfl (by omega) (by omega) (by omega) ?_
  refine q_mv rfl rfl rfl ?_
  refine pubX (S' := [_, _, _, _]) 0 rfl rfl ?_
  intro Hp1 hp1 hr1
  replace hka := hka.mono hp1
  replace hcs := hcs.mono hp1
  replace hks := hks.mono hp1
  replace hb := hb.mono hp1
  replace hxa := hxa.mono hp1
  refine h_call0 Try.call100 rfl rfl rfl (RCelWrite_hc (p := k.p) (cl := k.c) (at_ := (a.seq + 1) % 2) hpw hcs (by omega) (⟨hr1, rfl, hcap1⟩ : BS _ _ _ _ xv.put) (Nat.le_trans (Anc.put_len xv) (by decide))) ?_
  rintro r_ S_ Hn1 hl2 ⟨A2, c2, ps1, rfl, hcs1, rfl, hle1⟩
  replace hka := hka.mono hl2
  replace hcs := hcs.mono hl2
  replace hks := hks.mono hl2
  replace hb := hb.mono hl2
  replace hxa := hxa.mono hl2
  replace hr1 := hr1.mono hl2
  refine ⟨kp0, ?_⟩
  refine x_S (S' := [_, _, _, _]) rfl ?_
  refine q_mv rfl rfl rfl ?_
  refine q_ext rfl rfl rfl rfl ?_
  refine q_ext rfl rfl rfl rfl ?_
  refine h_alloc (cs := [_, _, _, _, _, _]) Try.zeroValue79 rfl rfl (zc_79 Try.zeroValue79) ?_
  intro g6
  refine ⟨kp0, ?_⟩
  refine h_stS (cs' := [_, _, _, _, _, _]) (S' := [_, _, _, _, _]) 0 Try.sizeOf79 rfl rfl rfl rfl rfl (allOne rfl) rfl (leb rfl) rfl rfl kp0 ?_
  refine q_as rfl rfl rfl ?_
  refine x_end ?_
  refine nk_cut (e' := [(0, _), (1, _), (2, _), (3, _), (4, _), (5, _), (6, _), (7, _), (8, _), (9, _), (10, _), (24, _)]) [0, 1, 2, 3, 4, 5, 6, 7, 8, 9, 10, 24] rfl ?_
  refine nk_seq ?_
  refine ew_seq ?_
  refine rg (.q 0 (.h 1 (.h 2 XT.done))) (by kernel_rfl) (by kernel_rfl) ?_
  refine q_ldS 4 Try.isAgg81 Try.sizeOf81 rfl rfl rfl rfl rfl ?_
  refine h_alloc (cs := [_, _, _, _, _, _, _, _, _, _, _, _, _, _, _]) Try.zeroValue81 rfl rfl (zc_81 Try.zeroValue81) ?_
  intro g7
  refine ⟨kp0, ?_⟩
  refine h_stS (cs' := [_, _, _, _, _, _, _, _, _, _, _, _, _, _, _]) (S' := [_, _, _, _, _, _]) 0 Try.sizeOf81 rfl rfl rfl rfl rfl (allOne rfl) rfl (leb rfl) rfl rfl kp0 ?_
  refine x_end ?_
  refine nk_cut (e' := [(0, _), (1, _), (2, _), (3, _), (4, _), (5, _), (6, _), (7, _), (8, _), (9, _), (10, _), (11, _), (24, _)]) [0, 1, 2, 3, 4, 5, 6, 7, 8, 9, 10, 11, 24] rfl ?_
  refine nk_seq ?_
  refine ew_seq ?_
  refine rg (.q 0 (.q 1 (.h 2 XT.done))) (by kernel_rfl) (by kernel_rfl) ?_
  refine q_ldS 1 Try.isAgg79 Try.sizeOf79 rfl rfl rfl rfl rfl ?_
  refine q_fa fa_81_0 rfl rfl rfl ?_
  refine h_stS (cs' := [_, _, _, _, _, _, _, _, _, _, _, _, _, _, _]) (S' := [_, _, _, _, _, _]) 0 Try.sizeOf79 rfl rfl rfl rfl rfl (allOne rfl) rfl (leb rfl) rfl rfl kp0 ?_
  refine x_end ?_
  refine nk_cut (e' := [(0, _), (1, _), (2, _), (3, _), (4, _), (5, _), (6, _), (7, _), (8, _), (9, _), (10, _), (11, _), (24, _)]) [0, 1, 2, 3, 4, 5, 6, 7, 8, 9, 10, 11, 24] rfl ?_
  refine nk_seq ?_
  refine ew_seq ?_
  refine ew_seq ?_
  refine rg (.q 0 (.q 1 XT.done)) (by kernel_rfl) (by kernel_rfl) ?_
  refine q_mv rfl rfl rfl ?_
  refine q_eq rfl rfl rfl rfl ?_
  refine x_end ?_
  refine nk_cut (e' := [(0, _), (1, _), (2, _), (3, _), (4, _), (5, _), (6, _), (7, _), (8, _), (9, _), (10, _), (11, _), (24, _), (41, _)]) [0, 1, 2, 3, 4, 5, 6, 7, 8, 9, 10, 11, 24, 41] rfl ?_
  refine nk_seq ?_
  refine ew_cond rfl ?_ ?_
  ·intro hc41
   try simp only [decide_eq_true_eq] at hc41
   refine ew_seq ?_
   refine rg (.q 0 (.q 1 (.h 2 XT.done))) (by kernel_rfl) (by kernel_rfl) ?_
   refine q_ldS 2 Try.isAgg60 Try.sizeOf60 rfl rfl rfl rfl rfl ?_
   refine q_fa fa_81_1 rfl rfl rfl ?_
   refine h_stS (cs' := [_, _, _, _, _, _, _, _, _, _, _, _, _, _, _]) (S' := [_, _, _, _, _, _]) 0 Try.sizeOf60 rfl rfl rfl rfl rfl (allOne rfl) rfl (leb rfl) rfl rfl kp0 ?_
   refine x_end ?_
   refine nk_cut (e' := [(0, _), (1, _), (2, _), (3, _), (4, _), (5, _), (6, _), (7, _), (8, _), (9, _), (10, _), (11, _), (24, _), (41, _)]) [0, 1, 2, 3, 4, 5, 6, 7, 8, 9, 10, 11, 24, 41] rfl ?_
   refine nk_seq ?_
   refine rg (.q 0 (.h 1 XT.done)) (by kernel_rfl) (by kernel_rfl) ?_
   refine q_fa fa_81_2 rfl rfl rfl ?_
   refine h_st (sv := .b true) (cs' := [_, _, _, _, _, _, _, _, _, _, _, _, _, _, _]) (S' := [_, _, _, _, _, _]) 0 Try.sizeOf4 rfl rfl rfl rfl rfl rfl (ltb rfl) rfl rfl kp0 ?_
   refine x_end ?_
   refine nk_cut (e' := [(0, _), (1, _), (2, _), (3, _), (4, _), (5, _), (6, _), (7, _), (8, _), (9, _), (10, _), (11, _), (24, _), (41, _)]) [0, 1, 2, 3, 4, 5, 6, 7, 8, 9, 10, 11, 24, 41] rfl ?_
   refine nk_seq ?_
   refine ew_seq ?_
   refine rg (.q 0 (.q 1 (.h 2 (.q 3 XT.done)))) (by kernel_rfl) (by kernel_rfl) ?_
   refine q_ldS 0 Try.isAgg81 Try.sizeOf81 rfl rfl rfl rfl rfl ?_
   refine q_mv rfl rfl rfl ?_
   refine h_stS (cs' := [_, _, _, _, _, _, _, _, _, _, _, _, _, _, _]) (S' := [_, _, _, _, _, _]) 3 Try.sizeOf81 rfl rfl rfl rfl rfl (allOne rfl) rfl (leb rfl) rfl rfl kp0 ?_
   refine q_as rfl rfl rfl ?_
   refine x_end ?_
   refine nk_cut (e' := [(0, _), (1, _), (2, _), (3, _), (4, _), (5, _), (6, _), (7, _), (8, _), (9, _), (10, _), (11, _), (24, _), (41, _)]) [0, 1, 2, 3, 4, 5, 6, 7, 8, 9, 10, 11, 24, 41] rfl ?_
   refine nk_seq ?_
   refine ew_ret (r := .tup [_, _]) rfl rfl (.cons (.agg 3 Try.isAgg81 Try.sizeOf81 rfl rfl rfl) (.cons (.tmp rfl) .nil)) rfl ?_
   rw [Kp.save_3 hxe hsq hc24 hc41]
   exact ⟨⟨a.seq + 1, b.epoch, b.given_, b.root, b.rep, b.pending, b.m, b.A, b.n, b.c, b.ks⟩, A2, c2, ps1, congrArg (fun z => SV.tup [_, SV.i z]) hc41, ⟨hxa, hxv, hcs1⟩, rfl, (hp1.trans hl2)⟩
  ·intro hc41
   try simp only [decide_eq_false_iff_not] at hc41
   refine ew_skip ?_
   refine nk_seq ?_
   refine ew_seq ?_
   refine rg (.q 0 (.q 1 (.h 2 (.q 3 XT.done)))) (by kernel_rfl) (by kernel_rfl) ?_
   refine q_ldS 0 Try.isAgg81 Try.sizeOf81 rfl rfl rfl rfl rfl ?_
   refine q_mv rfl rfl rfl ?_
   refine h_stS (cs' := [_, _, _, _, _, _, _, _, _, _, _, _, _, _, _]) (S' := [_, _, _, _, _, _]) 3 Try.sizeOf81 rfl rfl rfl rfl rfl (allOne rfl) rfl (leb rfl) rfl rfl kp0 ?_
   refine q_as rfl rfl rfl ?_
   refine x_end ?_
   refine nk_cut (e' := [(0, _), (1, _), (2, _), (3, _), (4, _), (5, _), (6, _), (7, _), (8, _), (9, _), (10, _), (11, _), (24, _), (41, _)]) [0, 1, 2, 3, 4, 5, 6, 7, 8, 9, 10, 11, 24, 41] rfl ?_
   refine nk_seq ?_
   refine ew_ret (r := .tup [_, _]) rfl rfl (.cons (.agg 3 Try.isAgg81 Try.sizeOf81 rfl rfl rfl) (.cons (.tmp rfl) .nil)) rfl ?_
   rw [Kp.save_2 hxe hsq hc24 hc41]
   exact ⟨a, A2, c2, ps1, rfl, ⟨hka, hav, hcs1⟩, rfl, (hp1.trans hl2)⟩


theorem RKGive_hc {H : Hp} {k : Kp} {m : Int} (hko : k.ok m) (hmm : m ≤ 1000000000) {a : An} {A : Option Addr} {c : Nat} {ps : List Sli} (hks : RKpS H a A c ps k) :
  HC Try.prog 46 [.agg (rkpCells k.p A c k.c.writes a k.has)] [] H (fun rr S' H' => ∃ a' A' c' ps', rr = .tup [.agg (rkpCells (k.give.1).p A' c' (k.give.1).c.writes a' (k.give.1).has), .i k.give.2.1, .i k.give.2.2] ∧ RKpS H' a' A' c' ps' (k.give.1) ∧ S' = [] ∧ HLe H H') := by
 have hka : An.ok H a := hks.an
 have hav := hks.av
 have hcs := hks.cs
 have hpw := hko.pw (by omega)
 have hse := hko.seq
 have hgi := hko.giv
 rw [← hav] at hse hgi
 have hse0 : 0 ≤ a.seq := hse.1
 have hse1 : a.seq ≤ 1099511627776 := hse.2
 have hgi0 : 0 ≤ a.given_ := hgi.1
 have hgi1 : a.given_ ≤ 1099511627776 := hgi.2
 have hww := hko.w1
 have hgg2 : a.given_ = k.last.given_ := congrArg Anc.given_ hav
 have hee2 : a.epoch = k.last.epoch := congrArg Anc.epoch hav
 refine hc_intro (n := 32) Try.func46 rfl Try.ntmps46 rfl (fun B hB => ?_)
 refine ew_cut (e' := [(0, _)]) [0] rfl ?_
 refine ew_sub (e' := [(0, (.agg [_, _, _, _, _, _, _, _, _, _, _, _, _, _, _]))]) ⟨rfl, trivial⟩ ?_
 refine ew_seq ?_
 refine rg (.h 0 (.h 1 (.q 2 (.q 3 XT.done)))) (by kernel_rfl) (by kernel_rfl) ?_
 refine h_boxS rfl rfl rfl ?_
 intro g1
 refine ⟨kp0, ?_⟩
 refine h_alloc (cs := [_, _, _, _, _, _, _, _, _, _, _, _, _, _, _]) Try.zeroValue81 rfl rfl (zc_81 Try.zeroValue81) ?_
 intro g2
 refine ⟨kp0, ?_⟩
 refine q_as (sv := .i 0) rfl rfl rfl ?_
 refine q_as (sv := .i 0) rfl rfl rfl ?_
 refine x_end ?_
 refine nk_cut (e' := [(0, _), (1, _), (2, _), (3, _), (4, _)]) [0, 1, 2, 3, 4] rfl ?_
 refine nk_seq ?_
 refine ew_seq ?_
 refine ew_seq ?_
 refine rg (.q 0 (.q 1 (.q 2 XT.done))) (by kernel_rfl) (by kernel_rfl) ?_
 refine q_fa fa_81_2 rfl rfl rfl ?_
 refine q_ld 1 Try.isAgg4 rfl rfl rfl rfl rfl ?_
 refine q_not rfl rfl rfl ?_
 refine x_end ?_
 refine nk_cut (e' := [(0, _), (1, _), (2, _), (3, _), (4, _), (10, _)]) [0, 1, 2, 3, 4, 10] rfl ?_
 refine nk_seq ?_
 refine ew_cond rfl ?_ ?_
 ·intro hc10
  simp only [Bool.not_eq_true', Bool.not_eq_false'] at hc10
  refine ew_seq ?_
  refine rg (.q 0 (.h 1 (.q 2 (.q 3 XT.done)))) (by kernel_rfl) (by kernel_rfl) ?_
  refine q_ldS 1 Try.isAgg81 Try.sizeOf81 rfl rfl rfl rfl rfl ?_
  refine h_stS (cs' := [_, _, _, _, _, _, _, _, _, _, _, _, _, _, _]) (S' := [_, _]) 0 Try.sizeOf81 rfl rfl rfl rfl rfl (allOne rfl) rfl (leb rfl) rfl rfl kp0 ?_
  refine q_as (sv := .i 0) rfl rfl rfl ?_
  refine q_as (sv := .i 9) rfl rfl rfl ?_
  refine x_end ?_
  refine nk_cut (e' := [(0, _), (1, _), (2, _), (3, _), (4, _), (10, _)]) [0, 1, 2, 3, 4, 10] rfl ?_
  refine nk_seq ?_
  refine ew_ret (r := .tup [_, _, _]) rfl rfl (.cons (.agg 0 Try.isAgg81 Try.sizeOf81 rfl rfl rfl) (.cons (.tmp rfl) (.cons (.tmp rfl) .nil))) rfl ?_
  rw [Kp.give_1 hc10]
  exact ⟨a, A, c, ps, rfl, hks, rfl, HLe.refl _⟩
 ·intro hc10
  simp only [Bool.not_eq_true', Bool.not_eq_false'] at hc10
  have hh : ¬ k.has = false := by simp [hc10]
  refine ew_skip ?_
  refine nk_seq ?_
  refine ew_seq ?_
  refine rg (.q 0 (.q 1 (.h 2 (.h 3 XT.done)))) (by kernel_rfl) (by kernel_rfl) ?_
  refine q_fa fa_81_1 rfl rfl rfl ?_
  refine q_ldSp (cs' := [_, _, _, _, _, _, _, _]) 1 Try.isAgg60 Try.sizeOf60 rfl rfl rfl rfl rfl (leb rfl) ?_
  refine h_alloc (cs := [_, _, _, _, _, _, _, _]) Try.zeroValue60 rfl rfl (zc_60 Try.zeroValue60) ?_
  intro g3
  refine ⟨kp0, ?_⟩
  refine h_stS (cs' := [_, _, _, _, _, _, _, _]) (S' := [_, _, _]) 0 Try.sizeOf60 rfl rfl rfl rfl rfl (allOne rfl) rfl (leb rfl) rfl rfl kp0 ?_
  refine x_end ?_
  refine nk_cut (e' := [(0, _), (1, _), (2, _), (3, _), (4, _), (5, _), (10, _)]) [0, 1, 2, 3, 4, 5, 10] rfl ?_
  refine nk_seq ?_
  refine ew_seq ?_
  refine rg (.q 0 (.q 1 (.q 2 (.q 3 (.q 4 (.h 5 XT.done)))))) (by kernel_rfl) (by kernel_rfl) ?_
  refine q_fa fa_81_1 rfl rfl rfl ?_
  refine q_fa fa_60_2 rfl rfl rfl ?_
  refine q_ld 2 Try.isAgg3 rfl rfl rfl rfl rfl ?_
  refine q_add rfl rfl rfl rfl (by omega) (by omega) ?_
  refine q_fa fa_60_2 rfl rfl rfl ?_
  refine h_st (cs' := [_, _, _, _, _, _, _, _]) (S' := [_, _, _]) 0 Try.sizeOf3 rfl rfl rfl rfl rfl rfl (ltb rfl) rfl rfl kp0 ?_
  refine x_end ?_
  refine nk_cut (e' := [(0, _), (1, _), (2, _), (3, _), (4, _), (5, _), (10, _)]) [0, 1, 2, 3, 4, 5, 10] rfl ?_
  have hxa : An.ok H ⟨a.seq, a.epoch, a.given_ + 1, a.root, a.rep, a.pending, a.m, a.A, a.n, a.c, a.ks⟩ := hka.cong rfl rfl rfl rfl rfl
  have hxv : An.v ⟨a.seq, a.epoch, a.given_ + 1, a.root, a.rep, a.pending, a.m, a.A, a.n, a.c, a.ks⟩ = { k.last with given_ := k.last.given_ + 1 } := by rw [← hav]; rfl
  have hcells : An.cells ⟨a.seq, a.epoch, a.given_ + 1, a.root, a.rep, a.pending, a.m, a.A, a.n, a.c, a.ks⟩ = [.i (a.seq), .i (a.epoch), .i (a.given_ + 1), .i (a.root), .i (a.rep), .i (a.pending), .sl a.m.A a.m.n a.m.c, .sl a.A a.n a.c] := rfl
  have hcel2 : rkpCells k.p A c k.c.writes a k.has = [.i k.p.steps, .i k.p.fuse, .b k.p.done, .b k.p.down, .sl A 4 c, .i k.c.writes, .i a.seq, .i a.epoch, .i a.given_, .i a.root, .i a.rep, .i a.pending, .sl a.m.A a.m.n a.m.c, .sl a.A a.n a.c, .b k.has] := rfl
  refine nk_seq ?_
  refine ew_seq ?_
  refine rg (.q 0 (.q 1 (.h 2 (.q 3 (.q 4 (.q 5 (.h 6 (.h 7 (.q 8 XT.done))))))))) (by kernel_rfl) (by kernel_rfl) ?_
  refine q_ldS 2 Try.isAgg81 Try.sizeOf81 rfl rfl rfl rfl rfl ?_
  refine q_ldS 0 Try.isAgg60 Try.sizeOf60 rfl rfl rfl rfl rfl ?_
  have hca := RKSave_hc hko hmm hks hxa
  rw [hcells, hxv, hcel2] at hca
  refine h_call0 Try.call44 rfl rfl rfl (hca) ?_
  rintro r_ S_ Hn1 hl1 ⟨an1, A1, c1, ps1, rfl, hks1, rfl, hle1⟩
  replace hka := hka.mono hl1
  replace hcs := hcs.mono hl1
  replace hks := hks.mono hl1
  replace hxa := hxa.mono hl1
  refine ⟨kp0, ?_⟩
  refine x_S (S' := [_, _, _]) rfl ?_
  refine q_mv rfl rfl rfl ?_
  refine q_ext rfl rfl rfl rfl ?_
  refine q_ext rfl rfl rfl rfl ?_
  refine h_alloc (cs := [_, _, _, _, _, _, _, _, _, _, _, _, _, _, _]) Try.zeroValue81 rfl rfl (zc_81 Try.zeroValue81) ?_
  intro g4
  refine ⟨kp0, ?_⟩
  refine h_stS (cs' := [_, _, _, _, _, _, _, _, _, _, _, _, _, _, _]) (S' := [_, _, _, _]) 0 Try.sizeOf81 rfl rfl rfl rfl rfl (allOne rfl) rfl (leb rfl) rfl rfl kp0 ?_
  refine q_as rfl rfl rfl ?_
  refine x_end ?_
  refine nk_cut (e' := [(0, _), (1, _), (2, _), (3, _), (4, _), (5, _), (6, _), (7, _), (10, _)]) [0, 1, 2, 3, 4, 5, 6, 7, 10] rfl ?_
  refine nk_seq ?_
  refine ew_seq ?_
  refine ew_seq ?_
  refine rg (.q 0 (.q 1 XT.done)) (by kernel_rfl) (by kernel_rfl) ?_
  refine q_mv rfl rfl rfl ?_
  refine q_ne rfl rfl rfl rfl ?_
  refine x_end ?_
  refine nk_cut (e' := [(0, _), (1, _), (2, _), (3, _), (4, _), (5, _), (6, _), (7, _), (10, _), (26, _)]) [0, 1, 2, 3, 4, 5, 6, 7, 10, 26] rfl ?_
  refine nk_seq ?_
  refine ew_cond rfl ?_ ?_
  ·intro hc26
   simp only [ne_eq, decide_eq_true_eq, decide_eq_false_iff_not, Decidable.not_not] at hc26
   refine ew_seq ?_
   refine rg (.q 0 (.q 1 (.h 2 (.q 3 (.q 4 XT.done))))) (by kernel_rfl) (by kernel_rfl) ?_
   refine q_ldS 0 Try.isAgg81 Try.sizeOf81 rfl rfl rfl rfl rfl ?_
   refine q_mv rfl rfl rfl ?_
   refine h_stS (cs' := [_, _, _, _, _, _, _, _, _, _, _, _, _, _, _]) (S' := [_, _, _, _]) 2 Try.sizeOf81 rfl rfl rfl rfl rfl (allOne rfl) rfl (leb rfl) rfl rfl kp0 ?_
   refine q_as (sv := .i 0) rfl rfl rfl ?_
   refine q_as rfl rfl rfl ?_
   refine x_end ?_
   refine nk_cut (e' := [(0, _), (1, _), (2, _), (3, _), (4, _), (5, _), (6, _), (7, _), (10, _), (26, _)]) [0, 1, 2, 3, 4, 5, 6, 7, 10, 26] rfl ?_
   refine nk_seq ?_
   refine ew_ret (r := .tup [_, _, _]) rfl rfl (.cons (.agg 2 Try.isAgg81 Try.sizeOf81 rfl rfl rfl) (.cons (.tmp rfl) (.cons (.tmp rfl) .nil))) rfl ?_
   rw [Kp.give_2 hh hc26]
   exact ⟨an1, A1, c1, ps1, rfl, hks1, rfl, hl1⟩
  ·intro hc26
   simp only [ne_eq, decide_eq_true_eq, decide_eq_false_iff_not, Decidable.not_not] at hc26
   refine ew_skip ?_
   refine nk_seq ?_
   refine ew_seq ?_
   refine rd (by kernel_rfl) [0, 1, 2, 4, 5] [0, 1, 2, 3, 4, 5] (.q 0 (.q 1 (.q 2 (.h 3 (.q 4 (.q 5 XT.done)))))) (by kernel_rfl) (by kernel_rfl) (keepL _ [0, 1]) (keepL_sub _ _) ?_
   refine q_ldS 0 Try.isAgg81 Try.sizeOf81 rfl rfl rfl rfl rfl ?_
   refine q_fa fa_60_2 rfl rfl rfl ?_
   refine q_ld 1 Try.isAgg3 rfl rfl rfl rfl rfl ?_
   refine h_stS (cs' := [_, _, _, _, _, _, _, _, _, _, _, _, _, _, _]) (S' := [_, _, _, _]) 2 Try.sizeOf81 rfl rfl rfl rfl rfl (allOne rfl) rfl (leb rfl) rfl rfl (fun _ => ⟨by first | exact kpL [0, 1] rfl | simp [keepL, nth], HLe.refl _⟩) ?_
   refine q_as rfl rfl rfl ?_
   refine q_as (sv := .i 0) rfl rfl rfl ?_
   refine x_end ?_
   refine nk_cut (e' := [(0, _), (1, _), (2, _), (3, _), (4, _), (5, _), (6, _), (7, _), (10, _), (26, _)]) [0, 1, 2, 3, 4, 5, 6, 7, 10, 26] rfl ?_
   refine nk_seq ?_
   refine ew_ret (r := .tup [_, _, _]) rfl rfl (.cons (.agg 2 Try.isAgg81 Try.sizeOf81 rfl rfl rfl) (.cons (.tmp rfl) (.cons (.tmp rfl) .nil))) rfl ?_
   rw [Kp.give_3 hh hc26]
   exact ⟨an1, A1, c1, ps1, congrArg (fun z => SV.tup [_, SV.i (z + 1), _]) hgg2, hks1, rfl, hl1⟩


theorem RKCommit_hc {H : Hp} {k : Kp} {m : Int} (hko : k.ok m) (hmm : m ≤ 1000000000) {a : An} {A : Option Addr} {c : Nat} {ps : List Sli} (hks : RKpS H a A c ps k) {e rt pe : Int} :
  HC Try.prog 48 [.agg (rkpCells k.p A c k.c.writes a k.has), .i e, .i rt, .i pe] [] H (fun rr S' H' => ∃ a' A' c' ps', rr = .tup [.agg (rkpCells ((k.commit e rt pe).1).p A' c' ((k.commit e rt pe).1).c.writes a' ((k.commit e rt pe).1).has), .i (k.commit e rt pe).2] ∧ RKpS H' a' A' c' ps' ((k.commit e rt pe).1) ∧ S' = [] ∧ HLe H H') := by
 have hka : An.ok H a := hks.an
 have hav := hks.av
 have hcs := hks.cs
 have hpw := hko.pw (by omega)
 have hse := hko.seq
 have hgi := hko.giv
 rw [← hav] at hse hgi
 have hse0 : 0 ≤ a.seq := hse.1
 have hse1 : a.seq ≤ 1099511627776 := hse.2
 have hgi0 : 0 ≤ a.given_ := hgi.1
 have hgi1 : a.given_ ≤ 1099511627776 := hgi.2
 have hww := hko.w1
 have hgg2 : a.given_ = k.last.given_ := congrArg Anc.given_ hav
 have hee2 : a.epoch = k.last.epoch := congrArg Anc.epoch hav
 refine hc_intro (n := 44) Try.func48 rfl Try.ntmps48 rfl (fun B hB => ?_)
 refine ew_cut (e' := [(0, _), (1, _), (2, _), (3, _)]) [0, 1, 2, 3] rfl ?_
 refine ew_sub (e' := [(0, (.agg [_, _, _, _, _, _, _, _, _, _, _, _, _, _, _])), (1, _), (2, _), (3, _)]) ⟨rfl, rfl, rfl, rfl, trivial⟩ ?_
 refine ew_seq ?_
 refine rg (.h 0 (.h 1 (.q 2 XT.done))) (by kernel_rfl) (by kernel_rfl) ?_
 refine h_boxS rfl rfl rfl ?_
 intro g1
 refine ⟨kp0, ?_⟩
 refine h_alloc (cs := [_, _, _, _, _, _, _, _, _, _, _, _, _, _, _]) Try.zeroValue81 rfl rfl (zc_81 Try.zeroValue81) ?_
 intro g2
 refine ⟨kp0, ?_⟩
 refine q_as (sv := .i 0) rfl rfl rfl ?_
 refine x_end ?_
 refine nk_cut (e' := [(0, _), (1, _), (2, _), (3, _), (4, _), (8, _), (9, _)]) [0, 1, 2, 3, 4, 8, 9] rfl ?_
 refine nk_seq ?_
 refine ew_seq ?_
 refine ew_seq ?_
 by_cases e1 : k.has = false
 ·skip
  refine rg (.q 0 (.q 1 (.q 2 (.q 3 (.q 4 (.q 5 (.q 6 (.q 7 (.q 8 (.q 9 (.q 10 (.q 11 (.q 12 (.q 13 (.q 14 (.q 15 (.q 16 XT.done))))))))))))))))) (by kernel_rfl) (by kernel_rfl) ?_
  refine q_fa fa_81_2 rfl rfl rfl ?_
  refine q_ld 1 Try.isAgg4 rfl rfl rfl rfl rfl ?_
  refine q_not rfl rfl rfl ?_
  refine x_T (by simp [e1]) ?_
  refine q_mv rfl rfl rfl ?_
  iterate 5 refine q_skip rfl rfl ?_
  refine q_pkT rfl rfl rfl rfl ?_
  refine q_mv rfl rfl rfl ?_
  iterate 5 refine q_skip rfl rfl ?_
  refine q_pkT rfl rfl rfl rfl ?_
  refine x_end ?_
  refine nk_cut (e' := [(0, _), (1, _), (2, _), (3, _), (4, _), (8, _), (9, _), (27, _)]) [0, 1, 2, 3, 4, 8, 9, 27] rfl ?_
  refine nk_seq ?_
  refine ew_true rfl ?_
  refine ew_seq ?_
  refine rg (.q 0 (.h 1 (.q 2 XT.done))) (by kernel_rfl) (by kernel_rfl) ?_
  refine q_ldS 1 Try.isAgg81 Try.sizeOf81 rfl rfl rfl rfl rfl ?_
  refine h_stS (cs' := [_, _, _, _, _, _, _, _, _, _, _, _, _, _, _]) (S' := [_, _]) 0 Try.sizeOf81 rfl rfl rfl rfl rfl (allOne rfl) rfl (leb rfl) rfl rfl kp0 ?_
  refine q_as (sv := .i 15) rfl rfl rfl ?_
  refine x_end ?_
  refine nk_cut (e' := [(0, _), (1, _), (2, _), (3, _), (4, _), (8, _), (9, _), (27, _)]) [0, 1, 2, 3, 4, 8, 9, 27] rfl ?_
  refine nk_seq ?_
  refine ew_ret (r := .tup [_, _]) rfl rfl (.cons (.agg 0 Try.isAgg81 Try.sizeOf81 rfl rfl rfl) (.cons (.tmp rfl) .nil)) rfl ?_
  rw [Kp.commit_1 (.inl e1)]
  exact ⟨a, A, c, ps, rfl, hks, rfl, HLe.refl _⟩
 ·skip
  by_cases e2 : e ≤ a.epoch
  ·skip
   refine rg (.q 0 (.q 1 (.q 2 (.q 3 (.q 4 (.q 5 (.q 6 (.q 7 (.q 8 (.q 9 (.q 10 (.q 11 (.q 12 (.q 13 (.q 14 (.q 15 (.q 16 XT.done))))))))))))))))) (by kernel_rfl) (by kernel_rfl) ?_
   refine q_fa fa_81_2 rfl rfl rfl ?_
   refine q_ld 1 Try.isAgg4 rfl rfl rfl rfl rfl ?_
   refine q_not rfl rfl rfl ?_
   refine x_F (by simp [e1]) ?_
   refine q_mv rfl rfl rfl ?_
   refine q_mv rfl rfl rfl ?_
   refine q_fa fa_81_1 rfl rfl rfl ?_
   refine q_fa fa_60_1 rfl rfl rfl ?_
   refine q_ld 1 Try.isAgg3 rfl rfl rfl rfl rfl ?_
   refine q_le rfl rfl rfl rfl ?_
   refine x_T (decide_eq_true e2) ?_
   refine q_pkF rfl rfl rfl rfl ?_
   refine q_mv rfl rfl rfl ?_
   iterate 5 refine q_skip rfl rfl ?_
   refine q_pkT rfl rfl rfl rfl ?_
   refine x_end ?_
   refine nk_cut (e' := [(0, _), (1, _), (2, _), (3, _), (4, _), (8, _), (9, _), (27, _)]) [0, 1, 2, 3, 4, 8, 9, 27] rfl ?_
   refine nk_seq ?_
   refine ew_true rfl ?_
   refine ew_seq ?_
   refine rg (.q 0 (.h 1 (.q 2 XT.done))) (by kernel_rfl) (by kernel_rfl) ?_
   refine q_ldS 1 Try.isAgg81 Try.sizeOf81 rfl rfl rfl rfl rfl ?_
   refine h_stS (cs' := [_, _, _, _, _, _, _, _, _, _, _, _, _, _, _]) (S' := [_, _]) 0 Try.sizeOf81 rfl rfl rfl rfl rfl (allOne rfl) rfl (leb rfl) rfl rfl kp0 ?_
   refine q_as (sv := .i 15) rfl rfl rfl ?_
   refine x_end ?_
   refine nk_cut (e' := [(0, _), (1, _), (2, _), (3, _), (4, _), (8, _), (9, _), (27, _)]) [0, 1, 2, 3, 4, 8, 9, 27] rfl ?_
   refine nk_seq ?_
   refine ew_ret (r := .tup [_, _]) rfl rfl (.cons (.agg 0 Try.isAgg81 Try.sizeOf81 rfl rfl rfl) (.cons (.tmp rfl) .nil)) rfl ?_
   rw [Kp.commit_1 (.inr (.inl (by omega)))]
   exact ⟨a, A, c, ps, rfl, hks, rfl, HLe.refl _⟩
  ·skip
   refine rg (.q 0 (.q 1 (.q 2 (.q 3 (.q 4 (.q 5 (.q 6 (.q 7 (.q 8 (.q 9 (.q 10 (.q 11 (.q 12 (.q 13 (.q 14 (.q 15 (.q 16 XT.done))))))))))))))))) (by kernel_rfl) (by kernel_rfl) ?_
   refine q_fa fa_81_2 rfl rfl rfl ?_
   refine q_ld 1 Try.isAgg4 rfl rfl rfl rfl rfl ?_
   refine q_not rfl rfl rfl ?_
   refine x_F (by simp [e1]) ?_
   refine q_mv rfl rfl rfl ?_
   refine q_mv rfl rfl rfl ?_
   refine q_fa fa_81_1 rfl rfl rfl ?_
   refine q_fa fa_60_1 rfl rfl rfl ?_
   refine q_ld 1 Try.isAgg3 rfl rfl rfl rfl rfl ?_
   refine q_le rfl rfl rfl rfl ?_
   refine x_F (decide_eq_false e2) ?_
   refine q_pkF rfl rfl rfl rfl ?_
   refine q_mv rfl rfl rfl ?_
   refine q_mv rfl rfl rfl ?_
   refine q_fa fa_81_1 rfl rfl rfl ?_
   refine q_fa fa_60_2 rfl rfl rfl ?_
   refine q_ld 1 Try.isAgg3 rfl rfl rfl rfl rfl ?_
   refine q_gt rfl rfl rfl rfl ?_
   refine q_pkF rfl rfl rfl rfl ?_
   refine x_end ?_
   refine nk_cut (e' := [(0, _), (1, _), (2, _), (3, _), (4, _), (8, _), (9, _), (27, _)]) [0, 1, 2, 3, 4, 8, 9, 27] rfl ?_
   refine nk_seq ?_
   refine ew_cond rfl ?_ ?_
   ·intro hc27
    try simp only [decide_eq_true_eq] at hc27
    refine ew_seq ?_
    refine rg (.q 0 (.h 1 (.q 2 XT.done))) (by kernel_rfl) (by kernel_rfl) ?_
    refine q_ldS 1 Try.isAgg81 Try.sizeOf81 rfl rfl rfl rfl rfl ?_
    refine h_stS (cs' := [_, _, _, _, _, _, _, _, _, _, _, _, _, _, _]) (S' := [_, _]) 0 Try.sizeOf81 rfl rfl rfl rfl rfl (allOne rfl) rfl (leb rfl) rfl rfl kp0 ?_
    refine q_as (sv := .i 15) rfl rfl rfl ?_
    refine x_end ?_
    refine nk_cut (e' := [(0, _), (1, _), (2, _), (3, _), (4, _), (8, _), (9, _), (27, _)]) [0, 1, 2, 3, 4, 8, 9, 27] rfl ?_
    refine nk_seq ?_
    refine ew_ret (r := .tup [_, _]) rfl rfl (.cons (.agg 0 Try.isAgg81 Try.sizeOf81 rfl rfl rfl) (.cons (.tmp rfl) .nil)) rfl ?_
    rw [Kp.commit_1 (.inr (.inr (by omega)))]
    exact ⟨a, A, c, ps, rfl, hks, rfl, HLe.refl _⟩
   ·intro hc27
    try simp only [decide_eq_false_iff_not] at hc27
    refine ew_skip ?_
    refine nk_seq ?_
    refine ew_seq ?_
    refine rg (.q 0 (.q 1 (.h 2 (.h 3 XT.done)))) (by kernel_rfl) (by kernel_rfl) ?_
    refine q_fa fa_81_1 rfl rfl rfl ?_
    refine q_ldSp (cs' := [_, _, _, _, _, _, _, _]) 1 Try.isAgg60 Try.sizeOf60 rfl rfl rfl rfl rfl (leb rfl) ?_
    refine h_alloc (cs := [_, _, _, _, _, _, _, _]) Try.zeroValue60 rfl rfl (zc_60 Try.zeroValue60) ?_
    intro g3
    refine ⟨kp0, ?_⟩
    refine h_stS (cs' := [_, _, _, _, _, _, _, _]) (S' := [_, _, _]) 0 Try.sizeOf60 rfl rfl rfl rfl rfl (allOne rfl) rfl (leb rfl) rfl rfl kp0 ?_
    refine x_end ?_
    refine nk_cut (e' := [(0, _), (1, _), (2, _), (3, _), (4, _), (8, _), (9, _), (10, _), (27, _)]) [0, 1, 2, 3, 4, 8, 9, 10, 27] rfl ?_
    refine nk_seq ?_
    refine ew_seq ?_
    refine rg (.q 0 (.q 1 (.h 2 XT.done))) (by kernel_rfl) (by kernel_rfl) ?_
    refine q_mv rfl rfl rfl ?_
    refine q_fa fa_60_1 rfl rfl rfl ?_
    refine h_st (cs' := [_, _, _, _, _, _, _, _]) (S' := [_, _, _]) 0 Try.sizeOf3 rfl rfl rfl rfl rfl rfl (ltb rfl) rfl rfl kp0 ?_
    refine x_end ?_
    refine nk_cut (e' := [(0, _), (1, _), (2, _), (3, _), (4, _), (8, _), (9, _), (10, _), (27, _)]) [0, 1, 2, 3, 4, 8, 9, 10, 27] rfl ?_
    refine nk_seq ?_
    refine ew_seq ?_
    refine rg (.q 0 (.q 1 (.h 2 XT.done))) (by kernel_rfl) (by kernel_rfl) ?_
    refine q_mv rfl rfl rfl ?_
    refine q_fa fa_60_3 rfl rfl rfl ?_
    refine h_st (cs' := [_, _, _, _, _, _, _, _]) (S' := [_, _, _]) 0 Try.sizeOf3 rfl rfl rfl rfl rfl rfl (ltb rfl) rfl rfl kp0 ?_
    refine x_end ?_
    refine nk_cut (e' := [(0, _), (1, _), (2, _), (3, _), (4, _), (8, _), (9, _), (10, _), (27, _)]) [0, 1, 2, 3, 4, 8, 9, 10, 27] rfl ?_
    refine nk_seq ?_
    refine ew_seq ?_
    refine rg (.q 0 (.q 1 (.h 2 XT.done))) (by kernel_rfl) (by kernel_rfl) ?_
    refine q_mv rfl rfl rfl ?_
    refine q_fa fa_60_4 rfl rfl rfl ?_
    refine h_st (cs' := [_, _, _, _, _, _, _, _]) (S' := [_, _, _]) 0 Try.sizeOf3 rfl rfl rfl rfl rfl rfl (ltb rfl) rfl rfl kp0 ?_
    refine x_end ?_
    refine nk_cut (e' := [(0, _), (1, _), (2, _), (3, _), (4, _), (8, _), (9, _), (10, _), (27, _)]) [0, 1, 2, 3, 4, 8, 9, 10, 27] rfl ?_
    refine nk_seq ?_
    refine ew_seq ?_
    refine rg (.q 0 (.q 1 (.h 2 XT.done))) (by kernel_rfl) (by kernel_rfl) ?_
    refine q_mv rfl rfl rfl ?_
    refine q_fa fa_60_5 rfl rfl rfl ?_
    refine h_st (cs' := [_, _, _, _, _, _, _, _]) (S' := [_, _, _]) 0 Try.sizeOf3 rfl rfl rfl rfl rfl rfl (ltb rfl) rfl rfl kp0 ?_
    refine x_end ?_
    refine nk_cut (e' := [(0, _), (1, _), (2, _), (3, _), (4, _), (8, _), (9, _), (10, _), (27, _)]) [0, 1, 2, 3, 4, 8, 9, 10, 27] rfl ?_
    have hxa : An.ok H ⟨a.seq, e, a.given_, rt, e, pe, a.m, a.A, a.n, a.c, a.ks⟩ := hka.cong rfl rfl rfl rfl rfl
    have hxv : An.v ⟨a.seq, e, a.given_, rt, e, pe, a.m, a.A, a.n, a.c, a.ks⟩ = { k.last with epoch := e, root := rt, rep := e, pending := pe } := by rw [← hav]; rfl
    have hcells : An.cells ⟨a.seq, e, a.given_, rt, e, pe, a.m, a.A, a.n, a.c, a.ks⟩ = [.i (a.seq), .i (e), .i (a.given_), .i (rt), .i (e), .i (pe), .sl a.m.A a.m.n a.m.c, .sl a.A a.n a.c] := rfl
    have hcel2 : rkpCells k.p A c k.c.writes a k.has = [.i k.p.steps, .i k.p.fuse, .b k.p.done, .b k.p.down, .sl A 4 c, .i k.c.writes, .i a.seq, .i a.epoch, .i a.given_, .i a.root, .i a.rep, .i a.pending, .sl a.m.A a.m.n a.m.c, .sl a.A a.n a.c, .b k.has] := rfl
    refine nk_seq ?_
    refine ew_seq ?_
    refine rg (.q 0 (.q 1 (.h 2 (.q 3 (.q 4 (.h 5 (.q 6 XT.done))))))) (by kernel_rfl) (by kernel_rfl) ?_
    refine q_ldS 2 Try.isAgg81 Try.sizeOf81 rfl rfl rfl rfl rfl ?_
    refine q_ldS 0 Try.isAgg60 Try.sizeOf60 rfl rfl rfl rfl rfl ?_
    have hca := RKSave_hc hko hmm hks hxa
    rw [hcells, hxv, hcel2] at hca
    refine h_call0 Try.call44 rfl rfl rfl (hca) ?_
    rintro r_ S_ Hn1 hl1 ⟨an1, A1, c1, ps1, rfl, hks1, rfl, hle1⟩
    replace hka := hka.mono hl1
    replace hcs := hcs.mono hl1
    replace hks := hks.mono hl1
    replace hxa := hxa.mono hl1
    refine ⟨kp0, ?_⟩
    refine x_S (S' := [_, _, _]) rfl ?_
    refine q_ext rfl rfl rfl rfl ?_
    refine q_ext rfl rfl rfl rfl ?_
    refine h_stS (cs' := [_, _, _, _, _, _, _, _, _, _, _, _, _, _, _]) (S' := [_, _, _]) 1 Try.sizeOf81 rfl rfl rfl rfl rfl (allOne rfl) rfl (leb rfl) rfl rfl kp0 ?_
    refine q_as rfl rfl rfl ?_
    refine x_end ?_
    refine nk_cut (e' := [(0, _), (1, _), (2, _), (3, _), (4, _), (8, _), (9, _), (10, _), (27, _)]) [0, 1, 2, 3, 4, 8, 9, 10, 27] rfl ?_
    refine nk_seq ?_
    refine ew_ret (r := .tup [_, _]) rfl rfl (.cons (.agg 1 Try.isAgg81 Try.sizeOf81 rfl rfl rfl) (.cons (.tmp rfl) .nil)) rfl ?_
    rw [Kp.commit_2 (fun h => h.elim e1 (fun h => by omega))]
    exact ⟨an1, A1, c1, ps1, rfl, hks1, rfl, hl1⟩


theorem RKClean_hc {H : Hp} {k : Kp} {m : Int} (hko : k.ok m) (hmm : m ≤ 1000000000) {a : An} {A : Option Addr} {c : Nat} {ps : List Sli} (hks : RKpS H a A c ps k) :
  HC Try.prog 50 [.agg (rkpCells k.p A c k.c.writes a k.has)] [] H (fun rr S' H' => ∃ a' A' c' ps', rr = .tup [.agg (rkpCells (k.clean.1).p A' c' (k.clean.1).c.writes a' (k.clean.1).has), .i k.clean.2] ∧ RKpS H' a' A' c' ps' (k.clean.1) ∧ S' = [] ∧ HLe H H') := by
 have hka : An.ok H a := hks.an
 have hav := hks.av
 have hcs := hks.cs
 have hpw := hko.pw (by omega)
 have hse := hko.seq
 have hgi := hko.giv
 rw [← hav] at hse hgi
 have hse0 : 0 ≤ a.seq := hse.1
 have hse1 : a.seq ≤ 1099511627776 := hse.2
 have hgi0 : 0 ≤ a.given_ := hgi.1
 have hgi1 : a.given_ ≤ 1099511627776 := hgi.2
 have hww := hko.w1
 have hgg2 : a.given_ = k.last.given_ := congrArg Anc.given_ hav
 have hee2 : a.epoch = k.last.epoch := congrArg Anc.epoch hav
 refine hc_intro (n := 17) Try.func50 rfl Try.ntmps50 rfl (fun B hB => ?_)
 refine ew_cut (e' := [(0, _)]) [0] rfl ?_
 refine ew_sub (e' := [(0, (.agg [_, _, _, _, _, _, _, _, _, _, _, _, _, _, _]))]) ⟨rfl, trivial⟩ ?_
 refine ew_seq ?_
 refine rg (.h 0 (.h 1 (.q 2 XT.done))) (by kernel_rfl) (by kernel_rfl) ?_
 refine h_boxS rfl rfl rfl ?_
 intro g1
 refine ⟨kp0, ?_⟩
 refine h_alloc (cs := [_, _, _, _, _, _, _, _, _, _, _, _, _, _, _]) Try.zeroValue81 rfl rfl (zc_81 Try.zeroValue81) ?_
 intro g2
 refine ⟨kp0, ?_⟩
 refine q_as (sv := .i 0) rfl rfl rfl ?_
 refine x_end ?_
 refine nk_cut (e' := [(0, _), (1, _), (2, _), (3, _)]) [0, 1, 2, 3] rfl ?_
 refine nk_seq ?_
 refine ew_seq ?_
 refine ew_seq ?_
 refine rg (.q 0 (.q 1 (.q 2 XT.done))) (by kernel_rfl) (by kernel_rfl) ?_
 refine q_fa fa_81_2 rfl rfl rfl ?_
 refine q_ld 1 Try.isAgg4 rfl rfl rfl rfl rfl ?_
 refine q_not rfl rfl rfl ?_
 refine x_end ?_
 refine nk_cut (e' := [(0, _), (1, _), (2, _), (3, _), (7, _)]) [0, 1, 2, 3, 7] rfl ?_
 refine nk_seq ?_
 refine ew_cond rfl ?_ ?_
 ·intro hc7
  simp only [Bool.not_eq_true', Bool.not_eq_false'] at hc7
  refine ew_seq ?_
  refine rg (.q 0 (.h 1 (.q 2 XT.done))) (by kernel_rfl) (by kernel_rfl) ?_
  refine q_ldS 1 Try.isAgg81 Try.sizeOf81 rfl rfl rfl rfl rfl ?_
  refine h_stS (cs' := [_, _, _, _, _, _, _, _, _, _, _, _, _, _, _]) (S' := [_, _]) 0 Try.sizeOf81 rfl rfl rfl rfl rfl (allOne rfl) rfl (leb rfl) rfl rfl kp0 ?_
  refine q_as (sv := .i 9) rfl rfl rfl ?_
  refine x_end ?_
  refine nk_cut (e' := [(0, _), (1, _), (2, _), (3, _), (7, _)]) [0, 1, 2, 3, 7] rfl ?_
  refine nk_seq ?_
  refine ew_ret (r := .tup [_, _]) rfl rfl (.cons (.agg 0 Try.isAgg81 Try.sizeOf81 rfl rfl rfl) (.cons (.tmp rfl) .nil)) rfl ?_
  rw [Kp.clean_1 hc7]
  exact ⟨a, A, c, ps, rfl, hks, rfl, HLe.refl _⟩
 ·intro hc7
  simp only [Bool.not_eq_true', Bool.not_eq_false'] at hc7
  have hh : ¬ k.has = false := by simp [hc7]
  refine ew_skip ?_
  refine nk_seq ?_
  refine ew_seq ?_
  refine rg (.q 0 (.q 1 (.h 2 (.h 3 XT.done)))) (by kernel_rfl) (by kernel_rfl) ?_
  refine q_fa fa_81_1 rfl rfl rfl ?_
  refine q_ldSp (cs' := [_, _, _, _, _, _, _, _]) 1 Try.isAgg60 Try.sizeOf60 rfl rfl rfl rfl rfl (leb rfl) ?_
  refine h_alloc (cs := [_, _, _, _, _, _, _, _]) Try.zeroValue60 rfl rfl (zc_60 Try.zeroValue60) ?_
  intro g3
  refine ⟨kp0, ?_⟩
  refine h_stS (cs' := [_, _, _, _, _, _, _, _]) (S' := [_, _, _]) 0 Try.sizeOf60 rfl rfl rfl rfl rfl (allOne rfl) rfl (leb rfl) rfl rfl kp0 ?_
  refine x_end ?_
  refine nk_cut (e' := [(0, _), (1, _), (2, _), (3, _), (4, _), (7, _)]) [0, 1, 2, 3, 4, 7] rfl ?_
  refine nk_seq ?_
  refine ew_seq ?_
  refine rg (.q 0 (.h 1 XT.done)) (by kernel_rfl) (by kernel_rfl) ?_
  refine q_fa fa_60_5 rfl rfl rfl ?_
  refine h_st (sv := .i 0) (cs' := [_, _, _, _, _, _, _, _]) (S' := [_, _, _]) 0 Try.sizeOf3 rfl rfl rfl rfl rfl rfl (ltb rfl) rfl rfl kp0 ?_
  refine x_end ?_
  refine nk_cut (e' := [(0, _), (1, _), (2, _), (3, _), (4, _), (7, _)]) [0, 1, 2, 3, 4, 7] rfl ?_
  have hxa : An.ok H ⟨a.seq, a.epoch, a.given_, a.root, a.rep, 0, a.m, a.A, a.n, a.c, a.ks⟩ := hka.cong rfl rfl rfl rfl rfl
  have hxv : An.v ⟨a.seq, a.epoch, a.given_, a.root, a.rep, 0, a.m, a.A, a.n, a.c, a.ks⟩ = { k.last with pending := 0 } := by rw [← hav]; rfl
  have hcells : An.cells ⟨a.seq, a.epoch, a.given_, a.root, a.rep, 0, a.m, a.A, a.n, a.c, a.ks⟩ = [.i (a.seq), .i (a.epoch), .i (a.given_), .i (a.root), .i (a.rep), .i (0), .sl a.m.A a.m.n a.m.c, .sl a.A a.n a.c] := rfl
  have hcel2 : rkpCells k.p A c k.c.writes a k.has = [.i k.p.steps, .i k.p.fuse, .b k.p.done, .b k.p.down, .sl A 4 c, .i k.c.writes, .i a.seq, .i a.epoch, .i a.given_, .i a.root, .i a.rep, .i a.pending, .sl a.m.A a.m.n a.m.c, .sl a.A a.n a.c, .b k.has] := rfl
  refine nk_seq ?_
  refine ew_seq ?_
  refine rg (.q 0 (.q 1 (.h 2 (.q 3 (.q 4 (.h 5 (.q 6 XT.done))))))) (by kernel_rfl) (by kernel_rfl) ?_
  refine q_ldS 2 Try.isAgg81 Try.sizeOf81 rfl rfl rfl rfl rfl ?_
  refine q_ldS 0 Try.isAgg60 Try.sizeOf60 rfl rfl rfl rfl rfl ?_
  have hca := RKSave_hc hko hmm hks hxa
  rw [hcells, hxv, hcel2] at hca
  refine h_call0 Try.call44 rfl rfl rfl (hca) ?_
  rintro r_ S_ Hn1 hl1 ⟨an1, A1, c1, ps1, rfl, hks1, rfl, hle1⟩
  replace hka := hka.mono hl1
  replace hcs := hcs.mono hl1
  replace hks := hks.mono hl1
  replace hxa := hxa.mono hl1
  refine ⟨kp0, ?_⟩
  refine x_S (S' := [_, _, _]) rfl ?_
  refine q_ext rfl rfl rfl rfl ?_
  refine q_ext rfl rfl rfl rfl ?_
  refine h_stS (cs' := [_, _, _, _, _, _, _, _, _, _, _, _, _, _, _]) (S' := [_, _, _]) 1 Try.sizeOf81 rfl rfl rfl rfl rfl (allOne rfl) rfl (leb rfl) rfl rfl kp0 ?_
  refine q_as rfl rfl rfl ?_
  refine x_end ?_
  refine nk_cut (e' := [(0, _), (1, _), (2, _), (3, _), (4, _), (7, _)]) [0, 1, 2, 3, 4, 7] rfl ?_
  refine nk_seq ?_
  refine ew_ret (r := .tup [_, _]) rfl rfl (.cons (.agg 1 Try.isAgg81 Try.sizeOf81 rfl rfl rfl) (.cons (.tmp rfl) .nil)) rfl ?_
  rw [Kp.clean_2 hh]
  exact ⟨an1, A1, c1, ps1, rfl, hks1, rfl, hl1⟩


theorem rc_at {H : Hp} {A : Option Addr} {c : Nat} {ps : List Sli} {cl : Cel} (h : RCelS H A c ps cl) {i : Nat} (hi : i < 4) : (ps.getD i default).xs = pad (cl.get i) := by
  have hx := h.xs
  have hl := h.bss.len
  have e : (ps.map (·.xs))[i]? = some (ps.getD i default).xs := by
    have : i < ps.length := by omega
    simp [this]
  rw [hx] at e
  rcases (by omega : i = 0 ∨ i = 1 ∨ i = 2 ∨ i = 3) with rfl | rfl | rfl | rfl <;> (simp only [List.getElem?_cons_zero, List.getElem?_cons_succ, Option.some.injEq] at e; rw [← e]; rfl)

theorem RKOpen_hc {H : Hp} {p : Pow} {cl : Cel} {A : Option Addr} {c : Nat} {ps : List Sli} (hcs : RCelS H A c ps cl) (hlim : ∀ i, (cl.get i).length ≤ 1024) :
  HC Try.prog 42 [.agg (rcelCells p A c cl.writes)] [] H (fun rr S' H' => ∃ a', rr = .tup [.agg (rkpCells p A c cl.writes a' (Kp.opn cl p).1.has), .i (Kp.opn cl p).2] ∧ RKpS H' a' A c ps (Kp.opn cl p).1 ∧ S' = [] ∧ HLe H H') := by
 refine hc_intro (n := 46) Try.func42 rfl Try.ntmps42 rfl (fun B hB => ?_)
 refine ew_cut (e' := [(0, _)]) [0] rfl ?_
 refine ew_sub (e' := [(0, .agg [_, _, _, _, _, _])]) ⟨rfl, trivial⟩ ?_
 refine ew_seq ?_
 refine rg (.h 0 (.h 1 (.q 2 XT.done))) (by kernel_rfl) (by kernel_rfl) ?_
 refine h_boxS rfl rfl rfl ?_
 intro g1
 refine ⟨kp0, ?_⟩
 refine h_alloc (cs := [_, _, _, _, _, _, _, _, _, _, _, _, _, _, _]) Try.zeroValue81 rfl rfl (zc_81 Try.zeroValue81) ?_
 intro g2
 refine ⟨kp0, ?_⟩
 refine q_as (sv := .i 0) rfl rfl rfl ?_
 refine x_end ?_
 refine nk_cut (e' := [(0, _), (1, _), (2, _), (3, _)]) [0, 1, 2, 3] rfl ?_
 refine nk_seq ?_
 refine ew_seq ?_
 refine rg (.q 0 (.q 1 (.h 2 (.h 3 XT.done)))) (by kernel_rfl) (by kernel_rfl) ?_
 refine q_ldS 1 Try.isAgg79 Try.sizeOf79 rfl rfl rfl rfl rfl ?_
 refine q_bld (cs := [_, _, _, _, _, _, _, _, _, _, _, _, _, _, _]) bf_81 rfl rfl rfl rfl ?_
 refine h_alloc (cs := [_, _, _, _, _, _, _, _, _, _, _, _, _, _, _]) Try.zeroValue81 rfl rfl (zc_81 Try.zeroValue81) ?_
 intro g3
 refine ⟨kp0, ?_⟩
 refine h_stS (cs' := [_, _, _, _, _, _, _, _, _, _, _, _, _, _, _]) (S' := [_, _, _]) 0 Try.sizeOf81 rfl rfl rfl rfl rfl (allOne rfl) rfl (leb rfl) rfl rfl kp0 ?_
 refine x_end ?_
 refine nk_cut (e' := [(0, _), (1, _), (2, _), (3, _), (4, _)]) [0, 1, 2, 3, 4] rfl ?_
 refine nk_seq ?_
 refine ew_seq ?_
 refine ew_seq ?_
 refine rg (.q 0 (.q 1 (.q 2 XT.done))) (by kernel_rfl) (by kernel_rfl) ?_
 refine q_fa fa_79_0 rfl rfl rfl ?_
 refine q_fa fa_36_3 rfl rfl rfl ?_
 refine q_ld 2 Try.isAgg4 rfl rfl rfl rfl rfl ?_
 refine x_end ?_
 refine nk_cut (e' := [(0, _), (1, _), (2, _), (3, _), (4, _), (12, _)]) [0, 1, 2, 3, 4, 12] rfl ?_
 refine nk_seq ?_
 refine ew_cond rfl ?_ ?_
 ·intro hc12
  refine ew_seq ?_
  refine rg (.q 0 (.h 1 (.q 2 XT.done))) (by kernel_rfl) (by kernel_rfl) ?_
  refine q_ldS 0 Try.isAgg81 Try.sizeOf81 rfl rfl rfl rfl rfl ?_
  refine h_stS (cs' := [_, _, _, _, _, _, _, _, _, _, _, _, _, _, _]) (S' := [_, _, _]) 1 Try.sizeOf81 rfl rfl rfl rfl rfl (allOne rfl) rfl (leb rfl) rfl rfl kp0 ?_
  refine q_as (sv := .i 5) rfl rfl rfl ?_
  refine x_end ?_
  refine nk_cut (e' := [(0, _), (1, _), (2, _), (3, _), (4, _), (12, _)]) [0, 1, 2, 3, 4, 12] rfl ?_
  refine nk_seq ?_
  refine ew_ret (r := .tup [_, _]) rfl rfl (.cons (.agg 1 Try.isAgg81 Try.sizeOf81 rfl rfl rfl) (.cons (.tmp rfl) .nil)) rfl ?_
  rw [Kp.opn_down hc12]
  exact ⟨zeroAn, rfl, ⟨zeroAn_ok, rfl, hcs⟩, rfl, HLe.refl _⟩
 ·intro hc12
  have hd : p.down = false := by simpa using hc12
  refine ew_skip ?_
  refine nk_seq ?_
  refine ew_seq ?_
  refine ew_seq ?_
  refine rg (.q 0 XT.done) (by kernel_rfl) (by kernel_rfl) ?_
  refine q_as (sv := .i 0) rfl rfl rfl ?_
  refine x_end ?_
  refine nk_cut (e' := [(0, _), (1, _), (2, _), (3, _), (4, _), (5, _), (12, _)]) [0, 1, 2, 3, 4, 5, 12] rfl ?_
  refine nk_seq ?_
  refine ew_block ?_
  let Ev1 : Nat × An → Env := fun ⟨i, a⟩ => [(5, .i (i : Int))]
  let Sv1 : Nat × An → Res := fun ⟨i, a⟩ => [.box g3 81 (rkpCells p A c cl.writes a (Kp.opnK cl p i).has), .box g2 81 [.i 0, .i 0, .b false, .b false, .sl none 0 0, .i 0, .i 0, .i 0, .i 0, .i 0, .i 0, .i 0, .sl none 0 0, .sl none 0 0, .b false], .box g1 79 (rcelCells p A c cl.writes)]
  let Gv1 : Nat × An → Hp → Prop := fun ⟨i, a⟩ H' => HLe H H' ∧ (i ≤ 2 ∧ An.ok H' a ∧ a.v = (Kp.opnK cl p i).last)
  let Mv1 : Nat × An → Nat := fun ⟨i, a⟩ => 2 - i
  refine ew_loop (mkE [(0, _), (1, _), (2, _), (3, _), (4, _), (12, _)] Ev1) (Sv1) Gv1 Mv1 (⟨0, zeroAn⟩ : Nat × An) ⟨rfl, rfl, rfl, rfl, rfl, rfl, rfl, trivial⟩ rfl ⟨HLe.refl _, ⟨by omega, zeroAn_ok, rfl⟩⟩ ?_
  rintro ⟨i, a⟩ Hl1 ⟨hl1, hG⟩
  replace hcs := hcs.mono hl1
  obtain ⟨hi, hka, hav⟩ := hG
  refine ew_S (S' := [.box _ _ [_, _, _, _, _, _, _, _, _, _, _, _, _, _, _], _, _]) rfl ?_
  refine ew_S (S' := [_, _, _]) rfl ?_
  refine ew_cut (e' := [(5, _), (0, _), (1, _), (2, _), (3, _), (4, _), (12, _)]) [5, 0, 1, 2, 3, 4, 12] rfl ?_
  refine ew_seq ?_
  refine ew_seq ?_
  refine rg (.q 0 (.q 1 XT.done)) (by kernel_rfl) (by kernel_rfl) ?_
  refine q_mv rfl rfl rfl ?_
  refine q_lt rfl rfl rfl rfl ?_
  refine x_end ?_
  refine nk_cut (e' := [(0, _), (1, _), (2, _), (3, _), (4, _), (5, _), (12, _), (15, _)]) [0, 1, 2, 3, 4, 5, 12, 15] rfl ?_
  refine nk_seq ?_
  refine ew_cond rfl ?_ ?_
  ·intro hc15
   try simp only [decide_eq_true_eq] at hc15
   refine ew_skip ?_
   refine nk_seq ?_
   refine ew_seq ?_
   refine ew_block ?_
   refine ew_seq ?_
   refine rg (.q 0 (.q 1 (.q 2 (.q 3 (.q 4 (.h 5 (.q 6 (.q 7 (.q 8 (.h 9 (.h 10 (.q 11 XT.done)))))))))))) (by kernel_rfl) (by kernel_rfl) ?_
   refine q_fa fa_79_1 rfl rfl rfl ?_
   refine q_ld 2 Try.isAgg77 rfl rfl rfl rfl rfl ?_
   refine q_mv rfl rfl rfl ?_
   refine q_ixs1 Try.underlying77 Try.sizeOf26 rfl rfl rfl rfl rfl (hcs.bss.ne (by omega)) (by omega) (by omega) ?_
   refine q_ldp Try.isAgg26 rfl rfl rfl (hcs.bss.cell (j := i) (by omega)) ?_
   have hbi := hcs.bss.at_ (j := i) (by omega)
   have hbl := hbi.len
   have hpl := pad_len (hlim (i : Int))
   rw [rc_at hcs (by omega)] at hbl
   have hca := RAGet_hc hbi (by omega)
   rw [rc_at hcs (by omega)] at hca
   refine h_call0 Try.call34 rfl rfl rfl (hca) ?_
   rintro r_ S_ Hn1 hl2 ⟨an1, rfl, ha1, hav1, rfl, hle1⟩
   replace hcs := hcs.mono hl2
   replace hka := hka.mono hl2
   refine ⟨kp0, ?_⟩
   refine x_S (S' := [_, _, _]) rfl ?_
   refine q_mv rfl rfl rfl ?_
   refine q_ext rfl rfl rfl rfl ?_
   refine q_ext rfl rfl rfl rfl ?_
   refine h_alloc (cs := [_, _, _, _, _, _, _, _]) Try.zeroValue60 rfl rfl (zc_60 Try.zeroValue60) ?_
   intro g4
   refine ⟨kp0, ?_⟩
   refine h_stS (cs' := [_, _, _, _, _, _, _, _]) (S' := [_, _, _, _]) 0 Try.sizeOf60 rfl rfl rfl rfl rfl (allOne rfl) rfl (leb rfl) rfl rfl kp0 ?_
   refine q_as rfl rfl rfl ?_
   refine x_end ?_
   refine nk_cut (e' := [(0, _), (1, _), (2, _), (3, _), (4, _), (5, _), (6, _), (7, _), (12, _), (15, _)]) [0, 1, 2, 3, 4, 5, 6, 7, 12, 15] rfl ?_
   refine nk_seq ?_
   refine ew_seq ?_
   by_cases e1 : (Anc.dec (pad (cl.get i))).2 = 0
   ·skip
    by_cases e2 : (Kp.opnK cl p i).has = false
    ·skip
     refine rg (.q 0 (.q 1 (.q 2 (.q 3 (.q 4 (.q 5 (.q 6 (.q 7 (.q 8 (.q 9 (.q 10 (.q 11 (.q 12 (.q 13 (.q 14 XT.done))))))))))))))) (by kernel_rfl) (by kernel_rfl) ?_
     refine q_mv rfl rfl rfl ?_
     refine q_eq rfl rfl rfl rfl ?_
     refine x_T (decide_eq_true e1) ?_
     refine q_mv rfl rfl rfl ?_
     refine q_fa fa_81_2 rfl rfl rfl ?_
     refine q_ld 1 Try.isAgg4 rfl rfl rfl rfl rfl ?_
     refine q_not rfl rfl rfl ?_
     refine x_T (by simp [e2]) ?_
     refine q_mv rfl rfl rfl ?_
     iterate 6 refine q_skip rfl rfl ?_
     refine q_pkT rfl rfl rfl rfl ?_
     refine q_pkT rfl rfl rfl rfl ?_
     refine x_end ?_
     refine nk_cut (e' := [(0, _), (1, _), (2, _), (3, _), (4, _), (5, _), (6, _), (7, _), (12, _), (15, _), (41, _)]) [0, 1, 2, 3, 4, 5, 6, 7, 12, 15, 41] rfl ?_
     refine nk_seq ?_
     refine ew_true rfl ?_
     refine ew_seq ?_
     refine rg (.q 0 (.q 1 (.h 2 XT.done))) (by kernel_rfl) (by kernel_rfl) ?_
     refine q_ldS 0 Try.isAgg60 Try.sizeOf60 rfl rfl rfl rfl rfl ?_
     refine q_fa fa_81_1 rfl rfl rfl ?_
     refine h_stS (cs' := [_, _, _, _, _, _, _, _, _, _, _, _, _, _, _]) (S' := [_, _, _, _]) 1 Try.sizeOf60 rfl rfl rfl rfl rfl (allOne rfl) rfl (leb rfl) rfl rfl kp0 ?_
     refine x_end ?_
     refine nk_cut (e' := [(0, _), (1, _), (2, _), (3, _), (4, _), (5, _), (6, _), (7, _), (12, _), (15, _), (41, _)]) [0, 1, 2, 3, 4, 5, 6, 7, 12, 15, 41] rfl ?_
     refine nk_seq ?_
     refine rg (.q 0 (.h 1 XT.done)) (by kernel_rfl) (by kernel_rfl) ?_
     refine q_fa fa_81_2 rfl rfl rfl ?_
     refine h_st (sv := .b true) (cs' := [_, _, _, _, _, _, _, _, _, _, _, _, _, _, _]) (S' := [_, _, _, _]) 1 Try.sizeOf4 rfl rfl rfl rfl rfl rfl (ltb rfl) rfl rfl kp0 ?_
     refine x_end ?_
     refine nk_cut (e' := [(0, _), (1, _), (2, _), (3, _), (4, _), (5, _), (6, _), (7, _), (12, _), (15, _), (41, _)]) [0, 1, 2, 3, 4, 5, 6, 7, 12, 15, 41] rfl ?_
     refine nk_blk ?_
     refine nk_seq ?_
     refine rg (.q 0 (.q 1 (.q 2 XT.done))) (by kernel_rfl) (by kernel_rfl) ?_
     refine q_mv rfl rfl rfl ?_
     refine q_add rfl rfl rfl rfl (by omega) (by omega) ?_
     refine q_as rfl rfl rfl ?_
     refine x_end ?_
     refine nk_cut (e' := [(0, _), (1, _), (2, _), (3, _), (4, _), (5, _), (6, _), (7, _), (12, _), (15, _), (41, _)]) [0, 1, 2, 3, 4, 5, 6, 7, 12, 15, 41] rfl ?_
     have hse : Kp.opnK cl p (i + 1) = ⟨(Kp.opnK cl p i).c, (Kp.opnK cl p i).p, (Anc.dec (pad (cl.get i))).1, true⟩ := see_yes e1 (.inl e2)
     refine nk_perm (S' := [_, _, _, _]) (permL [1, 2, 3, 0] rfl) ?_
     refine nk_drop (S := [_, _, _]) (S' := [_]) ?_
     refine nk_round (μ := Mv1) (i := (i, a)) (S := Sv1) (G := Gv1) (⟨i + 1, an1⟩ : Nat × An) ?_ ?_ ?_ ?_
     ·exact ⟨rfl, rfl, rfl, rfl, rfl, rfl, rfl, trivial⟩
     ·exact (by dsimp only [Sv1]; rw [hse]; rfl)
     ·exact ⟨(hl1.trans hl2), ⟨by omega, ha1, by rw [hse]; exact hav1⟩⟩
     ·dsimp only [Mv1]; omega
    ·skip
     refine rg (.q 0 (.q 1 (.q 2 (.q 3 (.q 4 (.q 5 (.q 6 (.q 7 (.q 8 (.q 9 (.q 10 (.q 11 (.q 12 (.q 13 (.q 14 XT.done))))))))))))))) (by kernel_rfl) (by kernel_rfl) ?_
     refine q_mv rfl rfl rfl ?_
     refine q_eq rfl rfl rfl rfl ?_
     refine x_T (decide_eq_true e1) ?_
     refine q_mv rfl rfl rfl ?_
     refine q_fa fa_81_2 rfl rfl rfl ?_
     refine q_ld 1 Try.isAgg4 rfl rfl rfl rfl rfl ?_
     refine q_not rfl rfl rfl ?_
     refine x_F (by simp [e2]) ?_
     refine q_mv rfl rfl rfl ?_
     refine q_fa fa_60_0 rfl rfl rfl ?_
     refine q_ld 0 Try.isAgg3 rfl rfl rfl rfl rfl ?_
     refine q_fa fa_81_1 rfl rfl rfl ?_
     refine q_fa fa_60_0 rfl rfl rfl ?_
     refine q_ld 1 Try.isAgg3 rfl rfl rfl rfl rfl ?_
     refine q_gt rfl rfl rfl rfl ?_
     refine q_pkF rfl rfl rfl rfl ?_
     refine q_pkT rfl rfl rfl rfl ?_
     refine x_end ?_
     refine nk_cut (e' := [(0, _), (1, _), (2, _), (3, _), (4, _), (5, _), (6, _), (7, _), (12, _), (15, _), (41, _)]) [0, 1, 2, 3, 4, 5, 6, 7, 12, 15, 41] rfl ?_
     refine nk_seq ?_
     refine ew_cond rfl ?_ ?_
     ·intro hc41
      try simp only [decide_eq_true_eq] at hc41
      refine ew_seq ?_
      refine rg (.q 0 (.q 1 (.h 2 XT.done))) (by kernel_rfl) (by kernel_rfl) ?_
      refine q_ldS 0 Try.isAgg60 Try.sizeOf60 rfl rfl rfl rfl rfl ?_
      refine q_fa fa_81_1 rfl rfl rfl ?_
      refine h_stS (cs' := [_, _, _, _, _, _, _, _, _, _, _, _, _, _, _]) (S' := [_, _, _, _]) 1 Try.sizeOf60 rfl rfl rfl rfl rfl (allOne rfl) rfl (leb rfl) rfl rfl kp0 ?_
      refine x_end ?_
      refine nk_cut (e' := [(0, _), (1, _), (2, _), (3, _), (4, _), (5, _), (6, _), (7, _), (12, _), (15, _), (41, _)]) [0, 1, 2, 3, 4, 5, 6, 7, 12, 15, 41] rfl ?_
      refine nk_seq ?_
      refine rg (.q 0 (.h 1 XT.done)) (by kernel_rfl) (by kernel_rfl) ?_
      refine q_fa fa_81_2 rfl rfl rfl ?_
      refine h_st (sv := .b true) (cs' := [_, _, _, _, _, _, _, _, _, _, _, _, _, _, _]) (S' := [_, _, _, _]) 1 Try.sizeOf4 rfl rfl rfl rfl rfl rfl (ltb rfl) rfl rfl kp0 ?_
      refine x_end ?_
      refine nk_cut (e' := [(0, _), (1, _), (2, _), (3, _), (4, _), (5, _), (6, _), (7, _), (12, _), (15, _), (41, _)]) [0, 1, 2, 3, 4, 5, 6, 7, 12, 15, 41] rfl ?_
      refine nk_blk ?_
      refine nk_seq ?_
      refine rg (.q 0 (.q 1 (.q 2 XT.done))) (by kernel_rfl) (by kernel_rfl) ?_
      refine q_mv rfl rfl rfl ?_
      refine q_add rfl rfl rfl rfl (by omega) (by omega) ?_
      refine q_as rfl rfl rfl ?_
      refine x_end ?_
      refine nk_cut (e' := [(0, _), (1, _), (2, _), (3, _), (4, _), (5, _), (6, _), (7, _), (12, _), (15, _), (41, _)]) [0, 1, 2, 3, 4, 5, 6, 7, 12, 15, 41] rfl ?_
      have hse : Kp.opnK cl p (i + 1) = ⟨(Kp.opnK cl p i).c, (Kp.opnK cl p i).p, (Anc.dec (pad (cl.get i))).1, true⟩ := see_yes e1 (.inr (by rw [← hav, ← hav1]; exact hc41))
      refine nk_perm (S' := [_, _, _, _]) (permL [1, 2, 3, 0] rfl) ?_
      refine nk_drop (S := [_, _, _]) (S' := [_]) ?_
      refine nk_round (μ := Mv1) (i := (i, a)) (S := Sv1) (G := Gv1) (⟨i + 1, an1⟩ : Nat × An) ?_ ?_ ?_ ?_
      ·exact ⟨rfl, rfl, rfl, rfl, rfl, rfl, rfl, trivial⟩
      ·exact (by dsimp only [Sv1]; rw [hse]; rfl)
      ·exact ⟨(hl1.trans hl2), ⟨by omega, ha1, by rw [hse]; exact hav1⟩⟩
      ·dsimp only [Mv1]; omega
     ·intro hc41
      try simp only [decide_eq_false_iff_not] at hc41
      refine ew_skip ?_
      refine nk_blk ?_
      refine nk_seq ?_
      refine rg (.q 0 (.q 1 (.q 2 XT.done))) (by kernel_rfl) (by kernel_rfl) ?_
      refine q_mv rfl rfl rfl ?_
      refine q_add rfl rfl rfl rfl (by omega) (by omega) ?_
      refine q_as rfl rfl rfl ?_
      refine x_end ?_
      refine nk_cut (e' := [(0, _), (1, _), (2, _), (3, _), (4, _), (5, _), (6, _), (7, _), (12, _), (15, _), (41, _)]) [0, 1, 2, 3, 4, 5, 6, 7, 12, 15, 41] rfl ?_
      have hse : Kp.opnK cl p (i + 1) = Kp.opnK cl p i := see_no2 e2 (by rw [← hav, ← hav1]; exact hc41)
      refine nk_perm (S' := [_, _, _, _]) (permL [1, 2, 3, 0] rfl) ?_
      refine nk_drop (S := [_, _, _]) (S' := [_]) ?_
      refine nk_round (μ := Mv1) (i := (i, a)) (S := Sv1) (G := Gv1) (⟨i + 1, a⟩ : Nat × An) ?_ ?_ ?_ ?_
      ·exact ⟨rfl, rfl, rfl, rfl, rfl, rfl, rfl, trivial⟩
      ·exact (by dsimp only [Sv1]; rw [hse]; rfl)
      ·exact ⟨(hl1.trans hl2), ⟨by omega, hka, by rw [hse]; exact hav⟩⟩
      ·dsimp only [Mv1]; omega
   ·skip
    refine rg (.q 0 (.q 1 (.q 2 (.q 3 (.q 4 (.q 5 (.q 6 (.q 7 (.q 8 (.q 9 (.q 10 (.q 11 (.q 12 (.q 13 (.q 14 XT.done))))))))))))))) (by kernel_rfl) (by kernel_rfl) ?_
    refine q_mv rfl rfl rfl ?_
    refine q_eq rfl rfl rfl rfl ?_
    refine x_F (decide_eq_false e1) ?_
    refine q_mv rfl rfl rfl ?_
    iterate 11 refine q_skip rfl rfl ?_
    refine q_pkF rfl rfl rfl rfl ?_
    refine x_end ?_
    refine nk_cut (e' := [(0, _), (1, _), (2, _), (3, _), (4, _), (5, _), (6, _), (7, _), (12, _), (15, _), (41, _)]) [0, 1, 2, 3, 4, 5, 6, 7, 12, 15, 41] rfl ?_
    refine nk_seq ?_
    refine ew_false rfl ?_
    refine ew_skip ?_
    refine nk_blk ?_
    refine nk_seq ?_
    refine rg (.q 0 (.q 1 (.q 2 XT.done))) (by kernel_rfl) (by kernel_rfl) ?_
    refine q_mv rfl rfl rfl ?_
    refine q_add rfl rfl rfl rfl (by omega) (by omega) ?_
    refine q_as rfl rfl rfl ?_
    refine x_end ?_
    refine nk_cut (e' := [(0, _), (1, _), (2, _), (3, _), (4, _), (5, _), (6, _), (7, _), (12, _), (15, _), (41, _)]) [0, 1, 2, 3, 4, 5, 6, 7, 12, 15, 41] rfl ?_
    have hse : Kp.opnK cl p (i + 1) = Kp.opnK cl p i := see_no1 e1
    refine nk_perm (S' := [_, _, _, _]) (permL [1, 2, 3, 0] rfl) ?_
    refine nk_drop (S := [_, _, _]) (S' := [_]) ?_
    refine nk_round (μ := Mv1) (i := (i, a)) (S := Sv1) (G := Gv1) (⟨i + 1, a⟩ : Nat × An) ?_ ?_ ?_ ?_
    ·exact ⟨rfl, rfl, rfl, rfl, rfl, rfl, rfl, trivial⟩
    ·exact (by dsimp only [Sv1]; rw [hse]; rfl)
    ·exact ⟨(hl1.trans hl2), ⟨by omega, hka, by rw [hse]; exact hav⟩⟩
    ·dsimp only [Mv1]; omega
  ·intro hc15
   try simp only [decide_eq_false_iff_not] at hc15
   refine ew_exit _ rfl ?_
   refine nk_seq ?_
   refine ew_seq ?_
   refine rg (.q 0 (.h 1 (.q 2 XT.done))) (by kernel_rfl) (by kernel_rfl) ?_
   refine q_ldS 0 Try.isAgg81 Try.sizeOf81 rfl rfl rfl rfl rfl ?_
   refine h_stS (cs' := [_, _, _, _, _, _, _, _, _, _, _, _, _, _, _]) (S' := [_, _, _]) 1 Try.sizeOf81 rfl rfl rfl rfl rfl (allOne rfl) rfl (leb rfl) rfl rfl kp0 ?_
   refine q_as (sv := .i 0) rfl rfl rfl ?_
   refine x_end ?_
   refine nk_cut (e' := [(0, _), (1, _), (2, _), (3, _), (4, _), (5, _), (12, _), (15, _)]) [0, 1, 2, 3, 4, 5, 12, 15] rfl ?_
   refine nk_seq ?_
   refine ew_ret (r := .tup [_, _]) rfl rfl (.cons (.agg 1 Try.isAgg81 Try.sizeOf81 rfl rfl rfl) (.cons (.tmp rfl) .nil)) rfl ?_
   have hi2 : i = 2 := by omega
   subst hi2
   rw [Kp.opnK_two hd]
   exact ⟨a, rfl, ⟨hka, hav, by rw [(Kp.opnK_cp cl p 2).1]; exact hcs⟩, rfl, hl1⟩

end Go.GW
