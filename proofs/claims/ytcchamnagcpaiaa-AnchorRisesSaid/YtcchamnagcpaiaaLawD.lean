/- deedboxlaw14.AnchorDoes returns true, whatever acts it is given. -/
import Derived.Test.YtcchamnagcpaiaaLawP
import Derived.Test.YtcchamnagcpaiaaLawO
import Derived.Test.YtcchamnagcpaiaaGwM
namespace Go.GW
open Go Go.Proofs
set_option linter.unusedSimpArgs false
set_option linter.unusedVariables false


/-- a keeper as the program has it and as the reference has it -/
structure KG where
  gk : Nat
  k : Kp
  a : An
  a0 : Sli
  a1 : Sli
  a2 : Sli
  a3 : Sli
  b : An
  A : Option Addr
  c : Nat
  ps : List Sli
structure KG.ok (H : Hp) (q : KG) (m : Int) : Prop where
  o : q.k.ok m
  s : KpS H q.a q.a0 q.a1 q.a2 q.a3 q.k
  r : RKpS H q.b q.A q.c q.ps q.k
theorem KG.ok.mono {H H' : Hp} {q : KG} {m : Int} (h : KG.ok H q m) (hle : HLe H H') : KG.ok H' q m := ⟨h.o, h.s.mono hle, h.r.mono hle⟩
theorem Kp.ok.le {k : Kp} {m m' : Int} (h : k.ok m) (hm : m ≤ m') : k.ok m' := ⟨h.l, h.f0, h.f1, h.s0, by have := h.s1; omega, h.w0, by have := h.w1; omega⟩
theorem cel0_lim (i : Int) : (cel0.get i).length ≤ 1024 := by
  unfold Cel.get
  split
  · decide
  · split
    · decide
    · split <;> decide
theorem Kp.fuse_ok {k : Kp} {m : Int} (h : k.ok m) {n : Int} (hn : n ≤ 9223372036854775807) (d : Bool) : (Kp.mk k.c (k.p.setFuse n d) k.last k.has).ok m :=
  ⟨h.l, by show -1 ≤ max n (-1); omega, by show max n (-1) ≤ 9223372036854775807; omega, h.s0, h.s1, h.w0, h.w1⟩
theorem Kp.back_ok {k : Kp} {m : Int} (h : k.ok m) : (Kp.opn k.c k.p.back).1.ok m := Kp.opn_ok ⟨.inl ⟨rfl, rfl⟩, by show (-1 : Int) ≤ -1; decide, by show (-1 : Int) ≤ 9223372036854775807; decide, h.s0, h.s1, h.w0, h.w1⟩
theorem back_code (c : Cel) (p : Pow) : (Kp.opn c p.back).2 = 0 := rfl
theorem limS {H : Hp} {A : Option Addr} {c : Nat} {ps : List Sli} {cl : Cel} {a0 a1 a2 a3 : Sli} (h : CelS H a0 a1 a2 a3 cl) (_ : RCelS H A c ps cl) : ∀ i, (cl.get i).length ≤ 1024 := get_lim h
def q0 (gk : Nat) (a b : An) (A : Option Addr) (c : Nat) (ps : List Sli) : KG := ⟨gk, wK0, a, ⟨none, 0, 0, []⟩, ⟨none, 0, 0, []⟩, ⟨none, 0, 0, []⟩, ⟨none, 0, 0, []⟩, b, A, c, ps⟩
theorem wK0_p : wK0.p = pow0 := rfl

structure KH where
  gk : Nat
  k : Kp
  a : An
  a0 : Sli
  a1 : Sli
  a2 : Sli
  a3 : Sli
structure KH.ok (H : Hp) (q : KH) (m : Int) : Prop where
  o : q.k.ok m
  s : KpS H q.a q.a0 q.a1 q.a2 q.a3 q.k
theorem KH.ok.mono {H H' : Hp} {q : KH} {m : Int} (h : KH.ok H q m) (hle : HLe H H') : KH.ok H' q m := ⟨h.o, h.s.mono hle⟩
theorem KpS.fuse {H : Hp} {a : An} {a0 a1 a2 a3 : Sli} {k : Kp} (h : KpS H a a0 a1 a2 a3 k) (p : Pow) : KpS H a a0 a1 a2 a3 (Kp.mk k.c p k.last k.has) := ⟨h.an, h.av, h.cs⟩
theorem seq_v {a : An} {x : Anc} (h : a.v = x) : a.seq = x.seq := congrArg Anc.seq h
theorem epo_v {a : An} {x : Anc} (h : a.v = x) : a.epoch = x.epoch := congrArg Anc.epoch h
def xSeq (a : An) (s : Int) : An := ⟨s, a.epoch, a.given_, a.root, a.rep, a.pending, a.m, a.A, a.n, a.c, a.ks⟩
theorem xSeq_ok {H : Hp} {a : An} (h : An.ok H a) (s : Int) : An.ok H (xSeq a s) := h.cong rfl rfl rfl rfl rfl
theorem xSeq_v {a : An} {s t : Int} (h : s = t) : (xSeq a s).v = { a.v with seq := t } := by subst h; rfl

theorem Does_hc {H : Hp} {Al : Option Addr} {nl cl : Nat} {os : List Act14} (hos : OS H Al nl cl os) :
  HC Try.prog 5 [.sl Al nl cl] [] H (fun r S' H' => r = .b true ∧ S' = [] ∧ HLe H H') := by
 refine hc_intro (n := 218) Try.func5 rfl Try.ntmps5 rfl (fun B hB => ?_)
 refine ew_cut (e' := [(0, _)]) [0] rfl ?_
 refine ew_seq ?_
 refine rg (.q 0 XT.done) (by kernel_rfl) (by kernel_rfl) ?_
 refine q_as (sv := .b false) rfl rfl rfl ?_
 refine x_end ?_
 refine nk_cut (e' := [(0, _), (2, _)]) [0, 2] rfl ?_
 refine nk_seq ?_
 refine ew_seq ?_
 refine ew_seq ?_
 refine rg (.q 0 (.q 1 (.q 2 XT.done))) (by kernel_rfl) (by kernel_rfl) ?_
 refine q_mv rfl rfl rfl ?_
 refine q_len Try.underlying70 rfl rfl rfl ?_
 refine q_gt rfl rfl rfl rfl ?_
 refine x_end ?_
 refine nk_cut (e' := [(0, _), (2, _), (24, _)]) [0, 2, 24] rfl ?_
 refine nk_seq ?_
 refine ew_cond rfl ?_ ?_
 ·intro hc24
  try simp only [decide_eq_true_eq] at hc24
  refine ew_seq ?_
  refine rg (.h 0 (.q 1 XT.done)) (by kernel_rfl) (by kernel_rfl) ?_
  refine h_call0 Try.call30 rfl rfl rfl (Works_hc) ?_
  rintro r_ S_ Hn1 hl1 ⟨rfl, rfl, hle1⟩
  replace hos := hos.mono hl1
  refine ⟨kp0, ?_⟩
  refine x_S (S' := []) rfl ?_
  refine q_as rfl rfl rfl ?_
  refine x_end ?_
  refine nk_cut (e' := [(0, _), (2, _), (24, _)]) [0, 2, 24] rfl ?_
  refine nk_seq ?_
  refine ew_retS rfl rfl (.cons (.tmp rfl) .nil) ?_
  exact ⟨rfl, rfl, hl1⟩
 ·intro hc24
  try simp only [decide_eq_false_iff_not] at hc24
  refine ew_skip ?_
  refine nk_seq ?_
  refine ew_seq ?_
  refine rg (.h 0 (.q 1 XT.done)) (by kernel_rfl) (by kernel_rfl) ?_
  refine h_call0 Try.call14 rfl rfl rfl (PowNew_hc) ?_
  rintro r_ S_ H hl2 ⟨gp1, rfl, rfl, rfl⟩
  refine ⟨kp0, ?_⟩
  refine x_S (S' := [_]) rfl ?_
  refine q_as rfl rfl rfl ?_
  refine x_end ?_
  refine nk_cut (e' := [(0, _), (2, _), (3, _), (24, _)]) [0, 2, 3, 24] rfl ?_
  refine nk_seq ?_
  refine ew_seq ?_
  refine rg (.q 0 (.h 1 (.q 2 (.q 3 (.q 4 (.q 5 (.q 6 XT.done))))))) (by kernel_rfl) (by kernel_rfl) ?_
  refine q_mv rfl rfl rfl ?_
  refine h_call0 Try.call40 rfl rfl rfl (CelNew_hc) ?_
  rintro r_ S_ H hl3 ⟨gc1, rfl, rfl, rfl⟩
  refine ⟨kp0, ?_⟩
  refine x_S (S' := [_, _]) rfl ?_
  have hcs0 : CelS H ⟨none, 0, 0, []⟩ ⟨none, 0, 0, []⟩ ⟨none, 0, 0, []⟩ ⟨none, 0, 0, []⟩ cel0 := cel0_ok
  refine q_mv rfl rfl rfl ?_
  refine q_ext rfl rfl rfl rfl ?_
  refine q_ext rfl rfl rfl rfl ?_
  refine q_as rfl rfl rfl ?_
  refine q_as rfl rfl rfl ?_
  refine x_end ?_
  refine nk_cut (e' := [(0, _), (2, _), (3, _), (4, _), (5, _), (24, _)]) [0, 2, 3, 4, 5, 24] rfl ?_
  refine nk_seq ?_
  refine ew_seq ?_
  refine ew_seq ?_
  refine rg (.q 0 (.q 1 (.q 2 (.q 3 (.q 4 (.q 5 (.q 6 (.q 7 (.q 8 (.q 9 XT.done)))))))))) (by kernel_rfl) (by kernel_rfl) ?_
  refine q_mv rfl rfl rfl ?_
  refine q_ne rfl rfl rfl rfl ?_
  refine x_F (by simp) ?_
  refine q_mv rfl rfl rfl ?_
  refine q_mv rfl rfl rfl ?_
  refine q_eq_pn Try.underlying71 rfl rfl rfl rfl ?_
  refine q_pkF rfl rfl rfl rfl ?_
  refine q_mv rfl rfl rfl ?_
  refine q_mv rfl rfl rfl ?_
  refine q_eq_pn Try.underlying29 rfl rfl rfl rfl ?_
  refine q_pkF rfl rfl rfl rfl ?_
  refine x_end ?_
  refine nk_cut (e' := [(0, _), (2, _), (3, _), (4, _), (5, _), (24, _), (41, _)]) [0, 2, 3, 4, 5, 24, 41] rfl ?_
  refine nk_seq ?_
  refine ew_false rfl ?_
  refine ew_skip ?_
  refine nk_seq ?_
  refine ew_seq ?_
  refine rg (.q 0 (.h 1 (.q 2 (.q 3 (.q 4 (.q 5 (.q 6 XT.done))))))) (by kernel_rfl) (by kernel_rfl) ?_
  refine q_mv rfl rfl rfl ?_
  have hca := KOpen_hc (gc := gc1) (gp := gp1) hcs0 (p := pow0) rfl
  rw [w0eq] at hca
  refine h_call Try.call41 (S2 := []) rfl rfl rfl (List.Perm.refl _) (hca) ?_
  rintro r_ S_ Hn2 hl4 ⟨gk1, an1, rfl, rfl, hks1, hle2⟩
  replace hos := hos.mono hl4
  replace hcs0 := hcs0.mono hl4
  refine ⟨kp0, ?_⟩
  refine x_S (S' := [_, _, _]) rfl ?_
  refine q_mv rfl rfl rfl ?_
  refine q_ext rfl rfl rfl rfl ?_
  refine q_ext rfl rfl rfl rfl ?_
  refine q_as rfl rfl rfl ?_
  refine q_as rfl rfl rfl ?_
  refine x_end ?_
  refine nk_cut (e' := [(0, _), (2, _), (3, _), (4, _), (5, _), (6, _), (24, _), (41, _)]) [0, 2, 3, 4, 5, 6, 24, 41] rfl ?_
  refine nk_seq ?_
  refine ew_seq ?_
  refine rg (.h 0 (.h 1 (.h 2 (.q 3 (.q 4 (.q 5 (.h 6 (.h 7 (.q 8 XT.done))))))))) (by kernel_rfl) (by kernel_rfl) ?_
  refine h_call0 Try.call17 rfl rfl rfl (RPowNew_hc) ?_
  rintro r_ S_ Hn2 hl5 ⟨rfl, rfl, rfl⟩
  refine ⟨kp0, ?_⟩
  refine x_S (S' := [_, _, _]) rfl ?_
  refine h_call0 Try.call43 rfl rfl rfl (RCelNew_hc (p := pow0)) ?_
  rintro r_ S_ Hn3 hl6 ⟨A1, c1, ps1, rfl, hrc1, rfl, hle3⟩
  replace hos := hos.mono hl6
  replace hcs0 := hcs0.mono hl6
  replace hks1 := hks1.mono hl6
  refine ⟨kp0, ?_⟩
  refine x_S (S' := [_, _, _]) rfl ?_
  have hcr := RKOpen_hc (p := pow0) hrc1 cel0_lim
  rw [w0eq] at hcr
  refine h_call0 Try.call42 rfl rfl rfl (hcr) ?_
  rintro r_ S_ Hn4 hl7 ⟨an2, rfl, hrk1, rfl, hle4⟩
  replace hos := hos.mono hl7
  replace hcs0 := hcs0.mono hl7
  replace hks1 := hks1.mono hl7
  replace hrc1 := hrc1.mono hl7
  refine ⟨kp0, ?_⟩
  refine x_S (S' := [_, _, _]) rfl ?_
  refine q_mv rfl rfl rfl ?_
  refine q_ext rfl rfl rfl rfl ?_
  refine q_ext rfl rfl rfl rfl ?_
  refine h_alloc (cs := [_, _, _, _, _, _, _, _, _, _, _, _, _, _, _]) Try.zeroValue81 rfl rfl (zc_81 Try.zeroValue81) ?_
  intro g1
  refine ⟨kp0, ?_⟩
  refine h_stS (cs' := [_, _, _, _, _, _, _, _, _, _, _, _, _, _, _]) (S' := [_, _, _, _]) 0 Try.sizeOf81 rfl rfl rfl rfl rfl (allOne rfl) rfl (leb rfl) rfl rfl kp0 ?_
  refine q_as rfl rfl rfl ?_
  refine x_end ?_
  refine nk_cut (e' := [(0, _), (2, _), (3, _), (4, _), (5, _), (6, _), (7, _), (24, _), (41, _)]) [0, 2, 3, 4, 5, 6, 7, 24, 41] rfl ?_
  refine nk_seq ?_
  refine ew_seq ?_
  refine ew_seq ?_
  refine rg (.q 0 (.q 1 (.q 2 (.q 3 (.q 4 (.q 5 XT.done)))))) (by kernel_rfl) (by kernel_rfl) ?_
  refine q_mv rfl rfl rfl ?_
  refine q_ne rfl rfl rfl rfl ?_
  refine x_F (by simp) ?_
  refine q_mv rfl rfl rfl ?_
  refine q_mv rfl rfl rfl ?_
  refine q_eq_pn Try.underlying74 rfl rfl rfl rfl ?_
  refine q_pkF rfl rfl rfl rfl ?_
  refine x_end ?_
  refine nk_cut (e' := [(0, _), (2, _), (3, _), (4, _), (5, _), (6, _), (7, _), (24, _), (41, _), (58, _)]) [0, 2, 3, 4, 5, 6, 7, 24, 41, 58] rfl ?_
  refine nk_seq ?_
  refine ew_false rfl ?_
  refine ew_skip ?_
  refine nk_seq ?_
  refine ew_seq ?_
  refine ew_seq ?_
  refine rg (.q 0 XT.done) (by kernel_rfl) (by kernel_rfl) ?_
  refine q_as (sv := .i 0) rfl rfl rfl ?_
  refine x_end ?_
  refine nk_cut (e' := [(0, _), (2, _), (3, _), (4, _), (5, _), (6, _), (7, _), (9, _), (24, _), (41, _), (58, _)]) [0, 2, 3, 4, 5, 6, 7, 9, 24, 41, 58] rfl ?_
  refine nk_seq ?_
  refine ew_block ?_
  refine ew_perm (S' := [_, _, _, _]) (permL [1, 2, 3, 0] rfl) ?_
  let Ev1 : Nat × KG → Env := fun ⟨i, q⟩ => [(9, .i (i : Int)), (6, .p ⟨q.gk, 0, none⟩)]
  let Sv1 : Nat × KG → Res := fun ⟨i, q⟩ => [.box q.gk 175 (kpCells gc1 q.a q.k.has), .box gc1 173 (celCells gp1 q.a0 q.a1 q.a2 q.a3 q.k.c.writes), .box gp1 127 q.k.p.cells, .box g1 81 (rkpCells q.k.p q.A q.c q.k.c.writes q.b q.k.has)]
  let Gv1 : Nat × KG → Hp → Prop := fun ⟨i, q⟩ H' => HLe Hn4 H' ∧ (i ≤ nl ∧ KG.ok H' q i)
  let Mv1 : Nat × KG → Nat := fun ⟨i, q⟩ => nl - i
  refine ew_loop (mkE [(0, _), (2, _), (3, _), (4, _), (7, _), (24, _), (41, _), (58, _)] Ev1) (Sv1) Gv1 Mv1 (⟨0, q0 _ an1 an2 A1 c1 ps1⟩ : Nat × KG) ⟨rfl, rfl, rfl, rfl, rfl, rfl, rfl, rfl, rfl, rfl, trivial⟩ rfl ⟨HLe.refl _, ⟨by omega, ⟨wK0_ok, hks1, hrk1⟩⟩⟩ ?_
  rintro ⟨i, q⟩ Hl1 ⟨hl8, hG⟩
  replace hos := hos.mono hl8
  replace hcs0 := hcs0.mono hl8
  replace hks1 := hks1.mono hl8
  replace hrc1 := hrc1.mono hl8
  replace hrk1 := hrk1.mono hl8
  obtain ⟨hi, hq⟩ := hG
  refine ew_S (S' := [.box _ _ [_, _, _, _, _, _, _, _, _, _], .box _ _ [_, _, _, _, _, _], .box _ _ [_, _, _, _], .box _ _ [_, _, _, _, _, _, _, _, _, _, _, _, _, _, _]]) rfl ?_
  refine ew_S (S' := [_, _, _, _]) rfl ?_
  refine ew_cut (e' := [(9, _), (6, _), (0, _), (2, _), (3, _), (4, _), (7, _), (24, _), (41, _), (58, _)]) [9, 6, 0, 2, 3, 4, 7, 24, 41, 58] rfl ?_
  refine ew_seq ?_
  refine ew_seq ?_
  refine rg (.q 0 (.q 1 (.q 2 (.q 3 XT.done)))) (by kernel_rfl) (by kernel_rfl) ?_
  refine q_mv rfl rfl rfl ?_
  refine q_mv rfl rfl rfl ?_
  refine q_len Try.underlying70 rfl rfl rfl ?_
  refine q_lt rfl rfl rfl rfl ?_
  refine x_end ?_
  refine nk_cut (e' := [(0, _), (2, _), (3, _), (4, _), (6, _), (7, _), (9, _), (24, _), (41, _), (58, _), (62, _)]) [0, 2, 3, 4, 6, 7, 9, 24, 41, 58, 62] rfl ?_
  refine nk_seq ?_
  refine ew_cond rfl ?_ ?_
  ·intro hc62
   try simp only [decide_eq_true_eq] at hc62
   have hg := hos.get (j := i) (by omega)
   have hra := hos.at_ (j := i) (by omega)
   have hnum := hos.num_ (j := i) (by omega)
   generalize os.getD i default = o at hg hra hnum
   refine ew_skip ?_
   refine nk_seq ?_
   refine ew_seq ?_
   refine ew_block ?_
   refine ew_seq ?_
   refine rg (.q 0 (.q 1 (.q 2 (.q 3 (.h 4 (.h 5 XT.done)))))) (by kernel_rfl) (by kernel_rfl) ?_
   refine q_mv rfl rfl rfl ?_
   refine q_mv rfl rfl rfl ?_
   refine q_ixs Try.underlying70 Try.sizeOf86 rfl rfl rfl rfl rfl (hos.ne (by omega)) (by omega) (by omega) ?_
   refine q_ldSr Try.isAgg86 Try.sizeOf86 rfl rfl rfl (hg) rfl ?_
   refine x_v (v' := .agg [_, _, _, _, _, _, _, _, _, _, _, _, _, _]) rfl ?_
   refine h_alloc (cs := [_, _, _, _, _, _, _, _, _, _, _, _, _, _]) Try.zeroValue86 rfl rfl (zc_86 Try.zeroValue86) ?_
   intro g2
   refine ⟨kp0, ?_⟩
   refine h_stS (cs' := [_, _, _, _, _, _, _, _, _, _, _, _, _, _]) (S' := [_, _, _, _, _]) 0 Try.sizeOf86 rfl rfl rfl rfl rfl (allOne rfl) rfl (leb rfl) rfl rfl kp0 ?_
   refine x_end ?_
   refine nk_cut (e' := [(0, _), (2, _), (3, _), (4, _), (6, _), (7, _), (9, _), (10, _), (24, _), (41, _), (58, _), (62, _)]) [0, 2, 3, 4, 6, 7, 9, 10, 24, 41, 58, 62] rfl ?_
   refine nk_seq ?_
   refine ew_seq ?_
   refine ew_seq ?_
   refine rg (.q 0 (.q 1 (.h 2 (.q 3 XT.done)))) (by kernel_rfl) (by kernel_rfl) ?_
   refine q_fa fa_86_1 rfl rfl rfl ?_
   refine q_ldSp (cs' := [_, _, _, _, _, _, _, _]) 0 Try.isAgg60 Try.sizeOf60 rfl rfl rfl rfl rfl (leb rfl) ?_
   refine h_call0 Try.call29 rfl rfl rfl (Light_hc hra) ?_
   rintro r_ S_ Hl1 hl9 ⟨rfl, rfl, rfl⟩
   refine ⟨kp0, ?_⟩
   refine x_S (S' := [_, _, _, _, _]) rfl ?_
   refine q_not rfl rfl rfl ?_
   refine x_end ?_
   refine nk_cut (e' := [(0, _), (2, _), (3, _), (4, _), (6, _), (7, _), (9, _), (10, _), (24, _), (41, _), (58, _), (62, _), (72, _)]) [0, 2, 3, 4, 6, 7, 9, 10, 24, 41, 58, 62, 72] rfl ?_
   refine nk_seq ?_
   refine ew_cond rfl ?_ ?_
   ·intro hc72
    try simp only [Bool.not_eq_true', Bool.not_eq_false', decide_eq_true_eq, decide_eq_false_iff_not, ne_eq, Decidable.not_not] at hc72
    refine ew_seq ?_
    refine rg (.h 0 (.q 1 XT.done)) (by kernel_rfl) (by kernel_rfl) ?_
    refine h_call0 Try.call30 rfl rfl rfl (Works_hc) ?_
    rintro r_ S_ Hn5 hl10 ⟨rfl, rfl, hle5⟩
    replace hos := hos.mono hl10
    replace hq := hq.mono hl10
    refine ⟨kp0, ?_⟩
    refine x_S (S' := [_, _, _, _, _]) rfl ?_
    refine q_as rfl rfl rfl ?_
    refine x_end ?_
    refine nk_cut (e' := [(0, _), (2, _), (3, _), (4, _), (6, _), (7, _), (9, _), (10, _), (24, _), (41, _), (58, _), (62, _), (72, _)]) [0, 2, 3, 4, 6, 7, 9, 10, 24, 41, 58, 62, 72] rfl ?_
    refine nk_seq ?_
    refine ew_retS rfl rfl (.cons (.tmp rfl) .nil) ?_
    exact ⟨rfl, rfl, ((((hl4.trans hl6).trans hl7).trans hl8).trans hl10)⟩
   ·intro hc72
    try simp only [Bool.not_eq_true', Bool.not_eq_false', decide_eq_true_eq, decide_eq_false_iff_not, ne_eq, Decidable.not_not] at hc72
    have hao : An.ok Hl1 o.a := hra.lt hc72
    refine ew_skip ?_
    refine nk_seq ?_
    refine ew_seq ?_
    refine rg (.q 0 XT.done) (by kernel_rfl) (by kernel_rfl) ?_
    refine q_as (sv := .i 0) rfl rfl rfl ?_
    refine x_end ?_
    refine nk_cut (e' := [(0, _), (2, _), (3, _), (4, _), (6, _), (7, _), (9, _), (10, _), (11, _), (24, _), (41, _), (58, _), (62, _), (72, _)]) [0, 2, 3, 4, 6, 7, 9, 10, 11, 24, 41, 58, 62, 72] rfl ?_
    refine nk_seq ?_
    refine ew_seq ?_
    refine rg (.q 0 XT.done) (by kernel_rfl) (by kernel_rfl) ?_
    refine q_as (sv := .b true) rfl rfl rfl ?_
    refine x_end ?_
    refine nk_cut (e' := [(0, _), (2, _), (3, _), (4, _), (6, _), (7, _), (9, _), (10, _), (11, _), (12, _), (24, _), (41, _), (58, _), (62, _), (72, _)]) [0, 2, 3, 4, 6, 7, 9, 10, 11, 12, 24, 41, 58, 62, 72] rfl ?_
    refine nk_seq ?_
    refine ew_seq ?_
    refine ew_seq ?_
    refine rg (.q 0 (.q 1 XT.done)) (by kernel_rfl) (by kernel_rfl) ?_
    refine q_fa fa_86_0 rfl rfl rfl ?_
    refine q_ld 0 Try.isAgg3 rfl rfl rfl rfl rfl ?_
    refine x_end ?_
    refine nk_cut (e' := [(0, _), (2, _), (3, _), (4, _), (6, _), (7, _), (9, _), (10, _), (11, _), (12, _), (24, _), (41, _), (58, _), (62, _), (72, _), (75, _)]) [0, 2, 3, 4, 6, 7, 9, 10, 11, 12, 24, 41, 58, 62, 72, 75] rfl ?_
    refine nk_seq ?_
    refine ew_joinC (Cn := [(0, _), (2, _), (3, _), (4, _), (7, _), (9, _), (24, _), (41, _), (58, _), (62, _), (72, _), (75, _)]) (fun (q2 : KG) => [(6, .p ⟨q2.gk, 0, none⟩), (12, .b true)]) (fun q2 => [.box q2.gk 175 (kpCells gc1 q2.a q2.k.has), .box gc1 173 (celCells gp1 q2.a0 q2.a1 q2.a2 q2.a3 q2.k.c.writes), .box gp1 127 q2.k.p.cells, .box g1 81 (rkpCells q2.k.p q2.A q2.c q2.k.c.writes q2.b q2.k.has)]) (fun q2 H' => HLe Hl1 H' ∧ (KG.ok H' q2 (i + 1))) ⟨rfl, rfl, rfl, rfl, rfl, rfl, rfl, rfl, rfl, rfl, rfl, rfl, trivial⟩ ?_ ?_
    ·skip
     refine ew_block ?_
     refine ew_seq ?_
     refine rg (.q 0 (.q 1 XT.done)) (by kernel_rfl) (by kernel_rfl) ?_
     refine q_eq rfl rfl rfl rfl ?_
     refine q_as rfl rfl rfl ?_
     refine x_end ?_
     refine nk_cut (e' := [(0, _), (2, _), (3, _), (4, _), (6, _), (7, _), (9, _), (10, _), (11, _), (12, _), (24, _), (41, _), (58, _), (62, _), (72, _), (75, _), (76, _)]) [0, 2, 3, 4, 6, 7, 9, 10, 11, 12, 24, 41, 58, 62, 72, 75, 76] rfl ?_
     refine nk_seq ?_
     refine ew_cond rfl ?_ ?_
     ·intro hc76
      try simp only [decide_eq_true_eq] at hc76
      refine ew_seq ?_
      refine rg (.q 0 (.q 1 (.q 2 (.h 3 (.q 4 (.q 5 (.q 6 (.h 7 (.q 8 XT.done))))))))) (by kernel_rfl) (by kernel_rfl) ?_
      refine q_ldS 4 Try.isAgg81 Try.sizeOf81 rfl rfl rfl rfl rfl ?_
      refine q_fa fa_86_1 rfl rfl rfl ?_
      refine q_ldSp (cs' := [_, _, _, _, _, _, _, _]) 0 Try.isAgg60 Try.sizeOf60 rfl rfl rfl rfl rfl (leb rfl) ?_
      have hrr := hq.r
      have hca := RKSave_hc hq.o (by omega) hrr hao
      refine h_call0 Try.call44 rfl rfl rfl (hca) ?_
      rintro r_ S_ Hn6 hl11 ⟨an3, A2, c2, ps2, rfl, hks2, rfl, hle6⟩
      replace hos := hos.mono hl11
      replace hq := hq.mono hl11
      replace hao := hao.mono hl11
      refine ⟨kp0, ?_⟩
      refine x_S (S' := [_, _, _, _, _]) rfl ?_
      refine q_mv rfl rfl rfl ?_
      refine q_ext rfl rfl rfl rfl ?_
      refine q_ext rfl rfl rfl rfl ?_
      refine h_stS (cs' := [_, _, _, _, _, _, _, _, _, _, _, _, _, _, _]) (S' := [_, _, _, _, _]) 4 Try.sizeOf81 rfl rfl rfl rfl rfl (allOne rfl) rfl (leb rfl) rfl rfl kp0 ?_
      refine q_as rfl rfl rfl ?_
      refine x_end ?_
      refine nk_cut (e' := [(0, _), (2, _), (3, _), (4, _), (6, _), (7, _), (9, _), (10, _), (11, _), (12, _), (24, _), (41, _), (58, _), (62, _), (72, _), (75, _), (76, _)]) [0, 2, 3, 4, 6, 7, 9, 10, 11, 12, 24, 41, 58, 62, 72, 75, 76] rfl ?_
      refine nk_seq ?_
      refine rg (.q 0 (.q 1 (.q 2 (.h 3 (.q 4 (.q 5 (.q 6 XT.done))))))) (by kernel_rfl) (by kernel_rfl) ?_
      refine q_mv rfl rfl rfl ?_
      refine q_fa fa_86_1 rfl rfl rfl ?_
      refine q_ldSp (cs' := [_, _, _, _, _, _, _, _]) 0 Try.isAgg60 Try.sizeOf60 rfl rfl rfl rfl rfl (leb rfl) ?_
      have hss := hq.s
      have hcb := KSave_hc (gk := q.gk) (gc := gc1) (gp := gp1) hq.o (by omega) hss hao
      refine h_call Try.call45 (S2 := [_, _]) rfl rfl rfl (permL [1, 2, 3, 0, 4] rfl) (hcb) ?_
      rintro r_ S_ Hn7 hl12 ⟨an4, b1, b2, b3, b4, rfl, rfl, hks3, hle7⟩
      replace hos := hos.mono hl12
      replace hq := hq.mono hl12
      replace hao := hao.mono hl12
      replace hks2 := hks2.mono hl12
      refine ⟨kp0, ?_⟩
      refine x_S (S' := [_, _, _, _, _]) rfl ?_
      refine q_mv rfl rfl rfl ?_
      refine q_eq rfl rfl rfl rfl ?_
      refine x_T (by simp) ?_
      refine q_as rfl rfl rfl ?_
      refine x_end ?_
      refine nk_cut (e' := [(0, _), (2, _), (3, _), (4, _), (6, _), (7, _), (9, _), (10, _), (11, _), (12, _), (24, _), (41, _), (58, _), (62, _), (72, _), (75, _), (76, _)]) [0, 2, 3, 4, 6, 7, 9, 10, 11, 12, 24, 41, 58, 62, 72, 75, 76] rfl ?_
      refine nk_blk ?_
      refine nk_perm (S' := [_, _, _, _, _]) (permL [0, 1, 2, 4, 3] rfl) ?_
      refine nk_drop (S := [_, _, _, _]) (S' := [_]) ?_
      refine nk_join ((⟨q.gk, (q.k.save o.a.v).1, an4, b1, b2, b3, b4, an3, A2, c2, ps2⟩ : KG) : KG) ⟨rfl, rfl, rfl, rfl, rfl, rfl, rfl, rfl, rfl, rfl, rfl, rfl, rfl, rfl, trivial⟩ rfl ⟨(hl11.trans hl12), ⟨Kp.save_ok hq.o _, hks3, hks2⟩⟩
     ·intro hc76
      try simp only [decide_eq_false_iff_not] at hc76
      refine ew_seq ?_
      refine rg (.q 0 (.q 1 XT.done)) (by kernel_rfl) (by kernel_rfl) ?_
      refine q_eq rfl rfl rfl rfl ?_
      refine q_as rfl rfl rfl ?_
      refine x_end ?_
      refine nk_cut (e' := [(0, _), (2, _), (3, _), (4, _), (6, _), (7, _), (9, _), (10, _), (11, _), (12, _), (24, _), (41, _), (58, _), (62, _), (72, _), (75, _), (76, _), (91, _)]) [0, 2, 3, 4, 6, 7, 9, 10, 11, 12, 24, 41, 58, 62, 72, 75, 76, 91] rfl ?_
      refine nk_seq ?_
      refine ew_cond rfl ?_ ?_
      ·intro hc91
       try simp only [decide_eq_true_eq] at hc91
       refine ew_seq ?_
       refine rg (.q 0 (.h 1 (.q 2 (.q 3 (.q 4 (.q 5 (.h 6 (.h 7 (.q 8 (.q 9 XT.done)))))))))) (by kernel_rfl) (by kernel_rfl) ?_
       refine q_ldS 4 Try.isAgg81 Try.sizeOf81 rfl rfl rfl rfl rfl ?_
       have hrr := hq.r
       have hca := RKGive_hc hq.o (by omega) hrr 
       refine h_call0 Try.call46 rfl rfl rfl (hca) ?_
       rintro r_ S_ Hn8 hl13 ⟨an5, A3, c3, ps3, rfl, hks4, rfl, hle8⟩
       replace hos := hos.mono hl13
       replace hq := hq.mono hl13
       replace hao := hao.mono hl13
       refine ⟨kp0, ?_⟩
       refine x_S (S' := [_, _, _, _, _]) rfl ?_
       refine q_mv rfl rfl rfl ?_
       iterate 3 refine q_ext rfl rfl rfl rfl ?_
       refine h_alloc (cs := [_, _, _, _, _, _, _, _, _, _, _, _, _, _, _]) Try.zeroValue81 rfl rfl (zc_81 Try.zeroValue81) ?_
       intro g3
       refine ⟨kp0, ?_⟩
       refine h_stS (cs' := [_, _, _, _, _, _, _, _, _, _, _, _, _, _, _]) (S' := [_, _, _, _, _, _]) 0 Try.sizeOf81 rfl rfl rfl rfl rfl (allOne rfl) rfl (leb rfl) rfl rfl kp0 ?_
       refine q_as rfl rfl rfl ?_
       refine q_as rfl rfl rfl ?_
       refine x_end ?_
       refine nk_cut (e' := [(0, _), (2, _), (3, _), (4, _), (6, _), (7, _), (9, _), (10, _), (11, _), (12, _), (13, _), (14, _), (15, _), (24, _), (41, _), (58, _), (62, _), (72, _), (75, _), (76, _), (91, _)]) [0, 2, 3, 4, 6, 7, 9, 10, 11, 12, 13, 14, 15, 24, 41, 58, 62, 72, 75, 76, 91] rfl ?_
       refine nk_seq ?_
       refine ew_seq ?_
       refine rg (.q 0 (.h 1 XT.done)) (by kernel_rfl) (by kernel_rfl) ?_
       refine q_ldS 0 Try.isAgg81 Try.sizeOf81 rfl rfl rfl rfl rfl ?_
       refine h_stS (cs' := [_, _, _, _, _, _, _, _, _, _, _, _, _, _, _]) (S' := [_, _, _, _, _, _]) 5 Try.sizeOf81 rfl rfl rfl rfl rfl (allOne rfl) rfl (leb rfl) rfl rfl kp0 ?_
       refine x_end ?_
       refine nk_cut (e' := [(0, _), (2, _), (3, _), (4, _), (6, _), (7, _), (9, _), (10, _), (11, _), (12, _), (13, _), (14, _), (15, _), (24, _), (41, _), (58, _), (62, _), (72, _), (75, _), (76, _), (91, _)]) [0, 2, 3, 4, 6, 7, 9, 10, 11, 12, 13, 14, 15, 24, 41, 58, 62, 72, 75, 76, 91] rfl ?_
       refine nk_seq ?_
       refine ew_seq ?_
       refine rg (.q 0 (.h 1 (.q 2 (.q 3 (.q 4 (.q 5 (.q 6 XT.done))))))) (by kernel_rfl) (by kernel_rfl) ?_
       refine q_mv rfl rfl rfl ?_
       have hss := hq.s
       have hcb := KGive_hc (gk := q.gk) (gc := gc1) (gp := gp1) hq.o (by omega) hss 
       refine h_call Try.call47 (S2 := [_, _, _]) rfl rfl rfl (permL [2, 3, 4, 0, 1, 5] rfl) (hcb) ?_
       rintro r_ S_ Hn9 hl14 ⟨an6, b5, b6, b7, b8, rfl, rfl, hks5, hle9⟩
       replace hos := hos.mono hl14
       replace hq := hq.mono hl14
       replace hao := hao.mono hl14
       replace hks4 := hks4.mono hl14
       refine ⟨kp0, ?_⟩
       refine x_S (S' := [_, _, _, _, _, _]) rfl ?_
       refine q_mv rfl rfl rfl ?_
       refine q_ext rfl rfl rfl rfl ?_
       refine q_ext rfl rfl rfl rfl ?_
       refine q_as rfl rfl rfl ?_
       refine q_as rfl rfl rfl ?_
       refine x_end ?_
       refine nk_cut (e' := [(0, _), (2, _), (3, _), (4, _), (6, _), (7, _), (9, _), (10, _), (11, _), (12, _), (13, _), (14, _), (15, _), (16, _), (17, _), (24, _), (41, _), (58, _), (62, _), (72, _), (75, _), (76, _), (91, _)]) [0, 2, 3, 4, 6, 7, 9, 10, 11, 12, 13, 14, 15, 16, 17, 24, 41, 58, 62, 72, 75, 76, 91] rfl ?_
       refine nk_seq ?_
       refine rg (.q 0 (.q 1 (.q 2 (.q 3 (.q 4 (.q 5 (.q 6 (.q 7 (.q 8 XT.done))))))))) (by kernel_rfl) (by kernel_rfl) ?_
       refine q_mv rfl rfl rfl ?_
       refine q_mv rfl rfl rfl ?_
       refine q_eq rfl rfl rfl rfl ?_
       refine x_T (by simp) ?_
       iterate 3 refine q_mv rfl rfl rfl ?_
       refine q_eq rfl rfl rfl rfl ?_
       refine x_T (by simp) ?_
       refine q_pkT rfl rfl rfl rfl ?_
       refine q_as rfl rfl rfl ?_
       refine x_end ?_
       refine nk_cut (e' := [(0, _), (2, _), (3, _), (4, _), (6, _), (7, _), (9, _), (10, _), (11, _), (12, _), (13, _), (14, _), (15, _), (16, _), (17, _), (24, _), (41, _), (58, _), (62, _), (72, _), (75, _), (76, _), (91, _)]) [0, 2, 3, 4, 6, 7, 9, 10, 11, 12, 13, 14, 15, 16, 17, 24, 41, 58, 62, 72, 75, 76, 91] rfl ?_
       refine nk_blk ?_
       refine nk_perm (S' := [_, _, _, _, _, _]) (permL [0, 1, 2, 5, 3, 4] rfl) ?_
       refine nk_drop (S := [_, _, _, _]) (S' := [_, _]) ?_
       refine nk_join ((⟨q.gk, q.k.give.1, an6, b5, b6, b7, b8, an5, A3, c3, ps3⟩ : KG) : KG) ⟨rfl, rfl, rfl, rfl, rfl, rfl, rfl, rfl, rfl, rfl, rfl, rfl, rfl, rfl, trivial⟩ rfl ⟨(hl13.trans hl14), ⟨Kp.give_ok hq.o, hks5, hks4⟩⟩
      ·intro hc91
       try simp only [decide_eq_false_iff_not] at hc91
       refine ew_seq ?_
       refine rg (.q 0 (.q 1 XT.done)) (by kernel_rfl) (by kernel_rfl) ?_
       refine q_eq rfl rfl rfl rfl ?_
       refine q_as rfl rfl rfl ?_
       refine x_end ?_
       refine nk_cut (e' := [(0, _), (2, _), (3, _), (4, _), (6, _), (7, _), (9, _), (10, _), (11, _), (12, _), (24, _), (41, _), (58, _), (62, _), (72, _), (75, _), (76, _), (91, _), (113, _)]) [0, 2, 3, 4, 6, 7, 9, 10, 11, 12, 24, 41, 58, 62, 72, 75, 76, 91, 113] rfl ?_
       refine nk_seq ?_
       refine ew_cond rfl ?_ ?_
       ·intro hc113
        try simp only [decide_eq_true_eq] at hc113
        refine ew_seq ?_
        refine rg (.q 0 (.q 1 (.q 2 (.q 3 (.q 4 (.q 5 (.q 6 (.h 7 (.q 8 (.q 9 (.q 10 (.h 11 (.q 12 XT.done))))))))))))) (by kernel_rfl) (by kernel_rfl) ?_
        refine q_ldS 4 Try.isAgg81 Try.sizeOf81 rfl rfl rfl rfl rfl ?_
        refine q_fa fa_86_2 rfl rfl rfl ?_
        refine q_ld 0 Try.isAgg3 rfl rfl rfl rfl rfl ?_
        refine q_fa fa_86_3 rfl rfl rfl ?_
        refine q_ld 0 Try.isAgg3 rfl rfl rfl rfl rfl ?_
        refine q_fa fa_86_4 rfl rfl rfl ?_
        refine q_ld 0 Try.isAgg3 rfl rfl rfl rfl rfl ?_
        have hrr := hq.r
        have hca := RKCommit_hc (e := o.e) (rt := o.rt) (pe := o.pe) hq.o (by omega) hrr 
        refine h_call0 Try.call48 rfl rfl rfl (hca) ?_
        rintro r_ S_ Hn10 hl15 ⟨an7, A4, c4, ps4, rfl, hks6, rfl, hle10⟩
        replace hos := hos.mono hl15
        replace hq := hq.mono hl15
        replace hao := hao.mono hl15
        refine ⟨kp0, ?_⟩
        refine x_S (S' := [_, _, _, _, _]) rfl ?_
        refine q_mv rfl rfl rfl ?_
        refine q_ext rfl rfl rfl rfl ?_
        refine q_ext rfl rfl rfl rfl ?_
        refine h_stS (cs' := [_, _, _, _, _, _, _, _, _, _, _, _, _, _, _]) (S' := [_, _, _, _, _]) 4 Try.sizeOf81 rfl rfl rfl rfl rfl (allOne rfl) rfl (leb rfl) rfl rfl kp0 ?_
        refine q_as rfl rfl rfl ?_
        refine x_end ?_
        refine nk_cut (e' := [(0, _), (2, _), (3, _), (4, _), (6, _), (7, _), (9, _), (10, _), (11, _), (12, _), (24, _), (41, _), (58, _), (62, _), (72, _), (75, _), (76, _), (91, _), (113, _)]) [0, 2, 3, 4, 6, 7, 9, 10, 11, 12, 24, 41, 58, 62, 72, 75, 76, 91, 113] rfl ?_
        refine nk_seq ?_
        refine rg (.q 0 (.q 1 (.q 2 (.q 3 (.q 4 (.q 5 (.q 6 (.h 7 (.q 8 (.q 9 (.q 10 XT.done))))))))))) (by kernel_rfl) (by kernel_rfl) ?_
        refine q_mv rfl rfl rfl ?_
        refine q_fa fa_86_2 rfl rfl rfl ?_
        refine q_ld 0 Try.isAgg3 rfl rfl rfl rfl rfl ?_
        refine q_fa fa_86_3 rfl rfl rfl ?_
        refine q_ld 0 Try.isAgg3 rfl rfl rfl rfl rfl ?_
        refine q_fa fa_86_4 rfl rfl rfl ?_
        refine q_ld 0 Try.isAgg3 rfl rfl rfl rfl rfl ?_
        have hss := hq.s
        have hcb := KCommit_hc (e := o.e) (rt := o.rt) (pe := o.pe) (gk := q.gk) (gc := gc1) (gp := gp1) hq.o (by omega) hss 
        refine h_call Try.call49 (S2 := [_, _]) rfl rfl rfl (permL [1, 2, 3, 0, 4] rfl) (hcb) ?_
        rintro r_ S_ Hn11 hl16 ⟨an8, b9, b10, b11, b12, rfl, rfl, hks7, hle11⟩
        replace hos := hos.mono hl16
        replace hq := hq.mono hl16
        replace hao := hao.mono hl16
        replace hks6 := hks6.mono hl16
        refine ⟨kp0, ?_⟩
        refine x_S (S' := [_, _, _, _, _]) rfl ?_
        refine q_mv rfl rfl rfl ?_
        refine q_eq rfl rfl rfl rfl ?_
        refine x_T (by simp) ?_
        refine q_as rfl rfl rfl ?_
        refine x_end ?_
        refine nk_cut (e' := [(0, _), (2, _), (3, _), (4, _), (6, _), (7, _), (9, _), (10, _), (11, _), (12, _), (24, _), (41, _), (58, _), (62, _), (72, _), (75, _), (76, _), (91, _), (113, _)]) [0, 2, 3, 4, 6, 7, 9, 10, 11, 12, 24, 41, 58, 62, 72, 75, 76, 91, 113] rfl ?_
        refine nk_blk ?_
        refine nk_perm (S' := [_, _, _, _, _]) (permL [0, 1, 2, 4, 3] rfl) ?_
        refine nk_drop (S := [_, _, _, _]) (S' := [_]) ?_
        refine nk_join ((⟨q.gk, (q.k.commit o.e o.rt o.pe).1, an8, b9, b10, b11, b12, an7, A4, c4, ps4⟩ : KG) : KG) ⟨rfl, rfl, rfl, rfl, rfl, rfl, rfl, rfl, rfl, rfl, rfl, rfl, rfl, rfl, trivial⟩ rfl ⟨(hl15.trans hl16), ⟨Kp.commit_ok hq.o _ _ _, hks7, hks6⟩⟩
       ·intro hc113
        try simp only [decide_eq_false_iff_not] at hc113
        refine ew_seq ?_
        refine rg (.q 0 (.q 1 XT.done)) (by kernel_rfl) (by kernel_rfl) ?_
        refine q_eq rfl rfl rfl rfl ?_
        refine q_as rfl rfl rfl ?_
        refine x_end ?_
        refine nk_cut (e' := [(0, _), (2, _), (3, _), (4, _), (6, _), (7, _), (9, _), (10, _), (11, _), (12, _), (24, _), (41, _), (58, _), (62, _), (72, _), (75, _), (76, _), (91, _), (113, _), (136, _)]) [0, 2, 3, 4, 6, 7, 9, 10, 11, 12, 24, 41, 58, 62, 72, 75, 76, 91, 113, 136] rfl ?_
        refine nk_seq ?_
        refine ew_cond rfl ?_ ?_
        ·intro hc136
         try simp only [decide_eq_true_eq] at hc136
         refine ew_seq ?_
         refine rg (.q 0 (.h 1 (.q 2 (.q 3 (.q 4 (.h 5 (.q 6 XT.done))))))) (by kernel_rfl) (by kernel_rfl) ?_
         refine q_ldS 4 Try.isAgg81 Try.sizeOf81 rfl rfl rfl rfl rfl ?_
         have hrr := hq.r
         have hca := RKClean_hc hq.o (by omega) hrr 
         refine h_call0 Try.call50 rfl rfl rfl (hca) ?_
         rintro r_ S_ Hn12 hl17 ⟨an9, A5, c5, ps5, rfl, hks8, rfl, hle12⟩
         replace hos := hos.mono hl17
         replace hq := hq.mono hl17
         replace hao := hao.mono hl17
         refine ⟨kp0, ?_⟩
         refine x_S (S' := [_, _, _, _, _]) rfl ?_
         refine q_mv rfl rfl rfl ?_
         refine q_ext rfl rfl rfl rfl ?_
         refine q_ext rfl rfl rfl rfl ?_
         refine h_stS (cs' := [_, _, _, _, _, _, _, _, _, _, _, _, _, _, _]) (S' := [_, _, _, _, _]) 4 Try.sizeOf81 rfl rfl rfl rfl rfl (allOne rfl) rfl (leb rfl) rfl rfl kp0 ?_
         refine q_as rfl rfl rfl ?_
         refine x_end ?_
         refine nk_cut (e' := [(0, _), (2, _), (3, _), (4, _), (6, _), (7, _), (9, _), (10, _), (11, _), (12, _), (24, _), (41, _), (58, _), (62, _), (72, _), (75, _), (76, _), (91, _), (113, _), (136, _)]) [0, 2, 3, 4, 6, 7, 9, 10, 11, 12, 24, 41, 58, 62, 72, 75, 76, 91, 113, 136] rfl ?_
         refine nk_seq ?_
         refine rg (.q 0 (.h 1 (.q 2 (.q 3 (.q 4 XT.done))))) (by kernel_rfl) (by kernel_rfl) ?_
         refine q_mv rfl rfl rfl ?_
         have hss := hq.s
         have hcb := KClean_hc (gk := q.gk) (gc := gc1) (gp := gp1) hq.o (by omega) hss 
         refine h_call Try.call51 (S2 := [_, _]) rfl rfl rfl (permL [1, 2, 3, 0, 4] rfl) (hcb) ?_
         rintro r_ S_ Hn13 hl18 ⟨an10, b13, b14, b15, b16, rfl, rfl, hks9, hle13⟩
         replace hos := hos.mono hl18
         replace hq := hq.mono hl18
         replace hao := hao.mono hl18
         replace hks8 := hks8.mono hl18
         refine ⟨kp0, ?_⟩
         refine x_S (S' := [_, _, _, _, _]) rfl ?_
         refine q_mv rfl rfl rfl ?_
         refine q_eq rfl rfl rfl rfl ?_
         refine x_T (by simp) ?_
         refine q_as rfl rfl rfl ?_
         refine x_end ?_
         refine nk_cut (e' := [(0, _), (2, _), (3, _), (4, _), (6, _), (7, _), (9, _), (10, _), (11, _), (12, _), (24, _), (41, _), (58, _), (62, _), (72, _), (75, _), (76, _), (91, _), (113, _), (136, _)]) [0, 2, 3, 4, 6, 7, 9, 10, 11, 12, 24, 41, 58, 62, 72, 75, 76, 91, 113, 136] rfl ?_
         refine nk_blk ?_
         refine nk_perm (S' := [_, _, _, _, _]) (permL [0, 1, 2, 4, 3] rfl) ?_
         refine nk_drop (S := [_, _, _, _]) (S' := [_]) ?_
         refine nk_join ((⟨q.gk, q.k.clean.1, an10, b13, b14, b15, b16, an9, A5, c5, ps5⟩ : KG) : KG) ⟨rfl, rfl, rfl, rfl, rfl, rfl, rfl, rfl, rfl, rfl, rfl, rfl, rfl, rfl, trivial⟩ rfl ⟨(hl17.trans hl18), ⟨Kp.clean_ok hq.o, hks9, hks8⟩⟩
        ·intro hc136
         try simp only [decide_eq_false_iff_not] at hc136
         refine ew_seq ?_
         refine rg (.q 0 (.q 1 XT.done)) (by kernel_rfl) (by kernel_rfl) ?_
         refine q_eq rfl rfl rfl rfl ?_
         refine q_as rfl rfl rfl ?_
         refine x_end ?_
         refine nk_cut (e' := [(0, _), (2, _), (3, _), (4, _), (6, _), (7, _), (9, _), (10, _), (11, _), (12, _), (24, _), (41, _), (58, _), (62, _), (72, _), (75, _), (76, _), (91, _), (113, _), (136, _), (147, _)]) [0, 2, 3, 4, 6, 7, 9, 10, 11, 12, 24, 41, 58, 62, 72, 75, 76, 91, 113, 136, 147] rfl ?_
         refine nk_seq ?_
         refine ew_cond rfl ?_ ?_
         ·intro hc147
          try simp only [decide_eq_true_eq] at hc147
          refine ew_seq ?_
          refine rg (.q 0 (.q 1 (.q 2 (.q 3 (.q 4 (.h 5 XT.done)))))) (by kernel_rfl) (by kernel_rfl) ?_
          refine q_mv rfl rfl rfl ?_
          refine q_fa fa_86_5 rfl rfl rfl ?_
          refine q_ld 0 Try.isAgg3 rfl rfl rfl rfl rfl ?_
          refine q_fa fa_86_6 rfl rfl rfl ?_
          refine q_ld 0 Try.isAgg4 rfl rfl rfl rfl rfl ?_
          refine h_call Try.call52 (S2 := [_, _, _, _]) rfl rfl rfl (nth_split (k := 3) rfl) (PowFuse_hc) ?_
          rintro r_ S_ Hl1 hl19 ⟨rfl, rfl, rfl⟩
          refine ⟨kp0, ?_⟩
          refine x_S (S' := [_, _, _, _, _]) rfl ?_
          refine x_end ?_
          refine nk_cut (e' := [(0, _), (2, _), (3, _), (4, _), (6, _), (7, _), (9, _), (10, _), (11, _), (12, _), (24, _), (41, _), (58, _), (62, _), (72, _), (75, _), (76, _), (91, _), (113, _), (136, _), (147, _)]) [0, 2, 3, 4, 6, 7, 9, 10, 11, 12, 24, 41, 58, 62, 72, 75, 76, 91, 113, 136, 147] rfl ?_
          refine nk_seq ?_
          refine rg (.q 0 (.q 1 (.q 2 (.q 3 (.q 4 (.q 5 (.q 6 (.h 7 (.q 8 (.q 9 (.h 10 XT.done))))))))))) (by kernel_rfl) (by kernel_rfl) ?_
          refine q_fa fa_81_0 rfl rfl rfl ?_
          refine q_fa fa_79_0 rfl rfl rfl ?_
          refine q_ldSp (cs' := [_, _, _, _]) 4 Try.isAgg36 Try.sizeOf36 rfl rfl rfl rfl rfl (leb rfl) ?_
          refine q_fa fa_86_5 rfl rfl rfl ?_
          refine q_ld 1 Try.isAgg3 rfl rfl rfl rfl rfl ?_
          refine q_fa fa_86_6 rfl rfl rfl ?_
          refine q_ld 1 Try.isAgg4 rfl rfl rfl rfl rfl ?_
          refine h_call0 Try.call53 rfl rfl rfl (RPowFuse_hc (p := q.k.p)) ?_
          rintro r_ S_ Hl1 hl20 ⟨rfl, rfl, rfl⟩
          refine ⟨kp0, ?_⟩
          refine x_S (S' := [_, _, _, _, _]) rfl ?_
          refine q_fa fa_81_0 rfl rfl rfl ?_
          refine q_fa fa_79_0 rfl rfl rfl ?_
          refine h_stS (cs' := [_, _, _, _, _, _, _, _, _, _, _, _, _, _, _]) (S' := [_, _, _, _, _]) 4 Try.sizeOf36 rfl rfl rfl rfl rfl (allOne rfl) rfl (leb rfl) rfl rfl kp0 ?_
          refine x_end ?_
          refine nk_cut (e' := [(0, _), (2, _), (3, _), (4, _), (6, _), (7, _), (9, _), (10, _), (11, _), (12, _), (24, _), (41, _), (58, _), (62, _), (72, _), (75, _), (76, _), (91, _), (113, _), (136, _), (147, _)]) [0, 2, 3, 4, 6, 7, 9, 10, 11, 12, 24, 41, 58, 62, 72, 75, 76, 91, 113, 136, 147] rfl ?_
          refine nk_blk ?_
          refine nk_perm (S' := [_, _, _, _, _]) (permL [2, 3, 0, 4, 1] rfl) ?_
          refine nk_drop (S := [_, _, _, _]) (S' := [_]) ?_
          refine nk_join (({ q with k := ⟨q.k.c, q.k.p.setFuse o.n o.dn, q.k.last, q.k.has⟩ } : KG) : KG) ⟨rfl, rfl, rfl, rfl, rfl, rfl, rfl, rfl, rfl, rfl, rfl, rfl, rfl, rfl, trivial⟩ rfl ⟨HLe.refl _, ⟨(Kp.fuse_ok hq.o hnum o.dn).more, ⟨hq.s.an, hq.s.av, hq.s.cs⟩, ⟨hq.r.an, hq.r.av, hq.r.cs⟩⟩⟩
         ·intro hc147
          try simp only [decide_eq_false_iff_not] at hc147
          refine ew_seq ?_
          refine rg (.q 0 (.q 1 XT.done)) (by kernel_rfl) (by kernel_rfl) ?_
          refine q_eq rfl rfl rfl rfl ?_
          refine q_as rfl rfl rfl ?_
          refine x_end ?_
          refine nk_cut (e' := [(0, _), (2, _), (3, _), (4, _), (6, _), (7, _), (9, _), (10, _), (11, _), (12, _), (24, _), (41, _), (58, _), (62, _), (72, _), (75, _), (76, _), (91, _), (113, _), (136, _), (147, _), (165, _)]) [0, 2, 3, 4, 6, 7, 9, 10, 11, 12, 24, 41, 58, 62, 72, 75, 76, 91, 113, 136, 147, 165] rfl ?_
          refine nk_seq ?_
          refine ew_cond rfl ?_ ?_
          ·intro hc165
           try simp only [decide_eq_true_eq] at hc165
           refine ew_seq ?_
           refine rg (.q 0 (.h 1 XT.done)) (by kernel_rfl) (by kernel_rfl) ?_
           refine q_mv rfl rfl rfl ?_
           refine h_call Try.call54 (S2 := [_, _, _, _]) rfl rfl rfl (nth_split (k := 3) rfl) (PowBack_hc) ?_
           rintro r_ S_ Hl1 hl21 ⟨rfl, rfl, rfl⟩
           refine ⟨kp0, ?_⟩
           refine x_S (S' := [_, _, _, _, _]) rfl ?_
           refine x_end ?_
           refine nk_cut (e' := [(0, _), (2, _), (3, _), (4, _), (6, _), (7, _), (9, _), (10, _), (11, _), (12, _), (24, _), (41, _), (58, _), (62, _), (72, _), (75, _), (76, _), (91, _), (113, _), (136, _), (147, _), (165, _)]) [0, 2, 3, 4, 6, 7, 9, 10, 11, 12, 24, 41, 58, 62, 72, 75, 76, 91, 113, 136, 147, 165] rfl ?_
           refine nk_seq ?_
           refine ew_seq ?_
           refine rg (.q 0 (.h 1 (.q 2 (.q 3 (.q 4 (.q 5 (.q 6 XT.done))))))) (by kernel_rfl) (by kernel_rfl) ?_
           refine q_mv rfl rfl rfl ?_
           have hca := KOpen_hc (gc := gc1) (gp := gp1) (cl := q.k.c) (p := q.k.p.back) hq.s.cs rfl
           refine h_call Try.call41 (S2 := [_, _, _]) rfl rfl rfl (permL [3, 0, 1, 2, 4] rfl) (hca) ?_
           rintro r_ S_ Hn14 hl22 ⟨gk2, an11, rfl, rfl, hks10, hle14⟩
           replace hos := hos.mono hl22
           replace hq := hq.mono hl22
           replace hao := hao.mono hl22
           refine ⟨kp0, ?_⟩
           refine x_S (S' := [_, _, _, _, _, _]) rfl ?_
           refine q_mv rfl rfl rfl ?_
           refine q_ext rfl rfl rfl rfl ?_
           refine q_ext rfl rfl rfl rfl ?_
           refine q_as rfl rfl rfl ?_
           refine q_as rfl rfl rfl ?_
           refine x_end ?_
           refine nk_cut (e' := [(0, _), (2, _), (3, _), (4, _), (6, _), (7, _), (9, _), (10, _), (11, _), (12, _), (18, _), (19, _), (24, _), (41, _), (58, _), (62, _), (72, _), (75, _), (76, _), (91, _), (113, _), (136, _), (147, _), (165, _)]) [0, 2, 3, 4, 6, 7, 9, 10, 11, 12, 18, 19, 24, 41, 58, 62, 72, 75, 76, 91, 113, 136, 147, 165] rfl ?_
           refine nk_seq ?_
           refine ew_seq ?_
           refine rg (.q 0 (.q 1 (.q 2 (.h 3 (.q 4 (.q 5 (.h 6 XT.done))))))) (by kernel_rfl) (by kernel_rfl) ?_
           refine q_fa fa_81_0 rfl rfl rfl ?_
           refine q_fa fa_79_0 rfl rfl rfl ?_
           refine q_ldSp (cs' := [_, _, _, _]) 5 Try.isAgg36 Try.sizeOf36 rfl rfl rfl rfl rfl (leb rfl) ?_
           refine h_call0 Try.call55 rfl rfl rfl (RPowBack_hc (p := q.k.p)) ?_
           rintro r_ S_ Hn14 hl23 ⟨rfl, rfl, rfl⟩
           refine ⟨kp0, ?_⟩
           refine x_S (S' := [_, _, _, _, _, _]) rfl ?_
           refine q_fa fa_81_0 rfl rfl rfl ?_
           refine q_fa fa_79_0 rfl rfl rfl ?_
           refine h_stS (cs' := [_, _, _, _, _, _, _, _, _, _, _, _, _, _, _]) (S' := [_, _, _, _, _, _]) 5 Try.sizeOf36 rfl rfl rfl rfl rfl (allOne rfl) rfl (leb rfl) rfl rfl kp0 ?_
           refine x_end ?_
           refine nk_cut (e' := [(0, _), (2, _), (3, _), (4, _), (6, _), (7, _), (9, _), (10, _), (11, _), (12, _), (18, _), (19, _), (24, _), (41, _), (58, _), (62, _), (72, _), (75, _), (76, _), (91, _), (113, _), (136, _), (147, _), (165, _)]) [0, 2, 3, 4, 6, 7, 9, 10, 11, 12, 18, 19, 24, 41, 58, 62, 72, 75, 76, 91, 113, 136, 147, 165] rfl ?_
           refine nk_seq ?_
           refine ew_seq ?_
           refine rg (.q 0 (.q 1 (.h 2 (.q 3 (.q 4 (.q 5 (.h 6 (.q 7 XT.done)))))))) (by kernel_rfl) (by kernel_rfl) ?_
           refine q_fa fa_81_0 rfl rfl rfl ?_
           refine q_ldSp (cs' := [_, _, _, _, _, _]) 5 Try.isAgg79 Try.sizeOf79 rfl rfl rfl rfl rfl (leb rfl) ?_
           have hcr := RKOpen_hc (p := q.k.p.back) hq.r.cs (limS hq.s.cs hq.r.cs)
           rw [back_code] at hcr
           refine h_call0 Try.call42 rfl rfl rfl (hcr) ?_
           rintro r_ S_ Hn15 hl24 ⟨an12, rfl, hrk2, rfl, hle15⟩
           replace hos := hos.mono hl24
           replace hq := hq.mono hl24
           replace hao := hao.mono hl24
           replace hks10 := hks10.mono hl24
           refine ⟨kp0, ?_⟩
           refine x_S (S' := [_, _, _, _, _, _]) rfl ?_
           refine q_mv rfl rfl rfl ?_
           refine q_ext rfl rfl rfl rfl ?_
           refine q_ext rfl rfl rfl rfl ?_
           refine h_stS (cs' := [_, _, _, _, _, _, _, _, _, _, _, _, _, _, _]) (S' := [_, _, _, _, _, _]) 5 Try.sizeOf81 rfl rfl rfl rfl rfl (allOne rfl) rfl (leb rfl) rfl rfl kp0 ?_
           refine q_as rfl rfl rfl ?_
           refine x_end ?_
           refine nk_cut (e' := [(0, _), (2, _), (3, _), (4, _), (6, _), (7, _), (9, _), (10, _), (11, _), (12, _), (18, _), (19, _), (24, _), (41, _), (58, _), (62, _), (72, _), (75, _), (76, _), (91, _), (113, _), (136, _), (147, _), (165, _)]) [0, 2, 3, 4, 6, 7, 9, 10, 11, 12, 18, 19, 24, 41, 58, 62, 72, 75, 76, 91, 113, 136, 147, 165] rfl ?_
           refine nk_seq ?_
           refine ew_seq ?_
           refine ew_seq ?_
           refine rg (.q 0 (.q 1 (.q 2 (.q 3 (.q 4 (.q 5 (.q 6 XT.done))))))) (by kernel_rfl) (by kernel_rfl) ?_
           refine q_mv rfl rfl rfl ?_
           refine q_eq_pn Try.underlying74 rfl rfl rfl rfl ?_
           iterate 3 refine q_mv rfl rfl rfl ?_
           refine q_ne rfl rfl rfl rfl ?_
           refine x_F (by simp) ?_
           refine q_pkF rfl rfl rfl rfl ?_
           refine x_end ?_
           refine nk_cut (e' := [(0, _), (2, _), (3, _), (4, _), (6, _), (7, _), (9, _), (10, _), (11, _), (12, _), (18, _), (19, _), (24, _), (41, _), (58, _), (62, _), (72, _), (75, _), (76, _), (91, _), (113, _), (136, _), (147, _), (165, _), (192, _)]) [0, 2, 3, 4, 6, 7, 9, 10, 11, 12, 18, 19, 24, 41, 58, 62, 72, 75, 76, 91, 113, 136, 147, 165, 192] rfl ?_
           refine nk_seq ?_
           refine ew_false rfl ?_
           refine ew_skip ?_
           refine nk_seq ?_
           refine rg (.q 0 (.q 1 XT.done)) (by kernel_rfl) (by kernel_rfl) ?_
           refine q_mv rfl rfl rfl ?_
           refine q_as rfl rfl rfl ?_
           refine x_end ?_
           refine nk_cut (e' := [(0, _), (2, _), (3, _), (4, _), (6, _), (7, _), (9, _), (10, _), (11, _), (12, _), (18, _), (19, _), (24, _), (41, _), (58, _), (62, _), (72, _), (75, _), (76, _), (91, _), (113, _), (136, _), (147, _), (165, _), (192, _)]) [0, 2, 3, 4, 6, 7, 9, 10, 11, 12, 18, 19, 24, 41, 58, 62, 72, 75, 76, 91, 113, 136, 147, 165, 192] rfl ?_
           refine nk_blk ?_
           refine nk_perm (S' := [_, _, _, _, _, _]) (permL [0, 1, 2, 5, 3, 4] rfl) ?_
           refine nk_drop (S := [_, _, _, _]) (S' := [_, _]) ?_
           refine nk_join ((⟨gk2, (Kp.opn q.k.c q.k.p.back).1, an11, q.a0, q.a1, q.a2, q.a3, an12, q.A, q.c, q.ps⟩ : KG) : KG) ⟨rfl, rfl, rfl, rfl, rfl, rfl, rfl, rfl, rfl, rfl, rfl, rfl, rfl, rfl, trivial⟩ (by have e := opn_cp q.k.c q.k.p.back; dsimp only; rw [e.1, e.2] <;> rfl) ⟨(hl22.trans hl24), ⟨(Kp.back_ok hq.o).more, hks10, hrk2⟩⟩
          ·intro hc165
           try simp only [decide_eq_false_iff_not] at hc165
           refine ew_skip ?_
           refine nk_blk ?_
           refine nk_perm (S' := [_, _, _, _, _]) (permL [1, 2, 3, 4, 0] rfl) ?_
           refine nk_drop (S := [_, _, _, _]) (S' := [_]) ?_
           refine nk_join (q : KG) ⟨rfl, rfl, rfl, rfl, rfl, rfl, rfl, rfl, rfl, rfl, rfl, rfl, rfl, rfl, trivial⟩ rfl ⟨HLe.refl _, ⟨hq.o.more, hq.s, hq.r⟩⟩
    ·skip
     rintro q2 Hl2 ⟨hl25, hJ⟩
     replace hos := hos.mono hl25
     replace hq := hq.mono hl25
     replace hao := hao.mono hl25
     refine nk_S (S' := [.box _ _ [_, _, _, _, _, _, _, _, _, _], .box _ _ [_, _, _, _, _, _], .box _ _ [_, _, _, _], .box _ _ [_, _, _, _, _, _, _, _, _, _, _, _, _, _, _]]) rfl ?_
     refine nk_cut (e' := [(6, _), (12, _), (0, _), (2, _), (3, _), (4, _), (7, _), (9, _), (24, _), (41, _), (58, _), (62, _), (72, _), (75, _)]) [6, 12, 0, 2, 3, 4, 7, 9, 24, 41, 58, 62, 72, 75] rfl ?_
     refine nk_seq ?_
     refine ew_seq ?_
     refine rg (.q 0 (.h 1 (.q 2 (.q 3 (.q 4 (.h 5 (.h 6 (.q 7 XT.done)))))))) (by kernel_rfl) (by kernel_rfl) ?_
     refine q_mv rfl rfl rfl ?_
     refine h_call Try.call56 (S2 := [_]) rfl rfl rfl (permL [0, 1, 2, 3] rfl) (KLast_hc hJ.o (by omega) hJ.s) ?_
     rintro r_ S_ Hn16 hl26 ⟨an13, rfl, ha1, hav1, rfl, hle16⟩
     replace hos := hos.mono hl26
     replace hq := hq.mono hl26
     replace hao := hao.mono hl26
     replace hJ := hJ.mono hl26
     refine ⟨kp0, ?_⟩
     refine x_S (S' := [_, _, _, _]) rfl ?_
     refine q_mv rfl rfl rfl ?_
     refine q_ext rfl rfl rfl rfl ?_
     refine q_ext rfl rfl rfl rfl ?_
     refine h_alloc (cs := [_, _, _, _, _, _, _, _]) Try.zeroValue60 rfl rfl (zc_60 Try.zeroValue60) ?_
     intro g4
     refine ⟨kp0, ?_⟩
     refine h_stS (cs' := [_, _, _, _, _, _, _, _]) (S' := [_, _, _, _, _]) 0 Try.sizeOf60 rfl rfl rfl rfl rfl (allOne rfl) rfl (leb rfl) rfl rfl kp0 ?_
     refine q_as rfl rfl rfl ?_
     refine x_end ?_
     refine nk_cut (e' := [(0, _), (2, _), (3, _), (4, _), (6, _), (7, _), (9, _), (12, _), (20, _), (21, _), (24, _), (41, _), (58, _), (62, _), (72, _), (75, _)]) [0, 2, 3, 4, 6, 7, 9, 12, 20, 21, 24, 41, 58, 62, 72, 75] rfl ?_
     refine nk_seq ?_
     refine ew_seq ?_
     refine rg (.q 0 (.q 1 (.q 2 (.q 3 (.q 4 (.q 5 (.q 6 (.q 7 (.q 8 (.q 9 (.q 10 (.q 11 (.q 12 (.q 13 (.h 14 (.q 15 (.q 16 (.q 17 XT.done)))))))))))))))))) (by kernel_rfl) (by kernel_rfl) ?_
     refine q_mv rfl rfl rfl ?_
     refine q_not rfl rfl rfl ?_
     refine x_F rfl ?_
     refine q_mv rfl rfl rfl ?_
     refine q_mv rfl rfl rfl ?_
     refine q_fa fa_81_2 rfl rfl rfl ?_
     refine q_ld 4 Try.isAgg4 rfl rfl rfl rfl rfl ?_
     refine q_ne_b Try.underlying4 rfl rfl rfl rfl ?_
     refine x_F (by simp) ?_
     refine q_pkF rfl rfl rfl rfl ?_
     iterate 3 refine q_mv rfl rfl rfl ?_
     refine x_spl (d := 209) rfl ?_ ?_
     ·intro hb209
      try simp only [Bool.not_eq_true', Bool.not_eq_false', decide_eq_true_eq, decide_eq_false_iff_not, ne_eq, Decidable.not_not] at hb209
      refine q_ldS 0 Try.isAgg60 Try.sizeOf60 rfl rfl rfl rfl rfl ?_
      refine q_fa fa_81_1 rfl rfl rfl ?_
      refine q_ldSp (cs' := [_, _, _, _, _, _, _, _]) 4 Try.isAgg60 Try.sizeOf60 rfl rfl rfl rfl rfl (leb rfl) ?_
      refine h_call0 Try.call37 rfl rfl rfl (RASame_hc ha1 hJ.r.an) ?_
      rintro r_ S_ Hn16 hl27 ⟨rfl, rfl, rfl⟩
      refine ⟨kp0, ?_⟩
      refine x_S (S' := [_, _, _, _, _]) rfl ?_
      refine x_T (decide_eq_true (hav1.trans hJ.r.av.symm)) ?_
      refine q_not rfl rfl rfl ?_
      refine x_F rfl ?_
      refine q_pkT rfl rfl rfl rfl ?_
      refine q_pkF rfl rfl rfl rfl ?_
      refine x_end ?_
      refine nk_cut (e' := [(0, _), (2, _), (3, _), (4, _), (6, _), (7, _), (9, _), (12, _), (20, _), (21, _), (24, _), (41, _), (58, _), (62, _), (72, _), (75, _), (216, _)]) [0, 2, 3, 4, 6, 7, 9, 12, 20, 21, 24, 41, 58, 62, 72, 75, 216] rfl ?_
      refine nk_seq ?_
      refine ew_false rfl ?_
      refine ew_skip ?_
      refine nk_blk ?_
      refine nk_seq ?_
      refine rg (.q 0 (.q 1 (.q 2 XT.done))) (by kernel_rfl) (by kernel_rfl) ?_
      refine q_mv rfl rfl rfl ?_
      refine q_add rfl rfl rfl rfl (by omega) (by omega) ?_
      refine q_as rfl rfl rfl ?_
      refine x_end ?_
      refine nk_cut (e' := [(0, _), (2, _), (3, _), (4, _), (6, _), (7, _), (9, _), (12, _), (20, _), (21, _), (24, _), (41, _), (58, _), (62, _), (72, _), (75, _), (216, _)]) [0, 2, 3, 4, 6, 7, 9, 12, 20, 21, 24, 41, 58, 62, 72, 75, 216] rfl ?_
      refine nk_perm (S' := [_, _, _, _, _]) (permL [1, 2, 3, 4, 0] rfl) ?_
      refine nk_drop (S := [_, _, _, _]) (S' := [_]) ?_
      refine nk_round (μ := Mv1) (i := (i, q)) (S := Sv1) (G := Gv1) (⟨i + 1, q2⟩ : Nat × KG) ?_ ?_ ?_ ?_
      ·exact ⟨rfl, rfl, rfl, rfl, rfl, rfl, rfl, rfl, rfl, rfl, trivial⟩
      ·exact rfl
      ·exact ⟨((hl8.trans hl25).trans hl26), ⟨by omega, ⟨hJ.o.le (by omega), hJ.s, hJ.r⟩⟩⟩
      ·dsimp only [Mv1]; omega
     ·intro hb209
      try simp only [Bool.not_eq_true', Bool.not_eq_false', decide_eq_true_eq, decide_eq_false_iff_not, ne_eq, Decidable.not_not] at hb209
      iterate 3 refine q_skip rfl rfl ?_
      refine h_skip rfl rfl ?_
      refine q_skip rfl rfl ?_
      refine q_pkF rfl rfl rfl rfl ?_
      refine q_pkF rfl rfl rfl rfl ?_
      refine x_end ?_
      refine nk_cut (e' := [(0, _), (2, _), (3, _), (4, _), (6, _), (7, _), (9, _), (12, _), (20, _), (21, _), (24, _), (41, _), (58, _), (62, _), (72, _), (75, _), (216, _)]) [0, 2, 3, 4, 6, 7, 9, 12, 20, 21, 24, 41, 58, 62, 72, 75, 216] rfl ?_
      refine nk_seq ?_
      refine ew_false rfl ?_
      refine ew_skip ?_
      refine nk_blk ?_
      refine nk_seq ?_
      refine rg (.q 0 (.q 1 (.q 2 XT.done))) (by kernel_rfl) (by kernel_rfl) ?_
      refine q_mv rfl rfl rfl ?_
      refine q_add rfl rfl rfl rfl (by omega) (by omega) ?_
      refine q_as rfl rfl rfl ?_
      refine x_end ?_
      refine nk_cut (e' := [(0, _), (2, _), (3, _), (4, _), (6, _), (7, _), (9, _), (12, _), (20, _), (21, _), (24, _), (41, _), (58, _), (62, _), (72, _), (75, _), (216, _)]) [0, 2, 3, 4, 6, 7, 9, 12, 20, 21, 24, 41, 58, 62, 72, 75, 216] rfl ?_
      refine nk_perm (S' := [_, _, _, _, _]) (permL [1, 2, 3, 4, 0] rfl) ?_
      refine nk_drop (S := [_, _, _, _]) (S' := [_]) ?_
      refine nk_round (μ := Mv1) (i := (i, q)) (S := Sv1) (G := Gv1) (⟨i + 1, q2⟩ : Nat × KG) ?_ ?_ ?_ ?_
      ·exact ⟨rfl, rfl, rfl, rfl, rfl, rfl, rfl, rfl, rfl, rfl, trivial⟩
      ·exact rfl
      ·exact ⟨((hl8.trans hl25).trans hl26), ⟨by omega, ⟨hJ.o.le (by omega), hJ.s, hJ.r⟩⟩⟩
      ·dsimp only [Mv1]; omega
  ·intro hc62
   try simp only [decide_eq_false_iff_not] at hc62
   refine ew_exit _ rfl ?_
   refine nk_seq ?_
   refine ew_seq ?_
   refine rg (.h 0 (.q 1 XT.done)) (by kernel_rfl) (by kernel_rfl) ?_
   refine h_call0 Try.call30 rfl rfl rfl (Works_hc) ?_
   rintro r_ S_ Hn17 hl28 ⟨rfl, rfl, hle17⟩
   replace hos := hos.mono hl28
   replace hq := hq.mono hl28
   refine ⟨kp0, ?_⟩
   refine x_S (S' := [_, _, _, _]) rfl ?_
   refine q_as rfl rfl rfl ?_
   refine x_end ?_
   refine nk_cut (e' := [(0, _), (2, _), (3, _), (4, _), (6, _), (7, _), (9, _), (24, _), (41, _), (58, _), (62, _)]) [0, 2, 3, 4, 6, 7, 9, 24, 41, 58, 62] rfl ?_
   refine nk_seq ?_
   refine ew_retS rfl rfl (.cons (.tmp rfl) .nil) ?_
   exact ⟨rfl, rfl, ((((hl4.trans hl6).trans hl7).trans hl8).trans hl28)⟩

end Go.GW
