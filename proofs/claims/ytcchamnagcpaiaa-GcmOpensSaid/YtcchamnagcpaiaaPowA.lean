/- Contracts of functions of the loaded program, printed by our own program gen.py. -/
import Derived.Test.YtcchamnagcpaiaaOctA
namespace Go.GW
open Go Go.Proofs
set_option linter.unusedSimpArgs false
set_option linter.unusedVariables false


/-- the power that all devices share -/
structure Pow where
  steps : Int
  fuse : Int
  done : Bool
  down : Bool

def Pow.cells (p : Pow) : List SV := [.i p.fuse, .b p.done, .b p.down, .i p.steps]
def Pow.rcells (p : Pow) : List SV := [.i p.steps, .i p.fuse, .b p.done, .b p.down]
/-- its numbers are numbers of 64 bits, with room for so many steps -/
def Pow.ok (p : Pow) : Prop := -1 ≤ p.fuse ∧ p.fuse ≤ 9223372036854775807 ∧ 0 ≤ p.steps ∧ p.steps ≤ 4611686018427387904
def pow0 : Pow := ⟨0, -1, false, false⟩
def Pow.setFuse (p : Pow) (n : Int) (done : Bool) : Pow := { p with fuse := max n (-1), done := done }
def Pow.back (p : Pow) : Pow := ⟨p.steps, -1, false, false⟩
/-- behind a step; was it answered? is it done? -/
def Pow.step (p : Pow) : Pow × Bool × Bool :=
  if p.down = true then (p, false, false)
  else if p.fuse < 0 then ({ p with steps := p.steps + 1 }, true, true)
  else if p.fuse = 0 then (⟨p.steps + 1, -1, p.done, true⟩, false, p.done)
  else ({ p with steps := p.steps + 1, fuse := p.fuse - 1 }, true, true)

theorem PowNew_hc {H : Hp} :
  HC Try.prog 14 [] [] H (fun r S' H' => ∃ gp, r = .p ⟨gp, 0, none⟩ ∧ S' = [.box gp 127 pow0.cells] ∧ H' = H) := by
 refine hc_intro (n := 4) Try.func14 rfl Try.ntmps14 rfl (fun B hB => ?_)
 refine ew_cut (e' := []) [] rfl ?_
 refine ew_seq ?_
 refine rg (.q 0 XT.done) (by kernel_rfl) (by kernel_rfl) ?_
 refine q_as (sv := .np) rfl rfl rfl ?_
 refine x_end ?_
 refine nk_cut (e' := [(0, _)]) [0] rfl ?_
 refine nk_seq ?_
 refine ew_seq ?_
 refine rg (.q 0 (.q 1 (.h 2 (.q 3 XT.done)))) (by kernel_rfl) (by kernel_rfl) ?_
 refine q_bld (cs := [_, _, _]) bf_125 rfl rfl rfl rfl ?_
 refine q_bld (cs := [_, _, _, _]) bf_127 rfl rfl rfl rfl ?_
 refine h_boxS rfl rfl rfl ?_
 intro g1
 refine ⟨kp0, ?_⟩
 refine q_as rfl rfl rfl ?_
 refine x_end ?_
 refine nk_cut (e' := [(0, _)]) [0] rfl ?_
 refine nk_seq ?_
 refine ew_retk 0 rfl rfl (.cons (.tmp rfl) .nil) rfl rfl ?_
 exact ⟨g1, rfl, rfl, rfl⟩


theorem PowFuse_hc {H : Hp} {gp : Nat} {p : Pow} {n : Int} {dn : Bool} :
  HC Try.prog 52 [.p ⟨gp, 0, none⟩, .i n, .b dn] [.box gp 127 p.cells] H (fun r S' H' => r = .tup [] ∧ S' = [.box gp 127 (p.setFuse n dn).cells] ∧ H' = H) := by
 refine hc_intro (n := 17) Try.func52 rfl Try.ntmps52 rfl (fun B hB => ?_)
 refine ew_cut (e' := [(0, _), (1, _), (2, _)]) [0, 1, 2] rfl ?_
 refine ew_S (S' := [.box _ _ [_, _, _, _]]) rfl ?_
 refine rg (.q 0 (.q 1 (.q 2 (.q 3 (.q 4 (.q 5 (.q 6 (.q 7 (.h 8 (.q 9 (.q 10 (.q 11 (.h 12 XT.done))))))))))))) (by kernel_rfl) (by kernel_rfl) ?_
 iterate 3 refine q_mv rfl rfl rfl ?_
 refine q_max rfl rfl rfl rfl ?_
 refine q_mv rfl rfl rfl ?_
 refine q_nil rfl rfl rfl ?_
 refine q_fa fa_127_0 rfl rfl rfl ?_
 refine q_fa fa_125_0 rfl rfl rfl ?_
 refine h_st (cs' := [_, _, _, _]) (S' := [_]) 0 Try.sizeOf3 rfl rfl rfl rfl rfl rfl (ltb rfl) rfl rfl kp0 ?_
 refine q_nil rfl rfl rfl ?_
 refine q_fa fa_127_0 rfl rfl rfl ?_
 refine q_fa fa_125_1 rfl rfl rfl ?_
 refine h_st (cs' := [_, _, _, _]) (S' := [_]) 0 Try.sizeOf4 rfl rfl rfl rfl rfl rfl (ltb rfl) rfl rfl kp0 ?_
 refine x_end ?_
 refine nk_cut (e' := [(0, _), (1, _), (2, _)]) [0, 1, 2] rfl ?_
 refine nk_ret1 (r := .tup []) 0 rfl .nil rfl rfl ?_
 exact ⟨rfl, rfl, rfl⟩


theorem PowDown_hc {H : Hp} {gp : Nat} {p : Pow} :
  HC Try.prog 23 [.p ⟨gp, 0, none⟩] [.box gp 127 p.cells] H (fun r S' H' => r = .b p.down ∧ S' = [.box gp 127 p.cells] ∧ H' = H) := by
 refine hc_intro (n := 8) Try.func23 rfl Try.ntmps23 rfl (fun B hB => ?_)
 refine ew_cut (e' := [(0, _)]) [0] rfl ?_
 refine ew_seq ?_
 refine rg (.q 0 XT.done) (by kernel_rfl) (by kernel_rfl) ?_
 refine q_as (sv := .b false) rfl rfl rfl ?_
 refine x_end ?_
 refine nk_cut (e' := [(0, _), (2, _)]) [0, 2] rfl ?_
 refine nk_seq ?_
 refine ew_seq ?_
 refine rg (.q 0 (.q 1 (.q 2 (.q 3 (.q 4 (.q 5 XT.done)))))) (by kernel_rfl) (by kernel_rfl) ?_
 refine q_mv rfl rfl rfl ?_
 refine q_nil rfl rfl rfl ?_
 refine q_fa fa_127_0 rfl rfl rfl ?_
 refine q_fa fa_125_2 rfl rfl rfl ?_
 refine q_ld 0 Try.isAgg4 rfl rfl rfl rfl rfl ?_
 refine q_as rfl rfl rfl ?_
 refine x_end ?_
 refine nk_cut (e' := [(0, _), (2, _)]) [0, 2] rfl ?_
 refine nk_seq ?_
 refine ew_retk 0 rfl rfl (.cons (.tmp rfl) .nil) rfl rfl ?_
 exact ⟨rfl, rfl, rfl⟩


theorem PowBack_hc {H : Hp} {gp : Nat} {p : Pow} :
  HC Try.prog 54 [.p ⟨gp, 0, none⟩] [.box gp 127 p.cells] H (fun r S' H' => r = .tup [] ∧ S' = [.box gp 127 p.back.cells] ∧ H' = H) := by
 refine hc_intro (n := 6) Try.func54 rfl Try.ntmps54 rfl (fun B hB => ?_)
 refine ew_cut (e' := [(0, _)]) [0] rfl ?_
 refine rg (.q 0 (.q 1 (.q 2 (.q 3 (.h 4 XT.done))))) (by kernel_rfl) (by kernel_rfl) ?_
 refine q_mv rfl rfl rfl ?_
 refine q_bld (cs := [_, _, _]) bf_125 rfl rfl rfl rfl ?_
 refine q_nil rfl rfl rfl ?_
 refine q_fa fa_127_0 rfl rfl rfl ?_
 refine h_stS (cs' := [_, _, _, _]) (S' := [_]) 0 Try.sizeOf125 rfl rfl rfl rfl rfl (allOne rfl) rfl (leb rfl) rfl rfl kp0 ?_
 refine x_end ?_
 refine nk_cut (e' := [(0, _)]) [0] rfl ?_
 refine nk_ret1 (r := .tup []) 0 rfl .nil rfl rfl ?_
 exact ⟨rfl, rfl, rfl⟩


theorem PowStep_hc {H : Hp} {gp : Nat} {p : Pow} {f : FuncId} {cap : List SV} {Sd : Res} {Rd : SV → Res → Hp → Prop} (hp : p.ok) (hf : ∀ (args : Array Value) (w : World), (callFunc f args).run Try.prog w = .ok (.enter f args) w) (hdo : HC Try.prog f cap Sd H Rd) :
  HC Try.prog 135 [.p ⟨gp, 0, none⟩, .fn f cap] (.box gp 127 p.cells :: Sd) H (fun r S' H' => r = .b p.step.2.1 ∧ ∃ Sd', S' = .box gp 127 p.step.1.cells :: Sd' ∧ HLe H H' ∧ (p.step.2.2 = true → ∃ r0, Rd r0 Sd' H') ∧ (p.step.2.2 = false → Sd' = Sd ∧ H' = H)) := by
 obtain ⟨hf0, hf1, hs0, hs1⟩ := hp
 have hR : ∀ b c Q, (b = p.step.2.1) → (c = p.step.2.2) → Q → b = p.step.2.1 ∧ c = p.step.2.2 ∧ Q := fun _ _ _ h1 h2 h3 => ⟨h1, h2, h3⟩
 refine hc_intro (n := 65) Try.func135 rfl Try.ntmps135 rfl (fun B hB => ?_)
 refine ew_cut (e' := [(0, _), (1, _)]) [0, 1] rfl ?_
 refine ew_seq ?_
 refine rg (.q 0 XT.done) (by kernel_rfl) (by kernel_rfl) ?_
 refine q_as (sv := .b false) rfl rfl rfl ?_
 refine x_end ?_
 refine nk_cut (e' := [(0, _), (1, _), (4, _)]) [0, 1, 4] rfl ?_
 refine nk_seq ?_
 refine ew_seq ?_
 refine ew_seq ?_
 refine rg (.q 0 (.q 1 (.q 2 (.q 3 (.q 4 XT.done))))) (by kernel_rfl) (by kernel_rfl) ?_
 refine q_mv rfl rfl rfl ?_
 refine q_nil rfl rfl rfl ?_
 refine q_fa fa_127_0 rfl rfl rfl ?_
 refine q_fa fa_125_2 rfl rfl rfl ?_
 refine q_ld 0 Try.isAgg4 rfl rfl rfl rfl rfl ?_
 refine x_end ?_
 refine nk_cut (e' := [(0, _), (1, _), (4, _), (9, _)]) [0, 1, 4, 9] rfl ?_
 refine nk_seq ?_
 refine ew_cond rfl ?_ ?_
 ·intro hc9
  refine ew_seq ?_
  refine rg (.q 0 XT.done) (by kernel_rfl) (by kernel_rfl) ?_
  refine q_as (sv := .b false) rfl rfl rfl ?_
  refine x_end ?_
  refine nk_cut (e' := [(0, _), (1, _), (4, _), (9, _)]) [0, 1, 4, 9] rfl ?_
  refine nk_seq ?_
  refine ew_retA rfl rfl (.cons (.tmp rfl) .nil) ?_
  exact ⟨by simp [Pow.step, hc9], Sd, by simp [Pow.step, hc9], HLe.refl _, fun h => by simp [Pow.step, hc9] at h, fun _ => ⟨rfl, rfl⟩⟩
 ·intro hc9
  refine ew_skip ?_
  refine nk_seq ?_
  refine ew_seq ?_
  refine rg (.q 0 (.q 1 (.q 2 (.q 3 (.q 4 (.q 5 (.q 6 (.h 7 XT.done)))))))) (by kernel_rfl) (by kernel_rfl) ?_
  refine q_mv rfl rfl rfl ?_
  refine q_nil rfl rfl rfl ?_
  refine q_fa fa_127_1 rfl rfl rfl ?_
  refine q_ld 0 Try.isAgg3 rfl rfl rfl rfl rfl ?_
  refine q_add rfl rfl rfl rfl (by omega) (by omega) ?_
  refine q_nil rfl rfl rfl ?_
  refine q_fa fa_127_1 rfl rfl rfl ?_
  refine h_st (cs' := [_, _, _, _]) (S' := (_ :: Sd)) 0 Try.sizeOf3 rfl rfl rfl rfl rfl rfl (ltb rfl) rfl rfl kp0 ?_
  refine x_end ?_
  refine nk_cut (e' := [(0, _), (1, _), (4, _), (9, _)]) [0, 1, 4, 9] rfl ?_
  refine nk_seq ?_
  refine ew_seq ?_
  refine ew_seq ?_
  refine rg (.q 0 (.q 1 (.q 2 (.q 3 (.q 4 (.q 5 XT.done)))))) (by kernel_rfl) (by kernel_rfl) ?_
  refine q_mv rfl rfl rfl ?_
  refine q_nil rfl rfl rfl ?_
  refine q_fa fa_127_0 rfl rfl rfl ?_
  refine q_fa fa_125_0 rfl rfl rfl ?_
  refine q_ld 0 Try.isAgg3 rfl rfl rfl rfl rfl ?_
  refine q_lt rfl rfl rfl rfl ?_
  refine x_end ?_
  refine nk_cut (e' := [(0, _), (1, _), (4, _), (9, _), (22, _)]) [0, 1, 4, 9, 22] rfl ?_
  refine nk_seq ?_
  refine ew_cond rfl ?_ ?_
  ·intro hc22
   try simp only [decide_eq_true_eq] at hc22
   refine ew_seq ?_
   refine rg (.q 0 (.h 1 XT.done)) (by kernel_rfl) (by kernel_rfl) ?_
   refine q_mv rfl rfl rfl ?_
   refine h_callv hf (S2 := [_]) rfl rfl rfl rfl rfl (List.perm_append_comm (l₁ := [_])) (hdo) ?_
   rintro r_ Sd2 H2 hl1 hr0
   refine ⟨kp0, ?_⟩
   refine x_perm (S' := (_ :: Sd2)) (List.perm_append_comm (l₁ := Sd2) (l₂ := [_])) ?_
   refine x_end ?_
   refine nk_cut (e' := [(0, _), (1, _), (4, _), (9, _), (22, _)]) [0, 1, 4, 9, 22] rfl ?_
   refine nk_seq ?_
   refine ew_seq ?_
   refine rg (.q 0 XT.done) (by kernel_rfl) (by kernel_rfl) ?_
   refine q_as (sv := .b true) rfl rfl rfl ?_
   refine x_end ?_
   refine nk_cut (e' := [(0, _), (1, _), (4, _), (9, _), (22, _)]) [0, 1, 4, 9, 22] rfl ?_
   refine nk_seq ?_
   refine ew_retA rfl rfl (.cons (.tmp rfl) .nil) ?_
   exact ⟨by simp [Pow.step, hc9, hc22], Sd2, by simp [Pow.step, hc9, hc22, Pow.cells], hl1, fun _ => ⟨_, hr0⟩, fun h => by simp [Pow.step, hc9, hc22] at h⟩
  ·intro hc22
   try simp only [decide_eq_false_iff_not] at hc22
   refine ew_skip ?_
   refine nk_seq ?_
   refine ew_seq ?_
   refine rg (.q 0 (.q 1 (.q 2 (.q 3 (.q 4 (.q 5 (.q 6 (.q 7 (.q 8 (.h 9 XT.done)))))))))) (by kernel_rfl) (by kernel_rfl) ?_
   refine q_mv rfl rfl rfl ?_
   refine q_nil rfl rfl rfl ?_
   refine q_fa fa_127_0 rfl rfl rfl ?_
   refine q_fa fa_125_0 rfl rfl rfl ?_
   refine q_ld 0 Try.isAgg3 rfl rfl rfl rfl rfl ?_
   refine q_sub rfl rfl rfl rfl (by omega) (by omega) ?_
   refine q_nil rfl rfl rfl ?_
   refine q_fa fa_127_0 rfl rfl rfl ?_
   refine q_fa fa_125_0 rfl rfl rfl ?_
   refine h_st (cs' := [_, _, _, _]) (S' := (_ :: Sd)) 0 Try.sizeOf3 rfl rfl rfl rfl rfl rfl (ltb rfl) rfl rfl kp0 ?_
   refine x_end ?_
   refine nk_cut (e' := [(0, _), (1, _), (4, _), (9, _), (22, _)]) [0, 1, 4, 9, 22] rfl ?_
   refine nk_seq ?_
   refine ew_seq ?_
   refine rg (.q 0 (.q 1 (.q 2 (.q 3 (.q 4 (.q 5 (.q 6 (.q 7 (.q 8 (.q 9 (.h 10 XT.done))))))))))) (by kernel_rfl) (by kernel_rfl) ?_
   refine q_mv rfl rfl rfl ?_
   refine q_mv rfl rfl rfl ?_
   refine q_nil rfl rfl rfl ?_
   refine q_fa fa_127_0 rfl rfl rfl ?_
   refine q_fa fa_125_0 rfl rfl rfl ?_
   refine q_ld 0 Try.isAgg3 rfl rfl rfl rfl rfl ?_
   refine q_lt rfl rfl rfl rfl ?_
   refine q_nil rfl rfl rfl ?_
   refine q_fa fa_127_0 rfl rfl rfl ?_
   refine q_fa fa_125_2 rfl rfl rfl ?_
   refine h_st (cs' := [_, _, _, _]) (S' := (_ :: Sd)) 0 Try.sizeOf4 rfl rfl rfl rfl rfl rfl (ltb rfl) rfl rfl kp0 ?_
   refine x_end ?_
   refine nk_cut (e' := [(0, _), (1, _), (4, _), (9, _), (22, _)]) [0, 1, 4, 9, 22] rfl ?_
   refine nk_seq ?_
   refine ew_seq ?_
   refine ew_seq ?_
   by_cases hz : p.fuse = 0
   ·skip
    refine rg (.q 0 (.q 1 (.q 2 (.q 3 (.q 4 (.q 5 (.q 6 (.q 7 (.q 8 (.q 9 (.q 10 (.q 11 (.q 12 XT.done))))))))))))) (by kernel_rfl) (by kernel_rfl) ?_
    refine q_mv rfl rfl rfl ?_
    refine q_nil rfl rfl rfl ?_
    refine q_fa fa_127_0 rfl rfl rfl ?_
    refine q_fa fa_125_2 rfl rfl rfl ?_
    refine q_ld 0 Try.isAgg4 rfl rfl rfl rfl rfl ?_
    refine q_not rfl rfl rfl ?_
    refine x_F (by simp; omega) ?_
    refine q_mv rfl rfl rfl ?_
    refine q_mv rfl rfl rfl ?_
    refine q_nil rfl rfl rfl ?_
    refine q_fa fa_127_0 rfl rfl rfl ?_
    refine q_fa fa_125_1 rfl rfl rfl ?_
    refine q_ld 0 Try.isAgg4 rfl rfl rfl rfl rfl ?_
    refine q_pkF rfl rfl rfl rfl ?_
    refine x_end ?_
    refine nk_cut (e' := [(0, _), (1, _), (4, _), (9, _), (22, _), (56, _)]) [0, 1, 4, 9, 22, 56] rfl ?_
    refine nk_seq ?_
    refine ew_cond rfl ?_ ?_
    ·intro hc56
     try simp only [decide_eq_true_eq] at hc56
     refine rg (.q 0 (.h 1 XT.done)) (by kernel_rfl) (by kernel_rfl) ?_
     refine q_mv rfl rfl rfl ?_
     refine h_callv hf (S2 := [_]) rfl rfl rfl rfl rfl (List.perm_append_comm (l₁ := [_])) (hdo) ?_
     rintro r_ Sd2 H2 hl2 hr0
     refine ⟨kp0, ?_⟩
     refine x_perm (S' := (_ :: Sd2)) (List.perm_append_comm (l₁ := Sd2) (l₂ := [_])) ?_
     refine x_end ?_
     refine nk_cut (e' := [(0, _), (1, _), (4, _), (9, _), (22, _), (56, _)]) [0, 1, 4, 9, 22, 56] rfl ?_
     refine nk_seq ?_
     refine ew_seq ?_
     refine rg (.q 0 (.q 1 (.q 2 (.q 3 (.q 4 (.q 5 (.q 6 XT.done))))))) (by kernel_rfl) (by kernel_rfl) ?_
     refine q_mv rfl rfl rfl ?_
     refine q_nil rfl rfl rfl ?_
     refine q_fa fa_127_0 rfl rfl rfl ?_
     refine q_fa fa_125_2 rfl rfl rfl ?_
     refine q_ld 0 Try.isAgg4 rfl rfl rfl rfl rfl ?_
     refine q_not rfl rfl rfl ?_
     refine q_as rfl rfl rfl ?_
     refine x_end ?_
     refine nk_cut (e' := [(0, _), (1, _), (4, _), (9, _), (22, _), (56, _)]) [0, 1, 4, 9, 22, 56] rfl ?_
     refine nk_seq ?_
     refine ew_retA rfl rfl (.cons (.tmp rfl) .nil) ?_
     exact ⟨by simp [Pow.step, hc9, hz], Sd2, by simp [Pow.step, hc9, hz, Pow.cells], hl2, fun _ => ⟨_, hr0⟩, fun h => by simp [Pow.step, hc9, hz, hc56] at h⟩
    ·intro hc56
     try simp only [decide_eq_false_iff_not] at hc56
     refine ew_skip ?_
     refine nk_seq ?_
     refine ew_seq ?_
     refine rg (.q 0 (.q 1 (.q 2 (.q 3 (.q 4 (.q 5 (.q 6 XT.done))))))) (by kernel_rfl) (by kernel_rfl) ?_
     refine q_mv rfl rfl rfl ?_
     refine q_nil rfl rfl rfl ?_
     refine q_fa fa_127_0 rfl rfl rfl ?_
     refine q_fa fa_125_2 rfl rfl rfl ?_
     refine q_ld 0 Try.isAgg4 rfl rfl rfl rfl rfl ?_
     refine q_not rfl rfl rfl ?_
     refine q_as rfl rfl rfl ?_
     refine x_end ?_
     refine nk_cut (e' := [(0, _), (1, _), (4, _), (9, _), (22, _), (56, _)]) [0, 1, 4, 9, 22, 56] rfl ?_
     refine nk_seq ?_
     refine ew_retA rfl rfl (.cons (.tmp rfl) .nil) ?_
     exact ⟨by simp [Pow.step, hc9, hz], Sd, by simp [Pow.step, hc9, hz, Pow.cells], HLe.refl _, fun h => by simp [Pow.step, hc9, hz, hc56] at h, fun _ => ⟨rfl, rfl⟩⟩
   ·skip
    refine rg (.q 0 (.q 1 (.q 2 (.q 3 (.q 4 (.q 5 (.q 6 (.q 7 (.q 8 (.q 9 (.q 10 (.q 11 (.q 12 XT.done))))))))))))) (by kernel_rfl) (by kernel_rfl) ?_
    refine q_mv rfl rfl rfl ?_
    refine q_nil rfl rfl rfl ?_
    refine q_fa fa_127_0 rfl rfl rfl ?_
    refine q_fa fa_125_2 rfl rfl rfl ?_
    refine q_ld 0 Try.isAgg4 rfl rfl rfl rfl rfl ?_
    refine q_not rfl rfl rfl ?_
    refine x_T (by simp; omega) ?_
    refine q_mv rfl rfl rfl ?_
    iterate 5 refine q_skip rfl rfl ?_
    refine q_pkT rfl rfl rfl rfl ?_
    refine x_end ?_
    refine nk_cut (e' := [(0, _), (1, _), (4, _), (9, _), (22, _), (56, _)]) [0, 1, 4, 9, 22, 56] rfl ?_
    refine nk_seq ?_
    refine ew_true rfl ?_
    refine rg (.q 0 (.h 1 XT.done)) (by kernel_rfl) (by kernel_rfl) ?_
    refine q_mv rfl rfl rfl ?_
    refine h_callv hf (S2 := [_]) rfl rfl rfl rfl rfl (List.perm_append_comm (l₁ := [_])) (hdo) ?_
    rintro r_ Sd2 H2 hl3 hr0
    refine ⟨kp0, ?_⟩
    refine x_perm (S' := (_ :: Sd2)) (List.perm_append_comm (l₁ := Sd2) (l₂ := [_])) ?_
    refine x_end ?_
    refine nk_cut (e' := [(0, _), (1, _), (4, _), (9, _), (22, _), (56, _)]) [0, 1, 4, 9, 22, 56] rfl ?_
    refine nk_seq ?_
    refine ew_seq ?_
    refine rg (.q 0 (.q 1 (.q 2 (.q 3 (.q 4 (.q 5 (.q 6 XT.done))))))) (by kernel_rfl) (by kernel_rfl) ?_
    refine q_mv rfl rfl rfl ?_
    refine q_nil rfl rfl rfl ?_
    refine q_fa fa_127_0 rfl rfl rfl ?_
    refine q_fa fa_125_2 rfl rfl rfl ?_
    refine q_ld 0 Try.isAgg4 rfl rfl rfl rfl rfl ?_
    refine q_not rfl rfl rfl ?_
    refine q_as rfl rfl rfl ?_
    refine x_end ?_
    refine nk_cut (e' := [(0, _), (1, _), (4, _), (9, _), (22, _), (56, _)]) [0, 1, 4, 9, 22, 56] rfl ?_
    refine nk_seq ?_
    refine ew_retA rfl rfl (.cons (.tmp rfl) .nil) ?_
    have hn : ¬ p.fuse - 1 < 0 := by omega
    exact ⟨by simp [Pow.step, hc9, hc22, hz, hn], Sd2, by simp [Pow.step, hc9, hc22, hz, hn, Pow.cells], hl3, fun _ => ⟨_, hr0⟩, fun h => by simp [Pow.step, hc9, hc22, hz] at h⟩

end Go.GW
