/- Own words: what law 14 says of keepers, in plain Lean: an anchor that was saved is found again, the old or the new; epochs rise. -/
import Derived.Test.YtcchamnagcpaiaaLawB
namespace Go.GW
open Go

theorem dec_pad {a : Anc} (h : a.check = 0) : Anc.dec (pad a.enc) = (a, 0) := Anc.back h _
theorem get_put_eq {c : Cel} {i : Int} {b : List UInt8} (hi : i = 0 ∨ i = 1) : (c.put i b).get i = b := by
  rcases hi with rfl | rfl <;> simp [Cel.put, Cel.get]
theorem get_put_ne {c : Cel} {i j : Int} {b : List UInt8} (hi : i = 0 ∨ i = 1) (hj : j = 0 ∨ j = 1) (hne : i ≠ j) : (c.put i b).get j = c.get j := by
  rcases hi with rfl | rfl <;> rcases hj with rfl | rfl <;> first | exact absurd rfl hne | simp [Cel.put, Cel.get]

/-- what a sector is read as -/
def Cel.d (c : Cel) (i : Int) : Anc × Int := Anc.dec (pad (c.get i))

theorem see_has (k : Kp) (b : List UInt8) : (k.see b).has = (k.has || decide ((Anc.dec b).2 = 0)) := by
  unfold Kp.see
  by_cases h : (Anc.dec b).2 = 0 <;> by_cases h2 : k.has = false <;> by_cases h3 : k.last.seq < (Anc.dec b).1.seq <;> simp [h, h2, h3]

theorem opn_pick {c : Cel} {p : Pow} (hd : p.down = false) {i j : Int} (hij : (i = 0 ∧ j = 1) ∨ (i = 1 ∧ j = 0)) (hi : (c.d i).2 = 0) (hj : (c.d j).2 ≠ 0 ∨ (c.d j).1.seq < (c.d i).1.seq) :
    (Kp.opn c p).1.has = true ∧ (Kp.opn c p).1.last = (c.d i).1 ∧ (Kp.opn c p).2 = 0 := by
  have e : Kp.opn c p = (((kpNew c p).see (pad c.s0)).see (pad c.s1), 0) := if_neg (by rw [hd]; decide)
  rw [e]
  refine ⟨?_, ?_, rfl⟩
  · rcases hij with ⟨rfl, rfl⟩ | ⟨rfl, rfl⟩
    · have h0 : (Anc.dec (pad c.s0)).2 = 0 := hi
      simp only [see_has, h0]
      simp
    · have h0 : (Anc.dec (pad c.s1)).2 = 0 := hi
      simp only [see_has, h0]
      simp
  · rcases hij with ⟨rfl, rfl⟩ | ⟨rfl, rfl⟩
    · have h0 : (Anc.dec (pad c.s0)).2 = 0 := hi
      rw [see_yes h0 (.inl rfl)]
      rcases hj with hj | hj
      · have hj' : ¬ (Anc.dec (pad c.s1)).2 = 0 := hj
        rw [see_no1 hj']; rfl
      · by_cases h1 : (Anc.dec (pad c.s1)).2 = 0
        · rw [see_no2 (by simp) (by
            have h2 : (Anc.dec (pad c.s1)).1.seq < (Anc.dec (pad c.s0)).1.seq := hj
            simp only; omega)]
          rfl
        · rw [see_no1 h1]; rfl
    · have h1 : (Anc.dec (pad c.s1)).2 = 0 := hi
      rcases hj with hj | hj
      · have hj' : ¬ (Anc.dec (pad c.s0)).2 = 0 := hj
        rw [see_no1 hj', see_yes h1 (.inl rfl)]; rfl
      · by_cases h0 : (Anc.dec (pad c.s0)).2 = 0
        · rw [see_yes h0 (.inl rfl), see_yes h1 (.inr hj)]; rfl
        · rw [see_no1 h0, see_yes h1 (.inl rfl)]; rfl
theorem opn_none {c : Cel} {p : Pow} (hd : p.down = false) (h0 : (c.d 0).2 ≠ 0) (h1 : (c.d 1).2 ≠ 0) :
    (Kp.opn c p).1.has = false ∧ (Kp.opn c p).1.last = zeroAnc ∧ (Kp.opn c p).2 = 0 := by
  have e : Kp.opn c p = (((kpNew c p).see (pad c.s0)).see (pad c.s1), 0) := if_neg (by rw [hd]; decide)
  have h0' : ¬ (Anc.dec (pad c.s0)).2 = 0 := h0
  have h1' : ¬ (Anc.dec (pad c.s1)).2 = 0 := h1
  rw [e, see_no1 h0', see_no1 h1']
  exact ⟨rfl, rfl, rfl⟩
theorem opn_cp (c : Cel) (p : Pow) : (Kp.opn c p).1.c = c ∧ (Kp.opn c p).1.p = p := by
  unfold Kp.opn
  split
  · exact ⟨rfl, rfl⟩
  · exact ⟨((see_c _ _).1.trans (see_c _ _).1), ((see_c _ _).2.trans (see_c _ _).2)⟩

/-- the keeper knows what its cell has; or the power went while the next one was written -/
structure Kp.inv (k : Kp) : Prop where
  chk : k.last.check = 0
  has : k.has = true
  at_ : k.c.d (k.last.seq % 2) = (k.last, 0)
  oth : (k.c.d ((k.last.seq + 1) % 2)).2 ≠ 0 ∨ (k.c.d ((k.last.seq + 1) % 2)).1.seq < k.last.seq ∨
    (k.p.down = true ∧ (k.c.d ((k.last.seq + 1) % 2)).2 = 0 ∧ (k.c.d ((k.last.seq + 1) % 2)).1.seq = k.last.seq + 1 ∧ k.last.given_ ≤ (k.c.d ((k.last.seq + 1) % 2)).1.given_ ∧ k.last.epoch ≤ (k.c.d ((k.last.seq + 1) % 2)).1.epoch)

/-- what a write does -/
inductive WR (c : Cel) (p : Pow) (i : Int) (b : List UInt8) : Cel × Pow × Int → Prop where
  | no (p' : Pow) (z : Int) (hz : z ≠ 0) (hd : p.down = true → p'.down = true) : WR c p i b (c, p', z)
  | half (p' : Pow) (hd : p'.down = true) : WR c p i b (c.put i b, p', 5)
  | yes (p' : Pow) (hd : p'.down = p.down) : WR c p i b (c.put i b, p', 0)
theorem write_wr (c : Cel) (p : Pow) (i : Int) (b : List UInt8) : WR c p i b (c.write p i b) := by
  unfold Cel.write Pow.step
  by_cases h1 : i < 0 ∨ 4 ≤ i
  · rw [if_pos h1]; exact .no _ _ (by decide) id
  rw [if_neg h1]
  by_cases h2 : 1024 < b.length
  · rw [if_pos h2]; exact .no _ _ (by decide) id
  rw [if_neg h2]
  by_cases h3 : p.down = true
  · simp only [if_pos h3]; exact .no _ _ (by decide) id
  simp only [if_neg h3]
  by_cases h4 : p.fuse < 0
  · simp only [if_pos h4, if_true]; exact .yes _ rfl
  simp only [if_neg h4]
  by_cases h5 : p.fuse = 0
  · simp only [if_pos h5]
    cases p.done with
    | true => exact .half _ rfl
    | false => exact .no _ _ (by decide) (fun _ => rfl)
  · simp only [if_neg h5, if_true]; exact .yes _ rfl

theorem mod2 (s : Int) : s % 2 = 0 ∨ s % 2 = 1 := by omega
theorem mod2_ne (s : Int) : (s + 1) % 2 ≠ s % 2 := by omega

/-- a keeper that saves what is no less than its last -/
theorem save_inv {k : Kp} (h : k.inv) {a : Anc} (hg : k.last.given_ ≤ a.given_) (he : k.last.epoch ≤ a.epoch) :
    (k.save a).1.inv ∧ k.last.given_ ≤ (k.save a).1.last.given_ ∧ k.last.epoch ≤ (k.save a).1.last.epoch ∧ ((k.save a).2 = 0 → (k.save a).1.last = { a with seq := k.last.seq + 1 }) := by
  generalize hx : ({ a with seq := k.last.seq + 1 } : Anc) = xv
  have hxs : xv.seq = k.last.seq + 1 := by rw [← hx]
  have hxg : xv.given_ = a.given_ := by rw [← hx]
  have hxe : xv.epoch = a.epoch := by rw [← hx]
  by_cases hc : xv.check = 0
  · have hp : xv.put = xv.enc := Anc.put_ok hc
    have hw := write_wr k.c k.p ((k.last.seq + 1) % 2) xv.put
    by_cases hz : (k.c.write k.p ((k.last.seq + 1) % 2) xv.put).2.2 = 0
    · rw [Kp.save_3 hx rfl hc hz]
      refine ⟨?_, by simp only; omega, by simp only; omega, fun _ => rfl⟩
      generalize hwe : k.c.write k.p ((k.last.seq + 1) % 2) xv.put = r at hw hz
      have hr : r.1 = k.c.put ((k.last.seq + 1) % 2) xv.put := by
        cases hw with
        | no p' z hz' hd => exact absurd hz hz'
        | half p' hd => rfl
        | yes p' hd => rfl
      refine ⟨hc, rfl, ?_, .inr (.inl ?_)⟩
      · show r.1.d (xv.seq % 2) = (xv, 0)
        rw [hr, hxs]
        unfold Cel.d
        rw [get_put_eq (mod2 _), hp, dec_pad hc]
      · show (r.1.d ((xv.seq + 1) % 2)).1.seq < xv.seq
        rw [hr, hxs, show (k.last.seq + 1 + 1) % 2 = k.last.seq % 2 by omega]
        unfold Cel.d
        rw [get_put_ne (mod2 _) (mod2 _) (mod2_ne _)]
        have := h.at_
        unfold Cel.d at this
        rw [this]
        simp only
        omega
    · rw [Kp.save_2 hx rfl hc hz]
      refine ⟨?_, Int.le_refl _, Int.le_refl _, fun h0 => absurd h0 hz⟩
      generalize hwe : k.c.write k.p ((k.last.seq + 1) % 2) xv.put = r at hw hz
      cases hw with
      | no p' z hz' hd =>
        refine ⟨h.chk, h.has, h.at_, ?_⟩
        rcases h.oth with h1 | h1 | ⟨h1, h2⟩
        · exact .inl h1
        · exact .inr (.inl h1)
        · exact .inr (.inr ⟨hd h1, h2⟩)
      | half p' hd =>
        have e1 : (k.c.put ((k.last.seq + 1) % 2) xv.put).d ((k.last.seq + 1) % 2) = (xv, 0) := by
          unfold Cel.d
          rw [get_put_eq (mod2 _), hp, dec_pad hc]
        refine ⟨h.chk, h.has, ?_, .inr (.inr ⟨hd, ?_⟩)⟩
        · show (k.c.put ((k.last.seq + 1) % 2) xv.put).d (k.last.seq % 2) = (k.last, 0)
          unfold Cel.d
          rw [get_put_ne (mod2 _) (mod2 _) (mod2_ne _)]
          exact h.at_
        · show ((k.c.put ((k.last.seq + 1) % 2) xv.put).d ((k.last.seq + 1) % 2)).2 = 0 ∧ _
          simp only [e1]
          exact ⟨trivial, hxs, by omega, by omega⟩
      | yes p' hd => exact absurd rfl hz
  · rw [Kp.save_1 hx hc]
    exact ⟨h, Int.le_refl _, Int.le_refl _, fun h0 => absurd h0 hc⟩

theorem give_inv {k : Kp} (h : k.inv) : k.give.1.inv ∧ k.last.given_ ≤ k.give.1.last.given_ ∧ k.last.epoch ≤ k.give.1.last.epoch ∧ (k.give.2.2 = 0 → k.give.2.1 = k.last.given_ + 1 ∧ k.give.1.last.given_ = k.last.given_ + 1) := by
  have hh : ¬ k.has = false := by rw [h.has]; decide
  have hs := save_inv h (a := { k.last with given_ := k.last.given_ + 1 }) (by simp only; omega) (Int.le_refl _)
  by_cases h0 : (k.save { k.last with given_ := k.last.given_ + 1 }).2 = 0
  · rw [Kp.give_3 hh h0]
    exact ⟨hs.1, hs.2.1, hs.2.2.1, fun _ => ⟨rfl, by rw [hs.2.2.2 h0]⟩⟩
  · rw [Kp.give_2 hh h0]
    exact ⟨hs.1, hs.2.1, hs.2.2.1, fun h1 => absurd h1 h0⟩
theorem commit_inv {k : Kp} (h : k.inv) (e r pe : Int) : (k.commit e r pe).1.inv ∧ k.last.given_ ≤ (k.commit e r pe).1.last.given_ ∧ k.last.epoch ≤ (k.commit e r pe).1.last.epoch := by
  by_cases hc : k.has = false ∨ e ≤ k.last.epoch ∨ k.last.given_ < e
  · rw [Kp.commit_1 hc]
    exact ⟨h, Int.le_refl _, Int.le_refl _⟩
  · rw [Kp.commit_2 hc]
    have hs := save_inv h (a := { k.last with epoch := e, root := r, rep := e, pending := pe }) (Int.le_refl _) (by simp only; omega)
    exact ⟨hs.1, hs.2.1, hs.2.2.1⟩
theorem clean_inv {k : Kp} (h : k.inv) : k.clean.1.inv ∧ k.last.given_ ≤ k.clean.1.last.given_ ∧ k.last.epoch ≤ k.clean.1.last.epoch := by
  have hh : ¬ k.has = false := by rw [h.has]; decide
  rw [Kp.clean_2 hh]
  have hs := save_inv h (a := { k.last with pending := 0 }) (Int.le_refl _) (Int.le_refl _)
  exact ⟨hs.1, hs.2.1, hs.2.2.1⟩
theorem fuse_inv {k : Kp} (h : k.inv) (n : Int) (d : Bool) : (Kp.mk k.c (k.p.setFuse n d) k.last k.has).inv := ⟨h.chk, h.has, h.at_, h.oth⟩
theorem ij2 (s : Int) : (s % 2 = 0 ∧ (s + 1) % 2 = 1) ∨ (s % 2 = 1 ∧ (s + 1) % 2 = 0) := by omega
theorem opn_inv {k : Kp} (h : k.inv) {p : Pow} (hd : p.down = false) : (Kp.opn k.c p).1.inv ∧ k.last.given_ ≤ (Kp.opn k.c p).1.last.given_ ∧ k.last.epoch ≤ (Kp.opn k.c p).1.last.epoch := by
  have hcp := opn_cp k.c p
  have hi : (k.c.d (k.last.seq % 2)).2 = 0 := by rw [h.at_]
  have keep : ((k.c.d ((k.last.seq + 1) % 2)).2 ≠ 0 ∨ (k.c.d ((k.last.seq + 1) % 2)).1.seq < k.last.seq) → (Kp.opn k.c p).1.inv ∧ k.last.given_ ≤ (Kp.opn k.c p).1.last.given_ ∧ k.last.epoch ≤ (Kp.opn k.c p).1.last.epoch := by
    intro ho
    have hp := opn_pick (c := k.c) hd (ij2 k.last.seq) hi (by rw [h.at_]; exact ho)
    rw [h.at_] at hp
    obtain ⟨h1, h2, h3⟩ := hp
    have h2' : (Kp.opn k.c p).1.last = k.last := h2
    rw [h2']
    refine ⟨⟨by rw [h2']; exact h.chk, h1, by rw [h2', hcp.1]; exact h.at_, by rw [h2', hcp.1]; rcases ho with ho | ho; exact .inl ho; exact .inr (.inl ho)⟩, Int.le_refl _, Int.le_refl _⟩
  rcases h.oth with h1 | h1 | ⟨h1, h2, h3, h4, h5⟩
  · exact keep (.inl h1)
  · exact keep (.inr h1)
  · have hp := opn_pick (c := k.c) hd (i := (k.last.seq + 1) % 2) (j := k.last.seq % 2) (by omega) h2 (by rw [h.at_, h3]; simp only; omega)
    obtain ⟨g1, g2, g3⟩ := hp
    have hchk : (k.c.d ((k.last.seq + 1) % 2)).1.check = 0 := dec_chk0 h2
    refine ⟨⟨by rw [g2]; exact hchk, g1, ?_, ?_⟩, by rw [g2]; exact h4, by rw [g2]; exact h5⟩
    · rw [g2, hcp.1, h3]
      have : (k.c.d ((k.last.seq + 1) % 2)) = ((k.c.d ((k.last.seq + 1) % 2)).1, (k.c.d ((k.last.seq + 1) % 2)).2) := rfl
      rw [h2] at this
      exact this
    · rw [g2, hcp.1, h3, show (k.last.seq + 1 + 1) % 2 = k.last.seq % 2 by omega, h.at_]
      exact .inr (.inl (by simp only; omega))

/-! ### the old or the new -/
/-- the power is there and does not go; the keeper knows what its cell has -/
structure Kp.calm (k : Kp) : Prop where
  f : k.p.fuse < 0
  d : k.p.down = false
  i : (k.has = true ∧ k.inv) ∨ (k.has = false ∧ k.last = zeroAnc ∧ (k.c.d 0).2 ≠ 0 ∧ (k.c.d 1).2 ≠ 0)
theorem Kp.calm.same {k : Kp} (h : k.calm) {p : Pow} (hd : p.down = false) : (Kp.opn k.c p).1.has = k.has ∧ (Kp.opn k.c p).1.last = k.last ∧ (Kp.opn k.c p).2 = 0 := by
  rcases h.i with ⟨hh, hi⟩ | ⟨hh, hl, h0, h1⟩
  · have ho : (k.c.d ((k.last.seq + 1) % 2)).2 ≠ 0 ∨ (k.c.d ((k.last.seq + 1) % 2)).1.seq < k.last.seq := by
      rcases hi.oth with h1 | h1 | h1
      · exact .inl h1
      · exact .inr h1
      · have := h.d; rw [h1.1] at this; cases this
    have hp := opn_pick (c := k.c) hd (ij2 k.last.seq) (by rw [hi.at_]) (by rw [hi.at_]; exact ho)
    rw [hi.at_] at hp
    rw [hh]
    exact hp
  · have hp := opn_none (c := k.c) hd h0 h1
    rw [hh, hl]
    exact hp
/-- behind a block that was written with an anchor the keeper finds that -/
theorem Kp.calm.found {k : Kp} (h : k.calm) {xv : Anc} (hx : xv.seq = k.last.seq + 1) (hc : xv.check = 0) {p : Pow} (hd : p.down = false) :
    (Kp.opn (k.c.put ((k.last.seq + 1) % 2) xv.enc) p).1.has = true ∧ (Kp.opn (k.c.put ((k.last.seq + 1) % 2) xv.enc) p).1.last = xv ∧ (Kp.opn (k.c.put ((k.last.seq + 1) % 2) xv.enc) p).2 = 0 := by
  have e1 : (k.c.put ((k.last.seq + 1) % 2) xv.enc).d ((k.last.seq + 1) % 2) = (xv, 0) := by
    unfold Cel.d
    rw [get_put_eq (mod2 _), dec_pad hc]
  have e2 : (k.c.put ((k.last.seq + 1) % 2) xv.enc).d (k.last.seq % 2) = k.c.d (k.last.seq % 2) := by
    unfold Cel.d
    rw [get_put_ne (mod2 _) (mod2 _) (mod2_ne _)]
  have hp := opn_pick (c := k.c.put ((k.last.seq + 1) % 2) xv.enc) hd (i := (k.last.seq + 1) % 2) (j := k.last.seq % 2) (by omega) (by rw [e1]) (by
    rw [e1, e2]
    rcases h.i with ⟨hh, hi⟩ | ⟨hh, hl, h0, h1⟩
    · rw [hi.at_]; right; simp only; omega
    · left
      rcases mod2 k.last.seq with h2 | h2 <;> rw [h2]
      · exact h0
      · exact h1)
  rw [e1] at hp
  exact hp
theorem calm_write {c : Cel} {p : Pow} (hf : p.fuse < 0) (hd : p.down = false) {i : Int} (hi : i = 0 ∨ i = 1) {b : List UInt8} (hb : b.length ≤ 1024) : c.write p i b = (c.put i b, { p with steps := p.steps + 1 }, 0) := by
  unfold Cel.write Pow.step
  rw [if_neg (by omega), if_neg (by omega)]
  simp only [hd, Bool.false_eq_true, if_false, if_pos hf, if_true]
theorem Kp.calm.save {k : Kp} (h : k.calm) (a : Anc) : (k.save a).1.calm := by
  generalize hx : ({ a with seq := k.last.seq + 1 } : Anc) = xv
  have hxs : xv.seq = k.last.seq + 1 := by rw [← hx]
  by_cases hc : xv.check = 0
  · have hp : xv.put = xv.enc := Anc.put_ok hc
    have hw := calm_write (c := k.c) h.f h.d (mod2 (k.last.seq + 1)) (b := xv.put) (Nat.le_trans (Anc.put_len xv) (by decide))
    rw [Kp.save_3 hx rfl hc (by rw [hw])]
    refine ⟨by simp only [hw]; exact h.f, by simp only [hw]; exact h.d, .inl ⟨rfl, hc, rfl, ?_, ?_⟩⟩
    · simp only [hw, hxs]
      unfold Cel.d
      rw [get_put_eq (mod2 _), hp, dec_pad hc]
    · simp only [hw, hxs]
      rw [show (k.last.seq + 1 + 1) % 2 = k.last.seq % 2 by omega]
      unfold Cel.d
      rw [get_put_ne (mod2 _) (mod2 _) (mod2_ne _)]
      rcases h.i with ⟨hh, hi⟩ | ⟨hh, hl, h0, h1⟩
      · have := hi.at_
        unfold Cel.d at this
        rw [this]
        right; left; simp only; omega
      · left
        rcases mod2 k.last.seq with h2 | h2 <;> rw [h2]
        · exact h0
        · exact h1
  · rw [Kp.save_1 hx hc]
    exact h
theorem check_ne5 (a : Anc) : a.check ≠ 5 := by
  have hk : ∀ l : List KekV, keksCode l ≠ 5 := by
    intro l
    induction l with
    | nil => decide
    | cons x r ih =>
      unfold keksCode
      split
      · exact ih
      · unfold KekV.code
        split
        · decide
        · split <;> decide
  unfold Anc.check
  split
  · decide
  · split
    · decide
    · split
      · decide
      · exact hk _
/-- the power goes while an anchor is saved -/
theorem Kp.calm.cut {k : Kp} (h : k.calm) (a : Anc) (dn : Bool) {r : Kp × Int} (hr : (Kp.mk k.c (k.p.setFuse 0 dn) k.last k.has).save a = r) :
    (Kp.opn r.1.c r.1.p.back).2 = 0 ∧ (r.2 ≠ 5 ∨ dn = false → (Kp.opn r.1.c r.1.p.back).1.has = k.has ∧ (Kp.opn r.1.c r.1.p.back).1.last = k.last) ∧
      (¬ (r.2 ≠ 5 ∨ dn = false) → (Kp.opn r.1.c r.1.p.back).1.has = true ∧ (Kp.opn r.1.c r.1.p.back).1.last = { a with seq := k.last.seq + 1 }) := by
  subst hr
  generalize hx : ({ a with seq := k.last.seq + 1 } : Anc) = xv
  have hxs : xv.seq = k.last.seq + 1 := by rw [← hx]
  have hb : ∀ p : Pow, p.back.down = false := fun _ => rfl
  by_cases hc : xv.check = 0
  · have hp : xv.put = xv.enc := Anc.put_ok hc
    have hw : k.c.write (k.p.setFuse 0 dn) ((k.last.seq + 1) % 2) xv.put = (if dn = true then k.c.put ((k.last.seq + 1) % 2) xv.put else k.c, ⟨k.p.steps + 1, -1, dn, true⟩, 5) := by
      unfold Cel.write Pow.step Pow.setFuse
      have hlen : ¬ 1024 < xv.put.length := by have := Anc.put_len xv; omega
      have h2 := mod2 (k.last.seq + 1)
      have hm : max (0 : Int) (-1) = 0 := by decide
      rw [if_neg (by omega), if_neg hlen]
      simp [h.d, hm]
    rw [Kp.save_2 (k := Kp.mk k.c (k.p.setFuse 0 dn) k.last k.has) hx rfl hc (by simp only; rw [hw]; simp)]
    simp only [hw]
    cases dn with
    | true =>
      simp only [if_true]
      have hf := h.found hxs hc (hb ⟨k.p.steps + 1, -1, true, true⟩)
      rw [hp]
      exact ⟨hf.2.2, fun h2 => by simp at h2, fun _ => ⟨hf.1, hf.2.1⟩⟩
    | false =>
      have hs := h.same (hb ⟨k.p.steps + 1, -1, false, true⟩)
      exact ⟨hs.2.2, fun _ => ⟨hs.1, hs.2.1⟩, fun h2 => by simp at h2⟩
  · rw [Kp.save_1 (k := Kp.mk k.c (k.p.setFuse 0 dn) k.last k.has) hx hc]
    have hs := h.same (hb (k.p.setFuse 0 dn))
    exact ⟨hs.2.2, fun _ => ⟨hs.1, hs.2.1⟩, fun h2 => absurd (.inl (check_ne5 xv)) h2⟩

/-! ### where laws 14 begin -/
theorem wK0_calm : wK0.calm := ⟨by decide, by decide, .inr ⟨w0has, by decide, by decide +kernel, by decide +kernel⟩⟩
theorem wK1_inv : wK1.inv := by
  have h := (wK0_calm.save wA0).i
  rcases h with h | h
  · exact h.2
  · have h1 : wK1.has = true := by decide +kernel
    have h2 : wK1.has = false := h.1
    rw [h1] at h2
    cases h2
end Go.GW
