/- Own words: keepers of anchors, in plain Lean. -/
import Derived.Test.YtcchamnagcpaiaaAncD
namespace Go.GW
open Go

structure Kp where
  c : Cel
  p : Pow
  last : Anc
  has : Bool

def Kp.save (k : Kp) (a : Anc) : Kp × Int :=
  if ({ a with seq := k.last.seq + 1 } : Anc).check ≠ 0 then (k, ({ a with seq := k.last.seq + 1 } : Anc).check)
  else if (k.c.write k.p ((k.last.seq + 1) % 2) ({ a with seq := k.last.seq + 1 } : Anc).enc).2.2 ≠ 0 then
    (⟨(k.c.write k.p ((k.last.seq + 1) % 2) ({ a with seq := k.last.seq + 1 } : Anc).enc).1, (k.c.write k.p ((k.last.seq + 1) % 2) ({ a with seq := k.last.seq + 1 } : Anc).enc).2.1, k.last, k.has⟩, (k.c.write k.p ((k.last.seq + 1) % 2) ({ a with seq := k.last.seq + 1 } : Anc).enc).2.2)
  else (⟨(k.c.write k.p ((k.last.seq + 1) % 2) ({ a with seq := k.last.seq + 1 } : Anc).enc).1, (k.c.write k.p ((k.last.seq + 1) % 2) ({ a with seq := k.last.seq + 1 } : Anc).enc).2.1, { a with seq := k.last.seq + 1 }, true⟩, 0)
def Kp.give (k : Kp) : Kp × Int × Int :=
  if k.has = false then (k, 0, 9)
  else if (k.save { k.last with given_ := k.last.given_ + 1 }).2 ≠ 0 then ((k.save { k.last with given_ := k.last.given_ + 1 }).1, 0, (k.save { k.last with given_ := k.last.given_ + 1 }).2)
  else ((k.save { k.last with given_ := k.last.given_ + 1 }).1, k.last.given_ + 1, 0)
def Kp.commit (k : Kp) (e r pe : Int) : Kp × Int :=
  if k.has = false ∨ e ≤ k.last.epoch ∨ k.last.given_ < e then (k, 15) else k.save { k.last with epoch := e, root := r, rep := e, pending := pe }
def Kp.clean (k : Kp) : Kp × Int := if k.has = false then (k, 9) else k.save { k.last with pending := 0 }
/-- what is known behind a place -/
def Kp.see (k : Kp) (b : List UInt8) : Kp :=
  if (Anc.dec b).2 = 0 ∧ (k.has = false ∨ k.last.seq < (Anc.dec b).1.seq) then ⟨k.c, k.p, (Anc.dec b).1, true⟩ else k
def kpNew (c : Cel) (p : Pow) : Kp := ⟨c, p, zeroAnc, false⟩
def Kp.opn (c : Cel) (p : Pow) : Kp × Int := if p.down = true then (kpNew c p, 5) else (((kpNew c p).see (pad c.s0)).see (pad c.s1), 0)

/-- it is in order, behind at most m steps -/
structure Kp.ok (k : Kp) (m : Int) : Prop where
  l : (k.has = false ∧ k.last = zeroAnc) ∨ (k.has = true ∧ k.last.check = 0)
  f0 : -1 ≤ k.p.fuse
  f1 : k.p.fuse ≤ 9223372036854775807
  s0 : 0 ≤ k.p.steps
  s1 : k.p.steps ≤ m
  w0 : 0 ≤ k.c.writes
  w1 : k.c.writes ≤ m
theorem Kp.ok.pw {k : Kp} {m : Int} (h : k.ok m) (hm : m ≤ 4611686018427387903) : k.p.ok := by
  have := h.s1
  exact ⟨h.f0, h.f1, h.s0, by omega⟩
theorem Kp.ok.seq {k : Kp} {m : Int} (h : k.ok m) : 0 ≤ k.last.seq ∧ k.last.seq ≤ 1099511627776 := by
  rcases h.l with ⟨_, h2⟩ | ⟨_, h2⟩
  · rw [h2]; exact ⟨by decide, by decide⟩
  · have := Anc.check_ok h2
    exact ⟨by have := this.seq0; omega, this.seq1⟩
theorem Kp.ok.giv {k : Kp} {m : Int} (h : k.ok m) : 0 ≤ k.last.given_ ∧ k.last.given_ ≤ 1099511627776 := by
  rcases h.l with ⟨_, h2⟩ | ⟨_, h2⟩
  · rw [h2]; exact ⟨by decide, by decide⟩
  · have := Anc.check_ok h2
    exact ⟨this.gi0, this.gi1⟩
theorem step_le {p : Pow} (h0 : -1 ≤ p.fuse) (h1 : p.fuse ≤ 9223372036854775807) (hs : 0 ≤ p.steps) : -1 ≤ p.step.1.fuse ∧ p.step.1.fuse ≤ 9223372036854775807 ∧ 0 ≤ p.step.1.steps ∧ p.step.1.steps ≤ p.steps + 1 := by
  unfold Pow.step
  split
  · exact ⟨h0, h1, hs, by simp only; omega⟩
  · split
    · exact ⟨h0, h1, by simp only; omega, by simp only; omega⟩
    · split
      · exact ⟨by simp only; omega, by simp only; omega, by simp only; omega, by simp only; omega⟩
      · exact ⟨by simp only; omega, by simp only; omega, by simp only; omega, by simp only; omega⟩
theorem write_le {c : Cel} {p : Pow} {i : Int} {b : List UInt8} (h0 : -1 ≤ p.fuse) (h1 : p.fuse ≤ 9223372036854775807) (hs : 0 ≤ p.steps) :
    -1 ≤ (c.write p i b).2.1.fuse ∧ (c.write p i b).2.1.fuse ≤ 9223372036854775807 ∧ 0 ≤ (c.write p i b).2.1.steps ∧ (c.write p i b).2.1.steps ≤ p.steps + 1 ∧ c.writes ≤ (c.write p i b).1.writes ∧ (c.write p i b).1.writes ≤ c.writes + 1 := by
  have h := step_le h0 h1 hs
  unfold Cel.write
  split
  · exact ⟨h0, h1, hs, by simp only; omega, by simp only; omega, by simp only; omega⟩
  · split
    · exact ⟨h0, h1, hs, by simp only; omega, by simp only; omega, by simp only; omega⟩
    · refine ⟨h.1, h.2.1, h.2.2.1, h.2.2.2, ?_, ?_⟩
      · simp only
        split
        · rw [put_writes]; omega
        · omega
      · simp only
        split
        · rw [put_writes]; omega
        · omega
theorem Kp.save_ok {k : Kp} {m : Int} (h : k.ok m) (a : Anc) : (k.save a).1.ok (m + 1) := by
  obtain ⟨hl, hf0, hf1, hs0, hs1, hw0, hw1⟩ := h
  have hw := write_le (c := k.c) (i := (k.last.seq + 1) % 2) (b := ({ a with seq := k.last.seq + 1 } : Anc).enc) hf0 hf1 hs0
  obtain ⟨h1, h2, h3, h4, h5, h6⟩ := hw
  unfold Kp.save
  split
  · exact ⟨hl, hf0, hf1, hs0, by simp only; omega, hw0, by simp only; omega⟩
  · rename_i hc
    split
    · exact ⟨hl, h1, h2, h3, by simp only; omega, by simp only; omega, by simp only; omega⟩
    · exact ⟨.inr ⟨rfl, by simpa using hc⟩, h1, h2, h3, by simp only; omega, by simp only; omega, by simp only; omega⟩
theorem Kp.ok.more {k : Kp} {m : Int} (h : k.ok m) : k.ok (m + 1) := ⟨h.l, h.f0, h.f1, h.s0, by have := h.s1; omega, h.w0, by have := h.w1; omega⟩
theorem Kp.give_ok {k : Kp} {m : Int} (h : k.ok m) : k.give.1.ok (m + 1) := by
  unfold Kp.give
  split
  · exact h.more
  · split
    · exact Kp.save_ok h _
    · exact Kp.save_ok h _
theorem Kp.commit_ok {k : Kp} {m : Int} (h : k.ok m) (e r pe : Int) : (k.commit e r pe).1.ok (m + 1) := by
  unfold Kp.commit
  split
  · exact h.more
  · exact Kp.save_ok h _
theorem Kp.clean_ok {k : Kp} {m : Int} (h : k.ok m) : k.clean.1.ok (m + 1) := by
  unfold Kp.clean
  split
  · exact h.more
  · exact Kp.save_ok h _
theorem dec_chk0 {b : List UInt8} (h : (Anc.dec b).2 = 0) : (Anc.dec b).1.check = 0 := by
  unfold Anc.dec at h ⊢
  split
  · rename_i h1
    rw [if_pos h1] at h
    cases h
  · rename_i h1
    rw [if_neg h1] at h
    split
    · rename_i h2
      rw [if_pos h2] at h
      exact absurd h h2
    · rename_i h2
      rw [if_neg h2] at h
      split
      · rename_i h3
        rw [if_pos h3] at h
        exact absurd h h3
      · rename_i h3
        simpa using h3
theorem Kp.see_ok {k : Kp} {m : Int} (h : k.ok m) (b : List UInt8) : (k.see b).ok m := by
  unfold Kp.see
  split
  · rename_i h1
    exact ⟨.inr ⟨rfl, dec_chk0 h1.1⟩, h.f0, h.f1, h.s0, h.s1, h.w0, h.w1⟩
  · exact h
theorem see_c (k : Kp) (b : List UInt8) : (k.see b).c = k.c ∧ (k.see b).p = k.p := by
  unfold Kp.see
  split
  · exact ⟨rfl, rfl⟩
  · exact ⟨rfl, rfl⟩
theorem Kp.opn_ok {c : Cel} {p : Pow} {m : Int} (h : (kpNew c p).ok m) : (Kp.opn c p).1.ok m := by
  unfold Kp.opn
  split
  · exact h
  · exact Kp.see_ok (Kp.see_ok h _) _
theorem Kp.ok.zero {k : Kp} {m : Int} (h : k.ok m) : (kpNew k.c k.p).ok m := ⟨.inl ⟨rfl, rfl⟩, h.f0, h.f1, h.s0, h.s1, h.w0, h.w1⟩

theorem Kp.save_1 {k : Kp} {a xv : Anc} (hx : ({ a with seq := k.last.seq + 1 } : Anc) = xv) (h : ¬ xv.check = 0) : k.save a = (k, xv.check) := by
  subst hx
  exact if_pos h
theorem Kp.save_2 {k : Kp} {a xv : Anc} {q : Int} (hx : ({ a with seq := k.last.seq + 1 } : Anc) = xv) (hq : (k.last.seq + 1) % 2 = q) (h : xv.check = 0) (hw : ¬ (k.c.write k.p q xv.put).2.2 = 0) :
    k.save a = (⟨(k.c.write k.p q xv.put).1, (k.c.write k.p q xv.put).2.1, k.last, k.has⟩, (k.c.write k.p q xv.put).2.2) := by
  subst hx hq
  rw [Anc.put_ok h] at hw ⊢
  exact (if_neg (fun h2 => h2 h)).trans (if_pos hw)
theorem Kp.save_3 {k : Kp} {a xv : Anc} {q : Int} (hx : ({ a with seq := k.last.seq + 1 } : Anc) = xv) (hq : (k.last.seq + 1) % 2 = q) (h : xv.check = 0) (hw : (k.c.write k.p q xv.put).2.2 = 0) :
    k.save a = (⟨(k.c.write k.p q xv.put).1, (k.c.write k.p q xv.put).2.1, xv, true⟩, 0) := by
  subst hx hq
  rw [Anc.put_ok h] at hw ⊢
  exact (if_neg (fun h2 => h2 h)).trans (if_neg (fun h2 => h2 hw))

theorem Kp.give_1 {k : Kp} (h : k.has = false) : k.give = (k, 0, 9) := if_pos h
theorem Kp.give_2 {k : Kp} (h : ¬ k.has = false) (hs : ¬ (k.save { k.last with given_ := k.last.given_ + 1 }).2 = 0) : k.give = ((k.save { k.last with given_ := k.last.given_ + 1 }).1, 0, (k.save { k.last with given_ := k.last.given_ + 1 }).2) := (if_neg h).trans (if_pos hs)
theorem Kp.give_3 {k : Kp} (h : ¬ k.has = false) (hs : (k.save { k.last with given_ := k.last.given_ + 1 }).2 = 0) : k.give = ((k.save { k.last with given_ := k.last.given_ + 1 }).1, k.last.given_ + 1, 0) := (if_neg h).trans (if_neg (fun h2 => h2 hs))
theorem Kp.commit_1 {k : Kp} {e r pe : Int} (h : k.has = false ∨ e ≤ k.last.epoch ∨ k.last.given_ < e) : k.commit e r pe = (k, 15) := if_pos h
theorem Kp.commit_2 {k : Kp} {e r pe : Int} (h : ¬ (k.has = false ∨ e ≤ k.last.epoch ∨ k.last.given_ < e)) : k.commit e r pe = k.save { k.last with epoch := e, root := r, rep := e, pending := pe } := if_neg h
theorem Kp.clean_1 {k : Kp} (h : k.has = false) : k.clean = (k, 9) := if_pos h
theorem Kp.clean_2 {k : Kp} (h : ¬ k.has = false) : k.clean = k.save { k.last with pending := 0 } := if_neg h

def Kp.opnK (c : Cel) (p : Pow) : Nat → Kp
  | 0 => kpNew c p
  | i + 1 => (Kp.opnK c p i).see (pad (c.get i))
theorem Kp.opnK_two {c : Cel} {p : Pow} (h : p.down = false) : Kp.opn c p = (Kp.opnK c p 2, 0) := by
  unfold Kp.opn
  rw [if_neg (by rw [h]; decide)]
  rfl
theorem Kp.opn_down {c : Cel} {p : Pow} (h : p.down = true) : Kp.opn c p = (kpNew c p, 5) := if_pos h
theorem Kp.opnK_cp (c : Cel) (p : Pow) : ∀ i, (Kp.opnK c p i).c = c ∧ (Kp.opnK c p i).p = p
  | 0 => ⟨rfl, rfl⟩
  | i + 1 => by
    have h := Kp.opnK_cp c p i
    have h2 := see_c (Kp.opnK c p i) (pad (c.get i))
    exact ⟨h2.1.trans h.1, h2.2.trans h.2⟩
theorem read_ok {c : Cel} {p : Pow} {i : Int} (h : p.down = false) (h0 : 0 ≤ i) (h1 : i < 4) : c.read p i = (pad (c.get i), 0) := by
  unfold Cel.read
  rw [if_neg (by omega), if_neg (by rw [h]; decide)]
theorem read_down {c : Cel} {p : Pow} {i : Int} (h : p.down = true) (h0 : 0 ≤ i) (h1 : i < 4) : c.read p i = ([], 5) := by
  unfold Cel.read
  rw [if_neg (by omega), if_pos h]
theorem see_no1 {k : Kp} {b : List UInt8} (h : ¬ (Anc.dec b).2 = 0) : k.see b = k := if_neg (fun h2 => h h2.1)
theorem see_no2 {k : Kp} {b : List UInt8} (h : ¬ k.has = false) (h2 : ¬ k.last.seq < (Anc.dec b).1.seq) : k.see b = k := if_neg (fun h3 => h3.2.elim h h2)
theorem see_yes {k : Kp} {b : List UInt8} (h : (Anc.dec b).2 = 0) (h2 : k.has = false ∨ k.last.seq < (Anc.dec b).1.seq) : k.see b = ⟨k.c, k.p, (Anc.dec b).1, true⟩ := if_pos ⟨h, h2⟩

theorem pad_len {xs : List UInt8} (h : xs.length ≤ 1024) : (pad xs).length = 1024 := by
  unfold pad zeros; rw [List.length_append, List.length_replicate]; omega
theorem get_lim {H : Hp} {a0 a1 a2 a3 : Sli} {c : Cel} (h : CelS H a0 a1 a2 a3 c) (i : Int) : (c.get i).length ≤ 1024 := by
  unfold Cel.get
  split
  · exact h.h0.lim
  · split
    · exact h.h1.lim
    · split
      · exact h.h2.lim
      · exact h.h3.lim

/-! ### as the program has them -/
theorem An.ok.cong {H : Hp} {a b : An} (h : An.ok H a) (hm : b.m = a.m) (hA : b.A = a.A) (hn : b.n = a.n) (hc : b.c = a.c) (hk : b.ks = a.ks) : An.ok H b := by
  obtain ⟨s, e, g, r, rp, p, m, A, n, c, ks⟩ := a
  obtain ⟨s', e', g', r', rp', p', m', A', n', c', ks'⟩ := b
  simp only at hm hA hn hc hk
  subst hm hA hn hc hk
  exact ⟨h.m, h.ks, h.lm, h.lk⟩
def kpCells (gc : Nat) (a : An) (has : Bool) : List SV := [.p ⟨gc, 0, none⟩, .i a.seq, .i a.epoch, .i a.given_, .i a.root, .i a.rep, .i a.pending, .sl a.m.A a.m.n a.m.c, .sl a.A a.n a.c, .b has]
def zeroAn' : An := zeroAn
structure KpS (H : Hp) (a : An) (a0 a1 a2 a3 : Sli) (k : Kp) : Prop where
  an : An.ok H a
  av : a.v = k.last
  cs : CelS H a0 a1 a2 a3 k.c
theorem KpS.mono {H H' : Hp} {a : An} {a0 a1 a2 a3 : Sli} {k : Kp} (h : KpS H a a0 a1 a2 a3 k) (hle : HLe H H') : KpS H' a a0 a1 a2 a3 k := ⟨h.an.mono hle, h.av, h.cs.mono hle⟩
/-- the reference's -/
def rkpCells (p : Pow) (A : Option Addr) (c : Nat) (w : Int) (a : An) (has : Bool) : List SV := rcelCells p A c w ++ a.cells ++ [.b has]
structure RKpS (H : Hp) (a : An) (A : Option Addr) (c : Nat) (ps : List Sli) (k : Kp) : Prop where
  an : An.ok H a
  av : a.v = k.last
  cs : RCelS H A c ps k.c
theorem RKpS.mono {H H' : Hp} {a : An} {A : Option Addr} {c : Nat} {ps : List Sli} {k : Kp} (h : RKpS H a A c ps k) (hle : HLe H H') : RKpS H' a A c ps k := ⟨h.an.mono hle, h.av, h.cs.mono hle⟩

end Go.GW
