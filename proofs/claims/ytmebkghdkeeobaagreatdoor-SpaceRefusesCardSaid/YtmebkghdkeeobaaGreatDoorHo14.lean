import Derived.Test.YtmebkghdkeeobaaGreatDoorHo00
import Derived.Test.YtmebkghdkeeobaaGreatDoorHo09
import Derived.Test.YtmebkghdkeeobaaGreatDoorHo11
import Derived.Test.YtmebkghdkeeobaaGreatDoorHo13
import Derived.Test.YtmebkghdkeeobaaGreatDoorHo10
set_option maxRecDepth 100000
set_option maxHeartbeats 16000000
set_option linter.unusedSimpArgs false
namespace Go.Proofs.YtmebkghdkeeobaaGreatDoor
open Go.RowKit Sc
theorem numZ : Rc.num 0 := ⟨by decide, by decide⟩
abbrev Full (f : Fr) : Prop := f.bytes ≠ ⟨#[]⟩
structure FrO (n : Nat) (fs : List Fr) (C : Nat → ByteArray) : Prop where
  at_ : ∀ i (hi : i < fs.length), Full fs[i] → ∃ p : Nat, p < n ∧ fs[i].page = (p : Int) ∧ fs[i].bytes = C p
  ds : ∀ i j (hi : i < fs.length) (hj : j < fs.length), i ≠ j → Full fs[i] → Full fs[j] → fs[i].page ≠ fs[j].page
  pin : ∀ i (hi : i < fs.length), fs[i].pins = 0
  rc : ∀ i (hi : i < fs.length), Rc.num fs[i].rc
  sz : ∀ i (hi : i < fs.length), fs[i].bytes.size ≤ 512
def Dirt (fs : List Fr) (p : Nat) : Prop := ∃ i, ∃ h : i < fs.length, Full fs[i] ∧ fs[i].page = (p : Int) ∧ fs[i].rc ≠ 0
theorem set_at (fs : List Fr) (k : Nat) (f : Fr) (i : Nat) (hi : i < (fs.set k f).length) : (i = k ∧ (fs.set k f)[i] = f) ∨ (i ≠ k ∧ ∃ hi' : i < fs.length, (fs.set k f)[i] = fs[i]) := by
  rw [List.getElem_set]
  by_cases e : k = i
  · rw [if_pos e]; exact .inl ⟨e.symm, rfl⟩
  · rw [if_neg e]; exact .inr ⟨fun h => e h.symm, by simpa using hi, rfl⟩
theorem FrO.set {n : Nat} {fs : List Fr} {C C' : Nat → ByteArray} (h : FrO n fs C) (k : Nat) (f : Fr) (hp : f.pins = 0) (hr : Rc.num f.rc) (hs : f.bytes.size ≤ 512)
    (hf : Full f → ∃ p : Nat, p < n ∧ f.page = (p : Int) ∧ f.bytes = C' p) (hd : Full f → ∀ j (hj : j < fs.length), j ≠ k → Full fs[j] → f.page ≠ fs[j].page)
    (hC : ∀ j (hj : j < fs.length) (p : Nat), j ≠ k → Full fs[j] → fs[j].page = (p : Int) → C' p = C p) : FrO n (fs.set k f) C' := by
  refine ⟨fun i hi hb => ?_, fun i j hi hj hij hb hc => ?_, fun i hi => ?_, fun i hi => ?_, fun i hi => ?_⟩
  · rcases set_at fs k f i hi with ⟨_, e⟩ | ⟨e0, hi', e⟩
    · rw [e] at hb ⊢; exact hf hb
    · rw [e] at hb ⊢
      obtain ⟨p, h1, h2, h3⟩ := h.at_ i hi' hb
      exact ⟨p, h1, h2, by rw [h3, hC i hi' p e0 hb h2]⟩
  · rcases set_at fs k f i hi with ⟨e1, e⟩ | ⟨e1, hi', e⟩ <;> rcases set_at fs k f j hj with ⟨e2, e'⟩ | ⟨e2, hj', e'⟩
    · exact absurd (e1.trans e2.symm) hij
    · rw [e, e']; rw [e] at hb; rw [e'] at hc; exact hd hb j hj' e2 hc
    · rw [e, e']; rw [e] at hb; rw [e'] at hc; exact fun h5 => hd hc i hi' e1 hb h5.symm
    · rw [e, e']; rw [e] at hb; rw [e'] at hc; exact h.ds i j hi' hj' hij hb hc
  · rcases set_at fs k f i hi with ⟨_, e⟩ | ⟨_, hi', e⟩
    · rw [e]; exact hp
    · rw [e]; exact h.pin i hi'
  · rcases set_at fs k f i hi with ⟨_, e⟩ | ⟨_, hi', e⟩
    · rw [e]; exact hr
    · rw [e]; exact h.rc i hi'
  · rcases set_at fs k f i hi with ⟨_, e⟩ | ⟨_, hi', e⟩
    · rw [e]; exact hs
    · rw [e]; exact h.sz i hi'
theorem Dirt.set {fs : List Fr} {k : Nat} {f : Fr} {p : Nat} (hk : k < fs.length) (h : Dirt fs p) (hs : Full fs[k] → fs[k].page = (p : Int) → fs[k].rc ≠ 0 → Full f ∧ f.page = (p : Int) ∧ f.rc ≠ 0) : Dirt (fs.set k f) p := by
  obtain ⟨i, hi, h1, h2, h3⟩ := h
  refine ⟨i, by rw [List.length_set]; exact hi, ?_⟩
  rw [List.getElem_set]
  split
  · rename_i e; subst e; exact hs h1 h2 h3
  · exact ⟨h1, h2, h3⟩
def Lay (N : Nat) (d : Lg.Dk) (p : Nat) (b : ByteArray) : Prop := pgAt d (1 + N + 4 * p) = sealB b ∨ (pgAt d (1 + N + 4 * p) = zeroP ∧ b = newB (0 : Nat))
structure PI (N n : Nat) (s : Tx.St) (fs : List Fr) (C : Nat → ByteArray) : Prop where
  zl : s.zlog = (N : Int)
  zp : s.zpages = (n : Int)
  n1 : 1 ≤ n ∧ n ≤ 60 ∧ N ≤ 3000
  pw : Pw N (1 + N + 4 * n) s.disk s.log
  nf : 1 ≤ fs.length ∧ fs.length ≤ 64
  hd : 0 ≤ s.hand ∧ s.hand ≤ 64
  fr : FrO n fs C
  nm : ∀ p, p < n → Nrm (C p)
  dk : ∀ p, p < n → ¬ Dirt fs p → Lay N s.disk p (C p)
theorem PI.mark {N n : Nat} {s : Tx.St} {fs : List Fr} {C : Nat → ByteArray} (h : PI N n s fs C) {k : Nat} (hk : k < fs.length) (m : Bool) : PI N n s (fs.set k { fs[k] with mark := m }) C :=
  ⟨h.zl, h.zp, h.n1, h.pw, by rw [List.length_set]; exact h.nf, h.hd,
    h.fr.set k _ (h.fr.pin k hk) (h.fr.rc k hk) (h.fr.sz k hk) (fun hb => h.fr.at_ k hk hb) (fun hf j hj hjk hb => h.fr.ds k j hk hj (fun e => hjk e.symm) hf hb) (fun _ _ _ _ _ _ => rfl),
    h.nm, fun p hp hd => h.dk p hp fun hx => hd (hx.set hk fun a b c => ⟨a, b, c⟩)⟩
theorem PI.hand {N n : Nat} {s : Tx.St} {fs : List Fr} {C : Nat → ByteArray} (h : PI N n s fs C) (x : Int) (hx : 0 ≤ x ∧ x ≤ 64) : PI N n { s with hand := x } fs C :=
  ⟨h.zl, h.zp, h.n1, h.pw, h.nf, hx, h.fr, h.nm, h.dk⟩
theorem PI.load {N n : Nat} {s : Tx.St} {fs : List Fr} {C : Nat → ByteArray} (h : PI N n s fs C) {k : Nat} (hk : k < fs.length) {p : Nat} (hp : p < n) (hc : Full fs[k] → fs[k].rc = 0) (hno : ∀ j (hj : j < fs.length), Full fs[j] → fs[j].page ≠ (p : Int)) : PI N n s (fs.set k ⟨(p : Int), C p, 0, true, 0⟩) C :=
  ⟨h.zl, h.zp, h.n1, h.pw, by rw [List.length_set]; exact h.nf, h.hd,
    h.fr.set k _ rfl numZ (Nat.le_of_eq (h.nm p hp).size) (fun _ => ⟨p, hp, rfl, rfl⟩) (fun _ j hj _ hb e => hno j hj hb e.symm) (fun _ _ _ _ _ _ => rfl),
    h.nm, fun q hq hd => h.dk q hq fun hx => hd (hx.set hk fun a _ c => absurd (hc a) c)⟩
theorem PI.force {N n : Nat} {s : Tx.St} {fs : List Fr} {C : Nat → ByteArray} (h : PI N n s fs C) : ∃ d2 g2, Lg.forceD s.disk s.log = (d2, g2, 0) ∧ PI N n { s with disk := d2, log := g2 } fs C ∧ g2.end_ = s.log.end_ := by
  obtain ⟨d2, g2, e, h1, h2, h3⟩ := h.pw.force
  refine ⟨d2, g2, e, ⟨h.zl, h.zp, h.n1, h1, h.nf, h.hd, h.fr, h.nm, fun p hp hd => ?_⟩, h2⟩
  have e1 : pgAt d2 (1 + N + 4 * p) = pgAt s.disk (1 + N + 4 * p) := pgAt_same fun j hj _ => h3 j (by omega)
  rcases h.dk p hp hd with h4 | ⟨h4, h5⟩
  · exact .inl (e1.trans h4)
  · exact .inr ⟨e1.trans h4, h5⟩
theorem PI.flush {N n : Nat} {s : Tx.St} {fs : List Fr} {C : Nat → ByteArray} (h : PI N n s fs C) {k : Nat} (hk : k < fs.length) {p : Nat} (hp : p < n) (_hf : Full fs[k]) (hpg : fs[k].page = (p : Int)) :
    PI N n { s with disk := putP s.disk (1 + N + 4 * p) (sealB (C p)) } (fs.set k { fs[k] with rc := 0 }) C := by
  have hz := (sealB_is (h.nm p hp).is).2.2.2
  have hl := h.pw.len
  refine ⟨h.zl, h.zp, h.n1, h.pw.page hz (by omega) (by omega), by rw [List.length_set]; exact h.nf, h.hd,
    h.fr.set k _ (h.fr.pin k hk) numZ (h.fr.sz k hk) (fun hb => h.fr.at_ k hk hb) (fun hf j hj hjk hb => h.fr.ds k j hk hj (fun e => hjk e.symm) hf hb) (fun _ _ _ _ _ _ => rfl),
    h.nm, fun q hq hd => ?_⟩
  by_cases hqp : q = p
  · subst hqp
    exact .inl (putP_at hz (by rw [hl]; omega))
  · have e1 := putP_off s.disk (1 + N + 4 * p) (1 + N + 4 * q) (sealB (C p)) (by omega)
    have h6 : ¬ Dirt fs q := fun hx => hd (hx.set hk fun _ b _ => absurd (Int.ofNat.inj (b.symm.trans hpg)) hqp)
    rcases h.dk q hq h6 with h4 | ⟨h4, h5⟩
    · exact .inl (e1.trans h4)
    · exact .inr ⟨e1.trans h4, h5⟩
theorem PI.change {N n : Nat} {s s' : Tx.St} {fs : List Fr} {C : Nat → ByteArray} (h : PI N n s fs C) {k : Nat} (hk : k < fs.length) {p : Nat} (hp : p < n) (hf : Full fs[k]) (hpg : fs[k].page = (p : Int)) {b : ByteArray} (hb : Nrm b) {x : Int} (hx : Rc.num x) (hx0 : x ≠ 0)
    (e1 : s'.zlog = s.zlog) (e2 : s'.zpages = s.zpages) (e3 : s'.disk = s.disk) (e4 : s'.hand = s.hand) (hpw : Pw N (1 + N + 4 * n) s.disk s'.log) :
    PI N n s' (fs.set k ⟨(p : Int), b, 0, true, x⟩) (fun q => if q = p then b else C q) := by
  have hbn : b ≠ ⟨#[]⟩ := fun e => by have := hb.size; rw [e] at this; exact absurd this (by decide)
  refine ⟨e1.trans h.zl, e2.trans h.zp, h.n1, by rw [e3]; exact hpw, by rw [List.length_set]; exact h.nf, by rw [e4]; exact h.hd,
    h.fr.set k _ rfl hx (Nat.le_of_eq hb.size) (fun _ => ⟨p, hp, rfl, by rw [if_pos rfl]⟩) (fun _ j hj hjk hbj => by rw [show (⟨(p : Int), b, 0, true, x⟩ : Fr).page = fs[k].page from hpg.symm]; exact h.fr.ds k j hk hj (fun e => hjk e.symm) hf hbj) (fun j hj q hjk hbj hq => if_neg fun e => by
      subst e; exact h.fr.ds k j hk hj (fun e => hjk e.symm) hf hbj (hpg.trans hq.symm)), fun q hq => ?_, fun q hq hd => ?_⟩
  · by_cases e : q = p
    · rw [if_pos e]; exact hb
    · rw [if_neg e]; exact h.nm q hq
  · have hqp : q ≠ p := fun e => hd (by
      subst e
      exact ⟨k, by rw [List.length_set]; exact hk, by rw [List.getElem_set_self]; exact ⟨hbn, rfl, hx0⟩⟩)
    rw [if_neg hqp, e3]
    exact h.dk q hq fun hx => hd (hx.set hk fun _ b _ => absurd (Int.ofNat.inj (b.symm.trans hpg)) hqp)
structure MkR (fs fs' : List Fr) : Prop where
  len : fs'.length = fs.length
  at_ : ∀ i (h : i < fs.length) (h' : i < fs'.length), fs'[i] = { fs[i] with mark := fs'[i].mark }
theorem MkR.refl (fs : List Fr) : MkR fs fs := ⟨rfl, fun _ _ _ => rfl⟩
theorem MkR.set {fs fs' : List Fr} (h : MkR fs fs') {k : Nat} (hk : k < fs'.length) (m : Bool) : MkR fs (fs'.set k { fs'[k] with mark := m }) := by
  refine ⟨by rw [List.length_set]; exact h.len, fun i hi hi' => ?_⟩
  have hl := h.len
  rcases set_at fs' k { fs'[k] with mark := m } i hi' with ⟨e, e1⟩ | ⟨_, h2, e1⟩
  · subst e
    rw [e1, h.at_ i hi hk]
  · rw [e1]; exact h.at_ i hi h2
theorem Dirt.marks {fs fs' : List Fr} (h : MkR fs fs') {p : Nat} (hd : Dirt fs p) : Dirt fs' p := by
  obtain ⟨i, hi, h1, h2, h3⟩ := hd
  have hl := h.len
  have e := h.at_ i hi (by omega)
  exact ⟨i, by omega, by rw [e]; exact h1, by rw [e]; exact h2, by rw [e]; exact h3⟩
theorem FrO.marks {n : Nat} {fs fs' : List Fr} {C : Nat → ByteArray} (h : FrO n fs C) (hm : MkR fs fs') : FrO n fs' C := by
  have hl := hm.len
  refine ⟨fun i hi hb => ?_, fun i j hi hj hij hb hc => ?_, fun i hi => ?_, fun i hi => ?_, fun i hi => ?_⟩
  · have e := hm.at_ i (by omega) hi
    rw [e] at hb ⊢; exact h.at_ i (by omega) hb
  · have e := hm.at_ i (by omega) hi
    have e' := hm.at_ j (by omega) hj
    rw [e] at hb ⊢; rw [e'] at hc ⊢; exact h.ds i j (by omega) (by omega) hij hb hc
  · rw [hm.at_ i (by omega) hi]; exact h.pin i (by omega)
  · rw [hm.at_ i (by omega) hi]; exact h.rc i (by omega)
  · rw [hm.at_ i (by omega) hi]; exact h.sz i (by omega)
theorem PI.marks {N n : Nat} {s : Tx.St} {fs fs' : List Fr} {C : Nat → ByteArray} (h : PI N n s fs C) (hm : MkR fs fs') : PI N n s fs' C :=
  ⟨h.zl, h.zp, h.n1, h.pw, by rw [hm.len]; exact h.nf, h.hd, h.fr.marks hm, h.nm, fun p hp hd => h.dk p hp fun hx => hd (hx.marks hm)⟩
structure Clk (a j : Nat) (fs fs' : List Fr) : Prop where
  mr : MkR fs fs'
  off : ∀ i, i < j → ∀ h : (a + i) % fs'.length < fs'.length, fs'[(a + i) % fs'.length].mark = false
theorem clk_new (a : Nat) (fs : List Fr) : Clk a 0 fs fs := ⟨MkR.refl fs, fun _ h => absurd h (by omega)⟩
theorem Clk.step {a j : Nat} {fs fs' : List Fr} (h : Clk a j fs fs') (hk : (a + j) % fs'.length < fs'.length) : Clk a (j + 1) fs (fs'.set ((a + j) % fs'.length) { fs'[(a + j) % fs'.length] with mark := false }) := by
  refine ⟨h.mr.set hk false, fun i hi hq => ?_⟩
  have hl : (fs'.set ((a + j) % fs'.length) { fs'[(a + j) % fs'.length] with mark := false }).length = fs'.length := List.length_set
  have key : ∀ m, m = fs'.length → ∀ hq : (a + i) % m < (fs'.set ((a + j) % fs'.length) { fs'[(a + j) % fs'.length] with mark := false }).length, (fs'.set ((a + j) % fs'.length) { fs'[(a + j) % fs'.length] with mark := false })[(a + i) % m].mark = false := by
    intro m hm hq2
    subst hm
    rw [List.getElem_set]
    split
    · rfl
    · rename_i hne
      exact h.off i (by
        rcases Nat.lt_or_eq_of_le (Nat.le_of_lt_succ hi) with h1 | h1
        · exact h1
        · exact absurd (by rw [h1]) hne) (by omega)
  exact key _ hl hq
theorem Clk.round {a : Nat} {fs fs' : List Fr} (h : Clk a fs'.length fs fs') (h0 : 0 < fs'.length) (hk : (a + fs'.length) % fs'.length < fs'.length) : fs'[(a + fs'.length) % fs'.length].mark = false := by
  have e : (a + fs'.length) % fs'.length = (a + 0) % fs'.length := by rw [Nat.add_mod_right, Nat.add_zero]
  have h1 := h.off 0 h0 (by rw [← e]; exact hk)
  have key : ∀ q, (a + 0) % fs'.length = q → ∀ hq : q < fs'.length, fs'[q].mark = false := fun q e2 hq => by subst e2; exact h1
  exact key _ e.symm hk
theorem Clk.round' {a k : Nat} {fs fs' : List Fr} (h : Clk a k fs fs') (h0 : 0 < fs'.length) (hl : fs.length = fs'.length) (e : k = fs.length) (hk : (a + k) % fs'.length < fs'.length) : fs'[(a + k) % fs'.length].mark = false := by
  subst e
  rw [hl] at h
  have hk2 := hk
  rw [hl] at hk2
  have h1 := h.round h0 hk2
  have key : ∀ m, m = fs'.length → ∀ hq : (a + m) % fs'.length < fs'.length, fs'[(a + m) % fs'.length].mark = false := fun m e hq => by subst e; exact h1
  exact key _ hl hk
theorem clk_next (a j m : Nat) : ((a + j) % m + 1) % m = (a + (j + 1)) % m := by
  rw [show a + (j + 1) = (a + j) + 1 by omega, Nat.add_mod (a + j) 1 m, Nat.add_mod ((a + j) % m) 1 m, Nat.mod_mod]
end Go.Proofs.YtmebkghdkeeobaaGreatDoor
namespace Rc
theorem slZ : sl 0 := ⟨by decide, by decide⟩
theorem num0' : num 0 := ⟨by decide, by decide⟩
theorem put_small {r : Rec} (h : Right r) (hk : r.kind ≠ 9) : (Lg.putR r).length ≤ 1262 := by
  rw [Lg.putR_len]
  unfold bodyB
  rw [List.length_append, headB_len]
  cases h with
  | small kind lsn prev txn hk2 h1 h2 h3 =>
    have hk3 : restB (bare kind lsn prev txn) = [] := by
      unfold restB bare
      simp only
      rw [if_neg (by omega), if_neg (by omega), if_neg (by omega), if_neg (by omega), if_neg (by omega)]
    rw [hk3]; simp
  | change lsn prev txn page op how root e h1 h2 h3 h4 h5 h6 =>
    rw [restB_2 rfl]
    have ho := opB_len h5
    have ht : (treeB ⟨lsn, prev, txn, 2, page, 0, 0, op, how, root, e, [], []⟩).length ≤ 200 := by
      unfold treeB
      rcases h6 with ⟨h7, _⟩ | ⟨h7, h8, h9, h10, h11⟩
      · simp only at h7; subst h7; simp
      · simp only at h7 h11
        rw [if_neg (show ¬ how = 1 by omega)]
        simp only [List.length_append, p_length, t_len]
        omega
    simp only [List.length_append, p_length]
    omega
  | clr lsn prev txn page op next h1 h2 h3 h4 h5 h6 =>
    rw [restB_3 rfl]
    have ho := opB_len h5
    simp only [List.length_append, p_length]
    omega
  | nest lsn prev txn next h1 h2 h3 h6 =>
    rw [restB_4 rfl]
    simp only [p_length]
    omega
  | image lsn prev txn page op h1 h2 h3 h4 h5 =>
    rw [restB_8 rfl]
    have ho := opB_len h5
    simp only [List.length_append, p_length]
    omega
  | check lsn prev txn n ts ds h1 h2 h3 h4 h5 => exact absurd rfl hk
end Rc
namespace Go.Proofs.YtmebkghdkeeobaaGreatDoor
open Go.RowKit Sc
theorem PI.log {N n : Nat} {s : Tx.St} {fs : List Fr} {C : Nat → ByteArray} (h : PI N n s fs C) (r : Rc.Rec) (hR : Rc.Right { r with lsn := s.log.end_ + 1 }) (hk : r.kind ≠ 9) (hr : s.log.end_ + 1262 ≤ (N : Int) * 128) :
    ∃ g2, Lg.appendD s.log r = (g2, s.log.end_ + 1, 0) ∧ PI N n { s with log := g2 } fs C ∧ s.log.end_ < g2.end_ ∧ g2.end_ ≤ s.log.end_ + 1262 := by
  have h1 := Rc.put_small hR hk
  have h2 : 8 ≤ (Lg.putR { r with lsn := s.log.end_ + 1 }).length := by rw [Lg.putR_len]; omega
  obtain ⟨g2, e, h3, h4⟩ := h.pw.put r hR (by omega)
  exact ⟨g2, e, ⟨h.zl, h.zp, h.n1, h3, h.nf, h.hd, h.fr, h.nm, h.dk⟩, by omega, by omega⟩
theorem PI.num {N n : Nat} {s : Tx.St} {fs : List Fr} {C : Nat → ByteArray} (h : PI N n s fs C) : Rc.num (s.log.end_ + 1) ∧ s.log.end_ + 1 ≠ 0 ∧ 0 ≤ s.log.end_ ∧ s.log.end_ ≤ 384000 := by
  have h1 := h.pw.end0
  have h2 := h.n1.2.2
  exact ⟨⟨by omega, by omega⟩, by omega, h1.1, by omega⟩
theorem img_right {l p : Int} {b : ByteArray} (hl : Rc.num l) (hp : 0 ≤ p ∧ p < 60) (hb : b.size ≤ 512) : Rc.Right ⟨l, 0, 0, 8, p, 0, 0, ⟨7, 0, ⟨#[]⟩, b⟩, 0, 0, Rc.noKey, [], []⟩ :=
  .image _ _ _ _ _ hl Rc.num0' Rc.num0' ⟨hp.1, by omega⟩ ⟨(by decide : (1 : Int) ≤ 7), (by decide : (7 : Int) ≤ 7), Rc.slZ, (by decide : 0 ≤ 512), hb⟩
theorem chg_right {l v t p : Int} {k : Int} {o b : ByteArray} (hl : Rc.num l) (hv : Rc.num v) (ht : Rc.num t) (hp : 0 ≤ p ∧ p < 60) (hk : 1 ≤ k ∧ k ≤ 7) (ho : o.size ≤ 512) (hb : b.size ≤ 512) : Rc.Right ⟨l, v, t, 2, p, 0, 0, ⟨k, 0, o, b⟩, 1, 0, Rc.noKey, [], []⟩ :=
  .change _ _ _ _ _ _ _ _ hl hv ht ⟨hp.1, by omega⟩ ⟨hk.1, hk.2, Rc.slZ, ho, hb⟩ (.inl ⟨rfl, rfl, rfl⟩)
structure Hk (s s' : Tx.St) (fs fs' : List Fr) : Prop where
  tx : s'.txns = s.txns
  nx : s'.next = s.next
  en : s'.log.end_ = s.log.end_
  zf : s'.zframes = s.zframes
  ln : fs'.length = fs.length
theorem Hk.refl (s : Tx.St) (fs : List Fr) : Hk s s fs fs := ⟨rfl, rfl, rfl, rfl, rfl⟩
theorem Hk.trans {s s' s2 : Tx.St} {fs fs' fs2 : List Fr} (h : Hk s s' fs fs') (k : Hk s' s2 fs' fs2) : Hk s s2 fs fs2 := ⟨k.tx.trans h.tx, k.nx.trans h.nx, k.en.trans h.en, k.zf.trans h.zf, k.ln.trans h.ln⟩
def Pgs (fs fs' : List Fr) : Prop := ∀ j (h : j < fs.length) (h' : j < fs'.length), fs'[j].page = fs[j].page ∧ fs'[j].bytes = fs[j].bytes
theorem Pgs.refl (fs : List Fr) : Pgs fs fs := fun _ _ _ => ⟨rfl, rfl⟩
theorem Pgs.trans {fs fs' fs2 : List Fr} (h : Pgs fs fs') (k : Pgs fs' fs2) (e : fs'.length = fs.length) : Pgs fs fs2 := fun j h1 h2 =>
  ⟨(k j (by omega) h2).1.trans (h j h1 (by omega)).1, (k j (by omega) h2).2.trans (h j h1 (by omega)).2⟩
theorem Pgs.marks {fs fs' : List Fr} (h : MkR fs fs') : Pgs fs fs' := fun j h1 h2 => by rw [h.at_ j h1 h2]; exact ⟨rfl, rfl⟩
theorem Pgs.set (fs : List Fr) (k : Nat) (hk : k < fs.length) (f : Fr) (h1 : f.page = fs[k].page) (h2 : f.bytes = fs[k].bytes) : Pgs fs (fs.set k f) := fun j hj hj' => by
  rcases set_at fs k f j hj' with ⟨e, e1⟩ | ⟨_, _, e1⟩
  · subst e; rw [e1]; exact ⟨h1, h2⟩
  · rw [e1]; exact ⟨rfl, rfl⟩
theorem Pgs.none_ {fs fs' : List Fr} (h : Pgs fs fs') (e : fs'.length = fs.length) {p : Int} (hn : ∀ j (hj : j < fs.length), Full fs[j] → fs[j].page ≠ p) : ∀ j (hj : j < fs'.length), Full fs'[j] → fs'[j].page ≠ p := fun j hj hf => by
  have h1 := h j (by omega) hj
  rw [h1.1]
  refine hn j (by omega) ?_
  unfold Full at hf ⊢
  rw [← h1.2]; exact hf
theorem FirstAt_none {fs : List Fr} {p : Int} (h : ∀ x ∈ fs, ¬ (Full x ∧ x.page = p)) : ∀ j (hj : j < fs.length), Full fs[j] → fs[j].page ≠ p := fun j hj hf e => h fs[j] (List.getElem_mem hj) ⟨hf, e⟩
theorem not_dirt {fs : List Fr} {p : Nat} (h : ∀ j (hj : j < fs.length), Full fs[j] → fs[j].page ≠ (p : Int)) : ¬ Dirt fs p := fun ⟨i, hi, h1, h2, _⟩ => h i hi h1 h2
theorem PI.bytes {N n : Nat} {s : Tx.St} {fs : List Fr} {C : Nat → ByteArray} (h : PI N n s fs C) {k : Nat} (hk : k < fs.length) {p : Nat} (hf : Full fs[k]) (hp : fs[k].page = (p : Int)) : p < n ∧ fs[k].bytes = C p := by
  obtain ⟨q, h1, h2, h3⟩ := h.fr.at_ k hk hf
  have e : p = q := Int.ofNat.inj (hp.symm.trans h2)
  subst e
  exact ⟨h1, h3⟩
theorem full_of {C : Nat → ByteArray} {p : Nat} (h : Nrm (C p)) : C p ≠ ⟨#[]⟩ := fun e => by have := h.size; rw [e] at this; exact absurd this (by decide)
structure SI (n : Nat) (C : Nat → ByteArray) (b : ByteArray) (u : Nat → Nat) : Prop where
  k0 : (leafP (C 0)).kind = 1
  r0 : (leafP (C 0)).recs = [b]
  sz : b.size = (n + 7) / 8
  bt : ∀ p, p < n → bit b p = decide (0 < u p)
  kp : ∀ p, 1 ≤ p → p < n → (leafP (C p)).kind = u p
  rp : ∀ p, 1 ≤ p → p < n → (leafP (C p)).recs = []
  u0 : u 0 = 1
theorem SI.flip {n : Nat} {C C' : Nat → ByteArray} {b : ByteArray} {u : Nat → Nat} (h : SI n C b u) {p k : Nat} (hp : p < n) (hp1 : 1 ≤ p) (hk : 0 < k ↔ ¬ 0 < u p)
    (c0 : (leafP (C' 0)).kind = 1 ∧ (leafP (C' 0)).recs = [flipB b p]) (cp : (leafP (C' p)).kind = k ∧ (leafP (C' p)).recs = []) (co : ∀ q, 1 ≤ q → q < n → q ≠ p → C' q = C q) :
    SI n C' (flipB b p) (fun q => if q = p then k else u q) := by
  refine ⟨c0.1, c0.2, (flip_size _ _).trans h.sz, fun q hq => ?_, fun q h1 hq => ?_, fun q h1 hq => ?_, ?_⟩
  · rw [bit_flip (by rw [h.sz]; omega)]
    by_cases e : q = p
    · rw [if_pos e, if_pos e, h.bt p hp]
      by_cases hu : 0 < u p
      · rw [decide_eq_true hu, decide_eq_false (fun hx => hk.1 hx hu)]; rfl
      · rw [decide_eq_false hu, decide_eq_true (hk.2 hu)]; rfl
    · rw [if_neg e, if_neg e]; exact h.bt q hq
  · by_cases e : q = p
    · rw [if_pos e, e]; exact cp.1
    · rw [if_neg e, co q h1 hq e]; exact h.kp q h1 hq
  · by_cases e : q = p
    · rw [e]; exact cp.2
    · rw [co q h1 hq e]; exact h.rp q h1 hq
  · show (if 0 = p then k else u 0) = 1
    rw [if_neg (by omega)]; exact h.u0
def Upto (u : Nat → Nat) (p : Nat) : Prop := ∀ q, q < p → 0 < u q
theorem upto_more {u : Nat → Nat} {p : Nat} (h : Upto u p) (hp : 0 < u p) : Upto u (p + 1) := fun q hq => by
  by_cases e : q = p
  · rw [e]; exact hp
  · exact h q (by omega)
def inUse (u : Nat → Nat) (p : Nat) : List Int := ((List.range p).filter fun q => decide (0 < u q)).map Int.ofNat
theorem inUse_yes {u : Nat → Nat} {p : Nat} (h : 0 < u p) : inUse u (p + 1) = inUse u p ++ [(p : Int)] := by
  unfold inUse
  rw [List.range_succ, List.filter_append, List.map_append]
  congr 1
  simp [h]
theorem inUse_no {u : Nat → Nat} {p : Nat} (h : ¬ 0 < u p) : inUse u (p + 1) = inUse u p := by
  unfold inUse
  rw [List.range_succ, List.filter_append]
  simp [h]
theorem inUse_len (u : Nat → Nat) (p : Nat) : (inUse u p).length ≤ p := by
  unfold inUse
  rw [List.length_map]
  have := List.length_filter_le (fun q => decide (0 < u q)) (List.range p)
  rw [List.length_range] at this
  exact this
theorem pgAt_new {M a : Nat} (h : a + 4 ≤ M) : pgAt (Lg.newD M) a = zeroP := by
  have e : ((Lg.newD M).sectors.drop a).take 4 = [Lg.zero128, Lg.zero128, Lg.zero128, Lg.zero128] := by
    apply List.ext_getElem?
    intro j
    rw [List.getElem?_take]
    split
    · rename_i hj
      rw [List.getElem?_drop]
      show (List.replicate M Lg.zero128)[a + j]? = _
      rw [List.getElem?_replicate, if_pos (by omega)]
      have : j = 0 ∨ j = 1 ∨ j = 2 ∨ j = 3 := by omega
      rcases this with rfl | rfl | rfl | rfl <;> rfl
    · rw [List.getElem?_eq_none (by simp; omega)]
  unfold pgAt
  rw [e]
  have hf : Lg.flat [Lg.zero128, Lg.zero128, Lg.zero128, Lg.zero128] = List.replicate 512 0 := by
    have h1 : ∀ L, Lg.flat (Lg.zero128 :: L) = List.replicate 128 0 ++ Lg.flat L := fun L => rfl
    rw [h1, h1, h1, h1, Lg.flat_nil, List.append_nil, List.replicate_append_replicate, List.replicate_append_replicate, List.replicate_append_replicate]
  rw [hf]
  rfl
def freeF (k : Nat) : List Fr := List.replicate k ⟨0, ⟨#[]⟩, 0, false, 0⟩
theorem freeF_at {k i : Nat} (hi : i < (freeF k).length) : (freeF k)[i] = ⟨0, ⟨#[]⟩, 0, false, 0⟩ := (List.mem_replicate.1 (List.getElem_mem hi)).2
theorem freeF_len (k : Nat) : (freeF k).length = k := List.length_replicate
def newS (N n k : Nat) : Tx.St := ⟨(N : Int), (n : Int), (k : Int), Lg.newD (1 + N + 4 * n), ⟨1, (N : Int), 0, 0, ⟨#[]⟩⟩, 0, [], 1⟩
theorem pi_new {N n k : Nat} (hn : 1 ≤ n ∧ n ≤ 60 ∧ N ≤ 3000) (hk : 1 ≤ k ∧ k ≤ 64) : PI N n (newS N n k) (freeF k) (fun _ => newB (0 : Nat)) := by
  refine ⟨rfl, rfl, hn, pw_new N (1 + N + 4 * n) (by omega), by rw [freeF_len]; exact hk, ⟨Int.le_refl _, (by decide : (0 : Int) ≤ 64)⟩, ⟨fun i hi hb => ?_, fun i j hi hj _ hb _ => ?_, fun i hi => ?_, fun i hi => ?_, fun i hi => ?_⟩, fun p _ => (new_nrm 0 (by omega)).1, fun p hp _ => .inr ⟨pgAt_new (by omega), rfl⟩⟩
  · rw [Full, freeF_at hi] at hb; exact absurd rfl hb
  · rw [Full, freeF_at hi] at hb; exact absurd rfl hb
  · rw [freeF_at hi]
  · rw [freeF_at hi]; exact numZ
  · rw [freeF_at hi]; exact Nat.zero_le _
structure TxI (ids : List Int) (s : Tx.St) : Prop where
  tl : s.txns.map (·.txn) = ids
  all : ∀ a ∈ s.txns, Rc.txnR a
  len : ids.length ≤ 1000
theorem TxI.ex {ids : List Int} {s : Tx.St} (h : TxI ids s) {t : Int} (ht : t ∈ ids) : ∃ a ∈ s.txns, a.txn = t := by
  rw [← h.tl] at ht
  exact List.mem_map.1 ht
theorem TxI.no {ids : List Int} {s : Tx.St} (h : TxI ids s) {t : Int} (ht : t ∉ ids) : ∀ a ∈ s.txns, a.txn ≠ t := fun a ha e => ht (by
  rw [← h.tl, ← e]; exact List.mem_map_of_mem ha)
theorem TxI.small {ids : List Int} {s : Tx.St} (h : TxI ids s) : s.txns.length ≤ 800000 := by
  have h1 := congrArg List.length h.tl
  rw [List.length_map] at h1
  have := h.len
  omega
structure SS (N n k : Nat) (ids : List Int) (c : Int) (s : Tx.St) (fs : List Fr) (C : Nat → ByteArray) : Prop where
  pi : PI N n s fs C
  tx : TxI ids s
  nf : fs.length = k
  used : s.log.end_ ≤ c
theorem SS.more {N n k : Nat} {ids : List Int} {c c' : Int} {s : Tx.St} {fs : List Fr} {C : Nat → ByteArray} (h : SS N n k ids c s fs C) (hc : c ≤ c') : SS N n k ids c' s fs C := ⟨h.pi, h.tx, h.nf, by have := h.used; omega⟩
end Go.Proofs.YtmebkghdkeeobaaGreatDoor
