import Derived.Test.YtmebkghdkeeobaaGreatDoorHo00
import Derived.Test.YtmebkghdkeeobaaGreatDoorHo18
import Derived.Test.YtmebkghdkeeobaaGreatDoorHo12
set_option maxRecDepth 100000
set_option maxHeartbeats 16000000
set_option linter.unusedSimpArgs false
namespace Go.Proofs.YtmebkghdkeeobaaGreatDoor
open Go.RowKit Sc
structure ChK (s s' : Tx.St) (fs fs' : List Fr) (t l : Int) : Prop where
  ti : ∃ (i : Nat) (h : i < s.txns.length), s.txns[i].txn = t ∧ s'.txns = s.txns.set i { s.txns[i] with last := l, next := l }
  lr : Rc.num l
  nx : s'.next = s.next
  zf : s'.zframes = s.zframes
  ln : fs'.length = fs.length
  e0 : s.log.end_ ≤ s'.log.end_
  en : s'.log.end_ ≤ s.log.end_ + 2524
theorem readsM {w w' : World} {A : Option Addr} {c n M : Nat} {vs : List Value} (h : Reads w A c n vs) (hA : ∀ ad, A = some ad → ad.block < M) (hb : Below M w w') : Reads w' A c n vs := fun h0 => by
  obtain ⟨b, off, e, hc, hbl, hcell⟩ := h h0
  exact ⟨b, off, e, hc, Nat.lt_of_lt_of_le hbl hb.size, fun j v hv => by rw [hb.cell (p := ⟨b, off + j, none⟩) (show b < M from hA ⟨b, off, none⟩ e)]; exact hcell j v hv⟩
theorem NewT.lt {n : Nat} {w : World} {T : TypeId} {A : Option Addr} (h : NewT n w T A) : ∀ ad, A = some ad → ad.block < w.heap.size := fun ad e => by
  obtain ⟨_, cs, fr, h1⟩ := h ad e
  exact heapLt h1
theorem PoolR.upto {w w' : World} {s : Tx.St} {p : SP} {fs : List Fr} (h : PoolR w s p fs) {M : Nat} (hA : ∀ ad, p.A = some ad → ad.block < M) (hF : ∀ ad, p.F = some ad → ad.block < M) (hb : Below M w w') {ts : List Rc.TxnAt} {T : Option Addr} {tc : Nat} (hT : TxR w' T tc ts) (hTt : NewT 0 w' 156 T) :
    PoolR w' { s with txns := ts } { p with T := T, tc := tc } fs :=
  ⟨⟨⟨readsM h.st.dk.secs hA hb, h.st.dk.small⟩, fun ad e => ⟨(h.st.dt ad e).1, by rw [hb.block _ (hA ad e)]; exact (h.st.dt ad e).2⟩, hT, hTt⟩, h.fn, readsM h.fr hF hb, fun ad e => ⟨(h.ft ad e).1, by rw [hb.block _ (hF ad e)]; exact (h.ft ad e).2⟩⟩
def CgOut (N n : Nat) (C : Nat → ByteArray) (s : Tx.St) (fs : List Fr) (t : Int) (pg : Nat) (b : ByteArray) (w : World) (e : Ending) (w' : World) : Prop :=
  ∃ (s' : Tx.St) (q : SP) (fs' : List Fr) (l : Int), e = .returned (.tuple #[storeV s' q, .int .i64 0]) ∧ PoolR w' s' q fs' ∧ PI N n s' fs' (fun x => if x = pg then lsnB b l else C x) ∧ ChK s s' fs fs' t l ∧ Below w.heap.size w w'
set_option maxRecDepth 100000 in
set_option maxHeartbeats 8000000 in
theorem pchg_clo (a : Rc.TxnAt) (t : Int) (b : Nat) (w : World) (hc : w.cell? ⟨b, 2, none⟩ = some (.int .i64 t)) : Calls Tryz.prog 131 #[.agg (txA a), .pointer (some ⟨b, 0, none⟩)] w (Says (a.txn = t) w) := by
  have HC := Lib.hid hc
  have hbl : b < w.heap.size := by
    rcases Nat.lt_or_ge b w.heap.size with h | h
    · exact h
    · rw [World.cell?, Array.getElem?_eq_none h] at hc
      cases hc
  have hcb := show (w.alloc (.cells (txA a) 156)).cell? ⟨b, 2, none⟩ = some (.int .i64 t) from by rw [(allocB w (.cells (txA a) 156)).cell (p := ⟨b, 2, none⟩) hbl]; exact hc
  have hca := show (w.alloc (.cells (txA a) 156)).cell? ⟨w.heap.size, 0, none⟩ = some (.int .i64 a.txn) from by rw [blkCell (heap_alloc_new w (.cells (txA a) 156))]; rfl
  clear hc
  by_cases he : a.txn = t
  · have hQ := Lib.hid (fun w' hb => says_t (p := a.txn = t) (w := w) (w' := w') he hb)
    generalize Says (a.txn = t) w = Q at hQ ⊢
    have hb : (a.txn == t) = true := by rw [he]; exact beq_self_eq_true _
    clear he
    go_enter Tryz.func131, Tryz.ntmps131
    go_wp2_with fail
    exact hQ.out _ (allocB _ _)
  · have hQ := Lib.hid (fun w' hb => says_f (p := a.txn = t) (w := w) (w' := w') he hb)
    generalize Says (a.txn = t) w = Q at hQ ⊢
    have hb : (a.txn == t) = false := beq_eq_false_iff_ne.2 he
    clear he
    go_enter Tryz.func131, Tryz.ntmps131
    go_wp2_with fail
    exact hQ.out _ (allocB _ _)
set_option maxRecDepth 100000 in
set_option maxHeartbeats 16000000 in
theorem pchange_any {N n : Nat} (s : Tx.St) (p : SP) (fs : List Fr) (C : Nat → ByteArray) (hI : PI N n s fs C) (t : Int) (pg : Nat) (hpg : pg < n) (o : Rc.Op) (b : ByteArray) (hex : ∃ a ∈ s.txns, a.txn = t) (hts : ∀ a ∈ s.txns, Rc.txnR a) (htl : s.txns.length ≤ 800000)
    (hR : ∀ l v, Rc.num l → Rc.num v → Rc.Right (⟨l, v, t, 2, (pg : Int), 0, 0, o, 1, 0, Rc.noKey, [], []⟩ : Rc.Rec)) (hdo : ∀ W, Calls Tryz.prog 132 #[.string (C pg), .agg #[.int .i64 o.kind, .int .i64 o.slot, .string o.old, .string o.new]] W fun e w' => e = .returned (outV (b, 0)) ∧ Below W.heap.size W w') (hb : Nrm b) (hfit : s.log.end_ + 2524 ≤ (N : Int) * 128) (w : World) (h : PoolR w s p fs) :
    Calls Tryz.prog 96 #[storeV s p, .agg #[.int .i64 0, .int .i64 0, .int .i64 t, .int .i64 2, .int .i64 (pg : Int), .int .i64 0, .int .i64 0, .int .i64 o.kind, .int .i64 o.slot, .string o.old, .string o.new, .int .i64 1, .int .i64 0, .string ⟨#[]⟩, .int .i64 0, .int .i64 0, .slice none 0 0, .slice none 0 0]] w (CgOut N n C s fs t pg b w) := by
  have hnf := hI.nf
  have HHS := Lib.hid (fun W => phas_any s p n hI.zp (pg : Int) W)
  rw [decide_eq_true (show 0 ≤ (pg : Int) ∧ (pg : Int) < (n : Int) from by omega)] at HHS
  have HIX := Lib.hid (fun (g : Nat) W (hb : Below w.heap.size w W) (hg : W.cell? ⟨g, 2, none⟩ = some (.int .i64 t)) (hgl : g < W.heap.size) => indexT_any (fun a => a.txn = t) 131 #[.pointer (some ⟨g, 0, none⟩)] (enters_of Tryz.func131 (by kernel_rfl) rfl) s.txns (by omega) p.T p.tc W (h.st.tx.below hb) (fun a _ V hV => pchg_clo a t g V (by rw [hV.cell (p := ⟨g, 2, none⟩) hgl]; exact hg)))
  have HHE := Lib.hid (fun W (hb : Below w.heap.size w W) => pheld_any s p fs C hI pg hpg W (h.below hb))
  have HEX := Lib.hid hex
  have HTS := Lib.hid hts
  have HR := Lib.hid hR
  have HDO := Lib.hid hdo
  have HB := Lib.hid hb
  have HFIT := Lib.hid hfit
  have HQ := Lib.hid (fun (s' : Tx.St) (q : SP) (fs' : List Fr) (l : Int) w' h1 h2 h3 h4 => show CgOut N n C s fs t pg b w (.returned (.tuple #[storeV s' q, .int .i64 0])) w' from ⟨s', q, fs', l, rfl, h1, h2, h3, h4⟩)
  generalize CgOut N n C s fs t pg b w = Q at HQ ⊢
  clear h hI hex hts hR hdo hb hfit hnf
  go_enter Tryz.func96, Tryz.ntmps96
  go_upto_region 1 with fail
  have H0 := Lib.hid (show BxL w.heap.size w [((stA s p), 36), (#[.int .i64 0, .int .i64 0, .int .i64 t, .int .i64 2, .int .i64 (pg : Int), .int .i64 0, .int .i64 0, .int .i64 o.kind, .int .i64 o.slot, .string o.old, .string o.new, .int .i64 1, .int .i64 0, .string ⟨#[]⟩, .int .i64 0, .int .i64 0, .slice none 0 0, .slice none 0 0], 96), (#[.int .i64 0, .int .i64 0, .int .i64 0, .slice none 0 0, .int .i64 0, .bool false, .int .i64 0, .int .i64 0, .int .i64 0, .int .i64 0, .string ⟨#[]⟩, .slice none 0 0, .int .i64 0, .slice none 0 0, .int .i64 0], 36)] (((w.alloc (.cells (stA s p) 36)).alloc (.cells #[.int .i64 0, .int .i64 0, .int .i64 t, .int .i64 2, .int .i64 (pg : Int), .int .i64 0, .int .i64 0, .int .i64 o.kind, .int .i64 o.slot, .string o.old, .string o.new, .int .i64 1, .int .i64 0, .string ⟨#[]⟩, .int .i64 0, .int .i64 0, .slice none 0 0, .slice none 0 0] 96)).alloc (.cells #[.int .i64 0, .int .i64 0, .int .i64 0, .slice none 0 0, .int .i64 0, .bool false, .int .i64 0, .int .i64 0, .int .i64 0, .int .i64 0, .string ⟨#[]⟩, .slice none 0 0, .int .i64 0, .slice none 0 0, .int .i64 0] 36)) from ((((BxL.nil (Below.refl w.heap.size w)).new (by simp) (stA s p) 36).new (by simp) #[.int .i64 0, .int .i64 0, .int .i64 t, .int .i64 2, .int .i64 (pg : Int), .int .i64 0, .int .i64 0, .int .i64 o.kind, .int .i64 o.slot, .string o.old, .string o.new, .int .i64 1, .int .i64 0, .string ⟨#[]⟩, .int .i64 0, .int .i64 0, .slice none 0 0, .slice none 0 0] 96).new (by simp) #[.int .i64 0, .int .i64 0, .int .i64 0, .slice none 0 0, .int .i64 0, .bool false, .int .i64 0, .int .i64 0, .int .i64 0, .int .i64 0, .string ⟨#[]⟩, .slice none 0 0, .int .i64 0, .slice none 0 0, .int .i64 0] 36))
  obtain ⟨W0, hW0⟩ : ∃ W, W = (((w.alloc (.cells (stA s p) 36)).alloc (.cells #[.int .i64 0, .int .i64 0, .int .i64 t, .int .i64 2, .int .i64 (pg : Int), .int .i64 0, .int .i64 0, .int .i64 o.kind, .int .i64 o.slot, .string o.old, .string o.new, .int .i64 1, .int .i64 0, .string ⟨#[]⟩, .int .i64 0, .int .i64 0, .slice none 0 0, .slice none 0 0] 96)).alloc (.cells #[.int .i64 0, .int .i64 0, .int .i64 0, .slice none 0 0, .int .i64 0, .bool false, .int .i64 0, .int .i64 0, .int .i64 0, .int .i64 0, .string ⟨#[]⟩, .slice none 0 0, .int .i64 0, .slice none 0 0, .int .i64 0] 36)) := ⟨_, rfl⟩
  rw [← hW0] at H0 ⊢
  clear hW0
  have hk3 := show W0.cell? ⟨(w.heap.size + 1), 3, none⟩ = some (.int .i64 2) from by rw [blkCell H0.out.get1]; rfl
  have hk4 := show W0.cell? ⟨(w.heap.size + 1), 4, none⟩ = some (.int .i64 (pg : Int)) from by rw [blkCell H0.out.get1]; rfl
  go_upto_region 3 with (first | (with_reducible refine listLoad (by kernel_rfl) 36 (.tmp 2) rfl w.heap.size rfl (stA s p) _ H0.out.get0 _ Tryz.underlying36 (by kernel_rfl) (by kernel_rfl) ?_) | (go_at_call 62; (refine (HHS.out _).mono ?_); rintro e w1 ⟨rfl, hb1⟩; have H1 := Lib.hid (H0.out.step hb1)))
  have hc13 := show w1.cell? ⟨w.heap.size, 13, none⟩ = some (.slice p.T s.txns.length p.tc) from by rw [blkCell H1.out.get0]; rfl
  have HIY := Lib.hid (HIX.out (w.heap.size + 1) w1 H1.out.below (by rw [blkCell H1.out.get1]; rfl) (H1.out.lt (i := 1) (by simp)))
  clear hk3 hk4 hb1 HHS H0 HIX
  go_upto_region 4 with (go_at_call 130; (refine HIY.out.mono ?_); rintro e w2 ⟨kk, rfl, hq, hb2⟩; have H2 := Lib.hid (H1.out.step hb2); clear hb2 H1 HIY hc13; rcases hq with ⟨rfl, hq⟩ | ⟨i, hi, rfl, hti, _⟩)
  · exact absurd HEX.out (fun ⟨a, ha, e⟩ => hq a ha e)
  have hi0 : ¬ (i : Int) < 0 := by omega
  have HTI := Lib.hid hti
  have hk4 := show w2.cell? ⟨(w.heap.size + 1), 4, none⟩ = some (.int .i64 (pg : Int)) from by rw [blkCell H2.out.get1]; rfl
  clear hti HEX
  go_upto_region 9 with (first
    | (with_reducible refine listLoad (by kernel_rfl) 36 (.tmp 2) rfl w.heap.size rfl (stA s p) _ H2.out.get0 _ Tryz.underlying36 (by kernel_rfl) (by kernel_rfl) ?_)
    | (go_at_call 38; (refine (HHE.out _ H2.out.below).mono ?_); rintro e w4 ⟨s', q, fs', k, rfl, hp4, hi4, hkk, ⟨hkl, hf4, hg4⟩, hb4⟩)
    | (with_reducible refine wpList_store_new rfl 36 (.tmp 7) (.tmp 41) rfl (stA s' q) _ _ rfl (by kernel_rfl) (by kernel_rfl) (by kernel_rfl) (by kernel_rfl) ?_))
  have hb5 := hb4.trans ((allocB w4 (.cells (stA s' q) 36)).mono hb4.size)
  have H5 := Lib.hid (H2.out.step hb5)
  have HG5 := Lib.hid (heap_alloc_new w4 (.cells (stA s' q) 36))
  have HP5 := Lib.hid (hp4.below (allocB w4 (.cells (stA s' q) 36)))
  have hlt : (w.heap.size + 2) < w4.heap.size := Nat.lt_of_lt_of_le (H2.out.lt (i := 2) (by simp)) hb4.size
  obtain ⟨g, hg⟩ : ∃ g, g = w4.heap.size := ⟨_, rfl⟩
  obtain ⟨w5, hw5⟩ : ∃ W, W = w4.alloc (.cells (stA s' q) 36) := ⟨_, rfl⟩
  rw [← hg, ← hw5] at HG5
  rw [← hw5] at H5 HP5
  rw [← hw5, ← hg]
  rw [← hg] at hlt
  have HI4 := Lib.hid hi4
  have HKK := Lib.hid hkk
  have hfb := (hi4.bytes hkl hf4 hg4).2
  have hfp := hi4.fr.pin k hkl
  have hfr := hi4.fr.rc k hkl
  have hfl : fs'.length ≤ 100 := by have := hi4.nf; omega
  clear hw5 hg hb4 hb5 hp4 H2 HHE hk4 hi4 hkk
  try simp only [Act.put]
  have hki0 : (0 : Int) ≤ (k : Int) := by omega
  have hki : (k : Int) < (fs'.length : Int) := by omega
  obtain ⟨fb, foff, hpF, hcc, hbl, hcell⟩ := read_at frL_len HP5.out.fr hkl
  obtain ⟨f, hfe⟩ : ∃ f, f = fs'[k] := ⟨_, rfl⟩
  have HFE := Lib.hid hfe
  rw [← hfe] at hcell hf4 hg4 hfb hfp hfr
  have HC0 := Lib.hid (show w5.rangeAt fb (foff + k * 5) (frL f) from hcell)
  have hc11 := show w5.cell? ⟨g, 11, none⟩ = some (.slice (some ⟨fb, foff, none⟩) fs'.length q.fc) from by rw [blkCell HG5.out, ← hpF, ← HP5.out.fn]; rfl
  have HFF := Lib.hid (show Full f ∧ f.page = (pg : Int) ∧ f.bytes = C pg ∧ f.pins = 0 ∧ Rc.num f.rc from ⟨hf4, hg4, hfb, hfp, hfr⟩)
  have hbF : ∀ ad, q.F = some ad → ad.block < w5.heap.size := fun ad e => by rw [hpF] at e; injection e with e; subst e; exact hbl
  have HBF := Lib.hid hbF
  clear hcell hcc hbl hpF hfe hf4 hg4 hfb hfp hfr hbF
  go_upto_region 10 with (first
    | (refine listWants (by kernel_rfl) fun K hK => wp_load_mid 80 (.tmp 52) rfl fb (foff + k * 5) rfl (frL f) _ HC0.out Tryz.underlying80 (by kernel_rfl) (by kernel_rfl) (hK _ _ ?_))
    | (with_reducible refine wpList_store_new rfl 80 (.tmp 10) (.tmp 53) rfl (frA f) _ _ rfl (by kernel_rfl) (by kernel_rfl) (by kernel_rfl) (by kernel_rfl) ?_))
  have hb6 := allocB w5 (.cells (frA f) 80)
  have H6 := Lib.hid (H5.out.step hb6)
  have HF6 := Lib.hid (heap_alloc_new w5 (.cells (frA f) 80))
  have HG6 := Lib.hid (blkOld HG5.out hb6)
  have HP6 := Lib.hid (HP5.out.below hb6)
  have hlt2 : g < w5.heap.size := heapLt HG5.out
  obtain ⟨g2, hg2⟩ : ∃ g2, g2 = w5.heap.size := ⟨_, rfl⟩
  obtain ⟨w6, hw6⟩ : ∃ W, W = w5.alloc (.cells (frA f) 80) := ⟨_, rfl⟩
  rw [← hg2, ← hw6] at HF6
  rw [← hw6] at H6 HG6 HP6
  rw [← hw6, ← hg2]
  rw [← hg2] at hlt2 HBF
  clear hw6 hg2 hb6 H5 HG5 HP5 HC0 hc11
  try simp only [Act.put]
  have hcb := show w6.cell? ⟨g2, 1, none⟩ = some (.string (C pg)) from by rw [blkCell HF6.out, ← HFF.out.2.2.1]; rfl
  go_upto_region 13 with (first
    | (with_reducible refine listPart (by kernel_rfl) 89 (.tmp 57) rfl (w.heap.size + 1) 7 rfl #[.int .i64 o.kind, .int .i64 o.slot, .string o.old, .string o.new] #[.int .i64 0, .int .i64 0, .int .i64 t, .int .i64 2, .int .i64 (pg : Int), .int .i64 0, .int .i64 0, .int .i64 o.kind, .int .i64 o.slot, .string o.old, .string o.new, .int .i64 1, .int .i64 0, .string ⟨#[]⟩, .int .i64 0, .int .i64 0, .slice none 0 0, .slice none 0 0] _ H6.out.get1 (by kernel_rfl) _ Tryz.underlying89 (by kernel_rfl) (by kernel_rfl) ?_)
    | (go_at_call 132; (refine (HDO.out _).mono ?_); rintro e w7 ⟨rfl, hb7⟩))
  have H7 := Lib.hid (H6.out.step hb7)
  have HG7 := Lib.hid (blkOld HG6.out hb7)
  have HF7 := Lib.hid (blkOld HF6.out hb7)
  have HP7 := Lib.hid (HP6.out.below hb7)
  have hcr := show w7.cell? ⟨g2, 4, none⟩ = some (.int .i64 f.rc) from by rw [blkCell HF7.out]; rfl
  clear hcb hb7 H6 HG6 HF6 HP6 HDO
  go_upto_if 68 with fail
  go_cut [9] (fun x wc => x = .int .i64 0 ∧ ∃ (l3 : Lg.Lo) (rc3 : Int), BxL w.heap.size w [((stA s p), 36), (#[.int .i64 0, .int .i64 0, .int .i64 t, .int .i64 2, .int .i64 (pg : Int), .int .i64 0, .int .i64 0, .int .i64 o.kind, .int .i64 o.slot, .string o.old, .string o.new, .int .i64 1, .int .i64 0, .string ⟨#[]⟩, .int .i64 0, .int .i64 0, .slice none 0 0, .slice none 0 0], 96), (#[.int .i64 0, .int .i64 0, .int .i64 0, .slice none 0 0, .int .i64 0, .bool false, .int .i64 0, .int .i64 0, .int .i64 0, .int .i64 0, .string ⟨#[]⟩, .slice none 0 0, .int .i64 0, .slice none 0 0, .int .i64 0], 36)] wc ∧ wc.heap[g]? = some (.cells (stA { s' with log := l3 } q) 36 (0, 0)) ∧ wc.heap[g2]? = some (.cells (frA { f with rc := rc3 }) 80 (0, 0)) ∧ PoolR wc { s' with log := l3 } q fs' ∧ PI N n { s' with log := l3 } fs' C ∧ Rc.num rc3 ∧ rc3 ≠ 0 ∧ s'.log.end_ ≤ l3.end_ ∧ l3.end_ ≤ s'.log.end_ + 1262)
  case first =>
    by_cases hrc : f.rc = 0
    · have hrb : (f.rc == 0) = true := by rw [hrc]; rfl
      have hn0 := HI4.out.num
      have he4 := HKK.out.en
      obtain ⟨l3, el3, hi3, h31, h32⟩ := HI4.out.log (⟨0, 0, 0, 8, (pg : Int), 0, 0, ⟨7, 0, ⟨#[]⟩, C pg⟩, 0, 0, Rc.noKey, [], []⟩ : Rc.Rec) (img_right hn0.1 (by have := HI4.out.n1; show 0 ≤ (pg : Int) ∧ (pg : Int) < 60; omega) (by rw [(HI4.out.nm pg hpg).size]; omega)) (by show (8 : Int) ≠ 9; decide) (by have := HFIT.out; omega)
      have HLO := Lib.hid (fun W => show Calls Tryz.prog 133 #[storeV s' q, .agg #[.int .i64 0, .int .i64 0, .int .i64 0, .int .i64 8, .int .i64 (pg : Int), .int .i64 0, .int .i64 0, .int .i64 7, .int .i64 0, .string ⟨#[]⟩, .string (C pg), .int .i64 0, .int .i64 0, .string ⟨#[]⟩, .int .i64 0, .int .i64 0, .slice none 0 0, .slice none 0 0]] W _ from plogged_any s' q HI4.out.logB (⟨0, 0, 0, 8, (pg : Int), 0, 0, ⟨7, 0, ⟨#[]⟩, C pg⟩, 0, 0, Rc.noKey, [], []⟩ : Rc.Rec) rfl rfl W)
      rw [el3] at HLO
      have HI3 := Lib.hid hi3
      have HN0 := Lib.hid hn0
      have HE3 := Lib.hid (And.intro (Int.le_of_lt h31) h32)
      have hck := show w7.cell? ⟨(w.heap.size + 1), 4, none⟩ = some (.int .i64 (pg : Int)) from by rw [blkCell H7.out.get1]; rfl
      have hcb := show w7.cell? ⟨g2, 1, none⟩ = some (.string (C pg)) from by rw [blkCell HF7.out, ← HFF.out.2.2.1]; rfl
      clear hrc hn0 he4 el3 hi3 h31 h32
      generalize s'.log.end_ + 1 = rc3 at HLO HN0
      go_wp2_with (first
        | (with_reducible refine listLoad (by kernel_rfl) 36 (.tmp 7) rfl g rfl (stA s' q) _ HG7.out _ Tryz.underlying36 (by kernel_rfl) (by kernel_rfl) ?_)
        | (go_at_call 133; (refine (HLO.out _).mono ?_); rintro e w8 ⟨rfl, hb8⟩; have H8 := Lib.hid (H7.out.step hb8); have HG8 := Lib.hid (blkOld HG7.out hb8); have HF8 := Lib.hid (blkOld HF7.out hb8); have HP8 := Lib.hid (HP7.out.below hb8); have HF9 := Lib.hid ((heap_setRow_other w8 g (stA { s' with log := l3 } q) g2 (by omega)).trans HF8.out); have hcx := show (w8.setRow g (stA { s' with log := l3 } q)).cell? ⟨g2, 4, none⟩ = some (.int .i64 f.rc) from (by rw [blkCell HF9.out]; rfl); have hzx := blkFrozen HF9.out 4)
        | (with_reducible refine listStore (by kernel_rfl) 36 (.tmp 7) (.tmp 78) rfl g (stA { s' with log := l3 } q) _ _ rfl rfl HG8.out (by kernel_rfl) (by kernel_rfl) (by kernel_rfl) ?_))
      have hb9 := rowB (g := g) (Nat.le_refl g) (show Below g w8 w8 from ⟨rfl, rfl, rfl, Nat.le_refl _, fun _ _ => rfl⟩) (stA { s' with log := l3 } q)
      have H9 := Lib.hid (H8.out.under (M := g) (by simp; omega) hb9)
      have HG9 := Lib.hid (setRow_heap _ _ _ (stA { s' with log := l3 } q) _ _ HG8.out)
      have HP9 := Lib.hid (show PoolR (w8.setRow g (stA { s' with log := l3 } q)) { s' with log := l3 } q fs' from by have h1 := HP8.out.other (t := 36) HG8.out (by decide) (by decide) (by decide) (stA { s' with log := l3 } q); exact ⟨⟨h1.st.dk, h1.st.dt, h1.st.tx, h1.st.tt⟩, h1.fn, h1.fr, h1.ft⟩)
      go_meet
      case rel => exact ⟨rfl, l3, rc3, H9.out.under (M := g2) (by simp; omega) ((Below.refl _ _).setCell (p := ⟨g2, 4, none⟩) (Nat.le_refl _) _), (by rw [Below.heap_setCell _ _ _ _ (by show g ≠ g2; omega)]; exact HG9.out), (by have := blkSet 4 HF9.out (.int .i64 rc3); simpa using this), HP9.out.own HF9.out (fun ad e => by have := HBF.out ad e; omega) 4 _, HI3.out, HN0.out.1, HN0.out.2.1, HE3.out⟩
    · have hrb : (f.rc == 0) = false := beq_eq_false_iff_ne.2 hrc
      go_wp2_with fail
      go_meet
      case rel => exact ⟨rfl, s'.log, f.rc, H7.out, HG7.out, HF7.out, HP7.out, HI4.out, HFF.out.2.2.2.2, hrc, Int.le_refl _, by omega⟩
  case rest =>
    obtain ⟨rfl, l3, rc3, h8, hg8, hf8, hp8, hi8, hrn, hr0, he81, he82⟩ := hcut
    obtain ⟨w8, rfl⟩ : ∃ wm : World, wm = wc := ⟨_, rfl⟩
    have H8 := Lib.hid h8
    have HG8 := Lib.hid hg8
    have HF8 := Lib.hid hf8
    have HP8 := Lib.hid hp8
    have HI8 := Lib.hid hi8
    have HRN := Lib.hid (And.intro hrn hr0)
    have HE8 := Lib.hid (And.intro he81 he82)
    have hil : i < s'.txns.length := by rw [HKK.out.tx]; exact hi
    have hii : (i : Int) < (s'.txns.length : Int) := by omega
    have hii0 : (0 : Int) ≤ (i : Int) := by omega
    clear h8 hg8 hf8 hp8 hi8 hrn hr0 he81 he82 H7 HG7 HF7 HP7 hcr
    obtain ⟨tb, toff, hpT, htc, htl2, htcell⟩ := read_at txC_len HP8.out.st.tx hil
    obtain ⟨tv, htv⟩ : ∃ t, t = s'.txns[i] := ⟨_, rfl⟩
    have HTV := Lib.hid htv
    have htx := htcell 1 (.int .i64 tv.last) (by rw [htv]; rfl)
    have hc13 := show w8.cell? ⟨g, 13, none⟩ = some (.slice (some ⟨tb, toff, none⟩) s'.txns.length q.tc) from by rw [blkCell HG8.out, ← hpT]; rfl
    have hc1 := show w8.cell? ⟨(w.heap.size + 1), 1, none⟩ = some (.int .i64 0) from by rw [blkCell H8.out.get1]; rfl
    have hz1 := blkFrozen H8.out.get1 1
    have hvn : Rc.num tv.last := by
      have hm : tv ∈ s'.txns := by rw [htv]; exact List.getElem_mem hil
      rw [HKK.out.tx] at hm
      exact (HTS.out _ hm).2.1
    have HVN := Lib.hid hvn
    clear htcell htc htl2 hpT hvn htv
    generalize tv.last = pv at htx HVN
    go_upto_region 18 with fail
    have H9 := Lib.hid (show BxL w.heap.size w [((stA s p), 36), (#[.int .i64 0, .int .i64 pv, .int .i64 t, .int .i64 2, .int .i64 (pg : Int), .int .i64 0, .int .i64 0, .int .i64 o.kind, .int .i64 o.slot, .string o.old, .string o.new, .int .i64 1, .int .i64 0, .string ⟨#[]⟩, .int .i64 0, .int .i64 0, .slice none 0 0, .slice none 0 0], 96), (#[.int .i64 0, .int .i64 0, .int .i64 0, .slice none 0 0, .int .i64 0, .bool false, .int .i64 0, .int .i64 0, .int .i64 0, .int .i64 0, .string ⟨#[]⟩, .slice none 0 0, .int .i64 0, .slice none 0 0, .int .i64 0], 36)] (w8.setCell ⟨(w.heap.size + 1), 1, none⟩ (.int .i64 pv)) from H8.out.set 1 1 (.int .i64 pv) _ rfl)
    have HG9 := Lib.hid (show (w8.setCell ⟨(w.heap.size + 1), 1, none⟩ (.int .i64 pv)).heap[g]? = some (.cells (stA { s' with log := l3 } q) 36 (0, 0)) from by rw [Below.heap_setCell _ _ _ _ (by show g ≠ (w.heap.size + 1); omega)]; exact HG8.out)
    have HF9 := Lib.hid (show (w8.setCell ⟨(w.heap.size + 1), 1, none⟩ (.int .i64 pv)).heap[g2]? = some (.cells (frA { f with rc := rc3 }) 80 (0, 0)) from by rw [Below.heap_setCell _ _ _ _ (by show g2 ≠ (w.heap.size + 1); omega)]; exact HF8.out)
    have HP9 := Lib.hid (HP8.out.set H8.out.get1 (by decide) (by decide) (by decide) 1 (.int .i64 pv))
    generalize w8.setCell ⟨(w.heap.size + 1), 1, none⟩ (.int .i64 pv) = w9 at H9 HG9 HF9 HP9 ⊢
    clear hc13 hc1 hz1 htx H8 HG8 HF8 HP8
    have hn3 := HI8.out.num
    obtain ⟨l4, el4, hi4, h41, h42⟩ := HI8.out.log (⟨0, pv, t, 2, (pg : Int), 0, 0, o, 1, 0, Rc.noKey, [], []⟩ : Rc.Rec) (HR.out _ _ hn3.1 HVN.out) (by show (2 : Int) ≠ 9; decide) (by have := HFIT.out; have := HE8.out; have := HKK.out.en; show l3.end_ + 1262 ≤ (N : Int) * 128; omega)
    have HLO := Lib.hid (fun W => show Calls Tryz.prog 133 #[storeV { s' with log := l3 } q, .agg #[.int .i64 0, .int .i64 pv, .int .i64 t, .int .i64 2, .int .i64 (pg : Int), .int .i64 0, .int .i64 0, .int .i64 o.kind, .int .i64 o.slot, .string o.old, .string o.new, .int .i64 1, .int .i64 0, .string ⟨#[]⟩, .int .i64 0, .int .i64 0, .slice none 0 0, .slice none 0 0]] W _ from plogged_any { s' with log := l3 } q HI8.out.logB (⟨0, pv, t, 2, (pg : Int), 0, 0, o, 1, 0, Rc.noKey, [], []⟩ : Rc.Rec) rfl rfl W)
    rw [el4] at HLO
    have HI9 := Lib.hid hi4
    have HE9 := Lib.hid (show s.log.end_ ≤ l4.end_ ∧ l4.end_ ≤ s.log.end_ + 2524 from by have := HE8.out; have := HKK.out.en; simp only at h41 h42; omega)
    have HN3 := Lib.hid (show Rc.num (l3.end_ + 1) from hn3.1)
    clear hn3 el4 hi4 h41 h42 HE8 HFIT HR
    dsimp only at HLO
    generalize l3.end_ + 1 = lsn at HLO HN3
    go_upto_region 21 with (first
      | (with_reducible refine listLoad (by kernel_rfl) 36 (.tmp 7) rfl g rfl (stA { s' with log := l3 } q) _ HG9.out _ Tryz.underlying36 (by kernel_rfl) (by kernel_rfl) ?_)
      | (with_reducible refine listLoad (by kernel_rfl) 96 (.tmp 3) rfl (w.heap.size + 1) rfl #[.int .i64 0, .int .i64 pv, .int .i64 t, .int .i64 2, .int .i64 (pg : Int), .int .i64 0, .int .i64 0, .int .i64 o.kind, .int .i64 o.slot, .string o.old, .string o.new, .int .i64 1, .int .i64 0, .string ⟨#[]⟩, .int .i64 0, .int .i64 0, .slice none 0 0, .slice none 0 0] _ H9.out.get1 _ Tryz.underlying96 (by kernel_rfl) (by kernel_rfl) ?_)
      | (go_at_call 133; (refine (HLO.out _).mono ?_); rintro e w10 ⟨rfl, hb10⟩; have H10 := Lib.hid (H9.out.step hb10); have HG10 := Lib.hid (blkOld HG9.out hb10); have HF10 := Lib.hid (blkOld HF9.out hb10); have HP10 := Lib.hid (HP9.out.below hb10); clear hb10)
      | (with_reducible refine listStore (by kernel_rfl) 36 (.tmp 7) (.tmp 97) rfl g (stA { s' with log := l4 } q) _ _ rfl rfl HG10.out (by kernel_rfl) (by kernel_rfl) (by kernel_rfl) ?_))
    have H11 := Lib.hid (H10.out.under (M := g) (by simp; omega) (rowB (g := g) (Nat.le_refl g) (show Below g w10 w10 from ⟨rfl, rfl, rfl, Nat.le_refl _, fun _ _ => rfl⟩) (stA { s' with log := l4 } q)))
    have HG11 := Lib.hid (setRow_heap _ _ _ (stA { s' with log := l4 } q) _ _ HG10.out)
    have HF11 := Lib.hid ((heap_setRow_other w10 g (stA { s' with log := l4 } q) g2 (by omega)).trans HF10.out)
    have HP11 := Lib.hid (show PoolR (w10.setRow g (stA { s' with log := l4 } q)) { s' with log := l4 } q fs' from by have h1 := HP10.out.other (t := 36) HG10.out (by decide) (by decide) (by decide) (stA { s' with log := l4 } q); exact ⟨⟨h1.st.dk, h1.st.dt, h1.st.tx, h1.st.tt⟩, h1.fn, h1.fr, h1.ft⟩)
    generalize w10.setRow g (stA { s' with log := l4 } q) = w11 at H11 HG11 HF11 HP11 ⊢
    clear H9 HG9 HF9 HP9 H10 HG10 HF10 HP10 HLO
    try simp only [Act.put]
    have hla := lsn_again HB.out HN3.out
    have HNZ := Lib.hid hla.1
    have HSL := Lib.hid (fun W => setlsn_any b lsn (by have := HB.out.size; omega) W)
    have HZE := Lib.hid (show ∃ z, z = lsnB b lsn from ⟨_, rfl⟩)
    clear hla
    obtain ⟨z, hz⟩ := HZE.out
    rw [← hz] at HNZ HSL
    have HZ := Lib.hid hz
    clear hz HZE
    go_upto_region 22 with (go_at_call 18; (refine (HSL.out _).mono ?_); rintro e w12 ⟨rfl, hb12⟩; have H12 := Lib.hid (H11.out.step hb12); have HG12 := Lib.hid (blkOld HG11.out hb12); have HF12 := Lib.hid (blkOld HF11.out hb12); have HP12 := Lib.hid (HP11.out.below hb12); have HF13 := Lib.hid (blkSet 1 HF12.out (.string z)); have hc1 := show w12.cell? ⟨g2, 1, none⟩ = some (.string f.bytes) from (by rw [blkCell HF12.out]; rfl); have hz1 := blkFrozen HF12.out 1; have hc3 := show (w12.setCell ⟨g2, 1, none⟩ (.string z)).cell? ⟨g2, 3, none⟩ = some (.bool f.mark) from (by rw [blkCell HF13.out]; rfl); have hz3 := blkFrozen HF13.out 3)
    have HF14 := Lib.hid (show ((w12.setCell ⟨g2, 1, none⟩ (.string z)).setCell ⟨g2, 3, none⟩ (.bool true)).heap[g2]? = some (.cells (frA ⟨f.page, z, f.pins, true, rc3⟩) 80 (0, 0)) from by have := blkSet 3 HF13.out (.bool true); simpa using this)
    have hb14 : Below g2 w12 ((w12.setCell ⟨g2, 1, none⟩ (.string z)).setCell ⟨g2, 3, none⟩ (.bool true)) := ((show Below g2 w12 w12 from ⟨rfl, rfl, rfl, Nat.le_refl _, fun _ _ => rfl⟩).setCell (p := ⟨g2, 1, none⟩) (Nat.le_refl _) (.string z)).setCell (p := ⟨g2, 3, none⟩) (Nat.le_refl _) (.bool true)
    have H14 := Lib.hid (H12.out.under (M := g2) (by simp; omega) hb14)
    have HG14 := Lib.hid ((hb14.block g (by omega)).trans HG12.out)
    have HP14 := Lib.hid (((HP12.out.own HF12.out (fun ad e => by have := HBF.out ad e; omega) 1 (.string z))).own HF13.out (fun ad e => by have := HBF.out ad e; omega) 3 (.bool true))
    generalize (w12.setCell ⟨g2, 1, none⟩ (.string z)).setCell ⟨g2, 3, none⟩ (.bool true) = w14 at H14 HG14 HF14 HP14 ⊢
    clear H11 HG11 HF11 HP11 H12 HG12 HF12 HP12 HF13 hc1 hz1 hc3 hz3 hb12 hb14 HSL
    have HWI := Lib.hid (fun W hp => pwith_any { s' with log := l4 } q fs' hfl k hkl ⟨f.page, z, f.pins, true, rc3⟩ W hp)
    go_upto_region 23 with (first
      | (with_reducible refine listLoad (by kernel_rfl) 36 (.tmp 7) rfl g rfl (stA { s' with log := l4 } q) _ HG14.out _ Tryz.underlying36 (by kernel_rfl) (by kernel_rfl) ?_)
      | (with_reducible refine listLoad (by kernel_rfl) 80 (.tmp 10) rfl g2 rfl (frA ⟨f.page, z, f.pins, true, rc3⟩) _ HF14.out _ Tryz.underlying80 (by kernel_rfl) (by kernel_rfl) ?_)
      | (go_at_call 64; (refine (HWI.out _ HP14.out).mono ?_); rintro e w15 ⟨q5, rfl, hp15, hb15⟩; have H15 := Lib.hid (H14.out.step hb15); have HG15 := Lib.hid (blkOld HG14.out hb15))
      | (with_reducible refine listStore (by kernel_rfl) 36 (.tmp 7) (.tmp 112) rfl g (stA { s' with log := l4 } q5) _ _ rfl rfl HG15.out (by kernel_rfl) (by kernel_rfl) (by kernel_rfl) ?_))
    have H16 := Lib.hid (H15.out.under (M := g) (by simp; omega) (rowB (g := g) (Nat.le_refl g) (show Below g w15 w15 from ⟨rfl, rfl, rfl, Nat.le_refl _, fun _ _ => rfl⟩) (stA { s' with log := l4 } q5)))
    have HG16 := Lib.hid (setRow_heap _ _ _ (stA { s' with log := l4 } q5) _ _ HG15.out)
    have HP16 := Lib.hid (hp15.other (t := 36) HG15.out (by decide) (by decide) (by decide) (stA { s' with log := l4 } q5))
    generalize w15.setRow g (stA { s' with log := l4 } q5) = w16 at H16 HG16 HP16 ⊢
    clear H14 HG14 HF14 HP14 H15 HG15 hp15 hb15 HWI
    try simp only [Act.put]
    have hc13 := show w16.cell? ⟨g, 13, none⟩ = some (.slice q5.T s'.txns.length q5.tc) from by rw [blkCell HG16.out]; rfl
    have htn : s'.txns.length ≤ 800000 := by rw [HKK.out.tx]; exact htl
    have HAM := Lib.hid (And.intro HP16.out.st.dt.lt HP16.out.ft.lt)
    have HCL := Lib.hid (tclone_any s'.txns (by omega) q5.T q5.tc w16 HP16.out.st.tx)
    go_upto_region 24 with (go_at_call 116; (refine HCL.out.mono ?_); rintro e w17 ⟨v, rfl, ho, hb17⟩; obtain ⟨g4, c4, rfl, hgB⟩ := ownSome ho (by omega); have H17 := Lib.hid (H16.out.step hb17); have HG17 := Lib.hid (blkOld HG16.out hb17); have hc14 := show w17.cell? ⟨g, 13, none⟩ = some (.slice q5.T s'.txns.length q5.tc) from (by rw [blkCell HG17.out]; rfl); have hz14 := blkFrozen HG17.out 13)
    have hg16 : g < w16.heap.size := heapLt HG16.out
    have hgg : g < g4 := by omega
    have H18 := Lib.hid (H17.out.under (M := g) (by simp; omega) ((show Below g w17 w17 from ⟨rfl, rfl, rfl, Nat.le_refl _, fun _ _ => rfl⟩).setCell (p := ⟨g, 13, none⟩) (Nat.le_refl _) (.slice (some ⟨g4, 0, none⟩) s'.txns.length c4)))
    have HG18 := Lib.hid (show (w17.setCell ⟨g, 13, none⟩ (.slice (some ⟨g4, 0, none⟩) s'.txns.length c4)).heap[g]? = some (.cells (stA { s' with log := l4 } { q5 with T := some ⟨g4, 0, none⟩, tc := c4 }) 36 (0, 0)) from by have := blkSet 13 HG17.out (.slice (some ⟨g4, 0, none⟩) s'.txns.length c4); simpa using this)
    have HO18 := Lib.hid (ownSet ho ⟨g, 13, none⟩ (.slice (some ⟨g4, 0, none⟩) s'.txns.length c4) hg16)
    have HP17 := Lib.hid (HP16.out.below hb17)
    have HP18 := Lib.hid (HP17.out.set HG17.out (by decide) (by decide) (by decide) 13 (.slice (some ⟨g4, 0, none⟩) s'.txns.length c4))
    generalize w17.setCell ⟨g, 13, none⟩ (.slice (some ⟨g4, 0, none⟩) s'.txns.length c4) = w18 at H18 HG18 HO18 HP18 ⊢
    clear hc13 hc14 hz14 H16 HG16 HP16 H17 HG17 HP17 HCL ho hb17
    generalize w16.heap.size = M at HO18 hgB hg16 HAM
    try simp only [Act.put]
    obtain ⟨y1, hy1⟩ : ∃ y, y = ({ s'.txns[i] with last := lsn } : Rc.TxnAt) := ⟨_, rfl⟩
    obtain ⟨y2, hy2⟩ : ∃ y, y = ({ y1 with next := lsn } : Rc.TxnAt) := ⟨_, rfl⟩
    have hk1 : i < (s'.txns.set i y1).length := by rw [List.length_set]; exact hil
    have hy2' : txC y2 = (txC (s'.txns.set i y1)[i]).set 2 (.int .i64 lsn) := by rw [List.getElem_set_self, hy2]; rfl
    have hy1' : txC y1 = (txC s'.txns[i]).set 1 (.int .i64 lsn) := by rw [hy1]; rfl
    have HYY := Lib.hid (show (s'.txns.set i y1).set i y2 = s'.txns.set i { s'.txns[i] with last := lsn, next := lsn } from by rw [List.set_set, hy2, hy1])
    clear hy1 hy2
    go_cut [128] (fun x wc => ∃ ts, ts = (s'.txns.set i y1).set i y2 ∧ wc.ownsRow M 156 4 (.slice (some ⟨g4, 0, none⟩) s'.txns.length c4) s'.txns.length (ts.flatMap txC) ∧ Below M w18 wc)
    case first =>
      have hQ : Below M w18 w18.drew := (show Below M w18 w18 from ⟨rfl, rfl, rfl, Nat.le_refl _, fun _ _ => rfl⟩).drew
      have hO := ownBelow HO18.out (Below.refl _ w18).drew
      have HS8 := Lib.hid (fun (u : World) (hu : Below M w18 u) => show u.cell? ⟨g, 13, none⟩ = some (.slice (some ⟨g4, 0, none⟩) s'.txns.length c4) from by rw [hu.cell (p := ⟨g, 13, none⟩) hg16, blkCell HG18.out]; rfl)
      have hSn := HS8.out _ hQ
      refine wp_region_held_drew (S := (fun u => u.cell? ⟨g, 13, none⟩ = some (.slice (some ⟨g4, 0, none⟩) s'.txns.length c4))) (by kernel_rfl) ?_ (fun hHeld => ?_)
      · exact hSn
      generalize w18.drew = w8 at hSn hO hQ ⊢
      refine tkW 0 (some 117) (v := ?_) rfl ?_ ?_
      rotate_left
      · intro u hSu; have hcl := hSu
        clear hSu; go_simp; (try with_reducible rfl)
      try simp only [Act.put, List.setIfInBounds_toArray, List.set_cons_zero, List.set_cons_succ]
      refine tkW 1 (some 118) (v := ?_) rfl ?_ ?_
      rotate_left
      · intro u hSu; have hcl := hSu
        clear hSu; go_simp; (try with_reducible rfl)
      try simp only [Act.put, List.setIfInBounds_toArray, List.set_cons_zero, List.set_cons_succ]
      refine tkW 2 (some 119) (v := ?_) rfl ?_ ?_
      rotate_left
      · intro u hSu; have hcl := hSu
        clear hSu; go_simp; (try with_reducible rfl)
      try simp only [Act.put, List.setIfInBounds_toArray, List.set_cons_zero, List.set_cons_succ]
      refine tkW 3 (some 120) (v := ?_) rfl ?_ ?_
      rotate_left
      · intro u hSu; have hcl := hSu
        clear hSu; go_simp; (try with_reducible rfl)
      try simp only [Act.put, List.setIfInBounds_toArray, List.set_cons_zero, List.set_cons_succ]
      refine tkW 4 (some 121) (v := ?_) rfl ?_ ?_
      rotate_left
      · intro u hSu; have hcl := hSu
        clear hSu; go_simp; (try with_reducible rfl)
      try simp only [Act.put, List.setIfInBounds_toArray, List.set_cons_zero, List.set_cons_succ]
      refine tkW 5 (some 122) (v := ?_) rfl ?_ ?_
      rotate_left
      · intro u hSu; have hcl := hSu
        clear hSu; go_simp; (try with_reducible rfl)
      try simp only [Act.put, List.setIfInBounds_toArray, List.set_cons_zero, List.set_cons_succ]
      refine tkW 6 (some 123) (v := ?_) rfl ?_ ?_
      rotate_left
      · intro u hSu; have hcl := hSu
        clear hSu; go_simp; (try with_reducible rfl)
      try simp only [Act.put, List.setIfInBounds_toArray, List.set_cons_zero, List.set_cons_succ]
      refine tkW 7 (some 124) (v := ?_) rfl ?_ ?_
      rotate_left
      · intro u hSu; have hcl := hSu
        clear hSu; go_simp; (try with_reducible rfl)
      try simp only [Act.put, List.setIfInBounds_toArray, List.set_cons_zero, List.set_cons_succ]
      refine tkW 8 (some 125) (v := ?_) rfl ?_ ?_
      rotate_left
      · intro u hSu; have hcl := hSu
        clear hSu; go_simp; (try with_reducible rfl)
      try simp only [Act.put, List.setIfInBounds_toArray, List.set_cons_zero, List.set_cons_succ]
      refine tkW 9 (some 126) (v := ?_) rfl ?_ ?_
      rotate_left
      · intro u hSu; have hcl := hSu
        clear hSu; go_simp; (try with_reducible rfl)
      try simp only [Act.put, List.setIfInBounds_toArray, List.set_cons_zero, List.set_cons_succ]
      refine rdH 10 none rfl (fun K hK => ?_)
      obtain ⟨hcq, hzq, hOq⟩ := rowSet hO rfl i hil 1 (by omega) (.int .i64 lsn) y1 hy1'
      have hQm := hQ.setCell (p := ⟨g4, i * 4 + 1, none⟩) hgB (.int .i64 lsn)
      go_simp
      clear hSn hO hQ hcq hzq
      have hQ := hQm
      have hO := hOq
      clear hQm hOq
      generalize w8.setCell ⟨g4, i * 4 + 1, none⟩ (.int .i64 lsn) = w3 at hQ hO ⊢
      have hSn := HS8.out _ hQ
      refine hK.out _ _ ?_ (fun hHeld => ?_)
      · exact hSn
      clear hK K
      try simp only [Act.put, List.setIfInBounds_toArray, List.set_cons_zero, List.set_cons_succ]
      refine tkW 11 (some 127) (v := ?_) rfl ?_ ?_
      rotate_left
      · intro u hSu; have hcl := hSu
        clear hSu; go_simp; (try with_reducible rfl)
      try simp only [Act.put, List.setIfInBounds_toArray, List.set_cons_zero, List.set_cons_succ]
      refine tkW 12 (some 128) (v := ?_) rfl ?_ ?_
      rotate_left
      · intro u hSu; have hcl := hSu
        clear hSu; go_simp; (try with_reducible rfl)
      try simp only [Act.put, List.setIfInBounds_toArray, List.set_cons_zero, List.set_cons_succ]
      refine rdH 13 none rfl (fun K hK => ?_)
      obtain ⟨hcq, hzq, hOq⟩ := rowSet hO (by rw [List.length_set]) i hk1 2 (by omega) (.int .i64 lsn) y2 hy2'
      have hQm := hQ.setCell (p := ⟨g4, i * 4 + 2, none⟩) hgB (.int .i64 lsn)
      go_simp
      clear hSn hO hQ hcq hzq
      have hQ := hQm
      have hO := hOq
      clear hQm hOq
      generalize w3.setCell ⟨g4, i * 4 + 2, none⟩ (.int .i64 lsn) = w4 at hQ hO ⊢
      have hSn := HS8.out _ hQ
      refine hK.out _ _ ?_ (fun hHeld => ?_)
      · exact hSn
      clear hK K
      try simp only [Act.put, List.setIfInBounds_toArray, List.set_cons_zero, List.set_cons_succ]
      refine wpAnyH_done (by kernel_rfl) ?_ _
      clear hHeld
      go_wp2_with fail
      go_meet
      case rel => exact ⟨_, rfl, hO, hQ⟩
    case rest =>
      obtain ⟨ts, hts2, ho19, hb19⟩ := hcut
      obtain ⟨w19, rfl⟩ : ∃ wm : World, wm = wc := ⟨_, rfl⟩
      have HTS2 := Lib.hid hts2
      have htl3 : ts.length = s'.txns.length := by rw [hts2, List.length_set, List.length_set]
      have HTL := Lib.hid htl3
      have H19 := Lib.hid (H18.out.under (M := M) (by simp; omega) hb19)
      have HG19 := Lib.hid ((hb19.block g hg16).trans HG18.out)
      have HO19 := Lib.hid ho19
      have HB19 := Lib.hid hb19
      have hck := show w19.cell? ⟨(w.heap.size + 1), 3, none⟩ = some (.int .i64 2) from by rw [blkCell H19.out.get1]; rfl
      clear hts2 htl3 ho19 hb19 hy1' hy2' hk1
      go_wp2_with (first
        | (with_reducible refine listLoad (by kernel_rfl) 36 (.tmp 7) rfl g rfl (stA { s' with log := l4 } { q5 with T := some ⟨g4, 0, none⟩, tc := c4 }) _ HG19.out _ Tryz.underlying36 (by kernel_rfl) (by kernel_rfl) ?_)
        | (with_reducible refine listStore (by kernel_rfl) 36 (.tmp 4) (.tmp 139) rfl (w.heap.size + 2) (stA { s' with log := l4 } { q5 with T := some ⟨g4, 0, none⟩, tc := c4 }) _ _ rfl rfl H19.out.get2 (by kernel_rfl) (by kernel_rfl) (by kernel_rfl) ?_))
      refine bodyPost_ret (v := .tuple #[.agg (stA { s' with log := l4 } { q5 with T := some ⟨g4, 0, none⟩, tc := c4 }), .int .i64 0]) (results_cell2 rfl _ _ rfl (load_whole (setRow_heap _ _ _ _ _ _ H19.out.get2) Tryz.underlying36 (by kernel_rfl) (by kernel_rfl)) rfl) rfl ?_
      have hq9 : ∀ L (e : L = s.txns) (h : i < L.length), L.set i { L[i] with last := lsn, next := lsn } = s.txns.set i { s.txns[i] with last := lsn, next := lsn } := fun L e h => by subst e; rfl
      have he9 : (Value.agg (stA { s' with log := l4 } { q5 with T := some ⟨g4, 0, none⟩, tc := c4 })) = storeV { s' with log := l4, txns := ts } { q5 with T := some ⟨g4, 0, none⟩, tc := c4 } := by dsimp only [storeV, stA]; rw [HTL.out]
      have hO9 := HO19.out
      rw [← HTL.out] at hO9
      have hp19 := HP18.out.upto HAM.out.1 HAM.out.2 HB19.out (own_reads hO9) ((NewT.own hO9).mono (Nat.zero_le _))
      have hp20 := hp19.other (t := 36) H19.out.get2 (by decide) (by decide) (by decide) (stA { s' with log := l4 } { q5 with T := some ⟨g4, 0, none⟩, tc := c4 })
      have hbw := (H19.out.row 2 (stA { s' with log := l4 } { q5 with T := some ⟨g4, 0, none⟩, tc := c4 }) _ rfl).below
      rw [he9]
      have hfk := HFE.out
      have hff := HFF.out
      rw [hfk] at hff
      have hi20 := HI9.out.change (s' := { s' with log := l4, txns := ts }) hkl hpg hff.1 hff.2.1 HNZ.out HRN.out.1 HRN.out.2 rfl rfl rfl rfl HI9.out.pw
      have hF2 : (⟨f.page, z, f.pins, true, rc3⟩ : Fr) = ⟨(pg : Int), z, 0, true, rc3⟩ := by rw [hfk, hff.2.1, hff.2.2.2.1]
      rw [hF2] at hp20
      rw [HZ.out] at hp20 hi20
      exact HQ.out _ _ _ lsn _ hp20 hi20 ⟨⟨i, hi, HTI.out, HTS2.out.trans (HYY.out.trans (hq9 _ HKK.out.tx hil))⟩, HN3.out, HKK.out.nx, HKK.out.zf, by rw [List.length_set]; exact HKK.out.ln, HE9.out.1, HE9.out.2⟩ hbw
end Go.Proofs.YtmebkghdkeeobaaGreatDoor
