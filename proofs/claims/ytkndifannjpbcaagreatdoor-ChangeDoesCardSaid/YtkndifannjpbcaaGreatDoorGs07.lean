/- The plain law of changes: what is done, and the way back. -/
import Derived.Test.YtkndifannjpbcaaGreatDoorGs06
import Derived.Test.YtkndifannjpbcaaGreatDoorGs01
import Derived.Test.YtkndifannjpbcaaGreatDoorGs03
import Derived.Deep.QuietTactic
import Derived.BigQuiet
import Derived.Deep.DeepCutAuto
import Derived.Deep.LoopGhost
import Derived.Deep.RegionHeld3
import Derived.Deep.AppendLies
import Derived.Deep.MidRow
import Derived.Laws.ResultCell
import Derived.Laws.Tables
import Derived.Laws.StructEq
import Derived.Laws.CopyOwn
import Derived.Laws.MakeOwn
import Derived.Laws.OwnMore
import Derived.Maps.AppendAt
import Derived.OwnWalk
import Derived.IntWalk
import Derived.WalkSmall
import Derived.Test.YtkndifannjpbcaaGreatDoorCards
import Derived.Test.YtkndifannjpbcaaGreatDoorTie
import Derived.Deep.DeepHandedRow
import Derived.Deep.DeepWitnessRowRef
import Derived.Lib.LaidTab
import Derived.Stop.LaidErr
import Derived.LaidMore
import Derived.LaidLaws
namespace Go.Proofs.YtkndifannjpbcaaGreatDoor
open Go.RowKit

/-- A change. -/
structure Cop where
  kind : Int
  slot : Int
  old : ByteArray
  new : ByteArray
def itoaB (n : Int) : ByteArray := ⟨(Lib.itoa n).toArray⟩
def noPage : ByteArray × Bool := (⟨#[]⟩, false)
def okB (x : ByteArray × Int) : ByteArray × Bool := (x.1, decide (x.2 = 0))
/-- Is a record there, and is it the change's old one? -/
def oldIs (p : ByteArray) (o : Cop) : Bool := !decide ((Pg.slotAt (leafP p).recs o.slot).size = 0) && decide (o.old = Pg.slotAt (leafP p).recs o.slot)
def linkedO (p : ByteArray) (o : Cop) : ByteArray × Bool :=
  match Lib.atoiAll o.new.data.toList with
  | .ok n => if itoaB n = o.new ∧ o.old = itoaB ((leafP p).link : Nat) ∧ o.slot = 0 then (linkB p n, !decide ((linkB p n).size = 0)) else noPage
  | _ => noPage
def wholeO (p : ByteArray) (o : Cop) : ByteArray × Bool :=
  if o.slot = 0 ∧ o.old = lsnB p 0 ∧ ¬ o.new.size = 0 ∧ lsnB o.new 0 = o.new then (lsnB o.new ((leafP p).lsn : Nat), !decide ((lsnB o.new ((leafP p).lsn : Nat)).size = 0)) else noPage
/-- What comes of a page, and whether the change may be done. -/
def madeO (p : ByteArray) (o : Cop) : ByteArray × Bool :=
  if o.kind = 1 then (if o.old.size = 0 then okB (putO p o.slot o.new) else noPage)
  else if o.kind = 2 then (if oldIs p o && decide (o.new.size = 0) then okB (cutO p o.slot) else noPage)
  else if o.kind = 3 then (if oldIs p o then okB (setO p o.slot o.new) else noPage)
  else if o.kind = 4 then (if o.old.size = 0 then okB (addO p o.slot o.new) else noPage)
  else if o.kind = 5 then (if oldIs p o && decide (o.new.size = 0) then okB (delO p o.slot) else noPage)
  else if o.kind = 6 then linkedO p o
  else if o.kind = 7 then wholeO p o
  else noPage
def rightO (p : ByteArray) (o : Cop) : Bool := isPg p && (madeO p o).2
def doO (p : ByteArray) (o : Cop) : ByteArray × Int := if rightO p o then ((madeO p o).1, 0) else (⟨#[]⟩, 1)
def backK (k : Int) : Int := if k = 1 then 2 else if k = 2 then 1 else if k = 4 then 5 else if k = 5 then 4 else k
def backO (o : Cop) : Cop := ⟨backK o.kind, o.slot, o.new, o.old⟩
theorem backK_backK (k : Int) : backK (backK k) = k := by unfold backK; repeat' split <;> omega
theorem back_back (o : Cop) : backO (backO o) = o := by
  unfold backO
  simp only [backK_backK]

theorem okB_yes {x : ByteArray × Int} (h : (okB x).2 = true) : x = (x.1, 0) := by
  obtain ⟨a, e⟩ := x
  have : e = 0 := of_decide_eq_true h
  rw [this]
theorem size_ne {p : ByteArray} {n : Int} (h : ¬ (lsnB p n).size = 0) : isPg p = true ∧ 0 ≤ n ∧ n < 281474976710656 := by
  unfold lsnB at h
  split at h
  · exact absurd rfl h
  · rename_i h1
    cases hp : isPg p with
    | false => exact absurd (.inl hp) h1
    | true => exact ⟨rfl, by omega, by omega⟩
theorem size_ne_link {p : ByteArray} {n : Int} (h : ¬ (linkB p n).size = 0) : isPg p = true ∧ 0 ≤ n ∧ n < 16777216 := by
  unfold linkB at h
  split at h
  · exact absurd rfl h
  · rename_i h1
    cases hp : isPg p with
    | false => exact absurd (.inl hp) h1
    | true => exact ⟨rfl, by omega, by omega⟩
/-- A page with another head. -/
theorem head_is (p : ByteArray) {l k : Nat} (hl : l < 281474976710656) (hk : k < 16777216) : isPg (pageB ⟨l, (leafP p).kind, k, (leafP p).recs⟩) = true ∧ leafP (pageB ⟨l, (leafP p).kind, k, (leafP p).recs⟩) = ⟨l, (leafP p).kind, k, (leafP p).recs⟩ ∧ (pageB ⟨l, (leafP p).kind, k, (leafP p).recs⟩).size = 512 := by
  have hg := leafP_good p
  have ht := Pg.trim_of_tight hg.tight
  have hs : Pg.sizeN (Pg.trim (leafP p).recs) ≤ 512 := by rw [ht]; exact hg.fits
  obtain ⟨h1, h2⟩ := pageB_is (x := ⟨l, (leafP p).kind, k, (leafP p).recs⟩) ⟨hl, hg.fine.small.2.1, hk⟩ hs hg.fine.each
  refine ⟨h1, ?_, pageB_size hs⟩
  rw [h2]
  simp only [ht]
theorem lsn_head {p : ByteArray} (h : isPg p = true) {l : Nat} (hl : l < 281474976710656) : lsnB p (l : Int) = pageB ⟨l, (leafP p).kind, (leafP p).link, (leafP p).recs⟩ := by
  unfold lsnB
  rw [if_neg (by rw [h]; simp; omega)]
  rfl
theorem link_head {p : ByteArray} (h : isPg p = true) {k : Nat} (hk : k < 16777216) : linkB p (k : Int) = pageB ⟨(leafP p).lsn, (leafP p).kind, k, (leafP p).recs⟩ := by
  unfold linkB
  rw [if_neg (by rw [h]; simp; omega)]
  rfl
theorem lsn_small (p : ByteArray) : (leafP p).lsn < 281474976710656 := (leafP_good p).fine.small.1
theorem link_small (p : ByteArray) : (leafP p).link < 16777216 := (leafP_good p).fine.small.2.2
theorem lsn_page {p : ByteArray} (h : isPg p = true) {l : Nat} (hl : l < 281474976710656) : isPg (lsnB p (l : Int)) = true ∧ leafP (lsnB p (l : Int)) = ⟨l, (leafP p).kind, (leafP p).link, (leafP p).recs⟩ ∧ (lsnB p (l : Int)).size = 512 := by
  rw [lsn_head h hl]; exact head_is p hl (link_small p)
theorem link_page {p : ByteArray} (h : isPg p = true) {k : Nat} (hk : k < 16777216) : isPg (linkB p (k : Int)) = true ∧ leafP (linkB p (k : Int)) = ⟨(leafP p).lsn, (leafP p).kind, k, (leafP p).recs⟩ ∧ (linkB p (k : Int)).size = 512 := by
  rw [link_head h hk]; exact head_is p (lsn_small p) hk
theorem lsn_lsn {p : ByteArray} (h : isPg p = true) {l m : Nat} (hl : l < 281474976710656) (hm : m < 281474976710656) : lsnB (lsnB p (l : Int)) (m : Int) = lsnB p (m : Int) := by
  obtain ⟨h1, h2, _⟩ := lsn_page h hl
  rw [lsn_head h1 hm, lsn_head h hm, h2]
theorem plB_eq {p : ByteArray} (h : isPg p = true) : plB p = pageB (leafP p) := plain_page h
theorem plB_page {p : ByteArray} (h : isPg p = true) : isPg (plB p) = true ∧ leafP (plB p) = leafP p ∧ (plB p).size = 512 := lsn_page h (lsn_small p)
theorem plB_plB {p : ByteArray} (h : isPg p = true) : plB (plB p) = plB p := by
  unfold plB
  have h2 := (plB_page h).2.1
  unfold plB at h2
  rw [h2]
  exact lsn_lsn h (lsn_small p) (lsn_small p)
theorem itoa_read (n : Nat) (h : n < 16777216) : Lib.atoiAll (itoaB (n : Int)).data.toList = .ok (n : Int) := by
  show Lib.atoiAll (Lib.itoa (n : Int)) = _
  exact NumPlain.atoiAll_itoa (NumPlain.inN_of (by omega) (by omega))

/-- What a change that was done has made, and what its way back makes of it. -/
structure Undone (p q : ByteArray) (o : Cop) : Prop where
  page : isPg q = true
  size : q.size = 512
  lsn : (leafP q).lsn = (leafP p).lsn
  norm : plB q = q
  back : madeO q (backO o) = (plB p, true)
theorem made_norm {p q : ByteArray} {rs : List ByteArray} (he : ∀ r ∈ rs, r.size ≤ 400) (h : Pg.fullO (withRecs p rs) = (q, 0)) : plB q = q := by
  obtain ⟨M, hq⟩ := full_made he h rfl
  rw [plB_eq M.isPg]
  have hs : Pg.sizeN (Pg.trim rs) ≤ 512 := by
    rcases fullO_cases (withRecs p rs) with ⟨hs, _⟩ | ⟨_, h2⟩
    · exact hs
    · rw [h2] at h; injection h with _ h; omega
  obtain ⟨_, h3⟩ := pageB_is (withRecs_small p rs) hs he
  rw [← hq] at h3
  rw [h3]
  have ht : Pg.trim (Pg.trim rs) = Pg.trim rs := Pg.trim_ext fun j => Pg.trim_rec rs j
  have e : Pg.layL { withRecs p rs with recs := Pg.trim (withRecs p rs).recs } = Pg.layL (withRecs p rs) := by
    unfold Pg.layL
    show Pg.layR _ (Pg.trim (Pg.trim rs)) = Pg.layR _ (Pg.trim rs)
    rw [ht]
    rfl
  rw [hq]
  unfold pageB
  rw [e]
theorem putO_norm {p q r : ByteArray} {i : Int} (h : putO p i r = (q, 0)) : plB q = q := by
  obtain ⟨k, rfl, hp, h0, hm, hk, _⟩ := putO_ok h
  rw [putO_do hp h0 hm hk] at h
  exact made_norm (Pg.putAt_mem (leaf_each p) (mayB_yes hm).2) h
theorem cutO_norm {p q : ByteArray} {i : Int} (h : cutO p i = (q, 0)) : plB q = q := by
  obtain ⟨k, rfl, hp, h0, hk, _⟩ := cutO_ok h
  rw [cutO_do hp h0] at h
  exact made_norm (Pg.putAt_mem (leaf_each p) (by show 0 ≤ 400; omega)) h
theorem setO_norm {p q r : ByteArray} {i : Int} (h : setO p i r = (q, 0)) : plB q = q := by
  obtain ⟨k, rfl, hp, hm, h0, hk, _⟩ := setO_ok h
  rw [setO_do hp hm h0] at h
  exact made_norm (Pg.putAt_mem (leaf_each p) (mayB_yes hm).2) h
theorem addO_norm {p q r : ByteArray} {i : Int} (h : addO p i r = (q, 0)) : plB q = q := by
  obtain ⟨k, rfl, hp, hm, hk, _⟩ := addO_ok h
  rw [addO_do hp hm hk] at h
  exact made_norm (Pg.insAt_mem (leaf_each p) (mayB_yes hm).2) h
theorem delO_norm {p q : ByteArray} {i : Int} (h : delO p i = (q, 0)) : plB q = q := by
  obtain ⟨k, rfl, hp, h0, hk, _⟩ := delO_ok h
  rw [delO_do hp h0] at h
  exact made_norm (Pg.delAt_mem (leaf_each p)) h
theorem oldIs_yes {p : ByteArray} {o : Cop} (h : oldIs p o = true) : (Pg.slotAt (leafP p).recs o.slot).size ≠ 0 ∧ o.old = Pg.slotAt (leafP p).recs o.slot := by
  unfold oldIs at h
  rw [Bool.and_eq_true] at h
  exact ⟨by simpa using h.1, of_decide_eq_true h.2⟩
theorem oldIs_of {p : ByteArray} {o : Cop} (h : o.old.size ≠ 0) (h2 : Pg.slotAt (leafP p).recs o.slot = o.old) : oldIs p o = true := by
  unfold oldIs
  rw [h2]
  simp [h]
theorem nil_eq {r : ByteArray} (h : r.size = 0) : r = ⟨#[]⟩ := Pg.nil_of_size h
theorem undone {p : ByteArray} {o : Cop} (h : rightO p o = true) : Undone p (madeO p o).1 o := by
  unfold rightO at h
  rw [Bool.and_eq_true] at h
  obtain ⟨hp, hm⟩ := h
  obtain ⟨kind, slot, old, new⟩ := o
  by_cases h1 : kind = 1
  · subst h1
    have e : madeO p ⟨1, slot, old, new⟩ = if old.size = 0 then okB (putO p slot new) else noPage := if_pos rfl
    rw [e] at hm ⊢
    split at hm
    · rename_i h0
      rw [if_pos h0]
      have hq := okB_yes hm
      obtain ⟨k, hk, _, hz, hmay, _, M⟩ := putO_ok hq
      obtain ⟨_, hsz, hc⟩ := back1 hq
      have hr := mayB_yes hmay
      have hold : Pg.slotAt (leafP (putO p slot new).1).recs slot = new := by subst hk; rw [Pg.slotAt_rec, M.rec_, Pg.putAt_rec, if_pos rfl]
      refine ⟨M.isPg, hsz, M.lsn, putO_norm hq, ?_⟩
      show (if oldIs (putO p slot new).1 ⟨2, slot, new, old⟩ && decide (old.size = 0) then okB (cutO (putO p slot new).1 slot) else noPage) = _
      rw [oldIs_of (by show new.size ≠ 0; omega) hold, decide_eq_true h0, hc]
      rfl
    · cases hm
  by_cases h2 : kind = 2
  · subst h2
    have e : madeO p ⟨2, slot, old, new⟩ = if oldIs p ⟨2, slot, old, new⟩ && decide (new.size = 0) then okB (cutO p slot) else noPage := rfl
    rw [e] at hm ⊢
    split at hm
    · rename_i h0
      rw [if_pos h0]
      rw [Bool.and_eq_true] at h0
      obtain ⟨ho1, ho2⟩ := oldIs_yes h0.1
      have hn := of_decide_eq_true h0.2
      have hq := okB_yes hm
      obtain ⟨k, hk, _, hz, _, M⟩ := cutO_ok hq
      obtain ⟨_, hsz, hc⟩ := back2 hq
      refine ⟨M.isPg, hsz, M.lsn, cutO_norm hq, ?_⟩
      show (if new.size = 0 then okB (putO (cutO p slot).1 slot old) else noPage) = _
      rw [if_pos hn, show old = Pg.slotAt (leafP p).recs slot from ho2, hc]
      rfl
    · cases hm
  by_cases h3 : kind = 3
  · subst h3
    have e : madeO p ⟨3, slot, old, new⟩ = if oldIs p ⟨3, slot, old, new⟩ then okB (setO p slot new) else noPage := rfl
    rw [e] at hm ⊢
    split at hm
    · rename_i h0
      rw [if_pos h0]
      obtain ⟨ho1, ho2⟩ := oldIs_yes h0
      have hq := okB_yes hm
      obtain ⟨k, hk, _, hmay, hz, _, M⟩ := setO_ok hq
      obtain ⟨_, hsz, hc, hl, _⟩ := back3 hq
      have hr := mayB_yes hmay
      have hold : Pg.slotAt (leafP (setO p slot new).1).recs slot = new := by subst hk; rw [Pg.slotAt_rec, M.rec_, Pg.putAt_rec, if_pos rfl]
      refine ⟨M.isPg, hsz, M.lsn, setO_norm hq, ?_⟩
      show (if oldIs (setO p slot new).1 ⟨3, slot, new, old⟩ then okB (setO (setO p slot new).1 slot old) else noPage) = _
      rw [if_pos (oldIs_of (by show new.size ≠ 0; omega) hold), show old = Pg.slotAt (leafP p).recs slot from ho2, hc]
      rfl
    · cases hm
  by_cases h4 : kind = 4
  · subst h4
    have e : madeO p ⟨4, slot, old, new⟩ = if old.size = 0 then okB (addO p slot new) else noPage := rfl
    rw [e] at hm ⊢
    split at hm
    · rename_i h0
      rw [if_pos h0]
      have hq := okB_yes hm
      obtain ⟨k, hk, _, hmay, _, M⟩ := addO_ok hq
      obtain ⟨hsz, hc⟩ := back4 hq
      have hr := mayB_yes hmay
      have hold : Pg.slotAt (leafP (addO p slot new).1).recs slot = new := by subst hk; rw [Pg.slotAt_rec, M.rec_, Pg.insAt_rec, if_neg (by omega), if_pos rfl]
      refine ⟨M.isPg, hsz, M.lsn, addO_norm hq, ?_⟩
      show (if oldIs (addO p slot new).1 ⟨5, slot, new, old⟩ && decide (old.size = 0) then okB (delO (addO p slot new).1 slot) else noPage) = _
      rw [oldIs_of (by show new.size ≠ 0; omega) hold, decide_eq_true h0, hc]
      rfl
    · cases hm
  by_cases h5 : kind = 5
  · subst h5
    have e : madeO p ⟨5, slot, old, new⟩ = if oldIs p ⟨5, slot, old, new⟩ && decide (new.size = 0) then okB (delO p slot) else noPage := rfl
    rw [e] at hm ⊢
    split at hm
    · rename_i h0
      rw [if_pos h0]
      rw [Bool.and_eq_true] at h0
      obtain ⟨ho1, ho2⟩ := oldIs_yes h0.1
      have hn := of_decide_eq_true h0.2
      have hq := okB_yes hm
      obtain ⟨k, hk, _, hz, _, M⟩ := delO_ok hq
      obtain ⟨hsz, hc⟩ := back5 hq
      refine ⟨M.isPg, hsz, M.lsn, delO_norm hq, ?_⟩
      show (if new.size = 0 then okB (addO (delO p slot).1 slot old) else noPage) = _
      rw [if_pos hn, show old = Pg.slotAt (leafP p).recs slot from ho2, hc]
      rfl
    · cases hm
  by_cases h6 : kind = 6
  · subst h6
    have e : madeO p ⟨6, slot, old, new⟩ = linkedO p ⟨6, slot, old, new⟩ := rfl
    rw [e] at hm ⊢
    unfold linkedO at hm ⊢
    simp only at hm ⊢
    obtain ⟨n, hn⟩ : ∃ n, Lib.atoiAll new.data.toList = .ok n := by
      cases hn : Lib.atoiAll new.data.toList with
      | ok n => exact ⟨n, rfl⟩
      | _ => rw [hn] at hm; cases hm
    rw [hn] at hm ⊢
    simp only at hm ⊢
    · split at hm
      · rename_i hc
        rw [if_pos hc]
        obtain ⟨c1, c2, c3⟩ := hc
        have hz : ¬ (linkB p n).size = 0 := by simpa using hm
        obtain ⟨_, n0, n1⟩ := size_ne_link hz
        obtain ⟨m, rfl⟩ := Int.eq_ofNat_of_zero_le n0
        have hm1 : m < 16777216 := by omega
        obtain ⟨g1, g2, g3⟩ := link_page hp hm1
        have hb : linkB (linkB p (m : Int)) ((leafP p).link : Nat) = plB p := by
          rw [link_head g1 (link_small p), g2, plB_eq hp]
        refine ⟨g1, g3, by rw [g2], ?_, ?_⟩
        · rw [plB_eq g1, g2, link_head hp hm1]
        · show linkedO (linkB p (m : Int)) ⟨6, slot, new, old⟩ = _
          unfold linkedO
          simp only
          rw [c2, itoa_read _ (link_small p)]
          simp only
          rw [g2]
          simp only
          simp only [true_and] at *
          rw [if_pos (by first | exact ⟨rfl, c1.symm, c3⟩ | exact ⟨trivial, c1.symm, c3⟩ | exact ⟨c1.symm, c3⟩), hb]
          have := (plB_page hp).2.2
          rw [this]
          rfl
      · cases hm
  by_cases h7 : kind = 7
  · subst h7
    have e : madeO p ⟨7, slot, old, new⟩ = wholeO p ⟨7, slot, old, new⟩ := rfl
    rw [e] at hm ⊢
    unfold wholeO at hm ⊢
    simp only at hm ⊢
    split at hm
    · rename_i hc
      rw [if_pos hc]
      obtain ⟨c1, c2, c3, c4⟩ := hc
      have hz : ¬ (lsnB new ((leafP p).lsn : Nat)).size = 0 := by simpa using hm
      obtain ⟨hn, _, _⟩ := size_ne hz
      obtain ⟨g1, g2, g3⟩ := lsn_page hn (lsn_small p)
      obtain ⟨i1, i2, i3⟩ := lsn_page hp (l := 0) (by omega)
      refine ⟨g1, g3, by rw [g2], ?_, ?_⟩
      · rw [plB_eq g1, g2, lsn_head hn (lsn_small p)]
      · show wholeO (lsnB new ((leafP p).lsn : Nat)) ⟨7, slot, new, old⟩ = _
        unfold wholeO
        simp only
        have j1 : lsnB (lsnB new ((leafP p).lsn : Nat)) 0 = new := by
          have := lsn_lsn hn (lsn_small p) (m := 0) (by omega)
          exact this.trans c4
        have j2 : lsnB (lsnB p 0) 0 = lsnB p 0 := lsn_lsn hp (l := 0) (m := 0) (by omega) (by omega)
        have j3 : lsnB (lsnB p 0) ((leafP p).lsn : Nat) = plB p := lsn_lsn hp (l := 0) (by omega) (lsn_small p)
        have i3' : (lsnB p 0).size = 512 := i3
        rw [c2, g2]
        simp only
        rw [if_pos ⟨c1, j1.symm, by rw [i3']; omega, j2⟩, j3]
        have := (plB_page hp).2.2
        rw [this]
        rfl
    · cases hm
  · have e : madeO p ⟨kind, slot, old, new⟩ = noPage := by
      unfold madeO
      simp only
      rw [if_neg h1, if_neg h2, if_neg h3, if_neg h4, if_neg h5, if_neg h6, if_neg h7]
    rw [e] at hm
    cases hm
/-- What was done is undone. -/
theorem do_back {p : ByteArray} {o : Cop} (h : rightO p o = true) : doO p o = ((madeO p o).1, 0) ∧ rightO (madeO p o).1 (backO o) = true ∧ doO (madeO p o).1 (backO o) = (plB p, 0) := by
  have U := undone h
  have hr : rightO (madeO p o).1 (backO o) = true := by unfold rightO; rw [U.page, U.back]; rfl
  refine ⟨by unfold doO; rw [if_pos h], hr, ?_⟩
  unfold doO
  rw [if_pos hr, U.back]
end Go.Proofs.YtkndifannjpbcaaGreatDoor
/- Words for memory that serve every seat: rows that are read, rows of the call's own, appends. -/
namespace Go.Proofs.YtkndifannjpbcaaGreatDoor
open Go.RowKit

theorem retI {k : IntKind} {a b : Int} (h : a = b) : Ending.returned (.int k a) = .returned (.int k b) := by rw [h]
theorem retS {a b : ByteArray} (h : a = b) : Ending.returned (.string a) = .returned (.string b) := by rw [h]
theorem retB {a b : Bool} (h : a = b) : Ending.returned (.bool a) = .returned (.bool b) := by rw [h]
theorem joinB {a b c : World} (h : Below a.heap.size a b) (k : Below b.heap.size b c) : Below a.heap.size a c := h.trans (k.mono h.size)
theorem drewB (w : World) (n : Nat) : Below w.heap.size w (w.drewN n) := ⟨rfl, rfl, rfl, Nat.le_refl _, fun _ _ => rfl⟩
theorem pastAlloc {w w' : World} {o : Obj} (hb : Below w.heap.size w w') : Below w.heap.size w (w'.alloc o) := hb.alloc hb.size o
theorem allocB (w : World) (o : Obj) : Below w.heap.size w (w.alloc o) := pastAlloc (Below.refl _ _)
theorem heapLt {w : World} {g : Nat} {o : Obj} (h : w.heap[g]? = some o) : g < w.heap.size := (Array.getElem?_eq_some_iff.1 h).1
theorem blkNew {w w' : World} {o : Obj} (hb : Below (w.alloc o).heap.size (w.alloc o) w') : w'.heap[w.heap.size]? = some o :=
  (hb.block _ (by simp)).trans (heap_alloc_new w _)
theorem blkOld {w w' : World} {b : Nat} {o : Obj} (h : w.heap[b]? = some o) (hb : Below w.heap.size w w') : w'.heap[b]? = some o := by
  rw [hb.block b (heapLt h)]; exact h
theorem blkPast {w w' : World} {b : Nat} {o o2 : Obj} (h : w.heap[b]? = some o) (hb : Below (w.alloc o2).heap.size (w.alloc o2) w') : w'.heap[b]? = some o := by
  have hlt := heapLt h
  rw [hb.block b (by simp; omega), Below.heap_alloc w o2 b hlt]; exact h
theorem blkSet {w : World} {b : Nat} (i : Nat) {cs : Array Value} {T : TypeId} {fr : Nat × Nat} (h : w.heap[b]? = some (.cells cs T fr)) (v : Value) : (w.setCell ⟨b, i, none⟩ v).heap[b]? = some (.cells (cs.setIfInBounds i v) T fr) := by
  rw [setCell_eq_setRow w b i cs T fr v h]
  exact setRow_heap w b _ _ T _ h
theorem blkCell {w : World} {g : Nat} {cs : Array Value} {t : TypeId} {fr : Nat × Nat} (h : w.heap[g]? = some (.cells cs t fr)) (i : Nat) : w.cell? ⟨g, i, none⟩ = cs[i]? := by simp [World.cell?, h]
theorem blkFrozen {w : World} {g : Nat} {cs : Array Value} {t : TypeId} (h : w.heap[g]? = some (.cells cs t (0, 0))) (i : Nat) : w.frozen? ⟨g, i, none⟩ = false := by simp [World.frozen?, h]
theorem ownBelow {w w' : World} {B : Nat} {e : TypeId} {size n : Nat} {v : Value} {xs : List Value} (h : w.ownsRow B e size v n xs) (hb : Below w.heap.size w w') : w'.ownsRow B e size v n xs := by
  refine ⟨h.1, ?_⟩
  rcases h.2 with hz | ⟨g, cap, cur, hv, hg, hh, r⟩
  · exact .inl hz
  · exact .inr ⟨g, cap, cur, hv, hg, blkOld hh hb, r⟩
theorem ownSet {w : World} {B : Nat} {e : TypeId} {size n : Nat} {v : Value} {xs : List Value} (h : w.ownsRow B e size v n xs) (a : Addr) (u : Value) (ha : a.block < B) : (w.setCell a u).ownsRow B e size v n xs := by
  refine ⟨h.1, ?_⟩
  rcases h.2 with hz | ⟨g, cap, cur, hv, hg, hh, r⟩
  · exact .inl hz
  · exact .inr ⟨g, cap, cur, hv, hg, by rw [Below.heap_setCell _ _ _ _ (by omega)]; exact hh, r⟩
theorem ownMono {w : World} {B B' : Nat} {e : TypeId} {size n : Nat} {v : Value} {xs : List Value} (h : w.ownsRow B e size v n xs) (hb : B' ≤ B) : w.ownsRow B' e size v n xs := by
  refine ⟨h.1, ?_⟩
  rcases h.2 with h2 | ⟨g, cap, cur, hv, hg, h3⟩
  · exact .inl h2
  · exact .inr ⟨g, cap, cur, hv, Nat.le_trans hb hg, h3⟩
theorem ownLen {B n size : Nat} {e : TypeId} {v : Value} {xs : List Value} {w : World} (h : w.ownsRow B e size v n xs) : ∃ a c, v = .slice a n c := by
  rcases h.2 with ⟨rfl, h0⟩ | ⟨g', cap, cur, rfl, _⟩
  · exact ⟨_, _, by rw [h0]⟩
  · exact ⟨_, _, rfl⟩
theorem ownNil (w : World) (B : Nat) (e : TypeId) (size : Nat) : w.ownsRow B e size (.slice none 0 0) 0 [] := World.ownsRow_nil w B e size
theorem ownEmpty (w : World) (e : TypeId) (size : Nat) : (w.alloc (.cells #[] e)).ownsRow w.heap.size e size (.slice (some ⟨w.heap.size, 0, none⟩) 0 0) 0 [] := World.ownsRow_made w #[] 0 (Nat.le_refl _) (Nat.zero_le _) (by simp)

/-- The slice at A, of n elements and capacity c, reads as the cells vs. -/
def Reads (w : World) (A : Option Addr) (c n : Nat) (vs : List Value) : Prop :=
  0 < n → ∃ b off, A = some ⟨b, off, none⟩ ∧ n ≤ c ∧ b < w.heap.size ∧ ∀ j v, vs[j]? = some v → w.cell? ⟨b, off + j, none⟩ = some v
theorem Reads.none_ (w : World) (A : Option Addr) (c : Nat) (vs : List Value) : Reads w A c 0 vs := fun h => absurd h (by omega)
theorem Reads.below {w w' : World} {A : Option Addr} {c n : Nat} {vs : List Value} (h : Reads w A c n vs) (hb : Below w.heap.size w w') : Reads w' A c n vs := fun h0 => by
  obtain ⟨b, off, hA, hc, hlt, hcell⟩ := h h0
  refine ⟨b, off, hA, hc, Nat.lt_of_lt_of_le hlt hb.size, fun j v hj => ?_⟩
  rw [hb.cell (p := ⟨b, off + j, none⟩) hlt]; exact hcell j v hj
theorem Reads.alloc {w : World} {A : Option Addr} {c n : Nat} {vs : List Value} (h : Reads w A c n vs) (o : Obj) : Reads (w.alloc o) A c n vs := h.below (allocB w o)
theorem Reads.at_ {w : World} {A : Option Addr} {c n : Nat} {vs : List Value} (h : Reads w A c n vs) (h0 : 0 < n) : ∃ b off, A = some ⟨b, off, none⟩ ∧ n ≤ c ∧ b < w.heap.size ∧ ∀ j v, vs[j]? = some v → w.cell? ⟨b, off + j, none⟩ = some v := h h0
theorem own_reads {w : World} {B : Nat} {e : TypeId} {size n c : Nat} {A : Option Addr} {vs : List Value} (h : w.ownsRow B e size (.slice A n c) n vs) : Reads w A c n vs := fun h0 => by
  rcases h.2 with ⟨_, hz⟩ | ⟨g, cap, cur, hv, hg, hh, hn, hm, hs, ht⟩
  · omega
  · injection hv with h1 h2 h3
    subst h1 h3
    refine ⟨g, 0, rfl, hn, heapLt hh, fun j v hj => ?_⟩
    have h5 : cur.toList[j]? = some v := by
      rw [← ht] at hj
      rw [List.getElem?_take] at hj
      split at hj
      · exact hj
      · cases hj
    rw [blkCell hh, Nat.zero_add]
    simpa using h5
theorem reads_blk {w : World} {g : Nat} {cs : List Value} {T : TypeId} {n c : Nat} (h : w.heap[g]? = some (.cells cs.toArray T (0, 0))) (hn : n ≤ c) : Reads w (some ⟨g, 0, none⟩) c n cs := fun _ =>
  ⟨g, 0, rfl, hn, heapLt h, fun j v hj => by rw [blkCell h, Nat.zero_add]; simpa using hj⟩
/-- Elements of k cells each, one behind the other. -/
theorem flat_at {α : Type} {enc : α → List Value} {k : Nat} (hk : ∀ x, (enc x).length = k) : ∀ (l : List α) (j i : Nat) (hj : j < l.length), i < k → (l.flatMap enc)[j * k + i]? = (enc l[j])[i]? := by
  intro l
  induction l with
  | nil => intro j i h; simp at h
  | cons x l ih =>
    intro j i hj hi
    rw [List.flatMap_cons]
    cases j with
    | zero => rw [List.getElem?_append_left (by rw [hk]; omega)]; simp
    | succ j =>
      rw [List.getElem?_append_right (by rw [hk, Nat.succ_mul]; omega), hk, show (j + 1) * k + i - k = j * k + i by rw [Nat.succ_mul]; omega]
      exact ih j i (by simpa using hj) hi
theorem flat_len {α : Type} {enc : α → List Value} {k : Nat} (hk : ∀ x, (enc x).length = k) (l : List α) : (l.flatMap enc).length = l.length * k := by
  induction l with
  | nil => simp
  | cons x l ih => rw [List.flatMap_cons, List.length_append, hk, ih, List.length_cons, Nat.succ_mul]; omega
/-- A cell of an element of a slice that is read. -/
theorem read_at {α : Type} {enc : α → List Value} {k : Nat} (hk : ∀ x, (enc x).length = k) {w : World} {A : Option Addr} {c : Nat} {l : List α} (h : Reads w A c l.length (l.flatMap enc)) {j : Nat} (hj : j < l.length) :
    ∃ b off, A = some ⟨b, off, none⟩ ∧ l.length ≤ c ∧ b < w.heap.size ∧ ∀ i v, (enc l[j])[i]? = some v → w.cell? ⟨b, off + j * k + i, none⟩ = some v := by
  obtain ⟨b, off, hA, hc, hlt, hcell⟩ := h (by omega)
  refine ⟨b, off, hA, hc, hlt, fun i v hv => ?_⟩
  have hi : i < k := by
    have := (List.getElem?_eq_some_iff.1 hv).1
    rw [hk] at this; exact this
  rw [Nat.add_assoc]
  exact hcell _ _ (by rw [flat_at hk l j i hj hi]; exact hv)

theorem run_app_nil {P : Program} {w : World} {t e ty : TypeId} {i0 : TypeInfo} {B n size : Nat} {v : Value} {xs : List Value} (ht : P.underlying t = some (.slice e)) (hi : P.info? e = some i0) (hown : w.ownsRow B e size v n xs) (c : Nat) :
    (Builtin.append_ #[t, t] ty #[v, .slice none 0 c]).run P w = .ok v w := by
  rcases hown.2 with ⟨rfl, hz⟩ | ⟨g, cap, cur, rfl, _, _, hnc, _⟩
  · simp [Builtin.append_, run_underlying ht, sizeOf, typeInfo, hi, Builtin.lenOf, Builtin.firstCells]
  · simp [Builtin.append_, run_underlying ht, sizeOf, typeInfo, hi, Builtin.lenOf, Builtin.firstCells, hnc, storeCells]
/-- append onto a row of the call's own: elements of any size, the source nil or not. -/
theorem wp_appR {P : Program} {o : Oper} {a : Act} {K : Act → World → Prop} {Q : Exit → Act → World → Prop} (w : World) (s x : Operand) (t e : TypeId) (i0 : TypeInfo) (z : Value) (size bytes : Nat)
    (ht : P.underlying t = some (.slice e)) (hi : P.info? e = some i0) (hz : i0.zero = some z) (hsz : i0.size = size) (hby : i0.bytes = bytes) (hzc : z.cells.size = size) (hpos : 0 < size)
    (ho : o.op = .call { callee := .builtin .append, args := #[s, x], argTypes := #[t, t] })
    (B : Nat) (v : Value) (n : Nat) (xs : List Value) (hs : a.eval s = v) (hown : w.ownsRow B e size v n xs) (A : Option Addr) (m c : Nat) (ys : List Value) (hx : a.eval x = .slice A m c) (hy : Reads w A c m ys) (hyl : ys.length = m * size) (h1 : ∀ u ∈ ys, u.oneCell' = true)
    (hlen : n + m ≤ 1048576) (hbs : bytes ≤ 1024) (hbase : B ≤ w.heap.size)
    (h : ∀ v' w', w'.ownsRow B e size v' (n + m) (xs ++ ys) → w.grownBy w' v.ownBlock → Below B w w' → K (a.put o.dst v') w') : o.wp P a w K Q := by
  rcases A with _ | ad
  · have hn : m = 0 := by
      rcases Nat.eq_zero_or_pos m with h0 | h0
      · exact h0
      · obtain ⟨b, off, e, _⟩ := hy h0
        cases e
    subst hn
    have hys : ys = [] := List.eq_nil_of_length_eq_zero (by simpa using hyl)
    subst hys
    have hrun := run_app_nil (ty := o.type) ht hi hown c
    unfold Oper.wp execOp
    simp only [ho, resolve, invoke, builtin, Sem.run_bind, Sem.run_pure, Result.andThen_ok, List.map_toArray, List.map_cons, List.map_nil, hs, hx, hrun]
    exact h v w (by simpa using hown) (World.grownBy.refl w _) (Below.refl _ _)
  · refine wp_append_own w s x _ ho B e i0 z size bytes ht hi hz hsz hby hzc hpos v n xs hs hown ad m c ys hx hyl ?_ h1 (by simp only [maxLen]; omega) ?_ hbase ?_
    · intro j u hu
      have hpos : 0 < m := by
        have := (List.getElem?_eq_some_iff.1 hu).1
        rcases Nat.eq_zero_or_pos m with h0 | h0
        · subst h0; rw [Nat.zero_mul] at hyl; omega
        · exact h0
      obtain ⟨b, off, e, _, _, hE⟩ := hy hpos
      injection e with e
      subst e
      rw [show (⟨b, off, none⟩ : Addr).add j = ⟨b, off + j, none⟩ from Addr.add_mid b off j]
      exact hE j u hu
    · have : (n + m) * bytes ≤ 1048576 * 1024 := Nat.mul_le_mul hlen hbs
      omega
    · intro v' w' h1 h2 _
      exact h v' w' h1 h2 ((Below.refl _ _).grown h2 hbase (fun k hk => (hown.lt k hk).1))
/-- At an operation that is wanted. -/
theorem listWants {P : Program} {ops : Array Oper} {Q : Exit → Act → World → Prop} {a : Act} {w : World} {rest : List Oper} {o : Oper} (hw : Region.wanted o (yielded ops a.tmps) = true) (h : ∀ K : Act → World → Prop, (∀ a w, wpList P ops Q rest a w → K a w) → o.wp P a w K Q) : wpList P ops Q (o :: rest) a w :=
  wpList_step fun K hK => by rw [if_pos hw]; exact h K hK
/-- A value of as many cells as the block has is stored into it whole. -/
theorem run_store_whole {P : Program} (w : World) (b : Nat) (ty : TypeId) (cells cur : Array Value) (t : TypeId) (hg : w.heap[b]? = some (.cells cur t (0, 0))) (hsz : cur.size = cells.size) (hi : (P.info? ty).map (·.size) = some cells.size) (h1 : cells.all (·.oneCell') = true) :
    (storeVar ty ⟨b, 0, none⟩ (.agg cells)).run P w = .ok () (w.setRow b cells) := by
  have hst := run_storeCells_at P b 0 t cells.toList 0 cur w hg (by simp [hsz]) (fun v hv => (Array.all_eq_true_iff_forall_mem.1 h1) v (by simpa using hv))
  simp only [Nat.zero_add, List.take_zero, List.nil_append] at hst
  have e : (cells.toList ++ cur.toList.drop cells.toList.length).toArray = cells := by
    rw [List.drop_of_length_le (by simp [hsz])]; simp
  rw [e] at hst
  cases hq : P.info? ty with
  | none => simp [hq] at hi
  | some i =>
    have hs : cells.size = i.size := by simp [hq] at hi; omega
    simp [storeVar, sizeOf, typeInfo, hq, Value.cells, hs, hst]
theorem wp_store_whole {P : Program} {op : Oper} {a : Act} {w : World} {K : Act → World → Prop} {Q : Exit → Act → World → Prop} (ty : TypeId) (x y : Operand) (ho : op.op = .store ty x y)
    (b : Nat) (cells cur : Array Value) (t : TypeId) (hx : a.eval x = .pointer (some ⟨b, 0, none⟩)) (hy : a.eval y = .agg cells) (hg : w.heap[b]? = some (.cells cur t (0, 0))) (hsz : cur.size = cells.size)
    (hi : (P.info? ty).map (·.size) = some cells.size) (h1 : cells.all (·.oneCell') = true) (h : K (a.put op.dst undef) (w.setRow b cells)) : op.wp P a w K Q := by
  unfold Oper.wp execOp
  simp only [ho, hx, hy, Instr.storeAt, Instr.sureAddr, Sem.run_bind, Sem.run_pure, Result.andThen_ok, run_store_whole w b ty cells cur t hg hsz hi h1]
  exact h
theorem alloc_setRow (w : World) (cs cur : Array Value) (t : TypeId) : (w.alloc (.cells cur t)).setRow w.heap.size cs = w.alloc (.cells cs t) := by
  have e : (w.heap.push (Obj.cells cur t)).modify w.heap.size (fun | .cells _ elem frozen => .cells cs elem frozen | o => o) = w.heap.push (.cells cs t) := by
    apply Array.ext_getElem?
    intro i
    rw [Array.getElem?_modify, Array.getElem?_push, Array.getElem?_push]
    by_cases h : i = w.heap.size
    · subst h; simp
    · rw [if_neg (fun e => h e.symm), if_neg h, if_neg h]
  show ({ w with heap := (w.heap.push (Obj.cells cur t)).modify w.heap.size (fun | .cells _ elem frozen => .cells cs elem frozen | o => o) } : World) = { w with heap := w.heap.push (.cells cs t) }
  rw [e]
/-- The variable that was made last gets its value. -/
theorem wpList_store_new {P : Program} {ops : Array Oper} {rest : List Oper} {op : Oper} {a : Act} {w : World} {Q : Exit → Act → World → Prop} (hgd : op.guard = none) (ty : TypeId) (x y : Operand) (ho : op.op = .store ty x y)
    (cells cur : Array Value) (t : TypeId) (hx : a.eval x = .pointer (some ⟨w.heap.size, 0, none⟩)) (hy : a.eval y = .agg cells) (hsz : cur.size = cells.size)
    (hi : (P.info? ty).map (·.size) = some cells.size) (h1 : cells.all (·.oneCell') = true)
    (h : wpList P ops Q rest (a.put op.dst undef) (w.alloc (.cells cells t))) : wpList P ops Q (op :: rest) a (w.alloc (.cells cur t)) :=
  wpList_plain hgd fun _ hK => wp_store_whole ty x y ho w.heap.size cells cur t hx hy (heap_alloc_new w _) hsz hi h1 (hK _ _ (by rw [alloc_setRow]; exact h))
theorem results_cell {P : Program} {fn : Func} {p : Tmp} {ty : TypeId} (h : fn.results = #[.cell p ty]) (tmps : Array Value) (w : World) {ad : Addr} (hp : tmps.getD p undef = .pointer (some ad)) {v : Value} (hl : (loadVar ty ad).run P w = .ok v w) :
    (results fn tmps).run P w = .ok v w := by
  simp only [results, h]
  have hp' : tmps[p]?.getD undef = .pointer (some ad) := by simpa using hp
  simp [Sem.run_bind, Result.andThen, hp', asAddr, hl]
/-- A whole block is read. -/
theorem load_whole {P : Program} {w : World} {b : Nat} {ty : TypeId} {cells : Array Value} {t : TypeId} {d : TypeDesc} (hg : w.heap[b]? = some (.cells cells t (0, 0)))
    (hu : P.underlying ty = some d) (hd : d.isRow = true) (hi : (P.info? ty).map (·.size) = some cells.size) : (loadVar ty ⟨b, 0, none⟩).run P w = .ok (.agg cells) w := by
  have h := run_loadVar_mid (P := P) w b 0 ty cells.toList d (fun j v hj => by rw [blkCell hg, Nat.zero_add]; simpa using hj) hu hd (by simpa using hi)
  simpa using h
theorem wpList_load_whole {P : Program} {ops : Array Oper} {rest : List Oper} {op : Oper} {a : Act} {w : World} {Q : Exit → Act → World → Prop} (hgd : op.guard = none) (ty : TypeId) (x : Operand) (ho : op.op = .load ty x)
    (b : Nat) (hx : a.eval x = .pointer (some ⟨b, 0, none⟩)) (cells : Array Value) (t : TypeId) (hg : w.heap[b]? = some (.cells cells t (0, 0))) (d : TypeDesc)
    (hu : P.underlying ty = some d) (hd : d.isRow = true) (hi : (P.info? ty).map (·.size) = some cells.size)
    (h : wpList P ops Q rest (a.put op.dst (.agg cells)) w) : wpList P ops Q (op :: rest) a w := by
  refine wpList_load_mid hgd ty x ho b 0 hx cells.toList d (fun j v hj => by rw [blkCell hg, Nat.zero_add]; simpa using hj) hu hd (by simpa using hi) ?_
  simpa using h
/-- A whole block is read, by an operation that may be guarded, and is wanted. -/
theorem listLoad {P : Program} {ops : Array Oper} {rest : List Oper} {op : Oper} {a : Act} {w : World} {Q : Exit → Act → World → Prop} (hw : Region.wanted op (yielded ops a.tmps) = true) (ty : TypeId) (x : Operand) (ho : op.op = .load ty x)
    (b : Nat) (hx : a.eval x = .pointer (some ⟨b, 0, none⟩)) (cells : Array Value) (t : TypeId) (hg : w.heap[b]? = some (.cells cells t (0, 0))) (d : TypeDesc)
    (hu : P.underlying ty = some d) (hd : d.isRow = true) (hi : (P.info? ty).map (·.size) = some cells.size)
    (h : wpList P ops Q rest (a.put op.dst (.agg cells)) w) : wpList P ops Q (op :: rest) a w :=
  listWants hw fun K hK => by
    refine wp_load_mid ty x ho b 0 hx cells.toList d (fun j v hj => by rw [blkCell hg, Nat.zero_add]; simpa using hj) hu hd (by simpa using hi) ?_
    simpa using hK _ _ h
end Go.Proofs.YtkndifannjpbcaaGreatDoor
/- The walks over package change: decimal texts, by the shelf's contracts for strconv. -/
namespace Go.Proofs.YtkndifannjpbcaaGreatDoor
open Go.RowKit

structure Vars (w : World) : Prop where
  tab : Lib.TabIs Tryz.prog w "internal/strconv.uint64pow10" .u64 Lib.pow10Tab
  syn : ∃ tp p, w.var? Tryz.prog "strconv.ErrSyntax" = some #[.iface tp p]
  ran : ∃ tp p, w.var? Tryz.prog "strconv.ErrRange" = some #[.iface tp p]
  size : 5 ≤ w.heap.size
theorem gTab : Tryz.prog.globalNamed "internal/strconv.uint64pow10" = some 3 := by kernel_rfl
theorem gSyn : Tryz.prog.globalNamed "strconv.ErrSyntax" = some 0 := by kernel_rfl
theorem gRan : Tryz.prog.globalNamed "strconv.ErrRange" = some 1 := by kernel_rfl
theorem Vars.below {w w' : World} (h : Vars w) (hb : Below w.heap.size w w') : Vars w' := by
  have h5 := h.size
  obtain ⟨ta, pa, ha⟩ := h.syn
  obtain ⟨tb, pb, hb'⟩ := h.ran
  exact ⟨var?_below hb gTab (by omega) h.tab, ⟨ta, pa, var?_below hb gSyn (by omega) ha⟩, ⟨tb, pb, var?_below hb gRan (by omega) hb'⟩, Nat.le_trans h.size hb.size⟩
theorem below_grown (w : World) (k : Nat) (os : Array Obj) : Below w.heap.size w (Sort.grow (w.drewN k) os) :=
  ⟨rfl, rfl, rfl, by show w.heap.size ≤ (w.heap ++ os).size; rw [Array.size_append]; omega, fun j hj => by
    show (w.heap ++ os)[j]? = w.heap[j]?
    rw [Array.getElem?_append_left hj]⟩
theorem itoa_any (n : Int) (h0 : -9223372036854775808 ≤ n) (h1 : n ≤ 9223372036854775807) (w : World) (hv : Vars w) :
    Calls Tryz.prog 53 #[.int .i64 n] w fun e w' => e = .returned (.string (itoaB n)) ∧ Below w.heap.size w w' := by
  refine (Tryz.strconv_Itoa n h0 h1 w hv.tab).mono ?_
  rintro e w' ⟨rfl, k, os, rfl⟩
  exact ⟨rfl, below_grown _ _ _⟩
theorem atoi_bad (s : ByteArray) (hlim : s.size ≤ 281474976710656) (h : ∀ v, Lib.atoiAll s.data.toList ≠ .ok v) (w : World) (hv : Vars w) :
    Calls Tryz.prog 52 #[.string s] w fun e w' => ∃ n p, e = .returned (.tuple #[.int .i64 n, .iface 94 p]) ∧ Below w.heap.size w w' := by
  cases hc : Lib.atoiAll s.data.toList
  · rename_i v; exact absurd hc (h v)
  · obtain ⟨tp, p, hvar⟩ := hv.syn
    refine (Any.strconv_Atoi_syntax_var Tryz.laysC172 s hlim hc tp p w hvar).mono ?_
    rintro e w' ⟨N, rfl, _, _, hb⟩
    exact ⟨_, _, rfl, hb⟩
  · obtain ⟨tp, p, hvar⟩ := hv.ran
    refine (Any.strconv_Atoi_range_var Tryz.laysC172 s hlim hc tp p w hvar).mono ?_
    rintro e w' ⟨N, rfl, _, _, hb⟩
    exact ⟨_, _, rfl, hb⟩
theorem atoi_good (s : ByteArray) (hlim : s.size ≤ 281474976710656) (v : Int) (h : Lib.atoiAll s.data.toList = .ok v) (w : World) :
    Calls Tryz.prog 52 #[.string s] w fun e w' => e = .returned (.tuple #[.int .i64 v, .nilIface]) ∧ Below w.heap.size w w' := by
  refine (Tryz.strconv_Atoi_ok s (by omega) v h w).mono ?_
  rintro e w' ⟨rfl, hw⟩
  refine ⟨rfl, ?_⟩
  rcases hw with rfl | ⟨t, rfl⟩
  · exact Below.refl _ _
  · exact below_bytes _ _ _
theorem plain_any (p : ByteArray) (hm : p.size ≤ 140737488355328) (w : World) :
    Calls Tryz.prog 55 #[.string p] w fun e w' => e = .returned (.string (lsnB p 0)) ∧ Below w.heap.size w w' := by
  have HS := Lib.hid (fun W => setlsn_any p 0 hm W)
  generalize lsnB p 0 = q at HS ⊢
  go_enter Tryz.func55, Tryz.ntmps55
  go_wp2_with (go_at_call 56; refine (HS.out _).mono ?_; rintro e w1 ⟨rfl, hb⟩)
  go_ret
  exact ⟨rfl, hb⟩
end Go.Proofs.YtkndifannjpbcaaGreatDoor
/- The frame shared by the statements of this seat: what the row's list of variables gives the walks, and a start that meets it. -/
namespace Go.Proofs.YtkndifannjpbcaaGreatDoor
open Go.ChangeShapes Go.WideShapes Go.ChangeAt Go.RowKit

/-- The list, as every row of this seat has it. -/
def laidAll {H : Type} : List (String × DataW H) := [("math/bits.deBruijn32tab", Rows.laid_math_bits_deBruijn32tab), ("math/bits.deBruijn64tab", Rows.laid_math_bits_deBruijn64tab), ("internal/strconv.uint64pow10", Rows.laid_internal_strconv_uint64pow10), ("strconv.ErrRange", Rows.laid_strconv_ErrRange), ("strconv.ErrSyntax", Rows.laid_strconv_ErrSyntax)]
theorem typeTab : (Tryz.prog.globals[3]?).map (·.type) = some 116 := by kernel_rfl
theorem typeSyn : (Tryz.prog.globals[0]?).map (·.type) = some 58 := by kernel_rfl
theorem typeRan : (Tryz.prog.globals[1]?).map (·.type) = some 58 := by kernel_rfl
theorem pow10_eq {H : Type} : (Rows.laid_internal_strconv_uint64pow10 : DataW H) = Lib.tabData .u64 Lib.pow10Tab := rfl
theorem cellsTab : Tryz.prog.cellsOf 116 = 20 := by kernel_rfl
theorem cellsWord : Tryz.prog.cellsOf 72 = 1 := by kernel_rfl
theorem g64 : Tryz.prog.globalNamed "math/bits.deBruijn64tab" = some 5 := by kernel_rfl
theorem star : "*" ++ "errors.errorString" = "*errors.errorString" := by decide
theorem rowErr (u : TypeId) (h : Tryz.prog.typeName? 3 u = some "*errors.errorString") : u = 111 :=
  typeName_ptr_named (nm := "errors.errorString") (by rw [star]; kernel_rfl) (by kernel_rfl) (by decide) u (by rw [star]; exact h)
theorem cellsErr : Tryz.prog.cellsOf 113 = 1 := by kernel_rfl
theorem cellsStr : Tryz.prog.cellsOf 9 = 1 := by kernel_rfl
theorem size_of_laid {W : World} (h : laidMet Tryz.prog laidAll W) : 5 ≤ W.heap.size := by
  have h2 := h.tail
  obtain ⟨ps, ⟨g0, t0, cs0, f0, p0, q0, hg0, ht0, hv0, hd0, _, e0⟩, _⟩ := h2
  obtain rfl := Option.some.inj (g64.symm.trans hg0)
  unfold World.var? at hv0
  simp only [g64, Option.bind_some] at hv0
  rcases Nat.lt_or_ge 5 W.heap.size with hlt | hge
  · omega
  · rw [Array.getElem?_eq_none hge] at hv0; cases hv0
theorem vars_of_laid {W : World} (h : laidMet Tryz.prog laidAll W) : Vars W := by
  refine ⟨?_, ?_, ?_, size_of_laid h⟩
  · have h2 := h.tail.tail
    exact Lib.tabIs_of_head gTab typeTab Tryz.underlying116 Tryz.underlying72 cellsWord cellsTab h2
  · obtain ⟨a, s, hv, _⟩ := laid_sentinel h.tail.tail.tail.tail gSyn typeSyn Tryz.underlying58 rowErr Tryz.underlying111 Tryz.underlying113 rfl rfl Tryz.underlying9 cellsErr cellsStr
    exact ⟨_, _, hv⟩
  · obtain ⟨a, s, hv, _⟩ := laid_sentinel h.tail.tail.tail gRan typeRan Tryz.underlying58 rowErr Tryz.underlying111 Tryz.underlying113 rfl rfl Tryz.underlying9 cellsErr cellsStr
    exact ⟨_, _, hv⟩
theorem laid_met (os : Os) (args : Array Value) : laidMet Tryz.prog laidAll ((World.doorLaid Tryz.prog 136 os).forCall (fun _ _ => 0) ⟨#[], args, []⟩).memory :=
  laidMet_of_run' 8 (by kernel_rfl) (by kernel_rfl)
end Go.Proofs.YtkndifannjpbcaaGreatDoor
/- What the reference's done answers, and that it is what the code's answers. -/
namespace Go.Proofs.YtkndifannjpbcaaGreatDoor
open Go.RowKit

def wasO (p : ByteArray) (o : Cop) : ByteArray := Pg.slotAt (leafP p).recs o.slot
def doneO (p : ByteArray) (o : Cop) : ByteArray × Bool :=
  if o.kind = 1 then ((putO p o.slot o.new).1, decide ((putO p o.slot o.new).2 = 0) && decide (o.old.size = 0))
  else if o.kind = 2 then ((cutO p o.slot).1, ((decide ((cutO p o.slot).2 = 0) && decide (o.new.size = 0)) && !decide ((wasO p o).size = 0)) && decide (wasO p o = o.old))
  else if o.kind = 3 then ((setO p o.slot o.new).1, (decide ((setO p o.slot o.new).2 = 0) && !decide ((wasO p o).size = 0)) && decide (wasO p o = o.old))
  else if o.kind = 4 then ((addO p o.slot o.new).1, decide ((addO p o.slot o.new).2 = 0) && decide (o.old.size = 0))
  else if o.kind = 5 then ((delO p o.slot).1, ((decide ((delO p o.slot).2 = 0) && decide (o.new.size = 0)) && !decide ((wasO p o).size = 0)) && decide (wasO p o = o.old))
  else if o.kind = 6 then (linkB p (NumPlain.parseN o.new.data.toList).1, (((NumPlain.parseN o.new.data.toList).2 && !decide ((linkB p (NumPlain.parseN o.new.data.toList).1).size = 0)) && decide (o.slot = 0)) && decide (o.old = itoaB ((leafP p).link : Nat)))
  else if o.kind = 7 then (lsnB o.new ((leafP p).lsn : Nat), ((!decide ((lsnB o.new ((leafP p).lsn : Nat)).size = 0) && decide (o.slot = 0)) && decide (o.new = lsnB o.new 0)) && decide (o.old = lsnB p 0))
  else noPage
theorem oldIs_was (p : ByteArray) (o : Cop) : oldIs p o = (!decide ((wasO p o).size = 0) && decide (wasO p o = o.old)) := by
  unfold oldIs wasO
  rw [show decide (o.old = Pg.slotAt (leafP p).recs o.slot) = decide (Pg.slotAt (leafP p).recs o.slot = o.old) from by simp only [eq_comm]]
theorem itoaB_eq {n : Int} {s : ByteArray} : itoaB n = s ↔ Lib.itoa n = s.data.toList := by
  unfold itoaB
  constructor
  · intro h; rw [← h]
  · intro h; rw [h]
theorem done_link (p : ByteArray) (o : Cop) : ((((NumPlain.parseN o.new.data.toList).2 && !decide ((linkB p (NumPlain.parseN o.new.data.toList).1).size = 0)) && decide (o.slot = 0)) && decide (o.old = itoaB ((leafP p).link : Nat))) = (linkedO p o).2 ∧ ((linkedO p o).2 = true → linkB p (NumPlain.parseN o.new.data.toList).1 = (linkedO p o).1) := by
  cases hb : (linkedO p o).2 with
  | true =>
    unfold linkedO at hb ⊢
    split at hb
    · rename_i n hn
      split at hb
      · rename_i hc
        obtain ⟨c1, c2, c3⟩ := hc
        have hz : ¬ (linkB p n).size = 0 := by simpa using hb
        obtain ⟨_, n0, n1⟩ := size_ne_link hz
        have hin : NumPlain.inN n = true := NumPlain.inN_of (by omega) (by omega)
        have hp : NumPlain.parseN o.new.data.toList = (n, true) := by rw [← itoaB_eq.1 c1]; exact NumPlain.parseN_itoa hin
        rw [hp]
        simp only [c1, c2, c3, and_self, if_true]
        simp [hz]
      · cases hb
    · cases hb
  | false =>
    refine ⟨?_, fun h => by cases h⟩
    cases hd : ((((NumPlain.parseN o.new.data.toList).2 && !decide ((linkB p (NumPlain.parseN o.new.data.toList).1).size = 0)) && decide (o.slot = 0)) && decide (o.old = itoaB ((leafP p).link : Nat))) with
    | false => rfl
    | true =>
      simp only [Bool.and_eq_true, decide_eq_true_eq, Bool.not_eq_true', decide_eq_false_iff_not] at hd
      obtain ⟨⟨⟨d1, d2⟩, d3⟩, d4⟩ := hd
      obtain ⟨hin, hit⟩ := NumPlain.parseN_snd d1
      have hat := NumPlain.atoiAll_itoa hin
      rw [hit] at hat
      have hl : linkedO p o = (linkB p (NumPlain.parseN o.new.data.toList).1, !decide ((linkB p (NumPlain.parseN o.new.data.toList).1).size = 0)) := by
        unfold linkedO
        rw [hat]
        exact if_pos ⟨itoaB_eq.2 hit, d4, d3⟩
      rw [hl] at hb
      simp [d2] at hb
theorem done_whole (p : ByteArray) (o : Cop) : (((!decide ((lsnB o.new ((leafP p).lsn : Nat)).size = 0) && decide (o.slot = 0)) && decide (o.new = lsnB o.new 0)) && decide (o.old = lsnB p 0)) = (wholeO p o).2 ∧ ((wholeO p o).2 = true → lsnB o.new ((leafP p).lsn : Nat) = (wholeO p o).1) := by
  unfold wholeO
  by_cases h : o.slot = 0 ∧ o.old = lsnB p 0 ∧ ¬ o.new.size = 0 ∧ lsnB o.new 0 = o.new
  · rw [if_pos h]
    obtain ⟨h1, h2, h3, h4⟩ := h
    refine ⟨?_, fun _ => rfl⟩
    have h5 : decide (o.new = lsnB o.new 0) = true := decide_eq_true h4.symm
    rw [h5, decide_eq_true h1, decide_eq_true h2]
    simp
  · rw [if_neg h]
    refine ⟨?_, fun h => by cases h⟩
    show _ = false
    cases hd : (((!decide ((lsnB o.new ((leafP p).lsn : Nat)).size = 0) && decide (o.slot = 0)) && decide (o.new = lsnB o.new 0)) && decide (o.old = lsnB p 0)) with
    | false => rfl
    | true =>
      simp only [Bool.and_eq_true, decide_eq_true_eq, Bool.not_eq_true', decide_eq_false_iff_not] at hd
      obtain ⟨⟨⟨d1, d2⟩, d3⟩, d4⟩ := hd
      obtain ⟨hp, _, _⟩ := size_ne d1
      have hs := (lsn_page hp (l := 0) (by omega)).2.2
      refine absurd ⟨d2, d4, ?_, d3.symm⟩ h
      intro hz
      have hs2 : (lsnB o.new 0).size = 512 := hs
      rw [← d3, hz] at hs2
      omega
theorem done_made (p : ByteArray) (o : Cop) : (doneO p o).2 = (madeO p o).2 ∧ ((madeO p o).2 = true → (doneO p o).1 = (madeO p o).1) := by
  unfold doneO madeO
  by_cases h1 : o.kind = 1
  · rw [if_pos h1, if_pos h1]
    by_cases h : o.old.size = 0
    · rw [if_pos h]; simp [okB, h]
    · rw [if_neg h]; simp [noPage, h]
  rw [if_neg h1, if_neg h1]
  by_cases h2 : o.kind = 2
  · rw [if_pos h2, if_pos h2, oldIs_was]
    by_cases ha : (wasO p o).size = 0 <;> by_cases hb : wasO p o = o.old <;> by_cases hc : o.new.size = 0 <;> simp [okB, noPage, ha, hb, hc] <;> simp_all
  rw [if_neg h2, if_neg h2]
  by_cases h3 : o.kind = 3
  · rw [if_pos h3, if_pos h3, oldIs_was]
    by_cases ha : (wasO p o).size = 0 <;> by_cases hb : wasO p o = o.old <;> simp [okB, noPage, ha, hb] <;> simp_all
  rw [if_neg h3, if_neg h3]
  by_cases h4 : o.kind = 4
  · rw [if_pos h4, if_pos h4]
    by_cases h : o.old.size = 0
    · rw [if_pos h]; simp [okB, h]
    · rw [if_neg h]; simp [noPage, h]
  rw [if_neg h4, if_neg h4]
  by_cases h5 : o.kind = 5
  · rw [if_pos h5, if_pos h5, oldIs_was]
    by_cases ha : (wasO p o).size = 0 <;> by_cases hb : wasO p o = o.old <;> by_cases hc : o.new.size = 0 <;> simp [okB, noPage, ha, hb, hc] <;> simp_all
  rw [if_neg h5, if_neg h5]
  by_cases h6 : o.kind = 6
  · rw [if_pos h6, if_pos h6]; exact done_link p o
  rw [if_neg h6, if_neg h6]
  by_cases h7 : o.kind = 7
  · rw [if_pos h7, if_pos h7]; exact done_whole p o
  rw [if_neg h7, if_neg h7]
  exact ⟨rfl, fun h => by cases h⟩
theorem done_right (p : ByteArray) (o : Cop) : ((doneO p o).2 && isPg p) = rightO p o := by
  unfold rightO
  rw [(done_made p o).1, Bool.and_comm]
theorem done_do {p : ByteArray} {o : Cop} (h : rightO p o = true) : (doneO p o).1 = (madeO p o).1 := by
  unfold rightO at h
  rw [Bool.and_eq_true] at h
  exact (done_made p o).2 h.2
end Go.Proofs.YtkndifannjpbcaaGreatDoor
