import Derived.Test.YtmebkghdkeeobaaGreatDoorHo00
import Derived.Test.YtmebkghdkeeobaaGreatDoorHo02
set_option maxRecDepth 100000
set_option maxHeartbeats 16000000
set_option linter.unusedSimpArgs false
namespace Pg
def putAt (rs : List ByteArray) (k : Nat) (r : ByteArray) : List ByteArray := (rs ++ List.replicate (k + 1 - rs.length) (⟨#[]⟩ : ByteArray)).set k r
def upTo (rs : List ByteArray) (k : Nat) : List ByteArray := rs ++ List.replicate k (⟨#[]⟩ : ByteArray)
theorem upTo_length (rs : List ByteArray) (k : Nat) : (upTo rs k).length = rs.length + k := by simp [upTo]
theorem upTo_succ (rs : List ByteArray) (k : Nat) : upTo rs (k + 1) = upTo rs k ++ [⟨#[]⟩] := by
  unfold upTo
  rw [List.replicate_succ', List.append_assoc]
end Pg
namespace Go.Proofs.YtmebkghdkeeobaaGreatDoor
open Go.RowKit
theorem cells_one (w : World) (r : ByteArray) : Cells (w.alloc (.cells #[.string r] 9)) (some ⟨w.heap.size, 0, none⟩) 1 [r] := fun _ => by
  refine ⟨w.heap.size, 0, rfl, Nat.le_refl _, by simp, fun j hj => ?_⟩
  obtain rfl : j = 0 := by simpa using hj
  rw [cell_of_row _ _ _ _ _ _ (heap_alloc_new w (.cells #[.string r] 9))]; rfl
theorem own_some {B : Nat} {w : World} {v : Value} {rs : List ByteArray} (h : OwnT B w v rs) (h0 : 0 < rs.length) : ∃ g c, v = .slice (some ⟨g, 0, none⟩) rs.length c ∧ B ≤ g ∧ rs.length ≤ c ∧ g < w.heap.size ∧ (∀ j (hj : j < rs.length), w.cell? ⟨g, j, none⟩ = some (.string rs[j])) ∧ (∀ j, w.frozen? ⟨g, j, none⟩ = false) := by
  obtain ⟨A, c, rfl, ho, -⟩ := h.form
  obtain ⟨g, rfl, h1, h2, h3, h4⟩ := ho h0
  exact ⟨g, c, rfl, h1, h2, h3, h4, fun j => h.frozenAt j⟩
theorem own_stored {B : Nat} {w : World} {g c : Nat} {rs : List ByteArray} (h : OwnT B w (.slice (some ⟨g, 0, none⟩) rs.length c) rs) (k : Nat) (r : ByteArray) : OwnT B (w.setCell ⟨g, k, none⟩ (.string r)) (.slice (some ⟨g, 0, none⟩) (rs.set k r).length c) (rs.set k r) := by
  have h1 := (h.stored k (.string r)).1
  unfold OwnT
  rw [List.length_set, List.map_set]
  exact h1
def lenV (v : Value) : Nat := match v with | .slice _ n _ => n | _ => 0
set_option maxRecDepth 100000 in
set_option maxHeartbeats 2000000 in
theorem with_any (x : Pg.Leaf) (A : Option Addr) (c k : Nat) (r : ByteArray) (hl : x.recs.length ≤ 4096) (hk : k ≤ 4096) (w : World) (h : Cells w A c x.recs) :
    Calls Tryz.prog 76 #[leafV x A c, .int .i64 (k : Int), .string r] w fun e w' => ∃ A' c', e = .returned (leafV { x with recs := Pg.putAt x.recs k r } A' c') ∧ OwnCells w.heap.size w' A' c' (Pg.putAt x.recs k r) ∧ Below w.heap.size w w' := by
  go_enter Tryz.func76, Tryz.ntmps76
  go_wp2_with (at_builtin; refine wpList_app _ rfl _ _ rfl (w.heap.size + 2) (.slice none 0 0) [] rfl (OwnT.nil _ _) A c x.recs rfl ((h.below ((Below.refl _ _).alloc (Nat.le_refl _) _)).below ((Below.refl _ _).alloc (Nat.le_refl _) _)) (by simp; omega) (by simp) ?_; intro v1 w1 hown1 hg1 hb1)
  rw [List.nil_append] at hown1
  have hsz1 : w.heap.size + 2 ≤ w1.heap.size := by have := hb1.size; simp at this; omega
  have hX1 : w1.heap[w.heap.size]? = some (.cells #[.int .i64 x.lsn, .int .i64 x.kind, .int .i64 x.link, .slice A x.recs.length c] 82 (0, 0)) := by
    rw [hb1.block _ (by omega), Below.heap_alloc _ _ _ (by simp)]; exact heap_alloc_new w _
  have hY1 : w1.heap[w.heap.size + 1]? = some (.cells #[.int .i64 0, .int .i64 0, .int .i64 0, .slice none 0 0] 82 (0, 0)) := by
    rw [hb1.block _ (by omega)]
    have := heap_alloc_new (w.alloc (.cells #[.int .i64 x.lsn, .int .i64 x.kind, .int .i64 x.link, .slice A x.recs.length c] 82)) (.cells #[.int .i64 0, .int .i64 0, .int .i64 0, .slice none 0 0] 82)
    simpa using this
  have hbw : Below w.heap.size w w1 := (((Below.refl _ _).alloc (Nat.le_refl _) _).alloc (by simp) _).trans (hb1.mono (by omega))
  have HX := Lib.hid hX1
  have HY := Lib.hid hY1
  have HBW := Lib.hid hbw
  have HC := Lib.hid h
  clear hX1 hY1 hbw hb1 hg1 h
  go_loopw [7] (fun v wr => ∃ j, j ≤ k + 1 - x.recs.length ∧ OwnT (w.heap.size + 2) wr v (Pg.upTo x.recs j) ∧ Below (w.heap.size + 2) w1 wr) (fun v _ => 8193 - lenV v)
  case atStart => exact ⟨0, Nat.zero_le _, by simpa [Pg.upTo] using hown1, Below.refl _ _⟩
  case round =>
    obtain ⟨j, hj, hown, hb⟩ := hrel
    have hwr := hb.size
    have hln := Pg.upTo_length x.recs j
    have HS := Lib.hid (Pg.upTo_succ x.recs j)
    obtain ⟨L, hL⟩ : ∃ L, L = Pg.upTo x.recs j := ⟨_, rfl⟩
    rw [← hL] at hown hln HS
    have HL := Lib.hid hL
    have HLN := Lib.hid hln
    clear hL
    obtain ⟨Av, cv, rfl, hoc, -⟩ := hown.form
    by_cases hlt : L.length ≤ k
    · have hj2 : j + 1 ≤ k + 1 - x.recs.length := by omega
      clear hln hoc
      go_wp2_with (at_builtin; refine wpList_app _ rfl _ _ rfl (w.heap.size + 2) _ L rfl (hown.below ((Below.refl _ _).alloc (Nat.le_refl _) _)) _ 1 [⟨#[]⟩] rfl (cells_one wr _) (by simp; omega) (by simp; omega) ?_; intro v2 w2 hown2 hg2 hb2)
      have hb3 : Below (w.heap.size + 2) w1 w2 := hb.trans (((Below.refl _ _).alloc (by omega) _).trans hb2)
      rw [← HS.out] at hown2
      have hf : ∃ A' c', v2 = .slice A' (L.length + 1) c' := by
        obtain ⟨A', c', rfl, -⟩ := hown2.form
        exact ⟨A', c', by rw [HS.out, List.length_append]; rfl⟩
      obtain ⟨A', c', rfl⟩ := hf
      clear hg2
      go_roundw
      case rel => exact ⟨j + 1, hj2, hown2, hb3⟩
      case measure => simp [lenV]; omega
    · have hj3 : j = k + 1 - x.recs.length := by omega
      have hkl : k < L.length := by omega
      obtain ⟨g, cv', hv, hg, hcv, hgl, hcell, hfz⟩ := own_some hown (by omega)
      injection hv with hA hn hcc
      subst hA
      subst hcc
      have hck := hcell k hkl
      have hfk := hfz k
      have hst := own_stored hown k r
      have hset : L.set k r = Pg.putAt x.recs k r := by rw [HL.out, hj3]; rfl
      rw [hset] at hst
      have HST := Lib.hid hst
      have hLl : (Pg.putAt x.recs k r).length = L.length := by rw [← hset, List.length_set]
      have HSE := Lib.hid hLl
      obtain ⟨x0, x1, x2, x3, f0, f1, f2, f3⟩ := blk4 ((hb.block _ (by omega)).trans HX.out)
      obtain ⟨y0, y1, y2, y3, k0, k1, k2, k3⟩ := blk4 ((hb.block _ (by omega)).trans HY.out)
      have hb4 : Below w.heap.size w wr := HBW.out.trans (hb.mono (by omega))
      have hk0 : (0 : Int) ≤ (k : Int) := by omega
      have hk1 : (k : Int) < (L.length : Int) := by omega
      clear hcell hfz hst hset hLl hj3 hln hoc
      go_wp2_with fail
      have hne1 : g ≠ w.heap.size + 1 := by omega
      have hne2 : g ≠ w.heap.size := by omega
      refine bodyPost_ret (v := .agg #[.int .i64 x.lsn, .int .i64 x.kind, .int .i64 x.link, .slice (some ⟨g, 0, none⟩) L.length cv]) (by simp [results, Tryz.results76, go_sem, y0, y1, y2, y3]) rfl ?_
      refine ⟨some ⟨g, 0, none⟩, cv, by rw [← HSE.out], ?_, ?_⟩
      · have ho := own_cells HST.out rfl
        refine OwnCells.mono (B := w.heap.size + 2) ?_ (by omega)
        repeat (first | (with_reducible exact ho) | (with_reducible refine OwnCells.set ?_ _ (by simp; done) _))
      · repeat (first | (with_reducible exact hb4) | (with_reducible refine Below.setCell ?_ (by first | (simp; done) | (show w.heap.size ≤ g; omega)) _))
end Go.Proofs.YtmebkghdkeeobaaGreatDoor
namespace Pg
theorem layL_nil {x : Leaf} (h : 512 < sizeN (trim x.recs)) : layL x = [] := by unfold layL layR; rw [if_pos h]
theorem layL_length {x : Leaf} (h : sizeN (trim x.recs) ≤ 512) : (layL x).length = 512 := layR_length x _ (by omega)
theorem layL_nil_iff (x : Leaf) : layL x = [] ↔ 512 < sizeN (trim x.recs) := by
  constructor
  · intro h
    rcases Nat.lt_or_ge 512 (sizeN (trim x.recs)) with h1 | h1
    · exact h1
    · have := layL_length h1; rw [h] at this; cases this
  · exact layL_nil
def fullO (x : Leaf) : ByteArray × Int := if layL x = [] then (⟨#[]⟩, 18) else (⟨(layL x).toArray⟩, 0)
theorem fullO_yes {x : Leaf} (h : sizeN (trim x.recs) ≤ 512) : fullO x = (⟨(layL x).toArray⟩, 0) := by
  unfold fullO; rw [if_neg]; rw [layL_nil_iff]; omega
end Pg
namespace Go.Proofs.YtmebkghdkeeobaaGreatDoor
open Go.RowKit
abbrev outV (o : ByteArray × Int) : Value := .tuple #[.string o.1, .int .i64 o.2]
set_option maxRecDepth 100000 in
set_option maxHeartbeats 1000000 in
theorem full_any (x : Pg.Leaf) (A : Option Addr) (c : Nat) (hx : Pg.Small x) (hb : Pg.sizeN x.recs ≤ 1099511627776) (w : World) (h : Cells w A c x.recs) :
    Calls Tryz.prog 75 #[leafV x A c] w fun e w' => e = .returned (outV (Pg.fullO x)) ∧ Below w.heap.size w w' := by
  have HM := Lib.hid (made_any x A c hx hb _ (h.below ((Below.refl w.heap.size w).alloc (Nat.le_refl _) (.cells #[.int .i64 x.lsn, .int .i64 x.kind, .int .i64 x.link, .slice A x.recs.length c] 82 (0, 0)))))
  clear h
  unfold Pg.fullO
  by_cases h0 : Pg.layL x = []
  · rw [if_pos h0]
    rw [h0] at HM
    clear h0
    go_enter Tryz.func75, Tryz.ntmps75
    go_wp2_with (go_at_call 40; refine (HM.out).mono ?_; rintro e w1 ⟨rfl, hb1⟩)
    go_ret2
    exact ⟨rfl, below_past hb1⟩
  · rw [if_neg h0]
    obtain ⟨q, hq⟩ : ∃ q : ByteArray, q = ⟨(Pg.layL x).toArray⟩ := ⟨_, rfl⟩
    rw [← hq] at HM ⊢
    have hie : q.toList.isEmpty = false := by
      rw [empty_iff, hq]
      refine decide_eq_false fun h1 => h0 ?_
      have h2 : (Pg.layL x).toArray.size = 0 := h1
      simpa using h2
    have hl : q.toList = Pg.layL x := by rw [ByteArray.toList_eq, hq]
    have hne : ¬ q.toList = [] := by rw [hl]; exact h0
    clear h0 hq hl
    go_enter Tryz.func75, Tryz.ntmps75
    go_wp2_with (go_at_call 40; refine (HM.out).mono ?_; rintro e w1 ⟨rfl, hb1⟩)
    go_ret2
    exact ⟨rfl, below_past hb1⟩
end Go.Proofs.YtmebkghdkeeobaaGreatDoor
namespace Pg
theorem sumSizes_replicate (n : Nat) : sumSizes (List.replicate n (⟨#[]⟩ : ByteArray)) = 0 := by
  induction n with
  | zero => rfl
  | succ n ih => rw [List.replicate_succ, sumSizes, ih]; rfl
theorem sumSizes_set (rs : List ByteArray) (k : Nat) (r : ByteArray) (h : k < rs.length) : sumSizes (rs.set k r) + rs[k].size = sumSizes rs + r.size := by
  have h1 := sumSizes_split rs k h
  rw [List.set_eq_take_append_cons_drop, if_pos h, sumSizes_append, sumSizes]
  omega
theorem putAt_length (rs : List ByteArray) (k : Nat) (r : ByteArray) : (putAt rs k r).length = max rs.length (k + 1) := by
  unfold putAt
  simp
  omega
theorem putAt_sum (rs : List ByteArray) (k : Nat) (r : ByteArray) : sumSizes (putAt rs k r) ≤ sumSizes rs + r.size := by
  unfold putAt
  have h : k < (rs ++ List.replicate (k + 1 - rs.length) (⟨#[]⟩ : ByteArray)).length := by simp; omega
  have h1 := sumSizes_set _ k r h
  rw [sumSizes_append, sumSizes_replicate] at h1
  omega
theorem putAt_size (rs : List ByteArray) (k : Nat) (r : ByteArray) : sizeN (putAt rs k r) ≤ 19 + 4 * max rs.length (k + 1) + (sumSizes rs + r.size) := by
  have := putAt_sum rs k r
  unfold sizeN
  rw [putAt_length]; omega
theorem slotAt_lt {rs : List ByteArray} {i : Int} (h : (slotAt rs i).size ≠ 0) : 0 ≤ i ∧ i < rs.length := by
  constructor
  · rcases Int.lt_or_le i 0 with h1 | h1
    · rw [slotAt_neg h1] at h; exact absurd rfl h
    · exact h1
  · rcases Int.lt_or_le i rs.length with h1 | h1
    · exact h1
    · rw [slotAt_past h1] at h; exact absurd rfl h
structure Good (x : Leaf) : Prop where
  fine : Fine x
  tight : Tight x.recs
  fits : sizeN x.recs ≤ 512
theorem right_good {p : List UInt8} {x : Leaf} (h : right p = some x) : Good x :=
  ⟨(right_fine h).1, (right_tight h).1, (right_tight h).2⟩
theorem leafOf_good (p : List UInt8) : Good (leafOf p) := by
  unfold leafOf
  cases h : right p with
  | none => exact ⟨zero_fine, (by intro r hr; cases hr), by decide⟩
  | some x => exact right_good h
end Pg
namespace Go.Proofs.YtmebkghdkeeobaaGreatDoor
open Go.RowKit
def mayB (r : ByteArray) : Bool := decide (1 ≤ r.size ∧ r.size ≤ 400)
theorem mayB_yes {r : ByteArray} (h : mayB r = true) : 1 ≤ r.size ∧ r.size ≤ 400 := by unfold mayB at h; exact of_decide_eq_true h
def withRecs (p : ByteArray) (rs : List ByteArray) : Pg.Leaf := { leafP p with recs := rs }
theorem leafP_good (p : ByteArray) : Pg.Good (leafP p) := Pg.leafOf_good _
theorem withRecs_small (p : ByteArray) (rs : List ByteArray) : Pg.Small (withRecs p rs) := (leafP_good p).fine.small
def putO (p : ByteArray) (i : Int) (r : ByteArray) : ByteArray × Int :=
  if isPg p = false then (⟨#[]⟩, 1) else if i < 0 then (⟨#[]⟩, 1) else if (Pg.slotAt (leafP p).recs i).size ≠ 0 then (⟨#[]⟩, 1)
  else if mayB r = false then (⟨#[]⟩, 1) else if 512 < i then (⟨#[]⟩, 18) else Pg.fullO (withRecs p (Pg.putAt (leafP p).recs i.toNat r))
def setO (p : ByteArray) (i : Int) (r : ByteArray) : ByteArray × Int :=
  if isPg p = false then (⟨#[]⟩, 1) else if mayB r = false then (⟨#[]⟩, 1) else if (Pg.slotAt (leafP p).recs i).size = 0 then (⟨#[]⟩, 21)
  else Pg.fullO (withRecs p (Pg.putAt (leafP p).recs i.toNat r))
theorem empty_yes {q : ByteArray} (h : q.size = 0) : q = ⟨#[]⟩ := bytes_nil h
theorem empty_no {q : ByteArray} (h : ¬ q.size = 0) : q.toList.isEmpty = false ∧ ¬ q.toList = [] := by
  have h1 : q.toList.isEmpty = false := by rw [empty_iff]; exact decide_eq_false h
  exact ⟨h1, fun e => by rw [e] at h1; cases h1⟩
set_option maxRecDepth 100000 in
set_option maxHeartbeats 2000000 in
theorem pput_any (p : ByteArray) (i : Int) (r : ByteArray) (hm : p.size ≤ 140737488355328) (w : World) :
    Calls Tryz.prog 41 #[.string p, .int .i64 i, .string r] w fun e w' => e = .returned (outV (putO p i r)) ∧ Below w.heap.size w w' := by
  have HT := Lib.hid (fun W => take_leaf p hm W)
  have HA := Lib.hid (fun A c W hW => at_any (leafP p) A c i W hW)
  have HY := Lib.hid (fun W => may_any r W)
  change Hid (∀ W, Calls _ _ _ _ fun e w' => e = .returned (.bool (mayB r)) ∧ _) at HY
  have hgood := leafP_good p
  unfold putO
  cases hb : isPg p with
  | false =>
    rw [if_pos rfl]
    rw [hb] at HT
    generalize leafP p = x at HT
    clear hgood hb HA HY
    go_enter Tryz.func41, Tryz.ntmps41
    go_wp2_with (first | (go_at_call 39; refine (HT.out _).mono ?_; rintro e w1 ⟨A, c, rfl, hcl, hb1⟩))
    go_ret2
    exact ⟨rfl, below_past_alloc hb1⟩
  | true =>
    rw [hb] at HT
    rw [if_neg (by simp)]
    clear hb
    by_cases h1 : i < 0
    · rw [if_pos h1]
      generalize leafP p = x at HT
      clear hgood HA HY
      go_enter Tryz.func41, Tryz.ntmps41
      go_wp2_with (first | (go_at_call 39; refine (HT.out _).mono ?_; rintro e w1 ⟨A, c, rfl, hcl, hb1⟩))
      go_ret2
      exact ⟨rfl, below_past_alloc hb1⟩
    · rw [if_neg h1]
      obtain ⟨k, rfl⟩ := Int.eq_ofNat_of_zero_le (show 0 ≤ i by omega)
      have hk0 : (0 : Int) ≤ (k : Int) := by omega
      clear h1
      rw [show ((k : Int)).toNat = k from rfl]
      by_cases h2 : (Pg.slotAt (leafP p).recs (k : Int)).size ≠ 0
      · rw [if_pos h2]
        obtain ⟨hie, hne⟩ := empty_no h2
        clear h2
        generalize Pg.slotAt (leafP p).recs (k : Int) = q at HA hie hne
        generalize leafP p = x at HT HA
        clear hgood HY
        go_enter Tryz.func41, Tryz.ntmps41
        go_wp2_with (first | (go_at_call 39; refine (HT.out _).mono ?_; rintro e w1 ⟨A, c, rfl, hcl, hb1⟩) | (go_at_call 73; refine (HA.out _ _ _ (hcl.cells.below ((Below.refl _ _).alloc (Nat.le_refl _) _))).mono ?_; rintro e w2 ⟨rfl, hb2⟩; obtain ⟨c0, c1, c2, c3, f0, f1, f2, f3⟩ := blk4 (blk_new hb2)))
        go_ret2
        exact ⟨rfl, andThen hb1 (below_past hb2)⟩
      · rw [if_neg h2]
        rw [empty_yes (q := Pg.slotAt (leafP p).recs (k : Int)) (by omega)] at HA
        clear h2
        cases hy : mayB r with
        | false =>
          rw [if_pos rfl]
          rw [hy] at HY
          generalize leafP p = x at HT HA
          clear hgood hy
          go_enter Tryz.func41, Tryz.ntmps41
          go_wp2_with (first | (go_at_call 39; refine (HT.out _).mono ?_; rintro e w1 ⟨A, c, rfl, hcl, hb1⟩) | (go_at_call 73; refine (HA.out _ _ _ (hcl.cells.below ((Below.refl _ _).alloc (Nat.le_refl _) _))).mono ?_; rintro e w2 ⟨rfl, hb2⟩; obtain ⟨c0, c1, c2, c3, f0, f1, f2, f3⟩ := blk4 (blk_new hb2)) | (go_at_call 74; refine (HY.out _).mono ?_; rintro e w3 ⟨rfl, rfl⟩))
          go_ret2
          exact ⟨rfl, andThen hb1 (below_past hb2)⟩
        | true =>
          rw [if_neg (by simp)]
          rw [hy] at HY
          obtain ⟨hr1, hr2⟩ := mayB_yes hy
          clear hy
          by_cases h5 : (512 : Int) < (k : Int)
          · rw [if_pos h5]
            generalize leafP p = x at HT HA
            clear hgood
            go_enter Tryz.func41, Tryz.ntmps41
            go_wp2_with (first | (go_at_call 39; refine (HT.out _).mono ?_; rintro e w1 ⟨A, c, rfl, hcl, hb1⟩) | (go_at_call 73; refine (HA.out _ _ _ (hcl.cells.below ((Below.refl _ _).alloc (Nat.le_refl _) _))).mono ?_; rintro e w2 ⟨rfl, hb2⟩; obtain ⟨c0, c1, c2, c3, f0, f1, f2, f3⟩ := blk4 (blk_new hb2)) | (go_at_call 74; refine (HY.out _).mono ?_; rintro e w3 ⟨rfl, rfl⟩))
            go_ret2
            exact ⟨rfl, andThen hb1 (below_past hb2)⟩
          · rw [if_neg h5]
            have hln := hgood.fine.len
            have hsm := hgood.fine.sum
            have hps := Pg.putAt_size (leafP p).recs k r
            have HW := Lib.hid (fun A c W hW => with_any (leafP p) A c k r (by omega) (by omega) W hW)
            have HU := Lib.hid (fun A c W hW => full_any (withRecs p (Pg.putAt (leafP p).recs k r)) A c (withRecs_small p _) (by show Pg.sizeN (Pg.putAt _ _ _) ≤ _; omega) W hW)
            change Hid (∀ A c W, Cells W A c (leafP p).recs → Calls _ _ _ _ fun e w' => ∃ A' c', e = .returned (leafV (withRecs p (Pg.putAt (leafP p).recs k r)) A' c') ∧ OwnCells _ w' A' c' (withRecs p (Pg.putAt (leafP p).recs k r)).recs ∧ _) at HW
            clear hps hln hsm hr1 hr2 hgood
            generalize withRecs p (Pg.putAt (leafP p).recs k r) = y at HW HU ⊢
            generalize Pg.fullO y = o at HU ⊢
            generalize leafP p = x at HT HA HW
            go_enter Tryz.func41, Tryz.ntmps41
            go_wp2_with (first | (go_at_call 39; refine (HT.out _).mono ?_; rintro e w1 ⟨A, c, rfl, hcl, hb1⟩) | (go_at_call 73; refine (HA.out _ _ _ (hcl.cells.below ((Below.refl _ _).alloc (Nat.le_refl _) _))).mono ?_; rintro e w2 ⟨rfl, hb2⟩; obtain ⟨c0, c1, c2, c3, f0, f1, f2, f3⟩ := blk4 (blk_new hb2)) | (go_at_call 74; refine (HY.out _).mono ?_; rintro e w3 ⟨rfl, rfl⟩) | (go_at_call 76; refine (HW.out _ _ _ (hcl.cells.below (below_past hb2))).mono ?_; rintro e w4 ⟨A', c', rfl, ho4, hb4⟩) | (go_at_call 75; refine (HU.out _ _ _ ho4.cells).mono ?_; rintro e w5 ⟨rfl, hb5⟩))
            go_ret2
            exact ⟨rfl, andThen (andThen (andThen hb1 (below_past hb2)) hb4) hb5⟩
set_option maxRecDepth 100000 in
set_option maxHeartbeats 2000000 in
theorem pset_any (p : ByteArray) (i : Int) (r : ByteArray) (hm : p.size ≤ 140737488355328) (w : World) :
    Calls Tryz.prog 193 #[.string p, .int .i64 i, .string r] w fun e w' => e = .returned (outV (setO p i r)) ∧ Below w.heap.size w w' := by
  have HT := Lib.hid (fun W => take_leaf p hm W)
  have HA := Lib.hid (fun A c W hW => at_any (leafP p) A c i W hW)
  have HY := Lib.hid (fun W => may_any r W)
  change Hid (∀ W, Calls _ _ _ _ fun e w' => e = .returned (.bool (mayB r)) ∧ _) at HY
  have hgood := leafP_good p
  unfold setO
  cases hb : isPg p with
  | false =>
    rw [if_pos rfl]
    rw [hb] at HT
    generalize leafP p = x at HT
    clear hgood hb HA HY
    go_enter Tryz.func193, Tryz.ntmps193
    go_wp2_with (first | (go_at_call 39; refine (HT.out _).mono ?_; rintro e w1 ⟨A, c, rfl, hcl, hb1⟩))
    go_ret2
    exact ⟨rfl, below_past_alloc hb1⟩
  | true =>
    rw [hb] at HT
    rw [if_neg (by simp)]
    clear hb
    cases hy : mayB r with
    | false =>
      rw [if_pos rfl]
      rw [hy] at HY
      generalize leafP p = x at HT
      clear hgood hy HA
      go_enter Tryz.func193, Tryz.ntmps193
      go_wp2_with (first | (go_at_call 39; refine (HT.out _).mono ?_; rintro e w1 ⟨A, c, rfl, hcl, hb1⟩) | (go_at_call 74; refine (HY.out _).mono ?_; rintro e w3 ⟨rfl, rfl⟩))
      go_ret2
      exact ⟨rfl, below_past_alloc hb1⟩
    | true =>
      rw [if_neg (by simp)]
      rw [hy] at HY
      obtain ⟨hr1, hr2⟩ := mayB_yes hy
      clear hy
      by_cases h2 : (Pg.slotAt (leafP p).recs i).size = 0
      · rw [if_pos h2]
        rw [empty_yes h2] at HA
        generalize leafP p = x at HT HA
        clear hgood h2
        go_enter Tryz.func193, Tryz.ntmps193
        go_wp2_with (first | (go_at_call 39; refine (HT.out _).mono ?_; rintro e w1 ⟨A, c, rfl, hcl, hb1⟩) | (go_at_call 74; refine (HY.out _).mono ?_; rintro e w3 ⟨rfl, rfl⟩) | (go_at_call 73; refine (HA.out _ _ _ (hcl.cells.below ((Below.refl _ _).alloc (Nat.le_refl _) _))).mono ?_; rintro e w2 ⟨rfl, hb2⟩; obtain ⟨c0, c1, c2, c3, f0, f1, f2, f3⟩ := blk4 (blk_new hb2)))
        go_ret2
        exact ⟨rfl, andThen hb1 (below_past hb2)⟩
      · rw [if_neg h2]
        obtain ⟨hi0, hi1⟩ := Pg.slotAt_lt h2
        obtain ⟨hie, hne⟩ := empty_no h2
        clear h2
        obtain ⟨k, rfl⟩ := Int.eq_ofNat_of_zero_le hi0
        rw [show ((k : Int)).toNat = k from rfl]
        have hln := hgood.fine.len
        have hsm := hgood.fine.sum
        have hps := Pg.putAt_size (leafP p).recs k r
        have HW := Lib.hid (fun A c W hW => with_any (leafP p) A c k r (by omega) (by omega) W hW)
        have HU := Lib.hid (fun A c W hW => full_any (withRecs p (Pg.putAt (leafP p).recs k r)) A c (withRecs_small p _) (by show Pg.sizeN (Pg.putAt _ _ _) ≤ _; omega) W hW)
        change Hid (∀ A c W, Cells W A c (leafP p).recs → Calls _ _ _ _ fun e w' => ∃ A' c', e = .returned (leafV (withRecs p (Pg.putAt (leafP p).recs k r)) A' c') ∧ OwnCells _ w' A' c' (withRecs p (Pg.putAt (leafP p).recs k r)).recs ∧ _) at HW
        clear hps hln hsm hr1 hr2 hgood hi1
        generalize withRecs p (Pg.putAt (leafP p).recs k r) = y at HW HU ⊢
        generalize Pg.fullO y = o at HU ⊢
        generalize Pg.slotAt (leafP p).recs (k : Int) = q at HA hie hne
        generalize leafP p = x at HT HA HW
        go_enter Tryz.func193, Tryz.ntmps193
        go_wp2_with (first | (go_at_call 39; refine (HT.out _).mono ?_; rintro e w1 ⟨A, c, rfl, hcl, hb1⟩) | (go_at_call 74; refine (HY.out _).mono ?_; rintro e w3 ⟨rfl, rfl⟩) | (go_at_call 73; refine (HA.out _ _ _ (hcl.cells.below ((Below.refl _ _).alloc (Nat.le_refl _) _))).mono ?_; rintro e w2 ⟨rfl, hb2⟩; obtain ⟨c0, c1, c2, c3, f0, f1, f2, f3⟩ := blk4 (blk_new hb2)) | (go_at_call 76; refine (HW.out _ _ _ (hcl.cells.below (below_past hb2))).mono ?_; rintro e w4 ⟨A', c', rfl, ho4, hb4⟩) | (go_at_call 75; refine (HU.out _ _ _ ho4.cells).mono ?_; rintro e w5 ⟨rfl, hb5⟩))
        go_ret2
        exact ⟨rfl, andThen (andThen (andThen hb1 (below_past hb2)) hb4) hb5⟩
end Go.Proofs.YtmebkghdkeeobaaGreatDoor
