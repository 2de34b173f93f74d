/- The walk over package node: Find. -/
import Derived.Test.YtgbihdlahghonaaGs07
import Derived.Test.YtgbihdlahghonaaGs03
import Derived.Test.YtgbihdlahghonaaGs05
namespace Nd
theorem nodeAt_succ {l : List Entry} {e : Entry} {k : Nat} (h1 : 1 ≤ k) (h : k < l.length) : nodeAt l e (k + 1) = if lessE e l[k] = true then nodeAt l e k else k := by
  rw [nodeAt, List.getElem?_eq_getElem h]
  simp only
  by_cases hl : lessE e l[k] = true
  · rw [if_pos (.inr hl), if_pos hl]
  · rw [if_neg (fun h2 => h2.elim (fun h3 => by omega) hl), if_neg hl]
theorem nodeAt_one (l : List Entry) (e : Entry) : nodeAt l e 1 = 0 := by
  rw [nodeAt]
  split
  · rw [if_pos (.inl rfl)]; rfl
  · rfl
/-- Where an entry is found. -/
def findV (ok lf : Bool) (l : List Entry) (e : Entry) : Int × Bool := if ok = false then (0, false) else if lf then ((placeE l e : Nat), foundE l e) else ((nodeAt l e l.length : Nat), true)
end Nd
namespace Go.Proofs.Ytgbihdlahghonaa
open Go.RowKit

theorem view_right {p : ByteArray} (h : rightP p = true) : Nd.rises (if (viewP p).leaf then (viewP p).ents else (viewP p).ents.drop 1) = true ∧ ((viewP p).leaf = false → 0 < (viewP p).ents.length) := by
  have key : ∀ lf V, Nd.lookL lf (leafP p).recs = some V → Nd.rises (if V.leaf then V.ents else V.ents.drop 1) = true ∧ (V.leaf = false → 0 < V.ents.length) := by
    intro lf V h
    cases hd : Nd.decN lf (leafP p).recs (leafP p).recs.length with
    | none => rw [Nd.lookL_none hd] at h; cases h
    | some l =>
      rw [Nd.lookL_some hd] at h
      split at h
      · cases h
      · rename_i h0
        split at h
        · rename_i hr
          injection h with h
          subst h
          refine ⟨hr, fun h1 => ?_⟩
          simp only [Nd.viewOf, List.length_map] at h1 ⊢
          rcases Nat.eq_zero_or_pos l.length with h2 | h2
          · exact absurd ⟨h1, List.eq_nil_of_length_eq_zero h2⟩ h0
          · exact h2
        · cases h
  unfold rightP at h
  unfold viewP
  cases hl : lookP p with
  | none => rw [hl] at h; cases h
  | some V =>
    unfold lookP at hl
    split at hl
    · unfold Nd.lookR at hl
      split at hl
      · exact key true V hl
      · split at hl
        · exact key false V hl
        · cases hl
    · cases hl

/-- Where an entry is found on a page. -/
def findP (p : ByteArray) (e : Nd.Entry) : Int × Bool := Nd.findV (rightP p) (viewP p).leaf (viewP p).ents e
/-- A box with an entry, an entry of a slice, and the slice's own cell, while nothing but new blocks is made. -/
abbrev HeldF (X g j Y : Nat) (a b : Nd.Entry) (v : Value) (w0 u : World) : Prop :=
  u.cell? ⟨X, 0, none⟩ = some (.string a.key) ∧ u.cell? ⟨X, 1, none⟩ = some (.int .i64 a.page) ∧ u.cell? ⟨X, 2, none⟩ = some (.int .i64 a.slot) ∧
  u.cell? ⟨g, j, none⟩ = some (.string b.key) ∧ u.cell? ⟨g, j + 1, none⟩ = some (.int .i64 b.page) ∧ u.cell? ⟨g, j + 2, none⟩ = some (.int .i64 b.slot) ∧ u.cell? ⟨Y, 2, none⟩ = some v ∧
  X < u.heap.size ∧ g < u.heap.size ∧ Y < u.heap.size ∧ Below w0.heap.size w0 u
theorem HeldF.step {X g j Y : Nat} {a b : Nd.Entry} {v : Value} {w0 u u' : World} (h : HeldF X g j Y a b v w0 u) (hb : Below u.heap.size u u') : HeldF X g j Y a b v w0 u' := by
  obtain ⟨h0, h1, h2, h3, h4, h5, h6, h7, h8, h9, h10⟩ := h
  have := hb.size
  refine ⟨?_, ?_, ?_, ?_, ?_, ?_, ?_, by omega, by omega, by omega, andThen h10 hb⟩
  · rw [hb.cell (p := ⟨X, 0, none⟩) h7]; exact h0
  · rw [hb.cell (p := ⟨X, 1, none⟩) h7]; exact h1
  · rw [hb.cell (p := ⟨X, 2, none⟩) h7]; exact h2
  · rw [hb.cell (p := ⟨g, j, none⟩) h8]; exact h3
  · rw [hb.cell (p := ⟨g, j + 1, none⟩) h8]; exact h4
  · rw [hb.cell (p := ⟨g, j + 2, none⟩) h8]; exact h5
  · rw [hb.cell (p := ⟨Y, 2, none⟩) h9]; exact h6

theorem heldF_of {w : World} {g off i X Y : Nat} {l : List Nd.Entry} {a : Nd.Entry} {T : TypeId} {v : Value} (hX : w.heap[X]? = some (.cells #[.string a.key, .int .i64 a.page, .int .i64 a.slot] T (0, 0))) (h : EntsAt w g off l) (hg : g < w.heap.size) (hi : i < l.length) (hv : w.cell? ⟨Y, 2, none⟩ = some v) (hY : Y < w.heap.size) :
    HeldF X g (off + i * 3) Y a l[i] v w w :=
  ⟨(blkE hX).1, (blkE hX).2.1, (blkE hX).2.2.1, (h i hi).1, (h i hi).2.1, (h i hi).2.2, hv, heap_lt hX, hg, hY, Below.refl _ _⟩

set_option maxRecDepth 100000 in
set_option maxHeartbeats 4000000 in
theorem nfind_any (p : ByteArray) (e : Nd.Entry) (hm : p.size ≤ 140737488355328) (w : World) :
    Calls Try.prog 52 #[.string p, entV e] w fun x w' => x = .returned (.tuple #[.int .i64 (findP p e).1, .bool (findP p e).2]) ∧ Below w.heap.size w w' := by
  have HL := Lib.hid (fun W => look_view p hm W)
  have hbd := look_bound p
  have hvr := view_right (p := p)
  unfold findP
  generalize viewP p = V at HL hbd hvr ⊢
  generalize rightP p = ok at HL hvr ⊢
  obtain ⟨lf, rs, l, is⟩ := V
  simp only at HL hbd hvr ⊢
  have hl : l.length ≤ 4096 := by omega
  have HVR := Lib.hid hvr
  clear hbd hvr
  have HXe := Lib.hid (heap_alloc_new w (.cells #[.string e.key, .int .i64 e.page, .int .i64 e.slot] 45))
  cases ok with
  | false =>
    rw [show Nd.findV false lf l e = (0, false) from if_pos rfl]
    obtain ⟨ek, ep, es⟩ := e
    go_enter Try.func52, Try.ntmps52
    go_wp2_with (go_at_call 92; refine (HL.out _).mono ?_; rintro x w1 ⟨a1, c1, a2, c2, a3, c3, rfl, h1, h2, h3, hb1⟩; have HB := Lib.hid hb1; clear h1 h2 h3 hb1)
    go_ret2
    exact ⟨rfl, below_past_alloc (below_past HB.out)⟩
  | true =>
    obtain ⟨hri, hpos⟩ := HVR.out rfl
    cases lf with
    | true =>
      rw [show Nd.findV true true l e = (((Nd.placeE l e : Nat) : Int), Nd.foundE l e) from rfl]
      have HBS := Lib.hid (fun A c W h => bsearch_any A c l e hl hri W h)
      generalize Nd.placeE l e = P at HBS ⊢
      generalize Nd.foundE l e = F at HBS ⊢
      clear hri hpos HVR
      obtain ⟨ek, ep, es⟩ := e
      go_enter Try.func52, Try.ntmps52
      go_upto_region 5 with (go_at_call 92; refine (HL.out _).mono ?_; rintro x w1 ⟨a1, c1, a2, c2, a3, c3, rfl, h1, h2, h3, hb1⟩; have HB := Lib.hid (below_past hb1); have H2 := Lib.hid h2; have HXX := Lib.hid (blk_new hb1); have hlt1 : w.heap.size < w1.heap.size := (by have h7 := hb1.size; simp at h7; omega); clear h1 h2 h3 hb1)
      obtain ⟨V, hV⟩ : ∃ V, V = w1.alloc (.cells #[.bool true, .slice a1 rs.length c1, .slice a2 l.length c2, .slice a3 is.length c3] 86) := ⟨_, rfl⟩
      have HBV := Lib.hid (show Below w.heap.size w V by rw [hV]; exact below_past_alloc HB.out)
      have HXV := Lib.hid (show V.heap[w.heap.size]? = some (.cells #[.string ek, .int .i64 ep, .int .i64 es] 45 (0, 0)) by rw [hV, Below.heap_alloc _ _ _ hlt1]; exact HXX.out)
      have HYV := Lib.hid (show V.heap[w1.heap.size]? = some (.cells #[.bool true, .slice a1 rs.length c1, .slice a2 l.length c2, .slice a3 is.length c3] 86 (0, 0)) by rw [hV]; exact heap_alloc_new w1 _)
      have HCV : Hid (CellsE V a2 c2 l) := by
        have h2 := H2.out.alloc (.cells #[.bool true, .slice a1 rs.length c1, .slice a2 l.length c2, .slice a3 is.length c3] 86)
        rw [← hV] at h2
        obtain ⟨A, c, hv, hC⟩ := ownEs_cells h2
        injection hv with h3 h4 h5
        subst h3 h5
        exact hC
      rw [← hV]
      clear hV HXX H2 HB
      obtain ⟨x0, x1, x2, -, -, -⟩ := blkE HXV.out
      obtain ⟨y0, y1, y2, y3, -, -, -, -⟩ := blk4v HYV.out
      go_wp2_with (go_at_call 93; refine (HBS.out _ _ _ HCV.out).mono ?_; rintro x w3 ⟨rfl, hb3⟩)
      go_ret2
      exact ⟨rfl, andThen HBV.out hb3⟩
    | false =>
      rw [show Nd.findV true false l e = (((Nd.nodeAt l e l.length : Nat) : Int), true) from rfl]
      have hpos := hpos rfl
      obtain ⟨R, hR⟩ : ∃ R, R = Nd.nodeAt l e l.length := ⟨_, rfl⟩
      rw [← hR]
      have HR := Lib.hid hR
      have HLS := Lib.hid (fun (x : Nd.Entry) W => less_any e x W)
      have HA1 := Lib.hid (Nd.nodeAt_one l e)
      have HAS := Lib.hid (fun k (h1 : 1 ≤ k) (h2 : k < l.length) => Nd.nodeAt_succ (l := l) (e := e) h1 h2)
      clear hri HVR hR
      generalize Nd.nodeAt l e = f at HR HA1 HAS
      obtain ⟨ek, ep, es⟩ := e
      go_enter Try.func52, Try.ntmps52
      go_upto_block 0 with (go_at_call 92; refine (HL.out _).mono ?_; rintro x w1 ⟨a1, c1, a2, c2, a3, c3, rfl, h1, h2, h3, hb1⟩; have HB := Lib.hid (below_past hb1); have H2 := Lib.hid h2; have HXX := Lib.hid (blk_new hb1); have hlt1 : w.heap.size < w1.heap.size := (by have h7 := hb1.size; simp at h7; omega); clear h1 h2 h3 hb1)
      obtain ⟨V, hV⟩ : ∃ V, V = w1.alloc (.cells #[.bool false, .slice a1 rs.length c1, .slice a2 l.length c2, .slice a3 is.length c3] 86) := ⟨_, rfl⟩
      have HBV := Lib.hid (show Below w.heap.size w V by rw [hV]; exact below_past_alloc HB.out)
      have HXV := Lib.hid (show V.heap[w.heap.size]? = some (.cells #[.string ek, .int .i64 ep, .int .i64 es] 45 (0, 0)) by rw [hV, Below.heap_alloc _ _ _ hlt1]; exact HXX.out)
      have HYV := Lib.hid (show V.heap[w1.heap.size]? = some (.cells #[.bool false, .slice a1 rs.length c1, .slice a2 l.length c2, .slice a3 is.length c3] 86 (0, 0)) by rw [hV]; exact heap_alloc_new w1 _)
      have HCV : Hid (CellsE V a2 c2 l) := by
        have h2 := H2.out.alloc (.cells #[.bool false, .slice a1 rs.length c1, .slice a2 l.length c2, .slice a3 is.length c3] 86)
        rw [← hV] at h2
        obtain ⟨A, c, hv, hC⟩ := ownEs_cells h2
        injection hv with h3 h4 h5
        subst h3 h5
        exact hC
      rw [← hV]
      clear hV HXX H2 HB
      go_wp2_with fail
      go_loopw [8, 9] (fun n i wr => ∃ k : Nat, 1 ≤ k ∧ k ≤ l.length ∧ i = .int .i64 k ∧ n = .int .i64 (f k : Nat) ∧ Below V.heap.size V wr) (fun _ i _ => l.length - (intOf i).toNat)
      case atStart => exact ⟨1, Nat.le_refl _, by omega, rfl, by rw [HA1.out]; rfl, Below.refl _ _⟩
      case round =>
        obtain ⟨k, hk1, hk2, rfl, rfl, hb⟩ := hrel
        obtain ⟨y0, y1, y2, y3, -, -, -, -⟩ := blk4v (blk_old HYV.out hb)
        by_cases hlt : k < l.length
        · obtain ⟨g, off, rfl, hc, hgl, hE⟩ := (HCV.out.below hb).at_ (by omega)
          have HLL := Lib.hid (heldF_of (a := ⟨ek, ep, es⟩) (Y := w1.heap.size) (blk_old HXV.out hb) hE hgl hlt y2 (Nat.lt_of_lt_of_le (heap_lt HYV.out) hb.size))
          have HLSk := Lib.hid (fun W => HLS.out l[k] W)
          have HSk := Lib.hid (HAS.out k hk1 hlt)
          clear hE
          generalize l[k] = x at HLL HLSk HSk
          generalize Nd.lessE ⟨ek, ep, es⟩ x = lb at HLSk HSk
          obtain ⟨bk, bp, bs⟩ := x
          have hi1 : (0 : Int) ≤ (k : Int) := by omega
          have hi2 : (k : Int) < (l.length : Int) := by omega
          cases lb with
          | true =>
            have HSt := Lib.hid (HSk.out.trans (if_pos rfl))
            clear y0 y1 y3 HSk
            go_upto_region 10 with (fail)
            go_region_held3 (fun we => HeldF w.heap.size g (off + k * 3) w1.heap.size ⟨ek, ep, es⟩ ⟨bk, bp, bs⟩ (.slice (some ⟨g, off, none⟩) l.length c2) wr we) (first | assumption | exact HLL.out.step ((Below.refl _ _).drew) | go_keep) (first
              | (go_at_call 65; refine (HLSk.out _).mono ?_; rintro x w2 ⟨rfl, hb2⟩; have hSS := (HLL.out.step ((Below.refl _ _).drew)).step hb2))
            go_wp2_with fail
            go_roundw
            case rel => exact ⟨k + 1, by omega, by omega, by go_num, by rw [HSt.out], andThen hb hSS.2.2.2.2.2.2.2.2.2.2⟩
            case measure => simp [intOf]; omega
          | false =>
            have HSt := Lib.hid (HSk.out.trans (if_neg (by simp)))
            clear y0 y1 y3 HSk
            go_upto_region 10 with (fail)
            go_region_held3 (fun we => HeldF w.heap.size g (off + k * 3) w1.heap.size ⟨ek, ep, es⟩ ⟨bk, bp, bs⟩ (.slice (some ⟨g, off, none⟩) l.length c2) wr we) (first | assumption | exact HLL.out.step ((Below.refl _ _).drew) | go_keep) (first
              | (go_at_call 65; refine (HLSk.out _).mono ?_; rintro x w2 ⟨rfl, hb2⟩; have hSS := (HLL.out.step ((Below.refl _ _).drew)).step hb2))
            go_wp2_with fail
            go_roundw
            case rel => exact ⟨k + 1, by omega, by omega, by go_num, by rw [HSt.out], andThen hb hSS.2.2.2.2.2.2.2.2.2.2⟩
            case measure => simp [intOf]; omega
        · obtain rfl : k = l.length := by omega
          go_wp2_with fail
          go_ret2
          exact ⟨by rw [HR.out]; rfl, andThen HBV.out hb⟩
end Go.Proofs.Ytgbihdlahghonaa
/- The plain mathematics of pages, third part: a page that was laid is read back. -/
namespace Pg
open Oct

theorem getN_app (a b : List UInt8) (u k : Nat) (h : u < 256 ^ k) : getN (a ++ (putL u k ++ b)) a.length k = u := by
  unfold getN
  rw [List.drop_left, List.take_left' (putL_length u k), getL_putL, Nat.mod_eq_of_lt h]
theorem getN_app' (l a b : List UInt8) (n u k : Nat) (hl : l = a ++ (putL u k ++ b)) (hn : a.length = n) (h : u < 256 ^ k) : getN l n k = u := by
  rw [hl, ← hn]; exact getN_app a b u k h

/-- The last record, if there is one, is not empty. -/
def Tight (rs : List ByteArray) : Prop := ∀ r, rs.getLast? = some r → r.size ≠ 0
theorem trim_tight (rs : List ByteArray) : trim rs = rs ↔ Tight rs := by
  have h0 : trim rs = rs ↔ trimN rs rs.length = rs.length := by
    unfold trim
    constructor
    · intro h
      have h1 := congrArg List.length h
      rw [List.length_take] at h1
      have := trimN_le rs rs.length
      omega
    · intro h; rw [h, List.take_length]
  rw [h0]
  unfold Tight
  rw [List.getLast?_eq_getElem?]
  rcases hm : rs.length with _ | m
  · simp [trimN, hm]
  · have hlt : m < rs.length := by omega
    have hg : rs[m]? = some rs[m] := List.getElem?_eq_getElem hlt
    simp only [Nat.add_sub_cancel, hg, Option.some.injEq, forall_eq', trimN, Option.getD_some]
    constructor
    · intro h hz
      rw [if_pos hz] at h
      have := trimN_le rs m
      omega
    · intro h; rw [if_neg h]

theorem trim_trim (rs : List ByteArray) : Tight (trim rs) := by
  unfold trim
  have key : ∀ m, m ≤ rs.length → Tight (rs.take (trimN rs m)) := by
    intro m
    induction m with
    | zero => intro _ r hr; simp [trimN] at hr
    | succ m ih =>
      intro hm
      unfold trimN
      split
      · exact ih (by omega)
      · rename_i h
        intro r hr
        rw [List.getLast?_eq_getElem?, List.length_take, Nat.min_eq_left hm, Nat.add_sub_cancel, List.getElem?_take_of_lt (by omega)] at hr
        rw [hr] at h
        exact h
  exact key _ (Nat.le_refl _)
theorem trim_idem (rs : List ByteArray) : trim (trim rs) = trim rs := (trim_tight _).2 (trim_trim rs)

theorem layL_eq {x : Leaf} (h : sizeN (trim x.recs) ≤ 512) : layL x = headL x (trim x.recs).length (512 - sumSizes (trim x.recs)) ++ slotsL 512 (trim x.recs) ++ List.replicate (512 - sizeN (trim x.recs)) 0 ++ bodyL (trim x.recs) := by
  unfold layL layR
  rw [if_neg (by omega)]

/-- A page's bytes behind the sum. -/
def headT (x : Leaf) (n a : Nat) : List UInt8 := putL x.lsn 6 ++ (putL x.kind 1 ++ (putL 0 1 ++ (putL x.link 3 ++ (putL n 2 ++ putL a 2))))
theorem headL_eq (x : Leaf) (n a : Nat) : headL x n a = putL 0 4 ++ headT x n a := by unfold headL headT; simp only [List.append_assoc]
theorem headT_length (x : Leaf) (n a : Nat) : (headT x n a).length = 15 := by simp [headT, putL_length]
def tailR (x : Leaf) (rs : List ByteArray) : List UInt8 := headT x rs.length (512 - sumSizes rs) ++ (slotsL 512 rs ++ (List.replicate (512 - sizeN rs) 0 ++ bodyL rs))
theorem tailR_length (x : Leaf) (rs : List ByteArray) (h : sizeN rs ≤ 512) : (tailR x rs).length = 508 := by
  unfold tailR
  simp only [List.length_append, headT_length, slotsL_length, List.length_replicate, bodyL_length]
  have hz : sizeN rs = 19 + 4 * rs.length + sumSizes rs := rfl
  omega
theorem layL_tail {x : Leaf} (h : sizeN (trim x.recs) ≤ 512) : layL x = putL 0 4 ++ tailR x (trim x.recs) := by
  rw [layL_eq h, headL_eq]; unfold tailR; simp only [List.append_assoc]
structure Heads (x : Leaf) (l : List UInt8) (n : Nat) : Prop where
  lsn : getN l 4 6 = x.lsn
  kind : getN l 10 1 = x.kind
  link : getN l 12 3 = x.link
  count : getN l 15 2 = n
theorem headT_reads (h : List UInt8) (hh : h.length = 4) (x : Leaf) (hx : Small x) (n a : Nat) (hn : n < 65536) (b : List UInt8) : Heads x (h ++ (headT x n a ++ b)) n := by
  obtain ⟨h1, h2, h3⟩ := hx
  constructor
  · exact getN_app' _ h (putL x.kind 1 ++ (putL 0 1 ++ (putL x.link 3 ++ (putL n 2 ++ (putL a 2 ++ b))))) _ _ _ (by simp [headT]) (by simp [hh]) (by omega)
  · exact getN_app' _ (h ++ putL x.lsn 6) (putL 0 1 ++ (putL x.link 3 ++ (putL n 2 ++ (putL a 2 ++ b)))) _ _ _ (by simp [headT]) (by simp [putL_length, hh]) (by omega)
  · exact getN_app' _ (h ++ putL x.lsn 6 ++ putL x.kind 1 ++ putL 0 1) (putL n 2 ++ (putL a 2 ++ b)) _ _ _ (by simp [headT]) (by simp [putL_length, hh]) (by omega)
  · exact getN_app' _ (h ++ putL x.lsn 6 ++ putL x.kind 1 ++ putL 0 1 ++ putL x.link 3) (putL a 2 ++ b) _ _ _ (by simp [headT]) (by simp [putL_length, hh]) (by omega)

theorem slotL_eq (a : Nat) (r : ByteArray) : slotL a r = putL (if r.size = 0 then 0 else a - r.size) 2 ++ putL r.size 2 := by
  unfold slotL
  by_cases h : r.size = 0
  · rw [if_pos h, if_pos h, h]; rfl
  · rw [if_neg h, if_neg h]

theorem slotsL_split (rs : List ByteArray) (k : Nat) (h : k < rs.length) : slotsL 512 rs = slotsL 512 (rs.take k) ++ (slotL (512 - sumSizes (rs.take k)) rs[k] ++ slotsL (512 - sumSizes (rs.take k) - rs[k].size) (rs.drop (k + 1))) := by
  have h1 : rs = rs.take k ++ rs[k] :: rs.drop (k + 1) := by rw [← List.drop_eq_getElem_cons h, List.take_append_drop]
  conv => lhs; rw [h1]
  rw [slotsL_append]; rfl
theorem bodyL_split (rs : List ByteArray) (k : Nat) (h : k < rs.length) : bodyL rs = bodyL (rs.drop (k + 1)) ++ (rs[k].data.toList ++ bodyL (rs.take k)) := by
  have h1 : rs = rs.take k ++ rs[k] :: rs.drop (k + 1) := by rw [← List.drop_eq_getElem_cons h, List.take_append_drop]
  conv => lhs; rw [h1]
  rw [bodyL_append]; simp [bodyL]
theorem sumSizes_split (rs : List ByteArray) (k : Nat) (h : k < rs.length) : sumSizes rs = sumSizes (rs.take k) + rs[k].size + sumSizes (rs.drop (k + 1)) := by
  have h1 : rs = rs.take k ++ rs[k] :: rs.drop (k + 1) := by rw [← List.drop_eq_getElem_cons h, List.take_append_drop]
  conv => lhs; rw [h1]
  rw [sumSizes_append]; simp [sumSizes]; omega

theorem recsOf_lay (h : List UInt8) (hh : h.length = 4) (x : Leaf) (rs : List ByteArray) (hs : sizeN rs ≤ 512) (he : ∀ r ∈ rs, r.size ≤ 400) :
    ∀ k, k ≤ rs.length → recsOf (h ++ tailR x rs) k = some (rs.take k) := by
  intro k
  induction k with
  | zero => intro _; simp [recsOf]
  | succ k ih =>
    intro hk
    have hk' : k < rs.length := by omega
    unfold recsOf
    rw [ih (by omega)]
    simp only
    have hsum := sumSizes_split rs k hk'
    have hz : sizeN rs = 19 + 4 * rs.length + sumSizes rs := rfl
    have hr4 : rs[k].size ≤ 400 := he _ (List.getElem_mem hk')
    have hsp := slotsL_split rs k hk'
    have hbs := bodyL_split rs k hk'
    have hse := slotL_eq (512 - sumSizes (rs.take k)) rs[k]
    have hl1 : (slotsL 512 (rs.take k)).length = 4 * k := by rw [slotsL_length, List.length_take]; omega
    have g1 : getN (h ++ tailR x rs) (19 + 4 * k) 2 = if rs[k].size = 0 then 0 else 512 - sumSizes (rs.take k) - rs[k].size := by
      refine getN_app' _ (h ++ headT x rs.length (512 - sumSizes rs) ++ slotsL 512 (rs.take k)) (putL rs[k].size 2 ++ (slotsL (512 - sumSizes (rs.take k) - rs[k].size) (rs.drop (k + 1)) ++ (List.replicate (512 - sizeN rs) 0 ++ bodyL rs))) _ _ _ ?_ ?_ ?_
      · unfold tailR; rw [hsp, hse]; simp only [List.append_assoc]
      · rw [List.length_append, List.length_append, headT_length, hl1, hh]
      · split <;> omega
    have g2 : getN (h ++ tailR x rs) (21 + 4 * k) 2 = rs[k].size := by
      refine getN_app' _ (h ++ headT x rs.length (512 - sumSizes rs) ++ slotsL 512 (rs.take k) ++ putL (if rs[k].size = 0 then 0 else 512 - sumSizes (rs.take k) - rs[k].size) 2) (slotsL (512 - sumSizes (rs.take k) - rs[k].size) (rs.drop (k + 1)) ++ (List.replicate (512 - sizeN rs) 0 ++ bodyL rs)) _ _ _ ?_ ?_ ?_
      · unfold tailR; rw [hsp, hse]; simp only [List.append_assoc]
      · rw [List.length_append, List.length_append, List.length_append, headT_length, hl1, putL_length, hh]; omega
      · omega
    rw [g1, g2]
    rw [if_neg (by split <;> omega)]
    rw [List.take_succ_eq_append_getElem hk']
    congr 2
    by_cases h0 : rs[k].size = 0
    · rw [h0]
      have : rs[k] = ⟨#[]⟩ := by apply ByteArray.ext; exact Array.eq_empty_of_size_eq_zero h0
      rw [this]; rfl
    · rw [if_neg h0]
      have hpre : (h ++ (headT x rs.length (512 - sumSizes rs) ++ (slotsL 512 rs ++ (List.replicate (512 - sizeN rs) 0 ++ bodyL (rs.drop (k + 1)))))).length = 512 - sumSizes (rs.take k) - rs[k].size := by
        simp only [List.length_append, headT_length, slotsL_length, List.length_replicate, bodyL_length, hh]; omega
      have hsplit : h ++ tailR x rs = (h ++ (headT x rs.length (512 - sumSizes rs) ++ (slotsL 512 rs ++ (List.replicate (512 - sizeN rs) 0 ++ bodyL (rs.drop (k + 1)))))) ++ (rs[k].data.toList ++ bodyL (rs.take k)) := by
        unfold tailR
        conv => lhs; rw [hbs]
        simp only [List.append_assoc]
      rw [hsplit, ← hpre, List.drop_left, List.take_left' (by simp)]

/-- A page that was laid is read back, whatever its sum. -/
theorem rd_tail (h : List UInt8) (hh : h.length = 4) {x : Leaf} (hx : Small x) (rs : List ByteArray) (hs : sizeN rs ≤ 512) (he : ∀ r ∈ rs, r.size ≤ 400) : rd (h ++ tailR x rs) = some { x with recs := rs } := by
  have hz : sizeN rs = 19 + 4 * rs.length + sumSizes rs := rfl
  have hd := headT_reads h hh x hx rs.length (512 - sumSizes rs) (by omega) (slotsL 512 rs ++ (List.replicate (512 - sizeN rs) 0 ++ bodyL rs))
  have hr := recsOf_lay h hh x rs hs he rs.length (Nat.le_refl _)
  rw [List.take_length] at hr
  have hl : (h ++ tailR x rs).length = 512 := by rw [List.length_append, tailR_length x rs hs, hh]
  change Heads x (h ++ tailR x rs) rs.length at hd
  unfold rd
  rw [hd.kind, hd.count, hd.lsn, hd.link, hl, if_neg (by have := hx.2.1; omega), hr]
  rfl
theorem trim_of_tight {rs : List ByteArray} (h : Tight rs) : trim rs = rs := (trim_tight rs).2 h
theorem right_tail (h : List UInt8) (hh : h.length = 4) {x : Leaf} (hx : Small x) (rs : List ByteArray) (hs : sizeN rs ≤ 512) (he : ∀ r ∈ rs, r.size ≤ 400) (ht : Tight rs) : right (h ++ tailR x rs) = some { x with recs := rs } := by
  rw [right_some]
  refine ⟨rd_tail h hh hx rs hs he, ?_⟩
  have h1 : trim ({ x with recs := rs } : Leaf).recs = rs := trim_of_tight ht
  rw [layL_tail (x := { x with recs := rs }) (by rw [h1]; exact hs), h1, ← hh, List.drop_left]
  rfl
theorem right_layL {x : Leaf} (hx : Small x) (hs : sizeN (trim x.recs) ≤ 512) (he : ∀ r ∈ x.recs, r.size ≤ 400) : right (layL x) = some { x with recs := trim x.recs } := by
  rw [layL_tail hs]
  exact right_tail _ (putL_length 0 4) hx _ hs (fun r hr => he r (List.mem_of_mem_take hr)) (trim_trim _)
/-- A page's own records. -/
theorem right_tight {p : List UInt8} {x : Leaf} (h : right p = some x) : Tight x.recs ∧ sizeN x.recs ≤ 512 := by
  obtain ⟨h1, h2⟩ := right_some.1 h
  obtain ⟨hf, h512⟩ := rd_fine h1
  have hlen : (layL x).length = 512 := by
    rw [h2, List.length_append, putL_length, List.length_drop, h512]
  have hs : sizeN (trim x.recs) ≤ 512 := by
    rcases Nat.lt_or_ge 512 (sizeN (trim x.recs)) with h3 | h3
    · have : layL x = [] := by unfold layL layR; rw [if_pos h3]
      rw [this] at hlen; cases hlen
    · exact h3
  have hd := headT_reads (putL 0 4) (putL_length 0 4) x hf.small (trim x.recs).length (512 - sumSizes (trim x.recs)) (by have : sizeN (trim x.recs) = 19 + 4 * (trim x.recs).length + sumSizes (trim x.recs) := rfl; omega) (slotsL 512 (trim x.recs) ++ (List.replicate (512 - sizeN (trim x.recs)) 0 ++ bodyL (trim x.recs)))
  change Heads x (putL 0 4 ++ tailR x (trim x.recs)) _ at hd
  rw [← layL_tail hs] at hd
  have hc := hd.count
  have hcp : getN (layL x) 15 2 = getN p 15 2 := by
    rw [h2]
    unfold getN
    rw [show 15 = 4 + 11 from rfl, ← List.drop_drop, ← List.drop_drop, List.drop_left' (putL_length 0 4)]
  have hn : x.recs.length = getN p 15 2 := by
    unfold rd at h1
    split at h1
    · cases h1
    · cases hr : recsOf p (getN p 15 2) with
      | none => rw [hr] at h1; cases h1
      | some rs =>
        rw [hr] at h1
        injection h1 with h1
        rw [← h1]
        exact recsOf_length p _ rs hr
  have ht : trim x.recs = x.recs := by
    have h5 : (trim x.recs).length = x.recs.length := by rw [hn, ← hcp, hc]
    unfold trim at h5 ⊢
    rw [List.length_take] at h5
    exact List.take_of_length_le (by omega)
  exact ⟨(trim_tight _).1 ht, by rw [ht] at hs; exact hs⟩
/-- A page's bytes: its sum, and what its parts say. -/
theorem right_bytes {p : List UInt8} {x : Leaf} (h : right p = some x) : p = p.take 4 ++ tailR x x.recs := by
  obtain ⟨ht, hs⟩ := right_tight h
  have h1 : trim x.recs = x.recs := trim_of_tight ht
  have h2 := (right_some.1 h).2
  rw [layL_tail (by rw [h1]; exact hs), h1] at h2
  have h3 := List.append_cancel_left h2
  rw [h3, List.take_append_drop]
/-- What a page says does not hang on its sum. -/
theorem right_sum {p q : List UInt8} {x : Leaf} (h : right p = some x) (hl : q.length = 512) (hd : q.drop 4 = p.drop 4) : right q = some x := by
  obtain ⟨ht, hs⟩ := right_tight h
  have h5 := (right_fine h).2
  have hb := right_bytes h
  have h1 : p.drop 4 = tailR x x.recs := by
    conv => lhs; rw [hb]
    exact List.drop_left' (by rw [List.length_take]; omega)
  rw [← List.take_append_drop 4 q, hd, h1]
  exact right_tail _ (by rw [List.length_take]; omega) (right_fine h).1.small _ hs (right_fine h).1.each ht
end Pg
/- The records of a page with a slot turned: leaf.with. -/
namespace Pg
/-- The records with another one in a slot; the slots that lack ahead of it are free. -/
def putAt (rs : List ByteArray) (k : Nat) (r : ByteArray) : List ByteArray := (rs ++ List.replicate (k + 1 - rs.length) (⟨#[]⟩ : ByteArray)).set k r
/-- The records with enough free slots that one has the number k. -/
def upTo (rs : List ByteArray) (k : Nat) : List ByteArray := rs ++ List.replicate k (⟨#[]⟩ : ByteArray)
theorem upTo_length (rs : List ByteArray) (k : Nat) : (upTo rs k).length = rs.length + k := by simp [upTo]
theorem upTo_succ (rs : List ByteArray) (k : Nat) : upTo rs (k + 1) = upTo rs k ++ [⟨#[]⟩] := by
  unfold upTo
  rw [List.replicate_succ', List.append_assoc]
end Pg
namespace Go.Proofs.Ytgbihdlahghonaa
open Go.RowKit

/-- A new block of one text. -/
theorem cells_one (w : World) (r : ByteArray) : Cells (w.alloc (.cells #[.string r] 9)) (some ⟨w.heap.size, 0, none⟩) 1 [r] := fun _ => by
  refine ⟨w.heap.size, 0, rfl, Nat.le_refl _, by simp, fun j hj => ?_⟩
  obtain rfl : j = 0 := by simpa using hj
  rw [cell_of_row _ _ _ _ _ _ (heap_alloc_new w (.cells #[.string r] 9))]; rfl
theorem own_some {B : Nat} {w : World} {v : Value} {rs : List ByteArray} (h : OwnT B w v rs) (h0 : 0 < rs.length) : ∃ g c, v = .slice (some ⟨g, 0, none⟩) rs.length c ∧ B ≤ g ∧ rs.length ≤ c ∧ g < w.heap.size ∧ (∀ j (hj : j < rs.length), w.cell? ⟨g, j, none⟩ = some (.string rs[j])) ∧ (∀ j, w.frozen? ⟨g, j, none⟩ = false) := by
  obtain ⟨A, c, rfl, ho, -⟩ := h.form
  obtain ⟨g, rfl, h1, h2, h3, h4⟩ := ho h0
  exact ⟨g, c, rfl, h1, h2, h3, h4, fun j => h.frozenAt j⟩
theorem own_stored {B : Nat} {w : World} {g c : Nat} {rs : List ByteArray} (h : OwnT B w (.slice (some ⟨g, 0, none⟩) rs.length c) rs) (k : Nat) (r : ByteArray) : OwnT B (w.setCell ⟨g, k, none⟩ (.string r)) (.slice (some ⟨g, 0, none⟩) (rs.set k r).length c) (rs.set k r) := by
  have h1 := (h.stored k (.string r)).1
  unfold OwnT
  rw [List.length_set, List.map_set]
  exact h1

def lenV (v : Value) : Nat := match v with | .slice _ n _ => n | _ => 0

set_option maxRecDepth 100000 in
set_option maxHeartbeats 2000000 in
theorem with_any (x : Pg.Leaf) (A : Option Addr) (c k : Nat) (r : ByteArray) (hl : x.recs.length ≤ 4096) (hk : k ≤ 4096) (w : World) (h : Cells w A c x.recs) :
    Calls Try.prog 86 #[leafV x A c, .int .i64 (k : Int), .string r] w fun e w' => ∃ A' c', e = .returned (leafV { x with recs := Pg.putAt x.recs k r } A' c') ∧ OwnCells w.heap.size w' A' c' (Pg.putAt x.recs k r) ∧ Below w.heap.size w w' := by
  go_enter Try.func86, Try.ntmps86
  go_wp2_with (at_builtin; refine wpList_app _ rfl _ _ rfl (w.heap.size + 2) (.slice none 0 0) [] rfl (OwnT.nil _ _) A c x.recs rfl ((h.below ((Below.refl _ _).alloc (Nat.le_refl _) _)).below ((Below.refl _ _).alloc (Nat.le_refl _) _)) (by simp; omega) (by simp) ?_; intro v1 w1 hown1 hg1 hb1)
  rw [List.nil_append] at hown1
  have hsz1 : w.heap.size + 2 ≤ w1.heap.size := by have := hb1.size; simp at this; omega
  have hX1 : w1.heap[w.heap.size]? = some (.cells #[.int .i64 x.lsn, .int .i64 x.kind, .int .i64 x.link, .slice A x.recs.length c] 67 (0, 0)) := by
    rw [hb1.block _ (by omega), Below.heap_alloc _ _ _ (by simp)]; exact heap_alloc_new w _
  have hY1 : w1.heap[w.heap.size + 1]? = some (.cells #[.int .i64 0, .int .i64 0, .int .i64 0, .slice none 0 0] 67 (0, 0)) := by
    rw [hb1.block _ (by omega)]
    have := heap_alloc_new (w.alloc (.cells #[.int .i64 x.lsn, .int .i64 x.kind, .int .i64 x.link, .slice A x.recs.length c] 67)) (.cells #[.int .i64 0, .int .i64 0, .int .i64 0, .slice none 0 0] 67)
    simpa using this
  have hbw : Below w.heap.size w w1 := (((Below.refl _ _).alloc (Nat.le_refl _) _).alloc (by simp) _).trans (hb1.mono (by omega))
  have HX := Lib.hid hX1
  have HY := Lib.hid hY1
  have HBW := Lib.hid hbw
  have HC := Lib.hid h
  clear hX1 hY1 hbw hb1 hg1 h
  go_loopw [7] (fun v wr => ∃ j, j ≤ k + 1 - x.recs.length ∧ OwnT (w.heap.size + 2) wr v (Pg.upTo x.recs j) ∧ Below (w.heap.size + 2) w1 wr) (fun v _ => 8193 - lenV v)
  case atStart => exact ⟨0, Nat.zero_le _, by simpa [Pg.upTo] using hown1, Below.refl _ _⟩
  case round =>
    obtain ⟨j, hj, hown, hb⟩ := hrel
    have hwr := hb.size
    have hln := Pg.upTo_length x.recs j
    have HS := Lib.hid (Pg.upTo_succ x.recs j)
    obtain ⟨L, hL⟩ : ∃ L, L = Pg.upTo x.recs j := ⟨_, rfl⟩
    rw [← hL] at hown hln HS
    have HL := Lib.hid hL
    have HLN := Lib.hid hln
    clear hL
    obtain ⟨Av, cv, rfl, hoc, -⟩ := hown.form
    by_cases hlt : L.length ≤ k
    · have hj2 : j + 1 ≤ k + 1 - x.recs.length := by omega
      clear hln hoc
      go_wp2_with (at_builtin; refine wpList_app _ rfl _ _ rfl (w.heap.size + 2) _ L rfl (hown.below ((Below.refl _ _).alloc (Nat.le_refl _) _)) _ 1 [⟨#[]⟩] rfl (cells_one wr _) (by simp; omega) (by simp; omega) ?_; intro v2 w2 hown2 hg2 hb2)
      have hb3 : Below (w.heap.size + 2) w1 w2 := hb.trans (((Below.refl _ _).alloc (by omega) _).trans hb2)
      rw [← HS.out] at hown2
      have hf : ∃ A' c', v2 = .slice A' (L.length + 1) c' := by
        obtain ⟨A', c', rfl, -⟩ := hown2.form
        exact ⟨A', c', by rw [HS.out, List.length_append]; rfl⟩
      obtain ⟨A', c', rfl⟩ := hf
      clear hg2
      go_roundw
      case rel => exact ⟨j + 1, hj2, hown2, hb3⟩
      case measure => simp [lenV]; omega
    · have hj3 : j = k + 1 - x.recs.length := by omega
      have hkl : k < L.length := by omega
      obtain ⟨g, cv', hv, hg, hcv, hgl, hcell, hfz⟩ := own_some hown (by omega)
      injection hv with hA hn hcc
      subst hA
      subst hcc
      have hck := hcell k hkl
      have hfk := hfz k
      have hst := own_stored hown k r
      have hset : L.set k r = Pg.putAt x.recs k r := by rw [HL.out, hj3]; rfl
      rw [hset] at hst
      have HST := Lib.hid hst
      have hLl : (Pg.putAt x.recs k r).length = L.length := by rw [← hset, List.length_set]
      have HSE := Lib.hid hLl
      obtain ⟨x0, x1, x2, x3, f0, f1, f2, f3⟩ := blk4 ((hb.block _ (by omega)).trans HX.out)
      obtain ⟨y0, y1, y2, y3, k0, k1, k2, k3⟩ := blk4 ((hb.block _ (by omega)).trans HY.out)
      have hb4 : Below w.heap.size w wr := HBW.out.trans (hb.mono (by omega))
      have hk0 : (0 : Int) ≤ (k : Int) := by omega
      have hk1 : (k : Int) < (L.length : Int) := by omega
      clear hcell hfz hst hset hLl hj3 hln hoc
      go_wp2_with fail
      have hne1 : g ≠ w.heap.size + 1 := by omega
      have hne2 : g ≠ w.heap.size := by omega
      refine bodyPost_ret (v := .agg #[.int .i64 x.lsn, .int .i64 x.kind, .int .i64 x.link, .slice (some ⟨g, 0, none⟩) L.length cv]) (by simp [results, Try.results86, go_sem, y0, y1, y2, y3]) rfl ?_
      refine ⟨some ⟨g, 0, none⟩, cv, by rw [← HSE.out], ?_, ?_⟩
      · have ho := own_cells HST.out rfl
        refine OwnCells.mono (B := w.heap.size + 2) ?_ (by omega)
        repeat (first | (with_reducible exact ho) | (with_reducible refine OwnCells.set ?_ _ (by simp; done) _))
      · repeat (first | (with_reducible exact hb4) | (with_reducible refine Below.setCell ?_ (by first | (simp; done) | (show w.heap.size ≤ g; omega)) _))
end Go.Proofs.Ytgbihdlahghonaa
/- The records of a page with a slot turned: the reference's with. -/
namespace Go.Proofs.Ytgbihdlahghonaa
open Go.RowKit

set_option maxRecDepth 100000 in
set_option maxHeartbeats 2000000 in
theorem rwith_far (A : Option Addr) (c n : Nat) (i : Int) (r : ByteArray) (h : 512 < i) (w : World) :
    Calls Try.prog 90 #[.slice A n c, .int .i64 i, .string r] w fun e w' => e = .returned (.tuple #[.slice none 0 0, .bool false]) ∧ w = w' := by
  go_enter Try.func90, Try.ntmps90
  go_wp2_with fail
  go_ret2
  exact ⟨rfl, rfl⟩

set_option maxRecDepth 100000 in
set_option maxHeartbeats 2000000 in
theorem rwith_any (rs : List ByteArray) (A : Option Addr) (c k : Nat) (r : ByteArray) (hl : rs.length ≤ 4096) (hk : k ≤ 512) (w : World) (h : Cells w A c rs) :
    Calls Try.prog 90 #[.slice A rs.length c, .int .i64 (k : Int), .string r] w fun e w' => ∃ A' c', e = .returned (.tuple #[.slice A' (Pg.putAt rs k r).length c', .bool true]) ∧ OwnCells w.heap.size w' A' c' (Pg.putAt rs k r) ∧ Below w.heap.size w w' := by
  have hk5 : (k : Int) ≤ 512 := by omega
  go_enter Try.func90, Try.ntmps90
  go_wp2_with (at_builtin; refine wpList_app _ rfl _ _ rfl w.heap.size (.slice none 0 0) [] rfl (OwnT.nil _ _) A c rs rfl h (by simp; omega) (Nat.le_refl _) ?_; intro v1 w1 hown1 hg1 hb1)
  rw [List.nil_append] at hown1
  have HC := Lib.hid h
  have HB := Lib.hid hb1
  clear hg1 h hk5 hb1
  go_loopw [8] (fun v wr => ∃ j, j ≤ k + 1 - rs.length ∧ OwnT w.heap.size wr v (Pg.upTo rs j) ∧ Below w.heap.size w wr) (fun v _ => 8193 - lenV v)
  case atStart => exact ⟨0, Nat.zero_le _, by simpa [Pg.upTo] using hown1, HB.out⟩
  case round =>
    obtain ⟨j, hj, hown, hb⟩ := hrel
    have hwr := hb.size
    have hln := Pg.upTo_length rs j
    have HS := Lib.hid (Pg.upTo_succ rs j)
    obtain ⟨L, hL⟩ : ∃ L, L = Pg.upTo rs j := ⟨_, rfl⟩
    rw [← hL] at hown hln HS
    have HL := Lib.hid hL
    have HLN := Lib.hid hln
    clear hL
    obtain ⟨Av, cv, rfl, hoc, -⟩ := hown.form
    by_cases hlt : L.length ≤ k
    · have hj2 : j + 1 ≤ k + 1 - rs.length := by omega
      clear hln hoc
      go_wp2_with (at_builtin; refine wpList_app _ rfl _ _ rfl w.heap.size _ L rfl (hown.below ((Below.refl _ _).alloc (Nat.le_refl _) _)) _ 1 [⟨#[]⟩] rfl (cells_one wr _) (by simp; omega) (by simp; omega) ?_; intro v2 w2 hown2 hg2 hb2)
      have hb3 : Below w.heap.size w w2 := hb.trans (((Below.refl _ _).alloc (by omega) _).trans hb2)
      rw [← HS.out] at hown2
      have hf : ∃ A' c', v2 = .slice A' (L.length + 1) c' := by
        obtain ⟨A', c', rfl, -⟩ := hown2.form
        exact ⟨A', c', by rw [HS.out, List.length_append]; rfl⟩
      obtain ⟨A', c', rfl⟩ := hf
      clear hg2
      go_roundw
      case rel => exact ⟨j + 1, hj2, hown2, hb3⟩
      case measure => simp [lenV]; omega
    · have hj3 : j = k + 1 - rs.length := by omega
      have hkl : k < L.length := by omega
      obtain ⟨g, cv', hv, hg, hcv, hgl, hcell, hfz⟩ := own_some hown (by omega)
      injection hv with hA hn hcc
      subst hA
      subst hcc
      have hck := hcell k hkl
      have hfk := hfz k
      have hst := own_stored hown k r
      have hset : L.set k r = Pg.putAt rs k r := by rw [HL.out, hj3]; rfl
      rw [hset] at hst
      have HST := Lib.hid hst
      have hLl : (Pg.putAt rs k r).length = L.length := by rw [← hset, List.length_set]
      have HSE := Lib.hid hLl
      have hk0 : (0 : Int) ≤ (k : Int) := by omega
      have hk1 : (k : Int) < (L.length : Int) := by omega
      clear hcell hfz hst hset hLl hj3 hln hoc
      go_wp2_with fail
      go_ret2
      exact ⟨some ⟨g, 0, none⟩, cv, (by rw [HSE.out]; rfl), own_cells HST.out rfl, hb.setCell hg _⟩
end Go.Proofs.Ytgbihdlahghonaa
/- The walks over package page and its reference: full, laid. -/
namespace Pg
theorem trimN_eq_iff (rs : List ByteArray) : trim rs = rs ↔ trimN rs rs.length = rs.length := by
  unfold trim
  constructor
  · intro h
    have h1 := congrArg List.length h
    rw [List.length_take] at h1
    have := trimN_le rs rs.length
    omega
  · intro h; rw [h, List.take_length]
theorem sizeN_trim (rs : List ByteArray) : sizeN (trim rs) ≤ sizeN rs := by
  unfold sizeN trim
  have := sumSizes_take_le rs (trimN rs rs.length)
  have := List.length_take_le (trimN rs rs.length) rs
  have : (rs.take (trimN rs rs.length)).length ≤ rs.length := by rw [List.length_take]; omega
  omega
theorem layL_nil {x : Leaf} (h : 512 < sizeN (trim x.recs)) : layL x = [] := by unfold layL layR; rw [if_pos h]
theorem layL_length {x : Leaf} (h : sizeN (trim x.recs) ≤ 512) : (layL x).length = 512 := layR_length x _ (by omega)
theorem layL_nil_iff (x : Leaf) : layL x = [] ↔ 512 < sizeN (trim x.recs) := by
  constructor
  · intro h
    rcases Nat.lt_or_ge 512 (sizeN (trim x.recs)) with h1 | h1
    · exact h1
    · have := layL_length h1; rw [h] at this; cases this
  · exact layL_nil
/-- What comes of parts: the page; or that they do not fit. -/
def fullO (x : Leaf) : ByteArray × Int := if layL x = [] then (⟨#[]⟩, 18) else (⟨(layL x).toArray⟩, 0)
theorem fullO_yes {x : Leaf} (h : sizeN (trim x.recs) ≤ 512) : fullO x = (⟨(layL x).toArray⟩, 0) := by
  unfold fullO; rw [if_neg]; rw [layL_nil_iff]; omega
theorem fullO_no {x : Leaf} (h : 512 < sizeN (trim x.recs)) : fullO x = (⟨#[]⟩, 18) := by
  unfold fullO; rw [if_pos ((layL_nil_iff x).2 h)]
end Pg
namespace Go.Proofs.Ytgbihdlahghonaa
open Go.RowKit

/-- A text and an error. -/
abbrev outV (o : ByteArray × Int) : Value := .tuple #[.string o.1, .int .i64 o.2]

set_option maxRecDepth 100000 in
set_option maxHeartbeats 1000000 in
theorem full_any (x : Pg.Leaf) (A : Option Addr) (c : Nat) (hx : Pg.Small x) (hb : Pg.sizeN x.recs ≤ 1099511627776) (w : World) (h : Cells w A c x.recs) :
    Calls Try.prog 85 #[leafV x A c] w fun e w' => e = .returned (outV (Pg.fullO x)) ∧ Below w.heap.size w w' := by
  have HM := Lib.hid (made_any x A c hx hb _ (h.below ((Below.refl w.heap.size w).alloc (Nat.le_refl _) (.cells #[.int .i64 x.lsn, .int .i64 x.kind, .int .i64 x.link, .slice A x.recs.length c] 67 (0, 0)))))
  clear h
  unfold Pg.fullO
  by_cases h0 : Pg.layL x = []
  · rw [if_pos h0]
    rw [h0] at HM
    clear h0
    go_enter Try.func85, Try.ntmps85
    go_wp2_with (go_at_call 87; refine (HM.out).mono ?_; rintro e w1 ⟨rfl, hb1⟩)
    go_ret2
    exact ⟨rfl, below_past hb1⟩
  · rw [if_neg h0]
    obtain ⟨q, hq⟩ : ∃ q : ByteArray, q = ⟨(Pg.layL x).toArray⟩ := ⟨_, rfl⟩
    rw [← hq] at HM ⊢
    have hie : q.toList.isEmpty = false := by
      rw [empty_iff, hq]
      refine decide_eq_false fun h1 => h0 ?_
      have h2 : (Pg.layL x).toArray.size = 0 := h1
      simpa using h2
    have hl : q.toList = Pg.layL x := by rw [ByteArray.toList_eq, hq]
    have hne : ¬ q.toList = [] := by rw [hl]; exact h0
    clear h0 hq hl
    go_enter Try.func85, Try.ntmps85
    go_wp2_with (go_at_call 87; refine (HM.out).mono ?_; rintro e w1 ⟨rfl, hb1⟩)
    go_ret2
    exact ⟨rfl, below_past hb1⟩

set_option maxRecDepth 100000 in
set_option maxHeartbeats 1000000 in
theorem laid_any (x : Pg.Leaf) (A : Option Addr) (c : Nat) (hx : Pg.Small x) (hb : Pg.sizeN x.recs ≤ 1099511627776) (ht : Pg.sizeN x.recs ≤ 512 ∨ Pg.trim x.recs = x.recs) (w : World) (h : Cells w A c x.recs) :
    Calls Try.prog 91 #[leafV x A c] w fun e w' => e = .returned (outV (Pg.fullO x)) ∧ Below w.heap.size w w' := by
  have HL := Lib.hid (fun W hW => rlay_any x A c hx hb W hW)
  have HC := Lib.hid (h.below ((Below.refl w.heap.size w).alloc (Nat.le_refl _) (.cells #[.int .i64 x.lsn, .int .i64 x.kind, .int .i64 x.link, .slice A x.recs.length c] 71 (0, 0))))
  clear h
  by_cases h5 : Pg.sizeN x.recs ≤ 512
  · rw [Pg.fullO_yes (Nat.le_trans (Pg.sizeN_trim _) h5)]
    have HF := Lib.hid (fun W hW => rfits_is x A c x.recs hb true (decide_eq_true h5) W hW)
    clear h5 hb ht
    generalize (⟨(Pg.layL x).toArray⟩ : ByteArray) = q at HL ⊢
    go_enter Try.func91, Try.ntmps91
    go_wp2_with (first | (go_at_call 116; refine (HF.out _ HC.out).mono ?_; rintro e w1 ⟨rfl, hb1⟩; obtain ⟨c0, c1, c2, c3, f0, f1, f2, f3⟩ := blk4 (blk_new hb1)) | (go_at_call 88; refine (HL.out _ (HC.out.below hb1)).mono ?_; rintro e w2 ⟨rfl, hb2⟩))
    go_ret2
    exact ⟨rfl, andThen (below_past hb1) hb2⟩
  · have ht2 : Pg.trim x.recs = x.recs := by rcases ht with h | h; exact absurd h h5; exact h
    rw [Pg.fullO_no (by rw [ht2]; omega)]
    have HF := Lib.hid (fun W hW => rfits_is x A c x.recs hb false (decide_eq_false h5) W hW)
    clear h5 hb ht ht2
    go_enter Try.func91, Try.ntmps91
    go_wp2_with (first | (go_at_call 116; refine (HF.out _ HC.out).mono ?_; rintro e w1 ⟨rfl, hb1⟩))
    go_ret2
    exact ⟨rfl, below_past hb1⟩
end Go.Proofs.Ytgbihdlahghonaa
/- The plain mathematics of pages, fourth part: records put, cut, set, added, deleted. -/
namespace Pg

theorem sumSizes_replicate (n : Nat) : sumSizes (List.replicate n (⟨#[]⟩ : ByteArray)) = 0 := by
  induction n with
  | zero => rfl
  | succ n ih => rw [List.replicate_succ, sumSizes, ih]; rfl
theorem sumSizes_set (rs : List ByteArray) (k : Nat) (r : ByteArray) (h : k < rs.length) : sumSizes (rs.set k r) + rs[k].size = sumSizes rs + r.size := by
  have h1 := sumSizes_split rs k h
  rw [List.set_eq_take_append_cons_drop, if_pos h, sumSizes_append, sumSizes]
  omega
theorem putAt_length (rs : List ByteArray) (k : Nat) (r : ByteArray) : (putAt rs k r).length = max rs.length (k + 1) := by
  unfold putAt
  simp
  omega
theorem putAt_in {rs : List ByteArray} {k : Nat} (h : k < rs.length) (r : ByteArray) : putAt rs k r = rs.set k r := by
  unfold putAt
  rw [show k + 1 - rs.length = 0 by omega]; simp
theorem putAt_sum (rs : List ByteArray) (k : Nat) (r : ByteArray) : sumSizes (putAt rs k r) ≤ sumSizes rs + r.size := by
  unfold putAt
  have h : k < (rs ++ List.replicate (k + 1 - rs.length) (⟨#[]⟩ : ByteArray)).length := by simp; omega
  have h1 := sumSizes_set _ k r h
  rw [sumSizes_append, sumSizes_replicate] at h1
  omega
theorem putAt_mem {rs : List ByteArray} {k : Nat} {r : ByteArray} {m : Nat} (he : ∀ r ∈ rs, r.size ≤ m) (hr : r.size ≤ m) : ∀ q ∈ putAt rs k r, q.size ≤ m := by
  intro q hq
  unfold putAt at hq
  rcases List.mem_or_eq_of_mem_set hq with h | h
  · rw [List.mem_append] at h
    rcases h with h | h
    · exact he q h
    · rw [(List.mem_replicate.1 h).2]; exact Nat.zero_le _
  · rw [h]; exact hr
theorem putAt_get (rs : List ByteArray) (k : Nat) (r : ByteArray) (j : Nat) : ((putAt rs k r)[j]?).getD ⟨#[]⟩ = if j = k then r else (rs[j]?).getD ⟨#[]⟩ := by
  unfold putAt
  rw [List.getElem?_set]
  by_cases h : k = j
  · subst h
    rw [if_pos rfl, if_pos (by simp; omega), if_pos rfl]; rfl
  · rw [if_neg h, if_neg (fun e => h e.symm), List.getElem?_append]
    split
    · rfl
    · rename_i h1
      rw [List.getElem?_replicate, List.getElem?_eq_none (by omega)]
      split <;> rfl
theorem tight_of_last {rs : List ByteArray} (h : rs.length = 0 ∨ ((rs[rs.length - 1]?).getD ⟨#[]⟩).size ≠ 0) : Tight rs := by
  intro r hr
  rw [List.getLast?_eq_getElem?] at hr
  rcases h with h | h
  · rw [List.eq_nil_of_length_eq_zero h] at hr; simp at hr
  · rw [hr] at h; exact h
theorem tight_last {rs : List ByteArray} (h : Tight rs) : rs.length = 0 ∨ ((rs[rs.length - 1]?).getD ⟨#[]⟩).size ≠ 0 := by
  rcases Nat.eq_zero_or_pos rs.length with h0 | h0
  · exact .inl h0
  · right
    have hg : rs[rs.length - 1]? = some rs[rs.length - 1] := List.getElem?_eq_getElem (by omega)
    rw [hg]
    exact h _ (by rw [List.getLast?_eq_getElem?, hg]; rfl)
theorem putAt_tight {rs : List ByteArray} (h : Tight rs) (k : Nat) {r : ByteArray} (hr : r.size ≠ 0) : Tight (putAt rs k r) := by
  refine tight_of_last (.inr ?_)
  rw [putAt_get, putAt_length]
  split
  · exact hr
  · rcases tight_last h with h1 | h1
    · omega
    · rw [show max rs.length (k + 1) - 1 = rs.length - 1 by omega]; exact h1
theorem putAt_size (rs : List ByteArray) (k : Nat) (r : ByteArray) : sizeN (putAt rs k r) ≤ 19 + 4 * max rs.length (k + 1) + (sumSizes rs + r.size) := by
  have := putAt_sum rs k r
  unfold sizeN
  rw [putAt_length]; omega
theorem cutAt_size {rs : List ByteArray} {k : Nat} (h : k < rs.length) : sizeN (putAt rs k ⟨#[]⟩) ≤ sizeN rs := by
  have h1 := putAt_size rs k ⟨#[]⟩
  have h2 : (⟨#[]⟩ : ByteArray).size = 0 := rfl
  unfold sizeN at h1 ⊢; omega
/-- The records with one more at a place; those from there on move up. -/
def insAt (rs : List ByteArray) (k : Nat) (r : ByteArray) : List ByteArray := if rs.length ≤ k then putAt rs k r else rs.take k ++ [r] ++ rs.drop k
/-- The records without one; those behind it move down. -/
def delAt (rs : List ByteArray) (k : Nat) : List ByteArray := rs.take k ++ rs.drop (k + 1)
theorem insAt_sum (rs : List ByteArray) (k : Nat) (r : ByteArray) : sumSizes (insAt rs k r) ≤ sumSizes rs + r.size := by
  unfold insAt
  split
  · exact putAt_sum rs k r
  · have h := sumSizes_append (rs.take k) (rs.drop k)
    rw [List.take_append_drop] at h
    rw [sumSizes_append, sumSizes_append, sumSizes, sumSizes]; omega
theorem insAt_length (rs : List ByteArray) (k : Nat) (r : ByteArray) : (insAt rs k r).length = max (rs.length + 1) (k + 1) := by
  unfold insAt
  split
  · rw [putAt_length]; omega
  · simp; omega
theorem delAt_sum {rs : List ByteArray} {k : Nat} (h : k < rs.length) : sumSizes (delAt rs k) + rs[k].size = sumSizes rs := by
  have h1 := sumSizes_split rs k h
  unfold delAt
  rw [sumSizes_append]; omega
theorem delAt_length {rs : List ByteArray} {k : Nat} (h : k < rs.length) : (delAt rs k).length + 1 = rs.length := by
  unfold delAt; simp; omega
theorem delAt_size {rs : List ByteArray} {k : Nat} (h : k < rs.length) : sizeN (delAt rs k) ≤ sizeN rs := by
  have h1 := delAt_sum h
  have h2 := delAt_length h
  unfold sizeN; omega
theorem insAt_tight {rs : List ByteArray} (h : Tight rs) (k : Nat) {r : ByteArray} (hr : r.size ≠ 0) : Tight (insAt rs k r) := by
  unfold insAt
  split
  · exact putAt_tight h k hr
  · rename_i h1
    intro q hq
    rw [List.getLast?_append] at hq
    refine h q ?_
    rw [List.getLast?_drop, if_neg h1] at hq
    have hl : rs.getLast? = some (rs.getLast (by intro e; rw [e] at h1; simp at h1)) := List.getLast?_eq_some_getLast _
    rw [hl] at hq ⊢
    exact hq
theorem insAt_mem {rs : List ByteArray} {k : Nat} {r : ByteArray} {m : Nat} (he : ∀ r ∈ rs, r.size ≤ m) (hr : r.size ≤ m) : ∀ q ∈ insAt rs k r, q.size ≤ m := by
  unfold insAt
  split
  · exact putAt_mem he hr
  · intro q hq
    simp only [List.mem_append, List.mem_singleton] at hq
    rcases hq with (h | h) | h
    · exact he q (List.mem_of_mem_take h)
    · rw [h]; exact hr
    · exact he q (List.mem_of_mem_drop h)
theorem delAt_mem {rs : List ByteArray} {k : Nat} {m : Nat} (he : ∀ r ∈ rs, r.size ≤ m) : ∀ q ∈ delAt rs k, q.size ≤ m := by
  intro q hq
  unfold delAt at hq
  rw [List.mem_append] at hq
  rcases hq with h | h
  · exact he q (List.mem_of_mem_take h)
  · exact he q (List.mem_of_mem_drop h)
theorem slotAt_lt {rs : List ByteArray} {i : Int} (h : (slotAt rs i).size ≠ 0) : 0 ≤ i ∧ i < rs.length := by
  constructor
  · rcases Int.lt_or_le i 0 with h1 | h1
    · rw [slotAt_neg h1] at h; exact absurd rfl h
    · exact h1
  · rcases Int.lt_or_le i rs.length with h1 | h1
    · exact h1
    · rw [slotAt_past h1] at h; exact absurd rfl h

/-- A page's parts, of which it may be said what they are. -/
structure Good (x : Leaf) : Prop where
  fine : Fine x
  tight : Tight x.recs
  fits : sizeN x.recs ≤ 512
theorem right_good {p : List UInt8} {x : Leaf} (h : right p = some x) : Good x :=
  ⟨(right_fine h).1, (right_tight h).1, (right_tight h).2⟩
theorem leafOf_good (p : List UInt8) : Good (leafOf p) := by
  unfold leafOf
  cases h : right p with
  | none => exact ⟨zero_fine, (by intro r hr; cases hr), by decide⟩
  | some x => exact right_good h
end Pg
/- The walks over package page and its reference: Put, Cut, Set. -/
namespace Go.Proofs.Ytgbihdlahghonaa
open Go.RowKit

/-- May a record be? -/
def mayB (r : ByteArray) : Bool := decide (1 ≤ r.size ∧ r.size ≤ 400)
theorem mayB_yes {r : ByteArray} (h : mayB r = true) : 1 ≤ r.size ∧ r.size ≤ 400 := by unfold mayB at h; exact of_decide_eq_true h
/-- A page's parts with other records. -/
def withRecs (p : ByteArray) (rs : List ByteArray) : Pg.Leaf := { leafP p with recs := rs }
theorem leafP_good (p : ByteArray) : Pg.Good (leafP p) := Pg.leafOf_good _
theorem withRecs_small (p : ByteArray) (rs : List ByteArray) : Pg.Small (withRecs p rs) := (leafP_good p).fine.small
/-- What Put, Cut, Set return. -/
def putO (p : ByteArray) (i : Int) (r : ByteArray) : ByteArray × Int :=
  if isPg p = false then (⟨#[]⟩, 1) else if i < 0 then (⟨#[]⟩, 1) else if (Pg.slotAt (leafP p).recs i).size ≠ 0 then (⟨#[]⟩, 1)
  else if mayB r = false then (⟨#[]⟩, 1) else if 512 < i then (⟨#[]⟩, 18) else Pg.fullO (withRecs p (Pg.putAt (leafP p).recs i.toNat r))
def cutO (p : ByteArray) (i : Int) : ByteArray × Int :=
  if isPg p = false then (⟨#[]⟩, 1) else if (Pg.slotAt (leafP p).recs i).size = 0 then (⟨#[]⟩, 21) else Pg.fullO (withRecs p (Pg.putAt (leafP p).recs i.toNat ⟨#[]⟩))
def setO (p : ByteArray) (i : Int) (r : ByteArray) : ByteArray × Int :=
  if isPg p = false then (⟨#[]⟩, 1) else if mayB r = false then (⟨#[]⟩, 1) else if (Pg.slotAt (leafP p).recs i).size = 0 then (⟨#[]⟩, 21)
  else Pg.fullO (withRecs p (Pg.putAt (leafP p).recs i.toNat r))

theorem empty_yes {q : ByteArray} (h : q.size = 0) : q = ⟨#[]⟩ := bytes_nil h
theorem empty_no {q : ByteArray} (h : ¬ q.size = 0) : q.toList.isEmpty = false ∧ ¬ q.toList = [] := by
  have h1 : q.toList.isEmpty = false := by rw [empty_iff]; exact decide_eq_false h
  exact ⟨h1, fun e => by rw [e] at h1; cases h1⟩
set_option maxRecDepth 100000 in
set_option maxHeartbeats 2000000 in
theorem pput_any (p : ByteArray) (i : Int) (r : ByteArray) (hm : p.size ≤ 140737488355328) (w : World) :
    Calls Try.prog 35 #[.string p, .int .i64 i, .string r] w fun e w' => e = .returned (outV (putO p i r)) ∧ Below w.heap.size w w' := by
  have HT := Lib.hid (fun W => take_leaf p hm W)
  have HA := Lib.hid (fun A c W hW => at_any (leafP p) A c i W hW)
  have HY := Lib.hid (fun W => may_any r W)
  change Hid (∀ W, Calls _ _ _ _ fun e w' => e = .returned (.bool (mayB r)) ∧ _) at HY
  have hgood := leafP_good p
  unfold putO
  cases hb : isPg p with
  | false =>
    rw [if_pos rfl]
    rw [hb] at HT
    generalize leafP p = x at HT
    clear hgood hb HA HY
    go_enter Try.func35, Try.ntmps35
    go_wp2_with (first | (go_at_call 75; refine (HT.out _).mono ?_; rintro e w1 ⟨A, c, rfl, hcl, hb1⟩))
    go_ret2
    exact ⟨rfl, below_past_alloc hb1⟩
  | true =>
    rw [hb] at HT
    rw [if_neg (by simp)]
    clear hb
    by_cases h1 : i < 0
    · rw [if_pos h1]
      generalize leafP p = x at HT
      clear hgood HA HY
      go_enter Try.func35, Try.ntmps35
      go_wp2_with (first | (go_at_call 75; refine (HT.out _).mono ?_; rintro e w1 ⟨A, c, rfl, hcl, hb1⟩))
      go_ret2
      exact ⟨rfl, below_past_alloc hb1⟩
    · rw [if_neg h1]
      obtain ⟨k, rfl⟩ := Int.eq_ofNat_of_zero_le (show 0 ≤ i by omega)
      have hk0 : (0 : Int) ≤ (k : Int) := by omega
      clear h1
      rw [show ((k : Int)).toNat = k from rfl]
      by_cases h2 : (Pg.slotAt (leafP p).recs (k : Int)).size ≠ 0
      · rw [if_pos h2]
        obtain ⟨hie, hne⟩ := empty_no h2
        clear h2
        generalize Pg.slotAt (leafP p).recs (k : Int) = q at HA hie hne
        generalize leafP p = x at HT HA
        clear hgood HY
        go_enter Try.func35, Try.ntmps35
        go_wp2_with (first | (go_at_call 75; refine (HT.out _).mono ?_; rintro e w1 ⟨A, c, rfl, hcl, hb1⟩) | (go_at_call 76; refine (HA.out _ _ _ (hcl.cells.below ((Below.refl _ _).alloc (Nat.le_refl _) _))).mono ?_; rintro e w2 ⟨rfl, hb2⟩; obtain ⟨c0, c1, c2, c3, f0, f1, f2, f3⟩ := blk4 (blk_new hb2)))
        go_ret2
        exact ⟨rfl, andThen hb1 (below_past hb2)⟩
      · rw [if_neg h2]
        rw [empty_yes (q := Pg.slotAt (leafP p).recs (k : Int)) (by omega)] at HA
        clear h2
        cases hy : mayB r with
        | false =>
          rw [if_pos rfl]
          rw [hy] at HY
          generalize leafP p = x at HT HA
          clear hgood hy
          go_enter Try.func35, Try.ntmps35
          go_wp2_with (first | (go_at_call 75; refine (HT.out _).mono ?_; rintro e w1 ⟨A, c, rfl, hcl, hb1⟩) | (go_at_call 76; refine (HA.out _ _ _ (hcl.cells.below ((Below.refl _ _).alloc (Nat.le_refl _) _))).mono ?_; rintro e w2 ⟨rfl, hb2⟩; obtain ⟨c0, c1, c2, c3, f0, f1, f2, f3⟩ := blk4 (blk_new hb2)) | (go_at_call 84; refine (HY.out _).mono ?_; rintro e w3 ⟨rfl, rfl⟩))
          go_ret2
          exact ⟨rfl, andThen hb1 (below_past hb2)⟩
        | true =>
          rw [if_neg (by simp)]
          rw [hy] at HY
          obtain ⟨hr1, hr2⟩ := mayB_yes hy
          clear hy
          by_cases h5 : (512 : Int) < (k : Int)
          · rw [if_pos h5]
            generalize leafP p = x at HT HA
            clear hgood
            go_enter Try.func35, Try.ntmps35
            go_wp2_with (first | (go_at_call 75; refine (HT.out _).mono ?_; rintro e w1 ⟨A, c, rfl, hcl, hb1⟩) | (go_at_call 76; refine (HA.out _ _ _ (hcl.cells.below ((Below.refl _ _).alloc (Nat.le_refl _) _))).mono ?_; rintro e w2 ⟨rfl, hb2⟩; obtain ⟨c0, c1, c2, c3, f0, f1, f2, f3⟩ := blk4 (blk_new hb2)) | (go_at_call 84; refine (HY.out _).mono ?_; rintro e w3 ⟨rfl, rfl⟩))
            go_ret2
            exact ⟨rfl, andThen hb1 (below_past hb2)⟩
          · rw [if_neg h5]
            have hln := hgood.fine.len
            have hsm := hgood.fine.sum
            have hps := Pg.putAt_size (leafP p).recs k r
            have HW := Lib.hid (fun A c W hW => with_any (leafP p) A c k r (by omega) (by omega) W hW)
            have HU := Lib.hid (fun A c W hW => full_any (withRecs p (Pg.putAt (leafP p).recs k r)) A c (withRecs_small p _) (by show Pg.sizeN (Pg.putAt _ _ _) ≤ _; omega) W hW)
            change Hid (∀ A c W, Cells W A c (leafP p).recs → Calls _ _ _ _ fun e w' => ∃ A' c', e = .returned (leafV (withRecs p (Pg.putAt (leafP p).recs k r)) A' c') ∧ OwnCells _ w' A' c' (withRecs p (Pg.putAt (leafP p).recs k r)).recs ∧ _) at HW
            clear hps hln hsm hr1 hr2 hgood
            generalize withRecs p (Pg.putAt (leafP p).recs k r) = y at HW HU ⊢
            generalize Pg.fullO y = o at HU ⊢
            generalize leafP p = x at HT HA HW
            go_enter Try.func35, Try.ntmps35
            go_wp2_with (first | (go_at_call 75; refine (HT.out _).mono ?_; rintro e w1 ⟨A, c, rfl, hcl, hb1⟩) | (go_at_call 76; refine (HA.out _ _ _ (hcl.cells.below ((Below.refl _ _).alloc (Nat.le_refl _) _))).mono ?_; rintro e w2 ⟨rfl, hb2⟩; obtain ⟨c0, c1, c2, c3, f0, f1, f2, f3⟩ := blk4 (blk_new hb2)) | (go_at_call 84; refine (HY.out _).mono ?_; rintro e w3 ⟨rfl, rfl⟩) | (go_at_call 86; refine (HW.out _ _ _ (hcl.cells.below (below_past hb2))).mono ?_; rintro e w4 ⟨A', c', rfl, ho4, hb4⟩) | (go_at_call 85; refine (HU.out _ _ _ ho4.cells).mono ?_; rintro e w5 ⟨rfl, hb5⟩))
            go_ret2
            exact ⟨rfl, andThen (andThen (andThen hb1 (below_past hb2)) hb4) hb5⟩
set_option maxRecDepth 100000 in
set_option maxHeartbeats 2000000 in
theorem pcut_any (p : ByteArray) (i : Int) (hm : p.size ≤ 140737488355328) (w : World) :
    Calls Try.prog 48 #[.string p, .int .i64 i] w fun e w' => e = .returned (outV (cutO p i)) ∧ Below w.heap.size w w' := by
  have HT := Lib.hid (fun W => take_leaf p hm W)
  have HA := Lib.hid (fun A c W hW => at_any (leafP p) A c i W hW)
  have hgood := leafP_good p
  unfold cutO
  cases hb : isPg p with
  | false =>
    rw [if_pos rfl]
    rw [hb] at HT
    generalize leafP p = x at HT
    clear hgood hb HA
    go_enter Try.func48, Try.ntmps48
    go_wp2_with (first | (go_at_call 75; refine (HT.out _).mono ?_; rintro e w1 ⟨A, c, rfl, hcl, hb1⟩))
    go_ret2
    exact ⟨rfl, below_past_alloc hb1⟩
  | true =>
    rw [hb] at HT
    rw [if_neg (by simp)]
    clear hb
    by_cases h2 : (Pg.slotAt (leafP p).recs i).size = 0
    · rw [if_pos h2]
      rw [empty_yes h2] at HA
      generalize leafP p = x at HT HA
      clear hgood h2
      go_enter Try.func48, Try.ntmps48
      go_wp2_with (first | (go_at_call 75; refine (HT.out _).mono ?_; rintro e w1 ⟨A, c, rfl, hcl, hb1⟩) | (go_at_call 76; refine (HA.out _ _ _ (hcl.cells.below ((Below.refl _ _).alloc (Nat.le_refl _) _))).mono ?_; rintro e w2 ⟨rfl, hb2⟩; obtain ⟨c0, c1, c2, c3, f0, f1, f2, f3⟩ := blk4 (blk_new hb2)))
      go_ret2
      exact ⟨rfl, andThen hb1 (below_past hb2)⟩
    · rw [if_neg h2]
      obtain ⟨hi0, hi1⟩ := Pg.slotAt_lt h2
      obtain ⟨hie, hne⟩ := empty_no h2
      clear h2
      obtain ⟨k, rfl⟩ := Int.eq_ofNat_of_zero_le hi0
      rw [show ((k : Int)).toNat = k from rfl]
      have hln := hgood.fine.len
      have hsm := hgood.fine.sum
      have hps := Pg.putAt_size (leafP p).recs k ⟨#[]⟩
      have hz : (⟨#[]⟩ : ByteArray).size = 0 := rfl
      have HW := Lib.hid (fun A c W hW => with_any (leafP p) A c k ⟨#[]⟩ (by omega) (by omega) W hW)
      have HU := Lib.hid (fun A c W hW => full_any (withRecs p (Pg.putAt (leafP p).recs k ⟨#[]⟩)) A c (withRecs_small p _) (by show Pg.sizeN (Pg.putAt _ _ _) ≤ _; omega) W hW)
      change Hid (∀ A c W, Cells W A c (leafP p).recs → Calls _ _ _ _ fun e w' => ∃ A' c', e = .returned (leafV (withRecs p (Pg.putAt (leafP p).recs k ⟨#[]⟩)) A' c') ∧ OwnCells _ w' A' c' (withRecs p (Pg.putAt (leafP p).recs k ⟨#[]⟩)).recs ∧ _) at HW
      clear hps hln hsm hgood hz hi1
      generalize withRecs p (Pg.putAt (leafP p).recs k ⟨#[]⟩) = y at HW HU ⊢
      generalize Pg.fullO y = o at HU ⊢
      generalize Pg.slotAt (leafP p).recs (k : Int) = q at HA hie hne
      generalize leafP p = x at HT HA HW
      go_enter Try.func48, Try.ntmps48
      go_wp2_with (first | (go_at_call 75; refine (HT.out _).mono ?_; rintro e w1 ⟨A, c, rfl, hcl, hb1⟩) | (go_at_call 76; refine (HA.out _ _ _ (hcl.cells.below ((Below.refl _ _).alloc (Nat.le_refl _) _))).mono ?_; rintro e w2 ⟨rfl, hb2⟩; obtain ⟨c0, c1, c2, c3, f0, f1, f2, f3⟩ := blk4 (blk_new hb2)) | (go_at_call 86; refine (HW.out _ _ _ (hcl.cells.below (below_past hb2))).mono ?_; rintro e w4 ⟨A', c', rfl, ho4, hb4⟩) | (go_at_call 85; refine (HU.out _ _ _ ho4.cells).mono ?_; rintro e w5 ⟨rfl, hb5⟩))
      go_ret2
      exact ⟨rfl, andThen (andThen (andThen hb1 (below_past hb2)) hb4) hb5⟩
set_option maxRecDepth 100000 in
set_option maxHeartbeats 2000000 in
theorem pset_any (p : ByteArray) (i : Int) (r : ByteArray) (hm : p.size ≤ 140737488355328) (w : World) :
    Calls Try.prog 44 #[.string p, .int .i64 i, .string r] w fun e w' => e = .returned (outV (setO p i r)) ∧ Below w.heap.size w w' := by
  have HT := Lib.hid (fun W => take_leaf p hm W)
  have HA := Lib.hid (fun A c W hW => at_any (leafP p) A c i W hW)
  have HY := Lib.hid (fun W => may_any r W)
  change Hid (∀ W, Calls _ _ _ _ fun e w' => e = .returned (.bool (mayB r)) ∧ _) at HY
  have hgood := leafP_good p
  unfold setO
  cases hb : isPg p with
  | false =>
    rw [if_pos rfl]
    rw [hb] at HT
    generalize leafP p = x at HT
    clear hgood hb HA HY
    go_enter Try.func44, Try.ntmps44
    go_wp2_with (first | (go_at_call 75; refine (HT.out _).mono ?_; rintro e w1 ⟨A, c, rfl, hcl, hb1⟩))
    go_ret2
    exact ⟨rfl, below_past_alloc hb1⟩
  | true =>
    rw [hb] at HT
    rw [if_neg (by simp)]
    clear hb
    cases hy : mayB r with
    | false =>
      rw [if_pos rfl]
      rw [hy] at HY
      generalize leafP p = x at HT
      clear hgood hy HA
      go_enter Try.func44, Try.ntmps44
      go_wp2_with (first | (go_at_call 75; refine (HT.out _).mono ?_; rintro e w1 ⟨A, c, rfl, hcl, hb1⟩) | (go_at_call 84; refine (HY.out _).mono ?_; rintro e w3 ⟨rfl, rfl⟩))
      go_ret2
      exact ⟨rfl, below_past_alloc hb1⟩
    | true =>
      rw [if_neg (by simp)]
      rw [hy] at HY
      obtain ⟨hr1, hr2⟩ := mayB_yes hy
      clear hy
      by_cases h2 : (Pg.slotAt (leafP p).recs i).size = 0
      · rw [if_pos h2]
        rw [empty_yes h2] at HA
        generalize leafP p = x at HT HA
        clear hgood h2
        go_enter Try.func44, Try.ntmps44
        go_wp2_with (first | (go_at_call 75; refine (HT.out _).mono ?_; rintro e w1 ⟨A, c, rfl, hcl, hb1⟩) | (go_at_call 84; refine (HY.out _).mono ?_; rintro e w3 ⟨rfl, rfl⟩) | (go_at_call 76; refine (HA.out _ _ _ (hcl.cells.below ((Below.refl _ _).alloc (Nat.le_refl _) _))).mono ?_; rintro e w2 ⟨rfl, hb2⟩; obtain ⟨c0, c1, c2, c3, f0, f1, f2, f3⟩ := blk4 (blk_new hb2)))
        go_ret2
        exact ⟨rfl, andThen hb1 (below_past hb2)⟩
      · rw [if_neg h2]
        obtain ⟨hi0, hi1⟩ := Pg.slotAt_lt h2
        obtain ⟨hie, hne⟩ := empty_no h2
        clear h2
        obtain ⟨k, rfl⟩ := Int.eq_ofNat_of_zero_le hi0
        rw [show ((k : Int)).toNat = k from rfl]
        have hln := hgood.fine.len
        have hsm := hgood.fine.sum
        have hps := Pg.putAt_size (leafP p).recs k r
        have HW := Lib.hid (fun A c W hW => with_any (leafP p) A c k r (by omega) (by omega) W hW)
        have HU := Lib.hid (fun A c W hW => full_any (withRecs p (Pg.putAt (leafP p).recs k r)) A c (withRecs_small p _) (by show Pg.sizeN (Pg.putAt _ _ _) ≤ _; omega) W hW)
        change Hid (∀ A c W, Cells W A c (leafP p).recs → Calls _ _ _ _ fun e w' => ∃ A' c', e = .returned (leafV (withRecs p (Pg.putAt (leafP p).recs k r)) A' c') ∧ OwnCells _ w' A' c' (withRecs p (Pg.putAt (leafP p).recs k r)).recs ∧ _) at HW
        clear hps hln hsm hr1 hr2 hgood hi1
        generalize withRecs p (Pg.putAt (leafP p).recs k r) = y at HW HU ⊢
        generalize Pg.fullO y = o at HU ⊢
        generalize Pg.slotAt (leafP p).recs (k : Int) = q at HA hie hne
        generalize leafP p = x at HT HA HW
        go_enter Try.func44, Try.ntmps44
        go_wp2_with (first | (go_at_call 75; refine (HT.out _).mono ?_; rintro e w1 ⟨A, c, rfl, hcl, hb1⟩) | (go_at_call 84; refine (HY.out _).mono ?_; rintro e w3 ⟨rfl, rfl⟩) | (go_at_call 76; refine (HA.out _ _ _ (hcl.cells.below ((Below.refl _ _).alloc (Nat.le_refl _) _))).mono ?_; rintro e w2 ⟨rfl, hb2⟩; obtain ⟨c0, c1, c2, c3, f0, f1, f2, f3⟩ := blk4 (blk_new hb2)) | (go_at_call 86; refine (HW.out _ _ _ (hcl.cells.below (below_past hb2))).mono ?_; rintro e w4 ⟨A', c', rfl, ho4, hb4⟩) | (go_at_call 85; refine (HU.out _ _ _ ho4.cells).mono ?_; rintro e w5 ⟨rfl, hb5⟩))
        go_ret2
        exact ⟨rfl, andThen (andThen (andThen hb1 (below_past hb2)) hb4) hb5⟩
end Go.Proofs.Ytgbihdlahghonaa
