/- The walks over package page and its reference: a page taken apart. -/
import Derived.Test.YtkndifannjpbcaaGreatDoorGs03
import Derived.Deep.AppendLies
import Derived.Laws.ResultCell
import Derived.Laws.Tables
import Derived.Test.YtkndifannjpbcaaGreatDoorGs01
import Derived.BigQuiet
import Derived.BigRegion
namespace Go.Proofs.YtkndifannjpbcaaGreatDoor
open Go.RowKit

theorem intOf_small (u : Nat) (h : u < 281474976710656) : Oct.intOf u = (u : Int) := by
  unfold Oct.intOf; rw [if_pos (by omega)]
theorem getN_lt (s : List UInt8) (a k : Nat) (h : k ≤ 6) : Oct.getN s a k < 281474976710656 := by
  have h1 := Oct.getL_lt ((s.drop a).take k)
  have h2 : 256 ^ ((s.drop a).take k).length ≤ 256 ^ 6 := Nat.pow_le_pow_right (by omega) (by rw [List.length_take]; omega)
  unfold Oct.getN; omega

theorem num_any (s : ByteArray) (a size : Int) (h0 : 0 ≤ a) (h1 : 1 ≤ size) (h6 : size ≤ 6) (hin : a + size ≤ s.size) (hm : s.size ≤ 1048576) (w : World) :
    Calls Tryz.prog 70 #[.string s, .int .i64 a, .int .i64 size] w fun e w' => e = .returned (.int .i64 (Oct.getN s.data.toList a.toNat size.toNat)) ∧ Below w.heap.size w w' := by
  obtain ⟨a, rfl⟩ := Int.eq_ofNat_of_zero_le h0
  obtain ⟨k, rfl⟩ := Int.eq_ofNat_of_zero_le (show 0 ≤ size by omega)
  have HC := Lib.hid (fun W => get_yes s a k (by omega) (by omega) (by omega) (by omega) W)
  rw [intOf_small _ (getN_lt _ _ _ (by omega))] at HC
  go_enter Tryz.func70, Tryz.ntmps70
  go_wp2_with (go_at_call 83; refine (HC.out _).mono ?_; rintro e w' ⟨rfl, hb⟩)
  go_ret
  exact ⟨rfl, hb⟩
theorem rnum_any (s : ByteArray) (a size : Int) (h0 : 0 ≤ a) (h1 : 1 ≤ size) (h6 : size ≤ 6) (hin : a + size ≤ s.size) (hm : s.size ≤ 1048576) (w : World) :
    Calls Tryz.prog 64 #[.string s, .int .i64 a, .int .i64 size] w fun e w' => e = .returned (.int .i64 (Oct.getN s.data.toList a.toNat size.toNat)) ∧ w = w' := by
  obtain ⟨a, rfl⟩ := Int.eq_ofNat_of_zero_le h0
  obtain ⟨k, rfl⟩ := Int.eq_ofNat_of_zero_le (show 0 ≤ size by omega)
  have HC := Lib.hid (fun W => rget_yes s a k (by omega) (by omega) (by omega) (by omega) W)
  rw [intOf_small _ (getN_lt _ _ _ (by omega))] at HC
  go_enter Tryz.func64, Tryz.ntmps64
  go_wp2_with (go_at_call 77; refine (HC.out _).mono ?_; rintro e w' ⟨rfl, rfl⟩)
  go_ret
  exact ⟨rfl, rfl⟩

theorem blk4 {w : World} {b : Nat} {T : TypeId} {v0 v1 v2 v3 : Value} (h : w.heap[b]? = some (.cells #[v0, v1, v2, v3] T (0, 0))) :
    w.cell? ⟨b, 0, none⟩ = some v0 ∧ w.cell? ⟨b, 1, none⟩ = some v1 ∧ w.cell? ⟨b, 2, none⟩ = some v2 ∧ w.cell? ⟨b, 3, none⟩ = some v3 ∧
    w.frozen? ⟨b, 0, none⟩ = false ∧ w.frozen? ⟨b, 1, none⟩ = false ∧ w.frozen? ⟨b, 2, none⟩ = false ∧ w.frozen? ⟨b, 3, none⟩ = false := by
  refine ⟨by rw [cell_of_blk h]; rfl, by rw [cell_of_blk h]; rfl, by rw [cell_of_blk h]; rfl, by rw [cell_of_blk h]; rfl, ?_, ?_, ?_, ?_⟩ <;> simp [World.frozen?, h]
theorem blk_new {w w' : World} {o : Obj} (hb : Below (w.alloc o).heap.size (w.alloc o) w') : w'.heap[w.heap.size]? = some o :=
  (hb.block _ (by simp)).trans (heap_alloc_new w _)
theorem blk_old {w w' : World} {b : Nat} {o : Obj} (h : w.heap[b]? = some o) (hb : Below w.heap.size w w') : w'.heap[b]? = some o := by
  have hlt : b < w.heap.size := by
    rcases Nat.lt_or_ge b w.heap.size with h' | h'
    · exact h'
    · rw [Array.getElem?_eq_none h'] at h; cases h
  rw [hb.block b hlt]; exact h
theorem blk_past {w w' : World} {b : Nat} {o o2 : Obj} (h : w.heap[b]? = some o) (hb : Below (w.alloc o2).heap.size (w.alloc o2) w') : w'.heap[b]? = some o := by
  have hlt : b < w.heap.size := by
    rcases Nat.lt_or_ge b w.heap.size with h' | h'
    · exact h'
    · rw [Array.getElem?_eq_none h'] at h; cases h
  rw [hb.block b (by simp; omega), Below.heap_alloc w o2 b hlt]; exact h
theorem below_past {w w' : World} {o : Obj} (hb : Below (w.alloc o).heap.size (w.alloc o) w') : Below w.heap.size w w' :=
  ((Below.refl _ _).alloc (Nat.le_refl _) _).trans (hb.mono (by simp))

theorem info_string : (Tryz.prog.info? 9).map (fun i => (i.zero, i.size, i.bytes)) = some (some (.string ⟨#[]⟩), 1, 16) := by kernel_rfl

theorem ownsRow_below {w w' : World} {B : Nat} {e : TypeId} {size n : Nat} {v : Value} {xs : List Value} (h : w.ownsRow B e size v n xs) (hb : Below w.heap.size w w') : w'.ownsRow B e size v n xs := by
  refine ⟨h.1, ?_⟩
  rcases h.2 with hz | ⟨g, cap, cur, hv, hg, hh, r⟩
  · exact .inl hz
  · exact .inr ⟨g, cap, cur, hv, hg, blk_old hh hb, r⟩
theorem blk_set {w : World} {b : Nat} (i : Nat) {cs : Array Value} {T : TypeId} {fr : Nat × Nat} (h : w.heap[b]? = some (.cells cs T fr)) (v : Value) : (w.setCell ⟨b, i, none⟩ v).heap[b]? = some (.cells (cs.setIfInBounds i v) T fr) := by
  rw [setCell_eq_setRow w b i cs T fr v h]
  exact setRow_heap w b _ _ T _ h
theorem ownsRow_set {w : World} {B : Nat} {e : TypeId} {size n : Nat} {v : Value} {xs : List Value} (h : w.ownsRow B e size v n xs) (a : Addr) (u : Value) (ha : a.block < B) : (w.setCell a u).ownsRow B e size v n xs := by
  refine ⟨h.1, ?_⟩
  rcases h.2 with hz | ⟨g, cap, cur, hv, hg, hh, r⟩
  · exact .inl hz
  · exact .inr ⟨g, cap, cur, hv, hg, by rw [Below.heap_setCell _ _ _ _ (by omega)]; exact hh, r⟩
theorem own_alloc_drew {w : World} {B : Nat} {e : TypeId} {size n : Nat} {v : Value} {xs : List Value} (h : w.ownsRow B e size v n xs) (o : Obj) : (w.alloc o).drew.ownsRow B e size v n xs :=
  ownsRow_below h (((Below.refl _ _).alloc (Nat.le_refl _) o).drew)

theorem extract_eq (p : ByteArray) (a l : Nat) : p.extract a (a + l) = ⟨((p.data.toList.drop a).take l).toArray⟩ := by
  apply ByteArray.ext
  apply Array.ext'
  simp

/-- A slice of texts whose block is at B or past it. -/
def OwnCells (B : Nat) (w : World) (A : Option Addr) (c : Nat) (rs : List ByteArray) : Prop :=
  0 < rs.length → ∃ b, A = some ⟨b, 0, none⟩ ∧ B ≤ b ∧ rs.length ≤ c ∧ b < w.heap.size ∧ ∀ j (hj : j < rs.length), w.cell? ⟨b, j, none⟩ = some (.string rs[j])
theorem OwnCells.cells {B : Nat} {w : World} {A : Option Addr} {c : Nat} {rs : List ByteArray} (h : OwnCells B w A c rs) : Cells w A c rs := fun h0 => by
  obtain ⟨b, hA, hB, hc, hlt, hcell⟩ := h h0
  exact ⟨b, 0, hA, hc, hlt, fun j hj => by rw [Nat.zero_add]; exact hcell j hj⟩
theorem OwnCells.set {B : Nat} {w : World} {A : Option Addr} {c : Nat} {rs : List ByteArray} (h : OwnCells B w A c rs) (a : Addr) (ha : a.block < B) (u : Value) : OwnCells B (w.setCell a u) A c rs := fun h0 => by
  obtain ⟨b, hA, hB, hc, hlt, hcell⟩ := h h0
  refine ⟨b, hA, hB, hc, by simpa using hlt, fun j hj => ?_⟩
  rw [← hcell j hj]
  exact World.cell?_of_block (Below.heap_setCell _ _ _ _ (by simp; omega))
theorem OwnCells.mono {B B' : Nat} {w : World} {A : Option Addr} {c : Nat} {rs : List ByteArray} (h : OwnCells B w A c rs) (hB : B' ≤ B) : OwnCells B' w A c rs := fun h0 => by
  obtain ⟨b, hA, h1, h2⟩ := h h0
  exact ⟨b, hA, by omega, h2⟩
theorem OwnCells.below {B : Nat} {w w' : World} {A : Option Addr} {c : Nat} {rs : List ByteArray} (h : OwnCells B w A c rs) (hb : Below w.heap.size w w') : OwnCells B w' A c rs := fun h0 => by
  obtain ⟨b, hA, h1, h2, h3, h4⟩ := h h0
  refine ⟨b, hA, h1, h2, Nat.lt_of_lt_of_le h3 hb.size, fun j hj => ?_⟩
  rw [hb.cell (p := ⟨b, j, none⟩) h3]; exact h4 j hj
theorem own_cells {w : World} {B : Nat} {e : TypeId} {A : Option Addr} {k c : Nat} {rs : List ByteArray} (h : w.ownsRow B e 1 (.slice A k c) k (rs.map Value.string)) (hl : rs.length = k) : OwnCells B w A c rs := fun h0 => by
  rcases h.2 with ⟨h9, -⟩ | ⟨g, cap, cur, hv, hg, hh, h1, h2, h3, h4⟩
  · simp at h9; omega
  · have hv2 : A = some ⟨g, 0, none⟩ ∧ c = cap := by simpa using hv
    obtain ⟨rfl, rfl⟩ := hv2
    refine ⟨g, rfl, hg, by omega, (Array.getElem?_eq_some_iff.1 hh).1, fun j hj => ?_⟩
    have h5 : cur.toList[j]? = some (.string rs[j]) := by
      have h6 : (rs.map Value.string)[j]? = some (.string rs[j]) := by simp [hj]
      rw [← h4, List.getElem?_take_of_lt (by omega)] at h6
      exact h6
    rw [cell_of_blk hh]
    simpa using h5

/-- The struct of a page's parts. -/
abbrev leafV (x : Pg.Leaf) (A : Option Addr) (c : Nat) : Value := .agg #[.int .i64 x.lsn, .int .i64 x.kind, .int .i64 x.link, .slice A x.recs.length c]
abbrev zeroV : Value := .agg #[.int .i64 0, .int .i64 0, .int .i64 0, .slice none 0 0]
/-- What comes back where a page is taken apart: the parts and true, or zero and false. -/
def Gives1 (r : Option Pg.Leaf) (w : World) (e : Ending) (w' : World) : Prop :=
  (match r with
    | some x => ∃ A c, e = .returned (.tuple #[leafV x A c, .bool true]) ∧ OwnCells w.heap.size w' A c x.recs
    | none => e = .returned (.tuple #[zeroV, .bool false])) ∧ Below w.heap.size w w'

set_option maxRecDepth 100000 in
set_option maxHeartbeats 2000000 in
theorem read_any (p : ByteArray) (_hm : p.size ≤ 140737488355328) (w : World) :
    Calls Tryz.prog 47 #[.string p] w (Gives1 (Pg.rd p.data.toList) w) := by
  by_cases h512 : p.size = 512
  · have HL := Lib.hid (show p.data.toList.length = 512 by have h9 : p.data.toList.length = p.size := (by simp); omega)
    obtain ⟨lsn, hlsn⟩ : ∃ n, n = Oct.getN p.data.toList 4 6 := ⟨_, rfl⟩
    obtain ⟨kind, hkind⟩ : ∃ n, n = Oct.getN p.data.toList 10 1 := ⟨_, rfl⟩
    obtain ⟨link, hlink⟩ : ∃ n, n = Oct.getN p.data.toList 12 3 := ⟨_, rfl⟩
    obtain ⟨n, hn⟩ : ∃ n, n = Oct.getN p.data.toList 15 2 := ⟨_, rfl⟩
    have HN1 := Lib.hid (fun W => num_any p 4 6 (by omega) (by omega) (by omega) (by omega) (by omega) W)
    have HN2 := Lib.hid (fun W => num_any p 10 1 (by omega) (by omega) (by omega) (by omega) (by omega) W)
    have HN3 := Lib.hid (fun W => num_any p 12 3 (by omega) (by omega) (by omega) (by omega) (by omega) W)
    have HN4 := Lib.hid (fun W => num_any p 15 2 (by omega) (by omega) (by omega) (by omega) (by omega) W)
    rw [show ((4 : Int).toNat) = 4 from rfl, show ((6 : Int).toNat) = 6 from rfl, ← hlsn] at HN1
    rw [show ((10 : Int).toNat) = 10 from rfl, show ((1 : Int).toNat) = 1 from rfl, ← hkind] at HN2
    rw [show ((12 : Int).toNat) = 12 from rfl, show ((3 : Int).toNat) = 3 from rfl, ← hlink] at HN3
    rw [show ((15 : Int).toNat) = 15 from rfl, show ((2 : Int).toNat) = 2 from rfl, ← hn] at HN4
    have HQ1 := Lib.hid hlsn
    have HQ2 := Lib.hid hkind
    have HQ3 := Lib.hid hlink
    have HQ4 := Lib.hid hn
    clear hlsn hkind hlink hn
    by_cases hbad : 4 < kind ∨ 123 < n
    · have HR := Lib.hid (show Pg.rd p.data.toList = none by rw [Pg.rd, if_pos (by rw [← HQ2.out, ← HQ4.out]; exact .inr hbad)])
      have hb1 : 4 < kind ∨ (kind ≤ 4 ∧ 123 < n) := by omega
      clear hbad
      rcases hb1 with h1 | ⟨h1, h2⟩
      all_goals
        go_enter Tryz.func47, Tryz.ntmps47
        go_wp2_with (first | (go_at_call 70; (with_reducible refine (HN1.out _).mono ?_); rintro e w1 ⟨rfl, hb1⟩) | (go_at_call 70; (with_reducible refine (HN2.out _).mono ?_); rintro e w2 ⟨rfl, hb2⟩) | (go_at_call 70; (with_reducible refine (HN3.out _).mono ?_); rintro e w3 ⟨rfl, hb3⟩) | (go_at_call 70; (with_reducible refine (HN4.out _).mono ?_); rintro e w4 ⟨rfl, hb4⟩; obtain ⟨a0, a1, a2, a3, -⟩ := blk4 (blk_new hb4); obtain ⟨c0, c1, c2, c3, f0, f1, f2, f3⟩ := blk4 (blk_past (blk_old (blk_old (blk_new hb1) hb2) hb3) hb4)))
        refine bodyPost_ret (v := .tuple #[zeroV, .bool false]) (by simp [results, Tryz.results47, go_sem, c0, c1, c2, c3]) rfl ?_
        unfold Gives1
        rw [HR.out]
        have hbw : Below w.heap.size w w4 := andThen (andThen (andThen (below_past hb1) hb2) hb3) (below_past hb4)
        refine ⟨rfl, ?_⟩
        repeat (first | exact hbw | refine Below.setCell ?_ (by simp) _)
    · obtain ⟨hk4, hn123⟩ : kind ≤ 4 ∧ n ≤ 123 := by omega
      have HRD := Lib.hid (show Pg.rd p.data.toList = (Pg.recsOf p.data.toList n).map fun rs => ⟨lsn, kind, link, rs⟩ by
        rw [Pg.rd, if_neg (by rw [← HQ2.out, ← HQ4.out]; have := HL.out; omega), ← HQ1.out, ← HQ2.out, ← HQ3.out, ← HQ4.out])
      clear hbad
      go_enter Tryz.func47, Tryz.ntmps47
      go_upto_block 0 with (first | (go_at_call 70; (with_reducible refine (HN1.out _).mono ?_); rintro e w1 ⟨rfl, hb1⟩) | (go_at_call 70; (with_reducible refine (HN2.out _).mono ?_); rintro e w2 ⟨rfl, hb2⟩) | (go_at_call 70; (with_reducible refine (HN3.out _).mono ?_); rintro e w3 ⟨rfl, hb3⟩) | (go_at_call 70; (with_reducible refine (HN4.out _).mono ?_); rintro e w4 ⟨rfl, hb4⟩; obtain ⟨a0, a1, a2, a3, -⟩ := blk4 (blk_new hb4)))
      have hX := blk_new hb4
      have hZ := blk_past (blk_old (blk_old (blk_new hb1) hb2) hb3) hb4
      have hbw : Below w.heap.size w w4 := andThen (andThen (andThen (below_past hb1) hb2) hb3) (below_past hb4)
      have hlt : w.heap.size < w3.heap.size := by
        have := hb1.size; have := hb2.size; have := hb3.size; simp at *; omega
      have hlt4 : w3.heap.size < w4.heap.size := by have := hb4.size; simp at this; omega
      clear hb1 hb2 hb3 hb4 a0 a1 a2 a3
      generalize w3.heap.size = X at hX hlt hlt4 ⊢
      have HX := Lib.hid hX
      have HZ := Lib.hid hZ
      have HW := Lib.hid hbw
      clear hX hZ hbw
      go_wp2_with fail
      go_loopw [31] (fun i wr => ∃ (k : Nat) (rs : List ByteArray) (A : Option Addr) (c : Nat), k ≤ n ∧ i = .int .i64 k ∧ Pg.recsOf p.data.toList k = some rs ∧ wr.heap[X]? = some (.cells #[.int .i64 lsn, .int .i64 kind, .int .i64 link, .slice A k c] 38 (0, 0)) ∧ wr.heap[w.heap.size]? = some (.cells #[.int .i64 0, .int .i64 0, .int .i64 0, .slice none 0 0] 38 (0, 0)) ∧ wr.ownsRow w4.heap.size 9 1 (.slice A k c) k (rs.map Value.string) ∧ Below w.heap.size w wr ∧ w4.heap.size ≤ wr.heap.size) (fun i _ => n - (intOf i).toNat)
      case atStart => exact ⟨0, [], none, 0, Nat.zero_le _, rfl, rfl, HX.out, HZ.out, ⟨rfl, .inl ⟨rfl, rfl⟩⟩, HW.out, Nat.le_refl _⟩
      case round =>
        obtain ⟨k, rs, A, c, hk, rfl, hrs, hX, hZ, hown, hbw, hge⟩ := hrel
        have hrl := Pg.recsOf_length _ _ _ hrs
        have HRS := Lib.hid hrs
        have HX2 := Lib.hid hX
        have HZ2 := Lib.hid hZ
        have HO := Lib.hid hown
        have HW2 := Lib.hid hbw
        have HRL := Lib.hid hrl
        clear hrs hX hZ hown hbw hrl
        by_cases hkn : k < n
        · obtain ⟨at_, hat⟩ : ∃ a, a = Oct.getN p.data.toList (19 + 4 * k) 2 := ⟨_, rfl⟩
          obtain ⟨long, hlong⟩ : ∃ a, a = Oct.getN p.data.toList (21 + 4 * k) 2 := ⟨_, rfl⟩
          have hal : at_ < 65536 := by
            have h1 := Oct.getL_lt ((p.data.toList.drop (19 + 4 * k)).take 2)
            have h2 : 256 ^ ((p.data.toList.drop (19 + 4 * k)).take 2).length ≤ 256 ^ 2 := Nat.pow_le_pow_right (by omega) (by rw [List.length_take]; omega)
            rw [hat]; unfold Oct.getN; omega
          have hll : long < 65536 := by
            have h1 := Oct.getL_lt ((p.data.toList.drop (21 + 4 * k)).take 2)
            have h2 : 256 ^ ((p.data.toList.drop (21 + 4 * k)).take 2).length ≤ 256 ^ 2 := Nat.pow_le_pow_right (by omega) (by rw [List.length_take]; omega)
            rw [hlong]; unfold Oct.getN; omega
          have HA := Lib.hid (fun W => num_any p (19 + 4 * (k : Int)) 2 (by omega) (by omega) (by omega) (by omega) (by omega) W)
          have HB := Lib.hid (fun W => num_any p (19 + 4 * (k : Int) + 2) 2 (by omega) (by omega) (by omega) (by omega) (by omega) W)
          rw [show (19 + 4 * (k : Int)).toNat = 19 + 4 * k by omega, show ((2 : Int).toNat) = 2 from rfl, ← hat] at HA
          rw [show (19 + 4 * (k : Int) + 2).toNat = 21 + 4 * k by omega, show ((2 : Int).toNat) = 2 from rfl, ← hlong] at HB
          have HAT := Lib.hid hat
          have HLO := Lib.hid hlong
          clear hat hlong
          by_cases hbad : 400 < long ∨ 512 < at_ + long
          · have HN := Lib.hid (show Pg.rd p.data.toList = none by
              have h1 : Pg.recsOf p.data.toList (k + 1) = none := by
                simp only [Pg.recsOf, HRS.out]
                rw [if_pos (by rw [← HAT.out, ← HLO.out]; exact hbad)]
              have h2 := Pg.recsOf_none _ h1 (n - (k + 1))
              rw [show k + 1 + (n - (k + 1)) = n by omega] at h2
              rw [HRD.out, h2]; rfl)
            have hb1 : 400 < long ∨ (long ≤ 400 ∧ (512 : Int) - (long : Int) < (at_ : Int)) := by omega
            clear hbad
            rcases hb1 with h1 | ⟨h1, h2⟩
            all_goals
              go_wp2_with (first | (go_at_call 70; (with_reducible refine (HA.out _).mono ?_); rintro e w5 ⟨rfl, hb5⟩) | (go_at_call 70; (with_reducible refine (HB.out _).mono ?_); rintro e w6 ⟨rfl, hb6⟩; obtain ⟨c0, c1, c2, c3, f0, f1, f2, f3⟩ := blk4 (blk_old (blk_old HZ2.out hb5) hb6)))
              refine bodyPost_ret (v := .tuple #[zeroV, .bool false]) (by simp [results, Tryz.results47, go_sem, c0, c1, c2, c3]) rfl ?_
              unfold Gives1
              rw [HN.out]
              have hbw6 : Below w.heap.size w w6 := andThen (andThen HW2.out hb5) hb6
              refine ⟨rfl, ?_⟩
              repeat (first | exact hbw6 | refine Below.setCell ?_ (by simp) _)
          · obtain ⟨hl4, hal5⟩ : long ≤ 400 ∧ at_ + long ≤ 512 := by omega
            clear hbad
            go_upto_region 13 with (first | (go_at_call 70; (with_reducible refine (HA.out _).mono ?_); rintro e w5 ⟨rfl, hb5⟩) | (go_at_call 70; (with_reducible refine (HB.out _).mono ?_); rintro e w6 ⟨rfl, hb6⟩))
            obtain ⟨i0, hi0, hz0, hz1, hz2⟩ := info_parts info_string
            have hb56 : Below wr.heap.size wr w6 := andThen hb5 hb6
            have hX6 := blk_old HX2.out hb56
            have hZ6 := blk_old HZ2.out hb56
            have hown6 : w6.ownsRow w4.heap.size 9 1 (.slice A k c) k (rs.map Value.string) := ownsRow_below HO.out hb56
            have hW6 : Below w.heap.size w w6 := andThen HW2.out hb56
            have hs6 := hb56.size
            obtain ⟨x0, x1, x2, x3, g0, g1, g2, g3⟩ := blk4 hX6
            have hp1 : (0 : Int) ≤ (at_ : Int) := by omega
            have hp2 : (at_ : Int) ≤ (at_ : Int) + (long : Int) := by omega
            have hp3 : (at_ : Int) + (long : Int) ≤ 512 := by omega
            have hp4 : IntKind.i64.wrap ((at_ : Int) + (long : Int)) = (at_ : Int) + (long : Int) := IntWalk.i64_in _ (by omega)
            have hp5 : ((at_ : Int) + (long : Int)).toNat = at_ + long := by omega
            have hp6 : 0 ≤ (at_ : Int) + (long : Int) := by omega
            have hp7 : at_ ≤ at_ + long := by omega
            have hp8 : at_ + long ≤ p.size := by omega
            clear hb5 hb6 hb56
            have HF := Lib.hid (show ∀ w7 : World, ((w6.alloc (.cells #[.string (p.extract at_ (at_ + long))] 9)).drew).grownBy w7 (Value.slice A k c).ownBlock → ∀ (b : Nat) (o : Obj), b < w4.heap.size → w6.heap[b]? = some o → w7.heap[b]? = some o by
              intro w7 hg b o hb ho
              rw [hg.block b (by simp; omega) (fun e9 => absurd (hown6.lt b e9.symm).1 (by omega))]
              exact (Below.heap_alloc w6 _ b (by omega)).trans ho)
            obtain ⟨-, -, -, z3, -⟩ := blk4 ((Below.heap_alloc w6 (.cells #[.string (p.extract at_ (at_ + long))] 9) X (by omega)).trans hX6)
            go_region_law? (refine step_append_lies _ (by rfl) _ _ _ (by rfl) w4.heap.size 9 i0 (.string ⟨#[]⟩) 1 16 Tryz.underlying36 hi0 hz0 hz1 hz2 rfl (by omega) (.slice A k c) k (rs.map Value.string) (by rfl) (own_alloc_drew hown6 _) ⟨w6.heap.size, 0, none⟩ 1 1 [.string (p.extract at_ (at_ + long))] (by rfl) (by rfl) (World.news_of_block (cs := #[.string (p.extract at_ (at_ + long))]) (t := 9) (fr := (0, 0)) (heap_alloc_new w6 _)) (by simp [Value.oneCell']) (by omega) (by simp [maxLen]; omega) (by omega) (by simp; omega) (w6.heap.size + 1) (by simp) ?_; intro gg cap w7 hown7 hgrow hat7 hlt7; obtain ⟨y0, y1, y2, y3, k0, k1, k2, k3⟩ := blk4 (HF.out w7 hgrow X _ hlt4 hX6))
            all_goals
              have hX7 := HF.out w7 hgrow X _ hlt4 hX6
              have hZ7 := HF.out w7 hgrow w.heap.size _ (by omega) hZ6
              have hb7 : Below w.heap.size w w7 := ((hW6.alloc (by omega) _).drew).grown hgrow (by simp; omega) (fun k9 e9 => by have := (hown6.lt k9 e9).1; omega)
              have hs7 : w6.heap.size + 1 ≤ w7.heap.size := by have := hgrow.size; simp at this; omega
              go_wp2_with fail
              go_roundw
              case rel =>
                refine ⟨k + 1, rs ++ [p.extract at_ (at_ + long)], some ⟨gg, 0, none⟩, cap, by omega, by go_num, ?_, ?_, ?_, ?_, ?_, ?_⟩
                · simp only [Pg.recsOf, HRS.out]
                  rw [if_neg (by rw [← HAT.out, ← HLO.out]; omega), ← HAT.out, ← HLO.out]
                  rw [extract_eq]
                · have := blk_set 3 hX7 (.slice (some ⟨gg, 0, none⟩) (k + 1) cap)
                  simpa using this
                · rw [Below.heap_setCell _ _ _ _ (by simp; omega)]; exact hZ7
                · have := ownsRow_set hown7 ⟨X, 3, none⟩ (.slice (some ⟨gg, 0, none⟩) (k + 1) cap) hlt4
                  simpa using this
                · exact hb7.setCell (by simp; omega) _
                · simp; omega
              case measure => simp [intOf]; omega
        · obtain rfl : k = n := by omega
          have hX := HX2.out
          obtain ⟨x0, x1, x2, x3, -⟩ := blk4 HX2.out
          obtain ⟨c0, c1, c2, c3, f0, f1, f2, f3⟩ := blk4 HZ2.out
          have hne : X ≠ w.heap.size := by omega
          go_wp2_with fail
          refine bodyPost_ret (v := .tuple #[leafV ⟨lsn, kind, link, rs⟩ A c, .bool true]) (by simp [results, Tryz.results47, go_sem, c0, c1, c2, c3]; exact HRL.out.symm) rfl ?_
          unfold Gives1
          rw [HRD.out, HRS.out]
          have hlen := HRL.out
          have hcl := own_cells HO.out hlen
          refine ⟨⟨A, c, by simp [leafV, hlen], ?_⟩, ?_⟩
          · refine OwnCells.mono (B := w4.heap.size) ?_ (by omega)
            repeat (first | exact hcl | refine OwnCells.set ?_ _ (by simp; omega) _)
          · repeat (first | exact HW2.out | refine Below.setCell ?_ (by simp) _)
  · have hne : ((p.size : Int) == 512) = false := by simp; omega
    have HR := Lib.hid (show Pg.rd p.data.toList = none by
      rw [Pg.rd, if_pos (.inl (by have h9 : p.data.toList.length = p.size := (by simp); omega))])
    clear h512
    go_enter Tryz.func47, Tryz.ntmps47
    go_wp2_with fail
    refine bodyPost_ret (v := .tuple #[zeroV, .bool false]) (by simp [results, Tryz.results47, go_sem]) rfl ?_
    unfold Gives1
    rw [HR.out]
    exact ⟨rfl, (Below.refl _ _).alloc (Nat.le_refl _) _⟩
end Go.Proofs.YtkndifannjpbcaaGreatDoor
/- The walks over package page and its reference: a page's parts, if it is one. -/
namespace Go.Proofs.YtkndifannjpbcaaGreatDoor
open Go.RowKit

/-- A box with a page's parts, while only new blocks are made. -/
abbrev Held (X : Nat) (x : Pg.Leaf) (A : Option Addr) (c : Nat) (w0 u : World) : Prop :=
  u.cell? ⟨X, 0, none⟩ = some (.int .i64 x.lsn) ∧ u.cell? ⟨X, 1, none⟩ = some (.int .i64 x.kind) ∧ u.cell? ⟨X, 2, none⟩ = some (.int .i64 x.link) ∧ u.cell? ⟨X, 3, none⟩ = some (.slice A x.recs.length c) ∧ Cells u A c x.recs ∧ X < u.heap.size ∧ Below w0.heap.size w0 u
theorem Held.step {X : Nat} {x : Pg.Leaf} {A : Option Addr} {c : Nat} {w0 u v : World} (h : Held X x A c w0 u) (hb : Below u.heap.size u v) : Held X x A c w0 v := by
  obtain ⟨c0, c1, c2, c3, h4, h5, h6⟩ := h
  have := hb.size
  refine ⟨?_, ?_, ?_, ?_, h4.below hb, by omega, andThen h6 hb⟩
  · rw [hb.cell (p := ⟨X, 0, none⟩) h5]; exact c0
  · rw [hb.cell (p := ⟨X, 1, none⟩) h5]; exact c1
  · rw [hb.cell (p := ⟨X, 2, none⟩) h5]; exact c2
  · rw [hb.cell (p := ⟨X, 3, none⟩) h5]; exact c3
theorem Held.drew {X : Nat} {x : Pg.Leaf} {A : Option Addr} {c : Nat} {w0 u : World} (h : Held X x A c w0 u) : Held X x A c w0 u.drew := h.step (Below.refl _ _).drew
theorem below_drewN (w : World) (n : Nat) : Below w.heap.size w (w.drewN n) := ⟨rfl, rfl, rfl, Nat.le_refl _, fun _ _ => rfl⟩
theorem put_keeps (n size : Int) (h0 : 0 ≤ size) (h8 : size ≤ 8) (X : Nat) (x : Pg.Leaf) (A : Option Addr) (c : Nat) (w0 u : World) (h : Held X x A c w0 u) :
    Calls Tryz.prog 44 #[.int .i64 n, .int .i64 size] u fun e w' => e = .returned (.string (Oct.putB n size)) ∧ Held X x A c w0 w' :=
  (put_any n size h0 h8 u).mono fun _ _ ⟨h1, h2⟩ => ⟨h1, h.step h2⟩
theorem made_keeps (x : Pg.Leaf) (A : Option Addr) (c : Nat) (hf : Pg.Fine x) (X : Nat) (w0 u : World) (h : Held X x A c w0 u) :
    Calls Tryz.prog 18 #[.agg #[.int .i64 x.lsn, .int .i64 x.kind, .int .i64 x.link, .slice A x.recs.length c]] u fun e w' => e = .returned (.string ⟨(Pg.layL x).toArray⟩) ∧ Held X x A c w0 w' :=
  (made_any x A c hf.small (by have := hf.sizeN; omega) u h.2.2.2.2.1).mono fun _ _ ⟨h1, h2⟩ => ⟨h1, h.step h2⟩

set_option maxRecDepth 100000 in
set_option maxHeartbeats 2000000 in
theorem take_any (p : ByteArray) (hm : p.size ≤ 140737488355328) (w : World) :
    Calls Tryz.prog 19 #[.string p] w (Gives1 (Pg.right p.data.toList) w) := by
  have HR := Lib.hid (fun W => read_any p hm W)
  rcases hr : Pg.rd p.data.toList with _ | x
  · rw [hr] at HR
    rw [Pg.right_none_of hr]
    go_enter Tryz.func19, Tryz.ntmps19
    go_upto_region 2 with (first | (go_at_call 47; (with_reducible refine (HR.out _).mono ?_); rintro e w1 ⟨rfl, hb1⟩))
    have hlt : w.heap.size < w1.heap.size := by have := hb1.size; simp at this; omega
    have hbw := below_past hb1
    have hbx := blk_new hb1
    clear hb1
    have HH := Lib.hid (show Held w1.heap.size Pg.zero none 0 (w1.alloc (.cells #[.int .i64 0, .int .i64 0, .int .i64 0, .slice none 0 0] 38)) (w1.alloc (.cells #[.int .i64 0, .int .i64 0, .int .i64 0, .slice none 0 0] 38)) by
      obtain ⟨a0, a1, a2, a3, -⟩ := blk4 (heap_alloc_new w1 (.cells #[.int .i64 0, .int .i64 0, .int .i64 0, .slice none 0 0] 38))
      exact ⟨a0, a1, a2, a3, fun h0 => by simp [Pg.zero] at h0, by simp, Below.refl _ _⟩)
    go_cut [21] (fun s we => s = .bool true ∧ Held w1.heap.size Pg.zero none 0 (w1.alloc (.cells #[.int .i64 0, .int .i64 0, .int .i64 0, .slice none 0 0] 38)) we)
    case first =>
      go_quiet (fail)
      go_wp2_with fail
      go_meet
      case rel => exact ⟨rfl, HH.out.step (below_drewN _ _)⟩
    case rest =>
      obtain ⟨rfl, hS⟩ := hcut
      have hbb := andThen (below_past (hS.2.2.2.2.2.2)) (Below.refl _ _)
      obtain ⟨c0, c1, c2, c3, f0, f1, f2, f3⟩ := blk4 (blk_old hbx hbb)
      go_wp2_with fail
      refine bodyPost_ret (v := .tuple #[zeroV, .bool false]) (by simp [results, Tryz.results19, go_sem, c0, c1, c2, c3]) rfl ?_
      have hbw6 := andThen hbw hbb
      refine ⟨rfl, ?_⟩
      repeat (first | exact hbw6 | refine Below.setCell ?_ (by simp) _)
  · rw [hr] at HR
    obtain ⟨hf, h512⟩ := Pg.rd_fine hr
    have hps : p.size = 512 := by have h9 : p.data.toList.length = p.size := (by simp); omega
    rw [Pg.right_of hr]
    have HF := Lib.hid hf
    clear hr hf h512
    have hcmp : (Pg.layL x == (Oct.putB 0 4 ++ p.extract 4 512).toList) = decide (Pg.layL x = Oct.putL 0 4 ++ p.data.toList.drop 4) := by
      have h1 : (Oct.putB 0 4 ++ p.extract 4 512).data.toList = Oct.putL 0 4 ++ p.data.toList.drop 4 := by
        rw [ByteArray.data_append, Array.toList_append, show (Oct.putB 0 4).data.toList = Oct.putL 0 4 from Oct.putB_list 0 4 (by omega)]
        congr 1
        rw [show 512 = 4 + 508 from rfl, extract_eq]
        exact List.take_of_length_le (by have h9 : p.data.toList.length = p.size := (by simp); rw [List.length_drop]; omega)
      rw [ByteArray.toList_eq, h1]
      exact Bool.beq_eq_decide_eq _ _
    generalize decide (Pg.layL x = Oct.putL 0 4 ++ p.data.toList.drop 4) = b at hcmp ⊢
    have HCM := Lib.hid hcmp
    have hz1 : (Oct.putB 0 4).size = 4 := Oct.putB_size 0 4 (by omega)
    have hz2 : (p.extract 4 p.size).size = 508 := by simp; omega
    have hz3 : 4 ≤ p.size := by omega
    clear hcmp
    go_enter Tryz.func19, Tryz.ntmps19
    go_upto_region 2 with (first | (go_at_call 47; (with_reducible refine (HR.out _).mono ?_); rintro e w1 ⟨⟨A, c, rfl, hcl⟩, hb1⟩))
    have hlt : w.heap.size < w1.heap.size := by have := hb1.size; simp at this; omega
    have hbw := below_past hb1
    have hbx := blk_new hb1
    clear hb1
    have HH := Lib.hid (show Held w1.heap.size x A c (w1.alloc (.cells #[.int .i64 x.lsn, .int .i64 x.kind, .int .i64 x.link, .slice A x.recs.length c] 38)) (w1.alloc (.cells #[.int .i64 x.lsn, .int .i64 x.kind, .int .i64 x.link, .slice A x.recs.length c] 38)) by
      obtain ⟨a0, a1, a2, a3, -⟩ := blk4 (heap_alloc_new w1 (.cells #[.int .i64 x.lsn, .int .i64 x.kind, .int .i64 x.link, .slice A x.recs.length c] 38))
      exact ⟨a0, a1, a2, a3, (hcl.below ((Below.refl _ _).alloc (Nat.le_refl _) _)).cells, by simp, Below.refl _ _⟩)
    go_cut [21] (fun s we => s = .bool (!b) ∧ Held w1.heap.size x A c (w1.alloc (.cells #[.int .i64 x.lsn, .int .i64 x.kind, .int .i64 x.link, .slice A x.recs.length c] 38)) we)
    case first =>
      go_region_held3 (fun we => Held w1.heap.size x A c (w1.alloc (.cells #[.int .i64 x.lsn, .int .i64 x.kind, .int .i64 x.link, .slice A x.recs.length c] 38)) we) (first | assumption | exact HH.out.drew) (first | (go_at_call 18; refine (made_keeps x A c HF.out _ _ _ (by assumption)).mono ?_; rintro e w1 ⟨rfl, hS⟩) | (go_at_call 44; refine (put_keeps _ _ (by omega) (by omega) _ _ _ _ _ _ (by assumption)).mono ?_; rintro e w1 ⟨rfl, hS⟩))
      go_wp2_with fail
      go_meet
      case rel => exact ⟨congrArg (fun z => Value.bool (!z)) HCM.out, hS⟩
    case rest =>
      obtain ⟨rfl, hS⟩ := hcut
      have hbb := below_past (hS.2.2.2.2.2.2)
      obtain ⟨c0, c1, c2, c3, f0, f1, f2, f3⟩ := blk4 (blk_old hbx hbb)
      have hbw6 := andThen hbw hbb
      obtain ⟨x0, x1, x2, x3, hcl6, -, -⟩ := hS
      have hne : w1.heap.size ≠ w.heap.size := by omega
      cases b
      · go_wp2_with fail
        refine bodyPost_ret (v := .tuple #[zeroV, .bool false]) (by simp [results, Tryz.results19, go_sem, c0, c1, c2, c3]) rfl ?_
        refine ⟨rfl, ?_⟩
        repeat (first | exact hbw6 | refine Below.setCell ?_ (by simp) _)
      · go_wp2_with fail
        refine bodyPost_ret (v := .tuple #[leafV x A c, .bool true]) (by simp [results, Tryz.results19, go_sem, c0, c1, c2, c3]) rfl ?_
        refine ⟨⟨A, c, rfl, ?_⟩, ?_⟩
        · refine OwnCells.mono (B := w.heap.size + 1) ?_ (by omega)
          repeat (first | exact (hcl.below hbb).mono (by simp) | refine OwnCells.set ?_ _ (by simp) _)
        · repeat (first | exact hbw6 | refine Below.setCell ?_ (by simp) _)
end Go.Proofs.YtkndifannjpbcaaGreatDoor
/- The walks over package page and its reference: the reference's Parts. -/
namespace Go.Proofs.YtkndifannjpbcaaGreatDoor
open Go.RowKit

/-- What comes back of the reference's parts. -/
def GivesR (r : Option Pg.Leaf) (w : World) (e : Ending) (w' : World) : Prop :=
  (match r with
    | some x => ∃ A c, e = .returned (.tuple #[leafV x A c, .bool true]) ∧ OwnCells w.heap.size w' A c x.recs
    | none => ∃ (x : Pg.Leaf) (A : Option Addr) (c : Nat), e = .returned (.tuple #[leafV x A c, .bool false])) ∧ Below w.heap.size w w'

set_option maxRecDepth 100000 in
set_option maxHeartbeats 2000000 in
theorem rparts_any (p : ByteArray) (_hm : p.size ≤ 140737488355328) (w : World) :
    Calls Tryz.prog 41 #[.string p] w (GivesR (Pg.right p.data.toList) w) := by
  by_cases h512 : p.size = 512
  · have HL := Lib.hid (show p.data.toList.length = 512 by have h9 : p.data.toList.length = p.size := (by simp); omega)
    obtain ⟨lsn, hlsn⟩ : ∃ n, n = Oct.getN p.data.toList 4 6 := ⟨_, rfl⟩
    obtain ⟨kind, hkind⟩ : ∃ n, n = Oct.getN p.data.toList 10 1 := ⟨_, rfl⟩
    obtain ⟨link, hlink⟩ : ∃ n, n = Oct.getN p.data.toList 12 3 := ⟨_, rfl⟩
    obtain ⟨n, hn⟩ : ∃ n, n = Oct.getN p.data.toList 15 2 := ⟨_, rfl⟩
    have HN1 := Lib.hid (fun W => rnum_any p 4 6 (by omega) (by omega) (by omega) (by omega) (by omega) W)
    have HN2 := Lib.hid (fun W => rnum_any p 10 1 (by omega) (by omega) (by omega) (by omega) (by omega) W)
    have HN3 := Lib.hid (fun W => rnum_any p 12 3 (by omega) (by omega) (by omega) (by omega) (by omega) W)
    have HN4 := Lib.hid (fun W => rnum_any p 15 2 (by omega) (by omega) (by omega) (by omega) (by omega) W)
    have hn16 : n < 65536 := by have := Pg.getN_pow p.data.toList 15 2; omega
    rw [show ((4 : Int).toNat) = 4 from rfl, show ((6 : Int).toNat) = 6 from rfl, ← hlsn] at HN1
    rw [show ((10 : Int).toNat) = 10 from rfl, show ((1 : Int).toNat) = 1 from rfl, ← hkind] at HN2
    rw [show ((12 : Int).toNat) = 12 from rfl, show ((3 : Int).toNat) = 3 from rfl, ← hlink] at HN3
    rw [show ((15 : Int).toNat) = 15 from rfl, show ((2 : Int).toNat) = 2 from rfl, ← hn] at HN4
    have HQ1 := Lib.hid hlsn
    have HQ2 := Lib.hid hkind
    have HQ3 := Lib.hid hlink
    have HQ4 := Lib.hid hn
    clear hlsn hkind hlink hn
    by_cases hbad : 4 < kind ∨ 123 < n
    · have HR := Lib.hid (show Pg.right p.data.toList = none from Pg.right_none_of (by rw [Pg.rd, if_pos (by rw [← HQ2.out, ← HQ4.out]; exact .inr hbad)]))
      have hb1 : 4 < kind ∨ (kind ≤ 4 ∧ 512 < 19 + 4 * (n : Int)) := by omega
      clear hbad
      rcases hb1 with h1 | ⟨h1, h2⟩
      all_goals
        go_enter Tryz.func41, Tryz.ntmps41
        go_wp2_with (first | (go_at_call 64; (with_reducible refine (HN1.out _).mono ?_); rintro e w1 ⟨rfl, rfl⟩) | (go_at_call 64; (with_reducible refine (HN2.out _).mono ?_); rintro e w2 ⟨rfl, rfl⟩) | (go_at_call 64; (with_reducible refine (HN3.out _).mono ?_); rintro e w3 ⟨rfl, rfl⟩) | (go_at_call 64; (with_reducible refine (HN4.out _).mono ?_); rintro e w4 ⟨rfl, rfl⟩))
        refine bodyPost_ret (v := .tuple #[zeroV, .bool false]) (by simp [results, Tryz.results41, go_sem]) rfl ?_
        unfold GivesR
        rw [HR.out]
        refine ⟨⟨Pg.zero, none, 0, rfl⟩, ?_⟩
        repeat (first | exact Below.refl _ _ | refine Below.setCell ?_ (by simp) _ | refine Below.alloc ?_ (by simp) _)
    · obtain ⟨hk4, hn123⟩ : kind ≤ 4 ∧ n ≤ 123 := by omega
      have HRD := Lib.hid (show Pg.rd p.data.toList = (Pg.recsOf p.data.toList n).map fun rs => ⟨lsn, kind, link, rs⟩ by
        rw [Pg.rd, if_neg (by rw [← HQ2.out, ← HQ4.out]; have := HL.out; omega), ← HQ1.out, ← HQ2.out, ← HQ3.out, ← HQ4.out])
      clear hbad
      have hn512 : 19 + 4 * (n : Int) ≤ 512 := by omega
      go_enter Tryz.func41, Tryz.ntmps41
      go_upto_block 0 with (first | (go_at_call 64; (with_reducible refine (HN1.out _).mono ?_); rintro e w1 ⟨rfl, rfl⟩) | (go_at_call 64; (with_reducible refine (HN2.out _).mono ?_); rintro e w2 ⟨rfl, rfl⟩) | (go_at_call 64; (with_reducible refine (HN3.out _).mono ?_); rintro e w3 ⟨rfl, rfl⟩) | (go_at_call 64; (with_reducible refine (HN4.out _).mono ?_); rintro e w4 ⟨rfl, rfl⟩))
      have hX := heap_alloc_new (w.alloc (.cells #[.int .i64 0, .int .i64 0, .int .i64 0, .slice none 0 0] 49)) (.cells #[.int .i64 lsn, .int .i64 kind, .int .i64 link, .slice none 0 0] 49)
      have hZ := (Below.heap_alloc (w.alloc (.cells #[.int .i64 0, .int .i64 0, .int .i64 0, .slice none 0 0] 49)) (.cells #[.int .i64 lsn, .int .i64 kind, .int .i64 link, .slice none 0 0] 49) w.heap.size (by simp)).trans (heap_alloc_new w _)
      rw [show (w.alloc (.cells #[.int .i64 0, .int .i64 0, .int .i64 0, .slice none 0 0] 49)).heap.size = w.heap.size + 1 by simp] at hX
      have hbw : Below w.heap.size w ((w.alloc (.cells #[.int .i64 0, .int .i64 0, .int .i64 0, .slice none 0 0] 49)).alloc (.cells #[.int .i64 lsn, .int .i64 kind, .int .i64 link, .slice none 0 0] 49)) := ((Below.refl _ _).alloc (Nat.le_refl _) _).alloc (by simp) _
      generalize hXe : w.heap.size + 1 = X at hX ⊢
      have HX := Lib.hid hX
      have HZ := Lib.hid hZ
      have HW := Lib.hid hbw
      clear hX hZ hbw
      go_wp2_with fail
      go_loopw [6] (fun i wr => ∃ (k : Nat) (rs : List ByteArray) (A : Option Addr) (c : Nat), k ≤ n ∧ i = .int .i64 k ∧ Pg.recsOf p.data.toList k = some rs ∧ wr.heap[X]? = some (.cells #[.int .i64 lsn, .int .i64 kind, .int .i64 link, .slice A k c] 49 (0, 0)) ∧ wr.heap[w.heap.size]? = some (.cells #[.int .i64 0, .int .i64 0, .int .i64 0, .slice none 0 0] 49 (0, 0)) ∧ wr.ownsRow (w.heap.size + 2) 9 1 (.slice A k c) k (rs.map Value.string) ∧ Below w.heap.size w wr ∧ w.heap.size + 2 ≤ wr.heap.size) (fun i _ => n - (intOf i).toNat)
      case atStart => exact ⟨0, [], none, 0, Nat.zero_le _, rfl, rfl, HX.out, HZ.out, ⟨rfl, .inl ⟨rfl, rfl⟩⟩, HW.out, by simp⟩
      case round =>
        obtain ⟨k, rs, A, c, hk, rfl, hrs, hX, hZ, hown, hbw, hge⟩ := hrel
        have hrl := Pg.recsOf_length _ _ _ hrs
        have HRS := Lib.hid hrs
        have HX2 := Lib.hid hX
        have HZ2 := Lib.hid hZ
        have HO := Lib.hid hown
        have HW2 := Lib.hid hbw
        have HRL := Lib.hid hrl
        clear hrs hX hZ hown hbw hrl
        by_cases hkn : k < n
        · obtain ⟨at_, hat⟩ : ∃ a, a = Oct.getN p.data.toList (19 + 4 * k) 2 := ⟨_, rfl⟩
          obtain ⟨long, hlong⟩ : ∃ a, a = Oct.getN p.data.toList (21 + 4 * k) 2 := ⟨_, rfl⟩
          have hal : at_ < 65536 := by
            have h1 := Oct.getL_lt ((p.data.toList.drop (19 + 4 * k)).take 2)
            have h2 : 256 ^ ((p.data.toList.drop (19 + 4 * k)).take 2).length ≤ 256 ^ 2 := Nat.pow_le_pow_right (by omega) (by rw [List.length_take]; omega)
            rw [hat]; unfold Oct.getN; omega
          have hll : long < 65536 := by
            have h1 := Oct.getL_lt ((p.data.toList.drop (21 + 4 * k)).take 2)
            have h2 : 256 ^ ((p.data.toList.drop (21 + 4 * k)).take 2).length ≤ 256 ^ 2 := Nat.pow_le_pow_right (by omega) (by rw [List.length_take]; omega)
            rw [hlong]; unfold Oct.getN; omega
          have HA := Lib.hid (fun W => rnum_any p (19 + 4 * (k : Int)) 2 (by omega) (by omega) (by omega) (by omega) (by omega) W)
          have HB := Lib.hid (fun W => rnum_any p (19 + 4 * (k : Int) + 2) 2 (by omega) (by omega) (by omega) (by omega) (by omega) W)
          rw [show (19 + 4 * (k : Int)).toNat = 19 + 4 * k by omega, show ((2 : Int).toNat) = 2 from rfl, ← hat] at HA
          rw [show (19 + 4 * (k : Int) + 2).toNat = 21 + 4 * k by omega, show ((2 : Int).toNat) = 2 from rfl, ← hlong] at HB
          have HAT := Lib.hid hat
          have HLO := Lib.hid hlong
          clear hat hlong
          by_cases hbad : 400 < long ∨ 512 < at_ + long
          · have HN := Lib.hid (show Pg.right p.data.toList = none from Pg.right_none_of (by
              have h1 : Pg.recsOf p.data.toList (k + 1) = none := by
                simp only [Pg.recsOf, HRS.out]
                rw [if_pos (by rw [← HAT.out, ← HLO.out]; exact hbad)]
              have h2 := Pg.recsOf_none _ h1 (n - (k + 1))
              rw [show k + 1 + (n - (k + 1)) = n by omega] at h2
              rw [HRD.out, h2]; rfl))
            have hb1 : 512 < (at_ : Int) + (long : Int) ∨ ((at_ : Int) + (long : Int) ≤ 512 ∧ 400 < long) := by omega
            clear hbad
            rcases hb1 with h1 | ⟨h1, h2⟩
            all_goals
              obtain ⟨c0, c1, c2, c3, f0, f1, f2, f3⟩ := blk4 HZ2.out
              go_wp2_with (first | (go_at_call 64; (with_reducible refine (HA.out _).mono ?_); rintro e w5 ⟨rfl, rfl⟩) | (go_at_call 64; (with_reducible refine (HB.out _).mono ?_); rintro e wr ⟨rfl, rfl⟩))
              refine bodyPost_ret (v := .tuple #[zeroV, .bool false]) (by simp [results, Tryz.results41, go_sem, c0, c1, c2, c3]) rfl ?_
              unfold GivesR
              rw [HN.out]
              refine ⟨⟨Pg.zero, none, 0, rfl⟩, ?_⟩
              repeat (first | exact HW2.out | refine Below.setCell ?_ (by simp) _)
          · obtain ⟨hl4, hal5⟩ : long ≤ 400 ∧ at_ + long ≤ 512 := by omega
            clear hbad
            go_upto_region 13 with (first | (go_at_call 64; (with_reducible refine (HA.out _).mono ?_); rintro e w5 ⟨rfl, rfl⟩) | (go_at_call 64; (with_reducible refine (HB.out _).mono ?_); rintro e wr ⟨rfl, rfl⟩))
            obtain ⟨i0, hi0, hz0, hz1, hz2⟩ := info_parts info_string
            have hX6 := HX2.out
            have hZ6 := HZ2.out
            have hown6 : wr.ownsRow (w.heap.size + 2) 9 1 (.slice A k c) k (rs.map Value.string) := HO.out
            have hW6 : Below w.heap.size w wr := HW2.out
            obtain ⟨x0, x1, x2, x3, g0, g1, g2, g3⟩ := blk4 hX6
            have hp1 : (0 : Int) ≤ (at_ : Int) := by omega
            have hp2 : (at_ : Int) ≤ (at_ : Int) + (long : Int) := by omega
            have hp3 : (at_ : Int) + (long : Int) ≤ 512 := by omega
            have hp4 : IntKind.i64.wrap ((at_ : Int) + (long : Int)) = (at_ : Int) + (long : Int) := IntWalk.i64_in _ (by omega)
            have hp5 : ((at_ : Int) + (long : Int)).toNat = at_ + long := by omega
            have hp6 : 0 ≤ (at_ : Int) + (long : Int) := by omega
            have hp7 : at_ ≤ at_ + long := by omega
            have hp8 : at_ + long ≤ p.size := by omega
            have HF := Lib.hid (show ∀ w7 : World, ((wr.alloc (.cells #[.string (p.extract at_ (at_ + long))] 9)).drew).grownBy w7 (Value.slice A k c).ownBlock → ∀ (b : Nat) (o : Obj), b < (w.heap.size + 2) → wr.heap[b]? = some o → w7.heap[b]? = some o by
              intro w7 hg b o hb ho
              rw [hg.block b (by simp; omega) (fun e9 => absurd (hown6.lt b e9.symm).1 (by omega))]
              exact (Below.heap_alloc wr _ b (by omega)).trans ho)
            obtain ⟨-, -, -, z3, -⟩ := blk4 ((Below.heap_alloc wr (.cells #[.string (p.extract at_ (at_ + long))] 9) X (by omega)).trans hX6)
            go_region_law? (refine step_append_lies _ (by rfl) _ _ _ (by rfl) (w.heap.size + 2) 9 i0 (.string ⟨#[]⟩) 1 16 Tryz.underlying36 hi0 hz0 hz1 hz2 rfl (by omega) (.slice A k c) k (rs.map Value.string) (by rfl) (own_alloc_drew hown6 _) ⟨wr.heap.size, 0, none⟩ 1 1 [.string (p.extract at_ (at_ + long))] (by rfl) (by rfl) (World.news_of_block (cs := #[.string (p.extract at_ (at_ + long))]) (t := 9) (fr := (0, 0)) (heap_alloc_new wr _)) (by simp [Value.oneCell']) (by omega) (by simp [maxLen]; omega) (by omega) (by simp; omega) (wr.heap.size + 1) (by simp) ?_; intro gg cap w7 hown7 hgrow hat7 hlt7; obtain ⟨y0, y1, y2, y3, k0, k1, k2, k3⟩ := blk4 (HF.out w7 hgrow X _ (show X < w.heap.size + 2 by omega) hX6))
            all_goals
              have hX7 := HF.out w7 hgrow X _ (show X < w.heap.size + 2 by omega) hX6
              have hZ7 := HF.out w7 hgrow w.heap.size _ (by omega) hZ6
              have hb7 : Below w.heap.size w w7 := ((hW6.alloc (by omega) _).drew).grown hgrow (by simp; omega) (fun k9 e9 => by have := (hown6.lt k9 e9).1; omega)
              have hs7 : wr.heap.size + 1 ≤ w7.heap.size := by have := hgrow.size; simp at this; omega
              go_wp2_with fail
              go_roundw
              case rel =>
                refine ⟨k + 1, rs ++ [p.extract at_ (at_ + long)], some ⟨gg, 0, none⟩, cap, by omega, by go_num, ?_, ?_, ?_, ?_, ?_, ?_⟩
                · simp only [Pg.recsOf, HRS.out]
                  rw [if_neg (by rw [← HAT.out, ← HLO.out]; omega), ← HAT.out, ← HLO.out]
                  rw [extract_eq]
                · have := blk_set 3 hX7 (.slice (some ⟨gg, 0, none⟩) (k + 1) cap)
                  simpa using this
                · rw [Below.heap_setCell _ _ _ _ (by simp; omega)]; exact hZ7
                · have := ownsRow_set hown7 ⟨X, 3, none⟩ (.slice (some ⟨gg, 0, none⟩) (k + 1) cap) (show X < w.heap.size + 2 by omega)
                  simpa using this
                · exact hb7.setCell (by simp; omega) _
                · simp; omega
              case measure => simp [intOf]; omega
        · obtain rfl : k = n := by omega
          have hlen := HRL.out
          subst hlen
          obtain ⟨x0, x1, x2, x3, -⟩ := blk4 HX2.out
          obtain ⟨c0, c1, c2, c3, f0, f1, f2, f3⟩ := blk4 HZ2.out
          have hne : X ≠ w.heap.size := by omega
          have HRX := Lib.hid (show Pg.rd p.data.toList = some ⟨lsn, kind, link, rs⟩ by rw [HRD.out, HRS.out]; rfl)
          have HF := Lib.hid (Pg.rd_fine HRX.out).1
          have hcl := own_cells HO.out rfl
          have HLAY := Lib.hid (fun W hW => rlay_any ⟨lsn, kind, link, rs⟩ A c HF.out.small (by have := HF.out.sizeN; omega) W hW)
          go_upto_region 15 with (first | (go_at_call 63; (with_reducible refine (HLAY.out _ hcl.cells).mono ?_); rintro e w5 ⟨rfl, hb5⟩))
          obtain ⟨x0, x1, x2, x3, -⟩ := blk4 (blk_old HX2.out hb5)
          obtain ⟨c0, c1, c2, c3, f0, f1, f2, f3⟩ := blk4 (blk_old HZ2.out hb5)
          have hbw6 := andThen HW2.out hb5
          have hcl6 := hcl.below hb5
          clear hcl hb5
          have HC2 := Lib.hid hcl6
          have hqs : (⟨(Pg.layL ⟨lsn, kind, link, rs⟩).toArray⟩ : ByteArray).size = (Pg.layL ⟨lsn, kind, link, rs⟩).length := by simp [ByteArray.size]
          have hql : (⟨(Pg.layL ⟨lsn, kind, link, rs⟩).toArray⟩ : ByteArray).data.toList = Pg.layL ⟨lsn, kind, link, rs⟩ := rfl
          generalize (⟨(Pg.layL ⟨lsn, kind, link, rs⟩).toArray⟩ : ByteArray) = q at hqs hql ⊢
          rcases Pg.layL_cases ⟨lsn, kind, link, rs⟩ with h0 | ⟨h0, h1⟩
          · have hq0 : q.size = 0 := by rw [hqs, h0]; rfl
            have HR := Lib.hid (show Pg.right p.data.toList = none by
              rw [Pg.right_of HRX.out, if_neg]
              rw [decide_eq_true_iff, h0]
              intro h9
              have := congrArg List.length h9
              rw [List.length_append, Oct.putL_length] at this
              simp at this
              omega)
            clear hqs hql h0
            go_region
            all_goals
              go_wp2_with fail
              refine bodyPost_ret (v := .tuple #[leafV ⟨lsn, kind, link, rs⟩ A c, .bool false]) (by simp [results, Tryz.results41, go_sem, c0, c1, c2, c3]) rfl ?_
              unfold GivesR
              rw [HR.out]
              refine ⟨⟨⟨lsn, kind, link, rs⟩, A, c, rfl⟩, ?_⟩
              repeat (first | exact hbw6 | refine Below.drew ?_ | refine Below.setCell ?_ (by simp) _)
          · have hq0 : q.size = 512 := by rw [hqs, h0]
            have hcmp : ((q.extract 4 512).toList == (p.extract 4 512).toList) = decide (Pg.layL ⟨lsn, kind, link, rs⟩ = Oct.putL 0 4 ++ p.data.toList.drop 4) := by
              rw [ByteArray.toList_eq, ByteArray.toList_eq, show 512 = 4 + 508 from rfl, extract_eq, extract_eq]
              have e1 : (q.data.toList.drop 4).take 508 = q.data.toList.drop 4 := List.take_of_length_le (by rw [hql, List.length_drop, h0]; omega)
              have e2 : (p.data.toList.drop 4).take 508 = p.data.toList.drop 4 := List.take_of_length_le (by rw [List.length_drop, HL.out]; omega)
              rw [e1, e2, hql, Bool.beq_eq_decide_eq]
              exact decide_eq_decide.2 (h1 _).symm
            have HR := Lib.hid (Pg.right_of HRX.out)
            generalize decide (Pg.layL ⟨lsn, kind, link, rs⟩ = Oct.putL 0 4 ++ p.data.toList.drop 4) = b at HR hcmp
            have hq4 : 4 ≤ q.size := by omega
            have hp4 : 4 ≤ p.size := by omega
            clear hqs hql h0 h1
            go_region
            all_goals
              go_wp2_with fail
              refine bodyPost_ret (v := .tuple #[leafV ⟨lsn, kind, link, rs⟩ A c, .bool b]) (by simp [results, Tryz.results41, go_sem, c0, c1, c2, c3]) rfl ?_
              unfold GivesR
              rw [HR.out]
              refine ⟨?_, ?_⟩
              · cases b
                · exact ⟨⟨lsn, kind, link, rs⟩, A, c, rfl⟩
                · refine ⟨A, c, rfl, ?_⟩
                  refine OwnCells.mono (B := w.heap.size + 2) ?_ (by omega)
                  repeat (first | exact HC2.out | exact HC2.out.below (Below.refl _ _).drew | refine OwnCells.set ?_ _ (by simp) _)
              repeat (first | exact hbw6 | refine Below.drew ?_ | refine Below.setCell ?_ (by simp) _)
  · have hne : ((p.size : Int) == 512) = false := by simp; omega
    have HR := Lib.hid (show Pg.right p.data.toList = none from Pg.right_none_of (by
      rw [Pg.rd, if_pos (.inl (by have h9 : p.data.toList.length = p.size := (by simp); omega))]))
    clear h512
    go_enter Tryz.func41, Tryz.ntmps41
    go_wp2_with fail
    refine bodyPost_ret (v := .tuple #[zeroV, .bool false]) (by simp [results, Tryz.results41, go_sem]) rfl ?_
    unfold GivesR
    rw [HR.out]
    exact ⟨⟨Pg.zero, none, 0, rfl⟩, (Below.refl _ _).alloc (Nat.le_refl _) _⟩
end Go.Proofs.YtkndifannjpbcaaGreatDoor
/- The walks over package page and its reference: what a page says. -/
namespace Go.Proofs.YtkndifannjpbcaaGreatDoor
open Go.RowKit

/-- Pg.right, as a Boolean. -/
abbrev isPg (p : ByteArray) : Bool := (Pg.right p.data.toList).isSome
abbrev leafP (p : ByteArray) : Pg.Leaf := Pg.leafOf p.data.toList
/-- page.take: the parts (of what is no page: zero) and whether it is one. -/
theorem take_leaf (p : ByteArray) (hm : p.size ≤ 140737488355328) (w : World) :
    Calls Tryz.prog 19 #[.string p] w fun e w' => ∃ A c, e = .returned (.tuple #[leafV (leafP p) A c, .bool (isPg p)]) ∧ OwnCells w.heap.size w' A c (leafP p).recs ∧ Below w.heap.size w w' := by
  refine (take_any p hm w).mono ?_
  rintro e w' ⟨h, hb⟩
  unfold leafP isPg Pg.leafOf
  revert h
  cases Pg.right p.data.toList with
  | none => rintro rfl; exact ⟨none, 0, rfl, fun h0 => by simp [Pg.zero] at h0, hb⟩
  | some x => rintro ⟨A, c, rfl, h⟩; exact ⟨A, c, rfl, h, hb⟩

theorem right_any (p : ByteArray) (hm : p.size ≤ 140737488355328) (w : World) :
    Calls Tryz.prog 16 #[.string p] w fun e w' => e = .returned (.bool (isPg p)) ∧ Below w.heap.size w w' := by
  have HT := Lib.hid (fun W => take_leaf p hm W)
  generalize isPg p = b at HT ⊢
  generalize leafP p = x at HT
  go_enter Tryz.func16, Tryz.ntmps16
  go_wp2_with (go_at_call 19; refine (HT.out _).mono ?_; rintro e w1 ⟨A, c, rfl, hcl, hb1⟩)
  go_ret
  exact ⟨rfl, by repeat (first | exact hb1 | refine Below.alloc ?_ (by first | exact hb1.size | simp) _ | refine Below.setCell ?_ (by first | exact hb1.size | simp) _)⟩
theorem lsn_any (p : ByteArray) (hm : p.size ≤ 140737488355328) (w : World) :
    Calls Tryz.prog 57 #[.string p] w fun e w' => e = .returned (.int .i64 ((leafP p).lsn : Nat)) ∧ Below w.heap.size w w' := by
  have HT := Lib.hid (fun W => take_leaf p hm W)
  generalize isPg p = b at HT
  generalize leafP p = x at HT ⊢
  go_enter Tryz.func57, Tryz.ntmps57
  go_wp2_with (go_at_call 19; refine (HT.out _).mono ?_; rintro e w1 ⟨A, c, rfl, hcl, hb1⟩)
  go_ret
  exact ⟨rfl, by repeat (first | exact hb1 | refine Below.alloc ?_ (by first | exact hb1.size | simp) _ | refine Below.setCell ?_ (by first | exact hb1.size | simp) _)⟩
theorem link_any (p : ByteArray) (hm : p.size ≤ 140737488355328) (w : World) :
    Calls Tryz.prog 13 #[.string p] w fun e w' => e = .returned (.int .i64 ((leafP p).link : Nat)) ∧ Below w.heap.size w w' := by
  have HT := Lib.hid (fun W => take_leaf p hm W)
  generalize isPg p = b at HT
  generalize leafP p = x at HT ⊢
  go_enter Tryz.func13, Tryz.ntmps13
  go_wp2_with (go_at_call 19; refine (HT.out _).mono ?_; rintro e w1 ⟨A, c, rfl, hcl, hb1⟩)
  go_ret
  exact ⟨rfl, by repeat (first | exact hb1 | refine Below.alloc ?_ (by first | exact hb1.size | simp) _ | refine Below.setCell ?_ (by first | exact hb1.size | simp) _)⟩
end Go.Proofs.YtkndifannjpbcaaGreatDoor
/- The walks over package page and its reference: what the reference says of a page. -/
namespace Go.Proofs.YtkndifannjpbcaaGreatDoor
open Go.RowKit

/-- The reference's Parts: whether it is a page; if so, its parts. -/
theorem rparts_leaf (p : ByteArray) (hm : p.size ≤ 140737488355328) (w : World) :
    Calls Tryz.prog 41 #[.string p] w fun e w' => ∃ x A c, e = .returned (.tuple #[leafV x A c, .bool (isPg p)]) ∧ (isPg p = true → x = leafP p ∧ OwnCells w.heap.size w' A c (leafP p).recs) ∧ Below w.heap.size w w' := by
  refine (rparts_any p hm w).mono ?_
  rintro e w' ⟨h, hb⟩
  unfold leafP isPg Pg.leafOf
  revert h
  cases Pg.right p.data.toList with
  | none => rintro ⟨x, A, c, rfl⟩; exact ⟨x, A, c, rfl, (fun h => by cases h), hb⟩
  | some x => rintro ⟨A, c, rfl, h⟩; exact ⟨x, A, c, rfl, fun _ => ⟨rfl, h⟩, hb⟩
theorem leafP_of_not {p : ByteArray} (h : isPg p = false) : leafP p = Pg.zero := by
  unfold isPg at h; unfold leafP Pg.leafOf
  revert h
  cases Pg.right p.data.toList with
  | none => intro _; rfl
  | some x => intro h; cases h

set_option maxRecDepth 100000 in
set_option maxHeartbeats 1000000 in
theorem rright_any (p : ByteArray) (hm : p.size ≤ 140737488355328) (w : World) :
    Calls Tryz.prog 17 #[.string p] w fun e w' => e = .returned (.bool (isPg p)) ∧ Below w.heap.size w w' := by
  have HT := Lib.hid (fun W => rparts_leaf p hm W)
  generalize isPg p = b at HT ⊢
  generalize leafP p = y at HT
  go_enter Tryz.func17, Tryz.ntmps17
  go_wp2_with (go_at_call 41; refine (HT.out _).mono ?_; rintro e w1 ⟨x, A, c, rfl, hcl, hb1⟩)
  go_ret
  exact ⟨rfl, by repeat (first | exact hb1 | refine Below.alloc ?_ (by first | exact hb1.size | simp) _ | refine Below.setCell ?_ (by first | exact hb1.size | simp) _)⟩

set_option maxRecDepth 100000 in
set_option maxHeartbeats 1000000 in
theorem rpart_any (p : ByteArray) (hm : p.size ≤ 140737488355328) (w : World) :
    Calls Tryz.prog 58 #[.string p] w fun e w' => ∃ A c, e = .returned (leafV (leafP p) A c) ∧ OwnCells w.heap.size w' A c (leafP p).recs ∧ Below w.heap.size w w' := by
  have HT := Lib.hid (fun W => rparts_leaf p hm W)
  cases hb : isPg p with
  | false =>
    rw [leafP_of_not hb]
    rw [hb] at HT
    generalize leafP p = y at HT
    go_enter Tryz.func58, Tryz.ntmps58
    go_wp2_with (go_at_call 41; refine (HT.out _).mono ?_; rintro e w1 ⟨x, A, c, rfl, -, hb1⟩; have hlt : w.heap.size < w1.heap.size := (by have := hb1.size; simp at this; omega); obtain ⟨c0, c1, c2, c3, f0, f1, f2, f3⟩ := blk4 (blk_new hb1))
    have hbw := below_past hb1
    refine bodyPost_ret (v := zeroV) (by simp [results, Tryz.results58, go_sem, c0, c1, c2, c3, hlt]) rfl ?_
    refine ⟨none, 0, rfl, fun h0 => by simp [Pg.zero] at h0, ?_⟩
    repeat (first | exact hbw | refine Below.alloc ?_ (by simp; exact Nat.le_of_lt hlt) _ | refine Below.setCell ?_ (by simp) _)
  | true =>
    rw [hb] at HT
    generalize leafP p = y at HT ⊢
    go_enter Tryz.func58, Tryz.ntmps58
    go_wp2_with (go_at_call 41; refine (HT.out _).mono ?_; rintro e w1 ⟨x, A, c, rfl, hcl, hb1⟩; obtain ⟨rfl, hcl⟩ := hcl rfl; have hne : w1.heap.size ≠ w.heap.size := (by have := hb1.size; simp at this; omega); have hlt : w.heap.size < w1.heap.size := (by have := hb1.size; simp at this; omega); obtain ⟨c0, c1, c2, c3, f0, f1, f2, f3⟩ := blk4 (blk_new hb1))
    have hbw := below_past hb1
    refine bodyPost_ret (v := leafV x A c) (by simp [results, Tryz.results58, go_sem, c0, c1, c2, c3, hlt]) rfl ?_
    refine ⟨A, c, rfl, ?_, ?_⟩
    · refine OwnCells.mono (B := w.heap.size + 1) ?_ (by omega)
      refine OwnCells.below ?_ ((Below.refl _ _).alloc (Nat.le_refl _) _)
      repeat (first | exact (show OwnCells (w.heap.size + 1) w1 A c x.recs by simpa using hcl) | refine OwnCells.set ?_ _ (by simp) _)
    · repeat (first | exact hbw | refine Below.alloc ?_ (by simp; exact Nat.le_of_lt hlt) _ | refine Below.setCell ?_ (by simp) _)

theorem ref_field0 (a b l v : Value) (W : World) : (Instr.field 49 (.agg #[a, b, l, v]) 0).run Tryz.prog W = .ok a W := by kernel_rfl
theorem ref_field1 (a b l v : Value) (W : World) : (Instr.field 49 (.agg #[a, b, l, v]) 1).run Tryz.prog W = .ok b W := by kernel_rfl
theorem ref_field2 (a b l v : Value) (W : World) : (Instr.field 49 (.agg #[a, b, l, v]) 2).run Tryz.prog W = .ok l W := by kernel_rfl
theorem ref_field3 (a b l v : Value) (W : World) : (Instr.field 49 (.agg #[a, b, l, v]) 3).run Tryz.prog W = .ok v W := by kernel_rfl
set_option maxRecDepth 100000 in
set_option maxHeartbeats 1000000 in
theorem rlsn_any (p : ByteArray) (hm : p.size ≤ 140737488355328) (w : World) :
    Calls Tryz.prog 39 #[.string p] w fun e w' => e = .returned (.int .i64 ((leafP p).lsn : Nat)) ∧ Below w.heap.size w w' := by
  have hfd : ∀ (A : Option Addr) (c : Nat) (W : World), (Instr.field 49 (leafV (leafP p) A c) 0).run Tryz.prog W = .ok _ W := fun _ _ W => ref_field0 _ _ _ _ W
  have HT := Lib.hid (fun W => rpart_any p hm W)
  generalize leafP p = x at HT hfd ⊢
  go_enter Tryz.func39, Tryz.ntmps39
  go_wp2_with (go_at_call 58; refine (HT.out _).mono ?_; rintro e w1 ⟨A, c, rfl, hcl, hb1⟩)
  go_ret
  exact ⟨rfl, by repeat (first | exact hb1 | refine Below.alloc ?_ (by first | exact hb1.size | simp) _ | refine Below.setCell ?_ (by first | exact hb1.size | simp) _)⟩
set_option maxRecDepth 100000 in
set_option maxHeartbeats 1000000 in
theorem rlink_any (p : ByteArray) (hm : p.size ≤ 140737488355328) (w : World) :
    Calls Tryz.prog 37 #[.string p] w fun e w' => e = .returned (.int .i64 ((leafP p).link : Nat)) ∧ Below w.heap.size w w' := by
  have hfd : ∀ (A : Option Addr) (c : Nat) (W : World), (Instr.field 49 (leafV (leafP p) A c) 2).run Tryz.prog W = .ok _ W := fun _ _ W => ref_field2 _ _ _ _ W
  have HT := Lib.hid (fun W => rpart_any p hm W)
  generalize leafP p = x at HT hfd ⊢
  go_enter Tryz.func37, Tryz.ntmps37
  go_wp2_with (go_at_call 58; refine (HT.out _).mono ?_; rintro e w1 ⟨A, c, rfl, hcl, hb1⟩)
  go_ret
  exact ⟨rfl, by repeat (first | exact hb1 | refine Below.alloc ?_ (by first | exact hb1.size | simp) _ | refine Below.setCell ?_ (by first | exact hb1.size | simp) _)⟩
end Go.Proofs.YtkndifannjpbcaaGreatDoor
/- The walks over package page and its reference: the record of a slot. -/
namespace Go.Proofs.YtkndifannjpbcaaGreatDoor
open Go.RowKit

theorem below_past_alloc {w w' : World} {o : Obj} (hb : Below w.heap.size w w') : Below w.heap.size w (w'.alloc o) := hb.alloc hb.size o
set_option maxRecDepth 100000 in
set_option maxHeartbeats 1000000 in
theorem at_any (x : Pg.Leaf) (A : Option Addr) (c : Nat) (i : Int) (w : World) (h : Cells w A c x.recs) :
    Calls Tryz.prog 48 #[leafV x A c, .int .i64 i] w fun e w' => e = .returned (.string (Pg.slotAt x.recs i)) ∧ Below w.heap.size w w' := by
  have HC := Lib.hid (h.below ((Below.refl w.heap.size w).alloc (Nat.le_refl _) (.cells #[.int .i64 x.lsn, .int .i64 x.kind, .int .i64 x.link, .slice A x.recs.length c] 38 (0, 0))))
  clear h
  by_cases h1 : i < 0
  · rw [Pg.slotAt_neg h1]
    go_enter Tryz.func48, Tryz.ntmps48
    go_wp2_with fail
    go_ret
    exact ⟨rfl, (Below.refl _ _).alloc (Nat.le_refl _) _⟩
  · by_cases h2 : (x.recs.length : Int) ≤ i
    · rw [Pg.slotAt_past h2]
      go_enter Tryz.func48, Tryz.ntmps48
      go_wp2_with fail
      go_ret
      exact ⟨rfl, (Below.refl _ _).alloc (Nat.le_refl _) _⟩
    · obtain ⟨k, rfl⟩ := Int.eq_ofNat_of_zero_le (show 0 ≤ i by omega)
      have hk : k < x.recs.length := by omega
      rw [Pg.slotAt_in hk]
      obtain ⟨b, off, rfl, hc, hbl, hcell⟩ := HC.out.at_ hk
      have h3 : (k : Int) < (x.recs.length : Int) := by omega
      have h4 : (0 : Int) ≤ (k : Int) := by omega
      clear h1 h2
      generalize x.recs[k] = r at hcell ⊢
      go_enter Tryz.func48, Tryz.ntmps48
      go_wp2_with fail
      go_ret
      exact ⟨rfl, (Below.refl _ _).alloc (Nat.le_refl _) _⟩

set_option maxRecDepth 100000 in
set_option maxHeartbeats 1000000 in
theorem get_any_rec (p : ByteArray) (i : Int) (hm : p.size ≤ 140737488355328) (w : World) :
    Calls Tryz.prog 20 #[.string p, .int .i64 i] w fun e w' => e = .returned (.tuple #[.string (Pg.slotAt (leafP p).recs i), .bool (!decide ((Pg.slotAt (leafP p).recs i).size = 0))]) ∧ Below w.heap.size w w' := by
  have HT := Lib.hid (fun W => take_leaf p hm W)
  generalize isPg p = b at HT
  generalize leafP p = x at HT ⊢
  have HA := Lib.hid (fun A c W hW => at_any x A c i W hW)
  generalize Pg.slotAt x.recs i = r at HA ⊢
  rw [← empty_iff]
  go_enter Tryz.func20, Tryz.ntmps20
  go_wp2_with (first | (go_at_call 19; refine (HT.out _).mono ?_; rintro e w1 ⟨A, c, rfl, hcl, hb1⟩) | (go_at_call 48; refine (HA.out _ _ _ (hcl.cells.below ((Below.refl _ _).alloc (Nat.le_refl _) _))).mono ?_; rintro e w2 ⟨rfl, hb2⟩))
  refine bodyPost_ret (v := .tuple #[.string r, .bool (!r.toList.isEmpty)]) (by simp [results, Tryz.results20, go_sem]) rfl ?_
  exact ⟨rfl, andThen (below_past_alloc hb1) hb2⟩
end Go.Proofs.YtkndifannjpbcaaGreatDoor
/- The walks over package page and its reference: the reference's Get. -/
namespace Go.Proofs.YtkndifannjpbcaaGreatDoor
open Go.RowKit

theorem bytes_nil {r : ByteArray} (h : r.size = 0) : r = ⟨#[]⟩ := by
  apply ByteArray.ext
  exact Array.eq_empty_of_size_eq_zero h

set_option maxRecDepth 100000 in
set_option maxHeartbeats 1000000 in
theorem rget_any_rec (p : ByteArray) (i : Int) (hm : p.size ≤ 140737488355328) (w : World) :
    Calls Tryz.prog 28 #[.string p, .int .i64 i] w fun e w' => e = .returned (.tuple #[.string (Pg.slotAt (leafP p).recs i), .bool (!decide ((Pg.slotAt (leafP p).recs i).size = 0))]) ∧ Below w.heap.size w w' := by
  have HT := Lib.hid (fun W => rpart_any p hm W)
  generalize leafP p = x at HT ⊢
  by_cases h1 : i < 0
  · rw [Pg.slotAt_neg h1]
    go_enter Tryz.func28, Tryz.ntmps28
    go_wp2_with (go_at_call 58; refine (HT.out _).mono ?_; rintro e w1 ⟨A, c, rfl, hcl, hb1⟩)
    refine bodyPost_ret (v := .tuple #[.string ⟨#[]⟩, .bool false]) (by simp [results, Tryz.results28, go_sem]) rfl ?_
    exact ⟨rfl, below_past_alloc hb1⟩
  · by_cases h2 : (x.recs.length : Int) ≤ i
    · rw [Pg.slotAt_past h2]
      go_enter Tryz.func28, Tryz.ntmps28
      go_wp2_with (go_at_call 58; refine (HT.out _).mono ?_; rintro e w1 ⟨A, c, rfl, hcl, hb1⟩)
      refine bodyPost_ret (v := .tuple #[.string ⟨#[]⟩, .bool false]) (by simp [results, Tryz.results28, go_sem]) rfl ?_
      exact ⟨rfl, below_past_alloc hb1⟩
    · obtain ⟨k, rfl⟩ := Int.eq_ofNat_of_zero_le (show 0 ≤ i by omega)
      have hk : k < x.recs.length := by omega
      rw [Pg.slotAt_in hk]
      have h3 : (k : Int) < (x.recs.length : Int) := by omega
      have h4 : (0 : Int) ≤ (k : Int) := by omega
      clear h1 h2
      obtain ⟨r, hr⟩ : ∃ r, r = x.recs[k] := ⟨_, rfl⟩
      rw [← hr]
      have HR := Lib.hid hr
      clear hr
      have hie : r.toList.isEmpty = decide (r.size = 0) := empty_iff r
      by_cases he : r.size = 0
      · rw [decide_eq_true he] at hie ⊢
        rw [bytes_nil he] at hie HR ⊢
        clear he
        go_enter Tryz.func28, Tryz.ntmps28
        go_wp2_with (go_at_call 58; refine (HT.out _).mono ?_; rintro e w1 ⟨A, c, rfl, hcl, hb1⟩; obtain ⟨b, off, rfl, hc, hbl, hcell⟩ := hcl.cells.at_ hk; rw [← HR.out] at hcell)
        refine bodyPost_ret (v := .tuple #[.string ⟨#[]⟩, .bool false]) (by simp [results, Tryz.results28, go_sem]) rfl ?_
        exact ⟨rfl, below_past_alloc hb1⟩
      · rw [decide_eq_false he] at hie ⊢
        clear he
        go_enter Tryz.func28, Tryz.ntmps28
        go_wp2_with (go_at_call 58; refine (HT.out _).mono ?_; rintro e w1 ⟨A, c, rfl, hcl, hb1⟩; obtain ⟨b, off, rfl, hc, hbl, hcell⟩ := hcl.cells.at_ hk; rw [← HR.out] at hcell)
        refine bodyPost_ret (v := .tuple #[.string r, .bool true]) (by simp [results, Tryz.results28, go_sem]) rfl ?_
        exact ⟨rfl, below_past_alloc hb1⟩
end Go.Proofs.YtkndifannjpbcaaGreatDoor
/- The walks over package page and its reference: the lowest free slot. -/
namespace Go.Proofs.YtkndifannjpbcaaGreatDoor
open Go.RowKit

end Go.Proofs.YtkndifannjpbcaaGreatDoor
/- The walks over package page and its reference: the reference's Free. -/
namespace Go.Proofs.YtkndifannjpbcaaGreatDoor
open Go.RowKit

end Go.Proofs.YtkndifannjpbcaaGreatDoor
/- The walks over package page and its reference: may. -/
namespace Go.Proofs.YtkndifannjpbcaaGreatDoor
open Go.RowKit

set_option maxRecDepth 100000 in
set_option maxHeartbeats 1000000 in
theorem may_any (r : ByteArray) (w : World) :
    Calls Tryz.prog 49 #[.string r] w fun e w' => e = .returned (.bool (decide (1 ≤ r.size ∧ r.size ≤ 400))) ∧ w = w' := by
  by_cases h1 : 1 ≤ r.size
  · by_cases h2 : r.size ≤ 400
    · rw [decide_eq_true ⟨h1, h2⟩]
      have h3 : (1 : Int) ≤ (r.size : Int) := by omega
      have h4 : (r.size : Int) ≤ 400 := by omega
      go_enter Tryz.func49, Tryz.ntmps49
      go_wp2_with fail
      go_ret
      exact ⟨by simp, rfl⟩
    · rw [decide_eq_false (fun h => h2 h.2)]
      have h3 : (1 : Int) ≤ (r.size : Int) := by omega
      have h4 : (400 : Int) < (r.size : Int) := by omega
      go_enter Tryz.func49, Tryz.ntmps49
      go_wp2_with fail
      go_ret
      exact ⟨by simp [Int.not_le.2 h4], rfl⟩
  · rw [decide_eq_false (fun h => h1 h.1)]
    have h3 : (r.size : Int) < 1 := by omega
    go_enter Tryz.func49, Tryz.ntmps49
    go_wp2_with fail
    go_ret
    exact ⟨by simp, rfl⟩
set_option maxRecDepth 100000 in
set_option maxHeartbeats 1000000 in
theorem rmay_any (r : ByteArray) (w : World) :
    Calls Tryz.prog 59 #[.string r] w fun e w' => e = .returned (.bool (decide (1 ≤ r.size ∧ r.size ≤ 400))) ∧ w = w' := by
  by_cases h1 : 1 ≤ r.size
  · by_cases h2 : r.size ≤ 400
    · rw [decide_eq_true ⟨h1, h2⟩]
      have h3 : (1 : Int) ≤ (r.size : Int) := by omega
      have h4 : (r.size : Int) ≤ 400 := by omega
      go_enter Tryz.func59, Tryz.ntmps59
      go_wp2_with fail
      go_ret
      exact ⟨by simp, rfl⟩
    · rw [decide_eq_false (fun h => h2 h.2)]
      have h3 : (1 : Int) ≤ (r.size : Int) := by omega
      have h4 : (400 : Int) < (r.size : Int) := by omega
      go_enter Tryz.func59, Tryz.ntmps59
      go_wp2_with fail
      go_ret
      exact ⟨by simp [Int.not_le.2 h4], rfl⟩
  · rw [decide_eq_false (fun h => h1 h.1)]
    have h3 : (r.size : Int) < 1 := by omega
    go_enter Tryz.func59, Tryz.ntmps59
    go_wp2_with fail
    go_ret
    exact ⟨by simp, rfl⟩
end Go.Proofs.YtkndifannjpbcaaGreatDoor
/- The walks over package page and its reference: a new page. -/
namespace Go.Proofs.YtkndifannjpbcaaGreatDoor
open Go.RowKit

/-- A new page of a kind; empty: there is no such kind. -/
def newB (n : Int) : ByteArray := if n < 0 ∨ 4 < n then ⟨#[]⟩ else ⟨(Pg.layL ⟨0, n.toNat, 0, []⟩).toArray⟩

set_option maxRecDepth 100000 in
set_option maxHeartbeats 1000000 in
theorem new_any (n : Int) (w : World) :
    Calls Tryz.prog 12 #[.int .i64 n] w fun e w' => e = .returned (.string (newB n)) ∧ Below w.heap.size w w' := by
  by_cases h1 : n < 0
  · rw [show newB n = ⟨#[]⟩ from if_pos (.inl h1)]
    go_enter Tryz.func12, Tryz.ntmps12
    go_wp2_with fail
    go_ret
    exact ⟨rfl, Below.refl _ _⟩
  · by_cases h2 : 4 < n
    · rw [show newB n = ⟨#[]⟩ from if_pos (.inr h2)]
      go_enter Tryz.func12, Tryz.ntmps12
      go_wp2_with fail
      go_ret
      exact ⟨rfl, Below.refl _ _⟩
    · obtain ⟨k, rfl⟩ := Int.eq_ofNat_of_zero_le (show 0 ≤ n by omega)
      have HM := Lib.hid (fun W => made_any ⟨0, k, 0, []⟩ none 0 ⟨(by show 0 < 281474976710656; omega), (by show k ≤ 4; omega), (by show 0 < 16777216; omega)⟩ (by show 19 ≤ 1099511627776; omega) W (fun h0 => by simp at h0))
      rw [show newB (k : Int) = ⟨(Pg.layL ⟨0, k, 0, []⟩).toArray⟩ by unfold newB; rw [if_neg (by omega)]; rfl]
      generalize (⟨(Pg.layL ⟨0, k, 0, []⟩).toArray⟩ : ByteArray) = q at HM ⊢
      have h3 : (0 : Int) ≤ (k : Int) := by omega
      have h4 : (k : Int) ≤ 4 := by omega
      clear h1 h2
      go_enter Tryz.func12, Tryz.ntmps12
      go_wp2_with (go_at_call 18; refine (HM.out _).mono ?_; rintro e w1 ⟨rfl, hb1⟩)
      go_ret
      exact ⟨rfl, hb1⟩
end Go.Proofs.YtkndifannjpbcaaGreatDoor
/- The walks over package page and its reference: another LSN, another link. -/
namespace Go.Proofs.YtkndifannjpbcaaGreatDoor
open Go.RowKit

/-- A page with another LSN, with the sum 0; empty: it can't be. -/
def lsnB (p : ByteArray) (n : Int) : ByteArray := if isPg p = false ∨ n < 0 ∨ 281474976710656 ≤ n then ⟨#[]⟩ else ⟨(Pg.layL ⟨n.toNat, (leafP p).kind, (leafP p).link, (leafP p).recs⟩).toArray⟩
def linkB (p : ByteArray) (n : Int) : ByteArray := if isPg p = false ∨ n < 0 ∨ 16777216 ≤ n then ⟨#[]⟩ else ⟨(Pg.layL ⟨(leafP p).lsn, (leafP p).kind, n.toNat, (leafP p).recs⟩).toArray⟩

set_option maxRecDepth 100000 in
set_option maxHeartbeats 1000000 in
theorem setlsn_any (p : ByteArray) (n : Int) (hm : p.size ≤ 140737488355328) (w : World) :
    Calls Tryz.prog 56 #[.string p, .int .i64 n] w fun e w' => e = .returned (.string (lsnB p n)) ∧ Below w.heap.size w w' := by
  have HT := Lib.hid (fun W => take_leaf p hm W)
  have hfine := Pg.leafOf_fine p.data.toList
  cases hb : isPg p with
  | false =>
    rw [show lsnB p n = ⟨#[]⟩ from if_pos (.inl hb)]
    rw [hb] at HT
    generalize leafP p = x at HT
    clear hfine
    go_enter Tryz.func56, Tryz.ntmps56
    go_wp2_with (go_at_call 19; refine (HT.out _).mono ?_; rintro e w1 ⟨A, c, rfl, hcl, hb1⟩)
    go_ret
    exact ⟨rfl, below_past_alloc hb1⟩
  | true =>
    rw [hb] at HT
    by_cases h1 : n < 0
    · rw [show lsnB p n = ⟨#[]⟩ from if_pos (.inr (.inl h1))]
      generalize leafP p = x at HT
      clear hfine
      go_enter Tryz.func56, Tryz.ntmps56
      go_wp2_with (go_at_call 19; refine (HT.out _).mono ?_; rintro e w1 ⟨A, c, rfl, hcl, hb1⟩)
      go_ret
      exact ⟨rfl, below_past_alloc hb1⟩
    · by_cases h2 : 281474976710656 ≤ n
      · rw [show lsnB p n = ⟨#[]⟩ from if_pos (.inr (.inr h2))]
        generalize leafP p = x at HT
        clear hfine
        go_enter Tryz.func56, Tryz.ntmps56
        go_wp2_with (go_at_call 19; refine (HT.out _).mono ?_; rintro e w1 ⟨A, c, rfl, hcl, hb1⟩)
        go_ret
        exact ⟨rfl, below_past_alloc hb1⟩
      · have hnn : ((n.toNat : Nat) : Int) = n := by omega
        have hk : n.toNat < 281474976710656 := by omega
        rw [show lsnB p n = ⟨(Pg.layL ⟨n.toNat, (leafP p).kind, (leafP p).link, (leafP p).recs⟩).toArray⟩ by unfold lsnB; rw [if_neg (by rw [hb]; simp; omega)]]
        have h3 : (0 : Int) ≤ n := by omega
        have h4 : n < 281474976710656 := by omega
        clear h1 h2
        change Pg.Fine (leafP p) at hfine
        generalize leafP p = x at HT hfine ⊢
        have HM := Lib.hid (fun A c W hW => made_any ⟨n.toNat, x.kind, x.link, x.recs⟩ A c ⟨hk, hfine.small.2.1, hfine.small.2.2⟩ (by have := hfine.sizeN; show Pg.sizeN x.recs ≤ _; omega) W hW)
        clear hfine hk hb
        generalize (⟨(Pg.layL ⟨n.toNat, x.kind, x.link, x.recs⟩).toArray⟩ : ByteArray) = q at HM ⊢
        simp only [hnn] at HM
        clear hnn
        go_enter Tryz.func56, Tryz.ntmps56
        go_wp2_with (first | (go_at_call 19; refine (HT.out _).mono ?_; rintro e w1 ⟨A, c, rfl, hcl, hb1⟩) | (go_at_call 18; refine (HM.out A c _ (hcl.cells.below ((Below.refl _ _).alloc (Nat.le_refl _) _))).mono ?_; rintro e w2 ⟨rfl, hb2⟩))
        go_ret
        exact ⟨rfl, andThen (below_past_alloc hb1) hb2⟩
set_option maxRecDepth 100000 in
set_option maxHeartbeats 1000000 in
theorem setlink_any (p : ByteArray) (n : Int) (hm : p.size ≤ 140737488355328) (w : World) :
    Calls Tryz.prog 54 #[.string p, .int .i64 n] w fun e w' => e = .returned (.string (linkB p n)) ∧ Below w.heap.size w w' := by
  have HT := Lib.hid (fun W => take_leaf p hm W)
  have hfine := Pg.leafOf_fine p.data.toList
  cases hb : isPg p with
  | false =>
    rw [show linkB p n = ⟨#[]⟩ from if_pos (.inl hb)]
    rw [hb] at HT
    generalize leafP p = x at HT
    clear hfine
    go_enter Tryz.func54, Tryz.ntmps54
    go_wp2_with (go_at_call 19; refine (HT.out _).mono ?_; rintro e w1 ⟨A, c, rfl, hcl, hb1⟩)
    go_ret
    exact ⟨rfl, below_past_alloc hb1⟩
  | true =>
    rw [hb] at HT
    by_cases h1 : n < 0
    · rw [show linkB p n = ⟨#[]⟩ from if_pos (.inr (.inl h1))]
      generalize leafP p = x at HT
      clear hfine
      go_enter Tryz.func54, Tryz.ntmps54
      go_wp2_with (go_at_call 19; refine (HT.out _).mono ?_; rintro e w1 ⟨A, c, rfl, hcl, hb1⟩)
      go_ret
      exact ⟨rfl, below_past_alloc hb1⟩
    · by_cases h2 : 16777216 ≤ n
      · rw [show linkB p n = ⟨#[]⟩ from if_pos (.inr (.inr h2))]
        generalize leafP p = x at HT
        clear hfine
        go_enter Tryz.func54, Tryz.ntmps54
        go_wp2_with (go_at_call 19; refine (HT.out _).mono ?_; rintro e w1 ⟨A, c, rfl, hcl, hb1⟩)
        go_ret
        exact ⟨rfl, below_past_alloc hb1⟩
      · have hnn : ((n.toNat : Nat) : Int) = n := by omega
        have hk : n.toNat < 16777216 := by omega
        rw [show linkB p n = ⟨(Pg.layL ⟨(leafP p).lsn, (leafP p).kind, n.toNat, (leafP p).recs⟩).toArray⟩ by unfold linkB; rw [if_neg (by rw [hb]; simp; omega)]]
        have h3 : (0 : Int) ≤ n := by omega
        have h4 : n < 16777216 := by omega
        clear h1 h2
        change Pg.Fine (leafP p) at hfine
        generalize leafP p = x at HT hfine ⊢
        have HM := Lib.hid (fun A c W hW => made_any ⟨x.lsn, x.kind, n.toNat, x.recs⟩ A c ⟨hfine.small.1, hfine.small.2.1, hk⟩ (by have := hfine.sizeN; show Pg.sizeN x.recs ≤ _; omega) W hW)
        clear hfine hk hb
        generalize (⟨(Pg.layL ⟨x.lsn, x.kind, n.toNat, x.recs⟩).toArray⟩ : ByteArray) = q at HM ⊢
        simp only [hnn] at HM
        clear hnn
        go_enter Tryz.func54, Tryz.ntmps54
        go_wp2_with (first | (go_at_call 19; refine (HT.out _).mono ?_; rintro e w1 ⟨A, c, rfl, hcl, hb1⟩) | (go_at_call 18; refine (HM.out A c _ (hcl.cells.below ((Below.refl _ _).alloc (Nat.le_refl _) _))).mono ?_; rintro e w2 ⟨rfl, hb2⟩))
        go_ret
        exact ⟨rfl, andThen (below_past_alloc hb1) hb2⟩
end Go.Proofs.YtkndifannjpbcaaGreatDoor
