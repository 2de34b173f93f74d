/- The walks over package page and its reference: a page taken apart. -/
import Derived.Test.YtgbihdlahghonaaPageB
import Derived.Deep.AppendLies
import Derived.Laws.ResultCell
import Derived.Laws.Tables
namespace Go.Proofs.Ytgbihdlahghonaa
open Go.RowKit

theorem intOf_small (u : Nat) (h : u < 281474976710656) : Oct.intOf u = (u : Int) := by
  unfold Oct.intOf; rw [if_pos (by omega)]
theorem getN_lt (s : List UInt8) (a k : Nat) (h : k ≤ 6) : Oct.getN s a k < 281474976710656 := by
  have h1 := Oct.getL_lt ((s.drop a).take k)
  have h2 : 256 ^ ((s.drop a).take k).length ≤ 256 ^ 6 := Nat.pow_le_pow_right (by omega) (by rw [List.length_take]; omega)
  unfold Oct.getN; omega

theorem num_any (s : ByteArray) (a size : Int) (h0 : 0 ≤ a) (h1 : 1 ≤ size) (h6 : size ≤ 6) (hin : a + size ≤ s.size) (hm : s.size ≤ 1048576) (w : World) :
    Calls Try.prog 124 #[.string s, .int .i64 a, .int .i64 size] w fun e w' => e = .returned (.int .i64 (Oct.getN s.data.toList a.toNat size.toNat)) ∧ Below w.heap.size w w' := by
  obtain ⟨a, rfl⟩ := Int.eq_ofNat_of_zero_le h0
  obtain ⟨k, rfl⟩ := Int.eq_ofNat_of_zero_le (show 0 ≤ size by omega)
  have HC := Lib.hid (fun W => get_yes s a k (by omega) (by omega) (by omega) (by omega) W)
  rw [intOf_small _ (getN_lt _ _ _ (by omega))] at HC
  go_enter Try.func124, Try.ntmps124
  go_wp2_with (go_at_call 101; refine (HC.out _).mono ?_; rintro e w' ⟨rfl, hb⟩)
  go_ret
  exact ⟨rfl, hb⟩
theorem rnum_any (s : ByteArray) (a size : Int) (h0 : 0 ≤ a) (h1 : 1 ≤ size) (h6 : size ≤ 6) (hin : a + size ≤ s.size) (hm : s.size ≤ 1048576) (w : World) :
    Calls Try.prog 109 #[.string s, .int .i64 a, .int .i64 size] w fun e w' => e = .returned (.int .i64 (Oct.getN s.data.toList a.toNat size.toNat)) ∧ w = w' := by
  obtain ⟨a, rfl⟩ := Int.eq_ofNat_of_zero_le h0
  obtain ⟨k, rfl⟩ := Int.eq_ofNat_of_zero_le (show 0 ≤ size by omega)
  have HC := Lib.hid (fun W => rget_yes s a k (by omega) (by omega) (by omega) (by omega) W)
  rw [intOf_small _ (getN_lt _ _ _ (by omega))] at HC
  go_enter Try.func109, Try.ntmps109
  go_wp2_with (go_at_call 102; refine (HC.out _).mono ?_; rintro e w' ⟨rfl, rfl⟩)
  go_ret
  exact ⟨rfl, rfl⟩

theorem blk4 {w : World} {b : Nat} {T : TypeId} {v0 v1 v2 v3 : Value} (h : w.heap[b]? = some (.cells #[v0, v1, v2, v3] T (0, 0))) :
    w.cell? ⟨b, 0, none⟩ = some v0 ∧ w.cell? ⟨b, 1, none⟩ = some v1 ∧ w.cell? ⟨b, 2, none⟩ = some v2 ∧ w.cell? ⟨b, 3, none⟩ = some v3 ∧
    w.frozen? ⟨b, 0, none⟩ = false ∧ w.frozen? ⟨b, 1, none⟩ = false ∧ w.frozen? ⟨b, 2, none⟩ = false ∧ w.frozen? ⟨b, 3, none⟩ = false := by
  refine ⟨by rw [cell_of_blk h]; rfl, by rw [cell_of_blk h]; rfl, by rw [cell_of_blk h]; rfl, by rw [cell_of_blk h]; rfl, ?_, ?_, ?_, ?_⟩ <;> simp [World.frozen?, h]
theorem blk_new {w w' : World} {o : Obj} (hb : Below (w.alloc o).heap.size (w.alloc o) w') : w'.heap[w.heap.size]? = some o :=
  (hb.block _ (by simp)).trans (heap_alloc_new w _)
theorem blk_old {w w' : World} {b : Nat} {o : Obj} (h : w.heap[b]? = some o) (hb : Below w.heap.size w w') : w'.heap[b]? = some o := by
  have hlt : b < w.heap.size := by
    rcases Nat.lt_or_ge b w.heap.size with h' | h'
    · exact h'
    · rw [Array.getElem?_eq_none h'] at h; cases h
  rw [hb.block b hlt]; exact h
theorem blk_past {w w' : World} {b : Nat} {o o2 : Obj} (h : w.heap[b]? = some o) (hb : Below (w.alloc o2).heap.size (w.alloc o2) w') : w'.heap[b]? = some o := by
  have hlt : b < w.heap.size := by
    rcases Nat.lt_or_ge b w.heap.size with h' | h'
    · exact h'
    · rw [Array.getElem?_eq_none h'] at h; cases h
  rw [hb.block b (by simp; omega), Below.heap_alloc w o2 b hlt]; exact h
theorem below_past {w w' : World} {o : Obj} (hb : Below (w.alloc o).heap.size (w.alloc o) w') : Below w.heap.size w w' :=
  ((Below.refl _ _).alloc (Nat.le_refl _) _).trans (hb.mono (by simp))

theorem info_string : (Try.prog.info? 9).map (fun i => (i.zero, i.size, i.bytes)) = some (some (.string ⟨#[]⟩), 1, 16) := by kernel_rfl

theorem ownsRow_below {w w' : World} {B : Nat} {e : TypeId} {size n : Nat} {v : Value} {xs : List Value} (h : w.ownsRow B e size v n xs) (hb : Below w.heap.size w w') : w'.ownsRow B e size v n xs := by
  refine ⟨h.1, ?_⟩
  rcases h.2 with hz | ⟨g, cap, cur, hv, hg, hh, r⟩
  · exact .inl hz
  · exact .inr ⟨g, cap, cur, hv, hg, blk_old hh hb, r⟩
theorem blk_set {w : World} {b : Nat} (i : Nat) {cs : Array Value} {T : TypeId} {fr : Nat × Nat} (h : w.heap[b]? = some (.cells cs T fr)) (v : Value) : (w.setCell ⟨b, i, none⟩ v).heap[b]? = some (.cells (cs.setIfInBounds i v) T fr) := by
  rw [setCell_eq_setRow w b i cs T fr v h]
  exact setRow_heap w b _ _ T _ h
theorem ownsRow_set {w : World} {B : Nat} {e : TypeId} {size n : Nat} {v : Value} {xs : List Value} (h : w.ownsRow B e size v n xs) (a : Addr) (u : Value) (ha : a.block < B) : (w.setCell a u).ownsRow B e size v n xs := by
  refine ⟨h.1, ?_⟩
  rcases h.2 with hz | ⟨g, cap, cur, hv, hg, hh, r⟩
  · exact .inl hz
  · exact .inr ⟨g, cap, cur, hv, hg, by rw [Below.heap_setCell _ _ _ _ (by omega)]; exact hh, r⟩
theorem own_alloc_drew {w : World} {B : Nat} {e : TypeId} {size n : Nat} {v : Value} {xs : List Value} (h : w.ownsRow B e size v n xs) (o : Obj) : (w.alloc o).drew.ownsRow B e size v n xs :=
  ownsRow_below h (((Below.refl _ _).alloc (Nat.le_refl _) o).drew)

theorem extract_eq (p : ByteArray) (a l : Nat) : p.extract a (a + l) = ⟨((p.data.toList.drop a).take l).toArray⟩ := by
  apply ByteArray.ext
  apply Array.ext'
  simp

/-- A slice of texts whose block is at B or past it. -/
def OwnCells (B : Nat) (w : World) (A : Option Addr) (c : Nat) (rs : List ByteArray) : Prop :=
  0 < rs.length → ∃ b, A = some ⟨b, 0, none⟩ ∧ B ≤ b ∧ rs.length ≤ c ∧ b < w.heap.size ∧ ∀ j (hj : j < rs.length), w.cell? ⟨b, j, none⟩ = some (.string rs[j])
theorem OwnCells.cells {B : Nat} {w : World} {A : Option Addr} {c : Nat} {rs : List ByteArray} (h : OwnCells B w A c rs) : Cells w A c rs := fun h0 => by
  obtain ⟨b, hA, hB, hc, hlt, hcell⟩ := h h0
  exact ⟨b, 0, hA, hc, hlt, fun j hj => by rw [Nat.zero_add]; exact hcell j hj⟩
theorem OwnCells.set {B : Nat} {w : World} {A : Option Addr} {c : Nat} {rs : List ByteArray} (h : OwnCells B w A c rs) (a : Addr) (ha : a.block < B) (u : Value) : OwnCells B (w.setCell a u) A c rs := fun h0 => by
  obtain ⟨b, hA, hB, hc, hlt, hcell⟩ := h h0
  refine ⟨b, hA, hB, hc, by simpa using hlt, fun j hj => ?_⟩
  rw [← hcell j hj]
  exact World.cell?_of_block (Below.heap_setCell _ _ _ _ (by simp; omega))
theorem OwnCells.mono {B B' : Nat} {w : World} {A : Option Addr} {c : Nat} {rs : List ByteArray} (h : OwnCells B w A c rs) (hB : B' ≤ B) : OwnCells B' w A c rs := fun h0 => by
  obtain ⟨b, hA, h1, h2⟩ := h h0
  exact ⟨b, hA, by omega, h2⟩
theorem OwnCells.below {B : Nat} {w w' : World} {A : Option Addr} {c : Nat} {rs : List ByteArray} (h : OwnCells B w A c rs) (hb : Below w.heap.size w w') : OwnCells B w' A c rs := fun h0 => by
  obtain ⟨b, hA, h1, h2, h3, h4⟩ := h h0
  refine ⟨b, hA, h1, h2, Nat.lt_of_lt_of_le h3 hb.size, fun j hj => ?_⟩
  rw [hb.cell (p := ⟨b, j, none⟩) h3]; exact h4 j hj
theorem own_cells {w : World} {B : Nat} {e : TypeId} {A : Option Addr} {k c : Nat} {rs : List ByteArray} (h : w.ownsRow B e 1 (.slice A k c) k (rs.map Value.string)) (hl : rs.length = k) : OwnCells B w A c rs := fun h0 => by
  rcases h.2 with ⟨h9, -⟩ | ⟨g, cap, cur, hv, hg, hh, h1, h2, h3, h4⟩
  · simp at h9; omega
  · have hv2 : A = some ⟨g, 0, none⟩ ∧ c = cap := by simpa using hv
    obtain ⟨rfl, rfl⟩ := hv2
    refine ⟨g, rfl, hg, by omega, (Array.getElem?_eq_some_iff.1 hh).1, fun j hj => ?_⟩
    have h5 : cur.toList[j]? = some (.string rs[j]) := by
      have h6 : (rs.map Value.string)[j]? = some (.string rs[j]) := by simp [hj]
      rw [← h4, List.getElem?_take_of_lt (by omega)] at h6
      exact h6
    rw [cell_of_blk hh]
    simpa using h5

/-- The struct of a page's parts. -/
abbrev leafV (x : Pg.Leaf) (A : Option Addr) (c : Nat) : Value := .agg #[.int .i64 x.lsn, .int .i64 x.kind, .int .i64 x.link, .slice A x.recs.length c]
abbrev zeroV : Value := .agg #[.int .i64 0, .int .i64 0, .int .i64 0, .slice none 0 0]
/-- What comes back where a page is taken apart: the parts and true, or zero and false. -/
def Gives1 (r : Option Pg.Leaf) (w : World) (e : Ending) (w' : World) : Prop :=
  (match r with
    | some x => ∃ A c, e = .returned (.tuple #[leafV x A c, .bool true]) ∧ OwnCells w.heap.size w' A c x.recs
    | none => e = .returned (.tuple #[zeroV, .bool false])) ∧ Below w.heap.size w w'

set_option maxRecDepth 100000 in
set_option maxHeartbeats 2000000 in
theorem read_any (p : ByteArray) (hm : p.size ≤ 1048576) (w : World) :
    Calls Try.prog 108 #[.string p] w (Gives1 (Pg.rd p.data.toList) w) := by
  by_cases h512 : p.size = 512
  · have HL := Lib.hid (show p.data.toList.length = 512 by have h9 : p.data.toList.length = p.size := (by simp); omega)
    obtain ⟨lsn, hlsn⟩ : ∃ n, n = Oct.getN p.data.toList 4 6 := ⟨_, rfl⟩
    obtain ⟨kind, hkind⟩ : ∃ n, n = Oct.getN p.data.toList 10 1 := ⟨_, rfl⟩
    obtain ⟨link, hlink⟩ : ∃ n, n = Oct.getN p.data.toList 12 3 := ⟨_, rfl⟩
    obtain ⟨n, hn⟩ : ∃ n, n = Oct.getN p.data.toList 15 2 := ⟨_, rfl⟩
    have HN1 := Lib.hid (fun W => num_any p 4 6 (by omega) (by omega) (by omega) (by omega) hm W)
    have HN2 := Lib.hid (fun W => num_any p 10 1 (by omega) (by omega) (by omega) (by omega) hm W)
    have HN3 := Lib.hid (fun W => num_any p 12 3 (by omega) (by omega) (by omega) (by omega) hm W)
    have HN4 := Lib.hid (fun W => num_any p 15 2 (by omega) (by omega) (by omega) (by omega) hm W)
    rw [show ((4 : Int).toNat) = 4 from rfl, show ((6 : Int).toNat) = 6 from rfl, ← hlsn] at HN1
    rw [show ((10 : Int).toNat) = 10 from rfl, show ((1 : Int).toNat) = 1 from rfl, ← hkind] at HN2
    rw [show ((12 : Int).toNat) = 12 from rfl, show ((3 : Int).toNat) = 3 from rfl, ← hlink] at HN3
    rw [show ((15 : Int).toNat) = 15 from rfl, show ((2 : Int).toNat) = 2 from rfl, ← hn] at HN4
    have HQ1 := Lib.hid hlsn
    have HQ2 := Lib.hid hkind
    have HQ3 := Lib.hid hlink
    have HQ4 := Lib.hid hn
    clear hlsn hkind hlink hn
    by_cases hbad : 4 < kind ∨ 123 < n
    · have HR := Lib.hid (show Pg.rd p.data.toList = none by rw [Pg.rd, if_pos (by rw [← HQ2.out, ← HQ4.out]; exact .inr hbad)])
      have hb1 : 4 < kind ∨ (kind ≤ 4 ∧ 123 < n) := by omega
      clear hbad
      rcases hb1 with h1 | ⟨h1, h2⟩
      all_goals
        go_enter Try.func108, Try.ntmps108
        go_wp2_with (first | (go_at_call 124; (with_reducible refine (HN1.out _).mono ?_); rintro e w1 ⟨rfl, hb1⟩) | (go_at_call 124; (with_reducible refine (HN2.out _).mono ?_); rintro e w2 ⟨rfl, hb2⟩) | (go_at_call 124; (with_reducible refine (HN3.out _).mono ?_); rintro e w3 ⟨rfl, hb3⟩) | (go_at_call 124; (with_reducible refine (HN4.out _).mono ?_); rintro e w4 ⟨rfl, hb4⟩; obtain ⟨a0, a1, a2, a3, -⟩ := blk4 (blk_new hb4); obtain ⟨c0, c1, c2, c3, f0, f1, f2, f3⟩ := blk4 (blk_past (blk_old (blk_old (blk_new hb1) hb2) hb3) hb4)))
        refine bodyPost_ret (v := .tuple #[zeroV, .bool false]) (by simp [results, Try.results108, go_sem, c0, c1, c2, c3]) rfl ?_
        unfold Gives1
        rw [HR.out]
        have hbw : Below w.heap.size w w4 := andThen (andThen (andThen (below_past hb1) hb2) hb3) (below_past hb4)
        refine ⟨rfl, ?_⟩
        repeat (first | exact hbw | refine Below.setCell ?_ (by simp) _)
    · obtain ⟨hk4, hn123⟩ : kind ≤ 4 ∧ n ≤ 123 := by omega
      have HRD := Lib.hid (show Pg.rd p.data.toList = (Pg.recsOf p.data.toList n).map fun rs => ⟨lsn, kind, link, rs⟩ by
        rw [Pg.rd, if_neg (by rw [← HQ2.out, ← HQ4.out]; have := HL.out; omega), ← HQ1.out, ← HQ2.out, ← HQ3.out, ← HQ4.out])
      clear hbad
      go_enter Try.func108, Try.ntmps108
      go_upto_block 0 with (first | (go_at_call 124; (with_reducible refine (HN1.out _).mono ?_); rintro e w1 ⟨rfl, hb1⟩) | (go_at_call 124; (with_reducible refine (HN2.out _).mono ?_); rintro e w2 ⟨rfl, hb2⟩) | (go_at_call 124; (with_reducible refine (HN3.out _).mono ?_); rintro e w3 ⟨rfl, hb3⟩) | (go_at_call 124; (with_reducible refine (HN4.out _).mono ?_); rintro e w4 ⟨rfl, hb4⟩; obtain ⟨a0, a1, a2, a3, -⟩ := blk4 (blk_new hb4)))
      have hX := blk_new hb4
      have hZ := blk_past (blk_old (blk_old (blk_new hb1) hb2) hb3) hb4
      have hbw : Below w.heap.size w w4 := andThen (andThen (andThen (below_past hb1) hb2) hb3) (below_past hb4)
      have hlt : w.heap.size < w3.heap.size := by
        have := hb1.size; have := hb2.size; have := hb3.size; simp at *; omega
      have hlt4 : w3.heap.size < w4.heap.size := by have := hb4.size; simp at this; omega
      clear hb1 hb2 hb3 hb4 a0 a1 a2 a3
      generalize w3.heap.size = X at hX hlt hlt4 ⊢
      have HX := Lib.hid hX
      have HZ := Lib.hid hZ
      have HW := Lib.hid hbw
      clear hX hZ hbw
      go_wp2_with fail
      go_loopw [31] (fun i wr => ∃ (k : Nat) (rs : List ByteArray) (A : Option Addr) (c : Nat), k ≤ n ∧ i = .int .i64 k ∧ Pg.recsOf p.data.toList k = some rs ∧ wr.heap[X]? = some (.cells #[.int .i64 lsn, .int .i64 kind, .int .i64 link, .slice A k c] 67 (0, 0)) ∧ wr.heap[w.heap.size]? = some (.cells #[.int .i64 0, .int .i64 0, .int .i64 0, .slice none 0 0] 67 (0, 0)) ∧ wr.ownsRow w4.heap.size 9 1 (.slice A k c) k (rs.map Value.string) ∧ Below w.heap.size w wr ∧ w4.heap.size ≤ wr.heap.size) (fun i _ => n - (intOf i).toNat)
      case atStart => exact ⟨0, [], none, 0, Nat.zero_le _, rfl, rfl, HX.out, HZ.out, ⟨rfl, .inl ⟨rfl, rfl⟩⟩, HW.out, Nat.le_refl _⟩
      case round =>
        obtain ⟨k, rs, A, c, hk, rfl, hrs, hX, hZ, hown, hbw, hge⟩ := hrel
        have hrl := Pg.recsOf_length _ _ _ hrs
        have HRS := Lib.hid hrs
        have HX2 := Lib.hid hX
        have HZ2 := Lib.hid hZ
        have HO := Lib.hid hown
        have HW2 := Lib.hid hbw
        have HRL := Lib.hid hrl
        clear hrs hX hZ hown hbw hrl
        by_cases hkn : k < n
        · obtain ⟨at_, hat⟩ : ∃ a, a = Oct.getN p.data.toList (19 + 4 * k) 2 := ⟨_, rfl⟩
          obtain ⟨long, hlong⟩ : ∃ a, a = Oct.getN p.data.toList (21 + 4 * k) 2 := ⟨_, rfl⟩
          have hal : at_ < 65536 := by
            have h1 := Oct.getL_lt ((p.data.toList.drop (19 + 4 * k)).take 2)
            have h2 : 256 ^ ((p.data.toList.drop (19 + 4 * k)).take 2).length ≤ 256 ^ 2 := Nat.pow_le_pow_right (by omega) (by rw [List.length_take]; omega)
            rw [hat]; unfold Oct.getN; omega
          have hll : long < 65536 := by
            have h1 := Oct.getL_lt ((p.data.toList.drop (21 + 4 * k)).take 2)
            have h2 : 256 ^ ((p.data.toList.drop (21 + 4 * k)).take 2).length ≤ 256 ^ 2 := Nat.pow_le_pow_right (by omega) (by rw [List.length_take]; omega)
            rw [hlong]; unfold Oct.getN; omega
          have HA := Lib.hid (fun W => num_any p (19 + 4 * (k : Int)) 2 (by omega) (by omega) (by omega) (by omega) hm W)
          have HB := Lib.hid (fun W => num_any p (19 + 4 * (k : Int) + 2) 2 (by omega) (by omega) (by omega) (by omega) hm W)
          rw [show (19 + 4 * (k : Int)).toNat = 19 + 4 * k by omega, show ((2 : Int).toNat) = 2 from rfl, ← hat] at HA
          rw [show (19 + 4 * (k : Int) + 2).toNat = 21 + 4 * k by omega, show ((2 : Int).toNat) = 2 from rfl, ← hlong] at HB
          have HAT := Lib.hid hat
          have HLO := Lib.hid hlong
          clear hat hlong
          by_cases hbad : 400 < long ∨ 512 < at_ + long
          · have HN := Lib.hid (show Pg.rd p.data.toList = none by
              have h1 : Pg.recsOf p.data.toList (k + 1) = none := by
                simp only [Pg.recsOf, HRS.out]
                rw [if_pos (by rw [← HAT.out, ← HLO.out]; exact hbad)]
              have h2 := Pg.recsOf_none _ h1 (n - (k + 1))
              rw [show k + 1 + (n - (k + 1)) = n by omega] at h2
              rw [HRD.out, h2]; rfl)
            have hb1 : 400 < long ∨ (long ≤ 400 ∧ (512 : Int) - (long : Int) < (at_ : Int)) := by omega
            clear hbad
            rcases hb1 with h1 | ⟨h1, h2⟩
            all_goals
              go_wp2_with (first | (go_at_call 124; (with_reducible refine (HA.out _).mono ?_); rintro e w5 ⟨rfl, hb5⟩) | (go_at_call 124; (with_reducible refine (HB.out _).mono ?_); rintro e w6 ⟨rfl, hb6⟩; obtain ⟨c0, c1, c2, c3, f0, f1, f2, f3⟩ := blk4 (blk_old (blk_old HZ2.out hb5) hb6)))
              refine bodyPost_ret (v := .tuple #[zeroV, .bool false]) (by simp [results, Try.results108, go_sem, c0, c1, c2, c3]) rfl ?_
              unfold Gives1
              rw [HN.out]
              have hbw6 : Below w.heap.size w w6 := andThen (andThen HW2.out hb5) hb6
              refine ⟨rfl, ?_⟩
              repeat (first | exact hbw6 | refine Below.setCell ?_ (by simp) _)
          · obtain ⟨hl4, hal5⟩ : long ≤ 400 ∧ at_ + long ≤ 512 := by omega
            clear hbad
            go_upto_region 13 with (first | (go_at_call 124; (with_reducible refine (HA.out _).mono ?_); rintro e w5 ⟨rfl, hb5⟩) | (go_at_call 124; (with_reducible refine (HB.out _).mono ?_); rintro e w6 ⟨rfl, hb6⟩))
            obtain ⟨i0, hi0, hz0, hz1, hz2⟩ := info_parts info_string
            have hb56 : Below wr.heap.size wr w6 := andThen hb5 hb6
            have hX6 := blk_old HX2.out hb56
            have hZ6 := blk_old HZ2.out hb56
            have hown6 : w6.ownsRow w4.heap.size 9 1 (.slice A k c) k (rs.map Value.string) := ownsRow_below HO.out hb56
            have hW6 : Below w.heap.size w w6 := andThen HW2.out hb56
            have hs6 := hb56.size
            obtain ⟨x0, x1, x2, x3, g0, g1, g2, g3⟩ := blk4 hX6
            have hp1 : (0 : Int) ≤ (at_ : Int) := by omega
            have hp2 : (at_ : Int) ≤ (at_ : Int) + (long : Int) := by omega
            have hp3 : (at_ : Int) + (long : Int) ≤ 512 := by omega
            have hp4 : IntKind.i64.wrap ((at_ : Int) + (long : Int)) = (at_ : Int) + (long : Int) := IntWalk.i64_in _ (by omega)
            have hp5 : ((at_ : Int) + (long : Int)).toNat = at_ + long := by omega
            have hp6 : 0 ≤ (at_ : Int) + (long : Int) := by omega
            have hp7 : at_ ≤ at_ + long := by omega
            have hp8 : at_ + long ≤ p.size := by omega
            clear hb5 hb6 hb56
            have HF := Lib.hid (show ∀ w7 : World, ((w6.alloc (.cells #[.string (p.extract at_ (at_ + long))] 9)).drew).grownBy w7 (Value.slice A k c).ownBlock → ∀ (b : Nat) (o : Obj), b < w4.heap.size → w6.heap[b]? = some o → w7.heap[b]? = some o by
              intro w7 hg b o hb ho
              rw [hg.block b (by simp; omega) (fun e9 => absurd (hown6.lt b e9.symm).1 (by omega))]
              exact (Below.heap_alloc w6 _ b (by omega)).trans ho)
            obtain ⟨-, -, -, z3, -⟩ := blk4 ((Below.heap_alloc w6 (.cells #[.string (p.extract at_ (at_ + long))] 9) X (by omega)).trans hX6)
            go_region_law? (refine step_append_lies _ (by rfl) _ _ _ (by rfl) w4.heap.size 9 i0 (.string ⟨#[]⟩) 1 16 Try.underlying40 hi0 hz0 hz1 hz2 rfl (by omega) (.slice A k c) k (rs.map Value.string) (by rfl) (own_alloc_drew hown6 _) ⟨w6.heap.size, 0, none⟩ 1 1 [.string (p.extract at_ (at_ + long))] (by rfl) (by rfl) (World.news_of_block (cs := #[.string (p.extract at_ (at_ + long))]) (t := 9) (fr := (0, 0)) (heap_alloc_new w6 _)) (by simp [Value.oneCell']) (by omega) (by simp [maxLen]; omega) (by omega) (by simp; omega) (w6.heap.size + 1) (by simp) ?_; intro gg cap w7 hown7 hgrow hat7 hlt7; obtain ⟨y0, y1, y2, y3, k0, k1, k2, k3⟩ := blk4 (HF.out w7 hgrow X _ hlt4 hX6))
            all_goals
              have hX7 := HF.out w7 hgrow X _ hlt4 hX6
              have hZ7 := HF.out w7 hgrow w.heap.size _ (by omega) hZ6
              have hb7 : Below w.heap.size w w7 := ((hW6.alloc (by omega) _).drew).grown hgrow (by simp; omega) (fun k9 e9 => by have := (hown6.lt k9 e9).1; omega)
              have hs7 : w6.heap.size + 1 ≤ w7.heap.size := by have := hgrow.size; simp at this; omega
              go_wp2_with fail
              go_roundw
              case rel =>
                refine ⟨k + 1, rs ++ [p.extract at_ (at_ + long)], some ⟨gg, 0, none⟩, cap, by omega, by go_num, ?_, ?_, ?_, ?_, ?_, ?_⟩
                · simp only [Pg.recsOf, HRS.out]
                  rw [if_neg (by rw [← HAT.out, ← HLO.out]; omega), ← HAT.out, ← HLO.out]
                  rw [extract_eq]
                · have := blk_set 3 hX7 (.slice (some ⟨gg, 0, none⟩) (k + 1) cap)
                  simpa using this
                · rw [Below.heap_setCell _ _ _ _ (by simp; omega)]; exact hZ7
                · have := ownsRow_set hown7 ⟨X, 3, none⟩ (.slice (some ⟨gg, 0, none⟩) (k + 1) cap) hlt4
                  simpa using this
                · exact hb7.setCell (by simp; omega) _
                · simp; omega
              case measure => simp [intOf]; omega
        · obtain rfl : k = n := by omega
          have hX := HX2.out
          obtain ⟨x0, x1, x2, x3, -⟩ := blk4 HX2.out
          obtain ⟨c0, c1, c2, c3, f0, f1, f2, f3⟩ := blk4 HZ2.out
          have hne : X ≠ w.heap.size := by omega
          go_wp2_with fail
          refine bodyPost_ret (v := .tuple #[leafV ⟨lsn, kind, link, rs⟩ A c, .bool true]) (by simp [results, Try.results108, go_sem, c0, c1, c2, c3]; exact HRL.out.symm) rfl ?_
          unfold Gives1
          rw [HRD.out, HRS.out]
          have hlen := HRL.out
          have hcl := own_cells HO.out hlen
          refine ⟨⟨A, c, by simp [leafV, hlen], ?_⟩, ?_⟩
          · refine OwnCells.mono (B := w4.heap.size) ?_ (by omega)
            repeat (first | exact hcl | refine OwnCells.set ?_ _ (by simp; omega) _)
          · repeat (first | exact HW2.out | refine Below.setCell ?_ (by simp) _)
  · have hne : ((p.size : Int) == 512) = false := by simp; omega
    have HR := Lib.hid (show Pg.rd p.data.toList = none by
      rw [Pg.rd, if_pos (.inl (by have h9 : p.data.toList.length = p.size := (by simp); omega))])
    clear h512
    go_enter Try.func108, Try.ntmps108
    go_wp2_with fail
    refine bodyPost_ret (v := .tuple #[zeroV, .bool false]) (by simp [results, Try.results108, go_sem]) rfl ?_
    unfold Gives1
    rw [HR.out]
    exact ⟨rfl, (Below.refl _ _).alloc (Nat.le_refl _) _⟩
end Go.Proofs.Ytgbihdlahghonaa
