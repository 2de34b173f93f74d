/- The walks over package page and its reference: Room. -/
import Derived.Test.YtgbihdlahghonaaPageQ
import Derived.IntWalk
namespace Go.Proofs.Ytgbihdlahghonaa
open Go.RowKit

/-- The longest record that comes into the lowest free slot. -/
def roomI (rs : List ByteArray) : Int := max 0 (min (493 - 4 * (max (rs.length : Int) ((Pg.freeN rs : Int) + 1)) - (Pg.sumSizes rs : Int)) 400)
def roomP (p : ByteArray) : Int := if isPg p then roomI (leafP p).recs else 0

/-- A box that holds a page's parts, while nothing but new blocks is made. -/
theorem held_of (w1 : World) (x : Pg.Leaf) (A : Option Addr) (c : Nat) (T : TypeId) (hcl : Cells w1 A c x.recs) :
    Held w1.heap.size x A c (w1.alloc (.cells #[.int .i64 x.lsn, .int .i64 x.kind, .int .i64 x.link, .slice A x.recs.length c] T)) (w1.alloc (.cells #[.int .i64 x.lsn, .int .i64 x.kind, .int .i64 x.link, .slice A x.recs.length c] T)) := by
  have hh := heap_alloc_new w1 (.cells #[.int .i64 x.lsn, .int .i64 x.kind, .int .i64 x.link, .slice A x.recs.length c] T)
  refine ⟨?_, ?_, ?_, ?_, hcl.below ((Below.refl _ _).alloc (Nat.le_refl _) _), by simp, Below.refl _ _⟩
  · rw [cell_of_row _ _ _ _ _ _ hh]; rfl
  · rw [cell_of_row _ _ _ _ _ _ hh]; rfl
  · rw [cell_of_row _ _ _ _ _ _ hh]; rfl
  · rw [cell_of_row _ _ _ _ _ _ hh]; rfl
theorem free_keeps (x : Pg.Leaf) (A : Option Addr) (c : Nat) (hl : x.recs.length ≤ 1099511627776) (X : Nat) (w0 u : World) (h : Held X x A c w0 u) :
    Calls Try.prog 79 #[leafV x A c] u fun e w' => e = .returned (.int .i64 (Pg.freeN x.recs : Nat)) ∧ Held X x A c w0 w' :=
  (free_any_leaf x A c hl u h.2.2.2.2.1).mono fun _ _ ⟨h1, h2⟩ => ⟨h1, h.step h2⟩

set_option maxRecDepth 100000 in
set_option maxHeartbeats 1000000 in
theorem room_any (p : ByteArray) (hm : p.size ≤ 1048576) (w : World) :
    Calls Try.prog 29 #[.string p] w fun e w' => e = .returned (.int .i64 (roomP p)) ∧ Below w.heap.size w w' := by
  have HT := Lib.hid (fun W => take_leaf p hm W)
  have hfine := Pg.leafOf_fine p.data.toList
  change Pg.Fine (leafP p) at hfine
  unfold roomP
  cases hb : isPg p with
  | false =>
    rw [hb] at HT
    generalize leafP p = x at HT
    clear hb hfine
    go_enter Try.func29, Try.ntmps29
    go_wp2_with (go_at_call 75; refine (HT.out _).mono ?_; rintro e w1 ⟨A, c, rfl, hcl, hb1⟩)
    go_ret
    exact ⟨rfl, below_past_alloc hb1⟩
  | true =>
    rw [hb] at HT
    generalize leafP p = x at HT hfine ⊢
    clear hb
    rw [if_pos rfl]
    have hsz : Pg.sizeN x.recs ≤ 60000 := hfine.sizeN
    have hlen : x.recs.length ≤ 123 := hfine.len
    have hfr : Pg.freeN x.recs ≤ x.recs.length := Pg.freeN_le _
    have HR := Lib.hid (show Pg.sizeN x.recs = 19 + 4 * x.recs.length + Pg.sumSizes x.recs from rfl)
    have HSZ := Lib.hid (fun A c W hW => size_any A c x.recs (by omega) W hW)
    have HF := Lib.hid (fun A c X w0 W hW => free_keeps x A c (by omega) X w0 W hW)
    obtain ⟨S, hS⟩ : ∃ S, S = Pg.sizeN x.recs := ⟨_, rfl⟩
    rw [← hS] at HSZ hsz HR
    obtain ⟨f, hf⟩ : ∃ f, f = Pg.freeN x.recs := ⟨_, rfl⟩
    rw [← hf] at HF hfr
    unfold roomI
    rw [← hf]
    clear hS hf hfine
    go_enter Try.func29, Try.ntmps29
    go_upto_region 5 with (first | (go_at_call 75; refine (HT.out _).mono ?_; rintro e w1 ⟨A, c, rfl, hcl, hb1⟩) | (go_at_call 80; refine (HSZ.out A c _ (hcl.cells.below ((Below.refl _ _).alloc (Nat.le_refl _) _))).mono ?_; rintro e w2 ⟨rfl, rfl⟩))
    have HH := Lib.hid (held_of w1 x A c 67 hcl.cells)
    go_cut [22] (fun s we => s = .bool ((f : Int) == x.recs.length) ∧ Held w1.heap.size x A c (w1.alloc (.cells #[.int .i64 x.lsn, .int .i64 x.kind, .int .i64 x.link, .slice A x.recs.length c] 67)) we)
    case first =>
      go_region_held3 (fun we => Held w1.heap.size x A c (w1.alloc (.cells #[.int .i64 x.lsn, .int .i64 x.kind, .int .i64 x.link, .slice A x.recs.length c] 67)) we) (first | assumption | exact HH.out.drew) (first | (go_at_call 79; refine (HF.out _ _ _ _ _ (by assumption)).mono ?_; rintro e w3 ⟨rfl, hS⟩))
      go_wp2_with fail
      go_meet
      case rel => exact ⟨rfl, hS⟩
    case rest =>
      obtain ⟨rfl, hS⟩ := hcut
      go_wp2_with fail
      all_goals
        rename_i hq
        go_ret
        refine ⟨ret_int ?_, ?_⟩
        · have := HR.out
          simp only [beq_iff_eq, beq_eq_false_iff_ne, ne_eq] at hq
          omega
        · exact andThen (below_past_alloc hb1) hS.2.2.2.2.2.2

theorem rfree_keeps (p : ByteArray) (hm : p.size ≤ 1048576) (x : Pg.Leaf) (A : Option Addr) (c : Nat) (X : Nat) (w0 u : World) (h : Held X x A c w0 u) :
    Calls Try.prog 28 #[.string p] u fun e w' => e = .returned (.int .i64 (Pg.freeN (leafP p).recs : Nat)) ∧ Held X x A c w0 w' :=
  (rfree_any p hm u).mono fun _ _ ⟨h1, h2⟩ => ⟨h1, h.step h2⟩
set_option maxRecDepth 100000 in
set_option maxHeartbeats 1000000 in
theorem rroom_any (p : ByteArray) (hm : p.size ≤ 1048576) (w : World) :
    Calls Try.prog 30 #[.string p] w fun e w' => e = .returned (.int .i64 (roomP p)) ∧ Below w.heap.size w w' := by
  have HT := Lib.hid (fun W => rparts_leaf p hm W)
  have hfine := Pg.leafOf_fine p.data.toList
  change Pg.Fine (leafP p) at hfine
  unfold roomP
  cases hb : isPg p with
  | false =>
    rw [hb] at HT
    generalize leafP p = x at HT
    clear hb hfine
    go_enter Try.func30, Try.ntmps30
    go_wp2_with (go_at_call 78; refine (HT.out _).mono ?_; rintro e w1 ⟨y, A, c, rfl, hcl, hb1⟩)
    go_ret
    exact ⟨rfl, below_past_alloc hb1⟩
  | true =>
    rw [hb] at HT
    have HF := Lib.hid (fun x A c X w0 W hW => rfree_keeps p hm x A c X w0 W hW)
    generalize leafP p = x at HT HF hfine ⊢
    clear hb
    rw [if_pos rfl]
    have hsum : Pg.sumSizes x.recs ≤ 49200 := hfine.sum
    have hlen : x.recs.length ≤ 123 := hfine.len
    have hfr : Pg.freeN x.recs ≤ x.recs.length := Pg.freeN_le _
    obtain ⟨f, hf⟩ : ∃ f, f = Pg.freeN x.recs := ⟨_, rfl⟩
    rw [← hf] at HF hfr
    unfold roomI
    rw [← hf]
    clear hf hfine
    go_enter Try.func30, Try.ntmps30
    go_upto_region 4 with (first | (go_at_call 78; refine (HT.out _).mono ?_; rintro e w1 ⟨y, A, c, rfl, hcl, hb1⟩; obtain ⟨hy, hco⟩ := hcl rfl; clear hcl; subst hy))
    have HH := Lib.hid (held_of w1 y A c 71 hco.cells)
    go_cut [5] (fun s we => s = .int .i64 (max (y.recs.length : Int) ((f : Int) + 1)) ∧ Held w1.heap.size y A c (w1.alloc (.cells #[.int .i64 y.lsn, .int .i64 y.kind, .int .i64 y.link, .slice A y.recs.length c] 71)) we)
    case first =>
      go_region_held3 (fun we => Held w1.heap.size y A c (w1.alloc (.cells #[.int .i64 y.lsn, .int .i64 y.kind, .int .i64 y.link, .slice A y.recs.length c] 71)) we) (first | assumption | exact HH.out.drew) (first | (go_at_call 28; refine (HF.out _ _ _ _ _ _ (by assumption)).mono ?_; rintro e w3 ⟨rfl, hS⟩))
      go_wp2_with fail
      go_meet
      case rel => exact ⟨congrArg (fun z => Value.int IntKind.i64 (max (y.recs.length : Int) z)) (IntWalk.i64_in _ (by omega)), hS⟩
    case rest =>
      obtain ⟨rfl, hS⟩ := hcut
      obtain ⟨c0, c1, c2, c3, hC, hX, hbS⟩ := hS
      have HC := Lib.hid hC
      clear hC
      obtain ⟨m, hm⟩ : ∃ m : Int, m = max (y.recs.length : Int) ((f : Int) + 1) := ⟨_, rfl⟩
      rw [← hm]
      have hm1 : 0 ≤ m := by omega
      have hm2 : m ≤ 124 := by omega
      have HM := Lib.hid hm
      clear hm
      go_wp2_with fail
      go_loop [6, 7] (fun n i => ∃ k : Nat, k ≤ y.recs.length ∧ i = .int .i64 k ∧ n = .int .i64 (493 - 4 * m - (Pg.sumSizes (y.recs.take k) : Int))) (fun _ i => y.recs.length - (intOf i).toNat)
      case atStart => exact ⟨0, Nat.zero_le _, rfl, by simp [Pg.sumSizes]⟩
      case round =>
        obtain ⟨k, hk, rfl, rfl⟩ := hrel
        have hst := Pg.sumSizes_take_le y.recs k
        by_cases hlt : k < y.recs.length
        · obtain ⟨b, off, rfl, hc, hbl, hcell⟩ := HC.out.at_ hlt
          have hsn := Pg.sumSizes_snoc y.recs k hlt
          have hst2 := Pg.sumSizes_take_le y.recs (k + 1)
          have hrs : y.recs[k].size ≤ 49200 := by omega
          have HSN := Lib.hid hsn
          clear hsn
          generalize y.recs[k] = r at hcell HSN hrs
          go_wp2_with fail
          go_round
          case rel => exact ⟨k + 1, by omega, by go_num, by rw [HSN.out]; exact congrArg (Value.int IntKind.i64) (by omega)⟩
          case measure => simp [intOf]; omega
        · obtain rfl : k = y.recs.length := by omega
          have HV := Lib.hid (List.take_length (l := y.recs))
          go_wp2_with fail
          go_ret
          refine ⟨ret_int ?_, andThen (below_past_alloc hb1) hbS⟩
          rw [← HM.out]
end Go.Proofs.Ytgbihdlahghonaa
