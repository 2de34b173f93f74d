/- The walks over an empty pool: New, Dirty, and SortFunc of nothing. -/
import Derived.Test.YthfglhafphfhiaaGreatGc08
import Derived.Test.YthfglhafphfhiaaGreatGc07
import Derived.Test.YthfglhafphfhiaaGreatGc02
import Derived.BigRegion
namespace Go.Proofs.YthfglhafphfhiaaGreat
open Go.RowKit
/-- The cells of an empty frame. -/
def frC (_ : Unit) : List Value := [.int .i64 0, .string ⟨#[]⟩, .int .i64 0, .bool false, .int .i64 0]
theorem frC_len (x : Unit) : (frC x).length = 5 := rfl
/-- Four empty frames. -/
def fr4 : List Value := (List.replicate 4 ()).flatMap frC
theorem info_frame : (Tryz.prog.info? 65).map (fun i => (i.zero, i.size, i.bytes)) = some (some (.agg #[.int .i64 0, .string ⟨#[]⟩, .int .i64 0, .bool false, .int .i64 0]), 5, 48) := by kernel_rfl
theorem made_frames : madeCells (Value.agg #[.int .i64 0, .string ⟨#[]⟩, .int .i64 0, .bool false, .int .i64 0]).cells (4 * 5) = fr4.toArray := by kernel_rfl
theorem make_frames (W : World) : (Instr.makeSlice 32 (.int .i64 4) (.int .i64 4)).run Tryz.prog W = .ok (.slice (some ⟨W.heap.size, 0, none⟩) 4 4) (W.alloc (.cells fr4.toArray 65)) := by
  obtain ⟨i0, hi, hz0, hz1, hz2⟩ := info_parts info_frame
  have h := run_make (P := Tryz.prog) W 32 65 i0 (.agg #[.int .i64 0, .string ⟨#[]⟩, .int .i64 0, .bool false, .int .i64 0]) Tryz.underlying32 hi hz0 .i64 .i64 4 4 (by omega) (by omega) (by rw [hz2]; omega) (by omega)
  rw [hz1, show ((4 : Int)).toNat = 4 from rfl, made_frames] at h
  exact h
theorem reads_frames (W : World) : Reads (W.alloc (.cells fr4.toArray 65)) (some ⟨W.heap.size, 0, none⟩) 4 4 fr4 := fun _ => by
  refine ⟨W.heap.size, 0, rfl, Nat.le_refl _, by simp, fun j v hj => ?_⟩
  rw [World.cell?_alloc_new]
  simpa using hj
set_option maxRecDepth 100000 in
set_option maxHeartbeats 8000000 in
theorem cpool_any (w : World) :
    Calls Tryz.prog 62 #[.int .i64 4] w fun e w' => ∃ b, e = .returned (.tuple #[.agg #[.slice (some ⟨b, 0, none⟩) 4 4, .int .i64 0], .int .i64 0]) ∧ Reads w' (some ⟨b, 0, none⟩) 4 4 fr4 ∧ w.heap.size ≤ b ∧ Below w.heap.size w w' := by
  have hmk := fun W => make_frames W
  generalize hfr : fr4.toArray = fr at hmk
  have HFR := Lib.hid hfr
  clear hfr
  go_enter Tryz.func62, Tryz.ntmps62
  go_upto_region 1 with fail
  have H0 := Lib.hid (show BxL w.heap.size w [(#[.slice none 0 0, .int .i64 0], 34)] (w.alloc (.cells #[.slice none 0 0, .int .i64 0] 34)) from ((BxL.nil (Below.refl w.heap.size w)).new (by simp) #[.slice none 0 0, .int .i64 0] 34))
  obtain ⟨W0, hW0⟩ : ∃ W, W = (w.alloc (.cells #[.slice none 0 0, .int .i64 0] 34)) := ⟨_, rfl⟩
  rw [← hW0] at H0 ⊢
  clear hW0
  go_upto_region 3 with fail
  have H1 := Lib.hid (H0.out.step (allocB W0 (.cells fr 65)))
  go_wp2_with (first
    | (with_reducible refine listStore (by kernel_rfl) 34 (.tmp 2) (.tmp 13) rfl w.heap.size #[.slice (some ⟨W0.heap.size, 0, none⟩) 4 4, .int .i64 0] _ _ rfl rfl H1.out.get0 (by kernel_rfl) (by kernel_rfl) (by kernel_rfl) ?_))
  refine bodyPost_ret (v := .tuple #[.agg #[.slice (some ⟨W0.heap.size, 0, none⟩) 4 4, .int .i64 0], .int .i64 0]) (results_cell2 rfl _ _ rfl (load_whole (setRow_heap _ _ _ _ _ _ H1.out.get0) Tryz.underlying34 (by kernel_rfl) (by kernel_rfl)) rfl) rfl ?_
  have hlt : w.heap.size < W0.heap.size := by have := H0.out.lt (i := 0) (by simp); omega
  refine ⟨W0.heap.size, rfl, Reads.offRow (by rw [← HFR.out]; exact reads_frames W0) _ _ (fun _ ad e => by injection e with e; rw [← e]; show W0.heap.size ≠ w.heap.size; omega), by omega, (H1.out.row 0 _ _ rfl).below⟩
set_option maxRecDepth 100000 in
theorem cbits0 (w : World) : Calls Tryz.prog 134 #[.int .u64 0] w fun e w' => e = .returned (.int .i64 0) ∧ w = w' := by
  go_enter Tryz.func134, Tryz.ntmps134
  go_wp2_with fail
  go_ret
  exact ⟨by kernel_rfl, rfl⟩
set_option maxRecDepth 100000 in
theorem clen0 (w : World) : Calls Tryz.prog 106 #[.int .u64 0] w fun e w' => e = .returned (.int .i64 0) ∧ w = w' := by
  go_enter Tryz.func106, Tryz.ntmps106
  go_wp2_with (go_at_call 134; (with_reducible refine (cbits0 _).mono ?_); rintro e w1 ⟨rfl, rfl⟩)
  go_ret
  exact ⟨rfl, rfl⟩
set_option maxRecDepth 100000 in
theorem cins0 (g : Value) (w : World) : Calls Tryz.prog 125 #[.slice none 0 0, .int .i64 0, .int .i64 0, g] w fun e w' => e = .returned (.tuple #[]) ∧ Below w.heap.size w w' := by
  go_enter Tryz.func125, Tryz.ntmps125
  go_wp2_with fail
  go_loopw [8] (fun i wr => i = .int .i64 1 ∧ wr = w) (fun _ _ => 0)
  case atStart => exact ⟨rfl, rfl⟩
  case round =>
    obtain ⟨rfl, rfl⟩ := hrel
    go_wp2_with fail
    go_end0
    exact ⟨rfl, Below.refl _ _⟩
set_option maxRecDepth 100000 in
theorem cpdq0 (g : Value) (w : World) : Calls Tryz.prog 105 #[.slice none 0 0, .int .i64 0, .int .i64 0, .int .i64 0, g] w fun e w' => e = .returned (.tuple #[]) ∧ Below w.heap.size w w' := by
  go_enter Tryz.func105, Tryz.ntmps105
  go_wp2_with fail
  go_loopw [1, 2, 3, 10, 11] (fun a b c i j wr => a = .int .i64 0 ∧ b = .int .i64 0 ∧ c = .int .i64 0 ∧ i = .bool true ∧ j = .bool true ∧ wr = w) (fun _ _ _ _ _ _ => 0)
  case atStart => exact ⟨rfl, rfl, rfl, rfl, rfl, rfl⟩
  case round =>
    obtain ⟨rfl, rfl, rfl, rfl, rfl, rfl⟩ := hrel
    go_wp2_with (go_at_call 125; (with_reducible refine (cins0 _ _).mono ?_); rintro e w1 ⟨rfl, hb1⟩)
    refine bodyPost_ret (v := .tuple #[]) (results_none rfl _ _ _) rfl ?_
    exact ⟨rfl, hb1⟩
set_option maxRecDepth 100000 in
theorem csort0 (g : Value) (w : World) : Calls Tryz.prog 92 #[.slice none 0 0, g] w fun e w' => e = .returned (.tuple #[]) ∧ Below w.heap.size w w' := by
  go_enter Tryz.func92, Tryz.ntmps92
  go_wp2_with (first
    | (go_at_call 106; (with_reducible refine (clen0 _).mono ?_); rintro e w1 ⟨rfl, rfl⟩)
    | (go_at_call 105; (with_reducible refine (cpdq0 _ _).mono ?_); rintro e w1 ⟨rfl, hb1⟩))
  go_end0
  exact ⟨rfl, hb1⟩
set_option maxRecDepth 100000 in
theorem cfree0 (w : World) : Calls Tryz.prog 91 #[.agg #[.int .i64 0, .string ⟨#[]⟩, .int .i64 0, .bool false, .int .i64 0]] w fun e w' => e = .returned (.bool true) ∧ Below w.heap.size w w' := by
  go_enter Tryz.func91, Tryz.ntmps91
  go_wp2_with fail
  go_ret
  exact ⟨by simp, allocB _ _⟩
set_option maxRecDepth 100000 in
set_option maxHeartbeats 8000000 in
theorem cdirty_any (s : Tx.St) (p : SP) (hf : p.fn = 4) (w : World) (hr : Reads w p.F p.fc 4 fr4) :
    Calls Tryz.prog 64 #[storeV s p] w fun e w' => e = .returned (.slice none 0 0) ∧ Below w.heap.size w w' := by
  have HR := Lib.hid (show Reads w p.F p.fc (List.replicate 4 ()).length ((List.replicate 4 ()).flatMap frC) from hr)
  clear hr
  obtain ⟨zl, zp, zf, ⟨L, lf, dn⟩, ⟨fr, ln, en, sf, tl⟩, hd, ts, nx⟩ := s
  obtain ⟨A, c, FA, fn, fc, TA, tc⟩ := p
  simp only at hf
  subst hf
  dsimp only [storeV]
  go_enter Tryz.func64, Tryz.ntmps64
  go_upto_region 1 with fail
  have H0 := Lib.hid (show BxL w.heap.size w [(#[.int .i64 zl, .int .i64 zp, .int .i64 zf, .slice A L.length c, .int .i64 lf, .bool dn, .int .i64 fr, .int .i64 ln, .int .i64 en, .int .i64 sf, .string tl, .slice FA 4 fc, .int .i64 hd, .slice TA ts.length tc, .int .i64 nx], 37)] (w.alloc (.cells #[.int .i64 zl, .int .i64 zp, .int .i64 zf, .slice A L.length c, .int .i64 lf, .bool dn, .int .i64 fr, .int .i64 ln, .int .i64 en, .int .i64 sf, .string tl, .slice FA 4 fc, .int .i64 hd, .slice TA ts.length tc, .int .i64 nx] 37)) from ((BxL.nil (Below.refl w.heap.size w)).new (by simp) #[.int .i64 zl, .int .i64 zp, .int .i64 zf, .slice A L.length c, .int .i64 lf, .bool dn, .int .i64 fr, .int .i64 ln, .int .i64 en, .int .i64 sf, .string tl, .slice FA 4 fc, .int .i64 hd, .slice TA ts.length tc, .int .i64 nx] 37))
  obtain ⟨W0, hW0⟩ : ∃ W, W = (w.alloc (.cells #[.int .i64 zl, .int .i64 zp, .int .i64 zf, .slice A L.length c, .int .i64 lf, .bool dn, .int .i64 fr, .int .i64 ln, .int .i64 en, .int .i64 sf, .string tl, .slice FA 4 fc, .int .i64 hd, .slice TA ts.length tc, .int .i64 nx] 37)) := ⟨_, rfl⟩
  rw [← hW0] at H0 ⊢
  clear hW0
  have hc0 := blkCell H0.out.get0
  go_wp2_with fail
  clear hc0
  go_loopw [3, 10] (fun o i wr => ∃ k : Nat, o = .slice none 0 0 ∧ k ≤ 4 ∧ i = .int .i64 (k : Int) ∧ Below w.heap.size w wr) (fun _ i _ => 4 - (intOf i).toNat)
  case atStart => exact ⟨0, rfl, Nat.zero_le _, rfl, H0.out.below⟩
  case round =>
    obtain ⟨k, rfl, hk, rfl, hbw⟩ := hrel
    have HBW := Lib.hid hbw
    clear hbw H0
    by_cases hlt : k < 4
    · have hki : (k : Int) < 4 := by omega
      have hk0 : (0 : Int) ≤ (k : Int) := by omega
      have hwk : IntKind.i64.wrap ((k : Int) + 1) = (k : Int) + 1 := IntWalk.i64_in _ (by omega)
      obtain ⟨b, off, rfl, hc, hbl, hcell⟩ := read_at frC_len (HR.out.below HBW.out) (j := k) (by simpa using hlt)
      have q0 := hcell 0 _ rfl
      have q1 := hcell 1 _ rfl
      have q2 := hcell 2 _ rfl
      have q3 := hcell 3 _ rfl
      have q4 := hcell 4 _ rfl
      simp only [Nat.add_zero] at q0
      clear hcell hc
      go_upto_region 5 with (with_reducible refine wpList_store_new rfl 65 (.tmp 5) (.tmp 13) rfl #[.int .i64 0, .string ⟨#[]⟩, .int .i64 0, .bool false, .int .i64 0] _ _ rfl (by kernel_rfl) (by kernel_rfl) (by kernel_rfl) (by kernel_rfl) ?_)
      have HX := Lib.hid (heap_alloc_new wr (.cells #[.int .i64 0, .string ⟨#[]⟩, .int .i64 0, .bool false, .int .i64 0] 65))
      have HB1 := Lib.hid (joinB HBW.out (allocB wr (.cells #[.int .i64 0, .string ⟨#[]⟩, .int .i64 0, .bool false, .int .i64 0] 65)))
      obtain ⟨g, hg⟩ : ∃ g, g = wr.heap.size := ⟨_, rfl⟩
      obtain ⟨W1, hW1⟩ : ∃ W, W = wr.alloc (.cells #[.int .i64 0, .string ⟨#[]⟩, .int .i64 0, .bool false, .int .i64 0] 65) := ⟨_, rfl⟩
      rw [← hg] at HX
      rw [← hW1] at HX HB1
      rw [← hW1, ← hg]
      clear hg hW1 q0 q1 q2 q3 q4
      go_wp2_with (first
        | (with_reducible refine listLoad (by kernel_rfl) 65 (.tmp 5) rfl g rfl #[.int .i64 0, .string ⟨#[]⟩, .int .i64 0, .bool false, .int .i64 0] _ HX.out _ Tryz.underlying65 (by kernel_rfl) (by kernel_rfl) ?_)
        | (go_at_call 91; (with_reducible refine (cfree0 _).mono ?_); rintro e w2 ⟨rfl, hb2⟩))
      go_roundw
      case rel => exact ⟨k + 1, rfl, by omega, by go_num, joinB HB1.out hb2⟩
      case measure => simp [intOf]; omega
    · have hki : ¬ (k : Int) < 4 := by omega
      go_wp2_with (go_at_call 92; (with_reducible refine (csort0 _ _).mono ?_); rintro e w2 ⟨rfl, hb2⟩)
      go_ret
      exact ⟨rfl, joinB HBW.out hb2⟩
end Go.Proofs.YthfglhafphfhiaaGreat
/- Plain facts of checkpoints: the page's example. -/
namespace Ck
open Lg Rc
/-- The record of a first checkpoint. -/
def chR : Rec := ⟨0, 0, 0, 9, 0, 0, 1, noOp, 0, 0, noKey, [], []⟩
def fresh9 : Tx.St := ⟨9, 4, 4, newD 26, ⟨1, 9, 0, 0, ⟨#[]⟩⟩, 0, [], 1⟩
theorem check_len (lsn n : Int) : (putR ⟨lsn, 0, 0, 9, 0, 0, n, noOp, 0, 0, noKey, [], []⟩).length = 37 := by
  rw [putR_len]
  unfold bodyB
  rw [List.length_append, headB_len]
  have hr : restB ⟨lsn, 0, 0, 9, 0, 0, n, noOp, 0, 0, noKey, [], []⟩ = listsB ⟨lsn, 0, 0, 9, 0, 0, n, noOp, 0, 0, noKey, [], []⟩ := by
    unfold restB
    simp
  rw [hr]
  unfold listsB
  simp [p_length]
theorem put_ok (base : Int) (all : List ByteArray) : ∀ (k : Nat) (d : Dk), d.down = false → d.left = -1 → (∀ j, j < k → (all[j]?.getD ⟨#[]⟩).size = 128) → 0 ≤ base → base + (k : Int) ≤ (d.sectors.length : Int) →
    ∃ d2, putAll base all k d = (d2, 0) ∧ d2.down = false ∧ d2.left = -1 ∧ d2.sectors.length = d.sectors.length := by
  intro k
  induction k with
  | zero => intro d h1 h2 _ _ _; exact ⟨d, rfl, h1, h2, rfl⟩
  | succ k ih =>
    intro d h1 h2 h3 h4 h5
    have hw : writeD d (base + (k : Int)) (all[k]?.getD ⟨#[]⟩) = ({ d with sectors := d.sectors.set (base + (k : Int)).toNat (all[k]?.getD ⟨#[]⟩), left := -1 }, 0) := by
      unfold writeD
      rw [if_neg (by rw [h1]; decide), if_neg (fun hn => hn ⟨⟨by omega, by omega⟩, h3 k (Nat.lt_succ_self k)⟩), if_neg (by rw [h2]; decide), h2]
      rfl
    obtain ⟨d2, e1, e2, e3, e4⟩ := ih { d with sectors := d.sectors.set (base + (k : Int)).toNat (all[k]?.getD ⟨#[]⟩), left := -1 } h1 rfl (fun j hj => h3 j (by omega)) h4 (by show base + (k : Int) ≤ ((d.sectors.set (base + (k : Int)).toNat (all[k]?.getD ⟨#[]⟩)).length : Int); rw [List.length_set]; omega)
    refine ⟨d2, ?_, e2, e3, ?_⟩
    · unfold putAll
      rw [hw, if_pos rfl]
      exact e1
    · rw [e4]
      exact List.length_set
theorem set_ok {d : Dk} (n : Int) (h0 : 0 ≤ n) (h1 : n < 1099511627776) (hd : d.down = false) (hl : d.left = -1) (hn : 0 < d.sectors.length) : (setD d n).2 = 0 := by
  rw [setD_yes (by omega)]
  unfold writeD
  rw [if_neg (by rw [hd]; decide), if_neg (fun hc => hc ⟨⟨by decide, by omega⟩, sectorB_size n⟩), if_neg (by rw [hl]; decide)]
theorem newD_len (n : Nat) : (newD n).sectors.length = n := by unfold newD; simp
theorem master_new : masterD (newD 26) = 0 := by
  have hr : readD (newD 26) 0 = (zero128, 0) := by
    unfold readD
    rw [if_neg (by decide), if_pos ⟨by decide, by rw [newD_len]; decide⟩]
    unfold secAt
    rfl
  unfold masterD
  rw [hr, if_neg (by rw [zero128_size]; simp)]
  have hz : zero128.data.toList = List.replicate 128 0 := by unfold zero128; rfl
  rw [show (zero128, (0 : Int)).1 = zero128 from rfl, hz]
  unfold masterL
  have hg : Oct.getL (((List.replicate 128 (0 : UInt8)).drop 4).take 6) = 0 := by decide
  rw [hg]
  split <;> rfl
/-- The page's example. -/
theorem awake_ck : ∃ l1 d1 l2 d2 d3, appendD ⟨1, 9, 0, 0, ⟨#[]⟩⟩ chR = (l1, 1, 0) ∧ forceD (newD 26) l1 = (d1, l2, 0) ∧ setD d1 1 = (d2, 0) ∧ masterD d2 = 1 ∧ setD (newD 26) 77 = (d3, 0) ∧ masterD d3 = 77 ∧
    d1.left = -1 ∧ l2.end_ = 37 ∧ l2.safe = 37 ∧ l1 = ⟨1, 9, 37, 0, ⟨(putR ⟨1, 0, 0, 9, 0, 0, 1, noOp, 0, 0, noKey, [], []⟩).toArray⟩⟩ ∧ l1.tail.size = 37 := by
  have hR : Right ⟨1, 0, 0, 9, 0, 0, 1, noOp, 0, 0, noKey, [], []⟩ := .check 1 0 0 1 [] [] ⟨by decide, by decide⟩ ⟨by decide, by decide⟩ ⟨by decide, by decide⟩ ⟨by decide, by decide⟩ ⟨by decide, by decide, (fun t ht => by cases ht), (fun t ht => by cases ht)⟩
  have hl := check_len 1 1
  have e1 : appendD ⟨1, 9, 0, 0, ⟨#[]⟩⟩ chR = (⟨1, 9, 37, 0, ⟨(putR ⟨1, 0, 0, 9, 0, 0, 1, noOp, 0, 0, noKey, [], []⟩).toArray⟩⟩, 1, 0) := by
    have h := append_okT (l := ⟨1, 9, 0, 0, ⟨#[]⟩⟩) (r := chR) hR (by show ¬ (9 : Int) * 128 - ((putR ⟨1, 0, 0, 9, 0, 0, 1, noOp, 0, 0, noKey, [], []⟩).length : Int) < 0; rw [hl]; decide)
    rw [h]
    show (({ from_ := 1, n := 9, end_ := (0 : Int) + ((putR ⟨1, 0, 0, 9, 0, 0, 1, noOp, 0, 0, noKey, [], []⟩).length : Int), safe := 0, tail := (⟨#[]⟩ : ByteArray) ++ ⟨(putR ⟨1, 0, 0, 9, 0, 0, 1, noOp, 0, 0, noKey, [], []⟩).toArray⟩ } : Lo), (1 : Int), (0 : Int)) = _
    rw [hl]
    have ht : (⟨#[]⟩ : ByteArray) ++ ⟨(putR ⟨1, 0, 0, 9, 0, 0, 1, noOp, 0, 0, noKey, [], []⟩).toArray⟩ = ⟨(putR ⟨1, 0, 0, 9, 0, 0, 1, noOp, 0, 0, noKey, [], []⟩).toArray⟩ := by
      apply ByteArray.ext
      rw [ByteArray.data_append]
      simp
    rw [ht]
    rfl
  have hts : (⟨(putR ⟨1, 0, 0, 9, 0, 0, 1, noOp, 0, 0, noKey, [], []⟩).toArray⟩ : ByteArray).size = 37 := by
    show (putR ⟨1, 0, 0, 9, 0, 0, 1, noOp, 0, 0, noKey, [], []⟩).toArray.size = 37
    rw [List.size_toArray, hl]
  generalize (⟨(putR ⟨1, 0, 0, 9, 0, 0, 1, noOp, 0, 0, noKey, [], []⟩).toArray⟩ : ByteArray) = t at e1 hts
  have hall : ∀ b ∈ allS ⟨1, 9, 37, 0, t⟩, b.size = 128 := by
    unfold allS
    intro b hb
    split at hb
    · rcases List.mem_append.1 hb with h | h
      · exact cutB_size _ b h
      · rw [List.mem_singleton.1 h]; exact zero128_size
    · exact cutB_size _ b hb
  have hal : (allS ⟨1, 9, 37, 0, t⟩).length ≤ 2 := by
    have hc := cutB_length t
    rw [hts] at hc
    unfold allS
    split
    · rw [List.length_append, List.length_singleton]; show (cutB t).length + 1 ≤ 2; omega
    · show (cutB t).length ≤ 2; omega
  have hfs : firstS ⟨1, 9, 37, 0, t⟩ = 0 := by unfold firstS; show ((37 : Int) - (t.size : Int)) / 128 = 0; rw [hts]; decide
  obtain ⟨d1, p1, p2, p3, p4⟩ := put_ok (1 + firstS ⟨1, 9, 37, 0, t⟩) (allS ⟨1, 9, 37, 0, t⟩) (allS ⟨1, 9, 37, 0, t⟩).length (newD 26) rfl rfl (fun j hj => by rw [List.getElem?_eq_getElem hj]; exact hall _ (List.getElem_mem hj)) (by rw [hfs]; decide) (by rw [hfs, newD_len]; omega)
  have e2 : forceD (newD 26) ⟨1, 9, 37, 0, t⟩ = (d1, forcedL ⟨1, 9, 37, 0, t⟩, 0) := by
    unfold forceD
    rw [if_neg (by show ¬ (0 : Int) = 37; decide)]
    simp only [p1]
    rw [if_pos trivial]
  have s1 := set_ok (d := d1) 1 (by decide) (by decide) p2 p3 (by rw [p4, newD_len]; decide)
  have s2 := set_ok (d := newD 26) 77 (by decide) (by decide) rfl rfl (by rw [newD_len]; decide)
  have m1 := (set_master s1).1
  have m2 := (set_master s2).1
  refine ⟨_, d1, _, (setD d1 1).1, (setD (newD 26) 77).1, e1, e2, ?_, m1, ?_, m2, p3, rfl, rfl, rfl, hts⟩
  · rw [← s1]
  · rw [← s2]
end Ck
/- The walk over package txn: a record is appended, and noted. -/
namespace Go.Proofs.YthfglhafphfhiaaGreat
open Go.RowKit
end Go.Proofs.YthfglhafphfhiaaGreat
/- The walks over package txn: own, Nest, Abort, End, Begin. -/
namespace Tx
end Tx
namespace Go.Proofs.YthfglhafphfhiaaGreat
open Go.RowKit
end Go.Proofs.YthfglhafphfhiaaGreat
/- The walks over package txn: Nest, Abort, End, Begin. -/
namespace Tx
end Tx
namespace Go.Proofs.YthfglhafphfhiaaGreat
open Go.RowKit
end Go.Proofs.YthfglhafphfhiaaGreat
/- The walk over package txn: Commit. -/
namespace Tx
open Lg
end Tx
namespace Go.Proofs.YthfglhafphfhiaaGreat
open Go.RowKit
end Go.Proofs.YthfglhafphfhiaaGreat
/- The walks over package disk: New, Arm, Start. -/
namespace Go.Proofs.YthfglhafphfhiaaGreat
open Go.RowKit
set_option maxRecDepth 100000 in
set_option maxHeartbeats 8000000 in
theorem cstart_any (d : Lg.Dk) (A : Option Addr) (c : Nat) (w : World) :
    Calls Tryz.prog 20 #[diskV d A c] w fun e w' => e = .returned (diskV (Lg.startD d) A c) ∧ Below w.heap.size w w' := by
  obtain ⟨L, left, down⟩ := d
  unfold Lg.startD
  dsimp only [diskV]
  go_enter Tryz.func20, Tryz.ntmps20
  go_upto_region 1 with fail
  have H0 := Lib.hid (show BxL w.heap.size w [(#[.slice A L.length c, .int .i64 left, .bool down], 29), (#[.slice none 0 0, .int .i64 0, .bool false], 29)] ((w.alloc (.cells #[.slice A L.length c, .int .i64 left, .bool down] 29)).alloc (.cells #[.slice none 0 0, .int .i64 0, .bool false] 29)) from (((BxL.nil (Below.refl w.heap.size w)).new (by simp) #[.slice A L.length c, .int .i64 left, .bool down] 29).new (by simp) #[.slice none 0 0, .int .i64 0, .bool false] 29))
  obtain ⟨W0, hW0⟩ : ∃ W, W = ((w.alloc (.cells #[.slice A L.length c, .int .i64 left, .bool down] 29)).alloc (.cells #[.slice none 0 0, .int .i64 0, .bool false] 29)) := ⟨_, rfl⟩
  rw [← hW0] at H0 ⊢
  clear hW0
  have hc0 := blkCell H0.out.get0
  have hz0 := blkFrozen H0.out.get0
  go_upto_region 2 with fail
  have H1 := Lib.hid ((H0.out.set 0 1 (.int .i64 (-1)) _ rfl).set 0 2 (.bool false) _ rfl)
  simp only [Nat.add_zero] at H1
  obtain ⟨W1, hW1⟩ : ∃ W, W = (W0.setCell ⟨w.heap.size, 1, none⟩ (.int .i64 (-1))).setCell ⟨w.heap.size, 2, none⟩ (.bool false) := ⟨_, rfl⟩
  rw [← hW1] at H1 ⊢
  clear hW1
  have HX := Lib.hid (show W1.heap[w.heap.size]? = some (.cells #[.slice A L.length c, .int .i64 (-1), .bool false] 29 (0, 0)) from H1.out.get0)
  go_wp2_with (first | (with_reducible refine listLoad (by kernel_rfl) 29 (.tmp 1) rfl w.heap.size rfl #[.slice A L.length c, .int .i64 (-1), .bool false] _ HX.out _ Tryz.underlying29 (by kernel_rfl) (by kernel_rfl) ?_) | (with_reducible refine listStore (by kernel_rfl) 29 (.tmp 2) (.tmp 5) rfl (w.heap.size + 1) #[.slice A L.length c, .int .i64 (-1), .bool false] _ _ rfl rfl H1.out.get1 (by kernel_rfl) (by kernel_rfl) (by kernel_rfl) ?_))
  refine bodyPost_ret (v := .agg #[.slice A L.length c, .int .i64 (-1), .bool false]) (results_cell rfl _ _ rfl (load_whole (setRow_heap _ _ _ _ _ _ H1.out.get1) Tryz.underlying29 (by kernel_rfl) (by kernel_rfl))) rfl ?_
  exact ⟨rfl, (H1.out.row 1 _ _ rfl).below⟩
theorem info_str : (Tryz.prog.info? 9).map (fun i => (i.zero, i.size, i.bytes)) = some (some (.string ⟨#[]⟩), 1, 16) := by kernel_rfl
/-- m texts, then nothing. -/
def rcells (b : ByteArray) (n m : Nat) : List Value := List.replicate m (.string b) ++ List.replicate (n - m) (.string ⟨#[]⟩)
theorem rcells_len (b : ByteArray) (n m : Nat) (h : m ≤ n) : (rcells b n m).length = n := by unfold rcells; simp; omega
theorem rcells_at (b : ByteArray) (n m j : Nat) (hj : j < m) : (rcells b n m).toArray[j]? = some (.string b) := by
  unfold rcells
  rw [List.getElem?_toArray, List.getElem?_append_left (by simpa using hj), List.getElem?_replicate, if_pos hj]
theorem rcells_more (b : ByteArray) (n m k : Nat) (h : m + k ≤ n) : splice (rcells b n m) m (List.replicate k (.string b)) = rcells b n (m + k) := by
  unfold splice rcells
  rw [List.take_left' (by simp), List.drop_append, List.length_replicate, List.length_replicate, List.drop_of_length_le (by simp), List.nil_append, ← List.append_assoc, List.replicate_append_replicate, List.drop_replicate]
  congr 2
  omega
theorem make_strs (n : Nat) (hn : n ≤ 4096) (W : World) : (Instr.makeSlice 27 (.int .i64 (n : Int)) (.int .i64 (n : Int))).run Tryz.prog W = .ok (.slice (some ⟨W.heap.size, 0, none⟩) n n) (W.alloc (.cells (madeCells #[Value.string ⟨#[]⟩] n) 9)) := by
  obtain ⟨i0, hi, hz0, hz1, hz2⟩ := info_parts info_str
  have h := run_make (P := Tryz.prog) W 27 9 i0 (.string ⟨#[]⟩) Tryz.underlying27 hi hz0 .i64 .i64 n n (by omega) (by omega) (by rw [hz2]; omega) (by omega)
  rw [hz1, Int.toNat_natCast, Nat.mul_one] at h
  exact h
theorem made_strs (b : ByteArray) (n : Nat) : madeCells #[Value.string ⟨#[]⟩] n = (rcells b n 0).toArray := by
  unfold madeCells rcells
  apply Array.ext_getElem?
  intro i
  by_cases hi : i < n
  · simp [hi, Nat.mod_one]
  · simp [hi]
set_option maxRecDepth 100000 in
set_option maxHeartbeats 8000000 in
theorem srepeat_any (b : ByteArray) (n : Nat) (h1 : 1 ≤ n) (hn : n ≤ 1000) (g0 : Nat) (w : World) (hx : w.heap[g0]? = some (.cells #[.string b] 9 (0, 0))) :
    Calls Tryz.prog 55 #[.slice (some ⟨g0, 0, none⟩) 1 1, .int .i64 (n : Int)] w fun e w' => ∃ v, e = .returned v ∧ OwnL strC 1 9 w.heap.size w' v (List.replicate n b) ∧ Below w.heap.size w w' := by
  have HMU := Lib.hid (fun W => show Calls Tryz.prog 69 #[.int .u64 1, .int .u64 (n : Int)] W fun e w' => e = .returned (.tuple #[.int .u64 0, .int .u64 (n : Int)]) ∧ w' = W from by
    have h := Tryz.bits_Mul 1 n (by omega) (by omega) W
    rw [show 1 * n / 18446744073709551616 = 0 by omega, show 1 * n % 18446744073709551616 = n by omega] at h
    exact h)
  have hmk := fun W => make_strs n (by omega) W
  rw [made_strs b n] at hmk
  have hn0 : ¬ (n : Int) < 0 := by omega
  have hX := Lib.hid hx
  have hnI : ¬ (9223372036854775807 : Int) < (n : Int) := by omega
  have hw1 : IntKind.u64.wrap (n : Int) = (n : Int) := IntWalk.u64_in _ (by omega)
  have hw2 : IntKind.i64.wrap (n : Int) = (n : Int) := IntWalk.i64_in _ (by omega)
  clear hx
  go_enter Tryz.func55, Tryz.ntmps55
  go_upto_region 7 with (go_at_call 69; (with_reducible refine (HMU.out _).mono ?_); rintro e w1 ⟨rfl, hww⟩; have hw9 := hww.symm; subst hw9; clear hww)
  have HX1 := Lib.hid (blkOld hX.out (allocB w (.cells (rcells b n 0).toArray 9)))
  have HSZ := Lib.hid (show (Tryz.prog.info? 9).map (·.size) = some 1 from by kernel_rfl)
  have hsp1 : splice (rcells b n 0) 0 [.string b] = rcells b n 1 := rcells_more b n 0 1 (by omega)
  obtain ⟨g, hg⟩ : ∃ g, g = w.heap.size := ⟨_, rfl⟩
  clear hmk HMU hX
  have hcp : ∀ ty, (Builtin.copy_ #[27, 27] ty #[.slice (some ⟨w.heap.size, 0, none⟩) n n, .slice (some ⟨g0, 0, none⟩) 1 1]).run Tryz.prog (w.alloc (.cells (rcells b n 0).toArray 9)) = .ok (.int .i64 1) ((w.alloc (.cells (rcells b n 0).toArray 9)).setRow w.heap.size (rcells b n 1).toArray) := fun ty => by
    have h := run_copy_row (P := Tryz.prog) (w.alloc (.cells (rcells b n 0).toArray 9)) 27 27 ty 9 w.heap.size 0 n n ⟨g0, 0, none⟩ 1 1 (rcells b n 0).toArray 9 [.string b] Tryz.underlying27 HSZ.out (heap_alloc_new w _) (by show 1 = min 1 n; omega) (fun j v hj => by
      have hj0 : j = 0 := by have := (List.getElem?_eq_some_iff.1 hj).1; simpa using this
      subst hj0
      rw [Addr.add_mid, blkCell HX1.out]; simpa using hj) (by have := rcells_len b n 0 (by omega); simp [this]; omega) (fun v hv => by rw [List.mem_singleton.1 hv]; rfl)
    rw [← hsp1]
    unfold splice
    simp only [List.append_assoc] at h
    exact h
  have hg2 : Hid (((w.alloc (.cells (rcells b n 0).toArray 9)).setRow w.heap.size (rcells b n 1).toArray).heap[g]? = some (.cells (rcells b n 1).toArray 9 (0, 0))) := Lib.hid (by rw [hg]; exact setRow_heap _ _ _ _ _ _ (heap_alloc_new w _))
  have hb2 : Below w.heap.size w ((w.alloc (.cells (rcells b n 0).toArray 9)).setRow w.heap.size (rcells b n 1).toArray) := below_setRow (allocB w _) (Nat.le_refl _) _
  have HG := Lib.hid hg
  go_upto_block 0 with fail
  obtain ⟨w2, hw2⟩ : ∃ W, W = (w.alloc (.cells (rcells b n 0).toArray 9)).setRow w.heap.size (rcells b n 1).toArray := ⟨_, rfl⟩
  rw [← hw2] at hg2 hb2
  rw [← hw2, ← hg]
  clear hsp1 hg HX1 hcp hw2
  go_wp2_with fail
  go_loopw [8] (fun i wr => ∃ m : Nat, i = .int .i64 (m : Int) ∧ 1 ≤ m ∧ m ≤ n ∧ Hid (wr.heap[g]? = some (.cells (rcells b n m).toArray 9 (0, 0))) ∧ Below w.heap.size w wr) (fun i _ => n - (intOf i).toNat)
  case atStart => exact ⟨1, rfl, Nat.le_refl _, h1, hg2, hb2⟩
  case round =>
    obtain ⟨m, rfl, hm1, hmn, hgm, hbm⟩ := hrel
    have HB := Lib.hid hbm
    clear hbm hg2 hb2
    by_cases hlt : m < n
    · have hltI : (m : Int) < (n : Int) := by omega
      have hne : ¬ n = m := by omega
      have hmI : (m : Int) ≤ (n : Int) := by omega
      have hm0 : (0 : Int) ≤ (m : Int) := by omega
      obtain ⟨k, hk⟩ : ∃ k, k = min m (n - m) := ⟨_, rfl⟩
      have HK := Lib.hid hk
      have hwk : IntKind.i64.wrap ((m : Int) + (k : Int)) = ((m + k : Nat) : Int) := by rw [Int.natCast_add]; exact IntWalk.i64_in _ (by omega)
      have HSP := Lib.hid (rcells_more b n m k (by omega))
      have HMN := Lib.hid hmn
      have HM1 := Lib.hid hm1
      clear hk hm1 hmn
      go_upto_region 9 with fail
      refine wp_region_held_drew (S := (fun _ => True)) (by kernel_rfl) ?_ (fun hHeld => ?_)
      · trivial
      refine tkW 0 (some 38) (v := ?_) rfl ?_ ?_
      rotate_left
      · intro u hSu; clear hSu; go_simp; (try with_reducible rfl)
      try simp only [Act.put, List.setIfInBounds_toArray, List.set_cons_zero, List.set_cons_succ]
      refine tkW 1 (some 39) (v := ?_) rfl ?_ ?_
      rotate_left
      · intro u hSu; clear hSu; go_simp; (try with_reducible rfl)
      try simp only [Act.put, List.setIfInBounds_toArray, List.set_cons_zero, List.set_cons_succ]
      refine tkW 2 (some 40) (v := ?_) rfl ?_ ?_
      rotate_left
      · intro u hSu; clear hSu; go_simp; (try with_reducible rfl)
      try simp only [Act.put, List.setIfInBounds_toArray, List.set_cons_zero, List.set_cons_succ]
      refine tkW 3 (some 41) (v := ?_) rfl ?_ ?_
      rotate_left
      · intro u hSu; clear hSu; go_simp; (try with_reducible rfl)
      try simp only [Act.put, List.setIfInBounds_toArray, List.set_cons_zero, List.set_cons_succ]
      refine tkW 4 (some 42) (v := ?_) rfl ?_ ?_
      rotate_left
      · intro u hSu; clear hSu; go_simp; (try with_reducible rfl)
      try simp only [Act.put, List.setIfInBounds_toArray, List.set_cons_zero, List.set_cons_succ]
      refine tkW 5 (some 43) (v := ?_) rfl ?_ ?_
      rotate_left
      · intro u hSu; clear hSu; go_simp; (try with_reducible rfl)
      try simp only [Act.put, List.setIfInBounds_toArray, List.set_cons_zero, List.set_cons_succ]
      refine tkW 6 (some 44) (v := ?_) rfl ?_ ?_
      rotate_left
      · intro u hSu; clear hSu; go_simp; (try with_reducible rfl)
      try simp only [Act.put, List.setIfInBounds_toArray, List.set_cons_zero, List.set_cons_succ]
      refine rdH 7 (some 45) rfl (fun K hK => ?_)
      refine step_copy_splice rfl (.tmp 41) (.tmp 44) 27 27 rfl 9 Tryz.underlying27 HSZ.out (some ⟨g, m, none⟩) (some ⟨g, 0, none⟩) (n - m) (n - m) m n rfl rfl g m (rcells b n m) 9 hgm.out (List.replicate k (.string b)) (by rw [List.length_replicate]; exact HK.out) (fun _ => ⟨rfl, _, rfl, fun j v hj => by (have hj0 : j < k := by (have := (List.getElem?_eq_some_iff.1 hj).1; simpa using this)); rw [Addr.add_mid, blkCell (show wr.drew.heap[g]? = _ from hgm.out)]; (have := HK.out); rw [rcells_at b n m (0 + j) (by omega)]; rw [List.getElem?_replicate, if_pos hj0] at hj; exact hj⟩) (by rw [rcells_len _ _ _ HMN.out, List.length_replicate]; have := HK.out; omega) (fun v hv => by rw [(List.mem_replicate.1 hv).2]; rfl) w.heap.size w HB.out.drew (by rw [HG.out]; exact Nat.le_refl _) ?_
      intro w5 hg5 hb5
      rw [HSP.out] at hg5
      rw [List.length_replicate]
      refine hK.out _ _ ?_ (fun hHeld => ?_)
      · trivial
      clear hK K
      try simp only [Act.put, List.setIfInBounds_toArray, List.set_cons_zero, List.set_cons_succ]
      refine tkW 8 (some 46) (v := ?_) rfl ?_ ?_
      rotate_left
      · intro u hSu; clear hSu; go_simp; (try with_reducible rfl)
      try simp only [Act.put, List.setIfInBounds_toArray, List.set_cons_zero, List.set_cons_succ]
      refine tkW 9 (some 8) (v := ?_) rfl ?_ ?_
      rotate_left
      · intro u hSu; clear hSu; go_simp; (try with_reducible rfl)
      try simp only [Act.put, List.setIfInBounds_toArray, List.set_cons_zero, List.set_cons_succ]
      refine wpAnyH_done (by kernel_rfl) ?_ _
      clear hHeld
      go_wp2_with fail
      go_roundw
      case rel => exact ⟨m + k, (by go_num), by have := HM1.out; omega, by have := HK.out; omega, hg5, hb5⟩
      case measure => have := HK.out; have := HM1.out; simp [intOf]; omega
    · obtain rfl : m = n := by omega
      have hne : ¬ (m : Int) < (m : Int) := by omega
      have HF := Lib.hid (show OwnL strC 1 9 w.heap.size wr (.slice (some ⟨g, 0, none⟩) m m) (List.replicate m b) from by
        unfold OwnL
        rw [List.length_replicate]
        refine ⟨by rw [flat_len strC_len, List.length_replicate], .inr ⟨g, m, _, rfl, by rw [HG.out]; exact Nat.le_refl _, hgm.out, Nat.le_refl _, Nat.le_trans hn (by decide), by rw [← Array.length_toList]; simp [rcells_len], ?_⟩⟩
        rw [strC_map]
        unfold rcells
        simp)
      go_wp2_with fail
      go_ret
      exact ⟨_, rfl, HF.out, HB.out⟩
/-- What New answers. -/
def CNewOut (d : Lg.Dk) (w : World) (e : Ending) (w' : World) : Prop :=
  ∃ A c, e = .returned (.tuple #[diskV d A c, .int .i64 0]) ∧ DiskR w' d A c ∧ NewT w.heap.size w' 9 A ∧ Below w.heap.size w w'
set_option maxRecDepth 100000 in
set_option maxHeartbeats 8000000 in
theorem cnew_any (n : Nat) (h1 : 1 ≤ n) (hn : n ≤ 1000) (w : World) :
    Calls Tryz.prog 25 #[.int .i64 (n : Int)] w (CNewOut (Lg.newD n) w) := by
  have hz : (⟨(Go.Lib.repeatL (⟨#[0]⟩ : ByteArray).data.toList 128).toArray⟩ : ByteArray) = Lg.zero128 := Lg.repeat_zero 128
  have HZ := Lib.hid (fun W => show Calls Tryz.prog 42 #[.string ⟨#[0]⟩, .int .i64 128] W fun e w' => e = .returned (.string Lg.zero128) ∧ Below W.heap.size W w' from by
    have h := Tryz.strings_Repeat ⟨#[0]⟩ 128 W (by omega) (show (⟨#[0]⟩ : ByteArray).size * 128 ≤ 140737488355328 from (by show 1 * 128 ≤ _; omega))
    rw [hz] at h
    exact h)
  clear hz
  have HR := Lib.hid (fun g W h => srepeat_any Lg.zero128 n h1 hn g W h)
  have HF := Lib.hid (fun A c w' (hr : Reads w' A c n ((List.replicate n Lg.zero128).flatMap strC)) (ht : NewT w.heap.size w' 9 A) (hb : Below w.heap.size w w') => show CNewOut (Lg.newD n) w (.returned (.tuple #[.agg #[.slice A n c, .int .i64 (-1), .bool false], .int .i64 0])) w' from by
    refine ⟨A, c, ?_, ⟨?_, ?_⟩, ht, hb⟩
    · unfold diskV Lg.newD; simp
    · unfold Lg.newD; simpa using hr
    · unfold Lg.newD; simp; omega)
  generalize Lg.zero128 = z at HZ HR HF
  generalize CNewOut (Lg.newD n) w = Q at HF ⊢
  have h1' : ¬ (n : Int) < 1 := by omega
  have h2' : ¬ 65536 < (n : Int) := by omega
  go_enter Tryz.func25, Tryz.ntmps25
  go_upto_region 1 with fail
  have H0 := Lib.hid (show BxL w.heap.size w [(#[.slice none 0 0, .int .i64 0, .bool false], 29)] (w.alloc (.cells #[.slice none 0 0, .int .i64 0, .bool false] 29)) from ((BxL.nil (Below.refl w.heap.size w)).new (by simp) #[.slice none 0 0, .int .i64 0, .bool false] 29))
  obtain ⟨W0, hW0⟩ : ∃ W, W = (w.alloc (.cells #[.slice none 0 0, .int .i64 0, .bool false] 29)) := ⟨_, rfl⟩
  rw [← hW0] at H0 ⊢
  clear hW0
  go_upto_region 4 with (go_at_call 42; (with_reducible refine (HZ.out _).mono ?_); rintro e w1 ⟨rfl, hb1⟩)
  have H1 := Lib.hid (H0.out.step (pastAlloc (o := .cells #[.string z] 9) hb1))
  have HX := Lib.hid (heap_alloc_new w1 (.cells #[.string z] 9))
  have HRR := Lib.hid (HR.out w1.heap.size (w1.alloc (.cells #[.string z] 9)) HX.out)
  go_wp2_with (first
    | (go_at_call 55; (with_reducible refine HRR.out.mono ?_); rintro e w2 ⟨v, rfl, ho, hb2⟩; obtain ⟨A, c, hv⟩ := ownLen ho; rw [List.length_replicate] at hv; subst hv; have H2 := Lib.hid (H1.out.step hb2))
    | (with_reducible refine listStore (by kernel_rfl) 29 (.tmp 2) (.tmp 17) rfl w.heap.size #[.slice A n c, .int .i64 (-1), .bool false] _ _ rfl rfl H2.out.get0 (by kernel_rfl) (by kernel_rfl) (by kernel_rfl) ?_))
  refine bodyPost_ret (v := .tuple #[.agg #[.slice A n c, .int .i64 (-1), .bool false], .int .i64 0]) (results_cell2 rfl _ _ rfl (load_whole (setRow_heap _ _ _ _ _ _ H2.out.get0) Tryz.underlying29 (by kernel_rfl) (by kernel_rfl)) rfl) rfl ?_
  have ho2 := ho
  unfold OwnL at ho2
  rw [List.length_replicate] at ho2
  have hsz : w.heap.size ≤ (w1.alloc (.cells #[.string z] 9)).heap.size := by simp; have := hb1.size; have := H0.out.below.size; omega
  have ht := NewT.own ho2
  exact HF.out A c _ (ht.readsRow (own_reads ho2) H2.out.get0 (by decide) _) ((ht.row _ _).mono hsz) (by have h := (H2.out.row 0 #[.slice A n c, .int .i64 (-1), .bool false] _ rfl).below; simpa using h)
end Go.Proofs.YthfglhafphfhiaaGreat
/- Plain facts for the reference's Force: sectors of a tail, by their numbers. -/
namespace Lg
open Rc
/-- The log's tail begins where the sector of its first unsafe byte begins. -/
structure Al (l : Lo) : Prop where
  s0 : 0 ≤ l.safe
  se : l.safe ≤ l.end_
  tl : l.end_ - (l.tail.size : Int) = l.safe - l.safe % 128
theorem Al.first {l : Lo} (h : Al l) : firstS l = l.safe / 128 := by
  have h1 := h.s0
  have h2 := h.tl
  unfold firstS
  rw [h2]
  omega
end Lg
/- The walk over the reference of the log: Force. -/
namespace Go.Proofs.YthfglhafphfhiaaGreat
open Go.RowKit
/-- A disk in memory, its sectors in a block of texts, no older than n or where they were. -/
structure DkR (n : Nat) (w : World) (d : Lg.Dk) (A0 A : Option Addr) (c : Nat) : Prop where
  dk : DiskR w d A c
  dt : NewT 0 w 9 A
  nw : A = A0 ∨ NewT n w 9 A
theorem DkR.below {n : Nat} {w w' : World} {d : Lg.Dk} {A0 A : Option Addr} {c : Nat} (h : DkR n w d A0 A c) (hb : Below w.heap.size w w') : DkR n w' d A0 A c := ⟨h.dk.below hb, h.dt.below hb, h.nw.imp id (fun k => k.below hb)⟩
theorem DkR.row {n : Nat} {w : World} {d : Lg.Dk} {A0 A : Option Addr} {c : Nat} (h : DkR n w d A0 A c) {b : Nat} {cur : Array Value} {t : TypeId} {fr : Nat × Nat} (hb : w.heap[b]? = some (.cells cur t fr)) (h1 : t ≠ 9) (cs : Array Value) : DkR n (w.setRow b cs) d A0 A c :=
  ⟨⟨h.dt.readsRow h.dk.secs hb h1 cs, h.dk.small⟩, h.dt.row b cs, h.nw.imp id (fun k => k.row b cs)⟩
theorem DkR.set {n : Nat} {w : World} {d : Lg.Dk} {A0 A : Option Addr} {c : Nat} (h : DkR n w d A0 A c) {b : Nat} {cur : Array Value} {t : TypeId} {fr : Nat × Nat} (hb : w.heap[b]? = some (.cells cur t fr)) (h1 : t ≠ 9) (j : Nat) (v : Value) : DkR n (w.setCell ⟨b, j, none⟩ v) d A0 A c := by
  rw [setCell_eq_setRow w b j cur t fr v hb]
  exact h.row hb h1 _
theorem DkR.put {n : Nat} {w w' : World} {d d' : Lg.Dk} {A0 A A' : Option Addr} {c c' : Nat} (h : DkR n w d A0 A c) (hn : n ≤ w.heap.size) (hd : DiskR w' d' A' c') (ha : A' = A ∨ NewT w.heap.size w' 9 A') (hb : Below w.heap.size w w') : DkR n w' d' A0 A' c' :=
  ⟨hd, ha.elim (fun e => by rw [e]; exact h.dt.below hb) (fun k => k.mono (Nat.zero_le _)), ha.elim (fun e => by rw [e]; exact h.nw.imp id (fun k => k.below hb)) (fun k => .inr (k.mono hn))⟩
end Go.Proofs.YthfglhafphfhiaaGreat
