/- The walks over package page and its reference: a page's parts, if it is one. -/
import Derived.Test.YtgbihdlahghonaaPageC
import Derived.Test.YtgbihdlahghonaaPagePlain2
import Derived.BigQuiet
namespace Go.Proofs.Ytgbihdlahghonaa
open Go.RowKit

/-- A box with a page's parts, while only new blocks are made. -/
abbrev Held (X : Nat) (x : Pg.Leaf) (A : Option Addr) (c : Nat) (w0 u : World) : Prop :=
  u.cell? ⟨X, 0, none⟩ = some (.int .i64 x.lsn) ∧ u.cell? ⟨X, 1, none⟩ = some (.int .i64 x.kind) ∧ u.cell? ⟨X, 2, none⟩ = some (.int .i64 x.link) ∧ u.cell? ⟨X, 3, none⟩ = some (.slice A x.recs.length c) ∧ Cells u A c x.recs ∧ X < u.heap.size ∧ Below w0.heap.size w0 u
theorem Held.step {X : Nat} {x : Pg.Leaf} {A : Option Addr} {c : Nat} {w0 u v : World} (h : Held X x A c w0 u) (hb : Below u.heap.size u v) : Held X x A c w0 v := by
  obtain ⟨c0, c1, c2, c3, h4, h5, h6⟩ := h
  have := hb.size
  refine ⟨?_, ?_, ?_, ?_, h4.below hb, by omega, andThen h6 hb⟩
  · rw [hb.cell (p := ⟨X, 0, none⟩) h5]; exact c0
  · rw [hb.cell (p := ⟨X, 1, none⟩) h5]; exact c1
  · rw [hb.cell (p := ⟨X, 2, none⟩) h5]; exact c2
  · rw [hb.cell (p := ⟨X, 3, none⟩) h5]; exact c3
theorem Held.drew {X : Nat} {x : Pg.Leaf} {A : Option Addr} {c : Nat} {w0 u : World} (h : Held X x A c w0 u) : Held X x A c w0 u.drew := h.step (Below.refl _ _).drew
theorem below_drewN (w : World) (n : Nat) : Below w.heap.size w (w.drewN n) := ⟨rfl, rfl, rfl, Nat.le_refl _, fun _ _ => rfl⟩
theorem put_keeps (n size : Int) (h0 : 0 ≤ size) (h8 : size ≤ 8) (X : Nat) (x : Pg.Leaf) (A : Option Addr) (c : Nat) (w0 u : World) (h : Held X x A c w0 u) :
    Calls Try.prog 106 #[.int .i64 n, .int .i64 size] u fun e w' => e = .returned (.string (Oct.putB n size)) ∧ Held X x A c w0 w' :=
  (put_any n size h0 h8 u).mono fun _ _ ⟨h1, h2⟩ => ⟨h1, h.step h2⟩
theorem made_keeps (x : Pg.Leaf) (A : Option Addr) (c : Nat) (hf : Pg.Fine x) (X : Nat) (w0 u : World) (h : Held X x A c w0 u) :
    Calls Try.prog 87 #[.agg #[.int .i64 x.lsn, .int .i64 x.kind, .int .i64 x.link, .slice A x.recs.length c]] u fun e w' => e = .returned (.string ⟨(Pg.layL x).toArray⟩) ∧ Held X x A c w0 w' :=
  (made_any x A c hf.small (by have := hf.sizeN; omega) u h.2.2.2.2.1).mono fun _ _ ⟨h1, h2⟩ => ⟨h1, h.step h2⟩

set_option maxRecDepth 100000 in
set_option maxHeartbeats 2000000 in
theorem take_any (p : ByteArray) (hm : p.size ≤ 1048576) (w : World) :
    Calls Try.prog 75 #[.string p] w (Gives1 (Pg.right p.data.toList) w) := by
  have HR := Lib.hid (fun W => read_any p hm W)
  rcases hr : Pg.rd p.data.toList with _ | x
  · rw [hr] at HR
    rw [Pg.right_none_of hr]
    go_enter Try.func75, Try.ntmps75
    go_upto_region 2 with (first | (go_at_call 108; (with_reducible refine (HR.out _).mono ?_); rintro e w1 ⟨rfl, hb1⟩))
    have hlt : w.heap.size < w1.heap.size := by have := hb1.size; simp at this; omega
    have hbw := below_past hb1
    have hbx := blk_new hb1
    clear hb1
    have HH := Lib.hid (show Held w1.heap.size Pg.zero none 0 (w1.alloc (.cells #[.int .i64 0, .int .i64 0, .int .i64 0, .slice none 0 0] 67)) (w1.alloc (.cells #[.int .i64 0, .int .i64 0, .int .i64 0, .slice none 0 0] 67)) by
      obtain ⟨a0, a1, a2, a3, -⟩ := blk4 (heap_alloc_new w1 (.cells #[.int .i64 0, .int .i64 0, .int .i64 0, .slice none 0 0] 67))
      exact ⟨a0, a1, a2, a3, fun h0 => by simp [Pg.zero] at h0, by simp, Below.refl _ _⟩)
    go_cut [21] (fun s we => s = .bool true ∧ Held w1.heap.size Pg.zero none 0 (w1.alloc (.cells #[.int .i64 0, .int .i64 0, .int .i64 0, .slice none 0 0] 67)) we)
    case first =>
      go_quiet (fail)
      go_wp2_with fail
      go_meet
      case rel => exact ⟨rfl, HH.out.step (below_drewN _ _)⟩
    case rest =>
      obtain ⟨rfl, hS⟩ := hcut
      have hbb := andThen (below_past (hS.2.2.2.2.2.2)) (Below.refl _ _)
      obtain ⟨c0, c1, c2, c3, f0, f1, f2, f3⟩ := blk4 (blk_old hbx hbb)
      go_wp2_with fail
      refine bodyPost_ret (v := .tuple #[zeroV, .bool false]) (by simp [results, Try.results75, go_sem, c0, c1, c2, c3]) rfl ?_
      have hbw6 := andThen hbw hbb
      refine ⟨rfl, ?_⟩
      repeat (first | exact hbw6 | refine Below.setCell ?_ (by simp) _)
  · rw [hr] at HR
    obtain ⟨hf, h512⟩ := Pg.rd_fine hr
    have hps : p.size = 512 := by have h9 : p.data.toList.length = p.size := (by simp); omega
    rw [Pg.right_of hr]
    have HF := Lib.hid hf
    clear hr hf h512
    have hcmp : (Pg.layL x == (Oct.putB 0 4 ++ p.extract 4 512).toList) = decide (Pg.layL x = Oct.putL 0 4 ++ p.data.toList.drop 4) := by
      have h1 : (Oct.putB 0 4 ++ p.extract 4 512).data.toList = Oct.putL 0 4 ++ p.data.toList.drop 4 := by
        rw [ByteArray.data_append, Array.toList_append, show (Oct.putB 0 4).data.toList = Oct.putL 0 4 from Oct.putB_list 0 4 (by omega)]
        congr 1
        rw [show 512 = 4 + 508 from rfl, extract_eq]
        exact List.take_of_length_le (by have h9 : p.data.toList.length = p.size := (by simp); rw [List.length_drop]; omega)
      rw [ByteArray.toList_eq, h1]
      exact Bool.beq_eq_decide_eq _ _
    generalize decide (Pg.layL x = Oct.putL 0 4 ++ p.data.toList.drop 4) = b at hcmp ⊢
    have HCM := Lib.hid hcmp
    have hz1 : (Oct.putB 0 4).size = 4 := Oct.putB_size 0 4 (by omega)
    have hz2 : (p.extract 4 p.size).size = 508 := by simp; omega
    have hz3 : 4 ≤ p.size := by omega
    clear hcmp
    go_enter Try.func75, Try.ntmps75
    go_upto_region 2 with (first | (go_at_call 108; (with_reducible refine (HR.out _).mono ?_); rintro e w1 ⟨⟨A, c, rfl, hcl⟩, hb1⟩))
    have hlt : w.heap.size < w1.heap.size := by have := hb1.size; simp at this; omega
    have hbw := below_past hb1
    have hbx := blk_new hb1
    clear hb1
    have HH := Lib.hid (show Held w1.heap.size x A c (w1.alloc (.cells #[.int .i64 x.lsn, .int .i64 x.kind, .int .i64 x.link, .slice A x.recs.length c] 67)) (w1.alloc (.cells #[.int .i64 x.lsn, .int .i64 x.kind, .int .i64 x.link, .slice A x.recs.length c] 67)) by
      obtain ⟨a0, a1, a2, a3, -⟩ := blk4 (heap_alloc_new w1 (.cells #[.int .i64 x.lsn, .int .i64 x.kind, .int .i64 x.link, .slice A x.recs.length c] 67))
      exact ⟨a0, a1, a2, a3, (hcl.below ((Below.refl _ _).alloc (Nat.le_refl _) _)).cells, by simp, Below.refl _ _⟩)
    go_cut [21] (fun s we => s = .bool (!b) ∧ Held w1.heap.size x A c (w1.alloc (.cells #[.int .i64 x.lsn, .int .i64 x.kind, .int .i64 x.link, .slice A x.recs.length c] 67)) we)
    case first =>
      go_region_held3 (fun we => Held w1.heap.size x A c (w1.alloc (.cells #[.int .i64 x.lsn, .int .i64 x.kind, .int .i64 x.link, .slice A x.recs.length c] 67)) we) (first | assumption | exact HH.out.drew) (first | (go_at_call 87; refine (made_keeps x A c HF.out _ _ _ (by assumption)).mono ?_; rintro e w1 ⟨rfl, hS⟩) | (go_at_call 106; refine (put_keeps _ _ (by omega) (by omega) _ _ _ _ _ _ (by assumption)).mono ?_; rintro e w1 ⟨rfl, hS⟩))
      go_wp2_with fail
      go_meet
      case rel => exact ⟨congrArg (fun z => Value.bool (!z)) HCM.out, hS⟩
    case rest =>
      obtain ⟨rfl, hS⟩ := hcut
      have hbb := below_past (hS.2.2.2.2.2.2)
      obtain ⟨c0, c1, c2, c3, f0, f1, f2, f3⟩ := blk4 (blk_old hbx hbb)
      have hbw6 := andThen hbw hbb
      obtain ⟨x0, x1, x2, x3, hcl6, -, -⟩ := hS
      have hne : w1.heap.size ≠ w.heap.size := by omega
      cases b
      · go_wp2_with fail
        refine bodyPost_ret (v := .tuple #[zeroV, .bool false]) (by simp [results, Try.results75, go_sem, c0, c1, c2, c3]) rfl ?_
        refine ⟨rfl, ?_⟩
        repeat (first | exact hbw6 | refine Below.setCell ?_ (by simp) _)
      · go_wp2_with fail
        refine bodyPost_ret (v := .tuple #[leafV x A c, .bool true]) (by simp [results, Try.results75, go_sem, c0, c1, c2, c3]) rfl ?_
        refine ⟨⟨A, c, rfl, ?_⟩, ?_⟩
        · refine OwnCells.mono (B := w.heap.size + 1) ?_ (by omega)
          repeat (first | exact (hcl.below hbb).mono (by simp) | refine OwnCells.set ?_ _ (by simp) _)
        · repeat (first | exact hbw6 | refine Below.setCell ?_ (by simp) _)
end Go.Proofs.Ytgbihdlahghonaa
