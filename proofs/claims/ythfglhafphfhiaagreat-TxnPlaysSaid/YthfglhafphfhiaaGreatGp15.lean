/- The walks over the reference of transactions: Find, Mark, write. -/
import Derived.Test.YthfglhafphfhiaaGreatGp07
import Derived.Test.YthfglhafphfhiaaGreatGp12
import Derived.Test.YthfglhafphfhiaaGreatGp14
import Derived.Test.YthfglhafphfhiaaGreatGp08
namespace Go.Proofs.YthfglhafphfhiaaGreat
open Go.RowKit
set_option maxRecDepth 100000 in
set_option maxHeartbeats 8000000 in
theorem rfind_any (s : Tx.St) (p : SP) (n : Int) (hts : s.txns.length ≤ 800000) (w : World) (h : StoreR w s p) :
    Calls Tryz.prog 11 #[storeV s p, .int .i64 n] w fun e w' => e = .returned (.tuple #[txV (Tx.findS s n).1, .bool (Tx.findS s n).2]) ∧ Below w.heap.size w w' := by
  have hP := fun W (hb : Below w.heap.size w W) => rplace_any s.txns n (by omega) p.T p.tc W (h.tx.below hb)
  have HTX := Lib.hid h.tx
  clear h
  obtain ⟨zl, zp, zf, ⟨L, lf, dn⟩, ⟨fr, ln, en, sf, tl⟩, hd, ts, nx⟩ := s
  obtain ⟨A, c, FA, fn, fc, TA, tc⟩ := p
  simp only at hP HTX hts
  dsimp only [storeV]
  cases hp : Tx.placeT ts n with
  | none =>
    rw [Tx.findS_none (s := ⟨zl, zp, zf, ⟨L, lf, dn⟩, ⟨fr, ln, en, sf, tl⟩, hd, ts, nx⟩) hp]
    rw [hp] at hP
    unfold PlaceOut at hP
    simp only [Tx.placeI] at hP
    have HP := Lib.hid hP
    clear hP
    go_enter Tryz.func11, Tryz.ntmps11
    go_upto_region 1 with fail
    have H0 := Lib.hid (show BxL w.heap.size w [(#[.int .i64 zl, .int .i64 zp, .int .i64 zf, .slice A L.length c, .int .i64 lf, .bool dn, .int .i64 fr, .int .i64 ln, .int .i64 en, .int .i64 sf, .string tl, .slice FA fn fc, .int .i64 hd, .slice TA ts.length tc, .int .i64 nx], 37), (#[.int .i64 0, .int .i64 0, .int .i64 0, .bool false], 45)] ((w.alloc (.cells #[.int .i64 zl, .int .i64 zp, .int .i64 zf, .slice A L.length c, .int .i64 lf, .bool dn, .int .i64 fr, .int .i64 ln, .int .i64 en, .int .i64 sf, .string tl, .slice FA fn fc, .int .i64 hd, .slice TA ts.length tc, .int .i64 nx] 37)).alloc (.cells #[.int .i64 0, .int .i64 0, .int .i64 0, .bool false] 45)) from (((BxL.nil (Below.refl w.heap.size w)).new (by simp) #[.int .i64 zl, .int .i64 zp, .int .i64 zf, .slice A L.length c, .int .i64 lf, .bool dn, .int .i64 fr, .int .i64 ln, .int .i64 en, .int .i64 sf, .string tl, .slice FA fn fc, .int .i64 hd, .slice TA ts.length tc, .int .i64 nx] 37).new (by simp) #[.int .i64 0, .int .i64 0, .int .i64 0, .bool false] 45))
    obtain ⟨W0, hW0⟩ : ∃ W, W = ((w.alloc (.cells #[.int .i64 zl, .int .i64 zp, .int .i64 zf, .slice A L.length c, .int .i64 lf, .bool dn, .int .i64 fr, .int .i64 ln, .int .i64 en, .int .i64 sf, .string tl, .slice FA fn fc, .int .i64 hd, .slice TA ts.length tc, .int .i64 nx] 37)).alloc (.cells #[.int .i64 0, .int .i64 0, .int .i64 0, .bool false] 45)) := ⟨_, rfl⟩
    rw [← hW0] at H0 ⊢
    clear hW0
    have hc0 := blkCell H0.out.get0
    go_wp2_with (first
      | (go_at_call 36; (with_reducible refine (HP.out _ H0.out.below).mono ?_); rintro e w1 ⟨rfl, hb1⟩; have H1 := Lib.hid (H0.out.step hb1))
      | (with_reducible refine listStore (by kernel_rfl) 45 (.tmp 4) (.tmp 13) rfl (w.heap.size + 1) #[.int .i64 0, .int .i64 0, .int .i64 0, .bool false] _ _ rfl rfl H1.out.get1 (by kernel_rfl) (by kernel_rfl) (by kernel_rfl) ?_))
    refine bodyPost_ret (v := .tuple #[.agg #[.int .i64 0, .int .i64 0, .int .i64 0, .bool false], .bool false]) (results_cell2 rfl _ _ rfl (load_whole (setRow_heap _ _ _ _ _ _ H1.out.get1) Tryz.underlying45 (by kernel_rfl) (by kernel_rfl)) rfl) rfl ?_
    exact ⟨rfl, (H1.out.row 1 _ _ rfl).below⟩
  | some i =>
    obtain ⟨hi, -⟩ := Tx.placeT_some hp
    rw [Tx.findS_some (s := ⟨zl, zp, zf, ⟨L, lf, dn⟩, ⟨fr, ln, en, sf, tl⟩, hd, ts, nx⟩) hp hi]
    simp only
    rw [hp] at hP
    unfold PlaceOut at hP
    simp only [Tx.placeI] at hP
    have HP := Lib.hid hP
    clear hP
    have hi0 : (0 : Int) ≤ (i : Int) := by omega
    have hin0 : ¬ (i : Int) < 0 := by omega
    have hiI : (i : Int) < (ts.length : Int) := by omega
    obtain ⟨b, off, rfl, hcc, hbl, hcell⟩ := read_at txC_len HTX.out hi
    generalize ts[i] = x at hcell ⊢
    obtain ⟨xa, xb, xc, xd⟩ := x
    have HCELL := Lib.hid hcell
    clear hcell hp hi
    go_enter Tryz.func11, Tryz.ntmps11
    go_upto_region 1 with fail
    have H0 := Lib.hid (show BxL w.heap.size w [(#[.int .i64 zl, .int .i64 zp, .int .i64 zf, .slice A L.length c, .int .i64 lf, .bool dn, .int .i64 fr, .int .i64 ln, .int .i64 en, .int .i64 sf, .string tl, .slice FA fn fc, .int .i64 hd, .slice (some ⟨b, off, none⟩) ts.length tc, .int .i64 nx], 37), (#[.int .i64 0, .int .i64 0, .int .i64 0, .bool false], 45)] ((w.alloc (.cells #[.int .i64 zl, .int .i64 zp, .int .i64 zf, .slice A L.length c, .int .i64 lf, .bool dn, .int .i64 fr, .int .i64 ln, .int .i64 en, .int .i64 sf, .string tl, .slice FA fn fc, .int .i64 hd, .slice (some ⟨b, off, none⟩) ts.length tc, .int .i64 nx] 37)).alloc (.cells #[.int .i64 0, .int .i64 0, .int .i64 0, .bool false] 45)) from (((BxL.nil (Below.refl w.heap.size w)).new (by simp) #[.int .i64 zl, .int .i64 zp, .int .i64 zf, .slice A L.length c, .int .i64 lf, .bool dn, .int .i64 fr, .int .i64 ln, .int .i64 en, .int .i64 sf, .string tl, .slice FA fn fc, .int .i64 hd, .slice (some ⟨b, off, none⟩) ts.length tc, .int .i64 nx] 37).new (by simp) #[.int .i64 0, .int .i64 0, .int .i64 0, .bool false] 45))
    obtain ⟨W0, hW0⟩ : ∃ W, W = ((w.alloc (.cells #[.int .i64 zl, .int .i64 zp, .int .i64 zf, .slice A L.length c, .int .i64 lf, .bool dn, .int .i64 fr, .int .i64 ln, .int .i64 en, .int .i64 sf, .string tl, .slice FA fn fc, .int .i64 hd, .slice (some ⟨b, off, none⟩) ts.length tc, .int .i64 nx] 37)).alloc (.cells #[.int .i64 0, .int .i64 0, .int .i64 0, .bool false] 45)) := ⟨_, rfl⟩
    rw [← hW0] at H0 ⊢
    clear hW0
    have hc0 := blkCell H0.out.get0
    go_wp2_with (first
      | (go_at_call 36; (with_reducible refine (HP.out _ H0.out.below).mono ?_); rintro e w1 ⟨rfl, hb1⟩; have H1 := Lib.hid (H0.out.step hb1); have hc1 := blkCell H1.out.get0; have HR1 : w1.rangeAt b (off + i * 4) [.int .i64 xa, .int .i64 xb, .int .i64 xc, .bool xd] := fun j v hj => (by rw [H1.out.below.cell (p := ⟨b, off + i * 4 + j, none⟩) hbl]; exact HCELL.out j v hj); have HRG := Lib.hid HR1; clear HR1)
      | (with_reducible refine wpList_load_mid rfl 45 (.tmp 17) rfl b (off + i * 4) rfl [.int .i64 xa, .int .i64 xb, .int .i64 xc, .bool xd] _ HRG.out Tryz.underlying45 (by kernel_rfl) (by kernel_rfl) ?_)
      | (with_reducible refine listStore (by kernel_rfl) 45 (.tmp 4) (.tmp 18) rfl (w.heap.size + 1) #[.int .i64 xa, .int .i64 xb, .int .i64 xc, .bool xd] _ _ rfl rfl H1.out.get1 (by kernel_rfl) (by kernel_rfl) (by kernel_rfl) ?_))
    refine bodyPost_ret (v := .tuple #[.agg #[.int .i64 xa, .int .i64 xb, .int .i64 xc, .bool xd], .bool true]) (results_cell2 rfl _ _ rfl (load_whole (setRow_heap _ _ _ _ _ _ H1.out.get1) Tryz.underlying45 (by kernel_rfl) (by kernel_rfl)) rfl) rfl ?_
    exact ⟨rfl, (H1.out.row 1 _ _ rfl).below⟩
set_option maxRecDepth 100000 in
set_option maxHeartbeats 8000000 in
theorem rmark_any (s : Tx.St) (p : SP) (n : Int) (hts : s.txns.length ≤ 800000) (w : World) (h : StoreR w s p) :
    Calls Tryz.prog 14 #[storeV s p, .int .i64 n] w fun e w' => e = .returned (.int .i64 (Tx.markS s n)) ∧ Below w.heap.size w w' := by
  have HF := Lib.hid (fun W (hb : Below w.heap.size w W) => rfind_any s p n hts W (h.below hb))
  unfold Tx.markS
  generalize Tx.findS s n = x at HF ⊢
  obtain ⟨⟨xa, xb, xc, xd⟩, ok⟩ := x
  clear h
  obtain ⟨zl, zp, zf, ⟨L, lf, dn⟩, ⟨fr, ln, en, sf, tl⟩, hd, ts, nx⟩ := s
  obtain ⟨A, c, FA, fn, fc, TA, tc⟩ := p
  dsimp only [storeV] at HF ⊢
  go_enter Tryz.func14, Tryz.ntmps14
  go_upto_region 1 with fail
  have H0 := Lib.hid (show BxL w.heap.size w [(#[.int .i64 zl, .int .i64 zp, .int .i64 zf, .slice A L.length c, .int .i64 lf, .bool dn, .int .i64 fr, .int .i64 ln, .int .i64 en, .int .i64 sf, .string tl, .slice FA fn fc, .int .i64 hd, .slice TA ts.length tc, .int .i64 nx], 37)] (w.alloc (.cells #[.int .i64 zl, .int .i64 zp, .int .i64 zf, .slice A L.length c, .int .i64 lf, .bool dn, .int .i64 fr, .int .i64 ln, .int .i64 en, .int .i64 sf, .string tl, .slice FA fn fc, .int .i64 hd, .slice TA ts.length tc, .int .i64 nx] 37)) from ((BxL.nil (Below.refl w.heap.size w)).new (by simp) #[.int .i64 zl, .int .i64 zp, .int .i64 zf, .slice A L.length c, .int .i64 lf, .bool dn, .int .i64 fr, .int .i64 ln, .int .i64 en, .int .i64 sf, .string tl, .slice FA fn fc, .int .i64 hd, .slice TA ts.length tc, .int .i64 nx] 37))
  obtain ⟨W0, hW0⟩ : ∃ W, W = (w.alloc (.cells #[.int .i64 zl, .int .i64 zp, .int .i64 zf, .slice A L.length c, .int .i64 lf, .bool dn, .int .i64 fr, .int .i64 ln, .int .i64 en, .int .i64 sf, .string tl, .slice FA fn fc, .int .i64 hd, .slice TA ts.length tc, .int .i64 nx] 37)) := ⟨_, rfl⟩
  rw [← hW0] at H0 ⊢
  clear hW0
  go_upto_region 2 with (first
    | (with_reducible refine listLoad (by kernel_rfl) 37 (.tmp 2) rfl w.heap.size rfl #[.int .i64 zl, .int .i64 zp, .int .i64 zf, .slice A L.length c, .int .i64 lf, .bool dn, .int .i64 fr, .int .i64 ln, .int .i64 en, .int .i64 sf, .string tl, .slice FA fn fc, .int .i64 hd, .slice TA ts.length tc, .int .i64 nx] _ H0.out.get0 _ Tryz.underlying37 (by kernel_rfl) (by kernel_rfl) ?_)
    | (go_at_call 11; (with_reducible refine (HF.out _ H0.out.below).mono ?_); rintro e w1 ⟨rfl, hb1⟩)
    | (with_reducible refine wpList_store_new rfl 45 (.tmp 5) (.tmp 11) rfl #[.int .i64 xa, .int .i64 xb, .int .i64 xc, .bool xd] _ _ rfl (by kernel_rfl) (by kernel_rfl) (by kernel_rfl) (by kernel_rfl) ?_))
  have hc1 := blkCell (heap_alloc_new w1 (.cells #[.int .i64 xa, .int .i64 xb, .int .i64 xc, .bool xd] 45))
  have HB := Lib.hid (joinB H0.out.below (pastAlloc (o := .cells #[.int .i64 xa, .int .i64 xb, .int .i64 xc, .bool xd] 45) hb1))
  clear hb1
  go_wp2_with fail
  go_ret
  exact ⟨rfl, HB.out⟩
set_option maxRecDepth 100000 in
set_option maxHeartbeats 8000000 in
theorem rput42_any (s : Tx.St) (p : SP) (hb : Tx.LogB s) (hts : s.txns.length ≤ 800000) (lsn prev txn kind next : Int) (w : World) (h : StoreR w s p) (hkd : Tk kind := by first | assumption | exact .inl rfl | exact .inr (.inl rfl) | exact .inr (.inr (.inl rfl)) | exact .inr (.inr (.inr (.inl rfl))) | exact .inr (.inr (.inr (.inr rfl)))) :
    Calls Tryz.prog 56 #[storeV s p, .agg #[.int .i64 lsn, .int .i64 prev, .int .i64 txn, .int .i64 kind, .int .i64 0, .int .i64 next, .int .i64 0, .int .i64 0, .int .i64 0, .string ⟨#[]⟩, .string ⟨#[]⟩, .int .i64 0, .int .i64 0, .string ⟨#[]⟩, .int .i64 0, .int .i64 0, .slice none 0 0, .slice none 0 0]] w (StOut (Tx.putS s (rbR lsn prev txn kind next)) p w) := by
  have HA := Lib.hid (fun W => rappend_any s.log hb.e0 (by have := hb.e1; omega) (by have := hb.n0; omega) (by have := hb.n1; omega) (by have := hb.t0; have := hb.e1; omega) (rbR lsn prev txn kind next) none none 0 0 W (recR_nil _ _ rfl rfl))
  have HS := Lib.hid h
  have hput : ∃ x, x = Tx.putS s (rbR lsn prev txn kind next) ∧ ((Lg.appendD s.log (rbR lsn prev txn kind next)).2.2 = 0 → x = ({ s with log := (Lg.appendD s.log (rbR lsn prev txn kind next)).1, txns := Tx.noteT s.txns (rbR (Lg.appendD s.log (rbR lsn prev txn kind next)).2.1 prev txn kind next) }, 0)) ∧ (¬ (Lg.appendD s.log (rbR lsn prev txn kind next)).2.2 = 0 → x = (s, (Lg.appendD s.log (rbR lsn prev txn kind next)).2.2)) := ⟨_, rfl, (fun h0 => by unfold Tx.putS; rw [if_pos h0]), (fun h0 => by unfold Tx.putS; rw [if_neg h0])⟩
  obtain ⟨x, hx, hx0, hx1⟩ := hput
  rw [← hx]
  clear hx
  generalize Lg.appendD s.log (rbR lsn prev txn kind next) = o at HA hx0 hx1
  obtain ⟨⟨gf, gn, ge, gs, gt⟩, n, e⟩ := o
  simp only at hx0 hx1
  have HNT := Lib.hid (fun W (hb : Below w.heap.size w W) => rnote_any s.txns (by omega) p.T p.tc (rbR n prev txn kind next) none none 0 0 0 0 W (h.tx.below hb))
  clear h hb
  by_cases he : e = 0
  · subst he
    have HX := Lib.hid (hx0 rfl)
    clear hx0 hx1
    have HF := Lib.hid (fun (A' : Option Addr) (c' : Nat) w' (hs : StoreR w' { s with log := ⟨gf, gn, ge, gs, gt⟩, txns := Tx.noteT s.txns (rbR n prev txn kind next) } ⟨p.A, p.c, p.F, p.fn, p.fc, A', c'⟩) (hb : Below w.heap.size w w') => show StOut x p w (.returned (.tuple #[storeV { s with log := ⟨gf, gn, ge, gs, gt⟩, txns := Tx.noteT s.txns (rbR n prev txn kind next) } ⟨p.A, p.c, p.F, p.fn, p.fc, A', c'⟩, .int .i64 0])) w' from by rw [HX.out]; exact ⟨_, rfl, hs, ⟨rfl, rfl, rfl⟩, hb⟩)
    generalize StOut x p w = Q at HF ⊢
    have hnl := Tx.noteT_len s.txns (rbR n prev txn kind next)
    generalize Tx.noteT s.txns (rbR n prev txn kind next) = ts2 at HNT HF hnl
    obtain ⟨zl, zp, zf, ⟨L, lf, dn⟩, ⟨fr, ln, en, sf, tl⟩, hd, ts, nx⟩ := s
    obtain ⟨A, c, FA, fn, fc, TA, tc⟩ := p
    dsimp only [storeV, recV, recA, logV, Rc.noOp, Rc.noKey, List.length_nil] at HA HNT HF ⊢
    clear HX
    go_enter Tryz.func56, Tryz.ntmps56
    go_upto_region 1 with fail
    have H0 := Lib.hid (show BxL w.heap.size w [(#[.int .i64 zl, .int .i64 zp, .int .i64 zf, .slice A L.length c, .int .i64 lf, .bool dn, .int .i64 fr, .int .i64 ln, .int .i64 en, .int .i64 sf, .string tl, .slice FA fn fc, .int .i64 hd, .slice TA ts.length tc, .int .i64 nx], 37), (#[.int .i64 lsn, .int .i64 prev, .int .i64 txn, .int .i64 kind, .int .i64 0, .int .i64 next, .int .i64 0, .int .i64 0, .int .i64 0, .string ⟨#[]⟩, .string ⟨#[]⟩, .int .i64 0, .int .i64 0, .string ⟨#[]⟩, .int .i64 0, .int .i64 0, .slice none 0 0, .slice none 0 0], 85), (#[.int .i64 0, .int .i64 0, .int .i64 0, .slice none 0 0, .int .i64 0, .bool false, .int .i64 0, .int .i64 0, .int .i64 0, .int .i64 0, .string ⟨#[]⟩, .slice none 0 0, .int .i64 0, .slice none 0 0, .int .i64 0], 37)] (((w.alloc (.cells #[.int .i64 zl, .int .i64 zp, .int .i64 zf, .slice A L.length c, .int .i64 lf, .bool dn, .int .i64 fr, .int .i64 ln, .int .i64 en, .int .i64 sf, .string tl, .slice FA fn fc, .int .i64 hd, .slice TA ts.length tc, .int .i64 nx] 37)).alloc (.cells #[.int .i64 lsn, .int .i64 prev, .int .i64 txn, .int .i64 kind, .int .i64 0, .int .i64 next, .int .i64 0, .int .i64 0, .int .i64 0, .string ⟨#[]⟩, .string ⟨#[]⟩, .int .i64 0, .int .i64 0, .string ⟨#[]⟩, .int .i64 0, .int .i64 0, .slice none 0 0, .slice none 0 0] 85)).alloc (.cells #[.int .i64 0, .int .i64 0, .int .i64 0, .slice none 0 0, .int .i64 0, .bool false, .int .i64 0, .int .i64 0, .int .i64 0, .int .i64 0, .string ⟨#[]⟩, .slice none 0 0, .int .i64 0, .slice none 0 0, .int .i64 0] 37)) from ((((BxL.nil (Below.refl w.heap.size w)).new (by simp) #[.int .i64 zl, .int .i64 zp, .int .i64 zf, .slice A L.length c, .int .i64 lf, .bool dn, .int .i64 fr, .int .i64 ln, .int .i64 en, .int .i64 sf, .string tl, .slice FA fn fc, .int .i64 hd, .slice TA ts.length tc, .int .i64 nx] 37).new (by simp) #[.int .i64 lsn, .int .i64 prev, .int .i64 txn, .int .i64 kind, .int .i64 0, .int .i64 next, .int .i64 0, .int .i64 0, .int .i64 0, .string ⟨#[]⟩, .string ⟨#[]⟩, .int .i64 0, .int .i64 0, .string ⟨#[]⟩, .int .i64 0, .int .i64 0, .slice none 0 0, .slice none 0 0] 85).new (by simp) #[.int .i64 0, .int .i64 0, .int .i64 0, .slice none 0 0, .int .i64 0, .bool false, .int .i64 0, .int .i64 0, .int .i64 0, .int .i64 0, .string ⟨#[]⟩, .slice none 0 0, .int .i64 0, .slice none 0 0, .int .i64 0] 37))
    obtain ⟨W0, hW0⟩ : ∃ W, W = (((w.alloc (.cells #[.int .i64 zl, .int .i64 zp, .int .i64 zf, .slice A L.length c, .int .i64 lf, .bool dn, .int .i64 fr, .int .i64 ln, .int .i64 en, .int .i64 sf, .string tl, .slice FA fn fc, .int .i64 hd, .slice TA ts.length tc, .int .i64 nx] 37)).alloc (.cells #[.int .i64 lsn, .int .i64 prev, .int .i64 txn, .int .i64 kind, .int .i64 0, .int .i64 next, .int .i64 0, .int .i64 0, .int .i64 0, .string ⟨#[]⟩, .string ⟨#[]⟩, .int .i64 0, .int .i64 0, .string ⟨#[]⟩, .int .i64 0, .int .i64 0, .slice none 0 0, .slice none 0 0] 85)).alloc (.cells #[.int .i64 0, .int .i64 0, .int .i64 0, .slice none 0 0, .int .i64 0, .bool false, .int .i64 0, .int .i64 0, .int .i64 0, .int .i64 0, .string ⟨#[]⟩, .slice none 0 0, .int .i64 0, .slice none 0 0, .int .i64 0] 37)) := ⟨_, rfl⟩
    rw [← hW0] at H0 ⊢
    clear hW0
    go_upto_region 2 with (first
      | (with_reducible refine listPart (by kernel_rfl) 31 (.tmp 10) rfl w.heap.size 6 rfl #[.int .i64 fr, .int .i64 ln, .int .i64 en, .int .i64 sf, .string tl] #[.int .i64 zl, .int .i64 zp, .int .i64 zf, .slice A L.length c, .int .i64 lf, .bool dn, .int .i64 fr, .int .i64 ln, .int .i64 en, .int .i64 sf, .string tl, .slice FA fn fc, .int .i64 hd, .slice TA ts.length tc, .int .i64 nx] _ H0.out.get0 (by kernel_rfl) _ Tryz.underlying31 (by kernel_rfl) (by kernel_rfl) ?_)
      | (with_reducible refine listLoad (by kernel_rfl) 85 (.tmp 3) rfl (w.heap.size + 1) rfl #[.int .i64 lsn, .int .i64 prev, .int .i64 txn, .int .i64 kind, .int .i64 0, .int .i64 next, .int .i64 0, .int .i64 0, .int .i64 0, .string ⟨#[]⟩, .string ⟨#[]⟩, .int .i64 0, .int .i64 0, .string ⟨#[]⟩, .int .i64 0, .int .i64 0, .slice none 0 0, .slice none 0 0] _ H0.out.get1 _ Tryz.underlying85 (by kernel_rfl) (by kernel_rfl) ?_)
      | (go_at_call 85; (with_reducible refine (HA.out _).mono ?_); rintro e w1 ⟨he1, hb1⟩; dsimp only [logV] at he1; subst he1)
      | (with_reducible refine wpList_store_new rfl 31 (.tmp 6) (.tmp 14) rfl #[.int .i64 gf, .int .i64 gn, .int .i64 ge, .int .i64 gs, .string gt] _ _ rfl (by kernel_rfl) (by kernel_rfl) (by kernel_rfl) (by kernel_rfl) ?_))
    have H1 := Lib.hid (H0.out.step (pastAlloc (o := .cells #[.int .i64 gf, .int .i64 gn, .int .i64 ge, .int .i64 gs, .string gt] 31) hb1))
    have HG := Lib.hid (heap_alloc_new w1 (.cells #[.int .i64 gf, .int .i64 gn, .int .i64 ge, .int .i64 gs, .string gt] 31))
    have hgb : w.heap.size + 3 ≤ w1.heap.size := Nat.le_trans (H0.out.lt (i := 2) (by simp)) hb1.size
    obtain ⟨gb, hge⟩ : ∃ gb, gb = w1.heap.size := ⟨_, rfl⟩
    obtain ⟨W1, hW1⟩ : ∃ W, W = w1.alloc (.cells #[.int .i64 gf, .int .i64 gn, .int .i64 ge, .int .i64 gs, .string gt] 31) := ⟨_, rfl⟩
    rw [← hge] at HG hgb
    rw [← hW1] at H1 HG
    rw [← hW1, ← hge]
    clear hge hW1 hb1 H0 HA
    have hc1 := blkCell H1.out.get1
    have hz1 := blkFrozen H1.out.get1
    go_upto_region 5 with fail
    have H2 := Lib.hid (H1.out.set 1 0 (.int .i64 n) _ rfl)
    have HG2 := Lib.hid (show (W1.setCell ⟨w.heap.size + 1, 0, none⟩ (.int .i64 n)).heap[gb]? = some (.cells #[.int .i64 gf, .int .i64 gn, .int .i64 ge, .int .i64 gs, .string gt] 31 (0, 0)) from (Below.heap_setCell _ _ _ _ (by show gb ≠ w.heap.size + 1; omega)).trans HG.out)
    obtain ⟨W2, hW2⟩ : ∃ W, W = W1.setCell ⟨w.heap.size + 1, 0, none⟩ (.int .i64 n) := ⟨_, rfl⟩
    rw [← hW2] at H2 HG2
    rw [← hW2]
    clear hW2 hc1 hz1 H1 HG
    go_upto_region 6 with (first
      | (with_reducible refine listLoad (by kernel_rfl) 31 (.tmp 6) rfl gb rfl #[.int .i64 gf, .int .i64 gn, .int .i64 ge, .int .i64 gs, .string gt] _ HG2.out _ Tryz.underlying31 (by kernel_rfl) (by kernel_rfl) ?_)
      | (with_reducible refine listPut (by kernel_rfl) 31 (.tmp 24) (.tmp 23) rfl w.heap.size 6 #[.int .i64 gf, .int .i64 gn, .int .i64 ge, .int .i64 gs, .string gt] #[.int .i64 zl, .int .i64 zp, .int .i64 zf, .slice A L.length c, .int .i64 lf, .bool dn, .int .i64 fr, .int .i64 ln, .int .i64 en, .int .i64 sf, .string tl, .slice FA fn fc, .int .i64 hd, .slice TA ts.length tc, .int .i64 nx] #[.int .i64 zl, .int .i64 zp, .int .i64 zf, .slice A L.length c, .int .i64 lf, .bool dn, .int .i64 gf, .int .i64 gn, .int .i64 ge, .int .i64 gs, .string gt, .slice FA fn fc, .int .i64 hd, .slice TA ts.length tc, .int .i64 nx] _ rfl rfl H2.out.get0 (by kernel_rfl) (by kernel_rfl) (by kernel_rfl) (by kernel_rfl) ?_))
    have H3 := Lib.hid (H2.out.row 0 #[.int .i64 zl, .int .i64 zp, .int .i64 zf, .slice A L.length c, .int .i64 lf, .bool dn, .int .i64 gf, .int .i64 gn, .int .i64 ge, .int .i64 gs, .string gt, .slice FA fn fc, .int .i64 hd, .slice TA ts.length tc, .int .i64 nx] _ rfl)
    simp only [Nat.add_zero] at H3
    obtain ⟨W3, hW3⟩ : ∃ W, W = W2.setRow w.heap.size #[.int .i64 zl, .int .i64 zp, .int .i64 zf, .slice A L.length c, .int .i64 lf, .bool dn, .int .i64 gf, .int .i64 gn, .int .i64 ge, .int .i64 gs, .string gt, .slice FA fn fc, .int .i64 hd, .slice TA ts.length tc, .int .i64 nx] := ⟨_, rfl⟩
    rw [← hW3] at H3
    rw [← hW3]
    clear hW3 H2 HG2
    have hc3 := blkCell H3.out.get0
    go_upto_region 7 with (first
      | (with_reducible refine listLoad (by kernel_rfl) 85 (.tmp 3) rfl (w.heap.size + 1) rfl #[.int .i64 n, .int .i64 prev, .int .i64 txn, .int .i64 kind, .int .i64 0, .int .i64 next, .int .i64 0, .int .i64 0, .int .i64 0, .string ⟨#[]⟩, .string ⟨#[]⟩, .int .i64 0, .int .i64 0, .string ⟨#[]⟩, .int .i64 0, .int .i64 0, .slice none 0 0, .slice none 0 0] _ H3.out.get1 _ Tryz.underlying85 (by kernel_rfl) (by kernel_rfl) ?_)
      | (go_at_call 59; (with_reducible refine (HNT.out _ H3.out.below).mono ?_); rintro e w4 ⟨A', c', rfl, hr4, ht4, hb4⟩; have H4 := Lib.hid (H3.out.step hb4); have hc4 := blkCell H4.out.get0; have hz4 := blkFrozen H4.out.get0; clear hc3))
    have HS4 := Lib.hid (show StoreR w4 ⟨zl, zp, zf, ⟨L, lf, dn⟩, ⟨gf, gn, ge, gs, gt⟩, hd, ts2, nx⟩ ⟨A, c, FA, fn, fc, A', c'⟩ from ⟨HS.out.dk.below H4.out.below, HS.out.dt.below H4.out.below, hr4, ht4⟩)
    have HS5 := Lib.hid (HS4.out.set H4.out.get0 (by decide) (by decide) 13 (.slice A' ts2.length c'))
    have H5 := Lib.hid (H4.out.set 0 13 (.slice A' ts2.length c') _ rfl)
    simp only [Nat.add_zero] at H5
    obtain ⟨W5, hW5⟩ : ∃ W, W = w4.setCell ⟨w.heap.size, 13, none⟩ (.slice A' ts2.length c') := ⟨_, rfl⟩
    rw [← hW5] at H5 HS5
    rw [← hW5]
    clear hW5 hc4 hz4 H4 HS4 hr4 ht4 hb4 H3 HS HNT
    go_wp2_with (first
      | (with_reducible refine listLoad (by kernel_rfl) 37 (.tmp 2) rfl w.heap.size rfl #[.int .i64 zl, .int .i64 zp, .int .i64 zf, .slice A L.length c, .int .i64 lf, .bool dn, .int .i64 gf, .int .i64 gn, .int .i64 ge, .int .i64 gs, .string gt, .slice FA fn fc, .int .i64 hd, .slice A' ts2.length c', .int .i64 nx] _ H5.out.get0 _ Tryz.underlying37 (by kernel_rfl) (by kernel_rfl) ?_)
      | (with_reducible refine listStore (by kernel_rfl) 37 (.tmp 4) (.tmp 30) rfl (w.heap.size + 2) #[.int .i64 zl, .int .i64 zp, .int .i64 zf, .slice A L.length c, .int .i64 lf, .bool dn, .int .i64 gf, .int .i64 gn, .int .i64 ge, .int .i64 gs, .string gt, .slice FA fn fc, .int .i64 hd, .slice A' ts2.length c', .int .i64 nx] _ _ rfl rfl H5.out.get2 (by kernel_rfl) (by kernel_rfl) (by kernel_rfl) ?_))
    refine bodyPost_ret (v := .tuple #[.agg #[.int .i64 zl, .int .i64 zp, .int .i64 zf, .slice A L.length c, .int .i64 lf, .bool dn, .int .i64 gf, .int .i64 gn, .int .i64 ge, .int .i64 gs, .string gt, .slice FA fn fc, .int .i64 hd, .slice A' ts2.length c', .int .i64 nx], .int .i64 0]) (results_cell2 rfl _ _ rfl (load_whole (setRow_heap _ _ _ _ _ _ H5.out.get2) Tryz.underlying37 (by kernel_rfl) (by kernel_rfl)) rfl) rfl ?_
    exact HF.out A' c' _ (HS5.out.other H5.out.get2 (by decide) (by decide) _) ((H5.out.row 2 _ _ rfl).below)
  · have HX := Lib.hid (hx1 he)
    have he1 : (e == 0) = false := by simpa using he
    have he2 : (e != 0) = true := by simpa using he
    clear hx0 hx1 he HNT
    have HF := Lib.hid (fun w' (hb : Below w.heap.size w w') => show StOut x p w (.returned (.tuple #[storeV s p, .int .i64 e])) w' from by rw [HX.out]; exact ⟨_, rfl, HS.out.below hb, ⟨rfl, rfl, rfl⟩, hb⟩)
    generalize StOut x p w = Q at HF ⊢
    clear HX HS hts
    obtain ⟨zl, zp, zf, ⟨L, lf, dn⟩, ⟨fr, ln, en, sf, tl⟩, hd, ts, nx⟩ := s
    obtain ⟨A, c, FA, fn, fc, TA, tc⟩ := p
    dsimp only [storeV, recV, recA, logV, Rc.noOp, Rc.noKey, List.length_nil] at HA HF ⊢
    go_enter Tryz.func56, Tryz.ntmps56
    go_upto_region 1 with fail
    have H0 := Lib.hid (show BxL w.heap.size w [(#[.int .i64 zl, .int .i64 zp, .int .i64 zf, .slice A L.length c, .int .i64 lf, .bool dn, .int .i64 fr, .int .i64 ln, .int .i64 en, .int .i64 sf, .string tl, .slice FA fn fc, .int .i64 hd, .slice TA ts.length tc, .int .i64 nx], 37), (#[.int .i64 lsn, .int .i64 prev, .int .i64 txn, .int .i64 kind, .int .i64 0, .int .i64 next, .int .i64 0, .int .i64 0, .int .i64 0, .string ⟨#[]⟩, .string ⟨#[]⟩, .int .i64 0, .int .i64 0, .string ⟨#[]⟩, .int .i64 0, .int .i64 0, .slice none 0 0, .slice none 0 0], 85), (#[.int .i64 0, .int .i64 0, .int .i64 0, .slice none 0 0, .int .i64 0, .bool false, .int .i64 0, .int .i64 0, .int .i64 0, .int .i64 0, .string ⟨#[]⟩, .slice none 0 0, .int .i64 0, .slice none 0 0, .int .i64 0], 37)] (((w.alloc (.cells #[.int .i64 zl, .int .i64 zp, .int .i64 zf, .slice A L.length c, .int .i64 lf, .bool dn, .int .i64 fr, .int .i64 ln, .int .i64 en, .int .i64 sf, .string tl, .slice FA fn fc, .int .i64 hd, .slice TA ts.length tc, .int .i64 nx] 37)).alloc (.cells #[.int .i64 lsn, .int .i64 prev, .int .i64 txn, .int .i64 kind, .int .i64 0, .int .i64 next, .int .i64 0, .int .i64 0, .int .i64 0, .string ⟨#[]⟩, .string ⟨#[]⟩, .int .i64 0, .int .i64 0, .string ⟨#[]⟩, .int .i64 0, .int .i64 0, .slice none 0 0, .slice none 0 0] 85)).alloc (.cells #[.int .i64 0, .int .i64 0, .int .i64 0, .slice none 0 0, .int .i64 0, .bool false, .int .i64 0, .int .i64 0, .int .i64 0, .int .i64 0, .string ⟨#[]⟩, .slice none 0 0, .int .i64 0, .slice none 0 0, .int .i64 0] 37)) from ((((BxL.nil (Below.refl w.heap.size w)).new (by simp) #[.int .i64 zl, .int .i64 zp, .int .i64 zf, .slice A L.length c, .int .i64 lf, .bool dn, .int .i64 fr, .int .i64 ln, .int .i64 en, .int .i64 sf, .string tl, .slice FA fn fc, .int .i64 hd, .slice TA ts.length tc, .int .i64 nx] 37).new (by simp) #[.int .i64 lsn, .int .i64 prev, .int .i64 txn, .int .i64 kind, .int .i64 0, .int .i64 next, .int .i64 0, .int .i64 0, .int .i64 0, .string ⟨#[]⟩, .string ⟨#[]⟩, .int .i64 0, .int .i64 0, .string ⟨#[]⟩, .int .i64 0, .int .i64 0, .slice none 0 0, .slice none 0 0] 85).new (by simp) #[.int .i64 0, .int .i64 0, .int .i64 0, .slice none 0 0, .int .i64 0, .bool false, .int .i64 0, .int .i64 0, .int .i64 0, .int .i64 0, .string ⟨#[]⟩, .slice none 0 0, .int .i64 0, .slice none 0 0, .int .i64 0] 37))
    obtain ⟨W0, hW0⟩ : ∃ W, W = (((w.alloc (.cells #[.int .i64 zl, .int .i64 zp, .int .i64 zf, .slice A L.length c, .int .i64 lf, .bool dn, .int .i64 fr, .int .i64 ln, .int .i64 en, .int .i64 sf, .string tl, .slice FA fn fc, .int .i64 hd, .slice TA ts.length tc, .int .i64 nx] 37)).alloc (.cells #[.int .i64 lsn, .int .i64 prev, .int .i64 txn, .int .i64 kind, .int .i64 0, .int .i64 next, .int .i64 0, .int .i64 0, .int .i64 0, .string ⟨#[]⟩, .string ⟨#[]⟩, .int .i64 0, .int .i64 0, .string ⟨#[]⟩, .int .i64 0, .int .i64 0, .slice none 0 0, .slice none 0 0] 85)).alloc (.cells #[.int .i64 0, .int .i64 0, .int .i64 0, .slice none 0 0, .int .i64 0, .bool false, .int .i64 0, .int .i64 0, .int .i64 0, .int .i64 0, .string ⟨#[]⟩, .slice none 0 0, .int .i64 0, .slice none 0 0, .int .i64 0] 37)) := ⟨_, rfl⟩
    rw [← hW0] at H0 ⊢
    clear hW0
    go_upto_region 2 with (first
      | (with_reducible refine listPart (by kernel_rfl) 31 (.tmp 10) rfl w.heap.size 6 rfl #[.int .i64 fr, .int .i64 ln, .int .i64 en, .int .i64 sf, .string tl] #[.int .i64 zl, .int .i64 zp, .int .i64 zf, .slice A L.length c, .int .i64 lf, .bool dn, .int .i64 fr, .int .i64 ln, .int .i64 en, .int .i64 sf, .string tl, .slice FA fn fc, .int .i64 hd, .slice TA ts.length tc, .int .i64 nx] _ H0.out.get0 (by kernel_rfl) _ Tryz.underlying31 (by kernel_rfl) (by kernel_rfl) ?_)
      | (with_reducible refine listLoad (by kernel_rfl) 85 (.tmp 3) rfl (w.heap.size + 1) rfl #[.int .i64 lsn, .int .i64 prev, .int .i64 txn, .int .i64 kind, .int .i64 0, .int .i64 next, .int .i64 0, .int .i64 0, .int .i64 0, .string ⟨#[]⟩, .string ⟨#[]⟩, .int .i64 0, .int .i64 0, .string ⟨#[]⟩, .int .i64 0, .int .i64 0, .slice none 0 0, .slice none 0 0] _ H0.out.get1 _ Tryz.underlying85 (by kernel_rfl) (by kernel_rfl) ?_)
      | (go_at_call 85; (with_reducible refine (HA.out _).mono ?_); rintro e1 w1 ⟨he1, hb1⟩; dsimp only [logV] at he1; subst he1)
      | (with_reducible refine wpList_store_new rfl 31 (.tmp 6) (.tmp 14) rfl #[.int .i64 gf, .int .i64 gn, .int .i64 ge, .int .i64 gs, .string gt] _ _ rfl (by kernel_rfl) (by kernel_rfl) (by kernel_rfl) (by kernel_rfl) ?_))
    have H1 := Lib.hid (H0.out.step (pastAlloc (o := .cells #[.int .i64 gf, .int .i64 gn, .int .i64 ge, .int .i64 gs, .string gt] 31) hb1))
    obtain ⟨W1, hW1⟩ : ∃ W, W = w1.alloc (.cells #[.int .i64 gf, .int .i64 gn, .int .i64 ge, .int .i64 gs, .string gt] 31) := ⟨_, rfl⟩
    rw [← hW1] at H1
    rw [← hW1]
    clear hW1 hb1 H0 HA
    go_wp2_with (first
      | (with_reducible refine listLoad (by kernel_rfl) 37 (.tmp 2) rfl w.heap.size rfl #[.int .i64 zl, .int .i64 zp, .int .i64 zf, .slice A L.length c, .int .i64 lf, .bool dn, .int .i64 fr, .int .i64 ln, .int .i64 en, .int .i64 sf, .string tl, .slice FA fn fc, .int .i64 hd, .slice TA ts.length tc, .int .i64 nx] _ H1.out.get0 _ Tryz.underlying37 (by kernel_rfl) (by kernel_rfl) ?_)
      | (with_reducible refine listStore (by kernel_rfl) 37 (.tmp 4) (.tmp 19) rfl (w.heap.size + 2) #[.int .i64 zl, .int .i64 zp, .int .i64 zf, .slice A L.length c, .int .i64 lf, .bool dn, .int .i64 fr, .int .i64 ln, .int .i64 en, .int .i64 sf, .string tl, .slice FA fn fc, .int .i64 hd, .slice TA ts.length tc, .int .i64 nx] _ _ rfl rfl H1.out.get2 (by kernel_rfl) (by kernel_rfl) (by kernel_rfl) ?_))
    refine bodyPost_ret (v := .tuple #[.agg #[.int .i64 zl, .int .i64 zp, .int .i64 zf, .slice A L.length c, .int .i64 lf, .bool dn, .int .i64 fr, .int .i64 ln, .int .i64 en, .int .i64 sf, .string tl, .slice FA fn fc, .int .i64 hd, .slice TA ts.length tc, .int .i64 nx], .int .i64 e]) (results_cell2 rfl _ _ rfl (load_whole (setRow_heap _ _ _ _ _ _ H1.out.get2) Tryz.underlying37 (by kernel_rfl) (by kernel_rfl)) rfl) rfl ?_
    exact HF.out _ ((H1.out.row 2 _ _ rfl).below)
end Go.Proofs.YthfglhafphfhiaaGreat
/- The walk over the reference of transactions: own. -/
namespace Go.Proofs.YthfglhafphfhiaaGreat
open Go.RowKit
set_option maxRecDepth 100000 in
set_option maxHeartbeats 8000000 in
theorem rown_any (s : Tx.St) (p : SP) (hb : Tx.LogB s) (hts : s.txns.length ≤ 800000) (n : Int) (opn : Bool) (lsn prev kind next : Int) (w : World) (h : StoreR w s p) (hkd : Tk kind := by first | assumption | exact .inl rfl | exact .inr (.inl rfl) | exact .inr (.inr (.inl rfl)) | exact .inr (.inr (.inr (.inl rfl))) | exact .inr (.inr (.inr (.inr rfl)))) :
    Calls Tryz.prog 57 #[storeV s p, .agg #[.int .i64 lsn, .int .i64 prev, .int .i64 n, .int .i64 kind, .int .i64 0, .int .i64 next, .int .i64 0, .int .i64 0, .int .i64 0, .string ⟨#[]⟩, .string ⟨#[]⟩, .int .i64 0, .int .i64 0, .string ⟨#[]⟩, .int .i64 0, .int .i64 0, .slice none 0 0, .slice none 0 0], .bool opn] w (StOut (Tx.ownS s n opn (rbR lsn prev n kind next)) p w) := by
  have HFI := Lib.hid (fun W (hb : Below w.heap.size w W) => rfind_any s p n hts W (h.below hb))
  have HS := Lib.hid h
  have hN := @Tx.ownS_none s n opn (rbR lsn prev n kind next)
  have hD := @Tx.ownS_done s n opn (rbR lsn prev n kind next)
  have hG := @Tx.ownS_go s n opn (rbR lsn prev n kind next)
  generalize Tx.findS s n = x at HFI hN hD hG
  obtain ⟨⟨xa, xb, xc, xd⟩, ok⟩ := x
  simp only at HFI hN hD hG
  have HNO := Lib.hid (fun W (hw : Below w.heap.size w W) => rput42_any s p hb hts lsn xb n kind next W (h.below hw))
  have HK := Lib.hid (fun k w' (hx : Tx.ownS s n opn (rbR lsn prev n kind next) = (s, k)) (hb : Below w.heap.size w w') => show StOut (Tx.ownS s n opn (rbR lsn prev n kind next)) p w (.returned (.tuple #[storeV s p, .int .i64 k])) w' from by rw [hx]; exact ⟨_, rfl, h.below hb, ⟨rfl, rfl, rfl⟩, hb⟩)
  have HM := Lib.hid (fun y (p' : SP) w' (hx : Tx.ownS s n opn (rbR lsn prev n kind next) = y) (hs : StoreR w' y.1 p') (hf : p'.F = p.F ∧ p'.fn = p.fn ∧ p'.fc = p.fc) (hb : Below w.heap.size w w') => show StOut (Tx.ownS s n opn (rbR lsn prev n kind next)) p w (.returned (.tuple #[storeV y.1 p', .int .i64 y.2])) w' from by rw [hx]; exact ⟨_, rfl, hs, hf, hb⟩)
  generalize Tx.ownS s n opn (rbR lsn prev n kind next) = R at *
  generalize StOut R p w = Q at *
  clear h hb hts
  cases ok with
  | false =>
    have HX := Lib.hid (hN rfl)
    clear hN hD hG HNO HM HS
    obtain ⟨zl, zp, zf, ⟨L, lf, dn⟩, ⟨fr, ln, en, sf, tl⟩, hd, ts, nx⟩ := s
    obtain ⟨A, c, FA, fn, fc, TA, tc⟩ := p
    dsimp only [storeV] at HFI HK ⊢
    go_enter Tryz.func57, Tryz.ntmps57
    go_upto_region 1 with fail
    have H0 := Lib.hid (show BxL w.heap.size w [(#[.int .i64 zl, .int .i64 zp, .int .i64 zf, .slice A L.length c, .int .i64 lf, .bool dn, .int .i64 fr, .int .i64 ln, .int .i64 en, .int .i64 sf, .string tl, .slice FA fn fc, .int .i64 hd, .slice TA ts.length tc, .int .i64 nx], 37), (#[.int .i64 lsn, .int .i64 prev, .int .i64 n, .int .i64 kind, .int .i64 0, .int .i64 next, .int .i64 0, .int .i64 0, .int .i64 0, .string ⟨#[]⟩, .string ⟨#[]⟩, .int .i64 0, .int .i64 0, .string ⟨#[]⟩, .int .i64 0, .int .i64 0, .slice none 0 0, .slice none 0 0], 85), (#[.int .i64 0, .int .i64 0, .int .i64 0, .slice none 0 0, .int .i64 0, .bool false, .int .i64 0, .int .i64 0, .int .i64 0, .int .i64 0, .string ⟨#[]⟩, .slice none 0 0, .int .i64 0, .slice none 0 0, .int .i64 0], 37)] (((w.alloc (.cells #[.int .i64 zl, .int .i64 zp, .int .i64 zf, .slice A L.length c, .int .i64 lf, .bool dn, .int .i64 fr, .int .i64 ln, .int .i64 en, .int .i64 sf, .string tl, .slice FA fn fc, .int .i64 hd, .slice TA ts.length tc, .int .i64 nx] 37)).alloc (.cells #[.int .i64 lsn, .int .i64 prev, .int .i64 n, .int .i64 kind, .int .i64 0, .int .i64 next, .int .i64 0, .int .i64 0, .int .i64 0, .string ⟨#[]⟩, .string ⟨#[]⟩, .int .i64 0, .int .i64 0, .string ⟨#[]⟩, .int .i64 0, .int .i64 0, .slice none 0 0, .slice none 0 0] 85)).alloc (.cells #[.int .i64 0, .int .i64 0, .int .i64 0, .slice none 0 0, .int .i64 0, .bool false, .int .i64 0, .int .i64 0, .int .i64 0, .int .i64 0, .string ⟨#[]⟩, .slice none 0 0, .int .i64 0, .slice none 0 0, .int .i64 0] 37)) from ((((BxL.nil (Below.refl w.heap.size w)).new (by simp) #[.int .i64 zl, .int .i64 zp, .int .i64 zf, .slice A L.length c, .int .i64 lf, .bool dn, .int .i64 fr, .int .i64 ln, .int .i64 en, .int .i64 sf, .string tl, .slice FA fn fc, .int .i64 hd, .slice TA ts.length tc, .int .i64 nx] 37).new (by simp) #[.int .i64 lsn, .int .i64 prev, .int .i64 n, .int .i64 kind, .int .i64 0, .int .i64 next, .int .i64 0, .int .i64 0, .int .i64 0, .string ⟨#[]⟩, .string ⟨#[]⟩, .int .i64 0, .int .i64 0, .string ⟨#[]⟩, .int .i64 0, .int .i64 0, .slice none 0 0, .slice none 0 0] 85).new (by simp) #[.int .i64 0, .int .i64 0, .int .i64 0, .slice none 0 0, .int .i64 0, .bool false, .int .i64 0, .int .i64 0, .int .i64 0, .int .i64 0, .string ⟨#[]⟩, .slice none 0 0, .int .i64 0, .slice none 0 0, .int .i64 0] 37))
    obtain ⟨W0, hW0⟩ : ∃ W, W = (((w.alloc (.cells #[.int .i64 zl, .int .i64 zp, .int .i64 zf, .slice A L.length c, .int .i64 lf, .bool dn, .int .i64 fr, .int .i64 ln, .int .i64 en, .int .i64 sf, .string tl, .slice FA fn fc, .int .i64 hd, .slice TA ts.length tc, .int .i64 nx] 37)).alloc (.cells #[.int .i64 lsn, .int .i64 prev, .int .i64 n, .int .i64 kind, .int .i64 0, .int .i64 next, .int .i64 0, .int .i64 0, .int .i64 0, .string ⟨#[]⟩, .string ⟨#[]⟩, .int .i64 0, .int .i64 0, .string ⟨#[]⟩, .int .i64 0, .int .i64 0, .slice none 0 0, .slice none 0 0] 85)).alloc (.cells #[.int .i64 0, .int .i64 0, .int .i64 0, .slice none 0 0, .int .i64 0, .bool false, .int .i64 0, .int .i64 0, .int .i64 0, .int .i64 0, .string ⟨#[]⟩, .slice none 0 0, .int .i64 0, .slice none 0 0, .int .i64 0] 37)) := ⟨_, rfl⟩
    rw [← hW0] at H0 ⊢
    clear hW0
    have hcr := blkCell H0.out.get1
    go_upto_region 2 with (first
      | (with_reducible refine listLoad (by kernel_rfl) 37 (.tmp 3) rfl w.heap.size rfl #[.int .i64 zl, .int .i64 zp, .int .i64 zf, .slice A L.length c, .int .i64 lf, .bool dn, .int .i64 fr, .int .i64 ln, .int .i64 en, .int .i64 sf, .string tl, .slice FA fn fc, .int .i64 hd, .slice TA ts.length tc, .int .i64 nx] _ H0.out.get0 _ Tryz.underlying37 (by kernel_rfl) (by kernel_rfl) ?_)
      | (go_at_call 11; (with_reducible refine (HFI.out _ H0.out.below).mono ?_); rintro e w1 ⟨rfl, hb1⟩)
      | (with_reducible refine wpList_store_new rfl 45 (.tmp 8) (.tmp 15) rfl #[.int .i64 xa, .int .i64 xb, .int .i64 xc, .bool xd] _ _ rfl (by kernel_rfl) (by kernel_rfl) (by kernel_rfl) (by kernel_rfl) ?_))
    have H1 := Lib.hid (H0.out.step (pastAlloc (o := .cells #[.int .i64 xa, .int .i64 xb, .int .i64 xc, .bool xd] 45) hb1))
    have HG := Lib.hid (heap_alloc_new w1 (.cells #[.int .i64 xa, .int .i64 xb, .int .i64 xc, .bool xd] 45))
    have hgb : w.heap.size + 3 ≤ w1.heap.size := Nat.le_trans (H0.out.lt (i := 2) (by simp)) hb1.size
    obtain ⟨gb, hge⟩ : ∃ gb, gb = w1.heap.size := ⟨_, rfl⟩
    obtain ⟨W1, hW1⟩ : ∃ W, W = w1.alloc (.cells #[.int .i64 xa, .int .i64 xb, .int .i64 xc, .bool xd] 45) := ⟨_, rfl⟩
    rw [← hge] at HG hgb
    rw [← hW1] at H1 HG
    rw [← hW1, ← hge]
    clear hge hW1 hb1 H0 HFI hcr
    have hcg := blkCell HG.out
    go_wp2_with (first
      | (with_reducible refine listLoad (by kernel_rfl) 37 (.tmp 3) rfl w.heap.size rfl #[.int .i64 zl, .int .i64 zp, .int .i64 zf, .slice A L.length c, .int .i64 lf, .bool dn, .int .i64 fr, .int .i64 ln, .int .i64 en, .int .i64 sf, .string tl, .slice FA fn fc, .int .i64 hd, .slice TA ts.length tc, .int .i64 nx] _ H1.out.get0 _ Tryz.underlying37 (by kernel_rfl) (by kernel_rfl) ?_)
      | (with_reducible refine listStore (by kernel_rfl) 37 (.tmp 6) (.tmp 19) rfl (w.heap.size + 2) #[.int .i64 zl, .int .i64 zp, .int .i64 zf, .slice A L.length c, .int .i64 lf, .bool dn, .int .i64 fr, .int .i64 ln, .int .i64 en, .int .i64 sf, .string tl, .slice FA fn fc, .int .i64 hd, .slice TA ts.length tc, .int .i64 nx] _ _ rfl rfl H1.out.get2 (by kernel_rfl) (by kernel_rfl) (by kernel_rfl) ?_))
    refine bodyPost_ret (v := .tuple #[.agg #[.int .i64 zl, .int .i64 zp, .int .i64 zf, .slice A L.length c, .int .i64 lf, .bool dn, .int .i64 fr, .int .i64 ln, .int .i64 en, .int .i64 sf, .string tl, .slice FA fn fc, .int .i64 hd, .slice TA ts.length tc, .int .i64 nx], .int .i64 21]) (results_cell2 rfl _ _ rfl (load_whole (setRow_heap _ _ _ _ _ _ H1.out.get2) Tryz.underlying37 (by kernel_rfl) (by kernel_rfl)) rfl) rfl ?_
    exact HK.out 21 _ HX.out ((H1.out.row 2 _ _ rfl).below)
  | true =>
    by_cases hod : opn = true ∧ xd = true
    · have HX := Lib.hid (hD rfl hod.1 hod.2)
      obtain ⟨rfl, rfl⟩ := hod
      clear hN hD hG HNO HM HS
      obtain ⟨zl, zp, zf, ⟨L, lf, dn⟩, ⟨fr, ln, en, sf, tl⟩, hd, ts, nx⟩ := s
      obtain ⟨A, c, FA, fn, fc, TA, tc⟩ := p
      dsimp only [storeV] at HFI HK ⊢
      go_enter Tryz.func57, Tryz.ntmps57
      go_upto_region 1 with fail
      have H0 := Lib.hid (show BxL w.heap.size w [(#[.int .i64 zl, .int .i64 zp, .int .i64 zf, .slice A L.length c, .int .i64 lf, .bool dn, .int .i64 fr, .int .i64 ln, .int .i64 en, .int .i64 sf, .string tl, .slice FA fn fc, .int .i64 hd, .slice TA ts.length tc, .int .i64 nx], 37), (#[.int .i64 lsn, .int .i64 prev, .int .i64 n, .int .i64 kind, .int .i64 0, .int .i64 next, .int .i64 0, .int .i64 0, .int .i64 0, .string ⟨#[]⟩, .string ⟨#[]⟩, .int .i64 0, .int .i64 0, .string ⟨#[]⟩, .int .i64 0, .int .i64 0, .slice none 0 0, .slice none 0 0], 85), (#[.int .i64 0, .int .i64 0, .int .i64 0, .slice none 0 0, .int .i64 0, .bool false, .int .i64 0, .int .i64 0, .int .i64 0, .int .i64 0, .string ⟨#[]⟩, .slice none 0 0, .int .i64 0, .slice none 0 0, .int .i64 0], 37)] (((w.alloc (.cells #[.int .i64 zl, .int .i64 zp, .int .i64 zf, .slice A L.length c, .int .i64 lf, .bool dn, .int .i64 fr, .int .i64 ln, .int .i64 en, .int .i64 sf, .string tl, .slice FA fn fc, .int .i64 hd, .slice TA ts.length tc, .int .i64 nx] 37)).alloc (.cells #[.int .i64 lsn, .int .i64 prev, .int .i64 n, .int .i64 kind, .int .i64 0, .int .i64 next, .int .i64 0, .int .i64 0, .int .i64 0, .string ⟨#[]⟩, .string ⟨#[]⟩, .int .i64 0, .int .i64 0, .string ⟨#[]⟩, .int .i64 0, .int .i64 0, .slice none 0 0, .slice none 0 0] 85)).alloc (.cells #[.int .i64 0, .int .i64 0, .int .i64 0, .slice none 0 0, .int .i64 0, .bool false, .int .i64 0, .int .i64 0, .int .i64 0, .int .i64 0, .string ⟨#[]⟩, .slice none 0 0, .int .i64 0, .slice none 0 0, .int .i64 0] 37)) from ((((BxL.nil (Below.refl w.heap.size w)).new (by simp) #[.int .i64 zl, .int .i64 zp, .int .i64 zf, .slice A L.length c, .int .i64 lf, .bool dn, .int .i64 fr, .int .i64 ln, .int .i64 en, .int .i64 sf, .string tl, .slice FA fn fc, .int .i64 hd, .slice TA ts.length tc, .int .i64 nx] 37).new (by simp) #[.int .i64 lsn, .int .i64 prev, .int .i64 n, .int .i64 kind, .int .i64 0, .int .i64 next, .int .i64 0, .int .i64 0, .int .i64 0, .string ⟨#[]⟩, .string ⟨#[]⟩, .int .i64 0, .int .i64 0, .string ⟨#[]⟩, .int .i64 0, .int .i64 0, .slice none 0 0, .slice none 0 0] 85).new (by simp) #[.int .i64 0, .int .i64 0, .int .i64 0, .slice none 0 0, .int .i64 0, .bool false, .int .i64 0, .int .i64 0, .int .i64 0, .int .i64 0, .string ⟨#[]⟩, .slice none 0 0, .int .i64 0, .slice none 0 0, .int .i64 0] 37))
      obtain ⟨W0, hW0⟩ : ∃ W, W = (((w.alloc (.cells #[.int .i64 zl, .int .i64 zp, .int .i64 zf, .slice A L.length c, .int .i64 lf, .bool dn, .int .i64 fr, .int .i64 ln, .int .i64 en, .int .i64 sf, .string tl, .slice FA fn fc, .int .i64 hd, .slice TA ts.length tc, .int .i64 nx] 37)).alloc (.cells #[.int .i64 lsn, .int .i64 prev, .int .i64 n, .int .i64 kind, .int .i64 0, .int .i64 next, .int .i64 0, .int .i64 0, .int .i64 0, .string ⟨#[]⟩, .string ⟨#[]⟩, .int .i64 0, .int .i64 0, .string ⟨#[]⟩, .int .i64 0, .int .i64 0, .slice none 0 0, .slice none 0 0] 85)).alloc (.cells #[.int .i64 0, .int .i64 0, .int .i64 0, .slice none 0 0, .int .i64 0, .bool false, .int .i64 0, .int .i64 0, .int .i64 0, .int .i64 0, .string ⟨#[]⟩, .slice none 0 0, .int .i64 0, .slice none 0 0, .int .i64 0] 37)) := ⟨_, rfl⟩
      rw [← hW0] at H0 ⊢
      clear hW0
      have hcr := blkCell H0.out.get1
      go_upto_region 2 with (first
        | (with_reducible refine listLoad (by kernel_rfl) 37 (.tmp 3) rfl w.heap.size rfl #[.int .i64 zl, .int .i64 zp, .int .i64 zf, .slice A L.length c, .int .i64 lf, .bool dn, .int .i64 fr, .int .i64 ln, .int .i64 en, .int .i64 sf, .string tl, .slice FA fn fc, .int .i64 hd, .slice TA ts.length tc, .int .i64 nx] _ H0.out.get0 _ Tryz.underlying37 (by kernel_rfl) (by kernel_rfl) ?_)
        | (go_at_call 11; (with_reducible refine (HFI.out _ H0.out.below).mono ?_); rintro e w1 ⟨rfl, hb1⟩)
        | (with_reducible refine wpList_store_new rfl 45 (.tmp 8) (.tmp 15) rfl #[.int .i64 xa, .int .i64 xb, .int .i64 xc, .bool true] _ _ rfl (by kernel_rfl) (by kernel_rfl) (by kernel_rfl) (by kernel_rfl) ?_))
      have H1 := Lib.hid (H0.out.step (pastAlloc (o := .cells #[.int .i64 xa, .int .i64 xb, .int .i64 xc, .bool true] 45) hb1))
      have HG := Lib.hid (heap_alloc_new w1 (.cells #[.int .i64 xa, .int .i64 xb, .int .i64 xc, .bool true] 45))
      have hgb : w.heap.size + 3 ≤ w1.heap.size := Nat.le_trans (H0.out.lt (i := 2) (by simp)) hb1.size
      obtain ⟨gb, hge⟩ : ∃ gb, gb = w1.heap.size := ⟨_, rfl⟩
      obtain ⟨W1, hW1⟩ : ∃ W, W = w1.alloc (.cells #[.int .i64 xa, .int .i64 xb, .int .i64 xc, .bool true] 45) := ⟨_, rfl⟩
      rw [← hge] at HG hgb
      rw [← hW1] at H1 HG
      rw [← hW1, ← hge]
      clear hge hW1 hb1 H0 HFI hcr
      have hcg := blkCell HG.out
      go_wp2_with (first
        | (with_reducible refine listLoad (by kernel_rfl) 37 (.tmp 3) rfl w.heap.size rfl #[.int .i64 zl, .int .i64 zp, .int .i64 zf, .slice A L.length c, .int .i64 lf, .bool dn, .int .i64 fr, .int .i64 ln, .int .i64 en, .int .i64 sf, .string tl, .slice FA fn fc, .int .i64 hd, .slice TA ts.length tc, .int .i64 nx] _ H1.out.get0 _ Tryz.underlying37 (by kernel_rfl) (by kernel_rfl) ?_)
        | (with_reducible refine listStore (by kernel_rfl) 37 (.tmp 6) (.tmp 25) rfl (w.heap.size + 2) #[.int .i64 zl, .int .i64 zp, .int .i64 zf, .slice A L.length c, .int .i64 lf, .bool dn, .int .i64 fr, .int .i64 ln, .int .i64 en, .int .i64 sf, .string tl, .slice FA fn fc, .int .i64 hd, .slice TA ts.length tc, .int .i64 nx] _ _ rfl rfl H1.out.get2 (by kernel_rfl) (by kernel_rfl) (by kernel_rfl) ?_))
      refine bodyPost_ret (v := .tuple #[.agg #[.int .i64 zl, .int .i64 zp, .int .i64 zf, .slice A L.length c, .int .i64 lf, .bool dn, .int .i64 fr, .int .i64 ln, .int .i64 en, .int .i64 sf, .string tl, .slice FA fn fc, .int .i64 hd, .slice TA ts.length tc, .int .i64 nx], .int .i64 17]) (results_cell2 rfl _ _ rfl (load_whole (setRow_heap _ _ _ _ _ _ H1.out.get2) Tryz.underlying37 (by kernel_rfl) (by kernel_rfl)) rfl) rfl ?_
      exact HK.out 17 _ HX.out ((H1.out.row 2 _ _ rfl).below)
    · have hx := hG rfl hod
      clear hN hD hG HK
      have hy : ({ rbR lsn prev n kind next with txn := n, prev := xb } : Rc.Rec) = rbR lsn xb n kind next := rfl
      rw [hy] at hx
      generalize Tx.putS s (rbR lsn xb n kind next) = y at HNO hx
      subst hx
      have HMF := Lib.hid (fun (p' : SP) w' hs hf hb => HM.out R p' w' rfl hs hf hb)
      clear hy HM
      obtain ⟨⟨zl2, zp2, zf2, ⟨L2, lf2, dn2⟩, ⟨fr2, ln2, en2, sf2, tl2⟩, hd2, ts2, nx2⟩, e2⟩ := R
      obtain ⟨zl, zp, zf, ⟨L, lf, dn⟩, ⟨fr, ln, en, sf, tl⟩, hd, ts, nx⟩ := s
      obtain ⟨A, c, FA, fn, fc, TA, tc⟩ := p
      dsimp only [storeV] at HFI HNO HMF ⊢
      cases opn with
      | false =>
        go_enter Tryz.func57, Tryz.ntmps57
        go_upto_region 1 with fail
        have H0 := Lib.hid (show BxL w.heap.size w [(#[.int .i64 zl, .int .i64 zp, .int .i64 zf, .slice A L.length c, .int .i64 lf, .bool dn, .int .i64 fr, .int .i64 ln, .int .i64 en, .int .i64 sf, .string tl, .slice FA fn fc, .int .i64 hd, .slice TA ts.length tc, .int .i64 nx], 37), (#[.int .i64 lsn, .int .i64 prev, .int .i64 n, .int .i64 kind, .int .i64 0, .int .i64 next, .int .i64 0, .int .i64 0, .int .i64 0, .string ⟨#[]⟩, .string ⟨#[]⟩, .int .i64 0, .int .i64 0, .string ⟨#[]⟩, .int .i64 0, .int .i64 0, .slice none 0 0, .slice none 0 0], 85), (#[.int .i64 0, .int .i64 0, .int .i64 0, .slice none 0 0, .int .i64 0, .bool false, .int .i64 0, .int .i64 0, .int .i64 0, .int .i64 0, .string ⟨#[]⟩, .slice none 0 0, .int .i64 0, .slice none 0 0, .int .i64 0], 37)] (((w.alloc (.cells #[.int .i64 zl, .int .i64 zp, .int .i64 zf, .slice A L.length c, .int .i64 lf, .bool dn, .int .i64 fr, .int .i64 ln, .int .i64 en, .int .i64 sf, .string tl, .slice FA fn fc, .int .i64 hd, .slice TA ts.length tc, .int .i64 nx] 37)).alloc (.cells #[.int .i64 lsn, .int .i64 prev, .int .i64 n, .int .i64 kind, .int .i64 0, .int .i64 next, .int .i64 0, .int .i64 0, .int .i64 0, .string ⟨#[]⟩, .string ⟨#[]⟩, .int .i64 0, .int .i64 0, .string ⟨#[]⟩, .int .i64 0, .int .i64 0, .slice none 0 0, .slice none 0 0] 85)).alloc (.cells #[.int .i64 0, .int .i64 0, .int .i64 0, .slice none 0 0, .int .i64 0, .bool false, .int .i64 0, .int .i64 0, .int .i64 0, .int .i64 0, .string ⟨#[]⟩, .slice none 0 0, .int .i64 0, .slice none 0 0, .int .i64 0] 37)) from ((((BxL.nil (Below.refl w.heap.size w)).new (by simp) #[.int .i64 zl, .int .i64 zp, .int .i64 zf, .slice A L.length c, .int .i64 lf, .bool dn, .int .i64 fr, .int .i64 ln, .int .i64 en, .int .i64 sf, .string tl, .slice FA fn fc, .int .i64 hd, .slice TA ts.length tc, .int .i64 nx] 37).new (by simp) #[.int .i64 lsn, .int .i64 prev, .int .i64 n, .int .i64 kind, .int .i64 0, .int .i64 next, .int .i64 0, .int .i64 0, .int .i64 0, .string ⟨#[]⟩, .string ⟨#[]⟩, .int .i64 0, .int .i64 0, .string ⟨#[]⟩, .int .i64 0, .int .i64 0, .slice none 0 0, .slice none 0 0] 85).new (by simp) #[.int .i64 0, .int .i64 0, .int .i64 0, .slice none 0 0, .int .i64 0, .bool false, .int .i64 0, .int .i64 0, .int .i64 0, .int .i64 0, .string ⟨#[]⟩, .slice none 0 0, .int .i64 0, .slice none 0 0, .int .i64 0] 37))
        obtain ⟨W0, hW0⟩ : ∃ W, W = (((w.alloc (.cells #[.int .i64 zl, .int .i64 zp, .int .i64 zf, .slice A L.length c, .int .i64 lf, .bool dn, .int .i64 fr, .int .i64 ln, .int .i64 en, .int .i64 sf, .string tl, .slice FA fn fc, .int .i64 hd, .slice TA ts.length tc, .int .i64 nx] 37)).alloc (.cells #[.int .i64 lsn, .int .i64 prev, .int .i64 n, .int .i64 kind, .int .i64 0, .int .i64 next, .int .i64 0, .int .i64 0, .int .i64 0, .string ⟨#[]⟩, .string ⟨#[]⟩, .int .i64 0, .int .i64 0, .string ⟨#[]⟩, .int .i64 0, .int .i64 0, .slice none 0 0, .slice none 0 0] 85)).alloc (.cells #[.int .i64 0, .int .i64 0, .int .i64 0, .slice none 0 0, .int .i64 0, .bool false, .int .i64 0, .int .i64 0, .int .i64 0, .int .i64 0, .string ⟨#[]⟩, .slice none 0 0, .int .i64 0, .slice none 0 0, .int .i64 0] 37)) := ⟨_, rfl⟩
        rw [← hW0] at H0 ⊢
        clear hW0
        have hcr := blkCell H0.out.get1
        go_upto_region 2 with (first
          | (with_reducible refine listLoad (by kernel_rfl) 37 (.tmp 3) rfl w.heap.size rfl #[.int .i64 zl, .int .i64 zp, .int .i64 zf, .slice A L.length c, .int .i64 lf, .bool dn, .int .i64 fr, .int .i64 ln, .int .i64 en, .int .i64 sf, .string tl, .slice FA fn fc, .int .i64 hd, .slice TA ts.length tc, .int .i64 nx] _ H0.out.get0 _ Tryz.underlying37 (by kernel_rfl) (by kernel_rfl) ?_)
          | (go_at_call 11; (with_reducible refine (HFI.out _ H0.out.below).mono ?_); rintro e w1 ⟨rfl, hb1⟩)
          | (with_reducible refine wpList_store_new rfl 45 (.tmp 8) (.tmp 15) rfl #[.int .i64 xa, .int .i64 xb, .int .i64 xc, .bool xd] _ _ rfl (by kernel_rfl) (by kernel_rfl) (by kernel_rfl) (by kernel_rfl) ?_))
        have H1 := Lib.hid (H0.out.step (pastAlloc (o := .cells #[.int .i64 xa, .int .i64 xb, .int .i64 xc, .bool xd] 45) hb1))
        have HG := Lib.hid (heap_alloc_new w1 (.cells #[.int .i64 xa, .int .i64 xb, .int .i64 xc, .bool xd] 45))
        have hgb : w.heap.size + 3 ≤ w1.heap.size := Nat.le_trans (H0.out.lt (i := 2) (by simp)) hb1.size
        obtain ⟨gb, hge⟩ : ∃ gb, gb = w1.heap.size := ⟨_, rfl⟩
        obtain ⟨W1, hW1⟩ : ∃ W, W = w1.alloc (.cells #[.int .i64 xa, .int .i64 xb, .int .i64 xc, .bool xd] 45) := ⟨_, rfl⟩
        rw [← hge] at HG hgb
        rw [← hW1] at H1 HG
        rw [← hW1, ← hge]
        clear hge hW1 hb1 H0 HFI hcr
        have hcg := blkCell HG.out
        have hcx := blkCell H1.out.get1
        have hzx := blkFrozen H1.out.get1
        go_upto_region 7 with fail
        have H2 := Lib.hid (show BxL w.heap.size w [(#[.int .i64 zl, .int .i64 zp, .int .i64 zf, .slice A L.length c, .int .i64 lf, .bool dn, .int .i64 fr, .int .i64 ln, .int .i64 en, .int .i64 sf, .string tl, .slice FA fn fc, .int .i64 hd, .slice TA ts.length tc, .int .i64 nx], 37), (#[.int .i64 lsn, .int .i64 xb, .int .i64 n, .int .i64 kind, .int .i64 0, .int .i64 next, .int .i64 0, .int .i64 0, .int .i64 0, .string ⟨#[]⟩, .string ⟨#[]⟩, .int .i64 0, .int .i64 0, .string ⟨#[]⟩, .int .i64 0, .int .i64 0, .slice none 0 0, .slice none 0 0], 85), (#[.int .i64 0, .int .i64 0, .int .i64 0, .slice none 0 0, .int .i64 0, .bool false, .int .i64 0, .int .i64 0, .int .i64 0, .int .i64 0, .string ⟨#[]⟩, .slice none 0 0, .int .i64 0, .slice none 0 0, .int .i64 0], 37)] (W1.setCell ⟨w.heap.size + 1, 1, none⟩ (.int .i64 xb)) from H1.out.set 1 1 (.int .i64 xb) _ rfl)
        obtain ⟨W2, hW2⟩ : ∃ W, W = W1.setCell ⟨w.heap.size + 1, 1, none⟩ (.int .i64 xb) := ⟨_, rfl⟩
        rw [← hW2] at H2
        rw [← hW2]
        clear hW2 hcx hzx hcg H1 HG
        go_wp2_with (first
          | (with_reducible refine listLoad (by kernel_rfl) 37 (.tmp 3) rfl w.heap.size rfl #[.int .i64 zl, .int .i64 zp, .int .i64 zf, .slice A L.length c, .int .i64 lf, .bool dn, .int .i64 fr, .int .i64 ln, .int .i64 en, .int .i64 sf, .string tl, .slice FA fn fc, .int .i64 hd, .slice TA ts.length tc, .int .i64 nx] _ H2.out.get0 _ Tryz.underlying37 (by kernel_rfl) (by kernel_rfl) ?_)
          | (with_reducible refine listLoad (by kernel_rfl) 85 (.tmp 4) rfl (w.heap.size + 1) rfl #[.int .i64 lsn, .int .i64 xb, .int .i64 n, .int .i64 kind, .int .i64 0, .int .i64 next, .int .i64 0, .int .i64 0, .int .i64 0, .string ⟨#[]⟩, .string ⟨#[]⟩, .int .i64 0, .int .i64 0, .string ⟨#[]⟩, .int .i64 0, .int .i64 0, .slice none 0 0, .slice none 0 0] _ H2.out.get1 _ Tryz.underlying85 (by kernel_rfl) (by kernel_rfl) ?_)
          | (go_at_call 56; (with_reducible refine (HNO.out _ H2.out.below).mono ?_); rintro e w5 ⟨p', he, hs5, hf5, hb5⟩; have HF5 := Lib.hid hf5; clear hf5; obtain ⟨A2, c2, FA2, fn2, fc2, TA2, tc2⟩ := p'; (try dsimp only [storeV] at he); subst he; have H5 := Lib.hid (H2.out.step hb5))
          | (with_reducible refine listStore (by kernel_rfl) 37 (.tmp 6) (.tmp 32) rfl (w.heap.size + 2) #[.int .i64 zl2, .int .i64 zp2, .int .i64 zf2, .slice A2 L2.length c2, .int .i64 lf2, .bool dn2, .int .i64 fr2, .int .i64 ln2, .int .i64 en2, .int .i64 sf2, .string tl2, .slice FA2 fn2 fc2, .int .i64 hd2, .slice TA2 ts2.length tc2, .int .i64 nx2] _ _ rfl rfl H5.out.get2 (by kernel_rfl) (by kernel_rfl) (by kernel_rfl) ?_))
        refine bodyPost_ret (v := .tuple #[.agg #[.int .i64 zl2, .int .i64 zp2, .int .i64 zf2, .slice A2 L2.length c2, .int .i64 lf2, .bool dn2, .int .i64 fr2, .int .i64 ln2, .int .i64 en2, .int .i64 sf2, .string tl2, .slice FA2 fn2 fc2, .int .i64 hd2, .slice TA2 ts2.length tc2, .int .i64 nx2], .int .i64 e2]) (results_cell2 rfl _ _ rfl (load_whole (setRow_heap _ _ _ _ _ _ H5.out.get2) Tryz.underlying37 (by kernel_rfl) (by kernel_rfl)) rfl) rfl ?_
        exact HMF.out ⟨A2, c2, FA2, fn2, fc2, TA2, tc2⟩ _ (hs5.other H5.out.get2 (by decide) (by decide) _) HF5.out ((H5.out.row 2 _ _ rfl).below)
      | true =>
        have hxd : xd = false := by
          cases xd with
          | false => rfl
          | true => exact absurd ⟨rfl, rfl⟩ hod
        subst hxd
        go_enter Tryz.func57, Tryz.ntmps57
        go_upto_region 1 with fail
        have H0 := Lib.hid (show BxL w.heap.size w [(#[.int .i64 zl, .int .i64 zp, .int .i64 zf, .slice A L.length c, .int .i64 lf, .bool dn, .int .i64 fr, .int .i64 ln, .int .i64 en, .int .i64 sf, .string tl, .slice FA fn fc, .int .i64 hd, .slice TA ts.length tc, .int .i64 nx], 37), (#[.int .i64 lsn, .int .i64 prev, .int .i64 n, .int .i64 kind, .int .i64 0, .int .i64 next, .int .i64 0, .int .i64 0, .int .i64 0, .string ⟨#[]⟩, .string ⟨#[]⟩, .int .i64 0, .int .i64 0, .string ⟨#[]⟩, .int .i64 0, .int .i64 0, .slice none 0 0, .slice none 0 0], 85), (#[.int .i64 0, .int .i64 0, .int .i64 0, .slice none 0 0, .int .i64 0, .bool false, .int .i64 0, .int .i64 0, .int .i64 0, .int .i64 0, .string ⟨#[]⟩, .slice none 0 0, .int .i64 0, .slice none 0 0, .int .i64 0], 37)] (((w.alloc (.cells #[.int .i64 zl, .int .i64 zp, .int .i64 zf, .slice A L.length c, .int .i64 lf, .bool dn, .int .i64 fr, .int .i64 ln, .int .i64 en, .int .i64 sf, .string tl, .slice FA fn fc, .int .i64 hd, .slice TA ts.length tc, .int .i64 nx] 37)).alloc (.cells #[.int .i64 lsn, .int .i64 prev, .int .i64 n, .int .i64 kind, .int .i64 0, .int .i64 next, .int .i64 0, .int .i64 0, .int .i64 0, .string ⟨#[]⟩, .string ⟨#[]⟩, .int .i64 0, .int .i64 0, .string ⟨#[]⟩, .int .i64 0, .int .i64 0, .slice none 0 0, .slice none 0 0] 85)).alloc (.cells #[.int .i64 0, .int .i64 0, .int .i64 0, .slice none 0 0, .int .i64 0, .bool false, .int .i64 0, .int .i64 0, .int .i64 0, .int .i64 0, .string ⟨#[]⟩, .slice none 0 0, .int .i64 0, .slice none 0 0, .int .i64 0] 37)) from ((((BxL.nil (Below.refl w.heap.size w)).new (by simp) #[.int .i64 zl, .int .i64 zp, .int .i64 zf, .slice A L.length c, .int .i64 lf, .bool dn, .int .i64 fr, .int .i64 ln, .int .i64 en, .int .i64 sf, .string tl, .slice FA fn fc, .int .i64 hd, .slice TA ts.length tc, .int .i64 nx] 37).new (by simp) #[.int .i64 lsn, .int .i64 prev, .int .i64 n, .int .i64 kind, .int .i64 0, .int .i64 next, .int .i64 0, .int .i64 0, .int .i64 0, .string ⟨#[]⟩, .string ⟨#[]⟩, .int .i64 0, .int .i64 0, .string ⟨#[]⟩, .int .i64 0, .int .i64 0, .slice none 0 0, .slice none 0 0] 85).new (by simp) #[.int .i64 0, .int .i64 0, .int .i64 0, .slice none 0 0, .int .i64 0, .bool false, .int .i64 0, .int .i64 0, .int .i64 0, .int .i64 0, .string ⟨#[]⟩, .slice none 0 0, .int .i64 0, .slice none 0 0, .int .i64 0] 37))
        obtain ⟨W0, hW0⟩ : ∃ W, W = (((w.alloc (.cells #[.int .i64 zl, .int .i64 zp, .int .i64 zf, .slice A L.length c, .int .i64 lf, .bool dn, .int .i64 fr, .int .i64 ln, .int .i64 en, .int .i64 sf, .string tl, .slice FA fn fc, .int .i64 hd, .slice TA ts.length tc, .int .i64 nx] 37)).alloc (.cells #[.int .i64 lsn, .int .i64 prev, .int .i64 n, .int .i64 kind, .int .i64 0, .int .i64 next, .int .i64 0, .int .i64 0, .int .i64 0, .string ⟨#[]⟩, .string ⟨#[]⟩, .int .i64 0, .int .i64 0, .string ⟨#[]⟩, .int .i64 0, .int .i64 0, .slice none 0 0, .slice none 0 0] 85)).alloc (.cells #[.int .i64 0, .int .i64 0, .int .i64 0, .slice none 0 0, .int .i64 0, .bool false, .int .i64 0, .int .i64 0, .int .i64 0, .int .i64 0, .string ⟨#[]⟩, .slice none 0 0, .int .i64 0, .slice none 0 0, .int .i64 0] 37)) := ⟨_, rfl⟩
        rw [← hW0] at H0 ⊢
        clear hW0
        have hcr := blkCell H0.out.get1
        go_upto_region 2 with (first
          | (with_reducible refine listLoad (by kernel_rfl) 37 (.tmp 3) rfl w.heap.size rfl #[.int .i64 zl, .int .i64 zp, .int .i64 zf, .slice A L.length c, .int .i64 lf, .bool dn, .int .i64 fr, .int .i64 ln, .int .i64 en, .int .i64 sf, .string tl, .slice FA fn fc, .int .i64 hd, .slice TA ts.length tc, .int .i64 nx] _ H0.out.get0 _ Tryz.underlying37 (by kernel_rfl) (by kernel_rfl) ?_)
          | (go_at_call 11; (with_reducible refine (HFI.out _ H0.out.below).mono ?_); rintro e w1 ⟨rfl, hb1⟩)
          | (with_reducible refine wpList_store_new rfl 45 (.tmp 8) (.tmp 15) rfl #[.int .i64 xa, .int .i64 xb, .int .i64 xc, .bool false] _ _ rfl (by kernel_rfl) (by kernel_rfl) (by kernel_rfl) (by kernel_rfl) ?_))
        have H1 := Lib.hid (H0.out.step (pastAlloc (o := .cells #[.int .i64 xa, .int .i64 xb, .int .i64 xc, .bool false] 45) hb1))
        have HG := Lib.hid (heap_alloc_new w1 (.cells #[.int .i64 xa, .int .i64 xb, .int .i64 xc, .bool false] 45))
        have hgb : w.heap.size + 3 ≤ w1.heap.size := Nat.le_trans (H0.out.lt (i := 2) (by simp)) hb1.size
        obtain ⟨gb, hge⟩ : ∃ gb, gb = w1.heap.size := ⟨_, rfl⟩
        obtain ⟨W1, hW1⟩ : ∃ W, W = w1.alloc (.cells #[.int .i64 xa, .int .i64 xb, .int .i64 xc, .bool false] 45) := ⟨_, rfl⟩
        rw [← hge] at HG hgb
        rw [← hW1] at H1 HG
        rw [← hW1, ← hge]
        clear hge hW1 hb1 H0 HFI hcr
        have hcg := blkCell HG.out
        have hcx := blkCell H1.out.get1
        have hzx := blkFrozen H1.out.get1
        go_upto_region 7 with fail
        have H2 := Lib.hid (show BxL w.heap.size w [(#[.int .i64 zl, .int .i64 zp, .int .i64 zf, .slice A L.length c, .int .i64 lf, .bool dn, .int .i64 fr, .int .i64 ln, .int .i64 en, .int .i64 sf, .string tl, .slice FA fn fc, .int .i64 hd, .slice TA ts.length tc, .int .i64 nx], 37), (#[.int .i64 lsn, .int .i64 xb, .int .i64 n, .int .i64 kind, .int .i64 0, .int .i64 next, .int .i64 0, .int .i64 0, .int .i64 0, .string ⟨#[]⟩, .string ⟨#[]⟩, .int .i64 0, .int .i64 0, .string ⟨#[]⟩, .int .i64 0, .int .i64 0, .slice none 0 0, .slice none 0 0], 85), (#[.int .i64 0, .int .i64 0, .int .i64 0, .slice none 0 0, .int .i64 0, .bool false, .int .i64 0, .int .i64 0, .int .i64 0, .int .i64 0, .string ⟨#[]⟩, .slice none 0 0, .int .i64 0, .slice none 0 0, .int .i64 0], 37)] (W1.setCell ⟨w.heap.size + 1, 1, none⟩ (.int .i64 xb)) from H1.out.set 1 1 (.int .i64 xb) _ rfl)
        obtain ⟨W2, hW2⟩ : ∃ W, W = W1.setCell ⟨w.heap.size + 1, 1, none⟩ (.int .i64 xb) := ⟨_, rfl⟩
        rw [← hW2] at H2
        rw [← hW2]
        clear hW2 hcx hzx hcg H1 HG
        go_wp2_with (first
          | (with_reducible refine listLoad (by kernel_rfl) 37 (.tmp 3) rfl w.heap.size rfl #[.int .i64 zl, .int .i64 zp, .int .i64 zf, .slice A L.length c, .int .i64 lf, .bool dn, .int .i64 fr, .int .i64 ln, .int .i64 en, .int .i64 sf, .string tl, .slice FA fn fc, .int .i64 hd, .slice TA ts.length tc, .int .i64 nx] _ H2.out.get0 _ Tryz.underlying37 (by kernel_rfl) (by kernel_rfl) ?_)
          | (with_reducible refine listLoad (by kernel_rfl) 85 (.tmp 4) rfl (w.heap.size + 1) rfl #[.int .i64 lsn, .int .i64 xb, .int .i64 n, .int .i64 kind, .int .i64 0, .int .i64 next, .int .i64 0, .int .i64 0, .int .i64 0, .string ⟨#[]⟩, .string ⟨#[]⟩, .int .i64 0, .int .i64 0, .string ⟨#[]⟩, .int .i64 0, .int .i64 0, .slice none 0 0, .slice none 0 0] _ H2.out.get1 _ Tryz.underlying85 (by kernel_rfl) (by kernel_rfl) ?_)
          | (go_at_call 56; (with_reducible refine (HNO.out _ H2.out.below).mono ?_); rintro e w5 ⟨p', he, hs5, hf5, hb5⟩; have HF5 := Lib.hid hf5; clear hf5; obtain ⟨A2, c2, FA2, fn2, fc2, TA2, tc2⟩ := p'; (try dsimp only [storeV] at he); subst he; have H5 := Lib.hid (H2.out.step hb5))
          | (with_reducible refine listStore (by kernel_rfl) 37 (.tmp 6) (.tmp 32) rfl (w.heap.size + 2) #[.int .i64 zl2, .int .i64 zp2, .int .i64 zf2, .slice A2 L2.length c2, .int .i64 lf2, .bool dn2, .int .i64 fr2, .int .i64 ln2, .int .i64 en2, .int .i64 sf2, .string tl2, .slice FA2 fn2 fc2, .int .i64 hd2, .slice TA2 ts2.length tc2, .int .i64 nx2] _ _ rfl rfl H5.out.get2 (by kernel_rfl) (by kernel_rfl) (by kernel_rfl) ?_))
        refine bodyPost_ret (v := .tuple #[.agg #[.int .i64 zl2, .int .i64 zp2, .int .i64 zf2, .slice A2 L2.length c2, .int .i64 lf2, .bool dn2, .int .i64 fr2, .int .i64 ln2, .int .i64 en2, .int .i64 sf2, .string tl2, .slice FA2 fn2 fc2, .int .i64 hd2, .slice TA2 ts2.length tc2, .int .i64 nx2], .int .i64 e2]) (results_cell2 rfl _ _ rfl (load_whole (setRow_heap _ _ _ _ _ _ H5.out.get2) Tryz.underlying37 (by kernel_rfl) (by kernel_rfl)) rfl) rfl ?_
        exact HMF.out ⟨A2, c2, FA2, fn2, fc2, TA2, tc2⟩ _ (hs5.other H5.out.get2 (by decide) (by decide) _) HF5.out ((H5.out.row 2 _ _ rfl).below)
end Go.Proofs.YthfglhafphfhiaaGreat
