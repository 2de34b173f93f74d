/- The walks over the reference of transactions: Nest, Abort, End, Begin. -/
import Derived.Test.YthfglhafphfhiaaGreatGp15
import Derived.Test.YthfglhafphfhiaaGreatGp08
import Derived.Test.YthfglhafphfhiaaGreatGp10
import Derived.Test.YthfglhafphfhiaaGreatGp03
import Derived.Test.YthfglhafphfhiaaGreatGp13
namespace Go.Proofs.YthfglhafphfhiaaGreat
open Go.RowKit
set_option maxRecDepth 100000 in
set_option maxHeartbeats 8000000 in
theorem rnest_any (s : Tx.St) (p : SP) (hb : Tx.LogB s) (hts : s.txns.length ≤ 800000) (n m : Int) (w : World) (h : StoreR w s p) :
    Calls Tryz.prog 30 #[storeV s p, .int .i64 n, .int .i64 m] w (StOut (Tx.nestS s n m) p w) := by
  have HO := Lib.hid (fun W (hw : Below w.heap.size w W) => show Calls Tryz.prog 57 #[storeV s p, .agg #[.int .i64 0, .int .i64 0, .int .i64 n, .int .i64 4, .int .i64 0, .int .i64 m, .int .i64 0, .int .i64 0, .int .i64 0, .string ⟨#[]⟩, .string ⟨#[]⟩, .int .i64 0, .int .i64 0, .string ⟨#[]⟩, .int .i64 0, .int .i64 0, .slice none 0 0, .slice none 0 0], .bool true] W (StOut (Tx.nestS s n m) p W) from rown_any s p hb hts n true 0 0 4 m W (h.below hw))
  have HM := Lib.hid (fun y (p' : SP) w' (hx : Tx.nestS s n m = y) (hs : StoreR w' y.1 p') (hf : p'.F = p.F ∧ p'.fn = p.fn ∧ p'.fc = p.fc) (hb : Below w.heap.size w w') => show StOut (Tx.nestS s n m) p w (.returned (.tuple #[storeV y.1 p', .int .i64 y.2])) w' from by rw [hx]; exact ⟨_, rfl, hs, hf, hb⟩)
  generalize Tx.nestS s n m = y at HO HM ⊢
  generalize StOut y p w = Q at HM ⊢
  have HMF := Lib.hid (fun (p' : SP) w' hs hf hb => HM.out y p' w' rfl hs hf hb)
  clear h hb hts HM
  obtain ⟨⟨zl2, zp2, zf2, ⟨L2, lf2, dn2⟩, ⟨fr2, ln2, en2, sf2, tl2⟩, hd2, ts2, nx2⟩, e2⟩ := y
  obtain ⟨zl, zp, zf, ⟨L, lf, dn⟩, ⟨fr, ln, en, sf, tl⟩, hd, ts, nx⟩ := s
  obtain ⟨A, c, FA, fn, fc, TA, tc⟩ := p
  dsimp only [storeV] at HO HMF ⊢
  go_enter Tryz.func30, Tryz.ntmps30
  go_upto_region 1 with fail
  have H0 := Lib.hid (show BxL w.heap.size w [(#[.int .i64 zl, .int .i64 zp, .int .i64 zf, .slice A L.length c, .int .i64 lf, .bool dn, .int .i64 fr, .int .i64 ln, .int .i64 en, .int .i64 sf, .string tl, .slice FA fn fc, .int .i64 hd, .slice TA ts.length tc, .int .i64 nx], 37), (#[.int .i64 0, .int .i64 0, .int .i64 0, .slice none 0 0, .int .i64 0, .bool false, .int .i64 0, .int .i64 0, .int .i64 0, .int .i64 0, .string ⟨#[]⟩, .slice none 0 0, .int .i64 0, .slice none 0 0, .int .i64 0], 37)] ((w.alloc (.cells #[.int .i64 zl, .int .i64 zp, .int .i64 zf, .slice A L.length c, .int .i64 lf, .bool dn, .int .i64 fr, .int .i64 ln, .int .i64 en, .int .i64 sf, .string tl, .slice FA fn fc, .int .i64 hd, .slice TA ts.length tc, .int .i64 nx] 37)).alloc (.cells #[.int .i64 0, .int .i64 0, .int .i64 0, .slice none 0 0, .int .i64 0, .bool false, .int .i64 0, .int .i64 0, .int .i64 0, .int .i64 0, .string ⟨#[]⟩, .slice none 0 0, .int .i64 0, .slice none 0 0, .int .i64 0] 37)) from (((BxL.nil (Below.refl w.heap.size w)).new (by simp) #[.int .i64 zl, .int .i64 zp, .int .i64 zf, .slice A L.length c, .int .i64 lf, .bool dn, .int .i64 fr, .int .i64 ln, .int .i64 en, .int .i64 sf, .string tl, .slice FA fn fc, .int .i64 hd, .slice TA ts.length tc, .int .i64 nx] 37).new (by simp) #[.int .i64 0, .int .i64 0, .int .i64 0, .slice none 0 0, .int .i64 0, .bool false, .int .i64 0, .int .i64 0, .int .i64 0, .int .i64 0, .string ⟨#[]⟩, .slice none 0 0, .int .i64 0, .slice none 0 0, .int .i64 0] 37))
  obtain ⟨W0, hW0⟩ : ∃ W, W = ((w.alloc (.cells #[.int .i64 zl, .int .i64 zp, .int .i64 zf, .slice A L.length c, .int .i64 lf, .bool dn, .int .i64 fr, .int .i64 ln, .int .i64 en, .int .i64 sf, .string tl, .slice FA fn fc, .int .i64 hd, .slice TA ts.length tc, .int .i64 nx] 37)).alloc (.cells #[.int .i64 0, .int .i64 0, .int .i64 0, .slice none 0 0, .int .i64 0, .bool false, .int .i64 0, .int .i64 0, .int .i64 0, .int .i64 0, .string ⟨#[]⟩, .slice none 0 0, .int .i64 0, .slice none 0 0, .int .i64 0] 37)) := ⟨_, rfl⟩
  rw [← hW0] at H0 ⊢
  clear hW0
  go_wp2_with (first
    | (with_reducible refine listLoad (by kernel_rfl) 37 (.tmp 3) rfl w.heap.size rfl #[.int .i64 zl, .int .i64 zp, .int .i64 zf, .slice A L.length c, .int .i64 lf, .bool dn, .int .i64 fr, .int .i64 ln, .int .i64 en, .int .i64 sf, .string tl, .slice FA fn fc, .int .i64 hd, .slice TA ts.length tc, .int .i64 nx] _ H0.out.get0 _ Tryz.underlying37 (by kernel_rfl) (by kernel_rfl) ?_)
    | (go_at_call 57; (with_reducible refine (HO.out _ H0.out.below).mono ?_); rintro e w5 ⟨p', he, hs5, hf5, hb5⟩; have HF5 := Lib.hid hf5; clear hf5; obtain ⟨A2, c2, FA2, fn2, fc2, TA2, tc2⟩ := p'; (try dsimp only [storeV] at he); subst he; have H5 := Lib.hid (H0.out.step hb5))
    | (with_reducible refine listStore (by kernel_rfl) 37 (.tmp 6) (.tmp 13) rfl (w.heap.size + 1) #[.int .i64 zl2, .int .i64 zp2, .int .i64 zf2, .slice A2 L2.length c2, .int .i64 lf2, .bool dn2, .int .i64 fr2, .int .i64 ln2, .int .i64 en2, .int .i64 sf2, .string tl2, .slice FA2 fn2 fc2, .int .i64 hd2, .slice TA2 ts2.length tc2, .int .i64 nx2] _ _ rfl rfl H5.out.get1 (by kernel_rfl) (by kernel_rfl) (by kernel_rfl) ?_))
  refine bodyPost_ret (v := .tuple #[.agg #[.int .i64 zl2, .int .i64 zp2, .int .i64 zf2, .slice A2 L2.length c2, .int .i64 lf2, .bool dn2, .int .i64 fr2, .int .i64 ln2, .int .i64 en2, .int .i64 sf2, .string tl2, .slice FA2 fn2 fc2, .int .i64 hd2, .slice TA2 ts2.length tc2, .int .i64 nx2], .int .i64 e2]) (results_cell2 rfl _ _ rfl (load_whole (setRow_heap _ _ _ _ _ _ H5.out.get1) Tryz.underlying37 (by kernel_rfl) (by kernel_rfl)) rfl) rfl ?_
  exact HMF.out ⟨A2, c2, FA2, fn2, fc2, TA2, tc2⟩ _ (hs5.other H5.out.get1 (by decide) (by decide) _) HF5.out ((H5.out.row 1 _ _ rfl).below)
set_option maxRecDepth 100000 in
set_option maxHeartbeats 8000000 in
theorem rabort_any (s : Tx.St) (p : SP) (hb : Tx.LogB s) (hts : s.txns.length ≤ 800000) (n : Int) (w : World) (h : StoreR w s p) :
    Calls Tryz.prog 32 #[storeV s p, .int .i64 n] w (StOut (Tx.abortS s n) p w) := by
  have HO := Lib.hid (fun W (hw : Below w.heap.size w W) => show Calls Tryz.prog 57 #[storeV s p, .agg #[.int .i64 0, .int .i64 0, .int .i64 n, .int .i64 6, .int .i64 0, .int .i64 0, .int .i64 0, .int .i64 0, .int .i64 0, .string ⟨#[]⟩, .string ⟨#[]⟩, .int .i64 0, .int .i64 0, .string ⟨#[]⟩, .int .i64 0, .int .i64 0, .slice none 0 0, .slice none 0 0], .bool true] W (StOut (Tx.abortS s n) p W) from rown_any s p hb hts n true 0 0 6 0 W (h.below hw))
  have HM := Lib.hid (fun y (p' : SP) w' (hx : Tx.abortS s n = y) (hs : StoreR w' y.1 p') (hf : p'.F = p.F ∧ p'.fn = p.fn ∧ p'.fc = p.fc) (hb : Below w.heap.size w w') => show StOut (Tx.abortS s n) p w (.returned (.tuple #[storeV y.1 p', .int .i64 y.2])) w' from by rw [hx]; exact ⟨_, rfl, hs, hf, hb⟩)
  generalize Tx.abortS s n = y at HO HM ⊢
  generalize StOut y p w = Q at HM ⊢
  have HMF := Lib.hid (fun (p' : SP) w' hs hf hb => HM.out y p' w' rfl hs hf hb)
  clear h hb hts HM
  obtain ⟨⟨zl2, zp2, zf2, ⟨L2, lf2, dn2⟩, ⟨fr2, ln2, en2, sf2, tl2⟩, hd2, ts2, nx2⟩, e2⟩ := y
  obtain ⟨zl, zp, zf, ⟨L, lf, dn⟩, ⟨fr, ln, en, sf, tl⟩, hd, ts, nx⟩ := s
  obtain ⟨A, c, FA, fn, fc, TA, tc⟩ := p
  dsimp only [storeV] at HO HMF ⊢
  go_enter Tryz.func32, Tryz.ntmps32
  go_upto_region 1 with fail
  have H0 := Lib.hid (show BxL w.heap.size w [(#[.int .i64 zl, .int .i64 zp, .int .i64 zf, .slice A L.length c, .int .i64 lf, .bool dn, .int .i64 fr, .int .i64 ln, .int .i64 en, .int .i64 sf, .string tl, .slice FA fn fc, .int .i64 hd, .slice TA ts.length tc, .int .i64 nx], 37), (#[.int .i64 0, .int .i64 0, .int .i64 0, .slice none 0 0, .int .i64 0, .bool false, .int .i64 0, .int .i64 0, .int .i64 0, .int .i64 0, .string ⟨#[]⟩, .slice none 0 0, .int .i64 0, .slice none 0 0, .int .i64 0], 37)] ((w.alloc (.cells #[.int .i64 zl, .int .i64 zp, .int .i64 zf, .slice A L.length c, .int .i64 lf, .bool dn, .int .i64 fr, .int .i64 ln, .int .i64 en, .int .i64 sf, .string tl, .slice FA fn fc, .int .i64 hd, .slice TA ts.length tc, .int .i64 nx] 37)).alloc (.cells #[.int .i64 0, .int .i64 0, .int .i64 0, .slice none 0 0, .int .i64 0, .bool false, .int .i64 0, .int .i64 0, .int .i64 0, .int .i64 0, .string ⟨#[]⟩, .slice none 0 0, .int .i64 0, .slice none 0 0, .int .i64 0] 37)) from (((BxL.nil (Below.refl w.heap.size w)).new (by simp) #[.int .i64 zl, .int .i64 zp, .int .i64 zf, .slice A L.length c, .int .i64 lf, .bool dn, .int .i64 fr, .int .i64 ln, .int .i64 en, .int .i64 sf, .string tl, .slice FA fn fc, .int .i64 hd, .slice TA ts.length tc, .int .i64 nx] 37).new (by simp) #[.int .i64 0, .int .i64 0, .int .i64 0, .slice none 0 0, .int .i64 0, .bool false, .int .i64 0, .int .i64 0, .int .i64 0, .int .i64 0, .string ⟨#[]⟩, .slice none 0 0, .int .i64 0, .slice none 0 0, .int .i64 0] 37))
  obtain ⟨W0, hW0⟩ : ∃ W, W = ((w.alloc (.cells #[.int .i64 zl, .int .i64 zp, .int .i64 zf, .slice A L.length c, .int .i64 lf, .bool dn, .int .i64 fr, .int .i64 ln, .int .i64 en, .int .i64 sf, .string tl, .slice FA fn fc, .int .i64 hd, .slice TA ts.length tc, .int .i64 nx] 37)).alloc (.cells #[.int .i64 0, .int .i64 0, .int .i64 0, .slice none 0 0, .int .i64 0, .bool false, .int .i64 0, .int .i64 0, .int .i64 0, .int .i64 0, .string ⟨#[]⟩, .slice none 0 0, .int .i64 0, .slice none 0 0, .int .i64 0] 37)) := ⟨_, rfl⟩
  rw [← hW0] at H0 ⊢
  clear hW0
  go_wp2_with (first
    | (with_reducible refine listLoad (by kernel_rfl) 37 (.tmp 2) rfl w.heap.size rfl #[.int .i64 zl, .int .i64 zp, .int .i64 zf, .slice A L.length c, .int .i64 lf, .bool dn, .int .i64 fr, .int .i64 ln, .int .i64 en, .int .i64 sf, .string tl, .slice FA fn fc, .int .i64 hd, .slice TA ts.length tc, .int .i64 nx] _ H0.out.get0 _ Tryz.underlying37 (by kernel_rfl) (by kernel_rfl) ?_)
    | (go_at_call 57; (with_reducible refine (HO.out _ H0.out.below).mono ?_); rintro e w5 ⟨p', he, hs5, hf5, hb5⟩; have HF5 := Lib.hid hf5; clear hf5; obtain ⟨A2, c2, FA2, fn2, fc2, TA2, tc2⟩ := p'; (try dsimp only [storeV] at he); subst he; have H5 := Lib.hid (H0.out.step hb5))
    | (with_reducible refine listStore (by kernel_rfl) 37 (.tmp 4) (.tmp 10) rfl (w.heap.size + 1) #[.int .i64 zl2, .int .i64 zp2, .int .i64 zf2, .slice A2 L2.length c2, .int .i64 lf2, .bool dn2, .int .i64 fr2, .int .i64 ln2, .int .i64 en2, .int .i64 sf2, .string tl2, .slice FA2 fn2 fc2, .int .i64 hd2, .slice TA2 ts2.length tc2, .int .i64 nx2] _ _ rfl rfl H5.out.get1 (by kernel_rfl) (by kernel_rfl) (by kernel_rfl) ?_))
  refine bodyPost_ret (v := .tuple #[.agg #[.int .i64 zl2, .int .i64 zp2, .int .i64 zf2, .slice A2 L2.length c2, .int .i64 lf2, .bool dn2, .int .i64 fr2, .int .i64 ln2, .int .i64 en2, .int .i64 sf2, .string tl2, .slice FA2 fn2 fc2, .int .i64 hd2, .slice TA2 ts2.length tc2, .int .i64 nx2], .int .i64 e2]) (results_cell2 rfl _ _ rfl (load_whole (setRow_heap _ _ _ _ _ _ H5.out.get1) Tryz.underlying37 (by kernel_rfl) (by kernel_rfl)) rfl) rfl ?_
  exact HMF.out ⟨A2, c2, FA2, fn2, fc2, TA2, tc2⟩ _ (hs5.other H5.out.get1 (by decide) (by decide) _) HF5.out ((H5.out.row 1 _ _ rfl).below)
set_option maxRecDepth 100000 in
set_option maxHeartbeats 8000000 in
theorem rend_any (s : Tx.St) (p : SP) (hb : Tx.LogB s) (hts : s.txns.length ≤ 800000) (n : Int) (w : World) (h : StoreR w s p) :
    Calls Tryz.prog 33 #[storeV s p, .int .i64 n] w (StOut (Tx.endS s n) p w) := by
  have HO := Lib.hid (fun W (hw : Below w.heap.size w W) => show Calls Tryz.prog 57 #[storeV s p, .agg #[.int .i64 0, .int .i64 0, .int .i64 n, .int .i64 7, .int .i64 0, .int .i64 0, .int .i64 0, .int .i64 0, .int .i64 0, .string ⟨#[]⟩, .string ⟨#[]⟩, .int .i64 0, .int .i64 0, .string ⟨#[]⟩, .int .i64 0, .int .i64 0, .slice none 0 0, .slice none 0 0], .bool false] W (StOut (Tx.endS s n) p W) from rown_any s p hb hts n false 0 0 7 0 W (h.below hw))
  have HM := Lib.hid (fun y (p' : SP) w' (hx : Tx.endS s n = y) (hs : StoreR w' y.1 p') (hf : p'.F = p.F ∧ p'.fn = p.fn ∧ p'.fc = p.fc) (hb : Below w.heap.size w w') => show StOut (Tx.endS s n) p w (.returned (.tuple #[storeV y.1 p', .int .i64 y.2])) w' from by rw [hx]; exact ⟨_, rfl, hs, hf, hb⟩)
  generalize Tx.endS s n = y at HO HM ⊢
  generalize StOut y p w = Q at HM ⊢
  have HMF := Lib.hid (fun (p' : SP) w' hs hf hb => HM.out y p' w' rfl hs hf hb)
  clear h hb hts HM
  obtain ⟨⟨zl2, zp2, zf2, ⟨L2, lf2, dn2⟩, ⟨fr2, ln2, en2, sf2, tl2⟩, hd2, ts2, nx2⟩, e2⟩ := y
  obtain ⟨zl, zp, zf, ⟨L, lf, dn⟩, ⟨fr, ln, en, sf, tl⟩, hd, ts, nx⟩ := s
  obtain ⟨A, c, FA, fn, fc, TA, tc⟩ := p
  dsimp only [storeV] at HO HMF ⊢
  go_enter Tryz.func33, Tryz.ntmps33
  go_upto_region 1 with fail
  have H0 := Lib.hid (show BxL w.heap.size w [(#[.int .i64 zl, .int .i64 zp, .int .i64 zf, .slice A L.length c, .int .i64 lf, .bool dn, .int .i64 fr, .int .i64 ln, .int .i64 en, .int .i64 sf, .string tl, .slice FA fn fc, .int .i64 hd, .slice TA ts.length tc, .int .i64 nx], 37), (#[.int .i64 0, .int .i64 0, .int .i64 0, .slice none 0 0, .int .i64 0, .bool false, .int .i64 0, .int .i64 0, .int .i64 0, .int .i64 0, .string ⟨#[]⟩, .slice none 0 0, .int .i64 0, .slice none 0 0, .int .i64 0], 37)] ((w.alloc (.cells #[.int .i64 zl, .int .i64 zp, .int .i64 zf, .slice A L.length c, .int .i64 lf, .bool dn, .int .i64 fr, .int .i64 ln, .int .i64 en, .int .i64 sf, .string tl, .slice FA fn fc, .int .i64 hd, .slice TA ts.length tc, .int .i64 nx] 37)).alloc (.cells #[.int .i64 0, .int .i64 0, .int .i64 0, .slice none 0 0, .int .i64 0, .bool false, .int .i64 0, .int .i64 0, .int .i64 0, .int .i64 0, .string ⟨#[]⟩, .slice none 0 0, .int .i64 0, .slice none 0 0, .int .i64 0] 37)) from (((BxL.nil (Below.refl w.heap.size w)).new (by simp) #[.int .i64 zl, .int .i64 zp, .int .i64 zf, .slice A L.length c, .int .i64 lf, .bool dn, .int .i64 fr, .int .i64 ln, .int .i64 en, .int .i64 sf, .string tl, .slice FA fn fc, .int .i64 hd, .slice TA ts.length tc, .int .i64 nx] 37).new (by simp) #[.int .i64 0, .int .i64 0, .int .i64 0, .slice none 0 0, .int .i64 0, .bool false, .int .i64 0, .int .i64 0, .int .i64 0, .int .i64 0, .string ⟨#[]⟩, .slice none 0 0, .int .i64 0, .slice none 0 0, .int .i64 0] 37))
  obtain ⟨W0, hW0⟩ : ∃ W, W = ((w.alloc (.cells #[.int .i64 zl, .int .i64 zp, .int .i64 zf, .slice A L.length c, .int .i64 lf, .bool dn, .int .i64 fr, .int .i64 ln, .int .i64 en, .int .i64 sf, .string tl, .slice FA fn fc, .int .i64 hd, .slice TA ts.length tc, .int .i64 nx] 37)).alloc (.cells #[.int .i64 0, .int .i64 0, .int .i64 0, .slice none 0 0, .int .i64 0, .bool false, .int .i64 0, .int .i64 0, .int .i64 0, .int .i64 0, .string ⟨#[]⟩, .slice none 0 0, .int .i64 0, .slice none 0 0, .int .i64 0] 37)) := ⟨_, rfl⟩
  rw [← hW0] at H0 ⊢
  clear hW0
  go_wp2_with (first
    | (with_reducible refine listLoad (by kernel_rfl) 37 (.tmp 2) rfl w.heap.size rfl #[.int .i64 zl, .int .i64 zp, .int .i64 zf, .slice A L.length c, .int .i64 lf, .bool dn, .int .i64 fr, .int .i64 ln, .int .i64 en, .int .i64 sf, .string tl, .slice FA fn fc, .int .i64 hd, .slice TA ts.length tc, .int .i64 nx] _ H0.out.get0 _ Tryz.underlying37 (by kernel_rfl) (by kernel_rfl) ?_)
    | (go_at_call 57; (with_reducible refine (HO.out _ H0.out.below).mono ?_); rintro e w5 ⟨p', he, hs5, hf5, hb5⟩; have HF5 := Lib.hid hf5; clear hf5; obtain ⟨A2, c2, FA2, fn2, fc2, TA2, tc2⟩ := p'; (try dsimp only [storeV] at he); subst he; have H5 := Lib.hid (H0.out.step hb5))
    | (with_reducible refine listStore (by kernel_rfl) 37 (.tmp 4) (.tmp 10) rfl (w.heap.size + 1) #[.int .i64 zl2, .int .i64 zp2, .int .i64 zf2, .slice A2 L2.length c2, .int .i64 lf2, .bool dn2, .int .i64 fr2, .int .i64 ln2, .int .i64 en2, .int .i64 sf2, .string tl2, .slice FA2 fn2 fc2, .int .i64 hd2, .slice TA2 ts2.length tc2, .int .i64 nx2] _ _ rfl rfl H5.out.get1 (by kernel_rfl) (by kernel_rfl) (by kernel_rfl) ?_))
  refine bodyPost_ret (v := .tuple #[.agg #[.int .i64 zl2, .int .i64 zp2, .int .i64 zf2, .slice A2 L2.length c2, .int .i64 lf2, .bool dn2, .int .i64 fr2, .int .i64 ln2, .int .i64 en2, .int .i64 sf2, .string tl2, .slice FA2 fn2 fc2, .int .i64 hd2, .slice TA2 ts2.length tc2, .int .i64 nx2], .int .i64 e2]) (results_cell2 rfl _ _ rfl (load_whole (setRow_heap _ _ _ _ _ _ H5.out.get1) Tryz.underlying37 (by kernel_rfl) (by kernel_rfl)) rfl) rfl ?_
  exact HMF.out ⟨A2, c2, FA2, fn2, fc2, TA2, tc2⟩ _ (hs5.other H5.out.get1 (by decide) (by decide) _) HF5.out ((H5.out.row 1 _ _ rfl).below)
set_option maxRecDepth 100000 in
set_option maxHeartbeats 8000000 in
theorem rbegin_any (s : Tx.St) (p : SP) (hb : Tx.LogB s) (hts : s.txns.length ≤ 800000) (hnx0 : 0 ≤ s.next) (hnx1 : s.next ≤ 1000000000) (w : World) (h : StoreR w s p) :
    Calls Tryz.prog 29 #[storeV s p] w (BegOut (Tx.beginS s) p w) := by
  have HNO := Lib.hid (fun W (hw : Below w.heap.size w W) => show Calls Tryz.prog 56 #[storeV s p, .agg #[.int .i64 0, .int .i64 0, .int .i64 s.next, .int .i64 1, .int .i64 0, .int .i64 0, .int .i64 0, .int .i64 0, .int .i64 0, .string ⟨#[]⟩, .string ⟨#[]⟩, .int .i64 0, .int .i64 0, .string ⟨#[]⟩, .int .i64 0, .int .i64 0, .slice none 0 0, .slice none 0 0]] W (StOut (Tx.putS s (Rc.bare 1 0 0 s.next)) p W) from rput42_any s p hb hts 0 0 s.next 1 0 W (h.below hw))
  have hk := @Tx.beginS_ok s
  have hn := @Tx.beginS_no s
  have hx := Tx.putS_next s (Rc.bare 1 0 0 s.next)
  generalize Tx.putS s (Rc.bare 1 0 0 s.next) = y at HNO hk hn hx
  obtain ⟨⟨zl2, zp2, zf2, ⟨L2, lf2, dn2⟩, ⟨fr2, ln2, en2, sf2, tl2⟩, hd2, ts2, nx2⟩, e2⟩ := y
  simp only at hk hn hx
  by_cases he : e2 = 0
  · subst he
    have HM := Lib.hid (fun (p' : SP) w' (hs : StoreR w' ⟨zl2, zp2, zf2, ⟨L2, lf2, dn2⟩, ⟨fr2, ln2, en2, sf2, tl2⟩, hd2, ts2, nx2 + 1⟩ p') (hf : p'.F = p.F ∧ p'.fn = p.fn ∧ p'.fc = p.fc) (hb : Below w.heap.size w w') => show BegOut (Tx.beginS s) p w (.returned (.tuple #[storeV ⟨zl2, zp2, zf2, ⟨L2, lf2, dn2⟩, ⟨fr2, ln2, en2, sf2, tl2⟩, hd2, ts2, nx2 + 1⟩ p', .int .i64 s.next, .int .i64 0])) w' from by rw [hk rfl]; exact ⟨_, rfl, hs, hf, hb⟩)
    generalize BegOut (Tx.beginS s) p w = Q at HM ⊢
    have hwn : IntKind.i64.wrap (nx2 + 1) = nx2 + 1 := IntWalk.i64_in _ (by omega)
    clear hk hn h hb hts hnx0 hnx1
    obtain ⟨zl, zp, zf, ⟨L, lf, dn⟩, ⟨fr, ln, en, sf, tl⟩, hd, ts, nx⟩ := s
    have hx2 : nx2 = nx := hx
    clear hx
    subst hx2
    obtain ⟨A, c, FA, fn, fc, TA, tc⟩ := p
    dsimp only [storeV] at HNO HM ⊢
    go_enter Tryz.func29, Tryz.ntmps29
    go_upto_region 1 with fail
    have H0 := Lib.hid (show BxL w.heap.size w [(#[.int .i64 zl, .int .i64 zp, .int .i64 zf, .slice A L.length c, .int .i64 lf, .bool dn, .int .i64 fr, .int .i64 ln, .int .i64 en, .int .i64 sf, .string tl, .slice FA fn fc, .int .i64 hd, .slice TA ts.length tc, .int .i64 nx2], 37), (#[.int .i64 0, .int .i64 0, .int .i64 0, .slice none 0 0, .int .i64 0, .bool false, .int .i64 0, .int .i64 0, .int .i64 0, .int .i64 0, .string ⟨#[]⟩, .slice none 0 0, .int .i64 0, .slice none 0 0, .int .i64 0], 37)] ((w.alloc (.cells #[.int .i64 zl, .int .i64 zp, .int .i64 zf, .slice A L.length c, .int .i64 lf, .bool dn, .int .i64 fr, .int .i64 ln, .int .i64 en, .int .i64 sf, .string tl, .slice FA fn fc, .int .i64 hd, .slice TA ts.length tc, .int .i64 nx2] 37)).alloc (.cells #[.int .i64 0, .int .i64 0, .int .i64 0, .slice none 0 0, .int .i64 0, .bool false, .int .i64 0, .int .i64 0, .int .i64 0, .int .i64 0, .string ⟨#[]⟩, .slice none 0 0, .int .i64 0, .slice none 0 0, .int .i64 0] 37)) from (((BxL.nil (Below.refl w.heap.size w)).new (by simp) #[.int .i64 zl, .int .i64 zp, .int .i64 zf, .slice A L.length c, .int .i64 lf, .bool dn, .int .i64 fr, .int .i64 ln, .int .i64 en, .int .i64 sf, .string tl, .slice FA fn fc, .int .i64 hd, .slice TA ts.length tc, .int .i64 nx2] 37).new (by simp) #[.int .i64 0, .int .i64 0, .int .i64 0, .slice none 0 0, .int .i64 0, .bool false, .int .i64 0, .int .i64 0, .int .i64 0, .int .i64 0, .string ⟨#[]⟩, .slice none 0 0, .int .i64 0, .slice none 0 0, .int .i64 0] 37))
    obtain ⟨W0, hW0⟩ : ∃ W, W = ((w.alloc (.cells #[.int .i64 zl, .int .i64 zp, .int .i64 zf, .slice A L.length c, .int .i64 lf, .bool dn, .int .i64 fr, .int .i64 ln, .int .i64 en, .int .i64 sf, .string tl, .slice FA fn fc, .int .i64 hd, .slice TA ts.length tc, .int .i64 nx2] 37)).alloc (.cells #[.int .i64 0, .int .i64 0, .int .i64 0, .slice none 0 0, .int .i64 0, .bool false, .int .i64 0, .int .i64 0, .int .i64 0, .int .i64 0, .string ⟨#[]⟩, .slice none 0 0, .int .i64 0, .slice none 0 0, .int .i64 0] 37)) := ⟨_, rfl⟩
    rw [← hW0] at H0 ⊢
    clear hW0
    have hc0 := blkCell H0.out.get0
    go_upto_region 2 with (first
      | (with_reducible refine listLoad (by kernel_rfl) 37 (.tmp 1) rfl w.heap.size rfl #[.int .i64 zl, .int .i64 zp, .int .i64 zf, .slice A L.length c, .int .i64 lf, .bool dn, .int .i64 fr, .int .i64 ln, .int .i64 en, .int .i64 sf, .string tl, .slice FA fn fc, .int .i64 hd, .slice TA ts.length tc, .int .i64 nx2] _ H0.out.get0 _ Tryz.underlying37 (by kernel_rfl) (by kernel_rfl) ?_)
      | (go_at_call 56; (with_reducible refine (HNO.out _ H0.out.below).mono ?_); rintro e w5 ⟨p', he, hs5, hf5, hb5⟩; have HF5 := Lib.hid hf5; clear hf5; obtain ⟨A2, c2, FA2, fn2, fc2, TA2, tc2⟩ := p'; (try dsimp only [storeV] at he); subst he)
      | (with_reducible refine wpList_store_new rfl 37 (.tmp 5) (.tmp 13) rfl #[.int .i64 zl2, .int .i64 zp2, .int .i64 zf2, .slice A2 L2.length c2, .int .i64 lf2, .bool dn2, .int .i64 fr2, .int .i64 ln2, .int .i64 en2, .int .i64 sf2, .string tl2, .slice FA2 fn2 fc2, .int .i64 hd2, .slice TA2 ts2.length tc2, .int .i64 nx2] _ _ rfl (by kernel_rfl) (by kernel_rfl) (by kernel_rfl) (by kernel_rfl) ?_))
    have H5 := Lib.hid (H0.out.step (pastAlloc (o := .cells #[.int .i64 zl2, .int .i64 zp2, .int .i64 zf2, .slice A2 L2.length c2, .int .i64 lf2, .bool dn2, .int .i64 fr2, .int .i64 ln2, .int .i64 en2, .int .i64 sf2, .string tl2, .slice FA2 fn2 fc2, .int .i64 hd2, .slice TA2 ts2.length tc2, .int .i64 nx2] 37) hb5))
    have HG := Lib.hid (heap_alloc_new w5 (.cells #[.int .i64 zl2, .int .i64 zp2, .int .i64 zf2, .slice A2 L2.length c2, .int .i64 lf2, .bool dn2, .int .i64 fr2, .int .i64 ln2, .int .i64 en2, .int .i64 sf2, .string tl2, .slice FA2 fn2 fc2, .int .i64 hd2, .slice TA2 ts2.length tc2, .int .i64 nx2] 37))
    have HS5 := Lib.hid (hs5.below (allocB w5 (.cells #[.int .i64 zl2, .int .i64 zp2, .int .i64 zf2, .slice A2 L2.length c2, .int .i64 lf2, .bool dn2, .int .i64 fr2, .int .i64 ln2, .int .i64 en2, .int .i64 sf2, .string tl2, .slice FA2 fn2 fc2, .int .i64 hd2, .slice TA2 ts2.length tc2, .int .i64 nx2] 37)))
    have hgb : w.heap.size + 2 ≤ w5.heap.size := Nat.le_trans (H0.out.lt (i := 1) (by simp)) hb5.size
    obtain ⟨gb, hge⟩ : ∃ gb, gb = w5.heap.size := ⟨_, rfl⟩
    obtain ⟨W5, hW5⟩ : ∃ W, W = w5.alloc (.cells #[.int .i64 zl2, .int .i64 zp2, .int .i64 zf2, .slice A2 L2.length c2, .int .i64 lf2, .bool dn2, .int .i64 fr2, .int .i64 ln2, .int .i64 en2, .int .i64 sf2, .string tl2, .slice FA2 fn2 fc2, .int .i64 hd2, .slice TA2 ts2.length tc2, .int .i64 nx2] 37) := ⟨_, rfl⟩
    rw [← hge] at HG hgb
    rw [← hW5] at H5 HG HS5
    rw [← hW5, ← hge]
    clear hge hW5 hb5 hs5 H0 hc0 HNO
    have hcg := blkCell HG.out
    have hc5 := blkCell H5.out.get0
    have hzg := blkFrozen HG.out
    go_upto_region 5 with fail
    have HG2 := Lib.hid (show (W5.setCell ⟨gb, 14, none⟩ (.int .i64 (nx2 + 1))).heap[gb]? = some (.cells #[.int .i64 zl2, .int .i64 zp2, .int .i64 zf2, .slice A2 L2.length c2, .int .i64 lf2, .bool dn2, .int .i64 fr2, .int .i64 ln2, .int .i64 en2, .int .i64 sf2, .string tl2, .slice FA2 fn2 fc2, .int .i64 hd2, .slice TA2 ts2.length tc2, .int .i64 (nx2 + 1)] 37 (0, 0)) from by have h := blkSet 14 HG.out (.int .i64 (nx2 + 1)); simpa using h)
    have H6 := Lib.hid (H5.out.under (M := gb) (by show w.heap.size + 2 ≤ gb; exact hgb) ((Below.refl gb W5).setCell (p := ⟨gb, 14, none⟩) (Nat.le_refl gb) (.int .i64 (nx2 + 1))))
    have HS6 := Lib.hid (show StoreR (W5.setCell ⟨gb, 14, none⟩ (.int .i64 (nx2 + 1))) ⟨zl2, zp2, zf2, ⟨L2, lf2, dn2⟩, ⟨fr2, ln2, en2, sf2, tl2⟩, hd2, ts2, nx2 + 1⟩ ⟨A2, c2, FA2, fn2, fc2, TA2, tc2⟩ from by have h := HS5.out.set HG.out (by decide) (by decide) 14 (.int .i64 (nx2 + 1)); exact ⟨h.dk, h.dt, h.tx, h.tt⟩)
    obtain ⟨W6, hW6⟩ : ∃ W, W = W5.setCell ⟨gb, 14, none⟩ (.int .i64 (nx2 + 1)) := ⟨_, rfl⟩
    rw [← hW6] at HG2 H6 HS6
    rw [← hW6]
    clear hW6 hcg hc5 hzg HG H5 HS5
    have X0 := blkOld HG2.out (Below.refl _ W6).drew
    have K0 := H6.out.drew
    have S0 := HS6.out.below (Below.refl _ W6).drew
    refine wp_region_held_drew (S := (fun u => u.heap[gb]? = some (.cells #[.int .i64 zl2, .int .i64 zp2, .int .i64 zf2, .slice A2 L2.length c2, .int .i64 lf2, .bool dn2, .int .i64 fr2, .int .i64 ln2, .int .i64 en2, .int .i64 sf2, .string tl2, .slice FA2 fn2 fc2, .int .i64 hd2, .slice TA2 ts2.length tc2, .int .i64 (nx2 + 1)] 37 (0, 0)) ∧ u.heap[w.heap.size]? = some (.cells #[.int .i64 zl, .int .i64 zp, .int .i64 zf, .slice A L.length c, .int .i64 lf, .bool dn, .int .i64 fr, .int .i64 ln, .int .i64 en, .int .i64 sf, .string tl, .slice FA fn fc, .int .i64 hd, .slice TA ts.length tc, .int .i64 nx2] 37 (0, 0)))) (by kernel_rfl) ?_ (fun hHeld => ?_)
    · first | exact hSn | exact ⟨X0, K0.get0⟩
    refine tkV 0 (some 23) (v := .agg #[.int .i64 zl2, .int .i64 zp2, .int .i64 zf2, .slice A2 L2.length c2, .int .i64 lf2, .bool dn2, .int .i64 fr2, .int .i64 ln2, .int .i64 en2, .int .i64 sf2, .string tl2, .slice FA2 fn2 fc2, .int .i64 hd2, .slice TA2 ts2.length tc2, .int .i64 (nx2 + 1)]) rfl (yieldsIf_load_mid (by rfl) 37 (.tmp 5) rfl gb 0 (by rfl) #[.int .i64 zl2, .int .i64 zp2, .int .i64 zf2, .slice A2 L2.length c2, .int .i64 lf2, .bool dn2, .int .i64 fr2, .int .i64 ln2, .int .i64 en2, .int .i64 sf2, .string tl2, .slice FA2 fn2 fc2, .int .i64 hd2, .slice TA2 ts2.length tc2, .int .i64 (nx2 + 1)].toList _ (fun u hu => (by intro j v hj; rw [Nat.zero_add, blkCell hu.1]; simpa using hj)) Tryz.underlying37 (by kernel_rfl) (by kernel_rfl)) ?_
    try simp only [Act.put, List.setIfInBounds_toArray, List.set_cons_zero, List.set_cons_succ]
    refine tkW 1 (some 24) (v := ?_) rfl ?_ ?_
    rotate_left
    · intro u hSu; have hSv := blkCell hSu.2; clear hSu; go_simp; (try with_reducible rfl)
    try simp only [Act.put, List.setIfInBounds_toArray, List.set_cons_zero, List.set_cons_succ]
    refine tkW 2 (some 25) (v := ?_) rfl ?_ ?_
    rotate_left
    · intro u hSu; have hSv := blkCell hSu.2; clear hSu; go_simp; (try with_reducible rfl)
    try simp only [Act.put, List.setIfInBounds_toArray, List.set_cons_zero, List.set_cons_succ]
    refine rdH 3 none rfl (fun K hK => ?_)
    refine wantedIf (by rfl) ?_
    refine wp_store_whole 37 (.tmp 2) (.tmp 23) rfl (w.heap.size + 1) #[.int .i64 zl2, .int .i64 zp2, .int .i64 zf2, .slice A2 L2.length c2, .int .i64 lf2, .bool dn2, .int .i64 fr2, .int .i64 ln2, .int .i64 en2, .int .i64 sf2, .string tl2, .slice FA2 fn2 fc2, .int .i64 hd2, .slice TA2 ts2.length tc2, .int .i64 (nx2 + 1)] _ _ rfl rfl K0.get1 (by kernel_rfl) (by kernel_rfl) (by kernel_rfl) ?_
    have K1 := K0.row 1 #[.int .i64 zl2, .int .i64 zp2, .int .i64 zf2, .slice A2 L2.length c2, .int .i64 lf2, .bool dn2, .int .i64 fr2, .int .i64 ln2, .int .i64 en2, .int .i64 sf2, .string tl2, .slice FA2 fn2 fc2, .int .i64 hd2, .slice TA2 ts2.length tc2, .int .i64 (nx2 + 1)] _ rfl
    have hSn := And.intro ((heap_setRow_other _ (w.heap.size + 1) #[.int .i64 zl2, .int .i64 zp2, .int .i64 zf2, .slice A2 L2.length c2, .int .i64 lf2, .bool dn2, .int .i64 fr2, .int .i64 ln2, .int .i64 en2, .int .i64 sf2, .string tl2, .slice FA2 fn2 fc2, .int .i64 hd2, .slice TA2 ts2.length tc2, .int .i64 (nx2 + 1)] gb (by omega)).trans X0) K1.get0
    refine hK.out _ _ ?_ (fun hHeld => ?_)
    · first | exact hSn | exact ⟨X0, K0.get0⟩
    clear hK K
    try simp only [Act.put]
    refine tkW 4 (some 3) (v := ?_) rfl ?_ ?_
    rotate_left
    · intro u hSu; have hSv := blkCell hSu.2; clear hSu; go_simp; (try with_reducible rfl)
    try simp only [Act.put, List.setIfInBounds_toArray, List.set_cons_zero, List.set_cons_succ]
    refine tkW 5 (some 4) (v := ?_) rfl ?_ ?_
    rotate_left
    · intro u hSu; have hSv := blkCell hSu.2; clear hSu; go_simp; (try with_reducible rfl)
    try simp only [Act.put, List.setIfInBounds_toArray, List.set_cons_zero, List.set_cons_succ]
    refine wpAnyH_done (by kernel_rfl) ?_ _
    clear hHeld hSn
    go_wp2_with fail
    refine bodyPost_ret (v := .tuple #[.agg #[.int .i64 zl2, .int .i64 zp2, .int .i64 zf2, .slice A2 L2.length c2, .int .i64 lf2, .bool dn2, .int .i64 fr2, .int .i64 ln2, .int .i64 en2, .int .i64 sf2, .string tl2, .slice FA2 fn2 fc2, .int .i64 hd2, .slice TA2 ts2.length tc2, .int .i64 (nx2 + 1)], .int .i64 nx2, .int .i64 0]) (results_cell3 rfl _ _ rfl (load_whole (setRow_heap _ _ _ _ _ _ K0.get1) Tryz.underlying37 (by kernel_rfl) (by kernel_rfl)) rfl rfl) rfl ?_
    exact HM.out ⟨A2, c2, FA2, fn2, fc2, TA2, tc2⟩ _ (S0.other K0.get1 (by decide) (by decide) _) HF5.out (K1.below)
  · have he1 : (e2 == 0) = false := by simpa using he
    have he2 : (e2 != 0) = true := by simpa using he
    have HM := Lib.hid (fun w' (hb : Below w.heap.size w w') => show BegOut (Tx.beginS s) p w (.returned (.tuple #[storeV s p, .int .i64 0, .int .i64 e2])) w' from by rw [hn he]; exact ⟨_, rfl, h.below hb, ⟨rfl, rfl, rfl⟩, hb⟩)
    generalize BegOut (Tx.beginS s) p w = Q at HM ⊢
    clear hk hn hx h hb hts hnx0 hnx1 he
    obtain ⟨zl, zp, zf, ⟨L, lf, dn⟩, ⟨fr, ln, en, sf, tl⟩, hd, ts, nx⟩ := s
    obtain ⟨A, c, FA, fn, fc, TA, tc⟩ := p
    dsimp only [storeV] at HNO HM ⊢
    go_enter Tryz.func29, Tryz.ntmps29
    go_upto_region 1 with fail
    have H0 := Lib.hid (show BxL w.heap.size w [(#[.int .i64 zl, .int .i64 zp, .int .i64 zf, .slice A L.length c, .int .i64 lf, .bool dn, .int .i64 fr, .int .i64 ln, .int .i64 en, .int .i64 sf, .string tl, .slice FA fn fc, .int .i64 hd, .slice TA ts.length tc, .int .i64 nx], 37), (#[.int .i64 0, .int .i64 0, .int .i64 0, .slice none 0 0, .int .i64 0, .bool false, .int .i64 0, .int .i64 0, .int .i64 0, .int .i64 0, .string ⟨#[]⟩, .slice none 0 0, .int .i64 0, .slice none 0 0, .int .i64 0], 37)] ((w.alloc (.cells #[.int .i64 zl, .int .i64 zp, .int .i64 zf, .slice A L.length c, .int .i64 lf, .bool dn, .int .i64 fr, .int .i64 ln, .int .i64 en, .int .i64 sf, .string tl, .slice FA fn fc, .int .i64 hd, .slice TA ts.length tc, .int .i64 nx] 37)).alloc (.cells #[.int .i64 0, .int .i64 0, .int .i64 0, .slice none 0 0, .int .i64 0, .bool false, .int .i64 0, .int .i64 0, .int .i64 0, .int .i64 0, .string ⟨#[]⟩, .slice none 0 0, .int .i64 0, .slice none 0 0, .int .i64 0] 37)) from (((BxL.nil (Below.refl w.heap.size w)).new (by simp) #[.int .i64 zl, .int .i64 zp, .int .i64 zf, .slice A L.length c, .int .i64 lf, .bool dn, .int .i64 fr, .int .i64 ln, .int .i64 en, .int .i64 sf, .string tl, .slice FA fn fc, .int .i64 hd, .slice TA ts.length tc, .int .i64 nx] 37).new (by simp) #[.int .i64 0, .int .i64 0, .int .i64 0, .slice none 0 0, .int .i64 0, .bool false, .int .i64 0, .int .i64 0, .int .i64 0, .int .i64 0, .string ⟨#[]⟩, .slice none 0 0, .int .i64 0, .slice none 0 0, .int .i64 0] 37))
    obtain ⟨W0, hW0⟩ : ∃ W, W = ((w.alloc (.cells #[.int .i64 zl, .int .i64 zp, .int .i64 zf, .slice A L.length c, .int .i64 lf, .bool dn, .int .i64 fr, .int .i64 ln, .int .i64 en, .int .i64 sf, .string tl, .slice FA fn fc, .int .i64 hd, .slice TA ts.length tc, .int .i64 nx] 37)).alloc (.cells #[.int .i64 0, .int .i64 0, .int .i64 0, .slice none 0 0, .int .i64 0, .bool false, .int .i64 0, .int .i64 0, .int .i64 0, .int .i64 0, .string ⟨#[]⟩, .slice none 0 0, .int .i64 0, .slice none 0 0, .int .i64 0] 37)) := ⟨_, rfl⟩
    rw [← hW0] at H0 ⊢
    clear hW0
    have hc0 := blkCell H0.out.get0
    go_upto_region 2 with (first
      | (with_reducible refine listLoad (by kernel_rfl) 37 (.tmp 1) rfl w.heap.size rfl #[.int .i64 zl, .int .i64 zp, .int .i64 zf, .slice A L.length c, .int .i64 lf, .bool dn, .int .i64 fr, .int .i64 ln, .int .i64 en, .int .i64 sf, .string tl, .slice FA fn fc, .int .i64 hd, .slice TA ts.length tc, .int .i64 nx] _ H0.out.get0 _ Tryz.underlying37 (by kernel_rfl) (by kernel_rfl) ?_)
      | (go_at_call 56; (with_reducible refine (HNO.out _ H0.out.below).mono ?_); rintro e w5 ⟨p', he, hs5, hf5, hb5⟩; clear hf5 hs5; obtain ⟨A2, c2, FA2, fn2, fc2, TA2, tc2⟩ := p'; (try dsimp only [storeV] at he); subst he)
      | (with_reducible refine wpList_store_new rfl 37 (.tmp 5) (.tmp 13) rfl #[.int .i64 zl2, .int .i64 zp2, .int .i64 zf2, .slice A2 L2.length c2, .int .i64 lf2, .bool dn2, .int .i64 fr2, .int .i64 ln2, .int .i64 en2, .int .i64 sf2, .string tl2, .slice FA2 fn2 fc2, .int .i64 hd2, .slice TA2 ts2.length tc2, .int .i64 nx2] _ _ rfl (by kernel_rfl) (by kernel_rfl) (by kernel_rfl) (by kernel_rfl) ?_))
    have H5 := Lib.hid (H0.out.step (pastAlloc (o := .cells #[.int .i64 zl2, .int .i64 zp2, .int .i64 zf2, .slice A2 L2.length c2, .int .i64 lf2, .bool dn2, .int .i64 fr2, .int .i64 ln2, .int .i64 en2, .int .i64 sf2, .string tl2, .slice FA2 fn2 fc2, .int .i64 hd2, .slice TA2 ts2.length tc2, .int .i64 nx2] 37) hb5))
    obtain ⟨W5, hW5⟩ : ∃ W, W = w5.alloc (.cells #[.int .i64 zl2, .int .i64 zp2, .int .i64 zf2, .slice A2 L2.length c2, .int .i64 lf2, .bool dn2, .int .i64 fr2, .int .i64 ln2, .int .i64 en2, .int .i64 sf2, .string tl2, .slice FA2 fn2 fc2, .int .i64 hd2, .slice TA2 ts2.length tc2, .int .i64 nx2] 37) := ⟨_, rfl⟩
    rw [← hW5] at H5
    rw [← hW5]
    clear hW5 hb5 H0 hc0 HNO
    go_wp2_with (first
      | (with_reducible refine listLoad (by kernel_rfl) 37 (.tmp 1) rfl w.heap.size rfl #[.int .i64 zl, .int .i64 zp, .int .i64 zf, .slice A L.length c, .int .i64 lf, .bool dn, .int .i64 fr, .int .i64 ln, .int .i64 en, .int .i64 sf, .string tl, .slice FA fn fc, .int .i64 hd, .slice TA ts.length tc, .int .i64 nx] _ H5.out.get0 _ Tryz.underlying37 (by kernel_rfl) (by kernel_rfl) ?_)
      | (with_reducible refine listStore (by kernel_rfl) 37 (.tmp 2) (.tmp 17) rfl (w.heap.size + 1) #[.int .i64 zl, .int .i64 zp, .int .i64 zf, .slice A L.length c, .int .i64 lf, .bool dn, .int .i64 fr, .int .i64 ln, .int .i64 en, .int .i64 sf, .string tl, .slice FA fn fc, .int .i64 hd, .slice TA ts.length tc, .int .i64 nx] _ _ rfl rfl H5.out.get1 (by kernel_rfl) (by kernel_rfl) (by kernel_rfl) ?_))
    refine bodyPost_ret (v := .tuple #[.agg #[.int .i64 zl, .int .i64 zp, .int .i64 zf, .slice A L.length c, .int .i64 lf, .bool dn, .int .i64 fr, .int .i64 ln, .int .i64 en, .int .i64 sf, .string tl, .slice FA fn fc, .int .i64 hd, .slice TA ts.length tc, .int .i64 nx], .int .i64 0, .int .i64 e2]) (results_cell3 rfl _ _ rfl (load_whole (setRow_heap _ _ _ _ _ _ H5.out.get1) Tryz.underlying37 (by kernel_rfl) (by kernel_rfl)) rfl rfl) rfl ?_
    exact HM.out _ ((H5.out.row 1 _ _ rfl).below)
end Go.Proofs.YthfglhafphfhiaaGreat
/- The walk over the law's want. -/
namespace Go.Proofs.YthfglhafphfhiaaGreat
open Go.RowKit
set_option maxRecDepth 100000 in
set_option maxHeartbeats 8000000 in
theorem rwant_of (s : Tx.St) (p : SP) (hb : Tx.LogB s) (hts : s.txns.length ≤ 700000) (hnx0 : 0 ≤ s.next) (hnx1 : s.next ≤ 1000000000) (_hlf : -9223372036854775808 ≤ s.disk.left ∧ s.disk.left ≤ 9223372036854775807) (d : Tx.Deed) (w : World) (h : StoreR w s p) (HCO : ∀ (n : Int) (W : World), Below w.heap.size w W → Calls Tryz.prog 31 #[storeV s p, .int .i64 n] W (StOut (Tx.commitS s n) p W)) :
    Calls Tryz.prog 9 #[storeV s p, deedV d] w (BegOut (Tx.doS s d) p w) := by
  have HM := Lib.hid (fun y (p' : SP) w' (hx : Tx.doS s d = y) (hs : StoreR w' y.1 p') (hf : p'.F = p.F ∧ p'.fn = p.fn ∧ p'.fc = p.fc) (hb : Below w.heap.size w w') => show BegOut (Tx.doS s d) p w (.returned (.tuple #[storeV y.1 p', .int .i64 y.2.1, .int .i64 y.2.2])) w' from by rw [hx]; exact ⟨_, rfl, hs, hf, hb⟩)
  obtain ⟨dk, dt, dn_⟩ := d
  dsimp only [deedV] at HM ⊢
  generalize BegOut (Tx.doS s ⟨dk, dt, dn_⟩) p w = Q at HM ⊢
  have HS := Lib.hid h
  by_cases hk0 : dk = 0
  · subst hk0
    have HC := Lib.hid (fun W (hw : Below w.heap.size w W) => rbegin_any s p hb (by omega) hnx0 hnx1 W (h.below hw))
    have hx : Tx.doS s ⟨0, dt, dn_⟩ = Tx.beginS s := rfl
    generalize Tx.beginS s = y at HC hx
    have HMF := Lib.hid (fun (p' : SP) w' hs hf hb => HM.out _ p' w' hx hs hf hb)
    clear h hb hts hnx0 hnx1 _hlf HM hx HS
    obtain ⟨⟨zl2, zp2, zf2, ⟨L2, lf2, dn2⟩, ⟨fr2, ln2, en2, sf2, tl2⟩, hd2, ts2, nx2⟩, m2, e2⟩ := y
    obtain ⟨zl, zp, zf, ⟨L, lf, dn⟩, ⟨fr, ln, en, sf, tl⟩, hd, ts, nx⟩ := s
    obtain ⟨A, c, FA, fn, fc, TA, tc⟩ := p
    dsimp only [storeV] at HC HMF ⊢
    go_enter Tryz.func9, Tryz.ntmps9
    go_upto_region 1 with fail
    have H0 := Lib.hid (show BxL w.heap.size w [(#[.int .i64 zl, .int .i64 zp, .int .i64 zf, .slice A L.length c, .int .i64 lf, .bool dn, .int .i64 fr, .int .i64 ln, .int .i64 en, .int .i64 sf, .string tl, .slice FA fn fc, .int .i64 hd, .slice TA ts.length tc, .int .i64 nx], 37), (#[.int .i64 0, .int .i64 dt, .int .i64 dn_], 43), (#[.int .i64 0, .int .i64 0, .int .i64 0, .slice none 0 0, .int .i64 0, .bool false, .int .i64 0, .int .i64 0, .int .i64 0, .int .i64 0, .string ⟨#[]⟩, .slice none 0 0, .int .i64 0, .slice none 0 0, .int .i64 0], 37)] (((w.alloc (.cells #[.int .i64 zl, .int .i64 zp, .int .i64 zf, .slice A L.length c, .int .i64 lf, .bool dn, .int .i64 fr, .int .i64 ln, .int .i64 en, .int .i64 sf, .string tl, .slice FA fn fc, .int .i64 hd, .slice TA ts.length tc, .int .i64 nx] 37)).alloc (.cells #[.int .i64 0, .int .i64 dt, .int .i64 dn_] 43)).alloc (.cells #[.int .i64 0, .int .i64 0, .int .i64 0, .slice none 0 0, .int .i64 0, .bool false, .int .i64 0, .int .i64 0, .int .i64 0, .int .i64 0, .string ⟨#[]⟩, .slice none 0 0, .int .i64 0, .slice none 0 0, .int .i64 0] 37)) from ((((BxL.nil (Below.refl w.heap.size w)).new (by simp) #[.int .i64 zl, .int .i64 zp, .int .i64 zf, .slice A L.length c, .int .i64 lf, .bool dn, .int .i64 fr, .int .i64 ln, .int .i64 en, .int .i64 sf, .string tl, .slice FA fn fc, .int .i64 hd, .slice TA ts.length tc, .int .i64 nx] 37).new (by simp) #[.int .i64 0, .int .i64 dt, .int .i64 dn_] 43).new (by simp) #[.int .i64 0, .int .i64 0, .int .i64 0, .slice none 0 0, .int .i64 0, .bool false, .int .i64 0, .int .i64 0, .int .i64 0, .int .i64 0, .string ⟨#[]⟩, .slice none 0 0, .int .i64 0, .slice none 0 0, .int .i64 0] 37))
    obtain ⟨W0, hW0⟩ : ∃ W, W = (((w.alloc (.cells #[.int .i64 zl, .int .i64 zp, .int .i64 zf, .slice A L.length c, .int .i64 lf, .bool dn, .int .i64 fr, .int .i64 ln, .int .i64 en, .int .i64 sf, .string tl, .slice FA fn fc, .int .i64 hd, .slice TA ts.length tc, .int .i64 nx] 37)).alloc (.cells #[.int .i64 0, .int .i64 dt, .int .i64 dn_] 43)).alloc (.cells #[.int .i64 0, .int .i64 0, .int .i64 0, .slice none 0 0, .int .i64 0, .bool false, .int .i64 0, .int .i64 0, .int .i64 0, .int .i64 0, .string ⟨#[]⟩, .slice none 0 0, .int .i64 0, .slice none 0 0, .int .i64 0] 37)) := ⟨_, rfl⟩
    rw [← hW0] at H0 ⊢
    clear hW0
    have hc0 := blkCell H0.out.get1
    go_wp2_with (first
      | (with_reducible refine listLoad (by kernel_rfl) 37 (.tmp 2) rfl w.heap.size rfl #[.int .i64 zl, .int .i64 zp, .int .i64 zf, .slice A L.length c, .int .i64 lf, .bool dn, .int .i64 fr, .int .i64 ln, .int .i64 en, .int .i64 sf, .string tl, .slice FA fn fc, .int .i64 hd, .slice TA ts.length tc, .int .i64 nx] _ H0.out.get0 _ Tryz.underlying37 (by kernel_rfl) (by kernel_rfl) ?_)
      | (go_at_call 29; (with_reducible refine (HC.out _ H0.out.below).mono ?_); rintro e w5 ⟨p', he, hs5, hf5, hb5⟩; have HF5 := Lib.hid hf5; clear hf5; obtain ⟨A2, c2, FA2, fn2, fc2, TA2, tc2⟩ := p'; (try dsimp only [storeV] at he); subst he; have H5 := Lib.hid (H0.out.step hb5))
      | (with_reducible refine listStore (by kernel_rfl) 37 (.tmp 4) (.tmp 21) rfl (w.heap.size + 2) #[.int .i64 zl2, .int .i64 zp2, .int .i64 zf2, .slice A2 L2.length c2, .int .i64 lf2, .bool dn2, .int .i64 fr2, .int .i64 ln2, .int .i64 en2, .int .i64 sf2, .string tl2, .slice FA2 fn2 fc2, .int .i64 hd2, .slice TA2 ts2.length tc2, .int .i64 nx2] _ _ rfl rfl H5.out.get2 (by kernel_rfl) (by kernel_rfl) (by kernel_rfl) ?_))
    refine bodyPost_ret (v := .tuple #[.agg #[.int .i64 zl2, .int .i64 zp2, .int .i64 zf2, .slice A2 L2.length c2, .int .i64 lf2, .bool dn2, .int .i64 fr2, .int .i64 ln2, .int .i64 en2, .int .i64 sf2, .string tl2, .slice FA2 fn2 fc2, .int .i64 hd2, .slice TA2 ts2.length tc2, .int .i64 nx2], .int .i64 m2, .int .i64 e2]) (results_cell3 rfl _ _ rfl (load_whole (setRow_heap _ _ _ _ _ _ H5.out.get2) Tryz.underlying37 (by kernel_rfl) (by kernel_rfl)) rfl rfl) rfl ?_
    exact HMF.out ⟨A2, c2, FA2, fn2, fc2, TA2, tc2⟩ _ (hs5.other H5.out.get2 (by decide) (by decide) _) HF5.out ((H5.out.row 2 _ _ rfl).below)
  by_cases hk1 : dk = 1
  · subst hk1
    have HC := Lib.hid (fun W (hw : Below w.heap.size w W) => rnest_any s p hb (by omega) dt dn_ W (h.below hw))
    have hx : Tx.doS s ⟨1, dt, dn_⟩ = ((Tx.nestS s dt dn_).1, 0, (Tx.nestS s dt dn_).2) := rfl
    generalize Tx.nestS s dt dn_ = y at HC hx
    have HMF := Lib.hid (fun (p' : SP) w' hs hf hb => HM.out _ p' w' hx hs hf hb)
    clear h hb hts hnx0 hnx1 _hlf HM hx HS
    obtain ⟨⟨zl2, zp2, zf2, ⟨L2, lf2, dn2⟩, ⟨fr2, ln2, en2, sf2, tl2⟩, hd2, ts2, nx2⟩, e2⟩ := y
    obtain ⟨zl, zp, zf, ⟨L, lf, dn⟩, ⟨fr, ln, en, sf, tl⟩, hd, ts, nx⟩ := s
    obtain ⟨A, c, FA, fn, fc, TA, tc⟩ := p
    dsimp only [storeV] at HC HMF ⊢
    go_enter Tryz.func9, Tryz.ntmps9
    go_upto_region 1 with fail
    have H0 := Lib.hid (show BxL w.heap.size w [(#[.int .i64 zl, .int .i64 zp, .int .i64 zf, .slice A L.length c, .int .i64 lf, .bool dn, .int .i64 fr, .int .i64 ln, .int .i64 en, .int .i64 sf, .string tl, .slice FA fn fc, .int .i64 hd, .slice TA ts.length tc, .int .i64 nx], 37), (#[.int .i64 1, .int .i64 dt, .int .i64 dn_], 43), (#[.int .i64 0, .int .i64 0, .int .i64 0, .slice none 0 0, .int .i64 0, .bool false, .int .i64 0, .int .i64 0, .int .i64 0, .int .i64 0, .string ⟨#[]⟩, .slice none 0 0, .int .i64 0, .slice none 0 0, .int .i64 0], 37)] (((w.alloc (.cells #[.int .i64 zl, .int .i64 zp, .int .i64 zf, .slice A L.length c, .int .i64 lf, .bool dn, .int .i64 fr, .int .i64 ln, .int .i64 en, .int .i64 sf, .string tl, .slice FA fn fc, .int .i64 hd, .slice TA ts.length tc, .int .i64 nx] 37)).alloc (.cells #[.int .i64 1, .int .i64 dt, .int .i64 dn_] 43)).alloc (.cells #[.int .i64 0, .int .i64 0, .int .i64 0, .slice none 0 0, .int .i64 0, .bool false, .int .i64 0, .int .i64 0, .int .i64 0, .int .i64 0, .string ⟨#[]⟩, .slice none 0 0, .int .i64 0, .slice none 0 0, .int .i64 0] 37)) from ((((BxL.nil (Below.refl w.heap.size w)).new (by simp) #[.int .i64 zl, .int .i64 zp, .int .i64 zf, .slice A L.length c, .int .i64 lf, .bool dn, .int .i64 fr, .int .i64 ln, .int .i64 en, .int .i64 sf, .string tl, .slice FA fn fc, .int .i64 hd, .slice TA ts.length tc, .int .i64 nx] 37).new (by simp) #[.int .i64 1, .int .i64 dt, .int .i64 dn_] 43).new (by simp) #[.int .i64 0, .int .i64 0, .int .i64 0, .slice none 0 0, .int .i64 0, .bool false, .int .i64 0, .int .i64 0, .int .i64 0, .int .i64 0, .string ⟨#[]⟩, .slice none 0 0, .int .i64 0, .slice none 0 0, .int .i64 0] 37))
    obtain ⟨W0, hW0⟩ : ∃ W, W = (((w.alloc (.cells #[.int .i64 zl, .int .i64 zp, .int .i64 zf, .slice A L.length c, .int .i64 lf, .bool dn, .int .i64 fr, .int .i64 ln, .int .i64 en, .int .i64 sf, .string tl, .slice FA fn fc, .int .i64 hd, .slice TA ts.length tc, .int .i64 nx] 37)).alloc (.cells #[.int .i64 1, .int .i64 dt, .int .i64 dn_] 43)).alloc (.cells #[.int .i64 0, .int .i64 0, .int .i64 0, .slice none 0 0, .int .i64 0, .bool false, .int .i64 0, .int .i64 0, .int .i64 0, .int .i64 0, .string ⟨#[]⟩, .slice none 0 0, .int .i64 0, .slice none 0 0, .int .i64 0] 37)) := ⟨_, rfl⟩
    rw [← hW0] at H0 ⊢
    clear hW0
    have hc0 := blkCell H0.out.get1
    go_upto_region 6 with (first
      | (with_reducible refine listLoad (by kernel_rfl) 37 (.tmp 2) rfl w.heap.size rfl #[.int .i64 zl, .int .i64 zp, .int .i64 zf, .slice A L.length c, .int .i64 lf, .bool dn, .int .i64 fr, .int .i64 ln, .int .i64 en, .int .i64 sf, .string tl, .slice FA fn fc, .int .i64 hd, .slice TA ts.length tc, .int .i64 nx] _ H0.out.get0 _ Tryz.underlying37 (by kernel_rfl) (by kernel_rfl) ?_)
      | (go_at_call 30; (with_reducible refine (HC.out _ H0.out.below).mono ?_); rintro e w5 ⟨p', he, hs5, hf5, hb5⟩; have HF5 := Lib.hid hf5; clear hf5; obtain ⟨A2, c2, FA2, fn2, fc2, TA2, tc2⟩ := p'; (try dsimp only [storeV] at he); subst he)
      | (with_reducible refine wpList_store_new rfl 37 (.tmp 7) (.tmp 33) rfl #[.int .i64 zl2, .int .i64 zp2, .int .i64 zf2, .slice A2 L2.length c2, .int .i64 lf2, .bool dn2, .int .i64 fr2, .int .i64 ln2, .int .i64 en2, .int .i64 sf2, .string tl2, .slice FA2 fn2 fc2, .int .i64 hd2, .slice TA2 ts2.length tc2, .int .i64 nx2] _ _ rfl (by kernel_rfl) (by kernel_rfl) (by kernel_rfl) (by kernel_rfl) ?_))
    have H5 := Lib.hid (H0.out.step (pastAlloc (o := .cells #[.int .i64 zl2, .int .i64 zp2, .int .i64 zf2, .slice A2 L2.length c2, .int .i64 lf2, .bool dn2, .int .i64 fr2, .int .i64 ln2, .int .i64 en2, .int .i64 sf2, .string tl2, .slice FA2 fn2 fc2, .int .i64 hd2, .slice TA2 ts2.length tc2, .int .i64 nx2] 37) hb5))
    have HG := Lib.hid (heap_alloc_new w5 (.cells #[.int .i64 zl2, .int .i64 zp2, .int .i64 zf2, .slice A2 L2.length c2, .int .i64 lf2, .bool dn2, .int .i64 fr2, .int .i64 ln2, .int .i64 en2, .int .i64 sf2, .string tl2, .slice FA2 fn2 fc2, .int .i64 hd2, .slice TA2 ts2.length tc2, .int .i64 nx2] 37))
    have HS5 := Lib.hid (hs5.below (allocB w5 (.cells #[.int .i64 zl2, .int .i64 zp2, .int .i64 zf2, .slice A2 L2.length c2, .int .i64 lf2, .bool dn2, .int .i64 fr2, .int .i64 ln2, .int .i64 en2, .int .i64 sf2, .string tl2, .slice FA2 fn2 fc2, .int .i64 hd2, .slice TA2 ts2.length tc2, .int .i64 nx2] 37)))
    obtain ⟨gb, hge⟩ : ∃ gb, gb = w5.heap.size := ⟨_, rfl⟩
    obtain ⟨W5, hW5⟩ : ∃ W, W = w5.alloc (.cells #[.int .i64 zl2, .int .i64 zp2, .int .i64 zf2, .slice A2 L2.length c2, .int .i64 lf2, .bool dn2, .int .i64 fr2, .int .i64 ln2, .int .i64 en2, .int .i64 sf2, .string tl2, .slice FA2 fn2 fc2, .int .i64 hd2, .slice TA2 ts2.length tc2, .int .i64 nx2] 37) := ⟨_, rfl⟩
    rw [← hge] at HG
    rw [← hW5] at H5 HG HS5
    rw [← hW5, ← hge]
    clear hge hW5 hb5 hs5 H0 hc0 HC
    go_wp2_with (first
      | (with_reducible refine listLoad (by kernel_rfl) 37 (.tmp 7) rfl gb rfl #[.int .i64 zl2, .int .i64 zp2, .int .i64 zf2, .slice A2 L2.length c2, .int .i64 lf2, .bool dn2, .int .i64 fr2, .int .i64 ln2, .int .i64 en2, .int .i64 sf2, .string tl2, .slice FA2 fn2 fc2, .int .i64 hd2, .slice TA2 ts2.length tc2, .int .i64 nx2] _ HG.out _ Tryz.underlying37 (by kernel_rfl) (by kernel_rfl) ?_)
      | (with_reducible refine listStore (by kernel_rfl) 37 (.tmp 4) (.tmp 35) rfl (w.heap.size + 2) #[.int .i64 zl2, .int .i64 zp2, .int .i64 zf2, .slice A2 L2.length c2, .int .i64 lf2, .bool dn2, .int .i64 fr2, .int .i64 ln2, .int .i64 en2, .int .i64 sf2, .string tl2, .slice FA2 fn2 fc2, .int .i64 hd2, .slice TA2 ts2.length tc2, .int .i64 nx2] _ _ rfl rfl H5.out.get2 (by kernel_rfl) (by kernel_rfl) (by kernel_rfl) ?_))
    refine bodyPost_ret (v := .tuple #[.agg #[.int .i64 zl2, .int .i64 zp2, .int .i64 zf2, .slice A2 L2.length c2, .int .i64 lf2, .bool dn2, .int .i64 fr2, .int .i64 ln2, .int .i64 en2, .int .i64 sf2, .string tl2, .slice FA2 fn2 fc2, .int .i64 hd2, .slice TA2 ts2.length tc2, .int .i64 nx2], .int .i64 0, .int .i64 e2]) (results_cell3 rfl _ _ rfl (load_whole (setRow_heap _ _ _ _ _ _ H5.out.get2) Tryz.underlying37 (by kernel_rfl) (by kernel_rfl)) rfl rfl) rfl ?_
    exact HMF.out ⟨A2, c2, FA2, fn2, fc2, TA2, tc2⟩ _ (HS5.out.other H5.out.get2 (by decide) (by decide) _) HF5.out ((H5.out.row 2 _ _ rfl).below)
  by_cases hk2 : dk = 2
  · subst hk2
    have HC := Lib.hid (fun W (hw : Below w.heap.size w W) => HCO dt W hw)
    have hx : Tx.doS s ⟨2, dt, dn_⟩ = ((Tx.commitS s dt).1, 0, (Tx.commitS s dt).2) := rfl
    generalize Tx.commitS s dt = y at HC hx
    have HMF := Lib.hid (fun (p' : SP) w' hs hf hb => HM.out _ p' w' hx hs hf hb)
    clear h hb hts hnx0 hnx1 _hlf HM hx HS
    obtain ⟨⟨zl2, zp2, zf2, ⟨L2, lf2, dn2⟩, ⟨fr2, ln2, en2, sf2, tl2⟩, hd2, ts2, nx2⟩, e2⟩ := y
    obtain ⟨zl, zp, zf, ⟨L, lf, dn⟩, ⟨fr, ln, en, sf, tl⟩, hd, ts, nx⟩ := s
    obtain ⟨A, c, FA, fn, fc, TA, tc⟩ := p
    dsimp only [storeV] at HC HMF ⊢
    go_enter Tryz.func9, Tryz.ntmps9
    go_upto_region 1 with fail
    have H0 := Lib.hid (show BxL w.heap.size w [(#[.int .i64 zl, .int .i64 zp, .int .i64 zf, .slice A L.length c, .int .i64 lf, .bool dn, .int .i64 fr, .int .i64 ln, .int .i64 en, .int .i64 sf, .string tl, .slice FA fn fc, .int .i64 hd, .slice TA ts.length tc, .int .i64 nx], 37), (#[.int .i64 2, .int .i64 dt, .int .i64 dn_], 43), (#[.int .i64 0, .int .i64 0, .int .i64 0, .slice none 0 0, .int .i64 0, .bool false, .int .i64 0, .int .i64 0, .int .i64 0, .int .i64 0, .string ⟨#[]⟩, .slice none 0 0, .int .i64 0, .slice none 0 0, .int .i64 0], 37)] (((w.alloc (.cells #[.int .i64 zl, .int .i64 zp, .int .i64 zf, .slice A L.length c, .int .i64 lf, .bool dn, .int .i64 fr, .int .i64 ln, .int .i64 en, .int .i64 sf, .string tl, .slice FA fn fc, .int .i64 hd, .slice TA ts.length tc, .int .i64 nx] 37)).alloc (.cells #[.int .i64 2, .int .i64 dt, .int .i64 dn_] 43)).alloc (.cells #[.int .i64 0, .int .i64 0, .int .i64 0, .slice none 0 0, .int .i64 0, .bool false, .int .i64 0, .int .i64 0, .int .i64 0, .int .i64 0, .string ⟨#[]⟩, .slice none 0 0, .int .i64 0, .slice none 0 0, .int .i64 0] 37)) from ((((BxL.nil (Below.refl w.heap.size w)).new (by simp) #[.int .i64 zl, .int .i64 zp, .int .i64 zf, .slice A L.length c, .int .i64 lf, .bool dn, .int .i64 fr, .int .i64 ln, .int .i64 en, .int .i64 sf, .string tl, .slice FA fn fc, .int .i64 hd, .slice TA ts.length tc, .int .i64 nx] 37).new (by simp) #[.int .i64 2, .int .i64 dt, .int .i64 dn_] 43).new (by simp) #[.int .i64 0, .int .i64 0, .int .i64 0, .slice none 0 0, .int .i64 0, .bool false, .int .i64 0, .int .i64 0, .int .i64 0, .int .i64 0, .string ⟨#[]⟩, .slice none 0 0, .int .i64 0, .slice none 0 0, .int .i64 0] 37))
    obtain ⟨W0, hW0⟩ : ∃ W, W = (((w.alloc (.cells #[.int .i64 zl, .int .i64 zp, .int .i64 zf, .slice A L.length c, .int .i64 lf, .bool dn, .int .i64 fr, .int .i64 ln, .int .i64 en, .int .i64 sf, .string tl, .slice FA fn fc, .int .i64 hd, .slice TA ts.length tc, .int .i64 nx] 37)).alloc (.cells #[.int .i64 2, .int .i64 dt, .int .i64 dn_] 43)).alloc (.cells #[.int .i64 0, .int .i64 0, .int .i64 0, .slice none 0 0, .int .i64 0, .bool false, .int .i64 0, .int .i64 0, .int .i64 0, .int .i64 0, .string ⟨#[]⟩, .slice none 0 0, .int .i64 0, .slice none 0 0, .int .i64 0] 37)) := ⟨_, rfl⟩
    rw [← hW0] at H0 ⊢
    clear hW0
    have hc0 := blkCell H0.out.get1
    go_upto_region 9 with (first
      | (with_reducible refine listLoad (by kernel_rfl) 37 (.tmp 2) rfl w.heap.size rfl #[.int .i64 zl, .int .i64 zp, .int .i64 zf, .slice A L.length c, .int .i64 lf, .bool dn, .int .i64 fr, .int .i64 ln, .int .i64 en, .int .i64 sf, .string tl, .slice FA fn fc, .int .i64 hd, .slice TA ts.length tc, .int .i64 nx] _ H0.out.get0 _ Tryz.underlying37 (by kernel_rfl) (by kernel_rfl) ?_)
      | (go_at_call 31; (with_reducible refine (HC.out _ H0.out.below).mono ?_); rintro e w5 ⟨p', he, hs5, hf5, hb5⟩; have HF5 := Lib.hid hf5; clear hf5; obtain ⟨A2, c2, FA2, fn2, fc2, TA2, tc2⟩ := p'; (try dsimp only [storeV] at he); subst he)
      | (with_reducible refine wpList_store_new rfl 37 (.tmp 9) (.tmp 44) rfl #[.int .i64 zl2, .int .i64 zp2, .int .i64 zf2, .slice A2 L2.length c2, .int .i64 lf2, .bool dn2, .int .i64 fr2, .int .i64 ln2, .int .i64 en2, .int .i64 sf2, .string tl2, .slice FA2 fn2 fc2, .int .i64 hd2, .slice TA2 ts2.length tc2, .int .i64 nx2] _ _ rfl (by kernel_rfl) (by kernel_rfl) (by kernel_rfl) (by kernel_rfl) ?_))
    have H5 := Lib.hid (H0.out.step (pastAlloc (o := .cells #[.int .i64 zl2, .int .i64 zp2, .int .i64 zf2, .slice A2 L2.length c2, .int .i64 lf2, .bool dn2, .int .i64 fr2, .int .i64 ln2, .int .i64 en2, .int .i64 sf2, .string tl2, .slice FA2 fn2 fc2, .int .i64 hd2, .slice TA2 ts2.length tc2, .int .i64 nx2] 37) hb5))
    have HG := Lib.hid (heap_alloc_new w5 (.cells #[.int .i64 zl2, .int .i64 zp2, .int .i64 zf2, .slice A2 L2.length c2, .int .i64 lf2, .bool dn2, .int .i64 fr2, .int .i64 ln2, .int .i64 en2, .int .i64 sf2, .string tl2, .slice FA2 fn2 fc2, .int .i64 hd2, .slice TA2 ts2.length tc2, .int .i64 nx2] 37))
    have HS5 := Lib.hid (hs5.below (allocB w5 (.cells #[.int .i64 zl2, .int .i64 zp2, .int .i64 zf2, .slice A2 L2.length c2, .int .i64 lf2, .bool dn2, .int .i64 fr2, .int .i64 ln2, .int .i64 en2, .int .i64 sf2, .string tl2, .slice FA2 fn2 fc2, .int .i64 hd2, .slice TA2 ts2.length tc2, .int .i64 nx2] 37)))
    obtain ⟨gb, hge⟩ : ∃ gb, gb = w5.heap.size := ⟨_, rfl⟩
    obtain ⟨W5, hW5⟩ : ∃ W, W = w5.alloc (.cells #[.int .i64 zl2, .int .i64 zp2, .int .i64 zf2, .slice A2 L2.length c2, .int .i64 lf2, .bool dn2, .int .i64 fr2, .int .i64 ln2, .int .i64 en2, .int .i64 sf2, .string tl2, .slice FA2 fn2 fc2, .int .i64 hd2, .slice TA2 ts2.length tc2, .int .i64 nx2] 37) := ⟨_, rfl⟩
    rw [← hge] at HG
    rw [← hW5] at H5 HG HS5
    rw [← hW5, ← hge]
    clear hge hW5 hb5 hs5 H0 hc0 HC
    go_wp2_with (first
      | (with_reducible refine listLoad (by kernel_rfl) 37 (.tmp 9) rfl gb rfl #[.int .i64 zl2, .int .i64 zp2, .int .i64 zf2, .slice A2 L2.length c2, .int .i64 lf2, .bool dn2, .int .i64 fr2, .int .i64 ln2, .int .i64 en2, .int .i64 sf2, .string tl2, .slice FA2 fn2 fc2, .int .i64 hd2, .slice TA2 ts2.length tc2, .int .i64 nx2] _ HG.out _ Tryz.underlying37 (by kernel_rfl) (by kernel_rfl) ?_)
      | (with_reducible refine listStore (by kernel_rfl) 37 (.tmp 4) (.tmp 46) rfl (w.heap.size + 2) #[.int .i64 zl2, .int .i64 zp2, .int .i64 zf2, .slice A2 L2.length c2, .int .i64 lf2, .bool dn2, .int .i64 fr2, .int .i64 ln2, .int .i64 en2, .int .i64 sf2, .string tl2, .slice FA2 fn2 fc2, .int .i64 hd2, .slice TA2 ts2.length tc2, .int .i64 nx2] _ _ rfl rfl H5.out.get2 (by kernel_rfl) (by kernel_rfl) (by kernel_rfl) ?_))
    refine bodyPost_ret (v := .tuple #[.agg #[.int .i64 zl2, .int .i64 zp2, .int .i64 zf2, .slice A2 L2.length c2, .int .i64 lf2, .bool dn2, .int .i64 fr2, .int .i64 ln2, .int .i64 en2, .int .i64 sf2, .string tl2, .slice FA2 fn2 fc2, .int .i64 hd2, .slice TA2 ts2.length tc2, .int .i64 nx2], .int .i64 0, .int .i64 e2]) (results_cell3 rfl _ _ rfl (load_whole (setRow_heap _ _ _ _ _ _ H5.out.get2) Tryz.underlying37 (by kernel_rfl) (by kernel_rfl)) rfl rfl) rfl ?_
    exact HMF.out ⟨A2, c2, FA2, fn2, fc2, TA2, tc2⟩ _ (HS5.out.other H5.out.get2 (by decide) (by decide) _) HF5.out ((H5.out.row 2 _ _ rfl).below)
  by_cases hk3 : dk = 3
  · subst hk3
    have HC := Lib.hid (fun W (hw : Below w.heap.size w W) => rabort_any s p hb (by omega) dt W (h.below hw))
    have hx : Tx.doS s ⟨3, dt, dn_⟩ = ((Tx.abortS s dt).1, 0, (Tx.abortS s dt).2) := rfl
    generalize Tx.abortS s dt = y at HC hx
    have HMF := Lib.hid (fun (p' : SP) w' hs hf hb => HM.out _ p' w' hx hs hf hb)
    clear h hb hts hnx0 hnx1 _hlf HM hx HS
    obtain ⟨⟨zl2, zp2, zf2, ⟨L2, lf2, dn2⟩, ⟨fr2, ln2, en2, sf2, tl2⟩, hd2, ts2, nx2⟩, e2⟩ := y
    obtain ⟨zl, zp, zf, ⟨L, lf, dn⟩, ⟨fr, ln, en, sf, tl⟩, hd, ts, nx⟩ := s
    obtain ⟨A, c, FA, fn, fc, TA, tc⟩ := p
    dsimp only [storeV] at HC HMF ⊢
    go_enter Tryz.func9, Tryz.ntmps9
    go_upto_region 1 with fail
    have H0 := Lib.hid (show BxL w.heap.size w [(#[.int .i64 zl, .int .i64 zp, .int .i64 zf, .slice A L.length c, .int .i64 lf, .bool dn, .int .i64 fr, .int .i64 ln, .int .i64 en, .int .i64 sf, .string tl, .slice FA fn fc, .int .i64 hd, .slice TA ts.length tc, .int .i64 nx], 37), (#[.int .i64 3, .int .i64 dt, .int .i64 dn_], 43), (#[.int .i64 0, .int .i64 0, .int .i64 0, .slice none 0 0, .int .i64 0, .bool false, .int .i64 0, .int .i64 0, .int .i64 0, .int .i64 0, .string ⟨#[]⟩, .slice none 0 0, .int .i64 0, .slice none 0 0, .int .i64 0], 37)] (((w.alloc (.cells #[.int .i64 zl, .int .i64 zp, .int .i64 zf, .slice A L.length c, .int .i64 lf, .bool dn, .int .i64 fr, .int .i64 ln, .int .i64 en, .int .i64 sf, .string tl, .slice FA fn fc, .int .i64 hd, .slice TA ts.length tc, .int .i64 nx] 37)).alloc (.cells #[.int .i64 3, .int .i64 dt, .int .i64 dn_] 43)).alloc (.cells #[.int .i64 0, .int .i64 0, .int .i64 0, .slice none 0 0, .int .i64 0, .bool false, .int .i64 0, .int .i64 0, .int .i64 0, .int .i64 0, .string ⟨#[]⟩, .slice none 0 0, .int .i64 0, .slice none 0 0, .int .i64 0] 37)) from ((((BxL.nil (Below.refl w.heap.size w)).new (by simp) #[.int .i64 zl, .int .i64 zp, .int .i64 zf, .slice A L.length c, .int .i64 lf, .bool dn, .int .i64 fr, .int .i64 ln, .int .i64 en, .int .i64 sf, .string tl, .slice FA fn fc, .int .i64 hd, .slice TA ts.length tc, .int .i64 nx] 37).new (by simp) #[.int .i64 3, .int .i64 dt, .int .i64 dn_] 43).new (by simp) #[.int .i64 0, .int .i64 0, .int .i64 0, .slice none 0 0, .int .i64 0, .bool false, .int .i64 0, .int .i64 0, .int .i64 0, .int .i64 0, .string ⟨#[]⟩, .slice none 0 0, .int .i64 0, .slice none 0 0, .int .i64 0] 37))
    obtain ⟨W0, hW0⟩ : ∃ W, W = (((w.alloc (.cells #[.int .i64 zl, .int .i64 zp, .int .i64 zf, .slice A L.length c, .int .i64 lf, .bool dn, .int .i64 fr, .int .i64 ln, .int .i64 en, .int .i64 sf, .string tl, .slice FA fn fc, .int .i64 hd, .slice TA ts.length tc, .int .i64 nx] 37)).alloc (.cells #[.int .i64 3, .int .i64 dt, .int .i64 dn_] 43)).alloc (.cells #[.int .i64 0, .int .i64 0, .int .i64 0, .slice none 0 0, .int .i64 0, .bool false, .int .i64 0, .int .i64 0, .int .i64 0, .int .i64 0, .string ⟨#[]⟩, .slice none 0 0, .int .i64 0, .slice none 0 0, .int .i64 0] 37)) := ⟨_, rfl⟩
    rw [← hW0] at H0 ⊢
    clear hW0
    have hc0 := blkCell H0.out.get1
    go_upto_region 12 with (first
      | (with_reducible refine listLoad (by kernel_rfl) 37 (.tmp 2) rfl w.heap.size rfl #[.int .i64 zl, .int .i64 zp, .int .i64 zf, .slice A L.length c, .int .i64 lf, .bool dn, .int .i64 fr, .int .i64 ln, .int .i64 en, .int .i64 sf, .string tl, .slice FA fn fc, .int .i64 hd, .slice TA ts.length tc, .int .i64 nx] _ H0.out.get0 _ Tryz.underlying37 (by kernel_rfl) (by kernel_rfl) ?_)
      | (go_at_call 32; (with_reducible refine (HC.out _ H0.out.below).mono ?_); rintro e w5 ⟨p', he, hs5, hf5, hb5⟩; have HF5 := Lib.hid hf5; clear hf5; obtain ⟨A2, c2, FA2, fn2, fc2, TA2, tc2⟩ := p'; (try dsimp only [storeV] at he); subst he)
      | (with_reducible refine wpList_store_new rfl 37 (.tmp 11) (.tmp 55) rfl #[.int .i64 zl2, .int .i64 zp2, .int .i64 zf2, .slice A2 L2.length c2, .int .i64 lf2, .bool dn2, .int .i64 fr2, .int .i64 ln2, .int .i64 en2, .int .i64 sf2, .string tl2, .slice FA2 fn2 fc2, .int .i64 hd2, .slice TA2 ts2.length tc2, .int .i64 nx2] _ _ rfl (by kernel_rfl) (by kernel_rfl) (by kernel_rfl) (by kernel_rfl) ?_))
    have H5 := Lib.hid (H0.out.step (pastAlloc (o := .cells #[.int .i64 zl2, .int .i64 zp2, .int .i64 zf2, .slice A2 L2.length c2, .int .i64 lf2, .bool dn2, .int .i64 fr2, .int .i64 ln2, .int .i64 en2, .int .i64 sf2, .string tl2, .slice FA2 fn2 fc2, .int .i64 hd2, .slice TA2 ts2.length tc2, .int .i64 nx2] 37) hb5))
    have HG := Lib.hid (heap_alloc_new w5 (.cells #[.int .i64 zl2, .int .i64 zp2, .int .i64 zf2, .slice A2 L2.length c2, .int .i64 lf2, .bool dn2, .int .i64 fr2, .int .i64 ln2, .int .i64 en2, .int .i64 sf2, .string tl2, .slice FA2 fn2 fc2, .int .i64 hd2, .slice TA2 ts2.length tc2, .int .i64 nx2] 37))
    have HS5 := Lib.hid (hs5.below (allocB w5 (.cells #[.int .i64 zl2, .int .i64 zp2, .int .i64 zf2, .slice A2 L2.length c2, .int .i64 lf2, .bool dn2, .int .i64 fr2, .int .i64 ln2, .int .i64 en2, .int .i64 sf2, .string tl2, .slice FA2 fn2 fc2, .int .i64 hd2, .slice TA2 ts2.length tc2, .int .i64 nx2] 37)))
    obtain ⟨gb, hge⟩ : ∃ gb, gb = w5.heap.size := ⟨_, rfl⟩
    obtain ⟨W5, hW5⟩ : ∃ W, W = w5.alloc (.cells #[.int .i64 zl2, .int .i64 zp2, .int .i64 zf2, .slice A2 L2.length c2, .int .i64 lf2, .bool dn2, .int .i64 fr2, .int .i64 ln2, .int .i64 en2, .int .i64 sf2, .string tl2, .slice FA2 fn2 fc2, .int .i64 hd2, .slice TA2 ts2.length tc2, .int .i64 nx2] 37) := ⟨_, rfl⟩
    rw [← hge] at HG
    rw [← hW5] at H5 HG HS5
    rw [← hW5, ← hge]
    clear hge hW5 hb5 hs5 H0 hc0 HC
    go_wp2_with (first
      | (with_reducible refine listLoad (by kernel_rfl) 37 (.tmp 11) rfl gb rfl #[.int .i64 zl2, .int .i64 zp2, .int .i64 zf2, .slice A2 L2.length c2, .int .i64 lf2, .bool dn2, .int .i64 fr2, .int .i64 ln2, .int .i64 en2, .int .i64 sf2, .string tl2, .slice FA2 fn2 fc2, .int .i64 hd2, .slice TA2 ts2.length tc2, .int .i64 nx2] _ HG.out _ Tryz.underlying37 (by kernel_rfl) (by kernel_rfl) ?_)
      | (with_reducible refine listStore (by kernel_rfl) 37 (.tmp 4) (.tmp 57) rfl (w.heap.size + 2) #[.int .i64 zl2, .int .i64 zp2, .int .i64 zf2, .slice A2 L2.length c2, .int .i64 lf2, .bool dn2, .int .i64 fr2, .int .i64 ln2, .int .i64 en2, .int .i64 sf2, .string tl2, .slice FA2 fn2 fc2, .int .i64 hd2, .slice TA2 ts2.length tc2, .int .i64 nx2] _ _ rfl rfl H5.out.get2 (by kernel_rfl) (by kernel_rfl) (by kernel_rfl) ?_))
    refine bodyPost_ret (v := .tuple #[.agg #[.int .i64 zl2, .int .i64 zp2, .int .i64 zf2, .slice A2 L2.length c2, .int .i64 lf2, .bool dn2, .int .i64 fr2, .int .i64 ln2, .int .i64 en2, .int .i64 sf2, .string tl2, .slice FA2 fn2 fc2, .int .i64 hd2, .slice TA2 ts2.length tc2, .int .i64 nx2], .int .i64 0, .int .i64 e2]) (results_cell3 rfl _ _ rfl (load_whole (setRow_heap _ _ _ _ _ _ H5.out.get2) Tryz.underlying37 (by kernel_rfl) (by kernel_rfl)) rfl rfl) rfl ?_
    exact HMF.out ⟨A2, c2, FA2, fn2, fc2, TA2, tc2⟩ _ (HS5.out.other H5.out.get2 (by decide) (by decide) _) HF5.out ((H5.out.row 2 _ _ rfl).below)
  by_cases hk4 : dk = 4
  · subst hk4
    have HC := Lib.hid (fun W (hw : Below w.heap.size w W) => rend_any s p hb (by omega) dt W (h.below hw))
    have hx : Tx.doS s ⟨4, dt, dn_⟩ = ((Tx.endS s dt).1, 0, (Tx.endS s dt).2) := rfl
    generalize Tx.endS s dt = y at HC hx
    have HMF := Lib.hid (fun (p' : SP) w' hs hf hb => HM.out _ p' w' hx hs hf hb)
    clear h hb hts hnx0 hnx1 _hlf HM hx HS
    obtain ⟨⟨zl2, zp2, zf2, ⟨L2, lf2, dn2⟩, ⟨fr2, ln2, en2, sf2, tl2⟩, hd2, ts2, nx2⟩, e2⟩ := y
    obtain ⟨zl, zp, zf, ⟨L, lf, dn⟩, ⟨fr, ln, en, sf, tl⟩, hd, ts, nx⟩ := s
    obtain ⟨A, c, FA, fn, fc, TA, tc⟩ := p
    dsimp only [storeV] at HC HMF ⊢
    go_enter Tryz.func9, Tryz.ntmps9
    go_upto_region 1 with fail
    have H0 := Lib.hid (show BxL w.heap.size w [(#[.int .i64 zl, .int .i64 zp, .int .i64 zf, .slice A L.length c, .int .i64 lf, .bool dn, .int .i64 fr, .int .i64 ln, .int .i64 en, .int .i64 sf, .string tl, .slice FA fn fc, .int .i64 hd, .slice TA ts.length tc, .int .i64 nx], 37), (#[.int .i64 4, .int .i64 dt, .int .i64 dn_], 43), (#[.int .i64 0, .int .i64 0, .int .i64 0, .slice none 0 0, .int .i64 0, .bool false, .int .i64 0, .int .i64 0, .int .i64 0, .int .i64 0, .string ⟨#[]⟩, .slice none 0 0, .int .i64 0, .slice none 0 0, .int .i64 0], 37)] (((w.alloc (.cells #[.int .i64 zl, .int .i64 zp, .int .i64 zf, .slice A L.length c, .int .i64 lf, .bool dn, .int .i64 fr, .int .i64 ln, .int .i64 en, .int .i64 sf, .string tl, .slice FA fn fc, .int .i64 hd, .slice TA ts.length tc, .int .i64 nx] 37)).alloc (.cells #[.int .i64 4, .int .i64 dt, .int .i64 dn_] 43)).alloc (.cells #[.int .i64 0, .int .i64 0, .int .i64 0, .slice none 0 0, .int .i64 0, .bool false, .int .i64 0, .int .i64 0, .int .i64 0, .int .i64 0, .string ⟨#[]⟩, .slice none 0 0, .int .i64 0, .slice none 0 0, .int .i64 0] 37)) from ((((BxL.nil (Below.refl w.heap.size w)).new (by simp) #[.int .i64 zl, .int .i64 zp, .int .i64 zf, .slice A L.length c, .int .i64 lf, .bool dn, .int .i64 fr, .int .i64 ln, .int .i64 en, .int .i64 sf, .string tl, .slice FA fn fc, .int .i64 hd, .slice TA ts.length tc, .int .i64 nx] 37).new (by simp) #[.int .i64 4, .int .i64 dt, .int .i64 dn_] 43).new (by simp) #[.int .i64 0, .int .i64 0, .int .i64 0, .slice none 0 0, .int .i64 0, .bool false, .int .i64 0, .int .i64 0, .int .i64 0, .int .i64 0, .string ⟨#[]⟩, .slice none 0 0, .int .i64 0, .slice none 0 0, .int .i64 0] 37))
    obtain ⟨W0, hW0⟩ : ∃ W, W = (((w.alloc (.cells #[.int .i64 zl, .int .i64 zp, .int .i64 zf, .slice A L.length c, .int .i64 lf, .bool dn, .int .i64 fr, .int .i64 ln, .int .i64 en, .int .i64 sf, .string tl, .slice FA fn fc, .int .i64 hd, .slice TA ts.length tc, .int .i64 nx] 37)).alloc (.cells #[.int .i64 4, .int .i64 dt, .int .i64 dn_] 43)).alloc (.cells #[.int .i64 0, .int .i64 0, .int .i64 0, .slice none 0 0, .int .i64 0, .bool false, .int .i64 0, .int .i64 0, .int .i64 0, .int .i64 0, .string ⟨#[]⟩, .slice none 0 0, .int .i64 0, .slice none 0 0, .int .i64 0] 37)) := ⟨_, rfl⟩
    rw [← hW0] at H0 ⊢
    clear hW0
    have hc0 := blkCell H0.out.get1
    go_upto_region 15 with (first
      | (with_reducible refine listLoad (by kernel_rfl) 37 (.tmp 2) rfl w.heap.size rfl #[.int .i64 zl, .int .i64 zp, .int .i64 zf, .slice A L.length c, .int .i64 lf, .bool dn, .int .i64 fr, .int .i64 ln, .int .i64 en, .int .i64 sf, .string tl, .slice FA fn fc, .int .i64 hd, .slice TA ts.length tc, .int .i64 nx] _ H0.out.get0 _ Tryz.underlying37 (by kernel_rfl) (by kernel_rfl) ?_)
      | (go_at_call 33; (with_reducible refine (HC.out _ H0.out.below).mono ?_); rintro e w5 ⟨p', he, hs5, hf5, hb5⟩; have HF5 := Lib.hid hf5; clear hf5; obtain ⟨A2, c2, FA2, fn2, fc2, TA2, tc2⟩ := p'; (try dsimp only [storeV] at he); subst he)
      | (with_reducible refine wpList_store_new rfl 37 (.tmp 13) (.tmp 66) rfl #[.int .i64 zl2, .int .i64 zp2, .int .i64 zf2, .slice A2 L2.length c2, .int .i64 lf2, .bool dn2, .int .i64 fr2, .int .i64 ln2, .int .i64 en2, .int .i64 sf2, .string tl2, .slice FA2 fn2 fc2, .int .i64 hd2, .slice TA2 ts2.length tc2, .int .i64 nx2] _ _ rfl (by kernel_rfl) (by kernel_rfl) (by kernel_rfl) (by kernel_rfl) ?_))
    have H5 := Lib.hid (H0.out.step (pastAlloc (o := .cells #[.int .i64 zl2, .int .i64 zp2, .int .i64 zf2, .slice A2 L2.length c2, .int .i64 lf2, .bool dn2, .int .i64 fr2, .int .i64 ln2, .int .i64 en2, .int .i64 sf2, .string tl2, .slice FA2 fn2 fc2, .int .i64 hd2, .slice TA2 ts2.length tc2, .int .i64 nx2] 37) hb5))
    have HG := Lib.hid (heap_alloc_new w5 (.cells #[.int .i64 zl2, .int .i64 zp2, .int .i64 zf2, .slice A2 L2.length c2, .int .i64 lf2, .bool dn2, .int .i64 fr2, .int .i64 ln2, .int .i64 en2, .int .i64 sf2, .string tl2, .slice FA2 fn2 fc2, .int .i64 hd2, .slice TA2 ts2.length tc2, .int .i64 nx2] 37))
    have HS5 := Lib.hid (hs5.below (allocB w5 (.cells #[.int .i64 zl2, .int .i64 zp2, .int .i64 zf2, .slice A2 L2.length c2, .int .i64 lf2, .bool dn2, .int .i64 fr2, .int .i64 ln2, .int .i64 en2, .int .i64 sf2, .string tl2, .slice FA2 fn2 fc2, .int .i64 hd2, .slice TA2 ts2.length tc2, .int .i64 nx2] 37)))
    obtain ⟨gb, hge⟩ : ∃ gb, gb = w5.heap.size := ⟨_, rfl⟩
    obtain ⟨W5, hW5⟩ : ∃ W, W = w5.alloc (.cells #[.int .i64 zl2, .int .i64 zp2, .int .i64 zf2, .slice A2 L2.length c2, .int .i64 lf2, .bool dn2, .int .i64 fr2, .int .i64 ln2, .int .i64 en2, .int .i64 sf2, .string tl2, .slice FA2 fn2 fc2, .int .i64 hd2, .slice TA2 ts2.length tc2, .int .i64 nx2] 37) := ⟨_, rfl⟩
    rw [← hge] at HG
    rw [← hW5] at H5 HG HS5
    rw [← hW5, ← hge]
    clear hge hW5 hb5 hs5 H0 hc0 HC
    go_wp2_with (first
      | (with_reducible refine listLoad (by kernel_rfl) 37 (.tmp 13) rfl gb rfl #[.int .i64 zl2, .int .i64 zp2, .int .i64 zf2, .slice A2 L2.length c2, .int .i64 lf2, .bool dn2, .int .i64 fr2, .int .i64 ln2, .int .i64 en2, .int .i64 sf2, .string tl2, .slice FA2 fn2 fc2, .int .i64 hd2, .slice TA2 ts2.length tc2, .int .i64 nx2] _ HG.out _ Tryz.underlying37 (by kernel_rfl) (by kernel_rfl) ?_)
      | (with_reducible refine listStore (by kernel_rfl) 37 (.tmp 4) (.tmp 68) rfl (w.heap.size + 2) #[.int .i64 zl2, .int .i64 zp2, .int .i64 zf2, .slice A2 L2.length c2, .int .i64 lf2, .bool dn2, .int .i64 fr2, .int .i64 ln2, .int .i64 en2, .int .i64 sf2, .string tl2, .slice FA2 fn2 fc2, .int .i64 hd2, .slice TA2 ts2.length tc2, .int .i64 nx2] _ _ rfl rfl H5.out.get2 (by kernel_rfl) (by kernel_rfl) (by kernel_rfl) ?_))
    refine bodyPost_ret (v := .tuple #[.agg #[.int .i64 zl2, .int .i64 zp2, .int .i64 zf2, .slice A2 L2.length c2, .int .i64 lf2, .bool dn2, .int .i64 fr2, .int .i64 ln2, .int .i64 en2, .int .i64 sf2, .string tl2, .slice FA2 fn2 fc2, .int .i64 hd2, .slice TA2 ts2.length tc2, .int .i64 nx2], .int .i64 0, .int .i64 e2]) (results_cell3 rfl _ _ rfl (load_whole (setRow_heap _ _ _ _ _ _ H5.out.get2) Tryz.underlying37 (by kernel_rfl) (by kernel_rfl)) rfl rfl) rfl ?_
    exact HMF.out ⟨A2, c2, FA2, fn2, fc2, TA2, tc2⟩ _ (HS5.out.other H5.out.get2 (by decide) (by decide) _) HF5.out ((H5.out.row 2 _ _ rfl).below)
  by_cases hk5 : dk = 5
  · subst hk5
    have HC := Lib.hid (fun W => arm_any s.disk p.A p.c dn_ W)
    have hx : Tx.doS s ⟨5, dt, dn_⟩ = ({ s with disk := Lg.armD s.disk dn_ }, 0, 0) := rfl
    have ha : (Lg.armD s.disk dn_).sectors = s.disk.sectors ∧ (Lg.armD s.disk dn_).down = s.disk.down := ⟨rfl, rfl⟩
    have HMF := Lib.hid (fun (p' : SP) w' hs hf hb => HM.out _ p' w' hx hs hf hb)
    clear hb hts hnx0 hnx1 _hlf HM hx h
    obtain ⟨zl, zp, zf, ⟨L, lf, dn⟩, ⟨fr, ln, en, sf, tl⟩, hd, ts, nx⟩ := s
    obtain ⟨A, c, FA, fn, fc, TA, tc⟩ := p
    generalize hda : Lg.armD ⟨L, lf, dn⟩ dn_ = da at HC HMF ha
    obtain ⟨L2, lf2, dn2⟩ := da
    simp only at ha
    obtain ⟨rfl, rfl⟩ := ha
    clear hda
    dsimp only [storeV, diskV] at HC HMF ⊢
    go_enter Tryz.func9, Tryz.ntmps9
    go_upto_region 1 with fail
    have H0 := Lib.hid (show BxL w.heap.size w [(#[.int .i64 zl, .int .i64 zp, .int .i64 zf, .slice A L2.length c, .int .i64 lf, .bool dn2, .int .i64 fr, .int .i64 ln, .int .i64 en, .int .i64 sf, .string tl, .slice FA fn fc, .int .i64 hd, .slice TA ts.length tc, .int .i64 nx], 37), (#[.int .i64 5, .int .i64 dt, .int .i64 dn_], 43), (#[.int .i64 0, .int .i64 0, .int .i64 0, .slice none 0 0, .int .i64 0, .bool false, .int .i64 0, .int .i64 0, .int .i64 0, .int .i64 0, .string ⟨#[]⟩, .slice none 0 0, .int .i64 0, .slice none 0 0, .int .i64 0], 37)] (((w.alloc (.cells #[.int .i64 zl, .int .i64 zp, .int .i64 zf, .slice A L2.length c, .int .i64 lf, .bool dn2, .int .i64 fr, .int .i64 ln, .int .i64 en, .int .i64 sf, .string tl, .slice FA fn fc, .int .i64 hd, .slice TA ts.length tc, .int .i64 nx] 37)).alloc (.cells #[.int .i64 5, .int .i64 dt, .int .i64 dn_] 43)).alloc (.cells #[.int .i64 0, .int .i64 0, .int .i64 0, .slice none 0 0, .int .i64 0, .bool false, .int .i64 0, .int .i64 0, .int .i64 0, .int .i64 0, .string ⟨#[]⟩, .slice none 0 0, .int .i64 0, .slice none 0 0, .int .i64 0] 37)) from ((((BxL.nil (Below.refl w.heap.size w)).new (by simp) #[.int .i64 zl, .int .i64 zp, .int .i64 zf, .slice A L2.length c, .int .i64 lf, .bool dn2, .int .i64 fr, .int .i64 ln, .int .i64 en, .int .i64 sf, .string tl, .slice FA fn fc, .int .i64 hd, .slice TA ts.length tc, .int .i64 nx] 37).new (by simp) #[.int .i64 5, .int .i64 dt, .int .i64 dn_] 43).new (by simp) #[.int .i64 0, .int .i64 0, .int .i64 0, .slice none 0 0, .int .i64 0, .bool false, .int .i64 0, .int .i64 0, .int .i64 0, .int .i64 0, .string ⟨#[]⟩, .slice none 0 0, .int .i64 0, .slice none 0 0, .int .i64 0] 37))
    obtain ⟨W0, hW0⟩ : ∃ W, W = (((w.alloc (.cells #[.int .i64 zl, .int .i64 zp, .int .i64 zf, .slice A L2.length c, .int .i64 lf, .bool dn2, .int .i64 fr, .int .i64 ln, .int .i64 en, .int .i64 sf, .string tl, .slice FA fn fc, .int .i64 hd, .slice TA ts.length tc, .int .i64 nx] 37)).alloc (.cells #[.int .i64 5, .int .i64 dt, .int .i64 dn_] 43)).alloc (.cells #[.int .i64 0, .int .i64 0, .int .i64 0, .slice none 0 0, .int .i64 0, .bool false, .int .i64 0, .int .i64 0, .int .i64 0, .int .i64 0, .string ⟨#[]⟩, .slice none 0 0, .int .i64 0, .slice none 0 0, .int .i64 0] 37)) := ⟨_, rfl⟩
    rw [← hW0] at H0 ⊢
    clear hW0
    have hc0 := blkCell H0.out.get1
    go_upto_region 18 with (first
      | (with_reducible refine listPart (by kernel_rfl) 29 (.tmp 72) rfl w.heap.size 3 rfl #[.slice A L2.length c, .int .i64 lf, .bool dn2] #[.int .i64 zl, .int .i64 zp, .int .i64 zf, .slice A L2.length c, .int .i64 lf, .bool dn2, .int .i64 fr, .int .i64 ln, .int .i64 en, .int .i64 sf, .string tl, .slice FA fn fc, .int .i64 hd, .slice TA ts.length tc, .int .i64 nx] _ H0.out.get0 (by kernel_rfl) _ Tryz.underlying29 (by kernel_rfl) (by kernel_rfl) ?_)
      | (go_at_call 34; (with_reducible refine (HC.out _).mono ?_); rintro e w5 ⟨rfl, hb5⟩; have H5 := Lib.hid (H0.out.step hb5))
      | (with_reducible refine listPut (by kernel_rfl) 29 (.tmp 77) (.tmp 76) rfl w.heap.size 3 #[.slice A L2.length c, .int .i64 lf2, .bool dn2] #[.int .i64 zl, .int .i64 zp, .int .i64 zf, .slice A L2.length c, .int .i64 lf, .bool dn2, .int .i64 fr, .int .i64 ln, .int .i64 en, .int .i64 sf, .string tl, .slice FA fn fc, .int .i64 hd, .slice TA ts.length tc, .int .i64 nx] #[.int .i64 zl, .int .i64 zp, .int .i64 zf, .slice A L2.length c, .int .i64 lf2, .bool dn2, .int .i64 fr, .int .i64 ln, .int .i64 en, .int .i64 sf, .string tl, .slice FA fn fc, .int .i64 hd, .slice TA ts.length tc, .int .i64 nx] _ rfl rfl H5.out.get0 (by kernel_rfl) (by kernel_rfl) (by kernel_rfl) (by kernel_rfl) ?_))
    have H6 := Lib.hid (H5.out.row 0 #[.int .i64 zl, .int .i64 zp, .int .i64 zf, .slice A L2.length c, .int .i64 lf2, .bool dn2, .int .i64 fr, .int .i64 ln, .int .i64 en, .int .i64 sf, .string tl, .slice FA fn fc, .int .i64 hd, .slice TA ts.length tc, .int .i64 nx] _ rfl)
    simp only [Nat.add_zero] at H6
    obtain ⟨W6, hW6⟩ : ∃ W, W = w5.setRow w.heap.size #[.int .i64 zl, .int .i64 zp, .int .i64 zf, .slice A L2.length c, .int .i64 lf2, .bool dn2, .int .i64 fr, .int .i64 ln, .int .i64 en, .int .i64 sf, .string tl, .slice FA fn fc, .int .i64 hd, .slice TA ts.length tc, .int .i64 nx] := ⟨_, rfl⟩
    rw [← hW6] at H6
    rw [← hW6]
    clear hW6 hb5 H5 H0 hc0 HC
    go_wp2_with (first
      | (with_reducible refine listLoad (by kernel_rfl) 37 (.tmp 2) rfl w.heap.size rfl #[.int .i64 zl, .int .i64 zp, .int .i64 zf, .slice A L2.length c, .int .i64 lf2, .bool dn2, .int .i64 fr, .int .i64 ln, .int .i64 en, .int .i64 sf, .string tl, .slice FA fn fc, .int .i64 hd, .slice TA ts.length tc, .int .i64 nx] _ H6.out.get0 _ Tryz.underlying37 (by kernel_rfl) (by kernel_rfl) ?_)
      | (with_reducible refine listStore (by kernel_rfl) 37 (.tmp 4) (.tmp 78) rfl (w.heap.size + 2) #[.int .i64 zl, .int .i64 zp, .int .i64 zf, .slice A L2.length c, .int .i64 lf2, .bool dn2, .int .i64 fr, .int .i64 ln, .int .i64 en, .int .i64 sf, .string tl, .slice FA fn fc, .int .i64 hd, .slice TA ts.length tc, .int .i64 nx] _ _ rfl rfl H6.out.get2 (by kernel_rfl) (by kernel_rfl) (by kernel_rfl) ?_))
    refine bodyPost_ret (v := .tuple #[.agg #[.int .i64 zl, .int .i64 zp, .int .i64 zf, .slice A L2.length c, .int .i64 lf2, .bool dn2, .int .i64 fr, .int .i64 ln, .int .i64 en, .int .i64 sf, .string tl, .slice FA fn fc, .int .i64 hd, .slice TA ts.length tc, .int .i64 nx], .int .i64 0, .int .i64 0]) (results_cell3 rfl _ _ rfl (load_whole (setRow_heap _ _ _ _ _ _ H6.out.get2) Tryz.underlying37 (by kernel_rfl) (by kernel_rfl)) rfl rfl) rfl ?_
    have hbl := (H6.out.row 2 #[.int .i64 zl, .int .i64 zp, .int .i64 zf, .slice A L2.length c, .int .i64 lf2, .bool dn2, .int .i64 fr, .int .i64 ln, .int .i64 en, .int .i64 sf, .string tl, .slice FA fn fc, .int .i64 hd, .slice TA ts.length tc, .int .i64 nx] _ rfl).below
    have hs9 := HS.out.below hbl
    exact HMF.out ⟨A, c, FA, fn, fc, TA, tc⟩ _ ⟨⟨hs9.dk.secs, hs9.dk.small⟩, hs9.dt, hs9.tx, hs9.tt⟩ ⟨rfl, rfl, rfl⟩ hbl
  have hx : Tx.doS s ⟨dk, dt, dn_⟩ = (s, 0, 0) := by unfold Tx.doS; simp only; rw [if_neg hk0, if_neg hk1, if_neg hk2, if_neg hk3, if_neg hk4, if_neg hk5]
  have HMF := Lib.hid (fun (p' : SP) w' hs hf hb => HM.out _ p' w' hx hs hf hb)
  have hj0 : (dk == 0) = false := by simpa using hk0
  have hj1 : (dk == 1) = false := by simpa using hk1
  have hj2 : (dk == 2) = false := by simpa using hk2
  have hj3 : (dk == 3) = false := by simpa using hk3
  have hj4 : (dk == 4) = false := by simpa using hk4
  have hj5 : (dk == 5) = false := by simpa using hk5
  clear hk0 hk1 hk2 hk3 hk4 hk5 hb hts hnx0 hnx1 _hlf HM hx h
  obtain ⟨zl, zp, zf, ⟨L, lf, dn⟩, ⟨fr, ln, en, sf, tl⟩, hd, ts, nx⟩ := s
  obtain ⟨A, c, FA, fn, fc, TA, tc⟩ := p
  dsimp only [storeV] at HMF ⊢
  go_enter Tryz.func9, Tryz.ntmps9
  go_upto_region 1 with fail
  have H0 := Lib.hid (show BxL w.heap.size w [(#[.int .i64 zl, .int .i64 zp, .int .i64 zf, .slice A L.length c, .int .i64 lf, .bool dn, .int .i64 fr, .int .i64 ln, .int .i64 en, .int .i64 sf, .string tl, .slice FA fn fc, .int .i64 hd, .slice TA ts.length tc, .int .i64 nx], 37), (#[.int .i64 dk, .int .i64 dt, .int .i64 dn_], 43), (#[.int .i64 0, .int .i64 0, .int .i64 0, .slice none 0 0, .int .i64 0, .bool false, .int .i64 0, .int .i64 0, .int .i64 0, .int .i64 0, .string ⟨#[]⟩, .slice none 0 0, .int .i64 0, .slice none 0 0, .int .i64 0], 37)] (((w.alloc (.cells #[.int .i64 zl, .int .i64 zp, .int .i64 zf, .slice A L.length c, .int .i64 lf, .bool dn, .int .i64 fr, .int .i64 ln, .int .i64 en, .int .i64 sf, .string tl, .slice FA fn fc, .int .i64 hd, .slice TA ts.length tc, .int .i64 nx] 37)).alloc (.cells #[.int .i64 dk, .int .i64 dt, .int .i64 dn_] 43)).alloc (.cells #[.int .i64 0, .int .i64 0, .int .i64 0, .slice none 0 0, .int .i64 0, .bool false, .int .i64 0, .int .i64 0, .int .i64 0, .int .i64 0, .string ⟨#[]⟩, .slice none 0 0, .int .i64 0, .slice none 0 0, .int .i64 0] 37)) from ((((BxL.nil (Below.refl w.heap.size w)).new (by simp) #[.int .i64 zl, .int .i64 zp, .int .i64 zf, .slice A L.length c, .int .i64 lf, .bool dn, .int .i64 fr, .int .i64 ln, .int .i64 en, .int .i64 sf, .string tl, .slice FA fn fc, .int .i64 hd, .slice TA ts.length tc, .int .i64 nx] 37).new (by simp) #[.int .i64 dk, .int .i64 dt, .int .i64 dn_] 43).new (by simp) #[.int .i64 0, .int .i64 0, .int .i64 0, .slice none 0 0, .int .i64 0, .bool false, .int .i64 0, .int .i64 0, .int .i64 0, .int .i64 0, .string ⟨#[]⟩, .slice none 0 0, .int .i64 0, .slice none 0 0, .int .i64 0] 37))
  obtain ⟨W0, hW0⟩ : ∃ W, W = (((w.alloc (.cells #[.int .i64 zl, .int .i64 zp, .int .i64 zf, .slice A L.length c, .int .i64 lf, .bool dn, .int .i64 fr, .int .i64 ln, .int .i64 en, .int .i64 sf, .string tl, .slice FA fn fc, .int .i64 hd, .slice TA ts.length tc, .int .i64 nx] 37)).alloc (.cells #[.int .i64 dk, .int .i64 dt, .int .i64 dn_] 43)).alloc (.cells #[.int .i64 0, .int .i64 0, .int .i64 0, .slice none 0 0, .int .i64 0, .bool false, .int .i64 0, .int .i64 0, .int .i64 0, .int .i64 0, .string ⟨#[]⟩, .slice none 0 0, .int .i64 0, .slice none 0 0, .int .i64 0] 37)) := ⟨_, rfl⟩
  rw [← hW0] at H0 ⊢
  clear hW0
  have hc0 := blkCell H0.out.get1
  go_wp2_with (first
    | (with_reducible refine listLoad (by kernel_rfl) 37 (.tmp 2) rfl w.heap.size rfl #[.int .i64 zl, .int .i64 zp, .int .i64 zf, .slice A L.length c, .int .i64 lf, .bool dn, .int .i64 fr, .int .i64 ln, .int .i64 en, .int .i64 sf, .string tl, .slice FA fn fc, .int .i64 hd, .slice TA ts.length tc, .int .i64 nx] _ H0.out.get0 _ Tryz.underlying37 (by kernel_rfl) (by kernel_rfl) ?_)
    | (with_reducible refine listStore (by kernel_rfl) 37 (.tmp 4) (.tmp 78) rfl (w.heap.size + 2) #[.int .i64 zl, .int .i64 zp, .int .i64 zf, .slice A L.length c, .int .i64 lf, .bool dn, .int .i64 fr, .int .i64 ln, .int .i64 en, .int .i64 sf, .string tl, .slice FA fn fc, .int .i64 hd, .slice TA ts.length tc, .int .i64 nx] _ _ rfl rfl H0.out.get2 (by kernel_rfl) (by kernel_rfl) (by kernel_rfl) ?_))
  refine bodyPost_ret (v := .tuple #[.agg #[.int .i64 zl, .int .i64 zp, .int .i64 zf, .slice A L.length c, .int .i64 lf, .bool dn, .int .i64 fr, .int .i64 ln, .int .i64 en, .int .i64 sf, .string tl, .slice FA fn fc, .int .i64 hd, .slice TA ts.length tc, .int .i64 nx], .int .i64 0, .int .i64 0]) (results_cell3 rfl _ _ rfl (load_whole (setRow_heap _ _ _ _ _ _ H0.out.get2) Tryz.underlying37 (by kernel_rfl) (by kernel_rfl)) rfl rfl) rfl ?_
  have hbl := (H0.out.row 2 #[.int .i64 zl, .int .i64 zp, .int .i64 zf, .slice A L.length c, .int .i64 lf, .bool dn, .int .i64 fr, .int .i64 ln, .int .i64 en, .int .i64 sf, .string tl, .slice FA fn fc, .int .i64 hd, .slice TA ts.length tc, .int .i64 nx] _ rfl).below
  exact HMF.out ⟨A, c, FA, fn, fc, TA, tc⟩ _ (HS.out.below hbl) ⟨rfl, rfl, rfl⟩ hbl
end Go.Proofs.YthfglhafphfhiaaGreat
/- The walks over the references of disk and log: Is, Read, first. -/
namespace Go.Proofs.YthfglhafphfhiaaGreat
open Go.RowKit
set_option maxRecDepth 100000 in
theorem ris_any (d : Lg.Dk) (A : Option Addr) (c : Nat) (a : Int) (w : World) :
    Calls Tryz.prog 75 #[diskV d A c, .int .i64 a] w fun e w' => e = .returned (.bool (decide (Lg.hasD d a))) ∧ Below w.heap.size w w' := by
  obtain ⟨L, left, down⟩ := d
  by_cases h0 : 0 ≤ a
  · by_cases h1 : a < (L.length : Int)
    · rw [decide_eq_true (show Lg.hasD ⟨L, left, down⟩ a from And.intro h0 h1)]
      go_enter Tryz.func75, Tryz.ntmps75
      go_wp2_with fail
      go_ret
      exact ⟨by simp, allocB _ _⟩
    · rw [decide_eq_false (show ¬ Lg.hasD ⟨L, left, down⟩ a from fun h => h1 h.2)]
      go_enter Tryz.func75, Tryz.ntmps75
      go_wp2_with fail
      go_ret
      exact ⟨by simp, allocB _ _⟩
  · rw [decide_eq_false (show ¬ Lg.hasD ⟨L, left, down⟩ a from fun h => h0 h.1)]
    go_enter Tryz.func75, Tryz.ntmps75
    go_wp2_with fail
    go_ret
    exact ⟨by simp, allocB _ _⟩
set_option maxRecDepth 100000 in
theorem rfirst_any (f n e s : Int) (t : ByteArray) (hs0 : 0 ≤ s) (hs : s ≤ 1000000000) (w : World) :
    Calls Tryz.prog 86 #[.agg #[.int .i64 f, .int .i64 n, .int .i64 e, .int .i64 s, .string t]] w fun x w' => x = .returned (.int .i64 (s / 128)) ∧ Below w.heap.size w w' := by
  have hq : s.tdiv 128 = s / 128 := Int.tdiv_eq_ediv_of_nonneg hs0
  have hwq : IntKind.i64.wrap (s / 128) = s / 128 := IntWalk.i64_in _ (by omega)
  have hwq2 : IntKind.i64.wrap (s.tdiv 128) = s / 128 := by rw [hq]; exact hwq
  go_enter Tryz.func86, Tryz.ntmps86
  go_wp2_with fail
  go_ret
  exact ⟨by simp, allocB _ _⟩
end Go.Proofs.YthfglhafphfhiaaGreat
